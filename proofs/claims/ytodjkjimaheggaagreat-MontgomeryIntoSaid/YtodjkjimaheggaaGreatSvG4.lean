/- Texts of the evaluator, of the logic over it, of plain arithmetic. -/
import Derived.Test.YtodjkjimaheggaaGreatSvG3
namespace Go.Sv
noncomputable def secR (bs:List Bf) (m:List Bool) (o:Lo):Bool:=if o.kind=16 then false else if o.kind=14 then (gbf bs o.buf.toNat).sec else (takesR o).any (madeR m)
noncomputable def mkS (bs:List Bf) (o:Lo):List Int→List Bool×Bool→List Bool×Bool
 | [],s=>s
 | r::rs,s=>mkS bs o rs (if (!madeR s.1 r && secR bs s.1 o)=true then (s.1.set r.toNat true,true) else s)
noncomputable def passS (bs:List Bf):List Lo→List Bool×Bool→List Bool×Bool
 | [],s=>s
 | o::os,s=>passS bs os (mkS bs o (makesR o) s)
noncomputable def fixS (bs:List Bf) (os:List Lo):Nat→List Bool→List Bool
 | 0,m=>m
 | n+1,m=>if (passS bs os (m,false)).2=true then fixS bs os n (passS bs os (m,false)).1 else (passS bs os (m,false)).1
def cntF (m:List Bool):Nat:=m.countP (fun b=>!b)
theorem cntF_set {m:List Bool} {n:Nat} (h:n < m.length) (k:m.getD n false=false):cntF (m.set n true)+1=cntF m:=by
 induction m generalizing n with
 | nil=>simp at h
 | cons b m ih =>
  cases n with
  | zero=>simp at k; subst k; simp[cntF]
  | succ n =>
   have:=ih (n:=n) (by simpa using h) (by simpa using k)
   simp only[cntF,List.set_cons_succ,List.countP_cons] at *
   omega
theorem mkS_len (bs:List Bf) (o:Lo):∀ (l:List Int) (s:List Bool×Bool),(mkS bs o l s).1.length=s.1.length
 | [],_=>rfl
 | r::l,s=>by rw[mkS,mkS_len bs o l]; split <;> simp
theorem passS_len (bs:List Bf):∀ (os:List Lo) (s:List Bool×Bool),(passS bs os s).1.length=s.1.length
 | [],_=>rfl
 | o::os,s=>by rw[passS,passS_len bs os,mkS_len]
def Dn (s s':List Bool×Bool):Prop:=cntF s'.1≤cntF s.1∧(s'.2=true→s.2=true∨cntF s'.1 < cntF s.1)
theorem Dn.trans {s s' s'':List Bool×Bool} (h:Dn s s') (k:Dn s' s''):Dn s s'':=by
 refine⟨by have:=h.1; have:=k.1; omega,fun h2=>?_⟩
 rcases k.2 h2 with q | q
 ·rcases h.2 q with q | q
  ·exact .inl q
  ·have:=k.1; exact .inr (by omega)
 ·have:=h.1; exact .inr (by omega)
theorem mkS_dn (bs:List Bf) (o:Lo):∀ (l:List Int) (s:List Bool×Bool),(∀ x∈l,0≤x∧x < s.1.length)→Dn s (mkS bs o l s)
 | [],s,_=>⟨Nat.le_refl _,fun h=>.inl h⟩
 | r::l,s,h=>by
  rw[mkS]
  obtain⟨h0,h1⟩:=h r (List.mem_cons_self ..)
  split
  ·rename_i hc
   simp only[Bool.and_eq_true,Bool.not_eq_true'] at hc
   have h2:=cntF_set (m:=s.1) (n:=r.toNat) (by omega) hc.1
   refine Dn.trans (s':=(s.1.set r.toNat true,true)) ⟨by simp only; omega,fun _=>.inr (by simp only; omega)⟩ (mkS_dn bs o l _ fun x hx=>?_)
   simpa using h x (List.mem_cons_of_mem _ hx)
  ·exact mkS_dn bs o l _ fun x hx=>h x (List.mem_cons_of_mem _ hx)
theorem passS_dn (bs:List Bf):∀ (os:List Lo) (s:List Bool×Bool),(∀ o∈os,∀ x∈makesR o,0≤x∧x < s.1.length)→Dn s (passS bs os s)
 | [],s,_=>⟨Nat.le_refl _,fun h=>.inl h⟩
 | o::os,s,h=>by
  rw[passS]
  refine Dn.trans (mkS_dn bs o _ s fun x hx=>h o (List.mem_cons_self ..) x hx) (passS_dn bs os _ fun p hp x hx=>?_)
  rw[mkS_len]; exact h p (List.mem_cons_of_mem _ hp) x hx
def Sub (m:List Bool) (C:Int→Bool):Prop:=∀ x,0≤x→madeR m x=true→C x=true
noncomputable def secC (bs:List Bf) (C:Int→Bool) (o:Lo):Bool:=if o.kind=16 then false else if o.kind=14 then (gbf bs o.buf.toNat).sec else (takesR o).any C
def Closed (bs:List Bf) (C:Int→Bool) (os:List Lo):Prop:=∀ o∈os,secC bs C o=true→∀ x∈makesR o,C x=true
theorem Sub.sec {bs:List Bf} {m:List Bool} {C:Int→Bool} {o:Lo} (h:Sub m C) (ht:∀ x∈takesR o,0≤x) (k:secR bs m o=true):secC bs C o=true:=by
 unfold secR at k; unfold secC
 split
 ·rename_i q; rw[if_pos q] at k; exact k
 ·rename_i q; rw[if_neg q] at k
  split
  ·rename_i q; rw[if_pos q] at k; exact k
  ·rename_i q; rw[if_neg q,List.any_eq_true] at k
   obtain⟨x,hx,hk⟩:=k
   exact List.any_eq_true.2 ⟨x,hx,h x (ht x hx) hk⟩
theorem Sub.set {m:List Bool} {C:Int→Bool} {r:Int} (h:Sub m C) (h0:0≤r) (k:C r=true):Sub (m.set r.toNat true) C:=fun x hx hm=>by
 by_cases e:x=r
 ·rw[e]; exact k
 ·refine h x hx ?_
  unfold madeR at hm ⊢
  rw[List.getD_eq_getElem?_getD,List.getElem?_set_ne (by omega)] at hm
  rw[List.getD_eq_getElem?_getD]; exact hm
theorem mkS_sub {bs:List Bf} {C:Int→Bool} {o:Lo} (ht:∀ x∈takesR o,0≤x) (hc:secC bs C o=true→∀ x∈makesR o,C x=true):∀ (l:List Int) (s:List Bool×Bool),(∀ x∈l,x∈makesR o∧0≤x)→Sub s.1 C→Sub (mkS bs o l s).1 C
 | [],_,_,h=>h
 | r::l,s,hl,h=>by
  rw[mkS]
  refine mkS_sub ht hc l _ (fun x hx=>hl x (List.mem_cons_of_mem _ hx)) ?_
  split
  ·rename_i q
   simp only[Bool.and_eq_true] at q
   obtain⟨h1,h2⟩:=hl r (List.mem_cons_self ..)
   exact h.set h2 (hc (h.sec ht q.2) r h1)
  ·exact h
theorem passS_sub {bs:List Bf} {C:Int→Bool}:∀ (os:List Lo) (s:List Bool×Bool),(∀ o∈os,∀ x∈takesR o,0≤x)→(∀ o∈os,∀ x∈makesR o,0≤x)→Closed bs C os→Sub s.1 C→Sub (passS bs os s).1 C
 | [],_,_,_,_,h=>h
 | o::os,s,ht,hm,hc,h=>by
  rw[passS]
  exact passS_sub os _ (fun p hp=>ht p (List.mem_cons_of_mem _ hp)) (fun p hp=>hm p (List.mem_cons_of_mem _ hp)) (fun p hp=>hc p (List.mem_cons_of_mem _ hp)) (mkS_sub (ht o (List.mem_cons_self ..)) (hc o (List.mem_cons_self ..)) _ _ (fun x hx=>⟨hx,hm o (List.mem_cons_self ..) x hx⟩) h)
theorem fixS_sub {bs:List Bf} {C:Int→Bool} {os:List Lo} (ht:∀ o∈os,∀ x∈takesR o,0≤x) (hm:∀ o∈os,∀ x∈makesR o,0≤x) (hc:Closed bs C os):∀ (n:Nat) (m:List Bool),Sub m C→Sub (fixS bs os n m) C
 | 0,_,h=>h
 | n+1,m,h=>by
  rw[fixS]
  split
  ·exact fixS_sub ht hm hc n _ (passS_sub os _ ht hm hc h)
  ·exact passS_sub os _ ht hm hc h
theorem fixS_len (bs:List Bf) (os:List Lo):∀ (n:Nat) (m:List Bool),(fixS bs os n m).length=m.length
 | 0,_=>rfl
 | n+1,m=>by rw[fixS]; split <;> simp[fixS_len bs os n,passS_len]
theorem Sub.none (n:Nat) (C:Int→Bool):Sub (List.replicate n false) C:=fun x _ h=>by
 unfold madeR at h
 rw[List.getD_eq_getElem?_getD,List.getElem?_replicate] at h
 split at h <;> simp at h
noncomputable def secL (regs:Int) (bs:List Bf) (os:List Lo):List Bool:=fixS bs os (regs.toNat+1) (List.replicate regs.toNat false)
def safeR (bs:List Bf) (C:Int→Bool) (o:Lo):Bool:=!((memK o.kind && decide (0≤o.a)) && C o.a) && (!(decide (o.kind=15) && (C o.b && !(gbf bs o.buf.toNat).sec)) && !(decide (o.kind=16) && C o.d))
theorem safe_sub {bs:List Bf} {m:List Bool} {C:Int→Bool} {o:Lo} (hs:Sub m C) (hb:o.kind=15→0≤o.b) (hd:o.kind=16→0≤o.d) (h:safeR bs C o=true):safeR bs (madeR m) o=true:=by
 unfold safeR at h ⊢
 simp only[Bool.and_eq_true,Bool.not_eq_true',Bool.and_eq_false_iff,decide_eq_false_iff_not,Bool.not_eq_false'] at h ⊢
 have key:∀ x,0≤x→C x=false→madeR m x=false:=fun x hx hc=>by
  cases q:madeR m x
  ·rfl
  ·rw[hs x hx q] at hc; exact absurd hc (by decide)
 obtain⟨h1,h2,h3⟩:=h
 refine⟨?_,?_,?_⟩
 ·by_cases q:0≤o.a
  ·rcases h1 with h1 | h1
   ·exact .inl h1
   ·exact .inr (key _ q h1)
  ·exact .inl (.inr q)
 ·by_cases q:o.kind=15
  ·rcases h2 with h2 | h2 | h2
   ·exact absurd q h2
   ·exact .inr (.inl (key _ (hb q) h2))
   ·exact .inr (.inr h2)
  ·exact .inl q
 ·by_cases q:o.kind=16
  ·rcases h3 with h3 | h3
   ·exact absurd q h3
   ·exact .inr (key _ (hd q) h3)
  ·exact .inl q
end Go.Sv
namespace Go.Sv
def InvL (ls:List Int) (m:List Bool):Prop:=∀ x,0≤x→x < 8→(madeR m x=true↔x∈ls)
def Gd (bs:List Bf) (S:List Int) (ls:List Int) (f:Fr Lo) (S':List Int):Prop :=
 ∀ m,MadeS 64 m S→InvL ls m→∃ m',MadeS 64 m' S'∧InvL ls m'∧∀ i rest,goR 64 bs i m ls (f.flat++rest)=goR 64 bs (i+f.flat.length) m' ls rest
section gd
variable {bs : List Bf} {S S' S2 ls : List Int} {f g : Fr Lo}
theorem MadeS.sub {regs:Int} {m:List Bool} (h:MadeS regs m S) (k:∀ x∈S',x∈S):MadeS regs m S':=⟨h.1,fun x hx=>h.2 x (k x hx)⟩
theorem Gd.mono (h:Gd bs S ls f S') (k1:∀ x∈S,x∈S2) {S3:List Int} (k2:∀ x∈S3,x∈S'):Gd bs S2 ls f S3:=fun m hm hi=>by
 obtain⟨m',h1,h2,h3⟩:=h m (hm.sub k1) hi
 exact⟨m',h1.sub k2,h2,h3⟩
theorem Gd.cat (h:Gd bs S ls f S') (k:Gd bs S' ls g S2):Gd bs S ls (f.cat g) S2:=fun m hm hi=>by
 obtain⟨m1,h1,h2,h3⟩:=h m hm hi
 obtain⟨m2,k1,k2,k3⟩:=k m1 h1 h2
 refine⟨m2,k1,k2,fun i rest=>?_⟩
 rw[flat_cat,List.append_assoc,h3,k3,List.length_append,Nat.add_assoc]
theorem Gd.nil:Gd bs S ls .nil S:=fun m hm hi=>⟨m,hm,hi,fun _ _=>rfl⟩
theorem InvL.fold:∀ (mk:List Int) (m:List Bool),m.length=64→InvL ls m→(∀ x∈mk,8≤x∧x < 64)→InvL ls (mk.foldl (fun m r=>m.set r.toNat true) m)
 | [],_,_,h,_=>h
 | a::mk,m,hl,h,hr=>by
  have ha:=hr a (List.mem_cons_self ..)
  refine InvL.fold mk _ (by simpa using hl) (fun x h0 h8=>?_) fun x hx=>hr x (List.mem_cons_of_mem _ hx)
  rw[←h x h0 h8,madeR_set ⟨by omega,by omega⟩ h0]
  constructor
  ·rintro (q | q)
   ·omega
   ·exact q
  ·exact .inr
theorem Gd.L (hls:∀ x∈ls,x < 8):∀ {l:List Lo} {S:List Int},okL 64 bs S l→(∀ o∈l,∀ x∈makesR o,8≤x)→Gd bs S ls (frZ l) ((l.flatMap makesR)++S)
 | [],S,_,_=>fun m hm hi=>⟨m,by simpa using hm,hi,fun _ _=>rfl⟩
 | o::l,S,h,hk=>fun m hm hi=>by
  obtain⟨h1,⟨h2,h3⟩,h4,h5⟩:=h
  have hmk:=makes_in h1
  have hm8:=hk o (List.mem_cons_self ..)
  have hs:=stepR_op (m:=m) (ls:=ls) h1 h2 h3 (fun x hx q=>by have:=hls x q; have:=hm8 x hx; omega) (fun x hx=>(hm.2 x (h4 x hx)).2.2)
  have hm2:=hm.fold (makesR o) m S hmk
  have hi2:=hi.fold (makesR o) m (by have:=hm.1; omega) fun x hx=>⟨hm8 x hx,(hmk x hx).2⟩
  obtain⟨m',k1,k2,k3⟩:=Gd.L hls h5 (fun p hp=>hk p (List.mem_cons_of_mem _ hp)) _ hm2 hi2
  refine⟨m',k1.sub fun x hx=>?_,k2,fun i rest=>?_⟩
  ·simp only[List.flatMap_cons,List.mem_append] at hx ⊢
   rcases hx with (hx | hx) | hx
   ·exact .inr (.inl hx)
   ·exact .inl hx
   ·exact .inr (.inr hx)
  ·rw[frZ,Fr.flat,List.cons_append,goR,hs]
   dsimp only
   rw[if_pos rfl,k3,List.length_cons]
   congr 1; omega
theorem fields_Lp {d times:Int} (h:0≤d∧d < 64) (ht:1≤times∧times≤1048576):fieldsR 64 bs (cLp d times)=true:=by
 have h1:(iU times).toNat=times.toNat:=by
  obtain⟨n,rfl⟩:=Int.eq_ofNat_of_zero_le (show 0≤times by omega)
  rw[iU_nat (by omega)]; rfl
 have h2:(1:UInt64)≤iU times:=by rw[UInt64.le_iff_toNat_le,h1]; show 1≤_; omega
 have h3:iU times≤(1048576:UInt64):=by rw[UInt64.le_iff_toNat_le,h1]; show _≤1048576; omega
 simp[fieldsR,cLp,fieldR,hasD,hasE,hasA,hasB',hasC',memK,h,h2,h3]
theorem fields_En:fieldsR 64 bs cEn=true:=by simp[fieldsR,cEn,fieldR,hasD,hasE,hasA,hasB',hasC',memK]
theorem madeR_clr {m:List Bool} {a x:Int} (ha:0≤a∧a < m.length) (hx:0≤x):madeR (m.set a.toNat false) x=true↔x≠a∧madeR m x=true:=by
 unfold madeR
 rw[getD_setZ _ _ _ _ _ (by omega)]
 by_cases e:x.toNat=a.toNat
 ·rw[if_pos e]; simp; intro h; omega
 ·rw[if_neg e]
  constructor
  ·exact fun h=>⟨by rintro rfl; exact e rfl,h⟩
  ·exact fun h=>h.2
theorem Gd.loop {d times:Int} {b r:Fr Lo} {S3:List Int} (hls:ls.length < 8) (hd:0≤d∧d < 8) (hn:¬ d∈ls) (ht:1≤times∧times≤1048576) (hb:Gd bs (d::S) (ls++[d]) b S') (hs:∀ x∈S2,x∈S'∧x≠d) (hr:Gd bs S2 ls r S3):Gd bs S ls (.loop (cLp d times) b cEn r) S3:=fun m hm hi=>by
 have hl64:m.length=64:=by have:=hm.1; omega
 have hmd:madeR m d=false:=by
  cases q:madeR m d
  ·rfl
  ·exact absurd ((hi d hd.1 hd.2).1 q) hn
 have hst:stepR 64 bs m ls (cLp d times)=(0,m.set d.toNat true,ls++[d]):=by
  unfold stepR
  rw[if_neg (by rw[fields_Lp (by omega) ht]; decide),if_neg (by simp[cLp]),if_neg,if_neg (by simp[cLp,hmd]),if_neg (by simp[cLp]; omega),if_neg (by simp[cLp,takesR])]
  ·simp[cLp,makesR]
  ·simp[cLp,makesR,hn]
 have hm1:MadeS 64 (m.set d.toNat true) (d::S):=by
  have:=hm.fold [d] m S (fun x hx=>by simp at hx; omega)
  simpa using this
 have hi1:InvL (ls++[d]) (m.set d.toNat true):=fun x h0 h8=>by
  rw[madeR_set ⟨by omega,by omega⟩ h0,hi x h0 h8]; simp[or_comm]
 obtain⟨m2,a1,a2,a3⟩:=hb _ hm1 hi1
 have hl2:m2.length=64:=by have:=a1.1; omega
 have hm3:MadeS 64 (m2.set d.toNat false) S2:=⟨by simpa using a1.1,fun x hx=>by
  obtain⟨h1,h2⟩:=hs x hx
  obtain⟨b1,b2,b3⟩:=a1.2 x h1
  exact⟨b1,b2,(madeR_clr ⟨by omega,by omega⟩ b1).2 ⟨h2,b3⟩⟩⟩
 have hi3:InvL ls (m2.set d.toNat false):=fun x h0 h8=>by
  rw[madeR_clr ⟨by omega,by omega⟩ h0,a2 x h0 h8]
  simp only[List.mem_append,List.mem_singleton]
  constructor
  ·rintro⟨h1,h2 | h2⟩
   ·exact h2
   ·exact absurd h2 h1
  ·exact fun h=>⟨fun q=>hn (q ▸ h),.inl h⟩
 obtain⟨m4,c1,c2,c3⟩:=hr _ hm3 hi3
 refine⟨m4,c1,c2,fun i rest=>?_⟩
 have hen:stepR 64 bs m2 (ls++[d]) cEn=(0,m2.set d.toNat false,ls):=by
  unfold stepR
  rw[if_neg (by rw[fields_En]; decide),if_pos (by rfl)]
  simp
 rw[Fr.flat,List.cons_append,goR,hst]
 dsimp only
 rw[if_pos rfl,List.append_assoc,a3,List.cons_append,goR,hen]
 dsimp only
 rw[if_pos rfl,c3,List.length_cons,List.length_append,List.length_cons]
 congr 1; omega
theorem Gd.lp {d times:Int} {b:Fr Lo} (hls:ls.length < 8) (hd:0≤d∧d < 8) (hn:¬ d∈ls) (hnS:¬ d∈S) (ht:times≤1048576) (hb:Gd bs (d::S) (ls++[d]) b S') (hs:∀ x∈S,x∈S'):Gd bs S ls (lpT d times b) S:=by
 unfold lpT
 split
 ·exact .nil
 ·exact .loop hls hd hn (by omega) hb (fun x hx=>⟨hs x hx,fun q=>hnS (q ▸ hx)⟩) .nil
theorem chkR_Gd (h1:bs.length≤32) (h2:f.flat.length≤65536) (h3:∀ b∈bs,1≤b.size∧b.size≤65536∧1≤b.kind∧b.kind≤3) (h:Gd bs [] [] f S'):chkR 64 bs f.flat=((f.flat.length:Int),0):=by
 unfold chkR
 rw[if_neg (by omega),if_neg,if_neg (by omega),if_neg]
 ·obtain⟨m',_,_,h4⟩:=h (List.replicate 64 false) ⟨by simp,by simp⟩ (fun x h0 h8=>by
   unfold madeR; rw[List.getD_eq_getElem?_getD,List.getElem?_replicate]; split <;> simp)
  have:=h4 0 []
  rw[List.append_nil] at this
  rw[show (64:Int).toNat=64 from rfl,this,goR,if_pos rfl,Nat.zero_add]
 ·rw[List.any_eq_true]; rintro⟨b,hb,hk⟩; have:=h3 b hb; simp at hk; omega
 ·rw[List.any_eq_true]; rintro⟨b,hb,hk⟩; have:=h3 b hb; simp at hk; omega
end gd
end Go.Sv
namespace Go.Sv
section w
variable {bs : List Bf} {S : List Int} {l : List Lo}
theorem okL_K {d:Int} {v:UInt64} (h:0≤d∧d < 64) (k:okL 64 bs (d::S) l):okL 64 bs S (cK d v::l):=⟨fields_K h,by simp[cK],by simp[takesR,cK],k⟩
theorem okL_Mul {d e a b:Int} (h:0≤d∧d < 64) (he:0≤e∧e < 64) (ha:0≤a∧a < 64) (hb:0≤b∧b < 64) (hn:d≠e) (ma:a∈S) (mb:b∈S) (k:okL 64 bs (d::e::S) l):okL 64 bs S (cMul d e a b::l) :=
 ⟨fields_Mul h he ha hb hn,by simp[cMul],by simp[takesR,cMul,ma,mb],k⟩
theorem okL_Two {k' d a b:Int} (hk:3≤k'∧k'≤7) (h:0≤d∧d < 64) (ha:0≤a∧a < 64) (hb:0≤b∧b < 64) (ma:a∈S) (mb:b∈S) (k:okL 64 bs (d::S) l):okL 64 bs S (cTwo k' d a b::l):=by
 refine⟨fields_Two hk h ha hb,by simp[cTwo]; omega,fun x hx=>?_,?_⟩
 ·unfold takesR cTwo at hx
  simp only at hx
  rw[if_neg (by omega),if_pos (by omega)] at hx
  simp at hx
  rcases hx with rfl | rfl
  ·exact ma
  ·exact mb
 ·have:makesR (cTwo k' d a b)=[d]:=by unfold makesR cTwo; simp only; rw[if_neg (by omega),if_neg (by omega)]
  rw[this]; exact k
theorem okL_Car {k' d e a b c:Int} (hk:k'=11∨k'=12) (h:0≤d∧d < 64) (he:0≤e∧e < 64) (ha:0≤a∧a < 64) (hb:0≤b∧b < 64) (hc:0≤c∧c < 64) (hn:d≠e) (ma:a∈S) (mb:b∈S) (mc:c∈S) (k:okL 64 bs (d::e::S) l):okL 64 bs S (cCar k' d e a b c::l):=by
 refine⟨fields_Car hk h he ha hb hc hn,by rcases hk with rfl | rfl <;> simp[cCar],?_,?_⟩
 ·rcases hk with rfl | rfl <;> simp[takesR,cCar,ma,mb,mc]
 ·rcases hk with rfl | rfl <;> exact k
theorem okL_Sel {d c a b:Int} (h:0≤d∧d < 64) (hc:0≤c∧c < 64) (ha:0≤a∧a < 64) (hb:0≤b∧b < 64) (mc:c∈S) (ma:a∈S) (mb:b∈S) (k:okL 64 bs (d::S) l):okL 64 bs S (cSel d c a b::l) :=
 ⟨fields_Sel h hc ha hb,by simp[cSel],by simp[takesR,cSel,ma,mb,mc],k⟩
structure Bp (bs:List Bf) (p:Pn):Prop where
 b:p.b < bs.length
 s:((p.a+p.k:Nat):Int)≤(gbf bs p.b).size
 z:(gbf bs p.b).size≤65536
def Bw (bs:List Bf) (p:Pn):Prop:=(gbf bs p.b).kind≠1
theorem Bp.at {p:Pn} (h:Bp bs p) {off:Int} (h0:0≤off) (hk:off < p.k):iU (p.p.at_+off) < iU (gbf bs p.p.buf.toNat).size:=by
 obtain⟨o,rfl⟩:=Int.eq_ofNat_of_zero_le h0
 have hs:=h.s
 have hz:=h.z
 obtain⟨z,hz2⟩:=Int.eq_ofNat_of_zero_le (show 0≤(gbf bs p.b).size by omega)
 have e1:p.p.buf.toNat=p.b:=rfl
 rw[e1,hz2,UInt64.lt_iff_toNat_lt,iU_nat (by omega),ix_no (by omega)]
 omega
theorem okL_LdR {d i off:Int} {p:Pn} (hp:Bp bs p) (h:0≤d∧d < 64) (hi:0≤i∧i < 64) (mi:i∈S) (k:okL 64 bs (d::S) l):okL 64 bs S (cLd d p.p i off::l):=by
 refine⟨fields_Ld h (.inr hi) ⟨by simp[Pn.p],by have:=hp.b; simpa [Pn.p] using this⟩ (fun q=>by omega),by simp[cLd],?_,k⟩
 have:i≠-1:=by omega
 simp[takesR,cLd,this,mi]
theorem okL_LdN {d off:Int} {p:Pn} (hp:Bp bs p) (h:0≤d∧d < 64) (h0:0≤off) (hk:off < p.k) (k:okL 64 bs (d::S) l):okL 64 bs S (cLd d p.p (-1) off::l):=by
 refine⟨fields_Ld h (.inl rfl) ⟨by simp[Pn.p],by have:=hp.b; simpa [Pn.p] using this⟩ (fun _=>hp.at h0 hk),by simp[cLd],by simp[takesR,cLd],k⟩
theorem okL_StR {v i off:Int} {p:Pn} (hp:Bp bs p) (hw:Bw bs p) (h:0≤v∧v < 64) (hi:0≤i∧i < 64) (mi:i∈S) (mv:v∈S) (k:okL 64 bs S l):okL 64 bs S (cSt p.p i off v::l):=by
 refine⟨fields_St h (.inr hi) ⟨by simp[Pn.p],by have:=hp.b; simpa [Pn.p] using this⟩ hw (fun q=>by omega),by simp[cSt],?_,k⟩
 have:i≠-1:=by omega
 simp[takesR,cSt,this,mi,mv]
theorem okL_StN {v off:Int} {p:Pn} (hp:Bp bs p) (hw:Bw bs p) (h:0≤v∧v < 64) (h0:0≤off) (hk:off < p.k) (mv:v∈S) (k:okL 64 bs S l):okL 64 bs S (cSt p.p (-1) off v::l):=by
 refine⟨fields_St h (.inl rfl) ⟨by simp[Pn.p],by have:=hp.b; simpa [Pn.p] using this⟩ hw (fun _=>hp.at h0 hk),by simp[cSt],by simp[takesR,cSt,mv],k⟩
theorem okL_nil:okL 64 bs S []:=trivial
end w
section into
variable {bs : List Bf} {ls : List Int} {R D : Int} {d a b n t : Pn} {k : Int}
theorem ok_sum {S:List Int} {l:List Lo} {a b:Int} (hR:16≤R∧R≤50) (ha:0≤a∧a < 64) (hb:0≤b∧b < 64) (ma:a∈S) (mb:b∈S) (m0:R∈S) (m3:R+3∈S) (m7:R+7∈S) (k:okL 64 bs ((R+3)::(R+5)::(R+6)::(R+9)::(R+6)::(R+8)::(R+5)::(R+6)::S) l):okL 64 bs S (sumL R a b++l):=by
 unfold sumL
 refine okL_Mul ?_ ?_ ha hb ?_ ma mb (okL_Car (.inl rfl) ?_ ?_ ?_ ?_ ?_ ?_ ?_ ?_ ?_ (okL_Car (.inl rfl) ?_ ?_ ?_ ?_ ?_ ?_ ?_ ?_ ?_ (okL_Two ?_ ?_ ?_ ?_ ?_ ?_ (okL_Two ?_ ?_ ?_ ?_ ?_ ?_ k))))
 all_goals first | omega | (simp[m0,m3,m7]; done) | (simp; omega)
theorem reckL_makes {n r:Int}:∀ o∈reckL n r,∀ x∈makesR o,r≤x∧x≤r+4:=by
 intro o ho
 simp[reckL,reckA,reckB,reckR,cK,cMul,cTwo] at ho
 rcases ho with rfl | rfl | rfl | rfl | ⟨_,rfl | rfl | rfl⟩ | rfl | rfl <;> simp[makesR] <;> omega
theorem gd_times {i:Int} (hR:16≤R∧R≤50) (hi:0≤i∧i < 8) (hD:0≤D∧D < 8) (hn:¬ D∈ls) (hDi:D≠i) (hll:ls.length < 8) (hls:∀ x∈ls,x < 8) (pa:Bp bs a) (pb:Bp bs b) (pt:Bp bs t) (wt:Bw bs t) (hk:0≤k∧k+1 < t.k) :
  Gd bs [i,R,R+1,R+10] ls (timesT a.p b.p t.p k R D i) [i,R,R+1,R+10]:=by
 have htk:(t.k:Int)≤65536:=by have:=pt.s; have:=pt.z; omega
 unfold timesT
 have h1:okL 64 bs [i,R,R+1,R+10] [cLd (R+2) b.p i 0,cK (R+3) 0]:=okL_LdR pb (by omega) (by omega) (by simp) (okL_K (by omega) okL_nil)
 have h2:okL 64 bs (D::(List.flatMap makesR [cLd (R+2) b.p i 0,cK (R+3) 0]++[i,R,R+1,R+10])) (timesB a.p t.p R D):=by
  unfold timesB
  refine okL_LdR pa (by omega) (by omega) (by simp) (okL_LdR pt (by omega) (by omega) (by simp) (ok_sum hR (by omega) (by omega) (by simp) (by simp[makesR,cLd]) (by simp[makesR,cLd,cK]) (by simp[makesR,cLd,cK]) (by simp) (okL_StR pt wt (by omega) (by omega) (by simp) (by simp) okL_nil)))
 have h3:okL 64 bs (List.flatMap makesR [cLd (R+2) b.p i 0,cK (R+3) 0]++[i,R,R+1,R+10]) (topL t.p k R++[cSt t.p (-1) k (R+7),cSt t.p (-1) (k+1) (R+8)]):=by
  unfold topL
  refine okL_LdN pt (by omega) (by omega) (by omega) (okL_Car (.inl rfl) (by omega) (by omega) (by omega) (by omega) (by omega) (by omega) (by simp) (by simp[makesR,cLd,cK]) (by simp[makesR,cLd,cK]) (okL_StN pt wt (by omega) (by omega) (by omega) (by simp) (okL_StN pt wt (by omega) (by omega) (by omega) (by simp) okL_nil)))
 refine Gd.mono ((Gd.L hls h1 ?_).cat ((Gd.lp hll hD hn ?_ (by omega) (Gd.L ?_ h2 ?_) ?_).cat (Gd.L hls h3 ?_))) (fun x h=>h) ?_
 ·simp[makesR,cLd,cK]; omega
 ·simp[makesR,cLd,cK]; omega
 ·intro x hx; rcases List.mem_append.1 hx with hx | hx
  ·exact hls x hx
  ·simp at hx; omega
 ·simp[makesR,timesB,sumL,cLd,cSt,cMul,cCar,cTwo]; omega
 ·intro x hx; exact List.mem_append_right _ (List.mem_cons_of_mem _ hx)
 ·simp[makesR,topL,cLd,cSt,cCar]; omega
 ·intro x hx; exact List.mem_append_right _ (List.mem_append_right _ hx)
theorem gd_down {i:Int} (hR:16≤R∧R≤50) (hD:0≤D∧D < 8) (hn:¬ D∈ls) (hDi:D≠i) (hll:ls.length < 8) (hls:∀ x∈ls,x < 8) (pn:Bp bs n) (pt:Bp bs t) (wt:Bw bs t) (hk:1≤k∧k+1 < t.k) (hnk:0 < n.k) :
  Gd bs [i,R,R+1,R+10] ls (downT n.p t.p k R D) [i,R,R+1,R+10]:=by
 have htk:(t.k:Int)≤65536:=by have:=pt.s; have:=pt.z; omega
 unfold downT
 have h1:okL 64 bs [i,R,R+1,R+10] ([cLd (R+7) t.p (-1) 0,cMul (R+5) (R+10) (R+7) (R+1),cLd (R+4) n.p (-1) 0,cK (R+3) 0]++sumL R (R+10) (R+4)):=by
  rw[←List.append_nil (_++sumL R (R+10) (R+4)),List.append_assoc]
  exact okL_LdN pt (by omega) (by omega) (by omega) (okL_Mul (by omega) (by omega) (by omega) (by omega) (by omega) (by simp) (by simp) (okL_LdN pn (by omega) (by omega) (by omega) (okL_K (by omega) (ok_sum hR (by omega) (by omega) (by simp) (by simp) (by simp) (by simp) (by simp) okL_nil))))
 have h2:okL 64 bs (D::(List.flatMap makesR ([cLd (R+7) t.p (-1) 0,cMul (R+5) (R+10) (R+7) (R+1),cLd (R+4) n.p (-1) 0,cK (R+3) 0]++sumL R (R+10) (R+4))++[i,R,R+1,R+10])) (downB n.p t.p R D):=by
  unfold downB
  refine okL_LdR pn (by omega) (by omega) (by simp) (okL_LdR pt (by omega) (by omega) (by simp) (ok_sum hR (by omega) (by omega) (by simp) (by simp[makesR,cLd]) (by simp[makesR,cLd,cK]) (by simp[makesR,cLd,cK]) (by simp) (okL_StR pt wt (by omega) (by omega) (by simp) (by simp) okL_nil)))
 have h3:okL 64 bs (List.flatMap makesR ([cLd (R+7) t.p (-1) 0,cMul (R+5) (R+10) (R+7) (R+1),cLd (R+4) n.p (-1) 0,cK (R+3) 0]++sumL R (R+10) (R+4))++[i,R,R+1,R+10]) (topL t.p k R++[cSt t.p (-1) (k - 1) (R+7),cLd (R+7) t.p (-1) (k+1),cTwo 3 (R+7) (R+7) (R+8),cSt t.p (-1) k (R+7)]):=by
  unfold topL
  refine okL_LdN pt (by omega) (by omega) (by omega) (okL_Car (.inl rfl) (by omega) (by omega) (by omega) (by omega) (by omega) (by omega) (by simp) (by simp[makesR,cLd,cK]) (by simp[makesR,cLd,cK]) (okL_StN pt wt (by omega) (by omega) (by omega) (by simp) (okL_LdN pt (by omega) (by omega) (by omega) (okL_Two (by omega) (by omega) (by omega) (by omega) (by simp) (by simp) (okL_StN pt wt (by omega) (by omega) (by omega) (by simp) okL_nil)))))
 refine Gd.mono ((Gd.L hls h1 ?_).cat ((Gd.lp hll hD hn ?_ (by omega) (Gd.L ?_ h2 ?_) ?_).cat (Gd.L hls h3 ?_))) (fun x h=>h) ?_
 ·simp[makesR,sumL,cLd,cK,cMul,cCar,cTwo]; omega
 ·simp[makesR,sumL,cLd,cK,cMul,cCar,cTwo]; omega
 ·intro x hx; rcases List.mem_append.1 hx with hx | hx
  ·exact hls x hx
  ·simp at hx; omega
 ·simp[makesR,downB,sumL,cLd,cSt,cMul,cCar,cTwo]; omega
 ·intro x hx; exact List.mem_append_right _ (List.mem_cons_of_mem _ hx)
 ·simp[makesR,topL,cLd,cSt,cCar,cTwo]; omega
 ·intro x hx; exact List.mem_append_right _ (List.mem_append_right _ hx)
theorem gd_fill {x:Int} {S:List Int} {p:Pn} (hx:0≤x∧x < 64) (mx:x∈S) (hD:0≤D∧D < 8) (hn:¬ D∈ls) (hDS:¬ D∈S) (hll:ls.length < 8) (hls:∀ x∈ls,x < 8) (pp:Bp bs p) (wp:Bw bs p):Gd bs S ls (fillT p.p x D) S:=by
 have hpk:(p.k:Int)≤65536:=by have:=pp.s; have:=pp.z; omega
 unfold fillT
 have h:okL 64 bs (D::S) [cSt p.p D 0 x]:=okL_StR pp wp hx (by omega) (by simp) (by simp[mx]) okL_nil
 refine Gd.lp hll hD hn hDS (by show (p.k:Int)≤_; omega) (Gd.L ?_ h ?_) ?_
 ·intro y hy; rcases List.mem_append.1 hy with hy | hy
  ·exact hls y hy
  ·simp at hy; omega
 ·simp[makesR,cSt]
 ·intro y hy; exact List.mem_append_right _ (List.mem_cons_of_mem _ hy)
theorem gd_less {x:List Lo} {S:List Int} (hR:16≤R∧R≤50) (hD:0≤D∧D < 8) (hn:¬ D∈ls) (hDS:¬ D∈S) (hll:ls.length < 8) (hls:∀ x∈ls,x < 8) (pn:Bp bs n) (pt:Bp bs t) (hk:k≤65536)
  (hx:okL 64 bs ((R+6)::(R+8)::(R+4)::(R+7)::D::(R+8)::S) x) (hm:∀ o∈x,∀ y∈makesR o,8≤y):Gd bs S ls (lessT n.p t.p k R D x) ((R+8)::S):=by
 unfold lessT
 have h1:okL 64 bs S [cK (R+8) 0]:=okL_K (by omega) okL_nil
 have h2:okL 64 bs (D::(List.flatMap makesR [cK (R+8) 0]++S)) (lessB n.p t.p R D++x):=by
  unfold lessB
  exact okL_LdR pt (by omega) (by omega) (by simp) (okL_LdR pn (by omega) (by omega) (by simp) (okL_Car (.inr rfl) (by omega) (by omega) (by omega) (by omega) (by omega) (by omega) (by simp) (by simp) (by simp[makesR,cK]) hx))
 refine (Gd.L hls h1 ?_).cat (Gd.lp hll hD hn ?_ (by omega) (Gd.L ?_ h2 ?_) ?_)
 ·simp[makesR,cK]; omega
 ·simp[makesR,cK]; exact⟨by omega,hDS⟩
 ·intro y hy; rcases List.mem_append.1 hy with hy | hy
  ·exact hls y hy
  ·simp at hy; omega
 ·intro o ho
  rcases List.mem_append.1 ho with ho | ho
  ·simp[lessB] at ho
   rcases ho with rfl | rfl | rfl <;> simp[makesR,cLd,cCar] <;> omega
  ·exact hm o ho
 ·intro y hy; exact List.mem_append_right _ (List.mem_cons_of_mem _ hy)
theorem gd_last (hR:16≤R∧R≤50) (hD:0≤D∧D < 8) (hn:¬ D∈ls) (hll:ls.length < 8) (hls:∀ x∈ls,x < 8) (pd:Bp bs d) (wd:Bw bs d) (pn:Bp bs n) (pt:Bp bs t) (hk:0≤k∧k < t.k):Gd bs [R] ls (lastT d.p n.p t.p k R D) [R]:=by
 have htk:(t.k:Int)≤65536:=by have:=pt.s; have:=pt.z; omega
 unfold lastT
 have h1:okL 64 bs [R+8,R] [cLd (R+7) t.p (-1) k,cCar 12 (R+6) (R+10) (R+7) R (R+8)]:=okL_LdN pt (by omega) (by omega) (by omega) (okL_Car (.inr rfl) (by omega) (by omega) (by omega) (by omega) (by omega) (by omega) (by simp) (by simp) (by simp) okL_nil)
 refine Gd.mono ((gd_less hR hD hn (by simp; omega) hll hls pn pt (by omega) okL_nil (by simp)).cat ((Gd.L hls h1 ?_).cat (gd_less hR hD hn ?_ hll hls pn pt (by omega) ?_ ?_))) (fun x h=>h) ?_
 ·simp[makesR,cLd,cCar]; omega
 ·simp[makesR,cLd,cCar]; omega
 ·exact okL_Sel (by omega) (by omega) (by omega) (by omega) (by simp[makesR,cLd,cCar]) (by simp) (by simp) (okL_StR pd wd (by omega) (by omega) (by simp) (by simp) okL_nil)
 ·simp[makesR,cSel,cSt]; omega
 ·intro x hx; simp at hx; subst hx; simp
theorem gd_into (hR:16≤R∧R≤50) (hD:0≤D∧D+1 < 8) (hn:¬ D∈ls) (hn1:¬ D+1∈ls) (hll:ls.length < 7) (hls:∀ x∈ls,x < 8) (pd:Bp bs d) (wd:Bw bs d) (pa:Bp bs a) (pb:Bp bs b) (pn:Bp bs n) (pt:Bp bs t) (wt:Bw bs t) (hk:1≤k∧k+1 < t.k) (hnk:0 < n.k) :
  Gd bs [] ls (intoT d.p a.p b.p n.p t.p k R D) []:=by
 have htk:(t.k:Int)≤65536:=by have:=pt.s; have:=pt.z; omega
 unfold intoT
 have h0:okL 64 bs [] ([cK R 0,cLd (R+10) n.p (-1) 0]++reckL (R+10) (R+1)) :=
  okL_K (by omega) (okL_LdN pn (by omega) (by omega) (by omega) (okL_reck (by omega) (by omega) (by simp)))
 have hm0:∀ x∈[R,R+1,R+10],x∈List.flatMap makesR ([cK R 0,cLd (R+10) n.p (-1) 0]++reckL (R+10) (R+1))++[]:=by
  intro x hx
  simp at hx
  rcases hx with rfl | rfl | rfl <;> simp[makesR,cK,cLd,reckL,reckA,cMul,cTwo]
 refine Gd.mono (Gd.cat (Gd.mono (Gd.L hls h0 ?_) (fun x h=>h) hm0) ((gd_fill (x:=R) (by omega) (by simp) ⟨hD.1,by omega⟩ hn (by simp; omega) (by omega) hls pt wt).cat ((Gd.lp (by omega) ⟨hD.1,by omega⟩ hn (by simp; omega) (by omega) ((gd_times hR (by omega) (by omega) ?_ (by omega) ?_ ?_ pa pb pt wt (by omega)).cat (gd_down hR (by omega) ?_ (by omega) ?_ ?_ pn pt wt hk hnk)) ?_).cat (Gd.mono (gd_last hR ⟨hD.1,by omega⟩ hn (by omega) hls pd wd pn pt (by omega)) ?_ (fun x h=>h))))) (fun x h=>h) (by simp)
 ·intro o ho
  rcases List.mem_append.1 ho with ho | ho
  ·simp at ho
   rcases ho with rfl | rfl <;> simp[makesR,cK,cLd] <;> omega
  ·intro x hx
   have:=reckL_makes o ho x hx
   omega
 ·simp; exact⟨hn1,by omega⟩
 ·simp; omega
 ·intro x hx; rcases List.mem_append.1 hx with hx | hx
  ·exact hls x hx
  ·simp at hx; omega
 ·simp; exact⟨hn1,by omega⟩
 ·simp; omega
 ·intro x hx; rcases List.mem_append.1 hx with hx | hx
  ·exact hls x hx
  ·simp at hx; omega
 ·intro x hx; exact List.mem_cons_of_mem _ hx
 ·intro x hx; simp at hx; simp[hx]
end into
end Go.Sv
namespace Go.Sv
def rgR (R x:Int):Prop:=x=-1∨(R≤x∧x < R+14)
structure OpG (nb:Nat) (R lo hi:Int) (o:Lo):Prop where
 k:o.kind≠16∧o.kind≠17
 d:rgR R o.d
 e:rgR R o.e
 a:rgR R o.a∨(lo≤o.a∧o.a≤hi)
 b:rgR R o.b
 c:rgR R o.c
 m:(o.kind=14∨o.kind=15)→o.a=-1∨(lo≤o.a∧o.a≤hi)
 f:o.buf.toNat < nb
def LpG (lev:Int) (o:Lo):Prop:=o.kind=16∧o.d=lev∧o.e=-1∧o.a=-1∧o.b=-1∧o.c=-1∧1≤o.imm.toNat
def Fr.AllG (nb:Nat) (R lo hi:Int):Int→Fr Lo→Prop
 | _,.nil=>True
 | lev,.op o r=>OpG nb R lo hi o∧r.AllG nb R lo hi lev
 | lev,.loop o b e r=>LpG lev o∧(lo≤lev∧lev≤hi)∧e=cEn∧b.AllG nb R lo hi (lev+1)∧r.AllG nb R lo hi lev
section al
variable {nb : Nat} {R lo hi : Int}
theorem allG_cat:∀ {f g:Fr Lo} {lev:Int},f.AllG nb R lo hi lev→g.AllG nb R lo hi lev→(f.cat g).AllG nb R lo hi lev
 | .nil,_,_,_,h=>h
 | .op _ _,_,_,h,k=>⟨h.1,allG_cat h.2 k⟩
 | .loop _ _ _ _,_,_,h,k=>⟨h.1,h.2.1,h.2.2.1,h.2.2.2.1,allG_cat h.2.2.2.2 k⟩
theorem allG_L:∀ {l:List Lo} {lev:Int},(∀ o∈l,OpG nb R lo hi o)→(frZ l).AllG nb R lo hi lev
 | [],_,_=>trivial
 | o::_,_,h=>⟨h o (List.mem_cons_self ..),allG_L fun x hx=>h x (List.mem_cons_of_mem _ hx)⟩
theorem allG_lp {lev times:Int} {b:Fr Lo} (ht:times≤1000000) (hl:lo≤lev∧lev≤hi) (hb:b.AllG nb R lo hi (lev+1)):(lpT lev times b).AllG nb R lo hi lev:=by
 unfold lpT
 split
 ·trivial
 ·refine⟨⟨rfl,rfl,rfl,rfl,rfl,rfl,?_⟩,hl,rfl,hb,trivial⟩
  obtain⟨n,rfl⟩:=Int.eq_ofNat_of_zero_le (show 0≤times by omega)
  show 1≤(iU (n:Int)).toNat
  rw[iU_nat (by omega)]; omega
theorem OpG.mono {lo' hi':Int} {o:Lo} (h:OpG nb R lo hi o) (h1:lo'≤lo) (h2:hi≤hi'):OpG nb R lo' hi' o :=
 ⟨h.k,h.d,h.e,h.a.imp_right fun q=>by omega,h.b,h.c,fun q=>(h.m q).imp_right fun q=>by omega,h.f⟩
theorem allG_mono {lo' hi':Int} (h1:lo'≤lo) (h2:hi≤hi'):∀ {f:Fr Lo} {lev:Int},f.AllG nb R lo hi lev→f.AllG nb R lo' hi' lev
 | .nil,_,_=>trivial
 | .op _ _,_,h=>⟨h.1.mono h1 h2,allG_mono h1 h2 h.2⟩
 | .loop _ _ _ _,_,h=>⟨h.1,by have:=h.2.1; omega,h.2.2.1,allG_mono h1 h2 h.2.2.2.1,allG_mono h1 h2 h.2.2.2.2⟩
theorem allG_wf:∀ {f:Fr Lo} {lev:Int},f.AllG nb R lo hi lev→f.wf kdL
 | .nil,_,_=>trivial
 | .op o r,_,h=>⟨by unfold kdL; rw[if_neg h.1.k.1,if_neg h.1.k.2],allG_wf h.2⟩
 | .loop o b e r,_,h=>⟨by unfold kdL; rw[if_pos h.1.1],by rw[h.2.2.1]; rfl,allG_wf h.2.2.2.1,allG_wf h.2.2.2.2⟩
theorem rg_ok {x:Int} {ls:List Nat} (hR:16≤R∧R≤50) (hl:∀ y∈ls,y < 8) (h:rgR R x):regOk ls x=true:=by
 unfold regOk
 rcases h with rfl | h
 ·simp
 ·have:¬ x.toNat∈ls:=fun q=>by have:=hl _ q; omega
  simp[this]; omega
theorem allG_regs (hR:16≤R∧R≤50) (h0:0≤lo) (h8:hi < 8):∀ {f:Fr Lo} {lev:Int} {ls:List Nat},(∀ y∈ls,(y:Int) < lev∧y < 8)→f.AllG nb R lo hi lev→f.regs nb ls=true
 | .nil,_,_,_,_=>rfl
 | .op o r,lev,ls,hl,h=>by
  obtain⟨g,h⟩:=h
  have hr:=allG_regs hR h0 h8 hl h
  have hl8:∀ y∈ls,y < 8:=fun y hy=>(hl y hy).2
  have ha:o.a < 64:=by rcases g.a with (q | q) | q <;> omega
  have hb:o.b < 64:=by rcases g.b with q | q <;> omega
  have hc:o.c < 64:=by rcases g.c with q | q <;> omega
  simp only[Fr.regs,Bool.and_eq_true,decide_eq_true_eq]
  exact⟨rg_ok hR hl8 g.d,rg_ok hR hl8 g.e,ha,hb,hc,g.f,hr⟩
 | .loop o b e r,lev,ls,hl,h=>by
  obtain⟨⟨g1,g2,g3,g4,g5,g6,g7⟩,k,_,hb,h⟩:=h
  have hr:=allG_regs hR h0 h8 hl h
  have hb:=allG_regs (ls:=o.d.toNat::ls) hR h0 h8 (fun y hy=>by
   rcases List.mem_cons.1 hy with rfl | hy
   ·omega
   ·have:=hl y hy; omega) hb
  simp only[Fr.regs,Bool.and_eq_true,decide_eq_true_eq]
  refine⟨?_,by omega,g7,hb,hr⟩
  unfold regOk
  have:¬ o.d.toNat∈ls:=fun q=>by have:=hl _ q; omega
  simp[this]; omega
def FlG (nb:Nat) (R lo hi:Int) (o:Lo):Prop:=OpG nb R lo hi o∨o=cEn∨∃ lev,LpG lev o∧lo≤lev∧lev≤hi
theorem allG_flat:∀ {f:Fr Lo} {lev:Int},f.AllG nb R lo hi lev→∀ o∈f.flat,FlG nb R lo hi o
 | .nil,_,_,o,ho=>by simp[Fr.flat] at ho
 | .op p r,_,h,o,ho=>by
  simp only[Fr.flat,List.mem_cons] at ho
  rcases ho with rfl | ho
  ·exact .inl h.1
  ·exact allG_flat h.2 o ho
 | .loop p b e r,lev,h,o,ho=>by
  simp only[Fr.flat,List.mem_cons,List.mem_append] at ho
  rcases ho with rfl | ho | rfl | ho
  ·exact .inr (.inr ⟨lev,h.1,h.2.1⟩)
  ·exact allG_flat h.2.2.2.1 o ho
  ·exact .inr (.inl h.2.2.1)
  ·exact allG_flat h.2.2.2.2 o ho
def C16 (x:Int):Bool:=decide (16≤x)
theorem FlG.safe {bs:List Bf} {o:Lo} (h8:hi < 16) (hs:∀ n,n < nb→(gbf bs n).sec=true) (h:FlG nb R lo hi o):safeR bs C16 o=true:=by
 rcases h with h | rfl | ⟨lev,⟨g1,g2,g3,g4,g5,g6,g7⟩,k⟩
 ·unfold safeR
  have hk:=h.k
  by_cases q:o.kind=14∨o.kind=15
  ·have hm:=h.m q
   have:C16 o.a=false:=by unfold C16; rw[decide_eq_false_iff_not]; omega
   simp[this,hs _ h.f,hk.1]
  ·have h1:¬ o.kind=14:=fun e=>q (.inl e)
   have h2:¬ o.kind=15:=fun e=>q (.inr e)
   simp[memK,h1,h2,hk.1]
 ·simp[safeR,cEn,memK]
 ·have:C16 o.d=false:=by unfold C16; rw[decide_eq_false_iff_not]; omega
  simp[safeR,g1,memK,this]
theorem FlG.closed {bs:List Bf} {o:Lo} (hR:16≤R) (hf:fieldsR 64 bs o=true) (h:FlG nb R lo hi o):secC bs C16 o=true→∀ x∈makesR o,C16 x=true:=by
 rcases h with h | rfl | ⟨lev,⟨g1,g2,g3,g4,g5,g6,g7⟩,k⟩
 ·intro _ x hx
  have hx0:=(makes_in hf x hx).1
  have:x=o.d∨x=o.e:=by
   unfold makesR at hx
   split at hx
   ·simpa using hx
   ·split at hx
    ·simp at hx
    ·simp at hx; exact .inl hx
  have hd:=h.d
  have he:=h.e
  unfold C16
  rw[decide_eq_true_eq]
  rcases this with rfl | rfl
  ·rcases hd with q | q <;> omega
  ·rcases he with q | q <;> omega
 ·intro h; simp[secC,cEn,takesR] at h
 ·intro h; simp[secC,g1] at h
end al
end Go.Sv
namespace Go.Sv
section into
variable {nb : Nat} {R lo hi D k : Int} {d a b n t : Pn}
theorem og_Ld {v i off:Int} {p:Pn} (hp:p.b < nb) (hv:rgR R v) (hi':i=-1∨(lo≤i∧i≤hi)):OpG nb R lo hi (cLd v p.p i off) :=
 ⟨by simp[cLd],hv,.inl rfl,hi'.imp_left fun q=>.inl q,.inl rfl,.inl rfl,fun _=>hi',by simpa [cLd,Pn.p] using hp⟩
theorem og_St {v i off:Int} {p:Pn} (hp:p.b < nb) (hv:rgR R v) (hi':i=-1∨(lo≤i∧i≤hi)):OpG nb R lo hi (cSt p.p i off v) :=
 ⟨by simp[cSt],.inl rfl,.inl rfl,hi'.imp_left fun q=>.inl q,hv,.inl rfl,fun _=>hi',by simpa [cSt,Pn.p] using hp⟩
theorem og_K {v:Int} {w:UInt64} (hn:0 < nb) (hv:rgR R v):OpG nb R lo hi (cK v w):=⟨by simp[cK],hv,.inl rfl,.inl (.inl rfl),.inl rfl,.inl rfl,fun q=>by simp[cK] at q,hn⟩
theorem og_Mul {x y z w:Int} (hn:0 < nb) (hx:rgR R x) (hy:rgR R y) (hz:rgR R z) (hw:rgR R w):OpG nb R lo hi (cMul x y z w):=⟨by simp[cMul],hx,hy,.inl hz,hw,.inl rfl,fun q=>by simp[cMul] at q,hn⟩
theorem og_Two {kk x z w:Int} (hk:3≤kk∧kk≤7) (hn:0 < nb) (hx:rgR R x) (hz:rgR R z) (hw:rgR R w):OpG nb R lo hi (cTwo kk x z w):=⟨by simp[cTwo]; omega,hx,.inl rfl,.inl hz,hw,.inl rfl,fun q=>by simp[cTwo] at q; omega,hn⟩
theorem og_Car {kk x y z w c:Int} (hk:kk=11∨kk=12) (hn:0 < nb) (hx:rgR R x) (hy:rgR R y) (hz:rgR R z) (hw:rgR R w) (hc:rgR R c):OpG nb R lo hi (cCar kk x y z w c):=⟨by simp[cCar]; omega,hx,hy,.inl hz,hw,hc,fun q=>by simp[cCar] at q; omega,hn⟩
theorem og_Sel {x z w c:Int} (hn:0 < nb) (hx:rgR R x) (hc:rgR R c) (hz:rgR R z) (hw:rgR R w):OpG nb R lo hi (cSel x c z w):=⟨by simp[cSel],hx,.inl rfl,.inl hz,hw,hc,fun q=>by simp[cSel] at q,hn⟩
theorem og_reck (hn:0 < nb):∀ o∈reckL (R+10) (R+1),OpG nb R lo hi o:=by
 intro o ho
 simp[reckL,reckA,reckB,reckR] at ho
 rcases ho with rfl | rfl | rfl | rfl | ⟨_,rfl | rfl | rfl⟩ | rfl | rfl
 all_goals first | (refine og_K hn ?_; unfold rgR; omega) | (refine og_Mul hn ?_ ?_ ?_ ?_ <;> (unfold rgR; omega)) | (refine og_Two (by omega) hn ?_ ?_ ?_ <;> (unfold rgR; omega))
theorem og_app {x y:List Lo} (h:∀ o∈x,OpG nb R lo hi o) (k:∀ o∈y,OpG nb R lo hi o):∀ o∈x++y,OpG nb R lo hi o:=fun o ho=>(List.mem_append.1 ho).elim (h o) (k o)
theorem og_cons {x:Lo} {y:List Lo} (h:OpG nb R lo hi x) (k:∀ o∈y,OpG nb R lo hi o):∀ o∈x::y,OpG nb R lo hi o:=fun o ho=>by
 rcases List.mem_cons.1 ho with rfl | ho
 ·exact h
 ·exact k o ho
theorem og_nil:∀ o∈([]:List Lo),OpG nb R lo hi o:=fun _ h=>by cases h
theorem rg (j:Int) (h:0≤j∧j < 14):rgR R (R+j):=.inr (by omega)
theorem rg0:rgR R R:=.inr (by omega)
theorem og_sum {x y:Int} (hn:0 < nb) (hx:rgR R x) (hy:rgR R y):∀ o∈sumL R x y,OpG nb R lo hi o:=by
 unfold sumL
 exact og_cons (og_Mul hn (rg 5 (by omega)) (rg 6 (by omega)) hx hy) (og_cons (og_Car (.inl rfl) hn (rg 6 (by omega)) (rg 8 (by omega)) (rg 6 (by omega)) (rg 7 (by omega)) rg0) (og_cons (og_Car (.inl rfl) hn (rg 6 (by omega)) (rg 9 (by omega)) (rg 6 (by omega)) (rg 3 (by omega)) rg0) (og_cons (og_Two (by omega) hn (rg 5 (by omega)) (rg 5 (by omega)) (rg 8 (by omega))) (og_cons (og_Two (by omega) hn (rg 3 (by omega)) (rg 5 (by omega)) (rg 9 (by omega))) og_nil))))
theorem allG_less {x:List Lo} {lev:Int} (pn:n.b < nb) (pt:t.b < nb) (hk:k≤1000000) (hl:lo≤lev∧lev≤hi) (hx:∀ o∈x,OpG nb R lo hi o):(lessT n.p t.p k R lev x).AllG nb R lo hi lev:=by
 unfold lessT lessB
 have hn:0 < nb:=by omega
 exact allG_cat (allG_L (og_cons (og_K hn (rg 8 (by omega))) og_nil)) (allG_lp hk hl (allG_L (og_app (og_cons (og_Ld pt (rg 7 (by omega)) (.inr hl)) (og_cons (og_Ld pn (rg 4 (by omega)) (.inr hl)) (og_cons (og_Car (.inr rfl) hn (rg 6 (by omega)) (rg 8 (by omega)) (rg 7 (by omega)) (rg 4 (by omega)) (rg 8 (by omega))) og_nil))) hx)))
theorem allG_into (pd:d.b < nb) (pa:a.b < nb) (pb:b.b < nb) (pn:n.b < nb) (pt:t.b < nb) (hk:k≤1000000) (htk:t.k≤1000000) (hl:lo≤D∧D+1≤hi):(intoT d.p a.p b.p n.p t.p k R D).AllG nb R lo hi D:=by
 have hn:0 < nb:=by omega
 have hD:lo≤D∧D≤hi:=by omega
 have hD1:lo≤D+1∧D+1≤hi:=by omega
 unfold intoT
 refine allG_cat (allG_L (og_app (og_cons (og_K hn rg0) (og_cons (og_Ld pn (rg 10 (by omega)) (.inl rfl)) og_nil)) (og_reck hn))) (allG_cat ?_ (allG_cat (allG_lp hk hD (allG_cat ?_ ?_)) ?_))
 ·unfold fillT
  exact allG_lp (by show (t.k:Int)≤_; omega) hD (allG_L (og_cons (og_St pt rg0 (.inr hD)) og_nil))
 ·unfold timesT timesB topL
  refine allG_cat (allG_L (og_cons (og_Ld pb (rg 2 (by omega)) (.inr hD)) (og_cons (og_K hn (rg 3 (by omega))) og_nil))) (allG_cat (allG_lp hk hD1 (allG_L (og_app (og_cons (og_Ld pa (rg 4 (by omega)) (.inr hD1)) (og_cons (og_Ld pt (rg 7 (by omega)) (.inr hD1)) og_nil)) (og_app (og_sum hn (rg 4 (by omega)) (rg 2 (by omega))) (og_cons (og_St pt (rg 6 (by omega)) (.inr hD1)) og_nil))))) (allG_L (og_app (og_cons (og_Ld pt (rg 7 (by omega)) (.inl rfl)) (og_cons (og_Car (.inl rfl) hn (rg 7 (by omega)) (rg 8 (by omega)) (rg 7 (by omega)) (rg 3 (by omega)) rg0) og_nil)) (og_cons (og_St pt (rg 7 (by omega)) (.inl rfl)) (og_cons (og_St pt (rg 8 (by omega)) (.inl rfl)) og_nil)))))
 ·unfold downT downB topL
  refine allG_cat (allG_L (og_app (og_cons (og_Ld pt (rg 7 (by omega)) (.inl rfl)) (og_cons (og_Mul hn (rg 5 (by omega)) (rg 10 (by omega)) (rg 7 (by omega)) (rg 1 (by omega))) (og_cons (og_Ld pn (rg 4 (by omega)) (.inl rfl)) (og_cons (og_K hn (rg 3 (by omega))) og_nil)))) (og_sum hn (rg 10 (by omega)) (rg 4 (by omega)))))
   (allG_cat (allG_lp (by omega) hD1 (allG_L (og_app (og_cons (og_Ld pn (rg 4 (by omega)) (.inr hD1)) (og_cons (og_Ld pt (rg 7 (by omega)) (.inr hD1)) og_nil)) (og_app (og_sum hn (rg 10 (by omega)) (rg 4 (by omega))) (og_cons (og_St pt (rg 6 (by omega)) (.inr hD1)) og_nil)))))
   (allG_L (og_app (og_cons (og_Ld pt (rg 7 (by omega)) (.inl rfl)) (og_cons (og_Car (.inl rfl) hn (rg 7 (by omega)) (rg 8 (by omega)) (rg 7 (by omega)) (rg 3 (by omega)) rg0) og_nil)) (og_cons (og_St pt (rg 7 (by omega)) (.inl rfl)) (og_cons (og_Ld pt (rg 7 (by omega)) (.inl rfl)) (og_cons (og_Two (by omega) hn (rg 7 (by omega)) (rg 7 (by omega)) (rg 8 (by omega))) (og_cons (og_St pt (rg 7 (by omega)) (.inl rfl)) og_nil))))))) 
 ·unfold lastT
  exact allG_cat (allG_less pn pt hk hD og_nil) (allG_cat (allG_L (og_cons (og_Ld pt (rg 7 (by omega)) (.inl rfl)) (og_cons (og_Car (.inr rfl) hn (rg 6 (by omega)) (rg 10 (by omega)) (rg 7 (by omega)) rg0 (rg 8 (by omega))) og_nil))) (allG_less pn pt hk hD (og_cons (og_Sel hn (rg 6 (by omega)) (rg 10 (by omega)) (rg 7 (by omega)) (rg 6 (by omega))) (og_cons (og_St pd (rg 6 (by omega)) (.inr hD)) og_nil))))
end into
noncomputable def wrapT:Nat→Int→Fr Lo→Fr Lo
 | 0,_,f=>f
 | n+1,i,f=>.loop (cLp i 1) (wrapT n (i+1) f) cEn .nil
def lpsL:Nat→Int→List Lo
 | 0,_=>[]
 | n+1,i=>⟨16,i,-1,-1,-1,-1,0,1⟩::lpsL n (i+1)
theorem wrap_flat:∀ (n:Nat) (i:Int) (f:Fr Lo),(wrapT n i f).flat=lpsL n i++(f.flat++List.replicate n cEn)
 | 0,_,f=>by simp[wrapT,lpsL]
 | n+1,i,f=>by
  rw[wrapT,Fr.flat,wrap_flat n,lpsL,List.replicate_succ']
  simp[Fr.flat,cLp,iU1]
theorem wrap_allG {nb:Nat} {R:Int}:∀ (n:Nat) (i:Int) (f:Fr Lo),0≤i→i+n≤7→f.AllG nb R 0 7 (i+n)→(wrapT n i f).AllG nb R 0 7 i
 | 0,i,f,_,_,h=>by simpa [wrapT] using h
 | n+1,i,f,h0,h1,h=>by
  refine⟨⟨rfl,rfl,rfl,rfl,rfl,rfl,by simp[cLp,iU1]⟩,by omega,rfl,wrap_allG n (i+1) f (by omega) (by omega) ?_,trivial⟩
  rw[show i+1+(n:Int)=i+(n+1:Nat) by omega]; exact h
theorem wrap_gd {bs:List Bf}:∀ (n:Nat) (i:Int) (ls:List Int) (f:Fr Lo),0≤i→i+n≤7→(ls.length:Int)=i→(∀ x∈ls,x < i)→(∀ ls':List Int,(ls'.length:Int)=i+n→(∀ x∈ls',x < i+n)→Gd bs [] ls' f [])→Gd bs [] ls (wrapT n i f) []
 | 0,i,ls,f,_,_,hl,hx,h=>by simpa [wrapT] using h ls (by simpa using hl) (by simpa using hx)
 | n+1,i,ls,f,h0,h1,hl,hx,h=>by
  refine .loop (by omega) (by omega) (fun q=>by have:=hx _ q; omega) (by omega) (Gd.mono (wrap_gd n (i+1) (ls++[i]) f (by omega) (by omega) (by simp; omega) (fun x hx'=>?_) fun ls' h2 h3=>?_) (by simp) (by simp)) (S':=[]) (by simp) .nil
  ·rcases List.mem_append.1 hx' with q | q
   ·have:=hx x q; omega
   ·simp at q; omega
  ·exact h ls' (by omega) fun x hx'=>by have:=h3 x hx'; omega
theorem wrap_ex {sz:Nat→Nat} {Q:Fs→Prop}:∀ (n:Nat) (i:Nat) (f:Fr Lo) (s:Fs),(∀ s':Fs,s'.m=s.m→Tx sz f s' Q)→Tx sz (wrapT n i f) s Q
 | 0,_,f,s,h=>h s rfl
 | n+1,i,f,s,h=>by
  have e1:(cLp (i:Int) 1).imm.toNat=1:=by simp[cLp,iU1]
  refine .loop (I:=fun j s'=>if j=0 then s'=s else Q s') rfl (fun j s' hj hI=>?_) fun s' hI=>?_
  ·rw[e1] at hj
   have:j=0:=by omega
   subst this
   rw[if_pos rfl] at hI
   subst hI
   exact (wrap_ex n (i+1) f _ fun s2 h2=>h s2 (by rw[h2]; rfl)).mono fun s3 h3=>by simpa using h3
  ·rw[e1,if_neg (by omega)] at hI
   exact .nil hI
end Go.Sv
namespace Go.Sv
theorem powW (k:Nat):(18446744073709551616:Nat) ^ k=2 ^ (64 * k):=by rw[Nat.pow_mul]
theorem vl_val {l:List UInt64} {o:Nat}:∀ {k:Nat},o+k≤l.length→vl (fun i=>l.getD (o+i) 0) k=val ((l.drop o).take k)
 | 0,_=>by simp[vl,val]
 | k+1,h=>by
  rw[vl,vl_val (by omega),val_take_succ (by simp; omega),powW,Nat.mul_comm]
  congr 2
  simp[List.getD_eq_getElem?_getD]
theorem mont_val {P D T N Q Q' inv:Nat} (hi:P * inv % N=1 % N) (h:P * D+Q' * N=T+Q * N) (hD:D < N):D=T * inv % N:=by
 have h1:(P * D) % N=T % N:=by
  have:=congrArg (· % N) h
  simpa using this
 have h2:D * (P * inv) % N=T * inv % N:=by
  rw[show D * (P * inv)=P * D * inv by grind,Nat.mul_mod,h1,←Nat.mul_mod]
 rw[←h2,Nat.mul_mod,hi,←Nat.mul_mod,Nat.mul_one,Nat.mod_eq_of_lt hD]
theorem mont_red {t n:List UInt64} {D k Q Q':Nat} (ho:oddL n=true) (hk:k≤512) (h:18446744073709551616 ^ k * D+Q' * val n=val t+Q * val n) (hD:D < val n):val (reR t n k)=D:=by
 unfold reR
 rw[if_pos ⟨ho,by omega,by omega⟩,val_toL,Int.toNat_natCast]
 have hs:=(invN_spec (oddL_ne ho) (radix_coprime' (oddL_odd ho) (64 * k))).2
 have h1:2 ^ (64 * k) * invN (2 ^ (64 * k) % val n) (val n) % val n=1 % val n:=by
  rw[←hs]
  conv=>lhs; rw[Nat.mul_mod]
  conv=>rhs; rw[Nat.mul_mod,Nat.mod_mod]
 rw[powW] at h
 exact (mont_val h1 h hD).symm
theorem run_all {f:Fr Lo} {bs:List Bf} {X:List (List UInt64)} {Q:Fs→Prop} (hwf:f.wf kdL) (hreg:f.regs bs.length []=true) (hcost:f.costZ≤800000000)
  (hx:Tx (szZ (startZ 64 bs X)) f (absZ (startZ 64 bs X)) Q) :
  ∃ T s' t,T≤800000000∧runZ f.flat (f.ends 0) T (startZ 64 bs X)=some s'∧s'.i=f.flat.length∧Rep bs.length (szZ (startZ 64 bs X)) s' t∧Q t∧s'.l.length≤f.costZ:=by
 have hr0:(startZ 64 bs X).r.length=64:=by simp[startZ]
 have hrep:=Rep.abs (startZ 64 bs X) hr0
 have hbl:(startZ 64 bs X).bufs.length=bs.length:=by simp[startZ,bufS]
 rw[hbl] at hrep
 obtain⟨t,h1,h2⟩:=hx
 obtain⟨T,s',k1,k2,_,k4,k5,k6⟩:=run_tree (os:=f.flat) (es:=f.ends 0) f 0 [] [] [] (startZ 64 bs X) (absZ (startZ 64 bs X)) t hwf hreg (by simp) (by simp) rfl rfl hrep h1
 refine⟨T,s',t,by omega,k1,by rw[k2,Fr.flat_len,Nat.zero_add],k4,h2,?_⟩
 have:(startZ 64 bs X).l.length=0:=rfl
 omega
theorem costZ_le:∀ f:Fr Lo,f.costZ≤2 * f.stp
 | .nil=>by simp[Fr.costZ]
 | .op _ r=>by have:=costZ_le r; rw[Fr.costZ,Fr.stp]; omega
 | .loop o b _ r=>by
  have h1:=costZ_le b
  have h2:=costZ_le r
  have h3:o.imm.toNat * (b.costZ+2)≤o.imm.toNat * (2 * (1+b.stp)):=Nat.mul_le_mul_left _ (by omega)
  rw[Nat.mul_left_comm] at h3
  rw[Fr.costZ,Fr.stp]; omega
end Go.Sv
namespace Go.Sv
noncomputable def fillW (l:List UInt64) (i:Nat):UInt64:=if l=[] then 0 else l.getD (i % l.length) 0 * iU (1+((i / l.length:Nat):Int) * 2)+iU ((i / l.length:Nat):Int)
noncomputable def fillU (l:List UInt64) (n:Nat):List UInt64:=(List.range n).map (fillW l)
theorem fillU_len (l:List UInt64) (n:Nat):(fillU l n).length=n:=by simp[fillU]
end Go.Sv
namespace Go.Sv
def pnI (k y i:Nat):Pn:=⟨0,y+i * (k+1),k+1⟩
def pnW (k y:Nat):Pn:=⟨1,y,k+3⟩
def bsI (k y:Nat):List Bf:=[⟨4 * (1+(k:Int))+y,2,true⟩,⟨(k:Int)+3+y,3,true⟩]
noncomputable def treeI (k y e r d:Nat):Fr Lo:=intoT (pnI k y d).p (pnI k y 0).p (pnI k y 1).p (pnI k y 2).p (pnW k y).p (k+1:Nat) (16+r:Nat) e
noncomputable def progI (k y e r d:Nat):Fr Lo:=wrapT e 0 (treeI k y e r d)
theorem pnI_p (k y i:Nat):(⟨0,(y:Int)+i * (1+k),1+k⟩:Pc)=(pnI k y i).p:=by
 simp only[pnI,Pn.p,Pc.mk.injEq]
 refine⟨rfl,?_,by omega⟩
 rw[Int.natCast_add,Int.natCast_mul]
 congr 1
 rw[show (1+(k:Int))=((k+1:Nat):Int) by omega]
theorem stp_lp (d times:Int) (b:Fr Lo) (ht:times≤1000000):(lpT d times b).stp≤times.toNat * (1+b.stp):=by
 unfold lpT
 split
 ·simp[Fr.stp]
 ·obtain⟨n,rfl⟩:=Int.eq_ofNat_of_zero_le (show 0≤times by omega)
  rw[Fr.stp,Fr.stp]
  have:(cLp d (n:Int)).imm.toNat=n:=iU_nat (by omega)
  rw[this]; simp
section facts
variable {k y e r d : Nat}
theorem bpI (hd:d≤3) (hk:k≤5) (hy:y≤4):Bp (bsI k y) (pnI k y d):=by
 have:d * (k+1)≤3 * (k+1):=Nat.mul_le_mul_right _ hd
 exact⟨by simp[bsI,pnI],by simp only[bsI,pnI,gbf,List.getD_cons_zero]; omega,by simp only[bsI,pnI,gbf,List.getD_cons_zero]; omega⟩
theorem bpW (hk:k≤5) (hy:y≤4):Bp (bsI k y) (pnW k y):=⟨by simp[bsI,pnW],by simp only[bsI,pnW,gbf,List.getD_cons_succ,List.getD_cons_zero]; omega,by simp only[bsI,pnW,gbf,List.getD_cons_succ,List.getD_cons_zero]; omega⟩
theorem bwI:Bw (bsI k y) (pnI k y d):=by simp[Bw,bsI,pnI,gbf]
theorem bwW:Bw (bsI k y) (pnW k y):=by simp[Bw,bsI,pnW,gbf]
theorem treeI_all (hk:k≤5):(treeI k y e r d).AllG 2 (16+r:Nat) e (e+1) e:=by
 unfold treeI
 exact allG_into (by simp[pnI]) (by simp[pnI]) (by simp[pnI]) (by simp[pnI]) (by simp[pnW]) (by omega) (by simp[pnW]; omega) (by omega)
theorem progI_all (hk:k≤5) (he:e≤6):(progI k y e r d).AllG 2 (16+r:Nat) 0 7 0:=by
 refine wrap_allG e 0 _ (by omega) (by omega) ?_
 rw[Int.zero_add]
 exact allG_mono (by omega) (by omega) (treeI_all hk)
theorem progI_gd (hk:k≤5) (hy:y≤4) (he:e≤6) (hr:r≤34) (hd:d≤3):Gd (bsI k y) [] [] (progI k y e r d) []:=by
 refine wrap_gd e 0 [] _ (by omega) (by omega) rfl (by simp) fun ls h1 h2=>?_
 rw[Int.zero_add] at h1 h2
 unfold treeI
 exact gd_into (by omega) (by omega) (fun q=>by have:=h2 _ q; omega) (fun q=>by have:=h2 _ q; omega) (by omega) (fun x hx=>by have:=h2 x hx; omega) (bpI hd hk hy) bwI (bpI (by omega) hk hy) (bpI (by omega) hk hy) (bpI (by omega) hk hy) (bpW hk hy) bwW (by simp only[pnW]; omega) (by simp[pnI])
theorem progI_wf (hk:k≤5) (he:e≤6):(progI k y e r d).wf kdL:=allG_wf (progI_all hk he)
theorem progI_regs (hk:k≤5) (he:e≤6) (hr:r≤34):(progI k y e r d).regs (bsI k y).length []=true:=allG_regs (by omega) (by omega) (by omega) (by simp) (progI_all hk he)
theorem treeI_stp (hk:k≤5):(treeI k y e r d).stp≤20000:=by
 have h5:((k+1:Nat):Int).toNat≤6:=by omega
 have hw:((pnW k y).p.size).toNat≤8:=by simp[pnW,Pn.p]; omega
 have m:∀ (n x:Nat),n≤8→n * (1+x)≤8 * (1+x):=fun n x h=>Nat.mul_le_mul_right _ h
 unfold treeI intoT
 have l1:∀ (D:Int) (b:Fr Lo),(lpT D ((k+1:Nat):Int) b).stp≤8 * (1+b.stp):=fun D b=>Nat.le_trans (stp_lp _ _ _ (by omega)) (m _ _ (by omega))
 have l2:∀ (D:Int) (b:Fr Lo),(lpT D (((k+1:Nat):Int) - 1) b).stp≤8 * (1+b.stp):=fun D b=>Nat.le_trans (stp_lp _ _ _ (by omega)) (m _ _ (by omega))
 have l3:∀ (D:Int) (b:Fr Lo),(lpT D (pnW k y).p.size b).stp≤8 * (1+b.stp):=fun D b=>Nat.le_trans (stp_lp _ _ _ (by simp[pnW,Pn.p]; omega)) (m _ _ hw)
 have t1:∀ (a b t:Pc) (R D i:Int),(timesT a b t ((k+1:Nat):Int) R D i).stp≤200:=fun a b t R D i=>by
  unfold timesT
  have:=l1 D (frZ (timesB a t R D))
  simp only[stp_cat,stp_frL,timesB,sumL,topL,List.length_append,List.length_cons,List.length_nil] at this ⊢
  omega
 have t2:∀ (n t:Pc) (R D:Int),(downT n t ((k+1:Nat):Int) R D).stp≤200:=fun n t R D=>by
  unfold downT
  have:=l2 D (frZ (downB n t R D))
  simp only[stp_cat,stp_frL,downB,sumL,topL,List.length_append,List.length_cons,List.length_nil] at this ⊢
  omega
 have t3:∀ (n t:Pc) (R D:Int) (x:List Lo),x.length≤2→(lessT n t ((k+1:Nat):Int) R D x).stp≤100:=fun n t R D x hx=>by
  unfold lessT
  have:=l1 D (frZ (lessB n t R D++x))
  simp only[stp_cat,stp_frL,lessB,List.length_append,List.length_cons,List.length_nil] at this ⊢
  omega
 have t4:∀ (d n t:Pc) (R D:Int),(lastT d n t ((k+1:Nat):Int) R D).stp≤300:=fun d n t R D=>by
  unfold lastT
  have a1:=t3 n t R D [] (by simp)
  have a2:=t3 n t R D [cSel (R+6) (R+10) (R+7) (R+6),cSt d D 0 (R+6)] (by simp)
  simp only[stp_cat,stp_frL,List.length_cons,List.length_nil] at a1 a2 ⊢
  omega
 have a1:=t4 (pnI k y d).p (pnI k y 2).p (pnW k y).p ((16+r:Nat):Int) e
 have a2:=t1 (pnI k y 0).p (pnI k y 1).p (pnW k y).p ((16+r:Nat):Int) (e+1) e
 have a3:=t2 (pnI k y 2).p (pnW k y).p ((16+r:Nat):Int) (e+1)
 have a4:=l1 e ((timesT (pnI k y 0).p (pnI k y 1).p (pnW k y).p ((k+1:Nat):Int) ((16+r:Nat):Int) (e+1) e).cat (downT (pnI k y 2).p (pnW k y).p ((k+1:Nat):Int) ((16+r:Nat):Int) (e+1)))
 have a5:=l3 e (frZ [cSt (pnW k y).p e 0 ((16+r:Nat):Int)])
 have a6:=reckL_len (((16+r:Nat):Int)+10) (((16+r:Nat):Int)+1)
 simp only[stp_cat,stp_frL,fillT,List.length_append,List.length_cons,List.length_nil,a6] at a4 a5 ⊢
 omega
theorem wrap_stp:∀ (n:Nat) (i:Int) (f:Fr Lo),(wrapT n i f).stp=n+f.stp
 | 0,_,_=>by simp[wrapT]
 | n+1,i,f=>by
  rw[wrapT,Fr.stp,Fr.stp,wrap_stp n]
  have:(cLp i 1).imm.toNat=1:=by simp[cLp,iU1]
  rw[this]; omega
theorem progI_stp (hk:k≤5) (he:e≤6):(progI k y e r d).stp≤16777216:=by
 unfold progI
 rw[wrap_stp]
 have:=treeI_stp (k:=k) (y:=y) (e:=e) (r:=r) (d:=d) hk
 omega
theorem flat_le {nb:Nat} {R lo hi:Int}:∀ {f:Fr Lo} {lev:Int},f.AllG nb R lo hi lev→f.flat.length≤2 * f.stp
 | .nil,_,_=>by simp[Fr.flat]
 | .op o r,_,h=>by have:=flat_le h.2; simp only[Fr.flat,Fr.stp,List.length_cons]; omega
 | .loop o b e r,_,h=>by
  have h1:=flat_le h.2.2.2.1
  have h2:=flat_le h.2.2.2.2
  have h3:=le_mul_self (b:=1+b.stp) h.1.2.2.2.2.2.2
  simp only[Fr.flat,Fr.stp,List.length_cons,List.length_append]; omega
theorem progI_chk (hk:k≤5) (hy:y≤4) (he:e≤6) (hr:r≤34) (hd:d≤3):(chkR ((64:Nat):Int) (bsI k y) (progI k y e r d).flat).2=0:=by
 have h1:=flat_le (progI_all (y:=y) (r:=r) (d:=d) hk he)
 have h2:(progI k y e r d).stp≤30000:=by
  unfold progI; rw[wrap_stp]
  have:=treeI_stp (k:=k) (y:=y) (e:=e) (r:=r) (d:=d) hk
  omega
 have h3:=chkR_Gd (bs:=bsI k y) (f:=progI k y e r d) (S':=[]) (by simp[bsI]) (by omega) (fun b hb=>by
  simp[bsI] at hb
  rcases hb with rfl | rfl <;> simp only <;> omega) (progI_gd hk hy he hr hd)
 rw[show (((64:Nat):Int))=64 from rfl,h3]
theorem progI_fields (hk:k≤5) (he:e≤6):∀ o∈(progI k y e r d).flat,fieldsR 64 (bsI k y) o=true→secC (bsI k y) C16 o=true→∀ x∈makesR o,C16 x=true:=fun o ho hf=>(allG_flat (progI_all hk he) o ho).closed (by omega) hf
theorem progI_safe (hk:k≤5) (he:e≤6):∀ o∈(progI k y e r d).flat,safeR (bsI k y) C16 o=true:=fun o ho =>
 (allG_flat (progI_all hk he) o ho).safe (by omega) fun n hn=>by
  match n,hn with
  | 0,_=>rfl
  | 1,_=>rfl
theorem treeI_rg (hk:k≤5):∀ o∈(treeI k y e r d).flat,∀ x∈[o.d,o.e,o.a,o.b,o.c],x=-1∨((16+r:Nat)≤x∧x < (16+r:Nat)+14)∨((e:Int)≤x∧x≤e+1):=fun o ho x hx=>by
 have h:=allG_flat (treeI_all (y:=y) (e:=e) (r:=r) (d:=d) hk) o ho
 simp at hx
 rcases h with ⟨_,h1,h2,h3,h4,h5,_,_⟩ | rfl | ⟨lev,⟨g1,g2,g3,g4,g5,g6,g7⟩,g⟩
 ·unfold rgR at *
  rcases hx with rfl | rfl | rfl | rfl | rfl
  ·exact h1.imp_right .inl
  ·exact h2.imp_right .inl
  ·rcases h3 with (q | q) | q
   ·exact .inl q
   ·exact .inr (.inl q)
   ·exact .inr (.inr q)
  ·exact h4.imp_right .inl
  ·exact h5.imp_right .inl
 ·left; rcases hx with rfl | rfl | rfl | rfl | rfl <;> rfl
 ·rcases hx with rfl | rfl | rfl | rfl | rfl
  ·right; right; omega
  all_goals (left; assumption)
theorem treeI_pos:0 < (treeI k y e r d).flat.length:=by unfold treeI intoT; rw[flat_cat,flat_frL]; simp
theorem progI_ex {row:List UInt64} (hk:k≤5) (hy:y≤4) (he:e≤6) (hd:d=0∨d=1∨d=3) (hl:row.length=4 * (k+1)+y) (odd:row.getD (y+2 * (k+1)) 0 % 2=1) (hA:val ((row.drop y).take (k+1)) < val ((row.drop (y+2 * (k+1))).take (k+1))) :
  Tx (szZ (startZ 64 (bsI k y) [row,[]])) (progI k y e r d) (absZ (startZ 64 (bsI k y) [row,[]])) fun t =>
   (∀ i,¬ (y+d * (k+1)≤i∧i < y+d * (k+1)+(k+1))→t.m 0 i=row.getD i 0)∧vl (pl t.m (pnI k y d)) (k+1) < val ((row.drop (y+2 * (k+1))).take (k+1)) ∧
    ∃ Q Q':Nat,18446744073709551616 ^ (k+1) * vl (pl t.m (pnI k y d)) (k+1)+Q' * val ((row.drop (y+2 * (k+1))).take (k+1))=val ((row.drop y).take (k+1)) * val ((row.drop (y+(k+1))).take (k+1))+Q * val ((row.drop (y+2 * (k+1))).take (k+1)):=by
 have hb:(startZ 64 (bsI k y) [row,[]]).bufs=[row,List.replicate (k+3+y) 0]:=by
  simp[startZ,bufS,bsI,List.range_succ,rowS,gbf,hl]
  omega
 have hs0:szZ (startZ 64 (bsI k y) [row,[]]) 0=4 * (k+1)+y:=by unfold szZ; rw[hb]; simpa using hl
 have hs1:szZ (startZ 64 (bsI k y) [row,[]]) 1=k+3+y:=by unfold szZ; rw[hb]; simp
 have hm:∀ i,(absZ (startZ 64 (bsI k y) [row,[]])).m 0 i=row.getD i 0:=fun i=>by simp[absZ,hb]
 generalize startZ 64 (bsI k y) [row,[]]=st at *
 have hpl:∀ j,vl (pl (absZ st).m (pnI k y j)) (k+1)=vl (fun i=>row.getD ((y+j * (k+1))+i) 0) (k+1):=fun j=>vl_congr fun i _=>hm _
 have hv:∀ j,j≤3→vl (pl (absZ st).m (pnI k y j)) (k+1)=val ((row.drop (y+j * (k+1))).take (k+1)):=fun j hj=>by
  rw[hpl,vl_val]
  have:=Nat.mul_le_mul_right (k+1) hj
  omega
 have v0:=hv 0 (by omega)
 have v1:=hv 1 (by omega)
 have v2:=hv 2 (by omega)
 rw[Nat.zero_mul,Nat.add_zero] at v0
 rw[Nat.one_mul] at v1
 have inI:∀ j,j≤3→(pnI k y j).in_ (szZ st):=fun j hj=>by
  have:=Nat.mul_le_mul_right (k+1) hj
  exact⟨by simp only[pnI,hs0]; omega,by simp only[pnI,hs0]; omega⟩
 have inW:(pnW k y).in_ (szZ st):=⟨by simp only[pnW,hs1]; omega,by simp only[pnW,hs1]; omega⟩
 have djW:∀ j,Dj (pnW k y) (pnI k y j):=fun j=>.inl (by simp[pnW,pnI])
 have djW':∀ j,Dj (pnI k y j) (pnW k y):=fun j=>.inl (by simp[pnW,pnI])
 have dj2:Dj (pnI k y d) (pnI k y 2):=by
  right
  rcases hd with rfl | rfl | rfl <;> simp only[pnI] <;> omega
 refine wrap_ex e 0 _ _ fun s hs=>?_
 have ha:=inI 0 (by omega)
 have hb':=inI 1 (by omega)
 have hn:=inI 2 (by omega)
 have hdd:=inI d (by omega)
 have hh:=into_ex (sz:=szZ st) (s:=s) (R:=16+r) (D:=e) (k:=k) (d:=pnI k y d) (a:=pnI k y 0) (b:=pnI k y 1) (n:=pnI k y 2) (t:=pnW k y) (by omega) hdd ha hb' hn inW (Nat.le_refl _) (Nat.le_refl _) (Nat.le_refl _) (Nat.le_refl _) (Nat.le_refl _) dj2 (djW' d) (djW 0) (djW 1) (djW 2)
  (by rw[hs]; show (absZ st).m 0 (y+2 * (k+1)+0) % 2=1; rw[hm]; exact odd) (by rw[hs,v0,v2]; exact hA)
 refine hh.mono fun t ⟨_,e2,e3,Q,Q',e4⟩=>?_
 rw[hs] at e2 e3 e4
 rw[v2] at e3 e4
 rw[v0,v1] at e4
 refine⟨fun i hi=>?_,e3,Q,Q',e4⟩
 rw[e2 0 i (fun q=>hi q.2) (fun q=>by have:=q.1; simp[pnW] at this),hm]
end facts
end Go.Sv
namespace Go.Sv
def copyU (l:List UInt64) (o:Nat) (A:List UInt64):List UInt64:=l.take o++(A++l.drop (o+A.length))
theorem copyU_len {l A:List UInt64} {o:Nat} (h:o+A.length≤l.length):(copyU l o A).length=l.length:=by simp[copyU]; omega
theorem copyU_get {l A:List UInt64} {o:Nat} (h:o+A.length≤l.length) (i:Nat):(copyU l o A).getD i 0=if o≤i∧i < o+A.length then A.getD (i - o) 0 else l.getD i 0:=by
 simp only[copyU,List.getD_eq_getElem?_getD]
 by_cases h1:i < o
 ·rw[List.getElem?_append_left (by simp; omega),if_neg (by omega),List.getElem?_take,if_pos h1]
 rw[List.getElem?_append_right (by simp; omega),List.length_take,Nat.min_eq_left (by omega)]
 by_cases h2:i < o+A.length
 ·rw[List.getElem?_append_left (by omega),if_pos ⟨by omega,h2⟩]
 ·rw[List.getElem?_append_right (by omega),if_neg (by omega),List.getElem?_drop]
  congr 2; omega
theorem lay_copy {l A:List UInt64} {o m:Nat} (hA:A.length≤m):layLV (l.map LV.u) o ((A.map LV.u).take (min A.length m))=(copyU l o A).map LV.u:=by
 rw[Nat.min_eq_left hA,List.take_of_length_le (by simp)]
 simp[layLV,copyU,List.map_take,List.map_drop]
theorem vl_get:∀ {n:Nat} {f:Nat→UInt64} {l:List UInt64},l.length≤n→(∀ i,i < n→f i=l.getD i 0)→vl f n=val l
 | 0,f,l,h,_=>by
  have:l=[]:=List.eq_nil_of_length_eq_zero (by omega)
  subst this; simp[vl,val]
 | n+1,f,l,h,hf=>by
  rw[vl_low]
  cases l with
  | nil =>
   have h0:=hf 0 (by omega)
   have h1:=vl_get (n:=n) (f:=fun i=>f (i+1)) (l:=[]) (by simp) (fun i hi=>by have:=hf (i+1) (by omega); simpa using this)
   rw[h1,h0]; simp[val]
  | cons x l =>
   have h0:=hf 0 (by omega)
   have h1:=vl_get (n:=n) (f:=fun i=>f (i+1)) (l:=l) (by simp at h; omega) (fun i hi=>by have:=hf (i+1) (by omega); simpa using this)
   rw[h1,h0]; simp[val]
theorem row_vals {k y:Nat} {A B c row row1 row2 row3:List UInt64} (hA:A.length≤k+1) (hB:B.length≤k+1) (hc:c.length=k+1) (hrow:List.replicate (4 * (k+1)+y) 0=row)
  (h1:copyU row y A=row1) (h2:copyU row1 (y+(k+1)) B=row2) (h3:copyU row2 (y+2 * (k+1)) c=row3) :
  val ((row3.drop y).take (k+1))=val A∧val ((row3.drop (y+(k+1))).take (k+1))=val B∧val ((row3.drop (y+2 * (k+1))).take (k+1))=val c∧row3.getD (y+2 * (k+1)) 0=c.getD 0 0:=by
 have l0:row.length=4 * (k+1)+y:=by rw[←hrow]; simp
 have l1:row1.length=4 * (k+1)+y:=by rw[←h1,copyU_len (by omega),l0]
 have l2:row2.length=4 * (k+1)+y:=by rw[←h2,copyU_len (by omega),l1]
 have l3:row3.length=4 * (k+1)+y:=by rw[←h3,copyU_len (by omega),l2]
 have g0:∀ i,row.getD i 0=0:=fun i=>by
  rw[←hrow]
  simp only[List.getD_eq_getElem?_getD,List.getElem?_replicate]
  split <;> rfl
 have g1:=fun i=>copyU_get (l:=row) (A:=A) (o:=y) (by omega) i
 have g2:=fun i=>copyU_get (l:=row1) (A:=B) (o:=y+(k+1)) (by omega) i
 have g3:=fun i=>copyU_get (l:=row2) (A:=c) (o:=y+2 * (k+1)) (by omega) i
 rw[h1] at g1
 rw[h2] at g2
 rw[h3] at g3
 have beyond:∀ (l:List UInt64) (i:Nat),¬ i < l.length→l.getD i 0=0:=fun l i h=>by simp[List.getD_eq_getElem?_getD,List.getElem?_eq_none (Nat.le_of_not_lt h)]
 refine⟨?_,?_,?_,?_⟩
 ·rw[←vl_val (by omega)]
  refine vl_get hA fun i hi=>?_
  rw[g3,if_neg (by omega),g2,if_neg (by omega),g1]
  by_cases q:i < A.length
  ·rw[if_pos (by omega)]; congr 1; omega
  ·rw[if_neg (by omega),g0,beyond _ _ q]
 ·rw[←vl_val (by omega)]
  refine vl_get hB fun i hi=>?_
  rw[g3,if_neg (by omega),g2]
  by_cases q:i < B.length
  ·rw[if_pos (by omega)]; congr 1; omega
  ·rw[if_neg (by omega),g1,if_neg (by omega),g0,beyond _ _ q]
 ·rw[←vl_val (by omega)]
  refine vl_get (by omega) fun i hi=>?_
  rw[g3,if_pos (by omega)]; congr 1; omega
 ·rw[g3,if_pos (by omega),Nat.sub_self]
theorem into_out {k y d:Nat} {A B c row3:List UInt64} {s':Ms} {t:Fs} {Q Q':Nat} (hk:k≤5) (hd:d=0∨d=1∨d=3) (hl3:row3.length=4 * (k+1)+y) (hco:oddL c=true)
  (hrep:Rep (bsI k y).length (szZ (startZ 64 (bsI k y) [row3,[]])) s' t) (hm:∀ i,¬ (y+d * (k+1)≤i∧i < y+d * (k+1)+(k+1))→t.m 0 i=row3.getD i 0)
  (hlt:vl (pl t.m (pnI k y d)) (k+1) < val c) (hq:18446744073709551616 ^ (k+1) * vl (pl t.m (pnI k y d)) (k+1)+Q' * val c=val A * val B+Q * val c) :
  ∃ o o2,s'.bufs=[o,o2]∧o.length=4 * (k+1)+y∧(∀ i,i < 4 * (k+1)+y→¬ (y+d * (k+1)≤i∧i < y+d * (k+1)+(k+1))→o.getD i 0=row3.getD i 0)∧val ((o.drop (y+d * (k+1))).take (k+1))=val (reR (toL (val A * val B)) c ((k:Int)+1)):=by
 have hb:(startZ 64 (bsI k y) [row3,[]]).bufs=[row3,List.replicate (k+3+y) 0]:=by
  simp[startZ,bufS,bsI,List.range_succ,rowS,gbf,hl3]
  omega
 have hs0:szZ (startZ 64 (bsI k y) [row3,[]]) 0=4 * (k+1)+y:=by unfold szZ; rw[hb]; simpa using hl3
 have hl:=hrep.bl
 have hlen:=hrep.len 0 (by simp[bsI])
 have hmm:=fun n=>hrep.m 0 n (by simp[bsI])
 rw[hs0] at hlen
 simp only[hs0] at hmm
 generalize s'.bufs=bufs at *
 match bufs,hl with
 | [o,o2],_ =>
  simp only[List.getD_cons_zero] at hlen hmm
  refine⟨o,o2,rfl,hlen,fun i hi hn=>(hmm i hi).trans (hm i hn),?_⟩
  have hdk:d * (k+1)≤3 * (k+1):=Nat.mul_le_mul_right _ (by omega)
  rw[←vl_val (by omega)]
  have h1:vl (fun i=>o.getD (y+d * (k+1)+i) 0) (k+1)=vl (pl t.m (pnI k y d)) (k+1):=vl_congr fun i hi=>by
   rw[hmm _ (by omega)]; rfl
  rw[h1]
  have h2:=mont_red (t:=toL (val A * val B)) (n:=c) (D:=vl (pl t.m (pnI k y d)) (k+1)) (k:=k+1) (Q:=Q) (Q':=Q') hco (by omega) (by rw[val_toL]; exact hq) hlt
  rw[←h2]; norm_cast
end Go.Sv
