/- Texts of the evaluator, of the logic over it, of plain arithmetic. -/
import Derived.Test.YtodjkjimaheggaaGreatSvG3
namespace Go.Sv
def InvL (ls:List Int) (m:List Bool):Prop:=∀ x,0≤x→x < 8→(z3d m x=true↔x∈ls)
def Gd (bs:List Bf) (S:List Int) (ls:List Int) (f:Fr Lo) (S':List Int):Prop :=
 ∀ m,zek 64 m S→InvL ls m→∃ m',zek 64 m' S'∧InvL ls m'∧∀ i rest,goR 64 bs i m ls (f.flat++rest)=goR 64 bs (i+f.flat.length) m' ls rest
section gd
variable {bs : List Bf} {S S' S2 ls : List Int} {f g : Fr Lo}
theorem zek.sub {regs:Int} {m:List Bool} (h:zek regs m S) (k:∀ x∈S',x∈S):zek regs m S':=⟨h.1,fun x hx=>h.2 x (k x hx)⟩
theorem Gd.mono (h:Gd bs S ls f S') (k1:∀ x∈S,x∈S2) {S3:List Int} (k2:∀ x∈S3,x∈S'):Gd bs S2 ls f S3:=fun m hm hi=>by
 obtain⟨m',h1,h2,h3⟩:=h m (hm.sub k1) hi
 exact⟨m',h1.sub k2,h2,h3⟩
theorem Gd.cat (h:Gd bs S ls f S') (k:Gd bs S' ls g S2):Gd bs S ls (f.cat g) S2:=fun m hm hi=>by
 obtain⟨m1,h1,h2,h3⟩:=h m hm hi
 obtain⟨m2,k1,k2,k3⟩:=k m1 h1 h2
 refine⟨m2,k1,k2,fun i rest=>?_⟩
 rw[z1e,List.append_assoc,h3,k3,List.length_append,Nat.add_assoc]
theorem Gd.nil:Gd bs S ls .nil S:=fun m hm hi=>⟨m,hm,hi,fun _ _=>rfl⟩
theorem InvL.fold:∀ (mk:List Int) (m:List Bool),m.length=64→InvL ls m→(∀ x∈mk,8≤x∧x < 64)→InvL ls (mk.foldl (fun m r=>m.set r.toNat true) m)
 | [],_,_,h,_=>h
 | a::mk,m,hl,h,hr=>by
  have ha:=hr a (List.mem_cons_self ..)
  refine InvL.fold mk _ (by simpa using hl) (fun x h0 h8=>?_) fun x hx=>hr x (List.mem_cons_of_mem _ hx)
  rw[←h x h0 h8,zck ⟨by omega,by omega⟩ h0]
  constructor
  ·rintro (q | q)
   ·omega
   ·exact q
  ·exact .inr
theorem Gd.L (hls:∀ x∈ls,x < 8):∀ {l:List Lo} {S:List Int},okL 64 bs S l→(∀ o∈l,∀ x∈z08 o,8≤x)→Gd bs S ls (frZ l) ((l.flatMap z08)++S)
 | [],S,_,_=>fun m hm hi=>⟨m,by simpa using hm,hi,fun _ _=>rfl⟩
 | o::l,S,h,hk=>fun m hm hi=>by
  obtain⟨h1,⟨h2,h3⟩,h4,h5⟩:=h
  have hmk:=makes_in h1
  have hm8:=hk o (List.mem_cons_self ..)
  have hs:=stepR_op (m:=m) (ls:=ls) h1 h2 h3 (fun x hx q=>by have:=hls x q; have:=hm8 x hx; omega) (fun x hx=>(hm.2 x (h4 x hx)).2.2)
  have hm2:=hm.fold (z08 o) m S hmk
  have hi2:=hi.fold (z08 o) m (by have:=hm.1; omega) fun x hx=>⟨hm8 x hx,(hmk x hx).2⟩
  obtain⟨m',k1,k2,k3⟩:=Gd.L hls h5 (fun p hp=>hk p (List.mem_cons_of_mem _ hp)) _ hm2 hi2
  refine⟨m',k1.sub fun x hx=>?_,k2,fun i rest=>?_⟩
  ·simp only[List.flatMap_cons,List.mem_append] at hx ⊢
   rcases hx with (hx | hx) | hx
   ·exact .inr (.inl hx)
   ·exact .inl hx
   ·exact .inr (.inr hx)
  ·rw[frZ,Fr.flat,List.cons_append,goR,hs]
   dsimp only
   rw[if_pos rfl,k3,List.length_cons]
   congr 1; omega
theorem zth {d times:Int} (h:0≤d∧d < 64) (ht:1≤times∧times≤1048576):z0p 64 bs (cLp d times)=true:=by
 have h1:(iU times).toNat=times.toNat:=by
  obtain⟨n,rfl⟩:=Int.eq_ofNat_of_zero_le (show 0≤times by omega)
  rw[zba (by omega)]; rfl
 have h2:(1:UInt64)≤iU times:=by rw[UInt64.le_iff_toNat_le,h1]; show 1≤_; omega
 have h3:iU times≤(1048576:UInt64):=by rw[UInt64.le_iff_toNat_le,h1]; show _≤1048576; omega
 simp[z0p,cLp,z06,hasD,hasE,hasA,z40,z3z,memK,h,h2,h3]
theorem fields_En:z0p 64 bs cEn=true:=by simp[z0p,cEn,z06,hasD,hasE,hasA,z40,z3z,memK]
theorem zly {m:List Bool} {a x:Int} (ha:0≤a∧a < m.length) (hx:0≤x):z3d (m.set a.toNat false) x=true↔x≠a∧z3d m x=true:=by
 unfold z3d
 rw[z41 _ _ _ _ _ (by omega)]
 by_cases e:x.toNat=a.toNat
 ·rw[if_pos e]; simp; intro h; omega
 ·rw[if_neg e]
  constructor
  ·exact fun h=>⟨by rintro rfl; exact e rfl,h⟩
  ·exact fun h=>h.2
theorem Gd.loop {d times:Int} {b r:Fr Lo} {S3:List Int} (hls:ls.length < 8) (hd:0≤d∧d < 8) (hn:¬ d∈ls) (ht:1≤times∧times≤1048576) (hb:Gd bs (d::S) (ls++[d]) b S') (hs:∀ x∈S2,x∈S'∧x≠d) (hr:Gd bs S2 ls r S3):Gd bs S ls (.loop (cLp d times) b cEn r) S3:=fun m hm hi=>by
 have hl64:m.length=64:=by have:=hm.1; omega
 have hmd:z3d m d=false:=by
  cases q:z3d m d
  ·rfl
  ·exact absurd ((hi d hd.1 hd.2).1 q) hn
 have hst:z7r 64 bs m ls (cLp d times)=(0,m.set d.toNat true,ls++[d]):=by
  unfold z7r
  rw[if_neg (by rw[zth (by omega) ht]; decide),if_neg (by simp[cLp]),if_neg,if_neg (by simp[cLp,hmd]),if_neg (by simp[cLp]; omega),if_neg (by simp[cLp,z0u])]
  ·simp[cLp,z08]
  ·simp[cLp,z08,hn]
 have hm1:zek 64 (m.set d.toNat true) (d::S):=by
  have:=hm.fold [d] m S (fun x hx=>by simp at hx; omega)
  simpa using this
 have hi1:InvL (ls++[d]) (m.set d.toNat true):=fun x h0 h8=>by
  rw[zck ⟨by omega,by omega⟩ h0,hi x h0 h8]; simp[or_comm]
 obtain⟨m2,a1,a2,a3⟩:=hb _ hm1 hi1
 have hl2:m2.length=64:=by have:=a1.1; omega
 have hm3:zek 64 (m2.set d.toNat false) S2:=⟨by simpa using a1.1,fun x hx=>by
  obtain⟨h1,h2⟩:=hs x hx
  obtain⟨b1,b2,b3⟩:=a1.2 x h1
  exact⟨b1,b2,(zly ⟨by omega,by omega⟩ b1).2 ⟨h2,b3⟩⟩⟩
 have hi3:InvL ls (m2.set d.toNat false):=fun x h0 h8=>by
  rw[zly ⟨by omega,by omega⟩ h0,a2 x h0 h8]
  simp only[List.mem_append,List.mem_singleton]
  constructor
  ·rintro⟨h1,h2 | h2⟩
   ·exact h2
   ·exact absurd h2 h1
  ·exact fun h=>⟨fun q=>hn (q ▸ h),.inl h⟩
 obtain⟨m4,c1,c2,c3⟩:=hr _ hm3 hi3
 refine⟨m4,c1,c2,fun i rest=>?_⟩
 have hen:z7r 64 bs m2 (ls++[d]) cEn=(0,m2.set d.toNat false,ls):=by
  unfold z7r
  rw[if_neg (by rw[fields_En]; decide),if_pos (by rfl)]
  simp
 rw[Fr.flat,List.cons_append,goR,hst]
 dsimp only
 rw[if_pos rfl,List.append_assoc,a3,List.cons_append,goR,hen]
 dsimp only
 rw[if_pos rfl,c3,List.length_cons,List.length_append,List.length_cons]
 congr 1; omega
theorem Gd.lp {d times:Int} {b:Fr Lo} (hls:ls.length < 8) (hd:0≤d∧d < 8) (hn:¬ d∈ls) (hnS:¬ d∈S) (ht:times≤1048576) (hb:Gd bs (d::S) (ls++[d]) b S') (hs:∀ x∈S,x∈S'):Gd bs S ls (lpT d times b) S:=by
 unfold lpT
 split
 ·exact .nil
 ·exact .loop hls hd hn (by omega) hb (fun x hx=>⟨hs x hx,fun q=>hnS (q ▸ hx)⟩) .nil
theorem chkR_Gd (h1:bs.length≤32) (h2:f.flat.length≤65536) (h3:∀ b∈bs,1≤b.size∧b.size≤65536∧1≤b.kind∧b.kind≤3) (h:Gd bs [] [] f S'):chkR 64 bs f.flat=((f.flat.length:Int),0):=by
 unfold chkR
 rw[if_neg (by omega),if_neg,if_neg (by omega),if_neg]
 ·obtain⟨m',_,_,h4⟩:=h (List.replicate 64 false) ⟨by simp,by simp⟩ (fun x h0 h8=>by
   unfold z3d; rw[List.getD_eq_getElem?_getD,List.getElem?_replicate]; split <;> simp)
  have:=h4 0 []
  rw[List.append_nil] at this
  rw[show (64:Int).toNat=64 from rfl,this,goR,if_pos rfl,Nat.zero_add]
 ·rw[List.any_eq_true]; rintro⟨b,hb,hk⟩; have:=h3 b hb; simp at hk; omega
 ·rw[List.any_eq_true]; rintro⟨b,hb,hk⟩; have:=h3 b hb; simp at hk; omega
end gd
end Go.Sv
namespace Go.Sv
section w
variable {bs : List Bf} {S : List Int} {l : List Lo}
theorem okL_K {d:Int} {v:UInt64} (h:0≤d∧d < 64) (k:okL 64 bs (d::S) l):okL 64 bs S (cK d v::l):=⟨zf8 h,by simp[cK],by simp[z0u,cK],k⟩
theorem zx3 {d e a b:Int} (h:0≤d∧d < 64) (he:0≤e∧e < 64) (ha:0≤a∧a < 64) (hb:0≤b∧b < 64) (hn:d≠e) (ma:a∈S) (mb:b∈S) (k:okL 64 bs (d::e::S) l):okL 64 bs S (cMul d e a b::l) :=
 ⟨zas h he ha hb hn,by simp[cMul],by simp[z0u,cMul,ma,mb],k⟩
theorem zoo {k' d a b:Int} (hk:3≤k'∧k'≤7) (h:0≤d∧d < 64) (ha:0≤a∧a < 64) (hb:0≤b∧b < 64) (ma:a∈S) (mb:b∈S) (k:okL 64 bs (d::S) l):okL 64 bs S (cTwo k' d a b::l):=by
 refine⟨zb0 hk h ha hb,by simp[cTwo]; omega,fun x hx=>?_,?_⟩
 ·unfold z0u cTwo at hx
  simp only at hx
  rw[if_neg (by omega),if_pos (by omega)] at hx
  simp at hx
  rcases hx with rfl | rfl
  ·exact ma
  ·exact mb
 ·have:z08 (cTwo k' d a b)=[d]:=by unfold z08 cTwo; simp only; rw[if_neg (by omega),if_neg (by omega)]
  rw[this]; exact k
theorem zdt {k' d e a b c:Int} (hk:k'=11∨k'=12) (h:0≤d∧d < 64) (he:0≤e∧e < 64) (ha:0≤a∧a < 64) (hb:0≤b∧b < 64) (hc:0≤c∧c < 64) (hn:d≠e) (ma:a∈S) (mb:b∈S) (mc:c∈S) (k:okL 64 bs (d::e::S) l):okL 64 bs S (cCar k' d e a b c::l):=by
 refine⟨zsf hk h he ha hb hc hn,by rcases hk with rfl | rfl <;> simp[cCar],?_,?_⟩
 ·rcases hk with rfl | rfl <;> simp[z0u,cCar,ma,mb,mc]
 ·rcases hk with rfl | rfl <;> exact k
theorem okL_Sel {d c a b:Int} (h:0≤d∧d < 64) (hc:0≤c∧c < 64) (ha:0≤a∧a < 64) (hb:0≤b∧b < 64) (mc:c∈S) (ma:a∈S) (mb:b∈S) (k:okL 64 bs (d::S) l):okL 64 bs S (cSel d c a b::l) :=
 ⟨zr9 h hc ha hb,by simp[cSel],by simp[z0u,cSel,ma,mb,mc],k⟩
structure Bp (bs:List Bf) (p:Pn):Prop where
 b:p.b < bs.length
 s:((p.a+p.k:Nat):Int)≤(gbf bs p.b).size
 z:(gbf bs p.b).size≤65536
def Bw (bs:List Bf) (p:Pn):Prop:=(gbf bs p.b).kind≠1
theorem Bp.at {p:Pn} (h:Bp bs p) {off:Int} (h0:0≤off) (hk:off < p.k):iU (p.p.at_+off) < iU (gbf bs p.p.buf.toNat).size:=by
 obtain⟨o,rfl⟩:=Int.eq_ofNat_of_zero_le h0
 have hs:=h.s
 have hz:=h.z
 obtain⟨z,hz2⟩:=Int.eq_ofNat_of_zero_le (show 0≤(gbf bs p.b).size by omega)
 have e1:p.p.buf.toNat=p.b:=rfl
 rw[e1,hz2,UInt64.lt_iff_toNat_lt,zba (by omega),ix_no (by omega)]
 omega
theorem zc2 {d i off:Int} {p:Pn} (hp:Bp bs p) (h:0≤d∧d < 64) (hi:0≤i∧i < 64) (mi:i∈S) (k:okL 64 bs (d::S) l):okL 64 bs S (cLd d p.p i off::l):=by
 refine⟨zlb h (.inr hi) ⟨by simp[Pn.p],by have:=hp.b; simpa [Pn.p] using this⟩ (fun q=>by omega),by simp[cLd],?_,k⟩
 have:i≠-1:=by omega
 simp[z0u,cLd,this,mi]
theorem zbr {d off:Int} {p:Pn} (hp:Bp bs p) (h:0≤d∧d < 64) (h0:0≤off) (hk:off < p.k) (k:okL 64 bs (d::S) l):okL 64 bs S (cLd d p.p (-1) off::l):=by
 refine⟨zlb h (.inl rfl) ⟨by simp[Pn.p],by have:=hp.b; simpa [Pn.p] using this⟩ (fun _=>hp.at h0 hk),by simp[cLd],by simp[z0u,cLd],k⟩
theorem zko {v i off:Int} {p:Pn} (hp:Bp bs p) (hw:Bw bs p) (h:0≤v∧v < 64) (hi:0≤i∧i < 64) (mi:i∈S) (mv:v∈S) (k:okL 64 bs S l):okL 64 bs S (cSt p.p i off v::l):=by
 refine⟨zkr h (.inr hi) ⟨by simp[Pn.p],by have:=hp.b; simpa [Pn.p] using this⟩ hw (fun q=>by omega),by simp[cSt],?_,k⟩
 have:i≠-1:=by omega
 simp[z0u,cSt,this,mi,mv]
theorem zk2 {v off:Int} {p:Pn} (hp:Bp bs p) (hw:Bw bs p) (h:0≤v∧v < 64) (h0:0≤off) (hk:off < p.k) (mv:v∈S) (k:okL 64 bs S l):okL 64 bs S (cSt p.p (-1) off v::l):=by
 refine⟨zkr h (.inl rfl) ⟨by simp[Pn.p],by have:=hp.b; simpa [Pn.p] using this⟩ hw (fun _=>hp.at h0 hk),by simp[cSt],by simp[z0u,cSt,mv],k⟩
theorem okL_nil:okL 64 bs S []:=trivial
end w
section into
variable {bs : List Bf} {ls : List Int} {R D : Int} {d a b n t : Pn} {k : Int}
theorem zua {S:List Int} {l:List Lo} {a b:Int} (hR:16≤R∧R≤50) (ha:0≤a∧a < 64) (hb:0≤b∧b < 64) (ma:a∈S) (mb:b∈S) (m0:R∈S) (m3:R+3∈S) (m7:R+7∈S) (k:okL 64 bs ((R+3)::(R+5)::(R+6)::(R+9)::(R+6)::(R+8)::(R+5)::(R+6)::S) l):okL 64 bs S (sumL R a b++l):=by
 unfold sumL
 refine zx3 ?_ ?_ ha hb ?_ ma mb (zdt (.inl rfl) ?_ ?_ ?_ ?_ ?_ ?_ ?_ ?_ ?_ (zdt (.inl rfl) ?_ ?_ ?_ ?_ ?_ ?_ ?_ ?_ ?_ (zoo ?_ ?_ ?_ ?_ ?_ ?_ (zoo ?_ ?_ ?_ ?_ ?_ ?_ k))))
 all_goals first | omega | (simp[m0,m3,m7]; done) | (simp; omega)
theorem zp1 {n r:Int}:∀ o∈z90 n r,∀ x∈z08 o,r≤x∧x≤r+4:=by
 intro o ho
 simp[z90,zeo,zdy,zmh,cK,cMul,cTwo] at ho
 rcases ho with rfl | rfl | rfl | rfl | ⟨_,rfl | rfl | rfl⟩ | rfl | rfl <;> simp[z08] <;> omega
theorem gd_times {i:Int} (hR:16≤R∧R≤50) (hi:0≤i∧i < 8) (hD:0≤D∧D < 8) (hn:¬ D∈ls) (hDi:D≠i) (hll:ls.length < 8) (hls:∀ x∈ls,x < 8) (pa:Bp bs a) (pb:Bp bs b) (pt:Bp bs t) (wt:Bw bs t) (hk:0≤k∧k+1 < t.k) :
  Gd bs [i,R,R+1,R+10] ls (z4g a.p b.p t.p k R D i) [i,R,R+1,R+10]:=by
 have htk:(t.k:Int)≤65536:=by have:=pt.s; have:=pt.z; omega
 unfold z4g
 have h1:okL 64 bs [i,R,R+1,R+10] [cLd (R+2) b.p i 0,cK (R+3) 0]:=zc2 pb (by omega) (by omega) (by simp) (okL_K (by omega) okL_nil)
 have h2:okL 64 bs (D::(List.flatMap z08 [cLd (R+2) b.p i 0,cK (R+3) 0]++[i,R,R+1,R+10])) (z4t a.p t.p R D):=by
  unfold z4t
  refine zc2 pa (by omega) (by omega) (by simp) (zc2 pt (by omega) (by omega) (by simp) (zua hR (by omega) (by omega) (by simp) (by simp[z08,cLd]) (by simp[z08,cLd,cK]) (by simp[z08,cLd,cK]) (by simp) (zko pt wt (by omega) (by omega) (by simp) (by simp) okL_nil)))
 have h3:okL 64 bs (List.flatMap z08 [cLd (R+2) b.p i 0,cK (R+3) 0]++[i,R,R+1,R+10]) (topL t.p k R++[cSt t.p (-1) k (R+7),cSt t.p (-1) (k+1) (R+8)]):=by
  unfold topL
  refine zbr pt (by omega) (by omega) (by omega) (zdt (.inl rfl) (by omega) (by omega) (by omega) (by omega) (by omega) (by omega) (by simp) (by simp[z08,cLd,cK]) (by simp[z08,cLd,cK]) (zk2 pt wt (by omega) (by omega) (by omega) (by simp) (zk2 pt wt (by omega) (by omega) (by omega) (by simp) okL_nil)))
 refine Gd.mono ((Gd.L hls h1 ?_).cat ((Gd.lp hll hD hn ?_ (by omega) (Gd.L ?_ h2 ?_) ?_).cat (Gd.L hls h3 ?_))) (fun x h=>h) ?_
 ·simp[z08,cLd,cK]; omega
 ·simp[z08,cLd,cK]; omega
 ·intro x hx; rcases List.mem_append.1 hx with hx | hx
  ·exact hls x hx
  ·simp at hx; omega
 ·simp[z08,z4t,sumL,cLd,cSt,cMul,cCar,cTwo]; omega
 ·intro x hx; exact List.mem_append_right _ (List.mem_cons_of_mem _ hx)
 ·simp[z08,topL,cLd,cSt,cCar]; omega
 ·intro x hx; exact List.mem_append_right _ (List.mem_append_right _ hx)
theorem gd_down {i:Int} (hR:16≤R∧R≤50) (hD:0≤D∧D < 8) (hn:¬ D∈ls) (hDi:D≠i) (hll:ls.length < 8) (hls:∀ x∈ls,x < 8) (pn:Bp bs n) (pt:Bp bs t) (wt:Bw bs t) (hk:1≤k∧k+1 < t.k) (hnk:0 < n.k) :
  Gd bs [i,R,R+1,R+10] ls (z9l n.p t.p k R D) [i,R,R+1,R+10]:=by
 have htk:(t.k:Int)≤65536:=by have:=pt.s; have:=pt.z; omega
 unfold z9l
 have h1:okL 64 bs [i,R,R+1,R+10] ([cLd (R+7) t.p (-1) 0,cMul (R+5) (R+10) (R+7) (R+1),cLd (R+4) n.p (-1) 0,cK (R+3) 0]++sumL R (R+10) (R+4)):=by
  rw[←List.append_nil (_++sumL R (R+10) (R+4)),List.append_assoc]
  exact zbr pt (by omega) (by omega) (by omega) (zx3 (by omega) (by omega) (by omega) (by omega) (by omega) (by simp) (by simp) (zbr pn (by omega) (by omega) (by omega) (okL_K (by omega) (zua hR (by omega) (by omega) (by simp) (by simp) (by simp) (by simp) (by simp) okL_nil))))
 have h2:okL 64 bs (D::(List.flatMap z08 ([cLd (R+7) t.p (-1) 0,cMul (R+5) (R+10) (R+7) (R+1),cLd (R+4) n.p (-1) 0,cK (R+3) 0]++sumL R (R+10) (R+4))++[i,R,R+1,R+10])) (z9y n.p t.p R D):=by
  unfold z9y
  refine zc2 pn (by omega) (by omega) (by simp) (zc2 pt (by omega) (by omega) (by simp) (zua hR (by omega) (by omega) (by simp) (by simp[z08,cLd]) (by simp[z08,cLd,cK]) (by simp[z08,cLd,cK]) (by simp) (zko pt wt (by omega) (by omega) (by simp) (by simp) okL_nil)))
 have h3:okL 64 bs (List.flatMap z08 ([cLd (R+7) t.p (-1) 0,cMul (R+5) (R+10) (R+7) (R+1),cLd (R+4) n.p (-1) 0,cK (R+3) 0]++sumL R (R+10) (R+4))++[i,R,R+1,R+10]) (topL t.p k R++[cSt t.p (-1) (k - 1) (R+7),cLd (R+7) t.p (-1) (k+1),cTwo 3 (R+7) (R+7) (R+8),cSt t.p (-1) k (R+7)]):=by
  unfold topL
  refine zbr pt (by omega) (by omega) (by omega) (zdt (.inl rfl) (by omega) (by omega) (by omega) (by omega) (by omega) (by omega) (by simp) (by simp[z08,cLd,cK]) (by simp[z08,cLd,cK]) (zk2 pt wt (by omega) (by omega) (by omega) (by simp) (zbr pt (by omega) (by omega) (by omega) (zoo (by omega) (by omega) (by omega) (by omega) (by simp) (by simp) (zk2 pt wt (by omega) (by omega) (by omega) (by simp) okL_nil)))))
 refine Gd.mono ((Gd.L hls h1 ?_).cat ((Gd.lp hll hD hn ?_ (by omega) (Gd.L ?_ h2 ?_) ?_).cat (Gd.L hls h3 ?_))) (fun x h=>h) ?_
 ·simp[z08,sumL,cLd,cK,cMul,cCar,cTwo]; omega
 ·simp[z08,sumL,cLd,cK,cMul,cCar,cTwo]; omega
 ·intro x hx; rcases List.mem_append.1 hx with hx | hx
  ·exact hls x hx
  ·simp at hx; omega
 ·simp[z08,z9y,sumL,cLd,cSt,cMul,cCar,cTwo]; omega
 ·intro x hx; exact List.mem_append_right _ (List.mem_cons_of_mem _ hx)
 ·simp[z08,topL,cLd,cSt,cCar,cTwo]; omega
 ·intro x hx; exact List.mem_append_right _ (List.mem_append_right _ hx)
theorem gd_fill {x:Int} {S:List Int} {p:Pn} (hx:0≤x∧x < 64) (mx:x∈S) (hD:0≤D∧D < 8) (hn:¬ D∈ls) (hDS:¬ D∈S) (hll:ls.length < 8) (hls:∀ x∈ls,x < 8) (pp:Bp bs p) (wp:Bw bs p):Gd bs S ls (zer p.p x D) S:=by
 have hpk:(p.k:Int)≤65536:=by have:=pp.s; have:=pp.z; omega
 unfold zer
 have h:okL 64 bs (D::S) [cSt p.p D 0 x]:=zko pp wp hx (by omega) (by simp) (by simp[mx]) okL_nil
 refine Gd.lp hll hD hn hDS (by show (p.k:Int)≤_; omega) (Gd.L ?_ h ?_) ?_
 ·intro y hy; rcases List.mem_append.1 hy with hy | hy
  ·exact hls y hy
  ·simp at hy; omega
 ·simp[z08,cSt]
 ·intro y hy; exact List.mem_append_right _ (List.mem_cons_of_mem _ hy)
theorem zva {x:List Lo} {S:List Int} (hR:16≤R∧R≤50) (hD:0≤D∧D < 8) (hn:¬ D∈ls) (hDS:¬ D∈S) (hll:ls.length < 8) (hls:∀ x∈ls,x < 8) (pn:Bp bs n) (pt:Bp bs t) (hk:k≤65536)
  (hx:okL 64 bs ((R+6)::(R+8)::(R+4)::(R+7)::D::(R+8)::S) x) (hm:∀ o∈x,∀ y∈z08 o,8≤y):Gd bs S ls (z9n n.p t.p k R D x) ((R+8)::S):=by
 unfold z9n
 have h1:okL 64 bs S [cK (R+8) 0]:=okL_K (by omega) okL_nil
 have h2:okL 64 bs (D::(List.flatMap z08 [cK (R+8) 0]++S)) (zb6 n.p t.p R D++x):=by
  unfold zb6
  exact zc2 pt (by omega) (by omega) (by simp) (zc2 pn (by omega) (by omega) (by simp) (zdt (.inr rfl) (by omega) (by omega) (by omega) (by omega) (by omega) (by omega) (by simp) (by simp) (by simp[z08,cK]) hx))
 refine (Gd.L hls h1 ?_).cat (Gd.lp hll hD hn ?_ (by omega) (Gd.L ?_ h2 ?_) ?_)
 ·simp[z08,cK]; omega
 ·simp[z08,cK]; exact⟨by omega,hDS⟩
 ·intro y hy; rcases List.mem_append.1 hy with hy | hy
  ·exact hls y hy
  ·simp at hy; omega
 ·intro o ho
  rcases List.mem_append.1 ho with ho | ho
  ·simp[zb6] at ho
   rcases ho with rfl | rfl | rfl <;> simp[z08,cLd,cCar] <;> omega
  ·exact hm o ho
 ·intro y hy; exact List.mem_append_right _ (List.mem_cons_of_mem _ hy)
theorem gd_last (hR:16≤R∧R≤50) (hD:0≤D∧D < 8) (hn:¬ D∈ls) (hll:ls.length < 8) (hls:∀ x∈ls,x < 8) (pd:Bp bs d) (wd:Bw bs d) (pn:Bp bs n) (pt:Bp bs t) (hk:0≤k∧k < t.k):Gd bs [R] ls (zeq d.p n.p t.p k R D) [R]:=by
 have htk:(t.k:Int)≤65536:=by have:=pt.s; have:=pt.z; omega
 unfold zeq
 have h1:okL 64 bs [R+8,R] [cLd (R+7) t.p (-1) k,cCar 12 (R+6) (R+10) (R+7) R (R+8)]:=zbr pt (by omega) (by omega) (by omega) (zdt (.inr rfl) (by omega) (by omega) (by omega) (by omega) (by omega) (by omega) (by simp) (by simp) (by simp) okL_nil)
 refine Gd.mono ((zva hR hD hn (by simp; omega) hll hls pn pt (by omega) okL_nil (by simp)).cat ((Gd.L hls h1 ?_).cat (zva hR hD hn ?_ hll hls pn pt (by omega) ?_ ?_))) (fun x h=>h) ?_
 ·simp[z08,cLd,cCar]; omega
 ·simp[z08,cLd,cCar]; omega
 ·exact okL_Sel (by omega) (by omega) (by omega) (by omega) (by simp[z08,cLd,cCar]) (by simp) (by simp) (zko pd wd (by omega) (by omega) (by simp) (by simp) okL_nil)
 ·simp[z08,cSel,cSt]; omega
 ·intro x hx; simp at hx; subst hx; simp
theorem gd_into (hR:16≤R∧R≤50) (hD:0≤D∧D+1 < 8) (hn:¬ D∈ls) (hn1:¬ D+1∈ls) (hll:ls.length < 7) (hls:∀ x∈ls,x < 8) (pd:Bp bs d) (wd:Bw bs d) (pa:Bp bs a) (pb:Bp bs b) (pn:Bp bs n) (pt:Bp bs t) (wt:Bw bs t) (hk:1≤k∧k+1 < t.k) (hnk:0 < n.k) :
  Gd bs [] ls (zhf d.p a.p b.p n.p t.p k R D) []:=by
 have htk:(t.k:Int)≤65536:=by have:=pt.s; have:=pt.z; omega
 unfold zhf
 have h0:okL 64 bs [] ([cK R 0,cLd (R+10) n.p (-1) 0]++z90 (R+10) (R+1)) :=
  okL_K (by omega) (zbr pn (by omega) (by omega) (by omega) (okL_reck (by omega) (by omega) (by simp)))
 have hm0:∀ x∈[R,R+1,R+10],x∈List.flatMap z08 ([cK R 0,cLd (R+10) n.p (-1) 0]++z90 (R+10) (R+1))++[]:=by
  intro x hx
  simp at hx
  rcases hx with rfl | rfl | rfl <;> simp[z08,cK,cLd,z90,zeo,cMul,cTwo]
 refine Gd.mono (Gd.cat (Gd.mono (Gd.L hls h0 ?_) (fun x h=>h) hm0) ((gd_fill (x:=R) (by omega) (by simp) ⟨hD.1,by omega⟩ hn (by simp; omega) (by omega) hls pt wt).cat ((Gd.lp (by omega) ⟨hD.1,by omega⟩ hn (by simp; omega) (by omega) ((gd_times hR (by omega) (by omega) ?_ (by omega) ?_ ?_ pa pb pt wt (by omega)).cat (gd_down hR (by omega) ?_ (by omega) ?_ ?_ pn pt wt hk hnk)) ?_).cat (Gd.mono (gd_last hR ⟨hD.1,by omega⟩ hn (by omega) hls pd wd pn pt (by omega)) ?_ (fun x h=>h))))) (fun x h=>h) (by simp)
 ·intro o ho
  rcases List.mem_append.1 ho with ho | ho
  ·simp at ho
   rcases ho with rfl | rfl <;> simp[z08,cK,cLd] <;> omega
  ·intro x hx
   have:=zp1 o ho x hx
   omega
 ·simp; exact⟨hn1,by omega⟩
 ·simp; omega
 ·intro x hx; rcases List.mem_append.1 hx with hx | hx
  ·exact hls x hx
  ·simp at hx; omega
 ·simp; exact⟨hn1,by omega⟩
 ·simp; omega
 ·intro x hx; rcases List.mem_append.1 hx with hx | hx
  ·exact hls x hx
  ·simp at hx; omega
 ·intro x hx; exact List.mem_cons_of_mem _ hx
 ·intro x hx; simp at hx; simp[hx]
end into
end Go.Sv
namespace Go.Sv
def rgR (R x:Int):Prop:=x=-1∨(R≤x∧x < R+14)
structure OpG (nb:Nat) (R lo hi:Int) (o:Lo):Prop where
 k:o.kind≠16∧o.kind≠17
 d:rgR R o.d
 e:rgR R o.e
 a:rgR R o.a∨(lo≤o.a∧o.a≤hi)
 b:rgR R o.b
 c:rgR R o.c
 m:(o.kind=14∨o.kind=15)→o.a=-1∨(lo≤o.a∧o.a≤hi)
 f:o.buf.toNat < nb
def LpG (lev:Int) (o:Lo):Prop:=o.kind=16∧o.d=lev∧o.e=-1∧o.a=-1∧o.b=-1∧o.c=-1∧1≤o.imm.toNat
def Fr.AllG (nb:Nat) (R lo hi:Int):Int→Fr Lo→Prop
 | _,.nil=>True
 | lev,.op o r=>OpG nb R lo hi o∧r.AllG nb R lo hi lev
 | lev,.loop o b e r=>LpG lev o∧(lo≤lev∧lev≤hi)∧e=cEn∧b.AllG nb R lo hi (lev+1)∧r.AllG nb R lo hi lev
section al
variable {nb : Nat} {R lo hi : Int}
theorem allG_cat:∀ {f g:Fr Lo} {lev:Int},f.AllG nb R lo hi lev→g.AllG nb R lo hi lev→(f.cat g).AllG nb R lo hi lev
 | .nil,_,_,_,h=>h
 | .op _ _,_,_,h,k=>⟨h.1,allG_cat h.2 k⟩
 | .loop _ _ _ _,_,_,h,k=>⟨h.1,h.2.1,h.2.2.1,h.2.2.2.1,allG_cat h.2.2.2.2 k⟩
theorem allG_L:∀ {l:List Lo} {lev:Int},(∀ o∈l,OpG nb R lo hi o)→(frZ l).AllG nb R lo hi lev
 | [],_,_=>trivial
 | o::_,_,h=>⟨h o (List.mem_cons_self ..),allG_L fun x hx=>h x (List.mem_cons_of_mem _ hx)⟩
theorem zfy {lev times:Int} {b:Fr Lo} (ht:times≤1000000) (hl:lo≤lev∧lev≤hi) (hb:b.AllG nb R lo hi (lev+1)):(lpT lev times b).AllG nb R lo hi lev:=by
 unfold lpT
 split
 ·trivial
 ·refine⟨⟨rfl,rfl,rfl,rfl,rfl,rfl,?_⟩,hl,rfl,hb,trivial⟩
  obtain⟨n,rfl⟩:=Int.eq_ofNat_of_zero_le (show 0≤times by omega)
  show 1≤(iU (n:Int)).toNat
  rw[zba (by omega)]; omega
theorem allG_wf:∀ {f:Fr Lo} {lev:Int},f.AllG nb R lo hi lev→f.wf kdL
 | .nil,_,_=>trivial
 | .op o r,_,h=>⟨by unfold kdL; rw[if_neg h.1.k.1,if_neg h.1.k.2],allG_wf h.2⟩
 | .loop o b e r,_,h=>⟨by unfold kdL; rw[if_pos h.1.1],by rw[h.2.2.1]; rfl,allG_wf h.2.2.2.1,allG_wf h.2.2.2.2⟩
theorem rg_ok {x:Int} {ls:List Nat} (hR:16≤R∧R≤50) (hl:∀ y∈ls,y < 8) (h:rgR R x):zi3 ls x=true:=by
 unfold zi3
 rcases h with rfl | h
 ·simp
 ·have:¬ x.toNat∈ls:=fun q=>by have:=hl _ q; omega
  simp[this]; omega
theorem zcc (hR:16≤R∧R≤50) (h0:0≤lo) (h8:hi < 8):∀ {f:Fr Lo} {lev:Int} {ls:List Nat},(∀ y∈ls,(y:Int) < lev∧y < 8)→f.AllG nb R lo hi lev→f.regs nb ls=true
 | .nil,_,_,_,_=>rfl
 | .op o r,lev,ls,hl,h=>by
  obtain⟨g,h⟩:=h
  have hr:=zcc hR h0 h8 hl h
  have hl8:∀ y∈ls,y < 8:=fun y hy=>(hl y hy).2
  have ha:o.a < 64:=by rcases g.a with (q | q) | q <;> omega
  have hb:o.b < 64:=by rcases g.b with q | q <;> omega
  have hc:o.c < 64:=by rcases g.c with q | q <;> omega
  simp only[Fr.regs,Bool.and_eq_true,decide_eq_true_eq]
  exact⟨rg_ok hR hl8 g.d,rg_ok hR hl8 g.e,ha,hb,hc,g.f,hr⟩
 | .loop o b e r,lev,ls,hl,h=>by
  obtain⟨⟨g1,g2,g3,g4,g5,g6,g7⟩,k,_,hb,h⟩:=h
  have hr:=zcc hR h0 h8 hl h
  have hb:=zcc (ls:=o.d.toNat::ls) hR h0 h8 (fun y hy=>by
   rcases List.mem_cons.1 hy with rfl | hy
   ·omega
   ·have:=hl y hy; omega) hb
  simp only[Fr.regs,Bool.and_eq_true,decide_eq_true_eq]
  refine⟨?_,by omega,g7,hb,hr⟩
  unfold zi3
  have:¬ o.d.toNat∈ls:=fun q=>by have:=hl _ q; omega
  simp[this]; omega
end al
end Go.Sv
namespace Go.Sv
section into
variable {nb : Nat} {R lo hi D k : Int} {d a b n t : Pn}
theorem zd7 {v i off:Int} {p:Pn} (hp:p.b < nb) (hv:rgR R v) (hi':i=-1∨(lo≤i∧i≤hi)):OpG nb R lo hi (cLd v p.p i off) :=
 ⟨by simp[cLd],hv,.inl rfl,hi'.imp_left fun q=>.inl q,.inl rfl,.inl rfl,fun _=>hi',by simpa [cLd,Pn.p] using hp⟩
theorem zl6 {v i off:Int} {p:Pn} (hp:p.b < nb) (hv:rgR R v) (hi':i=-1∨(lo≤i∧i≤hi)):OpG nb R lo hi (cSt p.p i off v) :=
 ⟨by simp[cSt],.inl rfl,.inl rfl,hi'.imp_left fun q=>.inl q,hv,.inl rfl,fun _=>hi',by simpa [cSt,Pn.p] using hp⟩
theorem og_K {v:Int} {w:UInt64} (hn:0 < nb) (hv:rgR R v):OpG nb R lo hi (cK v w):=⟨by simp[cK],hv,.inl rfl,.inl (.inl rfl),.inl rfl,.inl rfl,fun q=>by simp[cK] at q,hn⟩
theorem zwa {x y z w:Int} (hn:0 < nb) (hx:rgR R x) (hy:rgR R y) (hz:rgR R z) (hw:rgR R w):OpG nb R lo hi (cMul x y z w):=⟨by simp[cMul],hx,hy,.inl hz,hw,.inl rfl,fun q=>by simp[cMul] at q,hn⟩
theorem zqt {kk x z w:Int} (hk:3≤kk∧kk≤7) (hn:0 < nb) (hx:rgR R x) (hz:rgR R z) (hw:rgR R w):OpG nb R lo hi (cTwo kk x z w):=⟨by simp[cTwo]; omega,hx,.inl rfl,.inl hz,hw,.inl rfl,fun q=>by simp[cTwo] at q; omega,hn⟩
theorem zia {kk x y z w c:Int} (hk:kk=11∨kk=12) (hn:0 < nb) (hx:rgR R x) (hy:rgR R y) (hz:rgR R z) (hw:rgR R w) (hc:rgR R c):OpG nb R lo hi (cCar kk x y z w c):=⟨by simp[cCar]; omega,hx,hy,.inl hz,hw,hc,fun q=>by simp[cCar] at q; omega,hn⟩
theorem og_Sel {x z w c:Int} (hn:0 < nb) (hx:rgR R x) (hc:rgR R c) (hz:rgR R z) (hw:rgR R w):OpG nb R lo hi (cSel x c z w):=⟨by simp[cSel],hx,.inl rfl,.inl hz,hw,hc,fun q=>by simp[cSel] at q,hn⟩
theorem og_reck (hn:0 < nb):∀ o∈z90 (R+10) (R+1),OpG nb R lo hi o:=by
 intro o ho
 simp[z90,zeo,zdy,zmh] at ho
 rcases ho with rfl | rfl | rfl | rfl | ⟨_,rfl | rfl | rfl⟩ | rfl | rfl
 all_goals first | (refine og_K hn ?_; unfold rgR; omega) | (refine zwa hn ?_ ?_ ?_ ?_ <;> (unfold rgR; omega)) | (refine zqt (by omega) hn ?_ ?_ ?_ <;> (unfold rgR; omega))
theorem zd0 {x y:List Lo} (h:∀ o∈x,OpG nb R lo hi o) (k:∀ o∈y,OpG nb R lo hi o):∀ o∈x++y,OpG nb R lo hi o:=fun o ho=>(List.mem_append.1 ho).elim (h o) (k o)
theorem z0t {x:Lo} {y:List Lo} (h:OpG nb R lo hi x) (k:∀ o∈y,OpG nb R lo hi o):∀ o∈x::y,OpG nb R lo hi o:=fun o ho=>by
 rcases List.mem_cons.1 ho with rfl | ho
 ·exact h
 ·exact k o ho
theorem og_nil:∀ o∈([]:List Lo),OpG nb R lo hi o:=fun _ h=>by cases h
theorem rg (j:Int) (h:0≤j∧j < 14):rgR R (R+j):=.inr (by omega)
theorem rg0:rgR R R:=.inr (by omega)
theorem zuc {x y:Int} (hn:0 < nb) (hx:rgR R x) (hy:rgR R y):∀ o∈sumL R x y,OpG nb R lo hi o:=by
 unfold sumL
 exact z0t (zwa hn (rg 5 (by omega)) (rg 6 (by omega)) hx hy) (z0t (zia (.inl rfl) hn (rg 6 (by omega)) (rg 8 (by omega)) (rg 6 (by omega)) (rg 7 (by omega)) rg0) (z0t (zia (.inl rfl) hn (rg 6 (by omega)) (rg 9 (by omega)) (rg 6 (by omega)) (rg 3 (by omega)) rg0) (z0t (zqt (by omega) hn (rg 5 (by omega)) (rg 5 (by omega)) (rg 8 (by omega))) (z0t (zqt (by omega) hn (rg 3 (by omega)) (rg 5 (by omega)) (rg 9 (by omega))) og_nil))))
theorem zkt {x:List Lo} {lev:Int} (pn:n.b < nb) (pt:t.b < nb) (hk:k≤1000000) (hl:lo≤lev∧lev≤hi) (hx:∀ o∈x,OpG nb R lo hi o):(z9n n.p t.p k R lev x).AllG nb R lo hi lev:=by
 unfold z9n zb6
 have hn:0 < nb:=by omega
 exact allG_cat (allG_L (z0t (og_K hn (rg 8 (by omega))) og_nil)) (zfy hk hl (allG_L (zd0 (z0t (zd7 pt (rg 7 (by omega)) (.inr hl)) (z0t (zd7 pn (rg 4 (by omega)) (.inr hl)) (z0t (zia (.inr rfl) hn (rg 6 (by omega)) (rg 8 (by omega)) (rg 7 (by omega)) (rg 4 (by omega)) (rg 8 (by omega))) og_nil))) hx)))
theorem zx7 (pd:d.b < nb) (pa:a.b < nb) (pb:b.b < nb) (pn:n.b < nb) (pt:t.b < nb) (hk:k≤1000000) (htk:t.k≤1000000) (hl:lo≤D∧D+1≤hi):(zhf d.p a.p b.p n.p t.p k R D).AllG nb R lo hi D:=by
 have hn:0 < nb:=by omega
 have hD:lo≤D∧D≤hi:=by omega
 have hD1:lo≤D+1∧D+1≤hi:=by omega
 unfold zhf
 refine allG_cat (allG_L (zd0 (z0t (og_K hn rg0) (z0t (zd7 pn (rg 10 (by omega)) (.inl rfl)) og_nil)) (og_reck hn))) (allG_cat ?_ (allG_cat (zfy hk hD (allG_cat ?_ ?_)) ?_))
 ·unfold zer
  exact zfy (by show (t.k:Int)≤_; omega) hD (allG_L (z0t (zl6 pt rg0 (.inr hD)) og_nil))
 ·unfold z4g z4t topL
  refine allG_cat (allG_L (z0t (zd7 pb (rg 2 (by omega)) (.inr hD)) (z0t (og_K hn (rg 3 (by omega))) og_nil))) (allG_cat (zfy hk hD1 (allG_L (zd0 (z0t (zd7 pa (rg 4 (by omega)) (.inr hD1)) (z0t (zd7 pt (rg 7 (by omega)) (.inr hD1)) og_nil)) (zd0 (zuc hn (rg 4 (by omega)) (rg 2 (by omega))) (z0t (zl6 pt (rg 6 (by omega)) (.inr hD1)) og_nil))))) (allG_L (zd0 (z0t (zd7 pt (rg 7 (by omega)) (.inl rfl)) (z0t (zia (.inl rfl) hn (rg 7 (by omega)) (rg 8 (by omega)) (rg 7 (by omega)) (rg 3 (by omega)) rg0) og_nil)) (z0t (zl6 pt (rg 7 (by omega)) (.inl rfl)) (z0t (zl6 pt (rg 8 (by omega)) (.inl rfl)) og_nil)))))
 ·unfold z9l z9y topL
  refine allG_cat (allG_L (zd0 (z0t (zd7 pt (rg 7 (by omega)) (.inl rfl)) (z0t (zwa hn (rg 5 (by omega)) (rg 10 (by omega)) (rg 7 (by omega)) (rg 1 (by omega))) (z0t (zd7 pn (rg 4 (by omega)) (.inl rfl)) (z0t (og_K hn (rg 3 (by omega))) og_nil)))) (zuc hn (rg 10 (by omega)) (rg 4 (by omega)))))
   (allG_cat (zfy (by omega) hD1 (allG_L (zd0 (z0t (zd7 pn (rg 4 (by omega)) (.inr hD1)) (z0t (zd7 pt (rg 7 (by omega)) (.inr hD1)) og_nil)) (zd0 (zuc hn (rg 10 (by omega)) (rg 4 (by omega))) (z0t (zl6 pt (rg 6 (by omega)) (.inr hD1)) og_nil)))))
   (allG_L (zd0 (z0t (zd7 pt (rg 7 (by omega)) (.inl rfl)) (z0t (zia (.inl rfl) hn (rg 7 (by omega)) (rg 8 (by omega)) (rg 7 (by omega)) (rg 3 (by omega)) rg0) og_nil)) (z0t (zl6 pt (rg 7 (by omega)) (.inl rfl)) (z0t (zd7 pt (rg 7 (by omega)) (.inl rfl)) (z0t (zqt (by omega) hn (rg 7 (by omega)) (rg 7 (by omega)) (rg 8 (by omega))) (z0t (zl6 pt (rg 7 (by omega)) (.inl rfl)) og_nil))))))) 
 ·unfold zeq
  exact allG_cat (zkt pn pt hk hD og_nil) (allG_cat (allG_L (z0t (zd7 pt (rg 7 (by omega)) (.inl rfl)) (z0t (zia (.inr rfl) hn (rg 6 (by omega)) (rg 10 (by omega)) (rg 7 (by omega)) rg0 (rg 8 (by omega))) og_nil))) (zkt pn pt hk hD (z0t (og_Sel hn (rg 6 (by omega)) (rg 10 (by omega)) (rg 7 (by omega)) (rg 6 (by omega))) (z0t (zl6 pd (rg 6 (by omega)) (.inr hD)) og_nil))))
end into
def lpsL:Nat→Int→List Lo
 | 0,_=>[]
 | n+1,i=>⟨16,i,-1,-1,-1,-1,0,1⟩::lpsL n (i+1)
end Go.Sv
namespace Go.Sv
theorem powW (k:Nat):(18446744073709551616:Nat) ^ k=2 ^ (64 * k):=by rw[Nat.pow_mul]
theorem mont_val {P D T N Q Q' inv:Nat} (hi:P * inv % N=1 % N) (h:P * D+Q' * N=T+Q * N) (hD:D < N):D=T * inv % N:=by
 have h1:(P * D) % N=T % N:=by
  have:=congrArg (· % N) h
  simpa using this
 have h2:D * (P * inv) % N=T * inv % N:=by
  rw[show D * (P * inv)=P * D * inv by grind,Nat.mul_mod,h1,←Nat.mul_mod]
 rw[←h2,Nat.mul_mod,hi,←Nat.mul_mod,Nat.mul_one,Nat.mod_eq_of_lt hD]
theorem mont_red {t n:List UInt64} {D k Q Q':Nat} (ho:oddL n=true) (hk:k≤512) (h:18446744073709551616 ^ k * D+Q' * val n=val t+Q * val n) (hD:D < val n):val (reR t n k)=D:=by
 unfold reR
 rw[if_pos ⟨ho,by omega,by omega⟩,z3g,Int.toNat_natCast]
 have hs:=(zn3 (zp3 ho) (zbb (zjh ho) (64 * k))).2
 have h1:2 ^ (64 * k) * invN (2 ^ (64 * k) % val n) (val n) % val n=1 % val n:=by
  rw[←hs]
  conv=>lhs; rw[Nat.mul_mod]
  conv=>rhs; rw[Nat.mul_mod,Nat.mod_mod]
 rw[powW] at h
 exact (mont_val h1 h hD).symm
theorem run_all {f:Fr Lo} {bs:List Bf} {X:List (List UInt64)} {Q:Fs→Prop} (hwf:f.wf kdL) (hreg:f.regs bs.length []=true) (hcost:f.costZ≤800000000)
  (hx:Tx (szZ (z1d 64 bs X)) f (absZ (z1d 64 bs X)) Q) :
  ∃ T s' t,T≤800000000∧runZ f.flat (f.ends 0) T (z1d 64 bs X)=some s'∧s'.i=f.flat.length∧Rep bs.length (szZ (z1d 64 bs X)) s' t∧Q t∧s'.l.length≤f.costZ:=by
 have hr0:(z1d 64 bs X).r.length=64:=by simp[z1d]
 have hrep:=Rep.abs (z1d 64 bs X) hr0
 have hbl:(z1d 64 bs X).bufs.length=bs.length:=by simp[z1d,bufS]
 rw[hbl] at hrep
 obtain⟨t,h1,h2⟩:=hx
 obtain⟨T,s',k1,k2,_,k4,k5,k6⟩:=zfd (os:=f.flat) (es:=f.ends 0) f 0 [] [] [] (z1d 64 bs X) (absZ (z1d 64 bs X)) t hwf hreg (by simp) (by simp) rfl rfl hrep h1
 refine⟨T,s',t,by omega,k1,by rw[k2,Fr.flat_len,Nat.zero_add],k4,h2,?_⟩
 have:(z1d 64 bs X).l.length=0:=rfl
 omega
theorem costZ_le:∀ f:Fr Lo,f.costZ≤2 * f.stp
 | .nil=>by simp[Fr.costZ]
 | .op _ r=>by have:=costZ_le r; rw[Fr.costZ,Fr.stp]; omega
 | .loop o b _ r=>by
  have h1:=costZ_le b
  have h2:=costZ_le r
  have h3:o.imm.toNat * (b.costZ+2)≤o.imm.toNat * (2 * (1+b.stp)):=Nat.mul_le_mul_left _ (by omega)
  rw[Nat.mul_left_comm] at h3
  rw[Fr.costZ,Fr.stp]; omega
end Go.Sv
namespace Go.Sv
noncomputable def zsx (l:List UInt64) (i:Nat):UInt64:=if l=[] then 0 else l.getD (i % l.length) 0 * iU (1+((i / l.length:Nat):Int) * 2)+iU ((i / l.length:Nat):Int)
noncomputable def zdb (l:List UInt64) (n:Nat):List UInt64:=(List.range n).map (zsx l)
theorem z8c (l:List UInt64) (n:Nat):(zdb l n).length=n:=by simp[zdb]
end Go.Sv
namespace Go.Sv
theorem zub (d times:Int) (b:Fr Lo) (ht:times≤1000000):(lpT d times b).stp≤times.toNat * (1+b.stp):=by
 unfold lpT
 split
 ·simp[Fr.stp]
 ·obtain⟨n,rfl⟩:=Int.eq_ofNat_of_zero_le (show 0≤times by omega)
  rw[Fr.stp,Fr.stp]
  have:(cLp d (n:Int)).imm.toNat=n:=zba (by omega)
  rw[this]; simp
section facts
variable {k y e r d : Nat}
theorem zfi {nb:Nat} {R lo hi:Int}:∀ {f:Fr Lo} {lev:Int},f.AllG nb R lo hi lev→f.flat.length≤2 * f.stp
 | .nil,_,_=>by simp[Fr.flat]
 | .op o r,_,h=>by have:=zfi h.2; simp only[Fr.flat,Fr.stp,List.length_cons]; omega
 | .loop o b e r,_,h=>by
  have h1:=zfi h.2.2.2.1
  have h2:=zfi h.2.2.2.2
  have h3:=zgp (b:=1+b.stp) h.1.2.2.2.2.2.2
  simp only[Fr.flat,Fr.stp,List.length_cons,List.length_append]; omega
end facts
end Go.Sv
namespace Go.Sv
theorem vl_get:∀ {n:Nat} {f:Nat→UInt64} {l:List UInt64},l.length≤n→(∀ i,i < n→f i=l.getD i 0)→vl f n=val l
 | 0,f,l,h,_=>by
  have:l=[]:=List.eq_nil_of_length_eq_zero (by omega)
  subst this; simp[vl,val]
 | n+1,f,l,h,hf=>by
  rw[vl_low]
  cases l with
  | nil =>
   have h0:=hf 0 (by omega)
   have h1:=vl_get (n:=n) (f:=fun i=>f (i+1)) (l:=[]) (by simp) (fun i hi=>by have:=hf (i+1) (by omega); simpa using this)
   rw[h1,h0]; simp[val]
  | cons x l =>
   have h0:=hf 0 (by omega)
   have h1:=vl_get (n:=n) (f:=fun i=>f (i+1)) (l:=l) (by simp at h; omega) (fun i hi=>by have:=hf (i+1) (by omega); simpa using this)
   rw[h1,h0]; simp[val]
end Go.Sv
namespace Go.Sv
def pnM (k i:Nat):Pn:=⟨i,0,k+1⟩
def pnX (k:Nat):Pn:=⟨5,0,k+3⟩
def bsM (k:Nat):List Bf:=[⟨(k:Int)+1,2,true⟩,⟨(k:Int)+1,2,true⟩,⟨(k:Int)+1,2,true⟩,⟨(k:Int)+1,2,true⟩,⟨(k:Int)+3,2,false⟩,⟨(k:Int)+3,2,true⟩]
noncomputable def z9m (k:Nat):Fr Lo:=zhf (pnM k 3).p (pnM k 0).p (pnM k 1).p (pnM k 2).p (pnX k).p (k+1:Nat) ((40:Nat):Int) 0
section facts
variable {k : Nat}
theorem ze9 {i:Nat} (hi:i < 4):gbf (bsM k) i=⟨(k:Int)+1,2,true⟩:=by
 have h:i=0∨i=1∨i=2∨i=3:=by omega
 rcases h with rfl | rfl | rfl | rfl <;> rfl
theorem bpM {i:Nat} (hi:i < 4) (hk:k≤5):Bp (bsM k) (pnM k i):=⟨by simp[bsM,pnM]; omega,by rw[pnM,ze9 hi]; simp,by rw[pnM,ze9 hi]; dsimp only; omega⟩
theorem bwM {i:Nat} (hi:i < 4):Bw (bsM k) (pnM k i):=by rw[Bw,pnM,ze9 hi]; simp
theorem bpX (hk:k≤5):Bp (bsM k) (pnX k):=⟨by simp[bsM,pnX],by simp[bsM,pnX,gbf],by simp[bsM,pnX,gbf]; omega⟩
theorem bwX:Bw (bsM k) (pnX k):=by simp[Bw,bsM,pnX,gbf]
theorem zcn (hk:k≤5):(z9m k).AllG 6 ((40:Nat):Int) 0 1 0:=by
 unfold z9m
 exact zx7 (by simp[pnM]) (by simp[pnM]) (by simp[pnM]) (by simp[pnM]) (by simp[pnX]) (by omega) (by simp[pnX]; omega) (by omega)
theorem treeM_gd (hk:k≤5):Gd (bsM k) [] [] (z9m k) []:=by
 unfold z9m
 exact gd_into (by omega) (by omega) (by simp) (by simp) (by simp) (by simp) (bpM (by omega) hk) (bwM (by omega)) (bpM (by omega) hk) (bpM (by omega) hk) (bpM (by omega) hk) (bpX hk) bwX (by simp only[pnX]; omega) (by simp[pnM])
theorem treeM_wf (hk:k≤5):(z9m k).wf kdL:=allG_wf (zcn hk)
theorem zs3 (hk:k≤5):(z9m k).regs (bsM k).length []=true:=zcc (by omega) (by omega) (by omega) (by simp) (zcn hk)
theorem zh2 (hk:k≤5):(z9m k).stp≤20000:=by
 have h5:((k+1:Nat):Int).toNat≤6:=by omega
 have hw:((pnX k).p.size).toNat≤8:=by simp[pnX,Pn.p]; omega
 have m:∀ (n x:Nat),n≤8→n * (1+x)≤8 * (1+x):=fun n x h=>Nat.mul_le_mul_right _ h
 unfold z9m zhf
 have l1:∀ (D:Int) (b:Fr Lo),(lpT D ((k+1:Nat):Int) b).stp≤8 * (1+b.stp):=fun D b=>Nat.le_trans (zub _ _ _ (by omega)) (m _ _ (by omega))
 have l2:∀ (D:Int) (b:Fr Lo),(lpT D (((k+1:Nat):Int) - 1) b).stp≤8 * (1+b.stp):=fun D b=>Nat.le_trans (zub _ _ _ (by omega)) (m _ _ (by omega))
 have l3:∀ (D:Int) (b:Fr Lo),(lpT D (pnX k).p.size b).stp≤8 * (1+b.stp):=fun D b=>Nat.le_trans (zub _ _ _ (by simp[pnX,Pn.p]; omega)) (m _ _ hw)
 have t1:∀ (a b t:Pc) (R D i:Int),(z4g a b t ((k+1:Nat):Int) R D i).stp≤200:=fun a b t R D i=>by
  unfold z4g
  have:=l1 D (frZ (z4t a t R D))
  simp only[stp_cat,zgy,z4t,sumL,topL,List.length_append,List.length_cons,List.length_nil] at this ⊢
  omega
 have t2:∀ (n t:Pc) (R D:Int),(z9l n t ((k+1:Nat):Int) R D).stp≤200:=fun n t R D=>by
  unfold z9l
  have:=l2 D (frZ (z9y n t R D))
  simp only[stp_cat,zgy,z9y,sumL,topL,List.length_append,List.length_cons,List.length_nil] at this ⊢
  omega
 have t3:∀ (n t:Pc) (R D:Int) (x:List Lo),x.length≤2→(z9n n t ((k+1:Nat):Int) R D x).stp≤100:=fun n t R D x hx=>by
  unfold z9n
  have:=l1 D (frZ (zb6 n t R D++x))
  simp only[stp_cat,zgy,zb6,List.length_append,List.length_cons,List.length_nil] at this ⊢
  omega
 have t4:∀ (d n t:Pc) (R D:Int),(zeq d n t ((k+1:Nat):Int) R D).stp≤300:=fun d n t R D=>by
  unfold zeq
  have a1:=t3 n t R D [] (by simp)
  have a2:=t3 n t R D [cSel (R+6) (R+10) (R+7) (R+6),cSt d D 0 (R+6)] (by simp)
  simp only[stp_cat,zgy,List.length_cons,List.length_nil] at a1 a2 ⊢
  omega
 have a1:=t4 (pnM k 3).p (pnM k 2).p (pnX k).p ((40:Nat):Int) 0
 have a2:=t1 (pnM k 0).p (pnM k 1).p (pnX k).p ((40:Nat):Int) (0+1) 0
 have a3:=t2 (pnM k 2).p (pnX k).p ((40:Nat):Int) (0+1)
 have a4:=l1 0 ((z4g (pnM k 0).p (pnM k 1).p (pnX k).p ((k+1:Nat):Int) ((40:Nat):Int) (0+1) 0).cat (z9l (pnM k 2).p (pnX k).p ((k+1:Nat):Int) ((40:Nat):Int) (0+1)))
 have a5:=l3 0 (frZ [cSt (pnX k).p 0 0 ((40:Nat):Int)])
 have a6:=zt5 (((40:Nat):Int)+10) (((40:Nat):Int)+1)
 simp only[stp_cat,zgy,zer,List.length_append,List.length_cons,List.length_nil,a6] at a4 a5 ⊢
 omega
theorem zu1 (hk:k≤5):(chkR ((64:Nat):Int) (bsM k) (z9m k).flat).2=0:=by
 have h1:=zfi (zcn hk)
 have h2:=zh2 hk
 have h3:=chkR_Gd (bs:=bsM k) (f:=z9m k) (S':=[]) (by simp[bsM]) (by omega) (fun b hb=>by
  simp[bsM] at hb
  rcases hb with rfl | rfl | rfl <;> simp only <;> omega) (treeM_gd hk)
 rw[show (((64:Nat):Int))=64 from rfl,h3]
theorem treeM_ex {A B N x3 x4 x5:List UInt64} (hk:k≤5) (hA:A.length=k+1) (hB:B.length=k+1) (hN:N.length=k+1) (h3:x3.length=k+1) (h4:x4.length=k+3) (h5:x5.length=k+3) (odd:N.getD 0 0 % 2=1) (hlt:val A < val N) :
  Tx (szZ (z1d 64 (bsM k) [A,B,N,x3,x4,x5])) (z9m k) (absZ (z1d 64 (bsM k) [A,B,N,x3,x4,x5])) fun t =>
   vl (pl t.m (pnM k 3)) (k+1) < val N∧∃ Q Q':Nat,18446744073709551616 ^ (k+1) * vl (pl t.m (pnM k 3)) (k+1)+Q' * val N=val A * val B+Q * val N:=by
 have hb:(z1d 64 (bsM k) [A,B,N,x3,x4,x5]).bufs=[A,B,N,x3,x4,x5]:=by
  simp[z1d,bufS,bsM,List.range_succ,rowS,gbf,hA,hB,hN,h3,h4,h5]
 have hs:∀ i,szZ (z1d 64 (bsM k) [A,B,N,x3,x4,x5]) i=([A,B,N,x3,x4,x5].getD i []).length:=fun i=>by unfold szZ; rw[hb]
 have hm:∀ i j,(absZ (z1d 64 (bsM k) [A,B,N,x3,x4,x5])).m i j=([A,B,N,x3,x4,x5].getD i []).getD j 0:=fun i j=>by simp[absZ,hb]
 generalize z1d 64 (bsM k) [A,B,N,x3,x4,x5]=st at *
 have s0:szZ st 0=k+1:=by rw[hs]; simpa using hA
 have s1:szZ st 1=k+1:=by rw[hs]; simpa using hB
 have s2:szZ st 2=k+1:=by rw[hs]; simpa using hN
 have s3:szZ st 3=k+1:=by rw[hs]; simpa using h3
 have s5:szZ st 5=k+3:=by rw[hs]; simpa using h5
 have v0:vl (pl (absZ st).m (pnM k 0)) (k+1)=val A:=by
  refine vl_get (by omega) fun i hi=>?_
  show (absZ st).m 0 (0+i)=_
  rw[hm,Nat.zero_add]; rfl
 have v1:vl (pl (absZ st).m (pnM k 1)) (k+1)=val B:=by
  refine vl_get (by omega) fun i hi=>?_
  show (absZ st).m 1 (0+i)=_
  rw[hm,Nat.zero_add]; rfl
 have v2:vl (pl (absZ st).m (pnM k 2)) (k+1)=val N:=by
  refine vl_get (by omega) fun i hi=>?_
  show (absZ st).m 2 (0+i)=_
  rw[hm,Nat.zero_add]; rfl
 have hh:=into_ex (sz:=szZ st) (s:=absZ st) (R:=40) (D:=0) (k:=k) (d:=pnM k 3) (a:=pnM k 0) (b:=pnM k 1) (n:=pnM k 2) (t:=pnX k) (by omega)
  ⟨by simp only[pnM,s3]; omega,by simp only[pnM,s3]; omega⟩ ⟨by simp only[pnM,s0]; omega,by simp only[pnM,s0]; omega⟩ ⟨by simp only[pnM,s1]; omega,by simp only[pnM,s1]; omega⟩ ⟨by simp only[pnM,s2]; omega,by simp only[pnM,s2]; omega⟩ ⟨by simp only[pnX,s5]; omega,by simp only[pnX,s5]; omega⟩
  (Nat.le_refl _) (Nat.le_refl _) (Nat.le_refl _) (Nat.le_refl _) (Nat.le_refl _) (.inl (by simp[pnM])) (.inl (by simp[pnM,pnX])) (.inl (by simp[pnM,pnX])) (.inl (by simp[pnM,pnX])) (.inl (by simp[pnM,pnX]))
  (by show (absZ st).m 2 (0+0) % 2=1; rw[hm]; exact odd) (by rw[v0,v2]; exact hlt)
 refine hh.mono fun t ⟨_,_,e3,Q,Q',e4⟩=>?_
 rw[v2] at e3 e4
 rw[v0,v1] at e4
 exact⟨e3,Q,Q',e4⟩
theorem outM {A B N x3 x4 x5:List UInt64} {s':Ms} {t:Fs} {Q Q':Nat} (hk:k≤5) (hA:A.length=k+1) (hB:B.length=k+1) (hN:N.length=k+1) (h3:x3.length=k+1) (h4:x4.length=k+3) (h5:x5.length=k+3) (hco:oddL N=true)
  (hrep:Rep (bsM k).length (szZ (z1d 64 (bsM k) [A,B,N,x3,x4,x5])) s' t) (hlt:vl (pl t.m (pnM k 3)) (k+1) < val N)
  (hq:18446744073709551616 ^ (k+1) * vl (pl t.m (pnM k 3)) (k+1)+Q' * val N=val A * val B+Q * val N) :
  ∃ o:List UInt64,3 < s'.bufs.length∧s'.bufs.getD 3 []=o∧o.length=k+1∧val o < val N∧val o=val A * val B * invN (2 ^ (64 * (k+1)) % val N) (val N) % val N:=by
 have hb:(z1d 64 (bsM k) [A,B,N,x3,x4,x5]).bufs=[A,B,N,x3,x4,x5]:=by
  simp[z1d,bufS,bsM,List.range_succ,rowS,gbf,hA,hB,hN,h3,h4,h5]
 have hs3:szZ (z1d 64 (bsM k) [A,B,N,x3,x4,x5]) 3=k+1:=by unfold szZ; rw[hb]; simpa using h3
 have hl:=hrep.bl
 have hlen:=hrep.len 3 (by simp[bsM])
 have hmm:=fun n=>hrep.m 3 n (by simp[bsM])
 rw[hs3] at hlen
 simp only[hs3] at hmm
 have hv:val (s'.bufs.getD 3 [])=vl (pl t.m (pnM k 3)) (k+1):=by
  refine (vl_get (by omega) fun i hi=>?_).symm
  show t.m 3 (0+i)=_
  rw[Nat.zero_add]; exact (hmm i hi).symm
 refine⟨_,by rw[hl]; simp[bsM],rfl,hlen,by rw[hv]; exact hlt,?_⟩
 rw[hv]
 have h2:=mont_red (t:=toL (val A * val B)) (n:=N) (D:=vl (pl t.m (pnM k 3)) (k+1)) (k:=k+1) (Q:=Q) (Q':=Q') hco (by omega) (by rw[z3g]; exact hq) hlt
 rw[←h2]
 unfold reR
 rw[if_pos ⟨hco,by omega,by omega⟩,z3g,z3g,Int.toNat_natCast]
end facts
theorem zn9 (x y v:Nat):x % v * y % v=x * y % v:=by rw[Nat.mul_mod,Nat.mod_mod,←Nat.mul_mod]
theorem back_val {a R inv v:Nat} (hi:R * inv % v=1 % v) (ha:a < v):(a * (R * R % v) * inv % v) * (1 % v) * inv % v=a:=by
 have one:∀ y,R * inv * y % v=y % v:=fun y=>by rw[←zn9,hi,zn9,Nat.one_mul]
 rw[Nat.mul_assoc,zn9,show a * (R * R % v) * inv * (1 % v * inv)=(1 % v) * (a * (R * R % v) * inv * inv) by grind,zn9,Nat.one_mul,
  show a * (R * R % v) * inv * inv=(R * R % v) * (a * inv * inv) by grind,zn9,show R * R * (a * inv * inv)=R * inv * (R * inv * a) by grind,one,one,Nat.mod_eq_of_lt ha]
end Go.Sv
