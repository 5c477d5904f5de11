/- Limb programs, by the document: ends of loops, steps. -/
import Derived.Test.YtodjkjimaheggaaGreatSvG3
import Derived.Test.YtodjkjimaheggaaGreatFnMb
namespace Go.Proofs.YtodjkjimaheggaaGreat
open Go.Sv
set_option linter.unusedSimpArgs false
set_option maxRecDepth 10000
def zae:LC:=(.seq (.ops [.z 1 (.box (.t 0)),.z 2 (.move (.c .nilSl))]) (.seq (.ops [.z 10 (.loadN 3 (.t 1)),.z 11 (.callV (.c (.fn (.func 78) [] [])) [.t 10]),.m 9 11,.z 12 (.extract 0 (.t 9)),.z 13 (.extract 1 (.t 9)),.m 3 12,.m 4 13]) (.seq (.seq (.ops [.m 14 4,.z 15 (.bin .neq true 35 (.t 14) (.c (.i 0)))]) (.cond (.t 15) (.seq (.ops [.z 2 (.move (.c .nilSl))]) .ret) .skip)) (.seq (.ops [.f 16 2 1,.l 17 16,.z 18 (.lenSl (.t 17)),.z 19 (.mkSl 1 [(.i 0)] (.t 18) (.t 18)),.m 5 19]) (.seq (.ops [.z 6 (.move (.c .nilSl))]) (.seq (.seq (.ops [.z 7 (.move (.c (.i 0)))]) (.block 0 (.loop (.seq (.seq (.ops [.m 20 7,.f 21 2 1,.l 22 21,.z 23 (.lenSl (.t 22)),.z 24 (.bin .lss false 3 (.t 20) (.t 23))]) (.cond (.t 24) .skip (.exit 0))) (.seq (.block 1 (.seq (.ops [.m 27 5,.m 28 7,.z 29 (.ixAddr 1 (.t 27) (.t 28)),⟨none,none,.store 1 (.t 29) (.c (.i (-1)))⟩]) (.seq (.ops [.f 30 2 1,.l 31 30,.m 32 7,.z 33 (.ixAddr 8 (.t 31) (.t 32)),.f 34 0 33,.l 35 34]) (.block 2 (.seq (.ops [.z 37 (.bin .eql true 3 (.t 35) (.c (.i 16))),.m 36 37]) (.cond (.t 36) (.ops [.m 38 6,.m 39 7,.z 40 (.buildSl 1 1 [(.i 0)] [(0,1,.t 39)]),.z 41 (.appG 1 (.t 38) (.t 40)),.m 6 41]) (.seq (.ops [.z 43 (.bin .eql true 3 (.t 35) (.c (.i 17))),.m 42 43]) (.cond (.t 42) (.seq (.ops [.m 44 6,.m 45 6,.z 46 (.lenSl (.t 45)),.z 47 (.bin .sub true 3 (.t 46) (.c (.i 1))),.z 48 (.ixAddr 1 (.t 44) (.t 47)),.l 49 48,.m 8 49]) (.seq (.ops [.m 50 6,.m 51 6,.z 52 (.lenSl (.t 51)),.z 53 (.bin .sub true 3 (.t 52) (.c (.i 1))),.z 54 (.slSl 1 (.t 50) none (some (.t 53))),.m 6 54]) (.ops [.m 55 5,.m 56 7,.m 57 5,.m 58 8,.m 59 8,.m 60 7,.z 61 (.ixAddr 1 (.t 55) (.t 56)),⟨none,none,.store 1 (.t 61) (.t 59)⟩,.z 62 (.ixAddr 1 (.t 57) (.t 58)),⟨none,none,.store 1 (.t 62) (.t 60)⟩]))) .skip)))))))) (.ops [.m 25 7,.z 26 (.bin .add true 3 (.t 25) (.c (.i 1))),.m 7 26])))))) (.seq (.ops [.m 63 5,.m 2 63]) .ret)))))))
theorem r_ref12_Ends:z0f Tryz.prog 87=some ⟨64,zae.r,[.tmp 2]⟩:=by kernel_rfl
theorem k_ref12_Ends:zae.ok=true:=by kernel_rfl
def z94:LC:=(.seq (.ops [.z 1 (.box (.t 0)),.z 2 (.move (.c (.i 0)))]) (.seq (.ops [.z 11 (.loadN 3 (.t 1)),.z 12 (.callV (.c (.fn (.func 78) [] [])) [.t 11]),.m 10 12,.z 13 (.extract 0 (.t 10)),.z 14 (.extract 1 (.t 10)),.m 3 13,.m 4 14]) (.seq (.seq (.ops [.m 15 4,.z 16 (.bin .neq true 35 (.t 15) (.c (.i 0)))]) (.cond (.t 16) (.seq (.ops [.z 2 (.move (.c (.i 0)))]) .ret) .skip)) (.seq (.ops [.z 5 (.move (.c .nilSl))]) (.seq (.ops [.z 6 (.move (.c (.i 0)))]) (.seq (.ops [.z 7 (.move (.c .nilSl))]) (.seq (.seq (.ops [.z 8 (.move (.c (.i 0)))]) (.block 0 (.loop (.seq (.seq (.ops [.m 17 8,.f 18 2 1,.l 19 18,.z 20 (.lenSl (.t 19)),.z 21 (.bin .lss false 3 (.t 17) (.t 20))]) (.cond (.t 21) .skip (.exit 0))) (.seq (.block 1 (.seq (.ops [.f 24 2 1,.l 25 24,.m 26 8,.z 27 (.ixAddr 8 (.t 25) (.t 26)),.f 28 0 27,.l 29 28]) (.block 2 (.seq (.ops [.z 34 (.bin .eql true 3 (.t 29) (.c (.i 16))),.m 33 34]) (.cond (.t 33) (.seq (.draw [(.m 35 5,[]),(.m 36 6,[]),(.z 37 (.buildSl 1 1 [(.i 0)] [(0,1,.t 36)]),[]),(.m 39 7,[]),(.f 40 2 1,[]),(.l 41 40,[]),(.m 42 8,[]),(.z 43 (.ixAddr 8 (.t 41) (.t 42)),[]),(.f 44 7 43,[]),(.l 45 44,[]),(.z 46 (.cvInt .i64 (.t 45)),[]),(.z 47 (.buildSl 1 1 [(.i 0)] [(0,1,.t 46)]),[(.l 45 44,false),(.l 41 40,false),(.z 37 (.buildSl 1 1 [(.i 0)] [(0,1,.t 36)]),true)]),(.z 38 (.appG 1 (.t 35) (.t 37)),[(.z 47 (.buildSl 1 1 [(.i 0)] [(0,1,.t 46)]),true),(.l 45 44,false),(.l 41 40,false)]),(.z 48 (.appG 1 (.t 39) (.t 47)),[]),(.m 5 38,[]),(.m 7 48,[])]) (.ops [.z 6 (.move (.c (.i 1)))])) (.seq (.ops [.z 50 (.bin .eql true 3 (.t 29) (.c (.i 17))),.m 49 50]) (.cond (.t 49) (.seq (.ops [.m 51 5,.z 52 (.lenSl (.t 51)),.z 53 (.bin .sub true 3 (.t 52) (.c (.i 1))),.m 9 53]) (.seq (.seq (.ops [.m 54 6,.m 55 7,.m 56 9,.z 57 (.ixAddr 1 (.t 55) (.t 56)),.l 58 57,.z 59 (.bin .quo true 3 (.c (.i 1125899906842624)) (.t 58)),.z 60 (.bin .gtr false 3 (.t 54) (.t 59))]) (.cond (.t 60) (.ops [.z 6 (.move (.c (.i 1125899906842624)))]) (.ops [.m 61 6,.m 62 7,.m 63 9,.z 64 (.ixAddr 1 (.t 62) (.t 63)),.l 65 64,.z 66 (.bin .mul false 3 (.t 61) (.t 65)),.m 6 66]))) (.seq (.ops [.m 67 6,.m 68 5,.m 69 9,.z 70 (.ixAddr 1 (.t 68) (.t 69)),.l 71 70,.z 72 (.bin .add false 3 (.t 67) (.t 71)),.z 73 (.maxi false (.c (.i 1125899906842624)) (.t 72)),.m 6 73]) (.draw [(.m 74 5,[]),(.m 75 9,[]),(.z 76 (.slSl 1 (.t 74) none (some (.t 75))),[]),(.m 77 7,[]),(.m 78 9,[]),(.z 79 (.slSl 1 (.t 77) none (some (.t 78))),[]),(.m 5 76,[]),(.m 7 79,[])])))) (.ops [.m 30 6,.z 31 (.bin .add true 3 (.t 30) (.c (.i 1))),.z 32 (.maxi false (.c (.i 1125899906842624)) (.t 31)),.m 6 32])))))))) (.ops [.m 22 8,.z 23 (.bin .add true 3 (.t 22) (.c (.i 1))),.m 8 23])))))) (.seq (.ops [.m 80 6,.m 2 80]) .ret))))))))
theorem r_ref12_Steps:z0f Tryz.prog 85=some ⟨81,z94.r,[.tmp 2]⟩:=by kernel_rfl
theorem k_ref12_Steps:z94.ok=true:=by kernel_rfl
def z7n:LC:=(.seq (.ops [.z 2 (.box (.t 0)),.z 4 (.move (.c (.bool false)))]) (.seq (.seq (.ops [.m 7 1,.z 8 (.lenSl (.t 7)),.f 9 1 2,.l 10 9,.z 11 (.lenSl (.t 10)),.z 12 (.bin .neq false 3 (.t 8) (.t 11))]) (.cond (.t 12) (.seq (.ops [.z 4 (.move (.c (.bool false)))]) .ret) .skip)) (.seq (.seq (.ops [.z 5 (.move (.c (.i 0)))]) (.block 0 (.loop (.seq (.seq (.ops [.m 13 5,.m 14 1,.z 15 (.lenSl (.t 14)),.z 16 (.bin .lss false 3 (.t 13) (.t 15))]) (.cond (.t 16) .skip (.exit 0))) (.seq (.block 1 (.seq (.ops [.f 19 1 2,.l 20 19,.m 21 5,.z 22 (.ixAddr 3 (.t 20) (.t 21)),.f 23 0 22,.l 24 23,.m 6 24]) (.seq (.seq (.ops [.f 25 1 2,.l 26 25,.m 27 5,.z 28 (.ixAddr 3 (.t 26) (.t 27)),.f 29 1 28,.l 30 29,.z 31 (.bin .eql true 3 (.t 30) (.c (.i 3)))]) (.cond (.t 31) (.ops [.z 6 (.move (.c (.i 0)))]) .skip)) (.seq (.ops [.m 32 1,.m 33 5,.z 34 (.ixAddr 1 (.t 32) (.t 33)),.l 35 34,.z 36 (.lenSl (.t 35)),.m 37 6,.z 38 (.bin .neq false 3 (.t 36) (.t 37))]) (.cond (.t 38) (.seq (.ops [.z 4 (.move (.c (.bool false)))]) .ret) .skip))))) (.ops [.m 17 5,.z 18 (.bin .add true 3 (.t 17) (.c (.i 1))),.m 5 18])))))) (.seq (.ops [.z 4 (.move (.c (.bool true)))]) .ret))))
theorem r_ref12_Rows:z0f Tryz.prog 86=some ⟨39,z7n.r,[.tmp 4]⟩:=by kernel_rfl
theorem k_ref12_Rows:z7n.ok=true:=by kernel_rfl
theorem zin {regs:Int} {bs:List Bf}:∀ (l:List Lo) (i:Nat) (m:List Bool) (ls:List Int),(goR regs bs i m ls l).2=0→∀ o∈l,z0p regs bs o=true
 | [],_,_,_,_,o,ho=>by cases ho
 | o::l,i,m,ls,h,x,hx=>by
  unfold goR at h
  by_cases hs:(z7r regs bs m ls o).1=0
  ·rw[if_pos hs] at h
   rcases List.mem_cons.1 hx with rfl | hx
   ·cases hf:z0p regs bs x with
    | true=>rfl
    | false =>
     unfold z7r at hs
     rw[if_pos hf] at hs
     exact absurd (show (2:Int)=0 from hs) (by decide)
   ·exact zin l _ _ _ h x hx
  ·rw[if_neg hs] at h
   exact absurd h hs
theorem zdh {regs:Int} {bs:List Bf} {os:List Lo} (h:(chkR regs bs os).2=0):0≤regs∧regs≤64∧bs.length≤32∧os.length≤65536∧(∀ b∈bs,1≤b.size∧b.size≤65536)∧∀ o∈os,z0p regs bs o=true:=by
 unfold chkR at h
 split at h
 ·exact absurd h (by decide)
 split at h
 ·exact absurd h (by decide)
 split at h
 ·exact absurd h (by decide)
 split at h
 ·exact absurd h (by decide)
 rename_i g1 g2 g3 g4
 refine⟨by omega,by omega,by omega,by omega,fun b hb=>?_,zin _ _ _ _ h⟩
 rw[List.any_eq_true] at g2 g4
 have h2:¬ 65536 < b.size:=fun q=>g2 ⟨b,hb,by simpa using q⟩
 have h4:¬ b.size < 1:=fun q=>g4 ⟨b,hb,by simp[q]⟩
 omega
theorem zjn {regs:Int} {bs:List Bf} {o:Lo} (h:z0p regs bs o=true) (k:o.kind=16):1≤o.imm.toNat∧o.imm.toNat≤1048576:=by
 unfold z0p at h
 simp[k,memK] at h
 obtain⟨_,_,_,_,_,_,_,h1,h2⟩:=h
 have h1:=UInt64.le_iff_toNat_le.1 h1
 have h2:=UInt64.le_iff_toNat_le.1 h2
 exact⟨h1,h2⟩
def skC (l:List Nat):List LV:=l.reverse.map fun (a:Nat)=>LV.i (a:Int)
theorem zjd (a:Nat) (l:List Nat):skC (a::l)=skC l++[.i (a:Int)]:=by simp[skC]
theorem zoa (l:List Nat):(skC l).length=l.length:=by simp[skC]
theorem lo_at0 {l:List Lo} {i:Nat} {v:Lo} (h:l[i]?=some v):(loC l)[i * 8]?=some (.i v.kind):=by have:=lo_at h (j:=0) (by omega); simpa [Lo.f] using this
theorem lo_at7 {l:List Lo} {i:Nat} {v:Lo} (h:l[i]?=some v):(loC l)[i * 8+7]?=some (.u v.imm):=by have:=lo_at h (j:=7) (by omega); simpa [Lo.f] using this
theorem zrj {l:List LV} {i:Nat} {x:LV} (h:i < l.length):z0w l i [x]=l.set i x:=by
 rw[List.set_eq_take_append_cons_drop,if_pos h]; simp[z0w]
theorem layI (l:List Int) (i:Nat) (x:Int) (h:i < l.length):z0w (l.map LV.i) i [.i x]=(l.set i x).map LV.i:=by
 rw[List.map_set,List.set_eq_take_append_cons_drop,if_pos (by simpa using h)]; simp[z0w]
theorem repIs (n:Nat):repL [.i 0] n=(List.replicate n (0:Int)).map LV.i:=by
 induction n with
 | zero=>rfl
 | succ n ih=>rw[repL,ih,List.replicate_succ]; rfl
theorem zk1 {regs:Int} {bs:List Bf} {os:List Lo} (hc:(chkR regs bs os).2=0) (hb:bal kdL 0 os):FnV Tryz.prog 87 [.agg (lpV regs bs os)] (.lst ((z98 0 [] (List.replicate os.length 0) os).map .i) os.length 1):=by
 obtain⟨_,_,_,hol,_,hfs⟩:=zdh hc
 refine FnV.mk (by simp[LV.dat,di_ok]) (z01 r_ref12_Ends k_ref12_Ends (by simp) ?_)
 simp[zae,lpV]
 refine z02 (z82 regs bs os) (bors_self _ (by simp[dats,LV.dat,lpV,z0o,z0s])) ?_
 obtain⟨E,hE⟩:∃ E,z98 0 [] (List.replicate os.length 0) os=E:=⟨_,rfl⟩
 have hEl:E.length=os.length:=by rw[←hE,endsR_len]; simp
 rw[hE]
 simp[hc]
 refine⟨by omega,?_⟩
 refine z0m (fun ρ D G N=>∃ (i st:Nat) (out:List Int) (sk:List Nat) (v:LV),D=[]∧N+i=os.length∧lk ρ 1=.ptr 0 0∧lk ρ 5=.dy 1 0∧lk ρ 6=v∧lk ρ 7=.i i∧G[0]?=some (.cells (lpV regs bs os) 0)∧G[1]?=some (.dyn (out.map .i) os.length 1 0 st)∧out.length=os.length∧StD 2 G v 1 sk.length (skC sk)∧2≤G.length ∧
   (∀ a∈sk,a < i)∧sk.length≤i∧bal kdL sk.length (os.drop i)∧z98 i sk out (os.drop i)=E) (N:=os.length)
  ⟨0,0,List.replicate os.length 0,[],.nilSl,rfl,by omega,by simp,by simp,by simp,by simp,by simp[lpV],by simp[repIs],by simp,StD.nil,by simp,by simp,by simp,by simpa using hb,by simpa using hE⟩ ?_
 clear hb
 rintro N ρ D G ⟨i,st,out,sk,v,rfl,hN,h1,h5,h6,h7,hG0,hG1,hol2,hst,hG2,hsk,hsl,hb,hR⟩ Nx hNx
 by_cases g:i < os.length
 case neg =>
  rw[List.drop_of_length_le (by omega)] at hR
  have:out=E:=hR
  subst this
  simp[h1,h5,h7,hG0,lpV,g,borR,bor,hG1,di_ok]
 have ho:=zmq g
 have hk0:=lo_at0 ho
 have hfo:=hfs _ (List.mem_of_getElem? ho)
 rw[zj6 g] at hR hb
 generalize glo os i=o at *
 have l0:0 < G.length:=by omega
 have l1:1 < G.length:=by omega
 have hlt:=zs9 g
 unfold z98 at hR
 unfold bal at hb
 have s0:∀ x:LObj,(G.set 1 x)[0]?=some (.cells (lpV regs bs os) 0):=fun x=>by rw[List.getElem?_set_ne (by omega)]; exact hG0
 have s1:∀ x:LObj,(G.set 1 x)[1]?=some x:=fun x=>List.getElem?_set_self l1
 have ss:∀ x:LObj,StD 2 (G.set 1 x) v 1 sk.length (skC sk):=fun x=>hst.set_lt (by omega)
 by_cases k16:o.kind=16
 ·rw[if_pos k16] at hR
  rw[if_pos (by simp[kdL,k16])] at hb
  simp[h1,h5,h6,h7,hG0,hG1,lpV,g,hol2,layI,↓s0,z05 hk0,k16]
  repeat (refine⟨by omega,?_⟩)
  refine StD.push (x:=[.i (i:Int)]) (ss _).push_end (by omega) (by simp; omega) (by omega) rfl rfl fun v' G5 hs5 hf5 hl5 _=>?_
  simp[h7]
  refine⟨by omega,hNx _ _ _ ⟨N - 1,by omega,i+1,st+1,out.set i (-1),i::sk,v',rfl,by omega,by simp[h1],by simp[h5],by simp,by simp,?_,?_,by simpa using hol2,by rw[zjd]; exact hs5,by simp at hl5; omega,fun a ha=>?_,by simp; omega,hb,hR⟩⟩
  ·rw[hf5 0 (by omega),oldP (by simpa using l0)]; exact s0 _
  ·rw[hf5 1 (by omega),oldP (by simpa using l1),←List.map_set]; exact s1 _
  ·rcases List.mem_cons.1 ha with rfl | ha
   ·omega
   ·have:=hsk a ha; omega
 by_cases k17:o.kind=17
 ·rw[if_neg k16,if_pos k17] at hR
  rw[if_neg (by simp[kdL,k17]),if_pos (by simp[kdL,k17])] at hb
  obtain⟨hd,hb⟩:=hb
  cases sk with
  | nil=>simp at hd
  | cons a sk =>
  have ha:=hsk a (List.mem_cons_self ..)
  simp[h1,h5,h6,h7,hG0,hG1,lpV,g,hol2,layI,↓s0,z05 hk0,k16,k17]
  repeat (refine⟨by omega,?_⟩)
  refine (ss _).lenL ?_
  simp
  refine⟨by simp at hsl; omega,(ss _).at1 (by omega) (by simp; omega) fun w hw=>?_⟩
  simp
  refine hw _ ?_
  have hx:(skC (a::sk))[sk.length]?=some (.i (a:Int)):=by
   rw[zjd,List.getElem?_append_right (by rw[zoa]; exact Nat.le_refl _)]; simp[zoa]
  simp only[Int.toNat_natCast]
  refine⟨_,hx,?_⟩
  simp[h6]
  refine (ss _).lenL ?_
  simp
  refine⟨by simp at hsl; omega,(ss _).cut (m:=sk.length) (by simp) (fun K' k'=>k') (fun d K' k'=>⟨by omega,k'⟩) fun v' hs'=>?_⟩
  have hao:a < os.length:=by omega
  simp[h5,h7,↓s1,g,hol2,zrj,hao]
  rw[zjd,List.take_left' (by rw[zoa]; omega)] at hs'
  repeat (refine⟨by omega,?_⟩)
  refine hNx _ _ _ ⟨N - 1,by omega,i+1,st+1+1+1,((out.set i (-1)).set i a).set a i,sk,v',rfl,by omega,by simp[h1],by simp[h5],by simp,by simp,?_,?_,by simpa using hol2,?_,by simpa using hG2,fun x hx=>by have:=hsk x (List.mem_cons_of_mem _ hx); omega,by simp at hsl; omega,?_,hR⟩
  ·exact s0 _
  ·rw[List.getElem?_set_self (by simpa using l1)]
   simp
  ·have h:=hs'.set_lt (q:=1) (ob:=.dyn ((((out.map LV.i).set i (.i (-1))).set i (.i a)).set a (.i i)) os.length 1 0 (st+1+1+1)) (by omega)
   rw[List.set_set] at h
   simpa using h
  ·simpa using hb
 rw[if_neg k16,if_neg k17] at hR
 rw[if_neg (by simp[kdL,k16]; split <;> simp),if_neg (by simp[kdL,k16,k17])] at hb
 simp[h1,h5,h6,h7,hG0,hG1,lpV,g,hol2,layI,↓s0,z05 hk0,k16,k17]
 repeat (refine⟨by omega,?_⟩)
 refine hNx _ _ _ ⟨N - 1,by omega,i+1,st+1,out.set i (-1),sk,v,rfl,by omega,by simp[h1],by simp[h5],by simp[h6],by simp,s0 _,?_,by simpa using hol2,ss _,by simpa using hG2,fun x hx=>by have:=hsk x hx; omega,by omega,hb.2,hR⟩
 rw[←List.map_set]; exact s1 _
def s1C (l:List (Int×Int)):List LV:=l.reverse.map fun e=>LV.i e.1
def s2C (l:List (Int×Int)):List LV:=l.reverse.map fun e=>LV.i e.2
theorem zex (a:Int×Int) (l:List (Int×Int)):s1C (a::l)=s1C l++[.i a.1]:=by simp[s1C]
theorem zf5 (a:Int×Int) (l:List (Int×Int)):s2C (a::l)=s2C l++[.i a.2]:=by simp[s2C]
theorem zkc (l:List (Int×Int)):(s1C l).length=l.length:=by simp[s1C]
theorem zj4 (l:List (Int×Int)):(s2C l).length=l.length:=by simp[s2C]
theorem zi5 {regs:Int} {bs:List Bf} {os:List Lo} (hc:(chkR regs bs os).2=0) (hb:bal kdL 0 os):FnS Tryz.prog 85 [.agg (lpV regs bs os)] (.i (stR [] 0 os)) []:=by
 obtain⟨_,_,_,hol,_,hfs⟩:=zdh hc
 refine FnS.val rfl (z01 r_ref12_Steps k_ref12_Steps (by simp) ?_)
 simp[z94,lpV]
 refine z02 (z82 regs bs os) (bors_self _ (by simp[dats,LV.dat,lpV,z0o,z0s])) ?_
 obtain⟨R,hR⟩:∃ R,stR [] 0 os=R:=⟨_,rfl⟩
 rw[hR]
 simp[hc]
 refine z0m (fun ρ D G N=>∃ (i:Nat) (s:Int) (sk:List (Int×Int)) (v w:LV),D=[]∧N+i=os.length∧lk ρ 1=.ptr 0 0∧lk ρ 5=v∧lk ρ 6=.i s∧lk ρ 7=w∧lk ρ 8=.i i∧G[0]?=some (.cells (lpV regs bs os) 0)∧StD 1 G v 1 sk.length (s1C sk)∧StD 1 G w 1 sk.length (s2C sk)∧(∀ q,zdj v=some q→zdj w≠some q)∧1≤G.length ∧
   (0≤s∧s≤1125899906842624)∧(∀ e∈sk,(0≤e.1∧e.1≤1125899906842624)∧1≤e.2∧e.2≤1048576)∧sk.length≤i∧bal kdL sk.length (os.drop i)∧stR sk s (os.drop i)=R) (N:=os.length)
  ⟨0,0,[],.nilSl,.nilSl,rfl,by omega,by simp,by simp,by simp,by simp,by simp,by simp[lpV],StD.nil,StD.nil,by simp[zdj],by simp,by simp,by simp,by simp,by simpa using hb,by simpa using hR⟩ ?_
 clear hb hR
 rintro N ρ D G ⟨i,s,sk,v,w,rfl,hN,h1,h5,h6,h7,h8,hG0,hv,hw,hsep,hG1,⟨hs0,hs1⟩,hsk,hsl,hb,hR⟩ Nx hNx
 by_cases g:i < os.length
 case neg =>
  rw[List.drop_of_length_le (by omega)] at hR
  have:s=R:=hR
  subst this
  simp[h1,h5,h6,h8,hG0,lpV,g]
 have ho:=zmq g
 have hk0:=lo_at0 ho
 have hk7:=lo_at7 ho
 have hfo:=hfs _ (List.mem_of_getElem? ho)
 rw[zj6 g] at hR hb
 generalize glo os i=o at *
 have l0:0 < G.length:=by omega
 have hlt:=zs9 g
 have hlt7:i * 8+7 < (loC os).length:=by omega
 unfold stR at hR
 unfold bal at hb
 by_cases k16:o.kind=16
 ·rw[if_pos k16] at hR
  rw[if_pos (by simp[kdL,k16])] at hb
  obtain⟨t1,t2⟩:=zjn hfo k16
  have e1:0≤((o.imm.toNat:Nat):Int):=by omega
  have q0:∀ x:List LObj,(G++x)[0]?=some (.cells (lpV regs bs os) 0):=fun x=>(oldP l0).trans hG0
  have z0:∀ (x:List LObj) (h:0 < (G++x).length),(G++x)[0]=.cells (lpV regs bs os) 0:=fun x h=>Option.some.inj ((List.getElem?_eq_getElem h).symm.trans (q0 x))
  simp[h1,h5,h6,h7,h8,hG0,lpV,g,z05 hk0,z05 hk7,k16,↓q0,z0]
  refine⟨by omega,?_⟩
  refine StD.push2 (x:=[.i s]) hv.push_end (by omega) (by simp) (by omega) rfl rfl fun v' G5 hs5 hf5 hl5 hr5=>?_
  simp at hl5
  have h50:G5[0]?=some (.cells (lpV regs bs os) 0):=by rw[hf5 0 (by simp) (fun e=>by have:=(hv.row e).1; omega)]; exact q0 _
  have h51:G5[G.length+1]?=some (.dyn [.i (o.imm.toNat:Int)] 1 1 0 0):=by
   rw[hf5 _ (by simp) (fun e=>by have:=(hv.row e).2.1; omega),List.getElem?_append_right (by omega),show G.length+1 - G.length=1 by omega]; rfl
  have hw5:StD 1 G5 w 1 sk.length (s2C sk):=(hw.push_end (ob:=[.dyn [.i s] 1 1 0 0,.dyn [.i (o.imm.toNat:Int)] 1 1 0 0])).frame2 fun q hq=>hf5 q (by have:=(hw.row hq).2.1; simp; omega) (fun e=>hsep q e hq)
  simp[h50,h51,lpV,z0]
  refine StD.push2 (x:=[.i (o.imm.toNat:Int)]) hw5 (by omega) (by omega) (by omega) rfl rfl fun w' G6 hs6 hf6 hl6 hr6=>?_
  have hvw:∀ q,zdj v'=some q→zdj w≠some q:=fun q hq e=>by
   rcases hr5 with h | h
   ·exact hsep q (by rw[←h]; exact hq) e
   ·rw[h] at hq
    have:=(hw.row e).2.1
    have hq:=Option.some.inj hq
    simp at hq; omega
  have hv6:StD 1 G6 v' 1 (sk.length+1) (s1C sk++[.i s]):=hs5.frame2 fun q hq=>hf6 q (hs5.row hq).2.1 (hvw q hq)
  have h60:G6[0]?=some (.cells (lpV regs bs os) 0):=by rw[hf6 0 (by omega) (fun e=>by have:=(hw5.row e).1; omega)]; exact h50
  simp[h60,lpV,h8]
  refine⟨by omega,hNx _ _ _ ⟨N - 1,by omega,i+1,1,(s,(o.imm.toNat:Int))::sk,v',w',rfl,by omega,by simp[h1],by simp,by simp,by simp,by simp,h60,by rw[zex]; exact hv6,by rw[zf5]; exact hs6,fun q hq=>?_,by omega,⟨by omega,by omega⟩,fun e he=>?_,by simp; omega,hb,hR⟩⟩
  ·rcases hr6 with h | h
   ·rw[h]; exact hvw q hq
   ·rw[h]
    have:=(hs5.row hq).2.1
    intro e
    have e:=Option.some.inj e
    omega
  ·rcases List.mem_cons.1 he with rfl | he
   ·exact⟨⟨hs0,hs1⟩,by show (1:Int)≤_; omega,by show _≤(1048576:Int); omega⟩
   ·exact hsk e he
 by_cases k17:o.kind=17
 ·rw[if_neg k16,if_pos k17] at hR
  rw[if_neg (by simp[kdL,k17]),if_pos (by simp[kdL,k17])] at hb
  obtain⟨hd,hb⟩:=hb
  cases sk with
  | nil=>simp at hd
  | cons a sk =>
  obtain⟨a0,a1⟩:=a
  obtain⟨⟨b0,b1⟩,b2,b3⟩:=hsk _ (List.mem_cons_self ..)
  dsimp only at b0 b1 b2 b3 hR
  have hx1:(s1C ((a0,a1)::sk))[sk.length]?=some (.i a0):=by
   rw[zex,List.getElem?_append_right (by rw[zkc]; exact Nat.le_refl _)]; simp[zkc]
  have hx2:(s2C ((a0,a1)::sk))[sk.length]?=some (.i a1):=by
   rw[zf5,List.getElem?_append_right (by rw[zj4]; exact Nat.le_refl _)]; simp[zj4]
  simp[h1,h5,h6,h7,h8,hG0,lpV,g,z05 hk0,k16,k17]
  refine hv.lenL ?_
  simp[h7,h6]
  simp at hsl
  refine⟨by omega,hw.at1 (by omega) (by simp; omega) fun x hx=>?_⟩
  simp
  refine hx _ ?_
  simp only[Int.toNat_natCast]
  refine⟨_,hx2,?_⟩
  simp[h6]
  have ht:Int.tdiv 1125899906842624 a1=1125899906842624 / a1:=Int.tdiv_eq_ediv_of_nonneg (by omega)
  rw[ht]
  have t0:0≤1125899906842624 / a1:=Int.ediv_nonneg (by omega) (by omega)
  have t1:1125899906842624 / a1≤1125899906842624:=Int.ediv_le_self _ (by omega)
  refine⟨by omega,by omega,fun q=>?_,fun q=>?_⟩
  ·rw[if_pos q] at hR
   simp[h5]
   refine hv.at1 (by omega) (by simp; omega) fun y hy=>?_
   simp
   refine hy _ ?_
   simp only[Int.toNat_natCast]
   refine⟨_,hx1,?_⟩
   simp[h5]
   repeat (refine⟨by omega,?_⟩)
   refine hv.cut2 (m:=sk.length) (by simp) (fun K' k'=>k') (fun d K' k'=>k') fun v' hs1 hr1=>?_
   simp[h7]
   refine hw.cut2 (m:=sk.length) (by simp) (fun K' k'=>k') (fun d K' k'=>k') fun w' hs2 hr2=>?_
   rw[zex,List.take_left' (by rw[zkc]; omega)] at hs1
   rw[zf5,List.take_left' (by rw[zj4]; omega)] at hs2
   simp[h8,hG0,lpV]
   refine⟨by omega,hNx _ _ _ ⟨N - 1,by omega,i+1,_,sk,v',w',rfl,by omega,by simp[h1],by simp,by simp,by simp,by simp,hG0,hs1,hs2,fun q=>by rw[hr1,hr2]; exact hsep q,hG1,⟨by omega,by omega⟩,fun e he=>hsk e (List.mem_cons_of_mem _ he),by omega,by simpa using hb,hR⟩⟩
  ·rw[if_neg (by omega)] at hR
   have hm:0≤s * a1:=Int.mul_nonneg hs0 (by omega)
   have hm2:s * a1≤1125899906842624:=Int.le_trans (Int.mul_le_mul_of_nonneg_right (show s≤1125899906842624 / a1 by omega) (by omega)) (Int.ediv_mul_le _ (by omega))
   simp[h6,h7]
   refine hw.at1 (by omega) (by simp; omega) fun z hz=>?_
   simp
   refine hz _ ?_
   simp only[Int.toNat_natCast]
   refine⟨_,hx2,?_⟩
   simp[h5]
   repeat (refine⟨by omega,?_⟩)
   refine hv.at1 (by omega) (by simp; omega) fun y hy=>?_
   simp
   refine hy _ ?_
   simp only[Int.toNat_natCast]
   refine⟨_,hx1,?_⟩
   simp[h5]
   repeat (refine⟨by omega,?_⟩)
   refine hv.cut2 (m:=sk.length) (by simp) (fun K' k'=>k') (fun d K' k'=>k') fun v' hs1 hr1=>?_
   simp[h7]
   refine hw.cut2 (m:=sk.length) (by simp) (fun K' k'=>k') (fun d K' k'=>k') fun w' hs2 hr2=>?_
   rw[zex,List.take_left' (by rw[zkc]; omega)] at hs1
   rw[zf5,List.take_left' (by rw[zj4]; omega)] at hs2
   simp[h8,hG0,lpV]
   refine⟨by omega,hNx _ _ _ ⟨N - 1,by omega,i+1,_,sk,v',w',rfl,by omega,by simp[h1],by simp,by simp,by simp,by simp,hG0,hs1,hs2,fun q=>by rw[hr1,hr2]; exact hsep q,hG1,⟨by omega,by omega⟩,fun e he=>hsk e (List.mem_cons_of_mem _ he),by omega,by simpa using hb,hR⟩⟩
 rw[if_neg k16,if_neg k17] at hR
 rw[if_neg (by simp[kdL,k16]; split <;> simp),if_neg (by simp[kdL,k16,k17])] at hb
 simp[h1,h5,h6,h7,h8,hG0,lpV,g,z05 hk0,k16,k17]
 repeat (refine⟨by omega,?_⟩)
 refine hNx _ _ _ ⟨N - 1,by omega,i+1,_,sk,v,w,rfl,by omega,by simp[h1],by simp[h5],by simp,by simp[h7],by simp,hG0,hv,hw,hsep,hG1,⟨by omega,by omega⟩,hsk,by omega,hb.2,hR⟩
end Go.Proofs.YtodjkjimaheggaaGreat
