/- Kernels: whether a kernel may be. -/
import Derived.Test.YtodjkjimaheggaaGreatFnK2
import Derived.Test.YtodjkjimaheggaaGreatSvG3
namespace Go.Proofs.YtodjkjimaheggaaGreat
open Go.Sv
set_option linter.unusedSimpArgs false
set_option maxRecDepth 10000
def z3s:LC:=(.seq (.ops [.z 3 (.move (.c (.bool false)))]) (.seq (.ops [.m 4 0,.z 5 (.bin .geq true 3 (.t 4) (.c (.i 0))),.m 6 5,⟨some 7,(some (6,true)),.fieldAddr 0 (.t 1)⟩,⟨some 8,(some (6,true)),.load1 (.t 7)⟩,⟨some 9,(some (6,true)),.move (.t 0)⟩,⟨some 10,(some (6,true)),.ixAddr 3 (.t 8) (.t 9)⟩,⟨some 11,(some (6,true)),.fieldAddr 2 (.t 10)⟩,⟨some 12,(some (6,true)),.load1 (.t 11)⟩,⟨some 13,(some (6,true)),.bin .eql true 3 (.t 12) (.c (.i 3))⟩,.z 14 (.pick (.t 6) (.t 13) (.c (.bool false))),.m 3 14]) .ret))
theorem r_lengths_Check_1:z0f Tryz.prog 165=some ⟨15,z3s.r,[.tmp 3]⟩:=by kernel_rfl
theorem k_lengths_Check_1:z3s.ok=true:=by kernel_rfl
def z51:LC:=(.seq (.ops [.z 3 (.move (.c (.bool false)))]) (.seq (.ops [.l 4 1,.m 5 0,.z 6 (.ixAddr 1 (.t 4) (.t 5)),.l 7 6,.z 8 (.un .not (.t 7)),.m 3 8]) .ret))
theorem r_lengths_Check_2:z0f Tryz.prog 171=some ⟨9,z51.r,[.tmp 3]⟩:=by kernel_rfl
theorem k_lengths_Check_2:z51.ok=true:=by kernel_rfl
def z71:LC:=(.seq (.ops [.z 1 (.box (.t 0)),.z 2 (.move (.c (.i 0)))]) (.seq (.seq (.ops [.f 13 0 1,.l 14 13,.z 15 (.callV (.c (.fn (.func 164) [] [])) [.t 14]),.z 16 (.un .not (.t 15)),.m 17 16,⟨some 18,(some (17,false)),.fieldAddr 1 (.t 1)⟩,⟨some 19,(some (17,false)),.load1 (.t 18)⟩,⟨some 20,(some (17,false)),.lenSl (.t 19)⟩,⟨some 21,(some (17,false)),.bin .gtr true 3 (.t 20) (.c (.i 4096))⟩,.z 22 (.pick (.t 17) (.c (.bool true)) (.t 21)),.m 23 22,⟨some 24,(some (23,false)),.fieldAddr 2 (.t 1)⟩,⟨some 25,(some (23,false)),.load1 (.t 24)⟩,⟨some 26,(some (23,false)),.lenSl (.t 25)⟩,⟨some 27,(some (23,false)),.bin .gtr true 3 (.t 26) (.c (.i 4096))⟩,.z 28 (.pick (.t 23) (.c (.bool true)) (.t 27))]) (.cond (.t 28) (.seq (.ops [.z 2 (.move (.c (.i 2)))]) .ret) .skip)) (.seq (.ops [.z 29 (.mkFunc 165 [] [.t 1]),.m 3 29]) (.seq (.seq (.ops [.f 30 2 1,.l 31 30,.z 32 (.lenSl (.t 31)),.z 33 (.move (.c (.i 0)))]) (.block 0 (.loop (.seq (.ops [.z 34 (.bin .lss false 3 (.t 33) (.t 32))]) (.seq (.cond (.t 34) .skip (.exit 0)) (.seq (.block 1 (.seq (.ops [.z 35 (.ixAddr 7 (.t 31) (.t 33)),.z 36 (.loadN 7 (.t 35)),.z 5 (.alloc [(.i 0),(.i 0),(.i 0),(.i 0),(.i 0),(.i 0),(.u 0)]),⟨none,none,.store 7 (.t 5) (.t 36)⟩]) (.seq (.ops [.f 37 0 5,.l 38 37,.z 39 (.bin .neq true 3 (.t 38) (.c (.i 17))),.m 40 39,⟨some 41,(some (40,false)),.fieldAddr 0 (.t 1)⟩,⟨some 42,(some (40,false)),.load1 (.t 41)⟩,⟨some 43,(some (40,false)),.loadN 7 (.t 5)⟩,⟨some 44,(some (40,false)),.callV (.c (.fn (.func 166) [] [])) [.t 42,.t 43]⟩,⟨some 45,(some (40,false)),.un .not (.t 44)⟩,.z 46 (.pick (.t 40) (.c (.bool true)) (.t 45)),.m 47 46,⟨some 48,(some (47,false)),.move (.t 3)⟩,⟨some 49,(some (47,false)),.fieldAddr 3 (.t 5)⟩,⟨some 50,(some (47,false)),.load1 (.t 49)⟩,⟨some 51,(some (47,false)),.callV (.t 48) [.t 50]⟩,.z 52 (.pick (.t 47) (.c (.bool true)) (.t 51)),.m 53 52,⟨some 54,(some (53,false)),.move (.t 3)⟩,⟨some 55,(some (53,false)),.fieldAddr 4 (.t 5)⟩,⟨some 56,(some (53,false)),.load1 (.t 55)⟩,⟨some 57,(some (53,false)),.callV (.t 54) [.t 56]⟩,.z 58 (.pick (.t 53) (.c (.bool true)) (.t 57))]) (.cond (.t 58) (.seq (.ops [.z 2 (.move (.c (.i 2)))]) .ret) .skip)))) (.ops [.z 59 (.bin .add true 3 (.t 33) (.c (.i 1))),.m 33 59]))))))) (.seq (.ops [.f 60 0 1,.l 61 60,.z 62 (.lenSl (.t 61)),.z 63 (.mkSl 1 [(.bool false)] (.t 62) (.t 62)),.z 6 (.alloc [.nilSl]),⟨none,none,.store 1 (.t 6) (.t 63)⟩]) (.seq (.seq (.ops [.f 64 0 1,.l 65 64,.z 66 (.lenSl (.t 65)),.z 67 (.move (.c (.i 0)))]) (.block 2 (.loop (.seq (.ops [.z 68 (.bin .lss false 3 (.t 67) (.t 66))]) (.seq (.cond (.t 68) .skip (.exit 2)) (.seq (.block 3 (.seq (.ops [.m 69 67,.z 70 (.ixAddr 3 (.t 65) (.t 67)),.z 71 (.loadN 3 (.t 70)),.z 8 (.alloc [(.i 0),(.bool false),(.i 0)]),.m 7 69,⟨none,none,.store 3 (.t 8) (.t 71)⟩]) (.draw [(.l 72 6,[]),(.m 73 7,[]),(.z 74 (.loadN 3 (.t 8)),[]),(.z 75 (.callV (.c (.fn (.func 167) [] [])) [.t 74]),[(.l 72 6,false)]),(.z 76 (.ixAddr 1 (.t 72) (.t 73)),[]),(⟨none,none,.store 1 (.t 76) (.t 75)⟩,[])]))) (.ops [.z 77 (.bin .add true 3 (.t 67) (.c (.i 1))),.m 67 77]))))))) (.seq (.ops [.z 9 (.move (.c (.i 0)))]) (.seq (.seq (.ops [.f 78 1 1,.l 79 78,.z 80 (.lenSl (.t 79)),.z 81 (.move (.c (.i 0)))]) (.block 4 (.loop (.seq (.ops [.z 82 (.bin .lss false 3 (.t 81) (.t 80))]) (.seq (.cond (.t 82) .skip (.exit 4)) (.seq (.block 5 (.seq (.ops [.z 83 (.ixAddr 7 (.t 79) (.t 81)),.z 84 (.loadN 7 (.t 83)),.z 11 (.alloc [(.i 0),(.i 0),(.i 0),(.i 0),(.i 0),(.i 0),(.u 0)]),⟨none,none,.store 7 (.t 11) (.t 84)⟩]) (.seq (.seq (.ops [.f 85 0 1,.l 86 85,.z 87 (.loadN 7 (.t 11)),.z 88 (.callV (.c (.fn (.func 168) [] [])) [.t 86,.t 87]),.z 89 (.un .not (.t 88)),.m 90 89,⟨some 91,(some (90,false)),.loadN 7 (.t 11)⟩,⟨some 92,(some (90,false)),.callV (.c (.fn (.func 170) [] [])) [.t 91]⟩,⟨some 93,(some (90,false)),.mkFunc 171 [] [.t 6]⟩,⟨some 94,(some (90,false)),.callV (.c (.fn (.func 169) [] [])) [.t 92,.t 93]⟩,.z 95 (.pick (.t 90) (.c (.bool true)) (.t 94))]) (.cond (.t 95) (.seq (.ops [.z 2 (.move (.c (.i 2)))]) .ret) .skip)) (.seq (.seq (.ops [.f 96 0 11,.l 97 96]) (.block 6 (.seq (.ops [.z 99 (.bin .eql true 3 (.t 97) (.c (.i 15))),.m 98 99]) (.cond (.t 98) (.ops [.m 100 9,.z 101 (.bin .add true 3 (.t 100) (.c (.i 1))),.m 9 101]) (.seq (.ops [.z 103 (.bin .eql true 3 (.t 97) (.c (.i 16))),.m 102 103]) (.cond (.t 102) (.ops [.m 104 9,.z 105 (.bin .sub true 3 (.t 104) (.c (.i 1))),.m 9 105]) .skip)))))) (.seq (.seq (.ops [.m 106 9,.z 107 (.bin .lss true 3 (.t 106) (.c (.i 0))),.m 108 107,⟨some 109,(some (108,false)),.move (.t 9)⟩,⟨some 110,(some (108,false)),.bin .gtr true 3 (.t 109) (.c (.i 4))⟩,.z 111 (.pick (.t 108) (.c (.bool true)) (.t 110))]) (.cond (.t 111) (.seq (.ops [.z 2 (.move (.c (.i 2)))]) .ret) .skip)) (.seq (.ops [.f 112 1 11,.l 113 112,.z 114 (.bin .geq true 3 (.t 113) (.c (.i 0)))]) (.cond (.t 114) (.ops [.l 115 6,.f 116 1 11,.l 117 116,.z 118 (.ixAddr 1 (.t 115) (.t 117)),⟨none,none,.store 1 (.t 118) (.c (.bool true))⟩]) .skip))))))) (.ops [.z 119 (.bin .add true 3 (.t 81) (.c (.i 1))),.m 81 119]))))))) (.seq (.seq (.ops [.l 120 6,.z 121 (.lenSl (.t 120)),.z 122 (.move (.c (.i 0)))]) (.block 7 (.loop (.seq (.ops [.z 123 (.bin .lss false 3 (.t 122) (.t 121))]) (.seq (.cond (.t 123) .skip (.exit 7)) (.seq (.block 8 (.seq (.ops [.m 124 122,.m 12 124]) (.seq (.ops [.m 125 3,.m 126 12,.z 127 (.callV (.t 125) [.t 126]),.m 128 127,⟨some 129,(some (128,true)),.load1 (.t 6)⟩,⟨some 130,(some (128,true)),.move (.t 12)⟩,⟨some 131,(some (128,true)),.ixAddr 1 (.t 129) (.t 130)⟩,⟨some 132,(some (128,true)),.load1 (.t 131)⟩,⟨some 133,(some (128,true)),.un .not (.t 132)⟩,.z 134 (.pick (.t 128) (.t 133) (.c (.bool false)))]) (.cond (.t 134) (.seq (.ops [.z 2 (.move (.c (.i 2)))]) .ret) .skip)))) (.ops [.z 135 (.bin .add true 3 (.t 122) (.c (.i 1))),.m 122 135]))))))) (.seq (.seq (.ops [.m 136 9,.z 137 (.bin .neq true 3 (.t 136) (.c (.i 0)))]) (.cond (.t 137) (.seq (.ops [.z 2 (.move (.c (.i 2)))]) .ret) .skip)) (.seq (.ops [.z 2 (.move (.c (.i 0)))]) .ret)))))))))))
theorem r_lengths_Check:z0f Tryz.prog 118=some ⟨138,z71.r,[.tmp 2]⟩:=by kernel_rfl
theorem k_lengths_Check:z71.ok=true:=by kernel_rfl
def kerC (vs:List Vr) (os rs:List Ko):List LV:=[.lst (vsC vs) vs.length 3,.lst (osC os) os.length 7,.lst (osC rs) rs.length 7]
theorem old1 {G x:z03} {q:Nat} (h:q < G.length):(G++x)[q]?=G[q]?:=List.getElem?_append_left h
theorem zkh {α:Type} (f:α→LV) (l:List α) (j:Nat) (x:α) (h:j < l.length):z0w (l.map f) j [f x]=(l.set j x).map f:=by
 unfold z0w
 rw[List.set_eq_take_append_cons_drop,if_pos h]
 simp[List.map_take,List.map_drop]
theorem repB (n:Nat):repL [.bool false] n=(List.replicate n false).map LV.bool:=by
 induction n with
 | zero=>rfl
 | succ n ih=>simp[repL,ih,List.replicate_succ]
theorem gb_ext {a b:List Bool} (h:a.length=b.length) (he:∀ j,j < a.length→gb a j=gb b j):a=b:=by
 apply List.ext_getElem h
 intro j h1 h2
 have:=he j h1
 simpa [gb,List.getD_eq_getElem?_getD,h1,h2] using this
theorem gb_setv (m:List Bool) (i j:Nat) (b:Bool) (hi:i < m.length):gb (m.set i b) j=if j=i then b else gb m j:=by
 unfold gb
 rw[List.getD_eq_getElem?_getD,List.getD_eq_getElem?_getD,List.getElem?_set]
 by_cases h:i=j
 ·subst h; simp[hi]
 ·rw[if_neg h,if_neg (fun q=>h q.symm)]
theorem zbm {G:z03} {p st:Nat} {vs:List Vr} {rest:List LV} (v:Int) {K:LV→z03→Prop} (hp:G[p]?=some (.cells (.lst (vsC vs) vs.length 3::rest) st)) (hv:v < vs.length) (k:K (.bool (outB vs v)) G):z0k Tryz.prog (.fn 165) [.i v,.ptr p 0] G K:=by
 refine z01 r_lengths_Check_1 k_lengths_Check_1 (by simp) ?_
 by_cases h0:0≤v
 ·obtain⟨a,rfl⟩:=Int.eq_ofNat_of_zero_le h0
  have ha:a < vs.length:=by omega
  have q2:=vs_at2 (zbw ha)
  simp[z3s,hp,ha]
  simp[z05 q2]
  simpa [outB] using k
 ·simp[z3s,hp,h0]
  simpa [outB,h0] using k
theorem znr {G:z03} {p q st st':Nat} {m:List Bool} (v:Int) {K:LV→z03→Prop} (hp:G[p]?=some (.cells [.dy q 0] st)) (hq:G[q]?=some (.dyn (m.map .bool) m.length 1 0 st')) (hv:0≤v∧v < m.length) (k:K (.bool (!gb m v.toNat)) G):z0k Tryz.prog (.fn 171) [.i v,.ptr p 0] G K:=by
 refine z01 r_lengths_Check_2 k_lengths_Check_2 (by simp) ?_
 obtain⟨a,rfl⟩:=Int.eq_ofNat_of_zero_le hv.1
 have ha:a < m.length:=by omega
 have q1:=za4 (f:=LV.bool) (at_gb ha)
 simp[z51,hp,hq,ha]
 simp[z05 q1]
 simpa using k
theorem z9f (vs:List Vr) (os rs:List Ko) (hl1:vs.length≤9223372036854775807):FnS Tryz.prog 118 [.agg (kerC vs os rs)] (.i (chkE vs os rs)) []:=by
 refine FnS.val rfl (z01 r_lengths_Check k_lengths_Check (by simp) ?_)
 have bad:chkB vs os rs=false→chkE vs os rs=2:=fun h=>by simp[chkE,h]
 simp[z71,kerC]
 refine z02 (zgk vs hl1) (bors_self _ (by simp[dats,LV.dat,z1f])) ?_
 cases hv:z81 vs with
 | false=>simp[bad,chkB,hv]
 | true =>
 have hvl:=zh1 hv
 by_cases g1:(4096:Int) < (os.length:Int)
 ·simp[g1]
  exact (bad (by simp[chkB,hv]; omega)).symm
 by_cases g2:(4096:Int) < (rs.length:Int)
 ·simp[g1,g2]
  exact (bad (by simp[chkB,hv]; omega)).symm
 simp[g1,g2]
 refine z0m (fun ρ D G N=>∃ i:Nat,D=[]∧N+i=rs.length∧lk ρ 1=.ptr 0 0∧lk ρ 3=.fn (.func 165) [] [.ptr 0 0]∧lk ρ 31=.lst (osC rs) rs.length 7∧lk ρ 32=.i rs.length∧lk ρ 33=.i i∧0 < G.length∧G[0]?=some (.cells (kerC vs os rs) 0)∧∀ j,j < i→reqB vs (go rs j)=true) (N:=rs.length) ⟨0,by simp[kerC]⟩ ?_
 rintro N ρ D G ⟨i,rfl,hN,h1,h3,h31,h32,h33,hl,hG,hr⟩ Nx hNx
 by_cases g:i < rs.length
 ·have q7:=zqx (zu6 g)
  have hq:=os_lt g
  have hf:(go rs i).f=[.i (go rs i).kind,.i (go rs i).d,.i (go rs i).e,.i (go rs i).a,.i (go rs i).b,.i (go rs i).c,.u (go rs i).imm]:=rfl
  have no:reqB vs (go rs i)=false→chkE vs os rs=2:=fun h=>bad (by
   have:rs.all (reqB vs)=false:=by
    rw[List.all_eq_false]
    exact⟨go rs i,List.mem_of_getElem? (zu6 g),by simp[h]⟩
   simp[chkB,this])
  have yes:reqB vs (go rs i)=true→∀ j,j < i+1→reqB vs (go rs j)=true:=fun h j hj=>by
   by_cases e:j=i
   ·rw[e]; exact h
   ·exact hr j (by omega)
  generalize go rs i=o at *
  by_cases k17:o.kind=17
  ·simp[h1,h3,h31,h32,h33,g,q7,hq,hf,k17,↓old1 hl,hG,kerC]
   have hc:=za8 (vsC vs) vs.length o
   rw[hf,k17] at hc
   refine z02 hc (bors_self _ (by simp[dats,LV.dat,z1f])) ?_
   cases hn:zb7 vs.length o with
   | false =>
    simp
    exact (no (by simp[reqB,hn])).symm
   | true =>
    have hin:=zsm k17 hn
    have ha:o.a < vs.length:=by
     simp only[zb7,Bool.and_eq_true] at hn
     exact (z5i.1 hn.2.2.2.1).2
    have hb:o.b < vs.length:=by
     simp only[zb7,Bool.and_eq_true] at hn
     have:=hn.2.2.2.2
     split at this
     ·exact (z5i.1 this).2
     ·simp at this; omega
    simp[h3]
    refine zbm o.a (by rw[old1 hl]; exact hG) ha ?_
    cases ho:outB vs o.a with
    | true =>
     simp
     exact (no (by simp[reqB,ho])).symm
    | false =>
     simp[h3]
     refine zbm o.b (by rw[old1 hl]; exact hG) hb ?_
     cases ho2:outB vs o.b with
     | true =>
      simp
      exact (no (by simp[reqB,ho2])).symm
     | false =>
      simp[h33]
      exact⟨by omega,hNx _ _ _ ⟨N - 1,by omega,i+1,rfl,by omega,by simp[h1],by simp[h3],by simp[h31],by simp[h32],by simp,by simp,by rw[old1 hl]; exact hG,yes (by simp[reqB,k17,hn,ho,ho2])⟩⟩
  ·simp[h1,h3,h31,h32,h33,g,q7,hq,hf,k17]
   exact (no (by simp[reqB,k17])).symm
 have hreq:rs.all (reqB vs)=true:=by
  rw[List.all_eq_true]
  intro o ho
  obtain⟨j,hj,rfl⟩:=List.mem_iff_getElem.1 ho
  have e:=zu6 hj
  rw[List.getElem?_eq_getElem hj] at e
  rw[Option.some.inj e]
  exact hr j (by omega)
 simp[h1,h3,h31,h32,h33,g,hG,kerC,hvl,↓old1 hl]
 refine⟨by omega,?_⟩
 refine z0m (fun ρ D G N=>∃ (i:Nat) (m:List Bool) (p q st st':Nat),D=[]∧N+i=vs.length∧lk ρ 1=.ptr 0 0∧lk ρ 3=.fn (.func 165) [] [.ptr 0 0]∧lk ρ 6=.ptr p 0∧lk ρ 65=.lst (vsC vs) vs.length 3∧lk ρ 66=.i vs.length∧lk ρ 67=.i i ∧
   0 < G.length∧p < G.length∧0 < q∧q < G.length∧G[0]?=some (.cells (kerC vs os rs) 0)∧G[p]?=some (.cells [.dy q 0] st)∧G[q]?=some (.dyn (m.map .bool) m.length 1 0 st')∧m.length=vs.length∧∀ j,j < i→gb m j=z2v (gv vs j)) (N:=vs.length)
  ⟨0,List.replicate vs.length false,G.length+1,G.length,1,0,rfl,by omega,by simp[h1],by simp[h3],by simp,by simp[h1],by simp,by simp,by simp,by simp,hl,by simp,by rw[old1 hl]; exact hG,by simp,by simp[repB],by simp,by simp⟩ ?_
 clear h1 h3 hG hr hNx hl
 rintro N ρ D G ⟨i,m,p,q,st,st',rfl,hN,h1,h3,h6,h65,h66,h67,hl,hpl,hq0,hql,hG,hp,hq,hml,hm⟩ Nx hNx
 by_cases g:i < vs.length
 ·have hg:=zbw g
  have q3:=zcm hg
  have hqq:=zsl g
  have hf:(gv vs i).f=[.i (gv vs i).limbs,.bool (gv vs i).sec,.i (gv vs i).mode]:=rfl
  simp[h1,h6,h65,h66,h67,g,q3,hqq,hf,↓old1 hpl,hp]
  rw[←hf]
  refine z02 (z9h (gv vs i)) (bors_self _ rfl) ?_
  simp[↓old1 hpl,↓old1 hql,hp,hq,h6,h67,g,hml]
  refine⟨by omega,by omega,hNx _ _ _ ⟨N - 1,by omega,i+1,m.set i (z2v (gv vs i)),p,q,st,st'+1,rfl,by omega,by simp[h1],by simp[h3],by simp[h6],by simp[h65],by simp[h66],by simp,by simp,by simp; omega,hq0,by simp; omega,?_,?_,?_,by simp[hml],fun j hj=>?_⟩⟩
  ·rw[List.getElem?_set_ne (by omega),old1 hl]; exact hG
  ·have hpq:p≠q:=fun e=>by rw[e,hq] at hp; cases hp
   rw[List.getElem?_set_ne (by omega),old1 hpl]; exact hp
  ·rw[List.getElem?_set_self (by simp; omega),zkh _ _ _ _ (by omega),List.length_set,hml]
  ·rw[gb_setv _ _ _ _ (by omega)]
   split
   ·rename_i e; rw[e]
   ·exact hm j (by omega)
 have hms:m=z7a vs:=gb_ext (by simp[z7a,hml]) (fun j hj=>by
  rw[hm j (by omega)]
  unfold gb z7a
  rw[List.getD_eq_getElem?_getD,List.getElem?_map,zbw (by omega)]; rfl)
 simp[h1,h6,h65,h66,h67,g,hG,kerC]
 refine z0m (fun ρ D G N=>∃ (i:Nat) (m:List Bool) (dp:Int) (p q st st':Nat),D=[]∧N+i=os.length∧lk ρ 1=.ptr 0 0∧lk ρ 3=.fn (.func 165) [] [.ptr 0 0]∧lk ρ 6=.ptr p 0∧lk ρ 9=.i dp∧lk ρ 79=.lst (osC os) os.length 7∧lk ρ 80=.i os.length∧lk ρ 81=.i i ∧
   0 < G.length∧p < G.length∧0 < q∧q < G.length∧G[0]?=some (.cells (kerC vs os rs) 0)∧G[p]?=some (.cells [.dy q 0] st)∧G[q]?=some (.dyn (m.map .bool) m.length 1 0 st')∧m.length=vs.length∧0≤dp∧dp≤4∧ogo vs m dp (os.drop i)=ogo vs (z7a vs) 0 os) (N:=os.length)
  ⟨0,m,0,p,q,st,st',rfl,by omega,by simp[h1],by simp[h3],by simp[h6],by simp,by simp[h1],by simp,by simp,hl,hpl,hq0,hql,hG,hp,hq,hml,by omega,by omega,by simp[hms]⟩ ?_
 clear h1 h3 h6 hG hp hq hNx hl hpl hq0 hql hml
 rintro N ρ D G ⟨i,m,dp,p,q,st,st',rfl,hN,h1,h3,h6,h9,h79,h80,h81,hl,hpl,hq0,hql,hG,hp,hq,hml,hd0,hd4,hv2⟩ Nx hNx
 have hpq:p≠q:=fun e=>by rw[e,hq] at hp; cases hp
 by_cases g:i < os.length
 ·have q7:=zqx (zu6 g)
  have hqq:=os_lt g
  rw[drop_go g] at hv2
  have hf:(go os i).f=[.i (go os i).kind,.i (go os i).d,.i (go os i).e,.i (go os i).a,.i (go os i).b,.i (go os i).c,.u (go os i).imm]:=rfl
  generalize go os i=o at *
  have no:ogo vs m dp (o::os.drop (i+1))=none→chkE vs os rs=2:=fun h=>bad (by
   rw[h] at hv2
   simp[chkB,←hv2])
  simp[h1,h79,h80,h81,g,q7,hqq,hf,↓old1 hl,hG,kerC]
  rw[←hf]
  refine z02 (zi6 vs o) (bors_self _ (by simp[dats,LV.dat,z1f,hf])) ?_
  cases ho:oneB vs o with
  | false =>
   simp
   exact (no (by simp[ogo,ho])).symm
  | true =>
  have hin:=one_in ho
  simp[hf]
  rw[←hf]
  refine z1p (z9i o hin.swap) rfl ?_
  simp[h6]
  have htl:(z34 o).length≤9223372036854775807:=by
   have h1:([o.a,o.b,o.c].filter fun v=>!decide (v < 0)).length≤3:=List.length_filter_le _ _
   unfold z34
   split <;> simp at h1 ⊢ <;> omega
  refine z68 (p:=fun v=>!gb m v.toNat) htl (fun v hv K' k=>znr v (by rw[old1 hpl]; exact hp) (by rw[old1 hql]; exact hq) (by have:=hin.takes v hv; omega) k) ?_
  cases ht:z9g m o with
  | false =>
   have:((z34 o).any fun v=>!gb m v.toNat)=true:=by
    have h:=ht
    unfold z9g at h
    rw[List.all_eq_false] at h
    obtain⟨v,hv,h⟩:=h
    exact List.any_eq_true.2 ⟨v,hv,by simpa using h⟩
   rw[this]
   simp
   exact (no (by simp[ogo,ho,ht])).symm
  | true =>
  have:((z34 o).any fun v=>!gb m v.toNat)=false:=by
   have h:=ht
   unfold z9g at h
   rw[List.all_eq_true] at h
   rw[List.any_eq_false]
   intro v hv
   simp[h v hv]
  rw[this]
  have fin:∀ dp',dp'=dp+dl o.kind→(dp' < 0∨4 < dp'→chkE vs os rs=2)∧(0≤dp'→dp'≤4→ogo vs (z8t m o) dp' (os.drop (i+1))=ogo vs (z7a vs) 0 os):=fun dp' e=>by
   subst e
   refine⟨fun h=>no ?_,fun h0 h4=>?_⟩
   ·rw[ogo,if_neg]
    simp only[Bool.and_eq_true,decide_eq_true_eq]
    omega
   ·rw[←hv2,ogo,if_pos]
    simp only[Bool.and_eq_true,decide_eq_true_eq]
    exact⟨ho,ht,h0,h4⟩
  have hsw:∃ dl',dl o.kind=dl'∧-1≤dl'∧dl'≤1∧((o.kind=15∧dl'=1)∨(o.kind≠15∧o.kind=16∧dl'=-1)∨(o.kind≠15∧o.kind≠16∧dl'=0)):=by
   by_cases k1:o.kind=15
   ·exact⟨1,by simp[dl,k1],by omega,by omega,.inl ⟨k1,rfl⟩⟩
   by_cases k2:o.kind=16
   ·exact⟨-1,by simp[dl,k2],by omega,by omega,.inr (.inl ⟨k1,k2,rfl⟩)⟩
   ·exact⟨0,by simp[dl,k1,k2],by omega,by omega,.inr (.inr ⟨k1,k2,rfl⟩)⟩
  obtain⟨dl',e1,e2,e3,hsw⟩:=hsw
  obtain⟨fin1,fin2⟩:=fin (dp+dl') (by rw[e1])
  have hdi:=hin.d
  have hml2:0≤o.d→o.d < (m.length:Int):=fun h=>by omega
  have hset:0≤o.d→z0w (m.map LV.bool) o.d.toNat [.bool true]=(m.set o.d.toNat true).map LV.bool:=fun h=>zkh LV.bool _ _ true (by omega)
  have next:∀ (dp':Int) (ρ':LEnv) (G':z03) (st'':Nat),dp'=dp+dl'→0≤dp'→dp'≤4→lk ρ' 1=.ptr 0 0→lk ρ' 3=.fn (.func 165) [] [.ptr 0 0]→lk ρ' 6=.ptr p 0→lk ρ' 9=.i dp'→lk ρ' 79=.lst (osC os) os.length 7→lk ρ' 80=.i os.length→lk ρ' 81=.i ((i:Int)+1) →
    G.length≤G'.length→G'[0]?=some (.cells (kerC vs os rs) 0)→G'[p]?=some (.cells [.dy q 0] st)→G'[q]?=some (.dyn ((z8t m o).map .bool) m.length 1 0 st'')→Nx ρ' [] G':=by
   intro dp' ρ' G' st'' e hd0' hd4' a1 a3 a6 a9 a79 a80 a81 hle b0 bp bq
   have hsl:(z8t m o).length=m.length:=by unfold z8t; split <;> simp
   refine hNx _ _ _ ⟨N - 1,by omega,i+1,z8t m o,dp',p,q,st,st'',rfl,by omega,a1,a3,a6,a9,a79,a80,by rw[a81]; simp,by omega,by omega,hq0,by omega,b0,bp,by rw[hsl]; exact bq,by rw[hsl,hml],hd0',hd4',?_⟩
   subst e
   exact fin2 hd0' hd4'
  have q0:q≠0:=by omega
  have st1:0≤o.d→z8t m o=m.set o.d.toNat true:=fun h=>by simp[z8t,h]
  have st0:¬ 0≤o.d→z8t m o=m:=fun h=>by simp[z8t,h]
  rcases hsw with ⟨k15,rfl⟩ | ⟨k15,k16,rfl⟩ | ⟨k15,k16,rfl⟩
  ·have r0:¬ dp+1 < 0:=by omega
   by_cases d4:4 < dp+1
   ·simp[h9,hf,k15,r0,d4]
    repeat (refine⟨by omega,?_⟩)
    exact (fin1 (.inr d4)).symm
   by_cases d1:0≤o.d
   ·have d2:=hml2 d1
    simp[h6,h9,h81,hf,k15,r0,d4,↓old1 hpl,↓old1 hql,hp,hq,d1,d2,hset d1]
    repeat (refine⟨by omega,?_⟩)
    refine next (dp+1) _ _ (st'+1) rfl (by omega) (by omega) (by simp[h1]) (by simp[h3]) (by simp[h6]) (by simp) (by simp[h79]) (by simp[h80]) (by simp) (by simp) ?_ ?_ ?_
    ·rw[List.getElem?_set_ne (by omega),old1 hl]; exact hG
    ·rw[List.getElem?_set_ne (by omega),old1 hpl]; exact hp
    ·rw[List.getElem?_set_self (by simp; omega),st1 d1,List.map_set]
   ·simp[h6,h9,h81,hf,k15,r0,d4,d1]
    repeat (refine⟨by omega,?_⟩)
    exact next (dp+1) _ _ st' rfl (by omega) (by omega) (by simp[h1]) (by simp[h3]) (by simp[h6]) (by simp) (by simp[h79]) (by simp[h80]) (by simp) (by simp) (by rw[old1 hl]; exact hG) (by rw[old1 hpl]; exact hp) (by rw[old1 hql,st0 d1]; exact hq)
  ·by_cases r0:dp - 1 < 0
   ·simp[h9,hf,k15,k16,r0]
    repeat (refine⟨by omega,?_⟩)
    exact (fin1 (.inl (by omega))).symm
   have d4:¬ 4 < dp - 1:=by omega
   by_cases d1:0≤o.d
   ·have d2:=hml2 d1
    simp[h6,h9,h81,hf,k15,k16,r0,d4,↓old1 hpl,↓old1 hql,hp,hq,d1,d2,hset d1]
    repeat (refine⟨by omega,?_⟩)
    refine next (dp - 1) _ _ (st'+1) (by omega) (by omega) (by omega) (by simp[h1]) (by simp[h3]) (by simp[h6]) (by simp) (by simp[h79]) (by simp[h80]) (by simp) (by simp) ?_ ?_ ?_
    ·rw[List.getElem?_set_ne (by omega),old1 hl]; exact hG
    ·rw[List.getElem?_set_ne (by omega),old1 hpl]; exact hp
    ·rw[List.getElem?_set_self (by simp; omega),st1 d1,List.map_set]
   ·simp[h6,h9,h81,hf,k15,k16,r0,d4,d1]
    repeat (refine⟨by omega,?_⟩)
    exact next (dp - 1) _ _ st' (by omega) (by omega) (by omega) (by simp[h1]) (by simp[h3]) (by simp[h6]) (by simp) (by simp[h79]) (by simp[h80]) (by simp) (by simp) (by rw[old1 hl]; exact hG) (by rw[old1 hpl]; exact hp) (by rw[old1 hql,st0 d1]; exact hq)
  ·have r0:¬ dp < 0:=by omega
   have d4:¬ 4 < dp:=by omega
   by_cases d1:0≤o.d
   ·have d2:=hml2 d1
    simp[h6,h9,h81,hf,k15,k16,r0,d4,↓old1 hpl,↓old1 hql,hp,hq,d1,d2,hset d1]
    repeat (refine⟨by omega,?_⟩)
    refine next dp _ _ (st'+1) (by omega) (by omega) (by omega) (by simp[h1]) (by simp[h3]) (by simp[h6]) (by simp[h9]) (by simp[h79]) (by simp[h80]) (by simp) (by simp) ?_ ?_ ?_
    ·rw[List.getElem?_set_ne (by omega),old1 hl]; exact hG
    ·rw[List.getElem?_set_ne (by omega),old1 hpl]; exact hp
    ·rw[List.getElem?_set_self (by simp; omega),st1 d1,List.map_set]
   ·simp[h6,h9,h81,hf,k15,k16,r0,d4,d1]
    repeat (refine⟨by omega,?_⟩)
    exact next dp _ _ st' (by omega) (by omega) (by omega) (by simp[h1]) (by simp[h3]) (by simp[h6]) (by simp[h9]) (by simp[h79]) (by simp[h80]) (by simp) (by simp) (by rw[old1 hl]; exact hG) (by rw[old1 hpl]; exact hp) (by rw[old1 hql,st0 d1]; exact hq)
 have hv3:ogo vs (z7a vs) 0 os=some (m,dp):=by
  rw[List.drop_of_length_le (by omega)] at hv2
  rw[←hv2]; rfl
 have l1:os.length≤4096:=by omega
 have l2:rs.length≤4096:=by omega
 have hend:chkB vs os rs=(z7b vs m && decide (dp=0)):=by simp[chkB,hv,hreq,hv3,l1,l2]
 simp[h1,h3,h6,h79,h80,h81,g,hp,hq]
 refine z0m (fun ρ D G' N=>∃ i:Nat,D=[]∧G'=G∧N+i=vs.length∧lk ρ 1=.ptr 0 0∧lk ρ 3=.fn (.func 165) [] [.ptr 0 0]∧lk ρ 6=.ptr p 0∧lk ρ 9=.i dp∧lk ρ 121=.i vs.length∧lk ρ 122=.i i ∧
   ∀ j,j < i→(gv vs j).mode=3→gb m j=true) (N:=vs.length) ⟨0,rfl,rfl,by omega,by simp[h1],by simp[h3],by simp[h6],by simp[h9],by simp[hml],by simp,fun j hj=>by omega⟩ ?_
 clear h1 h3 h6 h9 hNx
 rintro N ρ D G' ⟨i,rfl,rfl,hN,h1,h3,h6,h9,h121,h122,ha⟩ Nx hNx
 by_cases g:i < vs.length
 ·have gm:i < m.length:=by omega
  have q1:=za4 (f:=LV.bool) (at_gb gm)
  simp[h3,h121,h122,g]
  refine zbm (i:Int) hG (by omega) ?_
  cases ho:outB vs i with
  | false =>
   simp[h122]
   refine⟨by omega,hNx _ _ _ ⟨N - 1,by omega,i+1,rfl,rfl,by omega,by simp[h1],by simp[h3],by simp[h6],by simp[h9],by simp[h121],by simp,fun j hj hm3=>?_⟩⟩
   by_cases e:j=i
   ·subst e; simp[outB,hm3] at ho
   ·exact ha j (by omega) hm3
  | true =>
   cases hb:gb m i with
   | false =>
    simp[h6,h122,hp,hq,gm,z05 q1,hb]
    have hm3:(gv vs i).mode=3:=by simp[outB] at ho; exact ho
    have:z7b vs m=false:=by
     unfold z7b
     rw[List.all_eq_false]
     exact⟨i,List.mem_range.2 g,by simp[hm3,hb]⟩
    exact (bad (by rw[hend,this]; rfl)).symm
   | true =>
    simp[h6,h122,hp,hq,gm,z05 q1,hb]
    refine⟨by omega,hNx _ _ _ ⟨N - 1,by omega,i+1,rfl,rfl,by omega,by simp[h1],by simp[h3],by simp[h6],by simp[h9],by simp[h121],by simp,fun j hj hm3=>?_⟩⟩
    by_cases e:j=i
    ·rw[e]; exact hb
    ·exact ha j (by omega) hm3
 have hall:z7b vs m=true:=by
  unfold z7b
  rw[List.all_eq_true]
  intro j hj
  have hj:=List.mem_range.1 hj
  by_cases hm3:(gv vs j).mode=3
  ·simp[ha j (by omega) hm3]
  ·simp[hm3]
 by_cases d0:dp=0
 ·simp[h9,h121,h122,g,d0]
  simp[chkE,hend,hall,d0]
 ·simp[h9,h121,h122,g,d0]
  simp[chkE,hend,d0]
end Go.Proofs.YtodjkjimaheggaaGreat
