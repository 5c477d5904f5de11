/- Chapter 20, the document's: what an operation makes. -/
import Derived.Test.YtnbnhnjffiagmaaGreatFnNp
namespace Go.Proofs.YtnbnhnjffiagmaaGreat
open Go.Sv
set_option linter.unusedSimpArgs false
set_option maxRecDepth 10000
def c_ref20_Value:LC:=(.seq (.ops [.z 3 (.box (.t 0)),.z 4 (.box (.t 1)),.z 6 (.move (.c .nilSl))]) (.seq (.ops [.z 7 (.move (.c .nilSl)),.z 8 (.move (.c .nilSl)),.z 9 (.move (.c .nilSl)),.z 10 (.move (.c .nilSl))]) (.seq (.seq (.ops [.f 13 3 4,.l 14 13,.z 15 (.bin .geq true 3 (.t 14) (.c (.i 0)))]) (.cond (.t 15) (.ops [.m 16 2,.f 17 3 4,.l 18 17,.z 19 (.ixAddr 1 (.t 16) (.t 18)),.l 20 19,.m 7 20]) .skip)) (.seq (.seq (.ops [.f 21 4 4,.l 22 21,.z 23 (.bin .geq true 3 (.t 22) (.c (.i 0)))]) (.cond (.t 23) (.ops [.m 24 2,.f 25 4 4,.l 26 25,.z 27 (.ixAddr 1 (.t 24) (.t 26)),.l 28 27,.m 8 28]) .skip)) (.seq (.seq (.ops [.f 29 5 4,.l 30 29,.z 31 (.bin .geq true 3 (.t 30) (.c (.i 0)))]) (.cond (.t 31) (.ops [.m 32 2,.f 33 5 4,.l 34 33,.z 35 (.ixAddr 1 (.t 32) (.t 34)),.l 36 35,.m 9 36]) .skip)) (.seq (.ops [.f 37 0 3,.l 38 37,.f 39 1 4,.l 40 39,.z 41 (.ixAddr 3 (.t 38) (.t 40)),.f 42 0 41,.l 43 42,.m 11 43]) (.seq (.seq (.ops [.f 44 0 4,.l 45 44]) (.block 0 (.seq (.ops [.z 47 (.bin .eql true 3 (.t 45) (.c (.i 1))),.m 46 47]) (.cond (.t 46) (.ops [.f 48 6 4,.l 49 48,.z 50 (.buildSl 1 1 [(.u 0)] [(0,1,.t 49)]),.m 10 50]) (.seq (.ops [.z 52 (.bin .eql true 3 (.t 45) (.c (.i 2))),.m 51 52]) (.cond (.t 51) (.ops [.m 53 7,.m 10 53]) (.seq (.ops [.z 55 (.bin .eql true 3 (.t 45) (.c (.i 3))),.m 54 55]) (.cond (.t 54) (.ops [.m 56 7,.m 57 8,.z 58 (.callV (.c (.fn (.func 130) [] [])) [.t 56,.t 57]),.m 10 58]) (.seq (.ops [.z 60 (.bin .eql true 3 (.t 45) (.c (.i 4))),.m 59 60]) (.cond (.t 59) (.seq (.ops [.m 61 7,.m 62 11,.z 63 (.callV (.c (.fn (.func 131) [] [])) [.t 61,.t 62]),.m 64 11,.z 65 (.callV (.c (.fn (.func 132) [] [])) [.t 64]),.z 66 (.callV (.c (.fn (.func 130) [] [])) [.t 63,.t 65]),.m 12 66]) (.ops [.m 68 12,.m 69 8,.m 70 11,.z 71 (.callV (.c (.fn (.func 131) [] [])) [.t 69,.t 70]),.z 72 (.callV (.c (.fn (.func 133) [] [])) [.t 68,.t 71]),.m 67 72,.z 73 (.extract 0 (.t 67)),.z 74 (.extract 1 (.t 67)),.m 10 73])) (.seq (.seq (.ops [.z 76 (.bin .eql true 3 (.t 45) (.c (.i 5))),.m 75 76]) (.cond (.t 75) .skip (.ops [.z 77 (.bin .eql true 3 (.t 45) (.c (.i 6))),.m 75 77]))) (.cond (.t 75) (.ops [.m 78 7,.m 79 8,.z 80 (.callV (.c (.fn (.func 134) [] [])) [.t 78,.t 79]),.m 10 80]) (.seq (.ops [.z 82 (.bin .eql true 3 (.t 45) (.c (.i 7))),.m 81 82]) (.cond (.t 81) (.seq (.ops [.m 83 7,.m 84 8,.z 85 (.callV (.c (.fn (.func 59) [] [])) [.t 83,.t 84]),.z 86 (.bin .lss true 3 (.t 85) (.c (.i 0)))]) (.cond (.t 86) (.ops [.z 87 (.buildSl 1 1 [(.u 0)] [(0,1,.c (.u 1))]),.m 10 87]) .skip)) (.seq (.ops [.z 89 (.bin .eql true 3 (.t 45) (.c (.i 8))),.m 88 89]) (.cond (.t 88) (.seq (.ops [.m 90 8,.m 10 90]) (.seq (.ops [.m 91 9,.z 92 (.callV (.c (.fn (.func 58) [] [])) [.t 91,.c (.i 0)])]) (.cond (.t 92) (.ops [.m 93 7,.m 10 93]) .skip))) (.seq (.ops [.z 95 (.bin .eql true 3 (.t 45) (.c (.i 9))),.m 94 95]) (.cond (.t 94) (.ops [.m 97 7,.m 98 9,.z 99 (.callV (.c (.fn (.func 135) [] [])) [.t 97,.t 98]),.m 96 99,.z 100 (.extract 0 (.t 96)),.z 101 (.extract 1 (.t 96)),.z 102 (.extract 2 (.t 96)),.m 10 101]) (.seq (.ops [.z 104 (.bin .eql true 3 (.t 45) (.c (.i 10))),.m 103 104]) (.cond (.t 103) (.ops [.m 106 7,.m 107 8,.m 108 9,.z 109 (.callV (.c (.fn (.func 136) [] [])) [.t 106,.t 107,.t 108]),.m 105 109,.z 110 (.extract 0 (.t 105)),.z 111 (.extract 1 (.t 105)),.m 10 110]) (.seq (.ops [.z 113 (.bin .eql true 3 (.t 45) (.c (.i 11))),.m 112 113]) (.cond (.t 112) (.ops [.m 115 7,.m 116 8,.m 117 9,.z 118 (.callV (.c (.fn (.func 137) [] [])) [.t 115,.t 116,.t 117]),.m 114 118,.z 119 (.extract 0 (.t 114)),.z 120 (.extract 1 (.t 114)),.m 10 119]) (.seq (.ops [.z 122 (.bin .eql true 3 (.t 45) (.c (.i 12))),.m 121 122]) (.cond (.t 121) (.draw [(.m 124 7,[]),(.m 125 8,[]),(.m 127 9,[]),(.f 128 0 3,[]),(.l 129 128,[]),(.f 130 5 4,[]),(.l 131 130,[]),(.z 132 (.ixAddr 3 (.t 129) (.t 131)),[]),(.f 133 0 132,[]),(.l 134 133,[]),(.z 126 (.callV (.c (.fn (.func 134) [] [])) [.t 124,.t 125]),[(.l 134 133,false),(.l 131 130,false),(.l 129 128,false)]),(.z 135 (.callV (.c (.fn (.func 138) [] [])) [.t 126,.t 127,.t 134]),[]),(.m 123 135,[]),(.z 136 (.extract 0 (.t 123)),[]),(.z 137 (.extract 1 (.t 123)),[]),(.m 10 136,[])]) (.seq (.ops [.z 139 (.bin .eql true 3 (.t 45) (.c (.i 13))),.m 138 139]) (.cond (.t 138) (.ops [.m 141 7,.m 142 8,.m 143 9,.z 144 (.callV (.c (.fn (.func 139) [] [])) [.t 141,.t 142,.t 143]),.m 140 144,.z 145 (.extract 0 (.t 140)),.z 146 (.extract 1 (.t 140)),.m 10 145]) .skip)))))))))))))))))))))))))) (.seq (.ops [.m 147 10,.m 148 11,.z 149 (.callV (.c (.fn (.func 131) [] [])) [.t 147,.t 148]),.m 6 149]) .ret))))))))
theorem r_ref20_Value:resFn Tryz.prog 88=some ⟨150,c_ref20_Value.r,[.tmp 6]⟩:=by kernel_rfl
theorem k_ref20_Value:c_ref20_Value.ok=true:=by kernel_rfl
theorem rValue_ok {vs:List Vr} {os rs:List Ko} {o:Ko} {v:List Nat} {f:Nat} (hv:varsB vs=true) (hk:okV vs v) (ho:oneB vs o=true) (hm:metB o v=true) (hf:tabF o.kind=some f):FnS Tryz.prog 88 [.agg (kerC vs os rs),.agg o.f,.lst (vaC v) vs.length 1] (.dy 0 0) [RU (toL (opV vs o v))]:=by
 have hA:=okV_lenN hv hk o.a
 have hB:=okV_lenN hv hk o.b
 have hC:=okV_lenN hv hk o.c
 have key:o.kind≠17∧o.kind≠15∧o.kind≠16:=by
  refine⟨fun h=>?_,fun h=>?_,fun h=>?_⟩ <;> · rw[h] at hf; simp[tabF] at hf
 obtain⟨d0,d1⟩:=d_in ho key.1 key.2.1 key.2.2
 obtain⟨l0,l1⟩:=limbs_at hv d0 d1
 obtain⟨a1,b1,c1⟩:=abc_lt ho
 obtain⟨dn,hd⟩:=Int.eq_ofNat_of_zero_le d0
 have hdl:dn < vs.length:=by omega
 have qd:(vsC vs)[dn * 3]?=some (.i (limbsAt vs o.d)):=by
  have:=vs_at0 (at_gv hdl)
  rw[this,limbsAt,hd]; rfl
 have hkl:=hk.1
 have cz:(o.kind=9∨o.kind=10∨o.kind=11∨o.kind=12∨o.kind=13)→gN v o.c≠0:=fun h=>met_c hm h
 have rd:∀ x:Int,x < vs.length→(x < 0∧gN v x=0)∨∃ n:Nat,x=n∧n < vs.length∧(vaC v)[n]?=some (LU (toL (gN v x))):=fun x hx=>by
  by_cases g:x < 0
  ·exact .inl ⟨g,by unfold gN; rw[if_pos g]⟩
  ·obtain⟨n,rfl⟩:=Int.eq_ofNat_of_zero_le (show 0≤x by omega)
   exact .inr ⟨n,rfl,by omega,by rw[gN_at (by omega)]; exact vaC_at (by omega)⟩
 have hop:opV vs o v=rawV vs o v % two64 (limbsAt vs o.d):=rfl
 have hab:=fun s (hs:shapeN o.kind=some s)=>(one_parts (s:=s) ho hs).1
 have neg1:∀ s,partsB vs.length s o=true→(s.testBit 2=false→o.a=-1)∧(s.testBit 3=false→o.b=-1)∧(s.testBit 4=false→o.c=-1):=fun s h=>by
  simp only[partsB,Bool.and_eq_true] at h
  exact⟨partOk_no h.2.2.1,partOk_no h.2.2.2.1,partOk_no h.2.2.2.2⟩
 have pos1:∀ x:Int,0≤x∧x < vs.length→∃ n:Nat,x=n∧n < vs.length∧(vaC v)[n]?=some (LU (toL (gN v x))):=fun x h=>by
  obtain⟨n,rfl⟩:=Int.eq_ofNat_of_zero_le h.1
  exact⟨n,rfl,by omega,by rw[gN_at (by omega)]; exact vaC_at (by omega)⟩
 refine FnS.row (call_body r_ref20_Value k_ref20_Value (by simp) ?_)
 rw[hop]
 unfold tabF at hf
 by_cases h1:o.kind=1
 ·have hp:=hab 1 (by simp[shapeN,h1])
  have ea:=(neg1 _ hp).1 (by decide)
  have eb:=(neg1 _ hp).2.1 (by decide)
  have ec:=(neg1 _ hp).2.2 (by decide)
  have hraw:rawV vs o v=o.imm.toNat:=by simp[rawV,h1]
  rw[hraw]
  generalize gN v o.a=A at *
  generalize gN v o.b=B at *
  generalize gN v o.c=C at *
  generalize limbsAt vs o.d=ld at *
  simp[c_ref20_Value,Ko.f,kerC,h1,ea,eb,ec,hd,hdl,nthL_at qd]
  refine CallL_S (ref02_Low_ok ([o.imm]) ld (by simp)) (by simp) ?_
  simp[RU,val_toL,val_single]
  exact .inr ⟨_,0,0,rfl,by simp⟩
 by_cases h2:o.kind=2
 ·have hp:=hab 5 (by simp[shapeN,h2])
  obtain⟨na,ea,la,qa⟩:=pos1 _ (parts_a hp (by decide))
  have eb:=(neg1 _ hp).2.1 (by decide)
  have ec:=(neg1 _ hp).2.2 (by decide)
  have hraw:rawV vs o v=gN v o.a:=by simp[rawV,h2]
  rw[hraw]
  generalize gN v o.a=A at *
  generalize gN v o.b=B at *
  generalize gN v o.c=C at *
  generalize limbsAt vs o.d=ld at *
  simp[c_ref20_Value,Ko.f,kerC,h2,ea,la,nthL_at qa,eb,ec,hd,hdl,nthL_at qd]
  refine CallL_S (ref02_Low_ok (toL A) ld (by omega)) (by simp) ?_
  simp[RU,val_toL]
  exact .inr ⟨_,0,0,rfl,by simp⟩
 by_cases h3:o.kind=3
 ·have hp:=hab 13 (by simp[shapeN,h3])
  obtain⟨na,ea,la,qa⟩:=pos1 _ (parts_a hp (by decide))
  obtain⟨nb,eb,lb,qb⟩:=pos1 _ (parts_b hp (by decide))
  have ec:=(neg1 _ hp).2.2 (by decide)
  have hraw:rawV vs o v=gN v o.a+gN v o.b:=by simp[rawV,h3]
  rw[hraw]
  generalize gN v o.a=A at *
  generalize gN v o.b=B at *
  generalize gN v o.c=C at *
  generalize limbsAt vs o.d=ld at *
  simp[c_ref20_Value,Ko.f,kerC,h3,ea,la,nthL_at qa,eb,lb,nthL_at qb,ec,hd,hdl,nthL_at qd]
  refine CallL_F (ref02_Add_ok (toL A) (toL B) (by omega) (by omega)) (by simp) ?_
  simp[RU,val_toL]
  have hlen:=len_add hA hB
  refine CallL_S (ref02_Low_ok (toL (A+B)) ld (by omega)) (by simp) ?_
  simp[RU,val_toL]
  exact .inr ⟨_,0,0,rfl,by simp⟩
 by_cases h4:o.kind=4
 ·have hp:=hab 13 (by simp[shapeN,h4])
  obtain⟨na,ea,la,qa⟩:=pos1 _ (parts_a hp (by decide))
  obtain⟨nb,eb,lb,qb⟩:=pos1 _ (parts_b hp (by decide))
  have ec:=(neg1 _ hp).2.2 (by decide)
  have hraw:rawV vs o v=gN v o.a % two64 (limbsAt vs o.d)+two64 (limbsAt vs o.d) - gN v o.b % two64 (limbsAt vs o.d):=by simp[rawV,h4]
  rw[hraw]
  generalize gN v o.a=A at *
  generalize gN v o.b=B at *
  generalize gN v o.c=C at *
  obtain⟨lk',hlk⟩:=Int.eq_ofNat_of_zero_le (show 0≤limbsAt vs o.d by omega)
  rw[hlk] at qd l0 l1 ⊢
  simp[c_ref20_Value,Ko.f,kerC,h4,ea,la,nthL_at qa,eb,lb,nthL_at qb,ec,hd,hdl,nthL_at qd]
  have h1:=low_len (k:=512) A (lk':Int) l1
  have h2:=low_len (k:=512) B (lk':Int) l1
  have hw:val (List.replicate lk' 0++[1])=two64 (lk':Int):=by rw[val_radix]; simp[two64]
  have hlt:¬ A % two64 (lk':Int)+two64 (lk':Int) < B % two64 (lk':Int):=by
   have:=Nat.mod_lt B (two64_pos (lk':Int))
   omega
  have h3:=len_add (k:=513) (len_le (Nat.le_refl _) (Nat.le_trans h1 (by omega))) (top_len (k:=512) (lk':Int) l1)
  have h5:=len_le (Nat.sub_le _ (B % two64 (lk':Int))) h3
  refine CallL_F (ref02_Low_ok (toL A) lk' (by omega)) (by simp) ?_
  simp[RU,val_toL]
  refine CallL_F (radix_ok lk' (by omega)) (by simp) ?_
  simp[RU,val_toL]
  refine CallL_F (ref02_Add_ok (toL (A % two64 (lk':Int))) (List.replicate lk' 0++[1]) (by omega) (by simp; omega)) (by simp) ?_
  simp[RU,val_toL,hw]
  refine CallL_F (ref02_Low_ok (toL B) lk' (by omega)) (by simp) ?_
  simp[RU,val_toL]
  refine CallL_F (ref02_Sub_ok (toL (A % two64 (lk':Int)+two64 (lk':Int))) (toL (B % two64 (lk':Int))) (by omega) (by omega)) (by simp) ?_
  simp[RU,val_toL,hlt]
  refine CallL_S (ref02_Low_ok (toL (A % two64 (lk':Int)+two64 (lk':Int) - B % two64 (lk':Int))) lk' (by omega)) (by simp) ?_
  simp[RU,val_toL]
  exact .inr ⟨_,0,0,rfl,by simp⟩
 by_cases h5:o.kind=5
 ·have hp:=hab 13 (by simp[shapeN,h5])
  obtain⟨na,ea,la,qa⟩:=pos1 _ (parts_a hp (by decide))
  obtain⟨nb,eb,lb,qb⟩:=pos1 _ (parts_b hp (by decide))
  have ec:=(neg1 _ hp).2.2 (by decide)
  have hraw:rawV vs o v=gN v o.a * gN v o.b:=by simp[rawV,h5]
  rw[hraw]
  generalize gN v o.a=A at *
  generalize gN v o.b=B at *
  generalize gN v o.c=C at *
  generalize limbsAt vs o.d=ld at *
  simp[c_ref20_Value,Ko.f,kerC,h5,ea,la,nthL_at qa,eb,lb,nthL_at qb,ec,hd,hdl,nthL_at qd]
  refine CallL_F (ref02_Mul_ok (toL A) (toL B) (by omega) (by omega)) (by simp) ?_
  simp[RU,val_toL]
  have hlen:=mul_len hA hB
  refine CallL_S (ref02_Low_ok (toL (A * B)) ld (by omega)) (by simp) ?_
  simp[RU,val_toL]
  exact .inr ⟨_,0,0,rfl,by simp⟩
 by_cases h6:o.kind=6
 ·have hp:=hab 13 (by simp[shapeN,h6])
  obtain⟨na,ea,la,qa⟩:=pos1 _ (parts_a hp (by decide))
  obtain⟨nb,eb,lb,qb⟩:=pos1 _ (parts_b hp (by decide))
  have ec:=(neg1 _ hp).2.2 (by decide)
  have hraw:rawV vs o v=gN v o.a * gN v o.b:=by simp[rawV,h6]
  rw[hraw]
  generalize gN v o.a=A at *
  generalize gN v o.b=B at *
  generalize gN v o.c=C at *
  generalize limbsAt vs o.d=ld at *
  simp[c_ref20_Value,Ko.f,kerC,h6,ea,la,nthL_at qa,eb,lb,nthL_at qb,ec,hd,hdl,nthL_at qd]
  refine CallL_F (ref02_Mul_ok (toL A) (toL B) (by omega) (by omega)) (by simp) ?_
  simp[RU,val_toL]
  have hlen:=mul_len hA hB
  refine CallL_S (ref02_Low_ok (toL (A * B)) ld (by omega)) (by simp) ?_
  simp[RU,val_toL]
  exact .inr ⟨_,0,0,rfl,by simp⟩
 by_cases h7:o.kind=7
 ·have hp:=hab 13 (by simp[shapeN,h7])
  obtain⟨na,ea,la,qa⟩:=pos1 _ (parts_a hp (by decide))
  obtain⟨nb,eb,lb,qb⟩:=pos1 _ (parts_b hp (by decide))
  have ec:=(neg1 _ hp).2.2 (by decide)
  have hraw:rawV vs o v=if gN v o.a < gN v o.b then 1 else 0:=by simp[rawV,h7]
  rw[hraw]
  generalize gN v o.a=A at *
  generalize gN v o.b=B at *
  generalize gN v o.c=C at *
  generalize limbsAt vs o.d=ld at *
  simp[c_ref20_Value,Ko.f,kerC,h7,ea,la,nthL_at qa,eb,lb,nthL_at qb,ec,hd,hdl,nthL_at qd]
  refine CallL_F (ref02_Compare_ok (toL A) (toL B) (by omega) (by omega)) (by simp) ?_
  by_cases hlt:A < B
  ·simp[val_toL,cmpN_lt,hlt]
   refine CallL_S (ref02_Low_ok [1] ld (by simp)) (by simp) ?_
   simp[RU,val_single]
   exact .inr ⟨_,0,0,rfl,by simp⟩
  ·simp[val_toL,cmpN_lt,hlt]
   refine CallL_S (ref02_Low_ok [] ld (by simp)) ⟨_,_,rfl,.inr ⟨1,rfl⟩,bors_self _ rfl⟩ ?_
   simp[RU,val]
   exact .inr ⟨_,0,0,rfl,by simp⟩
 by_cases h8:o.kind=8
 ·have hp:=hab 29 (by simp[shapeN,h8])
  obtain⟨na,ea,la,qa⟩:=pos1 _ (parts_a hp (by decide))
  obtain⟨nb,eb,lb,qb⟩:=pos1 _ (parts_b hp (by decide))
  obtain⟨nc,ec,lc,qc⟩:=pos1 _ (parts_c hp (by decide))
  have hraw:rawV vs o v=if gN v o.c % 2=1 then gN v o.a else gN v o.b:=by simp[rawV,h8]
  rw[hraw]
  generalize gN v o.a=A at *
  generalize gN v o.b=B at *
  generalize gN v o.c=C at *
  generalize limbsAt vs o.d=ld at *
  simp[c_ref20_Value,Ko.f,kerC,h8,ea,la,nthL_at qa,eb,lb,nthL_at qb,ec,lc,nthL_at qc,hd,hdl,nthL_at qd]
  refine CallL_F (ref02_Bit_ok (toL C) 0 (by omega)) (by simp) ?_
  by_cases hodd:C % 2=1
  ·simp[val_toL,Nat.testBit_zero,hodd]
   refine CallL_S (ref02_Low_ok (toL A) ld (by omega)) (by simp) ?_
   simp[RU,val_toL]
   exact .inr ⟨_,0,0,rfl,by simp⟩
  ·simp[val_toL,Nat.testBit_zero,hodd]
   refine CallL_S (ref02_Low_ok (toL B) ld (by omega)) (by simp) ?_
   simp[RU,val_toL]
   exact .inr ⟨_,0,0,rfl,by simp⟩
 by_cases h9:o.kind=9
 ·have hp:=hab 21 (by simp[shapeN,h9])
  obtain⟨na,ea,la,qa⟩:=pos1 _ (parts_a hp (by decide))
  have eb:=(neg1 _ hp).2.1 (by decide)
  obtain⟨nc,ec,lc,qc⟩:=pos1 _ (parts_c hp (by decide))
  have hraw:rawV vs o v=gN v o.a % gN v o.c:=by simp[rawV,h9]
  rw[hraw]
  have h0:=cz (by omega)
  generalize gN v o.a=A at *
  generalize gN v o.b=B at *
  generalize gN v o.c=C at *
  generalize limbsAt vs o.d=ld at *
  simp[c_ref20_Value,Ko.f,kerC,h9,ea,la,nthL_at qa,eb,ec,lc,nthL_at qc,hd,hdl,nthL_at qd]
  have hlen:∀ x:Nat,(toL (x % C)).length≤512:=fun x=>len_lt (Nat.mod_lt x (Nat.pos_of_ne_zero h0)) hC
  refine CallL_F (ref02_Div_ok (toL A) (toL C) (by omega) (by omega)) (by simp) ?_
  simp[RU,val_toL,h0]
  refine CallL_S (ref02_Low_ok (toL (A % C)) ld (by have:=hlen A; omega)) (by simp) ?_
  simp[RU,val_toL]
  exact .inr ⟨_,0,0,rfl,by simp⟩
 by_cases h10:o.kind=10
 ·have hp:=hab 29 (by simp[shapeN,h10])
  obtain⟨na,ea,la,qa⟩:=pos1 _ (parts_a hp (by decide))
  obtain⟨nb,eb,lb,qb⟩:=pos1 _ (parts_b hp (by decide))
  obtain⟨nc,ec,lc,qc⟩:=pos1 _ (parts_c hp (by decide))
  have hraw:rawV vs o v=(gN v o.a+gN v o.b) % gN v o.c:=by simp[rawV,h10]
  rw[hraw]
  have h0:=cz (by omega)
  generalize gN v o.a=A at *
  generalize gN v o.b=B at *
  generalize gN v o.c=C at *
  generalize limbsAt vs o.d=ld at *
  simp[c_ref20_Value,Ko.f,kerC,h10,ea,la,nthL_at qa,eb,lb,nthL_at qb,ec,lc,nthL_at qc,hd,hdl,nthL_at qd]
  have hlen:∀ x:Nat,(toL (x % C)).length≤512:=fun x=>len_lt (Nat.mod_lt x (Nat.pos_of_ne_zero h0)) hC
  refine CallL_F (ref03_Add_ok (toL A) (toL B) (toL C) (by omega) (by omega) (by omega)) (by simp) ?_
  simp[RU,val_toL,mR_p h0]
  refine CallL_S (ref02_Low_ok (toL ((A+B) % C)) ld (by have:=hlen (A+B); omega)) (by simp) ?_
  simp[RU,val_toL]
  exact .inr ⟨_,0,0,rfl,by simp⟩
 by_cases h11:o.kind=11
 ·have hp:=hab 29 (by simp[shapeN,h11])
  obtain⟨na,ea,la,qa⟩:=pos1 _ (parts_a hp (by decide))
  obtain⟨nb,eb,lb,qb⟩:=pos1 _ (parts_b hp (by decide))
  obtain⟨nc,ec,lc,qc⟩:=pos1 _ (parts_c hp (by decide))
  have hraw:rawV vs o v=subM (gN v o.a) (gN v o.b) (gN v o.c):=by simp[rawV,h11]
  rw[hraw]
  have h0:=cz (by omega)
  generalize gN v o.a=A at *
  generalize gN v o.b=B at *
  generalize gN v o.c=C at *
  generalize limbsAt vs o.d=ld at *
  simp[c_ref20_Value,Ko.f,kerC,h11,ea,la,nthL_at qa,eb,lb,nthL_at qb,ec,lc,nthL_at qc,hd,hdl,nthL_at qd]
  have hlen:∀ x:Nat,(toL (x % C)).length≤512:=fun x=>len_lt (Nat.mod_lt x (Nat.pos_of_ne_zero h0)) hC
  refine CallL_F (ref03_Sub_ok (toL A) (toL B) (toL C) (by omega) (by omega) (by omega)) (by simp) ?_
  simp[RU,val_toL,mR_p h0]
  refine CallL_S (ref02_Low_ok (toL (subM A B C)) ld (by have:=hlen (A % C+C - B % C); unfold subM; omega)) (by simp) ?_
  simp[RU,val_toL]
  exact .inr ⟨_,0,0,rfl,by simp⟩
 by_cases h12:o.kind=12
 ·have hp:=hab 29 (by simp[shapeN,h12])
  obtain⟨na,ea,la,qa⟩:=pos1 _ (parts_a hp (by decide))
  obtain⟨nb,eb,lb,qb⟩:=pos1 _ (parts_b hp (by decide))
  obtain⟨nc,ec,lc,qc⟩:=pos1 _ (parts_c hp (by decide))
  have hraw:rawV vs o v=val (reR (toL (gN v o.a * gN v o.b)) (toL (gN v o.c)) (limbsAt vs o.c)):=by simp[rawV,h12]
  rw[hraw]
  have h0:=cz (by omega)
  have qcl:(vsC vs)[nc * 3]?=some (.i (limbsAt vs o.c)):=by
   have:=vs_at0 (at_gv lc)
   rw[this,limbsAt,ec]; rfl
  generalize limbsAt vs o.c=lcc at *
  generalize gN v o.a=A at *
  generalize gN v o.b=B at *
  generalize gN v o.c=C at *
  generalize limbsAt vs o.d=ld at *
  simp[c_ref20_Value,Ko.f,kerC,h12,ea,la,nthL_at qa,eb,lb,nthL_at qb,ec,lc,nthL_at qc,nthL_at qcl,hd,hdl,nthL_at qd]
  have hlen:∀ x:Nat,(toL (x % C)).length≤512:=fun x=>len_lt (Nat.mod_lt x (Nat.pos_of_ne_zero h0)) hC
  have hml:=mul_len hA hB
  refine CallL_F (ref02_Mul_ok (toL A) (toL B) (by omega) (by omega)) (by simp) ?_
  simp[RU,val_toL]
  refine CallL_F (ref03_Reduce_ok (toL (A * B)) (toL C) lcc (by omega) (by omega)) (by simp) ?_
  simp[RU]
  have hrl:(reR (toL (A * B)) (toL C) lcc).length≤1000000:=by
   unfold reR
   split
   ·rw[val_toL,val_toL]; have:=hlen (A * B * invN (2 ^ (64 * lcc.toNat) % C) C); omega
   ·simp
  refine CallL_S (ref02_Low_ok (reR (toL (A * B)) (toL C) lcc) ld (hrl)) (by simp) ?_
  simp[RU,val_toL]
  exact .inr ⟨_,0,0,rfl,by simp⟩
 by_cases h13:o.kind=13
 ·have hp:=hab 29 (by simp[shapeN,h13])
  obtain⟨na,ea,la,qa⟩:=pos1 _ (parts_a hp (by decide))
  obtain⟨nb,eb,lb,qb⟩:=pos1 _ (parts_b hp (by decide))
  obtain⟨nc,ec,lc,qc⟩:=pos1 _ (parts_c hp (by decide))
  have hraw:rawV vs o v=gN v o.a ^ gN v o.b % gN v o.c:=by simp[rawV,h13]
  rw[hraw]
  have h0:=cz (by omega)
  generalize gN v o.a=A at *
  generalize gN v o.b=B at *
  generalize gN v o.c=C at *
  generalize limbsAt vs o.d=ld at *
  simp[c_ref20_Value,Ko.f,kerC,h13,ea,la,nthL_at qa,eb,lb,nthL_at qb,ec,lc,nthL_at qc,hd,hdl,nthL_at qd]
  have hlen:∀ x:Nat,(toL (x % C)).length≤512:=fun x=>len_lt (Nat.mod_lt x (Nat.pos_of_ne_zero h0)) hC
  refine CallL_V (ref03_Pow_ok (toL A) (toL B) (toL C) (by omega) (by omega) (by omega)) (by simp) ?_
  simp[val_toL,mR_p h0]
  refine CallL_S (ref02_Low_ok (toL (A ^ B % C)) ld (by have:=hlen (A ^ B); omega)) (by simp) ?_
  simp[RU,val_toL]
  exact .inr ⟨_,0,0,rfl,by simp⟩
 ·simp[h1,h2,h3,h4,h5,h6,h7,h8,h9,h10,h11,h12,h13] at hf
end Go.Proofs.YtnbnhnjffiagmaaGreat
