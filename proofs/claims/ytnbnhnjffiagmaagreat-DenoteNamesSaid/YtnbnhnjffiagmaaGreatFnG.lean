/- Words: what the functions come to. -/
import Derived.Test.YtnbnhnjffiagmaaGreatFnE
import Derived.Test.YtnbnhnjffiagmaaGreatSvG3
namespace Go.Proofs.YtnbnhnjffiagmaaGreat
open Go.Sv
set_option linter.unusedSimpArgs false
def c_word_Sub:LC:=(.seq (.ops [.z 6 (.move (.c (.u 0))),.z 7 (.move (.c (.bool false)))]) (.seq (.ops [.m 8 0,.m 9 1,.z 10 (.bin .sub false 28 (.t 8) (.t 9)),.m 6 10]) (.seq (.ops [.m 11 0,.m 12 1,.z 13 (.bin .lss false 28 (.t 11) (.t 12)),.m 7 13]) (.seq (.seq (.ops [.m 14 2]) (.cond (.t 14) (.seq (.ops [.m 15 7,.m 16 15,⟨some 17,(some (16,false)),.move (.t 6)⟩,⟨some 18,(some (16,false)),.bin .eql true 28 (.t 17) (.c (.u 0))⟩,.z 19 (.pick (.t 16) (.c (.bool true)) (.t 18)),.m 7 19]) (.ops [.m 20 6,.z 21 (.bin .sub true 28 (.t 20) (.c (.u 1))),.m 6 21])) .skip)) (.seq (.ops [.m 22 6,.m 23 7,.m 6 22,.m 7 23]) .ret)))))
theorem r_word_Sub:resFn Tryz.prog 164=some ⟨24,c_word_Sub.r,[.tmp 6,.tmp 7]⟩:=by kernel_rfl
theorem k_word_Sub:c_word_Sub.ok=true:=by kernel_rfl
def c_word_Mul:LC:=(.seq (.ops [.z 4 (.move (.c (.u 0))),.z 5 (.move (.c (.u 0)))]) (.seq (.ops [.m 13 0,.z 14 (.bin .shr true 28 (.t 13) (.c (.u 32))),.m 15 0,.z 16 (.bin .and true 28 (.t 15) (.c (.u 4294967295))),.m 6 14,.m 7 16]) (.seq (.ops [.m 17 1,.z 18 (.bin .shr true 28 (.t 17) (.c (.u 32))),.m 19 1,.z 20 (.bin .and true 28 (.t 19) (.c (.u 4294967295))),.m 8 18,.m 9 20]) (.seq (.ops [.m 21 7,.m 22 9,.z 23 (.bin .mul false 28 (.t 21) (.t 22)),.m 10 23]) (.seq (.ops [.m 24 6,.m 25 9,.z 26 (.bin .mul false 28 (.t 24) (.t 25)),.m 27 10,.z 28 (.bin .shr true 28 (.t 27) (.c (.u 32))),.z 29 (.bin .add false 28 (.t 26) (.t 28)),.m 11 29]) (.seq (.ops [.m 30 7,.m 31 8,.z 32 (.bin .mul false 28 (.t 30) (.t 31)),.m 33 11,.z 34 (.bin .and true 28 (.t 33) (.c (.u 4294967295))),.z 35 (.bin .add false 28 (.t 32) (.t 34)),.m 12 35]) (.seq (.ops [.m 36 6,.m 37 8,.z 38 (.bin .mul false 28 (.t 36) (.t 37)),.m 39 11,.z 40 (.bin .shr true 28 (.t 39) (.c (.u 32))),.z 41 (.bin .add false 28 (.t 38) (.t 40)),.m 42 12,.z 43 (.bin .shr true 28 (.t 42) (.c (.u 32))),.z 44 (.bin .add false 28 (.t 41) (.t 43)),.m 45 0,.m 46 1,.z 47 (.bin .mul false 28 (.t 45) (.t 46)),.m 4 44,.m 5 47]) .ret)))))))
theorem r_word_Mul:resFn Tryz.prog 143=some ⟨48,c_word_Mul.r,[.tmp 4,.tmp 5]⟩:=by kernel_rfl
theorem k_word_Mul:c_word_Mul.ok=true:=by kernel_rfl
def c_word_Bits:LC:=(.seq (.ops [.z 2 (.move (.c (.i 0)))]) (.seq (.ops [.z 3 (.move (.c (.i 0)))]) (.seq (.seq (.ops [.z 4 (.move (.c (.i 32)))]) (.block 0 (.loop (.seq (.seq (.ops [.m 5 4,.z 6 (.bin .gtr true 3 (.t 5) (.c (.i 0)))]) (.cond (.t 6) .skip (.exit 0))) (.seq (.block 1 (.seq (.ops [.m 9 0,.m 10 4,.z 11 (.bin .shr false 28 (.t 9) (.t 10)),.z 12 (.bin .neq true 28 (.t 11) (.c (.u 0)))]) (.cond (.t 12) (.draw [(.m 13 3,[]),(.m 14 4,[]),(.z 15 (.bin .add false 3 (.t 13) (.t 14)),[]),(.m 16 0,[]),(.m 17 4,[]),(.z 18 (.bin .shr false 28 (.t 16) (.t 17)),[]),(.m 3 15,[]),(.m 0 18,[])]) .skip))) (.ops [.m 7 4,.z 8 (.bin .shr true 3 (.t 7) (.c (.u 1))),.m 4 8])))))) (.seq (.ops [.m 19 3,.m 20 0,.z 21 (.cvInt .i64 (.t 20)),.z 22 (.bin .add false 3 (.t 19) (.t 21)),.m 2 22]) .ret))))
theorem r_word_Bits:resFn Tryz.prog 86=some ⟨23,c_word_Bits.r,[.tmp 2]⟩:=by kernel_rfl
theorem k_word_Bits:c_word_Bits.ok=true:=by kernel_rfl
theorem subC_true (a b:UInt64):(b≤a→decide (a - b=0)=(subC a b true).2)∧(a < b→true=(subC a b true).2):=by
 unfold subC
 refine⟨fun h=>?_,fun h=>?_⟩
 ·have h':¬ a < b:=UInt64.not_lt.2 h
  simp[h']
 ·simp[h]
theorem word_Sub_ok (a b:UInt64) (c:Bool):FnS Tryz.prog 164 [.u a,.u b,.bool c] (.tup [.u (subC a b c).1,.bool (subC a b c).2]) []:=by
 refine FnS.val rfl (call_body r_word_Sub k_word_Sub (by simp) ?_)
 cases c
 ·simp[c_word_Sub]
  simp[subC,subU_eq]
 ·simp[c_word_Sub]
  simp only[subU_eq]
  exact⟨fun h=>⟨rfl,((subC_true a b).2 h).symm⟩,fun h=>⟨rfl,(subC_true a b).1 h⟩⟩
theorem word_Mul_ok (a b:UInt64):FnS Tryz.prog 143 [.u a,.u b] (.tup [.u (mulHi a b),.u (a * b)]) []:=by
 refine FnS.val rfl (call_body r_word_Mul k_word_Mul (by simp) ?_)
 simp[c_word_Mul]
 exact⟨mul_hi a b,mulU_eq a b⟩
theorem word_Bits_ok (a:UInt64):FnS Tryz.prog 86 [.u a] (.i (blen a.toNat)) []:=by
 refine FnS.val rfl (call_body r_word_Bits k_word_Bits (by simp) ?_)
 simp[c_word_Bits]
 refine loop_nx (fun ρ D G N=>∃ (x:UInt64) (i:Nat),D=[]∧N≤6∧lk ρ 0=.u x∧lk ρ 3=.i i∧lk ρ 4=.i (2 ^ N / 2:Nat)∧x.toNat < 2 ^ 2 ^ N∧i+blen x.toNat=blen a.toNat) (N:=6) ⟨a,0,by simp; exact a.toNat_lt⟩ ?_
 rintro N ρ D G ⟨x,i,rfl,hN,h0,h3,h4,hx,hb⟩ Nx hNx
 have hle:blen a.toNat≤64:=blen_le a.toNat_lt
 cases N with
 | zero =>
  simp at hx h4
  have hbx:=blen_one hx
  simp[h0,h3,h4]
  omega
 | succ N =>
  have e1:2 ^ (N+1) / 2=2 ^ N:=by rw[Nat.pow_succ]; omega
  have hpos:0 < 2 ^ N:=Nat.two_pow_pos N
  have hsm:2 ^ N≤2 ^ 5:=Nat.pow_le_pow_right (by omega) (by omega)
  rw[e1] at h4
  obtain⟨w,hw⟩:∃ w,2 ^ N=w:=⟨_,rfl⟩
  have hs:=shr_val x w
  have hx2:x.toNat < 2 ^ w * 2 ^ w:=by
   rw[←Nat.pow_add,←hw]; rw[Nat.pow_succ] at hx
   rwa [show 2 ^ N+2 ^ N=2 ^ N * 2 by omega]
  rw[hw] at h4 hpos hsm
  have hdiv:w / 2=2 ^ N / 2:=by rw[hw]
  by_cases hz:shrU x w=0
  ·have hz2:x.toNat / 2 ^ w=0:=by rw[←hs,hz]; rfl
   have hlt:x.toNat < 2 ^ w:=by
    have:=Nat.two_pow_pos w
    rcases Nat.div_eq_zero_iff.1 hz2 with h | h
    ·omega
    ·exact h
   simp[h0,h3,h4,hpos,hz]
   exact hNx _ _ _ ⟨N,by omega,x,i,rfl,by omega,by simp[h0],by simp[h3],by simp[←hdiv],by rw[hw]; exact hlt,hb⟩
  ·have hz2:x.toNat / 2 ^ w≠0:=by rw[←hs]; exact fun e=>hz ((u_zero_iff _).2 e)
   have hsh:=blen_shift w hz2
   simp[h0,h3,h4,hpos,hz]
   refine⟨by omega,hNx _ _ _ ⟨N,by omega,shrU x w,i+w,rfl,by omega,by simp,by simp,by simp[←hdiv],?_,by rw[hs]; omega⟩⟩
   rw[hw,hs]
   exact Nat.div_lt_of_lt_mul hx2
end Go.Proofs.YtnbnhnjffiagmaaGreat
