/- Words, naturals: what the functions come to. -/
import Derived.Test.YtnbnhnjffiagmaaGreatSvG3
import Derived.Test.YtnbnhnjffiagmaaGreatProg
import Derived.KernelRfl
namespace Go.Proofs.YtnbnhnjffiagmaaGreat
open Go.Sv
set_option linter.unusedSimpArgs false
def c_nat_row_trim:LC:=(.seq (.ops [.z 2 (.move (.c .nilSl))]) (.seq (.block 0 (.loop (.seq (.seq (.ops [.m 3 0,.z 4 (.lenSl (.t 3)),.z 5 (.bin .gtr true 3 (.t 4) (.c (.i 0))),.m 6 5,⟨some 7,(some (6,true)),.move (.t 0)⟩,⟨some 8,(some (6,true)),.move (.t 0)⟩,⟨some 9,(some (6,true)),.lenSl (.t 8)⟩,⟨some 10,(some (6,true)),.bin .sub true 3 (.t 9) (.c (.i 1))⟩,⟨some 11,(some (6,true)),.ixAddr 1 (.t 7) (.t 10)⟩,⟨some 12,(some (6,true)),.load1 (.t 11)⟩,⟨some 13,(some (6,true)),.bin .eql true 28 (.t 12) (.c (.u 0))⟩,.z 14 (.pick (.t 6) (.t 13) (.c (.bool false)))]) (.cond (.t 14) .skip (.exit 0))) (.block 1 (.ops [.m 15 0,.m 16 0,.z 17 (.lenSl (.t 16)),.z 18 (.bin .sub true 3 (.t 17) (.c (.i 1))),.z 19 (.slSl 1 (.t 15) none (some (.t 18))),.m 0 19]))))) (.seq (.ops [.m 20 0,.m 2 20]) .ret)))
theorem r_nat_row_trim:resFn Tryz.prog 73=some ⟨21,c_nat_row_trim.r,[.tmp 2]⟩:=by kernel_rfl
theorem k_nat_row_trim:c_nat_row_trim.ok=true:=by kernel_rfl
def c_nat_Trim:LC:=(.seq (.ops [.z 2 (.move (.c .nilSl))]) (.seq (.ops [.z 3 (.buildSl 1 0 [] []),.m 4 0,.z 5 (.callV (.c (.fn (.func 73) [] [])) [.t 4]),.z 6 (.appG 1 (.t 3) (.t 5)),.m 2 6]) .ret))
theorem r_nat_Trim:resFn Tryz.prog 42=some ⟨7,c_nat_Trim.r,[.tmp 2]⟩:=by kernel_rfl
theorem k_nat_Trim:c_nat_Trim.ok=true:=by kernel_rfl
def c_word_Add:LC:=(.seq (.ops [.z 6 (.move (.c (.u 0))),.z 7 (.move (.c (.bool false)))]) (.seq (.ops [.m 8 0,.m 9 1,.z 10 (.bin .add false 28 (.t 8) (.t 9)),.m 6 10]) (.seq (.ops [.m 11 6,.m 12 0,.z 13 (.bin .lss false 28 (.t 11) (.t 12)),.m 7 13]) (.seq (.seq (.ops [.m 14 2]) (.cond (.t 14) (.seq (.ops [.m 15 6,.z 16 (.bin .add true 28 (.t 15) (.c (.u 1))),.m 6 16]) (.ops [.m 17 7,.m 18 17,⟨some 19,(some (18,false)),.move (.t 6)⟩,⟨some 20,(some (18,false)),.bin .eql true 28 (.t 19) (.c (.u 0))⟩,.z 21 (.pick (.t 18) (.c (.bool true)) (.t 20)),.m 7 21])) .skip)) (.seq (.ops [.m 22 6,.m 23 7,.m 6 22,.m 7 23]) .ret)))))
theorem r_word_Add:resFn Tryz.prog 141=some ⟨24,c_word_Add.r,[.tmp 6,.tmp 7]⟩:=by kernel_rfl
theorem k_word_Add:c_word_Add.ok=true:=by kernel_rfl
theorem nat_row_trim_ok (a:List UInt64) {G:LHeap} {K:LV→LHeap→Prop} (h:K (LU (toL (val a))) G) (ha:a.length≤1048576):CallL Tryz.prog (.fn 73) [LU a] G K:=by
 refine call_body r_nat_row_trim k_nat_row_trim (by simp) ?_
 simp[c_nat_row_trim]
 refine loop_wp (fun ρ D G' N=>D=[]∧G'=G∧N≤a.length∧lk ρ 0=LU (a.take N)∧val (a.take N)=val a) (N:=a.length) (by simp) ?_
 rintro N ρ D G' ⟨rfl,rfl,hN,h0,ht⟩
 have hlen:(a.take N).length=N:=by simp; omega
 simp[hlen,- List.map_take,- List.length_take] at h0
 have fin:(N=0∨a.getD (N - 1) 0≠0)→toL (val a)=a.take N:=by
  intro h
  rw[←ht]
  refine toL_val ?_
  rcases h with rfl | h
  ·exact .inl (by simp)
  ·by_cases hz:N=0
   ·subst hz; exact .inl (by simp)
   ·have:N=(N - 1)+1:=by omega
    rw[this,take_succ_getD (by omega)]
    exact Trm_snoc h
 by_cases hz:N=0
 ·subst hz
  have hf:=fin (.inl rfl)
  simp at h0 hf
  simp[hf] at h
  simp[h0,h]
 ·obtain⟨n,rfl⟩:∃ n,N=n+1:=⟨N - 1,by omega⟩
  have hlt:n < a.length:=by omega
  have h5:((n:Int)+1 - 1).toNat=n:=by omega
  simp[h0,hlt,h5]
  refine⟨by omega,by omega,fun hz0=>⟨by omega,n,by omega,by omega,⟨by rw[List.take_take]; congr 1; omega,by omega⟩,?_⟩,fun hz0=>?_⟩
  ·rw[←ht,val_take_succ hlt]
   simp[hlt,hz0]
  ·have hf:=fin (.inr (by simpa [hlt] using hz0))
   rw[hf] at h
   simpa [hlen,hN] using h
theorem nat_Trim_ok (a:List UInt64) (ha:a.length≤1048576):FnS Tryz.prog 42 [LU a] (.dy 0 0) [RU (toL (val a))]:=by
 have hl:=toL_length_val a
 refine FnS.row (call_body r_nat_Trim k_nat_Trim (by simp) ?_)
 simp[c_nat_Trim]
 refine nat_row_trim_ok a ?_ ha
 simp
 exact⟨by omega,.inr ⟨0,1,1,rfl,by simp⟩⟩
theorem addC_true (a b:UInt64):(a≤a+b→decide (a+b+1=0)=(addC a b true).2)∧(a+b < a→true=(addC a b true).2):=by
 unfold addC
 refine⟨fun h=>?_,fun h=>?_⟩
 ·have h':¬ a+b < a:=UInt64.not_lt.2 h
  simp[h']
 ·simp[h]
theorem word_Add_ok (a b:UInt64) (c:Bool):FnS Tryz.prog 141 [.u a,.u b,.bool c] (.tup [.u (addC a b c).1,.bool (addC a b c).2]) []:=by
 refine FnS.val rfl (call_body r_word_Add k_word_Add (by simp) ?_)
 cases c
 ·simp[c_word_Add]
  simp[addC,addU_eq]
 ·simp[c_word_Add]
  simp only[addU_eq]
  exact⟨fun h=>⟨rfl,((addC_true a b).2 h).symm⟩,fun h=>⟨rfl,(addC_true a b).1 h⟩⟩
end Go.Proofs.YtnbnhnjffiagmaaGreat
