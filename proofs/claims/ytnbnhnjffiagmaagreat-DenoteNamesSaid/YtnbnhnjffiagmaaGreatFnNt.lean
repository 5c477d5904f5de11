/- DenoteCalls, walked. -/
import Derived.Test.YtnbnhnjffiagmaaGreatFnNs
namespace Go.Proofs.YtnbnhnjffiagmaaGreat
open Go.Sv
set_option linter.unusedSimpArgs false
set_option maxRecDepth 10000
theorem Holds_1_rows {G:LHeap} {p st:Nat} {X:List (List UInt64)} {x:Int} {K:LV→LHeap→Prop} (hp:G[p]?=some (.cells [.lst (X.map LU) X.length 1] st)) (k:K (.bool (thereB X.length x)) G):CallL Tryz.prog (.fn 50) [.i x,.ptr p 0] G K:=by
 refine call_body r_denote_Holds_1 k_denote_Holds_1 (by simp) ?_
 by_cases h:0≤x
 ·simp[c_denote_Holds_1,h,hp]
  simpa [thereB,h] using k
 ·simp[c_denote_Holds_1,h]
  simpa [thereB,h] using k
theorem dHolds_ok (f:Fc) (X:List (List UInt64)) (hv:∀ x∈X,x.length≤1000):FnS Tryz.prog 19 [.agg (fcF f),LN X] (.bool (holdsB f (X.map val))) []:=by
 refine FnS.val rfl (call_body r_denote_Holds k_denote_Holds (by simp) ?_)
 obtain⟨k,a,b⟩:=f
 simp[c_denote_Holds,fcF,LN]
 refine Holds_1_rows (X:=X) (by simp; rfl) ?_
 by_cases ha:thereB X.length a=true
 case neg =>
  simp[ha,holdsB]
 obtain⟨n,rfl,hn⟩:∃ n:Nat,a=n∧n < X.length:=⟨a.toNat,by simp[thereB] at ha; omega,by simp[thereB] at ha; omega⟩
 have qa:=rows_at hn
 have hva:=in_len hv n
 have ga:gN (X.map val) n=val (X.getD n []):=by rw[gN_at (by omega)]; exact vals_at
 obtain⟨x,hx⟩:∃ x,X.getD n []=x:=⟨_,rfl⟩
 have hx3:X[n]=x:=by rw[←hx]; simp[hn]
 rw[hx] at qa hva ga
 simp[ha,holdsB,ga]
 by_cases k1:k=1
 ·simp[k1,hn]
  refine CallL_F (nat_Bit_ok x 0 (by omega)) (by simp[hx3]) ?_
  simp[Nat.testBit_zero]
 by_cases k3:k=3
 ·simp[k1,k3,hn]
  refine CallL_F (nat_Bits_ok x (by omega)) (by simp[hx3]) ?_
  simp
  have:=blen_pos (val x)
  omega
 by_cases k2:k=2
 ·simp[k2]
  refine Holds_1_rows (X:=X) (by simp; rfl) ?_
  by_cases hb:thereB X.length b=true
  case neg=>simp[hb]
  obtain⟨m,rfl,hm⟩:∃ m:Nat,b=m∧m < X.length:=⟨b.toNat,by simp[thereB] at hb; omega,by simp[thereB] at hb; omega⟩
  have hvb:=in_len hv m
  have gb':gN (X.map val) m=val (X.getD m []):=by rw[gN_at (by omega)]; exact vals_at
  obtain⟨y,hy⟩:∃ y,X.getD m []=y:=⟨_,rfl⟩
  have hy3:X[m]=y:=by rw[←hy]; simp[hm]
  rw[hy] at hvb gb'
  simp[hb,hn,hm,gb']
  refine CallL_F (nat_Compare_ok x y (by omega) (by omega)) (by simp[hx3,hy3]) ?_
  simp[cmpN_lt]
 ·simp[k1,k2,k3]
end Go.Proofs.YtnbnhnjffiagmaaGreat
