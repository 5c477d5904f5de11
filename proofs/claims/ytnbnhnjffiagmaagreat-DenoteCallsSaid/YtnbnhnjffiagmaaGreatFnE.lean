/- Rows of naturals. -/
import Derived.Test.YtnbnhnjffiagmaaGreatFnD
namespace Go.Proofs.YtnbnhnjffiagmaaGreat
open Go.Sv
set_option linter.unusedSimpArgs false
def c_kit_LightNats:LC:=(.seq (.ops [.z 6 (.move (.c (.bool false)))]) (.seq (.seq (.ops [.z 7 (.move (.c (.i 0)))]) (.block 0 (.loop (.seq (.seq (.ops [.m 8 7,.m 9 0,.z 10 (.lenSl (.t 9)),.z 11 (.bin .lss false 3 (.t 8) (.t 10))]) (.cond (.t 11) .skip (.exit 0))) (.seq (.block 1 (.seq (.ops [.m 14 0,.m 15 7,.z 16 (.ixAddr 1 (.t 14) (.t 15)),.l 17 16,.z 18 (.lenSl (.t 17)),.m 19 2,.z 20 (.bin .gtr false 3 (.t 18) (.t 19))]) (.cond (.t 20) (.seq (.ops [.z 6 (.move (.c (.bool false)))]) .ret) .skip))) (.ops [.m 12 7,.z 13 (.bin .add true 3 (.t 12) (.c (.i 1))),.m 7 13])))))) (.seq (.ops [.m 21 0,.z 22 (.lenSl (.t 21)),.m 23 1,.z 24 (.bin .leq false 3 (.t 22) (.t 23)),.m 6 24]) .ret)))
theorem r_kit_LightNats:resFn Tryz.prog 21=some ⟨25,c_kit_LightNats.r,[.tmp 6]⟩:=by kernel_rfl
theorem k_kit_LightNats:c_kit_LightNats.ok=true:=by kernel_rfl
def c_kit_SameNats:LC:=(.seq (.ops [.z 4 (.move (.c (.bool false)))]) (.seq (.seq (.ops [.m 9 0,.z 10 (.lenSl (.t 9)),.m 11 1,.z 12 (.lenSl (.t 11)),.z 13 (.bin .neq false 3 (.t 10) (.t 12))]) (.cond (.t 13) (.seq (.ops [.z 4 (.move (.c (.bool false)))]) .ret) .skip)) (.seq (.seq (.ops [.z 5 (.move (.c (.i 0)))]) (.block 0 (.loop (.seq (.seq (.ops [.m 14 5,.m 15 0,.z 16 (.lenSl (.t 15)),.z 17 (.bin .lss false 3 (.t 14) (.t 16))]) (.cond (.t 17) .skip (.exit 0))) (.seq (.block 1 (.seq (.ops [.z 6 (.move (.c (.i 0)))]) (.block 2 (.loop (.seq (.seq (.draw [(.m 20 6,[]),(.m 21 0,[]),(.m 22 5,[]),(.z 23 (.ixAddr 1 (.t 21) (.t 22)),[]),(.l 24 23,[]),(.z 25 (.lenSl (.t 24)),[]),(.m 26 1,[]),(.m 27 5,[]),(.z 28 (.ixAddr 1 (.t 26) (.t 27)),[]),(.l 29 28,[]),(.z 30 (.lenSl (.t 29)),[]),(.z 31 (.maxi true (.t 25) (.t 30)),[]),(.z 32 (.bin .lss false 3 (.t 20) (.t 31)),[])]) (.cond (.t 32) .skip (.exit 2))) (.seq (.block 3 (.seq (.ops [.z 7 (.move (.c (.u 0))),.z 8 (.move (.c (.u 0)))]) (.seq (.seq (.ops [.m 35 6,.m 36 0,.m 37 5,.z 38 (.ixAddr 1 (.t 36) (.t 37)),.l 39 38,.z 40 (.lenSl (.t 39)),.z 41 (.bin .lss false 3 (.t 35) (.t 40))]) (.cond (.t 41) (.ops [.m 42 0,.m 43 5,.z 44 (.ixAddr 1 (.t 42) (.t 43)),.l 45 44,.m 46 6,.z 47 (.ixAddr 1 (.t 45) (.t 46)),.l 48 47,.m 7 48]) .skip)) (.seq (.seq (.ops [.m 49 6,.m 50 1,.m 51 5,.z 52 (.ixAddr 1 (.t 50) (.t 51)),.l 53 52,.z 54 (.lenSl (.t 53)),.z 55 (.bin .lss false 3 (.t 49) (.t 54))]) (.cond (.t 55) (.ops [.m 56 1,.m 57 5,.z 58 (.ixAddr 1 (.t 56) (.t 57)),.l 59 58,.m 60 6,.z 61 (.ixAddr 1 (.t 59) (.t 60)),.l 62 61,.m 8 62]) .skip)) (.seq (.ops [.m 63 7,.m 64 8,.z 65 (.bin .neq false 28 (.t 63) (.t 64))]) (.cond (.t 65) (.seq (.ops [.z 4 (.move (.c (.bool false)))]) .ret) .skip)))))) (.ops [.m 33 6,.z 34 (.bin .add true 3 (.t 33) (.c (.i 1))),.m 6 34]))))))) (.ops [.m 18 5,.z 19 (.bin .add true 3 (.t 18) (.c (.i 1))),.m 5 19])))))) (.seq (.ops [.z 4 (.move (.c (.bool true)))]) .ret))))
theorem r_kit_SameNats:resFn Tryz.prog 25=some ⟨66,c_kit_SameNats.r,[.tmp 4]⟩:=by kernel_rfl
theorem k_kit_SameNats:c_kit_SameNats.ok=true:=by kernel_rfl
theorem kit_LightNats_ok (l:List (List UInt64)) (n m:Int) (hl:l.length≤9223372036854775807):FnS Tryz.prog 21 [LN l,.i n,.i m] (.bool (decide (l.length≤n∧∀ x∈l,(x.length:Int)≤m))) []:=by
 refine FnS.val rfl (call_body r_kit_LightNats k_kit_LightNats (by simp) ?_)
 simp[c_kit_LightNats]
 refine loop_nx (fun ρ D G N=>∃ i:Nat,D=[]∧N+i=l.length∧lk ρ 0=LN l∧lk ρ 1=.i n∧lk ρ 2=.i m∧lk ρ 7=.i i∧∀ x∈l.take i,(x.length:Int)≤m) (N:=l.length) ⟨0,by simp⟩ ?_
 rintro N ρ D G ⟨i,rfl,hN,h0,h1,h2,h7,hm⟩ Nx hNx
 by_cases hz:N=0
 ·have hi:i=l.length:=by omega
  subst hi
  rw[List.take_length] at hm
  simp[h0,h1,h7]
  exact fun _=>hm
 ·have hi:i < l.length:=by omega
  by_cases hx:m < ((l.getD i []).length:Int)
  ·have hf:¬ (l.length≤n∧∀ x∈l,(x.length:Int)≤m):=fun h=>by
    have:=h.2 (l.getD i []) (by simp[hi])
    omega
   simp[hi] at hx
   simp[h0,h1,h2,h7,hi,hx]
   simpa using hf
  ·have hmi:∀ x∈l.take (i+1),(x.length:Int)≤m:=by
    intro x hx2
    rw[List.take_succ_eq_append_getElem hi] at hx2
    rcases List.mem_append.1 hx2 with h | h
    ·exact hm x h
    ·simp at h; subst h; simpa [hi] using hx
   simp[hi] at hx
   have hx2:¬ m < (l[i].length:Int):=by omega
   simp[h0,h1,h2,h7,hi,hx2]
   exact⟨by omega,hNx _ _ _ ⟨N - 1,by omega,i+1,rfl,by omega,by simp[h0],by simp[h1],by simp[h2],by simp,hmi⟩⟩
theorem kit_SameNats_ok (a b:List (List UInt64)) (hl:a.length≤1000000000) (ha:∀ x∈a,x.length≤1000000000) (hb:∀ x∈b,x.length≤1000000000):FnS Tryz.prog 25 [LN a,LN b] (.bool (decide (a.map val=b.map val))) []:=by
 refine FnS.val rfl (call_body r_kit_SameNats k_kit_SameNats (by simp) ?_)
 by_cases hab:a.length=b.length
 ·simp[c_kit_SameNats,hab]
  refine loop_nx (fun ρ D G N=>∃ i:Nat,D=[]∧N+i=a.length∧lk ρ 0=LN a∧lk ρ 1=LN b∧lk ρ 5=.i i∧∀ j,j < i→val (a.getD j [])=val (b.getD j [])) (N:=a.length) ⟨0,by simp[hab]⟩ ?_
  rintro N ρ D G ⟨i,rfl,hN,h0,h1,h5,ht⟩ Nx hNx
  by_cases hz:N=0
  ·have hi:i=a.length:=by omega
   subst hi
   have e:=vals_eq hab ht
   simp[h0,h5,e]
  ·have hi:i < a.length:=by omega
   have hib:i < b.length:=by omega
   simp[h0,h5,hi]
   obtain⟨x,hx⟩:∃ x,a.getD i []=x:=⟨_,rfl⟩
   obtain⟨y,hy⟩:∃ y,b.getD i []=y:=⟨_,rfl⟩
   have hxa:a[i]=x:=by simpa [hi] using hx
   have hyb:b[i]=y:=by simpa [hib] using hy
   have lx:x.length≤1000000000:=ha x (by rw[←hxa]; simp)
   have ly:y.length≤1000000000:=hb y (by rw[←hyb]; simp)
   refine loop_nx (fun ρ D G N=>∃ k:Nat,D=[]∧N+k=max x.length y.length∧lk ρ 0=LN a∧lk ρ 1=LN b∧lk ρ 5=.i i∧lk ρ 6=.i k∧val (x.take k)=val (y.take k)) (N:=max x.length y.length) ⟨0,by simp[h0,h1,h5]⟩ ?_
   rintro M ρ D G ⟨k,rfl,hM,g0,g1,g5,g6,hv⟩ Mx hMx
   have next:x.getD k 0=y.getD k 0→val (x.take (k+1))=val (y.take (k+1)):=fun e=>by rw[val_take_next,val_take_next,e,hv]
   have nx:x.getD k 0=y.getD k 0→(k < x.length∨k < y.length)→∃ M',M' < M∧M'+(k+1)=max x.length y.length∧val (x.take (k+1))=val (y.take (k+1)):=fun e h=>⟨M - 1,by omega,by omega,next e⟩
   have diff:x.getD k 0≠y.getD k 0→a.map val≠b.map val:=fun e=>vals_ne (i:=i) (k:=k) (by rw[hx,hy]; exact e)
   by_cases ix:k < x.length <;> by_cases iy:k < y.length
   ·have hk:(k:Int) < max (x.length:Int) (y.length:Int):=by omega
    simp[ix,iy] at next diff nx
    simp[g0,g1,g5,g6,hi,hib,hxa,hyb,ix,iy,hk]
    refine⟨fun e=>⟨by omega,?_⟩,diff⟩
    obtain⟨M',n1,n2,n3⟩:=nx e
    exact hMx _ _ _ ⟨M',n1,k+1,rfl,n2,by simp[g0],by simp[g1],by simp[g5],by simp,n3⟩
   ·have hk:(k:Int) < max (x.length:Int) (y.length:Int):=by omega
    have ey:y[k]?=none:=by simp; omega
    simp[ix,ey] at next diff nx
    simp[g0,g1,g5,g6,hi,hib,hxa,hyb,ix,iy,hk]
    refine⟨fun e=>⟨by omega,?_⟩,diff⟩
    obtain⟨M',n1,n2,n3⟩:=nx e
    exact hMx _ _ _ ⟨M',n1,k+1,rfl,n2,by simp[g0],by simp[g1],by simp[g5],by simp,n3⟩
   ·have hk:(k:Int) < max (x.length:Int) (y.length:Int):=by omega
    have ex:x[k]?=none:=by simp; omega
    simp[iy,ex] at next diff nx
    simp[g0,g1,g5,g6,hi,hib,hxa,hyb,ix,iy,hk]
    refine⟨fun e=>⟨by omega,?_⟩,diff⟩
    obtain⟨M',n1,n2,n3⟩:=nx e
    exact hMx _ _ _ ⟨M',n1,k+1,rfl,n2,by simp[g0],by simp[g1],by simp[g5],by simp,n3⟩
   ·have hk:¬ (k:Int) < max (x.length:Int) (y.length:Int):=by omega
    rw[val_take_big (by omega),val_take_big (by omega)] at hv
    simp[g0,g1,g5,g6,hi,hib,hxa,hyb,hk]
    refine⟨by omega,hNx _ _ _ ⟨N - 1,by omega,i+1,rfl,by omega,by simp[g0],by simp[g1],by simp,fun j hj=>?_⟩⟩
    by_cases hji:j=i
    ·subst hji; rw[hx,hy]; exact hv
    ·exact ht j (by omega)
 ·have e:a.map val≠b.map val:=fun e=>hab (by simpa using congrArg List.length e)
  have hab':¬ (a.length:Int)=b.length:=by omega
  simp[c_kit_SameNats,hab,hab',e]
end Go.Proofs.YtnbnhnjffiagmaaGreat
