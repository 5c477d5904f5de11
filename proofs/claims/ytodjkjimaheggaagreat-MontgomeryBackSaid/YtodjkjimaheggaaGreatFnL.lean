/- Naturals: quotients. -/
import Derived.Test.YtodjkjimaheggaaGreatFnK
namespace Go.Proofs.YtodjkjimaheggaaGreat
open Go.Sv
set_option linter.unusedSimpArgs false
def zbn:LC:=(.seq (.ops [.z 4 (.move (.c .nilSl)),.z 5 (.move (.c .nilSl)),.z 6 (.move (.c (.i 0)))]) (.seq (.seq (.ops [.m 10 1,.z 11 (.callV (.c (.fn (.func 66) [] [])) [.t 10,(.c .nilSl)]),.z 12 (.bin .eql true 3 (.t 11) (.c (.i 0)))]) (.cond (.t 12) (.seq (.ops [.z 4 (.move (.c .nilSl)),.z 5 (.move (.c .nilSl)),.z 6 (.move (.c (.i 2)))]) .ret) .skip)) (.seq (.ops [.m 13 0,.z 14 (.lenSl (.t 13)),.z 15 (.mkSl 1 [(.u 0)] (.t 14) (.t 14)),.z 16 (.buildSl 1 0 [] []),.m 7 15,.m 8 16]) (.seq (.seq (.ops [.m 17 0,.z 18 (.callV (.c (.fn (.func 80) [] [])) [.t 17]),.z 19 (.bin .sub true 3 (.t 18) (.c (.i 1))),.m 9 19]) (.block 0 (.loop (.seq (.seq (.ops [.m 20 9,.z 21 (.bin .geq true 3 (.t 20) (.c (.i 0)))]) (.cond (.t 21) .skip (.exit 0))) (.seq (.block 1 (.seq (.ops [.m 24 8,.m 25 8,.z 26 (.callV (.c (.fn (.func 81) [] [])) [.t 24,.t 25]),.m 8 26]) (.seq (.seq (.ops [.m 27 0,.m 28 9,.z 29 (.callV (.c (.fn (.func 82) [] [])) [.t 27,.t 28])]) (.cond (.t 29) (.ops [.m 30 8,.z 31 (.buildSl 1 1 [(.u 0)] [(0,1,.c (.u 1))]),.z 32 (.callV (.c (.fn (.func 81) [] [])) [.t 30,.t 31]),.m 8 32]) .skip)) (.seq (.ops [.m 33 8,.m 34 1,.z 35 (.callV (.c (.fn (.func 66) [] [])) [.t 33,.t 34]),.z 36 (.bin .geq true 3 (.t 35) (.c (.i 0)))]) (.cond (.t 36) (.seq (.ops [.m 38 8,.m 39 1,.z 40 (.callV (.c (.fn (.func 83) [] [])) [.t 38,.t 39]),.m 37 40,.z 41 (.extract 0 (.t 37)),.z 42 (.extract 1 (.t 37)),.m 8 41]) (.ops [.m 43 7,.m 44 9,.z 45 (.bin .quo true 3 (.t 44) (.c (.i 64))),.m 46 7,.m 47 9,.z 48 (.bin .quo true 3 (.t 47) (.c (.i 64))),.z 49 (.ixAddr 1 (.t 46) (.t 48)),.l 50 49,.m 51 9,.z 52 (.bin .rem true 3 (.t 51) (.c (.i 64))),.z 53 (.cvInt .u64 (.t 52)),.z 54 (.bin .shl true 23 (.c (.u 1)) (.t 53)),.z 55 (.bin .or false 23 (.t 50) (.t 54)),.z 56 (.ixAddr 1 (.t 43) (.t 45)),⟨none,none,.store 1 (.t 56) (.t 55)⟩])) .skip))))) (.ops [.m 22 9,.z 23 (.bin .sub true 3 (.t 22) (.c (.i 1))),.m 9 23])))))) (.seq (.ops [.m 57 7,.z 58 (.callV (.c (.fn (.func 84) [] [])) [.t 57]),.m 59 8,.z 60 (.callV (.c (.fn (.func 84) [] [])) [.t 59]),.m 4 58,.m 5 60,.z 6 (.move (.c (.i 0)))]) .ret)))))
theorem r_ref02_Div:z0f Tryz.prog 28=some ⟨61,zbn.r,[.tmp 4,.tmp 5,.tmp 6]⟩:=by kernel_rfl
theorem k_ref02_Div:zbn.ok=true:=by kernel_rfl
def RowV (G:z03) (v:LV) (r:List UInt64):Prop:=(v=.dy 1 0∧r=[]∧∃ st,G[1]?=some (.dyn [] 0 1 0 st))∨v=LU r
theorem RowV.bor {G:z03} {v:LV} {r:List UInt64} (h:RowV G v r):bor G v (LU r):=by
 rcases h with ⟨rfl,rfl,st,hg⟩ | rfl
 ·exact⟨_,_,_,st,rfl,hg,by simp⟩
 ·exact⟨rfl,by simp⟩
theorem z7l (a b:List UInt64) (ha:a.length≤10000) (hb:b.length≤10000):FnS Tryz.prog 28 [LU a,LU b] (.tup [.dy 0 0,.dy 1 0,.i (if val b=0 then 2 else 0)]) [RU (if val b=0 then [] else toL (val a / val b)),RU (if val b=0 then [] else toL (val a % val b))]:=by
 refine FnS.row2E (z01 r_ref02_Div k_ref02_Div (by simp) ?_)
 simp[zbn]
 refine z02 (z45 b [] (by omega) (by simp)) (zlp (by simp) (.inr ⟨1,by simp⟩)) ?_
 by_cases h0:val b=0
 ·simp[h0,val,zv8,z49]
  exact⟨_,_,⟨rfl,rfl⟩,rfl,rfl,by simp⟩
 simp[h0,val,zv8,repU]
 refine⟨by omega,?_⟩
 refine z02 (zkl a (by omega)) (by simp) ?_
 have hbl:=zot (val_lt a)
 simp
 refine⟨by omega,?_⟩
 refine z0m (fun ρ D G N=>∃ (q r:List UInt64) (v:LV) (st:Nat),D=[]∧N≤64 * a.length∧lk ρ 0=LU a∧lk ρ 1=LU b∧lk ρ 7=.dy 0 0∧G[0]?=some (.dyn (q.map .u) a.length 1 0 st)∧q.length=a.length∧lk ρ 8=v∧RowV G v r∧lk ρ 9=.i ((N:Int) - 1)∧r.length≤b.length∧ze2 (val a) (val b) N q (val r)) (N:=blen (val a)) ⟨List.replicate a.length 0,[],.dy 1 0,0,by simp[RowV,val,hbl]; exact ztu⟩ ?_
 rintro N ρ D G ⟨q,r,v,st,rfl,hN,h0',h1,h7,hg,hql,h8,hr,h9,hrl,hD⟩ Nx hNx
 cases N with
 | zero =>
  obtain⟨e1,e2⟩:=div_end hD
  simp[h9,h7]
  refine zag (z3r q (by omega)) (zv6 (z49.bor (l:=q) (.inr ⟨0,0,st,rfl,by rw[hql]; exact hg⟩))) ?_
  have hr2:RowV (G++[RU (toL (val q))]) v r:=by
   rcases hr with ⟨x,y,s,z⟩ | x
   ·exact .inl ⟨x,y,s,gapp z _⟩
   ·exact .inr x
  simp[h8]
  refine zag (z3r r (by omega)) (zv6 hr2.bor) ?_
  rw[e1,e2]
  simp
  exact⟨_,_,⟨rfl,rfl⟩,.inr ⟨_,0,0,rfl,by simp[RU]⟩,.inr ⟨_,0,0,rfl,by simp[RU]⟩,by simp⟩
 | succ n =>
  have e:((n+1:Nat):Int) - 1=n:=by omega
  rw[e] at h9
  have hto:((n:Int) / 64).toNat=n / 64:=by omega
  have hmt:(n:Int).tmod 64=(n % 64:Nat):=by rw[Int.tmod_eq_emod_of_nonneg (by omega)]; omega
  have hmu:(iU ((n:Int) % 64)).toNat=n % 64:=by rw[show (n:Int) % 64=(n % 64:Nat) by omega]; exact zba (by omega)
  have hn64:n / 64 < a.length:=by omega
  have hnq:n / 64 < q.length:=by omega
  have hB:0 < val b:=by omega
  have hrb:val r < val b:=by rw[hD.1]; exact Nat.mod_lt _ hB
  have hbnd:=z3l hrl
  have hbb:=val_lt b
  have hp2:2 ^ (64 * (b.length+1))=2 ^ (64 * b.length) * 18446744073709551616:=pow64 _
  obtain⟨s,hs⟩:∃ s,2 * val r+((val a).testBit n).toNat=s:=⟨_,rfl⟩
  have hb1:((val a).testBit n).toNat≤1:=Bool.toNat_le _
  have hsl:(toL s).length≤b.length+1:=z1t (by omega)
  have hss:val (toL s)=s:=z3g s
  have hrr:(toL (val r+val r)).length≤b.length+1:=z1t (by omega)
  have hk:∀ q':List UInt64,s < val b→ze2 (val a) (val b) n q' s→(toL s).length≤b.length:=fun q' h _=>z1t (by omega)
  have hsub:(toL (s - val b)).length≤b.length:=z1t (by omega)
  have hq0:∀ x,(G++x)[0]?=some (.dyn (q.map .u) a.length 1 0 st):=fun x=>gapp hg x
  have hq0e : ∀ (x : z03) (h : 0 < (G ++ x).length), (G ++ x)[0]'h = .dyn (q.map .u) a.length 1 0 st := fun x h => (List.getElem?_eq_some_iff.1 (hq0 x)).2
  simp[h8,h9]
  refine z02 (ze5 r r (by omega) (by omega)) (zlp hr.bor hr.bor) ?_
  simp[RU,h0',h9]
  refine z02 (zle a n (by omega)) (by simp) ?_
  cases htb:(val a).testBit n
  ·rw[htb] at hs
   have es:val r+val r=s:=by simp at hs; omega
   simp[htb,es,h1]
   refine z02 (z45 (toL s) b (by omega) (by omega)) (by simp) ?_
   rw[hss]
   by_cases hge:val b≤s
   ·have hge':0≤cmpN s (val b):=zgw.2 hge
    have hlt':¬ s < val b:=by omega
    have hdt:=zpk (q:=q) hB hnq hD (by rw[htb,hs]; exact hge)
    rw[htb,hs] at hdt
    have hlay:=layU q (n / 64) (orU (q.getD (n / 64) 0) (shlU 1 (n % 64))) hnq
    have hqn:q[n / 64]=q.getD (n / 64) 0:=by simp[hnq]
    generalize q.getD (n / 64) 0=x at *
    simp[hge',h1]
    refine z02 (ze6 (toL s) b (by omega) (by omega)) (by simp) ?_
    rw[hss]
    simp[RU,hlt',h7,h9,hto,hmt,hmu,hg,hq0,hq0e,hn64,hql,hqn,hlay]
    refine⟨by omega,by omega,by omega,by omega,by omega,by omega,by omega,hNx _ _ _ ⟨n,by omega,q.set (n / 64) (orU x (shlU 1 (n % 64))),toL (s - val b),LU (toL (s - val b)),st+1,rfl,by omega,by simp[h0'],by simp[h1],by simp[h7],by rw[gset hg]; simp,by simp[hql],by simp,.inr rfl,by simp,hsub,by rw[z3g]; exact hdt⟩⟩
   ·have hlt:s < val b:=by omega
    have hge':¬ 0≤cmpN s (val b):=fun h=>hge (zgw.1 h)
    have hdk:=zr0 (q:=q) hB hD (by rw[htb,hs]; exact hlt)
    rw[htb,hs] at hdk
    simp[hge',h9]
    exact⟨by omega,hNx _ _ _ ⟨n,by omega,q,toL s,LU (toL s),st,rfl,by omega,by simp[h0'],by simp[h1],by simp[h7],hg,hql,by simp,.inr rfl,by simp,hk q hlt (by rw[htb,hs] at *; exact hdk),by rw[hss]; exact hdk⟩⟩
  ·rw[htb] at hs
   have es:val (toL (val r+val r))+val [1]=s:=by rw[z3g,zoh]; simp at hs ⊢; omega
   simp[htb]
   refine z02 (ze5 (toL (val r+val r)) [1] (by omega) (by simp)) (zlp (by simp) (z49.bor (l:=[1]) (.inr ⟨_,0,0,rfl,by simp⟩))) ?_
   rw[es]
   simp[RU,h1]
   refine z02 (z45 (toL s) b (by omega) (by omega)) (by simp) ?_
   rw[hss]
   by_cases hge:val b≤s
   ·have hge':0≤cmpN s (val b):=zgw.2 hge
    have hlt':¬ s < val b:=by omega
    have hdt:=zpk (q:=q) hB hnq hD (by rw[htb,hs]; exact hge)
    rw[htb,hs] at hdt
    have hlay:=layU q (n / 64) (orU (q.getD (n / 64) 0) (shlU 1 (n % 64))) hnq
    have hqn:q[n / 64]=q.getD (n / 64) 0:=by simp[hnq]
    generalize q.getD (n / 64) 0=x at *
    simp[hge',h1]
    refine z02 (ze6 (toL s) b (by omega) (by omega)) (by simp) ?_
    rw[hss]
    simp[RU,hlt',h7,h9,hto,hmt,hmu,hg,hq0,hq0e,hn64,hql,hqn,hlay]
    refine⟨by omega,by omega,by omega,by omega,by omega,by omega,by omega,hNx _ _ _ ⟨n,by omega,q.set (n / 64) (orU x (shlU 1 (n % 64))),toL (s - val b),LU (toL (s - val b)),st+1,rfl,by omega,by simp[h0'],by simp[h1],by simp[h7],by rw[gset (hq0 _)]; simp,by simp[hql],by simp,.inr rfl,by simp,hsub,by rw[z3g]; exact hdt⟩⟩
   ·have hlt:s < val b:=by omega
    have hge':¬ 0≤cmpN s (val b):=fun h=>hge (zgw.1 h)
    have hdk:=zr0 (q:=q) hB hD (by rw[htb,hs]; exact hlt)
    rw[htb,hs] at hdk
    simp[hge',h9]
    exact⟨by omega,hNx _ _ _ ⟨n,by omega,q,toL s,LU (toL s),st,rfl,by omega,by simp[h0'],by simp[h1],by simp[h7],(hq0 _),hql,by simp,.inr rfl,by simp,hk q hlt (by rw[htb,hs] at *; exact hdk),by rw[hss]; exact hdk⟩⟩
end Go.Proofs.YtodjkjimaheggaaGreat
