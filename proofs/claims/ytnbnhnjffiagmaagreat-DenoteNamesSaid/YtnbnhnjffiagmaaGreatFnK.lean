/- Naturals: products of the document, quotients. -/
import Derived.Test.YtnbnhnjffiagmaaGreatFnI
namespace Go.Proofs.YtnbnhnjffiagmaaGreat
open Go.Sv
set_option linter.unusedSimpArgs false
def c_nat_row_shift:LC:=(.seq (.ops [.z 4 (.move (.c .nilSl))]) (.seq (.seq (.ops [.m 7 0,.z 8 (.lenSl (.t 7)),.z 9 (.move (.c (.i 0)))]) (.block 0 (.loop (.seq (.ops [.z 10 (.bin .lss false 3 (.t 9) (.t 8))]) (.seq (.cond (.t 10) .skip (.exit 0)) (.seq (.block 1 (.seq (.ops [.m 11 9,.z 12 (.ixAddr 1 (.t 7) (.t 9)),.l 13 12,.m 5 11,.m 6 13]) (.seq (.ops [.m 14 0,.m 15 5,.m 16 6,.z 17 (.bin .shl true 28 (.t 16) (.c (.u 1))),.m 18 1,.z 19 (.bin .or false 28 (.t 17) (.t 18)),.z 20 (.ixAddr 1 (.t 14) (.t 15)),⟨none,none,.store 1 (.t 20) (.t 19)⟩]) (.ops [.m 21 6,.z 22 (.bin .shr true 28 (.t 21) (.c (.u 63))),.m 1 22])))) (.ops [.z 23 (.bin .add true 3 (.t 9) (.c (.i 1))),.m 9 23]))))))) (.seq (.seq (.ops [.m 24 1,.z 25 (.bin .neq true 28 (.t 24) (.c (.u 0)))]) (.cond (.t 25) (.ops [.m 26 0,.m 27 1,.z 28 (.buildSl 1 1 [(.u 0)] [(0,1,.t 27)]),.z 29 (.appG 1 (.t 26) (.t 28)),.m 0 29]) .skip)) (.seq (.ops [.m 30 0,.m 4 30]) .ret))))
theorem r_nat_row_shift:resFn Tryz.prog 165=some ⟨31,c_nat_row_shift.r,[.tmp 4]⟩:=by kernel_rfl
theorem k_nat_row_shift:c_nat_row_shift.ok=true:=by kernel_rfl
theorem nat_row_shift_ok {G:LHeap} {v:LV} {l:List UInt64} {b:UInt64} {K:LV→LHeap→Prop} (h:RowAt G v l) (hb:b.toNat≤1) (hl:l.length≤1000000)
  (k:∀ v' G' l',RowAt G' v' l'→val l'=2 * val l+b.toNat→l'.length≤l.length+1→(∀ (q:Nat) (ob:LObj),G[q]?=some ob→(∀ k,v≠.dy q k)→G'[q]?=some ob∧∀ k,v'≠.dy q k)→K v' G'):CallL Tryz.prog (.fn 165) [v,.u b] G K:=by
 refine call_body r_nat_row_shift k_nat_row_shift (by simp) ?_
 rw[c_nat_row_shift,wp_assoc]
 refine wp_cut (fun ρ D G'=>D=[]∧lk ρ 0=v∧∃ l' b',lk ρ 1=.u b'∧RowAt G' v l'∧ShInv l b l.length l' b'∧∀ (q:Nat) (ob:LObj),G[q]?=some ob→(∀ k,v≠.dy q k)→G'[q]?=some ob) (fun Nx hNx=>?_) (fun ρ D G' hΦ=>?_)
 ·rcases h with ⟨rfl,rfl⟩ | ⟨p,kk,st,rfl,hg⟩
  ·simp
   refine loop_nx (fun ρ D G' N=>D=[]∧G'=G∧lk ρ 0=.nilSl∧lk ρ 1=.u b∧lk ρ 8=.i 0∧lk ρ 9=.i 0) (N:=0) (by simp) ?_
   rintro N ρ D G' ⟨rfl,rfl,h0,h1,h8,h9⟩ Lx hLx
   simp[h8,h9]
   exact hNx _ _ _ ⟨rfl,by simp[h0],[],b,by simp[h1],.inl ⟨rfl,rfl⟩,sh_start hb,fun q ob hq _=>hq⟩
  ·simp[hg]
   refine loop_nx (fun ρ D G' N=>∃ (i:Nat) (l':List UInt64) (b':UInt64) (st':Nat),D=[]∧N+i=l.length∧lk ρ 0=.dy p kk∧lk ρ 7=.dy p kk∧lk ρ 1=.u b'∧lk ρ 8=.i l.length∧lk ρ 9=.i i∧G'[p]?=some (.dyn (l'.map .u) l.length 1 kk st')∧ShInv l b i l' b'∧∀ (q:Nat) (ob:LObj),G[q]?=some ob→(∀ k,LV.dy p kk≠.dy q k)→G'[q]?=some ob) (N:=l.length) ⟨0,l,b,st,by simp[hg,sh_start hb]; exact fun q ob h _=>h⟩ ?_
   rintro N ρ D G' ⟨i,l',b',st',rfl,hN,h0,h7,h1,h8,h9,hg',hS,hfr⟩ Lx hLx
   have hll:=hS.1
   by_cases hz:N=0
   ·have hi:i=l.length:=by omega
    subst hi
    simp[h8,h9]
    exact hNx _ _ _ ⟨rfl,by simp[h0],l',b',by simp[h1],.inr ⟨p,kk,st',rfl,by rw[hll]; exact hg'⟩,hS,hfr⟩
   ·have hi:i < l.length:=by omega
    have hx : l'[i]'(by omega) = l.getD i 0 := by
     have:=hS.2.2.1 i (Nat.le_refl _)
     rw[←this]; simp[show i < l'.length by omega]
    have hlay:=layU l' i (orU (shlU (l.getD i 0) 1) b') (by omega)
    have hst:=sh_step hi hS
    generalize l.getD i 0=x at *
    simp[h8,h9,hi,h7,hg',hll,h0,h1]
    rw[hx,hlay]
    refine⟨by omega,by omega,hLx _ _ _ ⟨N - 1,by omega,i+1,_,_,st'+1,rfl,by omega,by simp[h0],by simp[h7],by simp,by simp[h8],by simp,gset hg' _,hst,fun q ob hq hne=>?_⟩⟩
    rw[gset_ne (fun e=>hne kk (by rw[e]))]
    exact hfr q ob hq hne
 ·obtain⟨rfl,h0,l',b',h1,hr,hS,hfr⟩:=hΦ
  obtain⟨e1,e2⟩:=sh_end hS
  have hll:=hS.1
  by_cases hz:b'=0
  ·simp[h0,h1,hz]
   refine k v G' l' hr (e1 hz) (by omega) (fun q ob hq hne=>⟨hfr q ob hq hne,hne⟩)
  ·simp[h0,h1,hz]
   refine appL_row (hr.app _) (xs:=[b']) rfl (by simp) (by omega) (fun v' G2 hr' hfr'=>?_)
   simp
   exact k v' G2 _ hr' e2 (by simp; omega) (fun q ob hq hne=>hfr' q ob (gapp (hfr q ob hq hne) _) hne)
end Go.Proofs.YtnbnhnjffiagmaaGreat
