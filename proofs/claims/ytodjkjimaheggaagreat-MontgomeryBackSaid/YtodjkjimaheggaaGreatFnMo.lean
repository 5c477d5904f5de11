/- Small functions of chapters 23 and 24. -/
import Derived.Test.YtodjkjimaheggaaGreatSvG4
import Derived.Test.YtodjkjimaheggaaGreatSvG3
import Derived.Test.YtodjkjimaheggaaGreatFnMn
namespace Go.Proofs.YtodjkjimaheggaaGreat
open Go.Sv
set_option linter.unusedSimpArgs false
set_option maxRecDepth 10000
def zat:LC:=(.seq (.ops [.z 4 (.move (.c (.i 0)))]) (.seq (.seq (.ops [.m 6 1,.z 7 (.bin .lss true 3 (.t 6) (.c (.i 1)))]) (.cond (.t 7) (.seq (.ops [.z 4 (.move (.c (.i 0)))]) .ret) .skip)) (.seq (.ops [.m 8 0,.m 9 1,.z 10 (.bin .rem false 3 (.t 8) (.t 9)),.m 5 10]) (.seq (.seq (.ops [.m 11 5,.z 12 (.bin .lss true 3 (.t 11) (.c (.i 0)))]) (.cond (.t 12) (.ops [.m 13 5,.m 14 1,.z 15 (.bin .add false 3 (.t 13) (.t 14)),.m 5 15]) .skip)) (.seq (.ops [.m 16 5,.m 4 16]) .ret)))))
theorem r_kit_Pick:z0f Tryz.prog 17=some ⟨17,zat.r,[.tmp 4]⟩:=by kernel_rfl
theorem k_kit_Pick:zat.ok=true:=by kernel_rfl
def zdf:LC:=(.seq (.ops [.z 4 (.move (.c .nilSl))]) (.seq (.ops [.m 7 1,.z 8 (.mkSl 1 [(.u 0)] (.t 7) (.t 7)),.m 5 8]) (.seq (.seq (.ops [.z 6 (.move (.c (.i 0)))]) (.block 0 (.loop (.seq (.seq (.ops [.m 9 6,.m 10 1,.z 11 (.bin .lss false 3 (.t 9) (.t 10)),.m 12 11,⟨some 13,(some (12,true)),.move (.t 0)⟩,⟨some 14,(some (12,true)),.lenSl (.t 13)⟩,⟨some 15,(some (12,true)),.bin .gtr true 3 (.t 14) (.c (.i 0))⟩,.z 16 (.pick (.t 12) (.t 15) (.c (.bool false)))]) (.cond (.t 16) .skip (.exit 0))) (.seq (.block 1 (.draw [(.m 19 5,[]),(.m 20 6,[]),(.m 21 0,[]),(.m 22 6,[]),(.m 23 0,[]),(.z 24 (.lenSl (.t 23)),[]),(.z 25 (.bin .rem false 3 (.t 22) (.t 24)),[]),(.z 26 (.ixAddr 1 (.t 21) (.t 25)),[]),(.l 27 26,[]),(.m 28 6,[]),(.m 29 0,[]),(.z 30 (.lenSl (.t 29)),[]),(.z 31 (.bin .quo false 3 (.t 28) (.t 30)),[]),(.z 32 (.bin .mul true 3 (.t 31) (.c (.i 2))),[]),(.z 33 (.bin .add true 3 (.c (.i 1)) (.t 32)),[]),(.z 34 (.cvInt .u64 (.t 33)),[]),(.z 35 (.bin .mul false 23 (.t 27) (.t 34)),[]),(.m 36 6,[]),(.m 37 0,[]),(.z 38 (.lenSl (.t 37)),[]),(.z 39 (.bin .quo false 3 (.t 36) (.t 38)),[]),(.z 40 (.cvInt .u64 (.t 39)),[]),(.z 41 (.bin .add false 23 (.t 35) (.t 40)),[]),(.z 42 (.ixAddr 1 (.t 19) (.t 20)),[]),(⟨none,none,.store 1 (.t 42) (.t 41)⟩,[])])) (.ops [.m 17 6,.z 18 (.bin .add true 3 (.t 17) (.c (.i 1))),.m 6 18])))))) (.seq (.ops [.m 43 5,.m 4 43]) .ret))))
theorem r_kit_Fill:z0f Tryz.prog 26=some ⟨44,zdf.r,[.tmp 4]⟩:=by kernel_rfl
theorem k_kit_Fill:zdf.ok=true:=by kernel_rfl
def z78:LC:=(.seq (.ops [.z 3 (.box (.t 0)),.z 6 (.alloc [(.i 0),.nilSl,.nilSl])]) (.seq (.ops [.f 10 0 3,.l 11 10,.z 12 (.build [(.i 0),.nilSl,.nilSl] [(0,1,.c (.i 64)),(1,1,.t 11)]),.z 7 (.alloc [(.i 0),.nilSl,.nilSl]),⟨none,none,.store 3 (.t 7) (.t 12)⟩]) (.seq (.seq (.ops [.z 8 (.move (.c (.i 0)))]) (.block 0 (.loop (.seq (.seq (.ops [.m 13 8,.m 14 2,.z 15 (.bin .lss false 3 (.t 13) (.t 14))]) (.cond (.t 15) .skip (.exit 0))) (.seq (.block 1 (.ops [.f 18 2 7,.l 19 18,.m 20 8,.z 21 (.build [(.i 0),(.i 0),(.i 0),(.i 0),(.i 0),(.i 0),(.i 0),(.u 0)] [(0,1,.c (.i 16)),(1,1,.t 20),(2,1,.c (.i (-1))),(3,1,.c (.i (-1))),(4,1,.c (.i (-1))),(5,1,.c (.i (-1))),(7,1,.c (.u 1))]),.z 22 (.buildSl 8 1 [(.i 0),(.i 0),(.i 0),(.i 0),(.i 0),(.i 0),(.i 0),(.u 0)] [(0,8,.t 21)]),.z 23 (.appG 8 (.t 19) (.t 22)),.f 24 2 7,⟨none,none,.store 1 (.t 24) (.t 23)⟩])) (.ops [.m 16 8,.z 17 (.bin .add true 3 (.t 16) (.c (.i 1))),.m 8 17])))))) (.seq (.ops [.f 25 2 7,.l 26 25,.m 27 1,.z 28 (.appG 8 (.t 26) (.t 27)),.f 29 2 7,⟨none,none,.store 1 (.t 29) (.t 28)⟩]) (.seq (.seq (.ops [.z 9 (.move (.c (.i 0)))]) (.block 2 (.loop (.seq (.seq (.ops [.m 30 9,.m 31 2,.z 32 (.bin .lss false 3 (.t 30) (.t 31))]) (.cond (.t 32) .skip (.exit 2))) (.seq (.block 3 (.ops [.f 35 2 7,.l 36 35,.z 37 (.build [(.i 0),(.i 0),(.i 0),(.i 0),(.i 0),(.i 0),(.i 0),(.u 0)] [(0,1,.c (.i 17)),(1,1,.c (.i (-1))),(2,1,.c (.i (-1))),(3,1,.c (.i (-1))),(4,1,.c (.i (-1))),(5,1,.c (.i (-1)))]),.z 38 (.buildSl 8 1 [(.i 0),(.i 0),(.i 0),(.i 0),(.i 0),(.i 0),(.i 0),(.u 0)] [(0,8,.t 37)]),.z 39 (.appG 8 (.t 36) (.t 38)),.f 40 2 7,⟨none,none,.store 1 (.t 40) (.t 39)⟩])) (.ops [.m 33 9,.z 34 (.bin .add true 3 (.t 33) (.c (.i 1))),.m 9 34])))))) (.seq (.ops [.z 41 (.loadN 3 (.t 7)),⟨none,none,.store 3 (.t 6) (.t 41)⟩]) .ret))))))
theorem r_law23_program:z0f Tryz.prog 24=some ⟨42,z78.r,[.cellN 6 3]⟩:=by kernel_rfl
theorem k_law23_program:z78.ok=true:=by kernel_rfl
theorem zos (n m:Int) (hm:1≤m∧m < 1000000):∃ k:Nat,(k:Int) < m∧FnS Tryz.prog 17 [.i n,.i m] (.i k) []:=by
 have h1:¬ m < 1:=by omega
 have h0:m≠0:=by omega
 have hlo:n.tmod m < m:=Int.tmod_lt_of_pos n (by omega)
 have hhi:-m < n.tmod m:=by
  have h:=Int.tmod_lt_of_pos (-n) (show 0 < m by omega)
  rw[Int.neg_tmod] at h
  omega
 by_cases hneg:n.tmod m < 0
 ·obtain⟨k,hk⟩:=Int.eq_ofNat_of_zero_le (show 0≤n.tmod m+m by omega)
  refine⟨k,by omega,FnS.val rfl (z01 r_kit_Pick k_kit_Pick (by simp) ?_)⟩
  simp[zat,h1,h0,hneg]
  omega
 ·obtain⟨k,hk⟩:=Int.eq_ofNat_of_zero_le (show 0≤n.tmod m by omega)
  refine⟨k,by omega,FnS.val rfl (z01 r_kit_Pick k_kit_Pick (by simp) ?_)⟩
  simp[zat,h1,h0,hneg,hk]
  omega
theorem z8r (l:List UInt64) (n:Nat) (hn:n≤1000000) (hl:l.length≤1000000) (hl0:l≠[]):FnS Tryz.prog 26 [LU l,.i n] (.dy 0 0) [RU (zdb l n)]:=by
 refine FnS.row (z01 r_kit_Fill k_kit_Fill (by simp) ?_)
 have hl1:0 < l.length:=List.length_pos_iff.2 hl0
 simp[zdf]
 refine⟨by omega,?_⟩
 refine z0m (fun ρ D G N=>∃ (i st:Nat) (m:List UInt64),D=[]∧N+i=n∧lk ρ 0=LU l∧lk ρ 1=.i n∧lk ρ 5=.dy 0 0∧lk ρ 6=.i i∧G[0]?=some (.dyn (m.map .u) n 1 0 st)∧m.length=n∧∀ j,j < i→m.getD j 0=zsx l j) (N:=n)
  ⟨0,0,List.replicate n 0,rfl,by omega,by simp,by simp,by simp,by simp,by simp[repUs],by simp,by simp⟩ ?_
 rintro N ρ D G ⟨i,st,m,rfl,hN,h0,h1,h5,h6,hG,hml,hv⟩ Nx hNx
 by_cases g:i < n
 ·have hi:i % l.length < l.length:=Nat.mod_lt _ hl1
  have hlz:(l.length:Int)≠0:=by omega
  simp[h0,h1,h5,h6,g,hl1,hG,hml,LU,hlz,hi]
  have hq:(i:Int) / (l.length:Int)=((i / l.length:Nat):Int):=by simp
  have hr:(i:Int).tmod (l.length:Int)=((i % l.length:Nat):Int):=by rw[Int.tmod_eq_emod_of_nonneg (by omega)]; simp
  have hqi:i / l.length≤i:=Nat.div_le_self _ _
  have hv1:zsx l i=l.getD (i % l.length) 0 * iU (1+((i / l.length:Nat):Int) * 2)+iU ((i / l.length:Nat):Int):=by unfold zsx; rw[if_neg hl0]
  simp only[hq,hr,Int.toNat_natCast]
  generalize i / l.length=q at *
  refine⟨hl0,by omega,by omega,hl0,by omega,by omega,by omega,hl0,by omega,by omega,by omega,hNx _ _ _ ⟨N - 1,by omega,i+1,st+1,m.set i (zsx l i),rfl,by omega,by simp[h0],by simp[h1],by simp[h5],by simp,?_,by simp[hml],fun j hj=>?_⟩⟩
  ·have lG:=(List.getElem?_eq_some_iff.1 hG).1
   rw[List.getElem?_set_self lG,hv1]
   congr 2
   rw[show ∀ x:LV,z0w (m.map LV.u) i [x]=(m.map LV.u).set i x from fun x=>by rw[List.set_eq_take_append_cons_drop,if_pos (by simp; omega)]; simp[z0w],List.map_set,z2h,zfh]
   simp[List.getD_eq_getElem?_getD]
  ·rw[z41 _ _ _ _ _ (by omega)]
   split
   ·rename_i q; rw[q]
   ·exact hv j (by omega)
 ·have hi:i=n:=by omega
  subst hi
  have:m=zdb l i:=by
   refine List.ext_getElem (by rw[hml,z8c]) fun j h1 h2=>?_
   have:=hv j (by omega)
   rw[List.getD_eq_getElem?_getD,List.getElem?_eq_getElem h1] at this
   simpa [zdb] using this
  simp[h0,h1,h5,h6]
  exact .inr ⟨0,_,_,rfl,by rw[←this,hml]; exact hG⟩
theorem lpsL_snoc:∀ (n:Nat) (i:Int),lpsL (n+1) i=lpsL n i++[⟨16,i+n,-1,-1,-1,-1,0,1⟩]
 | 0,i=>by simp[lpsL]
 | n+1,i=>by
  rw[lpsL,lpsL_snoc n (i+1),lpsL,List.cons_append]
  congr 4
  simp; omega
theorem lpsL_len:∀ (n:Nat) (i:Int),(lpsL n i).length=n
 | 0,_=>rfl
 | n+1,i=>by rw[lpsL,List.length_cons,lpsL_len]
theorem zet {bs:List Bf} {P:LV} {W:List LV} {L:List Lo} {deep:Nat} (hd:deep≤100) (hL:L.length≤1000000) (hW:∃ a b c d e f,W=[.i a,.i b,.i c,.i d,.i e,.i f]) :
  FnV Tryz.prog 24 [.agg (.lst (bfC bs) bs.length 3::P::W),.lst (loC L) L.length 8,.i deep] (.agg (lpV ((64:Nat):Int) bs (lpsL deep 0++(L++List.replicate deep cEn)))):=by
 obtain⟨w1,w2,w3,w4,w5,w6,rfl⟩:=hW
 refine FnV.mk (by simp[LV.dat,zpg]) (z01 r_law23_program k_law23_program (by simp) ?_)
 simp[z78]
 refine z0m (fun ρ D G N=>∃ (i st s1:Nat) (v:LV),D=[]∧N+i=deep∧lk ρ 1=.lst (loC L) L.length 8∧lk ρ 2=.i deep∧lk ρ 6=.ptr 1 0∧lk ρ 7=.ptr 2 0∧lk ρ 8=.i i∧3≤G.length∧G[1]?=some (.cells [.i 0,.nilSl,.nilSl] s1)∧G[2]?=some (.cells [.i 64,.lst (bfC bs) bs.length 3,v] st)∧DyS 3 G v 8 (lpsL i 0).length (loC (lpsL i 0))) (N:=deep)
  ⟨0,1,0,.nilSl,rfl,by omega,by simp,by simp,by simp,by simp,by simp,by simp,by simp,by simp,DyS.nil⟩ ?_
 rintro N ρ D G ⟨i,st,s1,v,rfl,hN,h1,h2,h6,h7,h8,hl,g1,g2,hv⟩ Nx hNx
 by_cases g:i < deep
 ·have g':(i:Int) < deep:=by omega
  simp[h1,h2,h6,h7,h8,g2,g]
  refine hv.push_end.push (c:=1) (by omega) (by simp; omega) (by rw[lpsL_len]; omega) (by simp) rfl fun v' G5 hs5 hf5 hl5=>?_
  have g52:=(hf5 2 (by omega)).trans ((oldP (by omega)).trans g2)
  have g51:=(hf5 1 (by omega)).trans ((oldP (by omega)).trans g1)
  have hcl:=hs5.cells
  simp[-LV.cells,hcl,h7,g52,h8]
  refine⟨by omega,hNx _ _ _ ⟨N - 1,by omega,i+1,st+1,s1,v',rfl,by omega,by simp[h1],by simp[h2],by simp[h6],by simp[h7],by simp,by simp at hl5 ⊢; omega,?_,?_,?_⟩⟩
  ·rw[List.getElem?_set_ne (by omega)]; exact g51
  ·exact List.getElem?_set_self (List.getElem?_eq_some_iff.1 g52).1
  ·rw[lpsL_snoc,List.length_append,zk8,Int.zero_add]
   exact hs5.set_lt (by omega)
 ·have hi:i=deep:=by omega
  subst hi
  simp[h1,h2,h6,h7,h8,g2]
  refine⟨by omega,?_⟩
  refine hv.push (c:=L.length) (by omega) (by omega) (by rw[lpsL_len]; omega) (loC_len L) (z0s L) fun v' G5 hs5 hf5 hl5=>?_
  have g52:=(hf5 2 (by omega)).trans g2
  have g51:=(hf5 1 (by omega)).trans g1
  have hcl:=hs5.cells
  simp[-LV.cells,hcl,h7,g52]
  have l52:=(List.getElem?_eq_some_iff.1 g52).1
  refine z0m (fun ρ D G N=>∃ (j st s1:Nat) (v:LV),D=[]∧N+j=i∧lk ρ 2=.i i∧lk ρ 6=.ptr 1 0∧lk ρ 7=.ptr 2 0∧lk ρ 9=.i j∧3≤G.length∧G[1]?=some (.cells [.i 0,.nilSl,.nilSl] s1)∧G[2]?=some (.cells [.i 64,.lst (bfC bs) bs.length 3,v] st)∧DyS 3 G v 8 (lpsL i 0++(L++List.replicate j cEn)).length (loC (lpsL i 0++(L++List.replicate j cEn)))) (N:=i)
   ⟨0,st+1,s1,v',rfl,by omega,by simp[h2],by simp[h6],by simp[h7],by simp,by simp; omega,?_,List.getElem?_set_self l52,?_⟩ ?_
  ·rw[List.getElem?_set_ne (by omega)]; exact g51
  ·simp only[List.replicate_zero,List.append_nil,List.length_append]
   rw[zk8]
   exact hs5.set_lt (by omega)
  clear h1 h2 h6 h7 h8 hl g1 g2 hv g52 g51 l52 hs5 hf5 hl5 hcl hNx Nx
  rintro N ρ D G ⟨j,st,s1,v,rfl,hN,h2,h6,h7,h9,hl,g1,g2,hv⟩ Nx hNx
  by_cases g:j < i
  ·simp[h2,h6,h7,h9,g2,g]
   refine hv.push_end.push (c:=1) (by omega) (by simp; omega) (by simp[lpsL_len]; omega) (by simp) rfl fun v' G5 hs5 hf5 hl5=>?_
   have g52:=(hf5 2 (by omega)).trans ((oldP (by omega)).trans g2)
   have g51:=(hf5 1 (by omega)).trans ((oldP (by omega)).trans g1)
   have hcl:=hs5.cells
   simp[-LV.cells,hcl,h7,g52,h9]
   refine⟨by omega,hNx _ _ _ ⟨N - 1,by omega,j+1,st+1,s1,v',rfl,by omega,by simp[h2],by simp[h6],by simp[h7],by simp,by simp at hl5 ⊢; omega,?_,?_,?_⟩⟩
   ·rw[List.getElem?_set_ne (by omega)]; exact g51
   ·exact List.getElem?_set_self (List.getElem?_eq_some_iff.1 g52).1
   ·rw[show lpsL i 0++(L++List.replicate (j+1) cEn)=(lpsL i 0++(L++List.replicate j cEn))++[cEn] by rw[List.replicate_succ']; simp,List.length_append,zk8]
    exact hs5.set_lt (by omega)
  ·have hj:j=i:=by omega
   subst hj
   have hb:=(hv.set_lt (q:=1) (ob:=.cells [.i 64,.lst (bfC bs) bs.length 3,v] (s1+1)) (by omega)).bor
   simp[-borR,h2,h6,h7,h9,g2,g1]
   rw[List.getElem?_set_self (List.getElem?_eq_some_iff.1 g1).1]
   refine⟨by simp,_,_,rfl,⟨rfl,rfl⟩,_,_,rfl,⟨rfl,by simp[LV.dat,z0o]⟩,_,_,rfl,hb,rfl⟩
end Go.Proofs.YtodjkjimaheggaaGreat
