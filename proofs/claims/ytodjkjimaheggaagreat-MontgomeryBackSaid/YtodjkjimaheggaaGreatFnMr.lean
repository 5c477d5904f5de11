/- A product over a plain plan: law23.product. -/
import Derived.Test.YtodjkjimaheggaaGreatFnMq
import Derived.Test.YtodjkjimaheggaaGreatFnMn
import Derived.Test.YtodjkjimaheggaaGreatFnQ
namespace Go.Proofs.YtodjkjimaheggaaGreat
open Go.Sv
set_option linter.unusedSimpArgs false
set_option maxRecDepth 10000
def z6p:LC:=(.seq (.ops [.z 4 (.move (.c .nilSl)),.z 5 (.move (.c (.i 0)))]) (.seq (.seq (.ops [.m 6 1,.z 7 (.bin .lss true 3 (.t 6) (.c (.i 0))),.m 8 7,⟨some 9,(some (8,false)),.move (.t 1)⟩,⟨some 10,(some (8,false)),.bin .gtr true 3 (.t 9) (.c (.i 512))⟩,.z 11 (.pick (.t 8) (.c (.bool true)) (.t 10))]) (.cond (.t 11) (.seq (.ops [.z 4 (.move (.c .nilSl)),.z 5 (.move (.c (.i 2)))]) .ret) .skip)) (.seq (.ops [.m 12 0,.z 13 (.callV (.c (.fn (.func 84) [] [])) [.t 12]),.m 0 13]) (.seq (.seq (.ops [.m 14 0,.z 15 (.lenSl (.t 14)),.m 16 1,.z 17 (.bin .gtr false 3 (.t 15) (.t 16))]) (.cond (.t 17) (.seq (.ops [.z 4 (.move (.c .nilSl)),.z 5 (.move (.c (.i 3)))]) .ret) .skip)) (.seq (.ops [.m 18 0,.m 19 1,.m 20 0,.z 21 (.lenSl (.t 20)),.z 22 (.bin .sub false 3 (.t 19) (.t 21)),.z 23 (.appZ 1 [(.u 0)] (.t 18) (.t 22)),.m 4 23,.z 5 (.move (.c (.i 0)))]) .ret)))))
theorem r_ref02_Fit:z0f Tryz.prog 95=some ⟨24,z6p.r,[.tmp 4,.tmp 5]⟩:=by kernel_rfl
theorem k_ref02_Fit:z6p.ok=true:=by kernel_rfl
def z6y:LC:=(.seq (.ops [.z 8 (.move (.c .nilSl)),.z 9 (.move (.c (.bool false)))]) (.seq (.ops [.m 23 0,.z 24 (.callV (.c (.fn (.func 35) [] [])) [.t 23,(.c (.bool true))]),.m 10 24]) (.seq (.ops [.m 25 10,.z 26 (.callV (.c (.fn (.func 36) [] [])) []),.z 27 (.callV (.c (.fn (.func 15) [] [])) [.t 25,.t 26]),.m 11 27]) (.seq (.seq (.ops [.m 28 11,.z 29 (.bin .lss true 3 (.t 28) (.c (.i 1))),.m 30 29,⟨some 31,(some (30,false)),.move (.t 11)⟩,⟨some 32,(some (30,false)),.move (.t 0)⟩,⟨some 33,(some (30,false)),.bin .mul true 3 (.c (.i 8)) (.t 32)⟩,⟨some 34,(some (30,false)),.bin .add true 3 (.t 33) (.c (.i 16))⟩,⟨some 35,(some (30,false)),.bin .gtr false 3 (.t 31) (.t 34)⟩,.z 36 (.pick (.t 30) (.c (.bool true)) (.t 35))]) (.cond (.t 36) (.seq (.ops [.z 8 (.move (.c .nilSl)),.z 9 (.move (.c (.bool false)))]) .ret) .skip)) (.seq (.ops [.m 37 10,.m 38 11,.z 39 (.callV (.c (.fn (.func 19) [] [])) [.t 37,.t 38]),.z 12 (.alloc [.nilSl,.nilSl,(.i 0),(.i 0),(.i 0),(.i 0),(.i 0),(.i 0)]),⟨none,none,.store 8 (.t 12) (.t 39)⟩]) (.seq (.draw [(.m 41 10,[]),(.z 43 (.loadN 8 (.t 12)),[]),(.z 42 (.callV (.c (.fn (.func 36) [] [])) []),[(.z 43 (.loadN 8 (.t 12)),false)]),(.z 44 (.callV (.c (.fn (.func 18) [] [])) [.t 41,.t 42,.t 43,.c (.i 0)]),[]),(.m 40 44,[]),(.z 45 (.extract 0 (.t 40)),[]),(.z 46 (.extract 1 (.t 40)),[]),(.m 13 45,[]),(.m 14 46,[])]) (.seq (.ops [.z 47 (.loadN 8 (.t 12)),.z 48 (.buildSl 1 1 [(.u 0)] [(0,1,.c (.u 3))]),.z 49 (.callV (.c (.fn (.func 62) [] [])) [.t 47,.t 48]),.m 15 49]) (.seq (.seq (.ops [.m 50 1,.m 51 2,.m 52 3,.z 53 (.buildSl 1 3 [.nilSl,.nilSl,.nilSl] [(0,1,.t 50),(1,1,.t 51),(2,1,.t 52)]),.z 54 (.lenSl (.t 53)),.z 55 (.move (.c (.i 0)))]) (.block 0 (.loop (.seq (.ops [.z 56 (.bin .lss false 3 (.t 55) (.t 54))]) (.seq (.cond (.t 56) .skip (.exit 0)) (.seq (.block 1 (.seq (.ops [.m 57 55,.z 58 (.ixAddr 1 (.t 53) (.t 55)),.l 59 58,.m 16 57,.m 17 59]) (.seq (.ops [.m 61 17,.m 62 0,.z 63 (.callV (.c (.fn (.func 95) [] [])) [.t 61,.t 62]),.m 60 63,.z 64 (.extract 0 (.t 60)),.z 65 (.extract 1 (.t 60)),.m 18 64,.m 19 65]) (.seq (.seq (.ops [.m 66 19,.z 67 (.bin .neq true 35 (.t 66) (.c (.i 0)))]) (.cond (.t 67) (.seq (.ops [.z 8 (.move (.c .nilSl)),.z 9 (.move (.c (.bool false)))]) .ret) .skip)) (.ops [.m 68 15,.m 69 16,.m 70 18,.z 71 (.ixAddr 1 (.t 68) (.t 69)),⟨none,none,.store 1 (.t 71) (.t 70)⟩]))))) (.ops [.z 72 (.bin .add true 3 (.t 55) (.c (.i 1))),.m 55 72]))))))) (.seq (.ops [.z 74 (.loadN 8 (.t 12)),.m 75 13,.z 76 (.callV (.c (.fn (.func 24) [] [])) [.t 74,.t 75,.c (.i 0)]),.m 77 15,.z 78 (.callV (.c (.fn (.func 29) [] [])) [.t 76,.t 77]),.m 73 78,.z 79 (.extract 0 (.t 73)),.z 80 (.extract 1 (.t 73)),.z 81 (.extract 2 (.t 73)),.m 20 79,.m 21 80,.m 22 81]) (.seq (.seq (.ops [.m 82 14,.z 83 (.bin .neq true 35 (.t 82) (.c (.i 0))),.m 84 83,⟨some 85,(some (84,false)),.move (.t 22)⟩,⟨some 86,(some (84,false)),.bin .neq true 35 (.t 85) (.c (.i 0))⟩,.z 87 (.pick (.t 84) (.c (.bool true)) (.t 86))]) (.cond (.t 87) (.seq (.ops [.z 8 (.move (.c .nilSl)),.z 9 (.move (.c (.bool false)))]) .ret) .skip)) (.seq (.ops [.m 88 20,.z 89 (.ixAddr 1 (.t 88) (.c (.i 3))),.l 90 89,.m 8 90,.z 9 (.move (.c (.bool true)))]) .ret)))))))))))
theorem r_law23_product:z0f Tryz.prog 34=some ⟨91,z6y.r,[.tmp 8,.tmp 9]⟩:=by kernel_rfl
theorem k_law23_product:z6y.ok=true:=by kernel_rfl
theorem zkv (a:List UInt64) (n:Int) (ha:a.length≤1000000):FnS Tryz.prog 95 [LU a,.i n] (.tup [.dy 0 0,.i (fitE a n)]) [RU (fitR a n)]:=by
 refine FnS.rowE (z01 r_ref02_Fit k_ref02_Fit (by simp) ?_)
 have hl:=zb9 a
 by_cases h0:n < 0
 ·have e:fitE a n=2:=if_pos (.inl h0)
  simp[z6p,h0,e,fitR,z49]
 ·by_cases h1:512 < n
  ·have e:fitE a n=2:=if_pos (.inr h1)
   simp[z6p,h0,h1,e,fitR,z49]
  ·simp[z6p,h0,h1]
   refine zag (z3r a (by omega)) (by simp) ?_
   by_cases h2:n < (toL (val a)).length
   ·have e:fitE a n=3:=by unfold fitE; rw[if_neg (by omega),if_pos h2]
    simp[RU,h2,e,fitR,z49]
   ·have e:fitE a n=0:=by unfold fitE; rw[if_neg (by omega),if_neg h2]
    simp[RU,h2,e,fitR]
    refine⟨by omega,fun h3=>⟨by omega,by omega,by omega,by omega,.inr ⟨0,1,1,rfl,?_⟩⟩⟩
    rw[repU]
    simp
theorem zjs {a:List UInt64} {n:Int} (h:fitE a n=0):val (fitR a n)=val a:=by
 unfold fitR
 rw[if_pos h,val_append,val_rep0,z3g,Nat.mul_zero,Nat.add_zero]
theorem zpz {a:List UInt64} {k:Nat} (h:val a < 2 ^ (64 * (k+1))) (hk:k≤5):fitE a ((k:Int)+1)=0:=by
 have:=z1t h
 unfold fitE
 rw[if_neg (by omega),if_neg (by omega)]
theorem Plain_M (k:Nat):FnV Tryz.prog 19 [.lst (vsC (vs4 k)) 4 3,.i ((k:Int)+3)] (.agg (plV (bsM k) (ps4 k) (wPl k 4) (wPl k 5))):=by
 have h:=zl1 (vs4 k) ((k:Int)+3) (by simp[vs4])
 rw[plainM,plainPM] at h
 exact h
noncomputable def zhn (k:Nat) (a b n:List UInt64):Nat:=val a * val b * invN (2 ^ (64 * (k+1)) % val n) (val n) % val n
noncomputable def z8d (k:Nat) (a b n:List UInt64):List UInt64:=toL (zhn k a b n)++List.replicate (k+1 - (toL (zhn k a b n)).length) 0
theorem z44 {k:Nat} {a b n:List UInt64} (hk:k≤5) (ha:a.length≤1000) (hb:b.length≤1000) (hn:n.length=k+1) (hco:oddL n=true) (ha2:val a < val n) (hb2:val b < 2 ^ (64 * (k+1))) :
  FnV Tryz.prog 34 [.i ((k:Int)+1),LU a,LU b,LU n] (.tup [LU (z8d k a b n),.bool true]):=by
 refine FnV.mk (by simp[LV.dat,dats,z8b]) (z01 r_law23_product k_law23_product (by simp) ?_)
 have hf:moO.f=[.i 12,.i 3,.i (-1),.i 0,.i 1,.i 2,.u 0]:=rfl
 have hpl:plV (bsM k) (ps4 k) (wPl k 4) (wPl k 5)=[.lst (bfC (bsM k)) (bsM k).length 3,.lst (pcC (ps4 k)) (ps4 k).length 3,.i (wPl k 4).buf,.i (wPl k 4).at_,.i (wPl k 4).size,.i (wPl k 5).buf,.i (wPl k 5).at_,.i (wPl k 5).size]:=rfl
 have hW:=z7d (vs4 k) moO (by simp[vs4])
 rw[workM4 hk] at hW
 have g1:¬ (k:Int)+3 < 1:=by omega
 have g2:¬ 8 * ((k:Int)+1)+16 < (k:Int)+3:=by omega
 simp[z6y]
 refine z1p (zki ((k:Int)+1) true) (by simp[dats,LV.dat]) ?_
 have hv:[(⟨(k:Int)+1,true,0⟩:Vr),⟨(k:Int)+1,true,0⟩,⟨(k:Int)+1,true,0⟩,⟨(k:Int)+1,true,0⟩]=vs4 k:=rfl
 rw[hv]
 simp
 refine z02 law23_mont_ok (by simp) ?_
 simp[hf]
 rw[←hf]
 refine z02 hW (bors_self _ (by simp[dats,LV.dat,z1f,hf])) ?_
 simp[g1,g2]
 repeat (refine⟨by omega,?_⟩)
 refine z1p (Plain_M k) (by simp[dats,LV.dat,z1f]) ?_
 simp[hpl]
 refine z02 law23_mont_ok (by simp) ?_
 simp[hf]
 rw[←hf,←hpl]
 refine z1p (Code_M hk) (by simp[dats,LV.dat,z1f,zao,hf]) ?_
 simp[hpl]
 refine zjl (a:=[.agg [.lst (bfC (bsM k)) (bsM k).length 3,.lst (pcC (ps4 k)) (ps4 k).length 3,.i (wPl k 4).buf,.i (wPl k 4).at_,.i (wPl k 4).size,.i (wPl k 5).buf,.i (wPl k 5).at_,.i (wPl k 5).size]]) (b:=[]) (p:=1) rfl ?_
 refine rows_any (fill:=[3]) (bs:=bsM k) (fun b hb=>?_) (by simp[bsM]) (by simp) (fun X p ver st G' hX1 hX2 hGo hp hGl _ hGp=>?_) (by simp[bsM])
 ·simp[bsM] at hb
  rcases hb with rfl | rfl | rfl <;> simp only <;> omega
 have hX6:X.length=6:=hX1
 have hG0:G'[0]?=_:=(hGo 0 (by simp)).trans (by simp; rfl)
 simp only[List.length_set,List.length_cons,List.length_nil] at hp hGl
 clear hGo
 have hXl:∀ i,i < 6→((X.getD i []).length:Int)=(gbf (bsM k) i).size:=hX2
 clear hX2
 simp
 have hval:∀ j,j < 3→val (([a,b,n]:List (List UInt64)).getD j []) < 2 ^ (64 * (k+1)):=fun j hj=>by
  have hn2:=z3l (Nat.le_of_eq hn)
  have h:j=0∨j=1∨j=2:=by omega
  rcases h with rfl | rfl | rfl
  ·exact Nat.lt_trans ha2 hn2
  ·exact hb2
  ·exact hn2
 have hlenS:∀ j,j < 3→(([a,b,n]:List (List UInt64)).getD j []).length≤1000:=fun j hj=>by
  have h:j=0∨j=1∨j=2:=by omega
  rcases h with rfl | rfl | rfl
  ·exact ha
  ·exact hb
  ·show n.length≤1000; omega
 have hpl1:p < G'.length:=(List.getElem?_eq_some_iff.1 hGp).1
 refine z0m (fun ρ D G N=>∃ (i st':Nat) (Y:List (List UInt64)),D=[]∧N+i=3∧lk ρ 0=.i ((k:Int)+1)∧lk ρ 12=.ptr 0 0∧lk ρ 13=.lst (loC (z9m k).flat) (z9m k).flat.length 8∧lk ρ 14=.i 0∧lk ρ 15=.dy p ver∧lk ρ 53=.dy G'.length 0∧lk ρ 54=.i 3∧lk ρ 55=.i i∧G.length=G'.length+1 ∧
   G[0]?=some (.cells (plV (bsM k) (ps4 k) (wPl k 4) (wPl k 5)) 1)∧G[p]?=some (.dyn (Y.map LU) 6 1 ver st')∧G[G'.length]?=some (.dyn (([a,b,n]:List (List UInt64)).map LU) 3 1 0 0)∧Y.length=6∧(∀ j,j < 6→((Y.getD j []).length:Int)=(gbf (bsM k) j).size)∧∀ j,j < i→j < 3→Y.getD j []=fitR (([a,b,n]:List (List UInt64)).getD j []) ((k:Int)+1)) (N:=3)
  ⟨0,st,X,rfl,rfl,by simp,by simp,by simp,by simp,by simp,by simp,by simp,by simp,by simp,(oldP (by omega)).trans hG0,by rw[oldP hpl1,hGp,hX6],List.getElem?_concat_length,hX6,hXl,fun j h=>by omega⟩ ?_
 rintro N ρ D G ⟨i,st',Y,rfl,hN,h0,h12,h13,h14,h15,h53,h54,h55,hGl2,hg0,hgp,hgq,hY6,hYl,hYv⟩ Nx hNx
 by_cases g:i < 3
 ·have g':(i:Int) < 3:=by omega
  have hS:=hval i g
  have hSl:=hlenS i g
  generalize hsi:([a,b,n]:List (List UInt64)).getD i []=S at *
  have hgi:([LV.lst (a.map .u) a.length 1,.lst (b.map .u) b.length 1,.lst (n.map .u) n.length 1])[i]?=some (LU S):=by
   show (([a,b,n]:List (List UInt64)).map LU)[i]?=some (LU S)
   rw[List.getElem?_map,List.getElem?_eq_getElem (by simpa using g),←hsi,List.getD_eq_getElem?_getD,List.getElem?_eq_getElem (by simpa using g)]; rfl
  have hfit:=zpz hS hk
  simp[h0,h53,h54,h55,g,g',hgq,z05 hgi]
  refine z02 (zkv S ((k:Int)+1) (by omega)) (by simp) ?_
  have hfl:=zon hfit
  rw[hfit]
  generalize hFF:fitR S ((k:Int)+1)=F at *
  have hi6:i < 6:=by omega
  have hlay:=zkh LU Y i F (by omega)
  simp only[LU] at hlay
  have hi5:i≤5:=by omega
  simp[h15,h55,hgp,RU,hi6,hi5,hY6]
  refine⟨by omega,by omega,hNx _ _ _ ⟨N - 1,by omega,i+1,st'+1,Y.set i F,rfl,by omega,by simp[h0],by simp[h12],by simp[h13],by simp[h14],by simp[h15],by simp[h53],by simp[h54],by simp,by simp[hGl2],?_,?_,?_,by simp[hY6],?_,?_⟩⟩
  ·rw[List.getElem?_set_ne (by omega)]; exact hg0
  ·rw[List.getElem?_set_self (by omega)]
   rw[←hlay]
  ·rw[List.getElem?_set_ne (by omega)]; exact hgq
  ·intro j hj
   rw[z41 _ _ _ _ _ (by omega)]
   by_cases e:j=i
   ·rw[if_pos e,e,ze9 (by omega)]; exact hfl.1
   ·rw[if_neg e]; exact hYl j hj
  ·intro j hj hj3
   rw[z41 _ _ _ _ _ (by omega)]
   by_cases e:j=i
   ·rw[if_pos e,e,hsi,hFF]
   ·rw[if_neg e]; exact hYv j (by omega) hj3
 ·have gi:i=3:=by omega
  subst gi
  have y0:=hYv 0 (by omega) (by omega)
  have y1:=hYv 1 (by omega) (by omega)
  have y2:=hYv 2 (by omega) (by omega)
  have z0:=hYl 0 (by omega)
  have z1:=hYl 1 (by omega)
  have z2:=hYl 2 (by omega)
  have z3:=hYl 3 (by omega)
  have z4:=hYl 4 (by omega)
  have z5:=hYl 5 (by omega)
  clear hYv hYl
  match Y,hY6 with
  | [A,B,M,x3,x4,x5],_ =>
  have e0:A=fitR a ((k:Int)+1):=y0
  have e1:B=fitR b ((k:Int)+1):=y1
  have e2:M=fitR n ((k:Int)+1):=y2
  have v0:val A=val a:=by rw[e0]; exact zjs (zpz (hval 0 (by omega)) hk)
  have v1:val B=val b:=by rw[e1]; exact zjs (zpz (hval 1 (by omega)) hk)
  have v2:val M=val n:=by rw[e2]; exact zjs (zpz (hval 2 (by omega)) hk)
  clear y0 y1 y2 e0 e1 e2
  have l0:A.length=k+1:=by rw[ze9 (by omega)] at z0; simp at z0; omega
  have l1:B.length=k+1:=by rw[ze9 (by omega)] at z1; simp at z1; omega
  have l2:M.length=k+1:=by rw[ze9 (by omega)] at z2; simp at z2; omega
  have l3:x3.length=k+1:=by rw[ze9 (by omega)] at z3; simp at z3; omega
  have l4:x4.length=k+3:=by simp[bsM,gbf] at z4; omega
  have l5:x5.length=k+3:=by simp[bsM,gbf] at z5; omega
  clear z0 z1 z2 z3 z4 z5
  have hcM:oddL M=true:=by rw[zjx,v2,←zjx]; exact hco
  have hodd:M.getD 0 0 % 2=1:=by
   have:=hcM
   unfold oddL at this
   exact of_decide_eq_true this
  have hX:zhj (bsM k) [A,B,M,x3,x4,x5]=true:=by
   unfold zhj
   refine decide_eq_true ⟨rfl,fun i hi=>?_⟩
   have hi':i=0∨i=1∨i=2∨i=3∨i=4∨i=5:=by simp[bsM] at hi; omega
   rcases hi' with rfl | rfl | rfl | rfl | rfl | rfl <;> simp[bsM,gbf,l0,l1,l2,l3,l4,l5]
  have hex:=treeM_ex hk l0 l1 l2 l3 l4 l5 hodd (by rw[v0,v2]; exact ha2)
  obtain⟨s',t,hrep,⟨hlt,Q,Q',hq⟩,hV⟩:=Run_tree (zu1 hk) (treeM_wf hk) (zs3 hk) (by have:=zh2 hk; omega) hX (by simp[bsM]) hex
  obtain⟨o,ho3,hoe,hol,holt,hov⟩:=outM hk l0 l1 l2 l3 l4 l5 hcM hrep hlt hq
  rw[v0,v1,v2] at hov
  have hoo:o=z8d k a b n:=by
   have hb1:zhn k a b n < 2 ^ (64 * (k+1)):=Nat.lt_trans (Nat.mod_lt _ (by omega)) (z3l (Nat.le_of_eq hn))
   have hb2:=z1t hb1
   refine val_inj_length (by rw[hol]; simp[z8d]; omega) ?_
   rw[hov,z8d,val_append,val_rep0,z3g,Nat.mul_zero]; rfl
  rw[hoo] at hoe
  have hPr:=zet (bs:=bsM k) (P:=.lst (pcC (ps4 k)) (ps4 k).length 3) (W:=[.i (wPl k 4).buf,.i (wPl k 4).at_,.i (wPl k 4).size,.i (wPl k 5).buf,.i (wPl k 5).at_,.i (wPl k 5).size]) (L:=(z9m k).flat) (deep:=0) (by omega) (by have:=zfi (zcn hk); have:=zh2 hk; omega) ⟨_,_,_,_,_,_,rfl⟩
  simp[lpsL] at hPr
  simp[h12,h13,h14,h15,h54,h55,hg0,hpl]
  refine z1p hPr (by simp[dats,LV.dat,z0o,zd1,z0s]) ?_
  simp[h15]
  refine zjl (a:=[.agg (lpV 64 (bsM k) (z9m k).flat)]) (b:=[]) hgp ?_
  have hLN:LV.lst (([A,B,M,x3,x4,x5]:List (List UInt64)).map LU) 6 1=LN [A,B,M,x3,x4,x5]:=rfl
  rw[hLN]
  refine z1p hV (by simp[dats,LV.dat,z0s,z0o,lpV,z8b]) ?_
  have ho3':(3:Int) < s'.bufs.length:=by omega
  have h3:s'.bufs[3]=z8d k a b n:=by rw[←hoe,List.getD_eq_getElem?_getD,List.getElem?_eq_getElem ho3]; rfl
  simp[h14,zvj,ho3,ho3',h3]
end Go.Proofs.YtodjkjimaheggaaGreat
