/- The templates: see the main text. -/
import Derived.Test.YtodjkjimaheggaaGreatTg1
import Derived.Test.YtodjkjimaheggaaGreatSvG2
set_option linter.defProp false
noncomputable section
namespace Go.Proofs.YtodjkjimaheggaaGreat
open Go.Sv
set_option linter.unusedSimpArgs false
set_option maxRecDepth 10000
def zgh:LC:=(.q [.z 4 (.move (.c .nilSl))] (.q [.m 6 0,.z 7 (.build [(.i 0),(.bool false),(.i 0)] [(0,1,.t 6),(1,1,.T)]),.z 5 (.alloc [(.i 0),(.bool false),(.i 0)]),.v (.store 3 (.t 5) (.t 7))] (.q [.z 8 (.loadN 3 (.t 5)),.m 9 1,.z 10 (.build [(.i 0),(.bool false),(.i 0)] [(0,1,.t 9),(1,1,.T)]),.z 11 (.loadN 3 (.t 5)),.z 12 (.loadN 3 (.t 5)),.z 13 (.buildSl 3 4 [(.i 0),(.bool false),(.i 0),(.i 0),(.bool false),(.i 0),(.i 0),(.bool false),(.i 0),(.i 0),(.bool false),(.i 0)] [(0,3,.t 8),(3,3,.t 10),(6,3,.t 11),(9,3,.t 12)]),.m 4 13] .ret)))
def r_law24_four:Fu Tryz.prog 41=some ⟨14,zgh.r,[.tmp 4]⟩:=by kernel_rfl
def zi7:LC:=(.q [.z 2 (.alloc [(.i 0),(.i 0),(.i 0),(.i 0),(.i 0),(.i 0),(.u 0)])] (.q [.m 3 0,.z 4 (.build [(.i 0),(.i 0),(.i 0),(.i 0),(.i 0),(.i 0),(.u 0)] [(0,1,.k 13),(1,1,.k 3),(2,1,.k (-1)),(3,1,.k 0),(4,1,.k 1),(5,1,.k 2),(6,1,.t 3)]),.v (.store 7 (.t 2) (.t 4))] .ret))
def r_law24_pow:Fu Tryz.prog 43=some ⟨5,zi7.r,[.cellN 2 7]⟩:=by kernel_rfl
def zbr:LC:=(.q [.z 3 (.box (.t 0)),.z 6 (.alloc [(.i 0),.nilSl,.nilSl])] (.q [.f 10 0 3,.l 11 10,.z 12 (.build [(.i 0),.nilSl,.nilSl] [(0,1,.k 64),(1,1,.t 11)]),.z 7 (.alloc [(.i 0),.nilSl,.nilSl]),.v (.store 3 (.t 7) (.t 12))] (.seq (.q [.z 8 (.move (.k 0))] (.block 0 (.loop (.seq (.q [.m 13 8,.m 14 2,.z 15 (.bin .lss false 3 (.t 13) (.t 14))] (.cond (.t 15) .skip (.exit 0))) (.seq (.block 1 (.ops [.f 18 2 7,.l 19 18,.m 20 8,.z 21 (.build [(.i 0),(.i 0),(.i 0),(.i 0),(.i 0),(.i 0),(.i 0),(.u 0)] [(0,1,.k 16),(1,1,.t 20),(2,1,.k (-1)),(3,1,.k (-1)),(4,1,.k (-1)),(5,1,.k (-1)),(7,1,.c (.u 1))]),.z 22 (.buildSl 8 1 [(.i 0),(.i 0),(.i 0),(.i 0),(.i 0),(.i 0),(.i 0),(.u 0)] [(0,8,.t 21)]),.z 23 (.appG 8 (.t 19) (.t 22)),.f 24 2 7,.v (.store 1 (.t 24) (.t 23))])) (.ops [.m 16 8,.z 17 (.bin .add true 3 (.t 16) (.k 1)),.m 8 17])))))) (.q [.f 25 2 7,.l 26 25,.m 27 1,.z 28 (.appG 8 (.t 26) (.t 27)),.f 29 2 7,.v (.store 1 (.t 29) (.t 28))] (.seq (.q [.z 9 (.move (.k 0))] (.block 2 (.loop (.seq (.q [.m 30 9,.m 31 2,.z 32 (.bin .lss false 3 (.t 30) (.t 31))] (.cond (.t 32) .skip (.exit 2))) (.seq (.block 3 (.ops [.f 35 2 7,.l 36 35,.z 37 (.build [(.i 0),(.i 0),(.i 0),(.i 0),(.i 0),(.i 0),(.i 0),(.u 0)] [(0,1,.k 17),(1,1,.k (-1)),(2,1,.k (-1)),(3,1,.k (-1)),(4,1,.k (-1)),(5,1,.k (-1))]),.z 38 (.buildSl 8 1 [(.i 0),(.i 0),(.i 0),(.i 0),(.i 0),(.i 0),(.i 0),(.u 0)] [(0,8,.t 37)]),.z 39 (.appG 8 (.t 36) (.t 38)),.f 40 2 7,.v (.store 1 (.t 40) (.t 39))])) (.ops [.m 33 9,.z 34 (.bin .add true 3 (.t 33) (.k 1)),.m 9 34])))))) (.q [.z 41 (.loadN 3 (.t 7)),.v (.store 3 (.t 6) (.t 41))] .ret))))))
def r_law24_program:Fu Tryz.prog 52=some ⟨42,zbr.r,[.cellN 6 3]⟩:=by kernel_rfl
def zgr:LC:=(.q [.z 2 (.box (.t 0)),.z 4 (.move (.c .nilSl))] (.q [.z 5 (.move (.c .nilSl))] (.seq (.q [.z 6 (.move (.k 0))] (.block 0 (.loop (.seq (.q [.m 7 6,.f 8 0 2,.l 9 8,.z 10 (.lenSl (.t 9)),.z 11 (.bin .lss false 3 (.t 7) (.t 10))] (.cond (.t 11) .skip (.exit 0))) (.seq (.block 1 (.draw [(.m 14 5,[]),(.z 15 (.buildSl 1 0 [] []),[]),(.m 16 1,[]),(.m 18 6,[]),(.z 19 (.cvInt .u64 (.t 18)),[]),(.z 20 (.bin .mul true 23 (.t 19) (.c (.u 1234567891011))),[]),(.z 21 (.buildSl 1 1 [(.u 0)] [(0,1,.t 20)]),[(.z 15 (.buildSl 1 0 [] []),true)]),(.f 23 0 2,[]),(.l 24 23,[]),(.m 25 6,[]),(.z 26 (.ixAddr 3 (.t 24) (.t 25)),[]),(.f 27 0 26,[]),(.l 28 27,[]),(.z 17 (.appG 1 (.t 15) (.t 16)),[(.l 28 27,false),(.l 24 23,false),(.z 21 (.buildSl 1 1 [(.u 0)] [(0,1,.t 20)]),true)]),(.z 22 (.appG 1 (.t 17) (.t 21)),[(.l 28 27,false),(.l 24 23,false)]),(.z 29 (.w 26 [.t 22,.t 28]),[]),(.z 30 (.buildSl 1 1 [.nilSl] [(0,1,.t 29)]),[]),(.z 31 (.appG 1 (.t 14) (.t 30)),[]),(.m 5 31,[])])) (.ops [.m 12 6,.z 13 (.bin .add true 3 (.t 12) (.k 1)),.m 6 13])))))) (.q [.m 32 5,.m 4 32] .ret))))
def r_law24_rows:Fu Tryz.prog 101=some ⟨33,zgr.r,[.tmp 4]⟩:=by kernel_rfl
def zcx:LC:=(.q [.z 12 (.move (.c .nilSl)),.z 13 (.move .F)] (.q [.m 27 0,.m 28 1,.z 29 (.w 41 [.t 27,.t 28]),.m 14 29] (.q [.m 30 14,.m 31 2,.z 32 (.w 43 [.t 31]),.z 33 (.w 42 [.t 30,.t 32]),.m 15 33] (.seq (.q [.m 34 15,.z 35 (.bin .lss true 3 (.t 34) (.k 1))] (.cond (.t 35) (.q [.z 12 (.move (.c .nilSl)),.z 13 (.move .F)] .ret) .skip)) (.q [.m 36 14,.m 37 15,.z 38 (.w 19 [.t 36,.t 37]),.z 16 (.alloc [.nilSl,.nilSl,(.i 0),(.i 0),(.i 0),(.i 0),(.i 0),(.i 0)]),.v (.store 8 (.t 16) (.t 38))] (.seq (.draw [(.m 40 14,[]),(.m 41 2,[]),(.z 43 (.loadN 8 (.t 16)),[]),(.z 42 (.w 43 [.t 41]),[(.z 43 (.loadN 8 (.t 16)),false)]),(.z 44 (.w 44 [.t 40,.t 42,.t 43,.k 0]),[]),(.m 39 44,[]),(.z 45 (.extract 0 (.t 39)),[]),(.z 46 (.extract 1 (.t 39)),[]),(.m 17 45,[]),(.m 18 46,[])]) (.q [.z 47 (.loadN 8 (.t 16)),.z 48 (.buildSl 1 1 [(.u 0)] [(0,1,.c (.u 3))]),.z 49 (.w 101 [.t 47,.t 48]),.m 19 49] (.seq (.q [.m 50 3,.m 51 4,.m 52 5,.z 53 (.buildSl 1 3 [.nilSl,.nilSl,.nilSl] [(0,1,.t 50),(1,1,.t 51),(2,1,.t 52)]),.z 54 (.lenSl (.t 53)),.z 55 (.move (.k 0))] (.block 0 (.loop (.q [.z 56 (.bin .lss false 3 (.t 55) (.t 54))] (.seq (.cond (.t 56) .skip (.exit 0)) (.seq (.block 1 (.q [.m 57 55,.z 58 (.ixAddr 1 (.t 53) (.t 55)),.l 59 58,.m 20 57,.m 21 59] (.q [.m 61 21,.m 62 14,.m 63 20,.z 64 (.ixAddr 3 (.t 62) (.t 63)),.f 65 0 64,.l 66 65,.z 67 (.w 95 [.t 61,.t 66]),.m 60 67,.z 68 (.extract 0 (.t 60)),.z 69 (.extract 1 (.t 60)),.m 22 68,.m 23 69] (.seq (.q [.m 70 23,.z 71 (.bin .neq true 35 (.t 70) (.k 0))] (.cond (.t 71) (.q [.z 12 (.move (.c .nilSl)),.z 13 (.move .F)] .ret) .skip)) (.ops [.m 72 19,.m 73 20,.m 74 22,.z 75 (.ixAddr 1 (.t 72) (.t 73)),.v (.store 1 (.t 75) (.t 74))]))))) (.ops [.z 76 (.bin .add true 3 (.t 55) (.k 1)),.m 55 76]))))))) (.q [.z 78 (.loadN 8 (.t 16)),.m 79 17,.z 80 (.w 52 [.t 78,.t 79,.k 0]),.m 81 19,.z 82 (.w 29 [.t 80,.t 81]),.m 77 82,.z 83 (.extract 0 (.t 77)),.z 84 (.extract 1 (.t 77)),.z 85 (.extract 2 (.t 77)),.m 24 83,.m 25 84,.m 26 85] (.seq (.q [.m 86 18,.z 87 (.bin .neq true 35 (.t 86) (.k 0)),.m 88 87,.mn 89 88 26,.n 90 88 (.bin .neq true 35 (.t 89) (.k 0)),.z 91 (.pick (.t 88) .T (.t 90))] (.cond (.t 91) (.q [.z 12 (.move (.c .nilSl)),.z 13 (.move .F)] .ret) .skip)) (.q [.m 92 24,.z 93 (.ixAddr 1 (.t 92) (.k 3)),.l 94 93,.m 12 94,.z 13 (.move .T)] .ret)))))))))))
def r_law24_raised:Fu Tryz.prog 48=some ⟨95,zcx.r,[.tmp 12,.tmp 13]⟩:=by kernel_rfl
def zh4 {bs:List Bf}{P:LV}{W:List LV}{L:List Lo}{deep:Nat}(hd:deep≤100)(Q:L.length≤1000000)(J:∃a b c d e f,W=[.i a,.i b,.i c,.i d,.i e,.i f]) :
  Iv 52 [.agg (.lst (Gs bs) bs.length 3::P::W),.lst (Gv L) L.length 8,.i deep] (.agg (Fv ((64:Nat):Int) bs (Iz deep 0++(L++List.replicate deep O6)))):=by
 obtain⟨R,S,T,U,V,w6,rfl⟩:=J;refine Lt.mk (by simp[LV.dat,zus]) (Fo r_law24_program (by kernel_rfl) (by simp) ?_);simp[zbr];refine Iw (fun ρ D G N=>∃(i st s1:Nat) (v:LV),D=[]∧N+i=deep∧lk ρ 1=.lst (Gv L) L.length 8∧lk ρ 2=.i deep∧lk ρ 6=.ptr 1 0∧lk ρ 7=.ptr 2 0∧lk ρ 8=.i i∧3≤G.length∧G[1]?=some (.cells [.i 0,.nilSl,.nilSl] s1)∧G[2]?=some (.cells [.i 64,.lst (Gs bs) bs.length 3,v] st)∧Io 3 G v 8 (Iz i 0).length (Gv (Iz i 0))) (N:=deep)
  ⟨0,1,0,.nilSl,rfl,by omega,by simp,by simp,by simp,by simp,by simp,by simp,by simp,by simp,Io.nil⟩ ?_
 rintro N ρ D G ⟨i,st,s1,v,rfl,K,B,w,x,r,C,F,g1,g2,hv⟩ H y;by_cases g:i<deep
 ·have X:(i:Int)<deep:=by omega
  simp[B,w,x,r,C,g2,g];refine hv.push_end.push (c:=1) (by omega) (by simp;omega) (by rw[lpsL_len];omega) (by simp) rfl fun z I h l s=>?_
  have m:=(l 2 (by omega)).trans ((Fp (by omega)).trans g2);have o:=(l 1 (by omega)).trans ((Fp (by omega)).trans g1);have p:=h.cells;simp[-LV.cells,p,r,m,C];refine⟨by omega,y _ _ _ ⟨N - 1,by omega,i+1,st+1,s1,z,rfl,by omega,by simp[B],by simp[w],by simp[x],by simp[r],by simp,by simp at s ⊢;omega,?_,?_,?_⟩⟩
  ·rw[Ad (by omega)];exact o
  ·exact Ah (Aa.1 m).1
  ·rw[lpsL_snoc,Aj,zmh,Int.zero_add];exact h.set_lt (by omega)
 ·have hi:i=deep:=by omega
  subst hi;simp[B,w,x,r,C,g2];refine⟨by omega,?_⟩;refine hv.push (c:=L.length) (by omega) (by omega) (by rw[lpsL_len];omega) (zwp L) (Kb L) fun z I h l s=>?_
  have m:=(l 2 (by omega)).trans g2;have o:=(l 1 (by omega)).trans g1;have p:=h.cells;simp[-LV.cells,p,r,m];have A:=(Aa.1 m).1;refine Iw (fun ρ D G N=>∃(j st s1:Nat) (v:LV),D=[]∧N+j=i∧lk ρ 2=.i i∧lk ρ 6=.ptr 1 0∧lk ρ 7=.ptr 2 0∧lk ρ 9=.i j∧3≤G.length∧G[1]?=some (.cells [.i 0,.nilSl,.nilSl] s1)∧G[2]?=some (.cells [.i 64,.lst (Gs bs) bs.length 3,v] st)∧Io 3 G v 8 (Iz i 0++(L++List.replicate j O6)).length (Gv (Iz i 0++(L++List.replicate j O6)))) (N:=i)
   ⟨0,st+1,s1,z,rfl,by omega,by simp[w],by simp[x],by simp[r],by simp,by simp;omega,?_,Ah A,?_⟩ ?_
  ·rw[Ad (by omega)];exact o
  ·simp only[List.replicate_zero,Bz,Aj];rw[zmh];exact h.set_lt (by omega)
  clear B w x r C F g1 g2 hv m o A h l s p y H;rintro N ρ D G ⟨j,st,s1,v,rfl,K,w,x,r,E,F,g1,g2,hv⟩ H y;by_cases g:j<i
  ·simp[w,x,r,E,g2,g];refine hv.push_end.push (c:=1) (by omega) (by simp;omega) (by simp[lpsL_len];omega) (by simp) rfl fun z I h l s=>?_
   have m:=(l 2 (by omega)).trans ((Fp (by omega)).trans g2);have o:=(l 1 (by omega)).trans ((Fp (by omega)).trans g1);have p:=h.cells;simp[-LV.cells,p,r,m,E];refine⟨by omega,y _ _ _ ⟨N - 1,by omega,j+1,st+1,s1,z,rfl,by omega,by simp[w],by simp[x],by simp[r],by simp,by simp at s ⊢;omega,?_,?_,?_⟩⟩
   ·rw[Ad (by omega)];exact o
   ·exact Ah (Aa.1 m).1
   ·rw[show Iz i 0++(L++List.replicate (j+1) O6)=(Iz i 0++(L++List.replicate j O6))++[O6] by rw[List.replicate_succ'];simp,Aj,zmh];exact h.set_lt (by omega)
  ·have M:j=i:=by omega
   subst M;have O:=(hv.set_lt (q:=1) (ob:=.cells [.i 64,.lst (Gs bs) bs.length 3,v] (s1+1)) (by omega)).bor;simp[-Hw,w,x,r,E,g2,g1];rw[Ah (Aa.1 g1).1];refine⟨by simp,_,_,rfl,⟨rfl,rfl⟩,_,_,rfl,⟨rfl,by simp[LV.dat,J3]⟩,_,_,rfl,O,rfl⟩
def zvy {bs:List Bf}{M:LV}{O P Q R S w6:Int}{fill:List UInt64}{d:Ff}{K:LV→Ff→Prop}(Z:∀b∈bs,0≤b.size∧b.size≤1000000)(hb:bs.length≤1000)(aa:fill.length≤1000)
  (kk:∀(X:List (List UInt64)) (p l st:Nat) (G':Ff),X.length=bs.length→(∀i,i<bs.length→((X.getD i []).length:Int)=(F4 bs i).size)→(∀q,q<d.length→G'[q]?=d[q]?)→d.length≤p→d.length≤G'.length→bs≠[]→G'[p]?=some (.dyn (X.map LU) X.length 1 l st)→K (.dy p l) G') (r:bs≠[]) :
  Gh (.fn 101) [.agg [.lst (Gs bs) bs.length 3,M,.i O,.i P,.i Q,.i R,.i S,.i w6],.lst (fill.map .u) fill.length 1] d K:=by
 refine Fo r_law24_rows (by kernel_rfl) (by simp) ?_;simp[zgr];refine Iw (fun ρ D G N=>∃(i s0:Nat) (v:LV) (X:List (List UInt64)),D=[]∧N+i=bs.length∧lk ρ 1=.lst (fill.map .u) fill.length 1∧lk ρ 2=.ptr d.length 0∧lk ρ 5=v∧lk ρ 6=.i i∧d.length<G.length∧(∀q,q<d.length→G[q]?=d[q]?) ∧
   G[d.length]?=some (.cells [.lst (Gs bs) bs.length 3,M,.i O,.i P,.i Q,.i R,.i S,.i w6] s0)∧X.length=i∧(∀j,j<i→((X.getD j []).length:Int)=(F4 bs j).size)∧Io (d.length+1) G v 1 i (X.map LU)) (N:=bs.length)
  ⟨0,0,.nilSl,[],rfl,by omega,by simp,by simp,by simp,by simp,by simp,fun q o=>Aq o,by simp,rfl,fun j h=>by omega,Io.nil⟩ ?_
 rintro N ρ D G ⟨i,s0,v,X,rfl,hN,T,E,U,H,s,w,m,f,V,W⟩ Nx I;by_cases g:i<bs.length
 ·have q0:=bw (K9 g);have o:=Z5 g;have hz:=Z _ (A7 (K9 g));have pp:∀x:List LObj,(G++x)[d.length]?=_:=fun x=>(Fp s).trans m
  simp[T,E,U,H,m,↓pp,g,Ga q0];refine⟨by omega,by omega,?_⟩;obtain⟨z,y⟩:=Af hz.1;rw[y];generalize Lu (iU ↑i) 1234567891011=a;have o1:(G++[LObj.dyn (fill.map .u++[.u a]) (fill.length+1) 1 2 2,LObj.dyn [.u a] 1 1 0 0])[G.length]?=some (.dyn ((fill++[a]).map .u) (fill++[a]).length 1 2 2):=by
   rw[Au (Al _),Eu];simp
  have Y:=fun q (o:q<G.length)=>(Fp (x:=[LObj.dyn (fill.map .u++[.u a]) (fill.length+1) 1 2 2,LObj.dyn [.u a] 1 1 0 0]) o)
  have o3:=W.push_end (ob:=[LObj.dyn (fill.map .u++[.u a]) (fill.length+1) 1 2 2,LObj.dyn [.u a] 1 1 0 0]);have o4:(G++[LObj.dyn (fill.map .u++[.u a]) (fill.length+1) 1 2 2,LObj.dyn [.u a] 1 1 0 0]).length=G.length+2:=by simp
  generalize G++[LObj.dyn (fill.map .u++[.u a]) (fill.length+1) 1 2 2,LObj.dyn [.u a] 1 1 0 0]=GA at *;refine Fj (zsf (fill++[a]) z (by omega) (by simp;omega) (by simp)) ⟨_,_,rfl,⟨_,_,_,_,rfl,o1,qu _⟩,_,_,rfl,⟨rfl,rfl⟩,rfl⟩ ?_;have A:=zq8 (fill++[a]) z;generalize zk (fill++[a]) z=F at *;simp[RU];refine Io.push (c:=1) (x:=[LU F]) (o3.push_end) (by omega) (by simp;omega) (by omega) rfl (by simp[dats,LV.dat,qu]) fun v' G' J B L=>?_
  simp at L;simp[H];refine⟨by omega,I _ _ _ ⟨N - 1,by omega,i+1,s0,v',X++[F],rfl,by omega,by simp[T],by simp[E],by simp,by simp,by omega,?_,?_,by simp[f],?_,?_⟩⟩
  ·intro q o;rw[B q (by omega),Fp (by omega),Y q (by omega)];exact w q o
  ·rw[B _ (by omega),Fp (by omega),Y _ s];exact m
  ·intro j hj;by_cases e:j=i
   ·subst e;rw[Ae,←f,Ax,f,y];simp[A]
   ·rw[Ae,Aq (by omega),←Ae];exact V j (by omega)
  ·rw[D9];exact J
 ·have gi:i=bs.length:=by omega
  subst gi;obtain⟨_,_,⟨_,e0,_⟩|⟨p,l,st,hp,rfl,C⟩⟩:=W
  ·exact absurd (Ay e0) r
  simp[E,U,H,m];exact kk X p l st G f (fun i hi=>V i hi) w (by omega) (by omega) r (by rw[f];exact C)
def zmn (n m:Int):Iv 41 [.i n,.i m] (.lst (Iq [⟨n,true,0⟩,⟨m,true,0⟩,⟨n,true,0⟩,⟨n,true,0⟩]) 4 3):=by
 refine Lt.mk (by simp[LV.dat,Ml]) (Fo r_law24_four (by kernel_rfl) (by simp) ?_);simp[zgh,Iq,Vr.f]
def Hu (w:UInt64):Ko:=⟨13,3,-1,0,1,2,w⟩
def zga (w:UInt64):F2 43 [.u w] (.agg (Hu w).f) []:=by
 refine Hf.val rfl (Fo r_law24_pow (by kernel_rfl) (by simp) ?_);simp[zi7,Hu,Ko.f]
def Hn:List Vr:=[⟨1,true,0⟩,⟨1,true,0⟩,⟨1,true,0⟩,⟨1,true,0⟩]
def w_six {w:UInt64}(hw:1≤w.toNat∧w.toNat≤6):w=1∨w=2∨w=3∨w=4∨w=5∨w=6:=by
 have h:w.toNat=1∨w.toNat=2∨w.toNat=3∨w.toNat=4∨w.toNat=5∨w.toNat=6:=by omega
 rcases h with h|h|h|h|h|h
 ·exact .inl (Bm.1 h)
 ·exact .inr (.inl (Bm.1 h))
 ·exact .inr (.inr (.inl (Bm.1 h)))
 ·exact .inr (.inr (.inr (.inl (Bm.1 h))))
 ·exact .inr (.inr (.inr (.inr (.inl (Bm.1 h)))))
 ·exact .inr (.inr (.inr (.inr (.inr (Bm.1 h)))))
def pw1 {w:UInt64}(hw:1≤w.toNat∧w.toNat≤6):PwV Hn (Hu w) 3 0 1 2:=by
 have ho:Ie Hn (Hu w)=true:=by rcases w_six hw with rfl|rfl|rfl|rfl|rfl|rfl<;>decide +kernel
 obtain⟨d,a,b,c,h⟩:=pwV (vs:=Hn) (o:=Hu w) rfl (by decide +kernel) ho;have f:=h.fd.1;have g:=h.fa.1;have j:=h.fb.1;have l:=h.fc.1;simp only[Hu] at f g j l;have f1:d=3:=by omega
 have f2:a=0:=by omega
 have f3:b=1:=by omega
 have f4:c=2:=by omega
 subst f1 f2 f3 f4;exact h
def qj {i:Nat}(hi:i<4):gv Hn i=⟨1,true,0⟩:=by
 have h:i=0∨i=1∨i=2∨i=3:=by omega
 rcases h with rfl|rfl|rfl|rfl<;>rfl
def pl1 {w:UInt64}(hw:1≤w.toNat∧w.toNat≤6):PwL Hn (Hu w):=by
 refine⟨by simp[Hn],fun i hi=>by rw[qj (by simpa [Hn] using hi)],?_⟩;rw[ztn (pw1 hw)];have a:=U6 hw.2;have e:(Hu w).imm=w:=rfl;rw[qj (by omega),qj (by omega),e];simp only;omega
def zjw {w:UInt64}{a b n:List UInt64}(hw:1≤w.toNat∧w.toNat≤6)(ha:a.length≤1000)(hb:b.length≤1000)(hn:n.length≤1000)(ho:val n%2=1)(y:val n<2^(64*(0+1)))(O:val a<val n)(aE:val b<2^(64*(0+1))) :
  Iv 48 [.i 1,.i 1,.u w,LU a,LU b,LU n] (.tup [LU [UInt64.ofNat (val a^val b%val n)],.bool true]):=by
 refine Lt.mk (by simp[LV.dat,dats,qu]) (Fo r_law24_raised (by kernel_rfl) (by simp) ?_);have hV:=pw1 hw;have hL:=pl1 hw;obtain⟨aF,_,_⟩:=ziv hV;have aG:=zeu Hn (Hu w) (by simp[Hn]);have Q:=znr Hn (Hq Hn (Hu w)) (by simp[Hn]);have d:=zmf Hn (Hu w) (Jf Hn (Hq Hn (Hu w))) (M6 Hn) ⟨Hn.length,0,Hq Hn (Hu w)⟩ ⟨(Hn.length:Int)+1,0,Hq Hn (Hu w)⟩ 0 (by simp[Hn]) (by rw[plB_len];simp[Hn]);have R:=Vv (deep:=0) hV hL (by omega);unfold Rl zzc at d;rw[Ag R,Ag R] at d;have aH:Lh Hn (Hu w) (M6 Hn) ⟨Hn.length,0,Hq Hn (Hu w)⟩ ⟨(Hn.length:Int)+1,0,Hq Hn (Hu w)⟩=Hk Hn (Hu w):=rfl;rw[aH] at d;have aI:N0 Hn++[⟨Hq Hn (Hu w),2,false⟩,⟨Hq Hn (Hu w),2,true⟩]=Jf Hn (Hq Hn (Hu w)):=rfl;rw[aI] at Q;have aJ:=hL.w;have q:=fun X hX=>Up (deep:=0) hV hL (by rw[qj (by omega)];simp) (by rw[qj (by omega)]) (by omega) (X:=X) (Y:=X) hX hX
 have aK:∀i,i<4→(F4 (Jf Hn (Hq Hn (Hu w))) i).size=1:=fun i hi=>by rw[ib (by simpa [Hn] using hi),qj hi]
 have U:=zso (vs:=Hn) (W:=Hq Hn (Hu w)) (by decide +kernel) ⟨aF,aJ⟩;have V:(Jf Hn (Hq Hn (Hu w))).length=6:=by rw[plB_len];rfl
 have aL:=zt5 (p:=Hk Hn (Hu w)) (D:=0);have a0:Mo Hn 3=5:=rfl;have z:(Hk Hn (Hu w)).prog 0=(Hk Hn (Hu w)).code 0:=rfl;rw[z] at q;have K:(Hu w).f=[.i 13,.i 3,.i (-1),.i 0,.i 1,.i 2,.u w]:=rfl;generalize a1:Hq Hn (Hu w)=W at *;generalize a2:Jf Hn W=bs at *;generalize a3:((Hk Hn (Hu w)).code 0)=T at *;have m:Je bs (M6 Hn) ⟨Hn.length,0,W⟩ ⟨(Hn.length:Int)+1,0,W⟩=[.lst (Gs bs) bs.length 3,.lst (Qp (M6 Hn)) (M6 Hn).length 3,.i 4,.i 0,.i W,.i 5,.i 0,.i W]:=rfl;simp[zcx];refine Mq (zmn 1 1) (by simp[dats,LV.dat]) ?_;have hv:[(⟨1,true,0⟩:Vr),⟨1,true,0⟩,⟨1,true,0⟩,⟨1,true,0⟩]=Hn:=rfl;rw[hv];simp;refine Fj (zga w) (by simp) ?_;simp[K];rw[←K];refine Fj aG (bors_self _ (by simp[dats,LV.dat,Ml,K])) ?_;have g1:¬W<1:=by omega
 simp[g1];refine Mq Q (by simp[dats,LV.dat,Ml]) ?_;simp[m];refine Fj (zga w) (by simp) ?_;simp[K];rw[←K,←m];refine Mq d (by simp[dats,LV.dat,Ml,zca,K]) ?_;simp[m];refine nl (a:=[.agg [.lst (Gs bs) bs.length 3,.lst (Qp (M6 Hn)) (M6 Hn).length 3,.i 4,.i 0,.i W,.i 5,.i 0,.i W]]) (b:=[]) (p:=1) rfl ?_;refine zvy (fill:=[3]) (bs:=bs) (fun b hb=>by have:=U b hb;omega) (by omega) (by simp) (fun X p Z st G' a4 aM aa hp aN _ ad=>?_) (fun e=>by rw[e] at V;simp at V);have af:X.length=6:=by omega
 have aO:G'[0]?=_:=(aa 0 (by simp)).trans (by simp;rfl);simp only[Ch,Ar,Bc] at hp aN;clear aa;simp;have r:∀j,j<3→val (([a,b,n]:List (List UInt64)).getD j [])<2^(64*(0+1)):=fun j M=>by
  have h:j=0∨j=1∨j=2:=by omega
  rcases h with rfl|rfl|rfl
  ·exact Nat.lt_trans O y
  ·exact aE
  ·exact y
 have A:∀j,j<3→(([a,b,n]:List (List UInt64)).getD j []).length≤1000:=fun j M=>by
  have h:j=0∨j=1∨j=2:=by omega
  rcases h with rfl|rfl|rfl
  ·exact ha
  ·exact hb
  ·exact hn
 have ag:p<G'.length:=(Aa.1 ad).1;refine Iw (fun ρ D G N=>∃(i B:Nat) (Y:List (List UInt64)),D=[]∧N+i=3∧lk ρ 14=.lst (Iq Hn) 4 3∧lk ρ 16=.ptr 0 0∧lk ρ 17=.lst (Gv T.flat) T.flat.length 8∧lk ρ 18=.i 0∧lk ρ 19=.dy p Z∧lk ρ 53=.dy G'.length 0∧lk ρ 54=.i 3∧lk ρ 55=.i i∧G.length=G'.length+1 ∧
   G[0]?=some (.cells (Je bs (M6 Hn) ⟨Hn.length,0,W⟩ ⟨(Hn.length:Int)+1,0,W⟩) 1)∧G[p]?=some (.dyn (Y.map LU) 6 1 Z B)∧G[G'.length]?=some (.dyn (([a,b,n]:List (List UInt64)).map LU) 3 1 0 0)∧Y.length=6∧(∀j,j<bs.length→((Y.getD j []).length:Int)=(F4 bs j).size)∧∀j,j<i→j<3→Y.getD j []=Lw (([a,b,n]:List (List UInt64)).getD j []) 1) (N:=3)
  ⟨0,st,X,rfl,rfl,by simp,by simp,by simp,by simp,by simp,by simp,by simp,by simp,by simp,(Fp (by omega)).trans aO,by rw[Fp ag,ad,af],Ax,af,aM,fun j h=>by omega⟩ ?_
 rintro N ρ D G ⟨i,B,Y,rfl,hN,ah,aj,ao,C,E,ap,H,I,aq,ar,aw,ax,J,ay,o⟩ Nx aP;by_cases g:i<3
 ·have g':(i:Int)<3:=by omega
  have hS:=r i g;have a5:=A i g;generalize az:([a,b,n]:List (List UInt64)).getD i []=S at *;have aQ:([LV.lst (a.map .u) a.length 1,.lst (b.map .u) b.length 1,.lst (n.map .u) n.length 1])[i]?=some (LU S):=by
   show (([a,b,n]:List (List UInt64)).map LU)[i]?=some (LU S);rw[Ce,Ai (by simpa using g),←az,Ae,Ai (by simpa using g)];rfl
  have aR:(Iq Hn)[i*3]?=some (.i 1):=by
   have h:=zqd (Og (l:=Hn) (n:=i) (by simp[Hn];omega));rw[qj (by omega)] at h;exact h
  have s:Kt S 1=0:=by
   have:=Xr (k:=0) hS (by omega);simpa using this
  simp[ah,ap,H,I,g,g',ax,Ga aQ,Ga aR,show i<4 by omega];refine⟨by omega,?_⟩;refine Fj (zo6 S 1 (by omega)) (by simp) ?_;have aS:=zrd s;rw[s];generalize aT:Lw S 1=F at *;have aU:i<6:=by omega
  have x:=zn3 LU Y i F (by omega);simp only[LU] at x;have aV:i≤5:=by omega
  simp[E,I,aw,RU,aU,aV,J];refine⟨by omega,by omega,aP _ _ _ ⟨N - 1,by omega,i+1,B+1,Y.set i F,rfl,by omega,by simp[ah],by simp[aj],by simp[ao],by simp[C],by simp[E],by simp[ap],by simp[H],by simp,by simp[aq],?_,?_,?_,by simp[J],?_,?_⟩⟩
  ·rw[Ad (by omega)];exact ar
  ·rw[Ah (by omega)];rw[←x]
  ·rw[Ad (by omega)];exact ax
  ·intro j M;rw[Vf _ _ _ _ _ (by omega)];by_cases e:j=i
   ·rw[Ag e,e,aK i (by omega)];exact aS.1
   ·rw[Ab e];exact ay j M
  ·intro j M aW;rw[Vf _ _ _ _ _ (by omega)];by_cases e:j=i
   ·rw[Ag e,e,az,aT]
   ·rw[Ab e];exact o j (by omega) aW
 ·have gi:i=3:=by omega
  subst gi;have y0:=o 0 (by omega) (by omega);have y1:=o 1 (by omega) (by omega);have y2:=o 2 (by omega) (by omega);have fv:∀j,j<3→val (Lw (([a,b,n]:List (List UInt64)).getD j []) 1)=val (([a,b,n]:List (List UInt64)).getD j []):=fun j M=>Wx (by have:=Xr (k:=0) (r j M) (by omega);simpa using this)
  have v0:val (Y.getD 0 [])=val a:=by rw[y0];exact fv 0 (by omega)
  have v1:val (Y.getD 1 [])=val b:=by rw[y1];exact fv 1 (by omega)
  have v2:val (Y.getD 2 [])=val n:=by rw[y2];exact fv 2 (by omega)
  obtain⟨sX,sY,r1,_,_,_,r5,r6,r7,_⟩:=q Y ⟨by omega,ay⟩;have aA:(Y.getD 2 []).getD 0 0%2=1:=by
   have h:=Zz (Y.getD 2 []);have h2:ee (Y.getD 2 [])=true:=by rw[h,v2,Nat.testBit_zero];exact B5 ho
   unfold ee at h2;exact Dc h2
  have hv:=r6 aA (by rw[v0,v2];exact O);rw[v0,v1,v2] at hv;rw[qj (by omega)] at r5;have a6:sX.bufs.length=6:=r1;have aX:sX.bufs.getD 3 []=[UInt64.ofNat (val a^val b%val n)]:=by
   have aY:val a^val b%val n<2^64:=Nat.lt_trans (Cm _ (by omega)) y;refine val_inj_length (by rw[r5];rfl) ?_;rw[hv];simp[val,Bd aY]
  have aB:=zh4 (bs:=bs) (P:=.lst (Qp (M6 Hn)) (M6 Hn).length 3) (W:=[.i 4,.i 0,.i W,.i 5,.i 0,.i W]) (L:=T.flat) (deep:=0) (by omega) (by omega) ⟨_,_,_,_,_,_,rfl⟩;simp[Iz] at aB;simp[aj,ao,C,H,I,ar,m];refine Mq aB (by simp[dats,LV.dat,J3,zf1,Kb]) ?_;simp[E];refine nl (a:=[.agg (Fv 64 bs T.flat)]) (b:=[]) aw ?_;have aZ:LV.lst (Y.map LU) 6 1=LN Y:=by rw[LN,J]
  rw[aZ];refine Mq r7 (by simp[dats,LV.dat,Kb,J3,Fv,qu]) ?_;have aC:3<sX.bufs.length:=by omega
  have aD:(3:Int)<sX.bufs.length:=by omega
  have h3:sX.bufs[3]=[UInt64.ofNat (val a^val b%val n)]:=by rw[←aX,Ae,Ai aC];rfl
  simp[C,zxi,aC,aD,h3]
def zeq:LC:=(.q [.z 0 (.move .F)] (.q [.z 6 (.w 45 [(.k 1),.k 5]),.m 5 6,.z 7 (.extract 0 (.t 5)),.z 8 (.extract 1 (.t 5)),.m 1 7,.m 2 8] (.q [.z 10 (.buildSl 1 1 [(.u 0)] [(0,1,.c (.u 3))]),.z 11 (.buildSl 1 1 [(.u 0)] [(0,1,.c (.u 4))]),.z 12 (.buildSl 1 1 [(.u 0)] [(0,1,.c (.u 7))]),.z 13 (.w 48 [(.k 1),.k 1,.c (.u 2),.t 10,.t 11,.t 12]),.m 9 13,.z 14 (.extract 0 (.t 9)),.z 15 (.extract 1 (.t 9)),.m 3 14,.m 4 15] (.q [.m 16 1,.z 17 (.bin .eql true 3 (.t 16) (.k 13)),.m 18 17,.my 19 18 2,.y 20 18 (.bin .eql true 3 (.t 19) (.k 1)),.z 21 (.pick (.t 18) (.t 20) .F),.m 22 21,.my 23 22 4,.z 24 (.pick (.t 22) (.t 23) .F),.m 25 24,.my 26 25 3,.y 27 25 (.buildSl 1 1 [(.u 0)] [(0,1,.c (.u 4))]),.y 28 25 (.w 32 [.t 26,.t 27]),.z 29 (.pick (.t 25) (.t 28) .F),.m 0 29] .ret))))
def r_law24_lives:ztu Tryz.prog 40=some ⟨30,zeq.r,[.tmp 0]⟩:=by kernel_rfl
def z93 {w:UInt64}{a b n:List UInt64}{p q r sp h j:Nat}{G:Ff}{K:LV→Ff→Prop}(l:G[p]?=some (.dyn (a.map .u) a.length 1 0 sp))(m:G[q]?=some (.dyn (b.map .u) b.length 1 0 h))(o:G[r]?=some (.dyn (n.map .u) n.length 1 0 j))(s:p≠q)(y:p≠r)(qr:q≠r)
  (hw:1≤w.toNat∧w.toNat≤6) (z:a.length≤1000) (A:b.length≤1000) (B:n.length≤1000) (ho:val n%2=1) (d:val n<2^(64*(0+1))) (f:val a<val n) (g:val b<2^(64*(0+1)))
  (C:∀G',G'.length=G.length→(∀x,x≠p→x≠q→x≠r→G'[x]?=G[x]?)→K (.tup [LU [UInt64.ofNat (val a^val b%val n)],.bool true]) G'):Gh (.fn 48) [.i 1,.i 1,.u w,.dy p 0,.dy q 0,.dy r 0] G K:=by
 refine nl (a:=[.i 1,.i 1,.u w]) (b:=[.dy q 0,.dy r 0]) l ?_;refine nl (a:=[.i 1,.i 1,.u w,LU a]) (b:=[.dy r 0]) (by rw[Ad s];exact m) ?_;refine nl (a:=[.i 1,.i 1,.u w,LU a,LU b]) (b:=[]) (by rw[Ad qr,Ad y];exact o) ?_;refine Mq (zjw hw z A B ho d f g) (by simp[LV.dat,dats,qu]) ?_;refine C _ (by simp) fun x D E F=>?_
 rw[Ad (Ne.symm F),Ad (Ne.symm E),Ad (Ne.symm D)]
def law24_lives_ok:F2 40 [] (.bool true) []:=by
 refine Hf.val rfl (Zi r_law24_lives (by kernel_rfl) (by kernel_rfl) ⟨by kernel_rfl,by kernel_rfl⟩ rfl ?_);simp[zeq];refine Fj (zal 1 5) (by simp) ?_;simp;refine z93 (a:=[3]) (b:=[4]) (n:=[7]) (p:=0) (q:=1) (r:=2) rfl rfl rfl (by omega) (by omega) (by omega) (by decide) (by simp) (by simp) (by simp) (by simp[val]) (by simp[val]) (by simp[val]) (by simp[val]) fun G' d f=>?_
 have e:val [3]^val [4]%val [7]=4:=by simp[val]
 rw[e];have hw:J8 1 5=13:=by decide
 have ho:Ke 1 5=1:=by decide
 simp[hw,ho];refine nl (a:=[LU [4]]) (b:=[]) Ax ?_;refine Fj (z8v [4] [4] (by simp) (by simp)) (bors_self _ (by simp[LV.dat,dats])) ?_;simp
def z91:LC:=(.q [.z 12 (.move .F)] (.seq (.q [.z 25 (.w 40 []),.z 26 (.un .not (.t 25))] (.cond (.t 26) (.q [.z 12 (.move .F)] .ret) .skip)) (.q [.m 27 3,.z 28 (.bin .or true 23 (.t 27) (.c (.u 1))),.m 3 28] (.q [.m 29 0,.m 30 3,.z 31 (.bin .rem false 23 (.t 29) (.t 30)),.m 0 31] (.q [.m 32 1,.z 33 (.bin .shr true 23 (.t 32) (.c (.u 1))),.m 34 2,.z 35 (.bin .shr true 23 (.t 34) (.c (.u 1))),.m 1 33,.m 2 35] (.q [.m 36 4,.z 37 (.w 17 [.t 36,.k 6]),.z 38 (.bin .add true 3 (.k 1) (.t 37)),.z 39 (.cvInt .u64 (.t 38)),.m 40 5,.z 41 (.w 17 [.t 40,.k 6]),.z 42 (.bin .add true 3 (.k 1) (.t 41)),.z 43 (.cvInt .u64 (.t 42)),.m 13 39,.m 14 43] (.q [.m 45 13,.m 46 0,.z 47 (.buildSl 1 1 [(.u 0)] [(0,1,.t 46)]),.m 48 1,.z 49 (.buildSl 1 1 [(.u 0)] [(0,1,.t 48)]),.m 50 3,.z 51 (.buildSl 1 1 [(.u 0)] [(0,1,.t 50)]),.z 52 (.w 48 [(.k 1),.k 1,.t 45,.t 47,.t 49,.t 51]),.m 44 52,.z 53 (.extract 0 (.t 44)),.z 54 (.extract 1 (.t 44)),.m 15 53,.m 16 54] (.q [.m 56 14,.m 57 0,.z 58 (.buildSl 1 1 [(.u 0)] [(0,1,.t 57)]),.m 59 2,.z 60 (.buildSl 1 1 [(.u 0)] [(0,1,.t 59)]),.m 61 3,.z 62 (.buildSl 1 1 [(.u 0)] [(0,1,.t 61)]),.z 63 (.w 48 [(.k 1),.k 1,.t 56,.t 58,.t 60,.t 62]),.m 55 63,.z 64 (.extract 0 (.t 55)),.z 65 (.extract 1 (.t 55)),.m 17 64,.m 18 65] (.q [.m 67 14,.m 68 0,.z 69 (.buildSl 1 1 [(.u 0)] [(0,1,.t 68)]),.m 70 1,.m 71 2,.z 72 (.bin .add false 23 (.t 70) (.t 71)),.z 73 (.buildSl 1 1 [(.u 0)] [(0,1,.t 72)]),.m 74 3,.z 75 (.buildSl 1 1 [(.u 0)] [(0,1,.t 74)]),.z 76 (.w 48 [(.k 1),.k 1,.t 67,.t 69,.t 73,.t 75]),.m 66 76,.z 77 (.extract 0 (.t 66)),.z 78 (.extract 1 (.t 66)),.m 19 77,.m 20 78] (.q [.m 80 14,.m 81 0,.z 82 (.buildSl 1 1 [(.u 0)] [(0,1,.t 81)]),.m 83 1,.z 84 (.buildSl 1 1 [(.u 0)] [(0,1,.t 83)]),.m 85 3,.z 86 (.buildSl 1 1 [(.u 0)] [(0,1,.t 85)]),.z 87 (.w 48 [(.k 1),.k 1,.t 80,.t 82,.t 84,.t 86]),.m 79 87,.z 88 (.extract 0 (.t 79)),.z 89 (.extract 1 (.t 79)),.m 21 88,.m 22 89] (.seq (.q [.m 90 16,.z 91 (.un .not (.t 90)),.m 92 91,.mn 93 92 18,.n 94 92 (.un .not (.t 93)),.z 95 (.pick (.t 92) .T (.t 94)),.m 96 95,.mn 97 96 20,.n 98 96 (.un .not (.t 97)),.z 99 (.pick (.t 96) .T (.t 98)),.m 100 99,.mn 101 100 22,.n 102 100 (.un .not (.t 101)),.z 103 (.pick (.t 100) .T (.t 102))] (.cond (.t 103) (.q [.z 12 (.move .F)] .ret) .skip)) (.q [.m 105 15,.m 106 17,.m 107 3,.z 108 (.buildSl 1 1 [(.u 0)] [(0,1,.t 107)]),.z 109 (.w 54 [.t 105,.t 106,.t 108]),.m 104 109,.z 110 (.extract 0 (.t 104)),.z 111 (.extract 1 (.t 104)),.m 23 110,.m 24 111] (.q [.m 112 24,.z 113 (.bin .eql true 35 (.t 112) (.k 0)),.m 114 113,.my 115 114 19,.my 116 114 23,.y 117 114 (.w 32 [.t 115,.t 116]),.z 118 (.pick (.t 114) (.t 117) .F),.m 119 118,.my 120 119 21,.my 121 119 15,.y 122 119 (.w 32 [.t 120,.t 121]),.z 123 (.pick (.t 119) (.t 122) .F),.m 12 123] .ret)))))))))))))
def r_law24_PowerSame:Fu Tryz.prog 12=some ⟨124,z91.r,[.tmp 12]⟩:=by kernel_rfl
def kf (n:UInt64):(Pj n 1).toNat%2=1:=by
 rw[Vj,D7];show (n.toNat ||| 1)%2=1;rw[Nat.or_mod_two_eq_one];exact .inr rfl
def Qs {b m:Nat}(hm:m<2^64)(a:0<m):val [UInt64.ofNat (b%m)]=b%m:=by
 have:=Cm b a;rw[K2];exact Bd (by omega)
def zdn (a x y n:UInt64)(v w:Int)(_:M9 v)(_:M9 w):Gh (.fn 12) [.u a,.u x,.u y,.u n,.i v,.i w] [] fun v _=>v=.bool true:=by
 refine Fo r_law24_PowerSame (by kernel_rfl) (by simp) ?_;simp[z91];refine Fj law24_lives_ok (by simp) ?_;simp;have d:=kf n;have K:(It x 1).toNat=x.toNat/2:=by rw[zmj]
 have L:(It y 1).toNat=y.toNat/2:=by rw[zmj]
 have hm:(S5 a (Pj n 1)).toNat=a.toNat%(Pj n 1).toNat:=by simp[zg,UInt64.toNat_mod]
 have s:Pj n 1≠0:=fun e=>by rw[e] at d;simp at d
 generalize Pj n 1=N at *;generalize It x 1=X at *;generalize It y 1=Y at *;generalize S5 a N=A at *;have M:=N.toNat_lt;have F:=x.toNat_lt;have G:=y.toNat_lt;have o:A.toNat<N.toNat:=by rw[hm];exact Cm _ (by omega)
 refine⟨s,?_⟩;obtain⟨v1,z,hv⟩:=zid v 6 (by omega);obtain⟨H,B,hw⟩:=zid w 6 (by omega);refine Fj hv (by simp) ?_;simp;refine⟨by omega,?_⟩;refine Fj hw (by simp) ?_;simp;refine⟨by omega,?_⟩;have m:∀k:Nat,(k:Int)<6→1≤(iU (1+(k:Int))).toNat∧(iU (1+(k:Int))).toNat≤6:=fun k hk=>by
  rw[show (iU (1+(k:Int))).toNat=k+1 by rw[show (1+(k:Int))=((k+1:Nat):Int) by omega,Ol (by omega)]];omega
 have I:=m v1 z;have C:=m H B;refine z93 (a:=[A]) (b:=[X]) (n:=[N]) rfl rfl rfl (by omega) (by omega) (by omega) I (by simp) (by simp) (by simp) (by rw[K2];exact d) (by rw[K2];omega) (by rw[K2,K2];exact o) (by rw[K2];omega) fun f O f1=>?_
 simp;have E:∀t,t<3→(f++[LObj.dyn [LV.u A] 1 1 0 0,LObj.dyn [LV.u (Y)] 1 1 0 0,LObj.dyn [LV.u N] 1 1 0 0])[f.length+t]?=[LObj.dyn [LV.u A] 1 1 0 0,LObj.dyn [LV.u (Y)] 1 1 0 0,LObj.dyn [LV.u N] 1 1 0 0][t]?:=fun t _=>by rw[Au (by omega),show f.length+t - f.length=t by omega]
 refine z93 (a:=[A]) (b:=[Y]) (n:=[N]) (p:=f.length) (q:=f.length+1) (r:=f.length+2) (E 0 (by omega)) (E 1 (by omega)) (E 2 (by omega)) (by omega) (by omega) (by omega) C (by simp) (by simp) (by simp) (by rw[K2];exact d) (by rw[K2];omega) (by rw[K2,K2];exact o) (by rw[K2];exact Eo _) fun g P f2=>?_
 clear E;simp;have E:∀t,t<3→(g++[LObj.dyn [LV.u A] 1 1 0 0,LObj.dyn [LV.u (Jm X Y)] 1 1 0 0,LObj.dyn [LV.u N] 1 1 0 0])[g.length+t]?=[LObj.dyn [LV.u A] 1 1 0 0,LObj.dyn [LV.u (Jm X Y)] 1 1 0 0,LObj.dyn [LV.u N] 1 1 0 0][t]?:=fun t _=>by rw[Au (by omega),show g.length+t - g.length=t by omega]
 refine z93 (a:=[A]) (b:=[Jm X Y]) (n:=[N]) (p:=g.length) (q:=g.length+1) (r:=g.length+2) (E 0 (by omega)) (E 1 (by omega)) (E 2 (by omega)) (by omega) (by omega) (by omega) C (by simp) (by simp) (by simp) (by rw[K2];exact d) (by rw[K2];omega) (by rw[K2,K2];exact o) (by rw[K2];exact Eo _) fun h Q f3=>?_
 clear E;simp;have E:∀t,t<3→(h++[LObj.dyn [LV.u A] 1 1 0 0,LObj.dyn [LV.u (X)] 1 1 0 0,LObj.dyn [LV.u N] 1 1 0 0])[h.length+t]?=[LObj.dyn [LV.u A] 1 1 0 0,LObj.dyn [LV.u (X)] 1 1 0 0,LObj.dyn [LV.u N] 1 1 0 0][t]?:=fun t _=>by rw[Au (by omega),show h.length+t - h.length=t by omega]
 refine z93 (a:=[A]) (b:=[X]) (n:=[N]) (p:=h.length) (q:=h.length+1) (r:=h.length+2) (E 0 (by omega)) (E 1 (by omega)) (E 2 (by omega)) (by omega) (by omega) (by omega) C (by simp) (by simp) (by simp) (by rw[K2];exact d) (by rw[K2];omega) (by rw[K2,K2];exact o) (by rw[K2];exact Eo _) fun R S f4=>?_
 clear E;simp;refine nl (a:=[LU [UInt64.ofNat (val [A]^val [X]%val [N])],LU [UInt64.ofNat (val [A]^val [Y]%val [N])]]) (b:=[]) Ax ?_;have j:val [N]≠0:=by rw[K2];omega
 have l:val [N]<2^64:=by rw[K2];omega
 have hmul:=zqg [UInt64.ofNat (val [A]^val [X]%val [N])] [UInt64.ofNat (val [A]^val [Y]%val [N])] [N] (by simp) (by simp) (by simp);have D:val [Jm X Y]=val [X]+val [Y]:=by rw[K2,K2,K2,M3,Bs];omega
 rw[mE_p j,mR_p j,Qs l (by omega),Qs l (by omega),←B1,←C9,←D] at hmul;refine Fj hmul (bors_self _ (by simp[LV.dat,dats])) ?_;have J:=Cm (val [A]^val [Jm X Y]) (Nat.pos_of_ne_zero j);have hlen:(Hz (val [A]^val [Jm X Y]%val [N])).length≤1:=qg (by omega);simp[RU];refine Fj (z8v [UInt64.ofNat (val [A]^val [Jm X Y]%val [N])] (Hz (val [A]^val [Jm X Y]%val [N])) (by simp) (by omega)) (bors_self _ (by simp[LV.dat,dats,qu])) ?_;rw[Qs l (by omega),Zw];simp;refine Fj (z8v [UInt64.ofNat (val [A]^val [X]%val [N])] [UInt64.ofNat (val [A]^val [X]%val [N])] (by simp) (by simp)) (bors_self _ (by simp[LV.dat,dats,qu])) ?_;simp
end Go.Proofs.YtodjkjimaheggaaGreat
end
