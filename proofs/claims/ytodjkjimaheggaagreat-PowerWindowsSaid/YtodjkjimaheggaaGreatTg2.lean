/- The templates: see the main text. -/
import Derived.Test.YtodjkjimaheggaaGreatTg1
import Derived.Test.YtodjkjimaheggaaGreatSvG2
noncomputable section
namespace Go.Proofs.YtodjkjimaheggaaGreat
open Go.Sv
set_option linter.unusedSimpArgs false
set_option maxRecDepth 10000
def zby:LC:=(.q [.z 4 (.move (.c .nilSl))] (.q [.m 6 0,.z 7 (.build [(.i 0),(.bool false),(.i 0)] [(0,1,.t 6),(1,1,.T)]),.z 5 (.alloc [(.i 0),(.bool false),(.i 0)]),.v (.store 3 (.t 5) (.t 7))] (.q [.z 8 (.loadN 3 (.t 5)),.m 9 1,.z 10 (.build [(.i 0),(.bool false),(.i 0)] [(0,1,.t 9),(1,1,.T)]),.z 11 (.loadN 3 (.t 5)),.z 12 (.loadN 3 (.t 5)),.z 13 (.buildSl 3 4 [(.i 0),(.bool false),(.i 0),(.i 0),(.bool false),(.i 0),(.i 0),(.bool false),(.i 0),(.i 0),(.bool false),(.i 0)] [(0,3,.t 8),(3,3,.t 10),(6,3,.t 11),(9,3,.t 12)]),.m 4 13] .ret)))
theorem r_law24_four:Fg Tryz.prog 41=some ⟨14,zby.r,[.tmp 4]⟩:=by kernel_rfl
theorem k_law24_four:zby.ok=true:=by kernel_rfl
def zdk:LC:=(.q [.z 2 (.alloc [(.i 0),(.i 0),(.i 0),(.i 0),(.i 0),(.i 0),(.u 0)])] (.q [.m 3 0,.z 4 (.build [(.i 0),(.i 0),(.i 0),(.i 0),(.i 0),(.i 0),(.u 0)] [(0,1,.k 13),(1,1,.k 3),(2,1,.k (-1)),(3,1,.k 0),(4,1,.k 1),(5,1,.k 2),(6,1,.t 3)]),.v (.store 7 (.t 2) (.t 4))] .ret))
theorem r_law24_pow:Fg Tryz.prog 43=some ⟨5,zdk.r,[.cellN 2 7]⟩:=by kernel_rfl
theorem k_law24_pow:zdk.ok=true:=by kernel_rfl
def z8p:LC:=(.q [.z 3 (.box (.t 0)),.z 6 (.alloc [(.i 0),.nilSl,.nilSl])] (.q [.f 10 0 3,.l 11 10,.z 12 (.build [(.i 0),.nilSl,.nilSl] [(0,1,.k 64),(1,1,.t 11)]),.z 7 (.alloc [(.i 0),.nilSl,.nilSl]),.v (.store 3 (.t 7) (.t 12))] (.seq (.q [.z 8 (.move (.k 0))] (.block 0 (.loop (.seq (.q [.m 13 8,.m 14 2,.z 15 (.bin .lss false 3 (.t 13) (.t 14))] (.cond (.t 15) .skip (.exit 0))) (.seq (.block 1 (.ops [.f 18 2 7,.l 19 18,.m 20 8,.z 21 (.build [(.i 0),(.i 0),(.i 0),(.i 0),(.i 0),(.i 0),(.i 0),(.u 0)] [(0,1,.k 16),(1,1,.t 20),(2,1,.k (-1)),(3,1,.k (-1)),(4,1,.k (-1)),(5,1,.k (-1)),(7,1,.c (.u 1))]),.z 22 (.buildSl 8 1 [(.i 0),(.i 0),(.i 0),(.i 0),(.i 0),(.i 0),(.i 0),(.u 0)] [(0,8,.t 21)]),.z 23 (.appG 8 (.t 19) (.t 22)),.f 24 2 7,.v (.store 1 (.t 24) (.t 23))])) (.ops [.m 16 8,.z 17 (.bin .add true 3 (.t 16) (.k 1)),.m 8 17])))))) (.q [.f 25 2 7,.l 26 25,.m 27 1,.z 28 (.appG 8 (.t 26) (.t 27)),.f 29 2 7,.v (.store 1 (.t 29) (.t 28))] (.seq (.q [.z 9 (.move (.k 0))] (.block 2 (.loop (.seq (.q [.m 30 9,.m 31 2,.z 32 (.bin .lss false 3 (.t 30) (.t 31))] (.cond (.t 32) .skip (.exit 2))) (.seq (.block 3 (.ops [.f 35 2 7,.l 36 35,.z 37 (.build [(.i 0),(.i 0),(.i 0),(.i 0),(.i 0),(.i 0),(.i 0),(.u 0)] [(0,1,.k 17),(1,1,.k (-1)),(2,1,.k (-1)),(3,1,.k (-1)),(4,1,.k (-1)),(5,1,.k (-1))]),.z 38 (.buildSl 8 1 [(.i 0),(.i 0),(.i 0),(.i 0),(.i 0),(.i 0),(.i 0),(.u 0)] [(0,8,.t 37)]),.z 39 (.appG 8 (.t 36) (.t 38)),.f 40 2 7,.v (.store 1 (.t 40) (.t 39))])) (.ops [.m 33 9,.z 34 (.bin .add true 3 (.t 33) (.k 1)),.m 9 34])))))) (.q [.z 41 (.loadN 3 (.t 7)),.v (.store 3 (.t 6) (.t 41))] .ret))))))
theorem r_law24_program:Fg Tryz.prog 52=some ⟨42,z8p.r,[.cellN 6 3]⟩:=by kernel_rfl
theorem k_law24_program:z8p.ok=true:=by kernel_rfl
def zbe:LC:=(.q [.z 2 (.box (.t 0)),.z 4 (.move (.c .nilSl))] (.q [.z 5 (.move (.c .nilSl))] (.seq (.q [.z 6 (.move (.k 0))] (.block 0 (.loop (.seq (.q [.m 7 6,.f 8 0 2,.l 9 8,.z 10 (.lenSl (.t 9)),.z 11 (.bin .lss false 3 (.t 7) (.t 10))] (.cond (.t 11) .skip (.exit 0))) (.seq (.block 1 (.draw [(.m 14 5,[]),(.z 15 (.buildSl 1 0 [] []),[]),(.m 16 1,[]),(.m 18 6,[]),(.z 19 (.cvInt .u64 (.t 18)),[]),(.z 20 (.bin .mul true 23 (.t 19) (.c (.u 1234567891011))),[]),(.z 21 (.buildSl 1 1 [(.u 0)] [(0,1,.t 20)]),[(.z 15 (.buildSl 1 0 [] []),true)]),(.f 23 0 2,[]),(.l 24 23,[]),(.m 25 6,[]),(.z 26 (.ixAddr 3 (.t 24) (.t 25)),[]),(.f 27 0 26,[]),(.l 28 27,[]),(.z 17 (.appG 1 (.t 15) (.t 16)),[(.l 28 27,false),(.l 24 23,false),(.z 21 (.buildSl 1 1 [(.u 0)] [(0,1,.t 20)]),true)]),(.z 22 (.appG 1 (.t 17) (.t 21)),[(.l 28 27,false),(.l 24 23,false)]),(.z 29 (.w 26 [.t 22,.t 28]),[]),(.z 30 (.buildSl 1 1 [.nilSl] [(0,1,.t 29)]),[]),(.z 31 (.appG 1 (.t 14) (.t 30)),[]),(.m 5 31,[])])) (.ops [.m 12 6,.z 13 (.bin .add true 3 (.t 12) (.k 1)),.m 6 13])))))) (.q [.m 32 5,.m 4 32] .ret))))
theorem r_law24_rows:Fg Tryz.prog 101=some ⟨33,zbe.r,[.tmp 4]⟩:=by kernel_rfl
theorem k_law24_rows:zbe.ok=true:=by kernel_rfl
def z9j:LC:=(.q [.z 12 (.move (.c .nilSl)),.z 13 (.move .F)] (.q [.m 27 0,.m 28 1,.z 29 (.w 41 [.t 27,.t 28]),.m 14 29] (.q [.m 30 14,.m 31 2,.z 32 (.w 43 [.t 31]),.z 33 (.w 42 [.t 30,.t 32]),.m 15 33] (.seq (.q [.m 34 15,.z 35 (.bin .lss true 3 (.t 34) (.k 1))] (.cond (.t 35) (.q [.z 12 (.move (.c .nilSl)),.z 13 (.move .F)] .ret) .skip)) (.q [.m 36 14,.m 37 15,.z 38 (.w 19 [.t 36,.t 37]),.z 16 (.alloc [.nilSl,.nilSl,(.i 0),(.i 0),(.i 0),(.i 0),(.i 0),(.i 0)]),.v (.store 8 (.t 16) (.t 38))] (.seq (.draw [(.m 40 14,[]),(.m 41 2,[]),(.z 43 (.loadN 8 (.t 16)),[]),(.z 42 (.w 43 [.t 41]),[(.z 43 (.loadN 8 (.t 16)),false)]),(.z 44 (.w 44 [.t 40,.t 42,.t 43,.k 0]),[]),(.m 39 44,[]),(.z 45 (.extract 0 (.t 39)),[]),(.z 46 (.extract 1 (.t 39)),[]),(.m 17 45,[]),(.m 18 46,[])]) (.q [.z 47 (.loadN 8 (.t 16)),.z 48 (.buildSl 1 1 [(.u 0)] [(0,1,.c (.u 3))]),.z 49 (.w 101 [.t 47,.t 48]),.m 19 49] (.seq (.q [.m 50 3,.m 51 4,.m 52 5,.z 53 (.buildSl 1 3 [.nilSl,.nilSl,.nilSl] [(0,1,.t 50),(1,1,.t 51),(2,1,.t 52)]),.z 54 (.lenSl (.t 53)),.z 55 (.move (.k 0))] (.block 0 (.loop (.q [.z 56 (.bin .lss false 3 (.t 55) (.t 54))] (.seq (.cond (.t 56) .skip (.exit 0)) (.seq (.block 1 (.q [.m 57 55,.z 58 (.ixAddr 1 (.t 53) (.t 55)),.l 59 58,.m 20 57,.m 21 59] (.q [.m 61 21,.m 62 14,.m 63 20,.z 64 (.ixAddr 3 (.t 62) (.t 63)),.f 65 0 64,.l 66 65,.z 67 (.w 95 [.t 61,.t 66]),.m 60 67,.z 68 (.extract 0 (.t 60)),.z 69 (.extract 1 (.t 60)),.m 22 68,.m 23 69] (.seq (.q [.m 70 23,.z 71 (.bin .neq true 35 (.t 70) (.k 0))] (.cond (.t 71) (.q [.z 12 (.move (.c .nilSl)),.z 13 (.move .F)] .ret) .skip)) (.ops [.m 72 19,.m 73 20,.m 74 22,.z 75 (.ixAddr 1 (.t 72) (.t 73)),.v (.store 1 (.t 75) (.t 74))]))))) (.ops [.z 76 (.bin .add true 3 (.t 55) (.k 1)),.m 55 76]))))))) (.q [.z 78 (.loadN 8 (.t 16)),.m 79 17,.z 80 (.w 52 [.t 78,.t 79,.k 0]),.m 81 19,.z 82 (.w 29 [.t 80,.t 81]),.m 77 82,.z 83 (.extract 0 (.t 77)),.z 84 (.extract 1 (.t 77)),.z 85 (.extract 2 (.t 77)),.m 24 83,.m 25 84,.m 26 85] (.seq (.q [.m 86 18,.z 87 (.bin .neq true 35 (.t 86) (.k 0)),.m 88 87,.mn 89 88 26,.n 90 88 (.bin .neq true 35 (.t 89) (.k 0)),.z 91 (.pick (.t 88) .T (.t 90))] (.cond (.t 91) (.q [.z 12 (.move (.c .nilSl)),.z 13 (.move .F)] .ret) .skip)) (.q [.m 92 24,.z 93 (.ixAddr 1 (.t 92) (.k 3)),.l 94 93,.m 12 94,.z 13 (.move .T)] .ret)))))))))))
theorem r_law24_raised:Fg Tryz.prog 48=some ⟨95,z9j.r,[.tmp 12,.tmp 13]⟩:=by kernel_rfl
theorem k_law24_raised:z9j.ok=true:=by kernel_rfl
theorem zgj {bs:List Bf}{P:LV}{W:List LV}{L:List Lo}{deep:Nat}(hd:deep≤100)(Q:L.length≤1000000)(J:∃a b c d e f,W=[.i a,.i b,.i c,.i d,.i e,.i f]) :
  Ib Tryz.prog 52 [.agg (.lst (Gb bs) bs.length 3::P::W),.lst (Gf L) L.length 8,.i deep] (.agg (Fb ((64:Nat):Int) bs (Ih deep 0++(L++List.replicate deep Oa)))):=by
 obtain⟨R,S,T,U,V,w6,rfl⟩:=J;refine Ib.mk (by simp[LV.dat,ztg]) (E8 r_law24_program k_law24_program (by simp) ?_);simp[z8p];refine Iy (fun ρ D G N=>∃(i st s1:Nat) (v:LV),D=[]∧N+i=deep∧lk ρ 1=.lst (Gf L) L.length 8∧lk ρ 2=.i deep∧lk ρ 6=.ptr 1 0∧lk ρ 7=.ptr 2 0∧lk ρ 8=.i i∧3≤G.length∧G[1]?=some (.cells [.i 0,.nilSl,.nilSl] s1)∧G[2]?=some (.cells [.i 64,.lst (Gb bs) bs.length 3,v] st)∧H8 3 G v 8 (Ih i 0).length (Gf (Ih i 0))) (N:=deep)
  ⟨0,1,0,.nilSl,rfl,by omega,by simp,by simp,by simp,by simp,by simp,by simp,by simp,by simp,H8.nil⟩ ?_
 rintro N ρ D G ⟨i,st,s1,v,rfl,K,B,w,x,r,C,F,g1,g2,hv⟩ H y;by_cases g:i<deep
 ·have X:(i:Int)<deep:=by omega
  simp[B,w,x,r,C,g2,g];refine hv.push_end.push (c:=1) (by omega) (by simp;omega) (by rw[lpsL_len];omega) (by simp) rfl fun z I h l s=>?_
  have m:=(l 2 (by omega)).trans ((E5 (by omega)).trans g2);have o:=(l 1 (by omega)).trans ((E5 (by omega)).trans g1);have p:=h.cells;simp[-LV.cells,p,r,m,C];refine⟨by omega,y _ _ _ ⟨N - 1,by omega,i+1,st+1,s1,z,rfl,by omega,by simp[B],by simp[w],by simp[x],by simp[r],by simp,by simp at s ⊢;omega,?_,?_,?_⟩⟩
  ·rw[Ad (by omega)];exact o
  ·exact Ah (Aa.1 m).1
  ·rw[lpsL_snoc,Aj,zmx,Int.zero_add];exact h.set_lt (by omega)
 ·have hi:i=deep:=by omega
  subst hi;simp[B,w,x,r,C,g2];refine⟨by omega,?_⟩;refine hv.push (c:=L.length) (by omega) (by omega) (by rw[lpsL_len];omega) (zz8 L) (Ju L) fun z I h l s=>?_
  have m:=(l 2 (by omega)).trans g2;have o:=(l 1 (by omega)).trans g1;have p:=h.cells;simp[-LV.cells,p,r,m];have A:=(Aa.1 m).1;refine Iy (fun ρ D G N=>∃(j st s1:Nat) (v:LV),D=[]∧N+j=i∧lk ρ 2=.i i∧lk ρ 6=.ptr 1 0∧lk ρ 7=.ptr 2 0∧lk ρ 9=.i j∧3≤G.length∧G[1]?=some (.cells [.i 0,.nilSl,.nilSl] s1)∧G[2]?=some (.cells [.i 64,.lst (Gb bs) bs.length 3,v] st)∧H8 3 G v 8 (Ih i 0++(L++List.replicate j Oa)).length (Gf (Ih i 0++(L++List.replicate j Oa)))) (N:=i)
   ⟨0,st+1,s1,z,rfl,by omega,by simp[w],by simp[x],by simp[r],by simp,by simp;omega,?_,Ah A,?_⟩ ?_
  ·rw[Ad (by omega)];exact o
  ·simp only[List.replicate_zero,Bx,Aj];rw[zmx];exact h.set_lt (by omega)
  clear B w x r C F g1 g2 hv m o A h l s p y H;rintro N ρ D G ⟨j,st,s1,v,rfl,K,w,x,r,E,F,g1,g2,hv⟩ H y;by_cases g:j<i
  ·simp[w,x,r,E,g2,g];refine hv.push_end.push (c:=1) (by omega) (by simp;omega) (by simp[lpsL_len];omega) (by simp) rfl fun z I h l s=>?_
   have m:=(l 2 (by omega)).trans ((E5 (by omega)).trans g2);have o:=(l 1 (by omega)).trans ((E5 (by omega)).trans g1);have p:=h.cells;simp[-LV.cells,p,r,m,E];refine⟨by omega,y _ _ _ ⟨N - 1,by omega,j+1,st+1,s1,z,rfl,by omega,by simp[w],by simp[x],by simp[r],by simp,by simp at s ⊢;omega,?_,?_,?_⟩⟩
   ·rw[Ad (by omega)];exact o
   ·exact Ah (Aa.1 m).1
   ·rw[show Ih i 0++(L++List.replicate (j+1) Oa)=(Ih i 0++(L++List.replicate j Oa))++[Oa] by rw[List.replicate_succ'];simp,Aj,zmx];exact h.set_lt (by omega)
  ·have M:j=i:=by omega
   subst M;have O:=(hv.set_lt (q:=1) (ob:=.cells [.i 64,.lst (Gb bs) bs.length 3,v] (s1+1)) (by omega)).bor;simp[-Hg,w,x,r,E,g2,g1];rw[Ah (Aa.1 g1).1];refine⟨by simp,_,_,rfl,⟨rfl,rfl⟩,_,_,rfl,⟨rfl,by simp[LV.dat,Jn]⟩,_,_,rfl,O,rfl⟩
theorem zv4 {bs:List Bf}{M:LV}{O P Q R S w6:Int}{fill:List UInt64}{d:Ev}{K:LV→Ev→Prop}(Z:∀b∈bs,0≤b.size∧b.size≤1000000)(hb:bs.length≤1000)(aa:fill.length≤1000)
  (kk:∀(X:List (List UInt64)) (p l st:Nat) (G':Ev),X.length=bs.length→(∀i,i<bs.length→((X.getD i []).length:Int)=(Fk bs i).size)→(∀q,q<d.length→G'[q]?=d[q]?)→d.length≤p→d.length≤G'.length→bs≠[]→G'[p]?=some (.dyn (X.map LU) X.length 1 l st)→K (.dy p l) G') (r:bs≠[]) :
  Fh Tryz.prog (.fn 101) [.agg [.lst (Gb bs) bs.length 3,M,.i O,.i P,.i Q,.i R,.i S,.i w6],.lst (fill.map .u) fill.length 1] d K:=by
 refine E8 r_law24_rows k_law24_rows (by simp) ?_;simp[zbe];refine Iy (fun ρ D G N=>∃(i s0:Nat) (v:LV) (X:List (List UInt64)),D=[]∧N+i=bs.length∧lk ρ 1=.lst (fill.map .u) fill.length 1∧lk ρ 2=.ptr d.length 0∧lk ρ 5=v∧lk ρ 6=.i i∧d.length<G.length∧(∀q,q<d.length→G[q]?=d[q]?) ∧
   G[d.length]?=some (.cells [.lst (Gb bs) bs.length 3,M,.i O,.i P,.i Q,.i R,.i S,.i w6] s0)∧X.length=i∧(∀j,j<i→((X.getD j []).length:Int)=(Fk bs j).size)∧H8 (d.length+1) G v 1 i (X.map LU)) (N:=bs.length)
  ⟨0,0,.nilSl,[],rfl,by omega,by simp,by simp,by simp,by simp,by simp,fun q o=>Aq o,by simp,rfl,fun j h=>by omega,H8.nil⟩ ?_
 rintro N ρ D G ⟨i,s0,v,X,rfl,hN,T,E,U,H,s,w,m,f,V,W⟩ Nx I;by_cases g:i<bs.length
 ·have q0:=Yn (Kl g);have o:=Zc g;have hz:=Z _ (A7 (Kl g));have pp:∀x:List LObj,(G++x)[d.length]?=_:=fun x=>(E5 s).trans m
  simp[T,E,U,H,m,↓pp,g,Fv q0];refine⟨by omega,by omega,?_⟩;obtain⟨z,y⟩:=Af hz.1;rw[y];generalize K7 (iU ↑i) 1234567891011=a;have o1:(G++[LObj.dyn (fill.map .u++[.u a]) (fill.length+1) 1 2 2,LObj.dyn [.u a] 1 1 0 0])[G.length]?=some (.dyn ((fill++[a]).map .u) (fill++[a]).length 1 2 2):=by
   rw[Au (Am _),Ej];simp
  have Y:=fun q (o:q<G.length)=>(E5 (x:=[LObj.dyn (fill.map .u++[.u a]) (fill.length+1) 1 2 2,LObj.dyn [.u a] 1 1 0 0]) o)
  have o3:=W.push_end (ob:=[LObj.dyn (fill.map .u++[.u a]) (fill.length+1) 1 2 2,LObj.dyn [.u a] 1 1 0 0]);have o4:(G++[LObj.dyn (fill.map .u++[.u a]) (fill.length+1) 1 2 2,LObj.dyn [.u a] 1 1 0 0]).length=G.length+2:=by simp
  generalize G++[LObj.dyn (fill.map .u++[.u a]) (fill.length+1) 1 2 2,LObj.dyn [.u a] 1 1 0 0]=GA at *;refine E9 (zrw (fill++[a]) z (by omega) (by simp;omega) (by simp)) ⟨_,_,rfl,⟨_,_,_,_,rfl,o1,zkl _⟩,_,_,rfl,⟨rfl,rfl⟩,rfl⟩ ?_;have A:=zol (fill++[a]) z;generalize zv8 (fill++[a]) z=F at *;simp[RU];refine H8.push (c:=1) (x:=[LU F]) (o3.push_end) (by omega) (by simp;omega) (by omega) rfl (by simp[dats,LV.dat,zkl]) fun v' G' J B L=>?_
  simp at L;simp[H];refine⟨by omega,I _ _ _ ⟨N - 1,by omega,i+1,s0,v',X++[F],rfl,by omega,by simp[T],by simp[E],by simp,by simp,by omega,?_,?_,by simp[f],?_,?_⟩⟩
  ·intro q o;rw[B q (by omega),E5 (by omega),Y q (by omega)];exact w q o
  ·rw[B _ (by omega),E5 (by omega),Y _ s];exact m
  ·intro j hj;by_cases e:j=i
   ·subst e;rw[Ae,←f,Ax,f,y];simp[A]
   ·rw[Ae,Aq (by omega),←Ae];exact V j (by omega)
  ·rw[D3];exact J
 ·have gi:i=bs.length:=by omega
  subst gi;obtain⟨_,_,⟨_,e0,_⟩ | ⟨p,l,st,hp,rfl,C⟩⟩:=W
  ·exact absurd (A0 e0) r
  simp[E,U,H,m];exact kk X p l st G f (fun i hi=>V i hi) w (by omega) (by omega) r (by rw[f];exact C)
theorem zlq (n m:Int):Ib Tryz.prog 41 [.i n,.i m] (.lst (H6 [⟨n,true,0⟩,⟨m,true,0⟩,⟨n,true,0⟩,⟨n,true,0⟩]) 4 3):=by
 refine Ib.mk (by simp[LV.dat,Lu]) (E8 r_law24_four k_law24_four (by simp) ?_);simp[zby,H6,Vr.f]
def He (w:UInt64):Ko:=⟨13,3,-1,0,1,2,w⟩
theorem zg5 (w:UInt64):Fq Tryz.prog 43 [.u w] (.agg (He w).f) []:=by
 refine Fq.val rfl (E8 r_law24_pow k_law24_pow (by simp) ?_);simp[zdk,He,Ko.f]
def Gw:List Vr:=[⟨1,true,0⟩,⟨1,true,0⟩,⟨1,true,0⟩,⟨1,true,0⟩]
theorem w_six {w:UInt64}(hw:1≤w.toNat∧w.toNat≤6):w=1∨w=2∨w=3∨w=4∨w=5∨w=6:=by
 have h:w.toNat=1∨w.toNat=2∨w.toNat=3∨w.toNat=4∨w.toNat=5∨w.toNat=6:=by omega
 rcases h with h | h | h | h | h | h
 ·exact .inl (Bq.1 h)
 ·exact .inr (.inl (Bq.1 h))
 ·exact .inr (.inr (.inl (Bq.1 h)))
 ·exact .inr (.inr (.inr (.inl (Bq.1 h))))
 ·exact .inr (.inr (.inr (.inr (.inl (Bq.1 h)))))
 ·exact .inr (.inr (.inr (.inr (.inr (Bq.1 h)))))
theorem pw1 {w:UInt64}(hw:1≤w.toNat∧w.toNat≤6):PwV Gw (He w) 3 0 1 2:=by
 have ho:Gu Gw (He w)=true:=by rcases w_six hw with rfl | rfl | rfl | rfl | rfl | rfl<;>decide +kernel
 obtain⟨d,a,b,c,h⟩:=pwV (vs:=Gw) (o:=He w) rfl (by decide +kernel) ho;have f:=h.fd.1;have g:=h.fa.1;have j:=h.fb.1;have l:=h.fc.1;simp only[He] at f g j l;have f1:d=3:=by omega
 have f2:a=0:=by omega
 have f3:b=1:=by omega
 have f4:c=2:=by omega
 subst f1 f2 f3 f4;exact h
theorem zfw {i:Nat}(hi:i<4):gv Gw i=⟨1,true,0⟩:=by
 have h:i=0∨i=1∨i=2∨i=3:=by omega
 rcases h with rfl | rfl | rfl | rfl<;>rfl
theorem pl1 {w:UInt64}(hw:1≤w.toNat∧w.toNat≤6):PwL Gw (He w):=by
 refine⟨by simp[Gw],fun i hi=>by rw[zfw (by simpa [Gw] using hi)],?_⟩;rw[zs5 (pw1 hw)];have a:=Te hw.2;have e:(He w).imm=w:=rfl;rw[zfw (by omega),zfw (by omega),e];simp only;omega
theorem zj5 {w:UInt64}{a b n:List UInt64}(hw:1≤w.toNat∧w.toNat≤6)(ha:a.length≤1000)(hb:b.length≤1000)(hn:n.length≤1000)(ho:val n%2=1)(y:val n<2^(64*(0+1)))(O:val a<val n)(aE:val b<2^(64*(0+1))) :
  Ib Tryz.prog 48 [.i 1,.i 1,.u w,LU a,LU b,LU n] (.tup [LU [UInt64.ofNat (val a^val b%val n)],.bool true]):=by
 refine Ib.mk (by simp[LV.dat,dats,zkl]) (E8 r_law24_raised k_law24_raised (by simp) ?_);have hV:=pw1 hw;have hL:=pl1 hw;obtain⟨aF,_,_⟩:=zj1 hV;have aG:=ze9 Gw (He w) (by simp[Gw]);have Q:=zq8 Gw (Gy Gw (He w)) (by simp[Gw]);have d:=zm2 Gw (He w) (Iw Gw (Gy Gw (He w))) (Mi Gw) ⟨Gw.length,0,Gy Gw (He w)⟩ ⟨(Gw.length:Int)+1,0,Gy Gw (He w)⟩ 0 (by simp[Gw]) (by rw[plB_len];simp[Gw]);have R:=W5 (deep:=0) hV hL (by omega);unfold Qz zxl at d;rw[Ag R,Ag R] at d;have aH:Kg Gw (He w) (Mi Gw) ⟨Gw.length,0,Gy Gw (He w)⟩ ⟨(Gw.length:Int)+1,0,Gy Gw (He w)⟩=Gv Gw (He w):=rfl;rw[aH] at d;have aI:Nb Gw++[⟨Gy Gw (He w),2,false⟩,⟨Gy Gw (He w),2,true⟩]=Iw Gw (Gy Gw (He w)):=rfl;rw[aI] at Q;have aJ:=hL.w;have q:=fun X hX=>zvx (deep:=0) hV hL (by rw[zfw (by omega)];simp) (by rw[zfw (by omega)]) (by omega) (X:=X) (Y:=X) hX hX
 have aK:∀i,i<4→(Fk (Iw Gw (Gy Gw (He w))) i).size=1:=fun i hi=>by rw[Z4 (by simpa [Gw] using hi),zfw hi]
 have U:=zqv (vs:=Gw) (W:=Gy Gw (He w)) (by decide +kernel) ⟨aF,aJ⟩;have V:(Iw Gw (Gy Gw (He w))).length=6:=by rw[plB_len];rfl
 have aL:=zsb (p:=Gv Gw (He w)) (D:=0);have a0:Lz Gw 3=5:=rfl;have z:(Gv Gw (He w)).prog 0=(Gv Gw (He w)).code 0:=rfl;rw[z] at q;have K:(He w).f=[.i 13,.i 3,.i (-1),.i 0,.i 1,.i 2,.u w]:=rfl;generalize a1:Gy Gw (He w)=W at *;generalize a2:Iw Gw W=bs at *;generalize a3:((Gv Gw (He w)).code 0)=T at *;have m:Iv bs (Mi Gw) ⟨Gw.length,0,W⟩ ⟨(Gw.length:Int)+1,0,W⟩=[.lst (Gb bs) bs.length 3,.lst (Pj (Mi Gw)) (Mi Gw).length 3,.i 4,.i 0,.i W,.i 5,.i 0,.i W]:=rfl;simp[z9j];refine L8 (zlq 1 1) (by simp[dats,LV.dat]) ?_;have hv:[(⟨1,true,0⟩:Vr),⟨1,true,0⟩,⟨1,true,0⟩,⟨1,true,0⟩]=Gw:=rfl;rw[hv];simp;refine E9 (zg5 w) (by simp) ?_;simp[K];rw[←K];refine E9 aG (bors_self _ (by simp[dats,LV.dat,Lu,K])) ?_;have g1:¬W<1:=by omega
 simp[g1];refine L8 Q (by simp[dats,LV.dat,Lu]) ?_;simp[m];refine E9 (zg5 w) (by simp) ?_;simp[K];rw[←K,←m];refine L8 d (by simp[dats,LV.dat,Lu,zcf,K]) ?_;simp[m];refine zab (a:=[.agg [.lst (Gb bs) bs.length 3,.lst (Pj (Mi Gw)) (Mi Gw).length 3,.i 4,.i 0,.i W,.i 5,.i 0,.i W]]) (b:=[]) (p:=1) rfl ?_;refine zv4 (fill:=[3]) (bs:=bs) (fun b hb=>by have:=U b hb;omega) (by omega) (by simp) (fun X p Z st G' a4 aM aa hp aN _ ad=>?_) (fun e=>by rw[e] at V;simp at V);have af:X.length=6:=by omega
 have aO:G'[0]?=_:=(aa 0 (by simp)).trans (by simp;rfl);simp only[Ce,Ar,Bc] at hp aN;clear aa;simp;have r:∀j,j<3→val (([a,b,n]:List (List UInt64)).getD j [])<2^(64*(0+1)):=fun j M=>by
  have h:j=0∨j=1∨j=2:=by omega
  rcases h with rfl | rfl | rfl
  ·exact Nat.lt_trans O y
  ·exact aE
  ·exact y
 have A:∀j,j<3→(([a,b,n]:List (List UInt64)).getD j []).length≤1000:=fun j M=>by
  have h:j=0∨j=1∨j=2:=by omega
  rcases h with rfl | rfl | rfl
  ·exact ha
  ·exact hb
  ·exact hn
 have ag:p<G'.length:=(Aa.1 ad).1;refine Iy (fun ρ D G N=>∃(i B:Nat) (Y:List (List UInt64)),D=[]∧N+i=3∧lk ρ 14=.lst (H6 Gw) 4 3∧lk ρ 16=.ptr 0 0∧lk ρ 17=.lst (Gf T.flat) T.flat.length 8∧lk ρ 18=.i 0∧lk ρ 19=.dy p Z∧lk ρ 53=.dy G'.length 0∧lk ρ 54=.i 3∧lk ρ 55=.i i∧G.length=G'.length+1 ∧
   G[0]?=some (.cells (Iv bs (Mi Gw) ⟨Gw.length,0,W⟩ ⟨(Gw.length:Int)+1,0,W⟩) 1)∧G[p]?=some (.dyn (Y.map LU) 6 1 Z B)∧G[G'.length]?=some (.dyn (([a,b,n]:List (List UInt64)).map LU) 3 1 0 0)∧Y.length=6∧(∀j,j<bs.length→((Y.getD j []).length:Int)=(Fk bs j).size)∧∀j,j<i→j<3→Y.getD j []=K0 (([a,b,n]:List (List UInt64)).getD j []) 1) (N:=3)
  ⟨0,st,X,rfl,rfl,by simp,by simp,by simp,by simp,by simp,by simp,by simp,by simp,by simp,(E5 (by omega)).trans aO,by rw[E5 ag,ad,af],Ax,af,aM,fun j h=>by omega⟩ ?_
 rintro N ρ D G ⟨i,B,Y,rfl,hN,ah,aj,ao,C,E,ap,H,I,aq,ar,aw,ax,J,ay,o⟩ Nx aP;by_cases g:i<3
 ·have g':(i:Int)<3:=by omega
  have hS:=r i g;have a5:=A i g;generalize az:([a,b,n]:List (List UInt64)).getD i []=S at *;have aQ:([LV.lst (a.map .u) a.length 1,.lst (b.map .u) b.length 1,.lst (n.map .u) n.length 1])[i]?=some (LU S):=by
   show (([a,b,n]:List (List UInt64)).map LU)[i]?=some (LU S);rw[Cc,Ai (by simpa using g),←az,Ae,Ai (by simpa using g)];rfl
  have aR:(H6 Gw)[i*3]?=some (.i 1):=by
   have h:=zp5 (Nj (l:=Gw) (n:=i) (by simp[Gw];omega));rw[zfw (by omega)] at h;exact h
  have s:J8 S 1=0:=by
   have:=Xg (k:=0) hS (by omega);simpa using this
  simp[ah,ap,H,I,g,g',ax,Fv aQ,Fv aR,show i<4 by omega];refine⟨by omega,?_⟩;refine E9 (znv S 1 (by omega)) (by simp) ?_;have aS:=zr8 s;rw[s];generalize aT:K0 S 1=F at *;have aU:i<6:=by omega
  have x:=zla LU Y i F (by omega);simp only[LU] at x;have aV:i≤5:=by omega
  simp[E,I,aw,RU,aU,aV,J];refine⟨by omega,by omega,aP _ _ _ ⟨N - 1,by omega,i+1,B+1,Y.set i F,rfl,by omega,by simp[ah],by simp[aj],by simp[ao],by simp[C],by simp[E],by simp[ap],by simp[H],by simp,by simp[aq],?_,?_,?_,by simp[J],?_,?_⟩⟩
  ·rw[Ad (by omega)];exact ar
  ·rw[Ah (by omega)];rw[←x]
  ·rw[Ad (by omega)];exact ax
  ·intro j M;rw[S9 _ _ _ _ _ (by omega)];by_cases e:j=i
   ·rw[Ag e,e,aK i (by omega)];exact aS.1
   ·rw[Ac e];exact ay j M
  ·intro j M aW;rw[S9 _ _ _ _ _ (by omega)];by_cases e:j=i
   ·rw[Ag e,e,az,aT]
   ·rw[Ac e];exact o j (by omega) aW
 ·have gi:i=3:=by omega
  subst gi;have y0:=o 0 (by omega) (by omega);have y1:=o 1 (by omega) (by omega);have y2:=o 2 (by omega) (by omega);have fv:∀j,j<3→val (K0 (([a,b,n]:List (List UInt64)).getD j []) 1)=val (([a,b,n]:List (List UInt64)).getD j []):=fun j M=>Vk (by have:=Xg (k:=0) (r j M) (by omega);simpa using this)
  have v0:val (Y.getD 0 [])=val a:=by rw[y0];exact fv 0 (by omega)
  have v1:val (Y.getD 1 [])=val b:=by rw[y1];exact fv 1 (by omega)
  have v2:val (Y.getD 2 [])=val n:=by rw[y2];exact fv 2 (by omega)
  obtain⟨sX,sY,r1,_,_,_,r5,r6,r7,_⟩:=q Y ⟨by omega,ay⟩;have aA:(Y.getD 2 []).getD 0 0%2=1:=by
   have h:=U3 (Y.getD 2 []);have h2:U2 (Y.getD 2 [])=true:=by rw[h,v2,Nat.testBit_zero];exact B4 ho
   unfold U2 at h2;exact C8 h2
  have hv:=r6 aA (by rw[v0,v2];exact O);rw[v0,v1,v2] at hv;rw[zfw (by omega)] at r5;have a6:sX.bufs.length=6:=r1;have aX:sX.bufs.getD 3 []=[UInt64.ofNat (val a^val b%val n)]:=by
   have aY:val a^val b%val n<2^64:=Nat.lt_trans (Df _ (by omega)) y;refine val_inj_length (by rw[r5];rfl) ?_;rw[hv];simp[val,Bg aY]
  have aB:=zgj (bs:=bs) (P:=.lst (Pj (Mi Gw)) (Mi Gw).length 3) (W:=[.i 4,.i 0,.i W,.i 5,.i 0,.i W]) (L:=T.flat) (deep:=0) (by omega) (by omega) ⟨_,_,_,_,_,_,rfl⟩;simp[Ih] at aB;simp[aj,ao,C,H,I,ar,m];refine L8 aB (by simp[dats,LV.dat,Jn,zei,Ju]) ?_;simp[E];refine zab (a:=[.agg (Fb 64 bs T.flat)]) (b:=[]) aw ?_;have aZ:LV.lst (Y.map LU) 6 1=LN Y:=by rw[LN,J]
  rw[aZ];refine L8 r7 (by simp[dats,LV.dat,Ju,Jn,Fb,zkl]) ?_;have aC:3<sX.bufs.length:=by omega
  have aD:(3:Int)<sX.bufs.length:=by omega
  have h3:sX.bufs[3]=[UInt64.ofNat (val a^val b%val n)]:=by rw[←aX,Ae,Ai aC];rfl
  simp[C,zyq,aC,aD,h3]
def zaa:LC:=(.q [.z 0 (.move .F)] (.q [.z 6 (.w 45 [(.k 1),.k 5]),.m 5 6,.z 7 (.extract 0 (.t 5)),.z 8 (.extract 1 (.t 5)),.m 1 7,.m 2 8] (.q [.z 10 (.buildSl 1 1 [(.u 0)] [(0,1,.c (.u 3))]),.z 11 (.buildSl 1 1 [(.u 0)] [(0,1,.c (.u 4))]),.z 12 (.buildSl 1 1 [(.u 0)] [(0,1,.c (.u 7))]),.z 13 (.w 48 [(.k 1),.k 1,.c (.u 2),.t 10,.t 11,.t 12]),.m 9 13,.z 14 (.extract 0 (.t 9)),.z 15 (.extract 1 (.t 9)),.m 3 14,.m 4 15] (.q [.m 16 1,.z 17 (.bin .eql true 3 (.t 16) (.k 13)),.m 18 17,.my 19 18 2,.y 20 18 (.bin .eql true 3 (.t 19) (.k 1)),.z 21 (.pick (.t 18) (.t 20) .F),.m 22 21,.my 23 22 4,.z 24 (.pick (.t 22) (.t 23) .F),.m 25 24,.my 26 25 3,.y 27 25 (.buildSl 1 1 [(.u 0)] [(0,1,.c (.u 4))]),.y 28 25 (.w 32 [.t 26,.t 27]),.z 29 (.pick (.t 25) (.t 28) .F),.m 0 29] .ret))))
theorem r_law24_lives:ztr Tryz.prog 40=some ⟨30,zaa.r,[.tmp 0]⟩:=by kernel_rfl
theorem k_law24_lives:zaa.ok=true:=by kernel_rfl
theorem zu6 {w:UInt64}{a b n:List UInt64}{p q r sp h j:Nat}{G:Ev}{K:LV→Ev→Prop}(l:G[p]?=some (.dyn (a.map .u) a.length 1 0 sp))(m:G[q]?=some (.dyn (b.map .u) b.length 1 0 h))(o:G[r]?=some (.dyn (n.map .u) n.length 1 0 j))(s:p≠q)(y:p≠r)(qr:q≠r)
  (hw:1≤w.toNat∧w.toNat≤6) (z:a.length≤1000) (A:b.length≤1000) (B:n.length≤1000) (ho:val n%2=1) (d:val n<2^(64*(0+1))) (f:val a<val n) (g:val b<2^(64*(0+1)))
  (C:∀G',G'.length=G.length→(∀x,x≠p→x≠q→x≠r→G'[x]?=G[x]?)→K (.tup [LU [UInt64.ofNat (val a^val b%val n)],.bool true]) G'):Fh Tryz.prog (.fn 48) [.i 1,.i 1,.u w,.dy p 0,.dy q 0,.dy r 0] G K:=by
 refine zab (a:=[.i 1,.i 1,.u w]) (b:=[.dy q 0,.dy r 0]) l ?_;refine zab (a:=[.i 1,.i 1,.u w,LU a]) (b:=[.dy r 0]) (by rw[Ad s];exact m) ?_;refine zab (a:=[.i 1,.i 1,.u w,LU a,LU b]) (b:=[]) (by rw[Ad qr,Ad y];exact o) ?_;refine L8 (zj5 hw z A B ho d f g) (by simp[LV.dat,dats,zkl]) ?_;refine C _ (by simp) fun x D E F=>?_
 rw[Ad (Ne.symm F),Ad (Ne.symm E),Ad (Ne.symm D)]
theorem law24_lives_ok:Fq Tryz.prog 40 [] (.bool true) []:=by
 refine Fq.val rfl (Wf r_law24_lives k_law24_lives (by kernel_rfl) ⟨by kernel_rfl,by kernel_rfl⟩ rfl ?_);simp[zaa];refine E9 (z7h 1 5) (by simp) ?_;simp;refine zu6 (a:=[3]) (b:=[4]) (n:=[7]) (p:=0) (q:=1) (r:=2) rfl rfl rfl (by omega) (by omega) (by omega) (by decide) (by simp) (by simp) (by simp) (by simp[val]) (by simp[val]) (by simp[val]) (by simp[val]) fun G' d f=>?_
 have e:val [3]^val [4]%val [7]=4:=by simp[val]
 rw[e];have hw:Gc 1 5=13:=by decide
 have ho:Hs 1 5=1:=by decide
 simp[hw,ho];refine zab (a:=[LU [4]]) (b:=[]) Ax ?_;refine E9 (zjt [4] [4] (by simp) (by simp)) (bors_self _ (by simp[LV.dat,dats])) ?_;simp
def z2a:LC:=(.q [.z 4 (.move (.k 0)),.z 5 (.move (.k 0))] (.seq (.q [.m 7 0,.z 8 (.bin .lss true 3 (.t 7) (.k 1)),.m 9 8,.mn 10 9 0,.n 11 9 (.bin .gtr true 3 (.t 10) (.k 512)),.z 12 (.pick (.t 9) .T (.t 11)),.m 13 12,.mn 14 13 1,.n 15 13 (.bin .lss true 3 (.t 14) (.k 1)),.z 16 (.pick (.t 13) .T (.t 15)),.m 17 16,.mn 18 17 1,.n 19 17 (.bin .gtr true 3 (.t 18) (.k 6)),.z 20 (.pick (.t 17) .T (.t 19))] (.cond (.t 20) (.q [.z 4 (.move (.k 0)),.z 5 (.move (.k 0))] .ret) .skip)) (.q [.z 6 (.move (.k 0))] (.seq (.block 0 (.loop (.seq (.q [.m 21 6,.m 22 1,.z 23 (.bin .mul false 3 (.t 21) (.t 22)),.m 24 0,.z 25 (.bin .mul true 3 (.k 64) (.t 24)),.z 26 (.bin .lss false 3 (.t 23) (.t 25))] (.cond (.t 26) .skip (.exit 0))) (.block 1 (.ops [.m 27 6,.z 28 (.bin .add true 3 (.t 27) (.k 1)),.m 6 28]))))) (.q [.m 29 6,.m 30 6,.m 31 1,.z 32 (.bin .mul false 3 (.t 30) (.t 31)),.m 33 0,.z 34 (.bin .mul true 3 (.k 64) (.t 33)),.z 35 (.bin .sub false 3 (.t 32) (.t 34)),.m 4 29,.m 5 35] .ret)))))
theorem r_ref24_Windows:Fg Tryz.prog 51=some ⟨36,z2a.r,[.tmp 4,.tmp 5]⟩:=by kernel_rfl
theorem k_ref24_Windows:z2a.ok=true:=by kernel_rfl
def z4v:LC:=(.q [.z 4 (.move .F)] (.seq (.q [.z 9 (.w 40 []),.z 10 (.un .not (.t 9))] (.cond (.t 10) (.q [.z 4 (.move .F)] .ret) .skip)) (.q [.m 12 0,.m 13 1,.z 14 (.w 45 [.t 12,.t 13]),.m 11 14,.z 15 (.extract 0 (.t 11)),.z 16 (.extract 1 (.t 11)),.m 5 15,.m 6 16] (.q [.m 18 0,.m 19 1,.z 20 (.w 51 [.t 18,.t 19]),.m 17 20,.z 21 (.extract 0 (.t 17)),.z 22 (.extract 1 (.t 17)),.m 7 21,.m 8 22] (.seq (.q [.m 23 5,.m 24 7,.z 25 (.bin .neq false 3 (.t 23) (.t 24)),.m 26 25,.mn 27 26 6,.mn 28 26 8,.n 29 26 (.bin .neq false 3 (.t 27) (.t 28)),.z 30 (.pick (.t 26) .T (.t 29))] (.cond (.t 30) (.q [.z 4 (.move .F)] .ret) .skip)) (.q [.m 31 5,.z 32 (.bin .eql true 3 (.t 31) (.k 0)),.m 33 32,.my 34 33 6,.y 35 33 (.bin .eql true 3 (.t 34) (.k 0)),.z 36 (.pick (.t 33) (.t 35) .F),.m 37 36,.mn 38 37 5,.mn 39 37 1,.n 40 37 (.bin .mul false 3 (.t 38) (.t 39)),.mn 41 37 0,.n 42 37 (.bin .mul true 3 (.k 64) (.t 41)),.mn 43 37 6,.n 44 37 (.bin .add false 3 (.t 42) (.t 43)),.n 45 37 (.bin .eql false 3 (.t 40) (.t 44)),.mn 46 37 45,.my 47 46 6,.y 48 46 (.bin .geq true 3 (.t 47) (.k 0)),.n 49 37 (.pick (.t 46) (.t 48) .F),.mn 50 37 49,.my 51 50 6,.my 52 50 1,.y 53 50 (.bin .lss false 3 (.t 51) (.t 52)),.n 54 37 (.pick (.t 50) (.t 53) .F),.z 55 (.pick (.t 37) .T (.t 54)),.m 4 55] .ret))))))
theorem r_law24_PowerWindows:Fg Tryz.prog 10=some ⟨56,z4v.r,[.tmp 4]⟩:=by kernel_rfl
theorem k_law24_PowerWindows:z4v.ok=true:=by kernel_rfl
theorem Wb {l w q:Int}{n:Nat}(d:1≤l∧l≤512)(hw:1≤w∧w≤6)(a:q=(64*l+w - 1)/w):((n:Int)*w<64*l↔(n:Int)<q)∧0≤q∧q≤40000∧((n:Int)≤q→0≤(n:Int)*w∧(n:Int)*w≤40000):=by
 subst a;have hw:w=1∨w=2∨w=3∨w=4∨w=5∨w=6:=by omega
 rcases hw with rfl | rfl | rfl | rfl | rfl | rfl<;>omega
theorem zgi (l w:Int):Fq Tryz.prog 51 [.i l,.i w] (.tup [.i (Gc l w),.i (Hs l w)]) []:=by
 refine Fq.val rfl (E8 r_ref24_Windows k_ref24_Windows (by simp) ?_);by_cases g1:l<1
 ·simp[z2a,Gc,Hs,g1]
 by_cases g2:512<l
 ·simp[z2a,Gc,Hs,g1,g2]
 by_cases g3:w<1
 ·simp[z2a,Gc,Hs,g1,g2,g3]
 by_cases g4:6<w
 ·simp[z2a,Gc,Hs,g1,g2,g3,g4]
 have p:Gc l w=(64*l+w - 1)/w:=by unfold Gc;rw[Ac (by omega)]
 have r:Hs l w=Gc l w*w - 64*l:=by unfold Hs;rw[Ac (by omega)]
 simp[z2a,g1,g2,g3,g4];rw[r];have a:=fun n=>Wb (l:=l) (w:=w) (q:=Gc l w) (n:=n) (by omega) (by omega) p
 generalize Gc l w=q at *;have s:0≤q∧q≤40000:=⟨(a 0).2.1,(a 0).2.2.1⟩;refine Iy (fun ρ D G N=>∃n:Nat,D=[]∧(N:Int)+n=q∧lk ρ 0=.i l∧lk ρ 1=.i w∧lk ρ 6=.i n) (N:=q.toNat) ⟨0,rfl,by omega,by simp,by simp,by simp⟩ ?_;rintro N ρ D G ⟨n,rfl,z,d,f,j⟩ A h;obtain⟨m,_,_,y⟩:=a n;have B:=y (by omega);by_cases g:(n:Int)*w<64*l
 ·have o:=m.1 g;simp[d,f,j,g];refine⟨by omega,by omega,by omega,?_⟩;exact h _ _ _ ⟨N - 1,by omega,n+1,rfl,by omega,by simp[d],by simp[f],by simp⟩
 ·have o:(n:Int)=q:=by have:=fun x=>g (m.2 x);omega
  simp[d,f,j,g];rw[←o];omega
theorem zb9 (l w:Int)(_:Mn l)(_:Mn w):Fh Tryz.prog (.fn 10) [.i l,.i w] [] fun v _=>v=.bool true:=by
 refine E8 r_law24_PowerWindows k_law24_PowerWindows (by simp) ?_;simp[z4v];refine E9 law24_lives_ok (by simp) ?_;simp;refine E9 (z7h l w) (by simp) ?_;simp;refine E9 (zgi l w) (by simp) ?_;simp;by_cases g:l<1∨512<l∨w<1∨6<w
 ·have a:Gc l w=0:=by unfold Gc;rw[Ag g]
  have d:Hs l w=0:=by unfold Hs;rw[Ag g]
  simp[a,d]
 have a:Gc l w=(64*l+w - 1)/w:=by unfold Gc;rw[Ac g]
 have d:Hs l w=Gc l w*w - 64*l:=by unfold Hs;rw[Ac g]
 have f:0≤Gc l w∧Gc l w≤40000∧0≤Gc l w*w∧Gc l w*w≤40000∧64*l≤Gc l w*w∧Gc l w*w - 64*l<w∧Gc l w≠0:=by
  rw[a];have hw:w=1∨w=2∨w=3∨w=4∨w=5∨w=6:=by omega
  rcases hw with rfl | rfl | rfl | rfl | rfl | rfl<;>omega
 rw[d];generalize Gc l w=q at *;simp[f.2.2.2.2.2.2];omega
end Go.Proofs.YtodjkjimaheggaaGreat
end
