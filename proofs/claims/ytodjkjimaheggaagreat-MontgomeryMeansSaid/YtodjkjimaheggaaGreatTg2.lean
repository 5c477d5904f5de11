/- The templates: see the main text. -/
import Derived.Test.YtodjkjimaheggaaGreatSvG2
import Derived.Test.YtodjkjimaheggaaGreatProg
import Derived.KernelRfl
import Derived.Test.YtodjkjimaheggaaGreatTg1
set_option linter.defProp false
noncomputable section
namespace Go.Proofs.YtodjkjimaheggaaGreat
open Go.Sv
set_option linter.unusedSimpArgs false
set_option maxRecDepth 10000
def mixedP:Tryz.prog.follows .mixedOrders=true:=Aa
def law23_lives_run:runA Tryz.prog noO 10000 13=true:=Aa
def law23_lives_ok:Mu 13 [] (.bool true) []:=Ng.lives ⟨Aa,Aa⟩ Aa (zw2 mixedP law23_lives_run)
def z8a:LC:=(.q [.e 2] (.q [.z 3 (.buildSl 3 0 [] []),.m 4 0,.a 5 3 3 4,.m 2 5] .ret))
def r_kit_Own_api_Var:My Tryz.prog 14=some ⟨6,z8a.r,[.tmp 2]⟩:=Aa
def z37:LC:=(.q [.x 5 1,.F 8] (.seq (.q [.z 14 (.w 13 []),.z 15 (.un .not (.t 14))] (.cond (.t 15) (.q [.F 8] .ret) .skip)) (.seq (.q [.m 16 0,.s 17 16,.b 18 .gtr 3 17 12,.m 19 18,.mn 20 19 3,.n 21 19 (.lenSl (.t 20)),.nb 22 19 .gtr 3 21 40,.p 23 19 22] (.cond (.t 23) (.q [.z 8 (.move .T)] .ret) .skip)) (.q [.m 24 0,.w 25 14 24,.m 0 25] (.q [.K 9 0] (.seq (.q [.K 10 0] (.block 0 (.loop (.seq (.q [.m 26 10,.m 27 0,.s 28 27,.c 29 .lss 3 26 28] (.cond (.t 29) .skip (.exit 0))) (.seq (.block 1 (.q [.m 32 0,.m 33 10,.I 34 3 32 33,.f 35 2 34,.v (.store 1 (.t 35) (.k 0))] (.ops [.m 36 9,.m 37 0,.m 38 10,.I 39 3 37 38,.f 40 0 39,.l 41 40,.z 42 (.maxi true (.t 36) (.t 41)),.m 9 42]))) (.ops [.m 30 10,.b 31 .add 3 30 1,.m 10 31])))))) (.q [.m 43 0,.L 44 7 5,.W 45 15 43 44,.m 11 45] (.seq (.q [.m 46 0,.L 47 7 5,.W 48 16 46 47,.z 49 (.un .not (.t 48)),.m 50 49,.nf 51 50 0 5,.nl 52 50 51,.nb 53 50 .neq 3 52 12,.p 54 50 53] (.cond (.t 54) (.q [.m 55 11,.b 56 .eql 3 55 0,.m 8 56] .ret) .skip)) (.seq (.q [.m 57 9,.b 58 .gtr 3 57 6] (.cond (.t 58) (.q [.z 8 (.move .T)] .ret) .skip)) (.q [.m 59 2,.z 60 (.w 17 [.t 59,.k 5]),.m 2 60] (.seq (.q [.m 61 11,.b 62 .lss 3 61 1,.m 63 62,.mn 64 63 11,.mn 65 63 9,.n 66 63 (.bin .mul true 3 (.k 8) (.t 65)),.nb 67 63 .add 3 66 16,.n 68 63 (.bin .gtr false 3 (.t 64) (.t 67)),.p 69 63 68] (.cond (.t 69) (.q [.F 8] .ret) .skip)) (.seq (.draw [(.m 71 0,[]),(.L 72 7 5,[]),(.m 73 0,[]),(.m 74 11,[]),(.m 76 2,[]),(.W 75 19 73 74,[(.L 72 7 5,false)]),(.z 77 (.w 18 [.t 71,.t 72,.t 75,.t 76]),[]),(.m 70 77,[]),(.X 78 0 70,[]),(.X 79 1 70,[]),(.m 12 78,[]),(.m 13 79,[])]) (.q [.m 80 13,.b 81 .eql 35 80 0,.m 82 81,.my 83 82 0,.y 84 82 (.loadN 7 (.t 5)),.my 85 82 12,.my 86 82 11,.my 87 82 2,.my 88 82 3,.y 89 82 (.w 20 [.t 83,.t 84,.t 85,.t 86,.t 87,.t 88]),.q 90 82 89,.m 8 90] .ret)))))))))))))
def r_law23_MontgomeryMeans:My Tryz.prog 3=some ⟨91,z37.r,[.tmp 8]⟩:=Aa
def uz(v:Vr):Vr:=⟨v.limbs,v.sec,0⟩
def lay_modeM:∀(l:List Vr) (i:Nat),i<l.length→Ns (Nd l) (i*3+2) [.i 0]=Nd (l.set i (uz (gv l i)))
 |[],i,h=>Bn
 |v::l,0,_=>by
  simp[Ns,Nd,uz,gv,Vr.f]
 |v::l,i+1,h=>by
  have g:=lay_modeM l i Av;have e:∀w:List Vr,Nd (v::w)=v.f++Nd w:=λw=>by simp[Nd]
  have j:gv (v::l) (i+1)=gv l i:=rfl;rw[Mg,e,e,j,←g];unfold Ns;rw[show (i+1)*3+2=v.f.length+(i*3+2) by rw[Vr.f_len];omega,List.take_length_add_append,J2,List.drop_length_add_append];simp
def zl1(l:List Vr):(Nd l).all LV.scal=true:=by
 induction l with
 |nil=>rfl
 |cons x l g=>simp only[Nd,Kd]at g ⊢;rw[List.all_append,g];rfl
def zvd(l:List Vr)(h:l.length≤1048576):Mu 14 [.lst (Nd l) l.length 3] (.dy 0 0) [.dyn (Nd l) l.length 3 0 0]:=by
 refine Ng.mk rfl (Mz r_kit_Own_api_Var Aa N ?_) (λg j e=>?_)
 ·simp[z8a,h];exact⟨[.dy 0 1],rfl,rfl,by simp[Ui,zl1]⟩
 ·cases g with
  |zero=>simp at e;subst e;exact⟨_,_,_,rfl,zl1 l⟩
  |succ g=>simp at e
def z87(B:List Vr)(o:Ko)(dp:Int)(fill:List UInt64)(_:B.length≤9223372036854775807)(_:Tk dp)(_:fill.length≤9223372036854775807):Ol (.fn 3) [.lst (Nd B) B.length 3,.agg o.f,.i dp,LU fill] [] λv _=>v=.bool true:=by
 refine zuy r_law23_MontgomeryMeans Aa (by simp) ?_;have z:o.f=[.i o.kind,.i o.d,.i o.e,.i o.a,.i o.b,.i o.c,.u o.imm]:=rfl;refine Yi (Φ:=λX gR gF=>∃(g:List Vr) (j:Int) (p st:Nat),g.length=B.length∧B.length≤12∧fill.length≤40∧(∀v∈g,v.mode=0∧v.limbs≤j)∧0≤j∧(j=0∨∃v∈g,v.limbs=j)∧1≤p∧gR=[]∧lk X 0=.dy p 0∧lk X 2=.i dp∧lk X 3=LU fill∧lk X 5=.ptr 0 0∧lk X 9=.i j∧1≤gF.length∧gF[0]?=some (.cells o.f 0)∧gF[p]?=some (.dyn (Nd g) g.length 3 0 st)) 5 _ rfl (λNX gG=>?_) (λX gR gF hΦ=>?_)
 ·simp[z37,Wl,z];refine M2 law23_lives_ok (by simp) ?_;by_cases g1:(12:Int)<B.length
  ·simp[g1]
  by_cases g2:(40:Int)<fill.length
  ·simp[g1,g2,LU]
  simp[g1,g2,LU];refine mo (zvd B J) (bors_self _ A3) ?_;simp;refine Oc (λX gR gF N=>∃(i st:Nat) (j:Int) (g:List Vr),gR=[]∧N+i=B.length∧g.length=B.length∧(∀F,F<i→(gv g F).mode=0∧(gv g F).limbs≤j)∧0≤j∧(j=0∨∃F,F<i∧(gv g F).limbs=j)∧lk X 0=.dy 1 0∧lk X 2=.i dp∧lk X 3=LU fill∧lk X 5=.ptr 0 0∧lk X 9=.i j∧lk X 10=.i i∧gF=[.cells o.f 0,.dyn (Nd g) B.length 3 0 st]) (N:=B.length)
   ⟨0,0,0,B,rfl,J,rfl,λF hj=>J,J,.inl rfl,by simp,by simp,by simp[LU],by simp,by simp,by simp,Ae⟩ ?_
  rintro N X gR gF ⟨i,st,j,g,rfl,hN,G,C,gg,H,O,L,P,A,I,Q,rfl⟩ Nx gH;by_cases g9:i<B.length
  ·have Y:i<g.length:=J
   have gz:=lay_modeM g i Y;have h1:=ae Y;have K:=ng (Sr (l:=g.set i (uz (gv g i))) (n:=i) (by simpa using Y));have R:gv (g.set i (uz (gv g i))) i=uz (gv g i):=by
    unfold gv;rw[Vo _ _ _ _ _ Y,Hv rfl]
   rw[R]at K;have K:(Nd (g.set i (uz (gv g i))))[i*3]?=some (.i (gv g i).limbs):=K;simp[O,L,P,A,I,Q,g9];rw[gz];refine⟨J,?_⟩;simp[Mr K,I,Q];refine⟨J,gH _ _ _ ⟨N-1,J,i+1,st+1,max j (gv g i).limbs,g.set i (uz (gv g i)),rfl,J,A8,λF hj=>?_,J,?_,Dv,Bh,C7,Ar,by simp,by simp,rfl⟩⟩
   ·by_cases e:F=i
    ·rw[e,R];exact⟨rfl,by show (gv g i).limbs≤_;omega⟩
    ·have:=C F J;have e2:gv (g.set i (uz (gv g i))) F=gv g F:=by unfold gv;rw[Vo _ _ _ _ _ Y,Hs e]
     rw[e2];exact⟨this.1,J⟩
   ·by_cases hc:j<(gv g i).limbs
    ·exact .inr ⟨i,J,by rw[R];show (gv g i).limbs=_;omega⟩
    ·rcases H with e|⟨F,hj,e⟩
     ·exact .inl J
     ·refine .inr ⟨F,J,?_⟩;have e2:gv (g.set i (uz (gv g i))) F=gv g F:=by unfold gv;rw[Vo _ _ _ _ _ Y,Hs J]
      rw[e2,e];omega
  ·simp[O,L,P,A,I,Q,g9];refine gG _ _ _ ⟨g,j,1,st,G,J,J,λv hv=>?_,gg,H.imp id (λ⟨F,hj,e⟩=>⟨_,ztb J,e⟩),J,rfl,Dv,Bh,C7,Ar,Ay,by simp,by simp,A8⟩;obtain⟨F,hj,rfl⟩:=ff hv;exact C F J
 obtain⟨g,j,p,st,G,gT,gI,C,gg,H,hp,rfl,O,L,P,A,I,gK,gA,gC⟩:=hΦ;refine W_fz (t:=0) gC O ?_;have M:(gF.set p (.dead (st+1)))[0]?=_:=(Ho J).trans gA;generalize gF.set p (.dead (st+1))=gF at *;clear gC gA gK O hp;have gD:dats [LV.lst (Nd g) g.length 3,.agg o.f]=true:=by simp[dats,LV.dat,Qo,z]
 refine Ru _ ?_;simp[z37,Wl,L,P,A,I,M,z];rw[←z];refine M2 (z7s g o J) (bors_self _ gD) ?_;simp[A,M,z];rw[←z];refine M2 (zkc g o J) (bors_self _ gD) ?_;have gL:¬((P3 g&&Nf g o)=true∧o.kind=12)→M4 g o=0:=λq=>by
  unfold M4;rw[zym,Hs];intro e;simp only[Hq,Hz]at e q;exact q ⟨e.2.2,e.1⟩
 by_cases Z:(P3 g&&Nf g o)=true∧o.kind=12
 ·obtain⟨Z,hk⟩:=Z;have T:=Z;rw[Hq]at T;obtain⟨d,a,b,c,h⟩:=mtV hk T.1 T.2;have gM:=zuj h;have gV:=z76 h;rw[Z];have gU:(gv g d).limbs≤j:=(C _ (ztb h.fd.2)).2;have gY:=V3 h.hv h.fd.2;have U:=M;rw[z,hk]at U;have c1:¬M4 g o<1:=J
  have gO:j≤512:=by
   rcases H with e|⟨v,gP,e⟩
   ·omega
   ·have:=ziy h.hv v gP;omega
  by_cases gE:(6:Int)<j
  ·simp[L,A,U,I,gE]
  have c2:¬8*j+16<M4 g o:=J
  have c0:1≤M4 g o:=gM.1;simp[L,A,U,I,gE];obtain⟨dq,gZ,gQ⟩:=zr8 dp 5 J;refine M2 gQ (by simp) ?_;have V:Od 19 [.lst (Nd g) g.length 3,.i (M4 g o)] (.agg (Pk (Nt g (M4 g o)) (Rk g) ⟨g.length,0,M4 g o⟩ ⟨(g.length:Int)+1,0,M4 g o⟩)):=zg4 g (M4 g o) J;have D:=zdy g o (Nt g (M4 g o)) (Rk g) ⟨g.length,0,M4 g o⟩ ⟨(g.length:Int)+1,0,M4 g o⟩ dq J (by rw[plB_len];omega);have hR:=zkd (fill:=fill) (deep:=dq) h J J J gI;obtain⟨e1,e2⟩:=tf h (λi hi=>(C _ (ztb hi)).1) J (deep:=dq) J;rw[e1,e2]at D;have g8:Pk (Nt g (M4 g o)) (Rk g) ⟨g.length,0,M4 g o⟩ ⟨(g.length:Int)+1,0,M4 g o⟩=[.lst (O8 (Nt g (M4 g o))) (Nt g (M4 g o)).length 3,.lst (Vk (Rk g)) (Rk g).length 3,.i g.length,.i 0,.i (M4 g o),.i ((g.length:Int)+1),.i 0,.i (M4 g o)]:=rfl;simp[A,I,M,z,c1,c2]
  try rw[←z]
  refine⟨J,J,?_⟩;refine Q5 V A3 ?_;simp[A,M,z];rw[←z];refine Q5 D (by simp[dats,LV.dat,Qo,z,zbk]) ?_;simp[P,A,M,z];rw[←z];refine M2 hR (bors_self _ (by simp[dats,LV.dat,Qo,z,Sz,LU,vp])) ?_;simp
 ·have hw:=gL Z;by_cases E:(P3 g&&Nf g o)=true
  ·have hk:¬o.kind=12:=λe=>Z ⟨E,e⟩
   rw[E];simp[A,M,z,hk,hw]
  ·have E:(P3 g&&Nf g o)=false:=Bt
   rw[E];simp[A,M,z,hw]
end Go.Proofs.YtodjkjimaheggaaGreat
end
