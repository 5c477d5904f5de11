/- The templates: see the main text. -/
import Derived.Test.YtmnciecehjcjhaaGreatSvG2
import Derived.Test.YtmnciecehjcjhaaGreatProg
import Derived.KernelRfl
import Derived.Test.YtmnciecehjcjhaaGreatSvG3
import Derived.Test.YtmnciecehjcjhaaGreatTg1
import Derived.Test.YtmnciecehjcjhaaGreatTg0
set_option linter.defProp false
noncomputable section
namespace Go.Proofs.YtmnciecehjcjhaaGreat
open Go.Sv
set_option linter.unusedSimpArgs false
set_option maxRecDepth 10000
variable{z B vY vH:Int}{P:Ok}{Q:LV}{vZ:LV→Ok→Prop}{vE:List Vr}
def mixedP:Tryz.prog.follows .mixedOrders=true:=Aa
def law22_lives_run:runA Tryz.prog noO 10000 5=true:=Aa
def law22_lives_ok:O2 5 [] (.bool true) []:=P4.lives ⟨Aa,Aa⟩ Aa (zt0 mixedP law22_lives_run)
def za7:LC:=(.q [.K 4 0] (.seq (.q [.m 6 1,.b 7 .lss 3 6 1] (.cond (.t 7) (.q [.K 4 0] .ret) .skip)) (.q [.m 8 0,.m 9 1,.c 10 .rem 3 8 9,.m 5 10] (.seq (.q [.m 11 5,.b 12 .lss 3 11 0] (.cond (.t 12) (.ops [.m 13 5,.m 14 1,.c 15 .add 3 13 14,.m 5 15]) .skip)) (.q [.m 16 5,.m 4 16] .ret)))))
def r_kit_Pick:Oz Tryz.prog 10=some ⟨17,za7.r,[.tmp 4]⟩:=Aa
def k_kit_Pick:za7.ok=true:=Aa
def zim:LC:=(.q [.e 4] (.q [.m 7 1,.z 8 (.mkSl 1 [(.u 0)] (.t 7) (.t 7)),.m 5 8] (.seq (.q [.K 6 0] (.block 0 (.loop (.seq (.q [.m 9 6,.m 10 1,.c 11 .lss 3 9 10,.m 12 11,.my 13 12 0,.y 14 12 (.lenSl (.t 13)),.y 15 12 (.bin .gtr true 3 (.t 14) (.k 0)),.q 16 12 15] (.cond (.t 16) .skip (.exit 0))) (.seq (.block 1 (.draw [(.m 19 5,[]),(.m 20 6,[]),(.m 21 0,[]),(.m 22 6,[]),(.m 23 0,[]),(.s 24 23,[]),(.c 25 .rem 3 22 24,[]),(.I 26 1 21 25,[]),(.l 27 26,[]),(.m 28 6,[]),(.m 29 0,[]),(.s 30 29,[]),(.c 31 .quo 3 28 30,[]),(.b 32 .mul 3 31 2,[]),(.z 33 (.bin .add true 3 (.k 1) (.t 32)),[]),(.z 34 (.cvInt .u64 (.t 33)),[]),(.c 35 .mul 23 27 34,[]),(.m 36 6,[]),(.m 37 0,[]),(.s 38 37,[]),(.c 39 .quo 3 36 38,[]),(.z 40 (.cvInt .u64 (.t 39)),[]),(.c 41 .add 23 35 40,[]),(.I 42 1 19 20,[]),(.S 1 42 41,[])])) (.ops [.m 17 6,.b 18 .add 3 17 1,.m 6 18])))))) (.q [.m 43 5,.m 4 43] .ret))))
def r_kit_Fill:Oz Tryz.prog 41=some ⟨44,zim.r,[.tmp 4]⟩:=Aa
def zo4(n m:Int)(hm:1≤m∧m<1000000):∃k:Nat,(k:Int)<m∧O2 10 [.i n,.i m] (.i k) []:=by
 have j:¬m<1:=J
 have z:m≠0:=J
 have B:n.tmod m<m:=Int.tmod_lt_of_pos n J;have C:-m<n.tmod m:=by
  have h:=Int.tmod_lt_of_pos (-n) (J:0<m);rw[Int.neg_tmod]at h;omega
 by_cases g:n.tmod m<0
 ·obtain⟨k,A⟩:=J3 (J:0≤n.tmod m+m);refine⟨k,J,P4.val rfl (O0 r_kit_Pick k_kit_Pick N ?_)⟩;simp[za7,j,z,g];omega
 ·obtain⟨k,A⟩:=J3 (J:0≤n.tmod m);refine⟨k,J,P4.val rfl (O0 r_kit_Pick k_kit_Pick N ?_)⟩;simp[za7,j,z,g,A];omega
def zoi(l:List UInt64)(n:Nat)(V:n≤1000000)(X:l.length≤1000000)(g:l≠[]):O2 41 [LU l,.i n] (.dy 0 0) [RU (zrf l n)]:=by
 refine P4.row (O0 r_kit_Fill Aa (by simp) ?_);have z:0<l.length:=List.length_pos_iff.2 g;simp[zim];refine⟨J,?_⟩;refine Ql (λI T U M=>∃(i st:Nat) (m:List UInt64),T=[]∧M+i=n∧lk I 0=LU l∧lk I 1=.i n∧lk I 5=.dy 0 0∧lk I 6=.i i∧U[0]?=some (.dyn (m.map .u) n 1 0 st)∧m.length=n∧∀B,B<i→m.getD B 0=zta l B) (N:=n)
  ⟨0,0,List.replicate n 0,rfl,J,by simp,by simp,by simp,by simp,by simp[ce],by simp,by simp⟩ ?_
 rintro M I T U ⟨i,st,m,rfl,Y,C,A,D,K,E,j,L⟩ Z F;by_cases gg:i<n
 ·have hi:i%l.length<l.length:=Nat.mod_lt _ z;have G:(l.length:Int)≠0:=J
  simp[C,A,D,K,gg,z,E,j,LU,G,hi];have O:(i:Int)/(l.length:Int)=((i/l.length:Nat):Int):=by simp
  have P:(i:Int).tmod (l.length:Int)=((i%l.length:Nat):Int):=by rw[Int.tmod_eq_emod_of_nonneg J];simp
  have Q:i/l.length≤i:=Nat.div_le_self _ _;have H:zta l i=l.getD (i%l.length) 0*iU (1+((i/l.length:Nat):Int)*2)+iU ((i/l.length:Nat):Int):=by unfold zta;rw[J2 g]
  simp only[O,P,Ky];generalize i/l.length=q at *;refine⟨g,J,J,g,J,J,J,g,J,J,J,F _ _ _ ⟨M-1,J,i+1,st+1,m.set i (zta l i),rfl,J,As,At,Ae,by simp,?_,Ay,λB hj=>?_⟩⟩
  ·have R:=(Jx.1 E).1;rw[J1 R,H]
   congr 2
   rw[show ∀x:LV,Po (m.map LV.u) i [x]=(m.map LV.u).set i x from λx=>by rw[La,J8 Ab];simp[Po],K9,U2,zgb];simp[J0]
  ·rw[jy _ _ _ _ _ J];split
   ·rename_i q;rw[q]
   ·exact L B J
 ·have hi:i=n:=J
  subst hi;have:m=zrf l i:=by
   refine List.ext_getElem (by rw[j,zmv]) λB A h2=>?_
   have:=L B J;rw[J0,J5 A]at this;simpa [zrf] using this
  simp[C,A,D,K];exact .inr ⟨0,_,_,rfl,by rw[←this,j];exact E⟩
def lpsL_snoc:∀(n:Nat) (i:Int),Sj (n+1) i=Sj n i++[⟨16,i+n,-1,-1,-1,-1,0,1⟩]
 |0,i=>by simp[Sj]
 |n+1,i=>by
  rw[Sj,lpsL_snoc n (i+1),Sj,K2]
  congr 4
  simp;omega
def lpsL_len:∀(n:Nat) (i:Int),(Sj n i).length=n
 |0,_=>rfl
 |n+1,i=>by rw[Sj,Kn,lpsL_len]
def zh8:LC:=(.q [.z 4 (.alloc [.nilSl,.nilSl,(.i 0),(.i 0),(.i 0),(.i 0),(.i 0),(.i 0)])] (.q [.z 5 (.alloc [.nilSl,.nilSl,(.i 0),(.i 0),(.i 0),(.i 0),(.i 0),(.i 0)])] (.seq (.q [.K 6 0] (.block 0 (.loop (.seq (.q [.m 8 6,.m 9 0,.s 10 9,.c 11 .lss 3 8 10] (.cond (.t 11) .skip (.exit 0))) (.seq (.block 1 (.seq (.draw [(.f 14 0 5,[]),(.l 15 14,[]),(.m 16 0,[]),(.m 17 6,[]),(.I 18 3 16 17,[]),(.f 19 0 18,[]),(.l 20 19,[]),(.m 21 0,[]),(.m 22 6,[]),(.I 23 3 21 22,[]),(.f 24 1 23,[]),(.l 25 24,[]),(.z 26 (.build [(.i 0),(.i 0),(.bool false)] [(0,1,.t 20),(1,1,.k 2),(2,1,.t 25)]),[]),(.z 27 (.buildSl 3 1 [(.i 0),(.i 0),(.bool false)] [(0,3,.t 26)]),[(.l 25 24,false),(.l 20 19,false),(.l 15 14,false)]),(.a 28 3 15 27,[]),(.f 29 0 5,[]),(.S 1 29 28,[])]) (.draw [(.f 30 1 5,[]),(.l 31 30,[]),(.m 32 6,[]),(.m 33 0,[]),(.m 34 6,[]),(.I 35 3 33 34,[]),(.f 36 0 35,[]),(.l 37 36,[]),(.z 38 (.build [(.i 0),(.i 0),(.i 0)] [(0,1,.t 32),(2,1,.t 37)]),[]),(.z 39 (.buildSl 3 1 [(.i 0),(.i 0),(.i 0)] [(0,3,.t 38)]),[(.l 37 36,false),(.l 31 30,false)]),(.a 40 3 31 39,[]),(.f 41 1 5,[]),(.S 1 41 40,[])]))) (.ops [.m 12 6,.b 13 .add 3 12 1,.m 6 13])))))) (.seq (.q [.K 7 0] (.block 2 (.loop (.seq (.q [.m 42 7,.b 43 .lss 3 42 2] (.cond (.t 43) .skip (.exit 2))) (.seq (.block 3 (.q [.f 46 0 5,.l 47 46,.m 48 1,.m 49 7,.b 50 .eql 3 49 1,.z 51 (.build [(.i 0),(.i 0),(.bool false)] [(0,1,.t 48),(1,1,.k 2),(2,1,.t 50)]),.z 52 (.buildSl 3 1 [(.i 0),(.i 0),(.bool false)] [(0,3,.t 51)]),.a 53 3 47 52,.f 54 0 5,.S 1 54 53] (.ops [.m 55 7,.m 56 0,.s 57 56,.m 58 7,.c 59 .add 3 57 58,.m 60 1,.z 61 (.build [(.i 0),(.i 0),(.i 0)] [(0,1,.t 59),(2,1,.t 60)]),.f 62 2 5,.z 63 (.ixAddrArr 2 3 (.t 62) (.t 55)),.S 3 63 61]))) (.ops [.m 44 7,.b 45 .add 3 44 1,.m 7 45])))))) (.q [.L 64 8 5,.S 8 4 64] .ret)))))
def r_kit_Plain:Oz Tryz.prog 13=some ⟨65,zh8.r,[.cellN 4 8]⟩:=Aa
def zpa{i:Nat}(h:i<vE.length):Vo (vE.take (i+1))=Vo (vE.take i)++[⟨(gv vE i).limbs,2,(gv vE i).sec⟩]:=by
 have g:=Wm h;obtain⟨_,e⟩:=Jx.1 g;rw[K6 h,Vo,Ni,e];rfl
def cm(g:List Vr)(i:Nat):List Pc:=(List.range i).map λi:Nat=>⟨(i:Int),0,(gv g i).limbs⟩
def zux(g:List Vr)(i:Nat):cm g (i+1)=cm g i++[⟨(i:Int),0,(gv g i).limbs⟩]:=by simp[cm,List.range_succ]
def rp(a b:List Pc):Wl (a++b)=Wl a++Wl b:=by simp[Wl]
def ub(n w:Int):Nat→List LV
 |0=>[.i 0,.i 0,.i 0,.i 0,.i 0,.i 0]
 |1=>[.i n,.i 0,.i w,.i 0,.i 0,.i 0]
 |_=>[.i n,.i 0,.i w,.i (n+1),.i 0,.i w]
def wn(w:Int):Nat→List Bf
 |0=>[]
 |1=>[⟨w,2,false⟩]
 |_=>[⟨w,2,false⟩,⟨w,2,true⟩]
def zkz(g:List Vr)(w:Int)(hl:g.length≤1000000):Rd 13 [.lst (Qx g) g.length 3,.i w] (.agg (Rx (Vo g++[⟨w,2,false⟩,⟨w,2,true⟩]) (Qy g) ⟨g.length,0,w⟩ ⟨(g.length:Int)+1,0,w⟩)):=by
 refine T2.mk (by simp[LV.dat,zab]) (O0 r_kit_Plain Aa (by simp) ?_);simp[zh8];refine Ql (λρ gZ Q N=>∃(i st Y:Nat) (P D:LV),gZ=[]∧N+i=g.length∧lk ρ 0=.lst (Qx g) g.length 3∧lk ρ 1=.i w∧lk ρ 4=.ptr 0 0∧lk ρ 5=.ptr 1 0∧lk ρ 6=.i i∧2≤Q.length ∧
   Q[0]?=some (.cells [.nilSl,.nilSl,.i 0,.i 0,.i 0,.i 0,.i 0,.i 0] Y)∧Q[1]?=some (.cells [P,D,.i 0,.i 0,.i 0,.i 0,.i 0,.i 0] st) ∧
   Qt 2 Q P 3 i (Qs (Vo (g.take i)))∧Qt 2 Q D 3 i (Wl (cm g i))∧∀q B A z,P=.dy q B→D=.dy A z→q≠A) (N:=g.length)
  ⟨0,0,0,.nilSl,.nilSl,rfl,J,by simp,by simp,by simp,by simp,by simp,by simp,by simp,by simp,by simpa [Vo,Qs] using Qt.nil,by simpa [cm,Wl] using Qt.nil,λq B A z e=>An⟩ ?_
 rintro N ρ gZ Q ⟨i,st,Y,P,D,rfl,hN,M,T,U,O,h6,gD,R,F,I,E,C⟩ Nx Z;by_cases gT:i<g.length
 ·have q0:=zqp (Wm gT);have q1:=zq2 (Wm gT);have hq:=zoa gT;have l1:1<Q.length:=J
  have p1:∀x:List LObj,(Q++x)[1]?=_:=λx=>(Oo l1).trans F
  have p0:∀x:List LObj,(Q++x)[0]?=_:=λx=>(Oo J).trans R
  simp[M,O,h6,F,↓p1,gT,Ov q0,Ov q1];have D1:=I.push_end (ob:=[LObj.dyn [.i (gv g i).limbs,.i 2,.bool (gv g i).sec] 1 3 0 0]);have V:=E.push_end (ob:=[LObj.dyn [.i (gv g i).limbs,.i 2,.bool (gv g i).sec] 1 3 0 0]);have m0:=p0 [LObj.dyn [.i (gv g i).limbs,.i 2,.bool (gv g i).sec] 1 3 0 0];have m1:=p1 [LObj.dyn [.i (gv g i).limbs,.i 2,.bool (gv g i).sec] 1 3 0 0];have ml:(Q++[LObj.dyn [.i (gv g i).limbs,.i 2,.bool (gv g i).sec] 1 3 0 0]).length=Q.length+1:=by simp
  have K:=λq B (e:D=.dy q B)=>(E.lt e).2
  generalize Q++[LObj.dyn [.i (gv g i).limbs,.i 2,.bool (gv g i).sec] 1 3 0 0]=GA at *;refine D1.push2 (c:=1) (x:=(⟨(gv g i).limbs,2,(gv g i).sec⟩:Bf).f) J J J rfl rfl λj X L f1 gF s1 gG=>?_
  have n1:∀q,q<2→∀B,P≠.dy q B:=λq hq B e=>Fp
  have n2:∀q,q<2→∀B,D≠.dy q B:=λq hq B e=>by have:=(V.lt e).1;omega
  have gg:=(f1 0 J (n1 0 J)).trans m0;have gA:=(f1 1 J (n1 1 J)).trans m1;have gB:=V.keep (G':=X) (λq B e=>f1 q (V.lt e).2 (λz H=>C q z q B H e rfl));have G:∀q B A z,j=.dy q B→D=.dy A z→q≠A:=λq B A z e H=>by
   rcases s1 q B e with h|⟨j2,h⟩
   ·have:=K A z H;omega
   ·exact C q j2 A z h H
  have gC:=L.cells;have gH:=V.cells;simp[-LV.cells,M,O,h6,gA,gC];have gI:=L.set_lt (q:=1) (ob:=.cells [j,D,.i 0,.i 0,.i 0,.i 0,.i 0,.i 0] (st+1)) J;have gU:=gB.set_lt (q:=1) (ob:=.cells [j,D,.i 0,.i 0,.i 0,.i 0,.i 0,.i 0] (st+1)) J;have k0:(X.set 1 (.cells [j,D,.i 0,.i 0,.i 0,.i 0,.i 0,.i 0] (st+1)))[0]?=_:=(Jy J).trans gg;have k1:(X.set 1 (.cells [j,D,.i 0,.i 0,.i 0,.i 0,.i 0,.i 0] (st+1)))[1]?=_:=J1 J;have kl:(X.set 1 (.cells [j,D,.i 0,.i 0,.i 0,.i 0,.i 0,.i 0] (st+1))).length=X.length:=by simp
  generalize X.set 1 (.cells [j,D,.i 0,.i 0,.i 0,.i 0,.i 0,.i 0] (st+1))=G2 at *;have r1:∀x:List LObj,(G2++x)[1]?=_:=λx=>(Oo J).trans k1
  have r0:∀x:List LObj,(G2++x)[0]?=_:=λx=>(Oo J).trans k0
  simp[M,O,h6,k1,↓r1,gT,Ov q0];have E1:=gI.push_end (ob:=[LObj.dyn [.i (i:Int),.i 0,.i (gv g i).limbs] 1 3 0 0]);have E2:=gU.push_end (ob:=[LObj.dyn [.i (i:Int),.i 0,.i (gv g i).limbs] 1 3 0 0]);have w0:=r0 [LObj.dyn [.i (i:Int),.i 0,.i (gv g i).limbs] 1 3 0 0];have w1:=r1 [LObj.dyn [.i (i:Int),.i 0,.i (gv g i).limbs] 1 3 0 0];have wl:(G2++[LObj.dyn [.i (i:Int),.i 0,.i (gv g i).limbs] 1 3 0 0]).length=G2.length+1:=by simp
  have gK:=λq B (e:j=.dy q B)=>(gI.lt e).2
  generalize G2++[LObj.dyn [.i (i:Int),.i 0,.i (gv g i).limbs] 1 3 0 0]=GB at *;refine E2.push2 (c:=1) (x:=(⟨(i:Int),0,(gv g i).limbs⟩:Pc).f) J J J rfl rfl λgL G3 gM f2 jg s2 jz=>?_
  have gV:=(f2 0 J (n2 0 J)).trans w0;have gX:=(f2 1 J (n2 1 J)).trans w1;have gY:=E1.keep (G':=G3) (λq B e=>f2 q (E1.lt e).2 (λz H=>G q B q z e H rfl));have gO:∀q B A z,j=.dy q B→gL=.dy A z→q≠A:=λq B A z e H=>by
   rcases s2 A z H with h|⟨j2,h⟩
   ·have:=gK q B e;omega
   ·exact G q B A j2 e h
  have gR:=gM.cells;simp[-LV.cells,M,O,h6,gX,gR];refine⟨J,Z _ _ _ ⟨N-1,J,i+1,st+1+1,Y,j,gL,rfl,J,Bh,Gr,Fl,by simp[O],by simp,Ab,?_,?_,?_,?_,gO⟩⟩
  ·rw[Jy J];exact gV
  ·rw[J1 J]
  ·rw[zpa gT,sc];exact gY.set_lt J
  ·rw[zux,rp];exact gM.set_lt J
 ·have gi:i=g.length:=J
  subst gi;simp[M,T,U,O,h6,F];refine Ql (λρ gZ Q N=>∃(B st Y:Nat) (P D:LV),gZ=[]∧N+B=2∧lk ρ 0=.lst (Qx g) g.length 3∧lk ρ 1=.i w∧lk ρ 4=.ptr 0 0∧lk ρ 5=.ptr 1 0∧lk ρ 7=.i B∧2≤Q.length ∧
    Q[0]?=some (.cells [.nilSl,.nilSl,.i 0,.i 0,.i 0,.i 0,.i 0,.i 0] Y)∧Q[1]?=some (.cells (P::D::ub g.length w B) st) ∧
    Qt 2 Q P 3 (g.length+B) (Qs (Vo g++wn w B))∧Qt 2 Q D 3 g.length (Wl (Qy g))∧∀q B A z,P=.dy q B→D=.dy A z→q≠A) (N:=2)
   ⟨0,st,Y,P,D,rfl,J,Bh,Gr,Fl,by simp[O],by simp,gD,R,F,by simpa [wn] using I,E,C⟩ ?_
  clear M T U O h6 gD R F I E C gT Z Nx;rintro N ρ gZ Q ⟨B,st,Y,P,D,rfl,jA,M,T,U,O,h7,gD,R,F,I,E,C⟩ Nx Z;have p1:∀x:List LObj,(Q++x)[1]?=_:=λx=>(Oo J).trans F
  have p0:∀x:List LObj,(Q++x)[0]?=_:=λx=>(Oo J).trans R
  have hj:B=0∨B=1∨B=2:=J
  rcases hj with rfl|rfl|rfl
  ·have D1:=I.push_end (ob:=[LObj.dyn [.i w,.i 2,.bool false] 1 3 0 0]);have V:=E.push_end (ob:=[LObj.dyn [.i w,.i 2,.bool false] 1 3 0 0]);simp[M,T,U,O,h7,F,↓p1,ub];have m0:=p0 [LObj.dyn [.i w,.i 2,.bool false] 1 3 0 0];have m1:=p1 [LObj.dyn [.i w,.i 2,.bool false] 1 3 0 0];have ml:(Q++[LObj.dyn [.i w,.i 2,.bool false] 1 3 0 0]).length=Q.length+1:=by simp
   have K:=λq B (e:D=.dy q B)=>(E.lt e).2
   generalize Q++[LObj.dyn [.i w,.i 2,.bool false] 1 3 0 0]=GA at *;refine D1.push2 (c:=1) (x:=(⟨w,2,false⟩:Bf).f) J J J rfl rfl λj X L f1 gF s1 gG=>?_
   have n1:∀q,q<2→∀B,P≠.dy q B:=λq hq B e=>Fp
   have gg:=(f1 0 J (n1 0 J)).trans m0;have gA:=(f1 1 J (n1 1 J)).trans m1;have gB:=V.keep (G':=X) (λq B e=>f1 q (V.lt e).2 (λz H=>C q z q B H e rfl));have G:∀q B A z,j=.dy q B→D=.dy A z→q≠A:=λq B A z e H=>by
    rcases s1 q B e with h|⟨j2,h⟩
    ·have:=K A z H;omega
    ·exact C q j2 A z h H
   have gC:=L.cells;have gH:=V.cells;have x1:∀x,(X.set 1 x)[1]?=some x:=λx=>J1 J
   simp[-LV.cells,M,T,U,O,h7,gA,gC,↓x1,ub];simp[Po]
   repeat (refine⟨J,?_⟩)
   refine Z _ _ _ ⟨N-1,J,0+1,st+1+1,Y,j,D,rfl,J,Bh,Gr,Fl,by simp[O],by simp,Ab,?_,?_,?_,?_,G⟩
   ·rw[Jy J];exact gg
   ·rw[J1 J];simp[ub]
   ·have hW:Qs (Vo g++wn w (0+1))=Qs (Vo g++wn w 0)++(⟨w,2,false⟩:Bf).f:=by simp[Qs,wn]
    rw[hW];exact L.set_lt J
   ·exact gB.set_lt J
  ·have D1:=I.push_end (ob:=[LObj.dyn [.i w,.i 2,.bool true] 1 3 0 0]);have V:=E.push_end (ob:=[LObj.dyn [.i w,.i 2,.bool true] 1 3 0 0]);simp[M,T,U,O,h7,F,↓p1,ub];have m0:=p0 [LObj.dyn [.i w,.i 2,.bool true] 1 3 0 0];have m1:=p1 [LObj.dyn [.i w,.i 2,.bool true] 1 3 0 0];have ml:(Q++[LObj.dyn [.i w,.i 2,.bool true] 1 3 0 0]).length=Q.length+1:=by simp
   have K:=λq B (e:D=.dy q B)=>(E.lt e).2
   generalize Q++[LObj.dyn [.i w,.i 2,.bool true] 1 3 0 0]=GA at *;refine D1.push2 (c:=1) (x:=(⟨w,2,true⟩:Bf).f) J J J rfl rfl λj X L f1 gF s1 gG=>?_
   have n1:∀q,q<2→∀B,P≠.dy q B:=λq hq B e=>Fp
   have gg:=(f1 0 J (n1 0 J)).trans m0;have gA:=(f1 1 J (n1 1 J)).trans m1;have gB:=V.keep (G':=X) (λq B e=>f1 q (V.lt e).2 (λz H=>C q z q B H e rfl));have G:∀q B A z,j=.dy q B→D=.dy A z→q≠A:=λq B A z e H=>by
    rcases s1 q B e with h|⟨j2,h⟩
    ·have:=K A z H;omega
    ·exact C q j2 A z h H
   have gC:=L.cells;have gH:=V.cells;have x1:∀x,(X.set 1 x)[1]?=some x:=λx=>J1 J
   simp[-LV.cells,M,T,U,O,h7,gA,gC,↓x1,ub];simp[Po]
   repeat (refine⟨J,?_⟩)
   refine Z _ _ _ ⟨N-1,J,1+1,st+1+1,Y,j,D,rfl,J,Bh,Gr,Fl,by simp[O],by simp,Ab,?_,?_,?_,?_,G⟩
   ·rw[Jy J];exact gg
   ·rw[J1 J];simp[ub]
   ·have hW:Qs (Vo g++wn w (1+1))=Qs (Vo g++wn w 1)++(⟨w,2,true⟩:Bf).f:=by simp[Qs,wn]
    rw[hW];exact L.set_lt J
   ·exact gB.set_lt J
  ·have jB:=I.bor;have gR:=E.bor;have y0:∀x,(Q.set 0 x)[0]?=some x:=λx=>J1 J
   simp[M,T,U,O,h7,R,F,ub,↓y0];have b1:=(I.set_lt (q:=0) (ob:=.cells [P,D,.i g.length,.i 0,.i w,.i (g.length+1),.i 0,.i w] (Y+1)) J).bor;have b2:=(E.set_lt (q:=0) (ob:=.cells [P,D,.i g.length,.i 0,.i w,.i (g.length+1),.i 0,.i w] (Y+1)) J).bor;refine⟨_,_,rfl,?_,_,rfl,?_⟩
   ·have e1:(Vo g++[(⟨w,2,false⟩:Bf),⟨w,2,true⟩]).length=g.length+2:=by simp[Vo]
    rw[e1];exact b1
   ·have e2:(Qy g).length=g.length:=by simp[Qy]
    rw[e2];exact b2

def z97:LC:=(.q [.K 4 0] (.seq (.q [.m 8 0,.s 9 8,.m 10 1,.s 11 10,.z 12 (.maxi true (.t 9) (.t 11)),.b 13 .sub 3 12 1,.m 5 13] (.block 0 (.loop (.seq (.q [.m 14 5,.b 15 .geq 3 14 0] (.cond (.t 15) .skip (.exit 0))) (.seq (.block 1 (.q [.m 18 0,.m 19 5,.W 20 46 18 19,.m 21 1,.m 22 5,.W 23 46 21 22,.m 6 20,.m 7 23] (.seq (.q [.m 24 6,.m 25 7,.c 26 .lss 23 24 25] (.cond (.t 26) (.q [.K 4 (-1)] .ret) .skip)) (.q [.m 27 6,.m 28 7,.c 29 .gtr 23 27 28] (.cond (.t 29) (.q [.K 4 1] .ret) .skip))))) (.ops [.m 16 5,.b 17 .sub 3 16 1,.m 5 17])))))) (.q [.K 4 0] .ret)))
def r_ref02_Compare:Oz Tryz.prog 20=some ⟨30,z97.r,[.tmp 4]⟩:=Aa
def zee(a b:List UInt64)(F:a.length≤1000000)(G:b.length≤1000000):O2 20 [LU a,LU b] (.i (Tk (val a) (val b))) []:=by
 refine P4.val rfl (O0 r_ref02_Compare Aa (by simp) ?_);simp[z97];refine⟨J,?_⟩;refine Ql (λD E H N=>E=[]∧N≤1000000∧lk D 0=LU a∧lk D 1=LU b∧lk D 5=.i ((N:Int)-1)∧Tk (val a) (val b)=Tk (val (a.take N)) (val (b.take N))) (N:=max a.length b.length) ⟨by simp,J,by simp,by simp,Ab,by rw[z6u J,z6u J]⟩ ?_;rintro N D E H ⟨rfl,I,C,z,j,g⟩ K A;cases N with
 |zero =>
  simp[j];rw[g];simp[val,Tk]
 |succ N =>
  have e:((N+1:Nat):Int)-1=N:=J
  rw[e]at j;simp[C,z,j];refine Pm (zc9 a N) (by simp) ?_;simp[z,j];refine Pm (zc9 b N) (by simp) ?_;rw[ew]at g;simp at g;simp;rw[g];generalize a[N]?.getD 0=x at *;generalize b[N]?.getD 0=y at *;refine⟨λl=>by rw[J8 l],λl=>⟨λB=>by rw[J2 (Oi.2 l),J8 B],λB=>?_⟩⟩;rw[J2 (Oi.2 l),J2 (Oi.2 B)]at g;simp[j];exact⟨J,A _ _ _ ⟨N,J,rfl,J,As,Al,by simp,g⟩⟩
def zgh:LC:=(.q [.e 4] (.q [.m 15 0,.w 16 47 15,.m 17 1,.w 18 47 17,.m 0 16,.m 1 18] (.q [.m 19 0,.s 20 19,.m 21 1,.s 22 21,.c 23 .add 3 20 22,.z 24 (.mkSl 1 [(.u 0)] (.t 23) (.t 23)),.m 5 24] (.seq (.q [.K 6 0] (.block 0 (.loop (.seq (.q [.m 25 6,.m 26 0,.s 27 26,.c 28 .lss 3 25 27] (.cond (.t 28) .skip (.exit 0))) (.seq (.block 1 (.q [.z 7 (.move (.c (.u 0)))] (.seq (.q [.K 8 0] (.block 2 (.loop (.seq (.q [.m 31 8,.m 32 1,.s 33 32,.c 34 .lss 3 31 33] (.cond (.t 34) .skip (.exit 2))) (.seq (.block 3 (.seq (.draw [(.m 38 0,[]),(.m 39 6,[]),(.I 40 1 38 39,[]),(.l 41 40,[]),(.m 42 1,[]),(.m 43 8,[]),(.I 44 1 42 43,[]),(.l 45 44,[]),(.W 46 48 41 45,[]),(.m 37 46,[]),(.X 47 0 37,[]),(.X 48 1 37,[]),(.m 9 47,[]),(.m 10 48,[])]) (.q [.m 50 5,.m 51 6,.m 52 8,.c 53 .add 3 51 52,.I 54 1 50 53,.l 55 54,.m 56 10,.z 57 (.w 49 [.t 55,.t 56,.F]),.m 49 57,.X 58 0 49,.X 59 1 49,.m 11 58,.m 12 59] (.q [.m 61 11,.m 62 7,.z 63 (.w 49 [.t 61,.t 62,.F]),.m 60 63,.X 64 0 60,.X 65 1 60,.m 13 64,.m 14 65] (.q [.m 66 5,.m 67 6,.m 68 8,.c 69 .add 3 67 68,.m 70 13,.I 71 1 66 69,.S 1 71 70] (.q [.m 73 9,.m 74 12,.z 75 (.w 49 [.t 73,.c (.u 0),.t 74]),.m 72 75,.X 76 0 72,.X 77 1 72,.m 7 76] (.ops [.m 79 7,.m 80 14,.z 81 (.w 49 [.t 79,.c (.u 0),.t 80]),.m 78 81,.X 82 0 78,.X 83 1 78,.m 7 82]))))))) (.ops [.m 35 8,.b 36 .add 3 35 1,.m 8 36])))))) (.ops [.m 84 5,.m 85 6,.m 86 1,.s 87 86,.c 88 .add 3 85 87,.m 89 7,.I 90 1 84 88,.S 1 90 89])))) (.ops [.m 29 6,.b 30 .add 3 29 1,.m 6 30])))))) (.q [.m 91 5,.w 92 47 91,.m 4 92] .ret)))))
def r_ref02_Mul:Oz Tryz.prog 23=some ⟨93,zgh.r,[.tmp 4]⟩:=Aa
def zdq(G H:List UInt64)(gI:G.length≤500000)(gK:H.length≤500000):O2 23 [LU G,LU H] (.dy 0 0) [RU (Xm (val G*val H))]:=by
 refine P4.row (O0 r_ref02_Mul Aa (by simp) ?_);simp[zgh];refine Pm (z8m G J) (by simp) ?_;simp[RU];refine Pm (z8m H J) (by simp) ?_;have U:=z74 G;have V:=z74 H;obtain⟨a,X⟩:∃a,Xm (val G)=a:=⟨_,rfl⟩;obtain⟨b,Y⟩:∃b,Xm (val H)=b:=⟨_,rfl⟩;have va:val G=val a:=by rw[←X,zkb]
 have vb:val H=val b:=by rw[←Y,zkb]
 rw[X]at U;rw[Y]at V;rw[X,Y,va,vb];have ha:a.length≤500000:=J
 have hb:b.length≤500000:=J
 simp[RU];refine⟨J,J,J,?_⟩;have Z:((a.length:Int)+b.length).toNat=a.length+b.length:=J
 simp[Z,repU];refine Ql (λL gF gG N=>∃(i:Nat) (g:List UInt64) (st:Nat),gF=[]∧N+i=a.length∧gG=[.dyn (g.map .u) (a.length+b.length) 1 0 st]∧lk L 0=LU a∧lk L 1=LU b∧lk L 5=.dy 0 0∧lk L 6=.i i∧mz a b i 0 g 0) (N:=a.length) ⟨0,List.replicate (a.length+b.length) 0,0,by simp[ztp]⟩ ?_;rintro N L gF gG ⟨i,g,st,rfl,hN,rfl,I,M,E,D,K⟩ Nx gg;have O:=K.1;by_cases hz:N=0
 ·have hi:i=a.length:=J
  subst hi;simp[D,I,E];refine zwt (z8m g J) (bors1 (znp.bor (l:=g) (.inr ⟨0,0,st,rfl,by simp[O]⟩))) ?_;rw[ea K];simp;exact .inr ⟨1,0,0,rfl,by simp[RU]⟩
 have hi:i<a.length:=J
 simp[D,I,hi];refine Ql (λL gF gG gH=>∃(k:Nat) (g:List UInt64) (j:UInt64) (st:Nat),gF=[]∧gH+k=b.length∧gG=[.dyn (g.map .u) (a.length+b.length) 1 0 st]∧lk L 0=LU a∧lk L 1=LU b∧lk L 5=.dy 0 0∧lk L 6=.i i∧lk L 7=.u j∧lk L 8=.i k∧mz a b i k g j) (N:=b.length) ⟨0,g,0,st,by simp[I,M,E,D,K]⟩ ?_;rintro gH L gF gG ⟨k,g,j,st,rfl,gL,rfl,I,M,E,D,h7,P,K⟩ Mx gA;have O:=K.1;by_cases gM:gH=0
 ·have Q:k=b.length:=J
  subst Q;have B:i+b.length<g.length:=J
  have z:((i:Int)+b.length).toNat=i+b.length:=J
  have A:=layU g (i+b.length) j B;simp[P,E,D,M,h7,z,A];refine⟨J,J,J,J,J,?_⟩;exact gg _ _ _ ⟨N-1,J,i+1,g.set (i+b.length) j,st+1,rfl,J,by simp,Cu,Bh,Ak,by simp,ztf hi K⟩
 have Q:k<b.length:=J
 have B:i+k<g.length:=J
 have z:((i:Int)+k).toNat=i+k:=J
 have C:=zwf hi Q K;have A:=layU g (i+k) (Uj (g.getD (i+k) 0) (a.getD i 0) (b.getD k 0) j).1 B;have F:(Uj (g.getD (i+k) 0) (a.getD i 0) (b.getD k 0) j).1=(Ow (Ow (g.getD (i+k) 0) (a.getD i 0*b.getD k 0) false).1 j false).1:=rfl;have R:(Uj (g.getD (i+k) 0) (a.getD i 0) (b.getD k 0) j).2=(Ow (Ow (Uf (a.getD i 0) (b.getD k 0)) 0 (Ow (g.getD (i+k) 0) (a.getD i 0*b.getD k 0) false).2).1 0 (Ow (Ow (g.getD (i+k) 0) (a.getD i 0*b.getD k 0) false).1 j false).2).1:=rfl;have gB:a[i]=a.getD i 0:=by simp[hi]
 have gC:b[k]=b.getD k 0:=Ee
 have gD:g[i+k]=g.getD (i+k) 0:=Aw
 generalize a.getD i 0=x at *;generalize b.getD k 0=y at *;generalize g.getD (i+k) 0=o at *;simp[P,I,M,Q,D,hi];rw[gB,gC];refine Pm (ze6 x y) (by simp) ?_;simp[E,D,P,z,B];rw[gD];refine⟨J,J,J,?_⟩;refine Pm (z5c o (x*y) false) (by simp) ?_;generalize Ow o (x*y) false=T at *;simp[h7];refine Pm (z5c T.1 j false) (by simp) ?_;generalize Ow T.1 j false=r2 at *;rw[F]at A;simp[E,D,P,z,A];refine⟨J,J,J,J,?_⟩;refine Pm (z5c (Uf x y) 0 T.2) (by simp) ?_;generalize Ow (Uf x y) 0 T.2=r3 at *;simp;refine Pm (z5c r3.1 0 r2.2) (by simp) ?_;generalize Ow r3.1 0 r2.2=r4 at *;simp[P];refine⟨J,?_⟩;rw[F,R]at C;exact gA _ _ _ ⟨gH-1,J,k+1,g.set (i+k) r2.1,r4.1,st+1,rfl,J,by simp,Cu,Bh,Ak,Ae,by simp,by simp,C⟩
def zi9:LC:=(.q [.z 10 (.alloc [(.i 0),(.i 0),(.i 0),(.i 0),(.i 0),(.i 0),(.u 0)])] (.q [.m 11 0,.m 12 1,.m 13 2,.m 14 3,.m 15 4,.z 16 (.build [(.i 0),(.i 0),(.i 0),(.i 0),(.i 0),(.i 0),(.u 0)] [(0,1,.t 11),(1,1,.t 12),(2,1,.k (-1)),(3,1,.t 13),(4,1,.t 14),(5,1,.t 15)]),.S 7 10 16] .ret))
def r_law22_op:Oz Tryz.prog 15=some ⟨17,zi9.r,[.cellN 10 7]⟩:=Aa
def z9p:LC:=(.q [.x 3 0,.z 6 (.alloc [(.i 0),.nilSl,.nilSl])] (.q [.f 10 0 3,.l 11 10,.z 12 (.build [(.i 0),.nilSl,.nilSl] [(0,1,.k 64),(1,1,.t 11)]),.z 7 (.alloc [(.i 0),.nilSl,.nilSl]),.S 3 7 12] (.seq (.q [.K 8 0] (.block 0 (.loop (.seq (.q [.m 13 8,.m 14 2,.c 15 .lss 3 13 14] (.cond (.t 15) .skip (.exit 0))) (.seq (.block 1 (.ops [.f 18 2 7,.l 19 18,.m 20 8,.z 21 (.build [(.i 0),(.i 0),(.i 0),(.i 0),(.i 0),(.i 0),(.i 0),(.u 0)] [(0,1,.k 16),(1,1,.t 20),(2,1,.k (-1)),(3,1,.k (-1)),(4,1,.k (-1)),(5,1,.k (-1)),(7,1,.c (.u 1))]),.z 22 (.buildSl 8 1 [(.i 0),(.i 0),(.i 0),(.i 0),(.i 0),(.i 0),(.i 0),(.u 0)] [(0,8,.t 21)]),.a 23 8 19 22,.f 24 2 7,.S 1 24 23])) (.ops [.m 16 8,.b 17 .add 3 16 1,.m 8 17])))))) (.q [.f 25 2 7,.l 26 25,.m 27 1,.a 28 8 26 27,.f 29 2 7,.S 1 29 28] (.seq (.q [.K 9 0] (.block 2 (.loop (.seq (.q [.m 30 9,.m 31 2,.c 32 .lss 3 30 31] (.cond (.t 32) .skip (.exit 2))) (.seq (.block 3 (.ops [.f 35 2 7,.l 36 35,.z 37 (.build [(.i 0),(.i 0),(.i 0),(.i 0),(.i 0),(.i 0),(.i 0),(.u 0)] [(0,1,.k 17),(1,1,.k (-1)),(2,1,.k (-1)),(3,1,.k (-1)),(4,1,.k (-1)),(5,1,.k (-1))]),.z 38 (.buildSl 8 1 [(.i 0),(.i 0),(.i 0),(.i 0),(.i 0),(.i 0),(.i 0),(.u 0)] [(0,8,.t 37)]),.a 39 8 36 38,.f 40 2 7,.S 1 40 39])) (.ops [.m 33 9,.b 34 .add 3 33 1,.m 9 34])))))) (.q [.L 41 3 7,.S 3 6 41] .ret))))))
def r_law22_program:Oz Tryz.prog 16=some ⟨42,z9p.r,[.cellN 6 3]⟩:=Aa
def ze5:LC:=(.q [.x 2 0,.e 4] (.q [.e 5] (.seq (.q [.K 6 0] (.block 0 (.loop (.seq (.q [.m 7 6,.f 8 0 2,.l 9 8,.s 10 9,.c 11 .lss 3 7 10] (.cond (.t 11) .skip (.exit 0))) (.seq (.block 1 (.draw [(.m 14 5,[]),(.z 15 (.buildSl 1 0 [] []),[]),(.m 16 1,[]),(.m 18 6,[]),(.z 19 (.cvInt .u64 (.t 18)),[]),(.u 20 .mul 23 19 1234567891011,[]),(.z 21 (.buildSl 1 1 [(.u 0)] [(0,1,.t 20)]),[(.z 15 (.buildSl 1 0 [] []),true)]),(.f 23 0 2,[]),(.l 24 23,[]),(.m 25 6,[]),(.I 26 3 24 25,[]),(.f 27 0 26,[]),(.l 28 27,[]),(.a 17 1 15 16,[(.l 28 27,false),(.l 24 23,false),(.z 21 (.buildSl 1 1 [(.u 0)] [(0,1,.t 20)]),true)]),(.a 22 1 17 21,[(.l 28 27,false),(.l 24 23,false)]),(.W 29 41 22 28,[]),(.z 30 (.buildSl 1 1 [.nilSl] [(0,1,.t 29)]),[]),(.a 31 1 14 30,[]),(.m 5 31,[])])) (.ops [.m 12 6,.b 13 .add 3 12 1,.m 6 13])))))) (.q [.m 32 5,.m 4 32] .ret))))
def r_law22_rows:Oz Tryz.prog 18=some ⟨33,ze5.r,[.tmp 4]⟩:=Aa
def zec{bs:List Bf}{P:LV}{W:List LV}{L:List Lo}{deep:Nat}(hd:deep≤100)(hL:L.length≤1000000)(hW:∃a b c d e f,W=[.i a,.i b,.i c,.i d,.i e,.i f]) :
  Rd 16 [.agg (.lst (Qs bs) bs.length 3::P::W),.lst (Se L) L.length 8,.i deep] (.agg (Oq ((64:Nat):Int) bs (Sj deep 0++(L++List.replicate deep Vu)))):=by
 obtain⟨w1,w2,w3,w4,w5,w6,rfl⟩:=hW;refine T2.mk (by simp[LV.dat,zej]) (O0 r_law22_program Aa (by simp) ?_);simp[z9p];refine Ql (λO gg Q Y=>∃(i st E:Nat) (v:LV),gg=[]∧Y+i=deep∧lk O 1=.lst (Se L) L.length 8∧lk O 2=.i deep∧lk O 6=.ptr 1 0∧lk O 7=.ptr 2 0∧lk O 8=.i i∧3≤Q.length∧Q[1]?=some (.cells [.i 0,.nilSl,.nilSl] E)∧Q[2]?=some (.cells [.i 64,.lst (Qs bs) bs.length 3,v] st)∧Qt 3 Q v 8 (Sj i 0).length (Se (Sj i 0))) (N:=deep)
  ⟨0,1,0,.nilSl,rfl,J,by simp,by simp,by simp,by simp,by simp,by simp,by simp,by simp,Qt.nil⟩ ?_
 rintro Y O gg Q ⟨i,st,E,v,rfl,hN,V,F,G,C,X,hl,K,H,M⟩ Nx I;by_cases gA:i<deep
 ·have g':(i:Int)<deep:=J
  simp[V,F,G,C,X,H,gA];refine M.push_end.push (c:=1) J Ab (by rw[lpsL_len];omega) (by simp) rfl λR G5 g j D=>?_
  have z:=(j 2 J).trans ((Oo J).trans H);have A:=(j 1 J).trans ((Oo J).trans K);have B:=g.cells;simp[-LV.cells,B,C,z,X];refine⟨J,I _ _ _ ⟨Y-1,J,i+1,st+1,E,R,rfl,J,Gq,Ao,Bn,As,by simp,by simp at D ⊢;omega,?_,?_,?_⟩⟩
  ·rw[Jy J];exact A
  ·exact J1 (Jx.1 z).1
  ·rw[lpsL_snoc,J7,ns,Int.zero_add];exact g.set_lt J
 ·have hi:i=deep:=J
  subst hi;simp[V,F,G,C,X,H];refine⟨J,?_⟩;refine M.push (c:=L.length) J J (by rw[lpsL_len];omega) (zbp L) (Uk L) λR G5 g j D=>?_
  have z:=(j 2 J).trans H;have A:=(j 1 J).trans K;have B:=g.cells;simp[-LV.cells,B,C,z];have T:=(Jx.1 z).1;refine Ql (λO gg Q Y=>∃(U st E:Nat) (v:LV),gg=[]∧Y+U=i∧lk O 2=.i i∧lk O 6=.ptr 1 0∧lk O 7=.ptr 2 0∧lk O 9=.i U∧3≤Q.length∧Q[1]?=some (.cells [.i 0,.nilSl,.nilSl] E)∧Q[2]?=some (.cells [.i 64,.lst (Qs bs) bs.length 3,v] st)∧Qt 3 Q v 8 (Sj i 0++(L++List.replicate U Vu)).length (Se (Sj i 0++(L++List.replicate U Vu)))) (N:=i)
   ⟨0,st+1,E,R,rfl,J,Ao,Bn,As,by simp,Ab,?_,J1 T,?_⟩ ?_
  ·rw[Jy J];exact A
  ·simp only[List.replicate_zero,Lf,J7];rw[ns];exact g.set_lt J
  clear V F G C X hl K H M z A T g j D B I Nx;rintro Y O gg Q ⟨U,st,E,v,rfl,hN,F,G,C,Z,hl,K,H,M⟩ Nx I;by_cases gA:U<i
  ·simp[F,G,C,Z,H,gA];refine M.push_end.push (c:=1) J Ab (by simp[lpsL_len];omega) (by simp) rfl λR G5 g j D=>?_
   have z:=(j 2 J).trans ((Oo J).trans H);have A:=(j 1 J).trans ((Oo J).trans K);have B:=g.cells;simp[-LV.cells,B,C,z,Z];refine⟨J,I _ _ _ ⟨Y-1,J,U+1,st+1,E,R,rfl,J,Ao,Bn,As,by simp,by simp at D ⊢;omega,?_,?_,?_⟩⟩
   ·rw[Jy J];exact A
   ·exact J1 (Jx.1 z).1
   ·rw[show Sj i 0++(L++List.replicate (U+1) Vu)=(Sj i 0++(L++List.replicate U Vu))++[Vu] by rw[List.replicate_succ'];simp,J7,ns];exact g.set_lt J
  ·have hj:U=i:=J
   subst hj;have hb:=(M.set_lt (q:=1) (ob:=.cells [.i 64,.lst (Qs bs) bs.length 3,v] (E+1)) J).bor;simp[-Ra,F,G,C,Z,H,K];rw[J1 (Jx.1 K).1];refine⟨by simp,_,_,rfl,⟨rfl,rfl⟩,_,_,rfl,⟨rfl,by simp[LV.dat,Uy]⟩,_,_,rfl,hb,rfl⟩
def zs5{bs:List Bf}{w5 w6:Int}{fill:List UInt64}(hs:∀b∈bs,0≤b.size∧b.size≤1000000)(hb:bs.length≤1000)(gB:fill.length≤1000)
  (kk:∀(F:List (List UInt64)) (p A st:Nat) (G:Ok),F.length=bs.length→(∀i,i<bs.length→((F.getD i []).length:Int)=(Oy bs i).size)→(∀q,q<P.length→G[q]?=P[q]?)→P.length≤p→P.length≤G.length→bs≠[]→G[p]?=some (.dyn (F.map LU) F.length 1 A st)→vZ (.dy p A) G) (H:bs≠[]) :
  Qa (.fn 18) [.agg [.lst (Qs bs) bs.length 3,Q,.i z,.i B,.i vY,.i vH,.i w5,.i w6],.lst (fill.map .u) fill.length 1] P vZ:=by
 refine O0 r_law22_rows Aa (by simp) ?_;simp[ze5];refine Ql (λρ gD D N=>∃(i T:Nat) (v:LV) (F:List (List UInt64)),gD=[]∧N+i=bs.length∧lk ρ 1=.lst (fill.map .u) fill.length 1∧lk ρ 2=.ptr P.length 0∧lk ρ 5=v∧lk ρ 6=.i i∧P.length<D.length∧(∀q,q<P.length→D[q]?=P[q]?) ∧
   D[P.length]?=some (.cells [.lst (Qs bs) bs.length 3,Q,.i z,.i B,.i vY,.i vH,.i w5,.i w6] T)∧F.length=i∧(∀U,U<i→((F.getD U []).length:Int)=(Oy bs U).size)∧Qt (P.length+1) D v 1 i (F.map LU)) (N:=bs.length)
  ⟨0,0,.nilSl,[],rfl,J,by simp,by simp,by simp,by simp,by simp,λq E=>J6 E,by simp,rfl,λU h=>J,Qt.nil⟩ ?_
 rintro N ρ gD D ⟨i,T,v,F,rfl,hN,h1,V,h5,X,I,K,C,j,hX,hD⟩ Nx Y;by_cases gA:i<bs.length
 ·have q0:=uu (S8 gA);have E:=sx gA;have hz:=hs _ (Kg (S8 gA));have pp:∀x:List LObj,(D++x)[P.length]?=_:=λx=>(Oo I).trans C
  simp[h1,V,h5,X,C,↓pp,gA,Ov q0];refine⟨J,J,?_⟩;obtain⟨gC,L⟩:=J3 hz.1;rw[L];generalize T8 (iU ↑i) 1234567891011=g;have o1:(D++[LObj.dyn (fill.map .u++[.u g]) (fill.length+1) 1 2 2,LObj.dyn [.u g] 1 1 0 0])[D.length]?=some (.dyn ((fill++[g]).map .u) (fill++[g]).length 1 2 2):=by
   rw[Kj (J4 _),N5];simp
  have o2:=λq (E:q<D.length)=>(Oo (x:=[LObj.dyn (fill.map .u++[.u g]) (fill.length+1) 1 2 2,LObj.dyn [.u g] 1 1 0 0]) E)
  have o3:=hD.push_end (ob:=[LObj.dyn (fill.map .u++[.u g]) (fill.length+1) 1 2 2,LObj.dyn [.u g] 1 1 0 0]);have o4:(D++[LObj.dyn (fill.map .u++[.u g]) (fill.length+1) 1 2 2,LObj.dyn [.u g] 1 1 0 0]).length=D.length+2:=by simp
  generalize D++[LObj.dyn (fill.map .u++[.u g]) (fill.length+1) 1 2 2,LObj.dyn [.u g] 1 1 0 0]=GA at *;refine Pm (zoi (fill++[g]) gC J Ab (by simp)) ⟨_,_,rfl,⟨_,_,_,_,rfl,o1,Xd _⟩,_,_,rfl,⟨rfl,rfl⟩,rfl⟩ ?_;have M:=zmv (fill++[g]) gC;generalize zrf (fill++[g]) gC=gF at *;simp[RU];refine Qt.push (c:=1) (x:=[LU gF]) (o3.push_end) J Ab J rfl Bl λv' G Z O gg=>?_
  simp at gg;simp[X];refine⟨J,Y _ _ _ ⟨N-1,J,i+1,T,v',F++[gF],rfl,J,by simp[h1],Gq,by simp,by simp,J,?_,?_,Ay,?_,?_⟩⟩
  ·intro q E;rw[O q J,Oo J,o2 q J];exact K q E
  ·rw[O _ J,Oo J,o2 _ I];exact C
  ·intro U hj;by_cases e:U=i
   ·subst e;rw[J0,←j,Ke,j,L];simp[M]
   ·rw[J0,J6 J,←J0];exact hX U J
  ·rw[Ni];exact Z
 ·have gi:i=bs.length:=J
  subst gi;obtain⟨_,_,⟨_,e0,_⟩|⟨p,A,st,hp,rfl,R⟩⟩:=hD
  ·exact absurd (Kk e0) H
  simp[V,h5,X,C];exact kk F p A st D j (λi hi=>hX i hi) K J J H (by rw[j];exact R)
def z63(g d a b:Int):Rd 15 [.i g,.i d,.i a,.i b,.i (-1)] (.agg (oX g d a b).f):=by
 refine T2.mk (by simp[LV.dat,dats,Ko.f]) (O0 r_law22_op Aa N ?_);simp[zi9,oX,Ko.f]
section
set_option linter.unusedVariables false
def z1b:LC:=(.q [.F 6] (.seq (.q [.z 26 (.w 5 []),.z 27 (.un .not (.t 26))] (.cond (.t 27) (.q [.F 6] .ret) .skip)) (.seq (.q [.m 28 1,.s 29 28,.b 30 .gtr 3 29 40] (.cond (.t 30) (.q [.z 6 (.move .T)] .ret) .skip)) (.q [.m 31 0,.z 32 (.w 10 [.t 31,.k 9]),.z 33 (.bin .add true 3 (.k 1) (.t 32)),.m 7 33] (.q [.m 34 7,.z 35 (.build [(.i 0),(.bool false),(.i 0)] [(0,1,.t 34)]),.m 36 7,.z 37 (.build [(.i 0),(.bool false),(.i 0)] [(0,1,.t 36)]),.m 38 7,.b 39 .add 3 38 1,.z 40 (.build [(.i 0),(.bool false),(.i 0)] [(0,1,.t 39)]),.m 41 7,.z 42 (.build [(.i 0),(.bool false),(.i 0)] [(0,1,.t 41)]),.m 43 7,.z 44 (.bin .mul true 3 (.k 2) (.t 43)),.z 45 (.build [(.i 0),(.bool false),(.i 0)] [(0,1,.t 44)]),.m 46 7,.z 47 (.bin .mul true 3 (.k 2) (.t 46)),.z 48 (.build [(.i 0),(.bool false),(.i 0)] [(0,1,.t 47)]),.z 49 (.build [(.i 0),(.bool false),(.i 0)] [(0,1,.k 1)]),.z 50 (.buildSl 3 7 [(.i 0),(.bool false),(.i 0),(.i 0),(.bool false),(.i 0),(.i 0),(.bool false),(.i 0),(.i 0),(.bool false),(.i 0),(.i 0),(.bool false),(.i 0),(.i 0),(.bool false),(.i 0),(.i 0),(.bool false),(.i 0)] [(0,3,.t 35),(3,3,.t 37),(6,3,.t 40),(9,3,.t 42),(12,3,.t 45),(15,3,.t 48),(18,3,.t 49)]),.m 8 50] (.seq (.q [.K 9 0] (.block 0 (.loop (.seq (.q [.m 51 9,.m 52 8,.s 53 52,.c 54 .lss 3 51 53] (.cond (.t 54) .skip (.exit 0))) (.seq (.block 1 (.ops [.m 57 8,.m 58 9,.m 59 2,.z 60 (.un .not (.t 59)),.I 61 3 57 58,.f 62 1 61,.S 1 62 60])) (.ops [.m 55 9,.b 56 .add 3 55 1,.m 9 56])))))) (.q [.z 63 (.w 15 [(.k 3),.k 2,.k 0,.k 1,.k (-1)]),.z 64 (.w 15 [(.k 4),.k 3,.k 2,.k 1,.k (-1)]),.z 65 (.w 15 [(.k 5),.k 4,.k 0,.k 1,.k (-1)]),.z 66 (.w 15 [(.k 6),.k 5,.k 1,.k 0,.k (-1)]),.z 67 (.w 15 [(.k 7),.k 6,.k 0,.k 1,.k (-1)]),.z 68 (.buildSl 7 5 [(.i 0),(.i 0),(.i 0),(.i 0),(.i 0),(.i 0),(.u 0),(.i 0),(.i 0),(.i 0),(.i 0),(.i 0),(.i 0),(.u 0),(.i 0),(.i 0),(.i 0),(.i 0),(.i 0),(.i 0),(.u 0),(.i 0),(.i 0),(.i 0),(.i 0),(.i 0),(.i 0),(.u 0),(.i 0),(.i 0),(.i 0),(.i 0),(.i 0),(.i 0),(.u 0)] [(0,7,.t 63),(7,7,.t 64),(14,7,.t 65),(21,7,.t 66),(28,7,.t 67)]),.m 10 68] (.q [.K 11 1] (.seq (.q [.K 12 0] (.block 2 (.loop (.seq (.q [.m 69 12,.m 70 10,.s 71 70,.c 72 .lss 3 69 71] (.cond (.t 72) .skip (.exit 2))) (.seq (.block 3 (.ops [.m 75 11,.m 76 8,.m 77 10,.m 78 12,.I 79 7 77 78,.L 80 7 79,.W 81 11 76 80,.z 82 (.maxi true (.t 75) (.t 81)),.m 11 82])) (.ops [.m 73 12,.b 74 .add 3 73 1,.m 12 74])))))) (.seq (.q [.m 83 11,.m 84 7,.z 85 (.bin .mul true 3 (.k 16) (.t 84)),.b 86 .add 3 85 16,.c 87 .gtr 3 83 86] (.cond (.t 87) (.q [.F 6] .ret) .skip)) (.q [.m 88 8,.m 89 11,.W 90 13 88 89,.z 13 (.alloc [.nilSl,.nilSl,(.i 0),(.i 0),(.i 0),(.i 0),(.i 0),(.i 0)]),.S 8 13 90] (.q [.e 14] (.seq (.q [.K 15 0] (.block 4 (.loop (.seq (.q [.m 91 15,.m 92 10,.s 93 92,.c 94 .lss 3 91 93] (.cond (.t 94) .skip (.exit 4))) (.seq (.block 5 (.seq (.draw [(.m 98 8,[]),(.m 99 10,[]),(.m 100 15,[]),(.I 101 7 99 100,[]),(.L 102 7 101,[]),(.L 103 8 13,[]),(.z 104 (.w 12 [.t 98,.t 102,.t 103,.k 0]),[]),(.m 97 104,[]),(.X 105 0 97,[]),(.X 106 1 97,[]),(.m 16 105,[]),(.m 17 106,[])]) (.seq (.q [.m 107 17,.b 108 .neq 37 107 0] (.cond (.t 108) (.q [.F 6] .ret) .skip)) (.ops [.m 109 14,.m 110 16,.a 111 8 109 110,.m 14 111])))) (.ops [.m 95 15,.b 96 .add 3 95 1,.m 15 96])))))) (.q [.L 112 8 13,.m 113 14,.z 114 (.w 16 [.t 112,.t 113,.k 0]),.z 18 (.alloc [(.i 0),.nilSl,.nilSl]),.S 3 18 114] (.q [.L 116 3 18,.w 117 17 116,.m 115 117,.X 118 0 115,.X 119 1 115,.m 19 118,.m 20 119] (.q [.L 120 8 13,.m 121 1,.W 122 18 120 121,.m 21 122] (.q [.L 124 3 18,.m 125 21,.W 126 19 124 125,.m 123 126,.X 127 0 123,.X 128 1 123,.X 129 2 123,.m 22 127,.m 23 128,.m 24 129] (.seq (.q [.m 130 20,.b 131 .neq 37 130 0,.m 132 131,.mn 133 132 24,.nb 134 132 .neq 37 133 0,.p 135 132 134] (.cond (.t 135) (.q [.F 6] .ret) .skip)) (.q [.z 25 (.move (.c (.u 0)))] (.seq (.seq (.draw [(.m 136 21,[]),(.z 137 (.ixAddr 1 (.t 136) (.k 0)),[]),(.l 138 137,[]),(.m 139 21,[]),(.z 140 (.ixAddr 1 (.t 139) (.k 1)),[]),(.l 141 140,[]),(.W 142 20 138 141,[]),(.b 143 .lss 3 142 0,[])]) (.cond (.t 143) (.ops [.z 25 (.move (.c (.u 1)))]) .skip)) (.seq (.draw [(.m 144 22,[]),(.z 145 (.ixAddr 1 (.t 144) (.k 3)),[]),(.l 146 145,[]),(.m 147 21,[]),(.z 148 (.ixAddr 1 (.t 147) (.k 0)),[]),(.l 149 148,[]),(.W 150 21 146 149,[]),(.m 151 150,[]),(.my 152 151 22,[]),(.y 153 151 (.ixAddr 1 (.t 152) (.k 4)),[]),(.yl 154 151 153,[]),(.my 155 151 22,[]),(.y 156 151 (.ixAddr 1 (.t 155) (.k 5)),[]),(.yl 157 151 156,[]),(.y 158 151 (.w 21 [.t 154,.t 157]),[]),(.q 159 151 158,[]),(.m 160 159,[]),(.my 161 160 22,[]),(.y 162 160 (.ixAddr 1 (.t 161) (.k 6)),[]),(.yl 163 160 162,[]),(.y 164 160 (.ixAddr 1 (.t 163) (.k 0)),[]),(.yl 165 160 164,[]),(.my 166 160 25,[]),(.y 167 160 (.bin .eql false 23 (.t 165) (.t 166)),[]),(.q 168 160 167,[]),(.m 169 168,[]),(.my 170 169 22,[]),(.y 171 169 (.ixAddr 1 (.t 170) (.k 4)),[]),(.yl 172 169 171,[]),(.my 173 169 21,[]),(.y 174 169 (.ixAddr 1 (.t 173) (.k 0)),[]),(.yl 175 169 174,[]),(.my 176 169 21,[]),(.y 177 169 (.ixAddr 1 (.t 176) (.k 1)),[]),(.yl 178 169 177,[]),(.y 179 169 (.w 23 [.t 175,.t 178]),[(.yl 172 169 171,false)]),(.y 180 169 (.w 22 [.t 172,.t 179]),[]),(.q 181 169 180,[]),(.m 6 181,[])]) .ret)))))))))))))))))))))
def r_law22_ExpandChains:Oz Tryz.prog 4=some ⟨182,z1b.r,[.tmp 6]⟩:=Aa
def Yh(n i:Nat)(s:Bool):List LV:=[.i n,.bool (if 0<i then s else false),.i 0,.i n,.bool (if 1<i then s else false),.i 0,.i ((n:Int)+1),.bool (if 2<i then s else false),.i 0,.i n,.bool (if 3<i then s else false),.i 0,.i (2*(n:Int)),.bool (if 4<i then s else false),.i 0,.i (2*(n:Int)),.bool (if 5<i then s else false),.i 0,.i 1,.bool (if 6<i then s else false),.i 0]
def Rb(n:Nat)(s:Bool)(i:Nat):List Lo:=(([(Ue n (n+1) (r7 s)).flat,(Wr n (r7 s)).flat,(V0 n (r7 s) (Qi n s)).flat,(W3 n (r7 s) (Qi n s)).flat,(Wt n (r7 s)).flat]).take i).flatten
def zjo{n:Nat}{s:Bool}:Rb n s 5=(Px n (r7 s) (Qi n s)).flat:=by
 unfold Rb Px;simp[T1]
def zdd{n i:Nat}{s:Bool}:(Rb n s i).length≤60000:=by
 have h:=zno (n:=n) (R:=r7 s) (w:=Qi n s);rw[←zjo]at h;refine K4 ?_ h;unfold Rb;rcases i with _|_|_|_|_|i<;>simp<;>omega
def yg(n:Nat)(s:Bool):List LV:=Rx (Ps (v7 n s) (O9 n)) (Qy (v7 n s)) ⟨(v7 n s).length,0,O9 n⟩ ⟨((v7 n s).length:Int)+1,0,O9 n⟩
def zv8{n:Nat}{s:Bool}(h:1≤n∧n≤9){o:Ko}{f:Fr Lo}(g:o∈[oX 3 2 0 1,oX 4 3 2 1,oX 5 4 0 1,oX 6 5 1 0,oX 7 6 0 1])(z:U8 o.kind o.imm (Qc (Qy (v7 n s)) o.d) (Qc (Qy (v7 n s)) o.a) (Qc (Qy (v7 n s)) o.b) (Qi n s).p ((r7 s:Nat):Int) 0=f.flat) :
  Rd 12 [.lst (Qx (v7 n s)) 7 3,.agg o.f,.agg (yg n s),.i 0] (.tup [.lst (Se f.flat) f.flat.length 8,.i 0]):=by
 have A:o.kind≤7:=by
  simp only[J9,Lp,Nd]at g;rcases g with rfl|rfl|rfl|rfl|rfl<;>decide
 have j:=zhq (v7 n s) o (Ps (v7 n s) (O9 n)) (Qy (v7 n s)) ⟨(v7 n s).length,0,O9 n⟩ ⟨((v7 n s).length:Int)+1,0,O9 n⟩ 0 A Df (by rw[plB_len];simp[v7]);rw[(zwa h g).1,(zwa h g).2,z]at j;exact j
set_option maxHeartbeats 4000000 in
def z8x(Y:Int)(fill:List UInt64)(gB:Bool)(_:V1 Y)(j0:fill.length≤9223372036854775807):Qa (.fn 4) [.i Y,LU fill,.bool gB] [] λv _=>v=.bool true:=by
 refine cq r_law22_ExpandChains Aa (by simp) ?_;refine Yj (Φ:=λI gG gO=>∃n st:Nat,(1≤n∧n≤9)∧fill.length≤40∧gG=[]∧lk I 1=LU fill∧lk I 7=.i n∧lk I 8=.dy 0 0∧gO=[.dyn (Yh n 7 (!gB)) 7 3 0 st]) 5 _ rfl (λNx Z=>?_) (λI gG gO hΦ=>?_)
 ·simp[z1b,Yr,LU];refine Pm law22_lives_ok (by simp) ?_;by_cases hn:(40:Int)<fill.length
  ·simp[hn]
  simp[hn];obtain⟨k,hk,hK⟩:=zo4 Y 9 J;refine Pm hK (by simp) ?_;simp
  repeat (refine⟨J,?_⟩)
  refine Ql (λI gG G' N=>∃i st:Nat,gG=[]∧N+i=7∧lk I 1=LU fill∧lk I 2=.bool gB∧lk I 7=.i ((1+k:Nat):Int)∧lk I 8=.dy 0 0∧lk I 9=.i i∧G'=[.dyn (Yh (1+k) i (!gB)) 7 3 0 st]) (N:=7)
   ⟨0,0,rfl,J,by simp[LU],by simp,by simp,by simp,by simp,Dd⟩ ?_
  rintro N I gG G5 ⟨i,st,rfl,hN,z,a2,H,A,a9,rfl⟩ jI j;by_cases zI:i<7
  ·have hi:i=0∨i=1∨i=2∨i=3∨i=4∨i=5∨i=6:=J
   rcases hi with rfl|rfl|rfl|rfl|rfl|rfl|rfl
   all_goals simp[z,a2,H,A,a9,Yh]
   ·exact j _ _ _ ⟨N-1,J,1,st+1,rfl,J,Al,Er,Am,At,by simp,Dd⟩
   ·exact j _ _ _ ⟨N-1,J,2,st+1,rfl,J,Al,Er,Am,At,by simp,Dd⟩
   ·exact j _ _ _ ⟨N-1,J,3,st+1,rfl,J,Al,Er,Am,At,by simp,Dd⟩
   ·exact j _ _ _ ⟨N-1,J,4,st+1,rfl,J,Al,Er,Am,At,by simp,Dd⟩
   ·exact j _ _ _ ⟨N-1,J,5,st+1,rfl,J,Al,Er,Am,At,by simp,Dd⟩
   ·exact j _ _ _ ⟨N-1,J,6,st+1,rfl,J,Al,Er,Am,At,by simp,Dd⟩
   ·exact j _ _ _ ⟨N-1,J,7,st+1,rfl,J,Al,Er,Am,At,by simp,Dd⟩
  ·have hi:i=7:=J
   subst hi;simp[A,a9,Yh];exact Z _ _ _ ⟨1+k,st,J,J,rfl,Al,Am,At,Dd⟩
 obtain⟨n,st,hn,j5,rfl,h1,h7,h8,rfl⟩:=hΦ;refine ni (t:=8) (p:=0) rfl h8 ?_;generalize hs:(!gB)=s;have hv:Yh n 7 s=Qx (v7 n s):=rfl;have gC:(v7 n s).length=7:=rfl;rw[hv];refine Yj (Φ:=λI gG gO=>∃gU:Nat,gG=[]∧lk I 1=LU fill∧lk I 7=.i n∧lk I 8=.lst (Qx (v7 n s)) 7 3∧lk I 10=.dy 1 0∧gO=[.dead (st+1),.dyn (Rm [oX 3 2 0 1,oX 4 3 2 1,oX 5 4 0 1,oX 6 5 1 0,oX 7 6 0 1]) 5 7 0 gU]) 0 _ rfl (λNx Z=>?_) (λI gG gO hΦ=>?_)
 ·simp[z1b,Yr];refine Sx (z63 3 2 0 1) Bq ?_;simp[Ko.f,oX];refine Sx (z63 4 3 2 1) Bq ?_;simp[Ko.f,oX];refine Sx (z63 5 4 0 1) Bq ?_;simp[Ko.f,oX];refine Sx (z63 6 5 1 0) Bq ?_;simp[Ko.f,oX];refine Sx (z63 7 6 0 1) Bq ?_;simp[Ko.f,oX];exact Z _ _ _ ⟨0,rfl,by simp[h1],by simp[h7],by simp,by simp,rfl⟩
 clear h1 h7 h8;obtain⟨gU,rfl,h1,h7,h8,gV,rfl⟩:=hΦ;refine ni (t:=10) (p:=1) rfl gV ?_;obtain⟨c1,c2,c3,c4,c5⟩:=codes7 (n:=n) (s:=s);have e1:=zv8 (s:=s) hn (o:=oX 3 2 0 1) (by simp) c1;have e2:=zv8 (s:=s) hn (o:=oX 4 3 2 1) (by simp) c2;have e3:=zv8 (s:=s) hn (o:=oX 5 4 0 1) (by simp) c3;have e4:=zv8 (s:=s) hn (o:=oX 6 5 1 0) (by simp) c4;have e5:=zv8 (s:=s) hn (o:=oX 7 6 0 1) (by simp) c5;clear c1 c2 c3 c4 c5;refine Yj (Φ:=λI gG gO=>∃p U st:Nat,gG=[]∧lk I 1=LU fill∧lk I 13=.ptr 2 0∧lk I 14=.dy p U∧3≤p∧gO[2]?=some (.cells (yg n s) 1)∧gO[p]?=some (.dyn (Se (Rb n s 5)) (Rb n s 5).length 8 U st)) 5 _ rfl (λNx Z=>?_) (λI gG gO hΦ=>?_)
 ·have hW:=zv9 (s:=s) hn;obtain⟨w1,w2,w3,w4,w5⟩:=hW;have hH:2*(n:Int)≤O9 n∧O9 n≤16*n+16:=Et
  simp[z1b,Yr,h1,h7,h8];refine Ql (λI gG G' N=>∃i:Nat,gG=[]∧N+i=5∧lk I 1=LU fill∧lk I 7=.i n∧lk I 8=.lst (Qx (v7 n s)) 7 3∧lk I 10=.lst (Rm [oX 3 2 0 1,oX 4 3 2 1,oX 5 4 0 1,oX 6 5 1 0,oX 7 6 0 1]) 5 7∧lk I 11=.i (if i≤2 then 1 else if i=3 then 2*(n:Int) else O9 n)∧lk I 12=.i i∧G'=[.dead (st+1),.dead (gU+1)]) (N:=5)
   ⟨0,rfl,J,by simp[h1],by simp[h7],by simp[h8],by simp,by simp,by simp,rfl⟩ ?_
  clear h1 h7 h8 gV;rintro N I gG G5 ⟨i,rfl,hN,z,H,A,g,V,C,rfl⟩ jI j;by_cases zI:i<5
  ·have hi:i=0∨i=1∨i=2∨i=3∨i=4:=J
   rcases hi with rfl|rfl|rfl|rfl|rfl
   ·simp[z,H,A,g,V,C,Rm,oX,Ko.f];refine Pm (z2q (v7 n s) (oX 3 2 0 1) Df) (bors_self _ B3) ?_;simp[w1,C];exact j _ _ _ ⟨N-1,J,1,rfl,J,Al,Am,At,Be,by first|(simp;done)|(simp;omega),by simp,rfl⟩
   ·simp[z,H,A,g,V,C,Rm,oX,Ko.f];refine Pm (z2q (v7 n s) (oX 4 3 2 1) Df) (bors_self _ B3) ?_;simp[w2,C];exact j _ _ _ ⟨N-1,J,2,rfl,J,Al,Am,At,Be,by first|(simp;done)|(simp;omega),by simp,rfl⟩
   ·simp[z,H,A,g,V,C,Rm,oX,Ko.f];refine Pm (z2q (v7 n s) (oX 5 4 0 1) Df) (bors_self _ B3) ?_;simp[w3,C];exact j _ _ _ ⟨N-1,J,3,rfl,J,Al,Am,At,Be,by first|(simp;done)|(simp;omega),by simp,rfl⟩
   ·simp[z,H,A,g,V,C,Rm,oX,Ko.f];refine Pm (z2q (v7 n s) (oX 6 5 1 0) Df) (bors_self _ B3) ?_;simp[w4,C];exact j _ _ _ ⟨N-1,J,4,rfl,J,Al,Am,At,Be,by first|(simp;done)|(simp;omega),by simp,rfl⟩
   ·simp[z,H,A,g,V,C,Rm,oX,Ko.f];refine Pm (z2q (v7 n s) (oX 7 6 0 1) Df) (bors_self _ B3) ?_;simp[w5,C];exact j _ _ _ ⟨N-1,J,5,rfl,J,Al,Am,At,Be,by first|(simp;done)|(simp;omega),by simp,rfl⟩
  ·have hi:i=5:=J
   subst hi;simp at V;simp[z,H,A,g,V,C];refine⟨J,J,hH.2,λ_=>?_⟩;have jK:=zkz (v7 n s) (O9 n) Df;refine Sx jK Do ?_;have jL:Rx (Vo (v7 n s)++[⟨O9 n,2,false⟩,⟨O9 n,2,true⟩]) (Qy (v7 n s)) ⟨(v7 n s).length,0,O9 n⟩ ⟨((v7 n s).length:Int)+1,0,O9 n⟩=yg n s:=rfl;have gX:yg n s=[.lst (Qs (Ps (v7 n s) (O9 n))) (Ps (v7 n s) (O9 n)).length 3,.lst (Wl (Qy (v7 n s))) (Qy (v7 n s)).length 3,.i ((v7 n s).length:Nat),.i 0,.i (O9 n),.i (((v7 n s).length:Int)+1),.i 0,.i (O9 n)]:=rfl;rw[jL];have gD:dats (yg n s)=true:=zab _ _ _ _;generalize j6:yg n s=PP at *;have M:PP.length=8:=by rw[gX];rfl
   have gF:List.take 8 PP=PP:=Kf J;have j7:PP++List.drop 8 [LV.nilSl,LV.nilSl,.i 0,.i 0,.i 0,.i 0,.i 0,.i 0]=PP:=by simp
   simp[M,g];refine Ql (λI gG G' N=>∃(i:Nat) (v:LV),gG=[]∧N+i=5∧lk I 1=LU fill∧lk I 8=.lst (Qx (v7 n s)) 7 3∧lk I 10=.lst (Rm [oX 3 2 0 1,oX 4 3 2 1,oX 5 4 0 1,oX 6 5 1 0,oX 7 6 0 1]) 5 7∧lk I 13=.ptr 2 0∧lk I 14=v∧lk I 15=.i i∧3≤G'.length∧G'[2]?=some (.cells PP 1)∧Qt 3 G' v 8 (Rb n s i).length (Se (Rb n s i))) (N:=5)
    ⟨0,.nilSl,rfl,J,Al,At,A1,by simp,by simp,by simp,by simp,by simp,Qt.nil⟩ ?_
   clear z H A g V C;rintro N I gG G6 ⟨i,v,rfl,hN,z,A,g,D,E,F,gl,g2,hv⟩ j8 X;have j9:=zdd (n:=n) (s:=s) (i:=i);by_cases zI:i<5
   ·have hi:i=0∨i=1∨i=2∨i=3∨i=4:=J
    rcases hi with rfl|rfl|rfl|rfl|rfl
    ·simp[z,A,g,D,E,F,g2,Rm,oX,Ko.f,M,gF];have hL:=zdd (n:=n) (s:=s) (i:=1);refine Sx e1 Br ?_;simp[E];have B:Rb n s 1=Rb n s 0++(Ue n (n+1) (r7 s)).flat:=Hh
     rw[B,J7]at hL;refine⟨J,?_⟩;refine hv.push (c:=(Ue n (n+1) (r7 s)).flat.length) J J J (zbp _) (Uk _) λv' G7 O Q gC=>?_
     have T:=(Q 2 J).trans g2;simp[F];exact X _ _ _ ⟨N-1,J,1,v',rfl,J,Al,At,Be,Ae,by simp,by simp,J,T,Cv⟩
    ·simp[z,A,g,D,E,F,g2,Rm,oX,Ko.f,M,gF];have hL:=zdd (n:=n) (s:=s) (i:=2);refine Sx e2 Br ?_;simp[E];have B:Rb n s 2=Rb n s 1++(Wr n (r7 s)).flat:=Hh
     rw[B,J7]at hL;refine⟨J,?_⟩;refine hv.push (c:=(Wr n (r7 s)).flat.length) J J J (zbp _) (Uk _) λv' G7 O Q gC=>?_
     have T:=(Q 2 J).trans g2;simp[F];exact X _ _ _ ⟨N-1,J,2,v',rfl,J,Al,At,Be,Ae,by simp,by simp,J,T,Cv⟩
    ·simp[z,A,g,D,E,F,g2,Rm,oX,Ko.f,M,gF];have hL:=zdd (n:=n) (s:=s) (i:=3);refine Sx e3 Br ?_;simp[E];have B:Rb n s 3=Rb n s 2++(V0 n (r7 s) (Qi n s)).flat:=Hh
     rw[B,J7]at hL;refine⟨J,?_⟩;refine hv.push (c:=(V0 n (r7 s) (Qi n s)).flat.length) J J J (zbp _) (Uk _) λv' G7 O Q gC=>?_
     have T:=(Q 2 J).trans g2;simp[F];exact X _ _ _ ⟨N-1,J,3,v',rfl,J,Al,At,Be,Ae,by simp,by simp,J,T,Cv⟩
    ·simp[z,A,g,D,E,F,g2,Rm,oX,Ko.f,M,gF];have hL:=zdd (n:=n) (s:=s) (i:=4);refine Sx e4 Br ?_;simp[E];have B:Rb n s 4=Rb n s 3++(W3 n (r7 s) (Qi n s)).flat:=Hh
     rw[B,J7]at hL;refine⟨J,?_⟩;refine hv.push (c:=(W3 n (r7 s) (Qi n s)).flat.length) J J J (zbp _) (Uk _) λv' G7 O Q gC=>?_
     have T:=(Q 2 J).trans g2;simp[F];exact X _ _ _ ⟨N-1,J,4,v',rfl,J,Al,At,Be,Ae,by simp,by simp,J,T,Cv⟩
    ·simp[z,A,g,D,E,F,g2,Rm,oX,Ko.f,M,gF];have hL:=zdd (n:=n) (s:=s) (i:=5);refine Sx e5 Br ?_;simp[E];have B:Rb n s 5=Rb n s 4++(Wt n (r7 s)).flat:=Hh
     rw[B,J7]at hL;refine⟨J,?_⟩;refine hv.push (c:=(Wt n (r7 s)).flat.length) J J J (zbp _) (Uk _) λv' G7 O Q gC=>?_
     have T:=(Q 2 J).trans g2;simp[F];exact X _ _ _ ⟨N-1,J,5,v',rfl,J,Al,At,Be,Ae,by simp,by simp,J,T,Cv⟩
   ·have hi:i=5:=J
    subst hi;simp[z,g,D,E,F];obtain⟨_,_,⟨_,e0,_⟩|⟨p,U,gH,hp,rfl,K⟩⟩:=hv
    ·have jM:(Rb n s 5).length≠0:=by rw[zjo];unfold Px Ue;rw[T1,zit];simp
     exact absurd e0 jM
    exact Z _ _ _ ⟨p,U,gH,rfl,Al,Ae,Ak,hp,g2,K⟩
 clear h1 h7 h8 gV e1 e2 e3 e4 e5;obtain⟨p,U,gH,rfl,h1,gI,jz,hp,jA,K⟩:=hΦ;rw[zjo]at K;refine ni (t:=14) K jz ?_;have f2:(gO.set p (.dead (gH+1)))[2]?=_:=(Jy J).trans jA;generalize gO.set p (.dead (gH+1))=G9 at *;clear jA K;have fl:=(Jx.1 f2).1;have zg:=zno (n:=n) (R:=r7 s) (w:=Qi n s);have gX:yg n s=[.lst (Qs (Ps (v7 n s) (O9 n))) (Ps (v7 n s) (O9 n)).length 3,.lst (Wl (Qy (v7 n s))) (Qy (v7 n s)).length 3,.i ((v7 n s).length:Nat),.i 0,.i (O9 n),.i (((v7 n s).length:Int)+1),.i 0,.i (O9 n)]:=rfl;have gY:Oq ((64:Nat):Int) (Ps (v7 n s) (O9 n)) (Px n (r7 s) (Qi n s)).flat=[.i 64,.lst (Qs (Ps (v7 n s) (O9 n))) (Ps (v7 n s) (O9 n)).length 3,.lst (Se (Px n (r7 s) (Qi n s)).flat) (Px n (r7 s) (Qi n s)).flat.length 8]:=rfl;have jB:=zo2 (W:=O9 n) (zgw (s:=s) hn) Et;have gZ:(Ps (v7 n s) (O9 n)).length=9:=plB_len;refine Yj (Φ:=λI gG gO=>∃(gT:List (List UInt64)) (p U st j1:Nat),mo (Ps (v7 n s) (O9 n)) gT∧gG=[]∧lk I 18=.ptr j1 0∧lk I 20=.i 0∧lk I 21=.dy p U∧j1≠p∧gO[j1]?=some (.cells (Oq ((64:Nat):Int) (Ps (v7 n s) (O9 n)) (Px n (r7 s) (Qi n s)).flat) 1)∧gO[p]?=some (.dyn (gT.map LU) gT.length 1 U st)) 2 _ rfl (λNx Z=>?_) (λI gG gO hΦ=>?_)
 ·rw[gX]at f2;simp[z1b,Yr,h1,gI,f2];have jC:=zec (bs:=Ps (v7 n s) (O9 n)) (P:=.lst (Wl (Qy (v7 n s))) (Qy (v7 n s)).length 3) (W:=[.i ((v7 n s).length:Nat),.i 0,.i (O9 n),.i (((v7 n s).length:Int)+1),.i 0,.i (O9 n)]) (L:=(Px n (r7 s) (Qi n s)).flat) (deep:=0) J J ⟨_,_,_,_,_,_,rfl⟩;have jO:Sj 0 0++((Px n (r7 s) (Qi n s)).flat++List.replicate 0 Vu)=(Px n (r7 s) (Qi n s)).flat:=by simp[Sj]
  rw[jO]at jC;refine Sx jC (by simp[dats,LV.dat,Uk,Uy,zcf]) ?_;rw[gY];simp[h1,gI];have jD:=mq (s:=s) hn;rw[gY]at jD;refine Sx jD (by simp[dats,LV.dat,Uk,Uy]) ?_;have jP:∀x:List LObj,(G9++x)[2]?=_:=λx=>(Oo fl).trans f2
  simp[h1,gI,↓jP];have oz:(G9++[LObj.cells [.i 64,.lst (Qs (Ps (v7 n s) (O9 n))) (Ps (v7 n s) (O9 n)).length 3,.lst (Se (Px n (r7 s) (Qi n s)).flat) (Px n (r7 s) (Qi n s)).flat.length 8] 1])[G9.length]?=some (.cells [.i 64,.lst (Qs (Ps (v7 n s) (O9 n))) (Ps (v7 n s) (O9 n)).length 3,.lst (Se (Px n (r7 s) (Qi n s)).flat) (Px n (r7 s) (Qi n s)).flat.length 8] 1):=Ke;have jQ:G9.length<(G9++[LObj.cells [.i 64,.lst (Qs (Ps (v7 n s) (O9 n))) (Ps (v7 n s) (O9 n)).length 3,.lst (Se (Px n (r7 s) (Qi n s)).flat) (Px n (r7 s) (Qi n s)).flat.length 8] 1]).length:=by simp
  generalize G9++[LObj.cells [.i 64,.lst (Qs (Ps (v7 n s) (O9 n))) (Ps (v7 n s) (O9 n)).length 3,.lst (Se (Px n (r7 s) (Qi n s)).flat) (Px n (r7 s) (Qi n s)).flat.length 8] 1]=GA at *;refine zs5 (bs:=Ps (v7 n s) (O9 n)) (fill:=fill) (λb hb=>by have:=jB b hb;omega) J J (λgT p' gR gK G' gL jR jT zj zz _ K=>?_) (λq=>by rw[q]at gZ;simp at gZ);simp;exact Z _ _ _ ⟨gT,p',gR,gK,G9.length,⟨gL,jR⟩,rfl,by simp,by simp,by simp,J,(jT _ jQ).trans oz,K⟩
 clear h1 gI jz fl f2;obtain⟨gT,p',gR,gK,j1,hX,rfl,jU,jE,jF,jV,jG,K⟩:=hΦ;refine ni (t:=21) K jF ?_;have fz:(gO.set p' (.dead (gK+1)))[j1]?=_:=(Jy (Ne.symm jV)).trans jG;generalize gO.set p' (.dead (gK+1))=GB at *;clear jG K jF;obtain⟨G,ev,ol,o3,jX,zB,jg,o6,zC,gA⟩:=dw (s:=s) hn hX;have gL:gT.length=9:=by rw[hX.1,gZ]
 have zD:(gT.getD 0 []).length=n:=by have:=hX.2 0 J;rw[qr (show 0<(v7 n s).length from Nat.succ_pos _)]at this;have e:(gv (v7 n s) 0).limbs=n:=rfl;simp only[e]at this;omega
 have zE:(gT.getD 1 []).length=n:=by have:=hX.2 1 J;rw[qr (show 1<(v7 n s).length from Nat.succ_lt_succ (Nat.succ_pos _))]at this;have e:(gv (v7 n s) 1).limbs=n:=rfl;simp only[e]at this;omega
 have gg:∀(j4:List (List UInt64)) (i:Nat),i<j4.length→(j4.map LU)[i]?=some (LU (j4.getD i [])):=λj4 i h=>by rw[Lr,J5 h,J0,J5 h];rfl
 have X0:=gg gT 0 J;have X1:=gg gT 1 J;have O3:=gg G 3 J;have O4:=gg G 4 J;have O5:=gg G 5 J;have O6:=gg G 6 J;refine T7 _ ?_;rw[gY]at fz gA;have jY:dats (gT.map LU)=true:=ug (λ_=>by simp[LU,LV.dat,Xd]) gT;have zG:dats (G.map LU)=true:=ug (λ_=>by simp[LU,LV.dat,Xd]) G;simp only[LN]at gA;rw[gL,ol]at gA;rw[gL];clear hX gg;generalize gT.map LU=XL at *;generalize G.map LU=OL at *;generalize gT.getD 0 []=xa at *;generalize gT.getD 1 []=xb at *;generalize G.getD 3 []=y3 at *;generalize G.getD 4 []=y4 at *;generalize G.getD 5 []=y5 at *;generalize G.getD 6 []=y6 at *;subst o3 jX o6;simp[z1b,Yr,jU,jE,fz];refine Sx gA (by simp[dats,LV.dat,Uk,Uy,LN,jY]) ?_;simp[jE,Ov X0,Ov X1];have zH:LU y3=.lst (y3.map .u) y3.length 1:=rfl;refine Pm (zee y3 xb J J) (bors_self _ Bl) ?_;have jH:(Tk (val y3) (val xb)<0)↔val y3<val xb:=by unfold Tk;split<;>(try split)<;>omega
 have jZ:(Xm (val y3*val xb)).length≤1000000:=by
  have:=z74 y4;rw[jg]at this;omega
 have S1:=zf8 y3 y3 J;have S2:=zf8 y4 y4 J;have hN:=zhs y4 (Xm (val y3*val xb)) J jZ;by_cases gM:val y3<val xb
 ·simp only[gM,M5]at O6;simp[jH,gM,Ov X0,Ov X1,Ov O3];refine Pm S1 (bors_self _ Bl) ?_;simp[Ov O4,Ov O5];refine Pm S2 (bors_self _ Bl) ?_;simp[Ov O6,Ov O4,Ov X0,Ov X1];refine zp9 (zdq y3 xb J J) (bors_self _ Bl) ?_;simp[Ov O4];refine Pm hN ⟨_,_,rfl,⟨rfl,by simp[LV.dat,Xd]⟩,_,_,rfl,⟨_,_,_,_,rfl,Ke,Xd _⟩,rfl⟩ ?_;simp[jg,zkb]
 ·simp only[gM,Mz]at O6;simp[jH,gM,Ov X0,Ov X1,Ov O3];refine Pm S1 (bors_self _ Bl) ?_;simp[Ov O4,Ov O5];refine Pm S2 (bors_self _ Bl) ?_;simp[Ov O6,Ov O4,Ov X0,Ov X1];refine zp9 (zdq y3 xb J J) (bors_self _ Bl) ?_;simp[Ov O4];refine Pm hN ⟨_,_,rfl,⟨rfl,by simp[LV.dat,Xd]⟩,_,_,rfl,⟨_,_,_,_,rfl,Ke,Xd _⟩,rfl⟩ ?_;simp[jg,zkb]
end
end Go.Proofs.YtmnciecehjcjhaaGreat
end
