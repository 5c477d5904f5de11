/- Texts of the evaluator, of the logic over it, of plain arithmetic. -/
import Derived.Test.YtgjbfhmmgeplmaaGreatSvG0
import Derived.Orders
import Derived.WalkKit
import Derived.ProofKit
import Derived.OpenShut
set_option linter.unusedSimpArgs false
set_option linter.defProp false
namespace Go.Sv
variable{g j B:Nat}{z:Program}{E R:World}{O vI:Bool}{Y:Option Nat}{Z:List Nat}{v8:Type}{v6:Array Value}{vQ:Code}{vF:List Value}{C X:Heap}{G vM:AV}{L vT:Tr AV}{M:List AV}{I:CM}
def eqAV_spec:∀(n:Nat) (a b:AV),Q1 n a b=true→a=b
 |0,_,_,h=>Am
 |n+1,a,b,h=>by
  have z:∀(x y:List AV),Xp (Q1 n) x y=true→x=y:=by
   intro x
   induction x with
   |nil=>intro y j;cases y with
    |nil=>rfl
    |cons _ _=>cases j
   |cons c x A =>
    intro y j;cases y with
    |nil=>cases j
    |cons d y =>
     simp only[Xp]at j;split at j
     ·rename_i B;rw[eqAV_spec n c d B,A y j]
     ·cases j
  have g:∀{x y:Nat},Nat.beq x y=true→x=y:=λh=>Ig h
  unfold Q1 at h;split at h
  ·simp only[Ml]at h;rw[h]
  ·simp only[H9,oi,Ml]at h;rw[z6t h.1,h.2]
  ·simp only[H9]at h;rw[g h.1,g h.2]
  ·rfl
  ·simp only[H9]at h;rw[g h.1.1,g h.1.2,g h.2]
  ·rfl
  ·simp only[H9,Ml]at h;obtain⟨⟨⟨⟨⟨C,D⟩,E⟩,F⟩,G⟩,H⟩:=h;rw[g C,g D,g E,g F,g G,H]
  ·rfl
  ·rfl
  ·rw[g h]
  ·rfl
  ·simp only[H9]at h;rw[g h.1.1,z _ _ h.1.2,z _ _ h.2]
  ·simp only[H9]at h;rw[g h.1.1,z _ _ h.1.2,z _ _ h.2]
  ·rfl
  ·simp only[H9]at h;rw[g h.1,eqAV_spec n _ _ h.2]
  ·rw[z _ _ h]
  ·rw[z _ _ h]
  ·cases h
def Xi(a b g:Nat):(Nat.lor a b).testBit g=(a.testBit g || b.testBit g):=Nat.testBit_or a b g
def fx(i g:Nat):(2^i).testBit g=decide (i=g):=Nat.testBit_two_pow
def zkg{a b:Nat}(h:Nat.beq (Nat.land a b) a=true)(j:Nat)(g:a.testBit j=true):b.testBit j=true:=by
 have e:a &&& b=a:=Ig h;rw[←e,Nat.testBit_and]at g;simp only[H9]at g;exact g.2
def bitsOf_spec:∀{l:List Nat} {t:Nat},t∈l→(znz l).testBit t=true
 |[],_,h=>Am
 |a::l,t,h=>by
  simp only[znz,Xi,fx,La,Il];rcases Ik.1 h with rfl|h
  ·exact .inl rfl
  ·exact .inr (bitsOf_spec h)
def z98{g:List Nat}:∀{l:List Edge} {z:Nat},(mb g l).testBit z=true↔∃e∈l,Region.binds .any e=true∧(z=e.on∨(g.getD e.on 0).testBit z=true)
 |[],z=>by simp[mb]
 |e::l,z=>by
  simp only[mb];split
  ·rename_i j;simp only[Xi,fx,La,Il,z98,Ik,exists_eq_or_imp,j,true_and];constructor
   ·rintro ((h|h)|h)
    ·exact .inl (.inl h.symm)
    ·exact .inl (.inr h)
    ·exact .inr h
   ·rintro ((h|h)|h)
    ·exact .inl (.inl h.symm)
    ·exact .inl (.inr h)
    ·exact .inr h
  ·rename_i j;simp only[z98,Ik,exists_eq_or_imp,j,Kx,false_and,false_or]
def Xl{A:Type}{f:A→Bool}:∀{l:List A} {x:A},x∈Ny f l↔x∈l∧f x=true
 |[],x=>by simp[Ny]
 |a::l,x=>by
  simp only[Ny];split
  ·rename_i h;simp only[Ik,Xl];constructor
   ·rintro (rfl|z)
    ·exact⟨.inl rfl,h⟩
    ·exact⟨.inr z.1,z.2⟩
   ·rintro⟨rfl|j,g⟩
    ·exact .inl rfl
    ·exact .inr ⟨j,g⟩
  ·rename_i h;simp only[Ik,Xl];constructor
   ·rintro⟨j,g⟩;exact⟨.inr j,g⟩
   ·rintro⟨rfl|j,g⟩
    ·rw[h]at g;cases g
    ·exact⟨j,g⟩
def zlf{z:Type}{f:z→Bool}:∀{l:List z},Us f l=true→∀x∈l,f x=true
 |[],_,x,g=>Ej
 |a::l,h,x,g=>by
  simp only[Us]at h;split at h
  ·rename_i j;rcases Ik.1 g with rfl|g
   ·exact j
   ·exact zlf h x g
  ·cases h
structure LOk (P:Program) (ops:Array Oper) (L:List DOp):Prop where
 op:∀x∈L,ops[x.i]?=some x.o∧x.i<ops.size
 all:∀i,i<ops.size→∃x∈L,x.i=i
 inj:∀x∈L,∀y∈L,x.i=y.i→x=y
 cl:∀x∈L,x.c=cls P x.o.op
 lm:∀x∈L,∀t∈Ts ops x.o,x.lm.testBit t=true
 msk:∀x∈L,∀j,x.m.testBit j=true→∃e∈x.o.after.toList,Region.binds .any e=true∧(j=e.on∨∃y∈L,y.i=e.on∧y.m.testBit j=true)
 edge:∀x∈L,∀e∈x.o.after.toList,Region.binds .any e=true→x.m.testBit e.on=true
def zgd(j:Program)(ops:Array Oper):∀(l:List Oper) (g:List Nat) (i:Nat) (z:Nat),(Qf j ops l g i).length=l.length∧∀x,(Qf j ops l g i)[z]?=some x →
  x.i=i+z∧l[z]?=some x.o∧x.c=cls j x.o.op∧x.lm=znz (Ts ops x.o)∧x.m=mb (g++((Qf j ops l g i).take z).map (·.m)) x.o.after.toList
 |[],g,i,z=>⟨rfl,λx h=>by simp[Qf]at h⟩
 |o::l,g,i,0=>⟨F9,λx h=>by
   simp only[Qf,It,Option.some.injEq]at h;subst h;exact⟨rfl,rfl,rfl,rfl,N⟩⟩
 |o::l,g,i,z+1=>⟨F9,λx h=>by
   simp only[Qf,Iv]at h;obtain⟨E,A,B,C,D⟩:=(zgd j ops l _ (i+1) z).2 x h;refine⟨J,Bh,B,C,?_⟩;rw[D];simp[Qf]⟩
def gq(E:Program)(ops:Array Oper):LOk E ops (Qf E ops ops.toList [] 0):=by
 have z:=zgd E ops ops.toList [] 0;have H:(Qf E ops ops.toList [] 0).length=ops.size:=by rw[(z 0).1];simp
 have hm:∀x∈Qf E ops ops.toList [] 0,∃B,(Qf E ops ops.toList [] 0)[B]?=some x∧x.i=B:=λx j=>by
  obtain⟨B,g⟩:=I8.1 j;exact⟨B,g,by have:=((z B).2 x g).1;omega⟩
 refine⟨λx j=>?_,λi hi=>?_,λx j y I e=>?_,λx j=>?_,λx j t K=>?_,λx j B g=>?_,λx j e F G=>?_⟩
 ·obtain⟨B,g,e⟩:=hm x j;obtain⟨_,L,_⟩:=(z B).2 x g;rw[e];have:B<ops.size:=by
   have:=(H7.1 g).1;omega
  exact⟨Dt,this⟩
 ·exact ⟨(Qf E ops ops.toList [] 0)[i]' J, Km _, by
   have:=((z i).2 _ (Ib J)).1;omega⟩
 ·obtain⟨B,g,D⟩:=hm x j;obtain⟨M,C,O⟩:=hm y I;have:B=M:=J
  subst this;rw[g]at C;cases C;rfl
 ·obtain⟨B,g,D⟩:=hm x j;exact ((z B).2 x g).2.2.1
 ·obtain⟨B,g,D⟩:=hm x j;rw[((z B).2 x g).2.2.2.1];exact bitsOf_spec K
 ·obtain⟨i,hi,D⟩:=hm x j;rw[((z i).2 x hi).2.2.2.2]at g;obtain⟨e,F,G,h⟩:=z98.1 g;refine⟨e,F,G,h.imp id λh=>?_⟩;rw[K9,Ie,Ks]at h;cases A:((Qf E ops ops.toList [] 0).take i)[e.on]? with
  |none=>rw[A]at h;simp at h
  |some y =>
   rw[A]at h;have I:=I8.2 ⟨e.on,A⟩;rw[List.getElem?_take]at A;split at A
   ·exact⟨y,I8.2 ⟨_,A⟩,by have:=((z e.on).2 y A).1;omega,h⟩
   ·cases A
 ·obtain⟨i,hi,D⟩:=hm x j;rw[((z i).2 x hi).2.2.2.2];exact z98.2 ⟨e,F,G,.inl rfl⟩
def dstsOk_spec:∀{l:List DOp} {seen:Nat},zmw l seen=true→(∀x∈l,∀d,x.o.dst=some d→seen.testBit d=false)∧∀x∈l,∀y∈l,∀d,x.o.dst=some d→y.o.dst=some d→x=y
 |[],_,_=>⟨λx g=>Ej,λx g=>Ej⟩
 |a::l,seen,h=>by
  simp only[zmw]at h;split at h
  ·rename_i z;obtain⟨B,C⟩:=dstsOk_spec h;refine⟨λx g d hd=>?_,λx g y A d hd j=>?_⟩
   ·rcases Ik.1 g with rfl|g
    ·rw[z]at hd;cases hd
    ·exact B x g d hd
   ·rcases Ik.1 g with rfl|g
    ·rw[z]at hd;cases hd
    ·rcases Ik.1 A with rfl|A
     ·rw[z]at j;cases j
     ·exact C x g y A d hd j
  ·rename_i D z;split at h
   ·cases h
   ·rename_i K;obtain⟨B,C⟩:=dstsOk_spec h;have E:∀x∈l,x.o.dst≠some D:=λx g e=>by
     have:=B x g D e;rw[Xi,fx]at this;simp at this
    refine⟨λx g d hd=>?_,λx g y A d hd j=>?_⟩
    ·rcases Ik.1 g with rfl|g
     ·rw[z]at hd;cases hd;simpa using K
     ·have:=B x g d hd;rw[Xi]at this;simp only[Bool.or_eq_false_iff]at this;exact this.2
    ·rcases Ik.1 g with F|G<;>rcases Ik.1 A with H|I
     ·rw[F,H]
     ·subst F;rw[z]at hd;cases hd;exact absurd j (E y I)
     ·subst H;rw[z]at j;cases j;exact absurd hd (E x G)
     ·exact C x G y I d hd j
def yr{x:DOp}:Nc x=true↔x.c=.ch:=by
 unfold Nc;constructor
 ·intro h;split at h
  ·assumption
  ·cases h
 ·intro h;rw[h]
def zhe{x:DOp}:zp9 x=true↔x.c=.quiet:=by
 unfold zp9;constructor
 ·intro h;split at h
  ·assumption
  ·cases h
 ·intro h;rw[h]
def xg{x:DOp}{l:List DOp}{seen s:Nat}(h:Pa (x::l) seen g=some s):(∀j,x.m.testBit j=true→seen.testBit j=true)∧seen.testBit x.i=false ∧
  ((x.c=.quiet∧Pa l (Nat.lor (2^x.i) seen) g=some s) ∨
   ((x.c=.rd∨x.c=.al)∧(∀j,g.testBit j=true→x.m.testBit j=true)∧Pa l (Nat.lor (2^x.i) seen) g=some s) ∨
   (x.c=.ch∧(∀j,g.testBit j=true→x.m.testBit j=true)∧Pa l (Nat.lor (2^x.i) seen) (Nat.lor (2^x.i) g)=some s)):=by
 simp only[Pa]at h;split at h
 ·cases h
 ·rename_i E;split at h
  ·cases h
  ·rename_i F;refine⟨λj z=>zkg E j z,by simpa using F,?_⟩;split at h
   ·rename_i A;exact .inl ⟨zhe.1 A,h⟩
   ·rename_i A;split at h
    ·cases h
    ·rename_i C;split at h
     ·rename_i B;exact .inr (.inr ⟨yr.1 B,λj z=>zkg C j z,h⟩)
     ·rename_i B;refine .inr (.inl ⟨?_,λj z=>zkg C j z,h⟩);cases D:x.c with
      |quiet=>rw[zhe.2 D]at A;cases A
      |rd=>exact .inl rfl
      |al=>exact .inr rfl
      |ch=>rw[yr.2 D]at B;cases B
def topo_seen:∀{l:List DOp} {seen j s:Nat},Pa l seen j=some s→∀A,s.testBit A=true↔(seen.testBit A=true∨∃x∈l,x.i=A)
 |[],seen,j,s,h,A=>by simp only[Pa,Option.some.injEq]at h;subst h;simp
 |x::l,seen,j,s,h,A=>by
  obtain⟨_,_,z⟩:=xg h;have B:∀g,Pa l (Nat.lor (2^x.i) seen) g=some s→(s.testBit A=true↔(seen.testBit A=true∨∃y∈x::l,y.i=A)):=λg C=>by
   rw[topo_seen C A,Xi,fx];simp only[La,Il,Ik,exists_eq_or_imp];constructor
   ·rintro ((h|h)|h)
    ·exact .inr (.inl h)
    ·exact .inl h
    ·exact .inr (.inr h)
   ·rintro (h|h|h)
    ·exact .inl (.inr h)
    ·exact .inl (.inl h)
    ·exact .inr h
  rcases z with ⟨_,z⟩|⟨_,_,z⟩|⟨_,_,z⟩<;>exact B _ z
def topo_new:∀{l:List DOp} {seen j s:Nat},Pa l seen j=some s→∀x∈l,seen.testBit x.i=false
 |[],_,_,_,_,x,z=>by cases z
 |y::l,seen,j,s,h,x,z=>by
  obtain⟨_,C,A⟩:=xg h;rcases Ik.1 z with rfl|z
  ·exact C
  ·have B:∀g,Pa l (Nat.lor (2^y.i) seen) g=some s→seen.testBit x.i=false:=λg D=>by
    have:=topo_new D x z;rw[Xi]at this;simp only[Bool.or_eq_false_iff]at this;exact this.2
   rcases A with ⟨_,A⟩|⟨_,_,A⟩|⟨_,_,A⟩<;>exact B _ A
def topo_chs:∀{l:List DOp} {seen j s:Nat},Pa l seen j=some s→∀x∈l,x.c≠.quiet→∀D,j.testBit D=true→x.m.testBit D=true
 |[],_,_,_,_,_,z=>by cases z
 |y::l,seen,j,s,h,x,z=>by
  intro C D A;obtain⟨_,E,g⟩:=xg h;rcases Ik.1 z with rfl|z
  ·rcases g with ⟨e,g⟩|⟨e,B,g⟩|⟨e,B,g⟩
   ·exact absurd e C
   ·exact B D A
   ·exact B D A
  ·rcases g with ⟨e,g⟩|⟨e,B,g⟩|⟨e,B,g⟩
   ·exact topo_chs g x z C D A
   ·exact topo_chs g x z C D A
   ·exact topo_chs g x z C D (by rw[Xi,A];simp)
def zoc{z g:List DOp}{p:Nat}:∀x∈Yx z g p,x∈z:=λ_ j=>(Xl.1 j).1
def zh4{z j:List DOp}:∀{l:List DOp} {p:Nat},(∀x∈l,x∈z)→∀x∈zln z j l p,x∈z
 |[],_,_,_,g=>Ej
 |c::l,p,h,x,g=>by
  simp only[zln,Ik,I2]at g;rcases g with rfl|g|g
  ·exact h _ N
  ·exact zoc x g
  ·exact zh4 (λy A=>h y Af) x g
def zuo{j:List DOp}:∀x∈zy j (Ny Nc j),x∈j:=λx g=>by
 simp only[zy,I2]at g;rcases g with g|g
 ·exact zoc x g
 ·exact zh4 (λy z=>(Xl.1 z).1) x g
section
open Go.RowKit (Below)
def zno(g:AObj):Prop:=∀z j w o,(∀v,j.f o v=none)→Po z j w o g
def vq(D:Program)(E:CM)(w:World)(z:Sem Next)(v:AV)(A:AObj):Prop :=
 ∃g n B x,z.run D w=.ok (.value x) (w.alloc g)∧∀(j:CM) (id:Nat),E.keep j→j id 0=some ⟨w.heap.size,0,n,B⟩ →
  VR j (P9 id v) x∧∀C,C≤w.heap.size→Po C j (w.alloc g) id A
def n6(D:Program)(E:Tr AV)(A:Heap)(j:(Operand→Value)→Sem Next):OR→Prop
 |.no=>True
 |.val v z=>∃g,True∧z=A.push g∧Nv v=some A.next∧zno g∧∀B w C,pk B E C→vq D B w (j C) v g
 |.call _ _=>False
def Mk(A:Program)(B:OpF)(g:(Operand→Value)→Sem Next):Prop:=∀j z,n6 A j z g (B.run j z)
def Mk.congr{P:Program}{F:OpF}{nx gg:(Operand→Value)→Sem Next}(h:∀ρ,nx ρ=gg ρ)(s:Mk P F nx):Mk P F gg:=by
 rw[show gg=nx from funext λρ=>(h ρ).symm];exact s
def ew(j:Program)(g:(Operand→Value)→Sem Next):Mk j Nw g:=λ_ _=>trivial
def zcp{l:List AV}{o:Nat}(h:newObj C l=some (o,X)):True∧True∧o=C.next∧X=C.push (.cells (Pp l 0 .e) l.length 0 false):=by
 unfold newObj at h;cases h;exact⟨trivial,trivial,rfl,rfl⟩
def zkt{l:List AV}(_:True):zno (.cells (Pp l 0 .e) l.length 0 false):=λz A w o j=>λB g=>by rw[j]at g;cases g
def Yr{w:World}{l:List AV}{t:TypeId}(_hl:True)(E:VRs I l v6.toList)(K:∀a∈l,a.one=true){F:Sem Next}{v:AV}{x:Value}
  (B:F.run z w=.ok (.value x) (w.alloc (.cells v6 t))) (L:∀(A:CM) (id:Nat),A id 0=some ⟨w.heap.size,0,l.length,v6.size⟩→VR A (P9 id v) x) :
  vq z I w F v (.cells (Pp l 0 .e) l.length 0 false):=by
 have g:l.length=v6.toList.length:=E.length;have C:l.length=v6.size:=B3
 refine⟨_,l.length,v6.size,x,B,λA id M G=>⟨L A id G,λR O=>λS j=>?_⟩⟩;rw[G]at j;cases j;refine⟨rfl,λ_=>O,B9,v6,t,0,0,Xv _ _,If _,λi _ _=>J,?_⟩;intro k D;rw[get_ofList l 0 .e k,Ij J];obtain⟨a,v,H,P,Q⟩:=E.get' (i:=k) D;refine⟨a,Cv,K a (Jd H),v,?_,Q.mono' M⟩;simpa using P
def znj{l:List AV}{A:(Operand→Value)→Sem Next}{t:TypeId}
  (g:∀C w D,pk C L D→∃j:Array Value,VRs C l j.toList∧(∀a∈l,a.one=true)∧(A D).run z w=.ok (.value (.pointer (some ⟨w.heap.size,0,none⟩))) (w.alloc (.cells j t))) :
  n6 z L X A (Vm X l):=by
 unfold Vm;split
 ·rename_i o O E;obtain⟨F,B,rfl,rfl⟩:=zcp E;refine⟨_,F,rfl,rfl,zkt B,λC w D G=>?_⟩;obtain⟨j,H,I,K⟩:=g C w D G;refine Yr B H I K (λP id M=>?_);simpa [P9] using VR.ptr (i:=0) M
 ·exact trivial
def Z8(g:Program)(t:TypeId):Mk g (N5 g (.alloc t)) (λ_=>do pure (.value (←Instr.alloc t true (.tuple #[])))):=by
 intro F j;show n6 g F j _ (OpF.run (match R5 g t with
  |some l=>⟨λ_ j=>Vm j l⟩
  |none=>Nw) F j)
 cases z:R5 g t with
 |none=>exact trivial
 |some l =>
  refine znj (t:=t) (λG w L H=>?_);obtain⟨v,i,A,B,I,K⟩:=na (w:=w) z;obtain⟨D,E⟩:=Wd (C:=G) B;exact⟨v.cells,D,E,by simp[Instr.alloc,A,newVar,newRow]⟩
def zoh{x:Operand}{f:Heap→AV→OR}{g:(Operand→Value)→Sem Next}(h:∀j A a,(Nk x).run j=some a→n6 z j A g (f A a)):Mk z (Pq x f) g:=by
 intro j A;show n6 z j A g (Option.rec OR.no (λa=>f A a) ((Nk x).run j));cases B:(Nk x).run j with
 |none=>exact trivial
 |some a=>exact h _ _ _ B
def ztk{x y:Operand}{f:Heap→AV→AV→OR}{j:(Operand→Value)→Sem Next}(h:∀g A a b,(Nk x).run g=some a→(Nk y).run g=some b→n6 z g A j (f A a b)):Mk z (Ss x y f) j:=by
 intro g A;show n6 z g A j (Option.rec OR.no (λa=>Option.rec OR.no (λb=>f A a b) ((Nk y).run g)) ((Nk x).run g));cases B:(Nk x).run g with
 |none=>exact trivial
 |some a =>
  cases C:(Nk y).run g with
  |none=>exact trivial
  |some b=>exact h _ _ _ _ B C
def vu(C:Program)(t:TypeId)(x:Operand):Mk C (N5 C (.box t x)) (λD=>do pure (.value (←Instr.box t (D x)))):=by
 refine zoh λE F a g=>?_
 cases j:a.cells with
 |none=>exact trivial
 |some l =>
  refine znj (t:=t) (λG w D z=>?_);obtain⟨A,B⟩:=(z _ _ g).cells j;exact⟨_,A,B,by simp[Instr.box,newVar,newRow]⟩
def zsa{C:CM}{w:World}(t:TypeId){l:List AV}{o len esz:Nat}{cs:Array Value}(_hl:True)(D:VRs C l cs.toList)(G:∀a∈l,a.one=true){cap:Nat}(K:cap*esz=l.length)(g:len≤cap)
  {E:Sem Next} (A:E.run z w=.ok (.value (.slice (some ⟨w.heap.size,0,none⟩) len cap)) (w.alloc (.cells cs t))):vq z C w E (.sl o 0 0 len esz (some cap)) (.cells (Pp l 0 .e) l.length 0 false):=by
 have j:l.length=cs.toList.length:=D.length;have B:l.length=cs.size:=B0
 have F:len*esz≤cap*esz:=Ip _ g;refine Yr _hl D G A (λL id H=>?_);have:=VR.sl (i:=0) (len:=len) (esz:=esz) (room:=some cap) (cap:=cap) H B9 B9 g (λr I=>by cases I;exact⟨rfl,B9⟩) (λh=>Am);simpa [P9] using this
def zku(G:Program)(t:TypeId)(len:Nat)(j:Array (Nat×Operand)) :
  Mk G (py G t len j) (λV=>do pure (.value (←Instr.buildSlice t len (j.map λ(i,x)=>(i,V x))))):=by
 unfold py;split
 ·rename_i A hu;split
  ·exact ew G _
  ·rename_i g F;split
   ·exact ew G _
   ·rename_i gj X;split
    ·rename_i z;obtain⟨Y,P⟩:=z;split
     ·exact ew G _
     ·rename_i ps H;intro gB gC;dsimp only;split
      ·rename_i l Z;split
       ·rename_i o H' hn;obtain⟨n1,Q,rfl,rfl⟩:=zcp hn;refine⟨_,n1,rfl,rfl,zkt Q,λC w V hρ=>?_⟩;obtain⟨v,i,h1,h2,h3,h4⟩:=na (w:=w) X;obtain⟨I,k2⟩:=Wd (C:=C) h2;have K:v.cells.size=g:=by
         have B:=I.length;unfold Oz at F;rw[h3]at F;simp at F B;omega
        have gg:gj.length=g:=by have B:=I.length;simp at B;omega
        have D:VRs C (Sw gj len) ((Array.range (len*g)).map λi=>v.cells[i%v.cells.size]!).toList:=by
         rw[←K,xf];exact th I len
        obtain⟨R,S,T,q3⟩:=zx H hρ Z D (vp k2 len);have L:l.length=len*g:=by
         have B:=T.length;have e3:=zgq S;simp at e3 B;omega
        refine zsa A Q T q3 L.symm (If _) ?_;have U:Instr.fill (λi=>some (i*g,g)) ((Array.range (len*g)).map λi=>v.cells[i%v.cells.size]!) (j.map λ(i,x)=>(i,V x)).toList=some R:=by
         rw[J2];exact S
        have E:¬(len*g>2^24):=J
        simp only[Instr.buildSlice,Sem.run_bind,Oa hu,Sa F,Result.andThen_ok,Sem.run_ite,Ii E];by_cases M:len*g=0
        ·rw[Ij M];have O:Instr.fill (λi=>some (i*g,g)) ((Array.range (len*g)).map λi=>(#[]:Array Value)[i%(#[]:Array Value).size]!) (j.map λ(i,x)=>(i,V x)).toList=some R:=by
          rw[←U,M,pq,pq]
         simp only[Sem.run_pure,Result.andThen_ok,O,newRow,Sem.run_bind,run_newObj];rfl
        ·rw[Ii M];simp only[Sem.run_bind,h1,Sem.run_pure,Result.andThen_ok,U,newRow,run_newObj];rfl
       ·exact trivial
      ·exact trivial
    ·exact ew G _
 ·exact ew G _
def zts(A:Program)(t:TypeId)(l c:Operand):Mk A (l9 A t l c) (λO=>do pure (.value (←Instr.makeSlice t (O l) (O c)))):=by
 unfold l9;split
 ·rename_i g hu;split
  ·exact ew A _
  ·rename_i i hi;split
   ·exact ew A _
   ·rename_i gg X;split
    ·rename_i j;obtain⟨P,B⟩:=j;refine ztk λgj gB a b D E=>?_
     split
     ·rename_i x y;split
      ·rename_i F;split
       ·rename_i Y;split
        ·rename_i o H' Z;obtain⟨n1,Q,rfl,rfl⟩:=zcp Z;refine⟨_,n1,rfl,rfl,zkt Q,λC w O R=>?_⟩;have S:=R _ _ D;have T:=R _ _ E;have z:x≤y:=In F;have G:y≤1048576:=In Y;obtain⟨v,gC,h1,h2,U,h4⟩:=na (w:=w) X;obtain⟨V,k2⟩:=Wd (C:=C) h2;rw[hi]at U;cases U;have H:v.cells.size=i.size:=by have I:=V.length;simp at I;omega
         generalize K:O l=pl at S;generalize L:O c=pc at T;cases S;cases T;refine zsa g Q (cs:=(Array.range (y*i.size)).map λk=>v.cells[k%v.cells.size]!) (by rw[←H,xf];exact th V y) (vp k2 y) (by rw[z5o,h4]) z ?_;have I:IntKind.i64.wrap (Int.ofNat x)=Int.ofNat x:=At
         have e2:IntKind.i64.wrap (Int.ofNat y)=Int.ofNat y:=At
         have e3:i.bytes*y≤65536*1048576:=K3 B G;have e4:¬((decide (Int.ofNat y<0) || decide ((i.bytes:Int)*Int.ofNat y>2^48) || decide (Int.ofNat x<0) || decide (Int.ofNat x>Int.ofNat y))=true):=by
          have e5:((i.bytes:Int)*Int.ofNat y)=((i.bytes*y:Nat):Int):=N
          rw[e5];simp only[La,Il,not_or];refine⟨⟨⟨N,Ab⟩,N⟩,Ab⟩
         simp only[Instr.makeSlice,K,L,Sem.run_bind,Oa hu,et hi,asInt,asIntOf,Sem.run_pure,Result.andThen_ok,I,e2,Sem.run_ite,Ii e4,run_askRoom,Sa (show Oz A g=some i.size from F6)];have e6:(Int.ofNat y).toNat=y:=rfl;have e7:(Int.ofNat x).toNat=x:=rfl;rw[e6,e7];by_cases M:y*i.size=0
         ·rw[Ij M];simp only[Sem.run_pure,Result.andThen_ok,newRow,Sem.run_bind,run_newObj];have:((Array.range (y*i.size)).map λk=>(#[]:Array Value)[k%(#[]:Array Value).size]!)=((Array.range (y*i.size)).map λk=>v.cells[k%v.cells.size]!):=by rw[M,pq,pq]
          rw[this];rfl
         ·rw[Ii M];simp only[Sem.run_bind,h1,Sem.run_pure,Result.andThen_ok,newRow,run_newObj];rfl
        ·exact trivial
       ·exact trivial
      ·exact trivial
     ·exact trivial
    ·exact ew A _
 ·exact ew A _
def zkb{B:(Operand→Value)→Sem Next}
  (A:∀(D:CM) w E,pk D L E→(B E).run z w=.ok (.value (.map (some w.heap.size))) (w.alloc (.map #[] 0))):n6 z L C B (W0 C):=by
 unfold W0;refine⟨_,trivial,rfl,rfl,λI D w o F K g=>(by rw[F]at g;cases g),λD w E G=>?_⟩;refine⟨_,0,0,_,A D w E G,λM id O g=>⟨.map g,λI H K j=>?_⟩⟩;rw[g]at j;cases j;exact⟨H,#[],Xv _ _,.nil⟩
def bh(z:Program)(t:TypeId)(r:Option Operand):Mk z (n5 z t r) (λj=>do pure (.value (←Instr.makeMap t (r.map j)))):=by
 unfold n5;split
 ·intro C D;exact zkb (λE w j g=>by simp[Instr.makeMap])
 ·rename_i x;split
  ·rename_i k e hu;refine zoh λC D a A=>?_
   split
   ·refine zkb (λE w j g=>?_);have:=g _ _ A;generalize B:j x=F at this;cases this;simp[Instr.makeMap,Oa hu,B,asInt,asIntOf]
   ·exact trivial
  ·exact ew z _
def zr4{P:Program}{o:Oper}(h:cls P o.op=.al):Mk P (N5 P o.op) (λj=>execOp j o):=by
 generalize g:o.op=op at h;cases op with
 |alloc t=>exact Mk.congr (λj=>by simp only[execOp,g]) (Z8 P t)
 |box t x=>exact Mk.congr (λj=>Al) (vu P t x)
 |buildSlice t n z=>exact Mk.congr (λj=>Al) (zku P t n z)
 |makeMap t r=>exact Mk.congr (λj=>Al) (bh P t r)
 |makeSlice t l c=>exact Mk.congr (λj=>Al) (zts P t l c)
 |slice t _ _ _ _=>simp only[cls]at h;split at h<;>cases h
 |convert s d x=>simp only[cls]at h;split at h<;>first|(cases h;done)|(split at h<;>cases h)
 |call c =>
  simp only[cls,xk]at h;split at h
  ·split at h
   ·split at h<;>cases h
   ·cases h
  all_goals cases h
 |_=>cases h
def CM.lift(C:CM)(n:Nat):CM:=⟨C.f,n⟩
def CM.le_lift{n:Nat}(h:I.nx≤n):I.le (I.lift n):=⟨λ_ _ _ h=>h,h,λ_ v L h=>.inl ⟨v,L,h⟩⟩
inductive Ups:Heap→Heap→Prop where
 |refl (H:Heap):Ups H H
 |push {H H':Heap} {ob:AObj} (hl:True) (hf:zno ob) (h:Ups (H.push ob) H'):Ups H H'
def Ups.next{H H':Heap}(h:Ups H H'):H.next≤H'.next:=by
 induction h with
 |refl=>exact If _
 |push _ _ _ ih=>exact I1 (K4 _) ih
def Rel.up{w0:World}{H:Heap}{w:World}(h:Rel w0 I H w)(_:True){ob:AObj}(hf:zno ob):Rel w0 (I.lift (H.next+1)) (H.push ob) w:=by
 have hle:I.le (I.lift (H.next+1)):=CM.le_lift (by rw[h.nx];exact K4 _);refine⟨rfl,h.low,λo v L hL=>?_,h.lt,h.excl,?_,?_⟩
 ·show o<H.next+1;have:=h.fresh o v L hL;omega
 ·intro o gg ho hg;by_cases e:o=H.next
  ·subst e;rw[Heap.get_push_same]at hg;cases hg;exact hf _ _ _ _ (λv=>h.next_none v)
  ·have C:o<H.next:=B2
   rw[Heap.get_push_ne _ _ C]at hg;exact (h.obj _ _ C hg).frame hle (λv L hL=>hL) (λv L hL=>rfl)
 ·intro o c len gj ro ho hg v L hL;by_cases e:o=H.next
  ·subst e;have:=h.fresh _ _ _ hL;omega
  ·have C:o<H.next:=B2
   rw[Heap.get_push_ne _ _ C]at hg;exact h.top _ _ _ _ _ C hg _ _ hL
def Rel.ups{w0:World}{H:Heap}{w:World}(hu:Ups H C):∀{gg:CM},Rel w0 gg H w→Rel w0 (gg.lift C.next) C w:=by
 induction hu with
 |refl H=>intro gg h;rw[←h.nx];exact h
 |push hl hf _ ih =>
  intro gg h;have h1:=h.up hl hf;have h2:=ih h1;exact h2
def zns{c:Tr AV}{len:Nat}(h:zpf c L len=true):∀j,j<len→M8 (Nh j) c=M8 (Nh j) L:=by
 unfold zpf at h;split at h
 ·rename_i l C D E;obtain⟨M,F⟩:=d7 D;obtain⟨O,G⟩:=d7 E;have H:l=C:=by
   have:∀(x y:List AV),Xp (Q1 30) x y=true→x=y:=by
    intro x
    induction x with
    |nil=>intro y g;cases y with
     |nil=>rfl
     |cons _ _=>cases g
    |cons c x I =>
     intro y g;cases y with
     |nil=>cases g
     |cons d y =>
      simp only[Xp]at g;split at g
      ·rename_i K;rw[eqAV_spec 30 c d K,I y g]
      ·cases g
   exact this _ _ h
  intro j z;have A:=F j z;have B:=G j z;rw[Jc]at A B;rw[A,B,H]
 ·cases h
def Po.eqObj{B:Nat}{gC:CM}{w:World}{o:Nat}{a b:AObj}(h:Sv.eqObj a b=true)(k:Po B gC w o b):Po B gC w o a:=by
 unfold Sv.eqObj at h;split at h
 ·rename_i c len gB ro c' gg gj C;simp only[H9]at h;obtain⟨⟨⟨h1,h2⟩,h3⟩,h4⟩:=h;obtain rfl:=Ig h1;obtain rfl:=Ig h2;obtain rfl:ro=C:=by simpa using h3
  intro L hL;obtain⟨p1,p2,p3,vs,e,lo,hi,p4,p5,p6,p7⟩:=k L hL;exact⟨p1,p2,p3,vs,e,lo,hi,p4,p5,p6,λi hi=>by rw[zns h4 i hi];exact p7 i hi⟩
 ·obtain rfl:=Ig h;exact k
 ·cases h
def zjn{b:Bool}{x y:v8}(g:b=true→x=y)(h:V7 b x y=true):x=y:=by
 unfold V7 at h;split at h
 ·exact g rfl
 ·exact @Lj _ (Classical.propDecidable _) h
def Ys{b:Bool}{x y:v8}(h:V7 b x y=true):b=true∨x=y:=by
 unfold V7 at h;split at h
 ·exact .inl rfl
 ·exact .inr (@Lj _ (Classical.propDecidable _) h)
def Po.same{B:Nat}{w:World}{o:Nat}{a b:AObj}(h:V7 (Sv.eqObj a b) a b=true)(k:Po B I w o b):Po B I w o a:=by
 rcases Ys h with h|h
 ·exact k.eqObj h
 ·rw[h];exact k
def Rel.bind{w0:World}{H:Heap}{w:World}(h:Rel w0 I H w){id n sz:Nat}(gE:id<H.next)(hn:∀v,I id v=none){ob:AObj}(hg:H.get id=some ob)(gB:Obj)
  (gD:Po w0.heap.size (I.ext id 0 ⟨w.heap.size,0,n,sz⟩) (w.alloc gB) id ob):Rel w0 (I.ext id 0 ⟨w.heap.size,0,n,sz⟩) H (w.alloc gB)∧I.keep (I.ext id 0 ⟨w.heap.size,0,n,sz⟩):=by
 have hk:I.keep (I.ext id 0 ⟨w.heap.size,0,n,sz⟩):=λo' v' L' h'=>by
  by_cases e:o'=id∧v'=0
  ·obtain⟨rfl,rfl⟩:=e;rw[hn]at h';cases h'
  ·rw[CM.ext_ne I _ e];exact h'
 refine⟨⟨by show max I.nx (id+1)=H.next;rw[h.nx];omega,h.low.alloc h.low.size gB,?_,?_,?_,?_,?_⟩,hk⟩
 ·intro o v L C;by_cases e:o=id∧v=0
  ·omega
  ·rw[CM.ext_ne _ _ e]at C;exact h.fresh _ _ _ C
 ·intro o v L C;rw[World.size_alloc];by_cases e:o=id∧v=0
  ·obtain⟨rfl,rfl⟩:=e;rw[CM.ext_same]at C;cases C;exact I9 _
  ·rw[CM.ext_ne _ _ e]at C;have:=h.lt _ _ _ C;omega
 ·intro o v L o' v' L' C gg hb hB;by_cases e:o=id∧v=0<;>by_cases e':o'=id∧v'=0
  ·omega
  ·obtain⟨rfl,rfl⟩:=e;rw[CM.ext_same]at C;cases C;rw[CM.ext_ne _ _ e']at gg;have:=h.lt _ _ _ gg;dsimp at hb;omega
  ·obtain⟨rfl,rfl⟩:=e';rw[CM.ext_same]at gg;cases gg;rw[CM.ext_ne _ _ e]at C;have:=h.lt _ _ _ C;dsimp at hb;omega
  ·rw[CM.ext_ne _ _ e]at C;rw[CM.ext_ne _ _ e']at gg;exact h.excl _ _ _ _ _ _ C gg hb hB
 ·intro o gF ho gj;by_cases e:o=id
  ·subst e;rw[hg]at gj;cases gj;exact gD
  ·have gC:=h.obj _ _ ho gj;refine gC.frame' hk (λv L C=>?_) (λv L C=>z4y _ _ (h.lt _ _ _ C))
   rwa [CM.ext_ne _ _ J]at C
 ·intro o c len gG ro ho gj v L C;by_cases e:o=id∧v=0
  ·omega
  ·rw[CM.ext_ne _ _ e]at C;exact h.top _ _ _ _ _ ho gj _ _ C
end
section
section vn
variable {P : Program} {n : Nat} {ops : Array Oper} {k : Qn} {L : List DOp} {E0 Ef : Tr AV}
def Vi(L:List DOp)(S:Nat→Prop)(t:Nat):Prop:=∃y∈L,S y.i∧y.o.dst=some t
open Classical in
noncomputable def dm(L:List DOp)(E0 Ef:Tr AV)(S:Nat→Prop)(t:Nat):Option AV:=if Vi L S t then M8 (Nh t) Ef else M8 (Nh t) E0
def Pb(m:Nat)(g:Nat):Prop:=m.testBit g=true
def Xs(L:List DOp)(E0 Ef:Tr AV)(S:Nat→Prop)(g:Tr AV):Prop:=∀t,t≤Nm→M8 (Nh t) g=dm L E0 Ef S t
def U9(ops:Array Oper)(L:List DOp)(E0 Ef:Tr AV)(x:DOp)(E:Tr AV):Prop:=∀t∈Ts ops x.o,t≤Nm→M8 (Nh t) E=dm L E0 Ef (Pb x.m) t
def Rx(P:Program)(n:Nat)(ops:Array Oper)(k:Qn)(L:List DOp)(E0 Ef:Tr AV)(x:DOp)(z g:Heap):Prop :=
 ∀j,U9 ops L E0 Ef x j→∃v,(Qq P n ops x.o).run k j z=.ok (O0 x.o.dst v j) g∧∀d,x.o.dst=some d→M8 (Nh d) Ef=some v∧d<n
def DC(L:List DOp)(S:Nat→Prop):Prop:=∀y∈L,S y.i→∀g,Pb y.m g→S g
structure Fit (P:Program) (ops:Array Oper) (L:List DOp):Prop where
 ok:LOk P ops L
 dst:∀x∈L,∀y∈L,∀d,x.o.dst=some d→y.o.dst=some d→x=y
 look:∀x∈L,∀y∈L,zqt x y=true
def zqm{x y:DOp}(h:zqt x y=true){d:Nat}(hd:y.o.dst=some d)(g:x.lm.testBit d=true) :
  (x.i=y.i∧Tg x=false)∨(x.i≠y.i∧(Pb x.m y.i∨(Pb y.m x.i∧Tg x=false))):=by
 unfold zqt at h;rw[hd]at h;dsimp only at h;rw[g]at h;dsimp only at h;split at h
 ·rename_i e;exact .inl ⟨Ig e,Bb⟩
 ·rename_i e;refine .inr ⟨λq=>?_,?_⟩
  ·rw[q,I3]at e;cases e
  ·split at h
   ·rename_i q;exact .inl q
   ·split at h
    ·rename_i q;exact .inr ⟨q,Bb⟩
    ·cases h
def aw(G:Fit P ops L){S:Nat→Prop}(C:DC L S){x:DOp}(B:x∈L)(hm:∀H,Pb x.m H→S H)(g:¬S x.i∨Tg x=true)(D:Xs L E0 Ef S vT):U9 ops L E0 Ef x vT:=by
 intro t E F;rw[D t F];unfold dm;have:Vi L S t↔Vi L (Pb x.m) t:=by
  constructor
  ·rintro⟨y,j,A,hd⟩;refine⟨y,j,?_,hd⟩;rcases zqm (G.look x B y j) hd (G.ok.lm x B t E) with ⟨e,z⟩|⟨_,h|⟨h,z⟩⟩
   ·rcases g with g|g
    ·rw[e]at g;exact absurd A g
    ·rw[g]at z;cases z
   ·exact h
   ·rcases g with g|g
    ·exact absurd (C y j A _ h) g
    ·rw[g]at z;cases z
  ·rintro⟨y,j,A,hd⟩;exact⟨y,j,hm _ A,hd⟩
 by_cases h:Vi L S t
 ·rw[Ij h,Ij (this.1 h)]
 ·rw[Ii h,Ii (λq=>h (this.2 q))]
def U9.same{x:DOp}{E:Tr AV}(h:U9 ops L E0 Ef x E)(h':U9 ops L E0 Ef x vT):Ro (Ts ops x.o) vT E:=λt ht hl=>by rw[h t ht hl,h' t ht hl]
def dq(d:Tmp)(v:AV)(g:Tr AV):M8 (Nh d) (O0 (some d) v g)=some v:=z9v _ _ _
def z97{x:DOp}{E1:Tr AV}(h:(Qq P n ops x.o).run k vT C=.ok E1 X)(z:U9 ops L E0 Ef x vT)
  (A:∀d,x.o.dst=some d→d<n→M8 (Nh d) Ef=M8 (Nh d) E1):Rx P n ops k L E0 Ef x C X:=by
 obtain⟨v,B,j,D⟩:=z5k h;intro E g;refine⟨v,D E (z.same g),λd hd=>⟨?_,j d hd⟩⟩;rw[A d hd (j d hd),B,hd,dq]
def Xs.put(F:Fit P ops L)(_hn:n≤Nm){S:Nat→Prop}{E:Tr AV}(h:Xs L E0 Ef S E){x:DOp}(hx:x∈L){v:AV}(hv:∀d,x.o.dst=some d→M8 (Nh d) Ef=some v∧d<n) :
  Xs L E0 Ef (λj=>S j∨j=x.i) (O0 x.o.dst v E):=by
 intro t ht;have key:Vi L (λj=>S j∨j=x.i) t↔(Vi L S t∨x.o.dst=some t):=by
  constructor
  ·rintro⟨y,hy,hs|hs,hd⟩
   ·exact .inl ⟨y,hy,hs,hd⟩
   ·rw[F.ok.inj y hy x hx hs]at hd;exact .inr hd
  ·rintro (⟨y,hy,hs,hd⟩|hd)
   ·exact⟨y,hy,.inl hs,hd⟩
   ·exact⟨x,hx,.inr rfl,hd⟩
 unfold dm;cases hd:x.o.dst with
 |none =>
  rw[hd]at key;have:Vi L (λj=>S j∨j=x.i) t↔Vi L S t:=by rw[key];simp
  rw[show O0 none v E=E from rfl,h t ht];unfold dm;by_cases q:Vi L S t
  ·rw[Ij q,Ij (this.2 q)]
  ·rw[Ii q,Ii (λz=>q (this.1 z))]
 |some d =>
  rw[hd]at key;obtain⟨gg,gj⟩:=hv d hd;rw[show O0 (some d) v E=Oo v (Nh d) E from rfl,zht];by_cases e:t=d
  ·subst e;rw[Ij rfl,Ij (key.2 (.inr rfl)),gg]
  ·rw[Ii e,h t ht];unfold dm;have:Vi L (λj=>S j∨j=x.i) t↔Vi L S t:=by
    rw[key];constructor
    ·rintro (q|q)
     ·exact q
     ·exact absurd (Option.some.inj q).symm e
    ·exact .inl
   by_cases q:Vi L S t
   ·rw[Ij q,Ij (this.2 q)]
   ·rw[Ii q,Ii (λz=>q (this.1 z))]
def zdd{r:OE}{f:Tr AV→Heap→OE}(h:(OE.rec .no f r:OE)=.ok vT C):∃g j,r=.ok g j∧f g j=.ok vT C:=by
 cases r with
 |no=>cases h
 |ok g j=>exact⟨g,j,rfl,h⟩
def z8z{b:Bool}{r:OE}(h:(Bool.rec .no r b:OE)=.ok vT C):b=true∧r=.ok vT C:=by
 cases b with
 |false=>cases h
 |true=>exact⟨rfl,h⟩
def zhl{x:DOp}{l g:List DOp}{G:Tr AV}(h:(T5 P n ops (x::l) g).run k vT C=.ok G X) :
  ∃z A j,(Qq P n ops x.o).run k vT C=.ok z A∧(T5 P n ops l j).run k z A=.ok G X ∧
   ((x.c=.quiet∧j=g)∨(x.c=.rd∧j=x::g)∨(x.c=.al∧j=x::g∧(kz P ops (x::g)).run z A=true) ∨
    (x.c=.ch∧j=Ny (λy=>!(Nat.testBit x.m y.i)) g∧(kz P ops j).run z A=true)):=by
 simp only[T5]at h;split at h
 ·rename_i D;obtain⟨z,A,E,B⟩:=zdd h;exact⟨z,A,g,E,B,.inl ⟨D,rfl⟩⟩
 ·rename_i D;obtain⟨z,A,E,B⟩:=zdd h;exact⟨z,A,x::g,E,B,.inr (.inl ⟨D,rfl⟩)⟩
 ·rename_i D;obtain⟨z,A,E,B⟩:=zdd h;obtain⟨F,B⟩:=z8z B;exact⟨z,A,x::g,E,B,.inr (.inr (.inl ⟨D,rfl,F⟩))⟩
 ·rename_i D;obtain⟨z,A,E,B⟩:=zdd h;obtain⟨F,B⟩:=z8z B;exact⟨z,A,_,E,B,.inr (.inr (.inr ⟨D,rfl,F⟩))⟩
def zfd(D:n≤Nm){d:Nat}(hd:d≤Nm):∀{l g:List DOp} {A j:Tr AV} {I B:Heap},(T5 P n ops l g).run k A I=.ok j B→(∀y∈l,y.o.dst≠some d)→M8 (Nh d) j=M8 (Nh d) A
 |[],_,_,_,_,_,h,_=>Ce
 |x::l,g,A,j,I,B,h,C=>by
  obtain⟨K,M,z,E,F,_⟩:=zhl h;rw[zfd D hd F (λy q=>C y (by simp[q]))];obtain⟨v,G,O,_⟩:=z5k E;rw[G];cases H:x.o.dst with
  |none=>rfl
  |some e =>
   rw[show O0 (some e) v A=Oo v (Nh e) A from rfl,tb];intro q;subst q;exact C x N H
def rechecks_mem:∀{l:List DOp} {j:Tr AV} {z:Heap},(kz P ops l).run j z=true→∀x∈l,(Xd P ops x).run j z=true
 |[],_,_,_,x,g=>Ej
 |y::l,j,z,h,x,g=>by
  simp only[kz]at h;split at h
  ·rename_i A;rcases Ik.1 g with rfl|g
   ·exact A
   ·exact rechecks_mem h x g
  ·cases h
def zo9(T:Fit P ops L){x:DOp}(M:x∈L)(E:x.c=.rd)(F:U9 ops L E0 Ef x vT)(O:Rx P n ops k L E0 Ef x C C)(Q:∀d,x.o.dst=some d→M8 (Nh d) Ef=M8 (Nh d) vT)
  (h:(Xd P ops x).run vT X=true):Rx P n ops k L E0 Ef x X X:=by
 have B:Vs (N5 P x.o.op):=xm.2 (by rw[←T.ok.cl x M];exact E);obtain⟨v,g,R⟩:=O vT F;unfold Xd at h;cases hd:x.o.dst with
 |none=>rw[hd]at h;cases h
 |some d =>
  rw[hd]at h g;dsimp only at h;obtain⟨G,D⟩:=R d hd;have S:Qs n (some d)=some ⟨λa vT=>Oo a (Nh d) vT⟩:=by unfold Qs;dsimp only;rw[Ij D]
  have j:(Qq P n ops x.o).run k vT X=.ok (O0 (some d) v vT) X:=by
   unfold Qq at g ⊢;rw[hd,S]at g ⊢;dsimp only at g ⊢;cases H:(R4 ops x.o).run vT with
   |false =>
    rw[H]at g;dsimp only at g ⊢;injection g with g
    rw[g]
   |true =>
    rw[H]at h g;dsimp only at h g ⊢;rw[←Q d hd,G]at h;dsimp only at h;have I:=B vT X;cases A:(N5 P x.o.op).run vT X with
    |no=>rw[A]at h;cases h
    |call t K=>rw[A]at h;cases h
    |val U V =>
     rw[A,E]at h;rw[A]at I;dsimp only at h ⊢;cases I;rw[zjn (eqAV_spec _ _ _) h];rfl
  refine z97 j F (λY z _=>?_);rw[hd]at z;cases z;rw[dq,G]
def Qx(P:Program)(n:Nat)(ops:Array Oper)(k:Qn)(L:List DOp)(E0 Ef:Tr AV)(x:DOp):Prop:=∀g,Rx P n ops k L E0 Ef x g g
noncomputable def Qk(Ef:Tr AV)(x:DOp):Nat:=((x.o.dst.bind λd=>M8 (Nh d) Ef).bind Nv).getD 0
def bj(P:Program)(n:Nat)(ops:Array Oper)(L:List DOp)(E0 Ef:Tr AV)(x:DOp)(g:Heap):Prop :=
 ∃d j,x.o.dst=some d∧d<n∧M8 (Nh d) Ef=some j∧Nv j=some (Qk Ef x)∧∀B,U9 ops L E0 Ef x B→(R4 ops x.o).run B=true ∧
  ∃z A,(N5 P x.o.op).run B g=.val z A∧j=P9 (Qk Ef x) z∧∃a b,g.get (Qk Ef x)=some a∧A.get g.next=some b∧V7 (eqObj a b) a b=true
def z7c{x:DOp}{g:Tr AV}(j:Ro (Ts ops x.o) g vT):(N5 P x.o.op).run g C=(N5 P x.o.op).run vT C :=
 zif (Ro.opds (λt z=>j t (by simp[Ts,z])))
def zwe{x:DOp}(D:x.c=.al)(K:U9 ops L E0 Ef x vT)(M:(R4 ops x.o).run vT=true){d:Nat}(hd:x.o.dst=some d)(E:d<n)(O:M8 (Nh d) Ef=some G)
  (S:M8 (Nh d) vT=some G) (h:(Xd P ops x).run vT C=true):bj P n ops L E0 Ef x C:=by
 unfold Xd at h;rw[hd]at h;dsimp only at h;rw[M,S]at h;dsimp only at h;cases A:(N5 P x.o.op).run vT C with
 |no=>rw[A]at h;cases h
 |call t Q=>rw[A]at h;cases h
 |val F R =>
  rw[A,D]at h;dsimp only at h;unfold zv8 at h;cases j:Nv G with
  |none=>rw[j]at h;cases h
  |some id =>
   rw[j]at h;dsimp only at h;have g:Qk Ef x=id:=by unfold Qk;rw[hd];simp[O,j]
   cases H:V7 (Q1 30 G (P9 id F)) G (P9 id F) with
   |false=>rw[H]at h;cases h
   |true =>
    rw[H]at h;dsimp only at h;cases B:C.get id with
    |none=>rw[B]at h;cases h
    |some a =>
     cases I:R.get C.next with
     |none=>rw[B,I]at h;cases h
     |some b =>
      rw[B,I]at h;refine⟨d,G,hd,E,O,by rw[g,j],λT z=>⟨by rw[ow (K.same z)];exact M,F,R,by rw[z7c (K.same z)];exact A,by rw[g];exact zjn (eqAV_spec _ _ _) H,a,b,by rw[g];exact B,I,h⟩⟩
def Y3(Y:Fit P ops L){x:DOp}(S:x∈L)(z:x.c=.al){E1:Tr AV}(h:(Qq P n ops x.o).run k vT C=.ok E1 X)(M:U9 ops L E0 Ef x vT)(A:U9 ops L E0 Ef x E1)
  (O:∀d,x.o.dst=some d→d<n→M8 (Nh d) Ef=M8 (Nh d) E1) (g:(Xd P ops x).run E1 X=true) :
  (Qx P n ops k L E0 Ef x∧X=C)∨(∃F,True∧X=C.push F∧zno F∧Qk Ef x=C.next∧bj P n ops L E0 Ef x X):=by
 have j:=zr4 (P:=P) (o:=x.o) (by rw[←Y.ok.cl x S];exact z) vT C;have Z:=h;unfold Qq at h;cases G:Qs n x.o.dst with
 |none=>rw[G]at h;cases h
 |some p =>
  rw[G]at h;dsimp only at h;obtain⟨B,I⟩:=z9w G;cases H:(R4 ops x.o).run vT with
  |false =>
   rw[H]at h;cases h;refine .inl ⟨λT=>?_,rfl⟩;refine z97 (E1:=p.run Ri vT) ?_ M O;unfold Qq;rw[G];dsimp only;rw[H]
  |true =>
   rw[H]at h;dsimp only at h;cases K:(N5 P x.o.op).run vT C with
   |no=>rw[K]at h;cases h
   |call t Q=>rw[K]at j;exact j.elim
   |val v T =>
    rw[K]at h j;cases h;obtain⟨F,m1,rfl,U,V,_⟩:=j;cases hd:x.o.dst with
    |none =>
     unfold Xd at g;rw[hd]at g;cases g
    |some d =>
     have D:=I d hd;have E:M8 (Nh d) (p.run v vT)=some v:=by rw[B,hd,dq]
     have R:M8 (Nh d) Ef=some v:=by rw[O d hd D,E]
     refine .inr ⟨F,m1,rfl,V,?_,zwe z A (by rw[ow (M.same A)];exact H) hd D R E g⟩;unfold Qk;rw[hd];simp[R,U]
def znb(P:Program)(n:Nat)(ops:Array Oper)(k:Qn)(L:List DOp)(E0 Ef:Tr AV)(x:DOp)(g:Heap):Prop :=
 (x.c=.rd∧Rx P n ops k L E0 Ef x g g)∨(x.c=.al∧(Qx P n ops k L E0 Ef x∨bj P n ops L E0 Ef x g))
def zmh(H:Fit P ops L){x:DOp}(E:x∈L)(z:U9 ops L E0 Ef x vT)(g:znb P n ops k L E0 Ef x C)(A:∀d,x.o.dst=some d→M8 (Nh d) Ef=M8 (Nh d) vT)
  (h:(Xd P ops x).run vT X=true):znb P n ops k L E0 Ef x X:=by
 rcases g with ⟨j,g⟩|⟨j,g|g⟩
 ·exact .inl ⟨j,zo9 H E j z g A h⟩
 ·exact .inr ⟨j,.inl g⟩
 ·obtain⟨d,I,B,F,D,_,G⟩:=g;exact .inr ⟨j,.inr (zwe j z (G vT z).1 B F D (by rw[←A d B];exact D) h)⟩
def AlPh(P:Program)(n:Nat)(ops:Array Oper)(L:List DOp)(E0 Ef:Tr AV)(ch:List DOp)(j g:Nat→Heap)(x:DOp)(r:Nat):Prop :=
 r≤ch.length∧(∀q c,q<r→ch[q]?=some c→Pb x.m c.i)∧(j r).next≤Qk Ef x∧Qk Ef x<(g r).next ∧
  ∀p,r≤p→p≤ch.length→(∀q c,r≤q→q<p→ch[q]?=some c→¬Pb c.m x.i)→bj P n ops L E0 Ef x (g p)
def vn(gV:Fit P ops L)(hn:n≤Nm):∀(l E:List DOp) (seen G s:Nat) (jB:Tr AV) (gU H':Heap),(T5 P n ops l E).run k jB gU=.ok Ef H'→Pa l seen G=some s→(∀x∈l,x∈L) →
  (∀x∈E,x∈L∧Tg x=true∧Pb seen x.i∧(∀d,x.o.dst=some d→d<n)∧znb P n ops k L E0 Ef x gU)→Xs L E0 Ef (Pb seen) jB→DC L (Pb seen) →
  Xs L E0 Ef (Pb s) Ef∧DC L (Pb s) ∧
  ∃(Hb R:Nat→Heap) (S:Nat→Nat),Hb 0=gU∧R (Ny Nc l).length=H'∧(∀p,p≤(Ny Nc l).length→Ups (Hb p) (R p)) ∧
   (∀q c,(Ny Nc l)[q]?=some c→Rx P n ops k L E0 Ef c (R q) (Hb (q+1))) ∧
   (∀x∈l,x.c=.rd→∃r,r≤(Ny Nc l).length∧(∀q c,q<r→(Ny Nc l)[q]?=some c→Pb x.m c.i)∧∀p,r≤p→p≤(Ny Nc l).length→(∀q c,r≤q→q<p→(Ny Nc l)[q]?=some c→¬Pb c.m x.i)→Rx P n ops k L E0 Ef x (R p) (R p)) ∧
   (∀x∈l,x.c=.quiet→∀H2,Rx P n ops k L E0 Ef x H2 H2) ∧
   (∀x∈l,x.c=.al→Qx P n ops k L E0 Ef x∨AlPh P n ops L E0 Ef (Ny Nc l) Hb R x (S x.i)) ∧
   (∀x∈l,∀y∈l,x.c=.al→y.c=.al→¬Qx P n ops k L E0 Ef x→¬Qx P n ops k L E0 Ef y→S x.i=S y.i→Qk Ef x=Qk Ef y→x=y) ∧
   (∀x∈E,∀p,p≤(Ny Nc l).length→(∀q c,q<p→(Ny Nc l)[q]?=some c→¬Pb c.m x.i)→znb P n ops k L E0 Ef x (R p))
 |[],E,seen,G,s,jB,gU,H',h,ht,hl,hp,hE,hD=>by
  cases h;simp only[Pa,Option.some.injEq]at ht;subst ht;refine⟨hE,hD,λ_=>gU,λ_=>gU,λ_=>0,rfl,rfl,λ_ _=>.refl _,λq c K=>(by cases K),λx F=>(by cases F),λx F=>(by cases F),λx F=>(by cases F),λx F=>(by cases F),λx F p _ _=>(hp x F).2.2.2.2⟩
 |x::l,E,seen,G,s,jB,gU,H',h,ht,hl,hp,hE,hD=>by
  obtain⟨E1,Y,T,h1,h2,h3⟩:=zhl h;obtain⟨t1,t2,Z⟩:=xg ht;have F:x∈L:=hl x N;have gX:U9 ops L E0 Ef x jB:=aw gV hD F t1 (.inl (by unfold Pb;rw[t2];simp)) hE;have gO:∀y∈l,y.i≠x.i:=by
   have jC:∀gP,Pa l (Nat.lor (2^x.i) seen) gP=some s→∀y∈l,y.i≠x.i:=λgP h' y j e=>by
    have:=topo_new h' y j;rw[Xi,fx,e]at this;simp at this
   rcases Z with ⟨_,h3⟩|⟨_,_,h3⟩|⟨_,_,h3⟩<;>exact jC _ h3
  obtain⟨v,s1,s2,s3⟩:=z5k h1;have V:∀d,x.o.dst=some d→d<n→M8 (Nh d) Ef=M8 (Nh d) E1:=λd hd jD =>
   zfd hn (I1 (Mv jD) hn) h2 (λy j e=>gO y j (by rw[gV.dst y (hl y Au) x F d e hd]))
  have gB:Rx P n ops k L E0 Ef x gU Y:=z97 h1 gX V;have hS:(Pb (Nat.lor (2^x.i) seen))=λgY=>Pb seen gY∨gY=x.i:=by
   funext gY
   unfold Pb;rw[Xi,fx];simp only[La,Il,eq_iff_iff];constructor
   ·rintro (e|e)
    ·exact .inr e.symm
    ·exact .inl e
   ·rintro (e|e)
    ·exact .inr e
    ·exact .inl e.symm
  have gg:Xs L E0 Ef (Pb (Nat.lor (2^x.i) seen)) E1:=by
   rw[hS,s1];refine hE.put gV hn F (λd hd=>⟨?_,s2 d hd⟩);rw[V d hd (s2 d hd),s1,hd,dq]
  have gj:DC L (Pb (Nat.lor (2^x.i) seen)):=by
   rw[hS];rintro y j (hs|hs) gY hj
   ·exact .inl (hD y j hs gY hj)
   ·rw[gV.ok.inj y j x F hs]at hj;exact .inl (t1 gY hj)
  have gI:∀y∈l,y∈L:=λy j=>hl y Au
  have H:Pb (Nat.lor (2^x.i) seen) x.i:=by rw[hS];exact .inr rfl
  have A:∀gY,Pb seen gY→Pb (Nat.lor (2^x.i) seen) gY:=λgY hj=>by rw[hS];exact .inl hj
  have I:∀y,y∈L→Tg y=true→Pb (Nat.lor (2^x.i) seen) y.i→U9 ops L E0 Ef y E1:=λy a b c=>aw gV gj a (λgY hj=>gj y a c gY hj) (.inr b) gg
  have gQ:∀y,y∈L→Pb (Nat.lor (2^x.i) seen) y.i→(∀d,y.o.dst=some d→d<n)→∀d,y.o.dst=some d→M8 (Nh d) Ef=M8 (Nh d) E1:=λy a c hd e he=>by
   rw[gg e (I1 (Mv (hd e he)) hn)];unfold dm;rw[Ij ⟨y,a,c,he⟩]
  rcases h3 with ⟨z,rfl⟩|⟨z,rfl⟩|⟨z,rfl,gK⟩|⟨z,g8,gK⟩
  ·
   have O:Pa l (Nat.lor (2^x.i) seen) G=some s:=by
    rcases Z with ⟨_,Z⟩|⟨e,_⟩|⟨e,_⟩
    ·exact Z
    ·rw[z]at e;rcases e with e|e<;>cases e
    ·rw[z]at e;cases e
   have K:Sz (N5 P x.o.op):=xm.1 (by rw[←gV.ok.cl x F];exact z);have hH:Y=gU:=z5q K.reads h1;subst hH;have hf:Ny Nc (x::l)=Ny Nc l:=Cr
   obtain⟨r0,U,Hb,R,S,r1,r2,ru,r3,r4,r5,ra,ri,r6⟩:=vn gV hn l T _ G s E1 Y H' h2 O gI (λy j=>let ⟨a,b,c,d⟩:=hp y j;⟨a,b,A _ c,d⟩) gg gj;rw[hf];refine⟨r0,U,Hb,R,S,r1,r2,ru,r3,λy j g=>?_,λy j g H2=>?_,λy j g=>?_,λy j jz X g C=>?_,r6⟩
   ·rcases Ik.1 j with rfl|j
    ·rw[z]at g;cases g
    ·exact r4 y j g
   ·rcases Ik.1 j with rfl|j
    ·exact z97 (zj4 K h1 H2) gX V
    ·exact r5 y j g H2
   ·rcases Ik.1 j with rfl|j
    ·rw[z]at g;cases g
    ·exact ra y j g
   ·rcases Ik.1 j with rfl|j
    ·rw[z]at g;cases g
    ·rcases Ik.1 X with rfl|X
     ·rw[z]at C;cases C
     ·exact ri y j jz X g C
  ·
   have O:Pa l (Nat.lor (2^x.i) seen) G=some s:=by
    rcases Z with ⟨e,_⟩|⟨_,_,Z⟩|⟨e,_⟩
    ·rw[z]at e;cases e
    ·exact Z
    ·rw[z]at e;cases e
   have K:Vs (N5 P x.o.op):=xm.2 (by rw[←gV.ok.cl x F];exact z);have hH:Y=gU:=z5q K h1;subst hH;have hf:Ny Nc (x::l)=Ny Nc l:=Cr
   obtain⟨r0,U,Hb,R,S,r1,r2,ru,r3,r4,r5,ra,ri,r6⟩:=vn gV hn l (x::E) _ G s E1 Y H' h2 O gI (λy j=>by
    rcases Ik.1 j with rfl|j
    ·exact⟨F,by unfold Tg;rw[z],H,s2,.inl ⟨z,gB⟩⟩
    ·obtain⟨a,b,c,d⟩:=hp y j;exact⟨a,b,A _ c,d⟩) gg gj
   rw[hf];refine⟨r0,U,Hb,R,S,r1,r2,ru,r3,λy j g=>?_,λy j g H2=>?_,λy j g=>?_,λy j jz X g C=>?_,λy j=>r6 y Au⟩
   ·rcases Ik.1 j with rfl|j
    ·refine⟨0,Lk _,λq c K=>absurd K (Mp q),λp _ B D=>?_⟩;rcases r6 y N p B (λq c K=>D q c (Lk q) K) with ⟨_,h⟩|⟨h,_⟩
     ·exact h
     ·rw[z]at h;cases h
    ·exact r4 y j g
   ·rcases Ik.1 j with rfl|j
    ·rw[z]at g;cases g
    ·exact r5 y j g H2
   ·rcases Ik.1 j with rfl|j
    ·rw[z]at g;cases g
    ·exact ra y j g
   ·rcases Ik.1 j with rfl|j
    ·rw[z]at g;cases g
    ·rcases Ik.1 X with rfl|X
     ·rw[z]at C;cases C
     ·exact ri y j jz X g C
  ·
   have O:Pa l (Nat.lor (2^x.i) seen) G=some s:=by
    rcases Z with ⟨e,_⟩|⟨_,_,Z⟩|⟨e,_⟩
    ·rw[z]at e;cases e
    ·exact Z
    ·rw[z]at e;cases e
   have gC:Tg x=true:=by unfold Tg;rw[z]
   have hf:Ny Nc (x::l)=Ny Nc l:=Cr
   have gD:=Y3 gV F z h1 gX (I x F gC H) V (rechecks_mem gK x N);have jE:znb P n ops k L E0 Ef x Y:=by
    rcases gD with ⟨h,_⟩|⟨_,_,_,_,_,h⟩
    ·exact .inr ⟨z,.inl h⟩
    ·exact .inr ⟨z,.inr h⟩
   obtain⟨r0,U,Hb,R,S,r1,r2,ru,r3,r4,r5,ra,ri,r6⟩:=vn gV hn l (x::E) _ G s E1 Y H' h2 O gI (λy j=>by
    rcases Ik.1 j with rfl|jF
    ·exact⟨F,gC,H,s2,jE⟩
    ·obtain⟨a,b,c,d,e⟩:=hp y jF;exact⟨a,b,A _ c,d,zmh gV a (I y a b (A _ c)) e (gQ y a (A _ c) d) (rechecks_mem gK y j)⟩) gg gj
   rw[hf];have gR:Ups gU Y:=by
    rcases gD with ⟨_,rfl⟩|⟨ob,q1,rfl,q3,_⟩
    ·exact .refl _
    ·exact .push q1 q3 (.refl _)
   have gL:Ups Y (R 0):=by rw[←r1];exact ru 0 (Lk _)
   have jG:∀{jP jQ jR:Heap},Ups jP jQ→Ups jQ jR→Ups jP jR:=λ{jP jQ jR} h1=>by
    induction h1 with
    |refl=>exact id
    |push a b _ ih=>exact λh=>.push a b (ih h)
   have Q:∀y∈l,(if y.i=x.i then 0 else S y.i)=S y.i:=λy j=>Ii (gO y j)
   refine⟨r0,U,λp=>match p with
    |0=>gU
    |p+1=>Hb (p+1),R,λi=>if i=x.i then 0 else S i,rfl,r2,λp B=>?_,r3,λy j g=>?_,λy j g H2=>?_,λy j g=>?_,λy j jz X g C gE gF M gG=>?_,λy j p B D=>?_⟩
   ·cases p with
    |zero=>exact jG gR gL
    |succ p=>exact ru (p+1) B
   ·rcases Ik.1 j with rfl|j
    ·rw[z]at g;cases g
    ·exact r4 y j g
   ·rcases Ik.1 j with rfl|j
    ·rw[z]at g;cases g
    ·exact r5 y j g H2
   ·rcases Ik.1 j with rfl|j
    ·rcases gD with ⟨h,_⟩|⟨ob,q1,q2,q3,q4,q5⟩
     ·exact .inl h
     ·refine .inr ?_;dsimp only;rw[Ij rfl];refine⟨Lk _,λq c K=>absurd K (Mp q),Lu q4.symm,?_,λp _ B D=>?_⟩
      ·have:=gL.next;rw[q2]at this;rw[q4];exact Ix (I9 _) this
      ·rcases r6 y N p B (λq c K=>D q c (Lk q) K) with ⟨h,_⟩|⟨_,h|h⟩
       ·rw[z]at h;cases h
       ·obtain⟨d,v0,g1,g2,g3,g4,g5⟩:=q5;exfalso;obtain⟨w1,w2,_⟩:=h Y E1 (I y F gC H);obtain⟨g6,_⟩:=g5 E1 (I y F gC H);have g9:=zr4 (P:=P) (o:=y.o) (by rw[←gV.ok.cl y F];exact z) E1 Y;obtain⟨_,v',jS,g7,_⟩:=g5 E1 (I y F gC H);rw[g7]at g9;obtain⟨jT,m1,m2,_⟩:=g9;unfold Qq at w2;have B:Qs n y.o.dst=some ⟨λa jB=>Oo a (Nh d) jB⟩:=by rw[g1];unfold Qs;dsimp only;rw[Ij g2]
        rw[B]at w2;dsimp only at w2;rw[g6,g7]at w2;dsimp only at w2;injection w2 with _ w2
        rw[m2]at w2;have:=congrArg Heap.next w2;simp[Heap.push]at this
       ·exact h
    ·dsimp only;rw[Q y j];refine (ra y j g).imp id λ⟨a1,a2,a3,a4,a5⟩=>⟨a1,a2,?_,a4,a5⟩
     generalize S y.i=r at a3;cases r with
     |zero =>
      rw[r1]at a3;exact I1 gR.next a3
     |succ r=>exact a3
   ·dsimp only at M;have gS:∀u∈l,u.c=.al→¬Qx P n ops k L E0 Ef u→S u.i=0→∀ob,Y=gU.push ob→Qk Ef u=gU.next→False:=λu hu jH jI gL ob he jg=>by
     rcases ra u hu jH with h|⟨_,_,a3,_⟩
     ·exact jI h
     ·rw[gL,r1,he,jg]at a3;exact absurd a3 (Nat.not_succ_le_self _)
    rcases Ik.1 j with ey|gM
    ·rcases Ik.1 X with ez|gH
     ·rw[ey,ez]
     ·subst ey;rw[Ij rfl,Q jz gH]at M;rcases gD with ⟨h,_⟩|⟨ob,q1,q2,q3,q4,q5⟩
      ·exact absurd h gE
      ·exact (gS jz gH C gF M.symm ob q2 (by rw[←gG,q4])).elim
    ·rcases Ik.1 X with ez|gH
     ·subst ez;rw[Ij rfl,Q y gM]at M;rcases gD with ⟨h,_⟩|⟨ob,q1,q2,q3,q4,q5⟩
      ·exact absurd h gF
      ·exact (gS y gM g gE M ob q2 (by rw[gG,q4])).elim
     ·rw[Q y gM,Q jz gH]at M;exact ri y gM jz gH g C gE gF M gG
   ·exact r6 y Au p B D
  ·
   obtain⟨tc,O⟩:(∀gY,G.testBit gY=true→x.m.testBit gY=true)∧Pa l (Nat.lor (2^x.i) seen) (Nat.lor (2^x.i) G)=some s:=by
    rcases Z with ⟨e,_⟩|⟨e,_⟩|⟨_,Z⟩
    ·rw[z]at e;cases e
    ·rw[z]at e;rcases e with e|e<;>cases e
    ·exact Z
   have hf:Ny Nc (x::l)=x::Ny Nc l:=Cr
   have jL:∀y∈T,y∈E∧¬Pb x.m y.i:=λy j=>by
    rw[g8]at j;obtain⟨a,b⟩:=Xl.1 j;exact⟨a,by unfold Pb;simpa using b⟩
   obtain⟨r0,U,Hb,R,S,r1,r2,ru,r3,r4,r5,ra,ri,r6⟩:=vn gV hn l T _ _ s E1 Y H' h2 O gI (λy j=>by
    obtain⟨a,b,c,d,e⟩:=hp y (jL y j).1;exact⟨a,b,A _ c,d,zmh gV a (I y a b (A _ c)) e (gQ y a (A _ c) d) (rechecks_mem gK y j)⟩) gg gj
   rw[hf];have gT:∀y∈l,y.c≠.quiet→∀r,(∀q c,q<r→(Ny Nc l)[q]?=some c→Pb y.m c.i)→∀q c,q<r+1→(x::Ny Nc l)[q]?=some c→Pb y.m c.i:=λy j g r u1 q c K gZ=>by
    cases q with
    |zero =>
     simp only[It,Option.some.injEq]at gZ;subst gZ;refine topo_chs O y j g _ ?_;rw[Xi,fx];simp
    |succ q=>exact u1 q c J (by simpa using gZ)
   refine⟨r0,U,λq=>match q with
    |0=>gU
    |q+1=>Hb q,λq=>match q with
    |0=>gU
    |q+1=>R q,λi=>S i+1,rfl,r2,λp B=>?_,λq c K=>?_,λy j g=>?_,λy j g H2=>?_,λy j g=>?_,λy j jz X g C gE gF M gG=>?_,λy j p B D=>?_⟩
   ·cases p with
    |zero=>exact .refl _
    |succ p=>simp only[Iy]at B;exact ru p J
   ·cases q with
    |zero =>
     simp only[It,Option.some.injEq]at K;subst K;dsimp only;rw[r1];exact gB
    |succ q=>exact r3 q c Dr
   ·rcases Ik.1 j with rfl|j
    ·rw[z]at g;cases g
    ·obtain⟨r,u0,u1,u2⟩:=r4 y j g;refine⟨r+1,B5,gT y j (by rw[g];exact λe=>Aq) r u1,λp hr B D=>?_⟩;cases p with
     |zero=>omega
     |succ p =>
      simp only[Iy]at B;exact u2 p J J (λq c h5 h6 h7=>D (q+1) c J J (by simpa using h7))
   ·rcases Ik.1 j with rfl|j
    ·rw[z]at g;cases g
    ·exact r5 y j g H2
   ·rcases Ik.1 j with rfl|j
    ·rw[z]at g;cases g
    ·refine (ra y j g).imp id λ⟨a1,a2,a3,a4,a5⟩=>⟨by simp only[Iy];show S y.i+1≤_;omega,gT y j (by rw[g];exact λe=>Aq) _ a2,a3,a4,λp hr B D=>?_⟩
     dsimp only at hr D;cases p with
     |zero=>omega
     |succ p =>
      simp only[Iy]at B;exact a5 p J J (λq c h5 h6 h7=>D (q+1) c J J (by simpa using h7))
   ·rcases Ik.1 j with rfl|j
    ·rw[z]at g;cases g
    ·rcases Ik.1 X with rfl|X
     ·rw[z]at C;cases C
     ·exact ri y j jz X g C gE gF (Nat.succ.inj M) gG
   ·cases p with
    |zero=>exact (hp y j).2.2.2.2
    |succ p =>
     simp only[Iy]at B;have h0:=D 0 x J N;refine r6 y ?_ p J (λq c h6 h7=>D (q+1) c J (by simpa using h7));rw[g8];refine Xl.2 ⟨j,?_⟩;unfold Pb at h0;simpa using h0
def chain_order:∀{l:List DOp} {seen B s:Nat},Pa l seen B=some s→∀(q g:Nat) (c j:DOp),q<g→(Ny Nc l)[q]?=some c→(Ny Nc l)[g]?=some j→Pb j.m c.i
 |[],_,_,_,_,q,g,c,j,_,h,_=>by simp[Ny]at h
 |x::l,seen,B,s,F,q,g,c,j,C,h,z=>by
  obtain⟨_,_,G⟩:=xg F;rcases G with ⟨A,t⟩|⟨A,_,t⟩|⟨A,_,t⟩
  ·have D:Ny Nc (x::l)=Ny Nc l:=by simp only[Ny];unfold Nc;rw[A]
   rw[D]at h z;exact chain_order t q g c j C h z
  ·have D:Ny Nc (x::l)=Ny Nc l:=by simp only[Ny];unfold Nc;rcases A with A|A<;>rw[A]
   rw[D]at h z;exact chain_order t q g c j C h z
  ·have D:Ny Nc (x::l)=x::Ny Nc l:=by simp only[Ny];unfold Nc;rw[A]
   rw[D]at h z;cases g with
   |zero=>omega
   |succ g =>
    simp only[Iv]at z;cases q with
    |zero =>
     simp only[It,Option.some.injEq]at h;subst h;obtain⟨hm,E⟩:=Xl.1 (I8.2 ⟨_,z⟩);refine topo_chs t j hm (by rw[yr.1 E];exact λe=>Aq) _ ?_;rw[Xi,fx];simp
    |succ q=>exact chain_order t q g c j J Bb z
end vn
end
section
section ce
variable {P : Program} {n : Nat} {ops : Array Oper} {k : Qn} {L : List DOp} {E0 Ef : Tr AV}
def zjj{S:Nat→Prop}:∀{l:List DOp} {seen A s:Nat},Pa l seen A=some s→(∀z,Pb seen z→S z)→(∀x∈l,S x.i)∨∃x∈l,¬S x.i∧∀z,Pb x.m z→S z
 |[],_,_,_,_,_=>.inl λx B=>by cases B
 |x::l,seen,A,s,h,F=>by
  obtain⟨G,I,C⟩:=xg h;by_cases B:S x.i
  ·have E:∀g,Pa l (Nat.lor (2^x.i) seen) g=some s→(∀y∈x::l,S y.i)∨∃y∈x::l,¬S y.i∧∀z,Pb y.m z→S z:=λg H=>by
    rcases zjj H (S:=S) (λz j=>by
     unfold Pb at j;rw[Xi,fx]at j;simp only[La,Il]at j;rcases j with rfl|j
     ·exact B
     ·exact F z j) with q|⟨y,D,q⟩
    ·exact .inl λy D=>by
      rcases Ik.1 D with rfl|D
      ·exact B
      ·exact q y D
    ·exact .inr ⟨y,Bc,q⟩
   rcases C with ⟨_,C⟩|⟨_,_,C⟩|⟨_,_,C⟩<;>exact E _ C
  ·exact .inr ⟨x,N,B,λz j=>F z (G z j)⟩
def Oh(listed:Array Bool)(i:Nat):Prop:=listed.getD i false=true
def bg{listed:Array Bool}{i:Nat}(hi:i<listed.size)(g:Nat):Oh (listed.setIfInBounds i true) g↔(Oh listed g∨g=i):=by
 unfold Oh;rw[Jb,Mr,Jb];by_cases e:i=g
 ·subst e;simp[hi]
 ·have:¬g=i:=λq=>e q.symm
  simp[e,this]
def zni{listed:Array Bool}{i:Nat}(D:listed.size=ops.size):i∈Region.ready .any ops listed↔i<ops.size∧¬Oh listed i∧∃o,ops[i]?=some o∧∀e∈o.after.toList,Region.binds .any e=true→Oh listed e.on:=by
 unfold Region.ready Oh;simp only[Ki,Ji,H9,L5];constructor
 ·rintro⟨g,j,z⟩;refine⟨g,?_,?_⟩
  ·rw[Jb,Jh J]at j ⊢;simpa using j
  ·rw[Jh g]at z;simp only[Jw,Kk]at z;refine⟨ops[i],Jh g,λe A B=>?_⟩;have:=Array.all_eq_true_iff_forall_mem.1 z e Bh;rw[B]at this;simpa using this
 ·rintro⟨g,j,o,z,C⟩;refine⟨g,?_,?_⟩
  ·rw[Jb,Jh J]at j ⊢;simpa using j
  ·rw[z];simp only[Jw,Kk];refine Array.all_eq_true_iff_forall_mem.2 λe A=>?_
   cases B:Region.binds .any e with
   |false=>rfl
   |true=>simpa using C e Bh B
def zvi{g:CM}(h:I.le g){o:Nat}(z:∀v,I o v=none)(A:o<I.nx)(v:Nat):g o v=none:=by
 cases e:g o v with
 |none=>rfl
 |some L =>
  rcases h.new _ _ _ e with ⟨B,C,j⟩|j
  ·rw[z]at j;cases j
  ·omega
structure Pends (P:Program) (n:Nat) (ops:Array Oper) (k:Qn) (L:List DOp) (E0 Ef:Tr AV) (ord:List DOp) (ph:Nat→Nat) (C0 C:CM) (Hp:Heap) (D:Nat→Prop) (p:Nat):Prop where
 known:∀x∈ord,x.c=.al→¬Qx P n ops k L E0 Ef x→ph x.i≤p→C0.nx≤Qk Ef x∧Qk Ef x<Hp.next
 inj:∀x∈ord,∀y∈ord,x.c=.al→y.c=.al→¬Qx P n ops k L E0 Ef x→¬Qx P n ops k L E0 Ef y→ph x.i≤p→ph y.i≤p→Qk Ef x=Qk Ef y→x=y
 pend:∀x∈ord,x.c=.al→¬Qx P n ops k L E0 Ef x→ph x.i≤p→¬D x.i→∀v,C (Qk Ef x) v=none
def iy(gj:Fit P ops L){x:DOp}(hx:x∈L)(B:x.c=.al)(ho:ops[x.i]?=some x.o){H:Heap}{w:World}{E:Tr AV}{a:Act}(Q:Rel R I H w)(S:ER n I E a.tmps)
  (C:U9 ops L E0 Ef x E) (D:bj P n ops L E0 Ef x H) (F:Qk Ef x<H.next) (T:∀v,I (Qk Ef x) v=none) (b:Frame) (g:List Nat) (U:List Item) (V:List Frame) :
  ∃(G:Loc) (X:World) (A:Value) (v:AV),Rel R (I.ext (Qk Ef x) 0 G) H X∧I.keep (I.ext (Qk Ef x) 0 G)∧VR (I.ext (Qk Ef x) 0 G) v A∧(∀d,x.o.dst=some d→M8 (Nh d) Ef=some v∧d<n) ∧
   Steps P (lone (b.atR a (.inRegion ops (x.i::g)::U)) V w) (lone (b.atR (a.put x.o.dst A) (.inRegion ops g::U)) V X):=by
 obtain⟨d,v0,g1,g2,g3,g4,g5⟩:=D;obtain⟨hg,Y,H',Z,h2,oa,gg,h3,h4,h5⟩:=g5 E C;have j:=zr4 (P:=P) (o:=x.o) (by rw[←gj.ok.cl x hx];exact B) E H;rw[Z]at j;obtain⟨ob,m1,rfl,m3,m4,m5⟩:=j;rw[Heap.get_push_same]at h4;cases h4;obtain⟨K,n',sz,A,q1,q2⟩:=m5 I w a.eval (ut S);have hk:I.keep (I.ext (Qk Ef x) 0 ⟨w.heap.size,0,n',sz⟩):=λo' Y L' M=>by
  by_cases e:o'=Qk Ef x∧Y=0
  ·obtain⟨rfl,rfl⟩:=e;rw[T]at M;cases M
  ·rw[CM.ext_ne I _ e];exact M
 obtain⟨q3,q4⟩:=q2 _ (Qk Ef x) hk (CM.ext_same _ _ _ _);obtain⟨q5,_⟩:=Q.bind F T h3 K ((q4 _ Q.low.size).same h5);have hw:Region.wanted x.o (yielded ops a.tmps)=true:=by rw[←zgo S ops x.o];exact hg
 have O:=zgw (P:=P) (o:=x.o) (E:=E) (H:=H) (by rw[Z];intro e;cases e);refine⟨_,_,A,v0,q5,hk,by rw[h2];exact q3,λd' z=>?_,.one (zri ho hw O q1)⟩;rw[g1]at z;cases z;exact⟨g3,g2⟩
def ce(hk:X9 P k)(gU:Fit P ops L)(hn:n≤Nm){g:List DOp}{s:Nat}(gO:Pa g 0 0=some s)(M:∀x∈g,x∈L)(gV:∀i,i<ops.size→Pb s i)(jL:Xs L E0 Ef (Pb s) Ef)
  {Hb I:Nat→Heap} {ph:Nat→Nat} (hU:∀p,p≤(Ny Nc g).length→Ups (Hb p) (I p))
  (hA:∀q c,(Ny Nc g)[q]?=some c→Rx P n ops k L E0 Ef c (I q) (Hb (q+1)))
  (hB:∀x∈g,x.c=.rd→∃r,r≤(Ny Nc g).length∧(∀q c,q<r→(Ny Nc g)[q]?=some c→Pb x.m c.i)∧∀p,r≤p→p≤(Ny Nc g).length→(∀q c,r≤q→q<p→(Ny Nc g)[q]?=some c→¬Pb c.m x.i)→Rx P n ops k L E0 Ef x (I p) (I p))
  (jM:∀x∈g,x.c=.quiet→∀H2,Rx P n ops k L E0 Ef x H2 H2)
  (hL:∀x∈g,x.c=.al→Qx P n ops k L E0 Ef x∨AlPh P n ops L E0 Ef (Ny Nc g) Hb I x (ph x.i))
  (hI:∀x∈g,∀y∈g,x.c=.al→y.c=.al→¬Qx P n ops k L E0 Ef x→¬Qx P n ops k L E0 Ef y→ph x.i=ph y.i→Qk Ef x=Qk Ef y→x=y)
  {C0:CM} (b:Frame) (kk:List Item) (cs:List Frame) :
  ∀(j t:Nat) (listed:Array Bool) (jV:List Nat) (p:Nat) (jg:CM) (w:World) (a:Act) (gT:Tr AV),listed.size=ops.size→jV.length≤j→(∀i,i<ops.size→¬Oh listed i→i∈jV) →
   Xs L E0 Ef (Oh listed) gT→DC L (Oh listed)→Rel E jg (I p) w→ER n jg gT a.tmps→(∀q c,(Ny Nc g)[q]?=some c→(Oh listed c.i↔q<p))→p≤(Ny Nc g).length →
   C0.le jg→Pends P n ops k L E0 Ef g ph C0 jg (I p) (Oh listed) p →
   ∃C' w' a',C0.le C'∧Rel E C' (I (Ny Nc g).length) w'∧ER n C' Ef a'.tmps∧a'.defers=a.defers ∧
    Steps P (lone (b.atR a (.inRegion ops (Region.linearise.go .any ops j t listed [])::kk)) cs w) (lone (b.atR a' (.inRegion ops []::kk)) cs w'):=by
 have jz:∀x∈L,x∈g:=λx R=>by
  rcases (topo_seen gO x.i).1 (gV x.i (gU.ok.op x R).2) with h|⟨y,C,e⟩
  ·simp at h
  ·rwa [←gU.ok.inj y (M y C) x R e]
 have gX:∀(listed:Array Bool) (p:Nat) (jg:CM) (w:World) (a:Act) (gT:Tr AV),(∀i,i<ops.size→Oh listed i)→Xs L E0 Ef (Oh listed) gT→Rel E jg (I p) w→ER n jg gT a.tmps →
   (∀q c,(Ny Nc g)[q]?=some c→(Oh listed c.i↔q<p))→p≤(Ny Nc g).length→C0.le jg →
   ∃C' w' a',C0.le C'∧Rel E C' (I (Ny Nc g).length) w'∧ER n C' Ef a'.tmps∧a'.defers=a.defers ∧
    Steps P (lone (b.atR a (.inRegion ops []::kk)) cs w) (lone (b.atR a' (.inRegion ops []::kk)) cs w'):=by
  intro listed p jg w a gT hd hE hR D F hp G;have T:p=(Ny Nc g).length:=by
   rcases Le p (Ny Nc g).length with h|h
   ·have hm:=Km h;have:=(F p _ (Ib h)).1 (hd _ (gU.ok.op _ (M _ (Xl.1 hm).1)).2);omega
   ·omega
  subst T;refine⟨jg,w,a,G,hR,⟨D.1,D.2.1,λt ht=>?_⟩,rfl,.refl _ _⟩;have e:M8 (Nh t) Ef=M8 (Nh t) gT:=by
   rw[hE t ht,jL t ht];unfold dm;have:Vi L (Pb s) t↔Vi L (Oh listed) t:=by
    constructor
    ·rintro⟨y,C,_,h⟩;exact⟨y,C,hd _ (gU.ok.op y C).2,h⟩
    ·rintro⟨y,C,_,h⟩;exact⟨y,C,gV _ (gU.ok.op y C).2,h⟩
   by_cases q:Vi L (Pb s) t
   ·rw[Ij q,Ij (this.1 q)]
   ·rw[Ii q,Ii (λjO=>q (this.2 jO))]
  rw[e];exact D.2.2 t ht
 intro j
 induction j with
 |zero =>
  intro t listed jV p jg w a gT hs hT gP hE hD hR D F hp G B;have hd:∀i,i<ops.size→Oh listed i:=λi hi=>by
   by_cases h:Oh listed i
   ·exact h
   ·have:=gP i hi h;have jP:jV=[]:=Is J;rw[jP]at this;cases this
  exact gX listed p jg w a gT hd hE hR D F hp G
 |succ j ih =>
  intro t listed jV p jg w a gT hs hT gP hE hD hR D F hp G B;simp only[Region.linearise.go];change ∃C' w' a',C0.le C'∧Rel E C' (I (Ny Nc g).length) w'∧ER n C' Ef a'.tmps∧a'.defers=a.defers ∧
   Steps P (lone (b.atR a (.inRegion ops (match (Region.ready .any ops listed)[t%(Region.ready .any ops listed).length]? with
    |some i=>Region.linearise.go .any ops j (t/(Region.ready .any ops listed).length) (listed.setIfInBounds i true) [i]
    |none=>[].reverse)::kk)) cs w) (lone (b.atR a' (.inRegion ops []::kk)) cs w')
  cases hi:(Region.ready .any ops listed)[t%(Region.ready .any ops listed).length]? with
  |none =>
   have jA:Region.ready .any ops listed=[]:=by
    cases hr:Region.ready .any ops listed with
    |nil=>rfl
    |cons x xs =>
     rw[hr]at hi;have gj:t%(x::xs).length<(x::xs).length:=Nat.mod_lt _ N;rw[Ib gj]at hi;cases hi
   have hd:∀i,i<ops.size→Oh listed i:=by
    rcases zjj gO (S:=Oh listed) (λgD hj=>by simp[Pb]at hj) with h|⟨x,R,h1,h2⟩
    ·intro i hi;obtain⟨x,R,rfl⟩:=gU.ok.all i hi;exact h x (jz x R)
    ·have jB:=M x R;obtain⟨ho,gj⟩:=gU.ok.op x jB;have:x.i∈Region.ready .any ops listed:=(zni hs).2 ⟨gj,h1,x.o,ho,λe he hb=>h2 _ (gU.ok.edge x jB e he hb)⟩;rw[jA]at this;cases this
   exact gX listed p jg w a gT hd hE hR D F hp G
  |some i =>
   dsimp only;rw[linearise_go_acc,List.reverse_singleton,List.singleton_append];obtain⟨gj,gB,o,ho,gE⟩:=(zni hs).1 (Jd hi);obtain⟨x,R,rfl⟩:=gU.ok.all i gj;have jC:=(gU.ok.op x R).1;rw[ho]at jC;cases jC;have H:∀gD,Pb x.m gD→Oh listed gD:=λgD hj=>by
    obtain⟨e,he,hb,rfl|⟨y,C,e1,e2⟩⟩:=gU.ok.msk x R gD hj
    ·exact gE e he hb
    ·exact hD y C (by rw[e1];exact gE e he hb) gD e2
   have gZ:U9 ops L E0 Ef x gT:=aw gU hD R H (.inl gB) hE;have U:=jz x R;have g8:∃p' O w1 xv v,C0.le O∧Rel E O (I p') w1∧ER n O (O0 x.o.dst v gT) (a.put x.o.dst xv).tmps∧(∀d,x.o.dst=some d→M8 (Nh d) Ef=some v∧d<n) ∧
     Steps P (lone (b.atR a (.inRegion ops (x.i::Region.linearise.go .any ops j (t/(Region.ready .any ops listed).length) (listed.setIfInBounds x.i true) [])::kk)) cs w)
      (lone (b.atR (a.put x.o.dst xv) (.inRegion ops (Region.linearise.go .any ops j (t/(Region.ready .any ops listed).length) (listed.setIfInBounds x.i true) [])::kk)) cs w1) ∧
     p'≤(Ny Nc g).length∧(∀q c,(Ny Nc g)[q]?=some c→((Oh listed c.i∨c.i=x.i)↔q<p')) ∧
     Pends P n ops k L E0 Ef g ph C0 O (I p') (λgD=>Oh listed gD∨gD=x.i) p':=by
    have gF:x.c≠.ch→∀q c,(Ny Nc g)[q]?=some c→((Oh listed c.i∨c.i=x.i)↔q<p):=λgG q c hq=>by
     rw[←F q c hq];constructor
     ·rintro (h|h)
      ·exact h
      ·obtain⟨hm,V⟩:=Xl.1 (I8.2 ⟨_,hq⟩);rw[gU.ok.inj c (M c hm) x R h]at V;exact absurd (yr.1 V) gG
     ·exact .inl
    have Y:∀r,r≤(Ny Nc g).length→(∀q c,q<r→(Ny Nc g)[q]?=some c→Pb x.m c.i)→r≤p:=λr u0 u1=>by
     rcases Le p r with h|h
     ·have T:p<(Ny Nc g).length:=J
      have:=(F p _ (Ib T)).1 (H _ (u1 p _ h (Ib T)));omega
     ·exact h
    have gH:∀r q c,r≤q→q<p→(Ny Nc g)[q]?=some c→¬Pb c.m x.i:=λr q c _ hq jD hb=>by
     have hm:=(Xl.1 (I8.2 ⟨_,jD⟩)).1;exact gB (hD c (M c hm) ((F q c jD).2 hq) _ hb)
    have X:=λ(gG:x.c≠.ch) (jQ:Rx P n ops k L E0 Ef x (I p) (I p))=>show ∃p' O w1 xv v,C0.le O∧Rel E O (I p') w1∧ER n O (O0 x.o.dst v gT) (a.put x.o.dst xv).tmps∧(∀d,x.o.dst=some d→M8 (Nh d) Ef=some v∧d<n) ∧
     Steps P (lone (b.atR a (.inRegion ops (x.i::Region.linearise.go .any ops j (t/(Region.ready .any ops listed).length) (listed.setIfInBounds x.i true) [])::kk)) cs w)
      (lone (b.atR (a.put x.o.dst xv) (.inRegion ops (Region.linearise.go .any ops j (t/(Region.ready .any ops listed).length) (listed.setIfInBounds x.i true) [])::kk)) cs w1) ∧
     p'≤(Ny Nc g).length∧(∀q c,(Ny Nc g)[q]?=some c→((Oh listed c.i∨c.i=x.i)↔q<p')) ∧
     Pends P n ops k L E0 Ef g ph C0 O (I p') (λgD=>Oh listed gD∨gD=x.i) p' from by
     obtain⟨v,gI,Q⟩:=jQ gT gZ;obtain⟨O,w1,xv,av,q1,q2,q3,q4,q5,q6⟩:=zhw hk ho hR D gI b (Region.linearise.go .any ops j (t/(Region.ready .any ops listed).length) (listed.setIfInBounds x.i true) []) kk cs;refine⟨p,O,w1,xv,v,CM.le_trans G q1,q2,by rw[q4];exact (D.mono q1).put q5 q3,Q,q6,hp,gF gG,⟨B.known,B.inj,λy C z A K gC v=>?_⟩⟩;exact zvi q1 (B.pend y C z A K (λh=>gC (.inl h))) (by rw[hR.nx];exact (B.known y C z A K).2) v
    cases V:x.c with
    |quiet=>exact X (by rw[V];exact λe=>Aq) (jM x U V _)
    |rd =>
     obtain⟨r,u0,u1,u2⟩:=hB x U V;exact X (by rw[V];exact λe=>Aq) (u2 p (Y r u0 u1) hp (gH r))
    |al =>
     by_cases gK:Qx P n ops k L E0 Ef x
     ·exact X (by rw[V];exact λe=>Aq) (gK _)
     ·rcases hL x U V with h|⟨u0,u1,u2,u3,u4⟩
      ·exact absurd h gK
      ·have gQ:=Y _ u0 u1;have jR:=u4 p gQ hp (gH _);obtain⟨k1,k2⟩:=B.known x U V gK gQ;have jE:=B.pend x U V gK gQ gB;obtain⟨Lc,w1,xv,v,q1,q2,q3,q4,q5⟩:=iy gU R V ho hR D gZ jR k2 jE b (Region.linearise.go .any ops j (t/(Region.ready .any ops listed).length) (listed.setIfInBounds x.i true) []) kk cs;refine⟨p,_,w1,xv,v,⟨λo v L h=>q2 _ _ _ (G.keep _ _ _ h),I1 G.nx (J7 _ _),λo v L h=>?_⟩,q1,(D.mono' q2).put (λt ht=>(q4 t ht).2) q3,q4,q5,hp,gF (by rw[V];exact λe=>Aq),
        ⟨B.known,B.inj,λy C z A K gC v=>?_⟩⟩
       ·by_cases e:o=Qk Ef x∧v=0
        ·obtain⟨rfl,rfl⟩:=e;exact .inr k1
        ·rw[CM.ext_ne _ _ e]at h;exact G.new _ _ _ h
       ·have gG:Qk Ef y≠Qk Ef x:=λe=>gC (.inr (by rw[B.inj y C x U z V A gK K gQ e]))
        rw[CM.ext_ne _ _ (λe=>gG e.1)];exact B.pend y C z A K (λh=>gC (.inl h)) v
    |ch =>
     obtain⟨q,hq⟩:=I8.1 (Xl.2 ⟨U,yr.2 V⟩);have jX:¬q<p:=λh=>gB ((F q x hq).2 h)
     have jY:=(H7.1 hq).1;have jS:q=p:=by
      rcases Le p q with h|h
      ·have T:p<(Ny Nc g).length:=J
       have:=(F p _ (Ib T)).1 (H _ (chain_order gO p q _ x h (Ib T) hq));omega
      ·omega
     subst jS;obtain⟨v,gI,Q⟩:=hA q x hq gT gZ;obtain⟨O,w1,xv,av,q1,q2,q3,q4,q5,q6⟩:=zhw hk ho hR D gI b (Region.linearise.go .any ops j (t/(Region.ready .any ops listed).length) (listed.setIfInBounds x.i true) []) kk cs;have gL:=hU (q+1) J;have jF:O.le (O.lift (I (q+1)).next):=CM.le_lift (by rw[q2.nx];exact gL.next);have jZ:(I q).next≤(Hb (q+1)).next:=by rw[←hR.nx,←q2.nx];exact q1.nx
     have Z:∀y∈g,y.c=.al→¬Qx P n ops k L E0 Ef y→ph y.i=q+1→(Hb (q+1)).next≤Qk Ef y∧Qk Ef y<(I (q+1)).next:=λy C z A K=>by
      rcases hL y C z with h|⟨_,_,u2,u3,_⟩
      ·exact absurd h A
      ·rw[K]at u2 u3;exact⟨u2,u3⟩
     have j4:=gL.next;refine⟨q+1,O.lift (I (q+1)).next,w1,xv,v,CM.le_trans G (CM.le_trans q1 jF),q2.ups gL,by rw[q4];exact ((D.mono q1).put q5 q3).mono jF,Q,q6,J,λq' c gM=>?_,⟨λy C z A K=>?_,λy C jO hz z gR A gS K j5 jG=>?_,λy C z A K gC v=>?_⟩⟩
     ·rw[F q' c gM];constructor
      ·rintro (h|h)
       ·omega
       ·have hm:=(Xl.1 (I8.2 ⟨_,gM⟩)).1;have e:=gU.ok.inj c (M c hm) x R h;subst e;rcases Nat.lt_trichotomy q' q with h'|h'|h'
        ·omega
        ·omega
        ·exact absurd (H _ (chain_order gO q q' c c h' hq gM)) gB
      ·intro h;rcases Le q' q with h'|h'
       ·exact .inl h'
       ·have:q'=q:=J
        subst this;rw[hq]at gM;cases gM;exact .inr rfl
     ·rcases Le (ph y.i) (q+1) with h|h
      ·obtain⟨k1,k2⟩:=B.known y C z A J;exact⟨k1,J⟩
      ·obtain⟨k1,k2⟩:=Z y C z A J;have:=(CM.le_trans G q1).nx;rw[q2.nx]at this;exact⟨I1 this k1,k2⟩
     ·rcases Le (ph y.i) (q+1) with h|h<;>rcases Le (ph jO.i) (q+1) with h'|h'
      ·exact B.inj y C jO hz z gR A gS J J jG
      ·have k1:=(B.known y C z A J).2;have k2:=(Z jO hz gR gS J).1;omega
      ·have k1:=(B.known jO hz gR gS J).2;have k2:=(Z y C z A J).1;omega
      ·exact hI y C jO hz z gR A gS J jG
     ·show O.f (Qk Ef y) v=none;rcases Le (ph y.i) (q+1) with h|h
      ·exact zvi q1 (B.pend y C z A J (λh=>gC (.inl h))) (by rw[hR.nx];exact (B.known y C z A J).2) v
      ·have k1:=(Z y C z A J).1;cases e:O.f (Qk Ef y) v with
       |none=>rfl
       |some L'=>have:=q2.fresh _ _ _ e;omega
   obtain⟨p',O,w1,xv,v,q1,q2,jH,Q,q6,jT,jI,jK⟩:=g8;have gg:=bg (listed:=listed) (i:=x.i) J;have gY:Oh (listed.setIfInBounds x.i true)=λgD=>Oh listed gD∨gD=x.i:=funext λgD=>propext (gg gD)
   have jU:Xs L E0 Ef (Oh (listed.setIfInBounds x.i true)) (O0 x.o.dst v gT):=by
    have:=hE.put gU hn R Q;rw[gY];exact this
   obtain⟨C2,w2,a2,r1,r2,r3,r4,r5⟩:=ih (t/(Region.ready .any ops listed).length) (listed.setIfInBounds x.i true) (jV.erase x.i) p' O w1 (a.put x.o.dst xv) (O0 x.o.dst v gT) (by simpa using hs)
    (by
     have:=List.length_erase_of_mem (gP x.i gj gB);omega)
    (λgD hj g9=>by
     rw[gg]at g9;have h1:¬Oh listed gD:=λh=>g9 (.inl h)
     have h2:gD≠x.i:=λh=>g9 (.inr h)
     exact (List.mem_erase_of_ne h2).2 (gP gD hj h1))
    jU
    (λy C hd gD hj=>by
     rw[gg]at hd ⊢;rcases hd with hd|hd
     ·exact .inl (hD y C hd gD hj)
     ·rw[gU.ok.inj y C x R hd]at hj;exact .inl (H gD hj))
    q2 jH (λq c hq=>by rw[gg];exact jI q c hq) jT q1 (by rw[gY];exact jK)
   refine⟨C2,w2,a2,r1,r2,r3,?_,Steps.trans q6 r5⟩;rw[r4];cases x.o.dst<;>rfl
def zth(hm:P.follows .mixedOrders=true)(hk:X9 P k){w:World}{D:Tr AV}{a:Act}{id:Nat}(Z:Rel E I C w)(hE:ER n I vT a.tmps)
  (h:(sq P n ops).run k vT C=.ok D X) (b:Frame) (kk:List Item) (cs:List Frame) :
  ∃R w' S,I.le R∧Rel E R X w'∧ER n R D S.tmps∧S.defers=a.defers ∧
   Steps P (lone (b.atR a (.code (.region id ops true)::kk)) cs w) (lone (b.atR S kk) cs w'):=by
 unfold sq at h;dsimp only at h;generalize hL:Qf P ops ops.toList [] 0=L at h;have gg:LOk P ops L:=hL ▸ gq P ops;generalize hO:zy L (Ny Nc L)=F at h;have K:∀x∈F,x∈L:=λx T=>zuo x (by rw[hO];exact T)
 split at h
 ·rename_i hd;unfold zv1 at hd;split at hd
  ·cases hd
  ·rename_i s U;split at hd
   ·cases hd
   ·rename_i hs;split at hd
    ·cases hd
    ·rename_i gj;have gB:s=2^ops.size-1:=Ig (by simpa using hs);have gH:Fit P ops L:=⟨gg,(dstsOk_spec (by simpa using gj)).2,λx T y g=>zlf (zlf hd x T) y g⟩;have hn:=hE.2.1;have h0:Xs L vT D (Pb 0) vT:=λt ht=>by
      unfold dm;rw[Ii];rintro⟨y,_,g,_⟩;simp[Pb]at g
     obtain⟨r0,_,Hb,O,ph,r1,r2,ru,r3,r4,r5,ra,ri,_⟩:=vn (E0:=vT) gH hn F [] 0 0 s vT C X h U K (λx T=>by cases T) h0 (λy _ g=>by simp[Pb]at g);have V:∀i,i<ops.size→Pb s i:=λi hi=>by
      unfold Pb;rw[gB,Nat.testBit_two_pow_sub_one];simpa using hi
     have A:∀i,¬Oh (Array.replicate ops.size false) i:=λi hi=>by
      unfold Oh at hi;rw[Jb,Array.getElem?_replicate]at hi;split at hi<;>cases hi
     have Q:=ru 0 (Lk _);rw[r1]at Q;have gC:Rel E (I.lift (O 0).next) (O 0) w.drew:=Z.drew.ups Q;have M:I.le (I.lift (O 0).next):=CM.le_lift (by rw[Z.nx];exact Q.next);have B:∀y∈F,y.c=.al→¬Qx P n ops k L vT D y→ph y.i=0→C.next≤Qk D y∧Qk D y<(O 0).next:=λy g j z G=>by
      rcases ra y g j with h|⟨_,_,u2,u3,_⟩
      ·exact absurd h z
      ·rw[G]at u2 u3;rw[r1]at u2;exact⟨u2,u3⟩
     have Y:Pends P n ops k L vT D F ph I (I.lift (O 0).next) (O 0) (Oh (Array.replicate ops.size false)) 0:=by
      refine⟨λy g j z G=>?_,λy g gI hz j gD z gE G gG gF=>ri y g gI hz j gD z gE J gF,λy g j z G _ v=>?_⟩
      ·obtain⟨k1,k2⟩:=B y g j z J;rw[←Z.nx]at k1;exact⟨k1,k2⟩
      ·obtain⟨k1,k2⟩:=B y g j z J;show I.f (Qk D y) v=none;cases e:I.f (Qk D y) v with
       |none=>rfl
       |some L'=>have:=Z.fresh _ _ _ e;omega
     have H:Region.schedule (P.follows .mixedOrders) ops (w.tape w.drawn (.order b.fn id))=Region.linearise.go .any ops ops.size (w.tape w.drawn (.order b.fn id)) (Array.replicate ops.size false) []:=by
      simp only[Region.schedule,hm,Bool.true_or,K7];rfl
     obtain⟨R,w',S,q1,q2,q3,q4,q5⟩:=ce hk gH hn U K V r0 ru r3 r4 r5 ra ri b kk cs ops.size (w.tape w.drawn (.order b.fn id)) (Array.replicate ops.size false) (List.range ops.size) 0 (I.lift (O 0).next) w.drew a vT
      N N (λi hi _=>C4) (λt ht=>by
       unfold dm;rw[Ii];rintro⟨y,_,g,_⟩;exact A _ g) (λy _ g=>absurd g (A _)) gC (hE.mono M) (λq c _=>⟨λh=>absurd h (A _),λh=>absurd h (Mp q)⟩) (Lk _) M Y
     refine⟨R,w',S,q1,by rw[←r2];exact q2,q3,q4,.head stepR_region_draw ?_⟩;rw[H];exact Steps.trans q5 (.one stepR_region_end)
 ·cases h
def zmt(D:X9 P k){w:World}{B:Tr AV}{a:Act}{id:Nat}(F:Rel E I C w)(G:ER n I vT a.tmps)
  (h:(df P n ops ops.toList).run k vT C=.ok B X) (b:Frame) (A:List Item) (cs:List Frame) :
  ∃g z j,I.le g∧Rel E g X z∧ER n g B j.tmps∧j.defers=a.defers ∧
   Steps P (lone (b.atR a (.code (.region id ops false)::A)) cs w) (lone (b.atR j A) cs z):=by
 obtain⟨g,z,j,H,K,M,O,Q⟩:=zoq D b A cs ops.toList 0 rfl F G h;refine⟨g,z,j,H,K,M,O,.head stepR_region ?_⟩;rw[List.range_eq_range'];exact Steps.trans Q (.one stepR_region_end)
end ce
end
section
open Go.RowKit (Below)
inductive DR (C:CM):List Nat→List Deferred→Prop where
 |nil:DR C [] []
 |cons {d:Nat} {L:Loc} {l:List Nat} {r:List Deferred} (h:C d 0=some L) (hs:DR C l r):DR C (d::l) ({ target:=.collected L.b,args:=#[] }::r)
def DR.mono{C C':CM}(h:C.le C'):∀{l:List Nat} {r:List Deferred},DR C l r→DR C' l r
 |_,_,.nil=>.nil
 |_,_,.cons e es=>.cons (h.keep _ _ _ e) (DR.mono h es)
def RO(A:CM)(g r:Option Nat):Prop:=match g,r with
 |none,none=>True
 |some l,some j=>∃z,A l 0=some z∧z.b=j
 |_,_=>False
def RO.mono{C:CM}(h:C.le I){ro r:Option Nat}(k:RO C ro r):RO I ro r:=by
 cases ro<;>cases r<;>simp only[RO]at k ⊢;obtain⟨L,h1,h2⟩:=k;exact⟨L,h.keep _ _ _ h1,h2⟩
def Rel.putBlock{w0:World}{H:Heap}{w:World}(h:Rel w0 I H w){o:Nat}{L:Loc}(hL:I o 0=some L){ob:AObj}{x:Obj}(hB:w0.heap.size≤L.b)(gg:∀c len C ro,ob≠.cells c len C ro)
  (gj:(w.putObj L.b x).heap[L.b]?=some x→Po w0.heap.size I (w.putObj L.b x) o ob):Rel w0 I (H.put o ob) (w.putObj L.b x):=by
 have gB:=h.lt _ _ _ hL;refine h.put (h.fresh _ _ _ hL) ob (h.low.trans ⟨rfl,rfl,rfl,N,λk hk=>World.putObj_heap_other J⟩) N (λo' v L' gC gD=>World.putObj_heap_other (λe=>gC ?_)) (gj (World.putObj_heap_same gB)) (λc len C ro e=>absurd e (gg c len C ro));exact (h.excl _ _ _ _ _ _ hL gD e.symm hB).symm
def zcn{P:Program}{w:World}{o:Nat}{r:Loop}(h:w.heap[o]?=some (.loop r))(fn:FuncId)(tmps:Array Value)(g:Array Tmp)(assign body:Code) :
  (Instr.enterLoop fn tmps g assign body (some o)).run P w =
   .ok (w.heap.size,[]) (w.alloc (.loop { state:=.ready,pending:=none,fn,tmps,params:=g,assign,body,defers:=r.defers })):=by
 unfold Instr.enterLoop;simp only[Sem.run_bind,run_getLoop h,run_newObj_alloc,Result.andThen,Sem.run_pure]
def zm7{P:Program}{f n:Nat}{j:Array Tmp}{as:Code}{l:Nat}{O:List Nat}(h:zbu f n j as vQ Y L Z C=some (l,O,X))
  {w:World} {Q:List Deferred} {r:Option Nat} (g:Rel E I C w) (R:ER n I L v6) (S:DR I Z Q) (A:RO I Y r) :
  ∃H T mark U,I.le H∧Rel E H X T∧(Instr.enterLoop f v6 j as vQ r).run P w=.ok (U.b,mark) T∧H l 0=some U∧DR H O (mark++Q):=by
 unfold zbu at h
 ·split at h
  ·cases h;cases r with
   |some r=>exact A.elim
   |none =>
    obtain⟨B,K⟩:=g.push (.defd true) (.deferred (some [])) 0 0 (λU z=>by
     rw[CM.ext_same]at z;cases z;exact⟨g.low.size,Xv _ _⟩)
    have D:(I.ext C.next 0 ⟨w.heap.size,0,0,0⟩) C.next 0=some ⟨w.heap.size,0,0,0⟩:=CM.ext_same _ _ _ _;generalize I.ext C.next 0 ⟨w.heap.size,0,0,0⟩=C1 at B K D;obtain⟨M,F⟩:=B.push (ob:=.loop .ready none f n L j as vQ C.next) (x:=.loop { state:=.ready,pending:=none,fn:=f,tmps:=v6,params:=j,assign:=as,body:=vQ,defers:=w.heap.size }) 0 0 (λU z=>by
     rw[CM.ext_same]at z;cases z;refine⟨B.low.size,v6,⟨w.heap.size,0,0,0⟩,(CM.le_ext _ (B.next_none 0) (.inr (Lu B.nx))).keep _ _ _ D,Xv _ _,(R.mono K).mono (CM.le_ext _ (B.next_none 0) (.inr (Lu B.nx)))⟩)
    refine⟨_,_,[{ target:=.collected w.heap.size,args:=#[] }],⟨w.heap.size+1,0,0,0⟩,CM.le_trans K F,M,?_,?_,?_⟩
    ·exact run_enterLoop_outer f v6 j as vQ
    ·have:=CM.ext_same C1 (C.push (.defd true)).next 0 ⟨(w.alloc (.deferred (some []))).heap.size,0,0,0⟩;rw[World.size_alloc]at this ⊢;exact this
    ·exact .cons (F.keep _ _ _ D) (S.mono (CM.le_trans K F))
  ·rename_i lo;split at h
   ·rename_i d hg;cases h;cases r with
    |none=>exact A.elim
    |some r =>
     obtain⟨Lo,G,rfl⟩:=A;obtain⟨hB,gg,V,hd,hw,_⟩:=g.obj _ _ (g.fresh _ _ _ G) hg Lo G;obtain⟨M,F⟩:=g.push (ob:=.loop .ready none f n L j as vQ d) (x:=.loop { state:=.ready,pending:=none,fn:=f,tmps:=v6,params:=j,assign:=as,body:=vQ,defers:=V.b }) 0 0 (λU z=>by
      rw[CM.ext_same]at z;cases z;exact⟨g.low.size,v6,V,(CM.le_ext _ (g.next_none 0) (.inr (Lu g.nx))).keep _ _ _ hd,Xv _ _,R.mono (CM.le_ext _ (g.next_none 0) (.inr (Lu g.nx)))⟩)
     refine⟨_,_,[],⟨w.heap.size,0,0,0⟩,F,M,?_,CM.ext_same _ _ _ _,S.mono F⟩;exact zcn hw f v6 j as vQ
   ·cases h
def zkc{P:Program}{l:Nat}{L:Option Code}(h:zea l C=some (L,X)){w:World}(D:Rel E I C w){M:Loc}(B:I l 0=some M) :
  ∃j,(Instr.endLoop M.b).run P w=.ok L j∧Rel E I X j:=by
 unfold zea at h;split at h
 ·rename_i st g f n U O a b d Q;have F:st≠.busy→(some (g,C.put l (.loop .exhausted g f n U O a b d))=some (L,X))→∃j,(Instr.endLoop M.b).run P w=.ok L j∧Rel E I X j:=λG e=>by
   cases e;obtain⟨K,R,S,hd,hw,T⟩:=D.obj _ _ (D.fresh _ _ _ B) Q M B;refine⟨_,run_endLoop hw G,D.putBlock B K (λ_ _ _ _ e=>Aq) (λz V A=>?_)⟩;rw[B]at A;cases A;exact⟨K,R,S,hd,z,T⟩
  split at h
  ·cases h
  ·rename_i H;exact F (λe=>H e) h
 ·cases h
def zm3{P:Program}{w:World}{ρ:Operand→Value}{gop:Operand}(E:∀v,ρ (.const v)=v)(C:VR I G (ρ gop)){l:Nat}{j:Loc}(F:I l 0=some j){f:Nat}{args:List AV}
  (h:Xu P G [.fn (.yield l) [] []]=.call (.fn f) args) :
  ∃d D,(resolve ρ (rangeCall gop j.b) 0).run P w=.ok d w∧(invoke d.target d.args).run P w=.ok (.enter f (List.toArray D)) w∧VRs I args D:=by
 have H:VRs I [AV.fn (.yield l) [] []] [Value.func (.yield j.b) #[] #[]]:=.cons (.fn (.yield F) .nil .nil) .nil;generalize z:ρ gop=gv at C;have g:∀fn first cap,gv=.func fn first cap→(resolve ρ (rangeCall gop j.b) 0).run P w=.ok { target:=.fn fn cap,args:=first++#[Value.func (.yield j.b) #[] #[]] } w:=by
  intro fn first cap e
  subst e;simp only[resolve,z,Deferred.ofValue,Sem.run_pure];simp[E]
 unfold Xu at h;split at h
 ·rename_i Q first cap
  split at h
  ·rename_i K;cases h;cases C with
   | @fn _ R _ _ A B L M O =>
    cases L with
    |same =>
     refine⟨_,A.toList++[Value.func (.yield j.b) #[] #[]]++B.toList,g _ _ _ rfl,?_,(M.append H).append O⟩;have:(A++#[Value.func (.yield j.b) #[] #[]]++B)=(A.toList++[Value.func (.yield j.b) #[] #[]]++B.toList).toArray:=N
     rw[←this];exact z9y K _
  ·cases h
 ·cases h
 ·cases h
def cj(P:Program)(b:Frame)(m:Machine)(cs:List Frame)(A:List Item)(j:Act)(z:World):Ex→Prop
 |.normal=>Steps P m (lone (b.atR j A) cs z)
 |.exit id=>∃g,exitTo id g=exitTo id A∧Steps P m (lone (b.atR j (.code (.exit id)::g)) cs z)
 |.ret=>∃g,Steps P m (lone (b.atR j (.code .ret::g)) cs z)
def cj.head{P:Program}{b:Frame}{m m1:Machine}{cs:List Frame}{kk:List Item}{a':Act}{w':World}{x:Ex}(h:Steps P m m1)(k:cj P b m1 cs kk a' w' x):cj P b m cs kk a' w' x:=by
 cases x with
 |normal=>exact Steps.trans h k
 |exit id=>obtain⟨k1,e,s⟩:=k;exact⟨k1,e,Steps.trans h s⟩
 |ret=>obtain⟨k1,s⟩:=k;exact⟨k1,Steps.trans h s⟩
section scope
variable {P : Program} {b : Frame} {a : Act} {k : List Item} {cs : List Frame} {w : World} {c : Code}
def stepR_scope:step P (lone (b.atR a (.code (.scope c)::k)) cs w)=.next (lone (b.atR a (.code c::.inScope c::k)) cs w):=step_lone_go F8
def stepR_inScope:step P (lone (b.atR a (.inScope c::k)) cs w)=.next (lone (b.atR a k) cs w):=step_lone_go F8
end scope
structure Both (w0:World) (n:Nat) (C:CM) (E:Tr AV) (D:List Nat) (H:Heap) (a:Act) (w:World):Prop where
 rel:Rel w0 C H w
 env:ER n C E a.tmps
 defs:DR C D a.defers
def s9(P:Program)(f n:Nat)(G:CodeF)(c:Code):Prop :=
 ∀(k:Qn),X9 P k→∀(m:Nat) (g:Option Nat) (j:World) (H:CM) (I:Tr AV) (K:List Nat) (L:Heap) (a:Act) (w:World) (b:Frame) (x:Ex) (z:Tr AV) (A:List Nat) (B:Heap),
  Both j n H I K L a w→b.fn=f→RO H g b.roundOf→G.run k m g I K L=.ok x z A B→∀(C:List Item) (cs:List Frame),
  ∃D E F,H.le D∧Both j n D z A B F E∧cj P b (lone (b.atR a (.code c::C)) cs w) cs C F E x
def dx{P:Program}(hm:P.follows .mixedOrders=true)(f n:Nat):∀(c:Code),s9 P f n (Pl P f n c) c
 |.skip=>by
  intro k D m E G Q S T U a w b x L M O j I g h A cs;cases h;exact⟨Q,w,a,CM.le_refl Q,j,.one stepR_skip⟩
 |.label l=>by
  intro k D m E G Q S T U a w b x L M O j I g h A cs;cases h;exact⟨Q,w,a,CM.le_refl Q,j,.one stepR_label⟩
 |.exit id=>by
  intro k D m E G Q S T U a w b x L M O j I g h A cs;cases h;exact⟨Q,w,a,CM.le_refl Q,j,A,rfl,.refl _ _⟩
 |.ret=>by
  intro k D m E G Q S T U a w b x L M O j I g h A cs;cases h;exact⟨Q,w,a,CM.le_refl Q,j,A,.refl _ _⟩
 |.region id ops draw=>by
  intro k D m E G Q S T U a w b x L M O j I g h A cs;simp only[Pl]at h;cases draw with
  |true =>
   dsimp only at h;split at h
   ·cases h
   ·rename_i Z Y hr;cases h;obtain⟨C',w',a',z,C,B,q4,q5⟩:=zth hm D (id:=id) j.rel j.env hr b A cs;exact⟨C',w',a',z,⟨C,B,by rw[q4];exact j.defs.mono z⟩,q5⟩
  |false =>
   dsimp only at h;split at h
   ·cases h
   ·rename_i Z Y hr;cases h;obtain⟨C',w',a',z,C,B,q4,q5⟩:=zmt D (id:=id) j.rel j.env hr b A cs;exact⟨C',w',a',z,⟨C,B,by rw[q4];exact j.defs.mono z⟩,q5⟩
 |.seq c1 c2=>by
  intro k D m E G Q S T U a w b x L M O j I g h A cs;simp only[Pl]at h;cases h1:(Pl P f n c1).run k m E S T U with
  |no=>rw[h1]at h;cases h
  |ok x1 Z D1 Y =>
   rw[h1]at h;obtain⟨H,F,K,z,C,B⟩:=dx hm f n c1 k D m E G Q S T U a w b x1 Z D1 Y j I g h1 (.code c2::A) cs;cases x1 with
   |normal =>
    dsimp only at h;obtain⟨C2,w2,a2,r1,r2,r3⟩:=dx hm f n c2 k D m E G H Z D1 Y K F b x L M O C I (g.mono z) h A cs;exact⟨C2,w2,a2,CM.le_trans z r1,r2,r3.head (.head stepR_seq B)⟩
   |exit id =>
    cases h;obtain⟨R,e,s⟩:=B;exact⟨H,F,K,z,C,R,e,.head stepR_seq s⟩
   |ret =>
    cases h;obtain⟨R,s⟩:=B;exact⟨H,F,K,z,C,R,.head stepR_seq s⟩
 |.cond c c1 c2=>by
  intro k D m E G Q S T U a w b x L M O j I g h A cs;simp only[Pl]at h;split at h
  ·rename_i t ht;have hv:=ut j.env c _ ht;have gE:a.eval c=.bool t:=by
    generalize a.eval c=v at hv;cases hv;rfl
   split at h
   ·obtain⟨H,F,K,z,C,B⟩:=dx hm f n c1 k D m E G Q S T U a w b x L M O j I g h A cs;exact⟨H,F,K,z,C,B.head (.one (by rw[stepR_cond gE];rfl))⟩
   ·obtain⟨H,F,K,z,C,B⟩:=dx hm f n c2 k D m E G Q S T U a w b x L M O j I g h A cs;exact⟨H,F,K,z,C,B.head (.one (by rw[stepR_cond gE];rfl))⟩
  ·cases h
 |.block id c=>by
  intro k D m E G Q S T U a w b x L M O j I g h A cs;simp only[Pl]at h;split at h
  ·cases h
  ·rename_i x1 Z D1 Y h1;obtain⟨H,F,K,z,C,B⟩:=dx hm f n c k D m E G Q S T U a w b x1 Z D1 Y j I g h1 (.inBlock id::A) cs;cases x1 with
   |normal =>
    cases h;exact⟨H,F,K,z,C,Steps.head stepR_block (Steps.trans B (.one stepR_inBlock))⟩
   |exit gF =>
    dsimp only at h;obtain⟨R,e,s⟩:=B;split at h
    ·rename_i gg;cases h;have gG:gF=id:=Ig gg;subst gG;refine⟨H,F,K,z,C,Steps.head stepR_block (Steps.trans s (.one (stepR_exit ?_)))⟩;rw[e];simp[exitTo]
    ·rename_i gg;cases h;refine⟨H,F,K,z,C,R,?_,.head stepR_block s⟩;rw[e];have gI:¬id=gF:=λq=>by subst q;rw[I3]at gg;cases gg
     simp[exitTo,gI]
   |ret =>
    cases h;obtain⟨R,s⟩:=B;exact⟨H,F,K,z,C,R,.head stepR_block s⟩
 |.scope c=>by
  intro k D m E G Q S T U a w b x L M O j I g h A cs;simp only[Pl]at h;obtain⟨H,F,K,z,C,B⟩:=dx hm f n c k D m E G Q S T U a w b x L M O j I g h (.inScope c::A) cs;refine⟨H,F,K,z,C,?_⟩;cases x with
  |normal=>exact Steps.head stepR_scope (Steps.trans B (.one stepR_inScope))
  |exit id =>
   obtain⟨R,e,s⟩:=B;exact⟨R,e,.head stepR_scope s⟩
  |ret =>
   obtain⟨R,s⟩:=B;exact⟨R,.head stepR_scope s⟩
 |.loop c=>by
  intro k D m E G Q S T U a w b x L M O j I g h A cs;simp only[Pl]at h;have ih:=dx hm f n c;have gK:∀(gP:Nat) (Q:CM) (S:Tr AV) (T:List Nat) (U:Heap) (a:Act) (w:World),Both G n Q S T U a w→RO Q E b.roundOf→aq ((Pl P f n c).run k m E) gP S T U=.ok x L M O →
    ∃C' w' a',Q.le C'∧Both G n C' L M O a' w'∧cj P b (lone (b.atR a (.code c::.inLoop c::A)) cs w) cs A a' w' x:=by
   intro gP
   induction gP with
   |zero=>intro Q S T U a w _ _ h;cases h
   |succ gP gL =>
    intro Q S T U a w j g h;simp only[aq]at h;split at h
    ·cases h
    ·rename_i x1 Z D1 Y h1;obtain⟨H,F,K,z,C,B⟩:=ih k D m E G Q S T U a w b x1 Z D1 Y j I g h1 (.inLoop c::A) cs;cases x1 with
     |normal =>
      dsimp only at h;obtain⟨C2,w2,a2,r1,r2,r3⟩:=gL H Z D1 Y K F C (g.mono z) h;exact⟨C2,w2,a2,CM.le_trans z r1,r2,r3.head (Steps.trans B (.one stepR_inLoop))⟩
     |exit id =>
      cases h;obtain⟨R,e,s⟩:=B;exact⟨H,F,K,z,C,R,e,s⟩
     |ret =>
      cases h;obtain⟨R,s⟩:=B;exact⟨H,F,K,z,C,R,s⟩
  obtain⟨H,F,K,z,C,B⟩:=gK m Q S T U a w j g h;exact⟨H,F,K,z,C,B.head (.one stepR_loop)⟩
 |.rangeFunc gQ ps as bd=>by
  intro k D m E G Q S T U a w b x L M O j I g h A cs;simp only[Pl]at h;split at h
  ·cases h
  ·rename_i gv hg;split at h
   ·cases h
   ·rename_i l D1 Y he;obtain⟨H,F,mark,gR,z,C,B,q4,q5⟩:=zm7 (P:=P) he j.rel j.env j.defs g;split at h
    ·rename_i t gO gD;split at h
     ·cases h
     ·rename_i v H2 gM;obtain⟨d,vs,s1,s2,s3⟩:=zm3 (P:=P) (w:=F) (ρ:=a.eval) (gop:=gQ) (λ_=>rfl) ((ut j.env gQ _ hg).mono z) q4 gD;have gj:=D _ _ _ _ _ _ _ _ _ C s3 gM (b.atR { a with defers:=mark++a.defers } (.inRangeFunc gR.b::A)::cs);obtain⟨C2,w2,v',fr,t1,t2,t3,t4,t5,t6⟩:=gj;rw[←I]at B;have gH:=stepR_rangeFunc (P:=P) (b:=b) (a:=a) (k:=A) (cs:=cs) (w:=w) B s1 s2;have V:=step_leave_returned (c:=b.atR { a with defers:=mark++a.defers } (.inRangeFunc gR.b::A)) (cs:=cs) t6;rw[finish_atR_inRangeFunc]at V;have gB:DR C2 D1 ({ a with defers:=mark++a.defers }:Act).defers:=q5.mono t1;have gC:ER n C2 S ({ a with defers:=mark++a.defers }:Act).tmps:=(j.env.mono z).mono t1;split at h
      ·cases h
      ·rename_i H3 X;cases h;obtain⟨w3,u1,u2⟩:=zkc (P:=P) X t2 (t1.keep _ _ _ q4);refine⟨C2,w3,{ a with defers:=mark++a.defers },CM.le_trans z t1,⟨u2,gC,gB⟩,?_⟩;refine Steps.head gH (Steps.trans t4 (.head V (.one ?_)));rw[stepR_endRangeFunc u1];rfl
      ·rename_i c H3 X;obtain⟨w3,u1,u2⟩:=zkc (P:=P) X t2 (t1.keep _ _ _ q4);split at h
       ·cases h
       ·rename_i x1 hx;cases h;have go:Steps P (lone (b.atR a (.code (.rangeFunc gQ ps as bd)::A)) cs w) (lone (b.atR { a with defers:=mark++a.defers } (.code c::A)) cs w3) :=
         .head gH (Steps.trans t4 (.head V (.one (by rw[stepR_endRangeFunc u1];rfl))))
        refine⟨C2,w3,{ a with defers:=mark++a.defers },CM.le_trans z t1,⟨u2,gC,gB⟩,?_⟩;unfold lc at hx;split at hx
        ·cases hx;exact⟨A,go⟩
        ·cases hx;exact⟨A,rfl,go⟩
        ·cases hx
    ·cases h
 |.goto _=>by
  intro k D m E G Q S T U a w b x L M O j I g h A cs;cases h
 |.refuse _=>by
  intro k D m E G Q S T U a w b x L M O j I g h A cs;cases h
end
section
open Go.RowKit (Below)
def jd{r:ResultVar}{n:Nat}{w:World}{a:Act}(P:Rel E I C w)(B:ER n I L a.tmps){v:AV}(h:(resF z r).run L C=some v) :
  ∃x,(match r with
   |.tmp t=>pure (a.tmps.getD t undef)
   |.cell c t=>do loadVar t (←asAddr (a.tmps.getD c undef)):Sem Value).run z w=.ok x w∧VR I v x:=by
 have g:∀t,a.eval (.tmp t)=a.tmps.getD t undef:=λt=>by
  show a.tmps.getD t undef=_;rfl
 cases r with
 |tmp t =>
  simp only[resF]at h;have:=ut B _ _ h;rw[g]at this;exact⟨_,by simp[Sem.run_pure],this⟩
 |cell c t =>
  unfold resF at h;dsimp only at h ⊢;split at h
  ·rename_i n D Q;dsimp only at h;split at h
   ·rename_i o F i G;split at h
    ·rename_i l H;cases h;have j:=ut B _ _ G;rw[g]at j;generalize a.tmps.getD c undef=T at j;cases j with
     |ptr K =>
      obtain⟨M,R,O,S,U,_⟩:=P.read z H K;exact⟨.agg M.toArray,by simp[asAddr,loadVar,ye D,Sa Q,R],.agg (by simpa using O) S⟩
    ·cases h
   ·cases h
  ·rename_i n D Q;dsimp only at h;split at h
   ·rename_i o F i G;split at h
    ·rename_i X H;cases h;have j:=ut B _ _ G;rw[g]at j;generalize a.tmps.getD c undef=T at j;cases j with
     |ptr K =>
      obtain⟨M,R,O,S,U,Y,V⟩:=P.read z H K;have A:=V 0 J
      match M,O with
      |[u],.cons hu .nil =>
       simp only[Lv,It]at A;exact⟨u,by simp[asAddr,loadVar,ye D,A],hu⟩
    ·cases h
   ·cases h
  ·cases h
def zs7{M:Program}{n:Nat}{D:World}{E:CM}{O:Tr AV}{P:Heap}{w:World}{a:Act}(B:Rel D E P w)(C:ER n E O a.tmps):∀{l:List ResultVar} {j:List AV},(n7 M l).run O P=some j →
  ∃z,(l.mapM fun
   |.tmp t=>pure (a.tmps.getD t undef)
   |.cell c t=>do loadVar t (←asAddr (a.tmps.getD c undef)):Sem (List Value)).run M w=.ok z w∧VRs E j z
 |[],j,h=>by
  cases h;exact⟨[],by simp[Sem.run_pure],.nil⟩
 |r::l,j,h=>by
  simp only[n7]at h;split at h
  ·cases h
  ·rename_i v F;split at h
   ·cases h
   ·rename_i G A;cases h;obtain⟨x,H,I⟩:=jd B C F;obtain⟨z,K,L⟩:=zs7 B C A;refine⟨x::z,?_,.cons I L⟩;rw[List.mapM_cons,Sem.run_bind];have g:=H;cases r<;>(dsimp only at g ⊢;rw[g];simp only[Result.andThen_ok,Sem.run_bind,K,Sem.run_pure])
def zk0{fn:Func}{n:Nat}{w:World}{a:Act}(A:Rel E I C w)(B:ER n I L a.tmps)(h:(n7 z fn.results.toList).run L C=some M) :
  ∃x,(results fn a.tmps).run z w=.ok x w∧VR I (match M with
   |[v]=>v
   |l=>.tup l) x:=by
 obtain⟨g,D,F⟩:=zs7 A B h;have hm:(fn.results.mapM fun
   |.tmp t=>pure (a.tmps.getD t undef)
   |.cell c t=>do loadVar t (←asAddr (a.tmps.getD c undef)):Sem (Array Value)).run z w=.ok g.toArray w:=by
  rw[Array.mapM_eq_mapM_toList];rw[map_eq_pure_bind,Sem.run_bind,D];rfl
 refine⟨if h:g.toArray.size=1 then g.toArray[0] else .tuple g.toArray,?_,?_⟩
 ·unfold results;rw[Sem.run_bind];exact (congrArg (λr=>Result.andThen r _) hm).trans rfl
 ·cases F with
  |nil=>exact .tup .nil
  |cons e G =>
   cases G with
   |nil=>exact e
   |cons H j =>
    simp only[List.size_toArray,Iy];rw[dif_neg J];exact .tup (.cons e (.cons H j))
def zvo{fr:Frame}{j:List Frame}{w:World}{A:List Deferred}(hm:fr.mode=.returning)(hd:fr.defers={ target:=.collected g,args:=#[] }::A)(hw:w.heap[g]?=some (.deferred (some []))) :
  step z (lone fr j w)=.next (lone { fr with defers:=A } j (w.putObj g (.deferred none))) :=
 step_lone_go (by simp[stepG,unwind,hm,hd,Sem.runT_eq,run_takeDeferred hw,GStep.bare_after])
def zqz{T:Program}{E:World}{K:CM}:∀{R:List Nat} {G:List Deferred} {H B:Heap} {w:World} {fr:Frame} (g:List Frame),DR K R G→p0 R H=some B→Rel E K H w→fr.mode=.returning→fr.defers=G →
  ∃C,Rel E K B C∧Steps T (lone fr g w) (lone { fr with defers:=[] } g C)
 |_,_,H,B,w,fr,g,.nil,h,j,hm,hd=>by
  cases h;refine⟨w,j,?_⟩;have:fr={ fr with defers:=[] }:=by cases fr;cases hd;rfl
  rw[←this];exact .refl _ _
 |_,_,H,B,w,fr,g,.cons (d:=d) (L:=S) (r:=r) D M,h,j,hm,hd=>by
  simp only[p0]at h;split at h
  ·rename_i O;obtain⟨I,hw⟩:=j.obj _ _ (j.fresh _ _ _ D) O S D;have F:Rel E K (H.put d (.defd false)) (w.putObj S.b (.deferred none)):=j.putBlock D I (λ_ _ _ _ e=>Aq) (λz U A=>by
    rw[D]at A;cases A;exact⟨I,z⟩)
   obtain⟨C,P,Q⟩:=zqz (fr:={ fr with defers:=r }) g M h F hm rfl;exact⟨C,P,.head (zvo hm hd hw) Q⟩
  ·cases h
def ER.start{args:List AV}(C:VRs I args vF){n:Nat}(hn:n≤Nm)(hl:args.length≤n):ER n I (Pp args 0 .e) (vF.toArray++Array.replicate (n-vF.toArray.size) undef):=by
 have hlen:=C.length;refine⟨Ab,hn,λt ht=>?_⟩;rw[get_ofList args 0 .e t,Vz];rw[Jb];by_cases h:t<args.length
 ·rw[Ij ⟨Lk _,J⟩];obtain⟨a,v,q1,q2,q3⟩:=C.get' h;rw[Nat.sub_zero,q1];rw[Jx Ab];simp only[Jm,q2,Kk];exact q3
 ·rw[Ii J];show _=undef;rw[My Ab,Array.getElem?_replicate];split<;>rfl
def setPs_ok:∀(g:List Tmp) (args:List AV) (j:List Value) {n:Nat} {G A:Tr AV} {z:Array Value},vm g args n G=some A→VRs I args j→ER n I G z →
  g.length=j.length∧ER n I A ((g.zip j).foldl (λtmps (t,a)=>tmps.setIfInBounds t a) z):=by
 intro g
 induction g with
 |nil =>
  intro args j n G A z h B C;cases B with
  |nil=>cases h;exact⟨rfl,C⟩
  |cons e F=>cases h
 |cons p g H =>
  intro args j n G A z h B C;cases B with
  |nil=>cases h
  |cons e F =>
   simp only[vm]at h;split at h
   ·rename_i K;have D:p<n:=In K;have E:=ER.put (a:={ tmps:=z,defers:=[] }) C (d:=some p) (λt L=>by cases L;exact D) e;obtain⟨M,O⟩:=H _ _ h F E;exact⟨Av,O⟩
   ·cases h
def zww{P:Program}(hm:P.follows .mixedOrders=true){k:Qn}(hk:X9 P k){f m:Nat}{w:World}{args:List AV}{v:AV}(hR:Rel E I C w)(hv:VRs I args vF)
  (h:(wh P f).run k m args C=.ok v X):oq P E I w (.fn f) vF v X:=by
 unfold wh at h;split at h
 ·cases h
 ·rename_i fn S;split at h
  ·cases h
  ·rename_i A T;split at h
   ·rename_i G;dsimp only at h;split at h
    ·cases h
    ·rename_i H;have B:args.length≤fn.ntmps:=In H;split at h
     ·cases h
     ·rename_i x gB gC H1 K;intro D;let b:Frame:={ (default:Frame) with fn:=f,kind:=.normal,roundOf:=none };have z:Frame.enter P f vF.toArray .normal=b.atR { tmps:=vF.toArray++Array.replicate (fn.ntmps-vF.toArray.size) undef,defers:=[] } [.code A]:=by
       simp[Frame.enter,Frame.atR,S,T,b]
      obtain⟨C1,w1,a1,q1,M,U⟩:=dx hm f fn.ntmps A k hk m none E I (Pp args 0 .e) [] C { tmps:=vF.toArray++Array.replicate (fn.ntmps-vF.toArray.size) undef,defers:=[] } w b x gB gC H1
       ⟨hR,ER.start hv G B,.nil⟩ rfl trivial K [] D
      rw[←z]at U;have L:∀g,Steps P (lone (Frame.enter P f vF.toArray .normal) D w) (lone { b.atR a1 g with mode:=.returning } D w1) →
        (match p0 gC H1 with
         |none=>RV.no
         |some O=>match (n7 P fn.results.toList).run gB O with
          |some [v]=>.ok v O
          |some l=>.ok (.tup l) O
          |none=>.no)=.ok v X →
        ∃V Y v' Z,I.le V∧Rel E V X Y∧VR V v v'∧Steps P (lone (Frame.enter P f vF.toArray .normal) D w) (lone Z D Y)∧Z.fn=f∧Z.leaving P Y (.returned v'):=by
       intro g hs F;split at F
       ·cases F
       ·rename_i O gg;obtain⟨w2,Q,r2⟩:=zqz (fr:={ b.atR a1 g with mode:=.returning }) D M.defs gg M.rel rfl rfl;split at F
        ·rename_i v1 j;cases F;obtain⟨xv,s1,R⟩:=zk0 (fn:=fn) Q M.env j;exact⟨C1,w2,xv,_,q1,Q,R,Steps.trans hs r2,rfl,rfl,rfl,rfl,fn,S,s1⟩
        ·rename_i l gj j;cases F;obtain⟨xv,s1,R⟩:=zk0 (fn:=fn) Q M.env j;refine⟨C1,w2,xv,_,q1,Q,?_,Steps.trans hs r2,rfl,rfl,rfl,rfl,fn,S,s1⟩;rcases l with _|⟨u,_|⟨u2,l⟩⟩
         ·exact R
         ·exact absurd rfl (gj u)
         ·exact R
        ·cases F
      cases x with
      |exit id=>cases h
      |normal=>exact L [] (Steps.trans U (.one (stepR_end rfl))) h
      |ret =>
       obtain⟨k1,s⟩:=U;exact L (.code .ret::k1) (Steps.trans s (.one (stepR_ret rfl))) h
   ·cases h
def zp5{P:Program}{l:Nat}{x:Ex}{v:AV}(h:yh l x C=.ok v X){w:World}(B:Rel E I C w){O:Loc}(z:I l 0=some O) :
  ∃H K,(Instr.endRound O.b (match x with
   |.normal=>none
   |.ret=>some .ret
   |.exit id=>some (.exit id))).run P w=.ok K H∧Rel E I X H∧VR I v K:=by
 unfold yh at h;split at h
 ·rename_i st L f n S R a b d Q;obtain⟨A,D,F,hd,hw,G⟩:=B.obj _ _ (B.fresh _ _ _ z) Q O z;split at h
  ·cases h;refine⟨_,_,run_endRound none hw,B.putBlock z A (λ_ _ _ _ e=>Aq) (λg M j=>?_),.bool true⟩;rw[z]at j;cases j;exact⟨A,D,F,hd,g,G⟩
  ·cases h;refine⟨_,_,run_endRound (some .ret) hw,B.putBlock z A (λ_ _ _ _ e=>Aq) (λg M j=>?_),.bool false⟩;rw[z]at j;cases j;exact⟨A,D,F,hd,g,G⟩
  ·rename_i id;cases h;refine⟨_,_,run_endRound (some (.exit id)) hw,B.putBlock z A (λ_ _ _ _ e=>Aq) (λg M j=>?_),.bool false⟩;rw[z]at j;cases j;exact⟨A,D,F,hd,g,G⟩
 ·cases h
def c8{P:Program}{l:Nat}(h:x8 l C=some X){w:World}(A:Rel E I C w){G:Loc}(z:I l 0=some G) :
  ∃B,(Instr.beginRound G.b).run P w=.ok () B∧Rel E I X B:=by
 unfold x8 at h;split at h
 ·rename_i D f n R O a b d H;cases h;obtain⟨F,K,L,hd,hw,M⟩:=A.obj _ _ (A.fresh _ _ _ z) H G z;refine⟨_,run_beginRound hw rfl,A.putBlock z F (λ_ _ _ _ e=>Aq) (λg Q j=>?_)⟩;rw[z]at j;cases j;exact⟨F,K,L,hd,g,M⟩
 ·cases h
def zd2{P:Program}(hm:P.follows .mixedOrders=true){gj:Qn}(Z:X9 P gj):∀m,X9 P (Q6 P gj m)
 |0=>λ_ _ _ _ _ _ _ _ _ _ _ h=>Am
 |m+1=>by
  have K:=zd2 hm Z m;intro w0 gC gD w t gg A v H' B L h;unfold Q6 at h;cases t with
  |fn f =>
   dsimp only at h;split at h
   ·rename_i v1 H1 ho;cases h;exact Z _ _ _ _ _ _ _ _ _ B L ho
   ·exact zww hm K B L h
  |yield l =>
   dsimp only at h;split at h
   ·rename_i f n gE C a b d hg;split at h
    ·cases h
    ·rename_i E1 M;split at h
     ·rename_i E2 H2 O;split at h
      ·cases h
      ·rename_i Q R;split at h
       ·cases h
       ·rename_i x E3 gF H3 S;split at h
        ·intro gB D c cs;obtain⟨hB,E,Ld,hd,hw,hE⟩:=B.obj _ _ (B.fresh _ _ _ D) hg gB D;obtain⟨F,T⟩:=setPs_ok _ _ _ M L hE;have U:=run_yield (P:=P) (args:=A.toArray) hw (by simpa using F.symm);dsimp only at U;have z:((C.zip A.toArray).foldl (λg (t,a)=>g.setIfInBounds t a) E)=((C.toList.zip A).foldl (λg (t,a)=>g.setIfInBounds t a) E):=by
          rw[←Array.foldl_toList,Array.toList_zip]
         rw[z]at U;let G:Frame:={ (default:Frame) with fn:=f,kind:=.normal,roundOf:=some gB.b };have H:RO gC (some l) G.roundOf:=⟨gB,D,rfl⟩;obtain⟨C1,w1,a1,I,V,q3⟩:=dx hm f n a (Q6 P gj m) K m (some l) w0 gC E1 [] gD { tmps:=(C.toList.zip A).foldl (λg (t,a)=>g.setIfInBounds t a) E,defers:=[] } w G .normal E2 [] H2
          ⟨B,T,.nil⟩ rfl H O [.beginRound,.code b] (c::cs)
         obtain⟨w2,r1,r2⟩:=c8 (P:=P) R V.rel (I.keep _ _ _ D);obtain⟨C2,w3,a3,s1,s2,X⟩:=dx hm f n b (Q6 P gj m) K m (some l) w0 C1 E2 [] Q a1 w2 G x E3 [] H3 ⟨r2,V.env,V.defs⟩ rfl (H.mono I) S [] (c::cs);obtain⟨w4,xv,Y,t2,t3⟩:=zp5 (P:=P) h s2.rel (s1.keep _ _ _ (I.keep _ _ _ D));refine⟨C2,w4,xv,f,_,a,b,CM.le_trans I s1,t2,t3,U,?_⟩;have j:Frame.round gB.b f ((C.toList.zip A).foldl (λg (t,a)=>g.setIfInBounds t a) E) a b .normal=G.atR { tmps:=(C.toList.zip A).foldl (λg (t,a)=>g.setIfInBounds t a) E,defers:=[] } [.code a,.beginRound,.code b]:=by
          simp[Frame.round,Frame.atR,G]
         rw[j];refine Steps.trans q3 (.head (stepR_beginRound rfl r1) ?_);cases x with
         |normal=>exact Steps.trans X (.one (stepR_round_end rfl rfl Y))
         |ret =>
          obtain⟨k1,s⟩:=X;exact Steps.trans s (.one (stepR_round_ret rfl rfl Y))
         |exit id =>
          obtain⟨k1,e,s⟩:=X;exact Steps.trans s (.one (stepR_round_exit rfl rfl e Y))
        ·cases h
     ·cases h
   ·cases h
def Rel.start(w:World):Rel w ⟨λ_ _=>none,0⟩ ⟨.e,0⟩ w :=
 ⟨rfl,.refl _ _,λ_ _ _ h=>Am,λ_ _ _ h=>Am,λ_ _ _ _ _ _ h=>Am,λ_ _ h=>absurd h (Mp _),λ_ _ _ _ _ h=>absurd h (Mp _)⟩
end
section
open Go.RowKit Go.ChangeShapes Go.WideShapes Go.ChangeAt
variable {H : Type} {enc : TypeId × Value → H} {P : Program}
def zti{f:Func}{s:ChangeSpec}{j F:Bool}{W:World}{args:Array Value}{v:Value}{K gs:List (DataW H)}{g pa pv:List MemPlace}
  (R:DataW.Whole enc P f.params.toList s.vars O W args.toList K gs g)
  (C:∀(b:Nat) (G:Nat→Bool) (hd:Bool),DataW.TrodAll enc P E b G hd f.resultTypes.toList (v.resultList f.resultTypes.size) (s.fn H (K++gs)).results [])
  (z:∀G:Nat→Bool,(∀p∈g,G p.block=true)→DataW.TrodAll enc P E 0 G true f.params.toList args.toList (s.fn H (K++gs)).args pa)
  (A:∀G:Nat→Bool,(∀p∈g,G p.block=true)→DataW.TrodVars enc P E G s.vars (s.fn H (K++gs)).vars pv)
  (B:g=pa++pv) (T:Below W.heap.size W E)
  (S:∀(Y:Nat) (t:TypeId) (r:Value),f.resultTypes[Y]?=some t→(v.resultList f.resultTypes.size)[Y]?=some r→Value.okWide P E .any 0 t r) :
  s.post enc P f O vI j F W args v E:=by
 have L:=R.lt;obtain⟨_,_,_,_,_,U,V⟩:=id R;have M:∀p∈g,(λb=>decide (b<W.heap.size)) p.block=true:=λp D=>by simpa using L p D
 refine⟨K,gs,g,[],pa,pv,R,C _ _ _,z _ M,A _ M,World.keptBut_mono (λp D=>⟨D,.inr (I2.1 (B ▸ D))⟩) (T.frame (·∈g)),λ_=>?_⟩;refine⟨S,_,_,([]++pa)++pv,⟨[]++pa,pv,trodAll_append (z _ (λ_ _=>rfl)) (C _ _ _),A _ (λ_ _=>rfl),rfl,λb I D=>?_,λX=>?_⟩,λp D _=>by rw[B];simpa using D⟩
 ·have Q:MemPlace.cell b I∈g:=by rw[B];simpa using D
  rw[T.frozen (p:=⟨b,I,none⟩) (L _ Q)];exact U b I Q
 ·have:=V X;rw[B]at this;simpa using this
end
def Qn.le(k k':Qn):Prop:=∀t a H v H',k t a H=.ok v H'→k' t a H=.ok v H'
def yg{n:Nat}{ops:Array Oper}{o:Oper}{k B:Qn}(F:k.le B)(h:(Qq z n ops o).run k L C=.ok vT X):(Qq z n ops o).run B L C=.ok vT X:=by
 unfold Qq at h ⊢;cases D:Qs n o.dst with
 |none=>rw[D]at h;cases h
 |some p =>
  rw[D]at h;dsimp only at h ⊢;cases E:(R4 ops o).run L with
  |false=>rw[E]at h;exact h
  |true =>
   rw[E]at h;dsimp only at h ⊢;cases j:(N5 z o.op).run L C with
   |no=>rw[j]at h;cases h
   |val v G=>rw[j]at h;exact h
   |call t g =>
    rw[j]at h;dsimp only at h ⊢;cases A:k t g C with
    |no=>rw[A]at h;cases h
    |ok v G=>rw[A]at h;rw[F _ _ _ _ _ A];exact h
def yu{r:OE}{f:Tr AV→Heap→OE}(h:(OE.rec .no f r:OE)=.ok L C):∃g j,r=.ok g j∧f g j=.ok L C:=by
 cases r with
 |no=>cases h
 |ok g j=>exact⟨g,j,rfl,h⟩
def zbb{F:Program}{n:Nat}{ops:Array Oper}{k z:Qn}(A:k.le z):∀{l:List Oper} {B g:Tr AV} {C j:Heap},(df F n ops l).run k B C=.ok g j→(df F n ops l).run z B C=.ok g j
 |[],_,_,_,_,h=>h
 |o::l,B,g,C,j,h=>by
  simp only[df]at h ⊢;obtain⟨G,H,D,E⟩:=yu h;rw[yg A D];exact zbb A E
def xw{M:Program}{n:Nat}{ops:Array Oper}{k I:Qn}(j:k.le I):∀{l g:List DOp} {K B:Tr AV} {L C:Heap},(T5 M n ops l g).run k K L=.ok B C→(T5 M n ops l g).run I K L=.ok B C
 |[],_,_,_,_,_,h=>h
 |x::l,g,K,B,L,C,h=>by
  simp only[T5]at h ⊢;split at h
  ·rename_i D;obtain⟨E,F,z,A⟩:=yu h;dsimp only;rw[yg j z];exact xw j A
  ·rename_i D;obtain⟨E,F,z,A⟩:=yu h;dsimp only;rw[yg j z];exact xw j A
  ·rename_i D;obtain⟨E,F,z,A⟩:=yu h;obtain⟨G,H⟩:=z8z A;dsimp only;rw[yg j z];dsimp only;rw[G];exact xw j H
  ·rename_i D;obtain⟨E,F,z,A⟩:=yu h;obtain⟨G,H⟩:=z8z A;dsimp only;rw[yg j z];dsimp only;rw[G];exact xw j H
def zlm{n:Nat}{ops:Array Oper}{k g:Qn}(j:k.le g)(h:(sq z n ops).run k L C=.ok vT X):(sq z n ops).run g L C=.ok vT X:=by
 unfold sq at h ⊢;dsimp only at h ⊢;split at h
 ·exact xw j h
 ·cases h
def zbo{f G:Tr AV→List Nat→Heap→Res}(E:∀B C D x g j z,f B C D=.ok x g j z→G B C D=.ok x g j z):∀{m A:Nat},m≤A→∀{B C D x g j z},aq f m B C D=.ok x g j z→aq G A B C D=.ok x g j z
 |0,_,_,_,_,_,_,_,_,_,h=>Am
 |m+1,0,hm,_,_,_,_,_,_,_,_=>J
 |m+1,A+1,hm,B,C,D,x,g,j,z,h=>by
  simp only[aq]at h ⊢;split at h
  ·cases h
  ·rename_i y H I K F;rw[E _ _ _ _ _ _ _ F];dsimp only;split at h
   ·exact zbo E J h
   ·exact h
def eo{P:Program}{f n:Nat}{k k':Qn}(H:k.le k'){m:Nat}(hm:m≤g):∀(c:Code) {A:Tr AV} {B:List Nat} {C:Heap} {x:Ex} {j:Tr AV} {z:List Nat} {H':Heap},
  (Pl P f n c).run k m Y A B C=.ok x j z H'→(Pl P f n c).run k' g Y A B C=.ok x j z H':=by
 intro c
 induction c with
 |skip=>intro A B C x j z H' h;exact h
 |region id ops draw =>
  intro A B C x j z H' h;simp only[Pl]at h ⊢;cases draw with
  |true =>
   dsimp only at h ⊢;split at h
   ·cases h
   ·rename_i I K D;rw[zlm H D];exact h
  |false =>
   dsimp only at h ⊢;split at h
   ·cases h
   ·rename_i I K D;rw[zbb H D];exact h
 |seq a b E F =>
  intro A B C x j z H' h;simp only[Pl]at h ⊢;cases L:(Pl P f n a).run k m Y A B C with
  |no=>rw[L]at h;cases h
  |ok y I M K =>
   rw[L]at h;rw[E L];dsimp only at h ⊢;cases y with
   |normal=>exact F h
   |exit id=>exact h
   |ret=>exact h
 |cond c a b E F =>
  intro A B C x j z H' h;simp only[Pl]at h ⊢;split at h
  ·split at h
   ·exact E h
   ·exact F h
  ·cases h
 |block id c G =>
  intro A B C x j z H' h;simp only[Pl]at h ⊢;split at h
  ·cases h
  ·rename_i y I M K D;rw[G D];exact h
 |loop c G =>
  intro A B C x j z H' h;simp only[Pl]at h ⊢;exact zbo (λA B C x j z H' h=>G h) hm h
 |rangeFunc R O a b _ _ =>
  intro A B C x j z H' h;simp only[Pl]at h ⊢;split at h
  ·cases h
  ·split at h
   ·cases h
   ·split at h
    ·split at h
     ·cases h
     ·rename_i v Q D;rw[H _ _ _ _ _ D];exact h
    ·cases h
 |exit id=>intro A B C x j z H' h;exact h
 |scope c G=>intro A B C x j z H' h;exact G h
 |label l=>intro A B C x j z H' h;exact h
 |ret=>intro A B C x j z H' h;exact h
 |_=>intro A B C x j z H' h;cases h
def zqq{P:Program}{f:Nat}{k A:Qn}(G:k.le A){m:Nat}(hm:m≤g){v:AV}(h:(wh P f).run k m M C=.ok v X):(wh P f).run A g M C=.ok v X:=by
 unfold wh at h ⊢;cases B:P.funcs[f]? with
 |none=>rw[B]at h;cases h
 |some fn =>
  rw[B]at h;dsimp only at h ⊢;cases D:fn.body with
  |none=>rw[D]at h;cases h
  |some j =>
   rw[D]at h;dsimp only at h ⊢;by_cases E:fn.ntmps≤Nm
   ·rw[Ij E]at h ⊢;dsimp only at h ⊢;cases F:Nat.ble M.length fn.ntmps with
    |false=>rw[F]at h;cases h
    |true =>
     rw[F]at h;dsimp only at h ⊢;cases z:(Pl P f fn.ntmps j).run k m none (Pp M 0 .e) [] C with
     |no=>rw[z]at h;cases h
     |ok x I K H=>rw[z]at h;rw[eo G hm _ z];exact h
   ·rw[Ii E]at h;cases h
def W7{P:Program}{O:Qn}:∀{m g:Nat},m≤g→Qn.le (Q6 P O m) (Q6 P O g)
 |0,_,_=>λt a K v E h=>Am
 |m+1,0,h=>J
 |m+1,g+1,hm=>by
  have j:=W7 (P:=P) (O:=O) (J:m≤g);intro t a K v E h;unfold Q6 at h ⊢;cases t with
  |fn f =>
   dsimp only at h ⊢;cases B:O (.fn f) a K with
   |no=>rw[B]at h;exact zqq j J h
   |ok L M=>rw[B]at h;exact h
  |yield l =>
   dsimp only at h ⊢;split at h
   ·rename_i f n Q F R b d S;cases C:vm F.toList a n Q with
    |none=>rw[C]at h;cases h
    |some T =>
     rw[C]at h;dsimp only at h ⊢;split at h
     ·rename_i G H I;rw[eo j J _ I];dsimp only;cases D:x8 l H with
      |none=>rw[D]at h;cases h
      |some z =>
       rw[D]at h;dsimp only at h ⊢;cases A:(Pl P f n b).run (Q6 P O m) m (some l) G [] z with
       |no=>rw[A]at h;cases h
       |ok x U X V=>rw[A]at h;rw[eo j J _ A];exact h
     ·cases h
   ·cases h
section
noncomputable section
abbrev Zr:=Nat→Option AV
def T7(E:Tr AV)(ρ:Zr):Prop:=∀t,t≤Nm→M8 (Nh t) E=ρ t
inductive Ox where
 |t (i:Nat)
 |c (a:AV)
def Ox.ev(ρ:Zr):Ox→AV
 |.t i=>(ρ i).getD Ri
 |.c a=>a
def N8:Operand→Option Ox
 |.tmp t=>if t≤Nm then some (.t t) else none
 |.const v=>(Vp v).map .c
 |.func f=>some (.c (.fn (.func f) [] []))
 |.global _=>none
def S7{x:Operand}{r:Ox}(h:N8 x=some r){E:Tr AV}{ρ:Zr}(z:T7 E ρ):(Nk x).run E=some (r.ev ρ):=by
 cases x with
 |tmp t =>
  simp only[N8]at h;split at h
  ·rename_i j;cases h;unfold Nk;dsimp only;rw[Ih j];dsimp only;rw[z t j];simp only[Ox.ev];cases ρ t<;>rfl
  ·cases h
 |const v =>
  simp only[N8]at h;cases g:Vp v with
  |none=>rw[g]at h;cases h
  |some a=>rw[g]at h;cases h;unfold Nk;dsimp only;rw[g];rfl
 |global A=>cases h
 |func f=>cases h;rfl
def fb:List Operand→Option (List Ox)
 |[]=>some []
 |x::l=>match N8 x with
  |none=>none
  |some r=>match fb l with
   |none=>none
   |some g=>some (r::g)
def resOs_ok:∀{l:List Operand} {g:List Ox},fb l=some g→∀{E:Tr AV} {ρ:Zr},T7 E ρ→(opds l).run E=some (g.map (·.ev ρ))
 |[],g,h,E,ρ,j=>Ce
 |x::l,g,h,E,ρ,j=>by
  simp only[fb]at h;cases z:N8 x with
  |none=>rw[z]at h;cases h
  |some r =>
   rw[z]at h;dsimp only at h;cases A:fb l with
   |none=>rw[A]at h;cases h
   |some B =>
    rw[A]at h;cases h;unfold opds;dsimp only;rw[S7 z j,resOs_ok A j];rfl
def fc:Option Operand→Option (Option Ox)
 |none=>some none
 |some x=>match N8 x with
  |none=>none
  |some r=>some (some r)
def Pg(ρ:Zr):Option Ox→Option (Option Nat)
 |none=>some none
 |some r=>match r.ev ρ with
  |.int _ (.ofNat n)=>some (some n)
  |_=>none
def mm{x:Option Operand}{r:Option Ox}(h:fc x=some r){E:Tr AV}{ρ:Zr}(j:T7 E ρ):(Pu x).run E=Pg ρ r:=by
 cases x with
 |none=>cases h;rfl
 |some x =>
  simp only[fc]at h;cases g:N8 x with
  |none=>rw[g]at h;cases h
  |some q =>
   rw[g]at h;cases h;unfold Pu Pg;dsimp only;rw[S7 g j];generalize q.ev ρ=a;split
   ·rename_i n e;cases e;rfl
   ·rename_i e;split
    ·rename_i k n;exact absurd rfl (e k n)
    ·rfl
inductive ROp where
 |move (x:Ox)
 |pick (c a b:Ox)
 |alloc (l:List AV)
 |box (x:Ox)
 |build (cs:List AV) (ps:List (Nat×Nat×Ox))
 |buildSl (size len:Nat) (cs:List AV) (ps:List (Nat×Nat×Ox))
 |load1 (x:Ox)
 |loadN (n:Nat) (x:Ox)
 |store (n:Nat) (x y:Ox)
 |nilChk (x:Ox)
 |bin (op:BinOp) (g:Bool) (t:TypeId) (x y:Ox)
 |un (op:UnOp) (x:Ox)
 |cvInt (k:IntKind) (x:Ox)
 |cvStr (x:Ox)
 |cvSame (x:Ox)
 |cvBytes (x:Ox)
 |mkIface (t:TypeId) (x:Ox)
 |mkFunc (f:Fn) (first cap:List Ox)
 |mkMap0
 |mkMap1 (x:Ox)
 |mkSl (size:Nat) (z:List AV) (l c:Ox)
 |slStr (x:Ox) (lo hi:Option Ox)
 |slSl (size:Nat) (x:Ox) (lo hi mx:Option Ox)
 |slArr (n size:Nat) (x:Ox) (lo hi mx:Option Ox)
 |fieldAddr (off:Nat) (x:Ox)
 |field (g:Bool) (n off:Nat) (x:Ox)
 |ixAddr (size:Nat) (x i:Ox)
 |ixAddrArr (len size:Nat) (x i:Ox)
 |ixStr (x i:Ox)
 |ixArr (g:Bool) (len size:Nat) (x i:Ox)
 |lookup (d:TypeDesc) (z:AV) (ok:Bool) (x i:Ox)
 |mapUpd (d:TypeDesc) (m k v:Ox)
 |range (x:Ox)
 |next (x:Ox)
 |assert (z:AV) (ok:Bool) (t:TypeId) (x:Ox)
 |extract (i:Nat) (x:Ox)
 |lenStr (x:Ox)
 |lenSl (x:Ox)
 |lenMap (x:Ox)
 |lenArr (n:Nat) (x:Ox)
 |cap (x:Ox)
 |maxi (mx:Bool) (l:List Ox)
 |appZ (size:Nat) (z:List AV) (s x:Ox)
 |appG (size:Nat) (s x:Ox)
 |copy (size:Nat) (d x:Ox)
 |clear (size:Nat) (z:List AV) (x:Ox)
 |delete (d:TypeDesc) (m k:Ox)
 |callV (f:Ox) (args:List Ox)
 |invoke (r:Ox) (name:String) (args:List Ox)
def vi(ρ:Zr)(cs:List AV):List (Nat×Nat×Ox)→Option (List AV)
 |[]=>some cs
 |(j,g,x)::z=>match (x.ev ρ).cells with
  |none=>none
  |some l=>match Nat.beq l.length g with
   |true=>match Nat.ble (Nat.add j g) cs.length with
    |true=>vi ρ (To cs j l) z
    |false=>none
   |false=>none
def On(P:Program)(ρ:Zr)(j:Heap):ROp→OR
 |.move x=>.val (x.ev ρ) j
 |.pick c a b=>match c.ev ρ with
  |.bool true=>.val (a.ev ρ) j
  |.bool false=>.val (b.ev ρ) j
  |_=>.no
 |.alloc l=>Vm j l
 |.box x=>match (x.ev ρ).cells with
  |some l=>Vm j l
  |none=>.no
 |.build R S=>match vi ρ R S with
  |some l=>.val (.agg l) j
  |none=>.no
 |.buildSl g len R S=>match vi ρ R S with
  |some l=>match newObj j l with
   |some (o,C)=>.val (.sl o 0 0 len g (some len)) C
   |none=>.no
  |none=>.no
 |.load1 x=>match x.ev ρ with
  |.ptr o v i=>match Pt j o v i 1 with
   |some [c]=>.val c j
   |_=>.no
  |_=>.no
 |.loadN n x=>match x.ev ρ with
  |.ptr o v i=>match Pt j o v i n with
   |some l=>.val (.agg l) j
   |none=>.no
  |_=>.no
 |.store n x y=>match x.ev ρ with
  |.ptr o v i=>match (y.ev ρ).cells with
   |some l=>match Nat.beq l.length n with
    |true=>match Up j o v i l with
     |some C=>.val Ri C
     |none=>.no
    |false=>.no
   |none=>.no
  |_=>.no
 |.nilChk x=>sy j (x.ev ρ)
 |.bin op U t x y=>ret1 j (Pd P op U t (x.ev ρ) (y.ev ρ))
 |.un op x=>ret1 j (unA op (x.ev ρ))
 |.cvInt k x=>match x.ev ρ with
  |.int _ n=>.val (.int k (T8 k n)) j
  |_=>.no
 |.cvStr x=>match x.ev ρ with
  |.nilSl=>.val (.str 0 0) j
  |.sl o v i len 1 _=>match Pt j o v i len with
   |some l=>match U1.bytesA l with
    |some n=>.val (.str len n) j
    |none=>.no
   |none=>.no
  |_=>.no
 |.cvSame x=>match x.ev ρ with
  |.str l n=>.val (.str l n) j
  |_=>.no
 |.cvBytes x=>match x.ev ρ with
  |.str len n=>match newObj j ((Ur len n).map λ(b:Nat)=>AV.int .u8 (Int.ofNat b)) with
   |some (o,C)=>.val (.sl o 0 0 len 1 none) C
   |none=>.no
  |_=>.no
 |.mkIface t x=>.val (.iface t (x.ev ρ)) j
 |.mkFunc f first cap=>.val (.fn f (first.map (·.ev ρ)) (cap.map (·.ev ρ))) j
 |.mkMap0=>W0 j
 |.mkMap1 x=>match x.ev ρ with
  |.int _ _=>W0 j
  |_=>.no
 |.mkSl g L l c=>match l.ev ρ,c.ev ρ with
  |.int .i64 (.ofNat l),.int .i64 (.ofNat c)=>match Nat.ble l c with
   |true=>match Nat.ble c 1048576 with
    |true=>match newObj j (Sw L c) with
     |some (o,C)=>.val (.sl o 0 0 l g (some c)) C
     |none=>.no
    |false=>.no
   |false=>.no
  |_,_=>.no
 |.slStr x B hi=>match x.ev ρ,Pg ρ B,Pg ρ hi with
  |.str len n,some B,some hi =>
   let l:=B.getD 0;let h:=hi.getD len
   match Nat.ble l h with
   |true=>match Nat.ble h len with
    |true=>.val (.str (Nat.sub h l) (Nat.mod (Nat.div n (Nat.pow 256 l)) (Nat.pow 256 (Nat.sub h l)))) j
    |false=>.no
   |false=>.no
  |_,_,_=>.no
 |.slSl g x B hi H=>match x.ev ρ,Pg ρ B,Pg ρ hi,Pg ρ H with
  |.sl o v i len A M,some B,some hi,some H=>ret1 j (Uf g B hi H o v i len A M)
  |.nilSl,some B,some hi,some none=>match Nat.beq (Nat.add (B.getD 0) (hi.getD 0)) 0 with
   |true=>.val .nilSl j
   |false=>.no
  |.emp,some B,some hi,some none=>match Nat.beq (Nat.add (B.getD 0) (hi.getD 0)) 0 with
   |true=>.val .emp j
   |false=>.no
  |_,_,_,_=>.no
 |.slArr n g x B hi H=>match x.ev ρ,Pg ρ B,Pg ρ hi,Pg ρ H with
  |.ptr o v i,some B,some hi,some H=>match j.get o with
   |some (.cells _ O T false)=>match Nat.beq v T with
    |true=>match Nat.ble (Nat.add i (Nat.mul n g)) O with
     |true=>ret1 j (Uf g B hi H o v i n g (some n))
     |false=>.no
    |false=>.no
   |_=>.no
  |_,_,_,_=>.no
 |.fieldAddr I x=>match x.ev ρ with
  |.ptr o v i=>.val (.ptr o v (Nat.add i I)) j
  |_=>.no
 |.field U n I x=>match x.ev ρ with
  |.agg l=>ret1 j (X3 U n l I)
  |_=>.no
 |.ixAddr g x i=>match x.ev ρ,i.ev ρ with
  |.sl o v i len A _,.int _ (.ofNat n)=>match Nat.blt n len with
   |true=>match Nat.beq A g with
    |true=>.val (.ptr o v (Nat.add i (Nat.mul n A))) j
    |false=>.no
   |false=>.no
  |_,_=>.no
 |.ixAddrArr len g x i=>match x.ev ρ,i.ev ρ with
  |.ptr o v i,.int _ (.ofNat n)=>match Nat.blt n len with
   |true=>.val (.ptr o v (Nat.add i (Nat.mul n g))) j
   |false=>.no
  |_,_=>.no
 |.ixStr x i=>match x.ev ρ,i.ev ρ with
  |.str len n,.int _ (.ofNat i)=>match Nat.blt i len with
   |true=>.val (.int .u8 (Int.ofNat (Nat.mod (Nat.div n (Nat.pow 256 i)) 256))) j
   |false=>.no
  |_,_=>.no
 |.ixArr U len g x i=>match x.ev ρ,i.ev ρ with
  |.agg l,.int _ (.ofNat n)=>match Nat.blt n len with
   |true=>ret1 j (X3 U g l (Nat.mul n g))
   |false=>.no
  |_,_=>.no
 |.lookup d L ok x i=>match zy5 j (x.ev ρ) with
  |none=>.no
  |some K=>match mj d (i.ev ρ) K with
   |some (some v)=>.val (if ok then .tup [v,.bool true] else v) j
   |some none=>.val (if ok then .tup [L,.bool false] else L) j
   |none=>.no
 |.mapUpd d m k v=>match m.ev ρ with
  |.map o=>match j.get o with
   |some (.map K z)=>match pn d (k.ev ρ) (v.ev ρ) z K with
    |some (D,true)=>.val Ri (j.put o (.map D (Nat.add z 1)))
    |some (D,false)=>.val Ri (j.put o (.map D z))
    |none=>.no
   |_=>.no
  |_=>.no
 |.range x=>match x.ev ρ with
  |.str len n=>.val (.ptr j.next 0 0) (j.push (.iter len n 0))
  |_=>.no
 |.next x=>match x.ev ρ with
  |.ptr o 0 0=>match j.get o with
   |some (.iter len n F)=>match Nat.blt F len with
    |true=>match Nat.blt (Nat.mod (Nat.div n (Nat.pow 256 F)) 256) 128 with
     |true=>.val (.tup [.bool true,.int .i64 (Int.ofNat F),.int .i32 (Int.ofNat (Nat.mod (Nat.div n (Nat.pow 256 F)) 256))]) (j.put o (.iter len n (Nat.add F 1)))
     |false=>.no
    |false=>.val (.tup [.bool false]) j
   |_=>.no
  |_=>.no
 |.assert L ok t x=>match x.ev ρ with
  |.nilIf=>if ok then .val (.tup [L,.bool false]) j else .no
  |.iface V v=>match Nat.beq V t with
   |true=>.val (if ok then .tup [v,.bool true] else v) j
   |false=>if ok then .val (.tup [L,.bool false]) j else .no
  |_=>.no
 |.extract i x=>match x.ev ρ with
  |.tup l=>ret1 j l[i]?
  |_=>.no
 |.lenStr x=>match x.ev ρ with
  |.str l _=>.val (.int .i64 (Int.ofNat l)) j
  |_=>.no
 |.lenSl x=>match x.ev ρ with
  |.sl _ _ _ len _ _=>.val (.int .i64 (Int.ofNat len)) j
  |.nilSl=>.val (.int .i64 0) j
  |.emp=>.val (.int .i64 0) j
  |_=>.no
 |.lenMap x=>match x.ev ρ with
  |.nilMap=>.val (.int .i64 0) j
  |.map o=>match j.get o with
   |some (.map K _)=>.val (.int .i64 (Int.ofNat K.length)) j
   |_=>.no
  |_=>.no
 |.lenArr n _=>.val (.int .i64 (Int.ofNat n)) j
 |.cap x=>match x.ev ρ with
  |.nilSl=>.val (.int .i64 0) j
  |.sl _ _ _ _ _ (some r)=>.val (.int .i64 (Int.ofNat r)) j
  |_=>.no
 |.maxi H l=>match (l.map (λ(x:Ox)=>x.ev ρ):List AV) with
  |.int k n::l=>ret1 j (Xk H (.int k n) l)
  |_=>.no
 |.appZ g L s x=>match x.ev ρ with
  |.int .i64 (.ofNat n)=>match Nat.ble n 1048576 with
   |true=>Vc j g (s.ev ρ) n (Sw L n)
   |false=>.no
  |_=>.no
 |.appG g s x=>match Zg j g (x.ev ρ) with
  |some (n,l)=>match Nat.ble n 1048576 with
   |true=>Vc j g (s.ev ρ) n l
   |false=>.no
  |none=>.no
 |.copy g d x=>match Zg j g (x.ev ρ) with
  |some (n,l)=>match d.ev ρ with
   |.nilSl=>.val (.int .i64 0) j
   |.emp=>.val (.int .i64 0) j
   |.sl o v i len A _=>match Nat.beq A g with
    |true=>match Up j o v i (l.take (Nat.mul (Pr n len) g)) with
     |some C=>.val (.int .i64 (Int.ofNat (Pr n len))) C
     |none=>.no
    |false=>.no
   |_=>.no
  |none=>.no
 |.clear g L x=>match x.ev ρ with
  |.nilSl=>.val Ri j
  |.emp=>.val Ri j
  |.sl o v i len A _=>match Nat.beq A g with
   |true=>match Up j o v i (Sw L len) with
    |some C=>.val Ri C
    |none=>.no
   |false=>.no
  |_=>.no
 |.delete d m k=>match m.ev ρ with
  |.map o=>match j.get o with
   |some (.map K z)=>match zf d (k.ev ρ) K with
    |some D=>.val Ri (j.put o (.map D z))
    |none=>.no
   |_=>.no
  |_=>.no
 |.callV f G=>zgr P j (f.ev ρ) (G.map (·.ev ρ))
 |.invoke r Q G=>match r.ev ρ with
  |.iface t v=>match zie P t Q with
   |some f=>match io P f with
    |true=>.call (.fn f) (v::G.map (·.ev ρ))
    |false=>.no
   |none=>.no
  |_=>.no
def eu(g:Nat→Option (Nat×Nat)):List (Nat×Operand)→Option (List (Nat×Nat×Ox))
 |[]=>some []
 |(i,x)::l=>match g i with
  |none=>none
  |some (o,s)=>match N8 x with
   |none=>none
   |some r=>match eu g l with
    |none=>none
    |some q=>some ((o,s,r)::q)
def O7(x:Operand)(f:Ox→ROp):Option ROp:=match N8 x with
 |none=>none
 |some r=>some (f r)
def Rh(x y:Operand)(f:Ox→Ox→ROp):Option ROp:=match N8 x with
 |none=>none
 |some r=>match N8 y with
  |none=>none
  |some q=>some (f r q)
def zg8(g:Nat)(f:Nat→Ox→Option Ox→Option Ox→Option Ox→ROp)(x:Operand)(j hi z:Option Operand):Option ROp :=
 match N8 x,fc j,fc hi,fc z with
 |some r,some a,some b,some c=>some (f g r a b c)
 |_,_,_,_=>none
def zpu(P:Program)(c:Call):Option ROp :=
 match c.callee with
 |.builtin b=>match b with
  |.len=>match c.argTypes.toList,c.args.toList with
   |[t],[x]=>match P.underlying t with
    |some .string=>O7 x .lenStr
    |some (.slice _)=>O7 x .lenSl
    |some (.map _ _)=>O7 x .lenMap
    |some (.array n _)=>O7 x (.lenArr n)
    |_=>none
   |_,_=>none
  |.cap=>match c.argTypes.toList,c.args.toList with
   |[t],[x]=>match P.underlying t with
    |some (.slice _)=>O7 x .cap
    |_=>none
   |_,_=>none
  |.max=>match fb c.args.toList with
   |some l=>some (.maxi true l)
   |none=>none
  |.min=>match fb c.args.toList with
   |some l=>some (.maxi false l)
   |none=>none
  |.append=>match c.argTypes.toList,c.args.toList with
   |[st,B],[s,x]=>match P.underlying st,P.underlying B with
    |some (.slice g),some d=>match P.info? g,R5 P g with
     |some i,some C=>if 0<i.size∧i.bytes≤65536 then match d with
      |.int _=>Rh s x (.appZ i.size C)
      |.slice _=>Rh s x (.appG i.size)
      |.string=>Rh s x (.appG i.size)
      |_=>none
      else none
     |_,_=>none
    |_,_=>none
   |_,_=>none
  |.copy=>match c.argTypes.toList,c.args.toList with
   |[st,_],[d,x]=>match P.underlying st with
    |some (.slice g)=>match Oz P g with
     |none=>none
     |some j=>if 0<j then Rh d x (.copy j) else none
    |_=>none
   |_,_=>none
  |.clear=>match c.argTypes.toList,c.args.toList with
   |[st],[x]=>match P.underlying st with
    |some (.slice g)=>match Oz P g,R5 P g with
     |some j,some C=>if 0<j then O7 x (.clear j C) else none
     |_,_=>none
    |_=>none
   |_,_=>none
  |.delete=>match c.argTypes.toList,c.args.toList with
   |[mt,_],[m,k]=>match P.underlying mt with
    |some (.map A _)=>match Ub P A with
     |some d=>Rh m k (.delete d)
     |none=>none
    |_=>none
   |_,_=>none
  |_=>none
 |.value f=>match N8 f,fb c.args.toList with
  |some D,some l=>some (.callV D l)
  |_,_=>none
 |.invoke r z=>match N8 r,fb c.args.toList with
  |some D,some l=>some (.invoke D z l)
  |_,_=>none
def R9(P:Program)(o:Op):Option ROp :=
 match o with
 |.move x |.assign x=>O7 x .move
 |.pick c a b=>match N8 c,N8 a,N8 b with
  |some c,some a,some b=>some (.pick c a b)
  |_,_,_=>none
 |.alloc t=>match R5 P t with
  |some l=>some (.alloc l)
  |none=>none
 |.box _ x=>O7 x .box
 |.build t A=>match R5 P t with
  |none=>none
  |some H=>match P.underlying t with
   |some (.struct z)=>match xi P z.toList with
    |none=>none
    |some pl=>match eu (pl[·]?) A.toList with
     |none=>none
     |some C=>some (.build H C)
   |some (.array _ g)=>match Oz P g with
    |none=>none
    |some j=>match eu (λi=>some (i*j,j)) A.toList with
     |none=>none
     |some C=>some (.build H C)
   |_=>none
 |.buildSlice t len A=>match P.underlying t with
  |some (.slice g)=>match Oz P g with
   |none=>none
   |some j=>match R5 P g with
    |none=>none
    |some F=>if len*j≤2^20∧0<j then
      match eu (λi=>some (i*j,j)) A.toList with
      |none=>none
      |some C=>some (.buildSl j len (Sw F len) C)
     else none
  |_=>none
 |.load t a=>match Sc P t,Oz P t with
  |some true,some n=>O7 a (.loadN n)
  |some false,some _=>O7 a .load1
  |_,_=>none
 |.store t a x=>match Oz P t with
  |some n=>Rh a x (.store n)
  |none=>none
 |.nilCheck x=>O7 x .nilChk
 |.binOp op t x y _=>Rh x y (.bin op (Vd x || Vd y) t)
 |.unOp op _ x=>O7 x (.un op)
 |.convert s d x=>match P.underlying s,P.underlying d with
  |some _,some (.int k)=>O7 x (.cvInt k)
  |some (.slice e),some .string=>match P.underlying e with
   |some (.int .u8)=>O7 x .cvStr
   |_=>none
  |some _,some .string=>O7 x .cvSame
  |some _,some (.slice e)=>match P.underlying e,Oz P e with
   |some (.int .u8),some 1=>O7 x .cvBytes
   |_,_=>none
  |_,_=>none
 |.makeInterface t x=>match P.underlying t with
  |some (.interface _)=>none
  |some _=>O7 x (.mkIface t)
  |none=>none
 |.makeFunc f first cap=>match f with
  |.yield _=>none
  |f=>match fb first.toList,fb cap.toList with
   |some a,some b=>some (.mkFunc f a b)
   |_,_=>none
 |.makeMap t r=>match r with
  |none=>some .mkMap0
  |some x=>match P.underlying t with
   |some (.map _ _)=>O7 x .mkMap1
   |_=>none
 |.makeSlice t l c=>match P.underlying t with
  |some (.slice g)=>match P.info? g with
   |none=>none
   |some i=>match R5 P g with
    |none=>none
    |some F=>if 0<i.size∧i.bytes≤2^16 then Rh l c (.mkSl i.size F) else none
  |_=>none
 |.slice t x G hi D=>match P.underlying t with
  |some .string=>match D with
   |some _=>none
   |none=>match N8 x,fc G,fc hi with
    |some r,some a,some b=>some (.slStr r a b)
    |_,_,_=>none
  |some (.slice g)=>if D.isSome&&hi.isNone then none else match Oz P g with
   |none=>none
   |some j=>zg8 j .slSl x G hi D
  |some (.array n g)=>if D.isSome&&hi.isNone then none else match Oz P g with
   |none=>none
   |some j=>zg8 j (.slArr n) x G hi D
  |_=>none
 |.fieldAddr s x f=>match P.underlying s with
  |some (.struct z)=>match z[f]? with
   |none=>none
   |some fd=>match Oz P fd.type with
    |none=>none
    |some 0=>none
    |some _=>O7 x (.fieldAddr fd.offset)
  |_=>none
 |.field t x f=>match P.underlying t with
  |some (.struct z)=>match z[f]? with
   |none=>none
   |some fd=>match Sc P fd.type,Oz P fd.type with
    |some I,some n=>O7 x (.field I n fd.offset)
    |_,_=>none
  |_=>none
 |.indexAddr t x i=>match P.underlying t with
  |some (.slice g)=>match Oz P g with
   |none=>none
   |some j=>Rh x i (.ixAddr j)
  |some (.array len g)=>match Oz P g with
   |none=>none
   |some j=>Rh x i (.ixAddrArr len j)
  |_=>none
 |.index t x i=>match P.underlying t with
  |some .string=>Rh x i .ixStr
  |some (.array len g)=>match Sc P g,Oz P g with
   |some I,some j=>Rh x i (.ixArr I len j)
   |_,_=>none
  |_=>none
 |.lookup t x i ok=>match P.underlying t with
  |some (.map B g)=>match Ub P B,qh P g with
   |some d,some F=>Rh x i (.lookup d F ok)
   |_,_=>none
  |_=>none
 |.mapUpdate t m k x |.insert t m k x=>match P.underlying t with
  |some (.map B _)=>match Ub P B with
   |some d=>match N8 m,N8 k,N8 x with
    |some m,some k,some x=>some (.mapUpd d m k x)
    |_,_,_=>none
   |none=>none
  |_=>none
 |.range t x=>match P.underlying t with
  |some .string=>O7 x .range
  |_=>none
 |.next K s=>if s then O7 K .next else none
 |.typeAssert x _ t ok=>match P.underlying t with
  |some (.interface _)=>none
  |some _=>match qh P t with
   |none=>none
   |some F=>O7 x (.assert F ok t)
  |none=>none
 |.extract t i=>O7 t (.extract i)
 |.call c=>zpu P c
 |_=>none
section ok
variable {P : Program} {E : Tr AV} {ρ : Zr}
def S6{x:Operand}{f:Ox→ROp}{r:ROp}(h:O7 x f=some r):∃q,N8 x=some q∧r=f q:=by
 unfold O7 at h;cases g:N8 x with
 |none=>rw[g]at h;cases h
 |some q=>rw[g]at h;cases h;exact⟨q,rfl,rfl⟩
def Wf{x y:Operand}{f:Ox→Ox→ROp}{r:ROp}(h:Rh x y f=some r):∃q p,N8 x=some q∧N8 y=some p∧r=f q p:=by
 unfold Rh at h;cases g:N8 x with
 |none=>rw[g]at h;cases h
 |some q =>
  rw[g]at h;dsimp only at h;cases j:N8 y with
  |none=>rw[j]at h;cases h
  |some p=>rw[j]at h;cases h;exact⟨q,p,rfl,rfl,rfl⟩
def S5(g:T7 E ρ){x:Operand}{q:Ox}(j:N8 x=some q)(f:Heap→AV→OR)(z:Heap):(Pq x f).run E z=f z (q.ev ρ):=by
 show (Option.rec OR.no (λa=>f z a) ((Nk x).run E):OR)=_;rw[S7 j g]
def W2(g:T7 E ρ){x y:Operand}{q p:Ox}(j:N8 x=some q)(z:N8 y=some p)(f:Heap→AV→AV→OR)(A:Heap):(Ss x y f).run E A=f A (q.ev ρ) (p.ev ρ):=by
 show (Option.rec OR.no (λa=>Option.rec OR.no (λb=>f A a b) ((Nk y).run E)) ((Nk x).run E):OR)=_;rw[S7 j g,S7 z g]
def zp(C:T7 E ρ){g:Nat→Option (Nat×Nat)}:∀{l:List (Nat×Operand)} {z:List (Nat×Nat×Ox)} {cs:List AV},eu g l=some z→∃A,ee g l=some A∧Yz cs A E=vi ρ cs z
 |[],z,cs,h=>by cases h;exact⟨[],rfl,rfl⟩
 |(i,x)::l,z,cs,h=>by
  simp only[eu]at h;cases D:g i with
  |none=>rw[D]at h;cases h
  |some I =>
   obtain⟨o,s⟩:=I;rw[D]at h;dsimp only at h;cases F:N8 x with
   |none=>rw[F]at h;cases h
   |some r =>
    rw[F]at h;dsimp only at h;cases B:eu g l with
    |none=>rw[B]at h;cases h
    |some q =>
     rw[B]at h;cases h;obtain⟨A,H,_⟩:=zp C (cs:=cs) B;refine⟨⟨o,s,Nk x⟩::A,by simp only[ee,D,H],?_⟩;simp only[Yz,vi];rw[S7 F C];dsimp only;cases (r.ev ρ).cells with
     |none=>rfl
     |some c =>
      dsimp only;cases Nat.beq c.length s with
      |false=>rfl
      |true =>
       dsimp only;cases Nat.ble (Nat.add o s) cs.length with
       |false=>rfl
       |true =>
        dsimp only;obtain⟨K,j,G⟩:=zp C (cs:=To cs o c) B;rw[H]at j;cases j;exact G
def zi1{f:Nat→Ox→Option Ox→Option Ox→Option Ox→ROp}{x:Operand}{j hi z:Option Operand}{r:ROp}(h:zg8 g f x j hi z=some r) :
  ∃q a b c,N8 x=some q∧fc j=some a∧fc hi=some b∧fc z=some c∧r=f g q a b c:=by
 unfold zg8 at h;split at h
 ·rename_i q a b c A B C D;cases h;exact⟨q,a,b,c,A,B,C,D,rfl⟩
 ·cases h
def zsr(j:T7 E ρ){c:Call}{r:ROp}(h:zpu P c=some r)(X:Heap):(Y0 P c).run E X=On P ρ X r:=by
 unfold zpu at h;unfold Y0;split at h
 ·rename_i b T;rw[T];dsimp only;split at h
  ·split at h
   ·rename_i t x A z;rw[A,z];dsimp only;unfold Ud;split at h<;>first
     |(cases h;done)
     | (rename_i hu
        obtain⟨q,g,rfl⟩:=S6 h;rw[hu];dsimp only;rw[S5 j g];rfl)
   ·cases h
  ·split at h
   ·rename_i t x A z;rw[A,z];dsimp only;unfold Vk;split at h
    ·rename_i hu;obtain⟨q,g,rfl⟩:=S6 h;rw[hu];dsimp only;rw[S5 j g];rfl
    ·cases h
   ·cases h
  ·split at h
   ·rename_i l F;cases h;simp only[Ta,On];rw[resOs_ok F j];generalize (l.map λ(x:Ox)=>x.ev ρ)=G;rcases G with _|⟨v,G⟩
    ·rfl
    ·cases v<;>rfl
   ·cases h
  ·split at h
   ·rename_i l F;cases h;simp only[Ta,On];rw[resOs_ok F j];generalize (l.map λ(x:Ox)=>x.ev ρ)=G;rcases G with _|⟨v,G⟩
    ·rfl
    ·cases v<;>rfl
   ·cases h
  ·split at h
   ·rename_i st S s x A z;unfold zgk;rw[A,z];dsimp only;split at h
    ·rename_i D d L M;rw[L,M];split at h
     ·rename_i i Z hi H;split at h
      ·rename_i O;split at h
       ·rename_i k;obtain⟨q,p,g,C,rfl⟩:=Wf h;dsimp only;unfold zks;rw[hi,H];dsimp only;rw[Ij O,W2 j g C];rfl
       ·obtain⟨q,p,g,C,rfl⟩:=Wf h;dsimp only;unfold pj;rw[hi,H];dsimp only;rw[Ij O,W2 j g C];rfl
       ·obtain⟨q,p,g,C,rfl⟩:=Wf h;dsimp only;unfold pj;rw[hi,H];dsimp only;rw[Ij O,W2 j g C];rfl
       ·cases h
      ·cases h
     ·cases h
    ·cases h
   ·cases h
  ·split at h
   ·rename_i st S d x A z;unfold zd;rw[A,z];dsimp only;split at h
    ·rename_i D hu;rw[hu];dsimp only;split at h
     ·cases h
     ·rename_i I Q;split at h
      ·rename_i B;obtain⟨q,p,g,C,rfl⟩:=Wf h;rw[Q];dsimp only;rw[Ij B,W2 j g C];rfl
      ·cases h
    ·cases h
   ·cases h
  ·split at h
   ·rename_i st x A z;unfold zmm;rw[A,z];dsimp only;split at h
    ·rename_i D hu;rw[hu];dsimp only;split at h
     ·rename_i I Z Q H;split at h
      ·rename_i B;obtain⟨q,g,rfl⟩:=S6 h;rw[Q,H];dsimp only;rw[Ij B,S5 j g];rfl
      ·cases h
     ·cases h
    ·cases h
   ·cases h
  ·split at h
   ·rename_i mt S m k A z;unfold zij;rw[A,z];dsimp only;split at h
    ·rename_i U e hu;rw[hu];dsimp only;split at h
     ·rename_i d hd;obtain⟨q,p,g,C,rfl⟩:=Wf h;rw[hd];dsimp only;rw[W2 j g C];rfl
     ·cases h
    ·cases h
   ·cases h
  ·cases h
 ·rename_i f V;rw[V];dsimp only;split at h
  ·rename_i Y l R F;cases h;rw[S7 R j,resOs_ok F j];simp only[On]
  ·cases h
 ·rename_i x K z;rw[z];dsimp only;split at h
  ·rename_i Y l R F;cases h;rw[S7 R j,resOs_ok F j];simp only[On];cases Y.ev ρ with
   |iface t v =>
    dsimp only;cases zie P t K with
    |none=>rfl
    |some f =>
     dsimp only;cases io P f<;>rfl
   |_=>rfl
  ·cases h
end ok
end
end
section
section ok
variable {P : Program} {E : Tr AV} {ρ : Zr}
def zsh(z:T7 E ρ){o:Op}{r:ROp}(h:R9 P o=some r)(R:Heap):(N5 P o).run E R=On P ρ R r:=by
 cases o with
 |move x =>
  obtain⟨q,g,rfl⟩:=S6 h;show (Pq x _).run E R=_;rw[S5 z g];rfl
 |assign x =>
  obtain⟨q,g,rfl⟩:=S6 h;show (Pq x _).run E R=_;rw[S5 z g];rfl
 |pick c a b =>
  simp only[R9]at h;split at h
  ·rename_i M O S g A D;cases h;simp only[N5];rw[S7 g z,S7 A z,S7 D z];simp only[On];generalize M.ev ρ=v;cases v with
   |bool t=>cases t<;>rfl
   |_=>rfl
  ·cases h
 |alloc t =>
  simp only[R9]at h;simp only[N5];cases H:R5 P t with
  |none=>rw[H]at h;cases h
  |some l=>rw[H]at h;cases h;rfl
 |box t x =>
  obtain⟨q,g,rfl⟩:=S6 h;show (Pq x _).run E R=_;rw[S5 z g];rfl
 |build t G =>
  simp only[R9]at h;simp only[N5,tx];cases H:R5 P t with
  |none=>rw[H]at h;cases h
  |some Y =>
   rw[H]at h;dsimp only at h ⊢;split at h
   ·rename_i C hu;rw[hu];dsimp only;cases K:xi P C.toList with
    |none=>rw[K]at h;cases h
    |some pl =>
     rw[K]at h;dsimp only at h ⊢;cases I:eu (pl[·]?) G.toList with
     |none=>rw[I]at h;cases h
     |some Z =>
      rw[I]at h;cases h;obtain⟨qs,g,A⟩:=zp z (cs:=Y) I;rw[g];dsimp only;rw[A];rfl
   ·rename_i n j hu;rw[hu];dsimp only;cases F:Oz P j with
    |none=>rw[F]at h;cases h
    |some B =>
     rw[F]at h;dsimp only at h ⊢;cases I:eu (λi=>some (i*B,B)) G.toList with
     |none=>rw[I]at h;cases h
     |some Z =>
      rw[I]at h;cases h;obtain⟨qs,g,A⟩:=zp z (cs:=Y) I;rw[g];dsimp only;rw[A];rfl
   ·cases h
 |buildSlice t len G =>
  simp only[R9]at h;simp only[N5,py];split at h
  ·rename_i j hu;rw[hu];dsimp only;cases F:Oz P j with
   |none=>rw[F]at h;cases h
   |some B =>
    rw[F]at h;dsimp only at h ⊢;cases H:R5 P j with
    |none=>rw[H]at h;cases h
    |some X =>
     rw[H]at h;dsimp only at h ⊢;split at h
     ·rename_i L;rw[Ij L];cases I:eu (λi=>some (i*B,B)) G.toList with
      |none=>rw[I]at h;cases h
      |some Z =>
       rw[I]at h;cases h;obtain⟨qs,g,A⟩:=zp z (cs:=Sw X len) I;rw[g];dsimp only;rw[A];rfl
     ·cases h
  ·cases h
 |load t a =>
  simp only[R9]at h;simp only[N5,sk];split at h
  ·rename_i n g A;obtain⟨q,D,rfl⟩:=S6 h;rw[g,A];dsimp only;rw[S5 z D];rfl
  ·rename_i n g A;obtain⟨q,D,rfl⟩:=S6 h;rw[g,A];dsimp only;rw[S5 z D];rfl
  ·cases h
 |store t a x =>
  simp only[R9]at h;simp only[N5,znm];cases F:Oz P t with
  |none=>rw[F]at h;cases h
  |some n =>
   rw[F]at h;obtain⟨q,p,g,A,rfl⟩:=Wf h;dsimp only;rw[W2 z g A];rfl
 |nilCheck x =>
  obtain⟨q,g,rfl⟩:=S6 h;show (Pq x _).run E R=_;rw[S5 z g];rfl
 |binOp op t x y yt =>
  obtain⟨q,p,g,A,rfl⟩:=Wf h;simp only[N5];rw[W2 z g A];rfl
 |unOp op t x =>
  obtain⟨q,g,rfl⟩:=S6 h;show (Pq x _).run E R=_;rw[S5 z g];rfl
 |convert s d x =>
  simp only[R9]at h;simp only[N5];unfold U1;split at h
  ·rename_i T k g A;obtain⟨q,D,rfl⟩:=S6 h;rw[g,A];dsimp only;rw[S5 z D];rfl
  ·rename_i e g A;rw[g,A];dsimp only;split at h
   ·rename_i hu;rw[hu];dsimp only;obtain⟨q,D,rfl⟩:=S6 h;rw[S5 z D];rfl
   ·cases h
  ·rename_i T U g A;obtain⟨q,D,rfl⟩:=S6 h;rw[g,A];cases T with
   |slice e=>exact absurd rfl (U e)
   |_=>dsimp only;rw[S5 z D];rfl
  ·rename_i T e g A;rw[g,A];dsimp only;split at h
   ·rename_i k1 k2;obtain⟨q,D,rfl⟩:=S6 h;rw[k1,k2];exact (S5 z D _ _).trans rfl
   ·cases h
  ·cases h
 |makeInterface t x =>
  simp only[R9]at h;simp only[N5,ua];cases hu:P.underlying t with
  |none=>rw[hu]at h;cases h
  |some d =>
   rw[hu]at h;cases d with
   |interface ms=>cases h
   |_=>obtain⟨q,g,rfl⟩:=S6 h;dsimp only;rw[S5 z g];rfl
 |makeFunc f first cap =>
  simp only[R9]at h;cases f with
  |yield l=>cases h
  |_ =>
   dsimp only at h;split at h
   ·rename_i a b g A;cases h;simp only[N5,qd];rw[resOs_ok g z,resOs_ok A z];rfl
   ·cases h
 |makeMap t r =>
  simp only[R9]at h;simp only[N5,n5];cases r with
  |none=>cases h;rfl
  |some x =>
   dsimp only at h ⊢;split at h
   ·rename_i k e hu;obtain⟨q,g,rfl⟩:=S6 h;rw[hu];dsimp only;rw[S5 z g];rfl
   ·cases h
 |makeSlice t l c =>
  simp only[R9]at h;simp only[N5,l9];split at h
  ·rename_i j hu;rw[hu];dsimp only;cases hi:P.info? j with
   |none=>rw[hi]at h;cases h
   |some i =>
    rw[hi]at h;dsimp only at h ⊢;cases H:R5 P j with
    |none=>rw[H]at h;cases h
    |some X =>
     rw[H]at h;dsimp only at h ⊢;split at h
     ·rename_i L;obtain⟨q,p,g,A,rfl⟩:=Wf h;rw[Ij L,W2 z g A];rfl
     ·cases h
  ·cases h
 |slice t x lo hi mx =>
  simp only[R9]at h;simp only[N5,kf];split at h
  ·rename_i hu;rw[hu];dsimp only;cases mx with
   |some m=>cases h
   |none =>
    dsimp only at h ⊢;split at h
    ·rename_i q a b g A D;cases h;rw[S7 g z,mm A z,mm D z];simp only[On];cases q.ev ρ with
     |str len n =>
      cases Pg ρ a with
      |none=>rfl
      |some O=>cases Pg ρ b<;>rfl
     |_=>rfl
    ·cases h
  ·rename_i j hu;rw[hu];dsimp only;split at h
   ·cases h
   ·rename_i L;rw[Ii L];cases F:Oz P j with
    |none=>rw[F]at h;cases h
    |some B =>
     rw[F]at h;obtain⟨q,a,b,c,g,A,D,V,rfl⟩:=zi1 h;dsimp only;rw[S7 g z,mm A z,mm D z,mm V z];simp only[On];generalize q.ev ρ=v;generalize Pg ρ a=O;generalize Pg ρ b=S;generalize Pg ρ c=M;cases v<;>cases O<;>cases S<;>cases M<;>try rfl
     all_goals (rename_i X;cases X<;>rfl)
  ·rename_i n j hu;rw[hu];dsimp only;split at h
   ·cases h
   ·rename_i L;rw[Ii L];cases F:Oz P j with
    |none=>rw[F]at h;cases h
    |some B =>
     rw[F]at h;obtain⟨q,a,b,c,g,A,D,V,rfl⟩:=zi1 h;dsimp only;rw[S7 g z,mm A z,mm D z,mm V z];simp only[On];generalize q.ev ρ=v;generalize Pg ρ a=O;generalize Pg ρ b=S;generalize Pg ρ c=M;cases v<;>cases O<;>cases S<;>cases M<;>rfl
  ·cases h
 |fieldAddr s x f =>
  simp only[R9]at h;simp only[N5,ug];split at h
  ·rename_i C hu;rw[hu];dsimp only;cases K:C[f]? with
   |none=>rw[K]at h;cases h
   |some fd =>
    rw[K]at h;dsimp only at h ⊢;split at h
    ·cases h
    ·cases h
    ·rename_i n hn F;obtain⟨q,g,rfl⟩:=S6 h;rw[F];cases n with
     |zero=>exact absurd rfl hn
     |succ n=>exact (S5 z g _ _).trans rfl
  ·cases h
 |field t x f =>
  simp only[R9]at h;simp only[N5,td];split at h
  ·rename_i C hu;rw[hu];dsimp only;cases K:C[f]? with
   |none=>rw[K]at h;cases h
   |some fd =>
    rw[K]at h;dsimp only at h ⊢;split at h
    ·rename_i gg n g A;obtain⟨q,D,rfl⟩:=S6 h;rw[g,A];dsimp only;rw[S5 z D];rfl
    ·cases h
  ·cases h
 |indexAddr t x i =>
  simp only[R9]at h;simp only[N5,rq];split at h
  ·rename_i j hu;rw[hu];dsimp only;cases F:Oz P j with
   |none=>rw[F]at h;cases h
   |some B =>
    rw[F]at h;obtain⟨q,p,g,A,rfl⟩:=Wf h;dsimp only;rw[W2 z g A];rfl
  ·rename_i len j hu;rw[hu];dsimp only;cases F:Oz P j with
   |none=>rw[F]at h;cases h
   |some B =>
    rw[F]at h;obtain⟨q,p,g,A,rfl⟩:=Wf h;dsimp only;rw[W2 z g A];rfl
  ·cases h
 |index t x i =>
  simp only[R9]at h;simp only[N5,t8];split at h
  ·rename_i hu;obtain⟨q,p,g,A,rfl⟩:=Wf h;rw[hu];dsimp only;rw[W2 z g A];rfl
  ·rename_i len j hu;rw[hu];dsimp only;split at h
   ·rename_i gg B hg F;obtain⟨q,p,g,A,rfl⟩:=Wf h;rw[hg,F];dsimp only;rw[W2 z g A];rfl
   ·cases h
  ·cases h
 |lookup t x i ok =>
  simp only[R9]at h;simp only[N5,uj];split at h
  ·rename_i Q j hu;rw[hu];dsimp only;split at h
   ·rename_i d X hd H;obtain⟨q,p,g,A,rfl⟩:=Wf h;rw[hd,H];dsimp only;rw[W2 z g A];rfl
   ·cases h
  ·cases h
 |mapUpdate t m k x =>
  simp only[R9]at h;simp only[N5,ud];split at h
  ·rename_i Q j hu;rw[hu];dsimp only;split at h
   ·rename_i d hd;rw[hd];dsimp only;split at h
    ·rename_i a b c g A D;cases h;rw[S7 g z,S7 A z,S7 D z];simp only[On];cases a.ev ρ<;>rfl
    ·cases h
   ·cases h
  ·cases h
 |insert t m k x =>
  simp only[R9]at h;simp only[N5,ud];split at h
  ·rename_i Q j hu;rw[hu];dsimp only;split at h
   ·rename_i d hd;rw[hd];dsimp only;split at h
    ·rename_i a b c g A D;cases h;rw[S7 g z,S7 A z,S7 D z];simp only[On];cases a.ev ρ<;>rfl
    ·cases h
   ·cases h
  ·cases h
 |range t x =>
  simp only[R9]at h;simp only[N5,rangeF];split at h
  ·rename_i hu;obtain⟨q,g,rfl⟩:=S6 h;rw[hu];dsimp only;rw[S5 z g];rfl
  ·cases h
 |next it s =>
  simp only[R9]at h;simp only[N5,zx2];cases s with
  |false=>cases h
  |true =>
   obtain⟨q,g,rfl⟩:=S6 h;rw[Ij rfl,S5 z g];rfl
 |typeAssert x xt t ok =>
  simp only[R9]at h;simp only[N5,sx];cases hu:P.underlying t with
  |none=>rw[hu]at h;cases h
  |some d =>
   rw[hu]at h;cases d with
   |interface ms=>cases h
   |_ =>
    dsimp only at h ⊢;cases H:qh P t with
    |none=>rw[H]at h;cases h
    |some X=>rw[H]at h;obtain⟨q,g,rfl⟩:=S6 h;dsimp only;rw[S5 z g];rfl
 |extract t i =>
  obtain⟨q,g,rfl⟩:=S6 h;show (Pq t _).run E R=_;rw[S5 z g];rfl
 |call c=>exact zsr z h R
 |_=>cases h
end ok
end
section
noncomputable section
open Go.RowKit (Below)
def yi(g:Program)(f:Nat):Bool:=match g.funcs[f]? with
 |some fn=>match fn.params.toList with
  |[]=>match fn.resultTypes.toList with
   |[t]=>match g.underlying t with
    |some .bool=>true
    |_=>false
   |_=>false
  |_::_=>false
 |none=>false
def zbg(A:Program)(f:Nat):Prop :=
 ∀(w:World) z,∃g j,Below w.heap.size w g∧Steps A (lone (Frame.enter A f #[] .normal) z w) (lone j z g)∧j.fn=f∧j.leaving A g (.returned (.bool true))
def zsq(hm:z.follows .mixedOrders=true){m f:Nat}(h:uy z noO m f=true):zbg z f:=by
 intro w g;unfold uy at h;split at h
 ·rename_i H j;obtain⟨I,A,K,B,L,C,D,E,F,G⟩:=zd2 hm (zx7 z) m w _ _ w (.fn f) [] [] _ _ (Rel.start w) .nil j g;cases D;exact⟨A,B,C.low,E,F,G⟩
 ·cases h
def Rel.below{w0:World}{H:Heap}{w w':World}(h:Rel w0 I H w)(hb:Below w.heap.size w w'):Rel w0 I H w':=by
 have gg:w0.heap.size≤w.heap.size:=h.low.size;exact⟨h.nx,h.low.trans (hb.mono gg),h.fresh,λo v L C=>Ix (h.lt o v L C) hb.size,h.excl,
  λo ob ho hg=>(h.obj o ob ho hg).frame (CM.le_refl I) (λ_ _ C=>C) (λv L C=>hb.block _ (h.lt o v L C)),h.top⟩
def Qy(g:Program)(f:Nat):Nat:=match yi g f with
 |true=>0
 |false=>match g.funcs[f]? with
  | some fn => match fn.origin == "slices.Insert" with
   |true=>1
   | false => match fn.origin == "slices.Delete" with
    |true=>2
    |false=>0
  |none=>0
def S3(g:Program)(f:Nat):Nat:=match g.funcs[f]? with
 |some fn=>match fn.targs[1]? with
  |some t=>match Oz g t with
   |some j=>j
   |none=>0
  |none=>0
 |none=>0
def rowTo(j:Heap)(o v len esz:Nat)(l:List AV):RV:=match j.get o with
 |some (.cells _ _ g false)=>match Nat.beq v g with
  |true=>.ok (.sl o (Nat.add g 1) 0 len esz none) (j.put o (.cells (Pp l 0 .e) l.length (Nat.add g 1) false))
  |false=>.no
 |_=>.no
def Vf(j:Nat)(E:Heap):List AV→RV
 |[.nilSl,.int .i64 (.ofNat i),.sl z A B C g _]=>match Nat.beq i 0&&(Nat.beq C 1&&(Nat.beq g j&&Nat.ble 1 j)) with
  |true=>match Pt E z A B j with
   |some x=>.ok (.sl E.next 0 0 1 j none) (E.push (.cells (Pp x 0 .e) x.length 0 false))
   |none=>.no
  |false=>.no
 |[.sl o v F len D _,.int .i64 (.ofNat i),.sl z A B C g _]=>match !(Nat.beq o z)&&(Nat.beq F 0&&(Nat.beq C 1&&(Nat.beq g j&&(Nat.beq D j&&(Nat.ble i len&&(Nat.ble 1 j&&Nat.ble len Nm)))))) with
  |true=>match Pt E o v 0 (Nat.mul len j) with
   |some l=>match Pt E z A B j with
    |some x=>rowTo E o v (Nat.add len 1) j (l.take (Nat.mul i j)++x++l.drop (Nat.mul i j))
    |none=>.no
   |none=>.no
  |false=>.no
 |_=>.no
def cw(z:Nat)(A:Heap):List AV→RV
 |[.sl o v B len g _,.int .i64 (.ofNat i),.int .i64 (.ofNat j)]=>match Nat.beq B 0&&(Nat.beq j (Nat.add i 1)&&(Nat.beq g z&&(Nat.ble j len&&(Nat.ble 1 z&&Nat.ble len Nm)))) with
  |true=>match Pt A o v 0 (Nat.mul len z) with
   |some l=>rowTo A o v (Nat.sub len 1) z (l.take (Nat.mul i z)++l.drop (Nat.mul j z))
   |none=>.no
  |false=>.no
 |_=>.no
def Ti(k j:Nat)(z:Heap)(g:List AV):RV:=match k with
 |1=>Vf j z g
 |2=>cw j z g
 |_=>.no
def ox(B:Program)(f:Nat):Prop:=∀j C D w g z v A,Rel j C D w→VRs C g z→Ti (Qy B f) (S3 B f) D g=.ok v A→oq B j C w (.fn f) z v A
def zug(g:Program)(f:Nat):Bool:=yi g f || !(Nat.beq (Qy g f) 0)
def zxe{f:Nat}(h:yi z f=true):Qy z f=0:=by unfold Qy;rw[h]
open Classical in
def OL(P:Program):Qn:=λt args H=>match t with
 |.fn f=>if Qy P f=0 then (match args with
   |[]=>if yi P f=true∧zbg P f then .ok (.bool true) H else .no
   |_=>.no) else if ox P f then Ti (Qy P f) (S3 P f) H args else .no
 |_=>.no
def zt{f:Nat}(h:zug z f=false)(g:List AV)(A:Heap):OL z (.fn f) g A=.no:=by
 unfold zug at h;simp only[Bool.or_eq_false_iff,Bool.not_eq_false']at h;have j:=Ig h.2;unfold OL;dsimp only;rw[Ij j];split
 ·rw[Ii (by rw[h.1];simp)]
 ·rfl
def sg{f:Nat}(h:yi z f=true)(g:zbg z f)(j:Heap):OL z (.fn f) [] j=.ok (.bool true) j:=by
 unfold OL;dsimp only;rw[Ij (zxe h)];exact Ij ⟨h,g⟩
def uw{f:Nat}(h:Qy z f≠0)(j:ox z f)(A:Heap)(g:List AV):OL z (.fn f) g A=Ti (Qy z f) (S3 z f) A g:=by
 unfold OL;dsimp only;rw[Ii h,Ij j]
def aj(L:Program):X9 L (OL L):=by
 intro O M R w t j P v Q z A g;unfold OL at g;split at g
 ·rename_i f;split at g
  ·split at g
   ·split at g
    ·rename_i B;cases g;cases A;intro C;obtain⟨D,E,F,G,H,I⟩:=B.2 w C;exact⟨M,D,.bool true,E,CM.le_refl M,z.below F,.bool true,G,H,I⟩
    ·cases g
   ·cases g
  ·split at g
   ·rename_i K;exact K _ _ _ _ _ _ _ _ z A g
   ·cases g
 ·cases g
end
end
noncomputable section
inductive LV where
 |any
 |bool (b:Bool)
 |u (x:UInt64)
 |b (x:UInt8)
 |i (n:Int)
 |int (k:IntKind) (n:Int)
 |str (l:List UInt8)
 |nilPtr
 |ptr (p i:Nat)
 |dptr (p k i:Nat)
 |cptr (l:List LV) (i:Nat)
 |nilSl
 |dy (p k:Nat)
 |vw (p k lo len:Nat)
 |vf (p k len:Nat)
 |lst (l:List LV) (len esz:Nat)
 |nilMap
 |map (p:Nat)
 |nilFn
 |fn (f:Fn) (first cap:List LV)
 |nilIf
 |iface (t:TypeId) (v:LV)
 |agg (l:List LV)
 |tup (l:List LV)
 deriving Inhabited
abbrev M7:=List (Nat×LV)
def lk0:M7→Nat→LV
 |[],_=>.any
 |(d,v)::l,t=>if t=d then v else lk0 l t
def zx8(f:v8):∃g:v8,g=f:=⟨f,rfl⟩
def Ps(f:v8):v8:=Classical.choose (zx8 f)
def Tn(f:v8):Ps f=f:=Classical.choose_spec (zx8 f)
def lk:M7→Nat→LV:=Ps lk0
def bf(t:Nat):lk [] t=.any:=by unfold lk;rw[Tn];rfl
def zhp(d:Nat)(v:LV)(l:M7)(t:Nat):lk ((d,v)::l) t=if t=d then v else lk l t:=by unfold lk;rw[Tn];rfl
inductive LObj where
 |dead (st:Nat)
 |cells (l:List LV) (st:Nat)
 |dyn (l:List LV) (len esz ver st:Nat)
 |map (es:List (LV×LV×Nat)) (clock st:Nat)
 |iter (l:List UInt8) (pos:Nat)
 |loop (s:LoopState) (pend:Option Code) (f n:Nat) (ρ:M7) (ps:Array Tmp) (a b:Code) (d:Nat)
 |defd (op:Bool)
abbrev M4:=List LObj
def LObj.live:LObj→Bool
 |.dead _=>false
 |_=>true
def LObj.stp:LObj→Bool
 |.cells _ _=>true
 |.dyn _ _ _ _ _=>true
 |.map _ _ _=>true
 |_=>false
def LObj.st:LObj→Nat
 |.cells _ st=>st
 |.dyn _ _ _ _ st=>st
 |.map _ _ st=>st
 |.dead st=>st
 |_=>0
def LV.cells:LV→Option (List LV)
 |.any=>none
 |.agg cs=>some cs
 |.tup _=>none
 |v=>some [v]
mutual
def toA:LV→AV
 |.bool b=>.bool b
 |.u x=>.int .u64 (Int.ofNat x.toNat)
 |.b x=>.int .u8 (Int.ofNat x.toNat)
 |.i n=>.int .i64 n
 |.int k n=>.int k n
 |.str l=>.str l.length (Oy l)
 |.nilPtr=>.nilPtr
 |.nilSl=>.nilSl
 |.nilMap=>.nilMap
 |.nilFn=>.nilFn
 |.fn f _ _=>.fn f [] []
 |.nilIf=>.nilIf
 |.agg l=>.agg (toAs l)
 |.tup l=>.tup (toAs l)
 |_=>.tup []
def toAs:List LV→List AV
 |[]=>[]
 |v::l=>toA v::toAs l
end
def LV.scal:LV→Bool
 |.bool _ |.u _ |.b _ |.i _ |.int _ _ |.str _ |.nilPtr |.nilSl |.nilMap |.nilFn |.nilIf=>true
 |_=>false
def LV.cst:LV→Bool
 |.fn (.func _) [] []=>true
 |.agg l=>l.all LV.scal
 |.tup []=>true
 |v=>v.scal
structure Cx where
 hd:List (Nat×AV)
 Fz:Nat→Prop
 H:Heap
def kc:AV→Bool
 |.nilSl=>true
 |.emp=>true
 |.sl _ _ _ _ _ _=>true
 |_=>false
def We(z:Nat)(h a:AV):Prop:=z=0→match a with
 |.sl _ _ _ _ _ g=>match h with
  |.sl _ _ _ len _ j=>g=j∨∃r,g=some r∧r≤len
  |_=>True
 |_=>True
mutual
inductive AR (c:Cx):LV→AV→Prop where
 |any (a:AV):AR c .any a
 |bool (b:Bool):AR c (.bool b) (.bool b)
 |u (x:UInt64):AR c (.u x) (.int .u64 (Int.ofNat x.toNat))
 |b (x:UInt8):AR c (.b x) (.int .u8 (Int.ofNat x.toNat))
 |i (n:Int):AR c (.i n) (.int .i64 n)
 |int (k:IntKind) (n:Int):AR c (.int k n) (.int k n)
 |str (l:List UInt8):AR c (.str l) (.str l.length (Oy l))
 |nilPtr:AR c .nilPtr .nilPtr
 |ptr {p i o:Nat} (h:c.hd[p]?=some (0,.ptr o 0 0)):AR c (.ptr p i) (.ptr o 0 i)
 |dptr {p k i k' o v j:Nat} {h:AV} (hp:c.hd[p]?=some (k',h)) (hk:k≤k') (ha:k=k'→j=i∧∃len esz room,h=.sl o v 0 len esz room):AR c (.dptr p k i) (.ptr o v j)
 |cptr {l:List LV} {i o v j:Nat} {l':List AV} (hf:c.Fz o) (hr:Pt c.H o v j l.length=some l') (hl:ARs c l l'):AR c (.cptr l i) (.ptr o v (j+i))
 |nilSl:AR c .nilSl .nilSl
 |dy {p k k':Nat} {h a:AV} (hp:c.hd[p]?=some (k',h)) (hk:k≤k') (ha:k=k'→a=h) (hs:kc a=true):AR c (.dy p k) a
 |vw {p k lo len k':Nat} {h a:AV} (hp:c.hd[p]?=some (k',h)) (hk:k≤k') (ha:k=k'→(len=0∧(a=.nilSl∨(a=.emp∧lo≠0)))∨∃o v len' esz room room',h=.sl o v 0 len' esz room∧a=.sl o v (lo*esz) len esz room'∧∀r,room'=some r→len≤r) (hs:kc a=true) (hz:k=k'→We lo h a):AR c (.vw p k lo len) a
 |vf {p k len k':Nat} {h a:AV} (hp:c.hd[p]?=some (k',h)) (hk:k≤k') (ha:k=k'→∃o v len' esz room,h=.sl o v 0 len' esz room∧a=.sl o v 0 len esz (some len)) (hs:kc a=true):AR c (.vf p k len) a
 |lst {l:List LV} {len esz o v i:Nat} {room:Option Nat} {l':List AV} (hf:c.Fz o) (hrm:∀r,room=some r→len≤r) (hlen:l.length=len*esz) (hr:Pt c.H o v i (len*esz)=some l') (hl:ARs c l l'):AR c (.lst l len esz) (.sl o v i len esz room)
 |lstNil {esz:Nat}:AR c (.lst [] 0 esz) .nilSl
 |lstEmp {esz:Nat}:AR c (.lst [] 0 esz) .emp
 |nilMap:AR c .nilMap .nilMap
 |map {p o:Nat} (h:c.hd[p]?=some (0,.map o)):AR c (.map p) (.map o)
 |nilFn:AR c .nilFn .nilFn
 |fn {f:Nat} {l r:List LV} {l' r':List AV} (hl:ARs c l l') (hr:ARs c r r'):AR c (.fn (.func f) l r) (.fn (.func f) l' r')
 |yield {p o:Nat} (h:c.hd[p]?=some (0,.ptr o 0 0)):AR c (.fn (.yield p) [] []) (.fn (.yield o) [] [])
 |nilIf:AR c .nilIf .nilIf
 |iface {t:TypeId} {v:LV} {a:AV} (h:AR c v a):AR c (.iface t v) (.iface t a)
 |agg {l:List LV} {l':List AV} (h:ARs c l l'):AR c (.agg l) (.agg l')
 |tup {l:List LV} {l':List AV} (h:ARs c l l'):AR c (.tup l) (.tup l')
inductive ARs (c:Cx):List LV→List AV→Prop where
 |nil:ARs c [] []
 |cons {v:LV} {a:AV} {l:List LV} {r:List AV} (h:AR c v a) (hs:ARs c l r):ARs c (v::l) (a::r)
end
inductive MRs (c:Cx):List (LV×LV×Nat)→List (AV×AV×Nat)→Prop where
 |nil:MRs c [] []
 |cons {k v:LV} {a b:AV} {n:Nat} {l:List (LV×LV×Nat)} {r:List (AV×AV×Nat)} (hk:AR c k a) (hv:AR c v b) (h:MRs c l r):MRs c ((k,v,n)::l) ((a,b,n)::r)
def N0(c:Cx)(g:M7)(j:Tr AV):Prop:=∀t,AR c (lk g t) ((M8 (Nh t) j).getD Ri)
def oy(c:Cx)(k:Nat)(h:AV):LObj→Prop
 |.dead _=>True
 |.cells l _=>k=0∧∃o t A,h=.ptr o 0 0∧c.H.get o=some (.cells t l.length 0 false)∧R8 t 0 l.length=some A∧ARs c l A
 |.dyn l len j D _=>k=D∧l.length=len*j∧((h=.nilSl∧len=0)∨∃o v z t g A,h=.sl o v 0 len j z∧c.H.get o=some (.cells t g v false)∧len*j≤g ∧
   R8 t 0 (len*j)=some A∧ARs c l A∧(∀r,z=some r→g=r*j∧len≤r)∧(z=none→g=len*j))
 |.map G H _=>k=0∧∃o B,h=.map o∧c.H.get o=some (.map B H)∧MRs c G B
 |.iter l E=>k=0∧∃o,h=.ptr o 0 0∧c.H.get o=some (.iter l.length (Oy l) E)
 |.loop s C f n L I a b d=>k=0∧∃o F K,h=.ptr o 0 0∧c.hd[d]?=some (0,.ptr F 0 0)∧c.H.get o=some (.loop s C f n K I a b F)∧N0 c L K
 |.defd op=>k=0∧∃o,h=.ptr o 0 0∧c.H.get o=some (.defd op)
def O9(c:Cx)(j:M4)(o:Nat):Prop:=∃(p:Nat) (g:LObj) (k:Nat) (h:AV),j[p]?=some g∧g.live=true∧c.hd[p]?=some (k,h)∧Nv h=some o
structure HSim (c:Cx) (G:M4):Prop where
 len:c.hd.length=G.length
 fz:∀o,c.Fz o→o<c.H.next
 lt:∀o,O9 c G o→o<c.H.next
 sep:∀o,O9 c G o→¬c.Fz o
 obj:∀(p:Nat) (ob:LObj) (k:Nat) (h:AV),G[p]?=some ob→c.hd[p]?=some (k,h)→oy c k h ob
 excl:∀(p q:Nat) (ob ob':LObj) (k:Nat) (h:AV) (k':Nat) (h':AV) (o:Nat),G[p]?=some ob→G[q]?=some ob'→ob.live=true→ob'.live=true→c.hd[p]?=some (k,h)→c.hd[q]?=some (k',h')→Nv h=some o→Nv h'=some o→p=q
def Wx:AV→Bool
 |.ptr _ _ _=>true
 |.map _=>true
 |_=>false
structure CxLe (c c':Cx):Prop where
 hd:∀(p k:Nat) (h:AV),c.hd[p]?=some (k,h)→∃(k':Nat) (h':AV),c'.hd[p]?=some (k',h')∧k≤k'∧(k=k'→h=h')∧(Wx h=true→k=k')
 fz:∀o,c.Fz o→c'.Fz o∧c'.H.get o=c.H.get o
structure Step (c:Cx) (G:M4) (c':Cx) (G':M4):Prop where
 le:CxLe c c'
 nx:c.H.next≤c'.H.next
 frame:∀o,o<c.H.next→¬O9 c G o→c'.H.get o=c.H.get o
 new:∀o,O9 c' G' o→O9 c G o∨c.H.next≤o
 fznew:∀o,c'.Fz o→c.Fz o∨O9 c G o∨c.H.next≤o
 mono:∀(p:Nat) (ob ob':LObj),G[p]?=some ob→G'[p]?=some ob'→ob.st≤ob'.st
 st:∀(p:Nat) (ob ob':LObj) (k:Nat) (h:AV) (o:Nat),G[p]?=some ob→G'[p]?=some ob'→c.hd[p]?=some (k,h)→Nv h=some o→ob.stp=true→ob.st=ob'.st→ob'=ob∧c'.H.get o=c.H.get o∧c'.hd[p]?=c.hd[p]?
inductive Lx where
 |t (i:Nat)
 |c (v:LV)
def Lx.ev(ρ:M7):Lx→LV
 |.t i=>lk ρ i
 |.c v=>v
def Lx.r:Lx→Ox
 |.t i=>.t i
 |.c v=>.c (toA v)
def Lx.ok:Lx→Bool
 |.t _=>true
 |.c v=>v.cst
inductive LOp where
 |move (x:Lx)
 |pick (c a b:Lx)
 |alloc (l:List LV)
 |box (x:Lx)
 |build (cs:List LV) (ps:List (Nat×Nat×Lx))
 |buildSl (size len:Nat) (cs:List LV) (ps:List (Nat×Nat×Lx))
 |load1 (x:Lx)
 |loadN (n:Nat) (x:Lx)
 |store (n:Nat) (x y:Lx)
 |nilChk (x:Lx)
 |bin (op:BinOp) (g:Bool) (t:TypeId) (x y:Lx)
 |un (op:UnOp) (x:Lx)
 |cvInt (k:IntKind) (x:Lx)
 |cvStr (x:Lx)
 |cvSame (x:Lx)
 |cvBytes (x:Lx)
 |mkFunc (f:Nat) (first cap:List Lx)
 |mkSl (size:Nat) (z:List LV) (l c:Lx)
 |slStr (x:Lx) (lo hi:Option Lx)
 |slSl (size:Nat) (x:Lx) (lo hi:Option Lx)
 |slSl3 (size:Nat) (x:Lx) (lo hi:Option Lx) (mx:Lx)
 |fieldAddr (off:Nat) (x:Lx)
 |field (g:Bool) (n off:Nat) (x:Lx)
 |ixAddr (size:Nat) (x i:Lx)
 |ixStr (x i:Lx)
 |extract (i:Nat) (x:Lx)
 |lenStr (x:Lx)
 |lenSl (x:Lx)
 |maxi (mx:Bool) (x y:Lx)
 |max3 (mx:Bool) (x y z:Lx)
 |ixAddrArr (len size:Nat) (x i:Lx)
 |ixArr (g:Bool) (len size:Nat) (x i:Lx)
 |lenArr (n:Nat) (x:Lx)
 |appZ (size:Nat) (z:List LV) (s x:Lx)
 |appG (size:Nat) (s x:Lx)
 |copy (size:Nat) (d x:Lx)
 |clear (size:Nat) (z:List LV) (x:Lx)
 |mkMap0
 |mkMap1 (x:Lx)
 |lookup (d:TypeDesc) (z:LV) (ok:Bool) (x i:Lx)
 |mapUpd (d:TypeDesc) (m k v:Lx)
 |lenMap (x:Lx)
 |slArr (n size:Nat) (x:Lx) (lo hi:Option Lx)
 |callV (f:Lx) (args:List Lx)
def rps:List (Nat×Nat×Lx)→List (Nat×Nat×Ox)
 |[]=>[]
 |(a,b,x)::l=>(a,b,x.r)::rps l
def ib:List Lx→List Ox
 |[]=>[]
 |x::l=>x.r::ib l
def LOp.r:LOp→ROp
 |.move x=>.move x.r
 |.pick c a b=>.pick c.r a.r b.r
 |.alloc l=>.alloc (toAs l)
 |.box x=>.box x.r
 |.build cs ps=>.build (toAs cs) (rps ps)
 |.buildSl s n cs ps=>.buildSl s n (toAs cs) (rps ps)
 |.load1 x=>.load1 x.r
 |.loadN n x=>.loadN n x.r
 |.store n x y=>.store n x.r y.r
 |.nilChk x=>.nilChk x.r
 |.bin op g t x y=>.bin op g t x.r y.r
 |.un op x=>.un op x.r
 |.cvInt k x=>.cvInt k x.r
 |.cvStr x=>.cvStr x.r
 |.cvSame x=>.cvSame x.r
 |.cvBytes x=>.cvBytes x.r
 |.mkFunc f a b=>.mkFunc (.func f) (ib a) (ib b)
 |.mkSl s z l c=>.mkSl s (toAs z) l.r c.r
 |.slStr x lo hi=>.slStr x.r (lo.map Lx.r) (hi.map Lx.r)
 |.slSl s x lo hi=>.slSl s x.r (lo.map Lx.r) (hi.map Lx.r) none
 |.slSl3 s x lo hi mx=>.slSl s x.r (lo.map Lx.r) (hi.map Lx.r) (some mx.r)
 |.fieldAddr o x=>.fieldAddr o x.r
 |.field g n o x=>.field g n o x.r
 |.ixAddr s x i=>.ixAddr s x.r i.r
 |.ixStr x i=>.ixStr x.r i.r
 |.extract i x=>.extract i x.r
 |.lenStr x=>.lenStr x.r
 |.lenSl x=>.lenSl x.r
 |.maxi m x y=>.maxi m [x.r,y.r]
 |.max3 m x y z=>.maxi m [x.r,y.r,z.r]
 |.ixAddrArr l s x i=>.ixAddrArr l s x.r i.r
 |.ixArr g l s x i=>.ixArr g l s x.r i.r
 |.lenArr n x=>.lenArr n x.r
 |.appZ s z a x=>.appZ s (toAs z) a.r x.r
 |.appG s a x=>.appG s a.r x.r
 |.copy s d x=>.copy s d.r x.r
 |.clear s z x=>.clear s (toAs z) x.r
 |.mkMap0=>.mkMap0
 |.mkMap1 x=>.mkMap1 x.r
 |.lookup d z ok x i=>.lookup d (toA z) ok x.r i.r
 |.mapUpd d m k v=>.mapUpd d m.r k.r v.r
 |.lenMap x=>.lenMap x.r
 |.slArr n s x lo hi=>.slArr n s x.r (lo.map Lx.r) (hi.map Lx.r) none
 |.callV f l=>.callV f.r (ib l)
def Ry(n:Int):Prop:=-9223372036854775808≤n∧n<9223372036854775808
def Sg:UInt64→UInt64→UInt64:=Ps λa b=>a+b
def cq:UInt64→UInt64→UInt64:=Ps λa b=>a-b
def Qz:UInt64→UInt64→UInt64:=Ps λa b=>a*b
def wm:UInt64→UInt64→UInt64:=Ps λa b=>a/b
def qn:UInt64→UInt64→UInt64:=Ps λa b=>a%b
def Rt:UInt64→UInt64→UInt64:=Ps λa b=>a &&& b
def orU:UInt64→UInt64→UInt64:=Ps λa b=>a ||| b
def qw:UInt64→UInt64→UInt64:=Ps λa b=>a ^^^ b
def ic:UInt64→UInt64:=Ps λa => ~~~a
def S4:UInt64→Nat→UInt64:=Ps λa s=>UInt64.ofNat (a.toNat*2^s)
def Py:UInt64→Nat→UInt64:=Ps λa s=>UInt64.ofNat (a.toNat/2^s)
def u9:UInt8→UInt8→UInt8:=Ps λa b=>a+b
def ve:UInt8→UInt8→UInt8:=Ps λa b=>a-b
def rh:UInt8→UInt8→UInt8:=Ps λa b=>a &&& b
def orB:UInt8→UInt8→UInt8:=Ps λa b=>a ||| b
def iU:Int→UInt64:=Ps λa=>UInt64.ofInt a
def bU:UInt8→UInt64:=Ps λa=>UInt64.ofNat a.toNat
def uB:UInt64→UInt8:=Ps λa=>UInt8.ofNat a.toNat
def iB:Int→UInt8:=Ps λa=>UInt8.ofInt a
def zi6(a b:UInt64):Sg a b=a+b:=by unfold Sg;rw[Tn]
def zqh(a b:UInt64):cq a b=a-b:=by unfold cq;rw[Tn]
def yj(a b:UInt64):Qz a b=a*b:=by unfold Qz;rw[Tn]
def f9(a b:UInt64):wm a b=a/b:=by unfold wm;rw[Tn]
def ga(a b:UInt64):qn a b=a%b:=by unfold qn;rw[Tn]
def zxl(a b:UInt64):Rt a b=a &&& b:=by unfold Rt;rw[Tn]
def af(a b:UInt64):orU a b=a ||| b:=by unfold orU;rw[Tn]
def kj(a b:UInt64):qw a b=a ^^^ b:=by unfold qw;rw[Tn]
def zuu(a:UInt64):ic a = ~~~a:=by unfold ic;rw[Tn]
def zqc(a:UInt64)(s:Nat):S4 a s=UInt64.ofNat (a.toNat*2^s):=by unfold S4;rw[Tn]
def zq2(a:UInt64)(s:Nat):Py a s=UInt64.ofNat (a.toNat/2^s):=by unfold Py;rw[Tn]
def lp(a b:UInt8):u9 a b=a+b:=by unfold u9;rw[Tn]
def ir(a b:UInt8):ve a b=a-b:=by unfold ve;rw[Tn]
def kl(a b:UInt8):rh a b=a &&& b:=by unfold rh;rw[Tn]
def vo(a b:UInt8):orB a b=a ||| b:=by unfold orB;rw[Tn]
def pe(a:Int):iU a=UInt64.ofInt a:=by unfold iU;rw[Tn]
def bt(a:UInt8):bU a=UInt64.ofNat a.toNat:=by unfold bU;rw[Tn]
def uB_eq(a:UInt64):uB a=UInt8.ofNat a.toNat:=by unfold uB;rw[Tn]
def iB_eq(a:Int):iB a=UInt8.ofInt a:=by unfold iB;rw[Tn]
def Vb(op:BinOp)(a b:UInt64)(g:LV→Prop):Prop:=match op with
 |.add=>g (.u (Sg a b))
 |.sub=>g (.u (cq a b))
 |.mul=>g (.u (Qz a b))
 |.quo=>b≠0∧g (.u (wm a b))
 |.rem=>b≠0∧g (.u (qn a b))
 |.and=>g (.u (Rt a b))
 |.or=>g (.u (orU a b))
 |.xor=>g (.u (qw a b))
 |.andNot=>g (.u (Rt a (ic b)))
 |.shl=>g (.u (S4 a b.toNat))
 |.shr=>g (.u (Py a b.toNat))
 |.eql=>g (.bool (decide (a=b)))
 |.neq=>g (.bool (decide (a≠b)))
 |.lss=>g (.bool (decide (a<b)))
 |.leq=>g (.bool (decide (a≤b)))
 |.gtr=>g (.bool (decide (b<a)))
 |.geq=>g (.bool (decide (b≤a)))
def bbL(op:BinOp)(a b:UInt8)(g:LV→Prop):Prop:=match op with
 |.add=>g (.b (u9 a b))
 |.sub=>g (.b (ve a b))
 |.and=>g (.b (rh a b))
 |.or=>g (.b (orB a b))
 |.eql=>g (.bool (decide (a=b)))
 |.neq=>g (.bool (decide (a≠b)))
 |.lss=>g (.bool (decide (a<b)))
 |.leq=>g (.bool (decide (a≤b)))
 |.gtr=>g (.bool (decide (b<a)))
 |.geq=>g (.bool (decide (b≤a)))
 |_=>False
def U3(op:BinOp)(a b:Int)(g:LV→Prop):Prop:=match op with
 |.add=>Ry (a+b)∧g (.i (a+b))
 |.sub=>Ry (a-b)∧g (.i (a-b))
 |.mul=>Ry (a*b)∧g (.i (a*b))
 |.quo=>b≠0∧Ry (a.tdiv b)∧g (.i (a.tdiv b))
 |.rem=>b≠0∧g (.i (a.tmod b))
 |.shl=>0≤a∧0≤b∧b≤64∧Ry (a*2^b.toNat)∧g (.i (a*2^b.toNat))
 |.shr=>0≤a∧0≤b∧b≤64∧g (.i (a/2^b.toNat))
 |.and=>0≤a∧a<9223372036854775808∧0≤b∧b<9223372036854775808∧g (.i (a.toNat &&& b.toNat:Nat))
 |.or=>0≤a∧a<9223372036854775808∧0≤b∧b<9223372036854775808∧g (.i (a.toNat ||| b.toNat:Nat))
 |.eql=>g (.bool (decide (a=b)))
 |.neq=>g (.bool (decide (a≠b)))
 |.lss=>g (.bool (decide (a<b)))
 |.leq=>g (.bool (decide (a≤b)))
 |.gtr=>g (.bool (decide (b<a)))
 |.geq=>g (.bool (decide (b≤a)))
 |_=>False
def kkL(op:BinOp)(a b:Int)(g:LV→Prop):Prop:=match op with
 |.eql=>g (.bool (decide (a=b)))
 |.neq=>g (.bool (decide (a≠b)))
 |.lss=>g (.bool (decide (a<b)))
 |.leq=>g (.bool (decide (a≤b)))
 |.gtr=>g (.bool (decide (b<a)))
 |.geq=>g (.bool (decide (b≤a)))
 |_=>False
def zr(op:BinOp)(a b:List UInt8)(g:LV→Prop):Prop:=match op with
 |.add=>a.length+b.length≤1000000000∧g (.str (a++b))
 |.eql=>g (.bool (decide (a=b)))
 |.neq=>g (.bool (decide (a≠b)))
 |_=>False
def Wr(g:Program)(op:BinOp)(j:Bool)(t:TypeId)(a b:AV)(r:Bool)(z:LV→Prop):Prop:=match op with
 |.eql=>Q9 g j t a b=some r∧z (.bool r)
 |.neq=>Q9 g j t a b=some r∧z (.bool (!r))
 |_=>False
def jl(g:Program)(op:BinOp)(j:Bool)(t:TypeId)(l r:List LV)(z:LV→Prop):Prop:=match op with
 |.eql=>∃b,l.all LV.scal=true∧r.all LV.scal=true∧Q9 g j t (.agg (toAs l)) (.agg (toAs r))=some b∧z (.bool b)
 |.neq=>∃b,l.all LV.scal=true∧r.all LV.scal=true∧Q9 g j t (.agg (toAs l)) (.agg (toAs r))=some b∧z (.bool (!b))
 |_=>False
def lstN(op:BinOp)(len:Nat)(g:LV→Prop):Prop:=match op with
 |.eql=>g (.bool false)∧(len=0→g (.bool true))
 |.neq=>g (.bool true)∧(len=0→g (.bool false))
 |_=>False
def Qt(j:Program)(op:BinOp)(z:Bool)(t:TypeId)(x y:LV)(g:LV→Prop):Prop:=match x,y with
 |.u a,.u b=>Vb op a b g
 |.i a,.i b=>U3 op a b g
 |.b a,.b b=>bbL op a b g
 |.bool a,.bool b=>match op with
  |.eql=>Q9 j z t (.bool a) (.bool b)=some (a==b)∧g (.bool (a==b))
  |.neq=>Q9 j z t (.bool a) (.bool b)=some (a==b)∧g (.bool (!(a==b)))
  |_=>False
 |.u a,.i s=>match op with
  |.shl=>0≤s∧g (.u (S4 a s.toNat))
  |.shr=>0≤s∧g (.u (Py a s.toNat))
  |_=>False
 |.i a,.u s=>match op with
  |.shl=>0≤a∧s.toNat≤64∧Ry (a*2^s.toNat)∧g (.i (a*2^s.toNat))
  |.shr=>0≤a∧s.toNat≤64∧g (.i (a/2^s.toNat))
  |_=>False
 |.int k a,.int A b=>k=A∧kkL op a b g
 |.str a,.str b=>zr op a b g
 |.nilPtr,.nilPtr=>Wr j op z t .nilPtr .nilPtr true g
 |.ptr _ _,.nilPtr=>Wr j op z t (.ptr 0 0 0) .nilPtr false g
 |.nilSl,.nilSl=>Wr j op z t .nilSl .nilSl true g
 |.lst _ len _,.nilSl=>Q9 j z t .nilSl .nilSl=some true∧lstN op len g
 |.agg l,.agg r=>jl j op z t l r g
 |_,_=>False
def su(op:UnOp)(x:LV)(g:LV→Prop):Prop:=match op,x with
 |.not,.bool b=>g (.bool (!b))
 |.neg,.u a=>g (.u (cq 0 a))
 |.neg,.i a=>Ry (-a)∧g (.i (-a))
 |.xor,.u a=>g (.u (ic a))
 |_,_=>False
def w32(n:Int):Int:=(n+2147483648)%4294967296-2147483648
def ai(k:IntKind)(x:LV)(g:LV→Prop):Prop:=match k,x with
 |.u64,.u a=>g (.u a)
 |.u64,.i a=>g (.u (iU a))
 |.u64,.b a=>g (.u (bU a))
 |.i64,.u a=>a.toNat<9223372036854775808∧g (.i a.toNat)
 |.i64,.i a=>Ry a∧g (.i a)
 |.i64,.b a=>g (.i a.toNat)
 |.u8,.u a=>g (.b (uB a))
 |.u8,.i a=>g (.b (iB a))
 |.u8,.b a=>g (.b a)
 |.u8,.int _ a=>g (.b (iB a))
 |.i32,.i a=>g (.int .i32 (w32 a))
 |.i64,.int _ a=>Ry a∧g (.i a)
 |_,_=>False
def Sr(t:Bool)(g j:Prop):Prop:=(t=true→g)∧(t=false→j)
def xz(v:LV)(g j:Prop):Prop:=match v with
 |.bool t=>Sr t g j
 |_=>False
def Va(z:M4)(x:LV)(n:Nat)(j:List LV→Prop):Prop:=match x with
 |.ptr p i=>match z[p]? with
  |some (.cells l _)=>i+n≤l.length∧j ((l.drop i).take n)
  |_=>False
 |.dptr p k i=>match z[p]? with
  |some (.dyn l _ _ g _)=>k=g∧i+n≤l.length∧j ((l.drop i).take n)
  |_=>False
 |.cptr l i=>i+n≤l.length∧j ((l.drop i).take n)
 |_=>False
def Oj(l:List LV)(i:Nat)(g:LV→Prop):Prop:=∃v,l[i]?=some v∧g v
def Vn(z:M4)(x:LV)(j:LV→Prop):Prop:=match x with
 |.ptr p i=>match z[p]? with
  |some (.cells l _)=>Oj l i j
  |_=>False
 |.dptr p k i=>match z[p]? with
  |some (.dyn l _ _ g _)=>k=g∧Oj l i j
  |_=>False
 |.cptr l i=>Oj l i j
 |_=>False
def Nu(l:List LV)(i:Nat)(r:List LV):List LV:=l.take i++r++l.drop (i+r.length)
def Uk(z:M4)(x:LV)(r:List LV)(A:M4→Prop):Prop:=match x with
 |.ptr p i=>match z[p]? with
  |some (.cells l st)=>i+r.length≤l.length∧A (z.set p (.cells (Nu l i r) (st+1)))
  |_=>False
 |.dptr p k i=>match z[p]? with
  |some (.dyn l len j g st)=>k=g∧i+r.length≤l.length∧A (z.set p (.dyn (Nu l i r) len j g (st+1)))
  |_=>False
 |_=>False
def Ni(g:List LV):Nat→List LV
 |0=>[]
 |n+1=>g++Ni g n
def R3(C:M4)(j:Nat)(x:LV)(A:Nat→List LV→Prop):Prop:=match x with
 |.nilSl=>A 0 []
 |.dy p k=>match C[p]? with
  |some (.dyn l len g z _)=>k=z∧g=j∧A len l
  |_=>False
 |.vw p k B len=>match C[p]? with
  |some (.dyn l _ g z _)=>k=z∧g=j∧B*g+len*g≤l.length∧A len ((l.drop (B*g)).take (len*g))
  |_=>False
 |.lst l len g=>g=j∧A len l
 |.str l=>j=1∧A l.length (l.map LV.b)
 |_=>False
def U2(A:M4)(x:LV)(z:List LV→Prop):Prop:=match x with
 |.nilSl=>z []
 |.dy p k=>match A[p]? with
  |some (.dyn l _ g j _)=>k=j∧g=1∧z l
  |_=>False
 |.lst l len g=>g=1∧len≠0∧z l
 |_=>False
def lenL(z:M4)(x:LV)(j:Nat→Prop):Prop:=match x with
 |.nilSl=>j 0
 |.dy p k=>match z[p]? with
  |some (.dyn _ len _ g _)=>k=g∧j len
  |_=>False
 |.vw p k _ len=>match z[p]? with
  |some (.dyn _ _ _ g _)=>k=g∧j len
  |_=>False
 |.lst _ len _=>j len
 |_=>False
def O2(C:M4)(j:Nat)(s:LV)(n:Nat)(A:List LV)(D:LV→M4→Prop):Prop:=match s with
 |.nilSl=>D (.dy C.length 0) (C++[.dyn A n j 0 0])
 |.dy p k=>match C[p]? with
  |some (.dyn l len g z st)=>k=z∧(g=j∧0<g)∧len≤1000000000∧D (.dy p (z+1)) (C.set p (.dyn (l++A) (len+n) g (z+1) (st+1)))
  |_=>False
 |.vw p k E len=>match C[p]? with
  |some (.dyn l B g z st)=>k=z∧(g=j∧E=0∧0<n)∧len≤1000000000∧if (len+n)*g≤l.length then D (.vw p k 0 (len+n)) (C.set p (.dyn (Nu l (len*g) A) B g z (st+1)))∧D (.dy C.length 0) (C++[.dyn (l.take (len*g)++A) (len+n) j 0 0]) else len=B∧0<g∧D (.dy p (z+1)) (C.set p (.dyn (l++A) (len+n) g (z+1) (st+1)))∧D (.dy C.length 0) (C++[.dyn (l++A) (len+n) j 0 0])
  |_=>False
 |.vf p k len=>match C[p]? with
  |some (.dyn l _ g z _)=>k=z∧(g=j∧0<n)∧len≤1000000000∧len*g≤l.length∧D (.dy C.length 0) (C++[.dyn (l.take (len*g)++A) (len+n) j 0 0])
  |_=>False
 |_=>False
def fv(B:M7)(z:List LV):List (Nat×Nat×Lx)→Option (List LV)
 |[]=>some z
 |(j,g,x)::A=>match (x.ev B).cells with
  |none=>none
  |some l=>if l.length=g∧j+g≤z.length then fv B (Nu z j l) A else none
def Vh(d:TypeDesc)(a b:LV):Option Bool:=match d,a,b with
 |.int _,.i a,.i b=>some (decide (a=b))
 |.int _,.u a,.u b=>some (decide (a=b))
 |.string,.str a,.str b=>some (decide (a=b))
 |_,_,_=>none
def jp(d:TypeDesc)(k:LV)(g:Option LV→Prop):List (LV×LV×Nat)→Prop
 |[]=>g none
 |(j,v,_)::l=>match Vh d k j with
  |some b=>Sr b (g (some v)) (jp d k g l)
  |none=>False
def Uu(d:TypeDesc)(k v:LV)(g:Nat)(K:List (LV×LV×Nat)→Bool→Prop):List (LV×LV×Nat)→Prop
 |[]=>K [(k,v,g)] true
 |(z,A,n)::l=>match Vh d k z with
  |some b=>Sr b (K ((k,v,n)::l) false) (Uu d k v g (λr j=>K ((z,A,n)::r) j) l)
  |none=>False
def Vo(z:M4)(x:LV)(j:List (LV×LV×Nat)→Prop):Prop:=match x with
 |.nilMap=>j []
 |.map p=>match z[p]? with
  |some (.map g _ _)=>j g
  |_=>False
 |_=>False
def zuz(g:LV)(ok:Bool)(j:LV→Prop):Option LV→Prop
 |some v=>j (match ok with|true=>.tup [v,.bool true]|false=>v)
 |none=>j (match ok with|true=>.tup [g,.bool false]|false=>g)
def ql(A:M4)(p j st:Nat)(B:M4→Prop):List (LV×LV×Nat)→Bool→Prop:=λz g=>B (A.set p (.map z (match g with|true=>j+1|false=>j) (st+1)))
def om(z:M4)(d:TypeDesc)(m k v:LV)(A:M4→Prop):Prop:=match m with
 |.map p=>match z[p]? with
  |some (.map j g st)=>Uu d k v g (ql z p g st A) j
  |_=>False
 |_=>False
def Ok(j:M7)(d:Nat)(x:Option Lx)(g:Nat→Prop):Prop:=match x with
 |none=>g d
 |some x=>match x.ev j with
  |.i n=>0≤n∧g n.toNat
  |.u n=>g n.toNat
  |_=>False
def i1(p k a b m:Nat):LV:=match decide (a=0∧b=m∧0<b) with
 |true=>.vf p k b
 |false=>.vw p k a (b-a)
def ixO(C:M4)(g:Nat)(x:LV)(n:Int)(A:LV→Prop):Prop:=match x with
 |.dy p k=>match C[p]? with
  |some (.dyn _ len j z _)=>k=z∧j=g∧0≤n∧n<len∧A (.dptr p k (n.toNat*g))
  |_=>False
 |.vw p k B len=>match C[p]? with
  |some (.dyn _ _ j z _)=>k=z∧j=g∧0≤n∧n<len∧A (.dptr p k ((B+n.toNat)*g))
  |_=>False
 |.lst l len j=>j=g∧0≤n∧n<len∧A (.cptr l (n.toNat*g))
 |_=>False
inductive LTgt where
 |fn (f:Nat)
 |yield (p:Nat)
def uv(c:Cx):LTgt→Tgt→Prop
 |.fn f,.fn g=>f=g
 |.yield p,.yield o=>c.hd[p]?=some (0,.ptr o 0 0)
 |_,_=>False
def jh(g:Program):LTgt→Prop
 |.fn f=>io g f=true∧ym g f=false
 |.yield _=>True
def Qa(E:Program)(t:LTgt)(j:List LV)(F:M4)(K:LV→M4→Prop):Prop :=
 jh E t∧∀c B g,HSim c F→uv c t B→ARs c j g→∃m C D,Q6 E (OL E) m B g c.H=.ok C D∧∃z v A,z.H=D∧HSim z A∧Step c F z A∧AR z v C∧K v A
def Nq(S:Program)(A:M7)(z:M4)(o:LOp)(B:LV→M4→Prop):Prop:=match o with
 |.move x=>B (x.ev A) z
 |.pick c a b=>match c.ev A with
  |.bool t=>match a.ev A,b.ev A with
   |.bool x,.bool y=>B (.bool (match t with|true=>x|false=>y)) z
   |x,y=>Sr t (B x z) (B y z)
  |_=>False
 |.alloc l=>B (.ptr z.length 0) (z++[.cells l 0])
 |.box x=>match (x.ev A).cells with
  |some l=>B (.ptr z.length 0) (z++[.cells l 0])
  |none=>False
 |.build K L=>match fv A K L with
  |some l=>B (.agg l) z
  |none=>False
 |.buildSl g len K L=>match fv A K L with
  |some l=>l.length=len*g∧B (.dy z.length 0) (z++[.dyn l len g 0 0])
  |none=>False
 |.load1 x=>Vn z (x.ev A) λv=>B v z
 |.loadN n x=>Va z (x.ev A) n λl=>B (.agg l) z
 |.store n x y=>match (y.ev A).cells with
  |some l=>l.length=n∧Uk z (x.ev A) l λM=>B (.tup []) M
  |none=>False
 |.nilChk x=>match x.ev A with
  |.ptr p i=>B (.ptr p i) z
  |.dptr p k i=>B (.dptr p k i) z
  |.cptr l i=>B (.cptr l i) z
  |.fn (.func f) a b=>B (.fn (.func f) a b) z
  |_=>False
 |.bin op O t x y=>Qt S op O t (x.ev A) (y.ev A) λv=>B v z
 |.un op x=>su op (x.ev A) λv=>B v z
 |.cvInt k x=>ai k (x.ev A) λv=>B v z
 |.cvStr x=>U2 z (x.ev A) λl=>∃Q:List UInt8,l=Q.map LV.b∧B (.str Q) z
 |.cvSame x=>match x.ev A with
  |.str l=>B (.str l) z
  |_=>False
 |.cvBytes x=>match x.ev A with
  |.str l=>B (.dy z.length 0) (z++[.dyn (l.map LV.b) l.length 1 0 0])
  |_=>False
 |.mkFunc f a b=>B (.fn (.func f) (a.map (·.ev A)) (b.map (·.ev A))) z
 |.mkSl g I l c=>match l.ev A,c.ev A with
  |.i l,.i c=>l=c∧0≤l∧l≤1048576∧I.length=g∧B (.dy z.length 0) (z++[.dyn (Ni I l.toNat) l.toNat g 0 0])
  |_,_=>False
 |.slStr x D hi=>match x.ev A with
  |.str l=>Ok A 0 D λa=>Ok A l.length hi λb=>a≤b∧b≤l.length∧B (.str ((l.drop a).take (b-a))) z
  |_=>False
 |.slSl g x D hi=>match x.ev A with
  |.nilSl=>Ok A 0 D λa=>Ok A 0 hi λb=>a=0∧b=0∧B .nilSl z
  |.dy p k=>match z[p]? with
   |some (.dyn _ len j C _)=>k=C∧j=g∧Ok A 0 D λa=>Ok A len hi λb=>a≤b∧b≤len∧B (.vw p k a (b-a)) z
   |_=>False
  |.vw p k T len=>match z[p]? with
   |some (.dyn _ _ j C _)=>k=C∧j=g∧Ok A 0 D λa=>Ok A len hi λb=>a≤b∧b≤len∧B (.vw p k (T+a) (b-a)) z
   |_=>False
  |.lst l len j=>j=g∧Ok A 0 D λa=>Ok A len hi λb=>a≤b∧b≤len∧B (.lst ((l.drop (a*j)).take ((b-a)*j)) (b-a) j) z
  |_=>False
 |.slSl3 g x D hi H=>match x.ev A with
  |.dy p k=>match z[p]? with
   |some (.dyn _ len j C _)=>k=C∧j=g∧Ok A 0 D λa=>Ok A len hi λb=>Ok A 0 (some H) λm=>0<len∧a≤b∧b≤m∧m≤len∧B (i1 p k a b m) z
   |_=>False
  |.lst l len j=>j=g∧Ok A 0 D λa=>Ok A len hi λb=>Ok A 0 (some H) λm=>0<len∧a≤b∧b≤m∧m≤len∧B (.lst ((l.drop (a*j)).take ((b-a)*j)) (b-a) j) z
  |_=>False
 |.fieldAddr E x=>match x.ev A with
  |.ptr p i=>B (.ptr p (i+E)) z
  |.dptr p k i=>B (.dptr p k (i+E)) z
  |.cptr l i=>B (.cptr l (i+E)) z
  |_=>False
 |.field O n E x=>match x.ev A with
  |.agg l=>match O with
   |true=>E+n≤l.length∧B (.agg ((l.drop E).take n)) z
   |false=>Oj l E λv=>B v z
  |_=>False
 |.ixAddr g x i=>match i.ev A with
  |.i n=>ixO z g (x.ev A) n λv=>B v z
  |.u n=>ixO z g (x.ev A) (n.toNat:Int) λv=>B v z
  |_=>False
 |.ixStr x i=>match x.ev A,i.ev A with
  |.str l,.i n=>0≤n∧n<l.length∧B (.b (l.getD n.toNat 0)) z
  |.str l,.u n=>n.toNat<l.length∧B (.b (l.getD n.toNat 0)) z
  |.str l,.b n=>n.toNat<l.length∧B (.b (l.getD n.toNat 0)) z
  |_,_=>False
 |.extract i x=>match x.ev A with
  |.tup l=>Oj l i λv=>B v z
  |_=>False
 |.lenStr x=>match x.ev A with
  |.str l=>B (.i l.length) z
  |_=>False
 |.lenSl x=>lenL z (x.ev A) λn=>B (.i n) z
 |.maxi H x y=>match x.ev A,y.ev A with
  |.i a,.i b=>B (.i (match H with|true=>max a b|false=>min a b)) z
  |.u a,.u b=>B (.u (match H with|true=>if a<b then b else a|false=>if b<a then b else a)) z
  |_,_=>False
 |.max3 H x y I=>match x.ev A with
  |.i a=>match y.ev A with
   |.i b=>match I.ev A with
    |.i d=>B (.i (match H with|true=>max (max a b) d|false=>min (min a b) d)) z
    |_=>False
   |_=>False
  |_=>False
 |.ixAddrArr len g x i=>match i.ev A with
  |.i n=>0≤n∧n<len∧match x.ev A with
   |.ptr p R=>B (.ptr p (R+n.toNat*g)) z
   |.dptr p k R=>B (.dptr p k (R+n.toNat*g)) z
   |.cptr l R=>B (.cptr l (R+n.toNat*g)) z
   |_=>False
  |_=>False
 |.ixArr O len g x i=>match i.ev A with
  |.i n=>0≤n∧n<len∧match x.ev A with
   |.agg l=>match O with
    |true=>n.toNat*g+g≤l.length∧B (.agg ((l.drop (n.toNat*g)).take g)) z
    |false=>Oj l (n.toNat*g) λv=>B v z
   |_=>False
  |_=>False
 |.lenArr n _=>B (.i n) z
 |.appZ g I s x=>match x.ev A with
  |.i n=>0≤n∧n≤1048576∧I.length=g∧O2 z g (s.ev A) n.toNat (Ni I n.toNat) B
  |_=>False
 |.appG g s x=>R3 z g (x.ev A) λn l=>n≤1048576∧O2 z g (s.ev A) n l B
 |.copy g d x=>R3 z g (x.ev A) λn l=>match d.ev A with
  |.dy p k=>match z[p]? with
   |some (.dyn r len j C st)=>k=C∧j=g∧B (.i (min n len:Nat)) (z.set p (.dyn (Nu r 0 (l.take (min n len*g))) len j C (st+1)))
   |_=>False
  |.vw p k D len=>match z[p]? with
   |some (.dyn r F j C st)=>k=C∧j=g∧(D+len)*g≤r.length∧B (.i (min n len:Nat)) (z.set p (.dyn (Nu r (D*g) (l.take (min n len*g))) F j C (st+1)))
   |_=>False
  |_=>False
 |.clear g I x=>match x.ev A with
  |.vw p k D len=>match z[p]? with
   |some (.dyn r F j C st)=>k=C∧j=g∧I.length=g∧(D+len)*g≤r.length∧B .any (z.set p (.dyn (Nu r (D*g) (Ni I len)) F j C (st+1)))
   |_=>False
  |_=>False
 |.mkMap0=>B (.map z.length) (z++[.map [] 0 0])
 |.mkMap1 x=>match x.ev A with
  |.i _=>B (.map z.length) (z++[.map [] 0 0])
  |_=>False
 |.lookup d I ok x i=>Vo z (x.ev A) λP=>jp d (i.ev A) (zuz I ok λv=>B v z) P
 |.mapUpd d m k v=>om z d (m.ev A) (k.ev A) (v.ev A) λM=>B .any M
 |.lenMap x=>Vo z (x.ev A) λP=>B (.i P.length) z
 |.slArr n g x D hi=>match x.ev A with
  |.ptr p i=>match z[p]? with
   |some (.cells l st)=>i+n*g≤l.length∧Ok A 0 D λa=>Ok A n hi λb=>a≤b∧b≤n∧B (.lst ((l.drop (i+a*g)).take ((b-a)*g)) (b-a) g) (z.set p (.dead (st+1)))
   |_=>False
  |_=>False
 |.callV f G=>match f.ev A with
  |.fn (.func O) a b=>Qa S (.fn O) (a++G.map (·.ev A)++b) z B
  |.fn (.yield p) [] _=>Qa S (.yield p) (G.map (·.ev A)) z B
  |_=>False
end
variable{D:List LV}{vP:Cx}
section
def yb{t:Tr AV}:∀{n i:Nat} {l:List AV},l.length=n→(∀g,g<n→M8 (Nh (i+g)) t=l[g]?)→R8 t i n=some l
 |0,i,l,h,_=>by
  have:l=[]:=Is h;subst this;rfl
 |n+1,i,[],h,_=>B1
 |n+1,i,a::l,h,k=>by
  have j:=k 0 J;simp only[Lv,It]at j;have z:=yb (t:=t) (n:=n) (i:=i+1) (l:=l) Bb (λg A=>by
   have:=k (g+1) J;rw[Iv]at this;rw[←this,show i+1+g=i+(g+1) from J])
  simp only[R8,j,z]
def zny{t:Tr AV}{i n:Nat}{l:List AV}(h:R8 t 0 g=some l)(j:i+n≤g):R8 t i n=some ((l.drop i).take n):=by
 obtain⟨B,z⟩:=d7 h;refine yb Ab (λC A=>?_);have:=z (i+C) J;rw[Jc]at this;rw[this,I4 A,Lf]
def nr(l:List AV):R8 (Pp l 0 .e) 0 l.length=some l :=
 yb rfl (λj g=>by rw[get_ofList,Ij J];simp)
def X2(l:List AV)(i:Nat)(r:List AV):List AV:=l.take i++r++l.drop (i+r.length)
def znr{l r:List AV}{i:Nat}(h:i+r.length≤l.length):(X2 l i r).length=l.length:=by
 unfold X2;simp;omega
def zi5{l r:List AV}{i:Nat}(h:i+r.length≤l.length)(g:Nat):(X2 l i r)[g]?=if i≤g∧g<i+r.length then r[g-i]? else l[g]?:=by
 have hi:(l.take i).length=i:=Ab
 unfold X2;by_cases j:g<i
 ·rw[Ii J,I0,Ic J,I4 j]
 ·by_cases z:g<i+r.length
  ·rw[Ij J,Ic Ab,Iq J,hi]
  ·rw[Ii J,Iq Ab,Lf]
   congr 1
   simp;omega
def zff{t:Tr AV}{i:Nat}{l r:List AV}(h:R8 t 0 g=some l)(j:i+r.length≤g):R8 (Pp r i t) 0 g=some (X2 l i r):=by
 obtain⟨z,A⟩:=d7 h;refine yb (by rw[znr J];exact z) (λC B=>?_);have:=A C B;rw[Jc]at this ⊢;rw[get_ofList,zi5 J,this]
def zom{t:Tr AV}{l r:List AV}(h:R8 t 0 g=some l):R8 (Pp r g t) 0 (g+r.length)=some (l++r):=by
 obtain⟨z,A⟩:=d7 h;refine yb Ab (λB C=>?_);rw[Jc,get_ofList];by_cases j:g≤B
 ·rw[Ij ⟨j,J⟩,Iq J,z]
 ·rw[Ii J,Ic J];have:=A B J
  rwa [Jc]at this
def Tz{H:Heap}{o v i n:Nat}{t:Tr AV}{l:List AV}(A:H.get o=some (.cells t j v O))(B:R8 t 0 g=some l)(D:g≤j)(z:i+n≤g):Pt H o v i n=some ((l.drop i).take n):=by
 unfold Pt;rw[A];have C:Nat.ble (Nat.add i n) j=true:=Ih (by show i+n≤j;omega);simp only[I3,C];exact zny B z
def ue{o:Nat}(h:X.get o=C.get o)(v i n:Nat):Pt X o v i n=Pt C o v i n:=by
 unfold Pt;rw[h]
def zjx{o v i n m:Nat}{l:List AV}(h:Pt C o v i n=some l)(A:g+m≤n):Pt C o v (i+g) m=some ((l.drop g).take m):=by
 unfold Pt at h ⊢;split at h
 ·rename_i t j B H I;split at h
  ·rename_i K;split at h
   ·rename_i D;have E:i+n≤j:=In D;have z:Nat.ble (Nat.add (i+g) m) j=true:=Ih (by show i+g+m≤j;omega);simp only[z];obtain⟨L,F⟩:=d7 h;refine yb Ab (λq G=>?_);have:=F (g+q) J;rw[Je,this,I4 G,Lf]
   ·cases h
  ·cases h
 ·cases h
def zdx{o v i n:Nat}{l:List AV}(h:Pt C o v i n=some l):l.length=n:=by
 unfold Pt at h;split at h
 ·split at h
  ·split at h
   ·exact (d7 h).1
   ·cases h
  ·cases h
 ·cases h
section lists
variable {c : Cx}
def ARs.length:∀{l:List LV} {r:List AV},ARs c l r→l.length=r.length
 |_,_,.nil=>rfl
 |_,_,.cons _ es=>by simp[ARs.length es]
def ARs.get:∀{l:List LV} {r:List AV},ARs c l r→∀{i:Nat} {v:LV},l[i]?=some v→∃a,r[i]?=some a∧AR c v a
 |_,_,.nil,i,v,h=>B1
 |_,_,.cons e es,0,v,h=>Dx
 |_,_,.cons e es,i+1,v,h=>by simp only[Iv]at h ⊢;exact ARs.get es h
def ARs.append:∀{l:List LV} {r:List AV} {l':List LV} {r':List AV},ARs c l r→ARs c l' r'→ARs c (l++l') (r++r')
 |_,_,_,_,.nil,k=>k
 |_,_,_,_,.cons e es,k=>.cons e (ARs.append es k)
def ARs.drop:∀{l:List LV} {r:List AV},ARs c l r→∀n,ARs c (l.drop n) (r.drop n)
 |_,_,h,0=>h
 |_,_,.nil,_+1=>.nil
 |_,_,.cons _ es,n+1=>ARs.drop es n
def ARs.take:∀{l:List LV} {r:List AV},ARs c l r→∀n,ARs c (l.take n) (r.take n)
 |_,_,_,0=>.nil
 |_,_,.nil,_+1=>.nil
 |_,_,.cons e es,n+1=>.cons e (ARs.take es n)
def ARs.lay{l r:List LV}{l' r':List AV}(h:ARs c l l')(k:ARs c r r')(i:Nat):ARs c (Nu l i r) (X2 l' i r'):=by
 unfold Nu X2;rw[k.length];exact ((h.take i).append k).append (h.drop _)
def za6{l r:List LV}{i:Nat}(h:i+r.length≤l.length):(Nu l i r).length=l.length:=by
 unfold Nu;simp;omega
def ARs.rep{z:List LV}{z':List AV}(h:ARs c z z'):∀n,ARs c (Ni z n) (Sw z' n)
 |0=>.nil
 |n+1=>h.append (ARs.rep h n)
def z6y(g:List LV):∀n,(Ni g n).length=n*g.length
 |0=>by simp[Ni]
 |n+1=>by simp[Ni,z6y g n,I5];omega
end lists
def zwc(c:Cx){v:LV}(h:v.scal=true):AR c v (toA v):=by
 cases v<;>first|(cases h;done)|(unfold toA;constructor)
def pw(c:Cx):∀{l:List LV},l.all LV.scal=true→ARs c l (toAs l)
 |[],_=>by unfold toAs;exact .nil
 |v::l,h=>by
  simp only[Kq,H9]at h;unfold toAs;exact .cons (zwc c h.1) (pw c h.2)
def aa(c:Cx){v:LV}(h:v.cst=true):AR c v (toA v):=by
 unfold LV.cst at h;split at h
 ·unfold toA;exact .fn .nil .nil
 ·unfold toA;exact .agg (pw c h)
 ·unfold toA toAs;exact .tup .nil
 ·exact zwc c h
def AR.cells{c:Cx}{v:LV}{a:AV}(h:AR c v a){l:List LV}(hl:v.cells=some l):∃l',a.cells=some l'∧ARs c l l':=by
 cases v with
 |any=>cases hl
 |tup _=>cases hl
 |agg l0=>cases hl;cases h with|agg h=>exact⟨_,rfl,h⟩
 |dy p k =>
  simp only[LV.cells,Option.some.injEq]at hl;subst hl;have h0:=h;refine⟨[a],?_,.cons h0 .nil⟩;cases h with|dy _ _ _ hs=>cases a<;>first|rfl|cases hs
 |vw p k lo len =>
  simp only[LV.cells,Option.some.injEq]at hl;subst hl;have h0:=h;refine⟨[a],?_,.cons h0 .nil⟩;cases h with|vw _ _ _ hs _=>cases a<;>first|rfl|cases hs
 |vf p k len =>
  simp only[LV.cells,Option.some.injEq]at hl;subst hl;have h0:=h;refine⟨[a],?_,.cons h0 .nil⟩;cases h with|vf _ _ _ hs=>cases a<;>first|rfl|cases hs
 |_ =>
  simp only[LV.cells,Option.some.injEq]at hl;subst hl;have h0:=h;refine⟨[a],?_,.cons h0 .nil⟩;cases h<;>rfl
def CxLe.refl(c:Cx):CxLe c c:=⟨λ_ k h e=>⟨k,h,e,If _,λ_=>rfl,λ_=>rfl⟩,λ_ h=>⟨h,rfl⟩⟩
def CxLe.trans{a b c:Cx}(h:CxLe a b)(k:CxLe b c):CxLe a c:=by
 refine⟨λp v x e=>?_,λo e=>?_⟩
 ·obtain⟨v1,x1,e1,l1,s1,f1⟩:=h.hd p v x e;obtain⟨v2,x2,e2,l2,s2,f2⟩:=k.hd p v1 x1 e1;refine⟨v2,x2,e2,I1 l1 l2,λq=>?_,λq=>?_⟩
  ·have q1:v=v1:=J
   have q2:v1=v2:=J
   rw[s1 q1,s2 q2]
  ·have q1:=f1 q;have:=s1 q1;subst this;rw[q1,f2 q]
 ·obtain⟨h1,h2⟩:=h.fz o e;obtain⟨h3,h4⟩:=k.fz o h1;exact⟨h3,h4.trans h2⟩
def CxLe.fix{c:Cx}(h:CxLe c vP){p k:Nat}{x:AV}(e:c.hd[p]?=some (k,x))(hf:Wx x=true):vP.hd[p]?=some (k,x):=by
 obtain⟨k',x',e',_,s,f⟩:=h.hd p k x e;have:=f hf;subst this;rw[s rfl];exact e'
mutual
def AR.mono{c c':Cx}(h:CxLe c c'):∀{v:LV} {a:AV},AR c v a→AR c' v a
 |_,_,.any a=>.any a
 |_,_,.bool b=>.bool b
 |_,_,.u x=>.u x
 |_,_,.b x=>.b x
 |_,_,.i n=>.i n
 |_,_,.int k n=>.int k n
 |_,_,.str l=>.str l
 |_,_,.nilPtr=>.nilPtr
 |_,_,.ptr e=>.ptr (h.fix e rfl)
 |_,_,.dptr hp hk ha=>by
  obtain⟨k2,h2,e2,l2,s2,_⟩:=h.hd _ _ _ hp;refine .dptr e2 (I1 hk l2) (λq=>?_);have q1:=ha J;rw[←s2 J];exact q1
 |_,_,.cptr hf hr hl=>.cptr (h.fz _ hf).1 (by rw[ue (h.fz _ hf).2];exact hr) (ARs.mono h hl)
 |_,_,.nilSl=>.nilSl
 |_,_,.dy hp hk ha hs=>by
  obtain⟨k2,h2,e2,l2,s2,_⟩:=h.hd _ _ _ hp;refine .dy e2 (I1 hk l2) (λq=>?_) hs;have q1:=ha J;rw[←s2 J];exact q1
 |_,_,.vw hp hk ha hs hz=>by
  obtain⟨k2,h2,e2,l2,s2,_⟩:=h.hd _ _ _ hp;refine .vw e2 (I1 hk l2) (λq=>?_) hs (λq=>?_)
  ·have q1:=ha J;rw[←s2 J];exact q1
  ·have q1:=hz J;rw[←s2 J];exact q1
 |_,_,.vf hp hk ha hs=>by
  obtain⟨k2,h2,e2,l2,s2,_⟩:=h.hd _ _ _ hp;refine .vf e2 (I1 hk l2) (λq=>?_) hs;have q1:=ha J;rw[←s2 J];exact q1
 |_,_,.lst hf gg hlen hr hl=>.lst (h.fz _ hf).1 gg hlen (by rw[ue (h.fz _ hf).2];exact hr) (ARs.mono h hl)
 |_,_,.lstNil=>.lstNil
 |_,_,.lstEmp=>.lstEmp
 |_,_,.nilMap=>.nilMap
 |_,_,.map e=>.map (h.fix e rfl)
 |_,_,.nilFn=>.nilFn
 |_,_,.fn hl hr=>.fn (ARs.mono h hl) (ARs.mono h hr)
 |_,_,.yield e=>.yield (h.fix e rfl)
 |_,_,.nilIf=>.nilIf
 |_,_,.iface e=>.iface (AR.mono h e)
 |_,_,.agg e=>.agg (ARs.mono h e)
 |_,_,.tup e=>.tup (ARs.mono h e)
def ARs.mono{c c':Cx}(h:CxLe c c'):∀{l:List LV} {r:List AV},ARs c l r→ARs c' l r
 |_,_,.nil=>.nil
 |_,_,.cons e es=>.cons (AR.mono h e) (ARs.mono h es)
end
def MRs.mono{c c':Cx}(h:CxLe c c'):∀{l:List (LV×LV×Nat)} {r:List (AV×AV×Nat)},MRs c l r→MRs c' l r
 |_,_,.nil=>.nil
 |_,_,.cons hk hv hs=>.cons (hk.mono h) (hv.mono h) (MRs.mono h hs)
def N0.mono{c c':Cx}(h:CxLe c c'){ρ:M7}{E:Tr AV}(k:N0 c ρ E):N0 c' ρ E:=λt=>(k t).mono h
def oy.mono{c c':Cx}(h:CxLe c c'){k:Nat}{x:AV}{ob:LObj}(hg:∀o,Nv x=some o→c'.H.get o=c.H.get o)(r:oy c k x ob):oy c' k x ob:=by
 cases ob with
 |dead st=>trivial
 |cells l st =>
  obtain⟨r0,o,t,l',rfl,r2,r3,r4⟩:=r;exact⟨r0,o,t,l',rfl,Df,r3,r4.mono h⟩
 |dyn l len gB gC st =>
  obtain⟨r0,r1,r2⟩:=r;refine⟨r0,r1,?_⟩;rcases r2 with r2|⟨o,v,room,t,gg,l',rfl,r3,r4,r5,r6,r7⟩
  ·exact .inl r2
  ·exact .inr ⟨o,v,room,t,gg,l',rfl,by rw[hg o rfl];exact r3,r4,r5,r6.mono h,r7⟩
 |map es ck st =>
  obtain⟨r0,o,gj,rfl,r2,r3⟩:=r;exact⟨r0,o,gj,rfl,Df,r3.mono h⟩
 |iter l pos =>
  obtain⟨r0,o,rfl,r2⟩:=r;exact⟨r0,o,rfl,Df⟩
 |loop s pend f n ρ ps a b d =>
  obtain⟨r0,o,od,E,rfl,r2,r3,r4⟩:=r;exact⟨r0,o,od,E,rfl,h.fix r2 rfl,by rw[hg o rfl];exact r3,r4.mono h⟩
 |defd op =>
  obtain⟨r0,o,rfl,r2⟩:=r;exact⟨r0,o,rfl,Df⟩
def Step.refl(c:Cx)(G:M4):Step c G c G:=by
 refine⟨.refl c,If _,λ_ _ _=>rfl,λ_ h=>.inl h,λ_ h=>.inl h,λp ob gg e1 e2=>?_,λp ob gg k h o e1 e2 _ _ _ _=>?_⟩
 ·rw[e1]at e2;cases e2;exact If _
 ·rw[e1]at e2;cases e2;exact⟨rfl,rfl,rfl⟩
def Step.trans{c c1 c2:Cx}{G G1 G2:M4}(h0:HSim c G)(h1:HSim c1 G1)(s1:Step c G c1 G1)(s2:Step c1 G1 c2 G2):Step c G c2 G2:=by
 have gB:∀p ob,G[p]?=some ob→∃gg,G1[p]?=some gg:=λp ob e=>by
  have hp:p<c.hd.length:=by rw[h0.len];exact (H7.1 e).1
  obtain⟨k,h,e3⟩:∃k h,c.hd[p]?=some (k,h):=⟨_,_,Ib hp⟩;obtain⟨k1,x1,q1,_,_,_⟩:=s1.le.hd p k h e3;have hp:p<G1.length:=by rw[←h1.len];exact (H7.1 q1).1
  exact⟨_,Ib hp⟩
 refine⟨s1.le.trans s2.le,I1 s1.nx s2.nx,λo ho hn=>?_,λo ho=>?_,λo ho=>?_,λp ob gj e1 e2=>?_,λp ob gj k h o e1 e2 e3 e4 hl he=>?_⟩
 ·rw[s2.frame o (Ix ho s1.nx) (λhc=>?_),s1.frame o ho hn];rcases s1.new o hc with h|h
  ·exact hn h
  ·omega
 ·rcases s2.new o ho with h|h
  ·exact s1.new o h
  ·exact .inr (I1 s1.nx h)
 ·rcases s2.fznew o ho with h|h|h
  ·exact s1.fznew o h
  ·rcases s1.new o h with h|h
   ·exact .inr (.inl h)
   ·exact .inr (.inr h)
  ·exact .inr (.inr (I1 s1.nx h))
 ·obtain⟨gg,q2⟩:=gB p ob e1;exact I1 (s1.mono p ob gg e1 q2) (s2.mono p gg gj q2 e2)
 ·obtain⟨gg,q2⟩:=gB p ob e1;have m1:=s1.mono p ob gg e1 q2;have m2:=s2.mono p gg gj q2 e2;obtain⟨rfl,r3,r4⟩:=s1.st p ob gg k h o e1 q2 e3 e4 hl J;obtain⟨rfl,r7,r8⟩:=s2.st p gg gj k h o q2 e2 (by rw[r4];exact e3) e4 hl J;rw[r7,r8,r3,r4];exact⟨rfl,rfl,rfl⟩
def HSim.push{c:Cx}{G:M4}(hs:HSim c G){H':Heap}{x:AV}{ob:LObj}(gE:c.H.next≤H'.next)(gD:∀o,o<c.H.next→H'.get o=c.H.get o)(gF:∀o,Nv x=some o→c.H.next≤o∧o<H'.next)
  (gI:oy ⟨c.hd++[(0,x)],c.Fz,H'⟩ 0 x ob):HSim ⟨c.hd++[(0,x)],c.Fz,H'⟩ (G++[ob])∧Step c G ⟨c.hd++[(0,x)],c.Fz,H'⟩ (G++[ob])∧CxLe c ⟨c.hd++[(0,x)],c.Fz,H'⟩:=by
 have gH:∀(p k:Nat) (h:AV),c.hd[p]?=some (k,h)→(c.hd++[(0,x)])[p]?=some (k,h):=λp k h e=>by
  rw[Ic (H7.1 e).1];exact e
 have hle:CxLe c ⟨c.hd++[(0,x)],c.Fz,H'⟩:=⟨λp k h e=>⟨k,h,gH p k h e,If _,λ_=>rfl,λ_=>rfl⟩,λo ho=>⟨ho,gD o (hs.fz o ho)⟩⟩;have hinv:∀(p:Nat) (k:Nat) (h:AV) (gg:LObj),(c.hd++[(0,x)])[p]?=some (k,h)→(G++[ob])[p]?=some gg→(c.hd[p]?=some (k,h)∧G[p]?=some gg)∨(p=G.length∧k=0∧h=x∧gg=ob):=by
  intro p k h gg e1 e2;by_cases hp:p<G.length
  ·rw[Ic hp]at e2;rw[Ic (by rw[hs.len];exact hp)]at e1;exact .inl ⟨e1,e2⟩
  ·have gK:p=G.length:=by
    have:=(H7.1 e2).1;simp at this;omega
   subst gK;rw[Ja]at e2;rw[←hs.len,Ja]at e1;cases e1;cases e2;exact .inr ⟨rfl,rfl,rfl,rfl⟩
 have gB:∀o,O9 ⟨c.hd++[(0,x)],c.Fz,H'⟩ (G++[ob]) o→O9 c G o∨(c.H.next≤o∧o<H'.next):=by
  rintro o ⟨p,gg,k,h,e1,e2,e3,e4⟩;rcases hinv p k h gg e3 e1 with ⟨q1,q2⟩|⟨_,_,rfl,_⟩
  ·exact .inl ⟨p,gg,k,h,q2,e2,q1,e4⟩
  ·exact .inr (gF o e4)
 refine⟨⟨D9,λo ho=>Ix (hs.fz o ho) gE,λo ho=>?_,λo ho hf=>?_,λp gg k h e1 e2=>?_,?_⟩,⟨hle,gE,λo ho _=>gD o ho,λo ho=>?_,λo ho=>.inl ho,λp gj gC e1 e2=>?_,λp gj gC k h o e1 e2 e3 e4 hl _=>?_⟩,hle⟩
 ·rcases gB o ho with h|h
  ·exact Ix (hs.lt o h) gE
  ·exact h.2
 ·rcases gB o ho with h|h
  ·exact hs.sep o h hf
  ·have:=hs.fz o hf;omega
 ·rcases hinv p k h gg e2 e1 with ⟨q1,q2⟩|⟨_,rfl,rfl,rfl⟩
  ·by_cases hl:gg.live=true
   ·exact (hs.obj p gg k h q2 q1).mono hle (λo ho=>gD o (hs.lt o ⟨p,gg,k,h,q2,hl,q1,ho⟩))
   ·cases gg<;>first|exact absurd rfl hl|trivial
  ·exact gI
 ·intro p q gj gC k h k' h' o e1 e2 e3 e4 e5 e6 e7 e8;rcases hinv p k h gj e5 e1 with ⟨q1,q2⟩|⟨r1,_,rfl,rfl⟩<;>rcases hinv q k' h' gC e6 e2 with ⟨q3,q4⟩|⟨r2,_,rfl,rfl⟩
  ·exact hs.excl p q gj gC k h k' h' o q2 q4 e3 e4 q1 q3 e7 e8
  ·have:=hs.lt o ⟨p,gj,k,h,q2,e3,q1,e7⟩;have:=gF o e8;omega
  ·have:=hs.lt o ⟨q,gC,k',h',q4,e4,q3,e8⟩;have:=gF o e7;omega
  ·omega
 ·rcases gB o ho with h|h
  ·exact .inl h
  ·exact .inr h.1
 ·rw[Ic (H7.1 e1).1,e1]at e2;cases e2;exact If _
 ·rw[Ic (H7.1 e1).1,e1]at e2;cases e2;have gG:gj.live=true:=by cases gj<;>first|rfl|cases hl
  exact⟨rfl,gD o (hs.lt o ⟨p,gj,k,h,e1,gG,e3,e4⟩),by rw[gH p k h e3,e3]⟩
def HSim.upd{c:Cx}{G:M4}(hs:HSim c G){p k k':Nat}{x x':AV}{ob ob':LObj}{H':Heap}(hG:G[p]?=some ob)(hl:ob.live=true)(hp:c.hd[p]?=some (k,x))(gH:c.H.next≤H'.next)
  (gG:∀o,o<c.H.next→Nv x≠some o→H'.get o=c.H.get o) (gI:∀o,Nv x'=some o→(Nv x=some o∨c.H.next≤o)∧o<H'.next)
  (hk:k≤k') (hx:k=k'→x=x') (hf:Wx x=true→k=k') (gL:ob.st<ob'.st∨(ob.stp=false∧ob.st≤ob'.st))
  (gO:CxLe c ⟨c.hd.set p (k',x'),c.Fz,H'⟩→oy ⟨c.hd.set p (k',x'),c.Fz,H'⟩ k' x' ob') :
  HSim ⟨c.hd.set p (k',x'),c.Fz,H'⟩ (G.set p ob')∧Step c G ⟨c.hd.set p (k',x'),c.Fz,H'⟩ (G.set p ob')∧CxLe c ⟨c.hd.set p (k',x'),c.Fz,H'⟩:=by
 have gM:p<c.hd.length:=(H7.1 hp).1;have gK:p<G.length:=(H7.1 hG).1;have gB:∀o,Nv x=some o→O9 c G o:=λo ho=>⟨p,ob,k,x,hG,hl,hp,ho⟩
 have hle:CxLe c ⟨c.hd.set p (k',x'),c.Fz,H'⟩:=by
  refine⟨λq k1 h1 e=>?_,λo ho=>⟨ho,gG o (hs.fz o ho) (λq=>hs.sep o (gB o q) ho)⟩⟩;by_cases hq:q=p
  ·subst hq;rw[hp]at e;cases e;exact⟨k',x',by dsimp only;rw[Ia gM],hk,hx,hf⟩
  ·exact⟨k1,h1,by dsimp only;rw[H8 (Ne.symm hq)];exact e,If _,λ_=>rfl,λ_=>rfl⟩
 have hinv:∀(q:Nat) (k1:Nat) (h1:AV) (gg:LObj),(c.hd.set p (k',x'))[q]?=some (k1,h1)→(G.set p ob')[q]?=some gg→(q≠p∧c.hd[q]?=some (k1,h1)∧G[q]?=some gg)∨(q=p∧k1=k'∧h1=x'∧gg=ob'):=by
  intro q k1 h1 gg e1 e2;by_cases hq:q=p
  ·subst hq;rw[Ia gM]at e1;rw[Ia gK]at e2;cases e1;cases e2;exact .inr ⟨rfl,rfl,rfl,rfl⟩
  ·rw[H8 (Ne.symm hq)]at e1 e2;exact .inl ⟨hq,e1,e2⟩
 have gj:∀(q:Nat) (k1:Nat) (h1:AV) (gg:LObj) (o:Nat),q≠p→c.hd[q]?=some (k1,h1)→G[q]?=some gg→gg.live=true→Nv h1=some o→Nv x≠some o:=by
  intro q k1 h1 gg o hq e1 e2 e3 e4 e5;exact hq (hs.excl q p gg ob k1 h1 k x o e2 hG e3 hl e1 hp e4 e5)
 have gE:∀o,O9 ⟨c.hd.set p (k',x'),c.Fz,H'⟩ (G.set p ob') o→(O9 c G o∧o<c.H.next)∨(c.H.next≤o∧o<H'.next):=by
  rintro o ⟨q,gg,k1,h1,e1,e2,e3,e4⟩;rcases hinv q k1 h1 gg e3 e1 with ⟨_,q1,q2⟩|⟨_,_,rfl,_⟩
  ·have:=(⟨q,gg,k1,h1,q2,e2,q1,e4⟩:O9 c G o);exact .inl ⟨this,hs.lt o this⟩
  ·obtain⟨q1,q2⟩:=gI o e4;rcases q1 with q1|q1
   ·exact .inl ⟨gB o q1,hs.lt o (gB o q1)⟩
   ·exact .inr ⟨q1,q2⟩
 refine⟨⟨D9,λo ho=>Ix (hs.fz o ho) gH,λo ho=>?_,λo ho hf=>?_,λq gg k1 h1 e1 e2=>?_,?_⟩,⟨hle,gH,λo ho hn=>gG o ho (λq=>hn (gB o q)),λo ho=>?_,λo ho=>.inl ho,λq gg gC e1 e2=>?_,λq gg gC k1 h1 o e1 e2 e3 e4 gF he=>?_⟩,hle⟩
 ·rcases gE o ho with h|h
  ·exact Ix h.2 gH
  ·exact h.2
 ·rcases gE o ho with h|h
  ·exact hs.sep o h.1 hf
  ·have:=hs.fz o hf;omega
 ·rcases hinv q k1 h1 gg e2 e1 with ⟨hq,q1,q2⟩|⟨_,rfl,rfl,rfl⟩
  ·by_cases gD:gg.live=true
   ·refine (hs.obj q gg k1 h1 q2 q1).mono hle (λo ho=>gG o (hs.lt o ⟨q,gg,k1,h1,q2,gD,q1,ho⟩) (gj q k1 h1 gg o hq q1 q2 gD ho))
   ·cases gg<;>first|exact absurd rfl gD|trivial
  ·exact gO hle
 ·intro q r gg gC k1 h1 k2 h2 o e1 e2 e3 e4 e5 e6 e7 e8;rcases hinv q k1 h1 gg e5 e1 with ⟨r0,q1,q2⟩|⟨r1,_,rfl,rfl⟩<;>rcases hinv r k2 h2 gC e6 e2 with ⟨r3,q3,q4⟩|⟨r2,_,rfl,rfl⟩
  ·exact hs.excl q r gg gC k1 h1 k2 h2 o q2 q4 e3 e4 q1 q3 e7 e8
  ·have h3:=hs.lt o ⟨q,gg,k1,h1,q2,e3,q1,e7⟩;rcases (gI o e8).1 with h|h
   ·exact absurd h (gj q k1 h1 gg o r0 q1 q2 e3 e7)
   ·omega
  ·have h3:=hs.lt o ⟨r,gC,k2,h2,q4,e4,q3,e8⟩;rcases (gI o e7).1 with h|h
   ·exact absurd h (gj r k2 h2 gC o r3 q3 q4 e4 e8)
   ·omega
  ·omega
 ·rcases gE o ho with h|h
  ·exact .inl h.1
  ·exact .inr h.1
 ·by_cases hq:q=p
  ·subst hq;rw[Ia gK]at e2;cases e2;rw[hG]at e1;cases e1;rcases gL with h|h
   ·exact Mv h
   ·exact h.2
  ·rw[H8 (Ne.symm hq),e1]at e2;cases e2;exact If _
 ·by_cases hq:q=p
  ·subst hq;rw[Ia gK]at e2;cases e2;rw[hG]at e1;cases e1;rcases gL with h|h
   ·omega
   ·rw[h.1]at gF;cases gF
  ·rw[H8 (Ne.symm hq),e1]at e2;cases e2;have gD:gg.live=true:=by cases gg<;>first|rfl|cases gF
   exact⟨rfl,gG o (hs.lt o ⟨q,gg,k1,h1,e1,gD,e3,e4⟩) (gj q k1 h1 gg o hq e3 e1 gD e4),by dsimp only;rw[H8 (Ne.symm hq)]⟩
end
section
def Wn(n:Int):T8 .u64 n=n%18446744073709551616:=by
 rw[Xj];rfl
def oz(n:Int):T8 .u8 n=n%256:=by
 rw[Xj];rfl
def Wo{n:Int}(h:Ry n):T8 .i64 n=n:=by
 rw[Xj];obtain⟨g,j⟩:=h;show (if (true&&decide (n%18446744073709551616 ≥ 9223372036854775808))=true then n%18446744073709551616-18446744073709551616 else n%18446744073709551616)=n;simp only[Kg,Il];split<;>omega
def dg(a b:Int):ji a b=decide (a=b):=by
 rw[oi,Jn];simp
def Tw(a b:Int):mw a b=decide (a<b):=ff a b
def n9(a b:Int):(!(decide (b<a)))=decide (a≤b):=by
 rw[Jn];simp
def zvc(x:UInt64):Nat.blt x.toNat (T6 .u64)=true:=by
 have:=x.toNat_lt;unfold Nat.blt;exact Ih (by show x.toNat+1≤2*9223372036854775808;omega)
def Zk(x:UInt8):Nat.blt x.toNat (T6 .u8)=true:=by
 have:=x.toNat_lt;unfold Nat.blt;exact Ih (by show x.toNat+1≤2*128;omega)
variable {c : Cx} {K : LV → Prop}
def AR.u'{x:UInt64}{n:Int}(h:n=Int.ofNat x.toNat):AR c (.u x) (.int .u64 n):=by subst h;exact .u x
def AR.b'{x:UInt8}{n:Int}(h:n=Int.ofNat x.toNat):AR c (.b x) (.int .u8 n):=by subst h;exact .b x
def AR.bool'{x y:Bool}(h:y=x):AR c (.bool x) (.bool y):=by subst h;exact .bool y
def zl3(a b:UInt64):decide (Int.ofNat a.toNat=Int.ofNat b.toNat)=decide (a=b):=by
 rw[Jn];simp only[Il];constructor
 ·intro h;exact Jj.1 (Int.ofNat.inj h)
 ·intro h;rw[h]
def zgf(a b:UInt64):decide (Int.ofNat a.toNat<Int.ofNat b.toNat)=decide (a<b):=by
 rw[Jn];simp only[Il,Kr];exact Int.ofNat_lt
def zrr(a b:UInt64):decide (Int.ofNat a.toNat≤Int.ofNat b.toNat)=decide (a≤b):=by
 rw[Jn];simp only[Il,UInt64.le_iff_toNat_le];exact Int.ofNat_le
def zru(a b:UInt8):decide (Int.ofNat a.toNat=Int.ofNat b.toNat)=decide (a=b):=by
 rw[Jn];simp only[Il];constructor
 ·intro h;exact UInt8.toNat_inj.1 (Int.ofNat.inj h)
 ·intro h;rw[h]
def zrd(a b:UInt8):decide (Int.ofNat a.toNat<Int.ofNat b.toNat)=decide (a<b):=by
 rw[Jn];simp only[Il,UInt8.lt_iff_toNat_lt];exact Int.ofNat_lt
def zr2(a b:UInt8):decide (Int.ofNat a.toNat≤Int.ofNat b.toNat)=decide (a≤b):=by
 rw[Jn];simp only[Il,UInt8.le_iff_toNat_le];exact Int.ofNat_le
def Re(c:Cx)(K:LV→Prop)(r:Option AV):Prop:=∃v a,r=some a∧AR c v a∧K v
def Re.mk{v:LV}{a:AV}(h:AR c v a)(k:K v):Re c K (some a):=⟨v,a,rfl,h,k⟩
def mv(a:UInt64)(s:Nat):T8 .u64 (.ofNat (Nat.mul a.toNat (Nat.pow 2 (Pr s (IntKind.bits .u64)))))=Int.ofNat (S4 a s).toNat:=by
 rw[Wn];have hm:Pr s (IntKind.bits .u64)=min s 64:=by
  unfold Pr;by_cases h:s≤64
  ·rw[show Nat.ble s (IntKind.bits .u64)=true from Ih h];simp[Jt h]
  ·have:Nat.ble s (IntKind.bits .u64)=false:=by
    cases g:Nat.ble s (IntKind.bits .u64) with
    |false=>rfl
    |true=>exact absurd (In g) h
   rw[this];simp only[IntKind.bits];omega
 rw[hm];rw[zqc,Js];show (Int.ofNat (a.toNat*2^min s 64))%18446744073709551616=Int.ofNat (a.toNat*2^s%2^64);by_cases h:s≤64
 ·rw[Jt h];rfl
 ·rw[Nat.min_eq_right J];have e:2^s=2^64*2^(s-64):=by rw[←Nat.pow_add];congr 1;omega
  have:a.toNat*2^s%2^64=0:=by
   rw[e,←Nat.mul_assoc,L9 a.toNat,Nat.mul_assoc,Nat.mul_mod_right]
  rw[this];have j:a.toNat*2^64%2^64=0:=Nat.mul_mod_left _ _;show Int.ofNat (a.toNat*2^64%2^64)=0;rw[j];rfl
def nv(a:UInt64)(s:Nat):Int.ofNat (Nat.div a.toNat (Nat.pow 2 (Pr s (IntKind.bits .u64))))=Int.ofNat (Py a s).toNat:=by
 have hm:Pr s (IntKind.bits .u64)=min s 64:=by
  unfold Pr;by_cases h:s≤64
  ·rw[show Nat.ble s (IntKind.bits .u64)=true from Ih h];simp[Jt h]
  ·have:Nat.ble s (IntKind.bits .u64)=false:=by
    cases j:Nat.ble s (IntKind.bits .u64) with
    |false=>rfl
    |true=>exact absurd (In j) h
   rw[this];simp only[IntKind.bits];omega
 rw[hm];rw[zq2,Js];have g:=a.toNat_lt;show Int.ofNat (a.toNat/2^min s 64)=Int.ofNat (a.toNat/2^s%2^64);have z:a.toNat/2^s%2^64=a.toNat/2^s:=J8 (Nat.lt_of_le_of_lt (Nat.div_le_self _ _) g);rw[z];by_cases h:s≤64
 ·rw[Jt h]
 ·rw[Nat.min_eq_right J,Nat.div_eq_of_lt g];rw[Nat.div_eq_of_lt (Ix g (Ll J J))]
def uk{op:BinOp}{t:TypeId}{a b:UInt64}(h:Vb op a b K):Re c K (Pd z op O t (.int .u64 (Int.ofNat a.toNat)) (.int .u64 (Int.ofNat b.toNat))):=by
 have E:Wc .u64 .u64=true:=rfl;have j:=a.toNat_lt;have g:=b.toNat_lt;cases op<;>simp only[Vb,zi6,zqh,yj,f9,ga,zxl,af,kj,zuu]at h<;>simp only[Pd,E,u7,Xm,zok,zvc]
 case add=>exact .mk (.u' (by rw[Wn,UInt64.toNat_add];rfl)) h
 case sub =>
  refine .mk (.u' ?_) h;rw[Wn,UInt64.toNat_sub];show (Int.ofNat a.toNat-Int.ofNat b.toNat)%_=((2^64-b.toNat+a.toNat)%2^64:Nat);simp only[Iw];omega
 case mul=>exact .mk (.u' (by rw[Wn,L8];rfl)) h
 case quo =>
  obtain⟨B,C⟩:=h;have D:X6 (Int.ofNat b.toNat)=false:=by
   unfold X6;cases A:Nat.beq b.toNat 0 with
   |false=>exact A
   |true=>exact absurd (Jj.1 (Ig A)) B
  simp only[D];refine .mk (.u' ?_) C;rw[Wn,UInt64.toNat_div];show (Int.tdiv (Int.ofNat a.toNat) (Int.ofNat b.toNat))%_=Int.ofNat (a.toNat/b.toNat);have:Int.tdiv (Int.ofNat a.toNat) (Int.ofNat b.toNat)=Int.ofNat (a.toNat/b.toNat):=rfl;rw[this];exact Kd (Jq _) (by have:=Nat.div_le_self a.toNat b.toNat;simp only[Iw];omega)
 case rem =>
  obtain⟨B,C⟩:=h;have D:X6 (Int.ofNat b.toNat)=false:=by
   unfold X6;cases A:Nat.beq b.toNat 0 with
   |false=>exact A
   |true=>exact absurd (Jj.1 (Ig A)) B
  simp only[D];exact .mk (.u' (by rw[UInt64.toNat_mod];rfl)) C
 case and =>
  refine .mk (.u' ?_) h;rw[Wn,UInt64.toNat_and];have:a.toNat &&& b.toNat<2^64:=Nat.and_lt_two_pow _ g;exact Kd (Jq _) Dk
 case or =>
  refine .mk (.u' ?_) h;rw[Wn,UInt64.toNat_or];have:a.toNat ||| b.toNat<2^64:=Nat.or_lt_two_pow j g
  exact Kd (Jq _) Di
 case xor =>
  refine .mk (.u' ?_) h;rw[Wn,UInt64.toNat_xor];have:a.toNat ^^^ b.toNat<2^64:=Nat.xor_lt_two_pow j g;exact Kd (Jq _) (by show Int.ofNat (a.toNat ^^^ b.toNat)<_;simp only[Iw];omega)
 case andNot =>
  refine .mk (.u' ?_) h;have e:Nat.xor a.toNat (Nat.land a.toNat b.toNat)=(a &&& ~~~b).toNat:=by
   show a.toNat ^^^ (a.toNat &&& b.toNat)=_;rw[UInt64.toNat_and,UInt64.toNat_not];refine Nat.eq_of_testBit_eq λi=>?_
   rw[Nat.testBit_xor,Nat.testBit_and,Nat.testBit_and];have:(UInt64.size-1-b.toNat).testBit i=(decide (i<64) && !b.toNat.testBit i):=by
    have:=Nat.testBit_two_pow_sub_succ g i;rw[show UInt64.size-1-b.toNat=2^64-(b.toNat+1) from by show 18446744073709551616-1-b.toNat=_;omega,this]
   rw[this];by_cases hi:i<64
   ·simp[hi];cases a.toNat.testBit i<;>cases b.toNat.testBit i<;>rfl
   ·have:a.toNat.testBit i=false:=Nat.testBit_lt_two_pow (Ix j (Ll J J));simp[this]
  rw[e,Wn];exact Kd (Jq _) (by have:=(a &&& ~~~b).toNat_lt;simp only[Iw];omega)
 case shl=>exact .mk (.u' (mv a b.toNat)) h
 case shr=>exact .mk (.u' (nv a b.toNat)) h
 case eql=>exact .mk (.bool' (by rw[dg,zl3])) h
 case neq=>exact .mk (.bool' (by rw[dg,zl3];simp)) h
 case lss=>exact .mk (.bool' (by rw[Tw,zgf])) h
 case leq=>exact .mk (.bool' (by rw[Tw,n9,zrr])) h
 case gtr=>exact .mk (.bool' (by rw[Tw,zgf])) h
 case geq=>exact .mk (.bool' (by rw[Tw,n9,zrr])) h
def vx{op:BinOp}{t:TypeId}{a b:UInt8}(h:bbL op a b K):Re c K (Pd z op O t (.int .u8 (Int.ofNat a.toNat)) (.int .u8 (Int.ofNat b.toNat))):=by
 have A:Wc .u8 .u8=true:=rfl;have j:=a.toNat_lt;have g:=b.toNat_lt;cases op<;>simp only[bbL,lp,ir,kl,vo]at h<;>simp only[Pd,A,u7,Xm,Zk]
 case add=>exact .mk (.b' (by rw[oz,UInt8.toNat_add];rfl)) h
 case sub =>
  refine .mk (.b' ?_) h;rw[oz,UInt8.toNat_sub];show (Int.ofNat a.toNat-Int.ofNat b.toNat)%_=((2^8-b.toNat+a.toNat)%2^8:Nat);simp only[Iw];omega
 case and =>
  refine .mk (.b' ?_) h;rw[oz,UInt8.toNat_and];have:a.toNat &&& b.toNat<2^8:=Nat.and_lt_two_pow _ g;exact Kd (Jq _) Dk
 case or =>
  refine .mk (.b' ?_) h;rw[oz,UInt8.toNat_or];have:a.toNat ||| b.toNat<2^8:=Nat.or_lt_two_pow j g
  exact Kd (Jq _) Di
 case eql=>exact .mk (.bool' (by rw[dg,zru])) h
 case neq=>exact .mk (.bool' (by rw[dg,zru];simp)) h
 case lss=>exact .mk (.bool' (by rw[Tw,zrd])) h
 case leq=>exact .mk (.bool' (by rw[Tw,n9,zr2])) h
 case gtr=>exact .mk (.bool' (by rw[Tw,zrd])) h
 case geq=>exact .mk (.bool' (by rw[Tw,n9,zr2])) h
def AR.i'{x n:Int}(h:n=x):AR c (.i x) (.int .i64 n):=by subst h;exact .i n
def zof{b:Int}(h:b≠0):X6 b=false:=by
 unfold X6;split
 ·rename_i n;cases g:Nat.beq n 0 with
  |false=>rfl
  |true=>exact absurd (by rw[Ig g];rfl) h
 ·rfl
def zll{t:TypeId}{a:Int}{k:IntKind}{s:Int}(g:0≤a)(j:0≤s)(A:s≤64) :
  Pd z .shl O t (.int .i64 a) (.int k s)=some (.int .i64 (T8 .i64 (a*2^s.toNat)))∧Pd z .shr O t (.int .i64 a) (.int k s)=some (.int .i64 (a/2^s.toNat)):=by
 obtain⟨x,rfl⟩:=Ir g;obtain⟨y,rfl⟩:=Ir j;have hm:Pr y (IntKind.bits .i64)=y:=by
  unfold Pr;rw[show Nat.ble y (IntKind.bits .i64)=true from Ih (by simp only[IntKind.bits];omega)]
 constructor
 ·show some (AV.int .i64 (T8 .i64 (.ofNat (Nat.mul x (Nat.pow 2 (Pr y (IntKind.bits .i64)))))))=_;rw[hm]
  congr 3
 ·show some (AV.int .i64 (.ofNat (Nat.div x (Nat.pow 2 (Pr y (IntKind.bits .i64))))))=_;rw[hm]
  congr 2
def uq{op:BinOp}{t:TypeId}{a b:Int}(h:U3 op a b K):Re c K (Pd z op O t (.int .i64 a) (.int .i64 b)):=by
 have G:Wc .i64 .i64=true:=rfl;cases op<;>simp only[U3]at h
 case shl =>
  obtain⟨g,B,j,C,A⟩:=h;rw[(zll g B j).1,Wo C];exact .mk (.i _) A
 case shr =>
  obtain⟨g,B,j,A⟩:=h;rw[(zll g B j).2];exact .mk (.i _) A
 all_goals simp only[Pd,G,u7]
 case and =>
  obtain⟨g,B,j,C,A⟩:=h;obtain⟨x,rfl⟩:=Ir g;obtain⟨y,rfl⟩:=Ir j;have D:Nat.blt x (T6 .i64)=true:=by unfold Nat.blt;exact Ih F1
  have E:Nat.blt y (T6 .i64)=true:=by unfold Nat.blt;exact Ih F0
  have F:x &&& y<2^63:=Nat.and_lt_two_pow _ J;show Re c K (Xm Nat.land .i64 (.ofNat x) (.ofNat y));simp only[Xm,D,E];exact .mk (.i' (Wo ⟨Cl,Fy⟩)) A
 case or =>
  obtain⟨g,B,j,C,A⟩:=h;obtain⟨x,rfl⟩:=Ir g;obtain⟨y,rfl⟩:=Ir j;have D:Nat.blt x (T6 .i64)=true:=by unfold Nat.blt;exact Ih F1
  have E:Nat.blt y (T6 .i64)=true:=by unfold Nat.blt;exact Ih F0
  have F:x ||| y<2^63:=Nat.or_lt_two_pow J J
  show Re c K (Xm Nat.lor .i64 (.ofNat x) (.ofNat y));simp only[Xm,D,E];exact .mk (.i' (Wo ⟨Cl,Fy⟩)) A
 case add=>exact .mk (.i' (Wo h.1)) h.2
 case sub=>exact .mk (.i' (Wo h.1)) h.2
 case mul=>exact .mk (.i' (Wo h.1)) h.2
 case quo=>rw[zof h.1];exact .mk (.i' (Wo h.2.1)) h.2.2
 case rem=>rw[zof h.1];exact .mk (.i _) h.2
 case eql=>exact .mk (.bool' (by rw[dg])) h
 case neq=>exact .mk (.bool' (by rw[dg];simp)) h
 case lss=>exact .mk (.bool' (by rw[Tw])) h
 case leq=>exact .mk (.bool' (by rw[Tw,n9])) h
 case gtr=>exact .mk (.bool' (by rw[Tw])) h
 case geq=>exact .mk (.bool' (by rw[Tw,n9])) h
def ul{op:BinOp}{t:TypeId}{k:IntKind}{a b:Int}(h:kkL op a b K):Re c K (Pd z op O t (.int k a) (.int k b)):=by
 have g:Wc k k=true:=by cases k<;>rfl
 cases op<;>simp only[kkL]at h<;>simp only[Pd,g,u7]
 case eql=>exact .mk (.bool' (by rw[dg])) h
 case neq=>exact .mk (.bool' (by rw[dg];simp)) h
 case lss=>exact .mk (.bool' (by rw[Tw])) h
 case leq=>exact .mk (.bool' (by rw[Tw,n9])) h
 case gtr=>exact .mk (.bool' (by rw[Tw])) h
 case geq=>exact .mk (.bool' (by rw[Tw,n9])) h
def zwk(a b:List UInt8):(Nat.beq a.length b.length&&Nat.beq (Oy a) (Oy b))=decide (a=b):=by
 rw[Jn];simp only[H9,Il];constructor
 ·rintro⟨g,j⟩;exact packL_inj (Ig g) (Ig j)
 ·intro h;subst h;simp
def AR.str'{l:List UInt8}{n m:Nat}(h1:n=l.length)(h2:m=Oy l):AR c (.str l) (.str n m):=by subst h1 h2;exact .str l
def vh{op:BinOp}{t:TypeId}{a b:List UInt8}(h:zr op a b K):Re c K (Pd z op O t (.str a.length (Oy a)) (.str b.length (Oy b))):=by
 cases op<;>simp only[zr]at h<;>simp only[Pd,yq]
 case add =>
  have g:Nat.ble (Nat.add a.length b.length) Nm=true:=Ih h.1;simp only[g];refine .mk (.str' N ?_) h.2;rw[packL_append];rfl
 case eql=>exact .mk (.bool' (zwk a b)) h
 case neq=>exact .mk (.bool' (by rw[zwk];simp)) h
def zp6{op:BinOp}{t:TypeId}{a b:AV}{r:Bool}(g:Pd z op O t a b=match op with | .eql=>qj (Q9 z O t a b) | .neq=>tn (Q9 z O t a b)|_=>none)(h:Wr z op O t a b r K):Re c K (Pd z op O t a b):=by
 rw[g];cases op<;>simp only[Wr]at h
 case eql=>rw[h.1];exact .mk (.bool _) h.2
 case neq=>rw[h.1];exact .mk (.bool _) h.2
end
section
noncomputable def ρA(g:Tr AV):Zr:=λt=>M8 (Nh t) g
def zkx(g:Tr AV):T7 g (ρA g):=λ_ _=>rfl
def Ol{c:Cx}{j:M7}(g:N0 c j L){x:Lx}(h:x.ok=true):AR c (x.ev j) (x.r.ev (ρA L)):=by
 cases x with
 |t i=>exact g i
 |c v=>exact aa c h
def zsj{c:Cx}{j:M7}{z:Tr AV}(g:N0 c j z):∀{l:List Lx},l.all Lx.ok=true→ARs c (l.map (·.ev j)) ((ib l).map (·.ev (ρA z)))
 |[],_=>.nil
 |x::l,h=>by
  simp only[Kq,H9]at h;exact .cons (Ol g h.1) (zsj g h.2)
def fa:Option Lx→Bool
 |none=>true
 |some x=>x.ok
def LOp.ok:LOp→Bool
 |.move x=>x.ok
 |.pick c a b=>c.ok&&a.ok&&b.ok
 |.alloc l=>l.all LV.scal
 |.box x=>x.ok
 |.build cs ps=>cs.all LV.scal&&ps.all (·.2.2.ok)
 |.buildSl _ _ cs ps=>cs.all LV.scal&&ps.all (·.2.2.ok)
 |.load1 x=>x.ok
 |.loadN _ x=>x.ok
 |.store _ x y=>x.ok&&y.ok
 |.nilChk x=>x.ok
 |.bin _ _ _ x y=>x.ok&&y.ok
 |.un _ x=>x.ok
 |.cvInt _ x=>x.ok
 |.cvStr x=>x.ok
 |.cvSame x=>x.ok
 |.cvBytes x=>x.ok
 |.mkFunc _ a b=>a.all Lx.ok&&b.all Lx.ok
 |.mkSl _ z l c=>z.all LV.scal&&l.ok&&c.ok
 |.slStr x lo hi=>x.ok&&fa lo&&fa hi
 |.slSl _ x lo hi=>x.ok&&fa lo&&fa hi
 |.slSl3 _ x lo hi mx=>x.ok&&fa lo&&fa hi&&mx.ok
 |.fieldAddr _ x=>x.ok
 |.field _ _ _ x=>x.ok
 |.ixAddr _ x i=>x.ok&&i.ok
 |.ixStr x i=>x.ok&&i.ok
 |.extract _ x=>x.ok
 |.lenStr x=>x.ok
 |.lenSl x=>x.ok
 |.maxi _ x y=>x.ok&&y.ok
 |.max3 _ x y z=>x.ok&&y.ok&&z.ok
 |.ixAddrArr _ _ x i=>x.ok&&i.ok
 |.ixArr _ _ _ x i=>x.ok&&i.ok
 |.lenArr _ x=>x.ok
 |.appZ _ z s x=>z.all LV.scal&&s.ok&&x.ok
 |.appG _ s x=>s.ok&&x.ok
 |.copy _ d x=>d.ok&&x.ok
 |.clear _ z x=>z.all LV.scal&&x.ok
 |.mkMap0=>true
 |.mkMap1 x=>x.ok
 |.lookup _ z _ x i=>z.cst&&x.ok&&i.ok
 |.mapUpd _ m k v=>m.ok&&k.ok&&v.ok
 |.lenMap x=>x.ok
 |.slArr _ _ x lo hi=>x.ok&&fa lo&&fa hi
 |.callV f args=>f.ok&&args.all Lx.ok
def Rn(P:Program)(c:Cx)(G:M4)(K:LV→M4→Prop):OR→Prop
 |.no=>False
 |.val B C=>∃z v A,z.H=C∧HSim z A∧Step c G z A∧AR z v B∧K v A
 |.call D j=>∃t g,uv c t D∧ARs c g j∧Qa P t g G K
section res
variable {P : Program} {c : Cx} {G : M4} {K : LV → M4 → Prop}
def Rn.same(hs:HSim c G){v:LV}{a:AV}(h:AR c v a)(k:K v G):Rn P c G K (.val a c.H):=⟨c,v,G,rfl,hs,.refl c G,h,k⟩
def Rn.ret(hs:HSim c G){r:Option AV}(h:Re c (λv=>K v G) r):Rn P c G K (ret1 c.H r):=by
 obtain⟨v,a,rfl,h1,h2⟩:=h;exact .same hs h1 h2
def zdn(c:Cx)(g:List AV) :
  ∃H',newObj c.H g=some (c.H.next,H')∧H'.next=c.H.next+1∧(∀o,o<c.H.next→H'.get o=c.H.get o)∧H'.get c.H.next=some (.cells (Pp g 0 .e) g.length 0 false) :=
 ⟨_,rfl,rfl,λ_ j=>Heap.get_push_ne _ _ j,Heap.get_push_same _ _⟩
def zk2(g:HSim c G){l:List LV}(h:ARs c l M)(k:K (.ptr G.length 0) (G++[.cells l 0])):Rn P c G K (Vm c.H M):=by
 obtain⟨z,C,H,A,D⟩:=zdn c M;unfold Vm;rw[C];have j:CxLe c ⟨c.hd++[(0,.ptr c.H.next 0 0)],c.Fz,z⟩:=⟨λp k x e=>⟨k,x,Ec,If _,λ_=>rfl,λ_=>rfl⟩,λo B=>⟨B,A o (g.fz o B)⟩⟩;obtain⟨E,F,_⟩:=g.push (H':=z) (x:=.ptr c.H.next 0 0) (ob:=.cells l 0) J A (λo e=>by cases e;omega)
  ⟨rfl,c.H.next,_,M,rfl,by rw[h.length];exact D,by rw[h.length];exact nr M,h.mono j⟩
 exact⟨_,.ptr G.length 0,_,rfl,E,F,.ptr (by rw[←g.len];exact Ja),k⟩
def gr(j:HSim c G){l:List LV}{len esz:Nat}{room:Option Nat}(h:ARs c l M)(A:l.length=len*esz)(D:∀r,room=some r→r=len)(k:K (.dy G.length 0) (G++[.dyn l len esz 0 0])) :
  Rn P c G K (match newObj c.H M with
   |some (o,H')=>.val (.sl o 0 0 len esz room) H'
   |none=>.no):=by
 obtain⟨H',E,L,B,F⟩:=zdn c M;rw[E];have z:CxLe c ⟨c.hd++[(0,.sl c.H.next 0 0 len esz room)],c.Fz,H'⟩:=⟨λp k x e=>⟨k,x,Ec,If _,λ_=>rfl,λ_=>rfl⟩,λo C=>⟨C,B o (j.fz o C)⟩⟩;have g:M.length=len*esz:=by rw[←h.length];exact A
 obtain⟨H,I,_⟩:=j.push (H':=H') (x:=.sl c.H.next 0 0 len esz room) (ob:=.dyn l len esz 0 0) J B (λo e=>by cases e;omega)
  ⟨rfl,A,.inr ⟨c.H.next,0,room,_,M.length,M,rfl,F,J,by rw[←g];exact nr M,h.mono z,λr e=>by rw[D r e];exact⟨g,If _⟩,λ_=>g⟩⟩
 exact⟨_,.dy G.length 0,_,rfl,H,I,.dy (h:=.sl c.H.next 0 0 len esz room) (by rw[←j.len];exact Ja) (If _) (λ_=>rfl) rfl,k⟩
def zl1(z:HSim c G){p o st:Nat}{l:List LV}(A:G[p]?=some (.cells l st))(e:c.hd[p]?=some (0,.ptr o 0 0)) :
  ∃t g,c.H.get o=some (.cells t l.length 0 false)∧R8 t 0 l.length=some g∧ARs c l g:=by
 obtain⟨_,E,t,g,j,B,C,D⟩:=z.obj p _ _ _ A e;injection j with j
 subst j;exact⟨t,g,B,C,D⟩
def Xq(E:HSim c G){p k o v len esz st:Nat}{room:Option Nat}{l:List LV}(F:G[p]?=some (.dyn l len esz B st))(e:c.hd[p]?=some (k,.sl o v 0 g j room)) :
  k=B∧l.length=len*esz∧g=len∧j=esz∧∃t z A,c.H.get o=some (.cells t z v false)∧len*esz≤z∧R8 t 0 (len*esz)=some A∧ARs c l A ∧
   (∀r,room=some r→z=r*esz∧len≤r)∧(room=none→z=len*esz):=by
 obtain⟨H,I,C⟩:=E.obj p _ _ _ F e;rcases C with ⟨C,_⟩|⟨o',v',D,t,z,A,L,M,O,Q,R,S,T⟩
 ·cases C
 ·injection L with U V e3 X Y Z
  subst U V X Y Z;exact⟨H,I,rfl,rfl,t,z,A,M,O,Q,R,S,T⟩
def zlv(B:HSim c G){x:LV}{a:AV}{n:Nat}{K:List LV→Prop}(C:AR c x a)(h:Va G x n K):∃o v i j l,a=.ptr o v i∧Pt c.H o v i n=some j∧ARs c l j∧K l:=by
 unfold Va at h;split at h
 ·rename_i p i;split at h
  ·rename_i l st z;obtain⟨A,g⟩:=h;cases C with
   | @ptr _ _ o e =>
    obtain⟨t,j,O,D,E⟩:=zl1 B z e;exact⟨o,0,i,_,_,rfl,Tz O D (If _) A,(E.drop i).take n,g⟩
  ·exact h.elim
 ·rename_i p k i;split at h
  ·rename_i l len Q R st z;obtain⟨S,A,g⟩:=h;cases C with
   | @dptr _ _ _ k' o v gg hh e hk T =>
    have U:=(B.obj p _ _ _ z e).1;obtain⟨V,I,L,F,H⟩:=T J;subst H V;obtain⟨_,r1,_,_,t,M,j,D,E,X,Y,_⟩:=Xq B z e;exact⟨o,v,gg,_,_,rfl,Tz D X E J,(Y.drop gg).take n,g⟩
  ·exact h.elim
 ·rename_i l i;obtain⟨A,g⟩:=h;cases C with
  |cptr hf Z hl=>exact⟨_,_,_,_,_,rfl,zjx Z A,(hl.drop i).take n,g⟩
 ·exact h.elim
def zrp(B:HSim c G){x:LV}{a:AV}{K:LV→Prop}(C:AR c x a)(h:Vn G x K):∃o v i w b,a=.ptr o v i∧Pt c.H o v i 1=some [b]∧AR c w b∧K w:=by
 have g:∀{l:List LV} {i:Nat} {v:LV},l[i]?=some v→i+1≤l.length∧(l.drop i).take 1=[v]:=λ{l i v} e=>by
  obtain⟨j,z⟩:=H7.1 e;refine⟨j,?_⟩;rw[Iz j,z];simp
 have A:Va G x 1 (λl=>∃v,l=[v]∧K v):=by
  unfold Vn at h;unfold Va;split at h
  ·split at h
   ·obtain⟨v,j,z⟩:=h;exact⟨(g j).1,v,(g j).2,z⟩
   ·exact h.elim
  ·split at h
   ·obtain⟨D,v,j,z⟩:=h;exact⟨D,(g j).1,v,(g j).2,z⟩
   ·exact h.elim
  ·obtain⟨v,j,z⟩:=h;exact⟨(g j).1,v,(g j).2,z⟩
  ·exact h.elim
 obtain⟨o,v,i,M,l,E,F,H,w,rfl,I⟩:=zlv B C A;cases H with
 |cons e L=>cases L;exact⟨o,v,i,w,_,E,F,e,I⟩
def zjo{o v i:Nat}{t:Tr AV}{l r:List AV}(z:C.get o=some (.cells t j v false))(_:R8 t 0 g=some l)(D:g≤j)(A:i+r.length≤g) :
  Up C o v i r=some (C.put o (.cells (Pp r i t) j v false)):=by
 unfold Up;rw[z];have B:Nat.ble (Nat.add i r.length) j=true:=Ih (by show i+r.length≤j;omega);simp only[I3,B]
def zrv{g:Type}:∀{l:List g} {p:Nat} {a:g},l[p]?=some a→l.set p a=l
 |[],_,_,h=>B1
 |x::l,0,a,h=>by simp at h;subst h;rfl
 |x::l,p+1,a,h=>by simp at h;simp[zrv h]
def zao(C:HSim c G){x:LV}{a:AV}{l:List LV}{K:M4→Prop}(hx:AR c x a)(Q:ARs c l M)(h:Uk G x l K) :
  ∃o v i H' R S,a=.ptr o v i∧Up c.H o v i M=some H'∧R.H=H'∧HSim R S∧Step c G R S∧K S:=by
 have gE:=Q.length;unfold Uk at h;split at h
 ·rename_i p i;split at h
  ·rename_i H st g;obtain⟨I,T⟩:=h;cases hx with
   | @ptr _ _ o e =>
    obtain⟨t,D,r2,L,O⟩:=zl1 C g e;have hw:=zjo (i:=i) (r:=M) r2 L (If _) J;obtain⟨U,V,_⟩:=C.upd (k':=0) (x':=.ptr o 0 0) (ob':=.cells (Nu H i l) (st+1)) (H':=c.H.put o (.cells (Pp M i t) H.length 0 false)) g rfl e (If _)
     (λX _ E=>Heap.get_put_ne _ _ (λq=>E C5)) (λX Y=>by cases Y;exact⟨.inl rfl,C.lt o ⟨p,_,_,_,g,rfl,e,rfl⟩⟩) (If _) (λ_=>rfl) (λ_=>rfl) (.inl (I9 _))
     (λF=>⟨rfl,o,_,X2 D i M,rfl,by rw[za6 I];exact Heap.get_put_same _ _ _,by rw[za6 I];exact zff L J,(O.lay Q i).mono F⟩)
    exact⟨o,0,i,_,_,_,rfl,hw,rfl,U,V,T⟩
  ·exact h.elim
 ·rename_i p k i;split at h
  ·rename_i H len gF Z st g;obtain⟨gG,I,T⟩:=h;cases hx with
   | @dptr _ _ _ k' o v gD hh e hk ha =>
    have gH:=(C.obj p _ _ _ g e).1;obtain⟨hj,j,z,A,gg⟩:=ha J;subst gg hj;obtain⟨gj,r1,gB,gC,t,B,D,L,O,r5,r6,r7,r8⟩:=Xq C g e;subst gB gC;have hw:=zjo (i:=gD) (r:=M) L r5 O J;obtain⟨U,V,_⟩:=C.upd (k':=k') (x':=.sl o v 0 j z A) (ob':=.dyn (Nu H gD l) j z Z (st+1)) (H':=c.H.put o (.cells (Pp M gD t) B v false)) g rfl e (If _)
     (λX _ E=>Heap.get_put_ne _ _ (λq=>E C5)) (λX Y=>by cases Y;exact⟨.inl rfl,C.lt _ ⟨p,_,_,_,g,rfl,e,rfl⟩⟩) (If _) (λ_=>rfl) (λ_=>rfl) (.inl (I9 _))
     (λF=>⟨gj,by rw[za6 I];exact r1,.inr ⟨o,v,A,_,B,X2 D gD M,rfl,Heap.get_put_same _ _ _,O,zff r5 J,(r6.lay Q gD).mono F,r7,r8⟩⟩)
    exact⟨o,v,gD,_,_,_,rfl,hw,rfl,U,V,T⟩
  ·exact h.elim
 ·exact h.elim
def jm(I:HSim c G){x:LV}{a:AV}{K:Nat→Prop}(A:AR c x a)(h:lenL G x K):∃n,K n∧(a=.nilSl∧n=0∨a=.emp∧n=0∨∃o v i esz room,a=.sl o v i n esz room):=by
 unfold lenL at h;split at h
 ·cases A;exact⟨0,h,.inl ⟨rfl,rfl⟩⟩
 ·rename_i p k;split at h
  ·rename_i l len esz C st D;obtain⟨E,h⟩:=h;cases A with
   | @dy _ _ R S _ e T F _ =>
    obtain⟨U,V,g⟩:=I.obj p _ _ _ D e;have j:=F J;rcases g with ⟨g,B⟩|⟨o,v,room,t,L,X,g,_⟩
    ·exact⟨len,h,.inl ⟨j.trans g,B⟩⟩
    ·exact⟨len,h,.inr (.inr ⟨_,_,_,_,_,j.trans g⟩)⟩
  ·exact h.elim
 ·rename_i p k Y len;split at h
  ·rename_i l M esz C st D;obtain⟨E,h⟩:=h;cases A with
   | @vw _ _ _ _ R S _ e T F _ _ =>
    obtain⟨U,V,g⟩:=I.obj p _ _ _ D e;rcases F J with ⟨B,z|z⟩|⟨o,v,O,Q,room,H,_,z,_⟩
    ·exact⟨len,h,.inl ⟨z,B⟩⟩
    ·exact⟨len,h,.inr (.inl ⟨z.1,B⟩)⟩
    ·exact⟨len,h,.inr (.inr ⟨_,_,_,_,_,z⟩)⟩
  ·exact h.elim
 ·cases A with
  |lst=>exact⟨_,h,.inr (.inr ⟨_,_,_,_,_,rfl⟩)⟩
  |lstNil=>exact⟨0,h,.inl ⟨rfl,rfl⟩⟩
  |lstEmp=>exact⟨0,h,.inr (.inl ⟨rfl,rfl⟩)⟩
 ·exact h.elim
def zol(l:List UInt8)(c:Cx):ARs c (l.map LV.b) ((Ur l.length (Oy l)).map λ(b:Nat)=>AV.int .u8 (Int.ofNat b)):=by
 rw[unpack_pack]
 induction l with
 |nil=>exact .nil
 |cons b l g=>exact .cons (.b b) g
def zwi(R:HSim c G){x:LV}{a:AV}{K:Nat→List LV→Prop}(D:AR c x a)(h:R3 G g x K):∃n l C,Zg c.H g a=some (n,C)∧ARs c l C∧l.length=n*g∧K n l:=by
 have A:Nat.beq g g=true:=I3 _;unfold R3 at h;split at h
 ·cases D;exact⟨0,[],[],rfl,.nil,N,h⟩
 ·rename_i p k;split at h
  ·rename_i l len z S st Q;obtain⟨T,rfl,h⟩:=h;cases D with
   | @dy _ _ k' hh _ e hk U _ =>
    obtain⟨r0,V,E⟩:=R.obj p _ _ _ Q e;have F:=U J;rcases E with ⟨E,B⟩|⟨o,v,H,t,I,C,E,B,L,r5,Z,_⟩
    ·subst B;have:l=[]:=Is (by simpa using V);subst this;exact⟨0,[],[],by rw[F,E];rfl,.nil,N,h⟩
    ·refine⟨len,l,C,?_,Z,V,h⟩;have M:=Tz (i:=0) (n:=len*z) B r5 L J;have X:C.length=len*z:=by rw[←Z.length];exact V
     rw[F,E];simp only[Zg,A];rw[show Nat.mul len z=len*z from rfl,M];simp[Io,X]
  ·exact h.elim
 ·rename_i p k lo len;split at h
  ·rename_i l gg z S st Q;obtain⟨T,rfl,h1,h⟩:=h;cases D with
   | @vw _ _ _ _ k' hh _ e hk U _ _ =>
    have gB:=(R.obj p _ _ _ Q e).1;rcases U J with ⟨B,L⟩|⟨o,v,gj,j,H,Y,B,L,_⟩
    ·subst B;refine⟨0,_,[],?_,by simpa using (ARs.nil (c:=c)),N,h⟩;rcases L with rfl|⟨rfl,_⟩<;>rfl
    ·subst B;obtain⟨_,q1,q2,q3,t,I,C,q4,q5,q6,q7,_⟩:=Xq R Q e;subst q2 q3;have M:=Tz (i:=lo*j) (n:=len*j) q4 q6 q5 J;refine⟨len,_,_,?_,(q7.drop (lo*j)).take (len*j),Ab,h⟩;rw[L];simp only[Zg,A];rw[show Nat.mul len j=len*j from rfl,M]
  ·exact h.elim
 ·rename_i l len z;obtain⟨rfl,h⟩:=h;cases D with
  |lst hf gC O M hl =>
   refine⟨len,l,_,?_,hl,O,h⟩;simp only[Zg,A];rw[show Nat.mul len z=len*z from rfl,M]
  |lstNil=>exact⟨0,[],[],rfl,.nil,N,h⟩
  |lstEmp=>exact⟨0,[],[],rfl,.nil,N,h⟩
 ·rename_i l;obtain⟨rfl,h⟩:=h;cases D;refine⟨l.length,_,_,?_,zol l c,N,h⟩;simp[Zg]
 ·exact h.elim
end res
end
section
section res
variable {P : Program} {c : Cx} {G : M4} {K : LV → M4 → Prop}
def ztd(j:HSim c G)(k:K (.dy G.length 0) (G++[.dyn [] 0 g 0 0])):Rn P c G K (.val .nilSl c.H):=by
 obtain⟨z,A,_⟩:=j.push (H':=c.H) (x:=.nilSl) (ob:=.dyn [] 0 g 0 0) (If _) (λ_ _=>rfl) (λo e=>Aq) ⟨rfl,N,.inl ⟨rfl,rfl⟩⟩;exact⟨⟨c.hd++[(0,.nilSl)],c.Fz,c.H⟩,.dy G.length 0,_,rfl,z,A,.dy (h:=.nilSl) (by rw[←j.len];exact Ja) (If _) (λ_=>rfl) rfl,k⟩
def zre(hs:HSim c G){p k:Nat}{a:AV}{n:Nat}(ha:AR c (.dy p k) a)(hn:ARs c D M)(hl:D.length=n*g)(h:O2 G g (.dy p k) n D K):Rn P c G K (Vc c.H g a n M):=by
 have R:=hn.length;unfold O2 at h;dsimp only at h;split at h
 ·rename_i l len j Y st hg;obtain⟨gZ,⟨rfl,gC⟩,gD,h⟩:=h;have gO:p<c.hd.length:=by rw[hs.len];exact (H7.1 hg).1
  cases ha with
  | @dy _ _ k' V _ e hk gP gQ =>
   obtain⟨r0,r1,A⟩:=hs.obj p _ _ _ hg e;have Z:=gP J;have F:∀{H':Heap} {x':AV},c.H.next≤H'.next→(∀o,o<c.H.next→Nv V≠some o→H'.get o=c.H.get o)→(∀o,Nv x'=some o→(Nv V=some o∨c.H.next≤o)∧o<H'.next)→kc x'=true→Wx V=false →
     (CxLe c ⟨c.hd.set p (k'+1,x'),c.Fz,H'⟩→oy ⟨c.hd.set p (k'+1,x'),c.Fz,H'⟩ (k'+1) x' (.dyn (l++D) (len+n) j (Y+1) (st+1)))→Rn P c G K (.val x' H'):=by
    intro H' x' h1 h2 h3 h4 h5 h6;obtain⟨q1,q2,_⟩:=hs.upd (k':=k'+1) (x':=x') (ob':=.dyn (l++D) (len+n) j (Y+1) (st+1)) (H':=H') hg rfl e h1 h2 h3 (K4 _) (λq=>J) (λq=>by rw[h5]at q;cases q) (.inl (I9 _)) h6;exact⟨_,.dy p (Y+1),_,rfl,q1,q2,.dy (k':=k'+1) (h:=x') (by dsimp only;rw[Ia gO]) J (λ_=>rfl) h4,h⟩
   have C:(l++D).length=(len+n)*j:=by rw[Im,r1,hl,I5]
   unfold Vc;cases hb:Nat.beq n 0 with
   |true =>
    have gE:=Ig hb;subst gE;have gF:D=[]:=Is (by simpa using hl);subst gF;have gG:Wx V=false:=by
     rcases A with ⟨A,_⟩|⟨o,v,E,t,z,H,A,_⟩<;>rw[A]<;>rfl
    have gR:kc V=true:=by rw[←Z];exact gQ
    have S:Rn P c G K (.val V c.H):=by
     refine F (If _) (λ_ _ _=>rfl) (λo Q=>⟨.inl Q,hs.lt o ⟨p,_,_,_,hg,rfl,e,Q⟩⟩) gR gG (λB=>⟨J,C,?_⟩);simp only[Jf,Lv];rcases A with ⟨A,I⟩|⟨o,v,E,t,z,H,A,I,r4,r5,r6,r7,r8⟩
     ·exact .inl ⟨A,I⟩
     ·exact .inr ⟨o,v,E,t,z,H,A,I,r4,r5,r6.mono B,r7,r8⟩
    rw[Z];rcases A with ⟨A,I⟩|⟨o,v,E,t,z,H,A,I,r4,r5,r6,r7,r8⟩
    ·rw[A]at S ⊢;exact S
    ·rw[A]at S ⊢;exact S
   |false =>
    have gE:n≠0:=λq=>by rw[q]at hb;cases hb
    rw[Z];rcases A with ⟨A,I⟩|⟨o,v,E,t,z,H,A,I,r4,r5,r6,r7,r8⟩
    ·
     subst I;have gg:l=[]:=Is Cw;subst gg;rw[A];dsimp only[Xf];obtain⟨H',h1,h2,h3,h4⟩:=zdn c M;rw[h1];dsimp only;refine F J (λo ho _=>h3 o ho) (λo Q=>by cases Q;exact⟨.inr (If _),J⟩) rfl (by rw[A];rfl) (λB=>⟨J,C,.inr ⟨c.H.next,0,none,_,M.length,M,?_,h4,?_,?_,hn.mono B,λr q=>Dl,λ_=>?_⟩⟩)
     ·simp
     ·rw[Jc];omega
     ·rw[Jc,←hl,R];exact nr M
     ·rw[Jc];omega
    ·have gH:o<c.H.next:=hs.lt o ⟨p,_,_,_,hg,rfl,e,by rw[A];rfl⟩;have gS:H.length=len*j:=Cn
     rw[A];have gT:(Nat.beq j j&&Nat.ble len Nm)=true:=by rw[I3,show Nat.ble len Nm=true from Ih gD];rfl
     dsimp only;rw[gT];dsimp only;have T:Nv V=some o:=by rw[A];rfl
     have gj:Wx V=false:=by rw[A];rfl
     have X:R8 (Pp M (len*j) t) 0 ((len+n)*j)=some (H++M):=by
      have:=zom (r:=M) r5
      rwa [show len*j+M.length=(len+n)*j from by rw[←R,hl,I5]]at this
     cases E with
     |some r =>
      obtain⟨U,g9⟩:=r7 r rfl;dsimp only;cases gI:Nat.ble (Nat.add len n) r with
      |true =>
       have L:len+n≤r:=In gI;have hm:(len+n)*j≤r*j:=Ip _ L;have gK:(len+n)*j=len*j+n*j:=I5 _ _ _;have hw:Up c.H o v (Nat.add 0 (Nat.mul len j)) M=some (c.H.put o (.cells (Pp M (len*j) t) z v false)):=by
        unfold Up;rw[I];have e1:Nat.add 0 (Nat.mul len j)=len*j:=Jc _;have gL:Nat.ble (Nat.add (len*j) M.length) z=true:=Ih (by show len*j+M.length≤z;omega);rw[e1];simp only[I3,gL]
       dsimp only;rw[hw];dsimp only;refine F (by exact If _) (λo' _ gB=>Heap.get_put_ne _ _ (λq=>gB (by rw[q];exact T))) (λo' Q=>by cases Q;exact⟨.inl T,gH⟩) rfl gj (λB=>⟨J,C,.inr ⟨o,v,some r,_,z,_,rfl,Heap.get_put_same _ _ _,J,X,(r6.append hn).mono B,λr' q=>by cases q;exact⟨U,L⟩,λq=>Dl⟩⟩)
      |false =>
       have hr:=Tz (i:=0) (n:=len*j) I r5 r4 J;dsimp only;rw[show Nat.mul len j=len*j from rfl,hr];dsimp only[Xf];obtain⟨H',h1,h2,h3,h4⟩:=zdn c ((H.drop 0).take (len*j)++M);rw[h1];dsimp only;have gU:(H.drop 0).take (len*j)=H:=by rw[Jv,Io J]
       rw[gU]at h4;have O:(H++M).length=(len+n)*j:=by rw[Im,gS,←R,hl,I5]
       refine F J (λo' gV _=>h3 o' gV) (λo' Q=>by cases Q;exact⟨.inr (If _),J⟩) rfl gj (λB=>⟨J,C,.inr ⟨c.H.next,0,none,_,_,H++M,rfl,h4,J,?_,(r6.append hn).mono B,λr' q=>Dl,λ_=>O⟩⟩);rw[←O];exact nr _
     |none =>
      have U:=r8 rfl;dsimp only;rw[I];dsimp only;have gK:(len+n)*j=len*j+n*j:=I5 _ _ _;have gX:0<n*j:=Nat.mul_pos J gC;have gY:Nat.ble (Nat.add 0 (Nat.mul (Nat.add len n) j)) z=false:=by
       cases hq:Nat.ble (Nat.add 0 (Nat.mul (Nat.add len n) j)) z with
       |false=>rfl
       |true =>
        have:0+(len+n)*j≤z:=In hq;omega
      have gM:Nat.beq (Nat.mul len j) z=true:=by rw[U];exact I3 _
      rw[I3,gY,gM,U];dsimp only;have O:Nat.add (len*j) M.length=(len+n)*j:=by show len*j+M.length=_;rw[←R,hl,gK]
      refine F (by exact If _) (λo' _ gB=>Heap.get_put_ne _ _ (λq=>gB (by rw[q];exact T))) (λo' Q=>by cases Q;exact⟨.inl T,gH⟩) rfl gj (λB=>⟨J,C,.inr ⟨o,v+1,none,_,_,_,rfl,Heap.get_put_same _ _ _,by rw[O];exact If _,X,(r6.append hn).mono B,λr' q=>Dl,λ_=>O⟩⟩)
 ·exact h.elim
def zwx(B:HSim c G){s:LV}{a:AV}{n:Nat}(ha:AR c s a)(S:ARs c D M)(T:D.length=n*g)(h:O2 G g s n D K):Rn P c G K (Vc c.H g a n M):=by
 have gQ:=S.length;unfold O2 at h;split at h
 ·
  cases ha;unfold Vc;cases V:Nat.beq n 0 with
  |true =>
   have:=Ig V;subst this;have:D=[]:=Is E4;subst this;exact ztd B h
  |false =>
   dsimp only[Xf];exact gr B S T (λr e=>Aq) h
 ·rename_i p k;exact zre B ha S T (by unfold O2;exact h)
 ·rename_i p k lo len;split at h
  ·rename_i l gE X gL st U;obtain⟨gj,⟨rfl,rfl,gM⟩,C,h⟩:=h;have H:Nat.beq n 0=false:=by
    cases V:Nat.beq n 0 with
    |false=>rfl
    |true=>have:=Ig V;omega
   cases ha with
   | @vw _ _ _ _ k' hh _ e hk Y gF hz =>
    split at h
    case isFalse Z =>
     obtain⟨gB,gG,h1,h2⟩:=h;subst gB;have gH:=(B.obj p _ _ _ U e).1;have O:=hz J rfl;rcases Y J with ⟨I,L⟩|⟨o,v,z,j,E,A,I,L,r9⟩
     ·subst I;rcases L with rfl|⟨_,r5⟩
      ·have gB:l=[]:=Is (by have:=(B.obj p _ _ _ U e).2.1;simpa using this);subst gB;unfold Vc;rw[H];dsimp only[Xf];refine gr B S T (λr e=>Aq) ?_;simpa using h2
      ·exact absurd rfl r5
     ·have e2:=e;rw[I]at e2;obtain⟨_,w1,w2,w3,t,F,l',w4,w5,w6,w7,_⟩:=Xq B U e2;subst w2 w3;rw[I,L]at O;dsimp only[We]at O;by_cases gI:A=E
      ·refine zre B (p:=p) (k:=k) (.dy e hk (λ_=>by rw[L,I,gI,Kz]) gF) S T ?_;unfold O2;dsimp only;rw[U];exact⟨gj,⟨rfl,gG⟩,C,h1⟩
      ·rcases O with O|⟨r,rfl,hr⟩
       ·exact absurd O gI
       have Q:(Nat.beq j j&&Nat.ble z Nm)=true:=by rw[I3,show Nat.ble z Nm=true from Ih C];rfl
       have gC:Nat.ble (Nat.add z n) r=false:=by
        cases hq:Nat.ble (Nat.add z n) r with
        |false=>rfl
        |true=>have:z+n≤r:=In hq;omega
       rw[L];unfold Vc;rw[H];dsimp only;rw[Q];dsimp only;rw[gC];dsimp only;have gD:=Tz (i:=0) (n:=z*j) w4 w6 w5 J;rw[show Nat.mul z j=z*j from rfl,show 0*j=0 from Kz _,gD];dsimp only[Xf];have R:=I5 z n j;have gO:l.take (z*j)=l:=Io J;refine gr B ((w7.take _).append S) (by rw[Im,Iu,T];show min (z*j) l.length+n*j=(z+n)*j;omega) (λr e=>Aq) ?_;rw[gO];exact h2
    case isTrue Z =>
     obtain⟨h1,h2⟩:=h;have gH:=(B.obj p _ _ _ U e).1;have R:(len+n)*X=len*X+n*X:=I5 _ _ _;rcases Y J with ⟨I,L⟩|⟨o,v,z,j,E,A,I,L,r9⟩
     ·subst I;rcases L with rfl|⟨_,r5⟩
      ·unfold Vc;rw[H];dsimp only[Xf];refine gr B S T (λr e=>Aq) ?_;simpa using h2
      ·exact absurd rfl r5
     ·have e2:=e;rw[I]at e2;obtain⟨_,w1,w2,w3,t,F,l',w4,w5,w6,w7,_⟩:=Xq B U e2;subst w2 w3;rw[L];have hw:Uk G (.dptr p k (len*j)) D (λG'=>K (.vw p k 0 (len+n)) G'):=by
       unfold Uk;dsimp only;rw[U];exact⟨gj,by rw[T,←R];exact Z,h1⟩
      obtain⟨o2,v2,i2,H',c',G',u1,u2,u3,u4,u5,u6⟩:=zao B (a:=.ptr o v (len*j)) (.dptr e hk (λ_=>⟨rfl,_,j,E,I⟩)) S hw;cases u1;have gg:(∀r,A=some r→len+n≤r)→Rn P c G K (.val (.sl o v (0*j) (len+n) j A) H'):=λhr=>by
       refine⟨c',.vw p k 0 (len+n),G',u3,u4,u5,AR.mono u5.le (.vw e hk (λ_=>.inr ⟨o,v,_,j,E,A,I,rfl,hr⟩) rfl (λq=>by have:=hz q;rw[L]at this;exact this)),u6⟩
      have Q:(Nat.beq j j&&Nat.ble len Nm)=true:=Et
      have gK:Nat.add (0*j) (Nat.mul len j)=len*j:=by show 0*j+len*j=_;omega
      have gP:len*j≤z*j:=by rw[←w1];omega
      unfold Vc;rw[H];dsimp only;rw[Q];dsimp only;cases A with
      |some r =>
       dsimp only;cases V:Nat.ble (Nat.add len n) r with
       |true =>
        dsimp only;rw[gK,u2];exact gg (λr' e'=>by cases e';exact In V)
       |false =>
        dsimp only;have hr:=Tz (i:=0) (n:=len*j) w4 w6 w5 J;rw[show Nat.mul len j=len*j from rfl,show 0*j=0 from Kz _,hr];dsimp only[Xf];refine gr B ((w7.take _).append S) Dp (λr e=>Aq) h2
      |none =>
       dsimp only;rw[w4];dsimp only;rw[I3,gK];have V:Nat.ble (Nat.add (0*j) (Nat.mul (Nat.add len n) j)) F=true:=Ih (by show 0*j+(len+n)*j≤F;omega);rw[V];dsimp only;rw[u2];exact gg (λr' e'=>by cases e')
  ·exact h.elim
 ·rename_i p k len;split at h
  ·rename_i l gE X gL st U;obtain⟨gj,⟨rfl,gM⟩,C,gR,h⟩:=h;have H:Nat.beq n 0=false:=by
    cases V:Nat.beq n 0 with
    |false=>rfl
    |true=>have:=Ig V;omega
   cases ha with
   | @vf _ _ _ k' hh _ e hk Y gF =>
    have gH:=(B.obj p _ _ _ U e).1;obtain⟨o,v,z,j,E,I,L⟩:=Y J;have e2:=e;rw[I]at e2;obtain⟨_,w1,w2,w3,t,F,l',w4,w5,w6,w7,_⟩:=Xq B U e2;subst w2 w3;have Q:(Nat.beq j j&&Nat.ble len Nm)=true:=Et
    have gC:Nat.ble (Nat.add len n) len=false:=by
     cases hq:Nat.ble (Nat.add len n) len with
     |false=>rfl
     |true=>have:len+n≤len:=In hq;omega
    rw[L];unfold Vc;rw[H];dsimp only;rw[Q];dsimp only;rw[gC];dsimp only;have gD:=Tz (i:=0) (n:=len*j) w4 w6 w5 J;rw[show Nat.mul len j=len*j from rfl,gD];dsimp only[Xf];have R:=I5 len n j;refine gr B ((w7.take _).append S) Dp (λr e=>Aq) h
  ·exact h.elim
 ·exact h.elim
end res
end
section
section res
variable {P : Program} {c : Cx} {G : M4} {K : LV → M4 → Prop}
def ap{v:LV}{a:AV}(g:v.scal=true)(h:AR c v a):a=toA v:=by
 cases v<;>first|(cases g;done)|(cases h;rfl)
def toAs_scal:∀{l:List LV} {r:List AV},l.all LV.scal=true→ARs c l r→r=toAs l
 |[],_,_,.nil=>rfl
 |v::l,_,h,.cons e g=>by
  simp only[Kq,H9]at h;rw[toAs,←ap h.1 e,←toAs_scal h.2 g]
def fq{op:BinOp}{t:TypeId}{x y:LV}{a b:AV}{K:LV→Prop}(z:AR c x a)(A:AR c y b)(h:Qt P op O t x y K):Re c K (Pd P op O t a b):=by
 unfold Qt at h;split at h
 ·cases z;cases A;exact uk h
 ·cases z;cases A;exact uq h
 ·cases z;cases A;exact vx h
 ·rename_i u v;cases z;cases A;cases op<;>try exact h.elim
  ·simp only[Pd];rw[h.1];exact .mk (.bool _) h.2
  ·simp only[Pd];rw[h.1];exact .mk (.bool _) h.2
 ·rename_i u s;cases z;cases A;cases op<;>try exact h.elim
  ·obtain⟨g,j⟩:=h;obtain⟨n,rfl⟩:=Ir g;exact .mk (.u' (mv u n)) j
  ·obtain⟨g,j⟩:=h;obtain⟨n,rfl⟩:=Ir g;exact .mk (.u' (nv u n)) j
 ·rename_i u s;cases z;cases A;cases op<;>try exact h.elim
  ·obtain⟨g,j,F,C⟩:=h;rw[(zll (s:=Int.ofNat s.toNat) g (Jq _) (by show (s.toNat:Int)≤64;omega)).1];exact .mk (.i' (Wo F)) C
  ·obtain⟨g,j,C⟩:=h;rw[(zll (s:=Int.ofNat s.toNat) g (Jq _) (by show (s.toNat:Int)≤64;omega)).2];exact .mk (.i _) C
 ·obtain⟨rfl,h⟩:=h;cases z;cases A;exact ul h
 ·cases z;cases A;exact vh h
 ·cases z;cases A;exact zp6 C3 h
 ·cases z;cases A;have:∀o v i,Q9 P O t (.ptr o v i) .nilPtr=Q9 P O t (.ptr 0 0 0) .nilPtr:=λo v i=>by
   unfold Q9 wn eqT Zm;dsimp only;cases P.underlying t with
   |none=>rfl
   |some d=>cases d<;>rfl
  refine zp6 (r:=false) C3 ?_;cases op<;>simp only[Wr]at h ⊢<;>(rw[this];exact h)
 ·cases z;cases A;exact zp6 C3 h
 ·cases A;obtain⟨g,j⟩:=h;have D:Q9 P O t .emp .nilSl=some false∧∀o v i len H E,Q9 P O t (.sl o v i len H E) .nilSl=some false:=by
   unfold Q9 wn eqT Zm at g ⊢;dsimp only at g ⊢;cases hu:P.underlying t with
   |none=>rw[hu]at g;cases g
   |some d=>rw[hu]at g;cases d<;>first|(cases g;done)|exact⟨rfl,λ_ _ _ _ _ _=>rfl⟩
  have B:∀{a:AV} {b:Bool},Q9 P O t a .nilSl=some b→(Pd P op O t a .nilSl=match op with | .eql=>qj (Q9 P O t a .nilSl) | .neq=>tn (Q9 P O t a .nilSl)|_=>none)→(match op with | .eql=>K (.bool b) | .neq=>K (.bool !b)|_=>False)→Re c K (Pd P op O t a .nilSl):=by
   intro a b F C M;rw[C,F];cases op<;>first|exact M.elim|exact .mk (.bool _) M
  cases z with
  |lst S R Q T U =>
   refine B (D.2 _ _ _ _ _ _) C3 ?_;cases op<;>first|exact j.elim|exact j.1
  |lstNil =>
   refine B g C3 ?_;cases op<;>first|exact j.elim|exact j.2 rfl
  |lstEmp =>
   refine B D.1 C3 ?_;cases op<;>first|exact j.elim|exact j.1
 ·cases z with
  |agg g=>cases A with
   |agg j =>
    cases op<;>try exact h.elim
    ·obtain⟨b,I,L,e,k⟩:=h;rw[toAs_scal I g,toAs_scal L j];simp only[Pd];rw[e];exact .mk (.bool _) k
    ·obtain⟨b,I,L,e,k⟩:=h;rw[toAs_scal I g,toAs_scal L j];simp only[Pd];rw[e];exact .mk (.bool _) k
 ·exact h.elim
def p8{op:UnOp}{x:LV}{a:AV}{K:LV→Prop}(g:AR c x a)(h:su op x K):Re c K (unA op a):=by
 unfold su at h;simp only[zqh,zuu]at h;split at h
 ·cases g;exact .mk (.bool _) h
 ·cases g;refine .mk (.u' ?_) h;rename_i u;rw[Wn,UInt64.toNat_sub];show (0-Int.ofNat u.toNat)%_=((2^64-u.toNat+(0:UInt64).toNat)%2^64:Nat);have:=u.toNat_lt;simp only[Iw,UInt64.toNat_zero];omega
 ·cases g;obtain⟨j,z⟩:=h;refine .mk (.i' ?_) z;have e:∀n:Int,Int.sub 0 n=-n:=λn=>by show 0-n=-n;omega
  rw[e];exact Wo j
 ·cases g;refine .mk (.u' ?_) h;rename_i u;have hu:=u.toNat_lt;show IntKind.wrap .u64 (BitVec.ofInt 64 (IntKind.max .u64) ^^^ BitVec.ofInt 64 (Int.ofNat u.toNat)).toNat=_;have A:BitVec.ofInt 64 (IntKind.max .u64)=BitVec.allOnes 64:=Ad
  have B:BitVec.ofInt 64 (Int.ofNat u.toNat)=u.toBitVec:=by
   apply BitVec.eq_of_toNat_eq;simp
  rw[A,B,BitVec.allOnes_xor];show ((~~~u.toBitVec).toNat:Int)%18446744073709551616=Int.ofNat (~~~u).toNat;have:(~~~u).toNat=(~~~u.toBitVec).toNat:=rfl;rw[this];exact Kd (Jq _) (by have:=(~~~u.toBitVec).isLt;omega)
 ·exact h.elim
def zuh(n:Int):n%18446744073709551616=Int.ofNat (UInt64.ofInt n).toNat:=by
 unfold UInt64.ofInt;rw[Js];simp only[Iw];omega
def zsm(n:Int):n%256=Int.ofNat (UInt8.ofInt n).toNat:=by
 unfold UInt8.ofInt;rw[UInt8.toNat_ofNat'];simp only[Iw];omega
def qc{k:IntKind}{x:LV}{a:AV}{K:LV→Prop}(g:AR c x a)(h:ai k x K):∃k' n,a=.int k' n∧∃v,AR c v (.int k (T8 k n))∧K v:=by
 unfold ai at h;simp only[pe,bt,uB_eq,iB_eq]at h;split at h
 ·cases g;rename_i u;refine⟨_,_,rfl,_,.u' ?_,h⟩;rw[Wn];exact Kd (Jq _) Fx
 ·cases g;refine⟨_,_,rfl,_,.u' ?_,h⟩;rename_i n;rw[Wn];exact zuh n
 ·cases g;rename_i u;refine⟨_,_,rfl,_,.u' ?_,h⟩;rw[Wn];have:=u.toNat_lt;rw[Js];show Int.ofNat u.toNat%18446744073709551616=Int.ofNat (u.toNat%2^64);simp only[Iw];omega
 ·cases g;rename_i u;exact⟨_,_,rfl,_,.i' (Wo ⟨Cl,Cl⟩),h.2⟩
 ·cases g;exact⟨_,_,rfl,_,.i' (Wo h.1),h.2⟩
 ·cases g;rename_i u;have:=u.toNat_lt;exact⟨_,_,rfl,_,.i' (Wo ⟨Cl,Cl⟩),h⟩
 ·cases g;rename_i u;refine⟨_,_,rfl,_,.b' ?_,h⟩;rw[oz,UInt8.toNat_ofNat'];show Int.ofNat u.toNat%256=Int.ofNat (u.toNat%2^8);simp only[Iw];omega
 ·cases g;refine⟨_,_,rfl,_,.b' ?_,h⟩;rename_i n;rw[oz];exact zsm n
 ·cases g;rename_i u;refine⟨_,_,rfl,_,.b' ?_,h⟩;rw[oz];exact Kd (Jq _) Fx
 ·cases g;refine⟨_,_,rfl,_,.b' ?_,h⟩;rename_i n;rw[oz];exact zsm n
 ·cases g;refine⟨_,_,rfl,_,?_,h⟩;rename_i n;have e:T8 .i32 n=w32 n:=by
   rw[Xj];show (if (true&&decide (n%4294967296 ≥ 2147483648))=true then n%4294967296-4294967296 else n%4294967296)=w32 n;simp only[Kg,Il,w32];split<;>omega
  rw[e];exact .int .i32 _
 ·cases g;exact⟨_,_,rfl,_,.i' (Wo h.1),h.2⟩
 ·exact h.elim
def layL_eq:∀(r l:List AV) (i:Nat),i+r.length≤l.length→To l i r=X2 l i r
 |[],l,i,h=>by
  simp only[To,X2,List.length_nil,Lv,Jf,Jr]
 |a::r,l,i,h=>by
  simp only[Iy]at h;rw[To,layL_eq r (l.set i a) (i+1) Ab];refine Mh (λg=>?_);rw[zi5 Ab,zi5 Ab];simp only[Iy];by_cases j:i+1≤g∧g<i+1+r.length
  ·rw[Ij j,Ij J,show g-i=(g-(i+1))+1 from J,Iv]
  ·rw[Ii j];by_cases z:g=i
   ·subst z;rw[Ij J,Ia J];simp
   ·rw[Ii J,H8 (Ne.symm z)]
def zl6{X:M7}{Y:Tr AV}(F:N0 c X Y):∀{B:List (Nat×Nat×Lx)} {C l:List LV} {g:List AV},B.all (·.2.2.ok)=true→ARs c C g→fv X C B=some l→∃D,vi (ρA Y) g (rps B)=some D∧ARs c l D
 |[],C,l,g,_,h,e=>by
  simp only[fv,Option.some.injEq]at e;subst e;exact⟨g,rfl,h⟩
 |(z,j,x)::B,C,l,g,A,h,e=>by
  simp only[Kq,H9]at A;simp only[fv]at e;split at e
  ·cases e
  ·rename_i r I;split at e
   ·rename_i L;obtain⟨M,Z⟩:=L;obtain⟨O,Q,H⟩:=(Ol F A.1).cells I;have E:=H.length;have R:=h.length;obtain⟨D,S,T⟩:=zl6 F A.2 (h.lay H z) e;refine⟨D,?_,T⟩;simp only[rps,vi,Q];have U:Nat.beq O.length j=true:=by rw[←E,M];exact I3 _
    have V:Nat.ble (Nat.add z j) g.length=true:=Ih (by show z+j≤_;omega);simp only[U,V];rw[layL_eq _ _ _ J];exact S
   ·cases e
def Uh{D:M7}(A:N0 c D L){d:Nat}{x:Option Lx}(j:fa x=true){K:Nat→Prop}(h:Ok D d x K):∃r n,Pg (ρA L) (x.map Lx.r)=some r∧r.getD d=n∧K n:=by
 cases x with
 |none=>exact⟨none,d,rfl,rfl,h⟩
 |some x =>
  simp only[Ok]at h;have g:=Ol A (show x.ok=true from j);simp only[Jw,Pg];split at h
  ·rename_i n z;obtain⟨B,C⟩:=h;rw[z]at g;generalize x.r.ev (ρA L)=a at g;cases g;obtain⟨m,rfl⟩:=Ir B;exact⟨some m,m,rfl,rfl,C⟩
  ·rename_i n z;rw[z]at g;generalize x.r.ev (ρA L)=a at g;cases g;exact⟨some n.toNat,n.toNat,rfl,rfl,h⟩
  ·exact h.elim
end res
end
section
section res
variable {P : Program} {c : Cx} {G : M4} {K : LV → M4 → Prop}
def zxj{d:TypeDesc}{k z:LV}{a:AV}{b:Bool}(g:AR c k a)(j:AR c z vM)(h:Vh d k z=some b):i7 d a vM=some b:=by
 unfold Vh at h;split at h
 ·cases g;cases j;cases h;simp only[i7,show Wc .i64 .i64=true from rfl,dg]
 ·cases g;cases j;cases h;simp only[i7,show Wc .u64 .u64=true from rfl,dg,zl3]
 ·cases g;cases j;cases h;simp only[i7,zwk]
 ·cases h
def zrh{d:TypeDesc}{k:LV}{a:AV}(A:AR c k a){K:Option LV→Prop}:∀{B:List (LV×LV×Nat)} {g:List (AV×AV×Nat)},MRs c B g→jp d k K B→(mj d a g=some none∧K none)∨∃v b,mj d a g=some (some b)∧AR c v b∧K (some v)
 |_,_,.nil,h=>.inl ⟨rfl,h⟩
 |(F,C,n)::l,_,.cons j z D,h=>by
  simp only[jp]at h;split at h
  ·rename_i b E;have:=zxj A j E;simp only[mj,this];cases b with
   |true=>exact .inr ⟨C,_,rfl,z,h.1 rfl⟩
   |false=>exact zrh A D (h.2 rfl)
  ·exact h.elim
def zva{d:TypeDesc}{k v:LV}{a b:AV}{E:Nat}(A:AR c k a)(B:AR c v b):∀{F:List (LV×LV×Nat)} {j:List (AV×AV×Nat)} {K:List (LV×LV×Nat)→Bool→Prop},MRs c F j→Uu d k v E K F→∃r C g,pn d a b E j=some (C,g)∧MRs c r C∧K r g
 |_,_,K,.nil,h=>⟨_,_,true,rfl,.cons A B .nil,h⟩
 |(I,L,n)::l,_,K,.cons z D H,h=>by
  simp only[Uu]at h;split at h
  ·rename_i t M;have:=zxj A z M;simp only[pn,this];cases t with
   |true=>exact⟨_,_,false,rfl,.cons A B H,h.1 rfl⟩
   |false =>
    obtain⟨r,C,g,O,Q,R⟩:=zva (K:=λr g=>K ((I,L,n)::r) g) A B H (h.2 rfl);exact⟨_,_,g,by rw[O],.cons z D Q,R⟩
  ·exact h.elim
def zuf(D:HSim c G){x:LV}{a:AV}(B:AR c x a){K:List (LV×LV×Nat)→Prop}(h:Vo G x K):∃j g,zy5 c.H a=some g∧MRs c j g∧K j∧(a=.nilMap∧g=[]∨∃o z,a=.map o∧c.H.get o=some (.map g z)):=by
 unfold Vo at h;split at h
 ·cases B;exact⟨[],[],rfl,.nil,h,.inl ⟨rfl,rfl⟩⟩
 ·rename_i p;split at h
  ·rename_i j z st E;cases B with
   | @map _ o e =>
    obtain⟨_,H,g,A,C,F⟩:=D.obj p _ _ _ E e;injection A with A
    subst A;refine⟨j,g,?_,F,h,.inr ⟨o,z,rfl,C⟩⟩;simp only[zy5,C]
  ·exact h.elim
 ·exact h.elim
def zh9(g:HSim c G)(k:K (.map G.length) (G++[.map [] 0 0])):Rn P c G K (W0 c.H):=by
 unfold W0;obtain⟨j,z,_⟩:=g.push (H':=c.H.push (.map [] 0)) (x:=.map c.H.next) (ob:=.map [] 0 0) (by show c.H.next≤c.H.next+1;omega) (λo A=>Heap.get_push_ne _ _ A) (λo e=>by cases e;exact⟨If _,by show c.H.next<c.H.next+1;omega⟩)
  ⟨rfl,c.H.next,[],rfl,Heap.get_push_same _ _,.nil⟩
 exact⟨_,.map G.length,_,rfl,j,z,.map (by rw[←g.len];exact Ja),k⟩
def zvu(B:HSim c G){d:TypeDesc}{m k v:LV}{M O:AV}(hm:AR c m vM)(T:AR c k M)(U:AR c v O)(h:om G d m k v λV=>K .any V) :
  Rn P c G K (match (generalizing:=false) vM with
   |.map o=>match c.H.get o with
    |some (.map Q g)=>match pn d M O g Q with
     |some (z,true)=>.val Ri (c.H.put o (.map z (Nat.add g 1)))
     |some (z,false)=>.val Ri (c.H.put o (.map z g))
     |none=>.no
    |_=>.no
   |_=>.no):=by
 unfold om at h;split at h
 ·rename_i p;split at h
  ·rename_i Q ck st C;cases hm with
   | @map _ o e =>
    obtain⟨_,R,z,D,X,Y⟩:=B.obj p _ _ _ C e;injection D with D
    subst D;obtain⟨r,E,F,Z,q2,S⟩:=zva T U Y h;have H:o<c.H.next:=B.lt o ⟨p,_,_,_,C,rfl,e,rfl⟩;have A:∀j,K .any (G.set p (.map r j (st+1)))→Rn P c G K (.val Ri (c.H.put o (.map E j))):=by
     intro j kk;obtain⟨u1,u2,u3⟩:=B.upd (k':=0) (x':=.map o) (ob':=.map r j (st+1)) (H':=c.H.put o (.map E j)) C rfl e (If _) (λR _ I=>Heap.get_put_ne _ _ (λq=>I C5)) (λR e'=>by cases e';exact⟨.inl rfl,H⟩) (If _) (λ_=>rfl) (λ_=>rfl) (.inl (I9 _))
      (λL=>⟨rfl,o,E,rfl,Heap.get_put_same _ _ _,q2.mono L⟩)
     exact⟨_,.any,_,rfl,u1,u2,.any _,kk⟩
    simp only[X,Z];cases F with
    |true=>exact A _ S
    |false=>exact A _ S
  ·exact h.elim
 ·exact h.elim
def HSim.freeze(hs:HSim c G){p k o st:Nat}{x:AV}{ob:LObj}(hG:G[p]?=some ob)(hl:ob.live=true)(gD:ob.st<st)(hp:c.hd[p]?=some (k,x))(ho:Nv x=some o) :
  HSim ⟨c.hd,λq=>c.Fz q∨q=o,c.H⟩ (G.set p (.dead st))∧Step c G ⟨c.hd,λq=>c.Fz q∨q=o,c.H⟩ (G.set p (.dead st)):=by
 have gE:p<G.length:=(H7.1 hG).1;have hle:CxLe c ⟨c.hd,λq=>c.Fz q∨q=o,c.H⟩:=⟨λp k h e=>⟨k,h,e,If _,λ_=>rfl,λ_=>rfl⟩,λq hq=>⟨.inl hq,rfl⟩⟩;have gB:O9 c G o:=⟨p,ob,k,x,hG,hl,hp,ho⟩;have hinv:∀{q:Nat} {gg:LObj},(G.set p (.dead st))[q]?=some gg→(q=p∧gg=.dead st)∨(q≠p∧G[q]?=some gg):=by
  intro q gg e;by_cases hq:q=p
  ·subst hq;rw[Ia gE]at e;cases e;exact .inl ⟨rfl,rfl⟩
  ·rw[H8 (Ne.symm hq)]at e;exact .inr ⟨hq,e⟩
 have gj:∀q,O9 ⟨c.hd,λq=>c.Fz q∨q=o,c.H⟩ (G.set p (.dead st)) q→O9 c G q∧q≠o:=by
  rintro q ⟨p1,gg,k1,h1,e1,e2,e3,e4⟩;rcases hinv e1 with ⟨_,rfl⟩|⟨gF,e1⟩
  ·cases e2
  ·refine⟨⟨p1,gg,k1,h1,e1,e2,e3,e4⟩,λhq=>gF ?_⟩;subst hq;exact hs.excl p1 p gg ob k1 h1 k x q e1 hG e2 hl e3 hp e4 ho
 refine⟨⟨D9,λq hq=>hq.elim (hs.fz q) (λe=>by rw[e];exact hs.lt o gB),λq hq=>hs.lt q (gj q hq).1,λq hq hf=>hf.elim (hs.sep q (gj q hq).1) (gj q hq).2,λq gg k1 h1 e1 e2=>?_,?_⟩,⟨hle,If _,λ_ _ _=>rfl,λq hq=>.inl (gj q hq).1,λq hq=>hq.elim .inl (λe=>.inr (.inl (by rw[e];exact gB))),λq gg gC e1 e2=>?_,λq gg gC k1 h1 o1 e1 e2 e3 e4 e5 e6=>?_⟩⟩
 ·rcases hinv e1 with ⟨_,rfl⟩|⟨_,e1⟩
  ·trivial
  ·by_cases gG:gg.live=true
   ·exact (hs.obj q gg k1 h1 e1 e2).mono hle (λ_ _=>rfl)
   ·cases gg<;>first|exact absurd rfl gG|trivial
 ·intro q r gg gC k1 h1 k2 h2 o1 e1 e2 e3 e4 e5 e6 e7 e8;rcases hinv e1 with ⟨_,rfl⟩|⟨_,e1⟩
  ·cases e3
  ·rcases hinv e2 with ⟨_,rfl⟩|⟨_,e2⟩
   ·cases e4
   ·exact hs.excl q r gg gC k1 h1 k2 h2 o1 e1 e2 e3 e4 e5 e6 e7 e8
 ·rcases hinv e2 with ⟨rfl,rfl⟩|⟨_,e2⟩
  ·rw[hG]at e1;cases e1;exact Mv gD
  ·rw[e1]at e2;cases e2;exact If _
 ·rcases hinv e2 with ⟨rfl,rfl⟩|⟨_,e2⟩
  ·rw[hG]at e1;cases e1;have:ob.st=st:=e6;omega
  ·rw[e1]at e2;cases e2;exact⟨rfl,rfl,rfl⟩
end res
end
end Go.Sv
