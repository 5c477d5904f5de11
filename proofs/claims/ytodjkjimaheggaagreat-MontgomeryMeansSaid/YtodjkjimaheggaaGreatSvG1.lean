/- Texts of the evaluator, of the logic over it, of plain arithmetic. -/
import Derived.Test.YtodjkjimaheggaaGreatSvG0
import Derived.Orders
import Derived.WalkKit
import Derived.ProofKit
import Derived.OpenShut
set_option linter.unusedSimpArgs false
set_option linter.defProp false
namespace Go.Sv
variable{g j A:Nat}{B:Program}{K v9:World}{Q:Bool}{vU:Type}{vR:Array Value}{vO:Option Nat}{vD:List Nat}{uV:Code}{F vY:Heap}{I vz:AV}{P vG:Tr AV}{T:List AV}{M:CM}
def eqAV_spec:∀(n:Nat) (a b:AV),Qw n a b=true→a=b
 |0,_,_,h=>An
 |n+1,a,b,h=>by
  have z:∀(x y:List AV),aa (Qw n) x y=true→x=y:=by
   intro x
   induction x with
   |nil=>intro y j;cases y with
    |nil=>rfl
    |cons _ _=>cases j
   |cons c x A =>
    intro y j;cases y with
    |nil=>cases j
    |cons d y =>
     simp only[aa]at j;split at j
     ·rename_i B;rw[eqAV_spec n c d B,A y j]
     ·cases j
  have g:∀{x y:Nat},Nat.beq x y=true→x=y:=λh=>H0 h
  unfold Qw at h;split at h
  ·simp only[Lt]at h;rw[h]
  ·simp only[Hq,yh,Lt]at h;rw[z7c h.1,h.2]
  ·simp only[Hq]at h;rw[g h.1,g h.2]
  ·rfl
  ·simp only[Hq]at h;rw[g h.1.1,g h.1.2,g h.2]
  ·rfl
  ·simp only[Hq,Lt]at h;obtain⟨⟨⟨⟨⟨C,D⟩,E⟩,F⟩,G⟩,H⟩:=h;rw[g C,g D,g E,g F,g G,H]
  ·rfl
  ·rfl
  ·rw[g h]
  ·rfl
  ·simp only[Hq]at h;rw[g h.1.1,z _ _ h.1.2,z _ _ h.2]
  ·simp only[Hq]at h;rw[g h.1.1,z _ _ h.1.2,z _ _ h.2]
  ·rfl
  ·simp only[Hq]at h;rw[g h.1,eqAV_spec n _ _ h.2]
  ·rw[z _ _ h]
  ·rw[z _ _ h]
  ·cases h
def ao(a b g:Nat):(Nat.lor a b).testBit g=(a.testBit g || b.testBit g):=Nat.testBit_or a b g
def ut(i g:Nat):(2^i).testBit g=decide (i=g):=Nat.testBit_two_pow
def zmm{a b:Nat}(h:Nat.beq (Nat.land a b) a=true)(j:Nat)(g:a.testBit j=true):b.testBit j=true:=by
 have e:a &&& b=a:=H0 h;rw[←e,Nat.testBit_and]at g;simp only[Hq]at g;exact g.2
def bitsOf_spec:∀{l:List Nat} {t:Nat},t∈l→(zql l).testBit t=true
 |[],_,h=>An
 |a::l,t,h=>by
  simp only[zql,ao,ut,Iy,Hz];rcases H5.1 h with rfl|h
  ·exact .inl rfl
  ·exact .inr (bitsOf_spec h)
def z9a{g:List Nat}:∀{l:List Edge} {z:Nat},(y4 g l).testBit z=true↔∃e∈l,Region.binds .any e=true∧(z=e.on∨(g.getD e.on 0).testBit z=true)
 |[],z=>by simp[y4]
 |e::l,z=>by
  simp only[y4];split
  ·rename_i j;simp only[ao,ut,Iy,Hz,z9a,H5,exists_eq_or_imp,j,true_and];constructor
   ·rintro ((h|h)|h)
    ·exact .inl (.inl h.symm)
    ·exact .inl (.inr h)
    ·exact .inr h
   ·rintro ((h|h)|h)
    ·exact .inl (.inl h.symm)
    ·exact .inl (.inr h)
    ·exact .inr h
  ·rename_i j;simp only[z9a,H5,exists_eq_or_imp,j,J8,false_and,false_or]
def Z7{A:Type}{f:A→Bool}:∀{l:List A} {x:A},x∈Nr f l↔x∈l∧f x=true
 |[],x=>by simp[Nr]
 |a::l,x=>by
  simp only[Nr];split
  ·rename_i h;simp only[H5,Z7];constructor
   ·rintro (rfl|z)
    ·exact⟨.inl rfl,h⟩
    ·exact⟨.inr z.1,z.2⟩
   ·rintro⟨rfl|j,g⟩
    ·exact .inl rfl
    ·exact .inr ⟨j,g⟩
  ·rename_i h;simp only[H5,Z7];constructor
   ·rintro⟨j,g⟩;exact⟨.inr j,g⟩
   ·rintro⟨rfl|j,g⟩
    ·rw[h]at g;cases g
    ·exact⟨j,g⟩
def zng{z:Type}{f:z→Bool}:∀{l:List z},Vf f l=true→∀x∈l,f x=true
 |[],_,x,g=>by cases g
 |a::l,h,x,g=>by
  simp only[Vf]at h;split at h
  ·rename_i j;rcases H5.1 g with rfl|g
   ·exact j
   ·exact zng h x g
  ·cases h
structure LOk (P:Program) (ops:Array Oper) (L:List DOp):Prop where
 op:∀x∈L,ops[x.i]?=some x.o∧x.i<ops.size
 all:∀i,i<ops.size→∃x∈L,x.i=i
 inj:∀x∈L,∀y∈L,x.i=y.i→x=y
 cl:∀x∈L,x.c=cls P x.o.op
 lm:∀x∈L,∀t∈Ue ops x.o,x.lm.testBit t=true
 msk:∀x∈L,∀j,x.m.testBit j=true→∃e∈x.o.after.toList,Region.binds .any e=true∧(j=e.on∨∃y∈L,y.i=e.on∧y.m.testBit j=true)
 edge:∀x∈L,∀e∈x.o.after.toList,Region.binds .any e=true→x.m.testBit e.on=true
def zgu(j:Program)(ops:Array Oper):∀(l:List Oper) (g:List Nat) (i:Nat) (z:Nat),(P6 j ops l g i).length=l.length∧∀x,(P6 j ops l g i)[z]?=some x →
  x.i=i+z∧l[z]?=some x.o∧x.c=cls j x.o.op∧x.lm=zql (Ue ops x.o)∧x.m=y4 (g++((P6 j ops l g i).take z).map (·.m)) x.o.after.toList
 |[],g,i,z=>⟨rfl,λx h=>by simp[P6]at h⟩
 |o::l,g,i,0=>⟨Fa,λx h=>by
   simp only[P6,Ii,Option.some.injEq]at h;subst h;exact⟨rfl,rfl,rfl,rfl,N⟩⟩
 |o::l,g,i,z+1=>⟨Fa,λx h=>by
   simp only[P6,Ib]at h;obtain⟨E,A,B,C,D⟩:=(zgu j ops l _ (i+1) z).2 x h;refine⟨J,B2,B,C,?_⟩;rw[D];simp[P6]⟩
def qe(E:Program)(ops:Array Oper):LOk E ops (P6 E ops ops.toList [] 0):=by
 have z:=zgu E ops ops.toList [] 0;have G:(P6 E ops ops.toList [] 0).length=ops.size:=by rw[(z 0).1];simp
 have hm:∀x∈P6 E ops ops.toList [] 0,∃B,(P6 E ops ops.toList [] 0)[B]?=some x∧x.i=B:=λx j=>by
  obtain⟨B,g⟩:=Jy.1 j;exact⟨B,g,by have:=((z B).2 x g).1;omega⟩
 refine⟨λx j=>?_,λi hi=>?_,λx j y H e=>?_,λx j=>?_,λx j t I=>?_,λx j B g=>?_,λx j e he F=>?_⟩
 ·obtain⟨B,g,e⟩:=hm x j;obtain⟨_,K,_⟩:=(z B).2 x g;rw[e];have:B<ops.size:=by
   have:=(Hm.1 g).1;omega
  exact⟨Cw,this⟩
 ·exact ⟨(P6 E ops ops.toList [] 0)[i]' J, Kj _, by
   have:=((z i).2 _ (Ht J)).1;omega⟩
 ·obtain⟨B,g,D⟩:=hm x j;obtain⟨L,C,M⟩:=hm y H;have:B=L:=J
  subst this;rw[g]at C;cases C;rfl
 ·obtain⟨B,g,D⟩:=hm x j;exact ((z B).2 x g).2.2.1
 ·obtain⟨B,g,D⟩:=hm x j;rw[((z B).2 x g).2.2.2.1];exact bitsOf_spec I
 ·obtain⟨i,hi,D⟩:=hm x j;rw[((z i).2 x hi).2.2.2.2]at g;obtain⟨e,he,F,h⟩:=z9a.1 g;refine⟨e,he,F,h.imp id λh=>?_⟩;rw[L8,Hn,Jj]at h;cases A:((P6 E ops ops.toList [] 0).take i)[e.on]? with
  |none=>rw[A]at h;simp at h
  |some y =>
   rw[A]at h;have H:=Jy.2 ⟨e.on,A⟩;rw[List.getElem?_take]at A;split at A
   ·exact⟨y,Jy.2 ⟨_,A⟩,by have:=((z e.on).2 y A).1;omega,h⟩
   ·cases A
 ·obtain⟨i,hi,D⟩:=hm x j;rw[((z i).2 x hi).2.2.2.2];exact z9a.2 ⟨e,he,F,.inl rfl⟩
def dstsOk_spec:∀{l:List DOp} {seen:Nat},zpz l seen=true→(∀x∈l,∀d,x.o.dst=some d→seen.testBit d=false)∧∀x∈l,∀y∈l,∀d,x.o.dst=some d→y.o.dst=some d→x=y
 |[],_,_=>⟨λx g=>(by cases g),λx g=>by cases g⟩
 |a::l,seen,h=>by
  simp only[zpz]at h;split at h
  ·rename_i z;obtain⟨B,C⟩:=dstsOk_spec h;refine⟨λx g d hd=>?_,λx g y A d hd j=>?_⟩
   ·rcases H5.1 g with rfl|g
    ·rw[z]at hd;cases hd
    ·exact B x g d hd
   ·rcases H5.1 g with rfl|g
    ·rw[z]at hd;cases hd
    ·rcases H5.1 A with rfl|A
     ·rw[z]at j;cases j
     ·exact C x g y A d hd j
  ·rename_i D z;split at h
   ·cases h
   ·rename_i K;obtain⟨B,C⟩:=dstsOk_spec h;have E:∀x∈l,x.o.dst≠some D:=λx g e=>by
     have:=B x g D e;rw[ao,ut]at this;simp at this
    refine⟨λx g d hd=>?_,λx g y A d hd j=>?_⟩
    ·rcases H5.1 g with rfl|g
     ·rw[z]at hd;cases hd;simpa using K
     ·have:=B x g d hd;rw[ao]at this;simp only[Bool.or_eq_false_iff]at this;exact this.2
    ·rcases H5.1 g with F|G<;>rcases H5.1 A with H|I
     ·rw[F,H]
     ·subst F;rw[z]at hd;cases hd;exact absurd j (E y I)
     ·subst H;rw[z]at j;cases j;exact absurd hd (E x G)
     ·exact C x G y I d hd j
def ze9{x:DOp}:M0 x=true↔x.c=.ch:=by
 unfold M0;constructor
 ·intro h;split at h
  ·assumption
  ·cases h
 ·intro h;rw[h]
def zhu{x:DOp}:zrr x=true↔x.c=.quiet:=by
 unfold zrr;constructor
 ·intro h;split at h
  ·assumption
  ·cases h
 ·intro h;rw[h]
def z8u{x:DOp}{l:List DOp}{seen s:Nat}(h:O2 (x::l) seen g=some s):(∀j,x.m.testBit j=true→seen.testBit j=true)∧seen.testBit x.i=false ∧
  ((x.c=.quiet∧O2 l (Nat.lor (2^x.i) seen) g=some s) ∨
   ((x.c=.rd∨x.c=.al)∧(∀j,g.testBit j=true→x.m.testBit j=true)∧O2 l (Nat.lor (2^x.i) seen) g=some s) ∨
   (x.c=.ch∧(∀j,g.testBit j=true→x.m.testBit j=true)∧O2 l (Nat.lor (2^x.i) seen) (Nat.lor (2^x.i) g)=some s)):=by
 simp only[O2]at h;split at h
 ·cases h
 ·rename_i E;split at h
  ·cases h
  ·rename_i F;refine⟨λj z=>zmm E j z,by simpa using F,?_⟩;split at h
   ·rename_i A;exact .inl ⟨zhu.1 A,h⟩
   ·rename_i A;split at h
    ·cases h
    ·rename_i C;split at h
     ·rename_i B;exact .inr (.inr ⟨ze9.1 B,λj z=>zmm C j z,h⟩)
     ·rename_i B;refine .inr (.inl ⟨?_,λj z=>zmm C j z,h⟩);cases D:x.c with
      |quiet=>rw[zhu.2 D]at A;cases A
      |rd=>exact .inl rfl
      |al=>exact .inr rfl
      |ch=>rw[ze9.2 D]at B;cases B
def topo_seen:∀{l:List DOp} {seen j s:Nat},O2 l seen j=some s→∀A,s.testBit A=true↔(seen.testBit A=true∨∃x∈l,x.i=A)
 |[],seen,j,s,h,A=>by simp only[O2,Option.some.injEq]at h;subst h;simp
 |x::l,seen,j,s,h,A=>by
  obtain⟨_,_,z⟩:=z8u h;have B:∀g,O2 l (Nat.lor (2^x.i) seen) g=some s→(s.testBit A=true↔(seen.testBit A=true∨∃y∈x::l,y.i=A)):=λg C=>by
   rw[topo_seen C A,ao,ut];simp only[Iy,Hz,H5,exists_eq_or_imp];constructor
   ·rintro ((h|h)|h)
    ·exact .inr (.inl h)
    ·exact .inl h
    ·exact .inr (.inr h)
   ·rintro (h|h|h)
    ·exact .inl (.inr h)
    ·exact .inl (.inl h)
    ·exact .inr h
  rcases z with ⟨_,z⟩|⟨_,_,z⟩|⟨_,_,z⟩<;>exact B _ z
def topo_new:∀{l:List DOp} {seen j s:Nat},O2 l seen j=some s→∀x∈l,seen.testBit x.i=false
 |[],_,_,_,_,x,z=>by cases z
 |y::l,seen,j,s,h,x,z=>by
  obtain⟨_,C,A⟩:=z8u h;rcases H5.1 z with rfl|z
  ·exact C
  ·have B:∀g,O2 l (Nat.lor (2^y.i) seen) g=some s→seen.testBit x.i=false:=λg D=>by
    have:=topo_new D x z;rw[ao]at this;simp only[Bool.or_eq_false_iff]at this;exact this.2
   rcases A with ⟨_,A⟩|⟨_,_,A⟩|⟨_,_,A⟩<;>exact B _ A
def topo_chs:∀{l:List DOp} {seen j s:Nat},O2 l seen j=some s→∀x∈l,x.c≠.quiet→∀D,j.testBit D=true→x.m.testBit D=true
 |[],_,_,_,_,_,z=>by cases z
 |y::l,seen,j,s,h,x,z=>by
  intro C D A;obtain⟨_,E,g⟩:=z8u h;rcases H5.1 z with rfl|z
  ·rcases g with ⟨e,g⟩|⟨e,B,g⟩|⟨e,B,g⟩
   ·exact absurd e C
   ·exact B D A
   ·exact B D A
  ·rcases g with ⟨e,g⟩|⟨e,B,g⟩|⟨e,B,g⟩
   ·exact topo_chs g x z C D A
   ·exact topo_chs g x z C D A
   ·exact topo_chs g x z C D (by rw[ao,A];simp)
def zpd{z g:List DOp}{p:Nat}:∀x∈i7 z g p,x∈z:=λ_ j=>(Z7.1 j).1
def zig{z j:List DOp}:∀{l:List DOp} {p:Nat},(∀x∈l,x∈z)→∀x∈zna z j l p,x∈z
 |[],_,_,_,g=>by cases g
 |c::l,p,h,x,g=>by
  simp only[zna,H5,Ih]at g;rcases g with rfl|g|g
  ·exact h _ N
  ·exact zpd x g
  ·exact zig (λy A=>h y Ar) x g
def Zd{j:List DOp}:∀x∈zzf j (Nr M0 j),x∈j:=λx g=>by
 simp only[zzf,Ih]at g;rcases g with g|g
 ·exact zpd x g
 ·exact zig (λy z=>(Z7.1 z).1) x g
section
open Go.RowKit (Below)
def znu(g:AObj):Prop:=∀z j w o,(∀v,j.f o v=none)→Pr z j w o g
def MkOk(D:Program)(E:CM)(w:World)(z:Sem Next)(v:AV)(A:AObj):Prop :=
 ∃g n B x,z.run D w=.ok (.value x) (w.alloc g)∧∀(j:CM) (id:Nat),E.keep j→j id 0=some ⟨w.heap.size,0,n,B⟩ →
  VR j (P2 id v) x∧∀C,C≤w.heap.size→Pr C j (w.alloc g) id A
def x9(D:Program)(E:Tr AV)(A:Heap)(j:(Operand→Value)→Sem Next):OR→Prop
 |.no=>True
 |.val v z=>∃g,True∧z=A.push g∧Nl v=some A.next∧znu g∧∀B w C,xk B E C→MkOk D B w (j C) v g
 |.call _ _=>False
def Mk(A:Program)(B:OpF)(g:(Operand→Value)→Sem Next):Prop:=∀j z,x9 A j z g (B.run j z)
def Mk.congr{P:Program}{F:OpF}{nx gg:(Operand→Value)→Sem Next}(h:∀ρ,nx ρ=gg ρ)(s:Mk P F nx):Mk P F gg:=by
 rw[show gg=nx from funext λρ=>(h ρ).symm];exact s
def m7(j:Program)(g:(Operand→Value)→Sem Next):Mk j Np g:=λ_ _=>trivial
def zd0{l:List AV}{o:Nat}(h:newObj F l=some (o,vY)):True∧True∧o=F.next∧vY=F.push (.cells (Qz l 0 .e) l.length 0 false):=by
 unfold newObj at h;cases h;exact⟨trivial,trivial,rfl,rfl⟩
def zn1{l:List AV}(_:True):znu (.cells (Qz l 0 .e) l.length 0 false):=λz A w o j=>λB g=>by rw[j]at g;cases g
def d9{w:World}{l:List AV}{t:TypeId}(_hl:True)(hv:VRs M l vR.toList)(H:∀a∈l,a.one=true){E:Sem Next}{v:AV}{x:Value}
  (A:E.run B w=.ok (.value x) (w.alloc (.cells vR t))) (I:∀(z:CM) (id:Nat),z id 0=some ⟨w.heap.size,0,l.length,vR.size⟩→VR z (P2 id v) x) :
  MkOk B M w E v (.cells (Qz l 0 .e) l.length 0 false):=by
 have g:l.length=vR.toList.length:=hv.length;have C:l.length=vR.size:=A2
 refine⟨_,l.length,vR.size,x,A,λz id K F=>⟨I z id F,λQ L=>λR j=>?_⟩⟩;rw[F]at j;cases j;refine⟨rfl,λ_=>L,Bj,vR,t,0,0,ln _ _,Hw _,λi _ _=>J,?_⟩;intro k D;rw[get_ofList l 0 .e k,Hv J];obtain⟨a,v,G,O,P⟩:=hv.get' (i:=k) D;refine⟨a,Bk,H a (Ia G),v,?_,P.mono' K⟩;simpa using O
def zqc{l:List AV}{z:(Operand→Value)→Sem Next}{t:TypeId}
  (g:∀C w D,xk C P D→∃j:Array Value,VRs C l j.toList∧(∀a∈l,a.one=true)∧(z D).run B w=.ok (.value (.pointer (some ⟨w.heap.size,0,none⟩))) (w.alloc (.cells j t))) :
  x9 B P F z (Wm F l):=by
 unfold Wm;split
 ·rename_i o O E;obtain⟨G,A,rfl,rfl⟩:=zd0 E;refine⟨_,G,rfl,rfl,zn1 A,λC w D H=>?_⟩;obtain⟨j,I,K,L⟩:=g C w D H;refine d9 A I K L (λQ id M=>?_);simpa [P2] using VR.ptr (i:=0) M
 ·exact trivial
def io(g:Program)(t:TypeId):Mk g (Ny g (.alloc t)) (λ_=>do pure (.value (←Instr.alloc t true (.tuple #[])))):=by
 intro F j;show x9 g F j _ (OpF.run (match R6 g t with
  |some l=>⟨λ_ j=>Wm j l⟩
  |none=>Np) F j)
 cases z:R6 g t with
 |none=>exact trivial
 |some l =>
  refine zqc (t:=t) (λG w L H=>?_);obtain⟨v,i,A,B,I,K⟩:=ym (w:=w) z;obtain⟨D,E⟩:=Y7 (C:=G) B;exact⟨v.cells,D,E,by simp[Instr.alloc,A,newVar,newRow]⟩
def zqs{x:Operand}{f:Heap→AV→OR}{g:(Operand→Value)→Sem Next}(h:∀j z a,(Na x).run j=some a→x9 B j z g (f z a)):Mk B (Ps x f) g:=by
 intro j z;show x9 B j z g (Option.rec OR.no (λa=>f z a) ((Na x).run j));cases A:(Na x).run j with
 |none=>exact trivial
 |some a=>exact h _ _ _ A
def zvt{x y:Operand}{f:Heap→AV→AV→OR}{j:(Operand→Value)→Sem Next}(h:∀g z a b,(Na x).run g=some a→(Na y).run g=some b→x9 B g z j (f z a b)):Mk B (S9 x y f) j:=by
 intro g z;show x9 B g z j (Option.rec OR.no (λa=>Option.rec OR.no (λb=>f z a b) ((Na y).run g)) ((Na x).run g));cases A:(Na x).run g with
 |none=>exact trivial
 |some a =>
  cases C:(Na y).run g with
  |none=>exact trivial
  |some b=>exact h _ _ _ _ A C
def zw(C:Program)(t:TypeId)(x:Operand):Mk C (Ny C (.box t x)) (λD=>do pure (.value (←Instr.box t (D x)))):=by
 refine zqs λE F a g=>?_
 cases j:a.cells with
 |none=>exact trivial
 |some l =>
  refine zqc (t:=t) (λG w D z=>?_);obtain⟨A,B⟩:=(z _ _ g).cells j;exact⟨_,A,B,by simp[Instr.box,newVar,newRow]⟩
def zus{C:CM}{w:World}(t:TypeId){l:List AV}{o len esz:Nat}{cs:Array Value}(_hl:True)(hv:VRs C l cs.toList)(F:∀a∈l,a.one=true){cap:Nat}(I:cap*esz=l.length)(g:len≤cap)
  {D:Sem Next} (z:D.run B w=.ok (.value (.slice (some ⟨w.heap.size,0,none⟩) len cap)) (w.alloc (.cells cs t))):MkOk B C w D (.sl o 0 0 len esz (some cap)) (.cells (Qz l 0 .e) l.length 0 false):=by
 have j:l.length=cs.toList.length:=hv.length;have A:l.length=cs.size:=Bg
 have E:len*esz≤cap*esz:=H8 _ g;refine d9 _hl hv F z (λK id G=>?_);have:=VR.sl (i:=0) (len:=len) (esz:=esz) (room:=some cap) (cap:=cap) G Bj Bj g (λr H=>by cases H;exact⟨rfl,Bj⟩) (λh=>An);simpa [P2] using this
def zly(G:Program)(t:TypeId)(len:Nat)(j:Array (Nat×Operand)) :
  Mk G (xd G t len j) (λX=>do pure (.value (←Instr.buildSlice t len (j.map λ(i,x)=>(i,X x))))):=by
 unfold xd;split
 ·rename_i A hu;split
  ·exact m7 G _
  ·rename_i g F;split
   ·exact m7 G _
   ·rename_i gz Y;split
    ·rename_i z;obtain⟨Z,P⟩:=z;split
     ·exact m7 G _
     ·rename_i ps H;intro gA gC;dsimp only;split
      ·rename_i l hl;split
       ·rename_i o H' hn;obtain⟨n1,Q,rfl,rfl⟩:=zd0 hn;refine⟨_,n1,rfl,rfl,zn1 Q,λC w X hρ=>?_⟩;obtain⟨v,i,h1,h2,h3,h4⟩:=ym (w:=w) Y;obtain⟨I,k2⟩:=Y7 (C:=C) h2;have K:v.cells.size=g:=by
         have B:=I.length;unfold Ot at F;rw[h3]at F;simp at F B;omega
        have gg:gz.length=g:=by have B:=I.length;simp at B;omega
        have D:VRs C (S8 gz len) ((Array.range (len*g)).map λi=>v.cells[i%v.cells.size]!).toList:=by
         rw[←K,zbs];exact z4k I len
        obtain⟨R,T,U,q3⟩:=z64 H hρ hl D (z4l k2 len);have L:l.length=len*g:=by
         have B:=U.length;have e3:=zjj T;simp at e3 B;omega
        refine zus A Q U q3 L.symm (Hw _) ?_;have V:Instr.fill (λi=>some (i*g,g)) ((Array.range (len*g)).map λi=>v.cells[i%v.cells.size]!) (j.map λ(i,x)=>(i,X x)).toList=some R:=by
         rw[Jq];exact T
        have E:¬(len*g>2^24):=J
        simp only[Instr.buildSlice,Sem.run_bind,N6 hu,R5 F,Result.andThen_ok,Sem.run_ite,Hs E];by_cases M:len*g=0
        ·rw[Hv M];have O:Instr.fill (λi=>some (i*g,g)) ((Array.range (len*g)).map λi=>(#[]:Array Value)[i%(#[]:Array Value).size]!) (j.map λ(i,x)=>(i,X x)).toList=some R:=by
          rw[←V,M,w8,w8]
         simp only[Sem.run_pure,Result.andThen_ok,O,newRow,Sem.run_bind,run_newObj];rfl
        ·rw[Hs M];simp only[Sem.run_bind,h1,Sem.run_pure,Result.andThen_ok,V,newRow,run_newObj];rfl
       ·exact trivial
      ·exact trivial
    ·exact m7 G _
 ·exact m7 G _
def zvr(A:Program)(t:TypeId)(l c:Operand):Mk A (yr A t l c) (λO=>do pure (.value (←Instr.makeSlice t (O l) (O c)))):=by
 unfold yr;split
 ·rename_i g hu;split
  ·exact m7 A _
  ·rename_i i hi;split
   ·exact m7 A _
   ·rename_i gg Y;split
    ·rename_i j;obtain⟨P,B⟩:=j;refine zvt λgz gA a b D E=>?_
     split
     ·rename_i x y;split
      ·rename_i F;split
       ·rename_i Z;split
        ·rename_i o H' hn;obtain⟨n1,Q,rfl,rfl⟩:=zd0 hn;refine⟨_,n1,rfl,rfl,zn1 Q,λC w O R=>?_⟩;have T:=R _ _ D;have U:=R _ _ E;have z:x≤y:=H6 F;have G:y≤1048576:=H6 Z;obtain⟨v,gC,h1,h2,V,h4⟩:=ym (w:=w) Y;obtain⟨X,k2⟩:=Y7 (C:=C) h2;rw[hi]at V;cases V;have H:v.cells.size=i.size:=by have I:=X.length;simp at I;omega
         generalize K:O l=pl at T;generalize L:O c=pc at U;cases T;cases U;refine zus g Q (cs:=(Array.range (y*i.size)).map λk=>v.cells[k%v.cells.size]!) (by rw[←H,zbs];exact z4k X y) (z4l k2 y) (by rw[z5v,h4]) z ?_;have I:IntKind.i64.wrap (Int.ofNat x)=Int.ofNat x:=As
         have e2:IntKind.i64.wrap (Int.ofNat y)=Int.ofNat y:=As
         have e3:i.bytes*y≤65536*1048576:=Jr B G;have e4:¬((decide (Int.ofNat y<0) || decide ((i.bytes:Int)*Int.ofNat y>2^48) || decide (Int.ofNat x<0) || decide (Int.ofNat x>Int.ofNat y))=true):=by
          have e5:((i.bytes:Int)*Int.ofNat y)=((i.bytes*y:Nat):Int):=N
          rw[e5];simp only[Iy,Hz,not_or];refine⟨⟨⟨N,Ab⟩,N⟩,Ab⟩
         simp only[Instr.makeSlice,K,L,Sem.run_bind,N6 hu,mz hi,asInt,asIntOf,Sem.run_pure,Result.andThen_ok,I,e2,Sem.run_ite,Hs e4,run_askRoom,R5 (show Ot A g=some i.size from E5)];have e6:(Int.ofNat y).toNat=y:=rfl;have e7:(Int.ofNat x).toNat=x:=rfl;rw[e6,e7];by_cases M:y*i.size=0
         ·rw[Hv M];simp only[Sem.run_pure,Result.andThen_ok,newRow,Sem.run_bind,run_newObj];have:((Array.range (y*i.size)).map λk=>(#[]:Array Value)[k%(#[]:Array Value).size]!)=((Array.range (y*i.size)).map λk=>v.cells[k%v.cells.size]!):=by rw[M,w8,w8]
          rw[this];rfl
         ·rw[Hs M];simp only[Sem.run_bind,h1,Sem.run_pure,Result.andThen_ok,newRow,run_newObj];rfl
        ·exact trivial
       ·exact trivial
      ·exact trivial
     ·exact trivial
    ·exact m7 A _
 ·exact m7 A _
def zl9{A:(Operand→Value)→Sem Next}
  (z:∀(C:CM) w D,xk C P D→(A D).run B w=.ok (.value (.map (some w.heap.size))) (w.alloc (.map #[] 0))):x9 B P F A (Zv F):=by
 unfold Zv;refine⟨_,trivial,rfl,rfl,λI C w o E K g=>(by rw[E]at g;cases g),λC w D G=>?_⟩;refine⟨_,0,0,_,z C w D G,λL id M g=>⟨.map g,λI H K j=>?_⟩⟩;rw[g]at j;cases j;exact⟨H,#[],ln _ _,.nil⟩
def cw(z:Program)(t:TypeId)(r:Option Operand):Mk z (xh z t r) (λj=>do pure (.value (←Instr.makeMap t (r.map j)))):=by
 unfold xh;split
 ·intro C D;exact zl9 (λE w j g=>by simp[Instr.makeMap])
 ·rename_i x;split
  ·rename_i k e hu;refine zqs λC D a A=>?_
   split
   ·refine zl9 (λE w j g=>?_);have:=g _ _ A;generalize B:j x=F at this;cases this;simp[Instr.makeMap,N6 hu,B,asInt,asIntOf]
   ·exact trivial
  ·exact m7 z _
def ztz{P:Program}{o:Oper}(h:cls P o.op=.al):Mk P (Ny P o.op) (λg=>execOp g o):=by
 generalize ho:o.op=op at h;cases op with
 |alloc t=>exact Mk.congr (λg=>by simp only[execOp,ho]) (io P t)
 |box t x=>exact Mk.congr (λg=>Ah) (zw P t x)
 |buildSlice t n j=>exact Mk.congr (λg=>Ah) (zly P t n j)
 |makeMap t r=>exact Mk.congr (λg=>Ah) (cw P t r)
 |makeSlice t l c=>exact Mk.congr (λg=>Ah) (zvr P t l c)
 |slice t _ _ _ _=>simp only[cls]at h;split at h<;>cases h
 |convert s d x=>simp only[cls]at h;split at h<;>first|(cases h;done)|(split at h<;>cases h)
 |call c =>
  simp only[cls,zff]at h;split at h
  ·split at h
   ·split at h<;>cases h
   ·cases h
  all_goals cases h
 |_=>cases h
def CM.lift(C:CM)(n:Nat):CM:=⟨C.f,n⟩
def CM.le_lift{C:CM}{n:Nat}(h:C.nx≤n):C.le (C.lift n):=⟨λ_ _ _ h=>h,h,λ_ v L h=>.inl ⟨v,L,h⟩⟩
inductive Ups:Heap→Heap→Prop where
 |refl (H:Heap):Ups H H
 |push {H H':Heap} {ob:AObj} (hl:True) (hf:znu ob) (h:Ups (H.push ob) H'):Ups H H'
def Ups.next{H H':Heap}(h:Ups H H'):H.next≤H'.next:=by
 induction h with
 |refl=>exact Hw _
 |push _ _ _ ih=>exact Is (Ly _) ih
def Rel.up{gg:CM}{H:Heap}{w:World}(h:Rel v9 gg H w)(_:True){ob:AObj}(hf:znu ob):Rel v9 (gg.lift (H.next+1)) (H.push ob) w:=by
 have hle:gg.le (gg.lift (H.next+1)):=CM.le_lift (by rw[h.nx];exact Ly _);refine⟨rfl,h.low,λo v L hL=>?_,h.lt,h.excl,?_,?_⟩
 ·show o<H.next+1;have:=h.fresh o v L hL;omega
 ·intro o gz ho hg;by_cases e:o=H.next
  ·subst e;rw[Heap.get_push_same]at hg;cases hg;exact hf _ _ _ _ (λv=>h.next_none v)
  ·have C:o<H.next:=Be
   rw[Heap.get_push_ne _ _ C]at hg;exact (h.obj _ _ C hg).frame hle (λv L hL=>hL) (λv L hL=>rfl)
 ·intro o c len gA ro ho hg v L hL;by_cases e:o=H.next
  ·subst e;have:=h.fresh _ _ _ hL;omega
  ·have C:o<H.next:=Be
   rw[Heap.get_push_ne _ _ C]at hg;exact h.top _ _ _ _ _ C hg _ _ hL
def Rel.ups{H:Heap}{w:World}(hu:Ups H vY):∀{C:CM},Rel v9 C H w→Rel v9 (C.lift vY.next) vY w:=by
 induction hu with
 |refl H=>intro C h;rw[←h.nx];exact h
 |push hl hf _ ih =>
  intro C h;have h1:=h.up hl hf;have h2:=ih h1;exact h2
def zpb{c:Tr AV}{len:Nat}(h:zrj c P len=true):∀j,j<len→Mt (M9 j) c=Mt (M9 j) P:=by
 unfold zrj at h;split at h
 ·rename_i l C D E;obtain⟨K,F⟩:=nr D;obtain⟨L,G⟩:=nr E;have he:l=C:=by
   have:∀(x y:List AV),aa (Qw 30) x y=true→x=y:=by
    intro x
    induction x with
    |nil=>intro y g;cases y with
     |nil=>rfl
     |cons _ _=>cases g
    |cons c x H =>
     intro y g;cases y with
     |nil=>cases g
     |cons d y =>
      simp only[aa]at g;split at g
      ·rename_i I;rw[eqAV_spec 30 c d I,H y g]
      ·cases g
   exact this _ _ h
  intro j z;have A:=F j z;have B:=G j z;rw[Iq]at A B;rw[A,B,he]
 ·cases h
def Pr.eqObj{B:Nat}{gC:CM}{w:World}{o:Nat}{a b:AObj}(h:Sv.eqObj a b=true)(k:Pr B gC w o b):Pr B gC w o a:=by
 unfold Sv.eqObj at h;split at h
 ·rename_i c len gA ro c' gg gz C;simp only[Hq]at h;obtain⟨⟨⟨h1,h2⟩,h3⟩,h4⟩:=h;obtain rfl:=H0 h1;obtain rfl:=H0 h2;obtain rfl:ro=C:=by simpa using h3
  intro L hL;obtain⟨p1,p2,p3,vs,e,lo,hi,p4,p5,p6,p7⟩:=k L hL;exact⟨p1,p2,p3,vs,e,lo,hi,p4,p5,p6,λi hi=>by rw[zpb h4 i hi];exact p7 i hi⟩
 ·obtain rfl:=H0 h;exact k
 ·cases h
def zlm{b:Bool}{x y:vU}(g:b=true→x=y)(h:Xo b x y=true):x=y:=by
 unfold Xo at h;split at h
 ·exact g rfl
 ·exact @J4 _ (Classical.propDecidable _) h
def kw{b:Bool}{x y:vU}(h:Xo b x y=true):b=true∨x=y:=by
 unfold Xo at h;split at h
 ·exact .inl rfl
 ·exact .inr (@J4 _ (Classical.propDecidable _) h)
def Pr.same{B:Nat}{C:CM}{w:World}{o:Nat}{a b:AObj}(h:Xo (Sv.eqObj a b) a b=true)(k:Pr B C w o b):Pr B C w o a:=by
 rcases kw h with h|h
 ·exact k.eqObj h
 ·rw[h];exact k
def Rel.bind{gD:CM}{H:Heap}{w:World}(h:Rel v9 gD H w){id n sz:Nat}(gF:id<H.next)(hn:∀v,gD id v=none){ob:AObj}(hg:H.get id=some ob)(gA:Obj)
  (gE:Pr v9.heap.size (gD.ext id 0 ⟨w.heap.size,0,n,sz⟩) (w.alloc gA) id ob):Rel v9 (gD.ext id 0 ⟨w.heap.size,0,n,sz⟩) H (w.alloc gA)∧gD.keep (gD.ext id 0 ⟨w.heap.size,0,n,sz⟩):=by
 have hk:gD.keep (gD.ext id 0 ⟨w.heap.size,0,n,sz⟩):=λo' v' L' h'=>by
  by_cases e:o'=id∧v'=0
  ·obtain⟨rfl,rfl⟩:=e;rw[hn]at h';cases h'
  ·rw[CM.ext_ne gD _ e];exact h'
 refine⟨⟨by show max gD.nx (id+1)=H.next;rw[h.nx];omega,h.low.alloc h.low.size gA,?_,?_,?_,?_,?_⟩,hk⟩
 ·intro o v L C;by_cases e:o=id∧v=0
  ·omega
  ·rw[CM.ext_ne _ _ e]at C;exact h.fresh _ _ _ C
 ·intro o v L C;rw[World.size_alloc];by_cases e:o=id∧v=0
  ·obtain⟨rfl,rfl⟩:=e;rw[CM.ext_same]at C;cases C;exact I4 _
  ·rw[CM.ext_ne _ _ e]at C;have:=h.lt _ _ _ C;omega
 ·intro o v L o' v' L' C gg hb hB;by_cases e:o=id∧v=0<;>by_cases e':o'=id∧v'=0
  ·omega
  ·obtain⟨rfl,rfl⟩:=e;rw[CM.ext_same]at C;cases C;rw[CM.ext_ne _ _ e']at gg;have:=h.lt _ _ _ gg;dsimp at hb;omega
  ·obtain⟨rfl,rfl⟩:=e';rw[CM.ext_same]at gg;cases gg;rw[CM.ext_ne _ _ e]at C;have:=h.lt _ _ _ C;dsimp at hb;omega
  ·rw[CM.ext_ne _ _ e]at C;rw[CM.ext_ne _ _ e']at gg;exact h.excl _ _ _ _ _ _ C gg hb hB
 ·intro o gG ho gz;by_cases e:o=id
  ·subst e;rw[hg]at gz;cases gz;exact gE
  ·have gC:=h.obj _ _ ho gz;refine gC.frame' hk (λv L C=>?_) (λv L C=>z6x _ _ (h.lt _ _ _ C))
   rwa [CM.ext_ne _ _ J]at C
 ·intro o c len gH ro ho gz v L C;by_cases e:o=id∧v=0
  ·omega
  ·rw[CM.ext_ne _ _ e]at C;exact h.top _ _ _ _ _ ho gz _ _ C
end
section
section zrl
variable {P : Program} {n : Nat} {ops : Array Oper} {k : Qe} {L : List DOp} {E0 Ef : Tr AV}
def Wq(L:List DOp)(S:Nat→Prop)(t:Nat):Prop:=∃y∈L,S y.i∧y.o.dst=some t
open Classical in
noncomputable def n7(L:List DOp)(E0 Ef:Tr AV)(S:Nat→Prop)(t:Nat):Option AV:=if Wq L S t then Mt (M9 t) Ef else Mt (M9 t) E0
def O7(m:Nat)(g:Nat):Prop:=m.testBit g=true
def au(L:List DOp)(E0 Ef:Tr AV)(S:Nat→Prop)(g:Tr AV):Prop:=∀t,t≤P0→Mt (M9 t) g=n7 L E0 Ef S t
def V7(ops:Array Oper)(L:List DOp)(E0 Ef:Tr AV)(x:DOp)(E:Tr AV):Prop:=∀t∈Ue ops x.o,t≤P0→Mt (M9 t) E=n7 L E0 Ef (O7 x.m) t
def Rm(P:Program)(n:Nat)(ops:Array Oper)(k:Qe)(L:List DOp)(E0 Ef:Tr AV)(x:DOp)(z g:Heap):Prop :=
 ∀j,V7 ops L E0 Ef x j→∃v,(Qj P n ops x.o).run k j z=.ok (Oo x.o.dst v j) g∧∀d,x.o.dst=some d→Mt (M9 d) Ef=some v∧d<n
def DC(L:List DOp)(S:Nat→Prop):Prop:=∀y∈L,S y.i→∀g,O7 y.m g→S g
structure Fit (P:Program) (ops:Array Oper) (L:List DOp):Prop where
 ok:LOk P ops L
 dst:∀x∈L,∀y∈L,∀d,x.o.dst=some d→y.o.dst=some d→x=y
 look:∀x∈L,∀y∈L,zuf x y=true
def zr1{x y:DOp}(h:zuf x y=true){d:Nat}(hd:y.o.dst=some d)(g:x.lm.testBit d=true) :
  (x.i=y.i∧Tz x=false)∨(x.i≠y.i∧(O7 x.m y.i∨(O7 y.m x.i∧Tz x=false))):=by
 unfold zuf at h;rw[hd]at h;dsimp only at h;rw[g]at h;dsimp only at h;split at h
 ·rename_i e;exact .inl ⟨H0 e,Av⟩
 ·rename_i e;refine .inr ⟨λq=>?_,?_⟩
  ·rw[q,It]at e;cases e
  ·split at h
   ·rename_i q;exact .inl q
   ·split at h
    ·rename_i q;exact .inr ⟨q,Av⟩
    ·cases h
def jn(G:Fit P ops L){S:Nat→Prop}(C:DC L S){x:DOp}(B:x∈L)(hm:∀H,O7 x.m H→S H)(g:¬S x.i∨Tz x=true)(D:au L E0 Ef S vG):V7 ops L E0 Ef x vG:=by
 intro t E F;rw[D t F];unfold n7;have:Wq L S t↔Wq L (O7 x.m) t:=by
  constructor
  ·rintro⟨y,j,A,hd⟩;refine⟨y,j,?_,hd⟩;rcases zr1 (G.look x B y j) hd (G.ok.lm x B t E) with ⟨e,z⟩|⟨_,h|⟨h,z⟩⟩
   ·rcases g with g|g
    ·rw[e]at g;exact absurd A g
    ·rw[g]at z;cases z
   ·exact h
   ·rcases g with g|g
    ·exact absurd (C y j A _ h) g
    ·rw[g]at z;cases z
  ·rintro⟨y,j,A,hd⟩;exact⟨y,j,hm _ A,hd⟩
 by_cases h:Wq L S t
 ·rw[Hv h,Hv (this.1 h)]
 ·rw[Hs h,Hs (λq=>h (this.2 q))]
def V7.same{x:DOp}{E:Tr AV}(h:V7 ops L E0 Ef x E)(h':V7 ops L E0 Ef x vG):Ri (Ue ops x.o) vG E:=λt ht hl=>by rw[h t ht hl,h' t ht hl]
def nj(d:Tmp)(v:AV)(g:Tr AV):Mt (M9 d) (Oo (some d) v g)=some v:=zah _ _ _
def z9b{x:DOp}{E1:Tr AV}(h:(Qj P n ops x.o).run k vG F=.ok E1 vY)(z:V7 ops L E0 Ef x vG)
  (A:∀d,x.o.dst=some d→d<n→Mt (M9 d) Ef=Mt (M9 d) E1):Rm P n ops k L E0 Ef x F vY:=by
 obtain⟨v,B,j,C⟩:=z5x h;intro D g;refine⟨v,C D (z.same g),λd hd=>⟨?_,j d hd⟩⟩;rw[A d hd (j d hd),B,hd,nj]
def au.put(F:Fit P ops L)(_hn:n≤P0){S:Nat→Prop}{E:Tr AV}(h:au L E0 Ef S E){x:DOp}(hx:x∈L){v:AV}(hv:∀d,x.o.dst=some d→Mt (M9 d) Ef=some v∧d<n) :
  au L E0 Ef (λj=>S j∨j=x.i) (Oo x.o.dst v E):=by
 intro t ht;have key:Wq L (λj=>S j∨j=x.i) t↔(Wq L S t∨x.o.dst=some t):=by
  constructor
  ·rintro⟨y,hy,hs|hs,hd⟩
   ·exact .inl ⟨y,hy,hs,hd⟩
   ·rw[F.ok.inj y hy x hx hs]at hd;exact .inr hd
  ·rintro (⟨y,hy,hs,hd⟩|hd)
   ·exact⟨y,hy,.inl hs,hd⟩
   ·exact⟨x,hx,.inr rfl,hd⟩
 unfold n7;cases hd:x.o.dst with
 |none =>
  rw[hd]at key;have:Wq L (λj=>S j∨j=x.i) t↔Wq L S t:=by rw[key];simp
  rw[show Oo none v E=E from rfl,h t ht];unfold n7;by_cases q:Wq L S t
  ·rw[Hv q,Hv (this.2 q)]
  ·rw[Hs q,Hs (λz=>q (this.1 z))]
 |some d =>
  rw[hd]at key;obtain⟨gg,gz⟩:=hv d hd;rw[show Oo (some d) v E=Oh v (M9 d) E from rfl,zjh];by_cases e:t=d
  ·subst e;rw[Hv rfl,Hv (key.2 (.inr rfl)),gg]
  ·rw[Hs e,h t ht];unfold n7;have:Wq L (λj=>S j∨j=x.i) t↔Wq L S t:=by
    rw[key];constructor
    ·rintro (q|q)
     ·exact q
     ·exact absurd (Option.some.inj q).symm e
    ·exact .inl
   by_cases q:Wq L S t
   ·rw[Hv q,Hv (this.2 q)]
   ·rw[Hs q,Hs (λz=>q (this.1 z))]
def zdx{r:OE}{f:Tr AV→Heap→OE}(h:(OE.rec .no f r:OE)=.ok vG F):∃g j,r=.ok g j∧f g j=.ok vG F:=by
 cases r with
 |no=>cases h
 |ok g j=>exact⟨g,j,rfl,h⟩
def z97{b:Bool}{r:OE}(h:(Bool.rec .no r b:OE)=.ok vG F):b=true∧r=.ok vG F:=by
 cases b with
 |false=>cases h
 |true=>exact⟨rfl,h⟩
def zk1{x:DOp}{l g:List DOp}{G:Tr AV}(h:(Uo P n ops (x::l) g).run k vG F=.ok G vY) :
  ∃z A j,(Qj P n ops x.o).run k vG F=.ok z A∧(Uo P n ops l j).run k z A=.ok G vY ∧
   ((x.c=.quiet∧j=g)∨(x.c=.rd∧j=x::g)∨(x.c=.al∧j=x::g∧(q9 P ops (x::g)).run z A=true) ∨
    (x.c=.ch∧j=Nr (λy=>!(Nat.testBit x.m y.i)) g∧(q9 P ops j).run z A=true)):=by
 simp only[Uo]at h;split at h
 ·rename_i C;obtain⟨z,A,D,B⟩:=zdx h;exact⟨z,A,g,D,B,.inl ⟨C,rfl⟩⟩
 ·rename_i C;obtain⟨z,A,D,B⟩:=zdx h;exact⟨z,A,x::g,D,B,.inr (.inl ⟨C,rfl⟩)⟩
 ·rename_i C;obtain⟨z,A,D,B⟩:=zdx h;obtain⟨E,B⟩:=z97 B;exact⟨z,A,x::g,D,B,.inr (.inr (.inl ⟨C,rfl,E⟩))⟩
 ·rename_i C;obtain⟨z,A,D,B⟩:=zdx h;obtain⟨E,B⟩:=z97 B;exact⟨z,A,_,D,B,.inr (.inr (.inr ⟨C,rfl,E⟩))⟩
def zg1(D:n≤P0){d:Nat}(hd:d≤P0):∀{l g:List DOp} {A j:Tr AV} {I B:Heap},(Uo P n ops l g).run k A I=.ok j B→(∀y∈l,y.o.dst≠some d)→Mt (M9 d) j=Mt (M9 d) A
 |[],_,_,_,_,_,h,_=>Br
 |x::l,g,A,j,I,B,h,C=>by
  obtain⟨K,M,z,E,F,_⟩:=zk1 h;rw[zg1 D hd F (λy q=>C y (by simp[q]))];obtain⟨v,G,O,_⟩:=z5x E;rw[G];cases H:x.o.dst with
  |none=>rfl
  |some e =>
   rw[show Oo (some e) v A=Oh v (M9 e) A from rfl,z5b];intro q;subst q;exact C x N H
def rechecks_mem:∀{l:List DOp} {j:Tr AV} {z:Heap},(q9 P ops l).run j z=true→∀x∈l,(bv P ops x).run j z=true
 |[],_,_,_,x,g=>by cases g
 |y::l,j,z,h,x,g=>by
  simp only[q9]at h;split at h
  ·rename_i A;rcases H5.1 g with rfl|g
   ·exact A
   ·exact rechecks_mem h x g
  ·cases h
def zo4(T:Fit P ops L){x:DOp}(K:x∈L)(D:x.c=.rd)(E:V7 ops L E0 Ef x vG)(M:Rm P n ops k L E0 Ef x F F)(O:∀d,x.o.dst=some d→Mt (M9 d) Ef=Mt (M9 d) vG)
  (h:(bv P ops x).run vG vY=true):Rm P n ops k L E0 Ef x vY vY:=by
 have B:Yk (Ny P x.o.op):=zbt.2 (by rw[←T.ok.cl x K];exact D);obtain⟨v,g,Q⟩:=M vG E;unfold bv at h;cases hd:x.o.dst with
 |none=>rw[hd]at h;cases h
 |some d =>
  rw[hd]at h g;dsimp only at h;obtain⟨hv,C⟩:=Q d hd;have R:Qk n (some d)=some ⟨λa vG=>Oh a (M9 d) vG⟩:=by unfold Qk;dsimp only;rw[Hv C]
  have j:(Qj P n ops x.o).run k vG vY=.ok (Oo (some d) v vG) vY:=by
   unfold Qj at g ⊢;rw[hd,R]at g ⊢;dsimp only at g ⊢;cases G:(R3 ops x.o).run vG with
   |false =>
    rw[G]at g;dsimp only at g ⊢;injection g with g
    rw[g]
   |true =>
    rw[G]at h g;dsimp only at h g ⊢;rw[←O d hd,hv]at h;dsimp only at h;have H:=B vG vY;cases A:(Ny P x.o.op).run vG vY with
    |no=>rw[A]at h;cases h
    |call t I=>rw[A]at h;cases h
    |val U V =>
     rw[A,D]at h;rw[A]at H;dsimp only at h ⊢;cases H;rw[zlm (eqAV_spec _ _ _) h];rfl
  refine z9b j E (λX z _=>?_);rw[hd]at z;cases z;rw[nj,hv]
def Qr(P:Program)(n:Nat)(ops:Array Oper)(k:Qe)(L:List DOp)(E0 Ef:Tr AV)(x:DOp):Prop:=∀g,Rm P n ops k L E0 Ef x g g
noncomputable def Qa(Ef:Tr AV)(x:DOp):Nat:=((x.o.dst.bind λd=>Mt (M9 d) Ef).bind Nl).getD 0
def i1(P:Program)(n:Nat)(ops:Array Oper)(L:List DOp)(E0 Ef:Tr AV)(x:DOp)(g:Heap):Prop :=
 ∃d j,x.o.dst=some d∧d<n∧Mt (M9 d) Ef=some j∧Nl j=some (Qa Ef x)∧∀B,V7 ops L E0 Ef x B→(R3 ops x.o).run B=true ∧
  ∃z A,(Ny P x.o.op).run B g=.val z A∧j=P2 (Qa Ef x) z∧∃a b,g.get (Qa Ef x)=some a∧A.get g.next=some b∧Xo (eqObj a b) a b=true
def z7n{x:DOp}{g:Tr AV}(j:Ri (Ue ops x.o) g vG):(Ny P x.o.op).run g F=(Ny P x.o.op).run vG F :=
 zjt (Ri.opds (λt z=>j t (by simp[Ue,z])))
def X5{x:DOp}(C:x.c=.al)(H:V7 ops L E0 Ef x vG)(K:(R3 ops x.o).run vG=true){d:Nat}(hd:x.o.dst=some d)(D:d<n)(hv:Mt (M9 d) Ef=some I)
  (Q:Mt (M9 d) vG=some I) (h:(bv P ops x).run vG F=true):i1 P n ops L E0 Ef x F:=by
 unfold bv at h;rw[hd]at h;dsimp only at h;rw[K,Q]at h;dsimp only at h;cases A:(Ny P x.o.op).run vG F with
 |no=>rw[A]at h;cases h
 |call t M=>rw[A]at h;cases h
 |val E O =>
  rw[A,C]at h;dsimp only at h;unfold Wv at h;cases j:Nl I with
  |none=>rw[j]at h;cases h
  |some id =>
   rw[j]at h;dsimp only at h;have g:Qa Ef x=id:=by unfold Qa;rw[hd];simp[hv,j]
   cases he:Xo (Qw 30 I (P2 id E)) I (P2 id E) with
   |false=>rw[he]at h;cases h
   |true =>
    rw[he]at h;dsimp only at h;cases B:F.get id with
    |none=>rw[B]at h;cases h
    |some a =>
     cases G:O.get F.next with
     |none=>rw[B,G]at h;cases h
     |some b =>
      rw[B,G]at h;refine⟨d,I,hd,D,hv,by rw[g,j],λR z=>⟨by rw[xq (H.same z)];exact K,E,O,by rw[z7n (H.same z)];exact A,by rw[g];exact zlm (eqAV_spec _ _ _) he,a,b,by rw[g];exact B,G,h⟩⟩
def i5(Y:Fit P ops L){x:DOp}(R:x∈L)(z:x.c=.al){E1:Tr AV}(h:(Qj P n ops x.o).run k vG F=.ok E1 vY)(M:V7 ops L E0 Ef x vG)(A:V7 ops L E0 Ef x E1)
  (O:∀d,x.o.dst=some d→d<n→Mt (M9 d) Ef=Mt (M9 d) E1) (g:(bv P ops x).run E1 vY=true) :
  (Qr P n ops k L E0 Ef x∧vY=F)∨(∃E,True∧vY=F.push E∧znu E∧Qa Ef x=F.next∧i1 P n ops L E0 Ef x vY):=by
 have j:=ztz (P:=P) (o:=x.o) (by rw[←Y.ok.cl x R];exact z) vG F;have Z:=h;unfold Qj at h;cases G:Qk n x.o.dst with
 |none=>rw[G]at h;cases h
 |some p =>
  rw[G]at h;dsimp only at h;obtain⟨B,I⟩:=zb5 G;cases H:(R3 ops x.o).run vG with
  |false =>
   rw[H]at h;cases h;refine .inl ⟨λT=>?_,rfl⟩;refine z9b (E1:=p.run Rh vG) ?_ M O;unfold Qj;rw[G];dsimp only;rw[H]
  |true =>
   rw[H]at h;dsimp only at h;cases K:(Ny P x.o.op).run vG F with
   |no=>rw[K]at h;cases h
   |call t Q=>rw[K]at j;exact j.elim
   |val v T =>
    rw[K]at h j;cases h;obtain⟨E,U,rfl,V,X,_⟩:=j;cases hd:x.o.dst with
    |none =>
     unfold bv at g;rw[hd]at g;cases g
    |some d =>
     have C:=I d hd;have D:Mt (M9 d) (p.run v vG)=some v:=by rw[B,hd,nj]
     have hv:Mt (M9 d) Ef=some v:=by rw[O d hd C,D]
     refine .inr ⟨E,U,rfl,X,?_,X5 z A (by rw[xq (M.same A)];exact H) hd C hv D g⟩;unfold Qa;rw[hd];simp[hv,V]
def zq4(P:Program)(n:Nat)(ops:Array Oper)(k:Qe)(L:List DOp)(E0 Ef:Tr AV)(x:DOp)(g:Heap):Prop :=
 (x.c=.rd∧Rm P n ops k L E0 Ef x g g)∨(x.c=.al∧(Qr P n ops k L E0 Ef x∨i1 P n ops L E0 Ef x g))
def zoa(H:Fit P ops L){x:DOp}(D:x∈L)(z:V7 ops L E0 Ef x vG)(g:zq4 P n ops k L E0 Ef x F)(A:∀d,x.o.dst=some d→Mt (M9 d) Ef=Mt (M9 d) vG)
  (h:(bv P ops x).run vG vY=true):zq4 P n ops k L E0 Ef x vY:=by
 rcases g with ⟨j,g⟩|⟨j,g|g⟩
 ·exact .inl ⟨j,zo4 H D j z g A h⟩
 ·exact .inr ⟨j,.inl g⟩
 ·obtain⟨d,I,B,E,C,_,G⟩:=g;exact .inr ⟨j,.inr (X5 j z (G vG z).1 B E C (by rw[←A d B];exact C) h)⟩
def AlPh(P:Program)(n:Nat)(ops:Array Oper)(L:List DOp)(E0 Ef:Tr AV)(ch:List DOp)(j g:Nat→Heap)(x:DOp)(r:Nat):Prop :=
 r≤ch.length∧(∀q c,q<r→ch[q]?=some c→O7 x.m c.i)∧(j r).next≤Qa Ef x∧Qa Ef x<(g r).next ∧
  ∀p,r≤p→p≤ch.length→(∀q c,r≤q→q<p→ch[q]?=some c→¬O7 c.m x.i)→i1 P n ops L E0 Ef x (g p)
def zrl(gY:Fit P ops L)(hn:n≤P0):∀(l E:List DOp) (seen G s:Nat) (jD:Tr AV) (gV H':Heap),(Uo P n ops l E).run k jD gV=.ok Ef H'→O2 l seen G=some s→(∀x∈l,x∈L) →
  (∀x∈E,x∈L∧Tz x=true∧O7 seen x.i∧(∀d,x.o.dst=some d→d<n)∧zq4 P n ops k L E0 Ef x gV)→au L E0 Ef (O7 seen) jD→DC L (O7 seen) →
  au L E0 Ef (O7 s) Ef∧DC L (O7 s) ∧
  ∃(Hb R:Nat→Heap) (T:Nat→Nat),Hb 0=gV∧R (Nr M0 l).length=H'∧(∀p,p≤(Nr M0 l).length→Ups (Hb p) (R p)) ∧
   (∀q c,(Nr M0 l)[q]?=some c→Rm P n ops k L E0 Ef c (R q) (Hb (q+1))) ∧
   (∀x∈l,x.c=.rd→∃r,r≤(Nr M0 l).length∧(∀q c,q<r→(Nr M0 l)[q]?=some c→O7 x.m c.i)∧∀p,r≤p→p≤(Nr M0 l).length→(∀q c,r≤q→q<p→(Nr M0 l)[q]?=some c→¬O7 c.m x.i)→Rm P n ops k L E0 Ef x (R p) (R p)) ∧
   (∀x∈l,x.c=.quiet→∀H2,Rm P n ops k L E0 Ef x H2 H2) ∧
   (∀x∈l,x.c=.al→Qr P n ops k L E0 Ef x∨AlPh P n ops L E0 Ef (Nr M0 l) Hb R x (T x.i)) ∧
   (∀x∈l,∀y∈l,x.c=.al→y.c=.al→¬Qr P n ops k L E0 Ef x→¬Qr P n ops k L E0 Ef y→T x.i=T y.i→Qa Ef x=Qa Ef y→x=y) ∧
   (∀x∈E,∀p,p≤(Nr M0 l).length→(∀q c,q<p→(Nr M0 l)[q]?=some c→¬O7 c.m x.i)→zq4 P n ops k L E0 Ef x (R p))
 |[],E,seen,G,s,jD,gV,H',h,ht,hl,hp,hE,hD=>by
  cases h;simp only[O2,Option.some.injEq]at ht;subst ht;refine⟨hE,hD,λ_=>gV,λ_=>gV,λ_=>0,rfl,rfl,λ_ _=>.refl _,λq c K=>(by cases K),λx F=>(by cases F),λx F=>(by cases F),λx F=>(by cases F),λx F=>(by cases F),λx F p _ _=>(hp x F).2.2.2.2⟩
 |x::l,E,seen,G,s,jD,gV,H',h,ht,hl,hp,hE,hD=>by
  obtain⟨E1,Z,U,h1,h2,h3⟩:=zk1 h;obtain⟨t1,t2,t3⟩:=z8u ht;have F:x∈L:=hl x N;have gZ:V7 ops L E0 Ef x jD:=jn gY hD F t1 (.inl (by unfold O7;rw[t2];simp)) hE;have gO:∀y∈l,y.i≠x.i:=by
   have jE:∀gP,O2 l (Nat.lor (2^x.i) seen) gP=some s→∀y∈l,y.i≠x.i:=λgP h' y j e=>by
    have:=topo_new h' y j;rw[ao,ut,e]at this;simp at this
   rcases t3 with ⟨_,h3⟩|⟨_,_,h3⟩|⟨_,_,h3⟩<;>exact jE _ h3
  obtain⟨v,s1,s2,s3⟩:=z5x h1;have X:∀d,x.o.dst=some d→d<n→Mt (M9 d) Ef=Mt (M9 d) E1:=λd hd jF =>
   zg1 hn (Is (Ma jF) hn) h2 (λy j e=>gO y j (by rw[gY.dst y (hl y Af) x F d e hd]))
  have gA:Rm P n ops k L E0 Ef x gV Z:=z9b h1 gZ X;have hS:(O7 (Nat.lor (2^x.i) seen))=λg8=>O7 seen g8∨g8=x.i:=by
   funext g8
   unfold O7;rw[ao,ut];simp only[Iy,Hz,eq_iff_iff];constructor
   ·rintro (e|e)
    ·exact .inr e.symm
    ·exact .inl e
   ·rintro (e|e)
    ·exact .inr e
    ·exact .inl e.symm
  have gg:au L E0 Ef (O7 (Nat.lor (2^x.i) seen)) E1:=by
   rw[hS,s1];refine hE.put gY hn F (λd hd=>⟨?_,s2 d hd⟩);rw[X d hd (s2 d hd),s1,hd,nj]
  have gz:DC L (O7 (Nat.lor (2^x.i) seen)):=by
   rw[hS];rintro y j (hs|hs) g8 hj
   ·exact .inl (hD y j hs g8 hj)
   ·rw[gY.ok.inj y j x F hs]at hj;exact .inl (t1 g8 hj)
  have gI:∀y∈l,y∈L:=λy j=>hl y Af
  have H:O7 (Nat.lor (2^x.i) seen) x.i:=by rw[hS];exact .inr rfl
  have A:∀g8,O7 seen g8→O7 (Nat.lor (2^x.i) seen) g8:=λg8 hj=>by rw[hS];exact .inl hj
  have I:∀y,y∈L→Tz y=true→O7 (Nat.lor (2^x.i) seen) y.i→V7 ops L E0 Ef y E1:=λy a b c=>jn gY gz a (λg8 hj=>gz y a c g8 hj) (.inr b) gg
  have gQ:∀y,y∈L→O7 (Nat.lor (2^x.i) seen) y.i→(∀d,y.o.dst=some d→d<n)→∀d,y.o.dst=some d→Mt (M9 d) Ef=Mt (M9 d) E1:=λy a c hd e he=>by
   rw[gg e (Is (Ma (hd e he)) hn)];unfold n7;rw[Hv ⟨y,a,c,he⟩]
  rcases h3 with ⟨z,rfl⟩|⟨z,rfl⟩|⟨z,rfl,gK⟩|⟨z,jg,gK⟩
  ·
   have O:O2 l (Nat.lor (2^x.i) seen) G=some s:=by
    rcases t3 with ⟨_,t3⟩|⟨e,_⟩|⟨e,_⟩
    ·exact t3
    ·rw[z]at e;rcases e with e|e<;>cases e
    ·rw[z]at e;cases e
   have K:S6 (Ny P x.o.op):=zbt.1 (by rw[←gY.ok.cl x F];exact z);have hH:Z=gV:=z5s K.reads h1;subst hH;have hf:Nr M0 (x::l)=Nr M0 l:=B3
   obtain⟨r0,V,Hb,R,T,r1,r2,ru,r3,r4,r5,ra,ri,r6⟩:=zrl gY hn l U _ G s E1 Z H' h2 O gI (λy j=>let ⟨a,b,c,d⟩:=hp y j;⟨a,b,A _ c,d⟩) gg gz;rw[hf];refine⟨r0,V,Hb,R,T,r1,r2,ru,r3,λy j g=>?_,λy j g H2=>?_,λy j g=>?_,λy j jB Y g C=>?_,r6⟩
   ·rcases H5.1 j with rfl|j
    ·rw[z]at g;cases g
    ·exact r4 y j g
   ·rcases H5.1 j with rfl|j
    ·exact z9b (zkm K h1 H2) gZ X
    ·exact r5 y j g H2
   ·rcases H5.1 j with rfl|j
    ·rw[z]at g;cases g
    ·exact ra y j g
   ·rcases H5.1 j with rfl|j
    ·rw[z]at g;cases g
    ·rcases H5.1 Y with rfl|Y
     ·rw[z]at C;cases C
     ·exact ri y j jB Y g C
  ·
   have O:O2 l (Nat.lor (2^x.i) seen) G=some s:=by
    rcases t3 with ⟨e,_⟩|⟨_,_,t3⟩|⟨e,_⟩
    ·rw[z]at e;cases e
    ·exact t3
    ·rw[z]at e;cases e
   have K:Yk (Ny P x.o.op):=zbt.2 (by rw[←gY.ok.cl x F];exact z);have hH:Z=gV:=z5s K h1;subst hH;have hf:Nr M0 (x::l)=Nr M0 l:=B3
   obtain⟨r0,V,Hb,R,T,r1,r2,ru,r3,r4,r5,ra,ri,r6⟩:=zrl gY hn l (x::E) _ G s E1 Z H' h2 O gI (λy j=>by
    rcases H5.1 j with rfl|j
    ·exact⟨F,by unfold Tz;rw[z],H,s2,.inl ⟨z,gA⟩⟩
    ·obtain⟨a,b,c,d⟩:=hp y j;exact⟨a,b,A _ c,d⟩) gg gz
   rw[hf];refine⟨r0,V,Hb,R,T,r1,r2,ru,r3,λy j g=>?_,λy j g H2=>?_,λy j g=>?_,λy j jB Y g C=>?_,λy j=>r6 y Af⟩
   ·rcases H5.1 j with rfl|j
    ·refine⟨0,Kn _,λq c K=>absurd K (L6 q),λp _ B D=>?_⟩;rcases r6 y N p B (λq c K=>D q c (Kn q) K) with ⟨_,h⟩|⟨h,_⟩
     ·exact h
     ·rw[z]at h;cases h
    ·exact r4 y j g
   ·rcases H5.1 j with rfl|j
    ·rw[z]at g;cases g
    ·exact r5 y j g H2
   ·rcases H5.1 j with rfl|j
    ·rw[z]at g;cases g
    ·exact ra y j g
   ·rcases H5.1 j with rfl|j
    ·rw[z]at g;cases g
    ·rcases H5.1 Y with rfl|Y
     ·rw[z]at C;cases C
     ·exact ri y j jB Y g C
  ·
   have O:O2 l (Nat.lor (2^x.i) seen) G=some s:=by
    rcases t3 with ⟨e,_⟩|⟨_,_,t3⟩|⟨e,_⟩
    ·rw[z]at e;cases e
    ·exact t3
    ·rw[z]at e;cases e
   have gC:Tz x=true:=by unfold Tz;rw[z]
   have hf:Nr M0 (x::l)=Nr M0 l:=B3
   have gD:=i5 gY F z h1 gZ (I x F gC H) X (rechecks_mem gK x N);have jG:zq4 P n ops k L E0 Ef x Z:=by
    rcases gD with ⟨h,_⟩|⟨_,_,_,_,_,h⟩
    ·exact .inr ⟨z,.inl h⟩
    ·exact .inr ⟨z,.inr h⟩
   obtain⟨r0,V,Hb,R,T,r1,r2,ru,r3,r4,r5,ra,ri,r6⟩:=zrl gY hn l (x::E) _ G s E1 Z H' h2 O gI (λy j=>by
    rcases H5.1 j with rfl|jH
    ·exact⟨F,gC,H,s2,jG⟩
    ·obtain⟨a,b,c,d,e⟩:=hp y jH;exact⟨a,b,A _ c,d,zoa gY a (I y a b (A _ c)) e (gQ y a (A _ c) d) (rechecks_mem gK y j)⟩) gg gz
   rw[hf];have gR:Ups gV Z:=by
    rcases gD with ⟨_,rfl⟩|⟨ob,q1,rfl,q3,_⟩
    ·exact .refl _
    ·exact .push q1 q3 (.refl _)
   have gL:Ups Z (R 0):=by rw[←r1];exact ru 0 (Kn _)
   have jI:∀{jR jT jU:Heap},Ups jR jT→Ups jT jU→Ups jR jU:=λ{jR jT jU} h1=>by
    induction h1 with
    |refl=>exact id
    |push a b _ ih=>exact λh=>.push a b (ih h)
   have Q:∀y∈l,(if y.i=x.i then 0 else T y.i)=T y.i:=λy j=>Hs (gO y j)
   refine⟨r0,V,λp=>match p with
    |0=>gV
    |p+1=>Hb (p+1),R,λi=>if i=x.i then 0 else T i,rfl,r2,λp B=>?_,r3,λy j g=>?_,λy j g H2=>?_,λy j g=>?_,λy j jB Y g C gE gF M gG=>?_,λy j p B D=>?_⟩
   ·cases p with
    |zero=>exact jI gR gL
    |succ p=>exact ru (p+1) B
   ·rcases H5.1 j with rfl|j
    ·rw[z]at g;cases g
    ·exact r4 y j g
   ·rcases H5.1 j with rfl|j
    ·rw[z]at g;cases g
    ·exact r5 y j g H2
   ·rcases H5.1 j with rfl|j
    ·rcases gD with ⟨h,_⟩|⟨ob,q1,q2,q3,q4,q5⟩
     ·exact .inl h
     ·refine .inr ?_;dsimp only;rw[Hv rfl];refine⟨Kn _,λq c K=>absurd K (L6 q),Kq q4.symm,?_,λp _ B D=>?_⟩
      ·have:=gL.next;rw[q2]at this;rw[q4];exact Il (I4 _) this
      ·rcases r6 y N p B (λq c K=>D q c (Kn q) K) with ⟨h,_⟩|⟨_,h|h⟩
       ·rw[z]at h;cases h
       ·obtain⟨d,v0,g1,g2,g3,g4,g5⟩:=q5;exfalso;obtain⟨w1,w2,_⟩:=h Z E1 (I y F gC H);obtain⟨g6,_⟩:=g5 E1 (I y F gC H);have jz:=ztz (P:=P) (o:=y.o) (by rw[←gY.ok.cl y F];exact z) E1 Z;obtain⟨_,v',jV,g7,_⟩:=g5 E1 (I y F gC H);rw[g7]at jz;obtain⟨jX,m1,m2,_⟩:=jz;unfold Qj at w2;have B:Qk n y.o.dst=some ⟨λa jD=>Oh a (M9 d) jD⟩:=by rw[g1];unfold Qk;dsimp only;rw[Hv g2]
        rw[B]at w2;dsimp only at w2;rw[g6,g7]at w2;dsimp only at w2;injection w2 with _ w2
        rw[m2]at w2;have:=congrArg Heap.next w2;simp[Heap.push]at this
       ·exact h
    ·dsimp only;rw[Q y j];refine (ra y j g).imp id λ⟨a1,a2,a3,a4,a5⟩=>⟨a1,a2,?_,a4,a5⟩
     generalize T y.i=r at a3;cases r with
     |zero =>
      rw[r1]at a3;exact Is gR.next a3
     |succ r=>exact a3
   ·dsimp only at M;have gT:∀u∈l,u.c=.al→¬Qr P n ops k L E0 Ef u→T u.i=0→∀ob,Z=gV.push ob→Qa Ef u=gV.next→False:=λu hu jK jL gL ob he jA=>by
     rcases ra u hu jK with h|⟨_,_,a3,_⟩
     ·exact jL h
     ·rw[gL,r1,he,jA]at a3;exact absurd a3 (Nat.not_succ_le_self _)
    rcases H5.1 j with ey|gM
    ·rcases H5.1 Y with ez|gH
     ·rw[ey,ez]
     ·subst ey;rw[Hv rfl,Q jB gH]at M;rcases gD with ⟨h,_⟩|⟨ob,q1,q2,q3,q4,q5⟩
      ·exact absurd h gE
      ·exact (gT jB gH C gF M.symm ob q2 (by rw[←gG,q4])).elim
    ·rcases H5.1 Y with ez|gH
     ·subst ez;rw[Hv rfl,Q y gM]at M;rcases gD with ⟨h,_⟩|⟨ob,q1,q2,q3,q4,q5⟩
      ·exact absurd h gF
      ·exact (gT y gM g gE M ob q2 (by rw[gG,q4])).elim
     ·rw[Q y gM,Q jB gH]at M;exact ri y gM jB gH g C gE gF M gG
   ·exact r6 y Af p B D
  ·
   obtain⟨tc,O⟩:(∀g8,G.testBit g8=true→x.m.testBit g8=true)∧O2 l (Nat.lor (2^x.i) seen) (Nat.lor (2^x.i) G)=some s:=by
    rcases t3 with ⟨e,_⟩|⟨e,_⟩|⟨_,t3⟩
    ·rw[z]at e;cases e
    ·rw[z]at e;rcases e with e|e<;>cases e
    ·exact t3
   have hf:Nr M0 (x::l)=x::Nr M0 l:=B3
   have jO:∀y∈U,y∈E∧¬O7 x.m y.i:=λy j=>by
    rw[jg]at j;obtain⟨a,b⟩:=Z7.1 j;exact⟨a,by unfold O7;simpa using b⟩
   obtain⟨r0,V,Hb,R,T,r1,r2,ru,r3,r4,r5,ra,ri,r6⟩:=zrl gY hn l U _ _ s E1 Z H' h2 O gI (λy j=>by
    obtain⟨a,b,c,d,e⟩:=hp y (jO y j).1;exact⟨a,b,A _ c,d,zoa gY a (I y a b (A _ c)) e (gQ y a (A _ c) d) (rechecks_mem gK y j)⟩) gg gz
   rw[hf];have gU:∀y∈l,y.c≠.quiet→∀r,(∀q c,q<r→(Nr M0 l)[q]?=some c→O7 y.m c.i)→∀q c,q<r+1→(x::Nr M0 l)[q]?=some c→O7 y.m c.i:=λy j g r u1 q c K g9=>by
    cases q with
    |zero =>
     simp only[Ii,Option.some.injEq]at g9;subst g9;refine topo_chs O y j g _ ?_;rw[ao,ut];simp
    |succ q=>exact u1 q c J (by simpa using g9)
   refine⟨r0,V,λq=>match q with
    |0=>gV
    |q+1=>Hb q,λq=>match q with
    |0=>gV
    |q+1=>R q,λi=>T i+1,rfl,r2,λp B=>?_,λq c K=>?_,λy j g=>?_,λy j g H2=>?_,λy j g=>?_,λy j jB Y g C gE gF M gG=>?_,λy j p B D=>?_⟩
   ·cases p with
    |zero=>exact .refl _
    |succ p=>simp only[Ig]at B;exact ru p J
   ·cases q with
    |zero =>
     simp only[Ii,Option.some.injEq]at K;subst K;dsimp only;rw[r1];exact gA
    |succ q=>exact r3 q c Cw
   ·rcases H5.1 j with rfl|j
    ·rw[z]at g;cases g
    ·obtain⟨r,u0,u1,u2⟩:=r4 y j g;refine⟨r+1,Cq,gU y j (by rw[g];exact λe=>Aq) r u1,λp hr B D=>?_⟩;cases p with
     |zero=>omega
     |succ p =>
      simp only[Ig]at B;exact u2 p J J (λq c h5 h6 h7=>D (q+1) c J J (by simpa using h7))
   ·rcases H5.1 j with rfl|j
    ·rw[z]at g;cases g
    ·exact r5 y j g H2
   ·rcases H5.1 j with rfl|j
    ·rw[z]at g;cases g
    ·refine (ra y j g).imp id λ⟨a1,a2,a3,a4,a5⟩=>⟨by simp only[Ig];show T y.i+1≤_;omega,gU y j (by rw[g];exact λe=>Aq) _ a2,a3,a4,λp hr B D=>?_⟩
     dsimp only at hr D;cases p with
     |zero=>omega
     |succ p =>
      simp only[Ig]at B;exact a5 p J J (λq c h5 h6 h7=>D (q+1) c J J (by simpa using h7))
   ·rcases H5.1 j with rfl|j
    ·rw[z]at g;cases g
    ·rcases H5.1 Y with rfl|Y
     ·rw[z]at C;cases C
     ·exact ri y j jB Y g C gE gF (Nat.succ.inj M) gG
   ·cases p with
    |zero=>exact (hp y j).2.2.2.2
    |succ p =>
     simp only[Ig]at B;have h0:=D 0 x J N;refine r6 y ?_ p J (λq c h6 h7=>D (q+1) c J (by simpa using h7));rw[jg];refine Z7.2 ⟨j,?_⟩;unfold O7 at h0;simpa using h0
def chain_order:∀{l:List DOp} {seen B s:Nat},O2 l seen B=some s→∀(q g:Nat) (c j:DOp),q<g→(Nr M0 l)[q]?=some c→(Nr M0 l)[g]?=some j→O7 j.m c.i
 |[],_,_,_,_,q,g,c,j,_,h,_=>by simp[Nr]at h
 |x::l,seen,B,s,F,q,g,c,j,C,h,z=>by
  obtain⟨_,_,G⟩:=z8u F;rcases G with ⟨A,t⟩|⟨A,_,t⟩|⟨A,_,t⟩
  ·have D:Nr M0 (x::l)=Nr M0 l:=by simp only[Nr];unfold M0;rw[A]
   rw[D]at h z;exact chain_order t q g c j C h z
  ·have D:Nr M0 (x::l)=Nr M0 l:=by simp only[Nr];unfold M0;rcases A with A|A<;>rw[A]
   rw[D]at h z;exact chain_order t q g c j C h z
  ·have D:Nr M0 (x::l)=x::Nr M0 l:=by simp only[Nr];unfold M0;rw[A]
   rw[D]at h z;cases g with
   |zero=>omega
   |succ g =>
    simp only[Ib]at z;cases q with
    |zero =>
     simp only[Ii,Option.some.injEq]at h;subst h;obtain⟨hm,E⟩:=Z7.1 (Jy.2 ⟨_,z⟩);refine topo_chs t j hm (by rw[ze9.1 E];exact λe=>Aq) _ ?_;rw[ao,ut];simp
    |succ q=>exact chain_order t q g c j J Av z
end zrl
end
section
section du
variable {P : Program} {n : Nat} {ops : Array Oper} {k : Qe} {L : List DOp} {E0 Ef : Tr AV}
def zlo{S:Nat→Prop}:∀{l:List DOp} {seen A s:Nat},O2 l seen A=some s→(∀z,O7 seen z→S z)→(∀x∈l,S x.i)∨∃x∈l,¬S x.i∧∀z,O7 x.m z→S z
 |[],_,_,_,_,_=>.inl λx B=>by cases B
 |x::l,seen,A,s,h,F=>by
  obtain⟨G,I,C⟩:=z8u h;by_cases B:S x.i
  ·have E:∀g,O2 l (Nat.lor (2^x.i) seen) g=some s→(∀y∈x::l,S y.i)∨∃y∈x::l,¬S y.i∧∀z,O7 y.m z→S z:=λg H=>by
    rcases zlo H (S:=S) (λz j=>by
     unfold O7 at j;rw[ao,ut]at j;simp only[Iy,Hz]at j;rcases j with rfl|j
     ·exact B
     ·exact F z j) with q|⟨y,D,q⟩
    ·exact .inl λy D=>by
      rcases H5.1 D with rfl|D
      ·exact B
      ·exact q y D
    ·exact .inr ⟨y,Ak,q⟩
   rcases C with ⟨_,C⟩|⟨_,_,C⟩|⟨_,_,C⟩<;>exact E _ C
  ·exact .inr ⟨x,N,B,λz j=>F z (G z j)⟩
def Oa(listed:Array Bool)(i:Nat):Prop:=listed.getD i false=true
def gr{listed:Array Bool}{i:Nat}(hi:i<listed.size)(g:Nat):Oa (listed.setIfInBounds i true) g↔(Oa listed g∨g=i):=by
 unfold Oa;rw[Iu,Array.getElem?_setIfInBounds,Iu];by_cases e:i=g
 ·subst e;simp[hi]
 ·have:¬g=i:=λq=>e q.symm
  simp[e,this]
def zp2{listed:Array Bool}{i:Nat}(C:listed.size=ops.size):i∈Region.ready .any ops listed↔i<ops.size∧¬Oa listed i∧∃o,ops[i]?=some o∧∀e∈o.after.toList,Region.binds .any e=true→Oa listed e.on:=by
 unfold Region.ready Oa;simp only[List.mem_filter,J0,Hq,Jl];constructor
 ·rintro⟨g,j,z⟩;refine⟨g,?_,?_⟩
  ·rw[Iu,Jn J]at j ⊢;simpa using j
  ·rw[Jn g]at z;simp only[Jt,Jg]at z;refine⟨ops[i],Jn g,λe he A=>?_⟩;have:=Array.all_eq_true_iff_forall_mem.1 z e (by simpa using he);rw[A]at this;simpa using this
 ·rintro⟨g,j,o,z,B⟩;refine⟨g,?_,?_⟩
  ·rw[Iu,Jn J]at j ⊢;simpa using j
  ·rw[z];simp only[Jt,Jg];refine Array.all_eq_true_iff_forall_mem.2 λe he=>?_
   cases A:Region.binds .any e with
   |false=>rfl
   |true=>simpa using B e (by simpa using he) A
def zxi{g:CM}(h:M.le g){o:Nat}(z:∀v,M o v=none)(ho:o<M.nx)(v:Nat):g o v=none:=by
 cases e:g o v with
 |none=>rfl
 |some L =>
  rcases h.new _ _ _ e with ⟨A,B,j⟩|j
  ·rw[z]at j;cases j
  ·omega
structure Pends (P:Program) (n:Nat) (ops:Array Oper) (k:Qe) (L:List DOp) (E0 Ef:Tr AV) (ord:List DOp) (ph:Nat→Nat) (C0 C:CM) (Hp:Heap) (D:Nat→Prop) (p:Nat):Prop where
 known:∀x∈ord,x.c=.al→¬Qr P n ops k L E0 Ef x→ph x.i≤p→C0.nx≤Qa Ef x∧Qa Ef x<Hp.next
 inj:∀x∈ord,∀y∈ord,x.c=.al→y.c=.al→¬Qr P n ops k L E0 Ef x→¬Qr P n ops k L E0 Ef y→ph x.i≤p→ph y.i≤p→Qa Ef x=Qa Ef y→x=y
 pend:∀x∈ord,x.c=.al→¬Qr P n ops k L E0 Ef x→ph x.i≤p→¬D x.i→∀v,C (Qa Ef x) v=none
def rz(gz:Fit P ops L){x:DOp}(hx:x∈L)(B:x.c=.al)(ho:ops[x.i]?=some x.o){H:Heap}{w:World}{E:Tr AV}{a:Act}(R:Rel K M H w)(T:ER n M E a.tmps)
  (C:V7 ops L E0 Ef x E) (D:i1 P n ops L E0 Ef x H) (F:Qa Ef x<H.next) (U:∀v,M (Qa Ef x) v=none) (b:Frame) (g:List Nat) (V:List Item) (X:List Frame) :
  ∃(G:Loc) (Y:World) (A:Value) (v:AV),Rel K (M.ext (Qa Ef x) 0 G) H Y∧M.keep (M.ext (Qa Ef x) 0 G)∧VR (M.ext (Qa Ef x) 0 G) v A∧(∀d,x.o.dst=some d→Mt (M9 d) Ef=some v∧d<n) ∧
   Steps P (lone (b.atR a (.inRegion ops (x.i::g)::V)) X w) (lone (b.atR (a.put x.o.dst A) (.inRegion ops g::V)) X Y):=by
 obtain⟨d,v0,g1,g2,g3,g4,g5⟩:=D;obtain⟨hg,Z,H',h1,h2,oa,gg,h3,h4,h5⟩:=g5 E C;have j:=ztz (P:=P) (o:=x.o) (by rw[←gz.ok.cl x hx];exact B) E H;rw[h1]at j;obtain⟨ob,m1,rfl,m3,m4,m5⟩:=j;rw[Heap.get_push_same]at h4;cases h4;obtain⟨I,n',sz,A,q1,q2⟩:=m5 M w a.eval (z9h T);have hk:M.keep (M.ext (Qa Ef x) 0 ⟨w.heap.size,0,n',sz⟩):=λo' Z L' O=>by
  by_cases e:o'=Qa Ef x∧Z=0
  ·obtain⟨rfl,rfl⟩:=e;rw[U]at O;cases O
  ·rw[CM.ext_ne M _ e];exact O
 obtain⟨q3,q4⟩:=q2 _ (Qa Ef x) hk (CM.ext_same _ _ _ _);obtain⟨q5,_⟩:=R.bind F U h3 I ((q4 _ R.low.size).same h5);have hw:Region.wanted x.o (yielded ops a.tmps)=true:=by rw[←zi1 T ops x.o];exact hg
 have Q:=zis (P:=P) (o:=x.o) (E:=E) (H:=H) (by rw[h1];intro e;cases e);refine⟨_,_,A,v0,q5,hk,by rw[h2];exact q3,λd' z=>?_,.one (ztj ho hw Q q1)⟩;rw[g1]at z;cases z;exact⟨g3,g2⟩
def du(hk:cg P k)(gV:Fit P ops L)(hn:n≤P0){g:List DOp}{s:Nat}(gO:O2 g 0 0=some s)(M:∀x∈g,x∈L)(gY:∀i,i<ops.size→O7 s i)(jO:au L E0 Ef (O7 s) Ef)
  {Hb H:Nat→Heap} {ph:Nat→Nat} (hU:∀p,p≤(Nr M0 g).length→Ups (Hb p) (H p))
  (hA:∀q c,(Nr M0 g)[q]?=some c→Rm P n ops k L E0 Ef c (H q) (Hb (q+1)))
  (hB:∀x∈g,x.c=.rd→∃r,r≤(Nr M0 g).length∧(∀q c,q<r→(Nr M0 g)[q]?=some c→O7 x.m c.i)∧∀p,r≤p→p≤(Nr M0 g).length→(∀q c,r≤q→q<p→(Nr M0 g)[q]?=some c→¬O7 c.m x.i)→Rm P n ops k L E0 Ef x (H p) (H p))
  (jP:∀x∈g,x.c=.quiet→∀H2,Rm P n ops k L E0 Ef x H2 H2)
  (hL:∀x∈g,x.c=.al→Qr P n ops k L E0 Ef x∨AlPh P n ops L E0 Ef (Nr M0 g) Hb H x (ph x.i))
  (hI:∀x∈g,∀y∈g,x.c=.al→y.c=.al→¬Qr P n ops k L E0 Ef x→¬Qr P n ops k L E0 Ef y→ph x.i=ph y.i→Qa Ef x=Qa Ef y→x=y)
  {C0:CM} (b:Frame) (kk:List Item) (cs:List Frame) :
  ∀(j t:Nat) (listed:Array Bool) (jZ:List Nat) (p:Nat) (jA:CM) (w:World) (a:Act) (gU:Tr AV),listed.size=ops.size→jZ.length≤j→(∀i,i<ops.size→¬Oa listed i→i∈jZ) →
   au L E0 Ef (Oa listed) gU→DC L (Oa listed)→Rel K jA (H p) w→ER n jA gU a.tmps→(∀q c,(Nr M0 g)[q]?=some c→(Oa listed c.i↔q<p))→p≤(Nr M0 g).length →
   C0.le jA→Pends P n ops k L E0 Ef g ph C0 jA (H p) (Oa listed) p →
   ∃C' w' a',C0.le C'∧Rel K C' (H (Nr M0 g).length) w'∧ER n C' Ef a'.tmps∧a'.defers=a.defers ∧
    Steps P (lone (b.atR a (.inRegion ops (Region.linearise.go .any ops j t listed [])::kk)) cs w) (lone (b.atR a' (.inRegion ops []::kk)) cs w'):=by
 have jB:∀x∈L,x∈g:=λx R=>by
  rcases (topo_seen gO x.i).1 (gY x.i (gV.ok.op x R).2) with h|⟨y,C,e⟩
  ·simp at h
  ·rwa [←gV.ok.inj y (M y C) x R e]
 have gZ:∀(listed:Array Bool) (p:Nat) (jA:CM) (w:World) (a:Act) (gU:Tr AV),(∀i,i<ops.size→Oa listed i)→au L E0 Ef (Oa listed) gU→Rel K jA (H p) w→ER n jA gU a.tmps →
   (∀q c,(Nr M0 g)[q]?=some c→(Oa listed c.i↔q<p))→p≤(Nr M0 g).length→C0.le jA →
   ∃C' w' a',C0.le C'∧Rel K C' (H (Nr M0 g).length) w'∧ER n C' Ef a'.tmps∧a'.defers=a.defers ∧
    Steps P (lone (b.atR a (.inRegion ops []::kk)) cs w) (lone (b.atR a' (.inRegion ops []::kk)) cs w'):=by
  intro listed p jA w a gU hd hE hR D E hp F;have T:p=(Nr M0 g).length:=by
   rcases Kb p (Nr M0 g).length with h|h
   ·have hm:=Kj h;have:=(E p _ (Ht h)).1 (hd _ (gV.ok.op _ (M _ (Z7.1 hm).1)).2);omega
   ·omega
  subst T;refine⟨jA,w,a,F,hR,⟨D.1,D.2.1,λt ht=>?_⟩,rfl,.refl _ _⟩;have e:Mt (M9 t) Ef=Mt (M9 t) gU:=by
   rw[hE t ht,jO t ht];unfold n7;have:Wq L (O7 s) t↔Wq L (Oa listed) t:=by
    constructor
    ·rintro⟨y,C,_,h⟩;exact⟨y,C,hd _ (gV.ok.op y C).2,h⟩
    ·rintro⟨y,C,_,h⟩;exact⟨y,C,gY _ (gV.ok.op y C).2,h⟩
   by_cases q:Wq L (O7 s) t
   ·rw[Hv q,Hv (this.1 q)]
   ·rw[Hs q,Hs (λjQ=>q (this.2 jQ))]
  rw[e];exact D.2.2 t ht
 intro j
 induction j with
 |zero =>
  intro t listed jZ p jA w a gU hs hT gP hE hD hR D E hp F B;have hd:∀i,i<ops.size→Oa listed i:=λi hi=>by
   by_cases h:Oa listed i
   ·exact h
   ·have:=gP i hi h;have jR:jZ=[]:=Ic J;rw[jR]at this;cases this
  exact gZ listed p jA w a gU hd hE hR D E hp F
 |succ j ih =>
  intro t listed jZ p jA w a gU hs hT gP hE hD hR D E hp F B;simp only[Region.linearise.go];change ∃C' w' a',C0.le C'∧Rel K C' (H (Nr M0 g).length) w'∧ER n C' Ef a'.tmps∧a'.defers=a.defers ∧
   Steps P (lone (b.atR a (.inRegion ops (match (Region.ready .any ops listed)[t%(Region.ready .any ops listed).length]? with
    |some i=>Region.linearise.go .any ops j (t/(Region.ready .any ops listed).length) (listed.setIfInBounds i true) [i]
    |none=>[].reverse)::kk)) cs w) (lone (b.atR a' (.inRegion ops []::kk)) cs w')
  cases hi:(Region.ready .any ops listed)[t%(Region.ready .any ops listed).length]? with
  |none =>
   have jC:Region.ready .any ops listed=[]:=by
    cases hr:Region.ready .any ops listed with
    |nil=>rfl
    |cons x xs =>
     rw[hr]at hi;have gz:t%(x::xs).length<(x::xs).length:=Ix _ N;rw[Ht gz]at hi;cases hi
   have hd:∀i,i<ops.size→Oa listed i:=by
    rcases zlo gO (S:=Oa listed) (λgD hj=>by simp[O7]at hj) with h|⟨x,R,h1,h2⟩
    ·intro i hi;obtain⟨x,R,rfl⟩:=gV.ok.all i hi;exact h x (jB x R)
    ·have jD:=M x R;obtain⟨ho,gz⟩:=gV.ok.op x jD;have:x.i∈Region.ready .any ops listed:=(zp2 hs).2 ⟨gz,h1,x.o,ho,λe he hb=>h2 _ (gV.ok.edge x jD e he hb)⟩;rw[jC]at this;cases this
   exact gZ listed p jA w a gU hd hE hR D E hp F
  |some i =>
   dsimp only;rw[linearise_go_acc,List.reverse_singleton,List.singleton_append];obtain⟨gz,gA,o,ho,gE⟩:=(zp2 hs).1 (Ia hi);obtain⟨x,R,rfl⟩:=gV.ok.all i gz;have jE:=(gV.ok.op x R).1;rw[ho]at jE;cases jE;have G:∀gD,O7 x.m gD→Oa listed gD:=λgD hj=>by
    obtain⟨e,he,hb,rfl|⟨y,C,e1,e2⟩⟩:=gV.ok.msk x R gD hj
    ·exact gE e he hb
    ·exact hD y C (by rw[e1];exact gE e he hb) gD e2
   have g9:V7 ops L E0 Ef x gU:=jn gV hD R G (.inl gA) hE;have U:=jB x R;have jg:∃p' O w1 xv v,C0.le O∧Rel K O (H p') w1∧ER n O (Oo x.o.dst v gU) (a.put x.o.dst xv).tmps∧(∀d,x.o.dst=some d→Mt (M9 d) Ef=some v∧d<n) ∧
     Steps P (lone (b.atR a (.inRegion ops (x.i::Region.linearise.go .any ops j (t/(Region.ready .any ops listed).length) (listed.setIfInBounds x.i true) [])::kk)) cs w)
      (lone (b.atR (a.put x.o.dst xv) (.inRegion ops (Region.linearise.go .any ops j (t/(Region.ready .any ops listed).length) (listed.setIfInBounds x.i true) [])::kk)) cs w1) ∧
     p'≤(Nr M0 g).length∧(∀q c,(Nr M0 g)[q]?=some c→((Oa listed c.i∨c.i=x.i)↔q<p')) ∧
     Pends P n ops k L E0 Ef g ph C0 O (H p') (λgD=>Oa listed gD∨gD=x.i) p':=by
    have gF:x.c≠.ch→∀q c,(Nr M0 g)[q]?=some c→((Oa listed c.i∨c.i=x.i)↔q<p):=λgG q c hq=>by
     rw[←E q c hq];constructor
     ·rintro (h|h)
      ·exact h
      ·obtain⟨hm,V⟩:=Z7.1 (Jy.2 ⟨_,hq⟩);rw[gV.ok.inj c (M c hm) x R h]at V;exact absurd (ze9.1 V) gG
     ·exact .inl
    have Y:∀r,r≤(Nr M0 g).length→(∀q c,q<r→(Nr M0 g)[q]?=some c→O7 x.m c.i)→r≤p:=λr u0 u1=>by
     rcases Kb p r with h|h
     ·have T:p<(Nr M0 g).length:=J
      have:=(E p _ (Ht T)).1 (G _ (u1 p _ h (Ht T)));omega
     ·exact h
    have gH:∀r q c,r≤q→q<p→(Nr M0 g)[q]?=some c→¬O7 c.m x.i:=λr q c _ hq jF hb=>by
     have hm:=(Z7.1 (Jy.2 ⟨_,jF⟩)).1;exact gA (hD c (M c hm) ((E q c jF).2 hq) _ hb)
    have X:=λ(gG:x.c≠.ch) (jT:Rm P n ops k L E0 Ef x (H p) (H p))=>show ∃p' O w1 xv v,C0.le O∧Rel K O (H p') w1∧ER n O (Oo x.o.dst v gU) (a.put x.o.dst xv).tmps∧(∀d,x.o.dst=some d→Mt (M9 d) Ef=some v∧d<n) ∧
     Steps P (lone (b.atR a (.inRegion ops (x.i::Region.linearise.go .any ops j (t/(Region.ready .any ops listed).length) (listed.setIfInBounds x.i true) [])::kk)) cs w)
      (lone (b.atR (a.put x.o.dst xv) (.inRegion ops (Region.linearise.go .any ops j (t/(Region.ready .any ops listed).length) (listed.setIfInBounds x.i true) [])::kk)) cs w1) ∧
     p'≤(Nr M0 g).length∧(∀q c,(Nr M0 g)[q]?=some c→((Oa listed c.i∨c.i=x.i)↔q<p')) ∧
     Pends P n ops k L E0 Ef g ph C0 O (H p') (λgD=>Oa listed gD∨gD=x.i) p' from by
     obtain⟨v,gI,Q⟩:=jT gU g9;obtain⟨O,w1,xv,av,q1,q2,q3,q4,q5,q6⟩:=zie hk ho hR D gI b (Region.linearise.go .any ops j (t/(Region.ready .any ops listed).length) (listed.setIfInBounds x.i true) []) kk cs;refine⟨p,O,w1,xv,v,CM.le_trans F q1,q2,by rw[q4];exact (D.mono q1).put q5 q3,Q,q6,hp,gF gG,⟨B.known,B.inj,λy C z A I gC v=>?_⟩⟩;exact zxi q1 (B.pend y C z A I (λh=>gC (.inl h))) (by rw[hR.nx];exact (B.known y C z A I).2) v
    cases V:x.c with
    |quiet=>exact X (by rw[V];exact λe=>Aq) (jP x U V _)
    |rd =>
     obtain⟨r,u0,u1,u2⟩:=hB x U V;exact X (by rw[V];exact λe=>Aq) (u2 p (Y r u0 u1) hp (gH r))
    |al =>
     by_cases gK:Qr P n ops k L E0 Ef x
     ·exact X (by rw[V];exact λe=>Aq) (gK _)
     ·rcases hL x U V with h|⟨u0,u1,u2,u3,u4⟩
      ·exact absurd h gK
      ·have gQ:=Y _ u0 u1;have jU:=u4 p gQ hp (gH _);obtain⟨k1,k2⟩:=B.known x U V gK gQ;have jG:=B.pend x U V gK gQ gA;obtain⟨Lc,w1,xv,v,q1,q2,q3,q4,q5⟩:=rz gV R V ho hR D g9 jU k2 jG b (Region.linearise.go .any ops j (t/(Region.ready .any ops listed).length) (listed.setIfInBounds x.i true) []) kk cs;refine⟨p,_,w1,xv,v,⟨λo v L h=>q2 _ _ _ (F.keep _ _ _ h),Is F.nx (J7 _ _),λo v L h=>?_⟩,q1,(D.mono' q2).put (λt ht=>(q4 t ht).2) q3,q4,q5,hp,gF (by rw[V];exact λe=>Aq),
        ⟨B.known,B.inj,λy C z A I gC v=>?_⟩⟩
       ·by_cases e:o=Qa Ef x∧v=0
        ·obtain⟨rfl,rfl⟩:=e;exact .inr k1
        ·rw[CM.ext_ne _ _ e]at h;exact F.new _ _ _ h
       ·have gG:Qa Ef y≠Qa Ef x:=λe=>gC (.inr (by rw[B.inj y C x U z V A gK I gQ e]))
        rw[CM.ext_ne _ _ (λe=>gG e.1)];exact B.pend y C z A I (λh=>gC (.inl h)) v
    |ch =>
     obtain⟨q,hq⟩:=Jy.1 (Z7.2 ⟨U,ze9.2 V⟩);have j4:¬q<p:=λh=>gA ((E q x hq).2 h)
     have j5:=(Hm.1 hq).1;have jV:q=p:=by
      rcases Kb p q with h|h
      ·have T:p<(Nr M0 g).length:=J
       have:=(E p _ (Ht T)).1 (G _ (chain_order gO p q _ x h (Ht T) hq));omega
      ·omega
     subst jV;obtain⟨v,gI,Q⟩:=hA q x hq gU g9;obtain⟨O,w1,xv,av,q1,q2,q3,q4,q5,q6⟩:=zie hk ho hR D gI b (Region.linearise.go .any ops j (t/(Region.ready .any ops listed).length) (listed.setIfInBounds x.i true) []) kk cs;have gL:=hU (q+1) J;have jH:O.le (O.lift (H (q+1)).next):=CM.le_lift (by rw[q2.nx];exact gL.next);have j6:(H q).next≤(Hb (q+1)).next:=by rw[←hR.nx,←q2.nx];exact q1.nx
     have Z:∀y∈g,y.c=.al→¬Qr P n ops k L E0 Ef y→ph y.i=q+1→(Hb (q+1)).next≤Qa Ef y∧Qa Ef y<(H (q+1)).next:=λy C z A I=>by
      rcases hL y C z with h|⟨_,_,u2,u3,_⟩
      ·exact absurd h A
      ·rw[I]at u2 u3;exact⟨u2,u3⟩
     have j7:=gL.next;refine⟨q+1,O.lift (H (q+1)).next,w1,xv,v,CM.le_trans F (CM.le_trans q1 jH),q2.ups gL,by rw[q4];exact ((D.mono q1).put q5 q3).mono jH,Q,q6,J,λq' c gM=>?_,⟨λy C z A I=>?_,λy C jQ hz z gR A gT I j8 jI=>?_,λy C z A I gC v=>?_⟩⟩
     ·rw[E q' c gM];constructor
      ·rintro (h|h)
       ·omega
       ·have hm:=(Z7.1 (Jy.2 ⟨_,gM⟩)).1;have e:=gV.ok.inj c (M c hm) x R h;subst e;rcases Nat.lt_trichotomy q' q with h'|h'|h'
        ·omega
        ·omega
        ·exact absurd (G _ (chain_order gO q q' c c h' hq gM)) gA
      ·intro h;rcases Kb q' q with h'|h'
       ·exact .inl h'
       ·have:q'=q:=J
        subst this;rw[hq]at gM;cases gM;exact .inr rfl
     ·rcases Kb (ph y.i) (q+1) with h|h
      ·obtain⟨k1,k2⟩:=B.known y C z A J;exact⟨k1,J⟩
      ·obtain⟨k1,k2⟩:=Z y C z A J;have:=(CM.le_trans F q1).nx;rw[q2.nx]at this;exact⟨Is this k1,k2⟩
     ·rcases Kb (ph y.i) (q+1) with h|h<;>rcases Kb (ph jQ.i) (q+1) with h'|h'
      ·exact B.inj y C jQ hz z gR A gT J J jI
      ·have k1:=(B.known y C z A J).2;have k2:=(Z jQ hz gR gT J).1;omega
      ·have k1:=(B.known jQ hz gR gT J).2;have k2:=(Z y C z A J).1;omega
      ·exact hI y C jQ hz z gR A gT J jI
     ·show O.f (Qa Ef y) v=none;rcases Kb (ph y.i) (q+1) with h|h
      ·exact zxi q1 (B.pend y C z A J (λh=>gC (.inl h))) (by rw[hR.nx];exact (B.known y C z A J).2) v
      ·have k1:=(Z y C z A J).1;cases e:O.f (Qa Ef y) v with
       |none=>rfl
       |some L'=>have:=q2.fresh _ _ _ e;omega
   obtain⟨p',O,w1,xv,v,q1,q2,jK,Q,q6,jX,jL,jM⟩:=jg;have gg:=gr (listed:=listed) (i:=x.i) J;have g8:Oa (listed.setIfInBounds x.i true)=λgD=>Oa listed gD∨gD=x.i:=funext λgD=>propext (gg gD)
   have jY:au L E0 Ef (Oa (listed.setIfInBounds x.i true)) (Oo x.o.dst v gU):=by
    have:=hE.put gV hn R Q;rw[g8];exact this
   obtain⟨C2,w2,a2,r1,r2,r3,r4,r5⟩:=ih (t/(Region.ready .any ops listed).length) (listed.setIfInBounds x.i true) (jZ.erase x.i) p' O w1 (a.put x.o.dst xv) (Oo x.o.dst v gU) (by simpa using hs)
    (by
     have:=List.length_erase_of_mem (gP x.i gz gA);omega)
    (λgD hj jz=>by
     rw[gg]at jz;have h1:¬Oa listed gD:=λh=>jz (.inl h)
     have h2:gD≠x.i:=λh=>jz (.inr h)
     exact (List.mem_erase_of_ne h2).2 (gP gD hj h1))
    jY
    (λy C hd gD hj=>by
     rw[gg]at hd ⊢;rcases hd with hd|hd
     ·exact .inl (hD y C hd gD hj)
     ·rw[gV.ok.inj y C x R hd]at hj;exact .inl (G gD hj))
    q2 jK (λq c hq=>by rw[gg];exact jL q c hq) jX q1 (by rw[g8];exact jM)
   refine⟨C2,w2,a2,r1,r2,r3,?_,Steps.trans q6 r5⟩;rw[r4];cases x.o.dst<;>rfl
def zw1(hm:P.follows .mixedOrders=true)(hk:cg P k){w:World}{C:Tr AV}{a:Act}{id:Nat}(Z:Rel K M F w)(hE:ER n M vG a.tmps)
  (h:(z95 P n ops).run k vG F=.ok C vY) (b:Frame) (kk:List Item) (cs:List Frame) :
  ∃R w' T,M.le R∧Rel K R vY w'∧ER n R C T.tmps∧T.defers=a.defers ∧
   Steps P (lone (b.atR a (.code (.region id ops true)::kk)) cs w) (lone (b.atR T kk) cs w'):=by
 unfold z95 at h;dsimp only at h;generalize hL:P6 P ops ops.toList [] 0=L at h;have gg:LOk P ops L:=hL ▸ qe P ops;generalize hO:zzf L (Nr M0 L)=D at h;have H:∀x∈D,x∈L:=λx U=>Zd x (by rw[hO];exact U)
 split at h
 ·rename_i hd;unfold Wx at hd;split at hd
  ·cases hd
  ·rename_i s V;split at hd
   ·cases hd
   ·rename_i hs;split at hd
    ·cases hd
    ·rename_i gz;have gA:s=2^ops.size-1:=H0 (by simpa using hs);have gH:Fit P ops L:=⟨gg,(dstsOk_spec (by simpa using gz)).2,λx U y g=>zng (zng hd x U) y g⟩;have hn:=hE.2.1;have h0:au L vG C (O7 0) vG:=λt ht=>by
      unfold n7;rw[Hs];rintro⟨y,_,g,_⟩;simp[O7]at g
     obtain⟨r0,_,Hb,O,ph,r1,r2,ru,r3,r4,r5,ra,ri,_⟩:=zrl (E0:=vG) gH hn D [] 0 0 s vG F vY h V H (λx U=>by cases U) h0 (λy _ g=>by simp[O7]at g);have X:∀i,i<ops.size→O7 s i:=λi hi=>by
      unfold O7;rw[gA,Nat.testBit_two_pow_sub_one];simpa using hi
     have A:∀i,¬Oa (Array.replicate ops.size false) i:=λi hi=>by
      unfold Oa at hi;rw[Iu,Array.getElem?_replicate]at hi;split at hi<;>cases hi
     have Q:=ru 0 (Kn _);rw[r1]at Q;have gC:Rel K (M.lift (O 0).next) (O 0) w.drew:=Z.drew.ups Q;have I:M.le (M.lift (O 0).next):=CM.le_lift (by rw[Z.nx];exact Q.next);have B:∀y∈D,y.c=.al→¬Qr P n ops k L vG C y→ph y.i=0→F.next≤Qa C y∧Qa C y<(O 0).next:=λy g j z E=>by
      rcases ra y g j with h|⟨_,_,u2,u3,_⟩
      ·exact absurd h z
      ·rw[E]at u2 u3;rw[r1]at u2;exact⟨u2,u3⟩
     have Y:Pends P n ops k L vG C D ph M (M.lift (O 0).next) (O 0) (Oa (Array.replicate ops.size false)) 0:=by
      refine⟨λy g j z E=>?_,λy g gI hz j gD z gE E gG gF=>ri y g gI hz j gD z gE J gF,λy g j z E _ v=>?_⟩
      ·obtain⟨k1,k2⟩:=B y g j z J;rw[←Z.nx]at k1;exact⟨k1,k2⟩
      ·obtain⟨k1,k2⟩:=B y g j z J;show M.f (Qa C y) v=none;cases e:M.f (Qa C y) v with
       |none=>rfl
       |some L'=>have:=Z.fresh _ _ _ e;omega
     have G:Region.schedule (P.follows .mixedOrders) ops (w.tape w.drawn (.order b.fn id))=Region.linearise.go .any ops ops.size (w.tape w.drawn (.order b.fn id)) (Array.replicate ops.size false) []:=by
      simp only[Region.schedule,hm,Bool.true_or,Ky];rfl
     obtain⟨R,w',T,q1,q2,q3,q4,q5⟩:=du hk gH hn V H X r0 ru r3 r4 r5 ra ri b kk cs ops.size (w.tape w.drawn (.order b.fn id)) (Array.replicate ops.size false) (List.range ops.size) 0 (M.lift (O 0).next) w.drew a vG
      N N (λi hi _=>Cn) (λt ht=>by
       unfold n7;rw[Hs];rintro⟨y,_,g,_⟩;exact A _ g) (λy _ g=>absurd g (A _)) gC (hE.mono I) (λq c _=>⟨λh=>absurd h (A _),λh=>absurd h (L6 q)⟩) (Kn _) I Y
     refine⟨R,w',T,q1,by rw[←r2];exact q2,q3,q4,.head stepR_region_draw ?_⟩;rw[G];exact Steps.trans q5 (.one stepR_region_end)
 ·cases h
def zoi(C:cg P k){w:World}{B:Tr AV}{a:Act}{id:Nat}(D:Rel K M F w)(E:ER n M vG a.tmps)
  (h:(mw P n ops ops.toList).run k vG F=.ok B vY) (b:Frame) (A:List Item) (cs:List Frame) :
  ∃g z j,M.le g∧Rel K g vY z∧ER n g B j.tmps∧j.defers=a.defers ∧
   Steps P (lone (b.atR a (.code (.region id ops false)::A)) cs w) (lone (b.atR j A) cs z):=by
 obtain⟨g,z,j,G,H,I,O,Q⟩:=zpn C b A cs ops.toList 0 rfl D E h;refine⟨g,z,j,G,H,I,O,.head stepR_region ?_⟩;rw[List.range_eq_range'];exact Steps.trans Q (.one stepR_region_end)
end du
end
section
open Go.RowKit (Below)
inductive DR (C:CM):List Nat→List Deferred→Prop where
 |nil:DR C [] []
 |cons {d:Nat} {L:Loc} {l:List Nat} {r:List Deferred} (h:C d 0=some L) (hs:DR C l r):DR C (d::l) ({ target:=.collected L.b,args:=#[] }::r)
def DR.mono{C C':CM}(h:C.le C'):∀{l:List Nat} {r:List Deferred},DR C l r→DR C' l r
 |_,_,.nil=>.nil
 |_,_,.cons e es=>.cons (h.keep _ _ _ e) (DR.mono h es)
def RO(A:CM)(g r:Option Nat):Prop:=match g,r with
 |none,none=>True
 |some l,some j=>∃z,A l 0=some z∧z.b=j
 |_,_=>False
def RO.mono{C C':CM}(h:C.le C'){ro r:Option Nat}(k:RO C ro r):RO C' ro r:=by
 cases ro<;>cases r<;>simp only[RO]at k ⊢;obtain⟨L,h1,h2⟩:=k;exact⟨L,h.keep _ _ _ h1,h2⟩
def Rel.putBlock{gE:CM}{H:Heap}{w:World}(h:Rel v9 gE H w){o:Nat}{L:Loc}(hL:gE o 0=some L){ob:AObj}{x:Obj}(hB:v9.heap.size≤L.b)(gg:∀c len C ro,ob≠.cells c len C ro)
  (gz:(w.putObj L.b x).heap[L.b]?=some x→Pr v9.heap.size gE (w.putObj L.b x) o ob):Rel v9 gE (H.put o ob) (w.putObj L.b x):=by
 have gA:=h.lt _ _ _ hL;refine h.put (h.fresh _ _ _ hL) ob (h.low.trans ⟨rfl,rfl,rfl,N,λk hk=>World.putObj_heap_other J⟩) N (λo' v L' gC gD=>World.putObj_heap_other (λe=>gC ?_)) (gz (World.putObj_heap_same gA)) (λc len C ro e=>absurd e (gg c len C ro));exact (h.excl _ _ _ _ _ _ hL gD e.symm hB).symm
def zcp{P:Program}{w:World}{o:Nat}{r:Loop}(h:w.heap[o]?=some (.loop r))(fn:FuncId)(tmps:Array Value)(g:Array Tmp)(assign body:Code) :
  (Instr.enterLoop fn tmps g assign body (some o)).run P w =
   .ok (w.heap.size,[]) (w.alloc (.loop { state:=.ready,pending:=none,fn,tmps,params:=g,assign,body,defers:=r.defers })):=by
 unfold Instr.enterLoop;simp only[Sem.run_bind,run_getLoop h,run_newObj_alloc,Result.andThen,Sem.run_pure]
def zps{P:Program}{f n:Nat}{j:Array Tmp}{as:Code}{l:Nat}{L:List Nat}(h:zf1 f n j as uV vO vG vD F=some (l,L,vY))
  {w:World} {O:List Deferred} {r:Option Nat} (g:Rel K M F w) (Q:ER n M vG vR) (R:DR M vD O) (A:RO M vO r) :
  ∃G T mark U,M.le G∧Rel K G vY T∧(Instr.enterLoop f vR j as uV r).run P w=.ok (U.b,mark) T∧G l 0=some U∧DR G L (mark++O):=by
 unfold zf1 at h
 ·split at h
  ·cases h;cases r with
   |some r=>exact A.elim
   |none =>
    obtain⟨B,H⟩:=g.push (.defd true) (.deferred (some [])) 0 0 (λU z=>by
     rw[CM.ext_same]at z;cases z;exact⟨g.low.size,ln _ _⟩)
    have C:(M.ext F.next 0 ⟨w.heap.size,0,0,0⟩) F.next 0=some ⟨w.heap.size,0,0,0⟩:=CM.ext_same _ _ _ _;generalize M.ext F.next 0 ⟨w.heap.size,0,0,0⟩=X at B H C;obtain⟨I,D⟩:=B.push (ob:=.loop .ready none f n vG j as uV F.next) (x:=.loop { state:=.ready,pending:=none,fn:=f,tmps:=vR,params:=j,assign:=as,body:=uV,defers:=w.heap.size }) 0 0 (λU z=>by
     rw[CM.ext_same]at z;cases z;refine⟨B.low.size,vR,⟨w.heap.size,0,0,0⟩,(CM.le_ext _ (B.next_none 0) (.inr (Kq B.nx))).keep _ _ _ C,ln _ _,(Q.mono H).mono (CM.le_ext _ (B.next_none 0) (.inr (Kq B.nx)))⟩)
    refine⟨_,_,[{ target:=.collected w.heap.size,args:=#[] }],⟨w.heap.size+1,0,0,0⟩,CM.le_trans H D,I,?_,?_,?_⟩
    ·exact run_enterLoop_outer f vR j as uV
    ·have:=CM.ext_same X (F.push (.defd true)).next 0 ⟨(w.alloc (.deferred (some []))).heap.size,0,0,0⟩;rw[World.size_alloc]at this ⊢;exact this
    ·exact .cons (D.keep _ _ _ C) (R.mono (CM.le_trans H D))
  ·rename_i lo;split at h
   ·rename_i d Y;cases h;cases r with
    |none=>exact A.elim
    |some r =>
     obtain⟨Lo,E,rfl⟩:=A;obtain⟨hB,Z,V,hd,hw,_⟩:=g.obj _ _ (g.fresh _ _ _ E) Y Lo E;obtain⟨I,D⟩:=g.push (ob:=.loop .ready none f n vG j as uV d) (x:=.loop { state:=.ready,pending:=none,fn:=f,tmps:=vR,params:=j,assign:=as,body:=uV,defers:=V.b }) 0 0 (λU z=>by
      rw[CM.ext_same]at z;cases z;exact⟨g.low.size,vR,V,(CM.le_ext _ (g.next_none 0) (.inr (Kq g.nx))).keep _ _ _ hd,ln _ _,Q.mono (CM.le_ext _ (g.next_none 0) (.inr (Kq g.nx)))⟩)
     refine⟨_,_,[],⟨w.heap.size,0,0,0⟩,D,I,?_,CM.ext_same _ _ _ _,R.mono D⟩;exact zcp hw f vR j as uV
   ·cases h
def zks{P:Program}{l:Nat}{I:Option Code}(h:zmv l F=some (I,vY)){w:World}(C:Rel K M F w){L:Loc}(B:M l 0=some L) :
  ∃j,(Instr.endLoop L.b).run P w=.ok I j∧Rel K M vY j:=by
 unfold zmv at h;split at h
 ·rename_i st g f n V O a b d Q;have D:st≠.busy→(some (g,F.put l (.loop .exhausted g f n V O a b d))=some (I,vY))→∃j,(Instr.endLoop L.b).run P w=.ok I j∧Rel K M vY j:=λE e=>by
   cases e;obtain⟨H,R,T,hd,hw,U⟩:=C.obj _ _ (C.fresh _ _ _ B) Q L B;refine⟨_,run_endLoop hw E,C.putBlock B H (λ_ _ _ _ e=>Aq) (λz X A=>?_)⟩;rw[B]at A;cases A;exact⟨H,R,T,hd,z,U⟩
  split at h
  ·cases h
  ·rename_i G;exact D (λe=>G e) h
 ·cases h
def zon{P:Program}{w:World}{ρ:Operand→Value}{gop:Operand}(E:∀v,ρ (.const v)=v)(C:VR M I (ρ gop)){l:Nat}{j:Loc}(F:M l 0=some j){f:Nat}{args:List AV}
  (h:na P I [.fn (.yield l) [] []]=.call (.fn f) args) :
  ∃d D,(resolve ρ (rangeCall gop j.b) 0).run P w=.ok d w∧(invoke d.target d.args).run P w=.ok (.enter f (List.toArray D)) w∧VRs M args D:=by
 have G:VRs M [AV.fn (.yield l) [] []] [Value.func (.yield j.b) #[] #[]]:=.cons (.fn (.yield F) .nil .nil) .nil;generalize z:ρ gop=gv at C;have g:∀fn first cap,gv=.func fn first cap→(resolve ρ (rangeCall gop j.b) 0).run P w=.ok { target:=.fn fn cap,args:=first++#[Value.func (.yield j.b) #[] #[]] } w:=by
  intro fn first cap e
  subst e;simp only[resolve,z,Deferred.ofValue,Sem.run_pure];simp[E]
 unfold na at h;split at h
 ·rename_i Q first cap
  split at h
  ·rename_i H;cases h;cases C with
   | @fn _ R _ _ A B K L O =>
    cases K with
    |same =>
     refine⟨_,A.toList++[Value.func (.yield j.b) #[] #[]]++B.toList,g _ _ _ rfl,?_,(L.append G).append O⟩;have:(A++#[Value.func (.yield j.b) #[] #[]]++B)=(A.toList++[Value.func (.yield j.b) #[] #[]]++B.toList).toArray:=N
     rw[←this];exact zay H _
  ·cases h
 ·cases h
 ·cases h
def i6(P:Program)(b:Frame)(m:Machine)(cs:List Frame)(A:List Item)(j:Act)(z:World):Ex→Prop
 |.normal=>Steps P m (lone (b.atR j A) cs z)
 |.exit id=>∃g,exitTo id g=exitTo id A∧Steps P m (lone (b.atR j (.code (.exit id)::g)) cs z)
 |.ret=>∃g,Steps P m (lone (b.atR j (.code .ret::g)) cs z)
def i6.head{P:Program}{b:Frame}{m m1:Machine}{cs:List Frame}{kk:List Item}{a':Act}{x:Ex}(h:Steps P m m1)(k:i6 P b m1 cs kk a' v9 x):i6 P b m cs kk a' v9 x:=by
 cases x with
 |normal=>exact Steps.trans h k
 |exit id=>obtain⟨k1,e,s⟩:=k;exact⟨k1,e,Steps.trans h s⟩
 |ret=>obtain⟨k1,s⟩:=k;exact⟨k1,Steps.trans h s⟩
section scope
variable {P : Program} {b : Frame} {a : Act} {k : List Item} {cs : List Frame} {w : World} {c : Code}
def stepR_scope:step P (lone (b.atR a (.code (.scope c)::k)) cs w)=.next (lone (b.atR a (.code c::.inScope c::k)) cs w):=step_lone_go E9
def stepR_inScope:step P (lone (b.atR a (.inScope c::k)) cs w)=.next (lone (b.atR a k) cs w):=step_lone_go E9
end scope
structure Both (w0:World) (n:Nat) (C:CM) (E:Tr AV) (D:List Nat) (H:Heap) (a:Act) (w:World):Prop where
 rel:Rel w0 C H w
 env:ER n C E a.tmps
 defs:DR C D a.defers
def CodeOk(P:Program)(f n:Nat)(G:CodeF)(c:Code):Prop :=
 ∀(k:Qe),cg P k→∀(m:Nat) (g:Option Nat) (j:World) (H:CM) (I:Tr AV) (K:List Nat) (L:Heap) (a:Act) (w:World) (b:Frame) (x:Ex) (z:Tr AV) (A:List Nat) (B:Heap),
  Both j n H I K L a w→b.fn=f→RO H g b.roundOf→G.run k m g I K L=.ok x z A B→∀(C:List Item) (cs:List Frame),
  ∃D E F,H.le D∧Both j n D z A B F E∧i6 P b (lone (b.atR a (.code c::C)) cs w) cs C F E x
def mq{P:Program}(hm:P.follows .mixedOrders=true)(f n:Nat):∀(c:Code),CodeOk P f n (Pq P f n c) c
 |.skip=>by
  intro k D m E G Q T U V a w b x L M O j I g h A cs;cases h;exact⟨Q,w,a,CM.le_refl Q,j,.one stepR_skip⟩
 |.label l=>by
  intro k D m E G Q T U V a w b x L M O j I g h A cs;cases h;exact⟨Q,w,a,CM.le_refl Q,j,.one stepR_label⟩
 |.exit id=>by
  intro k D m E G Q T U V a w b x L M O j I g h A cs;cases h;exact⟨Q,w,a,CM.le_refl Q,j,A,rfl,.refl _ _⟩
 |.ret=>by
  intro k D m E G Q T U V a w b x L M O j I g h A cs;cases h;exact⟨Q,w,a,CM.le_refl Q,j,A,.refl _ _⟩
 |.region id ops draw=>by
  intro k D m E G Q T U V a w b x L M O j I g h A cs;simp only[Pq]at h;cases draw with
  |true =>
   dsimp only at h;split at h
   ·cases h
   ·rename_i E1 Z hr;cases h;obtain⟨C',w',a',z,C,B,q4,q5⟩:=zw1 hm D (id:=id) j.rel j.env hr b A cs;exact⟨C',w',a',z,⟨C,B,by rw[q4];exact j.defs.mono z⟩,q5⟩
  |false =>
   dsimp only at h;split at h
   ·cases h
   ·rename_i E1 Z hr;cases h;obtain⟨C',w',a',z,C,B,q4,q5⟩:=zoi D (id:=id) j.rel j.env hr b A cs;exact⟨C',w',a',z,⟨C,B,by rw[q4];exact j.defs.mono z⟩,q5⟩
 |.seq c1 c2=>by
  intro k D m E G Q T U V a w b x L M O j I g h A cs;simp only[Pq]at h;cases h1:(Pq P f n c1).run k m E T U V with
  |no=>rw[h1]at h;cases h
  |ok x1 E1 D1 Z =>
   rw[h1]at h;obtain⟨H,F,K,z,C,B⟩:=mq hm f n c1 k D m E G Q T U V a w b x1 E1 D1 Z j I g h1 (.code c2::A) cs;cases x1 with
   |normal =>
    dsimp only at h;obtain⟨C2,w2,a2,r1,r2,r3⟩:=mq hm f n c2 k D m E G H E1 D1 Z K F b x L M O C I (g.mono z) h A cs;exact⟨C2,w2,a2,CM.le_trans z r1,r2,r3.head (.head stepR_seq B)⟩
   |exit id =>
    cases h;obtain⟨R,e,s⟩:=B;exact⟨H,F,K,z,C,R,e,.head stepR_seq s⟩
   |ret =>
    cases h;obtain⟨R,s⟩:=B;exact⟨H,F,K,z,C,R,.head stepR_seq s⟩
 |.cond c c1 c2=>by
  intro k D m E G Q T U V a w b x L M O j I g h A cs;simp only[Pq]at h;split at h
  ·rename_i t ht;have hv:=z9h j.env c _ ht;have gE:a.eval c=.bool t:=by
    generalize a.eval c=v at hv;cases hv;rfl
   split at h
   ·obtain⟨H,F,K,z,C,B⟩:=mq hm f n c1 k D m E G Q T U V a w b x L M O j I g h A cs;exact⟨H,F,K,z,C,B.head (.one (by rw[stepR_cond gE];rfl))⟩
   ·obtain⟨H,F,K,z,C,B⟩:=mq hm f n c2 k D m E G Q T U V a w b x L M O j I g h A cs;exact⟨H,F,K,z,C,B.head (.one (by rw[stepR_cond gE];rfl))⟩
  ·cases h
 |.block id c=>by
  intro k D m E G Q T U V a w b x L M O j I g h A cs;simp only[Pq]at h;split at h
  ·cases h
  ·rename_i x1 E1 D1 Z h1;obtain⟨H,F,K,z,C,B⟩:=mq hm f n c k D m E G Q T U V a w b x1 E1 D1 Z j I g h1 (.inBlock id::A) cs;cases x1 with
   |normal =>
    cases h;exact⟨H,F,K,z,C,Steps.head stepR_block (Steps.trans B (.one stepR_inBlock))⟩
   |exit gF =>
    dsimp only at h;obtain⟨R,e,s⟩:=B;split at h
    ·rename_i gg;cases h;have gG:gF=id:=H0 gg;subst gG;refine⟨H,F,K,z,C,Steps.head stepR_block (Steps.trans s (.one (stepR_exit ?_)))⟩;rw[e];simp[exitTo]
    ·rename_i gg;cases h;refine⟨H,F,K,z,C,R,?_,.head stepR_block s⟩;rw[e];have gI:¬id=gF:=λq=>by subst q;rw[It]at gg;cases gg
     simp[exitTo,gI]
   |ret =>
    cases h;obtain⟨R,s⟩:=B;exact⟨H,F,K,z,C,R,.head stepR_block s⟩
 |.scope c=>by
  intro k D m E G Q T U V a w b x L M O j I g h A cs;simp only[Pq]at h;obtain⟨H,F,K,z,C,B⟩:=mq hm f n c k D m E G Q T U V a w b x L M O j I g h (.inScope c::A) cs;refine⟨H,F,K,z,C,?_⟩;cases x with
  |normal=>exact Steps.head stepR_scope (Steps.trans B (.one stepR_inScope))
  |exit id =>
   obtain⟨R,e,s⟩:=B;exact⟨R,e,.head stepR_scope s⟩
  |ret =>
   obtain⟨R,s⟩:=B;exact⟨R,.head stepR_scope s⟩
 |.loop c=>by
  intro k D m E G Q T U V a w b x L M O j I g h A cs;simp only[Pq]at h;have ih:=mq hm f n c;have gK:∀(gP:Nat) (Q:CM) (T:Tr AV) (U:List Nat) (V:Heap) (a:Act) (w:World),Both G n Q T U V a w→RO Q E b.roundOf→lz ((Pq P f n c).run k m E) gP T U V=.ok x L M O →
    ∃C' w' a',Q.le C'∧Both G n C' L M O a' w'∧i6 P b (lone (b.atR a (.code c::.inLoop c::A)) cs w) cs A a' w' x:=by
   intro gP
   induction gP with
   |zero=>intro Q T U V a w _ _ h;cases h
   |succ gP gL =>
    intro Q T U V a w j g h;simp only[lz]at h;split at h
    ·cases h
    ·rename_i x1 E1 D1 Z h1;obtain⟨H,F,K,z,C,B⟩:=ih k D m E G Q T U V a w b x1 E1 D1 Z j I g h1 (.inLoop c::A) cs;cases x1 with
     |normal =>
      dsimp only at h;obtain⟨C2,w2,a2,r1,r2,r3⟩:=gL H E1 D1 Z K F C (g.mono z) h;exact⟨C2,w2,a2,CM.le_trans z r1,r2,r3.head (Steps.trans B (.one stepR_inLoop))⟩
     |exit id =>
      cases h;obtain⟨R,e,s⟩:=B;exact⟨H,F,K,z,C,R,e,s⟩
     |ret =>
      cases h;obtain⟨R,s⟩:=B;exact⟨H,F,K,z,C,R,s⟩
  obtain⟨H,F,K,z,C,B⟩:=gK m Q T U V a w j g h;exact⟨H,F,K,z,C,B.head (.one stepR_loop)⟩
 |.rangeFunc gQ ps as bd=>by
  intro k D m E G Q T U V a w b x L M O j I g h A cs;simp only[Pq]at h;split at h
  ·cases h
  ·rename_i gv hg;split at h
   ·cases h
   ·rename_i l D1 Z he;obtain⟨H,F,mark,gR,z,C,B,q4,q5⟩:=zps (P:=P) he j.rel j.env j.defs g;split at h
    ·rename_i t gO gD;split at h
     ·cases h
     ·rename_i v H2 gM;obtain⟨d,vs,s1,s2,s3⟩:=zon (P:=P) (w:=F) (ρ:=a.eval) (gop:=gQ) (λ_=>rfl) ((z9h j.env gQ _ hg).mono z) q4 gD;have gz:=D _ _ _ _ _ _ _ _ _ C s3 gM (b.atR { a with defers:=mark++a.defers } (.inRangeFunc gR.b::A)::cs);obtain⟨C2,w2,v',fr,t1,t2,t3,t4,t5,t6⟩:=gz;rw[←I]at B;have gH:=stepR_rangeFunc (P:=P) (b:=b) (a:=a) (k:=A) (cs:=cs) (w:=w) B s1 s2;have X:=step_leave_returned (c:=b.atR { a with defers:=mark++a.defers } (.inRangeFunc gR.b::A)) (cs:=cs) t6;rw[finish_atR_inRangeFunc]at X;have gA:DR C2 D1 ({ a with defers:=mark++a.defers }:Act).defers:=q5.mono t1;have gC:ER n C2 T ({ a with defers:=mark++a.defers }:Act).tmps:=(j.env.mono z).mono t1;split at h
      ·cases h
      ·rename_i H3 Y;cases h;obtain⟨w3,u1,u2⟩:=zks (P:=P) Y t2 (t1.keep _ _ _ q4);refine⟨C2,w3,{ a with defers:=mark++a.defers },CM.le_trans z t1,⟨u2,gC,gA⟩,?_⟩;refine Steps.head gH (Steps.trans t4 (.head X (.one ?_)));rw[stepR_endRangeFunc u1];rfl
      ·rename_i c H3 Y;obtain⟨w3,u1,u2⟩:=zks (P:=P) Y t2 (t1.keep _ _ _ q4);split at h
       ·cases h
       ·rename_i x1 hx;cases h;have go:Steps P (lone (b.atR a (.code (.rangeFunc gQ ps as bd)::A)) cs w) (lone (b.atR { a with defers:=mark++a.defers } (.code c::A)) cs w3) :=
         .head gH (Steps.trans t4 (.head X (.one (by rw[stepR_endRangeFunc u1];rfl))))
        refine⟨C2,w3,{ a with defers:=mark++a.defers },CM.le_trans z t1,⟨u2,gC,gA⟩,?_⟩;unfold exOf at hx;split at hx
        ·cases hx;exact⟨A,go⟩
        ·cases hx;exact⟨A,rfl,go⟩
        ·cases hx
    ·cases h
 |.goto _=>by
  intro k D m E G Q T U V a w b x L M O j I g h A cs;cases h
 |.refuse _=>by
  intro k D m E G Q T U V a w b x L M O j I g h A cs;cases h
end
section
open Go.RowKit (Below)
def ul{r:ResultVar}{n:Nat}{w:World}{a:Act}(I:Rel K M F w)(z:ER n M P a.tmps){v:AV}(h:(resF B r).run P F=some v) :
  ∃x,(match r with
   |.tmp t=>pure (a.tmps.getD t undef)
   |.cell c t=>do loadVar t (←asAddr (a.tmps.getD c undef)):Sem Value).run B w=.ok x w∧VR M v x:=by
 have g:∀t,a.eval (.tmp t)=a.tmps.getD t undef:=λt=>by
  show a.tmps.getD t undef=_;rfl
 cases r with
 |tmp t =>
  simp only[resF]at h;have:=z9h z _ _ h;rw[g]at this;exact⟨_,by simp[Sem.run_pure],this⟩
 |cell c t =>
  unfold resF at h;dsimp only at h ⊢;split at h
  ·rename_i n A L;dsimp only at h;split at h
   ·rename_i o C i ho;split at h
    ·rename_i l D;cases h;have hv:=z9h z _ _ ho;rw[g]at hv;generalize a.tmps.getD c undef=R at hv;cases hv with
     |ptr E =>
      obtain⟨G,O,H,Q,T,_⟩:=I.read B D E;exact⟨.agg G.toArray,by simp[asAddr,loadVar,z8s A,R5 L,O],.agg D4 Q⟩
    ·cases h
   ·cases h
  ·rename_i n A L;dsimp only at h;split at h
   ·rename_i o C i ho;split at h
    ·rename_i V D;cases h;have hv:=z9h z _ _ ho;rw[g]at hv;generalize a.tmps.getD c undef=R at hv;cases hv with
     |ptr E =>
      obtain⟨G,O,H,Q,T,X,U⟩:=I.read B D E;have j:=U 0 J
      match G,H with
      |[u],.cons hu .nil =>
       simp only[Kr,Ii]at j;exact⟨u,by simp[asAddr,loadVar,z8s A,j],hu⟩
    ·cases h
   ·cases h
  ·cases h
def zv6{L:Program}{n:Nat}{D:World}{E:CM}{M:Tr AV}{O:Heap}{w:World}{a:Act}(B:Rel D E O w)(C:ER n E M a.tmps):∀{l:List ResultVar} {j:List AV},(xm L l).run M O=some j →
  ∃z,(l.mapM fun
   |.tmp t=>pure (a.tmps.getD t undef)
   |.cell c t=>do loadVar t (←asAddr (a.tmps.getD c undef)):Sem (List Value)).run L w=.ok z w∧VRs E j z
 |[],j,h=>by
  cases h;exact⟨[],by simp[Sem.run_pure],.nil⟩
 |r::l,j,h=>by
  simp only[xm]at h;split at h
  ·cases h
  ·rename_i v hv;split at h
   ·cases h
   ·rename_i F A;cases h;obtain⟨x,G,H⟩:=ul B C hv;obtain⟨z,I,K⟩:=zv6 B C A;refine⟨x::z,?_,.cons H K⟩;rw[List.mapM_cons,Sem.run_bind];have g:=G;cases r<;>(dsimp only at g ⊢;rw[g];simp only[Result.andThen_ok,Sem.run_bind,I,Sem.run_pure])
def zlj{fn:Func}{n:Nat}{w:World}{a:Act}(z:Rel K M F w)(A:ER n M P a.tmps)(h:(xm B fn.results.toList).run P F=some T) :
  ∃x,(results fn a.tmps).run B w=.ok x w∧VR M (match T with
   |[v]=>v
   |l=>.tup l) x:=by
 obtain⟨g,C,D⟩:=zv6 z A h;have hm:(fn.results.mapM fun
   |.tmp t=>pure (a.tmps.getD t undef)
   |.cell c t=>do loadVar t (←asAddr (a.tmps.getD c undef)):Sem (Array Value)).run B w=.ok g.toArray w:=by
  rw[Array.mapM_eq_mapM_toList];rw[map_eq_pure_bind,Sem.run_bind,C];rfl
 refine⟨if h:g.toArray.size=1 then g.toArray[0] else .tuple g.toArray,?_,?_⟩
 ·unfold results;rw[Sem.run_bind];exact (congrArg (λr=>Result.andThen r _) hm).trans rfl
 ·cases D with
  |nil=>exact .tup .nil
  |cons e E =>
   cases E with
   |nil=>exact e
   |cons G j =>
    simp only[List.size_toArray,Ig];rw[dif_neg J];exact .tup (.cons e (.cons G j))
def zzx{fr:Frame}{j:List Frame}{w:World}{z:List Deferred}(hm:fr.mode=.returning)(hd:fr.defers={ target:=.collected g,args:=#[] }::z)(hw:w.heap[g]?=some (.deferred (some []))) :
  step B (lone fr j w)=.next (lone { fr with defers:=z } j (w.putObj g (.deferred none))) :=
 step_lone_go (by simp[stepG,unwind,hm,hd,Sem.runT_eq,run_takeDeferred hw,GStep.bare_after])
def zv2{U:Program}{E:World}{K:CM}:∀{R:List Nat} {G:List Deferred} {H B:Heap} {w:World} {fr:Frame} (g:List Frame),DR K R G→z9l R H=some B→Rel E K H w→fr.mode=.returning→fr.defers=G →
  ∃C,Rel E K B C∧Steps U (lone fr g w) (lone { fr with defers:=[] } g C)
 |_,_,H,B,w,fr,g,.nil,h,j,hm,hd=>by
  cases h;refine⟨w,j,?_⟩;have:fr={ fr with defers:=[] }:=by cases fr;cases hd;rfl
  rw[←this];exact .refl _ _
 |_,_,H,B,w,fr,g,.cons (d:=d) (L:=T) (r:=r) D M,h,j,hm,hd=>by
  simp only[z9l]at h;split at h
  ·rename_i O;obtain⟨I,hw⟩:=j.obj _ _ (j.fresh _ _ _ D) O T D;have F:Rel E K (H.put d (.defd false)) (w.putObj T.b (.deferred none)):=j.putBlock D I (λ_ _ _ _ e=>Aq) (λz V A=>by
    rw[D]at A;cases A;exact⟨I,z⟩)
   obtain⟨C,P,Q⟩:=zv2 (fr:={ fr with defers:=r }) g M h F hm rfl;exact⟨C,P,.head (zzx hm hd hw) Q⟩
  ·cases h
def ER.start{gg:CM}{args:List AV}{C:List Value}(hv:VRs gg args C){n:Nat}(hn:n≤P0)(hl:args.length≤n):ER n gg (Qz args 0 .e) (C.toArray++Array.replicate (n-C.toArray.size) undef):=by
 have hlen:=hv.length;refine⟨Ab,hn,λt ht=>?_⟩;rw[get_ofList args 0 .e t,Xd];rw[Iu];by_cases h:t<args.length
 ·rw[Hv ⟨Kn _,J⟩];obtain⟨a,v,q1,q2,q3⟩:=hv.get' h;rw[Nat.sub_zero,q1];rw[Kk Ab];simp only[Jf,q2,Jg];exact q3
 ·rw[Hs J];show _=undef;rw[Array.getElem?_append_right Ab,Array.getElem?_replicate];split<;>rfl
def setPs_ok:∀(g:List Tmp) (args:List AV) (j:List Value) {n:Nat} {F A:Tr AV} {z:Array Value},zx7 g args n F=some A→VRs M args j→ER n M F z →
  g.length=j.length∧ER n M A ((g.zip j).foldl (λtmps (t,a)=>tmps.setIfInBounds t a) z):=by
 intro g
 induction g with
 |nil =>
  intro args j n F A z h hv B;cases hv with
  |nil=>cases h;exact⟨rfl,B⟩
  |cons e E=>cases h
 |cons p g G =>
  intro args j n F A z h hv B;cases hv with
  |nil=>cases h
  |cons e E =>
   simp only[zx7]at h;split at h
   ·rename_i H;have C:p<n:=H6 H;have D:=ER.put (a:={ tmps:=z,defers:=[] }) B (d:=some p) (λt I=>by cases I;exact C) e;obtain⟨K,L⟩:=G _ _ h E D;exact⟨A9,L⟩
   ·cases h
def Zg{P:Program}(hm:P.follows .mixedOrders=true){k:Qe}(hk:cg P k){f m:Nat}{w:World}{args:List AV}{z:List Value}{v:AV}(hR:Rel K M F w)(hv:VRs M args z)
  (h:(zjl P f).run k m args F=.ok v vY):znv P K M w (.fn f) z v vY:=by
 unfold zjl at h;split at h
 ·cases h
 ·rename_i fn T;split at h
  ·cases h
  ·rename_i B U;split at h
   ·rename_i E;dsimp only at h;split at h
    ·cases h
    ·rename_i G;have C:args.length≤fn.ntmps:=H6 G;split at h
     ·cases h
     ·rename_i x gA gC H1 H;intro D;let b:Frame:={ (default:Frame) with fn:=f,kind:=.normal,roundOf:=none };have A:Frame.enter P f z.toArray .normal=b.atR { tmps:=z.toArray++Array.replicate (fn.ntmps-z.toArray.size) undef,defers:=[] } [.code B]:=by
       simp[Frame.enter,Frame.atR,T,U,b]
      obtain⟨C1,w1,a1,q1,L,V⟩:=mq hm f fn.ntmps B k hk m none K M (Qz args 0 .e) [] F { tmps:=z.toArray++Array.replicate (fn.ntmps-z.toArray.size) undef,defers:=[] } w b x gA gC H1
       ⟨hR,ER.start hv E C,.nil⟩ rfl trivial H [] D
      rw[←A]at V;have I:∀g,Steps P (lone (Frame.enter P f z.toArray .normal) D w) (lone { b.atR a1 g with mode:=.returning } D w1) →
        (match z9l gC H1 with
         |none=>RV.no
         |some O=>match (xm P fn.results.toList).run gA O with
          |some [v]=>.ok v O
          |some l=>.ok (.tup l) O
          |none=>.no)=.ok v vY →
        ∃X Y v' Z,M.le X∧Rel K X vY Y∧VR X v v'∧Steps P (lone (Frame.enter P f z.toArray .normal) D w) (lone Z D Y)∧Z.fn=f∧Z.leaving P Y (.returned v'):=by
       intro g hs he;split at he
       ·cases he
       ·rename_i O gg;obtain⟨w2,Q,r2⟩:=zv2 (fr:={ b.atR a1 g with mode:=.returning }) D L.defs gg L.rel rfl rfl;split at he
        ·rename_i v1 j;cases he;obtain⟨xv,s1,R⟩:=zlj (fn:=fn) Q L.env j;exact⟨C1,w2,xv,_,q1,Q,R,Steps.trans hs r2,rfl,rfl,rfl,rfl,fn,T,s1⟩
        ·rename_i l gz j;cases he;obtain⟨xv,s1,R⟩:=zlj (fn:=fn) Q L.env j;refine⟨C1,w2,xv,_,q1,Q,?_,Steps.trans hs r2,rfl,rfl,rfl,rfl,fn,T,s1⟩;rcases l with _|⟨u,_|⟨u2,l⟩⟩
         ·exact R
         ·exact absurd rfl (gz u)
         ·exact R
        ·cases he
      cases x with
      |exit id=>cases h
      |normal=>exact I [] (Steps.trans V (.one (stepR_end rfl))) h
      |ret =>
       obtain⟨k1,s⟩:=V;exact I (.code .ret::k1) (Steps.trans s (.one (stepR_ret rfl))) h
   ·cases h
def zsf{P:Program}{l:Nat}{x:Ex}{v:AV}(h:zil l x F=.ok v vY){w:World}(B:Rel K M F w){O:Loc}(z:M l 0=some O) :
  ∃G H,(Instr.endRound O.b (match x with
   |.normal=>none
   |.ret=>some .ret
   |.exit id=>some (.exit id))).run P w=.ok H G∧Rel K M vY G∧VR M v H:=by
 unfold zil at h;split at h
 ·rename_i st I f n T R a b d Q;obtain⟨A,C,D,hd,hw,E⟩:=B.obj _ _ (B.fresh _ _ _ z) Q O z;split at h
  ·cases h;refine⟨_,_,run_endRound none hw,B.putBlock z A (λ_ _ _ _ e=>Aq) (λg L j=>?_),.bool true⟩;rw[z]at j;cases j;exact⟨A,C,D,hd,g,E⟩
  ·cases h;refine⟨_,_,run_endRound (some .ret) hw,B.putBlock z A (λ_ _ _ _ e=>Aq) (λg L j=>?_),.bool false⟩;rw[z]at j;cases j;exact⟨A,C,D,hd,g,E⟩
  ·rename_i id;cases h;refine⟨_,_,run_endRound (some (.exit id)) hw,B.putBlock z A (λ_ _ _ _ e=>Aq) (λg L j=>?_),.bool false⟩;rw[z]at j;cases j;exact⟨A,C,D,hd,g,E⟩
 ·cases h
def fp{P:Program}{l:Nat}(h:zt3 l F=some vY){w:World}(A:Rel K M F w){E:Loc}(z:M l 0=some E) :
  ∃B,(Instr.beginRound E.b).run P w=.ok () B∧Rel K M vY B:=by
 unfold zt3 at h;split at h
 ·rename_i C f n R O a b d G;cases h;obtain⟨D,H,I,hd,hw,L⟩:=A.obj _ _ (A.fresh _ _ _ z) G E z;refine⟨_,run_beginRound hw rfl,A.putBlock z D (λ_ _ _ _ e=>Aq) (λg Q j=>?_)⟩;rw[z]at j;cases j;exact⟨D,H,I,hd,g,L⟩
 ·cases h
def zcu{P:Program}(hm:P.follows .mixedOrders=true){gz:Qe}(Z:cg P gz):∀m,cg P (Rs P gz m)
 |0=>λ_ _ _ _ _ _ _ _ _ _ _ h=>An
 |m+1=>by
  have K:=zcu hm Z m;intro w0 gC gD w t gg A v H' B hv h;unfold Rs at h;cases t with
  |fn f =>
   dsimp only at h;split at h
   ·rename_i v1 H1 ho;cases h;exact Z _ _ _ _ _ _ _ _ _ B hv ho
   ·exact Zg hm K B hv h
  |yield l =>
   dsimp only at h;split at h
   ·rename_i f n gE C a b d hg;split at h
    ·cases h
    ·rename_i E1 L;split at h
     ·rename_i E2 H2 M;split at h
      ·cases h
      ·rename_i O Q;split at h
       ·cases h
       ·rename_i x E3 gF H3 R;split at h
        ·intro gA D c cs;obtain⟨hB,E,Ld,hd,hw,hE⟩:=B.obj _ _ (B.fresh _ _ _ D) hg gA D;obtain⟨F,T⟩:=setPs_ok _ _ _ L hv hE;have U:=run_yield (P:=P) (args:=A.toArray) hw (by simpa using F.symm);dsimp only at U;have z:((C.zip A.toArray).foldl (λg (t,a)=>g.setIfInBounds t a) E)=((C.toList.zip A).foldl (λg (t,a)=>g.setIfInBounds t a) E):=by
          rw[←Array.foldl_toList,Array.toList_zip]
         rw[z]at U;let G:Frame:={ (default:Frame) with fn:=f,kind:=.normal,roundOf:=some gA.b };have H:RO gC (some l) G.roundOf:=⟨gA,D,rfl⟩;obtain⟨C1,w1,a1,I,V,q3⟩:=mq hm f n a (Rs P gz m) K m (some l) w0 gC E1 [] gD { tmps:=(C.toList.zip A).foldl (λg (t,a)=>g.setIfInBounds t a) E,defers:=[] } w G .normal E2 [] H2
          ⟨B,T,.nil⟩ rfl H M [.beginRound,.code b] (c::cs)
         obtain⟨w2,r1,r2⟩:=fp (P:=P) Q V.rel (I.keep _ _ _ D);obtain⟨C2,w3,a3,s1,s2,X⟩:=mq hm f n b (Rs P gz m) K m (some l) w0 C1 E2 [] O a1 w2 G x E3 [] H3 ⟨r2,V.env,V.defs⟩ rfl (H.mono I) R [] (c::cs);obtain⟨w4,xv,Y,t2,t3⟩:=zsf (P:=P) h s2.rel (s1.keep _ _ _ (I.keep _ _ _ D));refine⟨C2,w4,xv,f,_,a,b,CM.le_trans I s1,t2,t3,U,?_⟩;have j:Frame.round gA.b f ((C.toList.zip A).foldl (λg (t,a)=>g.setIfInBounds t a) E) a b .normal=G.atR { tmps:=(C.toList.zip A).foldl (λg (t,a)=>g.setIfInBounds t a) E,defers:=[] } [.code a,.beginRound,.code b]:=by
          simp[Frame.round,Frame.atR,G]
         rw[j];refine Steps.trans q3 (.head (stepR_beginRound rfl r1) ?_);cases x with
         |normal=>exact Steps.trans X (.one (stepR_round_end rfl rfl Y))
         |ret =>
          obtain⟨k1,s⟩:=X;exact Steps.trans s (.one (stepR_round_ret rfl rfl Y))
         |exit id =>
          obtain⟨k1,e,s⟩:=X;exact Steps.trans s (.one (stepR_round_exit rfl rfl e Y))
        ·cases h
     ·cases h
   ·cases h
def Rel.start(w:World):Rel w ⟨λ_ _=>none,0⟩ ⟨.e,0⟩ w :=
 ⟨rfl,.refl _ _,λ_ _ _ h=>An,λ_ _ _ h=>An,λ_ _ _ _ _ _ h=>An,λ_ _ h=>absurd h (L6 _),λ_ _ _ _ _ h=>absurd h (L6 _)⟩
end
section
open Go.RowKit Go.ChangeShapes Go.WideShapes Go.ChangeAt
variable {H : Type} {enc : TypeId × Value → H} {P : Program}
def zv8{f:Func}{s:ChangeSpec}{E j F:Bool}{W:World}{args:Array Value}{v:Value}{L gs:List (DataW H)}{g pa pv:List MemPlace}
  (T:DataW.Whole enc P f.params.toList s.vars Q W args.toList L gs g)
  (C:∀(b:Nat) (G:Nat→Bool) (hd:Bool),DataW.TrodAll enc P K b G hd f.resultTypes.toList (v.resultList f.resultTypes.size) (s.fn H (L++gs)).results [])
  (z:∀G:Nat→Bool,(∀p∈g,G p.block=true)→DataW.TrodAll enc P K 0 G true f.params.toList args.toList (s.fn H (L++gs)).args pa)
  (A:∀G:Nat→Bool,(∀p∈g,G p.block=true)→DataW.TrodVars enc P K G s.vars (s.fn H (L++gs)).vars pv)
  (B:g=pa++pv) (V:Below W.heap.size W K)
  (U:∀(gg:Nat) (t:TypeId) (r:Value),f.resultTypes[gg]?=some t→(v.resultList f.resultTypes.size)[gg]?=some r→Value.okWide P K .any 0 t r) :
  s.post enc P f Q E j F W args v K:=by
 have M:=T.lt;obtain⟨_,_,_,_,_,X,Y⟩:=id T;have O:∀p∈g,(λb=>decide (b<W.heap.size)) p.block=true:=λp D=>by simpa using M p D
 refine⟨L,gs,g,[],pa,pv,T,C _ _ _,z _ O,A _ O,World.keptBut_mono (λp D=>⟨D,.inr (Ih.1 (B ▸ D))⟩) (V.frame (·∈g)),λ_=>?_⟩;refine⟨U,_,_,([]++pa)++pv,⟨[]++pa,pv,trodAll_append (z _ (λ_ _=>rfl)) (C _ _ _),A _ (λ_ _=>rfl),rfl,λb I D=>?_,λZ=>?_⟩,λp D _=>by rw[B];simpa using D⟩
 ·have R:MemPlace.cell b I∈g:=by rw[B];simpa using D
  rw[V.frozen (p:=⟨b,I,none⟩) (M _ R)];exact X b I R
 ·have:=Y Z;rw[B]at this;simpa using this
end
def Qe.le(k k':Qe):Prop:=∀t a H v H',k t a H=.ok v H'→k' t a H=.ok v H'
def z42{n:Nat}{ops:Array Oper}{o:Oper}{k A:Qe}(E:k.le A)(h:(Qj B n ops o).run k P F=.ok vG vY):(Qj B n ops o).run A P F=.ok vG vY:=by
 unfold Qj at h ⊢;cases C:Qk n o.dst with
 |none=>rw[C]at h;cases h
 |some p =>
  rw[C]at h;dsimp only at h ⊢;cases D:(R3 ops o).run P with
  |false=>rw[D]at h;exact h
  |true =>
   rw[D]at h;dsimp only at h ⊢;cases j:(Ny B o.op).run P F with
   |no=>rw[j]at h;cases h
   |val v G=>rw[j]at h;exact h
   |call t g =>
    rw[j]at h;dsimp only at h ⊢;cases z:k t g F with
    |no=>rw[z]at h;cases h
    |ok v G=>rw[z]at h;rw[E _ _ _ _ _ z];exact h
def z8n{r:OE}{f:Tr AV→Heap→OE}(h:(OE.rec .no f r:OE)=.ok P F):∃g j,r=.ok g j∧f g j=.ok P F:=by
 cases r with
 |no=>cases h
 |ok g j=>exact⟨g,j,rfl,h⟩
def za6{F:Program}{n:Nat}{ops:Array Oper}{k z:Qe}(A:k.le z):∀{l:List Oper} {B g:Tr AV} {C j:Heap},(mw F n ops l).run k B C=.ok g j→(mw F n ops l).run z B C=.ok g j
 |[],_,_,_,_,h=>h
 |o::l,B,g,C,j,h=>by
  simp only[mw]at h ⊢;obtain⟨G,H,D,E⟩:=z8n h;rw[z42 A D];exact za6 A E
def z5j{M:Program}{n:Nat}{ops:Array Oper}{k I:Qe}(j:k.le I):∀{l g:List DOp} {K B:Tr AV} {L C:Heap},(Uo M n ops l g).run k K L=.ok B C→(Uo M n ops l g).run I K L=.ok B C
 |[],_,_,_,_,_,h=>h
 |x::l,g,K,B,L,C,h=>by
  simp only[Uo]at h ⊢;split at h
  ·rename_i D;obtain⟨E,F,z,A⟩:=z8n h;dsimp only;rw[z42 j z];exact z5j j A
  ·rename_i D;obtain⟨E,F,z,A⟩:=z8n h;dsimp only;rw[z42 j z];exact z5j j A
  ·rename_i D;obtain⟨E,F,z,A⟩:=z8n h;obtain⟨G,H⟩:=z97 A;dsimp only;rw[z42 j z];dsimp only;rw[G];exact z5j j H
  ·rename_i D;obtain⟨E,F,z,A⟩:=z8n h;obtain⟨G,H⟩:=z97 A;dsimp only;rw[z42 j z];dsimp only;rw[G];exact z5j j H
def znh{n:Nat}{ops:Array Oper}{k g:Qe}(j:k.le g)(h:(z95 B n ops).run k P F=.ok vG vY):(z95 B n ops).run g P F=.ok vG vY:=by
 unfold z95 at h ⊢;dsimp only at h ⊢;split at h
 ·exact z5j j h
 ·cases h
def zbu{f G:Tr AV→List Nat→Heap→Res}(E:∀B C D x g j z,f B C D=.ok x g j z→G B C D=.ok x g j z):∀{m A:Nat},m≤A→∀{B C D x g j z},lz f m B C D=.ok x g j z→lz G A B C D=.ok x g j z
 |0,_,_,_,_,_,_,_,_,_,h=>An
 |m+1,0,hm,_,_,_,_,_,_,_,_=>J
 |m+1,A+1,hm,B,C,D,x,g,j,z,h=>by
  simp only[lz]at h ⊢;split at h
  ·cases h
  ·rename_i y H I K F;rw[E _ _ _ _ _ _ _ F];dsimp only;split at h
   ·exact zbu E J h
   ·exact h
def wt{P:Program}{f n:Nat}{k O:Qe}(I:k.le O){m:Nat}(hm:m≤g):∀(c:Code) {B:Tr AV} {C:List Nat} {D:Heap} {x:Ex} {j:Tr AV} {z:List Nat} {A:Heap},
  (Pq P f n c).run k m vO B C D=.ok x j z A→(Pq P f n c).run O g vO B C D=.ok x j z A:=by
 intro c
 induction c with
 |skip=>intro B C D x j z A h;exact h
 |region id ops draw =>
  intro B C D x j z A h;simp only[Pq]at h ⊢;cases draw with
  |true =>
   dsimp only at h ⊢;split at h
   ·cases h
   ·rename_i K L E;rw[znh I E];exact h
  |false =>
   dsimp only at h ⊢;split at h
   ·cases h
   ·rename_i K L E;rw[za6 I E];exact h
 |seq a b F G =>
  intro B C D x j z A h;simp only[Pq]at h ⊢;cases M:(Pq P f n a).run k m vO B C D with
  |no=>rw[M]at h;cases h
  |ok y K Q L =>
   rw[M]at h;rw[F M];dsimp only at h ⊢;cases y with
   |normal=>exact G h
   |exit id=>exact h
   |ret=>exact h
 |cond c a b F G =>
  intro B C D x j z A h;simp only[Pq]at h ⊢;split at h
  ·split at h
   ·exact F h
   ·exact G h
  ·cases h
 |block id c H =>
  intro B C D x j z A h;simp only[Pq]at h ⊢;split at h
  ·cases h
  ·rename_i y K Q L E;rw[H E];exact h
 |loop c H =>
  intro B C D x j z A h;simp only[Pq]at h ⊢;exact zbu (λB C D x j z A h=>H h) hm h
 |rangeFunc U R a b _ _ =>
  intro B C D x j z A h;simp only[Pq]at h ⊢;split at h
  ·cases h
  ·split at h
   ·cases h
   ·split at h
    ·split at h
     ·cases h
     ·rename_i v T E;rw[I _ _ _ _ _ E];exact h
    ·cases h
 |exit id=>intro B C D x j z A h;exact h
 |scope c H=>intro B C D x j z A h;exact H h
 |label l=>intro B C D x j z A h;exact h
 |ret=>intro B C D x j z A h;exact h
 |_=>intro B C D x j z A h;cases h
def zsb{P:Program}{f:Nat}{k A:Qe}(G:k.le A){m:Nat}(hm:m≤g){v:AV}(h:(zjl P f).run k m T F=.ok v vY):(zjl P f).run A g T F=.ok v vY:=by
 unfold zjl at h ⊢;cases B:P.funcs[f]? with
 |none=>rw[B]at h;cases h
 |some fn =>
  rw[B]at h;dsimp only at h ⊢;cases C:fn.body with
  |none=>rw[C]at h;cases h
  |some j =>
   rw[C]at h;dsimp only at h ⊢;by_cases D:fn.ntmps≤P0
   ·rw[Hv D]at h ⊢;dsimp only at h ⊢;cases E:Nat.ble T.length fn.ntmps with
    |false=>rw[E]at h;cases h
    |true =>
     rw[E]at h;dsimp only at h ⊢;cases z:(Pq P f fn.ntmps j).run k m none (Qz T 0 .e) [] F with
     |no=>rw[z]at h;cases h
     |ok x I K H=>rw[z]at h;rw[wt G hm _ z];exact h
   ·rw[Hs D]at h;cases h
def oc{P:Program}{O:Qe}:∀{m g:Nat},m≤g→Qe.le (Rs P O m) (Rs P O g)
 |0,_,_=>λt a I v D h=>An
 |m+1,0,h=>J
 |m+1,g+1,hm=>by
  have j:=oc (P:=P) (O:=O) (J:m≤g);intro t a I v D h;unfold Rs at h ⊢;cases t with
  |fn f =>
   dsimp only at h ⊢;cases ho:O (.fn f) a I with
   |no=>rw[ho]at h;exact zsb j J h
   |ok K L=>rw[ho]at h;exact h
  |yield l =>
   dsimp only at h ⊢;split at h
   ·rename_i f n M E Q b d R;cases B:zx7 E.toList a n M with
    |none=>rw[B]at h;cases h
    |some T =>
     rw[B]at h;dsimp only at h ⊢;split at h
     ·rename_i F G H;rw[wt j J _ H];dsimp only;cases C:zt3 l G with
      |none=>rw[C]at h;cases h
      |some z =>
       rw[C]at h;dsimp only at h ⊢;cases A:(Pq P f n b).run (Rs P O m) m (some l) F [] z with
       |no=>rw[A]at h;cases h
       |ok x U X V=>rw[A]at h;rw[wt j J _ A];exact h
     ·cases h
   ·cases h
section
noncomputable section
abbrev de:=Nat→Option AV
def Up(E:Tr AV)(ρ:de):Prop:=∀t,t≤P0→Mt (M9 t) E=ρ t
inductive Ox where
 |t (i:Nat)
 |c (a:AV)
def Ox.ev(ρ:de):Ox→AV
 |.t i=>(ρ i).getD Rh
 |.c a=>a
def N5:Operand→Option Ox
 |.tmp t=>if t≤P0 then some (.t t) else none
 |.const v=>(Wh v).map .c
 |.func f=>some (.c (.fn (.func f) [] []))
 |.global _=>none
def Tv{x:Operand}{r:Ox}(h:N5 x=some r){E:Tr AV}{ρ:de}(j:Up E ρ):(Na x).run E=some (r.ev ρ):=by
 cases x with
 |tmp t =>
  simp only[N5]at h;split at h
  ·rename_i g;cases h;unfold Na;dsimp only;rw[Hy g];dsimp only;rw[j t g];simp only[Ox.ev];cases ρ t<;>rfl
  ·cases h
 |const v =>
  simp only[N5]at h;cases hv:Wh v with
  |none=>rw[hv]at h;cases h
  |some a=>rw[hv]at h;cases h;unfold Na;dsimp only;rw[hv];rfl
 |global z=>cases h
 |func f=>cases h;rfl
def nm:List Operand→Option (List Ox)
 |[]=>some []
 |x::l=>match N5 x with
  |none=>none
  |some r=>match nm l with
   |none=>none
   |some g=>some (r::g)
def resOs_ok:∀{l:List Operand} {g:List Ox},nm l=some g→∀{E:Tr AV} {ρ:de},Up E ρ→(opds l).run E=some (g.map (·.ev ρ))
 |[],g,h,E,ρ,j=>Br
 |x::l,g,h,E,ρ,j=>by
  simp only[nm]at h;cases z:N5 x with
  |none=>rw[z]at h;cases h
  |some r =>
   rw[z]at h;dsimp only at h;cases A:nm l with
   |none=>rw[A]at h;cases h
   |some B =>
    rw[A]at h;cases h;unfold opds;dsimp only;rw[Tv z j,resOs_ok A j];rfl
def mg:Option Operand→Option (Option Ox)
 |none=>some none
 |some x=>match N5 x with
  |none=>none
  |some r=>some (some r)
def Pf(ρ:de):Option Ox→Option (Option Nat)
 |none=>some none
 |some r=>match r.ev ρ with
  |.int _ (.ofNat n)=>some (some n)
  |_=>none
def y5{x:Option Operand}{r:Option Ox}(h:mg x=some r){E:Tr AV}{ρ:de}(j:Up E ρ):(Px x).run E=Pf ρ r:=by
 cases x with
 |none=>cases h;rfl
 |some x =>
  simp only[mg]at h;cases g:N5 x with
  |none=>rw[g]at h;cases h
  |some q =>
   rw[g]at h;cases h;unfold Px Pf;dsimp only;rw[Tv g j];generalize q.ev ρ=a;split
   ·rename_i n e;cases e;rfl
   ·rename_i e;split
    ·rename_i k n;exact absurd rfl (e k n)
    ·rfl
inductive ROp where
 |move (x:Ox)
 |pick (c a b:Ox)
 |alloc (l:List AV)
 |box (x:Ox)
 |build (cs:List AV) (ps:List (Nat×Nat×Ox))
 |buildSl (size len:Nat) (cs:List AV) (ps:List (Nat×Nat×Ox))
 |load1 (x:Ox)
 |loadN (n:Nat) (x:Ox)
 |store (n:Nat) (x y:Ox)
 |nilChk (x:Ox)
 |bin (op:BinOp) (g:Bool) (t:TypeId) (x y:Ox)
 |un (op:UnOp) (x:Ox)
 |cvInt (k:IntKind) (x:Ox)
 |cvStr (x:Ox)
 |cvSame (x:Ox)
 |cvBytes (x:Ox)
 |mkIface (t:TypeId) (x:Ox)
 |mkFunc (f:Fn) (first cap:List Ox)
 |mkMap0
 |mkMap1 (x:Ox)
 |mkSl (size:Nat) (z:List AV) (l c:Ox)
 |slStr (x:Ox) (lo hi:Option Ox)
 |slSl (size:Nat) (x:Ox) (lo hi mx:Option Ox)
 |slArr (n size:Nat) (x:Ox) (lo hi mx:Option Ox)
 |fieldAddr (off:Nat) (x:Ox)
 |field (g:Bool) (n off:Nat) (x:Ox)
 |ixAddr (size:Nat) (x i:Ox)
 |ixAddrArr (len size:Nat) (x i:Ox)
 |ixStr (x i:Ox)
 |ixArr (g:Bool) (len size:Nat) (x i:Ox)
 |lookup (d:TypeDesc) (z:AV) (ok:Bool) (x i:Ox)
 |mapUpd (d:TypeDesc) (m k v:Ox)
 |range (x:Ox)
 |next (x:Ox)
 |assert (z:AV) (ok:Bool) (t:TypeId) (x:Ox)
 |extract (i:Nat) (x:Ox)
 |lenStr (x:Ox)
 |lenSl (x:Ox)
 |lenMap (x:Ox)
 |lenArr (n:Nat) (x:Ox)
 |cap (x:Ox)
 |maxi (mx:Bool) (l:List Ox)
 |appZ (size:Nat) (z:List AV) (s x:Ox)
 |appG (size:Nat) (s x:Ox)
 |copy (size:Nat) (d x:Ox)
 |clear (size:Nat) (z:List AV) (x:Ox)
 |delete (d:TypeDesc) (m k:Ox)
 |callV (f:Ox) (args:List Ox)
 |invoke (r:Ox) (name:String) (args:List Ox)
def zr(ρ:de)(cs:List AV):List (Nat×Nat×Ox)→Option (List AV)
 |[]=>some cs
 |(j,g,x)::z=>match (x.ev ρ).cells with
  |none=>none
  |some l=>match Nat.beq l.length g with
   |true=>match Nat.ble (Nat.add j g) cs.length with
    |true=>zr ρ (Tw cs j l) z
    |false=>none
   |false=>none
def Oi(P:Program)(ρ:de)(j:Heap):ROp→OR
 |.move x=>.val (x.ev ρ) j
 |.pick c a b=>match c.ev ρ with
  |.bool true=>.val (a.ev ρ) j
  |.bool false=>.val (b.ev ρ) j
  |_=>.no
 |.alloc l=>Wm j l
 |.box x=>match (x.ev ρ).cells with
  |some l=>Wm j l
  |none=>.no
 |.build R T=>match zr ρ R T with
  |some l=>.val (.agg l) j
  |none=>.no
 |.buildSl g len R T=>match zr ρ R T with
  |some l=>match newObj j l with
   |some (o,C)=>.val (.sl o 0 0 len g (some len)) C
   |none=>.no
  |none=>.no
 |.load1 x=>match x.ev ρ with
  |.ptr o v i=>match Qi j o v i 1 with
   |some [c]=>.val c j
   |_=>.no
  |_=>.no
 |.loadN n x=>match x.ev ρ with
  |.ptr o v i=>match Qi j o v i n with
   |some l=>.val (.agg l) j
   |none=>.no
  |_=>.no
 |.store n x y=>match x.ev ρ with
  |.ptr o v i=>match (y.ev ρ).cells with
   |some l=>match Nat.beq l.length n with
    |true=>match Vc j o v i l with
     |some C=>.val Rh C
     |none=>.no
    |false=>.no
   |none=>.no
  |_=>.no
 |.nilChk x=>z7d j (x.ev ρ)
 |.bin op V t x y=>ret1 j (Pa P op V t (x.ev ρ) (y.ev ρ))
 |.un op x=>ret1 j (unA op (x.ev ρ))
 |.cvInt k x=>match x.ev ρ with
  |.int _ n=>.val (.int k (Un k n)) j
  |_=>.no
 |.cvStr x=>match x.ev ρ with
  |.nilSl=>.val (.str 0 0) j
  |.sl o v i len 1 _=>match Qi j o v i len with
   |some l=>match Vy.bytesA l with
    |some n=>.val (.str len n) j
    |none=>.no
   |none=>.no
  |_=>.no
 |.cvSame x=>match x.ev ρ with
  |.str l n=>.val (.str l n) j
  |_=>.no
 |.cvBytes x=>match x.ev ρ with
  |.str len n=>match newObj j ((Vg len n).map λ(b:Nat)=>AV.int .u8 (Int.ofNat b)) with
   |some (o,C)=>.val (.sl o 0 0 len 1 none) C
   |none=>.no
  |_=>.no
 |.mkIface t x=>.val (.iface t (x.ev ρ)) j
 |.mkFunc f first cap=>.val (.fn f (first.map (·.ev ρ)) (cap.map (·.ev ρ))) j
 |.mkMap0=>Zv j
 |.mkMap1 x=>match x.ev ρ with
  |.int _ _=>Zv j
  |_=>.no
 |.mkSl g L l c=>match l.ev ρ,c.ev ρ with
  |.int .i64 (.ofNat l),.int .i64 (.ofNat c)=>match Nat.ble l c with
   |true=>match Nat.ble c 1048576 with
    |true=>match newObj j (S8 L c) with
     |some (o,C)=>.val (.sl o 0 0 l g (some c)) C
     |none=>.no
    |false=>.no
   |false=>.no
  |_,_=>.no
 |.slStr x B hi=>match x.ev ρ,Pf ρ B,Pf ρ hi with
  |.str len n,some B,some hi =>
   let l:=B.getD 0;let h:=hi.getD len
   match Nat.ble l h with
   |true=>match Nat.ble h len with
    |true=>.val (.str (Nat.sub h l) (Nat.mod (Nat.div n (Nat.pow 256 l)) (Nat.pow 256 (Nat.sub h l)))) j
    |false=>.no
   |false=>.no
  |_,_,_=>.no
 |.slSl g x B hi H=>match x.ev ρ,Pf ρ B,Pf ρ hi,Pf ρ H with
  |.sl o v i len A M,some B,some hi,some H=>ret1 j (U4 g B hi H o v i len A M)
  |.nilSl,some B,some hi,some none=>match Nat.beq (Nat.add (B.getD 0) (hi.getD 0)) 0 with
   |true=>.val .nilSl j
   |false=>.no
  |.emp,some B,some hi,some none=>match Nat.beq (Nat.add (B.getD 0) (hi.getD 0)) 0 with
   |true=>.val .emp j
   |false=>.no
  |_,_,_,_=>.no
 |.slArr n g x B hi H=>match x.ev ρ,Pf ρ B,Pf ρ hi,Pf ρ H with
  |.ptr o v i,some B,some hi,some H=>match j.get o with
   |some (.cells _ O U false)=>match Nat.beq v U with
    |true=>match Nat.ble (Nat.add i (Nat.mul n g)) O with
     |true=>ret1 j (U4 g B hi H o v i n g (some n))
     |false=>.no
    |false=>.no
   |_=>.no
  |_,_,_,_=>.no
 |.fieldAddr I x=>match x.ev ρ with
  |.ptr o v i=>.val (.ptr o v (Nat.add i I)) j
  |_=>.no
 |.field V n I x=>match x.ev ρ with
  |.agg l=>ret1 j (dh V n l I)
  |_=>.no
 |.ixAddr g x i=>match x.ev ρ,i.ev ρ with
  |.sl o v i len A _,.int _ (.ofNat n)=>match Nat.blt n len with
   |true=>match Nat.beq A g with
    |true=>.val (.ptr o v (Nat.add i (Nat.mul n A))) j
    |false=>.no
   |false=>.no
  |_,_=>.no
 |.ixAddrArr len g x i=>match x.ev ρ,i.ev ρ with
  |.ptr o v i,.int _ (.ofNat n)=>match Nat.blt n len with
   |true=>.val (.ptr o v (Nat.add i (Nat.mul n g))) j
   |false=>.no
  |_,_=>.no
 |.ixStr x i=>match x.ev ρ,i.ev ρ with
  |.str len n,.int _ (.ofNat i)=>match Nat.blt i len with
   |true=>.val (.int .u8 (Int.ofNat (Nat.mod (Nat.div n (Nat.pow 256 i)) 256))) j
   |false=>.no
  |_,_=>.no
 |.ixArr V len g x i=>match x.ev ρ,i.ev ρ with
  |.agg l,.int _ (.ofNat n)=>match Nat.blt n len with
   |true=>ret1 j (dh V g l (Nat.mul n g))
   |false=>.no
  |_,_=>.no
 |.lookup d L ok x i=>match zzj j (x.ev ρ) with
  |none=>.no
  |some K=>match xu d (i.ev ρ) K with
   |some (some v)=>.val (if ok then .tup [v,.bool true] else v) j
   |some none=>.val (if ok then .tup [L,.bool false] else L) j
   |none=>.no
 |.mapUpd d m k v=>match m.ev ρ with
  |.map o=>match j.get o with
   |some (.map K z)=>match yq d (k.ev ρ) (v.ev ρ) z K with
    |some (D,true)=>.val Rh (j.put o (.map D (Nat.add z 1)))
    |some (D,false)=>.val Rh (j.put o (.map D z))
    |none=>.no
   |_=>.no
  |_=>.no
 |.range x=>match x.ev ρ with
  |.str len n=>.val (.ptr j.next 0 0) (j.push (.iter len n 0))
  |_=>.no
 |.next x=>match x.ev ρ with
  |.ptr o 0 0=>match j.get o with
   |some (.iter len n F)=>match Nat.blt F len with
    |true=>match Nat.blt (Nat.mod (Nat.div n (Nat.pow 256 F)) 256) 128 with
     |true=>.val (.tup [.bool true,.int .i64 (Int.ofNat F),.int .i32 (Int.ofNat (Nat.mod (Nat.div n (Nat.pow 256 F)) 256))]) (j.put o (.iter len n (Nat.add F 1)))
     |false=>.no
    |false=>.val (.tup [.bool false]) j
   |_=>.no
  |_=>.no
 |.assert L ok t x=>match x.ev ρ with
  |.nilIf=>if ok then .val (.tup [L,.bool false]) j else .no
  |.iface X v=>match Nat.beq X t with
   |true=>.val (if ok then .tup [v,.bool true] else v) j
   |false=>if ok then .val (.tup [L,.bool false]) j else .no
  |_=>.no
 |.extract i x=>match x.ev ρ with
  |.tup l=>ret1 j l[i]?
  |_=>.no
 |.lenStr x=>match x.ev ρ with
  |.str l _=>.val (.int .i64 (Int.ofNat l)) j
  |_=>.no
 |.lenSl x=>match x.ev ρ with
  |.sl _ _ _ len _ _=>.val (.int .i64 (Int.ofNat len)) j
  |.nilSl=>.val (.int .i64 0) j
  |.emp=>.val (.int .i64 0) j
  |_=>.no
 |.lenMap x=>match x.ev ρ with
  |.nilMap=>.val (.int .i64 0) j
  |.map o=>match j.get o with
   |some (.map K _)=>.val (.int .i64 (Int.ofNat K.length)) j
   |_=>.no
  |_=>.no
 |.lenArr n _=>.val (.int .i64 (Int.ofNat n)) j
 |.cap x=>match x.ev ρ with
  |.nilSl=>.val (.int .i64 0) j
  |.sl _ _ _ _ _ (some r)=>.val (.int .i64 (Int.ofNat r)) j
  |_=>.no
 |.maxi H l=>match (l.map (λ(x:Ox)=>x.ev ρ):List AV) with
  |.int k n::l=>ret1 j (bj H (.int k n) l)
  |_=>.no
 |.appZ g L s x=>match x.ev ρ with
  |.int .i64 (.ofNat n)=>match Nat.ble n 1048576 with
   |true=>V5 j g (s.ev ρ) n (S8 L n)
   |false=>.no
  |_=>.no
 |.appG g s x=>match i3 j g (x.ev ρ) with
  |some (n,l)=>match Nat.ble n 1048576 with
   |true=>V5 j g (s.ev ρ) n l
   |false=>.no
  |none=>.no
 |.copy g d x=>match i3 j g (x.ev ρ) with
  |some (n,l)=>match d.ev ρ with
   |.nilSl=>.val (.int .i64 0) j
   |.emp=>.val (.int .i64 0) j
   |.sl o v i len A _=>match Nat.beq A g with
    |true=>match Vc j o v i (l.take (Nat.mul (Py n len) g)) with
     |some C=>.val (.int .i64 (Int.ofNat (Py n len))) C
     |none=>.no
    |false=>.no
   |_=>.no
  |none=>.no
 |.clear g L x=>match x.ev ρ with
  |.nilSl=>.val Rh j
  |.emp=>.val Rh j
  |.sl o v i len A _=>match Nat.beq A g with
   |true=>match Vc j o v i (S8 L len) with
    |some C=>.val Rh C
    |none=>.no
   |false=>.no
  |_=>.no
 |.delete d m k=>match m.ev ρ with
  |.map o=>match j.get o with
   |some (.map K z)=>match zhf d (k.ev ρ) K with
    |some D=>.val Rh (j.put o (.map D z))
    |none=>.no
   |_=>.no
  |_=>.no
 |.callV f G=>zj2 P j (f.ev ρ) (G.map (·.ev ρ))
 |.invoke r Q G=>match r.ev ρ with
  |.iface t v=>match zhs P t Q with
   |some f=>match uk P f with
    |true=>.call (.fn f) (v::G.map (·.ev ρ))
    |false=>.no
   |none=>.no
  |_=>.no
def mh(g:Nat→Option (Nat×Nat)):List (Nat×Operand)→Option (List (Nat×Nat×Ox))
 |[]=>some []
 |(i,x)::l=>match g i with
  |none=>none
  |some (o,s)=>match N5 x with
   |none=>none
   |some r=>match mh g l with
    |none=>none
    |some q=>some ((o,s,r)::q)
def O6(x:Operand)(f:Ox→ROp):Option ROp:=match N5 x with
 |none=>none
 |some r=>some (f r)
def Rc(x y:Operand)(f:Ox→Ox→ROp):Option ROp:=match N5 x with
 |none=>none
 |some r=>match N5 y with
  |none=>none
  |some q=>some (f r q)
def zgz(g:Nat)(f:Nat→Ox→Option Ox→Option Ox→Option Ox→ROp)(x:Operand)(j hi z:Option Operand):Option ROp :=
 match N5 x,mg j,mg hi,mg z with
 |some r,some a,some b,some c=>some (f g r a b c)
 |_,_,_,_=>none
def zsd(P:Program)(c:Call):Option ROp :=
 match c.callee with
 |.builtin b=>match b with
  |.len=>match c.argTypes.toList,c.args.toList with
   |[t],[x]=>match P.underlying t with
    |some .string=>O6 x .lenStr
    |some (.slice _)=>O6 x .lenSl
    |some (.map _ _)=>O6 x .lenMap
    |some (.array n _)=>O6 x (.lenArr n)
    |_=>none
   |_,_=>none
  |.cap=>match c.argTypes.toList,c.args.toList with
   |[t],[x]=>match P.underlying t with
    |some (.slice _)=>O6 x .cap
    |_=>none
   |_,_=>none
  |.max=>match nm c.args.toList with
   |some l=>some (.maxi true l)
   |none=>none
  |.min=>match nm c.args.toList with
   |some l=>some (.maxi false l)
   |none=>none
  |.append=>match c.argTypes.toList,c.args.toList with
   |[st,B],[s,x]=>match P.underlying st,P.underlying B with
    |some (.slice g),some d=>match P.info? g,R6 P g with
     |some i,some C=>if 0<i.size∧i.bytes≤65536 then match d with
      |.int _=>Rc s x (.appZ i.size C)
      |.slice _=>Rc s x (.appG i.size)
      |.string=>Rc s x (.appG i.size)
      |_=>none
      else none
     |_,_=>none
    |_,_=>none
   |_,_=>none
  |.copy=>match c.argTypes.toList,c.args.toList with
   |[st,_],[d,x]=>match P.underlying st with
    |some (.slice g)=>match Ot P g with
     |none=>none
     |some j=>if 0<j then Rc d x (.copy j) else none
    |_=>none
   |_,_=>none
  |.clear=>match c.argTypes.toList,c.args.toList with
   |[st],[x]=>match P.underlying st with
    |some (.slice g)=>match Ot P g,R6 P g with
     |some j,some C=>if 0<j then O6 x (.clear j C) else none
     |_,_=>none
    |_=>none
   |_,_=>none
  |.delete=>match c.argTypes.toList,c.args.toList with
   |[mt,_],[m,k]=>match P.underlying mt with
    |some (.map A _)=>match Uw P A with
     |some d=>Rc m k (.delete d)
     |none=>none
    |_=>none
   |_,_=>none
  |_=>none
 |.value f=>match N5 f,nm c.args.toList with
  |some D,some l=>some (.callV D l)
  |_,_=>none
 |.invoke r z=>match N5 r,nm c.args.toList with
  |some D,some l=>some (.invoke D z l)
  |_,_=>none
def Sa(P:Program)(o:Op):Option ROp :=
 match o with
 |.move x |.assign x=>O6 x .move
 |.pick c a b=>match N5 c,N5 a,N5 b with
  |some c,some a,some b=>some (.pick c a b)
  |_,_,_=>none
 |.alloc t=>match R6 P t with
  |some l=>some (.alloc l)
  |none=>none
 |.box _ x=>O6 x .box
 |.build t A=>match R6 P t with
  |none=>none
  |some H=>match P.underlying t with
   |some (.struct z)=>match zbg P z.toList with
    |none=>none
    |some pl=>match mh (pl[·]?) A.toList with
     |none=>none
     |some C=>some (.build H C)
   |some (.array _ g)=>match Ot P g with
    |none=>none
    |some j=>match mh (λi=>some (i*j,j)) A.toList with
     |none=>none
     |some C=>some (.build H C)
   |_=>none
 |.buildSlice t len A=>match P.underlying t with
  |some (.slice g)=>match Ot P g with
   |none=>none
   |some j=>match R6 P g with
    |none=>none
    |some F=>if len*j≤2^20∧0<j then
      match mh (λi=>some (i*j,j)) A.toList with
      |none=>none
      |some C=>some (.buildSl j len (S8 F len) C)
     else none
  |_=>none
 |.load t a=>match Sm P t,Ot P t with
  |some true,some n=>O6 a (.loadN n)
  |some false,some _=>O6 a .load1
  |_,_=>none
 |.store t a x=>match Ot P t with
  |some n=>Rc a x (.store n)
  |none=>none
 |.nilCheck x=>O6 x .nilChk
 |.binOp op t x y _=>Rc x y (.bin op (Wj x || Wj y) t)
 |.unOp op _ x=>O6 x (.un op)
 |.convert s d x=>match P.underlying s,P.underlying d with
  |some _,some (.int k)=>O6 x (.cvInt k)
  |some (.slice e),some .string=>match P.underlying e with
   |some (.int .u8)=>O6 x .cvStr
   |_=>none
  |some _,some .string=>O6 x .cvSame
  |some _,some (.slice e)=>match P.underlying e,Ot P e with
   |some (.int .u8),some 1=>O6 x .cvBytes
   |_,_=>none
  |_,_=>none
 |.makeInterface t x=>match P.underlying t with
  |some (.interface _)=>none
  |some _=>O6 x (.mkIface t)
  |none=>none
 |.makeFunc f first cap=>match f with
  |.yield _=>none
  |f=>match nm first.toList,nm cap.toList with
   |some a,some b=>some (.mkFunc f a b)
   |_,_=>none
 |.makeMap t r=>match r with
  |none=>some .mkMap0
  |some x=>match P.underlying t with
   |some (.map _ _)=>O6 x .mkMap1
   |_=>none
 |.makeSlice t l c=>match P.underlying t with
  |some (.slice g)=>match P.info? g with
   |none=>none
   |some i=>match R6 P g with
    |none=>none
    |some F=>if 0<i.size∧i.bytes≤2^16 then Rc l c (.mkSl i.size F) else none
  |_=>none
 |.slice t x G hi D=>match P.underlying t with
  |some .string=>match D with
   |some _=>none
   |none=>match N5 x,mg G,mg hi with
    |some r,some a,some b=>some (.slStr r a b)
    |_,_,_=>none
  |some (.slice g)=>if D.isSome&&hi.isNone then none else match Ot P g with
   |none=>none
   |some j=>zgz j .slSl x G hi D
  |some (.array n g)=>if D.isSome&&hi.isNone then none else match Ot P g with
   |none=>none
   |some j=>zgz j (.slArr n) x G hi D
  |_=>none
 |.fieldAddr s x f=>match P.underlying s with
  |some (.struct z)=>match z[f]? with
   |none=>none
   |some fd=>match Ot P fd.type with
    |none=>none
    |some 0=>none
    |some _=>O6 x (.fieldAddr fd.offset)
  |_=>none
 |.field t x f=>match P.underlying t with
  |some (.struct z)=>match z[f]? with
   |none=>none
   |some fd=>match Sm P fd.type,Ot P fd.type with
    |some I,some n=>O6 x (.field I n fd.offset)
    |_,_=>none
  |_=>none
 |.indexAddr t x i=>match P.underlying t with
  |some (.slice g)=>match Ot P g with
   |none=>none
   |some j=>Rc x i (.ixAddr j)
  |some (.array len g)=>match Ot P g with
   |none=>none
   |some j=>Rc x i (.ixAddrArr len j)
  |_=>none
 |.index t x i=>match P.underlying t with
  |some .string=>Rc x i .ixStr
  |some (.array len g)=>match Sm P g,Ot P g with
   |some I,some j=>Rc x i (.ixArr I len j)
   |_,_=>none
  |_=>none
 |.lookup t x i ok=>match P.underlying t with
  |some (.map B g)=>match Uw P B,zri P g with
   |some d,some F=>Rc x i (.lookup d F ok)
   |_,_=>none
  |_=>none
 |.mapUpdate t m k x |.insert t m k x=>match P.underlying t with
  |some (.map B _)=>match Uw P B with
   |some d=>match N5 m,N5 k,N5 x with
    |some m,some k,some x=>some (.mapUpd d m k x)
    |_,_,_=>none
   |none=>none
  |_=>none
 |.range t x=>match P.underlying t with
  |some .string=>O6 x .range
  |_=>none
 |.next K s=>if s then O6 K .next else none
 |.typeAssert x _ t ok=>match P.underlying t with
  |some (.interface _)=>none
  |some _=>match zri P t with
   |none=>none
   |some F=>O6 x (.assert F ok t)
  |none=>none
 |.extract t i=>O6 t (.extract i)
 |.call c=>zsd P c
 |_=>none
section ok
variable {P : Program} {E : Tr AV} {ρ : de}
def Te{x:Operand}{f:Ox→ROp}{r:ROp}(h:O6 x f=some r):∃q,N5 x=some q∧r=f q:=by
 unfold O6 at h;cases g:N5 x with
 |none=>rw[g]at h;cases h
 |some q=>rw[g]at h;cases h;exact⟨q,rfl,rfl⟩
def Yr{x y:Operand}{f:Ox→Ox→ROp}{r:ROp}(h:Rc x y f=some r):∃q p,N5 x=some q∧N5 y=some p∧r=f q p:=by
 unfold Rc at h;cases g:N5 x with
 |none=>rw[g]at h;cases h
 |some q =>
  rw[g]at h;dsimp only at h;cases j:N5 y with
  |none=>rw[j]at h;cases h
  |some p=>rw[j]at h;cases h;exact⟨q,p,rfl,rfl,rfl⟩
def Ti(g:Up E ρ){x:Operand}{q:Ox}(j:N5 x=some q)(f:Heap→AV→OR)(z:Heap):(Ps x f).run E z=f z (q.ev ρ):=by
 show (Option.rec OR.no (λa=>f z a) ((Na x).run E):OR)=_;rw[Tv j g]
def Y3(g:Up E ρ){x y:Operand}{q p:Ox}(j:N5 x=some q)(z:N5 y=some p)(f:Heap→AV→AV→OR)(A:Heap):(S9 x y f).run E A=f A (q.ev ρ) (p.ev ρ):=by
 show (Option.rec OR.no (λa=>Option.rec OR.no (λb=>f A a b) ((Na y).run E)) ((Na x).run E):OR)=_;rw[Tv j g,Tv z g]
def zai(C:Up E ρ){g:Nat→Option (Nat×Nat)}:∀{l:List (Nat×Operand)} {z:List (Nat×Nat×Ox)} {cs:List AV},mh g l=some z→∃A,mr g l=some A∧jd cs A E=zr ρ cs z
 |[],z,cs,h=>by cases h;exact⟨[],rfl,rfl⟩
 |(i,x)::l,z,cs,h=>by
  simp only[mh]at h;cases D:g i with
  |none=>rw[D]at h;cases h
  |some I =>
   obtain⟨o,s⟩:=I;rw[D]at h;dsimp only at h;cases F:N5 x with
   |none=>rw[F]at h;cases h
   |some r =>
    rw[F]at h;dsimp only at h;cases B:mh g l with
    |none=>rw[B]at h;cases h
    |some q =>
     rw[B]at h;cases h;obtain⟨A,H,_⟩:=zai C (cs:=cs) B;refine⟨⟨o,s,Na x⟩::A,by simp only[mr,D,H],?_⟩;simp only[jd,zr];rw[Tv F C];dsimp only;cases (r.ev ρ).cells with
     |none=>rfl
     |some c =>
      dsimp only;cases Nat.beq c.length s with
      |false=>rfl
      |true =>
       dsimp only;cases Nat.ble (Nat.add o s) cs.length with
       |false=>rfl
       |true =>
        dsimp only;obtain⟨K,j,G⟩:=zai C (cs:=Tw cs o c) B;rw[H]at j;cases j;exact G
def zhg{f:Nat→Ox→Option Ox→Option Ox→Option Ox→ROp}{x:Operand}{j hi z:Option Operand}{r:ROp}(h:zgz g f x j hi z=some r) :
  ∃q a b c,N5 x=some q∧mg j=some a∧mg hi=some b∧mg z=some c∧r=f g q a b c:=by
 unfold zgz at h;split at h
 ·rename_i q a b c A B C D;cases h;exact⟨q,a,b,c,A,B,C,D,rfl⟩
 ·cases h
def zwl(j:Up E ρ){c:Call}{r:ROp}(h:zsd P c=some r)(Y:Heap):(fj P c).run E Y=Oi P ρ Y r:=by
 unfold zsd at h;unfold fj;split at h
 ·rename_i b U;rw[U];dsimp only;split at h
  ·split at h
   ·rename_i t x A z;rw[A,z];dsimp only;unfold Uj;split at h<;>first
     |(cases h;done)
     | (rename_i hu
        obtain⟨q,g,rfl⟩:=Te h;rw[hu];dsimp only;rw[Ti j g];rfl)
   ·cases h
  ·split at h
   ·rename_i t x A z;rw[A,z];dsimp only;unfold Wn;split at h
    ·rename_i hu;obtain⟨q,g,rfl⟩:=Te h;rw[hu];dsimp only;rw[Ti j g];rfl
    ·cases h
   ·cases h
  ·split at h
   ·rename_i l F;cases h;simp only[Tp,Oi];rw[resOs_ok F j];generalize (l.map λ(x:Ox)=>x.ev ρ)=G;rcases G with _|⟨v,G⟩
    ·rfl
    ·cases v<;>rfl
   ·cases h
  ·split at h
   ·rename_i l F;cases h;simp only[Tp,Oi];rw[resOs_ok F j];generalize (l.map λ(x:Ox)=>x.ev ρ)=G;rcases G with _|⟨v,G⟩
    ·rfl
    ·cases v<;>rfl
   ·cases h
  ·split at h
   ·rename_i st T s x A z;unfold zj3;rw[A,z];dsimp only;split at h
    ·rename_i D d L M;rw[L,M];split at h
     ·rename_i i gg hi H;split at h
      ·rename_i O;split at h
       ·rename_i k;obtain⟨q,p,g,C,rfl⟩:=Yr h;dsimp only;unfold zn2;rw[hi,H];dsimp only;rw[Hv O,Y3 j g C];rfl
       ·obtain⟨q,p,g,C,rfl⟩:=Yr h;dsimp only;unfold yk;rw[hi,H];dsimp only;rw[Hv O,Y3 j g C];rfl
       ·obtain⟨q,p,g,C,rfl⟩:=Yr h;dsimp only;unfold yk;rw[hi,H];dsimp only;rw[Hv O,Y3 j g C];rfl
       ·cases h
      ·cases h
     ·cases h
    ·cases h
   ·cases h
  ·split at h
   ·rename_i st T d x A z;unfold zyh;rw[A,z];dsimp only;split at h
    ·rename_i D hu;rw[hu];dsimp only;split at h
     ·cases h
     ·rename_i I Q;split at h
      ·rename_i B;obtain⟨q,p,g,C,rfl⟩:=Yr h;rw[Q];dsimp only;rw[Hv B,Y3 j g C];rfl
      ·cases h
    ·cases h
   ·cases h
  ·split at h
   ·rename_i st x A z;unfold zo6;rw[A,z];dsimp only;split at h
    ·rename_i D hu;rw[hu];dsimp only;split at h
     ·rename_i I gg Q H;split at h
      ·rename_i B;obtain⟨q,g,rfl⟩:=Te h;rw[Q,H];dsimp only;rw[Hv B,Ti j g];rfl
      ·cases h
     ·cases h
    ·cases h
   ·cases h
  ·split at h
   ·rename_i mt T m k A z;unfold ziu;rw[A,z];dsimp only;split at h
    ·rename_i V e hu;rw[hu];dsimp only;split at h
     ·rename_i d hd;obtain⟨q,p,g,C,rfl⟩:=Yr h;rw[hd];dsimp only;rw[Y3 j g C];rfl
     ·cases h
    ·cases h
   ·cases h
  ·cases h
 ·rename_i f X;rw[X];dsimp only;split at h
  ·rename_i Z l R F;cases h;rw[Tv R j,resOs_ok F j];simp only[Oi]
  ·cases h
 ·rename_i x K z;rw[z];dsimp only;split at h
  ·rename_i Z l R F;cases h;rw[Tv R j,resOs_ok F j];simp only[Oi];cases Z.ev ρ with
   |iface t v =>
    dsimp only;cases zhs P t K with
    |none=>rfl
    |some f =>
     dsimp only;cases uk P f<;>rfl
   |_=>rfl
  ·cases h
end ok
end
end
section
section ok
variable {P : Program} {E : Tr AV} {ρ : de}
def zto(z:Up E ρ){o:Op}{r:ROp}(h:Sa P o=some r)(R:Heap):(Ny P o).run E R=Oi P ρ R r:=by
 cases o with
 |move x =>
  obtain⟨q,g,rfl⟩:=Te h;show (Ps x _).run E R=_;rw[Ti z g];rfl
 |assign x =>
  obtain⟨q,g,rfl⟩:=Te h;show (Ps x _).run E R=_;rw[Ti z g];rfl
 |pick c a b =>
  simp only[Sa]at h;split at h
  ·rename_i M O T g A D;cases h;simp only[Ny];rw[Tv g z,Tv A z,Tv D z];simp only[Oi];generalize M.ev ρ=v;cases v with
   |bool t=>cases t<;>rfl
   |_=>rfl
  ·cases h
 |alloc t =>
  simp only[Sa]at h;simp only[Ny];cases H:R6 P t with
  |none=>rw[H]at h;cases h
  |some l=>rw[H]at h;cases h;rfl
 |box t x =>
  obtain⟨q,g,rfl⟩:=Te h;show (Ps x _).run E R=_;rw[Ti z g];rfl
 |build t G =>
  simp only[Sa]at h;simp only[Ny,zp];cases H:R6 P t with
  |none=>rw[H]at h;cases h
  |some Z =>
   rw[H]at h;dsimp only at h ⊢;split at h
   ·rename_i C hu;rw[hu];dsimp only;cases K:zbg P C.toList with
    |none=>rw[K]at h;cases h
    |some pl =>
     rw[K]at h;dsimp only at h ⊢;cases I:mh (pl[·]?) G.toList with
     |none=>rw[I]at h;cases h
     |some ps =>
      rw[I]at h;cases h;obtain⟨qs,g,A⟩:=zai z (cs:=Z) I;rw[g];dsimp only;rw[A];rfl
   ·rename_i n j hu;rw[hu];dsimp only;cases F:Ot P j with
    |none=>rw[F]at h;cases h
    |some B =>
     rw[F]at h;dsimp only at h ⊢;cases I:mh (λi=>some (i*B,B)) G.toList with
     |none=>rw[I]at h;cases h
     |some ps =>
      rw[I]at h;cases h;obtain⟨qs,g,A⟩:=zai z (cs:=Z) I;rw[g];dsimp only;rw[A];rfl
   ·cases h
 |buildSlice t len G =>
  simp only[Sa]at h;simp only[Ny,xd];split at h
  ·rename_i j hu;rw[hu];dsimp only;cases F:Ot P j with
   |none=>rw[F]at h;cases h
   |some B =>
    rw[F]at h;dsimp only at h ⊢;cases H:R6 P j with
    |none=>rw[H]at h;cases h
    |some Y =>
     rw[H]at h;dsimp only at h ⊢;split at h
     ·rename_i L;rw[Hv L];cases I:mh (λi=>some (i*B,B)) G.toList with
      |none=>rw[I]at h;cases h
      |some ps =>
       rw[I]at h;cases h;obtain⟨qs,g,A⟩:=zai z (cs:=S8 Y len) I;rw[g];dsimp only;rw[A];rfl
     ·cases h
  ·cases h
 |load t a =>
  simp only[Sa]at h;simp only[Ny,zsh];split at h
  ·rename_i n g A;obtain⟨q,D,rfl⟩:=Te h;rw[g,A];dsimp only;rw[Ti z D];rfl
  ·rename_i n g A;obtain⟨q,D,rfl⟩:=Te h;rw[g,A];dsimp only;rw[Ti z D];rfl
  ·cases h
 |store t a x =>
  simp only[Sa]at h;simp only[Ny,zqy];cases F:Ot P t with
  |none=>rw[F]at h;cases h
  |some n =>
   rw[F]at h;obtain⟨q,p,g,A,rfl⟩:=Yr h;dsimp only;rw[Y3 z g A];rfl
 |nilCheck x =>
  obtain⟨q,g,rfl⟩:=Te h;show (Ps x _).run E R=_;rw[Ti z g];rfl
 |binOp op t x y yt =>
  obtain⟨q,p,g,A,rfl⟩:=Yr h;simp only[Ny];rw[Y3 z g A];rfl
 |unOp op t x =>
  obtain⟨q,g,rfl⟩:=Te h;show (Ps x _).run E R=_;rw[Ti z g];rfl
 |convert s d x =>
  simp only[Sa]at h;simp only[Ny];unfold Vy;split at h
  ·rename_i U k g A;obtain⟨q,D,rfl⟩:=Te h;rw[g,A];dsimp only;rw[Ti z D];rfl
  ·rename_i e g A;rw[g,A];dsimp only;split at h
   ·rename_i hu;rw[hu];dsimp only;obtain⟨q,D,rfl⟩:=Te h;rw[Ti z D];rfl
   ·cases h
  ·rename_i U V g A;obtain⟨q,D,rfl⟩:=Te h;rw[g,A];cases U with
   |slice e=>exact absurd rfl (V e)
   |_=>dsimp only;rw[Ti z D];rfl
  ·rename_i U e g A;rw[g,A];dsimp only;split at h
   ·rename_i k1 k2;obtain⟨q,D,rfl⟩:=Te h;rw[k1,k2];exact (Ti z D _ _).trans rfl
   ·cases h
  ·cases h
 |makeInterface t x =>
  simp only[Sa]at h;simp only[Ny,z98];cases hu:P.underlying t with
  |none=>rw[hu]at h;cases h
  |some d =>
   rw[hu]at h;cases d with
   |interface ms=>cases h
   |_=>obtain⟨q,g,rfl⟩:=Te h;dsimp only;rw[Ti z g];rfl
 |makeFunc f first cap =>
  simp only[Sa]at h;cases f with
  |yield l=>cases h
  |_ =>
   dsimp only at h;split at h
   ·rename_i a b g A;cases h;simp only[Ny,zd6];rw[resOs_ok g z,resOs_ok A z];rfl
   ·cases h
 |makeMap t r =>
  simp only[Sa]at h;simp only[Ny,xh];cases r with
  |none=>cases h;rfl
  |some x =>
   dsimp only at h ⊢;split at h
   ·rename_i k e hu;obtain⟨q,g,rfl⟩:=Te h;rw[hu];dsimp only;rw[Ti z g];rfl
   ·cases h
 |makeSlice t l c =>
  simp only[Sa]at h;simp only[Ny,yr];split at h
  ·rename_i j hu;rw[hu];dsimp only;cases hi:P.info? j with
   |none=>rw[hi]at h;cases h
   |some i =>
    rw[hi]at h;dsimp only at h ⊢;cases H:R6 P j with
    |none=>rw[H]at h;cases h
    |some Y =>
     rw[H]at h;dsimp only at h ⊢;split at h
     ·rename_i L;obtain⟨q,p,g,A,rfl⟩:=Yr h;rw[Hv L,Y3 z g A];rfl
     ·cases h
  ·cases h
 |slice t x lo hi mx =>
  simp only[Sa]at h;simp only[Ny,ol];split at h
  ·rename_i hu;rw[hu];dsimp only;cases mx with
   |some m=>cases h
   |none =>
    dsimp only at h ⊢;split at h
    ·rename_i q a b g A D;cases h;rw[Tv g z,y5 A z,y5 D z];simp only[Oi];cases q.ev ρ with
     |str len n =>
      cases Pf ρ a with
      |none=>rfl
      |some O=>cases Pf ρ b<;>rfl
     |_=>rfl
    ·cases h
  ·rename_i j hu;rw[hu];dsimp only;split at h
   ·cases h
   ·rename_i L;rw[Hs L];cases F:Ot P j with
    |none=>rw[F]at h;cases h
    |some B =>
     rw[F]at h;obtain⟨q,a,b,c,g,A,D,X,rfl⟩:=zhg h;dsimp only;rw[Tv g z,y5 A z,y5 D z,y5 X z];simp only[Oi];generalize q.ev ρ=v;generalize Pf ρ a=O;generalize Pf ρ b=T;generalize Pf ρ c=M;cases v<;>cases O<;>cases T<;>cases M<;>try rfl
     all_goals (rename_i Y;cases Y<;>rfl)
  ·rename_i n j hu;rw[hu];dsimp only;split at h
   ·cases h
   ·rename_i L;rw[Hs L];cases F:Ot P j with
    |none=>rw[F]at h;cases h
    |some B =>
     rw[F]at h;obtain⟨q,a,b,c,g,A,D,X,rfl⟩:=zhg h;dsimp only;rw[Tv g z,y5 A z,y5 D z,y5 X z];simp only[Oi];generalize q.ev ρ=v;generalize Pf ρ a=O;generalize Pf ρ b=T;generalize Pf ρ c=M;cases v<;>cases O<;>cases T<;>cases M<;>rfl
  ·cases h
 |fieldAddr s x f =>
  simp only[Sa]at h;simp only[Ny,z59];split at h
  ·rename_i C hu;rw[hu];dsimp only;cases K:C[f]? with
   |none=>rw[K]at h;cases h
   |some fd =>
    rw[K]at h;dsimp only at h ⊢;split at h
    ·cases h
    ·cases h
    ·rename_i n hn F;obtain⟨q,g,rfl⟩:=Te h;rw[F];cases n with
     |zero=>exact absurd rfl hn
     |succ n=>exact (Ti z g _ _).trans rfl
  ·cases h
 |field t x f =>
  simp only[Sa]at h;simp only[Ny,zhh];split at h
  ·rename_i C hu;rw[hu];dsimp only;cases K:C[f]? with
   |none=>rw[K]at h;cases h
   |some fd =>
    rw[K]at h;dsimp only at h ⊢;split at h
    ·rename_i gg n g A;obtain⟨q,D,rfl⟩:=Te h;rw[g,A];dsimp only;rw[Ti z D];rfl
    ·cases h
  ·cases h
 |indexAddr t x i =>
  simp only[Sa]at h;simp only[Ny,z5e];split at h
  ·rename_i j hu;rw[hu];dsimp only;cases F:Ot P j with
   |none=>rw[F]at h;cases h
   |some B =>
    rw[F]at h;obtain⟨q,p,g,A,rfl⟩:=Yr h;dsimp only;rw[Y3 z g A];rfl
  ·rename_i len j hu;rw[hu];dsimp only;cases F:Ot P j with
   |none=>rw[F]at h;cases h
   |some B =>
    rw[F]at h;obtain⟨q,p,g,A,rfl⟩:=Yr h;dsimp only;rw[Y3 z g A];rfl
  ·cases h
 |index t x i =>
  simp only[Sa]at h;simp only[Ny,zjf];split at h
  ·rename_i hu;obtain⟨q,p,g,A,rfl⟩:=Yr h;rw[hu];dsimp only;rw[Y3 z g A];rfl
  ·rename_i len j hu;rw[hu];dsimp only;split at h
   ·rename_i gg B hg F;obtain⟨q,p,g,A,rfl⟩:=Yr h;rw[hg,F];dsimp only;rw[Y3 z g A];rfl
   ·cases h
  ·cases h
 |lookup t x i ok =>
  simp only[Sa]at h;simp only[Ny,zcv];split at h
  ·rename_i Q j hu;rw[hu];dsimp only;split at h
   ·rename_i d Y hd H;obtain⟨q,p,g,A,rfl⟩:=Yr h;rw[hd,H];dsimp only;rw[Y3 z g A];rfl
   ·cases h
  ·cases h
 |mapUpdate t m k x =>
  simp only[Sa]at h;simp only[Ny,z5d];split at h
  ·rename_i Q j hu;rw[hu];dsimp only;split at h
   ·rename_i d hd;rw[hd];dsimp only;split at h
    ·rename_i a b c g A D;cases h;rw[Tv g z,Tv A z,Tv D z];simp only[Oi];cases a.ev ρ<;>rfl
    ·cases h
   ·cases h
  ·cases h
 |insert t m k x =>
  simp only[Sa]at h;simp only[Ny,z5d];split at h
  ·rename_i Q j hu;rw[hu];dsimp only;split at h
   ·rename_i d hd;rw[hd];dsimp only;split at h
    ·rename_i a b c g A D;cases h;rw[Tv g z,Tv A z,Tv D z];simp only[Oi];cases a.ev ρ<;>rfl
    ·cases h
   ·cases h
  ·cases h
 |range t x =>
  simp only[Sa]at h;simp only[Ny,rangeF];split at h
  ·rename_i hu;obtain⟨q,g,rfl⟩:=Te h;rw[hu];dsimp only;rw[Ti z g];rfl
  ·cases h
 |next it s =>
  simp only[Sa]at h;simp only[Ny,zyo];cases s with
  |false=>cases h
  |true =>
   obtain⟨q,g,rfl⟩:=Te h;rw[Hv rfl,Ti z g];rfl
 |typeAssert x xt t ok =>
  simp only[Sa]at h;simp only[Ny,zco];cases hu:P.underlying t with
  |none=>rw[hu]at h;cases h
  |some d =>
   rw[hu]at h;cases d with
   |interface ms=>cases h
   |_ =>
    dsimp only at h ⊢;cases H:zri P t with
    |none=>rw[H]at h;cases h
    |some Y=>rw[H]at h;obtain⟨q,g,rfl⟩:=Te h;dsimp only;rw[Ti z g];rfl
 |extract t i =>
  obtain⟨q,g,rfl⟩:=Te h;show (Ps t _).run E R=_;rw[Ti z g];rfl
 |call c=>exact zwl z h R
 |_=>cases h
end ok
end
section
open Go.RowKit (Below)
noncomputable def zo2(g:Program)(f:Nat):Bool:=match g.funcs[f]? with
 |some fn=>match fn.params.toList with
  |[]=>match fn.resultTypes.toList with
   |[t]=>match g.underlying t with
    |some .bool=>true
    |_=>false
   |_=>false
  |_::_=>false
 |none=>false
def zbr(A:Program)(f:Nat):Prop :=
 ∀(w:World) z,∃g j,Below w.heap.size w g∧Steps A (lone (Frame.enter A f #[] .normal) z w) (lone j z g)∧j.fn=f∧j.leaving A g (.returned (.bool true))
def zw2(hm:B.follows .mixedOrders=true){m f:Nat}(h:runA B noO m f=true):zbr B f:=by
 intro w g;unfold runA at h;split at h
 ·rename_i H j;obtain⟨I,z,K,A,L,C,D,E,F,G⟩:=zcu hm (zxy B) m w _ _ w (.fn f) [] [] _ _ (Rel.start w) .nil j g;cases D;exact⟨z,A,C.low,E,F,G⟩
 ·cases h
def Rel.below{gz:CM}{H:Heap}{w w':World}(h:Rel v9 gz H w)(hb:Below w.heap.size w w'):Rel v9 gz H w':=by
 have gg:v9.heap.size≤w.heap.size:=h.low.size;exact⟨h.nx,h.low.trans (hb.mono gg),h.fresh,λo v L C=>Il (h.lt o v L C) hb.size,h.excl,
  λo ob ho hg=>(h.obj o ob ho hg).frame (CM.le_refl gz) (λ_ _ C=>C) (λv L C=>hb.block _ (h.lt o v L C)),h.top⟩
open Classical in
noncomputable def OL(P:Program):Qe:=λt args H=>match t,args with
 |.fn f,[]=>if zo2 P f=true∧zbr P f then .ok (.bool true) H else .no
 |_,_=>.no
def OL_no{f:Nat}(h:zo2 B f=false)(g:List AV)(j:Heap):OL B (.fn f) g j=.no:=by
 unfold OL;split
 ·rename_i z e;cases e;rw[Hs (by rw[h];simp)]
 ·rfl
def OL_yes{f:Nat}(h:zo2 B f=true)(g:zbr B f)(j:Heap):OL B (.fn f) [] j=.ok (.bool true) j:=by
 unfold OL;exact Hv ⟨h,g⟩
def fx(K:Program):cg K (OL K):=by
 intro M L Q w t j O v P z A g;unfold OL at g;split at g
 ·rename_i f;split at g
  ·rename_i B;cases g;cases A;intro C;obtain⟨D,E,F,G,H,I⟩:=B.2 w C;exact⟨L,D,.bool true,E,CM.le_refl L,z.below F,.bool true,G,H,I⟩
  ·cases g
 ·cases g
end
noncomputable section
inductive LV where
 |any
 |bool (b:Bool)
 |u (x:UInt64)
 |b (x:UInt8)
 |i (n:Int)
 |int (k:IntKind) (n:Int)
 |str (l:List UInt8)
 |nilPtr
 |ptr (p i:Nat)
 |dptr (p k i:Nat)
 |cptr (l:List LV) (i:Nat)
 |nilSl
 |dy (p k:Nat)
 |vw (p k lo len:Nat)
 |vf (p k len:Nat)
 |lst (l:List LV) (len esz:Nat)
 |nilMap
 |map (p:Nat)
 |nilFn
 |fn (f:Fn) (first cap:List LV)
 |nilIf
 |iface (t:TypeId) (v:LV)
 |agg (l:List LV)
 |tup (l:List LV)
 deriving Inhabited
abbrev Mq:=List (Nat×LV)
def lk0:Mq→Nat→LV
 |[],_=>.any
 |(d,v)::l,t=>if t=d then v else lk0 l t
def zy7(f:vU):∃g:vU,g=f:=⟨f,rfl⟩
def Pv(f:vU):vU:=Classical.choose (zy7 f)
def T8(f:vU):Pv f=f:=Classical.choose_spec (zy7 f)
def lk:Mq→Nat→LV:=Pv lk0
def eh(t:Nat):lk [] t=.any:=by unfold lk;rw[T8];rfl
def zj0(d:Nat)(v:LV)(l:Mq)(t:Nat):lk ((d,v)::l) t=if t=d then v else lk l t:=by unfold lk;rw[T8];rfl
inductive LObj where
 |dead (st:Nat)
 |cells (l:List LV) (st:Nat)
 |dyn (l:List LV) (len esz ver st:Nat)
 |map (es:List (LV×LV×Nat)) (clock st:Nat)
 |iter (l:List UInt8) (pos:Nat)
 |loop (s:LoopState) (pend:Option Code) (f n:Nat) (ρ:Mq) (ps:Array Tmp) (a b:Code) (d:Nat)
 |defd (op:Bool)
abbrev Mp:=List LObj
def LObj.live:LObj→Bool
 |.dead _=>false
 |_=>true
def LObj.stp:LObj→Bool
 |.cells _ _=>true
 |.dyn _ _ _ _ _=>true
 |.map _ _ _=>true
 |_=>false
def LObj.st:LObj→Nat
 |.cells _ st=>st
 |.dyn _ _ _ _ st=>st
 |.map _ _ st=>st
 |.dead st=>st
 |_=>0
def LV.cells:LV→Option (List LV)
 |.any=>none
 |.agg cs=>some cs
 |.tup _=>none
 |v=>some [v]
mutual
def toA:LV→AV
 |.bool b=>.bool b
 |.u x=>.int .u64 (Int.ofNat x.toNat)
 |.b x=>.int .u8 (Int.ofNat x.toNat)
 |.i n=>.int .i64 n
 |.int k n=>.int k n
 |.str l=>.str l.length (On l)
 |.nilPtr=>.nilPtr
 |.nilSl=>.nilSl
 |.nilMap=>.nilMap
 |.nilFn=>.nilFn
 |.fn f _ _=>.fn f [] []
 |.nilIf=>.nilIf
 |.agg l=>.agg (toAs l)
 |.tup l=>.tup (toAs l)
 |_=>.tup []
def toAs:List LV→List AV
 |[]=>[]
 |v::l=>toA v::toAs l
end
def LV.scal:LV→Bool
 |.bool _ |.u _ |.b _ |.i _ |.int _ _ |.str _ |.nilPtr |.nilSl |.nilMap |.nilFn |.nilIf=>true
 |_=>false
def LV.cst:LV→Bool
 |.fn (.func _) [] []=>true
 |.agg l=>l.all LV.scal
 |.tup []=>true
 |v=>v.scal
structure Cx where
 hd:List (Nat×AV)
 Fz:Nat→Prop
 H:Heap
def ow:AV→Bool
 |.nilSl=>true
 |.emp=>true
 |.sl _ _ _ _ _ _=>true
 |_=>false
def Y4(z:Nat)(h a:AV):Prop:=z=0→match a with
 |.sl _ _ _ _ _ g=>match h with
  |.sl _ _ _ len _ j=>g=j∨∃r,g=some r∧r≤len
  |_=>True
 |_=>True
mutual
inductive AR (c:Cx):LV→AV→Prop where
 |any (a:AV):AR c .any a
 |bool (b:Bool):AR c (.bool b) (.bool b)
 |u (x:UInt64):AR c (.u x) (.int .u64 (Int.ofNat x.toNat))
 |b (x:UInt8):AR c (.b x) (.int .u8 (Int.ofNat x.toNat))
 |i (n:Int):AR c (.i n) (.int .i64 n)
 |int (k:IntKind) (n:Int):AR c (.int k n) (.int k n)
 |str (l:List UInt8):AR c (.str l) (.str l.length (On l))
 |nilPtr:AR c .nilPtr .nilPtr
 |ptr {p i o:Nat} (h:c.hd[p]?=some (0,.ptr o 0 0)):AR c (.ptr p i) (.ptr o 0 i)
 |dptr {p k i k' o v j:Nat} {h:AV} (hp:c.hd[p]?=some (k',h)) (hk:k≤k') (ha:k=k'→j=i∧∃len esz room,h=.sl o v 0 len esz room):AR c (.dptr p k i) (.ptr o v j)
 |cptr {l:List LV} {i o v j:Nat} {l':List AV} (hf:c.Fz o) (hr:Qi c.H o v j l.length=some l') (hl:ARs c l l'):AR c (.cptr l i) (.ptr o v (j+i))
 |nilSl:AR c .nilSl .nilSl
 |dy {p k k':Nat} {h a:AV} (hp:c.hd[p]?=some (k',h)) (hk:k≤k') (ha:k=k'→a=h) (hs:ow a=true):AR c (.dy p k) a
 |vw {p k lo len k':Nat} {h a:AV} (hp:c.hd[p]?=some (k',h)) (hk:k≤k') (ha:k=k'→(len=0∧(a=.nilSl∨(a=.emp∧lo≠0)))∨∃o v len' esz room room',h=.sl o v 0 len' esz room∧a=.sl o v (lo*esz) len esz room'∧∀r,room'=some r→len≤r) (hs:ow a=true) (hz:k=k'→Y4 lo h a):AR c (.vw p k lo len) a
 |vf {p k len k':Nat} {h a:AV} (hp:c.hd[p]?=some (k',h)) (hk:k≤k') (ha:k=k'→∃o v len' esz room,h=.sl o v 0 len' esz room∧a=.sl o v 0 len esz (some len)) (hs:ow a=true):AR c (.vf p k len) a
 |lst {l:List LV} {len esz o v i:Nat} {room:Option Nat} {l':List AV} (hf:c.Fz o) (hrm:∀r,room=some r→len≤r) (hlen:l.length=len*esz) (hr:Qi c.H o v i (len*esz)=some l') (hl:ARs c l l'):AR c (.lst l len esz) (.sl o v i len esz room)
 |lstNil {esz:Nat}:AR c (.lst [] 0 esz) .nilSl
 |lstEmp {esz:Nat}:AR c (.lst [] 0 esz) .emp
 |nilMap:AR c .nilMap .nilMap
 |map {p o:Nat} (h:c.hd[p]?=some (0,.map o)):AR c (.map p) (.map o)
 |nilFn:AR c .nilFn .nilFn
 |fn {f:Nat} {l r:List LV} {l' r':List AV} (hl:ARs c l l') (hr:ARs c r r'):AR c (.fn (.func f) l r) (.fn (.func f) l' r')
 |yield {p o:Nat} (h:c.hd[p]?=some (0,.ptr o 0 0)):AR c (.fn (.yield p) [] []) (.fn (.yield o) [] [])
 |nilIf:AR c .nilIf .nilIf
 |iface {t:TypeId} {v:LV} {a:AV} (h:AR c v a):AR c (.iface t v) (.iface t a)
 |agg {l:List LV} {l':List AV} (h:ARs c l l'):AR c (.agg l) (.agg l')
 |tup {l:List LV} {l':List AV} (h:ARs c l l'):AR c (.tup l) (.tup l')
inductive ARs (c:Cx):List LV→List AV→Prop where
 |nil:ARs c [] []
 |cons {v:LV} {a:AV} {l:List LV} {r:List AV} (h:AR c v a) (hs:ARs c l r):ARs c (v::l) (a::r)
end
inductive MRs (c:Cx):List (LV×LV×Nat)→List (AV×AV×Nat)→Prop where
 |nil:MRs c [] []
 |cons {k v:LV} {a b:AV} {n:Nat} {l:List (LV×LV×Nat)} {r:List (AV×AV×Nat)} (hk:AR c k a) (hv:AR c v b) (h:MRs c l r):MRs c ((k,v,n)::l) ((a,b,n)::r)
def Nv(c:Cx)(g:Mq)(j:Tr AV):Prop:=∀t,AR c (lk g t) ((Mt (M9 t) j).getD Rh)
def yx(c:Cx)(k:Nat)(h:AV):LObj→Prop
 |.dead _=>True
 |.cells l _=>k=0∧∃o t A,h=.ptr o 0 0∧c.H.get o=some (.cells t l.length 0 false)∧R8 t 0 l.length=some A∧ARs c l A
 |.dyn l len j D _=>k=D∧l.length=len*j∧((h=.nilSl∧len=0)∨∃o v z t g A,h=.sl o v 0 len j z∧c.H.get o=some (.cells t g v false)∧len*j≤g ∧
   R8 t 0 (len*j)=some A∧ARs c l A∧(∀r,z=some r→g=r*j∧len≤r)∧(z=none→g=len*j))
 |.map G H _=>k=0∧∃o B,h=.map o∧c.H.get o=some (.map B H)∧MRs c G B
 |.iter l E=>k=0∧∃o,h=.ptr o 0 0∧c.H.get o=some (.iter l.length (On l) E)
 |.loop s C f n L I a b d=>k=0∧∃o F K,h=.ptr o 0 0∧c.hd[d]?=some (0,.ptr F 0 0)∧c.H.get o=some (.loop s C f n K I a b F)∧Nv c L K
 |.defd op=>k=0∧∃o,h=.ptr o 0 0∧c.H.get o=some (.defd op)
def Oq(c:Cx)(j:Mp)(o:Nat):Prop:=∃(p:Nat) (g:LObj) (k:Nat) (h:AV),j[p]?=some g∧g.live=true∧c.hd[p]?=some (k,h)∧Nl h=some o
structure HSim (c:Cx) (G:Mp):Prop where
 len:c.hd.length=G.length
 fz:∀o,c.Fz o→o<c.H.next
 lt:∀o,Oq c G o→o<c.H.next
 sep:∀o,Oq c G o→¬c.Fz o
 obj:∀(p:Nat) (ob:LObj) (k:Nat) (h:AV),G[p]?=some ob→c.hd[p]?=some (k,h)→yx c k h ob
 excl:∀(p q:Nat) (ob ob':LObj) (k:Nat) (h:AV) (k':Nat) (h':AV) (o:Nat),G[p]?=some ob→G[q]?=some ob'→ob.live=true→ob'.live=true→c.hd[p]?=some (k,h)→c.hd[q]?=some (k',h')→Nl h=some o→Nl h'=some o→p=q
def Yz:AV→Bool
 |.ptr _ _ _=>true
 |.map _=>true
 |_=>false
structure CxLe (c c':Cx):Prop where
 hd:∀(p k:Nat) (h:AV),c.hd[p]?=some (k,h)→∃(k':Nat) (h':AV),c'.hd[p]?=some (k',h')∧k≤k'∧(k=k'→h=h')∧(Yz h=true→k=k')
 fz:∀o,c.Fz o→c'.Fz o∧c'.H.get o=c.H.get o
structure Step (c:Cx) (G:Mp) (c':Cx) (G':Mp):Prop where
 le:CxLe c c'
 nx:c.H.next≤c'.H.next
 frame:∀o,o<c.H.next→¬Oq c G o→c'.H.get o=c.H.get o
 new:∀o,Oq c' G' o→Oq c G o∨c.H.next≤o
 fznew:∀o,c'.Fz o→c.Fz o∨Oq c G o∨c.H.next≤o
 mono:∀(p:Nat) (ob ob':LObj),G[p]?=some ob→G'[p]?=some ob'→ob.st≤ob'.st
 st:∀(p:Nat) (ob ob':LObj) (k:Nat) (h:AV) (o:Nat),G[p]?=some ob→G'[p]?=some ob'→c.hd[p]?=some (k,h)→Nl h=some o→ob.stp=true→ob.st=ob'.st→ob'=ob∧c'.H.get o=c.H.get o∧c'.hd[p]?=c.hd[p]?
inductive Lx where
 |t (i:Nat)
 |c (v:LV)
def Lx.ev(ρ:Mq):Lx→LV
 |.t i=>lk ρ i
 |.c v=>v
def Lx.r:Lx→Ox
 |.t i=>.t i
 |.c v=>.c (toA v)
def Lx.ok:Lx→Bool
 |.t _=>true
 |.c v=>v.cst
inductive LOp where
 |move (x:Lx)
 |pick (c a b:Lx)
 |alloc (l:List LV)
 |box (x:Lx)
 |build (cs:List LV) (ps:List (Nat×Nat×Lx))
 |buildSl (size len:Nat) (cs:List LV) (ps:List (Nat×Nat×Lx))
 |load1 (x:Lx)
 |loadN (n:Nat) (x:Lx)
 |store (n:Nat) (x y:Lx)
 |nilChk (x:Lx)
 |bin (op:BinOp) (g:Bool) (t:TypeId) (x y:Lx)
 |un (op:UnOp) (x:Lx)
 |cvInt (k:IntKind) (x:Lx)
 |cvStr (x:Lx)
 |cvSame (x:Lx)
 |cvBytes (x:Lx)
 |mkFunc (f:Nat) (first cap:List Lx)
 |mkSl (size:Nat) (z:List LV) (l c:Lx)
 |slStr (x:Lx) (lo hi:Option Lx)
 |slSl (size:Nat) (x:Lx) (lo hi:Option Lx)
 |slSl3 (size:Nat) (x:Lx) (lo hi:Option Lx) (mx:Lx)
 |fieldAddr (off:Nat) (x:Lx)
 |field (g:Bool) (n off:Nat) (x:Lx)
 |ixAddr (size:Nat) (x i:Lx)
 |ixStr (x i:Lx)
 |extract (i:Nat) (x:Lx)
 |lenStr (x:Lx)
 |lenSl (x:Lx)
 |maxi (mx:Bool) (x y:Lx)
 |max3 (mx:Bool) (x y z:Lx)
 |ixAddrArr (len size:Nat) (x i:Lx)
 |ixArr (g:Bool) (len size:Nat) (x i:Lx)
 |lenArr (n:Nat) (x:Lx)
 |appZ (size:Nat) (z:List LV) (s x:Lx)
 |appG (size:Nat) (s x:Lx)
 |copy (size:Nat) (d x:Lx)
 |clear (size:Nat) (z:List LV) (x:Lx)
 |mkMap0
 |mkMap1 (x:Lx)
 |lookup (d:TypeDesc) (z:LV) (ok:Bool) (x i:Lx)
 |mapUpd (d:TypeDesc) (m k v:Lx)
 |lenMap (x:Lx)
 |slArr (n size:Nat) (x:Lx) (lo hi:Option Lx)
 |callV (f:Lx) (args:List Lx)
def rps:List (Nat×Nat×Lx)→List (Nat×Nat×Ox)
 |[]=>[]
 |(a,b,x)::l=>(a,b,x.r)::rps l
def tj:List Lx→List Ox
 |[]=>[]
 |x::l=>x.r::tj l
def LOp.r:LOp→ROp
 |.move x=>.move x.r
 |.pick c a b=>.pick c.r a.r b.r
 |.alloc l=>.alloc (toAs l)
 |.box x=>.box x.r
 |.build cs ps=>.build (toAs cs) (rps ps)
 |.buildSl s n cs ps=>.buildSl s n (toAs cs) (rps ps)
 |.load1 x=>.load1 x.r
 |.loadN n x=>.loadN n x.r
 |.store n x y=>.store n x.r y.r
 |.nilChk x=>.nilChk x.r
 |.bin op g t x y=>.bin op g t x.r y.r
 |.un op x=>.un op x.r
 |.cvInt k x=>.cvInt k x.r
 |.cvStr x=>.cvStr x.r
 |.cvSame x=>.cvSame x.r
 |.cvBytes x=>.cvBytes x.r
 |.mkFunc f a b=>.mkFunc (.func f) (tj a) (tj b)
 |.mkSl s z l c=>.mkSl s (toAs z) l.r c.r
 |.slStr x lo hi=>.slStr x.r (lo.map Lx.r) (hi.map Lx.r)
 |.slSl s x lo hi=>.slSl s x.r (lo.map Lx.r) (hi.map Lx.r) none
 |.slSl3 s x lo hi mx=>.slSl s x.r (lo.map Lx.r) (hi.map Lx.r) (some mx.r)
 |.fieldAddr o x=>.fieldAddr o x.r
 |.field g n o x=>.field g n o x.r
 |.ixAddr s x i=>.ixAddr s x.r i.r
 |.ixStr x i=>.ixStr x.r i.r
 |.extract i x=>.extract i x.r
 |.lenStr x=>.lenStr x.r
 |.lenSl x=>.lenSl x.r
 |.maxi m x y=>.maxi m [x.r,y.r]
 |.max3 m x y z=>.maxi m [x.r,y.r,z.r]
 |.ixAddrArr l s x i=>.ixAddrArr l s x.r i.r
 |.ixArr g l s x i=>.ixArr g l s x.r i.r
 |.lenArr n x=>.lenArr n x.r
 |.appZ s z a x=>.appZ s (toAs z) a.r x.r
 |.appG s a x=>.appG s a.r x.r
 |.copy s d x=>.copy s d.r x.r
 |.clear s z x=>.clear s (toAs z) x.r
 |.mkMap0=>.mkMap0
 |.mkMap1 x=>.mkMap1 x.r
 |.lookup d z ok x i=>.lookup d (toA z) ok x.r i.r
 |.mapUpd d m k v=>.mapUpd d m.r k.r v.r
 |.lenMap x=>.lenMap x.r
 |.slArr n s x lo hi=>.slArr n s x.r (lo.map Lx.r) (hi.map Lx.r) none
 |.callV f l=>.callV f.r (tj l)
def Tk(n:Int):Prop:=-9223372036854775808≤n∧n<9223372036854775808
def T6:UInt64→UInt64→UInt64:=Pv λa b=>a+b
def Zi:UInt64→UInt64→UInt64:=Pv λa b=>a-b
def Ro:UInt64→UInt64→UInt64:=Pv λa b=>a*b
def divU:UInt64→UInt64→UInt64:=Pv λa b=>a/b
def su:UInt64→UInt64→UInt64:=Pv λa b=>a%b
def Qx:UInt64→UInt64→UInt64:=Pv λa b=>a &&& b
def Yp:UInt64→UInt64→UInt64:=Pv λa b=>a ||| b
def vj:UInt64→UInt64→UInt64:=Pv λa b=>a ^^^ b
def qx:UInt64→UInt64:=Pv λa => ~~~a
def Q3:UInt64→Nat→UInt64:=Pv λa s=>UInt64.ofNat (a.toNat*2^s)
def P8:UInt64→Nat→UInt64:=Pv λa s=>UInt64.ofNat (a.toNat/2^s)
def addB:UInt8→UInt8→UInt8:=Pv λa b=>a+b
def subB:UInt8→UInt8→UInt8:=Pv λa b=>a-b
def andB:UInt8→UInt8→UInt8:=Pv λa b=>a &&& b
def orB:UInt8→UInt8→UInt8:=Pv λa b=>a ||| b
def iU:Int→UInt64:=Pv λa=>UInt64.ofInt a
def bU:UInt8→UInt64:=Pv λa=>UInt64.ofNat a.toNat
def uB:UInt64→UInt8:=Pv λa=>UInt8.ofNat a.toNat
def iB:Int→UInt8:=Pv λa=>UInt8.ofInt a
def T5(a b:UInt64):T6 a b=a+b:=by unfold T6;rw[T8]
def Xg(a b:UInt64):Zi a b=a-b:=by unfold Zi;rw[T8]
def zhb(a b:UInt64):Ro a b=a*b:=by unfold Ro;rw[T8]
def rv(a b:UInt64):divU a b=a/b:=by unfold divU;rw[T8]
def zet(a b:UInt64):su a b=a%b:=by unfold su;rw[T8]
def bm(a b:UInt64):Qx a b=a &&& b:=by unfold Qx;rw[T8]
def gl(a b:UInt64):Yp a b=a ||| b:=by unfold Yp;rw[T8]
def ni(a b:UInt64):vj a b=a ^^^ b:=by unfold vj;rw[T8]
def zz7(a:UInt64):qx a = ~~~a:=by unfold qx;rw[T8]
def ew(a:UInt64)(s:Nat):Q3 a s=UInt64.ofNat (a.toNat*2^s):=by unfold Q3;rw[T8]
def bi(a:UInt64)(s:Nat):P8 a s=UInt64.ofNat (a.toNat/2^s):=by unfold P8;rw[T8]
def pz(a b:UInt8):addB a b=a+b:=by unfold addB;rw[T8]
def rk(a b:UInt8):subB a b=a-b:=by unfold subB;rw[T8]
def pj(a b:UInt8):andB a b=a &&& b:=by unfold andB;rw[T8]
def orB_eq(a b:UInt8):orB a b=a ||| b:=by unfold orB;rw[T8]
def jy(a:Int):iU a=UInt64.ofInt a:=by unfold iU;rw[T8]
def bU_eq(a:UInt8):bU a=UInt64.ofNat a.toNat:=by unfold bU;rw[T8]
def uB_eq(a:UInt64):uB a=UInt8.ofNat a.toNat:=by unfold uB;rw[T8]
def iB_eq(a:Int):iB a=UInt8.ofInt a:=by unfold iB;rw[T8]
def Ut(op:BinOp)(a b:UInt64)(g:LV→Prop):Prop:=match op with
 |.add=>g (.u (T6 a b))
 |.sub=>g (.u (Zi a b))
 |.mul=>g (.u (Ro a b))
 |.quo=>b≠0∧g (.u (divU a b))
 |.rem=>b≠0∧g (.u (su a b))
 |.and=>g (.u (Qx a b))
 |.or=>g (.u (Yp a b))
 |.xor=>g (.u (vj a b))
 |.andNot=>g (.u (Qx a (qx b)))
 |.shl=>g (.u (Q3 a b.toNat))
 |.shr=>g (.u (P8 a b.toNat))
 |.eql=>g (.bool (decide (a=b)))
 |.neq=>g (.bool (decide (a≠b)))
 |.lss=>g (.bool (decide (a<b)))
 |.leq=>g (.bool (decide (a≤b)))
 |.gtr=>g (.bool (decide (b<a)))
 |.geq=>g (.bool (decide (b≤a)))
def bbL(op:BinOp)(a b:UInt8)(g:LV→Prop):Prop:=match op with
 |.add=>g (.b (addB a b))
 |.sub=>g (.b (subB a b))
 |.and=>g (.b (andB a b))
 |.or=>g (.b (orB a b))
 |.eql=>g (.bool (decide (a=b)))
 |.neq=>g (.bool (decide (a≠b)))
 |.lss=>g (.bool (decide (a<b)))
 |.leq=>g (.bool (decide (a≤b)))
 |.gtr=>g (.bool (decide (b<a)))
 |.geq=>g (.bool (decide (b≤a)))
 |_=>False
def Vv(op:BinOp)(a b:Int)(g:LV→Prop):Prop:=match op with
 |.add=>Tk (a+b)∧g (.i (a+b))
 |.sub=>Tk (a-b)∧g (.i (a-b))
 |.mul=>Tk (a*b)∧g (.i (a*b))
 |.quo=>b≠0∧Tk (a.tdiv b)∧g (.i (a.tdiv b))
 |.rem=>b≠0∧g (.i (a.tmod b))
 |.shl=>0≤a∧0≤b∧b≤64∧Tk (a*2^b.toNat)∧g (.i (a*2^b.toNat))
 |.shr=>0≤a∧0≤b∧b≤64∧g (.i (a/2^b.toNat))
 |.and=>0≤a∧a<9223372036854775808∧0≤b∧b<9223372036854775808∧g (.i (a.toNat &&& b.toNat:Nat))
 |.or=>0≤a∧a<9223372036854775808∧0≤b∧b<9223372036854775808∧g (.i (a.toNat ||| b.toNat:Nat))
 |.eql=>g (.bool (decide (a=b)))
 |.neq=>g (.bool (decide (a≠b)))
 |.lss=>g (.bool (decide (a<b)))
 |.leq=>g (.bool (decide (a≤b)))
 |.gtr=>g (.bool (decide (b<a)))
 |.geq=>g (.bool (decide (b≤a)))
 |_=>False
def kkL(op:BinOp)(a b:Int)(g:LV→Prop):Prop:=match op with
 |.eql=>g (.bool (decide (a=b)))
 |.neq=>g (.bool (decide (a≠b)))
 |.lss=>g (.bool (decide (a<b)))
 |.leq=>g (.bool (decide (a≤b)))
 |.gtr=>g (.bool (decide (b<a)))
 |.geq=>g (.bool (decide (b≤a)))
 |_=>False
def ssL(op:BinOp)(a b:List UInt8)(g:LV→Prop):Prop:=match op with
 |.add=>a.length+b.length≤1000000000∧g (.str (a++b))
 |.eql=>g (.bool (decide (a=b)))
 |.neq=>g (.bool (decide (a≠b)))
 |_=>False
def Yt(g:Program)(op:BinOp)(j:Bool)(t:TypeId)(a b:AV)(r:Bool)(z:LV→Prop):Prop:=match op with
 |.eql=>Q9 g j t a b=some r∧z (.bool r)
 |.neq=>Q9 g j t a b=some r∧z (.bool (!r))
 |_=>False
def aggL(g:Program)(op:BinOp)(j:Bool)(t:TypeId)(l r:List LV)(z:LV→Prop):Prop:=match op with
 |.eql=>∃b,l.all LV.scal=true∧r.all LV.scal=true∧Q9 g j t (.agg (toAs l)) (.agg (toAs r))=some b∧z (.bool b)
 |.neq=>∃b,l.all LV.scal=true∧r.all LV.scal=true∧Q9 g j t (.agg (toAs l)) (.agg (toAs r))=some b∧z (.bool (!b))
 |_=>False
def lstN(op:BinOp)(len:Nat)(g:LV→Prop):Prop:=match op with
 |.eql=>g (.bool false)∧(len=0→g (.bool true))
 |.neq=>g (.bool true)∧(len=0→g (.bool false))
 |_=>False
def Sj(j:Program)(op:BinOp)(z:Bool)(t:TypeId)(x y:LV)(g:LV→Prop):Prop:=match x,y with
 |.u a,.u b=>Ut op a b g
 |.i a,.i b=>Vv op a b g
 |.b a,.b b=>bbL op a b g
 |.bool a,.bool b=>match op with
  |.eql=>Q9 j z t (.bool a) (.bool b)=some (a==b)∧g (.bool (a==b))
  |.neq=>Q9 j z t (.bool a) (.bool b)=some (a==b)∧g (.bool (!(a==b)))
  |_=>False
 |.u a,.i s=>match op with
  |.shl=>0≤s∧g (.u (Q3 a s.toNat))
  |.shr=>0≤s∧g (.u (P8 a s.toNat))
  |_=>False
 |.i a,.u s=>match op with
  |.shl=>0≤a∧s.toNat≤64∧Tk (a*2^s.toNat)∧g (.i (a*2^s.toNat))
  |.shr=>0≤a∧s.toNat≤64∧g (.i (a/2^s.toNat))
  |_=>False
 |.int k a,.int A b=>k=A∧kkL op a b g
 |.str a,.str b=>ssL op a b g
 |.nilPtr,.nilPtr=>Yt j op z t .nilPtr .nilPtr true g
 |.ptr _ _,.nilPtr=>Yt j op z t (.ptr 0 0 0) .nilPtr false g
 |.nilSl,.nilSl=>Yt j op z t .nilSl .nilSl true g
 |.lst _ len _,.nilSl=>Q9 j z t .nilSl .nilSl=some true∧lstN op len g
 |.agg l,.agg r=>aggL j op z t l r g
 |_,_=>False
def unL(op:UnOp)(x:LV)(g:LV→Prop):Prop:=match op,x with
 |.not,.bool b=>g (.bool (!b))
 |.neg,.u a=>g (.u (Zi 0 a))
 |.neg,.i a=>Tk (-a)∧g (.i (-a))
 |.xor,.u a=>g (.u (qx a))
 |_,_=>False
def w32(n:Int):Int:=(n+2147483648)%4294967296-2147483648
def t7(k:IntKind)(x:LV)(g:LV→Prop):Prop:=match k,x with
 |.u64,.u a=>g (.u a)
 |.u64,.i a=>g (.u (iU a))
 |.u64,.b a=>g (.u (bU a))
 |.i64,.u a=>a.toNat<9223372036854775808∧g (.i a.toNat)
 |.i64,.i a=>Tk a∧g (.i a)
 |.i64,.b a=>g (.i a.toNat)
 |.u8,.u a=>g (.b (uB a))
 |.u8,.i a=>g (.b (iB a))
 |.u8,.b a=>g (.b a)
 |.u8,.int _ a=>g (.b (iB a))
 |.i32,.i a=>g (.int .i32 (w32 a))
 |.i64,.int _ a=>Tk a∧g (.i a)
 |_,_=>False
def Tc(t:Bool)(g j:Prop):Prop:=(t=true→g)∧(t=false→j)
def brV(v:LV)(g j:Prop):Prop:=match v with
 |.bool t=>Tc t g j
 |_=>False
def Wa(z:Mp)(x:LV)(n:Nat)(j:List LV→Prop):Prop:=match x with
 |.ptr p i=>match z[p]? with
  |some (.cells l _)=>i+n≤l.length∧j ((l.drop i).take n)
  |_=>False
 |.dptr p k i=>match z[p]? with
  |some (.dyn l _ _ g _)=>k=g∧i+n≤l.length∧j ((l.drop i).take n)
  |_=>False
 |.cptr l i=>i+n≤l.length∧j ((l.drop i).take n)
 |_=>False
def Oz(l:List LV)(i:Nat)(g:LV→Prop):Prop:=∃v,l[i]?=some v∧g v
def Xa(z:Mp)(x:LV)(j:LV→Prop):Prop:=match x with
 |.ptr p i=>match z[p]? with
  |some (.cells l _)=>Oz l i j
  |_=>False
 |.dptr p k i=>match z[p]? with
  |some (.dyn l _ _ g _)=>k=g∧Oz l i j
  |_=>False
 |.cptr l i=>Oz l i j
 |_=>False
def Ns(l:List LV)(i:Nat)(r:List LV):List LV:=l.take i++r++l.drop (i+r.length)
def U1(z:Mp)(x:LV)(r:List LV)(A:Mp→Prop):Prop:=match x with
 |.ptr p i=>match z[p]? with
  |some (.cells l st)=>i+r.length≤l.length∧A (z.set p (.cells (Ns l i r) (st+1)))
  |_=>False
 |.dptr p k i=>match z[p]? with
  |some (.dyn l len j g st)=>k=g∧i+r.length≤l.length∧A (z.set p (.dyn (Ns l i r) len j g (st+1)))
  |_=>False
 |_=>False
def Oj(g:List LV):Nat→List LV
 |0=>[]
 |n+1=>g++Oj g n
def S7(C:Mp)(j:Nat)(x:LV)(A:Nat→List LV→Prop):Prop:=match x with
 |.nilSl=>A 0 []
 |.dy p k=>match C[p]? with
  |some (.dyn l len g z _)=>k=z∧g=j∧A len l
  |_=>False
 |.vw p k B len=>match C[p]? with
  |some (.dyn l _ g z _)=>k=z∧g=j∧B*g+len*g≤l.length∧A len ((l.drop (B*g)).take (len*g))
  |_=>False
 |.lst l len g=>g=j∧A len l
 |.str l=>j=1∧A l.length (l.map LV.b)
 |_=>False
def bytL(A:Mp)(x:LV)(z:List LV→Prop):Prop:=match x with
 |.nilSl=>z []
 |.dy p k=>match A[p]? with
  |some (.dyn l _ g j _)=>k=j∧g=1∧z l
  |_=>False
 |.lst l len g=>g=1∧len≠0∧z l
 |_=>False
def lenL(z:Mp)(x:LV)(j:Nat→Prop):Prop:=match x with
 |.nilSl=>j 0
 |.dy p k=>match z[p]? with
  |some (.dyn _ len _ g _)=>k=g∧j len
  |_=>False
 |.vw p k _ len=>match z[p]? with
  |some (.dyn _ _ _ g _)=>k=g∧j len
  |_=>False
 |.lst _ len _=>j len
 |_=>False
def Ow(C:Mp)(j:Nat)(s:LV)(n:Nat)(A:List LV)(D:LV→Mp→Prop):Prop:=match s with
 |.nilSl=>D (.dy C.length 0) (C++[.dyn A n j 0 0])
 |.dy p k=>match C[p]? with
  |some (.dyn l len g z st)=>k=z∧(g=j∧0<g)∧len≤1000000000∧D (.dy p (z+1)) (C.set p (.dyn (l++A) (len+n) g (z+1) (st+1)))
  |_=>False
 |.vw p k E len=>match C[p]? with
  |some (.dyn l B g z st)=>k=z∧(g=j∧E=0∧0<n)∧len≤1000000000∧if (len+n)*g≤l.length then D (.vw p k 0 (len+n)) (C.set p (.dyn (Ns l (len*g) A) B g z (st+1)))∧D (.dy C.length 0) (C++[.dyn (l.take (len*g)++A) (len+n) j 0 0]) else len=B∧0<g∧D (.dy p (z+1)) (C.set p (.dyn (l++A) (len+n) g (z+1) (st+1)))∧D (.dy C.length 0) (C++[.dyn (l++A) (len+n) j 0 0])
  |_=>False
 |.vf p k len=>match C[p]? with
  |some (.dyn l _ g z _)=>k=z∧(g=j∧0<n)∧len≤1000000000∧len*g≤l.length∧D (.dy C.length 0) (C++[.dyn (l.take (len*g)++A) (len+n) j 0 0])
  |_=>False
 |_=>False
def sy(B:Mq)(z:List LV):List (Nat×Nat×Lx)→Option (List LV)
 |[]=>some z
 |(j,g,x)::A=>match (x.ev B).cells with
  |none=>none
  |some l=>if l.length=g∧j+g≤z.length then sy B (Ns z j l) A else none
def W3(d:TypeDesc)(a b:LV):Option Bool:=match d,a,b with
 |.int _,.i a,.i b=>some (decide (a=b))
 |.int _,.u a,.u b=>some (decide (a=b))
 |.string,.str a,.str b=>some (decide (a=b))
 |_,_,_=>none
def qz(d:TypeDesc)(k:LV)(g:Option LV→Prop):List (LV×LV×Nat)→Prop
 |[]=>g none
 |(j,v,_)::l=>match W3 d k j with
  |some b=>Tc b (g (some v)) (qz d k g l)
  |none=>False
def V0(d:TypeDesc)(k v:LV)(g:Nat)(K:List (LV×LV×Nat)→Bool→Prop):List (LV×LV×Nat)→Prop
 |[]=>K [(k,v,g)] true
 |(z,A,n)::l=>match W3 d k z with
  |some b=>Tc b (K ((k,v,n)::l) false) (V0 d k v g (λr j=>K ((z,A,n)::r) j) l)
  |none=>False
def Wk(z:Mp)(x:LV)(j:List (LV×LV×Nat)→Prop):Prop:=match x with
 |.nilMap=>j []
 |.map p=>match z[p]? with
  |some (.map g _ _)=>j g
  |_=>False
 |_=>False
def zwq(g:LV)(ok:Bool)(j:LV→Prop):Option LV→Prop
 |some v=>j (match ok with|true=>.tup [v,.bool true]|false=>v)
 |none=>j (match ok with|true=>.tup [g,.bool false]|false=>g)
def setK(A:Mp)(p j st:Nat)(B:Mp→Prop):List (LV×LV×Nat)→Bool→Prop:=λz g=>B (A.set p (.map z (match g with|true=>j+1|false=>j) (st+1)))
def ze(z:Mp)(d:TypeDesc)(m k v:LV)(A:Mp→Prop):Prop:=match m with
 |.map p=>match z[p]? with
  |some (.map j g st)=>V0 d k v g (setK z p g st A) j
  |_=>False
 |_=>False
def O3(j:Mq)(d:Nat)(x:Option Lx)(g:Nat→Prop):Prop:=match x with
 |none=>g d
 |some x=>match x.ev j with
  |.i n=>0≤n∧g n.toNat
  |.u n=>g n.toNat
  |_=>False
def zf(p k a b m:Nat):LV:=match decide (a=0∧b=m∧0<b) with
 |true=>.vf p k b
 |false=>.vw p k a (b-a)
def ixO(C:Mp)(g:Nat)(x:LV)(n:Int)(A:LV→Prop):Prop:=match x with
 |.dy p k=>match C[p]? with
  |some (.dyn _ len j z _)=>k=z∧j=g∧0≤n∧n<len∧A (.dptr p k (n.toNat*g))
  |_=>False
 |.vw p k B len=>match C[p]? with
  |some (.dyn _ _ j z _)=>k=z∧j=g∧0≤n∧n<len∧A (.dptr p k ((B+n.toNat)*g))
  |_=>False
 |.lst l len j=>j=g∧0≤n∧n<len∧A (.cptr l (n.toNat*g))
 |_=>False
inductive LTgt where
 |fn (f:Nat)
 |yield (p:Nat)
def TgtR(c:Cx):LTgt→Tgt→Prop
 |.fn f,.fn g=>f=g
 |.yield p,.yield o=>c.hd[p]?=some (0,.ptr o 0 0)
 |_,_=>False
def cz(g:Program):LTgt→Prop
 |.fn f=>uk g f=true∧zez g f=false
 |.yield _=>True
def Qn(E:Program)(t:LTgt)(j:List LV)(F:Mp)(G:LV→Mp→Prop):Prop :=
 cz E t∧∀c B g,HSim c F→TgtR c t B→ARs c j g→∃m C D,Rs E (OL E) m B g c.H=.ok C D∧∃z v A,z.H=D∧HSim z A∧Step c F z A∧AR z v C∧G v A
def Nm(T:Program)(A:Mq)(z:Mp)(o:LOp)(B:LV→Mp→Prop):Prop:=match o with
 |.move x=>B (x.ev A) z
 |.pick c a b=>match c.ev A with
  |.bool t=>match a.ev A,b.ev A with
   |.bool x,.bool y=>B (.bool (match t with|true=>x|false=>y)) z
   |x,y=>Tc t (B x z) (B y z)
  |_=>False
 |.alloc l=>B (.ptr z.length 0) (z++[.cells l 0])
 |.box x=>match (x.ev A).cells with
  |some l=>B (.ptr z.length 0) (z++[.cells l 0])
  |none=>False
 |.build K L=>match sy A K L with
  |some l=>B (.agg l) z
  |none=>False
 |.buildSl g len K L=>match sy A K L with
  |some l=>l.length=len*g∧B (.dy z.length 0) (z++[.dyn l len g 0 0])
  |none=>False
 |.load1 x=>Xa z (x.ev A) λv=>B v z
 |.loadN n x=>Wa z (x.ev A) n λl=>B (.agg l) z
 |.store n x y=>match (y.ev A).cells with
  |some l=>l.length=n∧U1 z (x.ev A) l λM=>B (.tup []) M
  |none=>False
 |.nilChk x=>match x.ev A with
  |.ptr p i=>B (.ptr p i) z
  |.dptr p k i=>B (.dptr p k i) z
  |.cptr l i=>B (.cptr l i) z
  |.fn (.func f) a b=>B (.fn (.func f) a b) z
  |_=>False
 |.bin op O t x y=>Sj T op O t (x.ev A) (y.ev A) λv=>B v z
 |.un op x=>unL op (x.ev A) λv=>B v z
 |.cvInt k x=>t7 k (x.ev A) λv=>B v z
 |.cvStr x=>bytL z (x.ev A) λl=>∃Q:List UInt8,l=Q.map LV.b∧B (.str Q) z
 |.cvSame x=>match x.ev A with
  |.str l=>B (.str l) z
  |_=>False
 |.cvBytes x=>match x.ev A with
  |.str l=>B (.dy z.length 0) (z++[.dyn (l.map LV.b) l.length 1 0 0])
  |_=>False
 |.mkFunc f a b=>B (.fn (.func f) (a.map (·.ev A)) (b.map (·.ev A))) z
 |.mkSl g I l c=>match l.ev A,c.ev A with
  |.i l,.i c=>l=c∧0≤l∧l≤1048576∧I.length=g∧B (.dy z.length 0) (z++[.dyn (Oj I l.toNat) l.toNat g 0 0])
  |_,_=>False
 |.slStr x D hi=>match x.ev A with
  |.str l=>O3 A 0 D λa=>O3 A l.length hi λb=>a≤b∧b≤l.length∧B (.str ((l.drop a).take (b-a))) z
  |_=>False
 |.slSl g x D hi=>match x.ev A with
  |.nilSl=>O3 A 0 D λa=>O3 A 0 hi λb=>a=0∧b=0∧B .nilSl z
  |.dy p k=>match z[p]? with
   |some (.dyn _ len j C _)=>k=C∧j=g∧O3 A 0 D λa=>O3 A len hi λb=>a≤b∧b≤len∧B (.vw p k a (b-a)) z
   |_=>False
  |.vw p k U len=>match z[p]? with
   |some (.dyn _ _ j C _)=>k=C∧j=g∧O3 A 0 D λa=>O3 A len hi λb=>a≤b∧b≤len∧B (.vw p k (U+a) (b-a)) z
   |_=>False
  |.lst l len j=>j=g∧O3 A 0 D λa=>O3 A len hi λb=>a≤b∧b≤len∧B (.lst ((l.drop (a*j)).take ((b-a)*j)) (b-a) j) z
  |_=>False
 |.slSl3 g x D hi H=>match x.ev A with
  |.dy p k=>match z[p]? with
   |some (.dyn _ len j C _)=>k=C∧j=g∧O3 A 0 D λa=>O3 A len hi λb=>O3 A 0 (some H) λm=>0<len∧a≤b∧b≤m∧m≤len∧B (zf p k a b m) z
   |_=>False
  |.lst l len j=>j=g∧O3 A 0 D λa=>O3 A len hi λb=>O3 A 0 (some H) λm=>0<len∧a≤b∧b≤m∧m≤len∧B (.lst ((l.drop (a*j)).take ((b-a)*j)) (b-a) j) z
  |_=>False
 |.fieldAddr E x=>match x.ev A with
  |.ptr p i=>B (.ptr p (i+E)) z
  |.dptr p k i=>B (.dptr p k (i+E)) z
  |.cptr l i=>B (.cptr l (i+E)) z
  |_=>False
 |.field O n E x=>match x.ev A with
  |.agg l=>match O with
   |true=>E+n≤l.length∧B (.agg ((l.drop E).take n)) z
   |false=>Oz l E λv=>B v z
  |_=>False
 |.ixAddr g x i=>match i.ev A with
  |.i n=>ixO z g (x.ev A) n λv=>B v z
  |.u n=>ixO z g (x.ev A) (n.toNat:Int) λv=>B v z
  |_=>False
 |.ixStr x i=>match x.ev A,i.ev A with
  |.str l,.i n=>0≤n∧n<l.length∧B (.b (l.getD n.toNat 0)) z
  |.str l,.u n=>n.toNat<l.length∧B (.b (l.getD n.toNat 0)) z
  |.str l,.b n=>n.toNat<l.length∧B (.b (l.getD n.toNat 0)) z
  |_,_=>False
 |.extract i x=>match x.ev A with
  |.tup l=>Oz l i λv=>B v z
  |_=>False
 |.lenStr x=>match x.ev A with
  |.str l=>B (.i l.length) z
  |_=>False
 |.lenSl x=>lenL z (x.ev A) λn=>B (.i n) z
 |.maxi H x y=>match x.ev A,y.ev A with
  |.i a,.i b=>B (.i (match H with|true=>max a b|false=>min a b)) z
  |.u a,.u b=>B (.u (match H with|true=>if a<b then b else a|false=>if b<a then b else a)) z
  |_,_=>False
 |.max3 H x y I=>match x.ev A with
  |.i a=>match y.ev A with
   |.i b=>match I.ev A with
    |.i d=>B (.i (match H with|true=>max (max a b) d|false=>min (min a b) d)) z
    |_=>False
   |_=>False
  |_=>False
 |.ixAddrArr len g x i=>match i.ev A with
  |.i n=>0≤n∧n<len∧match x.ev A with
   |.ptr p R=>B (.ptr p (R+n.toNat*g)) z
   |.dptr p k R=>B (.dptr p k (R+n.toNat*g)) z
   |.cptr l R=>B (.cptr l (R+n.toNat*g)) z
   |_=>False
  |_=>False
 |.ixArr O len g x i=>match i.ev A with
  |.i n=>0≤n∧n<len∧match x.ev A with
   |.agg l=>match O with
    |true=>n.toNat*g+g≤l.length∧B (.agg ((l.drop (n.toNat*g)).take g)) z
    |false=>Oz l (n.toNat*g) λv=>B v z
   |_=>False
  |_=>False
 |.lenArr n _=>B (.i n) z
 |.appZ g I s x=>match x.ev A with
  |.i n=>0≤n∧n≤1048576∧I.length=g∧Ow z g (s.ev A) n.toNat (Oj I n.toNat) B
  |_=>False
 |.appG g s x=>S7 z g (x.ev A) λn l=>n≤1048576∧Ow z g (s.ev A) n l B
 |.copy g d x=>S7 z g (x.ev A) λn l=>match d.ev A with
  |.dy p k=>match z[p]? with
   |some (.dyn r len j C st)=>k=C∧j=g∧B (.i (min n len:Nat)) (z.set p (.dyn (Ns r 0 (l.take (min n len*g))) len j C (st+1)))
   |_=>False
  |.vw p k D len=>match z[p]? with
   |some (.dyn r F j C st)=>k=C∧j=g∧(D+len)*g≤r.length∧B (.i (min n len:Nat)) (z.set p (.dyn (Ns r (D*g) (l.take (min n len*g))) F j C (st+1)))
   |_=>False
  |_=>False
 |.clear g I x=>match x.ev A with
  |.vw p k D len=>match z[p]? with
   |some (.dyn r F j C st)=>k=C∧j=g∧I.length=g∧(D+len)*g≤r.length∧B .any (z.set p (.dyn (Ns r (D*g) (Oj I len)) F j C (st+1)))
   |_=>False
  |_=>False
 |.mkMap0=>B (.map z.length) (z++[.map [] 0 0])
 |.mkMap1 x=>match x.ev A with
  |.i _=>B (.map z.length) (z++[.map [] 0 0])
  |_=>False
 |.lookup d I ok x i=>Wk z (x.ev A) λP=>qz d (i.ev A) (zwq I ok λv=>B v z) P
 |.mapUpd d m k v=>ze z d (m.ev A) (k.ev A) (v.ev A) λM=>B .any M
 |.lenMap x=>Wk z (x.ev A) λP=>B (.i P.length) z
 |.slArr n g x D hi=>match x.ev A with
  |.ptr p i=>match z[p]? with
   |some (.cells l st)=>i+n*g≤l.length∧O3 A 0 D λa=>O3 A n hi λb=>a≤b∧b≤n∧B (.lst ((l.drop (i+a*g)).take ((b-a)*g)) (b-a) g) (z.set p (.dead (st+1)))
   |_=>False
  |_=>False
 |.callV f G=>match f.ev A with
  |.fn (.func O) a b=>Qn T (.fn O) (a++G.map (·.ev A)++b) z B
  |.fn (.yield p) [] _=>Qn T (.yield p) (G.map (·.ev A)) z B
  |_=>False
end
variable{D:List LV}{O:LV}{vC:Cx}
section
def z5c{t:Tr AV}:∀{n i:Nat} {l:List AV},l.length=n→(∀g,g<n→Mt (M9 (i+g)) t=l[g]?)→R8 t i n=some l
 |0,i,l,h,_=>by
  have:l=[]:=Ic h;subst this;rfl
 |n+1,i,[],h,_=>Bn
 |n+1,i,a::l,h,k=>by
  have j:=k 0 J;simp only[Kr,Ii]at j;have z:=z5c (t:=t) (n:=n) (i:=i+1) (l:=l) Av (λg A=>by
   have:=k (g+1) J;rw[Ib]at this;rw[←this,show i+1+g=i+(g+1) from J])
  simp only[R8,j,z]
def zpu{t:Tr AV}{i n:Nat}{l:List AV}(h:R8 t 0 g=some l)(j:i+n≤g):R8 t i n=some ((l.drop i).take n):=by
 obtain⟨B,z⟩:=nr h;refine z5c Ab (λC A=>?_);have:=z (i+C) J;rw[Iq]at this;rw[this,Jc A,Mi]
def z67(l:List AV):R8 (Qz l 0 .e) 0 l.length=some l :=
 z5c rfl (λj g=>by rw[get_ofList,Hv J];simp)
def kr(l:List AV)(i:Nat)(r:List AV):List AV:=l.take i++r++l.drop (i+r.length)
def zqk{l r:List AV}{i:Nat}(h:i+r.length≤l.length):(kr l i r).length=l.length:=by
 unfold kr;simp;omega
def zhw{l r:List AV}{i:Nat}(h:i+r.length≤l.length)(g:Nat):(kr l i r)[g]?=if i≤g∧g<i+r.length then r[g-i]? else l[g]?:=by
 have hi:(l.take i).length=i:=Ab
 unfold kr;by_cases j:g<i
 ·rw[Hs J,I8,Hx J,Jc j]
 ·by_cases z:g<i+r.length
  ·rw[Hv J,Hx Ab,H9 J,hi]
  ·rw[Hs J,H9 Ab,Mi]
   congr 1
   simp;omega
def zfn{t:Tr AV}{i:Nat}{l r:List AV}(h:R8 t 0 g=some l)(j:i+r.length≤g):R8 (Qz r i t) 0 g=some (kr l i r):=by
 obtain⟨z,A⟩:=nr h;refine z5c (by rw[zqk J];exact z) (λC B=>?_);have:=A C B;rw[Iq]at this ⊢;rw[get_ofList,zhw J,this]
def zqh{t:Tr AV}{l r:List AV}(h:R8 t 0 g=some l):R8 (Qz r g t) 0 (g+r.length)=some (l++r):=by
 obtain⟨z,A⟩:=nr h;refine z5c Ab (λB C=>?_);rw[Iq,get_ofList];by_cases j:g≤B
 ·rw[Hv ⟨j,J⟩,H9 J,z]
 ·rw[Hs J,Hx J];have:=A B J
  rwa [Iq]at this
def Vn{H:Heap}{o v i n:Nat}{t:Tr AV}{l:List AV}(A:H.get o=some (.cells t j v Q))(B:R8 t 0 g=some l)(D:g≤j)(z:i+n≤g):Qi H o v i n=some ((l.drop i).take n):=by
 unfold Qi;rw[A];have C:Nat.ble (Nat.add i n) j=true:=Hy (by show i+n≤j;omega);simp only[It,C];exact zpu B z
def zx{o:Nat}(h:vY.get o=F.get o)(v i n:Nat):Qi vY o v i n=Qi F o v i n:=by
 unfold Qi;rw[h]
def zlt{o v i n m:Nat}{l:List AV}(h:Qi F o v i n=some l)(A:g+m≤n):Qi F o v (i+g) m=some ((l.drop g).take m):=by
 unfold Qi at h ⊢;split at h
 ·rename_i t j B H I;split at h
  ·rename_i hv;split at h
   ·rename_i C;have D:i+n≤j:=H6 C;have z:Nat.ble (Nat.add (i+g) m) j=true:=Hy (by show i+g+m≤j;omega);simp only[z];obtain⟨K,E⟩:=nr h;refine z5c Ab (λq G=>?_);have:=E (g+q) J;rw[J2,this,Jc G,Mi]
   ·cases h
  ·cases h
 ·cases h
def zdm{o v i n:Nat}{l:List AV}(h:Qi F o v i n=some l):l.length=n:=by
 unfold Qi at h;split at h
 ·split at h
  ·split at h
   ·exact (nr h).1
   ·cases h
  ·cases h
 ·cases h
section lists
variable {c : Cx}
def ARs.length:∀{l:List LV} {r:List AV},ARs c l r→l.length=r.length
 |_,_,.nil=>rfl
 |_,_,.cons _ es=>by simp[ARs.length es]
def ARs.get:∀{l:List LV} {r:List AV},ARs c l r→∀{i:Nat} {v:LV},l[i]?=some v→∃a,r[i]?=some a∧AR c v a
 |_,_,.nil,i,v,h=>Bn
 |_,_,.cons e es,0,v,h=>Da
 |_,_,.cons e es,i+1,v,h=>by simp only[Ib]at h ⊢;exact ARs.get es h
def ARs.append:∀{l:List LV} {r:List AV} {l':List LV} {r':List AV},ARs c l r→ARs c l' r'→ARs c (l++l') (r++r')
 |_,_,_,_,.nil,k=>k
 |_,_,_,_,.cons e es,k=>.cons e (ARs.append es k)
def ARs.drop:∀{l:List LV} {r:List AV},ARs c l r→∀n,ARs c (l.drop n) (r.drop n)
 |_,_,h,0=>h
 |_,_,.nil,_+1=>.nil
 |_,_,.cons _ es,n+1=>ARs.drop es n
def ARs.take:∀{l:List LV} {r:List AV},ARs c l r→∀n,ARs c (l.take n) (r.take n)
 |_,_,_,0=>.nil
 |_,_,.nil,_+1=>.nil
 |_,_,.cons e es,n+1=>.cons e (ARs.take es n)
def ARs.lay{l r:List LV}{l' r':List AV}(h:ARs c l l')(k:ARs c r r')(i:Nat):ARs c (Ns l i r) (kr l' i r'):=by
 unfold Ns kr;rw[k.length];exact ((h.take i).append k).append (h.drop _)
def zaf{l r:List LV}{i:Nat}(h:i+r.length≤l.length):(Ns l i r).length=l.length:=by
 unfold Ns;simp;omega
def ARs.rep{z:List LV}{z':List AV}(h:ARs c z z'):∀n,ARs c (Oj z n) (S8 z' n)
 |0=>.nil
 |n+1=>h.append (ARs.rep h n)
def z5f(g:List LV):∀n,(Oj g n).length=n*g.length
 |0=>by simp[Oj]
 |n+1=>by simp[Oj,z5f g n,Im];omega
end lists
def zwy(c:Cx){v:LV}(h:v.scal=true):AR c v (toA v):=by
 cases v<;>first|(cases h;done)|(unfold toA;constructor)
def zh(c:Cx):∀{l:List LV},l.all LV.scal=true→ARs c l (toAs l)
 |[],_=>by unfold toAs;exact .nil
 |v::l,h=>by
  simp only[J1,Hq]at h;unfold toAs;exact .cons (zwy c h.1) (zh c h.2)
def d5(c:Cx){v:LV}(h:v.cst=true):AR c v (toA v):=by
 unfold LV.cst at h;split at h
 ·unfold toA;exact .fn .nil .nil
 ·unfold toA;exact .agg (zh c h)
 ·unfold toA toAs;exact .tup .nil
 ·exact zwy c h
def AR.cells{c:Cx}{v:LV}{a:AV}(h:AR c v a){l:List LV}(hl:v.cells=some l):∃l',a.cells=some l'∧ARs c l l':=by
 cases v with
 |any=>cases hl
 |tup _=>cases hl
 |agg l0=>cases hl;cases h with|agg h=>exact⟨_,rfl,h⟩
 |dy p k =>
  simp only[LV.cells,Option.some.injEq]at hl;subst hl;have h0:=h;refine⟨[a],?_,.cons h0 .nil⟩;cases h with|dy _ _ _ hs=>cases a<;>first|rfl|cases hs
 |vw p k lo len =>
  simp only[LV.cells,Option.some.injEq]at hl;subst hl;have h0:=h;refine⟨[a],?_,.cons h0 .nil⟩;cases h with|vw _ _ _ hs _=>cases a<;>first|rfl|cases hs
 |vf p k len =>
  simp only[LV.cells,Option.some.injEq]at hl;subst hl;have h0:=h;refine⟨[a],?_,.cons h0 .nil⟩;cases h with|vf _ _ _ hs=>cases a<;>first|rfl|cases hs
 |_ =>
  simp only[LV.cells,Option.some.injEq]at hl;subst hl;have h0:=h;refine⟨[a],?_,.cons h0 .nil⟩;cases h<;>rfl
def CxLe.refl(c:Cx):CxLe c c:=⟨λ_ k h e=>⟨k,h,e,Hw _,λ_=>rfl,λ_=>rfl⟩,λ_ h=>⟨h,rfl⟩⟩
def CxLe.trans{a b c:Cx}(h:CxLe a b)(k:CxLe b c):CxLe a c:=by
 refine⟨λp v x e=>?_,λo e=>?_⟩
 ·obtain⟨v1,x1,e1,l1,s1,f1⟩:=h.hd p v x e;obtain⟨v2,x2,e2,l2,s2,f2⟩:=k.hd p v1 x1 e1;refine⟨v2,x2,e2,Is l1 l2,λq=>?_,λq=>?_⟩
  ·have q1:v=v1:=J
   have q2:v1=v2:=J
   rw[s1 q1,s2 q2]
  ·have q1:=f1 q;have:=s1 q1;subst this;rw[q1,f2 q]
 ·obtain⟨h1,h2⟩:=h.fz o e;obtain⟨h3,h4⟩:=k.fz o h1;exact⟨h3,h4.trans h2⟩
def CxLe.fix{c:Cx}(h:CxLe c vC){p k:Nat}{x:AV}(e:c.hd[p]?=some (k,x))(hf:Yz x=true):vC.hd[p]?=some (k,x):=by
 obtain⟨k',x',e',_,s,f⟩:=h.hd p k x e;have:=f hf;subst this;rw[s rfl];exact e'
mutual
def AR.mono{c c':Cx}(h:CxLe c c'):∀{v:LV} {a:AV},AR c v a→AR c' v a
 |_,_,.any a=>.any a
 |_,_,.bool b=>.bool b
 |_,_,.u x=>.u x
 |_,_,.b x=>.b x
 |_,_,.i n=>.i n
 |_,_,.int k n=>.int k n
 |_,_,.str l=>.str l
 |_,_,.nilPtr=>.nilPtr
 |_,_,.ptr e=>.ptr (h.fix e rfl)
 |_,_,.dptr hp hk ha=>by
  obtain⟨k2,h2,e2,l2,s2,_⟩:=h.hd _ _ _ hp;refine .dptr e2 (Is hk l2) (λq=>?_);have q1:=ha J;rw[←s2 J];exact q1
 |_,_,.cptr hf hr hl=>.cptr (h.fz _ hf).1 (by rw[zx (h.fz _ hf).2];exact hr) (ARs.mono h hl)
 |_,_,.nilSl=>.nilSl
 |_,_,.dy hp hk ha hs=>by
  obtain⟨k2,h2,e2,l2,s2,_⟩:=h.hd _ _ _ hp;refine .dy e2 (Is hk l2) (λq=>?_) hs;have q1:=ha J;rw[←s2 J];exact q1
 |_,_,.vw hp hk ha hs hz=>by
  obtain⟨k2,h2,e2,l2,s2,_⟩:=h.hd _ _ _ hp;refine .vw e2 (Is hk l2) (λq=>?_) hs (λq=>?_)
  ·have q1:=ha J;rw[←s2 J];exact q1
  ·have q1:=hz J;rw[←s2 J];exact q1
 |_,_,.vf hp hk ha hs=>by
  obtain⟨k2,h2,e2,l2,s2,_⟩:=h.hd _ _ _ hp;refine .vf e2 (Is hk l2) (λq=>?_) hs;have q1:=ha J;rw[←s2 J];exact q1
 |_,_,.lst hf gg hlen hr hl=>.lst (h.fz _ hf).1 gg hlen (by rw[zx (h.fz _ hf).2];exact hr) (ARs.mono h hl)
 |_,_,.lstNil=>.lstNil
 |_,_,.lstEmp=>.lstEmp
 |_,_,.nilMap=>.nilMap
 |_,_,.map e=>.map (h.fix e rfl)
 |_,_,.nilFn=>.nilFn
 |_,_,.fn hl hr=>.fn (ARs.mono h hl) (ARs.mono h hr)
 |_,_,.yield e=>.yield (h.fix e rfl)
 |_,_,.nilIf=>.nilIf
 |_,_,.iface e=>.iface (AR.mono h e)
 |_,_,.agg e=>.agg (ARs.mono h e)
 |_,_,.tup e=>.tup (ARs.mono h e)
def ARs.mono{c c':Cx}(h:CxLe c c'):∀{l:List LV} {r:List AV},ARs c l r→ARs c' l r
 |_,_,.nil=>.nil
 |_,_,.cons e es=>.cons (AR.mono h e) (ARs.mono h es)
end
def MRs.mono{c c':Cx}(h:CxLe c c'):∀{l:List (LV×LV×Nat)} {r:List (AV×AV×Nat)},MRs c l r→MRs c' l r
 |_,_,.nil=>.nil
 |_,_,.cons hk hv hs=>.cons (hk.mono h) (hv.mono h) (MRs.mono h hs)
def Nv.mono{c c':Cx}(h:CxLe c c'){ρ:Mq}{E:Tr AV}(k:Nv c ρ E):Nv c' ρ E:=λt=>(k t).mono h
def yx.mono{c c':Cx}(h:CxLe c c'){k:Nat}{x:AV}{ob:LObj}(hg:∀o,Nl x=some o→c'.H.get o=c.H.get o)(r:yx c k x ob):yx c' k x ob:=by
 cases ob with
 |dead st=>trivial
 |cells l st =>
  obtain⟨r0,o,t,l',rfl,r2,r3,r4⟩:=r;exact⟨r0,o,t,l',rfl,Cj,r3,r4.mono h⟩
 |dyn l len gA gC st =>
  obtain⟨r0,r1,r2⟩:=r;refine⟨r0,r1,?_⟩;rcases r2 with r2|⟨o,v,room,t,gg,l',rfl,r3,r4,r5,r6,r7⟩
  ·exact .inl r2
  ·exact .inr ⟨o,v,room,t,gg,l',rfl,by rw[hg o rfl];exact r3,r4,r5,r6.mono h,r7⟩
 |map es ck st =>
  obtain⟨r0,o,gz,rfl,r2,r3⟩:=r;exact⟨r0,o,gz,rfl,Cj,r3.mono h⟩
 |iter l pos =>
  obtain⟨r0,o,rfl,r2⟩:=r;exact⟨r0,o,rfl,Cj⟩
 |loop s pend f n ρ ps a b d =>
  obtain⟨r0,o,od,E,rfl,r2,r3,r4⟩:=r;exact⟨r0,o,od,E,rfl,h.fix r2 rfl,by rw[hg o rfl];exact r3,r4.mono h⟩
 |defd op =>
  obtain⟨r0,o,rfl,r2⟩:=r;exact⟨r0,o,rfl,Cj⟩
def Step.refl(c:Cx)(G:Mp):Step c G c G:=by
 refine⟨.refl c,Hw _,λ_ _ _=>rfl,λ_ h=>.inl h,λ_ h=>.inl h,λp ob gg e1 e2=>?_,λp ob gg k h o e1 e2 _ _ _ _=>?_⟩
 ·rw[e1]at e2;cases e2;exact Hw _
 ·rw[e1]at e2;cases e2;exact⟨rfl,rfl,rfl⟩
def Step.trans{c c1 c2:Cx}{G G1 G2:Mp}(h0:HSim c G)(h1:HSim c1 G1)(s1:Step c G c1 G1)(s2:Step c1 G1 c2 G2):Step c G c2 G2:=by
 have gA:∀p ob,G[p]?=some ob→∃gg,G1[p]?=some gg:=λp ob e=>by
  have hp:p<c.hd.length:=by rw[h0.len];exact (Hm.1 e).1
  obtain⟨k,h,e3⟩:∃k h,c.hd[p]?=some (k,h):=⟨_,_,Ht hp⟩;obtain⟨k1,x1,q1,_,_,_⟩:=s1.le.hd p k h e3;have hp:p<G1.length:=by rw[←h1.len];exact (Hm.1 q1).1
  exact⟨_,Ht hp⟩
 refine⟨s1.le.trans s2.le,Is s1.nx s2.nx,λo ho hn=>?_,λo ho=>?_,λo ho=>?_,λp ob gz e1 e2=>?_,λp ob gz k h o e1 e2 e3 e4 hl he=>?_⟩
 ·rw[s2.frame o (Il ho s1.nx) (λhc=>?_),s1.frame o ho hn];rcases s1.new o hc with h|h
  ·exact hn h
  ·omega
 ·rcases s2.new o ho with h|h
  ·exact s1.new o h
  ·exact .inr (Is s1.nx h)
 ·rcases s2.fznew o ho with h|h|h
  ·exact s1.fznew o h
  ·rcases s1.new o h with h|h
   ·exact .inr (.inl h)
   ·exact .inr (.inr h)
  ·exact .inr (.inr (Is s1.nx h))
 ·obtain⟨gg,q2⟩:=gA p ob e1;exact Is (s1.mono p ob gg e1 q2) (s2.mono p gg gz q2 e2)
 ·obtain⟨gg,q2⟩:=gA p ob e1;have m1:=s1.mono p ob gg e1 q2;have m2:=s2.mono p gg gz q2 e2;obtain⟨rfl,r3,r4⟩:=s1.st p ob gg k h o e1 q2 e3 e4 hl J;obtain⟨rfl,r7,r8⟩:=s2.st p gg gz k h o q2 e2 (by rw[r4];exact e3) e4 hl J;rw[r7,r8,r3,r4];exact⟨rfl,rfl,rfl⟩
def HSim.push{c:Cx}{G:Mp}(hs:HSim c G){H':Heap}{x:AV}{ob:LObj}(gE:c.H.next≤H'.next)(gD:∀o,o<c.H.next→H'.get o=c.H.get o)(gF:∀o,Nl x=some o→c.H.next≤o∧o<H'.next)
  (gI:yx ⟨c.hd++[(0,x)],c.Fz,H'⟩ 0 x ob):HSim ⟨c.hd++[(0,x)],c.Fz,H'⟩ (G++[ob])∧Step c G ⟨c.hd++[(0,x)],c.Fz,H'⟩ (G++[ob])∧CxLe c ⟨c.hd++[(0,x)],c.Fz,H'⟩:=by
 have gH:∀(p k:Nat) (h:AV),c.hd[p]?=some (k,h)→(c.hd++[(0,x)])[p]?=some (k,h):=λp k h e=>by
  rw[Hx (Hm.1 e).1];exact e
 have hle:CxLe c ⟨c.hd++[(0,x)],c.Fz,H'⟩:=⟨λp k h e=>⟨k,h,gH p k h e,Hw _,λ_=>rfl,λ_=>rfl⟩,λo ho=>⟨ho,gD o (hs.fz o ho)⟩⟩;have hinv:∀(p:Nat) (k:Nat) (h:AV) (gg:LObj),(c.hd++[(0,x)])[p]?=some (k,h)→(G++[ob])[p]?=some gg→(c.hd[p]?=some (k,h)∧G[p]?=some gg)∨(p=G.length∧k=0∧h=x∧gg=ob):=by
  intro p k h gg e1 e2;by_cases hp:p<G.length
  ·rw[Hx hp]at e2;rw[Hx (by rw[hs.len];exact hp)]at e1;exact .inl ⟨e1,e2⟩
  ·have gK:p=G.length:=by
    have:=(Hm.1 e2).1;simp at this;omega
   subst gK;rw[Ie]at e2;rw[←hs.len,Ie]at e1;cases e1;cases e2;exact .inr ⟨rfl,rfl,rfl,rfl⟩
 have gA:∀o,Oq ⟨c.hd++[(0,x)],c.Fz,H'⟩ (G++[ob]) o→Oq c G o∨(c.H.next≤o∧o<H'.next):=by
  rintro o ⟨p,gg,k,h,e1,e2,e3,e4⟩;rcases hinv p k h gg e3 e1 with ⟨q1,q2⟩|⟨_,_,rfl,_⟩
  ·exact .inl ⟨p,gg,k,h,q2,e2,q1,e4⟩
  ·exact .inr (gF o e4)
 refine⟨⟨Dg,λo ho=>Il (hs.fz o ho) gE,λo ho=>?_,λo ho hf=>?_,λp gg k h e1 e2=>?_,?_⟩,⟨hle,gE,λo ho _=>gD o ho,λo ho=>?_,λo ho=>.inl ho,λp gz gC e1 e2=>?_,λp gz gC k h o e1 e2 e3 e4 hl _=>?_⟩,hle⟩
 ·rcases gA o ho with h|h
  ·exact Il (hs.lt o h) gE
  ·exact h.2
 ·rcases gA o ho with h|h
  ·exact hs.sep o h hf
  ·have:=hs.fz o hf;omega
 ·rcases hinv p k h gg e2 e1 with ⟨q1,q2⟩|⟨_,rfl,rfl,rfl⟩
  ·by_cases hl:gg.live=true
   ·exact (hs.obj p gg k h q2 q1).mono hle (λo ho=>gD o (hs.lt o ⟨p,gg,k,h,q2,hl,q1,ho⟩))
   ·cases gg<;>first|exact absurd rfl hl|trivial
  ·exact gI
 ·intro p q gz gC k h k' h' o e1 e2 e3 e4 e5 e6 e7 e8;rcases hinv p k h gz e5 e1 with ⟨q1,q2⟩|⟨r1,_,rfl,rfl⟩<;>rcases hinv q k' h' gC e6 e2 with ⟨q3,q4⟩|⟨r2,_,rfl,rfl⟩
  ·exact hs.excl p q gz gC k h k' h' o q2 q4 e3 e4 q1 q3 e7 e8
  ·have:=hs.lt o ⟨p,gz,k,h,q2,e3,q1,e7⟩;have:=gF o e8;omega
  ·have:=hs.lt o ⟨q,gC,k',h',q4,e4,q3,e8⟩;have:=gF o e7;omega
  ·omega
 ·rcases gA o ho with h|h
  ·exact .inl h
  ·exact .inr h.1
 ·rw[Hx (Hm.1 e1).1,e1]at e2;cases e2;exact Hw _
 ·rw[Hx (Hm.1 e1).1,e1]at e2;cases e2;have gG:gz.live=true:=by cases gz<;>first|rfl|cases hl
  exact⟨rfl,gD o (hs.lt o ⟨p,gz,k,h,e1,gG,e3,e4⟩),by rw[gH p k h e3,e3]⟩
def HSim.upd{c:Cx}{G:Mp}(hs:HSim c G){p k k':Nat}{x x':AV}{ob ob':LObj}{H':Heap}(hG:G[p]?=some ob)(hl:ob.live=true)(hp:c.hd[p]?=some (k,x))(gH:c.H.next≤H'.next)
  (gG:∀o,o<c.H.next→Nl x≠some o→H'.get o=c.H.get o) (gI:∀o,Nl x'=some o→(Nl x=some o∨c.H.next≤o)∧o<H'.next)
  (hk:k≤k') (hx:k=k'→x=x') (hf:Yz x=true→k=k') (gL:ob.st<ob'.st∨(ob.stp=false∧ob.st≤ob'.st))
  (gO:CxLe c ⟨c.hd.set p (k',x'),c.Fz,H'⟩→yx ⟨c.hd.set p (k',x'),c.Fz,H'⟩ k' x' ob') :
  HSim ⟨c.hd.set p (k',x'),c.Fz,H'⟩ (G.set p ob')∧Step c G ⟨c.hd.set p (k',x'),c.Fz,H'⟩ (G.set p ob')∧CxLe c ⟨c.hd.set p (k',x'),c.Fz,H'⟩:=by
 have gM:p<c.hd.length:=(Hm.1 hp).1;have gK:p<G.length:=(Hm.1 hG).1;have gA:∀o,Nl x=some o→Oq c G o:=λo ho=>⟨p,ob,k,x,hG,hl,hp,ho⟩
 have hle:CxLe c ⟨c.hd.set p (k',x'),c.Fz,H'⟩:=by
  refine⟨λq k1 h1 e=>?_,λo ho=>⟨ho,gG o (hs.fz o ho) (λq=>hs.sep o (gA o q) ho)⟩⟩;by_cases hq:q=p
  ·subst hq;rw[hp]at e;cases e;exact⟨k',x',by dsimp only;rw[Hu gM],hk,hx,hf⟩
  ·exact⟨k1,h1,by dsimp only;rw[Ho (Ne.symm hq)];exact e,Hw _,λ_=>rfl,λ_=>rfl⟩
 have hinv:∀(q:Nat) (k1:Nat) (h1:AV) (gg:LObj),(c.hd.set p (k',x'))[q]?=some (k1,h1)→(G.set p ob')[q]?=some gg→(q≠p∧c.hd[q]?=some (k1,h1)∧G[q]?=some gg)∨(q=p∧k1=k'∧h1=x'∧gg=ob'):=by
  intro q k1 h1 gg e1 e2;by_cases hq:q=p
  ·subst hq;rw[Hu gM]at e1;rw[Hu gK]at e2;cases e1;cases e2;exact .inr ⟨rfl,rfl,rfl,rfl⟩
  ·rw[Ho (Ne.symm hq)]at e1 e2;exact .inl ⟨hq,e1,e2⟩
 have gz:∀(q:Nat) (k1:Nat) (h1:AV) (gg:LObj) (o:Nat),q≠p→c.hd[q]?=some (k1,h1)→G[q]?=some gg→gg.live=true→Nl h1=some o→Nl x≠some o:=by
  intro q k1 h1 gg o hq e1 e2 e3 e4 e5;exact hq (hs.excl q p gg ob k1 h1 k x o e2 hG e3 hl e1 hp e4 e5)
 have gE:∀o,Oq ⟨c.hd.set p (k',x'),c.Fz,H'⟩ (G.set p ob') o→(Oq c G o∧o<c.H.next)∨(c.H.next≤o∧o<H'.next):=by
  rintro o ⟨q,gg,k1,h1,e1,e2,e3,e4⟩;rcases hinv q k1 h1 gg e3 e1 with ⟨_,q1,q2⟩|⟨_,_,rfl,_⟩
  ·have:=(⟨q,gg,k1,h1,q2,e2,q1,e4⟩:Oq c G o);exact .inl ⟨this,hs.lt o this⟩
  ·obtain⟨q1,q2⟩:=gI o e4;rcases q1 with q1|q1
   ·exact .inl ⟨gA o q1,hs.lt o (gA o q1)⟩
   ·exact .inr ⟨q1,q2⟩
 refine⟨⟨Dg,λo ho=>Il (hs.fz o ho) gH,λo ho=>?_,λo ho hf=>?_,λq gg k1 h1 e1 e2=>?_,?_⟩,⟨hle,gH,λo ho hn=>gG o ho (λq=>hn (gA o q)),λo ho=>?_,λo ho=>.inl ho,λq gg gC e1 e2=>?_,λq gg gC k1 h1 o e1 e2 e3 e4 gF he=>?_⟩,hle⟩
 ·rcases gE o ho with h|h
  ·exact Il h.2 gH
  ·exact h.2
 ·rcases gE o ho with h|h
  ·exact hs.sep o h.1 hf
  ·have:=hs.fz o hf;omega
 ·rcases hinv q k1 h1 gg e2 e1 with ⟨hq,q1,q2⟩|⟨_,rfl,rfl,rfl⟩
  ·by_cases gD:gg.live=true
   ·refine (hs.obj q gg k1 h1 q2 q1).mono hle (λo ho=>gG o (hs.lt o ⟨q,gg,k1,h1,q2,gD,q1,ho⟩) (gz q k1 h1 gg o hq q1 q2 gD ho))
   ·cases gg<;>first|exact absurd rfl gD|trivial
  ·exact gO hle
 ·intro q r gg gC k1 h1 k2 h2 o e1 e2 e3 e4 e5 e6 e7 e8;rcases hinv q k1 h1 gg e5 e1 with ⟨r0,q1,q2⟩|⟨r1,_,rfl,rfl⟩<;>rcases hinv r k2 h2 gC e6 e2 with ⟨r3,q3,q4⟩|⟨r2,_,rfl,rfl⟩
  ·exact hs.excl q r gg gC k1 h1 k2 h2 o q2 q4 e3 e4 q1 q3 e7 e8
  ·have h3:=hs.lt o ⟨q,gg,k1,h1,q2,e3,q1,e7⟩;rcases (gI o e8).1 with h|h
   ·exact absurd h (gz q k1 h1 gg o r0 q1 q2 e3 e7)
   ·omega
  ·have h3:=hs.lt o ⟨r,gC,k2,h2,q4,e4,q3,e8⟩;rcases (gI o e7).1 with h|h
   ·exact absurd h (gz r k2 h2 gC o r3 q3 q4 e4 e8)
   ·omega
  ·omega
 ·rcases gE o ho with h|h
  ·exact .inl h.1
  ·exact .inr h.1
 ·by_cases hq:q=p
  ·subst hq;rw[Hu gK]at e2;cases e2;rw[hG]at e1;cases e1;rcases gL with h|h
   ·exact Ma h
   ·exact h.2
  ·rw[Ho (Ne.symm hq),e1]at e2;cases e2;exact Hw _
 ·by_cases hq:q=p
  ·subst hq;rw[Hu gK]at e2;cases e2;rw[hG]at e1;cases e1;rcases gL with h|h
   ·omega
   ·rw[h.1]at gF;cases gF
  ·rw[Ho (Ne.symm hq),e1]at e2;cases e2;have gD:gg.live=true:=by cases gg<;>first|rfl|cases gF
   exact⟨rfl,gG o (hs.lt o ⟨q,gg,k1,h1,e1,gD,e3,e4⟩) (gz q k1 h1 gg o hq e3 e1 gD e4),by dsimp only;rw[Ho (Ne.symm hq)]⟩
end
section
def Yu(n:Int):Un .u64 n=n%18446744073709551616:=by
 rw[bg];rfl
def wr(n:Int):Un .u8 n=n%256:=by
 rw[bg];rfl
def Y8{n:Int}(h:Tk n):Un .i64 n=n:=by
 rw[bg];obtain⟨g,j⟩:=h;show (if (true&&decide (n%18446744073709551616 ≥ 9223372036854775808))=true then n%18446744073709551616-18446744073709551616 else n%18446744073709551616)=n;simp only[Lh,Hz];split<;>omega
def nu(a b:Int):Y6 a b=decide (a=b):=by
 rw[yh,Je];simp
def Uf(a b:Int):xw a b=decide (a<b):=vd a b
def wg(a b:Int):(!(decide (b<a)))=decide (a≤b):=by
 rw[Je];simp
def Z1(x:UInt64):Nat.blt x.toNat (Uz .u64)=true:=by
 have:=x.toNat_lt;unfold Nat.blt;exact Hy (by show x.toNat+1≤2*9223372036854775808;omega)
def fq(x:UInt8):Nat.blt x.toNat (Uz .u8)=true:=by
 have:=x.toNat_lt;unfold Nat.blt;exact Hy (by show x.toNat+1≤2*128;omega)
variable {c : Cx} {K : LV → Prop}
def AR.u'{x:UInt64}{n:Int}(h:n=Int.ofNat x.toNat):AR c (.u x) (.int .u64 n):=by subst h;exact .u x
def AR.b'{x:UInt8}{n:Int}(h:n=Int.ofNat x.toNat):AR c (.b x) (.int .u8 n):=by subst h;exact .b x
def AR.bool'{x y:Bool}(h:y=x):AR c (.bool x) (.bool y):=by subst h;exact .bool y
def zm2(a b:UInt64):decide (Int.ofNat a.toNat=Int.ofNat b.toNat)=decide (a=b):=by
 rw[Je];simp only[Hz];constructor
 ·intro h;exact Jd.1 (Int.ofNat.inj h)
 ·intro h;rw[h]
def zgq(a b:UInt64):decide (Int.ofNat a.toNat<Int.ofNat b.toNat)=decide (a<b):=by
 rw[Je];simp only[Hz,I6];exact Int.ofNat_lt
def zu9(a b:UInt64):decide (Int.ofNat a.toNat≤Int.ofNat b.toNat)=decide (a≤b):=by
 rw[Je];simp only[Hz,J5];exact Int.ofNat_le
def ztd(a b:UInt8):decide (Int.ofNat a.toNat=Int.ofNat b.toNat)=decide (a=b):=by
 rw[Je];simp only[Hz];constructor
 ·intro h;exact UInt8.toNat_inj.1 (Int.ofNat.inj h)
 ·intro h;rw[h]
def ztr(a b:UInt8):decide (Int.ofNat a.toNat<Int.ofNat b.toNat)=decide (a<b):=by
 rw[Je];simp only[Hz,UInt8.lt_iff_toNat_lt];exact Int.ofNat_lt
def ztf(a b:UInt8):decide (Int.ofNat a.toNat≤Int.ofNat b.toNat)=decide (a≤b):=by
 rw[Je];simp only[Hz,UInt8.le_iff_toNat_le];exact Int.ofNat_le
def Q4(c:Cx)(K:LV→Prop)(r:Option AV):Prop:=∃v a,r=some a∧AR c v a∧K v
def Q4.mk{v:LV}{a:AV}(h:AR c v a)(k:K v):Q4 c K (some a):=⟨v,a,rfl,h,k⟩
def x5(a:UInt64)(s:Nat):Un .u64 (.ofNat (Nat.mul a.toNat (Nat.pow 2 (Py s (IntKind.bits .u64)))))=Int.ofNat (Q3 a s).toNat:=by
 rw[Yu];have hm:Py s (IntKind.bits .u64)=min s 64:=by
  unfold Py;by_cases h:s≤64
  ·rw[show Nat.ble s (IntKind.bits .u64)=true from Hy h];simp[Ju h]
  ·have:Nat.ble s (IntKind.bits .u64)=false:=by
    cases g:Nat.ble s (IntKind.bits .u64) with
    |false=>rfl
    |true=>exact absurd (H6 g) h
   rw[this];simp only[IntKind.bits];omega
 rw[hm];rw[ew,I5];show (Int.ofNat (a.toNat*2^min s 64))%18446744073709551616=Int.ofNat (a.toNat*2^s%2^64);by_cases h:s≤64
 ·rw[Ju h];rfl
 ·rw[Nat.min_eq_right J];have e:2^s=2^64*2^(s-64):=by rw[←Lw];congr 1;omega
  have:a.toNat*2^s%2^64=0:=by
   rw[e,←Kx,Ka a.toNat,Kx,Nat.mul_mod_right]
  rw[this];have j:a.toNat*2^64%2^64=0:=Nat.mul_mod_left _ _;show Int.ofNat (a.toNat*2^64%2^64)=0;rw[j];rfl
def wv(a:UInt64)(s:Nat):Int.ofNat (Nat.div a.toNat (Nat.pow 2 (Py s (IntKind.bits .u64))))=Int.ofNat (P8 a s).toNat:=by
 have hm:Py s (IntKind.bits .u64)=min s 64:=by
  unfold Py;by_cases h:s≤64
  ·rw[show Nat.ble s (IntKind.bits .u64)=true from Hy h];simp[Ju h]
  ·have:Nat.ble s (IntKind.bits .u64)=false:=by
    cases j:Nat.ble s (IntKind.bits .u64) with
    |false=>rfl
    |true=>exact absurd (H6 j) h
   rw[this];simp only[IntKind.bits];omega
 rw[hm];rw[bi,I5];have g:=a.toNat_lt;show Int.ofNat (a.toNat/2^min s 64)=Int.ofNat (a.toNat/2^s%2^64);have z:a.toNat/2^s%2^64=a.toNat/2^s:=In (Nat.lt_of_le_of_lt (L7 _ _) g);rw[z];by_cases h:s≤64
 ·rw[Ju h]
 ·rw[Nat.min_eq_right J,K8 g];rw[K8 (Il g (K0 J J))]
def uuL_ok{op:BinOp}{t:TypeId}{a b:UInt64}(h:Ut op a b K):Q4 c K (Pa B op Q t (.int .u64 (Int.ofNat a.toNat)) (.int .u64 (Int.ofNat b.toNat))):=by
 have E:Yd .u64 .u64=true:=rfl;have j:=a.toNat_lt;have g:=b.toNat_lt;cases op<;>simp only[Ut,T5,Xg,zhb,rv,zet,bm,gl,ni,zz7]at h<;>simp only[Pa,E,zrf,Z6,zoz,Z1]
 case add=>exact .mk (.u' (by rw[Yu,Jm];rfl)) h
 case sub =>
  refine .mk (.u' ?_) h;rw[Yu,K6];show (Int.ofNat a.toNat-Int.ofNat b.toNat)%_=((2^64-b.toNat+a.toNat)%2^64:Nat);simp only[Ik];omega
 case mul=>exact .mk (.u' (by rw[Yu,Lu];rfl)) h
 case quo =>
  obtain⟨A,C⟩:=h;have D:ki (Int.ofNat b.toNat)=false:=by
   unfold ki;cases z:Nat.beq b.toNat 0 with
   |false=>exact z
   |true=>exact absurd (Jd.1 (H0 z)) A
  simp only[D];refine .mk (.u' ?_) C;rw[Yu,UInt64.toNat_div];show (Int.tdiv (Int.ofNat a.toNat) (Int.ofNat b.toNat))%_=Int.ofNat (a.toNat/b.toNat);have:Int.tdiv (Int.ofNat a.toNat) (Int.ofNat b.toNat)=Int.ofNat (a.toNat/b.toNat):=rfl;rw[this];exact Jx (Ja _) (by have:=L7 a.toNat b.toNat;simp only[Ik];omega)
 case rem =>
  obtain⟨A,C⟩:=h;have D:ki (Int.ofNat b.toNat)=false:=by
   unfold ki;cases z:Nat.beq b.toNat 0 with
   |false=>exact z
   |true=>exact absurd (Jd.1 (H0 z)) A
  simp only[D];exact .mk (.u' (by rw[UInt64.toNat_mod];rfl)) C
 case and =>
  refine .mk (.u' ?_) h;rw[Yu,UInt64.toNat_and];have:a.toNat &&& b.toNat<2^64:=Nat.and_lt_two_pow _ g;exact Jx (Ja _) Ct
 case or =>
  refine .mk (.u' ?_) h;rw[Yu,UInt64.toNat_or];have:a.toNat ||| b.toNat<2^64:=Nat.or_lt_two_pow j g
  exact Jx (Ja _) Cs
 case xor =>
  refine .mk (.u' ?_) h;rw[Yu,UInt64.toNat_xor];have:a.toNat ^^^ b.toNat<2^64:=Nat.xor_lt_two_pow j g;exact Jx (Ja _) (by show Int.ofNat (a.toNat ^^^ b.toNat)<_;simp only[Ik];omega)
 case andNot =>
  refine .mk (.u' ?_) h;have e:Nat.xor a.toNat (Nat.land a.toNat b.toNat)=(a &&& ~~~b).toNat:=by
   show a.toNat ^^^ (a.toNat &&& b.toNat)=_;rw[UInt64.toNat_and,UInt64.toNat_not];refine Nat.eq_of_testBit_eq λi=>?_
   rw[Nat.testBit_xor,Nat.testBit_and,Nat.testBit_and];have:(UInt64.size-1-b.toNat).testBit i=(decide (i<64) && !b.toNat.testBit i):=by
    have:=Nat.testBit_two_pow_sub_succ g i;rw[show UInt64.size-1-b.toNat=2^64-(b.toNat+1) from by show 18446744073709551616-1-b.toNat=_;omega,this]
   rw[this];by_cases hi:i<64
   ·simp[hi];cases a.toNat.testBit i<;>cases b.toNat.testBit i<;>rfl
   ·have:a.toNat.testBit i=false:=Nat.testBit_lt_two_pow (Il j (K0 J J));simp[this]
  rw[e,Yu];exact Jx (Ja _) (by have:=(a &&& ~~~b).toNat_lt;simp only[Ik];omega)
 case shl=>exact .mk (.u' (x5 a b.toNat)) h
 case shr=>exact .mk (.u' (wv a b.toNat)) h
 case eql=>exact .mk (.bool' (by rw[nu,zm2])) h
 case neq=>exact .mk (.bool' (by rw[nu,zm2];simp)) h
 case lss=>exact .mk (.bool' (by rw[Uf,zgq])) h
 case leq=>exact .mk (.bool' (by rw[Uf,wg,zu9])) h
 case gtr=>exact .mk (.bool' (by rw[Uf,zgq])) h
 case geq=>exact .mk (.bool' (by rw[Uf,wg,zu9])) h
def bbL_ok{op:BinOp}{t:TypeId}{a b:UInt8}(h:bbL op a b K):Q4 c K (Pa B op Q t (.int .u8 (Int.ofNat a.toNat)) (.int .u8 (Int.ofNat b.toNat))):=by
 have z:Yd .u8 .u8=true:=rfl;have j:=a.toNat_lt;have g:=b.toNat_lt;cases op<;>simp only[bbL,pz,rk,pj,orB_eq]at h<;>simp only[Pa,z,zrf,Z6,fq]
 case add=>exact .mk (.b' (by rw[wr,UInt8.toNat_add];rfl)) h
 case sub =>
  refine .mk (.b' ?_) h;rw[wr,UInt8.toNat_sub];show (Int.ofNat a.toNat-Int.ofNat b.toNat)%_=((2^8-b.toNat+a.toNat)%2^8:Nat);simp only[Ik];omega
 case and =>
  refine .mk (.b' ?_) h;rw[wr,UInt8.toNat_and];have:a.toNat &&& b.toNat<2^8:=Nat.and_lt_two_pow _ g;exact Jx (Ja _) Ct
 case or =>
  refine .mk (.b' ?_) h;rw[wr,UInt8.toNat_or];have:a.toNat ||| b.toNat<2^8:=Nat.or_lt_two_pow j g
  exact Jx (Ja _) Cs
 case eql=>exact .mk (.bool' (by rw[nu,ztd])) h
 case neq=>exact .mk (.bool' (by rw[nu,ztd];simp)) h
 case lss=>exact .mk (.bool' (by rw[Uf,ztr])) h
 case leq=>exact .mk (.bool' (by rw[Uf,wg,ztf])) h
 case gtr=>exact .mk (.bool' (by rw[Uf,ztr])) h
 case geq=>exact .mk (.bool' (by rw[Uf,wg,ztf])) h
def AR.i'{x n:Int}(h:n=x):AR c (.i x) (.int .i64 n):=by subst h;exact .i n
def znr{b:Int}(h:b≠0):ki b=false:=by
 unfold ki;split
 ·rename_i n;cases g:Nat.beq n 0 with
  |false=>rfl
  |true=>exact absurd (by rw[H0 g];rfl) h
 ·rfl
def znl{t:TypeId}{a:Int}{k:IntKind}{s:Int}(g:0≤a)(j:0≤s)(z:s≤64) :
  Pa B .shl Q t (.int .i64 a) (.int k s)=some (.int .i64 (Un .i64 (a*2^s.toNat)))∧Pa B .shr Q t (.int .i64 a) (.int k s)=some (.int .i64 (a/2^s.toNat)):=by
 obtain⟨x,rfl⟩:=Hr g;obtain⟨y,rfl⟩:=Hr j;have hm:Py y (IntKind.bits .i64)=y:=by
  unfold Py;rw[show Nat.ble y (IntKind.bits .i64)=true from Hy (by simp only[IntKind.bits];omega)]
 constructor
 ·show some (AV.int .i64 (Un .i64 (.ofNat (Nat.mul x (Nat.pow 2 (Py y (IntKind.bits .i64)))))))=_;rw[hm]
  congr 3
 ·show some (AV.int .i64 (.ofNat (Nat.div x (Nat.pow 2 (Py y (IntKind.bits .i64))))))=_;rw[hm]
  congr 2
def iiL_ok{op:BinOp}{t:TypeId}{a b:Int}(h:Vv op a b K):Q4 c K (Pa B op Q t (.int .i64 a) (.int .i64 b)):=by
 have G:Yd .i64 .i64=true:=rfl;cases op<;>simp only[Vv]at h
 case shl =>
  obtain⟨g,A,j,C,z⟩:=h;rw[(znl g A j).1,Y8 C];exact .mk (.i _) z
 case shr =>
  obtain⟨g,A,j,z⟩:=h;rw[(znl g A j).2];exact .mk (.i _) z
 all_goals simp only[Pa,G,zrf]
 case and =>
  obtain⟨g,A,j,C,z⟩:=h;obtain⟨x,rfl⟩:=Hr g;obtain⟨y,rfl⟩:=Hr j;have D:Nat.blt x (Uz .i64)=true:=by unfold Nat.blt;exact Hy Ey
  have E:Nat.blt y (Uz .i64)=true:=by unfold Nat.blt;exact Hy Ew
  have F:x &&& y<2^63:=Nat.and_lt_two_pow _ J;show Q4 c K (Z6 Nat.land .i64 (.ofNat x) (.ofNat y));simp only[Z6,D,E];exact .mk (.i' (Y8 ⟨Bv,Ev⟩)) z
 case or =>
  obtain⟨g,A,j,C,z⟩:=h;obtain⟨x,rfl⟩:=Hr g;obtain⟨y,rfl⟩:=Hr j;have D:Nat.blt x (Uz .i64)=true:=by unfold Nat.blt;exact Hy Ey
  have E:Nat.blt y (Uz .i64)=true:=by unfold Nat.blt;exact Hy Ew
  have F:x ||| y<2^63:=Nat.or_lt_two_pow J J
  show Q4 c K (Z6 Nat.lor .i64 (.ofNat x) (.ofNat y));simp only[Z6,D,E];exact .mk (.i' (Y8 ⟨Bv,Ev⟩)) z
 case add=>exact .mk (.i' (Y8 h.1)) h.2
 case sub=>exact .mk (.i' (Y8 h.1)) h.2
 case mul=>exact .mk (.i' (Y8 h.1)) h.2
 case quo=>rw[znr h.1];exact .mk (.i' (Y8 h.2.1)) h.2.2
 case rem=>rw[znr h.1];exact .mk (.i _) h.2
 case eql=>exact .mk (.bool' (by rw[nu])) h
 case neq=>exact .mk (.bool' (by rw[nu];simp)) h
 case lss=>exact .mk (.bool' (by rw[Uf])) h
 case leq=>exact .mk (.bool' (by rw[Uf,wg])) h
 case gtr=>exact .mk (.bool' (by rw[Uf])) h
 case geq=>exact .mk (.bool' (by rw[Uf,wg])) h
def kkL_ok{op:BinOp}{t:TypeId}{k:IntKind}{a b:Int}(h:kkL op a b K):Q4 c K (Pa B op Q t (.int k a) (.int k b)):=by
 have g:Yd k k=true:=by cases k<;>rfl
 cases op<;>simp only[kkL]at h<;>simp only[Pa,g,zrf]
 case eql=>exact .mk (.bool' (by rw[nu])) h
 case neq=>exact .mk (.bool' (by rw[nu];simp)) h
 case lss=>exact .mk (.bool' (by rw[Uf])) h
 case leq=>exact .mk (.bool' (by rw[Uf,wg])) h
 case gtr=>exact .mk (.bool' (by rw[Uf])) h
 case geq=>exact .mk (.bool' (by rw[Uf,wg])) h
def Wt(a b:List UInt8):(Nat.beq a.length b.length&&Nat.beq (On a) (On b))=decide (a=b):=by
 rw[Je];simp only[Hq,Hz];constructor
 ·rintro⟨g,j⟩;exact packL_inj (H0 g) (H0 j)
 ·intro h;subst h;simp
def AR.str'{l:List UInt8}{n m:Nat}(h1:n=l.length)(h2:m=On l):AR c (.str l) (.str n m):=by subst h1 h2;exact .str l
def ssL_ok{op:BinOp}{t:TypeId}{a b:List UInt8}(h:ssL op a b K):Q4 c K (Pa B op Q t (.str a.length (On a)) (.str b.length (On b))):=by
 cases op<;>simp only[ssL]at h<;>simp only[Pa,zwd]
 case add =>
  have g:Nat.ble (Nat.add a.length b.length) P0=true:=Hy h.1;simp only[g];refine .mk (.str' N ?_) h.2;rw[packL_append];rfl
 case eql=>exact .mk (.bool' (Wt a b)) h
 case neq=>exact .mk (.bool' (by rw[Wt];simp)) h
def zsg{op:BinOp}{t:TypeId}{a b:AV}{r:Bool}(g:Pa B op Q t a b=match op with | .eql=>yesB (Q9 B Q t a b) | .neq=>notB (Q9 B Q t a b)|_=>none)(h:Yt B op Q t a b r K):Q4 c K (Pa B op Q t a b):=by
 rw[g];cases op<;>simp only[Yt]at h
 case eql=>rw[h.1];exact .mk (.bool _) h.2
 case neq=>rw[h.1];exact .mk (.bool _) h.2
end
section
noncomputable def ρA(g:Tr AV):de:=λt=>Mt (M9 t) g
def zs3(g:Tr AV):Up g (ρA g):=λ_ _=>rfl
def Oe{c:Cx}{j:Mq}(g:Nv c j vG){x:Lx}(h:x.ok=true):AR c (x.ev j) (x.r.ev (ρA vG)):=by
 cases x with
 |t i=>exact g i
 |c v=>exact d5 c h
def zu7{c:Cx}{j:Mq}{z:Tr AV}(g:Nv c j z):∀{l:List Lx},l.all Lx.ok=true→ARs c (l.map (·.ev j)) ((tj l).map (·.ev (ρA z)))
 |[],_=>.nil
 |x::l,h=>by
  simp only[J1,Hq]at h;exact .cons (Oe g h.1) (zu7 g h.2)
def n9:Option Lx→Bool
 |none=>true
 |some x=>x.ok
def LOp.ok:LOp→Bool
 |.move x=>x.ok
 |.pick c a b=>c.ok&&a.ok&&b.ok
 |.alloc l=>l.all LV.scal
 |.box x=>x.ok
 |.build cs ps=>cs.all LV.scal&&ps.all (·.2.2.ok)
 |.buildSl _ _ cs ps=>cs.all LV.scal&&ps.all (·.2.2.ok)
 |.load1 x=>x.ok
 |.loadN _ x=>x.ok
 |.store _ x y=>x.ok&&y.ok
 |.nilChk x=>x.ok
 |.bin _ _ _ x y=>x.ok&&y.ok
 |.un _ x=>x.ok
 |.cvInt _ x=>x.ok
 |.cvStr x=>x.ok
 |.cvSame x=>x.ok
 |.cvBytes x=>x.ok
 |.mkFunc _ a b=>a.all Lx.ok&&b.all Lx.ok
 |.mkSl _ z l c=>z.all LV.scal&&l.ok&&c.ok
 |.slStr x lo hi=>x.ok&&n9 lo&&n9 hi
 |.slSl _ x lo hi=>x.ok&&n9 lo&&n9 hi
 |.slSl3 _ x lo hi mx=>x.ok&&n9 lo&&n9 hi&&mx.ok
 |.fieldAddr _ x=>x.ok
 |.field _ _ _ x=>x.ok
 |.ixAddr _ x i=>x.ok&&i.ok
 |.ixStr x i=>x.ok&&i.ok
 |.extract _ x=>x.ok
 |.lenStr x=>x.ok
 |.lenSl x=>x.ok
 |.maxi _ x y=>x.ok&&y.ok
 |.max3 _ x y z=>x.ok&&y.ok&&z.ok
 |.ixAddrArr _ _ x i=>x.ok&&i.ok
 |.ixArr _ _ _ x i=>x.ok&&i.ok
 |.lenArr _ x=>x.ok
 |.appZ _ z s x=>z.all LV.scal&&s.ok&&x.ok
 |.appG _ s x=>s.ok&&x.ok
 |.copy _ d x=>d.ok&&x.ok
 |.clear _ z x=>z.all LV.scal&&x.ok
 |.mkMap0=>true
 |.mkMap1 x=>x.ok
 |.lookup _ z _ x i=>z.cst&&x.ok&&i.ok
 |.mapUpd _ m k v=>m.ok&&k.ok&&v.ok
 |.lenMap x=>x.ok
 |.slArr _ _ x lo hi=>x.ok&&n9 lo&&n9 hi
 |.callV f args=>f.ok&&args.all Lx.ok
def Rj(P:Program)(c:Cx)(G:Mp)(K:LV→Mp→Prop):OR→Prop
 |.no=>False
 |.val B C=>∃z v A,z.H=C∧HSim z A∧Step c G z A∧AR z v B∧K v A
 |.call D j=>∃t g,TgtR c t D∧ARs c g j∧Qn P t g G K
section res
variable {P : Program} {c : Cx} {G : Mp} {K : LV → Mp → Prop}
def Rj.same(hs:HSim c G){v:LV}{a:AV}(h:AR c v a)(k:K v G):Rj P c G K (.val a c.H):=⟨c,v,G,rfl,hs,.refl c G,h,k⟩
def Rj.ret(hs:HSim c G){r:Option AV}(h:Q4 c (λv=>K v G) r):Rj P c G K (ret1 c.H r):=by
 obtain⟨v,a,rfl,h1,h2⟩:=h;exact .same hs h1 h2
def zdl(c:Cx)(g:List AV) :
  ∃H',newObj c.H g=some (c.H.next,H')∧H'.next=c.H.next+1∧(∀o,o<c.H.next→H'.get o=c.H.get o)∧H'.get c.H.next=some (.cells (Qz g 0 .e) g.length 0 false) :=
 ⟨_,rfl,rfl,λ_ ho=>Heap.get_push_ne _ _ ho,Heap.get_push_same _ _⟩
def zl0(g:HSim c G){l:List LV}(h:ARs c l T)(k:K (.ptr G.length 0) (G++[.cells l 0])):Rj P c G K (Wm c.H T):=by
 obtain⟨z,B,F,A,C⟩:=zdl c T;unfold Wm;rw[B];have j:CxLe c ⟨c.hd++[(0,.ptr c.H.next 0 0)],c.Fz,z⟩:=⟨λp k x e=>⟨k,x,Di,Hw _,λ_=>rfl,λ_=>rfl⟩,λo ho=>⟨ho,A o (g.fz o ho)⟩⟩;obtain⟨D,E,_⟩:=g.push (H':=z) (x:=.ptr c.H.next 0 0) (ob:=.cells l 0) J A (λo e=>by cases e;omega)
  ⟨rfl,c.H.next,_,T,rfl,by rw[h.length];exact C,by rw[h.length];exact z67 T,h.mono j⟩
 exact⟨_,.ptr G.length 0,_,rfl,D,E,.ptr (by rw[←g.len];exact Ie),k⟩
def rj(j:HSim c G){l:List LV}{len esz:Nat}{room:Option Nat}(h:ARs c l T)(A:l.length=len*esz)(C:∀r,room=some r→r=len)(k:K (.dy G.length 0) (G++[.dyn l len esz 0 0])) :
  Rj P c G K (match newObj c.H T with
   |some (o,H')=>.val (.sl o 0 0 len esz room) H'
   |none=>.no):=by
 obtain⟨H',D,I,B,E⟩:=zdl c T;rw[D];have z:CxLe c ⟨c.hd++[(0,.sl c.H.next 0 0 len esz room)],c.Fz,H'⟩:=⟨λp k x e=>⟨k,x,Di,Hw _,λ_=>rfl,λ_=>rfl⟩,λo ho=>⟨ho,B o (j.fz o ho)⟩⟩;have g:T.length=len*esz:=by rw[←h.length];exact A
 obtain⟨F,H,_⟩:=j.push (H':=H') (x:=.sl c.H.next 0 0 len esz room) (ob:=.dyn l len esz 0 0) J B (λo e=>by cases e;omega)
  ⟨rfl,A,.inr ⟨c.H.next,0,room,_,T.length,T,rfl,E,J,by rw[←g];exact z67 T,h.mono z,λr e=>by rw[C r e];exact⟨g,Hw _⟩,λ_=>g⟩⟩
 exact⟨_,.dy G.length 0,_,rfl,F,H,.dy (h:=.sl c.H.next 0 0 len esz room) (by rw[←j.len];exact Ie) (Hw _) (λ_=>rfl) rfl,k⟩
def zm0(j:HSim c G){p o st:Nat}{l:List LV}(z:G[p]?=some (.cells l st))(e:c.hd[p]?=some (0,.ptr o 0 0)) :
  ∃t g,c.H.get o=some (.cells t l.length 0 false)∧R8 t 0 l.length=some g∧ARs c l g:=by
 obtain⟨_,D,t,g,he,A,B,C⟩:=j.obj p _ _ _ z e;injection he with he
 subst he;exact⟨t,g,A,B,C⟩
def c7(E:HSim c G){p k o v len esz st:Nat}{room:Option Nat}{l:List LV}(F:G[p]?=some (.dyn l len esz A st))(e:c.hd[p]?=some (k,.sl o v 0 g j room)) :
  k=A∧l.length=len*esz∧g=len∧j=esz∧∃t z B,c.H.get o=some (.cells t z v false)∧len*esz≤z∧R8 t 0 (len*esz)=some B∧ARs c l B ∧
   (∀r,room=some r→z=r*esz∧len≤r)∧(room=none→z=len*esz):=by
 obtain⟨H,I,C⟩:=E.obj p _ _ _ F e;rcases C with ⟨C,_⟩|⟨o',v',D,t,z,B,he,L,M,O,Q,R,T⟩
 ·cases C
 ·injection he with U V e3 X Y Z
  subst U V X Y Z;exact⟨H,I,rfl,rfl,t,z,B,L,M,O,Q,R,T⟩
def zm9(B:HSim c G){x:LV}{a:AV}{n:Nat}{K:List LV→Prop}(C:AR c x a)(h:Wa G x n K):∃o v i j l,a=.ptr o v i∧Qi c.H o v i n=some j∧ARs c l j∧K l:=by
 unfold Wa at h;split at h
 ·rename_i p i;split at h
  ·rename_i l st z;obtain⟨A,g⟩:=h;cases C with
   | @ptr _ _ o e =>
    obtain⟨t,j,O,D,E⟩:=zm0 B z e;exact⟨o,0,i,_,_,rfl,Vn O D (Hw _) A,(E.drop i).take n,g⟩
  ·exact h.elim
 ·rename_i p k i;split at h
  ·rename_i l len Q R st z;obtain⟨T,A,g⟩:=h;cases C with
   | @dptr _ _ _ k' o v gg hh e hk U =>
    have V:=(B.obj p _ _ _ z e).1;obtain⟨X,I,L,F,H⟩:=U J;subst H X;obtain⟨_,r1,_,_,t,M,j,D,E,Y,Z,_⟩:=c7 B z e;exact⟨o,v,gg,_,_,rfl,Vn D Y E J,(Z.drop gg).take n,g⟩
  ·exact h.elim
 ·rename_i l i;obtain⟨A,g⟩:=h;cases C with
  |cptr hf hr hl=>exact⟨_,_,_,_,_,rfl,zlt hr A,(hl.drop i).take n,g⟩
 ·exact h.elim
def zuv(B:HSim c G){x:LV}{a:AV}{K:LV→Prop}(C:AR c x a)(h:Xa G x K):∃o v i w b,a=.ptr o v i∧Qi c.H o v i 1=some [b]∧AR c w b∧K w:=by
 have g:∀{l:List LV} {i:Nat} {v:LV},l[i]?=some v→i+1≤l.length∧(l.drop i).take 1=[v]:=λ{l i v} e=>by
  obtain⟨j,z⟩:=Hm.1 e;refine⟨j,?_⟩;rw[Jb j,z];simp
 have A:Wa G x 1 (λl=>∃v,l=[v]∧K v):=by
  unfold Xa at h;unfold Wa;split at h
  ·split at h
   ·obtain⟨v,j,z⟩:=h;exact⟨(g j).1,v,(g j).2,z⟩
   ·exact h.elim
  ·split at h
   ·obtain⟨D,v,j,z⟩:=h;exact⟨D,(g j).1,v,(g j).2,z⟩
   ·exact h.elim
  ·obtain⟨v,j,z⟩:=h;exact⟨(g j).1,v,(g j).2,z⟩
  ·exact h.elim
 obtain⟨o,v,i,M,l,E,F,H,w,rfl,I⟩:=zm9 B C A;cases H with
 |cons e L=>cases L;exact⟨o,v,i,w,_,E,F,e,I⟩
def zl8{o v i:Nat}{t:Tr AV}{l r:List AV}(z:F.get o=some (.cells t j v false))(_:R8 t 0 g=some l)(C:g≤j)(A:i+r.length≤g) :
  Vc F o v i r=some (F.put o (.cells (Qz r i t) j v false)):=by
 unfold Vc;rw[z];have B:Nat.ble (Nat.add i r.length) j=true:=Hy (by show i+r.length≤j;omega);simp only[It,B]
def zu5{g:Type}:∀{l:List g} {p:Nat} {a:g},l[p]?=some a→l.set p a=l
 |[],_,_,h=>Bn
 |x::l,0,a,h=>by simp at h;subst h;rfl
 |x::l,p+1,a,h=>by simp at h;simp[zu5 h]
def zal(C:HSim c G){x:LV}{a:AV}{l:List LV}{K:Mp→Prop}(hx:AR c x a)(O:ARs c l T)(h:U1 G x l K) :
  ∃o v i H' Q R,a=.ptr o v i∧Vc c.H o v i T=some H'∧Q.H=H'∧HSim Q R∧Step c G Q R∧K R:=by
 have gF:=O.length;unfold U1 at h;split at h
 ·rename_i p i;split at h
  ·rename_i H st g;obtain⟨I,U⟩:=h;cases hx with
   | @ptr _ _ o e =>
    obtain⟨t,D,r2,L,M⟩:=zm0 C g e;have hw:=zl8 (i:=i) (r:=T) r2 L (Hw _) J;obtain⟨V,X,_⟩:=C.upd (k':=0) (x':=.ptr o 0 0) (ob':=.cells (Ns H i l) (st+1)) (H':=c.H.put o (.cells (Qz T i t) H.length 0 false)) g rfl e (Hw _)
     (λY _ E=>Heap.get_put_ne _ _ (λq=>E Ea)) (λY Z=>by cases Z;exact⟨.inl rfl,C.lt o ⟨p,_,_,_,g,rfl,e,rfl⟩⟩) (Hw _) (λ_=>rfl) (λ_=>rfl) (.inl (I4 _))
     (λF=>⟨rfl,o,_,kr D i T,rfl,by rw[zaf I];exact Heap.get_put_same _ _ _,by rw[zaf I];exact zfn L J,(M.lay O i).mono F⟩)
    exact⟨o,0,i,_,_,_,rfl,hw,rfl,V,X,U⟩
  ·exact h.elim
 ·rename_i p k i;split at h
  ·rename_i H len gG gg st g;obtain⟨gH,I,U⟩:=h;cases hx with
   | @dptr _ _ _ k' o v gE hh e hk ha =>
    have gI:=(C.obj p _ _ _ g e).1;obtain⟨hj,j,z,A,gz⟩:=ha J;subst gz hj;obtain⟨gA,r1,gC,gD,t,B,D,L,M,r5,r6,r7,r8⟩:=c7 C g e;subst gC gD;have hw:=zl8 (i:=gE) (r:=T) L r5 M J;obtain⟨V,X,_⟩:=C.upd (k':=k') (x':=.sl o v 0 j z A) (ob':=.dyn (Ns H gE l) j z gg (st+1)) (H':=c.H.put o (.cells (Qz T gE t) B v false)) g rfl e (Hw _)
     (λY _ E=>Heap.get_put_ne _ _ (λq=>E Ea)) (λY Z=>by cases Z;exact⟨.inl rfl,C.lt _ ⟨p,_,_,_,g,rfl,e,rfl⟩⟩) (Hw _) (λ_=>rfl) (λ_=>rfl) (.inl (I4 _))
     (λF=>⟨gA,by rw[zaf I];exact r1,.inr ⟨o,v,A,_,B,kr D gE T,rfl,Heap.get_put_same _ _ _,M,zfn r5 J,(r6.lay O gE).mono F,r7,r8⟩⟩)
    exact⟨o,v,gE,_,_,_,rfl,hw,rfl,V,X,U⟩
  ·exact h.elim
 ·exact h.elim
def o7(I:HSim c G){x:LV}{a:AV}{K:Nat→Prop}(A:AR c x a)(h:lenL G x K):∃n,K n∧(a=.nilSl∧n=0∨a=.emp∧n=0∨∃o v i esz room,a=.sl o v i n esz room):=by
 unfold lenL at h;split at h
 ·cases A;exact⟨0,h,.inl ⟨rfl,rfl⟩⟩
 ·rename_i p k;split at h
  ·rename_i l len esz C st D;obtain⟨E,h⟩:=h;cases A with
   | @dy _ _ R T _ e U F _ =>
    obtain⟨V,X,g⟩:=I.obj p _ _ _ D e;have j:=F J;rcases g with ⟨g,B⟩|⟨o,v,room,t,L,Y,g,_⟩
    ·exact⟨len,h,.inl ⟨j.trans g,B⟩⟩
    ·exact⟨len,h,.inr (.inr ⟨_,_,_,_,_,j.trans g⟩)⟩
  ·exact h.elim
 ·rename_i p k Z len;split at h
  ·rename_i l M esz C st D;obtain⟨E,h⟩:=h;cases A with
   | @vw _ _ _ _ R T _ e U F _ _ =>
    obtain⟨V,X,g⟩:=I.obj p _ _ _ D e;rcases F J with ⟨B,z|z⟩|⟨o,v,O,Q,room,H,_,z,_⟩
    ·exact⟨len,h,.inl ⟨z,B⟩⟩
    ·exact⟨len,h,.inr (.inl ⟨z.1,B⟩)⟩
    ·exact⟨len,h,.inr (.inr ⟨_,_,_,_,_,z⟩)⟩
  ·exact h.elim
 ·cases A with
  |lst=>exact⟨_,h,.inr (.inr ⟨_,_,_,_,_,rfl⟩)⟩
  |lstNil=>exact⟨0,h,.inl ⟨rfl,rfl⟩⟩
  |lstEmp=>exact⟨0,h,.inr (.inl ⟨rfl,rfl⟩)⟩
 ·exact h.elim
def zoj(l:List UInt8)(c:Cx):ARs c (l.map LV.b) ((Vg l.length (On l)).map λ(b:Nat)=>AV.int .u8 (Int.ofNat b)):=by
 rw[unpack_pack]
 induction l with
 |nil=>exact .nil
 |cons b l g=>exact .cons (.b b) g
def zxo(R:HSim c G){x:LV}{a:AV}{K:Nat→List LV→Prop}(D:AR c x a)(h:S7 G g x K):∃n l C,i3 c.H g a=some (n,C)∧ARs c l C∧l.length=n*g∧K n l:=by
 have A:Nat.beq g g=true:=It _;unfold S7 at h;split at h
 ·cases D;exact⟨0,[],[],rfl,.nil,N,h⟩
 ·rename_i p k;split at h
  ·rename_i l len z T st Q;obtain⟨U,rfl,h⟩:=h;cases D with
   | @dy _ _ k' hh _ e hk V _ =>
    obtain⟨r0,X,E⟩:=R.obj p _ _ _ Q e;have F:=V J;rcases E with ⟨E,B⟩|⟨o,v,H,t,I,C,E,B,L,r5,r6,_⟩
    ·subst B;have:l=[]:=Ic (by simpa using X);subst this;exact⟨0,[],[],by rw[F,E];rfl,.nil,N,h⟩
    ·refine⟨len,l,C,?_,r6,X,h⟩;have M:=Vn (i:=0) (n:=len*z) B r5 L J;have Y:C.length=len*z:=by rw[←r6.length];exact X
     rw[F,E];simp only[i3,A];rw[show Nat.mul len z=len*z from rfl,M];simp[H7,Y]
  ·exact h.elim
 ·rename_i p k lo len;split at h
  ·rename_i l gg z T st Q;obtain⟨U,rfl,h1,h⟩:=h;cases D with
   | @vw _ _ _ _ k' hh _ e hk V _ _ =>
    have gA:=(R.obj p _ _ _ Q e).1;rcases V J with ⟨B,L⟩|⟨o,v,gz,j,H,Z,B,L,_⟩
    ·subst B;refine⟨0,_,[],?_,by simpa using (ARs.nil (c:=c)),N,h⟩;rcases L with rfl|⟨rfl,_⟩<;>rfl
    ·subst B;obtain⟨_,q1,q2,q3,t,I,C,q4,q5,q6,q7,_⟩:=c7 R Q e;subst q2 q3;have M:=Vn (i:=lo*j) (n:=len*j) q4 q6 q5 J;refine⟨len,_,_,?_,(q7.drop (lo*j)).take (len*j),Ab,h⟩;rw[L];simp only[i3,A];rw[show Nat.mul len j=len*j from rfl,M]
  ·exact h.elim
 ·rename_i l len z;obtain⟨rfl,h⟩:=h;cases D with
  |lst hf gC O M hl =>
   refine⟨len,l,_,?_,hl,O,h⟩;simp only[i3,A];rw[show Nat.mul len z=len*z from rfl,M]
  |lstNil=>exact⟨0,[],[],rfl,.nil,N,h⟩
  |lstEmp=>exact⟨0,[],[],rfl,.nil,N,h⟩
 ·rename_i l;obtain⟨rfl,h⟩:=h;cases D;refine⟨l.length,_,_,?_,zoj l c,N,h⟩;simp[i3]
 ·exact h.elim
end res
end
section
section res
variable {P : Program} {c : Cx} {G : Mp} {K : LV → Mp → Prop}
def zvq(j:HSim c G)(k:K (.dy G.length 0) (G++[.dyn [] 0 g 0 0])):Rj P c G K (.val .nilSl c.H):=by
 obtain⟨z,A,_⟩:=j.push (H':=c.H) (x:=.nilSl) (ob:=.dyn [] 0 g 0 0) (Hw _) (λ_ _=>rfl) (λo e=>Aq) ⟨rfl,N,.inl ⟨rfl,rfl⟩⟩;exact⟨⟨c.hd++[(0,.nilSl)],c.Fz,c.H⟩,.dy G.length 0,_,rfl,z,A,.dy (h:=.nilSl) (by rw[←j.len];exact Ie) (Hw _) (λ_=>rfl) rfl,k⟩
def ztg(hs:HSim c G){p k:Nat}{a:AV}{n:Nat}(ha:AR c (.dy p k) a)(hn:ARs c D T)(hl:D.length=n*g)(h:Ow G g (.dy p k) n D K):Rj P c G K (V5 c.H g a n T):=by
 have Q:=hn.length;unfold Ow at h;dsimp only at h;split at h
 ·rename_i l len j Z st hg;obtain⟨jg,⟨rfl,gD⟩,gE,h⟩:=h;have gP:p<c.hd.length:=by rw[hs.len];exact (Hm.1 hg).1
  cases ha with
  | @dy _ _ k' X _ e hk gQ gR =>
   obtain⟨r0,r1,A⟩:=hs.obj p _ _ _ hg e;have gg:=gQ J;have F:∀{H':Heap} {x':AV},c.H.next≤H'.next→(∀o,o<c.H.next→Nl X≠some o→H'.get o=c.H.get o)→(∀o,Nl x'=some o→(Nl X=some o∨c.H.next≤o)∧o<H'.next)→ow x'=true→Yz X=false →
     (CxLe c ⟨c.hd.set p (k'+1,x'),c.Fz,H'⟩→yx ⟨c.hd.set p (k'+1,x'),c.Fz,H'⟩ (k'+1) x' (.dyn (l++D) (len+n) j (Z+1) (st+1)))→Rj P c G K (.val x' H'):=by
    intro H' x' h1 h2 h3 h4 h5 h6;obtain⟨q1,q2,_⟩:=hs.upd (k':=k'+1) (x':=x') (ob':=.dyn (l++D) (len+n) j (Z+1) (st+1)) (H':=H') hg rfl e h1 h2 h3 (Ly _) (λq=>J) (λq=>by rw[h5]at q;cases q) (.inl (I4 _)) h6;exact⟨_,.dy p (Z+1),_,rfl,q1,q2,.dy (k':=k'+1) (h:=x') (by dsimp only;rw[Hu gP]) J (λ_=>rfl) h4,h⟩
   have C:(l++D).length=(len+n)*j:=by rw[H4,r1,hl,Im]
   unfold V5;cases hb:Nat.beq n 0 with
   |true =>
    have gF:=H0 hb;subst gF;have gG:D=[]:=Ic (by simpa using hl);subst gG;have gH:Yz X=false:=by
     rcases A with ⟨A,_⟩|⟨o,v,E,t,z,H,A,_⟩<;>rw[A]<;>rfl
    have gT:ow X=true:=by rw[←gg];exact gR
    have R:Rj P c G K (.val X c.H):=by
     refine F (Hw _) (λ_ _ _=>rfl) (λo O=>⟨.inl O,hs.lt o ⟨p,_,_,_,hg,rfl,e,O⟩⟩) gT gH (λB=>⟨J,C,?_⟩);simp only[I9,Kr];rcases A with ⟨A,I⟩|⟨o,v,E,t,z,H,A,I,r4,r5,r6,r7,r8⟩
     ·exact .inl ⟨A,I⟩
     ·exact .inr ⟨o,v,E,t,z,H,A,I,r4,r5,r6.mono B,r7,r8⟩
    rw[gg];rcases A with ⟨A,I⟩|⟨o,v,E,t,z,H,A,I,r4,r5,r6,r7,r8⟩
    ·rw[A]at R ⊢;exact R
    ·rw[A]at R ⊢;exact R
   |false =>
    have gF:n≠0:=λq=>by rw[q]at hb;cases hb
    rw[gg];rcases A with ⟨A,I⟩|⟨o,v,E,t,z,H,A,I,r4,r5,r6,r7,r8⟩
    ·
     subst I;have gz:l=[]:=Ic Cl;subst gz;rw[A];dsimp only[ag];obtain⟨H',h1,h2,h3,h4⟩:=zdl c T;rw[h1];dsimp only;refine F J (λo ho _=>h3 o ho) (λo O=>by cases O;exact⟨.inr (Hw _),J⟩) rfl El (λB=>⟨J,C,.inr ⟨c.H.next,0,none,_,T.length,T,?_,h4,?_,?_,hn.mono B,λr q=>Fe,λ_=>?_⟩⟩)
     ·simp
     ·rw[Iq];omega
     ·rw[Iq,←hl,Q];exact z67 T
     ·rw[Iq];omega
    ·have gI:o<c.H.next:=hs.lt o ⟨p,_,_,_,hg,rfl,e,El⟩;have gU:H.length=len*j:=Ce
     rw[A];have gV:(Nat.beq j j&&Nat.ble len P0)=true:=by rw[It,show Nat.ble len P0=true from Hy gE];rfl
     dsimp only;rw[gV];dsimp only;have U:Nl X=some o:=El
     have gA:Yz X=false:=El
     have Y:R8 (Qz T (len*j) t) 0 ((len+n)*j)=some (H++T):=by
      have:=zqh (r:=T) r5
      rwa [show len*j+T.length=(len+n)*j from by rw[←Q,hl,Im]]at this
     cases E with
     |some r =>
      obtain⟨V,jA⟩:=r7 r rfl;dsimp only;cases gK:Nat.ble (Nat.add len n) r with
      |true =>
       have L:len+n≤r:=H6 gK;have hm:(len+n)*j≤r*j:=H8 _ L;have gL:(len+n)*j=len*j+n*j:=Im _ _ _;have hw:Vc c.H o v (Nat.add 0 (Nat.mul len j)) T=some (c.H.put o (.cells (Qz T (len*j) t) z v false)):=by
        unfold Vc;rw[I];have e1:Nat.add 0 (Nat.mul len j)=len*j:=Iq _;have gM:Nat.ble (Nat.add (len*j) T.length) z=true:=Hy (by show len*j+T.length≤z;omega);rw[e1];simp only[It,gM]
       dsimp only;rw[hw];dsimp only;refine F (by exact Hw _) (λo' _ gC=>Heap.get_put_ne _ _ (λq=>gC (by rw[q];exact U))) (λo' O=>by cases O;exact⟨.inl U,gI⟩) rfl gA (λB=>⟨J,C,.inr ⟨o,v,some r,_,z,_,rfl,Heap.get_put_same _ _ _,J,Y,(r6.append hn).mono B,λr' q=>by cases q;exact⟨V,L⟩,λq=>Fe⟩⟩)
      |false =>
       have hr:=Vn (i:=0) (n:=len*j) I r5 r4 J;dsimp only;rw[show Nat.mul len j=len*j from rfl,hr];dsimp only[ag];obtain⟨H',h1,h2,h3,h4⟩:=zdl c ((H.drop 0).take (len*j)++T);rw[h1];dsimp only;have gY:(H.drop 0).take (len*j)=H:=by rw[J6,H7 J]
       rw[gY]at h4;have M:(H++T).length=(len+n)*j:=by rw[H4,gU,←Q,hl,Im]
       refine F J (λo' gZ _=>h3 o' gZ) (λo' O=>by cases O;exact⟨.inr (Hw _),J⟩) rfl gA (λB=>⟨J,C,.inr ⟨c.H.next,0,none,_,_,H++T,rfl,h4,J,?_,(r6.append hn).mono B,λr' q=>Fe,λ_=>M⟩⟩);rw[←M];exact z67 _
     |none =>
      have V:=r8 rfl;dsimp only;rw[I];dsimp only;have gL:(len+n)*j=len*j+n*j:=Im _ _ _;have g8:0<n*j:=Nat.mul_pos J gD;have g9:Nat.ble (Nat.add 0 (Nat.mul (Nat.add len n) j)) z=false:=by
       cases hq:Nat.ble (Nat.add 0 (Nat.mul (Nat.add len n) j)) z with
       |false=>rfl
       |true =>
        have:0+(len+n)*j≤z:=H6 hq;omega
      have gO:Nat.beq (Nat.mul len j) z=true:=by rw[V];exact It _
      rw[It,g9,gO,V];dsimp only;have M:Nat.add (len*j) T.length=(len+n)*j:=by show len*j+T.length=_;rw[←Q,hl,gL]
      refine F (by exact Hw _) (λo' _ gC=>Heap.get_put_ne _ _ (λq=>gC (by rw[q];exact U))) (λo' O=>by cases O;exact⟨.inl U,gI⟩) rfl gA (λB=>⟨J,C,.inr ⟨o,v+1,none,_,_,_,rfl,Heap.get_put_same _ _ _,by rw[M];exact Hw _,Y,(r6.append hn).mono B,λr' q=>Fe,λ_=>M⟩⟩)
 ·exact h.elim
def zyv(B:HSim c G){s:LV}{a:AV}{n:Nat}(ha:AR c s a)(R:ARs c D T)(U:D.length=n*g)(h:Ow G g s n D K):Rj P c G K (V5 c.H g a n T):=by
 have gR:=R.length;unfold Ow at h;split at h
 ·
  cases ha;unfold V5;cases X:Nat.beq n 0 with
  |true =>
   have:=H0 X;subst this;have:D=[]:=Ic Cz;subst this;exact zvq B h
  |false =>
   dsimp only[ag];exact rj B R U (λr e=>Aq) h
 ·rename_i p k;exact ztg B ha R U (by unfold Ow;exact h)
 ·rename_i p k lo len;split at h
  ·rename_i l gF Y gM st V;obtain⟨gA,⟨rfl,rfl,gO⟩,C,h⟩:=h;have H:Nat.beq n 0=false:=by
    cases X:Nat.beq n 0 with
    |false=>rfl
    |true=>have:=H0 X;omega
   cases ha with
   | @vw _ _ _ _ k' hh _ e hk Z gG hz =>
    split at h
    case isFalse gg =>
     obtain⟨gC,gH,h1,h2⟩:=h;subst gC;have gI:=(B.obj p _ _ _ V e).1;have M:=hz J rfl;rcases Z J with ⟨I,L⟩|⟨o,v,z,j,E,A,I,L,r9⟩
     ·subst I;rcases L with rfl|⟨_,r5⟩
      ·have gC:l=[]:=Ic (by have:=(B.obj p _ _ _ V e).2.1;simpa using this);subst gC;unfold V5;rw[H];dsimp only[ag];refine rj B R U (λr e=>Aq) ?_;simpa using h2
      ·exact absurd rfl r5
     ·have e2:=e;rw[I]at e2;obtain⟨_,w1,w2,w3,t,F,l',w4,w5,w6,w7,_⟩:=c7 B V e2;subst w2 w3;rw[I,L]at M;dsimp only[Y4]at M;by_cases gK:A=E
      ·refine ztg B (p:=p) (k:=k) (.dy e hk (λ_=>by rw[L,I,gK,Kh]) gG) R U ?_;unfold Ow;dsimp only;rw[V];exact⟨gA,⟨rfl,gH⟩,C,h1⟩
      ·rcases M with M|⟨r,rfl,hr⟩
       ·exact absurd M gK
       have O:(Nat.beq j j&&Nat.ble z P0)=true:=by rw[It,show Nat.ble z P0=true from Hy C];rfl
       have gD:Nat.ble (Nat.add z n) r=false:=by
        cases hq:Nat.ble (Nat.add z n) r with
        |false=>rfl
        |true=>have:z+n≤r:=H6 hq;omega
       rw[L];unfold V5;rw[H];dsimp only;rw[O];dsimp only;rw[gD];dsimp only;have gE:=Vn (i:=0) (n:=z*j) w4 w6 w5 J;rw[show Nat.mul z j=z*j from rfl,show 0*j=0 from Kh _,gE];dsimp only[ag];have Q:=Im z n j;have gP:l.take (z*j)=l:=H7 J;refine rj B ((w7.take _).append R) (by rw[H4,Jp,U];show min (z*j) l.length+n*j=(z+n)*j;omega) (λr e=>Aq) ?_;rw[gP];exact h2
    case isTrue gg =>
     obtain⟨h1,h2⟩:=h;have gI:=(B.obj p _ _ _ V e).1;have Q:(len+n)*Y=len*Y+n*Y:=Im _ _ _;rcases Z J with ⟨I,L⟩|⟨o,v,z,j,E,A,I,L,r9⟩
     ·subst I;rcases L with rfl|⟨_,r5⟩
      ·unfold V5;rw[H];dsimp only[ag];refine rj B R U (λr e=>Aq) ?_;simpa using h2
      ·exact absurd rfl r5
     ·have e2:=e;rw[I]at e2;obtain⟨_,w1,w2,w3,t,F,l',w4,w5,w6,w7,_⟩:=c7 B V e2;subst w2 w3;rw[L];have hw:U1 G (.dptr p k (len*j)) D (λG'=>K (.vw p k 0 (len+n)) G'):=by
       unfold U1;dsimp only;rw[V];exact⟨gA,by rw[U,←Q];exact gg,h1⟩
      obtain⟨o2,v2,i2,H',c',G',u1,u2,u3,u4,u5,u6⟩:=zal B (a:=.ptr o v (len*j)) (.dptr e hk (λ_=>⟨rfl,_,j,E,I⟩)) R hw;cases u1;have gz:(∀r,A=some r→len+n≤r)→Rj P c G K (.val (.sl o v (0*j) (len+n) j A) H'):=λhr=>by
       refine⟨c',.vw p k 0 (len+n),G',u3,u4,u5,AR.mono u5.le (.vw e hk (λ_=>.inr ⟨o,v,_,j,E,A,I,rfl,hr⟩) rfl (λq=>by have:=hz q;rw[L]at this;exact this)),u6⟩
      have O:(Nat.beq j j&&Nat.ble len P0)=true:=D8
      have gL:Nat.add (0*j) (Nat.mul len j)=len*j:=by show 0*j+len*j=_;omega
      have gQ:len*j≤z*j:=by rw[←w1];omega
      unfold V5;rw[H];dsimp only;rw[O];dsimp only;cases A with
      |some r =>
       dsimp only;cases X:Nat.ble (Nat.add len n) r with
       |true =>
        dsimp only;rw[gL,u2];exact gz (λr' e'=>by cases e';exact H6 X)
       |false =>
        dsimp only;have hr:=Vn (i:=0) (n:=len*j) w4 w6 w5 J;rw[show Nat.mul len j=len*j from rfl,show 0*j=0 from Kh _,hr];dsimp only[ag];refine rj B ((w7.take _).append R) Cu (λr e=>Aq) h2
      |none =>
       dsimp only;rw[w4];dsimp only;rw[It,gL];have X:Nat.ble (Nat.add (0*j) (Nat.mul (Nat.add len n) j)) F=true:=Hy (by show 0*j+(len+n)*j≤F;omega);rw[X];dsimp only;rw[u2];exact gz (λr' e'=>by cases e')
  ·exact h.elim
 ·rename_i p k len;split at h
  ·rename_i l gF Y gM st V;obtain⟨gA,⟨rfl,gO⟩,C,gT,h⟩:=h;have H:Nat.beq n 0=false:=by
    cases X:Nat.beq n 0 with
    |false=>rfl
    |true=>have:=H0 X;omega
   cases ha with
   | @vf _ _ _ k' hh _ e hk Z gG =>
    have gI:=(B.obj p _ _ _ V e).1;obtain⟨o,v,z,j,E,I,L⟩:=Z J;have e2:=e;rw[I]at e2;obtain⟨_,w1,w2,w3,t,F,l',w4,w5,w6,w7,_⟩:=c7 B V e2;subst w2 w3;have O:(Nat.beq j j&&Nat.ble len P0)=true:=D8
    have gD:Nat.ble (Nat.add len n) len=false:=by
     cases hq:Nat.ble (Nat.add len n) len with
     |false=>rfl
     |true=>have:len+n≤len:=H6 hq;omega
    rw[L];unfold V5;rw[H];dsimp only;rw[O];dsimp only;rw[gD];dsimp only;have gE:=Vn (i:=0) (n:=len*j) w4 w6 w5 J;rw[show Nat.mul len j=len*j from rfl,gE];dsimp only[ag];have Q:=Im len n j;refine rj B ((w7.take _).append R) Cu (λr e=>Aq) h
  ·exact h.elim
 ·exact h.elim
end res
end
section
section res
variable {P : Program} {c : Cx} {G : Mp} {K : LV → Mp → Prop}
def er{v:LV}{a:AV}(g:v.scal=true)(h:AR c v a):a=toA v:=by
 cases v<;>first|(cases g;done)|(cases h;rfl)
def toAs_scal:∀{l:List LV} {r:List AV},l.all LV.scal=true→ARs c l r→r=toAs l
 |[],_,_,.nil=>rfl
 |v::l,_,h,.cons e g=>by
  simp only[J1,Hq]at h;rw[toAs,←er h.1 e,←toAs_scal h.2 g]
def s8{op:BinOp}{t:TypeId}{x y:LV}{a b:AV}{K:LV→Prop}(z:AR c x a)(A:AR c y b)(h:Sj P op Q t x y K):Q4 c K (Pa P op Q t a b):=by
 unfold Sj at h;split at h
 ·cases z;cases A;exact uuL_ok h
 ·cases z;cases A;exact iiL_ok h
 ·cases z;cases A;exact bbL_ok h
 ·rename_i u v;cases z;cases A;cases op<;>try exact h.elim
  ·simp only[Pa];rw[h.1];exact .mk (.bool _) h.2
  ·simp only[Pa];rw[h.1];exact .mk (.bool _) h.2
 ·rename_i u s;cases z;cases A;cases op<;>try exact h.elim
  ·obtain⟨g,j⟩:=h;obtain⟨n,rfl⟩:=Hr g;exact .mk (.u' (x5 u n)) j
  ·obtain⟨g,j⟩:=h;obtain⟨n,rfl⟩:=Hr g;exact .mk (.u' (wv u n)) j
 ·rename_i u s;cases z;cases A;cases op<;>try exact h.elim
  ·obtain⟨g,j,F,C⟩:=h;rw[(znl (s:=Int.ofNat s.toNat) g (Ja _) (by show (s.toNat:Int)≤64;omega)).1];exact .mk (.i' (Y8 F)) C
  ·obtain⟨g,j,C⟩:=h;rw[(znl (s:=Int.ofNat s.toNat) g (Ja _) (by show (s.toNat:Int)≤64;omega)).2];exact .mk (.i _) C
 ·obtain⟨rfl,h⟩:=h;cases z;cases A;exact kkL_ok h
 ·cases z;cases A;exact ssL_ok h
 ·cases z;cases A;exact zsg B5 h
 ·cases z;cases A;have:∀o v i,Q9 P Q t (.ptr o v i) .nilPtr=Q9 P Q t (.ptr 0 0 0) .nilPtr:=λo v i=>by
   unfold Q9 zlg eqT ie;dsimp only;cases P.underlying t with
   |none=>rfl
   |some d=>cases d<;>rfl
  refine zsg (r:=false) B5 ?_;cases op<;>simp only[Yt]at h ⊢<;>(rw[this];exact h)
 ·cases z;cases A;exact zsg B5 h
 ·cases A;obtain⟨g,j⟩:=h;have D:Q9 P Q t .emp .nilSl=some false∧∀o v i len H E,Q9 P Q t (.sl o v i len H E) .nilSl=some false:=by
   unfold Q9 zlg eqT ie at g ⊢;dsimp only at g ⊢;cases hu:P.underlying t with
   |none=>rw[hu]at g;cases g
   |some d=>rw[hu]at g;cases d<;>first|(cases g;done)|exact⟨rfl,λ_ _ _ _ _ _=>rfl⟩
  have B:∀{a:AV} {b:Bool},Q9 P Q t a .nilSl=some b→(Pa P op Q t a .nilSl=match op with | .eql=>yesB (Q9 P Q t a .nilSl) | .neq=>notB (Q9 P Q t a .nilSl)|_=>none)→(match op with | .eql=>K (.bool b) | .neq=>K (.bool !b)|_=>False)→Q4 c K (Pa P op Q t a .nilSl):=by
   intro a b F C M;rw[C,F];cases op<;>first|exact M.elim|exact .mk (.bool _) M
  cases z with
  |lst T R O U V =>
   refine B (D.2 _ _ _ _ _ _) B5 ?_;cases op<;>first|exact j.elim|exact j.1
  |lstNil =>
   refine B g B5 ?_;cases op<;>first|exact j.elim|exact j.2 rfl
  |lstEmp =>
   refine B D.1 B5 ?_;cases op<;>first|exact j.elim|exact j.1
 ·cases z with
  |agg g=>cases A with
   |agg j =>
    cases op<;>try exact h.elim
    ·obtain⟨b,I,L,e,k⟩:=h;rw[toAs_scal I g,toAs_scal L j];simp only[Pa];rw[e];exact .mk (.bool _) k
    ·obtain⟨b,I,L,e,k⟩:=h;rw[toAs_scal I g,toAs_scal L j];simp only[Pa];rw[e];exact .mk (.bool _) k
 ·exact h.elim
def unL_ok{op:UnOp}{x:LV}{a:AV}{K:LV→Prop}(g:AR c x a)(h:unL op x K):Q4 c K (unA op a):=by
 unfold unL at h;simp only[Xg,zz7]at h;split at h
 ·cases g;exact .mk (.bool _) h
 ·cases g;refine .mk (.u' ?_) h;rename_i u;rw[Yu,K6];show (0-Int.ofNat u.toNat)%_=((2^64-u.toNat+(0:UInt64).toNat)%2^64:Nat);have:=u.toNat_lt;simp only[Ik,UInt64.toNat_zero];omega
 ·cases g;obtain⟨j,z⟩:=h;refine .mk (.i' ?_) z;have e:∀n:Int,Int.sub 0 n=-n:=λn=>by show 0-n=-n;omega
  rw[e];exact Y8 j
 ·cases g;refine .mk (.u' ?_) h;rename_i u;have hu:=u.toNat_lt;show IntKind.wrap .u64 (BitVec.ofInt 64 (IntKind.max .u64) ^^^ BitVec.ofInt 64 (Int.ofNat u.toNat)).toNat=_;have A:BitVec.ofInt 64 (IntKind.max .u64)=BitVec.allOnes 64:=Ad
  have B:BitVec.ofInt 64 (Int.ofNat u.toNat)=u.toBitVec:=by
   apply BitVec.eq_of_toNat_eq;simp
  rw[A,B,BitVec.allOnes_xor];show ((~~~u.toBitVec).toNat:Int)%18446744073709551616=Int.ofNat (~~~u).toNat;have:(~~~u).toNat=(~~~u.toBitVec).toNat:=rfl;rw[this];exact Jx (Ja _) (by have:=(~~~u.toBitVec).isLt;omega)
 ·exact h.elim
def zy6(n:Int):n%18446744073709551616=Int.ofNat (UInt64.ofInt n).toNat:=by
 unfold UInt64.ofInt;rw[I5];simp only[Ik];omega
def zv1(n:Int):n%256=Int.ofNat (UInt8.ofInt n).toNat:=by
 unfold UInt8.ofInt;rw[UInt8.toNat_ofNat'];simp only[Ik];omega
def cvL_ok{k:IntKind}{x:LV}{a:AV}{K:LV→Prop}(g:AR c x a)(h:t7 k x K):∃k' n,a=.int k' n∧∃v,AR c v (.int k (Un k n))∧K v:=by
 unfold t7 at h;simp only[jy,bU_eq,uB_eq,iB_eq]at h;split at h
 ·cases g;rename_i u;refine⟨_,_,rfl,_,.u' ?_,h⟩;rw[Yu];exact Jx (Ja _) Er
 ·cases g;refine⟨_,_,rfl,_,.u' ?_,h⟩;rename_i n;rw[Yu];exact zy6 n
 ·cases g;rename_i u;refine⟨_,_,rfl,_,.u' ?_,h⟩;rw[Yu];have:=u.toNat_lt;rw[I5];show Int.ofNat u.toNat%18446744073709551616=Int.ofNat (u.toNat%2^64);simp only[Ik];omega
 ·cases g;rename_i u;exact⟨_,_,rfl,_,.i' (Y8 ⟨Bv,Bv⟩),h.2⟩
 ·cases g;exact⟨_,_,rfl,_,.i' (Y8 h.1),h.2⟩
 ·cases g;rename_i u;have:=u.toNat_lt;exact⟨_,_,rfl,_,.i' (Y8 ⟨Bv,Bv⟩),h⟩
 ·cases g;rename_i u;refine⟨_,_,rfl,_,.b' ?_,h⟩;rw[wr,UInt8.toNat_ofNat'];show Int.ofNat u.toNat%256=Int.ofNat (u.toNat%2^8);simp only[Ik];omega
 ·cases g;refine⟨_,_,rfl,_,.b' ?_,h⟩;rename_i n;rw[wr];exact zv1 n
 ·cases g;rename_i u;refine⟨_,_,rfl,_,.b' ?_,h⟩;rw[wr];exact Jx (Ja _) Er
 ·cases g;refine⟨_,_,rfl,_,.b' ?_,h⟩;rename_i n;rw[wr];exact zv1 n
 ·cases g;refine⟨_,_,rfl,_,?_,h⟩;rename_i n;have e:Un .i32 n=w32 n:=by
   rw[bg];show (if (true&&decide (n%4294967296 ≥ 2147483648))=true then n%4294967296-4294967296 else n%4294967296)=w32 n;simp only[Lh,Hz,w32];split<;>omega
  rw[e];exact .int .i32 _
 ·cases g;exact⟨_,_,rfl,_,.i' (Y8 h.1),h.2⟩
 ·exact h.elim
def layL_eq:∀(r l:List AV) (i:Nat),i+r.length≤l.length→Tw l i r=kr l i r
 |[],l,i,h=>by
  simp only[Tw,kr,Jo,Kr,I9,Ls]
 |a::r,l,i,h=>by
  simp only[Ig]at h;rw[Tw,layL_eq r (l.set i a) (i+1) Ab];refine Ln (λg=>?_);rw[zhw Ab,zhw Ab];simp only[Ig];by_cases j:i+1≤g∧g<i+1+r.length
  ·rw[Hv j,Hv J,show g-i=(g-(i+1))+1 from J,Ib]
  ·rw[Hs j];by_cases z:g=i
   ·subst z;rw[Hv J,Hu J];simp
   ·rw[Hs J,Ho (Ne.symm z)]
def zmz{Y:Mq}{Z:Tr AV}(F:Nv c Y Z):∀{B:List (Nat×Nat×Lx)} {C l:List LV} {g:List AV},B.all (·.2.2.ok)=true→ARs c C g→sy Y C B=some l→∃D,zr (ρA Z) g (rps B)=some D∧ARs c l D
 |[],C,l,g,_,h,e=>by
  simp only[sy,Option.some.injEq]at e;subst e;exact⟨g,rfl,h⟩
 |(z,j,x)::B,C,l,g,A,h,e=>by
  simp only[J1,Hq]at A;simp only[sy]at e;split at e
  ·cases e
  ·rename_i r I;split at e
   ·rename_i L;obtain⟨M,h2⟩:=L;obtain⟨O,Q,H⟩:=(Oe F A.1).cells I;have E:=H.length;have R:=h.length;obtain⟨D,T,U⟩:=zmz F A.2 (h.lay H z) e;refine⟨D,?_,U⟩;simp only[rps,zr,Q];have V:Nat.beq O.length j=true:=by rw[←E,M];exact It _
    have X:Nat.ble (Nat.add z j) g.length=true:=Hy (by show z+j≤_;omega);simp only[V,X];rw[layL_eq _ _ _ J];exact T
   ·cases e
def U7{D:Mq}(A:Nv c D vG){d:Nat}{x:Option Lx}(j:n9 x=true){K:Nat→Prop}(h:O3 D d x K):∃r n,Pf (ρA vG) (x.map Lx.r)=some r∧r.getD d=n∧K n:=by
 cases x with
 |none=>exact⟨none,d,rfl,rfl,h⟩
 |some x =>
  simp only[O3]at h;have g:=Oe A (show x.ok=true from j);simp only[Jt,Pf];split at h
  ·rename_i n z;obtain⟨B,C⟩:=h;rw[z]at g;generalize x.r.ev (ρA vG)=a at g;cases g;obtain⟨m,rfl⟩:=Hr B;exact⟨some m,m,rfl,rfl,C⟩
  ·rename_i n z;rw[z]at g;generalize x.r.ev (ρA vG)=a at g;cases g;exact⟨some n.toNat,n.toNat,rfl,rfl,h⟩
  ·exact h.elim
end res
end
section
section res
variable {P : Program} {c : Cx} {G : Mp} {K : LV → Mp → Prop}
def X8{d:TypeDesc}{k:LV}{a:AV}{b:Bool}(g:AR c k a)(j:AR c O I)(h:W3 d k O=some b):uc d a I=some b:=by
 unfold W3 at h;split at h
 ·cases g;cases j;cases h;simp only[uc,show Yd .i64 .i64=true from rfl,nu]
 ·cases g;cases j;cases h;simp only[uc,show Yd .u64 .u64=true from rfl,nu,zm2]
 ·cases g;cases j;cases h;simp only[uc,Wt]
 ·cases h
def zv5{d:TypeDesc}{k:LV}{a:AV}(A:AR c k a){K:Option LV→Prop}:∀{B:List (LV×LV×Nat)} {g:List (AV×AV×Nat)},MRs c B g→qz d k K B→(xu d a g=some none∧K none)∨∃v b,xu d a g=some (some b)∧AR c v b∧K (some v)
 |_,_,.nil,h=>.inl ⟨rfl,h⟩
 |(F,C,n)::l,_,.cons j z D,h=>by
  simp only[qz]at h;split at h
  ·rename_i b E;have:=X8 A j E;simp only[xu,this];cases b with
   |true=>exact .inr ⟨C,_,rfl,z,h.1 rfl⟩
   |false=>exact zv5 A D (h.2 rfl)
  ·exact h.elim
def zye{d:TypeDesc}{k v:LV}{a b:AV}{D:Nat}(A:AR c k a)(hv:AR c v b):∀{E:List (LV×LV×Nat)} {j:List (AV×AV×Nat)} {K:List (LV×LV×Nat)→Bool→Prop},MRs c E j→V0 d k v D K E→∃r B g,yq d a b D j=some (B,g)∧MRs c r B∧K r g
 |_,_,K,.nil,h=>⟨_,_,true,rfl,.cons A hv .nil,h⟩
 |(H,I,n)::l,_,K,.cons z C F,h=>by
  simp only[V0]at h;split at h
  ·rename_i t L;have:=X8 A z L;simp only[yq,this];cases t with
   |true=>exact⟨_,_,false,rfl,.cons A hv F,h.1 rfl⟩
   |false =>
    obtain⟨r,B,g,M,O,Q⟩:=zye (K:=λr g=>K ((H,I,n)::r) g) A hv F (h.2 rfl);exact⟨_,_,g,by rw[M],.cons z C O,Q⟩
  ·exact h.elim
def zxe(C:HSim c G){x:LV}{a:AV}(A:AR c x a){K:List (LV×LV×Nat)→Prop}(h:Wk G x K):∃j g,zzj c.H a=some g∧MRs c j g∧K j∧(a=.nilMap∧g=[]∨∃o z,a=.map o∧c.H.get o=some (.map g z)):=by
 unfold Wk at h;split at h
 ·cases A;exact⟨[],[],rfl,.nil,h,.inl ⟨rfl,rfl⟩⟩
 ·rename_i p;split at h
  ·rename_i j z st D;cases A with
   | @map _ o e =>
    obtain⟨_,F,g,he,B,E⟩:=C.obj p _ _ _ D e;injection he with he
    subst he;refine⟨j,g,?_,E,h,.inr ⟨o,z,rfl,B⟩⟩;simp only[zzj,B]
  ·exact h.elim
 ·exact h.elim
def zjn(g:HSim c G)(k:K (.map G.length) (G++[.map [] 0 0])):Rj P c G K (Zv c.H):=by
 unfold Zv;obtain⟨j,z,_⟩:=g.push (H':=c.H.push (.map [] 0)) (x:=.map c.H.next) (ob:=.map [] 0 0) (by show c.H.next≤c.H.next+1;omega) (λo ho=>Heap.get_push_ne _ _ ho) (λo e=>by cases e;exact⟨Hw _,by show c.H.next<c.H.next+1;omega⟩)
  ⟨rfl,c.H.next,[],rfl,Heap.get_push_same _ _,.nil⟩
 exact⟨_,.map G.length,_,rfl,j,z,.map (by rw[←g.len];exact Ie),k⟩
def Zu(B:HSim c G){d:TypeDesc}{m k v:LV}{M:AV}(hm:AR c m I)(T:AR c k vz)(hv:AR c v M)(h:ze G d m k v λU=>K .any U) :
  Rj P c G K (match (generalizing:=false) I with
   |.map o=>match c.H.get o with
    |some (.map O g)=>match yq d vz M g O with
     |some (z,true)=>.val Rh (c.H.put o (.map z (Nat.add g 1)))
     |some (z,false)=>.val Rh (c.H.put o (.map z g))
     |none=>.no
    |_=>.no
   |_=>.no):=by
 unfold ze at h;split at h
 ·rename_i p;split at h
  ·rename_i O ck st C;cases hm with
   | @map _ o e =>
    obtain⟨_,Q,z,he,V,X⟩:=B.obj p _ _ _ C e;injection he with he
    subst he;obtain⟨r,D,E,Y,Z,R⟩:=zye T hv X h;have F:o<c.H.next:=B.lt o ⟨p,_,_,_,C,rfl,e,rfl⟩;have A:∀j,K .any (G.set p (.map r j (st+1)))→Rj P c G K (.val Rh (c.H.put o (.map D j))):=by
     intro j kk;obtain⟨u1,u2,u3⟩:=B.upd (k':=0) (x':=.map o) (ob':=.map r j (st+1)) (H':=c.H.put o (.map D j)) C rfl e (Hw _) (λQ _ H=>Heap.get_put_ne _ _ (λq=>H Ea)) (λQ e'=>by cases e';exact⟨.inl rfl,F⟩) (Hw _) (λ_=>rfl) (λ_=>rfl) (.inl (I4 _))
      (λL=>⟨rfl,o,D,rfl,Heap.get_put_same _ _ _,Z.mono L⟩)
     exact⟨_,.any,_,rfl,u1,u2,.any _,kk⟩
    simp only[V,Y];cases E with
    |true=>exact A _ R
    |false=>exact A _ R
  ·exact h.elim
 ·exact h.elim
def HSim.freeze(hs:HSim c G){p k o st:Nat}{x:AV}{ob:LObj}(hG:G[p]?=some ob)(hl:ob.live=true)(gD:ob.st<st)(hp:c.hd[p]?=some (k,x))(ho:Nl x=some o) :
  HSim ⟨c.hd,λq=>c.Fz q∨q=o,c.H⟩ (G.set p (.dead st))∧Step c G ⟨c.hd,λq=>c.Fz q∨q=o,c.H⟩ (G.set p (.dead st)):=by
 have gE:p<G.length:=(Hm.1 hG).1;have hle:CxLe c ⟨c.hd,λq=>c.Fz q∨q=o,c.H⟩:=⟨λp k h e=>⟨k,h,e,Hw _,λ_=>rfl,λ_=>rfl⟩,λq hq=>⟨.inl hq,rfl⟩⟩;have gA:Oq c G o:=⟨p,ob,k,x,hG,hl,hp,ho⟩;have hinv:∀{q:Nat} {gg:LObj},(G.set p (.dead st))[q]?=some gg→(q=p∧gg=.dead st)∨(q≠p∧G[q]?=some gg):=by
  intro q gg e;by_cases hq:q=p
  ·subst hq;rw[Hu gE]at e;cases e;exact .inl ⟨rfl,rfl⟩
  ·rw[Ho (Ne.symm hq)]at e;exact .inr ⟨hq,e⟩
 have gz:∀q,Oq ⟨c.hd,λq=>c.Fz q∨q=o,c.H⟩ (G.set p (.dead st)) q→Oq c G q∧q≠o:=by
  rintro q ⟨p1,gg,k1,h1,e1,e2,e3,e4⟩;rcases hinv e1 with ⟨_,rfl⟩|⟨gF,e1⟩
  ·cases e2
  ·refine⟨⟨p1,gg,k1,h1,e1,e2,e3,e4⟩,λhq=>gF ?_⟩;subst hq;exact hs.excl p1 p gg ob k1 h1 k x q e1 hG e2 hl e3 hp e4 ho
 refine⟨⟨Dg,λq hq=>hq.elim (hs.fz q) (λe=>by rw[e];exact hs.lt o gA),λq hq=>hs.lt q (gz q hq).1,λq hq hf=>hf.elim (hs.sep q (gz q hq).1) (gz q hq).2,λq gg k1 h1 e1 e2=>?_,?_⟩,⟨hle,Hw _,λ_ _ _=>rfl,λq hq=>.inl (gz q hq).1,λq hq=>hq.elim .inl (λe=>.inr (.inl (by rw[e];exact gA))),λq gg gC e1 e2=>?_,λq gg gC k1 h1 o1 e1 e2 e3 e4 e5 e6=>?_⟩⟩
 ·rcases hinv e1 with ⟨_,rfl⟩|⟨_,e1⟩
  ·trivial
  ·by_cases gG:gg.live=true
   ·exact (hs.obj q gg k1 h1 e1 e2).mono hle (λ_ _=>rfl)
   ·cases gg<;>first|exact absurd rfl gG|trivial
 ·intro q r gg gC k1 h1 k2 h2 o1 e1 e2 e3 e4 e5 e6 e7 e8;rcases hinv e1 with ⟨_,rfl⟩|⟨_,e1⟩
  ·cases e3
  ·rcases hinv e2 with ⟨_,rfl⟩|⟨_,e2⟩
   ·cases e4
   ·exact hs.excl q r gg gC k1 h1 k2 h2 o1 e1 e2 e3 e4 e5 e6 e7 e8
 ·rcases hinv e2 with ⟨rfl,rfl⟩|⟨_,e2⟩
  ·rw[hG]at e1;cases e1;exact Ma gD
  ·rw[e1]at e2;cases e2;exact Hw _
 ·rcases hinv e2 with ⟨rfl,rfl⟩|⟨_,e2⟩
  ·rw[hG]at e1;cases e1;have:ob.st=st:=e6;omega
  ·rw[e1]at e2;cases e2;exact⟨rfl,rfl,rfl⟩
end res
end
end Go.Sv
