/- Texts of the evaluator, of the logic over it, of plain arithmetic. -/
import Derived.Test.YtmnciecehjcjhaaGreatSvG0
import Derived.Orders
import Derived.WalkKit
import Derived.ProofKit
import Derived.OpenShut
set_option linter.unusedSimpArgs false
set_option linter.defProp false
namespace Go.Sv
variable{g j A:Nat}{C:Program}{K vX:World}{M:Bool}{vM:Type}{vH:Array Value}{vG:Option Nat}{uY:List Nat}{uH:Code}{F vU:Heap}{G uO:AV}{Q uV:Tr AV}{V:List AV}{O:CM}
def eqAV_spec:∀(n:Nat) (a b:AV),T5 n a b=true→a=b
 |0,_,_,h=>Ak
 |n+1,a,b,h=>by
  have j:∀(x y:List AV),lg (T5 n) x y=true→x=y:=by
   intro x
   induction x with
   |nil=>intro y g;cases y with
    |nil=>rfl
    |cons _ _=>cases g
   |cons c x z =>
    intro y g;cases y with
    |nil=>cases g
    |cons d y =>
     simp only[lg]at g;split at g
     ·rename_i hc;rw[eqAV_spec n c d hc,z y g]
     ·cases g
  have hn:∀{x y:Nat},Nat.beq x y=true→x=y:=λh=>Kd h
  unfold T5 at h;split at h
  ·simp only[Oa]at h;rw[h]
  ·simp only[J2,z8c,Oa]at h;rw[z81 h.1,h.2]
  ·simp only[J2]at h;rw[hn h.1,hn h.2]
  ·rfl
  ·simp only[J2]at h;rw[hn h.1.1,hn h.1.2,hn h.2]
  ·rfl
  ·simp only[J2,Oa]at h;obtain⟨⟨⟨⟨⟨A,B⟩,C⟩,D⟩,E⟩,F⟩:=h;rw[hn A,hn B,hn C,hn D,hn E,F]
  ·rfl
  ·rfl
  ·rw[hn h]
  ·rfl
  ·simp only[J2]at h;rw[hn h.1.1,j _ _ h.1.2,j _ _ h.2]
  ·simp only[J2]at h;rw[hn h.1.1,j _ _ h.1.2,j _ _ h.2]
  ·rfl
  ·simp only[J2]at h;rw[hn h.1,eqAV_spec n _ _ h.2]
  ·rw[j _ _ h]
  ·rw[j _ _ h]
  ·cases h
def mj(a b g:Nat):(Nat.lor a b).testBit g=(a.testBit g || b.testBit g):=Nat.testBit_or a b g
def z3b(i g:Nat):(2^i).testBit g=decide (i=g):=Nat.testBit_two_pow
def zng{a b:Nat}(h:Nat.beq (Nat.land a b) a=true)(j:Nat)(g:a.testBit j=true):b.testBit j=true:=by
 have e:a &&& b=a:=Kd h;rw[←e,Nat.testBit_and]at g;simp only[J2]at g;exact g.2
def bitsOf_spec:∀{l:List Nat} {t:Nat},t∈l→(zqx l).testBit t=true
 |[],_,h=>Ak
 |a::l,t,h=>by
  simp only[zqx,mj,z3b,Lf,Kb];rcases Ka.1 h with rfl|h
  ·exact .inl rfl
  ·exact .inr (bitsOf_spec h)
def zat{g:List Nat}:∀{l:List Edge} {j:Nat},(zgm g l).testBit j=true↔∃e∈l,Region.binds .any e=true∧(j=e.on∨(g.getD e.on 0).testBit j=true)
 |[],j=>by simp[zgm]
 |e::l,j=>by
  simp only[zgm];split
  ·rename_i hb;simp only[mj,z3b,Lf,Kb,zat,Ka,exists_eq_or_imp,hb,true_and];constructor
   ·rintro ((h|h)|h)
    ·exact .inl (.inl h.symm)
    ·exact .inl (.inr h)
    ·exact .inr h
   ·rintro ((h|h)|h)
    ·exact .inl (.inl h.symm)
    ·exact .inl (.inr h)
    ·exact .inr h
  ·rename_i hb;simp only[zat,Ka,exists_eq_or_imp,hb,My,false_and,false_or]
def mv{A:Type}{f:A→Bool}:∀{l:List A} {x:A},x∈Qi f l↔x∈l∧f x=true
 |[],x=>by simp[Qi]
 |a::l,x=>by
  simp only[Qi];split
  ·rename_i h;simp only[Ka,mv];constructor
   ·rintro (rfl|z)
    ·exact⟨.inl rfl,h⟩
    ·exact⟨.inr z.1,z.2⟩
   ·rintro⟨rfl|j,g⟩
    ·exact .inl rfl
    ·exact .inr ⟨j,g⟩
  ·rename_i h;simp only[Ka,mv];constructor
   ·rintro⟨j,g⟩;exact⟨.inr j,g⟩
   ·rintro⟨rfl|j,g⟩
    ·rw[h]at g;cases g
    ·exact⟨j,g⟩
def znq{j:Type}{f:j→Bool}:∀{l:List j},Yz f l=true→∀x∈l,f x=true
 |[],_,x,g=>by cases g
 |a::l,h,x,g=>by
  simp only[Yz]at h;split at h
  ·rename_i ha;rcases Ka.1 g with rfl|g
   ·exact ha
   ·exact znq h x g
  ·cases h
structure LOk (P:Program) (ops:Array Oper) (L:List DOp):Prop where
 op:∀x∈L,ops[x.i]?=some x.o∧x.i<ops.size
 all:∀i,i<ops.size→∃x∈L,x.i=i
 inj:∀x∈L,∀y∈L,x.i=y.i→x=y
 cl:∀x∈L,x.c=cls P x.o.op
 lm:∀x∈L,∀t∈Xo ops x.o,x.lm.testBit t=true
 msk:∀x∈L,∀j,x.m.testBit j=true→∃e∈x.o.after.toList,Region.binds .any e=true∧(j=e.on∨∃y∈L,y.i=e.on∧y.m.testBit j=true)
 edge:∀x∈L,∀e∈x.o.after.toList,Region.binds .any e=true→x.m.testBit e.on=true
def zho(j:Program)(ops:Array Oper):∀(l:List Oper) (g:List Nat) (i:Nat) (z:Nat),(S9 j ops l g i).length=l.length∧∀x,(S9 j ops l g i)[z]?=some x →
  x.i=i+z∧l[z]?=some x.o∧x.c=cls j x.o.op∧x.lm=zqx (Xo ops x.o)∧x.m=zgm (g++((S9 j ops l g i).take z).map (·.m)) x.o.after.toList
 |[],g,i,z=>⟨rfl,λx h=>by simp[S9]at h⟩
 |o::l,g,i,0=>⟨Ir,λx h=>by
   simp only[S9,Ks,Option.some.injEq]at h;subst h;exact⟨rfl,rfl,rfl,rfl,N⟩⟩
 |o::l,g,i,z+1=>⟨Ir,λx h=>by
   simp only[S9,Km]at h;obtain⟨E,A,B,C,D⟩:=(zho j ops l _ (i+1) z).2 x h;refine⟨J,Cv,B,C,?_⟩;rw[D];simp[S9]⟩
def dops_ok(E:Program)(ops:Array Oper):LOk E ops (S9 E ops ops.toList [] 0):=by
 have z:=zho E ops ops.toList [] 0;have F:(S9 E ops ops.toList [] 0).length=ops.size:=by rw[(z 0).1];simp
 have hm:∀x∈S9 E ops ops.toList [] 0,∃B,(S9 E ops ops.toList [] 0)[B]?=some x∧x.i=B:=λx j=>by
  obtain⟨B,g⟩:=Mp.1 j;exact⟨B,g,by have:=((z B).2 x g).1;omega⟩
 refine⟨λx j=>?_,λi hi=>?_,λx j y G e=>?_,λx j=>?_,λx j t H=>?_,λx j B g=>?_,λx j e he hb=>?_⟩
 ·obtain⟨B,g,e⟩:=hm x j;obtain⟨_,I,_⟩:=(z B).2 x g;rw[e];have:B<ops.size:=by
   have:=(Jy.1 g).1;omega
  exact⟨Er,this⟩
 ·exact ⟨(S9 E ops ops.toList [] 0)[i]' J, Mm _, by
   have:=((z i).2 _ (J7 J)).1;omega⟩
 ·obtain⟨B,g,D⟩:=hm x j;obtain⟨K,C,L⟩:=hm y G;have:B=K:=J
  subst this;rw[g]at C;cases C;rfl
 ·obtain⟨B,g,D⟩:=hm x j;exact ((z B).2 x g).2.2.1
 ·obtain⟨B,g,D⟩:=hm x j;rw[((z B).2 x g).2.2.2.1];exact bitsOf_spec H
 ·obtain⟨i,hi,D⟩:=hm x j;rw[((z i).2 x hi).2.2.2.2]at g;obtain⟨e,he,hb,h⟩:=zat.1 g;refine⟨e,he,hb,h.imp id λh=>?_⟩;rw[Ok,J0,Lv]at h;cases A:((S9 E ops ops.toList [] 0).take i)[e.on]? with
  |none=>rw[A]at h;simp at h
  |some y =>
   rw[A]at h;have G:=Mp.2 ⟨e.on,A⟩;rw[List.getElem?_take]at A;split at A
   ·exact⟨y,Mp.2 ⟨_,A⟩,by have:=((z e.on).2 y A).1;omega,h⟩
   ·cases A
 ·obtain⟨i,hi,D⟩:=hm x j;rw[((z i).2 x hi).2.2.2.2];exact zat.2 ⟨e,he,hb,.inl rfl⟩
def dstsOk_spec:∀{l:List DOp} {seen:Nat},zpw l seen=true→(∀x∈l,∀d,x.o.dst=some d→seen.testBit d=false)∧∀x∈l,∀y∈l,∀d,x.o.dst=some d→y.o.dst=some d→x=y
 |[],_,_=>⟨λx g=>(by cases g),λx g=>by cases g⟩
 |a::l,seen,h=>by
  simp only[zpw]at h;split at h
  ·rename_i ha;obtain⟨A,B⟩:=dstsOk_spec h;refine⟨λx g d hd=>?_,λx g y z d hd j=>?_⟩
   ·rcases Ka.1 g with rfl|g
    ·rw[ha]at hd;cases hd
    ·exact A x g d hd
   ·rcases Ka.1 g with rfl|g
    ·rw[ha]at hd;cases hd
    ·rcases Ka.1 z with rfl|z
     ·rw[ha]at j;cases j
     ·exact B x g y z d hd j
  ·rename_i C ha;split at h
   ·cases h
   ·rename_i I;obtain⟨A,B⟩:=dstsOk_spec h;have D:∀x∈l,x.o.dst≠some C:=λx g e=>by
     have:=A x g C e;rw[mj,z3b]at this;simp at this
    refine⟨λx g d hd=>?_,λx g y z d hd j=>?_⟩
    ·rcases Ka.1 g with rfl|g
     ·rw[ha]at hd;cases hd;simpa using I
     ·have:=A x g d hd;rw[mj]at this;simp only[Bool.or_eq_false_iff]at this;exact this.2
    ·rcases Ka.1 g with E|F<;>rcases Ka.1 z with G|H
     ·rw[E,G]
     ·subst E;rw[ha]at hd;cases hd;exact absurd j (D y H)
     ·subst G;rw[ha]at j;cases j;exact absurd hd (D x F)
     ·exact B x F y H d hd j
def zf0{x:DOp}:Pp x=true↔x.c=.ch:=by
 unfold Pp;constructor
 ·intro h;split at h
  ·assumption
  ·cases h
 ·intro h;rw[h]
def ziu{x:DOp}:zt9 x=true↔x.c=.quiet:=by
 unfold zt9;constructor
 ·intro h;split at h
  ·assumption
  ·cases h
 ·intro h;rw[h]
def z9u{x:DOp}{l:List DOp}{seen s:Nat}(h:Ry (x::l) seen g=some s):(∀j,x.m.testBit j=true→seen.testBit j=true)∧seen.testBit x.i=false ∧
  ((x.c=.quiet∧Ry l (Nat.lor (2^x.i) seen) g=some s) ∨
   ((x.c=.rd∨x.c=.al)∧(∀j,g.testBit j=true→x.m.testBit j=true)∧Ry l (Nat.lor (2^x.i) seen) g=some s) ∨
   (x.c=.ch∧(∀j,g.testBit j=true→x.m.testBit j=true)∧Ry l (Nat.lor (2^x.i) seen) (Nat.lor (2^x.i) g)=some s)):=by
 simp only[Ry]at h;split at h
 ·cases h
 ·rename_i D;split at h
  ·cases h
  ·rename_i E;refine⟨λj z=>zng D j z,Cm,?_⟩;split at h
   ·rename_i A;exact .inl ⟨ziu.1 A,h⟩
   ·rename_i A;split at h
    ·cases h
    ·rename_i C;split at h
     ·rename_i B;exact .inr (.inr ⟨zf0.1 B,λj z=>zng C j z,h⟩)
     ·rename_i B;refine .inr (.inl ⟨?_,λj z=>zng C j z,h⟩);cases hc:x.c with
      |quiet=>rw[ziu.2 hc]at A;cases A
      |rd=>exact .inl rfl
      |al=>exact .inr rfl
      |ch=>rw[zf0.2 hc]at B;cases B
def topo_seen:∀{l:List DOp} {seen j s:Nat},Ry l seen j=some s→∀A,s.testBit A=true↔(seen.testBit A=true∨∃x∈l,x.i=A)
 |[],seen,j,s,h,A=>by simp only[Ry,Option.some.injEq]at h;subst h;simp
 |x::l,seen,j,s,h,A=>by
  obtain⟨_,_,z⟩:=z9u h;have B:∀g,Ry l (Nat.lor (2^x.i) seen) g=some s→(s.testBit A=true↔(seen.testBit A=true∨∃y∈x::l,y.i=A)):=λg C=>by
   rw[topo_seen C A,mj,z3b];simp only[Lf,Kb,Ka,exists_eq_or_imp];constructor
   ·rintro ((h|h)|h)
    ·exact .inr (.inl h)
    ·exact .inl h
    ·exact .inr (.inr h)
   ·rintro (h|h|h)
    ·exact .inl (.inr h)
    ·exact .inl (.inl h)
    ·exact .inr h
  rcases z with ⟨_,z⟩|⟨_,_,z⟩|⟨_,_,z⟩<;>exact B _ z
def topo_new:∀{l:List DOp} {seen j s:Nat},Ry l seen j=some s→∀x∈l,seen.testBit x.i=false
 |[],_,_,_,_,x,z=>by cases z
 |y::l,seen,j,s,h,x,z=>by
  obtain⟨_,C,A⟩:=z9u h;rcases Ka.1 z with rfl|z
  ·exact C
  ·have B:∀g,Ry l (Nat.lor (2^y.i) seen) g=some s→seen.testBit x.i=false:=λg D=>by
    have:=topo_new D x z;rw[mj]at this;simp only[Bool.or_eq_false_iff]at this;exact this.2
   rcases A with ⟨_,A⟩|⟨_,_,A⟩|⟨_,_,A⟩<;>exact B _ A
def topo_chs:∀{l:List DOp} {seen j s:Nat},Ry l seen j=some s→∀x∈l,x.c≠.quiet→∀D,j.testBit D=true→x.m.testBit D=true
 |[],_,_,_,_,_,z=>by cases z
 |y::l,seen,j,s,h,x,z=>by
  intro C D A;obtain⟨_,E,g⟩:=z9u h;rcases Ka.1 z with rfl|z
  ·rcases g with ⟨e,g⟩|⟨e,B,g⟩|⟨e,B,g⟩
   ·exact absurd e C
   ·exact B D A
   ·exact B D A
  ·rcases g with ⟨e,g⟩|⟨e,B,g⟩|⟨e,B,g⟩
   ·exact topo_chs g x z C D A
   ·exact topo_chs g x z C D A
   ·exact topo_chs g x z C D (by rw[mj,A];simp)
def zqo{z g:List DOp}{p:Nat}:∀x∈xx z g p,x∈z:=λ_ j=>(mv.1 j).1
def zi7{z j:List DOp}:∀{l:List DOp} {p:Nat},(∀x∈l,x∈z)→∀x∈znv z j l p,x∈z
 |[],_,_,_,g=>by cases g
 |c::l,p,h,x,g=>by
  simp only[znv,Ka,Kx]at g;rcases g with rfl|g|g
  ·exact h _ N
  ·exact zqo x g
  ·exact zi7 (λy A=>h y Al) x g
def i1{j:List DOp}:∀x∈zy7 j (Qi Pp j),x∈j:=λx g=>by
 simp only[zy7,Kx]at g;rcases g with g|g
 ·exact zqo x g
 ·exact zi7 (λy z=>(mv.1 z).1) x g
section
open Go.RowKit (Below)
def zql(g:AObj):Prop:=∀z j w o,(∀v,j.f o v=none)→Sl z j w o g
def MkOk(D:Program)(E:CM)(w:World)(z:Sem Next)(v:AV)(A:AObj):Prop :=
 ∃g n B x,z.run D w=.ok (.value x) (w.alloc g)∧∀(j:CM) (id:Nat),E.keep j→j id 0=some ⟨w.heap.size,0,n,B⟩ →
  VR j (S6 id v) x∧∀C,C≤w.heap.size→Sl C j (w.alloc g) id A
def MkR(D:Program)(E:Tr AV)(A:Heap)(j:(Operand→Value)→Sem Next):OR→Prop
 |.no=>True
 |.val v z=>∃g,True∧z=A.push g∧Qf v=some A.next∧zql g∧∀B w C,zow B E C→MkOk D B w (j C) v g
 |.call _ _=>False
def Mk(A:Program)(B:OpF)(g:(Operand→Value)→Sem Next):Prop:=∀j z,MkR A j z g (B.run j z)
def Mk.congr{P:Program}{F:OpF}{nx gg:(Operand→Value)→Sem Next}(h:∀ρ,nx ρ=gg ρ)(s:Mk P F nx):Mk P F gg:=by
 rw[show gg=nx from funext λρ=>(h ρ).symm];exact s
def z69(j:Program)(g:(Operand→Value)→Sem Next):Mk j Qh g:=λ_ _=>trivial
def zdu{l:List AV}{o:Nat}(h:newObj F l=some (o,vU)):True∧True∧o=F.next∧vU=F.push (.cells (T9 l 0 .e) l.length 0 false):=by
 unfold newObj at h;cases h;exact⟨trivial,trivial,rfl,rfl⟩
def zny{l:List AV}(_:True):zql (.cells (T9 l 0 .e) l.length 0 false):=λj z w o hn=>λA g=>by rw[hn]at g;cases g
def yj{w:World}{l:List AV}{t:TypeId}(_hl:True)(hv:VRs O l vH.toList)(H:∀a∈l,a.one=true){E:Sem Next}{v:AV}{x:Value}
  (A:E.run C w=.ok (.value x) (w.alloc (.cells vH t))) (I:∀(z:CM) (id:Nat),z id 0=some ⟨w.heap.size,0,l.length,vH.size⟩→VR z (S6 id v) x) :
  MkOk C O w E v (.cells (T9 l 0 .e) l.length 0 false):=by
 have g:l.length=vH.toList.length:=hv.length;have B:l.length=vH.size:=Be
 refine⟨_,l.length,vH.size,x,A,λz id hk F=>⟨I z id F,λP K=>λQ j=>?_⟩⟩;rw[F]at j;cases j;refine⟨rfl,λ_=>K,B3,vH,t,0,0,wt _ _,J8 _,λi _ _=>J,?_⟩;intro k D;rw[get_ofList l 0 .e k,J6 J];obtain⟨a,v,G,L,M⟩:=hv.get' (i:=k) D;refine⟨a,Ev,H a (Kj G),v,?_,M.mono' hk⟩;simpa using L
def zre{L:Program}{l:List AV}{z:(Operand→Value)→Sem Next}{t:TypeId}
  (g:∀C w B,zow C Q B→∃j:Array Value,VRs C l j.toList∧(∀a∈l,a.one=true)∧(z B).run L w=.ok (.value (.pointer (some ⟨w.heap.size,0,none⟩))) (w.alloc (.cells j t))) :
  MkR L Q F z (Zx F l):=by
 unfold Zx;split
 ·rename_i o M hn;obtain⟨D,A,rfl,rfl⟩:=zdu hn;refine⟨_,D,rfl,rfl,zny A,λC w B E=>?_⟩;obtain⟨j,G,H,I⟩:=g C w B E;refine yj A G H I (λO id K=>?_);simpa [S6] using VR.ptr (i:=0) K
 ·exact trivial
def oj(g:Program)(t:TypeId):Mk g (Qq g (.alloc t)) (λ_=>do pure (.value (←Instr.alloc t true (.tuple #[])))):=by
 intro F j;show MkR g F j _ (OpF.run (match Vl g t with
  |some l=>⟨λ_ j=>Zx j l⟩
  |none=>Qh) F j)
 cases z:Vl g t with
 |none=>exact trivial
 |some l =>
  refine zre (t:=t) (λG w L H=>?_);obtain⟨v,i,A,B,I,K⟩:=z6k (w:=w) z;obtain⟨D,E⟩:=jp (C:=G) B;exact⟨v.cells,D,E,by simp[Instr.alloc,A,newVar,newRow]⟩
def zpf{x:Operand}{f:Heap→AV→OR}{g:(Operand→Value)→Sem Next}(h:∀j z a,(P3 x).run j=some a→MkR C j z g (f z a)):Mk C (So x f) g:=by
 intro j z;show MkR C j z g (Option.rec OR.no (λa=>f z a) ((P3 x).run j));cases A:(P3 x).run j with
 |none=>exact trivial
 |some a=>exact h _ _ _ A
def zx7{x y:Operand}{f:Heap→AV→AV→OR}{j:(Operand→Value)→Sem Next}(h:∀g z a b,(P3 x).run g=some a→(P3 y).run g=some b→MkR C g z j (f z a b)):Mk C (We x y f) j:=by
 intro g z;show MkR C g z j (Option.rec OR.no (λa=>Option.rec OR.no (λb=>f z a b) ((P3 y).run g)) ((P3 x).run g));cases A:(P3 x).run g with
 |none=>exact trivial
 |some a =>
  cases B:(P3 y).run g with
  |none=>exact trivial
  |some b=>exact h _ _ _ _ A B
def box_mk(A:Program)(t:TypeId)(x:Operand):Mk A (Qq A (.box t x)) (λB=>do pure (.value (←Instr.box t (B x)))):=by
 refine zpf λC D a ha=>?_
 cases hc:a.cells with
 |none=>exact trivial
 |some l =>
  refine zre (t:=t) (λE w B g=>?_);obtain⟨j,z⟩:=(g _ _ ha).cells hc;exact⟨_,j,z,by simp[Instr.box,newVar,newRow]⟩
def zvj{H:Program}{C:CM}{w:World}(t:TypeId){l:List AV}{o len esz:Nat}{cs:Array Value}(_hl:True)(hv:VRs C l cs.toList)(E:∀a∈l,a.one=true){cap:Nat}(hc:cap*esz=l.length)(g:len≤cap)
  {B:Sem Next} (z:B.run H w=.ok (.value (.slice (some ⟨w.heap.size,0,none⟩) len cap)) (w.alloc (.cells cs t))):MkOk H C w B (.sl o 0 0 len esz (some cap)) (.cells (T9 l 0 .e) l.length 0 false):=by
 have j:l.length=cs.toList.length:=hv.length;have A:l.length=cs.size:=By
 have D:len*esz≤cap*esz:=Kq _ g;refine yj _hl hv E z (λI id F=>?_);have:=VR.sl (i:=0) (len:=len) (esz:=esz) (room:=some cap) (cap:=cap) F B3 B3 g (λr G=>by cases G;exact⟨rfl,B3⟩) (λh=>Ak);simpa [S6] using this
def zni(G:Program)(t:TypeId)(len:Nat)(j:Array (Nat×Operand)) :
  Mk G (z3u G t len j) (λX=>do pure (.value (←Instr.buildSlice t len (j.map λ(i,x)=>(i,X x))))):=by
 unfold z3u;split
 ·rename_i A hu;split
  ·exact z69 G _
  ·rename_i g F;split
   ·exact z69 G _
   ·rename_i gD Y;split
    ·rename_i z;obtain⟨Z,P⟩:=z;split
     ·exact z69 G _
     ·rename_i ps H;intro gF gG;dsimp only;split
      ·rename_i l hl;split
       ·rename_i o H' hn;obtain⟨n1,Q,rfl,rfl⟩:=zdu hn;refine⟨_,n1,rfl,rfl,zny Q,λC w X hρ=>?_⟩;obtain⟨v,i,h1,h2,h3,h4⟩:=z6k (w:=w) Y;obtain⟨I,k2⟩:=jp (C:=C) h2;have K:v.cells.size=g:=by
         have B:=I.length;unfold Rt at F;rw[h3]at F;simp at F B;omega
        have gg:gD.length=g:=by have B:=I.length;simp at B;omega
        have D:VRs C (Wb gD len) ((Array.range (len*g)).map λi=>v.cells[i%v.cells.size]!).toList:=by
         rw[←K,zck];exact z4o I len
        obtain⟨R,T,U,q3⟩:=z6q H hρ hl D (z4q k2 len);have L:l.length=len*g:=by
         have B:=U.length;have e3:=zit T;simp at e3 B;omega
        refine zvj A Q U q3 L.symm (J8 _) ?_;have V:Instr.fill (λi=>some (i*g,g)) ((Array.range (len*g)).map λi=>v.cells[i%v.cells.size]!) (j.map λ(i,x)=>(i,X x)).toList=some R:=by
         rw[Md];exact T
        have E:¬(len*g>2^24):=J
        simp only[Instr.buildSlice,Sem.run_bind,Qw hu,Ve F,Result.andThen_ok,Sem.run_ite,J1 E];by_cases M:len*g=0
        ·rw[J6 M];have O:Instr.fill (λi=>some (i*g,g)) ((Array.range (len*g)).map λi=>(#[]:Array Value)[i%(#[]:Array Value).size]!) (j.map λ(i,x)=>(i,X x)).toList=some R:=by
          rw[←V,M,zh2,zh2]
         simp only[Sem.run_pure,Result.andThen_ok,O,newRow,Sem.run_bind,run_newObj];rfl
        ·rw[J1 M];simp only[Sem.run_bind,h1,Sem.run_pure,Result.andThen_ok,V,newRow,run_newObj];rfl
       ·exact trivial
      ·exact trivial
    ·exact z69 G _
 ·exact z69 G _
def zwm(A:Program)(t:TypeId)(l c:Operand):Mk A (z8o A t l c) (λO=>do pure (.value (←Instr.makeSlice t (O l) (O c)))):=by
 unfold z8o;split
 ·rename_i g hu;split
  ·exact z69 A _
  ·rename_i i hi;split
   ·exact z69 A _
   ·rename_i gg V;split
    ·rename_i j;obtain⟨P,B⟩:=j;refine zx7 λgD gF a b D E=>?_
     split
     ·rename_i x y;split
      ·rename_i F;split
       ·rename_i X;split
        ·rename_i o H' hn;obtain⟨Y,Q,rfl,rfl⟩:=zdu hn;refine⟨_,Y,rfl,rfl,zny Q,λC w O R=>?_⟩;have ha:=R _ _ D;have hb:=R _ _ E;have z:x≤y:=Ki F;have G:y≤1048576:=Ki X;obtain⟨v,gG,Z,h2,T,h4⟩:=z6k (w:=w) V;obtain⟨U,k2⟩:=jp (C:=C) h2;rw[hi]at T;cases T;have H:v.cells.size=i.size:=by have I:=U.length;simp at I;omega
         generalize K:O l=pl at ha;generalize L:O c=pc at hb;cases ha;cases hb;refine zvj g Q (cs:=(Array.range (y*i.size)).map λk=>v.cells[k%v.cells.size]!) (by rw[←H,zck];exact z4o U y) (z4q k2 y) (by rw[z65,h4]) z ?_;have I:IntKind.i64.wrap (Int.ofNat x)=Int.ofNat x:=Au
         have e2:IntKind.i64.wrap (Int.ofNat y)=Int.ofNat y:=Au
         have e3:i.bytes*y≤65536*1048576:=Mb B G;have e4:¬((decide (Int.ofNat y<0) || decide ((i.bytes:Int)*Int.ofNat y>2^48) || decide (Int.ofNat x<0) || decide (Int.ofNat x>Int.ofNat y))=true):=by
          have e5:((i.bytes:Int)*Int.ofNat y)=((i.bytes*y:Nat):Int):=N
          rw[e5];simp only[Lf,Kb,not_or];refine⟨⟨⟨N,Ab⟩,N⟩,Ab⟩
         simp only[Instr.makeSlice,K,L,Sem.run_bind,Qw hu,z6b hi,asInt,asIntOf,Sem.run_pure,Result.andThen_ok,I,e2,Sem.run_ite,J1 e4,run_askRoom,Ve (show Rt A g=some i.size from Ik)];have e6:(Int.ofNat y).toNat=y:=rfl;have e7:(Int.ofNat x).toNat=x:=rfl;rw[e6,e7];by_cases M:y*i.size=0
         ·rw[J6 M];simp only[Sem.run_pure,Result.andThen_ok,newRow,Sem.run_bind,run_newObj];have:((Array.range (y*i.size)).map λk=>(#[]:Array Value)[k%(#[]:Array Value).size]!)=((Array.range (y*i.size)).map λk=>v.cells[k%v.cells.size]!):=by rw[M,zh2,zh2]
          rw[this];rfl
         ·rw[J1 M];simp only[Sem.run_bind,Z,Sem.run_pure,Result.andThen_ok,newRow,run_newObj];rfl
        ·exact trivial
       ·exact trivial
      ·exact trivial
     ·exact trivial
    ·exact z69 A _
 ·exact z69 A _
def zlw{A:(Operand→Value)→Sem Next}
  (z:∀(B:CM) w D,zow B Q D→(A D).run C w=.ok (.value (.map (some w.heap.size))) (w.alloc (.map #[] 0))):MkR C Q F A (gc F):=by
 unfold gc;refine⟨_,trivial,rfl,rfl,λH B w o hn I g=>(by rw[hn]at g;cases g),λB w D E=>?_⟩;refine⟨_,0,0,_,z B w D E,λK id hk g=>⟨.map g,λH G I j=>?_⟩⟩;rw[g]at j;cases j;exact⟨G,#[],wt _ _,.nil⟩
def vi(z:Program)(t:TypeId)(r:Option Operand):Mk z (zgf z t r) (λj=>do pure (.value (←Instr.makeMap t (r.map j)))):=by
 unfold zgf;split
 ·intro B C;exact zlw (λD w j g=>by simp[Instr.makeMap])
 ·rename_i x;split
  ·rename_i k e hu;refine zpf λB C a ha=>?_
   split
   ·refine zlw (λD w j g=>?_);have:=g _ _ ha;generalize A:j x=E at this;cases this;simp[Instr.makeMap,Qw hu,A,asInt,asIntOf]
   ·exact trivial
  ·exact z69 z _
def ztl{P:Program}{o:Oper}(h:cls P o.op=.al):Mk P (Qq P o.op) (λg=>execOp g o):=by
 generalize ho:o.op=op at h;cases op with
 |alloc t=>exact Mk.congr (λg=>by simp only[execOp,ho]) (oj P t)
 |box t x=>exact Mk.congr (λg=>Ai) (box_mk P t x)
 |buildSlice t n j=>exact Mk.congr (λg=>Ai) (zni P t n j)
 |makeMap t r=>exact Mk.congr (λg=>Ai) (vi P t r)
 |makeSlice t l c=>exact Mk.congr (λg=>Ai) (zwm P t l c)
 |slice t _ _ _ _=>simp only[cls]at h;split at h<;>cases h
 |convert s d x=>simp only[cls]at h;split at h<;>first|(cases h;done)|(split at h<;>cases h)
 |call c =>
  simp only[cls,zgc]at h;split at h
  ·split at h
   ·split at h<;>cases h
   ·cases h
  all_goals cases h
 |_=>cases h
def CM.lift(C:CM)(n:Nat):CM:=⟨C.f,n⟩
def CM.le_lift{C:CM}{n:Nat}(h:C.nx≤n):C.le (C.lift n):=⟨λ_ _ _ h=>h,h,λ_ v L h=>.inl ⟨v,L,h⟩⟩
inductive Ups:Heap→Heap→Prop where
 |refl (H:Heap):Ups H H
 |push {H H':Heap} {ob:AObj} (hl:True) (hf:zql ob) (h:Ups (H.push ob) H'):Ups H H'
def Ups.next{H H':Heap}(h:Ups H H'):H.next≤H'.next:=by
 induction h with
 |refl=>exact J8 _
 |push _ _ _ ih=>exact K8 (Of _) ih
def Rel.up{gg:CM}{H:Heap}{w:World}(h:Rel vX gg H w)(_:True){ob:AObj}(hf:zql ob):Rel vX (gg.lift (H.next+1)) (H.push ob) w:=by
 have hle:gg.le (gg.lift (H.next+1)):=CM.le_lift (by rw[h.nx];exact Of _);refine⟨rfl,h.low,λo v L hL=>?_,h.lt,h.excl,?_,?_⟩
 ·show o<H.next+1;have:=h.fresh o v L hL;omega
 ·intro o gD ho hg;by_cases e:o=H.next
  ·subst e;rw[Heap.get_push_same]at hg;cases hg;exact hf _ _ _ _ (λv=>h.next_none v)
  ·have C:o<H.next:=Bv
   rw[Heap.get_push_ne _ _ C]at hg;exact (h.obj _ _ C hg).frame hle (λv L hL=>hL) (λv L hL=>rfl)
 ·intro o c len gF ro ho hg v L hL;by_cases e:o=H.next
  ·subst e;have:=h.fresh _ _ _ hL;omega
  ·have C:o<H.next:=Bv
   rw[Heap.get_push_ne _ _ C]at hg;exact h.top _ _ _ _ _ C hg _ _ hL
def Rel.ups{H:Heap}{w:World}(hu:Ups H vU):∀{C:CM},Rel vX C H w→Rel vX (C.lift vU.next) vU w:=by
 induction hu with
 |refl H=>intro C h;rw[←h.nx];exact h
 |push hl hf _ ih =>
  intro C h;have h1:=h.up hl hf;have h2:=ih h1;exact h2
def zoc{c:Tr AV}{len:Nat}(h:zs2 c Q len=true):∀j,j<len→Pg (Pz j) c=Pg (Pz j) Q:=by
 unfold zs2 at h;split at h
 ·rename_i l C D E;obtain⟨I,F⟩:=zf D;obtain⟨K,G⟩:=zf E;have he:l=C:=by
   have:∀(x y:List AV),lg (T5 30) x y=true→x=y:=by
    intro x
    induction x with
    |nil=>intro y g;cases y with
     |nil=>rfl
     |cons _ _=>cases g
    |cons c x H =>
     intro y g;cases y with
     |nil=>cases g
     |cons d y =>
      simp only[lg]at g;split at g
      ·rename_i hc;rw[eqAV_spec 30 c d hc,H y g]
      ·cases g
   exact this _ _ h
  intro j z;have A:=F j z;have B:=G j z;rw[Kw]at A B;rw[A,B,he]
 ·cases h
def Sl.eqObj{B:Nat}{gG:CM}{w:World}{o:Nat}{a b:AObj}(h:Sv.eqObj a b=true)(k:Sl B gG w o b):Sl B gG w o a:=by
 unfold Sv.eqObj at h;split at h
 ·rename_i c len gF ro c' gg gD C;simp only[J2]at h;obtain⟨⟨⟨h1,h2⟩,h3⟩,h4⟩:=h;obtain rfl:=Kd h1;obtain rfl:=Kd h2;obtain rfl:ro=C:=by simpa using h3
  intro L hL;obtain⟨p1,p2,p3,vs,e,lo,hi,p4,p5,p6,p7⟩:=k L hL;exact⟨p1,p2,p3,vs,e,lo,hi,p4,p5,p6,λi hi=>by rw[zoc h4 i hi];exact p7 i hi⟩
 ·obtain rfl:=Kd h;exact k
 ·cases h
def zlf{b:Bool}{x y:vM}(hb:b=true→x=y)(h:bm b x y=true):x=y:=by
 unfold bm at h;split at h
 ·exact hb rfl
 ·exact @Mn _ (Classical.propDecidable _) h
def tg{b:Bool}{x y:vM}(h:bm b x y=true):b=true∨x=y:=by
 unfold bm at h;split at h
 ·exact .inl rfl
 ·exact .inr (@Mn _ (Classical.propDecidable _) h)
def Sl.same{B:Nat}{C:CM}{w:World}{o:Nat}{a b:AObj}(h:bm (Sv.eqObj a b) a b=true)(k:Sl B C w o b):Sl B C w o a:=by
 rcases tg h with h|h
 ·exact k.eqObj h
 ·rw[h];exact k
def Rel.bind{gH:CM}{H:Heap}{w:World}(h:Rel vX gH H w){id n sz:Nat}(gK:id<H.next)(hn:∀v,gH id v=none){ob:AObj}(hg:H.get id=some ob)(gF:Obj)
  (gI:Sl vX.heap.size (gH.ext id 0 ⟨w.heap.size,0,n,sz⟩) (w.alloc gF) id ob):Rel vX (gH.ext id 0 ⟨w.heap.size,0,n,sz⟩) H (w.alloc gF)∧gH.keep (gH.ext id 0 ⟨w.heap.size,0,n,sz⟩):=by
 have hk:gH.keep (gH.ext id 0 ⟨w.heap.size,0,n,sz⟩):=λo' v' L' h'=>by
  by_cases e:o'=id∧v'=0
  ·obtain⟨rfl,rfl⟩:=e;rw[hn]at h';cases h'
  ·rw[CM.ext_ne gH _ e];exact h'
 refine⟨⟨by show max gH.nx (id+1)=H.next;rw[h.nx];omega,h.low.alloc h.low.size gF,?_,?_,?_,?_,?_⟩,hk⟩
 ·intro o v L C;by_cases e:o=id∧v=0
  ·omega
  ·rw[CM.ext_ne _ _ e]at C;exact h.fresh _ _ _ C
 ·intro o v L C;rw[World.size_alloc];by_cases e:o=id∧v=0
  ·obtain⟨rfl,rfl⟩:=e;rw[CM.ext_same]at C;cases C;exact Lp _
  ·rw[CM.ext_ne _ _ e]at C;have:=h.lt _ _ _ C;omega
 ·intro o v L o' v' L' C gg hb hB;by_cases e:o=id∧v=0<;>by_cases e':o'=id∧v'=0
  ·omega
  ·obtain⟨rfl,rfl⟩:=e;rw[CM.ext_same]at C;cases C;rw[CM.ext_ne _ _ e']at gg;have:=h.lt _ _ _ gg;dsimp at hb;omega
  ·obtain⟨rfl,rfl⟩:=e';rw[CM.ext_same]at gg;cases gg;rw[CM.ext_ne _ _ e]at C;have:=h.lt _ _ _ C;dsimp at hb;omega
  ·rw[CM.ext_ne _ _ e]at C;rw[CM.ext_ne _ _ e']at gg;exact h.excl _ _ _ _ _ _ C gg hb hB
 ·intro o gL ho gD;by_cases e:o=id
  ·subst e;rw[hg]at gD;cases gD;exact gI
  ·have gG:=h.obj _ _ ho gD;refine gG.frame' hk (λv L C=>?_) (λv L C=>z7n _ _ (h.lt _ _ _ C))
   rwa [CM.ext_ne _ _ J]at C
 ·intro o c len gM ro ho gD v L C;by_cases e:o=id∧v=0
  ·omega
  ·rw[CM.ext_ne _ _ e]at C;exact h.top _ _ _ _ _ ho gD _ _ C
end
section
section zs0
variable {P : Program} {n : Nat} {ops : Array Oper} {k : Ti} {L : List DOp} {E0 Ef : Tr AV}
def Zz(L:List DOp)(S:Nat→Prop)(t:Nat):Prop:=∃y∈L,S y.i∧y.o.dst=some t
open Classical in
noncomputable def zm(L:List DOp)(E0 Ef:Tr AV)(S:Nat→Prop)(t:Nat):Option AV:=if Zz L S t then Pg (Pz t) Ef else Pg (Pz t) E0
def Rn(m:Nat)(g:Nat):Prop:=m.testBit g=true
def mp(L:List DOp)(E0 Ef:Tr AV)(S:Nat→Prop)(g:Tr AV):Prop:=∀t,t≤S4→Pg (Pz t) g=zm L E0 Ef S t
def Zn(ops:Array Oper)(L:List DOp)(E0 Ef:Tr AV)(x:DOp)(E:Tr AV):Prop:=∀t∈Xo ops x.o,t≤S4→Pg (Pz t) E=zm L E0 Ef (Rn x.m) t
def U8(P:Program)(n:Nat)(ops:Array Oper)(k:Ti)(L:List DOp)(E0 Ef:Tr AV)(x:DOp)(z g:Heap):Prop :=
 ∀j,Zn ops L E0 Ef x j→∃v,(Ts P n ops x.o).run k j z=.ok (Rs x.o.dst v j) g∧∀d,x.o.dst=some d→Pg (Pz d) Ef=some v∧d<n
def DC(L:List DOp)(S:Nat→Prop):Prop:=∀y∈L,S y.i→∀g,Rn y.m g→S g
structure Fit (P:Program) (ops:Array Oper) (L:List DOp):Prop where
 ok:LOk P ops L
 dst:∀x∈L,∀y∈L,∀d,x.o.dst=some d→y.o.dst=some d→x=y
 look:∀x∈L,∀y∈L,zvf x y=true
def zro{x y:DOp}(h:zvf x y=true){d:Nat}(hd:y.o.dst=some d)(g:x.lm.testBit d=true) :
  (x.i=y.i∧Wu x=false)∨(x.i≠y.i∧(Rn x.m y.i∨(Rn y.m x.i∧Wu x=false))):=by
 unfold zvf at h;rw[hd]at h;dsimp only at h;rw[g]at h;dsimp only at h;split at h
 ·rename_i e;exact .inl ⟨Kd e,Aw⟩
 ·rename_i e;refine .inr ⟨λq=>?_,?_⟩
  ·rw[q,K5]at e;cases e
  ·split at h
   ·rename_i q;exact .inl q
   ·split at h
    ·rename_i q;exact .inr ⟨q,Aw⟩
    ·cases h
def qp(F:Fit P ops L){S:Nat→Prop}(B:DC L S){x:DOp}(A:x∈L)(hm:∀G,Rn x.m G→S G)(hn:¬S x.i∨Wu x=true)(C:mp L E0 Ef S Q):Zn ops L E0 Ef x Q:=by
 intro t D E;rw[C t E];unfold zm;have:Zz L S t↔Zz L (Rn x.m) t:=by
  constructor
  ·rintro⟨y,g,z,hd⟩;refine⟨y,g,?_,hd⟩;rcases zro (F.look x A y g) hd (F.ok.lm x A t D) with ⟨e,j⟩|⟨_,h|⟨h,j⟩⟩
   ·rcases hn with hn|hn
    ·rw[e]at hn;exact absurd z hn
    ·rw[hn]at j;cases j
   ·exact h
   ·rcases hn with hn|hn
    ·exact absurd (B y g z _ h) hn
    ·rw[hn]at j;cases j
  ·rintro⟨y,g,z,hd⟩;exact⟨y,g,hm _ z,hd⟩
 by_cases h:Zz L S t
 ·rw[J6 h,J6 (this.1 h)]
 ·rw[J1 h,J1 (λq=>h (this.2 q))]
def Zn.same{x:DOp}{E:Tr AV}(h:Zn ops L E0 Ef x E)(h':Zn ops L E0 Ef x uV):Uu (Xo ops x.o) uV E:=λt ht hl=>by rw[h t ht hl,h' t ht hl]
def z64(d:Tmp)(v:AV)(g:Tr AV):Pg (Pz d) (Rs (some d) v g)=some v:=zbm _ _ _
def zac{x:DOp}{E1:Tr AV}(h:(Ts P n ops x.o).run k Q F=.ok E1 vU)(z:Zn ops L E0 Ef x Q)
  (A:∀d,x.o.dst=some d→d<n→Pg (Pz d) Ef=Pg (Pz d) E1):U8 P n ops k L E0 Ef x F vU:=by
 obtain⟨v,B,j,C⟩:=z6a h;intro D g;refine⟨v,C D (z.same g),λd hd=>⟨?_,j d hd⟩⟩;rw[A d hd (j d hd),B,hd,z64]
def mp.put(F:Fit P ops L)(_hn:n≤S4){S:Nat→Prop}{E:Tr AV}(h:mp L E0 Ef S E){x:DOp}(hx:x∈L){v:AV}(hv:∀d,x.o.dst=some d→Pg (Pz d) Ef=some v∧d<n) :
  mp L E0 Ef (λj=>S j∨j=x.i) (Rs x.o.dst v E):=by
 intro t ht;have key:Zz L (λj=>S j∨j=x.i) t↔(Zz L S t∨x.o.dst=some t):=by
  constructor
  ·rintro⟨y,hy,hs|hs,hd⟩
   ·exact .inl ⟨y,hy,hs,hd⟩
   ·rw[F.ok.inj y hy x hx hs]at hd;exact .inr hd
  ·rintro (⟨y,hy,hs,hd⟩|hd)
   ·exact⟨y,hy,.inl hs,hd⟩
   ·exact⟨x,hx,.inr rfl,hd⟩
 unfold zm;cases hd:x.o.dst with
 |none =>
  rw[hd]at key;have:Zz L (λj=>S j∨j=x.i) t↔Zz L S t:=by rw[key];simp
  rw[show Rs none v E=E from rfl,h t ht];unfold zm;by_cases q:Zz L S t
  ·rw[J6 q,J6 (this.2 q)]
  ·rw[J1 q,J1 (λz=>q (this.1 z))]
 |some d =>
  rw[hd]at key;obtain⟨gg,gD⟩:=hv d hd;rw[show Rs (some d) v E=Rf v (Pz d) E from rfl,zjm];by_cases e:t=d
  ·subst e;rw[J6 rfl,J6 (key.2 (.inr rfl)),gg]
  ·rw[J1 e,h t ht];unfold zm;have:Zz L (λj=>S j∨j=x.i) t↔Zz L S t:=by
    rw[key];constructor
    ·rintro (q|q)
     ·exact q
     ·exact absurd (Option.some.inj q).symm e
    ·exact .inl
   by_cases q:Zz L S t
   ·rw[J6 q,J6 (this.2 q)]
   ·rw[J1 q,J1 (λz=>q (this.1 z))]
def zf6{r:OE}{f:Tr AV→Heap→OE}(h:(OE.rec .no f r:OE)=.ok Q F):∃g j,r=.ok g j∧f g j=.ok Q F:=by
 cases r with
 |no=>cases h
 |ok g j=>exact⟨g,j,rfl,h⟩
def zan{b:Bool}{r:OE}(h:(Bool.rec .no r b:OE)=.ok Q F):b=true∧r=.ok Q F:=by
 cases b with
 |false=>cases h
 |true=>exact⟨rfl,h⟩
def zjo{x:DOp}{l g:List DOp}(h:(X1 P n ops (x::l) g).run k Q F=.ok uV vU) :
  ∃z A j,(Ts P n ops x.o).run k Q F=.ok z A∧(X1 P n ops l j).run k z A=.ok uV vU ∧
   ((x.c=.quiet∧j=g)∨(x.c=.rd∧j=x::g)∨(x.c=.al∧j=x::g∧(z7l P ops (x::g)).run z A=true) ∨
    (x.c=.ch∧j=Qi (λy=>!(Nat.testBit x.m y.i)) g∧(z7l P ops j).run z A=true)):=by
 simp only[X1]at h;split at h
 ·rename_i hc;obtain⟨z,A,C,B⟩:=zf6 h;exact⟨z,A,g,C,B,.inl ⟨hc,rfl⟩⟩
 ·rename_i hc;obtain⟨z,A,C,B⟩:=zf6 h;exact⟨z,A,x::g,C,B,.inr (.inl ⟨hc,rfl⟩)⟩
 ·rename_i hc;obtain⟨z,A,C,B⟩:=zf6 h;obtain⟨D,B⟩:=zan B;exact⟨z,A,x::g,C,B,.inr (.inr (.inl ⟨hc,rfl,D⟩))⟩
 ·rename_i hc;obtain⟨z,A,C,B⟩:=zf6 h;obtain⟨D,B⟩:=zan B;exact⟨z,A,_,C,B,.inr (.inr (.inr ⟨hc,rfl,D⟩))⟩
def zgj(hn:n≤S4){d:Nat}(hd:d≤S4):∀{l g:List DOp} {A j:Tr AV} {H B:Heap},(X1 P n ops l g).run k A H=.ok j B→(∀y∈l,y.o.dst≠some d)→Pg (Pz d) j=Pg (Pz d) A
 |[],_,_,_,_,_,h,_=>Ci
 |x::l,g,A,j,H,B,h,C=>by
  obtain⟨I,K,z,D,E,_⟩:=zjo h;rw[zgj hn hd E (λy q=>C y (by simp[q]))];obtain⟨v,F,M,_⟩:=z6a D;rw[F];cases G:x.o.dst with
  |none=>rfl
  |some e =>
   rw[show Rs (some e) v A=Rf v (Pz e) A from rfl,z5p];intro q;subst q;exact C x N G
def rechecks_mem:∀{l:List DOp} {j:Tr AV} {z:Heap},(z7l P ops l).run j z=true→∀x∈l,(nm P ops x).run j z=true
 |[],_,_,_,x,g=>by cases g
 |y::l,j,z,h,x,g=>by
  simp only[z7l]at h;split at h
  ·rename_i A;rcases Ka.1 g with rfl|g
   ·exact A
   ·exact rechecks_mem h x g
  ·cases h
def zqg(T:Fit P ops L){x:DOp}(I:x∈L)(C:x.c=.rd)(D:Zn ops L E0 Ef x Q)(K:U8 P n ops k L E0 Ef x F F)(M:∀d,x.o.dst=some d→Pg (Pz d) Ef=Pg (Pz d) Q)
  (h:(nm P ops x).run Q vU=true):U8 P n ops k L E0 Ef x vU vU:=by
 have A:bw (Qq P x.o.op):=zcv.2 (by rw[←T.ok.cl x I];exact C);obtain⟨v,g,O⟩:=K Q D;unfold nm at h;cases hd:x.o.dst with
 |none=>rw[hd]at h;cases h
 |some d =>
  rw[hd]at h g;dsimp only at h;obtain⟨hv,B⟩:=O d hd;have R:Tq n (some d)=some ⟨λa Q=>Rf a (Pz d) Q⟩:=by unfold Tq;dsimp only;rw[J6 B]
  have j:(Ts P n ops x.o).run k Q vU=.ok (Rs (some d) v Q) vU:=by
   unfold Ts at g ⊢;rw[hd,R]at g ⊢;dsimp only at g ⊢;cases E:(Vh ops x.o).run Q with
   |false =>
    rw[E]at g;dsimp only at g ⊢;injection g with g
    rw[g]
   |true =>
    rw[E]at h g;dsimp only at h g ⊢;rw[←M d hd,hv]at h;dsimp only at h;have G:=A Q vU;cases hc:(Qq P x.o.op).run Q vU with
    |no=>rw[hc]at h;cases h
    |call t H=>rw[hc]at h;cases h
    |val U V =>
     rw[hc,C]at h;rw[hc]at G;dsimp only at h ⊢;cases G;rw[zlf (eqAV_spec _ _ _) h];rfl
  refine zac j D (λX z _=>?_);rw[hd]at z;cases z;rw[z64,hv]
def T6(P:Program)(n:Nat)(ops:Array Oper)(k:Ti)(L:List DOp)(E0 Ef:Tr AV)(x:DOp):Prop:=∀g,U8 P n ops k L E0 Ef x g g
noncomputable def Tc(Ef:Tr AV)(x:DOp):Nat:=((x.o.dst.bind λd=>Pg (Pz d) Ef).bind Qf).getD 0
def sm(P:Program)(n:Nat)(ops:Array Oper)(L:List DOp)(E0 Ef:Tr AV)(x:DOp)(g:Heap):Prop :=
 ∃d j,x.o.dst=some d∧d<n∧Pg (Pz d) Ef=some j∧Qf j=some (Tc Ef x)∧∀B,Zn ops L E0 Ef x B→(Vh ops x.o).run B=true ∧
  ∃z A,(Qq P x.o.op).run B g=.val z A∧j=S6 (Tc Ef x) z∧∃a b,g.get (Tc Ef x)=some a∧A.get g.next=some b∧bm (eqObj a b) a b=true
def z8m{x:DOp}(g:Uu (Xo ops x.o) uV Q):(Qq P x.o.op).run uV F=(Qq P x.o.op).run Q F :=
 zih (Uu.opds (λt j=>g t (by simp[Xo,j])))
def eq{x:DOp}(B:x.c=.al)(H:Zn ops L E0 Ef x Q)(I:(Vh ops x.o).run Q=true){d:Nat}(hd:x.o.dst=some d)(C:d<n)(hv:Pg (Pz d) Ef=some G)
  (O:Pg (Pz d) Q=some G) (h:(nm P ops x).run Q F=true):sm P n ops L E0 Ef x F:=by
 unfold nm at h;rw[hd]at h;dsimp only at h;rw[I,O]at h;dsimp only at h;cases hc:(Qq P x.o.op).run Q F with
 |no=>rw[hc]at h;cases h
 |call t K=>rw[hc]at h;cases h
 |val D M =>
  rw[hc,B]at h;dsimp only at h;unfold Z9 at h;cases j:Qf G with
  |none=>rw[j]at h;cases h
  |some id =>
   rw[j]at h;dsimp only at h;have g:Tc Ef x=id:=by unfold Tc;rw[hd];simp[hv,j]
   cases he:bm (T5 30 G (S6 id D)) G (S6 id D) with
   |false=>rw[he]at h;cases h
   |true =>
    rw[he]at h;dsimp only at h;cases A:F.get id with
    |none=>rw[A]at h;cases h
    |some a =>
     cases E:M.get F.next with
     |none=>rw[A,E]at h;cases h
     |some b =>
      rw[A,E]at h;refine⟨d,G,hd,C,hv,by rw[g,j],λR z=>⟨by rw[z3q (H.same z)];exact I,D,M,by rw[z8m (H.same z)];exact hc,by rw[g];exact zlf (eqAV_spec _ _ _) he,a,b,by rw[g];exact A,E,h⟩⟩
def tp(Z:Fit P ops L){x:DOp}(T:x∈L)(z:x.c=.al){E1:Tr AV}(h:(Ts P n ops x.o).run k Q F=.ok E1 vU)(M:Zn ops L E0 Ef x Q)(A:Zn ops L E0 Ef x E1)
  (O:∀d,x.o.dst=some d→d<n→Pg (Pz d) Ef=Pg (Pz d) E1) (g:(nm P ops x).run E1 vU=true) :
  (T6 P n ops k L E0 Ef x∧vU=F)∨(∃E,True∧vU=F.push E∧zql E∧Tc Ef x=F.next∧sm P n ops L E0 Ef x vU):=by
 have j:=ztl (P:=P) (o:=x.o) (by rw[←Z.ok.cl x T];exact z) Q F;have h0:=h;unfold Ts at h;cases G:Tq n x.o.dst with
 |none=>rw[G]at h;cases h
 |some p =>
  rw[G]at h;dsimp only at h;obtain⟨B,I⟩:=zc0 G;cases H:(Vh ops x.o).run Q with
  |false =>
   rw[H]at h;cases h;refine .inl ⟨λU=>?_,rfl⟩;refine zac (E1:=p.run Um Q) ?_ M O;unfold Ts;rw[G];dsimp only;rw[H]
  |true =>
   rw[H]at h;dsimp only at h;cases K:(Qq P x.o.op).run Q F with
   |no=>rw[K]at h;cases h
   |call t R=>rw[K]at j;exact j.elim
   |val v U =>
    rw[K]at h j;cases h;obtain⟨E,V,rfl,X,Y,_⟩:=j;cases hd:x.o.dst with
    |none =>
     unfold nm at g;rw[hd]at g;cases g
    |some d =>
     have C:=I d hd;have D:Pg (Pz d) (p.run v Q)=some v:=by rw[B,hd,z64]
     have hv:Pg (Pz d) Ef=some v:=by rw[O d hd C,D]
     refine .inr ⟨E,V,rfl,Y,?_,eq z A (by rw[z3q (M.same A)];exact H) hd C hv D g⟩;unfold Tc;rw[hd];simp[hv,X]
def zpz(P:Program)(n:Nat)(ops:Array Oper)(k:Ti)(L:List DOp)(E0 Ef:Tr AV)(x:DOp)(g:Heap):Prop :=
 (x.c=.rd∧U8 P n ops k L E0 Ef x g g)∨(x.c=.al∧(T6 P n ops k L E0 Ef x∨sm P n ops L E0 Ef x g))
def zom(G:Fit P ops L){x:DOp}(C:x∈L)(j:Zn ops L E0 Ef x Q)(g:zpz P n ops k L E0 Ef x F)(z:∀d,x.o.dst=some d→Pg (Pz d) Ef=Pg (Pz d) Q)
  (h:(nm P ops x).run Q vU=true):zpz P n ops k L E0 Ef x vU:=by
 rcases g with ⟨hc,g⟩|⟨hc,g|g⟩
 ·exact .inl ⟨hc,zqg G C hc j g z h⟩
 ·exact .inr ⟨hc,.inl g⟩
 ·obtain⟨d,H,A,D,B,_,E⟩:=g;exact .inr ⟨hc,.inr (eq hc j (E Q j).1 A D B (by rw[←z d A];exact B) h)⟩
def AlPh(P:Program)(n:Nat)(ops:Array Oper)(L:List DOp)(E0 Ef:Tr AV)(ch:List DOp)(j g:Nat→Heap)(x:DOp)(r:Nat):Prop :=
 r≤ch.length∧(∀q c,q<r→ch[q]?=some c→Rn x.m c.i)∧(j r).next≤Tc Ef x∧Tc Ef x<(g r).next ∧
  ∀p,r≤p→p≤ch.length→(∀q c,r≤q→q<p→ch[q]?=some c→¬Rn c.m x.i)→sm P n ops L E0 Ef x (g p)
def zs0(jC:Fit P ops L)(hn:n≤S4):∀(l D:List DOp) (seen F s:Nat) (jM:Tr AV) (jB H':Heap),(X1 P n ops l D).run k jM jB=.ok Ef H'→Ry l seen F=some s→(∀x∈l,x∈L) →
  (∀x∈D,x∈L∧Wu x=true∧Rn seen x.i∧(∀d,x.o.dst=some d→d<n)∧zpz P n ops k L E0 Ef x jB)→mp L E0 Ef (Rn seen) jM→DC L (Rn seen) →
  mp L E0 Ef (Rn s) Ef∧DC L (Rn s) ∧
  ∃(Hb Q:Nat→Heap) (R:Nat→Nat),Hb 0=jB∧Q (Qi Pp l).length=H'∧(∀p,p≤(Qi Pp l).length→Ups (Hb p) (Q p)) ∧
   (∀q c,(Qi Pp l)[q]?=some c→U8 P n ops k L E0 Ef c (Q q) (Hb (q+1))) ∧
   (∀x∈l,x.c=.rd→∃r,r≤(Qi Pp l).length∧(∀q c,q<r→(Qi Pp l)[q]?=some c→Rn x.m c.i)∧∀p,r≤p→p≤(Qi Pp l).length→(∀q c,r≤q→q<p→(Qi Pp l)[q]?=some c→¬Rn c.m x.i)→U8 P n ops k L E0 Ef x (Q p) (Q p)) ∧
   (∀x∈l,x.c=.quiet→∀H2,U8 P n ops k L E0 Ef x H2 H2) ∧
   (∀x∈l,x.c=.al→T6 P n ops k L E0 Ef x∨AlPh P n ops L E0 Ef (Qi Pp l) Hb Q x (R x.i)) ∧
   (∀x∈l,∀y∈l,x.c=.al→y.c=.al→¬T6 P n ops k L E0 Ef x→¬T6 P n ops k L E0 Ef y→R x.i=R y.i→Tc Ef x=Tc Ef y→x=y) ∧
   (∀x∈D,∀p,p≤(Qi Pp l).length→(∀q c,q<p→(Qi Pp l)[q]?=some c→¬Rn c.m x.i)→zpz P n ops k L E0 Ef x (Q p))
 |[],D,seen,F,s,jM,jB,H',h,ht,hl,hp,hE,hD=>by
  cases h;simp only[Ry,Option.some.injEq]at ht;subst ht;refine⟨hE,hD,λ_=>jB,λ_=>jB,λ_=>0,rfl,rfl,λ_ _=>.refl _,λq c I=>(by cases I),λx E=>(by cases E),λx E=>(by cases E),λx E=>(by cases E),λx E=>(by cases E),λx E p _ _=>(hp x E).2.2.2.2⟩
 |x::l,D,seen,F,s,jM,jB,H',h,ht,hl,hp,hE,hD=>by
  obtain⟨E1,Y,T,h1,h2,h3⟩:=zjo h;obtain⟨t1,t2,Z⟩:=z9u ht;have E:x∈L:=hl x N;have jD:Zn ops L E0 Ef x jM:=qp jC hD E t1 (.inl (by unfold Rn;rw[t2];simp)) hE;have gV:∀y∈l,y.i≠x.i:=by
   have jO:∀gY,Ry l (Nat.lor (2^x.i) seen) gY=some s→∀y∈l,y.i≠x.i:=λgY h' y j e=>by
    have:=topo_new h' y j;rw[mj,z3b,e]at this;simp at this
   rcases Z with ⟨_,h3⟩|⟨_,_,h3⟩|⟨_,_,h3⟩<;>exact jO _ h3
  obtain⟨v,s1,s2,s3⟩:=z6a h1;have V:∀d,x.o.dst=some d→d<n→Pg (Pz d) Ef=Pg (Pz d) E1:=λd hd jP =>
   zgj hn (K8 (Oq jP) hn) h2 (λy j e=>gV y j (by rw[jC.dst y (hl y Am) x E d e hd]))
  have gF:U8 P n ops k L E0 Ef x jB Y:=zac h1 jD V;have hS:(Rn (Nat.lor (2^x.i) seen))=λjE=>Rn seen jE∨jE=x.i:=by
   funext jE
   unfold Rn;rw[mj,z3b];simp only[Lf,Kb,eq_iff_iff];constructor
   ·rintro (e|e)
    ·exact .inr e.symm
    ·exact .inl e
   ·rintro (e|e)
    ·exact .inr e
    ·exact .inl e.symm
  have gg:mp L E0 Ef (Rn (Nat.lor (2^x.i) seen)) E1:=by
   rw[hS,s1];refine hE.put jC hn E (λd hd=>⟨?_,s2 d hd⟩);rw[V d hd (s2 d hd),s1,hd,z64]
  have gD:DC L (Rn (Nat.lor (2^x.i) seen)):=by
   rw[hS];rintro y j (hs|hs) jE hj
   ·exact .inl (hD y j hs jE hj)
   ·rw[jC.ok.inj y j x E hs]at hj;exact .inl (t1 jE hj)
  have gO:∀y∈l,y∈L:=λy j=>hl y Am
  have G:Rn (Nat.lor (2^x.i) seen) x.i:=by rw[hS];exact .inr rfl
  have z:∀jE,Rn seen jE→Rn (Nat.lor (2^x.i) seen) jE:=λjE hj=>by rw[hS];exact .inl hj
  have H:∀y,y∈L→Wu y=true→Rn (Nat.lor (2^x.i) seen) y.i→Zn ops L E0 Ef y E1:=λy a b c=>qp jC gD a (λjE hj=>gD y a c jE hj) (.inr b) gg
  have gZ:∀y,y∈L→Rn (Nat.lor (2^x.i) seen) y.i→(∀d,y.o.dst=some d→d<n)→∀d,y.o.dst=some d→Pg (Pz d) Ef=Pg (Pz d) E1:=λy a c hd e he=>by
   rw[gg e (K8 (Oq (hd e he)) hn)];unfold zm;rw[J6 ⟨y,a,c,he⟩]
  rcases h3 with ⟨hc,rfl⟩|⟨hc,rfl⟩|⟨hc,rfl,gR⟩|⟨hc,jG,gR⟩
  ·
   have M:Ry l (Nat.lor (2^x.i) seen) F=some s:=by
    rcases Z with ⟨_,Z⟩|⟨e,_⟩|⟨e,_⟩
    ·exact Z
    ·rw[hc]at e;rcases e with e|e<;>cases e
    ·rw[hc]at e;cases e
   have I:Wi (Qq P x.o.op):=zcv.1 (by rw[←jC.ok.cl x E];exact hc);have hH:Y=jB:=z67 I.reads h1;subst hH;have hf:Qi Pp (x::l)=Qi Pp l:=Bq
   obtain⟨r0,U,Hb,Q,R,r1,r2,ru,r3,r4,r5,ra,ri,r6⟩:=zs0 jC hn l T _ F s E1 Y H' h2 M gO (λy j=>let ⟨a,b,c,d⟩:=hp y j;⟨a,b,z _ c,d⟩) gg gD;rw[hf];refine⟨r0,U,Hb,Q,R,r1,r2,ru,r3,λy j g=>?_,λy j g H2=>?_,λy j g=>?_,λy j jK X g B=>?_,r6⟩
   ·rcases Ka.1 j with rfl|j
    ·rw[hc]at g;cases g
    ·exact r4 y j g
   ·rcases Ka.1 j with rfl|j
    ·exact zac (zlc I h1 H2) jD V
    ·exact r5 y j g H2
   ·rcases Ka.1 j with rfl|j
    ·rw[hc]at g;cases g
    ·exact ra y j g
   ·rcases Ka.1 j with rfl|j
    ·rw[hc]at g;cases g
    ·rcases Ka.1 X with rfl|X
     ·rw[hc]at B;cases B
     ·exact ri y j jK X g B
  ·
   have M:Ry l (Nat.lor (2^x.i) seen) F=some s:=by
    rcases Z with ⟨e,_⟩|⟨_,_,Z⟩|⟨e,_⟩
    ·rw[hc]at e;cases e
    ·exact Z
    ·rw[hc]at e;cases e
   have I:bw (Qq P x.o.op):=zcv.2 (by rw[←jC.ok.cl x E];exact hc);have hH:Y=jB:=z67 I h1;subst hH;have hf:Qi Pp (x::l)=Qi Pp l:=Bq
   obtain⟨r0,U,Hb,Q,R,r1,r2,ru,r3,r4,r5,ra,ri,r6⟩:=zs0 jC hn l (x::D) _ F s E1 Y H' h2 M gO (λy j=>by
    rcases Ka.1 j with rfl|j
    ·exact⟨E,by unfold Wu;rw[hc],G,s2,.inl ⟨hc,gF⟩⟩
    ·obtain⟨a,b,c,d⟩:=hp y j;exact⟨a,b,z _ c,d⟩) gg gD
   rw[hf];refine⟨r0,U,Hb,Q,R,r1,r2,ru,r3,λy j g=>?_,λy j g H2=>?_,λy j g=>?_,λy j jK X g B=>?_,λy j=>r6 y Am⟩
   ·rcases Ka.1 j with rfl|j
    ·refine⟨0,Nh _,λq c I=>absurd I (Oi q),λp _ A C=>?_⟩;rcases r6 y N p A (λq c I=>C q c (Nh q) I) with ⟨_,h⟩|⟨h,_⟩
     ·exact h
     ·rw[hc]at h;cases h
    ·exact r4 y j g
   ·rcases Ka.1 j with rfl|j
    ·rw[hc]at g;cases g
    ·exact r5 y j g H2
   ·rcases Ka.1 j with rfl|j
    ·rw[hc]at g;cases g
    ·exact ra y j g
   ·rcases Ka.1 j with rfl|j
    ·rw[hc]at g;cases g
    ·rcases Ka.1 X with rfl|X
     ·rw[hc]at B;cases B
     ·exact ri y j jK X g B
  ·
   have M:Ry l (Nat.lor (2^x.i) seen) F=some s:=by
    rcases Z with ⟨e,_⟩|⟨_,_,Z⟩|⟨e,_⟩
    ·rw[hc]at e;cases e
    ·exact Z
    ·rw[hc]at e;cases e
   have gG:Wu x=true:=by unfold Wu;rw[hc]
   have hf:Qi Pp (x::l)=Qi Pp l:=Bq
   have gH:=tp jC E hc h1 jD (H x E gG G) V (rechecks_mem gR x N);have jQ:zpz P n ops k L E0 Ef x Y:=by
    rcases gH with ⟨h,_⟩|⟨_,_,_,_,_,h⟩
    ·exact .inr ⟨hc,.inl h⟩
    ·exact .inr ⟨hc,.inr h⟩
   obtain⟨r0,U,Hb,Q,R,r1,r2,ru,r3,r4,r5,ra,ri,r6⟩:=zs0 jC hn l (x::D) _ F s E1 Y H' h2 M gO (λy j=>by
    rcases Ka.1 j with rfl|jR
    ·exact⟨E,gG,G,s2,jQ⟩
    ·obtain⟨a,b,c,d,e⟩:=hp y jR;exact⟨a,b,z _ c,d,zom jC a (H y a b (z _ c)) e (gZ y a (z _ c) d) (rechecks_mem gR y j)⟩) gg gD
   rw[hf];have jg:Ups jB Y:=by
    rcases gH with ⟨_,rfl⟩|⟨ob,q1,rfl,q3,_⟩
    ·exact .refl _
    ·exact .push q1 q3 (.refl _)
   have gT:Ups Y (Q 0):=by rw[←r1];exact ru 0 (Nh _)
   have jT:∀{j5 j6 j7:Heap},Ups j5 j6→Ups j6 j7→Ups j5 j7:=λ{j5 j6 j7} h1=>by
    induction h1 with
    |refl=>exact id
    |push a b _ ih=>exact λh=>.push a b (ih h)
   have O:∀y∈l,(if y.i=x.i then 0 else R y.i)=R y.i:=λy j=>J1 (gV y j)
   refine⟨r0,U,λp=>match p with
    |0=>jB
    |p+1=>Hb (p+1),Q,λi=>if i=x.i then 0 else R i,rfl,r2,λp A=>?_,r3,λy j g=>?_,λy j g H2=>?_,λy j g=>?_,λy j jK X g B gI gK K gL=>?_,λy j p A C=>?_⟩
   ·cases p with
    |zero=>exact jT jg gT
    |succ p=>exact ru (p+1) A
   ·rcases Ka.1 j with rfl|j
    ·rw[hc]at g;cases g
    ·exact r4 y j g
   ·rcases Ka.1 j with rfl|j
    ·rw[hc]at g;cases g
    ·exact r5 y j g H2
   ·rcases Ka.1 j with rfl|j
    ·rcases gH with ⟨h,_⟩|⟨ob,q1,q2,q3,q4,q5⟩
     ·exact .inl h
     ·refine .inr ?_;dsimp only;rw[J6 rfl];refine⟨Nh _,λq c I=>absurd I (Oi q),Ni q4.symm,?_,λp _ A C=>?_⟩
      ·have:=gT.next;rw[q2]at this;rw[q4];exact Kt (Lp _) this
      ·rcases r6 y N p A (λq c I=>C q c (Nh q) I) with ⟨h,_⟩|⟨_,h|h⟩
       ·rw[hc]at h;cases h
       ·obtain⟨d,v0,g1,g2,g3,g4,g5⟩:=q5;exfalso;obtain⟨w1,w2,_⟩:=h Y E1 (H y E gG G);obtain⟨g6,_⟩:=g5 E1 (H y E gG G);have jH:=ztl (P:=P) (o:=y.o) (by rw[←jC.ok.cl y E];exact hc) E1 Y;obtain⟨_,v',j8,g7,_⟩:=g5 E1 (H y E gG G);rw[g7]at jH;obtain⟨j9,m1,m2,_⟩:=jH;unfold Ts at w2;have A:Tq n y.o.dst=some ⟨λa jM=>Rf a (Pz d) jM⟩:=by rw[g1];unfold Tq;dsimp only;rw[J6 g2]
        rw[A]at w2;dsimp only at w2;rw[g6,g7]at w2;dsimp only at w2;injection w2 with _ w2
        rw[m2]at w2;have:=congrArg Heap.next w2;simp[Heap.push]at this
       ·exact h
    ·dsimp only;rw[O y j];refine (ra y j g).imp id λ⟨a1,a2,a3,a4,a5⟩=>⟨a1,a2,?_,a4,a5⟩
     generalize R y.i=r at a3;cases r with
     |zero =>
      rw[r1]at a3;exact K8 jg.next a3
     |succ r=>exact a3
   ·dsimp only at K;have jz:∀u∈l,u.c=.al→¬T6 P n ops k L E0 Ef u→R u.i=0→∀ob,Y=jB.push ob→Tc Ef u=jB.next→False:=λu hu jU jV gT ob he jI=>by
     rcases ra u hu jU with h|⟨_,_,a3,_⟩
     ·exact jV h
     ·rw[gT,r1,he,jI]at a3;exact absurd a3 (Nat.not_succ_le_self _)
    rcases Ka.1 j with ey|gU
    ·rcases Ka.1 X with ez|gM
     ·rw[ey,ez]
     ·subst ey;rw[J6 rfl,O jK gM]at K;rcases gH with ⟨h,_⟩|⟨ob,q1,q2,q3,q4,q5⟩
      ·exact absurd h gI
      ·exact (jz jK gM B gK K.symm ob q2 (by rw[←gL,q4])).elim
    ·rcases Ka.1 X with ez|gM
     ·subst ez;rw[J6 rfl,O y gU]at K;rcases gH with ⟨h,_⟩|⟨ob,q1,q2,q3,q4,q5⟩
      ·exact absurd h gK
      ·exact (jz y gU g gI K ob q2 (by rw[gL,q4])).elim
     ·rw[O y gU,O jK gM]at K;exact ri y gU jK gM g B gI gK K gL
   ·exact r6 y Am p A C
  ·
   obtain⟨tc,M⟩:(∀jE,F.testBit jE=true→x.m.testBit jE=true)∧Ry l (Nat.lor (2^x.i) seen) (Nat.lor (2^x.i) F)=some s:=by
    rcases Z with ⟨e,_⟩|⟨e,_⟩|⟨_,Z⟩
    ·rw[hc]at e;cases e
    ·rw[hc]at e;rcases e with e|e<;>cases e
    ·exact Z
   have hf:Qi Pp (x::l)=x::Qi Pp l:=Bq
   have jY:∀y∈T,y∈D∧¬Rn x.m y.i:=λy j=>by
    rw[jG]at j;obtain⟨a,b⟩:=mv.1 j;exact⟨a,by unfold Rn;simpa using b⟩
   obtain⟨r0,U,Hb,Q,R,r1,r2,ru,r3,r4,r5,ra,ri,r6⟩:=zs0 jC hn l T _ _ s E1 Y H' h2 M gO (λy j=>by
    obtain⟨a,b,c,d,e⟩:=hp y (jY y j).1;exact⟨a,b,z _ c,d,zom jC a (H y a b (z _ c)) e (gZ y a (z _ c) d) (rechecks_mem gR y j)⟩) gg gD
   rw[hf];have jA:∀y∈l,y.c≠.quiet→∀r,(∀q c,q<r→(Qi Pp l)[q]?=some c→Rn y.m c.i)→∀q c,q<r+1→(x::Qi Pp l)[q]?=some c→Rn y.m c.i:=λy j g r u1 q c I jF=>by
    cases q with
    |zero =>
     simp only[Ks,Option.some.injEq]at jF;subst jF;refine topo_chs M y j g _ ?_;rw[mj,z3b];simp
    |succ q=>exact u1 q c J (by simpa using jF)
   refine⟨r0,U,λq=>match q with
    |0=>jB
    |q+1=>Hb q,λq=>match q with
    |0=>jB
    |q+1=>Q q,λi=>R i+1,rfl,r2,λp A=>?_,λq c I=>?_,λy j g=>?_,λy j g H2=>?_,λy j g=>?_,λy j jK X g B gI gK K gL=>?_,λy j p A C=>?_⟩
   ·cases p with
    |zero=>exact .refl _
    |succ p=>simp only[Kh]at A;exact ru p J
   ·cases q with
    |zero =>
     simp only[Ks,Option.some.injEq]at I;subst I;dsimp only;rw[r1];exact gF
    |succ q=>exact r3 q c Er
   ·rcases Ka.1 j with rfl|j
    ·rw[hc]at g;cases g
    ·obtain⟨r,u0,u1,u2⟩:=r4 y j g;refine⟨r+1,El,jA y j (by rw[g];exact λe=>Ar) r u1,λp hr A C=>?_⟩;cases p with
     |zero=>omega
     |succ p =>
      simp only[Kh]at A;exact u2 p J J (λq c h5 h6 h7=>C (q+1) c J J (by simpa using h7))
   ·rcases Ka.1 j with rfl|j
    ·rw[hc]at g;cases g
    ·exact r5 y j g H2
   ·rcases Ka.1 j with rfl|j
    ·rw[hc]at g;cases g
    ·refine (ra y j g).imp id λ⟨a1,a2,a3,a4,a5⟩=>⟨by simp only[Kh];show R y.i+1≤_;omega,jA y j (by rw[g];exact λe=>Ar) _ a2,a3,a4,λp hr A C=>?_⟩
     dsimp only at hr C;cases p with
     |zero=>omega
     |succ p =>
      simp only[Kh]at A;exact a5 p J J (λq c h5 h6 h7=>C (q+1) c J J (by simpa using h7))
   ·rcases Ka.1 j with rfl|j
    ·rw[hc]at g;cases g
    ·rcases Ka.1 X with rfl|X
     ·rw[hc]at B;cases B
     ·exact ri y j jK X g B gI gK (Nat.succ.inj K) gL
   ·cases p with
    |zero=>exact (hp y j).2.2.2.2
    |succ p =>
     simp only[Kh]at A;have h0:=C 0 x J N;refine r6 y ?_ p J (λq c h6 h7=>C (q+1) c J (by simpa using h7));rw[jG];refine mv.2 ⟨j,?_⟩;unfold Rn at h0;simpa using h0
def chain_order:∀{l:List DOp} {seen A s:Nat},Ry l seen A=some s→∀(q g:Nat) (c j:DOp),q<g→(Qi Pp l)[q]?=some c→(Qi Pp l)[g]?=some j→Rn j.m c.i
 |[],_,_,_,_,q,g,c,j,_,h,_=>by simp[Qi]at h
 |x::l,seen,A,s,E,q,g,c,j,B,h,z=>by
  obtain⟨_,_,F⟩:=z9u E;rcases F with ⟨hc,t⟩|⟨hc,_,t⟩|⟨hc,_,t⟩
  ·have C:Qi Pp (x::l)=Qi Pp l:=Bq
   rw[C]at h z;exact chain_order t q g c j B h z
  ·have C:Qi Pp (x::l)=Qi Pp l:=by simp only[Qi];unfold Pp;rcases hc with hc|hc<;>rw[hc]
   rw[C]at h z;exact chain_order t q g c j B h z
  ·have C:Qi Pp (x::l)=x::Qi Pp l:=Bq
   rw[C]at h z;cases g with
   |zero=>omega
   |succ g =>
    simp only[Km]at z;cases q with
    |zero =>
     simp only[Ks,Option.some.injEq]at h;subst h;obtain⟨hm,D⟩:=mv.1 (Mp.2 ⟨_,z⟩);refine topo_chs t j hm (by rw[zf0.1 D];exact λe=>Ar) _ ?_;rw[mj,z3b];simp
    |succ q=>exact chain_order t q g c j J Aw z
end zs0
end
section
section tj
variable {P : Program} {n : Nat} {ops : Array Oper} {k : Ti} {L : List DOp} {E0 Ef : Tr AV}
def zlh{S:Nat→Prop}:∀{l:List DOp} {seen A s:Nat},Ry l seen A=some s→(∀z,Rn seen z→S z)→(∀x∈l,S x.i)∨∃x∈l,¬S x.i∧∀z,Rn x.m z→S z
 |[],_,_,_,_,_=>.inl λx B=>by cases B
 |x::l,seen,A,s,h,F=>by
  obtain⟨G,I,C⟩:=z9u h;by_cases B:S x.i
  ·have E:∀g,Ry l (Nat.lor (2^x.i) seen) g=some s→(∀y∈x::l,S y.i)∨∃y∈x::l,¬S y.i∧∀z,Rn y.m z→S z:=λg H=>by
    rcases zlh H (S:=S) (λz j=>by
     unfold Rn at j;rw[mj,z3b]at j;simp only[Lf,Kb]at j;rcases j with rfl|j
     ·exact B
     ·exact F z j) with q|⟨y,D,q⟩
    ·exact .inl λy D=>by
      rcases Ka.1 D with rfl|D
      ·exact B
      ·exact q y D
    ·exact .inr ⟨y,At,q⟩
   rcases C with ⟨_,C⟩|⟨_,_,C⟩|⟨_,_,C⟩<;>exact E _ C
  ·exact .inr ⟨x,N,B,λz j=>F z (G z j)⟩
def Rc(listed:Array Bool)(i:Nat):Prop:=listed.getD i false=true
def xk{listed:Array Bool}{i:Nat}(hi:i<listed.size)(g:Nat):Rc (listed.setIfInBounds i true) g↔(Rc listed g∨g=i):=by
 unfold Rc;rw[K7,Array.getElem?_setIfInBounds,K7];by_cases e:i=g
 ·subst e;simp[hi]
 ·have:¬g=i:=λq=>e q.symm
  simp[e,this]
def zoz{listed:Array Bool}{i:Nat}(B:listed.size=ops.size):i∈Region.ready .any ops listed↔i<ops.size∧¬Rc listed i∧∃o,ops[i]?=some o∧∀e∈o.after.toList,Region.binds .any e=true→Rc listed e.on:=by
 unfold Region.ready Rc;simp only[Ol,Mf,J2,L9];constructor
 ·rintro⟨g,j,z⟩;refine⟨g,?_,?_⟩
  ·rw[K7,Ma J]at j ⊢;simpa using j
  ·rw[Ma g]at z;simp only[Mg,L0]at z;refine⟨ops[i],Ma g,λe he hb=>?_⟩;have:=Array.all_eq_true_iff_forall_mem.1 z e (by simpa using he);rw[hb]at this;simpa using this
 ·rintro⟨g,j,o,z,A⟩;refine⟨g,?_,?_⟩
  ·rw[K7,Ma J]at j ⊢;simpa using j
  ·rw[z];simp only[Mg,L0];refine Array.all_eq_true_iff_forall_mem.2 λe he=>?_
   cases hb:Region.binds .any e with
   |false=>rfl
   |true=>simpa using A e (by simpa using he) hb
def zym{g:CM}(h:O.le g){o:Nat}(hn:∀v,O o v=none)(ho:o<O.nx)(v:Nat):g o v=none:=by
 cases e:g o v with
 |none=>rfl
 |some L =>
  rcases h.new _ _ _ e with ⟨z,A,j⟩|j
  ·rw[hn]at j;cases j
  ·omega
structure Pends (P:Program) (n:Nat) (ops:Array Oper) (k:Ti) (L:List DOp) (E0 Ef:Tr AV) (ord:List DOp) (ph:Nat→Nat) (C0 C:CM) (Hp:Heap) (D:Nat→Prop) (p:Nat):Prop where
 known:∀x∈ord,x.c=.al→¬T6 P n ops k L E0 Ef x→ph x.i≤p→C0.nx≤Tc Ef x∧Tc Ef x<Hp.next
 inj:∀x∈ord,∀y∈ord,x.c=.al→y.c=.al→¬T6 P n ops k L E0 Ef x→¬T6 P n ops k L E0 Ef y→ph x.i≤p→ph y.i≤p→Tc Ef x=Tc Ef y→x=y
 pend:∀x∈ord,x.c=.al→¬T6 P n ops k L E0 Ef x→ph x.i≤p→¬D x.i→∀v,C (Tc Ef x) v=none
def oper_al(gD:Fit P ops L){x:DOp}(hx:x∈L)(B:x.c=.al)(ho:ops[x.i]?=some x.o){H:Heap}{w:World}{E:Tr AV}{a:Act}(R:Rel K O H w)(T:ER n O E a.tmps)
  (C:Zn ops L E0 Ef x E) (D:sm P n ops L E0 Ef x H) (F:Tc Ef x<H.next) (hn:∀v,O (Tc Ef x) v=none) (b:Frame) (g:List Nat) (U:List Item) (V:List Frame) :
  ∃(G:Loc) (X:World) (A:Value) (v:AV),Rel K (O.ext (Tc Ef x) 0 G) H X∧O.keep (O.ext (Tc Ef x) 0 G)∧VR (O.ext (Tc Ef x) 0 G) v A∧(∀d,x.o.dst=some d→Pg (Pz d) Ef=some v∧d<n) ∧
   Steps P (lone (b.atR a (.inRegion ops (x.i::g)::U)) V w) (lone (b.atR (a.put x.o.dst A) (.inRegion ops g::U)) V X):=by
 obtain⟨d,v0,g1,g2,g3,g4,g5⟩:=D;obtain⟨hg,Y,H',Z,h2,oa,gg,h3,h4,h5⟩:=g5 E C;have j:=ztl (P:=P) (o:=x.o) (by rw[←gD.ok.cl x hx];exact B) E H;rw[Z]at j;obtain⟨ob,m1,rfl,m3,m4,m5⟩:=j;rw[Heap.get_push_same]at h4;cases h4;obtain⟨I,n',sz,A,q1,q2⟩:=m5 O w a.eval (za9 T);have hk:O.keep (O.ext (Tc Ef x) 0 ⟨w.heap.size,0,n',sz⟩):=λo' Y L' M=>by
  by_cases e:o'=Tc Ef x∧Y=0
  ·obtain⟨rfl,rfl⟩:=e;rw[hn]at M;cases M
  ·rw[CM.ext_ne O _ e];exact M
 obtain⟨q3,q4⟩:=q2 _ (Tc Ef x) hk (CM.ext_same _ _ _ _);obtain⟨q5,_⟩:=R.bind F hn h3 I ((q4 _ R.low.size).same h5);have hw:Region.wanted x.o (yielded ops a.tmps)=true:=by rw[←zkn T ops x.o];exact hg
 have Q:=zk6 (P:=P) (o:=x.o) (E:=E) (H:=H) (by rw[Z];intro e;cases e);refine⟨_,_,A,v0,q5,hk,by rw[h2];exact q3,λd' z=>?_,.one (zuu ho hw Q q1)⟩;rw[g1]at z;cases z;exact⟨g3,g2⟩
def tj(hk:nw P k)(jA:Fit P ops L)(hn:n≤S4){g:List DOp}{s:Nat}(gU:Ry g 0 0=some s)(M:∀x∈g,x∈L)(jB:∀i,i<ops.size→Rn s i)(jX:mp L E0 Ef (Rn s) Ef)
  {Hb H:Nat→Heap} {ph:Nat→Nat} (hU:∀p,p≤(Qi Pp g).length→Ups (Hb p) (H p))
  (hA:∀q c,(Qi Pp g)[q]?=some c→U8 P n ops k L E0 Ef c (H q) (Hb (q+1)))
  (hB:∀x∈g,x.c=.rd→∃r,r≤(Qi Pp g).length∧(∀q c,q<r→(Qi Pp g)[q]?=some c→Rn x.m c.i)∧∀p,r≤p→p≤(Qi Pp g).length→(∀q c,r≤q→q<p→(Qi Pp g)[q]?=some c→¬Rn c.m x.i)→U8 P n ops k L E0 Ef x (H p) (H p))
  (jY:∀x∈g,x.c=.quiet→∀H2,U8 P n ops k L E0 Ef x H2 H2)
  (hL:∀x∈g,x.c=.al→T6 P n ops k L E0 Ef x∨AlPh P n ops L E0 Ef (Qi Pp g) Hb H x (ph x.i))
  (hI:∀x∈g,∀y∈g,x.c=.al→y.c=.al→¬T6 P n ops k L E0 Ef x→¬T6 P n ops k L E0 Ef y→ph x.i=ph y.i→Tc Ef x=Tc Ef y→x=y)
  {C0:CM} (b:Frame) (kk:List Item) (cs:List Frame) :
  ∀(j t:Nat) (listed:Array Bool) (zg:List Nat) (p:Nat) (jH:CM) (w:World) (a:Act) (jz:Tr AV),listed.size=ops.size→zg.length≤j→(∀i,i<ops.size→¬Rc listed i→i∈zg) →
   mp L E0 Ef (Rc listed) jz→DC L (Rc listed)→Rel K jH (H p) w→ER n jH jz a.tmps→(∀q c,(Qi Pp g)[q]?=some c→(Rc listed c.i↔q<p))→p≤(Qi Pp g).length →
   C0.le jH→Pends P n ops k L E0 Ef g ph C0 jH (H p) (Rc listed) p →
   ∃C' w' a',C0.le C'∧Rel K C' (H (Qi Pp g).length) w'∧ER n C' Ef a'.tmps∧a'.defers=a.defers ∧
    Steps P (lone (b.atR a (.inRegion ops (Region.linearise.go .any ops j t listed [])::kk)) cs w) (lone (b.atR a' (.inRegion ops []::kk)) cs w'):=by
 have jI:∀x∈L,x∈g:=λx R=>by
  rcases (topo_seen gU x.i).1 (jB x.i (jA.ok.op x R).2) with h|⟨y,C,e⟩
  ·simp at h
  ·rwa [←jA.ok.inj y (M y C) x R e]
 have jC:∀(listed:Array Bool) (p:Nat) (jH:CM) (w:World) (a:Act) (jz:Tr AV),(∀i,i<ops.size→Rc listed i)→mp L E0 Ef (Rc listed) jz→Rel K jH (H p) w→ER n jH jz a.tmps →
   (∀q c,(Qi Pp g)[q]?=some c→(Rc listed c.i↔q<p))→p≤(Qi Pp g).length→C0.le jH →
   ∃C' w' a',C0.le C'∧Rel K C' (H (Qi Pp g).length) w'∧ER n C' Ef a'.tmps∧a'.defers=a.defers ∧
    Steps P (lone (b.atR a (.inRegion ops []::kk)) cs w) (lone (b.atR a' (.inRegion ops []::kk)) cs w'):=by
  intro listed p jH w a jz hd hE hR D E hp F;have T:p=(Qi Pp g).length:=by
   rcases M5 p (Qi Pp g).length with h|h
   ·have hm:=Mm h;have:=(E p _ (J7 h)).1 (hd _ (jA.ok.op _ (M _ (mv.1 hm).1)).2);omega
   ·omega
  subst T;refine⟨jH,w,a,F,hR,⟨D.1,D.2.1,λt ht=>?_⟩,rfl,.refl _ _⟩;have e:Pg (Pz t) Ef=Pg (Pz t) jz:=by
   rw[hE t ht,jX t ht];unfold zm;have:Zz L (Rn s) t↔Zz L (Rc listed) t:=by
    constructor
    ·rintro⟨y,C,_,h⟩;exact⟨y,C,hd _ (jA.ok.op y C).2,h⟩
    ·rintro⟨y,C,_,h⟩;exact⟨y,C,jB _ (jA.ok.op y C).2,h⟩
   by_cases q:Zz L (Rn s) t
   ·rw[J6 q,J6 (this.1 q)]
   ·rw[J1 q,J1 (λjZ=>q (this.2 jZ))]
  rw[e];exact D.2.2 t ht
 intro j
 induction j with
 |zero =>
  intro t listed zg p jH w a jz hs hT gV hE hD hR D E hp F B;have hd:∀i,i<ops.size→Rc listed i:=λi hi=>by
   by_cases h:Rc listed i
   ·exact h
   ·have:=gV i hi h;have j4:zg=[]:=Kn J;rw[j4]at this;cases this
  exact jC listed p jH w a jz hd hE hR D E hp F
 |succ j ih =>
  intro t listed zg p jH w a jz hs hT gV hE hD hR D E hp F B;simp only[Region.linearise.go];change ∃C' w' a',C0.le C'∧Rel K C' (H (Qi Pp g).length) w'∧ER n C' Ef a'.tmps∧a'.defers=a.defers ∧
   Steps P (lone (b.atR a (.inRegion ops (match (Region.ready .any ops listed)[t%(Region.ready .any ops listed).length]? with
    |some i=>Region.linearise.go .any ops j (t/(Region.ready .any ops listed).length) (listed.setIfInBounds i true) [i]
    |none=>[].reverse)::kk)) cs w) (lone (b.atR a' (.inRegion ops []::kk)) cs w')
  cases hi:(Region.ready .any ops listed)[t%(Region.ready .any ops listed).length]? with
  |none =>
   have jK:Region.ready .any ops listed=[]:=by
    cases hr:Region.ready .any ops listed with
    |nil=>rfl
    |cons x xs =>
     rw[hr]at hi;have gg:t%(x::xs).length<(x::xs).length:=L8 _ N;rw[J7 gg]at hi;cases hi
   have hd:∀i,i<ops.size→Rc listed i:=by
    rcases zlh gU (S:=Rc listed) (λgG hj=>by simp[Rn]at hj) with h|⟨x,R,h1,h2⟩
    ·intro i hi;obtain⟨x,R,rfl⟩:=jA.ok.all i hi;exact h x (jI x R)
    ·have jL:=M x R;obtain⟨ho,gg⟩:=jA.ok.op x jL;have:x.i∈Region.ready .any ops listed:=(zoz hs).2 ⟨gg,h1,x.o,ho,λe he hb=>h2 _ (jA.ok.edge x jL e he hb)⟩;rw[jK]at this;cases this
   exact jC listed p jH w a jz hd hE hR D E hp F
  |some i =>
   dsimp only;rw[linearise_go_acc,List.reverse_singleton,List.singleton_append];obtain⟨gg,gD,o,ho,gH⟩:=(zoz hs).1 (Kj hi);obtain⟨x,R,rfl⟩:=jA.ok.all i gg;have jM:=(jA.ok.op x R).1;rw[ho]at jM;cases jM;have G:∀gG,Rn x.m gG→Rc listed gG:=λgG hj=>by
    obtain⟨e,he,hb,rfl|⟨y,C,e1,e2⟩⟩:=jA.ok.msk x R gG hj
    ·exact gH e he hb
    ·exact hD y C (by rw[e1];exact gH e he hb) gG e2
   have jE:Zn ops L E0 Ef x jz:=qp jA hD R G (.inl gD) hE;have U:=jI x R;have jF:∃p' O w1 xv v,C0.le O∧Rel K O (H p') w1∧ER n O (Rs x.o.dst v jz) (a.put x.o.dst xv).tmps∧(∀d,x.o.dst=some d→Pg (Pz d) Ef=some v∧d<n) ∧
     Steps P (lone (b.atR a (.inRegion ops (x.i::Region.linearise.go .any ops j (t/(Region.ready .any ops listed).length) (listed.setIfInBounds x.i true) [])::kk)) cs w)
      (lone (b.atR (a.put x.o.dst xv) (.inRegion ops (Region.linearise.go .any ops j (t/(Region.ready .any ops listed).length) (listed.setIfInBounds x.i true) [])::kk)) cs w1) ∧
     p'≤(Qi Pp g).length∧(∀q c,(Qi Pp g)[q]?=some c→((Rc listed c.i∨c.i=x.i)↔q<p')) ∧
     Pends P n ops k L E0 Ef g ph C0 O (H p') (λgG=>Rc listed gG∨gG=x.i) p':=by
    have gI:x.c≠.ch→∀q c,(Qi Pp g)[q]?=some c→((Rc listed c.i∨c.i=x.i)↔q<p):=λgK q c hq=>by
     rw[←E q c hq];constructor
     ·rintro (h|h)
      ·exact h
      ·obtain⟨hm,hc⟩:=mv.1 (Mp.2 ⟨_,hq⟩);rw[jA.ok.inj c (M c hm) x R h]at hc;exact absurd (zf0.1 hc) gK
     ·exact .inl
    have X:∀r,r≤(Qi Pp g).length→(∀q c,q<r→(Qi Pp g)[q]?=some c→Rn x.m c.i)→r≤p:=λr u0 u1=>by
     rcases M5 p r with h|h
     ·have T:p<(Qi Pp g).length:=J
      have:=(E p _ (J7 T)).1 (G _ (u1 p _ h (J7 T)));omega
     ·exact h
    have gL:∀r q c,r≤q→q<p→(Qi Pp g)[q]?=some c→¬Rn c.m x.i:=λr q c _ hq jO hb=>by
     have hm:=(mv.1 (Mp.2 ⟨_,jO⟩)).1;exact gD (hD c (M c hm) ((E q c jO).2 hq) _ hb)
    have V:=λ(gK:x.c≠.ch) (j5:U8 P n ops k L E0 Ef x (H p) (H p))=>show ∃p' O w1 xv v,C0.le O∧Rel K O (H p') w1∧ER n O (Rs x.o.dst v jz) (a.put x.o.dst xv).tmps∧(∀d,x.o.dst=some d→Pg (Pz d) Ef=some v∧d<n) ∧
     Steps P (lone (b.atR a (.inRegion ops (x.i::Region.linearise.go .any ops j (t/(Region.ready .any ops listed).length) (listed.setIfInBounds x.i true) [])::kk)) cs w)
      (lone (b.atR (a.put x.o.dst xv) (.inRegion ops (Region.linearise.go .any ops j (t/(Region.ready .any ops listed).length) (listed.setIfInBounds x.i true) [])::kk)) cs w1) ∧
     p'≤(Qi Pp g).length∧(∀q c,(Qi Pp g)[q]?=some c→((Rc listed c.i∨c.i=x.i)↔q<p')) ∧
     Pends P n ops k L E0 Ef g ph C0 O (H p') (λgG=>Rc listed gG∨gG=x.i) p' from by
     obtain⟨v,gM,Q⟩:=j5 jz jE;obtain⟨O,w1,xv,av,q1,q2,q3,q4,q5,q6⟩:=zk5 hk ho hR D gM b (Region.linearise.go .any ops j (t/(Region.ready .any ops listed).length) (listed.setIfInBounds x.i true) []) kk cs;refine⟨p,O,w1,xv,v,CM.le_trans F q1,q2,by rw[q4];exact (D.mono q1).put q5 q3,Q,q6,hp,gI gK,⟨B.known,B.inj,λy C z A I gF v=>?_⟩⟩;exact zym q1 (B.pend y C z A I (λh=>gF (.inl h))) (by rw[hR.nx];exact (B.known y C z A I).2) v
    cases hc:x.c with
    |quiet=>exact V (by rw[hc];exact λe=>Ar) (jY x U hc _)
    |rd =>
     obtain⟨r,u0,u1,u2⟩:=hB x U hc;exact V (by rw[hc];exact λe=>Ar) (u2 p (X r u0 u1) hp (gL r))
    |al =>
     by_cases gO:T6 P n ops k L E0 Ef x
     ·exact V (by rw[hc];exact λe=>Ar) (gO _)
     ·rcases hL x U hc with h|⟨u0,u1,u2,u3,u4⟩
      ·exact absurd h gO
      ·have gY:=X _ u0 u1;have j6:=u4 p gY hp (gL _);obtain⟨k1,k2⟩:=B.known x U hc gO gY;have jP:=B.pend x U hc gO gY gD;obtain⟨Lc,w1,xv,v,q1,q2,q3,q4,q5⟩:=oper_al jA R hc ho hR D jE j6 k2 jP b (Region.linearise.go .any ops j (t/(Region.ready .any ops listed).length) (listed.setIfInBounds x.i true) []) kk cs;refine⟨p,_,w1,xv,v,⟨λo v L h=>q2 _ _ _ (F.keep _ _ _ h),K8 F.nx (Mi _ _),λo v L h=>?_⟩,q1,(D.mono' q2).put (λt ht=>(q4 t ht).2) q3,q4,q5,hp,gI (by rw[hc];exact λe=>Ar),
        ⟨B.known,B.inj,λy C z A I gF v=>?_⟩⟩
       ·by_cases e:o=Tc Ef x∧v=0
        ·obtain⟨rfl,rfl⟩:=e;exact .inr k1
        ·rw[CM.ext_ne _ _ e]at h;exact F.new _ _ _ h
       ·have gK:Tc Ef y≠Tc Ef x:=λe=>gF (.inr (by rw[B.inj y C x U z hc A gO I gY e]))
        rw[CM.ext_ne _ _ (λe=>gK e.1)];exact B.pend y C z A I (λh=>gF (.inl h)) v
    |ch =>
     obtain⟨q,hq⟩:=Mp.1 (mv.2 ⟨U,zf0.2 hc⟩);have zj:¬q<p:=λh=>gD ((E q x hq).2 h)
     have zz:=(Jy.1 hq).1;have j7:q=p:=by
      rcases M5 p q with h|h
      ·have T:p<(Qi Pp g).length:=J
       have:=(E p _ (J7 T)).1 (G _ (chain_order gU p q _ x h (J7 T) hq));omega
      ·omega
     subst j7;obtain⟨v,gM,Q⟩:=hA q x hq jz jE;obtain⟨O,w1,xv,av,q1,q2,q3,q4,q5,q6⟩:=zk5 hk ho hR D gM b (Region.linearise.go .any ops j (t/(Region.ready .any ops listed).length) (listed.setIfInBounds x.i true) []) kk cs;have gR:=hU (q+1) J;have jQ:O.le (O.lift (H (q+1)).next):=CM.le_lift (by rw[q2.nx];exact gR.next);have zB:(H q).next≤(Hb (q+1)).next:=by rw[←hR.nx,←q2.nx];exact q1.nx
     have Y:∀y∈g,y.c=.al→¬T6 P n ops k L E0 Ef y→ph y.i=q+1→(Hb (q+1)).next≤Tc Ef y∧Tc Ef y<(H (q+1)).next:=λy C z A I=>by
      rcases hL y C z with h|⟨_,_,u2,u3,_⟩
      ·exact absurd h A
      ·rw[I]at u2 u3;exact⟨u2,u3⟩
     have zC:=gR.next;refine⟨q+1,O.lift (H (q+1)).next,w1,xv,v,CM.le_trans F (CM.le_trans q1 jQ),q2.ups gR,by rw[q4];exact ((D.mono q1).put q5 q3).mono jQ,Q,q6,J,λq' c gT=>?_,⟨λy C z A I=>?_,λy C jZ hz z gZ A jg I zD jR=>?_,λy C z A I gF v=>?_⟩⟩
     ·rw[E q' c gT];constructor
      ·rintro (h|h)
       ·omega
       ·have hm:=(mv.1 (Mp.2 ⟨_,gT⟩)).1;have e:=jA.ok.inj c (M c hm) x R h;subst e;rcases Nat.lt_trichotomy q' q with h'|h'|h'
        ·omega
        ·omega
        ·exact absurd (G _ (chain_order gU q q' c c h' hq gT)) gD
      ·intro h;rcases M5 q' q with h'|h'
       ·exact .inl h'
       ·have:q'=q:=J
        subst this;rw[hq]at gT;cases gT;exact .inr rfl
     ·rcases M5 (ph y.i) (q+1) with h|h
      ·obtain⟨k1,k2⟩:=B.known y C z A J;exact⟨k1,J⟩
      ·obtain⟨k1,k2⟩:=Y y C z A J;have:=(CM.le_trans F q1).nx;rw[q2.nx]at this;exact⟨K8 this k1,k2⟩
     ·rcases M5 (ph y.i) (q+1) with h|h<;>rcases M5 (ph jZ.i) (q+1) with h'|h'
      ·exact B.inj y C jZ hz z gZ A jg J J jR
      ·have k1:=(B.known y C z A J).2;have k2:=(Y jZ hz gZ jg J).1;omega
      ·have k1:=(B.known jZ hz gZ jg J).2;have k2:=(Y y C z A J).1;omega
      ·exact hI y C jZ hz z gZ A jg J jR
     ·show O.f (Tc Ef y) v=none;rcases M5 (ph y.i) (q+1) with h|h
      ·exact zym q1 (B.pend y C z A J (λh=>gF (.inl h))) (by rw[hR.nx];exact (B.known y C z A J).2) v
      ·have k1:=(Y y C z A J).1;cases e:O.f (Tc Ef y) v with
       |none=>rfl
       |some L'=>have:=q2.fresh _ _ _ e;omega
   obtain⟨p',O,w1,xv,v,q1,q2,jT,Q,q6,j8,jU,jV⟩:=jF;have Z:=xk (listed:=listed) (i:=x.i) J;have jD:Rc (listed.setIfInBounds x.i true)=λgG=>Rc listed gG∨gG=x.i:=funext λgG=>propext (Z gG)
   have j9:mp L E0 Ef (Rc (listed.setIfInBounds x.i true)) (Rs x.o.dst v jz):=by
    have:=hE.put jA hn R Q;rw[jD];exact this
   obtain⟨C2,w2,a2,r1,r2,r3,r4,r5⟩:=ih (t/(Region.ready .any ops listed).length) (listed.setIfInBounds x.i true) (zg.erase x.i) p' O w1 (a.put x.o.dst xv) (Rs x.o.dst v jz) (by simpa using hs)
    (by
     have:=List.length_erase_of_mem (gV x.i gg gD);omega)
    (λgG hj jG=>by
     rw[Z]at jG;have h1:¬Rc listed gG:=λh=>jG (.inl h)
     have h2:gG≠x.i:=λh=>jG (.inr h)
     exact (List.mem_erase_of_ne h2).2 (gV gG hj h1))
    j9
    (λy C hd gG hj=>by
     rw[Z]at hd ⊢;rcases hd with hd|hd
     ·exact .inl (hD y C hd gG hj)
     ·rw[jA.ok.inj y C x R hd]at hj;exact .inl (G gG hj))
    q2 jT (λq c hq=>by rw[Z];exact jU q c hq) j8 q1 (by rw[jD];exact jV)
   refine⟨C2,w2,a2,r1,r2,r3,?_,Steps.trans q6 r5⟩;rw[r4];cases x.o.dst<;>rfl
def zvs(hm:P.follows .mixedOrders=true)(hk:nw P k){w:World}{a:Act}{id:Nat}(Z:Rel K O F w)(hE:ER n O Q a.tmps)
  (h:(zab P n ops).run k Q F=.ok uV vU) (b:Frame) (kk:List Item) (cs:List Frame) :
  ∃R w' T,O.le R∧Rel K R vU w'∧ER n R uV T.tmps∧T.defers=a.defers ∧
   Steps P (lone (b.atR a (.code (.region id ops true)::kk)) cs w) (lone (b.atR T kk) cs w'):=by
 unfold zab at h;dsimp only at h;generalize hL:S9 P ops ops.toList [] 0=L at h;have gg:LOk P ops L:=hL ▸ dops_ok P ops;generalize hO:zy7 L (Qi Pp L)=C at h;have G:∀x∈C,x∈L:=λx U=>i1 x (by rw[hO];exact U)
 split at h
 ·rename_i hd;unfold ac at hd;split at hd
  ·cases hd
  ·rename_i s V;split at hd
   ·cases hd
   ·rename_i hs;split at hd
    ·cases hd
    ·rename_i gD;have gF:s=2^ops.size-1:=Kd (by simpa using hs);have gM:Fit P ops L:=⟨gg,(dstsOk_spec (by simpa using gD)).2,λx U y g=>znq (znq hd x U) y g⟩;have hn:=hE.2.1;have h0:mp L Q uV (Rn 0) Q:=λt ht=>by
      unfold zm;rw[J1];rintro⟨y,_,g,_⟩;simp[Rn]at g
     obtain⟨r0,_,Hb,I,ph,r1,r2,ru,r3,r4,r5,ra,ri,_⟩:=zs0 (E0:=Q) gM hn C [] 0 0 s Q F vU h V G (λx U=>by cases U) h0 (λy _ g=>by simp[Rn]at g);have X:∀i,i<ops.size→Rn s i:=λi hi=>by
      unfold Rn;rw[gF,Nat.testBit_two_pow_sub_one];simpa using hi
     have A:∀i,¬Rc (Array.replicate ops.size false) i:=λi hi=>by
      unfold Rc at hi;rw[K7,Array.getElem?_replicate]at hi;split at hi<;>cases hi
     have M:=ru 0 (Nh _);rw[r1]at M;have gG:Rel K (O.lift (I 0).next) (I 0) w.drew:=Z.drew.ups M;have H:O.le (O.lift (I 0).next):=CM.le_lift (by rw[Z.nx];exact M.next);have B:∀y∈C,y.c=.al→¬T6 P n ops k L Q uV y→ph y.i=0→F.next≤Tc uV y∧Tc uV y<(I 0).next:=λy g j z D=>by
      rcases ra y g j with h|⟨_,_,u2,u3,_⟩
      ·exact absurd h z
      ·rw[D]at u2 u3;rw[r1]at u2;exact⟨u2,u3⟩
     have Y:Pends P n ops k L Q uV C ph O (O.lift (I 0).next) (I 0) (Rc (Array.replicate ops.size false)) 0:=by
      refine⟨λy g j z D=>?_,λy g gO hz j gH z gI D gL gK=>ri y g gO hz j gH z gI J gK,λy g j z D _ v=>?_⟩
      ·obtain⟨k1,k2⟩:=B y g j z J;rw[←Z.nx]at k1;exact⟨k1,k2⟩
      ·obtain⟨k1,k2⟩:=B y g j z J;show O.f (Tc uV y) v=none;cases e:O.f (Tc uV y) v with
       |none=>rfl
       |some L'=>have:=Z.fresh _ _ _ e;omega
     have E:Region.schedule (P.follows .mixedOrders) ops (w.tape w.drawn (.order b.fn id))=Region.linearise.go .any ops ops.size (w.tape w.drawn (.order b.fn id)) (Array.replicate ops.size false) []:=by
      simp only[Region.schedule,hm,Bool.true_or,Lj];rfl
     obtain⟨R,w',T,q1,q2,q3,q4,q5⟩:=tj hk gM hn V G X r0 ru r3 r4 r5 ra ri b kk cs ops.size (w.tape w.drawn (.order b.fn id)) (Array.replicate ops.size false) (List.range ops.size) 0 (O.lift (I 0).next) w.drew a Q
      N N (λi hi _=>Ed) (λt ht=>by
       unfold zm;rw[J1];rintro⟨y,_,g,_⟩;exact A _ g) (λy _ g=>absurd g (A _)) gG (hE.mono H) (λq c _=>⟨λh=>absurd h (A _),λh=>absurd h (Oi q)⟩) (Nh _) H Y
     refine⟨R,w',T,q1,by rw[←r2];exact q2,q3,q4,.head stepR_region_draw ?_⟩;rw[E];exact Steps.trans q5 (.one stepR_region_end)
 ·cases h
def zqz(hk:nw P k){w:World}{a:Act}{id:Nat}(B:Rel K O F w)(C:ER n O Q a.tmps)
  (h:(zd P n ops ops.toList).run k Q F=.ok uV vU) (b:Frame) (A:List Item) (cs:List Frame) :
  ∃g z j,O.le g∧Rel K g vU z∧ER n g uV j.tmps∧j.defers=a.defers ∧
   Steps P (lone (b.atR a (.code (.region id ops false)::A)) cs w) (lone (b.atR j A) cs z):=by
 obtain⟨g,z,j,D,E,G,H,I⟩:=zot hk b A cs ops.toList 0 rfl B C h;refine⟨g,z,j,D,E,G,H,.head stepR_region ?_⟩;rw[List.range_eq_range'];exact Steps.trans I (.one stepR_region_end)
end tj
end
section
open Go.RowKit (Below)
inductive DR (C:CM):List Nat→List Deferred→Prop where
 |nil:DR C [] []
 |cons {d:Nat} {L:Loc} {l:List Nat} {r:List Deferred} (h:C d 0=some L) (hs:DR C l r):DR C (d::l) ({ target:=.collected L.b,args:=#[] }::r)
def DR.mono{C C':CM}(h:C.le C'):∀{l:List Nat} {r:List Deferred},DR C l r→DR C' l r
 |_,_,.nil=>.nil
 |_,_,.cons e es=>.cons (h.keep _ _ _ e) (DR.mono h es)
def RO(A:CM)(g r:Option Nat):Prop:=match g,r with
 |none,none=>True
 |some l,some j=>∃z,A l 0=some z∧z.b=j
 |_,_=>False
def RO.mono{C C':CM}(h:C.le C'){ro r:Option Nat}(k:RO C ro r):RO C' ro r:=by
 cases ro<;>cases r<;>simp only[RO]at k ⊢;obtain⟨L,h1,h2⟩:=k;exact⟨L,h.keep _ _ _ h1,h2⟩
def Rel.putBlock{gI:CM}{H:Heap}{w:World}(h:Rel vX gI H w){o:Nat}{L:Loc}(hL:gI o 0=some L){ob:AObj}{x:Obj}(hB:vX.heap.size≤L.b)(gg:∀c len C ro,ob≠.cells c len C ro)
  (gD:(w.putObj L.b x).heap[L.b]?=some x→Sl vX.heap.size gI (w.putObj L.b x) o ob):Rel vX gI (H.put o ob) (w.putObj L.b x):=by
 have gF:=h.lt _ _ _ hL;refine h.put (h.fresh _ _ _ hL) ob (h.low.trans ⟨rfl,rfl,rfl,N,λk hk=>World.putObj_heap_other J⟩) N (λo' v L' gG gH=>World.putObj_heap_other (λe=>gG ?_)) (gD (World.putObj_heap_same gF)) (λc len C ro e=>absurd e (gg c len C ro));exact (h.excl _ _ _ _ _ _ hL gH e.symm hB).symm
def ze2{P:Program}{w:World}{o:Nat}{r:Loop}(h:w.heap[o]?=some (.loop r))(fn:FuncId)(tmps:Array Value)(g:Array Tmp)(assign body:Code) :
  (Instr.enterLoop fn tmps g assign body (some o)).run P w =
   .ok (w.heap.size,[]) (w.alloc (.loop { state:=.ready,pending:=none,fn,tmps,params:=g,assign,body,defers:=r.defers })):=by
 unfold Instr.enterLoop;simp only[Sem.run_bind,run_getLoop h,run_newObj_alloc,Result.andThen,Sem.run_pure]
def zqr{P:Program}{f n:Nat}{j:Array Tmp}{as:Code}{l:Nat}{L:List Nat}(h:zg2 f n j as uH vG Q uY F=some (l,L,vU))
  {w:World} {M:List Deferred} {r:Option Nat} (g:Rel K O F w) (R:ER n O Q vH) (T:DR O uY M) (A:RO O vG r) :
  ∃G U mark V,O.le G∧Rel K G vU U∧(Instr.enterLoop f vH j as uH r).run P w=.ok (V.b,mark) U∧G l 0=some V∧DR G L (mark++M):=by
 unfold zg2 at h
 ·split at h
  ·cases h;cases r with
   |some r=>exact A.elim
   |none =>
    obtain⟨B,H⟩:=g.push (.defd true) (.deferred (some [])) 0 0 (λV z=>by
     rw[CM.ext_same]at z;cases z;exact⟨g.low.size,wt _ _⟩)
    have C:(O.ext F.next 0 ⟨w.heap.size,0,0,0⟩) F.next 0=some ⟨w.heap.size,0,0,0⟩:=CM.ext_same _ _ _ _;generalize O.ext F.next 0 ⟨w.heap.size,0,0,0⟩=Y at B H C;obtain⟨I,D⟩:=B.push (ob:=.loop .ready none f n Q j as uH F.next) (x:=.loop { state:=.ready,pending:=none,fn:=f,tmps:=vH,params:=j,assign:=as,body:=uH,defers:=w.heap.size }) 0 0 (λV z=>by
     rw[CM.ext_same]at z;cases z;refine⟨B.low.size,vH,⟨w.heap.size,0,0,0⟩,(CM.le_ext _ (B.next_none 0) (.inr (Ni B.nx))).keep _ _ _ C,wt _ _,(R.mono H).mono (CM.le_ext _ (B.next_none 0) (.inr (Ni B.nx)))⟩)
    refine⟨_,_,[{ target:=.collected w.heap.size,args:=#[] }],⟨w.heap.size+1,0,0,0⟩,CM.le_trans H D,I,?_,?_,?_⟩
    ·exact run_enterLoop_outer f vH j as uH
    ·have:=CM.ext_same Y (F.push (.defd true)).next 0 ⟨(w.alloc (.deferred (some []))).heap.size,0,0,0⟩;rw[World.size_alloc]at this ⊢;exact this
    ·exact .cons (D.keep _ _ _ C) (T.mono (CM.le_trans H D))
  ·rename_i lo;split at h
   ·rename_i d Z;cases h;cases r with
    |none=>exact A.elim
    |some r =>
     obtain⟨Lo,E,rfl⟩:=A;obtain⟨hB,gg,X,hd,hw,_⟩:=g.obj _ _ (g.fresh _ _ _ E) Z Lo E;obtain⟨I,D⟩:=g.push (ob:=.loop .ready none f n Q j as uH d) (x:=.loop { state:=.ready,pending:=none,fn:=f,tmps:=vH,params:=j,assign:=as,body:=uH,defers:=X.b }) 0 0 (λV z=>by
      rw[CM.ext_same]at z;cases z;exact⟨g.low.size,vH,X,(CM.le_ext _ (g.next_none 0) (.inr (Ni g.nx))).keep _ _ _ hd,wt _ _,R.mono (CM.le_ext _ (g.next_none 0) (.inr (Ni g.nx)))⟩)
     refine⟨_,_,[],⟨w.heap.size,0,0,0⟩,D,I,?_,CM.ext_same _ _ _ _,T.mono D⟩;exact ze2 hw f vH j as uH
   ·cases h
def zlv{P:Program}{l:Nat}{I:Option Code}(h:zmq l F=some (I,vU)){w:World}(C:Rel K O F w){L:Loc}(B:O l 0=some L) :
  ∃j,(Instr.endLoop L.b).run P w=.ok I j∧Rel K O vU j:=by
 unfold zmq at h;split at h
 ·rename_i st g f n V M a b d Q;have D:st≠.busy→(some (g,F.put l (.loop .exhausted g f n V M a b d))=some (I,vU))→∃j,(Instr.endLoop L.b).run P w=.ok I j∧Rel K O vU j:=λE e=>by
   cases e;obtain⟨H,R,T,hd,hw,U⟩:=C.obj _ _ (C.fresh _ _ _ B) Q L B;refine⟨_,run_endLoop hw E,C.putBlock B H (λ_ _ _ _ e=>Ar) (λz X A=>?_)⟩;rw[B]at A;cases A;exact⟨H,R,T,hd,z,U⟩
  split at h
  ·cases h
  ·rename_i G;exact D (λe=>G e) h
 ·cases h
def zqs{P:Program}{w:World}{ρ:Operand→Value}{gop:Operand}(E:∀v,ρ (.const v)=v)(C:VR O G (ρ gop)){l:Nat}{j:Loc}(F:O l 0=some j){f:Nat}{args:List AV}
  (h:zd5 P G [.fn (.yield l) [] []]=.call (.fn f) args) :
  ∃d D,(resolve ρ (rangeCall gop j.b) 0).run P w=.ok d w∧(invoke d.target d.args).run P w=.ok (.enter f (List.toArray D)) w∧VRs O args D:=by
 have H:VRs O [AV.fn (.yield l) [] []] [Value.func (.yield j.b) #[] #[]]:=.cons (.fn (.yield F) .nil .nil) .nil;generalize z:ρ gop=gv at C;have g:∀fn first cap,gv=.func fn first cap→(resolve ρ (rangeCall gop j.b) 0).run P w=.ok { target:=.fn fn cap,args:=first++#[Value.func (.yield j.b) #[] #[]] } w:=by
  intro fn first cap e
  subst e;simp only[resolve,z,Deferred.ofValue,Sem.run_pure];simp[E]
 unfold zd5 at h;split at h
 ·rename_i M first cap
  split at h
  ·rename_i hc;cases h;cases C with
   | @fn _ Q _ _ A B I K L =>
    cases I with
    |same =>
     refine⟨_,A.toList++[Value.func (.yield j.b) #[] #[]]++B.toList,g _ _ _ rfl,?_,(K.append H).append L⟩;have:(A++#[Value.func (.yield j.b) #[] #[]]++B)=(A.toList++[Value.func (.yield j.b) #[] #[]]++B.toList).toArray:=N
     rw[←this];exact zc4 hc _
  ·cases h
 ·cases h
 ·cases h
def qh(P:Program)(b:Frame)(m:Machine)(cs:List Frame)(A:List Item)(j:Act)(z:World):Ex→Prop
 |.normal=>Steps P m (lone (b.atR j A) cs z)
 |.exit id=>∃g,exitTo id g=exitTo id A∧Steps P m (lone (b.atR j (.code (.exit id)::g)) cs z)
 |.ret=>∃g,Steps P m (lone (b.atR j (.code .ret::g)) cs z)
def qh.head{P:Program}{b:Frame}{m m1:Machine}{cs:List Frame}{kk:List Item}{a':Act}{x:Ex}(h:Steps P m m1)(k:qh P b m1 cs kk a' vX x):qh P b m cs kk a' vX x:=by
 cases x with
 |normal=>exact Steps.trans h k
 |exit id=>obtain⟨k1,e,s⟩:=k;exact⟨k1,e,Steps.trans h s⟩
 |ret=>obtain⟨k1,s⟩:=k;exact⟨k1,Steps.trans h s⟩
section scope
variable {P : Program} {b : Frame} {a : Act} {k : List Item} {cs : List Frame} {w : World} {c : Code}
def stepR_scope:step P (lone (b.atR a (.code (.scope c)::k)) cs w)=.next (lone (b.atR a (.code c::.inScope c::k)) cs w):=step_lone_go Iq
def stepR_inScope:step P (lone (b.atR a (.inScope c::k)) cs w)=.next (lone (b.atR a k) cs w):=step_lone_go Iq
end scope
structure Both (w0:World) (n:Nat) (C:CM) (E:Tr AV) (D:List Nat) (H:Heap) (a:Act) (w:World):Prop where
 rel:Rel w0 C H w
 env:ER n C E a.tmps
 defs:DR C D a.defers
def CodeOk(P:Program)(f n:Nat)(G:CodeF)(c:Code):Prop :=
 ∀(k:Ti),nw P k→∀(m:Nat) (g:Option Nat) (j:World) (H:CM) (I:Tr AV) (K:List Nat) (L:Heap) (a:Act) (w:World) (b:Frame) (x:Ex) (z:Tr AV) (A:List Nat) (B:Heap),
  Both j n H I K L a w→b.fn=f→RO H g b.roundOf→G.run k m g I K L=.ok x z A B→∀(C:List Item) (cs:List Frame),
  ∃D E F,H.le D∧Both j n D z A B F E∧qh P b (lone (b.atR a (.code c::C)) cs w) cs C F E x
def z2r{P:Program}(hm:P.follows .mixedOrders=true)(f n:Nat):∀(c:Code),CodeOk P f n (Sk P f n c) c
 |.skip=>by
  intro k hk m D F O R T U a w b x K L M j H g h A cs;cases h;exact⟨O,w,a,CM.le_refl O,j,.one stepR_skip⟩
 |.label l=>by
  intro k hk m D F O R T U a w b x K L M j H g h A cs;cases h;exact⟨O,w,a,CM.le_refl O,j,.one stepR_label⟩
 |.exit id=>by
  intro k hk m D F O R T U a w b x K L M j H g h A cs;cases h;exact⟨O,w,a,CM.le_refl O,j,A,rfl,.refl _ _⟩
 |.ret=>by
  intro k hk m D F O R T U a w b x K L M j H g h A cs;cases h;exact⟨O,w,a,CM.le_refl O,j,A,.refl _ _⟩
 |.region id ops draw=>by
  intro k hk m D F O R T U a w b x K L M j H g h A cs;simp only[Sk]at h;cases draw with
  |true =>
   dsimp only at h;split at h
   ·cases h
   ·rename_i Z Y hr;cases h;obtain⟨C',w',a',z,C,B,q4,q5⟩:=zvs hm hk (id:=id) j.rel j.env hr b A cs;exact⟨C',w',a',z,⟨C,B,by rw[q4];exact j.defs.mono z⟩,q5⟩
  |false =>
   dsimp only at h;split at h
   ·cases h
   ·rename_i Z Y hr;cases h;obtain⟨C',w',a',z,C,B,q4,q5⟩:=zqz hk (id:=id) j.rel j.env hr b A cs;exact⟨C',w',a',z,⟨C,B,by rw[q4];exact j.defs.mono z⟩,q5⟩
 |.seq c1 c2=>by
  intro k hk m D F O R T U a w b x K L M j H g h A cs;simp only[Sk]at h;cases h1:(Sk P f n c1).run k m D R T U with
  |no=>rw[h1]at h;cases h
  |ok x1 Z D1 Y =>
   rw[h1]at h;obtain⟨G,E,I,z,C,B⟩:=z2r hm f n c1 k hk m D F O R T U a w b x1 Z D1 Y j H g h1 (.code c2::A) cs;cases x1 with
   |normal =>
    dsimp only at h;obtain⟨C2,w2,a2,r1,r2,r3⟩:=z2r hm f n c2 k hk m D F G Z D1 Y I E b x K L M C H (g.mono z) h A cs;exact⟨C2,w2,a2,CM.le_trans z r1,r2,r3.head (.head stepR_seq B)⟩
   |exit id =>
    cases h;obtain⟨Q,e,s⟩:=B;exact⟨G,E,I,z,C,Q,e,.head stepR_seq s⟩
   |ret =>
    cases h;obtain⟨Q,s⟩:=B;exact⟨G,E,I,z,C,Q,.head stepR_seq s⟩
 |.cond c c1 c2=>by
  intro k hk m D F O R T U a w b x K L M j H g h A cs;simp only[Sk]at h;split at h
  ·rename_i t ht;have hv:=za9 j.env c _ ht;have gI:a.eval c=.bool t:=by
    generalize a.eval c=v at hv;cases hv;rfl
   split at h
   ·obtain⟨G,E,I,z,C,B⟩:=z2r hm f n c1 k hk m D F O R T U a w b x K L M j H g h A cs;exact⟨G,E,I,z,C,B.head (.one (by rw[stepR_cond gI];rfl))⟩
   ·obtain⟨G,E,I,z,C,B⟩:=z2r hm f n c2 k hk m D F O R T U a w b x K L M j H g h A cs;exact⟨G,E,I,z,C,B.head (.one (by rw[stepR_cond gI];rfl))⟩
  ·cases h
 |.block id c=>by
  intro k hk m D F O R T U a w b x K L M j H g h A cs;simp only[Sk]at h;split at h
  ·cases h
  ·rename_i x1 Z D1 Y h1;obtain⟨G,E,I,z,C,B⟩:=z2r hm f n c k hk m D F O R T U a w b x1 Z D1 Y j H g h1 (.inBlock id::A) cs;cases x1 with
   |normal =>
    cases h;exact⟨G,E,I,z,C,Steps.head stepR_block (Steps.trans B (.one stepR_inBlock))⟩
   |exit gK =>
    dsimp only at h;obtain⟨Q,e,s⟩:=B;split at h
    ·rename_i gg;cases h;have gL:gK=id:=Kd gg;subst gL;refine⟨G,E,I,z,C,Steps.head stepR_block (Steps.trans s (.one (stepR_exit ?_)))⟩;rw[e];simp[exitTo]
    ·rename_i gg;cases h;refine⟨G,E,I,z,C,Q,?_,.head stepR_block s⟩;rw[e];have gO:¬id=gK:=λq=>by subst q;rw[K5]at gg;cases gg
     simp[exitTo,gO]
   |ret =>
    cases h;obtain⟨Q,s⟩:=B;exact⟨G,E,I,z,C,Q,.head stepR_block s⟩
 |.scope c=>by
  intro k hk m D F O R T U a w b x K L M j H g h A cs;simp only[Sk]at h;obtain⟨G,E,I,z,C,B⟩:=z2r hm f n c k hk m D F O R T U a w b x K L M j H g h (.inScope c::A) cs;refine⟨G,E,I,z,C,?_⟩;cases x with
  |normal=>exact Steps.head stepR_scope (Steps.trans B (.one stepR_inScope))
  |exit id =>
   obtain⟨Q,e,s⟩:=B;exact⟨Q,e,.head stepR_scope s⟩
  |ret =>
   obtain⟨Q,s⟩:=B;exact⟨Q,.head stepR_scope s⟩
 |.loop c=>by
  intro k hk m D F O R T U a w b x K L M j H g h A cs;simp only[Sk]at h;have ih:=z2r hm f n c;have gR:∀(gY:Nat) (O:CM) (R:Tr AV) (T:List Nat) (U:Heap) (a:Act) (w:World),Both F n O R T U a w→RO O D b.roundOf→tv ((Sk P f n c).run k m D) gY R T U=.ok x K L M →
    ∃C' w' a',O.le C'∧Both F n C' K L M a' w'∧qh P b (lone (b.atR a (.code c::.inLoop c::A)) cs w) cs A a' w' x:=by
   intro gY
   induction gY with
   |zero=>intro O R T U a w _ _ h;cases h
   |succ gY gT =>
    intro O R T U a w j g h;simp only[tv]at h;split at h
    ·cases h
    ·rename_i x1 Z D1 Y h1;obtain⟨G,E,I,z,C,B⟩:=ih k hk m D F O R T U a w b x1 Z D1 Y j H g h1 (.inLoop c::A) cs;cases x1 with
     |normal =>
      dsimp only at h;obtain⟨C2,w2,a2,r1,r2,r3⟩:=gT G Z D1 Y I E C (g.mono z) h;exact⟨C2,w2,a2,CM.le_trans z r1,r2,r3.head (Steps.trans B (.one stepR_inLoop))⟩
     |exit id =>
      cases h;obtain⟨Q,e,s⟩:=B;exact⟨G,E,I,z,C,Q,e,s⟩
     |ret =>
      cases h;obtain⟨Q,s⟩:=B;exact⟨G,E,I,z,C,Q,s⟩
  obtain⟨G,E,I,z,C,B⟩:=gR m O R T U a w j g h;exact⟨G,E,I,z,C,B.head (.one stepR_loop)⟩
 |.rangeFunc gZ ps as bd=>by
  intro k hk m D F O R T U a w b x K L M j H g h A cs;simp only[Sk]at h;split at h
  ·cases h
  ·rename_i gv hg;split at h
   ·cases h
   ·rename_i l D1 Y he;obtain⟨G,E,mark,jg,z,C,B,q4,q5⟩:=zqr (P:=P) he j.rel j.env j.defs g;split at h
    ·rename_i t gV gH;split at h
     ·cases h
     ·rename_i v H2 gU;obtain⟨d,vs,s1,s2,s3⟩:=zqs (P:=P) (w:=E) (ρ:=a.eval) (gop:=gZ) (λ_=>rfl) ((za9 j.env gZ _ hg).mono z) q4 gH;have gD:=hk _ _ _ _ _ _ _ _ _ C s3 gU (b.atR { a with defers:=mark++a.defers } (.inRangeFunc jg.b::A)::cs);obtain⟨C2,w2,v',fr,t1,t2,t3,t4,t5,t6⟩:=gD;rw[←H]at B;have gM:=stepR_rangeFunc (P:=P) (b:=b) (a:=a) (k:=A) (cs:=cs) (w:=w) B s1 s2;have V:=step_leave_returned (c:=b.atR { a with defers:=mark++a.defers } (.inRangeFunc jg.b::A)) (cs:=cs) t6;rw[finish_atR_inRangeFunc]at V;have gF:DR C2 D1 ({ a with defers:=mark++a.defers }:Act).defers:=q5.mono t1;have gG:ER n C2 R ({ a with defers:=mark++a.defers }:Act).tmps:=(j.env.mono z).mono t1;split at h
      ·cases h
      ·rename_i H3 X;cases h;obtain⟨w3,u1,u2⟩:=zlv (P:=P) X t2 (t1.keep _ _ _ q4);refine⟨C2,w3,{ a with defers:=mark++a.defers },CM.le_trans z t1,⟨u2,gG,gF⟩,?_⟩;refine Steps.head gM (Steps.trans t4 (.head V (.one ?_)));rw[stepR_endRangeFunc u1];rfl
      ·rename_i c H3 X;obtain⟨w3,u1,u2⟩:=zlv (P:=P) X t2 (t1.keep _ _ _ q4);split at h
       ·cases h
       ·rename_i x1 hx;cases h;have go:Steps P (lone (b.atR a (.code (.rangeFunc gZ ps as bd)::A)) cs w) (lone (b.atR { a with defers:=mark++a.defers } (.code c::A)) cs w3) :=
         .head gM (Steps.trans t4 (.head V (.one (by rw[stepR_endRangeFunc u1];rfl))))
        refine⟨C2,w3,{ a with defers:=mark++a.defers },CM.le_trans z t1,⟨u2,gG,gF⟩,?_⟩;unfold exOf at hx;split at hx
        ·cases hx;exact⟨A,go⟩
        ·cases hx;exact⟨A,rfl,go⟩
        ·cases hx
    ·cases h
 |.goto _=>by
  intro k hk m D F O R T U a w b x K L M j H g h A cs;cases h
 |.refuse _=>by
  intro k hk m D F O R T U a w b x K L M j H g h A cs;cases h
end
section
open Go.RowKit (Below)
def resF_ok{r:ResultVar}{n:Nat}{w:World}{a:Act}(H:Rel K O F w)(z:ER n O Q a.tmps){v:AV}(h:(resF C r).run Q F=some v) :
  ∃x,(match r with
   |.tmp t=>pure (a.tmps.getD t undef)
   |.cell c t=>do loadVar t (←asAddr (a.tmps.getD c undef)):Sem Value).run C w=.ok x w∧VR O v x:=by
 have g:∀t,a.eval (.tmp t)=a.tmps.getD t undef:=λt=>by
  show a.tmps.getD t undef=_;rfl
 cases r with
 |tmp t =>
  simp only[resF]at h;have:=za9 z _ _ h;rw[g]at this;exact⟨_,by simp[Sem.run_pure],this⟩
 |cell c t =>
  unfold resF at h;dsimp only at h ⊢;split at h
  ·rename_i n ha I;dsimp only at h;split at h
   ·rename_i o A i ho;split at h
    ·rename_i l B;cases h;have hv:=za9 z _ _ ho;rw[g]at hv;generalize a.tmps.getD c undef=P at hv;cases hv with
     |ptr D =>
      obtain⟨E,L,G,M,R,_⟩:=H.read C B D;exact⟨.agg E.toArray,by simp[asAddr,loadVar,z9p ha,Ve I,L],.agg Ev M⟩
    ·cases h
   ·cases h
  ·rename_i n ha I;dsimp only at h;split at h
   ·rename_i o A i ho;split at h
    ·rename_i U B;cases h;have hv:=za9 z _ _ ho;rw[g]at hv;generalize a.tmps.getD c undef=P at hv;cases hv with
     |ptr D =>
      obtain⟨E,L,G,M,R,V,T⟩:=H.read C B D;have j:=T 0 J
      match E,G with
      |[u],.cons hu .nil =>
       simp only[M6,Ks]at j;exact⟨u,by simp[asAddr,loadVar,z9p ha,j],hu⟩
    ·cases h
   ·cases h
  ·cases h
def zvb{L:Program}{n:Nat}{D:World}{E:CM}{M:Tr AV}{O:Heap}{w:World}{a:Act}(B:Rel D E O w)(C:ER n E M a.tmps):∀{l:List ResultVar} {j:List AV},(zqt L l).run M O=some j →
  ∃z,(l.mapM fun
   |.tmp t=>pure (a.tmps.getD t undef)
   |.cell c t=>do loadVar t (←asAddr (a.tmps.getD c undef)):Sem (List Value)).run L w=.ok z w∧VRs E j z
 |[],j,h=>by
  cases h;exact⟨[],by simp[Sem.run_pure],.nil⟩
 |r::l,j,h=>by
  simp only[zqt]at h;split at h
  ·cases h
  ·rename_i v hv;split at h
   ·cases h
   ·rename_i F A;cases h;obtain⟨x,G,H⟩:=resF_ok B C hv;obtain⟨z,I,K⟩:=zvb B C A;refine⟨x::z,?_,.cons H K⟩;rw[List.mapM_cons,Sem.run_bind];have g:=G;cases r<;>(dsimp only at g ⊢;rw[g];simp only[Result.andThen_ok,Sem.run_bind,I,Sem.run_pure])
def zmb{fn:Func}{n:Nat}{w:World}{a:Act}(z:Rel K O F w)(A:ER n O Q a.tmps)(h:(zqt C fn.results.toList).run Q F=some V) :
  ∃x,(results fn a.tmps).run C w=.ok x w∧VR O (match V with
   |[v]=>v
   |l=>.tup l) x:=by
 obtain⟨g,B,D⟩:=zvb z A h;have hm:(fn.results.mapM fun
   |.tmp t=>pure (a.tmps.getD t undef)
   |.cell c t=>do loadVar t (←asAddr (a.tmps.getD c undef)):Sem (Array Value)).run C w=.ok g.toArray w:=by
  rw[Array.mapM_eq_mapM_toList];rw[map_eq_pure_bind,Sem.run_bind,B];rfl
 refine⟨if h:g.toArray.size=1 then g.toArray[0] else .tuple g.toArray,?_,?_⟩
 ·unfold results;rw[Sem.run_bind];exact (congrArg (λr=>Result.andThen r _) hm).trans rfl
 ·cases D with
  |nil=>exact .tup .nil
  |cons e E =>
   cases E with
   |nil=>exact e
   |cons G j =>
    simp only[List.size_toArray,Kh];rw[dif_neg J];exact .tup (.cons e (.cons G j))
def ki{fr:Frame}{j:List Frame}{w:World}{z:List Deferred}(hm:fr.mode=.returning)(hd:fr.defers={ target:=.collected g,args:=#[] }::z)(hw:w.heap[g]?=some (.deferred (some []))) :
  step C (lone fr j w)=.next (lone { fr with defers:=z } j (w.putObj g (.deferred none))) :=
 step_lone_go (by simp[stepG,unwind,hm,hd,Sem.runT_eq,run_takeDeferred hw,GStep.bare_after])
def zut{U:Program}{E:World}{K:CM}:∀{R:List Nat} {G:List Deferred} {H B:Heap} {w:World} {fr:Frame} (g:List Frame),DR K R G→za8 R H=some B→Rel E K H w→fr.mode=.returning→fr.defers=G →
  ∃C,Rel E K B C∧Steps U (lone fr g w) (lone { fr with defers:=[] } g C)
 |_,_,H,B,w,fr,g,.nil,h,j,hm,hd=>by
  cases h;refine⟨w,j,?_⟩;have:fr={ fr with defers:=[] }:=by cases fr;cases hd;rfl
  rw[←this];exact .refl _ _
 |_,_,H,B,w,fr,g,.cons (d:=d) (L:=T) (r:=r) D M,h,j,hm,hd=>by
  simp only[za8]at h;split at h
  ·rename_i O;obtain⟨I,hw⟩:=j.obj _ _ (j.fresh _ _ _ D) O T D;have F:Rel E K (H.put d (.defd false)) (w.putObj T.b (.deferred none)):=j.putBlock D I (λ_ _ _ _ e=>Ar) (λz V A=>by
    rw[D]at A;cases A;exact⟨I,z⟩)
   obtain⟨C,P,Q⟩:=zut (fr:={ fr with defers:=r }) g M h F hm rfl;exact⟨C,P,.head (ki hm hd hw) Q⟩
  ·cases h
def ER.start{gg:CM}{args:List AV}{C:List Value}(hv:VRs gg args C){n:Nat}(hn:n≤S4)(hl:args.length≤n):ER n gg (T9 args 0 .e) (C.toArray++Array.replicate (n-C.toArray.size) undef):=by
 have hlen:=hv.length;refine⟨Ab,hn,λt ht=>?_⟩;rw[get_ofList args 0 .e t,cy];rw[K7];by_cases h:t<args.length
 ·rw[J6 ⟨Nh _,J⟩];obtain⟨a,v,q1,q2,q3⟩:=hv.get' h;rw[Oo,q1];rw[Nd Ab];simp only[Lz,q2,L0];exact q3
 ·rw[J1 J];show _=undef;rw[Array.getElem?_append_right Ab,Array.getElem?_replicate];split<;>rfl
def setPs_ok:∀(g:List Tmp) (args:List AV) (j:List Value) {n:Nat} {F A:Tr AV} {z:Array Value},zyg g args n F=some A→VRs O args j→ER n O F z →
  g.length=j.length∧ER n O A ((g.zip j).foldl (λtmps (t,a)=>tmps.setIfInBounds t a) z):=by
 intro g
 induction g with
 |nil =>
  intro args j n F A z h hv B;cases hv with
  |nil=>cases h;exact⟨rfl,B⟩
  |cons e E=>cases h
 |cons p g G =>
  intro args j n F A z h hv B;cases hv with
  |nil=>cases h
  |cons e E =>
   simp only[zyg]at h;split at h
   ·rename_i H;have C:p<n:=Ki H;have D:=ER.put (a:={ tmps:=z,defers:=[] }) B (d:=some p) (λt I=>by cases I;exact C) e;obtain⟨K,L⟩:=G _ _ h E D;exact⟨Bi,L⟩
   ·cases h
def jx{P:Program}(hm:P.follows .mixedOrders=true){k:Ti}(hk:nw P k){f m:Nat}{w:World}{args:List AV}{z:List Value}{v:AV}(hR:Rel K O F w)(hv:VRs O args z)
  (h:(zic P f).run k m args F=.ok v vU):zpg P K O w (.fn f) z v vU:=by
 unfold zic at h;split at h
 ·cases h
 ·rename_i fn T;split at h
  ·cases h
  ·rename_i B U;split at h
   ·rename_i E;dsimp only at h;split at h
    ·cases h
    ·rename_i G;have C:args.length≤fn.ntmps:=Ki G;split at h
     ·cases h
     ·rename_i x gF gG H1 H;intro D;let b:Frame:={ (default:Frame) with fn:=f,kind:=.normal,roundOf:=none };have A:Frame.enter P f z.toArray .normal=b.atR { tmps:=z.toArray++Array.replicate (fn.ntmps-z.toArray.size) undef,defers:=[] } [.code B]:=by
       simp[Frame.enter,Frame.atR,T,U,b]
      obtain⟨C1,w1,a1,q1,L,V⟩:=z2r hm f fn.ntmps B k hk m none K O (T9 args 0 .e) [] F { tmps:=z.toArray++Array.replicate (fn.ntmps-z.toArray.size) undef,defers:=[] } w b x gF gG H1
       ⟨hR,ER.start hv E C,.nil⟩ rfl trivial H [] D
      rw[←A]at V;have I:∀g,Steps P (lone (Frame.enter P f z.toArray .normal) D w) (lone { b.atR a1 g with mode:=.returning } D w1) →
        (match za8 gG H1 with
         |none=>RV.no
         |some M=>match (zqt P fn.results.toList).run gF M with
          |some [v]=>.ok v M
          |some l=>.ok (.tup l) M
          |none=>.no)=.ok v vU →
        ∃X Y v' Z,O.le X∧Rel K X vU Y∧VR X v v'∧Steps P (lone (Frame.enter P f z.toArray .normal) D w) (lone Z D Y)∧Z.fn=f∧Z.leaving P Y (.returned v'):=by
       intro g hs he;split at he
       ·cases he
       ·rename_i M gg;obtain⟨w2,Q,r2⟩:=zut (fr:={ b.atR a1 g with mode:=.returning }) D L.defs gg L.rel rfl rfl;split at he
        ·rename_i v1 j;cases he;obtain⟨xv,s1,R⟩:=zmb (fn:=fn) Q L.env j;exact⟨C1,w2,xv,_,q1,Q,R,Steps.trans hs r2,rfl,rfl,rfl,rfl,fn,T,s1⟩
        ·rename_i l gD j;cases he;obtain⟨xv,s1,R⟩:=zmb (fn:=fn) Q L.env j;refine⟨C1,w2,xv,_,q1,Q,?_,Steps.trans hs r2,rfl,rfl,rfl,rfl,fn,T,s1⟩;rcases l with _|⟨u,_|⟨u2,l⟩⟩
         ·exact R
         ·exact absurd rfl (gD u)
         ·exact R
        ·cases he
      cases x with
      |exit id=>cases h
      |normal=>exact I [] (Steps.trans V (.one (stepR_end rfl))) h
      |ret =>
       obtain⟨k1,s⟩:=V;exact I (.code .ret::k1) (Steps.trans s (.one (stepR_ret rfl))) h
   ·cases h
def zry{P:Program}{l:Nat}{x:Ex}{v:AV}(h:zk7 l x F=.ok v vU){w:World}(B:Rel K O F w){M:Loc}(z:O l 0=some M) :
  ∃G H,(Instr.endRound M.b (match x with
   |.normal=>none
   |.ret=>some .ret
   |.exit id=>some (.exit id))).run P w=.ok H G∧Rel K O vU G∧VR O v H:=by
 unfold zk7 at h;split at h
 ·rename_i st I f n T R a b d Q;obtain⟨A,C,D,hd,hw,E⟩:=B.obj _ _ (B.fresh _ _ _ z) Q M z;split at h
  ·cases h;refine⟨_,_,run_endRound none hw,B.putBlock z A (λ_ _ _ _ e=>Ar) (λg L j=>?_),.bool true⟩;rw[z]at j;cases j;exact⟨A,C,D,hd,g,E⟩
  ·cases h;refine⟨_,_,run_endRound (some .ret) hw,B.putBlock z A (λ_ _ _ _ e=>Ar) (λg L j=>?_),.bool false⟩;rw[z]at j;cases j;exact⟨A,C,D,hd,g,E⟩
  ·rename_i id;cases h;refine⟨_,_,run_endRound (some (.exit id)) hw,B.putBlock z A (λ_ _ _ _ e=>Ar) (λg L j=>?_),.bool false⟩;rw[z]at j;cases j;exact⟨A,C,D,hd,g,E⟩
 ·cases h
def qx{P:Program}{l:Nat}(h:zvh l F=some vU){w:World}(A:Rel K O F w){E:Loc}(z:O l 0=some E) :
  ∃B,(Instr.beginRound E.b).run P w=.ok () B∧Rel K O vU B:=by
 unfold zvh at h;split at h
 ·rename_i C f n R M a b d G;cases h;obtain⟨D,H,I,hd,hw,L⟩:=A.obj _ _ (A.fresh _ _ _ z) G E z;refine⟨_,run_beginRound hw rfl,A.putBlock z D (λ_ _ _ _ e=>Ar) (λg Q j=>?_)⟩;rw[z]at j;cases j;exact⟨D,H,I,hd,g,L⟩
 ·cases h
def zdv{P:Program}(hm:P.follows .mixedOrders=true){gD:Ti}(Z:nw P gD):∀m,nw P (U6 P gD m)
 |0=>λ_ _ _ _ _ _ _ _ _ _ _ h=>Ak
 |m+1=>by
  have K:=zdv hm Z m;intro w0 gG gH w t gg A v H' B hv h;unfold U6 at h;cases t with
  |fn f =>
   dsimp only at h;split at h
   ·rename_i v1 H1 ho;cases h;exact Z _ _ _ _ _ _ _ _ _ B hv ho
   ·exact jx hm K B hv h
  |yield l =>
   dsimp only at h;split at h
   ·rename_i f n gI C a b d hg;split at h
    ·cases h
    ·rename_i E1 L;split at h
     ·rename_i E2 H2 M;split at h
      ·cases h
      ·rename_i O Q;split at h
       ·cases h
       ·rename_i x E3 gK H3 R;split at h
        ·intro gF D c cs;obtain⟨hB,E,Ld,hd,hw,hE⟩:=B.obj _ _ (B.fresh _ _ _ D) hg gF D;obtain⟨F,T⟩:=setPs_ok _ _ _ L hv hE;have U:=run_yield (P:=P) (args:=A.toArray) hw (by simpa using F.symm);dsimp only at U;have z:((C.zip A.toArray).foldl (λg (t,a)=>g.setIfInBounds t a) E)=((C.toList.zip A).foldl (λg (t,a)=>g.setIfInBounds t a) E):=by
          rw[←Array.foldl_toList,Array.toList_zip]
         rw[z]at U;let G:Frame:={ (default:Frame) with fn:=f,kind:=.normal,roundOf:=some gF.b };have H:RO gG (some l) G.roundOf:=⟨gF,D,rfl⟩;obtain⟨C1,w1,a1,I,V,q3⟩:=z2r hm f n a (U6 P gD m) K m (some l) w0 gG E1 [] gH { tmps:=(C.toList.zip A).foldl (λg (t,a)=>g.setIfInBounds t a) E,defers:=[] } w G .normal E2 [] H2
          ⟨B,T,.nil⟩ rfl H M [.beginRound,.code b] (c::cs)
         obtain⟨w2,r1,r2⟩:=qx (P:=P) Q V.rel (I.keep _ _ _ D);obtain⟨C2,w3,a3,s1,s2,X⟩:=z2r hm f n b (U6 P gD m) K m (some l) w0 C1 E2 [] O a1 w2 G x E3 [] H3 ⟨r2,V.env,V.defs⟩ rfl (H.mono I) R [] (c::cs);obtain⟨w4,xv,Y,t2,t3⟩:=zry (P:=P) h s2.rel (s1.keep _ _ _ (I.keep _ _ _ D));refine⟨C2,w4,xv,f,_,a,b,CM.le_trans I s1,t2,t3,U,?_⟩;have j:Frame.round gF.b f ((C.toList.zip A).foldl (λg (t,a)=>g.setIfInBounds t a) E) a b .normal=G.atR { tmps:=(C.toList.zip A).foldl (λg (t,a)=>g.setIfInBounds t a) E,defers:=[] } [.code a,.beginRound,.code b]:=by
          simp[Frame.round,Frame.atR,G]
         rw[j];refine Steps.trans q3 (.head (stepR_beginRound rfl r1) ?_);cases x with
         |normal=>exact Steps.trans X (.one (stepR_round_end rfl rfl Y))
         |ret =>
          obtain⟨k1,s⟩:=X;exact Steps.trans s (.one (stepR_round_ret rfl rfl Y))
         |exit id =>
          obtain⟨k1,e,s⟩:=X;exact Steps.trans s (.one (stepR_round_exit rfl rfl e Y))
        ·cases h
     ·cases h
   ·cases h
def Rel.start(w:World):Rel w ⟨λ_ _=>none,0⟩ ⟨.e,0⟩ w :=
 ⟨rfl,.refl _ _,λ_ _ _ h=>Ak,λ_ _ _ h=>Ak,λ_ _ _ _ _ _ h=>Ak,λ_ _ h=>absurd h (Oi _),λ_ _ _ _ _ h=>absurd h (Oi _)⟩
end
section
open Go.RowKit Go.ChangeShapes Go.WideShapes Go.ChangeAt
variable {H : Type} {enc : TypeId × Value → H} {P : Program}
def zw8{f:Func}{s:ChangeSpec}{E j F:Bool}{W:World}{args:Array Value}{v:Value}{L gs:List (DataW H)}{g pa pv:List MemPlace}
  (T:DataW.Whole enc P f.params.toList s.vars M W args.toList L gs g)
  (C:∀(b:Nat) (G:Nat→Bool) (hd:Bool),DataW.TrodAll enc P K b G hd f.resultTypes.toList (v.resultList f.resultTypes.size) (s.fn H (L++gs)).results [])
  (z:∀G:Nat→Bool,(∀p∈g,G p.block=true)→DataW.TrodAll enc P K 0 G true f.params.toList args.toList (s.fn H (L++gs)).args pa)
  (A:∀G:Nat→Bool,(∀p∈g,G p.block=true)→DataW.TrodVars enc P K G s.vars (s.fn H (L++gs)).vars pv)
  (B:g=pa++pv) (hb:Below W.heap.size W K)
  (U:∀(X:Nat) (t:TypeId) (r:Value),f.resultTypes[X]?=some t→(v.resultList f.resultTypes.size)[X]?=some r→Value.okWide P K .any 0 t r) :
  s.post enc P f M E j F W args v K:=by
 have O:=T.lt;obtain⟨_,_,_,_,_,V,hn⟩:=id T;have Q:∀p∈g,(λb=>decide (b<W.heap.size)) p.block=true:=λp D=>by simpa using O p D
 refine⟨L,gs,g,[],pa,pv,T,C _ _ _,z _ Q,A _ Q,World.keptBut_mono (λp D=>⟨D,.inr (Kx.1 (B ▸ D))⟩) (hb.frame (·∈g)),λ_=>?_⟩;refine⟨U,_,_,([]++pa)++pv,⟨[]++pa,pv,trodAll_append (z _ (λ_ _=>rfl)) (C _ _ _),A _ (λ_ _=>rfl),rfl,λb I D=>?_,λha=>?_⟩,λp D _=>by rw[B];simpa using D⟩
 ·have R:MemPlace.cell b I∈g:=by rw[B];simpa using D
  rw[hb.frozen (p:=⟨b,I,none⟩) (O _ R)];exact V b I R
 ·have:=hn ha;rw[B]at this;simpa using this
end
def Ti.le(k k':Ti):Prop:=∀t a H v H',k t a H=.ok v H'→k' t a H=.ok v H'
def z44{n:Nat}{ops:Array Oper}{o:Oper}{k z:Ti}(hk:k.le z)(h:(Ts C n ops o).run k Q F=.ok uV vU):(Ts C n ops o).run z Q F=.ok uV vU:=by
 unfold Ts at h ⊢;cases A:Tq n o.dst with
 |none=>rw[A]at h;cases h
 |some p =>
  rw[A]at h;dsimp only at h ⊢;cases B:(Vh ops o).run Q with
  |false=>rw[B]at h;exact h
  |true =>
   rw[B]at h;dsimp only at h ⊢;cases j:(Qq C o.op).run Q F with
   |no=>rw[j]at h;cases h
   |val v D=>rw[j]at h;exact h
   |call t g =>
    rw[j]at h;dsimp only at h ⊢;cases hc:k t g F with
    |no=>rw[hc]at h;cases h
    |ok v D=>rw[hc]at h;rw[hk _ _ _ _ _ hc];exact h
def z9c{r:OE}{f:Tr AV→Heap→OE}(h:(OE.rec .no f r:OE)=.ok Q F):∃g j,r=.ok g j∧f g j=.ok Q F:=by
 cases r with
 |no=>cases h
 |ok g j=>exact⟨g,j,rfl,h⟩
def zcb{E:Program}{n:Nat}{ops:Array Oper}{k z:Ti}(hk:k.le z):∀{l:List Oper} {A g:Tr AV} {B j:Heap},(zd E n ops l).run k A B=.ok g j→(zd E n ops l).run z A B=.ok g j
 |[],_,_,_,_,h=>h
 |o::l,A,g,B,j,h=>by
  simp only[zd]at h ⊢;obtain⟨F,G,C,D⟩:=z9c h;rw[z44 hk C];exact zcb hk D
def z5w{K:Program}{n:Nat}{ops:Array Oper}{k G:Ti}(hk:k.le G):∀{l g:List DOp} {H A:Tr AV} {I B:Heap},(X1 K n ops l g).run k H I=.ok A B→(X1 K n ops l g).run G H I=.ok A B
 |[],_,_,_,_,_,h=>h
 |x::l,g,H,A,I,B,h=>by
  simp only[X1]at h ⊢;split at h
  ·rename_i hc;obtain⟨C,D,j,z⟩:=z9c h;dsimp only;rw[z44 hk j];exact z5w hk z
  ·rename_i hc;obtain⟨C,D,j,z⟩:=z9c h;dsimp only;rw[z44 hk j];exact z5w hk z
  ·rename_i hc;obtain⟨C,D,j,z⟩:=z9c h;obtain⟨E,F⟩:=zan z;dsimp only;rw[z44 hk j];dsimp only;rw[E];exact z5w hk F
  ·rename_i hc;obtain⟨C,D,j,z⟩:=z9c h;obtain⟨E,F⟩:=zan z;dsimp only;rw[z44 hk j];dsimp only;rw[E];exact z5w hk F
def znl{n:Nat}{ops:Array Oper}{k g:Ti}(hk:k.le g)(h:(zab C n ops).run k Q F=.ok uV vU):(zab C n ops).run g Q F=.ok uV vU:=by
 unfold zab at h ⊢;dsimp only at h ⊢;split at h
 ·exact z5w hk h
 ·cases h
def zcs{f G:Tr AV→List Nat→Heap→Res}(E:∀B C D x g j z,f B C D=.ok x g j z→G B C D=.ok x g j z):∀{m A:Nat},m≤A→∀{B C D x g j z},tv f m B C D=.ok x g j z→tv G A B C D=.ok x g j z
 |0,_,_,_,_,_,_,_,_,_,h=>Ak
 |m+1,0,hm,_,_,_,_,_,_,_,_=>J
 |m+1,A+1,hm,B,C,D,x,g,j,z,h=>by
  simp only[tv]at h ⊢;split at h
  ·cases h
  ·rename_i y H I K F;rw[E _ _ _ _ _ _ _ F];dsimp only;split at h
   ·exact zcs E J h
   ·exact h
def z2i{P:Program}{f n:Nat}{k M:Ti}(hk:k.le M){m:Nat}(hm:m≤g):∀(c:Code) {B:Tr AV} {C:List Nat} {D:Heap} {x:Ex} {j:Tr AV} {z:List Nat} {A:Heap},
  (Sk P f n c).run k m vG B C D=.ok x j z A→(Sk P f n c).run M g vG B C D=.ok x j z A:=by
 intro c
 induction c with
 |skip=>intro B C D x j z A h;exact h
 |region id ops draw =>
  intro B C D x j z A h;simp only[Sk]at h ⊢;cases draw with
  |true =>
   dsimp only at h ⊢;split at h
   ·cases h
   ·rename_i I K E;rw[znl hk E];exact h
  |false =>
   dsimp only at h ⊢;split at h
   ·cases h
   ·rename_i I K E;rw[zcb hk E];exact h
 |seq a b F G =>
  intro B C D x j z A h;simp only[Sk]at h ⊢;cases L:(Sk P f n a).run k m vG B C D with
  |no=>rw[L]at h;cases h
  |ok y I O K =>
   rw[L]at h;rw[F L];dsimp only at h ⊢;cases y with
   |normal=>exact G h
   |exit id=>exact h
   |ret=>exact h
 |cond c a b F G =>
  intro B C D x j z A h;simp only[Sk]at h ⊢;split at h
  ·split at h
   ·exact F h
   ·exact G h
  ·cases h
 |block id c H =>
  intro B C D x j z A h;simp only[Sk]at h ⊢;split at h
  ·cases h
  ·rename_i y I O K E;rw[H E];exact h
 |loop c H =>
  intro B C D x j z A h;simp only[Sk]at h ⊢;exact zcs (λB C D x j z A h=>H h) hm h
 |rangeFunc T Q a b _ _ =>
  intro B C D x j z A h;simp only[Sk]at h ⊢;split at h
  ·cases h
  ·split at h
   ·cases h
   ·split at h
    ·split at h
     ·cases h
     ·rename_i v R E;rw[hk _ _ _ _ _ E];exact h
    ·cases h
 |exit id=>intro B C D x j z A h;exact h
 |scope c H=>intro B C D x j z A h;exact H h
 |label l=>intro B C D x j z A h;exact h
 |ret=>intro B C D x j z A h;exact h
 |_=>intro B C D x j z A h;cases h
def zs9{P:Program}{f:Nat}{k A:Ti}(hk:k.le A){m:Nat}(hm:m≤g){v:AV}(h:(zic P f).run k m V F=.ok v vU):(zic P f).run A g V F=.ok v vU:=by
 unfold zic at h ⊢;cases B:P.funcs[f]? with
 |none=>rw[B]at h;cases h
 |some fn =>
  rw[B]at h;dsimp only at h ⊢;cases hb:fn.body with
  |none=>rw[hb]at h;cases h
  |some j =>
   rw[hb]at h;dsimp only at h ⊢;by_cases C:fn.ntmps≤S4
   ·rw[J6 C]at h ⊢;dsimp only at h ⊢;cases ha:Nat.ble V.length fn.ntmps with
    |false=>rw[ha]at h;cases h
    |true =>
     rw[ha]at h;dsimp only at h ⊢;cases z:(Sk P f fn.ntmps j).run k m none (T9 V 0 .e) [] F with
     |no=>rw[z]at h;cases h
     |ok x E G D=>rw[z]at h;rw[z2i hk hm _ z];exact h
   ·rw[J1 C]at h;cases h
def yz{P:Program}{O:Ti}:∀{m g:Nat},m≤g→Ti.le (U6 P O m) (U6 P O g)
 |0,_,_=>λt a H v C h=>Ak
 |m+1,0,h=>J
 |m+1,g+1,hm=>by
  have j:=yz (P:=P) (O:=O) (J:m≤g);intro t a H v C h;unfold U6 at h ⊢;cases t with
  |fn f =>
   dsimp only at h ⊢;cases ho:O (.fn f) a H with
   |no=>rw[ho]at h;exact zs9 j J h
   |ok I K=>rw[ho]at h;exact h
  |yield l =>
   dsimp only at h ⊢;split at h
   ·rename_i f n L D M b d Q;cases B:zyg D.toList a n L with
    |none=>rw[B]at h;cases h
    |some R =>
     rw[B]at h;dsimp only at h ⊢;split at h
     ·rename_i E F G;rw[z2i j J _ G];dsimp only;cases hb:zvh l F with
      |none=>rw[hb]at h;cases h
      |some z =>
       rw[hb]at h;dsimp only at h ⊢;cases A:(Sk P f n b).run (U6 P O m) m (some l) E [] z with
       |no=>rw[A]at h;cases h
       |ok x T V U=>rw[A]at h;rw[z2i j J _ A];exact h
     ·cases h
   ·cases h
section
noncomputable section
abbrev uk:=Nat→Option AV
def Xv(E:Tr AV)(ρ:uk):Prop:=∀t,t≤S4→Pg (Pz t) E=ρ t
inductive Ox where
 |t (i:Nat)
 |c (a:AV)
def Ox.ev(ρ:uk):Ox→AV
 |.t i=>(ρ i).getD Um
 |.c a=>a
def Qu:Operand→Option Ox
 |.tmp t=>if t≤S4 then some (.t t) else none
 |.const v=>(Z8 v).map .c
 |.func f=>some (.c (.fn (.func f) [] []))
 |.global _=>none
def Ww{x:Operand}{r:Ox}(h:Qu x=some r){E:Tr AV}{ρ:uk}(j:Xv E ρ):(P3 x).run E=some (r.ev ρ):=by
 cases x with
 |tmp t =>
  simp only[Qu]at h;split at h
  ·rename_i g;cases h;unfold P3;dsimp only;rw[Kc g];dsimp only;rw[j t g];simp only[Ox.ev];cases ρ t<;>rfl
  ·cases h
 |const v =>
  simp only[Qu]at h;cases hv:Z8 v with
  |none=>rw[hv]at h;cases h
  |some a=>rw[hv]at h;cases h;unfold P3;dsimp only;rw[hv];rfl
 |global z=>cases h
 |func f=>cases h;rfl
def yr:List Operand→Option (List Ox)
 |[]=>some []
 |x::l=>match Qu x with
  |none=>none
  |some r=>match yr l with
   |none=>none
   |some g=>some (r::g)
def resOs_ok:∀{l:List Operand} {g:List Ox},yr l=some g→∀{E:Tr AV} {ρ:uk},Xv E ρ→(opds l).run E=some (g.map (·.ev ρ))
 |[],g,h,E,ρ,j=>Ci
 |x::l,g,h,E,ρ,j=>by
  simp only[yr]at h;cases z:Qu x with
  |none=>rw[z]at h;cases h
  |some r =>
   rw[z]at h;dsimp only at h;cases A:yr l with
   |none=>rw[A]at h;cases h
   |some B =>
    rw[A]at h;cases h;unfold opds;dsimp only;rw[Ww z j,resOs_ok A j];rfl
def zdi:Option Operand→Option (Option Ox)
 |none=>some none
 |some x=>match Qu x with
  |none=>none
  |some r=>some (some r)
def R9(ρ:uk):Option Ox→Option (Option Nat)
 |none=>some none
 |some r=>match r.ev ρ with
  |.int _ (.ofNat n)=>some (some n)
  |_=>none
def z6t{x:Option Operand}{r:Option Ox}(h:zdi x=some r){E:Tr AV}{ρ:uk}(j:Xv E ρ):(Sy x).run E=R9 ρ r:=by
 cases x with
 |none=>cases h;rfl
 |some x =>
  simp only[zdi]at h;cases g:Qu x with
  |none=>rw[g]at h;cases h
  |some q =>
   rw[g]at h;cases h;unfold Sy R9;dsimp only;rw[Ww g j];generalize q.ev ρ=a;split
   ·rename_i n e;cases e;rfl
   ·rename_i e;split
    ·rename_i k n;exact absurd rfl (e k n)
    ·rfl
inductive ROp where
 |move (x:Ox)
 |pick (c a b:Ox)
 |alloc (l:List AV)
 |box (x:Ox)
 |build (cs:List AV) (ps:List (Nat×Nat×Ox))
 |buildSl (size len:Nat) (cs:List AV) (ps:List (Nat×Nat×Ox))
 |load1 (x:Ox)
 |loadN (n:Nat) (x:Ox)
 |store (n:Nat) (x y:Ox)
 |nilChk (x:Ox)
 |bin (op:BinOp) (g:Bool) (t:TypeId) (x y:Ox)
 |un (op:UnOp) (x:Ox)
 |cvInt (k:IntKind) (x:Ox)
 |cvStr (x:Ox)
 |cvSame (x:Ox)
 |cvBytes (x:Ox)
 |mkIface (t:TypeId) (x:Ox)
 |mkFunc (f:Fn) (first cap:List Ox)
 |mkMap0
 |mkMap1 (x:Ox)
 |mkSl (size:Nat) (z:List AV) (l c:Ox)
 |slStr (x:Ox) (lo hi:Option Ox)
 |slSl (size:Nat) (x:Ox) (lo hi mx:Option Ox)
 |slArr (n size:Nat) (x:Ox) (lo hi mx:Option Ox)
 |fieldAddr (off:Nat) (x:Ox)
 |field (g:Bool) (n off:Nat) (x:Ox)
 |ixAddr (size:Nat) (x i:Ox)
 |ixAddrArr (len size:Nat) (x i:Ox)
 |ixStr (x i:Ox)
 |ixArr (g:Bool) (len size:Nat) (x i:Ox)
 |lookup (d:TypeDesc) (z:AV) (ok:Bool) (x i:Ox)
 |mapUpd (d:TypeDesc) (m k v:Ox)
 |range (x:Ox)
 |next (x:Ox)
 |assert (z:AV) (ok:Bool) (t:TypeId) (x:Ox)
 |extract (i:Nat) (x:Ox)
 |lenStr (x:Ox)
 |lenSl (x:Ox)
 |lenMap (x:Ox)
 |lenArr (n:Nat) (x:Ox)
 |cap (x:Ox)
 |maxi (mx:Bool) (l:List Ox)
 |appZ (size:Nat) (z:List AV) (s x:Ox)
 |appG (size:Nat) (s x:Ox)
 |copy (size:Nat) (d x:Ox)
 |clear (size:Nat) (z:List AV) (x:Ox)
 |delete (d:TypeDesc) (m k:Ox)
 |callV (f:Ox) (args:List Ox)
 |invoke (r:Ox) (name:String) (args:List Ox)
def fillR(ρ:uk)(cs:List AV):List (Nat×Nat×Ox)→Option (List AV)
 |[]=>some cs
 |(j,g,x)::z=>match (x.ev ρ).cells with
  |none=>none
  |some l=>match Nat.beq l.length g with
   |true=>match Nat.ble (Nat.add j g) cs.length with
    |true=>fillR ρ (Wy cs j l) z
    |false=>none
   |false=>none
def Rg(P:Program)(ρ:uk)(j:Heap):ROp→OR
 |.move x=>.val (x.ev ρ) j
 |.pick c a b=>match c.ev ρ with
  |.bool true=>.val (a.ev ρ) j
  |.bool false=>.val (b.ev ρ) j
  |_=>.no
 |.alloc l=>Zx j l
 |.box x=>match (x.ev ρ).cells with
  |some l=>Zx j l
  |none=>.no
 |.build R T=>match fillR ρ R T with
  |some l=>.val (.agg l) j
  |none=>.no
 |.buildSl g len R T=>match fillR ρ R T with
  |some l=>match newObj j l with
   |some (o,C)=>.val (.sl o 0 0 len g (some len)) C
   |none=>.no
  |none=>.no
 |.load1 x=>match x.ev ρ with
  |.ptr o v i=>match Tn j o v i 1 with
   |some [c]=>.val c j
   |_=>.no
  |_=>.no
 |.loadN n x=>match x.ev ρ with
  |.ptr o v i=>match Tn j o v i n with
   |some l=>.val (.agg l) j
   |none=>.no
  |_=>.no
 |.store n x y=>match x.ev ρ with
  |.ptr o v i=>match (y.ev ρ).cells with
   |some l=>match Nat.beq l.length n with
    |true=>match Zh j o v i l with
     |some C=>.val Um C
     |none=>.no
    |false=>.no
   |none=>.no
  |_=>.no
 |.nilChk x=>z7x j (x.ev ρ)
 |.bin op V t x y=>ret1 j (R3 P op V t (x.ev ρ) (y.ev ρ))
 |.un op x=>ret1 j (unA op (x.ev ρ))
 |.cvInt k x=>match x.ev ρ with
  |.int _ n=>.val (.int k (Xy k n)) j
  |_=>.no
 |.cvStr x=>match x.ev ρ with
  |.nilSl=>.val (.str 0 0) j
  |.sl o v i len 1 _=>match Tn j o v i len with
   |some l=>match Y6.bytesA l with
    |some n=>.val (.str len n) j
    |none=>.no
   |none=>.no
  |_=>.no
 |.cvSame x=>match x.ev ρ with
  |.str l n=>.val (.str l n) j
  |_=>.no
 |.cvBytes x=>match x.ev ρ with
  |.str len n=>match newObj j ((Y3 len n).map λ(b:Nat)=>AV.int .u8 (Int.ofNat b)) with
   |some (o,C)=>.val (.sl o 0 0 len 1 none) C
   |none=>.no
  |_=>.no
 |.mkIface t x=>.val (.iface t (x.ev ρ)) j
 |.mkFunc f first cap=>.val (.fn f (first.map (·.ev ρ)) (cap.map (·.ev ρ))) j
 |.mkMap0=>gc j
 |.mkMap1 x=>match x.ev ρ with
  |.int _ _=>gc j
  |_=>.no
 |.mkSl g L l c=>match l.ev ρ,c.ev ρ with
  |.int .i64 (.ofNat l),.int .i64 (.ofNat c)=>match Nat.ble l c with
   |true=>match Nat.ble c 1048576 with
    |true=>match newObj j (Wb L c) with
     |some (o,C)=>.val (.sl o 0 0 l g (some c)) C
     |none=>.no
    |false=>.no
   |false=>.no
  |_,_=>.no
 |.slStr x B hi=>match x.ev ρ,R9 ρ B,R9 ρ hi with
  |.str len n,some B,some hi =>
   let l:=B.getD 0;let h:=hi.getD len
   match Nat.ble l h with
   |true=>match Nat.ble h len with
    |true=>.val (.str (Nat.sub h l) (Nat.mod (Nat.div n (Nat.pow 256 l)) (Nat.pow 256 (Nat.sub h l)))) j
    |false=>.no
   |false=>.no
  |_,_,_=>.no
 |.slSl g x B hi H=>match x.ev ρ,R9 ρ B,R9 ρ hi,R9 ρ H with
  |.sl o v i len A M,some B,some hi,some H=>ret1 j (Yk g B hi H o v i len A M)
  |.nilSl,some B,some hi,some none=>match Nat.beq (Nat.add (B.getD 0) (hi.getD 0)) 0 with
   |true=>.val .nilSl j
   |false=>.no
  |.emp,some B,some hi,some none=>match Nat.beq (Nat.add (B.getD 0) (hi.getD 0)) 0 with
   |true=>.val .emp j
   |false=>.no
  |_,_,_,_=>.no
 |.slArr n g x B hi H=>match x.ev ρ,R9 ρ B,R9 ρ hi,R9 ρ H with
  |.ptr o v i,some B,some hi,some H=>match j.get o with
   |some (.cells _ O U false)=>match Nat.beq v U with
    |true=>match Nat.ble (Nat.add i (Nat.mul n g)) O with
     |true=>ret1 j (Yk g B hi H o v i n g (some n))
     |false=>.no
    |false=>.no
   |_=>.no
  |_,_,_,_=>.no
 |.fieldAddr I x=>match x.ev ρ with
  |.ptr o v i=>.val (.ptr o v (Nat.add i I)) j
  |_=>.no
 |.field V n I x=>match x.ev ρ with
  |.agg l=>ret1 j (rz V n l I)
  |_=>.no
 |.ixAddr g x i=>match x.ev ρ,i.ev ρ with
  |.sl o v i len A _,.int _ (.ofNat n)=>match Nat.blt n len with
   |true=>match Nat.beq A g with
    |true=>.val (.ptr o v (Nat.add i (Nat.mul n A))) j
    |false=>.no
   |false=>.no
  |_,_=>.no
 |.ixAddrArr len g x i=>match x.ev ρ,i.ev ρ with
  |.ptr o v i,.int _ (.ofNat n)=>match Nat.blt n len with
   |true=>.val (.ptr o v (Nat.add i (Nat.mul n g))) j
   |false=>.no
  |_,_=>.no
 |.ixStr x i=>match x.ev ρ,i.ev ρ with
  |.str len n,.int _ (.ofNat i)=>match Nat.blt i len with
   |true=>.val (.int .u8 (Int.ofNat (Nat.mod (Nat.div n (Nat.pow 256 i)) 256))) j
   |false=>.no
  |_,_=>.no
 |.ixArr V len g x i=>match x.ev ρ,i.ev ρ with
  |.agg l,.int _ (.ofNat n)=>match Nat.blt n len with
   |true=>ret1 j (rz V g l (Nat.mul n g))
   |false=>.no
  |_,_=>.no
 |.lookup d L ok x i=>match zyq j (x.ev ρ) with
  |none=>.no
  |some K=>match zo9 d (i.ev ρ) K with
   |some (some v)=>.val (if ok then .tup [v,.bool true] else v) j
   |some none=>.val (if ok then .tup [L,.bool false] else L) j
   |none=>.no
 |.mapUpd d m k v=>match m.ev ρ with
  |.map o=>match j.get o with
   |some (.map K z)=>match zca d (k.ev ρ) (v.ev ρ) z K with
    |some (D,true)=>.val Um (j.put o (.map D (Nat.add z 1)))
    |some (D,false)=>.val Um (j.put o (.map D z))
    |none=>.no
   |_=>.no
  |_=>.no
 |.range x=>match x.ev ρ with
  |.str len n=>.val (.ptr j.next 0 0) (j.push (.iter len n 0))
  |_=>.no
 |.next x=>match x.ev ρ with
  |.ptr o 0 0=>match j.get o with
   |some (.iter len n F)=>match Nat.blt F len with
    |true=>match Nat.blt (Nat.mod (Nat.div n (Nat.pow 256 F)) 256) 128 with
     |true=>.val (.tup [.bool true,.int .i64 (Int.ofNat F),.int .i32 (Int.ofNat (Nat.mod (Nat.div n (Nat.pow 256 F)) 256))]) (j.put o (.iter len n (Nat.add F 1)))
     |false=>.no
    |false=>.val (.tup [.bool false]) j
   |_=>.no
  |_=>.no
 |.assert L ok t x=>match x.ev ρ with
  |.nilIf=>if ok then .val (.tup [L,.bool false]) j else .no
  |.iface X v=>match Nat.beq X t with
   |true=>.val (if ok then .tup [v,.bool true] else v) j
   |false=>if ok then .val (.tup [L,.bool false]) j else .no
  |_=>.no
 |.extract i x=>match x.ev ρ with
  |.tup l=>ret1 j l[i]?
  |_=>.no
 |.lenStr x=>match x.ev ρ with
  |.str l _=>.val (.int .i64 (Int.ofNat l)) j
  |_=>.no
 |.lenSl x=>match x.ev ρ with
  |.sl _ _ _ len _ _=>.val (.int .i64 (Int.ofNat len)) j
  |.nilSl=>.val (.int .i64 0) j
  |.emp=>.val (.int .i64 0) j
  |_=>.no
 |.lenMap x=>match x.ev ρ with
  |.nilMap=>.val (.int .i64 0) j
  |.map o=>match j.get o with
   |some (.map K _)=>.val (.int .i64 (Int.ofNat K.length)) j
   |_=>.no
  |_=>.no
 |.lenArr n _=>.val (.int .i64 (Int.ofNat n)) j
 |.cap x=>match x.ev ρ with
  |.nilSl=>.val (.int .i64 0) j
  |.sl _ _ _ _ _ (some r)=>.val (.int .i64 (Int.ofNat r)) j
  |_=>.no
 |.maxi H l=>match (l.map (λ(x:Ox)=>x.ev ρ):List AV) with
  |.int k n::l=>ret1 j (lu H (.int k n) l)
  |_=>.no
 |.appZ g L s x=>match x.ev ρ with
  |.int .i64 (.ofNat n)=>match Nat.ble n 1048576 with
   |true=>Zk j g (s.ev ρ) n (Wb L n)
   |false=>.no
  |_=>.no
 |.appG g s x=>match ow j g (x.ev ρ) with
  |some (n,l)=>match Nat.ble n 1048576 with
   |true=>Zk j g (s.ev ρ) n l
   |false=>.no
  |none=>.no
 |.copy g d x=>match ow j g (x.ev ρ) with
  |some (n,l)=>match d.ev ρ with
   |.nilSl=>.val (.int .i64 0) j
   |.emp=>.val (.int .i64 0) j
   |.sl o v i len A _=>match Nat.beq A g with
    |true=>match Zh j o v i (l.take (Nat.mul (Sx n len) g)) with
     |some C=>.val (.int .i64 (Int.ofNat (Sx n len))) C
     |none=>.no
    |false=>.no
   |_=>.no
  |none=>.no
 |.clear g L x=>match x.ev ρ with
  |.nilSl=>.val Um j
  |.emp=>.val Um j
  |.sl o v i len A _=>match Nat.beq A g with
   |true=>match Zh j o v i (Wb L len) with
    |some C=>.val Um C
    |none=>.no
   |false=>.no
  |_=>.no
 |.delete d m k=>match m.ev ρ with
  |.map o=>match j.get o with
   |some (.map K z)=>match zj4 d (k.ev ρ) K with
    |some D=>.val Um (j.put o (.map D z))
    |none=>.no
   |_=>.no
  |_=>.no
 |.callV f G=>zjy P j (f.ev ρ) (G.map (·.ev ρ))
 |.invoke r Q G=>match r.ev ρ with
  |.iface t v=>match zij P t Q with
   |some f=>match z7j P f with
    |true=>.call (.fn f) (v::G.map (·.ev ρ))
    |false=>.no
   |none=>.no
  |_=>.no
def zk(g:Nat→Option (Nat×Nat)):List (Nat×Operand)→Option (List (Nat×Nat×Ox))
 |[]=>some []
 |(i,x)::l=>match g i with
  |none=>none
  |some (o,s)=>match Qu x with
   |none=>none
   |some r=>match zk g l with
    |none=>none
    |some q=>some ((o,s,r)::q)
def Rv(x:Operand)(f:Ox→ROp):Option ROp:=match Qu x with
 |none=>none
 |some r=>some (f r)
def Ud(x y:Operand)(f:Ox→Ox→ROp):Option ROp:=match Qu x with
 |none=>none
 |some r=>match Qu y with
  |none=>none
  |some q=>some (f r q)
def zhu(g:Nat)(f:Nat→Ox→Option Ox→Option Ox→Option Ox→ROp)(x:Operand)(j hi z:Option Operand):Option ROp :=
 match Qu x,zdi j,zdi hi,zdi z with
 |some r,some a,some b,some c=>some (f g r a b c)
 |_,_,_,_=>none
def zsa(P:Program)(c:Call):Option ROp :=
 match c.callee with
 |.builtin b=>match b with
  |.len=>match c.argTypes.toList,c.args.toList with
   |[t],[x]=>match P.underlying t with
    |some .string=>Rv x .lenStr
    |some (.slice _)=>Rv x .lenSl
    |some (.map _ _)=>Rv x .lenMap
    |some (.array n _)=>Rv x (.lenArr n)
    |_=>none
   |_,_=>none
  |.cap=>match c.argTypes.toList,c.args.toList with
   |[t],[x]=>match P.underlying t with
    |some (.slice _)=>Rv x .cap
    |_=>none
   |_,_=>none
  |.max=>match yr c.args.toList with
   |some l=>some (.maxi true l)
   |none=>none
  |.min=>match yr c.args.toList with
   |some l=>some (.maxi false l)
   |none=>none
  |.append=>match c.argTypes.toList,c.args.toList with
   |[st,B],[s,x]=>match P.underlying st,P.underlying B with
    |some (.slice g),some d=>match P.info? g,Vl P g with
     |some i,some C=>if 0<i.size∧i.bytes≤65536 then match d with
      |.int _=>Ud s x (.appZ i.size C)
      |.slice _=>Ud s x (.appG i.size)
      |.string=>Ud s x (.appG i.size)
      |_=>none
      else none
     |_,_=>none
    |_,_=>none
   |_,_=>none
  |.copy=>match c.argTypes.toList,c.args.toList with
   |[st,_],[d,x]=>match P.underlying st with
    |some (.slice g)=>match Rt P g with
     |none=>none
     |some j=>if 0<j then Ud d x (.copy j) else none
    |_=>none
   |_,_=>none
  |.clear=>match c.argTypes.toList,c.args.toList with
   |[st],[x]=>match P.underlying st with
    |some (.slice g)=>match Rt P g,Vl P g with
     |some j,some C=>if 0<j then Rv x (.clear j C) else none
     |_,_=>none
    |_=>none
   |_,_=>none
  |.delete=>match c.argTypes.toList,c.args.toList with
   |[mt,_],[m,k]=>match P.underlying mt with
    |some (.map A _)=>match Xz P A with
     |some d=>Ud m k (.delete d)
     |none=>none
    |_=>none
   |_,_=>none
  |_=>none
 |.value f=>match Qu f,yr c.args.toList with
  |some D,some l=>some (.callV D l)
  |_,_=>none
 |.invoke r z=>match Qu r,yr c.args.toList with
  |some D,some l=>some (.invoke D z l)
  |_,_=>none
def Vd(P:Program)(o:Op):Option ROp :=
 match o with
 |.move x |.assign x=>Rv x .move
 |.pick c a b=>match Qu c,Qu a,Qu b with
  |some c,some a,some b=>some (.pick c a b)
  |_,_,_=>none
 |.alloc t=>match Vl P t with
  |some l=>some (.alloc l)
  |none=>none
 |.box _ x=>Rv x .box
 |.build t A=>match Vl P t with
  |none=>none
  |some H=>match P.underlying t with
   |some (.struct z)=>match zcg P z.toList with
    |none=>none
    |some pl=>match zk (pl[·]?) A.toList with
     |none=>none
     |some C=>some (.build H C)
   |some (.array _ g)=>match Rt P g with
    |none=>none
    |some j=>match zk (λi=>some (i*j,j)) A.toList with
     |none=>none
     |some C=>some (.build H C)
   |_=>none
 |.buildSlice t len A=>match P.underlying t with
  |some (.slice g)=>match Rt P g with
   |none=>none
   |some j=>match Vl P g with
    |none=>none
    |some F=>if len*j≤2^20∧0<j then
      match zk (λi=>some (i*j,j)) A.toList with
      |none=>none
      |some C=>some (.buildSl j len (Wb F len) C)
     else none
  |_=>none
 |.load t a=>match Vv P t,Rt P t with
  |some true,some n=>Rv a (.loadN n)
  |some false,some _=>Rv a .load1
  |_,_=>none
 |.store t a x=>match Rt P t with
  |some n=>Ud a x (.store n)
  |none=>none
 |.nilCheck x=>Rv x .nilChk
 |.binOp op t x y _=>Ud x y (.bin op (ai x || ai y) t)
 |.unOp op _ x=>Rv x (.un op)
 |.convert s d x=>match P.underlying s,P.underlying d with
  |some _,some (.int k)=>Rv x (.cvInt k)
  |some (.slice e),some .string=>match P.underlying e with
   |some (.int .u8)=>Rv x .cvStr
   |_=>none
  |some _,some .string=>Rv x .cvSame
  |some _,some (.slice e)=>match P.underlying e,Rt P e with
   |some (.int .u8),some 1=>Rv x .cvBytes
   |_,_=>none
  |_,_=>none
 |.makeInterface t x=>match P.underlying t with
  |some (.interface _)=>none
  |some _=>Rv x (.mkIface t)
  |none=>none
 |.makeFunc f first cap=>match f with
  |.yield _=>none
  |f=>match yr first.toList,yr cap.toList with
   |some a,some b=>some (.mkFunc f a b)
   |_,_=>none
 |.makeMap t r=>match r with
  |none=>some .mkMap0
  |some x=>match P.underlying t with
   |some (.map _ _)=>Rv x .mkMap1
   |_=>none
 |.makeSlice t l c=>match P.underlying t with
  |some (.slice g)=>match P.info? g with
   |none=>none
   |some i=>match Vl P g with
    |none=>none
    |some F=>if 0<i.size∧i.bytes≤2^16 then Ud l c (.mkSl i.size F) else none
  |_=>none
 |.slice t x G hi D=>match P.underlying t with
  |some .string=>match D with
   |some _=>none
   |none=>match Qu x,zdi G,zdi hi with
    |some r,some a,some b=>some (.slStr r a b)
    |_,_,_=>none
  |some (.slice g)=>if D.isSome&&hi.isNone then none else match Rt P g with
   |none=>none
   |some j=>zhu j .slSl x G hi D
  |some (.array n g)=>if D.isSome&&hi.isNone then none else match Rt P g with
   |none=>none
   |some j=>zhu j (.slArr n) x G hi D
  |_=>none
 |.fieldAddr s x f=>match P.underlying s with
  |some (.struct z)=>match z[f]? with
   |none=>none
   |some fd=>match Rt P fd.type with
    |none=>none
    |some 0=>none
    |some _=>Rv x (.fieldAddr fd.offset)
  |_=>none
 |.field t x f=>match P.underlying t with
  |some (.struct z)=>match z[f]? with
   |none=>none
   |some fd=>match Vv P fd.type,Rt P fd.type with
    |some I,some n=>Rv x (.field I n fd.offset)
    |_,_=>none
  |_=>none
 |.indexAddr t x i=>match P.underlying t with
  |some (.slice g)=>match Rt P g with
   |none=>none
   |some j=>Ud x i (.ixAddr j)
  |some (.array len g)=>match Rt P g with
   |none=>none
   |some j=>Ud x i (.ixAddrArr len j)
  |_=>none
 |.index t x i=>match P.underlying t with
  |some .string=>Ud x i .ixStr
  |some (.array len g)=>match Vv P g,Rt P g with
   |some I,some j=>Ud x i (.ixArr I len j)
   |_,_=>none
  |_=>none
 |.lookup t x i ok=>match P.underlying t with
  |some (.map B g)=>match Xz P B,zs4 P g with
   |some d,some F=>Ud x i (.lookup d F ok)
   |_,_=>none
  |_=>none
 |.mapUpdate t m k x |.insert t m k x=>match P.underlying t with
  |some (.map B _)=>match Xz P B with
   |some d=>match Qu m,Qu k,Qu x with
    |some m,some k,some x=>some (.mapUpd d m k x)
    |_,_,_=>none
   |none=>none
  |_=>none
 |.range t x=>match P.underlying t with
  |some .string=>Rv x .range
  |_=>none
 |.next K s=>if s then Rv K .next else none
 |.typeAssert x _ t ok=>match P.underlying t with
  |some (.interface _)=>none
  |some _=>match zs4 P t with
   |none=>none
   |some F=>Rv x (.assert F ok t)
  |none=>none
 |.extract t i=>Rv t (.extract i)
 |.call c=>zsa P c
 |_=>none
section ok
variable {P : Program} {E : Tr AV} {ρ : uk}
def Wl{x:Operand}{f:Ox→ROp}{r:ROp}(h:Rv x f=some r):∃q,Qu x=some q∧r=f q:=by
 unfold Rv at h;cases g:Qu x with
 |none=>rw[g]at h;cases h
 |some q=>rw[g]at h;cases h;exact⟨q,rfl,rfl⟩
def kt{x y:Operand}{f:Ox→Ox→ROp}{r:ROp}(h:Ud x y f=some r):∃q p,Qu x=some q∧Qu y=some p∧r=f q p:=by
 unfold Ud at h;cases g:Qu x with
 |none=>rw[g]at h;cases h
 |some q =>
  rw[g]at h;dsimp only at h;cases j:Qu y with
  |none=>rw[j]at h;cases h
  |some p=>rw[j]at h;cases h;exact⟨q,p,rfl,rfl,rfl⟩
def Wj(g:Xv E ρ){x:Operand}{q:Ox}(j:Qu x=some q)(f:Heap→AV→OR)(z:Heap):(So x f).run E z=f z (q.ev ρ):=by
 show (Option.rec OR.no (λa=>f z a) ((P3 x).run E):OR)=_;rw[Ww j g]
def jo(g:Xv E ρ){x y:Operand}{q p:Ox}(j:Qu x=some q)(z:Qu y=some p)(f:Heap→AV→AV→OR)(A:Heap):(We x y f).run E A=f A (q.ev ρ) (p.ev ρ):=by
 show (Option.rec OR.no (λa=>Option.rec OR.no (λb=>f A a b) ((P3 y).run E)) ((P3 x).run E):OR)=_;rw[Ww j g,Ww z g]
def zbl(C:Xv E ρ){g:Nat→Option (Nat×Nat)}:∀{l:List (Nat×Operand)} {z:List (Nat×Nat×Ox)} {cs:List AV},zk g l=some z→∃A,z8x g l=some A∧rh cs A E=fillR ρ cs z
 |[],z,cs,h=>by cases h;exact⟨[],rfl,rfl⟩
 |(i,x)::l,z,cs,h=>by
  simp only[zk]at h;cases D:g i with
  |none=>rw[D]at h;cases h
  |some I =>
   obtain⟨o,s⟩:=I;rw[D]at h;dsimp only at h;cases F:Qu x with
   |none=>rw[F]at h;cases h
   |some r =>
    rw[F]at h;dsimp only at h;cases B:zk g l with
    |none=>rw[B]at h;cases h
    |some q =>
     rw[B]at h;cases h;obtain⟨A,H,_⟩:=zbl C (cs:=cs) B;refine⟨⟨o,s,P3 x⟩::A,by simp only[z8x,D,H],?_⟩;simp only[rh,fillR];rw[Ww F C];dsimp only;cases (r.ev ρ).cells with
     |none=>rfl
     |some c =>
      dsimp only;cases Nat.beq c.length s with
      |false=>rfl
      |true =>
       dsimp only;cases Nat.ble (Nat.add o s) cs.length with
       |false=>rfl
       |true =>
        dsimp only;obtain⟨K,j,G⟩:=zbl C (cs:=Wy cs o c) B;rw[H]at j;cases j;exact G
def zir{f:Nat→Ox→Option Ox→Option Ox→Option Ox→ROp}{x:Operand}{j hi z:Option Operand}{r:ROp}(h:zhu g f x j hi z=some r) :
  ∃q a b c,Qu x=some q∧zdi j=some a∧zdi hi=some b∧zdi z=some c∧r=f g q a b c:=by
 unfold zhu at h;split at h
 ·rename_i q a b c A B C D;cases h;exact⟨q,a,b,c,A,B,C,D,rfl⟩
 ·cases h
def zwl(j:Xv E ρ){c:Call}{r:ROp}(h:zsa P c=some r)(V:Heap):(xm P c).run E V=Rg P ρ V r:=by
 unfold zsa at h;unfold xm;split at h
 ·rename_i b hb;rw[hb];dsimp only;split at h
  ·split at h
   ·rename_i t x A z;rw[A,z];dsimp only;unfold Ya;split at h<;>first
     |(cases h;done)
     | (rename_i hu
        obtain⟨q,g,rfl⟩:=Wl h;rw[hu];dsimp only;rw[Wj j g];rfl)
   ·cases h
  ·split at h
   ·rename_i t x A z;rw[A,z];dsimp only;unfold Zy;split at h
    ·rename_i hu;obtain⟨q,g,rfl⟩:=Wl h;rw[hu];dsimp only;rw[Wj j g];rfl
    ·cases h
   ·cases h
  ·split at h
   ·rename_i l F;cases h;simp only[W8,Rg];rw[resOs_ok F j];generalize (l.map λ(x:Ox)=>x.ev ρ)=G;rcases G with _|⟨v,G⟩
    ·rfl
    ·cases v<;>rfl
   ·cases h
  ·split at h
   ·rename_i l F;cases h;simp only[W8,Rg];rw[resOs_ok F j];generalize (l.map λ(x:Ox)=>x.ev ρ)=G;rcases G with _|⟨v,G⟩
    ·rfl
    ·cases v<;>rfl
   ·cases h
  ·split at h
   ·rename_i st R s x A z;unfold zil;rw[A,z];dsimp only;split at h
    ·rename_i D d L M;rw[L,M];split at h
     ·rename_i i Y hi H;split at h
      ·rename_i hc;split at h
       ·rename_i k;obtain⟨q,p,g,C,rfl⟩:=kt h;dsimp only;unfold zmo;rw[hi,H];dsimp only;rw[J6 hc,jo j g C];rfl
       ·obtain⟨q,p,g,C,rfl⟩:=kt h;dsimp only;unfold zbd;rw[hi,H];dsimp only;rw[J6 hc,jo j g C];rfl
       ·obtain⟨q,p,g,C,rfl⟩:=kt h;dsimp only;unfold zbd;rw[hi,H];dsimp only;rw[J6 hc,jo j g C];rfl
       ·cases h
      ·cases h
     ·cases h
    ·cases h
   ·cases h
  ·split at h
   ·rename_i st R d x A z;unfold Y9;rw[A,z];dsimp only;split at h
    ·rename_i D hu;rw[hu];dsimp only;split at h
     ·cases h
     ·rename_i I O;split at h
      ·rename_i B;obtain⟨q,p,g,C,rfl⟩:=kt h;rw[O];dsimp only;rw[J6 B,jo j g C];rfl
      ·cases h
    ·cases h
   ·cases h
  ·split at h
   ·rename_i st x A z;unfold zrc;rw[A,z];dsimp only;split at h
    ·rename_i D hu;rw[hu];dsimp only;split at h
     ·rename_i I Y O H;split at h
      ·rename_i B;obtain⟨q,g,rfl⟩:=Wl h;rw[O,H];dsimp only;rw[J6 B,Wj j g];rfl
      ·cases h
     ·cases h
    ·cases h
   ·cases h
  ·split at h
   ·rename_i mt R m k A z;unfold zhy;rw[A,z];dsimp only;split at h
    ·rename_i T e hu;rw[hu];dsimp only;split at h
     ·rename_i d hd;obtain⟨q,p,g,C,rfl⟩:=kt h;rw[hd];dsimp only;rw[jo j g C];rfl
     ·cases h
    ·cases h
   ·cases h
  ·cases h
 ·rename_i f U;rw[U];dsimp only;split at h
  ·rename_i X l Q F;cases h;rw[Ww Q j,resOs_ok F j];simp only[Rg]
  ·cases h
 ·rename_i x K z;rw[z];dsimp only;split at h
  ·rename_i X l Q F;cases h;rw[Ww Q j,resOs_ok F j];simp only[Rg];cases X.ev ρ with
   |iface t v =>
    dsimp only;cases zij P t K with
    |none=>rfl
    |some f =>
     dsimp only;cases z7j P f<;>rfl
   |_=>rfl
  ·cases h
end ok
end
end
section
section ok
variable {P : Program} {E : Tr AV} {ρ : uk}
def zti(z:Xv E ρ){o:Op}{r:ROp}(h:Vd P o=some r)(Q:Heap):(Qq P o).run E Q=Rg P ρ Q r:=by
 cases o with
 |move x =>
  obtain⟨q,g,rfl⟩:=Wl h;show (So x _).run E Q=_;rw[Wj z g];rfl
 |assign x =>
  obtain⟨q,g,rfl⟩:=Wl h;show (So x _).run E Q=_;rw[Wj z g];rfl
 |pick c a b =>
  simp only[Vd]at h;split at h
  ·rename_i L M R g A D;cases h;simp only[Qq];rw[Ww g z,Ww A z,Ww D z];simp only[Rg];generalize L.ev ρ=v;cases v with
   |bool t=>cases t<;>rfl
   |_=>rfl
  ·cases h
 |alloc t =>
  simp only[Vd]at h;simp only[Qq];cases H:Vl P t with
  |none=>rw[H]at h;cases h
  |some l=>rw[H]at h;cases h;rfl
 |box t x =>
  obtain⟨q,g,rfl⟩:=Wl h;show (So x _).run E Q=_;rw[Wj z g];rfl
 |build t G =>
  simp only[Vd]at h;simp only[Qq,zj7];cases H:Vl P t with
  |none=>rw[H]at h;cases h
  |some Y =>
   rw[H]at h;dsimp only at h ⊢;split at h
   ·rename_i C hu;rw[hu];dsimp only;cases K:zcg P C.toList with
    |none=>rw[K]at h;cases h
    |some pl =>
     rw[K]at h;dsimp only at h ⊢;cases I:zk (pl[·]?) G.toList with
     |none=>rw[I]at h;cases h
     |some Z =>
      rw[I]at h;cases h;obtain⟨qs,g,A⟩:=zbl z (cs:=Y) I;rw[g];dsimp only;rw[A];rfl
   ·rename_i n j hu;rw[hu];dsimp only;cases F:Rt P j with
    |none=>rw[F]at h;cases h
    |some B =>
     rw[F]at h;dsimp only at h ⊢;cases I:zk (λi=>some (i*B,B)) G.toList with
     |none=>rw[I]at h;cases h
     |some Z =>
      rw[I]at h;cases h;obtain⟨qs,g,A⟩:=zbl z (cs:=Y) I;rw[g];dsimp only;rw[A];rfl
   ·cases h
 |buildSlice t len G =>
  simp only[Vd]at h;simp only[Qq,z3u];split at h
  ·rename_i j hu;rw[hu];dsimp only;cases F:Rt P j with
   |none=>rw[F]at h;cases h
   |some B =>
    rw[F]at h;dsimp only at h ⊢;cases H:Vl P j with
    |none=>rw[H]at h;cases h
    |some X =>
     rw[H]at h;dsimp only at h ⊢;split at h
     ·rename_i hc;rw[J6 hc];cases I:zk (λi=>some (i*B,B)) G.toList with
      |none=>rw[I]at h;cases h
      |some Z =>
       rw[I]at h;cases h;obtain⟨qs,g,A⟩:=zbl z (cs:=Wb X len) I;rw[g];dsimp only;rw[A];rfl
     ·cases h
  ·cases h
 |load t a =>
  simp only[Vd]at h;simp only[Qq,zss];split at h
  ·rename_i n g A;obtain⟨q,D,rfl⟩:=Wl h;rw[g,A];dsimp only;rw[Wj z D];rfl
  ·rename_i n g A;obtain⟨q,D,rfl⟩:=Wl h;rw[g,A];dsimp only;rw[Wj z D];rfl
  ·cases h
 |store t a x =>
  simp only[Vd]at h;simp only[Qq,zoq];cases F:Rt P t with
  |none=>rw[F]at h;cases h
  |some n =>
   rw[F]at h;obtain⟨q,p,g,A,rfl⟩:=kt h;dsimp only;rw[jo z g A];rfl
 |nilCheck x =>
  obtain⟨q,g,rfl⟩:=Wl h;show (So x _).run E Q=_;rw[Wj z g];rfl
 |binOp op t x y yt =>
  obtain⟨q,p,g,A,rfl⟩:=kt h;simp only[Qq];rw[jo z g A];rfl
 |unOp op t x =>
  obtain⟨q,g,rfl⟩:=Wl h;show (So x _).run E Q=_;rw[Wj z g];rfl
 |convert s d x =>
  simp only[Vd]at h;simp only[Qq];unfold Y6;split at h
  ·rename_i T k g A;obtain⟨q,D,rfl⟩:=Wl h;rw[g,A];dsimp only;rw[Wj z D];rfl
  ·rename_i e g A;rw[g,A];dsimp only;split at h
   ·rename_i hu;rw[hu];dsimp only;obtain⟨q,D,rfl⟩:=Wl h;rw[Wj z D];rfl
   ·cases h
  ·rename_i T U g A;obtain⟨q,D,rfl⟩:=Wl h;rw[g,A];cases T with
   |slice e=>exact absurd rfl (U e)
   |_=>dsimp only;rw[Wj z D];rfl
  ·rename_i T e g A;rw[g,A];dsimp only;split at h
   ·rename_i k1 k2;obtain⟨q,D,rfl⟩:=Wl h;rw[k1,k2];exact (Wj z D _ _).trans rfl
   ·cases h
  ·cases h
 |makeInterface t x =>
  simp only[Vd]at h;simp only[Qq,zas];cases hu:P.underlying t with
  |none=>rw[hu]at h;cases h
  |some d =>
   rw[hu]at h;cases d with
   |interface ms=>cases h
   |_=>obtain⟨q,g,rfl⟩:=Wl h;dsimp only;rw[Wj z g];rfl
 |makeFunc f first cap =>
  simp only[Vd]at h;cases f with
  |yield l=>cases h
  |_ =>
   dsimp only at h;split at h
   ·rename_i a b g A;cases h;simp only[Qq,ze1];rw[resOs_ok g z,resOs_ok A z];rfl
   ·cases h
 |makeMap t r =>
  simp only[Vd]at h;simp only[Qq,zgf];cases r with
  |none=>cases h;rfl
  |some x =>
   dsimp only at h ⊢;split at h
   ·rename_i k e hu;obtain⟨q,g,rfl⟩:=Wl h;rw[hu];dsimp only;rw[Wj z g];rfl
   ·cases h
 |makeSlice t l c =>
  simp only[Vd]at h;simp only[Qq,z8o];split at h
  ·rename_i j hu;rw[hu];dsimp only;cases hi:P.info? j with
   |none=>rw[hi]at h;cases h
   |some i =>
    rw[hi]at h;dsimp only at h ⊢;cases H:Vl P j with
    |none=>rw[H]at h;cases h
    |some X =>
     rw[H]at h;dsimp only at h ⊢;split at h
     ·rename_i hc;obtain⟨q,p,g,A,rfl⟩:=kt h;rw[J6 hc,jo z g A];rfl
     ·cases h
  ·cases h
 |slice t x lo hi mx =>
  simp only[Vd]at h;simp only[Qq,zeo];split at h
  ·rename_i hu;rw[hu];dsimp only;cases mx with
   |some m=>cases h
   |none =>
    dsimp only at h ⊢;split at h
    ·rename_i q a b g A D;cases h;rw[Ww g z,z6t A z,z6t D z];simp only[Rg];cases q.ev ρ with
     |str len n =>
      cases R9 ρ a with
      |none=>rfl
      |some M=>cases R9 ρ b<;>rfl
     |_=>rfl
    ·cases h
  ·rename_i j hu;rw[hu];dsimp only;split at h
   ·cases h
   ·rename_i hc;rw[J1 hc];cases F:Rt P j with
    |none=>rw[F]at h;cases h
    |some B =>
     rw[F]at h;obtain⟨q,a,b,c,g,A,D,V,rfl⟩:=zir h;dsimp only;rw[Ww g z,z6t A z,z6t D z,z6t V z];simp only[Rg];generalize q.ev ρ=v;generalize R9 ρ a=M;generalize R9 ρ b=R;generalize R9 ρ c=L;cases v<;>cases M<;>cases R<;>cases L<;>try rfl
     all_goals (rename_i X;cases X<;>rfl)
  ·rename_i n j hu;rw[hu];dsimp only;split at h
   ·cases h
   ·rename_i hc;rw[J1 hc];cases F:Rt P j with
    |none=>rw[F]at h;cases h
    |some B =>
     rw[F]at h;obtain⟨q,a,b,c,g,A,D,V,rfl⟩:=zir h;dsimp only;rw[Ww g z,z6t A z,z6t D z,z6t V z];simp only[Rg];generalize q.ev ρ=v;generalize R9 ρ a=M;generalize R9 ρ b=R;generalize R9 ρ c=L;cases v<;>cases M<;>cases R<;>cases L<;>rfl
  ·cases h
 |fieldAddr s x f =>
  simp only[Vd]at h;simp only[Qq,z5z];split at h
  ·rename_i C hu;rw[hu];dsimp only;cases K:C[f]? with
   |none=>rw[K]at h;cases h
   |some fd =>
    rw[K]at h;dsimp only at h ⊢;split at h
    ·cases h
    ·cases h
    ·rename_i n hn F;obtain⟨q,g,rfl⟩:=Wl h;rw[F];cases n with
     |zero=>exact absurd rfl hn
     |succ n=>exact (Wj z g _ _).trans rfl
  ·cases h
 |field t x f =>
  simp only[Vd]at h;simp only[Qq,ziz];split at h
  ·rename_i C hu;rw[hu];dsimp only;cases K:C[f]? with
   |none=>rw[K]at h;cases h
   |some fd =>
    rw[K]at h;dsimp only at h ⊢;split at h
    ·rename_i gg n g A;obtain⟨q,D,rfl⟩:=Wl h;rw[g,A];dsimp only;rw[Wj z D];rfl
    ·cases h
  ·cases h
 |indexAddr t x i =>
  simp only[Vd]at h;simp only[Qq,z5s];split at h
  ·rename_i j hu;rw[hu];dsimp only;cases F:Rt P j with
   |none=>rw[F]at h;cases h
   |some B =>
    rw[F]at h;obtain⟨q,p,g,A,rfl⟩:=kt h;dsimp only;rw[jo z g A];rfl
  ·rename_i len j hu;rw[hu];dsimp only;cases F:Rt P j with
   |none=>rw[F]at h;cases h
   |some B =>
    rw[F]at h;obtain⟨q,p,g,A,rfl⟩:=kt h;dsimp only;rw[jo z g A];rfl
  ·cases h
 |index t x i =>
  simp only[Vd]at h;simp only[Qq,zk1];split at h
  ·rename_i hu;obtain⟨q,p,g,A,rfl⟩:=kt h;rw[hu];dsimp only;rw[jo z g A];rfl
  ·rename_i len j hu;rw[hu];dsimp only;split at h
   ·rename_i gg B hg F;obtain⟨q,p,g,A,rfl⟩:=kt h;rw[hg,F];dsimp only;rw[jo z g A];rfl
   ·cases h
  ·cases h
 |lookup t x i ok =>
  simp only[Vd]at h;simp only[Qq,zds];split at h
  ·rename_i O j hu;rw[hu];dsimp only;split at h
   ·rename_i d X hd H;obtain⟨q,p,g,A,rfl⟩:=kt h;rw[hd,H];dsimp only;rw[jo z g A];rfl
   ·cases h
  ·cases h
 |mapUpdate t m k x =>
  simp only[Vd]at h;simp only[Qq,z5t];split at h
  ·rename_i O j hu;rw[hu];dsimp only;split at h
   ·rename_i d hd;rw[hd];dsimp only;split at h
    ·rename_i a b c g A D;cases h;rw[Ww g z,Ww A z,Ww D z];simp only[Rg];cases a.ev ρ<;>rfl
    ·cases h
   ·cases h
  ·cases h
 |insert t m k x =>
  simp only[Vd]at h;simp only[Qq,z5t];split at h
  ·rename_i O j hu;rw[hu];dsimp only;split at h
   ·rename_i d hd;rw[hd];dsimp only;split at h
    ·rename_i a b c g A D;cases h;rw[Ww g z,Ww A z,Ww D z];simp only[Rg];cases a.ev ρ<;>rfl
    ·cases h
   ·cases h
  ·cases h
 |range t x =>
  simp only[Vd]at h;simp only[Qq,rangeF];split at h
  ·rename_i hu;obtain⟨q,g,rfl⟩:=Wl h;rw[hu];dsimp only;rw[Wj z g];rfl
  ·cases h
 |next it s =>
  simp only[Vd]at h;simp only[Qq,Zi];cases s with
  |false=>cases h
  |true =>
   obtain⟨q,g,rfl⟩:=Wl h;rw[J6 rfl,Wj z g];rfl
 |typeAssert x xt t ok =>
  simp only[Vd]at h;simp only[Qq,ze8];cases hu:P.underlying t with
  |none=>rw[hu]at h;cases h
  |some d =>
   rw[hu]at h;cases d with
   |interface ms=>cases h
   |_ =>
    dsimp only at h ⊢;cases H:zs4 P t with
    |none=>rw[H]at h;cases h
    |some X=>rw[H]at h;obtain⟨q,g,rfl⟩:=Wl h;dsimp only;rw[Wj z g];rfl
 |extract t i =>
  obtain⟨q,g,rfl⟩:=Wl h;show (So t _).run E Q=_;rw[Wj z g];rfl
 |call c=>exact zwl z h Q
 |_=>cases h
end ok
end
section
open Go.RowKit (Below)
noncomputable def zr1(g:Program)(f:Nat):Bool:=match g.funcs[f]? with
 |some fn=>match fn.params.toList with
  |[]=>match fn.resultTypes.toList with
   |[t]=>match g.underlying t with
    |some .bool=>true
    |_=>false
   |_=>false
  |_::_=>false
 |none=>false
def zci(A:Program)(f:Nat):Prop :=
 ∀(w:World) z,∃g j,Below w.heap.size w g∧Steps A (lone (Frame.enter A f #[] .normal) z w) (lone j z g)∧j.fn=f∧j.leaving A g (.returned (.bool true))
def zvy(hm:C.follows .mixedOrders=true){m f:Nat}(h:runA C noO m f=true):zci C f:=by
 intro w g;unfold runA at h;split at h
 ·rename_i H j;obtain⟨I,z,K,A,L,B,D,E,F,G⟩:=zdv hm (zzh C) m w _ _ w (.fn f) [] [] _ _ (Rel.start w) .nil j g;cases D;exact⟨z,A,B.low,E,F,G⟩
 ·cases h
def Rel.below{gD:CM}{H:Heap}{w w':World}(h:Rel vX gD H w)(hb:Below w.heap.size w w'):Rel vX gD H w':=by
 have gg:vX.heap.size≤w.heap.size:=h.low.size;exact⟨h.nx,h.low.trans (hb.mono gg),h.fresh,λo v L C=>Kt (h.lt o v L C) hb.size,h.excl,
  λo ob ho hg=>(h.obj o ob ho hg).frame (CM.le_refl gD) (λ_ _ C=>C) (λv L C=>hb.block _ (h.lt o v L C)),h.top⟩
open Classical in
noncomputable def OL(P:Program):Ti:=λt args H=>match t,args with
 |.fn f,[]=>if zr1 P f=true∧zci P f then .ok (.bool true) H else .no
 |_,_=>.no
def OL_no{f:Nat}(h:zr1 C f=false)(g:List AV)(j:Heap):OL C (.fn f) g j=.no:=by
 unfold OL;split
 ·rename_i z e;cases e;rw[J1 (by rw[h];simp)]
 ·rfl
def OL_yes{f:Nat}(h:zr1 C f=true)(g:zci C f)(j:Heap):OL C (.fn f) [] j=.ok (.bool true) j:=by
 unfold OL;exact J6 ⟨h,g⟩
def xa(I:Program):nw I (OL I):=by
 intro L K P w t g M v O j z hc;unfold OL at hc;split at hc
 ·rename_i f;split at hc
  ·rename_i A;cases hc;cases z;intro B;obtain⟨C,D,E,F,G,H⟩:=A.2 w B;exact⟨K,C,.bool true,D,CM.le_refl K,j.below E,.bool true,F,G,H⟩
  ·cases hc
 ·cases hc
end
noncomputable section
inductive LV where
 |any
 |bool (b:Bool)
 |u (x:UInt64)
 |b (x:UInt8)
 |i (n:Int)
 |int (k:IntKind) (n:Int)
 |str (l:List UInt8)
 |nilPtr
 |ptr (p i:Nat)
 |dptr (p k i:Nat)
 |cptr (l:List LV) (i:Nat)
 |nilSl
 |dy (p k:Nat)
 |vw (p k lo len:Nat)
 |vf (p k len:Nat)
 |lst (l:List LV) (len esz:Nat)
 |nilMap
 |map (p:Nat)
 |nilFn
 |fn (f:Fn) (first cap:List LV)
 |nilIf
 |iface (t:TypeId) (v:LV)
 |agg (l:List LV)
 |tup (l:List LV)
 deriving Inhabited
abbrev Pf:=List (Nat×LV)
def lk0:Pf→Nat→LV
 |[],_=>.any
 |(d,v)::l,t=>if t=d then v else lk0 l t
def zxx(f:vM):∃g:vM,g=f:=⟨f,rfl⟩
def Sq(f:vM):vM:=Classical.choose (zxx f)
def Wz(f:vM):Sq f=f:=Classical.choose_spec (zxx f)
def lk:Pf→Nat→LV:=Sq lk0
def qu(t:Nat):lk [] t=.any:=by unfold lk;rw[Wz];rfl
def zjs(d:Nat)(v:LV)(l:Pf)(t:Nat):lk ((d,v)::l) t=if t=d then v else lk l t:=by unfold lk;rw[Wz];rfl
inductive LObj where
 |dead (st:Nat)
 |cells (l:List LV) (st:Nat)
 |dyn (l:List LV) (len esz ver st:Nat)
 |map (es:List (LV×LV×Nat)) (clock st:Nat)
 |iter (l:List UInt8) (pos:Nat)
 |loop (s:LoopState) (pend:Option Code) (f n:Nat) (ρ:Pf) (ps:Array Tmp) (a b:Code) (d:Nat)
 |defd (op:Bool)
abbrev Pd:=List LObj
def LObj.live:LObj→Bool
 |.dead _=>false
 |_=>true
def LObj.stp:LObj→Bool
 |.cells _ _=>true
 |.dyn _ _ _ _ _=>true
 |.map _ _ _=>true
 |_=>false
def LObj.st:LObj→Nat
 |.cells _ st=>st
 |.dyn _ _ _ _ st=>st
 |.map _ _ st=>st
 |.dead st=>st
 |_=>0
def LV.cells:LV→Option (List LV)
 |.any=>none
 |.agg cs=>some cs
 |.tup _=>none
 |v=>some [v]
mutual
def toA:LV→AV
 |.bool b=>.bool b
 |.u x=>.int .u64 (Int.ofNat x.toNat)
 |.b x=>.int .u8 (Int.ofNat x.toNat)
 |.i n=>.int .i64 n
 |.int k n=>.int k n
 |.str l=>.str l.length (Ro l)
 |.nilPtr=>.nilPtr
 |.nilSl=>.nilSl
 |.nilMap=>.nilMap
 |.nilFn=>.nilFn
 |.fn f _ _=>.fn f [] []
 |.nilIf=>.nilIf
 |.agg l=>.agg (toAs l)
 |.tup l=>.tup (toAs l)
 |_=>.tup []
def toAs:List LV→List AV
 |[]=>[]
 |v::l=>toA v::toAs l
end
def LV.scal:LV→Bool
 |.bool _ |.u _ |.b _ |.i _ |.int _ _ |.str _ |.nilPtr |.nilSl |.nilMap |.nilFn |.nilIf=>true
 |_=>false
def LV.cst:LV→Bool
 |.fn (.func _) [] []=>true
 |.agg l=>l.all LV.scal
 |.tup []=>true
 |v=>v.scal
structure Cx where
 hd:List (Nat×AV)
 Fz:Nat→Prop
 H:Heap
def zn2:AV→Bool
 |.nilSl=>true
 |.emp=>true
 |.sl _ _ _ _ _ _=>true
 |_=>false
def io(z:Nat)(h a:AV):Prop:=z=0→match a with
 |.sl _ _ _ _ _ g=>match h with
  |.sl _ _ _ len _ j=>g=j∨∃r,g=some r∧r≤len
  |_=>True
 |_=>True
mutual
inductive AR (c:Cx):LV→AV→Prop where
 |any (a:AV):AR c .any a
 |bool (b:Bool):AR c (.bool b) (.bool b)
 |u (x:UInt64):AR c (.u x) (.int .u64 (Int.ofNat x.toNat))
 |b (x:UInt8):AR c (.b x) (.int .u8 (Int.ofNat x.toNat))
 |i (n:Int):AR c (.i n) (.int .i64 n)
 |int (k:IntKind) (n:Int):AR c (.int k n) (.int k n)
 |str (l:List UInt8):AR c (.str l) (.str l.length (Ro l))
 |nilPtr:AR c .nilPtr .nilPtr
 |ptr {p i o:Nat} (h:c.hd[p]?=some (0,.ptr o 0 0)):AR c (.ptr p i) (.ptr o 0 i)
 |dptr {p k i k' o v j:Nat} {h:AV} (hp:c.hd[p]?=some (k',h)) (hk:k≤k') (ha:k=k'→j=i∧∃len esz room,h=.sl o v 0 len esz room):AR c (.dptr p k i) (.ptr o v j)
 |cptr {l:List LV} {i o v j:Nat} {l':List AV} (hf:c.Fz o) (hr:Tn c.H o v j l.length=some l') (hl:ARs c l l'):AR c (.cptr l i) (.ptr o v (j+i))
 |nilSl:AR c .nilSl .nilSl
 |dy {p k k':Nat} {h a:AV} (hp:c.hd[p]?=some (k',h)) (hk:k≤k') (ha:k=k'→a=h) (hs:zn2 a=true):AR c (.dy p k) a
 |vw {p k lo len k':Nat} {h a:AV} (hp:c.hd[p]?=some (k',h)) (hk:k≤k') (ha:k=k'→(len=0∧(a=.nilSl∨(a=.emp∧lo≠0)))∨∃o v len' esz room room',h=.sl o v 0 len' esz room∧a=.sl o v (lo*esz) len esz room'∧∀r,room'=some r→len≤r) (hs:zn2 a=true) (hz:k=k'→io lo h a):AR c (.vw p k lo len) a
 |vf {p k len k':Nat} {h a:AV} (hp:c.hd[p]?=some (k',h)) (hk:k≤k') (ha:k=k'→∃o v len' esz room,h=.sl o v 0 len' esz room∧a=.sl o v 0 len esz (some len)) (hs:zn2 a=true):AR c (.vf p k len) a
 |lst {l:List LV} {len esz o v i:Nat} {room:Option Nat} {l':List AV} (hf:c.Fz o) (hrm:∀r,room=some r→len≤r) (hlen:l.length=len*esz) (hr:Tn c.H o v i (len*esz)=some l') (hl:ARs c l l'):AR c (.lst l len esz) (.sl o v i len esz room)
 |lstNil {esz:Nat}:AR c (.lst [] 0 esz) .nilSl
 |lstEmp {esz:Nat}:AR c (.lst [] 0 esz) .emp
 |nilMap:AR c .nilMap .nilMap
 |map {p o:Nat} (h:c.hd[p]?=some (0,.map o)):AR c (.map p) (.map o)
 |nilFn:AR c .nilFn .nilFn
 |fn {f:Nat} {l r:List LV} {l' r':List AV} (hl:ARs c l l') (hr:ARs c r r'):AR c (.fn (.func f) l r) (.fn (.func f) l' r')
 |yield {p o:Nat} (h:c.hd[p]?=some (0,.ptr o 0 0)):AR c (.fn (.yield p) [] []) (.fn (.yield o) [] [])
 |nilIf:AR c .nilIf .nilIf
 |iface {t:TypeId} {v:LV} {a:AV} (h:AR c v a):AR c (.iface t v) (.iface t a)
 |agg {l:List LV} {l':List AV} (h:ARs c l l'):AR c (.agg l) (.agg l')
 |tup {l:List LV} {l':List AV} (h:ARs c l l'):AR c (.tup l) (.tup l')
inductive ARs (c:Cx):List LV→List AV→Prop where
 |nil:ARs c [] []
 |cons {v:LV} {a:AV} {l:List LV} {r:List AV} (h:AR c v a) (hs:ARs c l r):ARs c (v::l) (a::r)
end
inductive MRs (c:Cx):List (LV×LV×Nat)→List (AV×AV×Nat)→Prop where
 |nil:MRs c [] []
 |cons {k v:LV} {a b:AV} {n:Nat} {l:List (LV×LV×Nat)} {r:List (AV×AV×Nat)} (hk:AR c k a) (hv:AR c v b) (h:MRs c l r):MRs c ((k,v,n)::l) ((a,b,n)::r)
def Qo(c:Cx)(g:Pf)(j:Tr AV):Prop:=∀t,AR c (lk g t) ((Pg (Pz t) j).getD Um)
def ObR(c:Cx)(k:Nat)(h:AV):LObj→Prop
 |.dead _=>True
 |.cells l _=>k=0∧∃o t A,h=.ptr o 0 0∧c.H.get o=some (.cells t l.length 0 false)∧Vk t 0 l.length=some A∧ARs c l A
 |.dyn l len j D _=>k=D∧l.length=len*j∧((h=.nilSl∧len=0)∨∃o v z t g A,h=.sl o v 0 len j z∧c.H.get o=some (.cells t g v false)∧len*j≤g ∧
   Vk t 0 (len*j)=some A∧ARs c l A∧(∀r,z=some r→g=r*j∧len≤r)∧(z=none→g=len*j))
 |.map G H _=>k=0∧∃o B,h=.map o∧c.H.get o=some (.map B H)∧MRs c G B
 |.iter l E=>k=0∧∃o,h=.ptr o 0 0∧c.H.get o=some (.iter l.length (Ro l) E)
 |.loop s C f n L I a b d=>k=0∧∃o F K,h=.ptr o 0 0∧c.hd[d]?=some (0,.ptr F 0 0)∧c.H.get o=some (.loop s C f n K I a b F)∧Qo c L K
 |.defd op=>k=0∧∃o,h=.ptr o 0 0∧c.H.get o=some (.defd op)
def Ru(c:Cx)(j:Pd)(o:Nat):Prop:=∃(p:Nat) (g:LObj) (k:Nat) (h:AV),j[p]?=some g∧g.live=true∧c.hd[p]?=some (k,h)∧Qf h=some o
structure HSim (c:Cx) (G:Pd):Prop where
 len:c.hd.length=G.length
 fz:∀o,c.Fz o→o<c.H.next
 lt:∀o,Ru c G o→o<c.H.next
 sep:∀o,Ru c G o→¬c.Fz o
 obj:∀(p:Nat) (ob:LObj) (k:Nat) (h:AV),G[p]?=some ob→c.hd[p]?=some (k,h)→ObR c k h ob
 excl:∀(p q:Nat) (ob ob':LObj) (k:Nat) (h:AV) (k':Nat) (h':AV) (o:Nat),G[p]?=some ob→G[q]?=some ob'→ob.live=true→ob'.live=true→c.hd[p]?=some (k,h)→c.hd[q]?=some (k',h')→Qf h=some o→Qf h'=some o→p=q
def gt:AV→Bool
 |.ptr _ _ _=>true
 |.map _=>true
 |_=>false
structure CxLe (c c':Cx):Prop where
 hd:∀(p k:Nat) (h:AV),c.hd[p]?=some (k,h)→∃(k':Nat) (h':AV),c'.hd[p]?=some (k',h')∧k≤k'∧(k=k'→h=h')∧(gt h=true→k=k')
 fz:∀o,c.Fz o→c'.Fz o∧c'.H.get o=c.H.get o
structure Step (c:Cx) (G:Pd) (c':Cx) (G':Pd):Prop where
 le:CxLe c c'
 nx:c.H.next≤c'.H.next
 frame:∀o,o<c.H.next→¬Ru c G o→c'.H.get o=c.H.get o
 new:∀o,Ru c' G' o→Ru c G o∨c.H.next≤o
 fznew:∀o,c'.Fz o→c.Fz o∨Ru c G o∨c.H.next≤o
 mono:∀(p:Nat) (ob ob':LObj),G[p]?=some ob→G'[p]?=some ob'→ob.st≤ob'.st
 st:∀(p:Nat) (ob ob':LObj) (k:Nat) (h:AV) (o:Nat),G[p]?=some ob→G'[p]?=some ob'→c.hd[p]?=some (k,h)→Qf h=some o→ob.stp=true→ob.st=ob'.st→ob'=ob∧c'.H.get o=c.H.get o∧c'.hd[p]?=c.hd[p]?
inductive Lx where
 |t (i:Nat)
 |c (v:LV)
def Lx.ev(ρ:Pf):Lx→LV
 |.t i=>lk ρ i
 |.c v=>v
def Lx.r:Lx→Ox
 |.t i=>.t i
 |.c v=>.c (toA v)
def Lx.ok:Lx→Bool
 |.t _=>true
 |.c v=>v.cst
inductive LOp where
 |move (x:Lx)
 |pick (c a b:Lx)
 |alloc (l:List LV)
 |box (x:Lx)
 |build (cs:List LV) (ps:List (Nat×Nat×Lx))
 |buildSl (size len:Nat) (cs:List LV) (ps:List (Nat×Nat×Lx))
 |load1 (x:Lx)
 |loadN (n:Nat) (x:Lx)
 |store (n:Nat) (x y:Lx)
 |nilChk (x:Lx)
 |bin (op:BinOp) (g:Bool) (t:TypeId) (x y:Lx)
 |un (op:UnOp) (x:Lx)
 |cvInt (k:IntKind) (x:Lx)
 |cvStr (x:Lx)
 |cvSame (x:Lx)
 |cvBytes (x:Lx)
 |mkFunc (f:Nat) (first cap:List Lx)
 |mkSl (size:Nat) (z:List LV) (l c:Lx)
 |slStr (x:Lx) (lo hi:Option Lx)
 |slSl (size:Nat) (x:Lx) (lo hi:Option Lx)
 |slSl3 (size:Nat) (x:Lx) (lo hi:Option Lx) (mx:Lx)
 |fieldAddr (off:Nat) (x:Lx)
 |field (g:Bool) (n off:Nat) (x:Lx)
 |ixAddr (size:Nat) (x i:Lx)
 |ixStr (x i:Lx)
 |extract (i:Nat) (x:Lx)
 |lenStr (x:Lx)
 |lenSl (x:Lx)
 |maxi (mx:Bool) (x y:Lx)
 |max3 (mx:Bool) (x y z:Lx)
 |ixAddrArr (len size:Nat) (x i:Lx)
 |ixArr (g:Bool) (len size:Nat) (x i:Lx)
 |lenArr (n:Nat) (x:Lx)
 |appZ (size:Nat) (z:List LV) (s x:Lx)
 |appG (size:Nat) (s x:Lx)
 |copy (size:Nat) (d x:Lx)
 |clear (size:Nat) (z:List LV) (x:Lx)
 |mkMap0
 |mkMap1 (x:Lx)
 |lookup (d:TypeDesc) (z:LV) (ok:Bool) (x i:Lx)
 |mapUpd (d:TypeDesc) (m k v:Lx)
 |lenMap (x:Lx)
 |slArr (n size:Nat) (x:Lx) (lo hi:Option Lx)
 |callV (f:Lx) (args:List Lx)
def rps:List (Nat×Nat×Lx)→List (Nat×Nat×Ox)
 |[]=>[]
 |(a,b,x)::l=>(a,b,x.r)::rps l
def rxs:List Lx→List Ox
 |[]=>[]
 |x::l=>x.r::rxs l
def LOp.r:LOp→ROp
 |.move x=>.move x.r
 |.pick c a b=>.pick c.r a.r b.r
 |.alloc l=>.alloc (toAs l)
 |.box x=>.box x.r
 |.build cs ps=>.build (toAs cs) (rps ps)
 |.buildSl s n cs ps=>.buildSl s n (toAs cs) (rps ps)
 |.load1 x=>.load1 x.r
 |.loadN n x=>.loadN n x.r
 |.store n x y=>.store n x.r y.r
 |.nilChk x=>.nilChk x.r
 |.bin op g t x y=>.bin op g t x.r y.r
 |.un op x=>.un op x.r
 |.cvInt k x=>.cvInt k x.r
 |.cvStr x=>.cvStr x.r
 |.cvSame x=>.cvSame x.r
 |.cvBytes x=>.cvBytes x.r
 |.mkFunc f a b=>.mkFunc (.func f) (rxs a) (rxs b)
 |.mkSl s z l c=>.mkSl s (toAs z) l.r c.r
 |.slStr x lo hi=>.slStr x.r (lo.map Lx.r) (hi.map Lx.r)
 |.slSl s x lo hi=>.slSl s x.r (lo.map Lx.r) (hi.map Lx.r) none
 |.slSl3 s x lo hi mx=>.slSl s x.r (lo.map Lx.r) (hi.map Lx.r) (some mx.r)
 |.fieldAddr o x=>.fieldAddr o x.r
 |.field g n o x=>.field g n o x.r
 |.ixAddr s x i=>.ixAddr s x.r i.r
 |.ixStr x i=>.ixStr x.r i.r
 |.extract i x=>.extract i x.r
 |.lenStr x=>.lenStr x.r
 |.lenSl x=>.lenSl x.r
 |.maxi m x y=>.maxi m [x.r,y.r]
 |.max3 m x y z=>.maxi m [x.r,y.r,z.r]
 |.ixAddrArr l s x i=>.ixAddrArr l s x.r i.r
 |.ixArr g l s x i=>.ixArr g l s x.r i.r
 |.lenArr n x=>.lenArr n x.r
 |.appZ s z a x=>.appZ s (toAs z) a.r x.r
 |.appG s a x=>.appG s a.r x.r
 |.copy s d x=>.copy s d.r x.r
 |.clear s z x=>.clear s (toAs z) x.r
 |.mkMap0=>.mkMap0
 |.mkMap1 x=>.mkMap1 x.r
 |.lookup d z ok x i=>.lookup d (toA z) ok x.r i.r
 |.mapUpd d m k v=>.mapUpd d m.r k.r v.r
 |.lenMap x=>.lenMap x.r
 |.slArr n s x lo hi=>.slArr n s x.r (lo.map Lx.r) (hi.map Lx.r) none
 |.callV f l=>.callV f.r (rxs l)
def Xc(n:Int):Prop:=-9223372036854775808≤n∧n<9223372036854775808
def W5:UInt64→UInt64→UInt64:=Sq λa b=>a+b
def f8:UInt64→UInt64→UInt64:=Sq λa b=>a-b
def U7:UInt64→UInt64→UInt64:=Sq λa b=>a*b
def divU:UInt64→UInt64→UInt64:=Sq λa b=>a/b
def modU:UInt64→UInt64→UInt64:=Sq λa b=>a%b
def T3:UInt64→UInt64→UInt64:=Sq λa b=>a &&& b
def iq:UInt64→UInt64→UInt64:=Sq λa b=>a ||| b
def xorU:UInt64→UInt64→UInt64:=Sq λa b=>a ^^^ b
def notU:UInt64→UInt64:=Sq λa => ~~~a
def Ui:UInt64→Nat→UInt64:=Sq λa s=>UInt64.ofNat (a.toNat*2^s)
def Ta:UInt64→Nat→UInt64:=Sq λa s=>UInt64.ofNat (a.toNat/2^s)
def addB:UInt8→UInt8→UInt8:=Sq λa b=>a+b
def subB:UInt8→UInt8→UInt8:=Sq λa b=>a-b
def andB:UInt8→UInt8→UInt8:=Sq λa b=>a &&& b
def orB:UInt8→UInt8→UInt8:=Sq λa b=>a ||| b
def iU:Int→UInt64:=Sq λa=>UInt64.ofInt a
def bU:UInt8→UInt64:=Sq λa=>UInt64.ofNat a.toNat
def uB:UInt64→UInt8:=Sq λa=>UInt8.ofNat a.toNat
def iB:Int→UInt8:=Sq λa=>UInt8.ofInt a
def Xf(a b:UInt64):W5 a b=a+b:=by unfold W5;rw[Wz]
def dh(a b:UInt64):f8 a b=a-b:=by unfold f8;rw[Wz]
def zke(a b:UInt64):U7 a b=a*b:=by unfold U7;rw[Wz]
def divU_eq(a b:UInt64):divU a b=a/b:=by unfold divU;rw[Wz]
def zjn(a b:UInt64):modU a b=a%b:=by unfold modU;rw[Wz]
def ng(a b:UInt64):T3 a b=a &&& b:=by unfold T3;rw[Wz]
def sn(a b:UInt64):iq a b=a ||| b:=by unfold iq;rw[Wz]
def zp(a b:UInt64):xorU a b=a ^^^ b:=by unfold xorU;rw[Wz]
def eo(a:UInt64):notU a = ~~~a:=by unfold notU;rw[Wz]
def wo(a:UInt64)(s:Nat):Ui a s=UInt64.ofNat (a.toNat*2^s):=by unfold Ui;rw[Wz]
def lj(a:UInt64)(s:Nat):Ta a s=UInt64.ofNat (a.toNat/2^s):=by unfold Ta;rw[Wz]
def addB_eq(a b:UInt8):addB a b=a+b:=by unfold addB;rw[Wz]
def subB_eq(a b:UInt8):subB a b=a-b:=by unfold subB;rw[Wz]
def andB_eq(a b:UInt8):andB a b=a &&& b:=by unfold andB;rw[Wz]
def orB_eq(a b:UInt8):orB a b=a ||| b:=by unfold orB;rw[Wz]
def qi(a:Int):iU a=UInt64.ofInt a:=by unfold iU;rw[Wz]
def bU_eq(a:UInt8):bU a=UInt64.ofNat a.toNat:=by unfold bU;rw[Wz]
def zxb(a:UInt64):uB a=UInt8.ofNat a.toNat:=by unfold uB;rw[Wz]
def iB_eq(a:Int):iB a=UInt8.ofInt a:=by unfold iB;rw[Wz]
def Xx(op:BinOp)(a b:UInt64)(g:LV→Prop):Prop:=match op with
 |.add=>g (.u (W5 a b))
 |.sub=>g (.u (f8 a b))
 |.mul=>g (.u (U7 a b))
 |.quo=>b≠0∧g (.u (divU a b))
 |.rem=>b≠0∧g (.u (modU a b))
 |.and=>g (.u (T3 a b))
 |.or=>g (.u (iq a b))
 |.xor=>g (.u (xorU a b))
 |.andNot=>g (.u (T3 a (notU b)))
 |.shl=>g (.u (Ui a b.toNat))
 |.shr=>g (.u (Ta a b.toNat))
 |.eql=>g (.bool (decide (a=b)))
 |.neq=>g (.bool (decide (a≠b)))
 |.lss=>g (.bool (decide (a<b)))
 |.leq=>g (.bool (decide (a≤b)))
 |.gtr=>g (.bool (decide (b<a)))
 |.geq=>g (.bool (decide (b≤a)))
def bbL(op:BinOp)(a b:UInt8)(g:LV→Prop):Prop:=match op with
 |.add=>g (.b (addB a b))
 |.sub=>g (.b (subB a b))
 |.and=>g (.b (andB a b))
 |.or=>g (.b (orB a b))
 |.eql=>g (.bool (decide (a=b)))
 |.neq=>g (.bool (decide (a≠b)))
 |.lss=>g (.bool (decide (a<b)))
 |.leq=>g (.bool (decide (a≤b)))
 |.gtr=>g (.bool (decide (b<a)))
 |.geq=>g (.bool (decide (b≤a)))
 |_=>False
def Yu(op:BinOp)(a b:Int)(g:LV→Prop):Prop:=match op with
 |.add=>Xc (a+b)∧g (.i (a+b))
 |.sub=>Xc (a-b)∧g (.i (a-b))
 |.mul=>Xc (a*b)∧g (.i (a*b))
 |.quo=>b≠0∧Xc (a.tdiv b)∧g (.i (a.tdiv b))
 |.rem=>b≠0∧g (.i (a.tmod b))
 |.shl=>0≤a∧0≤b∧b≤64∧Xc (a*2^b.toNat)∧g (.i (a*2^b.toNat))
 |.shr=>0≤a∧0≤b∧b≤64∧g (.i (a/2^b.toNat))
 |.and=>0≤a∧a<9223372036854775808∧0≤b∧b<9223372036854775808∧g (.i (a.toNat &&& b.toNat:Nat))
 |.or=>0≤a∧a<9223372036854775808∧0≤b∧b<9223372036854775808∧g (.i (a.toNat ||| b.toNat:Nat))
 |.eql=>g (.bool (decide (a=b)))
 |.neq=>g (.bool (decide (a≠b)))
 |.lss=>g (.bool (decide (a<b)))
 |.leq=>g (.bool (decide (a≤b)))
 |.gtr=>g (.bool (decide (b<a)))
 |.geq=>g (.bool (decide (b≤a)))
 |_=>False
def kkL(op:BinOp)(a b:Int)(g:LV→Prop):Prop:=match op with
 |.eql=>g (.bool (decide (a=b)))
 |.neq=>g (.bool (decide (a≠b)))
 |.lss=>g (.bool (decide (a<b)))
 |.leq=>g (.bool (decide (a≤b)))
 |.gtr=>g (.bool (decide (b<a)))
 |.geq=>g (.bool (decide (b≤a)))
 |_=>False
def ssL(op:BinOp)(a b:List UInt8)(g:LV→Prop):Prop:=match op with
 |.add=>a.length+b.length≤1000000000∧g (.str (a++b))
 |.eql=>g (.bool (decide (a=b)))
 |.neq=>g (.bool (decide (a≠b)))
 |_=>False
def kf(g:Program)(op:BinOp)(j:Bool)(t:TypeId)(a b:AV)(r:Bool)(z:LV→Prop):Prop:=match op with
 |.eql=>Uh g j t a b=some r∧z (.bool r)
 |.neq=>Uh g j t a b=some r∧z (.bool (!r))
 |_=>False
def aggL(g:Program)(op:BinOp)(j:Bool)(t:TypeId)(l r:List LV)(z:LV→Prop):Prop:=match op with
 |.eql=>∃b,l.all LV.scal=true∧r.all LV.scal=true∧Uh g j t (.agg (toAs l)) (.agg (toAs r))=some b∧z (.bool b)
 |.neq=>∃b,l.all LV.scal=true∧r.all LV.scal=true∧Uh g j t (.agg (toAs l)) (.agg (toAs r))=some b∧z (.bool (!b))
 |_=>False
def lstN(op:BinOp)(len:Nat)(g:LV→Prop):Prop:=match op with
 |.eql=>g (.bool false)∧(len=0→g (.bool true))
 |.neq=>g (.bool true)∧(len=0→g (.bool false))
 |_=>False
def Vq(j:Program)(op:BinOp)(z:Bool)(t:TypeId)(x y:LV)(g:LV→Prop):Prop:=match x,y with
 |.u a,.u b=>Xx op a b g
 |.i a,.i b=>Yu op a b g
 |.b a,.b b=>bbL op a b g
 |.bool a,.bool b=>match op with
  |.eql=>Uh j z t (.bool a) (.bool b)=some (a==b)∧g (.bool (a==b))
  |.neq=>Uh j z t (.bool a) (.bool b)=some (a==b)∧g (.bool (!(a==b)))
  |_=>False
 |.u a,.i s=>match op with
  |.shl=>0≤s∧g (.u (Ui a s.toNat))
  |.shr=>0≤s∧g (.u (Ta a s.toNat))
  |_=>False
 |.i a,.u s=>match op with
  |.shl=>0≤a∧s.toNat≤64∧Xc (a*2^s.toNat)∧g (.i (a*2^s.toNat))
  |.shr=>0≤a∧s.toNat≤64∧g (.i (a/2^s.toNat))
  |_=>False
 |.int k a,.int A b=>k=A∧kkL op a b g
 |.str a,.str b=>ssL op a b g
 |.nilPtr,.nilPtr=>kf j op z t .nilPtr .nilPtr true g
 |.ptr _ _,.nilPtr=>kf j op z t (.ptr 0 0 0) .nilPtr false g
 |.nilSl,.nilSl=>kf j op z t .nilSl .nilSl true g
 |.lst _ len _,.nilSl=>Uh j z t .nilSl .nilSl=some true∧lstN op len g
 |.agg l,.agg r=>aggL j op z t l r g
 |_,_=>False
def unL(op:UnOp)(x:LV)(g:LV→Prop):Prop:=match op,x with
 |.not,.bool b=>g (.bool (!b))
 |.neg,.u a=>g (.u (f8 0 a))
 |.neg,.i a=>Xc (-a)∧g (.i (-a))
 |.xor,.u a=>g (.u (notU a))
 |_,_=>False
def w32(n:Int):Int:=(n+2147483648)%4294967296-2147483648
def x5(k:IntKind)(x:LV)(g:LV→Prop):Prop:=match k,x with
 |.u64,.u a=>g (.u a)
 |.u64,.i a=>g (.u (iU a))
 |.u64,.b a=>g (.u (bU a))
 |.i64,.u a=>a.toNat<9223372036854775808∧g (.i a.toNat)
 |.i64,.i a=>Xc a∧g (.i a)
 |.i64,.b a=>g (.i a.toNat)
 |.u8,.u a=>g (.b (uB a))
 |.u8,.i a=>g (.b (iB a))
 |.u8,.b a=>g (.b a)
 |.u8,.int _ a=>g (.b (iB a))
 |.i32,.i a=>g (.int .i32 (w32 a))
 |.i64,.int _ a=>Xc a∧g (.i a)
 |_,_=>False
def V9(t:Bool)(g j:Prop):Prop:=(t=true→g)∧(t=false→j)
def brV(v:LV)(g j:Prop):Prop:=match v with
 |.bool t=>V9 t g j
 |_=>False
def Zo(z:Pd)(x:LV)(n:Nat)(j:List LV→Prop):Prop:=match x with
 |.ptr p i=>match z[p]? with
  |some (.cells l _)=>i+n≤l.length∧j ((l.drop i).take n)
  |_=>False
 |.dptr p k i=>match z[p]? with
  |some (.dyn l _ _ g _)=>k=g∧i+n≤l.length∧j ((l.drop i).take n)
  |_=>False
 |.cptr l i=>i+n≤l.length∧j ((l.drop i).take n)
 |_=>False
def Rp(l:List LV)(i:Nat)(g:LV→Prop):Prop:=∃v,l[i]?=some v∧g v
def du(z:Pd)(x:LV)(j:LV→Prop):Prop:=match x with
 |.ptr p i=>match z[p]? with
  |some (.cells l _)=>Rp l i j
  |_=>False
 |.dptr p k i=>match z[p]? with
  |some (.dyn l _ _ g _)=>k=g∧Rp l i j
  |_=>False
 |.cptr l i=>Rp l i j
 |_=>False
def Qj(l:List LV)(i:Nat)(r:List LV):List LV:=l.take i++r++l.drop (i+r.length)
def Yo(z:Pd)(x:LV)(r:List LV)(A:Pd→Prop):Prop:=match x with
 |.ptr p i=>match z[p]? with
  |some (.cells l st)=>i+r.length≤l.length∧A (z.set p (.cells (Qj l i r) (st+1)))
  |_=>False
 |.dptr p k i=>match z[p]? with
  |some (.dyn l len j g st)=>k=g∧i+r.length≤l.length∧A (z.set p (.dyn (Qj l i r) len j g (st+1)))
  |_=>False
 |_=>False
def Rl(g:List LV):Nat→List LV
 |0=>[]
 |n+1=>g++Rl g n
def Wf(C:Pd)(j:Nat)(x:LV)(A:Nat→List LV→Prop):Prop:=match x with
 |.nilSl=>A 0 []
 |.dy p k=>match C[p]? with
  |some (.dyn l len g z _)=>k=z∧g=j∧A len l
  |_=>False
 |.vw p k B len=>match C[p]? with
  |some (.dyn l _ g z _)=>k=z∧g=j∧B*g+len*g≤l.length∧A len ((l.drop (B*g)).take (len*g))
  |_=>False
 |.lst l len g=>g=j∧A len l
 |.str l=>j=1∧A l.length (l.map LV.b)
 |_=>False
def bytL(A:Pd)(x:LV)(z:List LV→Prop):Prop:=match x with
 |.nilSl=>z []
 |.dy p k=>match A[p]? with
  |some (.dyn l _ g j _)=>k=j∧g=1∧z l
  |_=>False
 |.lst l len g=>g=1∧len≠0∧z l
 |_=>False
def lenL(z:Pd)(x:LV)(j:Nat→Prop):Prop:=match x with
 |.nilSl=>j 0
 |.dy p k=>match z[p]? with
  |some (.dyn _ len _ g _)=>k=g∧j len
  |_=>False
 |.vw p k _ len=>match z[p]? with
  |some (.dyn _ _ _ g _)=>k=g∧j len
  |_=>False
 |.lst _ len _=>j len
 |_=>False
def Rq(C:Pd)(j:Nat)(s:LV)(n:Nat)(A:List LV)(D:LV→Pd→Prop):Prop:=match s with
 |.nilSl=>D (.dy C.length 0) (C++[.dyn A n j 0 0])
 |.dy p k=>match C[p]? with
  |some (.dyn l len g z st)=>k=z∧(g=j∧0<g)∧len≤1000000000∧D (.dy p (z+1)) (C.set p (.dyn (l++A) (len+n) g (z+1) (st+1)))
  |_=>False
 |.vw p k E len=>match C[p]? with
  |some (.dyn l B g z st)=>k=z∧(g=j∧E=0∧0<n)∧len≤1000000000∧if (len+n)*g≤l.length then D (.vw p k 0 (len+n)) (C.set p (.dyn (Qj l (len*g) A) B g z (st+1)))∧D (.dy C.length 0) (C++[.dyn (l.take (len*g)++A) (len+n) j 0 0]) else len=B∧0<g∧D (.dy p (z+1)) (C.set p (.dyn (l++A) (len+n) g (z+1) (st+1)))∧D (.dy C.length 0) (C++[.dyn (l++A) (len+n) j 0 0])
  |_=>False
 |.vf p k len=>match C[p]? with
  |some (.dyn l _ g z _)=>k=z∧(g=j∧0<n)∧len≤1000000000∧len*g≤l.length∧D (.dy C.length 0) (C++[.dyn (l.take (len*g)++A) (len+n) j 0 0])
  |_=>False
 |_=>False
def zo0(B:Pf)(z:List LV):List (Nat×Nat×Lx)→Option (List LV)
 |[]=>some z
 |(j,g,x)::A=>match (x.ev B).cells with
  |none=>none
  |some l=>if l.length=g∧j+g≤z.length then zo0 B (Qj z j l) A else none
def Z4(d:TypeDesc)(a b:LV):Option Bool:=match d,a,b with
 |.int _,.i a,.i b=>some (decide (a=b))
 |.int _,.u a,.u b=>some (decide (a=b))
 |.string,.str a,.str b=>some (decide (a=b))
 |_,_,_=>none
def zne(d:TypeDesc)(k:LV)(g:Option LV→Prop):List (LV×LV×Nat)→Prop
 |[]=>g none
 |(j,v,_)::l=>match Z4 d k j with
  |some b=>V9 b (g (some v)) (zne d k g l)
  |none=>False
def Zf(d:TypeDesc)(k v:LV)(g:Nat)(K:List (LV×LV×Nat)→Bool→Prop):List (LV×LV×Nat)→Prop
 |[]=>K [(k,v,g)] true
 |(z,A,n)::l=>match Z4 d k z with
  |some b=>V9 b (K ((k,v,n)::l) false) (Zf d k v g (λr j=>K ((z,A,n)::r) j) l)
  |none=>False
def Z1(z:Pd)(x:LV)(j:List (LV×LV×Nat)→Prop):Prop:=match x with
 |.nilMap=>j []
 |.map p=>match z[p]? with
  |some (.map g _ _)=>j g
  |_=>False
 |_=>False
def Zg(g:LV)(ok:Bool)(j:LV→Prop):Option LV→Prop
 |some v=>j (match ok with|true=>.tup [v,.bool true]|false=>v)
 |none=>j (match ok with|true=>.tup [g,.bool false]|false=>g)
def setK(A:Pd)(p j st:Nat)(B:Pd→Prop):List (LV×LV×Nat)→Bool→Prop:=λz g=>B (A.set p (.map z (match g with|true=>j+1|false=>j) (st+1)))
def zqp(z:Pd)(d:TypeDesc)(m k v:LV)(A:Pd→Prop):Prop:=match m with
 |.map p=>match z[p]? with
  |some (.map j g st)=>Zf d k v g (setK z p g st A) j
  |_=>False
 |_=>False
def Rx(j:Pf)(d:Nat)(x:Option Lx)(g:Nat→Prop):Prop:=match x with
 |none=>g d
 |some x=>match x.ev j with
  |.i n=>0≤n∧g n.toNat
  |.u n=>g n.toNat
  |_=>False
def fullV(p k a b m:Nat):LV:=match decide (a=0∧b=m∧0<b) with
 |true=>.vf p k b
 |false=>.vw p k a (b-a)
def ixO(C:Pd)(g:Nat)(x:LV)(n:Int)(A:LV→Prop):Prop:=match x with
 |.dy p k=>match C[p]? with
  |some (.dyn _ len j z _)=>k=z∧j=g∧0≤n∧n<len∧A (.dptr p k (n.toNat*g))
  |_=>False
 |.vw p k B len=>match C[p]? with
  |some (.dyn _ _ j z _)=>k=z∧j=g∧0≤n∧n<len∧A (.dptr p k ((B+n.toNat)*g))
  |_=>False
 |.lst l len j=>j=g∧0≤n∧n<len∧A (.cptr l (n.toNat*g))
 |_=>False
inductive LTgt where
 |fn (f:Nat)
 |yield (p:Nat)
def TgtR(c:Cx):LTgt→Tgt→Prop
 |.fn f,.fn g=>f=g
 |.yield p,.yield o=>c.hd[p]?=some (0,.ptr o 0 0)
 |_,_=>False
def sj(g:Program):LTgt→Prop
 |.fn f=>z7j g f=true∧zg6 g f=false
 |.yield _=>True
def Tw(E:Program)(t:LTgt)(j:List LV)(F:Pd)(G:LV→Pd→Prop):Prop :=
 sj E t∧∀c B g,HSim c F→TgtR c t B→ARs c j g→∃m C D,U6 E (OL E) m B g c.H=.ok C D∧∃z v A,z.H=D∧HSim z A∧Step c F z A∧AR z v C∧G v A
def Qb(T:Program)(A:Pf)(z:Pd)(o:LOp)(B:LV→Pd→Prop):Prop:=match o with
 |.move x=>B (x.ev A) z
 |.pick c a b=>match c.ev A with
  |.bool t=>match a.ev A,b.ev A with
   |.bool x,.bool y=>B (.bool (match t with|true=>x|false=>y)) z
   |x,y=>V9 t (B x z) (B y z)
  |_=>False
 |.alloc l=>B (.ptr z.length 0) (z++[.cells l 0])
 |.box x=>match (x.ev A).cells with
  |some l=>B (.ptr z.length 0) (z++[.cells l 0])
  |none=>False
 |.build K L=>match zo0 A K L with
  |some l=>B (.agg l) z
  |none=>False
 |.buildSl g len K L=>match zo0 A K L with
  |some l=>l.length=len*g∧B (.dy z.length 0) (z++[.dyn l len g 0 0])
  |none=>False
 |.load1 x=>du z (x.ev A) λv=>B v z
 |.loadN n x=>Zo z (x.ev A) n λl=>B (.agg l) z
 |.store n x y=>match (y.ev A).cells with
  |some l=>l.length=n∧Yo z (x.ev A) l λM=>B (.tup []) M
  |none=>False
 |.nilChk x=>match x.ev A with
  |.ptr p i=>B (.ptr p i) z
  |.dptr p k i=>B (.dptr p k i) z
  |.cptr l i=>B (.cptr l i) z
  |.fn (.func f) a b=>B (.fn (.func f) a b) z
  |_=>False
 |.bin op O t x y=>Vq T op O t (x.ev A) (y.ev A) λv=>B v z
 |.un op x=>unL op (x.ev A) λv=>B v z
 |.cvInt k x=>x5 k (x.ev A) λv=>B v z
 |.cvStr x=>bytL z (x.ev A) λl=>∃Q:List UInt8,l=Q.map LV.b∧B (.str Q) z
 |.cvSame x=>match x.ev A with
  |.str l=>B (.str l) z
  |_=>False
 |.cvBytes x=>match x.ev A with
  |.str l=>B (.dy z.length 0) (z++[.dyn (l.map LV.b) l.length 1 0 0])
  |_=>False
 |.mkFunc f a b=>B (.fn (.func f) (a.map (·.ev A)) (b.map (·.ev A))) z
 |.mkSl g I l c=>match l.ev A,c.ev A with
  |.i l,.i c=>l=c∧0≤l∧l≤1048576∧I.length=g∧B (.dy z.length 0) (z++[.dyn (Rl I l.toNat) l.toNat g 0 0])
  |_,_=>False
 |.slStr x D hi=>match x.ev A with
  |.str l=>Rx A 0 D λa=>Rx A l.length hi λb=>a≤b∧b≤l.length∧B (.str ((l.drop a).take (b-a))) z
  |_=>False
 |.slSl g x D hi=>match x.ev A with
  |.nilSl=>Rx A 0 D λa=>Rx A 0 hi λb=>a=0∧b=0∧B .nilSl z
  |.dy p k=>match z[p]? with
   |some (.dyn _ len j C _)=>k=C∧j=g∧Rx A 0 D λa=>Rx A len hi λb=>a≤b∧b≤len∧B (.vw p k a (b-a)) z
   |_=>False
  |.vw p k U len=>match z[p]? with
   |some (.dyn _ _ j C _)=>k=C∧j=g∧Rx A 0 D λa=>Rx A len hi λb=>a≤b∧b≤len∧B (.vw p k (U+a) (b-a)) z
   |_=>False
  |.lst l len j=>j=g∧Rx A 0 D λa=>Rx A len hi λb=>a≤b∧b≤len∧B (.lst ((l.drop (a*j)).take ((b-a)*j)) (b-a) j) z
  |_=>False
 |.slSl3 g x D hi H=>match x.ev A with
  |.dy p k=>match z[p]? with
   |some (.dyn _ len j C _)=>k=C∧j=g∧Rx A 0 D λa=>Rx A len hi λb=>Rx A 0 (some H) λm=>0<len∧a≤b∧b≤m∧m≤len∧B (fullV p k a b m) z
   |_=>False
  |.lst l len j=>j=g∧Rx A 0 D λa=>Rx A len hi λb=>Rx A 0 (some H) λm=>0<len∧a≤b∧b≤m∧m≤len∧B (.lst ((l.drop (a*j)).take ((b-a)*j)) (b-a) j) z
  |_=>False
 |.fieldAddr E x=>match x.ev A with
  |.ptr p i=>B (.ptr p (i+E)) z
  |.dptr p k i=>B (.dptr p k (i+E)) z
  |.cptr l i=>B (.cptr l (i+E)) z
  |_=>False
 |.field O n E x=>match x.ev A with
  |.agg l=>match O with
   |true=>E+n≤l.length∧B (.agg ((l.drop E).take n)) z
   |false=>Rp l E λv=>B v z
  |_=>False
 |.ixAddr g x i=>match i.ev A with
  |.i n=>ixO z g (x.ev A) n λv=>B v z
  |.u n=>ixO z g (x.ev A) (n.toNat:Int) λv=>B v z
  |_=>False
 |.ixStr x i=>match x.ev A,i.ev A with
  |.str l,.i n=>0≤n∧n<l.length∧B (.b (l.getD n.toNat 0)) z
  |.str l,.u n=>n.toNat<l.length∧B (.b (l.getD n.toNat 0)) z
  |.str l,.b n=>n.toNat<l.length∧B (.b (l.getD n.toNat 0)) z
  |_,_=>False
 |.extract i x=>match x.ev A with
  |.tup l=>Rp l i λv=>B v z
  |_=>False
 |.lenStr x=>match x.ev A with
  |.str l=>B (.i l.length) z
  |_=>False
 |.lenSl x=>lenL z (x.ev A) λn=>B (.i n) z
 |.maxi H x y=>match x.ev A,y.ev A with
  |.i a,.i b=>B (.i (match H with|true=>max a b|false=>min a b)) z
  |.u a,.u b=>B (.u (match H with|true=>if a<b then b else a|false=>if b<a then b else a)) z
  |_,_=>False
 |.max3 H x y I=>match x.ev A with
  |.i a=>match y.ev A with
   |.i b=>match I.ev A with
    |.i d=>B (.i (match H with|true=>max (max a b) d|false=>min (min a b) d)) z
    |_=>False
   |_=>False
  |_=>False
 |.ixAddrArr len g x i=>match i.ev A with
  |.i n=>0≤n∧n<len∧match x.ev A with
   |.ptr p R=>B (.ptr p (R+n.toNat*g)) z
   |.dptr p k R=>B (.dptr p k (R+n.toNat*g)) z
   |.cptr l R=>B (.cptr l (R+n.toNat*g)) z
   |_=>False
  |_=>False
 |.ixArr O len g x i=>match i.ev A with
  |.i n=>0≤n∧n<len∧match x.ev A with
   |.agg l=>match O with
    |true=>n.toNat*g+g≤l.length∧B (.agg ((l.drop (n.toNat*g)).take g)) z
    |false=>Rp l (n.toNat*g) λv=>B v z
   |_=>False
  |_=>False
 |.lenArr n _=>B (.i n) z
 |.appZ g I s x=>match x.ev A with
  |.i n=>0≤n∧n≤1048576∧I.length=g∧Rq z g (s.ev A) n.toNat (Rl I n.toNat) B
  |_=>False
 |.appG g s x=>Wf z g (x.ev A) λn l=>n≤1048576∧Rq z g (s.ev A) n l B
 |.copy g d x=>Wf z g (x.ev A) λn l=>match d.ev A with
  |.dy p k=>match z[p]? with
   |some (.dyn r len j C st)=>k=C∧j=g∧B (.i (min n len:Nat)) (z.set p (.dyn (Qj r 0 (l.take (min n len*g))) len j C (st+1)))
   |_=>False
  |.vw p k D len=>match z[p]? with
   |some (.dyn r F j C st)=>k=C∧j=g∧(D+len)*g≤r.length∧B (.i (min n len:Nat)) (z.set p (.dyn (Qj r (D*g) (l.take (min n len*g))) F j C (st+1)))
   |_=>False
  |_=>False
 |.clear g I x=>match x.ev A with
  |.vw p k D len=>match z[p]? with
   |some (.dyn r F j C st)=>k=C∧j=g∧I.length=g∧(D+len)*g≤r.length∧B .any (z.set p (.dyn (Qj r (D*g) (Rl I len)) F j C (st+1)))
   |_=>False
  |_=>False
 |.mkMap0=>B (.map z.length) (z++[.map [] 0 0])
 |.mkMap1 x=>match x.ev A with
  |.i _=>B (.map z.length) (z++[.map [] 0 0])
  |_=>False
 |.lookup d I ok x i=>Z1 z (x.ev A) λP=>zne d (i.ev A) (Zg I ok λv=>B v z) P
 |.mapUpd d m k v=>zqp z d (m.ev A) (k.ev A) (v.ev A) λM=>B .any M
 |.lenMap x=>Z1 z (x.ev A) λP=>B (.i P.length) z
 |.slArr n g x D hi=>match x.ev A with
  |.ptr p i=>match z[p]? with
   |some (.cells l st)=>i+n*g≤l.length∧Rx A 0 D λa=>Rx A n hi λb=>a≤b∧b≤n∧B (.lst ((l.drop (i+a*g)).take ((b-a)*g)) (b-a) g) (z.set p (.dead (st+1)))
   |_=>False
  |_=>False
 |.callV f G=>match f.ev A with
  |.fn (.func O) a b=>Tw T (.fn O) (a++G.map (·.ev A)++b) z B
  |.fn (.yield p) [] _=>Tw T (.yield p) (G.map (·.ev A)) z B
  |_=>False
end
variable{E:List LV}{uQ:Cx}
section
def z5x{t:Tr AV}:∀{n i:Nat} {l:List AV},l.length=n→(∀g,g<n→Pg (Pz (i+g)) t=l[g]?)→Vk t i n=some l
 |0,i,l,h,_=>by
  have:l=[]:=Kn h;subst this;rfl
 |n+1,i,[],h,_=>Cc
 |n+1,i,a::l,h,k=>by
  have j:=k 0 J;simp only[M6,Ks]at j;have z:=z5x (t:=t) (n:=n) (i:=i+1) (l:=l) Aw (λg A=>by
   have:=k (g+1) J;rw[Km]at this;rw[←this,show i+1+g=i+(g+1) from J])
  simp only[Vk,j,z]
def zpt{t:Tr AV}{i n:Nat}{l:List AV}(h:Vk t 0 g=some l)(j:i+n≤g):Vk t i n=some ((l.drop i).take n):=by
 obtain⟨B,z⟩:=zf h;refine z5x Ab (λC A=>?_);have:=z (i+C) J;rw[Kw]at this;rw[this,Lu A,O2]
def z70(l:List AV):Vk (T9 l 0 .e) 0 l.length=some l :=
 z5x rfl (λj g=>by rw[get_ofList,J6 J];simp)
def sg(l:List AV)(i:Nat)(r:List AV):List AV:=l.take i++r++l.drop (i+r.length)
def zqh{l r:List AV}{i:Nat}(h:i+r.length≤l.length):(sg l i r).length=l.length:=by
 unfold sg;simp;omega
def zi2{l r:List AV}{i:Nat}(h:i+r.length≤l.length)(g:Nat):(sg l i r)[g]?=if i≤g∧g<i+r.length then r[g-i]? else l[g]?:=by
 have hi:(l.take i).length=i:=Ab
 unfold sg;by_cases j:g<i
 ·rw[J1 J,K0,J4 J,Lu j]
 ·by_cases z:g<i+r.length
  ·rw[J6 J,J4 Ab,Kl J,hi]
  ·rw[J1 J,Kl Ab,O2]
   congr 1
   simp;omega
def zgp{t:Tr AV}{i:Nat}{l r:List AV}(h:Vk t 0 g=some l)(j:i+r.length≤g):Vk (T9 r i t) 0 g=some (sg l i r):=by
 obtain⟨z,A⟩:=zf h;refine z5x (by rw[zqh J];exact z) (λC B=>?_);have:=A C B;rw[Kw]at this ⊢;rw[get_ofList,zi2 J,this]
def zpd{t:Tr AV}{l r:List AV}(h:Vk t 0 g=some l):Vk (T9 r g t) 0 (g+r.length)=some (l++r):=by
 obtain⟨z,A⟩:=zf h;refine z5x Ab (λB C=>?_);rw[Kw,get_ofList];by_cases j:g≤B
 ·rw[J6 ⟨j,J⟩,Kl J,z]
 ·rw[J1 J,J4 J];have:=A B J
  rwa [Kw]at this
def Zj{H:Heap}{o v i n:Nat}{t:Tr AV}{l:List AV}(A:H.get o=some (.cells t j v M))(hc:Vk t 0 g=some l)(B:g≤j)(z:i+n≤g):Tn H o v i n=some ((l.drop i).take n):=by
 unfold Tn;rw[A];have hb:Nat.ble (Nat.add i n) j=true:=Kc (by show i+n≤j;omega);simp only[K5,hb];exact zpt hc z
def z3r{o:Nat}(h:vU.get o=F.get o)(v i n:Nat):Tn vU o v i n=Tn F o v i n:=by
 unfold Tn;rw[h]
def zlu{o v i n m:Nat}{l:List AV}(h:Tn F o v i n=some l)(A:g+m≤n):Tn F o v (i+g) m=some ((l.drop g).take m):=by
 unfold Tn at h ⊢;split at h
 ·rename_i t j B G H;split at h
  ·rename_i hv;split at h
   ·rename_i hb;have C:i+n≤j:=Ki hb;have z:Nat.ble (Nat.add (i+g) m) j=true:=Kc (by show i+g+m≤j;omega);simp only[z];obtain⟨I,D⟩:=zf h;refine z5x Ab (λq E=>?_);have:=D (g+q) J;rw[L7,this,Lu E,O2]
   ·cases h
  ·cases h
 ·cases h
def zen{o v i n:Nat}{l:List AV}(h:Tn F o v i n=some l):l.length=n:=by
 unfold Tn at h;split at h
 ·split at h
  ·split at h
   ·exact (zf h).1
   ·cases h
  ·cases h
 ·cases h
section lists
variable {c : Cx}
def ARs.length:∀{l:List LV} {r:List AV},ARs c l r→l.length=r.length
 |_,_,.nil=>rfl
 |_,_,.cons _ es=>by simp[ARs.length es]
def ARs.get:∀{l:List LV} {r:List AV},ARs c l r→∀{i:Nat} {v:LV},l[i]?=some v→∃a,r[i]?=some a∧AR c v a
 |_,_,.nil,i,v,h=>Cc
 |_,_,.cons e es,0,v,h=>Fl
 |_,_,.cons e es,i+1,v,h=>by simp only[Km]at h ⊢;exact ARs.get es h
def ARs.append:∀{l:List LV} {r:List AV} {l':List LV} {r':List AV},ARs c l r→ARs c l' r'→ARs c (l++l') (r++r')
 |_,_,_,_,.nil,k=>k
 |_,_,_,_,.cons e es,k=>.cons e (ARs.append es k)
def ARs.drop:∀{l:List LV} {r:List AV},ARs c l r→∀n,ARs c (l.drop n) (r.drop n)
 |_,_,h,0=>h
 |_,_,.nil,_+1=>.nil
 |_,_,.cons _ es,n+1=>ARs.drop es n
def ARs.take:∀{l:List LV} {r:List AV},ARs c l r→∀n,ARs c (l.take n) (r.take n)
 |_,_,_,0=>.nil
 |_,_,.nil,_+1=>.nil
 |_,_,.cons e es,n+1=>.cons e (ARs.take es n)
def ARs.lay{l r:List LV}{l' r':List AV}(h:ARs c l l')(k:ARs c r r')(i:Nat):ARs c (Qj l i r) (sg l' i r'):=by
 unfold Qj sg;rw[k.length];exact ((h.take i).append k).append (h.drop _)
def zbc{l r:List LV}{i:Nat}(h:i+r.length≤l.length):(Qj l i r).length=l.length:=by
 unfold Qj;simp;omega
def ARs.rep{z:List LV}{z':List AV}(h:ARs c z z'):∀n,ARs c (Rl z n) (Wb z' n)
 |0=>.nil
 |n+1=>h.append (ARs.rep h n)
def z62(g:List LV):∀n,(Rl g n).length=n*g.length
 |0=>by simp[Rl]
 |n+1=>by simp[Rl,z62 g n,Ky];omega
end lists
def zz7(c:Cx){v:LV}(h:v.scal=true):AR c v (toA v):=by
 cases v<;>first|(cases h;done)|(unfold toA;constructor)
def z8w(c:Cx):∀{l:List LV},l.all LV.scal=true→ARs c l (toAs l)
 |[],_=>by unfold toAs;exact .nil
 |v::l,h=>by
  simp only[Mq,J2]at h;unfold toAs;exact .cons (zz7 c h.1) (z8w c h.2)
def wm(c:Cx){v:LV}(h:v.cst=true):AR c v (toA v):=by
 unfold LV.cst at h;split at h
 ·unfold toA;exact .fn .nil .nil
 ·unfold toA;exact .agg (z8w c h)
 ·unfold toA toAs;exact .tup .nil
 ·exact zz7 c h
def AR.cells{c:Cx}{v:LV}{a:AV}(h:AR c v a){l:List LV}(hl:v.cells=some l):∃l',a.cells=some l'∧ARs c l l':=by
 cases v with
 |any=>cases hl
 |tup _=>cases hl
 |agg l0=>cases hl;cases h with|agg h=>exact⟨_,rfl,h⟩
 |dy p k =>
  simp only[LV.cells,Option.some.injEq]at hl;subst hl;have h0:=h;refine⟨[a],?_,.cons h0 .nil⟩;cases h with|dy _ _ _ hs=>cases a<;>first|rfl|cases hs
 |vw p k lo len =>
  simp only[LV.cells,Option.some.injEq]at hl;subst hl;have h0:=h;refine⟨[a],?_,.cons h0 .nil⟩;cases h with|vw _ _ _ hs _=>cases a<;>first|rfl|cases hs
 |vf p k len =>
  simp only[LV.cells,Option.some.injEq]at hl;subst hl;have h0:=h;refine⟨[a],?_,.cons h0 .nil⟩;cases h with|vf _ _ _ hs=>cases a<;>first|rfl|cases hs
 |_ =>
  simp only[LV.cells,Option.some.injEq]at hl;subst hl;have h0:=h;refine⟨[a],?_,.cons h0 .nil⟩;cases h<;>rfl
def CxLe.refl(c:Cx):CxLe c c:=⟨λ_ k h e=>⟨k,h,e,J8 _,λ_=>rfl,λ_=>rfl⟩,λ_ h=>⟨h,rfl⟩⟩
def CxLe.trans{a b c:Cx}(h:CxLe a b)(k:CxLe b c):CxLe a c:=by
 refine⟨λp v x e=>?_,λo e=>?_⟩
 ·obtain⟨v1,x1,e1,l1,s1,f1⟩:=h.hd p v x e;obtain⟨v2,x2,e2,l2,s2,f2⟩:=k.hd p v1 x1 e1;refine⟨v2,x2,e2,K8 l1 l2,λq=>?_,λq=>?_⟩
  ·have q1:v=v1:=J
   have q2:v1=v2:=J
   rw[s1 q1,s2 q2]
  ·have q1:=f1 q;have:=s1 q1;subst this;rw[q1,f2 q]
 ·obtain⟨h1,h2⟩:=h.fz o e;obtain⟨h3,h4⟩:=k.fz o h1;exact⟨h3,h4.trans h2⟩
def CxLe.fix{c:Cx}(h:CxLe c uQ){p k:Nat}{x:AV}(e:c.hd[p]?=some (k,x))(hf:gt x=true):uQ.hd[p]?=some (k,x):=by
 obtain⟨k',x',e',_,s,f⟩:=h.hd p k x e;have:=f hf;subst this;rw[s rfl];exact e'
mutual
def AR.mono{c c':Cx}(h:CxLe c c'):∀{v:LV} {a:AV},AR c v a→AR c' v a
 |_,_,.any a=>.any a
 |_,_,.bool b=>.bool b
 |_,_,.u x=>.u x
 |_,_,.b x=>.b x
 |_,_,.i n=>.i n
 |_,_,.int k n=>.int k n
 |_,_,.str l=>.str l
 |_,_,.nilPtr=>.nilPtr
 |_,_,.ptr e=>.ptr (h.fix e rfl)
 |_,_,.dptr hp hk ha=>by
  obtain⟨k2,h2,e2,l2,s2,_⟩:=h.hd _ _ _ hp;refine .dptr e2 (K8 hk l2) (λq=>?_);have q1:=ha J;rw[←s2 J];exact q1
 |_,_,.cptr hf hr hl=>.cptr (h.fz _ hf).1 (by rw[z3r (h.fz _ hf).2];exact hr) (ARs.mono h hl)
 |_,_,.nilSl=>.nilSl
 |_,_,.dy hp hk ha hs=>by
  obtain⟨k2,h2,e2,l2,s2,_⟩:=h.hd _ _ _ hp;refine .dy e2 (K8 hk l2) (λq=>?_) hs;have q1:=ha J;rw[←s2 J];exact q1
 |_,_,.vw hp hk ha hs hz=>by
  obtain⟨k2,h2,e2,l2,s2,_⟩:=h.hd _ _ _ hp;refine .vw e2 (K8 hk l2) (λq=>?_) hs (λq=>?_)
  ·have q1:=ha J;rw[←s2 J];exact q1
  ·have q1:=hz J;rw[←s2 J];exact q1
 |_,_,.vf hp hk ha hs=>by
  obtain⟨k2,h2,e2,l2,s2,_⟩:=h.hd _ _ _ hp;refine .vf e2 (K8 hk l2) (λq=>?_) hs;have q1:=ha J;rw[←s2 J];exact q1
 |_,_,.lst hf gg hlen hr hl=>.lst (h.fz _ hf).1 gg hlen (by rw[z3r (h.fz _ hf).2];exact hr) (ARs.mono h hl)
 |_,_,.lstNil=>.lstNil
 |_,_,.lstEmp=>.lstEmp
 |_,_,.nilMap=>.nilMap
 |_,_,.map e=>.map (h.fix e rfl)
 |_,_,.nilFn=>.nilFn
 |_,_,.fn hl hr=>.fn (ARs.mono h hl) (ARs.mono h hr)
 |_,_,.yield e=>.yield (h.fix e rfl)
 |_,_,.nilIf=>.nilIf
 |_,_,.iface e=>.iface (AR.mono h e)
 |_,_,.agg e=>.agg (ARs.mono h e)
 |_,_,.tup e=>.tup (ARs.mono h e)
def ARs.mono{c c':Cx}(h:CxLe c c'):∀{l:List LV} {r:List AV},ARs c l r→ARs c' l r
 |_,_,.nil=>.nil
 |_,_,.cons e es=>.cons (AR.mono h e) (ARs.mono h es)
end
def MRs.mono{c c':Cx}(h:CxLe c c'):∀{l:List (LV×LV×Nat)} {r:List (AV×AV×Nat)},MRs c l r→MRs c' l r
 |_,_,.nil=>.nil
 |_,_,.cons hk hv hs=>.cons (hk.mono h) (hv.mono h) (MRs.mono h hs)
def Qo.mono{c c':Cx}(h:CxLe c c'){ρ:Pf}{E:Tr AV}(k:Qo c ρ E):Qo c' ρ E:=λt=>(k t).mono h
def ObR.mono{c c':Cx}(h:CxLe c c'){k:Nat}{x:AV}{ob:LObj}(hg:∀o,Qf x=some o→c'.H.get o=c.H.get o)(r:ObR c k x ob):ObR c' k x ob:=by
 cases ob with
 |dead st=>trivial
 |cells l st =>
  obtain⟨r0,o,t,l',rfl,r2,r3,r4⟩:=r;exact⟨r0,o,t,l',rfl,Eb,r3,r4.mono h⟩
 |dyn l len gF gG st =>
  obtain⟨r0,r1,r2⟩:=r;refine⟨r0,r1,?_⟩;rcases r2 with r2|⟨o,v,room,t,gg,l',rfl,r3,r4,r5,r6,r7⟩
  ·exact .inl r2
  ·exact .inr ⟨o,v,room,t,gg,l',rfl,by rw[hg o rfl];exact r3,r4,r5,r6.mono h,r7⟩
 |map es ck st =>
  obtain⟨r0,o,gD,rfl,r2,r3⟩:=r;exact⟨r0,o,gD,rfl,Eb,r3.mono h⟩
 |iter l pos =>
  obtain⟨r0,o,rfl,r2⟩:=r;exact⟨r0,o,rfl,Eb⟩
 |loop s pend f n ρ ps a b d =>
  obtain⟨r0,o,od,E,rfl,r2,r3,r4⟩:=r;exact⟨r0,o,od,E,rfl,h.fix r2 rfl,by rw[hg o rfl];exact r3,r4.mono h⟩
 |defd op =>
  obtain⟨r0,o,rfl,r2⟩:=r;exact⟨r0,o,rfl,Eb⟩
def Step.refl(c:Cx)(G:Pd):Step c G c G:=by
 refine⟨.refl c,J8 _,λ_ _ _=>rfl,λ_ h=>.inl h,λ_ h=>.inl h,λp ob gg e1 e2=>?_,λp ob gg k h o e1 e2 _ _ _ _=>?_⟩
 ·rw[e1]at e2;cases e2;exact J8 _
 ·rw[e1]at e2;cases e2;exact⟨rfl,rfl,rfl⟩
def Step.trans{c c1 c2:Cx}{G G1 G2:Pd}(h0:HSim c G)(h1:HSim c1 G1)(s1:Step c G c1 G1)(s2:Step c1 G1 c2 G2):Step c G c2 G2:=by
 have gF:∀p ob,G[p]?=some ob→∃gg,G1[p]?=some gg:=λp ob e=>by
  have hp:p<c.hd.length:=by rw[h0.len];exact (Jy.1 e).1
  obtain⟨k,h,e3⟩:∃k h,c.hd[p]?=some (k,h):=⟨_,_,J7 hp⟩;obtain⟨k1,x1,q1,_,_,_⟩:=s1.le.hd p k h e3;have hp:p<G1.length:=by rw[←h1.len];exact (Jy.1 q1).1
  exact⟨_,J7 hp⟩
 refine⟨s1.le.trans s2.le,K8 s1.nx s2.nx,λo ho hn=>?_,λo ho=>?_,λo ho=>?_,λp ob gD e1 e2=>?_,λp ob gD k h o e1 e2 e3 e4 hl he=>?_⟩
 ·rw[s2.frame o (Kt ho s1.nx) (λhc=>?_),s1.frame o ho hn];rcases s1.new o hc with h|h
  ·exact hn h
  ·omega
 ·rcases s2.new o ho with h|h
  ·exact s1.new o h
  ·exact .inr (K8 s1.nx h)
 ·rcases s2.fznew o ho with h|h|h
  ·exact s1.fznew o h
  ·rcases s1.new o h with h|h
   ·exact .inr (.inl h)
   ·exact .inr (.inr h)
  ·exact .inr (.inr (K8 s1.nx h))
 ·obtain⟨gg,q2⟩:=gF p ob e1;exact K8 (s1.mono p ob gg e1 q2) (s2.mono p gg gD q2 e2)
 ·obtain⟨gg,q2⟩:=gF p ob e1;have m1:=s1.mono p ob gg e1 q2;have m2:=s2.mono p gg gD q2 e2;obtain⟨rfl,r3,r4⟩:=s1.st p ob gg k h o e1 q2 e3 e4 hl J;obtain⟨rfl,r7,r8⟩:=s2.st p gg gD k h o q2 e2 (by rw[r4];exact e3) e4 hl J;rw[r7,r8,r3,r4];exact⟨rfl,rfl,rfl⟩
def HSim.push{c:Cx}{G:Pd}(hs:HSim c G){H':Heap}{x:AV}{ob:LObj}(gI:c.H.next≤H'.next)(gH:∀o,o<c.H.next→H'.get o=c.H.get o)(gK:∀o,Qf x=some o→c.H.next≤o∧o<H'.next)
  (gO:ObR ⟨c.hd++[(0,x)],c.Fz,H'⟩ 0 x ob):HSim ⟨c.hd++[(0,x)],c.Fz,H'⟩ (G++[ob])∧Step c G ⟨c.hd++[(0,x)],c.Fz,H'⟩ (G++[ob])∧CxLe c ⟨c.hd++[(0,x)],c.Fz,H'⟩:=by
 have gM:∀(p k:Nat) (h:AV),c.hd[p]?=some (k,h)→(c.hd++[(0,x)])[p]?=some (k,h):=λp k h e=>by
  rw[J4 (Jy.1 e).1];exact e
 have hle:CxLe c ⟨c.hd++[(0,x)],c.Fz,H'⟩:=⟨λp k h e=>⟨k,h,gM p k h e,J8 _,λ_=>rfl,λ_=>rfl⟩,λo ho=>⟨ho,gH o (hs.fz o ho)⟩⟩;have hinv:∀(p:Nat) (k:Nat) (h:AV) (gg:LObj),(c.hd++[(0,x)])[p]?=some (k,h)→(G++[ob])[p]?=some gg→(c.hd[p]?=some (k,h)∧G[p]?=some gg)∨(p=G.length∧k=0∧h=x∧gg=ob):=by
  intro p k h gg e1 e2;by_cases hp:p<G.length
  ·rw[J4 hp]at e2;rw[J4 (by rw[hs.len];exact hp)]at e1;exact .inl ⟨e1,e2⟩
  ·have gR:p=G.length:=by
    have:=(Jy.1 e2).1;simp at this;omega
   subst gR;rw[Kg]at e2;rw[←hs.len,Kg]at e1;cases e1;cases e2;exact .inr ⟨rfl,rfl,rfl,rfl⟩
 have gF:∀o,Ru ⟨c.hd++[(0,x)],c.Fz,H'⟩ (G++[ob]) o→Ru c G o∨(c.H.next≤o∧o<H'.next):=by
  rintro o ⟨p,gg,k,h,e1,e2,e3,e4⟩;rcases hinv p k h gg e3 e1 with ⟨q1,q2⟩|⟨_,_,rfl,_⟩
  ·exact .inl ⟨p,gg,k,h,q2,e2,q1,e4⟩
  ·exact .inr (gK o e4)
 refine⟨⟨Fu,λo ho=>Kt (hs.fz o ho) gI,λo ho=>?_,λo ho hf=>?_,λp gg k h e1 e2=>?_,?_⟩,⟨hle,gI,λo ho _=>gH o ho,λo ho=>?_,λo ho=>.inl ho,λp gD gG e1 e2=>?_,λp gD gG k h o e1 e2 e3 e4 hl _=>?_⟩,hle⟩
 ·rcases gF o ho with h|h
  ·exact Kt (hs.lt o h) gI
  ·exact h.2
 ·rcases gF o ho with h|h
  ·exact hs.sep o h hf
  ·have:=hs.fz o hf;omega
 ·rcases hinv p k h gg e2 e1 with ⟨q1,q2⟩|⟨_,rfl,rfl,rfl⟩
  ·by_cases hl:gg.live=true
   ·exact (hs.obj p gg k h q2 q1).mono hle (λo ho=>gH o (hs.lt o ⟨p,gg,k,h,q2,hl,q1,ho⟩))
   ·cases gg<;>first|exact absurd rfl hl|trivial
  ·exact gO
 ·intro p q gD gG k h k' h' o e1 e2 e3 e4 e5 e6 e7 e8;rcases hinv p k h gD e5 e1 with ⟨q1,q2⟩|⟨r1,_,rfl,rfl⟩<;>rcases hinv q k' h' gG e6 e2 with ⟨q3,q4⟩|⟨r2,_,rfl,rfl⟩
  ·exact hs.excl p q gD gG k h k' h' o q2 q4 e3 e4 q1 q3 e7 e8
  ·have:=hs.lt o ⟨p,gD,k,h,q2,e3,q1,e7⟩;have:=gK o e8;omega
  ·have:=hs.lt o ⟨q,gG,k',h',q4,e4,q3,e8⟩;have:=gK o e7;omega
  ·omega
 ·rcases gF o ho with h|h
  ·exact .inl h
  ·exact .inr h.1
 ·rw[J4 (Jy.1 e1).1,e1]at e2;cases e2;exact J8 _
 ·rw[J4 (Jy.1 e1).1,e1]at e2;cases e2;have gL:gD.live=true:=by cases gD<;>first|rfl|cases hl
  exact⟨rfl,gH o (hs.lt o ⟨p,gD,k,h,e1,gL,e3,e4⟩),by rw[gM p k h e3,e3]⟩
def HSim.upd{c:Cx}{G:Pd}(hs:HSim c G){p k k':Nat}{x x':AV}{ob ob':LObj}{H':Heap}(hG:G[p]?=some ob)(hl:ob.live=true)(hp:c.hd[p]?=some (k,x))(gM:c.H.next≤H'.next)
  (gL:∀o,o<c.H.next→Qf x≠some o→H'.get o=c.H.get o) (gO:∀o,Qf x'=some o→(Qf x=some o∨c.H.next≤o)∧o<H'.next)
  (hk:k≤k') (hx:k=k'→x=x') (hf:gt x=true→k=k') (gT:ob.st<ob'.st∨(ob.stp=false∧ob.st≤ob'.st))
  (gV:CxLe c ⟨c.hd.set p (k',x'),c.Fz,H'⟩→ObR ⟨c.hd.set p (k',x'),c.Fz,H'⟩ k' x' ob') :
  HSim ⟨c.hd.set p (k',x'),c.Fz,H'⟩ (G.set p ob')∧Step c G ⟨c.hd.set p (k',x'),c.Fz,H'⟩ (G.set p ob')∧CxLe c ⟨c.hd.set p (k',x'),c.Fz,H'⟩:=by
 have gU:p<c.hd.length:=(Jy.1 hp).1;have gR:p<G.length:=(Jy.1 hG).1;have gF:∀o,Qf x=some o→Ru c G o:=λo ho=>⟨p,ob,k,x,hG,hl,hp,ho⟩
 have hle:CxLe c ⟨c.hd.set p (k',x'),c.Fz,H'⟩:=by
  refine⟨λq k1 h1 e=>?_,λo ho=>⟨ho,gL o (hs.fz o ho) (λq=>hs.sep o (gF o q) ho)⟩⟩;by_cases hq:q=p
  ·subst hq;rw[hp]at e;cases e;exact⟨k',x',by dsimp only;rw[J3 gU],hk,hx,hf⟩
  ·exact⟨k1,h1,by dsimp only;rw[Jz (Ne.symm hq)];exact e,J8 _,λ_=>rfl,λ_=>rfl⟩
 have hinv:∀(q:Nat) (k1:Nat) (h1:AV) (gg:LObj),(c.hd.set p (k',x'))[q]?=some (k1,h1)→(G.set p ob')[q]?=some gg→(q≠p∧c.hd[q]?=some (k1,h1)∧G[q]?=some gg)∨(q=p∧k1=k'∧h1=x'∧gg=ob'):=by
  intro q k1 h1 gg e1 e2;by_cases hq:q=p
  ·subst hq;rw[J3 gU]at e1;rw[J3 gR]at e2;cases e1;cases e2;exact .inr ⟨rfl,rfl,rfl,rfl⟩
  ·rw[Jz (Ne.symm hq)]at e1 e2;exact .inl ⟨hq,e1,e2⟩
 have gD:∀(q:Nat) (k1:Nat) (h1:AV) (gg:LObj) (o:Nat),q≠p→c.hd[q]?=some (k1,h1)→G[q]?=some gg→gg.live=true→Qf h1=some o→Qf x≠some o:=by
  intro q k1 h1 gg o hq e1 e2 e3 e4 e5;exact hq (hs.excl q p gg ob k1 h1 k x o e2 hG e3 hl e1 hp e4 e5)
 have gI:∀o,Ru ⟨c.hd.set p (k',x'),c.Fz,H'⟩ (G.set p ob') o→(Ru c G o∧o<c.H.next)∨(c.H.next≤o∧o<H'.next):=by
  rintro o ⟨q,gg,k1,h1,e1,e2,e3,e4⟩;rcases hinv q k1 h1 gg e3 e1 with ⟨_,q1,q2⟩|⟨_,_,rfl,_⟩
  ·have:=(⟨q,gg,k1,h1,q2,e2,q1,e4⟩:Ru c G o);exact .inl ⟨this,hs.lt o this⟩
  ·obtain⟨q1,q2⟩:=gO o e4;rcases q1 with q1|q1
   ·exact .inl ⟨gF o q1,hs.lt o (gF o q1)⟩
   ·exact .inr ⟨q1,q2⟩
 refine⟨⟨Fu,λo ho=>Kt (hs.fz o ho) gM,λo ho=>?_,λo ho hf=>?_,λq gg k1 h1 e1 e2=>?_,?_⟩,⟨hle,gM,λo ho hn=>gL o ho (λq=>hn (gF o q)),λo ho=>?_,λo ho=>.inl ho,λq gg gG e1 e2=>?_,λq gg gG k1 h1 o e1 e2 e3 e4 gK he=>?_⟩,hle⟩
 ·rcases gI o ho with h|h
  ·exact Kt h.2 gM
  ·exact h.2
 ·rcases gI o ho with h|h
  ·exact hs.sep o h.1 hf
  ·have:=hs.fz o hf;omega
 ·rcases hinv q k1 h1 gg e2 e1 with ⟨hq,q1,q2⟩|⟨_,rfl,rfl,rfl⟩
  ·by_cases gH:gg.live=true
   ·refine (hs.obj q gg k1 h1 q2 q1).mono hle (λo ho=>gL o (hs.lt o ⟨q,gg,k1,h1,q2,gH,q1,ho⟩) (gD q k1 h1 gg o hq q1 q2 gH ho))
   ·cases gg<;>first|exact absurd rfl gH|trivial
  ·exact gV hle
 ·intro q r gg gG k1 h1 k2 h2 o e1 e2 e3 e4 e5 e6 e7 e8;rcases hinv q k1 h1 gg e5 e1 with ⟨r0,q1,q2⟩|⟨r1,_,rfl,rfl⟩<;>rcases hinv r k2 h2 gG e6 e2 with ⟨r3,q3,q4⟩|⟨r2,_,rfl,rfl⟩
  ·exact hs.excl q r gg gG k1 h1 k2 h2 o q2 q4 e3 e4 q1 q3 e7 e8
  ·have h3:=hs.lt o ⟨q,gg,k1,h1,q2,e3,q1,e7⟩;rcases (gO o e8).1 with h|h
   ·exact absurd h (gD q k1 h1 gg o r0 q1 q2 e3 e7)
   ·omega
  ·have h3:=hs.lt o ⟨r,gG,k2,h2,q4,e4,q3,e8⟩;rcases (gO o e7).1 with h|h
   ·exact absurd h (gD r k2 h2 gG o r3 q3 q4 e4 e8)
   ·omega
  ·omega
 ·rcases gI o ho with h|h
  ·exact .inl h.1
  ·exact .inr h.1
 ·by_cases hq:q=p
  ·subst hq;rw[J3 gR]at e2;cases e2;rw[hG]at e1;cases e1;rcases gT with h|h
   ·exact Oq h
   ·exact h.2
  ·rw[Jz (Ne.symm hq),e1]at e2;cases e2;exact J8 _
 ·by_cases hq:q=p
  ·subst hq;rw[J3 gR]at e2;cases e2;rw[hG]at e1;cases e1;rcases gT with h|h
   ·omega
   ·rw[h.1]at gK;cases gK
  ·rw[Jz (Ne.symm hq),e1]at e2;cases e2;have gH:gg.live=true:=by cases gg<;>first|rfl|cases gK
   exact⟨rfl,gL o (hs.lt o ⟨q,gg,k1,h1,e1,gH,e3,e4⟩) (gD q k1 h1 gg o hq e3 e1 gH e4),by dsimp only;rw[Jz (Ne.symm hq)]⟩
end
section
def ip(n:Int):Xy .u64 n=n%18446744073709551616:=by
 rw[mb];rfl
def z8u(n:Int):Xy .u8 n=n%256:=by
 rw[mb];rfl
def i6{n:Int}(h:Xc n):Xy .i64 n=n:=by
 rw[mb];obtain⟨g,j⟩:=h;show (if (true&&decide (n%18446744073709551616 ≥ 9223372036854775808))=true then n%18446744073709551616-18446744073709551616 else n%18446744073709551616)=n;simp only[Nu,Kb];split<;>omega
def z96(a b:Int):f9 a b=decide (a=b):=by
 rw[z8c,Lw];simp
def Xp(a b:Int):ltI a b=decide (a<b):=z7o a b
def z4x(a b:Int):(!(decide (b<a)))=decide (a≤b):=by
 rw[Lw];simp
def ji(x:UInt64):Nat.blt x.toNat (Xw .u64)=true:=by
 have:=x.toNat_lt;unfold Nat.blt;exact Kc (by show x.toNat+1≤2*9223372036854775808;omega)
def pj(x:UInt8):Nat.blt x.toNat (Xw .u8)=true:=by
 have:=x.toNat_lt;unfold Nat.blt;exact Kc (by show x.toNat+1≤2*128;omega)
variable {c : Cx} {K : LV → Prop}
def AR.u'{x:UInt64}{n:Int}(h:n=Int.ofNat x.toNat):AR c (.u x) (.int .u64 n):=by subst h;exact .u x
def AR.b'{x:UInt8}{n:Int}(h:n=Int.ofNat x.toNat):AR c (.b x) (.int .u8 n):=by subst h;exact .b x
def AR.bool'{x y:Bool}(h:y=x):AR c (.bool x) (.bool y):=by subst h;exact .bool y
def znc(a b:UInt64):decide (Int.ofNat a.toNat=Int.ofNat b.toNat)=decide (a=b):=by
 rw[Lw];simp only[Kb];constructor
 ·intro h;exact Le.1 (Int.ofNat.inj h)
 ·intro h;rw[h]
def zhj(a b:UInt64):decide (Int.ofNat a.toNat<Int.ofNat b.toNat)=decide (a<b):=by
 rw[Lw];simp only[Kb,Lq];exact Int.ofNat_lt
def zvc(a b:UInt64):decide (Int.ofNat a.toNat≤Int.ofNat b.toNat)=decide (a≤b):=by
 rw[Lw];simp only[Kb,L4];exact Int.ofNat_le
def zun(a b:UInt8):decide (Int.ofNat a.toNat=Int.ofNat b.toNat)=decide (a=b):=by
 rw[Lw];simp only[Kb];constructor
 ·intro h;exact UInt8.toNat_inj.1 (Int.ofNat.inj h)
 ·intro h;rw[h]
def zvk(a b:UInt8):decide (Int.ofNat a.toNat<Int.ofNat b.toNat)=decide (a<b):=by
 rw[Lw];simp only[Kb,UInt8.lt_iff_toNat_lt];exact Int.ofNat_lt
def zuz(a b:UInt8):decide (Int.ofNat a.toNat≤Int.ofNat b.toNat)=decide (a≤b):=by
 rw[Lw];simp only[Kb,UInt8.le_iff_toNat_le];exact Int.ofNat_le
def Uk(c:Cx)(K:LV→Prop)(r:Option AV):Prop:=∃v a,r=some a∧AR c v a∧K v
def Uk.mk{v:LV}{a:AV}(h:AR c v a)(k:K v):Uk c K (some a):=⟨v,a,rfl,h,k⟩
def shl_u(a:UInt64)(s:Nat):Xy .u64 (.ofNat (Nat.mul a.toNat (Nat.pow 2 (Sx s (IntKind.bits .u64)))))=Int.ofNat (Ui a s).toNat:=by
 rw[ip];have hm:Sx s (IntKind.bits .u64)=min s 64:=by
  unfold Sx;by_cases h:s≤64
  ·rw[show Nat.ble s (IntKind.bits .u64)=true from Kc h];simp[Mh h]
  ·have:Nat.ble s (IntKind.bits .u64)=false:=by
    cases hb:Nat.ble s (IntKind.bits .u64) with
    |false=>rfl
    |true=>exact absurd (Ki hb) h
   rw[this];simp only[IntKind.bits];omega
 rw[hm];rw[wo,Lh];show (Int.ofNat (a.toNat*2^min s 64))%18446744073709551616=Int.ofNat (a.toNat*2^s%2^64);by_cases h:s≤64
 ·rw[Mh h];rfl
 ·rw[Nat.min_eq_right J];have e:2^s=2^64*2^(s-64):=Hc
  have:a.toNat*2^s%2^64=0:=by
   rw[e,←M4,M3 a.toNat,M4,Nat.mul_mod_right]
  rw[this];have g:a.toNat*2^64%2^64=0:=Nat.mul_mod_left _ _;show Int.ofNat (a.toNat*2^64%2^64)=0;rw[g];rfl
def shr_u(a:UInt64)(s:Nat):Int.ofNat (Nat.div a.toNat (Nat.pow 2 (Sx s (IntKind.bits .u64))))=Int.ofNat (Ta a s).toNat:=by
 have hm:Sx s (IntKind.bits .u64)=min s 64:=by
  unfold Sx;by_cases h:s≤64
  ·rw[show Nat.ble s (IntKind.bits .u64)=true from Kc h];simp[Mh h]
  ·have:Nat.ble s (IntKind.bits .u64)=false:=by
    cases hb:Nat.ble s (IntKind.bits .u64) with
    |false=>rfl
    |true=>exact absurd (Ki hb) h
   rw[this];simp only[IntKind.bits];omega
 rw[hm];rw[lj,Lh];have g:=a.toNat_lt;show Int.ofNat (a.toNat/2^min s 64)=Int.ofNat (a.toNat/2^s%2^64);have j:a.toNat/2^s%2^64=a.toNat/2^s:=Ke (Nat.lt_of_le_of_lt (Oj _ _) g);rw[j];by_cases h:s≤64
 ·rw[Mh h]
 ·rw[Nat.min_eq_right J,Nl g];rw[Nl (Kt g (Lr J J))]
def uuL_ok{op:BinOp}{t:TypeId}{a b:UInt64}(h:Xx op a b K):Uk c K (R3 C op M t (.int .u64 (Int.ofNat a.toNat)) (.int .u64 (Int.ofNat b.toNat))):=by
 have hk:bv .u64 .u64=true:=rfl;have j:=a.toNat_lt;have g:=b.toNat_lt;cases op<;>simp only[Xx,Xf,dh,zke,divU_eq,zjn,ng,sn,zp,eo]at h<;>simp only[R3,hk,zso,ma,zou,ji]
 case add=>exact .mk (.u' (by rw[ip,Mr];rfl)) h
 case sub =>
  refine .mk (.u' ?_) h;rw[ip,Ob];show (Int.ofNat a.toNat-Int.ofNat b.toNat)%_=((2^64-b.toNat+a.toNat)%2^64:Nat);simp only[Ku];omega
 case mul=>exact .mk (.u' (by rw[ip,UInt64.toNat_mul];rfl)) h
 case quo =>
  obtain⟨z,A⟩:=h;have B:vy (Int.ofNat b.toNat)=false:=by
   unfold vy;cases hb:Nat.beq b.toNat 0 with
   |false=>exact hb
   |true=>exact absurd (Le.1 (Kd hb)) z
  simp only[B];refine .mk (.u' ?_) A;rw[ip,UInt64.toNat_div];show (Int.tdiv (Int.ofNat a.toNat) (Int.ofNat b.toNat))%_=Int.ofNat (a.toNat/b.toNat);have:Int.tdiv (Int.ofNat a.toNat) (Int.ofNat b.toNat)=Int.ofNat (a.toNat/b.toNat):=rfl;rw[this];exact Mo (K4 _) (by have:=Oj a.toNat b.toNat;simp only[Ku];omega)
 case rem =>
  obtain⟨z,A⟩:=h;have B:vy (Int.ofNat b.toNat)=false:=by
   unfold vy;cases hb:Nat.beq b.toNat 0 with
   |false=>exact hb
   |true=>exact absurd (Le.1 (Kd hb)) z
  simp only[B];exact .mk (.u' (by rw[UInt64.toNat_mod];rfl)) A
 case and =>
  refine .mk (.u' ?_) h;rw[ip,UInt64.toNat_and];have:a.toNat &&& b.toNat<2^64:=Nat.and_lt_two_pow _ g;exact Mo (K4 _) Eo
 case or =>
  refine .mk (.u' ?_) h;rw[ip,UInt64.toNat_or];have:a.toNat ||| b.toNat<2^64:=Nat.or_lt_two_pow j g
  exact Mo (K4 _) En
 case xor =>
  refine .mk (.u' ?_) h;rw[ip,UInt64.toNat_xor];have:a.toNat ^^^ b.toNat<2^64:=Nat.xor_lt_two_pow j g;exact Mo (K4 _) (by show Int.ofNat (a.toNat ^^^ b.toNat)<_;simp only[Ku];omega)
 case andNot =>
  refine .mk (.u' ?_) h;have e:Nat.xor a.toNat (Nat.land a.toNat b.toNat)=(a &&& ~~~b).toNat:=by
   show a.toNat ^^^ (a.toNat &&& b.toNat)=_;rw[UInt64.toNat_and,UInt64.toNat_not];refine Nat.eq_of_testBit_eq λi=>?_
   rw[Nat.testBit_xor,Nat.testBit_and,Nat.testBit_and];have:(UInt64.size-1-b.toNat).testBit i=(decide (i<64) && !b.toNat.testBit i):=by
    have:=Nat.testBit_two_pow_sub_succ g i;rw[show UInt64.size-1-b.toNat=2^64-(b.toNat+1) from by show 18446744073709551616-1-b.toNat=_;omega,this]
   rw[this];by_cases hi:i<64
   ·simp[hi];cases a.toNat.testBit i<;>cases b.toNat.testBit i<;>rfl
   ·have:a.toNat.testBit i=false:=Nat.testBit_lt_two_pow (Kt j (Lr J J));simp[this]
  rw[e,ip];exact Mo (K4 _) (by have:=(a &&& ~~~b).toNat_lt;simp only[Ku];omega)
 case shl=>exact .mk (.u' (shl_u a b.toNat)) h
 case shr=>exact .mk (.u' (shr_u a b.toNat)) h
 case eql=>exact .mk (.bool' (by rw[z96,znc])) h
 case neq=>exact .mk (.bool' (by rw[z96,znc];simp)) h
 case lss=>exact .mk (.bool' (by rw[Xp,zhj])) h
 case leq=>exact .mk (.bool' (by rw[Xp,z4x,zvc])) h
 case gtr=>exact .mk (.bool' (by rw[Xp,zhj])) h
 case geq=>exact .mk (.bool' (by rw[Xp,z4x,zvc])) h
def bbL_ok{op:BinOp}{t:TypeId}{a b:UInt8}(h:bbL op a b K):Uk c K (R3 C op M t (.int .u8 (Int.ofNat a.toNat)) (.int .u8 (Int.ofNat b.toNat))):=by
 have hk:bv .u8 .u8=true:=rfl;have j:=a.toNat_lt;have g:=b.toNat_lt;cases op<;>simp only[bbL,addB_eq,subB_eq,andB_eq,orB_eq]at h<;>simp only[R3,hk,zso,ma,pj]
 case add=>exact .mk (.b' (by rw[z8u,UInt8.toNat_add];rfl)) h
 case sub =>
  refine .mk (.b' ?_) h;rw[z8u,UInt8.toNat_sub];show (Int.ofNat a.toNat-Int.ofNat b.toNat)%_=((2^8-b.toNat+a.toNat)%2^8:Nat);simp only[Ku];omega
 case and =>
  refine .mk (.b' ?_) h;rw[z8u,UInt8.toNat_and];have:a.toNat &&& b.toNat<2^8:=Nat.and_lt_two_pow _ g;exact Mo (K4 _) Eo
 case or =>
  refine .mk (.b' ?_) h;rw[z8u,UInt8.toNat_or];have:a.toNat ||| b.toNat<2^8:=Nat.or_lt_two_pow j g
  exact Mo (K4 _) En
 case eql=>exact .mk (.bool' (by rw[z96,zun])) h
 case neq=>exact .mk (.bool' (by rw[z96,zun];simp)) h
 case lss=>exact .mk (.bool' (by rw[Xp,zvk])) h
 case leq=>exact .mk (.bool' (by rw[Xp,z4x,zuz])) h
 case gtr=>exact .mk (.bool' (by rw[Xp,zvk])) h
 case geq=>exact .mk (.bool' (by rw[Xp,z4x,zuz])) h
def AR.i'{x n:Int}(h:n=x):AR c (.i x) (.int .i64 n):=by subst h;exact .i n
def zon{b:Int}(h:b≠0):vy b=false:=by
 unfold vy;split
 ·rename_i n;cases hb:Nat.beq n 0 with
  |false=>rfl
  |true=>exact absurd (by rw[Kd hb];rfl) h
 ·rfl
def znu{t:TypeId}{a:Int}{k:IntKind}{s:Int}(ha:0≤a)(g:0≤s)(j:s≤64) :
  R3 C .shl M t (.int .i64 a) (.int k s)=some (.int .i64 (Xy .i64 (a*2^s.toNat)))∧R3 C .shr M t (.int .i64 a) (.int k s)=some (.int .i64 (a/2^s.toNat)):=by
 obtain⟨x,rfl⟩:=J5 ha;obtain⟨y,rfl⟩:=J5 g;have hm:Sx y (IntKind.bits .i64)=y:=by
  unfold Sx;rw[show Nat.ble y (IntKind.bits .i64)=true from Kc (by simp only[IntKind.bits];omega)]
 constructor
 ·show some (AV.int .i64 (Xy .i64 (.ofNat (Nat.mul x (Nat.pow 2 (Sx y (IntKind.bits .i64)))))))=_;rw[hm]
  congr 3
 ·show some (AV.int .i64 (.ofNat (Nat.div x (Nat.pow 2 (Sx y (IntKind.bits .i64))))))=_;rw[hm]
  congr 2
def iiL_ok{op:BinOp}{t:TypeId}{a b:Int}(h:Yu op a b K):Uk c K (R3 C op M t (.int .i64 a) (.int .i64 b)):=by
 have hk:bv .i64 .i64=true:=rfl;cases op<;>simp only[Yu]at h
 case shl =>
  obtain⟨g,A,j,B,z⟩:=h;rw[(znu g A j).1,i6 B];exact .mk (.i _) z
 case shr =>
  obtain⟨g,A,j,z⟩:=h;rw[(znu g A j).2];exact .mk (.i _) z
 all_goals simp only[R3,hk,zso]
 case and =>
  obtain⟨g,A,j,B,z⟩:=h;obtain⟨x,rfl⟩:=J5 g;obtain⟨y,rfl⟩:=J5 j;have D:Nat.blt x (Xw .i64)=true:=by unfold Nat.blt;exact Kc If
  have E:Nat.blt y (Xw .i64)=true:=by unfold Nat.blt;exact Kc Ie
  have F:x &&& y<2^63:=Nat.and_lt_two_pow _ J;show Uk c K (ma Nat.land .i64 (.ofNat x) (.ofNat y));simp only[ma,D,E];exact .mk (.i' (i6 ⟨Cs,Ic⟩)) z
 case or =>
  obtain⟨g,A,j,B,z⟩:=h;obtain⟨x,rfl⟩:=J5 g;obtain⟨y,rfl⟩:=J5 j;have D:Nat.blt x (Xw .i64)=true:=by unfold Nat.blt;exact Kc If
  have E:Nat.blt y (Xw .i64)=true:=by unfold Nat.blt;exact Kc Ie
  have F:x ||| y<2^63:=Nat.or_lt_two_pow J J
  show Uk c K (ma Nat.lor .i64 (.ofNat x) (.ofNat y));simp only[ma,D,E];exact .mk (.i' (i6 ⟨Cs,Ic⟩)) z
 case add=>exact .mk (.i' (i6 h.1)) h.2
 case sub=>exact .mk (.i' (i6 h.1)) h.2
 case mul=>exact .mk (.i' (i6 h.1)) h.2
 case quo=>rw[zon h.1];exact .mk (.i' (i6 h.2.1)) h.2.2
 case rem=>rw[zon h.1];exact .mk (.i _) h.2
 case eql=>exact .mk (.bool' (by rw[z96])) h
 case neq=>exact .mk (.bool' (by rw[z96];simp)) h
 case lss=>exact .mk (.bool' (by rw[Xp])) h
 case leq=>exact .mk (.bool' Ih) h
 case gtr=>exact .mk (.bool' (by rw[Xp])) h
 case geq=>exact .mk (.bool' Ih) h
def kkL_ok{op:BinOp}{t:TypeId}{k:IntKind}{a b:Int}(h:kkL op a b K):Uk c K (R3 C op M t (.int k a) (.int k b)):=by
 have hk:bv k k=true:=by cases k<;>rfl
 cases op<;>simp only[kkL]at h<;>simp only[R3,hk,zso]
 case eql=>exact .mk (.bool' (by rw[z96])) h
 case neq=>exact .mk (.bool' (by rw[z96];simp)) h
 case lss=>exact .mk (.bool' (by rw[Xp])) h
 case leq=>exact .mk (.bool' Ih) h
 case gtr=>exact .mk (.bool' (by rw[Xp])) h
 case geq=>exact .mk (.bool' Ih) h
def bc(a b:List UInt8):(Nat.beq a.length b.length&&Nat.beq (Ro a) (Ro b))=decide (a=b):=by
 rw[Lw];simp only[J2,Kb];constructor
 ·rintro⟨g,j⟩;exact packL_inj (Kd g) (Kd j)
 ·intro h;subst h;simp
def AR.str'{l:List UInt8}{n m:Nat}(h1:n=l.length)(h2:m=Ro l):AR c (.str l) (.str n m):=by subst h1 h2;exact .str l
def ssL_ok{op:BinOp}{t:TypeId}{a b:List UInt8}(h:ssL op a b K):Uk c K (R3 C op M t (.str a.length (Ro a)) (.str b.length (Ro b))):=by
 cases op<;>simp only[ssL]at h<;>simp only[R3,zx5]
 case add =>
  have hb:Nat.ble (Nat.add a.length b.length) S4=true:=Kc h.1;simp only[hb];refine .mk (.str' N ?_) h.2;rw[packL_append];rfl
 case eql=>exact .mk (.bool' (bc a b)) h
 case neq=>exact .mk (.bool' (by rw[bc];simp)) h
def zrl{op:BinOp}{t:TypeId}{a b:AV}{r:Bool}(hb:R3 C op M t a b=match op with | .eql=>yesB (Uh C M t a b) | .neq=>notB (Uh C M t a b)|_=>none)(h:kf C op M t a b r K):Uk c K (R3 C op M t a b):=by
 rw[hb];cases op<;>simp only[kf]at h
 case eql=>rw[h.1];exact .mk (.bool _) h.2
 case neq=>rw[h.1];exact .mk (.bool _) h.2
end
section
noncomputable def ρA(g:Tr AV):uk:=λt=>Pg (Pz t) g
def zst(g:Tr AV):Xv g (ρA g):=λ_ _=>rfl
def Rd{c:Cx}{j:Pf}(g:Qo c j Q){x:Lx}(h:x.ok=true):AR c (x.ev j) (x.r.ev (ρA Q)):=by
 cases x with
 |t i=>exact g i
 |c v=>exact wm c h
def zuw{c:Cx}{j:Pf}{z:Tr AV}(g:Qo c j z):∀{l:List Lx},l.all Lx.ok=true→ARs c (l.map (·.ev j)) ((rxs l).map (·.ev (ρA z)))
 |[],_=>.nil
 |x::l,h=>by
  simp only[Mq,J2]at h;exact .cons (Rd g h.1) (zuw g h.2)
def yx:Option Lx→Bool
 |none=>true
 |some x=>x.ok
def LOp.ok:LOp→Bool
 |.move x=>x.ok
 |.pick c a b=>c.ok&&a.ok&&b.ok
 |.alloc l=>l.all LV.scal
 |.box x=>x.ok
 |.build cs ps=>cs.all LV.scal&&ps.all (·.2.2.ok)
 |.buildSl _ _ cs ps=>cs.all LV.scal&&ps.all (·.2.2.ok)
 |.load1 x=>x.ok
 |.loadN _ x=>x.ok
 |.store _ x y=>x.ok&&y.ok
 |.nilChk x=>x.ok
 |.bin _ _ _ x y=>x.ok&&y.ok
 |.un _ x=>x.ok
 |.cvInt _ x=>x.ok
 |.cvStr x=>x.ok
 |.cvSame x=>x.ok
 |.cvBytes x=>x.ok
 |.mkFunc _ a b=>a.all Lx.ok&&b.all Lx.ok
 |.mkSl _ z l c=>z.all LV.scal&&l.ok&&c.ok
 |.slStr x lo hi=>x.ok&&yx lo&&yx hi
 |.slSl _ x lo hi=>x.ok&&yx lo&&yx hi
 |.slSl3 _ x lo hi mx=>x.ok&&yx lo&&yx hi&&mx.ok
 |.fieldAddr _ x=>x.ok
 |.field _ _ _ x=>x.ok
 |.ixAddr _ x i=>x.ok&&i.ok
 |.ixStr x i=>x.ok&&i.ok
 |.extract _ x=>x.ok
 |.lenStr x=>x.ok
 |.lenSl x=>x.ok
 |.maxi _ x y=>x.ok&&y.ok
 |.max3 _ x y z=>x.ok&&y.ok&&z.ok
 |.ixAddrArr _ _ x i=>x.ok&&i.ok
 |.ixArr _ _ _ x i=>x.ok&&i.ok
 |.lenArr _ x=>x.ok
 |.appZ _ z s x=>z.all LV.scal&&s.ok&&x.ok
 |.appG _ s x=>s.ok&&x.ok
 |.copy _ d x=>d.ok&&x.ok
 |.clear _ z x=>z.all LV.scal&&x.ok
 |.mkMap0=>true
 |.mkMap1 x=>x.ok
 |.lookup _ z _ x i=>z.cst&&x.ok&&i.ok
 |.mapUpd _ m k v=>m.ok&&k.ok&&v.ok
 |.lenMap x=>x.ok
 |.slArr _ _ x lo hi=>x.ok&&yx lo&&yx hi
 |.callV f args=>f.ok&&args.all Lx.ok
def Ur(P:Program)(c:Cx)(G:Pd)(K:LV→Pd→Prop):OR→Prop
 |.no=>False
 |.val B C=>∃z v A,z.H=C∧HSim z A∧Step c G z A∧AR z v B∧K v A
 |.call D j=>∃t g,TgtR c t D∧ARs c g j∧Tw P t g G K
section res
variable {P : Program} {c : Cx} {G : Pd} {K : LV → Pd → Prop}
def Ur.same(hs:HSim c G){v:LV}{a:AV}(h:AR c v a)(k:K v G):Ur P c G K (.val a c.H):=⟨c,v,G,rfl,hs,.refl c G,h,k⟩
def Ur.ret(hs:HSim c G){r:Option AV}(h:Uk c (λv=>K v G) r):Ur P c G K (ret1 c.H r):=by
 obtain⟨v,a,rfl,h1,h2⟩:=h;exact .same hs h1 h2
def zej(c:Cx)(g:List AV) :
  ∃H',newObj c.H g=some (c.H.next,H')∧H'.next=c.H.next+1∧(∀o,o<c.H.next→H'.get o=c.H.get o)∧H'.get c.H.next=some (.cells (T9 g 0 .e) g.length 0 false) :=
 ⟨_,rfl,rfl,λ_ ho=>Heap.get_push_ne _ _ ho,Heap.get_push_same _ _⟩
def zln(g:HSim c G){l:List LV}(h:ARs c l V)(k:K (.ptr G.length 0) (G++[.cells l 0])):Ur P c G K (Zx c.H V):=by
 obtain⟨z,B,F,A,C⟩:=zej c V;unfold Zx;rw[B];have j:CxLe c ⟨c.hd++[(0,.ptr c.H.next 0 0)],c.Fz,z⟩:=⟨λp k x e=>⟨k,x,Fx,J8 _,λ_=>rfl,λ_=>rfl⟩,λo ho=>⟨ho,A o (g.fz o ho)⟩⟩;obtain⟨D,E,_⟩:=g.push (H':=z) (x:=.ptr c.H.next 0 0) (ob:=.cells l 0) J A (λo e=>by cases e;omega)
  ⟨rfl,c.H.next,_,V,rfl,by rw[h.length];exact C,by rw[h.length];exact z70 V,h.mono j⟩
 exact⟨_,.ptr G.length 0,_,rfl,D,E,.ptr (by rw[←g.len];exact Kg),k⟩
def z5c(j:HSim c G){l:List LV}{len esz:Nat}{room:Option Nat}(h:ARs c l V)(A:l.length=len*esz)(C:∀r,room=some r→r=len)(k:K (.dy G.length 0) (G++[.dyn l len esz 0 0])) :
  Ur P c G K (match newObj c.H V with
   |some (o,H')=>.val (.sl o 0 0 len esz room) H'
   |none=>.no):=by
 obtain⟨H',D,I,B,E⟩:=zej c V;rw[D];have z:CxLe c ⟨c.hd++[(0,.sl c.H.next 0 0 len esz room)],c.Fz,H'⟩:=⟨λp k x e=>⟨k,x,Fx,J8 _,λ_=>rfl,λ_=>rfl⟩,λo ho=>⟨ho,B o (j.fz o ho)⟩⟩;have g:V.length=len*esz:=by rw[←h.length];exact A
 obtain⟨F,H,_⟩:=j.push (H':=H') (x:=.sl c.H.next 0 0 len esz room) (ob:=.dyn l len esz 0 0) J B (λo e=>by cases e;omega)
  ⟨rfl,A,.inr ⟨c.H.next,0,room,_,V.length,V,rfl,E,J,by rw[←g];exact z70 V,h.mono z,λr e=>by rw[C r e];exact⟨g,J8 _⟩,λ_=>g⟩⟩
 exact⟨_,.dy G.length 0,_,rfl,F,H,.dy (h:=.sl c.H.next 0 0 len esz room) (by rw[←j.len];exact Kg) (J8 _) (λ_=>rfl) rfl,k⟩
def zmr(j:HSim c G){p o st:Nat}{l:List LV}(z:G[p]?=some (.cells l st))(e:c.hd[p]?=some (0,.ptr o 0 0)) :
  ∃t g,c.H.get o=some (.cells t l.length 0 false)∧Vk t 0 l.length=some g∧ARs c l g:=by
 obtain⟨_,D,t,g,he,A,B,C⟩:=j.obj p _ _ _ z e;injection he with he
 subst he;exact⟨t,g,A,B,C⟩
def oy(E:HSim c G){p k o v len esz st:Nat}{room:Option Nat}{l:List LV}(F:G[p]?=some (.dyn l len esz A st))(e:c.hd[p]?=some (k,.sl o v 0 g j room)) :
  k=A∧l.length=len*esz∧g=len∧j=esz∧∃t z B,c.H.get o=some (.cells t z v false)∧len*esz≤z∧Vk t 0 (len*esz)=some B∧ARs c l B ∧
   (∀r,room=some r→z=r*esz∧len≤r)∧(room=none→z=len*esz):=by
 obtain⟨H,I,C⟩:=E.obj p _ _ _ F e;rcases C with ⟨C,_⟩|⟨Z,v',D,t,z,B,he,L,M,O,Q,r7,R⟩
 ·cases C
 ·injection he with T U e3 V X Y
  subst T U V X Y;exact⟨H,I,rfl,rfl,t,z,B,L,M,O,Q,r7,R⟩
def zmx(B:HSim c G){x:LV}{a:AV}{n:Nat}{K:List LV→Prop}(C:AR c x a)(h:Zo G x n K):∃o v i j l,a=.ptr o v i∧Tn c.H o v i n=some j∧ARs c l j∧K l:=by
 unfold Zo at h;split at h
 ·rename_i p i;split at h
  ·rename_i l st z;obtain⟨A,g⟩:=h;cases C with
   | @ptr _ _ o e =>
    obtain⟨t,j,O,D,E⟩:=zmr B z e;exact⟨o,0,i,_,_,rfl,Zj O D (J8 _) A,(E.drop i).take n,g⟩
  ·exact h.elim
 ·rename_i p k i;split at h
  ·rename_i l len Q R st z;obtain⟨T,A,g⟩:=h;cases C with
   | @dptr _ _ _ k' o v gg hh e hk ha =>
    have U:=(B.obj p _ _ _ z e).1;obtain⟨V,I,L,F,H⟩:=ha J;subst H V;obtain⟨_,r1,_,_,t,M,j,D,E,X,Y,_⟩:=oy B z e;exact⟨o,v,gg,_,_,rfl,Zj D X E J,(Y.drop gg).take n,g⟩
  ·exact h.elim
 ·rename_i l i;obtain⟨A,g⟩:=h;cases C with
  |cptr hf Z hl=>exact⟨_,_,_,_,_,rfl,zlu Z A,(hl.drop i).take n,g⟩
 ·exact h.elim
def zuf(B:HSim c G){x:LV}{a:AV}{K:LV→Prop}(C:AR c x a)(h:du G x K):∃o v i w b,a=.ptr o v i∧Tn c.H o v i 1=some [b]∧AR c w b∧K w:=by
 have g:∀{l:List LV} {i:Nat} {v:LV},l[i]?=some v→i+1≤l.length∧(l.drop i).take 1=[v]:=λ{l i v} e=>by
  obtain⟨j,z⟩:=Jy.1 e;refine⟨j,?_⟩;rw[Lt j,z];simp
 have A:Zo G x 1 (λl=>∃v,l=[v]∧K v):=by
  unfold du at h;unfold Zo;split at h
  ·split at h
   ·obtain⟨v,j,z⟩:=h;exact⟨(g j).1,v,(g j).2,z⟩
   ·exact h.elim
  ·split at h
   ·obtain⟨D,v,j,z⟩:=h;exact⟨D,(g j).1,v,(g j).2,z⟩
   ·exact h.elim
  ·obtain⟨v,j,z⟩:=h;exact⟨(g j).1,v,(g j).2,z⟩
  ·exact h.elim
 obtain⟨o,v,i,M,l,E,F,H,w,rfl,I⟩:=zmx B C A;cases H with
 |cons e L=>cases L;exact⟨o,v,i,w,_,E,F,e,I⟩
def zlp{o v i:Nat}{t:Tr AV}{l r:List AV}(z:F.get o=some (.cells t j v false))(_:Vk t 0 g=some l)(B:g≤j)(A:i+r.length≤g) :
  Zh F o v i r=some (F.put o (.cells (T9 r i t) j v false)):=by
 unfold Zh;rw[z];have hb:Nat.ble (Nat.add i r.length) j=true:=Kc (by show i+r.length≤j;omega);simp only[K5,hb]
def zv1{g:Type}:∀{l:List g} {p:Nat} {a:g},l[p]?=some a→l.set p a=l
 |[],_,_,h=>Cc
 |x::l,0,a,h=>by simp at h;subst h;rfl
 |x::l,p+1,a,h=>by simp at h;simp[zv1 h]
def zc1(C:HSim c G){x:LV}{a:AV}{l:List LV}{K:Pd→Prop}(hx:AR c x a)(O:ARs c l V)(h:Yo G x l K) :
  ∃o v i H' Q R,a=.ptr o v i∧Zh c.H o v i V=some H'∧Q.H=H'∧HSim Q R∧Step c G Q R∧K R:=by
 have gK:=O.length;unfold Yo at h;split at h
 ·rename_i p i;split at h
  ·rename_i H st g;obtain⟨I,T⟩:=h;cases hx with
   | @ptr _ _ o e =>
    obtain⟨t,D,r2,L,M⟩:=zmr C g e;have hw:=zlp (i:=i) (r:=V) r2 L (J8 _) J;obtain⟨U,X,_⟩:=C.upd (k':=0) (x':=.ptr o 0 0) (ob':=.cells (Qj H i l) (st+1)) (H':=c.H.put o (.cells (T9 V i t) H.length 0 false)) g rfl e (J8 _)
     (λY _ E=>Heap.get_put_ne _ _ (λq=>E Hd)) (λY Z=>by cases Z;exact⟨.inl rfl,C.lt o ⟨p,_,_,_,g,rfl,e,rfl⟩⟩) (J8 _) (λ_=>rfl) (λ_=>rfl) (.inl (Lp _))
     (λF=>⟨rfl,o,_,sg D i V,rfl,by rw[zbc I];exact Heap.get_put_same _ _ _,by rw[zbc I];exact zgp L J,(M.lay O i).mono F⟩)
    exact⟨o,0,i,_,_,_,rfl,hw,rfl,U,X,T⟩
  ·exact h.elim
 ·rename_i p k i;split at h
  ·rename_i H len gL gg st g;obtain⟨gM,I,T⟩:=h;cases hx with
   | @dptr _ _ _ k' o v gI hh e hk ha =>
    have gO:=(C.obj p _ _ _ g e).1;obtain⟨hj,j,z,A,gD⟩:=ha J;subst gD hj;obtain⟨gF,r1,gG,gH,t,B,D,L,M,r5,r6,r7,r8⟩:=oy C g e;subst gG gH;have hw:=zlp (i:=gI) (r:=V) L r5 M J;obtain⟨U,X,_⟩:=C.upd (k':=k') (x':=.sl o v 0 j z A) (ob':=.dyn (Qj H gI l) j z gg (st+1)) (H':=c.H.put o (.cells (T9 V gI t) B v false)) g rfl e (J8 _)
     (λY _ E=>Heap.get_put_ne _ _ (λq=>E Hd)) (λY Z=>by cases Z;exact⟨.inl rfl,C.lt _ ⟨p,_,_,_,g,rfl,e,rfl⟩⟩) (J8 _) (λ_=>rfl) (λ_=>rfl) (.inl (Lp _))
     (λF=>⟨gF,by rw[zbc I];exact r1,.inr ⟨o,v,A,_,B,sg D gI V,rfl,Heap.get_put_same _ _ _,M,zgp r5 J,(r6.lay O gI).mono F,r7,r8⟩⟩)
    exact⟨o,v,gI,_,_,_,rfl,hw,rfl,U,X,T⟩
  ·exact h.elim
 ·exact h.elim
def lenL_ok(H:HSim c G){x:LV}{a:AV}{K:Nat→Prop}(A:AR c x a)(h:lenL G x K):∃n,K n∧(a=.nilSl∧n=0∨a=.emp∧n=0∨∃o v i esz room,a=.sl o v i n esz room):=by
 unfold lenL at h;split at h
 ·cases A;exact⟨0,h,.inl ⟨rfl,rfl⟩⟩
 ·rename_i p k;split at h
  ·rename_i l len esz C st D;obtain⟨E,h⟩:=h;cases A with
   | @dy _ _ Q R _ e hk ha _ =>
    obtain⟨T,U,g⟩:=H.obj p _ _ _ D e;have j:=ha J;rcases g with ⟨g,B⟩|⟨o,v,room,t,I,V,g,_⟩
    ·exact⟨len,h,.inl ⟨j.trans g,B⟩⟩
    ·exact⟨len,h,.inr (.inr ⟨_,_,_,_,_,j.trans g⟩)⟩
  ·exact h.elim
 ·rename_i p k X len;split at h
  ·rename_i l L esz C st D;obtain⟨E,h⟩:=h;cases A with
   | @vw _ _ _ _ Q R _ e hk ha _ _ =>
    obtain⟨T,U,g⟩:=H.obj p _ _ _ D e;rcases ha J with ⟨B,z|z⟩|⟨o,v,M,O,room,F,_,z,_⟩
    ·exact⟨len,h,.inl ⟨z,B⟩⟩
    ·exact⟨len,h,.inr (.inl ⟨z.1,B⟩)⟩
    ·exact⟨len,h,.inr (.inr ⟨_,_,_,_,_,z⟩)⟩
  ·exact h.elim
 ·cases A with
  |lst=>exact⟨_,h,.inr (.inr ⟨_,_,_,_,_,rfl⟩)⟩
  |lstNil=>exact⟨0,h,.inl ⟨rfl,rfl⟩⟩
  |lstEmp=>exact⟨0,h,.inr (.inl ⟨rfl,rfl⟩)⟩
 ·exact h.elim
def zof(l:List UInt8)(c:Cx):ARs c (l.map LV.b) ((Y3 l.length (Ro l)).map λ(b:Nat)=>AV.int .u8 (Int.ofNat b)):=by
 rw[unpack_pack]
 induction l with
 |nil=>exact .nil
 |cons b l g=>exact .cons (.b b) g
def zza(R:HSim c G){x:LV}{a:AV}{K:Nat→List LV→Prop}(D:AR c x a)(h:Wf G g x K):∃n l C,ow c.H g a=some (n,C)∧ARs c l C∧l.length=n*g∧K n l:=by
 have A:Nat.beq g g=true:=K5 _;unfold Wf at h;split at h
 ·cases D;exact⟨0,[],[],rfl,.nil,N,h⟩
 ·rename_i p k;split at h
  ·rename_i l len z T st Q;obtain⟨U,rfl,h⟩:=h;cases D with
   | @dy _ _ k' hh _ e hk ha _ =>
    obtain⟨r0,V,E⟩:=R.obj p _ _ _ Q e;have F:=ha J;rcases E with ⟨E,B⟩|⟨o,v,H,t,I,C,E,B,L,r5,Z,_⟩
    ·subst B;have:l=[]:=Kn (by simpa using V);subst this;exact⟨0,[],[],by rw[F,E];rfl,.nil,N,h⟩
    ·refine⟨len,l,C,?_,Z,V,h⟩;have M:=Zj (i:=0) (n:=len*z) B r5 L J;have X:C.length=len*z:=by rw[←Z.length];exact V
     rw[F,E];simp only[ow,A];rw[show Nat.mul len z=len*z from rfl,M];simp[Kk,X]
  ·exact h.elim
 ·rename_i p k lo len;split at h
  ·rename_i l gg z T st Q;obtain⟨U,rfl,h1,h⟩:=h;cases D with
   | @vw _ _ _ _ k' hh _ e hk ha _ _ =>
    have gF:=(R.obj p _ _ _ Q e).1;rcases ha J with ⟨B,L⟩|⟨o,v,gD,j,H,Y,B,L,_⟩
    ·subst B;refine⟨0,_,[],?_,by simpa using (ARs.nil (c:=c)),N,h⟩;rcases L with rfl|⟨rfl,_⟩<;>rfl
    ·subst B;obtain⟨_,q1,q2,q3,t,I,C,q4,q5,q6,q7,_⟩:=oy R Q e;subst q2 q3;have M:=Zj (i:=lo*j) (n:=len*j) q4 q6 q5 J;refine⟨len,_,_,?_,(q7.drop (lo*j)).take (len*j),Ab,h⟩;rw[L];simp only[ow,A];rw[show Nat.mul len j=len*j from rfl,M]
  ·exact h.elim
 ·rename_i l len z;obtain⟨rfl,h⟩:=h;cases D with
  |lst hf gG O M hl =>
   refine⟨len,l,_,?_,hl,O,h⟩;simp only[ow,A];rw[show Nat.mul len z=len*z from rfl,M]
  |lstNil=>exact⟨0,[],[],rfl,.nil,N,h⟩
  |lstEmp=>exact⟨0,[],[],rfl,.nil,N,h⟩
 ·rename_i l;obtain⟨rfl,h⟩:=h;cases D;refine⟨l.length,_,_,?_,zof l c,N,h⟩;simp[ow]
 ·exact h.elim
end res
end
section
section res
variable {P : Program} {c : Cx} {G : Pd} {K : LV → Pd → Prop}
def zw6(j:HSim c G)(k:K (.dy G.length 0) (G++[.dyn [] 0 g 0 0])):Ur P c G K (.val .nilSl c.H):=by
 obtain⟨z,A,_⟩:=j.push (H':=c.H) (x:=.nilSl) (ob:=.dyn [] 0 g 0 0) (J8 _) (λ_ _=>rfl) (λo e=>Ar) ⟨rfl,N,.inl ⟨rfl,rfl⟩⟩;exact⟨⟨c.hd++[(0,.nilSl)],c.Fz,c.H⟩,.dy G.length 0,_,rfl,z,A,.dy (h:=.nilSl) (by rw[←j.len];exact Kg) (J8 _) (λ_=>rfl) rfl,k⟩
def ztx(hs:HSim c G){p k:Nat}{a:AV}{n:Nat}(ha:AR c (.dy p k) a)(hn:ARs c E V)(hl:E.length=n*g)(h:Rq G g (.dy p k) n E K):Ur P c G K (Zk c.H g a n V):=by
 have Q:=hn.length;unfold Rq at h;dsimp only at h;split at h
 ·rename_i l len j Z st hg;obtain⟨jG,⟨rfl,gH⟩,gI,h⟩:=h;have gY:p<c.hd.length:=by rw[hs.len];exact (Jy.1 hg).1
  cases ha with
  | @dy _ _ k' X _ e hk gZ jg =>
   obtain⟨r0,r1,A⟩:=hs.obj p _ _ _ hg e;have gg:=gZ J;have F:∀{H':Heap} {x':AV},c.H.next≤H'.next→(∀o,o<c.H.next→Qf X≠some o→H'.get o=c.H.get o)→(∀o,Qf x'=some o→(Qf X=some o∨c.H.next≤o)∧o<H'.next)→zn2 x'=true→gt X=false →
     (CxLe c ⟨c.hd.set p (k'+1,x'),c.Fz,H'⟩→ObR ⟨c.hd.set p (k'+1,x'),c.Fz,H'⟩ (k'+1) x' (.dyn (l++E) (len+n) j (Z+1) (st+1)))→Ur P c G K (.val x' H'):=by
    intro H' x' h1 h2 h3 h4 h5 h6;obtain⟨q1,q2,_⟩:=hs.upd (k':=k'+1) (x':=x') (ob':=.dyn (l++E) (len+n) j (Z+1) (st+1)) (H':=H') hg rfl e h1 h2 h3 (Of _) (λq=>J) (λq=>by rw[h5]at q;cases q) (.inl (Lp _)) h6;exact⟨_,.dy p (Z+1),_,rfl,q1,q2,.dy (k':=k'+1) (h:=x') (by dsimp only;rw[J3 gY]) J (λ_=>rfl) h4,h⟩
   have C:(l++E).length=(len+n)*j:=by rw[J9,r1,hl,Ky]
   unfold Zk;cases hb:Nat.beq n 0 with
   |true =>
    have gK:=Kd hb;subst gK;have gL:E=[]:=Kn (by simpa using hl);subst gL;have gM:gt X=false:=by
     rcases A with ⟨A,_⟩|⟨o,v,D,t,z,H,A,_⟩<;>rw[A]<;>rfl
    have jz:zn2 X=true:=by rw[←gg];exact jg
    have R:Ur P c G K (.val X c.H):=by
     refine F (J8 _) (λ_ _ _=>rfl) (λo O=>⟨.inl O,hs.lt o ⟨p,_,_,_,hg,rfl,e,O⟩⟩) jz gM (λB=>⟨J,C,?_⟩);simp only[Ls,M6];rcases A with ⟨A,I⟩|⟨o,v,D,t,z,H,A,I,r4,r5,r6,r7,r8⟩
     ·exact .inl ⟨A,I⟩
     ·exact .inr ⟨o,v,D,t,z,H,A,I,r4,r5,r6.mono B,r7,r8⟩
    rw[gg];rcases A with ⟨A,I⟩|⟨o,v,D,t,z,H,A,I,r4,r5,r6,r7,r8⟩
    ·rw[A]at R ⊢;exact R
    ·rw[A]at R ⊢;exact R
   |false =>
    have gK:n≠0:=λq=>by rw[q]at hb;cases hb
    rw[gg];rcases A with ⟨A,I⟩|⟨o,v,D,t,z,H,A,I,r4,r5,r6,r7,r8⟩
    ·
     subst I;have gD:l=[]:=Kn Ec;subst gD;rw[A];dsimp only[kx];obtain⟨H',h1,h2,h3,h4⟩:=zej c V;rw[h1];dsimp only;refine F J (λo ho _=>h3 o ho) (λo O=>by cases O;exact⟨.inr (J8 _),J⟩) rfl (by rw[A];rfl) (λB=>⟨J,C,.inr ⟨c.H.next,0,none,_,V.length,V,?_,h4,?_,?_,hn.mono B,λr q=>Hm,λ_=>?_⟩⟩)
     ·simp
     ·rw[Kw];omega
     ·rw[Kw,←hl,Q];exact z70 V
     ·rw[Kw];omega
    ·have gO:o<c.H.next:=hs.lt o ⟨p,_,_,_,hg,rfl,e,by rw[A];rfl⟩;have jA:H.length=len*j:=Du
     rw[A];have jB:(Nat.beq j j&&Nat.ble len S4)=true:=by rw[K5,show Nat.ble len S4=true from Kc gI];rfl
     dsimp only;rw[jB];dsimp only;have T:Qf X=some o:=by rw[A];rfl
     have gF:gt X=false:=by rw[A];rfl
     have Y:Vk (T9 V (len*j) t) 0 ((len+n)*j)=some (H++V):=by
      have:=zpd (r:=V) r5
      rwa [show len*j+V.length=(len+n)*j from by rw[←Q,hl,Ky]]at this
     cases D with
     |some r =>
      obtain⟨U,jI⟩:=r7 r rfl;dsimp only;cases gR:Nat.ble (Nat.add len n) r with
      |true =>
       have L:len+n≤r:=Ki gR;have hm:(len+n)*j≤r*j:=Kq _ L;have gT:(len+n)*j=len*j+n*j:=Ky _ _ _;have hw:Zh c.H o v (Nat.add 0 (Nat.mul len j)) V=some (c.H.put o (.cells (T9 V (len*j) t) z v false)):=by
        unfold Zh;rw[I];have e1:Nat.add 0 (Nat.mul len j)=len*j:=Kw _;have gU:Nat.ble (Nat.add (len*j) V.length) z=true:=Kc (by show len*j+V.length≤z;omega);rw[e1];simp only[K5,gU]
       dsimp only;rw[hw];dsimp only;refine F (by exact J8 _) (λo' _ gG=>Heap.get_put_ne _ _ (λq=>gG (by rw[q];exact T))) (λo' O=>by cases O;exact⟨.inl T,gO⟩) rfl gF (λB=>⟨J,C,.inr ⟨o,v,some r,_,z,_,rfl,Heap.get_put_same _ _ _,J,Y,(r6.append hn).mono B,λr' q=>by cases q;exact⟨U,L⟩,λq=>Hm⟩⟩)
      |false =>
       have hr:=Zj (i:=0) (n:=len*j) I r5 r4 J;dsimp only;rw[show Nat.mul len j=len*j from rfl,hr];dsimp only[kx];obtain⟨H',h1,h2,h3,h4⟩:=zej c ((H.drop 0).take (len*j)++V);rw[h1];dsimp only;have jC:(H.drop 0).take (len*j)=H:=by rw[Mu,Kk J]
       rw[jC]at h4;have M:(H++V).length=(len+n)*j:=by rw[J9,jA,←Q,hl,Ky]
       refine F J (λo' jD _=>h3 o' jD) (λo' O=>by cases O;exact⟨.inr (J8 _),J⟩) rfl gF (λB=>⟨J,C,.inr ⟨c.H.next,0,none,_,_,H++V,rfl,h4,J,?_,(r6.append hn).mono B,λr' q=>Hm,λ_=>M⟩⟩);rw[←M];exact z70 _
     |none =>
      have U:=r8 rfl;dsimp only;rw[I];dsimp only;have gT:(len+n)*j=len*j+n*j:=Ky _ _ _;have jE:0<n*j:=Nat.mul_pos J gH;have jF:Nat.ble (Nat.add 0 (Nat.mul (Nat.add len n) j)) z=false:=by
       cases hq:Nat.ble (Nat.add 0 (Nat.mul (Nat.add len n) j)) z with
       |false=>rfl
       |true =>
        have:0+(len+n)*j≤z:=Ki hq;omega
      have gV:Nat.beq (Nat.mul len j) z=true:=by rw[U];exact K5 _
      rw[K5,jF,gV,U];dsimp only;have M:Nat.add (len*j) V.length=(len+n)*j:=by show len*j+V.length=_;rw[←Q,hl,gT]
      refine F (by exact J8 _) (λo' _ gG=>Heap.get_put_ne _ _ (λq=>gG (by rw[q];exact T))) (λo' O=>by cases O;exact⟨.inl T,gO⟩) rfl gF (λB=>⟨J,C,.inr ⟨o,v+1,none,_,_,_,rfl,Heap.get_put_same _ _ _,by rw[M];exact J8 _,Y,(r6.append hn).mono B,λr' q=>Hm,λ_=>M⟩⟩)
 ·exact h.elim
def fw(B:HSim c G){s:LV}{a:AV}{n:Nat}(ha:AR c s a)(hn:ARs c E V)(R:E.length=n*g)(h:Rq G g s n E K):Ur P c G K (Zk c.H g a n V):=by
 have gZ:=hn.length;unfold Rq at h;split at h
 ·
  cases ha;unfold Zk;cases hb:Nat.beq n 0 with
  |true =>
   have:=Kd hb;subst this;have:E=[]:=Kn Dl;subst this;exact zw6 B h
  |false =>
   dsimp only[kx];exact z5c B hn R (λr e=>Ar) h
 ·rename_i p k;exact ztx B ha hn R (by unfold Rq;exact h)
 ·rename_i p k lo len;split at h
  ·rename_i l gI U gT st T;obtain⟨gD,⟨rfl,rfl,gU⟩,C,h⟩:=h;have H:Nat.beq n 0=false:=by
    cases hb:Nat.beq n 0 with
    |false=>rfl
    |true=>have:=Kd hb;omega
   cases ha with
   | @vw _ _ _ _ k' hh _ e hk X gK hz =>
    split at h
    case isFalse Y =>
     obtain⟨gF,gL,h1,h2⟩:=h;subst gF;have gM:=(B.obj p _ _ _ T e).1;have M:=hz J rfl;rcases X J with ⟨I,L⟩|⟨o,v,z,j,D,A,I,L,r9⟩
     ·subst I;rcases L with rfl|⟨_,r5⟩
      ·have gF:l=[]:=Kn (by have:=(B.obj p _ _ _ T e).2.1;simpa using this);subst gF;unfold Zk;rw[H];dsimp only[kx];refine z5c B hn R (λr e=>Ar) ?_;simpa using h2
      ·exact absurd rfl r5
     ·have Z:=e;rw[I]at Z;obtain⟨_,w1,w2,w3,t,F,l',w4,w5,w6,w7,_⟩:=oy B T Z;subst w2 w3;rw[I,L]at M;dsimp only[io]at M;by_cases gO:A=D
      ·refine ztx B (p:=p) (k:=k) (.dy e hk (λ_=>by rw[L,I,gO,M0]) gK) hn R ?_;unfold Rq;dsimp only;rw[T];exact⟨gD,⟨rfl,gL⟩,C,h1⟩
      ·rcases M with M|⟨r,rfl,hr⟩
       ·exact absurd M gO
       have O:(Nat.beq j j&&Nat.ble z S4)=true:=by rw[K5,show Nat.ble z S4=true from Kc C];rfl
       have gG:Nat.ble (Nat.add z n) r=false:=by
        cases hq:Nat.ble (Nat.add z n) r with
        |false=>rfl
        |true=>have:z+n≤r:=Ki hq;omega
       rw[L];unfold Zk;rw[H];dsimp only;rw[O];dsimp only;rw[gG];dsimp only;have gH:=Zj (i:=0) (n:=z*j) w4 w6 w5 J;rw[show Nat.mul z j=z*j from rfl,show 0*j=0 from M0 _,gH];dsimp only[kx];have Q:=Ky z n j;have gV:l.take (z*j)=l:=Kk J;refine z5c B ((w7.take _).append hn) (by rw[J9,Mc,R];show min (z*j) l.length+n*j=(z+n)*j;omega) (λr e=>Ar) ?_;rw[gV];exact h2
    case isTrue Y =>
     obtain⟨h1,h2⟩:=h;have gM:=(B.obj p _ _ _ T e).1;have Q:(len+n)*U=len*U+n*U:=Ky _ _ _;rcases X J with ⟨I,L⟩|⟨o,v,z,j,D,A,I,L,r9⟩
     ·subst I;rcases L with rfl|⟨_,r5⟩
      ·unfold Zk;rw[H];dsimp only[kx];refine z5c B hn R (λr e=>Ar) ?_;simpa using h2
      ·exact absurd rfl r5
     ·have Z:=e;rw[I]at Z;obtain⟨_,w1,w2,w3,t,F,l',w4,w5,w6,w7,_⟩:=oy B T Z;subst w2 w3;rw[L];have hw:Yo G (.dptr p k (len*j)) E (λG'=>K (.vw p k 0 (len+n)) G'):=by
       unfold Yo;dsimp only;rw[T];exact⟨gD,by rw[R,←Q];exact Y,h1⟩
      obtain⟨o2,v2,i2,H',c',G',u1,u2,u3,u4,u5,u6⟩:=zc1 B (a:=.ptr o v (len*j)) (.dptr e hk (λ_=>⟨rfl,_,j,D,I⟩)) hn hw;cases u1;have gg:(∀r,A=some r→len+n≤r)→Ur P c G K (.val (.sl o v (0*j) (len+n) j A) H'):=λhr=>by
       refine⟨c',.vw p k 0 (len+n),G',u3,u4,u5,AR.mono u5.le (.vw e hk (λ_=>.inr ⟨o,v,_,j,D,A,I,rfl,hr⟩) rfl (λq=>by have:=hz q;rw[L]at this;exact this)),u6⟩
      have O:(Nat.beq j j&&Nat.ble len S4)=true:=Gx
      have gR:Nat.add (0*j) (Nat.mul len j)=len*j:=by show 0*j+len*j=_;omega
      have gY:len*j≤z*j:=by rw[←w1];omega
      unfold Zk;rw[H];dsimp only;rw[O];dsimp only;cases A with
      |some r =>
       dsimp only;cases hb:Nat.ble (Nat.add len n) r with
       |true =>
        dsimp only;rw[gR,u2];exact gg (λr' e'=>by cases e';exact Ki hb)
       |false =>
        dsimp only;have hr:=Zj (i:=0) (n:=len*j) w4 w6 w5 J;rw[show Nat.mul len j=len*j from rfl,show 0*j=0 from M0 _,hr];dsimp only[kx];refine z5c B ((w7.take _).append hn) Es (λr e=>Ar) h2
      |none =>
       dsimp only;rw[w4];dsimp only;rw[K5,gR];have hb:Nat.ble (Nat.add (0*j) (Nat.mul (Nat.add len n) j)) F=true:=Kc (by show 0*j+(len+n)*j≤F;omega);rw[hb];dsimp only;rw[u2];exact gg (λr' e'=>by cases e')
  ·exact h.elim
 ·rename_i p k len;split at h
  ·rename_i l gI U gT st T;obtain⟨gD,⟨rfl,gU⟩,C,jg,h⟩:=h;have H:Nat.beq n 0=false:=by
    cases hb:Nat.beq n 0 with
    |false=>rfl
    |true=>have:=Kd hb;omega
   cases ha with
   | @vf _ _ _ k' hh _ e hk X gK =>
    have gM:=(B.obj p _ _ _ T e).1;obtain⟨o,v,z,j,D,I,L⟩:=X J;have Z:=e;rw[I]at Z;obtain⟨_,w1,w2,w3,t,F,l',w4,w5,w6,w7,_⟩:=oy B T Z;subst w2 w3;have O:(Nat.beq j j&&Nat.ble len S4)=true:=Gx
    have gG:Nat.ble (Nat.add len n) len=false:=by
     cases hq:Nat.ble (Nat.add len n) len with
     |false=>rfl
     |true=>have:len+n≤len:=Ki hq;omega
    rw[L];unfold Zk;rw[H];dsimp only;rw[O];dsimp only;rw[gG];dsimp only;have gH:=Zj (i:=0) (n:=len*j) w4 w6 w5 J;rw[show Nat.mul len j=len*j from rfl,gH];dsimp only[kx];have Q:=Ky len n j;refine z5c B ((w7.take _).append hn) Es (λr e=>Ar) h
  ·exact h.elim
 ·exact h.elim
end res
end
section
section res
variable {P : Program} {c : Cx} {G : Pd} {K : LV → Pd → Prop}
def t9{v:LV}{a:AV}(g:v.scal=true)(h:AR c v a):a=toA v:=by
 cases v<;>first|(cases g;done)|(cases h;rfl)
def toAs_scal:∀{l:List LV} {r:List AV},l.all LV.scal=true→ARs c l r→r=toAs l
 |[],_,_,.nil=>rfl
 |v::l,_,h,.cons e g=>by
  simp only[Mq,J2]at h;rw[toAs,←t9 h.1 e,←toAs_scal h.2 g]
def binL_ok{op:BinOp}{t:TypeId}{x y:LV}{a b:AV}{K:LV→Prop}(z:AR c x a)(A:AR c y b)(h:Vq P op M t x y K):Uk c K (R3 P op M t a b):=by
 unfold Vq at h;split at h
 ·cases z;cases A;exact uuL_ok h
 ·cases z;cases A;exact iiL_ok h
 ·cases z;cases A;exact bbL_ok h
 ·rename_i u v;cases z;cases A;cases op<;>try exact h.elim
  ·simp only[R3];rw[h.1];exact .mk (.bool _) h.2
  ·simp only[R3];rw[h.1];exact .mk (.bool _) h.2
 ·rename_i u s;cases z;cases A;cases op<;>try exact h.elim
  ·obtain⟨g,j⟩:=h;obtain⟨n,rfl⟩:=J5 g;exact .mk (.u' (shl_u u n)) j
  ·obtain⟨g,j⟩:=h;obtain⟨n,rfl⟩:=J5 g;exact .mk (.u' (shr_u u n)) j
 ·rename_i u s;cases z;cases A;cases op<;>try exact h.elim
  ·obtain⟨g,j,F,C⟩:=h;rw[(znu (s:=Int.ofNat s.toNat) g (K4 _) (by show (s.toNat:Int)≤64;omega)).1];exact .mk (.i' (i6 F)) C
  ·obtain⟨g,j,C⟩:=h;rw[(znu (s:=Int.ofNat s.toNat) g (K4 _) (by show (s.toNat:Int)≤64;omega)).2];exact .mk (.i _) C
 ·obtain⟨rfl,h⟩:=h;cases z;cases A;exact kkL_ok h
 ·cases z;cases A;exact ssL_ok h
 ·cases z;cases A;exact zrl Df h
 ·cases z;cases A;have:∀o v i,Uh P M t (.ptr o v i) .nilPtr=Uh P M t (.ptr 0 0 0) .nilPtr:=λo v i=>by
   unfold Uh zlq eqT te;dsimp only;cases P.underlying t with
   |none=>rfl
   |some d=>cases d<;>rfl
  refine zrl (r:=false) Df ?_;cases op<;>simp only[kf]at h ⊢<;>(rw[this];exact h)
 ·cases z;cases A;exact zrl Df h
 ·cases A;obtain⟨g,j⟩:=h;have D:Uh P M t .emp .nilSl=some false∧∀o v i len H E,Uh P M t (.sl o v i len H E) .nilSl=some false:=by
   unfold Uh zlq eqT te at g ⊢;dsimp only at g ⊢;cases hu:P.underlying t with
   |none=>rw[hu]at g;cases g
   |some d=>rw[hu]at g;cases d<;>first|(cases g;done)|exact⟨rfl,λ_ _ _ _ _ _=>rfl⟩
  have B:∀{a:AV} {b:Bool},Uh P M t a .nilSl=some b→(R3 P op M t a .nilSl=match op with | .eql=>yesB (Uh P M t a .nilSl) | .neq=>notB (Uh P M t a .nilSl)|_=>none)→(match op with | .eql=>K (.bool b) | .neq=>K (.bool !b)|_=>False)→Uk c K (R3 P op M t a .nilSl):=by
   intro a b F C O;rw[C,F];cases op<;>first|exact O.elim|exact .mk (.bool _) O
  cases z with
  |lst T R Q U V =>
   refine B (D.2 _ _ _ _ _ _) Df ?_;cases op<;>first|exact j.elim|exact j.1
  |lstNil =>
   refine B g Df ?_;cases op<;>first|exact j.elim|exact j.2 rfl
  |lstEmp =>
   refine B D.1 Df ?_;cases op<;>first|exact j.elim|exact j.1
 ·cases z with
  |agg g=>cases A with
   |agg j =>
    cases op<;>try exact h.elim
    ·obtain⟨b,I,L,e,k⟩:=h;rw[toAs_scal I g,toAs_scal L j];simp only[R3];rw[e];exact .mk (.bool _) k
    ·obtain⟨b,I,L,e,k⟩:=h;rw[toAs_scal I g,toAs_scal L j];simp only[R3];rw[e];exact .mk (.bool _) k
 ·exact h.elim
def unL_ok{op:UnOp}{x:LV}{a:AV}{K:LV→Prop}(g:AR c x a)(h:unL op x K):Uk c K (unA op a):=by
 unfold unL at h;simp only[dh,eo]at h;split at h
 ·cases g;exact .mk (.bool _) h
 ·cases g;refine .mk (.u' ?_) h;rename_i u;rw[ip,Ob];show (0-Int.ofNat u.toNat)%_=((2^64-u.toNat+(0:UInt64).toNat)%2^64:Nat);have:=u.toNat_lt;simp only[Ku,UInt64.toNat_zero];omega
 ·cases g;obtain⟨j,z⟩:=h;refine .mk (.i' ?_) z;have e:∀n:Int,Int.sub 0 n=-n:=λn=>by show 0-n=-n;omega
  rw[e];exact i6 j
 ·cases g;refine .mk (.u' ?_) h;rename_i u;have hu:=u.toNat_lt;show IntKind.wrap .u64 (BitVec.ofInt 64 (IntKind.max .u64) ^^^ BitVec.ofInt 64 (Int.ofNat u.toNat)).toNat=_;have A:BitVec.ofInt 64 (IntKind.max .u64)=BitVec.allOnes 64:=Ac
  have B:BitVec.ofInt 64 (Int.ofNat u.toNat)=u.toBitVec:=by
   apply BitVec.eq_of_toNat_eq;simp
  rw[A,B,BitVec.allOnes_xor];show ((~~~u.toBitVec).toNat:Int)%18446744073709551616=Int.ofNat (~~~u).toNat;have:(~~~u).toNat=(~~~u.toBitVec).toNat:=rfl;rw[this];exact Mo (K4 _) (by have:=(~~~u.toBitVec).isLt;omega)
 ·exact h.elim
def zys(n:Int):n%18446744073709551616=Int.ofNat (UInt64.ofInt n).toNat:=by
 unfold UInt64.ofInt;rw[Lh];simp only[Ku];omega
def ztt(n:Int):n%256=Int.ofNat (UInt8.ofInt n).toNat:=by
 unfold UInt8.ofInt;rw[UInt8.toNat_ofNat'];simp only[Ku];omega
def cvL_ok{k:IntKind}{x:LV}{a:AV}{K:LV→Prop}(g:AR c x a)(h:x5 k x K):∃k' n,a=.int k' n∧∃v,AR c v (.int k (Xy k n))∧K v:=by
 unfold x5 at h;simp only[qi,bU_eq,zxb,iB_eq]at h;split at h
 ·cases g;rename_i u;refine⟨_,_,rfl,_,.u' ?_,h⟩;rw[ip];exact Mo (K4 _) Hx
 ·cases g;refine⟨_,_,rfl,_,.u' ?_,h⟩;rename_i n;rw[ip];exact zys n
 ·cases g;rename_i u;refine⟨_,_,rfl,_,.u' ?_,h⟩;rw[ip];have:=u.toNat_lt;rw[Lh];show Int.ofNat u.toNat%18446744073709551616=Int.ofNat (u.toNat%2^64);simp only[Ku];omega
 ·cases g;rename_i u;exact⟨_,_,rfl,_,.i' (i6 ⟨Cs,Cs⟩),h.2⟩
 ·cases g;exact⟨_,_,rfl,_,.i' (i6 h.1),h.2⟩
 ·cases g;rename_i u;have:=u.toNat_lt;exact⟨_,_,rfl,_,.i' (i6 ⟨Cs,Cs⟩),h⟩
 ·cases g;rename_i u;refine⟨_,_,rfl,_,.b' ?_,h⟩;rw[z8u,UInt8.toNat_ofNat'];show Int.ofNat u.toNat%256=Int.ofNat (u.toNat%2^8);simp only[Ku];omega
 ·cases g;refine⟨_,_,rfl,_,.b' ?_,h⟩;rename_i n;rw[z8u];exact ztt n
 ·cases g;rename_i u;refine⟨_,_,rfl,_,.b' ?_,h⟩;rw[z8u];exact Mo (K4 _) Hx
 ·cases g;refine⟨_,_,rfl,_,.b' ?_,h⟩;rename_i n;rw[z8u];exact ztt n
 ·cases g;refine⟨_,_,rfl,_,?_,h⟩;rename_i n;have e:Xy .i32 n=w32 n:=by
   rw[mb];show (if (true&&decide (n%4294967296 ≥ 2147483648))=true then n%4294967296-4294967296 else n%4294967296)=w32 n;simp only[Nu,Kb,w32];split<;>omega
  rw[e];exact .int .i32 _
 ·cases g;exact⟨_,_,rfl,_,.i' (i6 h.1),h.2⟩
 ·exact h.elim
def layL_eq:∀(r l:List AV) (i:Nat),i+r.length≤l.length→Wy l i r=sg l i r
 |[],l,i,h=>by
  simp only[Wy,sg,Kz,M6,Ls,N9]
 |a::r,l,i,h=>by
  simp only[Kh]at h;rw[Wy,layL_eq r (l.set i a) (i+1) Ab];refine N5 (λg=>?_);rw[zi2 Ab,zi2 Ab];simp only[Kh];by_cases j:i+1≤g∧g<i+1+r.length
  ·rw[J6 j,J6 J,show g-i=(g-(i+1))+1 from J,Km]
  ·rw[J1 j];by_cases z:g=i
   ·subst z;rw[J6 J,J3 J];simp
   ·rw[J1 J,Jz (Ne.symm z)]
def zno{X:Pf}{Y:Tr AV}(F:Qo c X Y):∀{B:List (Nat×Nat×Lx)} {C l:List LV} {g:List AV},B.all (·.2.2.ok)=true→ARs c C g→zo0 X C B=some l→∃D,fillR (ρA Y) g (rps B)=some D∧ARs c l D
 |[],C,l,g,_,h,e=>by
  simp only[zo0,Option.some.injEq]at e;subst e;exact⟨g,rfl,h⟩
 |(z,j,x)::B,C,l,g,A,h,e=>by
  simp only[Mq,J2]at A;simp only[zo0]at e;split at e
  ·cases e
  ·rename_i r I;split at e
   ·rename_i hc;obtain⟨L,Z⟩:=hc;obtain⟨M,O,H⟩:=(Rd F A.1).cells I;have E:=H.length;have Q:=h.length;obtain⟨D,R,T⟩:=zno F A.2 (h.lay H z) e;refine⟨D,?_,T⟩;simp only[rps,fillR,O];have U:Nat.beq M.length j=true:=by rw[←E,L];exact K5 _
    have V:Nat.ble (Nat.add z j) g.length=true:=Kc (by show z+j≤_;omega);simp only[U,V];rw[layL_eq _ _ _ J];exact R
   ·cases e
def Yd{C:Pf}(z:Qo c C Q){d:Nat}{x:Option Lx}(j:yx x=true){K:Nat→Prop}(h:Rx C d x K):∃r n,R9 (ρA Q) (x.map Lx.r)=some r∧r.getD d=n∧K n:=by
 cases x with
 |none=>exact⟨none,d,rfl,rfl,h⟩
 |some x =>
  simp only[Rx]at h;have g:=Rd z (show x.ok=true from j);simp only[Mg,R9];split at h
  ·rename_i n hn;obtain⟨A,B⟩:=h;rw[hn]at g;generalize x.r.ev (ρA Q)=a at g;cases g;obtain⟨m,rfl⟩:=J5 A;exact⟨some m,m,rfl,rfl,B⟩
  ·rename_i n hn;rw[hn]at g;generalize x.r.ev (ρA Q)=a at g;cases g;exact⟨some n.toNat,n.toNat,rfl,rfl,h⟩
  ·exact h.elim
end res
end
section
section res
variable {P : Program} {c : Cx} {G : Pd} {K : LV → Pd → Prop}
def cu{d:TypeDesc}{k z:LV}{a:AV}{b:Bool}(g:AR c k a)(j:AR c z uO)(h:Z4 d k z=some b):zmn d a uO=some b:=by
 unfold Z4 at h;split at h
 ·cases g;cases j;cases h;simp only[zmn,show bv .i64 .i64=true from rfl,z96]
 ·cases g;cases j;cases h;simp only[zmn,show bv .u64 .u64=true from rfl,z96,znc]
 ·cases g;cases j;cases h;simp only[zmn,bc]
 ·cases h
def zu2{d:TypeDesc}{k:LV}{a:AV}(hk:AR c k a){K:Option LV→Prop}:∀{A:List (LV×LV×Nat)} {g:List (AV×AV×Nat)},MRs c A g→zne d k K A→(zo9 d a g=some none∧K none)∨∃v b,zo9 d a g=some (some b)∧AR c v b∧K (some v)
 |_,_,.nil,h=>.inl ⟨rfl,h⟩
 |(D,B,n)::l,_,.cons j z C,h=>by
  simp only[zne]at h;split at h
  ·rename_i b hb;have:=cu hk j hb;simp only[zo9,this];cases b with
   |true=>exact .inr ⟨B,_,rfl,z,h.1 rfl⟩
   |false=>exact zu2 hk C (h.2 rfl)
  ·exact h.elim
def zz6{d:TypeDesc}{k v:LV}{a b:AV}{C:Nat}(hk:AR c k a)(hv:AR c v b):∀{D:List (LV×LV×Nat)} {j:List (AV×AV×Nat)} {K:List (LV×LV×Nat)→Bool→Prop},MRs c D j→Zf d k v C K D→∃r A g,zca d a b C j=some (A,g)∧MRs c r A∧K r g
 |_,_,K,.nil,h=>⟨_,_,true,rfl,.cons hk hv .nil,h⟩
 |(F,H,n)::l,_,K,.cons z B E,h=>by
  simp only[Zf]at h;split at h
  ·rename_i t I;have:=cu hk z I;simp only[zca,this];cases t with
   |true=>exact⟨_,_,false,rfl,.cons hk hv E,h.1 rfl⟩
   |false =>
    obtain⟨r,A,g,L,M,O⟩:=zz6 (K:=λr g=>K ((F,H,n)::r) g) hk hv E (h.2 rfl);exact⟨_,_,g,by rw[L],.cons z B M,O⟩
  ·exact h.elim
def zyf(C:HSim c G){x:LV}{a:AV}(A:AR c x a){K:List (LV×LV×Nat)→Prop}(h:Z1 G x K):∃j g,zyq c.H a=some g∧MRs c j g∧K j∧(a=.nilMap∧g=[]∨∃o z,a=.map o∧c.H.get o=some (.map g z)):=by
 unfold Z1 at h;split at h
 ·cases A;exact⟨[],[],rfl,.nil,h,.inl ⟨rfl,rfl⟩⟩
 ·rename_i p;split at h
  ·rename_i j z st D;cases A with
   | @map _ o e =>
    obtain⟨_,F,g,he,B,E⟩:=C.obj p _ _ _ D e;injection he with he
    subst he;refine⟨j,g,?_,E,h,.inr ⟨o,z,rfl,B⟩⟩;simp only[zyq,B]
  ·exact h.elim
 ·exact h.elim
def zjp(g:HSim c G)(k:K (.map G.length) (G++[.map [] 0 0])):Ur P c G K (gc c.H):=by
 unfold gc;obtain⟨j,z,_⟩:=g.push (H':=c.H.push (.map [] 0)) (x:=.map c.H.next) (ob:=.map [] 0 0) (by show c.H.next≤c.H.next+1;omega) (λo ho=>Heap.get_push_ne _ _ ho) (λo e=>by cases e;exact⟨J8 _,by show c.H.next<c.H.next+1;omega⟩)
  ⟨rfl,c.H.next,[],rfl,Heap.get_push_same _ _,.nil⟩
 exact⟨_,.map G.length,_,rfl,j,z,.map (by rw[←g.len];exact Kg),k⟩
def zzd(B:HSim c G){d:TypeDesc}{m k v:LV}{L M:AV}(hm:AR c m uO)(hk:AR c k L)(hv:AR c v M)(h:zqp G d m k v λT=>K .any T) :
  Ur P c G K (match (generalizing:=false) uO with
   |.map o=>match c.H.get o with
    |some (.map O g)=>match zca d L M g O with
     |some (z,true)=>.val Um (c.H.put o (.map z (Nat.add g 1)))
     |some (z,false)=>.val Um (c.H.put o (.map z g))
     |none=>.no
    |_=>.no
   |_=>.no):=by
 unfold zqp at h;split at h
 ·rename_i p;split at h
  ·rename_i O ck st C;cases hm with
   | @map _ o e =>
    obtain⟨_,Q,z,he,U,V⟩:=B.obj p _ _ _ C e;injection he with he
    subst he;obtain⟨r,D,E,X,Y,R⟩:=zz6 hk hv V h;have F:o<c.H.next:=B.lt o ⟨p,_,_,_,C,rfl,e,rfl⟩;have A:∀j,K .any (G.set p (.map r j (st+1)))→Ur P c G K (.val Um (c.H.put o (.map D j))):=by
     intro j Z;obtain⟨u1,u2,u3⟩:=B.upd (k':=0) (x':=.map o) (ob':=.map r j (st+1)) (H':=c.H.put o (.map D j)) C rfl e (J8 _) (λQ _ H=>Heap.get_put_ne _ _ (λq=>H Hd)) (λQ e'=>by cases e';exact⟨.inl rfl,F⟩) (J8 _) (λ_=>rfl) (λ_=>rfl) (.inl (Lp _))
      (λI=>⟨rfl,o,D,rfl,Heap.get_put_same _ _ _,Y.mono I⟩)
     exact⟨_,.any,_,rfl,u1,u2,.any _,Z⟩
    simp only[U,X];cases E with
    |true=>exact A _ R
    |false=>exact A _ R
  ·exact h.elim
 ·exact h.elim
def HSim.freeze(hs:HSim c G){p k o st:Nat}{x:AV}{ob:LObj}(hG:G[p]?=some ob)(hl:ob.live=true)(gH:ob.st<st)(hp:c.hd[p]?=some (k,x))(ho:Qf x=some o) :
  HSim ⟨c.hd,λq=>c.Fz q∨q=o,c.H⟩ (G.set p (.dead st))∧Step c G ⟨c.hd,λq=>c.Fz q∨q=o,c.H⟩ (G.set p (.dead st)):=by
 have gI:p<G.length:=(Jy.1 hG).1;have hle:CxLe c ⟨c.hd,λq=>c.Fz q∨q=o,c.H⟩:=⟨λp k h e=>⟨k,h,e,J8 _,λ_=>rfl,λ_=>rfl⟩,λq hq=>⟨.inl hq,rfl⟩⟩;have gF:Ru c G o:=⟨p,ob,k,x,hG,hl,hp,ho⟩;have hinv:∀{q:Nat} {gg:LObj},(G.set p (.dead st))[q]?=some gg→(q=p∧gg=.dead st)∨(q≠p∧G[q]?=some gg):=by
  intro q gg e;by_cases hq:q=p
  ·subst hq;rw[J3 gI]at e;cases e;exact .inl ⟨rfl,rfl⟩
  ·rw[Jz (Ne.symm hq)]at e;exact .inr ⟨hq,e⟩
 have gD:∀q,Ru ⟨c.hd,λq=>c.Fz q∨q=o,c.H⟩ (G.set p (.dead st)) q→Ru c G q∧q≠o:=by
  rintro q ⟨p1,gg,k1,h1,e1,e2,e3,e4⟩;rcases hinv e1 with ⟨_,rfl⟩|⟨gK,e1⟩
  ·cases e2
  ·refine⟨⟨p1,gg,k1,h1,e1,e2,e3,e4⟩,λhq=>gK ?_⟩;subst hq;exact hs.excl p1 p gg ob k1 h1 k x q e1 hG e2 hl e3 hp e4 ho
 refine⟨⟨Fu,λq hq=>hq.elim (hs.fz q) (λe=>by rw[e];exact hs.lt o gF),λq hq=>hs.lt q (gD q hq).1,λq hq hf=>hf.elim (hs.sep q (gD q hq).1) (gD q hq).2,λq gg k1 h1 e1 e2=>?_,?_⟩,⟨hle,J8 _,λ_ _ _=>rfl,λq hq=>.inl (gD q hq).1,λq hq=>hq.elim .inl (λe=>.inr (.inl (by rw[e];exact gF))),λq gg gG e1 e2=>?_,λq gg gG k1 h1 o1 e1 e2 e3 e4 e5 e6=>?_⟩⟩
 ·rcases hinv e1 with ⟨_,rfl⟩|⟨_,e1⟩
  ·trivial
  ·by_cases gL:gg.live=true
   ·exact (hs.obj q gg k1 h1 e1 e2).mono hle (λ_ _=>rfl)
   ·cases gg<;>first|exact absurd rfl gL|trivial
 ·intro q r gg gG k1 h1 k2 h2 o1 e1 e2 e3 e4 e5 e6 e7 e8;rcases hinv e1 with ⟨_,rfl⟩|⟨_,e1⟩
  ·cases e3
  ·rcases hinv e2 with ⟨_,rfl⟩|⟨_,e2⟩
   ·cases e4
   ·exact hs.excl q r gg gG k1 h1 k2 h2 o1 e1 e2 e3 e4 e5 e6 e7 e8
 ·rcases hinv e2 with ⟨rfl,rfl⟩|⟨_,e2⟩
  ·rw[hG]at e1;cases e1;exact Oq gH
  ·rw[e1]at e2;cases e2;exact J8 _
 ·rcases hinv e2 with ⟨rfl,rfl⟩|⟨_,e2⟩
  ·rw[hG]at e1;cases e1;have:ob.st=st:=e6;omega
  ·rw[e1]at e2;cases e2;exact⟨rfl,rfl,rfl⟩
end res
end
end Go.Sv
