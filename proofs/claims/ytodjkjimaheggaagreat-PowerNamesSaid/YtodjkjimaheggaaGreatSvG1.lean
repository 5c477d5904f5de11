/- Texts of the evaluator, of the logic over it, of plain arithmetic. -/
import Derived.Test.YtodjkjimaheggaaGreatSvG0
import Derived.Orders
import Derived.WalkKit
import Derived.ProofKit
import Derived.OpenShut
set_option linter.unusedSimpArgs false
set_option linter.defProp false
namespace Go.Sv
def eqAV_spec:∀(n:Nat) (a b:AV),Jr n a b=true→a=b
 |0,_,_,h=>by cases h
 |n+1,a,b,h=>by
  have j:∀(x y:List AV),Te (Jr n) x y=true→x=y:=by
   intro x
   induction x with
   |nil=>intro y g;cases y with
    |nil=>rfl
    |cons _ _=>cases g
   |cons c x l =>
    intro y g;cases y with
    |nil=>cases g
    |cons d y =>
     simp only[Te] at g;split at g
     ·rename_i m;rw[eqAV_spec n c d m,l y g]
     ·cases g
  have f:∀{x y:Nat},Nat.beq x y=true→x=y:=fun h=>Al h
  unfold Jr at h;split at h
  ·simp only[Du] at h;rw[h]
  ·simp only[Ac,qm,Du] at h;rw[z7r h.1,h.2]
  ·simp only[Ac] at h;rw[f h.1,f h.2]
  ·rfl
  ·simp only[Ac] at h;rw[f h.1.1,f h.1.2,f h.2]
  ·rfl
  ·simp only[Ac,Du] at h;obtain⟨⟨⟨⟨⟨o,p⟩,q⟩,r⟩,s⟩,w⟩:=h;rw[f o,f p,f q,f r,f s,w]
  ·rfl
  ·rfl
  ·rw[f h]
  ·rfl
  ·simp only[Ac] at h;rw[f h.1.1,j _ _ h.1.2,j _ _ h.2]
  ·simp only[Ac] at h;rw[f h.1.1,j _ _ h.1.2,j _ _ h.2]
  ·rfl
  ·simp only[Ac] at h;rw[f h.1,eqAV_spec n _ _ h.2]
  ·rw[j _ _ h]
  ·rw[j _ _ h]
  ·cases h
def Td (a b j:Nat):(Nat.lor a b).testBit j=(a.testBit j || b.testBit j):=Nat.testBit_or a b j
def b9 (i j:Nat):(2^i).testBit j=decide (i=j):=Nat.testBit_two_pow
def zmb {a b:Nat}(h:Nat.beq (Nat.land a b) a=true)(j:Nat)(d:a.testBit j=true):b.testBit j=true:=by
 have e:a &&& b=a:=Al h;rw[←e,Nat.testBit_and] at d;simp only[Ac] at d;exact d.2
def bitsOf_spec:∀{l:List Nat} {t:Nat},t∈l→(zoo l).testBit t=true
 |[],_,h=>by cases h
 |a::l,t,h=>by
  simp only[zoo,Td,b9,Bm,Ao];rcases An.1 h with rfl|h
  ·exact .inl rfl
  ·exact .inr (bitsOf_spec h)
def z9z {acc:List Nat}:∀{l:List Edge} {j:Nat},(im acc l).testBit j=true↔∃e∈l,Region.binds .any e=true∧(j=e.on∨(acc.getD e.on 0).testBit j=true)
 |[],j=>by simp[im]
 |e::l,j=>by
  simp only[im];split
  ·rename_i a;simp only[Td,b9,Bm,Ao,z9z,An,exists_eq_or_imp,a,Dt];constructor
   ·rintro ((h|h)|h)
    ·exact .inl (.inl h.symm)
    ·exact .inl (.inr h)
    ·exact .inr h
   ·rintro ((h|h)|h)
    ·exact .inl (.inl h.symm)
    ·exact .inl (.inr h)
    ·exact .inr h
  ·rename_i a;simp only[z9z,An,exists_eq_or_imp,a,Cz,false_and,false_or]
def Ss {α:Type}{f:α→Bool}:∀{l:List α} {x:α},x∈Ge f l↔x∈l∧f x=true
 |[],x=>by simp[Ge]
 |a::l,x=>by
  simp only[Ge];split
  ·rename_i h;simp only[An,Ss];constructor
   ·rintro (rfl|j)
    ·exact⟨.inl rfl,h⟩
    ·exact⟨.inr j.1,j.2⟩
   ·rintro⟨rfl|g,d⟩
    ·exact .inl rfl
    ·exact .inr ⟨g,d⟩
  ·rename_i h;simp only[An,Ss];constructor
   ·rintro⟨g,d⟩;exact⟨.inr g,d⟩
   ·rintro⟨rfl|g,d⟩
    ·rw[h] at d;cases d
    ·exact⟨g,d⟩
def zlz {α:Type}{f:α→Bool}:∀{l:List α},O5 f l=true→∀x∈l,f x=true
 |[],_,x,d=>by cases d
 |a::l,h,x,d=>by
  simp only[O5] at h;split at h
  ·rename_i g;rcases An.1 d with rfl|d
   ·exact g
   ·exact zlz h x d
  ·cases h
structure LOk (P:Program) (ops:Array Oper) (L:List DOp):Prop where
 op:∀x∈L,ops[x.i]?=some x.o∧x.i<ops.size
 all:∀i,i<ops.size→∃x∈L,x.i=i
 inj:∀x∈L,∀y∈L,x.i=y.i→x=y
 cl:∀x∈L,x.c=cls P x.o.op
 lm:∀x∈L,∀t∈Nf ops x.o,x.lm.testBit t=true
 msk:∀x∈L,∀j,x.m.testBit j=true→∃e∈x.o.after.toList,Region.binds .any e=true∧(j=e.on∨∃y∈L,y.i=e.on∧y.m.testBit j=true)
 edge:∀x∈L,∀e∈x.o.after.toList,Region.binds .any e=true→x.m.testBit e.on=true
def zgs (P:Program)(ops:Array Oper):∀(l:List Oper) (acc:List Nat) (i:Nat) (j:Nat),(Ix P ops l acc i).length=l.length∧∀x,(Ix P ops l acc i)[j]?=some x →
  x.i=i+j∧l[j]?=some x.o∧x.c=cls P x.o.op∧x.lm=zoo (Nf ops x.o)∧x.m=im (acc++((Ix P ops l acc i).take j).map (·.m)) x.o.after.toList
 |[],acc,i,j=>⟨rfl,fun x h=>by simp[Ix] at h⟩
 |o::l,acc,i,0=>⟨by simp[Ix,(zgs P ops l _ (i+1) 0).1],fun x h=>by
   simp only[Ix,A6,Option.some.injEq] at h;subst h;exact⟨rfl,rfl,rfl,rfl,by simp⟩⟩
 |o::l,acc,i,j+1=>⟨by simp[Ix,(zgs P ops l _ (i+1) 0).1],fun x h=>by
   simp only[Ix,Av] at h;obtain⟨p,a,d,f,g⟩:=(zgs P ops l _ (i+1) j).2 x h;refine⟨by omega,by simpa using a,d,f,?_⟩;rw[g];simp[Ix]⟩
def eo (P:Program)(ops:Array Oper):LOk P ops (Ix P ops ops.toList [] 0):=by
 have f:=zgs P ops ops.toList [] 0;have hlen:(Ix P ops ops.toList [] 0).length=ops.size:=by rw[(f 0).1];simp
 have hm:∀x∈Ix P ops ops.toList [] 0,∃j,(Ix P ops ops.toList [] 0)[j]?=some x∧x.i=j:=fun x d=>by
  obtain⟨j,a⟩:=Co.1 d;exact⟨j,a,by have:=((f j).2 x a).1;omega⟩
 refine⟨fun x d=>?_,fun i hi=>?_,fun x d y p e=>?_,fun x d=>?_,fun x d t q=>?_,fun x d j a=>?_,fun x d e he o=>?_⟩
 ·obtain⟨j,a,e⟩:=hm x d;obtain⟨_,r,_⟩:=(f j).2 x a;rw[e];have:j<ops.size:=by
   have:=(Aa.1 a).1;omega
  exact⟨by simpa using r,this⟩
 ·exact ⟨(Ix P ops ops.toList [] 0)[i]'(by omega), Dw _, by
   have:=((f i).2 _ (Ah (by omega))).1;omega⟩
 ·obtain⟨j,a,m⟩:=hm x d;obtain⟨s,l,w⟩:=hm y p;have:j=s:=by omega
  subst this;rw[a] at l;cases l;rfl
 ·obtain⟨j,a,m⟩:=hm x d;exact ((f j).2 x a).2.2.1
 ·obtain⟨j,a,m⟩:=hm x d;rw[((f j).2 x a).2.2.2.1];exact bitsOf_spec q
 ·obtain⟨i,hi,m⟩:=hm x d;rw[((f i).2 x hi).2.2.2.2] at a;obtain⟨e,he,o,h⟩:=z9z.1 a;refine⟨e,he,o,h.imp id fun h=>?_⟩;rw[D0,Ae,Cc] at h;cases g:((Ix P ops ops.toList [] 0).take i)[e.on]? with
  |none=>rw[g] at h;simp at h
  |some y =>
   rw[g] at h;have p:=Co.2 ⟨e.on,g⟩;rw[List.getElem?_take] at g;split at g
   ·exact⟨y,Co.2 ⟨_,g⟩,by have:=((f e.on).2 y g).1;omega,h⟩
   ·cases g
 ·obtain⟨i,hi,m⟩:=hm x d;rw[((f i).2 x hi).2.2.2.2];exact z9z.2 ⟨e,he,o,.inl rfl⟩
def dstsOk_spec:∀{l:List DOp} {seen:Nat},yl l seen=true→(∀x∈l,∀d,x.o.dst=some d→seen.testBit d=false)∧∀x∈l,∀y∈l,∀d,x.o.dst=some d→y.o.dst=some d→x=y
 |[],_,_=>⟨fun x f=>(by cases f),fun x f=>by cases f⟩
 |a::l,seen,h=>by
  simp only[yl] at h;split at h
  ·rename_i j;obtain⟨o,p⟩:=dstsOk_spec h;refine⟨fun x f d hd=>?_,fun x f y m d hd g=>?_⟩
   ·rcases An.1 f with rfl|f
    ·rw[j] at hd;cases hd
    ·exact o x f d hd
   ·rcases An.1 f with rfl|f
    ·rw[j] at hd;cases hd
    ·rcases An.1 m with rfl|m
     ·rw[j] at g;cases g
     ·exact p x f y m d hd g
  ·rename_i d0 j;split at h
   ·cases h
   ·rename_i z;obtain⟨o,p⟩:=dstsOk_spec h;have q:∀x∈l,x.o.dst≠some d0:=fun x f e=>by
     have:=o x f d0 e;rw[Td,b9] at this;simp at this
    refine⟨fun x f d hd=>?_,fun x f y m d hd g=>?_⟩
    ·rcases An.1 f with rfl|f
     ·rw[j] at hd;cases hd;simpa using z
     ·have:=o x f d hd;rw[Td] at this;simp only[Bool.or_eq_false_iff] at this;exact this.2
    ·rcases An.1 f with ex|r<;>rcases An.1 m with s|w
     ·rw[ex,s]
     ·subst ex;rw[j] at hd;cases hd;exact absurd g (q y w)
     ·subst s;rw[j] at g;cases g;exact absurd hd (q x r)
     ·exact p x r y w d hd g
def zq {x:DOp}:Fe x=true↔x.c=.ch:=by
 unfold Fe;constructor
 ·intro h;split at h
  ·assumption
  ·cases h
 ·intro h;rw[h]
def zj6 {x:DOp}:zrc x=true↔x.c=.quiet:=by
 unfold zrc;constructor
 ·intro h;split at h
  ·assumption
  ·cases h
 ·intro h;rw[h]
def u7 {x:DOp}{l:List DOp}{seen a s:Nat}(h:Hv (x::l) seen a=some s):(∀j,x.m.testBit j=true→seen.testBit j=true)∧seen.testBit x.i=false ∧
  ((x.c=.quiet∧Hv l (Nat.lor (2^x.i) seen) a=some s) ∨
   ((x.c=.rd∨x.c=.al)∧(∀j,a.testBit j=true→x.m.testBit j=true)∧Hv l (Nat.lor (2^x.i) seen) a=some s) ∨
   (x.c=.ch∧(∀j,a.testBit j=true→x.m.testBit j=true)∧Hv l (Nat.lor (2^x.i) seen) (Nat.lor (2^x.i) a)=some s)):=by
 simp only[Hv] at h;split at h
 ·cases h
 ·rename_i p;split at h
  ·cases h
  ·rename_i q;refine⟨fun j d=>zmb p j d,by simpa using q,?_⟩;split at h
   ·rename_i f;exact .inl ⟨zj6.1 f,h⟩
   ·rename_i f;split at h
    ·cases h
    ·rename_i m;split at h
     ·rename_i g;exact .inr (.inr ⟨zq.1 g,fun j d=>zmb m j d,h⟩)
     ·rename_i g;refine .inr (.inl ⟨?_,fun j d=>zmb m j d,h⟩);cases o:x.c with
      |quiet=>rw[zj6.2 o] at f;cases f
      |rd=>exact .inl rfl
      |al=>exact .inr rfl
      |ch=>rw[zq.2 o] at g;cases g
def topo_seen:∀{l:List DOp} {seen d s:Nat},Hv l seen d=some s→∀j,s.testBit j=true↔(seen.testBit j=true∨∃x∈l,x.i=j)
 |[],seen,d,s,h,j=>by simp only[Hv,Option.some.injEq] at h;subst h;simp
 |x::l,seen,d,s,h,j=>by
  obtain⟨_,_,f⟩:=u7 h;have key:∀a,Hv l (Nat.lor (2^x.i) seen) a=some s→(s.testBit j=true↔(seen.testBit j=true∨∃y∈x::l,y.i=j)):=fun a g=>by
   rw[topo_seen g j,Td,b9];simp only[Bm,Ao,An,exists_eq_or_imp];constructor
   ·rintro ((h|h)|h)
    ·exact .inr (.inl h)
    ·exact .inl h
    ·exact .inr (.inr h)
   ·rintro (h|h|h)
    ·exact .inl (.inr h)
    ·exact .inl (.inl h)
    ·exact .inr h
  rcases f with ⟨_,f⟩|⟨_,_,f⟩|⟨_,_,f⟩<;>exact key _ f
def topo_new:∀{l:List DOp} {seen d s:Nat},Hv l seen d=some s→∀x∈l,seen.testBit x.i=false
 |[],_,_,_,_,x,f=>by cases f
 |y::l,seen,d,s,h,x,f=>by
  obtain⟨_,j,g⟩:=u7 h;rcases An.1 f with rfl|f
  ·exact j
  ·have key:∀a,Hv l (Nat.lor (2^y.i) seen) a=some s→seen.testBit x.i=false:=fun a m=>by
    have:=topo_new m x f;rw[Td] at this;simp only[Bool.or_eq_false_iff] at this;exact this.2
   rcases g with ⟨_,g⟩|⟨_,_,g⟩|⟨_,_,g⟩<;>exact key _ g
def topo_chs:∀{l:List DOp} {seen d s:Nat},Hv l seen d=some s→∀x∈l,x.c≠.quiet→∀j,d.testBit j=true→x.m.testBit j=true
 |[],_,_,_,_,_,f=>by cases f
 |y::l,seen,d,s,h,x,f=>by
  intro o j g;obtain⟨_,p,a⟩:=u7 h;rcases An.1 f with rfl|f
  ·rcases a with ⟨e,a⟩|⟨e,m,a⟩|⟨e,m,a⟩
   ·exact absurd e o
   ·exact m j g
   ·exact m j g
  ·rcases a with ⟨e,a⟩|⟨e,m,a⟩|⟨e,m,a⟩
   ·exact topo_chs a x f o j g
   ·exact topo_chs a x f o j g
   ·exact topo_chs a x f o j (by rw[Td,g];simp)
def zp3 {L chain:List DOp}{p:Nat}:∀x∈Xm L chain p,x∈L:=fun _ a=>(Ss.1 a).1
def zi2 {L chain:List DOp}:∀{l:List DOp} {p:Nat},(∀x∈l,x∈L)→∀x∈zlf L chain l p,x∈L
 |[],_,_,_,a=>by cases a
 |c::l,p,h,x,a=>by
  simp only[zlf,An,Ay] at a;rcases a with rfl|a|a
  ·exact h _ (by simp)
  ·exact zp3 x a
  ·exact zi2 (fun y d=>h y (by simp[d])) x a
def zvs {L:List DOp}:∀x∈zyw L (Ge Fe L),x∈L:=fun x a=>by
 simp only[zyw,Ay] at a;rcases a with a|a
 ·exact zp3 x a
 ·exact zi2 (fun y d=>(Ss.1 d).1) x a
open Go.RowKit (Below)
def zb (ob:AObj):Prop:=∀B C w o,(∀v,C.f o v=none)→Ie B C w o ob
def o6 (P:Program)(C:CM)(w:World)(nx:Sem Next)(v:AV)(ob:AObj):Prop :=
 ∃a n sz x,nx.run P w=.ok (.value x) (w.alloc a)∧∀(d:CM) (id:Nat),C.keep d→d id 0=some ⟨w.heap.size,0,n,sz⟩ →
  VR d (Iv id v) x∧∀B,B≤w.heap.size→Ie B d (w.alloc a) id ob
def jb (P:Program)(E:Tr AV)(H:Heap)(nx:(Operand→Value)→Sem Next):OR→Prop
 |.no=>True
 |.val v H1=>∃ob,True∧H1=H.push ob∧Gb v=some H.next∧zb ob∧∀C w ρ,ln C E ρ→o6 P C w (nx ρ) v ob
 |.call _ _=>False
def Mk (P:Program)(F:OpF)(nx:(Operand→Value)→Sem Next):Prop:=∀E H,jb P E H nx (F.run E H)
def Mk.congr {P:Program}{F:OpF}{nx aa:(Operand→Value)→Sem Next}(h:∀ρ,nx ρ=aa ρ)(s:Mk P F nx):Mk P F aa:=by
 rw[show aa=nx from funext fun ρ=>(h ρ).symm];exact s
def X8 (P:Program)(nx:(Operand→Value)→Sem Next):Mk P Gc nx:=fun _ _=>trivial
def zdj {H H':Heap}{l:List AV}{o:Nat}(h:newObj H l=some (o,H')):True∧True∧o=H.next∧H'=H.push (.cells (Ju l 0 .e) l.length 0 false):=by
 unfold newObj at h;cases h;exact⟨trivial,trivial,rfl,rfl⟩
def zmd {l:List AV}(_:True):zb (.cells (Ju l 0 .e) l.length 0 false):=fun B C w o d=>fun L a=>by rw[d] at a;cases a
def Xj {P:Program}{C:CM}{w:World}{l:List AV}{cs:Array Value}{t:TypeId}(_hl:True)(hv:VRs C l cs.toList)(p:∀a∈l,a.one=true){nx:Sem Next}{v:AV}{x:Value}
  (g:nx.run P w=.ok (.value x) (w.alloc (.cells cs t))) (q:∀(f:CM) (id:Nat),f id 0=some ⟨w.heap.size,0,l.length,cs.size⟩→VR f (Iv id v) x) :
  o6 P C w nx v (.cells (Ju l 0 .e) l.length 0 false):=by
 have hlen:l.length=cs.toList.length:=hv.length;have h:l.length=cs.size:=by simpa using hlen
 refine⟨_,l.length,cs.size,x,g,fun f id hk m=>⟨q f id m,fun B r=>fun L d=>?_⟩⟩;rw[m] at d;cases d;refine⟨rfl,fun _=>r,by dsimp;omega,cs,t,0,0,Uq _ _,Am _,fun i _ _=>by omega,?_⟩;intro k j;rw[get_ofList l 0 .e k,Ai (by omega)];obtain⟨a,v,o,s,y⟩:=hv.get' (i:=k) j;refine⟨a,by simpa using o,p a (A7 o),v,?_,y.mono' hk⟩;simpa using s
def zpc {P:Program}{H:Heap}{l:List AV}{E:Tr AV}{nx:(Operand→Value)→Sem Next}{t:TypeId}
  (d:∀C w ρ,ln C E ρ→∃cs:Array Value,VRs C l cs.toList∧(∀a∈l,a.one=true)∧(nx ρ).run P w=.ok (.value (.pointer (some ⟨w.heap.size,0,none⟩))) (w.alloc (.cells cs t))) :
  jb P E H nx (Qd H l):=by
 unfold Qd;split
 ·rename_i o H' g;obtain⟨h,f,rfl,rfl⟩:=zdj g;refine⟨_,h,rfl,rfl,zmd f,fun C w ρ j=>?_⟩;obtain⟨cs,m,p,q⟩:=d C w ρ j;refine Xj f m p q (fun s id r=>?_);simpa [Iv] using VR.ptr (i:=0) r
 ·exact trivial
def Vk (P:Program)(t:TypeId):Mk P (Gg P (.alloc t)) (fun _=>do pure (.value (←Instr.alloc t true (.tuple #[])))):=by
 intro E H;show jb P E H _ (OpF.run (match K3 P t with
  |some l=>⟨fun _ H=>Qd H l⟩
  |none=>Gc) E H)
 cases a:K3 P t with
 |none=>exact trivial
 |some l =>
  refine zpc (t:=t) (fun C w ρ j=>?_);obtain⟨v,i,d,f,m,o⟩:=ie (w:=w) a;obtain⟨g,h⟩:=R0 (C:=C) f;exact⟨v.cells,g,h,by simp[Instr.alloc,d,newVar,newRow]⟩
def znj {P:Program}{x:Operand}{f:Heap→AV→OR}{nx:(Operand→Value)→Sem Next}(h:∀E H a,(Fq x).run E=some a→jb P E H nx (f H a)):Mk P (Ik x f) nx:=by
 intro E H;show jb P E H nx (Option.rec OR.no (fun a=>f H a) ((Fq x).run E));cases d:(Fq x).run E with
 |none=>exact trivial
 |some a=>exact h _ _ _ d
def zv1 {P:Program}{x y:Operand}{f:Heap→AV→AV→OR}{nx:(Operand→Value)→Sem Next}(h:∀E H a b,(Fq x).run E=some a→(Fq y).run E=some b→jb P E H nx (f H a b)):Mk P (Lp x y f) nx:=by
 intro E H;show jb P E H nx (Option.rec OR.no (fun a=>Option.rec OR.no (fun b=>f H a b) ((Fq y).run E)) ((Fq x).run E));cases d:(Fq x).run E with
 |none=>exact trivial
 |some a =>
  cases g:(Fq y).run E with
  |none=>exact trivial
  |some b=>exact h _ _ _ _ d g
def pt (P:Program)(t:TypeId)(x:Operand):Mk P (Gg P (.box t x)) (fun ρ=>do pure (.value (←Instr.box t (ρ x)))):=by
 refine znj fun E H a d=>?_
 cases f:a.cells with
 |none=>exact trivial
 |some l =>
  refine zpc (t:=t) (fun C w ρ g=>?_);obtain⟨h,j⟩:=(g _ _ d).cells f;exact⟨_,h,j,by simp[Instr.box,newVar,newRow]⟩
def zto {P:Program}{C:CM}{w:World}(t:TypeId){l:List AV}{o len esz:Nat}{cs:Array Value}(_hl:True)(hv:VRs C l cs.toList)(g:∀a∈l,a.one=true){cap:Nat}(p:cap*esz=l.length)(hle:len≤cap)
  {nx:Sem Next} (d:nx.run P w=.ok (.value (.slice (some ⟨w.heap.size,0,none⟩) len cap)) (w.alloc (.cells cs t))):o6 P C w nx (.sl o 0 0 len esz (some cap)) (.cells (Ju l 0 .e) l.length 0 false):=by
 have hlen:l.length=cs.toList.length:=hv.length;have f:l.length=cs.size:=by simpa using hlen
 have hmul:len*esz≤cap*esz:=At _ hle;refine Xj _hl hv g d (fun q id j=>?_);have:=VR.sl (i:=0) (len:=len) (esz:=esz) (room:=some cap) (cap:=cap) j (by dsimp;omega) (by dsimp;omega) hle (fun r m=>by cases m;exact⟨rfl,by dsimp;omega⟩) (fun h=>by cases h);simpa [Iv] using this
def zmn (P:Program)(t:TypeId)(len:Nat)(parts:Array (Nat×Operand)) :
  Mk P (ik P t len parts) (fun ρ=>do pure (.value (←Instr.buildSlice t len (parts.map fun (i,x)=>(i,ρ x))))):=by
 unfold ik;split
 ·rename_i elem hu;split
  ·exact X8 P _
  ·rename_i size h;split
   ·exact X8 P _
   ·rename_i z G;split
    ·rename_i a;obtain⟨I,y⟩:=a;split
     ·exact X8 P _
     ·rename_i V j;intro E H;dsimp only;split
      ·rename_i l J;split
       ·rename_i o H' K;obtain⟨L,A,rfl,rfl⟩:=zdj K;refine⟨_,L,rfl,rfl,zmd A,fun C w ρ M=>?_⟩;obtain⟨v,i,N,O,Q,W⟩:=ie (w:=w) G;obtain⟨m,R⟩:=R0 (C:=C) O;have p:v.cells.size=size:=by
         have d:=m.length;unfold Hk at h;rw[Q] at h;simp at h d;omega
        have S:z.length=size:=by have d:=m.length;simp at d;omega
        have f:VRs C (Lu z len) ((Array.range (len*size)).map fun i=>v.cells[i%v.cells.size]!).toList:=by
         rw[←p,vh];exact tp m len
        obtain⟨vs,B,D,T⟩:=yp j M J f (tz R len);have q:l.length=len*size:=by
         have d:=D.length;have U:=zic B;simp at U d;omega
        refine zto elem A D T q.symm (Am _) ?_;have F:Instr.fill (fun i=>some (i*size,size)) ((Array.range (len*size)).map fun i=>v.cells[i%v.cells.size]!) (parts.map fun (i,x)=>(i,ρ x)).toList=some vs:=by
         rw[Ci];exact B
        have g:¬(len*size>2^24):=by omega
        simp only[Instr.buildSlice,Sem.run_bind,Gn hu,Ku h,Result.andThen_ok,Sem.run_ite,Ab g];by_cases r:len*size=0
        ·rw[Ai r];have s:Instr.fill (fun i=>some (i*size,size)) ((Array.range (len*size)).map fun i=>(#[]:Array Value)[i%(#[]:Array Value).size]!) (parts.map fun (i,x)=>(i,ρ x)).toList=some vs:=by
          rw[←F,r,jy,jy]
         simp only[Sem.run_pure,Result.andThen_ok,s,newRow,Sem.run_bind,run_newObj];rfl
        ·rw[Ab r];simp only[Sem.run_bind,N,Sem.run_pure,Result.andThen_ok,F,newRow,run_newObj];rfl
       ·exact trivial
      ·exact trivial
    ·exact X8 P _
 ·exact X8 P _
def zve (P:Program)(t:TypeId)(l c:Operand):Mk P (gq P t l c) (fun ρ=>do pure (.value (←Instr.makeSlice t (ρ l) (ρ c)))):=by
 unfold gq;split
 ·rename_i elem hu;split
  ·exact X8 P _
  ·rename_i i hi;split
   ·exact X8 P _
   ·rename_i z N;split
    ·rename_i d;obtain⟨F,g⟩:=d;refine zv1 fun E H a b h m=>?_
     split
     ·rename_i x y;split
      ·rename_i p;split
       ·rename_i O;split
        ·rename_i o H' Q;obtain⟨R,G,rfl,rfl⟩:=zdj Q;refine⟨_,R,rfl,rfl,zmd G,fun C w ρ I=>?_⟩;have J:=I _ _ h;have K:=I _ _ m;have f:x≤y:=As p;have q:y≤1048576:=As O;obtain⟨v,j,S,T,L,U⟩:=ie (w:=w) N;obtain⟨M,V⟩:=R0 (C:=C) T;rw[hi] at L;cases L;have r:v.cells.size=i.size:=by have s:=M.length;simp at s;omega
         generalize A:ρ l=pl at J;generalize B:ρ c=pc at K;cases J;cases K;refine zto elem G (cs:=(Array.range (y*i.size)).map fun k=>v.cells[k%v.cells.size]!) (by rw[←r,vh];exact tp M y) (tz V y) (by rw[z5v,U]) f ?_;have s:IntKind.i64.wrap (Int.ofNat x)=Int.ofNat x:=by simp only[IntKind.wrap,IntKind.bits,IntKind.signed];simp;omega
         have W:IntKind.i64.wrap (Int.ofNat y)=Int.ofNat y:=by simp only[IntKind.wrap,IntKind.bits,IntKind.signed];simp;omega
         have e3:i.bytes*y≤65536*1048576:=Ca g q;have X:¬((decide (Int.ofNat y<0) || decide ((i.bytes:Int)*Int.ofNat y>2^48) || decide (Int.ofNat x<0) || decide (Int.ofNat x>Int.ofNat y))=true):=by
          have Y:((i.bytes:Int)*Int.ofNat y)=((i.bytes*y:Nat):Int):=by simp
          rw[Y];simp only[Bm,Ao,not_or];refine⟨⟨⟨by simp,by simp;omega⟩,by simp⟩,by simp;omega⟩
         simp only[Instr.makeSlice,A,B,Sem.run_bind,Gn hu,Yl hi,asInt,asIntOf,Sem.run_pure,Result.andThen_ok,s,W,Sem.run_ite,Ab X,run_askRoom,Ku (show Hk P elem=some i.size from by simp[Hk,hi])];have Z:(Int.ofNat y).toNat=y:=rfl;have e7:(Int.ofNat x).toNat=x:=rfl;rw[Z,e7];by_cases D:y*i.size=0
         ·rw[Ai D];simp only[Sem.run_pure,Result.andThen_ok,newRow,Sem.run_bind,run_newObj];have:((Array.range (y*i.size)).map fun k=>(#[]:Array Value)[k%(#[]:Array Value).size]!)=((Array.range (y*i.size)).map fun k=>v.cells[k%v.cells.size]!):=by rw[D,jy,jy]
          rw[this];rfl
         ·rw[Ab D];simp only[Sem.run_bind,S,Sem.run_pure,Result.andThen_ok,newRow,run_newObj];rfl
        ·exact trivial
       ·exact trivial
      ·exact trivial
     ·exact trivial
    ·exact X8 P _
 ·exact X8 P _
def zl4 {P:Program}{H:Heap}{E:Tr AV}{nx:(Operand→Value)→Sem Next}
  (f:∀(C:CM) w ρ,ln C E ρ→(nx ρ).run P w=.ok (.value (.map (some w.heap.size))) (w.alloc (.map #[] 0))):jb P E H nx (Rq H):=by
 unfold Rq;refine⟨_,trivial,rfl,rfl,fun B C w o g L a=>(by rw[g] at a;cases a),fun C w ρ h=>?_⟩;refine⟨_,0,0,_,f C w ρ h,fun l id hk a=>⟨.map a,fun B j L d=>?_⟩⟩;rw[a] at d;cases d;exact⟨j,#[],Uq _ _,.nil⟩
def W3 (P:Program)(t:TypeId)(r:Option Operand):Mk P (j0 P t r) (fun ρ=>do pure (.value (←Instr.makeMap t (r.map ρ)))):=by
 unfold j0;split
 ·intro E H;exact zl4 (fun C w ρ d=>by simp[Instr.makeMap])
 ·rename_i x;split
  ·rename_i k e hu;refine znj fun E H a f=>?_
   split
   ·refine zl4 (fun C w ρ d=>?_);have:=d _ _ f;generalize g:ρ x=h at this;cases this;simp[Instr.makeMap,Gn hu,g,asInt,asIntOf]
   ·exact trivial
  ·exact X8 P _
def zsr {P:Program}{o:Oper}(h:cls P o.op=.al):Mk P (Gg P o.op) (fun ρ=>execOp ρ o):=by
 generalize ho:o.op=op at h;cases op with
 |alloc t=>exact Mk.congr (fun ρ=>by simp only[execOp,ho]) (Vk P t)
 |box t x=>exact Mk.congr (fun ρ=>by simp[execOp,ho]) (pt P t x)
 |buildSlice t n a=>exact Mk.congr (fun ρ=>by simp[execOp,ho]) (zmn P t n a)
 |makeMap t r=>exact Mk.congr (fun ρ=>by simp[execOp,ho]) (W3 P t r)
 |makeSlice t l c=>exact Mk.congr (fun ρ=>by simp[execOp,ho]) (zve P t l c)
 |slice t _ _ _ _=>simp only[cls] at h;split at h<;>cases h
 |convert s d x=>simp only[cls] at h;split at h<;>first|(cases h;done)|(split at h<;>cases h)
 |call c =>
  simp only[cls,uw] at h;split at h
  ·split at h
   ·split at h<;>cases h
   ·cases h
  all_goals cases h
 |_=>cases h
def CM.lift (C:CM)(n:Nat):CM:=⟨C.f,n⟩
def CM.le_lift {C:CM}{n:Nat}(h:C.nx≤n):C.le (C.lift n):=⟨fun _ _ _ h=>h,h,fun _ v L h=>.inl ⟨v,L,h⟩⟩
inductive Ups:Heap→Heap→Prop where
 |refl (H:Heap):Ups H H
 |push {H H':Heap} {ob:AObj} (hl:True) (hf:zb ob) (h:Ups (H.push ob) H'):Ups H H'
def Ups.next {H H':Heap}(h:Ups H H'):H.next≤H'.next:=by
 induction h with
 |refl=>exact Am _
 |push _ _ _ ih=>exact Bo (Eg _) ih
def Rel.up {w0:World}{C:CM}{H:Heap}{w:World}(h:Rel w0 C H w)(_:True){ob:AObj}(hf:zb ob):Rel w0 (C.lift (H.next+1)) (H.push ob) w:=by
 have hle:C.le (C.lift (H.next+1)):=CM.le_lift (by rw[h.nx];exact Eg _);refine⟨rfl,h.low,fun o v L hL=>?_,h.lt,h.excl,?_,?_⟩
 ·show o<H.next+1;have:=h.fresh o v L hL;omega
 ·intro o ob' ho hg;by_cases e:o=H.next
  ·subst e;rw[Heap.get_push_same] at hg;cases hg;exact hf _ _ _ _ (fun v=>h.next_none v)
  ·have aa:o<H.next:=by have:o<H.next+1:=ho;omega
   rw[Heap.get_push_ne _ _ aa] at hg;exact (h.obj _ _ aa hg).frame hle (fun v L hL=>hL) (fun v L hL=>rfl)
 ·intro o c len ad ro ho hg v L hL;by_cases e:o=H.next
  ·subst e;have:=h.fresh _ _ _ hL;omega
  ·have aa:o<H.next:=by have:o<H.next+1:=ho;omega
   rw[Heap.get_push_ne _ _ aa] at hg;exact h.top _ _ _ _ _ aa hg _ _ hL
def Rel.ups {w0:World}{H H':Heap}{w:World}(hu:Ups H H'):∀{C:CM},Rel w0 C H w→Rel w0 (C.lift H'.next) H' w:=by
 induction hu with
 |refl H=>intro C h;rw[←h.nx];exact h
 |push hl hf _ ih =>
  intro C h;have h1:=h.up hl hf;have h2:=ih h1;exact h2
def zq1 {c c':Tr AV}{len:Nat}(h:zr8 c c' len=true):∀j,j<len→E3 (Fl j) c=E3 (Fl j) c':=by
 unfold zr8 at h;split at h
 ·rename_i l l' o p;obtain⟨z,q⟩:=X0 o;obtain⟨A,r⟩:=X0 p;have he:l=l':=by
   have:∀(x y:List AV),Te (Jr 30) x y=true→x=y:=by
    intro x
    induction x with
    |nil=>intro y a;cases y with
     |nil=>rfl
     |cons _ _=>cases a
    |cons c x s =>
     intro y a;cases y with
     |nil=>cases a
     |cons d y =>
      simp only[Te] at a;split at a
      ·rename_i w;rw[eqAV_spec 30 c d w,s y a]
      ·cases a
   exact this _ _ h
  intro j f;have g:=q j f;have m:=r j f;rw[Bd] at g m;rw[g,m,he]
 ·cases h
def Ie.eqObj {B:Nat}{C:CM}{w:World}{o:Nat}{a b:AObj}(h:Sv.eqObj a b=true)(k:Ie B C w o b):Ie B C w o a:=by
 unfold Sv.eqObj at h;split at h
 ·rename_i c len ag ro c' ad af aa;simp only[Ac] at h;obtain⟨⟨⟨h1,h2⟩,h3⟩,h4⟩:=h;obtain rfl:=Al h1;obtain rfl:=Al h2;obtain rfl:ro=aa:=by simpa using h3
  intro L hL;obtain⟨p1,p2,p3,vs,e,lo,hi,p4,p5,p6,p7⟩:=k L hL;exact⟨p1,p2,p3,vs,e,lo,hi,p4,p5,p6,fun i hi=>by rw[zq1 h4 i hi];exact p7 i hi⟩
 ·obtain rfl:=Al h;exact k
 ·cases h
def zl5 {α:Type}{b:Bool}{x y:α}(a:b=true→x=y)(h:Ql b x y=true):x=y:=by
 unfold Ql at h;split at h
 ·exact a rfl
 ·exact @C8 _ (Classical.propDecidable _) h
def Vs {α:Type}{b:Bool}{x y:α}(h:Ql b x y=true):b=true∨x=y:=by
 unfold Ql at h;split at h
 ·exact .inl rfl
 ·exact .inr (@C8 _ (Classical.propDecidable _) h)
def Ie.same {B:Nat}{C:CM}{w:World}{o:Nat}{a b:AObj}(h:Ql (Sv.eqObj a b) a b=true)(k:Ie B C w o b):Ie B C w o a:=by
 rcases Vs h with h|h
 ·exact k.eqObj h
 ·rw[h];exact k
def Rel.bind {w0:World}{C:CM}{H:Heap}{w:World}(h:Rel w0 C H w){id n sz:Nat}(aj:id<H.next)(hn:∀v,C id v=none){ob:AObj}(hg:H.get id=some ob)(af:Obj)
  (ah:Ie w0.heap.size (C.ext id 0 ⟨w.heap.size,0,n,sz⟩) (w.alloc af) id ob):Rel w0 (C.ext id 0 ⟨w.heap.size,0,n,sz⟩) H (w.alloc af)∧C.keep (C.ext id 0 ⟨w.heap.size,0,n,sz⟩):=by
 have hk:C.keep (C.ext id 0 ⟨w.heap.size,0,n,sz⟩):=fun o' v' L' h'=>by
  by_cases e:o'=id∧v'=0
  ·obtain⟨rfl,rfl⟩:=e;rw[hn] at h';cases h'
  ·rw[CM.ext_ne C _ e];exact h'
 refine⟨⟨by show max C.nx (id+1)=H.next;rw[h.nx];omega,h.low.alloc h.low.size af,?_,?_,?_,?_,?_⟩,hk⟩
 ·intro o v L hL;by_cases e:o=id∧v=0
  ·omega
  ·rw[CM.ext_ne _ _ e] at hL;exact h.fresh _ _ _ hL
 ·intro o v L hL;rw[World.size_alloc];by_cases e:o=id∧v=0
  ·obtain⟨rfl,rfl⟩:=e;rw[CM.ext_same] at hL;cases hL;exact B2 _
  ·rw[CM.ext_ne _ _ e] at hL;have:=h.lt _ _ _ hL;omega
 ·intro o v L o' v' L' hL aa hb hB;by_cases e:o=id∧v=0<;>by_cases e':o'=id∧v'=0
  ·omega
  ·obtain⟨rfl,rfl⟩:=e;rw[CM.ext_same] at hL;cases hL;rw[CM.ext_ne _ _ e'] at aa;have:=h.lt _ _ _ aa;dsimp at hb;omega
  ·obtain⟨rfl,rfl⟩:=e';rw[CM.ext_same] at aa;cases aa;rw[CM.ext_ne _ _ e] at hL;have:=h.lt _ _ _ hL;dsimp at hb;omega
  ·rw[CM.ext_ne _ _ e] at hL;rw[CM.ext_ne _ _ e'] at aa;exact h.excl _ _ _ _ _ _ hL aa hb hB
 ·intro o ob' ho ad;by_cases e:o=id
  ·subst e;rw[hg] at ad;cases ad;exact ah
  ·have ag:=h.obj _ _ ho ad;refine ag.frame' hk (fun v L hL=>?_) (fun v L hL=>z70 _ _ (h.lt _ _ _ hL))
   rwa [CM.ext_ne _ _ (by omega)] at hL
 ·intro o c len ao ro ho ad v L hL;by_cases e:o=id∧v=0
  ·omega
  ·rw[CM.ext_ne _ _ e] at hL;exact h.top _ _ _ _ _ ho ad _ _ hL
end Go.Sv
namespace Go.Sv
section po
variable {P : Program} {n : Nat} {ops : Array Oper} {k : Jh} {L : List DOp} {E0 Ef : Tr AV}
def Pq (L:List DOp)(S:Nat→Prop)(t:Nat):Prop:=∃y∈L,S y.i∧y.o.dst=some t
open Classical in
noncomputable def Yw (L:List DOp)(E0 Ef:Tr AV)(S:Nat→Prop)(t:Nat):Option AV:=if Pq L S t then E3 (Fl t) Ef else E3 (Fl t) E0
def Hf (m:Nat)(j:Nat):Prop:=m.testBit j=true
def Tf (L:List DOp)(E0 Ef:Tr AV)(S:Nat→Prop)(E:Tr AV):Prop:=∀t,t≤Io→E3 (Fl t) E=Yw L E0 Ef S t
def Pg (ops:Array Oper)(L:List DOp)(E0 Ef:Tr AV)(x:DOp)(E:Tr AV):Prop:=∀t∈Nf ops x.o,t≤Io→E3 (Fl t) E=Yw L E0 Ef (Hf x.m) t
def Kg (P:Program)(n:Nat)(ops:Array Oper)(k:Jh)(L:List DOp)(E0 Ef:Tr AV)(x:DOp)(H H':Heap):Prop :=
 ∀E,Pg ops L E0 Ef x E→∃v,(I8 P n ops x.o).run k E H=.ok (Hn x.o.dst v E) H'∧∀d,x.o.dst=some d→E3 (Fl d) Ef=some v∧d<n
def DC (L:List DOp)(S:Nat→Prop):Prop:=∀y∈L,S y.i→∀j,Hf y.m j→S j
structure Fit (P:Program) (ops:Array Oper) (L:List DOp):Prop where
 ok:LOk P ops L
 dst:∀x∈L,∀y∈L,∀d,x.o.dst=some d→y.o.dst=some d→x=y
 look:∀x∈L,∀y∈L,zs6 x y=true
def zrx {x y:DOp}(h:zs6 x y=true){d:Nat}(hd:y.o.dst=some d)(a:x.lm.testBit d=true) :
  (x.i=y.i∧Mv x=false)∨(x.i≠y.i∧(Hf x.m y.i∨(Hf y.m x.i∧Mv x=false))):=by
 unfold zs6 at h;rw[hd] at h;dsimp only at h;rw[a] at h;dsimp only at h;split at h
 ·rename_i e;exact .inl ⟨Al e,by simpa using h⟩
 ·rename_i e;refine .inr ⟨fun q=>?_,?_⟩
  ·rw[q,Bj] at e;cases e
  ·split at h
   ·rename_i q;exact .inl q
   ·split at h
    ·rename_i q;exact .inr ⟨q,by simpa using h⟩
    ·cases h
def W2 (F:Fit P ops L){S:Nat→Prop}(m:DC L S){x:DOp}(l:x∈L)(hm:∀j,Hf x.m j→S j)(a:¬S x.i∨Mv x=true){E:Tr AV}(o:Tf L E0 Ef S E):Pg ops L E0 Ef x E:=by
 intro t p r;rw[o t r];unfold Yw;have:Pq L S t↔Pq L (Hf x.m) t:=by
  constructor
  ·rintro⟨y,d,g,hd⟩;refine⟨y,d,?_,hd⟩;rcases zrx (F.look x l y d) hd (F.ok.lm x l t p) with ⟨e,f⟩|⟨_,h|⟨h,f⟩⟩
   ·rcases a with a|a
    ·rw[e] at a;exact absurd g a
    ·rw[a] at f;cases f
   ·exact h
   ·rcases a with a|a
    ·exact absurd (m y d g _ h) a
    ·rw[a] at f;cases f
  ·rintro⟨y,d,g,hd⟩;exact⟨y,d,hm _ g,hd⟩
 by_cases h:Pq L S t
 ·rw[Ai h,Ai (this.1 h)]
 ·rw[Ab h,Ab (fun q=>h (this.2 q))]
def Pg.same {x:DOp}{E E':Tr AV}(h:Pg ops L E0 Ef x E)(h':Pg ops L E0 Ef x E'):J9 (Nf ops x.o) E' E:=fun t ht hl=>by rw[h t ht hl,h' t ht hl]
def Yb (d:Tmp)(v:AV)(E:Tr AV):E3 (Fl d) (Hn (some d) v E)=some v:=zb7 _ _ _
def z9j {x:DOp}{E E1:Tr AV}{H H1:Heap}(h:(I8 P n ops x.o).run k E H=.ok E1 H1)(g:Pg ops L E0 Ef x E)
  (j:∀d,x.o.dst=some d→d<n→E3 (Fl d) Ef=E3 (Fl d) E1):Kg P n ops k L E0 Ef x H H1:=by
 obtain⟨v,l,f,m⟩:=z5q h;intro o a;refine⟨v,m o (g.same a),fun d hd=>⟨?_,f d hd⟩⟩;rw[j d hd (f d hd),l,hd,Yb]
def Tf.put (F:Fit P ops L)(_hn:n≤Io){S:Nat→Prop}{E:Tr AV}(h:Tf L E0 Ef S E){x:DOp}(hx:x∈L){v:AV}(hv:∀d,x.o.dst=some d→E3 (Fl d) Ef=some v∧d<n) :
  Tf L E0 Ef (fun j=>S j∨j=x.i) (Hn x.o.dst v E):=by
 intro t ht;have key:Pq L (fun j=>S j∨j=x.i) t↔(Pq L S t∨x.o.dst=some t):=by
  constructor
  ·rintro⟨y,hy,hs|hs,hd⟩
   ·exact .inl ⟨y,hy,hs,hd⟩
   ·rw[F.ok.inj y hy x hx hs] at hd;exact .inr hd
  ·rintro (⟨y,hy,hs,hd⟩|hd)
   ·exact⟨y,hy,.inl hs,hd⟩
   ·exact⟨x,hx,.inr rfl,hd⟩
 unfold Yw;cases hd:x.o.dst with
 |none =>
  rw[hd] at key;have:Pq L (fun j=>S j∨j=x.i) t↔Pq L S t:=by rw[key];simp
  rw[show Hn none v E=E from rfl,h t ht];unfold Yw;by_cases q:Pq L S t
  ·rw[Ai q,Ai (this.2 q)]
  ·rw[Ab q,Ab (fun z=>q (this.1 z))]
 |some d =>
  rw[hd] at key;obtain⟨aa,ad⟩:=hv d hd;rw[show Hn (some d) v E=Hc v (Fl d) E from rfl,zil];by_cases e:t=d
  ·subst e;rw[Ai rfl,Ai (key.2 (.inr rfl)),aa]
  ·rw[Ab e,h t ht];unfold Yw;have:Pq L (fun j=>S j∨j=x.i) t↔Pq L S t:=by
    rw[key];constructor
    ·rintro (q|q)
     ·exact q
     ·exact absurd (Option.some.inj q).symm e
    ·exact .inl
   by_cases q:Pq L S t
   ·rw[Ai q,Ai (this.2 q)]
   ·rw[Ab q,Ab (fun z=>q (this.1 z))]
def zdz {r:OE}{f:Tr AV→Heap→OE}{a:Tr AV}{H':Heap}(h:(OE.rec .no f r:OE)=.ok a H'):∃E1 H1,r=.ok E1 H1∧f E1 H1=.ok a H':=by
 cases r with
 |no=>cases h
 |ok E1 H1=>exact⟨E1,H1,rfl,h⟩
def z9s {b:Bool}{r:OE}{a:Tr AV}{H':Heap}(h:(Bool.rec .no r b:OE)=.ok a H'):b=true∧r=.ok a H':=by
 cases b with
 |false=>cases h
 |true=>exact⟨rfl,h⟩
def zjd {x:DOp}{l pend:List DOp}{E j:Tr AV}{H H':Heap}(h:(Nh P n ops (x::l) pend).run k E H=.ok j H') :
  ∃E1 H1 pend',(I8 P n ops x.o).run k E H=.ok E1 H1∧(Nh P n ops l pend').run k E1 H1=.ok j H' ∧
   ((x.c=.quiet∧pend'=pend)∨(x.c=.rd∧pend'=x::pend)∨(x.c=.al∧pend'=x::pend∧(fq P ops (x::pend)).run E1 H1=true) ∨
    (x.c=.ch∧pend'=Ge (fun y=>!(Nat.testBit x.m y.i)) pend∧(fq P ops pend').run E1 H1=true)):=by
 simp only[Nh] at h;split at h
 ·rename_i d;obtain⟨E1,H1,f,a⟩:=zdz h;exact⟨E1,H1,pend,f,a,.inl ⟨d,rfl⟩⟩
 ·rename_i d;obtain⟨E1,H1,f,a⟩:=zdz h;exact⟨E1,H1,x::pend,f,a,.inr (.inl ⟨d,rfl⟩)⟩
 ·rename_i d;obtain⟨E1,H1,f,a⟩:=zdz h;obtain⟨g,a⟩:=z9s a;exact⟨E1,H1,x::pend,f,a,.inr (.inr (.inl ⟨d,rfl,g⟩))⟩
 ·rename_i d;obtain⟨E1,H1,f,a⟩:=zdz h;obtain⟨g,a⟩:=z9s a;exact⟨E1,H1,_,f,a,.inr (.inr (.inr ⟨d,rfl,g⟩))⟩
def zg4 (g:n≤Io){d:Nat}(hd:d≤Io):∀{l pend:List DOp} {E a:Tr AV} {H H':Heap},(Nh P n ops l pend).run k E H=.ok a H'→(∀y∈l,y.o.dst≠some d)→E3 (Fl d) a=E3 (Fl d) E
 |[],_,_,_,_,_,h,_=>by cases h;rfl
 |x::l,pend,E,a,H,H',h,f=>by
  obtain⟨E1,H1,pend',j,m,_⟩:=zjd h;rw[zg4 g hd m (fun y q=>f y (by simp[q]))];obtain⟨v,o,r,_⟩:=z5q j;rw[o];cases p:x.o.dst with
  |none=>rfl
  |some e =>
   rw[show Hn (some e) v E=Hc v (Fl e) E from rfl,m9];intro q;subst q;exact f x (by simp) p
def rechecks_mem:∀{l:List DOp} {E:Tr AV} {H:Heap},(fq P ops l).run E H=true→∀x∈l,(Sr P ops x).run E H=true
 |[],_,_,_,x,a=>by cases a
 |y::l,E,H,h,x,a=>by
  simp only[fq] at h;split at h
  ·rename_i d;rcases An.1 a with rfl|a
   ·exact d
   ·exact rechecks_mem h x a
  ·cases h
def zmw (F:Fit P ops L){x:DOp}(w:x∈L)(p:x.c=.rd){E:Tr AV}{H H1:Heap}(q:Pg ops L E0 Ef x E)(y:Kg P n ops k L E0 Ef x H H)(z:∀d,x.o.dst=some d→E3 (Fl d) Ef=E3 (Fl d) E)
  (h:(Sr P ops x).run E H1=true):Kg P n ops k L E0 Ef x H1 H1:=by
 have m:Q0 (Gg P x.o.op):=wi.2 (by rw[←F.ok.cl x w];exact p);obtain⟨v,f,A⟩:=y E q;unfold Sr at h;cases hd:x.o.dst with
 |none=>rw[hd] at h;cases h
 |some d =>
  rw[hd] at h f;dsimp only at h;obtain⟨hv,o⟩:=A d hd;have B:Jb n (some d)=some ⟨fun a E=>Hc a (Fl d) E⟩:=by unfold Jb;dsimp only;rw[Ai o]
  have g:(I8 P n ops x.o).run k E H1=.ok (Hn (some d) v E) H1:=by
   unfold I8 at f ⊢;rw[hd,B] at f ⊢;dsimp only at f ⊢;cases r:(Kz ops x.o).run E with
   |false =>
    rw[r] at f;dsimp only at f ⊢;injection f with f
    rw[f]
   |true =>
    rw[r] at h f;dsimp only at h f ⊢;rw[←z d hd,hv] at h;dsimp only at h;have s:=m E H1;cases l:(Gg P x.o.op).run E H1 with
    |no=>rw[l] at h;cases h
    |call t args=>rw[l] at h;cases h
    |val C D =>
     rw[l,p] at h;rw[l] at s;dsimp only at h ⊢;cases s;rw[zl5 (eqAV_spec _ _ _) h];rfl
  refine z9j g q (fun G j _=>?_);rw[hd] at j;cases j;rw[Yb,hv]
def Jm (P:Program)(n:Nat)(ops:Array Oper)(k:Jh)(L:List DOp)(E0 Ef:Tr AV)(x:DOp):Prop:=∀a,Kg P n ops k L E0 Ef x a a
noncomputable def Iz (Ef:Tr AV)(x:DOp):Nat:=((x.o.dst.bind fun d=>E3 (Fl d) Ef).bind Gb).getD 0
def Us (P:Program)(n:Nat)(ops:Array Oper)(L:List DOp)(E0 Ef:Tr AV)(x:DOp)(f:Heap):Prop :=
 ∃d g,x.o.dst=some d∧d<n∧E3 (Fl d) Ef=some g∧Gb g=some (Iz Ef x)∧∀E,Pg ops L E0 Ef x E→(Kz ops x.o).run E=true ∧
  ∃h H',(Gg P x.o.op).run E f=.val h H'∧g=Iv (Iz Ef x) h∧∃a b,f.get (Iz Ef x)=some a∧H'.get f.next=some b∧Ql (eqObj a b) a b=true
def z89 {x:DOp}{E a:Tr AV}{H:Heap}(d:J9 (Nf ops x.o) a E):(Gg P x.o.op).run a H=(Gg P x.o.op).run E H :=
 zjc (J9.opds (fun t f=>d t (by simp[Nf,f])))
def zw6 {x:DOp}(p:x.c=.al){E:Tr AV}{H1:Heap}(w:Pg ops L E0 Ef x E)(y:(Kz ops x.o).run E=true){d:Nat}(hd:x.o.dst=some d)(q:d<n){j:AV}(hv:E3 (Fl d) Ef=some j)
  (A:E3 (Fl d) E=some j) (h:(Sr P ops x).run E H1=true):Us P n ops L E0 Ef x H1:=by
 unfold Sr at h;rw[hd] at h;dsimp only at h;rw[y,A] at h;dsimp only at h;cases m:(Gg P x.o.op).run E H1 with
 |no=>rw[m] at h;cases h
 |call t args=>rw[m] at h;cases h
 |val r z =>
  rw[m,p] at h;dsimp only at h;unfold zvm at h;cases g:Gb j with
  |none=>rw[g] at h;cases h
  |some id =>
   rw[g] at h;dsimp only at h;have f:Iz Ef x=id:=by unfold Iz;rw[hd];simp[hv,g]
   cases he:Ql (Jr 30 j (Iv id r)) j (Iv id r) with
   |false=>rw[he] at h;cases h
   |true =>
    rw[he] at h;dsimp only at h;cases o:H1.get id with
    |none=>rw[o] at h;cases h
    |some a =>
     cases s:z.get H1.next with
     |none=>rw[o,s] at h;cases h
     |some b =>
      rw[o,s] at h;refine⟨d,j,hd,q,hv,by rw[f,g],fun B l=>⟨by rw[iq (w.same l)];exact y,r,z,by rw[z89 (w.same l)];exact m,by rw[f];exact zl5 (eqAV_spec _ _ _) he,a,b,by rw[f];exact o,s,h⟩⟩
def W9 (F:Fit P ops L){x:DOp}(B:x∈L)(g:x.c=.al){E E1:Tr AV}{H H1:Heap}(h:(I8 P n ops x.o).run k E H=.ok E1 H1)(z:Pg ops L E0 Ef x E)(j:Pg ops L E0 Ef x E1)
  (A:∀d,x.o.dst=some d→d<n→E3 (Fl d) Ef=E3 (Fl d) E1) (a:(Sr P ops x).run E1 H1=true) :
  (Jm P n ops k L E0 Ef x∧H1=H)∨(∃ob,True∧H1=H.push ob∧zb ob∧Iz Ef x=H.next∧Us P n ops L E0 Ef x H1):=by
 have f:=zsr (P:=P) (o:=x.o) (by rw[←F.ok.cl x B];exact g) E H;have I:=h;unfold I8 at h;cases r:Jb n x.o.dst with
 |none=>rw[r] at h;cases h
 |some p =>
  rw[r] at h;dsimp only at h;obtain⟨l,w⟩:=zan r;cases s:(Kz ops x.o).run E with
  |false =>
   rw[s] at h;cases h;refine .inl ⟨fun C=>?_,rfl⟩;refine z9j (E1:=p.run J3 E) ?_ z A;unfold I8;rw[r];dsimp only;rw[s]
  |true =>
   rw[s] at h;dsimp only at h;cases y:(Gg P x.o.op).run E H with
   |no=>rw[y] at h;cases h
   |call t args=>rw[y] at f;exact f.elim
   |val v C =>
    rw[y] at h f;cases h;obtain⟨ob,m1,rfl,D,G,_⟩:=f;cases hd:x.o.dst with
    |none =>
     unfold Sr at a;rw[hd] at a;cases a
    |some d =>
     have m:=w d hd;have q:E3 (Fl d) (p.run v E)=some v:=by rw[l,hd,Yb]
     have hv:E3 (Fl d) Ef=some v:=by rw[A d hd m,q]
     refine .inr ⟨ob,m1,rfl,G,?_,zw6 g j (by rw[iq (z.same j)];exact s) hd m hv q a⟩;unfold Iz;rw[hd];simp[hv,D]
def zni (P:Program)(n:Nat)(ops:Array Oper)(k:Jh)(L:List DOp)(E0 Ef:Tr AV)(x:DOp)(H:Heap):Prop :=
 (x.c=.rd∧Kg P n ops k L E0 Ef x H H)∨(x.c=.al∧(Jm P n ops k L E0 Ef x∨Us P n ops L E0 Ef x H))
def zom (F:Fit P ops L){x:DOp}(o:x∈L){E:Tr AV}{H H1:Heap}(g:Pg ops L E0 Ef x E)(a:zni P n ops k L E0 Ef x H)(j:∀d,x.o.dst=some d→E3 (Fl d) Ef=E3 (Fl d) E)
  (h:(Sr P ops x).run E H1=true):zni P n ops k L E0 Ef x H1:=by
 rcases a with ⟨f,a⟩|⟨f,a|a⟩
 ·exact .inl ⟨f,zmw F o f g a j h⟩
 ·exact .inr ⟨f,.inl a⟩
 ·obtain⟨d,r,l,p,m,_,q⟩:=a;exact .inr ⟨f,.inr (zw6 f g (q E g).1 l p m (by rw[←j d l];exact m) h)⟩
def AlPh (P:Program)(n:Nat)(ops:Array Oper)(L:List DOp)(E0 Ef:Tr AV)(ch:List DOp)(d a:Nat→Heap)(x:DOp)(r:Nat):Prop :=
 r≤ch.length∧(∀q c,q<r→ch[q]?=some c→Hf x.m c.i)∧(d r).next≤Iz Ef x∧Iz Ef x<(a r).next ∧
  ∀p,r≤p→p≤ch.length→(∀q c,r≤q→q<p→ch[q]?=some c→¬Hf c.m x.i)→Us P n ops L E0 Ef x (a p)
def po (F:Fit P ops L)(hn:n≤Io):∀(l pend:List DOp) (seen K s:Nat) (E:Tr AV) (H H':Heap),(Nh P n ops l pend).run k E H=.ok Ef H'→Hv l seen K=some s→(∀x∈l,x∈L) →
  (∀x∈pend,x∈L∧Mv x=true∧Hf seen x.i∧(∀d,x.o.dst=some d→d<n)∧zni P n ops k L E0 Ef x H)→Tf L E0 Ef (Hf seen) E→DC L (Hf seen) →
  Tf L E0 Ef (Hf s) Ef∧DC L (Hf s) ∧
  ∃(Hb T:Nat→Heap) (U:Nat→Nat),Hb 0=H∧T (Ge Fe l).length=H'∧(∀p,p≤(Ge Fe l).length→Ups (Hb p) (T p)) ∧
   (∀q c,(Ge Fe l)[q]?=some c→Kg P n ops k L E0 Ef c (T q) (Hb (q+1))) ∧
   (∀x∈l,x.c=.rd→∃r,r≤(Ge Fe l).length∧(∀q c,q<r→(Ge Fe l)[q]?=some c→Hf x.m c.i)∧∀p,r≤p→p≤(Ge Fe l).length→(∀q c,r≤q→q<p→(Ge Fe l)[q]?=some c→¬Hf c.m x.i)→Kg P n ops k L E0 Ef x (T p) (T p)) ∧
   (∀x∈l,x.c=.quiet→∀H2,Kg P n ops k L E0 Ef x H2 H2) ∧
   (∀x∈l,x.c=.al→Jm P n ops k L E0 Ef x∨AlPh P n ops L E0 Ef (Ge Fe l) Hb T x (U x.i)) ∧
   (∀x∈l,∀y∈l,x.c=.al→y.c=.al→¬Jm P n ops k L E0 Ef x→¬Jm P n ops k L E0 Ef y→U x.i=U y.i→Iz Ef x=Iz Ef y→x=y) ∧
   (∀x∈pend,∀p,p≤(Ge Fe l).length→(∀q c,q<p→(Ge Fe l)[q]?=some c→¬Hf c.m x.i)→zni P n ops k L E0 Ef x (T p))
 |[],pend,seen,K,s,E,H,H',h,ht,hl,hp,hE,hD=>by
  cases h;simp only[Hv,Option.some.injEq] at ht;subst ht;refine⟨hE,hD,fun _=>H,fun _=>H,fun _=>0,rfl,rfl,fun _ _=>.refl _,fun q c O=>(by cases O),fun x J=>(by cases J),fun x J=>(by cases J),fun x J=>(by cases J),fun x J=>(by cases J),fun x J p _ _=>(hp x J).2.2.2.2⟩
 |x::l,pend,seen,K,s,E,H,H',h,ht,hl,hp,hE,hD=>by
  obtain⟨E1,H1,pend',h1,h2,h3⟩:=zjd h;obtain⟨t1,t2,t3⟩:=u7 ht;have J:x∈L:=hl x (by simp);have aD:Pg ops L E0 Ef x E:=W2 F hD J t1 (.inl (by unfold Hf;rw[t2];simp)) hE;have ax:∀y∈l,y.i≠x.i:=by
   have key:∀ay,Hv l (Nat.lor (2^x.i) seen) ay=some s→∀y∈l,y.i≠x.i:=fun ay h' y g e=>by
    have:=topo_new h' y g;rw[Td,b9,e] at this;simp at this
   rcases t3 with ⟨_,h3⟩|⟨_,_,h3⟩|⟨_,_,h3⟩<;>exact key _ h3
  obtain⟨v,s1,s2,s3⟩:=z5q h1;have W:∀d,x.o.dst=some d→d<n→E3 (Fl d) Ef=E3 (Fl d) E1:=fun d hd aJ =>
   zg4 hn (Bo (Ek aJ) hn) h2 (fun y g e=>ax y g (by rw[F.dst y (hl y (by simp[g])) x J d e hd]))
  have aa:Kg P n ops k L E0 Ef x H H1:=z9j h1 aD W;have hS:(Hf (Nat.lor (2^x.i) seen))=fun j=>Hf seen j∨j=x.i:=by
   funext j
   unfold Hf;rw[Td,b9];simp only[Bm,Ao,eq_iff_iff];constructor
   ·rintro (e|e)
    ·exact .inr e.symm
    ·exact .inl e
   ·rintro (e|e)
    ·exact .inr e
    ·exact .inl e.symm
  have Y:Tf L E0 Ef (Hf (Nat.lor (2^x.i) seen)) E1:=by
   rw[hS,s1];refine hE.put F hn J (fun d hd=>⟨?_,s2 d hd⟩);rw[W d hd (s2 d hd),s1,hd,Yb]
  have Z:DC L (Hf (Nat.lor (2^x.i) seen)):=by
   rw[hS];rintro y g (hs|hs) j hj
   ·exact .inl (hD y g hs j hj)
   ·rw[F.ok.inj y g x J hs] at hj;exact .inl (t1 j hj)
  have ap:∀y∈l,y∈L:=fun y g=>hl y (by simp[g])
  have M:Hf (Nat.lor (2^x.i) seen) x.i:=by rw[hS];exact .inr rfl
  have w:∀j,Hf seen j→Hf (Nat.lor (2^x.i) seen) j:=fun j hj=>by rw[hS];exact .inl hj
  have N:∀y,y∈L→Mv y=true→Hf (Nat.lor (2^x.i) seen) y.i→Pg ops L E0 Ef y E1:=fun y a b c=>W2 F Z a (fun j hj=>Z y a c j hj) (.inr b) Y
  have az:∀y,y∈L→Hf (Nat.lor (2^x.i) seen) y.i→(∀d,y.o.dst=some d→d<n)→∀d,y.o.dst=some d→E3 (Fl d) Ef=E3 (Fl d) E1:=fun y a c hd e he=>by
   rw[Y e (Bo (Ek (hd e he)) hn)];unfold Yw;rw[Ai ⟨y,a,c,he⟩]
  rcases h3 with ⟨m,rfl⟩|⟨m,rfl⟩|⟨m,rfl,aq⟩|⟨m,aF,aq⟩
  ·
   have R:Hv l (Nat.lor (2^x.i) seen) K=some s:=by
    rcases t3 with ⟨_,t3⟩|⟨e,_⟩|⟨e,_⟩
    ·exact t3
    ·rw[m] at e;rcases e with e|e<;>cases e
    ·rw[m] at e;cases e
   have O:Lv (Gg P x.o.op):=wi.1 (by rw[←F.ok.cl x J];exact m);have hH:H1=H:=z5s O.reads h1;subst hH;have hf:Ge Fe (x::l)=Ge Fe l:=by simp only[Ge];unfold Fe;rw[m]
   obtain⟨r0,V,Hb,T,U,r1,r2,ru,r3,r4,r5,ra,ri,r6⟩:=po F hn l pend' _ K s E1 H1 H' h2 R ap (fun y g=>let ⟨a,b,c,d⟩:=hp y g;⟨a,b,w _ c,d⟩) Y Z;rw[hf];refine⟨r0,V,Hb,T,U,r1,r2,ru,r3,fun y g f=>?_,fun y g f H2=>?_,fun y g f=>?_,fun y g z X f G=>?_,r6⟩
   ·rcases An.1 g with rfl|g
    ·rw[m] at f;cases f
    ·exact r4 y g f
   ·rcases An.1 g with rfl|g
    ·exact z9j (zjo O h1 H2) aD W
    ·exact r5 y g f H2
   ·rcases An.1 g with rfl|g
    ·rw[m] at f;cases f
    ·exact ra y g f
   ·rcases An.1 g with rfl|g
    ·rw[m] at f;cases f
    ·rcases An.1 X with rfl|X
     ·rw[m] at G;cases G
     ·exact ri y g z X f G
  ·
   have R:Hv l (Nat.lor (2^x.i) seen) K=some s:=by
    rcases t3 with ⟨e,_⟩|⟨_,_,t3⟩|⟨e,_⟩
    ·rw[m] at e;cases e
    ·exact t3
    ·rw[m] at e;cases e
   have O:Q0 (Gg P x.o.op):=wi.2 (by rw[←F.ok.cl x J];exact m);have hH:H1=H:=z5s O h1;subst hH;have hf:Ge Fe (x::l)=Ge Fe l:=by simp only[Ge];unfold Fe;rw[m]
   obtain⟨r0,V,Hb,T,U,r1,r2,ru,r3,r4,r5,ra,ri,r6⟩:=po F hn l (x::pend) _ K s E1 H1 H' h2 R ap (fun y g=>by
    rcases An.1 g with rfl|g
    ·exact⟨J,by unfold Mv;rw[m],M,s2,.inl ⟨m,aa⟩⟩
    ·obtain⟨a,b,c,d⟩:=hp y g;exact⟨a,b,w _ c,d⟩) Y Z
   rw[hf];refine⟨r0,V,Hb,T,U,r1,r2,ru,r3,fun y g f=>?_,fun y g f H2=>?_,fun y g f=>?_,fun y g z X f G=>?_,fun y g=>r6 y (by simp[g])⟩
   ·rcases An.1 g with rfl|g
    ·refine⟨0,Dd _,fun q c O=>absurd O (Ei q),fun p _ C I=>?_⟩;rcases r6 y (by simp) p C (fun q c O=>I q c (Dd q) O) with ⟨_,h⟩|⟨h,_⟩
     ·exact h
     ·rw[m] at h;cases h
    ·exact r4 y g f
   ·rcases An.1 g with rfl|g
    ·rw[m] at f;cases f
    ·exact r5 y g f H2
   ·rcases An.1 g with rfl|g
    ·rw[m] at f;cases f
    ·exact ra y g f
   ·rcases An.1 g with rfl|g
    ·rw[m] at f;cases f
    ·rcases An.1 X with rfl|X
     ·rw[m] at G;cases G
     ·exact ri y g z X f G
  ·
   have R:Hv l (Nat.lor (2^x.i) seen) K=some s:=by
    rcases t3 with ⟨e,_⟩|⟨_,_,t3⟩|⟨e,_⟩
    ·rw[m] at e;cases e
    ·exact t3
    ·rw[m] at e;cases e
   have ad:Mv x=true:=by unfold Mv;rw[m]
   have hf:Ge Fe (x::l)=Ge Fe l:=by simp only[Ge];unfold Fe;rw[m]
   have af:=W9 F J m h1 aD (N x J ad M) W (rechecks_mem aq x (by simp));have aK:zni P n ops k L E0 Ef x H1:=by
    rcases af with ⟨h,_⟩|⟨_,_,_,_,_,h⟩
    ·exact .inr ⟨m,.inl h⟩
    ·exact .inr ⟨m,.inr h⟩
   obtain⟨r0,V,Hb,T,U,r1,r2,ru,r3,r4,r5,ra,ri,r6⟩:=po F hn l (x::pend) _ K s E1 H1 H' h2 R ap (fun y g=>by
    rcases An.1 g with rfl|aL
    ·exact⟨J,ad,M,s2,aK⟩
    ·obtain⟨a,b,c,d,e⟩:=hp y aL;exact⟨a,b,w _ c,d,zom F a (N y a b (w _ c)) e (az y a (w _ c) d) (rechecks_mem aq y g)⟩) Y Z
   rw[hf];have aA:Ups H H1:=by
    rcases af with ⟨_,rfl⟩|⟨ob,q1,rfl,q3,_⟩
    ·exact .refl _
    ·exact .push q1 q3 (.refl _)
   have ar:Ups H1 (T 0):=by rw[←r1];exact ru 0 (Dd _)
   have aM:∀{A B D:Heap},Ups A B→Ups B D→Ups A D:=fun {A B D} h1=>by
    induction h1 with
    |refl=>exact id
    |push a b _ ih=>exact fun h=>.push a b (ih h)
   have S:∀y∈l,(if y.i=x.i then 0 else U y.i)=U y.i:=fun y g=>Ab (ax y g)
   refine⟨r0,V,fun p=>match p with
    |0=>H
    |p+1=>Hb (p+1),T,fun i=>if i=x.i then 0 else U i,rfl,r2,fun p C=>?_,r3,fun y g f=>?_,fun y g f H2=>?_,fun y g f=>?_,fun y g z X f G ag ah Q aj=>?_,fun y g p C I=>?_⟩
   ·cases p with
    |zero=>exact aM aA ar
    |succ p=>exact ru (p+1) C
   ·rcases An.1 g with rfl|g
    ·rw[m] at f;cases f
    ·exact r4 y g f
   ·rcases An.1 g with rfl|g
    ·rw[m] at f;cases f
    ·exact r5 y g f H2
   ·rcases An.1 g with rfl|g
    ·rcases af with ⟨h,_⟩|⟨ob,q1,q2,q3,q4,q5⟩
     ·exact .inl h
     ·refine .inr ?_;dsimp only;rw[Ai rfl];refine⟨Dd _,fun q c O=>absurd O (Ei q),Di q4.symm,?_,fun p _ C I=>?_⟩
      ·have:=ar.next;rw[q2] at this;rw[q4];exact Bg (B2 _) this
      ·rcases r6 y (by simp) p C (fun q c O=>I q c (Dd q) O) with ⟨h,_⟩|⟨_,h|h⟩
       ·rw[m] at h;cases h
       ·obtain⟨d,v0,g1,g2,g3,g4,g5⟩:=q5;exfalso;obtain⟨w1,w2,_⟩:=h H1 E1 (N y J ad M);obtain⟨g6,_⟩:=g5 E1 (N y J ad M);have aG:=zsr (P:=P) (o:=y.o) (by rw[←F.ok.cl y J];exact m) E1 H1;obtain⟨_,v',aQ,g7,_⟩:=g5 E1 (N y J ad M);rw[g7] at aG;obtain⟨ob',m1,m2,_⟩:=aG;unfold I8 at w2;have C:Jb n y.o.dst=some ⟨fun a E=>Hc a (Fl d) E⟩:=by rw[g1];unfold Jb;dsimp only;rw[Ai g2]
        rw[C] at w2;dsimp only at w2;rw[g6,g7] at w2;dsimp only at w2;injection w2 with _ w2
        rw[m2] at w2;have:=congrArg Heap.next w2;simp[Heap.push] at this
       ·exact h
    ·dsimp only;rw[S y g];refine (ra y g f).imp id fun ⟨a1,a2,a3,a4,a5⟩=>⟨a1,a2,?_,a4,a5⟩
     generalize U y.i=r at a3;cases r with
     |zero =>
      rw[r1] at a3;exact Bo aA.next a3
     |succ r=>exact a3
   ·dsimp only at Q;have aB:∀u∈l,u.c=.al→¬Jm P n ops k L E0 Ef u→U u.i=0→∀ob,H1=H.push ob→Iz Ef u=H.next→False:=fun u hu aN aO ar ob he aH=>by
     rcases ra u hu aN with h|⟨_,_,a3,_⟩
     ·exact aO h
     ·rw[ar,r1,he,aH] at a3;exact absurd a3 (Nat.not_succ_le_self _)
    rcases An.1 g with ey|aw
    ·rcases An.1 X with ez|ao
     ·rw[ey,ez]
     ·subst ey;rw[Ai rfl,S z ao] at Q;rcases af with ⟨h,_⟩|⟨ob,q1,q2,q3,q4,q5⟩
      ·exact absurd h ag
      ·exact (aB z ao G ah Q.symm ob q2 (by rw[←aj,q4])).elim
    ·rcases An.1 X with ez|ao
     ·subst ez;rw[Ai rfl,S y aw] at Q;rcases af with ⟨h,_⟩|⟨ob,q1,q2,q3,q4,q5⟩
      ·exact absurd h ah
      ·exact (aB y aw f ag Q ob q2 (by rw[aj,q4])).elim
     ·rw[S y aw,S z ao] at Q;exact ri y aw z ao f G ag ah Q aj
   ·exact r6 y (by simp[g]) p C I
  ·
   obtain⟨tc,R⟩:(∀j,K.testBit j=true→x.m.testBit j=true)∧Hv l (Nat.lor (2^x.i) seen) (Nat.lor (2^x.i) K)=some s:=by
    rcases t3 with ⟨e,_⟩|⟨e,_⟩|⟨_,t3⟩
    ·rw[m] at e;cases e
    ·rw[m] at e;rcases e with e|e<;>cases e
    ·exact t3
   have hf:Ge Fe (x::l)=x::Ge Fe l:=by simp only[Ge];unfold Fe;rw[m]
   have aP:∀y∈pend',y∈pend∧¬Hf x.m y.i:=fun y g=>by
    rw[aF] at g;obtain⟨a,b⟩:=Ss.1 g;exact⟨a,by unfold Hf;simpa using b⟩
   obtain⟨r0,V,Hb,T,U,r1,r2,ru,r3,r4,r5,ra,ri,r6⟩:=po F hn l pend' _ _ s E1 H1 H' h2 R ap (fun y g=>by
    obtain⟨a,b,c,d,e⟩:=hp y (aP y g).1;exact⟨a,b,w _ c,d,zom F a (N y a b (w _ c)) e (az y a (w _ c) d) (rechecks_mem aq y g)⟩) Y Z
   rw[hf];have aC:∀y∈l,y.c≠.quiet→∀r,(∀q c,q<r→(Ge Fe l)[q]?=some c→Hf y.m c.i)→∀q c,q<r+1→(x::Ge Fe l)[q]?=some c→Hf y.m c.i:=fun y g f r u1 q c O aE=>by
    cases q with
    |zero =>
     simp only[A6,Option.some.injEq] at aE;subst aE;refine topo_chs R y g f _ ?_;rw[Td,b9];simp
    |succ q=>exact u1 q c (by omega) (by simpa using aE)
   refine⟨r0,V,fun q=>match q with
    |0=>H
    |q+1=>Hb q,fun q=>match q with
    |0=>H
    |q+1=>T q,fun i=>U i+1,rfl,r2,fun p C=>?_,fun q c O=>?_,fun y g f=>?_,fun y g f H2=>?_,fun y g f=>?_,fun y g z X f G ag ah Q aj=>?_,fun y g p C I=>?_⟩
   ·cases p with
    |zero=>exact .refl _
    |succ p=>simp only[Ar] at C;exact ru p (by omega)
   ·cases q with
    |zero =>
     simp only[A6,Option.some.injEq] at O;subst O;dsimp only;rw[r1];exact aa
    |succ q=>exact r3 q c (by simpa using O)
   ·rcases An.1 g with rfl|g
    ·rw[m] at f;cases f
    ·obtain⟨r,u0,u1,u2⟩:=r4 y g f;refine⟨r+1,by simp only[Ar];omega,aC y g (by rw[f];exact fun e=>by cases e) r u1,fun p hr C I=>?_⟩;cases p with
     |zero=>omega
     |succ p =>
      simp only[Ar] at C;exact u2 p (by omega) (by omega) (fun q c h5 h6 h7=>I (q+1) c (by omega) (by omega) (by simpa using h7))
   ·rcases An.1 g with rfl|g
    ·rw[m] at f;cases f
    ·exact r5 y g f H2
   ·rcases An.1 g with rfl|g
    ·rw[m] at f;cases f
    ·refine (ra y g f).imp id fun ⟨a1,a2,a3,a4,a5⟩=>⟨by simp only[Ar];show U y.i+1≤_;omega,aC y g (by rw[f];exact fun e=>by cases e) _ a2,a3,a4,fun p hr C I=>?_⟩
     dsimp only at hr I;cases p with
     |zero=>omega
     |succ p =>
      simp only[Ar] at C;exact a5 p (by omega) (by omega) (fun q c h5 h6 h7=>I (q+1) c (by omega) (by omega) (by simpa using h7))
   ·rcases An.1 g with rfl|g
    ·rw[m] at f;cases f
    ·rcases An.1 X with rfl|X
     ·rw[m] at G;cases G
     ·exact ri y g z X f G ag ah (Nat.succ.inj Q) aj
   ·cases p with
    |zero=>exact (hp y g).2.2.2.2
    |succ p =>
     simp only[Ar] at C;have h0:=I 0 x (by omega) (by simp);refine r6 y ?_ p (by omega) (fun q c h6 h7=>I (q+1) c (by omega) (by simpa using h7));rw[aF];refine Ss.2 ⟨g,?_⟩;unfold Hf at h0;simpa using h0
def chain_order:∀{l:List DOp} {seen g s:Nat},Hv l seen g=some s→∀(q a:Nat) (c c':DOp),q<a→(Ge Fe l)[q]?=some c→(Ge Fe l)[a]?=some c'→Hf c'.m c.i
 |[],_,_,_,_,q,a,c,c',_,h,_=>by simp[Ge] at h
 |x::l,seen,g,s,p,q,a,c,c',j,h,d=>by
  obtain⟨_,_,t3⟩:=u7 p;rcases t3 with ⟨f,t⟩|⟨f,_,t⟩|⟨f,_,t⟩
  ·have m:Ge Fe (x::l)=Ge Fe l:=by simp only[Ge];unfold Fe;rw[f]
   rw[m] at h d;exact chain_order t q a c c' j h d
  ·have m:Ge Fe (x::l)=Ge Fe l:=by simp only[Ge];unfold Fe;rcases f with f|f<;>rw[f]
   rw[m] at h d;exact chain_order t q a c c' j h d
  ·have m:Ge Fe (x::l)=x::Ge Fe l:=by simp only[Ge];unfold Fe;rw[f]
   rw[m] at h d;cases a with
   |zero=>omega
   |succ a =>
    simp only[Av] at d;cases q with
    |zero =>
     simp only[A6,Option.some.injEq] at h;subst h;obtain⟨hm,o⟩:=Ss.1 (Co.2 ⟨_,d⟩);refine topo_chs t c' hm (by rw[zq.1 o];exact fun e=>by cases e) _ ?_;rw[Td,b9];simp
    |succ q=>exact chain_order t q a c c' (by omega) (by simpa using h) d
end po
end Go.Sv
namespace Go.Sv
section Wg
variable {P : Program} {n : Nat} {ops : Array Oper} {k : Jh} {L : List DOp} {E0 Ef : Tr AV}
def zki {S:Nat→Prop}:∀{l:List DOp} {seen f s:Nat},Hv l seen f=some s→(∀j,Hf seen j→S j)→(∀x∈l,S x.i)∨∃x∈l,¬S x.i∧∀j,Hf x.m j→S j
 |[],_,_,_,_,_=>.inl fun x g=>by cases g
 |x::l,seen,f,s,h,o=>by
  obtain⟨t1,t2,t3⟩:=u7 h;by_cases g:S x.i
  ·have key:∀a,Hv l (Nat.lor (2^x.i) seen) a=some s→(∀y∈x::l,S y.i)∨∃y∈x::l,¬S y.i∧∀j,Hf y.m j→S j:=fun a p=>by
    rcases zki p (S:=S) (fun j d=>by
     unfold Hf at d;rw[Td,b9] at d;simp only[Bm,Ao] at d;rcases d with rfl|d
     ·exact g
     ·exact o j d) with q|⟨y,m,q⟩
    ·exact .inl fun y m=>by
      rcases An.1 m with rfl|m
      ·exact g
      ·exact q y m
    ·exact .inr ⟨y,by simp[m],q⟩
   rcases t3 with ⟨_,t3⟩|⟨_,_,t3⟩|⟨_,_,t3⟩<;>exact key _ t3
  ·exact .inr ⟨x,by simp,g,fun j d=>o j (t1 j d)⟩
def Gw (listed:Array Bool)(i:Nat):Prop:=listed.getD i false=true
def Wl {listed:Array Bool}{i:Nat}(hi:i<listed.size)(j:Nat):Gw (listed.setIfInBounds i true) j↔(Gw listed j∨j=i):=by
 unfold Gw;rw[Bk,Array.getElem?_setIfInBounds,Bk];by_cases e:i=j
 ·subst e;simp[hi]
 ·have:¬j=i:=fun q=>e q.symm
  simp[e,this]
def zpp {listed:Array Bool}{i:Nat}(j:listed.size=ops.size):i∈Region.ready .any ops listed↔i<ops.size∧¬Gw listed i∧∃o,ops[i]?=some o∧∀e∈o.after.toList,Region.binds .any e=true→Gw listed e.on:=by
 unfold Region.ready Gw;simp only[List.mem_filter,Cp,Ac,Bs];constructor
 ·rintro⟨a,d,f⟩;refine⟨a,?_,?_⟩
  ·rw[Bk,Cd (by omega)] at d ⊢;simpa using d
  ·rw[Cd a] at f;simp only[Ck,B9] at f;refine⟨ops[i],Cd a,fun e he g=>?_⟩;have:=Array.all_eq_true_iff_forall_mem.1 f e (by simpa using he);rw[g] at this;simpa using this
 ·rintro⟨a,d,o,f,h⟩;refine⟨a,?_,?_⟩
  ·rw[Bk,Cd (by omega)] at d ⊢;simpa using d
  ·rw[f];simp only[Ck,B9];refine Array.all_eq_true_iff_forall_mem.2 fun e he=>?_
   cases g:Region.binds .any e with
   |false=>rfl
   |true=>simpa using h e (by simpa using he) g
def zwo {C a:CM}(h:C.le a){o:Nat}(f:∀v,C o v=none)(ho:o<C.nx)(v:Nat):a o v=none:=by
 cases e:a o v with
 |none=>rfl
 |some L =>
  rcases h.new _ _ _ e with ⟨g,j,d⟩|d
  ·rw[f] at d;cases d
  ·omega
structure Pends (P:Program) (n:Nat) (ops:Array Oper) (k:Jh) (L:List DOp) (E0 Ef:Tr AV) (ord:List DOp) (ph:Nat→Nat) (C0 C:CM) (Hp:Heap) (D:Nat→Prop) (p:Nat):Prop where
 known:∀x∈ord,x.c=.al→¬Jm P n ops k L E0 Ef x→ph x.i≤p→C0.nx≤Iz Ef x∧Iz Ef x<Hp.next
 inj:∀x∈ord,∀y∈ord,x.c=.al→y.c=.al→¬Jm P n ops k L E0 Ef x→¬Jm P n ops k L E0 Ef y→ph x.i≤p→ph y.i≤p→Iz Ef x=Iz Ef y→x=y
 pend:∀x∈ord,x.c=.al→¬Jm P n ops k L E0 Ef x→ph x.i≤p→¬D x.i→∀v,C (Iz Ef x) v=none
def cn (F:Fit P ops L){x:DOp}(M:x∈L)(j:x.c=.al)(ho:ops[x.i]?=some x.o){z:World}{C:CM}{H:Heap}{w:World}{E:Tr AV}{a:Act}(A:Rel z C H w)(B:ER n C E a.tmps)
  (l:Pg ops L E0 Ef x E) (m:Us P n ops L E0 Ef x H) (p:Iz Ef x<H.next) (D:∀v,C (Iz Ef x) v=none) (b:Frame) (rest:List Nat) (G:List Item) (cs:List Frame) :
  ∃(q:Loc) (w':World) (h:Value) (v:AV),Rel z (C.ext (Iz Ef x) 0 q) H w'∧C.keep (C.ext (Iz Ef x) 0 q)∧VR (C.ext (Iz Ef x) 0 q) v h∧(∀d,x.o.dst=some d→E3 (Fl d) Ef=some v∧d<n) ∧
   Steps P (lone (b.atR a (.inRegion ops (x.i::rest)::G)) cs w) (lone (b.atR (a.put x.o.dst h) (.inRegion ops rest::G)) cs w'):=by
 obtain⟨d,N,g1,g2,g3,g4,g5⟩:=m;obtain⟨O,I,H',J,Q,oa,ob',R,K,S⟩:=g5 E l;have f:=zsr (P:=P) (o:=x.o) (by rw[←F.ok.cl x M];exact j) E H;rw[J] at f;obtain⟨ob,m1,rfl,m3,m4,T⟩:=f;rw[Heap.get_push_same] at K;cases K;obtain⟨r,U,sz,h,V,W⟩:=T C w a.eval (sk B);have hk:C.keep (C.ext (Iz Ef x) 0 ⟨w.heap.size,0,U,sz⟩):=fun X I L' s=>by
  by_cases e:X=Iz Ef x∧I=0
  ·obtain⟨rfl,rfl⟩:=e;rw[D] at s;cases s
  ·rw[CM.ext_ne C _ e];exact s
 obtain⟨Y,Z⟩:=W _ (Iz Ef x) hk (CM.ext_same _ _ _ _);obtain⟨q5,_⟩:=A.bind p D R r ((Z _ A.low.size).same S);have hw:Region.wanted x.o (yielded ops a.tmps)=true:=by rw[←zib B ops x.o];exact O
 have y:=zha (P:=P) (o:=x.o) (E:=E) (H:=H) (by rw[J];intro e;cases e);refine⟨_,_,h,N,q5,hk,by rw[Q];exact Y,fun d' g=>?_,.one (zs3 ho hw y V)⟩;rw[g1] at g;cases g;exact⟨g3,g2⟩
def Wg (hk:Yk P k)(F:Fit P ops L)(hn:n≤Io){ord:List DOp}{s:Nat}(ax:Hv ord 0 0=some s)(K:∀x∈ord,x∈L)(aC:∀i,i<ops.size→Hf s i)(aS:Tf L E0 Ef (Hf s) Ef)
  {Hb I:Nat→Heap} {ph:Nat→Nat} (hU:∀p,p≤(Ge Fe ord).length→Ups (Hb p) (I p))
  (hA:∀q c,(Ge Fe ord)[q]?=some c→Kg P n ops k L E0 Ef c (I q) (Hb (q+1)))
  (hB:∀x∈ord,x.c=.rd→∃r,r≤(Ge Fe ord).length∧(∀q c,q<r→(Ge Fe ord)[q]?=some c→Hf x.m c.i)∧∀p,r≤p→p≤(Ge Fe ord).length→(∀q c,r≤q→q<p→(Ge Fe ord)[q]?=some c→¬Hf c.m x.i)→Kg P n ops k L E0 Ef x (I p) (I p))
  (aT:∀x∈ord,x.c=.quiet→∀H2,Kg P n ops k L E0 Ef x H2 H2)
  (hL:∀x∈ord,x.c=.al→Jm P n ops k L E0 Ef x∨AlPh P n ops L E0 Ef (Ge Fe ord) Hb I x (ph x.i))
  (hI:∀x∈ord,∀y∈ord,x.c=.al→y.c=.al→¬Jm P n ops k L E0 Ef x→¬Jm P n ops k L E0 Ef y→ph x.i=ph y.i→Iz Ef x=Iz Ef y→x=y)
  {w0:World} {C0:CM} (b:Frame) (Z:List Item) (cs:List Frame) :
  ∀(f t:Nat) (listed:Array Bool) (T:List Nat) (p:Nat) (C:CM) (w:World) (a:Act) (E:Tr AV),listed.size=ops.size→T.length≤f→(∀i,i<ops.size→¬Gw listed i→i∈T) →
   Tf L E0 Ef (Gw listed) E→DC L (Gw listed)→Rel w0 C (I p) w→ER n C E a.tmps→(∀q c,(Ge Fe ord)[q]?=some c→(Gw listed c.i↔q<p))→p≤(Ge Fe ord).length →
   C0.le C→Pends P n ops k L E0 Ef ord ph C0 C (I p) (Gw listed) p →
   ∃C' w' a',C0.le C'∧Rel w0 C' (I (Ge Fe ord).length) w'∧ER n C' Ef a'.tmps∧a'.defers=a.defers ∧
    Steps P (lone (b.atR a (.inRegion ops (Region.linearise.go .any ops f t listed [])::Z)) cs w) (lone (b.atR a' (.inRegion ops []::Z)) cs w'):=by
 have aI:∀x∈L,x∈ord:=fun x O=>by
  rcases (topo_seen ax x.i).1 (aC x.i (F.ok.op x O).2) with h|⟨y,A,e⟩
  ·simp at h
  ·rwa [←F.ok.inj y (K y A) x O e]
 have aD:∀(listed:Array Bool) (p:Nat) (C:CM) (w:World) (a:Act) (E:Tr AV),(∀i,i<ops.size→Gw listed i)→Tf L E0 Ef (Gw listed) E→Rel w0 C (I p) w→ER n C E a.tmps →
   (∀q c,(Ge Fe ord)[q]?=some c→(Gw listed c.i↔q<p))→p≤(Ge Fe ord).length→C0.le C →
   ∃C' w' a',C0.le C'∧Rel w0 C' (I (Ge Fe ord).length) w'∧ER n C' Ef a'.tmps∧a'.defers=a.defers ∧
    Steps P (lone (b.atR a (.inRegion ops []::Z)) cs w) (lone (b.atR a' (.inRegion ops []::Z)) cs w'):=by
  intro listed p C w a E hd hE hR B D hp G;have Q:p=(Ge Fe ord).length:=by
   rcases C4 p (Ge Fe ord).length with h|h
   ·have hm:=Dw h;have:=(D p _ (Ah h)).1 (hd _ (F.ok.op _ (K _ (Ss.1 hm).1)).2);omega
   ·omega
  subst Q;refine⟨C,w,a,G,hR,⟨B.1,B.2.1,fun t ht=>?_⟩,rfl,.refl _ _⟩;have e:E3 (Fl t) Ef=E3 (Fl t) E:=by
   rw[hE t ht,aS t ht];unfold Yw;have:Pq L (Hf s) t↔Pq L (Gw listed) t:=by
    constructor
    ·rintro⟨y,A,_,h⟩;exact⟨y,A,hd _ (F.ok.op y A).2,h⟩
    ·rintro⟨y,A,_,h⟩;exact⟨y,A,aC _ (F.ok.op y A).2,h⟩
   by_cases q:Pq L (Hf s) t
   ·rw[Ai q,Ai (this.1 q)]
   ·rw[Ab q,Ab (fun z=>q (this.2 z))]
  rw[e];exact B.2.2 t ht
 intro f
 induction f with
 |zero =>
  intro t listed T p C w a E hs hT ay hE hD hR B D hp G m;have hd:∀i,i<ops.size→Gw listed i:=fun i hi=>by
   by_cases h:Gw listed i
   ·exact h
   ·have:=ay i hi h;have aU:T=[]:=A0 (by omega);rw[aU] at this;cases this
  exact aD listed p C w a E hd hE hR B D hp G
 |succ f ih =>
  intro t listed T p C w a E hs hT ay hE hD hR B D hp G m;simp only[Region.linearise.go];change ∃C' w' a',C0.le C'∧Rel w0 C' (I (Ge Fe ord).length) w'∧ER n C' Ef a'.tmps∧a'.defers=a.defers ∧
   Steps P (lone (b.atR a (.inRegion ops (match (Region.ready .any ops listed)[t%(Region.ready .any ops listed).length]? with
    |some i=>Region.linearise.go .any ops f (t/(Region.ready .any ops listed).length) (listed.setIfInBounds i true) [i]
    |none=>[].reverse)::Z)) cs w) (lone (b.atR a' (.inRegion ops []::Z)) cs w')
  cases hi:(Region.ready .any ops listed)[t%(Region.ready .any ops listed).length]? with
  |none =>
   have aJ:Region.ready .any ops listed=[]:=by
    cases hr:Region.ready .any ops listed with
    |nil=>rfl
    |cons x xs =>
     rw[hr] at hi;have aa:t%(x::xs).length<(x::xs).length:=Df _ (by simp);rw[Ah aa] at hi;cases hi
   have hd:∀i,i<ops.size→Gw listed i:=by
    rcases zki ax (S:=Gw listed) (fun j hj=>by simp[Hf] at hj) with h|⟨x,O,h1,h2⟩
    ·intro i hi;obtain⟨x,O,rfl⟩:=F.ok.all i hi;exact h x (aI x O)
    ·have aK:=K x O;obtain⟨ho,aa⟩:=F.ok.op x aK;have:x.i∈Region.ready .any ops listed:=(zpp hs).2 ⟨aa,h1,x.o,ho,fun e he hb=>h2 _ (F.ok.edge x aK e he hb)⟩;rw[aJ] at this;cases this
   exact aD listed p C w a E hd hE hR B D hp G
  |some i =>
   dsimp only;rw[linearise_go_acc,List.reverse_singleton,List.singleton_append];obtain⟨aa,ad,o,ho,ag⟩:=(zpp hs).1 (A7 hi);obtain⟨x,O,rfl⟩:=F.ok.all i aa;have aL:=(F.ok.op x O).1;rw[ho] at aL;cases aL;have H:∀j,Hf x.m j→Gw listed j:=fun j hj=>by
    obtain⟨e,he,hb,rfl|⟨y,A,e1,e2⟩⟩:=F.ok.msk x O j hj
    ·exact ag e he hb
    ·exact hD y A (by rw[e1];exact ag e he hb) j e2
   have aF:Pg ops L E0 Ef x E:=W2 F hD O H (.inl ad) hE;have R:=aI x O;have aG:∃p' M w1 xv v,C0.le M∧Rel w0 M (I p') w1∧ER n M (Hn x.o.dst v E) (a.put x.o.dst xv).tmps∧(∀d,x.o.dst=some d→E3 (Fl d) Ef=some v∧d<n) ∧
     Steps P (lone (b.atR a (.inRegion ops (x.i::Region.linearise.go .any ops f (t/(Region.ready .any ops listed).length) (listed.setIfInBounds x.i true) [])::Z)) cs w)
      (lone (b.atR (a.put x.o.dst xv) (.inRegion ops (Region.linearise.go .any ops f (t/(Region.ready .any ops listed).length) (listed.setIfInBounds x.i true) [])::Z)) cs w1) ∧
     p'≤(Ge Fe ord).length∧(∀q c,(Ge Fe ord)[q]?=some c→((Gw listed c.i∨c.i=x.i)↔q<p')) ∧
     Pends P n ops k L E0 Ef ord ph C0 M (I p') (fun j=>Gw listed j∨j=x.i) p':=by
    have ah:x.c≠.ch→∀q c,(Ge Fe ord)[q]?=some c→((Gw listed c.i∨c.i=x.i)↔q<p):=fun aj q c hq=>by
     rw[←D q c hq];constructor
     ·rintro (h|h)
      ·exact h
      ·obtain⟨hm,U⟩:=Ss.1 (Co.2 ⟨_,hq⟩);rw[F.ok.inj c (K c hm) x O h] at U;exact absurd (zq.1 U) aj
     ·exact .inl
    have W:∀r,r≤(Ge Fe ord).length→(∀q c,q<r→(Ge Fe ord)[q]?=some c→Hf x.m c.i)→r≤p:=fun r u0 u1=>by
     rcases C4 p r with h|h
     ·have Q:p<(Ge Fe ord).length:=by omega
      have:=(D p _ (Ah Q)).1 (H _ (u1 p _ h (Ah Q)));omega
     ·exact h
    have ao:∀r q c,r≤q→q<p→(Ge Fe ord)[q]?=some c→¬Hf c.m x.i:=fun r q c _ hq aM hb=>by
     have hm:=(Ss.1 (Co.2 ⟨_,aM⟩)).1;exact ad (hD c (K c hm) ((D q c aM).2 hq) _ hb)
    have V:=fun (aj:x.c≠.ch) (aV:Kg P n ops k L E0 Ef x (I p) (I p))=>show ∃p' M w1 xv v,C0.le M∧Rel w0 M (I p') w1∧ER n M (Hn x.o.dst v E) (a.put x.o.dst xv).tmps∧(∀d,x.o.dst=some d→E3 (Fl d) Ef=some v∧d<n) ∧
     Steps P (lone (b.atR a (.inRegion ops (x.i::Region.linearise.go .any ops f (t/(Region.ready .any ops listed).length) (listed.setIfInBounds x.i true) [])::Z)) cs w)
      (lone (b.atR (a.put x.o.dst xv) (.inRegion ops (Region.linearise.go .any ops f (t/(Region.ready .any ops listed).length) (listed.setIfInBounds x.i true) [])::Z)) cs w1) ∧
     p'≤(Ge Fe ord).length∧(∀q c,(Ge Fe ord)[q]?=some c→((Gw listed c.i∨c.i=x.i)↔q<p')) ∧
     Pends P n ops k L E0 Ef ord ph C0 M (I p') (fun j=>Gw listed j∨j=x.i) p' from by
     obtain⟨v,ap,N⟩:=aV E aF;obtain⟨M,w1,xv,av,q1,q2,q3,q4,q5,q6⟩:=zj3 hk ho hR B ap b (Region.linearise.go .any ops f (t/(Region.ready .any ops listed).length) (listed.setIfInBounds x.i true) []) Z cs;refine⟨p,M,w1,xv,v,CM.le_trans G q1,q2,by rw[q4];exact (B.mono q1).put q5 q3,N,q6,hp,ah aj,⟨m.known,m.inj,fun y A g l J af v=>?_⟩⟩;exact zwo q1 (m.pend y A g l J (fun h=>af (.inl h))) (by rw[hR.nx];exact (m.known y A g l J).2) v
    cases U:x.c with
    |quiet=>exact V (by rw[U];exact fun e=>by cases e) (aT x R U _)
    |rd =>
     obtain⟨r,u0,u1,u2⟩:=hB x R U;exact V (by rw[U];exact fun e=>by cases e) (u2 p (W r u0 u1) hp (ao r))
    |al =>
     by_cases aq:Jm P n ops k L E0 Ef x
     ·exact V (by rw[U];exact fun e=>by cases e) (aq _)
     ·rcases hL x R U with h|⟨u0,u1,u2,u3,u4⟩
      ·exact absurd h aq
      ·have az:=W _ u0 u1;have aW:=u4 p az hp (ao _);obtain⟨k1,k2⟩:=m.known x R U aq az;have aN:=m.pend x R U aq az ad;obtain⟨Lc,w1,xv,v,q1,q2,q3,q4,q5⟩:=cn F O U ho hR B aF aW k2 aN b (Region.linearise.go .any ops f (t/(Region.ready .any ops listed).length) (listed.setIfInBounds x.i true) []) Z cs;refine⟨p,_,w1,xv,v,⟨fun o v L h=>q2 _ _ _ (G.keep _ _ _ h),Bo G.nx (Cw _ _),fun o v L h=>?_⟩,q1,(B.mono' q2).put (fun t ht=>(q4 t ht).2) q3,q4,q5,hp,ah (by rw[U];exact fun e=>by cases e),
        ⟨m.known,m.inj,fun y A g l J af v=>?_⟩⟩
       ·by_cases e:o=Iz Ef x∧v=0
        ·obtain⟨rfl,rfl⟩:=e;exact .inr k1
        ·rw[CM.ext_ne _ _ e] at h;exact G.new _ _ _ h
       ·have aj:Iz Ef y≠Iz Ef x:=fun e=>af (.inr (by rw[m.inj y A x R g U l aq J az e]))
        rw[CM.ext_ne _ _ (fun e=>aj e.1)];exact m.pend y A g l J (fun h=>af (.inl h)) v
    |ch =>
     obtain⟨q,hq⟩:=Co.1 (Ss.2 ⟨R,zq.2 U⟩);have a0:¬q<p:=fun h=>ad ((D q x hq).2 h)
     have a1:=(Aa.1 hq).1;have aX:q=p:=by
      rcases C4 p q with h|h
      ·have Q:p<(Ge Fe ord).length:=by omega
       have:=(D p _ (Ah Q)).1 (H _ (chain_order ax p q _ x h (Ah Q) hq));omega
      ·omega
     subst aX;obtain⟨v,ap,N⟩:=hA q x hq E aF;obtain⟨M,w1,xv,av,q1,q2,q3,q4,q5,q6⟩:=zj3 hk ho hR B ap b (Region.linearise.go .any ops f (t/(Region.ready .any ops listed).length) (listed.setIfInBounds x.i true) []) Z cs;have ar:=hU (q+1) (by omega);have hle:M.le (M.lift (I (q+1)).next):=CM.le_lift (by rw[q2.nx];exact ar.next);have a3:(I q).next≤(Hb (q+1)).next:=by rw[←hR.nx,←q2.nx];exact q1.nx
     have X:∀y∈ord,y.c=.al→¬Jm P n ops k L E0 Ef y→ph y.i=q+1→(Hb (q+1)).next≤Iz Ef y∧Iz Ef y<(I (q+1)).next:=fun y A g l J=>by
      rcases hL y A g with h|⟨_,_,u2,u3,_⟩
      ·exact absurd h l
      ·rw[J] at u2 u3;exact⟨u2,u3⟩
     have a4:=ar.next;refine⟨q+1,M.lift (I (q+1)).next,w1,xv,v,CM.le_trans G (CM.le_trans q1 hle),q2.ups ar,by rw[q4];exact ((B.mono q1).put q5 q3).mono hle,N,q6,by omega,fun q' c aw=>?_,⟨fun y A g l J=>?_,fun y A z hz g aA l aB J a5 aO=>?_,fun y A g l J af v=>?_⟩⟩
     ·rw[D q' c aw];constructor
      ·rintro (h|h)
       ·omega
       ·have hm:=(Ss.1 (Co.2 ⟨_,aw⟩)).1;have e:=F.ok.inj c (K c hm) x O h;subst e;rcases Nat.lt_trichotomy q' q with h'|h'|h'
        ·omega
        ·omega
        ·exact absurd (H _ (chain_order ax q q' c c h' hq aw)) ad
      ·intro h;rcases C4 q' q with h'|h'
       ·exact .inl h'
       ·have:q'=q:=by omega
        subst this;rw[hq] at aw;cases aw;exact .inr rfl
     ·rcases C4 (ph y.i) (q+1) with h|h
      ·obtain⟨k1,k2⟩:=m.known y A g l (by omega);exact⟨k1,by omega⟩
      ·obtain⟨k1,k2⟩:=X y A g l (by omega);have:=(CM.le_trans G q1).nx;rw[q2.nx] at this;exact⟨Bo this k1,k2⟩
     ·rcases C4 (ph y.i) (q+1) with h|h<;>rcases C4 (ph z.i) (q+1) with h'|h'
      ·exact m.inj y A z hz g aA l aB (by omega) (by omega) aO
      ·have k1:=(m.known y A g l (by omega)).2;have k2:=(X z hz aA aB (by omega)).1;omega
      ·have k1:=(m.known z hz aA aB (by omega)).2;have k2:=(X y A g l (by omega)).1;omega
      ·exact hI y A z hz g aA l aB (by omega) aO
     ·show M.f (Iz Ef y) v=none;rcases C4 (ph y.i) (q+1) with h|h
      ·exact zwo q1 (m.pend y A g l (by omega) (fun h=>af (.inl h))) (by rw[hR.nx];exact (m.known y A g l (by omega)).2) v
      ·have k1:=(X y A g l (by omega)).1;cases e:M.f (Iz Ef y) v with
       |none=>rfl
       |some L'=>have:=q2.fresh _ _ _ e;omega
   obtain⟨p',M,w1,xv,v,q1,q2,aP,N,q6,aY,aQ,aR⟩:=aG;have Y:=Wl (listed:=listed) (i:=x.i) (by omega);have aE:Gw (listed.setIfInBounds x.i true)=fun j=>Gw listed j∨j=x.i:=funext fun j=>propext (Y j)
   have aZ:Tf L E0 Ef (Gw (listed.setIfInBounds x.i true)) (Hn x.o.dst v E):=by
    have:=hE.put F hn O N;rw[aE];exact this
   obtain⟨C2,w2,a2,r1,r2,r3,r4,r5⟩:=ih (t/(Region.ready .any ops listed).length) (listed.setIfInBounds x.i true) (T.erase x.i) p' M w1 (a.put x.o.dst xv) (Hn x.o.dst v E) (by simpa using hs)
    (by
     have:=List.length_erase_of_mem (ay x.i aa ad);omega)
    (fun j hj aH=>by
     rw[Y] at aH;have h1:¬Gw listed j:=fun h=>aH (.inl h)
     have h2:j≠x.i:=fun h=>aH (.inr h)
     exact (List.mem_erase_of_ne h2).2 (ay j hj h1))
    aZ
    (fun y A hd j hj=>by
     rw[Y] at hd ⊢;rcases hd with hd|hd
     ·exact .inl (hD y A hd j hj)
     ·rw[F.ok.inj y A x O hd] at hj;exact .inl (H j hj))
    q2 aP (fun q c hq=>by rw[Y];exact aQ q c hq) aY q1 (by rw[aE];exact aR)
   refine⟨C2,w2,a2,r1,r2,r3,?_,Steps.trans q6 r5⟩;rw[r4];cases x.o.dst<;>rfl
def zvg (hm:P.follows .mixedOrders=true)(hk:Yk P k){Q:World}{C:CM}{H H':Heap}{w:World}{E m:Tr AV}{a:Act}{id:Nat}(O:Rel Q C H w)(hE:ER n C E a.tmps)
  (h:(pg P n ops).run k E H=.ok m H') (b:Frame) (R:List Item) (cs:List Frame) :
  ∃G w' I,C.le G∧Rel Q G H' w'∧ER n G m I.tmps∧I.defers=a.defers ∧
   Steps P (lone (b.atR a (.code (.region id ops true)::R)) cs w) (lone (b.atR I R) cs w'):=by
 unfold pg at h;dsimp only at h;generalize hL:Ix P ops ops.toList [] 0=L at h;have S:LOk P ops L:=hL ▸ eo P ops;generalize hO:zyw L (Ge Fe L)=ord at h;have r:∀x∈ord,x∈L:=fun x J=>zvs x (by rw[hO];exact J)
 split at h
 ·rename_i hd;unfold zw5 at hd;split at hd
  ·cases hd
  ·rename_i s K;split at hd
   ·cases hd
   ·rename_i hs;split at hd
    ·cases hd
    ·rename_i T;have U:s=2^ops.size - 1:=Al (by simpa using hs);have F:Fit P ops L:=⟨S,(dstsOk_spec (by simpa using T)).2,fun x J y d=>zlz (zlz hd x J) y d⟩;have hn:=hE.2.1;have h0:Tf L E m (Hf 0) E:=fun t ht=>by
      unfold Yw;rw[Ab];rintro⟨y,_,d,_⟩;simp[Hf] at d
     obtain⟨r0,_,Hb,B,ph,r1,r2,ru,r3,r4,r5,ra,ri,_⟩:=po (E0:=E) F hn ord [] 0 0 s E H H' h K r (fun x J=>by cases J) h0 (fun y _ d=>by simp[Hf] at d);have M:∀i,i<ops.size→Hf s i:=fun i hi=>by
      unfold Hf;rw[U,Nat.testBit_two_pow_sub_one];simpa using hi
     have j:∀i,¬Gw (Array.replicate ops.size false) i:=fun i hi=>by
      unfold Gw at hi;rw[Bk,Array.getElem?_replicate] at hi;split at hi<;>cases hi
     have D:=ru 0 (Dd _);rw[r1] at D;have V:Rel Q (C.lift (B 0).next) (B 0) w.drew:=O.drew.ups D;have A:C.le (C.lift (B 0).next):=CM.le_lift (by rw[O.nx];exact D.next);have l:∀y∈ord,y.c=.al→¬Jm P n ops k L E m y→ph y.i=0→H.next≤Iz m y∧Iz m y<(B 0).next:=fun y d f g o=>by
      rcases ra y d f with h|⟨_,_,W,u3,_⟩
      ·exact absurd h g
      ·rw[o] at W u3;rw[r1] at W;exact⟨W,u3⟩
     have N:Pends P n ops k L E m ord ph C (C.lift (B 0).next) (B 0) (Gw (Array.replicate ops.size false)) 0:=by
      refine⟨fun y d f g o=>?_,fun y d z hz f X g Y o aa Z=>ri y d z hz f X g Y (by omega) Z,fun y d f g o _ v=>?_⟩
      ·obtain⟨k1,k2⟩:=l y d f g (by omega);rw[←O.nx] at k1;exact⟨k1,k2⟩
      ·obtain⟨k1,k2⟩:=l y d f g (by omega);show C.f (Iz m y) v=none;cases e:C.f (Iz m y) v with
       |none=>rfl
       |some L'=>have:=O.fresh _ _ _ e;omega
     have p:Region.schedule (P.follows .mixedOrders) ops (w.tape w.drawn (.order b.fn id))=Region.linearise.go .any ops ops.size (w.tape w.drawn (.order b.fn id)) (Array.replicate ops.size false) []:=by
      simp only[Region.schedule,hm,Bool.true_or,Bu];rfl
     obtain⟨G,w',I,q1,q2,q3,q4,q5⟩:=Wg hk F hn K r M r0 ru r3 r4 r5 ra ri b R cs ops.size (w.tape w.drawn (.order b.fn id)) (Array.replicate ops.size false) (List.range ops.size) 0 (C.lift (B 0).next) w.drew a E
      (by simp) (by simp) (fun i hi _=>by simpa using hi) (fun t ht=>by
       unfold Yw;rw[Ab];rintro⟨y,_,d,_⟩;exact j _ d) (fun y _ d=>absurd d (j _)) V (hE.mono A) (fun q c _=>⟨fun h=>absurd h (j _),fun h=>absurd h (Ei q)⟩) (Dd _) A N
     refine⟨G,w',I,q1,by rw[←r2];exact q2,q3,q4,.head stepR_region_draw ?_⟩;rw[p];exact Steps.trans q5 (.one stepR_region_end)
 ·cases h
def zq8 (hk:Yk P k){j:World}{C:CM}{H H':Heap}{w:World}{E l:Tr AV}{a:Act}{id:Nat}(m:Rel j C H w)(o:ER n C E a.tmps)
  (h:(Xu P n ops ops.toList).run k E H=.ok l H') (b:Frame) (g:List Item) (cs:List Frame) :
  ∃d w' f,C.le d∧Rel j d H' w'∧ER n d l f.tmps∧f.defers=a.defers ∧
   Steps P (lone (b.atR a (.code (.region id ops false)::g)) cs w) (lone (b.atR f g) cs w'):=by
 obtain⟨d,w',f,p,q,r,s,x⟩:=zpo hk b g cs ops.toList 0 rfl m o h;refine⟨d,w',f,p,q,r,s,.head stepR_region ?_⟩;rw[List.range_eq_range'];exact Steps.trans x (.one stepR_region_end)
end Wg
end Go.Sv
namespace Go.Sv
open Go.RowKit (Below)
inductive DR (C:CM):List Nat→List Deferred→Prop where
 |nil:DR C [] []
 |cons {d:Nat} {L:Loc} {l:List Nat} {r:List Deferred} (h:C d 0=some L) (hs:DR C l r):DR C (d::l) ({ target:=.collected L.b,args:=#[] }::r)
def DR.mono {C C':CM}(h:C.le C'):∀{l:List Nat} {r:List Deferred},DR C l r→DR C' l r
 |_,_,.nil=>.nil
 |_,_,.cons e es=>.cons (h.keep _ _ _ e) (DR.mono h es)
def RO (C:CM)(ro r:Option Nat):Prop:=match ro,r with
 |none,none=>True
 |some l,some d=>∃L,C l 0=some L∧L.b=d
 |_,_=>False
def RO.mono {C C':CM}(h:C.le C'){ro r:Option Nat}(k:RO C ro r):RO C' ro r:=by
 cases ro<;>cases r<;>simp only[RO] at k ⊢;obtain⟨L,h1,h2⟩:=k;exact⟨L,h.keep _ _ _ h1,h2⟩
def Rel.putBlock {w0:World}{C:CM}{H:Heap}{w:World}(h:Rel w0 C H w){o:Nat}{L:Loc}(hL:C o 0=some L){ob:AObj}{x:Obj}(hB:w0.heap.size≤L.b)(ad:∀c len aa ro,ob≠.cells c len aa ro)
  (af:(w.putObj L.b x).heap[L.b]?=some x→Ie w0.heap.size C (w.putObj L.b x) o ob):Rel w0 C (H.put o ob) (w.putObj L.b x):=by
 have ag:=h.lt _ _ _ hL;refine h.put (h.fresh _ _ _ hL) ob (h.low.trans ⟨rfl,rfl,rfl,by simp,fun k hk=>World.putObj_heap_other (by omega)⟩) (by simp) (fun o' v L' ah aj=>World.putObj_heap_other (fun e=>ah ?_)) (af (World.putObj_heap_same ag)) (fun c len aa ro e=>absurd e (ad c len aa ro));exact (h.excl _ _ _ _ _ _ hL aj e.symm hB).symm
def zdl {P:Program}{w:World}{o:Nat}{r:Loop}(h:w.heap[o]?=some (.loop r))(fn:FuncId)(tmps:Array Value)(d:Array Tmp)(assign body:Code) :
  (Instr.enterLoop fn tmps d assign body (some o)).run P w =
   .ok (w.heap.size,[]) (w.alloc (.loop { state:=.ready,pending:=none,fn,tmps,params:=d,assign,body,defers:=r.defers })):=by
 unfold Instr.enterLoop;simp only[Sem.run_bind,run_getLoop h,run_newObj_alloc,Result.andThen,Sem.run_pure]
def zpu {P:Program}{f n:Nat}{j:Array Tmp}{as bd:Code}{ro:Option Nat}{E:Tr AV}{D:List Nat}{H:Heap}{l:Nat}{G:List Nat}{H':Heap}(h:zfh f n j as bd ro E D H=some (l,G,H'))
  {I:World} {C:CM} {w:World} {m:Array Value} {J:List Deferred} {r:Option Nat} (g:Rel I C H w) (K:ER n C E m) (M:DR C D J) (p:RO C ro r) :
  ∃A N mark L,C.le A∧Rel I A H' N∧(Instr.enterLoop f m j as bd r).run P w=.ok (L.b,mark) N∧A l 0=some L∧DR A G (mark++J):=by
 unfold zfh at h
 ·split at h
  ·cases h;cases r with
   |some r=>exact p.elim
   |none =>
    obtain⟨q,B⟩:=g.push (.defd true) (.deferred (some [])) 0 0 (fun L o=>by
     rw[CM.ext_same] at o;cases o;exact⟨g.low.size,Uq _ _⟩)
    have s:(C.ext H.next 0 ⟨w.heap.size,0,0,0⟩) H.next 0=some ⟨w.heap.size,0,0,0⟩:=CM.ext_same _ _ _ _;generalize C.ext H.next 0 ⟨w.heap.size,0,0,0⟩=Q at q B s;obtain⟨F,y⟩:=q.push (ob:=.loop .ready none f n E j as bd H.next) (x:=.loop { state:=.ready,pending:=none,fn:=f,tmps:=m,params:=j,assign:=as,body:=bd,defers:=w.heap.size }) 0 0 (fun L o=>by
     rw[CM.ext_same] at o;cases o;refine⟨q.low.size,m,⟨w.heap.size,0,0,0⟩,(CM.le_ext _ (q.next_none 0) (.inr (Di q.nx))).keep _ _ _ s,Uq _ _,(K.mono B).mono (CM.le_ext _ (q.next_none 0) (.inr (Di q.nx)))⟩)
    refine⟨_,_,[{ target:=.collected w.heap.size,args:=#[] }],⟨w.heap.size+1,0,0,0⟩,CM.le_trans B y,F,?_,?_,?_⟩
    ·exact run_enterLoop_outer f m j as bd
    ·have:=CM.ext_same Q (H.push (.defd true)).next 0 ⟨(w.alloc (.deferred (some []))).heap.size,0,0,0⟩;rw[World.size_alloc] at this ⊢;exact this
    ·exact .cons (y.keep _ _ _ s) (M.mono (CM.le_trans B y))
  ·rename_i lo;split at h
   ·rename_i d R;cases h;cases r with
    |none=>exact p.elim
    |some r =>
     obtain⟨Lo,z,rfl⟩:=p;obtain⟨T,S,O,hd,hw,_⟩:=g.obj _ _ (g.fresh _ _ _ z) R Lo z;obtain⟨F,y⟩:=g.push (ob:=.loop .ready none f n E j as bd d) (x:=.loop { state:=.ready,pending:=none,fn:=f,tmps:=m,params:=j,assign:=as,body:=bd,defers:=O.b }) 0 0 (fun L o=>by
      rw[CM.ext_same] at o;cases o;exact⟨g.low.size,m,O,(CM.le_ext _ (g.next_none 0) (.inr (Di g.nx))).keep _ _ _ hd,Uq _ _,K.mono (CM.le_ext _ (g.next_none 0) (.inr (Di g.nx)))⟩)
     refine⟨_,_,[],⟨w.heap.size,0,0,0⟩,y,F,?_,CM.ext_same _ _ _ _,M.mono y⟩;exact zdl hw f m j as bd
   ·cases h
def zkw {P:Program}{l:Nat}{H H':Heap}{j:Option Code}(h:zm1 l H=some (j,H')){p:World}{C:CM}{w:World}(q:Rel p C H w){L:Loc}(o:C l 0=some L) :
  ∃w',(Instr.endLoop L.b).run P w=.ok j w'∧Rel p C H' w':=by
 unfold zm1 at h;split at h
 ·rename_i st pend f n E y a b d z;have key:st≠.busy→(some (pend,H.put l (.loop .exhausted pend f n E y a b d))=some (j,H'))→∃w',(Instr.endLoop L.b).run P w=.ok j w'∧Rel p C H' w':=fun r e=>by
   cases e;obtain⟨x,A,B,hd,hw,D⟩:=q.obj _ _ (q.fresh _ _ _ o) z L o;refine⟨_,run_endLoop hw r,q.putBlock o x (fun _ _ _ _ e=>by cases e) (fun g F m=>?_)⟩;rw[o] at m;cases m;exact⟨x,A,B,hd,g,D⟩
  split at h
  ·cases h
  ·rename_i s;exact key (fun e=>s e) h
 ·cases h
def zny {P:Program}{C:CM}{w:World}{g:AV}{ρ:Operand→Value}{gop:Operand}(p:∀v,ρ (.const v)=v)(o:VR C g (ρ gop)){l:Nat}{L:Loc}(q:C l 0=some L){f:Nat}{args:List AV}
  (h:Ym P g [.fn (.yield l) [] []]=.call (.fn f) args) :
  ∃d vs,(resolve ρ (rangeCall gop L.b) 0).run P w=.ok d w∧(invoke d.target d.args).run P w=.ok (.enter f (List.toArray vs)) w∧VRs C args vs:=by
 have r:VRs C [AV.fn (.yield l) [] []] [Value.func (.yield L.b) #[] #[]]:=.cons (.fn (.yield q) .nil .nil) .nil;generalize m:ρ gop=gv at o;have j:∀fn first cap,gv=.func fn first cap→(resolve ρ (rangeCall gop L.b) 0).run P w=.ok { target:=.fn fn cap,args:=first++#[Value.func (.yield L.b) #[] #[]] } w:=by
  intro fn first cap e
  subst e;simp only[resolve,m,Deferred.ofValue,Sem.run_pure];simp[p]
 unfold Ym at h;split at h
 ·rename_i A first cap
  split at h
  ·rename_i s;cases h;cases o with
   | @fn _ B _ _ l' r' x y z =>
    cases x with
    |same =>
     refine⟨_,l'.toList++[Value.func (.yield L.b) #[] #[]]++r'.toList,j _ _ _ rfl,?_,(y.append r).append z⟩;have:(l'++#[Value.func (.yield L.b) #[] #[]]++r')=(l'.toList++[Value.func (.yield L.b) #[] #[]]++r'.toList).toArray:=by simp
     rw[←this];exact zbi s _
  ·cases h
 ·cases h
 ·cases h
def Wa (P:Program)(b:Frame)(m:Machine)(cs:List Frame)(g:List Item)(f:Act)(w':World):Ex→Prop
 |.normal=>Steps P m (lone (b.atR f g) cs w')
 |.exit id=>∃d,exitTo id d=exitTo id g∧Steps P m (lone (b.atR f (.code (.exit id)::d)) cs w')
 |.ret=>∃d,Steps P m (lone (b.atR f (.code .ret::d)) cs w')
def Wa.head {P:Program}{b:Frame}{m m1:Machine}{cs:List Frame}{kk:List Item}{a':Act}{w':World}{x:Ex}(h:Steps P m m1)(k:Wa P b m1 cs kk a' w' x):Wa P b m cs kk a' w' x:=by
 cases x with
 |normal=>exact Steps.trans h k
 |exit id=>obtain⟨k1,e,s⟩:=k;exact⟨k1,e,Steps.trans h s⟩
 |ret=>obtain⟨k1,s⟩:=k;exact⟨k1,Steps.trans h s⟩
section scope
variable {P : Program} {b : Frame} {a : Act} {k : List Item} {cs : List Frame} {w : World} {c : Code}
def stepR_scope:step P (lone (b.atR a (.code (.scope c)::k)) cs w)=.next (lone (b.atR a (.code c::.inScope c::k)) cs w):=step_lone_go (by simp[stepG,stepG.exec,Frame.atR])
def stepR_inScope:step P (lone (b.atR a (.inScope c::k)) cs w)=.next (lone (b.atR a k) cs w):=step_lone_go (by simp[stepG,stepG.exec,Frame.atR])
end scope
structure Both (w0:World) (n:Nat) (C:CM) (E:Tr AV) (D:List Nat) (H:Heap) (a:Act) (w:World):Prop where
 rel:Rel w0 C H w
 env:ER n C E a.tmps
 defs:DR C D a.defers
def ms (P:Program)(f n:Nat)(p:CodeF)(c:Code):Prop :=
 ∀(k:Jh),Yk P k→∀(m:Nat) (ro:Option Nat) (d:World) (C:CM) (E:Tr AV) (D:List Nat) (H:Heap) (a:Act) (w:World) (b:Frame) (x:Ex) (g:Tr AV) (h:List Nat) (H':Heap),
  Both d n C E D H a w→b.fn=f→RO C ro b.roundOf→p.run k m ro E D H=.ok x g h H'→∀(j:List Item) (cs:List Frame),
  ∃l w' o,C.le l∧Both d n l g h H' o w'∧Wa P b (lone (b.atR a (.code c::j)) cs w) cs j o w' x
def Xt {P:Program}(hm:P.follows .mixedOrders=true)(f n:Nat):∀(c:Code),ms P f n (Ig P f n c) c
 |.skip=>by
  intro k hk m ro F C E D H a w b x K M H' p I o h y cs;cases h;exact⟨C,w,a,CM.le_refl C,p,.one stepR_skip⟩
 |.label l=>by
  intro k hk m ro F C E D H a w b x K M H' p I o h y cs;cases h;exact⟨C,w,a,CM.le_refl C,p,.one stepR_label⟩
 |.exit id=>by
  intro k hk m ro F C E D H a w b x K M H' p I o h y cs;cases h;exact⟨C,w,a,CM.le_refl C,p,y,rfl,.refl _ _⟩
 |.ret=>by
  intro k hk m ro F C E D H a w b x K M H' p I o h y cs;cases h;exact⟨C,w,a,CM.le_refl C,p,y,.refl _ _⟩
 |.region id ops draw=>by
  intro k hk m ro F C E D H a w b x K M H' p I o h y cs;simp only[Ig] at h;cases draw with
  |true =>
   dsimp only at h;split at h
   ·cases h
   ·rename_i E1 H1 hr;cases h;obtain⟨C',w',a',r,A,z,X,q5⟩:=zvg hm hk (id:=id) p.rel p.env hr b y cs;exact⟨C',w',a',r,⟨A,z,by rw[X];exact p.defs.mono r⟩,q5⟩
  |false =>
   dsimp only at h;split at h
   ·cases h
   ·rename_i E1 H1 hr;cases h;obtain⟨C',w',a',r,A,z,X,q5⟩:=zq8 hk (id:=id) p.rel p.env hr b y cs;exact⟨C',w',a',r,⟨A,z,by rw[X];exact p.defs.mono r⟩,q5⟩
 |.seq c1 c2=>by
  intro k hk m ro F C E D H a w b x K M H' p I o h y cs;simp only[Ig] at h;cases Y:(Ig P f n c1).run k m ro E D H with
  |no=>rw[Y] at h;cases h
  |ok Q E1 R H1 =>
   rw[Y] at h;obtain⟨G,B,J,r,A,z⟩:=Xt hm f n c1 k hk m ro F C E D H a w b Q E1 R H1 p I o Y (.code c2::y) cs;cases Q with
   |normal =>
    dsimp only at h;obtain⟨U,w2,a2,r1,r2,r3⟩:=Xt hm f n c2 k hk m ro F G E1 R H1 J B b x K M H' A I (o.mono r) h y cs;exact⟨U,w2,a2,CM.le_trans r r1,r2,r3.head (.head stepR_seq z)⟩
   |exit id =>
    cases h;obtain⟨N,e,s⟩:=z;exact⟨G,B,J,r,A,N,e,.head stepR_seq s⟩
   |ret =>
    cases h;obtain⟨N,s⟩:=z;exact⟨G,B,J,r,A,N,.head stepR_seq s⟩
 |.cond c c1 c2=>by
  intro k hk m ro F C E D H a w b x K M H' p I o h y cs;simp only[Ig] at h;split at h
  ·rename_i t ht;have hv:=sk p.env c _ ht;have aa:a.eval c=.bool t:=by
    generalize a.eval c=v at hv;cases hv;rfl
   split at h
   ·obtain⟨G,B,J,r,A,z⟩:=Xt hm f n c1 k hk m ro F C E D H a w b x K M H' p I o h y cs;exact⟨G,B,J,r,A,z.head (.one (by rw[stepR_cond aa];rfl))⟩
   ·obtain⟨G,B,J,r,A,z⟩:=Xt hm f n c2 k hk m ro F C E D H a w b x K M H' p I o h y cs;exact⟨G,B,J,r,A,z.head (.one (by rw[stepR_cond aa];rfl))⟩
  ·cases h
 |.block id c=>by
  intro k hk m ro F C E D H a w b x K M H' p I o h y cs;simp only[Ig] at h;split at h
  ·cases h
  ·rename_i Q E1 R H1 Y;obtain⟨G,B,J,r,A,z⟩:=Xt hm f n c k hk m ro F C E D H a w b Q E1 R H1 p I o Y (.inBlock id::y) cs;cases Q with
   |normal =>
    cases h;exact⟨G,B,J,r,A,Steps.head stepR_block (Steps.trans z (.one stepR_inBlock))⟩
   |exit ad =>
    dsimp only at h;obtain⟨N,e,s⟩:=z;split at h
    ·rename_i S;cases h;have af:ad=id:=Al S;subst af;refine⟨G,B,J,r,A,Steps.head stepR_block (Steps.trans s (.one (stepR_exit ?_)))⟩;rw[e];simp[exitTo]
    ·rename_i S;cases h;refine⟨G,B,J,r,A,N,?_,.head stepR_block s⟩;rw[e];have ah:¬id=ad:=fun q=>by subst q;rw[Bj] at S;cases S
     simp[exitTo,ah]
   |ret =>
    cases h;obtain⟨N,s⟩:=z;exact⟨G,B,J,r,A,N,.head stepR_block s⟩
 |.scope c=>by
  intro k hk m ro F C E D H a w b x K M H' p I o h y cs;simp only[Ig] at h;obtain⟨G,B,J,r,A,z⟩:=Xt hm f n c k hk m ro F C E D H a w b x K M H' p I o h (.inScope c::y) cs;refine⟨G,B,J,r,A,?_⟩;cases x with
  |normal=>exact Steps.head stepR_scope (Steps.trans z (.one stepR_inScope))
  |exit id =>
   obtain⟨N,e,s⟩:=z;exact⟨N,e,.head stepR_scope s⟩
  |ret =>
   obtain⟨N,s⟩:=z;exact⟨N,.head stepR_scope s⟩
 |.loop c=>by
  intro k hk m ro F C E D H a w b x K M H' p I o h y cs;simp only[Ig] at h;have ih:=Xt hm f n c;have key:∀(j:Nat) (C:CM) (E:Tr AV) (D:List Nat) (H:Heap) (a:Act) (w:World),Both F n C E D H a w→RO C ro b.roundOf→Un ((Ig P f n c).run k m ro) j E D H=.ok x K M H' →
    ∃C' w' a',C.le C'∧Both F n C' K M H' a' w'∧Wa P b (lone (b.atR a (.code c::.inLoop c::y)) cs w) cs y a' w' x:=by
   intro j
   induction j with
   |zero=>intro C E D H a w _ _ h;cases h
   |succ j aj =>
    intro C E D H a w p o h;simp only[Un] at h;split at h
    ·cases h
    ·rename_i Q E1 R H1 Y;obtain⟨G,B,J,r,A,z⟩:=ih k hk m ro F C E D H a w b Q E1 R H1 p I o Y (.inLoop c::y) cs;cases Q with
     |normal =>
      dsimp only at h;obtain⟨U,w2,a2,r1,r2,r3⟩:=aj G E1 R H1 J B A (o.mono r) h;exact⟨U,w2,a2,CM.le_trans r r1,r2,r3.head (Steps.trans z (.one stepR_inLoop))⟩
     |exit id =>
      cases h;obtain⟨N,e,s⟩:=z;exact⟨G,B,J,r,A,N,e,s⟩
     |ret =>
      cases h;obtain⟨N,s⟩:=z;exact⟨G,B,J,r,A,N,s⟩
  obtain⟨G,B,J,r,A,z⟩:=key m C E D H a w p o h;exact⟨G,B,J,r,A,z.head (.one stepR_loop)⟩
 |.rangeFunc g ps as bd=>by
  intro k hk m ro F C E D H a w b x K M H' p I o h y cs;simp only[Ig] at h;split at h
  ·cases h
  ·rename_i gv hg;split at h
   ·cases h
   ·rename_i l R H1 he;obtain⟨G,B,mark,L,r,A,z,X,q5⟩:=zpu (P:=P) he p.rel p.env p.defs o;split at h
    ·rename_i t args Z;split at h
     ·cases h
     ·rename_i v H2 ao;obtain⟨d,vs,s1,s2,s3⟩:=zny (P:=P) (w:=B) (ρ:=a.eval) (gop:=g) (fun _=>rfl) ((sk p.env g _ hg).mono r) X Z;have T:=hk _ _ _ _ _ _ _ _ _ A s3 ao (b.atR { a with defers:=mark++a.defers } (.inRangeFunc L.b::y)::cs);obtain⟨U,w2,v',fr,t1,t2,t3,t4,t5,t6⟩:=T;rw[←I] at z;have ag:=stepR_rangeFunc (P:=P) (b:=b) (a:=a) (k:=y) (cs:=cs) (w:=w) z s1 s2;have back:=step_leave_returned (c:=b.atR { a with defers:=mark++a.defers } (.inRangeFunc L.b::y)) (cs:=cs) t6;rw[finish_atR_inRangeFunc] at back;have V:DR U R ({ a with defers:=mark++a.defers }:Act).defers:=q5.mono t1;have W:ER n U E ({ a with defers:=mark++a.defers }:Act).tmps:=(p.env.mono r).mono t1;split at h
      ·cases h
      ·rename_i H3 O;cases h;obtain⟨w3,u1,u2⟩:=zkw (P:=P) O t2 (t1.keep _ _ _ X);refine⟨U,w3,{ a with defers:=mark++a.defers },CM.le_trans r t1,⟨u2,W,V⟩,?_⟩;refine Steps.head ag (Steps.trans t4 (.head back (.one ?_)));rw[stepR_endRangeFunc u1];rfl
      ·rename_i c H3 O;obtain⟨w3,u1,u2⟩:=zkw (P:=P) O t2 (t1.keep _ _ _ X);split at h
       ·cases h
       ·rename_i Q hx;cases h;have go:Steps P (lone (b.atR a (.code (.rangeFunc g ps as bd)::y)) cs w) (lone (b.atR { a with defers:=mark++a.defers } (.code c::y)) cs w3) :=
         .head ag (Steps.trans t4 (.head back (.one (by rw[stepR_endRangeFunc u1];rfl))))
        refine⟨U,w3,{ a with defers:=mark++a.defers },CM.le_trans r t1,⟨u2,W,V⟩,?_⟩;unfold yr at hx;split at hx
        ·cases hx;exact⟨y,go⟩
        ·cases hx;exact⟨y,rfl,go⟩
        ·cases hx
    ·cases h
 |.goto _=>by
  intro k hk m ro F C E D H a w b x K M H' p I o h y cs;cases h
 |.refuse _=>by
  intro k hk m ro F C E D H a w b x K M H' p I o h y cs;cases h
end Go.Sv
namespace Go.Sv
open Go.RowKit (Below)
def bg {P:Program}{r:ResultVar}{n:Nat}{D:World}{C:CM}{E:Tr AV}{H:Heap}{w:World}{a:Act}(y:Rel D C H w)(g:ER n C E a.tmps){v:AV}(h:(resF P r).run E H=some v) :
  ∃x,(match r with
   |.tmp t=>pure (a.tmps.getD t undef)
   |.cell c t=>do loadVar t (←asAddr (a.tmps.getD c undef)):Sem Value).run P w=.ok x w∧VR C v x:=by
 have d:∀t,a.eval (.tmp t)=a.tmps.getD t undef:=fun t=>by
  show a.tmps.getD t undef=_;rfl
 cases r with
 |tmp t =>
  simp only[resF] at h;have:=sk g _ _ h;rw[d] at this;exact⟨_,by simp[Sem.run_pure],this⟩
 |cell c t =>
  unfold resF at h;dsimp only at h ⊢;split at h
  ·rename_i n j z;dsimp only at h;split at h
   ·rename_i o m i ho;split at h
    ·rename_i l p;cases h;have hv:=sk g _ _ ho;rw[d] at hv;generalize a.tmps.getD c undef=F at hv;cases hv with
     |ptr q =>
      obtain⟨vs,A,s,B,G,_⟩:=y.read P p q;exact⟨.agg vs.toArray,by simp[asAddr,loadVar,v8 j,Ku z,A],.agg (by simpa using s) B⟩
    ·cases h
   ·cases h
  ·rename_i n j z;dsimp only at h;split at h
   ·rename_i o m i ho;split at h
    ·rename_i J p;cases h;have hv:=sk g _ _ ho;rw[d] at hv;generalize a.tmps.getD c undef=F at hv;cases hv with
     |ptr q =>
      obtain⟨vs,A,s,B,G,K,I⟩:=y.read P p q;have f:=I 0 (by omega)
      match vs,s with
      |[u],.cons hu .nil =>
       simp only[C5,A6] at f;exact⟨u,by simp[asAddr,loadVar,v8 j,f],hu⟩
    ·cases h
   ·cases h
  ·cases h
def zt0 {P:Program}{n:Nat}{m:World}{C:CM}{E:Tr AV}{H:Heap}{w:World}{a:Act}(g:Rel m C H w)(j:ER n C E a.tmps):∀{l:List ResultVar} {vs:List AV},(ju P l).run E H=some vs →
  ∃xs,(l.mapM fun
   |.tmp t=>pure (a.tmps.getD t undef)
   |.cell c t=>do loadVar t (←asAddr (a.tmps.getD c undef)):Sem (List Value)).run P w=.ok xs w∧VRs C vs xs
 |[],vs,h=>by
  cases h;exact⟨[],by simp[Sem.run_pure],.nil⟩
 |r::l,vs,h=>by
  simp only[ju] at h;split at h
  ·cases h
  ·rename_i v hv;split at h
   ·cases h
   ·rename_i o f;cases h;obtain⟨x,p,q⟩:=bg g j hv;obtain⟨xs,s,y⟩:=zt0 g j f;refine⟨x::xs,?_,.cons q y⟩;rw[List.mapM_cons,Sem.run_bind];have d:=p;cases r<;>(dsimp only at d ⊢;rw[d];simp only[Result.andThen_ok,Sem.run_bind,s,Sem.run_pure])
def zka {P:Program}{fn:Func}{n:Nat}{f:World}{C:CM}{E:Tr AV}{H:Heap}{w:World}{a:Act}(g:Rel f C H w)(j:ER n C E a.tmps){vs:List AV}(h:(ju P fn.results.toList).run E H=some vs) :
  ∃x,(results fn a.tmps).run P w=.ok x w∧VR C (match vs with
   |[v]=>v
   |l=>.tup l) x:=by
 obtain⟨xs,m,o⟩:=zt0 g j h;have hm:(fn.results.mapM fun
   |.tmp t=>pure (a.tmps.getD t undef)
   |.cell c t=>do loadVar t (←asAddr (a.tmps.getD c undef)):Sem (Array Value)).run P w=.ok xs.toArray w:=by
  rw[Array.mapM_eq_mapM_toList];rw[map_eq_pure_bind,Sem.run_bind,m];rfl
 refine⟨if h:xs.toArray.size=1 then xs.toArray[0] else .tuple xs.toArray,?_,?_⟩
 ·unfold results;rw[Sem.run_bind];exact (congrArg (fun r=>Result.andThen r _) hm).trans rfl
 ·cases o with
  |nil=>exact .tup .nil
  |cons e es =>
   cases es with
   |nil=>exact e
   |cons p d =>
    simp only[List.size_toArray,Ar];rw[dif_neg (by omega)];exact .tup (.cons e (.cons p d))
def zxz {P:Program}{fr:Frame}{cs:List Frame}{w:World}{a:Nat}{d:List Deferred}(hm:fr.mode=.returning)(hd:fr.defers={ target:=.collected a,args:=#[] }::d)(hw:w.heap[a]?=some (.deferred (some []))) :
  step P (lone fr cs w)=.next (lone { fr with defers:=d } cs (w.putObj a (.deferred none))) :=
 step_lone_go (by simp[stepG,unwind,hm,hd,Sem.runT_eq,run_takeDeferred hw,GStep.bare_after])
def ztl {P:Program}{l:World}{C:CM}:∀{D:List Nat} {o:List Deferred} {H H':Heap} {w:World} {fr:Frame} (cs:List Frame),DR C D o→qe D H=some H'→Rel l C H w→fr.mode=.returning→fr.defers=o →
  ∃w',Rel l C H' w'∧Steps P (lone fr cs w) (lone { fr with defers:=[] } cs w')
 |_,_,H,H',w,fr,cs,.nil,h,a,hm,hd=>by
  cases h;refine⟨w,a,?_⟩;have:fr={ fr with defers:=[] }:=by cases fr;cases hd;rfl
  rw[←this];exact .refl _ _
 |_,_,H,H',w,fr,cs,.cons (d:=d) (L:=L) (r:=r) j q,h,a,hm,hd=>by
  simp only[qe] at h;split at h
  ·rename_i s;obtain⟨p,hw⟩:=a.obj _ _ (a.fresh _ _ _ j) s L j;have m:Rel l C (H.put d (.defd false)) (w.putObj L.b (.deferred none)):=a.putBlock j p (fun _ _ _ _ e=>by cases e) (fun f z g=>by
    rw[j] at g;cases g;exact⟨p,f⟩)
   obtain⟨w',x,y⟩:=ztl (fr:={ fr with defers:=r }) cs q h m hm rfl;exact⟨w',x,.head (zxz hm hd hw) y⟩
  ·cases h
def ER.start {C:CM}{args:List AV}{vs:List Value}(hv:VRs C args vs){n:Nat}(hn:n≤Io)(hl:args.length≤n):ER n C (Ju args 0 .e) (vs.toArray++Array.replicate (n - vs.toArray.size) undef):=by
 have hlen:=hv.length;refine⟨by simp;omega,hn,fun t ht=>?_⟩;rw[get_ofList args 0 .e t,Qz];rw[Bk];by_cases h:t<args.length
 ·rw[Ai ⟨Dd _,by omega⟩];obtain⟨a,v,q1,q2,q3⟩:=hv.get' h;rw[Nat.sub_zero,q1];rw[Dg (by simp;omega)];simp only[B7,q2,B9];exact q3
 ·rw[Ab (by omega)];show _=undef;rw[Array.getElem?_append_right (by simp;omega),Array.getElem?_replicate];split<;>rfl
def Tq {C:CM}:∀(f:List Tmp) (args:List AV) (vs:List Value) {n:Nat} {E j:Tr AV} {g:Array Value},yu f args n E=some j→VRs C args vs→ER n C E g →
  f.length=vs.length∧ER n C j ((f.zip vs).foldl (fun tmps (t,a)=>tmps.setIfInBounds t a) g):=by
 intro f
 induction f with
 |nil =>
  intro args vs n E j g h hv l;cases hv with
  |nil=>cases h;exact⟨rfl,l⟩
  |cons e es=>cases h
 |cons p f q =>
  intro args vs n E j g h hv l;cases hv with
  |nil=>cases h
  |cons e es =>
   simp only[yu] at h;split at h
   ·rename_i r;have m:p<n:=As r;have o:=ER.put (a:={ tmps:=g,defers:=[] }) l (d:=some p) (fun t s=>by cases s;exact m) e;obtain⟨w,x⟩:=q _ _ h es o;exact⟨by simp[w],x⟩
   ·cases h
def zzn {P:Program}(hm:P.follows .mixedOrders=true){k:Jh}(hk:Yk P k){f m:Nat}{p:World}{C:CM}{H H':Heap}{w:World}{args:List AV}{vs:List Value}{v:AV}(S:Rel p C H w)(hv:VRs C args vs)
  (h:(j2 P f).run k m args H=.ok v H'):zo2 P p C w (.fn f) vs v H':=by
 unfold j2 at h;split at h
 ·cases h
 ·rename_i fn z;split at h
  ·cases h
  ·rename_i body A;split at h
   ·rename_i j;dsimp only at h;split at h
    ·cases h
    ·rename_i hlen;have g:args.length≤fn.ntmps:=As hlen;split at h
     ·cases h
     ·rename_i x E D H1 o;intro cs;let b:Frame:={ (default:Frame) with fn:=f,kind:=.normal,roundOf:=none };have d:Frame.enter P f vs.toArray .normal=b.atR { tmps:=vs.toArray++Array.replicate (fn.ntmps - vs.toArray.size) undef,defers:=[] } [.code body]:=by
       simp[Frame.enter,Frame.atR,z,A,b]
      obtain⟨K,T,L,M,q,B⟩:=Xt hm f fn.ntmps body k hk m none p C (Ju args 0 .e) [] H { tmps:=vs.toArray++Array.replicate (fn.ntmps - vs.toArray.size) undef,defers:=[] } w b x E D H1
       ⟨S,ER.start hv j g,.nil⟩ rfl trivial o [] cs
      rw[←d] at B;have key:∀todo,Steps P (lone (Frame.enter P f vs.toArray .normal) cs w) (lone { b.atR L todo with mode:=.returning } cs T) →
        (match qe D H1 with
         |none=>RV.no
         |some r=>match (ju P fn.results.toList).run E r with
          |some [v]=>.ok v r
          |some l=>.ok (.tup l) r
          |none=>.no)=.ok v H' →
        ∃F w' N fr,C.le F∧Rel p F H' w'∧VR F v N∧Steps P (lone (Frame.enter P f vs.toArray .normal) cs w) (lone fr cs w')∧fr.fn=f∧fr.leaving P w' (.returned N):=by
       intro todo O he;split at he
       ·cases he
       ·rename_i r G;obtain⟨Q,y,R⟩:=ztl (fr:={ b.atR L todo with mode:=.returning }) cs q.defs G q.rel rfl rfl;split at he
        ·rename_i v1 a;cases he;obtain⟨I,s1,s2⟩:=zka (fn:=fn) y q.env a;exact⟨K,Q,I,_,M,y,s2,Steps.trans O R,rfl,rfl,rfl,rfl,fn,z,s1⟩
        ·rename_i l J a;cases he;obtain⟨I,s1,s2⟩:=zka (fn:=fn) y q.env a;refine⟨K,Q,I,_,M,y,?_,Steps.trans O R,rfl,rfl,rfl,rfl,fn,z,s1⟩;rcases l with _|⟨u,_|⟨V,l⟩⟩
         ·exact s2
         ·exact absurd rfl (J u)
         ·exact s2
        ·cases he
      cases x with
      |exit id=>cases h
      |normal=>exact key [] (Steps.trans B (.one (stepR_end rfl))) h
      |ret =>
       obtain⟨U,s⟩:=B;exact key (.code .ret::U) (Steps.trans s (.one (stepR_ret rfl))) h
   ·cases h
def zrv {P:Program}{l:Nat}{x:Ex}{H H':Heap}{v:AV}(h:zhp l x H=.ok v H'){y:World}{C:CM}{w:World}(p:Rel y C H w){L:Loc}(m:C l 0=some L) :
  ∃w' z,(Instr.endRound L.b (match x with
   |.normal=>none
   |.ret=>some .ret
   |.exit id=>some (.exit id))).run P w=.ok z w'∧Rel y C H' w'∧VR C v z:=by
 unfold zhp at h;split at h
 ·rename_i st pend f n E D a b d B;obtain⟨o,q,r,hd,hw,s⟩:=p.obj _ _ (p.fresh _ _ _ m) B L m;split at h
  ·cases h;refine⟨_,_,run_endRound none hw,p.putBlock m o (fun _ _ _ _ e=>by cases e) (fun g A j=>?_),.bool true⟩;rw[m] at j;cases j;exact⟨o,q,r,hd,g,s⟩
  ·cases h;refine⟨_,_,run_endRound (some .ret) hw,p.putBlock m o (fun _ _ _ _ e=>by cases e) (fun g A j=>?_),.bool false⟩;rw[m] at j;cases j;exact⟨o,q,r,hd,g,s⟩
  ·rename_i id;cases h;refine⟨_,_,run_endRound (some (.exit id)) hw,p.putBlock m o (fun _ _ _ _ e=>by cases e) (fun g A j=>?_),.bool false⟩;rw[m] at j;cases j;exact⟨o,q,r,hd,g,s⟩
 ·cases h
def Xd {P:Program}{l:Nat}{H H':Heap}(h:zsw l H=some H'){p:World}{C:CM}{w:World}(o:Rel p C H w){L:Loc}(m:C l 0=some L) :
  ∃w',(Instr.beginRound L.b).run P w=.ok () w'∧Rel p C H' w':=by
 unfold zsw at h;split at h
 ·rename_i pend f n E z a b d r;cases h;obtain⟨q,s,x,hd,hw,y⟩:=o.obj _ _ (o.fresh _ _ _ m) r L m;refine⟨_,run_beginRound hw rfl,o.putBlock m q (fun _ _ _ _ e=>by cases e) (fun g A j=>?_)⟩;rw[m] at j;cases j;exact⟨q,s,x,hd,g,y⟩
 ·cases h
def zjh {P:Program}(hm:P.follows .mixedOrders=true){O:Jh}(S:Yk P O):∀m,Yk P (Kq P O m)
 |0=>fun _ _ _ _ _ _ _ _ _ _ _ h=>by cases h
 |m+1=>by
  have B:=zjh hm S m;intro T C H w t args vs v H' o hv h;unfold Kq at h;cases t with
  |fn f =>
   dsimp only at h;split at h
   ·rename_i v1 H1 ho;cases h;exact S _ _ _ _ _ _ _ _ _ o hv ho
   ·exact zzn hm B o hv h
  |yield l =>
   dsimp only at h;split at h
   ·rename_i f n E p a b d V;split at h
    ·cases h
    ·rename_i E1 F;split at h
     ·rename_i U W G;split at h
      ·cases h
      ·rename_i I J;split at h
       ·cases h
       ·rename_i x X D Y K;split at h
        ·intro L q c cs;obtain⟨hB,r,Ld,hd,hw,Z⟩:=o.obj _ _ (o.fresh _ _ _ q) V L q;obtain⟨hlen,M⟩:=Tq _ _ _ F hv Z;have N:=run_yield (P:=P) (args:=vs.toArray) hw (by simpa using hlen.symm);dsimp only at N;have j:((p.zip vs.toArray).foldl (fun tmps (t,a)=>tmps.setIfInBounds t a) r)=((p.toList.zip vs).foldl (fun tmps (t,a)=>tmps.setIfInBounds t a) r):=by
          rw[←Array.foldl_toList,Array.toList_zip]
         rw[j] at N;let y:Frame:={ (default:Frame) with fn:=f,kind:=.normal,roundOf:=some L.b };have z:RO C (some l) y.roundOf:=⟨L,q,rfl⟩;obtain⟨C1,w1,a1,A,Q,q3⟩:=Xt hm f n a (Kq P O m) B m (some l) T C E1 [] H { tmps:=(p.toList.zip vs).foldl (fun tmps (t,a)=>tmps.setIfInBounds t a) r,defers:=[] } w y .normal U [] W
          ⟨o,M,.nil⟩ rfl z G [.beginRound,.code b] (c::cs)
         obtain⟨w2,r1,r2⟩:=Xd (P:=P) J Q.rel (A.keep _ _ _ q);obtain⟨C2,w3,a3,s1,s2,R⟩:=Xt hm f n b (Kq P O m) B m (some l) T C1 U [] I a1 w2 y x X [] Y ⟨r2,Q.env,Q.defs⟩ rfl (z.mono A) K [] (c::cs);obtain⟨w4,xv,t1,t2,t3⟩:=zrv (P:=P) h s2.rel (s1.keep _ _ _ (A.keep _ _ _ q));refine⟨C2,w4,xv,f,_,a,b,CM.le_trans A s1,t2,t3,N,?_⟩;have g:Frame.round L.b f ((p.toList.zip vs).foldl (fun tmps (t,a)=>tmps.setIfInBounds t a) r) a b .normal=y.atR { tmps:=(p.toList.zip vs).foldl (fun tmps (t,a)=>tmps.setIfInBounds t a) r,defers:=[] } [.code a,.beginRound,.code b]:=by
          simp[Frame.round,Frame.atR,y]
         rw[g];refine Steps.trans q3 (.head (stepR_beginRound rfl r1) ?_);cases x with
         |normal=>exact Steps.trans R (.one (stepR_round_end rfl rfl t1))
         |ret =>
          obtain⟨k1,s⟩:=R;exact Steps.trans s (.one (stepR_round_ret rfl rfl t1))
         |exit id =>
          obtain⟨k1,e,s⟩:=R;exact Steps.trans s (.one (stepR_round_exit rfl rfl e t1))
        ·cases h
     ·cases h
   ·cases h
def Rel.start (w:World):Rel w ⟨fun _ _=>none,0⟩ ⟨.e,0⟩ w :=
 ⟨rfl,.refl _ _,fun _ _ _ h=>(by cases h),fun _ _ _ h=>(by cases h),fun _ _ _ _ _ _ h=>(by cases h),fun _ _ h=>absurd h (Ei _),fun _ _ _ _ _ h=>absurd h (Ei _)⟩
end Go.Sv
namespace Go.Sv
open Go.RowKit Go.ChangeShapes Go.WideShapes Go.ChangeAt
variable {H : Type} {enc : TypeId × Value → H} {P : Program}
def zuf {f:Func}{s:ChangeSpec}{apart fresh handsOn again:Bool}{W m:World}{args:Array Value}{v:Value}{o gs:List (DataW H)}{before pa pv:List MemPlace}
  (y:DataW.Whole enc P f.params.toList s.vars apart W args.toList o gs before)
  (h:∀(b:Nat) (sp:Nat→Bool) (hd:Bool),DataW.TrodAll enc P m b sp hd f.resultTypes.toList (v.resultList f.resultTypes.size) (s.fn H (o++gs)).results [])
  (a:∀sp:Nat→Bool,(∀p∈before,sp p.block=true)→DataW.TrodAll enc P m 0 sp true f.params.toList args.toList (s.fn H (o++gs)).args pa)
  (d:∀sp:Nat→Bool,(∀p∈before,sp p.block=true)→DataW.TrodVars enc P m sp s.vars (s.fn H (o++gs)).vars pv)
  (g:before=pa++pv) (A:Below W.heap.size W m)
  (z:∀(j:Nat) (t:TypeId) (r:Value),f.resultTypes[j]?=some t→(v.resultList f.resultTypes.size)[j]?=some r→Value.okWide P m .any 0 t r) :
  s.post enc P f apart fresh handsOn again W args v m:=by
 have q:=y.lt;obtain⟨_,_,_,_,_,B,C⟩:=id y;have w:∀p∈before,(fun b=>decide (b<W.heap.size)) p.block=true:=fun p l=>by simpa using q p l
 refine⟨o,gs,before,[],pa,pv,y,h _ _ _,a _ w,d _ w,World.keptBut_mono (fun p l=>⟨l,.inr (Ay.1 (g ▸ l))⟩) (A.frame (·∈before)),fun _=>?_⟩;refine⟨z,_,_,([]++pa)++pv,⟨[]++pa,pv,trodAll_append (a _ (fun _ _=>rfl)) (h _ _ _),d _ (fun _ _=>rfl),rfl,fun b off l=>?_,fun D=>?_⟩,fun p l _=>by rw[g];simpa using l⟩
 ·have x:MemPlace.cell b off∈before:=by rw[g];simpa using l
  rw[A.frozen (p:=⟨b,off,none⟩) (q _ x)];exact B b off x
 ·have:=C D;rw[g] at this;simpa using this
end Go.Sv
namespace Go.Sv
def Jh.le (k k':Jh):Prop:=∀t a H v H',k t a H=.ok v H'→k' t a H=.ok v H'
def vj {P:Program}{n:Nat}{ops:Array Oper}{o:Oper}{k k':Jh}(hk:k.le k'){E f:Tr AV}{H H':Heap}(h:(I8 P n ops o).run k E H=.ok f H'):(I8 P n ops o).run k' E H=.ok f H':=by
 unfold I8 at h ⊢;cases g:Jb n o.dst with
 |none=>rw[g] at h;cases h
 |some p =>
  rw[g] at h;dsimp only at h ⊢;cases j:(Kz ops o).run E with
  |false=>rw[j] at h;exact h
  |true =>
   rw[j] at h;dsimp only at h ⊢;cases a:(Gg P o.op).run E H with
   |no=>rw[a] at h;cases h
   |val v l=>rw[a] at h;exact h
   |call t args =>
    rw[a] at h;dsimp only at h ⊢;cases d:k t args H with
    |no=>rw[d] at h;cases h
    |ok v l=>rw[d] at h;rw[hk _ _ _ _ _ d];exact h
def zt {r:OE}{f:Tr AV→Heap→OE}{a:Tr AV}{H':Heap}(h:(OE.rec .no f r:OE)=.ok a H'):∃E1 H1,r=.ok E1 H1∧f E1 H1=.ok a H':=by
 cases r with
 |no=>cases h
 |ok E1 H1=>exact⟨E1,H1,rfl,h⟩
def zbj {P:Program}{n:Nat}{ops:Array Oper}{k k':Jh}(hk:k.le k'):∀{l:List Oper} {E a:Tr AV} {H H':Heap},(Xu P n ops l).run k E H=.ok a H'→(Xu P n ops l).run k' E H=.ok a H'
 |[],_,_,_,_,h=>h
 |o::l,E,a,H,H',h=>by
  simp only[Xu] at h ⊢;obtain⟨E1,H1,d,f⟩:=zt h;rw[vj hk d];exact zbj hk f
def uf {P:Program}{n:Nat}{ops:Array Oper}{k k':Jh}(hk:k.le k'):∀{l pend:List DOp} {E f:Tr AV} {H H':Heap},(Nh P n ops l pend).run k E H=.ok f H'→(Nh P n ops l pend).run k' E H=.ok f H'
 |[],_,_,_,_,_,h=>h
 |x::l,pend,E,f,H,H',h=>by
  simp only[Nh] at h ⊢;split at h
  ·rename_i g;obtain⟨E1,H1,a,d⟩:=zt h;dsimp only;rw[vj hk a];exact uf hk d
  ·rename_i g;obtain⟨E1,H1,a,d⟩:=zt h;dsimp only;rw[vj hk a];exact uf hk d
  ·rename_i g;obtain⟨E1,H1,a,d⟩:=zt h;obtain⟨j,m⟩:=z9s d;dsimp only;rw[vj hk a];dsimp only;rw[j];exact uf hk m
  ·rename_i g;obtain⟨E1,H1,a,d⟩:=zt h;obtain⟨j,m⟩:=z9s d;dsimp only;rw[vj hk a];dsimp only;rw[j];exact uf hk m
def zlx {P:Program}{n:Nat}{ops:Array Oper}{k k':Jh}(hk:k.le k'){E a:Tr AV}{H H':Heap}(h:(pg P n ops).run k E H=.ok a H'):(pg P n ops).run k' E H=.ok a H':=by
 unfold pg at h ⊢;dsimp only at h ⊢;split at h
 ·exact uf hk h
 ·cases h
def zc8 {f g:Tr AV→List Nat→Heap→Res}(l:∀E D H x a d H',f E D H=.ok x a d H'→g E D H=.ok x a d H'):∀{m j:Nat},m≤j→∀{E D H x a d H'},Un f m E D H=.ok x a d H'→Un g j E D H=.ok x a d H'
 |0,_,_,_,_,_,_,_,_,_,h=>by cases h
 |m+1,0,hm,_,_,_,_,_,_,_,_=>by omega
 |m+1,j+1,hm,E,D,H,x,a,d,H',h=>by
  simp only[Un] at h ⊢;split at h
  ·cases h
  ·rename_i y E1 p H1 o;rw[l _ _ _ _ _ _ _ o];dsimp only;split at h
   ·exact zc8 l (by omega) h
   ·exact h
def kz {P:Program}{f n:Nat}{k k':Jh}(hk:k.le k'){m w:Nat}(hm:m≤w){ro:Option Nat}:∀(c:Code) {E:Tr AV} {D:List Nat} {H:Heap} {x:Ex} {d:Tr AV} {j:List Nat} {H':Heap},
  (Ig P f n c).run k m ro E D H=.ok x d j H'→(Ig P f n c).run k' w ro E D H=.ok x d j H':=by
 intro c
 induction c with
 |skip=>intro E D H x d j H' h;exact h
 |region id ops draw =>
  intro E D H x d j H' h;simp only[Ig] at h ⊢;cases draw with
  |true =>
   dsimp only at h ⊢;split at h
   ·cases h
   ·rename_i E1 H1 o;rw[zlx hk o];exact h
  |false =>
   dsimp only at h ⊢;split at h
   ·cases h
   ·rename_i E1 H1 o;rw[zbj hk o];exact h
 |seq a b p q =>
  intro E D H x d j H' h;simp only[Ig] at h ⊢;cases s:(Ig P f n a).run k m ro E D H with
  |no=>rw[s] at h;cases h
  |ok y E1 z H1 =>
   rw[s] at h;rw[p s];dsimp only at h ⊢;cases y with
   |normal=>exact q h
   |exit id=>exact h
   |ret=>exact h
 |cond c a b p q =>
  intro E D H x d j H' h;simp only[Ig] at h ⊢;split at h
  ·split at h
   ·exact p h
   ·exact q h
  ·cases h
 |block id c r =>
  intro E D H x d j H' h;simp only[Ig] at h ⊢;split at h
  ·cases h
  ·rename_i y E1 z H1 o;rw[r o];exact h
 |loop c r =>
  intro E D H x d j H' h;simp only[Ig] at h ⊢;exact zc8 (fun E D H x d j H' h=>r h) hm h
 |rangeFunc g A a b _ _ =>
  intro E D H x d j H' h;simp only[Ig] at h ⊢;split at h
  ·cases h
  ·split at h
   ·cases h
   ·split at h
    ·split at h
     ·cases h
     ·rename_i v B o;rw[hk _ _ _ _ _ o];exact h
    ·cases h
 |exit id=>intro E D H x d j H' h;exact h
 |scope c r=>intro E D H x d j H' h;exact r h
 |label l=>intro E D H x d j H' h;exact h
 |ret=>intro E D H x d j H' h;exact h
 |_=>intro E D H x d j H' h;cases h
def zqk {P:Program}{f:Nat}{k k':Jh}(hk:k.le k'){m d:Nat}(hm:m≤d){args:List AV}{H:Heap}{v:AV}{H':Heap}(h:(j2 P f).run k m args H=.ok v H'):(j2 P f).run k' d args H=.ok v H':=by
 unfold j2 at h ⊢;cases g:P.funcs[f]? with
 |none=>rw[g] at h;cases h
 |some fn =>
  rw[g] at h;dsimp only at h ⊢;cases j:fn.body with
  |none=>rw[j] at h;cases h
  |some body =>
   rw[j] at h;dsimp only at h ⊢;by_cases l:fn.ntmps≤Io
   ·rw[Ai l] at h ⊢;dsimp only at h ⊢;cases o:Nat.ble args.length fn.ntmps with
    |false=>rw[o] at h;cases h
    |true =>
     rw[o] at h;dsimp only at h ⊢;cases a:(Ig P f fn.ntmps body).run k m none (Ju args 0 .e) [] H with
     |no=>rw[a] at h;cases h
     |ok x E D H1=>rw[a] at h;rw[kz hk hm _ a];exact h
   ·rw[Ab l] at h;cases h
def Xz {P:Program}{O:Jh}:∀{m g:Nat},m≤g→Jh.le (Kq P O m) (Kq P O g)
 |0,_,_=>fun t a H v H' h=>by cases h
 |m+1,0,h=>by omega
 |m+1,g+1,hm=>by
  have j:=Xz (P:=P) (O:=O) (show m≤g by omega);intro t a H v H' h;unfold Kq at h ⊢;cases t with
  |fn f =>
   dsimp only at h ⊢;cases ho:O (.fn f) a H with
   |no=>rw[ho] at h;exact zqk j (by omega) h
   |ok v1 H1=>rw[ho] at h;exact h
  |yield l =>
   dsimp only at h ⊢;split at h
   ·rename_i f n E s A b d B;cases q:yu s.toList a n E with
    |none=>rw[q] at h;cases h
    |some E1 =>
     rw[q] at h;dsimp only at h ⊢;split at h
     ·rename_i w y z;rw[kz j (by omega) _ z];dsimp only;cases r:zsw l y with
      |none=>rw[r] at h;cases h
      |some o =>
       rw[r] at h;dsimp only at h ⊢;cases p:(Ig P f n b).run (Kq P O m) m (some l) w [] o with
       |no=>rw[p] at h;cases h
       |ok x C D F=>rw[p] at h;rw[kz j (by omega) _ p];exact h
     ·cases h
   ·cases h
end Go.Sv
noncomputable section
namespace Go.Sv
abbrev Vm:=Nat→Option AV
def Ni (E:Tr AV)(ρ:Vm):Prop:=∀t,t≤Io→E3 (Fl t) E=ρ t
inductive Ox where
 |t (i:Nat)
 |c (a:AV)
def Ox.ev (ρ:Vm):Ox→AV
 |.t i=>(ρ i).getD J3
 |.c a=>a
def Gq:Operand→Option Ox
 |.tmp t=>if t≤Io then some (.t t) else none
 |.const v=>(P8 v).map .c
 |.func f=>some (.c (.fn (.func f) [] []))
 |.global _=>none
def M8 {x:Operand}{r:Ox}(h:Gq x=some r){E:Tr AV}{ρ:Vm}(j:Ni E ρ):(Fq x).run E=some (r.ev ρ):=by
 cases x with
 |tmp t =>
  simp only[Gq] at h;split at h
  ·rename_i d;cases h;unfold Fq;dsimp only;rw[Ak d];dsimp only;rw[j t d];simp only[Ox.ev];cases ρ t<;>rfl
  ·cases h
 |const v =>
  simp only[Gq] at h;cases hv:P8 v with
  |none=>rw[hv] at h;cases h
  |some a=>rw[hv] at h;cases h;unfold Fq;dsimp only;rw[hv];rfl
 |global g=>cases h
 |func f=>cases h;rfl
def Yu:List Operand→Option (List Ox)
 |[]=>some []
 |x::l=>match Gq x with
  |none=>none
  |some r=>match Yu l with
   |none=>none
   |some rs=>some (r::rs)
def resOs_ok:∀{l:List Operand} {rs:List Ox},Yu l=some rs→∀{E:Tr AV} {ρ:Vm},Ni E ρ→(opds l).run E=some (rs.map (·.ev ρ))
 |[],rs,h,E,ρ,a=>by cases h;rfl
 |x::l,rs,h,E,ρ,a=>by
  simp only[Yu] at h;cases d:Gq x with
  |none=>rw[d] at h;cases h
  |some r =>
   rw[d] at h;dsimp only at h;cases f:Yu l with
   |none=>rw[f] at h;cases h
   |some g =>
    rw[f] at h;cases h;unfold opds;dsimp only;rw[M8 d a,resOs_ok f a];rfl
def Yh:Option Operand→Option (Option Ox)
 |none=>some none
 |some x=>match Gq x with
  |none=>none
  |some r=>some (some r)
def H8 (ρ:Vm):Option Ox→Option (Option Nat)
 |none=>some none
 |some r=>match r.ev ρ with
  |.int _ (.ofNat n)=>some (some n)
  |_=>none
def j3 {x:Option Operand}{r:Option Ox}(h:Yh x=some r){E:Tr AV}{ρ:Vm}(f:Ni E ρ):(Ir x).run E=H8 ρ r:=by
 cases x with
 |none=>cases h;rfl
 |some x =>
  simp only[Yh] at h;cases d:Gq x with
  |none=>rw[d] at h;cases h
  |some q =>
   rw[d] at h;cases h;unfold Ir H8;dsimp only;rw[M8 d f];generalize q.ev ρ=a;split
   ·rename_i n e;cases e;rfl
   ·rename_i e;split
    ·rename_i k n;exact absurd rfl (e k n)
    ·rfl
inductive ROp where
 |move (x:Ox)
 |pick (c a b:Ox)
 |alloc (l:List AV)
 |box (x:Ox)
 |build (cs:List AV) (ps:List (Nat×Nat×Ox))
 |buildSl (size len:Nat) (cs:List AV) (ps:List (Nat×Nat×Ox))
 |load1 (x:Ox)
 |loadN (n:Nat) (x:Ox)
 |store (n:Nat) (x y:Ox)
 |nilChk (x:Ox)
 |bin (op:BinOp) (g:Bool) (t:TypeId) (x y:Ox)
 |un (op:UnOp) (x:Ox)
 |cvInt (k:IntKind) (x:Ox)
 |cvStr (x:Ox)
 |cvSame (x:Ox)
 |cvBytes (x:Ox)
 |mkIface (t:TypeId) (x:Ox)
 |mkFunc (f:Fn) (first cap:List Ox)
 |mkMap0
 |mkMap1 (x:Ox)
 |mkSl (size:Nat) (z:List AV) (l c:Ox)
 |slStr (x:Ox) (lo hi:Option Ox)
 |slSl (size:Nat) (x:Ox) (lo hi mx:Option Ox)
 |slArr (n size:Nat) (x:Ox) (lo hi mx:Option Ox)
 |fieldAddr (off:Nat) (x:Ox)
 |field (g:Bool) (n off:Nat) (x:Ox)
 |ixAddr (size:Nat) (x i:Ox)
 |ixAddrArr (len size:Nat) (x i:Ox)
 |ixStr (x i:Ox)
 |ixArr (g:Bool) (len size:Nat) (x i:Ox)
 |lookup (d:TypeDesc) (z:AV) (ok:Bool) (x i:Ox)
 |mapUpd (d:TypeDesc) (m k v:Ox)
 |range (x:Ox)
 |next (x:Ox)
 |assert (z:AV) (ok:Bool) (t:TypeId) (x:Ox)
 |extract (i:Nat) (x:Ox)
 |lenStr (x:Ox)
 |lenSl (x:Ox)
 |lenMap (x:Ox)
 |lenArr (n:Nat) (x:Ox)
 |cap (x:Ox)
 |maxi (mx:Bool) (l:List Ox)
 |appZ (size:Nat) (z:List AV) (s x:Ox)
 |appG (size:Nat) (s x:Ox)
 |copy (size:Nat) (d x:Ox)
 |clear (size:Nat) (z:List AV) (x:Ox)
 |delete (d:TypeDesc) (m k:Ox)
 |callV (f:Ox) (args:List Ox)
 |invoke (r:Ox) (name:String) (args:List Ox)
def fillR (ρ:Vm)(cs:List AV):List (Nat×Nat×Ox)→Option (List AV)
 |[]=>some cs
 |(off,size,x)::a=>match (x.ev ρ).cells with
  |none=>none
  |some l=>match Nat.beq l.length size with
   |true=>match Nat.ble (Nat.add off size) cs.length with
    |true=>fillR ρ (M2 cs off l) a
    |false=>none
   |false=>none
def Ha (P:Program)(ρ:Vm)(H:Heap):ROp→OR
 |.move x=>.val (x.ev ρ) H
 |.pick c a b=>match c.ev ρ with
  |.bool true=>.val (a.ev ρ) H
  |.bool false=>.val (b.ev ρ) H
  |_=>.no
 |.alloc l=>Qd H l
 |.box x=>match (x.ev ρ).cells with
  |some l=>Qd H l
  |none=>.no
 |.build cs q=>match fillR ρ cs q with
  |some l=>.val (.agg l) H
  |none=>.no
 |.buildSl size len cs q=>match fillR ρ cs q with
  |some l=>match newObj H l with
   |some (o,H')=>.val (.sl o 0 0 len size (some len)) H'
   |none=>.no
  |none=>.no
 |.load1 x=>match x.ev ρ with
  |.ptr o v i=>match Jd H o v i 1 with
   |some [c]=>.val c H
   |_=>.no
  |_=>.no
 |.loadN n x=>match x.ev ρ with
  |.ptr o v i=>match Jd H o v i n with
   |some l=>.val (.agg l) H
   |none=>.no
  |_=>.no
 |.store n x y=>match x.ev ρ with
  |.ptr o v i=>match (y.ev ρ).cells with
   |some l=>match Nat.beq l.length n with
    |true=>match Oz H o v i l with
     |some H'=>.val J3 H'
     |none=>.no
    |false=>.no
   |none=>.no
  |_=>.no
 |.nilChk x=>pz H (x.ev ρ)
 |.bin op g t x y=>ret1 H (Hx P op g t (x.ev ρ) (y.ev ρ))
 |.un op x=>ret1 H (unA op (x.ev ρ))
 |.cvInt k x=>match x.ev ρ with
  |.int _ n=>.val (.int k (Ny k n)) H
  |_=>.no
 |.cvStr x=>match x.ev ρ with
  |.nilSl=>.val (.str 0 0) H
  |.sl o v i len 1 _=>match Jd H o v i len with
   |some l=>match O1.bytesA l with
    |some n=>.val (.str len n) H
    |none=>.no
   |none=>.no
  |_=>.no
 |.cvSame x=>match x.ev ρ with
  |.str l n=>.val (.str l n) H
  |_=>.no
 |.cvBytes x=>match x.ev ρ with
  |.str len n=>match newObj H ((Oy len n).map fun (b:Nat)=>AV.int .u8 (Int.ofNat b)) with
   |some (o,H')=>.val (.sl o 0 0 len 1 none) H'
   |none=>.no
  |_=>.no
 |.mkIface t x=>.val (.iface t (x.ev ρ)) H
 |.mkFunc f first cap=>.val (.fn f (first.map (·.ev ρ)) (cap.map (·.ev ρ))) H
 |.mkMap0=>Rq H
 |.mkMap1 x=>match x.ev ρ with
  |.int _ _=>Rq H
  |_=>.no
 |.mkSl size z l c=>match l.ev ρ,c.ev ρ with
  |.int .i64 (.ofNat l),.int .i64 (.ofNat c)=>match Nat.ble l c with
   |true=>match Nat.ble c 1048576 with
    |true=>match newObj H (Lu z c) with
     |some (o,H')=>.val (.sl o 0 0 l size (some c)) H'
     |none=>.no
    |false=>.no
   |false=>.no
  |_,_=>.no
 |.slStr x lo hi=>match x.ev ρ,H8 ρ lo,H8 ρ hi with
  |.str len n,some lo,some hi =>
   let l:=lo.getD 0;let h:=hi.getD len
   match Nat.ble l h with
   |true=>match Nat.ble h len with
    |true=>.val (.str (Nat.sub h l) (Nat.mod (Nat.div n (Nat.pow 256 l)) (Nat.pow 256 (Nat.sub h l)))) H
    |false=>.no
   |false=>.no
  |_,_,_=>.no
 |.slSl size x lo hi mx=>match x.ev ρ,H8 ρ lo,H8 ρ hi,H8 ρ mx with
  |.sl o v i len esz room,some lo,some hi,some mx=>ret1 H (Ok size lo hi mx o v i len esz room)
  |.nilSl,some lo,some hi,some none=>match Nat.beq (Nat.add (lo.getD 0) (hi.getD 0)) 0 with
   |true=>.val .nilSl H
   |false=>.no
  |.emp,some lo,some hi,some none=>match Nat.beq (Nat.add (lo.getD 0) (hi.getD 0)) 0 with
   |true=>.val .emp H
   |false=>.no
  |_,_,_,_=>.no
 |.slArr n size x lo hi mx=>match x.ev ρ,H8 ρ lo,H8 ρ hi,H8 ρ mx with
  |.ptr o v i,some lo,some hi,some mx=>match H.get o with
   |some (.cells _ p w false)=>match Nat.beq v w with
    |true=>match Nat.ble (Nat.add i (Nat.mul n size)) p with
     |true=>ret1 H (Ok size lo hi mx o v i n size (some n))
     |false=>.no
    |false=>.no
   |_=>.no
  |_,_,_,_=>.no
 |.fieldAddr off x=>match x.ev ρ with
  |.ptr o v i=>.val (.ptr o v (Nat.add i off)) H
  |_=>.no
 |.field g n off x=>match x.ev ρ with
  |.agg l=>ret1 H (V1 g n l off)
  |_=>.no
 |.ixAddr size x i=>match x.ev ρ,i.ev ρ with
  |.sl o v i len esz _,.int _ (.ofNat n)=>match Nat.blt n len with
   |true=>match Nat.beq esz size with
    |true=>.val (.ptr o v (Nat.add i (Nat.mul n esz))) H
    |false=>.no
   |false=>.no
  |_,_=>.no
 |.ixAddrArr len size x i=>match x.ev ρ,i.ev ρ with
  |.ptr o v i,.int _ (.ofNat n)=>match Nat.blt n len with
   |true=>.val (.ptr o v (Nat.add i (Nat.mul n size))) H
   |false=>.no
  |_,_=>.no
 |.ixStr x i=>match x.ev ρ,i.ev ρ with
  |.str len n,.int _ (.ofNat i)=>match Nat.blt i len with
   |true=>.val (.int .u8 (Int.ofNat (Nat.mod (Nat.div n (Nat.pow 256 i)) 256))) H
   |false=>.no
  |_,_=>.no
 |.ixArr g len size x i=>match x.ev ρ,i.ev ρ with
  |.agg l,.int _ (.ofNat n)=>match Nat.blt n len with
   |true=>ret1 H (V1 g size l (Nat.mul n size))
   |false=>.no
  |_,_=>.no
 |.lookup d z ok x i=>match zd H (x.ev ρ) with
  |none=>.no
  |some es=>match j4 d (i.ev ρ) es with
   |some (some v)=>.val (if ok then .tup [v,.bool true] else v) H
   |some none=>.val (if ok then .tup [z,.bool false] else z) H
   |none=>.no
 |.mapUpd d m k v=>match m.ev ρ with
  |.map o=>match H.get o with
   |some (.map es clock)=>match ky d (k.ev ρ) (v.ev ρ) clock es with
    |some (j,true)=>.val J3 (H.put o (.map j (Nat.add clock 1)))
    |some (j,false)=>.val J3 (H.put o (.map j clock))
    |none=>.no
   |_=>.no
  |_=>.no
 |.range x=>match x.ev ρ with
  |.str len n=>.val (.ptr H.next 0 0) (H.push (.iter len n 0))
  |_=>.no
 |.next x=>match x.ev ρ with
  |.ptr o 0 0=>match H.get o with
   |some (.iter len n pos)=>match Nat.blt pos len with
    |true=>match Nat.blt (Nat.mod (Nat.div n (Nat.pow 256 pos)) 256) 128 with
     |true=>.val (.tup [.bool true,.int .i64 (Int.ofNat pos),.int .i32 (Int.ofNat (Nat.mod (Nat.div n (Nat.pow 256 pos)) 256))]) (H.put o (.iter len n (Nat.add pos 1)))
     |false=>.no
    |false=>.val (.tup [.bool false]) H
   |_=>.no
  |_=>.no
 |.assert z ok t x=>match x.ev ρ with
  |.nilIf=>if ok then .val (.tup [z,.bool false]) H else .no
  |.iface A v=>match Nat.beq A t with
   |true=>.val (if ok then .tup [v,.bool true] else v) H
   |false=>if ok then .val (.tup [z,.bool false]) H else .no
  |_=>.no
 |.extract i x=>match x.ev ρ with
  |.tup l=>ret1 H l[i]?
  |_=>.no
 |.lenStr x=>match x.ev ρ with
  |.str l _=>.val (.int .i64 (Int.ofNat l)) H
  |_=>.no
 |.lenSl x=>match x.ev ρ with
  |.sl _ _ _ len _ _=>.val (.int .i64 (Int.ofNat len)) H
  |.nilSl=>.val (.int .i64 0) H
  |.emp=>.val (.int .i64 0) H
  |_=>.no
 |.lenMap x=>match x.ev ρ with
  |.nilMap=>.val (.int .i64 0) H
  |.map o=>match H.get o with
   |some (.map es _)=>.val (.int .i64 (Int.ofNat es.length)) H
   |_=>.no
  |_=>.no
 |.lenArr n _=>.val (.int .i64 (Int.ofNat n)) H
 |.cap x=>match x.ev ρ with
  |.nilSl=>.val (.int .i64 0) H
  |.sl _ _ _ _ _ (some r)=>.val (.int .i64 (Int.ofNat r)) H
  |_=>.no
 |.maxi mx l=>match (l.map (fun (x:Ox)=>x.ev ρ):List AV) with
  |.int k n::l=>ret1 H (S6 mx (.int k n) l)
  |_=>.no
 |.appZ size z s x=>match x.ev ρ with
  |.int .i64 (.ofNat n)=>match Nat.ble n 1048576 with
   |true=>Pb H size (s.ev ρ) n (Lu z n)
   |false=>.no
  |_=>.no
 |.appG size s x=>match Vh H size (x.ev ρ) with
  |some (n,l)=>match Nat.ble n 1048576 with
   |true=>Pb H size (s.ev ρ) n l
   |false=>.no
  |none=>.no
 |.copy size d x=>match Vh H size (x.ev ρ) with
  |some (n,l)=>match d.ev ρ with
   |.nilSl=>.val (.int .i64 0) H
   |.emp=>.val (.int .i64 0) H
   |.sl o v i len esz _=>match Nat.beq esz size with
    |true=>match Oz H o v i (l.take (Nat.mul (Is n len) size)) with
     |some H'=>.val (.int .i64 (Int.ofNat (Is n len))) H'
     |none=>.no
    |false=>.no
   |_=>.no
  |none=>.no
 |.clear size z x=>match x.ev ρ with
  |.nilSl=>.val J3 H
  |.emp=>.val J3 H
  |.sl o v i len esz _=>match Nat.beq esz size with
   |true=>match Oz H o v i (Lu z len) with
    |some H'=>.val J3 H'
    |none=>.no
   |false=>.no
  |_=>.no
 |.delete d m k=>match m.ev ρ with
  |.map o=>match H.get o with
   |some (.map es clock)=>match zh9 d (k.ev ρ) es with
    |some j=>.val J3 (H.put o (.map j clock))
    |none=>.no
   |_=>.no
  |_=>.no
 |.callV f args=>zhs P H (f.ev ρ) (args.map (·.ev ρ))
 |.invoke r name args=>match r.ev ρ with
  |.iface t v=>match yq P t name with
   |some f=>match Y1 P f with
    |true=>.call (.fn f) (v::args.map (·.ev ρ))
    |false=>.no
   |none=>.no
  |_=>.no
def Yr (place:Nat→Option (Nat×Nat)):List (Nat×Operand)→Option (List (Nat×Nat×Ox))
 |[]=>some []
 |(i,x)::l=>match place i with
  |none=>none
  |some (o,s)=>match Gq x with
   |none=>none
   |some r=>match Yr place l with
    |none=>none
    |some q=>some ((o,s,r)::q)
def Hr (x:Operand)(f:Ox→ROp):Option ROp:=match Gq x with
 |none=>none
 |some r=>some (f r)
def Jy (x y:Operand)(f:Ox→Ox→ROp):Option ROp:=match Gq x with
 |none=>none
 |some r=>match Gq y with
  |none=>none
  |some q=>some (f r q)
def zgx (size:Nat)(f:Nat→Ox→Option Ox→Option Ox→Option Ox→ROp)(x:Operand)(lo hi mx:Option Operand):Option ROp :=
 match Gq x,Yh lo,Yh hi,Yh mx with
 |some r,some a,some b,some c=>some (f size r a b c)
 |_,_,_,_=>none
def zqe (P:Program)(c:Call):Option ROp :=
 match c.callee with
 |.builtin b=>match b with
  |.len=>match c.argTypes.toList,c.args.toList with
   |[t],[x]=>match P.underlying t with
    |some .string=>Hr x .lenStr
    |some (.slice _)=>Hr x .lenSl
    |some (.map _ _)=>Hr x .lenMap
    |some (.array n _)=>Hr x (.lenArr n)
    |_=>none
   |_,_=>none
  |.cap=>match c.argTypes.toList,c.args.toList with
   |[t],[x]=>match P.underlying t with
    |some (.slice _)=>Hr x .cap
    |_=>none
   |_,_=>none
  |.max=>match Yu c.args.toList with
   |some l=>some (.maxi true l)
   |none=>none
  |.min=>match Yu c.args.toList with
   |some l=>some (.maxi false l)
   |none=>none
  |.append=>match c.argTypes.toList,c.args.toList with
   |[st,a],[s,x]=>match P.underlying st,P.underlying a with
    |some (.slice elem),some d=>match P.info? elem,K3 P elem with
     |some i,some z=>if 0<i.size∧i.bytes≤65536 then match d with
      |.int _=>Jy s x (.appZ i.size z)
      |.slice _=>Jy s x (.appG i.size)
      |.string=>Jy s x (.appG i.size)
      |_=>none
      else none
     |_,_=>none
    |_,_=>none
   |_,_=>none
  |.copy=>match c.argTypes.toList,c.args.toList with
   |[st,_],[d,x]=>match P.underlying st with
    |some (.slice elem)=>match Hk P elem with
     |none=>none
     |some size=>if 0<size then Jy d x (.copy size) else none
    |_=>none
   |_,_=>none
  |.clear=>match c.argTypes.toList,c.args.toList with
   |[st],[x]=>match P.underlying st with
    |some (.slice elem)=>match Hk P elem,K3 P elem with
     |some size,some z=>if 0<size then Hr x (.clear size z) else none
     |_,_=>none
    |_=>none
   |_,_=>none
  |.delete=>match c.argTypes.toList,c.args.toList with
   |[mt,_],[m,k]=>match P.underlying mt with
    |some (.map key _)=>match Nr P key with
     |some d=>Jy m k (.delete d)
     |none=>none
    |_=>none
   |_,_=>none
  |_=>none
 |.value f=>match Gq f,Yu c.args.toList with
  |some g,some l=>some (.callV g l)
  |_,_=>none
 |.invoke r name=>match Gq r,Yu c.args.toList with
  |some g,some l=>some (.invoke g name l)
  |_,_=>none
def Kx (P:Program)(o:Op):Option ROp :=
 match o with
 |.move x |.assign x=>Hr x .move
 |.pick c a b=>match Gq c,Gq a,Gq b with
  |some c,some a,some b=>some (.pick c a b)
  |_,_,_=>none
 |.alloc t=>match K3 P t with
  |some l=>some (.alloc l)
  |none=>none
 |.box _ x=>Hr x .box
 |.build t parts=>match K3 P t with
  |none=>none
  |some cs=>match P.underlying t with
   |some (.struct fields)=>match uq P fields.toList with
    |none=>none
    |some pl=>match Yr (pl[·]?) parts.toList with
     |none=>none
     |some h=>some (.build cs h)
   |some (.array _ elem)=>match Hk P elem with
    |none=>none
    |some size=>match Yr (fun i=>some (i*size,size)) parts.toList with
     |none=>none
     |some h=>some (.build cs h)
   |_=>none
 |.buildSlice t len parts=>match P.underlying t with
  |some (.slice elem)=>match Hk P elem with
   |none=>none
   |some size=>match K3 P elem with
    |none=>none
    |some z=>if len*size≤2^20∧0<size then
      match Yr (fun i=>some (i*size,size)) parts.toList with
      |none=>none
      |some h=>some (.buildSl size len (Lu z len) h)
     else none
  |_=>none
 |.load t a=>match Lh P t,Hk P t with
  |some true,some n=>Hr a (.loadN n)
  |some false,some _=>Hr a .load1
  |_,_=>none
 |.store t a x=>match Hk P t with
  |some n=>Jy a x (.store n)
  |none=>none
 |.nilCheck x=>Hr x .nilChk
 |.binOp op t x y _=>Jy x y (.bin op (Qg x || Qg y) t)
 |.unOp op _ x=>Hr x (.un op)
 |.convert s d x=>match P.underlying s,P.underlying d with
  |some _,some (.int k)=>Hr x (.cvInt k)
  |some (.slice e),some .string=>match P.underlying e with
   |some (.int .u8)=>Hr x .cvStr
   |_=>none
  |some _,some .string=>Hr x .cvSame
  |some _,some (.slice e)=>match P.underlying e,Hk P e with
   |some (.int .u8),some 1=>Hr x .cvBytes
   |_,_=>none
  |_,_=>none
 |.makeInterface t x=>match P.underlying t with
  |some (.interface _)=>none
  |some _=>Hr x (.mkIface t)
  |none=>none
 |.makeFunc f first cap=>match f with
  |.yield _=>none
  |f=>match Yu first.toList,Yu cap.toList with
   |some a,some b=>some (.mkFunc f a b)
   |_,_=>none
 |.makeMap t r=>match r with
  |none=>some .mkMap0
  |some x=>match P.underlying t with
   |some (.map _ _)=>Hr x .mkMap1
   |_=>none
 |.makeSlice t l c=>match P.underlying t with
  |some (.slice elem)=>match P.info? elem with
   |none=>none
   |some i=>match K3 P elem with
    |none=>none
    |some z=>if 0<i.size∧i.bytes≤2^16 then Jy l c (.mkSl i.size z) else none
  |_=>none
 |.slice t x lo hi mx=>match P.underlying t with
  |some .string=>match mx with
   |some _=>none
   |none=>match Gq x,Yh lo,Yh hi with
    |some r,some a,some b=>some (.slStr r a b)
    |_,_,_=>none
  |some (.slice elem)=>if mx.isSome&&hi.isNone then none else match Hk P elem with
   |none=>none
   |some size=>zgx size .slSl x lo hi mx
  |some (.array n elem)=>if mx.isSome&&hi.isNone then none else match Hk P elem with
   |none=>none
   |some size=>zgx size (.slArr n) x lo hi mx
  |_=>none
 |.fieldAddr s x f=>match P.underlying s with
  |some (.struct fields)=>match fields[f]? with
   |none=>none
   |some fd=>match Hk P fd.type with
    |none=>none
    |some 0=>none
    |some _=>Hr x (.fieldAddr fd.offset)
  |_=>none
 |.field t x f=>match P.underlying t with
  |some (.struct fields)=>match fields[f]? with
   |none=>none
   |some fd=>match Lh P fd.type,Hk P fd.type with
    |some g,some n=>Hr x (.field g n fd.offset)
    |_,_=>none
  |_=>none
 |.indexAddr t x i=>match P.underlying t with
  |some (.slice elem)=>match Hk P elem with
   |none=>none
   |some size=>Jy x i (.ixAddr size)
  |some (.array len elem)=>match Hk P elem with
   |none=>none
   |some size=>Jy x i (.ixAddrArr len size)
  |_=>none
 |.index t x i=>match P.underlying t with
  |some .string=>Jy x i .ixStr
  |some (.array len elem)=>match Lh P elem,Hk P elem with
   |some g,some size=>Jy x i (.ixArr g len size)
   |_,_=>none
  |_=>none
 |.lookup t x i ok=>match P.underlying t with
  |some (.map key elem)=>match Nr P key,tj P elem with
   |some d,some z=>Jy x i (.lookup d z ok)
   |_,_=>none
  |_=>none
 |.mapUpdate t m k x |.insert t m k x=>match P.underlying t with
  |some (.map key _)=>match Nr P key with
   |some d=>match Gq m,Gq k,Gq x with
    |some m,some k,some x=>some (.mapUpd d m k x)
    |_,_,_=>none
   |none=>none
  |_=>none
 |.range t x=>match P.underlying t with
  |some .string=>Hr x .range
  |_=>none
 |.next it s=>if s then Hr it .next else none
 |.typeAssert x _ t ok=>match P.underlying t with
  |some (.interface _)=>none
  |some _=>match tj P t with
   |none=>none
   |some z=>Hr x (.assert z ok t)
  |none=>none
 |.extract t i=>Hr t (.extract i)
 |.call c=>zqe P c
 |_=>none
end Go.Sv
namespace Go.Sv
section ok
variable {P : Program} {E : Tr AV} {ρ : Vm}
def Mf {x:Operand}{f:Ox→ROp}{r:ROp}(h:Hr x f=some r):∃q,Gq x=some q∧r=f q:=by
 unfold Hr at h;cases a:Gq x with
 |none=>rw[a] at h;cases h
 |some q=>rw[a] at h;cases h;exact⟨q,rfl,rfl⟩
def Sj {x y:Operand}{f:Ox→Ox→ROp}{r:ROp}(h:Jy x y f=some r):∃q p,Gq x=some q∧Gq y=some p∧r=f q p:=by
 unfold Jy at h;cases a:Gq x with
 |none=>rw[a] at h;cases h
 |some q =>
  rw[a] at h;dsimp only at h;cases d:Gq y with
  |none=>rw[d] at h;cases h
  |some p=>rw[d] at h;cases h;exact⟨q,p,rfl,rfl,rfl⟩
def Mm (d:Ni E ρ){x:Operand}{q:Ox}(g:Gq x=some q)(f:Heap→AV→OR)(H:Heap):(Ik x f).run E H=f H (q.ev ρ):=by
 show (Option.rec OR.no (fun a=>f H a) ((Fq x).run E):OR)=_;rw[M8 g d]
def R2 (d:Ni E ρ){x y:Operand}{q p:Ox}(g:Gq x=some q)(h:Gq y=some p)(f:Heap→AV→AV→OR)(H:Heap):(Lp x y f).run E H=f H (q.ev ρ) (p.ev ρ):=by
 show (Option.rec OR.no (fun a=>Option.rec OR.no (fun b=>f H a b) ((Fq y).run E)) ((Fq x).run E):OR)=_;rw[M8 g d,M8 h d]
def zh (j:Ni E ρ){place:Nat→Option (Nat×Nat)}:∀{l:List (Nat×Operand)} {d:List (Nat×Nat×Ox)} {cs:List AV},Yr place l=some d→∃f,Yc place l=some f∧Ul cs f E=fillR ρ cs d
 |[],d,cs,h=>by cases h;exact⟨[],rfl,rfl⟩
 |(i,x)::l,d,cs,h=>by
  simp only[Yr] at h;cases m:place i with
  |none=>rw[m] at h;cases h
  |some os =>
   obtain⟨o,s⟩:=os;rw[m] at h;dsimp only at h;cases p:Gq x with
   |none=>rw[p] at h;cases h
   |some r =>
    rw[p] at h;dsimp only at h;cases g:Yr place l with
    |none=>rw[g] at h;cases h
    |some q =>
     rw[g] at h;cases h;obtain⟨f,y,_⟩:=zh j (cs:=cs) g;refine⟨⟨o,s,Fq x⟩::f,by simp only[Yc,m,y],?_⟩;simp only[Ul,fillR];rw[M8 p j];dsimp only;cases (r.ev ρ).cells with
     |none=>rfl
     |some c =>
      dsimp only;cases Nat.beq c.length s with
      |false=>rfl
      |true =>
       dsimp only;cases Nat.ble (Nat.add o s) cs.length with
       |false=>rfl
       |true =>
        dsimp only;obtain⟨z,a,w⟩:=zh j (cs:=M2 cs o c) g;rw[y] at a;cases a;exact w
def zhg {size:Nat}{f:Nat→Ox→Option Ox→Option Ox→Option Ox→ROp}{x:Operand}{lo hi mx:Option Operand}{r:ROp}(h:zgx size f x lo hi mx=some r) :
  ∃q a b c,Gq x=some q∧Yh lo=some a∧Yh hi=some b∧Yh mx=some c∧r=f size q a b c:=by
 unfold zgx at h;split at h
 ·rename_i q a b c d g j l;cases h;exact⟨q,a,b,c,d,g,j,l,rfl⟩
 ·cases h
def zu7 (j:Ni E ρ){c:Call}{r:ROp}(h:zqe P c=some r)(H:Heap):(To P c).run E H=Ha P ρ H r:=by
 unfold zqe at h;unfold To;split at h
 ·rename_i b L;rw[L];dsimp only;split at h
  ·split at h
   ·rename_i t x w o;rw[w,o];dsimp only;unfold Nw;split at h<;>first
     |(cases h;done)
     | (rename_i hu
        obtain⟨q,a,rfl⟩:=Mf h;rw[hu];dsimp only;rw[Mm j a];rfl)
   ·cases h
  ·split at h
   ·rename_i t x w o;rw[w,o];dsimp only;unfold Qf;split at h
    ·rename_i hu;obtain⟨q,a,rfl⟩:=Mf h;rw[hu];dsimp only;rw[Mm j a];rfl
    ·cases h
   ·cases h
  ·split at h
   ·rename_i l B;cases h;simp only[M4,Ha];rw[resOs_ok B j];generalize (l.map fun (x:Ox)=>x.ev ρ)=vs;rcases vs with _|⟨v,vs⟩
    ·rfl
    ·cases v<;>rfl
   ·cases h
  ·split at h
   ·rename_i l B;cases h;simp only[M4,Ha];rw[resOs_ok B j];generalize (l.map fun (x:Ox)=>x.ev ρ)=vs;rcases vs with _|⟨v,vs⟩
    ·rfl
    ·cases v<;>rfl
   ·cases h
  ·split at h
   ·rename_i st K s x w o;unfold zp;rw[w,o];dsimp only;split at h
    ·rename_i elem d D F;rw[D,F];split at h
     ·rename_i i z hi C;split at h
      ·rename_i G;split at h
       ·rename_i k;obtain⟨q,p,a,A,rfl⟩:=Sj h;dsimp only;unfold zmr;rw[hi,C];dsimp only;rw[Ai G,R2 j a A];rfl
       ·obtain⟨q,p,a,A,rfl⟩:=Sj h;dsimp only;unfold gw;rw[hi,C];dsimp only;rw[Ai G,R2 j a A];rfl
       ·obtain⟨q,p,a,A,rfl⟩:=Sj h;dsimp only;unfold gw;rw[hi,C];dsimp only;rw[Ai G,R2 j a A];rfl
       ·cases h
      ·cases h
     ·cases h
    ·cases h
   ·cases h
  ·split at h
   ·rename_i st K d x w o;unfold yz;rw[w,o];dsimp only;split at h
    ·rename_i elem hu;rw[hu];dsimp only;split at h
     ·cases h
     ·rename_i size I;split at h
      ·rename_i y;obtain⟨q,p,a,A,rfl⟩:=Sj h;rw[I];dsimp only;rw[Ai y,R2 j a A];rfl
      ·cases h
    ·cases h
   ·cases h
  ·split at h
   ·rename_i st x w o;unfold yb;rw[w,o];dsimp only;split at h
    ·rename_i elem hu;rw[hu];dsimp only;split at h
     ·rename_i size z I C;split at h
      ·rename_i y;obtain⟨q,a,rfl⟩:=Mf h;rw[I,C];dsimp only;rw[Ai y,Mm j a];rfl
      ·cases h
     ·cases h
    ·cases h
   ·cases h
  ·split at h
   ·rename_i mt K m k w o;unfold y6;rw[w,o];dsimp only;split at h
    ·rename_i key e hu;rw[hu];dsimp only;split at h
     ·rename_i d hd;obtain⟨q,p,a,A,rfl⟩:=Sj h;rw[hd];dsimp only;rw[R2 j a A];rfl
     ·cases h
    ·cases h
   ·cases h
  ·cases h
 ·rename_i f M;rw[M];dsimp only;split at h
  ·rename_i g l J B;cases h;rw[M8 J j,resOs_ok B j];simp only[Ha]
  ·cases h
 ·rename_i x name o;rw[o];dsimp only;split at h
  ·rename_i g l J B;cases h;rw[M8 J j,resOs_ok B j];simp only[Ha];cases g.ev ρ with
   |iface t v =>
    dsimp only;cases yq P t name with
    |none=>rfl
    |some f =>
     dsimp only;cases Y1 P f<;>rfl
   |_=>rfl
  ·cases h
end ok
end Go.Sv
end
namespace Go.Sv
section ok
variable {P : Program} {E : Tr AV} {ρ : Vm}
def zs2 (w:Ni E ρ){o:Op}{r:ROp}(h:Kx P o=some r)(H:Heap):(Gg P o).run E H=Ha P ρ H r:=by
 cases o with
 |move x =>
  obtain⟨q,j,rfl⟩:=Mf h;show (Ik x _).run E H=_;rw[Mm w j];rfl
 |assign x =>
  obtain⟨q,j,rfl⟩:=Mf h;show (Ik x _).run E H=_;rw[Mm w j];rfl
 |pick c a b =>
  simp only[Kx] at h;split at h
  ·rename_i c' J b' j A B;cases h;simp only[Gg];rw[M8 j w,M8 A w,M8 B w];simp only[Ha];generalize c'.ev ρ=v;cases v with
   |bool t=>cases t<;>rfl
   |_=>rfl
  ·cases h
 |alloc t =>
  simp only[Kx] at h;simp only[Gg];cases D:K3 P t with
  |none=>rw[D] at h;cases h
  |some l=>rw[D] at h;cases h;rfl
 |box t x =>
  obtain⟨q,j,rfl⟩:=Mf h;show (Ik x _).run E H=_;rw[Mm w j];rfl
 |build t parts =>
  simp only[Kx] at h;simp only[Gg,rq];cases D:K3 P t with
  |none=>rw[D] at h;cases h
  |some cs =>
   rw[D] at h;dsimp only at h ⊢;split at h
   ·rename_i fields hu;rw[hu];dsimp only;cases G:uq P fields.toList with
    |none=>rw[G] at h;cases h
    |some pl =>
     rw[G] at h;dsimp only at h ⊢;cases F:Yr (pl[·]?) parts.toList with
     |none=>rw[F] at h;cases h
     |some M =>
      rw[F] at h;cases h;obtain⟨N,j,A⟩:=zh w (cs:=cs) F;rw[j];dsimp only;rw[A];rfl
   ·rename_i n elem hu;rw[hu];dsimp only;cases C:Hk P elem with
    |none=>rw[C] at h;cases h
    |some size =>
     rw[C] at h;dsimp only at h ⊢;cases F:Yr (fun i=>some (i*size,size)) parts.toList with
     |none=>rw[F] at h;cases h
     |some M =>
      rw[F] at h;cases h;obtain⟨N,j,A⟩:=zh w (cs:=cs) F;rw[j];dsimp only;rw[A];rfl
   ·cases h
 |buildSlice t len parts =>
  simp only[Kx] at h;simp only[Gg,ik];split at h
  ·rename_i elem hu;rw[hu];dsimp only;cases C:Hk P elem with
   |none=>rw[C] at h;cases h
   |some size =>
    rw[C] at h;dsimp only at h ⊢;cases D:K3 P elem with
    |none=>rw[D] at h;cases h
    |some z =>
     rw[D] at h;dsimp only at h ⊢;split at h
     ·rename_i I;rw[Ai I];cases F:Yr (fun i=>some (i*size,size)) parts.toList with
      |none=>rw[F] at h;cases h
      |some M =>
       rw[F] at h;cases h;obtain⟨N,j,A⟩:=zh w (cs:=Lu z len) F;rw[j];dsimp only;rw[A];rfl
     ·cases h
  ·cases h
 |load t a =>
  simp only[Kx] at h;simp only[Gg,se];split at h
  ·rename_i n j A;obtain⟨q,B,rfl⟩:=Mf h;rw[j,A];dsimp only;rw[Mm w B];rfl
  ·rename_i n j A;obtain⟨q,B,rfl⟩:=Mf h;rw[j,A];dsimp only;rw[Mm w B];rfl
  ·cases h
 |store t a x =>
  simp only[Kx] at h;simp only[Gg,zp0];cases C:Hk P t with
  |none=>rw[C] at h;cases h
  |some n =>
   rw[C] at h;obtain⟨q,p,j,A,rfl⟩:=Sj h;dsimp only;rw[R2 w j A];rfl
 |nilCheck x =>
  obtain⟨q,j,rfl⟩:=Mf h;show (Ik x _).run E H=_;rw[Mm w j];rfl
 |binOp op t x y U =>
  obtain⟨q,p,j,A,rfl⟩:=Sj h;simp only[Gg];rw[R2 w j A];rfl
 |unOp op t x =>
  obtain⟨q,j,rfl⟩:=Mf h;show (Ik x _).run E H=_;rw[Mm w j];rfl
 |convert s d x =>
  simp only[Kx] at h;simp only[Gg];unfold O1;split at h
  ·rename_i d1 k j A;obtain⟨q,B,rfl⟩:=Mf h;rw[j,A];dsimp only;rw[Mm w B];rfl
  ·rename_i e j A;rw[j,A];dsimp only;split at h
   ·rename_i hu;rw[hu];dsimp only;obtain⟨q,B,rfl⟩:=Mf h;rw[Mm w B];rfl
   ·cases h
  ·rename_i d1 K j A;obtain⟨q,B,rfl⟩:=Mf h;rw[j,A];cases d1 with
   |slice e=>exact absurd rfl (K e)
   |_=>dsimp only;rw[Mm w B];rfl
  ·rename_i d1 e j A;rw[j,A];dsimp only;split at h
   ·rename_i O Q;obtain⟨q,B,rfl⟩:=Mf h;rw[O,Q];exact (Mm w B _ _).trans rfl
   ·cases h
  ·cases h
 |makeInterface t x =>
  simp only[Kx] at h;simp only[Gg,py];cases hu:P.underlying t with
  |none=>rw[hu] at h;cases h
  |some d =>
   rw[hu] at h;cases d with
   |interface R=>cases h
   |_=>obtain⟨q,j,rfl⟩:=Mf h;dsimp only;rw[Mm w j];rfl
 |makeFunc f first cap =>
  simp only[Kx] at h;cases f with
  |yield l=>cases h
  |_ =>
   dsimp only at h;split at h
   ·rename_i a b j A;cases h;simp only[Gg,rj];rw[resOs_ok j w,resOs_ok A w];rfl
   ·cases h
 |makeMap t r =>
  simp only[Kx] at h;simp only[Gg,j0];cases r with
  |none=>cases h;rfl
  |some x =>
   dsimp only at h ⊢;split at h
   ·rename_i k e hu;obtain⟨q,j,rfl⟩:=Mf h;rw[hu];dsimp only;rw[Mm w j];rfl
   ·cases h
 |makeSlice t l c =>
  simp only[Kx] at h;simp only[Gg,gq];split at h
  ·rename_i elem hu;rw[hu];dsimp only;cases hi:P.info? elem with
   |none=>rw[hi] at h;cases h
   |some i =>
    rw[hi] at h;dsimp only at h ⊢;cases D:K3 P elem with
    |none=>rw[D] at h;cases h
    |some z =>
     rw[D] at h;dsimp only at h ⊢;split at h
     ·rename_i I;obtain⟨q,p,j,A,rfl⟩:=Sj h;rw[Ai I,R2 w j A];rfl
     ·cases h
  ·cases h
 |slice t x lo hi mx =>
  simp only[Kx] at h;simp only[Gg,Zd];split at h
  ·rename_i hu;rw[hu];dsimp only;cases mx with
   |some m=>cases h
   |none =>
    dsimp only at h ⊢;split at h
    ·rename_i q a b j A B;cases h;rw[M8 j w,j3 A w,j3 B w];simp only[Ha];cases q.ev ρ with
     |str len n =>
      cases H8 ρ a with
      |none=>rfl
      |some J=>cases H8 ρ b<;>rfl
     |_=>rfl
    ·cases h
  ·rename_i elem hu;rw[hu];dsimp only;split at h
   ·cases h
   ·rename_i I;rw[Ab I];cases C:Hk P elem with
    |none=>rw[C] at h;cases h
    |some size =>
     rw[C] at h;obtain⟨q,a,b,c,j,A,B,L,rfl⟩:=zhg h;dsimp only;rw[M8 j w,j3 A w,j3 B w,j3 L w];simp only[Ha];generalize q.ev ρ=v;generalize H8 ρ a=J;generalize H8 ρ b=b';generalize H8 ρ c=c';cases v<;>cases J<;>cases b'<;>cases c'<;>try rfl
     all_goals (rename_i z;cases z<;>rfl)
  ·rename_i n elem hu;rw[hu];dsimp only;split at h
   ·cases h
   ·rename_i I;rw[Ab I];cases C:Hk P elem with
    |none=>rw[C] at h;cases h
    |some size =>
     rw[C] at h;obtain⟨q,a,b,c,j,A,B,L,rfl⟩:=zhg h;dsimp only;rw[M8 j w,j3 A w,j3 B w,j3 L w];simp only[Ha];generalize q.ev ρ=v;generalize H8 ρ a=J;generalize H8 ρ b=b';generalize H8 ρ c=c';cases v<;>cases J<;>cases b'<;>cases c'<;>rfl
  ·cases h
 |fieldAddr s x f =>
  simp only[Kx] at h;simp only[Gg,pe];split at h
  ·rename_i fields hu;rw[hu];dsimp only;cases G:fields[f]? with
   |none=>rw[G] at h;cases h
   |some fd =>
    rw[G] at h;dsimp only at h ⊢;split at h
    ·cases h
    ·cases h
    ·rename_i n S C;obtain⟨q,j,rfl⟩:=Mf h;rw[C];cases n with
     |zero=>exact absurd rfl S
     |succ n=>exact (Mm w j _ _).trans rfl
  ·cases h
 |field t x f =>
  simp only[Kx] at h;simp only[Gg,ny];split at h
  ·rename_i fields hu;rw[hu];dsimp only;cases G:fields[f]? with
   |none=>rw[G] at h;cases h
   |some fd =>
    rw[G] at h;dsimp only at h ⊢;split at h
    ·rename_i g n j A;obtain⟨q,B,rfl⟩:=Mf h;rw[j,A];dsimp only;rw[Mm w B];rfl
    ·cases h
  ·cases h
 |indexAddr t x i =>
  simp only[Kx] at h;simp only[Gg,rv];split at h
  ·rename_i elem hu;rw[hu];dsimp only;cases C:Hk P elem with
   |none=>rw[C] at h;cases h
   |some size =>
    rw[C] at h;obtain⟨q,p,j,A,rfl⟩:=Sj h;dsimp only;rw[R2 w j A];rfl
  ·rename_i len elem hu;rw[hu];dsimp only;cases C:Hk P elem with
   |none=>rw[C] at h;cases h
   |some size =>
    rw[C] at h;obtain⟨q,p,j,A,rfl⟩:=Sj h;dsimp only;rw[R2 w j A];rfl
  ·cases h
 |index t x i =>
  simp only[Kx] at h;simp only[Gg,sw];split at h
  ·rename_i hu;obtain⟨q,p,j,A,rfl⟩:=Sj h;rw[hu];dsimp only;rw[R2 w j A];rfl
  ·rename_i len elem hu;rw[hu];dsimp only;split at h
   ·rename_i g size T C;obtain⟨q,p,j,A,rfl⟩:=Sj h;rw[T,C];dsimp only;rw[R2 w j A];rfl
   ·cases h
  ·cases h
 |lookup t x i ok =>
  simp only[Kx] at h;simp only[Gg,ot];split at h
  ·rename_i key elem hu;rw[hu];dsimp only;split at h
   ·rename_i d z hd D;obtain⟨q,p,j,A,rfl⟩:=Sj h;rw[hd,D];dsimp only;rw[R2 w j A];rfl
   ·cases h
  ·cases h
 |mapUpdate t m k x =>
  simp only[Kx] at h;simp only[Gg,nc];split at h
  ·rename_i key elem hu;rw[hu];dsimp only;split at h
   ·rename_i d hd;rw[hd];dsimp only;split at h
    ·rename_i a b c j A B;cases h;rw[M8 j w,M8 A w,M8 B w];simp only[Ha];cases a.ev ρ<;>rfl
    ·cases h
   ·cases h
  ·cases h
 |insert t m k x =>
  simp only[Kx] at h;simp only[Gg,nc];split at h
  ·rename_i key elem hu;rw[hu];dsimp only;split at h
   ·rename_i d hd;rw[hd];dsimp only;split at h
    ·rename_i a b c j A B;cases h;rw[M8 j w,M8 A w,M8 B w];simp only[Ha];cases a.ev ρ<;>rfl
    ·cases h
   ·cases h
  ·cases h
 |range t x =>
  simp only[Kx] at h;simp only[Gg,rangeF];split at h
  ·rename_i hu;obtain⟨q,j,rfl⟩:=Mf h;rw[hu];dsimp only;rw[Mm w j];rfl
  ·cases h
 |next it s =>
  simp only[Kx] at h;simp only[Gg,zwd];cases s with
  |false=>cases h
  |true =>
   obtain⟨q,j,rfl⟩:=Mf h;rw[Ai rfl,Mm w j];rfl
 |typeAssert x V t ok =>
  simp only[Kx] at h;simp only[Gg,pj];cases hu:P.underlying t with
  |none=>rw[hu] at h;cases h
  |some d =>
   rw[hu] at h;cases d with
   |interface R=>cases h
   |_ =>
    dsimp only at h ⊢;cases D:tj P t with
    |none=>rw[D] at h;cases h
    |some z=>rw[D] at h;obtain⟨q,j,rfl⟩:=Mf h;dsimp only;rw[Mm w j];rfl
 |extract t i =>
  obtain⟨q,j,rfl⟩:=Mf h;show (Ik t _).run E H=_;rw[Mm w j];rfl
 |call c=>exact zu7 w h H
 |_=>cases h
end ok
end Go.Sv
namespace Go.Sv
open Go.RowKit (Below)
noncomputable def ua (P:Program)(f:Nat):Bool:=match P.funcs[f]? with
 |some fn=>match fn.params.toList with
  |[]=>match fn.resultTypes.toList with
   |[t]=>match P.underlying t with
    |some .bool=>true
    |_=>false
   |_=>false
  |_::_=>false
 |none=>false
def z8v (P:Program)(f:Nat):Prop :=
 ∀(w:World) cs,∃w' fr,Below w.heap.size w w'∧Steps P (lone (Frame.enter P f #[] .normal) cs w) (lone fr cs w')∧fr.fn=f∧fr.leaving P w' (.returned (.bool true))
def Rel.below {w0:World}{C:CM}{H:Heap}{w w':World}(h:Rel w0 C H w)(hb:Below w.heap.size w w'):Rel w0 C H w':=by
 have aa:w0.heap.size≤w.heap.size:=h.low.size;exact⟨h.nx,h.low.trans (hb.mono aa),h.fresh,fun o v L hL=>Bg (h.lt o v L hL) hb.size,h.excl,
  fun o ob ho hg=>(h.obj o ob ho hg).frame (CM.le_refl C) (fun _ _ hL=>hL) (fun v L hL=>hb.block _ (h.lt o v L hL)),h.top⟩
open Classical in
noncomputable def OL (P:Program):Jh:=fun t args H=>match t,args with
 |.fn f,[]=>if ua P f=true∧z8v P f then .ok (.bool true) H else .no
 |_,_=>.no
def zx {P:Program}{f:Nat}(h:ua P f=false)(args:List AV)(H:Heap):OL P (.fn f) args H=.no:=by
 unfold OL;split
 ·rename_i g e;cases e;rw[Ab (by rw[h];simp)]
 ·rfl
def mv {P:Program}{f:Nat}(h:ua P f=true)(a:z8v P f)(H:Heap):OL P (.fn f) [] H=.ok (.bool true) H:=by
 unfold OL;exact Ai ⟨h,a⟩
def Vq (P:Program):Yk P (OL P):=by
 intro p C H w t args vs v H' d g a;unfold OL at a;split at a
 ·rename_i f;split at a
  ·rename_i h;cases a;cases g;intro cs;obtain⟨w',fr,j,l,m,o⟩:=h.2 w cs;exact⟨C,w',.bool true,fr,CM.le_refl C,d.below j,.bool true,l,m,o⟩
  ·cases a
 ·cases a
end Go.Sv
noncomputable section
namespace Go.Sv
inductive LV where
 |any
 |bool (b:Bool)
 |u (x:UInt64)
 |b (x:UInt8)
 |i (n:Int)
 |int (k:IntKind) (n:Int)
 |str (l:List UInt8)
 |nilPtr
 |ptr (p i:Nat)
 |dptr (p k i:Nat)
 |cptr (l:List LV) (i:Nat)
 |nilSl
 |dy (p k:Nat)
 |vw (p k lo len:Nat)
 |vf (p k len:Nat)
 |lst (l:List LV) (len esz:Nat)
 |nilMap
 |map (p:Nat)
 |nilFn
 |fn (f:Fn) (first cap:List LV)
 |nilIf
 |iface (t:TypeId) (v:LV)
 |agg (l:List LV)
 |tup (l:List LV)
 deriving Inhabited
abbrev Ey:=List (Nat×LV)
def lk0:Ey→Nat→LV
 |[],_=>.any
 |(d,v)::l,t=>if t=d then v else lk0 l t
def Re {α:Type}(f:α):∃g:α,g=f:=⟨f,rfl⟩
def Iq {α:Type}(f:α):α:=Classical.choose (Re f)
def Mz {α:Type}(f:α):Iq f=f:=Classical.choose_spec (Re f)
def lk:Ey→Nat→LV:=Iq lk0
def T1 (t:Nat):lk [] t=.any:=by unfold lk;rw[Mz];rfl
def zz (d:Nat)(v:LV)(l:Ey)(t:Nat):lk ((d,v)::l) t=if t=d then v else lk l t:=by unfold lk;rw[Mz];rfl
inductive LObj where
 |dead (st:Nat)
 |cells (l:List LV) (st:Nat)
 |dyn (l:List LV) (len esz ver st:Nat)
 |map (es:List (LV×LV×Nat)) (clock st:Nat)
 |iter (l:List UInt8) (pos:Nat)
 |loop (s:LoopState) (pend:Option Code) (f n:Nat) (ρ:Ey) (ps:Array Tmp) (a b:Code) (d:Nat)
 |defd (op:Bool)
abbrev Ev:=List LObj
def LObj.live:LObj→Bool
 |.dead _=>false
 |_=>true
def LObj.stp:LObj→Bool
 |.cells _ _=>true
 |.dyn _ _ _ _ _=>true
 |.map _ _ _=>true
 |_=>false
def LObj.st:LObj→Nat
 |.cells _ st=>st
 |.dyn _ _ _ _ st=>st
 |.map _ _ st=>st
 |.dead st=>st
 |_=>0
def LV.cells:LV→Option (List LV)
 |.any=>none
 |.agg cs=>some cs
 |.tup _=>none
 |v=>some [v]
mutual
def toA:LV→AV
 |.bool b=>.bool b
 |.u x=>.int .u64 (Int.ofNat x.toNat)
 |.b x=>.int .u8 (Int.ofNat x.toNat)
 |.i n=>.int .i64 n
 |.int k n=>.int k n
 |.str l=>.str l.length (Hh l)
 |.nilPtr=>.nilPtr
 |.nilSl=>.nilSl
 |.nilMap=>.nilMap
 |.nilFn=>.nilFn
 |.fn f _ _=>.fn f [] []
 |.nilIf=>.nilIf
 |.agg l=>.agg (toAs l)
 |.tup l=>.tup (toAs l)
 |_=>.tup []
def toAs:List LV→List AV
 |[]=>[]
 |v::l=>toA v::toAs l
end
def LV.scal:LV→Bool
 |.bool _ |.u _ |.b _ |.i _ |.int _ _ |.str _ |.nilPtr |.nilSl |.nilMap |.nilFn |.nilIf=>true
 |_=>false
def LV.cst:LV→Bool
 |.fn (.func _) [] []=>true
 |.agg l=>l.all LV.scal
 |.tup []=>true
 |v=>v.scal
structure Cx where
 hd:List (Nat×AV)
 Fz:Nat→Prop
 H:Heap
def Yz:AV→Bool
 |.nilSl=>true
 |.emp=>true
 |.sl _ _ _ _ _ _=>true
 |_=>false
def Sn (lo:Nat)(h a:AV):Prop:=lo=0→match a with
 |.sl _ _ _ _ _ d=>match h with
  |.sl _ _ _ len _ room=>d=room∨∃r,d=some r∧r≤len
  |_=>True
 |_=>True
mutual
inductive AR (c:Cx):LV→AV→Prop where
 |any (a:AV):AR c .any a
 |bool (b:Bool):AR c (.bool b) (.bool b)
 |u (x:UInt64):AR c (.u x) (.int .u64 (Int.ofNat x.toNat))
 |b (x:UInt8):AR c (.b x) (.int .u8 (Int.ofNat x.toNat))
 |i (n:Int):AR c (.i n) (.int .i64 n)
 |int (k:IntKind) (n:Int):AR c (.int k n) (.int k n)
 |str (l:List UInt8):AR c (.str l) (.str l.length (Hh l))
 |nilPtr:AR c .nilPtr .nilPtr
 |ptr {p i o:Nat} (h:c.hd[p]?=some (0,.ptr o 0 0)):AR c (.ptr p i) (.ptr o 0 i)
 |dptr {p k i k' o v j:Nat} {h:AV} (hp:c.hd[p]?=some (k',h)) (hk:k≤k') (ha:k=k'→j=i∧∃len esz room,h=.sl o v 0 len esz room):AR c (.dptr p k i) (.ptr o v j)
 |cptr {l:List LV} {i o v j:Nat} {l':List AV} (hf:c.Fz o) (hr:Jd c.H o v j l.length=some l') (hl:ARs c l l'):AR c (.cptr l i) (.ptr o v (j+i))
 |nilSl:AR c .nilSl .nilSl
 |dy {p k k':Nat} {h a:AV} (hp:c.hd[p]?=some (k',h)) (hk:k≤k') (ha:k=k'→a=h) (hs:Yz a=true):AR c (.dy p k) a
 |vw {p k lo len k':Nat} {h a:AV} (hp:c.hd[p]?=some (k',h)) (hk:k≤k') (ha:k=k'→(len=0∧(a=.nilSl∨(a=.emp∧lo≠0)))∨∃o v len' esz room room',h=.sl o v 0 len' esz room∧a=.sl o v (lo*esz) len esz room'∧∀r,room'=some r→len≤r) (hs:Yz a=true) (hz:k=k'→Sn lo h a):AR c (.vw p k lo len) a
 |vf {p k len k':Nat} {h a:AV} (hp:c.hd[p]?=some (k',h)) (hk:k≤k') (ha:k=k'→∃o v len' esz room,h=.sl o v 0 len' esz room∧a=.sl o v 0 len esz (some len)) (hs:Yz a=true):AR c (.vf p k len) a
 |lst {l:List LV} {len esz o v i:Nat} {room:Option Nat} {l':List AV} (hf:c.Fz o) (hrm:∀r,room=some r→len≤r) (hlen:l.length=len*esz) (hr:Jd c.H o v i (len*esz)=some l') (hl:ARs c l l'):AR c (.lst l len esz) (.sl o v i len esz room)
 |lstNil {esz:Nat}:AR c (.lst [] 0 esz) .nilSl
 |lstEmp {esz:Nat}:AR c (.lst [] 0 esz) .emp
 |nilMap:AR c .nilMap .nilMap
 |map {p o:Nat} (h:c.hd[p]?=some (0,.map o)):AR c (.map p) (.map o)
 |nilFn:AR c .nilFn .nilFn
 |fn {f:Nat} {l r:List LV} {l' r':List AV} (hl:ARs c l l') (hr:ARs c r r'):AR c (.fn (.func f) l r) (.fn (.func f) l' r')
 |yield {p o:Nat} (h:c.hd[p]?=some (0,.ptr o 0 0)):AR c (.fn (.yield p) [] []) (.fn (.yield o) [] [])
 |nilIf:AR c .nilIf .nilIf
 |iface {t:TypeId} {v:LV} {a:AV} (h:AR c v a):AR c (.iface t v) (.iface t a)
 |agg {l:List LV} {l':List AV} (h:ARs c l l'):AR c (.agg l) (.agg l')
 |tup {l:List LV} {l':List AV} (h:ARs c l l'):AR c (.tup l) (.tup l')
inductive ARs (c:Cx):List LV→List AV→Prop where
 |nil:ARs c [] []
 |cons {v:LV} {a:AV} {l:List LV} {r:List AV} (h:AR c v a) (hs:ARs c l r):ARs c (v::l) (a::r)
end
inductive MRs (c:Cx):List (LV×LV×Nat)→List (AV×AV×Nat)→Prop where
 |nil:MRs c [] []
 |cons {k v:LV} {a b:AV} {n:Nat} {l:List (LV×LV×Nat)} {r:List (AV×AV×Nat)} (hk:AR c k a) (hv:AR c v b) (h:MRs c l r):MRs c ((k,v,n)::l) ((a,b,n)::r)
def Gm (c:Cx)(ρ:Ey)(E:Tr AV):Prop:=∀t,AR c (lk ρ t) ((E3 (Fl t) E).getD J3)
def jc (c:Cx)(k:Nat)(h:AV):LObj→Prop
 |.dead _=>True
 |.cells l _=>k=0∧∃o t l',h=.ptr o 0 0∧c.H.get o=some (.cells t l.length 0 false)∧Kt t 0 l.length=some l'∧ARs c l l'
 |.dyn l len esz m _=>k=m∧l.length=len*esz∧((h=.nilSl∧len=0)∨∃o v room t g l',h=.sl o v 0 len esz room∧c.H.get o=some (.cells t g v false)∧len*esz≤g ∧
   Kt t 0 (len*esz)=some l'∧ARs c l l'∧(∀r,room=some r→g=r*esz∧len≤r)∧(room=none→g=len*esz))
 |.map es q _=>k=0∧∃o j,h=.map o∧c.H.get o=some (.map j q)∧MRs c es j
 |.iter l pos=>k=0∧∃o,h=.ptr o 0 0∧c.H.get o=some (.iter l.length (Hh l) pos)
 |.loop s pend f n ρ w a b d=>k=0∧∃o p E,h=.ptr o 0 0∧c.hd[d]?=some (0,.ptr p 0 0)∧c.H.get o=some (.loop s pend f n E w a b p)∧Gm c ρ E
 |.defd op=>k=0∧∃o,h=.ptr o 0 0∧c.H.get o=some (.defd op)
def Hw (c:Cx)(G:Ev)(o:Nat):Prop:=∃(p:Nat) (ob:LObj) (k:Nat) (h:AV),G[p]?=some ob∧ob.live=true∧c.hd[p]?=some (k,h)∧Gb h=some o
structure HSim (c:Cx) (G:Ev):Prop where
 len:c.hd.length=G.length
 fz:∀o,c.Fz o→o<c.H.next
 lt:∀o,Hw c G o→o<c.H.next
 sep:∀o,Hw c G o→¬c.Fz o
 obj:∀(p:Nat) (ob:LObj) (k:Nat) (h:AV),G[p]?=some ob→c.hd[p]?=some (k,h)→jc c k h ob
 excl:∀(p q:Nat) (ob ob':LObj) (k:Nat) (h:AV) (k':Nat) (h':AV) (o:Nat),G[p]?=some ob→G[q]?=some ob'→ob.live=true→ob'.live=true→c.hd[p]?=some (k,h)→c.hd[q]?=some (k',h')→Gb h=some o→Gb h'=some o→p=q
def Rt:AV→Bool
 |.ptr _ _ _=>true
 |.map _=>true
 |_=>false
structure CxLe (c c':Cx):Prop where
 hd:∀(p k:Nat) (h:AV),c.hd[p]?=some (k,h)→∃(k':Nat) (h':AV),c'.hd[p]?=some (k',h')∧k≤k'∧(k=k'→h=h')∧(Rt h=true→k=k')
 fz:∀o,c.Fz o→c'.Fz o∧c'.H.get o=c.H.get o
structure Step (c:Cx) (G:Ev) (c':Cx) (G':Ev):Prop where
 le:CxLe c c'
 nx:c.H.next≤c'.H.next
 frame:∀o,o<c.H.next→¬Hw c G o→c'.H.get o=c.H.get o
 new:∀o,Hw c' G' o→Hw c G o∨c.H.next≤o
 fznew:∀o,c'.Fz o→c.Fz o∨Hw c G o∨c.H.next≤o
 mono:∀(p:Nat) (ob ob':LObj),G[p]?=some ob→G'[p]?=some ob'→ob.st≤ob'.st
 st:∀(p:Nat) (ob ob':LObj) (k:Nat) (h:AV) (o:Nat),G[p]?=some ob→G'[p]?=some ob'→c.hd[p]?=some (k,h)→Gb h=some o→ob.stp=true→ob.st=ob'.st→ob'=ob∧c'.H.get o=c.H.get o∧c'.hd[p]?=c.hd[p]?
inductive Lx where
 |t (i:Nat)
 |c (v:LV)
def Lx.ev (ρ:Ey):Lx→LV
 |.t i=>lk ρ i
 |.c v=>v
def Lx.r:Lx→Ox
 |.t i=>.t i
 |.c v=>.c (toA v)
def Lx.ok:Lx→Bool
 |.t _=>true
 |.c v=>v.cst
inductive LOp where
 |move (x:Lx)
 |pick (c a b:Lx)
 |alloc (l:List LV)
 |box (x:Lx)
 |build (cs:List LV) (ps:List (Nat×Nat×Lx))
 |buildSl (size len:Nat) (cs:List LV) (ps:List (Nat×Nat×Lx))
 |load1 (x:Lx)
 |loadN (n:Nat) (x:Lx)
 |store (n:Nat) (x y:Lx)
 |nilChk (x:Lx)
 |bin (op:BinOp) (g:Bool) (t:TypeId) (x y:Lx)
 |un (op:UnOp) (x:Lx)
 |cvInt (k:IntKind) (x:Lx)
 |cvStr (x:Lx)
 |cvSame (x:Lx)
 |cvBytes (x:Lx)
 |mkFunc (f:Nat) (first cap:List Lx)
 |mkSl (size:Nat) (z:List LV) (l c:Lx)
 |slStr (x:Lx) (lo hi:Option Lx)
 |slSl (size:Nat) (x:Lx) (lo hi:Option Lx)
 |slSl3 (size:Nat) (x:Lx) (lo hi:Option Lx) (mx:Lx)
 |fieldAddr (off:Nat) (x:Lx)
 |field (g:Bool) (n off:Nat) (x:Lx)
 |ixAddr (size:Nat) (x i:Lx)
 |ixStr (x i:Lx)
 |extract (i:Nat) (x:Lx)
 |lenStr (x:Lx)
 |lenSl (x:Lx)
 |maxi (mx:Bool) (x y:Lx)
 |max3 (mx:Bool) (x y z:Lx)
 |ixAddrArr (len size:Nat) (x i:Lx)
 |ixArr (g:Bool) (len size:Nat) (x i:Lx)
 |lenArr (n:Nat) (x:Lx)
 |appZ (size:Nat) (z:List LV) (s x:Lx)
 |appG (size:Nat) (s x:Lx)
 |copy (size:Nat) (d x:Lx)
 |clear (size:Nat) (z:List LV) (x:Lx)
 |mkMap0
 |mkMap1 (x:Lx)
 |lookup (d:TypeDesc) (z:LV) (ok:Bool) (x i:Lx)
 |mapUpd (d:TypeDesc) (m k v:Lx)
 |lenMap (x:Lx)
 |slArr (n size:Nat) (x:Lx) (lo hi:Option Lx)
 |callV (f:Lx) (args:List Lx)
def rps:List (Nat×Nat×Lx)→List (Nat×Nat×Ox)
 |[]=>[]
 |(a,b,x)::l=>(a,b,x.r)::rps l
def ej:List Lx→List Ox
 |[]=>[]
 |x::l=>x.r::ej l
def LOp.r:LOp→ROp
 |.move x=>.move x.r
 |.pick c a b=>.pick c.r a.r b.r
 |.alloc l=>.alloc (toAs l)
 |.box x=>.box x.r
 |.build cs ps=>.build (toAs cs) (rps ps)
 |.buildSl s n cs ps=>.buildSl s n (toAs cs) (rps ps)
 |.load1 x=>.load1 x.r
 |.loadN n x=>.loadN n x.r
 |.store n x y=>.store n x.r y.r
 |.nilChk x=>.nilChk x.r
 |.bin op g t x y=>.bin op g t x.r y.r
 |.un op x=>.un op x.r
 |.cvInt k x=>.cvInt k x.r
 |.cvStr x=>.cvStr x.r
 |.cvSame x=>.cvSame x.r
 |.cvBytes x=>.cvBytes x.r
 |.mkFunc f a b=>.mkFunc (.func f) (ej a) (ej b)
 |.mkSl s z l c=>.mkSl s (toAs z) l.r c.r
 |.slStr x lo hi=>.slStr x.r (lo.map Lx.r) (hi.map Lx.r)
 |.slSl s x lo hi=>.slSl s x.r (lo.map Lx.r) (hi.map Lx.r) none
 |.slSl3 s x lo hi mx=>.slSl s x.r (lo.map Lx.r) (hi.map Lx.r) (some mx.r)
 |.fieldAddr o x=>.fieldAddr o x.r
 |.field g n o x=>.field g n o x.r
 |.ixAddr s x i=>.ixAddr s x.r i.r
 |.ixStr x i=>.ixStr x.r i.r
 |.extract i x=>.extract i x.r
 |.lenStr x=>.lenStr x.r
 |.lenSl x=>.lenSl x.r
 |.maxi m x y=>.maxi m [x.r,y.r]
 |.max3 m x y z=>.maxi m [x.r,y.r,z.r]
 |.ixAddrArr l s x i=>.ixAddrArr l s x.r i.r
 |.ixArr g l s x i=>.ixArr g l s x.r i.r
 |.lenArr n x=>.lenArr n x.r
 |.appZ s z a x=>.appZ s (toAs z) a.r x.r
 |.appG s a x=>.appG s a.r x.r
 |.copy s d x=>.copy s d.r x.r
 |.clear s z x=>.clear s (toAs z) x.r
 |.mkMap0=>.mkMap0
 |.mkMap1 x=>.mkMap1 x.r
 |.lookup d z ok x i=>.lookup d (toA z) ok x.r i.r
 |.mapUpd d m k v=>.mapUpd d m.r k.r v.r
 |.lenMap x=>.lenMap x.r
 |.slArr n s x lo hi=>.slArr n s x.r (lo.map Lx.r) (hi.map Lx.r) none
 |.callV f l=>.callV f.r (ej l)
def Na (n:Int):Prop:=-9223372036854775808≤n∧n<9223372036854775808
def M7:UInt64→UInt64→UInt64:=Iq fun a b=>a+b
def Sg:UInt64→UInt64→UInt64:=Iq fun a b=>a - b
def K5:UInt64→UInt64→UInt64:=Iq fun a b=>a*b
def rh:UInt64→UInt64→UInt64:=Iq fun a b=>a/b
def bh:UInt64→UInt64→UInt64:=Iq fun a b=>a%b
def Kk:UInt64→UInt64→UInt64:=Iq fun a b=>a &&& b
def orU:UInt64→UInt64→UInt64:=Iq fun a b=>a ||| b
def Zr:UInt64→UInt64→UInt64:=Iq fun a b=>a ^^^ b
def fi:UInt64→UInt64:=Iq fun a => ~~~a
def Sm:UInt64→Nat→UInt64:=Iq fun a s=>UInt64.ofNat (a.toNat*2^s)
def J1:UInt64→Nat→UInt64:=Iq fun a s=>UInt64.ofNat (a.toNat/2^s)
def mb:UInt8→UInt8→UInt8:=Iq fun a b=>a+b
def mq:UInt8→UInt8→UInt8:=Iq fun a b=>a - b
def qo:UInt8→UInt8→UInt8:=Iq fun a b=>a &&& b
def orB:UInt8→UInt8→UInt8:=Iq fun a b=>a ||| b
def iU:Int→UInt64:=Iq fun a=>UInt64.ofInt a
def bU:UInt8→UInt64:=Iq fun a=>UInt64.ofNat a.toNat
def uB:UInt64→UInt8:=Iq fun a=>UInt8.ofNat a.toNat
def iB:Int→UInt8:=Iq fun a=>UInt8.ofInt a
def M9 (a b:UInt64):M7 a b=a+b:=by unfold M7;rw[Mz]
def Qx (a b:UInt64):Sg a b=a - b:=by unfold Sg;rw[Mz]
def wv (a b:UInt64):K5 a b=a*b:=by unfold K5;rw[Mz]
def Zo (a b:UInt64):rh a b=a/b:=by unfold rh;rw[Mz]
def zj2 (a b:UInt64):bh a b=a%b:=by unfold bh;rw[Mz]
def Wf (a b:UInt64):Kk a b=a &&& b:=by unfold Kk;rw[Mz]
def X5 (a b:UInt64):orU a b=a ||| b:=by unfold orU;rw[Mz]
def Yq (a b:UInt64):Zr a b=a ^^^ b:=by unfold Zr;rw[Mz]
def zw2 (a:UInt64):fi a = ~~~a:=by unfold fi;rw[Mz]
def Ya (a:UInt64)(s:Nat):Sm a s=UInt64.ofNat (a.toNat*2^s):=by unfold Sm;rw[Mz]
def U7 (a:UInt64)(s:Nat):J1 a s=UInt64.ofNat (a.toNat/2^s):=by unfold J1;rw[Mz]
def fy (a b:UInt8):mb a b=a+b:=by unfold mb;rw[Mz]
def Zp (a b:UInt8):mq a b=a - b:=by unfold mq;rw[Mz]
def Z3 (a b:UInt8):qo a b=a &&& b:=by unfold qo;rw[Mz]
def mh (a b:UInt8):orB a b=a ||| b:=by unfold orB;rw[Mz]
def Uj (a:Int):iU a=UInt64.ofInt a:=by unfold iU;rw[Mz]
def xk (a:UInt8):bU a=UInt64.ofNat a.toNat:=by unfold bU;rw[Mz]
def zm (a:UInt64):uB a=UInt8.ofNat a.toNat:=by unfold uB;rw[Mz]
def x4 (a:Int):iB a=UInt8.ofInt a:=by unfold iB;rw[Mz]
def Oj (op:BinOp)(a b:UInt64)(K:LV→Prop):Prop:=match op with
 |.add=>K (.u (M7 a b))
 |.sub=>K (.u (Sg a b))
 |.mul=>K (.u (K5 a b))
 |.quo=>b≠0∧K (.u (rh a b))
 |.rem=>b≠0∧K (.u (bh a b))
 |.and=>K (.u (Kk a b))
 |.or=>K (.u (orU a b))
 |.xor=>K (.u (Zr a b))
 |.andNot=>K (.u (Kk a (fi b)))
 |.shl=>K (.u (Sm a b.toNat))
 |.shr=>K (.u (J1 a b.toNat))
 |.eql=>K (.bool (decide (a=b)))
 |.neq=>K (.bool (decide (a≠b)))
 |.lss=>K (.bool (decide (a<b)))
 |.leq=>K (.bool (decide (a≤b)))
 |.gtr=>K (.bool (decide (b<a)))
 |.geq=>K (.bool (decide (b≤a)))
def bbL (op:BinOp)(a b:UInt8)(K:LV→Prop):Prop:=match op with
 |.add=>K (.b (mb a b))
 |.sub=>K (.b (mq a b))
 |.and=>K (.b (qo a b))
 |.or=>K (.b (orB a b))
 |.eql=>K (.bool (decide (a=b)))
 |.neq=>K (.bool (decide (a≠b)))
 |.lss=>K (.bool (decide (a<b)))
 |.leq=>K (.bool (decide (a≤b)))
 |.gtr=>K (.bool (decide (b<a)))
 |.geq=>K (.bool (decide (b≤a)))
 |_=>False
def N7 (op:BinOp)(a b:Int)(K:LV→Prop):Prop:=match op with
 |.add=>Na (a+b)∧K (.i (a+b))
 |.sub=>Na (a - b)∧K (.i (a - b))
 |.mul=>Na (a*b)∧K (.i (a*b))
 |.quo=>b≠0∧Na (a.tdiv b)∧K (.i (a.tdiv b))
 |.rem=>b≠0∧K (.i (a.tmod b))
 |.shl=>0≤a∧0≤b∧b≤64∧Na (a*2^b.toNat)∧K (.i (a*2^b.toNat))
 |.shr=>0≤a∧0≤b∧b≤64∧K (.i (a/2^b.toNat))
 |.and=>0≤a∧a<9223372036854775808∧0≤b∧b<9223372036854775808∧K (.i (a.toNat &&& b.toNat:Nat))
 |.or=>0≤a∧a<9223372036854775808∧0≤b∧b<9223372036854775808∧K (.i (a.toNat ||| b.toNat:Nat))
 |.eql=>K (.bool (decide (a=b)))
 |.neq=>K (.bool (decide (a≠b)))
 |.lss=>K (.bool (decide (a<b)))
 |.leq=>K (.bool (decide (a≤b)))
 |.gtr=>K (.bool (decide (b<a)))
 |.geq=>K (.bool (decide (b≤a)))
 |_=>False
def kkL (op:BinOp)(a b:Int)(K:LV→Prop):Prop:=match op with
 |.eql=>K (.bool (decide (a=b)))
 |.neq=>K (.bool (decide (a≠b)))
 |.lss=>K (.bool (decide (a<b)))
 |.leq=>K (.bool (decide (a≤b)))
 |.gtr=>K (.bool (decide (b<a)))
 |.geq=>K (.bool (decide (b≤a)))
 |_=>False
def ssL (op:BinOp)(a b:List UInt8)(K:LV→Prop):Prop:=match op with
 |.add=>a.length+b.length≤1000000000∧K (.str (a++b))
 |.eql=>K (.bool (decide (a=b)))
 |.neq=>K (.bool (decide (a≠b)))
 |_=>False
def Rx (P:Program)(op:BinOp)(g:Bool)(t:TypeId)(a b:AV)(r:Bool)(K:LV→Prop):Prop:=match op with
 |.eql=>J6 P g t a b=some r∧K (.bool r)
 |.neq=>J6 P g t a b=some r∧K (.bool (!r))
 |_=>False
def aggL (P:Program)(op:BinOp)(g:Bool)(t:TypeId)(l r:List LV)(K:LV→Prop):Prop:=match op with
 |.eql=>∃b,l.all LV.scal=true∧r.all LV.scal=true∧J6 P g t (.agg (toAs l)) (.agg (toAs r))=some b∧K (.bool b)
 |.neq=>∃b,l.all LV.scal=true∧r.all LV.scal=true∧J6 P g t (.agg (toAs l)) (.agg (toAs r))=some b∧K (.bool (!b))
 |_=>False
def lstN (op:BinOp)(len:Nat)(K:LV→Prop):Prop:=match op with
 |.eql=>K (.bool false)∧(len=0→K (.bool true))
 |.neq=>K (.bool true)∧(len=0→K (.bool false))
 |_=>False
def K8 (P:Program)(op:BinOp)(g:Bool)(t:TypeId)(x y:LV)(K:LV→Prop):Prop:=match x,y with
 |.u a,.u b=>Oj op a b K
 |.i a,.i b=>N7 op a b K
 |.b a,.b b=>bbL op a b K
 |.bool a,.bool b=>match op with
  |.eql=>J6 P g t (.bool a) (.bool b)=some (a==b)∧K (.bool (a==b))
  |.neq=>J6 P g t (.bool a) (.bool b)=some (a==b)∧K (.bool (!(a==b)))
  |_=>False
 |.u a,.i s=>match op with
  |.shl=>0≤s∧K (.u (Sm a s.toNat))
  |.shr=>0≤s∧K (.u (J1 a s.toNat))
  |_=>False
 |.i a,.u s=>match op with
  |.shl=>0≤a∧s.toNat≤64∧Na (a*2^s.toNat)∧K (.i (a*2^s.toNat))
  |.shr=>0≤a∧s.toNat≤64∧K (.i (a/2^s.toNat))
  |_=>False
 |.int k a,.int k' b=>k=k'∧kkL op a b K
 |.str a,.str b=>ssL op a b K
 |.nilPtr,.nilPtr=>Rx P op g t .nilPtr .nilPtr true K
 |.ptr _ _,.nilPtr=>Rx P op g t (.ptr 0 0 0) .nilPtr false K
 |.nilSl,.nilSl=>Rx P op g t .nilSl .nilSl true K
 |.lst _ len _,.nilSl=>J6 P g t .nilSl .nilSl=some true∧lstN op len K
 |.agg l,.agg r=>aggL P op g t l r K
 |_,_=>False
def pi (op:UnOp)(x:LV)(K:LV→Prop):Prop:=match op,x with
 |.not,.bool b=>K (.bool (!b))
 |.neg,.u a=>K (.u (Sg 0 a))
 |.neg,.i a=>Na (-a)∧K (.i (-a))
 |.xor,.u a=>K (.u (fi a))
 |_,_=>False
def w32 (n:Int):Int:=(n+2147483648)%4294967296 - 2147483648
def Zb (k:IntKind)(x:LV)(K:LV→Prop):Prop:=match k,x with
 |.u64,.u a=>K (.u a)
 |.u64,.i a=>K (.u (iU a))
 |.u64,.b a=>K (.u (bU a))
 |.i64,.u a=>a.toNat<9223372036854775808∧K (.i a.toNat)
 |.i64,.i a=>Na a∧K (.i a)
 |.i64,.b a=>K (.i a.toNat)
 |.u8,.u a=>K (.b (uB a))
 |.u8,.i a=>K (.b (iB a))
 |.u8,.b a=>K (.b a)
 |.u8,.int _ a=>K (.b (iB a))
 |.i32,.i a=>K (.int .i32 (w32 a))
 |.i64,.int _ a=>Na a∧K (.i a)
 |_,_=>False
def Ma (t:Bool)(A B:Prop):Prop:=(t=true→A)∧(t=false→B)
def wc (v:LV)(A B:Prop):Prop:=match v with
 |.bool t=>Ma t A B
 |_=>False
def Qq (G:Ev)(x:LV)(n:Nat)(K:List LV→Prop):Prop:=match x with
 |.ptr p i=>match G[p]? with
  |some (.cells l _)=>i+n≤l.length∧K ((l.drop i).take n)
  |_=>False
 |.dptr p k i=>match G[p]? with
  |some (.dyn l _ _ a _)=>k=a∧i+n≤l.length∧K ((l.drop i).take n)
  |_=>False
 |.cptr l i=>i+n≤l.length∧K ((l.drop i).take n)
 |_=>False
def Hj (l:List LV)(i:Nat)(K:LV→Prop):Prop:=∃v,l[i]?=some v∧K v
def Qp (G:Ev)(x:LV)(K:LV→Prop):Prop:=match x with
 |.ptr p i=>match G[p]? with
  |some (.cells l _)=>Hj l i K
  |_=>False
 |.dptr p k i=>match G[p]? with
  |some (.dyn l _ _ a _)=>k=a∧Hj l i K
  |_=>False
 |.cptr l i=>Hj l i K
 |_=>False
def Gp (l:List LV)(i:Nat)(r:List LV):List LV:=l.take i++r++l.drop (i+r.length)
def Oi (G:Ev)(x:LV)(r:List LV)(K:Ev→Prop):Prop:=match x with
 |.ptr p i=>match G[p]? with
  |some (.cells l st)=>i+r.length≤l.length∧K (G.set p (.cells (Gp l i r) (st+1)))
  |_=>False
 |.dptr p k i=>match G[p]? with
  |some (.dyn l len esz a st)=>k=a∧i+r.length≤l.length∧K (G.set p (.dyn (Gp l i r) len esz a (st+1)))
  |_=>False
 |_=>False
def Hm (z:List LV):Nat→List LV
 |0=>[]
 |n+1=>z++Hm z n
def Lw (G:Ev)(size:Nat)(x:LV)(K:Nat→List LV→Prop):Prop:=match x with
 |.nilSl=>K 0 []
 |.dy p k=>match G[p]? with
  |some (.dyn l len esz a _)=>k=a∧esz=size∧K len l
  |_=>False
 |.vw p k lo len=>match G[p]? with
  |some (.dyn l _ esz a _)=>k=a∧esz=size∧lo*esz+len*esz≤l.length∧K len ((l.drop (lo*esz)).take (len*esz))
  |_=>False
 |.lst l len esz=>esz=size∧K len l
 |.str l=>size=1∧K l.length (l.map LV.b)
 |_=>False
def si (G:Ev)(x:LV)(K:List LV→Prop):Prop:=match x with
 |.nilSl=>K []
 |.dy p k=>match G[p]? with
  |some (.dyn l _ esz a _)=>k=a∧esz=1∧K l
  |_=>False
 |.lst l len esz=>esz=1∧len≠0∧K l
 |_=>False
def lenL (G:Ev)(x:LV)(K:Nat→Prop):Prop:=match x with
 |.nilSl=>K 0
 |.dy p k=>match G[p]? with
  |some (.dyn _ len _ a _)=>k=a∧K len
  |_=>False
 |.vw p k _ len=>match G[p]? with
  |some (.dyn _ _ _ a _)=>k=a∧K len
  |_=>False
 |.lst _ len _=>K len
 |_=>False
def Hz (G:Ev)(size:Nat)(s:LV)(n:Nat)(new:List LV)(K:LV→Ev→Prop):Prop:=match s with
 |.nilSl=>K (.dy G.length 0) (G++[.dyn new n size 0 0])
 |.dy p k=>match G[p]? with
  |some (.dyn l len esz a st)=>k=a∧(esz=size∧0<esz)∧len≤1000000000∧K (.dy p (a+1)) (G.set p (.dyn (l++new) (len+n) esz (a+1) (st+1)))
  |_=>False
 |.vw p k lo len=>match G[p]? with
  |some (.dyn l d esz a st)=>k=a∧(esz=size∧lo=0∧0<n)∧len≤1000000000∧if (len+n)*esz≤l.length then K (.vw p k 0 (len+n)) (G.set p (.dyn (Gp l (len*esz) new) d esz a (st+1)))∧K (.dy G.length 0) (G++[.dyn (l.take (len*esz)++new) (len+n) size 0 0]) else len=d∧0<esz∧K (.dy p (a+1)) (G.set p (.dyn (l++new) (len+n) esz (a+1) (st+1)))∧K (.dy G.length 0) (G++[.dyn (l++new) (len+n) size 0 0])
  |_=>False
 |.vf p k len=>match G[p]? with
  |some (.dyn l _ esz a _)=>k=a∧(esz=size∧0<n)∧len≤1000000000∧len*esz≤l.length∧K (.dy G.length 0) (G++[.dyn (l.take (len*esz)++new) (len+n) size 0 0])
  |_=>False
 |_=>False
def fw (ρ:Ey)(cs:List LV):List (Nat×Nat×Lx)→Option (List LV)
 |[]=>some cs
 |(off,size,x)::a=>match (x.ev ρ).cells with
  |none=>none
  |some l=>if l.length=size∧off+size≤cs.length then fw ρ (Gp cs off l) a else none
def Pp (d:TypeDesc)(a b:LV):Option Bool:=match d,a,b with
 |.int _,.i a,.i b=>some (decide (a=b))
 |.int _,.u a,.u b=>some (decide (a=b))
 |.string,.str a,.str b=>some (decide (a=b))
 |_,_,_=>none
def Z2 (d:TypeDesc)(k:LV)(K:Option LV→Prop):List (LV×LV×Nat)→Prop
 |[]=>K none
 |(k',v,_)::l=>match Pp d k k' with
  |some b=>Ma b (K (some v)) (Z2 d k K l)
  |none=>False
def Oo (d:TypeDesc)(k v:LV)(clock:Nat)(K:List (LV×LV×Nat)→Bool→Prop):List (LV×LV×Nat)→Prop
 |[]=>K [(k,v,clock)] true
 |(k',a,n)::l=>match Pp d k k' with
  |some b=>Ma b (K ((k,v,n)::l) false) (Oo d k v clock (fun r new=>K ((k',a,n)::r) new) l)
  |none=>False
def Po (G:Ev)(x:LV)(K:List (LV×LV×Nat)→Prop):Prop:=match x with
 |.nilMap=>K []
 |.map p=>match G[p]? with
  |some (.map es _ _)=>K es
  |_=>False
 |_=>False
def yh (z:LV)(ok:Bool)(K:LV→Prop):Option LV→Prop
 |some v=>K (match ok with|true=>.tup [v,.bool true]|false=>v)
 |none=>K (match ok with|true=>.tup [z,.bool false]|false=>z)
def mr (G:Ev)(p a st:Nat)(K:Ev→Prop):List (LV×LV×Nat)→Bool→Prop:=fun es new=>K (G.set p (.map es (match new with|true=>a+1|false=>a) (st+1)))
def ij (G:Ev)(d:TypeDesc)(m k v:LV)(K:Ev→Prop):Prop:=match m with
 |.map p=>match G[p]? with
  |some (.map es a st)=>Oo d k v a (mr G p a st K) es
  |_=>False
 |_=>False
def Hs (ρ:Ey)(d:Nat)(x:Option Lx)(K:Nat→Prop):Prop:=match x with
 |none=>K d
 |some x=>match x.ev ρ with
  |.i n=>0≤n∧K n.toNat
  |.u n=>K n.toNat
  |_=>False
def ic (p k a b m:Nat):LV:=match decide (a=0∧b=m∧0<b) with
 |true=>.vf p k b
 |false=>.vw p k a (b - a)
def ixO (G:Ev)(size:Nat)(x:LV)(n:Int)(K:LV→Prop):Prop:=match x with
 |.dy p k=>match G[p]? with
  |some (.dyn _ len esz a _)=>k=a∧esz=size∧0≤n∧n<len∧K (.dptr p k (n.toNat*size))
  |_=>False
 |.vw p k lo len=>match G[p]? with
  |some (.dyn _ _ esz a _)=>k=a∧esz=size∧0≤n∧n<len∧K (.dptr p k ((lo+n.toNat)*size))
  |_=>False
 |.lst l len esz=>esz=size∧0≤n∧n<len∧K (.cptr l (n.toNat*size))
 |_=>False
inductive LTgt where
 |fn (f:Nat)
 |yield (p:Nat)
def nw (c:Cx):LTgt→Tgt→Prop
 |.fn f,.fn g=>f=g
 |.yield p,.yield o=>c.hd[p]?=some (0,.ptr o 0 0)
 |_,_=>False
def xj (P:Program):LTgt→Prop
 |.fn f=>Y1 P f=true∧vd P f=false
 |.yield _=>True
def Js (P:Program)(t:LTgt)(args:List LV)(G:Ev)(K:LV→Ev→Prop):Prop :=
 xj P t∧∀c t1 a,HSim c G→nw c t t1→ARs c args a→∃m v1 H',Kq P (OL P) m t1 a c.H=.ok v1 H'∧∃c' v G',c'.H=H'∧HSim c' G'∧Step c G c' G'∧AR c' v v1∧K v G'
def F7 (P:Program)(ρ:Ey)(G:Ev)(o:LOp)(K:LV→Ev→Prop):Prop:=match o with
 |.move x=>K (x.ev ρ) G
 |.pick c a b=>match c.ev ρ with
  |.bool t=>match a.ev ρ,b.ev ρ with
   |.bool x,.bool y=>K (.bool (match t with|true=>x|false=>y)) G
   |x,y=>Ma t (K x G) (K y G)
  |_=>False
 |.alloc l=>K (.ptr G.length 0) (G++[.cells l 0])
 |.box x=>match (x.ev ρ).cells with
  |some l=>K (.ptr G.length 0) (G++[.cells l 0])
  |none=>False
 |.build cs w=>match fw ρ cs w with
  |some l=>K (.agg l) G
  |none=>False
 |.buildSl size len cs w=>match fw ρ cs w with
  |some l=>l.length=len*size∧K (.dy G.length 0) (G++[.dyn l len size 0 0])
  |none=>False
 |.load1 x=>Qp G (x.ev ρ) fun v=>K v G
 |.loadN n x=>Qq G (x.ev ρ) n fun l=>K (.agg l) G
 |.store n x y=>match (y.ev ρ).cells with
  |some l=>l.length=n∧Oi G (x.ev ρ) l fun G'=>K (.tup []) G'
  |none=>False
 |.nilChk x=>match x.ev ρ with
  |.ptr p i=>K (.ptr p i) G
  |.dptr p k i=>K (.dptr p k i) G
  |.cptr l i=>K (.cptr l i) G
  |.fn (.func f) a b=>K (.fn (.func f) a b) G
  |_=>False
 |.bin op g t x y=>K8 P op g t (x.ev ρ) (y.ev ρ) fun v=>K v G
 |.un op x=>pi op (x.ev ρ) fun v=>K v G
 |.cvInt k x=>Zb k (x.ev ρ) fun v=>K v G
 |.cvStr x=>si G (x.ev ρ) fun l=>∃bs:List UInt8,l=bs.map LV.b∧K (.str bs) G
 |.cvSame x=>match x.ev ρ with
  |.str l=>K (.str l) G
  |_=>False
 |.cvBytes x=>match x.ev ρ with
  |.str l=>K (.dy G.length 0) (G++[.dyn (l.map LV.b) l.length 1 0 0])
  |_=>False
 |.mkFunc f a b=>K (.fn (.func f) (a.map (·.ev ρ)) (b.map (·.ev ρ))) G
 |.mkSl size z l c=>match l.ev ρ,c.ev ρ with
  |.i l,.i c=>l=c∧0≤l∧l≤1048576∧z.length=size∧K (.dy G.length 0) (G++[.dyn (Hm z l.toNat) l.toNat size 0 0])
  |_,_=>False
 |.slStr x lo hi=>match x.ev ρ with
  |.str l=>Hs ρ 0 lo fun a=>Hs ρ l.length hi fun b=>a≤b∧b≤l.length∧K (.str ((l.drop a).take (b - a))) G
  |_=>False
 |.slSl size x lo hi=>match x.ev ρ with
  |.nilSl=>Hs ρ 0 lo fun a=>Hs ρ 0 hi fun b=>a=0∧b=0∧K .nilSl G
  |.dy p k=>match G[p]? with
   |some (.dyn _ len esz h _)=>k=h∧esz=size∧Hs ρ 0 lo fun a=>Hs ρ len hi fun b=>a≤b∧b≤len∧K (.vw p k a (b - a)) G
   |_=>False
  |.vw p k A len=>match G[p]? with
   |some (.dyn _ _ esz h _)=>k=h∧esz=size∧Hs ρ 0 lo fun a=>Hs ρ len hi fun b=>a≤b∧b≤len∧K (.vw p k (A+a) (b - a)) G
   |_=>False
  |.lst l len esz=>esz=size∧Hs ρ 0 lo fun a=>Hs ρ len hi fun b=>a≤b∧b≤len∧K (.lst ((l.drop (a*esz)).take ((b - a)*esz)) (b - a) esz) G
  |_=>False
 |.slSl3 size x lo hi mx=>match x.ev ρ with
  |.dy p k=>match G[p]? with
   |some (.dyn _ len esz h _)=>k=h∧esz=size∧Hs ρ 0 lo fun a=>Hs ρ len hi fun b=>Hs ρ 0 (some mx) fun m=>0<len∧a≤b∧b≤m∧m≤len∧K (ic p k a b m) G
   |_=>False
  |.lst l len esz=>esz=size∧Hs ρ 0 lo fun a=>Hs ρ len hi fun b=>Hs ρ 0 (some mx) fun m=>0<len∧a≤b∧b≤m∧m≤len∧K (.lst ((l.drop (a*esz)).take ((b - a)*esz)) (b - a) esz) G
  |_=>False
 |.fieldAddr off x=>match x.ev ρ with
  |.ptr p i=>K (.ptr p (i+off)) G
  |.dptr p k i=>K (.dptr p k (i+off)) G
  |.cptr l i=>K (.cptr l (i+off)) G
  |_=>False
 |.field g n off x=>match x.ev ρ with
  |.agg l=>match g with
   |true=>off+n≤l.length∧K (.agg ((l.drop off).take n)) G
   |false=>Hj l off fun v=>K v G
  |_=>False
 |.ixAddr size x i=>match i.ev ρ with
  |.i n=>ixO G size (x.ev ρ) n fun v=>K v G
  |.u n=>ixO G size (x.ev ρ) (n.toNat:Int) fun v=>K v G
  |_=>False
 |.ixStr x i=>match x.ev ρ,i.ev ρ with
  |.str l,.i n=>0≤n∧n<l.length∧K (.b (l.getD n.toNat 0)) G
  |.str l,.u n=>n.toNat<l.length∧K (.b (l.getD n.toNat 0)) G
  |.str l,.b n=>n.toNat<l.length∧K (.b (l.getD n.toNat 0)) G
  |_,_=>False
 |.extract i x=>match x.ev ρ with
  |.tup l=>Hj l i fun v=>K v G
  |_=>False
 |.lenStr x=>match x.ev ρ with
  |.str l=>K (.i l.length) G
  |_=>False
 |.lenSl x=>lenL G (x.ev ρ) fun n=>K (.i n) G
 |.maxi mx x y=>match x.ev ρ,y.ev ρ with
  |.i a,.i b=>K (.i (match mx with|true=>max a b|false=>min a b)) G
  |.u a,.u b=>K (.u (match mx with|true=>if a<b then b else a|false=>if b<a then b else a)) G
  |_,_=>False
 |.max3 mx x y z=>match x.ev ρ with
  |.i a=>match y.ev ρ with
   |.i b=>match z.ev ρ with
    |.i d=>K (.i (match mx with|true=>max (max a b) d|false=>min (min a b) d)) G
    |_=>False
   |_=>False
  |_=>False
 |.ixAddrArr len size x i=>match i.ev ρ with
  |.i n=>0≤n∧n<len∧match x.ev ρ with
   |.ptr p j=>K (.ptr p (j+n.toNat*size)) G
   |.dptr p k j=>K (.dptr p k (j+n.toNat*size)) G
   |.cptr l j=>K (.cptr l (j+n.toNat*size)) G
   |_=>False
  |_=>False
 |.ixArr g len size x i=>match i.ev ρ with
  |.i n=>0≤n∧n<len∧match x.ev ρ with
   |.agg l=>match g with
    |true=>n.toNat*size+size≤l.length∧K (.agg ((l.drop (n.toNat*size)).take size)) G
    |false=>Hj l (n.toNat*size) fun v=>K v G
   |_=>False
  |_=>False
 |.lenArr n _=>K (.i n) G
 |.appZ size z s x=>match x.ev ρ with
  |.i n=>0≤n∧n≤1048576∧z.length=size∧Hz G size (s.ev ρ) n.toNat (Hm z n.toNat) K
  |_=>False
 |.appG size s x=>Lw G size (x.ev ρ) fun n l=>n≤1048576∧Hz G size (s.ev ρ) n l K
 |.copy size d x=>Lw G size (x.ev ρ) fun n l=>match d.ev ρ with
  |.dy p k=>match G[p]? with
   |some (.dyn r len esz h st)=>k=h∧esz=size∧K (.i (min n len:Nat)) (G.set p (.dyn (Gp r 0 (l.take (min n len*size))) len esz h (st+1)))
   |_=>False
  |.vw p k lo len=>match G[p]? with
   |some (.dyn r q esz h st)=>k=h∧esz=size∧(lo+len)*size≤r.length∧K (.i (min n len:Nat)) (G.set p (.dyn (Gp r (lo*size) (l.take (min n len*size))) q esz h (st+1)))
   |_=>False
  |_=>False
 |.clear size z x=>match x.ev ρ with
  |.vw p k lo len=>match G[p]? with
   |some (.dyn r q esz h st)=>k=h∧esz=size∧z.length=size∧(lo+len)*size≤r.length∧K .any (G.set p (.dyn (Gp r (lo*size) (Hm z len)) q esz h (st+1)))
   |_=>False
  |_=>False
 |.mkMap0=>K (.map G.length) (G++[.map [] 0 0])
 |.mkMap1 x=>match x.ev ρ with
  |.i _=>K (.map G.length) (G++[.map [] 0 0])
  |_=>False
 |.lookup d z ok x i=>Po G (x.ev ρ) fun es=>Z2 d (i.ev ρ) (yh z ok fun v=>K v G) es
 |.mapUpd d m k v=>ij G d (m.ev ρ) (k.ev ρ) (v.ev ρ) fun G'=>K .any G'
 |.lenMap x=>Po G (x.ev ρ) fun es=>K (.i es.length) G
 |.slArr n size x lo hi=>match x.ev ρ with
  |.ptr p i=>match G[p]? with
   |some (.cells l st)=>i+n*size≤l.length∧Hs ρ 0 lo fun a=>Hs ρ n hi fun b=>a≤b∧b≤n∧K (.lst ((l.drop (i+a*size)).take ((b - a)*size)) (b - a) size) (G.set p (.dead (st+1)))
   |_=>False
  |_=>False
 |.callV f args=>match f.ev ρ with
  |.fn (.func g) a b=>Js P (.fn g) (a++args.map (·.ev ρ)++b) G K
  |.fn (.yield p) [] _=>Js P (.yield p) (args.map (·.ev ρ)) G K
  |_=>False
end Go.Sv
end
namespace Go.Sv
def vr {t:Tr AV}:∀{n i:Nat} {l:List AV},l.length=n→(∀j,j<n→E3 (Fl (i+j)) t=l[j]?)→Kt t i n=some l
 |0,i,l,h,_=>by
  have:l=[]:=A0 h;subst this;rfl
 |n+1,i,[],h,_=>by simp at h
 |n+1,i,a::l,h,k=>by
  have d:=k 0 (by omega);simp only[C5,A6] at d;have f:=vr (t:=t) (n:=n) (i:=i+1) (l:=l) (by simpa using h) (fun j g=>by
   have:=k (j+1) (by omega);rw[Av] at this;rw[←this,show i+1+j=i+(j+1) from by omega])
  simp only[Kt,d,f]
def zpm {t:Tr AV}{N i n:Nat}{l:List AV}(h:Kt t 0 N=some l)(hle:i+n≤N):Kt t i n=some ((l.drop i).take n):=by
 obtain⟨f,a⟩:=X0 h;refine vr (by simp;omega) (fun j d=>?_);have:=a (i+j) (by omega);rw[Bd] at this;rw[this,Ch d,Es]
def zs (l:List AV):Kt (Ju l 0 .e) 0 l.length=some l :=
 vr rfl (fun j a=>by rw[get_ofList,Ai (by omega)];simp)
def Xo (l:List AV)(i:Nat)(r:List AV):List AV:=l.take i++r++l.drop (i+r.length)
def zpk {l r:List AV}{i:Nat}(h:i+r.length≤l.length):(Xo l i r).length=l.length:=by
 unfold Xo;simp;omega
def zi1 {l r:List AV}{i:Nat}(h:i+r.length≤l.length)(j:Nat):(Xo l i r)[j]?=if i≤j∧j<i+r.length then r[j - i]? else l[j]?:=by
 have hi:(l.take i).length=i:=by simp;omega
 unfold Xo;by_cases a:j<i
 ·rw[Ab (by omega),Br,Aq (by omega),Ch a]
 ·by_cases d:j<i+r.length
  ·rw[Ai (by omega),Aq (by simp;omega),Au (by omega),hi]
  ·rw[Ab (by omega),Au (by simp;omega),Es]
   congr 1
   simp;omega
def zg6 {t:Tr AV}{N i:Nat}{l r:List AV}(h:Kt t 0 N=some l)(hle:i+r.length≤N):Kt (Ju r i t) 0 N=some (Xo l i r):=by
 obtain⟨a,d⟩:=X0 h;refine vr (by rw[zpk (by omega)];exact a) (fun j f=>?_);have:=d j f;rw[Bd] at this ⊢;rw[get_ofList,zi1 (by omega),this]
def znd {t:Tr AV}{N:Nat}{l r:List AV}(h:Kt t 0 N=some l):Kt (Ju r N t) 0 (N+r.length)=some (l++r):=by
 obtain⟨d,f⟩:=X0 h;refine vr (by simp;omega) (fun j g=>?_);rw[Bd,get_ofList];by_cases a:N≤j
 ·rw[Ai ⟨a,by omega⟩,Au (by omega),d]
 ·rw[Ab (by omega),Aq (by omega)];have:=f j (by omega)
  rwa [Bd] at this
def Pj {H:Heap}{o v i n N a:Nat}{t:Tr AV}{ro:Bool}{l:List AV}(d:H.get o=some (.cells t a v ro))(f:Kt t 0 N=some l)(h:N≤a)(hle:i+n≤N):Jd H o v i n=some ((l.drop i).take n):=by
 unfold Jd;rw[d];have g:Nat.ble (Nat.add i n) a=true:=Ak (by show i+n≤a;omega);simp only[Bj,g];exact zpm f hle
def nq {H H':Heap}{o:Nat}(h:H'.get o=H.get o)(v i n:Nat):Jd H' o v i n=Jd H o v i n:=by
 unfold Jd;rw[h]
def zkb {H:Heap}{o v i n j m:Nat}{l:List AV}(h:Jd H o v i n=some l)(hle:j+m≤n):Jd H o v (i+j) m=some ((l.drop j).take m):=by
 unfold Jd at h ⊢;split at h
 ·rename_i t a f ro w;split at h
  ·rename_i hv;split at h
   ·rename_i g;have p:i+n≤a:=As g;have d:Nat.ble (Nat.add (i+j) m) a=true:=Ak (by show i+j+m≤a;omega);simp only[d];obtain⟨x,r⟩:=X0 h;refine vr (by simp;omega) (fun q s=>?_);have:=r (j+q) (by omega);rw[Cs,this,Ch s,Es]
   ·cases h
  ·cases h
 ·cases h
def zeh {H:Heap}{o v i n:Nat}{l:List AV}(h:Jd H o v i n=some l):l.length=n:=by
 unfold Jd at h;split at h
 ·split at h
  ·split at h
   ·exact (X0 h).1
   ·cases h
  ·cases h
 ·cases h
section lists
variable {c : Cx}
def ARs.length:∀{l:List LV} {r:List AV},ARs c l r→l.length=r.length
 |_,_,.nil=>rfl
 |_,_,.cons _ es=>by simp[ARs.length es]
def ARs.get:∀{l:List LV} {r:List AV},ARs c l r→∀{i:Nat} {v:LV},l[i]?=some v→∃a,r[i]?=some a∧AR c v a
 |_,_,.nil,i,v,h=>by simp at h
 |_,_,.cons e es,0,v,h=>by simp only[A6,Option.some.injEq] at h;subst h;exact⟨_,rfl,e⟩
 |_,_,.cons e es,i+1,v,h=>by simp only[Av] at h ⊢;exact ARs.get es h
def ARs.append:∀{l:List LV} {r:List AV} {l':List LV} {r':List AV},ARs c l r→ARs c l' r'→ARs c (l++l') (r++r')
 |_,_,_,_,.nil,k=>k
 |_,_,_,_,.cons e es,k=>.cons e (ARs.append es k)
def ARs.drop:∀{l:List LV} {r:List AV},ARs c l r→∀n,ARs c (l.drop n) (r.drop n)
 |_,_,h,0=>h
 |_,_,.nil,_+1=>.nil
 |_,_,.cons _ es,n+1=>ARs.drop es n
def ARs.take:∀{l:List LV} {r:List AV},ARs c l r→∀n,ARs c (l.take n) (r.take n)
 |_,_,_,0=>.nil
 |_,_,.nil,_+1=>.nil
 |_,_,.cons e es,n+1=>.cons e (ARs.take es n)
def ARs.lay {l r:List LV}{l' r':List AV}(h:ARs c l l')(k:ARs c r r')(i:Nat):ARs c (Gp l i r) (Xo l' i r'):=by
 unfold Gp Xo;rw[k.length];exact ((h.take i).append k).append (h.drop _)
def zbf {l r:List LV}{i:Nat}(h:i+r.length≤l.length):(Gp l i r).length=l.length:=by
 unfold Gp;simp;omega
def ARs.rep {z:List LV}{z':List AV}(h:ARs c z z'):∀n,ARs c (Hm z n) (Lu z' n)
 |0=>.nil
 |n+1=>h.append (ARs.rep h n)
def ye (z:List LV):∀n,(Hm z n).length=n*z.length
 |0=>by simp[Hm]
 |n+1=>by simp[Hm,ye z n,Bb];omega
end lists
def zw8 (c:Cx){v:LV}(h:v.scal=true):AR c v (toA v):=by
 cases v<;>first|(cases h;done)|(unfold toA;constructor)
def jh (c:Cx):∀{l:List LV},l.all LV.scal=true→ARs c l (toAs l)
 |[],_=>by unfold toAs;exact .nil
 |v::l,h=>by
  simp only[Ct,Ac] at h;unfold toAs;exact .cons (zw8 c h.1) (jh c h.2)
def T2 (c:Cx){v:LV}(h:v.cst=true):AR c v (toA v):=by
 unfold LV.cst at h;split at h
 ·unfold toA;exact .fn .nil .nil
 ·unfold toA;exact .agg (jh c h)
 ·unfold toA toAs;exact .tup .nil
 ·exact zw8 c h
def AR.cells {c:Cx}{v:LV}{a:AV}(h:AR c v a){l:List LV}(hl:v.cells=some l):∃l',a.cells=some l'∧ARs c l l':=by
 cases v with
 |any=>cases hl
 |tup _=>cases hl
 |agg l0=>cases hl;cases h with|agg h=>exact⟨_,rfl,h⟩
 |dy p k =>
  simp only[LV.cells,Option.some.injEq] at hl;subst hl;have h0:=h;refine⟨[a],?_,.cons h0 .nil⟩;cases h with|dy _ _ _ hs=>cases a<;>first|rfl|cases hs
 |vw p k lo len =>
  simp only[LV.cells,Option.some.injEq] at hl;subst hl;have h0:=h;refine⟨[a],?_,.cons h0 .nil⟩;cases h with|vw _ _ _ hs _=>cases a<;>first|rfl|cases hs
 |vf p k len =>
  simp only[LV.cells,Option.some.injEq] at hl;subst hl;have h0:=h;refine⟨[a],?_,.cons h0 .nil⟩;cases h with|vf _ _ _ hs=>cases a<;>first|rfl|cases hs
 |_ =>
  simp only[LV.cells,Option.some.injEq] at hl;subst hl;have h0:=h;refine⟨[a],?_,.cons h0 .nil⟩;cases h<;>rfl
def CxLe.refl (c:Cx):CxLe c c:=⟨fun _ k h e=>⟨k,h,e,Am _,fun _=>rfl,fun _=>rfl⟩,fun _ h=>⟨h,rfl⟩⟩
def CxLe.trans {a b c:Cx}(h:CxLe a b)(k:CxLe b c):CxLe a c:=by
 refine⟨fun p v x e=>?_,fun o e=>?_⟩
 ·obtain⟨v1,x1,e1,l1,s1,f1⟩:=h.hd p v x e;obtain⟨v2,x2,e2,l2,s2,f2⟩:=k.hd p v1 x1 e1;refine⟨v2,x2,e2,Bo l1 l2,fun q=>?_,fun q=>?_⟩
  ·have q1:v=v1:=by omega
   have q2:v1=v2:=by omega
   rw[s1 q1,s2 q2]
  ·have q1:=f1 q;have:=s1 q1;subst this;rw[q1,f2 q]
 ·obtain⟨h1,h2⟩:=h.fz o e;obtain⟨h3,h4⟩:=k.fz o h1;exact⟨h3,h4.trans h2⟩
def CxLe.fix {c c':Cx}(h:CxLe c c'){p k:Nat}{x:AV}(e:c.hd[p]?=some (k,x))(hf:Rt x=true):c'.hd[p]?=some (k,x):=by
 obtain⟨k',x',e',_,s,f⟩:=h.hd p k x e;have:=f hf;subst this;rw[s rfl];exact e'
mutual
def AR.mono {c c':Cx}(h:CxLe c c'):∀{v:LV} {a:AV},AR c v a→AR c' v a
 |_,_,.any a=>.any a
 |_,_,.bool b=>.bool b
 |_,_,.u x=>.u x
 |_,_,.b x=>.b x
 |_,_,.i n=>.i n
 |_,_,.int k n=>.int k n
 |_,_,.str l=>.str l
 |_,_,.nilPtr=>.nilPtr
 |_,_,.ptr e=>.ptr (h.fix e rfl)
 |_,_,.dptr hp hk ha=>by
  obtain⟨k2,h2,e2,l2,s2,_⟩:=h.hd _ _ _ hp;refine .dptr e2 (Bo hk l2) (fun q=>?_);have q1:=ha (by omega);rw[←s2 (by omega)];exact q1
 |_,_,.cptr hf hr hl=>.cptr (h.fz _ hf).1 (by rw[nq (h.fz _ hf).2];exact hr) (ARs.mono h hl)
 |_,_,.nilSl=>.nilSl
 |_,_,.dy hp hk ha hs=>by
  obtain⟨k2,h2,e2,l2,s2,_⟩:=h.hd _ _ _ hp;refine .dy e2 (Bo hk l2) (fun q=>?_) hs;have q1:=ha (by omega);rw[←s2 (by omega)];exact q1
 |_,_,.vw hp hk ha hs hz=>by
  obtain⟨k2,h2,e2,l2,s2,_⟩:=h.hd _ _ _ hp;refine .vw e2 (Bo hk l2) (fun q=>?_) hs (fun q=>?_)
  ·have q1:=ha (by omega);rw[←s2 (by omega)];exact q1
  ·have q1:=hz (by omega);rw[←s2 (by omega)];exact q1
 |_,_,.vf hp hk ha hs=>by
  obtain⟨k2,h2,e2,l2,s2,_⟩:=h.hd _ _ _ hp;refine .vf e2 (Bo hk l2) (fun q=>?_) hs;have q1:=ha (by omega);rw[←s2 (by omega)];exact q1
 |_,_,.lst hf hrm hlen hr hl=>.lst (h.fz _ hf).1 hrm hlen (by rw[nq (h.fz _ hf).2];exact hr) (ARs.mono h hl)
 |_,_,.lstNil=>.lstNil
 |_,_,.lstEmp=>.lstEmp
 |_,_,.nilMap=>.nilMap
 |_,_,.map e=>.map (h.fix e rfl)
 |_,_,.nilFn=>.nilFn
 |_,_,.fn hl hr=>.fn (ARs.mono h hl) (ARs.mono h hr)
 |_,_,.yield e=>.yield (h.fix e rfl)
 |_,_,.nilIf=>.nilIf
 |_,_,.iface e=>.iface (AR.mono h e)
 |_,_,.agg e=>.agg (ARs.mono h e)
 |_,_,.tup e=>.tup (ARs.mono h e)
def ARs.mono {c c':Cx}(h:CxLe c c'):∀{l:List LV} {r:List AV},ARs c l r→ARs c' l r
 |_,_,.nil=>.nil
 |_,_,.cons e es=>.cons (AR.mono h e) (ARs.mono h es)
end
def MRs.mono {c c':Cx}(h:CxLe c c'):∀{l:List (LV×LV×Nat)} {r:List (AV×AV×Nat)},MRs c l r→MRs c' l r
 |_,_,.nil=>.nil
 |_,_,.cons hk hv hs=>.cons (hk.mono h) (hv.mono h) (MRs.mono h hs)
def Gm.mono {c c':Cx}(h:CxLe c c'){ρ:Ey}{E:Tr AV}(k:Gm c ρ E):Gm c' ρ E:=fun t=>(k t).mono h
def jc.mono {c c':Cx}(h:CxLe c c'){k:Nat}{x:AV}{ob:LObj}(hg:∀o,Gb x=some o→c'.H.get o=c.H.get o)(r:jc c k x ob):jc c' k x ob:=by
 cases ob with
 |dead st=>trivial
 |cells l st =>
  obtain⟨r0,o,t,l',rfl,r2,r3,r4⟩:=r;exact⟨r0,o,t,l',rfl,by rw[hg o rfl];exact r2,r3,r4.mono h⟩
 |dyn l len esz af st =>
  obtain⟨r0,r1,r2⟩:=r;refine⟨r0,r1,?_⟩;rcases r2 with r2|⟨o,v,room,t,aa,l',rfl,r3,r4,r5,r6,r7⟩
  ·exact .inl r2
  ·exact .inr ⟨o,v,room,t,aa,l',rfl,by rw[hg o rfl];exact r3,r4,r5,r6.mono h,r7⟩
 |map es ck st =>
  obtain⟨r0,o,ad,rfl,r2,r3⟩:=r;exact⟨r0,o,ad,rfl,by rw[hg o rfl];exact r2,r3.mono h⟩
 |iter l pos =>
  obtain⟨r0,o,rfl,r2⟩:=r;exact⟨r0,o,rfl,by rw[hg o rfl];exact r2⟩
 |loop s pend f n ρ ps a b d =>
  obtain⟨r0,o,od,E,rfl,r2,r3,r4⟩:=r;exact⟨r0,o,od,E,rfl,h.fix r2 rfl,by rw[hg o rfl];exact r3,r4.mono h⟩
 |defd op =>
  obtain⟨r0,o,rfl,r2⟩:=r;exact⟨r0,o,rfl,by rw[hg o rfl];exact r2⟩
def Step.refl (c:Cx)(G:Ev):Step c G c G:=by
 refine⟨.refl c,Am _,fun _ _ _=>rfl,fun _ h=>.inl h,fun _ h=>.inl h,fun p ob ob' e1 e2=>?_,fun p ob ob' k h o e1 e2 _ _ _ _=>?_⟩
 ·rw[e1] at e2;cases e2;exact Am _
 ·rw[e1] at e2;cases e2;exact⟨rfl,rfl,rfl⟩
def Step.trans {c c1 c2:Cx}{G G1 G2:Ev}(h0:HSim c G)(h1:HSim c1 G1)(s1:Step c G c1 G1)(s2:Step c1 G1 c2 G2):Step c G c2 G2:=by
 have af:∀p ob,G[p]?=some ob→∃aa,G1[p]?=some aa:=fun p ob e=>by
  have hp:p<c.hd.length:=by rw[h0.len];exact (Aa.1 e).1
  obtain⟨k,h,e3⟩:∃k h,c.hd[p]?=some (k,h):=⟨_,_,Ah hp⟩;obtain⟨k1,x1,q1,_,_,_⟩:=s1.le.hd p k h e3;have hp:p<G1.length:=by rw[←h1.len];exact (Aa.1 q1).1
  exact⟨_,Ah hp⟩
 refine⟨s1.le.trans s2.le,Bo s1.nx s2.nx,fun o ho hn=>?_,fun o ho=>?_,fun o ho=>?_,fun p ob ad e1 e2=>?_,fun p ob ad k h o e1 e2 e3 e4 hl he=>?_⟩
 ·rw[s2.frame o (Bg ho s1.nx) (fun hc=>?_),s1.frame o ho hn];rcases s1.new o hc with h|h
  ·exact hn h
  ·omega
 ·rcases s2.new o ho with h|h
  ·exact s1.new o h
  ·exact .inr (Bo s1.nx h)
 ·rcases s2.fznew o ho with h|h|h
  ·exact s1.fznew o h
  ·rcases s1.new o h with h|h
   ·exact .inr (.inl h)
   ·exact .inr (.inr h)
  ·exact .inr (.inr (Bo s1.nx h))
 ·obtain⟨aa,q2⟩:=af p ob e1;exact Bo (s1.mono p ob aa e1 q2) (s2.mono p aa ad q2 e2)
 ·obtain⟨aa,q2⟩:=af p ob e1;have m1:=s1.mono p ob aa e1 q2;have m2:=s2.mono p aa ad q2 e2;obtain⟨rfl,r3,r4⟩:=s1.st p ob aa k h o e1 q2 e3 e4 hl (by omega);obtain⟨rfl,r7,r8⟩:=s2.st p aa ad k h o q2 e2 (by rw[r4];exact e3) e4 hl (by omega);rw[r7,r8,r3,r4];exact⟨rfl,rfl,rfl⟩
def HSim.push {c:Cx}{G:Ev}(hs:HSim c G){H':Heap}{x:AV}{ob:LObj}(ah:c.H.next≤H'.next)(ag:∀o,o<c.H.next→H'.get o=c.H.get o)(aj:∀o,Gb x=some o→c.H.next≤o∧o<H'.next)
  (aq:jc ⟨c.hd++[(0,x)],c.Fz,H'⟩ 0 x ob):HSim ⟨c.hd++[(0,x)],c.Fz,H'⟩ (G++[ob])∧Step c G ⟨c.hd++[(0,x)],c.Fz,H'⟩ (G++[ob])∧CxLe c ⟨c.hd++[(0,x)],c.Fz,H'⟩:=by
 have ap:∀(p k:Nat) (h:AV),c.hd[p]?=some (k,h)→(c.hd++[(0,x)])[p]?=some (k,h):=fun p k h e=>by
  rw[Aq (Aa.1 e).1];exact e
 have hle:CxLe c ⟨c.hd++[(0,x)],c.Fz,H'⟩:=⟨fun p k h e=>⟨k,h,ap p k h e,Am _,fun _=>rfl,fun _=>rfl⟩,fun o ho=>⟨ho,ag o (hs.fz o ho)⟩⟩;have hinv:∀(p:Nat) (k:Nat) (h:AV) (ob':LObj),(c.hd++[(0,x)])[p]?=some (k,h)→(G++[ob])[p]?=some ob'→(c.hd[p]?=some (k,h)∧G[p]?=some ob')∨(p=G.length∧k=0∧h=x∧ob'=ob):=by
  intro p k h ob' e1 e2;by_cases hp:p<G.length
  ·rw[Aq hp] at e2;rw[Aq (by rw[hs.len];exact hp)] at e1;exact .inl ⟨e1,e2⟩
  ·have ar:p=G.length:=by
    have:=(Aa.1 e2).1;simp at this;omega
   subst ar;rw[Aw] at e2;rw[←hs.len,Aw] at e1;cases e1;cases e2;exact .inr ⟨rfl,rfl,rfl,rfl⟩
 have ad:∀o,Hw ⟨c.hd++[(0,x)],c.Fz,H'⟩ (G++[ob]) o→Hw c G o∨(c.H.next≤o∧o<H'.next):=by
  rintro o ⟨p,ob',k,h,e1,e2,e3,e4⟩;rcases hinv p k h ob' e3 e1 with ⟨q1,q2⟩|⟨_,_,rfl,_⟩
  ·exact .inl ⟨p,ob',k,h,q2,e2,q1,e4⟩
  ·exact .inr (aj o e4)
 refine⟨⟨by simp[hs.len],fun o ho=>Bg (hs.fz o ho) ah,fun o ho=>?_,fun o ho hf=>?_,fun p ob' k h e1 e2=>?_,?_⟩,⟨hle,ah,fun o ho _=>ag o ho,fun o ho=>?_,fun o ho=>.inl ho,fun p aa af e1 e2=>?_,fun p aa af k h o e1 e2 e3 e4 hl _=>?_⟩,hle⟩
 ·rcases ad o ho with h|h
  ·exact Bg (hs.lt o h) ah
  ·exact h.2
 ·rcases ad o ho with h|h
  ·exact hs.sep o h hf
  ·have:=hs.fz o hf;omega
 ·rcases hinv p k h ob' e2 e1 with ⟨q1,q2⟩|⟨_,rfl,rfl,rfl⟩
  ·by_cases hl:ob'.live=true
   ·exact (hs.obj p ob' k h q2 q1).mono hle (fun o ho=>ag o (hs.lt o ⟨p,ob',k,h,q2,hl,q1,ho⟩))
   ·cases ob'<;>first|exact absurd rfl hl|trivial
  ·exact aq
 ·intro p q aa af k h k' h' o e1 e2 e3 e4 e5 e6 e7 e8;rcases hinv p k h aa e5 e1 with ⟨q1,q2⟩|⟨r1,_,rfl,rfl⟩<;>rcases hinv q k' h' af e6 e2 with ⟨q3,q4⟩|⟨r2,_,rfl,rfl⟩
  ·exact hs.excl p q aa af k h k' h' o q2 q4 e3 e4 q1 q3 e7 e8
  ·have:=hs.lt o ⟨p,aa,k,h,q2,e3,q1,e7⟩;have:=aj o e8;omega
  ·have:=hs.lt o ⟨q,af,k',h',q4,e4,q3,e8⟩;have:=aj o e7;omega
  ·omega
 ·rcases ad o ho with h|h
  ·exact .inl h
  ·exact .inr h.1
 ·rw[Aq (Aa.1 e1).1,e1] at e2;cases e2;exact Am _
 ·rw[Aq (Aa.1 e1).1,e1] at e2;cases e2;have ao:aa.live=true:=by cases aa<;>first|rfl|cases hl
  exact⟨rfl,ag o (hs.lt o ⟨p,aa,k,h,e1,ao,e3,e4⟩),by rw[ap p k h e3,e3]⟩
def HSim.upd {c:Cx}{G:Ev}(hs:HSim c G){p k k':Nat}{x x':AV}{ob ob':LObj}{H':Heap}(hG:G[p]?=some ob)(hl:ob.live=true)(hp:c.hd[p]?=some (k,x))(aq:c.H.next≤H'.next)
  (ap:∀o,o<c.H.next→Gb x≠some o→H'.get o=c.H.get o) (ar:∀o,Gb x'=some o→(Gb x=some o∨c.H.next≤o)∧o<H'.next)
  (hk:k≤k') (hx:k=k'→x=x') (hf:Rt x=true→k=k') (ax:ob.st<ob'.st∨(ob.stp=false∧ob.st≤ob'.st))
  (az:CxLe c ⟨c.hd.set p (k',x'),c.Fz,H'⟩→jc ⟨c.hd.set p (k',x'),c.Fz,H'⟩ k' x' ob') :
  HSim ⟨c.hd.set p (k',x'),c.Fz,H'⟩ (G.set p ob')∧Step c G ⟨c.hd.set p (k',x'),c.Fz,H'⟩ (G.set p ob')∧CxLe c ⟨c.hd.set p (k',x'),c.Fz,H'⟩:=by
 have ay:p<c.hd.length:=(Aa.1 hp).1;have aw:p<G.length:=(Aa.1 hG).1;have af:∀o,Gb x=some o→Hw c G o:=fun o ho=>⟨p,ob,k,x,hG,hl,hp,ho⟩
 have hle:CxLe c ⟨c.hd.set p (k',x'),c.Fz,H'⟩:=by
  refine⟨fun q k1 h1 e=>?_,fun o ho=>⟨ho,ap o (hs.fz o ho) (fun q=>hs.sep o (af o q) ho)⟩⟩;by_cases hq:q=p
  ·subst hq;rw[hp] at e;cases e;exact⟨k',x',by dsimp only;rw[Ag ay],hk,hx,hf⟩
  ·exact⟨k1,h1,by dsimp only;rw[Ad (Ne.symm hq)];exact e,Am _,fun _=>rfl,fun _=>rfl⟩
 have hinv:∀(q:Nat) (k1:Nat) (h1:AV) (aa:LObj),(c.hd.set p (k',x'))[q]?=some (k1,h1)→(G.set p ob')[q]?=some aa→(q≠p∧c.hd[q]?=some (k1,h1)∧G[q]?=some aa)∨(q=p∧k1=k'∧h1=x'∧aa=ob'):=by
  intro q k1 h1 aa e1 e2;by_cases hq:q=p
  ·subst hq;rw[Ag ay] at e1;rw[Ag aw] at e2;cases e1;cases e2;exact .inr ⟨rfl,rfl,rfl,rfl⟩
  ·rw[Ad (Ne.symm hq)] at e1 e2;exact .inl ⟨hq,e1,e2⟩
 have ad:∀(q:Nat) (k1:Nat) (h1:AV) (aa:LObj) (o:Nat),q≠p→c.hd[q]?=some (k1,h1)→G[q]?=some aa→aa.live=true→Gb h1=some o→Gb x≠some o:=by
  intro q k1 h1 aa o hq e1 e2 e3 e4 e5;exact hq (hs.excl q p aa ob k1 h1 k x o e2 hG e3 hl e1 hp e4 e5)
 have aj:∀o,Hw ⟨c.hd.set p (k',x'),c.Fz,H'⟩ (G.set p ob') o→(Hw c G o∧o<c.H.next)∨(c.H.next≤o∧o<H'.next):=by
  rintro o ⟨q,aa,k1,h1,e1,e2,e3,e4⟩;rcases hinv q k1 h1 aa e3 e1 with ⟨_,q1,q2⟩|⟨_,_,rfl,_⟩
  ·have:=(⟨q,aa,k1,h1,q2,e2,q1,e4⟩:Hw c G o);exact .inl ⟨this,hs.lt o this⟩
  ·obtain⟨q1,q2⟩:=ar o e4;rcases q1 with q1|q1
   ·exact .inl ⟨af o q1,hs.lt o (af o q1)⟩
   ·exact .inr ⟨q1,q2⟩
 refine⟨⟨by simp[hs.len],fun o ho=>Bg (hs.fz o ho) aq,fun o ho=>?_,fun o ho hf=>?_,fun q aa k1 h1 e1 e2=>?_,?_⟩,⟨hle,aq,fun o ho hn=>ap o ho (fun q=>hn (af o q)),fun o ho=>?_,fun o ho=>.inl ho,fun q aa ag e1 e2=>?_,fun q aa ag k1 h1 o e1 e2 e3 e4 ao he=>?_⟩,hle⟩
 ·rcases aj o ho with h|h
  ·exact Bg h.2 aq
  ·exact h.2
 ·rcases aj o ho with h|h
  ·exact hs.sep o h.1 hf
  ·have:=hs.fz o hf;omega
 ·rcases hinv q k1 h1 aa e2 e1 with ⟨hq,q1,q2⟩|⟨_,rfl,rfl,rfl⟩
  ·by_cases ah:aa.live=true
   ·refine (hs.obj q aa k1 h1 q2 q1).mono hle (fun o ho=>ap o (hs.lt o ⟨q,aa,k1,h1,q2,ah,q1,ho⟩) (ad q k1 h1 aa o hq q1 q2 ah ho))
   ·cases aa<;>first|exact absurd rfl ah|trivial
  ·exact az hle
 ·intro q r aa ag k1 h1 k2 h2 o e1 e2 e3 e4 e5 e6 e7 e8;rcases hinv q k1 h1 aa e5 e1 with ⟨r0,q1,q2⟩|⟨r1,_,rfl,rfl⟩<;>rcases hinv r k2 h2 ag e6 e2 with ⟨r3,q3,q4⟩|⟨r2,_,rfl,rfl⟩
  ·exact hs.excl q r aa ag k1 h1 k2 h2 o q2 q4 e3 e4 q1 q3 e7 e8
  ·have h3:=hs.lt o ⟨q,aa,k1,h1,q2,e3,q1,e7⟩;rcases (ar o e8).1 with h|h
   ·exact absurd h (ad q k1 h1 aa o r0 q1 q2 e3 e7)
   ·omega
  ·have h3:=hs.lt o ⟨r,ag,k2,h2,q4,e4,q3,e8⟩;rcases (ar o e7).1 with h|h
   ·exact absurd h (ad r k2 h2 ag o r3 q3 q4 e4 e8)
   ·omega
  ·omega
 ·rcases aj o ho with h|h
  ·exact .inl h.1
  ·exact .inr h.1
 ·by_cases hq:q=p
  ·subst hq;rw[Ag aw] at e2;cases e2;rw[hG] at e1;cases e1;rcases ax with h|h
   ·exact Ek h
   ·exact h.2
  ·rw[Ad (Ne.symm hq),e1] at e2;cases e2;exact Am _
 ·by_cases hq:q=p
  ·subst hq;rw[Ag aw] at e2;cases e2;rw[hG] at e1;cases e1;rcases ax with h|h
   ·omega
   ·rw[h.1] at ao;cases ao
  ·rw[Ad (Ne.symm hq),e1] at e2;cases e2;have ah:aa.live=true:=by cases aa<;>first|rfl|cases ao
   exact⟨rfl,ap o (hs.lt o ⟨q,aa,k1,h1,e1,ah,e3,e4⟩) (ad q k1 h1 aa o hq e3 e1 ah e4),by dsimp only;rw[Ad (Ne.symm hq)]⟩
end Go.Sv
namespace Go.Sv
def Rs (n:Int):Ny .u64 n=n%18446744073709551616:=by
 rw[Sw];rfl
def kv (n:Int):Ny .u8 n=n%256:=by
 rw[Sw];rfl
def R9 {n:Int}(h:Na n):Ny .i64 n=n:=by
 rw[Sw];obtain⟨a,d⟩:=h;show (if (true&&decide (n%18446744073709551616 ≥ 9223372036854775808))=true then n%18446744073709551616 - 18446744073709551616 else n%18446744073709551616)=n;simp only[Ed,Ao];split<;>omega
def Yx (a b:Int):qj a b=decide (a=b):=by
 rw[qm,B3];simp
def Ng (a b:Int):je a b=decide (a<b):=ga a b
def gl (a b:Int):(!(decide (b<a)))=decide (a≤b):=by
 rw[B3];simp
def zyp (x:UInt64):Nat.blt x.toNat (Nv .u64)=true:=by
 have:=x.toNat_lt;unfold Nat.blt;exact Ak (by show x.toNat+1≤2*9223372036854775808;omega)
def V3 (x:UInt8):Nat.blt x.toNat (Nv .u8)=true:=by
 have:=x.toNat_lt;unfold Nat.blt;exact Ak (by show x.toNat+1≤2*128;omega)
variable {c : Cx} {K : LV → Prop}
def AR.u' {x:UInt64}{n:Int}(h:n=Int.ofNat x.toNat):AR c (.u x) (.int .u64 n):=by subst h;exact .u x
def AR.b' {x:UInt8}{n:Int}(h:n=Int.ofNat x.toNat):AR c (.b x) (.int .u8 n):=by subst h;exact .b x
def AR.bool' {x y:Bool}(h:y=x):AR c (.bool x) (.bool y):=by subst h;exact .bool y
def zlq (a b:UInt64):decide (Int.ofNat a.toNat=Int.ofNat b.toNat)=decide (a=b):=by
 rw[B3];simp only[Ao];constructor
 ·intro h;exact Bn.1 (Int.ofNat.inj h)
 ·intro h;rw[h]
def zgq (a b:UInt64):decide (Int.ofNat a.toNat<Int.ofNat b.toNat)=decide (a<b):=by
 rw[B3];simp only[Ao,Cl];exact Int.ofNat_lt
def zsk (a b:UInt64):decide (Int.ofNat a.toNat≤Int.ofNat b.toNat)=decide (a≤b):=by
 rw[B3];simp only[Ao,Bq];exact Int.ofNat_le
def zt2 (a b:UInt8):decide (Int.ofNat a.toNat=Int.ofNat b.toNat)=decide (a=b):=by
 rw[B3];simp only[Ao];constructor
 ·intro h;exact UInt8.toNat_inj.1 (Int.ofNat.inj h)
 ·intro h;rw[h]
def zse (a b:UInt8):decide (Int.ofNat a.toNat<Int.ofNat b.toNat)=decide (a<b):=by
 rw[B3];simp only[Ao,UInt8.lt_iff_toNat_lt];exact Int.ofNat_lt
def zsa (a b:UInt8):decide (Int.ofNat a.toNat≤Int.ofNat b.toNat)=decide (a≤b):=by
 rw[B3];simp only[Ao,UInt8.le_iff_toNat_le];exact Int.ofNat_le
def Jz (c:Cx)(K:LV→Prop)(r:Option AV):Prop:=∃v a,r=some a∧AR c v a∧K v
def Jz.mk {v:LV}{a:AV}(h:AR c v a)(k:K v):Jz c K (some a):=⟨v,a,rfl,h,k⟩
def kh (a:UInt64)(s:Nat):Ny .u64 (.ofNat (Nat.mul a.toNat (Nat.pow 2 (Is s (IntKind.bits .u64)))))=Int.ofNat (Sm a s).toNat:=by
 rw[Rs];have hm:Is s (IntKind.bits .u64)=min s 64:=by
  unfold Is;by_cases h:s≤64
  ·rw[show Nat.ble s (IntKind.bits .u64)=true from Ak h];simp[Cv h]
  ·have:Nat.ble s (IntKind.bits .u64)=false:=by
    cases d:Nat.ble s (IntKind.bits .u64) with
    |false=>rfl
    |true=>exact absurd (As d) h
   rw[this];simp only[IntKind.bits];omega
 rw[hm];rw[Ya,By];show (Int.ofNat (a.toNat*2^min s 64))%18446744073709551616=Int.ofNat (a.toNat*2^s%2^64);by_cases h:s≤64
 ·rw[Cv h];rfl
 ·rw[Nat.min_eq_right (by omega)];have e:2^s=2^64*2^(s - 64):=by rw[←D4];congr 1;omega
  have:a.toNat*2^s%2^64=0:=by
   rw[e,←Dq,Bz a.toNat,Dq,Nat.mul_mod_right]
  rw[this];have f:a.toNat*2^64%2^64=0:=Nat.mul_mod_left _ _;show Int.ofNat (a.toNat*2^64%2^64)=0;rw[f];rfl
def iz (a:UInt64)(s:Nat):Int.ofNat (Nat.div a.toNat (Nat.pow 2 (Is s (IntKind.bits .u64))))=Int.ofNat (J1 a s).toNat:=by
 have hm:Is s (IntKind.bits .u64)=min s 64:=by
  unfold Is;by_cases h:s≤64
  ·rw[show Nat.ble s (IntKind.bits .u64)=true from Ak h];simp[Cv h]
  ·have:Nat.ble s (IntKind.bits .u64)=false:=by
    cases f:Nat.ble s (IntKind.bits .u64) with
    |false=>rfl
    |true=>exact absurd (As f) h
   rw[this];simp only[IntKind.bits];omega
 rw[hm];rw[U7,By];have d:=a.toNat_lt;show Int.ofNat (a.toNat/2^min s 64)=Int.ofNat (a.toNat/2^s%2^64);have g:a.toNat/2^s%2^64=a.toNat/2^s:=Be (Nat.lt_of_le_of_lt (Nat.div_le_self _ _) d);rw[g];by_cases h:s≤64
 ·rw[Cv h]
 ·rw[Nat.min_eq_right (by omega),Nat.div_eq_of_lt d];rw[Nat.div_eq_of_lt (Bg d (Ee (by omega) (by omega)))]
def th {P:Program}{op:BinOp}{g:Bool}{t:TypeId}{a b:UInt64}(h:Oj op a b K):Jz c K (Hx P op g t (.int .u64 (Int.ofNat a.toNat)) (.int .u64 (Int.ofNat b.toNat))):=by
 have hk:Qj .u64 .u64=true:=rfl;have f:=a.toNat_lt;have d:=b.toNat_lt;cases op<;>simp only[Oj,M9,Qx,wv,Zo,zj2,Wf,X5,Yq,zw2] at h<;>simp only[Hx,hk,ry,Tk,zq7,zyp]
 case add=>exact .mk (.u' (by rw[Rs,Bt];rfl)) h
 case sub =>
  refine .mk (.u' ?_) h;rw[Rs,Dv];show (Int.ofNat a.toNat - Int.ofNat b.toNat)%_=((2^64 - b.toNat+a.toNat)%2^64:Nat);simp only[A8];omega
 case mul=>exact .mk (.u' (by rw[Rs,Ea];rfl)) h
 case quo =>
  obtain⟨l,m⟩:=h;have o:Vp (Int.ofNat b.toNat)=false:=by
   unfold Vp;cases j:Nat.beq b.toNat 0 with
   |false=>exact j
   |true=>exact absurd (Bn.1 (Al j)) l
  simp only[o];refine .mk (.u' ?_) m;rw[Rs,UInt64.toNat_div];show (Int.tdiv (Int.ofNat a.toNat) (Int.ofNat b.toNat))%_=Int.ofNat (a.toNat/b.toNat);have:Int.tdiv (Int.ofNat a.toNat) (Int.ofNat b.toNat)=Int.ofNat (a.toNat/b.toNat):=rfl;rw[this];exact Cn (B6 _) (by have:=Nat.div_le_self a.toNat b.toNat;simp only[A8];omega)
 case rem =>
  obtain⟨l,m⟩:=h;have o:Vp (Int.ofNat b.toNat)=false:=by
   unfold Vp;cases j:Nat.beq b.toNat 0 with
   |false=>exact j
   |true=>exact absurd (Bn.1 (Al j)) l
  simp only[o];exact .mk (.u' (by rw[UInt64.toNat_mod];rfl)) m
 case and =>
  refine .mk (.u' ?_) h;rw[Rs,UInt64.toNat_and];have:a.toNat &&& b.toNat<2^64:=Nat.and_lt_two_pow _ d;exact Cn (B6 _) (by show Int.ofNat (a.toNat &&& b.toNat)<_;simp only[A8];omega)
 case or =>
  refine .mk (.u' ?_) h;rw[Rs,UInt64.toNat_or];have:a.toNat ||| b.toNat<2^64:=Nat.or_lt_two_pow f d
  exact Cn (B6 _) (by show Int.ofNat (a.toNat ||| b.toNat)<_;simp only[A8];omega)
 case xor =>
  refine .mk (.u' ?_) h;rw[Rs,UInt64.toNat_xor];have:a.toNat ^^^ b.toNat<2^64:=Nat.xor_lt_two_pow f d;exact Cn (B6 _) (by show Int.ofNat (a.toNat ^^^ b.toNat)<_;simp only[A8];omega)
 case andNot =>
  refine .mk (.u' ?_) h;have e:Nat.xor a.toNat (Nat.land a.toNat b.toNat)=(a &&& ~~~b).toNat:=by
   show a.toNat ^^^ (a.toNat &&& b.toNat)=_;rw[UInt64.toNat_and,UInt64.toNat_not];refine Nat.eq_of_testBit_eq fun i=>?_
   rw[Nat.testBit_xor,Nat.testBit_and,Nat.testBit_and];have:(UInt64.size - 1 - b.toNat).testBit i=(decide (i<64) && !b.toNat.testBit i):=by
    have:=Nat.testBit_two_pow_sub_succ d i;rw[show UInt64.size - 1 - b.toNat=2^64 - (b.toNat+1) from by show 18446744073709551616 - 1 - b.toNat=_;omega,this]
   rw[this];by_cases hi:i<64
   ·simp[hi];cases a.toNat.testBit i<;>cases b.toNat.testBit i<;>rfl
   ·have:a.toNat.testBit i=false:=Nat.testBit_lt_two_pow (Bg f (Ee (by omega) (by omega)));simp[this]
  rw[e,Rs];exact Cn (B6 _) (by have:=(a &&& ~~~b).toNat_lt;simp only[A8];omega)
 case shl=>exact .mk (.u' (kh a b.toNat)) h
 case shr=>exact .mk (.u' (iz a b.toNat)) h
 case eql=>exact .mk (.bool' (by rw[Yx,zlq])) h
 case neq=>exact .mk (.bool' (by rw[Yx,zlq];simp)) h
 case lss=>exact .mk (.bool' (by rw[Ng,zgq])) h
 case leq=>exact .mk (.bool' (by rw[Ng,gl,zsk])) h
 case gtr=>exact .mk (.bool' (by rw[Ng,zgq])) h
 case geq=>exact .mk (.bool' (by rw[Ng,gl,zsk])) h
def qv {P:Program}{op:BinOp}{g:Bool}{t:TypeId}{a b:UInt8}(h:bbL op a b K):Jz c K (Hx P op g t (.int .u8 (Int.ofNat a.toNat)) (.int .u8 (Int.ofNat b.toNat))):=by
 have hk:Qj .u8 .u8=true:=rfl;have f:=a.toNat_lt;have d:=b.toNat_lt;cases op<;>simp only[bbL,fy,Zp,Z3,mh] at h<;>simp only[Hx,hk,ry,Tk,V3]
 case add=>exact .mk (.b' (by rw[kv,UInt8.toNat_add];rfl)) h
 case sub =>
  refine .mk (.b' ?_) h;rw[kv,UInt8.toNat_sub];show (Int.ofNat a.toNat - Int.ofNat b.toNat)%_=((2^8 - b.toNat+a.toNat)%2^8:Nat);simp only[A8];omega
 case and =>
  refine .mk (.b' ?_) h;rw[kv,UInt8.toNat_and];have:a.toNat &&& b.toNat<2^8:=Nat.and_lt_two_pow _ d;exact Cn (B6 _) (by show Int.ofNat (a.toNat &&& b.toNat)<_;simp only[A8];omega)
 case or =>
  refine .mk (.b' ?_) h;rw[kv,UInt8.toNat_or];have:a.toNat ||| b.toNat<2^8:=Nat.or_lt_two_pow f d
  exact Cn (B6 _) (by show Int.ofNat (a.toNat ||| b.toNat)<_;simp only[A8];omega)
 case eql=>exact .mk (.bool' (by rw[Yx,zt2])) h
 case neq=>exact .mk (.bool' (by rw[Yx,zt2];simp)) h
 case lss=>exact .mk (.bool' (by rw[Ng,zse])) h
 case leq=>exact .mk (.bool' (by rw[Ng,gl,zsa])) h
 case gtr=>exact .mk (.bool' (by rw[Ng,zse])) h
 case geq=>exact .mk (.bool' (by rw[Ng,gl,zsa])) h
def AR.i' {x n:Int}(h:n=x):AR c (.i x) (.int .i64 n):=by subst h;exact .i n
def zo6 {b:Int}(h:b≠0):Vp b=false:=by
 unfold Vp;split
 ·rename_i n;cases a:Nat.beq n 0 with
  |false=>rfl
  |true=>exact absurd (by rw[Al a];rfl) h
 ·rfl
def zld {P:Program}{g:Bool}{t:TypeId}{a:Int}{k:IntKind}{s:Int}(d:0≤a)(f:0≤s)(h:s≤64) :
  Hx P .shl g t (.int .i64 a) (.int k s)=some (.int .i64 (Ny .i64 (a*2^s.toNat)))∧Hx P .shr g t (.int .i64 a) (.int k s)=some (.int .i64 (a/2^s.toNat)):=by
 obtain⟨x,rfl⟩:=Af d;obtain⟨y,rfl⟩:=Af f;have hm:Is y (IntKind.bits .i64)=y:=by
  unfold Is;rw[show Nat.ble y (IntKind.bits .i64)=true from Ak (by simp only[IntKind.bits];omega)]
 constructor
 ·show some (AV.int .i64 (Ny .i64 (.ofNat (Nat.mul x (Nat.pow 2 (Is y (IntKind.bits .i64)))))))=_;rw[hm]
  congr 3
 ·show some (AV.int .i64 (.ofNat (Nat.div x (Nat.pow 2 (Is y (IntKind.bits .i64))))))=_;rw[hm]
  congr 2
def m7 {P:Program}{op:BinOp}{g:Bool}{t:TypeId}{a b:Int}(h:N7 op a b K):Jz c K (Hx P op g t (.int .i64 a) (.int .i64 b)):=by
 have hk:Qj .i64 .i64=true:=rfl;cases op<;>simp only[N7] at h
 case shl =>
  obtain⟨d,l,f,m,j⟩:=h;rw[(zld d l f).1,R9 m];exact .mk (.i _) j
 case shr =>
  obtain⟨d,l,f,j⟩:=h;rw[(zld d l f).2];exact .mk (.i _) j
 all_goals simp only[Hx,hk,ry]
 case and =>
  obtain⟨d,l,f,m,j⟩:=h;obtain⟨x,rfl⟩:=Af d;obtain⟨y,rfl⟩:=Af f;have o:Nat.blt x (Nv .i64)=true:=by unfold Nat.blt;exact Ak (by show x+1≤2*9223372036854775808;omega)
  have p:Nat.blt y (Nv .i64)=true:=by unfold Nat.blt;exact Ak (by show y+1≤2*9223372036854775808;omega)
  have q:x &&& y<2^63:=Nat.and_lt_two_pow _ (by omega);show Jz c K (Tk Nat.land .i64 (.ofNat x) (.ofNat y));simp only[Tk,o,p];exact .mk (.i' (R9 ⟨by simp only[A8];omega,by simp only[A8];exact Int.ofNat_lt.2 q⟩)) j
 case or =>
  obtain⟨d,l,f,m,j⟩:=h;obtain⟨x,rfl⟩:=Af d;obtain⟨y,rfl⟩:=Af f;have o:Nat.blt x (Nv .i64)=true:=by unfold Nat.blt;exact Ak (by show x+1≤2*9223372036854775808;omega)
  have p:Nat.blt y (Nv .i64)=true:=by unfold Nat.blt;exact Ak (by show y+1≤2*9223372036854775808;omega)
  have q:x ||| y<2^63:=Nat.or_lt_two_pow (by omega) (by omega)
  show Jz c K (Tk Nat.lor .i64 (.ofNat x) (.ofNat y));simp only[Tk,o,p];exact .mk (.i' (R9 ⟨by simp only[A8];omega,by simp only[A8];exact Int.ofNat_lt.2 q⟩)) j
 case add=>exact .mk (.i' (R9 h.1)) h.2
 case sub=>exact .mk (.i' (R9 h.1)) h.2
 case mul=>exact .mk (.i' (R9 h.1)) h.2
 case quo=>rw[zo6 h.1];exact .mk (.i' (R9 h.2.1)) h.2.2
 case rem=>rw[zo6 h.1];exact .mk (.i _) h.2
 case eql=>exact .mk (.bool' (by rw[Yx])) h
 case neq=>exact .mk (.bool' (by rw[Yx];simp)) h
 case lss=>exact .mk (.bool' (by rw[Ng])) h
 case leq=>exact .mk (.bool' (by rw[Ng,gl])) h
 case gtr=>exact .mk (.bool' (by rw[Ng])) h
 case geq=>exact .mk (.bool' (by rw[Ng,gl])) h
def s9 {P:Program}{op:BinOp}{g:Bool}{t:TypeId}{k:IntKind}{a b:Int}(h:kkL op a b K):Jz c K (Hx P op g t (.int k a) (.int k b)):=by
 have hk:Qj k k=true:=by cases k<;>rfl
 cases op<;>simp only[kkL] at h<;>simp only[Hx,hk,ry]
 case eql=>exact .mk (.bool' (by rw[Yx])) h
 case neq=>exact .mk (.bool' (by rw[Yx];simp)) h
 case lss=>exact .mk (.bool' (by rw[Ng])) h
 case leq=>exact .mk (.bool' (by rw[Ng,gl])) h
 case gtr=>exact .mk (.bool' (by rw[Ng])) h
 case geq=>exact .mk (.bool' (by rw[Ng,gl])) h
def zwr (a b:List UInt8):(Nat.beq a.length b.length&&Nat.beq (Hh a) (Hh b))=decide (a=b):=by
 rw[B3];simp only[Ac,Ao];constructor
 ·rintro⟨d,f⟩;exact packL_inj (Al d) (Al f)
 ·intro h;subst h;simp
def AR.str' {l:List UInt8}{n m:Nat}(h1:n=l.length)(h2:m=Hh l):AR c (.str l) (.str n m):=by subst h1 h2;exact .str l
def mm {P:Program}{op:BinOp}{g:Bool}{t:TypeId}{a b:List UInt8}(h:ssL op a b K):Jz c K (Hx P op g t (.str a.length (Hh a)) (.str b.length (Hh b))):=by
 cases op<;>simp only[ssL] at h<;>simp only[Hx,ub]
 case add =>
  have d:Nat.ble (Nat.add a.length b.length) Io=true:=Ak h.1;simp only[d];refine .mk (.str' (by simp) ?_) h.2;rw[packL_append];rfl
 case eql=>exact .mk (.bool' (zwr a b)) h
 case neq=>exact .mk (.bool' (by rw[zwr];simp)) h
def zq9 {P:Program}{op:BinOp}{g:Bool}{t:TypeId}{a b:AV}{r:Bool}(d:Hx P op g t a b=match op with | .eql=>ng (J6 P g t a b) | .neq=>tk (J6 P g t a b)|_=>none)(h:Rx P op g t a b r K):Jz c K (Hx P op g t a b):=by
 rw[d];cases op<;>simp only[Rx] at h
 case eql=>rw[h.1];exact .mk (.bool _) h.2
 case neq=>rw[h.1];exact .mk (.bool _) h.2
end Go.Sv
namespace Go.Sv
noncomputable def ρA (E:Tr AV):Vm:=fun t=>E3 (Fl t) E
def zrp (E:Tr AV):Ni E (ρA E):=fun _ _=>rfl
def Gz {c:Cx}{ρ:Ey}{E:Tr AV}(a:Gm c ρ E){x:Lx}(h:x.ok=true):AR c (x.ev ρ) (x.r.ev (ρA E)):=by
 cases x with
 |t i=>exact a i
 |c v=>exact T2 c h
def zsy {c:Cx}{ρ:Ey}{E:Tr AV}(a:Gm c ρ E):∀{l:List Lx},l.all Lx.ok=true→ARs c (l.map (·.ev ρ)) ((ej l).map (·.ev (ρA E)))
 |[],_=>.nil
 |x::l,h=>by
  simp only[Ct,Ac] at h;exact .cons (Gz a h.1) (zsy a h.2)
def Xy:Option Lx→Bool
 |none=>true
 |some x=>x.ok
def LOp.ok:LOp→Bool
 |.move x=>x.ok
 |.pick c a b=>c.ok&&a.ok&&b.ok
 |.alloc l=>l.all LV.scal
 |.box x=>x.ok
 |.build cs ps=>cs.all LV.scal&&ps.all (·.2.2.ok)
 |.buildSl _ _ cs ps=>cs.all LV.scal&&ps.all (·.2.2.ok)
 |.load1 x=>x.ok
 |.loadN _ x=>x.ok
 |.store _ x y=>x.ok&&y.ok
 |.nilChk x=>x.ok
 |.bin _ _ _ x y=>x.ok&&y.ok
 |.un _ x=>x.ok
 |.cvInt _ x=>x.ok
 |.cvStr x=>x.ok
 |.cvSame x=>x.ok
 |.cvBytes x=>x.ok
 |.mkFunc _ a b=>a.all Lx.ok&&b.all Lx.ok
 |.mkSl _ z l c=>z.all LV.scal&&l.ok&&c.ok
 |.slStr x lo hi=>x.ok&&Xy lo&&Xy hi
 |.slSl _ x lo hi=>x.ok&&Xy lo&&Xy hi
 |.slSl3 _ x lo hi mx=>x.ok&&Xy lo&&Xy hi&&mx.ok
 |.fieldAddr _ x=>x.ok
 |.field _ _ _ x=>x.ok
 |.ixAddr _ x i=>x.ok&&i.ok
 |.ixStr x i=>x.ok&&i.ok
 |.extract _ x=>x.ok
 |.lenStr x=>x.ok
 |.lenSl x=>x.ok
 |.maxi _ x y=>x.ok&&y.ok
 |.max3 _ x y z=>x.ok&&y.ok&&z.ok
 |.ixAddrArr _ _ x i=>x.ok&&i.ok
 |.ixArr _ _ _ x i=>x.ok&&i.ok
 |.lenArr _ x=>x.ok
 |.appZ _ z s x=>z.all LV.scal&&s.ok&&x.ok
 |.appG _ s x=>s.ok&&x.ok
 |.copy _ d x=>d.ok&&x.ok
 |.clear _ z x=>z.all LV.scal&&x.ok
 |.mkMap0=>true
 |.mkMap1 x=>x.ok
 |.lookup _ z _ x i=>z.cst&&x.ok&&i.ok
 |.mapUpd _ m k v=>m.ok&&k.ok&&v.ok
 |.lenMap x=>x.ok
 |.slArr _ _ x lo hi=>x.ok&&Xy lo&&Xy hi
 |.callV f args=>f.ok&&args.all Lx.ok
def J8 (P:Program)(c:Cx)(G:Ev)(K:LV→Ev→Prop):OR→Prop
 |.no=>False
 |.val v1 H'=>∃c' v G',c'.H=H'∧HSim c' G'∧Step c G c' G'∧AR c' v v1∧K v G'
 |.call t1 a=>∃t args,nw c t t1∧ARs c args a∧Js P t args G K
section res
variable {P : Program} {c : Cx} {G : Ev} {K : LV → Ev → Prop}
def J8.same (hs:HSim c G){v:LV}{a:AV}(h:AR c v a)(k:K v G):J8 P c G K (.val a c.H):=⟨c,v,G,rfl,hs,.refl c G,h,k⟩
def J8.ret (hs:HSim c G){r:Option AV}(h:Jz c (fun v=>K v G) r):J8 P c G K (ret1 c.H r):=by
 obtain⟨v,a,rfl,h1,h2⟩:=h;exact .same hs h1 h2
def zdy (c:Cx)(l':List AV) :
  ∃H',newObj c.H l'=some (c.H.next,H')∧H'.next=c.H.next+1∧(∀o,o<c.H.next→H'.get o=c.H.get o)∧H'.get c.H.next=some (.cells (Ju l' 0 .e) l'.length 0 false) :=
 ⟨_,rfl,rfl,fun _ ho=>Heap.get_push_ne _ _ ho,Heap.get_push_same _ _⟩
def zkl (a:HSim c G){l:List LV}{l':List AV}(h:ARs c l l')(k:K (.ptr G.length 0) (G++[.cells l 0])):J8 P c G K (Qd c.H l'):=by
 obtain⟨H',f,q,d,g⟩:=zdy c l';unfold Qd;rw[f];have hle:CxLe c ⟨c.hd++[(0,.ptr c.H.next 0 0)],c.Fz,H'⟩:=⟨fun p k x e=>⟨k,x,by rw[Aq (Aa.1 e).1];exact e,Am _,fun _=>rfl,fun _=>rfl⟩,fun o ho=>⟨ho,d o (a.fz o ho)⟩⟩;obtain⟨j,m,_⟩:=a.push (H':=H') (x:=.ptr c.H.next 0 0) (ob:=.cells l 0) (by omega) d (fun o e=>by cases e;omega)
  ⟨rfl,c.H.next,_,l',rfl,by rw[h.length];exact g,by rw[h.length];exact zs l',h.mono hle⟩
 exact⟨_,.ptr G.length 0,_,rfl,j,m,.ptr (by rw[←a.len];exact Aw),k⟩
def Zn (d:HSim c G){l:List LV}{l':List AV}{len esz:Nat}{room:Option Nat}(h:ARs c l l')(f:l.length=len*esz)(j:∀r,room=some r→r=len)(k:K (.dy G.length 0) (G++[.dyn l len esz 0 0])) :
  J8 P c G K (match newObj c.H l' with
   |some (o,H')=>.val (.sl o 0 0 len esz room) H'
   |none=>.no):=by
 obtain⟨H',m,y,g,q⟩:=zdy c l';rw[m];have hle:CxLe c ⟨c.hd++[(0,.sl c.H.next 0 0 len esz room)],c.Fz,H'⟩:=⟨fun p k x e=>⟨k,x,by rw[Aq (Aa.1 e).1];exact e,Am _,fun _=>rfl,fun _=>rfl⟩,fun o ho=>⟨ho,g o (d.fz o ho)⟩⟩;have a:l'.length=len*esz:=by rw[←h.length];exact f
 obtain⟨s,w,_⟩:=d.push (H':=H') (x:=.sl c.H.next 0 0 len esz room) (ob:=.dyn l len esz 0 0) (by omega) g (fun o e=>by cases e;omega)
  ⟨rfl,f,.inr ⟨c.H.next,0,room,_,l'.length,l',rfl,q,by omega,by rw[←a];exact zs l',h.mono hle,fun r e=>by rw[j r e];exact⟨a,Am _⟩,fun _=>a⟩⟩
 exact⟨_,.dy G.length 0,_,rfl,s,w,.dy (h:=.sl c.H.next 0 0 len esz room) (by rw[←d.len];exact Aw) (Am _) (fun _=>rfl) rfl,k⟩
def zmp (a:HSim c G){p o st:Nat}{l:List LV}(d:G[p]?=some (.cells l st))(e:c.hd[p]?=some (0,.ptr o 0 0)) :
  ∃t l',c.H.get o=some (.cells t l.length 0 false)∧Kt t 0 l.length=some l'∧ARs c l l':=by
 obtain⟨_,j,t,l',he,f,g,h⟩:=a.obj p _ _ _ d e;injection he with he
 subst he;exact⟨t,l',f,g,h⟩
def Xe (m:HSim c G){p k o v len d esz f g st:Nat}{room:Option Nat}{l:List LV}(q:G[p]?=some (.dyn l len esz g st))(e:c.hd[p]?=some (k,.sl o v 0 d f room)) :
  k=g∧l.length=len*esz∧d=len∧f=esz∧∃t a l',c.H.get o=some (.cells t a v false)∧len*esz≤a∧Kt t 0 (len*esz)=some l'∧ARs c l l' ∧
   (∀r,room=some r→a=r*esz∧len≤r)∧(room=none→a=len*esz):=by
 obtain⟨s,w,h⟩:=m.obj p _ _ _ q e;rcases h with ⟨h,_⟩|⟨J,L,j,t,a,l',he,x,y,z,A,B,C⟩
 ·cases h
 ·injection he with D E M F H I
  subst D E F H I;exact⟨s,w,rfl,rfl,t,a,l',x,y,z,A,B,C⟩
def zlo (m:HSim c G){x:LV}{a:AV}{n:Nat}{K:List LV→Prop}(q:AR c x a)(h:Qq G x n K):∃o v i l' l,a=.ptr o v i∧Jd c.H o v i n=some l'∧ARs c l l'∧K l:=by
 unfold Qq at h;split at h
 ·rename_i p i;split at h
  ·rename_i l st f;obtain⟨g,d⟩:=h;cases q with
   | @ptr _ _ o e =>
    obtain⟨t,l',C,r,s⟩:=zmp m f e;exact⟨o,0,i,_,_,rfl,Pj C r (Am _) g,(s.drop i).take n,d⟩
  ·exact h.elim
 ·rename_i p k i;split at h
  ·rename_i l len esz D st f;obtain⟨E,g,d⟩:=h;cases q with
   | @dptr _ _ _ k' o v j O e hk F =>
    have H:=(m.obj p _ _ _ f e).1;obtain⟨I,z,A,w,y⟩:=F (by omega);subst y I;obtain⟨_,Q,_,_,t,B,l',r,s,J,L,_⟩:=Xe m f e;exact⟨o,v,j,_,_,rfl,Pj r J s (by omega),(L.drop j).take n,d⟩
  ·exact h.elim
 ·rename_i l i;obtain⟨g,d⟩:=h;cases q with
  |cptr R M N=>exact⟨_,_,_,_,_,rfl,zkb M g,(N.drop i).take n,d⟩
 ·exact h.elim
def zsm (g:HSim c G){x:LV}{a:AV}{K:LV→Prop}(j:AR c x a)(h:Qp G x K):∃o v i w b,a=.ptr o v i∧Jd c.H o v i 1=some [b]∧AR c w b∧K w:=by
 have one:∀{l:List LV} {i:Nat} {v:LV},l[i]?=some v→i+1≤l.length∧(l.drop i).take 1=[v]:=fun {l i v} e=>by
  obtain⟨d,f⟩:=Aa.1 e;refine⟨d,?_⟩;rw[B8 d,f];simp
 have key:Qq G x 1 (fun l=>∃v,l=[v]∧K v):=by
  unfold Qp at h;unfold Qq;split at h
  ·split at h
   ·obtain⟨v,d,f⟩:=h;exact⟨(one d).1,v,(one d).2,f⟩
   ·exact h.elim
  ·split at h
   ·obtain⟨m,v,d,f⟩:=h;exact⟨m,(one d).1,v,(one d).2,f⟩
   ·exact h.elim
  ·obtain⟨v,d,f⟩:=h;exact⟨(one d).1,v,(one d).2,f⟩
  ·exact h.elim
 obtain⟨o,v,i,l',l,p,q,r,w,rfl,s⟩:=zlo g j key;cases r with
 |cons e es=>cases es;exact⟨o,v,i,w,_,p,q,e,s⟩
def zkq {H:Heap}{o v i N a:Nat}{t:Tr AV}{l r:List AV}(d:H.get o=some (.cells t a v false))(_:Kt t 0 N=some l)(g:N≤a)(hle:i+r.length≤N) :
  Oz H o v i r=some (H.put o (.cells (Ju r i t) a v false)):=by
 unfold Oz;rw[d];have f:Nat.ble (Nat.add i r.length) a=true:=Ak (by show i+r.length≤a;omega);simp only[Bj,f]
def zsh {α:Type}:∀{l:List α} {p:Nat} {a:α},l[p]?=some a→l.set p a=l
 |[],_,_,h=>by simp at h
 |x::l,0,a,h=>by simp at h;subst h;rfl
 |x::l,p+1,a,h=>by simp at h;simp[zsh h]
def xo (s:HSim c G){x:LV}{a:AV}{l:List LV}{l':List AV}{K:Ev→Prop}(R:AR c x a)(D:ARs c l l')(h:Oi G x l K) :
  ∃o v i H' c' G',a=.ptr o v i∧Oz c.H o v i l'=some H'∧c'.H=H'∧HSim c' G'∧Step c G c' G'∧K G':=by
 have hlen:=D.length;unfold Oi at h;split at h
 ·rename_i p i;split at h
  ·rename_i z st d;obtain⟨A,E⟩:=h;cases R with
   | @ptr _ _ o e =>
    obtain⟨t,w,T,B,C⟩:=zmp s d e;have hw:=zkq (i:=i) (r:=l') T B (Am _) (by omega);obtain⟨F,H,_⟩:=s.upd (k':=0) (x':=.ptr o 0 0) (ob':=.cells (Gp z i l) (st+1)) (H':=c.H.put o (.cells (Ju l' i t) z.length 0 false)) d rfl e (Am _)
     (fun I _ y=>Heap.get_put_ne _ _ (fun q=>y (by rw[q];rfl))) (fun I J=>by cases J;exact⟨.inl rfl,s.lt o ⟨p,_,_,_,d,rfl,e,rfl⟩⟩) (Am _) (fun _=>rfl) (fun _=>rfl) (.inl (B2 _))
     (fun hle=>⟨rfl,o,_,Xo w i l',rfl,by rw[zbf A];exact Heap.get_put_same _ _ _,by rw[zbf A];exact zg6 B (by omega),(C.lay D i).mono hle⟩)
    exact⟨o,0,i,_,_,_,rfl,hw,rfl,F,H,E⟩
  ·exact h.elim
 ·rename_i p k i;split at h
  ·rename_i z len esz L st d;obtain⟨U,A,E⟩:=h;cases R with
   | @dptr _ _ _ k' o v j hh e hk V =>
    have W:=(s.obj p _ _ _ d e).1;obtain⟨X,f,g,room,M⟩:=V (by omega);subst M X;obtain⟨N,Y,O,Q,t,m,w,B,C,S,Z,r7,r8⟩:=Xe s d e;subst O Q;have hw:=zkq (i:=j) (r:=l') B S C (by omega);obtain⟨F,H,_⟩:=s.upd (k':=k') (x':=.sl o v 0 f g room) (ob':=.dyn (Gp z j l) f g L (st+1)) (H':=c.H.put o (.cells (Ju l' j t) m v false)) d rfl e (Am _)
     (fun I _ y=>Heap.get_put_ne _ _ (fun q=>y (by rw[q];rfl))) (fun I J=>by cases J;exact⟨.inl rfl,s.lt _ ⟨p,_,_,_,d,rfl,e,rfl⟩⟩) (Am _) (fun _=>rfl) (fun _=>rfl) (.inl (B2 _))
     (fun hle=>⟨N,by rw[zbf A];exact Y,.inr ⟨o,v,room,_,m,Xo w j l',rfl,Heap.get_put_same _ _ _,C,zg6 S (by omega),(Z.lay D j).mono hle,r7,r8⟩⟩)
    exact⟨o,v,j,_,_,_,rfl,hw,rfl,F,H,E⟩
  ·exact h.elim
 ·exact h.elim
def ae (z:HSim c G){x:LV}{a:AV}{K:Nat→Prop}(j:AR c x a)(h:lenL G x K):∃n,K n∧(a=.nilSl∧n=0∨a=.emp∧n=0∨∃o v i esz room,a=.sl o v i n esz room):=by
 unfold lenL at h;split at h
 ·cases j;exact⟨0,h,.inl ⟨rfl,rfl⟩⟩
 ·rename_i p k;split at h
  ·rename_i l len esz q st r;obtain⟨s,h⟩:=h;cases j with
   | @dy _ _ k' E _ e hk w _ =>
    obtain⟨F,H,d⟩:=z.obj p _ _ _ r e;have f:=w (by omega);rcases d with ⟨d,m⟩|⟨o,v,room,t,A,l',d,_⟩
    ·exact⟨len,h,.inl ⟨f.trans d,m⟩⟩
    ·exact⟨len,h,.inr (.inr ⟨_,_,_,_,_,f.trans d⟩)⟩
  ·exact h.elim
 ·rename_i p k lo len;split at h
  ·rename_i l B esz q st r;obtain⟨s,h⟩:=h;cases j with
   | @vw _ _ _ _ k' E _ e hk w _ _ =>
    obtain⟨F,H,d⟩:=z.obj p _ _ _ r e;rcases w (by omega) with ⟨m,g|g⟩|⟨o,v,C,D,room,y,_,g,_⟩
    ·exact⟨len,h,.inl ⟨g,m⟩⟩
    ·exact⟨len,h,.inr (.inl ⟨g.1,m⟩)⟩
    ·exact⟨len,h,.inr (.inr ⟨_,_,_,_,_,g⟩)⟩
  ·exact h.elim
 ·cases j with
  |lst=>exact⟨_,h,.inr (.inr ⟨_,_,_,_,_,rfl⟩)⟩
  |lstNil=>exact⟨0,h,.inl ⟨rfl,rfl⟩⟩
  |lstEmp=>exact⟨0,h,.inr (.inl ⟨rfl,rfl⟩)⟩
 ·exact h.elim
def zoc (l:List UInt8)(c:Cx):ARs c (l.map LV.b) ((Oy l.length (Hh l)).map fun (b:Nat)=>AV.int .u8 (Int.ofNat b)):=by
 rw[unpack_pack]
 induction l with
 |nil=>exact .nil
 |cons b l a=>exact .cons (.b b) a
def Q3 (z:HSim c G){x:LV}{a:AV}{size:Nat}{K:Nat→List LV→Prop}(j:AR c x a)(h:Lw G size x K):∃n l l',Vh c.H size a=some (n,l')∧ARs c l l'∧l.length=n*size∧K n l:=by
 have f:Nat.beq size size=true:=Bj _;unfold Lw at h;split at h
 ·cases j;exact⟨0,[],[],rfl,.nil,by simp,h⟩
 ·rename_i p k;split at h
  ·rename_i l len esz A st y;obtain⟨B,rfl,h⟩:=h;cases j with
   | @dy _ _ k' L _ e hk C _ =>
    obtain⟨X,D,m⟩:=z.obj p _ _ _ y e;have q:=C (by omega);rcases m with ⟨m,g⟩|⟨o,v,room,t,r,l',m,g,s,M,H,_⟩
    ·subst g;have:l=[]:=A0 (by simpa using D);subst this;exact⟨0,[],[],by rw[q,m];rfl,.nil,by simp,h⟩
    ·refine⟨len,l,l',?_,H,D,h⟩;have w:=Pj (i:=0) (n:=len*esz) g M s (by omega);have E:l'.length=len*esz:=by rw[←H.length];exact D
     rw[q,m];simp only[Vh,f];rw[show Nat.mul len esz=len*esz from rfl,w];simp[Ax,E]
  ·exact h.elim
 ·rename_i p k lo len;split at h
  ·rename_i l I esz A st y;obtain⟨B,rfl,Y,h⟩:=h;cases j with
   | @vw _ _ _ _ k' L _ e hk C _ _ =>
    have N:=(z.obj p _ _ _ y e).1;rcases C (by omega) with ⟨g,s⟩|⟨o,v,J,d,room,F,g,s,_⟩
    ·subst g;refine⟨0,_,[],?_,by simpa using (ARs.nil (c:=c)),by simp,h⟩;rcases s with rfl|⟨rfl,_⟩<;>rfl
    ·subst g;obtain⟨_,Z,O,Q,t,r,l',R,S,T,U,_⟩:=Xe z y e;subst O Q;have w:=Pj (i:=lo*d) (n:=len*d) R T S (by omega);refine⟨len,_,_,?_,(U.drop (lo*d)).take (len*d),by simp;omega,h⟩;rw[s];simp only[Vh,f];rw[show Nat.mul len d=len*d from rfl,w]
  ·exact h.elim
 ·rename_i l len esz;obtain⟨rfl,h⟩:=h;cases j with
  |lst hf V hlen w W =>
   refine⟨len,l,_,?_,W,hlen,h⟩;simp only[Vh,f];rw[show Nat.mul len esz=len*esz from rfl,w]
  |lstNil=>exact⟨0,[],[],rfl,.nil,by simp,h⟩
  |lstEmp=>exact⟨0,[],[],rfl,.nil,by simp,h⟩
 ·rename_i l;obtain⟨rfl,h⟩:=h;cases j;refine⟨l.length,_,_,?_,zoc l c,by simp,h⟩;simp[Vh]
 ·exact h.elim
end res
end Go.Sv
namespace Go.Sv
section res
variable {P : Program} {c : Cx} {G : Ev} {K : LV → Ev → Prop}
def zv3 (a:HSim c G){size:Nat}(k:K (.dy G.length 0) (G++[.dyn [] 0 size 0 0])):J8 P c G K (.val .nilSl c.H):=by
 obtain⟨d,f,_⟩:=a.push (H':=c.H) (x:=.nilSl) (ob:=.dyn [] 0 size 0 0) (Am _) (fun _ _=>rfl) (fun o e=>by cases e) ⟨rfl,by simp,.inl ⟨rfl,rfl⟩⟩;exact⟨⟨c.hd++[(0,.nilSl)],c.Fz,c.H⟩,.dy G.length 0,_,rfl,d,f,.dy (h:=.nilSl) (by rw[←a.len];exact Aw) (Am _) (fun _=>rfl) rfl,k⟩
def zt6 (O:HSim c G){p k:Nat}{a:AV}{size n:Nat}{new:List LV}{d:List AV}(ha:AR c (.dy p k) a)(Q:ARs c new d)(L:new.length=n*size)(h:Hz G size (.dy p k) n new K):J8 P c G K (Pb c.H size a n d):=by
 have y:=Q.length;unfold Hz at h;dsimp only at h;split at h
 ·rename_i l len esz D st R;obtain⟨aB,⟨rfl,S⟩,T,h⟩:=h;have aj:p<c.hd.length:=by rw[O.len];exact (Aa.1 R).1
  cases ha with
  | @dy _ _ k' B _ e hk ao ap =>
   obtain⟨r0,r1,g⟩:=O.obj p _ _ _ R e;have E:=ao (by omega);have fin:∀{H':Heap} {x':AV},c.H.next≤H'.next→(∀o,o<c.H.next→Gb B≠some o→H'.get o=c.H.get o)→(∀o,Gb x'=some o→(Gb B=some o∨c.H.next≤o)∧o<H'.next)→Yz x'=true→Rt B=false →
     (CxLe c ⟨c.hd.set p (k'+1,x'),c.Fz,H'⟩→jc ⟨c.hd.set p (k'+1,x'),c.Fz,H'⟩ (k'+1) x' (.dyn (l++new) (len+n) esz (D+1) (st+1)))→J8 P c G K (.val x' H'):=by
    intro H' x' U h2 V M h5 h6;obtain⟨q1,q2,_⟩:=O.upd (k':=k'+1) (x':=x') (ob':=.dyn (l++new) (len+n) esz (D+1) (st+1)) (H':=H') R rfl e U h2 V (Eg _) (fun q=>by omega) (fun q=>by rw[h5] at q;cases q) (.inl (B2 _)) h6;exact⟨_,.dy p (D+1),_,rfl,q1,q2,.dy (k':=k'+1) (h:=x') (by dsimp only;rw[Ag aj]) (by omega) (fun _=>rfl) M,h⟩
   have j:(l++new).length=(len+n)*esz:=by rw[Aj,r1,L,Bb]
   unfold Pb;cases hb:Nat.beq n 0 with
   |true =>
    have W:=Al hb;subst W;have X:new=[]:=A0 (by simpa using L);subst X;have Y:Rt B=false:=by
     rcases g with ⟨g,_⟩|⟨o,v,room,t,f,l',g,_⟩<;>rw[g]<;>rfl
    have aq:Yz B=true:=by rw[←E];exact ap
    have key:J8 P c G K (.val B c.H):=by
     refine fin (Am _) (fun _ _ _=>rfl) (fun o x=>⟨.inl x,O.lt o ⟨p,_,_,_,R,rfl,e,x⟩⟩) aq Y (fun hle=>⟨by omega,j,?_⟩);simp only[Bx,C5];rcases g with ⟨g,m⟩|⟨o,v,room,t,f,l',g,m,r4,Z,F,r7,r8⟩
     ·exact .inl ⟨g,m⟩
     ·exact .inr ⟨o,v,room,t,f,l',g,m,r4,Z,F.mono hle,r7,r8⟩
    rw[E];rcases g with ⟨g,m⟩|⟨o,v,room,t,f,l',g,m,r4,Z,F,r7,r8⟩
    ·rw[g] at key ⊢;exact key
    ·rw[g] at key ⊢;exact key
   |false =>
    have W:n≠0:=fun q=>by rw[q] at hb;cases hb
    rw[E];rcases g with ⟨g,m⟩|⟨o,v,room,t,f,l',g,m,r4,Z,F,r7,r8⟩
    ·
     subst m;have H:l=[]:=A0 (by simpa using r1);subst H;rw[g];dsimp only[Tc];obtain⟨H',U,h2,V,M⟩:=zdy c d;rw[U];dsimp only;refine fin (by omega) (fun o ho _=>V o ho) (fun o x=>by cases x;exact⟨.inr (Am _),by omega⟩) rfl (by rw[g];rfl) (fun hle=>⟨by omega,j,.inr ⟨c.H.next,0,none,_,d.length,d,?_,M,?_,?_,Q.mono hle,fun r q=>(by cases q),fun _=>?_⟩⟩)
     ·simp
     ·rw[Bd];omega
     ·rw[Bd,←L,y];exact zs d
     ·rw[Bd];omega
    ·have aa:o<c.H.next:=O.lt o ⟨p,_,_,_,R,rfl,e,by rw[g];rfl⟩;have ar:l'.length=len*esz:=by rw[←F.length];exact r1
     rw[g];have aw:(Nat.beq esz esz&&Nat.ble len Io)=true:=by rw[Bj,show Nat.ble len Io=true from Ak T];rfl
     dsimp only;rw[aw];dsimp only;have z:Gb B=some o:=by rw[g];rfl
     have I:Rt B=false:=by rw[g];rfl
     have C:Kt (Ju d (len*esz) t) 0 ((len+n)*esz)=some (l'++d):=by
      have:=znd (r:=d) Z
      rwa [show len*esz+d.length=(len+n)*esz from by rw[←y,L,Bb]] at this
     cases room with
     |some r =>
      obtain⟨A,aD⟩:=r7 r rfl;dsimp only;cases ad:Nat.ble (Nat.add len n) r with
      |true =>
       have s:len+n≤r:=As ad;have hm:(len+n)*esz≤r*esz:=At _ s;have af:(len+n)*esz=len*esz+n*esz:=Bb _ _ _;have hw:Oz c.H o v (Nat.add 0 (Nat.mul len esz)) d=some (c.H.put o (.cells (Ju d (len*esz) t) f v false)):=by
        unfold Oz;rw[m];have e1:Nat.add 0 (Nat.mul len esz)=len*esz:=Bd _;have ag:Nat.ble (Nat.add (len*esz) d.length) f=true:=Ak (by show len*esz+d.length≤f;omega);rw[e1];simp only[Bj,ag]
       dsimp only;rw[hw];dsimp only;refine fin (by exact Am _) (fun N _ J=>Heap.get_put_ne _ _ (fun q=>J (by rw[q];exact z))) (fun N x=>by cases x;exact⟨.inl z,aa⟩) rfl I (fun hle=>⟨by omega,j,.inr ⟨o,v,some r,_,f,_,rfl,Heap.get_put_same _ _ _,by omega,C,(F.append Q).mono hle,fun r' q=>by cases q;exact⟨A,s⟩,fun q=>by cases q⟩⟩)
      |false =>
       have hr:=Pj (i:=0) (n:=len*esz) m Z r4 (by omega);dsimp only;rw[show Nat.mul len esz=len*esz from rfl,hr];dsimp only[Tc];obtain⟨H',U,h2,V,M⟩:=zdy c ((l'.drop 0).take (len*esz)++d);rw[U];dsimp only;have ax:(l'.drop 0).take (len*esz)=l':=by rw[C7,Ax (by omega)]
       rw[ax] at M;have w:(l'++d).length=(len+n)*esz:=by rw[Aj,ar,←y,L,Bb]
       refine fin (by omega) (fun N ay _=>V N ay) (fun N x=>by cases x;exact⟨.inr (Am _),by omega⟩) rfl I (fun hle=>⟨by omega,j,.inr ⟨c.H.next,0,none,_,_,l'++d,rfl,M,by omega,?_,(F.append Q).mono hle,fun r' q=>(by cases q),fun _=>w⟩⟩);rw[←w];exact zs _
     |none =>
      have A:=r8 rfl;dsimp only;rw[m];dsimp only;have af:(len+n)*esz=len*esz+n*esz:=Bb _ _ _;have az:0<n*esz:=Nat.mul_pos (by omega) S;have aA:Nat.ble (Nat.add 0 (Nat.mul (Nat.add len n) esz)) f=false:=by
       cases hq:Nat.ble (Nat.add 0 (Nat.mul (Nat.add len n) esz)) f with
       |false=>rfl
       |true =>
        have:0+(len+n)*esz≤f:=As hq;omega
      have ah:Nat.beq (Nat.mul len esz) f=true:=by rw[A];exact Bj _
      rw[Bj,aA,ah,A];dsimp only;have w:Nat.add (len*esz) d.length=(len+n)*esz:=by show len*esz+d.length=_;rw[←y,L,af]
      refine fin (by exact Am _) (fun N _ J=>Heap.get_put_ne _ _ (fun q=>J (by rw[q];exact z))) (fun N x=>by cases x;exact⟨.inl z,aa⟩) rfl I (fun hle=>⟨by omega,j,.inr ⟨o,v+1,none,_,_,_,rfl,Heap.get_put_same _ _ _,by rw[w];exact Am _,C,(F.append Q).mono hle,fun r' q=>(by cases q),fun _=>w⟩⟩)
 ·exact h.elim
def Q4 (j:HSim c G){s:LV}{a:AV}{size n:Nat}{new:List LV}{J:List AV}(ha:AR c s a)(D:ARs c new J)(E:new.length=n*size)(h:Hz G size s n new K):J8 P c G K (Pb c.H size a n J):=by
 have ao:=D.length;unfold Hz at h;split at h
 ·
  cases ha;unfold Pb;cases H:Nat.beq n 0 with
  |true =>
   have:=Al H;subst this;have:new=[]:=A0 (by simpa using E);subst this;exact zv3 j h
  |false =>
   dsimp only[Tc];exact Zn j D E (fun r e=>by cases e) h
 ·rename_i p k;exact zt6 j ha D E (by unfold Hz;exact h)
 ·rename_i p k lo len;split at h
  ·rename_i l U esz af st F;obtain⟨O,⟨rfl,rfl,ag⟩,m,h⟩:=h;have x:Nat.beq n 0=false:=by
    cases H:Nat.beq n 0 with
    |false=>rfl
    |true=>have:=Al H;omega
   cases ha with
   | @vw _ _ _ _ k' hh _ e hk I V hz =>
    split at h
    case isFalse L =>
     obtain⟨Q,W,h1,X⟩:=h;subst Q;have Y:=(j.obj p _ _ _ F e).1;have A:=hz (by omega) rfl;rcases I (by omega) with ⟨y,z⟩|⟨o,v,f,d,room,g,y,z,r9⟩
     ·subst y;rcases z with rfl|⟨_,r5⟩
      ·have Q:l=[]:=A0 (by have:=(j.obj p _ _ _ F e).2.1;simpa using this);subst Q;unfold Pb;rw[x];dsimp only[Tc];refine Zn j D E (fun r e=>by cases e) ?_;simpa using X
      ·exact absurd rfl r5
     ·have M:=e;rw[y] at M;obtain⟨_,w1,Z,w3,t,w,l',T,w5,w6,w7,_⟩:=Xe j F M;subst Z w3;rw[y,z] at A;dsimp only[Sn] at A;by_cases aa:g=room
      ·refine zt6 j (p:=p) (k:=k) (.dy e hk (fun _=>by rw[z,y,aa,Dc]) V) D E ?_;unfold Hz;dsimp only;rw[F];exact⟨O,⟨rfl,W⟩,m,h1⟩
      ·rcases A with A|⟨r,rfl,hr⟩
       ·exact absurd A aa
       have B:(Nat.beq d d&&Nat.ble f Io)=true:=by rw[Bj,show Nat.ble f Io=true from Ak m];rfl
       have R:Nat.ble (Nat.add f n) r=false:=by
        cases hq:Nat.ble (Nat.add f n) r with
        |false=>rfl
        |true=>have:f+n≤r:=As hq;omega
       rw[z];unfold Pb;rw[x];dsimp only;rw[B];dsimp only;rw[R];dsimp only;have S:=Pj (i:=0) (n:=f*d) T w6 w5 (by omega);rw[show Nat.mul f d=f*d from rfl,show 0*d=0 from Dc _,S];dsimp only[Tc];have C:=Bb f n d;have ah:l.take (f*d)=l:=Ax (by omega);refine Zn j ((w7.take _).append D) (by rw[Aj,Cr,E];show min (f*d) l.length+n*d=(f+n)*d;omega) (fun r e=>by cases e) ?_;rw[ah];exact X
    case isTrue L =>
     obtain⟨h1,X⟩:=h;have Y:=(j.obj p _ _ _ F e).1;have C:(len+n)*esz=len*esz+n*esz:=Bb _ _ _;rcases I (by omega) with ⟨y,z⟩|⟨o,v,f,d,room,g,y,z,r9⟩
     ·subst y;rcases z with rfl|⟨_,r5⟩
      ·unfold Pb;rw[x];dsimp only[Tc];refine Zn j D E (fun r e=>by cases e) ?_;simpa using X
      ·exact absurd rfl r5
     ·have M:=e;rw[y] at M;obtain⟨_,w1,Z,w3,t,w,l',T,w5,w6,w7,_⟩:=Xe j F M;subst Z w3;rw[z];have hw:Oi G (.dptr p k (len*d)) new (fun G'=>K (.vw p k 0 (len+n)) G'):=by
       unfold Oi;dsimp only;rw[F];exact⟨O,by rw[E,←C];exact L,h1⟩
      obtain⟨o2,v2,i2,H',c',G',u1,u2,u3,u4,u5,u6⟩:=xo j (a:=.ptr o v (len*d)) (.dptr e hk (fun _=>⟨rfl,_,d,room,y⟩)) D hw;cases u1;have N:(∀r,g=some r→len+n≤r)→J8 P c G K (.val (.sl o v (0*d) (len+n) d g) H'):=fun hr=>by
       refine⟨c',.vw p k 0 (len+n),G',u3,u4,u5,AR.mono u5.le (.vw e hk (fun _=>.inr ⟨o,v,_,d,room,g,y,rfl,hr⟩) rfl (fun q=>by have:=hz q;rw[z] at this;exact this)),u6⟩
      have B:(Nat.beq d d&&Nat.ble len Io)=true:=by rw[Bj,show Nat.ble len Io=true from Ak m];rfl
      have ad:Nat.add (0*d) (Nat.mul len d)=len*d:=by show 0*d+len*d=_;omega
      have aj:len*d≤f*d:=by rw[←w1];omega
      unfold Pb;rw[x];dsimp only;rw[B];dsimp only;cases g with
      |some r =>
       dsimp only;cases H:Nat.ble (Nat.add len n) r with
       |true =>
        dsimp only;rw[ad,u2];exact N (fun r' e'=>by cases e';exact As H)
       |false =>
        dsimp only;have hr:=Pj (i:=0) (n:=len*d) T w6 w5 (by omega);rw[show Nat.mul len d=len*d from rfl,show 0*d=0 from Dc _,hr];dsimp only[Tc];refine Zn j ((w7.take _).append D) (by rw[Aj,Cr,E];show min (len*d) l.length+n*d=(len+n)*d;omega) (fun r e=>by cases e) X
      |none =>
       dsimp only;rw[T];dsimp only;rw[Bj,ad];have H:Nat.ble (Nat.add (0*d) (Nat.mul (Nat.add len n) d)) w=true:=Ak (by show 0*d+(len+n)*d≤w;omega);rw[H];dsimp only;rw[u2];exact N (fun r' e'=>by cases e')
  ·exact h.elim
 ·rename_i p k len;split at h
  ·rename_i l U esz af st F;obtain⟨O,⟨rfl,ag⟩,m,hle,h⟩:=h;have x:Nat.beq n 0=false:=by
    cases H:Nat.beq n 0 with
    |false=>rfl
    |true=>have:=Al H;omega
   cases ha with
   | @vf _ _ _ k' hh _ e hk I V =>
    have Y:=(j.obj p _ _ _ F e).1;obtain⟨o,v,f,d,room,y,z⟩:=I (by omega);have M:=e;rw[y] at M;obtain⟨_,w1,Z,w3,t,w,l',T,w5,w6,w7,_⟩:=Xe j F M;subst Z w3;have B:(Nat.beq d d&&Nat.ble len Io)=true:=by rw[Bj,show Nat.ble len Io=true from Ak m];rfl
    have R:Nat.ble (Nat.add len n) len=false:=by
     cases hq:Nat.ble (Nat.add len n) len with
     |false=>rfl
     |true=>have:len+n≤len:=As hq;omega
    rw[z];unfold Pb;rw[x];dsimp only;rw[B];dsimp only;rw[R];dsimp only;have S:=Pj (i:=0) (n:=len*d) T w6 w5 (by omega);rw[show Nat.mul len d=len*d from rfl,S];dsimp only[Tc];have C:=Bb len n d;refine Zn j ((w7.take _).append D) (by rw[Aj,Cr,E];show min (len*d) l.length+n*d=(len+n)*d;omega) (fun r e=>by cases e) h
  ·exact h.elim
 ·exact h.elim
end res
end Go.Sv
namespace Go.Sv
section res
variable {P : Program} {c : Cx} {G : Ev} {K : LV → Ev → Prop}
def W4 {v:LV}{a:AV}(d:v.scal=true)(h:AR c v a):a=toA v:=by
 cases v<;>first|(cases d;done)|(cases h;rfl)
def toAs_scal:∀{l:List LV} {r:List AV},l.all LV.scal=true→ARs c l r→r=toAs l
 |[],_,_,.nil=>rfl
 |v::l,_,h,.cons e es=>by
  simp only[Ct,Ac] at h;rw[toAs,←W4 h.1 e,←toAs_scal h.2 es]
def ct {op:BinOp}{g:Bool}{t:TypeId}{x y:LV}{a b:AV}{K:LV→Prop}(l:AR c x a)(m:AR c y b)(h:K8 P op g t x y K):Jz c K (Hx P op g t a b):=by
 unfold K8 at h;split at h
 ·cases l;cases m;exact th h
 ·cases l;cases m;exact m7 h
 ·cases l;cases m;exact qv h
 ·rename_i u v;cases l;cases m;cases op<;>try exact h.elim
  ·simp only[Hx];rw[h.1];exact .mk (.bool _) h.2
  ·simp only[Hx];rw[h.1];exact .mk (.bool _) h.2
 ·rename_i u s;cases l;cases m;cases op<;>try exact h.elim
  ·obtain⟨f,j⟩:=h;obtain⟨n,rfl⟩:=Af f;exact .mk (.u' (kh u n)) j
  ·obtain⟨f,j⟩:=h;obtain⟨n,rfl⟩:=Af f;exact .mk (.u' (iz u n)) j
 ·rename_i u s;cases l;cases m;cases op<;>try exact h.elim
  ·obtain⟨f,j,q,p⟩:=h;rw[(zld (s:=Int.ofNat s.toNat) f (B6 _) (by show (s.toNat:Int)≤64;omega)).1];exact .mk (.i' (R9 q)) p
  ·obtain⟨f,j,p⟩:=h;rw[(zld (s:=Int.ofNat s.toNat) f (B6 _) (by show (s.toNat:Int)≤64;omega)).2];exact .mk (.i _) p
 ·obtain⟨rfl,h⟩:=h;cases l;cases m;exact s9 h
 ·cases l;cases m;exact mm h
 ·cases l;cases m;exact zq9 (by cases op<;>rfl) h
 ·cases l;cases m;have:∀o v i,J6 P g t (.ptr o v i) .nilPtr=J6 P g t (.ptr 0 0 0) .nilPtr:=fun o v i=>by
   unfold J6 wg zc Vf;dsimp only;cases P.underlying t with
   |none=>rfl
   |some d=>cases d<;>rfl
  refine zq9 (r:=false) (by cases op<;>rfl) ?_;cases op<;>simp only[Rx] at h ⊢<;>(rw[this];exact h)
 ·cases l;cases m;exact zq9 (by cases op<;>rfl) h
 ·cases m;obtain⟨f,j⟩:=h;have key:J6 P g t .emp .nilSl=some false∧∀o v i len esz room,J6 P g t (.sl o v i len esz room) .nilSl=some false:=by
   unfold J6 wg zc Vf at f ⊢;dsimp only at f ⊢;cases hu:P.underlying t with
   |none=>rw[hu] at f;cases f
   |some d=>rw[hu] at f;cases d<;>first|(cases f;done)|exact⟨rfl,fun _ _ _ _ _ _=>rfl⟩
  have fin:∀{a:AV} {b:Bool},J6 P g t a .nilSl=some b→(Hx P op g t a .nilSl=match op with | .eql=>ng (J6 P g t a .nilSl) | .neq=>tk (J6 P g t a .nilSl)|_=>none)→(match op with | .eql=>K (.bool b) | .neq=>K (.bool !b)|_=>False)→Jz c K (Hx P op g t a .nilSl):=by
   intro a b q p w;rw[p,q];cases op<;>first|exact w.elim|exact .mk (.bool _) w
  cases l with
  |lst A z hlen B C =>
   refine fin (key.2 _ _ _ _ _ _) (by cases op<;>rfl) ?_;cases op<;>first|exact j.elim|exact j.1
  |lstNil =>
   refine fin f (by cases op<;>rfl) ?_;cases op<;>first|exact j.elim|exact j.2 rfl
  |lstEmp =>
   refine fin key.1 (by cases op<;>rfl) ?_;cases op<;>first|exact j.elim|exact j.1
 ·cases l with
  |agg f=>cases m with
   |agg j =>
    cases op<;>try exact h.elim
    ·obtain⟨b,s1,s2,e,k⟩:=h;rw[toAs_scal s1 f,toAs_scal s2 j];simp only[Hx];rw[e];exact .mk (.bool _) k
    ·obtain⟨b,s1,s2,e,k⟩:=h;rw[toAs_scal s1 f,toAs_scal s2 j];simp only[Hx];rw[e];exact .mk (.bool _) k
 ·exact h.elim
def qx {op:UnOp}{x:LV}{a:AV}{K:LV→Prop}(d:AR c x a)(h:pi op x K):Jz c K (unA op a):=by
 unfold pi at h;simp only[Qx,zw2] at h;split at h
 ·cases d;exact .mk (.bool _) h
 ·cases d;refine .mk (.u' ?_) h;rename_i u;rw[Rs,Dv];show (0 - Int.ofNat u.toNat)%_=((2^64 - u.toNat+(0:UInt64).toNat)%2^64:Nat);have:=u.toNat_lt;simp only[A8,UInt64.toNat_zero];omega
 ·cases d;obtain⟨f,g⟩:=h;refine .mk (.i' ?_) g;have e:∀n:Int,Int.sub 0 n=-n:=fun n=>by show 0 - n=-n;omega
  rw[e];exact R9 f
 ·cases d;refine .mk (.u' ?_) h;rename_i u;have hu:=u.toNat_lt;show IntKind.wrap .u64 (BitVec.ofInt 64 (IntKind.max .u64) ^^^ BitVec.ofInt 64 (Int.ofNat u.toNat)).toNat=_;have j:BitVec.ofInt 64 (IntKind.max .u64)=BitVec.allOnes 64:=by decide
  have l:BitVec.ofInt 64 (Int.ofNat u.toNat)=u.toBitVec:=by
   apply BitVec.eq_of_toNat_eq;simp
  rw[j,l,BitVec.allOnes_xor];show ((~~~u.toBitVec).toNat:Int)%18446744073709551616=Int.ofNat (~~~u).toNat;have:(~~~u).toNat=(~~~u.toBitVec).toNat:=rfl;rw[this];exact Cn (B6 _) (by have:=(~~~u.toBitVec).isLt;omega)
 ·exact h.elim
def zwk (n:Int):n%18446744073709551616=Int.ofNat (UInt64.ofInt n).toNat:=by
 unfold UInt64.ofInt;rw[By];simp only[A8];omega
def zsz (n:Int):n%256=Int.ofNat (UInt8.ofInt n).toNat:=by
 unfold UInt8.ofInt;rw[UInt8.toNat_ofNat'];simp only[A8];omega
def lq {k:IntKind}{x:LV}{a:AV}{K:LV→Prop}(d:AR c x a)(h:Zb k x K):∃k' n,a=.int k' n∧∃v,AR c v (.int k (Ny k n))∧K v:=by
 unfold Zb at h;simp only[Uj,xk,zm,x4] at h;split at h
 ·cases d;rename_i u;refine⟨_,_,rfl,_,.u' ?_,h⟩;rw[Rs];exact Cn (B6 _) (by have:=u.toNat_lt;simp only[A8];omega)
 ·cases d;refine⟨_,_,rfl,_,.u' ?_,h⟩;rename_i n;rw[Rs];exact zwk n
 ·cases d;rename_i u;refine⟨_,_,rfl,_,.u' ?_,h⟩;rw[Rs];have:=u.toNat_lt;rw[By];show Int.ofNat u.toNat%18446744073709551616=Int.ofNat (u.toNat%2^64);simp only[A8];omega
 ·cases d;rename_i u;exact⟨_,_,rfl,_,.i' (R9 ⟨by simp only[A8];omega,by simp only[A8];omega⟩),h.2⟩
 ·cases d;exact⟨_,_,rfl,_,.i' (R9 h.1),h.2⟩
 ·cases d;rename_i u;have:=u.toNat_lt;exact⟨_,_,rfl,_,.i' (R9 ⟨by simp only[A8];omega,by simp only[A8];omega⟩),h⟩
 ·cases d;rename_i u;refine⟨_,_,rfl,_,.b' ?_,h⟩;rw[kv,UInt8.toNat_ofNat'];show Int.ofNat u.toNat%256=Int.ofNat (u.toNat%2^8);simp only[A8];omega
 ·cases d;refine⟨_,_,rfl,_,.b' ?_,h⟩;rename_i n;rw[kv];exact zsz n
 ·cases d;rename_i u;refine⟨_,_,rfl,_,.b' ?_,h⟩;rw[kv];exact Cn (B6 _) (by have:=u.toNat_lt;simp only[A8];omega)
 ·cases d;refine⟨_,_,rfl,_,.b' ?_,h⟩;rename_i n;rw[kv];exact zsz n
 ·cases d;refine⟨_,_,rfl,_,?_,h⟩;rename_i n;have e:Ny .i32 n=w32 n:=by
   rw[Sw];show (if (true&&decide (n%4294967296 ≥ 2147483648))=true then n%4294967296 - 4294967296 else n%4294967296)=w32 n;simp only[Ed,Ao,w32];split<;>omega
  rw[e];exact .int .i32 _
 ·cases d;exact⟨_,_,rfl,_,.i' (R9 h.1),h.2⟩
 ·exact h.elim
def layL_eq:∀(r l:List AV) (i:Nat),i+r.length≤l.length→M2 l i r=Xo l i r
 |[],l,i,h=>by
  simp only[M2,Xo,Bc,C5,Bx,List.take_append_drop]
 |a::r,l,i,h=>by
  simp only[Ar] at h;rw[M2,layL_eq r (l.set i a) (i+1) (by simp;omega)];refine List.ext_getElem? (fun j=>?_);rw[zi1 (by simp;omega),zi1 (by simp;omega)];simp only[Ar];by_cases d:i+1≤j∧j<i+1+r.length
  ·rw[Ai d,Ai (by omega),show j - i=(j - (i+1))+1 from by omega,Av]
  ·rw[Ab d];by_cases f:j=i
   ·subst f;rw[Ai (by omega),Ag (by omega)];simp
   ·rw[Ab (by omega),Ad (Ne.symm f)]
def zl8 {ρ:Ey}{E:Tr AV}(j:Gm c ρ E):∀{f:List (Nat×Nat×Lx)} {cs l:List LV} {a:List AV},f.all (·.2.2.ok)=true→ARs c cs a→fw ρ cs f=some l→∃l',fillR (ρA E) a (rps f)=some l'∧ARs c l l'
 |[],cs,l,a,_,h,e=>by
  simp only[fw,Option.some.injEq] at e;subst e;exact⟨a,rfl,h⟩
 |(off,size,x)::f,cs,l,a,d,h,e=>by
  simp only[Ct,Ac] at d;simp only[fw] at e;split at e
  ·cases e
  ·rename_i r o;split at e
   ·rename_i p;obtain⟨q,C⟩:=p;obtain⟨r',s,m⟩:=(Gz j d.1).cells o;have g:=m.length;have w:=h.length;obtain⟨l',y,z⟩:=zl8 j d.2 (h.lay m off) e;refine⟨l',?_,z⟩;simp only[rps,fillR,s];have A:Nat.beq r'.length size=true:=by rw[←g,q];exact Bj _
    have B:Nat.ble (Nat.add off size) a.length=true:=Ak (by show off+size≤_;omega);simp only[A,B];rw[layL_eq _ _ _ (by omega)];exact y
   ·cases e
def Of {ρ:Ey}{E:Tr AV}(l:Gm c ρ E){d:Nat}{x:Option Lx}(g:Xy x=true){K:Nat→Prop}(h:Hs ρ d x K):∃r n,H8 (ρA E) (x.map Lx.r)=some r∧r.getD d=n∧K n:=by
 cases x with
 |none=>exact⟨none,d,rfl,rfl,h⟩
 |some x =>
  simp only[Hs] at h;have f:=Gz l (show x.ok=true from g);simp only[Ck,H8];split at h
  ·rename_i n j;obtain⟨o,p⟩:=h;rw[j] at f;generalize x.r.ev (ρA E)=a at f;cases f;obtain⟨m,rfl⟩:=Af o;exact⟨some m,m,rfl,rfl,p⟩
  ·rename_i n j;rw[j] at f;generalize x.r.ev (ρA E)=a at f;cases f;exact⟨some n.toNat,n.toNat,rfl,rfl,h⟩
  ·exact h.elim
end res
end Go.Sv
