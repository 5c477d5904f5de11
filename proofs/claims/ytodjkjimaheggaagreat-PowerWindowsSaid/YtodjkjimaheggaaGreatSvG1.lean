/- Texts of the evaluator, of the logic over it, of plain arithmetic. -/
import Derived.Test.YtodjkjimaheggaaGreatSvG0
import Derived.Orders
import Derived.WalkKit
import Derived.ProofKit
import Derived.OpenShut
set_option linter.unusedSimpArgs false
namespace Go.Sv
theorem eqAV_spec:∀(n:Nat) (a b:AV),Js n a b=true→a=b
 |0,_,_,h=>by cases h
 |n+1,a,b,h=>by
  have j:∀(x y:List AV),S5 (Js n) x y=true→x=y:=by
   intro x
   induction x with
   |nil=>intro y g;cases y with
    |nil=>rfl
    |cons _ _=>cases g
   |cons c x l =>
    intro y g;cases y with
    |nil=>cases g
    |cons d y =>
     simp only[S5] at g;split at g
     ·rename_i m;rw[eqAV_spec n c d m,l y g]
     ·cases g
  have f:∀{x y:Nat},Nat.beq x y=true→x=y:=fun h=>An h
  unfold Js at h;split at h
  ·simp only[Du] at h;rw[h]
  ·simp only[Ab,zas,Du] at h;rw[z8m h.1,h.2]
  ·simp only[Ab] at h;rw[f h.1,f h.2]
  ·rfl
  ·simp only[Ab] at h;rw[f h.1.1,f h.1.2,f h.2]
  ·rfl
  ·simp only[Ab,Du] at h;obtain⟨⟨⟨⟨⟨o,p⟩,q⟩,r⟩,s⟩,w⟩:=h;rw[f o,f p,f q,f r,f s,w]
  ·rfl
  ·rfl
  ·rw[f h]
  ·rfl
  ·simp only[Ab] at h;rw[f h.1.1,j _ _ h.1.2,j _ _ h.2]
  ·simp only[Ab] at h;rw[f h.1.1,j _ _ h.1.2,j _ _ h.2]
  ·rfl
  ·simp only[Ab] at h;rw[f h.1,eqAV_spec n _ _ h.2]
  ·rw[j _ _ h]
  ·rw[j _ _ h]
  ·cases h
theorem Tc (a b j:Nat):(Nat.lor a b).testBit j=(a.testBit j || b.testBit j):=Nat.testBit_or a b j
theorem Z5 (i j:Nat):(2^i).testBit j=decide (i=j):=Nat.testBit_two_pow
theorem zlg {a b:Nat}(h:Nat.beq (Nat.land a b) a=true)(j:Nat)(d:a.testBit j=true):b.testBit j=true:=by
 have e:a &&& b=a:=An h;rw[←e,Nat.testBit_and] at d;simp only[Ab] at d;exact d.2
theorem bitsOf_spec:∀{l:List Nat} {t:Nat},t∈l→(zpv l).testBit t=true
 |[],_,h=>by cases h
 |a::l,t,h=>by
  simp only[zpv,Tc,Z5,Bn,Ak];rcases Ao.1 h with rfl | h
  ·exact .inl rfl
  ·exact .inr (bitsOf_spec h)
theorem zae {acc:List Nat}:∀{l:List Edge} {j:Nat},(zg7 acc l).testBit j=true↔∃e∈l,Region.binds .any e=true∧(j=e.on∨(acc.getD e.on 0).testBit j=true)
 |[],j=>by simp[zg7]
 |e::l,j=>by
  simp only[zg7];split
  ·rename_i a;simp only[Tc,Z5,Bn,Ak,zae,Ao,exists_eq_or_imp,a,Dt];constructor
   ·rintro ((h | h) | h)
    ·exact .inl (.inl h.symm)
    ·exact .inl (.inr h)
    ·exact .inr h
   ·rintro ((h | h) | h)
    ·exact .inl (.inl h.symm)
    ·exact .inl (.inr h)
    ·exact .inr h
  ·rename_i a;simp only[zae,Ao,exists_eq_or_imp,a,C3,false_and,false_or]
theorem S7 {α:Type}{f:α→Bool}:∀{l:List α} {x:α},x∈Ga f l↔x∈l∧f x=true
 |[],x=>by simp[Ga]
 |a::l,x=>by
  simp only[Ga];split
  ·rename_i h;simp only[Ao,S7];constructor
   ·rintro (rfl | j)
    ·exact⟨.inl rfl,h⟩
    ·exact⟨.inr j.1,j.2⟩
   ·rintro⟨rfl | g,d⟩
    ·exact .inl rfl
    ·exact .inr ⟨g,d⟩
  ·rename_i h;simp only[Ao,S7];constructor
   ·rintro⟨g,d⟩;exact⟨.inr g,d⟩
   ·rintro⟨rfl | g,d⟩
    ·rw[h] at d;cases d
    ·exact⟨g,d⟩
theorem zlb {α:Type}{f:α→Bool}:∀{l:List α},Oo f l=true→∀x∈l,f x=true
 |[],_,x,d=>by cases d
 |a::l,h,x,d=>by
  simp only[Oo] at h;split at h
  ·rename_i g;rcases Ao.1 d with rfl | d
   ·exact g
   ·exact zlb h x d
  ·cases h
structure LOk (P:Program) (ops:Array Oper) (L:List DOp):Prop where
 op:∀x∈L,ops[x.i]?=some x.o∧x.i<ops.size
 all:∀i,i<ops.size→∃x∈L,x.i=i
 inj:∀x∈L,∀y∈L,x.i=y.i→x=y
 cl:∀x∈L,x.c=cls P x.o.op
 lm:∀x∈L,∀t∈Nc ops x.o,x.lm.testBit t=true
 msk:∀x∈L,∀j,x.m.testBit j=true→∃e∈x.o.after.toList,Region.binds .any e=true∧(j=e.on∨∃y∈L,y.i=e.on∧y.m.testBit j=true)
 edge:∀x∈L,∀e∈x.o.after.toList,Region.binds .any e=true→x.m.testBit e.on=true
theorem zgv (P:Program)(ops:Array Oper):∀(l:List Oper) (acc:List Nat) (i:Nat) (j:Nat),(I0 P ops l acc i).length=l.length∧∀x,(I0 P ops l acc i)[j]?=some x →
  x.i=i+j∧l[j]?=some x.o∧x.c=cls P x.o.op∧x.lm=zpv (Nc ops x.o)∧x.m=zg7 (acc++((I0 P ops l acc i).take j).map (·.m)) x.o.after.toList
 |[],acc,i,j=>⟨rfl,fun x h=>by simp[I0] at h⟩
 |o::l,acc,i,0=>⟨by simp[I0,(zgv P ops l _ (i+1) 0).1],fun x h=>by
   simp only[I0,A6,Option.some.injEq] at h;subst h;exact⟨rfl,rfl,rfl,rfl,by simp⟩⟩
 |o::l,acc,i,j+1=>⟨by simp[I0,(zgv P ops l _ (i+1) 0).1],fun x h=>by
   simp only[I0,Av] at h;obtain⟨p,a,d,f,g⟩:=(zgv P ops l _ (i+1) j).2 x h;refine⟨by omega,by simpa using a,d,f,?_⟩;rw[g];simp[I0]⟩
theorem dops_ok (P:Program)(ops:Array Oper):LOk P ops (I0 P ops ops.toList [] 0):=by
 have f:=zgv P ops ops.toList [] 0;have hlen:(I0 P ops ops.toList [] 0).length=ops.size:=by rw[(f 0).1];simp
 have hm:∀x∈I0 P ops ops.toList [] 0,∃j,(I0 P ops ops.toList [] 0)[j]?=some x∧x.i=j:=fun x d=>by
  obtain⟨j,a⟩:=Co.1 d;exact⟨j,a,by have:=((f j).2 x a).1;omega⟩
 refine⟨fun x d=>?_,fun i hi=>?_,fun x d y p e=>?_,fun x d=>?_,fun x d t q=>?_,fun x d j a=>?_,fun x d e he o=>?_⟩
 ·obtain⟨j,a,e⟩:=hm x d;obtain⟨_,r,_⟩:=(f j).2 x a;rw[e];have:j<ops.size:=by
   have:=(Aa.1 a).1;omega
  exact⟨by simpa using r,this⟩
 ·exact ⟨(I0 P ops ops.toList [] 0)[i]'(by omega), Dw _, by
   have:=((f i).2 _ (Ai (by omega))).1;omega⟩
 ·obtain⟨j,a,m⟩:=hm x d;obtain⟨s,l,w⟩:=hm y p;have:j=s:=by omega
  subst this;rw[a] at l;cases l;rfl
 ·obtain⟨j,a,m⟩:=hm x d;exact ((f j).2 x a).2.2.1
 ·obtain⟨j,a,m⟩:=hm x d;rw[((f j).2 x a).2.2.2.1];exact bitsOf_spec q
 ·obtain⟨i,hi,m⟩:=hm x d;rw[((f i).2 x hi).2.2.2.2] at a;obtain⟨e,he,o,h⟩:=zae.1 a;refine⟨e,he,o,h.imp id fun h=>?_⟩;rw[D0,Ae,Cc] at h;cases g:((I0 P ops ops.toList [] 0).take i)[e.on]? with
  |none=>rw[g] at h;simp at h
  |some y =>
   rw[g] at h;have p:=Co.2 ⟨e.on,g⟩;rw[List.getElem?_take] at g;split at g
   ·exact⟨y,Co.2 ⟨_,g⟩,by have:=((f e.on).2 y g).1;omega,h⟩
   ·cases g
 ·obtain⟨i,hi,m⟩:=hm x d;rw[((f i).2 x hi).2.2.2.2];exact zae.2 ⟨e,he,o,.inl rfl⟩
theorem dstsOk_spec:∀{l:List DOp} {seen:Nat},zpg l seen=true→(∀x∈l,∀d,x.o.dst=some d→seen.testBit d=false)∧∀x∈l,∀y∈l,∀d,x.o.dst=some d→y.o.dst=some d→x=y
 |[],_,_=>⟨fun x f=>(by cases f),fun x f=>by cases f⟩
 |a::l,seen,h=>by
  simp only[zpg] at h;split at h
  ·rename_i j;obtain⟨o,p⟩:=dstsOk_spec h;refine⟨fun x f d hd=>?_,fun x f y m d hd g=>?_⟩
   ·rcases Ao.1 f with rfl | f
    ·rw[j] at hd;cases hd
    ·exact o x f d hd
   ·rcases Ao.1 f with rfl | f
    ·rw[j] at hd;cases hd
    ·rcases Ao.1 m with rfl | m
     ·rw[j] at g;cases g
     ·exact p x f y m d hd g
  ·rename_i d0 j;split at h
   ·cases h
   ·rename_i z;obtain⟨o,p⟩:=dstsOk_spec h;have q:∀x∈l,x.o.dst≠some d0:=fun x f e=>by
     have:=o x f d0 e;rw[Tc,Z5] at this;simp at this
    refine⟨fun x f d hd=>?_,fun x f y m d hd g=>?_⟩
    ·rcases Ao.1 f with rfl | f
     ·rw[j] at hd;cases hd;simpa using z
     ·have:=o x f d hd;rw[Tc] at this;simp only[Bool.or_eq_false_iff] at this;exact this.2
    ·rcases Ao.1 f with ex | r<;>rcases Ao.1 m with s | w
     ·rw[ex,s]
     ·subst ex;rw[j] at hd;cases hd;exact absurd g (q y w)
     ·subst s;rw[j] at g;cases g;exact absurd hd (q x r)
     ·exact p x r y w d hd g
theorem zex {x:DOp}:Fe x=true↔x.c=.ch:=by
 unfold Fe;constructor
 ·intro h;split at h
  ·assumption
  ·cases h
 ·intro h;rw[h]
theorem zin {x:DOp}:zqx x=true↔x.c=.quiet:=by
 unfold zqx;constructor
 ·intro h;split at h
  ·assumption
  ·cases h
 ·intro h;rw[h]
theorem z9t {x:DOp}{l:List DOp}{seen a s:Nat}(h:Hu (x::l) seen a=some s):(∀j,x.m.testBit j=true→seen.testBit j=true)∧seen.testBit x.i=false ∧
  ((x.c=.quiet∧Hu l (Nat.lor (2^x.i) seen) a=some s) ∨
   ((x.c=.rd∨x.c=.al)∧(∀j,a.testBit j=true→x.m.testBit j=true)∧Hu l (Nat.lor (2^x.i) seen) a=some s) ∨
   (x.c=.ch∧(∀j,a.testBit j=true→x.m.testBit j=true)∧Hu l (Nat.lor (2^x.i) seen) (Nat.lor (2^x.i) a)=some s)):=by
 simp only[Hu] at h;split at h
 ·cases h
 ·rename_i p;split at h
  ·cases h
  ·rename_i q;refine⟨fun j d=>zlg p j d,by simpa using q,?_⟩;split at h
   ·rename_i f;exact .inl ⟨zin.1 f,h⟩
   ·rename_i f;split at h
    ·cases h
    ·rename_i m;split at h
     ·rename_i g;exact .inr (.inr ⟨zex.1 g,fun j d=>zlg m j d,h⟩)
     ·rename_i g;refine .inr (.inl ⟨?_,fun j d=>zlg m j d,h⟩);cases o:x.c with
      |quiet=>rw[zin.2 o] at f;cases f
      |rd=>exact .inl rfl
      |al=>exact .inr rfl
      |ch=>rw[zex.2 o] at g;cases g
theorem topo_seen:∀{l:List DOp} {seen d s:Nat},Hu l seen d=some s→∀j,s.testBit j=true↔(seen.testBit j=true∨∃x∈l,x.i=j)
 |[],seen,d,s,h,j=>by simp only[Hu,Option.some.injEq] at h;subst h;simp
 |x::l,seen,d,s,h,j=>by
  obtain⟨_,_,f⟩:=z9t h;have key:∀a,Hu l (Nat.lor (2^x.i) seen) a=some s→(s.testBit j=true↔(seen.testBit j=true∨∃y∈x::l,y.i=j)):=fun a g=>by
   rw[topo_seen g j,Tc,Z5];simp only[Bn,Ak,Ao,exists_eq_or_imp];constructor
   ·rintro ((h | h) | h)
    ·exact .inr (.inl h)
    ·exact .inl h
    ·exact .inr (.inr h)
   ·rintro (h | h | h)
    ·exact .inl (.inr h)
    ·exact .inl (.inl h)
    ·exact .inr h
  rcases f with ⟨_,f⟩ | ⟨_,_,f⟩ | ⟨_,_,f⟩<;>exact key _ f
theorem topo_new:∀{l:List DOp} {seen d s:Nat},Hu l seen d=some s→∀x∈l,seen.testBit x.i=false
 |[],_,_,_,_,x,f=>by cases f
 |y::l,seen,d,s,h,x,f=>by
  obtain⟨_,j,g⟩:=z9t h;rcases Ao.1 f with rfl | f
  ·exact j
  ·have key:∀a,Hu l (Nat.lor (2^y.i) seen) a=some s→seen.testBit x.i=false:=fun a m=>by
    have:=topo_new m x f;rw[Tc] at this;simp only[Bool.or_eq_false_iff] at this;exact this.2
   rcases g with ⟨_,g⟩ | ⟨_,_,g⟩ | ⟨_,_,g⟩<;>exact key _ g
theorem topo_chs:∀{l:List DOp} {seen d s:Nat},Hu l seen d=some s→∀x∈l,x.c≠.quiet→∀j,d.testBit j=true→x.m.testBit j=true
 |[],_,_,_,_,_,f=>by cases f
 |y::l,seen,d,s,h,x,f=>by
  intro o j g;obtain⟨_,p,a⟩:=z9t h;rcases Ao.1 f with rfl | f
  ·rcases a with ⟨e,a⟩ | ⟨e,m,a⟩ | ⟨e,m,a⟩
   ·exact absurd e o
   ·exact m j g
   ·exact m j g
  ·rcases a with ⟨e,a⟩ | ⟨e,m,a⟩ | ⟨e,m,a⟩
   ·exact topo_chs a x f o j g
   ·exact topo_chs a x f o j g
   ·exact topo_chs a x f o j (by rw[Tc,g];simp)
theorem zqa {L chain:List DOp}{p:Nat}:∀x∈Vv L chain p,x∈L:=fun _ a=>(S7.1 a).1
theorem zid {L chain:List DOp}:∀{l:List DOp} {p:Nat},(∀x∈l,x∈L)→∀x∈zm1 L chain l p,x∈L
 |[],_,_,_,a=>by cases a
 |c::l,p,h,x,a=>by
  simp only[zm1,Ao,Az] at a;rcases a with rfl | a | a
  ·exact h _ (by simp)
  ·exact zqa x a
  ·exact zid (fun y d=>h y (by simp[d])) x a
theorem zwu {L:List DOp}:∀x∈O1 L (Ga Fe L),x∈L:=fun x a=>by
 simp only[O1,Az] at a;rcases a with a | a
 ·exact zqa x a
 ·exact zid (fun y d=>(S7.1 d).1) x a
open Go.RowKit (Below)
def zq2 (ob:AObj):Prop:=∀B C w o,(∀v,C.f o v=none)→Ig B C w o ob
def MkOk (P:Program)(C:CM)(w:World)(nx:Sem Next)(v:AV)(ob:AObj):Prop :=
 ∃a n sz x,nx.run P w=.ok (.value x) (w.alloc a)∧∀(d:CM) (id:Nat),C.keep d→d id 0=some ⟨w.heap.size,0,n,sz⟩ →
  VR d (Ix id v) x∧∀B,B≤w.heap.size→Ig B d (w.alloc a) id ob
def MkR (P:Program)(E:Tr AV)(H:Heap)(nx:(Operand→Value)→Sem Next):OR→Prop
 |.no=>True
 |.val v H1=>∃ob,True∧H1=H.push ob∧F9 v=some H.next∧zq2 ob∧∀C w ρ,zq0 C E ρ→MkOk P C w (nx ρ) v ob
 |.call _ _=>False
def Mk (P:Program)(F:OpF)(nx:(Operand→Value)→Sem Next):Prop:=∀E H,MkR P E H nx (F.run E H)
theorem Mk.congr {P:Program}{F:OpF}{nx aa:(Operand→Value)→Sem Next}(h:∀ρ,nx ρ=aa ρ)(s:Mk P F nx):Mk P F aa:=by
 rw[show aa=nx from funext fun ρ=>(h ρ).symm];exact s
theorem Y6 (P:Program)(nx:(Operand→Value)→Sem Next):Mk P F8 nx:=fun _ _=>trivial
theorem zdr {H H':Heap}{l:List AV}{o:Nat}(h:newObj H l=some (o,H')):True∧True∧o=H.next∧H'=H.push (.cells (Jw l 0 .e) l.length 0 false):=by
 unfold newObj at h;cases h;exact⟨trivial,trivial,rfl,rfl⟩
theorem zmi {l:List AV}(_:True):zq2 (.cells (Jw l 0 .e) l.length 0 false):=fun B C w o d=>fun L a=>by rw[d] at a;cases a
theorem Vp {P:Program}{C:CM}{w:World}{l:List AV}{cs:Array Value}{t:TypeId}(_hl:True)(hv:VRs C l cs.toList)(p:∀a∈l,a.one=true){nx:Sem Next}{v:AV}{x:Value}
  (g:nx.run P w=.ok (.value x) (w.alloc (.cells cs t))) (q:∀(f:CM) (id:Nat),f id 0=some ⟨w.heap.size,0,l.length,cs.size⟩→VR f (Ix id v) x) :
  MkOk P C w nx v (.cells (Jw l 0 .e) l.length 0 false):=by
 have hlen:l.length=cs.toList.length:=hv.length;have h:l.length=cs.size:=by simpa using hlen
 refine⟨_,l.length,cs.size,x,g,fun f id hk m=>⟨q f id m,fun B r=>fun L d=>?_⟩⟩;rw[m] at d;cases d;refine⟨rfl,fun _=>r,by dsimp;omega,cs,t,0,0,T6 _ _,Am _,fun i _ _=>by omega,?_⟩;intro k j;rw[get_ofList l 0 .e k,Ag (by omega)];obtain⟨a,v,o,s,y⟩:=hv.get' (i:=k) j;refine⟨a,by simpa using o,p a (A7 o),v,?_,y.mono' hk⟩;simpa using s
theorem zne {P:Program}{H:Heap}{l:List AV}{E:Tr AV}{nx:(Operand→Value)→Sem Next}{t:TypeId}
  (d:∀C w ρ,zq0 C E ρ→∃cs:Array Value,VRs C l cs.toList∧(∀a∈l,a.one=true)∧(nx ρ).run P w=.ok (.value (.pointer (some ⟨w.heap.size,0,none⟩))) (w.alloc (.cells cs t))) :
  MkR P E H nx (Qg H l):=by
 unfold Qg;split
 ·rename_i o H' g;obtain⟨h,f,rfl,rfl⟩:=zdr g;refine⟨_,h,rfl,rfl,zmi f,fun C w ρ j=>?_⟩;obtain⟨cs,m,p,q⟩:=d C w ρ j;refine Vp f m p q (fun s id r=>?_);simpa [Ix] using VR.ptr (i:=0) r
 ·exact trivial
theorem V3 (P:Program)(t:TypeId):Mk P (Gi P (.alloc t)) (fun _=>do pure (.value (←Instr.alloc t true (.tuple #[])))):=by
 intro E H;show MkR P E H _ (OpF.run (match Kz P t with
  |some l=>⟨fun _ H=>Qg H l⟩
  |none=>F8) E H)
 cases a:Kz P t with
 |none=>exact trivial
 |some l =>
  refine zne (t:=t) (fun C w ρ j=>?_);obtain⟨v,i,d,f,m,o⟩:=z7c (w:=w) a;obtain⟨g,h⟩:=R0 (C:=C) f;exact⟨v.cells,g,h,by simp[Instr.alloc,d,newVar,newRow]⟩
theorem zod {P:Program}{x:Operand}{f:Heap→AV→OR}{nx:(Operand→Value)→Sem Next}(h:∀E H a,(Ft x).run E=some a→MkR P E H nx (f H a)):Mk P (Ij x f) nx:=by
 intro E H;show MkR P E H nx (Option.rec OR.no (fun a=>f H a) ((Ft x).run E));cases d:(Ft x).run E with
 |none=>exact trivial
 |some a=>exact h _ _ _ d
theorem zud {P:Program}{x y:Operand}{f:Heap→AV→AV→OR}{nx:(Operand→Value)→Sem Next}(h:∀E H a b,(Ft x).run E=some a→(Ft y).run E=some b→MkR P E H nx (f H a b)):Mk P (Mc x y f) nx:=by
 intro E H;show MkR P E H nx (Option.rec OR.no (fun a=>Option.rec OR.no (fun b=>f H a b) ((Ft y).run E)) ((Ft x).run E));cases d:(Ft x).run E with
 |none=>exact trivial
 |some a =>
  cases g:(Ft y).run E with
  |none=>exact trivial
  |some b=>exact h _ _ _ _ d g
theorem box_mk (P:Program)(t:TypeId)(x:Operand):Mk P (Gi P (.box t x)) (fun ρ=>do pure (.value (←Instr.box t (ρ x)))):=by
 refine zod fun E H a d=>?_
 cases f:a.cells with
 |none=>exact trivial
 |some l =>
  refine zne (t:=t) (fun C w ρ g=>?_);obtain⟨h,j⟩:=(g _ _ d).cells f;exact⟨_,h,j,by simp[Instr.box,newVar,newRow]⟩
theorem ztz {P:Program}{C:CM}{w:World}(t:TypeId){l:List AV}{o len esz:Nat}{cs:Array Value}(_hl:True)(hv:VRs C l cs.toList)(g:∀a∈l,a.one=true){cap:Nat}(p:cap*esz=l.length)(hle:len≤cap)
  {nx:Sem Next} (d:nx.run P w=.ok (.value (.slice (some ⟨w.heap.size,0,none⟩) len cap)) (w.alloc (.cells cs t))):MkOk P C w nx (.sl o 0 0 len esz (some cap)) (.cells (Jw l 0 .e) l.length 0 false):=by
 have hlen:l.length=cs.toList.length:=hv.length;have f:l.length=cs.size:=by simpa using hlen
 have hmul:len*esz≤cap*esz:=At _ hle;refine Vp _hl hv g d (fun q id j=>?_);have:=VR.sl (i:=0) (len:=len) (esz:=esz) (room:=some cap) (cap:=cap) j (by dsimp;omega) (by dsimp;omega) hle (fun r m=>by cases m;exact⟨rfl,by dsimp;omega⟩) (fun h=>by cases h);simpa [Ix] using this
theorem zli (P:Program)(t:TypeId)(len:Nat)(parts:Array (Nat×Operand)) :
  Mk P (z41 P t len parts) (fun ρ=>do pure (.value (←Instr.buildSlice t len (parts.map fun (i,x)=>(i,ρ x))))):=by
 unfold z41;split
 ·rename_i elem hu;split
  ·exact Y6 P _
  ·rename_i size h;split
   ·exact Y6 P _
   ·rename_i z G;split
    ·rename_i a;obtain⟨I,y⟩:=a;split
     ·exact Y6 P _
     ·rename_i V j;intro E H;dsimp only;split
      ·rename_i l J;split
       ·rename_i o H' K;obtain⟨L,A,rfl,rfl⟩:=zdr K;refine⟨_,L,rfl,rfl,zmi A,fun C w ρ M=>?_⟩;obtain⟨v,i,N,O,Q,W⟩:=z7c (w:=w) G;obtain⟨m,R⟩:=R0 (C:=C) O;have p:v.cells.size=size:=by
         have d:=m.length;unfold Hj at h;rw[Q] at h;simp at h d;omega
        have S:z.length=size:=by have d:=m.length;simp at d;omega
        have f:VRs C (Lp z len) ((Array.range (len*size)).map fun i=>v.cells[i%v.cells.size]!).toList:=by
         rw[←p,zce];exact z59 m len
        obtain⟨vs,B,D,T⟩:=z7d j M J f (z5a R len);have q:l.length=len*size:=by
         have d:=D.length;have U:=zj8 B;simp at U d;omega
        refine ztz elem A D T q.symm (Am _) ?_;have F:Instr.fill (fun i=>some (i*size,size)) ((Array.range (len*size)).map fun i=>v.cells[i%v.cells.size]!) (parts.map fun (i,x)=>(i,ρ x)).toList=some vs:=by
         rw[Ci];exact B
        have g:¬(len*size>2^24):=by omega
        simp only[Instr.buildSlice,Sem.run_bind,Gp hu,Kw h,Result.andThen_ok,Sem.run_ite,Ac g];by_cases r:len*size=0
        ·rw[Ag r];have s:Instr.fill (fun i=>some (i*size,size)) ((Array.range (len*size)).map fun i=>(#[]:Array Value)[i%(#[]:Array Value).size]!) (parts.map fun (i,x)=>(i,ρ x)).toList=some vs:=by
          rw[←F,r,zg2,zg2]
         simp only[Sem.run_pure,Result.andThen_ok,s,newRow,Sem.run_bind,run_newObj];rfl
        ·rw[Ac r];simp only[Sem.run_bind,N,Sem.run_pure,Result.andThen_ok,F,newRow,run_newObj];rfl
       ·exact trivial
      ·exact trivial
    ·exact Y6 P _
 ·exact Y6 P _
theorem zum (P:Program)(t:TypeId)(l c:Operand):Mk P (z8y P t l c) (fun ρ=>do pure (.value (←Instr.makeSlice t (ρ l) (ρ c)))):=by
 unfold z8y;split
 ·rename_i elem hu;split
  ·exact Y6 P _
  ·rename_i i hi;split
   ·exact Y6 P _
   ·rename_i z N;split
    ·rename_i d;obtain⟨F,g⟩:=d;refine zud fun E H a b h m=>?_
     split
     ·rename_i x y;split
      ·rename_i p;split
       ·rename_i O;split
        ·rename_i o H' Q;obtain⟨R,G,rfl,rfl⟩:=zdr Q;refine⟨_,R,rfl,rfl,zmi G,fun C w ρ I=>?_⟩;have J:=I _ _ h;have K:=I _ _ m;have f:x≤y:=As p;have q:y≤1048576:=As O;obtain⟨v,j,S,T,L,U⟩:=z7c (w:=w) N;obtain⟨M,V⟩:=R0 (C:=C) T;rw[hi] at L;cases L;have r:v.cells.size=i.size:=by have s:=M.length;simp at s;omega
         generalize A:ρ l=pl at J;generalize B:ρ c=pc at K;cases J;cases K;refine ztz elem G (cs:=(Array.range (y*i.size)).map fun k=>v.cells[k%v.cells.size]!) (by rw[←r,zce];exact z59 M y) (z5a V y) (by rw[z6z,U]) f ?_;have s:IntKind.i64.wrap (Int.ofNat x)=Int.ofNat x:=by simp only[IntKind.wrap,IntKind.bits,IntKind.signed];simp;omega
         have W:IntKind.i64.wrap (Int.ofNat y)=Int.ofNat y:=by simp only[IntKind.wrap,IntKind.bits,IntKind.signed];simp;omega
         have e3:i.bytes*y≤65536*1048576:=Ca g q;have X:¬((decide (Int.ofNat y<0) || decide ((i.bytes:Int)*Int.ofNat y>2^48) || decide (Int.ofNat x<0) || decide (Int.ofNat x>Int.ofNat y))=true):=by
          have Y:((i.bytes:Int)*Int.ofNat y)=((i.bytes*y:Nat):Int):=by simp
          rw[Y];simp only[Bn,Ak,not_or];refine⟨⟨⟨by simp,by simp;omega⟩,by simp⟩,by simp;omega⟩
         simp only[Instr.makeSlice,A,B,Sem.run_bind,Gp hu,Za hi,asInt,asIntOf,Sem.run_pure,Result.andThen_ok,s,W,Sem.run_ite,Ac X,run_askRoom,Kw (show Hj P elem=some i.size from by simp[Hj,hi])];have Z:(Int.ofNat y).toNat=y:=rfl;have e7:(Int.ofNat x).toNat=x:=rfl;rw[Z,e7];by_cases D:y*i.size=0
         ·rw[Ag D];simp only[Sem.run_pure,Result.andThen_ok,newRow,Sem.run_bind,run_newObj];have:((Array.range (y*i.size)).map fun k=>(#[]:Array Value)[k%(#[]:Array Value).size]!)=((Array.range (y*i.size)).map fun k=>v.cells[k%v.cells.size]!):=by rw[D,zg2,zg2]
          rw[this];rfl
         ·rw[Ac D];simp only[Sem.run_bind,S,Sem.run_pure,Result.andThen_ok,newRow,run_newObj];rfl
        ·exact trivial
       ·exact trivial
      ·exact trivial
     ·exact trivial
    ·exact Y6 P _
 ·exact Y6 P _
theorem zku {P:Program}{H:Heap}{E:Tr AV}{nx:(Operand→Value)→Sem Next}
  (f:∀(C:CM) w ρ,zq0 C E ρ→(nx ρ).run P w=.ok (.value (.map (some w.heap.size))) (w.alloc (.map #[] 0))):MkR P E H nx (R1 H):=by
 unfold R1;refine⟨_,trivial,rfl,rfl,fun B C w o g L a=>(by rw[g] at a;cases a),fun C w ρ h=>?_⟩;refine⟨_,0,0,_,f C w ρ h,fun l id hk a=>⟨.map a,fun B j L d=>?_⟩⟩;rw[a] at d;cases d;exact⟨j,#[],T6 _ _,.nil⟩
theorem X1 (P:Program)(t:TypeId)(r:Option Operand):Mk P (zg1 P t r) (fun ρ=>do pure (.value (←Instr.makeMap t (r.map ρ)))):=by
 unfold zg1;split
 ·intro E H;exact zku (fun C w ρ d=>by simp[Instr.makeMap])
 ·rename_i x;split
  ·rename_i k e hu;refine zod fun E H a f=>?_
   split
   ·refine zku (fun C w ρ d=>?_);have:=d _ _ f;generalize g:ρ x=h at this;cases this;simp[Instr.makeMap,Gp hu,g,asInt,asIntOf]
   ·exact trivial
  ·exact Y6 P _
theorem zu0 {P:Program}{o:Oper}(h:cls P o.op=.al):Mk P (Gi P o.op) (fun ρ=>execOp ρ o):=by
 generalize ho:o.op=op at h;cases op with
 |alloc t=>exact Mk.congr (fun ρ=>by simp only[execOp,ho]) (V3 P t)
 |box t x=>exact Mk.congr (fun ρ=>by simp[execOp,ho]) (box_mk P t x)
 |buildSlice t n a=>exact Mk.congr (fun ρ=>by simp[execOp,ho]) (zli P t n a)
 |makeMap t r=>exact Mk.congr (fun ρ=>by simp[execOp,ho]) (X1 P t r)
 |makeSlice t l c=>exact Mk.congr (fun ρ=>by simp[execOp,ho]) (zum P t l c)
 |slice t _ _ _ _=>simp only[cls] at h;split at h<;>cases h
 |convert s d x=>simp only[cls] at h;split at h<;>first |(cases h;done)|(split at h<;>cases h)
 |call c =>
  simp only[cls,zf7] at h;split at h
  ·split at h
   ·split at h<;>cases h
   ·cases h
  all_goals cases h
 |_=>cases h
def CM.lift (C:CM)(n:Nat):CM:=⟨C.f,n⟩
theorem CM.le_lift {C:CM}{n:Nat}(h:C.nx≤n):C.le (C.lift n):=⟨fun _ _ _ h=>h,h,fun _ v L h=>.inl ⟨v,L,h⟩⟩
inductive Ups:Heap→Heap→Prop where
 |refl (H:Heap):Ups H H
 |push {H H':Heap} {ob:AObj} (hl:True) (hf:zq2 ob) (h:Ups (H.push ob) H'):Ups H H'
theorem Ups.next {H H':Heap}(h:Ups H H'):H.next≤H'.next:=by
 induction h with
 |refl=>exact Am _
 |push _ _ _ ih=>exact Br (Eg _) ih
theorem Rel.up {w0:World}{C:CM}{H:Heap}{w:World}(h:Rel w0 C H w)(_:True){ob:AObj}(hf:zq2 ob):Rel w0 (C.lift (H.next+1)) (H.push ob) w:=by
 have hle:C.le (C.lift (H.next+1)):=CM.le_lift (by rw[h.nx];exact Eg _);refine⟨rfl,h.low,fun o v L hL=>?_,h.lt,h.excl,?_,?_⟩
 ·show o<H.next+1;have:=h.fresh o v L hL;omega
 ·intro o ob' ho hg;by_cases e:o=H.next
  ·subst e;rw[Heap.get_push_same] at hg;cases hg;exact hf _ _ _ _ (fun v=>h.next_none v)
  ·have aa:o<H.next:=by have:o<H.next+1:=ho;omega
   rw[Heap.get_push_ne _ _ aa] at hg;exact (h.obj _ _ aa hg).frame hle (fun v L hL=>hL) (fun v L hL=>rfl)
 ·intro o c len ad ro ho hg v L hL;by_cases e:o=H.next
  ·subst e;have:=h.fresh _ _ _ hL;omega
  ·have aa:o<H.next:=by have:o<H.next+1:=ho;omega
   rw[Heap.get_push_ne _ _ aa] at hg;exact h.top _ _ _ _ _ aa hg _ _ hL
theorem Rel.ups {w0:World}{H H':Heap}{w:World}(hu:Ups H H'):∀{C:CM},Rel w0 C H w→Rel w0 (C.lift H'.next) H' w:=by
 induction hu with
 |refl H=>intro C h;rw[←h.nx];exact h
 |push hl hf _ ih =>
  intro C h;have h1:=h.up hl hf;have h2:=ih h1;exact h2
theorem zoj {c c':Tr AV}{len:Nat}(h:zrz c c' len=true):∀j,j<len→E3 (Fl j) c=E3 (Fl j) c':=by
 unfold zrz at h;split at h
 ·rename_i l l' o p;obtain⟨z,q⟩:=Yp o;obtain⟨A,r⟩:=Yp p;have he:l=l':=by
   have:∀(x y:List AV),S5 (Js 30) x y=true→x=y:=by
    intro x
    induction x with
    |nil=>intro y a;cases y with
     |nil=>rfl
     |cons _ _=>cases a
    |cons c x s =>
     intro y a;cases y with
     |nil=>cases a
     |cons d y =>
      simp only[S5] at a;split at a
      ·rename_i w;rw[eqAV_spec 30 c d w,s y a]
      ·cases a
   exact this _ _ h
  intro j f;have g:=q j f;have m:=r j f;rw[Be] at g m;rw[g,m,he]
 ·cases h
theorem Ig.eqObj {B:Nat}{C:CM}{w:World}{o:Nat}{a b:AObj}(h:Sv.eqObj a b=true)(k:Ig B C w o b):Ig B C w o a:=by
 unfold Sv.eqObj at h;split at h
 ·rename_i c len ag ro c' ad af aa;simp only[Ab] at h;obtain⟨⟨⟨h1,h2⟩,h3⟩,h4⟩:=h;obtain rfl:=An h1;obtain rfl:=An h2;obtain rfl:ro=aa:=by simpa using h3
  intro L hL;obtain⟨p1,p2,p3,vs,e,lo,hi,p4,p5,p6,p7⟩:=k L hL;exact⟨p1,p2,p3,vs,e,lo,hi,p4,p5,p6,fun i hi=>by rw[zoj h4 i hi];exact p7 i hi⟩
 ·obtain rfl:=An h;exact k
 ·cases h
theorem zks {α:Type}{b:Bool}{x y:α}(a:b=true→x=y)(h:Qv b x y=true):x=y:=by
 unfold Qv at h;split at h
 ·exact a rfl
 ·exact @C8 _ (Classical.propDecidable _) h
theorem Xb {α:Type}{b:Bool}{x y:α}(h:Qv b x y=true):b=true∨x=y:=by
 unfold Qv at h;split at h
 ·exact .inl rfl
 ·exact .inr (@C8 _ (Classical.propDecidable _) h)
theorem Ig.same {B:Nat}{C:CM}{w:World}{o:Nat}{a b:AObj}(h:Qv (Sv.eqObj a b) a b=true)(k:Ig B C w o b):Ig B C w o a:=by
 rcases Xb h with h | h
 ·exact k.eqObj h
 ·rw[h];exact k
theorem Rel.bind {w0:World}{C:CM}{H:Heap}{w:World}(h:Rel w0 C H w){id n sz:Nat}(aj:id<H.next)(hn:∀v,C id v=none){ob:AObj}(hg:H.get id=some ob)(af:Obj)
  (ah:Ig w0.heap.size (C.ext id 0 ⟨w.heap.size,0,n,sz⟩) (w.alloc af) id ob):Rel w0 (C.ext id 0 ⟨w.heap.size,0,n,sz⟩) H (w.alloc af)∧C.keep (C.ext id 0 ⟨w.heap.size,0,n,sz⟩):=by
 have hk:C.keep (C.ext id 0 ⟨w.heap.size,0,n,sz⟩):=fun o' v' L' h'=>by
  by_cases e:o'=id∧v'=0
  ·obtain⟨rfl,rfl⟩:=e;rw[hn] at h';cases h'
  ·rw[CM.ext_ne C _ e];exact h'
 refine⟨⟨by show max C.nx (id+1)=H.next;rw[h.nx];omega,h.low.alloc h.low.size af,?_,?_,?_,?_,?_⟩,hk⟩
 ·intro o v L hL;by_cases e:o=id∧v=0
  ·omega
  ·rw[CM.ext_ne _ _ e] at hL;exact h.fresh _ _ _ hL
 ·intro o v L hL;rw[World.size_alloc];by_cases e:o=id∧v=0
  ·obtain⟨rfl,rfl⟩:=e;rw[CM.ext_same] at hL;cases hL;exact B2 _
  ·rw[CM.ext_ne _ _ e] at hL;have:=h.lt _ _ _ hL;omega
 ·intro o v L o' v' L' hL aa hb hB;by_cases e:o=id∧v=0<;>by_cases e':o'=id∧v'=0
  ·omega
  ·obtain⟨rfl,rfl⟩:=e;rw[CM.ext_same] at hL;cases hL;rw[CM.ext_ne _ _ e'] at aa;have:=h.lt _ _ _ aa;dsimp at hb;omega
  ·obtain⟨rfl,rfl⟩:=e';rw[CM.ext_same] at aa;cases aa;rw[CM.ext_ne _ _ e] at hL;have:=h.lt _ _ _ hL;dsimp at hb;omega
  ·rw[CM.ext_ne _ _ e] at hL;rw[CM.ext_ne _ _ e'] at aa;exact h.excl _ _ _ _ _ _ hL aa hb hB
 ·intro o ob' ho ad;by_cases e:o=id
  ·subst e;rw[hg] at ad;cases ad;exact ah
  ·have ag:=h.obj _ _ ho ad;refine ag.frame' hk (fun v L hL=>?_) (fun v L hL=>z7q _ _ (h.lt _ _ _ hL))
   rwa [CM.ext_ne _ _ (by omega)] at hL
 ·intro o c len ao ro ho ad v L hL;by_cases e:o=id∧v=0
  ·omega
  ·rw[CM.ext_ne _ _ e] at hL;exact h.top _ _ _ _ _ ho ad _ _ hL
end Go.Sv
namespace Go.Sv
section zru
variable {P : Program} {n : Nat} {ops : Array Oper} {k : Jm} {L : List DOp} {E0 Ef : Tr AV}
def Pz (L:List DOp)(S:Nat→Prop)(t:Nat):Prop:=∃y∈L,S y.i∧y.o.dst=some t
open Classical in
noncomputable def Y3 (L:List DOp)(E0 Ef:Tr AV)(S:Nat→Prop)(t:Nat):Option AV:=if Pz L S t then E3 (Fl t) Ef else E3 (Fl t) E0
def Hh (m:Nat)(j:Nat):Prop:=m.testBit j=true
def Tt (L:List DOp)(E0 Ef:Tr AV)(S:Nat→Prop)(E:Tr AV):Prop:=∀t,t≤It→E3 (Fl t) E=Y3 L E0 Ef S t
def Pk (ops:Array Oper)(L:List DOp)(E0 Ef:Tr AV)(x:DOp)(E:Tr AV):Prop:=∀t∈Nc ops x.o,t≤It→E3 (Fl t) E=Y3 L E0 Ef (Hh x.m) t
def Kj (P:Program)(n:Nat)(ops:Array Oper)(k:Jm)(L:List DOp)(E0 Ef:Tr AV)(x:DOp)(H H':Heap):Prop :=
 ∀E,Pk ops L E0 Ef x E→∃v,(Ji P n ops x.o).run k E H=.ok (Hn x.o.dst v E) H'∧∀d,x.o.dst=some d→E3 (Fl d) Ef=some v∧d<n
def DC (L:List DOp)(S:Nat→Prop):Prop:=∀y∈L,S y.i→∀j,Hh y.m j→S j
structure Fit (P:Program) (ops:Array Oper) (L:List DOp):Prop where
 ok:LOk P ops L
 dst:∀x∈L,∀y∈L,∀d,x.o.dst=some d→y.o.dst=some d→x=y
 look:∀x∈L,∀y∈L,zt4 x y=true
theorem zqq {x y:DOp}(h:zt4 x y=true){d:Nat}(hd:y.o.dst=some d)(a:x.lm.testBit d=true) :
  (x.i=y.i∧Mr x=false)∨(x.i≠y.i∧(Hh x.m y.i∨(Hh y.m x.i∧Mr x=false))):=by
 unfold zt4 at h;rw[hd] at h;dsimp only at h;rw[a] at h;dsimp only at h;split at h
 ·rename_i e;exact .inl ⟨An e,by simpa using h⟩
 ·rename_i e;refine .inr ⟨fun q=>?_,?_⟩
  ·rw[q,Bj] at e;cases e
  ·split at h
   ·rename_i q;exact .inl q
   ·split at h
    ·rename_i q;exact .inr ⟨q,by simpa using h⟩
    ·cases h
theorem U5 (F:Fit P ops L){S:Nat→Prop}(m:DC L S){x:DOp}(l:x∈L)(hm:∀j,Hh x.m j→S j)(a:¬S x.i∨Mr x=true){E:Tr AV}(o:Tt L E0 Ef S E):Pk ops L E0 Ef x E:=by
 intro t p r;rw[o t r];unfold Y3;have:Pz L S t↔Pz L (Hh x.m) t:=by
  constructor
  ·rintro⟨y,d,g,hd⟩;refine⟨y,d,?_,hd⟩;rcases zqq (F.look x l y d) hd (F.ok.lm x l t p) with ⟨e,f⟩ | ⟨_,h | ⟨h,f⟩⟩
   ·rcases a with a | a
    ·rw[e] at a;exact absurd g a
    ·rw[a] at f;cases f
   ·exact h
   ·rcases a with a | a
    ·exact absurd (m y d g _ h) a
    ·rw[a] at f;cases f
  ·rintro⟨y,d,g,hd⟩;exact⟨y,d,hm _ g,hd⟩
 by_cases h:Pz L S t
 ·rw[Ag h,Ag (this.1 h)]
 ·rw[Ac h,Ac (fun q=>h (this.2 q))]
theorem Pk.same {x:DOp}{E E':Tr AV}(h:Pk ops L E0 Ef x E)(h':Pk ops L E0 Ef x E'):J7 (Nc ops x.o) E' E:=fun t ht hl=>by rw[h t ht hl,h' t ht hl]
theorem Yb (d:Tmp)(v:AV)(E:Tr AV):E3 (Fl d) (Hn (some d) v E)=some v:=zbo _ _ _
theorem zan {x:DOp}{E E1:Tr AV}{H H1:Heap}(h:(Ji P n ops x.o).run k E H=.ok E1 H1)(g:Pk ops L E0 Ef x E)
  (j:∀d,x.o.dst=some d→d<n→E3 (Fl d) Ef=E3 (Fl d) E1):Kj P n ops k L E0 Ef x H H1:=by
 obtain⟨v,l,f,m⟩:=z6s h;intro o a;refine⟨v,m o (g.same a),fun d hd=>⟨?_,f d hd⟩⟩;rw[j d hd (f d hd),l,hd,Yb]
theorem Tt.put (F:Fit P ops L)(_hn:n≤It){S:Nat→Prop}{E:Tr AV}(h:Tt L E0 Ef S E){x:DOp}(hx:x∈L){v:AV}(hv:∀d,x.o.dst=some d→E3 (Fl d) Ef=some v∧d<n) :
  Tt L E0 Ef (fun j=>S j∨j=x.i) (Hn x.o.dst v E):=by
 intro t ht;have key:Pz L (fun j=>S j∨j=x.i) t↔(Pz L S t∨x.o.dst=some t):=by
  constructor
  ·rintro⟨y,hy,hs | hs,hd⟩
   ·exact .inl ⟨y,hy,hs,hd⟩
   ·rw[F.ok.inj y hy x hx hs] at hd;exact .inr hd
  ·rintro (⟨y,hy,hs,hd⟩ | hd)
   ·exact⟨y,hy,.inl hs,hd⟩
   ·exact⟨x,hx,.inr rfl,hd⟩
 unfold Y3;cases hd:x.o.dst with
 |none =>
  rw[hd] at key;have:Pz L (fun j=>S j∨j=x.i) t↔Pz L S t:=by rw[key];simp
  rw[show Hn none v E=E from rfl,h t ht];unfold Y3;by_cases q:Pz L S t
  ·rw[Ag q,Ag (this.2 q)]
  ·rw[Ac q,Ac (fun z=>q (this.1 z))]
 |some d =>
  rw[hd] at key;obtain⟨aa,ad⟩:=hv d hd;rw[show Hn (some d) v E=Hd v (Fl d) E from rfl,zhg];by_cases e:t=d
  ·subst e;rw[Ag rfl,Ag (key.2 (.inr rfl)),aa]
  ·rw[Ac e,h t ht];unfold Y3;have:Pz L (fun j=>S j∨j=x.i) t↔Pz L S t:=by
    rw[key];constructor
    ·rintro (q | q)
     ·exact q
     ·exact absurd (Option.some.inj q).symm e
    ·exact .inl
   by_cases q:Pz L S t
   ·rw[Ag q,Ag (this.2 q)]
   ·rw[Ac q,Ac (fun z=>q (this.1 z))]
theorem ze3 {r:OE}{f:Tr AV→Heap→OE}{a:Tr AV}{H':Heap}(h:(OE.rec .no f r:OE)=.ok a H'):∃E1 H1,r=.ok E1 H1∧f E1 H1=.ok a H':=by
 cases r with
 |no=>cases h
 |ok E1 H1=>exact⟨E1,H1,rfl,h⟩
theorem za9 {b:Bool}{r:OE}{a:Tr AV}{H':Heap}(h:(Bool.rec .no r b:OE)=.ok a H'):b=true∧r=.ok a H':=by
 cases b with
 |false=>cases h
 |true=>exact⟨rfl,h⟩
theorem zjd {x:DOp}{l pend:List DOp}{E j:Tr AV}{H H':Heap}(h:(Np P n ops (x::l) pend).run k E H=.ok j H') :
  ∃E1 H1 pend',(Ji P n ops x.o).run k E H=.ok E1 H1∧(Np P n ops l pend').run k E1 H1=.ok j H' ∧
   ((x.c=.quiet∧pend'=pend)∨(x.c=.rd∧pend'=x::pend)∨(x.c=.al∧pend'=x::pend∧(Z8 P ops (x::pend)).run E1 H1=true) ∨
    (x.c=.ch∧pend'=Ga (fun y=>!(Nat.testBit x.m y.i)) pend∧(Z8 P ops pend').run E1 H1=true)):=by
 simp only[Np] at h;split at h
 ·rename_i d;obtain⟨E1,H1,f,a⟩:=ze3 h;exact⟨E1,H1,pend,f,a,.inl ⟨d,rfl⟩⟩
 ·rename_i d;obtain⟨E1,H1,f,a⟩:=ze3 h;exact⟨E1,H1,x::pend,f,a,.inr (.inl ⟨d,rfl⟩)⟩
 ·rename_i d;obtain⟨E1,H1,f,a⟩:=ze3 h;obtain⟨g,a⟩:=za9 a;exact⟨E1,H1,x::pend,f,a,.inr (.inr (.inl ⟨d,rfl,g⟩))⟩
 ·rename_i d;obtain⟨E1,H1,f,a⟩:=ze3 h;obtain⟨g,a⟩:=za9 a;exact⟨E1,H1,_,f,a,.inr (.inr (.inr ⟨d,rfl,g⟩))⟩
theorem zfy (g:n≤It){d:Nat}(hd:d≤It):∀{l pend:List DOp} {E a:Tr AV} {H H':Heap},(Np P n ops l pend).run k E H=.ok a H'→(∀y∈l,y.o.dst≠some d)→E3 (Fl d) a=E3 (Fl d) E
 |[],_,_,_,_,_,h,_=>by cases h;rfl
 |x::l,pend,E,a,H,H',h,f=>by
  obtain⟨E1,H1,pend',j,m,_⟩:=zjd h;rw[zfy g hd m (fun y q=>f y (by simp[q]))];obtain⟨v,o,r,_⟩:=z6s j;rw[o];cases p:x.o.dst with
  |none=>rfl
  |some e =>
   rw[show Hn (some e) v E=Hd v (Fl e) E from rfl,z66];intro q;subst q;exact f x (by simp) p
theorem rechecks_mem:∀{l:List DOp} {E:Tr AV} {H:Heap},(Z8 P ops l).run E H=true→∀x∈l,(S1 P ops x).run E H=true
 |[],_,_,_,x,a=>by cases a
 |y::l,E,H,h,x,a=>by
  simp only[Z8] at h;split at h
  ·rename_i d;rcases Ao.1 a with rfl | a
   ·exact d
   ·exact rechecks_mem h x a
  ·cases h
theorem zp2 (F:Fit P ops L){x:DOp}(w:x∈L)(p:x.c=.rd){E:Tr AV}{H H1:Heap}(q:Pk ops L E0 Ef x E)(y:Kj P n ops k L E0 Ef x H H)(z:∀d,x.o.dst=some d→E3 (Fl d) Ef=E3 (Fl d) E)
  (h:(S1 P ops x).run E H1=true):Kj P n ops k L E0 Ef x H1 H1:=by
 have m:Q4 (Gi P x.o.op):=zcu.2 (by rw[←F.ok.cl x w];exact p);obtain⟨v,f,A⟩:=y E q;unfold S1 at h;cases hd:x.o.dst with
 |none=>rw[hd] at h;cases h
 |some d =>
  rw[hd] at h f;dsimp only at h;obtain⟨hv,o⟩:=A d hd;have B:Jc n (some d)=some ⟨fun a E=>Hd a (Fl d) E⟩:=by unfold Jc;dsimp only;rw[Ag o]
  have g:(Ji P n ops x.o).run k E H1=.ok (Hn (some d) v E) H1:=by
   unfold Ji at f ⊢;rw[hd,B] at f ⊢;dsimp only at f ⊢;cases r:(Kt ops x.o).run E with
   |false =>
    rw[r] at f;dsimp only at f ⊢;injection f with f
    rw[f]
   |true =>
    rw[r] at h f;dsimp only at h f ⊢;rw[←z d hd,hv] at h;dsimp only at h;have s:=m E H1;cases l:(Gi P x.o.op).run E H1 with
    |no=>rw[l] at h;cases h
    |call t args=>rw[l] at h;cases h
    |val C D =>
     rw[l,p] at h;rw[l] at s;dsimp only at h ⊢;cases s;rw[zks (eqAV_spec _ _ _) h];rfl
  refine zan g q (fun G j _=>?_);rw[hd] at j;cases j;rw[Yb,hv]
def Jp (P:Program)(n:Nat)(ops:Array Oper)(k:Jm)(L:List DOp)(E0 Ef:Tr AV)(x:DOp):Prop:=∀a,Kj P n ops k L E0 Ef x a a
noncomputable def I5 (Ef:Tr AV)(x:DOp):Nat:=((x.o.dst.bind fun d=>E3 (Fl d) Ef).bind F9).getD 0
def Xs (P:Program)(n:Nat)(ops:Array Oper)(L:List DOp)(E0 Ef:Tr AV)(x:DOp)(f:Heap):Prop :=
 ∃d g,x.o.dst=some d∧d<n∧E3 (Fl d) Ef=some g∧F9 g=some (I5 Ef x)∧∀E,Pk ops L E0 Ef x E→(Kt ops x.o).run E=true ∧
  ∃h H',(Gi P x.o.op).run E f=.val h H'∧g=Ix (I5 Ef x) h∧∃a b,f.get (I5 Ef x)=some a∧H'.get f.next=some b∧Qv (eqObj a b) a b=true
theorem z8x {x:DOp}{E a:Tr AV}{H:Heap}(d:J7 (Nc ops x.o) a E):(Gi P x.o.op).run a H=(Gi P x.o.op).run E H :=
 zje (J7.opds (fun t f=>d t (by simp[Nc,f])))
theorem zyg {x:DOp}(p:x.c=.al){E:Tr AV}{H1:Heap}(w:Pk ops L E0 Ef x E)(y:(Kt ops x.o).run E=true){d:Nat}(hd:x.o.dst=some d)(q:d<n){j:AV}(hv:E3 (Fl d) Ef=some j)
  (A:E3 (Fl d) E=some j) (h:(S1 P ops x).run E H1=true):Xs P n ops L E0 Ef x H1:=by
 unfold S1 at h;rw[hd] at h;dsimp only at h;rw[y,A] at h;dsimp only at h;cases m:(Gi P x.o.op).run E H1 with
 |no=>rw[m] at h;cases h
 |call t args=>rw[m] at h;cases h
 |val r z =>
  rw[m,p] at h;dsimp only at h;unfold zzb at h;cases g:F9 j with
  |none=>rw[g] at h;cases h
  |some id =>
   rw[g] at h;dsimp only at h;have f:I5 Ef x=id:=by unfold I5;rw[hd];simp[hv,g]
   cases he:Qv (Js 30 j (Ix id r)) j (Ix id r) with
   |false=>rw[he] at h;cases h
   |true =>
    rw[he] at h;dsimp only at h;cases o:H1.get id with
    |none=>rw[o] at h;cases h
    |some a =>
     cases s:z.get H1.next with
     |none=>rw[o,s] at h;cases h
     |some b =>
      rw[o,s] at h;refine⟨d,j,hd,q,hv,by rw[f,g],fun B l=>⟨by rw[z44 (w.same l)];exact y,r,z,by rw[z8x (w.same l)];exact m,by rw[f];exact zks (eqAV_spec _ _ _) he,a,b,by rw[f];exact o,s,h⟩⟩
theorem U7 (F:Fit P ops L){x:DOp}(B:x∈L)(g:x.c=.al){E E1:Tr AV}{H H1:Heap}(h:(Ji P n ops x.o).run k E H=.ok E1 H1)(z:Pk ops L E0 Ef x E)(j:Pk ops L E0 Ef x E1)
  (A:∀d,x.o.dst=some d→d<n→E3 (Fl d) Ef=E3 (Fl d) E1) (a:(S1 P ops x).run E1 H1=true) :
  (Jp P n ops k L E0 Ef x∧H1=H)∨(∃ob,True∧H1=H.push ob∧zq2 ob∧I5 Ef x=H.next∧Xs P n ops L E0 Ef x H1):=by
 have f:=zu0 (P:=P) (o:=x.o) (by rw[←F.ok.cl x B];exact g) E H;have I:=h;unfold Ji at h;cases r:Jc n x.o.dst with
 |none=>rw[r] at h;cases h
 |some p =>
  rw[r] at h;dsimp only at h;obtain⟨l,w⟩:=zbm r;cases s:(Kt ops x.o).run E with
  |false =>
   rw[s] at h;cases h;refine .inl ⟨fun C=>?_,rfl⟩;refine zan (E1:=p.run J4 E) ?_ z A;unfold Ji;rw[r];dsimp only;rw[s]
  |true =>
   rw[s] at h;dsimp only at h;cases y:(Gi P x.o.op).run E H with
   |no=>rw[y] at h;cases h
   |call t args=>rw[y] at f;exact f.elim
   |val v C =>
    rw[y] at h f;cases h;obtain⟨ob,m1,rfl,D,G,_⟩:=f;cases hd:x.o.dst with
    |none =>
     unfold S1 at a;rw[hd] at a;cases a
    |some d =>
     have m:=w d hd;have q:E3 (Fl d) (p.run v E)=some v:=by rw[l,hd,Yb]
     have hv:E3 (Fl d) Ef=some v:=by rw[A d hd m,q]
     refine .inr ⟨ob,m1,rfl,G,?_,zyg g j (by rw[z44 (z.same j)];exact s) hd m hv q a⟩;unfold I5;rw[hd];simp[hv,D]
def znu (P:Program)(n:Nat)(ops:Array Oper)(k:Jm)(L:List DOp)(E0 Ef:Tr AV)(x:DOp)(H:Heap):Prop :=
 (x.c=.rd∧Kj P n ops k L E0 Ef x H H)∨(x.c=.al∧(Jp P n ops k L E0 Ef x∨Xs P n ops L E0 Ef x H))
theorem zn9 (F:Fit P ops L){x:DOp}(o:x∈L){E:Tr AV}{H H1:Heap}(g:Pk ops L E0 Ef x E)(a:znu P n ops k L E0 Ef x H)(j:∀d,x.o.dst=some d→E3 (Fl d) Ef=E3 (Fl d) E)
  (h:(S1 P ops x).run E H1=true):znu P n ops k L E0 Ef x H1:=by
 rcases a with ⟨f,a⟩ | ⟨f,a | a⟩
 ·exact .inl ⟨f,zp2 F o f g a j h⟩
 ·exact .inr ⟨f,.inl a⟩
 ·obtain⟨d,r,l,p,m,_,q⟩:=a;exact .inr ⟨f,.inr (zyg f g (q E g).1 l p m (by rw[←j d l];exact m) h)⟩
def AlPh (P:Program)(n:Nat)(ops:Array Oper)(L:List DOp)(E0 Ef:Tr AV)(ch:List DOp)(d a:Nat→Heap)(x:DOp)(r:Nat):Prop :=
 r≤ch.length∧(∀q c,q<r→ch[q]?=some c→Hh x.m c.i)∧(d r).next≤I5 Ef x∧I5 Ef x<(a r).next ∧
  ∀p,r≤p→p≤ch.length→(∀q c,r≤q→q<p→ch[q]?=some c→¬Hh c.m x.i)→Xs P n ops L E0 Ef x (a p)
theorem zru (F:Fit P ops L)(hn:n≤It):∀(l pend:List DOp) (seen K s:Nat) (E:Tr AV) (H H':Heap),(Np P n ops l pend).run k E H=.ok Ef H'→Hu l seen K=some s→(∀x∈l,x∈L) →
  (∀x∈pend,x∈L∧Mr x=true∧Hh seen x.i∧(∀d,x.o.dst=some d→d<n)∧znu P n ops k L E0 Ef x H)→Tt L E0 Ef (Hh seen) E→DC L (Hh seen) →
  Tt L E0 Ef (Hh s) Ef∧DC L (Hh s) ∧
  ∃(Hb T:Nat→Heap) (U:Nat→Nat),Hb 0=H∧T (Ga Fe l).length=H'∧(∀p,p≤(Ga Fe l).length→Ups (Hb p) (T p)) ∧
   (∀q c,(Ga Fe l)[q]?=some c→Kj P n ops k L E0 Ef c (T q) (Hb (q+1))) ∧
   (∀x∈l,x.c=.rd→∃r,r≤(Ga Fe l).length∧(∀q c,q<r→(Ga Fe l)[q]?=some c→Hh x.m c.i)∧∀p,r≤p→p≤(Ga Fe l).length→(∀q c,r≤q→q<p→(Ga Fe l)[q]?=some c→¬Hh c.m x.i)→Kj P n ops k L E0 Ef x (T p) (T p)) ∧
   (∀x∈l,x.c=.quiet→∀H2,Kj P n ops k L E0 Ef x H2 H2) ∧
   (∀x∈l,x.c=.al→Jp P n ops k L E0 Ef x∨AlPh P n ops L E0 Ef (Ga Fe l) Hb T x (U x.i)) ∧
   (∀x∈l,∀y∈l,x.c=.al→y.c=.al→¬Jp P n ops k L E0 Ef x→¬Jp P n ops k L E0 Ef y→U x.i=U y.i→I5 Ef x=I5 Ef y→x=y) ∧
   (∀x∈pend,∀p,p≤(Ga Fe l).length→(∀q c,q<p→(Ga Fe l)[q]?=some c→¬Hh c.m x.i)→znu P n ops k L E0 Ef x (T p))
 |[],pend,seen,K,s,E,H,H',h,ht,hl,hp,hE,hD=>by
  cases h;simp only[Hu,Option.some.injEq] at ht;subst ht;refine⟨hE,hD,fun _=>H,fun _=>H,fun _=>0,rfl,rfl,fun _ _=>.refl _,fun q c O=>(by cases O),fun x J=>(by cases J),fun x J=>(by cases J),fun x J=>(by cases J),fun x J=>(by cases J),fun x J p _ _=>(hp x J).2.2.2.2⟩
 |x::l,pend,seen,K,s,E,H,H',h,ht,hl,hp,hE,hD=>by
  obtain⟨E1,H1,pend',h1,h2,h3⟩:=zjd h;obtain⟨t1,t2,t3⟩:=z9t ht;have J:x∈L:=hl x (by simp);have aD:Pk ops L E0 Ef x E:=U5 F hD J t1 (.inl (by unfold Hh;rw[t2];simp)) hE;have ax:∀y∈l,y.i≠x.i:=by
   have key:∀ay,Hu l (Nat.lor (2^x.i) seen) ay=some s→∀y∈l,y.i≠x.i:=fun ay h' y g e=>by
    have:=topo_new h' y g;rw[Tc,Z5,e] at this;simp at this
   rcases t3 with ⟨_,h3⟩ | ⟨_,_,h3⟩ | ⟨_,_,h3⟩<;>exact key _ h3
  obtain⟨v,s1,s2,s3⟩:=z6s h1;have W:∀d,x.o.dst=some d→d<n→E3 (Fl d) Ef=E3 (Fl d) E1:=fun d hd aJ =>
   zfy hn (Br (Ek aJ) hn) h2 (fun y g e=>ax y g (by rw[F.dst y (hl y (by simp[g])) x J d e hd]))
  have aa:Kj P n ops k L E0 Ef x H H1:=zan h1 aD W;have hS:(Hh (Nat.lor (2^x.i) seen))=fun j=>Hh seen j∨j=x.i:=by
   funext j
   unfold Hh;rw[Tc,Z5];simp only[Bn,Ak,eq_iff_iff];constructor
   ·rintro (e | e)
    ·exact .inr e.symm
    ·exact .inl e
   ·rintro (e | e)
    ·exact .inr e
    ·exact .inl e.symm
  have Y:Tt L E0 Ef (Hh (Nat.lor (2^x.i) seen)) E1:=by
   rw[hS,s1];refine hE.put F hn J (fun d hd=>⟨?_,s2 d hd⟩);rw[W d hd (s2 d hd),s1,hd,Yb]
  have Z:DC L (Hh (Nat.lor (2^x.i) seen)):=by
   rw[hS];rintro y g (hs | hs) j hj
   ·exact .inl (hD y g hs j hj)
   ·rw[F.ok.inj y g x J hs] at hj;exact .inl (t1 j hj)
  have ap:∀y∈l,y∈L:=fun y g=>hl y (by simp[g])
  have M:Hh (Nat.lor (2^x.i) seen) x.i:=by rw[hS];exact .inr rfl
  have w:∀j,Hh seen j→Hh (Nat.lor (2^x.i) seen) j:=fun j hj=>by rw[hS];exact .inl hj
  have N:∀y,y∈L→Mr y=true→Hh (Nat.lor (2^x.i) seen) y.i→Pk ops L E0 Ef y E1:=fun y a b c=>U5 F Z a (fun j hj=>Z y a c j hj) (.inr b) Y
  have az:∀y,y∈L→Hh (Nat.lor (2^x.i) seen) y.i→(∀d,y.o.dst=some d→d<n)→∀d,y.o.dst=some d→E3 (Fl d) Ef=E3 (Fl d) E1:=fun y a c hd e he=>by
   rw[Y e (Br (Ek (hd e he)) hn)];unfold Y3;rw[Ag ⟨y,a,c,he⟩]
  rcases h3 with ⟨m,rfl⟩ | ⟨m,rfl⟩ | ⟨m,rfl,aq⟩ | ⟨m,aF,aq⟩
  ·-- quiet
   have R:Hu l (Nat.lor (2^x.i) seen) K=some s:=by
    rcases t3 with ⟨_,t3⟩ | ⟨e,_⟩ | ⟨e,_⟩
    ·exact t3
    ·rw[m] at e;rcases e with e | e<;>cases e
    ·rw[m] at e;cases e
   have O:Ll (Gi P x.o.op):=zcu.1 (by rw[←F.ok.cl x J];exact m);have hH:H1=H:=z70 O.reads h1;subst hH;have hf:Ga Fe (x::l)=Ga Fe l:=by simp only[Ga];unfold Fe;rw[m]
   obtain⟨r0,V,Hb,T,U,r1,r2,ru,r3,r4,r5,ra,ri,r6⟩:=zru F hn l pend' _ K s E1 H1 H' h2 R ap (fun y g=>let ⟨a,b,c,d⟩:=hp y g;⟨a,b,w _ c,d⟩) Y Z;rw[hf];refine⟨r0,V,Hb,T,U,r1,r2,ru,r3,fun y g f=>?_,fun y g f H2=>?_,fun y g f=>?_,fun y g z X f G=>?_,r6⟩
   ·rcases Ao.1 g with rfl | g
    ·rw[m] at f;cases f
    ·exact r4 y g f
   ·rcases Ao.1 g with rfl | g
    ·exact zan (zjo O h1 H2) aD W
    ·exact r5 y g f H2
   ·rcases Ao.1 g with rfl | g
    ·rw[m] at f;cases f
    ·exact ra y g f
   ·rcases Ao.1 g with rfl | g
    ·rw[m] at f;cases f
    ·rcases Ao.1 X with rfl | X
     ·rw[m] at G;cases G
     ·exact ri y g z X f G
  ·-- a read
   have R:Hu l (Nat.lor (2^x.i) seen) K=some s:=by
    rcases t3 with ⟨e,_⟩ | ⟨_,_,t3⟩ | ⟨e,_⟩
    ·rw[m] at e;cases e
    ·exact t3
    ·rw[m] at e;cases e
   have O:Q4 (Gi P x.o.op):=zcu.2 (by rw[←F.ok.cl x J];exact m);have hH:H1=H:=z70 O h1;subst hH;have hf:Ga Fe (x::l)=Ga Fe l:=by simp only[Ga];unfold Fe;rw[m]
   obtain⟨r0,V,Hb,T,U,r1,r2,ru,r3,r4,r5,ra,ri,r6⟩:=zru F hn l (x::pend) _ K s E1 H1 H' h2 R ap (fun y g=>by
    rcases Ao.1 g with rfl | g
    ·exact⟨J,by unfold Mr;rw[m],M,s2,.inl ⟨m,aa⟩⟩
    ·obtain⟨a,b,c,d⟩:=hp y g;exact⟨a,b,w _ c,d⟩) Y Z
   rw[hf];refine⟨r0,V,Hb,T,U,r1,r2,ru,r3,fun y g f=>?_,fun y g f H2=>?_,fun y g f=>?_,fun y g z X f G=>?_,fun y g=>r6 y (by simp[g])⟩
   ·rcases Ao.1 g with rfl | g
    ·refine⟨0,Dd _,fun q c O=>absurd O (Ei q),fun p _ C I=>?_⟩;rcases r6 y (by simp) p C (fun q c O=>I q c (Dd q) O) with ⟨_,h⟩ | ⟨h,_⟩
     ·exact h
     ·rw[m] at h;cases h
    ·exact r4 y g f
   ·rcases Ao.1 g with rfl | g
    ·rw[m] at f;cases f
    ·exact r5 y g f H2
   ·rcases Ao.1 g with rfl | g
    ·rw[m] at f;cases f
    ·exact ra y g f
   ·rcases Ao.1 g with rfl | g
    ·rw[m] at f;cases f
    ·rcases Ao.1 X with rfl | X
     ·rw[m] at G;cases G
     ·exact ri y g z X f G
  ·-- an aI is made
   have R:Hu l (Nat.lor (2^x.i) seen) K=some s:=by
    rcases t3 with ⟨e,_⟩ | ⟨_,_,t3⟩ | ⟨e,_⟩
    ·rw[m] at e;cases e
    ·exact t3
    ·rw[m] at e;cases e
   have ad:Mr x=true:=by unfold Mr;rw[m]
   have hf:Ga Fe (x::l)=Ga Fe l:=by simp only[Ga];unfold Fe;rw[m]
   have af:=U7 F J m h1 aD (N x J ad M) W (rechecks_mem aq x (by simp));have aK:znu P n ops k L E0 Ef x H1:=by
    rcases af with ⟨h,_⟩ | ⟨_,_,_,_,_,h⟩
    ·exact .inr ⟨m,.inl h⟩
    ·exact .inr ⟨m,.inr h⟩
   obtain⟨r0,V,Hb,T,U,r1,r2,ru,r3,r4,r5,ra,ri,r6⟩:=zru F hn l (x::pend) _ K s E1 H1 H' h2 R ap (fun y g=>by
    rcases Ao.1 g with rfl | aL
    ·exact⟨J,ad,M,s2,aK⟩
    ·obtain⟨a,b,c,d,e⟩:=hp y aL;exact⟨a,b,w _ c,d,zn9 F a (N y a b (w _ c)) e (az y a (w _ c) d) (rechecks_mem aq y g)⟩) Y Z
   rw[hf];have aA:Ups H H1:=by
    rcases af with ⟨_,rfl⟩ | ⟨ob,q1,rfl,q3,_⟩
    ·exact .refl _
    ·exact .push q1 q3 (.refl _)
   have ar:Ups H1 (T 0):=by rw[←r1];exact ru 0 (Dd _)
   have aM:∀{A B D:Heap},Ups A B→Ups B D→Ups A D:=fun {A B D} h1=>by
    induction h1 with
    |refl=>exact id
    |push a b _ ih=>exact fun h=>.push a b (ih h)
   have S:∀y∈l,(if y.i=x.i then 0 else U y.i)=U y.i:=fun y g=>Ac (ax y g)
   refine⟨r0,V,fun p=>match p with
    |0=>H
    |p+1=>Hb (p+1),T,fun i=>if i=x.i then 0 else U i,rfl,r2,fun p C=>?_,r3,fun y g f=>?_,fun y g f H2=>?_,fun y g f=>?_,fun y g z X f G ag ah Q aj=>?_,fun y g p C I=>?_⟩
   ·cases p with
    |zero=>exact aM aA ar
    |succ p=>exact ru (p+1) C
   ·rcases Ao.1 g with rfl | g
    ·rw[m] at f;cases f
    ·exact r4 y g f
   ·rcases Ao.1 g with rfl | g
    ·rw[m] at f;cases f
    ·exact r5 y g f H2
   ·rcases Ao.1 g with rfl | g
    ·rcases af with ⟨h,_⟩ | ⟨ob,q1,q2,q3,q4,q5⟩
     ·exact .inl h
     ·refine .inr ?_;dsimp only;rw[Ag rfl];refine⟨Dd _,fun q c O=>absurd O (Ei q),Di q4.symm,?_,fun p _ C I=>?_⟩
      ·have:=ar.next;rw[q2] at this;rw[q4];exact Bh (B2 _) this
      ·rcases r6 y (by simp) p C (fun q c O=>I q c (Dd q) O) with ⟨h,_⟩ | ⟨_,h | h⟩
       ·rw[m] at h;cases h
       ·obtain⟨d,v0,g1,g2,g3,g4,g5⟩:=q5;exfalso;obtain⟨w1,w2,_⟩:=h H1 E1 (N y J ad M);obtain⟨g6,_⟩:=g5 E1 (N y J ad M);have aG:=zu0 (P:=P) (o:=y.o) (by rw[←F.ok.cl y J];exact m) E1 H1;obtain⟨_,v',aQ,g7,_⟩:=g5 E1 (N y J ad M);rw[g7] at aG;obtain⟨ob',m1,m2,_⟩:=aG;unfold Ji at w2;have C:Jc n y.o.dst=some ⟨fun a E=>Hd a (Fl d) E⟩:=by rw[g1];unfold Jc;dsimp only;rw[Ag g2]
        rw[C] at w2;dsimp only at w2;rw[g6,g7] at w2;dsimp only at w2;injection w2 with _ w2
        rw[m2] at w2;have:=congrArg Heap.next w2;simp[Heap.push] at this
       ·exact h
    ·dsimp only;rw[S y g];refine (ra y g f).imp id fun ⟨a1,a2,a3,a4,a5⟩=>⟨a1,a2,?_,a4,a5⟩
     generalize U y.i=r at a3;cases r with
     |zero =>
      rw[r1] at a3;exact Br aA.next a3
     |succ r=>exact a3
   ·dsimp only at Q;have aB:∀u∈l,u.c=.al→¬Jp P n ops k L E0 Ef u→U u.i=0→∀ob,H1=H.push ob→I5 Ef u=H.next→False:=fun u hu aN aO ar ob he aH=>by
     rcases ra u hu aN with h | ⟨_,_,a3,_⟩
     ·exact aO h
     ·rw[ar,r1,he,aH] at a3;exact absurd a3 (Nat.not_succ_le_self _)
    rcases Ao.1 g with ey | aw
    ·rcases Ao.1 X with ez | ao
     ·rw[ey,ez]
     ·subst ey;rw[Ag rfl,S z ao] at Q;rcases af with ⟨h,_⟩ | ⟨ob,q1,q2,q3,q4,q5⟩
      ·exact absurd h ag
      ·exact (aB z ao G ah Q.symm ob q2 (by rw[←aj,q4])).elim
    ·rcases Ao.1 X with ez | ao
     ·subst ez;rw[Ag rfl,S y aw] at Q;rcases af with ⟨h,_⟩ | ⟨ob,q1,q2,q3,q4,q5⟩
      ·exact absurd h ah
      ·exact (aB y aw f ag Q ob q2 (by rw[aj,q4])).elim
     ·rw[S y aw,S z ao] at Q;exact ri y aw z ao f G ag ah Q aj
   ·exact r6 y (by simp[g]) p C I
  ·-- aR chain
   obtain⟨tc,R⟩:(∀j,K.testBit j=true→x.m.testBit j=true)∧Hu l (Nat.lor (2^x.i) seen) (Nat.lor (2^x.i) K)=some s:=by
    rcases t3 with ⟨e,_⟩ | ⟨e,_⟩ | ⟨_,t3⟩
    ·rw[m] at e;cases e
    ·rw[m] at e;rcases e with e | e<;>cases e
    ·exact t3
   have hf:Ga Fe (x::l)=x::Ga Fe l:=by simp only[Ga];unfold Fe;rw[m]
   have aP:∀y∈pend',y∈pend∧¬Hh x.m y.i:=fun y g=>by
    rw[aF] at g;obtain⟨a,b⟩:=S7.1 g;exact⟨a,by unfold Hh;simpa using b⟩
   obtain⟨r0,V,Hb,T,U,r1,r2,ru,r3,r4,r5,ra,ri,r6⟩:=zru F hn l pend' _ _ s E1 H1 H' h2 R ap (fun y g=>by
    obtain⟨a,b,c,d,e⟩:=hp y (aP y g).1;exact⟨a,b,w _ c,d,zn9 F a (N y a b (w _ c)) e (az y a (w _ c) d) (rechecks_mem aq y g)⟩) Y Z
   rw[hf];have aC:∀y∈l,y.c≠.quiet→∀r,(∀q c,q<r→(Ga Fe l)[q]?=some c→Hh y.m c.i)→∀q c,q<r+1→(x::Ga Fe l)[q]?=some c→Hh y.m c.i:=fun y g f r u1 q c O aE=>by
    cases q with
    |zero =>
     simp only[A6,Option.some.injEq] at aE;subst aE;refine topo_chs R y g f _ ?_;rw[Tc,Z5];simp
    |succ q=>exact u1 q c (by omega) (by simpa using aE)
   refine⟨r0,V,fun q=>match q with
    |0=>H
    |q+1=>Hb q,fun q=>match q with
    |0=>H
    |q+1=>T q,fun i=>U i+1,rfl,r2,fun p C=>?_,fun q c O=>?_,fun y g f=>?_,fun y g f H2=>?_,fun y g f=>?_,fun y g z X f G ag ah Q aj=>?_,fun y g p C I=>?_⟩
   ·cases p with
    |zero=>exact .refl _
    |succ p=>simp only[Ar] at C;exact ru p (by omega)
   ·cases q with
    |zero =>
     simp only[A6,Option.some.injEq] at O;subst O;dsimp only;rw[r1];exact aa
    |succ q=>exact r3 q c (by simpa using O)
   ·rcases Ao.1 g with rfl | g
    ·rw[m] at f;cases f
    ·obtain⟨r,u0,u1,u2⟩:=r4 y g f;refine⟨r+1,by simp only[Ar];omega,aC y g (by rw[f];exact fun e=>by cases e) r u1,fun p hr C I=>?_⟩;cases p with
     |zero=>omega
     |succ p =>
      simp only[Ar] at C;exact u2 p (by omega) (by omega) (fun q c h5 h6 h7=>I (q+1) c (by omega) (by omega) (by simpa using h7))
   ·rcases Ao.1 g with rfl | g
    ·rw[m] at f;cases f
    ·exact r5 y g f H2
   ·rcases Ao.1 g with rfl | g
    ·rw[m] at f;cases f
    ·refine (ra y g f).imp id fun ⟨a1,a2,a3,a4,a5⟩=>⟨by simp only[Ar];show U y.i+1≤_;omega,aC y g (by rw[f];exact fun e=>by cases e) _ a2,a3,a4,fun p hr C I=>?_⟩
     dsimp only at hr I;cases p with
     |zero=>omega
     |succ p =>
      simp only[Ar] at C;exact a5 p (by omega) (by omega) (fun q c h5 h6 h7=>I (q+1) c (by omega) (by omega) (by simpa using h7))
   ·rcases Ao.1 g with rfl | g
    ·rw[m] at f;cases f
    ·rcases Ao.1 X with rfl | X
     ·rw[m] at G;cases G
     ·exact ri y g z X f G ag ah (Nat.succ.inj Q) aj
   ·cases p with
    |zero=>exact (hp y g).2.2.2.2
    |succ p =>
     simp only[Ar] at C;have h0:=I 0 x (by omega) (by simp);refine r6 y ?_ p (by omega) (fun q c h6 h7=>I (q+1) c (by omega) (by simpa using h7));rw[aF];refine S7.2 ⟨g,?_⟩;unfold Hh at h0;simpa using h0
theorem chain_order:∀{l:List DOp} {seen g s:Nat},Hu l seen g=some s→∀(q a:Nat) (c c':DOp),q<a→(Ga Fe l)[q]?=some c→(Ga Fe l)[a]?=some c'→Hh c'.m c.i
 |[],_,_,_,_,q,a,c,c',_,h,_=>by simp[Ga] at h
 |x::l,seen,g,s,p,q,a,c,c',j,h,d=>by
  obtain⟨_,_,t3⟩:=z9t p;rcases t3 with ⟨f,t⟩ | ⟨f,_,t⟩ | ⟨f,_,t⟩
  ·have m:Ga Fe (x::l)=Ga Fe l:=by simp only[Ga];unfold Fe;rw[f]
   rw[m] at h d;exact chain_order t q a c c' j h d
  ·have m:Ga Fe (x::l)=Ga Fe l:=by simp only[Ga];unfold Fe;rcases f with f | f<;>rw[f]
   rw[m] at h d;exact chain_order t q a c c' j h d
  ·have m:Ga Fe (x::l)=x::Ga Fe l:=by simp only[Ga];unfold Fe;rw[f]
   rw[m] at h d;cases a with
   |zero=>omega
   |succ a =>
    simp only[Av] at d;cases q with
    |zero =>
     simp only[A6,Option.some.injEq] at h;subst h;obtain⟨hm,o⟩:=S7.1 (Co.2 ⟨_,d⟩);refine topo_chs t c' hm (by rw[zex.1 o];exact fun e=>by cases e) _ ?_;rw[Tc,Z5];simp
    |succ q=>exact chain_order t q a c c' (by omega) (by simpa using h) d
end zru
end Go.Sv
namespace Go.Sv
section Wh
variable {P : Program} {n : Nat} {ops : Array Oper} {k : Jm} {L : List DOp} {E0 Ef : Tr AV}
theorem zke {S:Nat→Prop}:∀{l:List DOp} {seen f s:Nat},Hu l seen f=some s→(∀j,Hh seen j→S j)→(∀x∈l,S x.i)∨∃x∈l,¬S x.i∧∀j,Hh x.m j→S j
 |[],_,_,_,_,_=>.inl fun x g=>by cases g
 |x::l,seen,f,s,h,o=>by
  obtain⟨t1,t2,t3⟩:=z9t h;by_cases g:S x.i
  ·have key:∀a,Hu l (Nat.lor (2^x.i) seen) a=some s→(∀y∈x::l,S y.i)∨∃y∈x::l,¬S y.i∧∀j,Hh y.m j→S j:=fun a p=>by
    rcases zke p (S:=S) (fun j d=>by
     unfold Hh at d;rw[Tc,Z5] at d;simp only[Bn,Ak] at d;rcases d with rfl | d
     ·exact g
     ·exact o j d) with q | ⟨y,m,q⟩
    ·exact .inl fun y m=>by
      rcases Ao.1 m with rfl | m
      ·exact g
      ·exact q y m
    ·exact .inr ⟨y,by simp[m],q⟩
   rcases t3 with ⟨_,t3⟩ | ⟨_,_,t3⟩ | ⟨_,_,t3⟩<;>exact key _ t3
  ·exact .inr ⟨x,by simp,g,fun j d=>o j (t1 j d)⟩
def Gx (listed:Array Bool)(i:Nat):Prop:=listed.getD i false=true
theorem Vd {listed:Array Bool}{i:Nat}(hi:i<listed.size)(j:Nat):Gx (listed.setIfInBounds i true) j↔(Gx listed j∨j=i):=by
 unfold Gx;rw[Bk,Array.getElem?_setIfInBounds,Bk];by_cases e:i=j
 ·subst e;simp[hi]
 ·have:¬j=i:=fun q=>e q.symm
  simp[e,this]
theorem zps {listed:Array Bool}{i:Nat}(j:listed.size=ops.size):i∈Region.ready .any ops listed↔i<ops.size∧¬Gx listed i∧∃o,ops[i]?=some o∧∀e∈o.after.toList,Region.binds .any e=true→Gx listed e.on:=by
 unfold Region.ready Gx;simp only[List.mem_filter,Cp,Ab,Bt];constructor
 ·rintro⟨a,d,f⟩;refine⟨a,?_,?_⟩
  ·rw[Bk,Cd (by omega)] at d ⊢;simpa using d
  ·rw[Cd a] at f;simp only[Ck,B9] at f;refine⟨ops[i],Cd a,fun e he g=>?_⟩;have:=Array.all_eq_true_iff_forall_mem.1 f e (by simpa using he);rw[g] at this;simpa using this
 ·rintro⟨a,d,o,f,h⟩;refine⟨a,?_,?_⟩
  ·rw[Bk,Cd (by omega)] at d ⊢;simpa using d
  ·rw[f];simp only[Ck,B9];refine Array.all_eq_true_iff_forall_mem.2 fun e he=>?_
   cases g:Region.binds .any e with
   |false=>rfl
   |true=>simpa using h e (by simpa using he) g
theorem Rh {C a:CM}(h:C.le a){o:Nat}(f:∀v,C o v=none)(ho:o<C.nx)(v:Nat):a o v=none:=by
 cases e:a o v with
 |none=>rfl
 |some L =>
  rcases h.new _ _ _ e with ⟨g,j,d⟩ | d
  ·rw[f] at d;cases d
  ·omega
structure Pends (P:Program) (n:Nat) (ops:Array Oper) (k:Jm) (L:List DOp) (E0 Ef:Tr AV) (ord:List DOp) (ph:Nat→Nat) (C0 C:CM) (Hp:Heap) (D:Nat→Prop) (p:Nat):Prop where
 known:∀x∈ord,x.c=.al→¬Jp P n ops k L E0 Ef x→ph x.i≤p→C0.nx≤I5 Ef x∧I5 Ef x<Hp.next
 inj:∀x∈ord,∀y∈ord,x.c=.al→y.c=.al→¬Jp P n ops k L E0 Ef x→¬Jp P n ops k L E0 Ef y→ph x.i≤p→ph y.i≤p→I5 Ef x=I5 Ef y→x=y
 pend:∀x∈ord,x.c=.al→¬Jp P n ops k L E0 Ef x→ph x.i≤p→¬D x.i→∀v,C (I5 Ef x) v=none
theorem oper_al (F:Fit P ops L){x:DOp}(M:x∈L)(j:x.c=.al)(ho:ops[x.i]?=some x.o){z:World}{C:CM}{H:Heap}{w:World}{E:Tr AV}{a:Act}(A:Rel z C H w)(B:ER n C E a.tmps)
  (l:Pk ops L E0 Ef x E) (m:Xs P n ops L E0 Ef x H) (p:I5 Ef x<H.next) (D:∀v,C (I5 Ef x) v=none) (b:Frame) (rest:List Nat) (G:List Item) (cs:List Frame) :
  ∃(q:Loc) (w':World) (h:Value) (v:AV),Rel z (C.ext (I5 Ef x) 0 q) H w'∧C.keep (C.ext (I5 Ef x) 0 q)∧VR (C.ext (I5 Ef x) 0 q) v h∧(∀d,x.o.dst=some d→E3 (Fl d) Ef=some v∧d<n) ∧
   Steps P (lone (b.atR a (.inRegion ops (x.i::rest)::G)) cs w) (lone (b.atR (a.put x.o.dst h) (.inRegion ops rest::G)) cs w'):=by
 obtain⟨d,N,g1,g2,g3,g4,g5⟩:=m;obtain⟨O,I,H',J,Q,oa,ob',R,K,S⟩:=g5 E l;have f:=zu0 (P:=P) (o:=x.o) (by rw[←F.ok.cl x M];exact j) E H;rw[J] at f;obtain⟨ob,m1,rfl,m3,m4,T⟩:=f;rw[Heap.get_push_same] at K;cases K;obtain⟨r,U,sz,h,V,W⟩:=T C w a.eval (zaj B);have hk:C.keep (C.ext (I5 Ef x) 0 ⟨w.heap.size,0,U,sz⟩):=fun X I L' s=>by
  by_cases e:X=I5 Ef x∧I=0
  ·obtain⟨rfl,rfl⟩:=e;rw[D] at s;cases s
  ·rw[CM.ext_ne C _ e];exact s
 obtain⟨Y,Z⟩:=W _ (I5 Ef x) hk (CM.ext_same _ _ _ _);obtain⟨q5,_⟩:=A.bind p D R r ((Z _ A.low.size).same S);have hw:Region.wanted x.o (yielded ops a.tmps)=true:=by rw[←zi6 B ops x.o];exact O
 have y:=zho (P:=P) (o:=x.o) (E:=E) (H:=H) (by rw[J];intro e;cases e);refine⟨_,_,h,N,q5,hk,by rw[Q];exact Y,fun d' g=>?_,.one (zs6 ho hw y V)⟩;rw[g1] at g;cases g;exact⟨g3,g2⟩
theorem Wh (hk:Yi P k)(F:Fit P ops L)(hn:n≤It){ord:List DOp}{s:Nat}(ax:Hu ord 0 0=some s)(K:∀x∈ord,x∈L)(aC:∀i,i<ops.size→Hh s i)(aS:Tt L E0 Ef (Hh s) Ef)
  {Hb I:Nat→Heap} {ph:Nat→Nat} (hU:∀p,p≤(Ga Fe ord).length→Ups (Hb p) (I p))
  (hA:∀q c,(Ga Fe ord)[q]?=some c→Kj P n ops k L E0 Ef c (I q) (Hb (q+1)))
  (hB:∀x∈ord,x.c=.rd→∃r,r≤(Ga Fe ord).length∧(∀q c,q<r→(Ga Fe ord)[q]?=some c→Hh x.m c.i)∧∀p,r≤p→p≤(Ga Fe ord).length→(∀q c,r≤q→q<p→(Ga Fe ord)[q]?=some c→¬Hh c.m x.i)→Kj P n ops k L E0 Ef x (I p) (I p))
  (aT:∀x∈ord,x.c=.quiet→∀H2,Kj P n ops k L E0 Ef x H2 H2)
  (hL:∀x∈ord,x.c=.al→Jp P n ops k L E0 Ef x∨AlPh P n ops L E0 Ef (Ga Fe ord) Hb I x (ph x.i))
  (hI:∀x∈ord,∀y∈ord,x.c=.al→y.c=.al→¬Jp P n ops k L E0 Ef x→¬Jp P n ops k L E0 Ef y→ph x.i=ph y.i→I5 Ef x=I5 Ef y→x=y)
  {w0:World} {C0:CM} (b:Frame) (Z:List Item) (cs:List Frame) :
  ∀(f t:Nat) (listed:Array Bool) (T:List Nat) (p:Nat) (C:CM) (w:World) (a:Act) (E:Tr AV),listed.size=ops.size→T.length≤f→(∀i,i<ops.size→¬Gx listed i→i∈T) →
   Tt L E0 Ef (Gx listed) E→DC L (Gx listed)→Rel w0 C (I p) w→ER n C E a.tmps→(∀q c,(Ga Fe ord)[q]?=some c→(Gx listed c.i↔q<p))→p≤(Ga Fe ord).length →
   C0.le C→Pends P n ops k L E0 Ef ord ph C0 C (I p) (Gx listed) p →
   ∃C' w' a',C0.le C'∧Rel w0 C' (I (Ga Fe ord).length) w'∧ER n C' Ef a'.tmps∧a'.defers=a.defers ∧
    Steps P (lone (b.atR a (.inRegion ops (Region.linearise.go .any ops f t listed [])::Z)) cs w) (lone (b.atR a' (.inRegion ops []::Z)) cs w'):=by
 have aI:∀x∈L,x∈ord:=fun x O=>by
  rcases (topo_seen ax x.i).1 (aC x.i (F.ok.op x O).2) with h | ⟨y,A,e⟩
  ·simp at h
  ·rwa [←F.ok.inj y (K y A) x O e]
 have aD:∀(listed:Array Bool) (p:Nat) (C:CM) (w:World) (a:Act) (E:Tr AV),(∀i,i<ops.size→Gx listed i)→Tt L E0 Ef (Gx listed) E→Rel w0 C (I p) w→ER n C E a.tmps →
   (∀q c,(Ga Fe ord)[q]?=some c→(Gx listed c.i↔q<p))→p≤(Ga Fe ord).length→C0.le C →
   ∃C' w' a',C0.le C'∧Rel w0 C' (I (Ga Fe ord).length) w'∧ER n C' Ef a'.tmps∧a'.defers=a.defers ∧
    Steps P (lone (b.atR a (.inRegion ops []::Z)) cs w) (lone (b.atR a' (.inRegion ops []::Z)) cs w'):=by
  intro listed p C w a E hd hE hR B D hp G;have Q:p=(Ga Fe ord).length:=by
   rcases C5 p (Ga Fe ord).length with h | h
   ·have hm:=Dw h;have:=(D p _ (Ai h)).1 (hd _ (F.ok.op _ (K _ (S7.1 hm).1)).2);omega
   ·omega
  subst Q;refine⟨C,w,a,G,hR,⟨B.1,B.2.1,fun t ht=>?_⟩,rfl,.refl _ _⟩;have e:E3 (Fl t) Ef=E3 (Fl t) E:=by
   rw[hE t ht,aS t ht];unfold Y3;have:Pz L (Hh s) t↔Pz L (Gx listed) t:=by
    constructor
    ·rintro⟨y,A,_,h⟩;exact⟨y,A,hd _ (F.ok.op y A).2,h⟩
    ·rintro⟨y,A,_,h⟩;exact⟨y,A,aC _ (F.ok.op y A).2,h⟩
   by_cases q:Pz L (Hh s) t
   ·rw[Ag q,Ag (this.1 q)]
   ·rw[Ac q,Ac (fun z=>q (this.2 z))]
  rw[e];exact B.2.2 t ht
 intro f
 induction f with
 |zero =>
  intro t listed T p C w a E hs hT ay hE hD hR B D hp G m;have hd:∀i,i<ops.size→Gx listed i:=fun i hi=>by
   by_cases h:Gx listed i
   ·exact h
   ·have:=ay i hi h;have aU:T=[]:=A0 (by omega);rw[aU] at this;cases this
  exact aD listed p C w a E hd hE hR B D hp G
 |succ f ih =>
  intro t listed T p C w a E hs hT ay hE hD hR B D hp G m;simp only[Region.linearise.go];change ∃C' w' a',C0.le C'∧Rel w0 C' (I (Ga Fe ord).length) w'∧ER n C' Ef a'.tmps∧a'.defers=a.defers ∧
   Steps P (lone (b.atR a (.inRegion ops (match (Region.ready .any ops listed)[t%(Region.ready .any ops listed).length]? with
    |some i=>Region.linearise.go .any ops f (t/(Region.ready .any ops listed).length) (listed.setIfInBounds i true) [i]
    |none=>[].reverse)::Z)) cs w) (lone (b.atR a' (.inRegion ops []::Z)) cs w')
  cases hi:(Region.ready .any ops listed)[t%(Region.ready .any ops listed).length]? with
  |none =>
   have aJ:Region.ready .any ops listed=[]:=by
    cases hr:Region.ready .any ops listed with
    |nil=>rfl
    |cons x xs =>
     rw[hr] at hi;have aa:t%(x::xs).length<(x::xs).length:=Df _ (by simp);rw[Ai aa] at hi;cases hi
   have hd:∀i,i<ops.size→Gx listed i:=by
    rcases zke ax (S:=Gx listed) (fun j hj=>by simp[Hh] at hj) with h | ⟨x,O,h1,h2⟩
    ·intro i hi;obtain⟨x,O,rfl⟩:=F.ok.all i hi;exact h x (aI x O)
    ·have aK:=K x O;obtain⟨ho,aa⟩:=F.ok.op x aK;have:x.i∈Region.ready .any ops listed:=(zps hs).2 ⟨aa,h1,x.o,ho,fun e he hb=>h2 _ (F.ok.edge x aK e he hb)⟩;rw[aJ] at this;cases this
   exact aD listed p C w a E hd hE hR B D hp G
  |some i =>
   dsimp only;rw[linearise_go_acc,List.reverse_singleton,List.singleton_append];obtain⟨aa,ad,o,ho,ag⟩:=(zps hs).1 (A7 hi);obtain⟨x,O,rfl⟩:=F.ok.all i aa;have aL:=(F.ok.op x O).1;rw[ho] at aL;cases aL;have H:∀j,Hh x.m j→Gx listed j:=fun j hj=>by
    obtain⟨e,he,hb,rfl | ⟨y,A,e1,e2⟩⟩:=F.ok.msk x O j hj
    ·exact ag e he hb
    ·exact hD y A (by rw[e1];exact ag e he hb) j e2
   have aF:Pk ops L E0 Ef x E:=U5 F hD O H (.inl ad) hE;have R:=aI x O;have aG:∃p' M w1 xv v,C0.le M∧Rel w0 M (I p') w1∧ER n M (Hn x.o.dst v E) (a.put x.o.dst xv).tmps∧(∀d,x.o.dst=some d→E3 (Fl d) Ef=some v∧d<n) ∧
     Steps P (lone (b.atR a (.inRegion ops (x.i::Region.linearise.go .any ops f (t/(Region.ready .any ops listed).length) (listed.setIfInBounds x.i true) [])::Z)) cs w)
      (lone (b.atR (a.put x.o.dst xv) (.inRegion ops (Region.linearise.go .any ops f (t/(Region.ready .any ops listed).length) (listed.setIfInBounds x.i true) [])::Z)) cs w1) ∧
     p'≤(Ga Fe ord).length∧(∀q c,(Ga Fe ord)[q]?=some c→((Gx listed c.i∨c.i=x.i)↔q<p')) ∧
     Pends P n ops k L E0 Ef ord ph C0 M (I p') (fun j=>Gx listed j∨j=x.i) p':=by
    have ah:x.c≠.ch→∀q c,(Ga Fe ord)[q]?=some c→((Gx listed c.i∨c.i=x.i)↔q<p):=fun aj q c hq=>by
     rw[←D q c hq];constructor
     ·rintro (h | h)
      ·exact h
      ·obtain⟨hm,U⟩:=S7.1 (Co.2 ⟨_,hq⟩);rw[F.ok.inj c (K c hm) x O h] at U;exact absurd (zex.1 U) aj
     ·exact .inl
    have W:∀r,r≤(Ga Fe ord).length→(∀q c,q<r→(Ga Fe ord)[q]?=some c→Hh x.m c.i)→r≤p:=fun r u0 u1=>by
     rcases C5 p r with h | h
     ·have Q:p<(Ga Fe ord).length:=by omega
      have:=(D p _ (Ai Q)).1 (H _ (u1 p _ h (Ai Q)));omega
     ·exact h
    have ao:∀r q c,r≤q→q<p→(Ga Fe ord)[q]?=some c→¬Hh c.m x.i:=fun r q c _ hq aM hb=>by
     have hm:=(S7.1 (Co.2 ⟨_,aM⟩)).1;exact ad (hD c (K c hm) ((D q c aM).2 hq) _ hb)
    have V:=fun (aj:x.c≠.ch) (aV:Kj P n ops k L E0 Ef x (I p) (I p))=>show ∃p' M w1 xv v,C0.le M∧Rel w0 M (I p') w1∧ER n M (Hn x.o.dst v E) (a.put x.o.dst xv).tmps∧(∀d,x.o.dst=some d→E3 (Fl d) Ef=some v∧d<n) ∧
     Steps P (lone (b.atR a (.inRegion ops (x.i::Region.linearise.go .any ops f (t/(Region.ready .any ops listed).length) (listed.setIfInBounds x.i true) [])::Z)) cs w)
      (lone (b.atR (a.put x.o.dst xv) (.inRegion ops (Region.linearise.go .any ops f (t/(Region.ready .any ops listed).length) (listed.setIfInBounds x.i true) [])::Z)) cs w1) ∧
     p'≤(Ga Fe ord).length∧(∀q c,(Ga Fe ord)[q]?=some c→((Gx listed c.i∨c.i=x.i)↔q<p')) ∧
     Pends P n ops k L E0 Ef ord ph C0 M (I p') (fun j=>Gx listed j∨j=x.i) p' from by
     obtain⟨v,ap,N⟩:=aV E aF;obtain⟨M,w1,xv,av,q1,q2,q3,q4,q5,q6⟩:=zhm hk ho hR B ap b (Region.linearise.go .any ops f (t/(Region.ready .any ops listed).length) (listed.setIfInBounds x.i true) []) Z cs;refine⟨p,M,w1,xv,v,CM.le_trans G q1,q2,by rw[q4];exact (B.mono q1).put q5 q3,N,q6,hp,ah aj,⟨m.known,m.inj,fun y A g l J af v=>?_⟩⟩;exact Rh q1 (m.pend y A g l J (fun h=>af (.inl h))) (by rw[hR.nx];exact (m.known y A g l J).2) v
    cases U:x.c with
    |quiet=>exact V (by rw[U];exact fun e=>by cases e) (aT x R U _)
    |rd =>
     obtain⟨r,u0,u1,u2⟩:=hB x R U;exact V (by rw[U];exact fun e=>by cases e) (u2 p (W r u0 u1) hp (ao r))
    |al =>
     by_cases aq:Jp P n ops k L E0 Ef x
     ·exact V (by rw[U];exact fun e=>by cases e) (aq _)
     ·rcases hL x R U with h | ⟨u0,u1,u2,u3,u4⟩
      ·exact absurd h aq
      ·have az:=W _ u0 u1;have aW:=u4 p az hp (ao _);obtain⟨k1,k2⟩:=m.known x R U aq az;have aN:=m.pend x R U aq az ad;obtain⟨Lc,w1,xv,v,q1,q2,q3,q4,q5⟩:=oper_al F O U ho hR B aF aW k2 aN b (Region.linearise.go .any ops f (t/(Region.ready .any ops listed).length) (listed.setIfInBounds x.i true) []) Z cs;refine⟨p,_,w1,xv,v,⟨fun o v L h=>q2 _ _ _ (G.keep _ _ _ h),Br G.nx (Cy _ _),fun o v L h=>?_⟩,q1,(B.mono' q2).put (fun t ht=>(q4 t ht).2) q3,q4,q5,hp,ah (by rw[U];exact fun e=>by cases e),
        ⟨m.known,m.inj,fun y A g l J af v=>?_⟩⟩
       ·by_cases e:o=I5 Ef x∧v=0
        ·obtain⟨rfl,rfl⟩:=e;exact .inr k1
        ·rw[CM.ext_ne _ _ e] at h;exact G.new _ _ _ h
       ·have aj:I5 Ef y≠I5 Ef x:=fun e=>af (.inr (by rw[m.inj y A x R g U l aq J az e]))
        rw[CM.ext_ne _ _ (fun e=>aj e.1)];exact m.pend y A g l J (fun h=>af (.inl h)) v
    |ch =>
     obtain⟨q,hq⟩:=Co.1 (S7.2 ⟨R,zex.2 U⟩);have a0:¬q<p:=fun h=>ad ((D q x hq).2 h)
     have a1:=(Aa.1 hq).1;have aX:q=p:=by
      rcases C5 p q with h | h
      ·have Q:p<(Ga Fe ord).length:=by omega
       have:=(D p _ (Ai Q)).1 (H _ (chain_order ax p q _ x h (Ai Q) hq));omega
      ·omega
     subst aX;obtain⟨v,ap,N⟩:=hA q x hq E aF;obtain⟨M,w1,xv,av,q1,q2,q3,q4,q5,q6⟩:=zhm hk ho hR B ap b (Region.linearise.go .any ops f (t/(Region.ready .any ops listed).length) (listed.setIfInBounds x.i true) []) Z cs;have ar:=hU (q+1) (by omega);have hle:M.le (M.lift (I (q+1)).next):=CM.le_lift (by rw[q2.nx];exact ar.next);have a3:(I q).next≤(Hb (q+1)).next:=by rw[←hR.nx,←q2.nx];exact q1.nx
     have X:∀y∈ord,y.c=.al→¬Jp P n ops k L E0 Ef y→ph y.i=q+1→(Hb (q+1)).next≤I5 Ef y∧I5 Ef y<(I (q+1)).next:=fun y A g l J=>by
      rcases hL y A g with h | ⟨_,_,u2,u3,_⟩
      ·exact absurd h l
      ·rw[J] at u2 u3;exact⟨u2,u3⟩
     have a4:=ar.next;refine⟨q+1,M.lift (I (q+1)).next,w1,xv,v,CM.le_trans G (CM.le_trans q1 hle),q2.ups ar,by rw[q4];exact ((B.mono q1).put q5 q3).mono hle,N,q6,by omega,fun q' c aw=>?_,⟨fun y A g l J=>?_,fun y A z hz g aA l aB J a5 aO=>?_,fun y A g l J af v=>?_⟩⟩
     ·rw[D q' c aw];constructor
      ·rintro (h | h)
       ·omega
       ·have hm:=(S7.1 (Co.2 ⟨_,aw⟩)).1;have e:=F.ok.inj c (K c hm) x O h;subst e;rcases Nat.lt_trichotomy q' q with h' | h' | h'
        ·omega
        ·omega
        ·exact absurd (H _ (chain_order ax q q' c c h' hq aw)) ad
      ·intro h;rcases C5 q' q with h' | h'
       ·exact .inl h'
       ·have:q'=q:=by omega
        subst this;rw[hq] at aw;cases aw;exact .inr rfl
     ·rcases C5 (ph y.i) (q+1) with h | h
      ·obtain⟨k1,k2⟩:=m.known y A g l (by omega);exact⟨k1,by omega⟩
      ·obtain⟨k1,k2⟩:=X y A g l (by omega);have:=(CM.le_trans G q1).nx;rw[q2.nx] at this;exact⟨Br this k1,k2⟩
     ·rcases C5 (ph y.i) (q+1) with h | h<;>rcases C5 (ph z.i) (q+1) with h' | h'
      ·exact m.inj y A z hz g aA l aB (by omega) (by omega) aO
      ·have k1:=(m.known y A g l (by omega)).2;have k2:=(X z hz aA aB (by omega)).1;omega
      ·have k1:=(m.known z hz aA aB (by omega)).2;have k2:=(X y A g l (by omega)).1;omega
      ·exact hI y A z hz g aA l aB (by omega) aO
     ·show M.f (I5 Ef y) v=none;rcases C5 (ph y.i) (q+1) with h | h
      ·exact Rh q1 (m.pend y A g l (by omega) (fun h=>af (.inl h))) (by rw[hR.nx];exact (m.known y A g l (by omega)).2) v
      ·have k1:=(X y A g l (by omega)).1;cases e:M.f (I5 Ef y) v with
       |none=>rfl
       |some L'=>have:=q2.fresh _ _ _ e;omega
   obtain⟨p',M,w1,xv,v,q1,q2,aP,N,q6,aY,aQ,aR⟩:=aG;have Y:=Vd (listed:=listed) (i:=x.i) (by omega);have aE:Gx (listed.setIfInBounds x.i true)=fun j=>Gx listed j∨j=x.i:=funext fun j=>propext (Y j)
   have aZ:Tt L E0 Ef (Gx (listed.setIfInBounds x.i true)) (Hn x.o.dst v E):=by
    have:=hE.put F hn O N;rw[aE];exact this
   obtain⟨C2,w2,a2,r1,r2,r3,r4,r5⟩:=ih (t/(Region.ready .any ops listed).length) (listed.setIfInBounds x.i true) (T.erase x.i) p' M w1 (a.put x.o.dst xv) (Hn x.o.dst v E) (by simpa using hs)
    (by
     have:=List.length_erase_of_mem (ay x.i aa ad);omega)
    (fun j hj aH=>by
     rw[Y] at aH;have h1:¬Gx listed j:=fun h=>aH (.inl h)
     have h2:j≠x.i:=fun h=>aH (.inr h)
     exact (List.mem_erase_of_ne h2).2 (ay j hj h1))
    aZ
    (fun y A hd j hj=>by
     rw[Y] at hd ⊢;rcases hd with hd | hd
     ·exact .inl (hD y A hd j hj)
     ·rw[F.ok.inj y A x O hd] at hj;exact .inl (H j hj))
    q2 aP (fun q c hq=>by rw[Y];exact aQ q c hq) aY q1 (by rw[aE];exact aR)
   refine⟨C2,w2,a2,r1,r2,r3,?_,Steps.trans q6 r5⟩;rw[r4];cases x.o.dst<;>rfl
theorem zvc (hm:P.follows .mixedOrders=true)(hk:Yi P k){Q:World}{C:CM}{H H':Heap}{w:World}{E m:Tr AV}{a:Act}{id:Nat}(O:Rel Q C H w)(hE:ER n C E a.tmps)
  (h:(zai P n ops).run k E H=.ok m H') (b:Frame) (R:List Item) (cs:List Frame) :
  ∃G w' I,C.le G∧Rel Q G H' w'∧ER n G m I.tmps∧I.defers=a.defers ∧
   Steps P (lone (b.atR a (.code (.region id ops true)::R)) cs w) (lone (b.atR I R) cs w'):=by
 unfold zai at h;dsimp only at h;generalize hL:I0 P ops ops.toList [] 0=L at h;have S:LOk P ops L:=hL ▸ dops_ok P ops;generalize hO:O1 L (Ga Fe L)=ord at h;have r:∀x∈ord,x∈L:=fun x J=>zwu x (by rw[hO];exact J)
 split at h
 ·rename_i hd;unfold zz7 at hd;split at hd
  ·cases hd
  ·rename_i s K;split at hd
   ·cases hd
   ·rename_i hs;split at hd
    ·cases hd
    ·rename_i T;have U:s=2^ops.size - 1:=An (by simpa using hs);have F:Fit P ops L:=⟨S,(dstsOk_spec (by simpa using T)).2,fun x J y d=>zlb (zlb hd x J) y d⟩;have hn:=hE.2.1;have h0:Tt L E m (Hh 0) E:=fun t ht=>by
      unfold Y3;rw[Ac];rintro⟨y,_,d,_⟩;simp[Hh] at d
     obtain⟨r0,_,Hb,B,ph,r1,r2,ru,r3,r4,r5,ra,ri,_⟩:=zru (E0:=E) F hn ord [] 0 0 s E H H' h K r (fun x J=>by cases J) h0 (fun y _ d=>by simp[Hh] at d);have M:∀i,i<ops.size→Hh s i:=fun i hi=>by
      unfold Hh;rw[U,Nat.testBit_two_pow_sub_one];simpa using hi
     have j:∀i,¬Gx (Array.replicate ops.size false) i:=fun i hi=>by
      unfold Gx at hi;rw[Bk,Array.getElem?_replicate] at hi;split at hi<;>cases hi
     have D:=ru 0 (Dd _);rw[r1] at D;have V:Rel Q (C.lift (B 0).next) (B 0) w.drew:=O.drew.ups D;have A:C.le (C.lift (B 0).next):=CM.le_lift (by rw[O.nx];exact D.next);have l:∀y∈ord,y.c=.al→¬Jp P n ops k L E m y→ph y.i=0→H.next≤I5 m y∧I5 m y<(B 0).next:=fun y d f g o=>by
      rcases ra y d f with h | ⟨_,_,W,u3,_⟩
      ·exact absurd h g
      ·rw[o] at W u3;rw[r1] at W;exact⟨W,u3⟩
     have N:Pends P n ops k L E m ord ph C (C.lift (B 0).next) (B 0) (Gx (Array.replicate ops.size false)) 0:=by
      refine⟨fun y d f g o=>?_,fun y d z hz f X g Y o aa Z=>ri y d z hz f X g Y (by omega) Z,fun y d f g o _ v=>?_⟩
      ·obtain⟨k1,k2⟩:=l y d f g (by omega);rw[←O.nx] at k1;exact⟨k1,k2⟩
      ·obtain⟨k1,k2⟩:=l y d f g (by omega);show C.f (I5 m y) v=none;cases e:C.f (I5 m y) v with
       |none=>rfl
       |some L'=>have:=O.fresh _ _ _ e;omega
     have p:Region.schedule (P.follows .mixedOrders) ops (w.tape w.drawn (.order b.fn id))=Region.linearise.go .any ops ops.size (w.tape w.drawn (.order b.fn id)) (Array.replicate ops.size false) []:=by
      simp only[Region.schedule,hm,Bool.true_or,Bs];rfl
     obtain⟨G,w',I,q1,q2,q3,q4,q5⟩:=Wh hk F hn K r M r0 ru r3 r4 r5 ra ri b R cs ops.size (w.tape w.drawn (.order b.fn id)) (Array.replicate ops.size false) (List.range ops.size) 0 (C.lift (B 0).next) w.drew a E
      (by simp) (by simp) (fun i hi _=>by simpa using hi) (fun t ht=>by
       unfold Y3;rw[Ac];rintro⟨y,_,d,_⟩;exact j _ d) (fun y _ d=>absurd d (j _)) V (hE.mono A) (fun q c _=>⟨fun h=>absurd h (j _),fun h=>absurd h (Ei q)⟩) (Dd _) A N
     refine⟨G,w',I,q1,by rw[←r2];exact q2,q3,q4,.head stepR_region_draw ?_⟩;rw[p];exact Steps.trans q5 (.one stepR_region_end)
 ·cases h
theorem zpk (hk:Yi P k){j:World}{C:CM}{H H':Heap}{w:World}{E l:Tr AV}{a:Act}{id:Nat}(m:Rel j C H w)(o:ER n C E a.tmps)
  (h:(Yc P n ops ops.toList).run k E H=.ok l H') (b:Frame) (g:List Item) (cs:List Frame) :
  ∃d w' f,C.le d∧Rel j d H' w'∧ER n d l f.tmps∧f.defers=a.defers ∧
   Steps P (lone (b.atR a (.code (.region id ops false)::g)) cs w) (lone (b.atR f g) cs w'):=by
 obtain⟨d,w',f,p,q,r,s,x⟩:=zpf hk b g cs ops.toList 0 rfl m o h;refine⟨d,w',f,p,q,r,s,.head stepR_region ?_⟩;rw[List.range_eq_range'];exact Steps.trans x (.one stepR_region_end)
end Wh
end Go.Sv
namespace Go.Sv
open Go.RowKit (Below)
inductive DR (C:CM):List Nat→List Deferred→Prop where
 |nil:DR C [] []
 |cons {d:Nat} {L:Loc} {l:List Nat} {r:List Deferred} (h:C d 0=some L) (hs:DR C l r):DR C (d::l) ({ target:=.collected L.b,args:=#[] }::r)
theorem DR.mono {C C':CM}(h:C.le C'):∀{l:List Nat} {r:List Deferred},DR C l r→DR C' l r
 |_,_,.nil=>.nil
 |_,_,.cons e es=>.cons (h.keep _ _ _ e) (DR.mono h es)
def RO (C:CM)(ro r:Option Nat):Prop:=match ro,r with
 |none,none=>True
 |some l,some d=>∃L,C l 0=some L∧L.b=d
 |_,_=>False
theorem RO.mono {C C':CM}(h:C.le C'){ro r:Option Nat}(k:RO C ro r):RO C' ro r:=by
 cases ro<;>cases r<;>simp only[RO] at k ⊢;obtain⟨L,h1,h2⟩:=k;exact⟨L,h.keep _ _ _ h1,h2⟩
theorem Rel.putBlock {w0:World}{C:CM}{H:Heap}{w:World}(h:Rel w0 C H w){o:Nat}{L:Loc}(hL:C o 0=some L){ob:AObj}{x:Obj}(hB:w0.heap.size≤L.b)(ad:∀c len aa ro,ob≠.cells c len aa ro)
  (af:(w.putObj L.b x).heap[L.b]?=some x→Ig w0.heap.size C (w.putObj L.b x) o ob):Rel w0 C (H.put o ob) (w.putObj L.b x):=by
 have ag:=h.lt _ _ _ hL;refine h.put (h.fresh _ _ _ hL) ob (h.low.trans ⟨rfl,rfl,rfl,by simp,fun k hk=>World.putObj_heap_other (by omega)⟩) (by simp) (fun o' v L' ah aj=>World.putObj_heap_other (fun e=>ah ?_)) (af (World.putObj_heap_same ag)) (fun c len aa ro e=>absurd e (ad c len aa ro));exact (h.excl _ _ _ _ _ _ hL aj e.symm hB).symm
theorem zdx {P:Program}{w:World}{o:Nat}{r:Loop}(h:w.heap[o]?=some (.loop r))(fn:FuncId)(tmps:Array Value)(d:Array Tmp)(assign body:Code) :
  (Instr.enterLoop fn tmps d assign body (some o)).run P w =
   .ok (w.heap.size,[]) (w.alloc (.loop { state:=.ready,pending:=none,fn,tmps,params:=d,assign,body,defers:=r.defers })):=by
 unfold Instr.enterLoop;simp only[Sem.run_bind,run_getLoop h,run_newObj_alloc,Result.andThen,Sem.run_pure]
theorem zn4 {P:Program}{f n:Nat}{j:Array Tmp}{as bd:Code}{ro:Option Nat}{E:Tr AV}{D:List Nat}{H:Heap}{l:Nat}{G:List Nat}{H':Heap}(h:zf8 f n j as bd ro E D H=some (l,G,H'))
  {I:World} {C:CM} {w:World} {m:Array Value} {J:List Deferred} {r:Option Nat} (g:Rel I C H w) (K:ER n C E m) (M:DR C D J) (p:RO C ro r) :
  ∃A N mark L,C.le A∧Rel I A H' N∧(Instr.enterLoop f m j as bd r).run P w=.ok (L.b,mark) N∧A l 0=some L∧DR A G (mark++J):=by
 unfold zf8 at h
 ·split at h
  ·cases h;cases r with
   |some r=>exact p.elim
   |none =>
    obtain⟨q,B⟩:=g.push (.defd true) (.deferred (some [])) 0 0 (fun L o=>by
     rw[CM.ext_same] at o;cases o;exact⟨g.low.size,T6 _ _⟩)
    have s:(C.ext H.next 0 ⟨w.heap.size,0,0,0⟩) H.next 0=some ⟨w.heap.size,0,0,0⟩:=CM.ext_same _ _ _ _;generalize C.ext H.next 0 ⟨w.heap.size,0,0,0⟩=Q at q B s;obtain⟨F,y⟩:=q.push (ob:=.loop .ready none f n E j as bd H.next) (x:=.loop { state:=.ready,pending:=none,fn:=f,tmps:=m,params:=j,assign:=as,body:=bd,defers:=w.heap.size }) 0 0 (fun L o=>by
     rw[CM.ext_same] at o;cases o;refine⟨q.low.size,m,⟨w.heap.size,0,0,0⟩,(CM.le_ext _ (q.next_none 0) (.inr (Di q.nx))).keep _ _ _ s,T6 _ _,(K.mono B).mono (CM.le_ext _ (q.next_none 0) (.inr (Di q.nx)))⟩)
    refine⟨_,_,[{ target:=.collected w.heap.size,args:=#[] }],⟨w.heap.size+1,0,0,0⟩,CM.le_trans B y,F,?_,?_,?_⟩
    ·exact run_enterLoop_outer f m j as bd
    ·have:=CM.ext_same Q (H.push (.defd true)).next 0 ⟨(w.alloc (.deferred (some []))).heap.size,0,0,0⟩;rw[World.size_alloc] at this ⊢;exact this
    ·exact .cons (y.keep _ _ _ s) (M.mono (CM.le_trans B y))
  ·rename_i lo;split at h
   ·rename_i d R;cases h;cases r with
    |none=>exact p.elim
    |some r =>
     obtain⟨Lo,z,rfl⟩:=p;obtain⟨T,S,O,hd,hw,_⟩:=g.obj _ _ (g.fresh _ _ _ z) R Lo z;obtain⟨F,y⟩:=g.push (ob:=.loop .ready none f n E j as bd d) (x:=.loop { state:=.ready,pending:=none,fn:=f,tmps:=m,params:=j,assign:=as,body:=bd,defers:=O.b }) 0 0 (fun L o=>by
      rw[CM.ext_same] at o;cases o;exact⟨g.low.size,m,O,(CM.le_ext _ (g.next_none 0) (.inr (Di g.nx))).keep _ _ _ hd,T6 _ _,K.mono (CM.le_ext _ (g.next_none 0) (.inr (Di g.nx)))⟩)
     refine⟨_,_,[],⟨w.heap.size,0,0,0⟩,y,F,?_,CM.ext_same _ _ _ _,M.mono y⟩;exact zdx hw f m j as bd
   ·cases h
theorem zka {P:Program}{l:Nat}{H H':Heap}{j:Option Code}(h:zms l H=some (j,H')){p:World}{C:CM}{w:World}(q:Rel p C H w){L:Loc}(o:C l 0=some L) :
  ∃w',(Instr.endLoop L.b).run P w=.ok j w'∧Rel p C H' w':=by
 unfold zms at h;split at h
 ·rename_i st pend f n E y a b d z;have key:st≠.busy→(some (pend,H.put l (.loop .exhausted pend f n E y a b d))=some (j,H'))→∃w',(Instr.endLoop L.b).run P w=.ok j w'∧Rel p C H' w':=fun r e=>by
   cases e;obtain⟨x,A,B,hd,hw,D⟩:=q.obj _ _ (q.fresh _ _ _ o) z L o;refine⟨_,run_endLoop hw r,q.putBlock o x (fun _ _ _ _ e=>by cases e) (fun g F m=>?_)⟩;rw[o] at m;cases m;exact⟨x,A,B,hd,g,D⟩
  split at h
  ·cases h
  ·rename_i s;exact key (fun e=>s e) h
 ·cases h
theorem zox {P:Program}{C:CM}{w:World}{g:AV}{ρ:Operand→Value}{gop:Operand}(p:∀v,ρ (.const v)=v)(o:VR C g (ρ gop)){l:Nat}{L:Loc}(q:C l 0=some L){f:Nat}{args:List AV}
  (h:Yw P g [.fn (.yield l) [] []]=.call (.fn f) args) :
  ∃d vs,(resolve ρ (rangeCall gop L.b) 0).run P w=.ok d w∧(invoke d.target d.args).run P w=.ok (.enter f (List.toArray vs)) w∧VRs C args vs:=by
 have r:VRs C [AV.fn (.yield l) [] []] [Value.func (.yield L.b) #[] #[]]:=.cons (.fn (.yield q) .nil .nil) .nil;generalize m:ρ gop=gv at o;have j:∀fn first cap,gv=.func fn first cap→(resolve ρ (rangeCall gop L.b) 0).run P w=.ok { target:=.fn fn cap,args:=first++#[Value.func (.yield L.b) #[] #[]] } w:=by
  intro fn first cap e
  subst e;simp only[resolve,m,Deferred.ofValue,Sem.run_pure];simp[p]
 unfold Yw at h;split at h
 ·rename_i A first cap
  split at h
  ·rename_i s;cases h;cases o with
   | @fn _ B _ _ l' r' x y z =>
    cases x with
    |same =>
     refine⟨_,l'.toList++[Value.func (.yield L.b) #[] #[]]++r'.toList,j _ _ _ rfl,?_,(y.append r).append z⟩;have:(l'++#[Value.func (.yield L.b) #[] #[]]++r')=(l'.toList++[Value.func (.yield L.b) #[] #[]]++r'.toList).toArray:=by simp
     rw[←this];exact zc5 s _
  ·cases h
 ·cases h
 ·cases h
def Vj (P:Program)(b:Frame)(m:Machine)(cs:List Frame)(g:List Item)(f:Act)(w':World):Ex→Prop
 |.normal=>Steps P m (lone (b.atR f g) cs w')
 |.exit id=>∃d,exitTo id d=exitTo id g∧Steps P m (lone (b.atR f (.code (.exit id)::d)) cs w')
 |.ret=>∃d,Steps P m (lone (b.atR f (.code .ret::d)) cs w')
theorem Vj.head {P:Program}{b:Frame}{m m1:Machine}{cs:List Frame}{kk:List Item}{a':Act}{w':World}{x:Ex}(h:Steps P m m1)(k:Vj P b m1 cs kk a' w' x):Vj P b m cs kk a' w' x:=by
 cases x with
 |normal=>exact Steps.trans h k
 |exit id=>obtain⟨k1,e,s⟩:=k;exact⟨k1,e,Steps.trans h s⟩
 |ret=>obtain⟨k1,s⟩:=k;exact⟨k1,Steps.trans h s⟩
section scope
variable {P : Program} {b : Frame} {a : Act} {k : List Item} {cs : List Frame} {w : World} {c : Code}
theorem stepR_scope:step P (lone (b.atR a (.code (.scope c)::k)) cs w)=.next (lone (b.atR a (.code c::.inScope c::k)) cs w):=step_lone_go (by simp[stepG,stepG.exec,Frame.atR])
theorem stepR_inScope:step P (lone (b.atR a (.inScope c::k)) cs w)=.next (lone (b.atR a k) cs w):=step_lone_go (by simp[stepG,stepG.exec,Frame.atR])
end scope
structure Both (w0:World) (n:Nat) (C:CM) (E:Tr AV) (D:List Nat) (H:Heap) (a:Act) (w:World):Prop where
 rel:Rel w0 C H w
 env:ER n C E a.tmps
 defs:DR C D a.defers
def CodeOk (P:Program)(f n:Nat)(p:CodeF)(c:Code):Prop :=
 ∀(k:Jm),Yi P k→∀(m:Nat) (ro:Option Nat) (d:World) (C:CM) (E:Tr AV) (D:List Nat) (H:Heap) (a:Act) (w:World) (b:Frame) (x:Ex) (g:Tr AV) (h:List Nat) (H':Heap),
  Both d n C E D H a w→b.fn=f→RO C ro b.roundOf→p.run k m ro E D H=.ok x g h H'→∀(j:List Item) (cs:List Frame),
  ∃l w' o,C.le l∧Both d n l g h H' o w'∧Vj P b (lone (b.atR a (.code c::j)) cs w) cs j o w' x
theorem Ye {P:Program}(hm:P.follows .mixedOrders=true)(f n:Nat):∀(c:Code),CodeOk P f n (Ie P f n c) c
 |.skip=>by
  intro k hk m ro F C E D H a w b x K M H' p I o h y cs;cases h;exact⟨C,w,a,CM.le_refl C,p,.one stepR_skip⟩
 |.label l=>by
  intro k hk m ro F C E D H a w b x K M H' p I o h y cs;cases h;exact⟨C,w,a,CM.le_refl C,p,.one stepR_label⟩
 |.exit id=>by
  intro k hk m ro F C E D H a w b x K M H' p I o h y cs;cases h;exact⟨C,w,a,CM.le_refl C,p,y,rfl,.refl _ _⟩
 |.ret=>by
  intro k hk m ro F C E D H a w b x K M H' p I o h y cs;cases h;exact⟨C,w,a,CM.le_refl C,p,y,.refl _ _⟩
 |.region id ops draw=>by
  intro k hk m ro F C E D H a w b x K M H' p I o h y cs;simp only[Ie] at h;cases draw with
  |true =>
   dsimp only at h;split at h
   ·cases h
   ·rename_i E1 H1 hr;cases h;obtain⟨C',w',a',r,A,z,X,q5⟩:=zvc hm hk (id:=id) p.rel p.env hr b y cs;exact⟨C',w',a',r,⟨A,z,by rw[X];exact p.defs.mono r⟩,q5⟩
  |false =>
   dsimp only at h;split at h
   ·cases h
   ·rename_i E1 H1 hr;cases h;obtain⟨C',w',a',r,A,z,X,q5⟩:=zpk hk (id:=id) p.rel p.env hr b y cs;exact⟨C',w',a',r,⟨A,z,by rw[X];exact p.defs.mono r⟩,q5⟩
 |.seq c1 c2=>by
  intro k hk m ro F C E D H a w b x K M H' p I o h y cs;simp only[Ie] at h;cases Y:(Ie P f n c1).run k m ro E D H with
  |no=>rw[Y] at h;cases h
  |ok Q E1 R H1 =>
   rw[Y] at h;obtain⟨G,B,J,r,A,z⟩:=Ye hm f n c1 k hk m ro F C E D H a w b Q E1 R H1 p I o Y (.code c2::y) cs;cases Q with
   |normal =>
    dsimp only at h;obtain⟨U,w2,a2,r1,r2,r3⟩:=Ye hm f n c2 k hk m ro F G E1 R H1 J B b x K M H' A I (o.mono r) h y cs;exact⟨U,w2,a2,CM.le_trans r r1,r2,r3.head (.head stepR_seq z)⟩
   |exit id =>
    cases h;obtain⟨N,e,s⟩:=z;exact⟨G,B,J,r,A,N,e,.head stepR_seq s⟩
   |ret =>
    cases h;obtain⟨N,s⟩:=z;exact⟨G,B,J,r,A,N,.head stepR_seq s⟩
 |.cond c c1 c2=>by
  intro k hk m ro F C E D H a w b x K M H' p I o h y cs;simp only[Ie] at h;split at h
  ·rename_i t ht;have hv:=zaj p.env c _ ht;have aa:a.eval c=.bool t:=by
    generalize a.eval c=v at hv;cases hv;rfl
   split at h
   ·obtain⟨G,B,J,r,A,z⟩:=Ye hm f n c1 k hk m ro F C E D H a w b x K M H' p I o h y cs;exact⟨G,B,J,r,A,z.head (.one (by rw[stepR_cond aa];rfl))⟩
   ·obtain⟨G,B,J,r,A,z⟩:=Ye hm f n c2 k hk m ro F C E D H a w b x K M H' p I o h y cs;exact⟨G,B,J,r,A,z.head (.one (by rw[stepR_cond aa];rfl))⟩
  ·cases h
 |.block id c=>by
  intro k hk m ro F C E D H a w b x K M H' p I o h y cs;simp only[Ie] at h;split at h
  ·cases h
  ·rename_i Q E1 R H1 Y;obtain⟨G,B,J,r,A,z⟩:=Ye hm f n c k hk m ro F C E D H a w b Q E1 R H1 p I o Y (.inBlock id::y) cs;cases Q with
   |normal =>
    cases h;exact⟨G,B,J,r,A,Steps.head stepR_block (Steps.trans z (.one stepR_inBlock))⟩
   |exit ad =>
    dsimp only at h;obtain⟨N,e,s⟩:=z;split at h
    ·rename_i S;cases h;have af:ad=id:=An S;subst af;refine⟨G,B,J,r,A,Steps.head stepR_block (Steps.trans s (.one (stepR_exit ?_)))⟩;rw[e];simp[exitTo]
    ·rename_i S;cases h;refine⟨G,B,J,r,A,N,?_,.head stepR_block s⟩;rw[e];have ah:¬id=ad:=fun q=>by subst q;rw[Bj] at S;cases S
     simp[exitTo,ah]
   |ret =>
    cases h;obtain⟨N,s⟩:=z;exact⟨G,B,J,r,A,N,.head stepR_block s⟩
 |.scope c=>by
  intro k hk m ro F C E D H a w b x K M H' p I o h y cs;simp only[Ie] at h;obtain⟨G,B,J,r,A,z⟩:=Ye hm f n c k hk m ro F C E D H a w b x K M H' p I o h (.inScope c::y) cs;refine⟨G,B,J,r,A,?_⟩;cases x with
  |normal=>exact Steps.head stepR_scope (Steps.trans z (.one stepR_inScope))
  |exit id =>
   obtain⟨N,e,s⟩:=z;exact⟨N,e,.head stepR_scope s⟩
  |ret =>
   obtain⟨N,s⟩:=z;exact⟨N,.head stepR_scope s⟩
 |.loop c=>by
  intro k hk m ro F C E D H a w b x K M H' p I o h y cs;simp only[Ie] at h;have ih:=Ye hm f n c;have key:∀(j:Nat) (C:CM) (E:Tr AV) (D:List Nat) (H:Heap) (a:Act) (w:World),Both F n C E D H a w→RO C ro b.roundOf→Wt ((Ie P f n c).run k m ro) j E D H=.ok x K M H' →
    ∃C' w' a',C.le C'∧Both F n C' K M H' a' w'∧Vj P b (lone (b.atR a (.code c::.inLoop c::y)) cs w) cs y a' w' x:=by
   intro j
   induction j with
   |zero=>intro C E D H a w _ _ h;cases h
   |succ j aj =>
    intro C E D H a w p o h;simp only[Wt] at h;split at h
    ·cases h
    ·rename_i Q E1 R H1 Y;obtain⟨G,B,J,r,A,z⟩:=ih k hk m ro F C E D H a w b Q E1 R H1 p I o Y (.inLoop c::y) cs;cases Q with
     |normal =>
      dsimp only at h;obtain⟨U,w2,a2,r1,r2,r3⟩:=aj G E1 R H1 J B A (o.mono r) h;exact⟨U,w2,a2,CM.le_trans r r1,r2,r3.head (Steps.trans z (.one stepR_inLoop))⟩
     |exit id =>
      cases h;obtain⟨N,e,s⟩:=z;exact⟨G,B,J,r,A,N,e,s⟩
     |ret =>
      cases h;obtain⟨N,s⟩:=z;exact⟨G,B,J,r,A,N,s⟩
  obtain⟨G,B,J,r,A,z⟩:=key m C E D H a w p o h;exact⟨G,B,J,r,A,z.head (.one stepR_loop)⟩
 |.rangeFunc g ps as bd=>by
  intro k hk m ro F C E D H a w b x K M H' p I o h y cs;simp only[Ie] at h;split at h
  ·cases h
  ·rename_i gv hg;split at h
   ·cases h
   ·rename_i l R H1 he;obtain⟨G,B,mark,L,r,A,z,X,q5⟩:=zn4 (P:=P) he p.rel p.env p.defs o;split at h
    ·rename_i t args Z;split at h
     ·cases h
     ·rename_i v H2 ao;obtain⟨d,vs,s1,s2,s3⟩:=zox (P:=P) (w:=B) (ρ:=a.eval) (gop:=g) (fun _=>rfl) ((zaj p.env g _ hg).mono r) X Z;have T:=hk _ _ _ _ _ _ _ _ _ A s3 ao (b.atR { a with defers:=mark++a.defers } (.inRangeFunc L.b::y)::cs);obtain⟨U,w2,v',fr,t1,t2,t3,t4,t5,t6⟩:=T;rw[←I] at z;have ag:=stepR_rangeFunc (P:=P) (b:=b) (a:=a) (k:=y) (cs:=cs) (w:=w) z s1 s2;have back:=step_leave_returned (c:=b.atR { a with defers:=mark++a.defers } (.inRangeFunc L.b::y)) (cs:=cs) t6;rw[finish_atR_inRangeFunc] at back;have V:DR U R ({ a with defers:=mark++a.defers }:Act).defers:=q5.mono t1;have W:ER n U E ({ a with defers:=mark++a.defers }:Act).tmps:=(p.env.mono r).mono t1;split at h
      ·cases h
      ·rename_i H3 O;cases h;obtain⟨w3,u1,u2⟩:=zka (P:=P) O t2 (t1.keep _ _ _ X);refine⟨U,w3,{ a with defers:=mark++a.defers },CM.le_trans r t1,⟨u2,W,V⟩,?_⟩;refine Steps.head ag (Steps.trans t4 (.head back (.one ?_)));rw[stepR_endRangeFunc u1];rfl
      ·rename_i c H3 O;obtain⟨w3,u1,u2⟩:=zka (P:=P) O t2 (t1.keep _ _ _ X);split at h
       ·cases h
       ·rename_i Q hx;cases h;have go:Steps P (lone (b.atR a (.code (.rangeFunc g ps as bd)::y)) cs w) (lone (b.atR { a with defers:=mark++a.defers } (.code c::y)) cs w3) :=
         .head ag (Steps.trans t4 (.head back (.one (by rw[stepR_endRangeFunc u1];rfl))))
        refine⟨U,w3,{ a with defers:=mark++a.defers },CM.le_trans r t1,⟨u2,W,V⟩,?_⟩;unfold exOf at hx;split at hx
        ·cases hx;exact⟨y,go⟩
        ·cases hx;exact⟨y,rfl,go⟩
        ·cases hx
    ·cases h
 |.goto _=>by
  intro k hk m ro F C E D H a w b x K M H' p I o h y cs;cases h
 |.refuse _=>by
  intro k hk m ro F C E D H a w b x K M H' p I o h y cs;cases h
end Go.Sv
namespace Go.Sv
open Go.RowKit (Below)
theorem resF_ok {P:Program}{r:ResultVar}{n:Nat}{D:World}{C:CM}{E:Tr AV}{H:Heap}{w:World}{a:Act}(y:Rel D C H w)(g:ER n C E a.tmps){v:AV}(h:(resF P r).run E H=some v) :
  ∃x,(match r with
   |.tmp t=>pure (a.tmps.getD t undef)
   |.cell c t=>do loadVar t (←asAddr (a.tmps.getD c undef)):Sem Value).run P w=.ok x w∧VR C v x:=by
 have d:∀t,a.eval (.tmp t)=a.tmps.getD t undef:=fun t=>by
  show a.tmps.getD t undef=_;rfl
 cases r with
 |tmp t =>
  simp only[resF] at h;have:=zaj g _ _ h;rw[d] at this;exact⟨_,by simp[Sem.run_pure],this⟩
 |cell c t =>
  unfold resF at h;dsimp only at h ⊢;split at h
  ·rename_i n j z;dsimp only at h;split at h
   ·rename_i o m i ho;split at h
    ·rename_i l p;cases h;have hv:=zaj g _ _ ho;rw[d] at hv;generalize a.tmps.getD c undef=F at hv;cases hv with
     |ptr q =>
      obtain⟨vs,A,s,B,G,_⟩:=y.read P p q;exact⟨.agg vs.toArray,by simp[asAddr,loadVar,z9q j,Kw z,A],.agg (by simpa using s) B⟩
    ·cases h
   ·cases h
  ·rename_i n j z;dsimp only at h;split at h
   ·rename_i o m i ho;split at h
    ·rename_i J p;cases h;have hv:=zaj g _ _ ho;rw[d] at hv;generalize a.tmps.getD c undef=F at hv;cases hv with
     |ptr q =>
      obtain⟨vs,A,s,B,G,K,I⟩:=y.read P p q;have f:=I 0 (by omega)
      match vs,s with
      |[u],.cons hu .nil =>
       simp only[C6,A6] at f;exact⟨u,by simp[asAddr,loadVar,z9q j,f],hu⟩
    ·cases h
   ·cases h
  ·cases h
theorem zsg {P:Program}{n:Nat}{m:World}{C:CM}{E:Tr AV}{H:Heap}{w:World}{a:Act}(g:Rel m C H w)(j:ER n C E a.tmps):∀{l:List ResultVar} {vs:List AV},(zom P l).run E H=some vs →
  ∃xs,(l.mapM fun
   |.tmp t=>pure (a.tmps.getD t undef)
   |.cell c t=>do loadVar t (←asAddr (a.tmps.getD c undef)):Sem (List Value)).run P w=.ok xs w∧VRs C vs xs
 |[],vs,h=>by
  cases h;exact⟨[],by simp[Sem.run_pure],.nil⟩
 |r::l,vs,h=>by
  simp only[zom] at h;split at h
  ·cases h
  ·rename_i v hv;split at h
   ·cases h
   ·rename_i o f;cases h;obtain⟨x,p,q⟩:=resF_ok g j hv;obtain⟨xs,s,y⟩:=zsg g j f;refine⟨x::xs,?_,.cons q y⟩;rw[List.mapM_cons,Sem.run_bind];have d:=p;cases r<;>(dsimp only at d ⊢;rw[d];simp only[Result.andThen_ok,Sem.run_bind,s,Sem.run_pure])
theorem zkr {P:Program}{fn:Func}{n:Nat}{f:World}{C:CM}{E:Tr AV}{H:Heap}{w:World}{a:Act}(g:Rel f C H w)(j:ER n C E a.tmps){vs:List AV}(h:(zom P fn.results.toList).run E H=some vs) :
  ∃x,(results fn a.tmps).run P w=.ok x w∧VR C (match vs with
   |[v]=>v
   |l=>.tup l) x:=by
 obtain⟨xs,m,o⟩:=zsg g j h;have hm:(fn.results.mapM fun
   |.tmp t=>pure (a.tmps.getD t undef)
   |.cell c t=>do loadVar t (←asAddr (a.tmps.getD c undef)):Sem (Array Value)).run P w=.ok xs.toArray w:=by
  rw[Array.mapM_eq_mapM_toList];rw[map_eq_pure_bind,Sem.run_bind,m];rfl
 refine⟨if h:xs.toArray.size=1 then xs.toArray[0] else .tuple xs.toArray,?_,?_⟩
 ·unfold results;rw[Sem.run_bind];exact (congrArg (fun r=>Result.andThen r _) hm).trans rfl
 ·cases o with
  |nil=>exact .tup .nil
  |cons e es =>
   cases es with
   |nil=>exact e
   |cons p d =>
    simp only[List.size_toArray,Ar];rw[dif_neg (by omega)];exact .tup (.cons e (.cons p d))
theorem zwm {P:Program}{fr:Frame}{cs:List Frame}{w:World}{a:Nat}{d:List Deferred}(hm:fr.mode=.returning)(hd:fr.defers={ target:=.collected a,args:=#[] }::d)(hw:w.heap[a]?=some (.deferred (some []))) :
  step P (lone fr cs w)=.next (lone { fr with defers:=d } cs (w.putObj a (.deferred none))) :=
 step_lone_go (by simp[stepG,unwind,hm,hd,Sem.runT_eq,run_takeDeferred hw,GStep.bare_after])
theorem ztk {P:Program}{l:World}{C:CM}:∀{D:List Nat} {o:List Deferred} {H H':Heap} {w:World} {fr:Frame} (cs:List Frame),DR C D o→zac D H=some H'→Rel l C H w→fr.mode=.returning→fr.defers=o →
  ∃w',Rel l C H' w'∧Steps P (lone fr cs w) (lone { fr with defers:=[] } cs w')
 |_,_,H,H',w,fr,cs,.nil,h,a,hm,hd=>by
  cases h;refine⟨w,a,?_⟩;have:fr={ fr with defers:=[] }:=by cases fr;cases hd;rfl
  rw[←this];exact .refl _ _
 |_,_,H,H',w,fr,cs,.cons (d:=d) (L:=L) (r:=r) j q,h,a,hm,hd=>by
  simp only[zac] at h;split at h
  ·rename_i s;obtain⟨p,hw⟩:=a.obj _ _ (a.fresh _ _ _ j) s L j;have m:Rel l C (H.put d (.defd false)) (w.putObj L.b (.deferred none)):=a.putBlock j p (fun _ _ _ _ e=>by cases e) (fun f z g=>by
    rw[j] at g;cases g;exact⟨p,f⟩)
   obtain⟨w',x,y⟩:=ztk (fr:={ fr with defers:=r }) cs q h m hm rfl;exact⟨w',x,.head (zwm hm hd hw) y⟩
  ·cases h
theorem ER.start {C:CM}{args:List AV}{vs:List Value}(hv:VRs C args vs){n:Nat}(hn:n≤It)(hl:args.length≤n):ER n C (Jw args 0 .e) (vs.toArray++Array.replicate (n - vs.toArray.size) undef):=by
 have hlen:=hv.length;refine⟨by simp;omega,hn,fun t ht=>?_⟩;rw[get_ofList args 0 .e t,Qr];rw[Bk];by_cases h:t<args.length
 ·rw[Ag ⟨Dd _,by omega⟩];obtain⟨a,v,q1,q2,q3⟩:=hv.get' h;rw[Nat.sub_zero,q1];rw[Dg (by simp;omega)];simp only[B7,q2,B9];exact q3
 ·rw[Ac (by omega)];show _=undef;rw[Array.getElem?_append_right (by simp;omega),Array.getElem?_replicate];split<;>rfl
theorem We {C:CM}:∀(f:List Tmp) (args:List AV) (vs:List Value) {n:Nat} {E j:Tr AV} {g:Array Value},zy5 f args n E=some j→VRs C args vs→ER n C E g →
  f.length=vs.length∧ER n C j ((f.zip vs).foldl (fun tmps (t,a)=>tmps.setIfInBounds t a) g):=by
 intro f
 induction f with
 |nil =>
  intro args vs n E j g h hv l;cases hv with
  |nil=>cases h;exact⟨rfl,l⟩
  |cons e es=>cases h
 |cons p f q =>
  intro args vs n E j g h hv l;cases hv with
  |nil=>cases h
  |cons e es =>
   simp only[zy5] at h;split at h
   ·rename_i r;have m:p<n:=As r;have o:=ER.put (a:={ tmps:=g,defers:=[] }) l (d:=some p) (fun t s=>by cases s;exact m) e;obtain⟨w,x⟩:=q _ _ h es o;exact⟨by simp[w],x⟩
   ·cases h
theorem zyp {P:Program}(hm:P.follows .mixedOrders=true){k:Jm}(hk:Yi P k){f m:Nat}{p:World}{C:CM}{H H':Heap}{w:World}{args:List AV}{vs:List Value}{v:AV}(S:Rel p C H w)(hv:VRs C args vs)
  (h:(zfp P f).run k m args H=.ok v H'):zo5 P p C w (.fn f) vs v H':=by
 unfold zfp at h;split at h
 ·cases h
 ·rename_i fn z;split at h
  ·cases h
  ·rename_i body A;split at h
   ·rename_i j;dsimp only at h;split at h
    ·cases h
    ·rename_i hlen;have g:args.length≤fn.ntmps:=As hlen;split at h
     ·cases h
     ·rename_i x E D H1 o;intro cs;let b:Frame:={ (default:Frame) with fn:=f,kind:=.normal,roundOf:=none };have d:Frame.enter P f vs.toArray .normal=b.atR { tmps:=vs.toArray++Array.replicate (fn.ntmps - vs.toArray.size) undef,defers:=[] } [.code body]:=by
       simp[Frame.enter,Frame.atR,z,A,b]
      obtain⟨K,T,L,M,q,B⟩:=Ye hm f fn.ntmps body k hk m none p C (Jw args 0 .e) [] H { tmps:=vs.toArray++Array.replicate (fn.ntmps - vs.toArray.size) undef,defers:=[] } w b x E D H1
       ⟨S,ER.start hv j g,.nil⟩ rfl trivial o [] cs
      rw[←d] at B;have key:∀todo,Steps P (lone (Frame.enter P f vs.toArray .normal) cs w) (lone { b.atR L todo with mode:=.returning } cs T) →
        (match zac D H1 with
         |none=>RV.no
         |some r=>match (zom P fn.results.toList).run E r with
          |some [v]=>.ok v r
          |some l=>.ok (.tup l) r
          |none=>.no)=.ok v H' →
        ∃F w' N fr,C.le F∧Rel p F H' w'∧VR F v N∧Steps P (lone (Frame.enter P f vs.toArray .normal) cs w) (lone fr cs w')∧fr.fn=f∧fr.leaving P w' (.returned N):=by
       intro todo O he;split at he
       ·cases he
       ·rename_i r G;obtain⟨Q,y,R⟩:=ztk (fr:={ b.atR L todo with mode:=.returning }) cs q.defs G q.rel rfl rfl;split at he
        ·rename_i v1 a;cases he;obtain⟨I,s1,s2⟩:=zkr (fn:=fn) y q.env a;exact⟨K,Q,I,_,M,y,s2,Steps.trans O R,rfl,rfl,rfl,rfl,fn,z,s1⟩
        ·rename_i l J a;cases he;obtain⟨I,s1,s2⟩:=zkr (fn:=fn) y q.env a;refine⟨K,Q,I,_,M,y,?_,Steps.trans O R,rfl,rfl,rfl,rfl,fn,z,s1⟩;rcases l with _ | ⟨u,_ | ⟨V,l⟩⟩
         ·exact s2
         ·exact absurd rfl (J u)
         ·exact s2
        ·cases he
      cases x with
      |exit id=>cases h
      |normal=>exact key [] (Steps.trans B (.one (stepR_end rfl))) h
      |ret =>
       obtain⟨U,s⟩:=B;exact key (.code .ret::U) (Steps.trans s (.one (stepR_ret rfl))) h
   ·cases h
theorem zro {P:Program}{l:Nat}{x:Ex}{H H':Heap}{v:AV}(h:zih l x H=.ok v H'){y:World}{C:CM}{w:World}(p:Rel y C H w){L:Loc}(m:C l 0=some L) :
  ∃w' z,(Instr.endRound L.b (match x with
   |.normal=>none
   |.ret=>some .ret
   |.exit id=>some (.exit id))).run P w=.ok z w'∧Rel y C H' w'∧VR C v z:=by
 unfold zih at h;split at h
 ·rename_i st pend f n E D a b d B;obtain⟨o,q,r,hd,hw,s⟩:=p.obj _ _ (p.fresh _ _ _ m) B L m;split at h
  ·cases h;refine⟨_,_,run_endRound none hw,p.putBlock m o (fun _ _ _ _ e=>by cases e) (fun g A j=>?_),.bool true⟩;rw[m] at j;cases j;exact⟨o,q,r,hd,g,s⟩
  ·cases h;refine⟨_,_,run_endRound (some .ret) hw,p.putBlock m o (fun _ _ _ _ e=>by cases e) (fun g A j=>?_),.bool false⟩;rw[m] at j;cases j;exact⟨o,q,r,hd,g,s⟩
  ·rename_i id;cases h;refine⟨_,_,run_endRound (some (.exit id)) hw,p.putBlock m o (fun _ _ _ _ e=>by cases e) (fun g A j=>?_),.bool false⟩;rw[m] at j;cases j;exact⟨o,q,r,hd,g,s⟩
 ·cases h
theorem Xm {P:Program}{l:Nat}{H H':Heap}(h:ztc l H=some H'){p:World}{C:CM}{w:World}(o:Rel p C H w){L:Loc}(m:C l 0=some L) :
  ∃w',(Instr.beginRound L.b).run P w=.ok () w'∧Rel p C H' w':=by
 unfold ztc at h;split at h
 ·rename_i pend f n E z a b d r;cases h;obtain⟨q,s,x,hd,hw,y⟩:=o.obj _ _ (o.fresh _ _ _ m) r L m;refine⟨_,run_beginRound hw rfl,o.putBlock m q (fun _ _ _ _ e=>by cases e) (fun g A j=>?_)⟩;rw[m] at j;cases j;exact⟨q,s,x,hd,g,y⟩
 ·cases h
theorem zj3 {P:Program}(hm:P.follows .mixedOrders=true){O:Jm}(S:Yi P O):∀m,Yi P (Kn P O m)
 |0=>fun _ _ _ _ _ _ _ _ _ _ _ h=>by cases h
 |m+1=>by
  have B:=zj3 hm S m;intro T C H w t args vs v H' o hv h;unfold Kn at h;cases t with
  |fn f =>
   dsimp only at h;split at h
   ·rename_i v1 H1 ho;cases h;exact S _ _ _ _ _ _ _ _ _ o hv ho
   ·exact zyp hm B o hv h
  |yield l =>
   dsimp only at h;split at h
   ·rename_i f n E p a b d V;split at h
    ·cases h
    ·rename_i E1 F;split at h
     ·rename_i U W G;split at h
      ·cases h
      ·rename_i I J;split at h
       ·cases h
       ·rename_i x X D Y K;split at h
        ·intro L q c cs;obtain⟨hB,r,Ld,hd,hw,Z⟩:=o.obj _ _ (o.fresh _ _ _ q) V L q;obtain⟨hlen,M⟩:=We _ _ _ F hv Z;have N:=run_yield (P:=P) (args:=vs.toArray) hw (by simpa using hlen.symm);dsimp only at N;have j:((p.zip vs.toArray).foldl (fun tmps (t,a)=>tmps.setIfInBounds t a) r)=((p.toList.zip vs).foldl (fun tmps (t,a)=>tmps.setIfInBounds t a) r):=by
          rw[←Array.foldl_toList,Array.toList_zip]
         rw[j] at N;let y:Frame:={ (default:Frame) with fn:=f,kind:=.normal,roundOf:=some L.b };have z:RO C (some l) y.roundOf:=⟨L,q,rfl⟩;obtain⟨C1,w1,a1,A,Q,q3⟩:=Ye hm f n a (Kn P O m) B m (some l) T C E1 [] H { tmps:=(p.toList.zip vs).foldl (fun tmps (t,a)=>tmps.setIfInBounds t a) r,defers:=[] } w y .normal U [] W
          ⟨o,M,.nil⟩ rfl z G [.beginRound,.code b] (c::cs)
         obtain⟨w2,r1,r2⟩:=Xm (P:=P) J Q.rel (A.keep _ _ _ q);obtain⟨C2,w3,a3,s1,s2,R⟩:=Ye hm f n b (Kn P O m) B m (some l) T C1 U [] I a1 w2 y x X [] Y ⟨r2,Q.env,Q.defs⟩ rfl (z.mono A) K [] (c::cs);obtain⟨w4,xv,t1,t2,t3⟩:=zro (P:=P) h s2.rel (s1.keep _ _ _ (A.keep _ _ _ q));refine⟨C2,w4,xv,f,_,a,b,CM.le_trans A s1,t2,t3,N,?_⟩;have g:Frame.round L.b f ((p.toList.zip vs).foldl (fun tmps (t,a)=>tmps.setIfInBounds t a) r) a b .normal=y.atR { tmps:=(p.toList.zip vs).foldl (fun tmps (t,a)=>tmps.setIfInBounds t a) r,defers:=[] } [.code a,.beginRound,.code b]:=by
          simp[Frame.round,Frame.atR,y]
         rw[g];refine Steps.trans q3 (.head (stepR_beginRound rfl r1) ?_);cases x with
         |normal=>exact Steps.trans R (.one (stepR_round_end rfl rfl t1))
         |ret =>
          obtain⟨k1,s⟩:=R;exact Steps.trans s (.one (stepR_round_ret rfl rfl t1))
         |exit id =>
          obtain⟨k1,e,s⟩:=R;exact Steps.trans s (.one (stepR_round_exit rfl rfl e t1))
        ·cases h
     ·cases h
   ·cases h
theorem Rel.start (w:World):Rel w ⟨fun _ _=>none,0⟩ ⟨.e,0⟩ w :=
 ⟨rfl,.refl _ _,fun _ _ _ h=>(by cases h),fun _ _ _ h=>(by cases h),fun _ _ _ _ _ _ h=>(by cases h),fun _ _ h=>absurd h (Ei _),fun _ _ _ _ _ h=>absurd h (Ei _)⟩
end Go.Sv
namespace Go.Sv
open Go.RowKit Go.ChangeShapes Go.WideShapes Go.ChangeAt
variable {H : Type} {enc : TypeId × Value → H} {P : Program}
theorem zv2 {f:Func}{s:ChangeSpec}{apart fresh handsOn again:Bool}{W m:World}{args:Array Value}{v:Value}{o gs:List (DataW H)}{before pa pv:List MemPlace}
  (y:DataW.Whole enc P f.params.toList s.vars apart W args.toList o gs before)
  (h:∀(b:Nat) (sp:Nat→Bool) (hd:Bool),DataW.TrodAll enc P m b sp hd f.resultTypes.toList (v.resultList f.resultTypes.size) (s.fn H (o++gs)).results [])
  (a:∀sp:Nat→Bool,(∀p∈before,sp p.block=true)→DataW.TrodAll enc P m 0 sp true f.params.toList args.toList (s.fn H (o++gs)).args pa)
  (d:∀sp:Nat→Bool,(∀p∈before,sp p.block=true)→DataW.TrodVars enc P m sp s.vars (s.fn H (o++gs)).vars pv)
  (g:before=pa++pv) (A:Below W.heap.size W m)
  (z:∀(j:Nat) (t:TypeId) (r:Value),f.resultTypes[j]?=some t→(v.resultList f.resultTypes.size)[j]?=some r→Value.okWide P m .any 0 t r) :
  s.post enc P f apart fresh handsOn again W args v m:=by
 have q:=y.lt;obtain⟨_,_,_,_,_,B,C⟩:=id y;have w:∀p∈before,(fun b=>decide (b<W.heap.size)) p.block=true:=fun p l=>by simpa using q p l
 refine⟨o,gs,before,[],pa,pv,y,h _ _ _,a _ w,d _ w,World.keptBut_mono (fun p l=>⟨l,.inr (Az.1 (g ▸ l))⟩) (A.frame (·∈before)),fun _=>?_⟩;refine⟨z,_,_,([]++pa)++pv,⟨[]++pa,pv,trodAll_append (a _ (fun _ _=>rfl)) (h _ _ _),d _ (fun _ _=>rfl),rfl,fun b off l=>?_,fun D=>?_⟩,fun p l _=>by rw[g];simpa using l⟩
 ·have x:MemPlace.cell b off∈before:=by rw[g];simpa using l
  rw[A.frozen (p:=⟨b,off,none⟩) (q _ x)];exact B b off x
 ·have:=C D;rw[g] at this;simpa using this
end Go.Sv
namespace Go.Sv
def Jm.le (k k':Jm):Prop:=∀t a H v H',k t a H=.ok v H'→k' t a H=.ok v H'
theorem z4g {P:Program}{n:Nat}{ops:Array Oper}{o:Oper}{k k':Jm}(hk:k.le k'){E f:Tr AV}{H H':Heap}(h:(Ji P n ops o).run k E H=.ok f H'):(Ji P n ops o).run k' E H=.ok f H':=by
 unfold Ji at h ⊢;cases g:Jc n o.dst with
 |none=>rw[g] at h;cases h
 |some p =>
  rw[g] at h;dsimp only at h ⊢;cases j:(Kt ops o).run E with
  |false=>rw[j] at h;exact h
  |true =>
   rw[j] at h;dsimp only at h ⊢;cases a:(Gi P o.op).run E H with
   |no=>rw[a] at h;cases h
   |val v l=>rw[a] at h;exact h
   |call t args =>
    rw[a] at h;dsimp only at h ⊢;cases d:k t args H with
    |no=>rw[d] at h;cases h
    |ok v l=>rw[d] at h;rw[hk _ _ _ _ _ d];exact h
theorem z9p {r:OE}{f:Tr AV→Heap→OE}{a:Tr AV}{H':Heap}(h:(OE.rec .no f r:OE)=.ok a H'):∃E1 H1,r=.ok E1 H1∧f E1 H1=.ok a H':=by
 cases r with
 |no=>cases h
 |ok E1 H1=>exact⟨E1,H1,rfl,h⟩
theorem zbd {P:Program}{n:Nat}{ops:Array Oper}{k k':Jm}(hk:k.le k'):∀{l:List Oper} {E a:Tr AV} {H H':Heap},(Yc P n ops l).run k E H=.ok a H'→(Yc P n ops l).run k' E H=.ok a H'
 |[],_,_,_,_,h=>h
 |o::l,E,a,H,H',h=>by
  simp only[Yc] at h ⊢;obtain⟨E1,H1,d,f⟩:=z9p h;rw[z4g hk d];exact zbd hk f
theorem z6f {P:Program}{n:Nat}{ops:Array Oper}{k k':Jm}(hk:k.le k'):∀{l pend:List DOp} {E f:Tr AV} {H H':Heap},(Np P n ops l pend).run k E H=.ok f H'→(Np P n ops l pend).run k' E H=.ok f H'
 |[],_,_,_,_,_,h=>h
 |x::l,pend,E,f,H,H',h=>by
  simp only[Np] at h ⊢;split at h
  ·rename_i g;obtain⟨E1,H1,a,d⟩:=z9p h;dsimp only;rw[z4g hk a];exact z6f hk d
  ·rename_i g;obtain⟨E1,H1,a,d⟩:=z9p h;dsimp only;rw[z4g hk a];exact z6f hk d
  ·rename_i g;obtain⟨E1,H1,a,d⟩:=z9p h;obtain⟨j,m⟩:=za9 d;dsimp only;rw[z4g hk a];dsimp only;rw[j];exact z6f hk m
  ·rename_i g;obtain⟨E1,H1,a,d⟩:=z9p h;obtain⟨j,m⟩:=za9 d;dsimp only;rw[z4g hk a];dsimp only;rw[j];exact z6f hk m
theorem zlx {P:Program}{n:Nat}{ops:Array Oper}{k k':Jm}(hk:k.le k'){E a:Tr AV}{H H':Heap}(h:(zai P n ops).run k E H=.ok a H'):(zai P n ops).run k' E H=.ok a H':=by
 unfold zai at h ⊢;dsimp only at h ⊢;split at h
 ·exact z6f hk h
 ·cases h
theorem zcr {f g:Tr AV→List Nat→Heap→Res}(l:∀E D H x a d H',f E D H=.ok x a d H'→g E D H=.ok x a d H'):∀{m j:Nat},m≤j→∀{E D H x a d H'},Wt f m E D H=.ok x a d H'→Wt g j E D H=.ok x a d H'
 |0,_,_,_,_,_,_,_,_,_,h=>by cases h
 |m+1,0,hm,_,_,_,_,_,_,_,_=>by omega
 |m+1,j+1,hm,E,D,H,x,a,d,H',h=>by
  simp only[Wt] at h ⊢;split at h
  ·cases h
  ·rename_i y E1 p H1 o;rw[l _ _ _ _ _ _ _ o];dsimp only;split at h
   ·exact zcr l (by omega) h
   ·exact h
theorem z2q {P:Program}{f n:Nat}{k k':Jm}(hk:k.le k'){m w:Nat}(hm:m≤w){ro:Option Nat}:∀(c:Code) {E:Tr AV} {D:List Nat} {H:Heap} {x:Ex} {d:Tr AV} {j:List Nat} {H':Heap},
  (Ie P f n c).run k m ro E D H=.ok x d j H'→(Ie P f n c).run k' w ro E D H=.ok x d j H':=by
 intro c
 induction c with
 |skip=>intro E D H x d j H' h;exact h
 |region id ops draw =>
  intro E D H x d j H' h;simp only[Ie] at h ⊢;cases draw with
  |true =>
   dsimp only at h ⊢;split at h
   ·cases h
   ·rename_i E1 H1 o;rw[zlx hk o];exact h
  |false =>
   dsimp only at h ⊢;split at h
   ·cases h
   ·rename_i E1 H1 o;rw[zbd hk o];exact h
 |seq a b p q =>
  intro E D H x d j H' h;simp only[Ie] at h ⊢;cases s:(Ie P f n a).run k m ro E D H with
  |no=>rw[s] at h;cases h
  |ok y E1 z H1 =>
   rw[s] at h;rw[p s];dsimp only at h ⊢;cases y with
   |normal=>exact q h
   |exit id=>exact h
   |ret=>exact h
 |cond c a b p q =>
  intro E D H x d j H' h;simp only[Ie] at h ⊢;split at h
  ·split at h
   ·exact p h
   ·exact q h
  ·cases h
 |block id c r =>
  intro E D H x d j H' h;simp only[Ie] at h ⊢;split at h
  ·cases h
  ·rename_i y E1 z H1 o;rw[r o];exact h
 |loop c r =>
  intro E D H x d j H' h;simp only[Ie] at h ⊢;exact zcr (fun E D H x d j H' h=>r h) hm h
 |rangeFunc g A a b _ _ =>
  intro E D H x d j H' h;simp only[Ie] at h ⊢;split at h
  ·cases h
  ·split at h
   ·cases h
   ·split at h
    ·split at h
     ·cases h
     ·rename_i v B o;rw[hk _ _ _ _ _ o];exact h
    ·cases h
 |exit id=>intro E D H x d j H' h;exact h
 |scope c r=>intro E D H x d j H' h;exact r h
 |label l=>intro E D H x d j H' h;exact h
 |ret=>intro E D H x d j H' h;exact h
 |_=>intro E D H x d j H' h;cases h
theorem zqh {P:Program}{f:Nat}{k k':Jm}(hk:k.le k'){m d:Nat}(hm:m≤d){args:List AV}{H:Heap}{v:AV}{H':Heap}(h:(zfp P f).run k m args H=.ok v H'):(zfp P f).run k' d args H=.ok v H':=by
 unfold zfp at h ⊢;cases g:P.funcs[f]? with
 |none=>rw[g] at h;cases h
 |some fn =>
  rw[g] at h;dsimp only at h ⊢;cases j:fn.body with
  |none=>rw[j] at h;cases h
  |some body =>
   rw[j] at h;dsimp only at h ⊢;by_cases l:fn.ntmps≤It
   ·rw[Ag l] at h ⊢;dsimp only at h ⊢;cases o:Nat.ble args.length fn.ntmps with
    |false=>rw[o] at h;cases h
    |true =>
     rw[o] at h;dsimp only at h ⊢;cases a:(Ie P f fn.ntmps body).run k m none (Jw args 0 .e) [] H with
     |no=>rw[a] at h;cases h
     |ok x E D H1=>rw[a] at h;rw[z2q hk hm _ a];exact h
   ·rw[Ac l] at h;cases h
theorem Yg {P:Program}{O:Jm}:∀{m g:Nat},m≤g→Jm.le (Kn P O m) (Kn P O g)
 |0,_,_=>fun t a H v H' h=>by cases h
 |m+1,0,h=>by omega
 |m+1,g+1,hm=>by
  have j:=Yg (P:=P) (O:=O) (show m≤g by omega);intro t a H v H' h;unfold Kn at h ⊢;cases t with
  |fn f =>
   dsimp only at h ⊢;cases ho:O (.fn f) a H with
   |no=>rw[ho] at h;exact zqh j (by omega) h
   |ok v1 H1=>rw[ho] at h;exact h
  |yield l =>
   dsimp only at h ⊢;split at h
   ·rename_i f n E s A b d B;cases q:zy5 s.toList a n E with
    |none=>rw[q] at h;cases h
    |some E1 =>
     rw[q] at h;dsimp only at h ⊢;split at h
     ·rename_i w y z;rw[z2q j (by omega) _ z];dsimp only;cases r:ztc l y with
      |none=>rw[r] at h;cases h
      |some o =>
       rw[r] at h;dsimp only at h ⊢;cases p:(Ie P f n b).run (Kn P O m) m (some l) w [] o with
       |no=>rw[p] at h;cases h
       |ok x C D F=>rw[p] at h;rw[z2q j (by omega) _ p];exact h
     ·cases h
   ·cases h
end Go.Sv
noncomputable section
namespace Go.Sv
abbrev Sk:=Nat→Option AV
def upd (ρ:Sk)(d:Nat)(a:AV):Sk:=fun t=>match Nat.beq t d with
 |true=>some a
 |false=>ρ t
def Nu (E:Tr AV)(ρ:Sk):Prop:=∀t,t≤It→E3 (Fl t) E=ρ t
inductive Ox where
 |t (i:Nat)
 |c (a:AV)
def Ox.ev (ρ:Sk):Ox→AV
 |.t i=>(ρ i).getD J4
 |.c a=>a
def Gn:Operand→Option Ox
 |.tmp t=>if t≤It then some (.t t) else none
 |.const v=>(Po v).map .c
 |.func f=>some (.c (.fn (.func f) [] []))
 |.global _=>none
theorem M9 {x:Operand}{r:Ox}(h:Gn x=some r){E:Tr AV}{ρ:Sk}(j:Nu E ρ):(Ft x).run E=some (r.ev ρ):=by
 cases x with
 |tmp t =>
  simp only[Gn] at h;split at h
  ·rename_i d;cases h;unfold Ft;dsimp only;rw[Al d];dsimp only;rw[j t d];simp only[Ox.ev];cases ρ t<;>rfl
  ·cases h
 |const v =>
  simp only[Gn] at h;cases hv:Po v with
  |none=>rw[hv] at h;cases h
  |some a=>rw[hv] at h;cases h;unfold Ft;dsimp only;rw[hv];rfl
 |global g=>cases h
 |func f=>cases h;rfl
def Y2:List Operand→Option (List Ox)
 |[]=>some []
 |x::l=>match Gn x with
  |none=>none
  |some r=>match Y2 l with
   |none=>none
   |some rs=>some (r::rs)
theorem resOs_ok:∀{l:List Operand} {rs:List Ox},Y2 l=some rs→∀{E:Tr AV} {ρ:Sk},Nu E ρ→(opds l).run E=some (rs.map (·.ev ρ))
 |[],rs,h,E,ρ,a=>by cases h;rfl
 |x::l,rs,h,E,ρ,a=>by
  simp only[Y2] at h;cases d:Gn x with
  |none=>rw[d] at h;cases h
  |some r =>
   rw[d] at h;dsimp only at h;cases f:Y2 l with
   |none=>rw[f] at h;cases h
   |some g =>
    rw[f] at h;cases h;unfold opds;dsimp only;rw[M9 d a,resOs_ok f a];rfl
def Ze:Option Operand→Option (Option Ox)
 |none=>some none
 |some x=>match Gn x with
  |none=>none
  |some r=>some (some r)
def Hz (ρ:Sk):Option Ox→Option (Option Nat)
 |none=>some none
 |some r=>match r.ev ρ with
  |.int _ (.ofNat n)=>some (some n)
  |_=>none
theorem z73 {x:Option Operand}{r:Option Ox}(h:Ze x=some r){E:Tr AV}{ρ:Sk}(f:Nu E ρ):(Is x).run E=Hz ρ r:=by
 cases x with
 |none=>cases h;rfl
 |some x =>
  simp only[Ze] at h;cases d:Gn x with
  |none=>rw[d] at h;cases h
  |some q =>
   rw[d] at h;cases h;unfold Is Hz;dsimp only;rw[M9 d f];generalize q.ev ρ=a;split
   ·rename_i n e;cases e;rfl
   ·rename_i e;split
    ·rename_i k n;exact absurd rfl (e k n)
    ·rfl
inductive ROp where
 |move (x:Ox)
 |pick (c a b:Ox)
 |alloc (l:List AV)
 |box (x:Ox)
 |build (cs:List AV) (ps:List (Nat×Nat×Ox))
 |buildSl (size len:Nat) (cs:List AV) (ps:List (Nat×Nat×Ox))
 |load1 (x:Ox)
 |loadN (n:Nat) (x:Ox)
 |store (n:Nat) (x y:Ox)
 |nilChk (x:Ox)
 |bin (op:BinOp) (g:Bool) (t:TypeId) (x y:Ox)
 |un (op:UnOp) (x:Ox)
 |cvInt (k:IntKind) (x:Ox)
 |cvStr (x:Ox)
 |cvSame (x:Ox)
 |cvBytes (x:Ox)
 |mkIface (t:TypeId) (x:Ox)
 |mkFunc (f:Fn) (first cap:List Ox)
 |mkMap0
 |mkMap1 (x:Ox)
 |mkSl (size:Nat) (z:List AV) (l c:Ox)
 |slStr (x:Ox) (lo hi:Option Ox)
 |slSl (size:Nat) (x:Ox) (lo hi mx:Option Ox)
 |slArr (n size:Nat) (x:Ox) (lo hi mx:Option Ox)
 |fieldAddr (off:Nat) (x:Ox)
 |field (g:Bool) (n off:Nat) (x:Ox)
 |ixAddr (size:Nat) (x i:Ox)
 |ixAddrArr (len size:Nat) (x i:Ox)
 |ixStr (x i:Ox)
 |ixArr (g:Bool) (len size:Nat) (x i:Ox)
 |lookup (d:TypeDesc) (z:AV) (ok:Bool) (x i:Ox)
 |mapUpd (d:TypeDesc) (m k v:Ox)
 |range (x:Ox)
 |next (x:Ox)
 |assert (z:AV) (ok:Bool) (t:TypeId) (x:Ox)
 |extract (i:Nat) (x:Ox)
 |lenStr (x:Ox)
 |lenSl (x:Ox)
 |lenMap (x:Ox)
 |lenArr (n:Nat) (x:Ox)
 |cap (x:Ox)
 |maxi (mx:Bool) (l:List Ox)
 |appZ (size:Nat) (z:List AV) (s x:Ox)
 |appG (size:Nat) (s x:Ox)
 |copy (size:Nat) (d x:Ox)
 |clear (size:Nat) (z:List AV) (x:Ox)
 |delete (d:TypeDesc) (m k:Ox)
 |callV (f:Ox) (args:List Ox)
 |invoke (r:Ox) (name:String) (args:List Ox)
def fillR (ρ:Sk)(cs:List AV):List (Nat×Nat×Ox)→Option (List AV)
 |[]=>some cs
 |(off,size,x)::a=>match (x.ev ρ).cells with
  |none=>none
  |some l=>match Nat.beq l.length size with
   |true=>match Nat.ble (Nat.add off size) cs.length with
    |true=>fillR ρ (M0 cs off l) a
    |false=>none
   |false=>none
def Hc (P:Program)(ρ:Sk)(H:Heap):ROp→OR
 |.move x=>.val (x.ev ρ) H
 |.pick c a b=>match c.ev ρ with
  |.bool true=>.val (a.ev ρ) H
  |.bool false=>.val (b.ev ρ) H
  |_=>.no
 |.alloc l=>Qg H l
 |.box x=>match (x.ev ρ).cells with
  |some l=>Qg H l
  |none=>.no
 |.build cs q=>match fillR ρ cs q with
  |some l=>.val (.agg l) H
  |none=>.no
 |.buildSl size len cs q=>match fillR ρ cs q with
  |some l=>match newObj H l with
   |some (o,H')=>.val (.sl o 0 0 len size (some len)) H'
   |none=>.no
  |none=>.no
 |.load1 x=>match x.ev ρ with
  |.ptr o v i=>match Jd H o v i 1 with
   |some [c]=>.val c H
   |_=>.no
  |_=>.no
 |.loadN n x=>match x.ev ρ with
  |.ptr o v i=>match Jd H o v i n with
   |some l=>.val (.agg l) H
   |none=>.no
  |_=>.no
 |.store n x y=>match x.ev ρ with
  |.ptr o v i=>match (y.ev ρ).cells with
   |some l=>match Nat.beq l.length n with
    |true=>match Ow H o v i l with
     |some H'=>.val J4 H'
     |none=>.no
    |false=>.no
   |none=>.no
  |_=>.no
 |.nilChk x=>z8o H (x.ev ρ)
 |.bin op g t x y=>ret1 H (Hx P op g t (x.ev ρ) (y.ev ρ))
 |.un op x=>ret1 H (unA op (x.ev ρ))
 |.cvInt k x=>match x.ev ρ with
  |.int _ n=>.val (.int k (Nz k n)) H
  |_=>.no
 |.cvStr x=>match x.ev ρ with
  |.nilSl=>.val (.str 0 0) H
  |.sl o v i len 1 _=>match Jd H o v i len with
   |some l=>match Oz.bytesA l with
    |some n=>.val (.str len n) H
    |none=>.no
   |none=>.no
  |_=>.no
 |.cvSame x=>match x.ev ρ with
  |.str l n=>.val (.str l n) H
  |_=>.no
 |.cvBytes x=>match x.ev ρ with
  |.str len n=>match newObj H ((Ot len n).map fun (b:Nat)=>AV.int .u8 (Int.ofNat b)) with
   |some (o,H')=>.val (.sl o 0 0 len 1 none) H'
   |none=>.no
  |_=>.no
 |.mkIface t x=>.val (.iface t (x.ev ρ)) H
 |.mkFunc f first cap=>.val (.fn f (first.map (·.ev ρ)) (cap.map (·.ev ρ))) H
 |.mkMap0=>R1 H
 |.mkMap1 x=>match x.ev ρ with
  |.int _ _=>R1 H
  |_=>.no
 |.mkSl size z l c=>match l.ev ρ,c.ev ρ with
  |.int .i64 (.ofNat l),.int .i64 (.ofNat c)=>match Nat.ble l c with
   |true=>match Nat.ble c 1048576 with
    |true=>match newObj H (Lp z c) with
     |some (o,H')=>.val (.sl o 0 0 l size (some c)) H'
     |none=>.no
    |false=>.no
   |false=>.no
  |_,_=>.no
 |.slStr x lo hi=>match x.ev ρ,Hz ρ lo,Hz ρ hi with
  |.str len n,some lo,some hi =>
   let l:=lo.getD 0;let h:=hi.getD len
   match Nat.ble l h with
   |true=>match Nat.ble h len with
    |true=>.val (.str (Nat.sub h l) (Nat.mod (Nat.div n (Nat.pow 256 l)) (Nat.pow 256 (Nat.sub h l)))) H
    |false=>.no
   |false=>.no
  |_,_,_=>.no
 |.slSl size x lo hi mx=>match x.ev ρ,Hz ρ lo,Hz ρ hi,Hz ρ mx with
  |.sl o v i len esz room,some lo,some hi,some mx=>ret1 H (Ok size lo hi mx o v i len esz room)
  |.nilSl,some lo,some hi,some none=>match Nat.beq (Nat.add (lo.getD 0) (hi.getD 0)) 0 with
   |true=>.val .nilSl H
   |false=>.no
  |.emp,some lo,some hi,some none=>match Nat.beq (Nat.add (lo.getD 0) (hi.getD 0)) 0 with
   |true=>.val .emp H
   |false=>.no
  |_,_,_,_=>.no
 |.slArr n size x lo hi mx=>match x.ev ρ,Hz ρ lo,Hz ρ hi,Hz ρ mx with
  |.ptr o v i,some lo,some hi,some mx=>match H.get o with
   |some (.cells _ p w false)=>match Nat.beq v w with
    |true=>match Nat.ble (Nat.add i (Nat.mul n size)) p with
     |true=>ret1 H (Ok size lo hi mx o v i n size (some n))
     |false=>.no
    |false=>.no
   |_=>.no
  |_,_,_,_=>.no
 |.fieldAddr off x=>match x.ev ρ with
  |.ptr o v i=>.val (.ptr o v (Nat.add i off)) H
  |_=>.no
 |.field g n off x=>match x.ev ρ with
  |.agg l=>ret1 H (X4 g n l off)
  |_=>.no
 |.ixAddr size x i=>match x.ev ρ,i.ev ρ with
  |.sl o v i len esz _,.int _ (.ofNat n)=>match Nat.blt n len with
   |true=>match Nat.beq esz size with
    |true=>.val (.ptr o v (Nat.add i (Nat.mul n esz))) H
    |false=>.no
   |false=>.no
  |_,_=>.no
 |.ixAddrArr len size x i=>match x.ev ρ,i.ev ρ with
  |.ptr o v i,.int _ (.ofNat n)=>match Nat.blt n len with
   |true=>.val (.ptr o v (Nat.add i (Nat.mul n size))) H
   |false=>.no
  |_,_=>.no
 |.ixStr x i=>match x.ev ρ,i.ev ρ with
  |.str len n,.int _ (.ofNat i)=>match Nat.blt i len with
   |true=>.val (.int .u8 (Int.ofNat (Nat.mod (Nat.div n (Nat.pow 256 i)) 256))) H
   |false=>.no
  |_,_=>.no
 |.ixArr g len size x i=>match x.ev ρ,i.ev ρ with
  |.agg l,.int _ (.ofNat n)=>match Nat.blt n len with
   |true=>ret1 H (X4 g size l (Nat.mul n size))
   |false=>.no
  |_,_=>.no
 |.lookup d z ok x i=>match zz5 H (x.ev ρ) with
  |none=>.no
  |some es=>match zpd d (i.ev ρ) es with
   |some (some v)=>.val (if ok then .tup [v,.bool true] else v) H
   |some none=>.val (if ok then .tup [z,.bool false] else z) H
   |none=>.no
 |.mapUpd d m k v=>match m.ev ρ with
  |.map o=>match H.get o with
   |some (.map es clock)=>match zbz d (k.ev ρ) (v.ev ρ) clock es with
    |some (j,true)=>.val J4 (H.put o (.map j (Nat.add clock 1)))
    |some (j,false)=>.val J4 (H.put o (.map j clock))
    |none=>.no
   |_=>.no
  |_=>.no
 |.range x=>match x.ev ρ with
  |.str len n=>.val (.ptr H.next 0 0) (H.push (.iter len n 0))
  |_=>.no
 |.next x=>match x.ev ρ with
  |.ptr o 0 0=>match H.get o with
   |some (.iter len n pos)=>match Nat.blt pos len with
    |true=>match Nat.blt (Nat.mod (Nat.div n (Nat.pow 256 pos)) 256) 128 with
     |true=>.val (.tup [.bool true,.int .i64 (Int.ofNat pos),.int .i32 (Int.ofNat (Nat.mod (Nat.div n (Nat.pow 256 pos)) 256))]) (H.put o (.iter len n (Nat.add pos 1)))
     |false=>.no
    |false=>.val (.tup [.bool false]) H
   |_=>.no
  |_=>.no
 |.assert z ok t x=>match x.ev ρ with
  |.nilIf=>if ok then .val (.tup [z,.bool false]) H else .no
  |.iface A v=>match Nat.beq A t with
   |true=>.val (if ok then .tup [v,.bool true] else v) H
   |false=>if ok then .val (.tup [z,.bool false]) H else .no
  |_=>.no
 |.extract i x=>match x.ev ρ with
  |.tup l=>ret1 H l[i]?
  |_=>.no
 |.lenStr x=>match x.ev ρ with
  |.str l _=>.val (.int .i64 (Int.ofNat l)) H
  |_=>.no
 |.lenSl x=>match x.ev ρ with
  |.sl _ _ _ len _ _=>.val (.int .i64 (Int.ofNat len)) H
  |.nilSl=>.val (.int .i64 0) H
  |.emp=>.val (.int .i64 0) H
  |_=>.no
 |.lenMap x=>match x.ev ρ with
  |.nilMap=>.val (.int .i64 0) H
  |.map o=>match H.get o with
   |some (.map es _)=>.val (.int .i64 (Int.ofNat es.length)) H
   |_=>.no
  |_=>.no
 |.lenArr n _=>.val (.int .i64 (Int.ofNat n)) H
 |.cap x=>match x.ev ρ with
  |.nilSl=>.val (.int .i64 0) H
  |.sl _ _ _ _ _ (some r)=>.val (.int .i64 (Int.ofNat r)) H
  |_=>.no
 |.maxi mx l=>match (l.map (fun (x:Ox)=>x.ev ρ):List AV) with
  |.int k n::l=>ret1 H (Tl mx (.int k n) l)
  |_=>.no
 |.appZ size z s x=>match x.ev ρ with
  |.int .i64 (.ofNat n)=>match Nat.ble n 1048576 with
   |true=>Pa H size (s.ev ρ) n (Lp z n)
   |false=>.no
  |_=>.no
 |.appG size s x=>match Ww H size (x.ev ρ) with
  |some (n,l)=>match Nat.ble n 1048576 with
   |true=>Pa H size (s.ev ρ) n l
   |false=>.no
  |none=>.no
 |.copy size d x=>match Ww H size (x.ev ρ) with
  |some (n,l)=>match d.ev ρ with
   |.nilSl=>.val (.int .i64 0) H
   |.emp=>.val (.int .i64 0) H
   |.sl o v i len esz _=>match Nat.beq esz size with
    |true=>match Ow H o v i (l.take (Nat.mul (Il n len) size)) with
     |some H'=>.val (.int .i64 (Int.ofNat (Il n len))) H'
     |none=>.no
    |false=>.no
   |_=>.no
  |none=>.no
 |.clear size z x=>match x.ev ρ with
  |.nilSl=>.val J4 H
  |.emp=>.val J4 H
  |.sl o v i len esz _=>match Nat.beq esz size with
   |true=>match Ow H o v i (Lp z len) with
    |some H'=>.val J4 H'
    |none=>.no
   |false=>.no
  |_=>.no
 |.delete d m k=>match m.ev ρ with
  |.map o=>match H.get o with
   |some (.map es clock)=>match zjl d (k.ev ρ) es with
    |some j=>.val J4 (H.put o (.map j clock))
    |none=>.no
   |_=>.no
  |_=>.no
 |.callV f args=>zji P H (f.ev ρ) (args.map (·.ev ρ))
 |.invoke r name args=>match r.ev ρ with
  |.iface t v=>match zhk P t name with
   |some f=>match z7r P f with
    |true=>.call (.fn f) (v::args.map (·.ev ρ))
    |false=>.no
   |none=>.no
  |_=>.no
def Yr (place:Nat→Option (Nat×Nat)):List (Nat×Operand)→Option (List (Nat×Nat×Ox))
 |[]=>some []
 |(i,x)::l=>match place i with
  |none=>none
  |some (o,s)=>match Gn x with
   |none=>none
   |some r=>match Yr place l with
    |none=>none
    |some q=>some ((o,s,r)::q)
def Ht (x:Operand)(f:Ox→ROp):Option ROp:=match Gn x with
 |none=>none
 |some r=>some (f r)
def Jy (x y:Operand)(f:Ox→Ox→ROp):Option ROp:=match Gn x with
 |none=>none
 |some r=>match Gn y with
  |none=>none
  |some q=>some (f r q)
def zgo (size:Nat)(f:Nat→Ox→Option Ox→Option Ox→Option Ox→ROp)(x:Operand)(lo hi mx:Option Operand):Option ROp :=
 match Gn x,Ze lo,Ze hi,Ze mx with
 |some r,some a,some b,some c=>some (f size r a b c)
 |_,_,_,_=>none
def zqd (P:Program)(c:Call):Option ROp :=
 match c.callee with
 |.builtin b=>match b with
  |.len=>match c.argTypes.toList,c.args.toList with
   |[t],[x]=>match P.underlying t with
    |some .string=>Ht x .lenStr
    |some (.slice _)=>Ht x .lenSl
    |some (.map _ _)=>Ht x .lenMap
    |some (.array n _)=>Ht x (.lenArr n)
    |_=>none
   |_,_=>none
  |.cap=>match c.argTypes.toList,c.args.toList with
   |[t],[x]=>match P.underlying t with
    |some (.slice _)=>Ht x .cap
    |_=>none
   |_,_=>none
  |.max=>match Y2 c.args.toList with
   |some l=>some (.maxi true l)
   |none=>none
  |.min=>match Y2 c.args.toList with
   |some l=>some (.maxi false l)
   |none=>none
  |.append=>match c.argTypes.toList,c.args.toList with
   |[st,a],[s,x]=>match P.underlying st,P.underlying a with
    |some (.slice elem),some d=>match P.info? elem,Kz P elem with
     |some i,some z=>if 0<i.size∧i.bytes≤65536 then match d with
      |.int _=>Jy s x (.appZ i.size z)
      |.slice _=>Jy s x (.appG i.size)
      |.string=>Jy s x (.appG i.size)
      |_=>none
      else none
     |_,_=>none
    |_,_=>none
   |_,_=>none
  |.copy=>match c.argTypes.toList,c.args.toList with
   |[st,_],[d,x]=>match P.underlying st with
    |some (.slice elem)=>match Hj P elem with
     |none=>none
     |some size=>if 0<size then Jy d x (.copy size) else none
    |_=>none
   |_,_=>none
  |.clear=>match c.argTypes.toList,c.args.toList with
   |[st],[x]=>match P.underlying st with
    |some (.slice elem)=>match Hj P elem,Kz P elem with
     |some size,some z=>if 0<size then Ht x (.clear size z) else none
     |_,_=>none
    |_=>none
   |_,_=>none
  |.delete=>match c.argTypes.toList,c.args.toList with
   |[mt,_],[m,k]=>match P.underlying mt with
    |some (.map key _)=>match Nw P key with
     |some d=>Jy m k (.delete d)
     |none=>none
    |_=>none
   |_,_=>none
  |_=>none
 |.value f=>match Gn f,Y2 c.args.toList with
  |some g,some l=>some (.callV g l)
  |_,_=>none
 |.invoke r name=>match Gn r,Y2 c.args.toList with
  |some g,some l=>some (.invoke g name l)
  |_,_=>none
def Kr (P:Program)(o:Op):Option ROp :=
 match o with
 |.move x |.assign x=>Ht x .move
 |.pick c a b=>match Gn c,Gn a,Gn b with
  |some c,some a,some b=>some (.pick c a b)
  |_,_,_=>none
 |.alloc t=>match Kz P t with
  |some l=>some (.alloc l)
  |none=>none
 |.box _ x=>Ht x .box
 |.build t parts=>match Kz P t with
  |none=>none
  |some cs=>match P.underlying t with
   |some (.struct fields)=>match zcm P fields.toList with
    |none=>none
    |some pl=>match Yr (pl[·]?) parts.toList with
     |none=>none
     |some h=>some (.build cs h)
   |some (.array _ elem)=>match Hj P elem with
    |none=>none
    |some size=>match Yr (fun i=>some (i*size,size)) parts.toList with
     |none=>none
     |some h=>some (.build cs h)
   |_=>none
 |.buildSlice t len parts=>match P.underlying t with
  |some (.slice elem)=>match Hj P elem with
   |none=>none
   |some size=>match Kz P elem with
    |none=>none
    |some z=>if len*size≤2^20∧0<size then
      match Yr (fun i=>some (i*size,size)) parts.toList with
      |none=>none
      |some h=>some (.buildSl size len (Lp z len) h)
     else none
  |_=>none
 |.load t a=>match K6 P t,Hj P t with
  |some true,some n=>Ht a (.loadN n)
  |some false,some _=>Ht a .load1
  |_,_=>none
 |.store t a x=>match Hj P t with
  |some n=>Jy a x (.store n)
  |none=>none
 |.nilCheck x=>Ht x .nilChk
 |.binOp op t x y _=>Jy x y (.bin op (Qa x || Qa y) t)
 |.unOp op _ x=>Ht x (.un op)
 |.convert s d x=>match P.underlying s,P.underlying d with
  |some _,some (.int k)=>Ht x (.cvInt k)
  |some (.slice e),some .string=>match P.underlying e with
   |some (.int .u8)=>Ht x .cvStr
   |_=>none
  |some _,some .string=>Ht x .cvSame
  |some _,some (.slice e)=>match P.underlying e,Hj P e with
   |some (.int .u8),some 1=>Ht x .cvBytes
   |_,_=>none
  |_,_=>none
 |.makeInterface t x=>match P.underlying t with
  |some (.interface _)=>none
  |some _=>Ht x (.mkIface t)
  |none=>none
 |.makeFunc f first cap=>match f with
  |.yield _=>none
  |f=>match Y2 first.toList,Y2 cap.toList with
   |some a,some b=>some (.mkFunc f a b)
   |_,_=>none
 |.makeMap t r=>match r with
  |none=>some .mkMap0
  |some x=>match P.underlying t with
   |some (.map _ _)=>Ht x .mkMap1
   |_=>none
 |.makeSlice t l c=>match P.underlying t with
  |some (.slice elem)=>match P.info? elem with
   |none=>none
   |some i=>match Kz P elem with
    |none=>none
    |some z=>if 0<i.size∧i.bytes≤2^16 then Jy l c (.mkSl i.size z) else none
  |_=>none
 |.slice t x lo hi mx=>match P.underlying t with
  |some .string=>match mx with
   |some _=>none
   |none=>match Gn x,Ze lo,Ze hi with
    |some r,some a,some b=>some (.slStr r a b)
    |_,_,_=>none
  |some (.slice elem)=>if mx.isSome&&hi.isNone then none else match Hj P elem with
   |none=>none
   |some size=>zgo size .slSl x lo hi mx
  |some (.array n elem)=>if mx.isSome&&hi.isNone then none else match Hj P elem with
   |none=>none
   |some size=>zgo size (.slArr n) x lo hi mx
  |_=>none
 |.fieldAddr s x f=>match P.underlying s with
  |some (.struct fields)=>match fields[f]? with
   |none=>none
   |some fd=>match Hj P fd.type with
    |none=>none
    |some 0=>none
    |some _=>Ht x (.fieldAddr fd.offset)
  |_=>none
 |.field t x f=>match P.underlying t with
  |some (.struct fields)=>match fields[f]? with
   |none=>none
   |some fd=>match K6 P fd.type,Hj P fd.type with
    |some g,some n=>Ht x (.field g n fd.offset)
    |_,_=>none
  |_=>none
 |.indexAddr t x i=>match P.underlying t with
  |some (.slice elem)=>match Hj P elem with
   |none=>none
   |some size=>Jy x i (.ixAddr size)
  |some (.array len elem)=>match Hj P elem with
   |none=>none
   |some size=>Jy x i (.ixAddrArr len size)
  |_=>none
 |.index t x i=>match P.underlying t with
  |some .string=>Jy x i .ixStr
  |some (.array len elem)=>match K6 P elem,Hj P elem with
   |some g,some size=>Jy x i (.ixArr g len size)
   |_,_=>none
  |_=>none
 |.lookup t x i ok=>match P.underlying t with
  |some (.map key elem)=>match Nw P key,zqk P elem with
   |some d,some z=>Jy x i (.lookup d z ok)
   |_,_=>none
  |_=>none
 |.mapUpdate t m k x |.insert t m k x=>match P.underlying t with
  |some (.map key _)=>match Nw P key with
   |some d=>match Gn m,Gn k,Gn x with
    |some m,some k,some x=>some (.mapUpd d m k x)
    |_,_,_=>none
   |none=>none
  |_=>none
 |.range t x=>match P.underlying t with
  |some .string=>Ht x .range
  |_=>none
 |.next it s=>if s then Ht it .next else none
 |.typeAssert x _ t ok=>match P.underlying t with
  |some (.interface _)=>none
  |some _=>match zqk P t with
   |none=>none
   |some z=>Ht x (.assert z ok t)
  |none=>none
 |.extract t i=>Ht t (.extract i)
 |.call c=>zqd P c
 |_=>none
end Go.Sv
namespace Go.Sv
section ok
variable {P : Program} {E : Tr AV} {ρ : Sk}
theorem Mf {x:Operand}{f:Ox→ROp}{r:ROp}(h:Ht x f=some r):∃q,Gn x=some q∧r=f q:=by
 unfold Ht at h;cases a:Gn x with
 |none=>rw[a] at h;cases h
 |some q=>rw[a] at h;cases h;exact⟨q,rfl,rfl⟩
theorem Rr {x y:Operand}{f:Ox→Ox→ROp}{r:ROp}(h:Jy x y f=some r):∃q p,Gn x=some q∧Gn y=some p∧r=f q p:=by
 unfold Jy at h;cases a:Gn x with
 |none=>rw[a] at h;cases h
 |some q =>
  rw[a] at h;dsimp only at h;cases d:Gn y with
  |none=>rw[d] at h;cases h
  |some p=>rw[d] at h;cases h;exact⟨q,p,rfl,rfl,rfl⟩
theorem Ml (d:Nu E ρ){x:Operand}{q:Ox}(g:Gn x=some q)(f:Heap→AV→OR)(H:Heap):(Ij x f).run E H=f H (q.ev ρ):=by
 show (Option.rec OR.no (fun a=>f H a) ((Ft x).run E):OR)=_;rw[M9 g d]
theorem Sr (d:Nu E ρ){x y:Operand}{q p:Ox}(g:Gn x=some q)(h:Gn y=some p)(f:Heap→AV→AV→OR)(H:Heap):(Mc x y f).run E H=f H (q.ev ρ) (p.ev ρ):=by
 show (Option.rec OR.no (fun a=>Option.rec OR.no (fun b=>f H a b) ((Ft y).run E)) ((Ft x).run E):OR)=_;rw[M9 g d,M9 h d]
theorem zbu (j:Nu E ρ){place:Nat→Option (Nat×Nat)}:∀{l:List (Nat×Operand)} {d:List (Nat×Nat×Ox)} {cs:List AV},Yr place l=some d→∃f,Zb place l=some f∧X9 cs f E=fillR ρ cs d
 |[],d,cs,h=>by cases h;exact⟨[],rfl,rfl⟩
 |(i,x)::l,d,cs,h=>by
  simp only[Yr] at h;cases m:place i with
  |none=>rw[m] at h;cases h
  |some os =>
   obtain⟨o,s⟩:=os;rw[m] at h;dsimp only at h;cases p:Gn x with
   |none=>rw[p] at h;cases h
   |some r =>
    rw[p] at h;dsimp only at h;cases g:Yr place l with
    |none=>rw[g] at h;cases h
    |some q =>
     rw[g] at h;cases h;obtain⟨f,y,_⟩:=zbu j (cs:=cs) g;refine⟨⟨o,s,Ft x⟩::f,by simp only[Zb,m,y],?_⟩;simp only[X9,fillR];rw[M9 p j];dsimp only;cases (r.ev ρ).cells with
     |none=>rfl
     |some c =>
      dsimp only;cases Nat.beq c.length s with
      |false=>rfl
      |true =>
       dsimp only;cases Nat.ble (Nat.add o s) cs.length with
       |false=>rfl
       |true =>
        dsimp only;obtain⟨z,a,w⟩:=zbu j (cs:=M0 cs o c) g;rw[y] at a;cases a;exact w
theorem zhy {size:Nat}{f:Nat→Ox→Option Ox→Option Ox→Option Ox→ROp}{x:Operand}{lo hi mx:Option Operand}{r:ROp}(h:zgo size f x lo hi mx=some r) :
  ∃q a b c,Gn x=some q∧Ze lo=some a∧Ze hi=some b∧Ze mx=some c∧r=f size q a b c:=by
 unfold zgo at h;split at h
 ·rename_i q a b c d g j l;cases h;exact⟨q,a,b,c,d,g,j,l,rfl⟩
 ·cases h
theorem zuy (j:Nu E ρ){c:Call}{r:ROp}(h:zqd P c=some r)(H:Heap):(U6 P c).run E H=Hc P ρ H r:=by
 unfold zqd at h;unfold U6;split at h
 ·rename_i b L;rw[L];dsimp only;split at h
  ·split at h
   ·rename_i t x w o;rw[w,o];dsimp only;unfold Ni;split at h<;>first
     |(cases h;done)
     | (rename_i hu
        obtain⟨q,a,rfl⟩:=Mf h;rw[hu];dsimp only;rw[Ml j a];rfl)
   ·cases h
  ·split at h
   ·rename_i t x w o;rw[w,o];dsimp only;unfold Qd;split at h
    ·rename_i hu;obtain⟨q,a,rfl⟩:=Mf h;rw[hu];dsimp only;rw[Ml j a];rfl
    ·cases h
   ·cases h
  ·split at h
   ·rename_i l B;cases h;simp only[Mt,Hc];rw[resOs_ok B j];generalize (l.map fun (x:Ox)=>x.ev ρ)=vs;rcases vs with _ | ⟨v,vs⟩
    ·rfl
    ·cases v<;>rfl
   ·cases h
  ·split at h
   ·rename_i l B;cases h;simp only[Mt,Hc];rw[resOs_ok B j];generalize (l.map fun (x:Ox)=>x.ev ρ)=vs;rcases vs with _ | ⟨v,vs⟩
    ·rfl
    ·cases v<;>rfl
   ·cases h
  ·split at h
   ·rename_i st K s x w o;unfold zig;rw[w,o];dsimp only;split at h
    ·rename_i elem d D F;rw[D,F];split at h
     ·rename_i i z hi C;split at h
      ·rename_i G;split at h
       ·rename_i k;obtain⟨q,p,a,A,rfl⟩:=Rr h;dsimp only;unfold zlr;rw[hi,C];dsimp only;rw[Ag G,Sr j a A];rfl
       ·obtain⟨q,p,a,A,rfl⟩:=Rr h;dsimp only;unfold zc6;rw[hi,C];dsimp only;rw[Ag G,Sr j a A];rfl
       ·obtain⟨q,p,a,A,rfl⟩:=Rr h;dsimp only;unfold zc6;rw[hi,C];dsimp only;rw[Ag G,Sr j a A];rfl
       ·cases h
      ·cases h
     ·cases h
    ·cases h
   ·cases h
  ·split at h
   ·rename_i st K d x w o;unfold O0;rw[w,o];dsimp only;split at h
    ·rename_i elem hu;rw[hu];dsimp only;split at h
     ·cases h
     ·rename_i size I;split at h
      ·rename_i y;obtain⟨q,p,a,A,rfl⟩:=Rr h;rw[I];dsimp only;rw[Ag y,Sr j a A];rfl
      ·cases h
    ·cases h
   ·cases h
  ·split at h
   ·rename_i st x w o;unfold zog;rw[w,o];dsimp only;split at h
    ·rename_i elem hu;rw[hu];dsimp only;split at h
     ·rename_i size z I C;split at h
      ·rename_i y;obtain⟨q,a,rfl⟩:=Mf h;rw[I,C];dsimp only;rw[Ag y,Ml j a];rfl
      ·cases h
     ·cases h
    ·cases h
   ·cases h
  ·split at h
   ·rename_i mt K m k w o;unfold zj6;rw[w,o];dsimp only;split at h
    ·rename_i key e hu;rw[hu];dsimp only;split at h
     ·rename_i d hd;obtain⟨q,p,a,A,rfl⟩:=Rr h;rw[hd];dsimp only;rw[Sr j a A];rfl
     ·cases h
    ·cases h
   ·cases h
  ·cases h
 ·rename_i f M;rw[M];dsimp only;split at h
  ·rename_i g l J B;cases h;rw[M9 J j,resOs_ok B j];simp only[Hc]
  ·cases h
 ·rename_i x name o;rw[o];dsimp only;split at h
  ·rename_i g l J B;cases h;rw[M9 J j,resOs_ok B j];simp only[Hc];cases g.ev ρ with
   |iface t v =>
    dsimp only;cases zhk P t name with
    |none=>rfl
    |some f =>
     dsimp only;cases z7r P f<;>rfl
   |_=>rfl
  ·cases h
end ok
end Go.Sv
end
namespace Go.Sv
section ok
variable {P : Program} {E : Tr AV} {ρ : Sk}
theorem ztt (w:Nu E ρ){o:Op}{r:ROp}(h:Kr P o=some r)(H:Heap):(Gi P o).run E H=Hc P ρ H r:=by
 cases o with
 |move x =>
  obtain⟨q,j,rfl⟩:=Mf h;show (Ij x _).run E H=_;rw[Ml w j];rfl
 |assign x =>
  obtain⟨q,j,rfl⟩:=Mf h;show (Ij x _).run E H=_;rw[Ml w j];rfl
 |pick c a b =>
  simp only[Kr] at h;split at h
  ·rename_i c' J b' j A B;cases h;simp only[Gi];rw[M9 j w,M9 A w,M9 B w];simp only[Hc];generalize c'.ev ρ=v;cases v with
   |bool t=>cases t<;>rfl
   |_=>rfl
  ·cases h
 |alloc t =>
  simp only[Kr] at h;simp only[Gi];cases D:Kz P t with
  |none=>rw[D] at h;cases h
  |some l=>rw[D] at h;cases h;rfl
 |box t x =>
  obtain⟨q,j,rfl⟩:=Mf h;show (Ij x _).run E H=_;rw[Ml w j];rfl
 |build t parts =>
  simp only[Kr] at h;simp only[Gi,zil];cases D:Kz P t with
  |none=>rw[D] at h;cases h
  |some cs =>
   rw[D] at h;dsimp only at h ⊢;split at h
   ·rename_i fields hu;rw[hu];dsimp only;cases G:zcm P fields.toList with
    |none=>rw[G] at h;cases h
    |some pl =>
     rw[G] at h;dsimp only at h ⊢;cases F:Yr (pl[·]?) parts.toList with
     |none=>rw[F] at h;cases h
     |some M =>
      rw[F] at h;cases h;obtain⟨N,j,A⟩:=zbu w (cs:=cs) F;rw[j];dsimp only;rw[A];rfl
   ·rename_i n elem hu;rw[hu];dsimp only;cases C:Hj P elem with
    |none=>rw[C] at h;cases h
    |some size =>
     rw[C] at h;dsimp only at h ⊢;cases F:Yr (fun i=>some (i*size,size)) parts.toList with
     |none=>rw[F] at h;cases h
     |some M =>
      rw[F] at h;cases h;obtain⟨N,j,A⟩:=zbu w (cs:=cs) F;rw[j];dsimp only;rw[A];rfl
   ·cases h
 |buildSlice t len parts =>
  simp only[Kr] at h;simp only[Gi,z41];split at h
  ·rename_i elem hu;rw[hu];dsimp only;cases C:Hj P elem with
   |none=>rw[C] at h;cases h
   |some size =>
    rw[C] at h;dsimp only at h ⊢;cases D:Kz P elem with
    |none=>rw[D] at h;cases h
    |some z =>
     rw[D] at h;dsimp only at h ⊢;split at h
     ·rename_i I;rw[Ag I];cases F:Yr (fun i=>some (i*size,size)) parts.toList with
      |none=>rw[F] at h;cases h
      |some M =>
       rw[F] at h;cases h;obtain⟨N,j,A⟩:=zbu w (cs:=Lp z len) F;rw[j];dsimp only;rw[A];rfl
     ·cases h
  ·cases h
 |load t a =>
  simp only[Kr] at h;simp only[Gi,zqf];split at h
  ·rename_i n j A;obtain⟨q,B,rfl⟩:=Mf h;rw[j,A];dsimp only;rw[Ml w B];rfl
  ·rename_i n j A;obtain⟨q,B,rfl⟩:=Mf h;rw[j,A];dsimp only;rw[Ml w B];rfl
  ·cases h
 |store t a x =>
  simp only[Kr] at h;simp only[Gi,znb];cases C:Hj P t with
  |none=>rw[C] at h;cases h
  |some n =>
   rw[C] at h;obtain⟨q,p,j,A,rfl⟩:=Rr h;dsimp only;rw[Sr w j A];rfl
 |nilCheck x =>
  obtain⟨q,j,rfl⟩:=Mf h;show (Ij x _).run E H=_;rw[Ml w j];rfl
 |binOp op t x y U =>
  obtain⟨q,p,j,A,rfl⟩:=Rr h;simp only[Gi];rw[Sr w j A];rfl
 |unOp op t x =>
  obtain⟨q,j,rfl⟩:=Mf h;show (Ij x _).run E H=_;rw[Ml w j];rfl
 |convert s d x =>
  simp only[Kr] at h;simp only[Gi];unfold Oz;split at h
  ·rename_i d1 k j A;obtain⟨q,B,rfl⟩:=Mf h;rw[j,A];dsimp only;rw[Ml w B];rfl
  ·rename_i e j A;rw[j,A];dsimp only;split at h
   ·rename_i hu;rw[hu];dsimp only;obtain⟨q,B,rfl⟩:=Mf h;rw[Ml w B];rfl
   ·cases h
  ·rename_i d1 K j A;obtain⟨q,B,rfl⟩:=Mf h;rw[j,A];cases d1 with
   |slice e=>exact absurd rfl (K e)
   |_=>dsimp only;rw[Ml w B];rfl
  ·rename_i d1 e j A;rw[j,A];dsimp only;split at h
   ·rename_i O Q;obtain⟨q,B,rfl⟩:=Mf h;rw[O,Q];exact (Ml w B _ _).trans rfl
   ·cases h
  ·cases h
 |makeInterface t x =>
  simp only[Kr] at h;simp only[Gi,z9z];cases hu:P.underlying t with
  |none=>rw[hu] at h;cases h
  |some d =>
   rw[hu] at h;cases d with
   |interface R=>cases h
   |_=>obtain⟨q,j,rfl⟩:=Mf h;dsimp only;rw[Ml w j];rfl
 |makeFunc f first cap =>
  simp only[Kr] at h;cases f with
  |yield l=>cases h
  |_ =>
   dsimp only at h;split at h
   ·rename_i a b j A;cases h;simp only[Gi,zdf];rw[resOs_ok j w,resOs_ok A w];rfl
   ·cases h
 |makeMap t r =>
  simp only[Kr] at h;simp only[Gi,zg1];cases r with
  |none=>cases h;rfl
  |some x =>
   dsimp only at h ⊢;split at h
   ·rename_i k e hu;obtain⟨q,j,rfl⟩:=Mf h;rw[hu];dsimp only;rw[Ml w j];rfl
   ·cases h
 |makeSlice t l c =>
  simp only[Kr] at h;simp only[Gi,z8y];split at h
  ·rename_i elem hu;rw[hu];dsimp only;cases hi:P.info? elem with
   |none=>rw[hi] at h;cases h
   |some i =>
    rw[hi] at h;dsimp only at h ⊢;cases D:Kz P elem with
    |none=>rw[D] at h;cases h
    |some z =>
     rw[D] at h;dsimp only at h ⊢;split at h
     ·rename_i I;obtain⟨q,p,j,A,rfl⟩:=Rr h;rw[Ag I,Sr w j A];rfl
     ·cases h
  ·cases h
 |slice t x lo hi mx =>
  simp only[Kr] at h;simp only[Gi,Zm];split at h
  ·rename_i hu;rw[hu];dsimp only;cases mx with
   |some m=>cases h
   |none =>
    dsimp only at h ⊢;split at h
    ·rename_i q a b j A B;cases h;rw[M9 j w,z73 A w,z73 B w];simp only[Hc];cases q.ev ρ with
     |str len n =>
      cases Hz ρ a with
      |none=>rfl
      |some J=>cases Hz ρ b<;>rfl
     |_=>rfl
    ·cases h
  ·rename_i elem hu;rw[hu];dsimp only;split at h
   ·cases h
   ·rename_i I;rw[Ac I];cases C:Hj P elem with
    |none=>rw[C] at h;cases h
    |some size =>
     rw[C] at h;obtain⟨q,a,b,c,j,A,B,L,rfl⟩:=zhy h;dsimp only;rw[M9 j w,z73 A w,z73 B w,z73 L w];simp only[Hc];generalize q.ev ρ=v;generalize Hz ρ a=J;generalize Hz ρ b=b';generalize Hz ρ c=c';cases v<;>cases J<;>cases b'<;>cases c'<;>try rfl
     all_goals (rename_i z;cases z<;>rfl)
  ·rename_i n elem hu;rw[hu];dsimp only;split at h
   ·cases h
   ·rename_i I;rw[Ac I];cases C:Hj P elem with
    |none=>rw[C] at h;cases h
    |some size =>
     rw[C] at h;obtain⟨q,a,b,c,j,A,B,L,rfl⟩:=zhy h;dsimp only;rw[M9 j w,z73 A w,z73 B w,z73 L w];simp only[Hc];generalize q.ev ρ=v;generalize Hz ρ a=J;generalize Hz ρ b=b';generalize Hz ρ c=c';cases v<;>cases J<;>cases b'<;>cases c'<;>rfl
  ·cases h
 |fieldAddr s x f =>
  simp only[Kr] at h;simp only[Gi,z6r];split at h
  ·rename_i fields hu;rw[hu];dsimp only;cases G:fields[f]? with
   |none=>rw[G] at h;cases h
   |some fd =>
    rw[G] at h;dsimp only at h ⊢;split at h
    ·cases h
    ·cases h
    ·rename_i n S C;obtain⟨q,j,rfl⟩:=Mf h;rw[C];cases n with
     |zero=>exact absurd rfl S
     |succ n=>exact (Ml w j _ _).trans rfl
  ·cases h
 |field t x f =>
  simp only[Kr] at h;simp only[Gi,zio];split at h
  ·rename_i fields hu;rw[hu];dsimp only;cases G:fields[f]? with
   |none=>rw[G] at h;cases h
   |some fd =>
    rw[G] at h;dsimp only at h ⊢;split at h
    ·rename_i g n j A;obtain⟨q,B,rfl⟩:=Mf h;rw[j,A];dsimp only;rw[Ml w B];rfl
    ·cases h
  ·cases h
 |indexAddr t x i =>
  simp only[Kr] at h;simp only[Gi,z6b];split at h
  ·rename_i elem hu;rw[hu];dsimp only;cases C:Hj P elem with
   |none=>rw[C] at h;cases h
   |some size =>
    rw[C] at h;obtain⟨q,p,j,A,rfl⟩:=Rr h;dsimp only;rw[Sr w j A];rfl
  ·rename_i len elem hu;rw[hu];dsimp only;cases C:Hj P elem with
   |none=>rw[C] at h;cases h
   |some size =>
    rw[C] at h;obtain⟨q,p,j,A,rfl⟩:=Rr h;dsimp only;rw[Sr w j A];rfl
  ·cases h
 |index t x i =>
  simp only[Kr] at h;simp only[Gi,zhj];split at h
  ·rename_i hu;obtain⟨q,p,j,A,rfl⟩:=Rr h;rw[hu];dsimp only;rw[Sr w j A];rfl
  ·rename_i len elem hu;rw[hu];dsimp only;split at h
   ·rename_i g size T C;obtain⟨q,p,j,A,rfl⟩:=Rr h;rw[T,C];dsimp only;rw[Sr w j A];rfl
   ·cases h
  ·cases h
 |lookup t x i ok =>
  simp only[Kr] at h;simp only[Gi,zdn];split at h
  ·rename_i key elem hu;rw[hu];dsimp only;split at h
   ·rename_i d z hd D;obtain⟨q,p,j,A,rfl⟩:=Rr h;rw[hd,D];dsimp only;rw[Sr w j A];rfl
   ·cases h
  ·cases h
 |mapUpdate t m k x =>
  simp only[Kr] at h;simp only[Gi,z65];split at h
  ·rename_i key elem hu;rw[hu];dsimp only;split at h
   ·rename_i d hd;rw[hd];dsimp only;split at h
    ·rename_i a b c j A B;cases h;rw[M9 j w,M9 A w,M9 B w];simp only[Hc];cases a.ev ρ<;>rfl
    ·cases h
   ·cases h
  ·cases h
 |insert t m k x =>
  simp only[Kr] at h;simp only[Gi,z65];split at h
  ·rename_i key elem hu;rw[hu];dsimp only;split at h
   ·rename_i d hd;rw[hd];dsimp only;split at h
    ·rename_i a b c j A B;cases h;rw[M9 j w,M9 A w,M9 B w];simp only[Hc];cases a.ev ρ<;>rfl
    ·cases h
   ·cases h
  ·cases h
 |range t x =>
  simp only[Kr] at h;simp only[Gi,rangeF];split at h
  ·rename_i hu;obtain⟨q,j,rfl⟩:=Mf h;rw[hu];dsimp only;rw[Ml w j];rfl
  ·cases h
 |next it s =>
  simp only[Kr] at h;simp only[Gi,zy7];cases s with
  |false=>cases h
  |true =>
   obtain⟨q,j,rfl⟩:=Mf h;rw[Ag rfl,Ml w j];rfl
 |typeAssert x V t ok =>
  simp only[Kr] at h;simp only[Gi,zdg];cases hu:P.underlying t with
  |none=>rw[hu] at h;cases h
  |some d =>
   rw[hu] at h;cases d with
   |interface R=>cases h
   |_ =>
    dsimp only at h ⊢;cases D:zqk P t with
    |none=>rw[D] at h;cases h
    |some z=>rw[D] at h;obtain⟨q,j,rfl⟩:=Mf h;dsimp only;rw[Ml w j];rfl
 |extract t i =>
  obtain⟨q,j,rfl⟩:=Mf h;show (Ij t _).run E H=_;rw[Ml w j];rfl
 |call c=>exact zuy w h H
 |_=>cases h
end ok
end Go.Sv
namespace Go.Sv
open Go.RowKit (Below)
noncomputable def zkp (P:Program)(f:Nat):Bool:=match P.funcs[f]? with
 |some fn=>match fn.params.toList with
  |[]=>match fn.resultTypes.toList with
   |[t]=>match P.underlying t with
    |some .bool=>true
    |_=>false
   |_=>false
  |_::_=>false
 |none=>false
def z9u (P:Program)(f:Nat):Prop :=
 ∀(w:World) cs,∃w' fr,Below w.heap.size w w'∧Steps P (lone (Frame.enter P f #[] .normal) cs w) (lone fr cs w')∧fr.fn=f∧fr.leaving P w' (.returned (.bool true))
theorem Rel.below {w0:World}{C:CM}{H:Heap}{w w':World}(h:Rel w0 C H w)(hb:Below w.heap.size w w'):Rel w0 C H w':=by
 have aa:w0.heap.size≤w.heap.size:=h.low.size;exact⟨h.nx,h.low.trans (hb.mono aa),h.fresh,fun o v L hL=>Bh (h.lt o v L hL) hb.size,h.excl,
  fun o ob ho hg=>(h.obj o ob ho hg).frame (CM.le_refl C) (fun _ _ hL=>hL) (fun v L hL=>hb.block _ (h.lt o v L hL)),h.top⟩
open Classical in
noncomputable def OL (P:Program):Jm:=fun t args H=>match t,args with
 |.fn f,[]=>if zkp P f=true∧z9u P f then .ok (.bool true) H else .no
 |_,_=>.no
theorem OL_no {P:Program}{f:Nat}(h:zkp P f=false)(args:List AV)(H:Heap):OL P (.fn f) args H=.no:=by
 unfold OL;split
 ·rename_i g e;cases e;rw[Ac (by rw[h];simp)]
 ·rfl
theorem OL_yes {P:Program}{f:Nat}(h:zkp P f=true)(a:z9u P f)(H:Heap):OL P (.fn f) [] H=.ok (.bool true) H:=by
 unfold OL;exact Ag ⟨h,a⟩
theorem Xr (P:Program):Yi P (OL P):=by
 intro p C H w t args vs v H' d g a;unfold OL at a;split at a
 ·rename_i f;split at a
  ·rename_i h;cases a;cases g;intro cs;obtain⟨w',fr,j,l,m,o⟩:=h.2 w cs;exact⟨C,w',.bool true,fr,CM.le_refl C,d.below j,.bool true,l,m,o⟩
  ·cases a
 ·cases a
end Go.Sv
noncomputable section
namespace Go.Sv
inductive LV where
 |any
 |bool (b:Bool)
 |u (x:UInt64)
 |b (x:UInt8)
 |i (n:Int)
 |int (k:IntKind) (n:Int)
 |str (l:List UInt8)
 |nilPtr
 |ptr (p i:Nat)
 |dptr (p k i:Nat)
 |cptr (l:List LV) (i:Nat)
 |nilSl
 |dy (p k:Nat)
 |vw (p k lo len:Nat)
 |vf (p k len:Nat)
 |lst (l:List LV) (len esz:Nat)
 |nilMap
 |map (p:Nat)
 |nilFn
 |fn (f:Fn) (first cap:List LV)
 |nilIf
 |iface (t:TypeId) (v:LV)
 |agg (l:List LV)
 |tup (l:List LV)
 deriving Inhabited
abbrev Ey:=List (Nat×LV)
def lk0:Ey→Nat→LV
 |[],_=>.any
 |(d,v)::l,t=>if t=d then v else lk0 l t
theorem zwy {α:Type}(f:α):∃g:α,g=f:=⟨f,rfl⟩
def Im {α:Type}(f:α):α:=Classical.choose (zwy f)
theorem M6 {α:Type}(f:α):Im f=f:=Classical.choose_spec (zwy f)
def lk:Ey→Nat→LV:=Im lk0
theorem Wc (t:Nat):lk [] t=.any:=by unfold lk;rw[M6];rfl
theorem zim (d:Nat)(v:LV)(l:Ey)(t:Nat):lk ((d,v)::l) t=if t=d then v else lk l t:=by unfold lk;rw[M6];rfl
inductive LObj where
 |dead (st:Nat)
 |cells (l:List LV) (st:Nat)
 |dyn (l:List LV) (len esz ver st:Nat)
 |map (es:List (LV×LV×Nat)) (clock st:Nat)
 |iter (l:List UInt8) (pos:Nat)
 |loop (s:LoopState) (pend:Option Code) (f n:Nat) (ρ:Ey) (ps:Array Tmp) (a b:Code) (d:Nat)
 |defd (op:Bool)
abbrev Ev:=List LObj
def LObj.live:LObj→Bool
 |.dead _=>false
 |_=>true
def LObj.stp:LObj→Bool
 |.cells _ _=>true
 |.dyn _ _ _ _ _=>true
 |.map _ _ _=>true
 |_=>false
def LObj.st:LObj→Nat
 |.cells _ st=>st
 |.dyn _ _ _ _ st=>st
 |.map _ _ st=>st
 |.dead st=>st
 |_=>0
def LV.cells:LV→Option (List LV)
 |.any=>none
 |.agg cs=>some cs
 |.tup _=>none
 |v=>some [v]
mutual
def toA:LV→AV
 |.bool b=>.bool b
 |.u x=>.int .u64 (Int.ofNat x.toNat)
 |.b x=>.int .u8 (Int.ofNat x.toNat)
 |.i n=>.int .i64 n
 |.int k n=>.int k n
 |.str l=>.str l.length (Hi l)
 |.nilPtr=>.nilPtr
 |.nilSl=>.nilSl
 |.nilMap=>.nilMap
 |.nilFn=>.nilFn
 |.fn f _ _=>.fn f [] []
 |.nilIf=>.nilIf
 |.agg l=>.agg (toAs l)
 |.tup l=>.tup (toAs l)
 |_=>.tup []
def toAs:List LV→List AV
 |[]=>[]
 |v::l=>toA v::toAs l
end
def LV.scal:LV→Bool
 |.bool _ |.u _ |.b _ |.i _ |.int _ _ |.str _ |.nilPtr |.nilSl |.nilMap |.nilFn |.nilIf=>true
 |_=>false
def LV.cst:LV→Bool
 |.fn (.func _) [] []=>true
 |.agg l=>l.all LV.scal
 |.tup []=>true
 |v=>v.scal
structure Cx where
 hd:List (Nat×AV)
 Fz:Nat→Prop
 H:Heap
def zmw:AV→Bool
 |.nilSl=>true
 |.emp=>true
 |.sl _ _ _ _ _ _=>true
 |_=>false
def Sa (lo:Nat)(h a:AV):Prop:=lo=0→match a with
 |.sl _ _ _ _ _ d=>match h with
  |.sl _ _ _ len _ room=>d=room∨∃r,d=some r∧r≤len
  |_=>True
 |_=>True
mutual
inductive AR (c:Cx):LV→AV→Prop where
 |any (a:AV):AR c .any a
 |bool (b:Bool):AR c (.bool b) (.bool b)
 |u (x:UInt64):AR c (.u x) (.int .u64 (Int.ofNat x.toNat))
 |b (x:UInt8):AR c (.b x) (.int .u8 (Int.ofNat x.toNat))
 |i (n:Int):AR c (.i n) (.int .i64 n)
 |int (k:IntKind) (n:Int):AR c (.int k n) (.int k n)
 |str (l:List UInt8):AR c (.str l) (.str l.length (Hi l))
 |nilPtr:AR c .nilPtr .nilPtr
 |ptr {p i o:Nat} (h:c.hd[p]?=some (0,.ptr o 0 0)):AR c (.ptr p i) (.ptr o 0 i)
 |dptr {p k i k' o v j:Nat} {h:AV} (hp:c.hd[p]?=some (k',h)) (hk:k≤k') (ha:k=k'→j=i∧∃len esz room,h=.sl o v 0 len esz room):AR c (.dptr p k i) (.ptr o v j)
 |cptr {l:List LV} {i o v j:Nat} {l':List AV} (hf:c.Fz o) (hr:Jd c.H o v j l.length=some l') (hl:ARs c l l'):AR c (.cptr l i) (.ptr o v (j+i))
 |nilSl:AR c .nilSl .nilSl
 |dy {p k k':Nat} {h a:AV} (hp:c.hd[p]?=some (k',h)) (hk:k≤k') (ha:k=k'→a=h) (hs:zmw a=true):AR c (.dy p k) a
 |vw {p k lo len k':Nat} {h a:AV} (hp:c.hd[p]?=some (k',h)) (hk:k≤k') (ha:k=k'→(len=0∧(a=.nilSl∨(a=.emp∧lo≠0)))∨∃o v len' esz room room',h=.sl o v 0 len' esz room∧a=.sl o v (lo*esz) len esz room'∧∀r,room'=some r→len≤r) (hs:zmw a=true) (hz:k=k'→Sa lo h a):AR c (.vw p k lo len) a
 |vf {p k len k':Nat} {h a:AV} (hp:c.hd[p]?=some (k',h)) (hk:k≤k') (ha:k=k'→∃o v len' esz room,h=.sl o v 0 len' esz room∧a=.sl o v 0 len esz (some len)) (hs:zmw a=true):AR c (.vf p k len) a
 |lst {l:List LV} {len esz o v i:Nat} {room:Option Nat} {l':List AV} (hf:c.Fz o) (hrm:∀r,room=some r→len≤r) (hlen:l.length=len*esz) (hr:Jd c.H o v i (len*esz)=some l') (hl:ARs c l l'):AR c (.lst l len esz) (.sl o v i len esz room)
 |lstNil {esz:Nat}:AR c (.lst [] 0 esz) .nilSl
 |lstEmp {esz:Nat}:AR c (.lst [] 0 esz) .emp
 |nilMap:AR c .nilMap .nilMap
 |map {p o:Nat} (h:c.hd[p]?=some (0,.map o)):AR c (.map p) (.map o)
 |nilFn:AR c .nilFn .nilFn
 |fn {f:Nat} {l r:List LV} {l' r':List AV} (hl:ARs c l l') (hr:ARs c r r'):AR c (.fn (.func f) l r) (.fn (.func f) l' r')
 |yield {p o:Nat} (h:c.hd[p]?=some (0,.ptr o 0 0)):AR c (.fn (.yield p) [] []) (.fn (.yield o) [] [])
 |nilIf:AR c .nilIf .nilIf
 |iface {t:TypeId} {v:LV} {a:AV} (h:AR c v a):AR c (.iface t v) (.iface t a)
 |agg {l:List LV} {l':List AV} (h:ARs c l l'):AR c (.agg l) (.agg l')
 |tup {l:List LV} {l':List AV} (h:ARs c l l'):AR c (.tup l) (.tup l')
inductive ARs (c:Cx):List LV→List AV→Prop where
 |nil:ARs c [] []
 |cons {v:LV} {a:AV} {l:List LV} {r:List AV} (h:AR c v a) (hs:ARs c l r):ARs c (v::l) (a::r)
end
inductive MRs (c:Cx):List (LV×LV×Nat)→List (AV×AV×Nat)→Prop where
 |nil:MRs c [] []
 |cons {k v:LV} {a b:AV} {n:Nat} {l:List (LV×LV×Nat)} {r:List (AV×AV×Nat)} (hk:AR c k a) (hv:AR c v b) (h:MRs c l r):MRs c ((k,v,n)::l) ((a,b,n)::r)
def Gl (c:Cx)(ρ:Ey)(E:Tr AV):Prop:=∀t,AR c (lk ρ t) ((E3 (Fl t) E).getD J4)
def ObR (c:Cx)(k:Nat)(h:AV):LObj→Prop
 |.dead _=>True
 |.cells l _=>k=0∧∃o t l',h=.ptr o 0 0∧c.H.get o=some (.cells t l.length 0 false)∧Kx t 0 l.length=some l'∧ARs c l l'
 |.dyn l len esz m _=>k=m∧l.length=len*esz∧((h=.nilSl∧len=0)∨∃o v room t g l',h=.sl o v 0 len esz room∧c.H.get o=some (.cells t g v false)∧len*esz≤g ∧
   Kx t 0 (len*esz)=some l'∧ARs c l l'∧(∀r,room=some r→g=r*esz∧len≤r)∧(room=none→g=len*esz))
 |.map es q _=>k=0∧∃o j,h=.map o∧c.H.get o=some (.map j q)∧MRs c es j
 |.iter l pos=>k=0∧∃o,h=.ptr o 0 0∧c.H.get o=some (.iter l.length (Hi l) pos)
 |.loop s pend f n ρ w a b d=>k=0∧∃o p E,h=.ptr o 0 0∧c.hd[d]?=some (0,.ptr p 0 0)∧c.H.get o=some (.loop s pend f n E w a b p)∧Gl c ρ E
 |.defd op=>k=0∧∃o,h=.ptr o 0 0∧c.H.get o=some (.defd op)
def Hw (c:Cx)(G:Ev)(o:Nat):Prop:=∃(p:Nat) (ob:LObj) (k:Nat) (h:AV),G[p]?=some ob∧ob.live=true∧c.hd[p]?=some (k,h)∧F9 h=some o
structure HSim (c:Cx) (G:Ev):Prop where
 len:c.hd.length=G.length
 fz:∀o,c.Fz o→o<c.H.next
 lt:∀o,Hw c G o→o<c.H.next
 sep:∀o,Hw c G o→¬c.Fz o
 obj:∀(p:Nat) (ob:LObj) (k:Nat) (h:AV),G[p]?=some ob→c.hd[p]?=some (k,h)→ObR c k h ob
 excl:∀(p q:Nat) (ob ob':LObj) (k:Nat) (h:AV) (k':Nat) (h':AV) (o:Nat),G[p]?=some ob→G[q]?=some ob'→ob.live=true→ob'.live=true→c.hd[p]?=some (k,h)→c.hd[q]?=some (k',h')→F9 h=some o→F9 h'=some o→p=q
def R6:AV→Bool
 |.ptr _ _ _=>true
 |.map _=>true
 |_=>false
structure CxLe (c c':Cx):Prop where
 hd:∀(p k:Nat) (h:AV),c.hd[p]?=some (k,h)→∃(k':Nat) (h':AV),c'.hd[p]?=some (k',h')∧k≤k'∧(k=k'→h=h')∧(R6 h=true→k=k')
 fz:∀o,c.Fz o→c'.Fz o∧c'.H.get o=c.H.get o
structure Step (c:Cx) (G:Ev) (c':Cx) (G':Ev):Prop where
 le:CxLe c c'
 nx:c.H.next≤c'.H.next
 frame:∀o,o<c.H.next→¬Hw c G o→c'.H.get o=c.H.get o
 new:∀o,Hw c' G' o→Hw c G o∨c.H.next≤o
 fznew:∀o,c'.Fz o→c.Fz o∨Hw c G o∨c.H.next≤o
 mono:∀(p:Nat) (ob ob':LObj),G[p]?=some ob→G'[p]?=some ob'→ob.st≤ob'.st
 st:∀(p:Nat) (ob ob':LObj) (k:Nat) (h:AV) (o:Nat),G[p]?=some ob→G'[p]?=some ob'→c.hd[p]?=some (k,h)→F9 h=some o→ob.stp=true→ob.st=ob'.st→ob'=ob∧c'.H.get o=c.H.get o∧c'.hd[p]?=c.hd[p]?
inductive Lx where
 |t (i:Nat)
 |c (v:LV)
def Lx.ev (ρ:Ey):Lx→LV
 |.t i=>lk ρ i
 |.c v=>v
def Lx.r:Lx→Ox
 |.t i=>.t i
 |.c v=>.c (toA v)
def Lx.ok:Lx→Bool
 |.t _=>true
 |.c v=>v.cst
inductive LOp where
 |move (x:Lx)
 |pick (c a b:Lx)
 |alloc (l:List LV)
 |box (x:Lx)
 |build (cs:List LV) (ps:List (Nat×Nat×Lx))
 |buildSl (size len:Nat) (cs:List LV) (ps:List (Nat×Nat×Lx))
 |load1 (x:Lx)
 |loadN (n:Nat) (x:Lx)
 |store (n:Nat) (x y:Lx)
 |nilChk (x:Lx)
 |bin (op:BinOp) (g:Bool) (t:TypeId) (x y:Lx)
 |un (op:UnOp) (x:Lx)
 |cvInt (k:IntKind) (x:Lx)
 |cvStr (x:Lx)
 |cvSame (x:Lx)
 |cvBytes (x:Lx)
 |mkFunc (f:Nat) (first cap:List Lx)
 |mkSl (size:Nat) (z:List LV) (l c:Lx)
 |slStr (x:Lx) (lo hi:Option Lx)
 |slSl (size:Nat) (x:Lx) (lo hi:Option Lx)
 |slSl3 (size:Nat) (x:Lx) (lo hi:Option Lx) (mx:Lx)
 |fieldAddr (off:Nat) (x:Lx)
 |field (g:Bool) (n off:Nat) (x:Lx)
 |ixAddr (size:Nat) (x i:Lx)
 |ixStr (x i:Lx)
 |extract (i:Nat) (x:Lx)
 |lenStr (x:Lx)
 |lenSl (x:Lx)
 |maxi (mx:Bool) (x y:Lx)
 |max3 (mx:Bool) (x y z:Lx)
 |ixAddrArr (len size:Nat) (x i:Lx)
 |ixArr (g:Bool) (len size:Nat) (x i:Lx)
 |lenArr (n:Nat) (x:Lx)
 |appZ (size:Nat) (z:List LV) (s x:Lx)
 |appG (size:Nat) (s x:Lx)
 |copy (size:Nat) (d x:Lx)
 |clear (size:Nat) (z:List LV) (x:Lx)
 |mkMap0
 |mkMap1 (x:Lx)
 |lookup (d:TypeDesc) (z:LV) (ok:Bool) (x i:Lx)
 |mapUpd (d:TypeDesc) (m k v:Lx)
 |lenMap (x:Lx)
 |slArr (n size:Nat) (x:Lx) (lo hi:Option Lx)
 |callV (f:Lx) (args:List Lx)
def rps:List (Nat×Nat×Lx)→List (Nat×Nat×Ox)
 |[]=>[]
 |(a,b,x)::l=>(a,b,x.r)::rps l
def rxs:List Lx→List Ox
 |[]=>[]
 |x::l=>x.r::rxs l
def LOp.r:LOp→ROp
 |.move x=>.move x.r
 |.pick c a b=>.pick c.r a.r b.r
 |.alloc l=>.alloc (toAs l)
 |.box x=>.box x.r
 |.build cs ps=>.build (toAs cs) (rps ps)
 |.buildSl s n cs ps=>.buildSl s n (toAs cs) (rps ps)
 |.load1 x=>.load1 x.r
 |.loadN n x=>.loadN n x.r
 |.store n x y=>.store n x.r y.r
 |.nilChk x=>.nilChk x.r
 |.bin op g t x y=>.bin op g t x.r y.r
 |.un op x=>.un op x.r
 |.cvInt k x=>.cvInt k x.r
 |.cvStr x=>.cvStr x.r
 |.cvSame x=>.cvSame x.r
 |.cvBytes x=>.cvBytes x.r
 |.mkFunc f a b=>.mkFunc (.func f) (rxs a) (rxs b)
 |.mkSl s z l c=>.mkSl s (toAs z) l.r c.r
 |.slStr x lo hi=>.slStr x.r (lo.map Lx.r) (hi.map Lx.r)
 |.slSl s x lo hi=>.slSl s x.r (lo.map Lx.r) (hi.map Lx.r) none
 |.slSl3 s x lo hi mx=>.slSl s x.r (lo.map Lx.r) (hi.map Lx.r) (some mx.r)
 |.fieldAddr o x=>.fieldAddr o x.r
 |.field g n o x=>.field g n o x.r
 |.ixAddr s x i=>.ixAddr s x.r i.r
 |.ixStr x i=>.ixStr x.r i.r
 |.extract i x=>.extract i x.r
 |.lenStr x=>.lenStr x.r
 |.lenSl x=>.lenSl x.r
 |.maxi m x y=>.maxi m [x.r,y.r]
 |.max3 m x y z=>.maxi m [x.r,y.r,z.r]
 |.ixAddrArr l s x i=>.ixAddrArr l s x.r i.r
 |.ixArr g l s x i=>.ixArr g l s x.r i.r
 |.lenArr n x=>.lenArr n x.r
 |.appZ s z a x=>.appZ s (toAs z) a.r x.r
 |.appG s a x=>.appG s a.r x.r
 |.copy s d x=>.copy s d.r x.r
 |.clear s z x=>.clear s (toAs z) x.r
 |.mkMap0=>.mkMap0
 |.mkMap1 x=>.mkMap1 x.r
 |.lookup d z ok x i=>.lookup d (toA z) ok x.r i.r
 |.mapUpd d m k v=>.mapUpd d m.r k.r v.r
 |.lenMap x=>.lenMap x.r
 |.slArr n s x lo hi=>.slArr n s x.r (lo.map Lx.r) (hi.map Lx.r) none
 |.callV f l=>.callV f.r (rxs l)
def Mn (n:Int):Prop:=-9223372036854775808≤n∧n<9223372036854775808
def Mw:UInt64→UInt64→UInt64:=Im fun a b=>a+b
def Rp:UInt64→UInt64→UInt64:=Im fun a b=>a - b
def K7:UInt64→UInt64→UInt64:=Im fun a b=>a*b
def divU:UInt64→UInt64→UInt64:=Im fun a b=>a/b
def modU:UInt64→UInt64→UInt64:=Im fun a b=>a%b
def Kh:UInt64→UInt64→UInt64:=Im fun a b=>a &&& b
def orU:UInt64→UInt64→UInt64:=Im fun a b=>a ||| b
def xorU:UInt64→UInt64→UInt64:=Im fun a b=>a ^^^ b
def Zn:UInt64→UInt64:=Im fun a => ~~~a
def Sw:UInt64→Nat→UInt64:=Im fun a s=>UInt64.ofNat (a.toNat*2^s)
def J2:UInt64→Nat→UInt64:=Im fun a s=>UInt64.ofNat (a.toNat/2^s)
def addB:UInt8→UInt8→UInt8:=Im fun a b=>a+b
def subB:UInt8→UInt8→UInt8:=Im fun a b=>a - b
def andB:UInt8→UInt8→UInt8:=Im fun a b=>a &&& b
def orB:UInt8→UInt8→UInt8:=Im fun a b=>a ||| b
def iU:Int→UInt64:=Im fun a=>UInt64.ofInt a
def bU:UInt8→UInt64:=Im fun a=>UInt64.ofNat a.toNat
def uB:UInt64→UInt8:=Im fun a=>UInt8.ofNat a.toNat
def iB:Int→UInt8:=Im fun a=>UInt8.ofInt a
theorem M3 (a b:UInt64):Mw a b=a+b:=by unfold Mw;rw[M6]
theorem Rk (a b:UInt64):Rp a b=a - b:=by unfold Rp;rw[M6]
theorem zik (a b:UInt64):K7 a b=a*b:=by unfold K7;rw[M6]
theorem divU_eq (a b:UInt64):divU a b=a/b:=by unfold divU;rw[M6]
theorem zhp (a b:UInt64):modU a b=a%b:=by unfold modU;rw[M6]
theorem Xd (a b:UInt64):Kh a b=a &&& b:=by unfold Kh;rw[M6]
theorem Yk (a b:UInt64):orU a b=a ||| b:=by unfold orU;rw[M6]
theorem Yz (a b:UInt64):xorU a b=a ^^^ b:=by unfold xorU;rw[M6]
theorem zx5 (a:UInt64):Zn a = ~~~a:=by unfold Zn;rw[M6]
theorem Y0 (a:UInt64)(s:Nat):Sw a s=UInt64.ofNat (a.toNat*2^s):=by unfold Sw;rw[M6]
theorem Wx (a:UInt64)(s:Nat):J2 a s=UInt64.ofNat (a.toNat/2^s):=by unfold J2;rw[M6]
theorem addB_eq (a b:UInt8):addB a b=a+b:=by unfold addB;rw[M6]
theorem subB_eq (a b:UInt8):subB a b=a - b:=by unfold subB;rw[M6]
theorem Zk (a b:UInt8):andB a b=a &&& b:=by unfold andB;rw[M6]
theorem orB_eq (a b:UInt8):orB a b=a ||| b:=by unfold orB;rw[M6]
theorem X6 (a:Int):iU a=UInt64.ofInt a:=by unfold iU;rw[M6]
theorem bU_eq (a:UInt8):bU a=UInt64.ofNat a.toNat:=by unfold bU;rw[M6]
theorem uB_eq (a:UInt64):uB a=UInt8.ofNat a.toNat:=by unfold uB;rw[M6]
theorem iB_eq (a:Int):iB a=UInt8.ofInt a:=by unfold iB;rw[M6]
def Oe (op:BinOp)(a b:UInt64)(K:LV→Prop):Prop:=match op with
 |.add=>K (.u (Mw a b))
 |.sub=>K (.u (Rp a b))
 |.mul=>K (.u (K7 a b))
 |.quo=>b≠0∧K (.u (divU a b))
 |.rem=>b≠0∧K (.u (modU a b))
 |.and=>K (.u (Kh a b))
 |.or=>K (.u (orU a b))
 |.xor=>K (.u (xorU a b))
 |.andNot=>K (.u (Kh a (Zn b)))
 |.shl=>K (.u (Sw a b.toNat))
 |.shr=>K (.u (J2 a b.toNat))
 |.eql=>K (.bool (decide (a=b)))
 |.neq=>K (.bool (decide (a≠b)))
 |.lss=>K (.bool (decide (a<b)))
 |.leq=>K (.bool (decide (a≤b)))
 |.gtr=>K (.bool (decide (b<a)))
 |.geq=>K (.bool (decide (b≤a)))
def bbL (op:BinOp)(a b:UInt8)(K:LV→Prop):Prop:=match op with
 |.add=>K (.b (addB a b))
 |.sub=>K (.b (subB a b))
 |.and=>K (.b (andB a b))
 |.or=>K (.b (orB a b))
 |.eql=>K (.bool (decide (a=b)))
 |.neq=>K (.bool (decide (a≠b)))
 |.lss=>K (.bool (decide (a<b)))
 |.leq=>K (.bool (decide (a≤b)))
 |.gtr=>K (.bool (decide (b<a)))
 |.geq=>K (.bool (decide (b≤a)))
 |_=>False
def N9 (op:BinOp)(a b:Int)(K:LV→Prop):Prop:=match op with
 |.add=>Mn (a+b)∧K (.i (a+b))
 |.sub=>Mn (a - b)∧K (.i (a - b))
 |.mul=>Mn (a*b)∧K (.i (a*b))
 |.quo=>b≠0∧Mn (a.tdiv b)∧K (.i (a.tdiv b))
 |.rem=>b≠0∧K (.i (a.tmod b))
 |.shl=>0≤a∧0≤b∧b≤64∧Mn (a*2^b.toNat)∧K (.i (a*2^b.toNat))
 |.shr=>0≤a∧0≤b∧b≤64∧K (.i (a/2^b.toNat))
 |.and=>0≤a∧a<9223372036854775808∧0≤b∧b<9223372036854775808∧K (.i (a.toNat &&& b.toNat:Nat))
 |.or=>0≤a∧a<9223372036854775808∧0≤b∧b<9223372036854775808∧K (.i (a.toNat ||| b.toNat:Nat))
 |.eql=>K (.bool (decide (a=b)))
 |.neq=>K (.bool (decide (a≠b)))
 |.lss=>K (.bool (decide (a<b)))
 |.leq=>K (.bool (decide (a≤b)))
 |.gtr=>K (.bool (decide (b<a)))
 |.geq=>K (.bool (decide (b≤a)))
 |_=>False
def kkL (op:BinOp)(a b:Int)(K:LV→Prop):Prop:=match op with
 |.eql=>K (.bool (decide (a=b)))
 |.neq=>K (.bool (decide (a≠b)))
 |.lss=>K (.bool (decide (a<b)))
 |.leq=>K (.bool (decide (a≤b)))
 |.gtr=>K (.bool (decide (b<a)))
 |.geq=>K (.bool (decide (b≤a)))
 |_=>False
def ssL (op:BinOp)(a b:List UInt8)(K:LV→Prop):Prop:=match op with
 |.add=>a.length+b.length≤1000000000∧K (.str (a++b))
 |.eql=>K (.bool (decide (a=b)))
 |.neq=>K (.bool (decide (a≠b)))
 |_=>False
def Sd (P:Program)(op:BinOp)(g:Bool)(t:TypeId)(a b:AV)(r:Bool)(K:LV→Prop):Prop:=match op with
 |.eql=>J9 P g t a b=some r∧K (.bool r)
 |.neq=>J9 P g t a b=some r∧K (.bool (!r))
 |_=>False
def aggL (P:Program)(op:BinOp)(g:Bool)(t:TypeId)(l r:List LV)(K:LV→Prop):Prop:=match op with
 |.eql=>∃b,l.all LV.scal=true∧r.all LV.scal=true∧J9 P g t (.agg (toAs l)) (.agg (toAs r))=some b∧K (.bool b)
 |.neq=>∃b,l.all LV.scal=true∧r.all LV.scal=true∧J9 P g t (.agg (toAs l)) (.agg (toAs r))=some b∧K (.bool (!b))
 |_=>False
def lstN (op:BinOp)(len:Nat)(K:LV→Prop):Prop:=match op with
 |.eql=>K (.bool false)∧(len=0→K (.bool true))
 |.neq=>K (.bool true)∧(len=0→K (.bool false))
 |_=>False
def Lk (P:Program)(op:BinOp)(g:Bool)(t:TypeId)(x y:LV)(K:LV→Prop):Prop:=match x,y with
 |.u a,.u b=>Oe op a b K
 |.i a,.i b=>N9 op a b K
 |.b a,.b b=>bbL op a b K
 |.bool a,.bool b=>match op with
  |.eql=>J9 P g t (.bool a) (.bool b)=some (a==b)∧K (.bool (a==b))
  |.neq=>J9 P g t (.bool a) (.bool b)=some (a==b)∧K (.bool (!(a==b)))
  |_=>False
 |.u a,.i s=>match op with
  |.shl=>0≤s∧K (.u (Sw a s.toNat))
  |.shr=>0≤s∧K (.u (J2 a s.toNat))
  |_=>False
 |.i a,.u s=>match op with
  |.shl=>0≤a∧s.toNat≤64∧Mn (a*2^s.toNat)∧K (.i (a*2^s.toNat))
  |.shr=>0≤a∧s.toNat≤64∧K (.i (a/2^s.toNat))
  |_=>False
 |.int k a,.int k' b=>k=k'∧kkL op a b K
 |.str a,.str b=>ssL op a b K
 |.nilPtr,.nilPtr=>Sd P op g t .nilPtr .nilPtr true K
 |.ptr _ _,.nilPtr=>Sd P op g t (.ptr 0 0 0) .nilPtr false K
 |.nilSl,.nilSl=>Sd P op g t .nilSl .nilSl true K
 |.lst _ len _,.nilSl=>J9 P g t .nilSl .nilSl=some true∧lstN op len K
 |.agg l,.agg r=>aggL P op g t l r K
 |_,_=>False
def unL (op:UnOp)(x:LV)(K:LV→Prop):Prop:=match op,x with
 |.not,.bool b=>K (.bool (!b))
 |.neg,.u a=>K (.u (Rp 0 a))
 |.neg,.i a=>Mn (-a)∧K (.i (-a))
 |.xor,.u a=>K (.u (Zn a))
 |_,_=>False
def w32 (n:Int):Int:=(n+2147483648)%4294967296 - 2147483648
def cvL (k:IntKind)(x:LV)(K:LV→Prop):Prop:=match k,x with
 |.u64,.u a=>K (.u a)
 |.u64,.i a=>K (.u (iU a))
 |.u64,.b a=>K (.u (bU a))
 |.i64,.u a=>a.toNat<9223372036854775808∧K (.i a.toNat)
 |.i64,.i a=>Mn a∧K (.i a)
 |.i64,.b a=>K (.i a.toNat)
 |.u8,.u a=>K (.b (uB a))
 |.u8,.i a=>K (.b (iB a))
 |.u8,.b a=>K (.b a)
 |.u8,.int _ a=>K (.b (iB a))
 |.i32,.i a=>K (.int .i32 (w32 a))
 |.i64,.int _ a=>Mn a∧K (.i a)
 |_,_=>False
def Lr (t:Bool)(A B:Prop):Prop:=(t=true→A)∧(t=false→B)
def brV (v:LV)(A B:Prop):Prop:=match v with
 |.bool t=>Lr t A B
 |_=>False
def Q3 (G:Ev)(x:LV)(n:Nat)(K:List LV→Prop):Prop:=match x with
 |.ptr p i=>match G[p]? with
  |some (.cells l _)=>i+n≤l.length∧K ((l.drop i).take n)
  |_=>False
 |.dptr p k i=>match G[p]? with
  |some (.dyn l _ _ a _)=>k=a∧i+n≤l.length∧K ((l.drop i).take n)
  |_=>False
 |.cptr l i=>i+n≤l.length∧K ((l.drop i).take n)
 |_=>False
def Ho (l:List LV)(i:Nat)(K:LV→Prop):Prop:=∃v,l[i]?=some v∧K v
def Q7 (G:Ev)(x:LV)(K:LV→Prop):Prop:=match x with
 |.ptr p i=>match G[p]? with
  |some (.cells l _)=>Ho l i K
  |_=>False
 |.dptr p k i=>match G[p]? with
  |some (.dyn l _ _ a _)=>k=a∧Ho l i K
  |_=>False
 |.cptr l i=>Ho l i K
 |_=>False
def Gm (l:List LV)(i:Nat)(r:List LV):List LV:=l.take i++r++l.drop (i+r.length)
def Om (G:Ev)(x:LV)(r:List LV)(K:Ev→Prop):Prop:=match x with
 |.ptr p i=>match G[p]? with
  |some (.cells l st)=>i+r.length≤l.length∧K (G.set p (.cells (Gm l i r) (st+1)))
  |_=>False
 |.dptr p k i=>match G[p]? with
  |some (.dyn l len esz a st)=>k=a∧i+r.length≤l.length∧K (G.set p (.dyn (Gm l i r) len esz a (st+1)))
  |_=>False
 |_=>False
def Hk (z:List LV):Nat→List LV
 |0=>[]
 |n+1=>z++Hk z n
def L7 (G:Ev)(size:Nat)(x:LV)(K:Nat→List LV→Prop):Prop:=match x with
 |.nilSl=>K 0 []
 |.dy p k=>match G[p]? with
  |some (.dyn l len esz a _)=>k=a∧esz=size∧K len l
  |_=>False
 |.vw p k lo len=>match G[p]? with
  |some (.dyn l _ esz a _)=>k=a∧esz=size∧lo*esz+len*esz≤l.length∧K len ((l.drop (lo*esz)).take (len*esz))
  |_=>False
 |.lst l len esz=>esz=size∧K len l
 |.str l=>size=1∧K l.length (l.map LV.b)
 |_=>False
def bytL (G:Ev)(x:LV)(K:List LV→Prop):Prop:=match x with
 |.nilSl=>K []
 |.dy p k=>match G[p]? with
  |some (.dyn l _ esz a _)=>k=a∧esz=1∧K l
  |_=>False
 |.lst l len esz=>esz=1∧len≠0∧K l
 |_=>False
def lenL (G:Ev)(x:LV)(K:Nat→Prop):Prop:=match x with
 |.nilSl=>K 0
 |.dy p k=>match G[p]? with
  |some (.dyn _ len _ a _)=>k=a∧K len
  |_=>False
 |.vw p k _ len=>match G[p]? with
  |some (.dyn _ _ _ a _)=>k=a∧K len
  |_=>False
 |.lst _ len _=>K len
 |_=>False
def H0 (G:Ev)(size:Nat)(s:LV)(n:Nat)(new:List LV)(K:LV→Ev→Prop):Prop:=match s with
 |.nilSl=>K (.dy G.length 0) (G++[.dyn new n size 0 0])
 |.dy p k=>match G[p]? with
  |some (.dyn l len esz a st)=>k=a∧(esz=size∧0<esz)∧len≤1000000000∧K (.dy p (a+1)) (G.set p (.dyn (l++new) (len+n) esz (a+1) (st+1)))
  |_=>False
 |.vw p k lo len=>match G[p]? with
  |some (.dyn l d esz a st)=>k=a∧(esz=size∧lo=0∧0<n)∧len≤1000000000∧if (len+n)*esz≤l.length then K (.vw p k 0 (len+n)) (G.set p (.dyn (Gm l (len*esz) new) d esz a (st+1)))∧K (.dy G.length 0) (G++[.dyn (l.take (len*esz)++new) (len+n) size 0 0]) else len=d∧0<esz∧K (.dy p (a+1)) (G.set p (.dyn (l++new) (len+n) esz (a+1) (st+1)))∧K (.dy G.length 0) (G++[.dyn (l++new) (len+n) size 0 0])
  |_=>False
 |.vf p k len=>match G[p]? with
  |some (.dyn l _ esz a _)=>k=a∧(esz=size∧0<n)∧len≤1000000000∧len*esz≤l.length∧K (.dy G.length 0) (G++[.dyn (l.take (len*esz)++new) (len+n) size 0 0])
  |_=>False
 |_=>False
def zmq (ρ:Ey)(cs:List LV):List (Nat×Nat×Lx)→Option (List LV)
 |[]=>some cs
 |(off,size,x)::a=>match (x.ev ρ).cells with
  |none=>none
  |some l=>if l.length=size∧off+size≤cs.length then zmq ρ (Gm cs off l) a else none
def Px (d:TypeDesc)(a b:LV):Option Bool:=match d,a,b with
 |.int _,.i a,.i b=>some (decide (a=b))
 |.int _,.u a,.u b=>some (decide (a=b))
 |.string,.str a,.str b=>some (decide (a=b))
 |_,_,_=>none
def zle (d:TypeDesc)(k:LV)(K:Option LV→Prop):List (LV×LV×Nat)→Prop
 |[]=>K none
 |(k',v,_)::l=>match Px d k k' with
  |some b=>Lr b (K (some v)) (zle d k K l)
  |none=>False
def Ou (d:TypeDesc)(k v:LV)(clock:Nat)(K:List (LV×LV×Nat)→Bool→Prop):List (LV×LV×Nat)→Prop
 |[]=>K [(k,v,clock)] true
 |(k',a,n)::l=>match Px d k k' with
  |some b=>Lr b (K ((k,v,n)::l) false) (Ou d k v clock (fun r new=>K ((k',a,n)::r) new) l)
  |none=>False
def Qb (G:Ev)(x:LV)(K:List (LV×LV×Nat)→Prop):Prop:=match x with
 |.nilMap=>K []
 |.map p=>match G[p]? with
  |some (.map es _ _)=>K es
  |_=>False
 |_=>False
def zxe (z:LV)(ok:Bool)(K:LV→Prop):Option LV→Prop
 |some v=>K (match ok with |true=>.tup [v,.bool true]|false=>v)
 |none=>K (match ok with |true=>.tup [z,.bool false]|false=>z)
def setK (G:Ev)(p a st:Nat)(K:Ev→Prop):List (LV×LV×Nat)→Bool→Prop:=fun es new=>K (G.set p (.map es (match new with | true=>a+1 | false=>a) (st+1)))
def zno (G:Ev)(d:TypeDesc)(m k v:LV)(K:Ev→Prop):Prop:=match m with
 |.map p=>match G[p]? with
  |some (.map es a st)=>Ou d k v a (setK G p a st K) es
  |_=>False
 |_=>False
def Hv (ρ:Ey)(d:Nat)(x:Option Lx)(K:Nat→Prop):Prop:=match x with
 |none=>K d
 |some x=>match x.ev ρ with
  |.i n=>0≤n∧K n.toNat
  |.u n=>K n.toNat
  |_=>False
def fullV (p k a b m:Nat):LV:=match decide (a=0∧b=m∧0<b) with
 |true=>.vf p k b
 |false=>.vw p k a (b - a)
def ixO (G:Ev)(size:Nat)(x:LV)(n:Int)(K:LV→Prop):Prop:=match x with
 |.dy p k=>match G[p]? with
  |some (.dyn _ len esz a _)=>k=a∧esz=size∧0≤n∧n<len∧K (.dptr p k (n.toNat*size))
  |_=>False
 |.vw p k lo len=>match G[p]? with
  |some (.dyn _ _ esz a _)=>k=a∧esz=size∧0≤n∧n<len∧K (.dptr p k ((lo+n.toNat)*size))
  |_=>False
 |.lst l len esz=>esz=size∧0≤n∧n<len∧K (.cptr l (n.toNat*size))
 |_=>False
inductive LTgt where
 |fn (f:Nat)
 |yield (p:Nat)
def TgtR (c:Cx):LTgt→Tgt→Prop
 |.fn f,.fn g=>f=g
 |.yield p,.yield o=>c.hd[p]?=some (0,.ptr o 0 0)
 |_,_=>False
def zwq (P:Program):LTgt→Prop
 |.fn f=>z7r P f=true∧zfe P f=false
 |.yield _=>True
def Fh (P:Program)(t:LTgt)(args:List LV)(G:Ev)(K:LV→Ev→Prop):Prop :=
 zwq P t∧∀c t1 a,HSim c G→TgtR c t t1→ARs c args a→∃m v1 H',Kn P (OL P) m t1 a c.H=.ok v1 H'∧∃c' v G',c'.H=H'∧HSim c' G'∧Step c G c' G'∧AR c' v v1∧K v G'
def F7 (P:Program)(ρ:Ey)(G:Ev)(o:LOp)(K:LV→Ev→Prop):Prop:=match o with
 |.move x=>K (x.ev ρ) G
 |.pick c a b=>match c.ev ρ with
  |.bool t=>match a.ev ρ,b.ev ρ with
   |.bool x,.bool y=>K (.bool (match t with |true=>x |false=>y)) G
   |x,y=>Lr t (K x G) (K y G)
  |_=>False
 |.alloc l=>K (.ptr G.length 0) (G++[.cells l 0])
 |.box x=>match (x.ev ρ).cells with
  |some l=>K (.ptr G.length 0) (G++[.cells l 0])
  |none=>False
 |.build cs w=>match zmq ρ cs w with
  |some l=>K (.agg l) G
  |none=>False
 |.buildSl size len cs w=>match zmq ρ cs w with
  |some l=>l.length=len*size∧K (.dy G.length 0) (G++[.dyn l len size 0 0])
  |none=>False
 |.load1 x=>Q7 G (x.ev ρ) fun v=>K v G
 |.loadN n x=>Q3 G (x.ev ρ) n fun l=>K (.agg l) G
 |.store n x y=>match (y.ev ρ).cells with
  |some l=>l.length=n∧Om G (x.ev ρ) l fun G'=>K (.tup []) G'
  |none=>False
 |.nilChk x=>match x.ev ρ with
  |.ptr p i=>K (.ptr p i) G
  |.dptr p k i=>K (.dptr p k i) G
  |.cptr l i=>K (.cptr l i) G
  |.fn (.func f) a b=>K (.fn (.func f) a b) G
  |_=>False
 |.bin op g t x y=>Lk P op g t (x.ev ρ) (y.ev ρ) fun v=>K v G
 |.un op x=>unL op (x.ev ρ) fun v=>K v G
 |.cvInt k x=>cvL k (x.ev ρ) fun v=>K v G
 |.cvStr x=>bytL G (x.ev ρ) fun l=>∃bs:List UInt8,l=bs.map LV.b∧K (.str bs) G
 |.cvSame x=>match x.ev ρ with
  |.str l=>K (.str l) G
  |_=>False
 |.cvBytes x=>match x.ev ρ with
  |.str l=>K (.dy G.length 0) (G++[.dyn (l.map LV.b) l.length 1 0 0])
  |_=>False
 |.mkFunc f a b=>K (.fn (.func f) (a.map (·.ev ρ)) (b.map (·.ev ρ))) G
 |.mkSl size z l c=>match l.ev ρ,c.ev ρ with
  |.i l,.i c=>l=c∧0≤l∧l≤1048576∧z.length=size∧K (.dy G.length 0) (G++[.dyn (Hk z l.toNat) l.toNat size 0 0])
  |_,_=>False
 |.slStr x lo hi=>match x.ev ρ with
  |.str l=>Hv ρ 0 lo fun a=>Hv ρ l.length hi fun b=>a≤b∧b≤l.length∧K (.str ((l.drop a).take (b - a))) G
  |_=>False
 |.slSl size x lo hi=>match x.ev ρ with
  |.nilSl=>Hv ρ 0 lo fun a=>Hv ρ 0 hi fun b=>a=0∧b=0∧K .nilSl G
  |.dy p k=>match G[p]? with
   |some (.dyn _ len esz h _)=>k=h∧esz=size∧Hv ρ 0 lo fun a=>Hv ρ len hi fun b=>a≤b∧b≤len∧K (.vw p k a (b - a)) G
   |_=>False
  |.vw p k A len=>match G[p]? with
   |some (.dyn _ _ esz h _)=>k=h∧esz=size∧Hv ρ 0 lo fun a=>Hv ρ len hi fun b=>a≤b∧b≤len∧K (.vw p k (A+a) (b - a)) G
   |_=>False
  |.lst l len esz=>esz=size∧Hv ρ 0 lo fun a=>Hv ρ len hi fun b=>a≤b∧b≤len∧K (.lst ((l.drop (a*esz)).take ((b - a)*esz)) (b - a) esz) G
  |_=>False
 |.slSl3 size x lo hi mx=>match x.ev ρ with
  |.dy p k=>match G[p]? with
   |some (.dyn _ len esz h _)=>k=h∧esz=size∧Hv ρ 0 lo fun a=>Hv ρ len hi fun b=>Hv ρ 0 (some mx) fun m=>0<len∧a≤b∧b≤m∧m≤len∧K (fullV p k a b m) G
   |_=>False
  |.lst l len esz=>esz=size∧Hv ρ 0 lo fun a=>Hv ρ len hi fun b=>Hv ρ 0 (some mx) fun m=>0<len∧a≤b∧b≤m∧m≤len∧K (.lst ((l.drop (a*esz)).take ((b - a)*esz)) (b - a) esz) G
  |_=>False
 |.fieldAddr off x=>match x.ev ρ with
  |.ptr p i=>K (.ptr p (i+off)) G
  |.dptr p k i=>K (.dptr p k (i+off)) G
  |.cptr l i=>K (.cptr l (i+off)) G
  |_=>False
 |.field g n off x=>match x.ev ρ with
  |.agg l=>match g with
   |true=>off+n≤l.length∧K (.agg ((l.drop off).take n)) G
   |false=>Ho l off fun v=>K v G
  |_=>False
 |.ixAddr size x i=>match i.ev ρ with
  |.i n=>ixO G size (x.ev ρ) n fun v=>K v G
  |.u n=>ixO G size (x.ev ρ) (n.toNat:Int) fun v=>K v G
  |_=>False
 |.ixStr x i=>match x.ev ρ,i.ev ρ with
  |.str l,.i n=>0≤n∧n<l.length∧K (.b (l.getD n.toNat 0)) G
  |.str l,.u n=>n.toNat<l.length∧K (.b (l.getD n.toNat 0)) G
  |.str l,.b n=>n.toNat<l.length∧K (.b (l.getD n.toNat 0)) G
  |_,_=>False
 |.extract i x=>match x.ev ρ with
  |.tup l=>Ho l i fun v=>K v G
  |_=>False
 |.lenStr x=>match x.ev ρ with
  |.str l=>K (.i l.length) G
  |_=>False
 |.lenSl x=>lenL G (x.ev ρ) fun n=>K (.i n) G
 |.maxi mx x y=>match x.ev ρ,y.ev ρ with
  |.i a,.i b=>K (.i (match mx with |true=>max a b |false=>min a b)) G
  |.u a,.u b=>K (.u (match mx with |true=>if a<b then b else a |false=>if b<a then b else a)) G
  |_,_=>False
 |.max3 mx x y z=>match x.ev ρ with
  |.i a=>match y.ev ρ with
   |.i b=>match z.ev ρ with
    |.i d=>K (.i (match mx with |true=>max (max a b) d |false=>min (min a b) d)) G
    |_=>False
   |_=>False
  |_=>False
 |.ixAddrArr len size x i=>match i.ev ρ with
  |.i n=>0≤n∧n<len∧match x.ev ρ with
   |.ptr p j=>K (.ptr p (j+n.toNat*size)) G
   |.dptr p k j=>K (.dptr p k (j+n.toNat*size)) G
   |.cptr l j=>K (.cptr l (j+n.toNat*size)) G
   |_=>False
  |_=>False
 |.ixArr g len size x i=>match i.ev ρ with
  |.i n=>0≤n∧n<len∧match x.ev ρ with
   |.agg l=>match g with
    |true=>n.toNat*size+size≤l.length∧K (.agg ((l.drop (n.toNat*size)).take size)) G
    |false=>Ho l (n.toNat*size) fun v=>K v G
   |_=>False
  |_=>False
 |.lenArr n _=>K (.i n) G
 |.appZ size z s x=>match x.ev ρ with
  |.i n=>0≤n∧n≤1048576∧z.length=size∧H0 G size (s.ev ρ) n.toNat (Hk z n.toNat) K
  |_=>False
 |.appG size s x=>L7 G size (x.ev ρ) fun n l=>n≤1048576∧H0 G size (s.ev ρ) n l K
 |.copy size d x=>L7 G size (x.ev ρ) fun n l=>match d.ev ρ with
  |.dy p k=>match G[p]? with
   |some (.dyn r len esz h st)=>k=h∧esz=size∧K (.i (min n len:Nat)) (G.set p (.dyn (Gm r 0 (l.take (min n len*size))) len esz h (st+1)))
   |_=>False
  |.vw p k lo len=>match G[p]? with
   |some (.dyn r q esz h st)=>k=h∧esz=size∧(lo+len)*size≤r.length∧K (.i (min n len:Nat)) (G.set p (.dyn (Gm r (lo*size) (l.take (min n len*size))) q esz h (st+1)))
   |_=>False
  |_=>False
 |.clear size z x=>match x.ev ρ with
  |.vw p k lo len=>match G[p]? with
   |some (.dyn r q esz h st)=>k=h∧esz=size∧z.length=size∧(lo+len)*size≤r.length∧K .any (G.set p (.dyn (Gm r (lo*size) (Hk z len)) q esz h (st+1)))
   |_=>False
  |_=>False
 |.mkMap0=>K (.map G.length) (G++[.map [] 0 0])
 |.mkMap1 x=>match x.ev ρ with
  |.i _=>K (.map G.length) (G++[.map [] 0 0])
  |_=>False
 |.lookup d z ok x i=>Qb G (x.ev ρ) fun es=>zle d (i.ev ρ) (zxe z ok fun v=>K v G) es
 |.mapUpd d m k v=>zno G d (m.ev ρ) (k.ev ρ) (v.ev ρ) fun G'=>K .any G'
 |.lenMap x=>Qb G (x.ev ρ) fun es=>K (.i es.length) G
 |.slArr n size x lo hi=>match x.ev ρ with
  |.ptr p i=>match G[p]? with
   |some (.cells l st)=>i+n*size≤l.length∧Hv ρ 0 lo fun a=>Hv ρ n hi fun b=>a≤b∧b≤n∧K (.lst ((l.drop (i+a*size)).take ((b - a)*size)) (b - a) size) (G.set p (.dead (st+1)))
   |_=>False
  |_=>False
 |.callV f args=>match f.ev ρ with
  |.fn (.func g) a b=>Fh P (.fn g) (a++args.map (·.ev ρ)++b) G K
  |.fn (.yield p) [] _=>Fh P (.yield p) (args.map (·.ev ρ)) G K
  |_=>False
end Go.Sv
end
namespace Go.Sv
theorem z60 {t:Tr AV}:∀{n i:Nat} {l:List AV},l.length=n→(∀j,j<n→E3 (Fl (i+j)) t=l[j]?)→Kx t i n=some l
 |0,i,l,h,_=>by
  have:l=[]:=A0 h;subst this;rfl
 |n+1,i,[],h,_=>by simp at h
 |n+1,i,a::l,h,k=>by
  have d:=k 0 (by omega);simp only[C6,A6] at d;have f:=z60 (t:=t) (n:=n) (i:=i+1) (l:=l) (by simpa using h) (fun j g=>by
   have:=k (j+1) (by omega);rw[Av] at this;rw[←this,show i+1+j=i+(j+1) from by omega])
  simp only[Kx,d,f]
theorem zpt {t:Tr AV}{N i n:Nat}{l:List AV}(h:Kx t 0 N=some l)(hle:i+n≤N):Kx t i n=some ((l.drop i).take n):=by
 obtain⟨f,a⟩:=Yp h;refine z60 (by simp;omega) (fun j d=>?_);have:=a (i+j) (by omega);rw[Be] at this;rw[this,Ch d,Es]
theorem z78 (l:List AV):Kx (Jw l 0 .e) 0 l.length=some l :=
 z60 rfl (fun j a=>by rw[get_ofList,Ag (by omega)];simp)
def Xl (l:List AV)(i:Nat)(r:List AV):List AV:=l.take i++r++l.drop (i+r.length)
theorem zpe {l r:List AV}{i:Nat}(h:i+r.length≤l.length):(Xl l i r).length=l.length:=by
 unfold Xl;simp;omega
theorem zi7 {l r:List AV}{i:Nat}(h:i+r.length≤l.length)(j:Nat):(Xl l i r)[j]?=if i≤j∧j<i+r.length then r[j - i]? else l[j]?:=by
 have hi:(l.take i).length=i:=by simp;omega
 unfold Xl;by_cases a:j<i
 ·rw[Ac (by omega),Bo,Aq (by omega),Ch a]
 ·by_cases d:j<i+r.length
  ·rw[Ag (by omega),Aq (by simp;omega),Au (by omega),hi]
  ·rw[Ac (by omega),Au (by simp;omega),Es]
   congr 1
   simp;omega
theorem zfu {t:Tr AV}{N i:Nat}{l r:List AV}(h:Kx t 0 N=some l)(hle:i+r.length≤N):Kx (Jw r i t) 0 N=some (Xl l i r):=by
 obtain⟨a,d⟩:=Yp h;refine z60 (by rw[zpe (by omega)];exact a) (fun j f=>?_);have:=d j f;rw[Be] at this ⊢;rw[get_ofList,zi7 (by omega),this]
theorem znt {t:Tr AV}{N:Nat}{l r:List AV}(h:Kx t 0 N=some l):Kx (Jw r N t) 0 (N+r.length)=some (l++r):=by
 obtain⟨d,f⟩:=Yp h;refine z60 (by simp;omega) (fun j g=>?_);rw[Be,get_ofList];by_cases a:N≤j
 ·rw[Ag ⟨a,by omega⟩,Au (by omega),d]
 ·rw[Ac (by omega),Aq (by omega)];have:=f j (by omega)
  rwa [Be] at this
theorem Pe {H:Heap}{o v i n N a:Nat}{t:Tr AV}{ro:Bool}{l:List AV}(d:H.get o=some (.cells t a v ro))(f:Kx t 0 N=some l)(h:N≤a)(hle:i+n≤N):Jd H o v i n=some ((l.drop i).take n):=by
 unfold Jd;rw[d];have g:Nat.ble (Nat.add i n) a=true:=Al (by show i+n≤a;omega);simp only[Bj,g];exact zpt f hle
theorem z49 {H H':Heap}{o:Nat}(h:H'.get o=H.get o)(v i n:Nat):Jd H' o v i n=Jd H o v i n:=by
 unfold Jd;rw[h]
theorem zkm {H:Heap}{o v i n j m:Nat}{l:List AV}(h:Jd H o v i n=some l)(hle:j+m≤n):Jd H o v (i+j) m=some ((l.drop j).take m):=by
 unfold Jd at h ⊢;split at h
 ·rename_i t a f ro w;split at h
  ·rename_i hv;split at h
   ·rename_i g;have p:i+n≤a:=As g;have d:Nat.ble (Nat.add (i+j) m) a=true:=Al (by show i+j+m≤a;omega);simp only[d];obtain⟨x,r⟩:=Yp h;refine z60 (by simp;omega) (fun q s=>?_);have:=r (j+q) (by omega);rw[Cs,this,Ch s,Es]
   ·cases h
  ·cases h
 ·cases h
theorem zdy {H:Heap}{o v i n:Nat}{l:List AV}(h:Jd H o v i n=some l):l.length=n:=by
 unfold Jd at h;split at h
 ·split at h
  ·split at h
   ·exact (Yp h).1
   ·cases h
  ·cases h
 ·cases h
section lists
variable {c : Cx}
theorem ARs.length:∀{l:List LV} {r:List AV},ARs c l r→l.length=r.length
 |_,_,.nil=>rfl
 |_,_,.cons _ es=>by simp[ARs.length es]
theorem ARs.get:∀{l:List LV} {r:List AV},ARs c l r→∀{i:Nat} {v:LV},l[i]?=some v→∃a,r[i]?=some a∧AR c v a
 |_,_,.nil,i,v,h=>by simp at h
 |_,_,.cons e es,0,v,h=>by simp only[A6,Option.some.injEq] at h;subst h;exact⟨_,rfl,e⟩
 |_,_,.cons e es,i+1,v,h=>by simp only[Av] at h ⊢;exact ARs.get es h
theorem ARs.append:∀{l:List LV} {r:List AV} {l':List LV} {r':List AV},ARs c l r→ARs c l' r'→ARs c (l++l') (r++r')
 |_,_,_,_,.nil,k=>k
 |_,_,_,_,.cons e es,k=>.cons e (ARs.append es k)
theorem ARs.drop:∀{l:List LV} {r:List AV},ARs c l r→∀n,ARs c (l.drop n) (r.drop n)
 |_,_,h,0=>h
 |_,_,.nil,_+1=>.nil
 |_,_,.cons _ es,n+1=>ARs.drop es n
theorem ARs.take:∀{l:List LV} {r:List AV},ARs c l r→∀n,ARs c (l.take n) (r.take n)
 |_,_,_,0=>.nil
 |_,_,.nil,_+1=>.nil
 |_,_,.cons e es,n+1=>.cons e (ARs.take es n)
theorem ARs.lay {l r:List LV}{l' r':List AV}(h:ARs c l l')(k:ARs c r r')(i:Nat):ARs c (Gm l i r) (Xl l' i r'):=by
 unfold Gm Xl;rw[k.length];exact ((h.take i).append k).append (h.drop _)
theorem zbw {l r:List LV}{i:Nat}(h:i+r.length≤l.length):(Gm l i r).length=l.length:=by
 unfold Gm;simp;omega
theorem ARs.rep {z:List LV}{z':List AV}(h:ARs c z z'):∀n,ARs c (Hk z n) (Lp z' n)
 |0=>.nil
 |n+1=>h.append (ARs.rep h n)
theorem z7z (z:List LV):∀n,(Hk z n).length=n*z.length
 |0=>by simp[Hk]
 |n+1=>by simp[Hk,z7z z n,Bb];omega
end lists
theorem zwd (c:Cx){v:LV}(h:v.scal=true):AR c v (toA v):=by
 cases v<;>first | (cases h;done) | (unfold toA;constructor)
theorem z90 (c:Cx):∀{l:List LV},l.all LV.scal=true→ARs c l (toAs l)
 |[],_=>by unfold toAs;exact .nil
 |v::l,h=>by
  simp only[Cu,Ab] at h;unfold toAs;exact .cons (zwd c h.1) (z90 c h.2)
theorem T9 (c:Cx){v:LV}(h:v.cst=true):AR c v (toA v):=by
 unfold LV.cst at h;split at h
 ·unfold toA;exact .fn .nil .nil
 ·unfold toA;exact .agg (z90 c h)
 ·unfold toA toAs;exact .tup .nil
 ·exact zwd c h
theorem AR.cells {c:Cx}{v:LV}{a:AV}(h:AR c v a){l:List LV}(hl:v.cells=some l):∃l',a.cells=some l'∧ARs c l l':=by
 cases v with
 |any=>cases hl
 |tup _=>cases hl
 |agg l0=>cases hl;cases h with |agg h=>exact⟨_,rfl,h⟩
 |dy p k =>
  simp only[LV.cells,Option.some.injEq] at hl;subst hl;have h0:=h;refine⟨[a],?_,.cons h0 .nil⟩;cases h with | dy _ _ _ hs=>cases a<;>first | rfl | cases hs
 |vw p k lo len =>
  simp only[LV.cells,Option.some.injEq] at hl;subst hl;have h0:=h;refine⟨[a],?_,.cons h0 .nil⟩;cases h with | vw _ _ _ hs _=>cases a<;>first | rfl | cases hs
 |vf p k len =>
  simp only[LV.cells,Option.some.injEq] at hl;subst hl;have h0:=h;refine⟨[a],?_,.cons h0 .nil⟩;cases h with | vf _ _ _ hs=>cases a<;>first | rfl | cases hs
 |_ =>
  simp only[LV.cells,Option.some.injEq] at hl;subst hl;have h0:=h;refine⟨[a],?_,.cons h0 .nil⟩;cases h<;>rfl
theorem CxLe.refl (c:Cx):CxLe c c:=⟨fun _ k h e=>⟨k,h,e,Am _,fun _=>rfl,fun _=>rfl⟩,fun _ h=>⟨h,rfl⟩⟩
theorem CxLe.trans {a b c:Cx}(h:CxLe a b)(k:CxLe b c):CxLe a c:=by
 refine⟨fun p v x e=>?_,fun o e=>?_⟩
 ·obtain⟨v1,x1,e1,l1,s1,f1⟩:=h.hd p v x e;obtain⟨v2,x2,e2,l2,s2,f2⟩:=k.hd p v1 x1 e1;refine⟨v2,x2,e2,Br l1 l2,fun q=>?_,fun q=>?_⟩
  ·have q1:v=v1:=by omega
   have q2:v1=v2:=by omega
   rw[s1 q1,s2 q2]
  ·have q1:=f1 q;have:=s1 q1;subst this;rw[q1,f2 q]
 ·obtain⟨h1,h2⟩:=h.fz o e;obtain⟨h3,h4⟩:=k.fz o h1;exact⟨h3,h4.trans h2⟩
theorem CxLe.fix {c c':Cx}(h:CxLe c c'){p k:Nat}{x:AV}(e:c.hd[p]?=some (k,x))(hf:R6 x=true):c'.hd[p]?=some (k,x):=by
 obtain⟨k',x',e',_,s,f⟩:=h.hd p k x e;have:=f hf;subst this;rw[s rfl];exact e'
mutual
theorem AR.mono {c c':Cx}(h:CxLe c c'):∀{v:LV} {a:AV},AR c v a→AR c' v a
 |_,_,.any a=>.any a
 |_,_,.bool b=>.bool b
 |_,_,.u x=>.u x
 |_,_,.b x=>.b x
 |_,_,.i n=>.i n
 |_,_,.int k n=>.int k n
 |_,_,.str l=>.str l
 |_,_,.nilPtr=>.nilPtr
 |_,_,.ptr e=>.ptr (h.fix e rfl)
 |_,_,.dptr hp hk ha=>by
  obtain⟨k2,h2,e2,l2,s2,_⟩:=h.hd _ _ _ hp;refine .dptr e2 (Br hk l2) (fun q=>?_);have q1:=ha (by omega);rw[←s2 (by omega)];exact q1
 |_,_,.cptr hf hr hl=>.cptr (h.fz _ hf).1 (by rw[z49 (h.fz _ hf).2];exact hr) (ARs.mono h hl)
 |_,_,.nilSl=>.nilSl
 |_,_,.dy hp hk ha hs=>by
  obtain⟨k2,h2,e2,l2,s2,_⟩:=h.hd _ _ _ hp;refine .dy e2 (Br hk l2) (fun q=>?_) hs;have q1:=ha (by omega);rw[←s2 (by omega)];exact q1
 |_,_,.vw hp hk ha hs hz=>by
  obtain⟨k2,h2,e2,l2,s2,_⟩:=h.hd _ _ _ hp;refine .vw e2 (Br hk l2) (fun q=>?_) hs (fun q=>?_)
  ·have q1:=ha (by omega);rw[←s2 (by omega)];exact q1
  ·have q1:=hz (by omega);rw[←s2 (by omega)];exact q1
 |_,_,.vf hp hk ha hs=>by
  obtain⟨k2,h2,e2,l2,s2,_⟩:=h.hd _ _ _ hp;refine .vf e2 (Br hk l2) (fun q=>?_) hs;have q1:=ha (by omega);rw[←s2 (by omega)];exact q1
 |_,_,.lst hf hrm hlen hr hl=>.lst (h.fz _ hf).1 hrm hlen (by rw[z49 (h.fz _ hf).2];exact hr) (ARs.mono h hl)
 |_,_,.lstNil=>.lstNil
 |_,_,.lstEmp=>.lstEmp
 |_,_,.nilMap=>.nilMap
 |_,_,.map e=>.map (h.fix e rfl)
 |_,_,.nilFn=>.nilFn
 |_,_,.fn hl hr=>.fn (ARs.mono h hl) (ARs.mono h hr)
 |_,_,.yield e=>.yield (h.fix e rfl)
 |_,_,.nilIf=>.nilIf
 |_,_,.iface e=>.iface (AR.mono h e)
 |_,_,.agg e=>.agg (ARs.mono h e)
 |_,_,.tup e=>.tup (ARs.mono h e)
theorem ARs.mono {c c':Cx}(h:CxLe c c'):∀{l:List LV} {r:List AV},ARs c l r→ARs c' l r
 |_,_,.nil=>.nil
 |_,_,.cons e es=>.cons (AR.mono h e) (ARs.mono h es)
end
theorem MRs.mono {c c':Cx}(h:CxLe c c'):∀{l:List (LV×LV×Nat)} {r:List (AV×AV×Nat)},MRs c l r→MRs c' l r
 |_,_,.nil=>.nil
 |_,_,.cons hk hv hs=>.cons (hk.mono h) (hv.mono h) (MRs.mono h hs)
theorem Gl.mono {c c':Cx}(h:CxLe c c'){ρ:Ey}{E:Tr AV}(k:Gl c ρ E):Gl c' ρ E:=fun t=>(k t).mono h
theorem ObR.mono {c c':Cx}(h:CxLe c c'){k:Nat}{x:AV}{ob:LObj}(hg:∀o,F9 x=some o→c'.H.get o=c.H.get o)(r:ObR c k x ob):ObR c' k x ob:=by
 cases ob with
 |dead st=>trivial
 |cells l st =>
  obtain⟨r0,o,t,l',rfl,r2,r3,r4⟩:=r;exact⟨r0,o,t,l',rfl,by rw[hg o rfl];exact r2,r3,r4.mono h⟩
 |dyn l len esz af st =>
  obtain⟨r0,r1,r2⟩:=r;refine⟨r0,r1,?_⟩;rcases r2 with r2 | ⟨o,v,room,t,aa,l',rfl,r3,r4,r5,r6,r7⟩
  ·exact .inl r2
  ·exact .inr ⟨o,v,room,t,aa,l',rfl,by rw[hg o rfl];exact r3,r4,r5,r6.mono h,r7⟩
 |map es ck st =>
  obtain⟨r0,o,ad,rfl,r2,r3⟩:=r;exact⟨r0,o,ad,rfl,by rw[hg o rfl];exact r2,r3.mono h⟩
 |iter l pos =>
  obtain⟨r0,o,rfl,r2⟩:=r;exact⟨r0,o,rfl,by rw[hg o rfl];exact r2⟩
 |loop s pend f n ρ ps a b d =>
  obtain⟨r0,o,od,E,rfl,r2,r3,r4⟩:=r;exact⟨r0,o,od,E,rfl,h.fix r2 rfl,by rw[hg o rfl];exact r3,r4.mono h⟩
 |defd op =>
  obtain⟨r0,o,rfl,r2⟩:=r;exact⟨r0,o,rfl,by rw[hg o rfl];exact r2⟩
theorem Step.refl (c:Cx)(G:Ev):Step c G c G:=by
 refine⟨.refl c,Am _,fun _ _ _=>rfl,fun _ h=>.inl h,fun _ h=>.inl h,fun p ob ob' e1 e2=>?_,fun p ob ob' k h o e1 e2 _ _ _ _=>?_⟩
 ·rw[e1] at e2;cases e2;exact Am _
 ·rw[e1] at e2;cases e2;exact⟨rfl,rfl,rfl⟩
theorem Step.trans {c c1 c2:Cx}{G G1 G2:Ev}(h0:HSim c G)(h1:HSim c1 G1)(s1:Step c G c1 G1)(s2:Step c1 G1 c2 G2):Step c G c2 G2:=by
 have af:∀p ob,G[p]?=some ob→∃aa,G1[p]?=some aa:=fun p ob e=>by
  have hp:p<c.hd.length:=by rw[h0.len];exact (Aa.1 e).1
  obtain⟨k,h,e3⟩:∃k h,c.hd[p]?=some (k,h):=⟨_,_,Ai hp⟩;obtain⟨k1,x1,q1,_,_,_⟩:=s1.le.hd p k h e3;have hp:p<G1.length:=by rw[←h1.len];exact (Aa.1 q1).1
  exact⟨_,Ai hp⟩
 refine⟨s1.le.trans s2.le,Br s1.nx s2.nx,fun o ho hn=>?_,fun o ho=>?_,fun o ho=>?_,fun p ob ad e1 e2=>?_,fun p ob ad k h o e1 e2 e3 e4 hl he=>?_⟩
 ·rw[s2.frame o (Bh ho s1.nx) (fun hc=>?_),s1.frame o ho hn];rcases s1.new o hc with h | h
  ·exact hn h
  ·omega
 ·rcases s2.new o ho with h | h
  ·exact s1.new o h
  ·exact .inr (Br s1.nx h)
 ·rcases s2.fznew o ho with h | h | h
  ·exact s1.fznew o h
  ·rcases s1.new o h with h | h
   ·exact .inr (.inl h)
   ·exact .inr (.inr h)
  ·exact .inr (.inr (Br s1.nx h))
 ·obtain⟨aa,q2⟩:=af p ob e1;exact Br (s1.mono p ob aa e1 q2) (s2.mono p aa ad q2 e2)
 ·obtain⟨aa,q2⟩:=af p ob e1;have m1:=s1.mono p ob aa e1 q2;have m2:=s2.mono p aa ad q2 e2;obtain⟨rfl,r3,r4⟩:=s1.st p ob aa k h o e1 q2 e3 e4 hl (by omega);obtain⟨rfl,r7,r8⟩:=s2.st p aa ad k h o q2 e2 (by rw[r4];exact e3) e4 hl (by omega);rw[r7,r8,r3,r4];exact⟨rfl,rfl,rfl⟩
theorem HSim.push {c:Cx}{G:Ev}(hs:HSim c G){H':Heap}{x:AV}{ob:LObj}(ah:c.H.next≤H'.next)(ag:∀o,o<c.H.next→H'.get o=c.H.get o)(aj:∀o,F9 x=some o→c.H.next≤o∧o<H'.next)
  (aq:ObR ⟨c.hd++[(0,x)],c.Fz,H'⟩ 0 x ob):HSim ⟨c.hd++[(0,x)],c.Fz,H'⟩ (G++[ob])∧Step c G ⟨c.hd++[(0,x)],c.Fz,H'⟩ (G++[ob])∧CxLe c ⟨c.hd++[(0,x)],c.Fz,H'⟩:=by
 have ap:∀(p k:Nat) (h:AV),c.hd[p]?=some (k,h)→(c.hd++[(0,x)])[p]?=some (k,h):=fun p k h e=>by
  rw[Aq (Aa.1 e).1];exact e
 have hle:CxLe c ⟨c.hd++[(0,x)],c.Fz,H'⟩:=⟨fun p k h e=>⟨k,h,ap p k h e,Am _,fun _=>rfl,fun _=>rfl⟩,fun o ho=>⟨ho,ag o (hs.fz o ho)⟩⟩;have hinv:∀(p:Nat) (k:Nat) (h:AV) (ob':LObj),(c.hd++[(0,x)])[p]?=some (k,h)→(G++[ob])[p]?=some ob'→(c.hd[p]?=some (k,h)∧G[p]?=some ob')∨(p=G.length∧k=0∧h=x∧ob'=ob):=by
  intro p k h ob' e1 e2;by_cases hp:p<G.length
  ·rw[Aq hp] at e2;rw[Aq (by rw[hs.len];exact hp)] at e1;exact .inl ⟨e1,e2⟩
  ·have ar:p=G.length:=by
    have:=(Aa.1 e2).1;simp at this;omega
   subst ar;rw[Ax] at e2;rw[←hs.len,Ax] at e1;cases e1;cases e2;exact .inr ⟨rfl,rfl,rfl,rfl⟩
 have ad:∀o,Hw ⟨c.hd++[(0,x)],c.Fz,H'⟩ (G++[ob]) o→Hw c G o∨(c.H.next≤o∧o<H'.next):=by
  rintro o ⟨p,ob',k,h,e1,e2,e3,e4⟩;rcases hinv p k h ob' e3 e1 with ⟨q1,q2⟩ | ⟨_,_,rfl,_⟩
  ·exact .inl ⟨p,ob',k,h,q2,e2,q1,e4⟩
  ·exact .inr (aj o e4)
 refine⟨⟨by simp[hs.len],fun o ho=>Bh (hs.fz o ho) ah,fun o ho=>?_,fun o ho hf=>?_,fun p ob' k h e1 e2=>?_,?_⟩,⟨hle,ah,fun o ho _=>ag o ho,fun o ho=>?_,fun o ho=>.inl ho,fun p aa af e1 e2=>?_,fun p aa af k h o e1 e2 e3 e4 hl _=>?_⟩,hle⟩
 ·rcases ad o ho with h | h
  ·exact Bh (hs.lt o h) ah
  ·exact h.2
 ·rcases ad o ho with h | h
  ·exact hs.sep o h hf
  ·have:=hs.fz o hf;omega
 ·rcases hinv p k h ob' e2 e1 with ⟨q1,q2⟩ | ⟨_,rfl,rfl,rfl⟩
  ·by_cases hl:ob'.live=true
   ·exact (hs.obj p ob' k h q2 q1).mono hle (fun o ho=>ag o (hs.lt o ⟨p,ob',k,h,q2,hl,q1,ho⟩))
   ·cases ob'<;>first | exact absurd rfl hl | trivial
  ·exact aq
 ·intro p q aa af k h k' h' o e1 e2 e3 e4 e5 e6 e7 e8;rcases hinv p k h aa e5 e1 with ⟨q1,q2⟩ | ⟨r1,_,rfl,rfl⟩<;>rcases hinv q k' h' af e6 e2 with ⟨q3,q4⟩ | ⟨r2,_,rfl,rfl⟩
  ·exact hs.excl p q aa af k h k' h' o q2 q4 e3 e4 q1 q3 e7 e8
  ·have:=hs.lt o ⟨p,aa,k,h,q2,e3,q1,e7⟩;have:=aj o e8;omega
  ·have:=hs.lt o ⟨q,af,k',h',q4,e4,q3,e8⟩;have:=aj o e7;omega
  ·omega
 ·rcases ad o ho with h | h
  ·exact .inl h
  ·exact .inr h.1
 ·rw[Aq (Aa.1 e1).1,e1] at e2;cases e2;exact Am _
 ·rw[Aq (Aa.1 e1).1,e1] at e2;cases e2;have ao:aa.live=true:=by cases aa<;>first | rfl | cases hl
  exact⟨rfl,ag o (hs.lt o ⟨p,aa,k,h,e1,ao,e3,e4⟩),by rw[ap p k h e3,e3]⟩
theorem HSim.upd {c:Cx}{G:Ev}(hs:HSim c G){p k k':Nat}{x x':AV}{ob ob':LObj}{H':Heap}(hG:G[p]?=some ob)(hl:ob.live=true)(hp:c.hd[p]?=some (k,x))(aq:c.H.next≤H'.next)
  (ap:∀o,o<c.H.next→F9 x≠some o→H'.get o=c.H.get o) (ar:∀o,F9 x'=some o→(F9 x=some o∨c.H.next≤o)∧o<H'.next)
  (hk:k≤k') (hx:k=k'→x=x') (hf:R6 x=true→k=k') (ax:ob.st<ob'.st∨(ob.stp=false∧ob.st≤ob'.st))
  (az:CxLe c ⟨c.hd.set p (k',x'),c.Fz,H'⟩→ObR ⟨c.hd.set p (k',x'),c.Fz,H'⟩ k' x' ob') :
  HSim ⟨c.hd.set p (k',x'),c.Fz,H'⟩ (G.set p ob')∧Step c G ⟨c.hd.set p (k',x'),c.Fz,H'⟩ (G.set p ob')∧CxLe c ⟨c.hd.set p (k',x'),c.Fz,H'⟩:=by
 have ay:p<c.hd.length:=(Aa.1 hp).1;have aw:p<G.length:=(Aa.1 hG).1;have af:∀o,F9 x=some o→Hw c G o:=fun o ho=>⟨p,ob,k,x,hG,hl,hp,ho⟩
 have hle:CxLe c ⟨c.hd.set p (k',x'),c.Fz,H'⟩:=by
  refine⟨fun q k1 h1 e=>?_,fun o ho=>⟨ho,ap o (hs.fz o ho) (fun q=>hs.sep o (af o q) ho)⟩⟩;by_cases hq:q=p
  ·subst hq;rw[hp] at e;cases e;exact⟨k',x',by dsimp only;rw[Ah ay],hk,hx,hf⟩
  ·exact⟨k1,h1,by dsimp only;rw[Ad (Ne.symm hq)];exact e,Am _,fun _=>rfl,fun _=>rfl⟩
 have hinv:∀(q:Nat) (k1:Nat) (h1:AV) (aa:LObj),(c.hd.set p (k',x'))[q]?=some (k1,h1)→(G.set p ob')[q]?=some aa→(q≠p∧c.hd[q]?=some (k1,h1)∧G[q]?=some aa)∨(q=p∧k1=k'∧h1=x'∧aa=ob'):=by
  intro q k1 h1 aa e1 e2;by_cases hq:q=p
  ·subst hq;rw[Ah ay] at e1;rw[Ah aw] at e2;cases e1;cases e2;exact .inr ⟨rfl,rfl,rfl,rfl⟩
  ·rw[Ad (Ne.symm hq)] at e1 e2;exact .inl ⟨hq,e1,e2⟩
 have ad:∀(q:Nat) (k1:Nat) (h1:AV) (aa:LObj) (o:Nat),q≠p→c.hd[q]?=some (k1,h1)→G[q]?=some aa→aa.live=true→F9 h1=some o→F9 x≠some o:=by
  intro q k1 h1 aa o hq e1 e2 e3 e4 e5;exact hq (hs.excl q p aa ob k1 h1 k x o e2 hG e3 hl e1 hp e4 e5)
 have aj:∀o,Hw ⟨c.hd.set p (k',x'),c.Fz,H'⟩ (G.set p ob') o→(Hw c G o∧o<c.H.next)∨(c.H.next≤o∧o<H'.next):=by
  rintro o ⟨q,aa,k1,h1,e1,e2,e3,e4⟩;rcases hinv q k1 h1 aa e3 e1 with ⟨_,q1,q2⟩ | ⟨_,_,rfl,_⟩
  ·have:=(⟨q,aa,k1,h1,q2,e2,q1,e4⟩:Hw c G o);exact .inl ⟨this,hs.lt o this⟩
  ·obtain⟨q1,q2⟩:=ar o e4;rcases q1 with q1 | q1
   ·exact .inl ⟨af o q1,hs.lt o (af o q1)⟩
   ·exact .inr ⟨q1,q2⟩
 refine⟨⟨by simp[hs.len],fun o ho=>Bh (hs.fz o ho) aq,fun o ho=>?_,fun o ho hf=>?_,fun q aa k1 h1 e1 e2=>?_,?_⟩,⟨hle,aq,fun o ho hn=>ap o ho (fun q=>hn (af o q)),fun o ho=>?_,fun o ho=>.inl ho,fun q aa ag e1 e2=>?_,fun q aa ag k1 h1 o e1 e2 e3 e4 ao he=>?_⟩,hle⟩
 ·rcases aj o ho with h | h
  ·exact Bh h.2 aq
  ·exact h.2
 ·rcases aj o ho with h | h
  ·exact hs.sep o h.1 hf
  ·have:=hs.fz o hf;omega
 ·rcases hinv q k1 h1 aa e2 e1 with ⟨hq,q1,q2⟩ | ⟨_,rfl,rfl,rfl⟩
  ·by_cases ah:aa.live=true
   ·refine (hs.obj q aa k1 h1 q2 q1).mono hle (fun o ho=>ap o (hs.lt o ⟨q,aa,k1,h1,q2,ah,q1,ho⟩) (ad q k1 h1 aa o hq q1 q2 ah ho))
   ·cases aa<;>first | exact absurd rfl ah | trivial
  ·exact az hle
 ·intro q r aa ag k1 h1 k2 h2 o e1 e2 e3 e4 e5 e6 e7 e8;rcases hinv q k1 h1 aa e5 e1 with ⟨r0,q1,q2⟩ | ⟨r1,_,rfl,rfl⟩<;>rcases hinv r k2 h2 ag e6 e2 with ⟨r3,q3,q4⟩ | ⟨r2,_,rfl,rfl⟩
  ·exact hs.excl q r aa ag k1 h1 k2 h2 o q2 q4 e3 e4 q1 q3 e7 e8
  ·have h3:=hs.lt o ⟨q,aa,k1,h1,q2,e3,q1,e7⟩;rcases (ar o e8).1 with h | h
   ·exact absurd h (ad q k1 h1 aa o r0 q1 q2 e3 e7)
   ·omega
  ·have h3:=hs.lt o ⟨r,ag,k2,h2,q4,e4,q3,e8⟩;rcases (ar o e7).1 with h | h
   ·exact absurd h (ad r k2 h2 ag o r3 q3 q4 e4 e8)
   ·omega
  ·omega
 ·rcases aj o ho with h | h
  ·exact .inl h.1
  ·exact .inr h.1
 ·by_cases hq:q=p
  ·subst hq;rw[Ah aw] at e2;cases e2;rw[hG] at e1;cases e1;rcases ax with h | h
   ·exact Ek h
   ·exact h.2
  ·rw[Ad (Ne.symm hq),e1] at e2;cases e2;exact Am _
 ·by_cases hq:q=p
  ·subst hq;rw[Ah aw] at e2;cases e2;rw[hG] at e1;cases e1;rcases ax with h | h
   ·omega
   ·rw[h.1] at ao;cases ao
  ·rw[Ad (Ne.symm hq),e1] at e2;cases e2;have ah:aa.live=true:=by cases aa<;>first | rfl | cases ao
   exact⟨rfl,ap o (hs.lt o ⟨q,aa,k1,h1,e1,ah,e3,e4⟩) (ad q k1 h1 aa o hq e3 e1 ah e4),by dsimp only;rw[Ad (Ne.symm hq)]⟩
end Go.Sv
namespace Go.Sv
theorem Sf (n:Int):Nz .u64 n=n%18446744073709551616:=by
 rw[Tk];rfl
theorem z91 (n:Int):Nz .u8 n=n%256:=by
 rw[Tk];rfl
theorem Sc {n:Int}(h:Mn n):Nz .i64 n=n:=by
 rw[Tk];obtain⟨a,d⟩:=h;show (if (true&&decide (n%18446744073709551616 ≥ 9223372036854775808))=true then n%18446744073709551616 - 18446744073709551616 else n%18446744073709551616)=n;simp only[Ed,Ak];split<;>omega
theorem Yo (a b:Int):eqI a b=decide (a=b):=by
 rw[zas,B3];simp
theorem Na (a b:Int):ltI a b=decide (a<b):=z7t a b
theorem z5f (a b:Int):(!(decide (b<a)))=decide (a≤b):=by
 rw[B3];simp
theorem zxj (x:UInt64):Nat.blt x.toNat (N6 .u64)=true:=by
 have:=x.toNat_lt;unfold Nat.blt;exact Al (by show x.toNat+1≤2*9223372036854775808;omega)
theorem Wo (x:UInt8):Nat.blt x.toNat (N6 .u8)=true:=by
 have:=x.toNat_lt;unfold Nat.blt;exact Al (by show x.toNat+1≤2*128;omega)
variable {c : Cx} {K : LV → Prop}
theorem AR.u' {x:UInt64}{n:Int}(h:n=Int.ofNat x.toNat):AR c (.u x) (.int .u64 n):=by subst h;exact .u x
theorem AR.b' {x:UInt8}{n:Int}(h:n=Int.ofNat x.toNat):AR c (.b x) (.int .u8 n):=by subst h;exact .b x
theorem AR.bool' {x y:Bool}(h:y=x):AR c (.bool x) (.bool y):=by subst h;exact .bool y
theorem zmp (a b:UInt64):decide (Int.ofNat a.toNat=Int.ofNat b.toNat)=decide (a=b):=by
 rw[B3];simp only[Ak];constructor
 ·intro h;exact Bq.1 (Int.ofNat.inj h)
 ·intro h;rw[h]
theorem zgx (a b:UInt64):decide (Int.ofNat a.toNat<Int.ofNat b.toNat)=decide (a<b):=by
 rw[B3];simp only[Ak,Cl];exact Int.ofNat_lt
theorem zsw (a b:UInt64):decide (Int.ofNat a.toNat≤Int.ofNat b.toNat)=decide (a≤b):=by
 rw[B3];simp only[Ak,Bm];exact Int.ofNat_le
theorem zti (a b:UInt8):decide (Int.ofNat a.toNat=Int.ofNat b.toNat)=decide (a=b):=by
 rw[B3];simp only[Ak];constructor
 ·intro h;exact UInt8.toNat_inj.1 (Int.ofNat.inj h)
 ·intro h;rw[h]
theorem zt7 (a b:UInt8):decide (Int.ofNat a.toNat<Int.ofNat b.toNat)=decide (a<b):=by
 rw[B3];simp only[Ak,UInt8.lt_iff_toNat_lt];exact Int.ofNat_lt
theorem zsh (a b:UInt8):decide (Int.ofNat a.toNat≤Int.ofNat b.toNat)=decide (a≤b):=by
 rw[B3];simp only[Ak,UInt8.le_iff_toNat_le];exact Int.ofNat_le
def J1 (c:Cx)(K:LV→Prop)(r:Option AV):Prop:=∃v a,r=some a∧AR c v a∧K v
theorem J1.mk {v:LV}{a:AV}(h:AR c v a)(k:K v):J1 c K (some a):=⟨v,a,rfl,h,k⟩
theorem shl_u (a:UInt64)(s:Nat):Nz .u64 (.ofNat (Nat.mul a.toNat (Nat.pow 2 (Il s (IntKind.bits .u64)))))=Int.ofNat (Sw a s).toNat:=by
 rw[Sf];have hm:Il s (IntKind.bits .u64)=min s 64:=by
  unfold Il;by_cases h:s≤64
  ·rw[show Nat.ble s (IntKind.bits .u64)=true from Al h];simp[Cw h]
  ·have:Nat.ble s (IntKind.bits .u64)=false:=by
    cases d:Nat.ble s (IntKind.bits .u64) with
    |false=>rfl
    |true=>exact absurd (As d) h
   rw[this];simp only[IntKind.bits];omega
 rw[hm];rw[Y0,By];show (Int.ofNat (a.toNat*2^min s 64))%18446744073709551616=Int.ofNat (a.toNat*2^s%2^64);by_cases h:s≤64
 ·rw[Cw h];rfl
 ·rw[Nat.min_eq_right (by omega)];have e:2^s=2^64*2^(s - 64):=by rw[←D4];congr 1;omega
  have:a.toNat*2^s%2^64=0:=by
   rw[e,←Dq,Bz a.toNat,Dq,Nat.mul_mod_right]
  rw[this];have f:a.toNat*2^64%2^64=0:=Nat.mul_mod_left _ _;show Int.ofNat (a.toNat*2^64%2^64)=0;rw[f];rfl
theorem shr_u (a:UInt64)(s:Nat):Int.ofNat (Nat.div a.toNat (Nat.pow 2 (Il s (IntKind.bits .u64))))=Int.ofNat (J2 a s).toNat:=by
 have hm:Il s (IntKind.bits .u64)=min s 64:=by
  unfold Il;by_cases h:s≤64
  ·rw[show Nat.ble s (IntKind.bits .u64)=true from Al h];simp[Cw h]
  ·have:Nat.ble s (IntKind.bits .u64)=false:=by
    cases f:Nat.ble s (IntKind.bits .u64) with
    |false=>rfl
    |true=>exact absurd (As f) h
   rw[this];simp only[IntKind.bits];omega
 rw[hm];rw[Wx,By];have d:=a.toNat_lt;show Int.ofNat (a.toNat/2^min s 64)=Int.ofNat (a.toNat/2^s%2^64);have g:a.toNat/2^s%2^64=a.toNat/2^s:=Bg (Nat.lt_of_le_of_lt (Nat.div_le_self _ _) d);rw[g];by_cases h:s≤64
 ·rw[Cw h]
 ·rw[Nat.min_eq_right (by omega),Nat.div_eq_of_lt d];rw[Nat.div_eq_of_lt (Bh d (Ee (by omega) (by omega)))]
theorem uuL_ok {P:Program}{op:BinOp}{g:Bool}{t:TypeId}{a b:UInt64}(h:Oe op a b K):J1 c K (Hx P op g t (.int .u64 (Int.ofNat a.toNat)) (.int .u64 (Int.ofNat b.toNat))):=by
 have hk:Qw .u64 .u64=true:=rfl;have f:=a.toNat_lt;have d:=b.toNat_lt;cases op<;>simp only[Oe,M3,Rk,zik,divU_eq,zhp,Xd,Yk,Yz,zx5] at h<;>simp only[Hx,hk,zr3,Td,zq3,zxj]
 case add=>exact .mk (.u' (by rw[Sf,Bu];rfl)) h
 case sub =>
  refine .mk (.u' ?_) h;rw[Sf,Dv];show (Int.ofNat a.toNat - Int.ofNat b.toNat)%_=((2^64 - b.toNat+a.toNat)%2^64:Nat);simp only[A8];omega
 case mul=>exact .mk (.u' (by rw[Sf,Ea];rfl)) h
 case quo =>
  obtain⟨l,m⟩:=h;have o:U8 (Int.ofNat b.toNat)=false:=by
   unfold U8;cases j:Nat.beq b.toNat 0 with
   |false=>exact j
   |true=>exact absurd (Bq.1 (An j)) l
  simp only[o];refine .mk (.u' ?_) m;rw[Sf,UInt64.toNat_div];show (Int.tdiv (Int.ofNat a.toNat) (Int.ofNat b.toNat))%_=Int.ofNat (a.toNat/b.toNat);have:Int.tdiv (Int.ofNat a.toNat) (Int.ofNat b.toNat)=Int.ofNat (a.toNat/b.toNat):=rfl;rw[this];exact Cn (B6 _) (by have:=Nat.div_le_self a.toNat b.toNat;simp only[A8];omega)
 case rem =>
  obtain⟨l,m⟩:=h;have o:U8 (Int.ofNat b.toNat)=false:=by
   unfold U8;cases j:Nat.beq b.toNat 0 with
   |false=>exact j
   |true=>exact absurd (Bq.1 (An j)) l
  simp only[o];exact .mk (.u' (by rw[UInt64.toNat_mod];rfl)) m
 case and =>
  refine .mk (.u' ?_) h;rw[Sf,UInt64.toNat_and];have:a.toNat &&& b.toNat<2^64:=Nat.and_lt_two_pow _ d;exact Cn (B6 _) (by show Int.ofNat (a.toNat &&& b.toNat)<_;simp only[A8];omega)
 case or =>
  refine .mk (.u' ?_) h;rw[Sf,UInt64.toNat_or];have:a.toNat ||| b.toNat<2^64:=Nat.or_lt_two_pow f d
  exact Cn (B6 _) (by show Int.ofNat (a.toNat ||| b.toNat)<_;simp only[A8];omega)
 case xor =>
  refine .mk (.u' ?_) h;rw[Sf,UInt64.toNat_xor];have:a.toNat ^^^ b.toNat<2^64:=Nat.xor_lt_two_pow f d;exact Cn (B6 _) (by show Int.ofNat (a.toNat ^^^ b.toNat)<_;simp only[A8];omega)
 case andNot =>
  refine .mk (.u' ?_) h;have e:Nat.xor a.toNat (Nat.land a.toNat b.toNat)=(a &&& ~~~b).toNat:=by
   show a.toNat ^^^ (a.toNat &&& b.toNat)=_;rw[UInt64.toNat_and,UInt64.toNat_not];refine Nat.eq_of_testBit_eq fun i=>?_
   rw[Nat.testBit_xor,Nat.testBit_and,Nat.testBit_and];have:(UInt64.size - 1 - b.toNat).testBit i=(decide (i<64) && !b.toNat.testBit i):=by
    have:=Nat.testBit_two_pow_sub_succ d i;rw[show UInt64.size - 1 - b.toNat=2^64 - (b.toNat+1) from by show 18446744073709551616 - 1 - b.toNat=_;omega,this]
   rw[this];by_cases hi:i<64
   ·simp[hi];cases a.toNat.testBit i<;>cases b.toNat.testBit i<;>rfl
   ·have:a.toNat.testBit i=false:=Nat.testBit_lt_two_pow (Bh f (Ee (by omega) (by omega)));simp[this]
  rw[e,Sf];exact Cn (B6 _) (by have:=(a &&& ~~~b).toNat_lt;simp only[A8];omega)
 case shl=>exact .mk (.u' (shl_u a b.toNat)) h
 case shr=>exact .mk (.u' (shr_u a b.toNat)) h
 case eql=>exact .mk (.bool' (by rw[Yo,zmp])) h
 case neq=>exact .mk (.bool' (by rw[Yo,zmp];simp)) h
 case lss=>exact .mk (.bool' (by rw[Na,zgx])) h
 case leq=>exact .mk (.bool' (by rw[Na,z5f,zsw])) h
 case gtr=>exact .mk (.bool' (by rw[Na,zgx])) h
 case geq=>exact .mk (.bool' (by rw[Na,z5f,zsw])) h
theorem bbL_ok {P:Program}{op:BinOp}{g:Bool}{t:TypeId}{a b:UInt8}(h:bbL op a b K):J1 c K (Hx P op g t (.int .u8 (Int.ofNat a.toNat)) (.int .u8 (Int.ofNat b.toNat))):=by
 have hk:Qw .u8 .u8=true:=rfl;have f:=a.toNat_lt;have d:=b.toNat_lt;cases op<;>simp only[bbL,addB_eq,subB_eq,Zk,orB_eq] at h<;>simp only[Hx,hk,zr3,Td,Wo]
 case add=>exact .mk (.b' (by rw[z91,UInt8.toNat_add];rfl)) h
 case sub =>
  refine .mk (.b' ?_) h;rw[z91,UInt8.toNat_sub];show (Int.ofNat a.toNat - Int.ofNat b.toNat)%_=((2^8 - b.toNat+a.toNat)%2^8:Nat);simp only[A8];omega
 case and =>
  refine .mk (.b' ?_) h;rw[z91,UInt8.toNat_and];have:a.toNat &&& b.toNat<2^8:=Nat.and_lt_two_pow _ d;exact Cn (B6 _) (by show Int.ofNat (a.toNat &&& b.toNat)<_;simp only[A8];omega)
 case or =>
  refine .mk (.b' ?_) h;rw[z91,UInt8.toNat_or];have:a.toNat ||| b.toNat<2^8:=Nat.or_lt_two_pow f d
  exact Cn (B6 _) (by show Int.ofNat (a.toNat ||| b.toNat)<_;simp only[A8];omega)
 case eql=>exact .mk (.bool' (by rw[Yo,zti])) h
 case neq=>exact .mk (.bool' (by rw[Yo,zti];simp)) h
 case lss=>exact .mk (.bool' (by rw[Na,zt7])) h
 case leq=>exact .mk (.bool' (by rw[Na,z5f,zsh])) h
 case gtr=>exact .mk (.bool' (by rw[Na,zt7])) h
 case geq=>exact .mk (.bool' (by rw[Na,z5f,zsh])) h
theorem AR.i' {x n:Int}(h:n=x):AR c (.i x) (.int .i64 n):=by subst h;exact .i n
theorem zp4 {b:Int}(h:b≠0):U8 b=false:=by
 unfold U8;split
 ·rename_i n;cases a:Nat.beq n 0 with
  |false=>rfl
  |true=>exact absurd (by rw[An a];rfl) h
 ·rfl
theorem zlo {P:Program}{g:Bool}{t:TypeId}{a:Int}{k:IntKind}{s:Int}(d:0≤a)(f:0≤s)(h:s≤64) :
  Hx P .shl g t (.int .i64 a) (.int k s)=some (.int .i64 (Nz .i64 (a*2^s.toNat)))∧Hx P .shr g t (.int .i64 a) (.int k s)=some (.int .i64 (a/2^s.toNat)):=by
 obtain⟨x,rfl⟩:=Af d;obtain⟨y,rfl⟩:=Af f;have hm:Il y (IntKind.bits .i64)=y:=by
  unfold Il;rw[show Nat.ble y (IntKind.bits .i64)=true from Al (by simp only[IntKind.bits];omega)]
 constructor
 ·show some (AV.int .i64 (Nz .i64 (.ofNat (Nat.mul x (Nat.pow 2 (Il y (IntKind.bits .i64)))))))=_;rw[hm]
  congr 3
 ·show some (AV.int .i64 (.ofNat (Nat.div x (Nat.pow 2 (Il y (IntKind.bits .i64))))))=_;rw[hm]
  congr 2
theorem iiL_ok {P:Program}{op:BinOp}{g:Bool}{t:TypeId}{a b:Int}(h:N9 op a b K):J1 c K (Hx P op g t (.int .i64 a) (.int .i64 b)):=by
 have hk:Qw .i64 .i64=true:=rfl;cases op<;>simp only[N9] at h
 case shl =>
  obtain⟨d,l,f,m,j⟩:=h;rw[(zlo d l f).1,Sc m];exact .mk (.i _) j
 case shr =>
  obtain⟨d,l,f,j⟩:=h;rw[(zlo d l f).2];exact .mk (.i _) j
 all_goals simp only[Hx,hk,zr3]
 case and =>
  obtain⟨d,l,f,m,j⟩:=h;obtain⟨x,rfl⟩:=Af d;obtain⟨y,rfl⟩:=Af f;have o:Nat.blt x (N6 .i64)=true:=by unfold Nat.blt;exact Al (by show x+1≤2*9223372036854775808;omega)
  have p:Nat.blt y (N6 .i64)=true:=by unfold Nat.blt;exact Al (by show y+1≤2*9223372036854775808;omega)
  have q:x &&& y<2^63:=Nat.and_lt_two_pow _ (by omega);show J1 c K (Td Nat.land .i64 (.ofNat x) (.ofNat y));simp only[Td,o,p];exact .mk (.i' (Sc ⟨by simp only[A8];omega,by simp only[A8];exact Int.ofNat_lt.2 q⟩)) j
 case or =>
  obtain⟨d,l,f,m,j⟩:=h;obtain⟨x,rfl⟩:=Af d;obtain⟨y,rfl⟩:=Af f;have o:Nat.blt x (N6 .i64)=true:=by unfold Nat.blt;exact Al (by show x+1≤2*9223372036854775808;omega)
  have p:Nat.blt y (N6 .i64)=true:=by unfold Nat.blt;exact Al (by show y+1≤2*9223372036854775808;omega)
  have q:x ||| y<2^63:=Nat.or_lt_two_pow (by omega) (by omega)
  show J1 c K (Td Nat.lor .i64 (.ofNat x) (.ofNat y));simp only[Td,o,p];exact .mk (.i' (Sc ⟨by simp only[A8];omega,by simp only[A8];exact Int.ofNat_lt.2 q⟩)) j
 case add=>exact .mk (.i' (Sc h.1)) h.2
 case sub=>exact .mk (.i' (Sc h.1)) h.2
 case mul=>exact .mk (.i' (Sc h.1)) h.2
 case quo=>rw[zp4 h.1];exact .mk (.i' (Sc h.2.1)) h.2.2
 case rem=>rw[zp4 h.1];exact .mk (.i _) h.2
 case eql=>exact .mk (.bool' (by rw[Yo])) h
 case neq=>exact .mk (.bool' (by rw[Yo];simp)) h
 case lss=>exact .mk (.bool' (by rw[Na])) h
 case leq=>exact .mk (.bool' (by rw[Na,z5f])) h
 case gtr=>exact .mk (.bool' (by rw[Na])) h
 case geq=>exact .mk (.bool' (by rw[Na,z5f])) h
theorem kkL_ok {P:Program}{op:BinOp}{g:Bool}{t:TypeId}{k:IntKind}{a b:Int}(h:kkL op a b K):J1 c K (Hx P op g t (.int k a) (.int k b)):=by
 have hk:Qw k k=true:=by cases k<;>rfl
 cases op<;>simp only[kkL] at h<;>simp only[Hx,hk,zr3]
 case eql=>exact .mk (.bool' (by rw[Yo])) h
 case neq=>exact .mk (.bool' (by rw[Yo];simp)) h
 case lss=>exact .mk (.bool' (by rw[Na])) h
 case leq=>exact .mk (.bool' (by rw[Na,z5f])) h
 case gtr=>exact .mk (.bool' (by rw[Na])) h
 case geq=>exact .mk (.bool' (by rw[Na,z5f])) h
theorem zvs (a b:List UInt8):(Nat.beq a.length b.length&&Nat.beq (Hi a) (Hi b))=decide (a=b):=by
 rw[B3];simp only[Ab,Ak];constructor
 ·rintro⟨d,f⟩;exact packL_inj (An d) (An f)
 ·intro h;subst h;simp
theorem AR.str' {l:List UInt8}{n m:Nat}(h1:n=l.length)(h2:m=Hi l):AR c (.str l) (.str n m):=by subst h1 h2;exact .str l
theorem ssL_ok {P:Program}{op:BinOp}{g:Bool}{t:TypeId}{a b:List UInt8}(h:ssL op a b K):J1 c K (Hx P op g t (.str a.length (Hi a)) (.str b.length (Hi b))):=by
 cases op<;>simp only[ssL] at h<;>simp only[Hx,zuu]
 case add =>
  have d:Nat.ble (Nat.add a.length b.length) It=true:=Al h.1;simp only[d];refine .mk (.str' (by simp) ?_) h.2;rw[packL_append];rfl
 case eql=>exact .mk (.bool' (zvs a b)) h
 case neq=>exact .mk (.bool' (by rw[zvs];simp)) h
theorem zqm {P:Program}{op:BinOp}{g:Bool}{t:TypeId}{a b:AV}{r:Bool}(d:Hx P op g t a b=match op with | .eql=>yesB (J9 P g t a b) | .neq=>notB (J9 P g t a b) | _=>none)(h:Sd P op g t a b r K):J1 c K (Hx P op g t a b):=by
 rw[d];cases op<;>simp only[Sd] at h
 case eql=>rw[h.1];exact .mk (.bool _) h.2
 case neq=>rw[h.1];exact .mk (.bool _) h.2
end Go.Sv
namespace Go.Sv
noncomputable def ρA (E:Tr AV):Sk:=fun t=>E3 (Fl t) E
theorem zr5 (E:Tr AV):Nu E (ρA E):=fun _ _=>rfl
theorem Ha {c:Cx}{ρ:Ey}{E:Tr AV}(a:Gl c ρ E){x:Lx}(h:x.ok=true):AR c (x.ev ρ) (x.r.ev (ρA E)):=by
 cases x with
 |t i=>exact a i
 |c v=>exact T9 c h
theorem ztv {c:Cx}{ρ:Ey}{E:Tr AV}(a:Gl c ρ E):∀{l:List Lx},l.all Lx.ok=true→ARs c (l.map (·.ev ρ)) ((rxs l).map (·.ev (ρA E)))
 |[],_=>.nil
 |x::l,h=>by
  simp only[Cu,Ab] at h;exact .cons (Ha a h.1) (ztv a h.2)
def Y4:Option Lx→Bool
 |none=>true
 |some x=>x.ok
def LOp.ok:LOp→Bool
 |.move x=>x.ok
 |.pick c a b=>c.ok&&a.ok&&b.ok
 |.alloc l=>l.all LV.scal
 |.box x=>x.ok
 |.build cs ps=>cs.all LV.scal&&ps.all (·.2.2.ok)
 |.buildSl _ _ cs ps=>cs.all LV.scal&&ps.all (·.2.2.ok)
 |.load1 x=>x.ok
 |.loadN _ x=>x.ok
 |.store _ x y=>x.ok&&y.ok
 |.nilChk x=>x.ok
 |.bin _ _ _ x y=>x.ok&&y.ok
 |.un _ x=>x.ok
 |.cvInt _ x=>x.ok
 |.cvStr x=>x.ok
 |.cvSame x=>x.ok
 |.cvBytes x=>x.ok
 |.mkFunc _ a b=>a.all Lx.ok&&b.all Lx.ok
 |.mkSl _ z l c=>z.all LV.scal&&l.ok&&c.ok
 |.slStr x lo hi=>x.ok&&Y4 lo&&Y4 hi
 |.slSl _ x lo hi=>x.ok&&Y4 lo&&Y4 hi
 |.slSl3 _ x lo hi mx=>x.ok&&Y4 lo&&Y4 hi&&mx.ok
 |.fieldAddr _ x=>x.ok
 |.field _ _ _ x=>x.ok
 |.ixAddr _ x i=>x.ok&&i.ok
 |.ixStr x i=>x.ok&&i.ok
 |.extract _ x=>x.ok
 |.lenStr x=>x.ok
 |.lenSl x=>x.ok
 |.maxi _ x y=>x.ok&&y.ok
 |.max3 _ x y z=>x.ok&&y.ok&&z.ok
 |.ixAddrArr _ _ x i=>x.ok&&i.ok
 |.ixArr _ _ _ x i=>x.ok&&i.ok
 |.lenArr _ x=>x.ok
 |.appZ _ z s x=>z.all LV.scal&&s.ok&&x.ok
 |.appG _ s x=>s.ok&&x.ok
 |.copy _ d x=>d.ok&&x.ok
 |.clear _ z x=>z.all LV.scal&&x.ok
 |.mkMap0=>true
 |.mkMap1 x=>x.ok
 |.lookup _ z _ x i=>z.cst&&x.ok&&i.ok
 |.mapUpd _ m k v=>m.ok&&k.ok&&v.ok
 |.lenMap x=>x.ok
 |.slArr _ _ x lo hi=>x.ok&&Y4 lo&&Y4 hi
 |.callV f args=>f.ok&&args.all Lx.ok
def J6 (P:Program)(c:Cx)(G:Ev)(K:LV→Ev→Prop):OR→Prop
 |.no=>False
 |.val v1 H'=>∃c' v G',c'.H=H'∧HSim c' G'∧Step c G c' G'∧AR c' v v1∧K v G'
 |.call t1 a=>∃t args,TgtR c t t1∧ARs c args a∧Fh P t args G K
section res
variable {P : Program} {c : Cx} {G : Ev} {K : LV → Ev → Prop}
theorem J6.same (hs:HSim c G){v:LV}{a:AV}(h:AR c v a)(k:K v G):J6 P c G K (.val a c.H):=⟨c,v,G,rfl,hs,.refl c G,h,k⟩
theorem J6.ret (hs:HSim c G){r:Option AV}(h:J1 c (fun v=>K v G) r):J6 P c G K (ret1 c.H r):=by
 obtain⟨v,a,rfl,h1,h2⟩:=h;exact .same hs h1 h2
theorem zey (c:Cx)(l':List AV) :
  ∃H',newObj c.H l'=some (c.H.next,H')∧H'.next=c.H.next+1∧(∀o,o<c.H.next→H'.get o=c.H.get o)∧H'.get c.H.next=some (.cells (Jw l' 0 .e) l'.length 0 false) :=
 ⟨_,rfl,rfl,fun _ ho=>Heap.get_push_ne _ _ ho,Heap.get_push_same _ _⟩
theorem zkz (a:HSim c G){l:List LV}{l':List AV}(h:ARs c l l')(k:K (.ptr G.length 0) (G++[.cells l 0])):J6 P c G K (Qg c.H l'):=by
 obtain⟨H',f,q,d,g⟩:=zey c l';unfold Qg;rw[f];have hle:CxLe c ⟨c.hd++[(0,.ptr c.H.next 0 0)],c.Fz,H'⟩:=⟨fun p k x e=>⟨k,x,by rw[Aq (Aa.1 e).1];exact e,Am _,fun _=>rfl,fun _=>rfl⟩,fun o ho=>⟨ho,d o (a.fz o ho)⟩⟩;obtain⟨j,m,_⟩:=a.push (H':=H') (x:=.ptr c.H.next 0 0) (ob:=.cells l 0) (by omega) d (fun o e=>by cases e;omega)
  ⟨rfl,c.H.next,_,l',rfl,by rw[h.length];exact g,by rw[h.length];exact z78 l',h.mono hle⟩
 exact⟨_,.ptr G.length 0,_,rfl,j,m,.ptr (by rw[←a.len];exact Ax),k⟩
theorem z5q (d:HSim c G){l:List LV}{l':List AV}{len esz:Nat}{room:Option Nat}(h:ARs c l l')(f:l.length=len*esz)(j:∀r,room=some r→r=len)(k:K (.dy G.length 0) (G++[.dyn l len esz 0 0])) :
  J6 P c G K (match newObj c.H l' with
   |some (o,H')=>.val (.sl o 0 0 len esz room) H'
   |none=>.no):=by
 obtain⟨H',m,y,g,q⟩:=zey c l';rw[m];have hle:CxLe c ⟨c.hd++[(0,.sl c.H.next 0 0 len esz room)],c.Fz,H'⟩:=⟨fun p k x e=>⟨k,x,by rw[Aq (Aa.1 e).1];exact e,Am _,fun _=>rfl,fun _=>rfl⟩,fun o ho=>⟨ho,g o (d.fz o ho)⟩⟩;have a:l'.length=len*esz:=by rw[←h.length];exact f
 obtain⟨s,w,_⟩:=d.push (H':=H') (x:=.sl c.H.next 0 0 len esz room) (ob:=.dyn l len esz 0 0) (by omega) g (fun o e=>by cases e;omega)
  ⟨rfl,f,.inr ⟨c.H.next,0,room,_,l'.length,l',rfl,q,by omega,by rw[←a];exact z78 l',h.mono hle,fun r e=>by rw[j r e];exact⟨a,Am _⟩,fun _=>a⟩⟩
 exact⟨_,.dy G.length 0,_,rfl,s,w,.dy (h:=.sl c.H.next 0 0 len esz room) (by rw[←d.len];exact Ax) (Am _) (fun _=>rfl) rfl,k⟩
theorem zm3 (a:HSim c G){p o st:Nat}{l:List LV}(d:G[p]?=some (.cells l st))(e:c.hd[p]?=some (0,.ptr o 0 0)) :
  ∃t l',c.H.get o=some (.cells t l.length 0 false)∧Kx t 0 l.length=some l'∧ARs c l l':=by
 obtain⟨_,j,t,l',he,f,g,h⟩:=a.obj p _ _ _ d e;injection he with he
 subst he;exact⟨t,l',f,g,h⟩
theorem Vs (m:HSim c G){p k o v len d esz f g st:Nat}{room:Option Nat}{l:List LV}(q:G[p]?=some (.dyn l len esz g st))(e:c.hd[p]?=some (k,.sl o v 0 d f room)) :
  k=g∧l.length=len*esz∧d=len∧f=esz∧∃t a l',c.H.get o=some (.cells t a v false)∧len*esz≤a∧Kx t 0 (len*esz)=some l'∧ARs c l l' ∧
   (∀r,room=some r→a=r*esz∧len≤r)∧(room=none→a=len*esz):=by
 obtain⟨s,w,h⟩:=m.obj p _ _ _ q e;rcases h with ⟨h,_⟩ | ⟨J,L,j,t,a,l',he,x,y,z,A,B,C⟩
 ·cases h
 ·injection he with D E M F H I
  subst D E F H I;exact⟨s,w,rfl,rfl,t,a,l',x,y,z,A,B,C⟩
theorem zlz (m:HSim c G){x:LV}{a:AV}{n:Nat}{K:List LV→Prop}(q:AR c x a)(h:Q3 G x n K):∃o v i l' l,a=.ptr o v i∧Jd c.H o v i n=some l'∧ARs c l l'∧K l:=by
 unfold Q3 at h;split at h
 ·rename_i p i;split at h
  ·rename_i l st f;obtain⟨g,d⟩:=h;cases q with
   | @ptr _ _ o e =>
    obtain⟨t,l',C,r,s⟩:=zm3 m f e;exact⟨o,0,i,_,_,rfl,Pe C r (Am _) g,(s.drop i).take n,d⟩
  ·exact h.elim
 ·rename_i p k i;split at h
  ·rename_i l len esz D st f;obtain⟨E,g,d⟩:=h;cases q with
   | @dptr _ _ _ k' o v j O e hk F =>
    have H:=(m.obj p _ _ _ f e).1;obtain⟨I,z,A,w,y⟩:=F (by omega);subst y I;obtain⟨_,Q,_,_,t,B,l',r,s,J,L,_⟩:=Vs m f e;exact⟨o,v,j,_,_,rfl,Pe r J s (by omega),(L.drop j).take n,d⟩
  ·exact h.elim
 ·rename_i l i;obtain⟨g,d⟩:=h;cases q with
  |cptr R M N=>exact⟨_,_,_,_,_,rfl,zkm M g,(N.drop i).take n,d⟩
 ·exact h.elim
theorem zss (g:HSim c G){x:LV}{a:AV}{K:LV→Prop}(j:AR c x a)(h:Q7 G x K):∃o v i w b,a=.ptr o v i∧Jd c.H o v i 1=some [b]∧AR c w b∧K w:=by
 have one:∀{l:List LV} {i:Nat} {v:LV},l[i]?=some v→i+1≤l.length∧(l.drop i).take 1=[v]:=fun {l i v} e=>by
  obtain⟨d,f⟩:=Aa.1 e;refine⟨d,?_⟩;rw[B8 d,f];simp
 have key:Q3 G x 1 (fun l=>∃v,l=[v]∧K v):=by
  unfold Q7 at h;unfold Q3;split at h
  ·split at h
   ·obtain⟨v,d,f⟩:=h;exact⟨(one d).1,v,(one d).2,f⟩
   ·exact h.elim
  ·split at h
   ·obtain⟨m,v,d,f⟩:=h;exact⟨m,(one d).1,v,(one d).2,f⟩
   ·exact h.elim
  ·obtain⟨v,d,f⟩:=h;exact⟨(one d).1,v,(one d).2,f⟩
  ·exact h.elim
 obtain⟨o,v,i,l',l,p,q,r,w,rfl,s⟩:=zlz g j key;cases r with
 |cons e es=>cases es;exact⟨o,v,i,w,_,p,q,e,s⟩
theorem zl1 {H:Heap}{o v i N a:Nat}{t:Tr AV}{l r:List AV}(d:H.get o=some (.cells t a v false))(_:Kx t 0 N=some l)(g:N≤a)(hle:i+r.length≤N) :
  Ow H o v i r=some (H.put o (.cells (Jw r i t) a v false)):=by
 unfold Ow;rw[d];have f:Nat.ble (Nat.add i r.length) a=true:=Al (by show i+r.length≤a;omega);simp only[Bj,f]
theorem zsl {α:Type}:∀{l:List α} {p:Nat} {a:α},l[p]?=some a→l.set p a=l
 |[],_,_,h=>by simp at h
 |x::l,0,a,h=>by simp at h;subst h;rfl
 |x::l,p+1,a,h=>by simp at h;simp[zsl h]
theorem zc4 (s:HSim c G){x:LV}{a:AV}{l:List LV}{l':List AV}{K:Ev→Prop}(R:AR c x a)(D:ARs c l l')(h:Om G x l K) :
  ∃o v i H' c' G',a=.ptr o v i∧Ow c.H o v i l'=some H'∧c'.H=H'∧HSim c' G'∧Step c G c' G'∧K G':=by
 have hlen:=D.length;unfold Om at h;split at h
 ·rename_i p i;split at h
  ·rename_i z st d;obtain⟨A,E⟩:=h;cases R with
   | @ptr _ _ o e =>
    obtain⟨t,w,T,B,C⟩:=zm3 s d e;have hw:=zl1 (i:=i) (r:=l') T B (Am _) (by omega);obtain⟨F,H,_⟩:=s.upd (k':=0) (x':=.ptr o 0 0) (ob':=.cells (Gm z i l) (st+1)) (H':=c.H.put o (.cells (Jw l' i t) z.length 0 false)) d rfl e (Am _)
     (fun I _ y=>Heap.get_put_ne _ _ (fun q=>y (by rw[q];rfl))) (fun I J=>by cases J;exact⟨.inl rfl,s.lt o ⟨p,_,_,_,d,rfl,e,rfl⟩⟩) (Am _) (fun _=>rfl) (fun _=>rfl) (.inl (B2 _))
     (fun hle=>⟨rfl,o,_,Xl w i l',rfl,by rw[zbw A];exact Heap.get_put_same _ _ _,by rw[zbw A];exact zfu B (by omega),(C.lay D i).mono hle⟩)
    exact⟨o,0,i,_,_,_,rfl,hw,rfl,F,H,E⟩
  ·exact h.elim
 ·rename_i p k i;split at h
  ·rename_i z len esz L st d;obtain⟨U,A,E⟩:=h;cases R with
   | @dptr _ _ _ k' o v j hh e hk V =>
    have W:=(s.obj p _ _ _ d e).1;obtain⟨X,f,g,room,M⟩:=V (by omega);subst M X;obtain⟨N,Y,O,Q,t,m,w,B,C,S,Z,r7,r8⟩:=Vs s d e;subst O Q;have hw:=zl1 (i:=j) (r:=l') B S C (by omega);obtain⟨F,H,_⟩:=s.upd (k':=k') (x':=.sl o v 0 f g room) (ob':=.dyn (Gm z j l) f g L (st+1)) (H':=c.H.put o (.cells (Jw l' j t) m v false)) d rfl e (Am _)
     (fun I _ y=>Heap.get_put_ne _ _ (fun q=>y (by rw[q];rfl))) (fun I J=>by cases J;exact⟨.inl rfl,s.lt _ ⟨p,_,_,_,d,rfl,e,rfl⟩⟩) (Am _) (fun _=>rfl) (fun _=>rfl) (.inl (B2 _))
     (fun hle=>⟨N,by rw[zbw A];exact Y,.inr ⟨o,v,room,_,m,Xl w j l',rfl,Heap.get_put_same _ _ _,C,zfu S (by omega),(Z.lay D j).mono hle,r7,r8⟩⟩)
    exact⟨o,v,j,_,_,_,rfl,hw,rfl,F,H,E⟩
  ·exact h.elim
 ·exact h.elim
theorem Z3 (z:HSim c G){x:LV}{a:AV}{K:Nat→Prop}(j:AR c x a)(h:lenL G x K):∃n,K n∧(a=.nilSl∧n=0∨a=.emp∧n=0∨∃o v i esz room,a=.sl o v i n esz room):=by
 unfold lenL at h;split at h
 ·cases j;exact⟨0,h,.inl ⟨rfl,rfl⟩⟩
 ·rename_i p k;split at h
  ·rename_i l len esz q st r;obtain⟨s,h⟩:=h;cases j with
   | @dy _ _ k' E _ e hk w _ =>
    obtain⟨F,H,d⟩:=z.obj p _ _ _ r e;have f:=w (by omega);rcases d with ⟨d,m⟩ | ⟨o,v,room,t,A,l',d,_⟩
    ·exact⟨len,h,.inl ⟨f.trans d,m⟩⟩
    ·exact⟨len,h,.inr (.inr ⟨_,_,_,_,_,f.trans d⟩)⟩
  ·exact h.elim
 ·rename_i p k lo len;split at h
  ·rename_i l B esz q st r;obtain⟨s,h⟩:=h;cases j with
   | @vw _ _ _ _ k' E _ e hk w _ _ =>
    obtain⟨F,H,d⟩:=z.obj p _ _ _ r e;rcases w (by omega) with ⟨m,g | g⟩ | ⟨o,v,C,D,room,y,_,g,_⟩
    ·exact⟨len,h,.inl ⟨g,m⟩⟩
    ·exact⟨len,h,.inr (.inl ⟨g.1,m⟩)⟩
    ·exact⟨len,h,.inr (.inr ⟨_,_,_,_,_,g⟩)⟩
  ·exact h.elim
 ·cases j with
  |lst=>exact⟨_,h,.inr (.inr ⟨_,_,_,_,_,rfl⟩)⟩
  |lstNil=>exact⟨0,h,.inl ⟨rfl,rfl⟩⟩
  |lstEmp=>exact⟨0,h,.inr (.inl ⟨rfl,rfl⟩)⟩
 ·exact h.elim
theorem zpn (l:List UInt8)(c:Cx):ARs c (l.map LV.b) ((Ot l.length (Hi l)).map fun (b:Nat)=>AV.int .u8 (Int.ofNat b)):=by
 rw[unpack_pack]
 induction l with
 |nil=>exact .nil
 |cons b l a=>exact .cons (.b b) a
theorem zx7 (z:HSim c G){x:LV}{a:AV}{size:Nat}{K:Nat→List LV→Prop}(j:AR c x a)(h:L7 G size x K):∃n l l',Ww c.H size a=some (n,l')∧ARs c l l'∧l.length=n*size∧K n l:=by
 have f:Nat.beq size size=true:=Bj _;unfold L7 at h;split at h
 ·cases j;exact⟨0,[],[],rfl,.nil,by simp,h⟩
 ·rename_i p k;split at h
  ·rename_i l len esz A st y;obtain⟨B,rfl,h⟩:=h;cases j with
   | @dy _ _ k' L _ e hk C _ =>
    obtain⟨X,D,m⟩:=z.obj p _ _ _ y e;have q:=C (by omega);rcases m with ⟨m,g⟩ | ⟨o,v,room,t,r,l',m,g,s,M,H,_⟩
    ·subst g;have:l=[]:=A0 (by simpa using D);subst this;exact⟨0,[],[],by rw[q,m];rfl,.nil,by simp,h⟩
    ·refine⟨len,l,l',?_,H,D,h⟩;have w:=Pe (i:=0) (n:=len*esz) g M s (by omega);have E:l'.length=len*esz:=by rw[←H.length];exact D
     rw[q,m];simp only[Ww,f];rw[show Nat.mul len esz=len*esz from rfl,w];simp[Aw,E]
  ·exact h.elim
 ·rename_i p k lo len;split at h
  ·rename_i l I esz A st y;obtain⟨B,rfl,Y,h⟩:=h;cases j with
   | @vw _ _ _ _ k' L _ e hk C _ _ =>
    have N:=(z.obj p _ _ _ y e).1;rcases C (by omega) with ⟨g,s⟩ | ⟨o,v,J,d,room,F,g,s,_⟩
    ·subst g;refine⟨0,_,[],?_,by simpa using (ARs.nil (c:=c)),by simp,h⟩;rcases s with rfl | ⟨rfl,_⟩<;>rfl
    ·subst g;obtain⟨_,Z,O,Q,t,r,l',R,S,T,U,_⟩:=Vs z y e;subst O Q;have w:=Pe (i:=lo*d) (n:=len*d) R T S (by omega);refine⟨len,_,_,?_,(U.drop (lo*d)).take (len*d),by simp;omega,h⟩;rw[s];simp only[Ww,f];rw[show Nat.mul len d=len*d from rfl,w]
  ·exact h.elim
 ·rename_i l len esz;obtain⟨rfl,h⟩:=h;cases j with
  |lst hf V hlen w W =>
   refine⟨len,l,_,?_,W,hlen,h⟩;simp only[Ww,f];rw[show Nat.mul len esz=len*esz from rfl,w]
  |lstNil=>exact⟨0,[],[],rfl,.nil,by simp,h⟩
  |lstEmp=>exact⟨0,[],[],rfl,.nil,by simp,h⟩
 ·rename_i l;obtain⟨rfl,h⟩:=h;cases j;refine⟨l.length,_,_,?_,zpn l c,by simp,h⟩;simp[Ww]
 ·exact h.elim
end res
end Go.Sv
namespace Go.Sv
section res
variable {P : Program} {c : Cx} {G : Ev} {K : LV → Ev → Prop}
theorem zui (a:HSim c G){size:Nat}(k:K (.dy G.length 0) (G++[.dyn [] 0 size 0 0])):J6 P c G K (.val .nilSl c.H):=by
 obtain⟨d,f,_⟩:=a.push (H':=c.H) (x:=.nilSl) (ob:=.dyn [] 0 size 0 0) (Am _) (fun _ _=>rfl) (fun o e=>by cases e) ⟨rfl,by simp,.inl ⟨rfl,rfl⟩⟩;exact⟨⟨c.hd++[(0,.nilSl)],c.Fz,c.H⟩,.dy G.length 0,_,rfl,d,f,.dy (h:=.nilSl) (by rw[←a.len];exact Ax) (Am _) (fun _=>rfl) rfl,k⟩
theorem zse (O:HSim c G){p k:Nat}{a:AV}{size n:Nat}{new:List LV}{d:List AV}(ha:AR c (.dy p k) a)(Q:ARs c new d)(L:new.length=n*size)(h:H0 G size (.dy p k) n new K):J6 P c G K (Pa c.H size a n d):=by
 have y:=Q.length;unfold H0 at h;dsimp only at h;split at h
 ·rename_i l len esz D st R;obtain⟨aB,⟨rfl,S⟩,T,h⟩:=h;have aj:p<c.hd.length:=by rw[O.len];exact (Aa.1 R).1
  cases ha with
  | @dy _ _ k' B _ e hk ao ap =>
   obtain⟨r0,r1,g⟩:=O.obj p _ _ _ R e;have E:=ao (by omega);have fin:∀{H':Heap} {x':AV},c.H.next≤H'.next→(∀o,o<c.H.next→F9 B≠some o→H'.get o=c.H.get o)→(∀o,F9 x'=some o→(F9 B=some o∨c.H.next≤o)∧o<H'.next)→zmw x'=true→R6 B=false →
     (CxLe c ⟨c.hd.set p (k'+1,x'),c.Fz,H'⟩→ObR ⟨c.hd.set p (k'+1,x'),c.Fz,H'⟩ (k'+1) x' (.dyn (l++new) (len+n) esz (D+1) (st+1)))→J6 P c G K (.val x' H'):=by
    intro H' x' U h2 V M h5 h6;obtain⟨q1,q2,_⟩:=O.upd (k':=k'+1) (x':=x') (ob':=.dyn (l++new) (len+n) esz (D+1) (st+1)) (H':=H') R rfl e U h2 V (Eg _) (fun q=>by omega) (fun q=>by rw[h5] at q;cases q) (.inl (B2 _)) h6;exact⟨_,.dy p (D+1),_,rfl,q1,q2,.dy (k':=k'+1) (h:=x') (by dsimp only;rw[Ah aj]) (by omega) (fun _=>rfl) M,h⟩
   have j:(l++new).length=(len+n)*esz:=by rw[Aj,r1,L,Bb]
   unfold Pa;cases hb:Nat.beq n 0 with
   |true =>
    have W:=An hb;subst W;have X:new=[]:=A0 (by simpa using L);subst X;have Y:R6 B=false:=by
     rcases g with ⟨g,_⟩ | ⟨o,v,room,t,f,l',g,_⟩<;>rw[g]<;>rfl
    have aq:zmw B=true:=by rw[←E];exact ap
    have key:J6 P c G K (.val B c.H):=by
     refine fin (Am _) (fun _ _ _=>rfl) (fun o x=>⟨.inl x,O.lt o ⟨p,_,_,_,R,rfl,e,x⟩⟩) aq Y (fun hle=>⟨by omega,j,?_⟩);simp only[Bx,C6];rcases g with ⟨g,m⟩ | ⟨o,v,room,t,f,l',g,m,r4,Z,F,r7,r8⟩
     ·exact .inl ⟨g,m⟩
     ·exact .inr ⟨o,v,room,t,f,l',g,m,r4,Z,F.mono hle,r7,r8⟩
    rw[E];rcases g with ⟨g,m⟩ | ⟨o,v,room,t,f,l',g,m,r4,Z,F,r7,r8⟩
    ·rw[g] at key ⊢;exact key
    ·rw[g] at key ⊢;exact key
   |false =>
    have W:n≠0:=fun q=>by rw[q] at hb;cases hb
    rw[E];rcases g with ⟨g,m⟩ | ⟨o,v,room,t,f,l',g,m,r4,Z,F,r7,r8⟩
    ·-- nil so aC
     subst m;have H:l=[]:=A0 (by simpa using r1);subst H;rw[g];dsimp only[Tw];obtain⟨H',U,h2,V,M⟩:=zey c d;rw[U];dsimp only;refine fin (by omega) (fun o ho _=>V o ho) (fun o x=>by cases x;exact⟨.inr (Am _),by omega⟩) rfl (by rw[g];rfl) (fun hle=>⟨by omega,j,.inr ⟨c.H.next,0,none,_,d.length,d,?_,M,?_,?_,Q.mono hle,fun r q=>(by cases q),fun _=>?_⟩⟩)
     ·simp
     ·rw[Be];omega
     ·rw[Be,←L,y];exact z78 d
     ·rw[Be];omega
    ·have aa:o<c.H.next:=O.lt o ⟨p,_,_,_,R,rfl,e,by rw[g];rfl⟩;have ar:l'.length=len*esz:=by rw[←F.length];exact r1
     rw[g];have aw:(Nat.beq esz esz&&Nat.ble len It)=true:=by rw[Bj,show Nat.ble len It=true from Al T];rfl
     dsimp only;rw[aw];dsimp only;have z:F9 B=some o:=by rw[g];rfl
     have I:R6 B=false:=by rw[g];rfl
     have C:Kx (Jw d (len*esz) t) 0 ((len+n)*esz)=some (l'++d):=by
      have:=znt (r:=d) Z
      rwa [show len*esz+d.length=(len+n)*esz from by rw[←y,L,Bb]] at this
     cases room with
     |some r =>
      obtain⟨A,aD⟩:=r7 r rfl;dsimp only;cases ad:Nat.ble (Nat.add len n) r with
      |true =>
       have s:len+n≤r:=As ad;have hm:(len+n)*esz≤r*esz:=At _ s;have af:(len+n)*esz=len*esz+n*esz:=Bb _ _ _;have hw:Ow c.H o v (Nat.add 0 (Nat.mul len esz)) d=some (c.H.put o (.cells (Jw d (len*esz) t) f v false)):=by
        unfold Ow;rw[m];have e1:Nat.add 0 (Nat.mul len esz)=len*esz:=Be _;have ag:Nat.ble (Nat.add (len*esz) d.length) f=true:=Al (by show len*esz+d.length≤f;omega);rw[e1];simp only[Bj,ag]
       dsimp only;rw[hw];dsimp only;refine fin (by exact Am _) (fun N _ J=>Heap.get_put_ne _ _ (fun q=>J (by rw[q];exact z))) (fun N x=>by cases x;exact⟨.inl z,aa⟩) rfl I (fun hle=>⟨by omega,j,.inr ⟨o,v,some r,_,f,_,rfl,Heap.get_put_same _ _ _,by omega,C,(F.append Q).mono hle,fun r' q=>by cases q;exact⟨A,s⟩,fun q=>by cases q⟩⟩)
      |false =>
       have hr:=Pe (i:=0) (n:=len*esz) m Z r4 (by omega);dsimp only;rw[show Nat.mul len esz=len*esz from rfl,hr];dsimp only[Tw];obtain⟨H',U,h2,V,M⟩:=zey c ((l'.drop 0).take (len*esz)++d);rw[U];dsimp only;have ax:(l'.drop 0).take (len*esz)=l':=by rw[C7,Aw (by omega)]
       rw[ax] at M;have w:(l'++d).length=(len+n)*esz:=by rw[Aj,ar,←y,L,Bb]
       refine fin (by omega) (fun N ay _=>V N ay) (fun N x=>by cases x;exact⟨.inr (Am _),by omega⟩) rfl I (fun hle=>⟨by omega,j,.inr ⟨c.H.next,0,none,_,_,l'++d,rfl,M,by omega,?_,(F.append Q).mono hle,fun r' q=>(by cases q),fun _=>w⟩⟩);rw[←w];exact z78 _
     |none =>
      have A:=r8 rfl;dsimp only;rw[m];dsimp only;have af:(len+n)*esz=len*esz+n*esz:=Bb _ _ _;have az:0<n*esz:=Nat.mul_pos (by omega) S;have aA:Nat.ble (Nat.add 0 (Nat.mul (Nat.add len n) esz)) f=false:=by
       cases hq:Nat.ble (Nat.add 0 (Nat.mul (Nat.add len n) esz)) f with
       |false=>rfl
       |true =>
        have:0+(len+n)*esz≤f:=As hq;omega
      have ah:Nat.beq (Nat.mul len esz) f=true:=by rw[A];exact Bj _
      rw[Bj,aA,ah,A];dsimp only;have w:Nat.add (len*esz) d.length=(len+n)*esz:=by show len*esz+d.length=_;rw[←y,L,af]
      refine fin (by exact Am _) (fun N _ J=>Heap.get_put_ne _ _ (fun q=>J (by rw[q];exact z))) (fun N x=>by cases x;exact⟨.inl z,aa⟩) rfl I (fun hle=>⟨by omega,j,.inr ⟨o,v+1,none,_,_,_,rfl,Heap.get_put_same _ _ _,by rw[w];exact Am _,C,(F.append Q).mono hle,fun r' q=>(by cases q),fun _=>w⟩⟩)
 ·exact h.elim
theorem zyj (j:HSim c G){s:LV}{a:AV}{size n:Nat}{new:List LV}{J:List AV}(ha:AR c s a)(D:ARs c new J)(E:new.length=n*size)(h:H0 G size s n new K):J6 P c G K (Pa c.H size a n J):=by
 have ao:=D.length;unfold H0 at h;split at h
 ·-- nil
  cases ha;unfold Pa;cases H:Nat.beq n 0 with
  |true =>
   have:=An H;subst this;have:new=[]:=A0 (by simpa using E);subst this;exact zui j h
  |false =>
   dsimp only[Tw];exact z5q j D E (fun r e=>by cases e) h
 ·rename_i p k;exact zse j ha D E (by unfold H0;exact h)
 ·rename_i p k lo len;split at h
  ·rename_i l U esz af st F;obtain⟨O,⟨rfl,rfl,ag⟩,m,h⟩:=h;have x:Nat.beq n 0=false:=by
    cases H:Nat.beq n 0 with
    |false=>rfl
    |true=>have:=An H;omega
   cases ha with
   | @vw _ _ _ _ k' hh _ e hk I V hz =>
    split at h
    case isFalse L =>
     obtain⟨Q,W,h1,X⟩:=h;subst Q;have Y:=(j.obj p _ _ _ F e).1;have A:=hz (by omega) rfl;rcases I (by omega) with ⟨y,z⟩ | ⟨o,v,f,d,room,g,y,z,r9⟩
     ·subst y;rcases z with rfl | ⟨_,r5⟩
      ·have Q:l=[]:=A0 (by have:=(j.obj p _ _ _ F e).2.1;simpa using this);subst Q;unfold Pa;rw[x];dsimp only[Tw];refine z5q j D E (fun r e=>by cases e) ?_;simpa using X
      ·exact absurd rfl r5
     ·have M:=e;rw[y] at M;obtain⟨_,w1,Z,w3,t,w,l',T,w5,w6,w7,_⟩:=Vs j F M;subst Z w3;rw[y,z] at A;dsimp only[Sa] at A;by_cases aa:g=room
      ·refine zse j (p:=p) (k:=k) (.dy e hk (fun _=>by rw[z,y,aa,Dc]) V) D E ?_;unfold H0;dsimp only;rw[F];exact⟨O,⟨rfl,W⟩,m,h1⟩
      ·rcases A with A | ⟨r,rfl,hr⟩
       ·exact absurd A aa
       have B:(Nat.beq d d&&Nat.ble f It)=true:=by rw[Bj,show Nat.ble f It=true from Al m];rfl
       have R:Nat.ble (Nat.add f n) r=false:=by
        cases hq:Nat.ble (Nat.add f n) r with
        |false=>rfl
        |true=>have:f+n≤r:=As hq;omega
       rw[z];unfold Pa;rw[x];dsimp only;rw[B];dsimp only;rw[R];dsimp only;have S:=Pe (i:=0) (n:=f*d) T w6 w5 (by omega);rw[show Nat.mul f d=f*d from rfl,show 0*d=0 from Dc _,S];dsimp only[Tw];have C:=Bb f n d;have ah:l.take (f*d)=l:=Aw (by omega);refine z5q j ((w7.take _).append D) (by rw[Aj,Cr,E];show min (f*d) l.length+n*d=(f+n)*d;omega) (fun r e=>by cases e) ?_;rw[ah];exact X
    case isTrue L =>
     obtain⟨h1,X⟩:=h;have Y:=(j.obj p _ _ _ F e).1;have C:(len+n)*esz=len*esz+n*esz:=Bb _ _ _;rcases I (by omega) with ⟨y,z⟩ | ⟨o,v,f,d,room,g,y,z,r9⟩
     ·subst y;rcases z with rfl | ⟨_,r5⟩
      ·unfold Pa;rw[x];dsimp only[Tw];refine z5q j D E (fun r e=>by cases e) ?_;simpa using X
      ·exact absurd rfl r5
     ·have M:=e;rw[y] at M;obtain⟨_,w1,Z,w3,t,w,l',T,w5,w6,w7,_⟩:=Vs j F M;subst Z w3;rw[z];have hw:Om G (.dptr p k (len*d)) new (fun G'=>K (.vw p k 0 (len+n)) G'):=by
       unfold Om;dsimp only;rw[F];exact⟨O,by rw[E,←C];exact L,h1⟩
      obtain⟨o2,v2,i2,H',c',G',u1,u2,u3,u4,u5,u6⟩:=zc4 j (a:=.ptr o v (len*d)) (.dptr e hk (fun _=>⟨rfl,_,d,room,y⟩)) D hw;cases u1;have N:(∀r,g=some r→len+n≤r)→J6 P c G K (.val (.sl o v (0*d) (len+n) d g) H'):=fun hr=>by
       refine⟨c',.vw p k 0 (len+n),G',u3,u4,u5,AR.mono u5.le (.vw e hk (fun _=>.inr ⟨o,v,_,d,room,g,y,rfl,hr⟩) rfl (fun q=>by have:=hz q;rw[z] at this;exact this)),u6⟩
      have B:(Nat.beq d d&&Nat.ble len It)=true:=by rw[Bj,show Nat.ble len It=true from Al m];rfl
      have ad:Nat.add (0*d) (Nat.mul len d)=len*d:=by show 0*d+len*d=_;omega
      have aj:len*d≤f*d:=by rw[←w1];omega
      unfold Pa;rw[x];dsimp only;rw[B];dsimp only;cases g with
      |some r =>
       dsimp only;cases H:Nat.ble (Nat.add len n) r with
       |true =>
        dsimp only;rw[ad,u2];exact N (fun r' e'=>by cases e';exact As H)
       |false =>
        dsimp only;have hr:=Pe (i:=0) (n:=len*d) T w6 w5 (by omega);rw[show Nat.mul len d=len*d from rfl,show 0*d=0 from Dc _,hr];dsimp only[Tw];refine z5q j ((w7.take _).append D) (by rw[Aj,Cr,E];show min (len*d) l.length+n*d=(len+n)*d;omega) (fun r e=>by cases e) X
      |none =>
       dsimp only;rw[T];dsimp only;rw[Bj,ad];have H:Nat.ble (Nat.add (0*d) (Nat.mul (Nat.add len n) d)) w=true:=Al (by show 0*d+(len+n)*d≤w;omega);rw[H];dsimp only;rw[u2];exact N (fun r' e'=>by cases e')
  ·exact h.elim
 ·rename_i p k len;split at h
  ·rename_i l U esz af st F;obtain⟨O,⟨rfl,ag⟩,m,hle,h⟩:=h;have x:Nat.beq n 0=false:=by
    cases H:Nat.beq n 0 with
    |false=>rfl
    |true=>have:=An H;omega
   cases ha with
   | @vf _ _ _ k' hh _ e hk I V =>
    have Y:=(j.obj p _ _ _ F e).1;obtain⟨o,v,f,d,room,y,z⟩:=I (by omega);have M:=e;rw[y] at M;obtain⟨_,w1,Z,w3,t,w,l',T,w5,w6,w7,_⟩:=Vs j F M;subst Z w3;have B:(Nat.beq d d&&Nat.ble len It)=true:=by rw[Bj,show Nat.ble len It=true from Al m];rfl
    have R:Nat.ble (Nat.add len n) len=false:=by
     cases hq:Nat.ble (Nat.add len n) len with
     |false=>rfl
     |true=>have:len+n≤len:=As hq;omega
    rw[z];unfold Pa;rw[x];dsimp only;rw[B];dsimp only;rw[R];dsimp only;have S:=Pe (i:=0) (n:=len*d) T w6 w5 (by omega);rw[show Nat.mul len d=len*d from rfl,S];dsimp only[Tw];have C:=Bb len n d;refine z5q j ((w7.take _).append D) (by rw[Aj,Cr,E];show min (len*d) l.length+n*d=(len+n)*d;omega) (fun r e=>by cases e) h
  ·exact h.elim
 ·exact h.elim
end res
end Go.Sv
namespace Go.Sv
section res
variable {P : Program} {c : Cx} {G : Ev} {K : LV → Ev → Prop}
theorem V4 {v:LV}{a:AV}(d:v.scal=true)(h:AR c v a):a=toA v:=by
 cases v<;>first | (cases d;done) | (cases h;rfl)
theorem toAs_scal:∀{l:List LV} {r:List AV},l.all LV.scal=true→ARs c l r→r=toAs l
 |[],_,_,.nil=>rfl
 |v::l,_,h,.cons e es=>by
  simp only[Cu,Ab] at h;rw[toAs,←V4 h.1 e,←toAs_scal h.2 es]
theorem binL_ok {op:BinOp}{g:Bool}{t:TypeId}{x y:LV}{a b:AV}{K:LV→Prop}(l:AR c x a)(m:AR c y b)(h:Lk P op g t x y K):J1 c K (Hx P op g t a b):=by
 unfold Lk at h;split at h
 ·cases l;cases m;exact uuL_ok h
 ·cases l;cases m;exact iiL_ok h
 ·cases l;cases m;exact bbL_ok h
 ·rename_i u v;cases l;cases m;cases op<;>try exact h.elim
  ·simp only[Hx];rw[h.1];exact .mk (.bool _) h.2
  ·simp only[Hx];rw[h.1];exact .mk (.bool _) h.2
 ·rename_i u s;cases l;cases m;cases op<;>try exact h.elim
  ·obtain⟨f,j⟩:=h;obtain⟨n,rfl⟩:=Af f;exact .mk (.u' (shl_u u n)) j
  ·obtain⟨f,j⟩:=h;obtain⟨n,rfl⟩:=Af f;exact .mk (.u' (shr_u u n)) j
 ·rename_i u s;cases l;cases m;cases op<;>try exact h.elim
  ·obtain⟨f,j,q,p⟩:=h;rw[(zlo (s:=Int.ofNat s.toNat) f (B6 _) (by show (s.toNat:Int)≤64;omega)).1];exact .mk (.i' (Sc q)) p
  ·obtain⟨f,j,p⟩:=h;rw[(zlo (s:=Int.ofNat s.toNat) f (B6 _) (by show (s.toNat:Int)≤64;omega)).2];exact .mk (.i _) p
 ·obtain⟨rfl,h⟩:=h;cases l;cases m;exact kkL_ok h
 ·cases l;cases m;exact ssL_ok h
 ·cases l;cases m;exact zqm (by cases op<;>rfl) h
 ·cases l;cases m;have:∀o v i,J9 P g t (.ptr o v i) .nilPtr=J9 P g t (.ptr 0 0 0) .nilPtr:=fun o v i=>by
   unfold J9 zkw eqT Vm;dsimp only;cases P.underlying t with
   |none=>rfl
   |some d=>cases d<;>rfl
  refine zqm (r:=false) (by cases op<;>rfl) ?_;cases op<;>simp only[Sd] at h ⊢<;>(rw[this];exact h)
 ·cases l;cases m;exact zqm (by cases op<;>rfl) h
 ·cases m;obtain⟨f,j⟩:=h;have key:J9 P g t .emp .nilSl=some false∧∀o v i len esz room,J9 P g t (.sl o v i len esz room) .nilSl=some false:=by
   unfold J9 zkw eqT Vm at f ⊢;dsimp only at f ⊢;cases hu:P.underlying t with
   |none=>rw[hu] at f;cases f
   |some d=>rw[hu] at f;cases d<;>first |(cases f;done)|exact⟨rfl,fun _ _ _ _ _ _=>rfl⟩
  have fin:∀{a:AV} {b:Bool},J9 P g t a .nilSl=some b→(Hx P op g t a .nilSl=match op with | .eql=>yesB (J9 P g t a .nilSl) | .neq=>notB (J9 P g t a .nilSl) | _=>none)→(match op with | .eql=>K (.bool b) | .neq=>K (.bool !b) | _=>False)→J1 c K (Hx P op g t a .nilSl):=by
   intro a b q p w;rw[p,q];cases op<;>first | exact w.elim | exact .mk (.bool _) w
  cases l with
  |lst A z hlen B C =>
   refine fin (key.2 _ _ _ _ _ _) (by cases op<;>rfl) ?_;cases op<;>first | exact j.elim | exact j.1
  |lstNil =>
   refine fin f (by cases op<;>rfl) ?_;cases op<;>first | exact j.elim | exact j.2 rfl
  |lstEmp =>
   refine fin key.1 (by cases op<;>rfl) ?_;cases op<;>first | exact j.elim | exact j.1
 ·cases l with
  |agg f=>cases m with
   |agg j =>
    cases op<;>try exact h.elim
    ·obtain⟨b,s1,s2,e,k⟩:=h;rw[toAs_scal s1 f,toAs_scal s2 j];simp only[Hx];rw[e];exact .mk (.bool _) k
    ·obtain⟨b,s1,s2,e,k⟩:=h;rw[toAs_scal s1 f,toAs_scal s2 j];simp only[Hx];rw[e];exact .mk (.bool _) k
 ·exact h.elim
theorem unL_ok {op:UnOp}{x:LV}{a:AV}{K:LV→Prop}(d:AR c x a)(h:unL op x K):J1 c K (unA op a):=by
 unfold unL at h;simp only[Rk,zx5] at h;split at h
 ·cases d;exact .mk (.bool _) h
 ·cases d;refine .mk (.u' ?_) h;rename_i u;rw[Sf,Dv];show (0 - Int.ofNat u.toNat)%_=((2^64 - u.toNat+(0:UInt64).toNat)%2^64:Nat);have:=u.toNat_lt;simp only[A8,UInt64.toNat_zero];omega
 ·cases d;obtain⟨f,g⟩:=h;refine .mk (.i' ?_) g;have e:∀n:Int,Int.sub 0 n=-n:=fun n=>by show 0 - n=-n;omega
  rw[e];exact Sc f
 ·cases d;refine .mk (.u' ?_) h;rename_i u;have hu:=u.toNat_lt;show IntKind.wrap .u64 (BitVec.ofInt 64 (IntKind.max .u64) ^^^ BitVec.ofInt 64 (Int.ofNat u.toNat)).toNat=_;have j:BitVec.ofInt 64 (IntKind.max .u64)=BitVec.allOnes 64:=by decide
  have l:BitVec.ofInt 64 (Int.ofNat u.toNat)=u.toBitVec:=by
   apply BitVec.eq_of_toNat_eq;simp
  rw[j,l,BitVec.allOnes_xor];show ((~~~u.toBitVec).toNat:Int)%18446744073709551616=Int.ofNat (~~~u).toNat;have:(~~~u).toNat=(~~~u.toBitVec).toNat:=rfl;rw[this];exact Cn (B6 _) (by have:=(~~~u.toBitVec).isLt;omega)
 ·exact h.elim
theorem zzp (n:Int):n%18446744073709551616=Int.ofNat (UInt64.ofInt n).toNat:=by
 unfold UInt64.ofInt;rw[By];simp only[A8];omega
theorem zty (n:Int):n%256=Int.ofNat (UInt8.ofInt n).toNat:=by
 unfold UInt8.ofInt;rw[UInt8.toNat_ofNat'];simp only[A8];omega
theorem cvL_ok {k:IntKind}{x:LV}{a:AV}{K:LV→Prop}(d:AR c x a)(h:cvL k x K):∃k' n,a=.int k' n∧∃v,AR c v (.int k (Nz k n))∧K v:=by
 unfold cvL at h;simp only[X6,bU_eq,uB_eq,iB_eq] at h;split at h
 ·cases d;rename_i u;refine⟨_,_,rfl,_,.u' ?_,h⟩;rw[Sf];exact Cn (B6 _) (by have:=u.toNat_lt;simp only[A8];omega)
 ·cases d;refine⟨_,_,rfl,_,.u' ?_,h⟩;rename_i n;rw[Sf];exact zzp n
 ·cases d;rename_i u;refine⟨_,_,rfl,_,.u' ?_,h⟩;rw[Sf];have:=u.toNat_lt;rw[By];show Int.ofNat u.toNat%18446744073709551616=Int.ofNat (u.toNat%2^64);simp only[A8];omega
 ·cases d;rename_i u;exact⟨_,_,rfl,_,.i' (Sc ⟨by simp only[A8];omega,by simp only[A8];omega⟩),h.2⟩
 ·cases d;exact⟨_,_,rfl,_,.i' (Sc h.1),h.2⟩
 ·cases d;rename_i u;have:=u.toNat_lt;exact⟨_,_,rfl,_,.i' (Sc ⟨by simp only[A8];omega,by simp only[A8];omega⟩),h⟩
 ·cases d;rename_i u;refine⟨_,_,rfl,_,.b' ?_,h⟩;rw[z91,UInt8.toNat_ofNat'];show Int.ofNat u.toNat%256=Int.ofNat (u.toNat%2^8);simp only[A8];omega
 ·cases d;refine⟨_,_,rfl,_,.b' ?_,h⟩;rename_i n;rw[z91];exact zty n
 ·cases d;rename_i u;refine⟨_,_,rfl,_,.b' ?_,h⟩;rw[z91];exact Cn (B6 _) (by have:=u.toNat_lt;simp only[A8];omega)
 ·cases d;refine⟨_,_,rfl,_,.b' ?_,h⟩;rename_i n;rw[z91];exact zty n
 ·cases d;refine⟨_,_,rfl,_,?_,h⟩;rename_i n;have e:Nz .i32 n=w32 n:=by
   rw[Tk];show (if (true&&decide (n%4294967296 ≥ 2147483648))=true then n%4294967296 - 4294967296 else n%4294967296)=w32 n;simp only[Ed,Ak,w32];split<;>omega
  rw[e];exact .int .i32 _
 ·cases d;exact⟨_,_,rfl,_,.i' (Sc h.1),h.2⟩
 ·exact h.elim
theorem layL_eq:∀(r l:List AV) (i:Nat),i+r.length≤l.length→M0 l i r=Xl l i r
 |[],l,i,h=>by
  simp only[M0,Xl,Bc,C6,Bx,List.take_append_drop]
 |a::r,l,i,h=>by
  simp only[Ar] at h;rw[M0,layL_eq r (l.set i a) (i+1) (by simp;omega)];refine List.ext_getElem? (fun j=>?_);rw[zi7 (by simp;omega),zi7 (by simp;omega)];simp only[Ar];by_cases d:i+1≤j∧j<i+1+r.length
  ·rw[Ag d,Ag (by omega),show j - i=(j - (i+1))+1 from by omega,Av]
  ·rw[Ac d];by_cases f:j=i
   ·subst f;rw[Ag (by omega),Ah (by omega)];simp
   ·rw[Ac (by omega),Ad (Ne.symm f)]
theorem zly {ρ:Ey}{E:Tr AV}(j:Gl c ρ E):∀{f:List (Nat×Nat×Lx)} {cs l:List LV} {a:List AV},f.all (·.2.2.ok)=true→ARs c cs a→zmq ρ cs f=some l→∃l',fillR (ρA E) a (rps f)=some l'∧ARs c l l'
 |[],cs,l,a,_,h,e=>by
  simp only[zmq,Option.some.injEq] at e;subst e;exact⟨a,rfl,h⟩
 |(off,size,x)::f,cs,l,a,d,h,e=>by
  simp only[Cu,Ab] at d;simp only[zmq] at e;split at e
  ·cases e
  ·rename_i r o;split at e
   ·rename_i p;obtain⟨q,C⟩:=p;obtain⟨r',s,m⟩:=(Ha j d.1).cells o;have g:=m.length;have w:=h.length;obtain⟨l',y,z⟩:=zly j d.2 (h.lay m off) e;refine⟨l',?_,z⟩;simp only[rps,fillR,s];have A:Nat.beq r'.length size=true:=by rw[←g,q];exact Bj _
    have B:Nat.ble (Nat.add off size) a.length=true:=Al (by show off+size≤_;omega);simp only[A,B];rw[layL_eq _ _ _ (by omega)];exact y
   ·cases e
theorem Ob {ρ:Ey}{E:Tr AV}(l:Gl c ρ E){d:Nat}{x:Option Lx}(g:Y4 x=true){K:Nat→Prop}(h:Hv ρ d x K):∃r n,Hz (ρA E) (x.map Lx.r)=some r∧r.getD d=n∧K n:=by
 cases x with
 |none=>exact⟨none,d,rfl,rfl,h⟩
 |some x =>
  simp only[Hv] at h;have f:=Ha l (show x.ok=true from g);simp only[Ck,Hz];split at h
  ·rename_i n j;obtain⟨o,p⟩:=h;rw[j] at f;generalize x.r.ev (ρA E)=a at f;cases f;obtain⟨m,rfl⟩:=Af o;exact⟨some m,m,rfl,rfl,p⟩
  ·rename_i n j;rw[j] at f;generalize x.r.ev (ρA E)=a at f;cases f;exact⟨some n.toNat,n.toNat,rfl,rfl,h⟩
  ·exact h.elim
end res
end Go.Sv
