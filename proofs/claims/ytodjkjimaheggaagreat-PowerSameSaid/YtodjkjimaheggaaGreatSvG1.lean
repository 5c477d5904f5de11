/- Texts of the evaluator, of the logic over it, of plain arithmetic. -/
import Derived.Test.YtodjkjimaheggaaGreatSvG0
import Derived.Orders
import Derived.WalkKit
import Derived.ProofKit
import Derived.OpenShut
set_option linter.unusedSimpArgs false
set_option linter.defProp false
namespace Go.Sv
def eqAV_spec:∀(n:Nat) (a b:AV),J7 n a b=true→a=b
 |0,_,_,h=>by cases h
 |n+1,a,b,h=>by
  have j:∀(x y:List AV),Uy (J7 n) x y=true→x=y:=by
   intro x
   induction x with
   |nil=>intro y g;cases y with
    |nil=>rfl
    |cons _ _=>cases g
   |cons c x l =>
    intro y g;cases y with
    |nil=>cases g
    |cons d y =>
     simp only[Uy] at g;split at g
     ·rename_i m;rw[eqAV_spec n c d m,l y g]
     ·cases g
  have f:∀{x y:Nat},Nat.beq x y=true→x=y:=fun h=>Am h
  unfold J7 at h;split at h
  ·simp only[Dz] at h;rw[h]
  ·simp only[Ac,xy,Dz] at h;rw[z7x h.1,h.2]
  ·simp only[Ac] at h;rw[f h.1,f h.2]
  ·rfl
  ·simp only[Ac] at h;rw[f h.1.1,f h.1.2,f h.2]
  ·rfl
  ·simp only[Ac,Dz] at h;obtain⟨⟨⟨⟨⟨o,p⟩,q⟩,r⟩,s⟩,w⟩:=h;rw[f o,f p,f q,f r,f s,w]
  ·rfl
  ·rfl
  ·rw[f h]
  ·rfl
  ·simp only[Ac] at h;rw[f h.1.1,j _ _ h.1.2,j _ _ h.2]
  ·simp only[Ac] at h;rw[f h.1.1,j _ _ h.1.2,j _ _ h.2]
  ·rfl
  ·simp only[Ac] at h;rw[f h.1,eqAV_spec n _ _ h.2]
  ·rw[j _ _ h]
  ·rw[j _ _ h]
  ·cases h
def Vh (a b j:Nat):(Nat.lor a b).testBit j=(a.testBit j || b.testBit j):=Nat.testBit_or a b j
def kt (i j:Nat):(2^i).testBit j=decide (i=j):=Nat.testBit_two_pow
def znf {a b:Nat}(h:Nat.beq (Nat.land a b) a=true)(j:Nat)(d:a.testBit j=true):b.testBit j=true:=by
 have e:a &&& b=a:=Am h;rw[←e,Nat.testBit_and] at d;simp only[Ac] at d;exact d.2
def bitsOf_spec:∀{l:List Nat} {t:Nat},t∈l→(zpz l).testBit t=true
 |[],_,h=>by cases h
 |a::l,t,h=>by
  simp only[zpz,Vh,kt,Bn,Ao];rcases An.1 h with rfl|h
  ·exact .inl rfl
  ·exact .inr (bitsOf_spec h)
def zah {acc:List Nat}:∀{l:List Edge} {j:Nat},(ni acc l).testBit j=true↔∃e∈l,Region.binds .any e=true∧(j=e.on∨(acc.getD e.on 0).testBit j=true)
 |[],j=>by simp[ni]
 |e::l,j=>by
  simp only[ni];split
  ·rename_i a;simp only[Vh,kt,Bn,Ao,zah,An,exists_eq_or_imp,a,Dy];constructor
   ·rintro ((h|h)|h)
    ·exact .inl (.inl h.symm)
    ·exact .inl (.inr h)
    ·exact .inr h
   ·rintro ((h|h)|h)
    ·exact .inl (.inl h.symm)
    ·exact .inl (.inr h)
    ·exact .inr h
  ·rename_i a;simp only[zah,An,exists_eq_or_imp,a,C5,false_and,false_or]
def Vc {α:Type}{f:α→Bool}:∀{l:List α} {x:α},x∈Gr f l↔x∈l∧f x=true
 |[],x=>by simp[Gr]
 |a::l,x=>by
  simp only[Gr];split
  ·rename_i h;simp only[An,Vc];constructor
   ·rintro (rfl|j)
    ·exact⟨.inl rfl,h⟩
    ·exact⟨.inr j.1,j.2⟩
   ·rintro⟨rfl|g,d⟩
    ·exact .inl rfl
    ·exact .inr ⟨g,d⟩
  ·rename_i h;simp only[An,Vc];constructor
   ·rintro⟨g,d⟩;exact⟨.inr g,d⟩
   ·rintro⟨rfl|g,d⟩
    ·rw[h] at d;cases d
    ·exact⟨g,d⟩
def zml {α:Type}{f:α→Bool}:∀{l:List α},Pe f l=true→∀x∈l,f x=true
 |[],_,x,d=>by cases d
 |a::l,h,x,d=>by
  simp only[Pe] at h;split at h
  ·rename_i g;rcases An.1 d with rfl|d
   ·exact g
   ·exact zml h x d
  ·cases h
structure LOk (P:Program) (ops:Array Oper) (L:List DOp):Prop where
 op:∀x∈L,ops[x.i]?=some x.o∧x.i<ops.size
 all:∀i,i<ops.size→∃x∈L,x.i=i
 inj:∀x∈L,∀y∈L,x.i=y.i→x=y
 cl:∀x∈L,x.c=cls P x.o.op
 lm:∀x∈L,∀t∈N6 ops x.o,x.lm.testBit t=true
 msk:∀x∈L,∀j,x.m.testBit j=true→∃e∈x.o.after.toList,Region.binds .any e=true∧(j=e.on∨∃y∈L,y.i=e.on∧y.m.testBit j=true)
 edge:∀x∈L,∀e∈x.o.after.toList,Region.binds .any e=true→x.m.testBit e.on=true
def zhm (P:Program)(ops:Array Oper):∀(l:List Oper) (acc:List Nat) (i:Nat) (j:Nat),(Ji P ops l acc i).length=l.length∧∀x,(Ji P ops l acc i)[j]?=some x →
  x.i=i+j∧l[j]?=some x.o∧x.c=cls P x.o.op∧x.lm=zpz (N6 ops x.o)∧x.m=ni (acc++((Ji P ops l acc i).take j).map (·.m)) x.o.after.toList
 |[],acc,i,j=>⟨rfl,fun x h=>by simp[Ji] at h⟩
 |o::l,acc,i,0=>⟨by simp[Ji,(zhm P ops l _ (i+1) 0).1],fun x h=>by
   simp only[Ji,A6,Option.some.injEq] at h;subst h;exact⟨rfl,rfl,rfl,rfl,by simp⟩⟩
 |o::l,acc,i,j+1=>⟨by simp[Ji,(zhm P ops l _ (i+1) 0).1],fun x h=>by
   simp only[Ji,Av] at h;obtain⟨p,a,d,f,g⟩:=(zhm P ops l _ (i+1) j).2 x h;refine⟨by omega,by simpa using a,d,f,?_⟩;rw[g];simp[Ji]⟩
def kj (P:Program)(ops:Array Oper):LOk P ops (Ji P ops ops.toList [] 0):=by
 have f:=zhm P ops ops.toList [] 0;have hlen:(Ji P ops ops.toList [] 0).length=ops.size:=by rw[(f 0).1];simp
 have hm:∀x∈Ji P ops ops.toList [] 0,∃j,(Ji P ops ops.toList [] 0)[j]?=some x∧x.i=j:=fun x d=>by
  obtain⟨j,a⟩:=Cp.1 d;exact⟨j,a,by have:=((f j).2 x a).1;omega⟩
 refine⟨fun x d=>?_,fun i hi=>?_,fun x d y p e=>?_,fun x d=>?_,fun x d t q=>?_,fun x d j a=>?_,fun x d e he o=>?_⟩
 ·obtain⟨j,a,e⟩:=hm x d;obtain⟨_,r,_⟩:=(f j).2 x a;rw[e];have:j<ops.size:=by
   have:=(Aa.1 a).1;omega
  exact⟨by simpa using r,this⟩
 ·exact ⟨(Ji P ops ops.toList [] 0)[i]'(by omega), D4 _, by
   have:=((f i).2 _ (Ai (by omega))).1;omega⟩
 ·obtain⟨j,a,m⟩:=hm x d;obtain⟨s,l,w⟩:=hm y p;have:j=s:=by omega
  subst this;rw[a] at l;cases l;rfl
 ·obtain⟨j,a,m⟩:=hm x d;exact ((f j).2 x a).2.2.1
 ·obtain⟨j,a,m⟩:=hm x d;rw[((f j).2 x a).2.2.2.1];exact bitsOf_spec q
 ·obtain⟨i,hi,m⟩:=hm x d;rw[((f i).2 x hi).2.2.2.2] at a;obtain⟨e,he,o,h⟩:=zah.1 a;refine⟨e,he,o,h.imp id fun h=>?_⟩;rw[D8,Ae,Ce] at h;cases g:((Ji P ops ops.toList [] 0).take i)[e.on]? with
  |none=>rw[g] at h;simp at h
  |some y =>
   rw[g] at h;have p:=Cp.2 ⟨e.on,g⟩;rw[List.getElem?_take] at g;split at g
   ·exact⟨y,Cp.2 ⟨_,g⟩,by have:=((f e.on).2 y g).1;omega,h⟩
   ·cases g
 ·obtain⟨i,hi,m⟩:=hm x d;rw[((f i).2 x hi).2.2.2.2];exact zah.2 ⟨e,he,o,.inl rfl⟩
def dstsOk_spec:∀{l:List DOp} {seen:Nat},zoo l seen=true→(∀x∈l,∀d,x.o.dst=some d→seen.testBit d=false)∧∀x∈l,∀y∈l,∀d,x.o.dst=some d→y.o.dst=some d→x=y
 |[],_,_=>⟨fun x f=>(by cases f),fun x f=>by cases f⟩
 |a::l,seen,h=>by
  simp only[zoo] at h;split at h
  ·rename_i j;obtain⟨o,p⟩:=dstsOk_spec h;refine⟨fun x f d hd=>?_,fun x f y m d hd g=>?_⟩
   ·rcases An.1 f with rfl|f
    ·rw[j] at hd;cases hd
    ·exact o x f d hd
   ·rcases An.1 f with rfl|f
    ·rw[j] at hd;cases hd
    ·rcases An.1 m with rfl|m
     ·rw[j] at g;cases g
     ·exact p x f y m d hd g
  ·rename_i d0 j;split at h
   ·cases h
   ·rename_i z;obtain⟨o,p⟩:=dstsOk_spec h;have q:∀x∈l,x.o.dst≠some d0:=fun x f e=>by
     have:=o x f d0 e;rw[Vh,kt] at this;simp at this
    refine⟨fun x f d hd=>?_,fun x f y m d hd g=>?_⟩
    ·rcases An.1 f with rfl|f
     ·rw[j] at hd;cases hd;simpa using z
     ·have:=o x f d hd;rw[Vh] at this;simp only[Bool.or_eq_false_iff] at this;exact this.2
    ·rcases An.1 f with ex|r<;>rcases An.1 m with s|w
     ·rw[ex,s]
     ·subst ex;rw[j] at hd;cases hd;exact absurd g (q y w)
     ·subst s;rw[j] at g;cases g;exact absurd hd (q x r)
     ·exact p x r y w d hd g
def zev {x:DOp}:Fy x=true↔x.c=.ch:=by
 unfold Fy;constructor
 ·intro h;split at h
  ·assumption
  ·cases h
 ·intro h;rw[h]
def zjj {x:DOp}:zrx x=true↔x.c=.quiet:=by
 unfold zrx;constructor
 ·intro h;split at h
  ·assumption
  ·cases h
 ·intro h;rw[h]
def z9f {x:DOp}{l:List DOp}{seen a s:Nat}(h:Ic (x::l) seen a=some s):(∀j,x.m.testBit j=true→seen.testBit j=true)∧seen.testBit x.i=false ∧
  ((x.c=.quiet∧Ic l (Nat.lor (2^x.i) seen) a=some s) ∨
   ((x.c=.rd∨x.c=.al)∧(∀j,a.testBit j=true→x.m.testBit j=true)∧Ic l (Nat.lor (2^x.i) seen) a=some s) ∨
   (x.c=.ch∧(∀j,a.testBit j=true→x.m.testBit j=true)∧Ic l (Nat.lor (2^x.i) seen) (Nat.lor (2^x.i) a)=some s)):=by
 simp only[Ic] at h;split at h
 ·cases h
 ·rename_i p;split at h
  ·cases h
  ·rename_i q;refine⟨fun j d=>znf p j d,by simpa using q,?_⟩;split at h
   ·rename_i f;exact .inl ⟨zjj.1 f,h⟩
   ·rename_i f;split at h
    ·cases h
    ·rename_i m;split at h
     ·rename_i g;exact .inr (.inr ⟨zev.1 g,fun j d=>znf m j d,h⟩)
     ·rename_i g;refine .inr (.inl ⟨?_,fun j d=>znf m j d,h⟩);cases o:x.c with
      |quiet=>rw[zjj.2 o] at f;cases f
      |rd=>exact .inl rfl
      |al=>exact .inr rfl
      |ch=>rw[zev.2 o] at g;cases g
def topo_seen:∀{l:List DOp} {seen d s:Nat},Ic l seen d=some s→∀j,s.testBit j=true↔(seen.testBit j=true∨∃x∈l,x.i=j)
 |[],seen,d,s,h,j=>by simp only[Ic,Option.some.injEq] at h;subst h;simp
 |x::l,seen,d,s,h,j=>by
  obtain⟨_,_,f⟩:=z9f h;have key:∀a,Ic l (Nat.lor (2^x.i) seen) a=some s→(s.testBit j=true↔(seen.testBit j=true∨∃y∈x::l,y.i=j)):=fun a g=>by
   rw[topo_seen g j,Vh,kt];simp only[Bn,Ao,An,exists_eq_or_imp];constructor
   ·rintro ((h|h)|h)
    ·exact .inr (.inl h)
    ·exact .inl h
    ·exact .inr (.inr h)
   ·rintro (h|h|h)
    ·exact .inl (.inr h)
    ·exact .inl (.inl h)
    ·exact .inr h
  rcases f with ⟨_,f⟩|⟨_,_,f⟩|⟨_,_,f⟩<;>exact key _ f
def topo_new:∀{l:List DOp} {seen d s:Nat},Ic l seen d=some s→∀x∈l,seen.testBit x.i=false
 |[],_,_,_,_,x,f=>by cases f
 |y::l,seen,d,s,h,x,f=>by
  obtain⟨_,j,g⟩:=z9f h;rcases An.1 f with rfl|f
  ·exact j
  ·have key:∀a,Ic l (Nat.lor (2^y.i) seen) a=some s→seen.testBit x.i=false:=fun a m=>by
    have:=topo_new m x f;rw[Vh] at this;simp only[Bool.or_eq_false_iff] at this;exact this.2
   rcases g with ⟨_,g⟩|⟨_,_,g⟩|⟨_,_,g⟩<;>exact key _ g
def topo_chs:∀{l:List DOp} {seen d s:Nat},Ic l seen d=some s→∀x∈l,x.c≠.quiet→∀j,d.testBit j=true→x.m.testBit j=true
 |[],_,_,_,_,_,f=>by cases f
 |y::l,seen,d,s,h,x,f=>by
  intro o j g;obtain⟨_,p,a⟩:=z9f h;rcases An.1 f with rfl|f
  ·rcases a with ⟨e,a⟩|⟨e,m,a⟩|⟨e,m,a⟩
   ·exact absurd e o
   ·exact m j g
   ·exact m j g
  ·rcases a with ⟨e,a⟩|⟨e,m,a⟩|⟨e,m,a⟩
   ·exact topo_chs a x f o j g
   ·exact topo_chs a x f o j g
   ·exact topo_chs a x f o j (by rw[Vh,g];simp)
def znq {L chain:List DOp}{p:Nat}:∀x∈Xc L chain p,x∈L:=fun _ a=>(Vc.1 a).1
def zii {L chain:List DOp}:∀{l:List DOp} {p:Nat},(∀x∈l,x∈L)→∀x∈zn0 L chain l p,x∈L
 |[],_,_,_,a=>by cases a
 |c::l,p,h,x,a=>by
  simp only[zn0,An,Az] at a;rcases a with rfl|a|a
  ·exact h _ (by simp)
  ·exact znq x a
  ·exact zii (fun y d=>h y (by simp[d])) x a
def zxs {L:List DOp}:∀x∈zy3 L (Gr Fy L),x∈L:=fun x a=>by
 simp only[zy3,Az] at a;rcases a with a|a
 ·exact znq x a
 ·exact zii (fun y d=>(Vc.1 d).1) x a
open Go.RowKit (Below)
def zpw (ob:AObj):Prop:=∀B C w o,(∀v,C.f o v=none)→Iy B C w o ob
def vy (P:Program)(C:CM)(w:World)(nx:Sem Next)(v:AV)(ob:AObj):Prop :=
 ∃a n sz x,nx.run P w=.ok (.value x) (w.alloc a)∧∀(d:CM) (id:Nat),C.keep d→d id 0=some ⟨w.heap.size,0,n,sz⟩ →
  VR d (Jg id v) x∧∀B,B≤w.heap.size→Iy B d (w.alloc a) id ob
def qk (P:Program)(E:Tr AV)(H:Heap)(nx:(Operand→Value)→Sem Next):OR→Prop
 |.no=>True
 |.val v H1=>∃ob,True∧H1=H.push ob∧Gq v=some H.next∧zpw ob∧∀C w ρ,mq C E ρ→vy P C w (nx ρ) v ob
 |.call _ _=>False
def Mk (P:Program)(F:OpF)(nx:(Operand→Value)→Sem Next):Prop:=∀E H,qk P E H nx (F.run E H)
def Mk.congr {P:Program}{F:OpF}{nx aa:(Operand→Value)→Sem Next}(h:∀ρ,nx ρ=aa ρ)(s:Mk P F nx):Mk P F aa:=by
 rw[show aa=nx from funext fun ρ=>(h ρ).symm];exact s
def cm (P:Program)(nx:(Operand→Value)→Sem Next):Mk P Gp nx:=fun _ _=>trivial
def zdw {H H':Heap}{l:List AV}{o:Nat}(h:newObj H l=some (o,H')):True∧True∧o=H.next∧H'=H.push (.cells (Kd l 0 .e) l.length 0 false):=by
 unfold newObj at h;cases h;exact⟨trivial,trivial,rfl,rfl⟩
def znb {l:List AV}(_:True):zpw (.cells (Kd l 0 .e) l.length 0 false):=fun B C w o d=>fun L a=>by rw[d] at a;cases a
def Yn {P:Program}{C:CM}{w:World}{l:List AV}{cs:Array Value}{t:TypeId}(_hl:True)(hv:VRs C l cs.toList)(p:∀a∈l,a.one=true){nx:Sem Next}{v:AV}{x:Value}
  (g:nx.run P w=.ok (.value x) (w.alloc (.cells cs t))) (q:∀(f:CM) (id:Nat),f id 0=some ⟨w.heap.size,0,l.length,cs.size⟩→VR f (Jg id v) x) :
  vy P C w nx v (.cells (Kd l 0 .e) l.length 0 false):=by
 have hlen:l.length=cs.toList.length:=hv.length;have h:l.length=cs.size:=by simpa using hlen
 refine⟨_,l.length,cs.size,x,g,fun f id hk m=>⟨q f id m,fun B r=>fun L d=>?_⟩⟩;rw[m] at d;cases d;refine⟨rfl,fun _=>r,by dsimp;omega,cs,t,0,0,V3 _ _,Al _,fun i _ _=>by omega,?_⟩;intro k j;rw[get_ofList l 0 .e k,Ag (by omega)];obtain⟨a,v,o,s,y⟩:=hv.get' (i:=k) j;refine⟨a,by simpa using o,p a (A7 o),v,?_,y.mono' hk⟩;simpa using s
def zpl {P:Program}{H:Heap}{l:List AV}{E:Tr AV}{nx:(Operand→Value)→Sem Next}{t:TypeId}
  (d:∀C w ρ,mq C E ρ→∃cs:Array Value,VRs C l cs.toList∧(∀a∈l,a.one=true)∧(nx ρ).run P w=.ok (.value (.pointer (some ⟨w.heap.size,0,none⟩))) (w.alloc (.cells cs t))) :
  qk P E H nx (Q0 H l):=by
 unfold Q0;split
 ·rename_i o H' g;obtain⟨h,f,rfl,rfl⟩:=zdw g;refine⟨_,h,rfl,rfl,znb f,fun C w ρ j=>?_⟩;obtain⟨cs,m,p,q⟩:=d C w ρ j;refine Yn f m p q (fun s id r=>?_);simpa [Jg] using VR.ptr (i:=0) r
 ·exact trivial
def Xt (P:Program)(t:TypeId):Mk P (Gw P (.alloc t)) (fun _=>do pure (.value (←Instr.alloc t true (.tuple #[])))):=by
 intro E H;show qk P E H _ (OpF.run (match Ln P t with
  |some l=>⟨fun _ H=>Q0 H l⟩
  |none=>Gp) E H)
 cases a:Ln P t with
 |none=>exact trivial
 |some l =>
  refine zpl (t:=t) (fun C w ρ j=>?_);obtain⟨v,i,d,f,m,o⟩:=q9 (w:=w) a;obtain⟨g,h⟩:=S7 (C:=C) f;exact⟨v.cells,g,h,by simp[Instr.alloc,d,newVar,newRow]⟩
def zo7 {P:Program}{x:Operand}{f:Heap→AV→OR}{nx:(Operand→Value)→Sem Next}(h:∀E H a,(F8 x).run E=some a→qk P E H nx (f H a)):Mk P (I5 x f) nx:=by
 intro E H;show qk P E H nx (Option.rec OR.no (fun a=>f H a) ((F8 x).run E));cases d:(F8 x).run E with
 |none=>exact trivial
 |some a=>exact h _ _ _ d
def zwn {P:Program}{x y:Operand}{f:Heap→AV→AV→OR}{nx:(Operand→Value)→Sem Next}(h:∀E H a b,(F8 x).run E=some a→(F8 y).run E=some b→qk P E H nx (f H a b)):Mk P (Mp x y f) nx:=by
 intro E H;show qk P E H nx (Option.rec OR.no (fun a=>Option.rec OR.no (fun b=>f H a b) ((F8 y).run E)) ((F8 x).run E));cases d:(F8 x).run E with
 |none=>exact trivial
 |some a =>
  cases g:(F8 y).run E with
  |none=>exact trivial
  |some b=>exact h _ _ _ _ d g
def xa (P:Program)(t:TypeId)(x:Operand):Mk P (Gw P (.box t x)) (fun ρ=>do pure (.value (←Instr.box t (ρ x)))):=by
 refine zo7 fun E H a d=>?_
 cases f:a.cells with
 |none=>exact trivial
 |some l =>
  refine zpl (t:=t) (fun C w ρ g=>?_);obtain⟨h,j⟩:=(g _ _ d).cells f;exact⟨_,h,j,by simp[Instr.box,newVar,newRow]⟩
def zub {P:Program}{C:CM}{w:World}(t:TypeId){l:List AV}{o len esz:Nat}{cs:Array Value}(_hl:True)(hv:VRs C l cs.toList)(g:∀a∈l,a.one=true){cap:Nat}(p:cap*esz=l.length)(hle:len≤cap)
  {nx:Sem Next} (d:nx.run P w=.ok (.value (.slice (some ⟨w.heap.size,0,none⟩) len cap)) (w.alloc (.cells cs t))):vy P C w nx (.sl o 0 0 len esz (some cap)) (.cells (Kd l 0 .e) l.length 0 false):=by
 have hlen:l.length=cs.toList.length:=hv.length;have f:l.length=cs.size:=by simpa using hlen
 have hmul:len*esz≤cap*esz:=At _ hle;refine Yn _hl hv g d (fun q id j=>?_);have:=VR.sl (i:=0) (len:=len) (esz:=esz) (room:=some cap) (cap:=cap) j (by dsimp;omega) (by dsimp;omega) hle (fun r m=>by cases m;exact⟨rfl,by dsimp;omega⟩) (fun h=>by cases h);simpa [Jg] using this
def zm1 (P:Program)(t:TypeId)(len:Nat)(parts:Array (Nat×Operand)) :
  Mk P (m9 P t len parts) (fun ρ=>do pure (.value (←Instr.buildSlice t len (parts.map fun (i,x)=>(i,ρ x))))):=by
 unfold m9;split
 ·rename_i elem hu;split
  ·exact cm P _
  ·rename_i size h;split
   ·exact cm P _
   ·rename_i z G;split
    ·rename_i a;obtain⟨I,y⟩:=a;split
     ·exact cm P _
     ·rename_i V j;intro E H;dsimp only;split
      ·rename_i l J;split
       ·rename_i o H' K;obtain⟨L,A,rfl,rfl⟩:=zdw K;refine⟨_,L,rfl,rfl,znb A,fun C w ρ M=>?_⟩;obtain⟨v,i,N,O,Q,W⟩:=q9 (w:=w) G;obtain⟨m,R⟩:=S7 (C:=C) O;have p:v.cells.size=size:=by
         have d:=m.length;unfold H0 at h;rw[Q] at h;simp at h d;omega
        have S:z.length=size:=by have d:=m.length;simp at d;omega
        have f:VRs C (Mc z len) ((Array.range (len*size)).map fun i=>v.cells[i%v.cells.size]!).toList:=by
         rw[←p,zo];exact ug m len
        obtain⟨vs,B,D,T⟩:=z6k j M J f (su R len);have q:l.length=len*size:=by
         have d:=D.length;have U:=zk6 B;simp at U d;omega
        refine zub elem A D T q.symm (Al _) ?_;have F:Instr.fill (fun i=>some (i*size,size)) ((Array.range (len*size)).map fun i=>v.cells[i%v.cells.size]!) (parts.map fun (i,x)=>(i,ρ x)).toList=some vs:=by
         rw[Cj];exact B
        have g:¬(len*size>2^24):=by omega
        simp only[Instr.buildSlice,Sem.run_bind,Hg hu,Lp h,Result.andThen_ok,Sem.run_ite,Ab g];by_cases r:len*size=0
        ·rw[Ag r];have s:Instr.fill (fun i=>some (i*size,size)) ((Array.range (len*size)).map fun i=>(#[]:Array Value)[i%(#[]:Array Value).size]!) (parts.map fun (i,x)=>(i,ρ x)).toList=some vs:=by
          rw[←F,r,po,po]
         simp only[Sem.run_pure,Result.andThen_ok,s,newRow,Sem.run_bind,run_newObj];rfl
        ·rw[Ab r];simp only[Sem.run_bind,N,Sem.run_pure,Result.andThen_ok,F,newRow,run_newObj];rfl
       ·exact trivial
      ·exact trivial
    ·exact cm P _
 ·exact cm P _
def zvs (P:Program)(t:TypeId)(l c:Operand):Mk P (nf P t l c) (fun ρ=>do pure (.value (←Instr.makeSlice t (ρ l) (ρ c)))):=by
 unfold nf;split
 ·rename_i elem hu;split
  ·exact cm P _
  ·rename_i i hi;split
   ·exact cm P _
   ·rename_i z N;split
    ·rename_i d;obtain⟨F,g⟩:=d;refine zwn fun E H a b h m=>?_
     split
     ·rename_i x y;split
      ·rename_i p;split
       ·rename_i O;split
        ·rename_i o H' Q;obtain⟨R,G,rfl,rfl⟩:=zdw Q;refine⟨_,R,rfl,rfl,znb G,fun C w ρ I=>?_⟩;have J:=I _ _ h;have K:=I _ _ m;have f:x≤y:=As p;have q:y≤1048576:=As O;obtain⟨v,j,S,T,L,U⟩:=q9 (w:=w) N;obtain⟨M,V⟩:=S7 (C:=C) T;rw[hi] at L;cases L;have r:v.cells.size=i.size:=by have s:=M.length;simp at s;omega
         generalize A:ρ l=pl at J;generalize B:ρ c=pc at K;cases J;cases K;refine zub elem G (cs:=(Array.range (y*i.size)).map fun k=>v.cells[k%v.cells.size]!) (by rw[←r,zo];exact ug M y) (su V y) (by rw[z5x,U]) f ?_;have s:IntKind.i64.wrap (Int.ofNat x)=Int.ofNat x:=by simp only[IntKind.wrap,IntKind.bits,IntKind.signed];simp;omega
         have W:IntKind.i64.wrap (Int.ofNat y)=Int.ofNat y:=by simp only[IntKind.wrap,IntKind.bits,IntKind.signed];simp;omega
         have e3:i.bytes*y≤65536*1048576:=Cb g q;have X:¬((decide (Int.ofNat y<0) || decide ((i.bytes:Int)*Int.ofNat y>2^48) || decide (Int.ofNat x<0) || decide (Int.ofNat x>Int.ofNat y))=true):=by
          have Y:((i.bytes:Int)*Int.ofNat y)=((i.bytes*y:Nat):Int):=by simp
          rw[Y];simp only[Bn,Ao,not_or];refine⟨⟨⟨by simp,by simp;omega⟩,by simp⟩,by simp;omega⟩
         simp only[Instr.makeSlice,A,B,Sem.run_bind,Hg hu,Z3 hi,asInt,asIntOf,Sem.run_pure,Result.andThen_ok,s,W,Sem.run_ite,Ab X,run_askRoom,Lp (show H0 P elem=some i.size from by simp[H0,hi])];have Z:(Int.ofNat y).toNat=y:=rfl;have e7:(Int.ofNat x).toNat=x:=rfl;rw[Z,e7];by_cases D:y*i.size=0
         ·rw[Ag D];simp only[Sem.run_pure,Result.andThen_ok,newRow,Sem.run_bind,run_newObj];have:((Array.range (y*i.size)).map fun k=>(#[]:Array Value)[k%(#[]:Array Value).size]!)=((Array.range (y*i.size)).map fun k=>v.cells[k%v.cells.size]!):=by rw[D,po,po]
          rw[this];rfl
         ·rw[Ab D];simp only[Sem.run_bind,S,Sem.run_pure,Result.andThen_ok,newRow,run_newObj];rfl
        ·exact trivial
       ·exact trivial
      ·exact trivial
     ·exact trivial
    ·exact cm P _
 ·exact cm P _
def zl0 {P:Program}{H:Heap}{E:Tr AV}{nx:(Operand→Value)→Sem Next}
  (f:∀(C:CM) w ρ,mq C E ρ→(nx ρ).run P w=.ok (.value (.map (some w.heap.size))) (w.alloc (.map #[] 0))):qk P E H nx (S0 H):=by
 unfold S0;refine⟨_,trivial,rfl,rfl,fun B C w o g L a=>(by rw[g] at a;cases a),fun C w ρ h=>?_⟩;refine⟨_,0,0,_,f C w ρ h,fun l id hk a=>⟨.map a,fun B j L d=>?_⟩⟩;rw[a] at d;cases d;exact⟨j,#[],V3 _ _,.nil⟩
def Za (P:Program)(t:TypeId)(r:Option Operand):Mk P (nq P t r) (fun ρ=>do pure (.value (←Instr.makeMap t (r.map ρ)))):=by
 unfold nq;split
 ·intro E H;exact zl0 (fun C w ρ d=>by simp[Instr.makeMap])
 ·rename_i x;split
  ·rename_i k e hu;refine zo7 fun E H a f=>?_
   split
   ·refine zl0 (fun C w ρ d=>?_);have:=d _ _ f;generalize g:ρ x=h at this;cases this;simp[Instr.makeMap,Hg hu,g,asInt,asIntOf]
   ·exact trivial
  ·exact cm P _
def zui {P:Program}{o:Oper}(h:cls P o.op=.al):Mk P (Gw P o.op) (fun ρ=>execOp ρ o):=by
 generalize ho:o.op=op at h;cases op with
 |alloc t=>exact Mk.congr (fun ρ=>by simp only[execOp,ho]) (Xt P t)
 |box t x=>exact Mk.congr (fun ρ=>by simp[execOp,ho]) (xa P t x)
 |buildSlice t n a=>exact Mk.congr (fun ρ=>by simp[execOp,ho]) (zm1 P t n a)
 |makeMap t r=>exact Mk.congr (fun ρ=>by simp[execOp,ho]) (Za P t r)
 |makeSlice t l c=>exact Mk.congr (fun ρ=>by simp[execOp,ho]) (zvs P t l c)
 |slice t _ _ _ _=>simp only[cls] at h;split at h<;>cases h
 |convert s d x=>simp only[cls] at h;split at h<;>first|(cases h;done)|(split at h<;>cases h)
 |call c =>
  simp only[cls,y8] at h;split at h
  ·split at h
   ·split at h<;>cases h
   ·cases h
  all_goals cases h
 |_=>cases h
def CM.lift (C:CM)(n:Nat):CM:=⟨C.f,n⟩
def CM.le_lift {C:CM}{n:Nat}(h:C.nx≤n):C.le (C.lift n):=⟨fun _ _ _ h=>h,h,fun _ v L h=>.inl ⟨v,L,h⟩⟩
inductive Ups:Heap→Heap→Prop where
 |refl (H:Heap):Ups H H
 |push {H H':Heap} {ob:AObj} (hl:True) (hf:zpw ob) (h:Ups (H.push ob) H'):Ups H H'
def Ups.next {H H':Heap}(h:Ups H H'):H.next≤H'.next:=by
 induction h with
 |refl=>exact Al _
 |push _ _ _ ih=>exact Bq (Em _) ih
def Rel.up {w0:World}{C:CM}{H:Heap}{w:World}(h:Rel w0 C H w)(_:True){ob:AObj}(hf:zpw ob):Rel w0 (C.lift (H.next+1)) (H.push ob) w:=by
 have hle:C.le (C.lift (H.next+1)):=CM.le_lift (by rw[h.nx];exact Em _);refine⟨rfl,h.low,fun o v L hL=>?_,h.lt,h.excl,?_,?_⟩
 ·show o<H.next+1;have:=h.fresh o v L hL;omega
 ·intro o ob' ho hg;by_cases e:o=H.next
  ·subst e;rw[Heap.get_push_same] at hg;cases hg;exact hf _ _ _ _ (fun v=>h.next_none v)
  ·have aa:o<H.next:=by have:o<H.next+1:=ho;omega
   rw[Heap.get_push_ne _ _ aa] at hg;exact (h.obj _ _ aa hg).frame hle (fun v L hL=>hL) (fun v L hL=>rfl)
 ·intro o c len ad ro ho hg v L hL;by_cases e:o=H.next
  ·subst e;have:=h.fresh _ _ _ hL;omega
  ·have aa:o<H.next:=by have:o<H.next+1:=ho;omega
   rw[Heap.get_push_ne _ _ aa] at hg;exact h.top _ _ _ _ _ aa hg _ _ hL
def Rel.ups {w0:World}{H H':Heap}{w:World}(hu:Ups H H'):∀{C:CM},Rel w0 C H w→Rel w0 (C.lift H'.next) H' w:=by
 induction hu with
 |refl H=>intro C h;rw[←h.nx];exact h
 |push hl hf _ ih =>
  intro C h;have h1:=h.up hl hf;have h2:=ih h1;exact h2
def zpr {c c':Tr AV}{len:Nat}(h:zrf c c' len=true):∀j,j<len→Fk (F7 j) c=Fk (F7 j) c':=by
 unfold zrf at h;split at h
 ·rename_i l l' o p;obtain⟨z,q⟩:=cg o;obtain⟨A,r⟩:=cg p;have he:l=l':=by
   have:∀(x y:List AV),Uy (J7 30) x y=true→x=y:=by
    intro x
    induction x with
    |nil=>intro y a;cases y with
     |nil=>rfl
     |cons _ _=>cases a
    |cons c x s =>
     intro y a;cases y with
     |nil=>cases a
     |cons d y =>
      simp only[Uy] at a;split at a
      ·rename_i w;rw[eqAV_spec 30 c d w,s y a]
      ·cases a
   exact this _ _ h
  intro j f;have g:=q j f;have m:=r j f;rw[Be] at g m;rw[g,m,he]
 ·cases h
def Iy.eqObj {B:Nat}{C:CM}{w:World}{o:Nat}{a b:AObj}(h:Sv.eqObj a b=true)(k:Iy B C w o b):Iy B C w o a:=by
 unfold Sv.eqObj at h;split at h
 ·rename_i c len ag ro c' ad af aa;simp only[Ac] at h;obtain⟨⟨⟨h1,h2⟩,h3⟩,h4⟩:=h;obtain rfl:=Am h1;obtain rfl:=Am h2;obtain rfl:ro=aa:=by simpa using h3
  intro L hL;obtain⟨p1,p2,p3,vs,e,lo,hi,p4,p5,p6,p7⟩:=k L hL;exact⟨p1,p2,p3,vs,e,lo,hi,p4,p5,p6,fun i hi=>by rw[zpr h4 i hi];exact p7 i hi⟩
 ·obtain rfl:=Am h;exact k
 ·cases h
def zlc {α:Type}{b:Bool}{x y:α}(a:b=true→x=y)(h:Rp b x y=true):x=y:=by
 unfold Rp at h;split at h
 ·exact a rfl
 ·exact @Dc _ (Classical.propDecidable _) h
def Ze {α:Type}{b:Bool}{x y:α}(h:Rp b x y=true):b=true∨x=y:=by
 unfold Rp at h;split at h
 ·exact .inl rfl
 ·exact .inr (@Dc _ (Classical.propDecidable _) h)
def Iy.same {B:Nat}{C:CM}{w:World}{o:Nat}{a b:AObj}(h:Rp (Sv.eqObj a b) a b=true)(k:Iy B C w o b):Iy B C w o a:=by
 rcases Ze h with h|h
 ·exact k.eqObj h
 ·rw[h];exact k
def Rel.bind {w0:World}{C:CM}{H:Heap}{w:World}(h:Rel w0 C H w){id n sz:Nat}(aj:id<H.next)(hn:∀v,C id v=none){ob:AObj}(hg:H.get id=some ob)(af:Obj)
  (ah:Iy w0.heap.size (C.ext id 0 ⟨w.heap.size,0,n,sz⟩) (w.alloc af) id ob):Rel w0 (C.ext id 0 ⟨w.heap.size,0,n,sz⟩) H (w.alloc af)∧C.keep (C.ext id 0 ⟨w.heap.size,0,n,sz⟩):=by
 have hk:C.keep (C.ext id 0 ⟨w.heap.size,0,n,sz⟩):=fun o' v' L' h'=>by
  by_cases e:o'=id∧v'=0
  ·obtain⟨rfl,rfl⟩:=e;rw[hn] at h';cases h'
  ·rw[CM.ext_ne C _ e];exact h'
 refine⟨⟨by show max C.nx (id+1)=H.next;rw[h.nx];omega,h.low.alloc h.low.size af,?_,?_,?_,?_,?_⟩,hk⟩
 ·intro o v L hL;by_cases e:o=id∧v=0
  ·omega
  ·rw[CM.ext_ne _ _ e] at hL;exact h.fresh _ _ _ hL
 ·intro o v L hL;rw[World.size_alloc];by_cases e:o=id∧v=0
  ·obtain⟨rfl,rfl⟩:=e;rw[CM.ext_same] at hL;cases hL;exact Bx _
  ·rw[CM.ext_ne _ _ e] at hL;have:=h.lt _ _ _ hL;omega
 ·intro o v L o' v' L' hL aa hb hB;by_cases e:o=id∧v=0<;>by_cases e':o'=id∧v'=0
  ·omega
  ·obtain⟨rfl,rfl⟩:=e;rw[CM.ext_same] at hL;cases hL;rw[CM.ext_ne _ _ e'] at aa;have:=h.lt _ _ _ aa;dsimp at hb;omega
  ·obtain⟨rfl,rfl⟩:=e';rw[CM.ext_same] at aa;cases aa;rw[CM.ext_ne _ _ e] at hL;have:=h.lt _ _ _ hL;dsimp at hb;omega
  ·rw[CM.ext_ne _ _ e] at hL;rw[CM.ext_ne _ _ e'] at aa;exact h.excl _ _ _ _ _ _ hL aa hb hB
 ·intro o ob' ho ad;by_cases e:o=id
  ·subst e;rw[hg] at ad;cases ad;exact ah
  ·have ag:=h.obj _ _ ho ad;refine ag.frame' hk (fun v L hL=>?_) (fun v L hL=>z7c _ _ (h.lt _ _ _ hL))
   rwa [CM.ext_ne _ _ (by omega)] at hL
 ·intro o c len ao ro ho ad v L hL;by_cases e:o=id∧v=0
  ·omega
  ·rw[CM.ext_ne _ _ e] at hL;exact h.top _ _ _ _ _ ho ad _ _ hL
end Go.Sv
namespace Go.Sv
section wx
variable {P : Program} {n : Nat} {ops : Array Oper} {k : J2} {L : List DOp} {E0 Ef : Tr AV}
def Rc (L:List DOp)(S:Nat→Prop)(t:Nat):Prop:=∃y∈L,S y.i∧y.o.dst=some t
open Classical in
noncomputable def bg (L:List DOp)(E0 Ef:Tr AV)(S:Nat→Prop)(t:Nat):Option AV:=if Rc L S t then Fk (F7 t) Ef else Fk (F7 t) E0
def Hy (m:Nat)(j:Nat):Prop:=m.testBit j=true
def U1 (L:List DOp)(E0 Ef:Tr AV)(S:Nat→Prop)(E:Tr AV):Prop:=∀t,t≤I6→Fk (F7 t) E=bg L E0 Ef S t
def Qo (ops:Array Oper)(L:List DOp)(E0 Ef:Tr AV)(x:DOp)(E:Tr AV):Prop:=∀t∈N6 ops x.o,t≤I6→Fk (F7 t) E=bg L E0 Ef (Hy x.m) t
def K5 (P:Program)(n:Nat)(ops:Array Oper)(k:J2)(L:List DOp)(E0 Ef:Tr AV)(x:DOp)(H H':Heap):Prop :=
 ∀E,Qo ops L E0 Ef x E→∃v,(Js P n ops x.o).run k E H=.ok (H9 x.o.dst v E) H'∧∀d,x.o.dst=some d→Fk (F7 d) Ef=some v∧d<n
def DC (L:List DOp)(S:Nat→Prop):Prop:=∀y∈L,S y.i→∀j,Hy y.m j→S j
structure Fit (P:Program) (ops:Array Oper) (L:List DOp):Prop where
 ok:LOk P ops L
 dst:∀x∈L,∀y∈L,∀d,x.o.dst=some d→y.o.dst=some d→x=y
 look:∀x∈L,∀y∈L,zu4 x y=true
def zs2 {x y:DOp}(h:zu4 x y=true){d:Nat}(hd:y.o.dst=some d)(a:x.lm.testBit d=true) :
  (x.i=y.i∧Nz x=false)∨(x.i≠y.i∧(Hy x.m y.i∨(Hy y.m x.i∧Nz x=false))):=by
 unfold zu4 at h;rw[hd] at h;dsimp only at h;rw[a] at h;dsimp only at h;split at h
 ·rename_i e;exact .inl ⟨Am e,by simpa using h⟩
 ·rename_i e;refine .inr ⟨fun q=>?_,?_⟩
  ·rw[q,Bj] at e;cases e
  ·split at h
   ·rename_i q;exact .inl q
   ·split at h
    ·rename_i q;exact .inr ⟨q,by simpa using h⟩
    ·cases h
def Zy (F:Fit P ops L){S:Nat→Prop}(m:DC L S){x:DOp}(l:x∈L)(hm:∀j,Hy x.m j→S j)(a:¬S x.i∨Nz x=true){E:Tr AV}(o:U1 L E0 Ef S E):Qo ops L E0 Ef x E:=by
 intro t p r;rw[o t r];unfold bg;have:Rc L S t↔Rc L (Hy x.m) t:=by
  constructor
  ·rintro⟨y,d,g,hd⟩;refine⟨y,d,?_,hd⟩;rcases zs2 (F.look x l y d) hd (F.ok.lm x l t p) with ⟨e,f⟩|⟨_,h|⟨h,f⟩⟩
   ·rcases a with a|a
    ·rw[e] at a;exact absurd g a
    ·rw[a] at f;cases f
   ·exact h
   ·rcases a with a|a
    ·exact absurd (m y d g _ h) a
    ·rw[a] at f;cases f
  ·rintro⟨y,d,g,hd⟩;exact⟨y,d,hm _ g,hd⟩
 by_cases h:Rc L S t
 ·rw[Ag h,Ag (this.1 h)]
 ·rw[Ab h,Ab (fun q=>h (this.2 q))]
def Qo.same {x:DOp}{E E':Tr AV}(h:Qo ops L E0 Ef x E)(h':Qo ops L E0 Ef x E'):Kw (N6 ops x.o) E' E:=fun t ht hl=>by rw[h t ht hl,h' t ht hl]
def bj (d:Tmp)(v:AV)(E:Tr AV):Fk (F7 d) (H9 (some d) v E)=some v:=zbu _ _ _
def zae {x:DOp}{E E1:Tr AV}{H H1:Heap}(h:(Js P n ops x.o).run k E H=.ok E1 H1)(g:Qo ops L E0 Ef x E)
  (j:∀d,x.o.dst=some d→d<n→Fk (F7 d) Ef=Fk (F7 d) E1):K5 P n ops k L E0 Ef x H H1:=by
 obtain⟨v,l,f,m⟩:=z61 h;intro o a;refine⟨v,m o (g.same a),fun d hd=>⟨?_,f d hd⟩⟩;rw[j d hd (f d hd),l,hd,bj]
def U1.put (F:Fit P ops L)(_hn:n≤I6){S:Nat→Prop}{E:Tr AV}(h:U1 L E0 Ef S E){x:DOp}(hx:x∈L){v:AV}(hv:∀d,x.o.dst=some d→Fk (F7 d) Ef=some v∧d<n) :
  U1 L E0 Ef (fun j=>S j∨j=x.i) (H9 x.o.dst v E):=by
 intro t ht;have key:Rc L (fun j=>S j∨j=x.i) t↔(Rc L S t∨x.o.dst=some t):=by
  constructor
  ·rintro⟨y,hy,hs|hs,hd⟩
   ·exact .inl ⟨y,hy,hs,hd⟩
   ·rw[F.ok.inj y hy x hx hs] at hd;exact .inr hd
  ·rintro (⟨y,hy,hs,hd⟩|hd)
   ·exact⟨y,hy,.inl hs,hd⟩
   ·exact⟨x,hx,.inr rfl,hd⟩
 unfold bg;cases hd:x.o.dst with
 |none =>
  rw[hd] at key;have:Rc L (fun j=>S j∨j=x.i) t↔Rc L S t:=by rw[key];simp
  rw[show H9 none v E=E from rfl,h t ht];unfold bg;by_cases q:Rc L S t
  ·rw[Ag q,Ag (this.2 q)]
  ·rw[Ab q,Ab (fun z=>q (this.1 z))]
 |some d =>
  rw[hd] at key;obtain⟨aa,ad⟩:=hv d hd;rw[show H9 (some d) v E=Hs v (F7 d) E from rfl,zhs];by_cases e:t=d
  ·subst e;rw[Ag rfl,Ag (key.2 (.inr rfl)),aa]
  ·rw[Ab e,h t ht];unfold bg;have:Rc L (fun j=>S j∨j=x.i) t↔Rc L S t:=by
    rw[key];constructor
    ·rintro (q|q)
     ·exact q
     ·exact absurd (Option.some.inj q).symm e
    ·exact .inl
   by_cases q:Rc L S t
   ·rw[Ag q,Ag (this.2 q)]
   ·rw[Ab q,Ab (fun z=>q (this.1 z))]
def zey {r:OE}{f:Tr AV→Heap→OE}{a:Tr AV}{H':Heap}(h:(OE.rec .no f r:OE)=.ok a H'):∃E1 H1,r=.ok E1 H1∧f E1 H1=.ok a H':=by
 cases r with
 |no=>cases h
 |ok E1 H1=>exact⟨E1,H1,rfl,h⟩
def za0 {b:Bool}{r:OE}{a:Tr AV}{H':Heap}(h:(Bool.rec .no r b:OE)=.ok a H'):b=true∧r=.ok a H':=by
 cases b with
 |false=>cases h
 |true=>exact⟨rfl,h⟩
def zka {x:DOp}{l pend:List DOp}{E j:Tr AV}{H H':Heap}(h:(Ob P n ops (x::l) pend).run k E H=.ok j H') :
  ∃E1 H1 pend',(Js P n ops x.o).run k E H=.ok E1 H1∧(Ob P n ops l pend').run k E1 H1=.ok j H' ∧
   ((x.c=.quiet∧pend'=pend)∨(x.c=.rd∧pend'=x::pend)∨(x.c=.al∧pend'=x::pend∧(gw P ops (x::pend)).run E1 H1=true) ∨
    (x.c=.ch∧pend'=Gr (fun y=>!(Nat.testBit x.m y.i)) pend∧(gw P ops pend').run E1 H1=true)):=by
 simp only[Ob] at h;split at h
 ·rename_i d;obtain⟨E1,H1,f,a⟩:=zey h;exact⟨E1,H1,pend,f,a,.inl ⟨d,rfl⟩⟩
 ·rename_i d;obtain⟨E1,H1,f,a⟩:=zey h;exact⟨E1,H1,x::pend,f,a,.inr (.inl ⟨d,rfl⟩)⟩
 ·rename_i d;obtain⟨E1,H1,f,a⟩:=zey h;obtain⟨g,a⟩:=za0 a;exact⟨E1,H1,x::pend,f,a,.inr (.inr (.inl ⟨d,rfl,g⟩))⟩
 ·rename_i d;obtain⟨E1,H1,f,a⟩:=zey h;obtain⟨g,a⟩:=za0 a;exact⟨E1,H1,_,f,a,.inr (.inr (.inr ⟨d,rfl,g⟩))⟩
def zgs (g:n≤I6){d:Nat}(hd:d≤I6):∀{l pend:List DOp} {E a:Tr AV} {H H':Heap},(Ob P n ops l pend).run k E H=.ok a H'→(∀y∈l,y.o.dst≠some d)→Fk (F7 d) a=Fk (F7 d) E
 |[],_,_,_,_,_,h,_=>by cases h;rfl
 |x::l,pend,E,a,H,H',h,f=>by
  obtain⟨E1,H1,pend',j,m,_⟩:=zka h;rw[zgs g hd m (fun y q=>f y (by simp[q]))];obtain⟨v,o,r,_⟩:=z61 j;rw[o];cases p:x.o.dst with
  |none=>rfl
  |some e =>
   rw[show H9 (some e) v E=Hs v (F7 e) E from rfl,w9];intro q;subst q;exact f x (by simp) p
def rechecks_mem:∀{l:List DOp} {E:Tr AV} {H:Heap},(gw P ops l).run E H=true→∀x∈l,(Vm P ops x).run E H=true
 |[],_,_,_,x,a=>by cases a
 |y::l,E,H,h,x,a=>by
  simp only[gw] at h;split at h
  ·rename_i d;rcases An.1 a with rfl|a
   ·exact d
   ·exact rechecks_mem h x a
  ·cases h
def zoy (F:Fit P ops L){x:DOp}(w:x∈L)(p:x.c=.rd){E:Tr AV}{H H1:Heap}(q:Qo ops L E0 Ef x E)(y:K5 P n ops k L E0 Ef x H H)(z:∀d,x.o.dst=some d→Fk (F7 d) Ef=Fk (F7 d) E)
  (h:(Vm P ops x).run E H1=true):K5 P n ops k L E0 Ef x H1 H1:=by
 have m:R5 (Gw P x.o.op):=zcf.2 (by rw[←F.ok.cl x w];exact p);obtain⟨v,f,A⟩:=y E q;unfold Vm at h;cases hd:x.o.dst with
 |none=>rw[hd] at h;cases h
 |some d =>
  rw[hd] at h f;dsimp only at h;obtain⟨hv,o⟩:=A d hd;have B:Jv n (some d)=some ⟨fun a E=>Hs a (F7 d) E⟩:=by unfold Jv;dsimp only;rw[Ag o]
  have g:(Js P n ops x.o).run k E H1=.ok (H9 (some d) v E) H1:=by
   unfold Js at f ⊢;rw[hd,B] at f ⊢;dsimp only at f ⊢;cases r:(Lq ops x.o).run E with
   |false =>
    rw[r] at f;dsimp only at f ⊢;injection f with f
    rw[f]
   |true =>
    rw[r] at h f;dsimp only at h f ⊢;rw[←z d hd,hv] at h;dsimp only at h;have s:=m E H1;cases l:(Gw P x.o.op).run E H1 with
    |no=>rw[l] at h;cases h
    |call t args=>rw[l] at h;cases h
    |val C D =>
     rw[l,p] at h;rw[l] at s;dsimp only at h ⊢;cases s;rw[zlc (eqAV_spec _ _ _) h];rfl
  refine zae g q (fun G j _=>?_);rw[hd] at j;cases j;rw[bj,hv]
def J5 (P:Program)(n:Nat)(ops:Array Oper)(k:J2)(L:List DOp)(E0 Ef:Tr AV)(x:DOp):Prop:=∀a,K5 P n ops k L E0 Ef x a a
noncomputable def Jj (Ef:Tr AV)(x:DOp):Nat:=((x.o.dst.bind fun d=>Fk (F7 d) Ef).bind Gq).getD 0
def Xm (P:Program)(n:Nat)(ops:Array Oper)(L:List DOp)(E0 Ef:Tr AV)(x:DOp)(f:Heap):Prop :=
 ∃d g,x.o.dst=some d∧d<n∧Fk (F7 d) Ef=some g∧Gq g=some (Jj Ef x)∧∀E,Qo ops L E0 Ef x E→(Lq ops x.o).run E=true ∧
  ∃h H',(Gw P x.o.op).run E f=.val h H'∧g=Jg (Jj Ef x) h∧∃a b,f.get (Jj Ef x)=some a∧H'.get f.next=some b∧Rp (eqObj a b) a b=true
def z88 {x:DOp}{E a:Tr AV}{H:Heap}(d:Kw (N6 ops x.o) a E):(Gw P x.o.op).run a H=(Gw P x.o.op).run E H :=
 zjq (Kw.opds (fun t f=>d t (by simp[N6,f])))
def zyx {x:DOp}(p:x.c=.al){E:Tr AV}{H1:Heap}(w:Qo ops L E0 Ef x E)(y:(Lq ops x.o).run E=true){d:Nat}(hd:x.o.dst=some d)(q:d<n){j:AV}(hv:Fk (F7 d) Ef=some j)
  (A:Fk (F7 d) E=some j) (h:(Vm P ops x).run E H1=true):Xm P n ops L E0 Ef x H1:=by
 unfold Vm at h;rw[hd] at h;dsimp only at h;rw[y,A] at h;dsimp only at h;cases m:(Gw P x.o.op).run E H1 with
 |no=>rw[m] at h;cases h
 |call t args=>rw[m] at h;cases h
 |val r z =>
  rw[m,p] at h;dsimp only at h;unfold zzb at h;cases g:Gq j with
  |none=>rw[g] at h;cases h
  |some id =>
   rw[g] at h;dsimp only at h;have f:Jj Ef x=id:=by unfold Jj;rw[hd];simp[hv,g]
   cases he:Rp (J7 30 j (Jg id r)) j (Jg id r) with
   |false=>rw[he] at h;cases h
   |true =>
    rw[he] at h;dsimp only at h;cases o:H1.get id with
    |none=>rw[o] at h;cases h
    |some a =>
     cases s:z.get H1.next with
     |none=>rw[o,s] at h;cases h
     |some b =>
      rw[o,s] at h;refine⟨d,j,hd,q,hv,by rw[f,g],fun B l=>⟨by rw[oy (w.same l)];exact y,r,z,by rw[z88 (w.same l)];exact m,by rw[f];exact zlc (eqAV_spec _ _ _) he,a,b,by rw[f];exact o,s,h⟩⟩
def X1 (F:Fit P ops L){x:DOp}(B:x∈L)(g:x.c=.al){E E1:Tr AV}{H H1:Heap}(h:(Js P n ops x.o).run k E H=.ok E1 H1)(z:Qo ops L E0 Ef x E)(j:Qo ops L E0 Ef x E1)
  (A:∀d,x.o.dst=some d→d<n→Fk (F7 d) Ef=Fk (F7 d) E1) (a:(Vm P ops x).run E1 H1=true) :
  (J5 P n ops k L E0 Ef x∧H1=H)∨(∃ob,True∧H1=H.push ob∧zpw ob∧Jj Ef x=H.next∧Xm P n ops L E0 Ef x H1):=by
 have f:=zui (P:=P) (o:=x.o) (by rw[←F.ok.cl x B];exact g) E H;have I:=h;unfold Js at h;cases r:Jv n x.o.dst with
 |none=>rw[r] at h;cases h
 |some p =>
  rw[r] at h;dsimp only at h;obtain⟨l,w⟩:=zbh r;cases s:(Lq ops x.o).run E with
  |false =>
   rw[s] at h;cases h;refine .inl ⟨fun C=>?_,rfl⟩;refine zae (E1:=p.run Km E) ?_ z A;unfold Js;rw[r];dsimp only;rw[s]
  |true =>
   rw[s] at h;dsimp only at h;cases y:(Gw P x.o.op).run E H with
   |no=>rw[y] at h;cases h
   |call t args=>rw[y] at f;exact f.elim
   |val v C =>
    rw[y] at h f;cases h;obtain⟨ob,m1,rfl,D,G,_⟩:=f;cases hd:x.o.dst with
    |none =>
     unfold Vm at a;rw[hd] at a;cases a
    |some d =>
     have m:=w d hd;have q:Fk (F7 d) (p.run v E)=some v:=by rw[l,hd,bj]
     have hv:Fk (F7 d) Ef=some v:=by rw[A d hd m,q]
     refine .inr ⟨ob,m1,rfl,G,?_,zyx g j (by rw[oy (z.same j)];exact s) hd m hv q a⟩;unfold Jj;rw[hd];simp[hv,D]
def zqs (P:Program)(n:Nat)(ops:Array Oper)(k:J2)(L:List DOp)(E0 Ef:Tr AV)(x:DOp)(H:Heap):Prop :=
 (x.c=.rd∧K5 P n ops k L E0 Ef x H H)∨(x.c=.al∧(J5 P n ops k L E0 Ef x∨Xm P n ops L E0 Ef x H))
def zp3 (F:Fit P ops L){x:DOp}(o:x∈L){E:Tr AV}{H H1:Heap}(g:Qo ops L E0 Ef x E)(a:zqs P n ops k L E0 Ef x H)(j:∀d,x.o.dst=some d→Fk (F7 d) Ef=Fk (F7 d) E)
  (h:(Vm P ops x).run E H1=true):zqs P n ops k L E0 Ef x H1:=by
 rcases a with ⟨f,a⟩|⟨f,a|a⟩
 ·exact .inl ⟨f,zoy F o f g a j h⟩
 ·exact .inr ⟨f,.inl a⟩
 ·obtain⟨d,r,l,p,m,_,q⟩:=a;exact .inr ⟨f,.inr (zyx f g (q E g).1 l p m (by rw[←j d l];exact m) h)⟩
def AlPh (P:Program)(n:Nat)(ops:Array Oper)(L:List DOp)(E0 Ef:Tr AV)(ch:List DOp)(d a:Nat→Heap)(x:DOp)(r:Nat):Prop :=
 r≤ch.length∧(∀q c,q<r→ch[q]?=some c→Hy x.m c.i)∧(d r).next≤Jj Ef x∧Jj Ef x<(a r).next ∧
  ∀p,r≤p→p≤ch.length→(∀q c,r≤q→q<p→ch[q]?=some c→¬Hy c.m x.i)→Xm P n ops L E0 Ef x (a p)
def wx (F:Fit P ops L)(hn:n≤I6):∀(l pend:List DOp) (seen K s:Nat) (E:Tr AV) (H H':Heap),(Ob P n ops l pend).run k E H=.ok Ef H'→Ic l seen K=some s→(∀x∈l,x∈L) →
  (∀x∈pend,x∈L∧Nz x=true∧Hy seen x.i∧(∀d,x.o.dst=some d→d<n)∧zqs P n ops k L E0 Ef x H)→U1 L E0 Ef (Hy seen) E→DC L (Hy seen) →
  U1 L E0 Ef (Hy s) Ef∧DC L (Hy s) ∧
  ∃(Hb T:Nat→Heap) (U:Nat→Nat),Hb 0=H∧T (Gr Fy l).length=H'∧(∀p,p≤(Gr Fy l).length→Ups (Hb p) (T p)) ∧
   (∀q c,(Gr Fy l)[q]?=some c→K5 P n ops k L E0 Ef c (T q) (Hb (q+1))) ∧
   (∀x∈l,x.c=.rd→∃r,r≤(Gr Fy l).length∧(∀q c,q<r→(Gr Fy l)[q]?=some c→Hy x.m c.i)∧∀p,r≤p→p≤(Gr Fy l).length→(∀q c,r≤q→q<p→(Gr Fy l)[q]?=some c→¬Hy c.m x.i)→K5 P n ops k L E0 Ef x (T p) (T p)) ∧
   (∀x∈l,x.c=.quiet→∀H2,K5 P n ops k L E0 Ef x H2 H2) ∧
   (∀x∈l,x.c=.al→J5 P n ops k L E0 Ef x∨AlPh P n ops L E0 Ef (Gr Fy l) Hb T x (U x.i)) ∧
   (∀x∈l,∀y∈l,x.c=.al→y.c=.al→¬J5 P n ops k L E0 Ef x→¬J5 P n ops k L E0 Ef y→U x.i=U y.i→Jj Ef x=Jj Ef y→x=y) ∧
   (∀x∈pend,∀p,p≤(Gr Fy l).length→(∀q c,q<p→(Gr Fy l)[q]?=some c→¬Hy c.m x.i)→zqs P n ops k L E0 Ef x (T p))
 |[],pend,seen,K,s,E,H,H',h,ht,hl,hp,hE,hD=>by
  cases h;simp only[Ic,Option.some.injEq] at ht;subst ht;refine⟨hE,hD,fun _=>H,fun _=>H,fun _=>0,rfl,rfl,fun _ _=>.refl _,fun q c O=>(by cases O),fun x J=>(by cases J),fun x J=>(by cases J),fun x J=>(by cases J),fun x J=>(by cases J),fun x J p _ _=>(hp x J).2.2.2.2⟩
 |x::l,pend,seen,K,s,E,H,H',h,ht,hl,hp,hE,hD=>by
  obtain⟨E1,H1,pend',h1,h2,h3⟩:=zka h;obtain⟨t1,t2,t3⟩:=z9f ht;have J:x∈L:=hl x (by simp);have aD:Qo ops L E0 Ef x E:=Zy F hD J t1 (.inl (by unfold Hy;rw[t2];simp)) hE;have ax:∀y∈l,y.i≠x.i:=by
   have key:∀ay,Ic l (Nat.lor (2^x.i) seen) ay=some s→∀y∈l,y.i≠x.i:=fun ay h' y g e=>by
    have:=topo_new h' y g;rw[Vh,kt,e] at this;simp at this
   rcases t3 with ⟨_,h3⟩|⟨_,_,h3⟩|⟨_,_,h3⟩<;>exact key _ h3
  obtain⟨v,s1,s2,s3⟩:=z61 h1;have W:∀d,x.o.dst=some d→d<n→Fk (F7 d) Ef=Fk (F7 d) E1:=fun d hd aJ =>
   zgs hn (Bq (Ev aJ) hn) h2 (fun y g e=>ax y g (by rw[F.dst y (hl y (by simp[g])) x J d e hd]))
  have aa:K5 P n ops k L E0 Ef x H H1:=zae h1 aD W;have hS:(Hy (Nat.lor (2^x.i) seen))=fun j=>Hy seen j∨j=x.i:=by
   funext j
   unfold Hy;rw[Vh,kt];simp only[Bn,Ao,eq_iff_iff];constructor
   ·rintro (e|e)
    ·exact .inr e.symm
    ·exact .inl e
   ·rintro (e|e)
    ·exact .inr e
    ·exact .inl e.symm
  have Y:U1 L E0 Ef (Hy (Nat.lor (2^x.i) seen)) E1:=by
   rw[hS,s1];refine hE.put F hn J (fun d hd=>⟨?_,s2 d hd⟩);rw[W d hd (s2 d hd),s1,hd,bj]
  have Z:DC L (Hy (Nat.lor (2^x.i) seen)):=by
   rw[hS];rintro y g (hs|hs) j hj
   ·exact .inl (hD y g hs j hj)
   ·rw[F.ok.inj y g x J hs] at hj;exact .inl (t1 j hj)
  have ap:∀y∈l,y∈L:=fun y g=>hl y (by simp[g])
  have M:Hy (Nat.lor (2^x.i) seen) x.i:=by rw[hS];exact .inr rfl
  have w:∀j,Hy seen j→Hy (Nat.lor (2^x.i) seen) j:=fun j hj=>by rw[hS];exact .inl hj
  have N:∀y,y∈L→Nz y=true→Hy (Nat.lor (2^x.i) seen) y.i→Qo ops L E0 Ef y E1:=fun y a b c=>Zy F Z a (fun j hj=>Z y a c j hj) (.inr b) Y
  have az:∀y,y∈L→Hy (Nat.lor (2^x.i) seen) y.i→(∀d,y.o.dst=some d→d<n)→∀d,y.o.dst=some d→Fk (F7 d) Ef=Fk (F7 d) E1:=fun y a c hd e he=>by
   rw[Y e (Bq (Ev (hd e he)) hn)];unfold bg;rw[Ag ⟨y,a,c,he⟩]
  rcases h3 with ⟨m,rfl⟩|⟨m,rfl⟩|⟨m,rfl,aq⟩|⟨m,aF,aq⟩
  ·
   have R:Ic l (Nat.lor (2^x.i) seen) K=some s:=by
    rcases t3 with ⟨_,t3⟩|⟨e,_⟩|⟨e,_⟩
    ·exact t3
    ·rw[m] at e;rcases e with e|e<;>cases e
    ·rw[m] at e;cases e
   have O:Mh (Gw P x.o.op):=zcf.1 (by rw[←F.ok.cl x J];exact m);have hH:H1=H:=z5y O.reads h1;subst hH;have hf:Gr Fy (x::l)=Gr Fy l:=by simp only[Gr];unfold Fy;rw[m]
   obtain⟨r0,V,Hb,T,U,r1,r2,ru,r3,r4,r5,ra,ri,r6⟩:=wx F hn l pend' _ K s E1 H1 H' h2 R ap (fun y g=>let ⟨a,b,c,d⟩:=hp y g;⟨a,b,w _ c,d⟩) Y Z;rw[hf];refine⟨r0,V,Hb,T,U,r1,r2,ru,r3,fun y g f=>?_,fun y g f H2=>?_,fun y g f=>?_,fun y g z X f G=>?_,r6⟩
   ·rcases An.1 g with rfl|g
    ·rw[m] at f;cases f
    ·exact r4 y g f
   ·rcases An.1 g with rfl|g
    ·exact zae (zkw O h1 H2) aD W
    ·exact r5 y g f H2
   ·rcases An.1 g with rfl|g
    ·rw[m] at f;cases f
    ·exact ra y g f
   ·rcases An.1 g with rfl|g
    ·rw[m] at f;cases f
    ·rcases An.1 X with rfl|X
     ·rw[m] at G;cases G
     ·exact ri y g z X f G
  ·
   have R:Ic l (Nat.lor (2^x.i) seen) K=some s:=by
    rcases t3 with ⟨e,_⟩|⟨_,_,t3⟩|⟨e,_⟩
    ·rw[m] at e;cases e
    ·exact t3
    ·rw[m] at e;cases e
   have O:R5 (Gw P x.o.op):=zcf.2 (by rw[←F.ok.cl x J];exact m);have hH:H1=H:=z5y O h1;subst hH;have hf:Gr Fy (x::l)=Gr Fy l:=by simp only[Gr];unfold Fy;rw[m]
   obtain⟨r0,V,Hb,T,U,r1,r2,ru,r3,r4,r5,ra,ri,r6⟩:=wx F hn l (x::pend) _ K s E1 H1 H' h2 R ap (fun y g=>by
    rcases An.1 g with rfl|g
    ·exact⟨J,by unfold Nz;rw[m],M,s2,.inl ⟨m,aa⟩⟩
    ·obtain⟨a,b,c,d⟩:=hp y g;exact⟨a,b,w _ c,d⟩) Y Z
   rw[hf];refine⟨r0,V,Hb,T,U,r1,r2,ru,r3,fun y g f=>?_,fun y g f H2=>?_,fun y g f=>?_,fun y g z X f G=>?_,fun y g=>r6 y (by simp[g])⟩
   ·rcases An.1 g with rfl|g
    ·refine⟨0,Dh _,fun q c O=>absurd O (Ep q),fun p _ C I=>?_⟩;rcases r6 y (by simp) p C (fun q c O=>I q c (Dh q) O) with ⟨_,h⟩|⟨h,_⟩
     ·exact h
     ·rw[m] at h;cases h
    ·exact r4 y g f
   ·rcases An.1 g with rfl|g
    ·rw[m] at f;cases f
    ·exact r5 y g f H2
   ·rcases An.1 g with rfl|g
    ·rw[m] at f;cases f
    ·exact ra y g f
   ·rcases An.1 g with rfl|g
    ·rw[m] at f;cases f
    ·rcases An.1 X with rfl|X
     ·rw[m] at G;cases G
     ·exact ri y g z X f G
  ·
   have R:Ic l (Nat.lor (2^x.i) seen) K=some s:=by
    rcases t3 with ⟨e,_⟩|⟨_,_,t3⟩|⟨e,_⟩
    ·rw[m] at e;cases e
    ·exact t3
    ·rw[m] at e;cases e
   have ad:Nz x=true:=by unfold Nz;rw[m]
   have hf:Gr Fy (x::l)=Gr Fy l:=by simp only[Gr];unfold Fy;rw[m]
   have af:=X1 F J m h1 aD (N x J ad M) W (rechecks_mem aq x (by simp));have aK:zqs P n ops k L E0 Ef x H1:=by
    rcases af with ⟨h,_⟩|⟨_,_,_,_,_,h⟩
    ·exact .inr ⟨m,.inl h⟩
    ·exact .inr ⟨m,.inr h⟩
   obtain⟨r0,V,Hb,T,U,r1,r2,ru,r3,r4,r5,ra,ri,r6⟩:=wx F hn l (x::pend) _ K s E1 H1 H' h2 R ap (fun y g=>by
    rcases An.1 g with rfl|aL
    ·exact⟨J,ad,M,s2,aK⟩
    ·obtain⟨a,b,c,d,e⟩:=hp y aL;exact⟨a,b,w _ c,d,zp3 F a (N y a b (w _ c)) e (az y a (w _ c) d) (rechecks_mem aq y g)⟩) Y Z
   rw[hf];have aA:Ups H H1:=by
    rcases af with ⟨_,rfl⟩|⟨ob,q1,rfl,q3,_⟩
    ·exact .refl _
    ·exact .push q1 q3 (.refl _)
   have ar:Ups H1 (T 0):=by rw[←r1];exact ru 0 (Dh _)
   have aM:∀{A B D:Heap},Ups A B→Ups B D→Ups A D:=fun {A B D} h1=>by
    induction h1 with
    |refl=>exact id
    |push a b _ ih=>exact fun h=>.push a b (ih h)
   have S:∀y∈l,(if y.i=x.i then 0 else U y.i)=U y.i:=fun y g=>Ab (ax y g)
   refine⟨r0,V,fun p=>match p with
    |0=>H
    |p+1=>Hb (p+1),T,fun i=>if i=x.i then 0 else U i,rfl,r2,fun p C=>?_,r3,fun y g f=>?_,fun y g f H2=>?_,fun y g f=>?_,fun y g z X f G ag ah Q aj=>?_,fun y g p C I=>?_⟩
   ·cases p with
    |zero=>exact aM aA ar
    |succ p=>exact ru (p+1) C
   ·rcases An.1 g with rfl|g
    ·rw[m] at f;cases f
    ·exact r4 y g f
   ·rcases An.1 g with rfl|g
    ·rw[m] at f;cases f
    ·exact r5 y g f H2
   ·rcases An.1 g with rfl|g
    ·rcases af with ⟨h,_⟩|⟨ob,q1,q2,q3,q4,q5⟩
     ·exact .inl h
     ·refine .inr ?_;dsimp only;rw[Ag rfl];refine⟨Dh _,fun q c O=>absurd O (Ep q),Dm q4.symm,?_,fun p _ C I=>?_⟩
      ·have:=ar.next;rw[q2] at this;rw[q4];exact Bh (Bx _) this
      ·rcases r6 y (by simp) p C (fun q c O=>I q c (Dh q) O) with ⟨h,_⟩|⟨_,h|h⟩
       ·rw[m] at h;cases h
       ·obtain⟨d,v0,g1,g2,g3,g4,g5⟩:=q5;exfalso;obtain⟨w1,w2,_⟩:=h H1 E1 (N y J ad M);obtain⟨g6,_⟩:=g5 E1 (N y J ad M);have aG:=zui (P:=P) (o:=y.o) (by rw[←F.ok.cl y J];exact m) E1 H1;obtain⟨_,v',aQ,g7,_⟩:=g5 E1 (N y J ad M);rw[g7] at aG;obtain⟨ob',m1,m2,_⟩:=aG;unfold Js at w2;have C:Jv n y.o.dst=some ⟨fun a E=>Hs a (F7 d) E⟩:=by rw[g1];unfold Jv;dsimp only;rw[Ag g2]
        rw[C] at w2;dsimp only at w2;rw[g6,g7] at w2;dsimp only at w2;injection w2 with _ w2
        rw[m2] at w2;have:=congrArg Heap.next w2;simp[Heap.push] at this
       ·exact h
    ·dsimp only;rw[S y g];refine (ra y g f).imp id fun ⟨a1,a2,a3,a4,a5⟩=>⟨a1,a2,?_,a4,a5⟩
     generalize U y.i=r at a3;cases r with
     |zero =>
      rw[r1] at a3;exact Bq aA.next a3
     |succ r=>exact a3
   ·dsimp only at Q;have aB:∀u∈l,u.c=.al→¬J5 P n ops k L E0 Ef u→U u.i=0→∀ob,H1=H.push ob→Jj Ef u=H.next→False:=fun u hu aN aO ar ob he aH=>by
     rcases ra u hu aN with h|⟨_,_,a3,_⟩
     ·exact aO h
     ·rw[ar,r1,he,aH] at a3;exact absurd a3 (Nat.not_succ_le_self _)
    rcases An.1 g with ey|aw
    ·rcases An.1 X with ez|ao
     ·rw[ey,ez]
     ·subst ey;rw[Ag rfl,S z ao] at Q;rcases af with ⟨h,_⟩|⟨ob,q1,q2,q3,q4,q5⟩
      ·exact absurd h ag
      ·exact (aB z ao G ah Q.symm ob q2 (by rw[←aj,q4])).elim
    ·rcases An.1 X with ez|ao
     ·subst ez;rw[Ag rfl,S y aw] at Q;rcases af with ⟨h,_⟩|⟨ob,q1,q2,q3,q4,q5⟩
      ·exact absurd h ah
      ·exact (aB y aw f ag Q ob q2 (by rw[aj,q4])).elim
     ·rw[S y aw,S z ao] at Q;exact ri y aw z ao f G ag ah Q aj
   ·exact r6 y (by simp[g]) p C I
  ·
   obtain⟨tc,R⟩:(∀j,K.testBit j=true→x.m.testBit j=true)∧Ic l (Nat.lor (2^x.i) seen) (Nat.lor (2^x.i) K)=some s:=by
    rcases t3 with ⟨e,_⟩|⟨e,_⟩|⟨_,t3⟩
    ·rw[m] at e;cases e
    ·rw[m] at e;rcases e with e|e<;>cases e
    ·exact t3
   have hf:Gr Fy (x::l)=x::Gr Fy l:=by simp only[Gr];unfold Fy;rw[m]
   have aP:∀y∈pend',y∈pend∧¬Hy x.m y.i:=fun y g=>by
    rw[aF] at g;obtain⟨a,b⟩:=Vc.1 g;exact⟨a,by unfold Hy;simpa using b⟩
   obtain⟨r0,V,Hb,T,U,r1,r2,ru,r3,r4,r5,ra,ri,r6⟩:=wx F hn l pend' _ _ s E1 H1 H' h2 R ap (fun y g=>by
    obtain⟨a,b,c,d,e⟩:=hp y (aP y g).1;exact⟨a,b,w _ c,d,zp3 F a (N y a b (w _ c)) e (az y a (w _ c) d) (rechecks_mem aq y g)⟩) Y Z
   rw[hf];have aC:∀y∈l,y.c≠.quiet→∀r,(∀q c,q<r→(Gr Fy l)[q]?=some c→Hy y.m c.i)→∀q c,q<r+1→(x::Gr Fy l)[q]?=some c→Hy y.m c.i:=fun y g f r u1 q c O aE=>by
    cases q with
    |zero =>
     simp only[A6,Option.some.injEq] at aE;subst aE;refine topo_chs R y g f _ ?_;rw[Vh,kt];simp
    |succ q=>exact u1 q c (by omega) (by simpa using aE)
   refine⟨r0,V,fun q=>match q with
    |0=>H
    |q+1=>Hb q,fun q=>match q with
    |0=>H
    |q+1=>T q,fun i=>U i+1,rfl,r2,fun p C=>?_,fun q c O=>?_,fun y g f=>?_,fun y g f H2=>?_,fun y g f=>?_,fun y g z X f G ag ah Q aj=>?_,fun y g p C I=>?_⟩
   ·cases p with
    |zero=>exact .refl _
    |succ p=>simp only[Ar] at C;exact ru p (by omega)
   ·cases q with
    |zero =>
     simp only[A6,Option.some.injEq] at O;subst O;dsimp only;rw[r1];exact aa
    |succ q=>exact r3 q c (by simpa using O)
   ·rcases An.1 g with rfl|g
    ·rw[m] at f;cases f
    ·obtain⟨r,u0,u1,u2⟩:=r4 y g f;refine⟨r+1,by simp only[Ar];omega,aC y g (by rw[f];exact fun e=>by cases e) r u1,fun p hr C I=>?_⟩;cases p with
     |zero=>omega
     |succ p =>
      simp only[Ar] at C;exact u2 p (by omega) (by omega) (fun q c h5 h6 h7=>I (q+1) c (by omega) (by omega) (by simpa using h7))
   ·rcases An.1 g with rfl|g
    ·rw[m] at f;cases f
    ·exact r5 y g f H2
   ·rcases An.1 g with rfl|g
    ·rw[m] at f;cases f
    ·refine (ra y g f).imp id fun ⟨a1,a2,a3,a4,a5⟩=>⟨by simp only[Ar];show U y.i+1≤_;omega,aC y g (by rw[f];exact fun e=>by cases e) _ a2,a3,a4,fun p hr C I=>?_⟩
     dsimp only at hr I;cases p with
     |zero=>omega
     |succ p =>
      simp only[Ar] at C;exact a5 p (by omega) (by omega) (fun q c h5 h6 h7=>I (q+1) c (by omega) (by omega) (by simpa using h7))
   ·rcases An.1 g with rfl|g
    ·rw[m] at f;cases f
    ·rcases An.1 X with rfl|X
     ·rw[m] at G;cases G
     ·exact ri y g z X f G ag ah (Nat.succ.inj Q) aj
   ·cases p with
    |zero=>exact (hp y g).2.2.2.2
    |succ p =>
     simp only[Ar] at C;have h0:=I 0 x (by omega) (by simp);refine r6 y ?_ p (by omega) (fun q c h6 h7=>I (q+1) c (by omega) (by simpa using h7));rw[aF];refine Vc.2 ⟨g,?_⟩;unfold Hy at h0;simpa using h0
def chain_order:∀{l:List DOp} {seen g s:Nat},Ic l seen g=some s→∀(q a:Nat) (c c':DOp),q<a→(Gr Fy l)[q]?=some c→(Gr Fy l)[a]?=some c'→Hy c'.m c.i
 |[],_,_,_,_,q,a,c,c',_,h,_=>by simp[Gr] at h
 |x::l,seen,g,s,p,q,a,c,c',j,h,d=>by
  obtain⟨_,_,t3⟩:=z9f p;rcases t3 with ⟨f,t⟩|⟨f,_,t⟩|⟨f,_,t⟩
  ·have m:Gr Fy (x::l)=Gr Fy l:=by simp only[Gr];unfold Fy;rw[f]
   rw[m] at h d;exact chain_order t q a c c' j h d
  ·have m:Gr Fy (x::l)=Gr Fy l:=by simp only[Gr];unfold Fy;rcases f with f|f<;>rw[f]
   rw[m] at h d;exact chain_order t q a c c' j h d
  ·have m:Gr Fy (x::l)=x::Gr Fy l:=by simp only[Gr];unfold Fy;rw[f]
   rw[m] at h d;cases a with
   |zero=>omega
   |succ a =>
    simp only[Av] at d;cases q with
    |zero =>
     simp only[A6,Option.some.injEq] at h;subst h;obtain⟨hm,o⟩:=Vc.1 (Cp.2 ⟨_,d⟩);refine topo_chs t c' hm (by rw[zev.1 o];exact fun e=>by cases e) _ ?_;rw[Vh,kt];simp
    |succ q=>exact chain_order t q a c c' (by omega) (by simpa using h) d
end wx
end Go.Sv
namespace Go.Sv
section Yt
variable {P : Program} {n : Nat} {ops : Array Oper} {k : J2} {L : List DOp} {E0 Ef : Tr AV}
def zlr {S:Nat→Prop}:∀{l:List DOp} {seen f s:Nat},Ic l seen f=some s→(∀j,Hy seen j→S j)→(∀x∈l,S x.i)∨∃x∈l,¬S x.i∧∀j,Hy x.m j→S j
 |[],_,_,_,_,_=>.inl fun x g=>by cases g
 |x::l,seen,f,s,h,o=>by
  obtain⟨t1,t2,t3⟩:=z9f h;by_cases g:S x.i
  ·have key:∀a,Ic l (Nat.lor (2^x.i) seen) a=some s→(∀y∈x::l,S y.i)∨∃y∈x::l,¬S y.i∧∀j,Hy y.m j→S j:=fun a p=>by
    rcases zlr p (S:=S) (fun j d=>by
     unfold Hy at d;rw[Vh,kt] at d;simp only[Bn,Ao] at d;rcases d with rfl|d
     ·exact g
     ·exact o j d) with q|⟨y,m,q⟩
    ·exact .inl fun y m=>by
      rcases An.1 m with rfl|m
      ·exact g
      ·exact q y m
    ·exact .inr ⟨y,by simp[m],q⟩
   rcases t3 with ⟨_,t3⟩|⟨_,_,t3⟩|⟨_,_,t3⟩<;>exact key _ t3
  ·exact .inr ⟨x,by simp,g,fun j d=>o j (t1 j d)⟩
def Hm (listed:Array Bool)(i:Nat):Prop:=listed.getD i false=true
def Yh {listed:Array Bool}{i:Nat}(hi:i<listed.size)(j:Nat):Hm (listed.setIfInBounds i true) j↔(Hm listed j∨j=i):=by
 unfold Hm;rw[Bk,Array.getElem?_setIfInBounds,Bk];by_cases e:i=j
 ·subst e;simp[hi]
 ·have:¬j=i:=fun q=>e q.symm
  simp[e,this]
def zpa {listed:Array Bool}{i:Nat}(j:listed.size=ops.size):i∈Region.ready .any ops listed↔i<ops.size∧¬Hm listed i∧∃o,ops[i]?=some o∧∀e∈o.after.toList,Region.binds .any e=true→Hm listed e.on:=by
 unfold Region.ready Hm;simp only[List.mem_filter,Cr,Ac,Bu];constructor
 ·rintro⟨a,d,f⟩;refine⟨a,?_,?_⟩
  ·rw[Bk,Cg (by omega)] at d ⊢;simpa using d
  ·rw[Cg a] at f;simp only[Cl,Cc] at f;refine⟨ops[i],Cg a,fun e he g=>?_⟩;have:=Array.all_eq_true_iff_forall_mem.1 f e (by simpa using he);rw[g] at this;simpa using this
 ·rintro⟨a,d,o,f,h⟩;refine⟨a,?_,?_⟩
  ·rw[Bk,Cg (by omega)] at d ⊢;simpa using d
  ·rw[f];simp only[Cl,Cc];refine Array.all_eq_true_iff_forall_mem.2 fun e he=>?_
   cases g:Region.binds .any e with
   |false=>rfl
   |true=>simpa using h e (by simpa using he) g
def zxa {C a:CM}(h:C.le a){o:Nat}(f:∀v,C o v=none)(ho:o<C.nx)(v:Nat):a o v=none:=by
 cases e:a o v with
 |none=>rfl
 |some L =>
  rcases h.new _ _ _ e with ⟨g,j,d⟩|d
  ·rw[f] at d;cases d
  ·omega
structure Pends (P:Program) (n:Nat) (ops:Array Oper) (k:J2) (L:List DOp) (E0 Ef:Tr AV) (ord:List DOp) (ph:Nat→Nat) (C0 C:CM) (Hp:Heap) (D:Nat→Prop) (p:Nat):Prop where
 known:∀x∈ord,x.c=.al→¬J5 P n ops k L E0 Ef x→ph x.i≤p→C0.nx≤Jj Ef x∧Jj Ef x<Hp.next
 inj:∀x∈ord,∀y∈ord,x.c=.al→y.c=.al→¬J5 P n ops k L E0 Ef x→¬J5 P n ops k L E0 Ef y→ph x.i≤p→ph y.i≤p→Jj Ef x=Jj Ef y→x=y
 pend:∀x∈ord,x.c=.al→¬J5 P n ops k L E0 Ef x→ph x.i≤p→¬D x.i→∀v,C (Jj Ef x) v=none
def eo (F:Fit P ops L){x:DOp}(M:x∈L)(j:x.c=.al)(ho:ops[x.i]?=some x.o){z:World}{C:CM}{H:Heap}{w:World}{E:Tr AV}{a:Act}(A:Rel z C H w)(B:ER n C E a.tmps)
  (l:Qo ops L E0 Ef x E) (m:Xm P n ops L E0 Ef x H) (p:Jj Ef x<H.next) (D:∀v,C (Jj Ef x) v=none) (b:Frame) (rest:List Nat) (G:List Item) (cs:List Frame) :
  ∃(q:Loc) (w':World) (h:Value) (v:AV),Rel z (C.ext (Jj Ef x) 0 q) H w'∧C.keep (C.ext (Jj Ef x) 0 q)∧VR (C.ext (Jj Ef x) 0 q) v h∧(∀d,x.o.dst=some d→Fk (F7 d) Ef=some v∧d<n) ∧
   Steps P (lone (b.atR a (.inRegion ops (x.i::rest)::G)) cs w) (lone (b.atR (a.put x.o.dst h) (.inRegion ops rest::G)) cs w'):=by
 obtain⟨d,N,g1,g2,g3,g4,g5⟩:=m;obtain⟨O,I,H',J,Q,oa,ob',R,K,S⟩:=g5 E l;have f:=zui (P:=P) (o:=x.o) (by rw[←F.ok.cl x M];exact j) E H;rw[J] at f;obtain⟨ob,m1,rfl,m3,m4,T⟩:=f;rw[Heap.get_push_same] at K;cases K;obtain⟨r,U,sz,h,V,W⟩:=T C w a.eval (xg B);have hk:C.keep (C.ext (Jj Ef x) 0 ⟨w.heap.size,0,U,sz⟩):=fun X I L' s=>by
  by_cases e:X=Jj Ef x∧I=0
  ·obtain⟨rfl,rfl⟩:=e;rw[D] at s;cases s
  ·rw[CM.ext_ne C _ e];exact s
 obtain⟨Y,Z⟩:=W _ (Jj Ef x) hk (CM.ext_same _ _ _ _);obtain⟨q5,_⟩:=A.bind p D R r ((Z _ A.low.size).same S);have hw:Region.wanted x.o (yielded ops a.tmps)=true:=by rw[←zhz B ops x.o];exact O
 have y:=zi6 (P:=P) (o:=x.o) (E:=E) (H:=H) (by rw[J];intro e;cases e);refine⟨_,_,h,N,q5,hk,by rw[Q];exact Y,fun d' g=>?_,.one (zut ho hw y V)⟩;rw[g1] at g;cases g;exact⟨g3,g2⟩
def Yt (hk:bm P k)(F:Fit P ops L)(hn:n≤I6){ord:List DOp}{s:Nat}(ax:Ic ord 0 0=some s)(K:∀x∈ord,x∈L)(aC:∀i,i<ops.size→Hy s i)(aS:U1 L E0 Ef (Hy s) Ef)
  {Hb I:Nat→Heap} {ph:Nat→Nat} (hU:∀p,p≤(Gr Fy ord).length→Ups (Hb p) (I p))
  (hA:∀q c,(Gr Fy ord)[q]?=some c→K5 P n ops k L E0 Ef c (I q) (Hb (q+1)))
  (hB:∀x∈ord,x.c=.rd→∃r,r≤(Gr Fy ord).length∧(∀q c,q<r→(Gr Fy ord)[q]?=some c→Hy x.m c.i)∧∀p,r≤p→p≤(Gr Fy ord).length→(∀q c,r≤q→q<p→(Gr Fy ord)[q]?=some c→¬Hy c.m x.i)→K5 P n ops k L E0 Ef x (I p) (I p))
  (aT:∀x∈ord,x.c=.quiet→∀H2,K5 P n ops k L E0 Ef x H2 H2)
  (hL:∀x∈ord,x.c=.al→J5 P n ops k L E0 Ef x∨AlPh P n ops L E0 Ef (Gr Fy ord) Hb I x (ph x.i))
  (hI:∀x∈ord,∀y∈ord,x.c=.al→y.c=.al→¬J5 P n ops k L E0 Ef x→¬J5 P n ops k L E0 Ef y→ph x.i=ph y.i→Jj Ef x=Jj Ef y→x=y)
  {w0:World} {C0:CM} (b:Frame) (Z:List Item) (cs:List Frame) :
  ∀(f t:Nat) (listed:Array Bool) (T:List Nat) (p:Nat) (C:CM) (w:World) (a:Act) (E:Tr AV),listed.size=ops.size→T.length≤f→(∀i,i<ops.size→¬Hm listed i→i∈T) →
   U1 L E0 Ef (Hm listed) E→DC L (Hm listed)→Rel w0 C (I p) w→ER n C E a.tmps→(∀q c,(Gr Fy ord)[q]?=some c→(Hm listed c.i↔q<p))→p≤(Gr Fy ord).length →
   C0.le C→Pends P n ops k L E0 Ef ord ph C0 C (I p) (Hm listed) p →
   ∃C' w' a',C0.le C'∧Rel w0 C' (I (Gr Fy ord).length) w'∧ER n C' Ef a'.tmps∧a'.defers=a.defers ∧
    Steps P (lone (b.atR a (.inRegion ops (Region.linearise.go .any ops f t listed [])::Z)) cs w) (lone (b.atR a' (.inRegion ops []::Z)) cs w'):=by
 have aI:∀x∈L,x∈ord:=fun x O=>by
  rcases (topo_seen ax x.i).1 (aC x.i (F.ok.op x O).2) with h|⟨y,A,e⟩
  ·simp at h
  ·rwa [←F.ok.inj y (K y A) x O e]
 have aD:∀(listed:Array Bool) (p:Nat) (C:CM) (w:World) (a:Act) (E:Tr AV),(∀i,i<ops.size→Hm listed i)→U1 L E0 Ef (Hm listed) E→Rel w0 C (I p) w→ER n C E a.tmps →
   (∀q c,(Gr Fy ord)[q]?=some c→(Hm listed c.i↔q<p))→p≤(Gr Fy ord).length→C0.le C →
   ∃C' w' a',C0.le C'∧Rel w0 C' (I (Gr Fy ord).length) w'∧ER n C' Ef a'.tmps∧a'.defers=a.defers ∧
    Steps P (lone (b.atR a (.inRegion ops []::Z)) cs w) (lone (b.atR a' (.inRegion ops []::Z)) cs w'):=by
  intro listed p C w a E hd hE hR B D hp G;have Q:p=(Gr Fy ord).length:=by
   rcases C7 p (Gr Fy ord).length with h|h
   ·have hm:=D4 h;have:=(D p _ (Ai h)).1 (hd _ (F.ok.op _ (K _ (Vc.1 hm).1)).2);omega
   ·omega
  subst Q;refine⟨C,w,a,G,hR,⟨B.1,B.2.1,fun t ht=>?_⟩,rfl,.refl _ _⟩;have e:Fk (F7 t) Ef=Fk (F7 t) E:=by
   rw[hE t ht,aS t ht];unfold bg;have:Rc L (Hy s) t↔Rc L (Hm listed) t:=by
    constructor
    ·rintro⟨y,A,_,h⟩;exact⟨y,A,hd _ (F.ok.op y A).2,h⟩
    ·rintro⟨y,A,_,h⟩;exact⟨y,A,aC _ (F.ok.op y A).2,h⟩
   by_cases q:Rc L (Hy s) t
   ·rw[Ag q,Ag (this.1 q)]
   ·rw[Ab q,Ab (fun z=>q (this.2 z))]
  rw[e];exact B.2.2 t ht
 intro f
 induction f with
 |zero =>
  intro t listed T p C w a E hs hT ay hE hD hR B D hp G m;have hd:∀i,i<ops.size→Hm listed i:=fun i hi=>by
   by_cases h:Hm listed i
   ·exact h
   ·have:=ay i hi h;have aU:T=[]:=Ay (by omega);rw[aU] at this;cases this
  exact aD listed p C w a E hd hE hR B D hp G
 |succ f ih =>
  intro t listed T p C w a E hs hT ay hE hD hR B D hp G m;simp only[Region.linearise.go];change ∃C' w' a',C0.le C'∧Rel w0 C' (I (Gr Fy ord).length) w'∧ER n C' Ef a'.tmps∧a'.defers=a.defers ∧
   Steps P (lone (b.atR a (.inRegion ops (match (Region.ready .any ops listed)[t%(Region.ready .any ops listed).length]? with
    |some i=>Region.linearise.go .any ops f (t/(Region.ready .any ops listed).length) (listed.setIfInBounds i true) [i]
    |none=>[].reverse)::Z)) cs w) (lone (b.atR a' (.inRegion ops []::Z)) cs w')
  cases hi:(Region.ready .any ops listed)[t%(Region.ready .any ops listed).length]? with
  |none =>
   have aJ:Region.ready .any ops listed=[]:=by
    cases hr:Region.ready .any ops listed with
    |nil=>rfl
    |cons x xs =>
     rw[hr] at hi;have aa:t%(x::xs).length<(x::xs).length:=Cm _ (by simp);rw[Ai aa] at hi;cases hi
   have hd:∀i,i<ops.size→Hm listed i:=by
    rcases zlr ax (S:=Hm listed) (fun j hj=>by simp[Hy] at hj) with h|⟨x,O,h1,h2⟩
    ·intro i hi;obtain⟨x,O,rfl⟩:=F.ok.all i hi;exact h x (aI x O)
    ·have aK:=K x O;obtain⟨ho,aa⟩:=F.ok.op x aK;have:x.i∈Region.ready .any ops listed:=(zpa hs).2 ⟨aa,h1,x.o,ho,fun e he hb=>h2 _ (F.ok.edge x aK e he hb)⟩;rw[aJ] at this;cases this
   exact aD listed p C w a E hd hE hR B D hp G
  |some i =>
   dsimp only;rw[linearise_go_acc,List.reverse_singleton,List.singleton_append];obtain⟨aa,ad,o,ho,ag⟩:=(zpa hs).1 (A7 hi);obtain⟨x,O,rfl⟩:=F.ok.all i aa;have aL:=(F.ok.op x O).1;rw[ho] at aL;cases aL;have H:∀j,Hy x.m j→Hm listed j:=fun j hj=>by
    obtain⟨e,he,hb,rfl|⟨y,A,e1,e2⟩⟩:=F.ok.msk x O j hj
    ·exact ag e he hb
    ·exact hD y A (by rw[e1];exact ag e he hb) j e2
   have aF:Qo ops L E0 Ef x E:=Zy F hD O H (.inl ad) hE;have R:=aI x O;have aG:∃p' M w1 xv v,C0.le M∧Rel w0 M (I p') w1∧ER n M (H9 x.o.dst v E) (a.put x.o.dst xv).tmps∧(∀d,x.o.dst=some d→Fk (F7 d) Ef=some v∧d<n) ∧
     Steps P (lone (b.atR a (.inRegion ops (x.i::Region.linearise.go .any ops f (t/(Region.ready .any ops listed).length) (listed.setIfInBounds x.i true) [])::Z)) cs w)
      (lone (b.atR (a.put x.o.dst xv) (.inRegion ops (Region.linearise.go .any ops f (t/(Region.ready .any ops listed).length) (listed.setIfInBounds x.i true) [])::Z)) cs w1) ∧
     p'≤(Gr Fy ord).length∧(∀q c,(Gr Fy ord)[q]?=some c→((Hm listed c.i∨c.i=x.i)↔q<p')) ∧
     Pends P n ops k L E0 Ef ord ph C0 M (I p') (fun j=>Hm listed j∨j=x.i) p':=by
    have ah:x.c≠.ch→∀q c,(Gr Fy ord)[q]?=some c→((Hm listed c.i∨c.i=x.i)↔q<p):=fun aj q c hq=>by
     rw[←D q c hq];constructor
     ·rintro (h|h)
      ·exact h
      ·obtain⟨hm,U⟩:=Vc.1 (Cp.2 ⟨_,hq⟩);rw[F.ok.inj c (K c hm) x O h] at U;exact absurd (zev.1 U) aj
     ·exact .inl
    have W:∀r,r≤(Gr Fy ord).length→(∀q c,q<r→(Gr Fy ord)[q]?=some c→Hy x.m c.i)→r≤p:=fun r u0 u1=>by
     rcases C7 p r with h|h
     ·have Q:p<(Gr Fy ord).length:=by omega
      have:=(D p _ (Ai Q)).1 (H _ (u1 p _ h (Ai Q)));omega
     ·exact h
    have ao:∀r q c,r≤q→q<p→(Gr Fy ord)[q]?=some c→¬Hy c.m x.i:=fun r q c _ hq aM hb=>by
     have hm:=(Vc.1 (Cp.2 ⟨_,aM⟩)).1;exact ad (hD c (K c hm) ((D q c aM).2 hq) _ hb)
    have V:=fun (aj:x.c≠.ch) (aV:K5 P n ops k L E0 Ef x (I p) (I p))=>show ∃p' M w1 xv v,C0.le M∧Rel w0 M (I p') w1∧ER n M (H9 x.o.dst v E) (a.put x.o.dst xv).tmps∧(∀d,x.o.dst=some d→Fk (F7 d) Ef=some v∧d<n) ∧
     Steps P (lone (b.atR a (.inRegion ops (x.i::Region.linearise.go .any ops f (t/(Region.ready .any ops listed).length) (listed.setIfInBounds x.i true) [])::Z)) cs w)
      (lone (b.atR (a.put x.o.dst xv) (.inRegion ops (Region.linearise.go .any ops f (t/(Region.ready .any ops listed).length) (listed.setIfInBounds x.i true) [])::Z)) cs w1) ∧
     p'≤(Gr Fy ord).length∧(∀q c,(Gr Fy ord)[q]?=some c→((Hm listed c.i∨c.i=x.i)↔q<p')) ∧
     Pends P n ops k L E0 Ef ord ph C0 M (I p') (fun j=>Hm listed j∨j=x.i) p' from by
     obtain⟨v,ap,N⟩:=aV E aF;obtain⟨M,w1,xv,av,q1,q2,q3,q4,q5,q6⟩:=zi1 hk ho hR B ap b (Region.linearise.go .any ops f (t/(Region.ready .any ops listed).length) (listed.setIfInBounds x.i true) []) Z cs;refine⟨p,M,w1,xv,v,CM.le_trans G q1,q2,by rw[q4];exact (B.mono q1).put q5 q3,N,q6,hp,ah aj,⟨m.known,m.inj,fun y A g l J af v=>?_⟩⟩;exact zxa q1 (m.pend y A g l J (fun h=>af (.inl h))) (by rw[hR.nx];exact (m.known y A g l J).2) v
    cases U:x.c with
    |quiet=>exact V (by rw[U];exact fun e=>by cases e) (aT x R U _)
    |rd =>
     obtain⟨r,u0,u1,u2⟩:=hB x R U;exact V (by rw[U];exact fun e=>by cases e) (u2 p (W r u0 u1) hp (ao r))
    |al =>
     by_cases aq:J5 P n ops k L E0 Ef x
     ·exact V (by rw[U];exact fun e=>by cases e) (aq _)
     ·rcases hL x R U with h|⟨u0,u1,u2,u3,u4⟩
      ·exact absurd h aq
      ·have az:=W _ u0 u1;have aW:=u4 p az hp (ao _);obtain⟨k1,k2⟩:=m.known x R U aq az;have aN:=m.pend x R U aq az ad;obtain⟨Lc,w1,xv,v,q1,q2,q3,q4,q5⟩:=eo F O U ho hR B aF aW k2 aN b (Region.linearise.go .any ops f (t/(Region.ready .any ops listed).length) (listed.setIfInBounds x.i true) []) Z cs;refine⟨p,_,w1,xv,v,⟨fun o v L h=>q2 _ _ _ (G.keep _ _ _ h),Bq G.nx (C3 _ _),fun o v L h=>?_⟩,q1,(B.mono' q2).put (fun t ht=>(q4 t ht).2) q3,q4,q5,hp,ah (by rw[U];exact fun e=>by cases e),
        ⟨m.known,m.inj,fun y A g l J af v=>?_⟩⟩
       ·by_cases e:o=Jj Ef x∧v=0
        ·obtain⟨rfl,rfl⟩:=e;exact .inr k1
        ·rw[CM.ext_ne _ _ e] at h;exact G.new _ _ _ h
       ·have aj:Jj Ef y≠Jj Ef x:=fun e=>af (.inr (by rw[m.inj y A x R g U l aq J az e]))
        rw[CM.ext_ne _ _ (fun e=>aj e.1)];exact m.pend y A g l J (fun h=>af (.inl h)) v
    |ch =>
     obtain⟨q,hq⟩:=Cp.1 (Vc.2 ⟨R,zev.2 U⟩);have a0:¬q<p:=fun h=>ad ((D q x hq).2 h)
     have a1:=(Aa.1 hq).1;have aX:q=p:=by
      rcases C7 p q with h|h
      ·have Q:p<(Gr Fy ord).length:=by omega
       have:=(D p _ (Ai Q)).1 (H _ (chain_order ax p q _ x h (Ai Q) hq));omega
      ·omega
     subst aX;obtain⟨v,ap,N⟩:=hA q x hq E aF;obtain⟨M,w1,xv,av,q1,q2,q3,q4,q5,q6⟩:=zi1 hk ho hR B ap b (Region.linearise.go .any ops f (t/(Region.ready .any ops listed).length) (listed.setIfInBounds x.i true) []) Z cs;have ar:=hU (q+1) (by omega);have hle:M.le (M.lift (I (q+1)).next):=CM.le_lift (by rw[q2.nx];exact ar.next);have a3:(I q).next≤(Hb (q+1)).next:=by rw[←hR.nx,←q2.nx];exact q1.nx
     have X:∀y∈ord,y.c=.al→¬J5 P n ops k L E0 Ef y→ph y.i=q+1→(Hb (q+1)).next≤Jj Ef y∧Jj Ef y<(I (q+1)).next:=fun y A g l J=>by
      rcases hL y A g with h|⟨_,_,u2,u3,_⟩
      ·exact absurd h l
      ·rw[J] at u2 u3;exact⟨u2,u3⟩
     have a4:=ar.next;refine⟨q+1,M.lift (I (q+1)).next,w1,xv,v,CM.le_trans G (CM.le_trans q1 hle),q2.ups ar,by rw[q4];exact ((B.mono q1).put q5 q3).mono hle,N,q6,by omega,fun q' c aw=>?_,⟨fun y A g l J=>?_,fun y A z hz g aA l aB J a5 aO=>?_,fun y A g l J af v=>?_⟩⟩
     ·rw[D q' c aw];constructor
      ·rintro (h|h)
       ·omega
       ·have hm:=(Vc.1 (Cp.2 ⟨_,aw⟩)).1;have e:=F.ok.inj c (K c hm) x O h;subst e;rcases Nat.lt_trichotomy q' q with h'|h'|h'
        ·omega
        ·omega
        ·exact absurd (H _ (chain_order ax q q' c c h' hq aw)) ad
      ·intro h;rcases C7 q' q with h'|h'
       ·exact .inl h'
       ·have:q'=q:=by omega
        subst this;rw[hq] at aw;cases aw;exact .inr rfl
     ·rcases C7 (ph y.i) (q+1) with h|h
      ·obtain⟨k1,k2⟩:=m.known y A g l (by omega);exact⟨k1,by omega⟩
      ·obtain⟨k1,k2⟩:=X y A g l (by omega);have:=(CM.le_trans G q1).nx;rw[q2.nx] at this;exact⟨Bq this k1,k2⟩
     ·rcases C7 (ph y.i) (q+1) with h|h<;>rcases C7 (ph z.i) (q+1) with h'|h'
      ·exact m.inj y A z hz g aA l aB (by omega) (by omega) aO
      ·have k1:=(m.known y A g l (by omega)).2;have k2:=(X z hz aA aB (by omega)).1;omega
      ·have k1:=(m.known z hz aA aB (by omega)).2;have k2:=(X y A g l (by omega)).1;omega
      ·exact hI y A z hz g aA l aB (by omega) aO
     ·show M.f (Jj Ef y) v=none;rcases C7 (ph y.i) (q+1) with h|h
      ·exact zxa q1 (m.pend y A g l (by omega) (fun h=>af (.inl h))) (by rw[hR.nx];exact (m.known y A g l (by omega)).2) v
      ·have k1:=(X y A g l (by omega)).1;cases e:M.f (Jj Ef y) v with
       |none=>rfl
       |some L'=>have:=q2.fresh _ _ _ e;omega
   obtain⟨p',M,w1,xv,v,q1,q2,aP,N,q6,aY,aQ,aR⟩:=aG;have Y:=Yh (listed:=listed) (i:=x.i) (by omega);have aE:Hm (listed.setIfInBounds x.i true)=fun j=>Hm listed j∨j=x.i:=funext fun j=>propext (Y j)
   have aZ:U1 L E0 Ef (Hm (listed.setIfInBounds x.i true)) (H9 x.o.dst v E):=by
    have:=hE.put F hn O N;rw[aE];exact this
   obtain⟨C2,w2,a2,r1,r2,r3,r4,r5⟩:=ih (t/(Region.ready .any ops listed).length) (listed.setIfInBounds x.i true) (T.erase x.i) p' M w1 (a.put x.o.dst xv) (H9 x.o.dst v E) (by simpa using hs)
    (by
     have:=List.length_erase_of_mem (ay x.i aa ad);omega)
    (fun j hj aH=>by
     rw[Y] at aH;have h1:¬Hm listed j:=fun h=>aH (.inl h)
     have h2:j≠x.i:=fun h=>aH (.inr h)
     exact (List.mem_erase_of_ne h2).2 (ay j hj h1))
    aZ
    (fun y A hd j hj=>by
     rw[Y] at hd ⊢;rcases hd with hd|hd
     ·exact .inl (hD y A hd j hj)
     ·rw[F.ok.inj y A x O hd] at hj;exact .inl (H j hj))
    q2 aP (fun q c hq=>by rw[Y];exact aQ q c hq) aY q1 (by rw[aE];exact aR)
   refine⟨C2,w2,a2,r1,r2,r3,?_,Steps.trans q6 r5⟩;rw[r4];cases x.o.dst<;>rfl
def zvg (hm:P.follows .mixedOrders=true)(hk:bm P k){Q:World}{C:CM}{H H':Heap}{w:World}{E m:Tr AV}{a:Act}{id:Nat}(O:Rel Q C H w)(hE:ER n C E a.tmps)
  (h:(ue P n ops).run k E H=.ok m H') (b:Frame) (R:List Item) (cs:List Frame) :
  ∃G w' I,C.le G∧Rel Q G H' w'∧ER n G m I.tmps∧I.defers=a.defers ∧
   Steps P (lone (b.atR a (.code (.region id ops true)::R)) cs w) (lone (b.atR I R) cs w'):=by
 unfold ue at h;dsimp only at h;generalize hL:Ji P ops ops.toList [] 0=L at h;have S:LOk P ops L:=hL ▸ kj P ops;generalize hO:zy3 L (Gr Fy L)=ord at h;have r:∀x∈ord,x∈L:=fun x J=>zxs x (by rw[hO];exact J)
 split at h
 ·rename_i hd;unfold zy1 at hd;split at hd
  ·cases hd
  ·rename_i s K;split at hd
   ·cases hd
   ·rename_i hs;split at hd
    ·cases hd
    ·rename_i T;have U:s=2^ops.size - 1:=Am (by simpa using hs);have F:Fit P ops L:=⟨S,(dstsOk_spec (by simpa using T)).2,fun x J y d=>zml (zml hd x J) y d⟩;have hn:=hE.2.1;have h0:U1 L E m (Hy 0) E:=fun t ht=>by
      unfold bg;rw[Ab];rintro⟨y,_,d,_⟩;simp[Hy] at d
     obtain⟨r0,_,Hb,B,ph,r1,r2,ru,r3,r4,r5,ra,ri,_⟩:=wx (E0:=E) F hn ord [] 0 0 s E H H' h K r (fun x J=>by cases J) h0 (fun y _ d=>by simp[Hy] at d);have M:∀i,i<ops.size→Hy s i:=fun i hi=>by
      unfold Hy;rw[U,Nat.testBit_two_pow_sub_one];simpa using hi
     have j:∀i,¬Hm (Array.replicate ops.size false) i:=fun i hi=>by
      unfold Hm at hi;rw[Bk,Array.getElem?_replicate] at hi;split at hi<;>cases hi
     have D:=ru 0 (Dh _);rw[r1] at D;have V:Rel Q (C.lift (B 0).next) (B 0) w.drew:=O.drew.ups D;have A:C.le (C.lift (B 0).next):=CM.le_lift (by rw[O.nx];exact D.next);have l:∀y∈ord,y.c=.al→¬J5 P n ops k L E m y→ph y.i=0→H.next≤Jj m y∧Jj m y<(B 0).next:=fun y d f g o=>by
      rcases ra y d f with h|⟨_,_,W,u3,_⟩
      ·exact absurd h g
      ·rw[o] at W u3;rw[r1] at W;exact⟨W,u3⟩
     have N:Pends P n ops k L E m ord ph C (C.lift (B 0).next) (B 0) (Hm (Array.replicate ops.size false)) 0:=by
      refine⟨fun y d f g o=>?_,fun y d z hz f X g Y o aa Z=>ri y d z hz f X g Y (by omega) Z,fun y d f g o _ v=>?_⟩
      ·obtain⟨k1,k2⟩:=l y d f g (by omega);rw[←O.nx] at k1;exact⟨k1,k2⟩
      ·obtain⟨k1,k2⟩:=l y d f g (by omega);show C.f (Jj m y) v=none;cases e:C.f (Jj m y) v with
       |none=>rfl
       |some L'=>have:=O.fresh _ _ _ e;omega
     have p:Region.schedule (P.follows .mixedOrders) ops (w.tape w.drawn (.order b.fn id))=Region.linearise.go .any ops ops.size (w.tape w.drawn (.order b.fn id)) (Array.replicate ops.size false) []:=by
      simp only[Region.schedule,hm,Bool.true_or,Bv];rfl
     obtain⟨G,w',I,q1,q2,q3,q4,q5⟩:=Yt hk F hn K r M r0 ru r3 r4 r5 ra ri b R cs ops.size (w.tape w.drawn (.order b.fn id)) (Array.replicate ops.size false) (List.range ops.size) 0 (C.lift (B 0).next) w.drew a E
      (by simp) (by simp) (fun i hi _=>by simpa using hi) (fun t ht=>by
       unfold bg;rw[Ab];rintro⟨y,_,d,_⟩;exact j _ d) (fun y _ d=>absurd d (j _)) V (hE.mono A) (fun q c _=>⟨fun h=>absurd h (j _),fun h=>absurd h (Ep q)⟩) (Dh _) A N
     refine⟨G,w',I,q1,by rw[←r2];exact q2,q3,q4,.head stepR_region_draw ?_⟩;rw[p];exact Steps.trans q5 (.one stepR_region_end)
 ·cases h
def zr3 (hk:bm P k){j:World}{C:CM}{H H':Heap}{w:World}{E l:Tr AV}{a:Act}{id:Nat}(m:Rel j C H w)(o:ER n C E a.tmps)
  (h:(bh P n ops ops.toList).run k E H=.ok l H') (b:Frame) (g:List Item) (cs:List Frame) :
  ∃d w' f,C.le d∧Rel j d H' w'∧ER n d l f.tmps∧f.defers=a.defers ∧
   Steps P (lone (b.atR a (.code (.region id ops false)::g)) cs w) (lone (b.atR f g) cs w'):=by
 obtain⟨d,w',f,p,q,r,s,x⟩:=zo1 hk b g cs ops.toList 0 rfl m o h;refine⟨d,w',f,p,q,r,s,.head stepR_region ?_⟩;rw[List.range_eq_range'];exact Steps.trans x (.one stepR_region_end)
end Yt
end Go.Sv
namespace Go.Sv
open Go.RowKit (Below)
inductive DR (C:CM):List Nat→List Deferred→Prop where
 |nil:DR C [] []
 |cons {d:Nat} {L:Loc} {l:List Nat} {r:List Deferred} (h:C d 0=some L) (hs:DR C l r):DR C (d::l) ({ target:=.collected L.b,args:=#[] }::r)
def DR.mono {C C':CM}(h:C.le C'):∀{l:List Nat} {r:List Deferred},DR C l r→DR C' l r
 |_,_,.nil=>.nil
 |_,_,.cons e es=>.cons (h.keep _ _ _ e) (DR.mono h es)
def RO (C:CM)(ro r:Option Nat):Prop:=match ro,r with
 |none,none=>True
 |some l,some d=>∃L,C l 0=some L∧L.b=d
 |_,_=>False
def RO.mono {C C':CM}(h:C.le C'){ro r:Option Nat}(k:RO C ro r):RO C' ro r:=by
 cases ro<;>cases r<;>simp only[RO] at k ⊢;obtain⟨L,h1,h2⟩:=k;exact⟨L,h.keep _ _ _ h1,h2⟩
def Rel.putBlock {w0:World}{C:CM}{H:Heap}{w:World}(h:Rel w0 C H w){o:Nat}{L:Loc}(hL:C o 0=some L){ob:AObj}{x:Obj}(hB:w0.heap.size≤L.b)(ad:∀c len aa ro,ob≠.cells c len aa ro)
  (af:(w.putObj L.b x).heap[L.b]?=some x→Iy w0.heap.size C (w.putObj L.b x) o ob):Rel w0 C (H.put o ob) (w.putObj L.b x):=by
 have ag:=h.lt _ _ _ hL;refine h.put (h.fresh _ _ _ hL) ob (h.low.trans ⟨rfl,rfl,rfl,by simp,fun k hk=>World.putObj_heap_other (by omega)⟩) (by simp) (fun o' v L' ah aj=>World.putObj_heap_other (fun e=>ah ?_)) (af (World.putObj_heap_same ag)) (fun c len aa ro e=>absurd e (ad c len aa ro));exact (h.excl _ _ _ _ _ _ hL aj e.symm hB).symm
def zdh {P:Program}{w:World}{o:Nat}{r:Loop}(h:w.heap[o]?=some (.loop r))(fn:FuncId)(tmps:Array Value)(d:Array Tmp)(assign body:Code) :
  (Instr.enterLoop fn tmps d assign body (some o)).run P w =
   .ok (w.heap.size,[]) (w.alloc (.loop { state:=.ready,pending:=none,fn,tmps,params:=d,assign,body,defers:=r.defers })):=by
 unfold Instr.enterLoop;simp only[Sem.run_bind,run_getLoop h,run_newObj_alloc,Result.andThen,Sem.run_pure]
def zp0 {P:Program}{f n:Nat}{j:Array Tmp}{as bd:Code}{ro:Option Nat}{E:Tr AV}{D:List Nat}{H:Heap}{l:Nat}{G:List Nat}{H':Heap}(h:zfr f n j as bd ro E D H=some (l,G,H'))
  {I:World} {C:CM} {w:World} {m:Array Value} {J:List Deferred} {r:Option Nat} (g:Rel I C H w) (K:ER n C E m) (M:DR C D J) (p:RO C ro r) :
  ∃A N mark L,C.le A∧Rel I A H' N∧(Instr.enterLoop f m j as bd r).run P w=.ok (L.b,mark) N∧A l 0=some L∧DR A G (mark++J):=by
 unfold zfr at h
 ·split at h
  ·cases h;cases r with
   |some r=>exact p.elim
   |none =>
    obtain⟨q,B⟩:=g.push (.defd true) (.deferred (some [])) 0 0 (fun L o=>by
     rw[CM.ext_same] at o;cases o;exact⟨g.low.size,V3 _ _⟩)
    have s:(C.ext H.next 0 ⟨w.heap.size,0,0,0⟩) H.next 0=some ⟨w.heap.size,0,0,0⟩:=CM.ext_same _ _ _ _;generalize C.ext H.next 0 ⟨w.heap.size,0,0,0⟩=Q at q B s;obtain⟨F,y⟩:=q.push (ob:=.loop .ready none f n E j as bd H.next) (x:=.loop { state:=.ready,pending:=none,fn:=f,tmps:=m,params:=j,assign:=as,body:=bd,defers:=w.heap.size }) 0 0 (fun L o=>by
     rw[CM.ext_same] at o;cases o;refine⟨q.low.size,m,⟨w.heap.size,0,0,0⟩,(CM.le_ext _ (q.next_none 0) (.inr (Dm q.nx))).keep _ _ _ s,V3 _ _,(K.mono B).mono (CM.le_ext _ (q.next_none 0) (.inr (Dm q.nx)))⟩)
    refine⟨_,_,[{ target:=.collected w.heap.size,args:=#[] }],⟨w.heap.size+1,0,0,0⟩,CM.le_trans B y,F,?_,?_,?_⟩
    ·exact run_enterLoop_outer f m j as bd
    ·have:=CM.ext_same Q (H.push (.defd true)).next 0 ⟨(w.alloc (.deferred (some []))).heap.size,0,0,0⟩;rw[World.size_alloc] at this ⊢;exact this
    ·exact .cons (y.keep _ _ _ s) (M.mono (CM.le_trans B y))
  ·rename_i lo;split at h
   ·rename_i d R;cases h;cases r with
    |none=>exact p.elim
    |some r =>
     obtain⟨Lo,z,rfl⟩:=p;obtain⟨T,S,O,hd,hw,_⟩:=g.obj _ _ (g.fresh _ _ _ z) R Lo z;obtain⟨F,y⟩:=g.push (ob:=.loop .ready none f n E j as bd d) (x:=.loop { state:=.ready,pending:=none,fn:=f,tmps:=m,params:=j,assign:=as,body:=bd,defers:=O.b }) 0 0 (fun L o=>by
      rw[CM.ext_same] at o;cases o;exact⟨g.low.size,m,O,(CM.le_ext _ (g.next_none 0) (.inr (Dm g.nx))).keep _ _ _ hd,V3 _ _,K.mono (CM.le_ext _ (g.next_none 0) (.inr (Dm g.nx)))⟩)
     refine⟨_,_,[],⟨w.heap.size,0,0,0⟩,y,F,?_,CM.ext_same _ _ _ _,M.mono y⟩;exact zdh hw f m j as bd
   ·cases h
def zla {P:Program}{l:Nat}{H H':Heap}{j:Option Code}(h:zlv l H=some (j,H')){p:World}{C:CM}{w:World}(q:Rel p C H w){L:Loc}(o:C l 0=some L) :
  ∃w',(Instr.endLoop L.b).run P w=.ok j w'∧Rel p C H' w':=by
 unfold zlv at h;split at h
 ·rename_i st pend f n E y a b d z;have key:st≠.busy→(some (pend,H.put l (.loop .exhausted pend f n E y a b d))=some (j,H'))→∃w',(Instr.endLoop L.b).run P w=.ok j w'∧Rel p C H' w':=fun r e=>by
   cases e;obtain⟨x,A,B,hd,hw,D⟩:=q.obj _ _ (q.fresh _ _ _ o) z L o;refine⟨_,run_endLoop hw r,q.putBlock o x (fun _ _ _ _ e=>by cases e) (fun g F m=>?_)⟩;rw[o] at m;cases m;exact⟨x,A,B,hd,g,D⟩
  split at h
  ·cases h
  ·rename_i s;exact key (fun e=>s e) h
 ·cases h
def zox {P:Program}{C:CM}{w:World}{g:AV}{ρ:Operand→Value}{gop:Operand}(p:∀v,ρ (.const v)=v)(o:VR C g (ρ gop)){l:Nat}{L:Loc}(q:C l 0=some L){f:Nat}{args:List AV}
  (h:bi P g [.fn (.yield l) [] []]=.call (.fn f) args) :
  ∃d vs,(resolve ρ (rangeCall gop L.b) 0).run P w=.ok d w∧(invoke d.target d.args).run P w=.ok (.enter f (List.toArray vs)) w∧VRs C args vs:=by
 have r:VRs C [AV.fn (.yield l) [] []] [Value.func (.yield L.b) #[] #[]]:=.cons (.fn (.yield q) .nil .nil) .nil;generalize m:ρ gop=gv at o;have j:∀fn first cap,gv=.func fn first cap→(resolve ρ (rangeCall gop L.b) 0).run P w=.ok { target:=.fn fn cap,args:=first++#[Value.func (.yield L.b) #[] #[]] } w:=by
  intro fn first cap e
  subst e;simp only[resolve,m,Deferred.ofValue,Sem.run_pure];simp[p]
 unfold bi at h;split at h
 ·rename_i A first cap
  split at h
  ·rename_i s;cases h;cases o with
   | @fn _ B _ _ l' r' x y z =>
    cases x with
    |same =>
     refine⟨_,l'.toList++[Value.func (.yield L.b) #[] #[]]++r'.toList,j _ _ _ rfl,?_,(y.append r).append z⟩;have:(l'++#[Value.func (.yield L.b) #[] #[]]++r')=(l'.toList++[Value.func (.yield L.b) #[] #[]]++r'.toList).toArray:=by simp
     rw[←this];exact zbx s _
  ·cases h
 ·cases h
 ·cases h
def Vz (P:Program)(b:Frame)(m:Machine)(cs:List Frame)(g:List Item)(f:Act)(w':World):Ex→Prop
 |.normal=>Steps P m (lone (b.atR f g) cs w')
 |.exit id=>∃d,exitTo id d=exitTo id g∧Steps P m (lone (b.atR f (.code (.exit id)::d)) cs w')
 |.ret=>∃d,Steps P m (lone (b.atR f (.code .ret::d)) cs w')
def Vz.head {P:Program}{b:Frame}{m m1:Machine}{cs:List Frame}{kk:List Item}{a':Act}{w':World}{x:Ex}(h:Steps P m m1)(k:Vz P b m1 cs kk a' w' x):Vz P b m cs kk a' w' x:=by
 cases x with
 |normal=>exact Steps.trans h k
 |exit id=>obtain⟨k1,e,s⟩:=k;exact⟨k1,e,Steps.trans h s⟩
 |ret=>obtain⟨k1,s⟩:=k;exact⟨k1,Steps.trans h s⟩
section scope
variable {P : Program} {b : Frame} {a : Act} {k : List Item} {cs : List Frame} {w : World} {c : Code}
def stepR_scope:step P (lone (b.atR a (.code (.scope c)::k)) cs w)=.next (lone (b.atR a (.code c::.inScope c::k)) cs w):=step_lone_go (by simp[stepG,stepG.exec,Frame.atR])
def stepR_inScope:step P (lone (b.atR a (.inScope c::k)) cs w)=.next (lone (b.atR a k) cs w):=step_lone_go (by simp[stepG,stepG.exec,Frame.atR])
end scope
structure Both (w0:World) (n:Nat) (C:CM) (E:Tr AV) (D:List Nat) (H:Heap) (a:Act) (w:World):Prop where
 rel:Rel w0 C H w
 env:ER n C E a.tmps
 defs:DR C D a.defers
def w8 (P:Program)(f n:Nat)(p:CodeF)(c:Code):Prop :=
 ∀(k:J2),bm P k→∀(m:Nat) (ro:Option Nat) (d:World) (C:CM) (E:Tr AV) (D:List Nat) (H:Heap) (a:Act) (w:World) (b:Frame) (x:Ex) (g:Tr AV) (h:List Nat) (H':Heap),
  Both d n C E D H a w→b.fn=f→RO C ro b.roundOf→p.run k m ro E D H=.ok x g h H'→∀(j:List Item) (cs:List Frame),
  ∃l w' o,C.le l∧Both d n l g h H' o w'∧Vz P b (lone (b.atR a (.code c::j)) cs w) cs j o w' x
def cd {P:Program}(hm:P.follows .mixedOrders=true)(f n:Nat):∀(c:Code),w8 P f n (I0 P f n c) c
 |.skip=>by
  intro k hk m ro F C E D H a w b x K M H' p I o h y cs;cases h;exact⟨C,w,a,CM.le_refl C,p,.one stepR_skip⟩
 |.label l=>by
  intro k hk m ro F C E D H a w b x K M H' p I o h y cs;cases h;exact⟨C,w,a,CM.le_refl C,p,.one stepR_label⟩
 |.exit id=>by
  intro k hk m ro F C E D H a w b x K M H' p I o h y cs;cases h;exact⟨C,w,a,CM.le_refl C,p,y,rfl,.refl _ _⟩
 |.ret=>by
  intro k hk m ro F C E D H a w b x K M H' p I o h y cs;cases h;exact⟨C,w,a,CM.le_refl C,p,y,.refl _ _⟩
 |.region id ops draw=>by
  intro k hk m ro F C E D H a w b x K M H' p I o h y cs;simp only[I0] at h;cases draw with
  |true =>
   dsimp only at h;split at h
   ·cases h
   ·rename_i E1 H1 hr;cases h;obtain⟨C',w',a',r,A,z,X,q5⟩:=zvg hm hk (id:=id) p.rel p.env hr b y cs;exact⟨C',w',a',r,⟨A,z,by rw[X];exact p.defs.mono r⟩,q5⟩
  |false =>
   dsimp only at h;split at h
   ·cases h
   ·rename_i E1 H1 hr;cases h;obtain⟨C',w',a',r,A,z,X,q5⟩:=zr3 hk (id:=id) p.rel p.env hr b y cs;exact⟨C',w',a',r,⟨A,z,by rw[X];exact p.defs.mono r⟩,q5⟩
 |.seq c1 c2=>by
  intro k hk m ro F C E D H a w b x K M H' p I o h y cs;simp only[I0] at h;cases Y:(I0 P f n c1).run k m ro E D H with
  |no=>rw[Y] at h;cases h
  |ok Q E1 R H1 =>
   rw[Y] at h;obtain⟨G,B,J,r,A,z⟩:=cd hm f n c1 k hk m ro F C E D H a w b Q E1 R H1 p I o Y (.code c2::y) cs;cases Q with
   |normal =>
    dsimp only at h;obtain⟨U,w2,a2,r1,r2,r3⟩:=cd hm f n c2 k hk m ro F G E1 R H1 J B b x K M H' A I (o.mono r) h y cs;exact⟨U,w2,a2,CM.le_trans r r1,r2,r3.head (.head stepR_seq z)⟩
   |exit id =>
    cases h;obtain⟨N,e,s⟩:=z;exact⟨G,B,J,r,A,N,e,.head stepR_seq s⟩
   |ret =>
    cases h;obtain⟨N,s⟩:=z;exact⟨G,B,J,r,A,N,.head stepR_seq s⟩
 |.cond c c1 c2=>by
  intro k hk m ro F C E D H a w b x K M H' p I o h y cs;simp only[I0] at h;split at h
  ·rename_i t ht;have hv:=xg p.env c _ ht;have aa:a.eval c=.bool t:=by
    generalize a.eval c=v at hv;cases hv;rfl
   split at h
   ·obtain⟨G,B,J,r,A,z⟩:=cd hm f n c1 k hk m ro F C E D H a w b x K M H' p I o h y cs;exact⟨G,B,J,r,A,z.head (.one (by rw[stepR_cond aa];rfl))⟩
   ·obtain⟨G,B,J,r,A,z⟩:=cd hm f n c2 k hk m ro F C E D H a w b x K M H' p I o h y cs;exact⟨G,B,J,r,A,z.head (.one (by rw[stepR_cond aa];rfl))⟩
  ·cases h
 |.block id c=>by
  intro k hk m ro F C E D H a w b x K M H' p I o h y cs;simp only[I0] at h;split at h
  ·cases h
  ·rename_i Q E1 R H1 Y;obtain⟨G,B,J,r,A,z⟩:=cd hm f n c k hk m ro F C E D H a w b Q E1 R H1 p I o Y (.inBlock id::y) cs;cases Q with
   |normal =>
    cases h;exact⟨G,B,J,r,A,Steps.head stepR_block (Steps.trans z (.one stepR_inBlock))⟩
   |exit ad =>
    dsimp only at h;obtain⟨N,e,s⟩:=z;split at h
    ·rename_i S;cases h;have af:ad=id:=Am S;subst af;refine⟨G,B,J,r,A,Steps.head stepR_block (Steps.trans s (.one (stepR_exit ?_)))⟩;rw[e];simp[exitTo]
    ·rename_i S;cases h;refine⟨G,B,J,r,A,N,?_,.head stepR_block s⟩;rw[e];have ah:¬id=ad:=fun q=>by subst q;rw[Bj] at S;cases S
     simp[exitTo,ah]
   |ret =>
    cases h;obtain⟨N,s⟩:=z;exact⟨G,B,J,r,A,N,.head stepR_block s⟩
 |.scope c=>by
  intro k hk m ro F C E D H a w b x K M H' p I o h y cs;simp only[I0] at h;obtain⟨G,B,J,r,A,z⟩:=cd hm f n c k hk m ro F C E D H a w b x K M H' p I o h (.inScope c::y) cs;refine⟨G,B,J,r,A,?_⟩;cases x with
  |normal=>exact Steps.head stepR_scope (Steps.trans z (.one stepR_inScope))
  |exit id =>
   obtain⟨N,e,s⟩:=z;exact⟨N,e,.head stepR_scope s⟩
  |ret =>
   obtain⟨N,s⟩:=z;exact⟨N,.head stepR_scope s⟩
 |.loop c=>by
  intro k hk m ro F C E D H a w b x K M H' p I o h y cs;simp only[I0] at h;have ih:=cd hm f n c;have key:∀(j:Nat) (C:CM) (E:Tr AV) (D:List Nat) (H:Heap) (a:Act) (w:World),Both F n C E D H a w→RO C ro b.roundOf→Wp ((I0 P f n c).run k m ro) j E D H=.ok x K M H' →
    ∃C' w' a',C.le C'∧Both F n C' K M H' a' w'∧Vz P b (lone (b.atR a (.code c::.inLoop c::y)) cs w) cs y a' w' x:=by
   intro j
   induction j with
   |zero=>intro C E D H a w _ _ h;cases h
   |succ j aj =>
    intro C E D H a w p o h;simp only[Wp] at h;split at h
    ·cases h
    ·rename_i Q E1 R H1 Y;obtain⟨G,B,J,r,A,z⟩:=ih k hk m ro F C E D H a w b Q E1 R H1 p I o Y (.inLoop c::y) cs;cases Q with
     |normal =>
      dsimp only at h;obtain⟨U,w2,a2,r1,r2,r3⟩:=aj G E1 R H1 J B A (o.mono r) h;exact⟨U,w2,a2,CM.le_trans r r1,r2,r3.head (Steps.trans z (.one stepR_inLoop))⟩
     |exit id =>
      cases h;obtain⟨N,e,s⟩:=z;exact⟨G,B,J,r,A,N,e,s⟩
     |ret =>
      cases h;obtain⟨N,s⟩:=z;exact⟨G,B,J,r,A,N,s⟩
  obtain⟨G,B,J,r,A,z⟩:=key m C E D H a w p o h;exact⟨G,B,J,r,A,z.head (.one stepR_loop)⟩
 |.rangeFunc g ps as bd=>by
  intro k hk m ro F C E D H a w b x K M H' p I o h y cs;simp only[I0] at h;split at h
  ·cases h
  ·rename_i gv hg;split at h
   ·cases h
   ·rename_i l R H1 he;obtain⟨G,B,mark,L,r,A,z,X,q5⟩:=zp0 (P:=P) he p.rel p.env p.defs o;split at h
    ·rename_i t args Z;split at h
     ·cases h
     ·rename_i v H2 ao;obtain⟨d,vs,s1,s2,s3⟩:=zox (P:=P) (w:=B) (ρ:=a.eval) (gop:=g) (fun _=>rfl) ((xg p.env g _ hg).mono r) X Z;have T:=hk _ _ _ _ _ _ _ _ _ A s3 ao (b.atR { a with defers:=mark++a.defers } (.inRangeFunc L.b::y)::cs);obtain⟨U,w2,v',fr,t1,t2,t3,t4,t5,t6⟩:=T;rw[←I] at z;have ag:=stepR_rangeFunc (P:=P) (b:=b) (a:=a) (k:=y) (cs:=cs) (w:=w) z s1 s2;have back:=step_leave_returned (c:=b.atR { a with defers:=mark++a.defers } (.inRangeFunc L.b::y)) (cs:=cs) t6;rw[finish_atR_inRangeFunc] at back;have V:DR U R ({ a with defers:=mark++a.defers }:Act).defers:=q5.mono t1;have W:ER n U E ({ a with defers:=mark++a.defers }:Act).tmps:=(p.env.mono r).mono t1;split at h
      ·cases h
      ·rename_i H3 O;cases h;obtain⟨w3,u1,u2⟩:=zla (P:=P) O t2 (t1.keep _ _ _ X);refine⟨U,w3,{ a with defers:=mark++a.defers },CM.le_trans r t1,⟨u2,W,V⟩,?_⟩;refine Steps.head ag (Steps.trans t4 (.head back (.one ?_)));rw[stepR_endRangeFunc u1];rfl
      ·rename_i c H3 O;obtain⟨w3,u1,u2⟩:=zla (P:=P) O t2 (t1.keep _ _ _ X);split at h
       ·cases h
       ·rename_i Q hx;cases h;have go:Steps P (lone (b.atR a (.code (.rangeFunc g ps as bd)::y)) cs w) (lone (b.atR { a with defers:=mark++a.defers } (.code c::y)) cs w3) :=
         .head ag (Steps.trans t4 (.head back (.one (by rw[stepR_endRangeFunc u1];rfl))))
        refine⟨U,w3,{ a with defers:=mark++a.defers },CM.le_trans r t1,⟨u2,W,V⟩,?_⟩;unfold exOf at hx;split at hx
        ·cases hx;exact⟨y,go⟩
        ·cases hx;exact⟨y,rfl,go⟩
        ·cases hx
    ·cases h
 |.goto _=>by
  intro k hk m ro F C E D H a w b x K M H' p I o h y cs;cases h
 |.refuse _=>by
  intro k hk m ro F C E D H a w b x K M H' p I o h y cs;cases h
end Go.Sv
namespace Go.Sv
open Go.RowKit (Below)
def e9 {P:Program}{r:ResultVar}{n:Nat}{D:World}{C:CM}{E:Tr AV}{H:Heap}{w:World}{a:Act}(y:Rel D C H w)(g:ER n C E a.tmps){v:AV}(h:(resF P r).run E H=some v) :
  ∃x,(match r with
   |.tmp t=>pure (a.tmps.getD t undef)
   |.cell c t=>do loadVar t (←asAddr (a.tmps.getD c undef)):Sem Value).run P w=.ok x w∧VR C v x:=by
 have d:∀t,a.eval (.tmp t)=a.tmps.getD t undef:=fun t=>by
  show a.tmps.getD t undef=_;rfl
 cases r with
 |tmp t =>
  simp only[resF] at h;have:=xg g _ _ h;rw[d] at this;exact⟨_,by simp[Sem.run_pure],this⟩
 |cell c t =>
  unfold resF at h;dsimp only at h ⊢;split at h
  ·rename_i n j z;dsimp only at h;split at h
   ·rename_i o m i ho;split at h
    ·rename_i l p;cases h;have hv:=xg g _ _ ho;rw[d] at hv;generalize a.tmps.getD c undef=F at hv;cases hv with
     |ptr q =>
      obtain⟨vs,A,s,B,G,_⟩:=y.read P p q;exact⟨.agg vs.toArray,by simp[asAddr,loadVar,z9j j,Lp z,A],.agg (by simpa using s) B⟩
    ·cases h
   ·cases h
  ·rename_i n j z;dsimp only at h;split at h
   ·rename_i o m i ho;split at h
    ·rename_i J p;cases h;have hv:=xg g _ _ ho;rw[d] at hv;generalize a.tmps.getD c undef=F at hv;cases hv with
     |ptr q =>
      obtain⟨vs,A,s,B,G,K,I⟩:=y.read P p q;have f:=I 0 (by omega)
      match vs,s with
      |[u],.cons hu .nil =>
       simp only[Cw,A6] at f;exact⟨u,by simp[asAddr,loadVar,z9j j,f],hu⟩
    ·cases h
   ·cases h
  ·cases h
def ztp {P:Program}{n:Nat}{m:World}{C:CM}{E:Tr AV}{H:Heap}{w:World}{a:Act}(g:Rel m C H w)(j:ER n C E a.tmps):∀{l:List ResultVar} {vs:List AV},(oz P l).run E H=some vs →
  ∃xs,(l.mapM fun
   |.tmp t=>pure (a.tmps.getD t undef)
   |.cell c t=>do loadVar t (←asAddr (a.tmps.getD c undef)):Sem (List Value)).run P w=.ok xs w∧VRs C vs xs
 |[],vs,h=>by
  cases h;exact⟨[],by simp[Sem.run_pure],.nil⟩
 |r::l,vs,h=>by
  simp only[oz] at h;split at h
  ·cases h
  ·rename_i v hv;split at h
   ·cases h
   ·rename_i o f;cases h;obtain⟨x,p,q⟩:=e9 g j hv;obtain⟨xs,s,y⟩:=ztp g j f;refine⟨x::xs,?_,.cons q y⟩;rw[List.mapM_cons,Sem.run_bind];have d:=p;cases r<;>(dsimp only at d ⊢;rw[d];simp only[Result.andThen_ok,Sem.run_bind,s,Sem.run_pure])
def zkz {P:Program}{fn:Func}{n:Nat}{f:World}{C:CM}{E:Tr AV}{H:Heap}{w:World}{a:Act}(g:Rel f C H w)(j:ER n C E a.tmps){vs:List AV}(h:(oz P fn.results.toList).run E H=some vs) :
  ∃x,(results fn a.tmps).run P w=.ok x w∧VR C (match vs with
   |[v]=>v
   |l=>.tup l) x:=by
 obtain⟨xs,m,o⟩:=ztp g j h;have hm:(fn.results.mapM fun
   |.tmp t=>pure (a.tmps.getD t undef)
   |.cell c t=>do loadVar t (←asAddr (a.tmps.getD c undef)):Sem (Array Value)).run P w=.ok xs.toArray w:=by
  rw[Array.mapM_eq_mapM_toList];rw[map_eq_pure_bind,Sem.run_bind,m];rfl
 refine⟨if h:xs.toArray.size=1 then xs.toArray[0] else .tuple xs.toArray,?_,?_⟩
 ·unfold results;rw[Sem.run_bind];exact (congrArg (fun r=>Result.andThen r _) hm).trans rfl
 ·cases o with
  |nil=>exact .tup .nil
  |cons e es =>
   cases es with
   |nil=>exact e
   |cons p d =>
    simp only[List.size_toArray,Ar];rw[dif_neg (by omega)];exact .tup (.cons e (.cons p d))
def zzh {P:Program}{fr:Frame}{cs:List Frame}{w:World}{a:Nat}{d:List Deferred}(hm:fr.mode=.returning)(hd:fr.defers={ target:=.collected a,args:=#[] }::d)(hw:w.heap[a]?=some (.deferred (some []))) :
  step P (lone fr cs w)=.next (lone { fr with defers:=d } cs (w.putObj a (.deferred none))) :=
 step_lone_go (by simp[stepG,unwind,hm,hd,Sem.runT_eq,run_takeDeferred hw,GStep.bare_after])
def zuu {P:Program}{l:World}{C:CM}:∀{D:List Nat} {o:List Deferred} {H H':Heap} {w:World} {fr:Frame} (cs:List Frame),DR C D o→uq D H=some H'→Rel l C H w→fr.mode=.returning→fr.defers=o →
  ∃w',Rel l C H' w'∧Steps P (lone fr cs w) (lone { fr with defers:=[] } cs w')
 |_,_,H,H',w,fr,cs,.nil,h,a,hm,hd=>by
  cases h;refine⟨w,a,?_⟩;have:fr={ fr with defers:=[] }:=by cases fr;cases hd;rfl
  rw[←this];exact .refl _ _
 |_,_,H,H',w,fr,cs,.cons (d:=d) (L:=L) (r:=r) j q,h,a,hm,hd=>by
  simp only[uq] at h;split at h
  ·rename_i s;obtain⟨p,hw⟩:=a.obj _ _ (a.fresh _ _ _ j) s L j;have m:Rel l C (H.put d (.defd false)) (w.putObj L.b (.deferred none)):=a.putBlock j p (fun _ _ _ _ e=>by cases e) (fun f z g=>by
    rw[j] at g;cases g;exact⟨p,f⟩)
   obtain⟨w',x,y⟩:=zuu (fr:={ fr with defers:=r }) cs q h m hm rfl;exact⟨w',x,.head (zzh hm hd hw) y⟩
  ·cases h
def ER.start {C:CM}{args:List AV}{vs:List Value}(hv:VRs C args vs){n:Nat}(hn:n≤I6)(hl:args.length≤n):ER n C (Kd args 0 .e) (vs.toArray++Array.replicate (n - vs.toArray.size) undef):=by
 have hlen:=hv.length;refine⟨by simp;omega,hn,fun t ht=>?_⟩;rw[get_ofList args 0 .e t,Rs];rw[Bk];by_cases h:t<args.length
 ·rw[Ag ⟨Dh _,by omega⟩];obtain⟨a,v,q1,q2,q3⟩:=hv.get' h;rw[Nat.sub_zero,q1];rw[Di (by simp;omega)];simp only[B7,q2,Cc];exact q3
 ·rw[Ab (by omega)];show _=undef;rw[Array.getElem?_append_right (by simp;omega),Array.getElem?_replicate];split<;>rfl
def Wg {C:CM}:∀(f:List Tmp) (args:List AV) (vs:List Value) {n:Nat} {E j:Tr AV} {g:Array Value},zyb f args n E=some j→VRs C args vs→ER n C E g →
  f.length=vs.length∧ER n C j ((f.zip vs).foldl (fun tmps (t,a)=>tmps.setIfInBounds t a) g):=by
 intro f
 induction f with
 |nil =>
  intro args vs n E j g h hv l;cases hv with
  |nil=>cases h;exact⟨rfl,l⟩
  |cons e es=>cases h
 |cons p f q =>
  intro args vs n E j g h hv l;cases hv with
  |nil=>cases h
  |cons e es =>
   simp only[zyb] at h;split at h
   ·rename_i r;have m:p<n:=As r;have o:=ER.put (a:={ tmps:=g,defers:=[] }) l (d:=some p) (fun t s=>by cases s;exact m) e;obtain⟨w,x⟩:=q _ _ h es o;exact⟨by simp[w],x⟩
   ·cases h
def Ty {P:Program}(hm:P.follows .mixedOrders=true){k:J2}(hk:bm P k){f m:Nat}{p:World}{C:CM}{H H':Heap}{w:World}{args:List AV}{vs:List Value}{v:AV}(S:Rel p C H w)(hv:VRs C args vs)
  (h:(oc P f).run k m args H=.ok v H'):zpc P p C w (.fn f) vs v H':=by
 unfold oc at h;split at h
 ·cases h
 ·rename_i fn z;split at h
  ·cases h
  ·rename_i body A;split at h
   ·rename_i j;dsimp only at h;split at h
    ·cases h
    ·rename_i hlen;have g:args.length≤fn.ntmps:=As hlen;split at h
     ·cases h
     ·rename_i x E D H1 o;intro cs;let b:Frame:={ (default:Frame) with fn:=f,kind:=.normal,roundOf:=none };have d:Frame.enter P f vs.toArray .normal=b.atR { tmps:=vs.toArray++Array.replicate (fn.ntmps - vs.toArray.size) undef,defers:=[] } [.code body]:=by
       simp[Frame.enter,Frame.atR,z,A,b]
      obtain⟨K,T,L,M,q,B⟩:=cd hm f fn.ntmps body k hk m none p C (Kd args 0 .e) [] H { tmps:=vs.toArray++Array.replicate (fn.ntmps - vs.toArray.size) undef,defers:=[] } w b x E D H1
       ⟨S,ER.start hv j g,.nil⟩ rfl trivial o [] cs
      rw[←d] at B;have key:∀todo,Steps P (lone (Frame.enter P f vs.toArray .normal) cs w) (lone { b.atR L todo with mode:=.returning } cs T) →
        (match uq D H1 with
         |none=>RV.no
         |some r=>match (oz P fn.results.toList).run E r with
          |some [v]=>.ok v r
          |some l=>.ok (.tup l) r
          |none=>.no)=.ok v H' →
        ∃F w' N fr,C.le F∧Rel p F H' w'∧VR F v N∧Steps P (lone (Frame.enter P f vs.toArray .normal) cs w) (lone fr cs w')∧fr.fn=f∧fr.leaving P w' (.returned N):=by
       intro todo O he;split at he
       ·cases he
       ·rename_i r G;obtain⟨Q,y,R⟩:=zuu (fr:={ b.atR L todo with mode:=.returning }) cs q.defs G q.rel rfl rfl;split at he
        ·rename_i v1 a;cases he;obtain⟨I,s1,s2⟩:=zkz (fn:=fn) y q.env a;exact⟨K,Q,I,_,M,y,s2,Steps.trans O R,rfl,rfl,rfl,rfl,fn,z,s1⟩
        ·rename_i l J a;cases he;obtain⟨I,s1,s2⟩:=zkz (fn:=fn) y q.env a;refine⟨K,Q,I,_,M,y,?_,Steps.trans O R,rfl,rfl,rfl,rfl,fn,z,s1⟩;rcases l with _|⟨u,_|⟨V,l⟩⟩
         ·exact s2
         ·exact absurd rfl (J u)
         ·exact s2
        ·cases he
      cases x with
      |exit id=>cases h
      |normal=>exact key [] (Steps.trans B (.one (stepR_end rfl))) h
      |ret =>
       obtain⟨U,s⟩:=B;exact key (.code .ret::U) (Steps.trans s (.one (stepR_ret rfl))) h
   ·cases h
def zsc {P:Program}{l:Nat}{x:Ex}{H H':Heap}{v:AV}(h:zi2 l x H=.ok v H'){y:World}{C:CM}{w:World}(p:Rel y C H w){L:Loc}(m:C l 0=some L) :
  ∃w' z,(Instr.endRound L.b (match x with
   |.normal=>none
   |.ret=>some .ret
   |.exit id=>some (.exit id))).run P w=.ok z w'∧Rel y C H' w'∧VR C v z:=by
 unfold zi2 at h;split at h
 ·rename_i st pend f n E D a b d B;obtain⟨o,q,r,hd,hw,s⟩:=p.obj _ _ (p.fresh _ _ _ m) B L m;split at h
  ·cases h;refine⟨_,_,run_endRound none hw,p.putBlock m o (fun _ _ _ _ e=>by cases e) (fun g A j=>?_),.bool true⟩;rw[m] at j;cases j;exact⟨o,q,r,hd,g,s⟩
  ·cases h;refine⟨_,_,run_endRound (some .ret) hw,p.putBlock m o (fun _ _ _ _ e=>by cases e) (fun g A j=>?_),.bool false⟩;rw[m] at j;cases j;exact⟨o,q,r,hd,g,s⟩
  ·rename_i id;cases h;refine⟨_,_,run_endRound (some (.exit id)) hw,p.putBlock m o (fun _ _ _ _ e=>by cases e) (fun g A j=>?_),.bool false⟩;rw[m] at j;cases j;exact⟨o,q,r,hd,g,s⟩
 ·cases h
def Vu {P:Program}{l:Nat}{H H':Heap}(h:zts l H=some H'){p:World}{C:CM}{w:World}(o:Rel p C H w){L:Loc}(m:C l 0=some L) :
  ∃w',(Instr.beginRound L.b).run P w=.ok () w'∧Rel p C H' w':=by
 unfold zts at h;split at h
 ·rename_i pend f n E z a b d r;cases h;obtain⟨q,s,x,hd,hw,y⟩:=o.obj _ _ (o.fresh _ _ _ m) r L m;refine⟨_,run_beginRound hw rfl,o.putBlock m q (fun _ _ _ _ e=>by cases e) (fun g A j=>?_)⟩;rw[m] at j;cases j;exact⟨q,s,x,hd,g,y⟩
 ·cases h
def zim {P:Program}(hm:P.follows .mixedOrders=true){O:J2}(S:bm P O):∀m,bm P (K8 P O m)
 |0=>fun _ _ _ _ _ _ _ _ _ _ _ h=>by cases h
 |m+1=>by
  have B:=zim hm S m;intro T C H w t args vs v H' o hv h;unfold K8 at h;cases t with
  |fn f =>
   dsimp only at h;split at h
   ·rename_i v1 H1 ho;cases h;exact S _ _ _ _ _ _ _ _ _ o hv ho
   ·exact Ty hm B o hv h
  |yield l =>
   dsimp only at h;split at h
   ·rename_i f n E p a b d V;split at h
    ·cases h
    ·rename_i E1 F;split at h
     ·rename_i U W G;split at h
      ·cases h
      ·rename_i I J;split at h
       ·cases h
       ·rename_i x X D Y K;split at h
        ·intro L q c cs;obtain⟨hB,r,Ld,hd,hw,Z⟩:=o.obj _ _ (o.fresh _ _ _ q) V L q;obtain⟨hlen,M⟩:=Wg _ _ _ F hv Z;have N:=run_yield (P:=P) (args:=vs.toArray) hw (by simpa using hlen.symm);dsimp only at N;have j:((p.zip vs.toArray).foldl (fun tmps (t,a)=>tmps.setIfInBounds t a) r)=((p.toList.zip vs).foldl (fun tmps (t,a)=>tmps.setIfInBounds t a) r):=by
          rw[←Array.foldl_toList,Array.toList_zip]
         rw[j] at N;let y:Frame:={ (default:Frame) with fn:=f,kind:=.normal,roundOf:=some L.b };have z:RO C (some l) y.roundOf:=⟨L,q,rfl⟩;obtain⟨C1,w1,a1,A,Q,q3⟩:=cd hm f n a (K8 P O m) B m (some l) T C E1 [] H { tmps:=(p.toList.zip vs).foldl (fun tmps (t,a)=>tmps.setIfInBounds t a) r,defers:=[] } w y .normal U [] W
          ⟨o,M,.nil⟩ rfl z G [.beginRound,.code b] (c::cs)
         obtain⟨w2,r1,r2⟩:=Vu (P:=P) J Q.rel (A.keep _ _ _ q);obtain⟨C2,w3,a3,s1,s2,R⟩:=cd hm f n b (K8 P O m) B m (some l) T C1 U [] I a1 w2 y x X [] Y ⟨r2,Q.env,Q.defs⟩ rfl (z.mono A) K [] (c::cs);obtain⟨w4,xv,t1,t2,t3⟩:=zsc (P:=P) h s2.rel (s1.keep _ _ _ (A.keep _ _ _ q));refine⟨C2,w4,xv,f,_,a,b,CM.le_trans A s1,t2,t3,N,?_⟩;have g:Frame.round L.b f ((p.toList.zip vs).foldl (fun tmps (t,a)=>tmps.setIfInBounds t a) r) a b .normal=y.atR { tmps:=(p.toList.zip vs).foldl (fun tmps (t,a)=>tmps.setIfInBounds t a) r,defers:=[] } [.code a,.beginRound,.code b]:=by
          simp[Frame.round,Frame.atR,y]
         rw[g];refine Steps.trans q3 (.head (stepR_beginRound rfl r1) ?_);cases x with
         |normal=>exact Steps.trans R (.one (stepR_round_end rfl rfl t1))
         |ret =>
          obtain⟨k1,s⟩:=R;exact Steps.trans s (.one (stepR_round_ret rfl rfl t1))
         |exit id =>
          obtain⟨k1,e,s⟩:=R;exact Steps.trans s (.one (stepR_round_exit rfl rfl e t1))
        ·cases h
     ·cases h
   ·cases h
def Rel.start (w:World):Rel w ⟨fun _ _=>none,0⟩ ⟨.e,0⟩ w :=
 ⟨rfl,.refl _ _,fun _ _ _ h=>(by cases h),fun _ _ _ h=>(by cases h),fun _ _ _ _ _ _ h=>(by cases h),fun _ _ h=>absurd h (Ep _),fun _ _ _ _ _ h=>absurd h (Ep _)⟩
end Go.Sv
namespace Go.Sv
open Go.RowKit Go.ChangeShapes Go.WideShapes Go.ChangeAt
variable {H : Type} {enc : TypeId × Value → H} {P : Program}
def zvl {f:Func}{s:ChangeSpec}{apart fresh handsOn again:Bool}{W m:World}{args:Array Value}{v:Value}{o gs:List (DataW H)}{before pa pv:List MemPlace}
  (y:DataW.Whole enc P f.params.toList s.vars apart W args.toList o gs before)
  (h:∀(b:Nat) (sp:Nat→Bool) (hd:Bool),DataW.TrodAll enc P m b sp hd f.resultTypes.toList (v.resultList f.resultTypes.size) (s.fn H (o++gs)).results [])
  (a:∀sp:Nat→Bool,(∀p∈before,sp p.block=true)→DataW.TrodAll enc P m 0 sp true f.params.toList args.toList (s.fn H (o++gs)).args pa)
  (d:∀sp:Nat→Bool,(∀p∈before,sp p.block=true)→DataW.TrodVars enc P m sp s.vars (s.fn H (o++gs)).vars pv)
  (g:before=pa++pv) (A:Below W.heap.size W m)
  (z:∀(j:Nat) (t:TypeId) (r:Value),f.resultTypes[j]?=some t→(v.resultList f.resultTypes.size)[j]?=some r→Value.okWide P m .any 0 t r) :
  s.post enc P f apart fresh handsOn again W args v m:=by
 have q:=y.lt;obtain⟨_,_,_,_,_,B,C⟩:=id y;have w:∀p∈before,(fun b=>decide (b<W.heap.size)) p.block=true:=fun p l=>by simpa using q p l
 refine⟨o,gs,before,[],pa,pv,y,h _ _ _,a _ w,d _ w,World.keptBut_mono (fun p l=>⟨l,.inr (Az.1 (g ▸ l))⟩) (A.frame (·∈before)),fun _=>?_⟩;refine⟨z,_,_,([]++pa)++pv,⟨[]++pa,pv,trodAll_append (a _ (fun _ _=>rfl)) (h _ _ _),d _ (fun _ _=>rfl),rfl,fun b off l=>?_,fun D=>?_⟩,fun p l _=>by rw[g];simpa using l⟩
 ·have x:MemPlace.cell b off∈before:=by rw[g];simpa using l
  rw[A.frozen (p:=⟨b,off,none⟩) (q _ x)];exact B b off x
 ·have:=C D;rw[g] at this;simpa using this
end Go.Sv
namespace Go.Sv
def J2.le (k k':J2):Prop:=∀t a H v H',k t a H=.ok v H'→k' t a H=.ok v H'
def z3x {P:Program}{n:Nat}{ops:Array Oper}{o:Oper}{k k':J2}(hk:k.le k'){E f:Tr AV}{H H':Heap}(h:(Js P n ops o).run k E H=.ok f H'):(Js P n ops o).run k' E H=.ok f H':=by
 unfold Js at h ⊢;cases g:Jv n o.dst with
 |none=>rw[g] at h;cases h
 |some p =>
  rw[g] at h;dsimp only at h ⊢;cases j:(Lq ops o).run E with
  |false=>rw[j] at h;exact h
  |true =>
   rw[j] at h;dsimp only at h ⊢;cases a:(Gw P o.op).run E H with
   |no=>rw[a] at h;cases h
   |val v l=>rw[a] at h;exact h
   |call t args =>
    rw[a] at h;dsimp only at h ⊢;cases d:k t args H with
    |no=>rw[d] at h;cases h
    |ok v l=>rw[d] at h;rw[hk _ _ _ _ _ d];exact h
def z9h {r:OE}{f:Tr AV→Heap→OE}{a:Tr AV}{H':Heap}(h:(OE.rec .no f r:OE)=.ok a H'):∃E1 H1,r=.ok E1 H1∧f E1 H1=.ok a H':=by
 cases r with
 |no=>cases h
 |ok E1 H1=>exact⟨E1,H1,rfl,h⟩
def zbv {P:Program}{n:Nat}{ops:Array Oper}{k k':J2}(hk:k.le k'):∀{l:List Oper} {E a:Tr AV} {H H':Heap},(bh P n ops l).run k E H=.ok a H'→(bh P n ops l).run k' E H=.ok a H'
 |[],_,_,_,_,h=>h
 |o::l,E,a,H,H',h=>by
  simp only[bh] at h ⊢;obtain⟨E1,H1,d,f⟩:=z9h h;rw[z3x hk d];exact zbv hk f
def z5j {P:Program}{n:Nat}{ops:Array Oper}{k k':J2}(hk:k.le k'):∀{l pend:List DOp} {E f:Tr AV} {H H':Heap},(Ob P n ops l pend).run k E H=.ok f H'→(Ob P n ops l pend).run k' E H=.ok f H'
 |[],_,_,_,_,_,h=>h
 |x::l,pend,E,f,H,H',h=>by
  simp only[Ob] at h ⊢;split at h
  ·rename_i g;obtain⟨E1,H1,a,d⟩:=z9h h;dsimp only;rw[z3x hk a];exact z5j hk d
  ·rename_i g;obtain⟨E1,H1,a,d⟩:=z9h h;dsimp only;rw[z3x hk a];exact z5j hk d
  ·rename_i g;obtain⟨E1,H1,a,d⟩:=z9h h;obtain⟨j,m⟩:=za0 d;dsimp only;rw[z3x hk a];dsimp only;rw[j];exact z5j hk m
  ·rename_i g;obtain⟨E1,H1,a,d⟩:=z9h h;obtain⟨j,m⟩:=za0 d;dsimp only;rw[z3x hk a];dsimp only;rw[j];exact z5j hk m
def zn6 {P:Program}{n:Nat}{ops:Array Oper}{k k':J2}(hk:k.le k'){E a:Tr AV}{H H':Heap}(h:(ue P n ops).run k E H=.ok a H'):(ue P n ops).run k' E H=.ok a H':=by
 unfold ue at h ⊢;dsimp only at h ⊢;split at h
 ·exact z5j hk h
 ·cases h
def zcr {f g:Tr AV→List Nat→Heap→Res}(l:∀E D H x a d H',f E D H=.ok x a d H'→g E D H=.ok x a d H'):∀{m j:Nat},m≤j→∀{E D H x a d H'},Wp f m E D H=.ok x a d H'→Wp g j E D H=.ok x a d H'
 |0,_,_,_,_,_,_,_,_,_,h=>by cases h
 |m+1,0,hm,_,_,_,_,_,_,_,_=>by omega
 |m+1,j+1,hm,E,D,H,x,a,d,H',h=>by
  simp only[Wp] at h ⊢;split at h
  ·cases h
  ·rename_i y E1 p H1 o;rw[l _ _ _ _ _ _ _ o];dsimp only;split at h
   ·exact zcr l (by omega) h
   ·exact h
def o7 {P:Program}{f n:Nat}{k k':J2}(hk:k.le k'){m w:Nat}(hm:m≤w){ro:Option Nat}:∀(c:Code) {E:Tr AV} {D:List Nat} {H:Heap} {x:Ex} {d:Tr AV} {j:List Nat} {H':Heap},
  (I0 P f n c).run k m ro E D H=.ok x d j H'→(I0 P f n c).run k' w ro E D H=.ok x d j H':=by
 intro c
 induction c with
 |skip=>intro E D H x d j H' h;exact h
 |region id ops draw =>
  intro E D H x d j H' h;simp only[I0] at h ⊢;cases draw with
  |true =>
   dsimp only at h ⊢;split at h
   ·cases h
   ·rename_i E1 H1 o;rw[zn6 hk o];exact h
  |false =>
   dsimp only at h ⊢;split at h
   ·cases h
   ·rename_i E1 H1 o;rw[zbv hk o];exact h
 |seq a b p q =>
  intro E D H x d j H' h;simp only[I0] at h ⊢;cases s:(I0 P f n a).run k m ro E D H with
  |no=>rw[s] at h;cases h
  |ok y E1 z H1 =>
   rw[s] at h;rw[p s];dsimp only at h ⊢;cases y with
   |normal=>exact q h
   |exit id=>exact h
   |ret=>exact h
 |cond c a b p q =>
  intro E D H x d j H' h;simp only[I0] at h ⊢;split at h
  ·split at h
   ·exact p h
   ·exact q h
  ·cases h
 |block id c r =>
  intro E D H x d j H' h;simp only[I0] at h ⊢;split at h
  ·cases h
  ·rename_i y E1 z H1 o;rw[r o];exact h
 |loop c r =>
  intro E D H x d j H' h;simp only[I0] at h ⊢;exact zcr (fun E D H x d j H' h=>r h) hm h
 |rangeFunc g A a b _ _ =>
  intro E D H x d j H' h;simp only[I0] at h ⊢;split at h
  ·cases h
  ·split at h
   ·cases h
   ·split at h
    ·split at h
     ·cases h
     ·rename_i v B o;rw[hk _ _ _ _ _ o];exact h
    ·cases h
 |exit id=>intro E D H x d j H' h;exact h
 |scope c r=>intro E D H x d j H' h;exact r h
 |label l=>intro E D H x d j H' h;exact h
 |ret=>intro E D H x d j H' h;exact h
 |_=>intro E D H x d j H' h;cases h
def zrp {P:Program}{f:Nat}{k k':J2}(hk:k.le k'){m d:Nat}(hm:m≤d){args:List AV}{H:Heap}{v:AV}{H':Heap}(h:(oc P f).run k m args H=.ok v H'):(oc P f).run k' d args H=.ok v H':=by
 unfold oc at h ⊢;cases g:P.funcs[f]? with
 |none=>rw[g] at h;cases h
 |some fn =>
  rw[g] at h;dsimp only at h ⊢;cases j:fn.body with
  |none=>rw[j] at h;cases h
  |some body =>
   rw[j] at h;dsimp only at h ⊢;by_cases l:fn.ntmps≤I6
   ·rw[Ag l] at h ⊢;dsimp only at h ⊢;cases o:Nat.ble args.length fn.ntmps with
    |false=>rw[o] at h;cases h
    |true =>
     rw[o] at h;dsimp only at h ⊢;cases a:(I0 P f fn.ntmps body).run k m none (Kd args 0 .e) [] H with
     |no=>rw[a] at h;cases h
     |ok x E D H1=>rw[a] at h;rw[o7 hk hm _ a];exact h
   ·rw[Ab l] at h;cases h
def Z0 {P:Program}{O:J2}:∀{m g:Nat},m≤g→J2.le (K8 P O m) (K8 P O g)
 |0,_,_=>fun t a H v H' h=>by cases h
 |m+1,0,h=>by omega
 |m+1,g+1,hm=>by
  have j:=Z0 (P:=P) (O:=O) (show m≤g by omega);intro t a H v H' h;unfold K8 at h ⊢;cases t with
  |fn f =>
   dsimp only at h ⊢;cases ho:O (.fn f) a H with
   |no=>rw[ho] at h;exact zrp j (by omega) h
   |ok v1 H1=>rw[ho] at h;exact h
  |yield l =>
   dsimp only at h ⊢;split at h
   ·rename_i f n E s A b d B;cases q:zyb s.toList a n E with
    |none=>rw[q] at h;cases h
    |some E1 =>
     rw[q] at h;dsimp only at h ⊢;split at h
     ·rename_i w y z;rw[o7 j (by omega) _ z];dsimp only;cases r:zts l y with
      |none=>rw[r] at h;cases h
      |some o =>
       rw[r] at h;dsimp only at h ⊢;cases p:(I0 P f n b).run (K8 P O m) m (some l) w [] o with
       |no=>rw[p] at h;cases h
       |ok x C D F=>rw[p] at h;rw[o7 j (by omega) _ p];exact h
     ·cases h
   ·cases h
end Go.Sv
noncomputable section
namespace Go.Sv
abbrev X0:=Nat→Option AV
def Oo (E:Tr AV)(ρ:X0):Prop:=∀t,t≤I6→Fk (F7 t) E=ρ t
inductive Ox where
 |t (i:Nat)
 |c (a:AV)
def Ox.ev (ρ:X0):Ox→AV
 |.t i=>(ρ i).getD Km
 |.c a=>a
def He:Operand→Option Ox
 |.tmp t=>if t≤I6 then some (.t t) else none
 |.const v=>(Qr v).map .c
 |.func f=>some (.c (.fn (.func f) [] []))
 |.global _=>none
def Nm {x:Operand}{r:Ox}(h:He x=some r){E:Tr AV}{ρ:X0}(j:Oo E ρ):(F8 x).run E=some (r.ev ρ):=by
 cases x with
 |tmp t =>
  simp only[He] at h;split at h
  ·rename_i d;cases h;unfold F8;dsimp only;rw[Ak d];dsimp only;rw[j t d];simp only[Ox.ev];cases ρ t<;>rfl
  ·cases h
 |const v =>
  simp only[He] at h;cases hv:Qr v with
  |none=>rw[hv] at h;cases h
  |some a=>rw[hv] at h;cases h;unfold F8;dsimp only;rw[hv];rfl
 |global g=>cases h
 |func f=>cases h;rfl
def bf:List Operand→Option (List Ox)
 |[]=>some []
 |x::l=>match He x with
  |none=>none
  |some r=>match bf l with
   |none=>none
   |some rs=>some (r::rs)
def resOs_ok:∀{l:List Operand} {rs:List Ox},bf l=some rs→∀{E:Tr AV} {ρ:X0},Oo E ρ→(opds l).run E=some (rs.map (·.ev ρ))
 |[],rs,h,E,ρ,a=>by cases h;rfl
 |x::l,rs,h,E,ρ,a=>by
  simp only[bf] at h;cases d:He x with
  |none=>rw[d] at h;cases h
  |some r =>
   rw[d] at h;dsimp only at h;cases f:bf l with
   |none=>rw[f] at h;cases h
   |some g =>
    rw[f] at h;cases h;unfold opds;dsimp only;rw[Nm d a,resOs_ok f a];rfl
def bn:Option Operand→Option (Option Ox)
 |none=>some none
 |some x=>match He x with
  |none=>none
  |some r=>some (some r)
def Ip (ρ:X0):Option Ox→Option (Option Nat)
 |none=>some none
 |some r=>match r.ev ρ with
  |.int _ (.ofNat n)=>some (some n)
  |_=>none
def m8 {x:Option Operand}{r:Option Ox}(h:bn x=some r){E:Tr AV}{ρ:X0}(f:Oo E ρ):(I7 x).run E=Ip ρ r:=by
 cases x with
 |none=>cases h;rfl
 |some x =>
  simp only[bn] at h;cases d:He x with
  |none=>rw[d] at h;cases h
  |some q =>
   rw[d] at h;cases h;unfold I7 Ip;dsimp only;rw[Nm d f];generalize q.ev ρ=a;split
   ·rename_i n e;cases e;rfl
   ·rename_i e;split
    ·rename_i k n;exact absurd rfl (e k n)
    ·rfl
inductive ROp where
 |move (x:Ox)
 |pick (c a b:Ox)
 |alloc (l:List AV)
 |box (x:Ox)
 |build (cs:List AV) (ps:List (Nat×Nat×Ox))
 |buildSl (size len:Nat) (cs:List AV) (ps:List (Nat×Nat×Ox))
 |load1 (x:Ox)
 |loadN (n:Nat) (x:Ox)
 |store (n:Nat) (x y:Ox)
 |nilChk (x:Ox)
 |bin (op:BinOp) (g:Bool) (t:TypeId) (x y:Ox)
 |un (op:UnOp) (x:Ox)
 |cvInt (k:IntKind) (x:Ox)
 |cvStr (x:Ox)
 |cvSame (x:Ox)
 |cvBytes (x:Ox)
 |mkIface (t:TypeId) (x:Ox)
 |mkFunc (f:Fn) (first cap:List Ox)
 |mkMap0
 |mkMap1 (x:Ox)
 |mkSl (size:Nat) (z:List AV) (l c:Ox)
 |slStr (x:Ox) (lo hi:Option Ox)
 |slSl (size:Nat) (x:Ox) (lo hi mx:Option Ox)
 |slArr (n size:Nat) (x:Ox) (lo hi mx:Option Ox)
 |fieldAddr (off:Nat) (x:Ox)
 |field (g:Bool) (n off:Nat) (x:Ox)
 |ixAddr (size:Nat) (x i:Ox)
 |ixAddrArr (len size:Nat) (x i:Ox)
 |ixStr (x i:Ox)
 |ixArr (g:Bool) (len size:Nat) (x i:Ox)
 |lookup (d:TypeDesc) (z:AV) (ok:Bool) (x i:Ox)
 |mapUpd (d:TypeDesc) (m k v:Ox)
 |range (x:Ox)
 |next (x:Ox)
 |assert (z:AV) (ok:Bool) (t:TypeId) (x:Ox)
 |extract (i:Nat) (x:Ox)
 |lenStr (x:Ox)
 |lenSl (x:Ox)
 |lenMap (x:Ox)
 |lenArr (n:Nat) (x:Ox)
 |cap (x:Ox)
 |maxi (mx:Bool) (l:List Ox)
 |appZ (size:Nat) (z:List AV) (s x:Ox)
 |appG (size:Nat) (s x:Ox)
 |copy (size:Nat) (d x:Ox)
 |clear (size:Nat) (z:List AV) (x:Ox)
 |delete (d:TypeDesc) (m k:Ox)
 |callV (f:Ox) (args:List Ox)
 |invoke (r:Ox) (name:String) (args:List Ox)
def fillR (ρ:X0)(cs:List AV):List (Nat×Nat×Ox)→Option (List AV)
 |[]=>some cs
 |(off,size,x)::a=>match (x.ev ρ).cells with
  |none=>none
  |some l=>match Nat.beq l.length size with
   |true=>match Nat.ble (Nat.add off size) cs.length with
    |true=>fillR ρ (Nj cs off l) a
    |false=>none
   |false=>none
def Ht (P:Program)(ρ:X0)(H:Heap):ROp→OR
 |.move x=>.val (x.ev ρ) H
 |.pick c a b=>match c.ev ρ with
  |.bool true=>.val (a.ev ρ) H
  |.bool false=>.val (b.ev ρ) H
  |_=>.no
 |.alloc l=>Q0 H l
 |.box x=>match (x.ev ρ).cells with
  |some l=>Q0 H l
  |none=>.no
 |.build cs q=>match fillR ρ cs q with
  |some l=>.val (.agg l) H
  |none=>.no
 |.buildSl size len cs q=>match fillR ρ cs q with
  |some l=>match newObj H l with
   |some (o,H')=>.val (.sl o 0 0 len size (some len)) H'
   |none=>.no
  |none=>.no
 |.load1 x=>match x.ev ρ with
  |.ptr o v i=>match Jx H o v i 1 with
   |some [c]=>.val c H
   |_=>.no
  |_=>.no
 |.loadN n x=>match x.ev ρ with
  |.ptr o v i=>match Jx H o v i n with
   |some l=>.val (.agg l) H
   |none=>.no
  |_=>.no
 |.store n x y=>match x.ev ρ with
  |.ptr o v i=>match (y.ev ρ).cells with
   |some l=>match Nat.beq l.length n with
    |true=>match Qh H o v i l with
     |some H'=>.val Km H'
     |none=>.no
    |false=>.no
   |none=>.no
  |_=>.no
 |.nilChk x=>ur H (x.ev ρ)
 |.bin op g t x y=>ret1 H (Im P op g t (x.ev ρ) (y.ev ρ))
 |.un op x=>ret1 H (unA op (x.ev ρ))
 |.cvInt k x=>match x.ev ρ with
  |.int _ n=>.val (.int k (Ok k n)) H
  |_=>.no
 |.cvStr x=>match x.ev ρ with
  |.nilSl=>.val (.str 0 0) H
  |.sl o v i len 1 _=>match Jx H o v i len with
   |some l=>match P8.bytesA l with
    |some n=>.val (.str len n) H
    |none=>.no
   |none=>.no
  |_=>.no
 |.cvSame x=>match x.ev ρ with
  |.str l n=>.val (.str l n) H
  |_=>.no
 |.cvBytes x=>match x.ev ρ with
  |.str len n=>match newObj H ((Pv len n).map fun (b:Nat)=>AV.int .u8 (Int.ofNat b)) with
   |some (o,H')=>.val (.sl o 0 0 len 1 none) H'
   |none=>.no
  |_=>.no
 |.mkIface t x=>.val (.iface t (x.ev ρ)) H
 |.mkFunc f first cap=>.val (.fn f (first.map (·.ev ρ)) (cap.map (·.ev ρ))) H
 |.mkMap0=>S0 H
 |.mkMap1 x=>match x.ev ρ with
  |.int _ _=>S0 H
  |_=>.no
 |.mkSl size z l c=>match l.ev ρ,c.ev ρ with
  |.int .i64 (.ofNat l),.int .i64 (.ofNat c)=>match Nat.ble l c with
   |true=>match Nat.ble c 1048576 with
    |true=>match newObj H (Mc z c) with
     |some (o,H')=>.val (.sl o 0 0 l size (some c)) H'
     |none=>.no
    |false=>.no
   |false=>.no
  |_,_=>.no
 |.slStr x lo hi=>match x.ev ρ,Ip ρ lo,Ip ρ hi with
  |.str len n,some lo,some hi =>
   let l:=lo.getD 0;let h:=hi.getD len
   match Nat.ble l h with
   |true=>match Nat.ble h len with
    |true=>.val (.str (Nat.sub h l) (Nat.mod (Nat.div n (Nat.pow 256 l)) (Nat.pow 256 (Nat.sub h l)))) H
    |false=>.no
   |false=>.no
  |_,_,_=>.no
 |.slSl size x lo hi mx=>match x.ev ρ,Ip ρ lo,Ip ρ hi,Ip ρ mx with
  |.sl o v i len esz room,some lo,some hi,some mx=>ret1 H (O2 size lo hi mx o v i len esz room)
  |.nilSl,some lo,some hi,some none=>match Nat.beq (Nat.add (lo.getD 0) (hi.getD 0)) 0 with
   |true=>.val .nilSl H
   |false=>.no
  |.emp,some lo,some hi,some none=>match Nat.beq (Nat.add (lo.getD 0) (hi.getD 0)) 0 with
   |true=>.val .emp H
   |false=>.no
  |_,_,_,_=>.no
 |.slArr n size x lo hi mx=>match x.ev ρ,Ip ρ lo,Ip ρ hi,Ip ρ mx with
  |.ptr o v i,some lo,some hi,some mx=>match H.get o with
   |some (.cells _ p w false)=>match Nat.beq v w with
    |true=>match Nat.ble (Nat.add i (Nat.mul n size)) p with
     |true=>ret1 H (O2 size lo hi mx o v i n size (some n))
     |false=>.no
    |false=>.no
   |_=>.no
  |_,_,_,_=>.no
 |.fieldAddr off x=>match x.ev ρ with
  |.ptr o v i=>.val (.ptr o v (Nat.add i off)) H
  |_=>.no
 |.field g n off x=>match x.ev ρ with
  |.agg l=>ret1 H (Wv g n l off)
  |_=>.no
 |.ixAddr size x i=>match x.ev ρ,i.ev ρ with
  |.sl o v i len esz _,.int _ (.ofNat n)=>match Nat.blt n len with
   |true=>match Nat.beq esz size with
    |true=>.val (.ptr o v (Nat.add i (Nat.mul n esz))) H
    |false=>.no
   |false=>.no
  |_,_=>.no
 |.ixAddrArr len size x i=>match x.ev ρ,i.ev ρ with
  |.ptr o v i,.int _ (.ofNat n)=>match Nat.blt n len with
   |true=>.val (.ptr o v (Nat.add i (Nat.mul n size))) H
   |false=>.no
  |_,_=>.no
 |.ixStr x i=>match x.ev ρ,i.ev ρ with
  |.str len n,.int _ (.ofNat i)=>match Nat.blt i len with
   |true=>.val (.int .u8 (Int.ofNat (Nat.mod (Nat.div n (Nat.pow 256 i)) 256))) H
   |false=>.no
  |_,_=>.no
 |.ixArr g len size x i=>match x.ev ρ,i.ev ρ with
  |.agg l,.int _ (.ofNat n)=>match Nat.blt n len with
   |true=>ret1 H (Wv g size l (Nat.mul n size))
   |false=>.no
  |_,_=>.no
 |.lookup d z ok x i=>match zy9 H (x.ev ρ) with
  |none=>.no
  |some es=>match oh d (i.ev ρ) es with
   |some (some v)=>.val (if ok then .tup [v,.bool true] else v) H
   |some none=>.val (if ok then .tup [z,.bool false] else z) H
   |none=>.no
 |.mapUpd d m k v=>match m.ev ρ with
  |.map o=>match H.get o with
   |some (.map es clock)=>match np d (k.ev ρ) (v.ev ρ) clock es with
    |some (j,true)=>.val Km (H.put o (.map j (Nat.add clock 1)))
    |some (j,false)=>.val Km (H.put o (.map j clock))
    |none=>.no
   |_=>.no
  |_=>.no
 |.range x=>match x.ev ρ with
  |.str len n=>.val (.ptr H.next 0 0) (H.push (.iter len n 0))
  |_=>.no
 |.next x=>match x.ev ρ with
  |.ptr o 0 0=>match H.get o with
   |some (.iter len n pos)=>match Nat.blt pos len with
    |true=>match Nat.blt (Nat.mod (Nat.div n (Nat.pow 256 pos)) 256) 128 with
     |true=>.val (.tup [.bool true,.int .i64 (Int.ofNat pos),.int .i32 (Int.ofNat (Nat.mod (Nat.div n (Nat.pow 256 pos)) 256))]) (H.put o (.iter len n (Nat.add pos 1)))
     |false=>.no
    |false=>.val (.tup [.bool false]) H
   |_=>.no
  |_=>.no
 |.assert z ok t x=>match x.ev ρ with
  |.nilIf=>if ok then .val (.tup [z,.bool false]) H else .no
  |.iface A v=>match Nat.beq A t with
   |true=>.val (if ok then .tup [v,.bool true] else v) H
   |false=>if ok then .val (.tup [z,.bool false]) H else .no
  |_=>.no
 |.extract i x=>match x.ev ρ with
  |.tup l=>ret1 H l[i]?
  |_=>.no
 |.lenStr x=>match x.ev ρ with
  |.str l _=>.val (.int .i64 (Int.ofNat l)) H
  |_=>.no
 |.lenSl x=>match x.ev ρ with
  |.sl _ _ _ len _ _=>.val (.int .i64 (Int.ofNat len)) H
  |.nilSl=>.val (.int .i64 0) H
  |.emp=>.val (.int .i64 0) H
  |_=>.no
 |.lenMap x=>match x.ev ρ with
  |.nilMap=>.val (.int .i64 0) H
  |.map o=>match H.get o with
   |some (.map es _)=>.val (.int .i64 (Int.ofNat es.length)) H
   |_=>.no
  |_=>.no
 |.lenArr n _=>.val (.int .i64 (Int.ofNat n)) H
 |.cap x=>match x.ev ρ with
  |.nilSl=>.val (.int .i64 0) H
  |.sl _ _ _ _ _ (some r)=>.val (.int .i64 (Int.ofNat r)) H
  |_=>.no
 |.maxi mx l=>match (l.map (fun (x:Ox)=>x.ev ρ):List AV) with
  |.int k n::l=>ret1 H (Vd mx (.int k n) l)
  |_=>.no
 |.appZ size z s x=>match x.ev ρ with
  |.int .i64 (.ofNat n)=>match Nat.ble n 1048576 with
   |true=>Qm H size (s.ev ρ) n (Mc z n)
   |false=>.no
  |_=>.no
 |.appG size s x=>match Yy H size (x.ev ρ) with
  |some (n,l)=>match Nat.ble n 1048576 with
   |true=>Qm H size (s.ev ρ) n l
   |false=>.no
  |none=>.no
 |.copy size d x=>match Yy H size (x.ev ρ) with
  |some (n,l)=>match d.ev ρ with
   |.nilSl=>.val (.int .i64 0) H
   |.emp=>.val (.int .i64 0) H
   |.sl o v i len esz _=>match Nat.beq esz size with
    |true=>match Qh H o v i (l.take (Nat.mul (I8 n len) size)) with
     |some H'=>.val (.int .i64 (Int.ofNat (I8 n len))) H'
     |none=>.no
    |false=>.no
   |_=>.no
  |none=>.no
 |.clear size z x=>match x.ev ρ with
  |.nilSl=>.val Km H
  |.emp=>.val Km H
  |.sl o v i len esz _=>match Nat.beq esz size with
   |true=>match Qh H o v i (Mc z len) with
    |some H'=>.val Km H'
    |none=>.no
   |false=>.no
  |_=>.no
 |.delete d m k=>match m.ev ρ with
  |.map o=>match H.get o with
   |some (.map es clock)=>match ziq d (k.ev ρ) es with
    |some j=>.val Km (H.put o (.map j clock))
    |none=>.no
   |_=>.no
  |_=>.no
 |.callV f args=>zhy P H (f.ev ρ) (args.map (·.ev ρ))
 |.invoke r name args=>match r.ev ρ with
  |.iface t v=>match zhw P t name with
   |some f=>match gq P f with
    |true=>.call (.fn f) (v::args.map (·.ev ρ))
    |false=>.no
   |none=>.no
  |_=>.no
def au (place:Nat→Option (Nat×Nat)):List (Nat×Operand)→Option (List (Nat×Nat×Ox))
 |[]=>some []
 |(i,x)::l=>match place i with
  |none=>none
  |some (o,s)=>match He x with
   |none=>none
   |some r=>match au place l with
    |none=>none
    |some q=>some ((o,s,r)::q)
def Ib (x:Operand)(f:Ox→ROp):Option ROp:=match He x with
 |none=>none
 |some r=>some (f r)
def Ki (x y:Operand)(f:Ox→Ox→ROp):Option ROp:=match He x with
 |none=>none
 |some r=>match He y with
  |none=>none
  |some q=>some (f r q)
def zhg (size:Nat)(f:Nat→Ox→Option Ox→Option Ox→Option Ox→ROp)(x:Operand)(lo hi mx:Option Operand):Option ROp :=
 match He x,bn lo,bn hi,bn mx with
 |some r,some a,some b,some c=>some (f size r a b c)
 |_,_,_,_=>none
def zrk (P:Program)(c:Call):Option ROp :=
 match c.callee with
 |.builtin b=>match b with
  |.len=>match c.argTypes.toList,c.args.toList with
   |[t],[x]=>match P.underlying t with
    |some .string=>Ib x .lenStr
    |some (.slice _)=>Ib x .lenSl
    |some (.map _ _)=>Ib x .lenMap
    |some (.array n _)=>Ib x (.lenArr n)
    |_=>none
   |_,_=>none
  |.cap=>match c.argTypes.toList,c.args.toList with
   |[t],[x]=>match P.underlying t with
    |some (.slice _)=>Ib x .cap
    |_=>none
   |_,_=>none
  |.max=>match bf c.args.toList with
   |some l=>some (.maxi true l)
   |none=>none
  |.min=>match bf c.args.toList with
   |some l=>some (.maxi false l)
   |none=>none
  |.append=>match c.argTypes.toList,c.args.toList with
   |[st,a],[s,x]=>match P.underlying st,P.underlying a with
    |some (.slice elem),some d=>match P.info? elem,Ln P elem with
     |some i,some z=>if 0<i.size∧i.bytes≤65536 then match d with
      |.int _=>Ki s x (.appZ i.size z)
      |.slice _=>Ki s x (.appG i.size)
      |.string=>Ki s x (.appG i.size)
      |_=>none
      else none
     |_,_=>none
    |_,_=>none
   |_,_=>none
  |.copy=>match c.argTypes.toList,c.args.toList with
   |[st,_],[d,x]=>match P.underlying st with
    |some (.slice elem)=>match H0 P elem with
     |none=>none
     |some size=>if 0<size then Ki d x (.copy size) else none
    |_=>none
   |_,_=>none
  |.clear=>match c.argTypes.toList,c.args.toList with
   |[st],[x]=>match P.underlying st with
    |some (.slice elem)=>match H0 P elem,Ln P elem with
     |some size,some z=>if 0<size then Ib x (.clear size z) else none
     |_,_=>none
    |_=>none
   |_,_=>none
  |.delete=>match c.argTypes.toList,c.args.toList with
   |[mt,_],[m,k]=>match P.underlying mt with
    |some (.map key _)=>match Ow P key with
     |some d=>Ki m k (.delete d)
     |none=>none
    |_=>none
   |_,_=>none
  |_=>none
 |.value f=>match He f,bf c.args.toList with
  |some g,some l=>some (.callV g l)
  |_,_=>none
 |.invoke r name=>match He r,bf c.args.toList with
  |some g,some l=>some (.invoke g name l)
  |_,_=>none
def Li (P:Program)(o:Op):Option ROp :=
 match o with
 |.move x |.assign x=>Ib x .move
 |.pick c a b=>match He c,He a,He b with
  |some c,some a,some b=>some (.pick c a b)
  |_,_,_=>none
 |.alloc t=>match Ln P t with
  |some l=>some (.alloc l)
  |none=>none
 |.box _ x=>Ib x .box
 |.build t parts=>match Ln P t with
  |none=>none
  |some cs=>match P.underlying t with
   |some (.struct fields)=>match zcn P fields.toList with
    |none=>none
    |some pl=>match au (pl[·]?) parts.toList with
     |none=>none
     |some h=>some (.build cs h)
   |some (.array _ elem)=>match H0 P elem with
    |none=>none
    |some size=>match au (fun i=>some (i*size,size)) parts.toList with
     |none=>none
     |some h=>some (.build cs h)
   |_=>none
 |.buildSlice t len parts=>match P.underlying t with
  |some (.slice elem)=>match H0 P elem with
   |none=>none
   |some size=>match Ln P elem with
    |none=>none
    |some z=>if len*size≤2^20∧0<size then
      match au (fun i=>some (i*size,size)) parts.toList with
      |none=>none
      |some h=>some (.buildSl size len (Mc z len) h)
     else none
  |_=>none
 |.load t a=>match Lv P t,H0 P t with
  |some true,some n=>Ib a (.loadN n)
  |some false,some _=>Ib a .load1
  |_,_=>none
 |.store t a x=>match H0 P t with
  |some n=>Ki a x (.store n)
  |none=>none
 |.nilCheck x=>Ib x .nilChk
 |.binOp op t x y _=>Ki x y (.bin op (Q5 x || Q5 y) t)
 |.unOp op _ x=>Ib x (.un op)
 |.convert s d x=>match P.underlying s,P.underlying d with
  |some _,some (.int k)=>Ib x (.cvInt k)
  |some (.slice e),some .string=>match P.underlying e with
   |some (.int .u8)=>Ib x .cvStr
   |_=>none
  |some _,some .string=>Ib x .cvSame
  |some _,some (.slice e)=>match P.underlying e,H0 P e with
   |some (.int .u8),some 1=>Ib x .cvBytes
   |_,_=>none
  |_,_=>none
 |.makeInterface t x=>match P.underlying t with
  |some (.interface _)=>none
  |some _=>Ib x (.mkIface t)
  |none=>none
 |.makeFunc f first cap=>match f with
  |.yield _=>none
  |f=>match bf first.toList,bf cap.toList with
   |some a,some b=>some (.mkFunc f a b)
   |_,_=>none
 |.makeMap t r=>match r with
  |none=>some .mkMap0
  |some x=>match P.underlying t with
   |some (.map _ _)=>Ib x .mkMap1
   |_=>none
 |.makeSlice t l c=>match P.underlying t with
  |some (.slice elem)=>match P.info? elem with
   |none=>none
   |some i=>match Ln P elem with
    |none=>none
    |some z=>if 0<i.size∧i.bytes≤2^16 then Ki l c (.mkSl i.size z) else none
  |_=>none
 |.slice t x lo hi mx=>match P.underlying t with
  |some .string=>match mx with
   |some _=>none
   |none=>match He x,bn lo,bn hi with
    |some r,some a,some b=>some (.slStr r a b)
    |_,_,_=>none
  |some (.slice elem)=>if mx.isSome&&hi.isNone then none else match H0 P elem with
   |none=>none
   |some size=>zhg size .slSl x lo hi mx
  |some (.array n elem)=>if mx.isSome&&hi.isNone then none else match H0 P elem with
   |none=>none
   |some size=>zhg size (.slArr n) x lo hi mx
  |_=>none
 |.fieldAddr s x f=>match P.underlying s with
  |some (.struct fields)=>match fields[f]? with
   |none=>none
   |some fd=>match H0 P fd.type with
    |none=>none
    |some 0=>none
    |some _=>Ib x (.fieldAddr fd.offset)
  |_=>none
 |.field t x f=>match P.underlying t with
  |some (.struct fields)=>match fields[f]? with
   |none=>none
   |some fd=>match Lv P fd.type,H0 P fd.type with
    |some g,some n=>Ib x (.field g n fd.offset)
    |_,_=>none
  |_=>none
 |.indexAddr t x i=>match P.underlying t with
  |some (.slice elem)=>match H0 P elem with
   |none=>none
   |some size=>Ki x i (.ixAddr size)
  |some (.array len elem)=>match H0 P elem with
   |none=>none
   |some size=>Ki x i (.ixAddrArr len size)
  |_=>none
 |.index t x i=>match P.underlying t with
  |some .string=>Ki x i .ixStr
  |some (.array len elem)=>match Lv P elem,H0 P elem with
   |some g,some size=>Ki x i (.ixArr g len size)
   |_,_=>none
  |_=>none
 |.lookup t x i ok=>match P.underlying t with
  |some (.map key elem)=>match Ow P key,yp P elem with
   |some d,some z=>Ki x i (.lookup d z ok)
   |_,_=>none
  |_=>none
 |.mapUpdate t m k x |.insert t m k x=>match P.underlying t with
  |some (.map key _)=>match Ow P key with
   |some d=>match He m,He k,He x with
    |some m,some k,some x=>some (.mapUpd d m k x)
    |_,_,_=>none
   |none=>none
  |_=>none
 |.range t x=>match P.underlying t with
  |some .string=>Ib x .range
  |_=>none
 |.next it s=>if s then Ib it .next else none
 |.typeAssert x _ t ok=>match P.underlying t with
  |some (.interface _)=>none
  |some _=>match yp P t with
   |none=>none
   |some z=>Ib x (.assert z ok t)
  |none=>none
 |.extract t i=>Ib t (.extract i)
 |.call c=>zrk P c
 |_=>none
end Go.Sv
namespace Go.Sv
section ok
variable {P : Program} {E : Tr AV} {ρ : X0}
def M5 {x:Operand}{f:Ox→ROp}{r:ROp}(h:Ib x f=some r):∃q,He x=some q∧r=f q:=by
 unfold Ib at h;cases a:He x with
 |none=>rw[a] at h;cases h
 |some q=>rw[a] at h;cases h;exact⟨q,rfl,rfl⟩
def Td {x y:Operand}{f:Ox→Ox→ROp}{r:ROp}(h:Ki x y f=some r):∃q p,He x=some q∧He y=some p∧r=f q p:=by
 unfold Ki at h;cases a:He x with
 |none=>rw[a] at h;cases h
 |some q =>
  rw[a] at h;dsimp only at h;cases d:He y with
  |none=>rw[d] at h;cases h
  |some p=>rw[d] at h;cases h;exact⟨q,p,rfl,rfl,rfl⟩
def Na (d:Oo E ρ){x:Operand}{q:Ox}(g:He x=some q)(f:Heap→AV→OR)(H:Heap):(I5 x f).run E H=f H (q.ev ρ):=by
 show (Option.rec OR.no (fun a=>f H a) ((F8 x).run E):OR)=_;rw[Nm g d]
def Ub (d:Oo E ρ){x y:Operand}{q p:Ox}(g:He x=some q)(h:He y=some p)(f:Heap→AV→AV→OR)(H:Heap):(Mp x y f).run E H=f H (q.ev ρ) (p.ev ρ):=by
 show (Option.rec OR.no (fun a=>Option.rec OR.no (fun b=>f H a b) ((F8 y).run E)) ((F8 x).run E):OR)=_;rw[Nm g d,Nm h d]
def zbb (j:Oo E ρ){place:Nat→Option (Nat×Nat)}:∀{l:List (Nat×Operand)} {d:List (Nat×Nat×Ox)} {cs:List AV},au place l=some d→∃f,ae place l=some f∧Xs cs f E=fillR ρ cs d
 |[],d,cs,h=>by cases h;exact⟨[],rfl,rfl⟩
 |(i,x)::l,d,cs,h=>by
  simp only[au] at h;cases m:place i with
  |none=>rw[m] at h;cases h
  |some os =>
   obtain⟨o,s⟩:=os;rw[m] at h;dsimp only at h;cases p:He x with
   |none=>rw[p] at h;cases h
   |some r =>
    rw[p] at h;dsimp only at h;cases g:au place l with
    |none=>rw[g] at h;cases h
    |some q =>
     rw[g] at h;cases h;obtain⟨f,y,_⟩:=zbb j (cs:=cs) g;refine⟨⟨o,s,F8 x⟩::f,by simp only[ae,m,y],?_⟩;simp only[Xs,fillR];rw[Nm p j];dsimp only;cases (r.ev ρ).cells with
     |none=>rfl
     |some c =>
      dsimp only;cases Nat.beq c.length s with
      |false=>rfl
      |true =>
       dsimp only;cases Nat.ble (Nat.add o s) cs.length with
       |false=>rfl
       |true =>
        dsimp only;obtain⟨z,a,w⟩:=zbb j (cs:=Nj cs o c) g;rw[y] at a;cases a;exact w
def zig {size:Nat}{f:Nat→Ox→Option Ox→Option Ox→Option Ox→ROp}{x:Operand}{lo hi mx:Option Operand}{r:ROp}(h:zhg size f x lo hi mx=some r) :
  ∃q a b c,He x=some q∧bn lo=some a∧bn hi=some b∧bn mx=some c∧r=f size q a b c:=by
 unfold zhg at h;split at h
 ·rename_i q a b c d g j l;cases h;exact⟨q,a,b,c,d,g,j,l,rfl⟩
 ·cases h
def zwd (j:Oo E ρ){c:Call}{r:ROp}(h:zrk P c=some r)(H:Heap):(Zj P c).run E H=Ht P ρ H r:=by
 unfold zrk at h;unfold Zj;split at h
 ·rename_i b L;rw[L];dsimp only;split at h
  ·split at h
   ·rename_i t x w o;rw[w,o];dsimp only;unfold Ov;split at h<;>first
     |(cases h;done)
     | (rename_i hu
        obtain⟨q,a,rfl⟩:=M5 h;rw[hu];dsimp only;rw[Na j a];rfl)
   ·cases h
  ·split at h
   ·rename_i t x w o;rw[w,o];dsimp only;unfold Qy;split at h
    ·rename_i hu;obtain⟨q,a,rfl⟩:=M5 h;rw[hu];dsimp only;rw[Na j a];rfl
    ·cases h
   ·cases h
  ·split at h
   ·rename_i l B;cases h;simp only[Nf,Ht];rw[resOs_ok B j];generalize (l.map fun (x:Ox)=>x.ev ρ)=vs;rcases vs with _|⟨v,vs⟩
    ·rfl
    ·cases v<;>rfl
   ·cases h
  ·split at h
   ·rename_i l B;cases h;simp only[Nf,Ht];rw[resOs_ok B j];generalize (l.map fun (x:Ox)=>x.ev ρ)=vs;rcases vs with _|⟨v,vs⟩
    ·rfl
    ·cases v<;>rfl
   ·cases h
  ·split at h
   ·rename_i st K s x w o;unfold zjm;rw[w,o];dsimp only;split at h
    ·rename_i elem d D F;rw[D,F];split at h
     ·rename_i i z hi C;split at h
      ·rename_i G;split at h
       ·rename_i k;obtain⟨q,p,a,A,rfl⟩:=Td h;dsimp only;unfold zmp;rw[hi,C];dsimp only;rw[Ag G,Ub j a A];rfl
       ·obtain⟨q,p,a,A,rfl⟩:=Td h;dsimp only;unfold ql;rw[hi,C];dsimp only;rw[Ag G,Ub j a A];rfl
       ·obtain⟨q,p,a,A,rfl⟩:=Td h;dsimp only;unfold ql;rw[hi,C];dsimp only;rw[Ag G,Ub j a A];rfl
       ·cases h
      ·cases h
     ·cases h
    ·cases h
   ·cases h
  ·split at h
   ·rename_i st K d x w o;unfold zyr;rw[w,o];dsimp only;split at h
    ·rename_i elem hu;rw[hu];dsimp only;split at h
     ·cases h
     ·rename_i size I;split at h
      ·rename_i y;obtain⟨q,p,a,A,rfl⟩:=Td h;rw[I];dsimp only;rw[Ag y,Ub j a A];rfl
      ·cases h
    ·cases h
   ·cases h
  ·split at h
   ·rename_i st x w o;unfold zps;rw[w,o];dsimp only;split at h
    ·rename_i elem hu;rw[hu];dsimp only;split at h
     ·rename_i size z I C;split at h
      ·rename_i y;obtain⟨q,a,rfl⟩:=M5 h;rw[I,C];dsimp only;rw[Ag y,Na j a];rfl
      ·cases h
     ·cases h
    ·cases h
   ·cases h
  ·split at h
   ·rename_i mt K m k w o;unfold zjl;rw[w,o];dsimp only;split at h
    ·rename_i key e hu;rw[hu];dsimp only;split at h
     ·rename_i d hd;obtain⟨q,p,a,A,rfl⟩:=Td h;rw[hd];dsimp only;rw[Ub j a A];rfl
     ·cases h
    ·cases h
   ·cases h
  ·cases h
 ·rename_i f M;rw[M];dsimp only;split at h
  ·rename_i g l J B;cases h;rw[Nm J j,resOs_ok B j];simp only[Ht]
  ·cases h
 ·rename_i x name o;rw[o];dsimp only;split at h
  ·rename_i g l J B;cases h;rw[Nm J j,resOs_ok B j];simp only[Ht];cases g.ev ρ with
   |iface t v =>
    dsimp only;cases zhw P t name with
    |none=>rfl
    |some f =>
     dsimp only;cases gq P f<;>rfl
   |_=>rfl
  ·cases h
end ok
end Go.Sv
end
namespace Go.Sv
section ok
variable {P : Program} {E : Tr AV} {ρ : X0}
def zu3 (w:Oo E ρ){o:Op}{r:ROp}(h:Li P o=some r)(H:Heap):(Gw P o).run E H=Ht P ρ H r:=by
 cases o with
 |move x =>
  obtain⟨q,j,rfl⟩:=M5 h;show (I5 x _).run E H=_;rw[Na w j];rfl
 |assign x =>
  obtain⟨q,j,rfl⟩:=M5 h;show (I5 x _).run E H=_;rw[Na w j];rfl
 |pick c a b =>
  simp only[Li] at h;split at h
  ·rename_i c' J b' j A B;cases h;simp only[Gw];rw[Nm j w,Nm A w,Nm B w];simp only[Ht];generalize c'.ev ρ=v;cases v with
   |bool t=>cases t<;>rfl
   |_=>rfl
  ·cases h
 |alloc t =>
  simp only[Li] at h;simp only[Gw];cases D:Ln P t with
  |none=>rw[D] at h;cases h
  |some l=>rw[D] at h;cases h;rfl
 |box t x =>
  obtain⟨q,j,rfl⟩:=M5 h;show (I5 x _).run E H=_;rw[Na w j];rfl
 |build t parts =>
  simp only[Li] at h;simp only[Gw,yd];cases D:Ln P t with
  |none=>rw[D] at h;cases h
  |some cs =>
   rw[D] at h;dsimp only at h ⊢;split at h
   ·rename_i fields hu;rw[hu];dsimp only;cases G:zcn P fields.toList with
    |none=>rw[G] at h;cases h
    |some pl =>
     rw[G] at h;dsimp only at h ⊢;cases F:au (pl[·]?) parts.toList with
     |none=>rw[F] at h;cases h
     |some M =>
      rw[F] at h;cases h;obtain⟨N,j,A⟩:=zbb w (cs:=cs) F;rw[j];dsimp only;rw[A];rfl
   ·rename_i n elem hu;rw[hu];dsimp only;cases C:H0 P elem with
    |none=>rw[C] at h;cases h
    |some size =>
     rw[C] at h;dsimp only at h ⊢;cases F:au (fun i=>some (i*size,size)) parts.toList with
     |none=>rw[F] at h;cases h
     |some M =>
      rw[F] at h;cases h;obtain⟨N,j,A⟩:=zbb w (cs:=cs) F;rw[j];dsimp only;rw[A];rfl
   ·cases h
 |buildSlice t len parts =>
  simp only[Li] at h;simp only[Gw,m9];split at h
  ·rename_i elem hu;rw[hu];dsimp only;cases C:H0 P elem with
   |none=>rw[C] at h;cases h
   |some size =>
    rw[C] at h;dsimp only at h ⊢;cases D:Ln P elem with
    |none=>rw[D] at h;cases h
    |some z =>
     rw[D] at h;dsimp only at h ⊢;split at h
     ·rename_i I;rw[Ag I];cases F:au (fun i=>some (i*size,size)) parts.toList with
      |none=>rw[F] at h;cases h
      |some M =>
       rw[F] at h;cases h;obtain⟨N,j,A⟩:=zbb w (cs:=Mc z len) F;rw[j];dsimp only;rw[A];rfl
     ·cases h
  ·cases h
 |load t a =>
  simp only[Li] at h;simp only[Gw,ux];split at h
  ·rename_i n j A;obtain⟨q,B,rfl⟩:=M5 h;rw[j,A];dsimp only;rw[Na w B];rfl
  ·rename_i n j A;obtain⟨q,B,rfl⟩:=M5 h;rw[j,A];dsimp only;rw[Na w B];rfl
  ·cases h
 |store t a x =>
  simp only[Li] at h;simp only[Gw,zqu];cases C:H0 P t with
  |none=>rw[C] at h;cases h
  |some n =>
   rw[C] at h;obtain⟨q,p,j,A,rfl⟩:=Td h;dsimp only;rw[Ub w j A];rfl
 |nilCheck x =>
  obtain⟨q,j,rfl⟩:=M5 h;show (I5 x _).run E H=_;rw[Na w j];rfl
 |binOp op t x y U =>
  obtain⟨q,p,j,A,rfl⟩:=Td h;simp only[Gw];rw[Ub w j A];rfl
 |unOp op t x =>
  obtain⟨q,j,rfl⟩:=M5 h;show (I5 x _).run E H=_;rw[Na w j];rfl
 |convert s d x =>
  simp only[Li] at h;simp only[Gw];unfold P8;split at h
  ·rename_i d1 k j A;obtain⟨q,B,rfl⟩:=M5 h;rw[j,A];dsimp only;rw[Na w B];rfl
  ·rename_i e j A;rw[j,A];dsimp only;split at h
   ·rename_i hu;rw[hu];dsimp only;obtain⟨q,B,rfl⟩:=M5 h;rw[Na w B];rfl
   ·cases h
  ·rename_i d1 K j A;obtain⟨q,B,rfl⟩:=M5 h;rw[j,A];cases d1 with
   |slice e=>exact absurd rfl (K e)
   |_=>dsimp only;rw[Na w B];rfl
  ·rename_i d1 e j A;rw[j,A];dsimp only;split at h
   ·rename_i O Q;obtain⟨q,B,rfl⟩:=M5 h;rw[O,Q];exact (Na w B _ _).trans rfl
   ·cases h
  ·cases h
 |makeInterface t x =>
  simp only[Li] at h;simp only[Gw,xq];cases hu:P.underlying t with
  |none=>rw[hu] at h;cases h
  |some d =>
   rw[hu] at h;cases d with
   |interface R=>cases h
   |_=>obtain⟨q,j,rfl⟩:=M5 h;dsimp only;rw[Na w j];rfl
 |makeFunc f first cap =>
  simp only[Li] at h;cases f with
  |yield l=>cases h
  |_ =>
   dsimp only at h;split at h
   ·rename_i a b j A;cases h;simp only[Gw,xp];rw[resOs_ok j w,resOs_ok A w];rfl
   ·cases h
 |makeMap t r =>
  simp only[Li] at h;simp only[Gw,nq];cases r with
  |none=>cases h;rfl
  |some x =>
   dsimp only at h ⊢;split at h
   ·rename_i k e hu;obtain⟨q,j,rfl⟩:=M5 h;rw[hu];dsimp only;rw[Na w j];rfl
   ·cases h
 |makeSlice t l c =>
  simp only[Li] at h;simp only[Gw,nf];split at h
  ·rename_i elem hu;rw[hu];dsimp only;cases hi:P.info? elem with
   |none=>rw[hi] at h;cases h
   |some i =>
    rw[hi] at h;dsimp only at h ⊢;cases D:Ln P elem with
    |none=>rw[D] at h;cases h
    |some z =>
     rw[D] at h;dsimp only at h ⊢;split at h
     ·rename_i I;obtain⟨q,p,j,A,rfl⟩:=Td h;rw[Ag I,Ub w j A];rfl
     ·cases h
  ·cases h
 |slice t x lo hi mx =>
  simp only[Li] at h;simp only[Gw,fk];split at h
  ·rename_i hu;rw[hu];dsimp only;cases mx with
   |some m=>cases h
   |none =>
    dsimp only at h ⊢;split at h
    ·rename_i q a b j A B;cases h;rw[Nm j w,m8 A w,m8 B w];simp only[Ht];cases q.ev ρ with
     |str len n =>
      cases Ip ρ a with
      |none=>rfl
      |some J=>cases Ip ρ b<;>rfl
     |_=>rfl
    ·cases h
  ·rename_i elem hu;rw[hu];dsimp only;split at h
   ·cases h
   ·rename_i I;rw[Ab I];cases C:H0 P elem with
    |none=>rw[C] at h;cases h
    |some size =>
     rw[C] at h;obtain⟨q,a,b,c,j,A,B,L,rfl⟩:=zig h;dsimp only;rw[Nm j w,m8 A w,m8 B w,m8 L w];simp only[Ht];generalize q.ev ρ=v;generalize Ip ρ a=J;generalize Ip ρ b=b';generalize Ip ρ c=c';cases v<;>cases J<;>cases b'<;>cases c'<;>try rfl
     all_goals (rename_i z;cases z<;>rfl)
  ·rename_i n elem hu;rw[hu];dsimp only;split at h
   ·cases h
   ·rename_i I;rw[Ab I];cases C:H0 P elem with
    |none=>rw[C] at h;cases h
    |some size =>
     rw[C] at h;obtain⟨q,a,b,c,j,A,B,L,rfl⟩:=zig h;dsimp only;rw[Nm j w,m8 A w,m8 B w,m8 L w];simp only[Ht];generalize q.ev ρ=v;generalize Ip ρ a=J;generalize Ip ρ b=b';generalize Ip ρ c=c';cases v<;>cases J<;>cases b'<;>cases c'<;>rfl
  ·cases h
 |fieldAddr s x f =>
  simp only[Li] at h;simp only[Gw,u7];split at h
  ·rename_i fields hu;rw[hu];dsimp only;cases G:fields[f]? with
   |none=>rw[G] at h;cases h
   |some fd =>
    rw[G] at h;dsimp only at h ⊢;split at h
    ·cases h
    ·cases h
    ·rename_i n S C;obtain⟨q,j,rfl⟩:=M5 h;rw[C];cases n with
     |zero=>exact absurd rfl S
     |succ n=>exact (Na w j _ _).trans rfl
  ·cases h
 |field t x f =>
  simp only[Li] at h;simp only[Gw,xl];split at h
  ·rename_i fields hu;rw[hu];dsimp only;cases G:fields[f]? with
   |none=>rw[G] at h;cases h
   |some fd =>
    rw[G] at h;dsimp only at h ⊢;split at h
    ·rename_i g n j A;obtain⟨q,B,rfl⟩:=M5 h;rw[j,A];dsimp only;rw[Na w B];rfl
    ·cases h
  ·cases h
 |indexAddr t x i =>
  simp only[Li] at h;simp only[Gw,ul];split at h
  ·rename_i elem hu;rw[hu];dsimp only;cases C:H0 P elem with
   |none=>rw[C] at h;cases h
   |some size =>
    rw[C] at h;obtain⟨q,p,j,A,rfl⟩:=Td h;dsimp only;rw[Ub w j A];rfl
  ·rename_i len elem hu;rw[hu];dsimp only;cases C:H0 P elem with
   |none=>rw[C] at h;cases h
   |some size =>
    rw[C] at h;obtain⟨q,p,j,A,rfl⟩:=Td h;dsimp only;rw[Ub w j A];rfl
  ·cases h
 |index t x i =>
  simp only[Li] at h;simp only[Gw,wg];split at h
  ·rename_i hu;obtain⟨q,p,j,A,rfl⟩:=Td h;rw[hu];dsimp only;rw[Ub w j A];rfl
  ·rename_i len elem hu;rw[hu];dsimp only;split at h
   ·rename_i g size T C;obtain⟨q,p,j,A,rfl⟩:=Td h;rw[T,C];dsimp only;rw[Ub w j A];rfl
   ·cases h
  ·cases h
 |lookup t x i ok =>
  simp only[Li] at h;simp only[Gw,yq];split at h
  ·rename_i key elem hu;rw[hu];dsimp only;split at h
   ·rename_i d z hd D;obtain⟨q,p,j,A,rfl⟩:=Td h;rw[hd,D];dsimp only;rw[Ub w j A];rfl
   ·cases h
  ·cases h
 |mapUpdate t m k x =>
  simp only[Li] at h;simp only[Gw,uo];split at h
  ·rename_i key elem hu;rw[hu];dsimp only;split at h
   ·rename_i d hd;rw[hd];dsimp only;split at h
    ·rename_i a b c j A B;cases h;rw[Nm j w,Nm A w,Nm B w];simp only[Ht];cases a.ev ρ<;>rfl
    ·cases h
   ·cases h
  ·cases h
 |insert t m k x =>
  simp only[Li] at h;simp only[Gw,uo];split at h
  ·rename_i key elem hu;rw[hu];dsimp only;split at h
   ·rename_i d hd;rw[hd];dsimp only;split at h
    ·rename_i a b c j A B;cases h;rw[Nm j w,Nm A w,Nm B w];simp only[Ht];cases a.ev ρ<;>rfl
    ·cases h
   ·cases h
  ·cases h
 |range t x =>
  simp only[Li] at h;simp only[Gw,rangeF];split at h
  ·rename_i hu;obtain⟨q,j,rfl⟩:=M5 h;rw[hu];dsimp only;rw[Na w j];rfl
  ·cases h
 |next it s =>
  simp only[Li] at h;simp only[Gw,Px];cases s with
  |false=>cases h
  |true =>
   obtain⟨q,j,rfl⟩:=M5 h;rw[Ag rfl,Na w j];rfl
 |typeAssert x V t ok =>
  simp only[Li] at h;simp only[Gw,vt];cases hu:P.underlying t with
  |none=>rw[hu] at h;cases h
  |some d =>
   rw[hu] at h;cases d with
   |interface R=>cases h
   |_ =>
    dsimp only at h ⊢;cases D:yp P t with
    |none=>rw[D] at h;cases h
    |some z=>rw[D] at h;obtain⟨q,j,rfl⟩:=M5 h;dsimp only;rw[Na w j];rfl
 |extract t i =>
  obtain⟨q,j,rfl⟩:=M5 h;show (I5 t _).run E H=_;rw[Na w j];rfl
 |call c=>exact zwd w h H
 |_=>cases h
end ok
end Go.Sv
namespace Go.Sv
open Go.RowKit (Below)
noncomputable def zd (P:Program)(f:Nat):Bool:=match P.funcs[f]? with
 |some fn=>match fn.params.toList with
  |[]=>match fn.resultTypes.toList with
   |[t]=>match P.underlying t with
    |some .bool=>true
    |_=>false
   |_=>false
  |_::_=>false
 |none=>false
def z9t (P:Program)(f:Nat):Prop :=
 ∀(w:World) cs,∃w' fr,Below w.heap.size w w'∧Steps P (lone (Frame.enter P f #[] .normal) cs w) (lone fr cs w')∧fr.fn=f∧fr.leaving P w' (.returned (.bool true))
def Rel.below {w0:World}{C:CM}{H:Heap}{w w':World}(h:Rel w0 C H w)(hb:Below w.heap.size w w'):Rel w0 C H w':=by
 have aa:w0.heap.size≤w.heap.size:=h.low.size;exact⟨h.nx,h.low.trans (hb.mono aa),h.fresh,fun o v L hL=>Bh (h.lt o v L hL) hb.size,h.excl,
  fun o ob ho hg=>(h.obj o ob ho hg).frame (CM.le_refl C) (fun _ _ hL=>hL) (fun v L hL=>hb.block _ (h.lt o v L hL)),h.top⟩
open Classical in
noncomputable def OL (P:Program):J2:=fun t args H=>match t,args with
 |.fn f,[]=>if zd P f=true∧z9t P f then .ok (.bool true) H else .no
 |_,_=>.no
def OL_no {P:Program}{f:Nat}(h:zd P f=false)(args:List AV)(H:Heap):OL P (.fn f) args H=.no:=by
 unfold OL;split
 ·rename_i g e;cases e;rw[Ab (by rw[h];simp)]
 ·rfl
def xd {P:Program}{f:Nat}(h:zd P f=true)(a:z9t P f)(H:Heap):OL P (.fn f) [] H=.ok (.bool true) H:=by
 unfold OL;exact Ag ⟨h,a⟩
def Yx (P:Program):bm P (OL P):=by
 intro p C H w t args vs v H' d g a;unfold OL at a;split at a
 ·rename_i f;split at a
  ·rename_i h;cases a;cases g;intro cs;obtain⟨w',fr,j,l,m,o⟩:=h.2 w cs;exact⟨C,w',.bool true,fr,CM.le_refl C,d.below j,.bool true,l,m,o⟩
  ·cases a
 ·cases a
end Go.Sv
noncomputable section
namespace Go.Sv
inductive LV where
 |any
 |bool (b:Bool)
 |u (x:UInt64)
 |b (x:UInt8)
 |i (n:Int)
 |int (k:IntKind) (n:Int)
 |str (l:List UInt8)
 |nilPtr
 |ptr (p i:Nat)
 |dptr (p k i:Nat)
 |cptr (l:List LV) (i:Nat)
 |nilSl
 |dy (p k:Nat)
 |vw (p k lo len:Nat)
 |vf (p k len:Nat)
 |lst (l:List LV) (len esz:Nat)
 |nilMap
 |map (p:Nat)
 |nilFn
 |fn (f:Fn) (first cap:List LV)
 |nilIf
 |iface (t:TypeId) (v:LV)
 |agg (l:List LV)
 |tup (l:List LV)
 deriving Inhabited
abbrev Fi:=List (Nat×LV)
def lk0:Fi→Nat→LV
 |[],_=>.any
 |(d,v)::l,t=>if t=d then v else lk0 l t
def zzx {α:Type}(f:α):∃g:α,g=f:=⟨f,rfl⟩
def Jc {α:Type}(f:α):α:=Classical.choose (zzx f)
def Nq {α:Type}(f:α):Jc f=f:=Classical.choose_spec (zzx f)
def lk:Fi→Nat→LV:=Jc lk0
def Y4 (t:Nat):lk [] t=.any:=by unfold lk;rw[Nq];rfl
def zit (d:Nat)(v:LV)(l:Fi)(t:Nat):lk ((d,v)::l) t=if t=d then v else lk l t:=by unfold lk;rw[Nq];rfl
inductive LObj where
 |dead (st:Nat)
 |cells (l:List LV) (st:Nat)
 |dyn (l:List LV) (len esz ver st:Nat)
 |map (es:List (LV×LV×Nat)) (clock st:Nat)
 |iter (l:List UInt8) (pos:Nat)
 |loop (s:LoopState) (pend:Option Code) (f n:Nat) (ρ:Fi) (ps:Array Tmp) (a b:Code) (d:Nat)
 |defd (op:Bool)
abbrev Ff:=List LObj
def LObj.live:LObj→Bool
 |.dead _=>false
 |_=>true
def LObj.stp:LObj→Bool
 |.cells _ _=>true
 |.dyn _ _ _ _ _=>true
 |.map _ _ _=>true
 |_=>false
def LObj.st:LObj→Nat
 |.cells _ st=>st
 |.dyn _ _ _ _ st=>st
 |.map _ _ st=>st
 |.dead st=>st
 |_=>0
def LV.cells:LV→Option (List LV)
 |.any=>none
 |.agg cs=>some cs
 |.tup _=>none
 |v=>some [v]
mutual
def toA:LV→AV
 |.bool b=>.bool b
 |.u x=>.int .u64 (Int.ofNat x.toNat)
 |.b x=>.int .u8 (Int.ofNat x.toNat)
 |.i n=>.int .i64 n
 |.int k n=>.int k n
 |.str l=>.str l.length (Hx l)
 |.nilPtr=>.nilPtr
 |.nilSl=>.nilSl
 |.nilMap=>.nilMap
 |.nilFn=>.nilFn
 |.fn f _ _=>.fn f [] []
 |.nilIf=>.nilIf
 |.agg l=>.agg (toAs l)
 |.tup l=>.tup (toAs l)
 |_=>.tup []
def toAs:List LV→List AV
 |[]=>[]
 |v::l=>toA v::toAs l
end
def LV.scal:LV→Bool
 |.bool _ |.u _ |.b _ |.i _ |.int _ _ |.str _ |.nilPtr |.nilSl |.nilMap |.nilFn |.nilIf=>true
 |_=>false
def LV.cst:LV→Bool
 |.fn (.func _) [] []=>true
 |.agg l=>l.all LV.scal
 |.tup []=>true
 |v=>v.scal
structure Cx where
 hd:List (Nat×AV)
 Fz:Nat→Prop
 H:Heap
def jk:AV→Bool
 |.nilSl=>true
 |.emp=>true
 |.sl _ _ _ _ _ _=>true
 |_=>false
def S1 (lo:Nat)(h a:AV):Prop:=lo=0→match a with
 |.sl _ _ _ _ _ d=>match h with
  |.sl _ _ _ len _ room=>d=room∨∃r,d=some r∧r≤len
  |_=>True
 |_=>True
mutual
inductive AR (c:Cx):LV→AV→Prop where
 |any (a:AV):AR c .any a
 |bool (b:Bool):AR c (.bool b) (.bool b)
 |u (x:UInt64):AR c (.u x) (.int .u64 (Int.ofNat x.toNat))
 |b (x:UInt8):AR c (.b x) (.int .u8 (Int.ofNat x.toNat))
 |i (n:Int):AR c (.i n) (.int .i64 n)
 |int (k:IntKind) (n:Int):AR c (.int k n) (.int k n)
 |str (l:List UInt8):AR c (.str l) (.str l.length (Hx l))
 |nilPtr:AR c .nilPtr .nilPtr
 |ptr {p i o:Nat} (h:c.hd[p]?=some (0,.ptr o 0 0)):AR c (.ptr p i) (.ptr o 0 i)
 |dptr {p k i k' o v j:Nat} {h:AV} (hp:c.hd[p]?=some (k',h)) (hk:k≤k') (ha:k=k'→j=i∧∃len esz room,h=.sl o v 0 len esz room):AR c (.dptr p k i) (.ptr o v j)
 |cptr {l:List LV} {i o v j:Nat} {l':List AV} (hf:c.Fz o) (hr:Jx c.H o v j l.length=some l') (hl:ARs c l l'):AR c (.cptr l i) (.ptr o v (j+i))
 |nilSl:AR c .nilSl .nilSl
 |dy {p k k':Nat} {h a:AV} (hp:c.hd[p]?=some (k',h)) (hk:k≤k') (ha:k=k'→a=h) (hs:jk a=true):AR c (.dy p k) a
 |vw {p k lo len k':Nat} {h a:AV} (hp:c.hd[p]?=some (k',h)) (hk:k≤k') (ha:k=k'→(len=0∧(a=.nilSl∨(a=.emp∧lo≠0)))∨∃o v len' esz room room',h=.sl o v 0 len' esz room∧a=.sl o v (lo*esz) len esz room'∧∀r,room'=some r→len≤r) (hs:jk a=true) (hz:k=k'→S1 lo h a):AR c (.vw p k lo len) a
 |vf {p k len k':Nat} {h a:AV} (hp:c.hd[p]?=some (k',h)) (hk:k≤k') (ha:k=k'→∃o v len' esz room,h=.sl o v 0 len' esz room∧a=.sl o v 0 len esz (some len)) (hs:jk a=true):AR c (.vf p k len) a
 |lst {l:List LV} {len esz o v i:Nat} {room:Option Nat} {l':List AV} (hf:c.Fz o) (hrm:∀r,room=some r→len≤r) (hlen:l.length=len*esz) (hr:Jx c.H o v i (len*esz)=some l') (hl:ARs c l l'):AR c (.lst l len esz) (.sl o v i len esz room)
 |lstNil {esz:Nat}:AR c (.lst [] 0 esz) .nilSl
 |lstEmp {esz:Nat}:AR c (.lst [] 0 esz) .emp
 |nilMap:AR c .nilMap .nilMap
 |map {p o:Nat} (h:c.hd[p]?=some (0,.map o)):AR c (.map p) (.map o)
 |nilFn:AR c .nilFn .nilFn
 |fn {f:Nat} {l r:List LV} {l' r':List AV} (hl:ARs c l l') (hr:ARs c r r'):AR c (.fn (.func f) l r) (.fn (.func f) l' r')
 |yield {p o:Nat} (h:c.hd[p]?=some (0,.ptr o 0 0)):AR c (.fn (.yield p) [] []) (.fn (.yield o) [] [])
 |nilIf:AR c .nilIf .nilIf
 |iface {t:TypeId} {v:LV} {a:AV} (h:AR c v a):AR c (.iface t v) (.iface t a)
 |agg {l:List LV} {l':List AV} (h:ARs c l l'):AR c (.agg l) (.agg l')
 |tup {l:List LV} {l':List AV} (h:ARs c l l'):AR c (.tup l) (.tup l')
inductive ARs (c:Cx):List LV→List AV→Prop where
 |nil:ARs c [] []
 |cons {v:LV} {a:AV} {l:List LV} {r:List AV} (h:AR c v a) (hs:ARs c l r):ARs c (v::l) (a::r)
end
inductive MRs (c:Cx):List (LV×LV×Nat)→List (AV×AV×Nat)→Prop where
 |nil:MRs c [] []
 |cons {k v:LV} {a b:AV} {n:Nat} {l:List (LV×LV×Nat)} {r:List (AV×AV×Nat)} (hk:AR c k a) (hv:AR c v b) (h:MRs c l r):MRs c ((k,v,n)::l) ((a,b,n)::r)
def Hc (c:Cx)(ρ:Fi)(E:Tr AV):Prop:=∀t,AR c (lk ρ t) ((Fk (F7 t) E).getD Km)
def qp (c:Cx)(k:Nat)(h:AV):LObj→Prop
 |.dead _=>True
 |.cells l _=>k=0∧∃o t l',h=.ptr o 0 0∧c.H.get o=some (.cells t l.length 0 false)∧Lj t 0 l.length=some l'∧ARs c l l'
 |.dyn l len esz m _=>k=m∧l.length=len*esz∧((h=.nilSl∧len=0)∨∃o v room t g l',h=.sl o v 0 len esz room∧c.H.get o=some (.cells t g v false)∧len*esz≤g ∧
   Lj t 0 (len*esz)=some l'∧ARs c l l'∧(∀r,room=some r→g=r*esz∧len≤r)∧(room=none→g=len*esz))
 |.map es q _=>k=0∧∃o j,h=.map o∧c.H.get o=some (.map j q)∧MRs c es j
 |.iter l pos=>k=0∧∃o,h=.ptr o 0 0∧c.H.get o=some (.iter l.length (Hx l) pos)
 |.loop s pend f n ρ w a b d=>k=0∧∃o p E,h=.ptr o 0 0∧c.hd[d]?=some (0,.ptr p 0 0)∧c.H.get o=some (.loop s pend f n E w a b p)∧Hc c ρ E
 |.defd op=>k=0∧∃o,h=.ptr o 0 0∧c.H.get o=some (.defd op)
def Ij (c:Cx)(G:Ff)(o:Nat):Prop:=∃(p:Nat) (ob:LObj) (k:Nat) (h:AV),G[p]?=some ob∧ob.live=true∧c.hd[p]?=some (k,h)∧Gq h=some o
structure HSim (c:Cx) (G:Ff):Prop where
 len:c.hd.length=G.length
 fz:∀o,c.Fz o→o<c.H.next
 lt:∀o,Ij c G o→o<c.H.next
 sep:∀o,Ij c G o→¬c.Fz o
 obj:∀(p:Nat) (ob:LObj) (k:Nat) (h:AV),G[p]?=some ob→c.hd[p]?=some (k,h)→qp c k h ob
 excl:∀(p q:Nat) (ob ob':LObj) (k:Nat) (h:AV) (k':Nat) (h':AV) (o:Nat),G[p]?=some ob→G[q]?=some ob'→ob.live=true→ob'.live=true→c.hd[p]?=some (k,h)→c.hd[q]?=some (k',h')→Gq h=some o→Gq h'=some o→p=q
def Ui:AV→Bool
 |.ptr _ _ _=>true
 |.map _=>true
 |_=>false
structure CxLe (c c':Cx):Prop where
 hd:∀(p k:Nat) (h:AV),c.hd[p]?=some (k,h)→∃(k':Nat) (h':AV),c'.hd[p]?=some (k',h')∧k≤k'∧(k=k'→h=h')∧(Ui h=true→k=k')
 fz:∀o,c.Fz o→c'.Fz o∧c'.H.get o=c.H.get o
structure Step (c:Cx) (G:Ff) (c':Cx) (G':Ff):Prop where
 le:CxLe c c'
 nx:c.H.next≤c'.H.next
 frame:∀o,o<c.H.next→¬Ij c G o→c'.H.get o=c.H.get o
 new:∀o,Ij c' G' o→Ij c G o∨c.H.next≤o
 fznew:∀o,c'.Fz o→c.Fz o∨Ij c G o∨c.H.next≤o
 mono:∀(p:Nat) (ob ob':LObj),G[p]?=some ob→G'[p]?=some ob'→ob.st≤ob'.st
 st:∀(p:Nat) (ob ob':LObj) (k:Nat) (h:AV) (o:Nat),G[p]?=some ob→G'[p]?=some ob'→c.hd[p]?=some (k,h)→Gq h=some o→ob.stp=true→ob.st=ob'.st→ob'=ob∧c'.H.get o=c.H.get o∧c'.hd[p]?=c.hd[p]?
inductive Lx where
 |t (i:Nat)
 |c (v:LV)
def Lx.ev (ρ:Fi):Lx→LV
 |.t i=>lk ρ i
 |.c v=>v
def Lx.r:Lx→Ox
 |.t i=>.t i
 |.c v=>.c (toA v)
def Lx.ok:Lx→Bool
 |.t _=>true
 |.c v=>v.cst
inductive LOp where
 |move (x:Lx)
 |pick (c a b:Lx)
 |alloc (l:List LV)
 |box (x:Lx)
 |build (cs:List LV) (ps:List (Nat×Nat×Lx))
 |buildSl (size len:Nat) (cs:List LV) (ps:List (Nat×Nat×Lx))
 |load1 (x:Lx)
 |loadN (n:Nat) (x:Lx)
 |store (n:Nat) (x y:Lx)
 |nilChk (x:Lx)
 |bin (op:BinOp) (g:Bool) (t:TypeId) (x y:Lx)
 |un (op:UnOp) (x:Lx)
 |cvInt (k:IntKind) (x:Lx)
 |cvStr (x:Lx)
 |cvSame (x:Lx)
 |cvBytes (x:Lx)
 |mkFunc (f:Nat) (first cap:List Lx)
 |mkSl (size:Nat) (z:List LV) (l c:Lx)
 |slStr (x:Lx) (lo hi:Option Lx)
 |slSl (size:Nat) (x:Lx) (lo hi:Option Lx)
 |slSl3 (size:Nat) (x:Lx) (lo hi:Option Lx) (mx:Lx)
 |fieldAddr (off:Nat) (x:Lx)
 |field (g:Bool) (n off:Nat) (x:Lx)
 |ixAddr (size:Nat) (x i:Lx)
 |ixStr (x i:Lx)
 |extract (i:Nat) (x:Lx)
 |lenStr (x:Lx)
 |lenSl (x:Lx)
 |maxi (mx:Bool) (x y:Lx)
 |max3 (mx:Bool) (x y z:Lx)
 |ixAddrArr (len size:Nat) (x i:Lx)
 |ixArr (g:Bool) (len size:Nat) (x i:Lx)
 |lenArr (n:Nat) (x:Lx)
 |appZ (size:Nat) (z:List LV) (s x:Lx)
 |appG (size:Nat) (s x:Lx)
 |copy (size:Nat) (d x:Lx)
 |clear (size:Nat) (z:List LV) (x:Lx)
 |mkMap0
 |mkMap1 (x:Lx)
 |lookup (d:TypeDesc) (z:LV) (ok:Bool) (x i:Lx)
 |mapUpd (d:TypeDesc) (m k v:Lx)
 |lenMap (x:Lx)
 |slArr (n size:Nat) (x:Lx) (lo hi:Option Lx)
 |callV (f:Lx) (args:List Lx)
def rps:List (Nat×Nat×Lx)→List (Nat×Nat×Ox)
 |[]=>[]
 |(a,b,x)::l=>(a,b,x.r)::rps l
def jc:List Lx→List Ox
 |[]=>[]
 |x::l=>x.r::jc l
def LOp.r:LOp→ROp
 |.move x=>.move x.r
 |.pick c a b=>.pick c.r a.r b.r
 |.alloc l=>.alloc (toAs l)
 |.box x=>.box x.r
 |.build cs ps=>.build (toAs cs) (rps ps)
 |.buildSl s n cs ps=>.buildSl s n (toAs cs) (rps ps)
 |.load1 x=>.load1 x.r
 |.loadN n x=>.loadN n x.r
 |.store n x y=>.store n x.r y.r
 |.nilChk x=>.nilChk x.r
 |.bin op g t x y=>.bin op g t x.r y.r
 |.un op x=>.un op x.r
 |.cvInt k x=>.cvInt k x.r
 |.cvStr x=>.cvStr x.r
 |.cvSame x=>.cvSame x.r
 |.cvBytes x=>.cvBytes x.r
 |.mkFunc f a b=>.mkFunc (.func f) (jc a) (jc b)
 |.mkSl s z l c=>.mkSl s (toAs z) l.r c.r
 |.slStr x lo hi=>.slStr x.r (lo.map Lx.r) (hi.map Lx.r)
 |.slSl s x lo hi=>.slSl s x.r (lo.map Lx.r) (hi.map Lx.r) none
 |.slSl3 s x lo hi mx=>.slSl s x.r (lo.map Lx.r) (hi.map Lx.r) (some mx.r)
 |.fieldAddr o x=>.fieldAddr o x.r
 |.field g n o x=>.field g n o x.r
 |.ixAddr s x i=>.ixAddr s x.r i.r
 |.ixStr x i=>.ixStr x.r i.r
 |.extract i x=>.extract i x.r
 |.lenStr x=>.lenStr x.r
 |.lenSl x=>.lenSl x.r
 |.maxi m x y=>.maxi m [x.r,y.r]
 |.max3 m x y z=>.maxi m [x.r,y.r,z.r]
 |.ixAddrArr l s x i=>.ixAddrArr l s x.r i.r
 |.ixArr g l s x i=>.ixArr g l s x.r i.r
 |.lenArr n x=>.lenArr n x.r
 |.appZ s z a x=>.appZ s (toAs z) a.r x.r
 |.appG s a x=>.appG s a.r x.r
 |.copy s d x=>.copy s d.r x.r
 |.clear s z x=>.clear s (toAs z) x.r
 |.mkMap0=>.mkMap0
 |.mkMap1 x=>.mkMap1 x.r
 |.lookup d z ok x i=>.lookup d (toA z) ok x.r i.r
 |.mapUpd d m k v=>.mapUpd d m.r k.r v.r
 |.lenMap x=>.lenMap x.r
 |.slArr n s x lo hi=>.slArr n s x.r (lo.map Lx.r) (hi.map Lx.r) none
 |.callV f l=>.callV f.r (jc l)
def M9 (n:Int):Prop:=-9223372036854775808≤n∧n<9223372036854775808
def Jm:UInt64→UInt64→UInt64:=Jc fun a b=>a+b
def Tq:UInt64→UInt64→UInt64:=Jc fun a b=>a - b
def Lu:UInt64→UInt64→UInt64:=Jc fun a b=>a*b
def wu:UInt64→UInt64→UInt64:=Jc fun a b=>a/b
def S5:UInt64→UInt64→UInt64:=Jc fun a b=>a%b
def Kg:UInt64→UInt64→UInt64:=Jc fun a b=>a &&& b
def Pj:UInt64→UInt64→UInt64:=Jc fun a b=>a ||| b
def iz:UInt64→UInt64→UInt64:=Jc fun a b=>a ^^^ b
def fg:UInt64→UInt64:=Jc fun a => ~~~a
def Kh:UInt64→Nat→UInt64:=Jc fun a s=>UInt64.ofNat (a.toNat*2^s)
def It:UInt64→Nat→UInt64:=Jc fun a s=>UInt64.ofNat (a.toNat/2^s)
def tu:UInt8→UInt8→UInt8:=Jc fun a b=>a+b
def tp:UInt8→UInt8→UInt8:=Jc fun a b=>a - b
def yc:UInt8→UInt8→UInt8:=Jc fun a b=>a &&& b
def orB:UInt8→UInt8→UInt8:=Jc fun a b=>a ||| b
def iU:Int→UInt64:=Jc fun a=>UInt64.ofInt a
def bU:UInt8→UInt64:=Jc fun a=>UInt64.ofNat a.toNat
def uB:UInt64→UInt8:=Jc fun a=>UInt8.ofNat a.toNat
def iB:Int→UInt8:=Jc fun a=>UInt8.ofInt a
def M3 (a b:UInt64):Jm a b=a+b:=by unfold Jm;rw[Nq]
def Rh (a b:UInt64):Tq a b=a - b:=by unfold Tq;rw[Nq]
def zjp (a b:UInt64):Lu a b=a*b:=by unfold Lu;rw[Nq]
def jx (a b:UInt64):wu a b=a/b:=by unfold wu;rw[Nq]
def zg (a b:UInt64):S5 a b=a%b:=by unfold S5;rw[Nq]
def Vi (a b:UInt64):Kg a b=a &&& b:=by unfold Kg;rw[Nq]
def Vj (a b:UInt64):Pj a b=a ||| b:=by unfold Pj;rw[Nq]
def Z7 (a b:UInt64):iz a b=a ^^^ b:=by unfold iz;rw[Nq]
def zz3 (a:UInt64):fg a = ~~~a:=by unfold fg;rw[Nq]
def Xi (a:UInt64)(s:Nat):Kh a s=UInt64.ofNat (a.toNat*2^s):=by unfold Kh;rw[Nq]
def Vg (a:UInt64)(s:Nat):It a s=UInt64.ofNat (a.toNat/2^s):=by unfold It;rw[Nq]
def jh (a b:UInt8):tu a b=a+b:=by unfold tu;rw[Nq]
def fj (a b:UInt8):tp a b=a - b:=by unfold tp;rw[Nq]
def j0 (a b:UInt8):yc a b=a &&& b:=by unfold yc;rw[Nq]
def ye (a b:UInt8):orB a b=a ||| b:=by unfold orB;rw[Nq]
def Yk (a:Int):iU a=UInt64.ofInt a:=by unfold iU;rw[Nq]
def bU_eq (a:UInt8):bU a=UInt64.ofNat a.toNat:=by unfold bU;rw[Nq]
def uB_eq (a:UInt64):uB a=UInt8.ofNat a.toNat:=by unfold uB;rw[Nq]
def iB_eq (a:Int):iB a=UInt8.ofInt a:=by unfold iB;rw[Nq]
def Of (op:BinOp)(a b:UInt64)(K:LV→Prop):Prop:=match op with
 |.add=>K (.u (Jm a b))
 |.sub=>K (.u (Tq a b))
 |.mul=>K (.u (Lu a b))
 |.quo=>b≠0∧K (.u (wu a b))
 |.rem=>b≠0∧K (.u (S5 a b))
 |.and=>K (.u (Kg a b))
 |.or=>K (.u (Pj a b))
 |.xor=>K (.u (iz a b))
 |.andNot=>K (.u (Kg a (fg b)))
 |.shl=>K (.u (Kh a b.toNat))
 |.shr=>K (.u (It a b.toNat))
 |.eql=>K (.bool (decide (a=b)))
 |.neq=>K (.bool (decide (a≠b)))
 |.lss=>K (.bool (decide (a<b)))
 |.leq=>K (.bool (decide (a≤b)))
 |.gtr=>K (.bool (decide (b<a)))
 |.geq=>K (.bool (decide (b≤a)))
def bbL (op:BinOp)(a b:UInt8)(K:LV→Prop):Prop:=match op with
 |.add=>K (.b (tu a b))
 |.sub=>K (.b (tp a b))
 |.and=>K (.b (yc a b))
 |.or=>K (.b (orB a b))
 |.eql=>K (.bool (decide (a=b)))
 |.neq=>K (.bool (decide (a≠b)))
 |.lss=>K (.bool (decide (a<b)))
 |.leq=>K (.bool (decide (a≤b)))
 |.gtr=>K (.bool (decide (b<a)))
 |.geq=>K (.bool (decide (b≤a)))
 |_=>False
def Pb (op:BinOp)(a b:Int)(K:LV→Prop):Prop:=match op with
 |.add=>M9 (a+b)∧K (.i (a+b))
 |.sub=>M9 (a - b)∧K (.i (a - b))
 |.mul=>M9 (a*b)∧K (.i (a*b))
 |.quo=>b≠0∧M9 (a.tdiv b)∧K (.i (a.tdiv b))
 |.rem=>b≠0∧K (.i (a.tmod b))
 |.shl=>0≤a∧0≤b∧b≤64∧M9 (a*2^b.toNat)∧K (.i (a*2^b.toNat))
 |.shr=>0≤a∧0≤b∧b≤64∧K (.i (a/2^b.toNat))
 |.and=>0≤a∧a<9223372036854775808∧0≤b∧b<9223372036854775808∧K (.i (a.toNat &&& b.toNat:Nat))
 |.or=>0≤a∧a<9223372036854775808∧0≤b∧b<9223372036854775808∧K (.i (a.toNat ||| b.toNat:Nat))
 |.eql=>K (.bool (decide (a=b)))
 |.neq=>K (.bool (decide (a≠b)))
 |.lss=>K (.bool (decide (a<b)))
 |.leq=>K (.bool (decide (a≤b)))
 |.gtr=>K (.bool (decide (b<a)))
 |.geq=>K (.bool (decide (b≤a)))
 |_=>False
def kkL (op:BinOp)(a b:Int)(K:LV→Prop):Prop:=match op with
 |.eql=>K (.bool (decide (a=b)))
 |.neq=>K (.bool (decide (a≠b)))
 |.lss=>K (.bool (decide (a<b)))
 |.leq=>K (.bool (decide (a≤b)))
 |.gtr=>K (.bool (decide (b<a)))
 |.geq=>K (.bool (decide (b≤a)))
 |_=>False
def ssL (op:BinOp)(a b:List UInt8)(K:LV→Prop):Prop:=match op with
 |.add=>a.length+b.length≤1000000000∧K (.str (a++b))
 |.eql=>K (.bool (decide (a=b)))
 |.neq=>K (.bool (decide (a≠b)))
 |_=>False
def Tu (P:Program)(op:BinOp)(g:Bool)(t:TypeId)(a b:AV)(r:Bool)(K:LV→Prop):Prop:=match op with
 |.eql=>Ks P g t a b=some r∧K (.bool r)
 |.neq=>Ks P g t a b=some r∧K (.bool (!r))
 |_=>False
def aggL (P:Program)(op:BinOp)(g:Bool)(t:TypeId)(l r:List LV)(K:LV→Prop):Prop:=match op with
 |.eql=>∃b,l.all LV.scal=true∧r.all LV.scal=true∧Ks P g t (.agg (toAs l)) (.agg (toAs r))=some b∧K (.bool b)
 |.neq=>∃b,l.all LV.scal=true∧r.all LV.scal=true∧Ks P g t (.agg (toAs l)) (.agg (toAs r))=some b∧K (.bool (!b))
 |_=>False
def lstN (op:BinOp)(len:Nat)(K:LV→Prop):Prop:=match op with
 |.eql=>K (.bool false)∧(len=0→K (.bool true))
 |.neq=>K (.bool true)∧(len=0→K (.bool false))
 |_=>False
def Mw (P:Program)(op:BinOp)(g:Bool)(t:TypeId)(x y:LV)(K:LV→Prop):Prop:=match x,y with
 |.u a,.u b=>Of op a b K
 |.i a,.i b=>Pb op a b K
 |.b a,.b b=>bbL op a b K
 |.bool a,.bool b=>match op with
  |.eql=>Ks P g t (.bool a) (.bool b)=some (a==b)∧K (.bool (a==b))
  |.neq=>Ks P g t (.bool a) (.bool b)=some (a==b)∧K (.bool (!(a==b)))
  |_=>False
 |.u a,.i s=>match op with
  |.shl=>0≤s∧K (.u (Kh a s.toNat))
  |.shr=>0≤s∧K (.u (It a s.toNat))
  |_=>False
 |.i a,.u s=>match op with
  |.shl=>0≤a∧s.toNat≤64∧M9 (a*2^s.toNat)∧K (.i (a*2^s.toNat))
  |.shr=>0≤a∧s.toNat≤64∧K (.i (a/2^s.toNat))
  |_=>False
 |.int k a,.int k' b=>k=k'∧kkL op a b K
 |.str a,.str b=>ssL op a b K
 |.nilPtr,.nilPtr=>Tu P op g t .nilPtr .nilPtr true K
 |.ptr _ _,.nilPtr=>Tu P op g t (.ptr 0 0 0) .nilPtr false K
 |.nilSl,.nilSl=>Tu P op g t .nilSl .nilSl true K
 |.lst _ len _,.nilSl=>Ks P g t .nilSl .nilSl=some true∧lstN op len K
 |.agg l,.agg r=>aggL P op g t l r K
 |_,_=>False
def tw (op:UnOp)(x:LV)(K:LV→Prop):Prop:=match op,x with
 |.not,.bool b=>K (.bool (!b))
 |.neg,.u a=>K (.u (Tq 0 a))
 |.neg,.i a=>M9 (-a)∧K (.i (-a))
 |.xor,.u a=>K (.u (fg a))
 |_,_=>False
def w32 (n:Int):Int:=(n+2147483648)%4294967296 - 2147483648
def ik (k:IntKind)(x:LV)(K:LV→Prop):Prop:=match k,x with
 |.u64,.u a=>K (.u a)
 |.u64,.i a=>K (.u (iU a))
 |.u64,.b a=>K (.u (bU a))
 |.i64,.u a=>a.toNat<9223372036854775808∧K (.i a.toNat)
 |.i64,.i a=>M9 a∧K (.i a)
 |.i64,.b a=>K (.i a.toNat)
 |.u8,.u a=>K (.b (uB a))
 |.u8,.i a=>K (.b (iB a))
 |.u8,.b a=>K (.b a)
 |.u8,.int _ a=>K (.b (iB a))
 |.i32,.i a=>K (.int .i32 (w32 a))
 |.i64,.int _ a=>M9 a∧K (.i a)
 |_,_=>False
def M1 (t:Bool)(A B:Prop):Prop:=(t=true→A)∧(t=false→B)
def zq (v:LV)(A B:Prop):Prop:=match v with
 |.bool t=>M1 t A B
 |_=>False
def Ru (G:Ff)(x:LV)(n:Nat)(K:List LV→Prop):Prop:=match x with
 |.ptr p i=>match G[p]? with
  |some (.cells l _)=>i+n≤l.length∧K ((l.drop i).take n)
  |_=>False
 |.dptr p k i=>match G[p]? with
  |some (.dyn l _ _ a _)=>k=a∧i+n≤l.length∧K ((l.drop i).take n)
  |_=>False
 |.cptr l i=>i+n≤l.length∧K ((l.drop i).take n)
 |_=>False
def H7 (l:List LV)(i:Nat)(K:LV→Prop):Prop:=∃v,l[i]?=some v∧K v
def Rk (G:Ff)(x:LV)(K:LV→Prop):Prop:=match x with
 |.ptr p i=>match G[p]? with
  |some (.cells l _)=>H7 l i K
  |_=>False
 |.dptr p k i=>match G[p]? with
  |some (.dyn l _ _ a _)=>k=a∧H7 l i K
  |_=>False
 |.cptr l i=>H7 l i K
 |_=>False
def Hd (l:List LV)(i:Nat)(r:List LV):List LV:=l.take i++r++l.drop (i+r.length)
def O9 (G:Ff)(x:LV)(r:List LV)(K:Ff→Prop):Prop:=match x with
 |.ptr p i=>match G[p]? with
  |some (.cells l st)=>i+r.length≤l.length∧K (G.set p (.cells (Hd l i r) (st+1)))
  |_=>False
 |.dptr p k i=>match G[p]? with
  |some (.dyn l len esz a st)=>k=a∧i+r.length≤l.length∧K (G.set p (.dyn (Hd l i r) len esz a (st+1)))
  |_=>False
 |_=>False
def H8 (z:List LV):Nat→List LV
 |0=>[]
 |n+1=>z++H8 z n
def Mm (G:Ff)(size:Nat)(x:LV)(K:Nat→List LV→Prop):Prop:=match x with
 |.nilSl=>K 0 []
 |.dy p k=>match G[p]? with
  |some (.dyn l len esz a _)=>k=a∧esz=size∧K len l
  |_=>False
 |.vw p k lo len=>match G[p]? with
  |some (.dyn l _ esz a _)=>k=a∧esz=size∧lo*esz+len*esz≤l.length∧K len ((l.drop (lo*esz)).take (len*esz))
  |_=>False
 |.lst l len esz=>esz=size∧K len l
 |.str l=>size=1∧K l.length (l.map LV.b)
 |_=>False
def rv (G:Ff)(x:LV)(K:List LV→Prop):Prop:=match x with
 |.nilSl=>K []
 |.dy p k=>match G[p]? with
  |some (.dyn l _ esz a _)=>k=a∧esz=1∧K l
  |_=>False
 |.lst l len esz=>esz=1∧len≠0∧K l
 |_=>False
def lenL (G:Ff)(x:LV)(K:Nat→Prop):Prop:=match x with
 |.nilSl=>K 0
 |.dy p k=>match G[p]? with
  |some (.dyn _ len _ a _)=>k=a∧K len
  |_=>False
 |.vw p k _ len=>match G[p]? with
  |some (.dyn _ _ _ a _)=>k=a∧K len
  |_=>False
 |.lst _ len _=>K len
 |_=>False
def Ih (G:Ff)(size:Nat)(s:LV)(n:Nat)(new:List LV)(K:LV→Ff→Prop):Prop:=match s with
 |.nilSl=>K (.dy G.length 0) (G++[.dyn new n size 0 0])
 |.dy p k=>match G[p]? with
  |some (.dyn l len esz a st)=>k=a∧(esz=size∧0<esz)∧len≤1000000000∧K (.dy p (a+1)) (G.set p (.dyn (l++new) (len+n) esz (a+1) (st+1)))
  |_=>False
 |.vw p k lo len=>match G[p]? with
  |some (.dyn l d esz a st)=>k=a∧(esz=size∧lo=0∧0<n)∧len≤1000000000∧if (len+n)*esz≤l.length then K (.vw p k 0 (len+n)) (G.set p (.dyn (Hd l (len*esz) new) d esz a (st+1)))∧K (.dy G.length 0) (G++[.dyn (l.take (len*esz)++new) (len+n) size 0 0]) else len=d∧0<esz∧K (.dy p (a+1)) (G.set p (.dyn (l++new) (len+n) esz (a+1) (st+1)))∧K (.dy G.length 0) (G++[.dyn (l++new) (len+n) size 0 0])
  |_=>False
 |.vf p k len=>match G[p]? with
  |some (.dyn l _ esz a _)=>k=a∧(esz=size∧0<n)∧len≤1000000000∧len*esz≤l.length∧K (.dy G.length 0) (G++[.dyn (l.take (len*esz)++new) (len+n) size 0 0])
  |_=>False
 |_=>False
def ie (ρ:Fi)(cs:List LV):List (Nat×Nat×Lx)→Option (List LV)
 |[]=>some cs
 |(off,size,x)::a=>match (x.ev ρ).cells with
  |none=>none
  |some l=>if l.length=size∧off+size≤cs.length then ie ρ (Hd cs off l) a else none
def Rd (d:TypeDesc)(a b:LV):Option Bool:=match d,a,b with
 |.int _,.i a,.i b=>some (decide (a=b))
 |.int _,.u a,.u b=>some (decide (a=b))
 |.string,.str a,.str b=>some (decide (a=b))
 |_,_,_=>none
def kv (d:TypeDesc)(k:LV)(K:Option LV→Prop):List (LV×LV×Nat)→Prop
 |[]=>K none
 |(k',v,_)::l=>match Rd d k k' with
  |some b=>M1 b (K (some v)) (kv d k K l)
  |none=>False
def Pm (d:TypeDesc)(k v:LV)(clock:Nat)(K:List (LV×LV×Nat)→Bool→Prop):List (LV×LV×Nat)→Prop
 |[]=>K [(k,v,clock)] true
 |(k',a,n)::l=>match Rd d k k' with
  |some b=>M1 b (K ((k,v,n)::l) false) (Pm d k v clock (fun r new=>K ((k',a,n)::r) new) l)
  |none=>False
def Qz (G:Ff)(x:LV)(K:List (LV×LV×Nat)→Prop):Prop:=match x with
 |.nilMap=>K []
 |.map p=>match G[p]? with
  |some (.map es _ _)=>K es
  |_=>False
 |_=>False
def Qa (z:LV)(ok:Bool)(K:LV→Prop):Option LV→Prop
 |some v=>K (match ok with|true=>.tup [v,.bool true]|false=>v)
 |none=>K (match ok with|true=>.tup [z,.bool false]|false=>z)
def vh (G:Ff)(p a st:Nat)(K:Ff→Prop):List (LV×LV×Nat)→Bool→Prop:=fun es new=>K (G.set p (.map es (match new with|true=>a+1|false=>a) (st+1)))
def mr (G:Ff)(d:TypeDesc)(m k v:LV)(K:Ff→Prop):Prop:=match m with
 |.map p=>match G[p]? with
  |some (.map es a st)=>Pm d k v a (vh G p a st K) es
  |_=>False
 |_=>False
def Ig (ρ:Fi)(d:Nat)(x:Option Lx)(K:Nat→Prop):Prop:=match x with
 |none=>K d
 |some x=>match x.ev ρ with
  |.i n=>0≤n∧K n.toNat
  |.u n=>K n.toNat
  |_=>False
def mi (p k a b m:Nat):LV:=match decide (a=0∧b=m∧0<b) with
 |true=>.vf p k b
 |false=>.vw p k a (b - a)
def ixO (G:Ff)(size:Nat)(x:LV)(n:Int)(K:LV→Prop):Prop:=match x with
 |.dy p k=>match G[p]? with
  |some (.dyn _ len esz a _)=>k=a∧esz=size∧0≤n∧n<len∧K (.dptr p k (n.toNat*size))
  |_=>False
 |.vw p k lo len=>match G[p]? with
  |some (.dyn _ _ esz a _)=>k=a∧esz=size∧0≤n∧n<len∧K (.dptr p k ((lo+n.toNat)*size))
  |_=>False
 |.lst l len esz=>esz=size∧0≤n∧n<len∧K (.cptr l (n.toNat*size))
 |_=>False
inductive LTgt where
 |fn (f:Nat)
 |yield (p:Nat)
def xh (c:Cx):LTgt→Tgt→Prop
 |.fn f,.fn g=>f=g
 |.yield p,.yield o=>c.hd[p]?=some (0,.ptr o 0 0)
 |_,_=>False
def P9 (P:Program):LTgt→Prop
 |.fn f=>gq P f=true∧zs P f=false
 |.yield _=>True
def Ju (P:Program)(t:LTgt)(args:List LV)(G:Ff)(K:LV→Ff→Prop):Prop :=
 P9 P t∧∀c t1 a,HSim c G→xh c t t1→ARs c args a→∃m v1 H',K8 P (OL P) m t1 a c.H=.ok v1 H'∧∃c' v G',c'.H=H'∧HSim c' G'∧Step c G c' G'∧AR c' v v1∧K v G'
def Gl (P:Program)(ρ:Fi)(G:Ff)(o:LOp)(K:LV→Ff→Prop):Prop:=match o with
 |.move x=>K (x.ev ρ) G
 |.pick c a b=>match c.ev ρ with
  |.bool t=>match a.ev ρ,b.ev ρ with
   |.bool x,.bool y=>K (.bool (match t with|true=>x|false=>y)) G
   |x,y=>M1 t (K x G) (K y G)
  |_=>False
 |.alloc l=>K (.ptr G.length 0) (G++[.cells l 0])
 |.box x=>match (x.ev ρ).cells with
  |some l=>K (.ptr G.length 0) (G++[.cells l 0])
  |none=>False
 |.build cs w=>match ie ρ cs w with
  |some l=>K (.agg l) G
  |none=>False
 |.buildSl size len cs w=>match ie ρ cs w with
  |some l=>l.length=len*size∧K (.dy G.length 0) (G++[.dyn l len size 0 0])
  |none=>False
 |.load1 x=>Rk G (x.ev ρ) fun v=>K v G
 |.loadN n x=>Ru G (x.ev ρ) n fun l=>K (.agg l) G
 |.store n x y=>match (y.ev ρ).cells with
  |some l=>l.length=n∧O9 G (x.ev ρ) l fun G'=>K (.tup []) G'
  |none=>False
 |.nilChk x=>match x.ev ρ with
  |.ptr p i=>K (.ptr p i) G
  |.dptr p k i=>K (.dptr p k i) G
  |.cptr l i=>K (.cptr l i) G
  |.fn (.func f) a b=>K (.fn (.func f) a b) G
  |_=>False
 |.bin op g t x y=>Mw P op g t (x.ev ρ) (y.ev ρ) fun v=>K v G
 |.un op x=>tw op (x.ev ρ) fun v=>K v G
 |.cvInt k x=>ik k (x.ev ρ) fun v=>K v G
 |.cvStr x=>rv G (x.ev ρ) fun l=>∃bs:List UInt8,l=bs.map LV.b∧K (.str bs) G
 |.cvSame x=>match x.ev ρ with
  |.str l=>K (.str l) G
  |_=>False
 |.cvBytes x=>match x.ev ρ with
  |.str l=>K (.dy G.length 0) (G++[.dyn (l.map LV.b) l.length 1 0 0])
  |_=>False
 |.mkFunc f a b=>K (.fn (.func f) (a.map (·.ev ρ)) (b.map (·.ev ρ))) G
 |.mkSl size z l c=>match l.ev ρ,c.ev ρ with
  |.i l,.i c=>l=c∧0≤l∧l≤1048576∧z.length=size∧K (.dy G.length 0) (G++[.dyn (H8 z l.toNat) l.toNat size 0 0])
  |_,_=>False
 |.slStr x lo hi=>match x.ev ρ with
  |.str l=>Ig ρ 0 lo fun a=>Ig ρ l.length hi fun b=>a≤b∧b≤l.length∧K (.str ((l.drop a).take (b - a))) G
  |_=>False
 |.slSl size x lo hi=>match x.ev ρ with
  |.nilSl=>Ig ρ 0 lo fun a=>Ig ρ 0 hi fun b=>a=0∧b=0∧K .nilSl G
  |.dy p k=>match G[p]? with
   |some (.dyn _ len esz h _)=>k=h∧esz=size∧Ig ρ 0 lo fun a=>Ig ρ len hi fun b=>a≤b∧b≤len∧K (.vw p k a (b - a)) G
   |_=>False
  |.vw p k A len=>match G[p]? with
   |some (.dyn _ _ esz h _)=>k=h∧esz=size∧Ig ρ 0 lo fun a=>Ig ρ len hi fun b=>a≤b∧b≤len∧K (.vw p k (A+a) (b - a)) G
   |_=>False
  |.lst l len esz=>esz=size∧Ig ρ 0 lo fun a=>Ig ρ len hi fun b=>a≤b∧b≤len∧K (.lst ((l.drop (a*esz)).take ((b - a)*esz)) (b - a) esz) G
  |_=>False
 |.slSl3 size x lo hi mx=>match x.ev ρ with
  |.dy p k=>match G[p]? with
   |some (.dyn _ len esz h _)=>k=h∧esz=size∧Ig ρ 0 lo fun a=>Ig ρ len hi fun b=>Ig ρ 0 (some mx) fun m=>0<len∧a≤b∧b≤m∧m≤len∧K (mi p k a b m) G
   |_=>False
  |.lst l len esz=>esz=size∧Ig ρ 0 lo fun a=>Ig ρ len hi fun b=>Ig ρ 0 (some mx) fun m=>0<len∧a≤b∧b≤m∧m≤len∧K (.lst ((l.drop (a*esz)).take ((b - a)*esz)) (b - a) esz) G
  |_=>False
 |.fieldAddr off x=>match x.ev ρ with
  |.ptr p i=>K (.ptr p (i+off)) G
  |.dptr p k i=>K (.dptr p k (i+off)) G
  |.cptr l i=>K (.cptr l (i+off)) G
  |_=>False
 |.field g n off x=>match x.ev ρ with
  |.agg l=>match g with
   |true=>off+n≤l.length∧K (.agg ((l.drop off).take n)) G
   |false=>H7 l off fun v=>K v G
  |_=>False
 |.ixAddr size x i=>match i.ev ρ with
  |.i n=>ixO G size (x.ev ρ) n fun v=>K v G
  |.u n=>ixO G size (x.ev ρ) (n.toNat:Int) fun v=>K v G
  |_=>False
 |.ixStr x i=>match x.ev ρ,i.ev ρ with
  |.str l,.i n=>0≤n∧n<l.length∧K (.b (l.getD n.toNat 0)) G
  |.str l,.u n=>n.toNat<l.length∧K (.b (l.getD n.toNat 0)) G
  |.str l,.b n=>n.toNat<l.length∧K (.b (l.getD n.toNat 0)) G
  |_,_=>False
 |.extract i x=>match x.ev ρ with
  |.tup l=>H7 l i fun v=>K v G
  |_=>False
 |.lenStr x=>match x.ev ρ with
  |.str l=>K (.i l.length) G
  |_=>False
 |.lenSl x=>lenL G (x.ev ρ) fun n=>K (.i n) G
 |.maxi mx x y=>match x.ev ρ,y.ev ρ with
  |.i a,.i b=>K (.i (match mx with|true=>max a b|false=>min a b)) G
  |.u a,.u b=>K (.u (match mx with|true=>if a<b then b else a|false=>if b<a then b else a)) G
  |_,_=>False
 |.max3 mx x y z=>match x.ev ρ with
  |.i a=>match y.ev ρ with
   |.i b=>match z.ev ρ with
    |.i d=>K (.i (match mx with|true=>max (max a b) d|false=>min (min a b) d)) G
    |_=>False
   |_=>False
  |_=>False
 |.ixAddrArr len size x i=>match i.ev ρ with
  |.i n=>0≤n∧n<len∧match x.ev ρ with
   |.ptr p j=>K (.ptr p (j+n.toNat*size)) G
   |.dptr p k j=>K (.dptr p k (j+n.toNat*size)) G
   |.cptr l j=>K (.cptr l (j+n.toNat*size)) G
   |_=>False
  |_=>False
 |.ixArr g len size x i=>match i.ev ρ with
  |.i n=>0≤n∧n<len∧match x.ev ρ with
   |.agg l=>match g with
    |true=>n.toNat*size+size≤l.length∧K (.agg ((l.drop (n.toNat*size)).take size)) G
    |false=>H7 l (n.toNat*size) fun v=>K v G
   |_=>False
  |_=>False
 |.lenArr n _=>K (.i n) G
 |.appZ size z s x=>match x.ev ρ with
  |.i n=>0≤n∧n≤1048576∧z.length=size∧Ih G size (s.ev ρ) n.toNat (H8 z n.toNat) K
  |_=>False
 |.appG size s x=>Mm G size (x.ev ρ) fun n l=>n≤1048576∧Ih G size (s.ev ρ) n l K
 |.copy size d x=>Mm G size (x.ev ρ) fun n l=>match d.ev ρ with
  |.dy p k=>match G[p]? with
   |some (.dyn r len esz h st)=>k=h∧esz=size∧K (.i (min n len:Nat)) (G.set p (.dyn (Hd r 0 (l.take (min n len*size))) len esz h (st+1)))
   |_=>False
  |.vw p k lo len=>match G[p]? with
   |some (.dyn r q esz h st)=>k=h∧esz=size∧(lo+len)*size≤r.length∧K (.i (min n len:Nat)) (G.set p (.dyn (Hd r (lo*size) (l.take (min n len*size))) q esz h (st+1)))
   |_=>False
  |_=>False
 |.clear size z x=>match x.ev ρ with
  |.vw p k lo len=>match G[p]? with
   |some (.dyn r q esz h st)=>k=h∧esz=size∧z.length=size∧(lo+len)*size≤r.length∧K .any (G.set p (.dyn (Hd r (lo*size) (H8 z len)) q esz h (st+1)))
   |_=>False
  |_=>False
 |.mkMap0=>K (.map G.length) (G++[.map [] 0 0])
 |.mkMap1 x=>match x.ev ρ with
  |.i _=>K (.map G.length) (G++[.map [] 0 0])
  |_=>False
 |.lookup d z ok x i=>Qz G (x.ev ρ) fun es=>kv d (i.ev ρ) (Qa z ok fun v=>K v G) es
 |.mapUpd d m k v=>mr G d (m.ev ρ) (k.ev ρ) (v.ev ρ) fun G'=>K .any G'
 |.lenMap x=>Qz G (x.ev ρ) fun es=>K (.i es.length) G
 |.slArr n size x lo hi=>match x.ev ρ with
  |.ptr p i=>match G[p]? with
   |some (.cells l st)=>i+n*size≤l.length∧Ig ρ 0 lo fun a=>Ig ρ n hi fun b=>a≤b∧b≤n∧K (.lst ((l.drop (i+a*size)).take ((b - a)*size)) (b - a) size) (G.set p (.dead (st+1)))
   |_=>False
  |_=>False
 |.callV f args=>match f.ev ρ with
  |.fn (.func g) a b=>Ju P (.fn g) (a++args.map (·.ev ρ)++b) G K
  |.fn (.yield p) [] _=>Ju P (.yield p) (args.map (·.ev ρ)) G K
  |_=>False
end Go.Sv
end
namespace Go.Sv
def z5l {t:Tr AV}:∀{n i:Nat} {l:List AV},l.length=n→(∀j,j<n→Fk (F7 (i+j)) t=l[j]?)→Lj t i n=some l
 |0,i,l,h,_=>by
  have:l=[]:=Ay h;subst this;rfl
 |n+1,i,[],h,_=>by simp at h
 |n+1,i,a::l,h,k=>by
  have d:=k 0 (by omega);simp only[Cw,A6] at d;have f:=z5l (t:=t) (n:=n) (i:=i+1) (l:=l) (by simpa using h) (fun j g=>by
   have:=k (j+1) (by omega);rw[Av] at this;rw[←this,show i+1+j=i+(j+1) from by omega])
  simp only[Lj,d,f]
def zr2 {t:Tr AV}{N i n:Nat}{l:List AV}(h:Lj t 0 N=some l)(hle:i+n≤N):Lj t i n=some ((l.drop i).take n):=by
 obtain⟨f,a⟩:=cg h;refine z5l (by simp;omega) (fun j d=>?_);have:=a (i+j) (by omega);rw[Be] at this;rw[this,Ci d,E6]
def z6f (l:List AV):Lj (Kd l 0 .e) 0 l.length=some l :=
 z5l rfl (fun j a=>by rw[get_ofList,Ag (by omega)];simp)
def Ww (l:List AV)(i:Nat)(r:List AV):List AV:=l.take i++r++l.drop (i+r.length)
def zqa {l r:List AV}{i:Nat}(h:i+r.length≤l.length):(Ww l i r).length=l.length:=by
 unfold Ww;simp;omega
def zir {l r:List AV}{i:Nat}(h:i+r.length≤l.length)(j:Nat):(Ww l i r)[j]?=if i≤j∧j<i+r.length then r[j - i]? else l[j]?:=by
 have hi:(l.take i).length=i:=by simp;omega
 unfold Ww;by_cases a:j<i
 ·rw[Ab (by omega),Bt,Aq (by omega),Ci a]
 ·by_cases d:j<i+r.length
  ·rw[Ag (by omega),Aq (by simp;omega),Au (by omega),hi]
  ·rw[Ab (by omega),Au (by simp;omega),E6]
   congr 1
   simp;omega
def zgm {t:Tr AV}{N i:Nat}{l r:List AV}(h:Lj t 0 N=some l)(hle:i+r.length≤N):Lj (Kd r i t) 0 N=some (Ww l i r):=by
 obtain⟨a,d⟩:=cg h;refine z5l (by rw[zqa (by omega)];exact a) (fun j f=>?_);have:=d j f;rw[Be] at this ⊢;rw[get_ofList,zir (by omega),this]
def znv {t:Tr AV}{N:Nat}{l r:List AV}(h:Lj t 0 N=some l):Lj (Kd r N t) 0 (N+r.length)=some (l++r):=by
 obtain⟨d,f⟩:=cg h;refine z5l (by simp;omega) (fun j g=>?_);rw[Be,get_ofList];by_cases a:N≤j
 ·rw[Ag ⟨a,by omega⟩,Au (by omega),d]
 ·rw[Ab (by omega),Aq (by omega)];have:=f j (by omega)
  rwa [Be] at this
def Qn {H:Heap}{o v i n N a:Nat}{t:Tr AV}{ro:Bool}{l:List AV}(d:H.get o=some (.cells t a v ro))(f:Lj t 0 N=some l)(h:N≤a)(hle:i+n≤N):Jx H o v i n=some ((l.drop i).take n):=by
 unfold Jx;rw[d];have g:Nat.ble (Nat.add i n) a=true:=Ak (by show i+n≤a;omega);simp only[Bj,g];exact zr2 f hle
def tg {H H':Heap}{o:Nat}(h:H'.get o=H.get o)(v i n:Nat):Jx H' o v i n=Jx H o v i n:=by
 unfold Jx;rw[h]
def zli {H:Heap}{o v i n j m:Nat}{l:List AV}(h:Jx H o v i n=some l)(hle:j+m≤n):Jx H o v (i+j) m=some ((l.drop j).take m):=by
 unfold Jx at h ⊢;split at h
 ·rename_i t a f ro w;split at h
  ·rename_i hv;split at h
   ·rename_i g;have p:i+n≤a:=As g;have d:Nat.ble (Nat.add (i+j) m) a=true:=Ak (by show i+j+m≤a;omega);simp only[d];obtain⟨x,r⟩:=cg h;refine z5l (by simp;omega) (fun q s=>?_);have:=r (j+q) (by omega);rw[Cu,this,Ci s,E6]
   ·cases h
  ·cases h
 ·cases h
def zf7 {H:Heap}{o v i n:Nat}{l:List AV}(h:Jx H o v i n=some l):l.length=n:=by
 unfold Jx at h;split at h
 ·split at h
  ·split at h
   ·exact (cg h).1
   ·cases h
  ·cases h
 ·cases h
section lists
variable {c : Cx}
def ARs.length:∀{l:List LV} {r:List AV},ARs c l r→l.length=r.length
 |_,_,.nil=>rfl
 |_,_,.cons _ es=>by simp[ARs.length es]
def ARs.get:∀{l:List LV} {r:List AV},ARs c l r→∀{i:Nat} {v:LV},l[i]?=some v→∃a,r[i]?=some a∧AR c v a
 |_,_,.nil,i,v,h=>by simp at h
 |_,_,.cons e es,0,v,h=>by simp only[A6,Option.some.injEq] at h;subst h;exact⟨_,rfl,e⟩
 |_,_,.cons e es,i+1,v,h=>by simp only[Av] at h ⊢;exact ARs.get es h
def ARs.append:∀{l:List LV} {r:List AV} {l':List LV} {r':List AV},ARs c l r→ARs c l' r'→ARs c (l++l') (r++r')
 |_,_,_,_,.nil,k=>k
 |_,_,_,_,.cons e es,k=>.cons e (ARs.append es k)
def ARs.drop:∀{l:List LV} {r:List AV},ARs c l r→∀n,ARs c (l.drop n) (r.drop n)
 |_,_,h,0=>h
 |_,_,.nil,_+1=>.nil
 |_,_,.cons _ es,n+1=>ARs.drop es n
def ARs.take:∀{l:List LV} {r:List AV},ARs c l r→∀n,ARs c (l.take n) (r.take n)
 |_,_,_,0=>.nil
 |_,_,.nil,_+1=>.nil
 |_,_,.cons e es,n+1=>.cons e (ARs.take es n)
def ARs.lay {l r:List LV}{l' r':List AV}(h:ARs c l l')(k:ARs c r r')(i:Nat):ARs c (Hd l i r) (Ww l' i r'):=by
 unfold Hd Ww;rw[k.length];exact ((h.take i).append k).append (h.drop _)
def zbo {l r:List LV}{i:Nat}(h:i+r.length≤l.length):(Hd l i r).length=l.length:=by
 unfold Hd;simp;omega
def ARs.rep {z:List LV}{z':List AV}(h:ARs c z z'):∀n,ARs c (H8 z n) (Mc z' n)
 |0=>.nil
 |n+1=>h.append (ARs.rep h n)
def z82 (z:List LV):∀n,(H8 z n).length=n*z.length
 |0=>by simp[H8]
 |n+1=>by simp[H8,z82 z n,Bb];omega
end lists
def zxp (c:Cx){v:LV}(h:v.scal=true):AR c v (toA v):=by
 cases v<;>first|(cases h;done)|(unfold toA;constructor)
def mw (c:Cx):∀{l:List LV},l.all LV.scal=true→ARs c l (toAs l)
 |[],_=>by unfold toAs;exact .nil
 |v::l,h=>by
  simp only[Cv,Ac] at h;unfold toAs;exact .cons (zxp c h.1) (mw c h.2)
def Zx (c:Cx){v:LV}(h:v.cst=true):AR c v (toA v):=by
 unfold LV.cst at h;split at h
 ·unfold toA;exact .fn .nil .nil
 ·unfold toA;exact .agg (mw c h)
 ·unfold toA toAs;exact .tup .nil
 ·exact zxp c h
def AR.cells {c:Cx}{v:LV}{a:AV}(h:AR c v a){l:List LV}(hl:v.cells=some l):∃l',a.cells=some l'∧ARs c l l':=by
 cases v with
 |any=>cases hl
 |tup _=>cases hl
 |agg l0=>cases hl;cases h with|agg h=>exact⟨_,rfl,h⟩
 |dy p k =>
  simp only[LV.cells,Option.some.injEq] at hl;subst hl;have h0:=h;refine⟨[a],?_,.cons h0 .nil⟩;cases h with|dy _ _ _ hs=>cases a<;>first|rfl|cases hs
 |vw p k lo len =>
  simp only[LV.cells,Option.some.injEq] at hl;subst hl;have h0:=h;refine⟨[a],?_,.cons h0 .nil⟩;cases h with|vw _ _ _ hs _=>cases a<;>first|rfl|cases hs
 |vf p k len =>
  simp only[LV.cells,Option.some.injEq] at hl;subst hl;have h0:=h;refine⟨[a],?_,.cons h0 .nil⟩;cases h with|vf _ _ _ hs=>cases a<;>first|rfl|cases hs
 |_ =>
  simp only[LV.cells,Option.some.injEq] at hl;subst hl;have h0:=h;refine⟨[a],?_,.cons h0 .nil⟩;cases h<;>rfl
def CxLe.refl (c:Cx):CxLe c c:=⟨fun _ k h e=>⟨k,h,e,Al _,fun _=>rfl,fun _=>rfl⟩,fun _ h=>⟨h,rfl⟩⟩
def CxLe.trans {a b c:Cx}(h:CxLe a b)(k:CxLe b c):CxLe a c:=by
 refine⟨fun p v x e=>?_,fun o e=>?_⟩
 ·obtain⟨v1,x1,e1,l1,s1,f1⟩:=h.hd p v x e;obtain⟨v2,x2,e2,l2,s2,f2⟩:=k.hd p v1 x1 e1;refine⟨v2,x2,e2,Bq l1 l2,fun q=>?_,fun q=>?_⟩
  ·have q1:v=v1:=by omega
   have q2:v1=v2:=by omega
   rw[s1 q1,s2 q2]
  ·have q1:=f1 q;have:=s1 q1;subst this;rw[q1,f2 q]
 ·obtain⟨h1,h2⟩:=h.fz o e;obtain⟨h3,h4⟩:=k.fz o h1;exact⟨h3,h4.trans h2⟩
def CxLe.fix {c c':Cx}(h:CxLe c c'){p k:Nat}{x:AV}(e:c.hd[p]?=some (k,x))(hf:Ui x=true):c'.hd[p]?=some (k,x):=by
 obtain⟨k',x',e',_,s,f⟩:=h.hd p k x e;have:=f hf;subst this;rw[s rfl];exact e'
mutual
def AR.mono {c c':Cx}(h:CxLe c c'):∀{v:LV} {a:AV},AR c v a→AR c' v a
 |_,_,.any a=>.any a
 |_,_,.bool b=>.bool b
 |_,_,.u x=>.u x
 |_,_,.b x=>.b x
 |_,_,.i n=>.i n
 |_,_,.int k n=>.int k n
 |_,_,.str l=>.str l
 |_,_,.nilPtr=>.nilPtr
 |_,_,.ptr e=>.ptr (h.fix e rfl)
 |_,_,.dptr hp hk ha=>by
  obtain⟨k2,h2,e2,l2,s2,_⟩:=h.hd _ _ _ hp;refine .dptr e2 (Bq hk l2) (fun q=>?_);have q1:=ha (by omega);rw[←s2 (by omega)];exact q1
 |_,_,.cptr hf hr hl=>.cptr (h.fz _ hf).1 (by rw[tg (h.fz _ hf).2];exact hr) (ARs.mono h hl)
 |_,_,.nilSl=>.nilSl
 |_,_,.dy hp hk ha hs=>by
  obtain⟨k2,h2,e2,l2,s2,_⟩:=h.hd _ _ _ hp;refine .dy e2 (Bq hk l2) (fun q=>?_) hs;have q1:=ha (by omega);rw[←s2 (by omega)];exact q1
 |_,_,.vw hp hk ha hs hz=>by
  obtain⟨k2,h2,e2,l2,s2,_⟩:=h.hd _ _ _ hp;refine .vw e2 (Bq hk l2) (fun q=>?_) hs (fun q=>?_)
  ·have q1:=ha (by omega);rw[←s2 (by omega)];exact q1
  ·have q1:=hz (by omega);rw[←s2 (by omega)];exact q1
 |_,_,.vf hp hk ha hs=>by
  obtain⟨k2,h2,e2,l2,s2,_⟩:=h.hd _ _ _ hp;refine .vf e2 (Bq hk l2) (fun q=>?_) hs;have q1:=ha (by omega);rw[←s2 (by omega)];exact q1
 |_,_,.lst hf hrm hlen hr hl=>.lst (h.fz _ hf).1 hrm hlen (by rw[tg (h.fz _ hf).2];exact hr) (ARs.mono h hl)
 |_,_,.lstNil=>.lstNil
 |_,_,.lstEmp=>.lstEmp
 |_,_,.nilMap=>.nilMap
 |_,_,.map e=>.map (h.fix e rfl)
 |_,_,.nilFn=>.nilFn
 |_,_,.fn hl hr=>.fn (ARs.mono h hl) (ARs.mono h hr)
 |_,_,.yield e=>.yield (h.fix e rfl)
 |_,_,.nilIf=>.nilIf
 |_,_,.iface e=>.iface (AR.mono h e)
 |_,_,.agg e=>.agg (ARs.mono h e)
 |_,_,.tup e=>.tup (ARs.mono h e)
def ARs.mono {c c':Cx}(h:CxLe c c'):∀{l:List LV} {r:List AV},ARs c l r→ARs c' l r
 |_,_,.nil=>.nil
 |_,_,.cons e es=>.cons (AR.mono h e) (ARs.mono h es)
end
def MRs.mono {c c':Cx}(h:CxLe c c'):∀{l:List (LV×LV×Nat)} {r:List (AV×AV×Nat)},MRs c l r→MRs c' l r
 |_,_,.nil=>.nil
 |_,_,.cons hk hv hs=>.cons (hk.mono h) (hv.mono h) (MRs.mono h hs)
def Hc.mono {c c':Cx}(h:CxLe c c'){ρ:Fi}{E:Tr AV}(k:Hc c ρ E):Hc c' ρ E:=fun t=>(k t).mono h
def qp.mono {c c':Cx}(h:CxLe c c'){k:Nat}{x:AV}{ob:LObj}(hg:∀o,Gq x=some o→c'.H.get o=c.H.get o)(r:qp c k x ob):qp c' k x ob:=by
 cases ob with
 |dead st=>trivial
 |cells l st =>
  obtain⟨r0,o,t,l',rfl,r2,r3,r4⟩:=r;exact⟨r0,o,t,l',rfl,by rw[hg o rfl];exact r2,r3,r4.mono h⟩
 |dyn l len esz af st =>
  obtain⟨r0,r1,r2⟩:=r;refine⟨r0,r1,?_⟩;rcases r2 with r2|⟨o,v,room,t,aa,l',rfl,r3,r4,r5,r6,r7⟩
  ·exact .inl r2
  ·exact .inr ⟨o,v,room,t,aa,l',rfl,by rw[hg o rfl];exact r3,r4,r5,r6.mono h,r7⟩
 |map es ck st =>
  obtain⟨r0,o,ad,rfl,r2,r3⟩:=r;exact⟨r0,o,ad,rfl,by rw[hg o rfl];exact r2,r3.mono h⟩
 |iter l pos =>
  obtain⟨r0,o,rfl,r2⟩:=r;exact⟨r0,o,rfl,by rw[hg o rfl];exact r2⟩
 |loop s pend f n ρ ps a b d =>
  obtain⟨r0,o,od,E,rfl,r2,r3,r4⟩:=r;exact⟨r0,o,od,E,rfl,h.fix r2 rfl,by rw[hg o rfl];exact r3,r4.mono h⟩
 |defd op =>
  obtain⟨r0,o,rfl,r2⟩:=r;exact⟨r0,o,rfl,by rw[hg o rfl];exact r2⟩
def Step.refl (c:Cx)(G:Ff):Step c G c G:=by
 refine⟨.refl c,Al _,fun _ _ _=>rfl,fun _ h=>.inl h,fun _ h=>.inl h,fun p ob ob' e1 e2=>?_,fun p ob ob' k h o e1 e2 _ _ _ _=>?_⟩
 ·rw[e1] at e2;cases e2;exact Al _
 ·rw[e1] at e2;cases e2;exact⟨rfl,rfl,rfl⟩
def Step.trans {c c1 c2:Cx}{G G1 G2:Ff}(h0:HSim c G)(h1:HSim c1 G1)(s1:Step c G c1 G1)(s2:Step c1 G1 c2 G2):Step c G c2 G2:=by
 have af:∀p ob,G[p]?=some ob→∃aa,G1[p]?=some aa:=fun p ob e=>by
  have hp:p<c.hd.length:=by rw[h0.len];exact (Aa.1 e).1
  obtain⟨k,h,e3⟩:∃k h,c.hd[p]?=some (k,h):=⟨_,_,Ai hp⟩;obtain⟨k1,x1,q1,_,_,_⟩:=s1.le.hd p k h e3;have hp:p<G1.length:=by rw[←h1.len];exact (Aa.1 q1).1
  exact⟨_,Ai hp⟩
 refine⟨s1.le.trans s2.le,Bq s1.nx s2.nx,fun o ho hn=>?_,fun o ho=>?_,fun o ho=>?_,fun p ob ad e1 e2=>?_,fun p ob ad k h o e1 e2 e3 e4 hl he=>?_⟩
 ·rw[s2.frame o (Bh ho s1.nx) (fun hc=>?_),s1.frame o ho hn];rcases s1.new o hc with h|h
  ·exact hn h
  ·omega
 ·rcases s2.new o ho with h|h
  ·exact s1.new o h
  ·exact .inr (Bq s1.nx h)
 ·rcases s2.fznew o ho with h|h|h
  ·exact s1.fznew o h
  ·rcases s1.new o h with h|h
   ·exact .inr (.inl h)
   ·exact .inr (.inr h)
  ·exact .inr (.inr (Bq s1.nx h))
 ·obtain⟨aa,q2⟩:=af p ob e1;exact Bq (s1.mono p ob aa e1 q2) (s2.mono p aa ad q2 e2)
 ·obtain⟨aa,q2⟩:=af p ob e1;have m1:=s1.mono p ob aa e1 q2;have m2:=s2.mono p aa ad q2 e2;obtain⟨rfl,r3,r4⟩:=s1.st p ob aa k h o e1 q2 e3 e4 hl (by omega);obtain⟨rfl,r7,r8⟩:=s2.st p aa ad k h o q2 e2 (by rw[r4];exact e3) e4 hl (by omega);rw[r7,r8,r3,r4];exact⟨rfl,rfl,rfl⟩
def HSim.push {c:Cx}{G:Ff}(hs:HSim c G){H':Heap}{x:AV}{ob:LObj}(ah:c.H.next≤H'.next)(ag:∀o,o<c.H.next→H'.get o=c.H.get o)(aj:∀o,Gq x=some o→c.H.next≤o∧o<H'.next)
  (aq:qp ⟨c.hd++[(0,x)],c.Fz,H'⟩ 0 x ob):HSim ⟨c.hd++[(0,x)],c.Fz,H'⟩ (G++[ob])∧Step c G ⟨c.hd++[(0,x)],c.Fz,H'⟩ (G++[ob])∧CxLe c ⟨c.hd++[(0,x)],c.Fz,H'⟩:=by
 have ap:∀(p k:Nat) (h:AV),c.hd[p]?=some (k,h)→(c.hd++[(0,x)])[p]?=some (k,h):=fun p k h e=>by
  rw[Aq (Aa.1 e).1];exact e
 have hle:CxLe c ⟨c.hd++[(0,x)],c.Fz,H'⟩:=⟨fun p k h e=>⟨k,h,ap p k h e,Al _,fun _=>rfl,fun _=>rfl⟩,fun o ho=>⟨ho,ag o (hs.fz o ho)⟩⟩;have hinv:∀(p:Nat) (k:Nat) (h:AV) (ob':LObj),(c.hd++[(0,x)])[p]?=some (k,h)→(G++[ob])[p]?=some ob'→(c.hd[p]?=some (k,h)∧G[p]?=some ob')∨(p=G.length∧k=0∧h=x∧ob'=ob):=by
  intro p k h ob' e1 e2;by_cases hp:p<G.length
  ·rw[Aq hp] at e2;rw[Aq (by rw[hs.len];exact hp)] at e1;exact .inl ⟨e1,e2⟩
  ·have ar:p=G.length:=by
    have:=(Aa.1 e2).1;simp at this;omega
   subst ar;rw[Ax] at e2;rw[←hs.len,Ax] at e1;cases e1;cases e2;exact .inr ⟨rfl,rfl,rfl,rfl⟩
 have ad:∀o,Ij ⟨c.hd++[(0,x)],c.Fz,H'⟩ (G++[ob]) o→Ij c G o∨(c.H.next≤o∧o<H'.next):=by
  rintro o ⟨p,ob',k,h,e1,e2,e3,e4⟩;rcases hinv p k h ob' e3 e1 with ⟨q1,q2⟩|⟨_,_,rfl,_⟩
  ·exact .inl ⟨p,ob',k,h,q2,e2,q1,e4⟩
  ·exact .inr (aj o e4)
 refine⟨⟨by simp[hs.len],fun o ho=>Bh (hs.fz o ho) ah,fun o ho=>?_,fun o ho hf=>?_,fun p ob' k h e1 e2=>?_,?_⟩,⟨hle,ah,fun o ho _=>ag o ho,fun o ho=>?_,fun o ho=>.inl ho,fun p aa af e1 e2=>?_,fun p aa af k h o e1 e2 e3 e4 hl _=>?_⟩,hle⟩
 ·rcases ad o ho with h|h
  ·exact Bh (hs.lt o h) ah
  ·exact h.2
 ·rcases ad o ho with h|h
  ·exact hs.sep o h hf
  ·have:=hs.fz o hf;omega
 ·rcases hinv p k h ob' e2 e1 with ⟨q1,q2⟩|⟨_,rfl,rfl,rfl⟩
  ·by_cases hl:ob'.live=true
   ·exact (hs.obj p ob' k h q2 q1).mono hle (fun o ho=>ag o (hs.lt o ⟨p,ob',k,h,q2,hl,q1,ho⟩))
   ·cases ob'<;>first|exact absurd rfl hl|trivial
  ·exact aq
 ·intro p q aa af k h k' h' o e1 e2 e3 e4 e5 e6 e7 e8;rcases hinv p k h aa e5 e1 with ⟨q1,q2⟩|⟨r1,_,rfl,rfl⟩<;>rcases hinv q k' h' af e6 e2 with ⟨q3,q4⟩|⟨r2,_,rfl,rfl⟩
  ·exact hs.excl p q aa af k h k' h' o q2 q4 e3 e4 q1 q3 e7 e8
  ·have:=hs.lt o ⟨p,aa,k,h,q2,e3,q1,e7⟩;have:=aj o e8;omega
  ·have:=hs.lt o ⟨q,af,k',h',q4,e4,q3,e8⟩;have:=aj o e7;omega
  ·omega
 ·rcases ad o ho with h|h
  ·exact .inl h
  ·exact .inr h.1
 ·rw[Aq (Aa.1 e1).1,e1] at e2;cases e2;exact Al _
 ·rw[Aq (Aa.1 e1).1,e1] at e2;cases e2;have ao:aa.live=true:=by cases aa<;>first|rfl|cases hl
  exact⟨rfl,ag o (hs.lt o ⟨p,aa,k,h,e1,ao,e3,e4⟩),by rw[ap p k h e3,e3]⟩
def HSim.upd {c:Cx}{G:Ff}(hs:HSim c G){p k k':Nat}{x x':AV}{ob ob':LObj}{H':Heap}(hG:G[p]?=some ob)(hl:ob.live=true)(hp:c.hd[p]?=some (k,x))(aq:c.H.next≤H'.next)
  (ap:∀o,o<c.H.next→Gq x≠some o→H'.get o=c.H.get o) (ar:∀o,Gq x'=some o→(Gq x=some o∨c.H.next≤o)∧o<H'.next)
  (hk:k≤k') (hx:k=k'→x=x') (hf:Ui x=true→k=k') (ax:ob.st<ob'.st∨(ob.stp=false∧ob.st≤ob'.st))
  (az:CxLe c ⟨c.hd.set p (k',x'),c.Fz,H'⟩→qp ⟨c.hd.set p (k',x'),c.Fz,H'⟩ k' x' ob') :
  HSim ⟨c.hd.set p (k',x'),c.Fz,H'⟩ (G.set p ob')∧Step c G ⟨c.hd.set p (k',x'),c.Fz,H'⟩ (G.set p ob')∧CxLe c ⟨c.hd.set p (k',x'),c.Fz,H'⟩:=by
 have ay:p<c.hd.length:=(Aa.1 hp).1;have aw:p<G.length:=(Aa.1 hG).1;have af:∀o,Gq x=some o→Ij c G o:=fun o ho=>⟨p,ob,k,x,hG,hl,hp,ho⟩
 have hle:CxLe c ⟨c.hd.set p (k',x'),c.Fz,H'⟩:=by
  refine⟨fun q k1 h1 e=>?_,fun o ho=>⟨ho,ap o (hs.fz o ho) (fun q=>hs.sep o (af o q) ho)⟩⟩;by_cases hq:q=p
  ·subst hq;rw[hp] at e;cases e;exact⟨k',x',by dsimp only;rw[Ah ay],hk,hx,hf⟩
  ·exact⟨k1,h1,by dsimp only;rw[Ad (Ne.symm hq)];exact e,Al _,fun _=>rfl,fun _=>rfl⟩
 have hinv:∀(q:Nat) (k1:Nat) (h1:AV) (aa:LObj),(c.hd.set p (k',x'))[q]?=some (k1,h1)→(G.set p ob')[q]?=some aa→(q≠p∧c.hd[q]?=some (k1,h1)∧G[q]?=some aa)∨(q=p∧k1=k'∧h1=x'∧aa=ob'):=by
  intro q k1 h1 aa e1 e2;by_cases hq:q=p
  ·subst hq;rw[Ah ay] at e1;rw[Ah aw] at e2;cases e1;cases e2;exact .inr ⟨rfl,rfl,rfl,rfl⟩
  ·rw[Ad (Ne.symm hq)] at e1 e2;exact .inl ⟨hq,e1,e2⟩
 have ad:∀(q:Nat) (k1:Nat) (h1:AV) (aa:LObj) (o:Nat),q≠p→c.hd[q]?=some (k1,h1)→G[q]?=some aa→aa.live=true→Gq h1=some o→Gq x≠some o:=by
  intro q k1 h1 aa o hq e1 e2 e3 e4 e5;exact hq (hs.excl q p aa ob k1 h1 k x o e2 hG e3 hl e1 hp e4 e5)
 have aj:∀o,Ij ⟨c.hd.set p (k',x'),c.Fz,H'⟩ (G.set p ob') o→(Ij c G o∧o<c.H.next)∨(c.H.next≤o∧o<H'.next):=by
  rintro o ⟨q,aa,k1,h1,e1,e2,e3,e4⟩;rcases hinv q k1 h1 aa e3 e1 with ⟨_,q1,q2⟩|⟨_,_,rfl,_⟩
  ·have:=(⟨q,aa,k1,h1,q2,e2,q1,e4⟩:Ij c G o);exact .inl ⟨this,hs.lt o this⟩
  ·obtain⟨q1,q2⟩:=ar o e4;rcases q1 with q1|q1
   ·exact .inl ⟨af o q1,hs.lt o (af o q1)⟩
   ·exact .inr ⟨q1,q2⟩
 refine⟨⟨by simp[hs.len],fun o ho=>Bh (hs.fz o ho) aq,fun o ho=>?_,fun o ho hf=>?_,fun q aa k1 h1 e1 e2=>?_,?_⟩,⟨hle,aq,fun o ho hn=>ap o ho (fun q=>hn (af o q)),fun o ho=>?_,fun o ho=>.inl ho,fun q aa ag e1 e2=>?_,fun q aa ag k1 h1 o e1 e2 e3 e4 ao he=>?_⟩,hle⟩
 ·rcases aj o ho with h|h
  ·exact Bh h.2 aq
  ·exact h.2
 ·rcases aj o ho with h|h
  ·exact hs.sep o h.1 hf
  ·have:=hs.fz o hf;omega
 ·rcases hinv q k1 h1 aa e2 e1 with ⟨hq,q1,q2⟩|⟨_,rfl,rfl,rfl⟩
  ·by_cases ah:aa.live=true
   ·refine (hs.obj q aa k1 h1 q2 q1).mono hle (fun o ho=>ap o (hs.lt o ⟨q,aa,k1,h1,q2,ah,q1,ho⟩) (ad q k1 h1 aa o hq q1 q2 ah ho))
   ·cases aa<;>first|exact absurd rfl ah|trivial
  ·exact az hle
 ·intro q r aa ag k1 h1 k2 h2 o e1 e2 e3 e4 e5 e6 e7 e8;rcases hinv q k1 h1 aa e5 e1 with ⟨r0,q1,q2⟩|⟨r1,_,rfl,rfl⟩<;>rcases hinv r k2 h2 ag e6 e2 with ⟨r3,q3,q4⟩|⟨r2,_,rfl,rfl⟩
  ·exact hs.excl q r aa ag k1 h1 k2 h2 o q2 q4 e3 e4 q1 q3 e7 e8
  ·have h3:=hs.lt o ⟨q,aa,k1,h1,q2,e3,q1,e7⟩;rcases (ar o e8).1 with h|h
   ·exact absurd h (ad q k1 h1 aa o r0 q1 q2 e3 e7)
   ·omega
  ·have h3:=hs.lt o ⟨r,ag,k2,h2,q4,e4,q3,e8⟩;rcases (ar o e7).1 with h|h
   ·exact absurd h (ad r k2 h2 ag o r3 q3 q4 e4 e8)
   ·omega
  ·omega
 ·rcases aj o ho with h|h
  ·exact .inl h.1
  ·exact .inr h.1
 ·by_cases hq:q=p
  ·subst hq;rw[Ah aw] at e2;cases e2;rw[hG] at e1;cases e1;rcases ax with h|h
   ·exact Ev h
   ·exact h.2
  ·rw[Ad (Ne.symm hq),e1] at e2;cases e2;exact Al _
 ·by_cases hq:q=p
  ·subst hq;rw[Ah aw] at e2;cases e2;rw[hG] at e1;cases e1;rcases ax with h|h
   ·omega
   ·rw[h.1] at ao;cases ao
  ·rw[Ad (Ne.symm hq),e1] at e2;cases e2;have ah:aa.live=true:=by cases aa<;>first|rfl|cases ao
   exact⟨rfl,ap o (hs.lt o ⟨q,aa,k1,h1,e1,ah,e3,e4⟩) (ad q k1 h1 aa o hq e3 e1 ah e4),by dsimp only;rw[Ad (Ne.symm hq)]⟩
end Go.Sv
namespace Go.Sv
def Th (n:Int):Ok .u64 n=n%18446744073709551616:=by
 rw[Vb];rfl
def o6 (n:Int):Ok .u8 n=n%256:=by
 rw[Vb];rfl
def Tc {n:Int}(h:M9 n):Ok .i64 n=n:=by
 rw[Vb];obtain⟨a,d⟩:=h;show (if (true&&decide (n%18446744073709551616 ≥ 9223372036854775808))=true then n%18446744073709551616 - 18446744073709551616 else n%18446744073709551616)=n;simp only[El,Ao];split<;>omega
def bu (a b:Int):x8 a b=decide (a=b):=by
 rw[xy,B4];simp
def N7 (a b:Int):nw a b=decide (a<b):=du a b
def qy (a b:Int):(!(decide (b<a)))=decide (a≤b):=by
 rw[B4];simp
def T5 (x:UInt64):Nat.blt x.toNat (Ot .u64)=true:=by
 have:=x.toNat_lt;unfold Nat.blt;exact Ak (by show x.toNat+1≤2*9223372036854775808;omega)
def Yq (x:UInt8):Nat.blt x.toNat (Ot .u8)=true:=by
 have:=x.toNat_lt;unfold Nat.blt;exact Ak (by show x.toNat+1≤2*128;omega)
variable {c : Cx} {K : LV → Prop}
def AR.u' {x:UInt64}{n:Int}(h:n=Int.ofNat x.toNat):AR c (.u x) (.int .u64 n):=by subst h;exact .u x
def AR.b' {x:UInt8}{n:Int}(h:n=Int.ofNat x.toNat):AR c (.b x) (.int .u8 n):=by subst h;exact .b x
def AR.bool' {x y:Bool}(h:y=x):AR c (.bool x) (.bool y):=by subst h;exact .bool y
def zmi (a b:UInt64):decide (Int.ofNat a.toNat=Int.ofNat b.toNat)=decide (a=b):=by
 rw[B4];simp only[Ao];constructor
 ·intro h;exact Bm.1 (Int.ofNat.inj h)
 ·intro h;rw[h]
def zh8 (a b:UInt64):decide (Int.ofNat a.toNat<Int.ofNat b.toNat)=decide (a<b):=by
 rw[B4];simp only[Ao,Ca];exact Int.ofNat_lt
def zu7 (a b:UInt64):decide (Int.ofNat a.toNat≤Int.ofNat b.toNat)=decide (a≤b):=by
 rw[B4];simp only[Ao,Br];exact Int.ofNat_le
def zu6 (a b:UInt8):decide (Int.ofNat a.toNat=Int.ofNat b.toNat)=decide (a=b):=by
 rw[B4];simp only[Ao];constructor
 ·intro h;exact UInt8.toNat_inj.1 (Int.ofNat.inj h)
 ·intro h;rw[h]
def zuf (a b:UInt8):decide (Int.ofNat a.toNat<Int.ofNat b.toNat)=decide (a<b):=by
 rw[B4];simp only[Ao,UInt8.lt_iff_toNat_lt];exact Int.ofNat_lt
def zua (a b:UInt8):decide (Int.ofNat a.toNat≤Int.ofNat b.toNat)=decide (a≤b):=by
 rw[B4];simp only[Ao,UInt8.le_iff_toNat_le];exact Int.ofNat_le
def Kl (c:Cx)(K:LV→Prop)(r:Option AV):Prop:=∃v a,r=some a∧AR c v a∧K v
def Kl.mk {v:LV}{a:AV}(h:AR c v a)(k:K v):Kl c K (some a):=⟨v,a,rfl,h,k⟩
def mj (a:UInt64)(s:Nat):Ok .u64 (.ofNat (Nat.mul a.toNat (Nat.pow 2 (I8 s (IntKind.bits .u64)))))=Int.ofNat (Kh a s).toNat:=by
 rw[Th];have hm:I8 s (IntKind.bits .u64)=min s 64:=by
  unfold I8;by_cases h:s≤64
  ·rw[show Nat.ble s (IntKind.bits .u64)=true from Ak h];simp[Cz h]
  ·have:Nat.ble s (IntKind.bits .u64)=false:=by
    cases d:Nat.ble s (IntKind.bits .u64) with
    |false=>rfl
    |true=>exact absurd (As d) h
   rw[this];simp only[IntKind.bits];omega
 rw[hm];rw[Xi,Bo];show (Int.ofNat (a.toNat*2^min s 64))%18446744073709551616=Int.ofNat (a.toNat*2^s%2^64);by_cases h:s≤64
 ·rw[Cz h];rfl
 ·rw[Nat.min_eq_right (by omega)];have e:2^s=2^64*2^(s - 64):=by rw[←C9];congr 1;omega
  have:a.toNat*2^s%2^64=0:=by
   rw[e,←Cq,B2 a.toNat,Cq,Nat.mul_mod_right]
  rw[this];have f:a.toNat*2^64%2^64=0:=Nat.mul_mod_left _ _;show Int.ofNat (a.toNat*2^64%2^64)=0;rw[f];rfl
def na (a:UInt64)(s:Nat):Int.ofNat (Nat.div a.toNat (Nat.pow 2 (I8 s (IntKind.bits .u64))))=Int.ofNat (It a s).toNat:=by
 have hm:I8 s (IntKind.bits .u64)=min s 64:=by
  unfold I8;by_cases h:s≤64
  ·rw[show Nat.ble s (IntKind.bits .u64)=true from Ak h];simp[Cz h]
  ·have:Nat.ble s (IntKind.bits .u64)=false:=by
    cases f:Nat.ble s (IntKind.bits .u64) with
    |false=>rfl
    |true=>exact absurd (As f) h
   rw[this];simp only[IntKind.bits];omega
 rw[hm];rw[Vg,Bo];have d:=a.toNat_lt;show Int.ofNat (a.toNat/2^min s 64)=Int.ofNat (a.toNat/2^s%2^64);have g:a.toNat/2^s%2^64=a.toNat/2^s:=Bd (Nat.lt_of_le_of_lt (Er _ _) d);rw[g];by_cases h:s≤64
 ·rw[Cz h]
 ·rw[Nat.min_eq_right (by omega),Dr d];rw[Dr (Bh d (D0 (by omega) (by omega)))]
def yb {P:Program}{op:BinOp}{g:Bool}{t:TypeId}{a b:UInt64}(h:Of op a b K):Kl c K (Im P op g t (.int .u64 (Int.ofNat a.toNat)) (.int .u64 (Int.ofNat b.toNat))):=by
 have hk:Rm .u64 .u64=true:=rfl;have f:=a.toNat_lt;have d:=b.toNat_lt;cases op<;>simp only[Of,M3,Rh,zjp,jx,zg,Vi,Vj,Z7,zz3] at h<;>simp only[Im,hk,vn,U2,zql,T5]
 case add=>exact .mk (.u' (by rw[Th,Bs];rfl)) h
 case sub =>
  refine .mk (.u' ?_) h;rw[Th,D3];show (Int.ofNat a.toNat - Int.ofNat b.toNat)%_=((2^64 - b.toNat+a.toNat)%2^64:Nat);simp only[A9];omega
 case mul=>exact .mk (.u' (by rw[Th,Ei];rfl)) h
 case quo =>
  obtain⟨l,m⟩:=h;have o:Wq (Int.ofNat b.toNat)=false:=by
   unfold Wq;cases j:Nat.beq b.toNat 0 with
   |false=>exact j
   |true=>exact absurd (Bm.1 (Am j)) l
  simp only[o];refine .mk (.u' ?_) m;rw[Th,UInt64.toNat_div];show (Int.tdiv (Int.ofNat a.toNat) (Int.ofNat b.toNat))%_=Int.ofNat (a.toNat/b.toNat);have:Int.tdiv (Int.ofNat a.toNat) (Int.ofNat b.toNat)=Int.ofNat (a.toNat/b.toNat):=rfl;rw[this];exact Co (B0 _) (by have:=Er a.toNat b.toNat;simp only[A9];omega)
 case rem =>
  obtain⟨l,m⟩:=h;have o:Wq (Int.ofNat b.toNat)=false:=by
   unfold Wq;cases j:Nat.beq b.toNat 0 with
   |false=>exact j
   |true=>exact absurd (Bm.1 (Am j)) l
  simp only[o];exact .mk (.u' (by rw[UInt64.toNat_mod];rfl)) m
 case and =>
  refine .mk (.u' ?_) h;rw[Th,UInt64.toNat_and];have:a.toNat &&& b.toNat<2^64:=Nat.and_lt_two_pow _ d;exact Co (B0 _) (by show Int.ofNat (a.toNat &&& b.toNat)<_;simp only[A9];omega)
 case or =>
  refine .mk (.u' ?_) h;rw[Th,D7];have:a.toNat ||| b.toNat<2^64:=Nat.or_lt_two_pow f d
  exact Co (B0 _) (by show Int.ofNat (a.toNat ||| b.toNat)<_;simp only[A9];omega)
 case xor =>
  refine .mk (.u' ?_) h;rw[Th,UInt64.toNat_xor];have:a.toNat ^^^ b.toNat<2^64:=Nat.xor_lt_two_pow f d;exact Co (B0 _) (by show Int.ofNat (a.toNat ^^^ b.toNat)<_;simp only[A9];omega)
 case andNot =>
  refine .mk (.u' ?_) h;have e:Nat.xor a.toNat (Nat.land a.toNat b.toNat)=(a &&& ~~~b).toNat:=by
   show a.toNat ^^^ (a.toNat &&& b.toNat)=_;rw[UInt64.toNat_and,UInt64.toNat_not];refine Nat.eq_of_testBit_eq fun i=>?_
   rw[Nat.testBit_xor,Nat.testBit_and,Nat.testBit_and];have:(UInt64.size - 1 - b.toNat).testBit i=(decide (i<64) && !b.toNat.testBit i):=by
    have:=Nat.testBit_two_pow_sub_succ d i;rw[show UInt64.size - 1 - b.toNat=2^64 - (b.toNat+1) from by show 18446744073709551616 - 1 - b.toNat=_;omega,this]
   rw[this];by_cases hi:i<64
   ·simp[hi];cases a.toNat.testBit i<;>cases b.toNat.testBit i<;>rfl
   ·have:a.toNat.testBit i=false:=Nat.testBit_lt_two_pow (Bh f (D0 (by omega) (by omega)));simp[this]
  rw[e,Th];exact Co (B0 _) (by have:=(a &&& ~~~b).toNat_lt;simp only[A9];omega)
 case shl=>exact .mk (.u' (mj a b.toNat)) h
 case shr=>exact .mk (.u' (na a b.toNat)) h
 case eql=>exact .mk (.bool' (by rw[bu,zmi])) h
 case neq=>exact .mk (.bool' (by rw[bu,zmi];simp)) h
 case lss=>exact .mk (.bool' (by rw[N7,zh8])) h
 case leq=>exact .mk (.bool' (by rw[N7,qy,zu7])) h
 case gtr=>exact .mk (.bool' (by rw[N7,zh8])) h
 case geq=>exact .mk (.bool' (by rw[N7,qy,zu7])) h
def ud {P:Program}{op:BinOp}{g:Bool}{t:TypeId}{a b:UInt8}(h:bbL op a b K):Kl c K (Im P op g t (.int .u8 (Int.ofNat a.toNat)) (.int .u8 (Int.ofNat b.toNat))):=by
 have hk:Rm .u8 .u8=true:=rfl;have f:=a.toNat_lt;have d:=b.toNat_lt;cases op<;>simp only[bbL,jh,fj,j0,ye] at h<;>simp only[Im,hk,vn,U2,Yq]
 case add=>exact .mk (.b' (by rw[o6,UInt8.toNat_add];rfl)) h
 case sub =>
  refine .mk (.b' ?_) h;rw[o6,UInt8.toNat_sub];show (Int.ofNat a.toNat - Int.ofNat b.toNat)%_=((2^8 - b.toNat+a.toNat)%2^8:Nat);simp only[A9];omega
 case and =>
  refine .mk (.b' ?_) h;rw[o6,UInt8.toNat_and];have:a.toNat &&& b.toNat<2^8:=Nat.and_lt_two_pow _ d;exact Co (B0 _) (by show Int.ofNat (a.toNat &&& b.toNat)<_;simp only[A9];omega)
 case or =>
  refine .mk (.b' ?_) h;rw[o6,UInt8.toNat_or];have:a.toNat ||| b.toNat<2^8:=Nat.or_lt_two_pow f d
  exact Co (B0 _) (by show Int.ofNat (a.toNat ||| b.toNat)<_;simp only[A9];omega)
 case eql=>exact .mk (.bool' (by rw[bu,zu6])) h
 case neq=>exact .mk (.bool' (by rw[bu,zu6];simp)) h
 case lss=>exact .mk (.bool' (by rw[N7,zuf])) h
 case leq=>exact .mk (.bool' (by rw[N7,qy,zua])) h
 case gtr=>exact .mk (.bool' (by rw[N7,zuf])) h
 case geq=>exact .mk (.bool' (by rw[N7,qy,zua])) h
def AR.i' {x n:Int}(h:n=x):AR c (.i x) (.int .i64 n):=by subst h;exact .i n
def zpt {b:Int}(h:b≠0):Wq b=false:=by
 unfold Wq;split
 ·rename_i n;cases a:Nat.beq n 0 with
  |false=>rfl
  |true=>exact absurd (by rw[Am a];rfl) h
 ·rfl
def zna {P:Program}{g:Bool}{t:TypeId}{a:Int}{k:IntKind}{s:Int}(d:0≤a)(f:0≤s)(h:s≤64) :
  Im P .shl g t (.int .i64 a) (.int k s)=some (.int .i64 (Ok .i64 (a*2^s.toNat)))∧Im P .shr g t (.int .i64 a) (.int k s)=some (.int .i64 (a/2^s.toNat)):=by
 obtain⟨x,rfl⟩:=Af d;obtain⟨y,rfl⟩:=Af f;have hm:I8 y (IntKind.bits .i64)=y:=by
  unfold I8;rw[show Nat.ble y (IntKind.bits .i64)=true from Ak (by simp only[IntKind.bits];omega)]
 constructor
 ·show some (AV.int .i64 (Ok .i64 (.ofNat (Nat.mul x (Nat.pow 2 (I8 y (IntKind.bits .i64)))))))=_;rw[hm]
  congr 3
 ·show some (AV.int .i64 (.ofNat (Nat.div x (Nat.pow 2 (I8 y (IntKind.bits .i64))))))=_;rw[hm]
  congr 2
def yn {P:Program}{op:BinOp}{g:Bool}{t:TypeId}{a b:Int}(h:Pb op a b K):Kl c K (Im P op g t (.int .i64 a) (.int .i64 b)):=by
 have hk:Rm .i64 .i64=true:=rfl;cases op<;>simp only[Pb] at h
 case shl =>
  obtain⟨d,l,f,m,j⟩:=h;rw[(zna d l f).1,Tc m];exact .mk (.i _) j
 case shr =>
  obtain⟨d,l,f,j⟩:=h;rw[(zna d l f).2];exact .mk (.i _) j
 all_goals simp only[Im,hk,vn]
 case and =>
  obtain⟨d,l,f,m,j⟩:=h;obtain⟨x,rfl⟩:=Af d;obtain⟨y,rfl⟩:=Af f;have o:Nat.blt x (Ot .i64)=true:=by unfold Nat.blt;exact Ak (by show x+1≤2*9223372036854775808;omega)
  have p:Nat.blt y (Ot .i64)=true:=by unfold Nat.blt;exact Ak (by show y+1≤2*9223372036854775808;omega)
  have q:x &&& y<2^63:=Nat.and_lt_two_pow _ (by omega);show Kl c K (U2 Nat.land .i64 (.ofNat x) (.ofNat y));simp only[U2,o,p];exact .mk (.i' (Tc ⟨by simp only[A9];omega,by simp only[A9];exact Int.ofNat_lt.2 q⟩)) j
 case or =>
  obtain⟨d,l,f,m,j⟩:=h;obtain⟨x,rfl⟩:=Af d;obtain⟨y,rfl⟩:=Af f;have o:Nat.blt x (Ot .i64)=true:=by unfold Nat.blt;exact Ak (by show x+1≤2*9223372036854775808;omega)
  have p:Nat.blt y (Ot .i64)=true:=by unfold Nat.blt;exact Ak (by show y+1≤2*9223372036854775808;omega)
  have q:x ||| y<2^63:=Nat.or_lt_two_pow (by omega) (by omega)
  show Kl c K (U2 Nat.lor .i64 (.ofNat x) (.ofNat y));simp only[U2,o,p];exact .mk (.i' (Tc ⟨by simp only[A9];omega,by simp only[A9];exact Int.ofNat_lt.2 q⟩)) j
 case add=>exact .mk (.i' (Tc h.1)) h.2
 case sub=>exact .mk (.i' (Tc h.1)) h.2
 case mul=>exact .mk (.i' (Tc h.1)) h.2
 case quo=>rw[zpt h.1];exact .mk (.i' (Tc h.2.1)) h.2.2
 case rem=>rw[zpt h.1];exact .mk (.i _) h.2
 case eql=>exact .mk (.bool' (by rw[bu])) h
 case neq=>exact .mk (.bool' (by rw[bu];simp)) h
 case lss=>exact .mk (.bool' (by rw[N7])) h
 case leq=>exact .mk (.bool' (by rw[N7,qy])) h
 case gtr=>exact .mk (.bool' (by rw[N7])) h
 case geq=>exact .mk (.bool' (by rw[N7,qy])) h
def s8 {P:Program}{op:BinOp}{g:Bool}{t:TypeId}{k:IntKind}{a b:Int}(h:kkL op a b K):Kl c K (Im P op g t (.int k a) (.int k b)):=by
 have hk:Rm k k=true:=by cases k<;>rfl
 cases op<;>simp only[kkL] at h<;>simp only[Im,hk,vn]
 case eql=>exact .mk (.bool' (by rw[bu])) h
 case neq=>exact .mk (.bool' (by rw[bu];simp)) h
 case lss=>exact .mk (.bool' (by rw[N7])) h
 case leq=>exact .mk (.bool' (by rw[N7,qy])) h
 case gtr=>exact .mk (.bool' (by rw[N7])) h
 case geq=>exact .mk (.bool' (by rw[N7,qy])) h
def zx3 (a b:List UInt8):(Nat.beq a.length b.length&&Nat.beq (Hx a) (Hx b))=decide (a=b):=by
 rw[B4];simp only[Ac,Ao];constructor
 ·rintro⟨d,f⟩;exact packL_inj (Am d) (Am f)
 ·intro h;subst h;simp
def AR.str' {l:List UInt8}{n m:Nat}(h1:n=l.length)(h2:m=Hx l):AR c (.str l) (.str n m):=by subst h1 h2;exact .str l
def vi {P:Program}{op:BinOp}{g:Bool}{t:TypeId}{a b:List UInt8}(h:ssL op a b K):Kl c K (Im P op g t (.str a.length (Hx a)) (.str b.length (Hx b))):=by
 cases op<;>simp only[ssL] at h<;>simp only[Im,zm]
 case add =>
  have d:Nat.ble (Nat.add a.length b.length) I6=true:=Ak h.1;simp only[d];refine .mk (.str' (by simp) ?_) h.2;rw[packL_append];rfl
 case eql=>exact .mk (.bool' (zx3 a b)) h
 case neq=>exact .mk (.bool' (by rw[zx3];simp)) h
def zrw {P:Program}{op:BinOp}{g:Bool}{t:TypeId}{a b:AV}{r:Bool}(d:Im P op g t a b=match op with | .eql=>sn (Ks P g t a b) | .neq=>we (Ks P g t a b)|_=>none)(h:Tu P op g t a b r K):Kl c K (Im P op g t a b):=by
 rw[d];cases op<;>simp only[Tu] at h
 case eql=>rw[h.1];exact .mk (.bool _) h.2
 case neq=>rw[h.1];exact .mk (.bool _) h.2
end Go.Sv
namespace Go.Sv
noncomputable def ρA (E:Tr AV):X0:=fun t=>Fk (F7 t) E
def zr6 (E:Tr AV):Oo E (ρA E):=fun _ _=>rfl
def Hr {c:Cx}{ρ:Fi}{E:Tr AV}(a:Hc c ρ E){x:Lx}(h:x.ok=true):AR c (x.ev ρ) (x.r.ev (ρA E)):=by
 cases x with
 |t i=>exact a i
 |c v=>exact Zx c h
def zuz {c:Cx}{ρ:Fi}{E:Tr AV}(a:Hc c ρ E):∀{l:List Lx},l.all Lx.ok=true→ARs c (l.map (·.ev ρ)) ((jc l).map (·.ev (ρA E)))
 |[],_=>.nil
 |x::l,h=>by
  simp only[Cv,Ac] at h;exact .cons (Hr a h.1) (zuz a h.2)
def ct:Option Lx→Bool
 |none=>true
 |some x=>x.ok
def LOp.ok:LOp→Bool
 |.move x=>x.ok
 |.pick c a b=>c.ok&&a.ok&&b.ok
 |.alloc l=>l.all LV.scal
 |.box x=>x.ok
 |.build cs ps=>cs.all LV.scal&&ps.all (·.2.2.ok)
 |.buildSl _ _ cs ps=>cs.all LV.scal&&ps.all (·.2.2.ok)
 |.load1 x=>x.ok
 |.loadN _ x=>x.ok
 |.store _ x y=>x.ok&&y.ok
 |.nilChk x=>x.ok
 |.bin _ _ _ x y=>x.ok&&y.ok
 |.un _ x=>x.ok
 |.cvInt _ x=>x.ok
 |.cvStr x=>x.ok
 |.cvSame x=>x.ok
 |.cvBytes x=>x.ok
 |.mkFunc _ a b=>a.all Lx.ok&&b.all Lx.ok
 |.mkSl _ z l c=>z.all LV.scal&&l.ok&&c.ok
 |.slStr x lo hi=>x.ok&&ct lo&&ct hi
 |.slSl _ x lo hi=>x.ok&&ct lo&&ct hi
 |.slSl3 _ x lo hi mx=>x.ok&&ct lo&&ct hi&&mx.ok
 |.fieldAddr _ x=>x.ok
 |.field _ _ _ x=>x.ok
 |.ixAddr _ x i=>x.ok&&i.ok
 |.ixStr x i=>x.ok&&i.ok
 |.extract _ x=>x.ok
 |.lenStr x=>x.ok
 |.lenSl x=>x.ok
 |.maxi _ x y=>x.ok&&y.ok
 |.max3 _ x y z=>x.ok&&y.ok&&z.ok
 |.ixAddrArr _ _ x i=>x.ok&&i.ok
 |.ixArr _ _ _ x i=>x.ok&&i.ok
 |.lenArr _ x=>x.ok
 |.appZ _ z s x=>z.all LV.scal&&s.ok&&x.ok
 |.appG _ s x=>s.ok&&x.ok
 |.copy _ d x=>d.ok&&x.ok
 |.clear _ z x=>z.all LV.scal&&x.ok
 |.mkMap0=>true
 |.mkMap1 x=>x.ok
 |.lookup _ z _ x i=>z.cst&&x.ok&&i.ok
 |.mapUpd _ m k v=>m.ok&&k.ok&&v.ok
 |.lenMap x=>x.ok
 |.slArr _ _ x lo hi=>x.ok&&ct lo&&ct hi
 |.callV f args=>f.ok&&args.all Lx.ok
def Kx (P:Program)(c:Cx)(G:Ff)(K:LV→Ff→Prop):OR→Prop
 |.no=>False
 |.val v1 H'=>∃c' v G',c'.H=H'∧HSim c' G'∧Step c G c' G'∧AR c' v v1∧K v G'
 |.call t1 a=>∃t args,xh c t t1∧ARs c args a∧Ju P t args G K
section res
variable {P : Program} {c : Cx} {G : Ff} {K : LV → Ff → Prop}
def Kx.same (hs:HSim c G){v:LV}{a:AV}(h:AR c v a)(k:K v G):Kx P c G K (.val a c.H):=⟨c,v,G,rfl,hs,.refl c G,h,k⟩
def Kx.ret (hs:HSim c G){r:Option AV}(h:Kl c (fun v=>K v G) r):Kx P c G K (ret1 c.H r):=by
 obtain⟨v,a,rfl,h1,h2⟩:=h;exact .same hs h1 h2
def zel (c:Cx)(l':List AV) :
  ∃H',newObj c.H l'=some (c.H.next,H')∧H'.next=c.H.next+1∧(∀o,o<c.H.next→H'.get o=c.H.get o)∧H'.get c.H.next=some (.cells (Kd l' 0 .e) l'.length 0 false) :=
 ⟨_,rfl,rfl,fun _ ho=>Heap.get_push_ne _ _ ho,Heap.get_push_same _ _⟩
def zle (a:HSim c G){l:List LV}{l':List AV}(h:ARs c l l')(k:K (.ptr G.length 0) (G++[.cells l 0])):Kx P c G K (Q0 c.H l'):=by
 obtain⟨H',f,q,d,g⟩:=zel c l';unfold Q0;rw[f];have hle:CxLe c ⟨c.hd++[(0,.ptr c.H.next 0 0)],c.Fz,H'⟩:=⟨fun p k x e=>⟨k,x,by rw[Aq (Aa.1 e).1];exact e,Al _,fun _=>rfl,fun _=>rfl⟩,fun o ho=>⟨ho,d o (a.fz o ho)⟩⟩;obtain⟨j,m,_⟩:=a.push (H':=H') (x:=.ptr c.H.next 0 0) (ob:=.cells l 0) (by omega) d (fun o e=>by cases e;omega)
  ⟨rfl,c.H.next,_,l',rfl,by rw[h.length];exact g,by rw[h.length];exact z6f l',h.mono hle⟩
 exact⟨_,.ptr G.length 0,_,rfl,j,m,.ptr (by rw[←a.len];exact Ax),k⟩
def dc (d:HSim c G){l:List LV}{l':List AV}{len esz:Nat}{room:Option Nat}(h:ARs c l l')(f:l.length=len*esz)(j:∀r,room=some r→r=len)(k:K (.dy G.length 0) (G++[.dyn l len esz 0 0])) :
  Kx P c G K (match newObj c.H l' with
   |some (o,H')=>.val (.sl o 0 0 len esz room) H'
   |none=>.no):=by
 obtain⟨H',m,y,g,q⟩:=zel c l';rw[m];have hle:CxLe c ⟨c.hd++[(0,.sl c.H.next 0 0 len esz room)],c.Fz,H'⟩:=⟨fun p k x e=>⟨k,x,by rw[Aq (Aa.1 e).1];exact e,Al _,fun _=>rfl,fun _=>rfl⟩,fun o ho=>⟨ho,g o (d.fz o ho)⟩⟩;have a:l'.length=len*esz:=by rw[←h.length];exact f
 obtain⟨s,w,_⟩:=d.push (H':=H') (x:=.sl c.H.next 0 0 len esz room) (ob:=.dyn l len esz 0 0) (by omega) g (fun o e=>by cases e;omega)
  ⟨rfl,f,.inr ⟨c.H.next,0,room,_,l'.length,l',rfl,q,by omega,by rw[←a];exact z6f l',h.mono hle,fun r e=>by rw[j r e];exact⟨a,Al _⟩,fun _=>a⟩⟩
 exact⟨_,.dy G.length 0,_,rfl,s,w,.dy (h:=.sl c.H.next 0 0 len esz room) (by rw[←d.len];exact Ax) (Al _) (fun _=>rfl) rfl,k⟩
def zme (a:HSim c G){p o st:Nat}{l:List LV}(d:G[p]?=some (.cells l st))(e:c.hd[p]?=some (0,.ptr o 0 0)) :
  ∃t l',c.H.get o=some (.cells t l.length 0 false)∧Lj t 0 l.length=some l'∧ARs c l l':=by
 obtain⟨_,j,t,l',he,f,g,h⟩:=a.obj p _ _ _ d e;injection he with he
 subst he;exact⟨t,l',f,g,h⟩
def Yw (m:HSim c G){p k o v len d esz f g st:Nat}{room:Option Nat}{l:List LV}(q:G[p]?=some (.dyn l len esz g st))(e:c.hd[p]?=some (k,.sl o v 0 d f room)) :
  k=g∧l.length=len*esz∧d=len∧f=esz∧∃t a l',c.H.get o=some (.cells t a v false)∧len*esz≤a∧Lj t 0 (len*esz)=some l'∧ARs c l l' ∧
   (∀r,room=some r→a=r*esz∧len≤r)∧(room=none→a=len*esz):=by
 obtain⟨s,w,h⟩:=m.obj p _ _ _ q e;rcases h with ⟨h,_⟩|⟨J,L,j,t,a,l',he,x,y,z,A,B,C⟩
 ·cases h
 ·injection he with D E M F H I
  subst D E F H I;exact⟨s,w,rfl,rfl,t,a,l',x,y,z,A,B,C⟩
def znd (m:HSim c G){x:LV}{a:AV}{n:Nat}{K:List LV→Prop}(q:AR c x a)(h:Ru G x n K):∃o v i l' l,a=.ptr o v i∧Jx c.H o v i n=some l'∧ARs c l l'∧K l:=by
 unfold Ru at h;split at h
 ·rename_i p i;split at h
  ·rename_i l st f;obtain⟨g,d⟩:=h;cases q with
   | @ptr _ _ o e =>
    obtain⟨t,l',C,r,s⟩:=zme m f e;exact⟨o,0,i,_,_,rfl,Qn C r (Al _) g,(s.drop i).take n,d⟩
  ·exact h.elim
 ·rename_i p k i;split at h
  ·rename_i l len esz D st f;obtain⟨E,g,d⟩:=h;cases q with
   | @dptr _ _ _ k' o v j O e hk F =>
    have H:=(m.obj p _ _ _ f e).1;obtain⟨I,z,A,w,y⟩:=F (by omega);subst y I;obtain⟨_,Q,_,_,t,B,l',r,s,J,L,_⟩:=Yw m f e;exact⟨o,v,j,_,_,rfl,Qn r J s (by omega),(L.drop j).take n,d⟩
  ·exact h.elim
 ·rename_i l i;obtain⟨g,d⟩:=h;cases q with
  |cptr R M N=>exact⟨_,_,_,_,_,rfl,zli M g,(N.drop i).take n,d⟩
 ·exact h.elim
def zt9 (g:HSim c G){x:LV}{a:AV}{K:LV→Prop}(j:AR c x a)(h:Rk G x K):∃o v i w b,a=.ptr o v i∧Jx c.H o v i 1=some [b]∧AR c w b∧K w:=by
 have one:∀{l:List LV} {i:Nat} {v:LV},l[i]?=some v→i+1≤l.length∧(l.drop i).take 1=[v]:=fun {l i v} e=>by
  obtain⟨d,f⟩:=Aa.1 e;refine⟨d,?_⟩;rw[B9 d,f];simp
 have key:Ru G x 1 (fun l=>∃v,l=[v]∧K v):=by
  unfold Rk at h;unfold Ru;split at h
  ·split at h
   ·obtain⟨v,d,f⟩:=h;exact⟨(one d).1,v,(one d).2,f⟩
   ·exact h.elim
  ·split at h
   ·obtain⟨m,v,d,f⟩:=h;exact⟨m,(one d).1,v,(one d).2,f⟩
   ·exact h.elim
  ·obtain⟨v,d,f⟩:=h;exact⟨(one d).1,v,(one d).2,f⟩
  ·exact h.elim
 obtain⟨o,v,i,l',l,p,q,r,w,rfl,s⟩:=znd g j key;cases r with
 |cons e es=>cases es;exact⟨o,v,i,w,_,p,q,e,s⟩
def zl9 {H:Heap}{o v i N a:Nat}{t:Tr AV}{l r:List AV}(d:H.get o=some (.cells t a v false))(_:Lj t 0 N=some l)(g:N≤a)(hle:i+r.length≤N) :
  Qh H o v i r=some (H.put o (.cells (Kd r i t) a v false)):=by
 unfold Qh;rw[d];have f:Nat.ble (Nat.add i r.length) a=true:=Ak (by show i+r.length≤a;omega);simp only[Bj,f]
def zuc {α:Type}:∀{l:List α} {p:Nat} {a:α},l[p]?=some a→l.set p a=l
 |[],_,_,h=>by simp at h
 |x::l,0,a,h=>by simp at h;subst h;rfl
 |x::l,p+1,a,h=>by simp at h;simp[zuc h]
def zbz (s:HSim c G){x:LV}{a:AV}{l:List LV}{l':List AV}{K:Ff→Prop}(R:AR c x a)(D:ARs c l l')(h:O9 G x l K) :
  ∃o v i H' c' G',a=.ptr o v i∧Qh c.H o v i l'=some H'∧c'.H=H'∧HSim c' G'∧Step c G c' G'∧K G':=by
 have hlen:=D.length;unfold O9 at h;split at h
 ·rename_i p i;split at h
  ·rename_i z st d;obtain⟨A,E⟩:=h;cases R with
   | @ptr _ _ o e =>
    obtain⟨t,w,T,B,C⟩:=zme s d e;have hw:=zl9 (i:=i) (r:=l') T B (Al _) (by omega);obtain⟨F,H,_⟩:=s.upd (k':=0) (x':=.ptr o 0 0) (ob':=.cells (Hd z i l) (st+1)) (H':=c.H.put o (.cells (Kd l' i t) z.length 0 false)) d rfl e (Al _)
     (fun I _ y=>Heap.get_put_ne _ _ (fun q=>y (by rw[q];rfl))) (fun I J=>by cases J;exact⟨.inl rfl,s.lt o ⟨p,_,_,_,d,rfl,e,rfl⟩⟩) (Al _) (fun _=>rfl) (fun _=>rfl) (.inl (Bx _))
     (fun hle=>⟨rfl,o,_,Ww w i l',rfl,by rw[zbo A];exact Heap.get_put_same _ _ _,by rw[zbo A];exact zgm B (by omega),(C.lay D i).mono hle⟩)
    exact⟨o,0,i,_,_,_,rfl,hw,rfl,F,H,E⟩
  ·exact h.elim
 ·rename_i p k i;split at h
  ·rename_i z len esz L st d;obtain⟨U,A,E⟩:=h;cases R with
   | @dptr _ _ _ k' o v j hh e hk V =>
    have W:=(s.obj p _ _ _ d e).1;obtain⟨X,f,g,room,M⟩:=V (by omega);subst M X;obtain⟨N,Y,O,Q,t,m,w,B,C,S,Z,r7,r8⟩:=Yw s d e;subst O Q;have hw:=zl9 (i:=j) (r:=l') B S C (by omega);obtain⟨F,H,_⟩:=s.upd (k':=k') (x':=.sl o v 0 f g room) (ob':=.dyn (Hd z j l) f g L (st+1)) (H':=c.H.put o (.cells (Kd l' j t) m v false)) d rfl e (Al _)
     (fun I _ y=>Heap.get_put_ne _ _ (fun q=>y (by rw[q];rfl))) (fun I J=>by cases J;exact⟨.inl rfl,s.lt _ ⟨p,_,_,_,d,rfl,e,rfl⟩⟩) (Al _) (fun _=>rfl) (fun _=>rfl) (.inl (Bx _))
     (fun hle=>⟨N,by rw[zbo A];exact Y,.inr ⟨o,v,room,_,m,Ww w j l',rfl,Heap.get_put_same _ _ _,C,zgm S (by omega),(Z.lay D j).mono hle,r7,r8⟩⟩)
    exact⟨o,v,j,_,_,_,rfl,hw,rfl,F,H,E⟩
  ·exact h.elim
 ·exact h.elim
def g9 (z:HSim c G){x:LV}{a:AV}{K:Nat→Prop}(j:AR c x a)(h:lenL G x K):∃n,K n∧(a=.nilSl∧n=0∨a=.emp∧n=0∨∃o v i esz room,a=.sl o v i n esz room):=by
 unfold lenL at h;split at h
 ·cases j;exact⟨0,h,.inl ⟨rfl,rfl⟩⟩
 ·rename_i p k;split at h
  ·rename_i l len esz q st r;obtain⟨s,h⟩:=h;cases j with
   | @dy _ _ k' E _ e hk w _ =>
    obtain⟨F,H,d⟩:=z.obj p _ _ _ r e;have f:=w (by omega);rcases d with ⟨d,m⟩|⟨o,v,room,t,A,l',d,_⟩
    ·exact⟨len,h,.inl ⟨f.trans d,m⟩⟩
    ·exact⟨len,h,.inr (.inr ⟨_,_,_,_,_,f.trans d⟩)⟩
  ·exact h.elim
 ·rename_i p k lo len;split at h
  ·rename_i l B esz q st r;obtain⟨s,h⟩:=h;cases j with
   | @vw _ _ _ _ k' E _ e hk w _ _ =>
    obtain⟨F,H,d⟩:=z.obj p _ _ _ r e;rcases w (by omega) with ⟨m,g|g⟩|⟨o,v,C,D,room,y,_,g,_⟩
    ·exact⟨len,h,.inl ⟨g,m⟩⟩
    ·exact⟨len,h,.inr (.inl ⟨g.1,m⟩)⟩
    ·exact⟨len,h,.inr (.inr ⟨_,_,_,_,_,g⟩)⟩
  ·exact h.elim
 ·cases j with
  |lst=>exact⟨_,h,.inr (.inr ⟨_,_,_,_,_,rfl⟩)⟩
  |lstNil=>exact⟨0,h,.inl ⟨rfl,rfl⟩⟩
  |lstEmp=>exact⟨0,h,.inr (.inl ⟨rfl,rfl⟩)⟩
 ·exact h.elim
def zo9 (l:List UInt8)(c:Cx):ARs c (l.map LV.b) ((Pv l.length (Hx l)).map fun (b:Nat)=>AV.int .u8 (Int.ofNat b)):=by
 rw[unpack_pack]
 induction l with
 |nil=>exact .nil
 |cons b l a=>exact .cons (.b b) a
def zxy (z:HSim c G){x:LV}{a:AV}{size:Nat}{K:Nat→List LV→Prop}(j:AR c x a)(h:Mm G size x K):∃n l l',Yy c.H size a=some (n,l')∧ARs c l l'∧l.length=n*size∧K n l:=by
 have f:Nat.beq size size=true:=Bj _;unfold Mm at h;split at h
 ·cases j;exact⟨0,[],[],rfl,.nil,by simp,h⟩
 ·rename_i p k;split at h
  ·rename_i l len esz A st y;obtain⟨B,rfl,h⟩:=h;cases j with
   | @dy _ _ k' L _ e hk C _ =>
    obtain⟨X,D,m⟩:=z.obj p _ _ _ y e;have q:=C (by omega);rcases m with ⟨m,g⟩|⟨o,v,room,t,r,l',m,g,s,M,H,_⟩
    ·subst g;have:l=[]:=Ay (by simpa using D);subst this;exact⟨0,[],[],by rw[q,m];rfl,.nil,by simp,h⟩
    ·refine⟨len,l,l',?_,H,D,h⟩;have w:=Qn (i:=0) (n:=len*esz) g M s (by omega);have E:l'.length=len*esz:=by rw[←H.length];exact D
     rw[q,m];simp only[Yy,f];rw[show Nat.mul len esz=len*esz from rfl,w];simp[Aw,E]
  ·exact h.elim
 ·rename_i p k lo len;split at h
  ·rename_i l I esz A st y;obtain⟨B,rfl,Y,h⟩:=h;cases j with
   | @vw _ _ _ _ k' L _ e hk C _ _ =>
    have N:=(z.obj p _ _ _ y e).1;rcases C (by omega) with ⟨g,s⟩|⟨o,v,J,d,room,F,g,s,_⟩
    ·subst g;refine⟨0,_,[],?_,by simpa using (ARs.nil (c:=c)),by simp,h⟩;rcases s with rfl|⟨rfl,_⟩<;>rfl
    ·subst g;obtain⟨_,Z,O,Q,t,r,l',R,S,T,U,_⟩:=Yw z y e;subst O Q;have w:=Qn (i:=lo*d) (n:=len*d) R T S (by omega);refine⟨len,_,_,?_,(U.drop (lo*d)).take (len*d),by simp;omega,h⟩;rw[s];simp only[Yy,f];rw[show Nat.mul len d=len*d from rfl,w]
  ·exact h.elim
 ·rename_i l len esz;obtain⟨rfl,h⟩:=h;cases j with
  |lst hf V hlen w W =>
   refine⟨len,l,_,?_,W,hlen,h⟩;simp only[Yy,f];rw[show Nat.mul len esz=len*esz from rfl,w]
  |lstNil=>exact⟨0,[],[],rfl,.nil,by simp,h⟩
  |lstEmp=>exact⟨0,[],[],rfl,.nil,by simp,h⟩
 ·rename_i l;obtain⟨rfl,h⟩:=h;cases j;refine⟨l.length,_,_,?_,zo9 l c,by simp,h⟩;simp[Yy]
 ·exact h.elim
end res
end Go.Sv
namespace Go.Sv
section res
variable {P : Program} {c : Cx} {G : Ff} {K : LV → Ff → Prop}
def zw7 (a:HSim c G){size:Nat}(k:K (.dy G.length 0) (G++[.dyn [] 0 size 0 0])):Kx P c G K (.val .nilSl c.H):=by
 obtain⟨d,f,_⟩:=a.push (H':=c.H) (x:=.nilSl) (ob:=.dyn [] 0 size 0 0) (Al _) (fun _ _=>rfl) (fun o e=>by cases e) ⟨rfl,by simp,.inl ⟨rfl,rfl⟩⟩;exact⟨⟨c.hd++[(0,.nilSl)],c.Fz,c.H⟩,.dy G.length 0,_,rfl,d,f,.dy (h:=.nilSl) (by rw[←a.len];exact Ax) (Al _) (fun _=>rfl) rfl,k⟩
def zuy (O:HSim c G){p k:Nat}{a:AV}{size n:Nat}{new:List LV}{d:List AV}(ha:AR c (.dy p k) a)(Q:ARs c new d)(L:new.length=n*size)(h:Ih G size (.dy p k) n new K):Kx P c G K (Qm c.H size a n d):=by
 have y:=Q.length;unfold Ih at h;dsimp only at h;split at h
 ·rename_i l len esz D st R;obtain⟨aB,⟨rfl,S⟩,T,h⟩:=h;have aj:p<c.hd.length:=by rw[O.len];exact (Aa.1 R).1
  cases ha with
  | @dy _ _ k' B _ e hk ao ap =>
   obtain⟨r0,r1,g⟩:=O.obj p _ _ _ R e;have E:=ao (by omega);have fin:∀{H':Heap} {x':AV},c.H.next≤H'.next→(∀o,o<c.H.next→Gq B≠some o→H'.get o=c.H.get o)→(∀o,Gq x'=some o→(Gq B=some o∨c.H.next≤o)∧o<H'.next)→jk x'=true→Ui B=false →
     (CxLe c ⟨c.hd.set p (k'+1,x'),c.Fz,H'⟩→qp ⟨c.hd.set p (k'+1,x'),c.Fz,H'⟩ (k'+1) x' (.dyn (l++new) (len+n) esz (D+1) (st+1)))→Kx P c G K (.val x' H'):=by
    intro H' x' U h2 V M h5 h6;obtain⟨q1,q2,_⟩:=O.upd (k':=k'+1) (x':=x') (ob':=.dyn (l++new) (len+n) esz (D+1) (st+1)) (H':=H') R rfl e U h2 V (Em _) (fun q=>by omega) (fun q=>by rw[h5] at q;cases q) (.inl (Bx _)) h6;exact⟨_,.dy p (D+1),_,rfl,q1,q2,.dy (k':=k'+1) (h:=x') (by dsimp only;rw[Ah aj]) (by omega) (fun _=>rfl) M,h⟩
   have j:(l++new).length=(len+n)*esz:=by rw[Aj,r1,L,Bb]
   unfold Qm;cases hb:Nat.beq n 0 with
   |true =>
    have W:=Am hb;subst W;have X:new=[]:=Ay (by simpa using L);subst X;have Y:Ui B=false:=by
     rcases g with ⟨g,_⟩|⟨o,v,room,t,f,l',g,_⟩<;>rw[g]<;>rfl
    have aq:jk B=true:=by rw[←E];exact ap
    have key:Kx P c G K (.val B c.H):=by
     refine fin (Al _) (fun _ _ _=>rfl) (fun o x=>⟨.inl x,O.lt o ⟨p,_,_,_,R,rfl,e,x⟩⟩) aq Y (fun hle=>⟨by omega,j,?_⟩);simp only[Bz,Cw];rcases g with ⟨g,m⟩|⟨o,v,room,t,f,l',g,m,r4,Z,F,r7,r8⟩
     ·exact .inl ⟨g,m⟩
     ·exact .inr ⟨o,v,room,t,f,l',g,m,r4,Z,F.mono hle,r7,r8⟩
    rw[E];rcases g with ⟨g,m⟩|⟨o,v,room,t,f,l',g,m,r4,Z,F,r7,r8⟩
    ·rw[g] at key ⊢;exact key
    ·rw[g] at key ⊢;exact key
   |false =>
    have W:n≠0:=fun q=>by rw[q] at hb;cases hb
    rw[E];rcases g with ⟨g,m⟩|⟨o,v,room,t,f,l',g,m,r4,Z,F,r7,r8⟩
    ·
     subst m;have H:l=[]:=Ay (by simpa using r1);subst H;rw[g];dsimp only[Vl];obtain⟨H',U,h2,V,M⟩:=zel c d;rw[U];dsimp only;refine fin (by omega) (fun o ho _=>V o ho) (fun o x=>by cases x;exact⟨.inr (Al _),by omega⟩) rfl (by rw[g];rfl) (fun hle=>⟨by omega,j,.inr ⟨c.H.next,0,none,_,d.length,d,?_,M,?_,?_,Q.mono hle,fun r q=>(by cases q),fun _=>?_⟩⟩)
     ·simp
     ·rw[Be];omega
     ·rw[Be,←L,y];exact z6f d
     ·rw[Be];omega
    ·have aa:o<c.H.next:=O.lt o ⟨p,_,_,_,R,rfl,e,by rw[g];rfl⟩;have ar:l'.length=len*esz:=by rw[←F.length];exact r1
     rw[g];have aw:(Nat.beq esz esz&&Nat.ble len I6)=true:=by rw[Bj,show Nat.ble len I6=true from Ak T];rfl
     dsimp only;rw[aw];dsimp only;have z:Gq B=some o:=by rw[g];rfl
     have I:Ui B=false:=by rw[g];rfl
     have C:Lj (Kd d (len*esz) t) 0 ((len+n)*esz)=some (l'++d):=by
      have:=znv (r:=d) Z
      rwa [show len*esz+d.length=(len+n)*esz from by rw[←y,L,Bb]] at this
     cases room with
     |some r =>
      obtain⟨A,aD⟩:=r7 r rfl;dsimp only;cases ad:Nat.ble (Nat.add len n) r with
      |true =>
       have s:len+n≤r:=As ad;have hm:(len+n)*esz≤r*esz:=At _ s;have af:(len+n)*esz=len*esz+n*esz:=Bb _ _ _;have hw:Qh c.H o v (Nat.add 0 (Nat.mul len esz)) d=some (c.H.put o (.cells (Kd d (len*esz) t) f v false)):=by
        unfold Qh;rw[m];have e1:Nat.add 0 (Nat.mul len esz)=len*esz:=Be _;have ag:Nat.ble (Nat.add (len*esz) d.length) f=true:=Ak (by show len*esz+d.length≤f;omega);rw[e1];simp only[Bj,ag]
       dsimp only;rw[hw];dsimp only;refine fin (by exact Al _) (fun N _ J=>Heap.get_put_ne _ _ (fun q=>J (by rw[q];exact z))) (fun N x=>by cases x;exact⟨.inl z,aa⟩) rfl I (fun hle=>⟨by omega,j,.inr ⟨o,v,some r,_,f,_,rfl,Heap.get_put_same _ _ _,by omega,C,(F.append Q).mono hle,fun r' q=>by cases q;exact⟨A,s⟩,fun q=>by cases q⟩⟩)
      |false =>
       have hr:=Qn (i:=0) (n:=len*esz) m Z r4 (by omega);dsimp only;rw[show Nat.mul len esz=len*esz from rfl,hr];dsimp only[Vl];obtain⟨H',U,h2,V,M⟩:=zel c ((l'.drop 0).take (len*esz)++d);rw[U];dsimp only;have ax:(l'.drop 0).take (len*esz)=l':=by rw[Db,Aw (by omega)]
       rw[ax] at M;have w:(l'++d).length=(len+n)*esz:=by rw[Aj,ar,←y,L,Bb]
       refine fin (by omega) (fun N ay _=>V N ay) (fun N x=>by cases x;exact⟨.inr (Al _),by omega⟩) rfl I (fun hle=>⟨by omega,j,.inr ⟨c.H.next,0,none,_,_,l'++d,rfl,M,by omega,?_,(F.append Q).mono hle,fun r' q=>(by cases q),fun _=>w⟩⟩);rw[←w];exact z6f _
     |none =>
      have A:=r8 rfl;dsimp only;rw[m];dsimp only;have af:(len+n)*esz=len*esz+n*esz:=Bb _ _ _;have az:0<n*esz:=Nat.mul_pos (by omega) S;have aA:Nat.ble (Nat.add 0 (Nat.mul (Nat.add len n) esz)) f=false:=by
       cases hq:Nat.ble (Nat.add 0 (Nat.mul (Nat.add len n) esz)) f with
       |false=>rfl
       |true =>
        have:0+(len+n)*esz≤f:=As hq;omega
      have ah:Nat.beq (Nat.mul len esz) f=true:=by rw[A];exact Bj _
      rw[Bj,aA,ah,A];dsimp only;have w:Nat.add (len*esz) d.length=(len+n)*esz:=by show len*esz+d.length=_;rw[←y,L,af]
      refine fin (by exact Al _) (fun N _ J=>Heap.get_put_ne _ _ (fun q=>J (by rw[q];exact z))) (fun N x=>by cases x;exact⟨.inl z,aa⟩) rfl I (fun hle=>⟨by omega,j,.inr ⟨o,v+1,none,_,_,_,rfl,Heap.get_put_same _ _ _,by rw[w];exact Al _,C,(F.append Q).mono hle,fun r' q=>(by cases q),fun _=>w⟩⟩)
 ·exact h.elim
def zyk (j:HSim c G){s:LV}{a:AV}{size n:Nat}{new:List LV}{J:List AV}(ha:AR c s a)(D:ARs c new J)(E:new.length=n*size)(h:Ih G size s n new K):Kx P c G K (Qm c.H size a n J):=by
 have ao:=D.length;unfold Ih at h;split at h
 ·
  cases ha;unfold Qm;cases H:Nat.beq n 0 with
  |true =>
   have:=Am H;subst this;have:new=[]:=Ay (by simpa using E);subst this;exact zw7 j h
  |false =>
   dsimp only[Vl];exact dc j D E (fun r e=>by cases e) h
 ·rename_i p k;exact zuy j ha D E (by unfold Ih;exact h)
 ·rename_i p k lo len;split at h
  ·rename_i l U esz af st F;obtain⟨O,⟨rfl,rfl,ag⟩,m,h⟩:=h;have x:Nat.beq n 0=false:=by
    cases H:Nat.beq n 0 with
    |false=>rfl
    |true=>have:=Am H;omega
   cases ha with
   | @vw _ _ _ _ k' hh _ e hk I V hz =>
    split at h
    case isFalse L =>
     obtain⟨Q,W,h1,X⟩:=h;subst Q;have Y:=(j.obj p _ _ _ F e).1;have A:=hz (by omega) rfl;rcases I (by omega) with ⟨y,z⟩|⟨o,v,f,d,room,g,y,z,r9⟩
     ·subst y;rcases z with rfl|⟨_,r5⟩
      ·have Q:l=[]:=Ay (by have:=(j.obj p _ _ _ F e).2.1;simpa using this);subst Q;unfold Qm;rw[x];dsimp only[Vl];refine dc j D E (fun r e=>by cases e) ?_;simpa using X
      ·exact absurd rfl r5
     ·have M:=e;rw[y] at M;obtain⟨_,w1,Z,w3,t,w,l',T,w5,w6,w7,_⟩:=Yw j F M;subst Z w3;rw[y,z] at A;dsimp only[S1] at A;by_cases aa:g=room
      ·refine zuy j (p:=p) (k:=k) (.dy e hk (fun _=>by rw[z,y,aa,Dg]) V) D E ?_;unfold Ih;dsimp only;rw[F];exact⟨O,⟨rfl,W⟩,m,h1⟩
      ·rcases A with A|⟨r,rfl,hr⟩
       ·exact absurd A aa
       have B:(Nat.beq d d&&Nat.ble f I6)=true:=by rw[Bj,show Nat.ble f I6=true from Ak m];rfl
       have R:Nat.ble (Nat.add f n) r=false:=by
        cases hq:Nat.ble (Nat.add f n) r with
        |false=>rfl
        |true=>have:f+n≤r:=As hq;omega
       rw[z];unfold Qm;rw[x];dsimp only;rw[B];dsimp only;rw[R];dsimp only;have S:=Qn (i:=0) (n:=f*d) T w6 w5 (by omega);rw[show Nat.mul f d=f*d from rfl,show 0*d=0 from Dg _,S];dsimp only[Vl];have C:=Bb f n d;have ah:l.take (f*d)=l:=Aw (by omega);refine dc j ((w7.take _).append D) (by rw[Aj,Ct,E];show min (f*d) l.length+n*d=(f+n)*d;omega) (fun r e=>by cases e) ?_;rw[ah];exact X
    case isTrue L =>
     obtain⟨h1,X⟩:=h;have Y:=(j.obj p _ _ _ F e).1;have C:(len+n)*esz=len*esz+n*esz:=Bb _ _ _;rcases I (by omega) with ⟨y,z⟩|⟨o,v,f,d,room,g,y,z,r9⟩
     ·subst y;rcases z with rfl|⟨_,r5⟩
      ·unfold Qm;rw[x];dsimp only[Vl];refine dc j D E (fun r e=>by cases e) ?_;simpa using X
      ·exact absurd rfl r5
     ·have M:=e;rw[y] at M;obtain⟨_,w1,Z,w3,t,w,l',T,w5,w6,w7,_⟩:=Yw j F M;subst Z w3;rw[z];have hw:O9 G (.dptr p k (len*d)) new (fun G'=>K (.vw p k 0 (len+n)) G'):=by
       unfold O9;dsimp only;rw[F];exact⟨O,by rw[E,←C];exact L,h1⟩
      obtain⟨o2,v2,i2,H',c',G',u1,u2,u3,u4,u5,u6⟩:=zbz j (a:=.ptr o v (len*d)) (.dptr e hk (fun _=>⟨rfl,_,d,room,y⟩)) D hw;cases u1;have N:(∀r,g=some r→len+n≤r)→Kx P c G K (.val (.sl o v (0*d) (len+n) d g) H'):=fun hr=>by
       refine⟨c',.vw p k 0 (len+n),G',u3,u4,u5,AR.mono u5.le (.vw e hk (fun _=>.inr ⟨o,v,_,d,room,g,y,rfl,hr⟩) rfl (fun q=>by have:=hz q;rw[z] at this;exact this)),u6⟩
      have B:(Nat.beq d d&&Nat.ble len I6)=true:=by rw[Bj,show Nat.ble len I6=true from Ak m];rfl
      have ad:Nat.add (0*d) (Nat.mul len d)=len*d:=by show 0*d+len*d=_;omega
      have aj:len*d≤f*d:=by rw[←w1];omega
      unfold Qm;rw[x];dsimp only;rw[B];dsimp only;cases g with
      |some r =>
       dsimp only;cases H:Nat.ble (Nat.add len n) r with
       |true =>
        dsimp only;rw[ad,u2];exact N (fun r' e'=>by cases e';exact As H)
       |false =>
        dsimp only;have hr:=Qn (i:=0) (n:=len*d) T w6 w5 (by omega);rw[show Nat.mul len d=len*d from rfl,show 0*d=0 from Dg _,hr];dsimp only[Vl];refine dc j ((w7.take _).append D) (by rw[Aj,Ct,E];show min (len*d) l.length+n*d=(len+n)*d;omega) (fun r e=>by cases e) X
      |none =>
       dsimp only;rw[T];dsimp only;rw[Bj,ad];have H:Nat.ble (Nat.add (0*d) (Nat.mul (Nat.add len n) d)) w=true:=Ak (by show 0*d+(len+n)*d≤w;omega);rw[H];dsimp only;rw[u2];exact N (fun r' e'=>by cases e')
  ·exact h.elim
 ·rename_i p k len;split at h
  ·rename_i l U esz af st F;obtain⟨O,⟨rfl,ag⟩,m,hle,h⟩:=h;have x:Nat.beq n 0=false:=by
    cases H:Nat.beq n 0 with
    |false=>rfl
    |true=>have:=Am H;omega
   cases ha with
   | @vf _ _ _ k' hh _ e hk I V =>
    have Y:=(j.obj p _ _ _ F e).1;obtain⟨o,v,f,d,room,y,z⟩:=I (by omega);have M:=e;rw[y] at M;obtain⟨_,w1,Z,w3,t,w,l',T,w5,w6,w7,_⟩:=Yw j F M;subst Z w3;have B:(Nat.beq d d&&Nat.ble len I6)=true:=by rw[Bj,show Nat.ble len I6=true from Ak m];rfl
    have R:Nat.ble (Nat.add len n) len=false:=by
     cases hq:Nat.ble (Nat.add len n) len with
     |false=>rfl
     |true=>have:len+n≤len:=As hq;omega
    rw[z];unfold Qm;rw[x];dsimp only;rw[B];dsimp only;rw[R];dsimp only;have S:=Qn (i:=0) (n:=len*d) T w6 w5 (by omega);rw[show Nat.mul len d=len*d from rfl,S];dsimp only[Vl];have C:=Bb len n d;refine dc j ((w7.take _).append D) (by rw[Aj,Ct,E];show min (len*d) l.length+n*d=(len+n)*d;omega) (fun r e=>by cases e) h
  ·exact h.elim
 ·exact h.elim
end res
end Go.Sv
namespace Go.Sv
section res
variable {P : Program} {c : Cx} {G : Ff} {K : LV → Ff → Prop}
def Xx {v:LV}{a:AV}(d:v.scal=true)(h:AR c v a):a=toA v:=by
 cases v<;>first|(cases d;done)|(cases h;rfl)
def toAs_scal:∀{l:List LV} {r:List AV},l.all LV.scal=true→ARs c l r→r=toAs l
 |[],_,_,.nil=>rfl
 |v::l,_,h,.cons e es=>by
  simp only[Cv,Ac] at h;rw[toAs,←Xx h.1 e,←toAs_scal h.2 es]
def c9 {op:BinOp}{g:Bool}{t:TypeId}{x y:LV}{a b:AV}{K:LV→Prop}(l:AR c x a)(m:AR c y b)(h:Mw P op g t x y K):Kl c K (Im P op g t a b):=by
 unfold Mw at h;split at h
 ·cases l;cases m;exact yb h
 ·cases l;cases m;exact yn h
 ·cases l;cases m;exact ud h
 ·rename_i u v;cases l;cases m;cases op<;>try exact h.elim
  ·simp only[Im];rw[h.1];exact .mk (.bool _) h.2
  ·simp only[Im];rw[h.1];exact .mk (.bool _) h.2
 ·rename_i u s;cases l;cases m;cases op<;>try exact h.elim
  ·obtain⟨f,j⟩:=h;obtain⟨n,rfl⟩:=Af f;exact .mk (.u' (mj u n)) j
  ·obtain⟨f,j⟩:=h;obtain⟨n,rfl⟩:=Af f;exact .mk (.u' (na u n)) j
 ·rename_i u s;cases l;cases m;cases op<;>try exact h.elim
  ·obtain⟨f,j,q,p⟩:=h;rw[(zna (s:=Int.ofNat s.toNat) f (B0 _) (by show (s.toNat:Int)≤64;omega)).1];exact .mk (.i' (Tc q)) p
  ·obtain⟨f,j,p⟩:=h;rw[(zna (s:=Int.ofNat s.toNat) f (B0 _) (by show (s.toNat:Int)≤64;omega)).2];exact .mk (.i _) p
 ·obtain⟨rfl,h⟩:=h;cases l;cases m;exact s8 h
 ·cases l;cases m;exact vi h
 ·cases l;cases m;exact zrw (by cases op<;>rfl) h
 ·cases l;cases m;have:∀o v i,Ks P g t (.ptr o v i) .nilPtr=Ks P g t (.ptr 0 0 0) .nilPtr:=fun o v i=>by
   unfold Ks zr eqT Zn;dsimp only;cases P.underlying t with
   |none=>rfl
   |some d=>cases d<;>rfl
  refine zrw (r:=false) (by cases op<;>rfl) ?_;cases op<;>simp only[Tu] at h ⊢<;>(rw[this];exact h)
 ·cases l;cases m;exact zrw (by cases op<;>rfl) h
 ·cases m;obtain⟨f,j⟩:=h;have key:Ks P g t .emp .nilSl=some false∧∀o v i len esz room,Ks P g t (.sl o v i len esz room) .nilSl=some false:=by
   unfold Ks zr eqT Zn at f ⊢;dsimp only at f ⊢;cases hu:P.underlying t with
   |none=>rw[hu] at f;cases f
   |some d=>rw[hu] at f;cases d<;>first|(cases f;done)|exact⟨rfl,fun _ _ _ _ _ _=>rfl⟩
  have fin:∀{a:AV} {b:Bool},Ks P g t a .nilSl=some b→(Im P op g t a .nilSl=match op with | .eql=>sn (Ks P g t a .nilSl) | .neq=>we (Ks P g t a .nilSl)|_=>none)→(match op with | .eql=>K (.bool b) | .neq=>K (.bool !b)|_=>False)→Kl c K (Im P op g t a .nilSl):=by
   intro a b q p w;rw[p,q];cases op<;>first|exact w.elim|exact .mk (.bool _) w
  cases l with
  |lst A z hlen B C =>
   refine fin (key.2 _ _ _ _ _ _) (by cases op<;>rfl) ?_;cases op<;>first|exact j.elim|exact j.1
  |lstNil =>
   refine fin f (by cases op<;>rfl) ?_;cases op<;>first|exact j.elim|exact j.2 rfl
  |lstEmp =>
   refine fin key.1 (by cases op<;>rfl) ?_;cases op<;>first|exact j.elim|exact j.1
 ·cases l with
  |agg f=>cases m with
   |agg j =>
    cases op<;>try exact h.elim
    ·obtain⟨b,s1,s2,e,k⟩:=h;rw[toAs_scal s1 f,toAs_scal s2 j];simp only[Im];rw[e];exact .mk (.bool _) k
    ·obtain⟨b,s1,s2,e,k⟩:=h;rw[toAs_scal s1 f,toAs_scal s2 j];simp only[Im];rw[e];exact .mk (.bool _) k
 ·exact h.elim
def uh {op:UnOp}{x:LV}{a:AV}{K:LV→Prop}(d:AR c x a)(h:tw op x K):Kl c K (unA op a):=by
 unfold tw at h;simp only[Rh,zz3] at h;split at h
 ·cases d;exact .mk (.bool _) h
 ·cases d;refine .mk (.u' ?_) h;rename_i u;rw[Th,D3];show (0 - Int.ofNat u.toNat)%_=((2^64 - u.toNat+(0:UInt64).toNat)%2^64:Nat);have:=u.toNat_lt;simp only[A9,UInt64.toNat_zero];omega
 ·cases d;obtain⟨f,g⟩:=h;refine .mk (.i' ?_) g;have e:∀n:Int,Int.sub 0 n=-n:=fun n=>by show 0 - n=-n;omega
  rw[e];exact Tc f
 ·cases d;refine .mk (.u' ?_) h;rename_i u;have hu:=u.toNat_lt;show IntKind.wrap .u64 (BitVec.ofInt 64 (IntKind.max .u64) ^^^ BitVec.ofInt 64 (Int.ofNat u.toNat)).toNat=_;have j:BitVec.ofInt 64 (IntKind.max .u64)=BitVec.allOnes 64:=by decide
  have l:BitVec.ofInt 64 (Int.ofNat u.toNat)=u.toBitVec:=by
   apply BitVec.eq_of_toNat_eq;simp
  rw[j,l,BitVec.allOnes_xor];show ((~~~u.toBitVec).toNat:Int)%18446744073709551616=Int.ofNat (~~~u).toNat;have:(~~~u).toNat=(~~~u.toBitVec).toNat:=rfl;rw[this];exact Co (B0 _) (by have:=(~~~u.toBitVec).isLt;omega)
 ·exact h.elim
def Ua (n:Int):n%18446744073709551616=Int.ofNat (UInt64.ofInt n).toNat:=by
 unfold UInt64.ofInt;rw[Bo];simp only[A9];omega
def ztq (n:Int):n%256=Int.ofNat (UInt8.ofInt n).toNat:=by
 unfold UInt8.ofInt;rw[UInt8.toNat_ofNat'];simp only[A9];omega
def v5 {k:IntKind}{x:LV}{a:AV}{K:LV→Prop}(d:AR c x a)(h:ik k x K):∃k' n,a=.int k' n∧∃v,AR c v (.int k (Ok k n))∧K v:=by
 unfold ik at h;simp only[Yk,bU_eq,uB_eq,iB_eq] at h;split at h
 ·cases d;rename_i u;refine⟨_,_,rfl,_,.u' ?_,h⟩;rw[Th];exact Co (B0 _) (by have:=u.toNat_lt;simp only[A9];omega)
 ·cases d;refine⟨_,_,rfl,_,.u' ?_,h⟩;rename_i n;rw[Th];exact Ua n
 ·cases d;rename_i u;refine⟨_,_,rfl,_,.u' ?_,h⟩;rw[Th];have:=u.toNat_lt;rw[Bo];show Int.ofNat u.toNat%18446744073709551616=Int.ofNat (u.toNat%2^64);simp only[A9];omega
 ·cases d;rename_i u;exact⟨_,_,rfl,_,.i' (Tc ⟨by simp only[A9];omega,by simp only[A9];omega⟩),h.2⟩
 ·cases d;exact⟨_,_,rfl,_,.i' (Tc h.1),h.2⟩
 ·cases d;rename_i u;have:=u.toNat_lt;exact⟨_,_,rfl,_,.i' (Tc ⟨by simp only[A9];omega,by simp only[A9];omega⟩),h⟩
 ·cases d;rename_i u;refine⟨_,_,rfl,_,.b' ?_,h⟩;rw[o6,UInt8.toNat_ofNat'];show Int.ofNat u.toNat%256=Int.ofNat (u.toNat%2^8);simp only[A9];omega
 ·cases d;refine⟨_,_,rfl,_,.b' ?_,h⟩;rename_i n;rw[o6];exact ztq n
 ·cases d;rename_i u;refine⟨_,_,rfl,_,.b' ?_,h⟩;rw[o6];exact Co (B0 _) (by have:=u.toNat_lt;simp only[A9];omega)
 ·cases d;refine⟨_,_,rfl,_,.b' ?_,h⟩;rename_i n;rw[o6];exact ztq n
 ·cases d;refine⟨_,_,rfl,_,?_,h⟩;rename_i n;have e:Ok .i32 n=w32 n:=by
   rw[Vb];show (if (true&&decide (n%4294967296 ≥ 2147483648))=true then n%4294967296 - 4294967296 else n%4294967296)=w32 n;simp only[El,Ao,w32];split<;>omega
  rw[e];exact .int .i32 _
 ·cases d;exact⟨_,_,rfl,_,.i' (Tc h.1),h.2⟩
 ·exact h.elim
def layL_eq:∀(r l:List AV) (i:Nat),i+r.length≤l.length→Nj l i r=Ww l i r
 |[],l,i,h=>by
  simp only[Nj,Ww,Bc,Cw,Bz,List.take_append_drop]
 |a::r,l,i,h=>by
  simp only[Ar] at h;rw[Nj,layL_eq r (l.set i a) (i+1) (by simp;omega)];refine List.ext_getElem? (fun j=>?_);rw[zir (by simp;omega),zir (by simp;omega)];simp only[Ar];by_cases d:i+1≤j∧j<i+1+r.length
  ·rw[Ag d,Ag (by omega),show j - i=(j - (i+1))+1 from by omega,Av]
  ·rw[Ab d];by_cases f:j=i
   ·subst f;rw[Ag (by omega),Ah (by omega)];simp
   ·rw[Ab (by omega),Ad (Ne.symm f)]
def zmw {ρ:Fi}{E:Tr AV}(j:Hc c ρ E):∀{f:List (Nat×Nat×Lx)} {cs l:List LV} {a:List AV},f.all (·.2.2.ok)=true→ARs c cs a→ie ρ cs f=some l→∃l',fillR (ρA E) a (rps f)=some l'∧ARs c l l'
 |[],cs,l,a,_,h,e=>by
  simp only[ie,Option.some.injEq] at e;subst e;exact⟨a,rfl,h⟩
 |(off,size,x)::f,cs,l,a,d,h,e=>by
  simp only[Cv,Ac] at d;simp only[ie] at e;split at e
  ·cases e
  ·rename_i r o;split at e
   ·rename_i p;obtain⟨q,C⟩:=p;obtain⟨r',s,m⟩:=(Hr j d.1).cells o;have g:=m.length;have w:=h.length;obtain⟨l',y,z⟩:=zmw j d.2 (h.lay m off) e;refine⟨l',?_,z⟩;simp only[rps,fillR,s];have A:Nat.beq r'.length size=true:=by rw[←g,q];exact Bj _
    have B:Nat.ble (Nat.add off size) a.length=true:=Ak (by show off+size≤_;omega);simp only[A,B];rw[layL_eq _ _ _ (by omega)];exact y
   ·cases e
def O4 {ρ:Fi}{E:Tr AV}(l:Hc c ρ E){d:Nat}{x:Option Lx}(g:ct x=true){K:Nat→Prop}(h:Ig ρ d x K):∃r n,Ip (ρA E) (x.map Lx.r)=some r∧r.getD d=n∧K n:=by
 cases x with
 |none=>exact⟨none,d,rfl,rfl,h⟩
 |some x =>
  simp only[Ig] at h;have f:=Hr l (show x.ok=true from g);simp only[Cl,Ip];split at h
  ·rename_i n j;obtain⟨o,p⟩:=h;rw[j] at f;generalize x.r.ev (ρA E)=a at f;cases f;obtain⟨m,rfl⟩:=Af o;exact⟨some m,m,rfl,rfl,p⟩
  ·rename_i n j;rw[j] at f;generalize x.r.ev (ρA E)=a at f;cases f;exact⟨some n.toNat,n.toNat,rfl,rfl,h⟩
  ·exact h.elim
end res
end Go.Sv
