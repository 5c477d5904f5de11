/- Texts of the evaluator, of the logic over it, of plain arithmetic. -/
import Derived.Test.YtgjbfhmmgeplmaaGreatSvG2
import Derived.Laws.IdiomCopy
import Derived.Laws.Externs
set_option linter.unusedSimpArgs false
set_option linter.defProp false
namespace Go.Sv
variable{g j v7 vU:Nat}{A:Int}{E:World}{Z:List Nat}{v9:UInt64}{v8:Type}{vZ:Value}{vG:Prop}{vF:List Value}{C:Heap}{I:CM}{D:List LV}
def zs1{j:Type}{f:j→List LV}{k:Nat}(g:∀a,(f a).length=k):∀l:List j,(l.flatMap f).length=l.length*k
 |[]=>N
 |a::l=>by rw[Kc,Im,zs1 g l,g,Iy,I5];omega
def x9{j:Type}{f:j→List LV}{k:Nat}(g:∀a,(f a).length=k):∀(l:List j) (i:Nat),(l.flatMap f).drop (i*k)=(l.drop i).flatMap f
 |_,0=>N
 |[],i+1=>N
 |a::l,i+1=>by
  rw[Kc,List.drop_append,g,(Ey:(i+1)*k-k=i*k),x9 g l i];rw[Jo (by rw[g,I5];omega)];rfl
def se{f:v8→List LV}{k:Nat}(g:∀a,(f a).length=k){l:List v8}{i:Nat}{a:v8}(h:l[i]?=some a):((l.flatMap f).drop (i*k)).take k=f a:=by
 rw[x9 g];obtain⟨hi,rfl⟩:=H7.1 h;rw[Iz hi,Kc,Lt (by rw[g];exact If _),Io (by rw[g];exact If _)]
def V2{f:v8→List LV}{k:Nat}(g:∀a,(f a).length=k){l:List v8}{i:Nat}{a:v8}(h:l[i]?=some a){j:Nat}(z:j<k):(l.flatMap f)[i*k+j]?=(f a)[j]?:=by
 rw[←Lf,←se g h,I4 z]
def yo{j:Type}{f:j→List LV}(g:∀a,dats (f a)=true):∀l:List j,dats (l.flatMap f)=true
 |[]=>rfl
 |a::l=>by rw[Kc];exact dats_app (g a) (yo g l)
def zur{f:v8→List LV}{k:Nat}(g:∀a,(f a).length=k){l:List v8}{i:Nat}(h:i<l.length):i*k+k≤(l.flatMap f).length:=by
 rw[zs1 g,←Nat.succ_mul];exact Ip _ h
structure Vr where
 limbs:Int
 sec:Bool
 mode:Int
structure Ko where
 kind:Int
 d:Int
 e:Int
 a:Int
 b:Int
 c:Int
 imm:UInt64
def Vr.f(v:Vr):List LV:=[.i v.limbs,.bool v.sec,.i v.mode]
def Ko.f(o:Ko):List LV:=[.i o.kind,.i o.d,.i o.e,.i o.a,.i o.b,.i o.c,.u o.imm]
def Nr(l:List Vr):List LV:=l.flatMap Vr.f
def Oi(l:List Ko):List LV:=l.flatMap Ko.f
def Vr.f_len(v:Vr):v.f.length=3:=rfl
def Ko.f_len(o:Ko):o.f.length=7:=rfl
def kw(l:List Ko):(Oi l).length=l.length*7:=zs1 Ko.f_len l
def Ph(l:List Vr):dats (Nr l)=true:=yo (λ_=>rfl) l
def R7(l:List Ko):dats (Oi l)=true:=yo (λ_=>rfl) l
def V9{l:List Vr}{i:Nat}{v:Vr}(h:l[i]?=some v):((Nr l).drop (i*3)).take 3=v.f:=se Vr.f_len h
def mc{l:List Ko}{i:Nat}{v:Ko}(h:l[i]?=some v):((Oi l).drop (i*7)).take 7=v.f:=se Ko.f_len h
def dv{l:List Vr}{i:Nat}{v:Vr}(h:l[i]?=some v):(Nr l)[i*3]?=some (.i v.limbs):=by have:=V2 Vr.f_len h (j:=0) J;simpa [Nr,Vr.f] using this
def xd{l:List Vr}{i:Nat}{v:Vr}(h:l[i]?=some v):(Nr l)[i*3+1]?=some (.bool v.sec):=by have:=V2 Vr.f_len h (j:=1) J;simpa [Nr,Vr.f] using this
def ft{l:List Vr}{i:Nat}{v:Vr}(h:l[i]?=some v):(Nr l)[i*3+2]?=some (.i v.mode):=by have:=V2 Vr.f_len h (j:=2) J;simpa [Nr,Vr.f] using this
def Ty{l:List Vr}{i:Nat}(h:i<l.length):i*3+3≤(Nr l).length:=zur Vr.f_len h
def mg{l:List Ko}{i:Nat}(h:i<l.length):i*7+7≤(Oi l).length:=zur Ko.f_len h
def gv(l:List Vr)(n:Nat):Vr:=l.getD n ⟨0,false,0⟩
def go(l:List Ko)(n:Nat):Ko:=l.getD n ⟨0,0,0,0,0,0,0⟩
def gb(l:List Bool)(n:Nat):Bool:=l.getD n false
def Qp{l:List Vr}{n:Nat}(h:n<l.length):l[n]?=some (gv l n):=by simp[gv,Ie,h]
def Vg{l:List Ko}{n:Nat}(h:n<l.length):l[n]?=some (go l n):=by simp[go,Ie,h]
def zi{l:List Bool}{n:Nat}(h:n<l.length):l[n]?=some (gb l n):=by simp[gb,Ie,h]
def zh8{l:List Vr}{n:Nat}(h:n<l.length):l.drop n=gv l n::l.drop (n+1):=by
 rw[Iz h];congr 1;have:=Qp h;rw[Ib h]at this;exact Option.some.inj this
def zgl{l:List Ko}{n:Nat}(h:n<l.length):l.drop n=go l n::l.drop (n+1):=by
 rw[Iz h];congr 1;have:=Vg h;rw[Ib h]at this;exact Option.some.inj this
def Ob(v:Vr):Bool:=decide (v.mode=1) || decide (v.mode=2)
def Tt(v:Vr):Bool:=decide (v.limbs<1) || (decide (512<v.limbs) || (decide (v.mode<0) || decide (3<v.mode)))
def Qc:Nat→Nat→List Vr→Option Nat
 |_,p,[]=>some p
 |i,p,v::l=>if Tt v=true then none else if v.mode=0 then Qc (i+1) p l else if p<i∨v.sec=decide (v.mode=1) then none else Qc (i+1) (p+1) l
def P6(l:List Vr):Bool:=match Qc 0 0 l with
 |none=>false
 |some p=>decide (1≤l.length)&&(decide (l.length≤256)&&decide (p≤12))
def Rp(n:Nat)(v:Int):Bool:=decide (0≤v)&&decide (v<n)
def Q3(n:Nat)(o:Ko):Bool :=
 decide (o.d=-1)&&(decide (o.e=-1)&&(decide (o.c=-1)&&(Rp n o.a&&(if o.imm=2 then Rp n o.b else (decide (o.imm=1) || decide (o.imm=3))&&decide (o.b=-1)))))
def Ow(k:Int):Option Nat :=
 if k=1 then some 1 else if k=2 then some 5 else if k=3∨k=4∨k=5∨k=6∨k=7 then some 13 else if k=8∨k=10∨k=11∨k=12∨k=13 then some 29 else if k=9 then some 21 else if k=14 then some 19 else if k=15∨k=16 then some 0 else none
def Qm(o:Ko):Bool:=if o.kind=1 then true else if o.kind=13 then decide (1≤o.imm)&&decide (o.imm≤6) else if o.kind=15 then decide (1≤o.imm)&&decide (o.imm≤4096) else decide (o.imm=0)
def Qu(n s i:Nat)(v:Int):Bool:=if s.testBit i=true then Rp n v else decide (v=-1)
def Tc(n s:Nat)(o:Ko):Bool:=Qu n s 0 o.d&&(Qu n s 1 o.e&&(Qu n s 2 o.a&&(Qu n s 3 o.b&&Qu n s 4 o.c)))
def Rr(o:Ko):List Int:=[o.a,o.b,o.c].filter (λv=>!decide (v<0))++if o.kind=14 then [o.d,o.e] else []
def Oq(g:List Vr)(o:Ko):Bool:=(Rr o).any λv=>(gv g v.toNat).sec
def Rq(j:List Vr)(g:Bool)(v:Int):Bool:=decide (v<0) || !(Ob (gv j v.toNat) || (g && !(gv j v.toNat).sec))
def P7(o:Ko):List Int :=
 if o.kind=6 then [o.a,o.b] else if o.kind=14 then [o.d,o.e] else if o.kind=8 then [o.d,o.a,o.b] else if o.kind=9 then [o.d,o.c] else if o.kind=10∨o.kind=11∨o.kind=12 then [o.d,o.a,o.b,o.c] else if o.kind=13 then [o.d,o.a,o.c] else []
def Ql(vs:List Vr)(v:Int):Int:=(gv vs v.toNat).limbs
def d8(g:List Vr)(o:Ko):Bool:=(P7 o).all λv=>decide (Ql g v=Ql g ((P7 o).headD 0))
def Nz(g:List Vr)(o:Ko):Bool :=
 if o.kind=17 then Q3 g.length o else match Ow o.kind with
 |none=>false
 |some s=>Qm o&&(Tc g.length s o&&(Rq g (Oq g o) o.d&&(Rq g (Oq g o) o.e&&((decide (o.e<0) || !decide (o.d=o.e))&&d8 g o))))
def dl(k:Int):Int:=if k=15 then 1 else if k=16 then -1 else 0
def Sl(m:List Bool)(o:Ko):List Bool:=if 0≤o.d then m.set o.d.toNat true else m
def V3(m:List Bool)(o:Ko):Bool:=(Rr o).all λv=>gb m v.toNat
def Px(vs:List Vr):List Bool→Int→List Ko→Option (List Bool×Int)
 |m,g,[]=>some (m,g)
 |m,g,o::l=>if (Nz vs o&&(V3 m o&&(decide (0≤g+dl o.kind)&&decide (g+dl o.kind≤4))))=true then Px vs (Sl m o) (g+dl o.kind) l else none
def N9(g:List Vr)(v:Int):Bool:=decide (0≤v)&&decide ((gv g v.toNat).mode=3)
def Pe(g:List Vr)(o:Ko):Bool:=decide (o.kind=17)&&(Q3 g.length o&&(!N9 g o.a && !N9 g o.b))
def U6(g:List Vr)(m:List Bool):Bool:=(List.range g.length).all λi=>!decide ((gv g i).mode=3) || gb m i
def S1(g:List Vr):List Bool:=g.map Ob
def Ng(vs:List Vr)(g j:List Ko):Bool :=
 P6 vs&&(decide (g.length≤4096)&&(decide (j.length≤4096)&&(j.all (Pe vs)&&(match Px vs (S1 vs) 0 g with
  |none=>false
  |some (m,z)=>U6 vs m&&decide (z=0)))))
def N3(vs:List Vr)(g j:List Ko):Int:=if Ng vs g j=true then 0 else 2
def zon{p:Int→Bool}{l:List Int}{j:Nat}(h:j<l.length):(l.take (j+1)).filter (λv=>!p v)=(l.take j).filter (λv=>!p v)++if p (gd l j)=true then [] else [gd l j]:=by
 have e:l[j]=gd l j:=by simp[gd,Ie,h]
 rw[J3 h,List.filter_append,e]
 congr 1
 cases g:p (gd l j)<;>simp[g]
def zxu(p:Int→Bool)(l:List Int):(Vv p l=-1∧l.filter (λv=>!p v)=l)∨∃i:Nat,Vv p l=i∧i<l.length∧(l.take (i+1)).filter (λv=>!p v)=l.take i:=by
 unfold Vv;by_cases h:l.findIdx p<l.length
 ·rw[Ij h];refine .inr ⟨_,rfl,h,?_⟩;have j:p l[l.findIdx p]=true:=List.findIdx_getElem;have e:l[l.findIdx p]=gd l (l.findIdx p):=by simp[gd,Ie,h]
  rw[zon h,←e,Ij j,Jf,List.filter_eq_self];intro a g;obtain⟨B,z,rfl⟩:=K5.1 g;rw[List.getElem_take];rw[Iu]at z;have:=List.not_of_lt_findIdx (p:=p) (xs:=l) (i:=B) J;simpa using this
 ·rw[Ii h];refine .inl ⟨rfl,?_⟩;rw[List.filter_eq_self];intro a g;have A:=List.findIdx_eq_length.1 (Dq:l.findIdx p=l.length);simp[A a g]
def zp1{c:List Int}{i j:Nat}{x:Int}(h:i<c.length)(g:i<j)(u:Nat)(hu:j≤u):gd (c.set i x) u=gd c u:=by
 rw[zuq _ _ _ _ h,Ii J]
def zki{c:List Int}{i:Nat}{x:Int}(h:i<c.length):(c.set i x).take (i+1)=c.take i++[x]:=by
 rw[J3 Bb,List.getElem_set_self,Mt (If _)]
def dw{n:Nat}{v:Int}:Rp n v=true↔0≤v∧v<n:=by simp[Rp]
def ze{n s i:Nat}{v:Int}(h:Qu n s i v=true):v=-1∨(0≤v∧v<n):=by
 unfold Qu at h;split at h
 ·exact .inr (dw.1 h)
 ·exact .inl (Lj h)
def Sx{n s i:Nat}{v:Int}(h:Qu n s i v=true)(g:s.testBit i=true):0≤v∧v<n:=by
 rw[Qu,Ij g]at h;exact dw.1 h
def zml{n s i:Nat}{v:Int}(h:Qu n s i v=true)(g:s.testBit i=false):v=-1:=by
 rw[Qu,Ii Ay]at h;exact Lj h
def zcw{k:Int}{s:Nat}(h:Ow k=some s):(k=1∧s=1)∨(k=2∧s=5)∨((k=3∨k=4∨k=5∨k=6∨k=7)∧s=13)∨((k=8∨k=10∨k=11∨k=12∨k=13)∧s=29)∨(k=9∧s=21)∨(k=14∧s=19)∨((k=15∨k=16)∧s=0):=by
 unfold Ow at h
 repeat' split at h
 all_goals first|(cases h;done)|(cases h;simp_all)
structure PartsIn (n:Nat) (o:Ko):Prop where
 d:o.d=-1∨(0≤o.d∧o.d<n)
 e:o.e=-1∨(0≤o.e∧o.e<n)
 takes:∀v∈Rr o,0≤v∧v<n
 alike:∀v∈P7 o,0≤v∧v<n
 swap:o.kind=14→o.a=-1∧o.b=-1
def zlr{n s:Nat}{o:Ko}(G:Ow o.kind=some s)(h:Tc n s o=true):PartsIn n o:=by
 simp only[Tc,H9]at h;obtain⟨hd,E,B,C,D⟩:=h;have A:∀v∈[o.a,o.b,o.c].filter (λv=>!decide (v<0)),0≤v∧v<n:=by
  intro v g;obtain⟨z,H⟩:=Ki.1 g;simp at H;simp only[Ik,Ka,Mf]at z;rcases z with rfl|rfl|rfl
  ·rcases ze B with e|e<;>omega
  ·rcases ze C with e|e<;>omega
  ·rcases ze D with e|e<;>omega
 have I:=zcw G;refine⟨ze hd,ze E,λv g=>?_,λv g=>?_,λF=>?_⟩
 ·rcases I2.1 g with z|z
  ·exact A v z
  ·split at z
   ·rename_i F;have j:s=19:=J
    subst j;simp only[Ik,Ka,Mf]at z;rcases z with rfl|rfl
    ·exact Sx hd Ad
    ·exact Sx E Ad
   ·cases z
 ·unfold P7 at g;split at g
  ·have j:s=13:=J
   subst j;simp only[Ik,Ka,Mf]at g;rcases g with rfl|rfl
   ·exact Sx B Ad
   ·exact Sx C Ad
  split at g
  ·have j:s=19:=J
   subst j;simp only[Ik,Ka,Mf]at g;rcases g with rfl|rfl
   ·exact Sx hd Ad
   ·exact Sx E Ad
  split at g
  ·have j:s=29:=J
   subst j;simp only[Ik,Ka,Mf]at g;rcases g with rfl|rfl|rfl
   ·exact Sx hd Ad
   ·exact Sx B Ad
   ·exact Sx C Ad
  split at g
  ·have j:s=21:=J
   subst j;simp only[Ik,Ka,Mf]at g;rcases g with rfl|rfl
   ·exact Sx hd Ad
   ·exact Sx D Ad
  split at g
  ·have j:s=29:=J
   subst j;simp only[Ik,Ka,Mf]at g;rcases g with rfl|rfl|rfl|rfl
   ·exact Sx hd Ad
   ·exact Sx B Ad
   ·exact Sx C Ad
   ·exact Sx D Ad
  split at g
  ·have j:s=29:=J
   subst j;simp only[Ik,Ka,Mf]at g;rcases g with rfl|rfl|rfl
   ·exact Sx hd Ad
   ·exact Sx B Ad
   ·exact Sx D Ad
  ·cases g
 ·have j:s=19:=J
  subst j;exact⟨zml B Ad,zml C Ad⟩
def zqj{n:Nat}{o:Ko}(E:o.kind=17)(h:Q3 n o=true):PartsIn n o:=by
 simp only[Q3,H9,Il]at h;obtain⟨hd,B,F,z,j⟩:=h;have z:=dw.1 z;have j:o.b=-1∨(0≤o.b∧o.b<n):=by
  split at j
  ·exact .inr (dw.1 j)
  ·simp only[H9,Il]at j;exact .inl j.2
 refine⟨.inl hd,.inl B,λv g=>?_,λv g=>?_,λC=>J⟩
 ·unfold Rr at g;rw[Ii J,Jf]at g;obtain⟨A,D⟩:=Ki.1 g;simp at D;simp only[Ik,Ka,Mf]at A;rcases A with rfl|rfl|rfl
  ·omega
  ·rcases j with e|e<;>omega
  ·omega
 ·unfold P7 at g;rw[Ii J,Ii J,Ii J,Ii J,Ii J,Ii J]at g;cases g
def zvk{g:List Vr}{o:Ko}(h:Nz g o=true):PartsIn g.length o:=by
 unfold Nz at h;split at h
 ·rename_i j;exact zqj j h
 ·split at h
  ·cases h
  ·rename_i s z;simp only[H9]at h;exact zlr z h.2.1
def Ot(o:Ko):List Int:=[o.d,o.e,o.a,o.b,o.c]
def zji{n s:Nat}{o:Ko}(h:∀g<5,Qu n s g (gd (Ot o) g)=true):Tc n s o=true:=by
 simp only[Tc,H9];exact⟨h 0 J,h 1 J,h 2 J,h 3 J,h 4 J⟩
def zmu{n s:Nat}{o:Ko}(z:g<5)(h:Qu n s g (gd (Ot o) g)=false):Tc n s o=false:=by
 cases j:Tc n s o with
 |false=>rfl
 |true =>
  simp only[Tc,H9]at j;have:g=0∨g=1∨g=2∨g=3∨g=4:=J
  rcases this with rfl|rfl|rfl|rfl|rfl
  ·exact absurd j.1 (by rw[show o.d=gd (Ot o) 0 from rfl,h];simp)
  ·exact absurd j.2.1 (by rw[show o.e=gd (Ot o) 1 from rfl,h];simp)
  ·exact absurd j.2.2.1 (by rw[show o.a=gd (Ot o) 2 from rfl,h];simp)
  ·exact absurd j.2.2.2.1 (by rw[show o.b=gd (Ot o) 3 from rfl,h];simp)
  ·exact absurd j.2.2.2.2 (by rw[show o.c=gd (Ot o) 4 from rfl,h];simp)
def zn7{k:Int}{s:Nat}(h:Ow k=some s):s<32:=by rcases zcw h with h|h|h|h|h|h|h<;>omega
def zrz(s i:Nat):((s:Int)/2^i%2=1)↔s.testBit i=true:=by
 rw[Nat.testBit_eq_decide_div_mod_eq,Il];constructor
 ·intro h;have:((s/2^i%2:Nat):Int)=1:=by push_cast;exact h
  omega
 ·intro h;have:((s/2^i%2:Nat):Int)=1:=J
  push_cast at this;exact this
variable{V:List Vr}
section
inductive Fr (α:Type) where
 |nil
 |op (o:α) (r:Fr α)
 |loop (o:α) (b:Fr α) (e:α) (r:Fr α)
section tree
variable {α : Type}
def Fr.flat:Fr α→List α
 |.nil=>[]
 |.op o r=>o::r.flat
 |.loop o b e r=>o::(b.flat++e::r.flat)
def Fr.size:Fr α→Nat
 |.nil=>0
 |.op _ r=>r.size+1
 |.loop _ b _ r=>b.size+r.size+2
def Fr.flat_len:∀f:Fr α,f.flat.length=f.size
 |.nil=>rfl
 |.op _ r=>by simp[flat,size,flat_len r]
 |.loop _ b _ r=>by simp[flat,size,flat_len b,flat_len r];omega
def Fr.wf(kd:α→Nat):Fr α→Prop
 |.nil=>True
 |.op o r=>kd o=0∧r.wf kd
 |.loop o b e r=>kd o=1∧kd e=2∧b.wf kd∧r.wf kd
def W5(g:α→Nat):Nat→List α→Prop
 |d,[]=>d=0
 |d,o::l=>if g o=1 then W5 g (d+1) l else if g o=2 then 0<d∧W5 g (d-1) l else g o=0∧W5 g d l
def Wb{A:α→Nat}:∀(n:Nat) (l:List α) (d:Nat),l.length≤n→W5 A d l→∃(f:Fr α) (g:List α),f.wf A∧l=f.flat++g∧((d=0∧g=[])∨∃(e:α) (j:List α) (B:Nat),d=B+1∧g=e::j∧A e=2∧W5 A B j)
 |_,[],d,_,h=>⟨.nil,[],trivial,rfl,.inl ⟨h,rfl⟩⟩
 |n+1,o::l,d,L,h=>by
  have z:l.length≤n:=Dt
  unfold W5 at h;by_cases D:A o=1
  ·rw[Ij D]at h;obtain⟨f1,I,E,C,F⟩:=Wb n l (d+1) z h;rcases F with ⟨q,_⟩|⟨e,K,B,hd,rfl,M,O⟩
   ·omega
   obtain rfl:d=B:=J
   have G:K.length≤n:=by rw[C]at z;simp at z;omega
   obtain⟨f2,P,Q,R,S⟩:=Wb n K d G O;refine⟨.loop o f1 e f2,P,⟨D,M,E,Q⟩,by rw[C,R];simp[Fr.flat],S⟩
  ·rw[Ii D]at h;by_cases H:A o=2
   ·rw[Ij H]at h;exact⟨.nil,o::l,trivial,rfl,.inr ⟨o,l,d-1,J,rfl,H,h.2⟩⟩
   ·rw[Ii H]at h;obtain⟨f1,I,E,C,F⟩:=Wb n l d z h.2;exact⟨.op o f1,I,⟨h.1,E⟩,by rw[C];rfl,F⟩
def jy{g:α→Nat}{l:List α}(h:W5 g 0 l):∃f:Fr α,f.wf g∧l=f.flat:=by
 obtain⟨f,r,w,e,q⟩:=Wb l.length l 0 (If _) h;rcases q with ⟨_,rfl⟩|⟨_,_,_,h,_⟩
 ·exact⟨f,w,by simpa using e⟩
 ·omega
def Fr.ends:Nat→Fr α→List Int
 |_,.nil=>[]
 |i,.op _ r=>-1::r.ends (i+1)
 |i,.loop _ b _ r=>((i+b.size+1:Nat):Int)::(b.ends (i+1)++(i:Int)::r.ends (i+b.size+2))
def Fr.ends_len:∀(f:Fr α) (i:Nat),(f.ends i).length=f.size
 |.nil,_=>rfl
 |.op _ r,i=>by simp[ends,size,ends_len r]
 |.loop _ b _ r,i=>by simp[ends,size,ends_len b,ends_len r];omega
def V8(j:α→Nat):Nat→List Nat→List Int→List α→List Int
 |_,_,g,[]=>g
 |i,st,g,o::l=>if j o=1 then V8 j (i+1) (i::st) g l
  else if j o=2 then (match st with
   |[]=>V8 j (i+1) [] g l
   |a::z=>V8 j (i+1) z ((g.set i a).set a i) l)
  else V8 j (i+1) st g l
def zbn{A:α→Nat}:∀(f:Fr α) (i:Nat) (st:List Nat) (j g:List Int) (z:List α),f.wf A→j.length=i →
  V8 A i st (j++List.replicate f.size (-1)++g) (f.flat++z)=V8 A (i+f.size) st (j++f.ends i++g) z
 |.nil,i,st,j,g,z,_,_=>by simp[Fr.flat,Fr.size,Fr.ends]
 |.op o r,i,st,j,g,z,w,C=>by
  have h:=zbn r (i+1) st (j++[-1]) g z w.2 Ae;have F:¬A o=1:=by rw[w.1];decide
  have G:¬A o=2:=by rw[w.1];decide
  simp only[Fr.flat,Fr.size,Fr.ends,Jl,V8,F,G,Mz,Kb];simp only[I0,Jl,K9]at h ⊢;rw[h]
  congr 1;omega
 |.loop o b e r,i,st,j,g,z,w,C=>by
  obtain⟨H,I,K,L⟩:=w;have D:=zbn b (i+1) (i::st) (j++[-1]) ([-1]++List.replicate r.size (-1)++g) (e::(r.flat++z)) K Ae;have E:=zbn r (i+b.size+2) st (j++[((i+b.size+1:Nat):Int)]++b.ends (i+1)++[(i:Int)]) g z L (by simp[C,Fr.ends_len];omega);have M:List.replicate (b.size+r.size+2) (-1:Int)=[-1]++List.replicate b.size (-1)++([-1]++List.replicate r.size (-1)):=by
   rw[(J:b.size+r.size+2=1+b.size+(1+r.size)),←Kt,←Kt,←Kt];rfl
  simp only[Fr.flat,Fr.size,Jl,V8,H,K7];rw[M];simp only[I0,Jl,K9]at D E ⊢;rw[D];simp only[V8,I,K7];have B:((j++(-1:Int)::(b.ends (i+1)++(-1:Int)::(List.replicate r.size (-1)++g))).set (i+1+b.size) (i:Int)).set i ((i+1+b.size:Nat):Int)
    = j++((i+b.size+1:Nat):Int)::(b.ends (i+1)++(i:Int)::(List.replicate r.size (-1)++g)):=by
   rw[L3 _ _ J,L3 _ _ J,(J:i+1+b.size-j.length=b.size+1),(J:i-j.length=0),List.set_cons_succ,List.set_cons_zero,
    L3 _ _ (by rw[Fr.ends_len];exact If _),Fr.ends_len,Nat.sub_self,List.set_cons_zero,(J:i+1+b.size=i+b.size+1)]
  rw[B,(J:i+1+b.size+1=i+b.size+2),E];simp only[Fr.ends,Jl,I0];rw[(J:i+(b.size+r.size+2)=i+b.size+2+r.size)];simp[Nat.add_comm]
def sn(g:α→Nat)(l:List α):List Int:=V8 g 0 [] (List.replicate l.length (-1)) l
def zty{g:α→Nat}{f:Fr α}(w:f.wf g):sn g f.flat=f.ends 0:=by
 have h:=zbn f 0 [] [] [] [] w rfl;simp only[Jf,K9,V8]at h;rw[sn,Fr.flat_len,h]
end tree
def Qv(o:Ko):Nat:=if o.kind=15 then 1 else if o.kind=16 then 2 else 0
def zq{vs:List Vr}:∀(l:List Ko) (m j:List Bool) (d:Nat),Px vs m d l=some (j,0)→W5 Qv d l
 |[],m,j,d,h=>by
  unfold Px at h;cases h;unfold W5;rfl
 |o::l,m,j,d,h=>by
  unfold Px at h;split at h
  ·rename_i A;simp only[H9,Il]at A;obtain⟨_,_,B,C⟩:=A;unfold W5;by_cases g:o.kind=15
   ·rw[Ij (by simp[Qv,g])];rw[dl,Ij g]at h;exact zq l _ j (d+1) Bb
   ·rw[Ii (by simp[Qv,g];split<;>simp)];by_cases z:o.kind=16
    ·rw[Ij (by simp[Qv,z])];rw[dl,Ii g,Ij z]at h B;refine⟨J,zq (vs:=vs) l (Sl m o) j (d-1) ?_⟩;rw[(J:((d-1:Nat):Int)=(d:Int)+-1)];exact h
    ·rw[Ii (by simp[Qv,g,z])];rw[dl,Ii g,Ii z]at h;exact⟨by simp[Qv,g,z],zq l _ j d Bb⟩
  ·cases h
end
abbrev Sp:=Int×Int
def ag(o:Ko)(v:Int):Bool:=[o.d,o.e,o.a,o.b,o.c].any λx=>decide (x=v)
def vt(v:Int):Nat→Sp→List Ko→Sp
 |_,s,[]=>s
 |i,s,o::l=>vt v (i+1) (if ag o v=true then (if s.1<0 then (i:Int) else s.1,(i:Int)) else s) l
def og(p q:Sp):Bool:=decide (p.1≤q.2)&&decide (q.1≤p.2)
def pz(p q:Sp):Sp:=(min p.1 q.1,max p.2 q.2)
def yw(s p:Sp):Sp:=if (!decide (s.1<0)&&og s p)=true then pz s p else s
def zvm(s:Sp)(g:List Sp):Sp:=g.foldl yw s
def Fr.tops{α:Type}:Nat→Fr α→List Sp
 |_,.nil=>[]
 |i,.op _ r=>r.tops (i+1)
 |i,.loop _ b _ r=>((i:Int),((i+b.size+1:Nat):Int))::r.tops (i+b.size+2)
def V4(g:List Ko)(j:List Sp)(v:Nat)(x:Vr):Sp:=if 0<x.mode then (0,(g.length:Int)) else zvm (vt v 0 (-1,-1) g) j
def Tv(g:List Ko)(j:List Sp):Nat→List Vr→List Sp
 |_,[]=>[]
 |v,x::l=>V4 g j v x::Tv g j (v+1) l
def Ov(p:Sp):List LV:=[.i p.1,.i p.2]
def Nn(l:List Sp):List LV:=l.flatMap Ov
def qq(l:List Sp):(Nn l).length=l.length*2:=zs1 (f:=Ov) (k:=2) (λ_=>rfl) l
def zgg(l:List Sp):dats (Nn l)=true:=yo (f:=Ov) (λ_=>rfl) l
def zw8(a b:List Sp):Nn (a++b)=Nn a++Nn b:=by simp[Nn]
def gs(l:List Sp)(n:Nat):Sp:=l.getD n (0,0)
def Xn{l:List Sp}{n:Nat}(h:n<l.length):l[n]?=some (gs l n):=by simp[gs,Ie,h]
def zwt{l:List Sp}{i:Nat}{v:Sp}(h:l[i]?=some v):((Nn l).drop (i*2)).take 2=[.i v.1,.i v.2]:=se (f:=Ov) (λ_=>rfl) h
def c9{l:List Sp}{i:Nat}(h:i<l.length):i*2+2≤(Nn l).length:=zur (f:=Ov) (λ_=>rfl) h
def jc{l:List Sp}{n:Nat}(h:n<l.length):l.drop n=gs l n::l.drop (n+1):=by
 rw[Iz h];congr 1;have:=Xn h;rw[Ib h]at this;exact Option.some.inj this
structure Left (os:List Ko) (es:List Int) (T0:List Sp) (i:Nat) (r:Fr Ko) (T:List Sp):Prop where
 os:os.drop i=r.flat
 es:es.drop i=r.ends i
 wf:r.wf Qv
 tops:T0=T++r.tops i
def Left.len{os:List Ko}{es:List Int}{T0:List Sp}{i:Nat}{r:Fr Ko}{T:List Sp}(h:Left os es T0 i r T)(hi:i≤os.length):os.length=i+r.size:=by
 have:=congrArg List.length h.os;rw[Jk,Fr.flat_len]at this;omega
def Left.op{os:List Ko}{es:List Int}{T0:List Sp}{i:Nat}{o:Ko}{r:Fr Ko}{T:List Sp}(h:Left os es T0 i (.op o r) T):os[i]?=some o∧o.kind≠15∧Left os es T0 (i+1) r T:=by
 obtain⟨h1,h2,h3,h4⟩:=h;have e1:os[i]?=some o:=by
  have:=congrArg (λl:List Ko=>l[0]?) h1;simpa [Fr.flat] using this
 refine⟨e1,λhk=>?_,?_,?_,h3.2,h4⟩
 ·have:=h3.1;simp[Qv,hk]at this
 ·rw[←J6,h1];rfl
 ·rw[←J6,h2];rfl
def Left.loop{os:List Ko}{es:List Int}{T0:List Sp}{i:Nat}{o e:Ko}{b r:Fr Ko}{T:List Sp}(h:Left os es T0 i (.loop o b e r) T) :
  os[i]?=some o∧o.kind=15∧es[i]?=some ((i+b.size+1:Nat):Int)∧Left os es T0 (i+b.size+2) r (T++[((i:Int),((i+b.size+1:Nat):Int))]):=by
 obtain⟨h1,h2,h3,h4⟩:=h;have e1:os[i]?=some o:=by
  have:=congrArg (λl:List Ko=>l[0]?) h1;simpa [Fr.flat] using this
 have e2:es[i]?=some ((i+b.size+1:Nat):Int):=by
  have:=congrArg (λl:List Int=>l[0]?) h2;simpa [Fr.ends] using this
 refine⟨e1,?_,e2,?_,?_,h3.2.2.2,?_⟩
 ·have:=h3.1;unfold Qv at this;split at this
  ·assumption
  ·split at this<;>cases this
 ·rw[(J:i+b.size+2=i+(b.size+2)),←J6,h1];simp only[Fr.flat];rw[(J:b.size+2=(b.size+1)+1),Ln,←J6,←Fr.flat_len b,List.drop_left,Ln,Jv]
 ·rw[show es.drop (i+b.size+2)=(es.drop i).drop (b.size+2) by rw[J6];congr 1,h2];simp only[Fr.ends];rw[show (b.size+2:Nat)=(b.size+1)+1 from rfl,Ln,←J6];have:(b.ends (i+1)).length=b.size:=Fr.ends_len b (i+1);rw[List.drop_left' this,Ln,Jv,Je]
 ·rw[h4];simp[Fr.tops]
def V0(k d:Int):Ko:=⟨k,d,-1,-1,-1,-1,0⟩
def Tu:Nat→List Vr→List Ko
 |_,[]=>[]
 |i,v::l=>if Ob v=true then Tu (i+1) l else V0 1 i::Tu (i+1) l
def startOs_len:∀(l:List Vr) (i:Nat),(Tu i l).length≤l.length
 |[],_=>by simp[Tu]
 |v::l,i=>by
  have:=startOs_len l (i+1);unfold Tu;split<;>simp<;>omega
def tu(k:Int):Bool:=decide (k=15) || decide (k=16)
def Rv(g:List Vr)(o:Ko):Bool:=!tu o.kind&&Ng g (Tu 0 g++[o]) []
def zvr(A:List Vr):∀(B g:List Ko) (m j:List Bool) (d z:Int),Px A m d B=some (j,z)→Px A m d (B++g)=Px A j z g
 |[],g,m,j,d,z,h=>Ce
 |o::B,g,m,j,d,z,h=>by
  unfold Px at h;split at h
  ·rename_i C;rw[Jl,Px,Ij C];exact zvr A B g _ j _ z h
  ·cases h
def zwa{i:Nat}(h:i<V.length)(g:Ob (gv V i)=false):Nz V (V0 1 i)=true:=by
 have e:Rp V.length (i:Int)=true:=dw.2 ⟨J,J⟩;have j:Nat.testBit 1 1=false:=Ad
 have z:Nat.testBit 1 2=false:=Ad
 have A:Nat.testBit 1 3=false:=Ad
 have B:Nat.testBit 1 4=false:=Ad
 simp[Nz,V0,Ow,Qm,Tc,Qu,e,Rq,g,Oq,Rr,d8,P7,j,z,A,B]
def zxf(m:List Bool)(i g:Nat)(hi:i<m.length):gb (m.set i true) g=if g=i then true else gb m g:=by
 unfold gb;rw[Ie,Ie,L4];by_cases h:i=g
 ·subst h;simp[hi]
 ·rw[Ii h,Ii (λq=>h q.symm)]
def ze7{g:List Vr}:∀(l:List Vr) (i:Nat) (m:List Bool),g.drop i=l→m.length=g.length→(∀j,j<i→gb m j=true)→(∀j,i≤j→j<g.length→gb m j=Ob (gv g j)) →
  ∃A,Px g m 0 (Tu i l)=some (A,0)∧A.length=g.length∧∀j,j<g.length→gb A j=true
 |[],i,m,hd,C,D,E=>by
  have:g.length≤i:=Ei
  exact⟨m,rfl,C,λj F=>D j J⟩
 |v::l,i,m,hd,C,D,E=>by
  have hi:i<g.length:=Ei
  have I:=zh8 hi;rw[hd]at I;obtain⟨rfl,rfl⟩:=List.cons.inj I;unfold Tu;by_cases G:Ob (gv g i)=true
  ·rw[Ij G];refine ze7 _ (i+1) m rfl C (λj F=>?_) (λj F z=>E j J z);by_cases e:j=i
   ·subst e;rw[E j (If _) hi,G]
   ·exact D j J
  ·rw[Ii G];have H:Ob (gv g i)=false:=by simpa using G
   have B:=zwa hi H;have K:V3 m (V0 1 i)=true:=by simp[V3,Rr,V0]
   obtain⟨A,L,M⟩:=ze7 (g.drop (i+1)) (i+1) (m.set i true) rfl (by simpa using C) (λj F=>by
    rw[zxf _ _ _ J];split
    ·rfl
    ·exact D j J) (λj F z=>by rw[zxf _ _ _ J,Ii J];exact E j J z)
   refine⟨A,?_,M⟩;rw[Px,Ij (by rw[B,K];simp[dl,V0])];have O:Sl m (V0 1 i)=m.set i true:=by simp[Sl,V0]
   rw[O];simpa [dl,V0] using L
def oh{vs:List Vr}(h:P6 vs=true):1≤vs.length∧vs.length≤256:=by
 unfold P6 at h;split at h
 ·cases h
 ·simp only[H9,Il]at h;omega
def vgo_limbs:∀(l:List Vr) (i p r:Nat),Qc i p l=some r→∀v∈l,1≤v.limbs∧v.limbs≤512∧0≤v.mode∧v.mode≤3
 |[],_,_,_,_,v,g=>Ej
 |w::l,i,p,r,h,v,g=>by
  unfold Qc at h;split at h
  ·cases h
  ·rename_i A;have hw:1≤w.limbs∧w.limbs≤512∧0≤w.mode∧w.mode≤3:=by
    simp[Tt]at A;omega
   have j:∀z,Qc (i+1) z l=some r→1≤v.limbs∧v.limbs≤512∧0≤v.mode∧v.mode≤3:=λz B=>by
    rcases Ik.1 g with rfl|g
    ·exact hw
    ·exact vgo_limbs l _ _ r B v g
   split at h
   ·exact j _ h
   ·split at h
    ·cases h
    ·exact j _ h
def Ve{vs:List Vr}(h:P6 vs=true):∀v∈vs,1≤v.limbs∧v.limbs≤512∧0≤v.mode∧v.mode≤3:=by
 unfold P6 at h;split at h
 ·cases h
 ·rename_i p g;exact vgo_limbs vs 0 0 p g
def Vt{vs:List Vr}{i:Nat}(h:i<vs.length):gv vs i∈vs:=Jd (Qp h)
def co{vs:List Vr}(h:P6 vs=true){v:Int}(g:0≤v)(j:v<vs.length):1≤Ql vs v∧Ql vs v≤512:=by
 have:=Ve h _ (Vt (vs:=vs) (i:=v.toNat) J);exact⟨this.1,this.2.1⟩
def vy(g:List Vr)(o:Ko):Rv g o=(!tu o.kind&&(P6 g&&Nz g o)):=by
 unfold Rv;cases z:tu o.kind with
 |true=>rfl
 |false =>
  simp only[Mj,Kg];unfold Ng;cases A:P6 g with
  |false=>rfl
  |true =>
   have K:=oh A;have F:=startOs_len g 0;obtain⟨m,G,L,B⟩:=ze7 g 0 (S1 g) rfl (by simp[S1]) (λM E=>J) (λM _ E=>by
    unfold gb S1;rw[Ie,Ks,Qp E];rfl)
   rw[zvr g _ _ _ _ _ _ G];have H:decide ((Tu 0 g++[o]).length≤4096)=true:=J4 Ab;rw[H];simp only[Kg,List.length_nil,List.all_nil,show decide (0≤4096)=true from rfl];have C:dl o.kind=0:=by simp[tu]at z;simp[dl,z.1,z.2]
   cases D:Nz g o with
   |false=>simp[Px,D]
   |true =>
    have j:=zvk D;have I:V3 m o=true:=by
     unfold V3;rw[I7];intro v A;have:=j.takes v A;exact B _ J
    have hm:U6 g (Sl m o)=true:=by
     unfold U6;rw[I7];intro i hi;have hi:=Ji.1 hi;have:gb (Sl m o) i=true:=by
      unfold Sl;split
      ·have:=j.d;rw[zxf _ _ _ J];split
       ·rfl
       ·exact B i hi
      ·exact B i hi
     simp[this]
    simp[Px,D,I,C,hm]
def Th(k:Int):Bool:=(decide (1≤k)&&decide (k≤11)) || decide (k=14)
def zqk(n:Int):Int:=2*n+4*(n-n/2+1)
def bi(g:List Vr)(o:Ko):Int :=
 if (Th o.kind&&Rv g o)=true then
  (if o.kind=5 then Ql g o.a+Ql g o.b else if o.kind=6 then zqk (Ql g o.a) else if o.kind=9∨o.kind=10∨o.kind=11 then 2*(Ql g o.c+1) else 1)
 else 0
def wo(g:List Vr)(o:Ko):Int:=if (decide (o.kind=12)&&Rv g o)=true then Ql g o.c+2 else 0
def wu(g:List Vr)(o:Ko):Int:=if (decide (o.kind=13)&&Rv g o)=true then (3+2^o.imm.toNat)*Ql g o.c+Ql g o.b+1+(Ql g o.c+2) else 0
def zn0{o:Ko}{s:Nat}(h:Nz V o=true)(g:Ow o.kind=some s):Tc V.length s o=true∧Qm o=true∧d8 V o=true:=by
 unfold Nz at h;split at h
 ·rename_i j;rw[j]at g;simp[Ow]at g
 ·rw[g]at h;simp only[H9]at h;exact⟨h.2.1,h.1,h.2.2.2.2.2⟩
def rp{o:Ko}{s:Nat}(h:Rv V o=true)(g:Ow o.kind=some s):P6 V=true∧Tc V.length s o=true∧Qm o=true∧d8 V o=true:=by
 rw[vy]at h;simp only[H9]at h;exact⟨h.2.1,zn0 h.2.2 g⟩
def zxv{n s:Nat}{o:Ko}(h:Tc n s o=true)(g:s.testBit 2=true):0≤o.a∧o.a<n:=by
 simp only[Tc,H9]at h;exact Sx h.2.2.1 g
def zy7{n s:Nat}{o:Ko}(h:Tc n s o=true)(g:s.testBit 3=true):0≤o.b∧o.b<n:=by
 simp only[Tc,H9]at h;exact Sx h.2.2.2.1 g
def zhk{n s:Nat}{o:Ko}(h:Tc n s o=true)(g:s.testBit 4=true):0≤o.c∧o.c<n:=by
 simp only[Tc,H9]at h;exact Sx h.2.2.2.2 g
def kn(j:P6 V=true){v:Int}(h:0≤v∧v<V.length):∃k:Nat,v=k∧k<V.length∧(Nr V)[k*3]?=some (.i (Ql V v))∧1≤Ql V v∧Ql V v≤512:=by
 obtain⟨k,rfl⟩:=Ir h.1;have g:k<V.length:=J
 have:=co j h.1 h.2;exact⟨k,rfl,g,dv (Qp g),this⟩
abbrev TVr:={ n:Int // Ry n }×Bool×{ n:Int // Ry n }×Unit
abbrev TKo:={ n:Int // Ry n }×{ n:Int // Ry n }×{ n:Int // Ry n }×{ n:Int // Ry n }×{ n:Int // Ry n }×{ n:Int // Ry n }×UInt64×Unit
def vrT(e:TVr):Vr:=⟨e.1.1,e.2.1,e.2.2.1.1⟩
def rf(e:TKo):Ko:=⟨e.1.1,e.2.1.1,e.2.2.1.1,e.2.2.2.1.1,e.2.2.2.2.1.1,e.2.2.2.2.2.1.1,e.2.2.2.2.2.2.1⟩
def flat_vr:∀l:List TVr,l.flatMap (λx=>[LV.i x.1.1,LV.bool x.2.1,LV.i x.2.2.1.1])=Nr (l.map vrT)
 |[]=>rfl
 |x::l=>by rw[Kc,flat_vr l];rfl
def flat_ko:∀l:List TKo,l.flatMap (λx=>[LV.i x.1.1,LV.i x.2.1.1,LV.i x.2.2.1.1,LV.i x.2.2.2.1.1,LV.i x.2.2.2.2.1.1,LV.i x.2.2.2.2.2.1.1,LV.u x.2.2.2.2.2.2.1])=Oi (l.map rf)
 |[]=>rfl
 |x::l=>by rw[Kc,flat_ko l];rfl
def Tq(g:List Vr)(o:Ko)(s i:Nat):Bool:=(List.range i).any λj=>s.testBit j&&((decide (2≤j) || decide (o.kind=14))&&(gv g (gd (Ot o) j).toNat).sec)
def yz{n s i:Nat}{v:Int}(h:Qu n s i v=true):s.testBit i=!decide (v<0):=by
 unfold Qu at h;split at h
 ·rename_i g;have:=dw.1 h;rw[g];simp;omega
 ·rename_i g;have:v=-1:=Lj h;subst this;simpa using g
def znx(g:List Vr)(o:Ko)(s i:Nat):Tq g o s (i+1)=(Tq g o s i || (s.testBit i&&((decide (2≤i) || decide (o.kind=14))&&(gv g (gd (Ot o) i).toNat).sec))):=by
 simp[Tq,Mq,List.any_append]
def uc{o:Ko}{n s:Nat}(A:Ow o.kind=some s)(j:Tc n s o=true):Tq V o s 5=Oq V o:=by
 simp only[Tc,H9]at j;obtain⟨hd,z,B,C,D⟩:=j;have g:o.kind=14→s=19:=λh=>by have:=zcw A;omega
 rw[show (5:Nat)=0+1+1+1+1+1 by rfl];simp only[znx];rw[show Tq V o s 0=false from rfl];rw[yz hd,yz z,yz B,yz C,yz D];have E:gd (Ot o) 0=o.d:=rfl;have F:gd (Ot o) (0+1)=o.e:=rfl;have G:gd (Ot o) (0+1+1)=o.a:=rfl;have H:gd (Ot o) (0+1+1+1)=o.b:=rfl;have I:gd (Ot o) (0+1+1+1+1)=o.c:=rfl;rw[E,F,G,H,I];unfold Oq Rr;rw[List.any_append,List.any_filter];by_cases k:o.kind=14
 ·have:=g k;subst this;have M:=Sx hd Ad;have O:=Sx z Ad;have K:decide (o.d<0)=false:=Ab
  have L:decide (o.e<0)=false:=Ab
  simp[k,K,L,Bool.or_comm,Bool.or_assoc]
 ·simp[k,Bool.or_assoc]
def Tl(m:List Bool)(o:Ko)(i:Nat):Bool:=(List.range i).all λg=>!(!decide (gd (Ot o) g<0)&&(decide (2≤g) || decide (o.kind=14))) || gb m (gd (Ot o) g).toNat
def zm1(m:List Bool)(o:Ko)(i:Nat):Tl m o (i+1)=(Tl m o i&&(!(!decide (gd (Ot o) i<0)&&(decide (2≤i) || decide (o.kind=14))) || gb m (gd (Ot o) i).toNat)):=by
 simp[Tl,Mq,List.all_append]
def az{n:Nat}{m:List Bool}{o:Ko}(g:PartsIn n o):Tl m o 5=V3 m o:=by
 rw[show (5:Nat)=0+1+1+1+1+1 by rfl];simp only[zm1];rw[show Tl m o 0=true from rfl];have j:gd (Ot o) 0=o.d:=rfl;have z:gd (Ot o) (0+1)=o.e:=rfl;have A:gd (Ot o) (0+1+1)=o.a:=rfl;have B:gd (Ot o) (0+1+1+1)=o.b:=rfl;have C:gd (Ot o) (0+1+1+1+1)=o.c:=rfl;rw[j,z,A,B,C];unfold V3 Rr;rw[List.all_append,List.all_filter];by_cases k:o.kind=14
 ·have hd:=g.takes o.d (by simp[Rr,k]);have F:=g.takes o.e (by simp[Rr,k]);have D:decide (o.d<0)=false:=Ab
  have E:decide (o.e<0)=false:=Ab
  simp[k,D,E,Bool.and_comm,Bool.and_assoc]
 ·simp[k,Bool.and_assoc]

def da(n:Int):Nat:=2^(64*n.toNat)
def Fr.once:Fr Ko→Prop
 |.nil=>True
 |.op _ r=>r.once
 |.loop o b _ r=>1≤o.imm.toNat∧b.once∧r.once
def kd_1{o:Ko}:Qv o=1↔o.kind=15:=Fj
def kd_2{o:Ko}:Qv o=2↔o.kind=16:=by
 unfold Qv;by_cases h:o.kind=15
 ·simp[h]
 ·by_cases g:o.kind=16<;>simp[h,g]
def zw9{j:List Vr}:∀(l:List Ko) (m:List Bool) (d:Int) (r:List Bool×Int),Px j m d l=some r→∀o∈l,Nz j o=true
 |[],_,_,_,_,o,g=>Ej
 |x::l,m,d,r,h,o,g=>by
  unfold Px at h;split at h
  ·rename_i z;simp only[H9]at z;rcases Ik.1 g with rfl|g
   ·exact z.1
   ·exact zw9 l _ _ r h o g
  ·cases h
def zkq{A:List Vr}:∀(f:Fr Ko),f.wf Qv→(∀o∈f.flat,Nz A o=true)→f.once
 |.nil,_,_=>trivial
 |.op _ r,w,h=>zkq r w.2 λo B=>h o (Jg _ B)
 |.loop o b e r,w,h=>by
  obtain⟨C,G,D,E⟩:=w;refine⟨?_,zkq b D λx j=>h x (by simp[Fr.flat,j]),zkq r E λx j=>h x (by simp[Fr.flat,j])⟩;have g:=kd_1.1 C;have F:=h o (by simp[Fr.flat]);obtain⟨_,z,_⟩:=zn0 (s:=0) F (by simp[Ow,g]);simp[Qm,g]at z;have:=z.1;rw[UInt64.le_iff_toNat_le]at this;exact this


def dh:List Bool→List Ko→Option (List Bool)
 |m,[]=>some m
 |m,o::l=>if V3 m o=true then dh (Sl m o) l else none
def Fr.deep:Fr Ko→Nat
 |.nil=>0
 |.op _ r=>r.deep
 |.loop _ b _ r=>max (1+b.deep) r.deep
def mkO_app:∀(a b:List Ko) (m:List Bool),dh m (a++b)=match dh m a with
  |none=>none
  |some m1=>dh m1 b
 |[],_,_=>rfl
 |o::a,b,m=>by
  simp only[Jl,dh];split
  ·exact mkO_app a b _
  ·rfl
def zgb{H:List Vr}:∀(f:Fr Ko) (m:List Bool) (d:Int) (g:List Ko) (r:List Bool×Int),f.wf Qv→0≤d→d≤4→Px H m d (f.flat++g)=some r→d+f.deep≤4∧∃C,dh m f.flat=some C∧Px H C d g=some r
 |.nil,m,d,g,r,_,_,D,h=>⟨by simp[Fr.deep];omega,m,rfl,h⟩
 |.op o f,m,d,g,r,w,E,D,h=>by
  have K:o.kind≠15:=λh=>by have:=w.1;simp[Qv,h]at this
  have L:o.kind≠16:=λh=>by have:=w.1;simp[Qv,h]at this
  simp only[Fr.flat,Jl]at h;unfold Px at h;split at h
  ·rename_i z;simp only[H9]at z;rw[dl,Ii K,Ii L,Int.add_zero]at h;obtain⟨I,C,F,j⟩:=zgb f _ d g r w.2 E D h;exact⟨I,C,by simp only[Fr.flat,dh,z.2.1,K7];exact F,j⟩
  ·cases h
 |.loop o b e f,m,d,g,r,w,E,D,h=>by
  obtain⟨M,O,P,Q⟩:=w;have A:=kd_1.1 M;have G:=kd_2.1 O;simp only[Fr.flat,Jl,I0]at h;unfold Px at h;split at h
  ·rename_i z;simp only[H9,Il]at z;rw[dl,Ij A]at h;have hd:=z.2.2.2;rw[dl,Ij A]at hd;obtain⟨I,m1,F,j⟩:=zgb b _ (d+1) _ r P J hd h;unfold Px at j;split at j
   ·rename_i B;simp only[H9,Il]at B;rw[dl,Ii J,Ij G,(J:d+1+-1=d)]at j;obtain⟨U,R,S,T⟩:=zgb f _ d g r Q E D j;refine⟨by simp only[Fr.deep];omega,R,?_,T⟩;simp only[Fr.flat,dh,z.2.1,K7];rw[mkO_app,F];simp only[dh,B.2.1,K7];exact S
   ·cases j
  ·cases h
def Yi{z D:List Ko}(h:Ng V z D=true):∃f:Fr Ko,f.wf Qv∧z=f.flat∧f.once∧(∀o∈f.flat,Nz V o=true)∧f.deep≤4∧∃j,dh (S1 V) f.flat=some j∧U6 V j=true:=by
 unfold Ng at h;simp only[H9,Il]at h;obtain⟨G,H,I,K,g⟩:=h;split at g
 ·cases g
 ·rename_i m L A;simp only[H9,Il]at g;obtain⟨g,rfl⟩:=g;obtain⟨f,w,E⟩:=jy (zq z _ m 0 Bh);subst E;have B:=zw9 _ _ _ _ A;obtain⟨M,j,F,C⟩:=zgb f (S1 V) 0 [] (m,0) w J J Bh;have hm:j=m:=by
   unfold Px at C;simpa using C
  subst hm;exact⟨f,w,rfl,zkq f w B,B,J,j,F,g⟩
def Fr.map{α:Type}(g:α→α):Fr α→Fr α
 |.nil=>.nil
 |.op o r=>.op (g o) (r.map g)
 |.loop o b e r=>.loop (g o) (b.map g) (g e) (r.map g)
def inV(vs:List Vr):List Nat:=(List.range vs.length).filter λi=>Ob (gv vs i)
def outV(vs:List Vr):List Nat:=(List.range vs.length).filter λi=>decide ((gv vs i).mode=3)
def n4(vs:List Vr)(ns:List Nat):Bool:=((inV vs).zip ns).all λp=>decide (p.2<da (gv vs p.1).limbs)
def Qb(vs:List Vr)(g j:List Ko)(ns:List Nat):Int:=if Ng vs g j=true then (if (inV vs).length=ns.length then (if n4 vs ns=true then 0 else 3) else 2) else 2
def qr{i:Nat}(h:i∈inV V):i<V.length:=by
 have:=(Ki.1 h).1;simpa using this
def zut{i:Nat}(h:i∈outV V):i<V.length:=by
 have:=(Ki.1 h).1;simpa using this

def zrc(a:List UInt64):(LU a).dat=true:=by
 simp only[LU,LV.dat];exact Un (λ_=>rfl) a
def Z0{a b:List Nat}{j:Nat}(g:j<a.length)(z:j<b.length):(a.zip b)[j]?=some (a.getD j 0,b.getD j 0):=by
 simp[List.getElem?_zip_eq_some,Ie,g,z]
def zi9{vs:List Vr}{ns:List Nat}(B:(inV vs).length=ns.length):n4 vs ns=true↔∀j,j<ns.length→ns.getD j 0<da (gv vs ((inV vs).getD j 0)).limbs:=by
 unfold n4;rw[I7];constructor
 ·intro h j z;have:=h _ (Jd (Z0 (a:=inV vs) (b:=ns) J z));exact Lj this
 ·intro h p A;obtain⟨j,z,rfl⟩:=K5.1 A;have g:j<ns.length:=by simp at z;omega
  have e:=Z0 (a:=inV vs) (b:=ns) (j:=j) J g;rw[Ib z]at e;rw[Option.some.inj e];exact J4 (h j g)
def zlb(n:Nat)(l:Int)(h:0≤l):((Oe n).length:Int)≤l↔n<da l:=by
 unfold da;rw[←zpn];omega
def inV_len(vs:List Vr):(inV vs).length≤vs.length:=by
 have:=Lh (λi=>Ob (gv vs i)) (List.range vs.length);simpa [inV] using this
def X4{vs:List Vr}{j:Nat}(h:j<(inV vs).length):(inV vs).getD j 0<vs.length:=by
 have:(inV vs).getD j 0∈inV vs:=by
  rw[Ie,Ib h];exact Km h
 exact qr this
def Q8(p:Vr→Bool)(vs:List Vr)(n:Nat):List Nat:=(List.range n).filter λi=>p (gv vs i)
def fp(p:Vr→Bool)(vs:List Vr)(n:Nat):Q8 p vs (n+1)=Q8 p vs n++if p (gv vs n)=true then [n] else []:=by
 unfold Q8;rw[Mq,List.filter_append]
 congr 1
 by_cases h:p (gv vs n)=true<;>simp[h]
def ng(p:Vr→Bool)(vs:List Vr)(n:Nat):(Q8 p vs n).length≤n:=by
 have:=Lh (λi=>p (gv vs i)) (List.range n);simpa [Q8] using this
def za8(vs:List Vr):inV vs=Q8 Ob vs vs.length:=rfl
def ot(vs:List Vr):outV vs=Q8 (λv=>decide (v.mode=3)) vs vs.length:=rfl
def Xa(vs:List Vr)(g j:List Ko):List Nat:=if Ng vs g j=true then inV vs else []

def ry{j:Type}{f:j→List LV}{k:Nat}(g:∀a,(f a).length=k):∀(l:List j) (i:Nat),(l.flatMap f).take (i*k)=(l.take i).flatMap f
 |[],i=>N
 |a::l,0=>N
 |a::l,i+1=>by
  rw[Kc,List.take_succ_cons,Kc,I5,L6,List.take_append,Io (by rw[g];omega),g,Nat.add_sub_cancel,ry g l i]
abbrev Hl:=Int×Int
def bm(x y:Hl):Prop:=x.2≤y.1∨y.2≤x.1
def Ap(g:Int)(l:List Hl):Prop:=l.Pairwise bm∧∀h∈l,0≤h.1∧h.1<h.2∧h.2≤g
def zd6{x y:Hl}(h:bm x y):bm y x:=Or.symm h
def Ap.perm{s:Int}{l m:List Hl}(h:Ap s l)(p:l.Perm m):Ap s m:=⟨(p.pairwise_iff (λ{_ _} h=>zd6 h)).1 h.1,λx hx=>h.2 x (p.mem_iff.2 hx)⟩
def Ap.split{s a b n:Int}{l:List Hl}(h:Ap s ((a,b)::l))(hn:1≤n)(hb:a+n<b):Ap s ((a,a+n)::(a+n,b)::l):=by
 obtain⟨h1,h2⟩:=h;obtain⟨q1,q2⟩:=Jy.1 h1;have g:=h2 (a,b) (Kj ..);dsimp only at g;refine⟨Jy.2 ⟨λy hy=>?_,Jy.2 ⟨λy hy=>?_,q2⟩⟩,λx hx=>?_⟩
 ·rcases Ik.1 hy with rfl|hy
  ·exact .inl (K6 _)
  ·have:=q1 y hy;unfold bm at this ⊢;dsimp only at this ⊢;omega
 ·have:=q1 y hy;unfold bm at this ⊢;dsimp only at this ⊢;omega
 ·rcases Ik.1 hx with rfl|hx
  ·dsimp only;omega
  ·rcases Ik.1 hx with rfl|hx
   ·dsimp only;omega
   ·exact h2 x (Jg _ hx)
def Ap.join{s a b c:Int}{l:List Hl}(h:Ap s ((a,b)::(b,c)::l)):Ap s ((a,c)::l):=by
 obtain⟨h1,h2⟩:=h;obtain⟨q1,q2⟩:=Jy.1 h1;obtain⟨q3,q4⟩:=Jy.1 q2;have g1:=h2 (a,b) (Kj ..);have g2:=h2 (b,c) (Jg _ (Kj ..));dsimp only at g1 g2;refine⟨Jy.2 ⟨λy hy=>?_,q4⟩,λx hx=>?_⟩
 ·have t1:=q1 y (Jg _ hy);have t2:=q3 y hy;have t3:=h2 y (Jg _ (Jg _ hy));unfold bm at t1 t2 ⊢;dsimp only at t1 t2 ⊢;omega
 ·rcases Ik.1 hx with rfl|hx
  ·dsimp only;omega
  ·exact h2 x (Jg _ (Jg _ hx))
def Ap.new{s n:Int}{l:List Hl}(h:Ap s l)(hs:0≤s)(hn:1≤n):Ap (s+n) ((s,s+n)::l):=by
 refine⟨Jy.2 ⟨λy hy=>?_,h.1⟩,λx hx=>?_⟩
 ·have:=h.2 y hy;exact .inr this.2.2
 ·rcases Ik.1 hx with rfl|hx
  ·dsimp only;omega
  ·have:=h.2 x hx;omega
def Wg(n:Int):List Hl→Option (Int×List Hl)
 |[]=>none
 |h::l=>if h.2-h.1<n then (match Wg n l with
   |none=>none
   |some r=>some (r.1,h::r.2)) else some (h.1,if h.1+n=h.2 then l else (h.1+n,h.2)::l)
def zry{s n:Int}(B:1≤n):∀(z A:List Hl) (a:Int) (j:List Hl),Ap s (A++z)→Wg n z=some (a,j)→Ap s ((a,a+n)::(A++j))
 |[],_,_,_,_,h=>Am
 |(x,y)::z,A,a,j,C,h=>by
  unfold Wg at h;split at h
  ·split at h
   ·cases h
   ·rename_i r D;simp only[Option.some.injEq,Prod.mk.injEq]at h;obtain⟨rfl,rfl⟩:=h;have g:Ap s (((x,y)::A)++z):=C.perm J9;have:=zry B z ((x,y)::A) r.1 r.2 g D;exact this.perm (List.Perm.cons _ J9.symm)
  ·rename_i hw;simp only[Option.some.injEq,Prod.mk.injEq]at h;dsimp only at hw h;obtain⟨rfl,rfl⟩:=h;have g:Ap s ((x,y)::(A++z)):=C.perm J9;split
   ·rename_i e;rw[e];exact g
   ·exact (g.split B J).perm (List.Perm.cons _ J9.symm)
def Se:List Hl→List Hl
 |x::y::l=>if x.2=y.1 then Se ((x.1,y.2)::l) else x::Se (y::l)
 |l=>l
termination_by l=>l.length
def zl7{s:Int}:∀(n:Nat) (B j:List Hl),B.length≤n→Ap s (j++B)→Ap s (j++Se B)
 |_,[],j,_,h=>by unfold Se;exact h
 |_,[x],j,_,h=>by unfold Se;exact h
 |0,_::_::_,_,z,_=>by simp at z
 |n+1,(A,g)::(E,C)::B,j,z,h=>by
  unfold Se;split
  ·rename_i e;dsimp only at e ⊢;subst e;refine zl7 n _ j (by simp at z ⊢;omega) ?_;have D:Ap s ((A,g)::(j++(g,C)::B)):=h.perm J9;have F:Ap s ((A,g)::(g,C)::(j++B)):=D.perm (List.Perm.cons _ J9);exact F.join.perm J9.symm
  ·have D:Ap s ((j++[(A,g)])++(E,C)::B):=Bb
   have:=zl7 n _ (j++[(A,g)]) (by simp at z ⊢;omega) D;simpa using this
def km{s:Int}{j g:List Hl}{h:Hl}(i B:Nat)(z:Ap s (h::(j++g))):Ap s (j++((g.take i++h::g.drop i).take B++Se ((g.take i++h::g.drop i).drop B))):=by
 have p:(g.take i++h::g.drop i).Perm (h::g):=by
  have:(g.take i++h::g.drop i).Perm (h::(g.take i++g.drop i)):=J9
  rwa [Jr]at this
 have A:Ap s (j++(g.take i++h::g.drop i)):=z.perm ((J9.symm).trans (List.Perm.append_left _ p.symm));rw[←I0];refine zl7 _ _ _ (If _) ?_;rw[I0,Jr];exact A
variable{vS:List Hl}
structure St where
 holes:List Hl
 size:Int
def Um(z:Nat→Hl)(j:Nat→Bool)(s:Bool)(g:List Nat):List Hl:=(g.filter λv=>j v==s).map z
def Xe(g:Nat→Hl)(v:Nat)(x:Hl):Nat→Hl:=λw=>if w=v then x else g w
def Sm(g:Bool→St)(s:Bool)(x:St):Bool→St:=λt=>if t=s then x else g t
def y9(A:Bool→Int)(B:Nat→Hl)(j:Nat→Bool)(g:List Nat)(z:Bool→St):Prop :=
 ∀s,0≤(z s).size∧Ap (z s).size ((0,A s)::(Um B j s g++(z s).holes))
def jk(i g:Nat)(h:Hl)(H:List Hl):List Hl:=(H.take i++h::H.drop i).take g++Se ((H.take i++h::H.drop i).drop g)
def Pk(n:Int)(s:St):Int×St:=match Wg n s.holes with
 |some (a,g)=>(a,⟨g,s.size⟩)
 |none=>(s.size,⟨s.holes,s.size+n⟩)
def zq9(j:Nat→Hl)(g:Nat→Bool)(s:Bool)(x y:List Nat):Um j g s (x++y)=Um j g s x++Um j g s y:=by simp[Um]
def zso(j:Nat→Hl)(g:Nat→Bool)(s:Bool)(v:Nat)(y:List Nat):Um j g s (v::y)=(if g v=s then [j v] else [])++Um j g s y:=by
 unfold Um;rw[List.filter_cons];by_cases h:g v=s
 ·simp[h]
 ·simp[h]
def fj{j:Nat→Hl}{g:Nat→Bool}{s:Bool}{v:Nat}{x:Hl}{l:List Nat}(h:v ∉ l):Um (Xe j v x) g s l=Um j g s l:=by
 unfold Um;apply List.map_congr_left;intro w hw;have:w≠v:=λe=>h (e ▸ (Ki.1 hw).1)
 simp[Xe,this]
def iq{B:Bool→Int}{A:Nat→Hl}{g:Nat→Bool}{x y:List Nat}{v:Nat}{z:Bool→St}(i D:Nat)(h:y9 B A g (x++v::y) z):y9 B A g (x++y) (Sm z (g v) ⟨jk i D (A v) (z (g v)).holes,(z (g v)).size⟩):=by
 intro s;obtain⟨C,j⟩:=h s;rw[zq9,zso]at j;rw[zq9];by_cases e:s=g v
 ·subst e;rw[Ij rfl]at j;simp only[Sm,K7];refine⟨C,?_⟩;rw[←Jl];refine km i D ?_;refine j.perm ?_;rw[I0];refine (List.Perm.cons _ J9).trans ?_;refine (List.Perm.swap ..).trans (List.Perm.cons _ ?_);simp
 ·rw[Ii (λq=>e q.symm),K9]at j;simp only[Sm,Ii e];exact⟨C,j⟩
def zju{n:Int}(g:1≤n)(s:St):s.size≤(Pk n s).2.size∧(Pk n s).2.size≤s.size+n:=by
 unfold Pk;split
 ·exact⟨K6 _,An⟩
 ·exact⟨An,K6 _⟩
def zs6{n:Int}(g:1≤n){B:List Hl}{s:St}(j:0≤s.size)(h:Ap s.size (B++s.holes)):Ap (Pk n s).2.size (((Pk n s).1,(Pk n s).1+n)::(B++(Pk n s).2.holes)):=by
 unfold Pk;split
 ·rename_i a z e;exact zry g _ _ _ _ h e
 ·exact h.new j g
def jt{z:Bool→Int}{A:Nat→Hl}{g:Nat→Bool}{v:Nat}{j:Bool→St}{n:Int}(C:1≤n)(F:v ∉ Z)(h:y9 z A g Z j) :
  y9 z (Xe A v ((Pk n (j (g v))).1,(Pk n (j (g v))).1+n)) g (Z++[v]) (Sm j (g v) (Pk n (j (g v))).2):=by
 intro s;obtain⟨D,E⟩:=h s;rw[zq9,zso,fj F];by_cases e:s=g v
 ·subst e;simp only[Sm,K7];have G:=zju C (j (g v));refine⟨J,?_⟩;have q:=zs6 C (B:=(0,z (g v))::Um A g (g v) Z) D E;refine q.perm ?_;simp only[Xe,K7,Um,List.filter_nil,Mw,Jf,I0,Jl,K9];refine (List.Perm.swap ..).trans (List.Perm.cons _ ?_);exact J9.symm
 ·rw[Ii (λq=>e q.symm)];simp only[Sm,Ii e];refine⟨D,?_⟩;simpa [Um] using E
structure Plan0 (wk:Bool→Int) (a b Nm:Nat→Int) (sec:Nat→Bool) (done busy:List Nat) (iv:Nat→Hl) (ps:Bool→St) (cur:Int):Prop where
 ok:y9 wk iv sec busy ps
 wide:∀v∈done,(iv v).2=(iv v).1+Nm v
 nd:busy.Nodup
 sub:∀v∈busy,v∈done
 over:∀v∈done,v ∉ busy→b v<cur
 pairs:∀v∈done,∀w∈done,v≠w→sec v=sec w→bm (iv v) (iv w)∨b v<a w∨b w<a v
 inn:∀v∈done,0≤(iv v).1∧(iv v).2≤(ps (sec v)).size∧bm (0,wk (sec v)) (iv v)
 sz:(ps false).size+(ps true).size≤wk false+wk true+(done.map Nm).sum
def i9{j:Nat→Hl}{g:Nat→Bool}{v:Nat}{l:List Nat}(h:v∈l):j v∈Um j g (g v) l:=Kh.2 ⟨v,Ki.2 ⟨h,N⟩,rfl⟩
def Plan0.give{wk:Bool→Int}{a b Nm:Nat→Int}{sec:Nat→Bool}{done x y:List Nat}{v:Nat}{iv:Nat→Hl}{ps:Bool→St}{cur j:Int}(i gg:Nat)(h:Plan0 wk a b Nm sec done (x++v::y) iv ps cur)(hc:cur≤j)(hb:b v<j) :
  Plan0 wk a b Nm sec done (x++y) iv (Sm ps (sec v) ⟨jk i gg (iv v) (ps (sec v)).holes,(ps (sec v)).size⟩) j:=by
 have sz:∀s,(Sm ps (sec v) ⟨jk i gg (iv v) (ps (sec v)).holes,(ps (sec v)).size⟩ s).size=(ps s).size:=by
  intro s;unfold Sm;split
  ·rename_i e;rw[e]
  ·rfl
 refine⟨iq i gg h.ok,h.wide,?_,λw hw=>h.sub w ?_,λw hw hn=>?_,h.pairs,λw hw=>by rw[sz];exact h.inn w hw,by rw[sz,sz];exact h.sz⟩
 ·have:=h.nd;rw[List.nodup_append]at this ⊢;obtain⟨q1,q2,q3⟩:=this;exact⟨q1,(List.nodup_cons.1 q2).2,λp hp q hq=>q3 p hp q (Jg _ hq)⟩
 ·rcases I2.1 hw with hw|hw
  ·exact Kl _ hw
  ·exact Ke _ (Jg _ hw)
 ·by_cases e:w=v
  ·rw[e];exact hb
  ·have:w ∉ x++v::y:=by
    intro hm;rcases I2.1 hm with hm|hm
    ·exact hn (Kl _ hm)
    ·rcases Ik.1 hm with hm|hm
     ·exact e hm
     ·exact hn (Ke _ hm)
   have:=h.over w hw this;omega
def Plan0.take{wk:Bool→Int}{a b Nm:Nat→Int}{sec:Nat→Bool}{done busy:List Nat}{v:Nat}{iv:Nat→Hl}{ps:Bool→St}(h:Plan0 wk a b Nm sec done busy iv ps (a v))(hv:v ∉ done)(hl:1≤Nm v) :
  Plan0 wk a b Nm sec (done++[v]) (busy++[v]) (Xe iv v ((Pk (Nm v) (ps (sec v))).1,(Pk (Nm v) (ps (sec v))).1+Nm v)) (Sm ps (sec v) (Pk (Nm v) (ps (sec v))).2) (a v):=by
 have gj:v ∉ busy:=λhm=>hv (h.sub v hm)
 have hk:=jt hl gj h.ok;have old:∀w∈done,Xe iv v ((Pk (Nm v) (ps (sec v))).1,(Pk (Nm v) (ps (sec v))).1+Nm v) w=iv w:=λw hw=>by
  have:w≠v:=λe=>hv (e ▸ hw)
  simp[Xe,this]
 have nw:Xe iv v ((Pk (Nm v) (ps (sec v))).1,(Pk (Nm v) (ps (sec v))).1+Nm v) v=((Pk (Nm v) (ps (sec v))).1,(Pk (Nm v) (ps (sec v))).1+Nm v):=by simp[Xe]
 have hz:=zju hl (ps (sec v));have gD:∀s,(ps s).size≤(Sm ps (sec v) (Pk (Nm v) (ps (sec v))).2 s).size:=by
  intro s;unfold Sm;split
  ·rename_i e;rw[e];exact hz.1
  ·exact K6 _
 have hA:=zs6 hl (B:=(0,wk (sec v))::Um iv sec (sec v) busy) (h.ok (sec v)).1 (h.ok (sec v)).2;obtain⟨p1,p2⟩:=Jy.1 hA.1;have g:=hA.2 _ (Kj ..);dsimp only at g;have nb:∀w∈done,sec v=sec w→bm ((Pk (Nm v) (ps (sec v))).1,(Pk (Nm v) (ps (sec v))).1+Nm v) (iv w)∨b w<a v:=by
  intro w hw hs;by_cases hm:w∈busy
  ·left;refine p1 _ ?_;simp only[Jl,Ik,I2];right;left;rw[hs];exact i9 hm
  ·right;exact h.over w hw hm
 refine⟨hk,?_,?_,?_,?_,?_,?_,?_⟩
 ·intro w hw;rcases I2.1 hw with hw|hw
  ·rw[old w hw];exact h.wide w hw
  ·rw[Kw.1 hw,nw]
 ·rw[List.nodup_append];exact⟨h.nd,N,λp hp q hq=>by rw[Kw.1 hq];exact λe=>gj (e ▸ hp)⟩
 ·intro w hw;rcases I2.1 hw with hw|hw
  ·exact Kl _ (h.sub w hw)
  ·exact Ke _ hw
 ·intro w hw hn;rcases I2.1 hw with hw|hw
  ·exact h.over w hw λhm=>hn (Kl _ hm)
  ·exact absurd (Ke _ hw) hn
 ·intro x hx y hy gB hs;rcases I2.1 hx with gg|hx
  ·rcases I2.1 hy with gC|hy
   ·rw[old x gg,old y gC];exact h.pairs x gg y gC gB hs
   ·have:=Kw.1 hy;subst this;rw[old x gg,nw];rcases nb x gg hs.symm with q|q
    ·exact .inl (zd6 q)
    ·exact .inr (.inl q)
  ·have:=Kw.1 hx;subst this;rcases I2.1 hy with hy|hy
   ·rw[old y hy,nw];rcases nb y hy hs with q|q
    ·exact .inl q
    ·exact .inr (.inr q)
   ·exact absurd (Kw.1 hy).symm gB
 ·intro w hw;rcases I2.1 hw with hw|hw
  ·rw[old w hw];have:=h.inn w hw;have:=gD (sec w);exact⟨J,J,(h.inn w hw).2.2⟩
  ·have:=Kw.1 hw;subst this;rw[nw];refine⟨g.1,?_,zd6 (p1 _ N)⟩;simp only[Sm,K7];exact g.2.2
 ·rw[Ju,List.sum_append];simp only[Kn,Mw,List.sum_cons,List.sum_nil];have:=h.sz;cases hs:sec v
  ·rw[hs]at hz;simp[Sm];omega
  ·rw[hs]at hz;simp[Sm];omega
structure Bf where
 size:Int
 kind:Int
 sec:Bool
structure Lo where
 kind:Int
 d:Int
 e:Int
 a:Int
 b:Int
 c:Int
 buf:Int
 imm:UInt64
 deriving DecidableEq
def Bf.f(v:Bf):List LV:=[.i v.size,.i v.kind,.bool v.sec]
def Lo.f(o:Lo):List LV:=[.i o.kind,.i o.d,.i o.e,.i o.a,.i o.b,.i o.c,.i o.buf,.u o.imm]
def Om(l:List Bf):List LV:=l.flatMap Bf.f
def loC(l:List Lo):List LV:=l.flatMap Lo.f
def Bf.f_len(v:Bf):v.f.length=3:=rfl
def xn(l:List Bf):dats (Om l)=true:=yo (λ_=>rfl) l
def zw{l:List Bf}{i:Nat}{v:Bf}(h:l[i]?=some v):((Om l).drop (i*3)).take 3=v.f:=se Bf.f_len h
def wg{l:List Bf}{i:Nat}{v:Bf}(h:l[i]?=some v):(Om l)[i*3]?=some (.i v.size):=by have:=V2 Bf.f_len h (j:=0) J;simpa [Om,Bf.f] using this
def zuj{l:List Bf}{i:Nat}{v:Bf}(h:l[i]?=some v):(Om l)[i*3+1]?=some (.i v.kind):=by have:=V2 Bf.f_len h (j:=1) J;simpa [Om,Bf.f] using this
def Z4{l:List Bf}{i:Nat}{v:Bf}(h:l[i]?=some v):(Om l)[i*3+2]?=some (.bool v.sec):=by have:=V2 Bf.f_len h (j:=2) J;simpa [Om,Bf.f] using this
def kg{l:List Bf}{i:Nat}(h:i<l.length):i*3+3≤(Om l).length:=zur Bf.f_len h
def zhi(a b:List Bf):Om (a++b)=Om a++Om b:=by simp[Om]
def Ou(l:List Bf)(n:Nat):Bf:=l.getD n ⟨0,0,false⟩
def ay{l:List Bf}{n:Nat}(h:n<l.length):l[n]?=some (Ou l n):=by simp[Ou,Ie,h]
structure Ms where
 i:Nat
 first:Bool
 r:List UInt64
 bufs:List (List UInt64)
 l:List (Int×Int)
def atR(r:List UInt64)(x:Int):UInt64:=if x<0 then 0 else r.getD x.toNat 0
def bitR(b:Bool):UInt64:=if b then 1 else 0
def Uo(r:List UInt64)(x:Int)(v:UInt64):List UInt64:=if 0≤x then r.set x.toNat v else r
def valR(o:Lo)(a b:UInt64)(c:Bool):UInt64×UInt64 :=
 if o.kind=1 then (o.imm,0) else if o.kind=2 then (a,0) else if o.kind=3 then (a+b,0) else if o.kind=4 then (a-b,0)
 else if o.kind=5 then (a &&& b,0) else if o.kind=6 then (a ||| b,0) else if o.kind=7 then (a ^^^ b,0)
 else if o.kind=8 then (UInt64.ofNat (a.toNat*2^o.imm.toNat),0) else if o.kind=9 then (UInt64.ofNat (a.toNat/2^o.imm.toNat),0)
 else if o.kind=10 then (lg a b,a*b) else if o.kind=11 then ((zb a b c).1,bitR (zb a b c).2) else if o.kind=12 then ((subC a b c).1,bitR (subC a b c).2)
 else if o.kind=13 then (if c then a else b,0) else (0,0)
def fw(g:List (List UInt64))(x:Int):List UInt64:=g.getD x.toNat []
def doR(o:Lo)(s:Ms):Option Ms :=
 if o.kind=14 then
  (if (o.imm+atR s.r o.a).toNat<(fw s.bufs o.buf).length then
   some ⟨s.i+1,s.first,Uo (Uo s.r o.d ((fw s.bufs o.buf).getD (o.imm+atR s.r o.a).toNat 0)) o.e 0,s.bufs,s.l++[((s.i:Int),(((o.imm+atR s.r o.a).toNat:Nat):Int))]⟩ else none)
 else if o.kind=15 then
  (if (o.imm+atR s.r o.a).toNat<(fw s.bufs o.buf).length then
   some ⟨s.i+1,s.first,Uo (Uo s.r o.d 0) o.e 0,s.bufs.set o.buf.toNat ((fw s.bufs o.buf).set (o.imm+atR s.r o.a).toNat (atR s.r o.b)),s.l++[((s.i:Int),(((o.imm+atR s.r o.a).toNat:Nat):Int))]⟩ else none)
 else some ⟨s.i+1,s.first,Uo (Uo s.r o.d (valR o (atR s.r o.a) (atR s.r o.b) (decide (atR s.r o.c%2=1))).1) o.e (valR o (atR s.r o.a) (atR s.r o.b) (decide (atR s.r o.c%2=1))).2,s.bufs,s.l++[((s.i:Int),(-1:Int))]⟩
def br(g:List Lo)(j:List Int)(s:Ms):Option Ms :=
 match g[s.i]? with
 |none=>some s
 |some o =>
  if o.kind=16 then some ⟨s.i+1,true,if s.first then Uo s.r o.d 0 else s.r,s.bufs,s.l++[((s.i:Int),(-1:Int))]⟩
  else if o.kind=17 then
   (match g[(j.getD s.i 0).toNat]? with
   |none=>none
   |some p=>if atR s.r p.d+1<p.imm then some ⟨(j.getD s.i 0).toNat,false,Uo s.r p.d (atR s.r p.d+1),s.bufs,s.l⟩ else some ⟨s.i+1,s.first,s.r,s.bufs,s.l⟩)
  else doR o s
def qz(g:List Lo)(j:List Int):Nat→Ms→Option Ms
 |0,s=>some s
 |n+1,s=>match br g j s with
  |none=>none
  |some z=>qz g j n z
section
structure Fs where
 r:Nat→UInt64
 m:Nat→Nat→UInt64
def Fs.put(s:Fs)(d:Nat)(v:UInt64):Fs:=⟨λx=>if x=d then v else s.r x,s.m⟩
structure Rep (nb:Nat) (sz:Nat→Nat) (s:Ms) (t:Fs):Prop where
 rl:s.r.length=64
 r:∀x,x<64→s.r.getD x 0=t.r x
 bl:s.bufs.length=nb
 len:∀b,b<nb→(s.bufs.getD b []).length=sz b
 m:∀b n,b<nb→n<sz b→(s.bufs.getD b []).getD n 0=t.m b n
section rep
variable {nb : Nat} {sz : Nat → Nat} {s : Ms} {t : Fs}
def zou(l:List v8)(i g:Nat)(v d:v8)(h:i<l.length):(l.set i v).getD g d=if g=i then v else l.getD g d:=by
 simp only[Ie,L4];by_cases q:g=i
 ·subst q;simp[h]
 ·rw[Ii (Ne.symm q),Ii q]
end rep
end
def Fr.stp:Fr Lo→Nat
 |.nil=>0
 |.op _ r=>1+r.stp
 |.loop o b _ r=>o.imm.toNat*(1+b.stp)+r.stp
structure SameLen (s s':Ms):Prop where
 r:s'.r.length=s.r.length
 b:s'.bufs.map List.length=s.bufs.map List.length
 i:s'.i=s.i+1
 l:s'.l.length=s.l.length+1
 f:s'.first=s.first
structure Pc where
 buf:Int
 at_:Int
 size:Int
def Pc.f(p:Pc):List LV:=[.i p.buf,.i p.at_,.i p.size]
section
def Vx(x y:Pc):Prop:=x.buf=y.buf∧x.at_<y.at_+y.size∧y.at_<x.at_+x.size
def S8(base:Int)(iv:Nat→Hl)(Nm:Nat→Int)(sec:Nat→Bool)(i:Nat):Pc:=if (i:Int)<base then ⟨i,0,Nm i⟩ else ⟨base+(if sec i=true then 1 else 0),(iv i).1,Nm i⟩
def Vl(base:Int)(wk:Bool→Int)(s:Bool):Pc:=⟨base+(if s=true then 1 else 0),0,wk s⟩
section made
variable {wk : Bool → Int} {a b Nm : Nat → Int} {sec : Nat → Bool} {done busy : List Nat} {iv : Nat → Hl} {ps : Bool → St} {cur base : Int} {n : Nat}
def zx6(h:Plan0 wk a b Nm sec done busy iv ps cur)(hd:∀i:Nat,base≤i→i<n→i∈done){i:Nat}(hi:i<n)(G:g<n)(B:i≠g)(H:Vx (S8 base iv Nm sec i) (S8 base iv Nm sec g)):b i<a g∨b g<a i:=by
 obtain⟨j,C,D⟩:=H;unfold S8 at j C D;by_cases A:(i:Int)<base
 ·by_cases z:(g:Int)<base
  ·rw[Ij A,Ij z]at j;dsimp only at j;omega
  ·rw[Ij A,Ii z]at j;dsimp only at j;split at j<;>omega
 ·by_cases z:(g:Int)<base
  ·rw[Ii A,Ij z]at j;dsimp only at j;split at j<;>omega
  ·rw[Ii A,Ii z]at j C D;dsimp only at j C D;have E:=hd i J hi;have F:=hd g J G;have I:sec i=sec g:=by
    cases K:sec i<;>cases L:sec g<;>simp[K,L]at j ⊢<;>omega
   rcases h.pairs i E g F B I with q|q
   ·have M:=h.wide i E;have O:=h.wide g F;unfold bm at q;omega
   ·exact q
def zrb(h:Plan0 wk a b Nm sec done busy iv ps cur)(hd:∀i:Nat,base≤i→i<n→i∈done){i:Nat}(hi:i<n)(s:Bool):¬Vx (S8 base iv Nm sec i) (Vl base wk s):=by
 intro C;obtain⟨g,j,z⟩:=C;unfold S8 Vl at g j z;by_cases A:(i:Int)<base
 ·rw[Ij A]at g;dsimp only at g;split at g<;>omega
 ·rw[Ii A]at g j z;dsimp only at g j z;have B:=hd i J hi;have D:sec i=s:=by
   cases E:sec i<;>cases s<;>simp[E]at g ⊢<;>omega
  subst D;have F:=h.wide i B;have:=(h.inn i B).2.2;unfold bm at this;dsimp only at this;omega
def works_apart:¬Vx (Vl base wk false) (Vl base wk true):=by
 intro g;have:=g.1;simp[Vl]at this;omega
def zqa(h:Plan0 wk a b Nm sec done busy iv ps cur)(s:Bool):1≤wk s∧wk s≤(ps s).size:=by
 have:=(h.ok s).2.2 _ (Kj ..);dsimp only at this;omega
def ztz{wk:Bool→Int}{a b Nm:Nat→Int}{sec:Nat→Bool}{iv:Nat→Hl}{cur:Int}(h:∀s,1≤wk s):Plan0 wk a b Nm sec [] [] iv (λs=>⟨[],wk s⟩) cur:=by
 refine⟨λs=>⟨?_,?_⟩,N,N,N,N,N,N,N⟩
 ·have:=h s;dsimp only;omega
 ·have:=h s;refine⟨by simp[Um],λx g=>?_⟩;simp[Um]at g;subst g;dsimp only;omega
end made
end
section
def dz{α:Type}(k:α→Int)(l:List α):Prop:=l.Pairwise λx y=>k x≤k y
section sym
variable {α : Type} {k : α → Int}
def dz.last{l:List α}(h:dz k l){u z:α}(hu:u∈l)(hz:l.getLast?=some z):k u≤k z:=by
 obtain⟨ys,rfl⟩:=List.getLast?_eq_some_iff.1 hz;have:=Mo.1 h;rcases I2.1 hu with q|q
 ·exact this.2.2 u q z N
 ·rw[Kw.1 q];exact K6 _
def dz.head{l:List α}(h:dz k l){u z:α}(hu:u∈l)(hz:l.head?=some z):k z≤k u:=by
 obtain⟨ys,rfl⟩:=List.head?_eq_some_iff.1 hz;have:=Jy.1 h;rcases Ik.1 hu with q|q
 ·rw[q];exact K6 _
 ·exact this.1 u q
def zxz{l:List α}{u:α}(h:u∈l):∃j,l.getLast?=some j:=by
 cases g:l.getLast? with
 |none=>rw[List.getLast?_eq_none_iff]at g;subst g;cases h
 |some j=>exact⟨j,rfl⟩
def zxg{l:List α}{u:α}(h:u∈l):∃g,l.head?=some g:=by
 cases l with
 |nil=>cases h
 |cons g t=>exact⟨g,rfl⟩
def halves{z A B C:List α}(D:dz k (z++A))(E:dz k (B++C))(F:∀u w,z.getLast?=some u→C.head?=some w→k u≤k w)(G:∀u w,B.getLast?=some u→A.head?=some w→k u≤k w) :
  ∀u∈z++B,∀w∈A++C,k u≤k w:=by
 obtain⟨H,I,K⟩:=Mo.1 D;obtain⟨L,M,O⟩:=Mo.1 E;intro u hu w hw;rcases I2.1 hu with hu|hu<;>rcases I2.1 hw with hw|hw
 ·exact K u hu w hw
 ·obtain⟨P,g⟩:=zxz hu;obtain⟨y,j⟩:=zxg hw;exact Mi (dz.last H hu g) (Mi (F P y g j) (dz.head M hw j))
 ·obtain⟨P,g⟩:=zxz hu;obtain⟨y,j⟩:=zxg hw;exact Mi (dz.last L hu g) (Mi (G P y g j) (dz.head I hw j))
 ·exact O u hu w hw
end sym
end
def zvg(g:List Vr):Ng g (Tu 0 g) []=P6 g:=by
 unfold Ng;cases z:P6 g with
 |false=>rfl
 |true =>
  have E:=oh z;have A:=startOs_len g 0;obtain⟨m,B,F,C⟩:=ze7 g 0 (S1 g) rfl (by simp[S1]) (λG j=>J) (λG _ j=>by
   unfold gb S1;rw[Ie,Ks,Qp j];rfl)
  rw[B];have hm:U6 g m=true:=by
   unfold U6;rw[I7];intro i hi;simp[C i (Ji.1 hi)]
  have D:(Tu 0 g).length≤4096:=J
  simp[hm,D]
def Of(l:List Pc)(n:Nat):Pc:=l.getD n ⟨0,0,0⟩
def Xb(g:List Bf):Int :=
 if 32<g.length then 3 else if (g.any λb=>decide (65536<b.size))=true then 3 else if (g.any λb=>decide (b.size<1) || (decide (b.kind<1) || decide (3<b.kind)))=true then 2 else 0
def Ua(g:List Bf)(x:Pc):Bool:=decide (0≤x.buf)&&(decide (x.buf<g.length)&&(decide (1≤x.size)&&(decide (x.size≤32768)&&(decide (0≤x.at_)&&(decide (x.at_≤(Ou g x.buf.toNat).size)&&decide (x.size≤(Ou g x.buf.toNat).size-x.at_))))))
def Wj(g:List Bf)(v:Vr)(x:Pc):Bool :=
 Ua g x&&(decide (x.size=v.limbs)&&(!(decide ((Ou g x.buf.toNat).kind=1) && !Ob v)&&(!(decide ((Ou g x.buf.toNat).kind=2)&&Ob v)&&(v.sec==(Ou g x.buf.toNat).sec))))
def Uv(g:List Bf)(s:Bool)(x:Pc):Bool:=Ua g x&&(!decide ((Ou g x.buf.toNat).kind=1)&&((Ou g x.buf.toNat).sec==s))
def Uy(vs:List Vr)(g:List Bf)(ps:List Pc)(j z:Pc):Bool :=
 P6 vs&&(decide (1≤g.length)&&(decide (ps.length=vs.length)&&(decide (Xb g=0)&&(((List.range vs.length).all λi=>Wj g (gv vs i) (Of ps i))&&(Uv g false j&&Uv g true z)))))
def Oc(l:List Pc):List LV:=l.flatMap Pc.f
def zqy(v:Vr)(l:List Vr):gv (v::l) 0=v:=rfl
def zs2(v:Vr)(l:List Vr)(g:Nat):gv (v::l) (g+1)=gv l g:=rfl
def vgo_params:∀(l:List Vr) (i p r:Nat),Qc i p l=some r→p≤i→p≤r∧(p<i→r=p)∧∀g,g<l.length→((gv l g).mode≠0↔i+g<r)
 |[],i,p,r,h,F=>by
  cases h;exact⟨If _,λ_=>rfl,λg j=>by simp at j⟩
 |v::l,i,p,r,h,F=>by
  unfold Qc at h;split at h
  ·cases h
  ·split at h
   ·rename_i z;obtain⟨C,D,A⟩:=vgo_params l (i+1) p r h J;have G:=D J;refine⟨C,λ_=>G,λg j=>?_⟩;cases g with
    | zero => rw [zqy]; constructor
              ·intro E;exact absurd z E
              ·intro E;omega
    |succ g=>rw[zs2,A g B0];omega
   ·rename_i z;split at h
    ·cases h
    ·rename_i H;have B:¬p<i:=λq=>H (.inl q)
     obtain⟨C,D,A⟩:=vgo_params l (i+1) (p+1) r h J;refine⟨J,λq=>absurd q B,λg j=>?_⟩;cases g with
     | zero => rw [zqy]; constructor
               ·intro _;omega
               ·intro _;exact z
     |succ g=>rw[zs2,A g B0];omega
def zib{vs:List Vr}(h:P6 vs=true):∃r:Nat,Qc 0 0 vs=some r∧r≤12∧r≤vs.length∧∀z,z<vs.length→((gv vs z).mode≠0↔z<r):=by
 unfold P6 at h;split at h
 ·cases h
 ·rename_i r g;simp only[H9,Il]at h;obtain⟨D,E,B⟩:=vgo_params vs 0 0 r g (If _);have j:r≤vs.length:=by
   by_cases q:vs.length<r
   ·exfalso;have:∀(l:List Vr) (i p r:Nat),Qc i p l=some r→r≤p+l.length:=by
     intro l
     induction l with
     |nil=>intro i p r h;cases h;simp
     |cons v l A =>
      intro i p r h;unfold Qc at h;split at h
      ·cases h
      ·split at h
       ·have:=A _ _ _ h;simp;omega
       ·split at h
        ·cases h
        ·have:=A _ _ _ h;simp;omega
    have:=this vs 0 0 r g;omega
   ·omega
  refine⟨r,g,J,j,λz C=>?_⟩;rw[B z C,Jc]
def Q2(v:Vr):Bf:=⟨v.limbs,if v.mode=3 then 2 else 1,v.sec⟩
def Sn(vs:List Vr)(r:Nat)(ps:Bool→St):List Bf:=((List.range r).map λi=>Q2 (gv vs i))++[⟨(ps false).size,3,false⟩,⟨(ps true).size,3,true⟩]
def Uc(vs:List Vr)(r:Nat)(g:Nat→Hl):List Pc:=(List.range vs.length).map λi=>S8 r g (λi=>(gv vs i).limbs) (λi=>(gv vs i).sec) i
def zbm(vs:List Vr)(r:Nat)(ps:Bool→St):(Sn vs r ps).length=r+2:=by simp[Sn]
def zjs{vs:List Vr}{r i:Nat}{ps:Bool→St}(h:i<r):Ou (Sn vs r ps) i=Q2 (gv vs i):=by
 unfold Ou Sn;rw[Ie,Ic Eg];simp[h]
def zer{vs:List Vr}{r:Nat}{ps:Bool→St}(s:Bool):Ou (Sn vs r ps) (r+(if s=true then 1 else 0))=⟨(ps s).size,3,s⟩:=by
 unfold Ou Sn;rw[Ie,Iq N];cases s<;>simp
def zi7{vs:List Vr}{r i:Nat}{g:Nat→Hl}(h:i<vs.length):Of (Uc vs r g) i=S8 r g (λi=>(gv vs i).limbs) (λi=>(gv vs i).sec) i:=by
 unfold Of Uc;rw[Ie];simp[h]
def zvj{vs:List Vr}{r:Nat}{B:Bool→Int}{a b:Nat→Int}{done:List Nat}{C:Nat→Hl}{ps:Bool→St}(D:P6 vs=true)(R:Qc 0 0 vs=some r)
  (h:Plan0 B a b (λi=>(gv vs i).limbs) (λi=>(gv vs i).sec) done Z C ps A) (hd:∀i:Nat,r≤i→i<vs.length→i∈done) (hs:(ps false).size+(ps true).size≤65536) (hw:∀s,B s≤32768) :
  Uy vs (Sn vs r ps) (Uc vs r C) (Vl r B false) (Vl r B true)=true:=by
 obtain⟨r',E,S,T,U⟩:=zib D;rw[R]at E;obtain rfl:=Option.some.inj E;have w0:=zqa h false;have V:=zqa h true;have F:∀s,1≤(ps s).size∧(ps s).size≤65536:=by intro s;cases s<;>omega
 have hl:=oh D;have G:=zbm vs r ps;have H:∀x∈Sn vs r ps,1≤x.size∧x.size≤65536∧1≤x.kind∧x.kind≤3:=by
  intro x g;unfold Sn at g;rcases I2.1 g with g|g
  ·obtain⟨i,hi,rfl⟩:=Kh.1 g;have hi:=Ji.1 hi;have:=Ve D _ (Vt (vs:=vs) (i:=i) J);unfold Q2;dsimp only;refine⟨J,J,?_,?_⟩<;>split<;>omega
  ·have O:=F false;have P:=F true;simp only[Ik,Ka,Mf]at g;rcases g with rfl|rfl
   ·exact⟨O.1,O.2,by show (1:Int)≤3;decide,by show (3:Int)≤3;decide⟩
   ·exact⟨P.1,P.2,by show (1:Int)≤3;decide,by show (3:Int)≤3;decide⟩
 have K:Xb (Sn vs r ps)=0:=by
  unfold Xb;rw[Ii J,Ii,Ii]
  ·intro q;obtain⟨x,g,q⟩:=Mm.1 q;have:=H x g;simp only[La,Il]at q;omega
  ·intro q;obtain⟨x,g,q⟩:=Mm.1 q;have:=H x g;simp only[Il]at q;omega
 have tmp:∀s:Bool,∃q:Nat,(r:Int)+(if s=true then 1 else 0)=(q:Int)∧q<(Sn vs r ps).length∧Ou (Sn vs r ps) q=⟨(ps s).size,3,s⟩:=by
  intro s;refine⟨r+(if s=true then 1 else 0),?_,?_,zer s⟩
  ·cases s<;>simp
  ·rw[G];cases s<;>simp
 have j:∀s,Uv (Sn vs r ps) s (Vl r B s)=true:=by
  intro s;obtain⟨q,L,X,M⟩:=tmp s;have w:=zqa h s;have:=hw s;have e:Vl r B s=⟨q,0,B s⟩:=by unfold Vl;rw[L]
  rw[e];simp only[Uv,Ua,I6,M,H9,Il,L5,Me,beq_self_eq_true,and_true];refine⟨⟨J,J,J,J,J,J,J⟩,Ad⟩
 have z:∀i,i<vs.length→Wj (Sn vs r ps) (gv vs i) (Of (Uc vs r C) i)=true:=by
  intro i hi;rw[zi7 hi];have vl:=Ve D _ (Vt hi);by_cases q:i<r
  ·have e:S8 r C (λi=>(gv vs i).limbs) (λi=>(gv vs i).sec) i=⟨i,0,(gv vs i).limbs⟩:=by unfold S8;rw[Ij J]
   have t:=zjs (vs:=vs) (ps:=ps) q;have hm:=(U i hi).2 q;rw[e];simp only[Wj,Ua,I6,t,Q2,H9,Il,L5,beq_self_eq_true,and_true];refine⟨⟨J,J,J,J,J,J,J⟩,trivial,?_,?_⟩
   ·by_cases I:(gv vs i).mode=3
    ·simp[I]
    ·have:(gv vs i).mode=1∨(gv vs i).mode=2:=J
     rcases this with m|m<;>simp[Ob,m]
   ·by_cases I:(gv vs i).mode=3
    ·simp[Ob,I]
    ·simp[I]
  ·have Q:=hd i J hi;obtain⟨Y,L,X,M⟩:=tmp (gv vs i).sec;have V:=h.wide i Q;have wi:=h.inn i Q;have e:S8 r C (λi=>(gv vs i).limbs) (λi=>(gv vs i).sec) i=⟨Y,(C i).1,(gv vs i).limbs⟩:=by unfold S8;rw[Ii J,L]
   rw[e];simp only[Wj,Ua,I6,M,H9,Il,L5,beq_self_eq_true,and_true];refine⟨⟨J,J,J,J,wi.1,J,J⟩,trivial,?_,?_⟩<;>simp
 simp only[Uy,H9,Il,I7,Ji];exact⟨D,J,by simp[Uc],K,z,j false,j true⟩
section
def Fr.cat{α:Type}:Fr α→Fr α→Fr α
 |.nil,g=>g
 |.op o r,g=>.op o (r.cat g)
 |.loop o b e r,g=>.loop o b e (r.cat g)
section ex
variable {sz : Nat → Nat} {s : Fs}
end ex
end





section
def vl(f:Nat→UInt64):Nat→Nat
 |0=>0
 |n+1=>vl f n+(f n).toNat*18446744073709551616^n
structure Pn where
 b:Nat
 a:Nat
 k:Nat
def pl(m:Nat→Nat→UInt64)(p:Pn)(i:Nat):UInt64:=m p.b (p.a+i)
def Dj(p q:Pn):Prop:=p.b≠q.b∨p.a+p.k≤q.a∨q.a+q.k≤p.a
section ls
variable {sz : Nat → Nat} {s : Fs} {p : Pn}
end ls
end
section
section mu
variable {sz : Nat → Nat}
def Pn.in_(sz:Nat→Nat)(p:Pn):Prop:=p.a+p.k≤sz p.b∧sz p.b≤65536
def DjE(p q:Pn):Prop:=Dj p q∨(p.b=q.b∧p.a=q.a)
end mu
end

section
section gd
variable {bs : List Bf} {S S' S2 ls : List Int} {f g : Fr Lo}
end gd
end
section
section w
variable {bs : List Bf} {S : List Int} {l : List Lo}
structure Bp (bs:List Bf) (p:Pn):Prop where
 b:p.b<bs.length
 s:((p.a+p.k:Nat):Int)≤(Ou bs p.b).size
 z:(Ou bs p.b).size≤65536
def Bw(bs:List Bf)(p:Pn):Prop:=(Ou bs p.b).kind≠1
end w
section into
variable {bs : List Bf} {ls : List Int} {R D : Int} {d a b n t : Pn} {k : Int}
end into
end
section
def rgR(R x:Int):Prop:=x=-1∨(R≤x∧x<R+14)
structure OpG (nb:Nat) (R lo hi:Int) (o:Lo):Prop where
 k:o.kind≠16∧o.kind≠17
 d:rgR R o.d
 e:rgR R o.e
 a:rgR R o.a∨(lo≤o.a∧o.a≤hi)
 b:rgR R o.b
 c:rgR R o.c
 m:(o.kind=14∨o.kind=15)→o.a=-1∨(lo≤o.a∧o.a≤hi)
 f:o.buf.toNat<nb
section al
variable {nb : Nat} {R lo hi : Int}
end al
end
section
section into
variable {nb : Nat} {R lo hi D k : Int} {d a b n t : Pn}
end into
end


section
section facts
variable {k y e r d : Nat}
end facts
end

section
section facts
variable {k : Nat}
end facts
end
section
structure Lock (s t:Ms):Prop where
 i:s.i=t.i
 first:s.first=t.first
 l:s.l=t.l
 rs:s.r.length=64
 rt:t.r.length=64
 low:∀x,x<16→s.r.getD x 0=t.r.getD x 0
 bufs:s.bufs.map List.length=t.bufs.map List.length
section lock
variable {s t s' t' : Ms} {os : List Lo} {es : List Int}
def stay{os:List Lo}{es:List Int}{s:Ms}(h:os[s.i]?=none):∀n,qz os es n s=some s
 |0=>rfl
 |n+1=>by
  have:br os es s=some s:=by unfold br;rw[h]
  unfold qz;rw[this];exact stay h n
end lock
end
section
section facts
variable {bs : List Bf} {d a b n t : Pn} {k R e nb : Nat}
end facts
end


section
section run
variable {sz : Nat → Nat} {bd : Nat → Option Nat}
end run
end
section
section run
variable {sz : Nat → Nat} {bd : Nat → Option Nat}
end run
end
section
structure Cf where
 nb:Nat
 R:Int
 w:Int
 lo:Int
 hi:Int
 pa:Int
 pb:Int
 L:Nat→Prop
 S:Nat→Prop
def rgH(c:Cf)(x:Int):Prop:=c.R≤x∧x<c.R+c.w
def lwH(c:Cf)(x:Int):Prop:=(c.lo≤x∧x≤c.hi)∨(c.pa≤x∧x≤c.pb)
def inH(c:Cf)(x:Int):Prop:=x=-1∨rgH c x∨lwH c x
def hiO(c:Cf)(o:Lo):Prop:=(o.d=-1∨rgH c o.d)∧(o.e=-1∨rgH c o.e)∧(o.kind=14∨o.kind=15→o.a=-1∨lwH c o.a)
def plO(c:Cf)(o:Lo):Prop:=(o.kind≠14∧o.kind≠15)∧(c.pa≤o.d∧o.d≤c.pb)∧o.e=-1∧(o.a=-1∨lwH c o.a)∧(o.b=-1∨lwH c o.b)∧(o.c=-1∨lwH c o.c)
structure OpH (c:Cf) (o:Lo):Prop where
 k:o.kind≠16∧o.kind≠17
 f:o.buf.toNat<c.nb
 a:inH c o.a
 b:inH c o.b
 z:inH c o.c
 m:hiO c o∨plO c o
 ld:o.kind=14→c.L o.buf.toNat
 st:o.kind=15→c.S o.buf.toNat
structure CfOk (c:Cf):Prop where
 r:16≤c.R∧c.R+c.w≤64
 l:0≤c.lo∧c.hi<8
 p:8≤c.pa∧c.pb<16
section ah
variable {c : Cf}
def C0(_:Int):Bool:=false
def Lb(c:Cf)(p:Pn):Prop:=p.b<c.nb∧c.L p.b
def Sb(c:Cf)(p:Pn):Prop:=p.b<c.nb∧c.S p.b
section into
variable {R D k : Int} {d a b n t : Pn}
end into
end ah
end
section
structure Pw where
 d:Pn
 a:Pn
 b:Pn
 n:Pn
 wb:Nat
 wa:Nat
 k:Nat
 w:Nat
 times:Nat
 over:Nat
 B:Nat
def Pw.t(p:Pw):Pn:=⟨p.wb,p.wa+3*p.k+p.b.k+1,p.k+2⟩
def Pw.r(p:Pw):Pn:=⟨p.t.b,p.t.a,p.k+1⟩
section all
variable {c : Cf}
structure PwC (c:Cf) (p:Pw):Prop where
 r:c.R≤p.B∧(p.B:Int)+21≤c.R+c.w
 q:c.pa≤12∧13≤c.pb
 d:Sb c p.d
 a:Lb c p.a
 b:Lb c p.b
 n:Lb c p.n
 wl:c.L p.wb
 ws:c.S p.wb
 wb:p.wb<c.nb
 k:p.k≤512
 w:p.w≤6
 ti:p.times≤100000
 bk:p.b.k≤512
end all
end
section
section gd
variable {bs : List Bf} {S S' T ls : List Int} {D : Int} {f g b : Fr Lo} {l : List Lo}
structure PwG (bs:List Bf) (p:Pw):Prop where
 B:16≤p.B∧p.B≤40
 d:Bp bs p.d
 wd:Bw bs p.d
 a:Bp bs p.a
 b:Bp bs p.b
 n:Bp bs p.n
 wb:p.wb<bs.length
 wz:((p.wa+4*p.k+p.b.k+3+p.k*2^p.w:Nat):Int)≤(Ou bs p.wb).size
 w6:(Ou bs p.wb).size≤65536
 ww:(Ou bs p.wb).kind≠1
 k:1≤p.k∧p.k≤512
 nk:0<p.n.k
 w:1≤p.w∧p.w≤6
 ti:p.times≤100000
 ov:p.over≤63
 bk:p.b.k≤512
end gd
end
section
set_option linter.unusedSimpArgs false
section fm
variable {l l' : List Pn} {m m' m'' : Nat → Nat → UInt64} {p q : Pn}
end fm
section ex
variable {sz : Nat → Nat} {s : Fs}
end ex
end
section
set_option linter.unusedSimpArgs false
section ex
variable {sz : Nat → Nat} {s : Fs}
def Pw.wk(p:Pw):Pn:=⟨p.wb,p.wa,4*p.k+p.b.k+3+p.k*2^p.w⟩
structure PwS (sz:Nat→Nat) (p:Pw):Prop where
 B:16≤p.B∧p.B≤40
 d:p.d.in_ sz
 a:p.a.in_ sz
 b:p.b.in_ sz
 n:p.n.in_ sz
 wk:p.wk.in_ sz
 k:1≤p.k
 kb:p.k≤512
 dk:p.d.k=p.k
 ak:p.a.k=p.k
 nk:p.n.k=p.k
 db:p.d.b≠p.wb
 ab:p.a.b≠p.wb
 bb:p.b.b≠p.wb
 nb:p.n.b≠p.wb
 dn:DjE p.d p.n
 w:1≤p.w∧p.w≤6
 ov:p.over≤63
 ti:p.times*p.w=64*p.b.k+p.over
section pieces
variable {p : Pw}
end pieces
end ex
end
section
set_option linter.unusedSimpArgs false
section ex
variable {sz : Nat → Nat} {s : Fs} {p : Pw}
end ex
end
section
set_option linter.unusedSimpArgs false
section ex
variable {sz : Nat → Nat} {s : Fs} {p : Pw}
def Pw.H(p:Pw)(m:Nat→Nat→UInt64):Prop:=pl m p.n 0%2=1∧vl (pl m p.a) p.k<vl (pl m p.n) p.k
end ex
end
section
set_option linter.unusedSimpArgs false
section stp
end stp
section prog
variable {p : Pw} {e : Nat} {c : Cf} {bs : List Bf} {sz : Nat → Nat} {s0 : Fs}
end prog
end
section
section pl
variable {vs : List Vr} {W : Int} {i : Nat}
end pl
section st
variable {bs : List Bf} {X : List (List UInt64)} {i : Nat}
end st
end
section
open Go.RowKit (Below)
set_option linter.unusedVariables false
structure Turn (w w':World) (b:Nat):Prop where
 os:w'.os=w.os
 tape:w'.tape=w.tape
 output:w'.output=w.output
 size:w.heap.size≤w'.heap.size
 block:∀k,k<w.heap.size→k≠b→w'.heap[k]?=w.heap[k]?
def Turn.refl(w:World)(b:Nat):Turn w w b:=⟨rfl,rfl,rfl,If _,λ_ _ _=>rfl⟩
def Turn.trans{w w' gg:World}{b:Nat}(h:Turn w w' b)(k:Turn w' gg b):Turn w gg b :=
 ⟨k.os.trans h.os,k.tape.trans h.tape,k.output.trans h.output,I1 h.size k.size,λi hi hb=>(k.block i (Ix hi h.size) hb).trans (h.block i hi hb)⟩
def Turn.drew{w w':World}{b:Nat}(h:Turn w w' b):Turn w w'.drew b:=⟨h.os,h.tape,h.output,h.size,h.block⟩
def zf9(b:Nat):∀(r:List Value) (o:Nat) (w:World),(w.setCells b o r).os=w.os∧(w.setCells b o r).tape=w.tape∧(w.setCells b o r).output=w.output∧(w.setCells b o r).heap.size=w.heap.size∧∀k,k≠b→(w.setCells b o r).heap[k]?=w.heap[k]?
 |[],o,w=>⟨rfl,rfl,rfl,rfl,λ_ _=>rfl⟩
 |v::r,o,w=>by
  obtain⟨j,z,A,B,C⟩:=zf9 b r (o+1) (w.setCell ⟨b,o,none⟩ v);rw[World.setCells];refine⟨j,z,A,by rw[B];simp[World.setCell],λk g=>?_⟩;rw[C k g];exact Below.heap_setCell w _ v k g
def Turn.cells{w w':World}{b b':Nat}(h:Turn w w' b)(hb:b'=b∨w.heap.size≤b')(o:Nat)(r:List Value):Turn w (w'.setCells b' o r) b:=by
 obtain⟨h1,h2,h3,h4,h5⟩:=zf9 b' r o w';exact⟨h1.trans h.os,h2.trans h.tape,h3.trans h.output,by rw[h4];exact h.size,λk hk gg=>(h5 k J).trans (h.block k hk gg)⟩
def Turn.alloc{w w':World}{b:Nat}(h:Turn w w' b)(x:Obj):Turn w (w'.alloc x) b :=
 ⟨h.os,h.tape,h.output,by rw[World.size_alloc];exact Nat.le_succ_of_le h.size,λk hk hb=>(z4y w' x (Ix hk h.size)).trans (h.block k hk hb)⟩
def zii(b:Nat)(e:TypeId)(B hi:Nat):∀(r:List Value) (o:Nat) (w:World) (j:Array Value),w.heap[b]?=some (.cells j e (B,hi))→o+r.length≤j.size →
  ∃g,(w.setCells b o r).heap[b]?=some (.cells g e (B,hi))∧g.size=j.size∧∀z,g[z]?=if o≤z∧z<o+r.length then r[z-o]? else j[z]?
 |[],o,w,j,h,_=>⟨j,h,rfl,λz=>by rw[Ii N]⟩
 |v::r,o,w,j,h,E=>by
  simp only[Iy]at E;have A:(w.setCell ⟨b,o,none⟩ v).heap[b]?=some (.cells (j.setIfInBounds o v) e (B,hi)):=by
   simp only[World.setCell,Array.getElem?_modify,K7,h,Jw];rfl
  obtain⟨g,F,G,H⟩:=zii b e B hi r (o+1) _ _ A (by rw[Mc];omega);refine⟨g,F,by rw[G,Mc],λz=>?_⟩;rw[H z,Mr];by_cases C:o+1≤z∧z<o+1+r.length
  ·rw[Ij C,Ij B5,(J:z-o=(z-(o+1))+1),Iv]
  ·rw[Ii C];by_cases D:o=z
   ·subst D;rw[Ij rfl,Ij J,Ij B5,Nat.sub_self,It]
   ·rw[Ii D,Ii B5]
structure RowIn (w:World) (b d cap k:Nat) (cs:List Value):Prop where
 has:∃vs e lo hi,w.heap[b]?=some (.cells vs e (lo,hi))∧d+cap*k≤vs.size∧(∀i,d≤i→i<d+cap*k→¬(lo≤i∧i<hi))∧∀j u,cs[j]?=some u→vs[d+j]?=some u
def RowIn.lt{w:World}{b d cap k:Nat}{cs:List Value}(h:RowIn w b d cap k cs):b<w.heap.size:=by
 obtain⟨vs,e,lo,hi,h1,_⟩:=h;exact (L7.1 h1).1
def RowIn.cell{w:World}{b d cap k:Nat}{cs:List Value}(h:RowIn w b d cap k cs):∀j u,cs[j]?=some u→w.cell? ⟨b,d+j,none⟩=some u:=by
 obtain⟨vs,e,lo,hi,h1,_,_,h4⟩:=h;intro j u hj;rw[fi h1];exact h4 j u hj
def RowIn.room{w:World}{b d cap k:Nat}{cs:List Value}(h:RowIn w b d cap k cs):∀j,j<cap*k→(w.cell? ⟨b,d+j,none⟩).isSome=true:=by
 obtain⟨vs,e,lo,hi,h1,h2,_,_⟩:=h;intro j hj;rw[fi h1,Jh J];rfl
def RowIn.free{w:World}{b d cap k:Nat}{cs:List Value}(h:RowIn w b d cap k cs):∀j,j<cap*k→w.frozen? ⟨b,d+j,none⟩=false:=by
 obtain⟨vs,e,lo,hi,h1,h2,h3,_⟩:=h;intro j hj;simp only[World.frozen?,h1];have:=h3 (d+j) J J;simp only[Bool.and_eq_false_iff,Me];omega
def RowIn.put{w:World}{b d cap k:Nat}{cs cs':List Value}(h:RowIn w b d cap k cs)(o:Nat)(r:List Value)(ho:o+r.length≤cap*k)
  (gg:∀j u,cs'[j]?=some u→if o≤j∧j<o+r.length then r[j-o]?=some u else cs[j]?=some u):RowIn (w.setCells b (d+o) r) b d cap k cs':=by
 obtain⟨vs,e,lo,hi,h1,h2,h3,h4⟩:=h;obtain⟨gj,q1,q2,q3⟩:=zii b e lo hi r (d+o) w vs h1 J;refine⟨gj,e,lo,hi,q1,J,h3,λj u hj=>?_⟩;have:=gg j u hj;rw[q3];by_cases e1:o≤j∧j<o+r.length
 ·rw[Ij e1]at this;rw[Ij J,(J:d+j-(d+o)=j-o)];exact this
 ·rw[Ii e1]at this;rw[Ii J];exact h4 j u this
def RowIn.drew{w:World}{b d cap k:Nat}{cs:List Value}(h:RowIn w b d cap k cs):RowIn w.drew b d cap k cs:=⟨h.has⟩
def RowIn.new(w:World)(j:Array Value)(e:TypeId)(cap k:Nat)(cs:List Value)(hs:cap*k≤j.size)(hc:∀(gg:Nat) (u:Value),cs[gg]?=some u→j[gg]?=some u):RowIn (w.alloc (.cells j e)) w.heap.size 0 cap k cs :=
 ⟨j,e,0,0,Xv _ _,J,λi _ _=>J,λgg u hj=>by rw[Jc];exact hc gg u hj⟩
variable {P : Program}
def zss(w:World)(t e D:TypeId)(E g j:Value)(F:P.underlying t=some (.slice e))(G:∀w,(zeroValue e).run P w=.ok E w)(H:E.cells=#[g,j])(L:g.oneCell'=true)(M:j.oneCell'=true)(b o c:Nat)
  (I:∀C,C<2→(w.cell? ⟨b,o+C,none⟩).isSome=true) (K:∀C,C<2→w.frozen? ⟨b,o+C,none⟩=false) :
  (Builtin.clear_ #[t] D #[.slice (some ⟨b,o,none⟩) 1 c]).run P w=.ok (.tuple #[]) (w.setCells b o [g,j]):=by
 have B:(Builtin.zeroCells E.cells 1).toList=[g,j]:=by
  rw[H];simp[Builtin.zeroCells];rfl
 have z:=run_storeCells_cells (P:=P) b o [g,j] 0 w (by simpa using I) Dr (by intro v A;simp at A;rcases A with rfl|rfl<;>assumption);simp only[Lv]at z;simp[Builtin.clear_,run_underlying F,G,B,z]
def zai(w:World)(H L M g:TypeId)(b o j B:Nat)(a:Addr)(z C k:Nat)(A:List Value)
  (hu:P.underlying H=some (.slice g)) (I:(P.info? g).map (·.size)=some k) (O:A.length=Nat.min z j*k)
  (D:∀E v,A[E]?=some v→w.cell? (a.add E)=some v) (Q:∀E,E<A.length→(w.cell? ⟨b,o+E,none⟩).isSome=true) (R:∀E,E<A.length→w.frozen? ⟨b,o+E,none⟩=false) (S:∀v∈A,v.oneCell'=true) :
  (Builtin.copy_ #[H,L] M #[.slice (some ⟨b,o,none⟩) j B,.slice (some a) z C]).run P w=.ok (goInt (Nat.min z j)) (w.setCells b o A):=by
 have K:=run_loadCells_list (P:=P) w a A D;have F:=run_storeCells_cells (P:=P) b o A 0 w (by simpa using Q) Ev S;cases G:P.info? g with
 |none=>simp[G]at I
 |some i =>
  have hi:i.size=k:=by simpa [G] using I
  rw[O]at K;simp[Builtin.copy_,run_underlying hu,Builtin.lenOf,Builtin.firstCells,sizeOf,typeInfo,G,hi,K,F]
def zdk{ops:Array Oper}{o:Oper}{a:Act}{w:World}{F:Act→World→Prop}{G:Exit→Act→World→Prop}
  (A:o.guard=none) (d x:Operand) (j z:TypeId) (g:o.op=Op.call { callee:=Callee.builtin Builtin.copy,args:=#[d,x],argTypes:=#[j,z] })
  (v u:Value) (hd:a.eval d=v) (B:a.eval x=u) (C:(Builtin.copy_ #[j,z] o.type #[v,u]).run P w=.ok vZ E) (D:F (a.put o.dst vZ) E) :
  if Region.wanted o (yielded ops a.tmps)=true then Oper.wp P o a w F G else vG:=by
 have hw:Region.wanted o (yielded ops a.tmps)=true:=by simp[Region.wanted,A]
 rw[Ij hw];unfold Oper.wp;simp[execOp,g,resolve,invoke,builtin,hd,B,C,Result.andThen];exact D
def z4o(w:World){ops:Array Oper}{g:List Oper}{o:Oper}{a:Act}{F:Exit→Act→World→Prop}(j:o.guard=none)(d s:Operand)(t z:TypeId)
  (A:o.op=.call { callee:=.builtin .copy,args:=#[d,s],argTypes:=#[t,z] }) (v u:Value) (hd:a.eval d=v) (B:a.eval s=u)
  (C:(Builtin.copy_ #[t,z] o.type #[v,u]).run P w=.ok vZ E) (h:wpList P ops F g (a.put o.dst vZ) E):wpList P ops F (o::g) a w:=by
 refine wpList_plain j λG D=>?_
 unfold Oper.wp execOp;simp only[A,resolve,invoke,builtin,Sem.run_bind,Sem.run_pure,Result.andThen_ok,List.map_toArray,Kn,Mw,hd,B,C];exact D _ _ h
def zfw(w:World)(F X e:TypeId)(G:P.underlying F=some (.slice e))(g:Nat)(H:∀w,(Go.sizeOf e).run P w=.ok g w)
  (a b:Addr) (I Y K Z:Nat) (L:a.block≠b.block) (tA tB:TypeId) (M O:Nat)
  (A:w.shape? a.block=some (tA,M)) (B:w.shape? b.block=some (tB,O)) (T:M≠0) (U:O≠0) (C:w.frozen? a=false) :
  ∃r E,(Extern.SlicesOverlaps.overlaps #[F,F] #[X] #[.slice (some a) I Y,.slice (some b) K Z]).run P w=.ok (.bool r) E∧E.heap=w.heap∧E.os=w.os∧E.tape=w.tape∧E.output=w.output:=by
 have D:(a.block != b.block)=true:=Dt
 have z:(a.block==b.block)=false:=Dt
 have j:∀r E,Sem.run P (α:=Value) (do
   let some t := (#[F, F] : Array TypeId)[0]? | stuck "slices.overlaps: no parameter types"
   let .slice Q ← underlying t | stuck "slices.overlaps: slice type expected"
   let g ←sizeOf Q
   match (some a:Option Addr),(some b:Option Addr) with
   |some a,some b =>
    if I=0∨K=0∨g=0 then pure (Value.bool false)
    else if a.block != b.block&&(←frozen a)&&(←frozen b) then unsupported .addressObserved
    else do
     if a.block != b.block then do
      noView a;noView b
      if ← mayBeOne a b then return Value.bool ((← choose (.extern "sameAddr.stringBytes" 2)) == 1)
     pure (Value.bool (a.block==b.block&&a.off<b.off+K*g&&b.off<a.off+I*g))
   |_,_=>pure (Value.bool false)) w=.ok (.bool r) E→(Extern.SlicesOverlaps.overlaps #[F,F] #[X] #[.slice (some a) I Y,.slice (some b) K Z]).run P w=.ok (.bool r) E:=λ_ _ h=>h
 by_cases R:I=0∨K=0∨g=0
 ·exact⟨false,w,j _ _ (by simp[run_underlying G,H,R]),rfl,rfl,rfl,rfl⟩
 ·cases M with
  |zero=>exact absurd rfl T
  |succ M =>
  cases O with
  |zero=>exact absurd rfl U
  |succ O =>
  cases S:w.frozen? { block:=a.block,off:=M+1 } with
  |false=>exact⟨false,w,j _ _ (by simp[run_underlying G,H,R,D,z,frozen,noView,viewAt,mayBeOne,stringish,shape,Sem.run,A,B,C,S]),rfl,rfl,rfl,rfl⟩
  |true =>
   cases V:w.frozen? b with
   |true=>exact⟨_,w.drew,j _ _ (by simp[run_underlying G,H,R,D,z,frozen,noView,viewAt,mayBeOne,stringish,shape,Sem.run,A,B,C,S,V,choose,Question.forced];rfl),rfl,rfl,rfl,rfl⟩
   |false =>
    cases hB:w.frozen? { block:=b.block,off:=O+1 } with
    |false=>exact⟨false,w,j _ _ (by simp[run_underlying G,H,R,D,z,frozen,noView,viewAt,mayBeOne,stringish,shape,Sem.run,A,B,C,S,V,hB]),rfl,rfl,rfl,rfl⟩
    |true=>exact⟨_,w.drew,j _ _ (by simp[run_underlying G,H,R,D,z,frozen,noView,viewAt,mayBeOne,stringish,shape,Sem.run,A,B,C,S,V,hB,choose,Question.forced];rfl),rfl,rfl,rfl,rfl⟩
def z8r(b:Nat)(g:List Value)(o:Nat)(w:World)(h:∀A,A<g.length→(w.cell? ⟨b,o+A,none⟩).isSome=true)(k:Nat)(j:(w.cell? ⟨b,k,none⟩).isSome=true):((w.setCells b o g).cell? ⟨b,k,none⟩).isSome=true:=by
 by_cases z:o≤k∧k<o+g.length
 ·have:=World.cell?_setCells_in b g o w h (k-o) J;rw[(J:o+(k-o)=k)]at this;rw[this];rfl
 ·rw[World.cell?_setCells_out b g o w ⟨b,k,none⟩ (λ_ _=>by show k<o∨o+g.length≤k;omega)];exact j
def Rel.rowTo{w0 w w':World}{H:Heap}(C:Rel w0 I H w){o v:Nat}{t:Tr AV}(hg:H.get o=some (.cells t j v false)){L:Loc}(hL:I o v=some L){b' k n':Nat}{l':List AV}
  (ht:Turn w w' L.b) (gj:RowIn w' b' v7 vU k vF) (gB:b'=L.b∨w.heap.size≤b') (hn:n'≤vU) (hl:l'.length=n'*k) (hv:VRs I l' vF) (h1:∀a∈l',a.one=true) :
  ∃C',I.le C'∧Rel w0 C' (H.put o (.cells (Pp l' 0 .e) l'.length (v+1) false)) w'∧VR C' (.sl o (v+1) 0 n' k none) (.slice (some ⟨b',v7,none⟩) n' vU):=by
 have ho:=C.fresh _ _ _ hL;have hB:w0.heap.size≤L.b:=(C.obj o _ ho hg L hL).2.1 rfl;have gG:=C.lt _ _ _ hL;have hmul:n'*k≤vU*k:=Ip _ hn;obtain⟨vs,e,lo,hi,q1,q2,q3,q4⟩:=gj.has;have gE:w0.heap.size≤b':=by
  rcases gB with rfl|h
  ·exact hB
  ·exact I1 C.low.size h
 have gC:∀o' v' L1,o'≠o→I o' v'=some L1→L1.b≠L.b:=λo' v' L1 gg h hb=>gg (C.excl _ _ _ _ _ _ h hL hb (by rw[hb];exact hB))
 obtain⟨r1,r2⟩:=C.bump ho ⟨v,L,hL⟩ hg ⟨b',v7,l'.length,v7+vU*k⟩ (Pp l' 0 .e) l'.length (w':=w')
  (C.low.trans ⟨ht.os,ht.tape,ht.output,ht.size,λgF hj=>ht.block gF (Ix hj C.low.size) J⟩) ht.size (L7.1 q1).1
  (λo' v' L1 h hb=>by
   rcases gB with rfl|gH
   ·by_cases e1:o'=o
    ·exact e1
    ·exact absurd hb (gC o' v' L1 e1 h)
   ·have:=C.lt _ _ _ h;dsimp only at hb;omega)
  (λo' v' L1 gg h=>ht.block L1.b (C.lt _ _ _ h) (gC o' v' L1 gg h))
  (by
   intro L1 gD;rw[CM.ext_same]at gD;cases gD;refine⟨rfl,λ_=>gE,An,vs,e,lo,hi,q1,q2,q3,?_⟩;intro gF hj;rw[get_ofList l' 0 .e gF,Ij J];obtain⟨a,u,p1,p2,p3⟩:=hv.get' (i:=gF) hj;have hle:I.le (I.ext o (v+1) ⟨b',v7,l'.length,v7+vU*k⟩):=by
    refine CM.le_ext _ ?_ (.inl ⟨v,L,hL⟩);cases e1:I o (v+1) with
    |none=>rfl
    |some L2=>have:=C.top _ _ _ _ _ ho hg _ _ e1;omega
   exact⟨a,by simpa using p1,h1 a (Jd p1),u,q4 gF u p2,p3.mono hle⟩)
 refine⟨_,r2,r1,?_⟩;exact VR.sl (i:=0) (L:=⟨b',v7,l'.length,v7+vU*k⟩) (CM.ext_same _ _ _ _) An An hn (λr hr=>by cases hr) (λ_=>rfl)
def Rel.rowIn{w0 w:World}{H:Heap}(hR:Rel w0 I H w)(P:Program){o v:Nat}{t:Tr AV}(hg:H.get o=some (.cells t j v false)){L:Loc}(hL:I o v=some L){len cap k:Nat}{l:List AV}
  (hr:Pt H o v 0 (len*k)=some l) (hc:L.d+cap*k≤L.sz):∃C,RowIn w L.b L.d cap k C∧VRs I l C∧(∀a∈l,a.one=true)∧C.length=len*k∧(∀u∈C,u.oneCell'=true):=by
 obtain⟨vs,_,p2,p3,p4,_,p6⟩:=hR.read P hr hL;obtain⟨h1,_,h3,gg,e,lo,hi,h4,h5,h6,h7⟩:=hR.obj o _ (hR.fresh _ _ _ hL) hg L hL;have hl:vs.length=len*k:=by rw[←p2.length];exact p4
 refine⟨vs,⟨gg,e,lo,hi,h4,J,λi a b=>h6 i a J,λgB u hj=>?_⟩,p2,p3,hl,p2.one p3⟩;have gj:=(H7.1 hj).1;have:=p6 gB J;rw[fi h4,hj,Jc]at this;exact this
def oq.of_calls{w0 w:World}{f:Nat}{vs:List Value}{v:AV}{R:Ending→World→Prop}(h:Calls P f vs.toArray w R)
  (hR:∀e w',R e w'→∃C' v',e=.returned v'∧I.le C'∧Rel w0 C' C w'∧VR C' v v'):oq P w0 I w (.fn f) vs v C:=by
 intro cs;obtain⟨e,w',fr,q1,q2,q3,q4⟩:=h cs;obtain⟨C',v',rfl,p1,p2,p3⟩:=hR e w' q1;exact⟨C',w',v',fr,p1,p2,p3,q2,q3,q4⟩
end
def tq{H:List Hl}{i:Nat}(h:i<H.length):(Nn H)[i*2]?=some (.i (gs H i).1):=by
 have:=V2 (f:=Ov) (k:=2) (λ_=>rfl) (Xn h) (j:=0) J;simpa [Nn,Ov] using this
def zd9{H:List Hl}{i:Nat}(h:i<H.length):(Nn H)[i*2+1]?=some (.i (gs H i).2):=by
 have:=V2 (f:=Ov) (k:=2) (λ_=>rfl) (Xn h) (j:=1) J;simpa [Nn,Ov] using this
def zpz{i:Nat}(h:i<vS.length):((Nn vS).drop (i*2)).take 2=Ov (gs vS i):=se (f:=Ov) (k:=2) (λ_=>rfl) (Xn h)
def ki(g:List Hl)(h:Hl)(i:Nat):(Nn g).take (i*2)++Ov h++(Nn g).drop (i*2)=Nn (g.take i++h::g.drop i):=by
 unfold Nn;rw[ry (k:=2) (λ_=>rfl),x9 (k:=2) (λ_=>rfl)];simp
def zx9(H:List Hl)(i:Nat):(Nn H).take (i*2)++(Nn H).drop ((i+1)*2)=Nn (H.take i++H.drop (i+1)):=by
 unfold Nn;rw[ry (k:=2) (λ_=>rfl),x9 (k:=2) (λ_=>rfl)];simp
def zwr{i:Nat}(h:i<vS.length)(x:Hl):Nn (vS.set i x)=(Nn vS).take (i*2)++Ov x++(Nn vS).drop ((i+1)*2):=by
 unfold Nn;rw[ry (k:=2) (λ_=>rfl),x9 (k:=2) (λ_=>rfl),J1,Ij h];simp
def X8{i:Nat}(h:i<vS.length)(x:Int):Nu (Nn vS) (i*2) [.i x]=Nn (vS.set i (x,(gs vS i).2)):=by
 rw[zwr h];unfold Nu;have g:=zd9 h;have j:=qq vS;have e:(Nn vS).drop (i*2+1)=.i (gs vS i).2::(Nn vS).drop ((i+1)*2):=by
  rw[Iz J,(J:(i+1)*2=i*2+1+1)];rw[Ib J]at g;rw[Option.some.inj g]
 show _++(Nn vS).drop (i*2+1)=_;rw[e];simp[Ov]
def Zz{H:List Hl}{i:Nat}(h:i<H.length)(y:Int):Nu (Nn H) (i*2+1) [.i y]=Nn (H.set i ((gs H i).1,y)):=by
 rw[zwr h];unfold Nu;have g:=tq h;have j:=qq H;have e:(Nn H).take (i*2+1)=(Nn H).take (i*2)++[.i (gs H i).1]:=by
  rw[Mg,g];rfl
 show _++(Nn H).drop (i*2+1+1)=_;rw[e,(J:i*2+1+1=(i+1)*2)];simp[Ov]
def zkd{n:Int}:∀(g:List Hl),(∀j,j<g.length→(gs g j).2-(gs g j).1<n)→Wg n g=none
 |[],_=>rfl
 |h::g,z=>by
  have A:=z 0 N;have:(gs (h::g) 0)=h:=rfl;rw[this]at A;unfold Wg;rw[Ij A,zkd g (λj B=>by have:=z (j+1) (by simpa using B);simpa [gs] using this)]
def zrs{n:Int}:∀(g:List Hl) (i:Nat),i<g.length→(∀j,j<i→(gs g j).2-(gs g j).1<n)→¬((gs g i).2-(gs g i).1<n) →
  Wg n g=some ((gs g i).1,g.take i++(if (gs g i).1+n=(gs g i).2 then g.drop (i+1) else ((gs g i).1+n,(gs g i).2)::g.drop (i+1)))
 |[],_,h,_,_=>B1
 |h::g,0,_,_,hw=>by
  have:(gs (h::g) 0)=h:=rfl;rw[this]at hw ⊢;unfold Wg;rw[Ii hw];rfl
 |h::g,i+1,hi,z,hw=>by
  have A:=z 0 J;have B:(gs (h::g) 0)=h:=rfl;have C:gs (h::g) (i+1)=gs g i:=by simp[gs]
  rw[B]at A;rw[C]at hw ⊢;unfold Wg;rw[Ij A,zrs g i C4 (λj D=>by have:=z (j+1) J;simpa [gs] using this) hw];simp
def zr0{i:Nat}(h:i+1<vS.length):vS.drop i=gs vS i::gs vS (i+1)::vS.drop (i+2):=by
 have g:=Xn (l:=vS) (n:=i) J;have j:=Xn h;rw[Ib J]at g j;rw[Iz J,Iz (J:i+1<vS.length),Option.some.inj g,Option.some.inj j]
def ztj{H:List Hl}{i:Nat}(h:i+1<H.length)(g:(gs H i).2≠(gs H (i+1)).1):H.take (i+1)++Se (H.drop (i+1))=H.take i++Se (H.drop i):=by
 have z:=Xn (l:=H) (n:=i) J;have A:H.drop (i+1)=gs H (i+1)::H.drop (i+2):=by
  have j:=Xn h;rw[Ib J]at j;rw[Iz (J:i+1<H.length),Option.some.inj j]
 rw[zr0 h]
 conv=>rhs;rw[Se]
 rw[Ii g,←A,Mg,z];simp
def zsy{H:List Hl}{i:Nat}(h:i+1<H.length)(j:(gs H i).2=(gs H (i+1)).1) :
  (((H.set i ((gs H i).1,(gs H (i+1)).2)).take (i+1)++(H.set i ((gs H i).1,(gs H (i+1)).2)).drop (i+1+1)).take i++Se (((H.set i ((gs H i).1,(gs H (i+1)).2)).take (i+1)++(H.set i ((gs H i).1,(gs H (i+1)).2)).drop (i+1+1)).drop i))=H.take i++Se (H.drop i):=by
 have z:(H.set i ((gs H i).1,(gs H (i+1)).2)).take (i+1)++(H.set i ((gs H i).1,(gs H (i+1)).2)).drop (i+1+1)=H.take i++((gs H i).1,(gs H (i+1)).2)::H.drop (i+2):=by
  rw[List.drop_set_of_lt J,Mg,Mt J,Ia J];simp
 rw[z,zr0 h]
 conv=>rhs;rw[Se]
 rw[Ij j];have g:(H.take i).length=i:=Cc
 rw[Li g,List.drop_left' g]
def zvy{H:List Hl}{i:Nat}(h:H.length≤i+1):H.take i++Se (H.drop i)=H:=by
 have g:Se (H.drop i)=H.drop i:=by
  match hd:H.drop i with
  |[]=>unfold Se;rfl
  |[x]=>unfold Se;rfl
  |x::y::l =>
   have:=congrArg List.length hd;rw[Jk]at this;simp at this;omega
 rw[g,Jr]
section
variable {f : Int → Int}
def uh(f:Int→Int)(l:List Int)(a b:Nat):Prop:=∀u v,a≤u→u<v→v<b→f (gd l u)≤f (gd l v)
def Ym(f:Int→Int)(l:List Int)(a i g:Nat):Prop:=∀u v,a≤u→u<v→v≤i→v≠g→f (gd l u)≤f (gd l v)
def Zb{l:List Int}{a i:Nat}(H:a<g)(I:g≤i)(hi:i<l.length)(A:Ym f l a i g)(G:f (gd l g)<f (gd l (g-1))):Ym f (xr l g) a i (g-1):=by
 intro u v E B C D;rw[zli J J,zli J J];by_cases j:v=g
 ·rw[Ij j];by_cases z:u=g-1
  ·rw[Ii J,Ij z];omega
  ·rw[Ii J,Ii z];exact A u (g-1) E J J J
 ·rw[Ii j,Ii D];by_cases F:u=g
  ·rw[Ij F];exact A (g-1) v J J C j
  ·rw[Ii F];by_cases z:u=g-1
   ·rw[Ij z];exact A g v J J C j
   ·rw[Ii z];exact A u v E B C j
def Y8{l:List Int}{a i:Nat}(B:g≤i)(z:Ym f l a i g)(h:g=a∨f (gd l (g-1))≤f (gd l g)):uh f l a (i+1):=by
 intro u v A j C;by_cases e:v=g
 ·subst e;rcases h with h|h
  ·omega
  ·by_cases e:u=v-1
   ·rw[e];exact h
   ·exact Mi (z u (v-1) A J J J) h
 ·exact z u v A j J e
def zus{l:List Int}{a i:Nat}(h:uh f l a i):Ym f l a i i:=λu v j g A z=>h u v j g J
def Z2{l:List Int}(H:0<g)(h:g<l.length):(xr l g).Perm l:=by
 have z:l=l.take (g-1)++gd l (g-1)::gd l g::l.drop (g+1):=by
  have A:=U7 (l:=l) (u:=g-1) J;have B:=U7 h;rw[Ib J]at A B;have j:l.drop (g-1)=l[g-1]::l[g]::l.drop (g+1):=by
   have:=Iz (l:=l) (i:=g) h;rw[Iz (J:g-1<l.length),(J:g-1+1=g),this]
  rw[←Option.some.inj A,←Option.some.inj B,←j,Jr]
 obtain⟨F,x,y,G,j,C,D,E⟩:∃(F:List Int) (x y:Int) (G:List Int),l=F++x::y::G∧F.length=g-1∧gd l (g-1)=x∧gd l g=y :=
  ⟨_,_,_,_,z,Cc,rfl,rfl⟩
 unfold xr;rw[D,E];clear D E z;subst j;rw[L3 _ _ J,C,(J:g-(g-1)=1)];rw[L3 _ _ J,C,Nat.sub_self];simp only[List.set_cons_succ,List.set_cons_zero];exact List.Perm.append_left _ (List.Perm.swap ..)
end
def ci{l:List Int}(h:l.Perm (Z.map λ(v:Nat)=>(v:Int))):∃o:List Nat,l=o.map (λ(v:Nat)=>(v:Int))∧o.Perm Z:=by
 refine⟨l.map Int.toNat,?_,?_⟩
 ·rw[List.map_map];refine (List.map_id l).symm.trans (List.map_congr_left λx g=>?_);obtain⟨v,_,rfl⟩:=Kh.1 (h.mem_iff.1 g);simp
 ·have:=h.map Int.toNat;rw[List.map_map]at this;refine this.trans (List.Perm.of_eq ?_);refine (List.map_congr_left λx _=>?_).trans (List.map_id Z);simp
def ac{f:Int→Int}{l:List Int}(h:uh f l 0 l.length):l.Pairwise λx y=>f x≤f y:=by
 rw[List.pairwise_iff_getElem];intro i z hi j g;have:=h i z J g j;simpa [gd,hi,j] using this
def Tb(vs:List Vr)(n:Nat):List Nat:=(List.range n).filter λv=>decide ((gv vs v).mode=0)
def zcz(vs:List Vr)(n:Nat):Tb vs (n+1)=Tb vs n++if (gv vs n).mode=0 then [n] else []:=by
 unfold Tb;rw[Mq,List.filter_append];by_cases h:(gv vs n).mode=0<;>simp[h]
def zbr{vs:List Vr}{n v:Nat}:v∈Tb vs n↔v<n∧(gv vs v).mode=0:=by simp[Tb]
def zep(vs:List Vr)(n:Nat):(Tb vs n).length≤n:=by
 have:=Lh (λv=>decide ((gv vs v).mode=0)) (List.range n);simpa [Tb] using this
def zm2(g:List Vr)(n:Nat):(Tb g n).Nodup:=(List.nodup_range (n:=n)).sublist List.filter_sublist
section
section del
variable {b : Nat} {G : M4} {v : LV} {n : Nat} {l : List LV}
def xp{i:Nat}{x:LV}(h:i<D.length):Nu D i [x]=D.set i x:=by
 unfold Nu;rw[J1,Ij h];simp
def N7.ixw1(h:N7 b G v 1 n l){i:Int}(h0:0≤i)(hi:i<n){K:LV→Prop}
  (k:∀(p gg:Nat) (R:List LV) (m st:Nat),Rs v=some p→G[p]?=some (.dyn R m 1 gg st)→i.toNat+1≤R.length→(∀(x:LV) (gj:Nat),x.dat=true→N7 b (G.set p (.dyn (Nu R i.toNat [x]) m 1 gg gj)) v 1 n (l.set i.toNat x))→K (.dptr p gg i.toNat)):Wh G 1 v i K:=by
 have key:∀(R:List LV) (x:LV),dats R=true→x.dat=true→i.toNat<R.length→dats (Nu R i.toNat [x])=true:=λR x hd hx _=>zga hd (by simp[dats,hx])
 rcases h with ⟨rfl,rfl,rfl⟩|⟨p,gg,R,m',st,h1,h2,h3,h4,rfl,hd,⟨rfl,rfl⟩|rfl⟩
 ·omega
 ·rw[zoj,h2];have hp:=(H7.1 h2).1;refine⟨rfl,rfl,h0,hi,?_⟩;rw[K0];refine k _ _ _ _ _ rfl h2 J λx gj hx=>.inr ⟨p,gg,_,_,_,h1,Ia hp,?_,If _,?_,key R x hd hx J,.inl ⟨rfl,rfl⟩⟩
  ·rw[xp J,Jz];exact h3
  ·rw[xp J,List.take_set]
 ·rw[zqx,h2];have hp:=(H7.1 h2).1;refine⟨rfl,rfl,h0,hi,?_⟩;rw[Jc,K0];refine k _ _ _ _ _ rfl h2 J λx gj hx=>.inr ⟨p,gg,_,_,_,h1,Ia hp,?_,h4,?_,key R x hd hx J,.inr rfl⟩
  ·rw[xp J,Jz];exact h3
  ·rw[xp J,List.take_set]
def zlu{g:LV}:∀n,(Ni [g] n).length=n
 |0=>rfl
 |n+1=>by simp[Ni,zlu n]
def zil{g:LV}(h:g.dat=true):∀n,dats (Ni [g] n)=true
 |0=>rfl
 |n+1=>by simp[Ni,dats,h,zil h n]
def N7.tail1(h:N7 b G v 1 n l){i:Nat}(hi:i≤n)(hr:Rs v≠none){lo:(Nat→Prop)→Prop}{gB:Nat→(Nat→Prop)→Prop}(gC:∀K':Nat→Prop,K' i→lo K')(gD:∀(K':Nat→Prop),K' n→gB n K'){K:LV→Prop}
  (k:∀(p gg:Nat) (R:List LV) (m st:Nat),Rs v=some p→G[p]?=some (.dyn R m 1 gg st)→i+(n-i)≤R.length→(∀(gj:Nat),N7 b (G.set p (.dyn (Nu R i (Ni [.i 0] (n-i))) m 1 gg gj)) v 1 n (l.take i++Ni [.i 0] (n-i)))→K (.vw p gg i (n-i))):Zq G 1 v lo gB K:=by
 have key:∀(R:List LV) (m:Nat),n≤R.length→(Nu R i (Ni [.i 0] (n-i))).length=R.length∧(Nu R i (Ni [.i 0] (n-i))).take n=(R.take n).take i++Ni [.i 0] (n-i):=by
  intro R m hR;unfold Nu;have e:(R.take i++Ni [LV.i 0] (n-i)).length=n:=by rw[Im,Iu,zlu];omega
  refine⟨?_,?_⟩
  ·rw[Im,e,Jk,zlu];omega
  ·rw[Li e,Lr,Jt hi]
 rcases h with ⟨rfl,rfl,rfl⟩|⟨p,gg,R,m',st,h1,h2,h3,h4,rfl,hd,⟨rfl,rfl⟩|rfl⟩
 ·exact absurd rfl hr
 ·rw[slL_dy,h2];have hp:=(H7.1 h2).1;refine⟨rfl,rfl,gC _ (gD _ ⟨J,If _,?_⟩)⟩;obtain⟨k1,k2⟩:=key R n J;refine k _ _ _ _ _ rfl h2 J λgj=>.inr ⟨p,gg,_,_,_,h1,Ia hp,by rw[k1];exact h3,If _,by rw[K0,k2],zga hd (zil rfl _),.inl ⟨rfl,rfl⟩⟩
 ·rw[slL_vw,h2];have hp:=(H7.1 h2).1;refine⟨rfl,rfl,gC _ (gD _ ⟨J,If _,?_⟩)⟩;obtain⟨k1,k2⟩:=key R m' J;rw[Jc];refine k _ _ _ _ _ rfl h2 J λgj=>.inr ⟨p,gg,_,_,_,h1,Ia hp,by rw[k1];exact h3,h4,by rw[K0,k2],zga hd (zil rfl _),.inr rfl⟩
end del
end
section
def zvp{f:v8→List LV}{k:Nat}(g:∀a,(f a).length=k){l:List v8}{i:Nat}(x:v8)(h:i<l.length):Nu (l.flatMap f) (i*k) (f x)=(l.set i x).flatMap f:=by
 unfold Nu;rw[g,ry g,(Ey:i*k+k=(i+1)*k),x9 g,J1,Ij h,List.flatMap_append,Kc,I0]
def joinL_len:∀(n:Nat) (j:List Hl),j.length≤n→(Se j).length≤j.length
 |_,[],_=>by unfold Se;exact If _
 |_,[x],_=>by unfold Se;exact If _
 |0,_::_::_,g=>by simp at g
 |n+1,(A,C)::(B,z)::j,g=>by
  unfold Se;split
  ·have:=joinL_len n ((A,z)::j) (by simp at g ⊢;omega);simp at this ⊢;omega
  ·have:=joinL_len n ((B,z)::j) (by simp at g ⊢;omega);simp at this ⊢;omega
def zv3(i j:Nat)(h:Hl)(g:List Hl):(jk i j h g).length≤g.length+1:=by
 unfold jk;have e:(g.take i++h::g.drop i).length=g.length+1:=Ab
 have:=joinL_len _ ((g.take i++h::g.drop i).drop j) (If _);rw[Im,Iu];rw[Jk]at this;omega
def zn6{n:Int}:∀(j:List Hl) (a:Int) (g:List Hl),Wg n j=some (a,g)→g.length≤j.length
 |[],_,_,h=>Am
 |(x,y)::j,a,g,h=>by
  unfold Wg at h;split at h
  ·split at h
   ·cases h
   ·rename_i r z;simp only[Option.some.injEq,Prod.mk.injEq]at h;obtain⟨rfl,rfl⟩:=h;have:=zn6 j r.1 r.2 z;simp;exact this
  ·simp only[Option.some.injEq,Prod.mk.injEq]at h;obtain⟨_,rfl⟩:=h;split<;>simp
def zyg(n:Int)(s:St):(Pk n s).2.holes.length≤s.holes.length:=by
 unfold Pk;split
 ·rename_i a g e;exact zn6 _ _ _ e
 ·exact If _
def zp0{l:List Int}(h:∀x∈l,0≤x)(t:Nat):(l.take t).sum≤l.sum:=by
 have e:(l.take t++l.drop t).sum=l.sum:=by rw[Jr]
 rw[List.sum_append]at e;have:∀m:List Int,(∀x∈m,0≤x)→0≤m.sum:=by
  intro m
  induction m with
  |nil=>intro _;simp
  |cons y m j =>
   intro hm;have:=j λx g=>hm x (Jg _ g)
   have:=hm y (Kj ..);simp;omega
 have:=this (l.drop t) λx g=>h x (J5 g)
 omega
def zr7{l m:List Int}(h:l.Perm m):l.sum=m.sum:=by
 induction h with
 |nil=>rfl
 |cons x _ g=>simp[g]
 |swap x y l=>simp;omega
 |trans _ _ j z=>exact j.trans z
section pl
variable {wk : Bool → Int} {a b Nm : Nat → Int} {sec : Nat → Bool} {done busy : List Nat} {iv : Nat → Hl} {ps : Bool → St} {cur cur' : Int}
def Plan0.raise(h:Plan0 wk a b Nm sec done busy iv ps cur)(hc:cur≤cur'):Plan0 wk a b Nm sec done busy iv ps cur' :=
 ⟨h.ok,h.wide,h.nd,h.sub,λv hv hn=>Int.lt_of_lt_of_le (h.over v hv hn) hc,h.pairs,h.inn,h.sz⟩
def Plan0.hole(h:Plan0 wk a b Nm sec done busy iv ps cur)(s:Bool){x:Hl}(hx:x∈(ps s).holes):0≤x.1∧x.1<x.2∧x.2≤(ps s).size:=(h.ok s).2.2 _ (by simp[hx])
def zbp(ps:Bool→St)(s:Bool)(x:St):Sm ps s x s=x:=by simp[Sm]
def zgc(ps:Bool→St){s t:Bool}(x:St)(h:t≠s):Sm ps s x t=ps t:=by simp[Sm,h]
def oj(done busy:List Nat)(ps:Bool→St):Prop:=∀s,(ps s).holes.length+busy.length≤done.length
def oj.give{x y:List Nat}{v:Nat}(h:oj done (x++v::y) ps)(s:Bool)(i j:Nat)(q:Hl)(z:Int):oj done (x++y) (Sm ps s ⟨jk i j q (ps s).holes,z⟩):=by
 intro t;have:=h t;simp at this;by_cases e:t=s
 ·subst e;rw[zbp];have:=zv3 i j q (ps t).holes;dsimp only;simp;omega
 ·rw[zgc _ _ e];simp;omega
def oj.take{v:Nat}(h:oj done busy ps)(s:Bool)(n:Int):oj (done++[v]) (busy++[v]) (Sm ps s (Pk n (ps s)).2):=by
 intro t;have:=h t;by_cases e:t=s
 ·subst e;rw[zbp];have:=zyg n (ps t);simp;omega
 ·rw[zgc _ _ e];simp;omega
def zpa{l:List Pc}{i:Nat}(h:i<l.length)(x:Pc)(g:Nat):Of (l.set i x) g=if g=i then x else Of l g:=by
 unfold Of;rw[Ie,L4];by_cases e:i=g
 ·subst e;simp[h]
 ·rw[Ii e,Ii (λq=>e q.symm),Ie]
def jv{l m:List Pc}(h:l.length=m.length)(j:∀i,i<l.length→Of l i=Of m i):l=m:=by
 refine List.ext_getElem h λi g z=>?_
 have:=j i g;simpa [Of,g,z] using this
def m9(vs:List Vr)(r:Nat)(iv:Nat→Hl):(Uc vs r iv).length=vs.length:=by simp[Uc]
def zp8{Nm:Nat→Int}{sec:Nat→Bool}{i:Nat}(h:(i:Int)<A):S8 A iv Nm sec i=⟨i,0,Nm i⟩:=by unfold S8;rw[Ij h]
def zlt{Nm:Nat→Int}{sec:Nat→Bool}{i:Nat}(h:¬(i:Int)<A):S8 A iv Nm sec i=⟨A+(if sec i=true then 1 else 0),(iv i).1,Nm i⟩:=by unfold S8;rw[Ii h]
def js{Nm:Nat→Int}{sec:Nat→Bool}{i v:Nat}{x:Hl}(h:i≠v):S8 A (Xe iv v x) Nm sec i=S8 A iv Nm sec i:=by
 unfold S8;split
 ·rfl
 ·simp[Xe,h]
end pl
end
def iu(w:Bool→Int)(c:Bool)(n:Int):Bool→Int:=λe=>if e=c then max (w e) n else w e
def Rm(N:Ko→Int)(g:Ko→Bool):(Bool→Int)→List Ko→(Bool→Int)×Bool
 |w,[]=>(w,true)
 |w,o::l=>if o.d<0 then Rm N g w l else if N o=0 then (w,false) else Rm N g (iu w (!g o) (N o)) l
def mz:Bool→Int:=λ_=>1
def zb0(N:Ko→Int)(g:Ko→Bool):∀(l:List Ko) (w:Bool→Int) (c:Bool),w c≤(Rm N g w l).1 c
 |[],_,_=>K6 _
 |o::l,w,c=>by
  unfold Rm;split
  ·exact zb0 N g l w c
  ·split
   ·exact K6 _
   ·refine Mi ?_ (zb0 N g l _ c);unfold iu;split<;>omega
def zlg(N:Ko→Int)(g:Ko→Bool){m:Int}(j:∀o,N o≤m):∀(l:List Ko) (w:Bool→Int),(∀c,w c≤m)→∀c,(Rm N g w l).1 c≤m
 |[],_,h,c=>h c
 |o::l,w,h,c=>by
  unfold Rm;split
  ·exact zlg N g j l w h c
  ·split
   ·exact h c
   ·refine zlg N g j l _ (λe=>?_) c;have:=h e;have:=j o;unfold iu;split<;>omega
def zlp(N:Ko→Int)(g:Ko→Bool):∀(l:List Ko) (w:Bool→Int),(Rm N g w l).2=true→∀o∈l,0≤o.d→N o≠0∧N o≤(Rm N g w l).1 (!g o)
 |[],_,_,_,h,_=>Am
 |o::l,w,j,x,z,hd=>by
  unfold Rm at j ⊢;split at j
  ·rename_i A;rw[Ij A];rcases Ik.1 z with rfl|z
   ·omega
   ·exact zlp N g l w j x z hd
  ·rename_i A;rw[Ii A];split at j
   ·cases j
   ·rename_i B;rw[Ii B];rcases Ik.1 z with rfl|z
    ·refine⟨B,Mi ?_ (zb0 N g l _ _)⟩;unfold iu;rw[Ij rfl];omega
    ·exact zlp N g l _ j x z hd
section
section those
variable {p : Vr → Bool} {vs : List Vr}
def those_at:∀(n g:Nat),g<n→p (gv vs g)=true→(Q8 p vs g).length<(Q8 p vs n).length∧(Q8 p vs n).getD (Q8 p vs g).length 0=g
 |0,g,h,_=>J
 |n+1,g,h,j=>by
  rw[fp];by_cases q:g<n
  ·obtain⟨a,b⟩:=those_at n g q j;refine⟨by rw[Im];omega,?_⟩;rw[Ie,Ic a,←Ie];exact b
  ·have:g=n:=J
   subst this;rw[Ij j];refine⟨N,?_⟩;rw[Ie,Iq (If _)];simp
end those
def Si(vs:List Vr)(g:UInt64)(j:List (List UInt64))(z:Nat):List UInt64 :=
 if (gv vs z).mode=3 then List.replicate (gv vs z).limbs.toNat g else N4 (j.getD (Q8 Ob vs z).length []) (gv vs z).limbs
def bw(vs:List Vr)(g:Nat)(j:UInt64)(z B:List (List UInt64)):Prop :=
 B.length=g+2∧(∀A,A<g→B.getD A []=Si vs j z A)∧∀A,g≤A→B.getD A []=[]
def dj(vs:List Vr)(g:Nat)(j:UInt64)(z:List (List UInt64)):List (List UInt64):=(List.range (g+2)).map λA=>if A<g then Si vs j z A else []
def yx(vs:List Vr)(g:Nat)(j:UInt64)(z:List (List UInt64)):(dj vs g j z).length=g+2:=by simp[dj]
def zra{vs:List Vr}{z:List (List UInt64)}(h:j<g+2):(dj vs g v9 z)[j]?=some (if j<g then Si vs v9 z j else []):=by simp[dj,h]
def bw.eq{vs:List Vr}{base:Nat}{fill:UInt64}{ins L:List (List UInt64)}(h:bw vs base fill ins L):L=dj vs base fill ins:=by
 obtain⟨h1,h2,h3⟩:=h;refine Mh λj=>?_
 by_cases hj:j<base+2
 ·rw[zra hj,Ib J]
  congr 1
  have e : L[j]' J = L.getD j [] := by rw [Ie, Ib J];rfl
  rw[e];by_cases q:j<base
  ·rw[Ij q,h2 j q]
  ·rw[Ii q,h3 j J]
 ·rw[Kf J,Kf (by rw[yx];omega)]
def zve{x:List UInt64}{n:Int}(g:1≤n∧n≤512)(h:val x<da n):Og x n=0:=by
 unfold Og;rw[Ii J,Ii];have:=(zlb (val x) n J).2 h;omega
def zui(x:List UInt64)(n:Int):(N4 x n).length≤512:=by
 by_cases h:Og x n=0
 ·have:=zcl h;omega
 ·unfold N4;rw[Ii h];simp
end
noncomputable section
def U8(s:List UInt8):Nat→UInt64
 |0=>0
 |d+1=>Sg (S4 (U8 s d) 8) (bU (s.getD (7-d) 0))
def zm8(s:List UInt8):∀d,d≤8→(U8 s d).toNat*2^(8*(8-d))+(Qw s (8-d)).toNat=(Qw s 8).toNat∧(U8 s d).toNat<2^(8*d)
 |0,_=>by simp[U8]
 |d+1,h=>by
  obtain⟨D,E⟩:=zm8 s d J;have F:=(s.getD (7-d) 0).toNat_lt;have j:=zjl s (7-d) J (zsf s (7-d) J);rw[(J:7-d+1=8-d)]at j;have z:2^(8*(d+1))≤2^64:=Ll Ad J;have g:2^(8*(d+1))=2^(8*d)*256:=by rw[show 8*(d+1)=8*d+8 from rfl,Nat.pow_add]
  have G:(UInt64.ofNat (s.getD (7-d) 0).toNat).toNat=(s.getD (7-d) 0).toNat:=Ma (Ix F Ad);rw[g]at z;have A:(U8 s d).toNat*256+(s.getD (7-d) 0).toNat<2^(8*d)*256:=by
   generalize 2^(8*d)=M at E ⊢;omega
  have B:(U8 s d).toNat*256+(s.getD (7-d) 0).toNat<2^64:=Ix A z;have H:(U8 s d).toNat*2^8<2^64:=Nat.lt_of_le_of_lt (Nat.le_add_right _ _) B;have I:(S4 (U8 s d) 8).toNat=(U8 s d).toNat*256:=by
   rw[zqc,Ma H]
  have K:(bU (s.getD (7-d) 0)).toNat=(s.getD (7-d) 0).toNat:=by rw[bt,G]
  have C:(U8 s (d+1)).toNat=(U8 s d).toNat*256+(s.getD (7-d) 0).toNat:=by
   show (Sg (S4 (U8 s d) 8) (bU (s.getD (7-d) 0))).toNat=_;rw[zi6,UInt64.toNat_add,I,K,J8 B]
  refine⟨?_,by rw[C,g];exact A⟩;rw[C,(J:8-(d+1)=7-d),←D,j];have L:2^(8*(8-d))=256*2^(8*(7-d)):=by rw[(J:8*(8-d)=8*(7-d)+8),Nat.pow_add,L9]
  rw[L]
  grind
def zu4(s:List UInt8):U8 s 8=Qw s 8:=by
 have:=(zm8 s 8 (If _)).1;apply Jj.1;simpa [Qw] using this
def Ue(b:List UInt8):List UInt64:=Oe (val (Wk b (b.length/8)))
def Qr:Nat→List UInt8→Option (List (List UInt64))
 |0,s=>if s=[] then some [] else none
 |k+1,s=>if s=[] then some [] else if s.length<8 then none else if 512<Qw (s.take 8) 8∨(s.drop 8).length<8*(Qw (s.take 8) 8).toNat then none else
   (Qr k ((s.drop 8).drop (8*(Qw (s.take 8) 8).toNat))).map λl=>Ue ((s.drop 8).take (8*(Qw (s.take 8) 8).toNat))::l
def Rc(s:List UInt8):List (List UInt64):=(Qr s.length s).getD []
def rowE(s:List UInt8):Int:=if (Qr s.length s).isSome=true then 0 else 2
def rowF_small:∀(k:Nat) (s:List UInt8) (l:List (List UInt64)),Qr k s=some l→l.length≤s.length∧∀x∈l,x.length≤s.length
 |0,s,l,h=>by
  unfold Qr at h;split at h
  ·cases h;simp
  ·cases h
 |k+1,s,l,h=>by
  unfold Qr at h;split at h
  ·cases h;simp
  ·split at h
   ·cases h
   ·split at h
    ·cases h
    ·rename_i A B C;cases g:Qr k ((s.drop 8).drop (8*(Qw (s.take 8) 8).toNat)) with
     |none=>rw[g]at h;cases h
     |some m =>
      rw[g]at h;simp only[Jw,Option.some.injEq]at h;subst h;obtain⟨D,z⟩:=rowF_small k _ m g;have hd:((s.drop 8).drop (8*(Qw (s.take 8) 8).toNat)).length≤s.length-8:=Ab
      refine⟨Ab,λx j=>?_⟩;rcases Ik.1 j with rfl|j
      ·unfold Ue;refine I1 (en _) ?_;rw[o9];simp;omega
      ·have:=z x j;omega
def zjf(s:List UInt8):(Rc s).length≤s.length∧∀x∈Rc s,x.length≤s.length:=by
 unfold Rc;cases h:Qr s.length s with
 |none=>simp
 |some l=>exact rowF_small _ _ _ h
def Rd(s g:List UInt8)(l:List (List UInt64)):Prop:=∃k,g.length≤k∧Qr s.length s=(Qr k g).map (l++·)
def Rd.start(s:List UInt8):Rd s s []:=⟨s.length,If _,by cases Qr s.length s<;>simp⟩
def Rd.fin{s:List UInt8}{l:List (List UInt64)}(h:Rd s [] l):Rc s=l∧rowE s=0:=by
 obtain⟨k,_,h⟩:=h;have:Qr k []=some []:=by cases k<;>simp[Qr]
 rw[this]at h;simp[Rc,rowE,h]
def Rd.short{s out:List UInt8}{l:List (List UInt64)}(h:Rd s out l)(h0:out≠[])(h8:out.length<8):Rc s=[]∧rowE s=2:=by
 obtain⟨k,hk,h⟩:=h;cases k with
 |zero=>exact absurd (Is J) h0
 |succ k =>
  rw[Qr,Ii h0,Ij h8]at h;simp[Rc,rowE,h]
def Rd.bad{s out:List UInt8}{l:List (List UInt64)}(h:Rd s out l)(h0:out≠[])(h8:¬out.length<8)(hb:512<Qw (out.take 8) 8∨(out.drop 8).length<8*(Qw (out.take 8) 8).toNat):Rc s=[]∧rowE s=2:=by
 obtain⟨k,hk,h⟩:=h;cases k with
 |zero=>exact absurd (Is J) h0
 |succ k =>
  rw[Qr,Ii h0,Ii h8,Ij hb]at h;simp[Rc,rowE,h]
def Rd.next{s out:List UInt8}{l:List (List UInt64)}(h:Rd s out l)(h0:out≠[])(h8:¬out.length<8)(hb:¬(512<Qw (out.take 8) 8∨(out.drop 8).length<8*(Qw (out.take 8) 8).toNat)) :
  Rd s ((out.drop 8).drop (8*(Qw (out.take 8) 8).toNat)) (l++[Ue ((out.drop 8).take (8*(Qw (out.take 8) 8).toNat))]):=by
 obtain⟨k,hk,h⟩:=h;cases k with
 |zero=>exact absurd (Is J) h0
 |succ k =>
  rw[Qr,Ii h0,Ii h8,Ii hb]at h;refine⟨k,Ab,?_⟩;rw[h];cases Qr k ((out.drop 8).drop (8*(Qw (out.take 8) 8).toNat))<;>simp
end
end Go.Sv
