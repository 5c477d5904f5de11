/- Texts of the evaluator, of the logic over it, of plain arithmetic. -/
import Derived.Test.YtodjkjimaheggaaGreatSvG2
set_option linter.unusedSimpArgs false
set_option linter.defProp false
namespace Go.Sv
variable{g j A D Q vU vI vj:Nat}{z B:Int}{R:Bool}{U vE:UInt64}{vQ:Type}{vL:List Int}{vB:List Nat}
def zwh{j:Type}{f:j→List LV}{k:Nat}(g:∀a,(f a).length=k):∀l:List j,(l.flatMap f).length=l.length*k
 |[]=>N
 |a::l=>by rw[Kx,H9,zwh g l,g,Ig,Iu];omega
def zzb{j:Type}{f:j→List LV}{k:Nat}(g:∀a,(f a).length=k):∀(l:List j) (i:Nat),(l.flatMap f).drop (i*k)=(l.drop i).flatMap f
 |_,0=>N
 |[],i+1=>N
 |a::l,i+1=>by
  rw[Kx,List.drop_append,g,show (i+1)*k-k=i*k by rw[Iu];omega,zzb g l i];rw[J0 (by rw[g,Iu];omega)];rfl
def zcz{f:vQ→List LV}{k:Nat}(g:∀a,(f a).length=k){l:List vQ}{i:Nat}{a:vQ}(h:l[i]?=some a):((l.flatMap f).drop (i*k)).take k=f a:=by
 rw[zzb g];obtain⟨hi,rfl⟩:=Hu.1 h;rw[Jr hi,Kx,Mi (by rw[g];exact Ia _),Im (by rw[g];exact Ia _)]
def zuq{f:vQ→List LV}{k:Nat}(g:∀a,(f a).length=k){l:List vQ}{i:Nat}{a:vQ}(h:l[i]?=some a){j:Nat}(z:j<k):(l.flatMap f)[i*k+j]?=(f a)[j]?:=by
 rw[←M2,←zcz g h,Ju z]
def zak{j:Type}{f:j→List LV}(g:∀a,dats (f a)=true):∀l:List j,dats (l.flatMap f)=true
 |[]=>rfl
 |a::l=>by rw[Kx];exact dats_app (g a) (zak g l)
def zty{f:vQ→List LV}{k:Nat}(g:∀a,(f a).length=k){l:List vQ}{i:Nat}(h:i<l.length):i*k+k≤(l.flatMap f).length:=by
 rw[zwh g,←L7];exact Ii _ h
structure Vr where
 limbs:Int
 sec:Bool
 mode:Int
structure Ko where
 kind:Int
 d:Int
 e:Int
 a:Int
 b:Int
 c:Int
 imm:UInt64
def Vr.f(v:Vr):List LV:=[.i v.limbs,.bool v.sec,.i v.mode]
def Ko.f(o:Ko):List LV:=[.i o.kind,.i o.d,.i o.e,.i o.a,.i o.b,.i o.c,.u o.imm]
def N0(l:List Vr):List LV:=l.flatMap Vr.f
def U2(l:List Ko):List LV:=l.flatMap Ko.f
def Vr.f_len(v:Vr):v.f.length=3:=rfl
def Ko.f_len(o:Ko):o.f.length=7:=rfl
def osC_len(l:List Ko):(U2 l).length=l.length*7:=zwh Ko.f_len l
def Rg(l:List Vr):dats (N0 l)=true:=zak (λ_=>rfl) l
def zdm(l:List Ko):dats (U2 l)=true:=zak (λ_=>rfl) l
def zdg{l:List Vr}{i:Nat}{v:Vr}(h:l[i]?=some v):((N0 l).drop (i*3)).take 3=v.f:=zcz Vr.f_len h
def zxf{l:List Ko}{i:Nat}{v:Ko}(h:l[i]?=some v):((U2 l).drop (i*7)).take 7=v.f:=zcz Ko.f_len h
def sn{l:List Vr}{i:Nat}{v:Vr}(h:l[i]?=some v):(N0 l)[i*3]?=some (.i v.limbs):=by have:=zuq Vr.f_len h (j:=0) J;simpa [N0,Vr.f] using this
def zkw{l:List Vr}{i:Nat}{v:Vr}(h:l[i]?=some v):(N0 l)[i*3+1]?=some (.bool v.sec):=by have:=zuq Vr.f_len h (j:=1) J;simpa [N0,Vr.f] using this
def oc{l:List Vr}{i:Nat}{v:Vr}(h:l[i]?=some v):(N0 l)[i*3+2]?=some (.i v.mode):=by have:=zuq Vr.f_len h (j:=2) J;simpa [N0,Vr.f] using this
def rh{l:List Vr}{i:Nat}(h:i<l.length):i*3+3≤(N0 l).length:=zty Vr.f_len h
def os_lt{l:List Ko}{i:Nat}(h:i<l.length):i*7+7≤(U2 l).length:=zty Ko.f_len h
def gv(l:List Vr)(n:Nat):Vr:=l.getD n ⟨0,false,0⟩
def go(l:List Ko)(n:Nat):Ko:=l.getD n ⟨0,0,0,0,0,0,0⟩
def gb(l:List Bool)(n:Nat):Bool:=l.getD n false
def Tw{l:List Vr}{n:Nat}(h:n<l.length):l[n]?=some (gv l n):=by simp[gv,Hv,h]
def Xm{l:List Ko}{n:Nat}(h:n<l.length):l[n]?=some (go l n):=by simp[go,Hv,h]
def at_gb{l:List Bool}{n:Nat}(h:n<l.length):l[n]?=some (gb l n):=by simp[gb,Hv,h]
def zox{l:List Vr}{n:Nat}(h:n<l.length):l.drop n=gv l n::l.drop (n+1):=by
 rw[Jr h];congr 1;have:=Tw h;rw[H6 h]at this;exact Option.some.inj this
def drop_go{l:List Ko}{n:Nat}(h:n<l.length):l.drop n=go l n::l.drop (n+1):=by
 rw[Jr h];congr 1;have:=Xm h;rw[H6 h]at this;exact Option.some.inj this
def Sd(v:Vr):Bool:=decide (v.mode=1) || decide (v.mode=2)
def Vu(v:Vr):Bool:=decide (v.limbs<1) || (decide (512<v.limbs) || (decide (v.mode<0) || decide (3<v.mode)))
def R9:Nat→Nat→List Vr→Option Nat
 |_,p,[]=>some p
 |i,p,v::l=>if Vu v=true then none else if v.mode=0 then R9 (i+1) p l else if p<i∨v.sec=decide (v.mode=1) then none else R9 (i+1) (p+1) l
def Rb(l:List Vr):Bool:=match R9 0 0 l with
 |none=>false
 |some p=>decide (1≤l.length)&&(decide (l.length≤256)&&decide (p≤12))
def Rz(n:Nat)(v:Int):Bool:=decide (0≤v)&&decide (v<n)
def Sr(n:Nat)(o:Ko):Bool :=
 decide (o.d=-1)&&(decide (o.e=-1)&&(decide (o.c=-1)&&(Rz n o.a&&(if o.imm=2 then Rz n o.b else (decide (o.imm=1) || decide (o.imm=3))&&decide (o.b=-1)))))
def Pz(k:Int):Option Nat :=
 if k=1 then some 1 else if k=2 then some 5 else if k=3∨k=4∨k=5∨k=6∨k=7 then some 13 else if k=8∨k=10∨k=11∨k=12∨k=13 then some 29 else if k=9 then some 21 else if k=14 then some 19 else if k=15∨k=16 then some 0 else none
def Q8(o:Ko):Bool:=if o.kind=1 then true else if o.kind=13 then decide (1≤o.imm)&&decide (o.imm≤6) else if o.kind=15 then decide (1≤o.imm)&&decide (o.imm≤4096) else decide (o.imm=0)
def Rv(n s i:Nat)(v:Int):Bool:=if s.testBit i=true then Rz n v else decide (v=-1)
def T7(n s:Nat)(o:Ko):Bool:=Rv n s 0 o.d&&(Rv n s 1 o.e&&(Rv n s 2 o.a&&(Rv n s 3 o.b&&Rv n s 4 o.c)))
def T8(o:Ko):List Int:=[o.a,o.b,o.c].filter (λv=>!decide (v<0))++if o.kind=14 then [o.d,o.e] else []
def O7(g:List Vr)(o:Ko):Bool:=(T8 o).any λv=>(gv g v.toNat).sec
def Su(j:List Vr)(g:Bool)(v:Int):Bool:=decide (v<0) || !(Sd (gv j v.toNat) || (g && !(gv j v.toNat).sec))
def Qq(o:Ko):List Int :=
 if o.kind=6 then [o.a,o.b] else if o.kind=14 then [o.d,o.e] else if o.kind=8 then [o.d,o.a,o.b] else if o.kind=9 then [o.d,o.c] else if o.kind=10∨o.kind=11∨o.kind=12 then [o.d,o.a,o.b,o.c] else if o.kind=13 then [o.d,o.a,o.c] else []
def Qd(vs:List Vr)(v:Int):Int:=(gv vs v.toNat).limbs
def mi(g:List Vr)(o:Ko):Bool:=(Qq o).all λv=>decide (Qd g v=Qd g ((Qq o).headD 0))
def Og(vs:List Vr)(o:Ko):Bool :=
 if o.kind=17 then Sr vs.length o else match Pz o.kind with
 |none=>false
 |some s=>Q8 o&&(T7 vs.length s o&&(Su vs (O7 vs o) o.d&&(Su vs (O7 vs o) o.e&&((decide (o.e<0) || !decide (o.d=o.e))&&mi vs o))))
def dl(k:Int):Int:=if k=15 then 1 else if k=16 then -1 else 0
def Y1(m:List Bool)(o:Ko):List Bool:=if 0≤o.d then m.set o.d.toNat true else m
def zi8(m:List Bool)(o:Ko):Bool:=(T8 o).all λv=>gb m v.toNat
def Vi(j:List Vr):List Bool→Int→List Ko→Option (List Bool×Int)
 |m,g,[]=>some (m,g)
 |m,g,o::l=>if (Og j o&&(zi8 m o&&(decide (0≤g+dl o.kind)&&decide (g+dl o.kind≤4))))=true then Vi j (Y1 m o) (g+dl o.kind) l else none
def Vb(g:List Vr)(v:Int):Bool:=decide (0≤v)&&decide ((gv g v.toNat).mode=3)
def Tv(g:List Vr)(o:Ko):Bool:=decide (o.kind=17)&&(Sr g.length o&&(!Vb g o.a && !Vb g o.b))
def xb(g:List Vr)(m:List Bool):Bool:=(List.range g.length).all λi=>!decide ((gv g i).mode=3) || gb m i
def fi(g:List Vr):List Bool:=g.map Sd
def S9(g:List Vr)(j z:List Ko):Bool :=
 Rb g&&(decide (j.length≤4096)&&(decide (z.length≤4096)&&(z.all (Tv g)&&(match Vi g (fi g) 0 j with
  |none=>false
  |some (m,A)=>xb g m&&decide (A=0)))))
def Vd(g:List Vr)(j z:List Ko):Int:=if S9 g j z=true then 0 else 2
def ztc{p:Int→Bool}{l:List Int}{j:Nat}(h:j<l.length):(l.take (j+1)).filter (λv=>!p v)=(l.take j).filter (λv=>!p v)++if p (gd l j)=true then [] else [gd l j]:=by
 have e:l[j]=gd l j:=by simp[gd,Hv,h]
 rw[Jg h,List.filter_append,e]
 congr 1
 cases g:p (gd l j)<;>simp[g]
def ff(p:Int→Bool)(l:List Int):(mb p l=-1∧l.filter (λv=>!p v)=l)∨∃i:Nat,mb p l=i∧i<l.length∧(l.take (i+1)).filter (λv=>!p v)=l.take i:=by
 unfold mb;by_cases h:l.findIdx p<l.length
 ·rw[H7 h];refine .inr ⟨_,rfl,h,?_⟩;have j:p l[l.findIdx p]=true:=List.findIdx_getElem;have e:l[l.findIdx p]=gd l (l.findIdx p):=by simp[gd,Hv,h]
  rw[ztc h,←e,H7 j,Jp,List.filter_eq_self];intro a g;obtain⟨B,z,rfl⟩:=J6.1 g;rw[List.getElem_take];rw[J4]at z;have:=List.not_of_lt_findIdx (p:=p) (xs:=l) (i:=B) J;simpa using this
 ·rw[Hx h];refine .inl ⟨rfl,?_⟩;rw[List.filter_eq_self];intro a g;have A:=List.findIdx_eq_length.1 (Dz:l.findIdx p=l.length);simp[A a g]
def zun{c:List Int}{i j:Nat}{x:Int}(h:i<c.length)(g:i<j)(u:Nat)(hu:j≤u):gd (c.set i x) u=gd c u:=by
 rw[gd_set _ _ _ _ h,Hx J]
def zoc{c:List Int}{i:Nat}{x:Int}(h:i<c.length):(c.set i x).take (i+1)=c.take i++[x]:=by
 rw[Jg Ax,List.getElem_set_self,List.take_set_of_le (Ia _)]
def lf{n:Nat}{v:Int}:Rz n v=true↔0≤v∧v<n:=by simp[Rz]
def zc3{n s i:Nat}{v:Int}(h:Rv n s i v=true):v=-1∨(0≤v∧v<n):=by
 unfold Rv at h;split at h
 ·exact .inr (lf.1 h)
 ·exact .inl (Ka h)
def T5{n s i:Nat}{v:Int}(h:Rv n s i v=true)(g:s.testBit i=true):0≤v∧v<n:=by
 rw[Rv,H7 g]at h;exact lf.1 h
def zky{n s i:Nat}{v:Int}(h:Rv n s i v=true)(g:s.testBit i=false):v=-1:=by
 rw[Rv,Hx Av]at h;exact Ka h
def zen{k:Int}{s:Nat}(h:Pz k=some s):(k=1∧s=1)∨(k=2∧s=5)∨((k=3∨k=4∨k=5∨k=6∨k=7)∧s=13)∨((k=8∨k=10∨k=11∨k=12∨k=13)∧s=29)∨(k=9∧s=21)∨(k=14∧s=19)∨((k=15∨k=16)∧s=0):=by
 unfold Pz at h
 repeat' split at h
 all_goals first|(cases h;done)|(cases h;simp_all)
structure PartsIn (n:Nat) (o:Ko):Prop where
 d:o.d=-1∨(0≤o.d∧o.d<n)
 e:o.e=-1∨(0≤o.e∧o.e<n)
 takes:∀v∈T8 o,0≤v∧v<n
 alike:∀v∈Qq o,0≤v∧v<n
 swap:o.kind=14→o.a=-1∧o.b=-1
def zpt{n s:Nat}{o:Ko}(E:Pz o.kind=some s)(h:T7 n s o=true):PartsIn n o:=by
 simp only[T7,Hy]at h;obtain⟨hd,he,A,B,C⟩:=h;have z:∀v∈[o.a,o.b,o.c].filter (λv=>!decide (v<0)),0≤v∧v<n:=by
  intro v hv;obtain⟨j,F⟩:=List.mem_filter.1 hv;simp at F;simp only[If,J9,L6]at j;rcases j with rfl|rfl|rfl
  ·rcases zc3 A with e|e<;>omega
  ·rcases zc3 B with e|e<;>omega
  ·rcases zc3 C with e|e<;>omega
 have G:=zen E;refine⟨zc3 hd,zc3 he,λv hv=>?_,λv hv=>?_,λD=>?_⟩
 ·rcases Ir.1 hv with j|j
  ·exact z v j
  ·split at j
   ·rename_i D;have g:s=19:=J
    subst g;simp only[If,J9,L6]at j;rcases j with rfl|rfl
    ·exact T5 hd Ac
    ·exact T5 he Ac
   ·cases j
 ·unfold Qq at hv;split at hv
  ·have g:s=13:=J
   subst g;simp only[If,J9,L6]at hv;rcases hv with rfl|rfl
   ·exact T5 A Ac
   ·exact T5 B Ac
  split at hv
  ·have g:s=19:=J
   subst g;simp only[If,J9,L6]at hv;rcases hv with rfl|rfl
   ·exact T5 hd Ac
   ·exact T5 he Ac
  split at hv
  ·have g:s=29:=J
   subst g;simp only[If,J9,L6]at hv;rcases hv with rfl|rfl|rfl
   ·exact T5 hd Ac
   ·exact T5 A Ac
   ·exact T5 B Ac
  split at hv
  ·have g:s=21:=J
   subst g;simp only[If,J9,L6]at hv;rcases hv with rfl|rfl
   ·exact T5 hd Ac
   ·exact T5 C Ac
  split at hv
  ·have g:s=29:=J
   subst g;simp only[If,J9,L6]at hv;rcases hv with rfl|rfl|rfl|rfl
   ·exact T5 hd Ac
   ·exact T5 A Ac
   ·exact T5 B Ac
   ·exact T5 C Ac
  split at hv
  ·have g:s=29:=J
   subst g;simp only[If,J9,L6]at hv;rcases hv with rfl|rfl|rfl
   ·exact T5 hd Ac
   ·exact T5 A Ac
   ·exact T5 C Ac
  ·cases hv
 ·have g:s=19:=J
  subst g;exact⟨zky A Ac,zky B Ac⟩
def zzu{n:Nat}{o:Ko}(C:o.kind=17)(h:Sr n o=true):PartsIn n o:=by
 simp only[Sr,Hy,Ic]at h;obtain⟨hd,he,D,j,g⟩:=h;have j:=lf.1 j;have g:o.b=-1∨(0≤o.b∧o.b<n):=by
  split at g
  ·exact .inr (lf.1 g)
  ·simp only[Hy,Ic]at g;exact .inl g.2
 refine⟨.inl hd,.inl he,λv hv=>?_,λv hv=>?_,λA=>J⟩
 ·unfold T8 at hv;rw[Hx J,Jp]at hv;obtain⟨z,B⟩:=List.mem_filter.1 hv;simp at B;simp only[If,J9,L6]at z;rcases z with rfl|rfl|rfl
  ·omega
  ·rcases g with e|e<;>omega
  ·omega
 ·unfold Qq at hv;rw[Hx J,Hx J,Hx J,Hx J,Hx J,Hx J]at hv;cases hv
def ul{g:List Vr}{o:Ko}(h:Og g o=true):PartsIn g.length o:=by
 unfold Og at h;split at h
 ·rename_i j;exact zzu j h
 ·split at h
  ·cases h
  ·rename_i s z;simp only[Hy]at h;exact zpt z h.2.1
def Q5(o:Ko):List Int:=[o.d,o.e,o.a,o.b,o.c]
def znk{n s:Nat}{o:Ko}(h:∀g<5,Rv n s g (gd (Q5 o) g)=true):T7 n s o=true:=by
 simp only[T7,Hy];exact⟨h 0 J,h 1 J,h 2 J,h 3 J,h 4 J⟩
def zsj{n s:Nat}{o:Ko}(z:g<5)(h:Rv n s g (gd (Q5 o) g)=false):T7 n s o=false:=by
 cases j:T7 n s o with
 |false=>rfl
 |true =>
  simp only[T7,Hy]at j;have:g=0∨g=1∨g=2∨g=3∨g=4:=J
  rcases this with rfl|rfl|rfl|rfl|rfl
  ·exact absurd j.1 (by rw[show o.d=gd (Q5 o) 0 from rfl,h];simp)
  ·exact absurd j.2.1 (by rw[show o.e=gd (Q5 o) 1 from rfl,h];simp)
  ·exact absurd j.2.2.1 (by rw[show o.a=gd (Q5 o) 2 from rfl,h];simp)
  ·exact absurd j.2.2.2.1 (by rw[show o.b=gd (Q5 o) 3 from rfl,h];simp)
  ·exact absurd j.2.2.2.2 (by rw[show o.c=gd (Q5 o) 4 from rfl,h];simp)
def zte{k:Int}{s:Nat}(h:Pz k=some s):s<32:=by rcases zen h with h|h|h|h|h|h|h<;>omega
def zw7(s i:Nat):((s:Int)/2^i%2=1)↔s.testBit i=true:=by
 rw[Lf,Ic];constructor
 ·intro h;have:((s/2^i%2:Nat):Int)=1:=by push_cast;exact h
  omega
 ·intro h;have:((s/2^i%2:Nat):Int)=1:=J
  push_cast at this;exact this
variable{vP:List Vr}
section
inductive Fr (α:Type) where
 |nil
 |op (o:α) (r:Fr α)
 |loop (o:α) (b:Fr α) (e:α) (r:Fr α)
section tree
variable {α : Type}
def Fr.flat:Fr α→List α
 |.nil=>[]
 |.op o r=>o::r.flat
 |.loop o b e r=>o::(b.flat++e::r.flat)
def Fr.size:Fr α→Nat
 |.nil=>0
 |.op _ r=>r.size+1
 |.loop _ b _ r=>b.size+r.size+2
def Fr.flat_len:∀f:Fr α,f.flat.length=f.size
 |.nil=>rfl
 |.op _ r=>by simp[flat,size,flat_len r]
 |.loop _ b _ r=>by simp[flat,size,flat_len b,flat_len r];omega
def Fr.wf(kd:α→Nat):Fr α→Prop
 |.nil=>True
 |.op o r=>kd o=0∧r.wf kd
 |.loop o b e r=>kd o=1∧kd e=2∧b.wf kd∧r.wf kd
def Xl(g:α→Nat):Nat→List α→Prop
 |d,[]=>d=0
 |d,o::l=>if g o=1 then Xl g (d+1) l else if g o=2 then 0<d∧Xl g (d-1) l else g o=0∧Xl g d l
def Fr.ends:Nat→Fr α→List Int
 |_,.nil=>[]
 |i,.op _ r=>-1::r.ends (i+1)
 |i,.loop _ b _ r=>((i+b.size+1:Nat):Int)::(b.ends (i+1)++(i:Int)::r.ends (i+b.size+2))
def Fr.ends_len:∀(f:Fr α) (i:Nat),(f.ends i).length=f.size
 |.nil,_=>rfl
 |.op _ r,i=>by simp[ends,size,ends_len r]
 |.loop _ b _ r,i=>by simp[ends,size,ends_len b,ends_len r];omega
end tree
def kdK(o:Ko):Nat:=if o.kind=15 then 1 else if o.kind=16 then 2 else 0
end
abbrev Sp:=Int×Int
def Fr.tops{α:Type}:Nat→Fr α→List Sp
 |_,.nil=>[]
 |i,.op _ r=>r.tops (i+1)
 |i,.loop _ b _ r=>((i:Int),((i+b.size+1:Nat):Int))::r.tops (i+b.size+2)
def gs(l:List Sp)(n:Nat):Sp:=l.getD n (0,0)
structure Left (os:List Ko) (es:List Int) (T0:List Sp) (i:Nat) (r:Fr Ko) (T:List Sp):Prop where
 os:os.drop i=r.flat
 es:es.drop i=r.ends i
 wf:r.wf kdK
 tops:T0=T++r.tops i
def bm(k d:Int):Ko:=⟨k,d,-1,-1,-1,-1,0⟩
def Vs:Nat→List Vr→List Ko
 |_,[]=>[]
 |i,v::l=>if Sd v=true then Vs (i+1) l else bm 1 i::Vs (i+1) l
def startOs_len:∀(l:List Vr) (i:Nat),(Vs i l).length≤l.length
 |[],_=>by simp[Vs]
 |v::l,i=>by
  have:=startOs_len l (i+1);unfold Vs;split<;>simp<;>omega
def zq4(k:Int):Bool:=decide (k=15) || decide (k=16)
def Um(g:List Vr)(o:Ko):Bool:=!zq4 o.kind&&S9 g (Vs 0 g++[o]) []
def ag(A:List Vr):∀(B g:List Ko) (m j:List Bool) (d z:Int),Vi A m d B=some (j,z)→Vi A m d (B++g)=Vi A j z g
 |[],g,m,j,d,z,h=>B5
 |o::B,g,m,j,d,z,h=>by
  unfold Vi at h;split at h
  ·rename_i C;rw[I6,Vi,H7 C];exact ag A B g _ j _ z h
  ·cases h
def gu{i:Nat}(h:i<vP.length)(g:Sd (gv vP i)=false):Og vP (bm 1 i)=true:=by
 have e:Rz vP.length (i:Int)=true:=lf.2 ⟨J,J⟩;have j:Nat.testBit 1 1=false:=Ac
 have z:Nat.testBit 1 2=false:=Ac
 have A:Nat.testBit 1 3=false:=Ac
 have B:Nat.testBit 1 4=false:=Ac
 simp[Og,bm,Pz,Q8,T7,Rv,e,Su,g,O7,T8,mi,Qq,j,z,A,B]
def Yl(m:List Bool)(i g:Nat)(hi:i<m.length):gb (m.set i true) g=if g=i then true else gb m g:=by
 unfold gb;rw[Hv,Hv,L9];by_cases h:i=g
 ·subst h;simp[hi]
 ·rw[Hx h,Hx (λq=>h q.symm)]
def zfs{g:List Vr}:∀(l:List Vr) (i:Nat) (m:List Bool),g.drop i=l→m.length=g.length→(∀j,j<i→gb m j=true)→(∀j,i≤j→j<g.length→gb m j=Sd (gv g j)) →
  ∃A,Vi g m 0 (Vs i l)=some (A,0)∧A.length=g.length∧∀j,j<g.length→gb A j=true
 |[],i,m,hd,C,D,E=>by
  have:g.length≤i:=E5
  exact⟨m,rfl,C,λj F=>D j J⟩
 |v::l,i,m,hd,C,D,E=>by
  have hi:i<g.length:=E5
  have I:=zox hi;rw[hd]at I;obtain⟨rfl,rfl⟩:=List.cons.inj I;unfold Vs;by_cases G:Sd (gv g i)=true
  ·rw[H7 G];refine zfs _ (i+1) m rfl C (λj F=>?_) (λj F z=>E j J z);by_cases e:j=i
   ·subst e;rw[E j (Ia _) hi,G]
   ·exact D j J
  ·rw[Hx G];have H:Sd (gv g i)=false:=B1
   have B:=gu hi H;have K:zi8 m (bm 1 i)=true:=by simp[zi8,T8,bm]
   obtain⟨A,L,M⟩:=zfs (g.drop (i+1)) (i+1) (m.set i true) rfl Cm (λj F=>by
    rw[Yl _ _ _ J];split
    ·rfl
    ·exact D j J) (λj F z=>by rw[Yl _ _ _ J,Hx J];exact E j J z)
   refine⟨A,?_,M⟩;rw[Vi,H7 (by rw[B,K];simp[dl,bm])];have O:Y1 m (bm 1 i)=m.set i true:=by simp[Y1,bm]
   rw[O];simpa [dl,bm] using L
def zgj(h:Rb vP=true):1≤vP.length∧vP.length≤256:=by
 unfold Rb at h;split at h
 ·cases h
 ·simp only[Hy,Ic]at h;omega
def vgo_limbs:∀(l:List Vr) (i p r:Nat),R9 i p l=some r→∀v∈l,1≤v.limbs∧v.limbs≤512∧0≤v.mode∧v.mode≤3
 |[],_,_,_,_,v,hv=>by cases hv
 |w::l,i,p,r,h,v,hv=>by
  unfold R9 at h;split at h
  ·cases h
  ·rename_i z;have hw:1≤w.limbs∧w.limbs≤512∧0≤w.mode∧w.mode≤3:=by
    simp[Vu]at z;omega
   have g:∀j,R9 (i+1) j l=some r→1≤v.limbs∧v.limbs≤512∧0≤v.mode∧v.mode≤3:=λj A=>by
    rcases If.1 hv with rfl|hv
    ·exact hw
    ·exact vgo_limbs l _ _ r A v hv
   split at h
   ·exact g _ h
   ·split at h
    ·cases h
    ·exact g _ h
def zjm{vs:List Vr}(h:Rb vs=true):∀v∈vs,1≤v.limbs∧v.limbs≤512∧0≤v.mode∧v.mode≤3:=by
 unfold Rb at h;split at h
 ·cases h
 ·rename_i p g;exact vgo_limbs vs 0 0 p g
def zq7{vs:List Vr}{i:Nat}(h:i<vs.length):gv vs i∈vs:=Iq (Tw h)
def s8{vs:List Vr}(h:Rb vs=true){v:Int}(g:0≤v)(j:v<vs.length):1≤Qd vs v∧Qd vs v≤512:=by
 have:=zjm h _ (zq7 (vs:=vs) (i:=v.toNat) J);exact⟨this.1,this.2.1⟩
def Yv(g:List Vr)(o:Ko):Um g o=(!zq4 o.kind&&(Rb g&&Og g o)):=by
 unfold Um;cases z:zq4 o.kind with
 |true=>rfl
 |false =>
  simp only[Bool.not_false,Lw];unfold S9;cases hv:Rb g with
  |false=>rfl
  |true =>
   have H:=zgj hv;have D:=startOs_len g 0;obtain⟨m,E,I,A⟩:=zfs g 0 (fi g) rfl (by simp[fi]) (λK C=>J) (λK _ C=>by
    unfold gb fi;rw[Hv,Jw,Tw C];rfl)
   rw[ag g _ _ _ _ _ _ E];have F:decide ((Vs 0 g++[o]).length≤4096)=true:=Js Ab;rw[F];simp only[Lw,Ix,List.all_nil,show decide (0≤4096)=true from rfl];have B:dl o.kind=0:=by simp[zq4]at z;simp[dl,z.1,z.2]
   cases ho:Og g o with
   |false=>simp[Vi,ho]
   |true =>
    have j:=ul ho;have G:zi8 m o=true:=by
     unfold zi8;rw[Jv];intro v hv;have:=j.takes v hv;exact A _ J
    have hm:xb g (Y1 m o)=true:=by
     unfold xb;rw[Jv];intro i hi;have hi:=Kh.1 hi;have:gb (Y1 m o) i=true:=by
      unfold Y1;split
      ·have:=j.d;rw[Yl _ _ _ J];split
       ·rfl
       ·exact A i hi
      ·exact A i hi
     simp[this]
    simp[Vi,ho,G,B,hm]
def Nq(vs:List Vr)(o:Ko):Int:=if (decide (o.kind=13)&&Um vs o)=true then (3+2^o.imm.toNat)*Qd vs o.c+Qd vs o.b+1+(Qd vs o.c+2) else 0
def zq5{o:Ko}{s:Nat}(h:Og vP o=true)(g:Pz o.kind=some s):T7 vP.length s o=true∧Q8 o=true∧mi vP o=true:=by
 unfold Og at h;split at h
 ·rename_i j;rw[j]at g;simp[Pz]at g
 ·rw[g]at h;simp only[Hy]at h;exact⟨h.2.1,h.1,h.2.2.2.2.2⟩
def zsl{o:Ko}{s:Nat}(h:Um vP o=true)(g:Pz o.kind=some s):Rb vP=true∧T7 vP.length s o=true∧Q8 o=true∧mi vP o=true:=by
 rw[Yv]at h;simp only[Hy]at h;exact⟨h.2.1,zq5 h.2.2 g⟩
def zv7{n s:Nat}{o:Ko}(h:T7 n s o=true)(g:s.testBit 2=true):0≤o.a∧o.a<n:=by
 simp only[T7,Hy]at h;exact T5 h.2.2.1 g
def zl9{n s:Nat}{o:Ko}(h:T7 n s o=true)(g:s.testBit 3=true):0≤o.b∧o.b<n:=by
 simp only[T7,Hy]at h;exact T5 h.2.2.2.1 g
def zko{n s:Nat}{o:Ko}(h:T7 n s o=true)(g:s.testBit 4=true):0≤o.c∧o.c<n:=by
 simp only[T7,Hy]at h;exact T5 h.2.2.2.2 g
def zu5{n s:Nat}{o:Ko}(h:T7 n s o=true)(g:s.testBit 0=true):0≤o.d∧o.d<n:=by
 simp only[T7,Hy]at h;exact T5 h.1 g
def zcw(hv:Rb vP=true){v:Int}(h:0≤v∧v<vP.length):∃k:Nat,v=k∧k<vP.length∧(N0 vP)[k*3]?=some (.i (Qd vP v))∧1≤Qd vP v∧Qd vP v≤512:=by
 obtain⟨k,rfl⟩:=Hz h.1;have g:k<vP.length:=J
 have:=s8 hv h.1 h.2;exact⟨k,rfl,g,sn (Tw g),this⟩
abbrev TVr:={ n:Int // Ur n }×Bool×{ n:Int // Ur n }×Unit
def vrT(e:TVr):Vr:=⟨e.1.1,e.2.1,e.2.2.1.1⟩
def flat_vr:∀l:List TVr,l.flatMap (λx=>[LV.i x.1.1,LV.bool x.2.1,LV.i x.2.2.1.1])=N0 (l.map vrT)
 |[]=>rfl
 |x::l=>by rw[Kx,flat_vr l];rfl
def U6(g:List Vr)(o:Ko)(s i:Nat):Bool:=(List.range i).any λj=>s.testBit j&&((decide (2≤j) || decide (o.kind=14))&&(gv g (gd (Q5 o) j).toNat).sec)
def zag{n s i:Nat}{v:Int}(h:Rv n s i v=true):s.testBit i=!decide (v<0):=by
 unfold Rv at h;split at h
 ·rename_i g;have:=lf.1 h;rw[g];simp;omega
 ·rename_i g;have:v=-1:=Ka h;subst this;simpa using g
def zse(g:List Vr)(o:Ko)(s i:Nat):U6 g o s (i+1)=(U6 g o s i || (s.testBit i&&((decide (2≤i) || decide (o.kind=14))&&(gv g (gd (Q5 o) i).toNat).sec))):=by
 simp[U6,List.range_succ,List.any_append]
def secU_5{o:Ko}{n s:Nat}(z:Pz o.kind=some s)(j:T7 n s o=true):U6 vP o s 5=O7 vP o:=by
 simp only[T7,Hy]at j;obtain⟨hd,he,A,B,C⟩:=j;have g:o.kind=14→s=19:=λh=>by have:=zen z;omega
 rw[show (5:Nat)=0+1+1+1+1+1 by rfl];simp only[zse];rw[show U6 vP o s 0=false from rfl];rw[zag hd,zag he,zag A,zag B,zag C];have D:gd (Q5 o) 0=o.d:=rfl;have E:gd (Q5 o) (0+1)=o.e:=rfl;have F:gd (Q5 o) (0+1+1)=o.a:=rfl;have G:gd (Q5 o) (0+1+1+1)=o.b:=rfl;have H:gd (Q5 o) (0+1+1+1+1)=o.c:=rfl;rw[D,E,F,G,H];unfold O7 T8;rw[List.any_append,List.any_filter];by_cases k:o.kind=14
 ·have:=g k;subst this;have L:=T5 hd Ac;have M:=T5 he Ac;have I:decide (o.d<0)=false:=Ab
  have K:decide (o.e<0)=false:=Ab
  simp[k,I,K,Bool.or_comm,Bool.or_assoc]
 ·simp[k,Bool.or_assoc]

abbrev Fc:=Int×Int×Int
def X4(o:Ko):List Fc :=
 if o.kind=9 then [(3,o.c,-1)] else if o.kind=10∨o.kind=11 then [(2,o.a,o.c),(2,o.b,o.c)] else if o.kind=12 then [(1,o.c,-1),(2,o.a,o.c),(2,o.b,o.c)] else if o.kind=13 then [(1,o.c,-1),(2,o.a,o.c)]
 else if o.kind=17 then (if o.imm=2 then [(2,o.a,o.b)] else if o.imm=1 then [(1,o.a,-1)] else if o.imm=3 then [(3,o.a,-1)] else []) else []
def gN(v:List Nat)(i:Int):Nat:=if i<0 then 0 else v.getD i.toNat 0
def Ya(f:Fc)(v:List Nat):Bool :=
 Rz v.length f.2.1&&(if f.1=1 then decide (gN v f.2.1%2=1) else if f.1=3 then decide (0<gN v f.2.1) else if f.1=2 then Rz v.length f.2.2&&decide (gN v f.2.1<gN v f.2.2) else false)
def V3(o:Ko)(v:List Nat):Bool:=(X4 o).all λf=>Ya f v
def zon(n:Int):Nat:=2^(64*n.toNat)
def kd_1{o:Ko}:kdK o=1↔o.kind=15:=by unfold kdK;split<;>(try split)<;>simp_all

def gN_at{v:List Nat}{i:Int}(h:0≤i):gN v i=v.getD i.toNat 0:=by unfold gN;rw[Hx J]



def Fr.map{α:Type}(g:α→α):Fr α→Fr α
 |.nil=>.nil
 |.op o r=>.op (g o) (r.map g)
 |.loop o b e r=>.loop (g o) (b.map g) (g e) (r.map g)
def mz(g:List Vr):List Nat:=(List.range g.length).filter λi=>Sd (gv g i)

def we(a:List UInt64):(LU a).dat=true:=by
 simp only[LU,LV.dat];exact xa (λ_=>rfl) a

def U1(f:Fc):List LV:=[.i f.1,.i f.2.1,.i f.2.2]
def Zb(l:List Fc):List LV:=l.flatMap U1
def s9(l:List Fc):dats (Zb l)=true:=zak (f:=U1) (λ_=>rfl) l
abbrev Hl:=Int×Int
def Yn(x y:Hl):Prop:=x.2≤y.1∨y.2≤x.1
def Ap(g:Int)(l:List Hl):Prop:=l.Pairwise Yn∧∀h∈l,0≤h.1∧h.1<h.2∧h.2≤g
structure St where
 holes:List Hl
 size:Int
def ivs(z:Nat→Hl)(j:Nat→Bool)(s:Bool)(g:List Nat):List Hl:=(g.filter λv=>j v==s).map z
def BusyOk(A:Bool→Int)(B:Nat→Hl)(j:Nat→Bool)(g:List Nat)(z:Bool→St):Prop :=
 ∀s,0≤(z s).size∧Ap (z s).size ((0,A s)::(ivs B j s g++(z s).holes))
structure Plan0 (wk:Bool→Int) (a b Q1:Nat→Int) (sec:Nat→Bool) (done busy:List Nat) (iv:Nat→Hl) (ps:Bool→St) (cur:Int):Prop where
 ok:BusyOk wk iv sec busy ps
 wide:∀v∈done,(iv v).2=(iv v).1+Q1 v
 nd:busy.Nodup
 sub:∀v∈busy,v∈done
 over:∀v∈done,v ∉ busy→b v<cur
 pairs:∀v∈done,∀w∈done,v≠w→sec v=sec w→Yn (iv v) (iv w)∨b v<a w∨b w<a v
 inn:∀v∈done,0≤(iv v).1∧(iv v).2≤(ps (sec v)).size∧Yn (0,wk (sec v)) (iv v)
 sz:(ps false).size+(ps true).size≤wk false+wk true+(done.map Q1).sum
noncomputable section
structure Bf where
 size:Int
 kind:Int
 sec:Bool
structure Lo where
 kind:Int
 d:Int
 e:Int
 a:Int
 b:Int
 c:Int
 buf:Int
 imm:UInt64
 deriving DecidableEq
def Bf.f(v:Bf):List LV:=[.i v.size,.i v.kind,.bool v.sec]
def Lo.f(o:Lo):List LV:=[.i o.kind,.i o.d,.i o.e,.i o.a,.i o.b,.i o.c,.i o.buf,.u o.imm]
def Qc(l:List Bf):List LV:=l.flatMap Bf.f
def Qh(l:List Lo):List LV:=l.flatMap Lo.f
def Bf.f_len(v:Bf):v.f.length=3:=rfl
def Lo.f_len(o:Lo):o.f.length=8:=rfl
def bg(l:List Lo):(Qh l).length=l.length*8:=zwh Lo.f_len l
def Ts(l:List Bf):dats (Qc l)=true:=zak (λ_=>rfl) l
def Tu(l:List Lo):dats (Qh l)=true:=zak (λ_=>rfl) l
def zxh{l:List Bf}{i:Nat}{v:Bf}(h:l[i]?=some v):((Qc l).drop (i*3)).take 3=v.f:=zcz Bf.f_len h
def zdh{l:List Lo}{i:Nat}{v:Lo}(h:l[i]?=some v):((Qh l).drop (i*8)).take 8=v.f:=zcz Lo.f_len h
def zgp{l:List Bf}{i:Nat}{v:Bf}(h:l[i]?=some v):(Qc l)[i*3]?=some (.i v.size):=by have:=zuq Bf.f_len h (j:=0) J;simpa [Qc,Bf.f] using this
def znb{l:List Bf}{i:Nat}{v:Bf}(h:l[i]?=some v):(Qc l)[i*3+1]?=some (.i v.kind):=by have:=zuq Bf.f_len h (j:=1) J;simpa [Qc,Bf.f] using this
def zxd{l:List Bf}{i:Nat}{v:Bf}(h:l[i]?=some v):(Qc l)[i*3+2]?=some (.bool v.sec):=by have:=zuq Bf.f_len h (j:=2) J;simpa [Qc,Bf.f] using this
def zpx{l:List Lo}{i:Nat}{v:Lo}(h:l[i]?=some v){j:Nat}(g:j<8):(Qh l)[i*8+j]?=v.f[j]?:=zuq Lo.f_len h g
def zpb{l:List Bf}{i:Nat}(h:i<l.length):i*3+3≤(Qc l).length:=zty Bf.f_len h
def zo3{l:List Lo}{i:Nat}(h:i<l.length):i*8+8≤(Qh l).length:=zty Lo.f_len h
def zo7(a b:List Lo):Qh (a++b)=Qh a++Qh b:=by simp[Qh]
def bfC_app(a b:List Bf):Qc (a++b)=Qc a++Qc b:=by simp[Qc]
def Ns(l:List Bf)(n:Nat):Bf:=l.getD n ⟨0,0,false⟩
def lj(l:List Lo)(n:Nat):Lo:=l.getD n ⟨0,0,0,0,0,0,0,0⟩
def Sx{l:List Bf}{n:Nat}(h:n<l.length):l[n]?=some (Ns l n):=by simp[Ns,Hv,h]
def zhv{l:List Lo}{n:Nat}(h:n<l.length):l[n]?=some (lj l n):=by simp[lj,Hv,h]
def zj5{l:List Lo}{n:Nat}(h:n<l.length):l.drop n=lj l n::l.drop (n+1):=by
 rw[Jr h];congr 1;have:=zhv h;rw[H6 h]at this;exact Option.some.inj this
def repBs(n:Nat):Pl [.bool false] n=(List.replicate n false).map LV.bool:=by
 induction n with
 |zero=>rfl
 |succ n g=>rw[Pl,g,K0];rfl
def Oy(o:Lo):List Int :=
 if o.kind=2∨o.kind=8∨o.kind=9 then [o.a]
 else if (3≤o.kind∧o.kind≤7)∨o.kind=10 then [o.a,o.b]
 else if o.kind=11∨o.kind=12∨o.kind=13 then [o.a,o.b,o.c]
 else if o.kind=14∧¬o.a=-1 then [o.a]
 else if o.kind=15∧¬o.a=-1 then [o.a,o.b]
 else if o.kind=15 then [o.b] else []
def Nf(o:Lo):List Int :=
 if o.kind=10∨o.kind=11∨o.kind=12 then [o.d,o.e]
 else if o.kind=15∨o.kind=17 then [] else [o.d]
def Ri(g r:Int)(j:Bool):Bool:=if j=true then decide (0≤r)&&decide (r<g) else decide (r=-1)
def Q0(k:Int):Bool:=!decide (k=15) && !decide (k=17)
def Q2(k:Int):Bool:=decide (k=10) || (decide (k=11) || decide (k=12))
def Rk(k:Int):Bool:=!decide (k=1)&&(!decide (k=16) && !decide (k=17))
def Wl(k:Int):Bool:=(decide (3≤k)&&decide (k≤7)) || ((decide (10≤k)&&decide (k≤13)) || decide (k=15))
def Wr(k:Int):Bool:=decide (11≤k)&&decide (k≤13)
def Pf(k:Int):Bool:=decide (k=14) || decide (k=15)
def Qg(g:Int)(j:List Bf)(o:Lo):Bool :=
 (decide (1≤o.kind)&&decide (o.kind≤17))&&(Ri g o.d (Q0 o.kind)&&(Ri g o.e (Q2 o.kind)&&((Ri g o.a (Rk o.kind) || (Pf o.kind&&decide (o.a=-1)))&&(Ri g o.b (Wl o.kind)&&(Ri g o.c (Wr o.kind)&&(!(Q2 o.kind&&decide (o.d=o.e)) &&
  (if Pf o.kind=true then decide (0≤o.buf)&&(decide (o.buf<j.length)&&(!(decide (o.kind=15)&&decide ((Ns j o.buf.toNat).kind=1))&&(!decide (o.a=-1) || decide (o.imm<iU (Ns j o.buf.toNat).size))))
   else decide (o.buf=0)&&(if o.kind=1 then true else if o.kind=8∨o.kind=9 then decide (1≤o.imm)&&decide (o.imm≤63) else if o.kind=16 then decide (1≤o.imm)&&decide (o.imm≤1048576) else decide (o.imm=0)))))))))
def Pj(m:List Bool)(r:Int):Bool:=m.getD r.toNat false
def Vn(j:Int)(z:List Bf)(m:List Bool)(g:List Int)(o:Lo):Int×List Bool×List Int :=
 if Qg j z o=false then (2,m,g)
 else if o.kind=17 then (match g.getLast? with|none=>(9,m,g)|some d=>(0,m.set d.toNat false,g.dropLast))
 else if (Nf o).any (λr=>g.contains r)=true then (9,m,g)
 else if o.kind=16∧Pj m o.d=true then (9,m,g)
 else if o.kind=16∧g.length=8 then (10,m,g)
 else if (Oy o).any (λr=>!Pj m r)=true then (5,m,g)
 else (0,(Nf o).foldl (λm r=>m.set r.toNat true) m,if o.kind=16 then g++[o.d] else g)
def jl(g:Int)(z:List Bf):Nat→List Bool→List Int→List Lo→Int×Int
 |i,_,j,[]=>if j=[] then (i,0) else (i,9)
 |i,m,j,o::l=>if (Vn g z m j o).1=0 then jl g z (i+1) (Vn g z m j o).2.1 (Vn g z m j o).2.2 l else (i,(Vn g z m j o).1)
def Ra(g:Int)(bs:List Bf)(os:List Lo):Int×Int :=
 if 64<g∨32<bs.length∨65536<os.length then (0,3)
 else if (bs.any λb=>decide (65536<b.size))=true then (0,3)
 else if g<0 then (0,2)
 else if (bs.any λb=>decide (b.size<1) || (decide (b.kind<1) || decide (3<b.kind)))=true then (0,2)
 else jl g bs 0 (List.replicate g.toNat false) [] os
structure Ms where
 i:Nat
 first:Bool
 r:List UInt64
 bufs:List (List UInt64)
 l:List (Int×Int)
def atR(r:List UInt64)(x:Int):UInt64:=if x<0 then 0 else r.getD x.toNat 0
def Oe(b:Bool):UInt64:=if b then 1 else 0
def Nm(r:List UInt64)(x:Int)(v:UInt64):List UInt64:=if 0≤x then r.set x.toNat v else r
def N8(o:Lo)(a b:UInt64)(c:Bool):UInt64×UInt64 :=
 if o.kind=1 then (o.imm,0) else if o.kind=2 then (a,0) else if o.kind=3 then (a+b,0) else if o.kind=4 then (a-b,0)
 else if o.kind=5 then (a &&& b,0) else if o.kind=6 then (a ||| b,0) else if o.kind=7 then (a ^^^ b,0)
 else if o.kind=8 then (UInt64.ofNat (a.toNat*2^o.imm.toNat),0) else if o.kind=9 then (UInt64.ofNat (a.toNat/2^o.imm.toNat),0)
 else if o.kind=10 then (T2 a b,a*b) else if o.kind=11 then ((Nr a b c).1,Oe (Nr a b c).2) else if o.kind=12 then ((Ov a b c).1,Oe (Ov a b c).2)
 else if o.kind=13 then (if c then a else b,0) else (0,0)
def Uh(g:List (List UInt64))(x:Int):List UInt64:=g.getD x.toNat []
def Vm(o:Lo)(s:Ms):Option Ms :=
 if o.kind=14 then
  (if (o.imm+atR s.r o.a).toNat<(Uh s.bufs o.buf).length then
   some ⟨s.i+1,s.first,Nm (Nm s.r o.d ((Uh s.bufs o.buf).getD (o.imm+atR s.r o.a).toNat 0)) o.e 0,s.bufs,s.l++[((s.i:Int),(((o.imm+atR s.r o.a).toNat:Nat):Int))]⟩ else none)
 else if o.kind=15 then
  (if (o.imm+atR s.r o.a).toNat<(Uh s.bufs o.buf).length then
   some ⟨s.i+1,s.first,Nm (Nm s.r o.d 0) o.e 0,s.bufs.set o.buf.toNat ((Uh s.bufs o.buf).set (o.imm+atR s.r o.a).toNat (atR s.r o.b)),s.l++[((s.i:Int),(((o.imm+atR s.r o.a).toNat:Nat):Int))]⟩ else none)
 else some ⟨s.i+1,s.first,Nm (Nm s.r o.d (N8 o (atR s.r o.a) (atR s.r o.b) (decide (atR s.r o.c%2=1))).1) o.e (N8 o (atR s.r o.a) (atR s.r o.b) (decide (atR s.r o.c%2=1))).2,s.bufs,s.l++[((s.i:Int),(-1:Int))]⟩
def Rq(os:List Lo)(es:List Int)(s:Ms):Option Ms :=
 match os[s.i]? with
 |none=>some s
 |some o =>
  if o.kind=16 then some ⟨s.i+1,true,if s.first then Nm s.r o.d 0 else s.r,s.bufs,s.l++[((s.i:Int),(-1:Int))]⟩
  else if o.kind=17 then
   (match os[(es.getD s.i 0).toNat]? with
   |none=>none
   |some p=>if atR s.r p.d+1<p.imm then some ⟨(es.getD s.i 0).toNat,false,Nm s.r p.d (atR s.r p.d+1),s.bufs,s.l⟩ else some ⟨s.i+1,s.first,s.r,s.bufs,s.l⟩)
  else Vm o s
def Pq(os:List Lo)(es:List Int):Nat→Ms→Option Ms
 |0,s=>some s
 |n+1,s=>match Rq os es s with
  |none=>none
  |some g=>Pq os es n g
end
variable{Z:List Bf}{vX:List Lo}
section
def Qz(o:Lo):Nat:=if o.kind=16 then 1 else if o.kind=17 then 2 else 0
structure Fs where
 r:Nat→UInt64
 m:Nat→Nat→UInt64
def Fs.put(s:Fs)(d:Nat)(v:UInt64):Fs:=⟨λx=>if x=d then v else s.r x,s.m⟩
def Fs.sto(s:Fs)(b n:Nat)(v:UInt64):Fs:=⟨s.r,λx y=>if x=b∧y=n then v else s.m x y⟩
def Tk(s:Fs)(x:Int):UInt64:=if x<0 then 0 else s.r x.toNat
def Ru(s:Fs)(x:Int)(v:UInt64):Fs:=if 0≤x then s.put x.toNat v else s
def Qu(sz:Nat→Nat)(o:Lo)(s:Fs):Option Fs :=
 if o.kind=14 then (if (o.imm+Tk s o.a).toNat<sz o.buf.toNat then some (Ru (Ru s o.d (s.m o.buf.toNat (o.imm+Tk s o.a).toNat)) o.e 0) else none)
 else if o.kind=15 then (if (o.imm+Tk s o.a).toNat<sz o.buf.toNat then some (Ru (Ru (s.sto o.buf.toNat (o.imm+Tk s o.a).toNat (Tk s o.b)) o.d 0) o.e 0) else none)
 else some (Ru (Ru s o.d (N8 o (Tk s o.a) (Tk s o.b) (decide (Tk s o.c%2=1))).1) o.e (N8 o (Tk s o.a) (Tk s o.b) (decide (Tk s o.c%2=1))).2)
def nu(f:Fs→Option Fs)(d:Nat):Nat→Nat→Fs→Option Fs
 |0,_,s=>some s
 |n+1,j,s=>match f (s.put d (UInt64.ofNat j)) with
  |none=>none
  |some g=>nu f d n (j+1) g
def Tq(sz:Nat→Nat):Fr Lo→Fs→Option Fs
 |.nil,s=>some s
 |.op o r,s=>match Qu sz o s with
  |none=>none
  |some g=>Tq sz r g
 |.loop o b _ r,s=>match nu (Tq sz b) o.d.toNat o.imm.toNat 0 s with
  |none=>none
  |some g=>Tq sz r g
def Fr.noW(x:Nat):Fr Lo→Bool
 |.nil=>true
 |.op o r=>!decide (o.d=x)&&(!decide (o.e=x)&&r.noW x)
 |.loop o b _ r=>!decide (o.d.toNat=x)&&(b.noW x&&r.noW x)
def zkv{s:Fs}{d:Int}{v:UInt64}{x:Nat}(h:¬d=x):(Ru s d v).r x=s.r x:=by
 unfold Ru;split
 ·show (if x=d.toNat then v else s.r x)=s.r x;rw[Hx J]
 ·rfl
def opZ_r{sz:Nat→Nat}{o:Lo}{s z:Fs}{x:Nat}(h:Qu sz o s=some z)(g:¬o.d=x)(j:¬o.e=x):z.r x=s.r x:=by
 unfold Qu at h;split at h
 ·split at h
  ·cases h;rw[zkv j,zkv g]
  ·cases h
 ·split at h
  ·split at h
   ·cases h;rw[zkv j,zkv g];rfl
   ·cases h
  ·cases h;rw[zkv j,zkv g]
def zwe{f:Fs→Option Fs}{P:Fs→Prop}{d:Nat}(hd:∀s v,P s→P (s.put d v))(z:∀s g,P s→f s=some g→P g):∀(n A:Nat) (s g:Fs),P s→nu f d n A s=some g→P g
 |0,_,s,g,j,h=>by cases h;exact j
 |n+1,A,s,g,j,h=>by
  unfold nu at h;split at h
  ·cases h
  ·rename_i B C;exact zwe hd z n (A+1) B g (z _ _ (hd _ _ j) C) h
def zzc{sz:Nat→Nat}{x:Nat}:∀(f:Fr Lo) (s g:Fs),f.noW x=true→Tq sz f s=some g→g.r x=s.r x
 |.nil,s,g,_,h=>B5
 |.op o r,s,g,hw,h=>by
  simp only[Fr.noW,Hy,Jf,I4]at hw;unfold Tq at h;split at h
  ·cases h
  ·rename_i j z;rw[zzc r j g hw.2.2 h,opZ_r z hw.1 hw.2.1]
 |.loop o b e r,s,g,hw,h=>by
  simp only[Fr.noW,Hy,Jf,I4]at hw;unfold Tq at h;split at h
  ·cases h
  ·rename_i j z;rw[zzc r j g hw.2.2 h];refine zwe (P:=λt=>t.r x=s.r x) (λt v A=>?_) (λt B A h=>by rw[zzc b t B hw.2.1 h,A]) _ _ _ _ rfl z;show (if x=o.d.toNat then v else t.r x)=_;rw[Hx (λq=>hw.1 q.symm)];exact A
def xi(ls:List Nat)(x:Int):Bool:=decide (-1≤x)&&(decide (x<64) && !ls.contains x.toNat || decide (x=-1))
def Fr.regs(nb:Nat):List Nat→Fr Lo→Bool
 |_,.nil=>true
 |ls,.op o r=>xi ls o.d&&(xi ls o.e&&(decide (o.a<64)&&(decide (o.b<64)&&(decide (o.c<64)&&(decide (o.buf.toNat<nb)&&r.regs nb ls)))))
 |ls,.loop o b _ r=>xi ls o.d&&(decide (0≤o.d)&&(decide (1≤o.imm.toNat)&&(b.regs nb (o.d.toNat::ls)&&r.regs nb ls)))
def ziu{nb x:Nat}:∀(f:Fr Lo) (z:List Nat),x∈z→f.regs nb z=true→f.noW x=true
 |.nil,_,_,_=>rfl
 |.op o r,z,j,h=>by
  simp only[Fr.regs,Hy,xi,Ic,Jd,Jf,List.contains_eq_mem,I4]at h;obtain⟨⟨C,g⟩,⟨D,A⟩,_,_,_,_,B⟩:=h;simp only[Fr.noW,Hy,Jf,I4];refine⟨λq=>?_,λq=>?_,ziu r z j B⟩
  ·rcases g with ⟨_,g⟩|g
   ·apply g;rw[q];exact j
   ·omega
  ·rcases A with ⟨_,A⟩|A
   ·apply A;rw[q];exact j
   ·omega
 |.loop o b e r,z,j,h=>by
  simp only[Fr.regs,Hy,xi,Ic,Jd,Jf,List.contains_eq_mem,I4]at h;obtain⟨⟨C,g⟩,D,_,A,B⟩:=h;simp only[Fr.noW,Hy,Jf,I4];refine⟨λq=>?_,ziu b _ (Ik _ j) A,ziu r z j B⟩;rcases g with ⟨_,g⟩|g
  ·apply g;rw[q];exact j
  ·omega
structure Rep (nb:Nat) (sz:Nat→Nat) (s:Ms) (t:Fs):Prop where
 rl:s.r.length=64
 r:∀x,x<64→s.r.getD x 0=t.r x
 bl:s.bufs.length=nb
 len:∀b,b<nb→(s.bufs.getD b []).length=sz b
 m:∀b n,b<nb→n<sz b→(s.bufs.getD b []).getD n 0=t.m b n
section rep
variable {nb : Nat} {sz : Nat → Nat} {s : Ms} {t : Fs}
def Rep.at(h:Rep nb sz s t){x:Int}(hx:x<64):atR s.r x=Tk t x:=by
 unfold atR Tk;split
 ·rfl
 ·exact h.r _ J
def Wd(l:List vQ)(i g:Nat)(v d:vQ)(h:i<l.length):(l.set i v).getD g d=if g=i then v else l.getD g d:=by
 simp only[Hv,L9];by_cases q:g=i
 ·subst q;simp[h]
 ·rw[Hx (Ne.symm q),Hx q]
def Rep.put(h:Rep nb sz s t){x:Int}{v:UInt64}{i:Nat}{f:Bool}{l:List (Int×Int)}(hx:x<64):Rep nb sz ⟨i,f,Nm s.r x v,s.bufs,l⟩ (Ru t x v):=by
 unfold Nm Ru;split
 ·refine⟨by simpa using h.rl,λy hy=>?_,h.bl,h.len,h.m⟩;show (s.r.set x.toNat v).getD y 0=if y=x.toNat then v else t.r y
  rw[Wd _ _ _ _ _ (by rw[h.rl];omega)];split
  ·rfl
  ·exact h.r y hy
 ·exact⟨h.rl,h.r,h.bl,h.len,h.m⟩
def Rep.ctl(h:Rep nb sz s t){i:Nat}{f:Bool}{l:List (Int×Int)}:Rep nb sz ⟨i,f,s.r,s.bufs,l⟩ t:=⟨h.rl,h.r,h.bl,h.len,h.m⟩
def Rep.sto(h:Rep nb sz s t){b n:Nat}{v:UInt64}{i:Nat}{f:Bool}{l:List (Int×Int)}(hb:b<nb)(hn:n<sz b):Rep nb sz ⟨i,f,s.r,s.bufs.set b ((s.bufs.getD b []).set n v),l⟩ (t.sto b n v):=by
 have gg:b<s.bufs.length:=by rw[h.bl];exact hb
 refine⟨h.rl,h.r,by simpa using h.bl,λx hx=>?_,λx y hx hy=>?_⟩
 ·show ((s.bufs.set b _).getD x []).length=_;rw[Wd _ _ _ _ _ gg];split
  ·rename_i q;subst q;rw[J3];exact h.len x hx
  ·exact h.len x hx
 ·show ((s.bufs.set b _).getD x []).getD y 0=if x=b∧y=n then v else t.m x y
  rw[Wd _ _ _ _ _ gg];by_cases q:x=b
  ·subst q;rw[H7 rfl,Wd _ _ _ _ _ (by rw[h.len x hx];exact hn)];by_cases q2:y=n
   ·simp[q2]
   ·simp only[q2,and_false,Lp];exact h.m x y hx hy
  ·simp only[q,false_and,Lp];exact h.m x y hx hy
end rep
def ziz{j:List Lo}{z:List Int}:∀(n k:Nat) (s g:Ms),Pq j z n s=some g→Pq j z (n+k) s=Pq j z k g
 |0,k,s,g,h=>by cases h;rw[Iy]
 |n+1,k,s,g,h=>by
  unfold Pq at h;split at h
  ·cases h
  ·rename_i A B;rw[(J:n+1+k=(n+k)+1)];show (match Rq j z s with|none=>none|some g=>Pq j z (n+k) g)=_;rw[B];exact ziz n k A g h
def doR_ok{nb:Nat}{sz:Nat→Nat}{s:Ms}{t E:Fs}{o:Lo}(h:Rep nb sz s t)(hd:o.d<64)(he:o.e<64)(F:o.a<64)(G:o.b<64)(H:o.c<64)(g:o.buf.toNat<nb)(z:Qu sz o t=some E) :
  ∃C,Vm o s=some C∧C.i=s.i+1∧C.first=s.first∧Rep nb sz C E∧C.l.length=s.l.length+1:=by
 unfold Qu at z;unfold Vm;rw[h.at F,h.at G,h.at H];unfold Uh;have I:o.buf.toNat<s.bufs.length:=by rw[h.bl];exact g
 split at z
 ·rename_i A;rw[H7 A,h.len _ g];split at z
  ·rename_i j;rw[H7 j];cases z;refine⟨_,rfl,rfl,rfl,?_,N⟩;rw[h.m _ _ g j];have D:=h.put (x:=o.d) (v:=t.m o.buf.toNat (o.imm+Tk t o.a).toNat) (i:=0) (f:=true) (l:=[]) hd;exact D.put he
  ·cases z
 ·rename_i A;rw[Hx A];split at z
  ·rename_i B;rw[H7 B,h.len _ g];split at z
   ·rename_i j;rw[H7 j];cases z;refine⟨_,rfl,rfl,rfl,?_,N⟩;have K:=h.sto (v:=Tk t o.b) (i:=0) (f:=true) (l:=[]) g j;have D:=K.put (x:=o.d) (v:=0) (i:=0) (f:=true) (l:=[]) hd;exact D.put he
   ·cases z
  ·rename_i B;rw[Hx B];cases z;refine⟨_,rfl,rfl,rfl,?_,N⟩;have D:=h.put (x:=o.d) (v:=(N8 o (Tk t o.a) (Tk t o.b) (decide (Tk t o.c%2=1))).1) (i:=0) (f:=true) (l:=[]) hd;exact D.put he
def Fr.costZ:Fr Lo→Nat
 |.nil=>0
 |.op _ r=>1+r.costZ
 |.loop o b _ r=>o.imm.toNat*(b.costZ+2)+r.costZ
def zdc{l:List vQ}{i:Nat}{a:vQ}{r:List vQ}(h:l.drop i=a::r):l[i]?=some a∧l.drop (i+1)=r:=by
 have g:=congrArg (λl=>l[0]?) h;simp at g;refine⟨g,?_⟩;rw[←List.drop_drop,h];rfl
def zqr{l a r:List vQ}{i:Nat}(h:l.drop i=a++r):l.drop (i+a.length)=r:=by
 rw[←List.drop_drop,h,List.drop_left]
def ofNat_lt:(UInt64.ofNat g+1:UInt64)=UInt64.ofNat (g+1):=by
 apply UInt64.toNat.inj;simp
def zix{os:List Lo}{es:List Int}{nb:Nat}{sz:Nat→Nat}:∀(f:Fr Lo) (i:Nat) (H:List Nat) (z:List Lo) (T:List Int) (s:Ms) (t K:Fs),f.wf Qz→f.regs nb H=true→os.drop i=f.flat++z→es.drop i=f.ends i++T→s.i=i→s.first=true→Rep nb sz s t→Tq sz f t=some K →
  ∃n j,Pq os es n s=some j∧j.i=i+f.size∧j.first=true∧Rep nb sz j K∧n≤f.costZ∧j.l.length≤s.l.length+f.costZ
 |.nil,i,H,z,T,s,t,K,_,_,_,_,hi,X,Y,C=>by
  cases C;exact⟨0,s,rfl,by simp[Fr.size,hi],X,Y,Ia _,Ia _⟩
 |.op o r,i,H,z,T,s,t,K,hw,L,ho,he,hi,X,Y,C=>by
  simp only[Fr.regs,Hy,xi,Ic,Jd]at L;obtain⟨⟨d1,d2⟩,⟨e1,e2⟩,a1,b1,c1,f1,L⟩:=L;have Z:o.d<64:=by rcases d2 with d2|d2<;>omega
  have e3:o.e<64:=by rcases e2 with e2|e2<;>omega
  simp only[Fr.flat,I6]at ho;simp only[Fr.ends,I6]at he;obtain⟨D,F⟩:=zdc ho;obtain⟨gF,G⟩:=zdc he;unfold Tq at C;split at C
  ·cases C
  rename_i t1 h1;obtain⟨s1,q1,q2,q3,q4,q5⟩:=doR_ok Y Z e3 a1 b1 c1 f1 h1;obtain⟨n,j,U,V,p3,M,p5,p6⟩:=zix r (i+1) H z T s1 t1 K hw.2 L F G (by rw[q2,hi]) (by rw[q3,X]) q4 C;have hk:=hw.1;have A:Rq os es s=some s1:=by
   unfold Rq;rw[hi,D];dsimp only;unfold Qz at hk;rw[Hx (λq=>by simp[q]at hk),Hx (λq=>by simp[q]at hk)];exact q1
  refine⟨n+1,j,?_,by rw[V];simp[Fr.size];omega,p3,M,by simp[Fr.costZ];omega,by simp[Fr.costZ];omega⟩;show (match Rq os es s with|none=>none|some j=>Pq os es n j)=_;rw[A];exact U
 |.loop o b e r,i,H,z,T,s,t,K,hw,L,ho,he,hi,X,Y,C=>by
  simp only[Fr.regs,Hy,xi,Ic,Jd]at L;obtain⟨⟨d1,d2⟩,d0,m1,gg,gG⟩:=L;have Z:o.d<64:=by rcases d2 with d2|d2<;>omega
  obtain⟨w1,w2,w3,w4⟩:=hw;have gz:o.kind=16:=by unfold Qz at w1;split at w1<;>first|assumption|(split at w1<;>omega)
  have gH:e.kind=17:=by
   unfold Qz at w2;split at w2
   ·omega
   ·split at w2
    ·assumption
    ·omega
  simp only[Fr.flat,I6,Jj]at ho;simp only[Fr.ends,I6,Jj]at he;obtain⟨D,F⟩:=zdc ho;obtain⟨gF,G⟩:=zdc he;have gA:=zqr F;have gC:=zqr G;rw[Fr.flat_len]at gA;rw[Fr.ends_len]at gC;obtain⟨gI,gK⟩:=zdc gA;obtain⟨gL,gD⟩:=zdc gC;have O:(es.getD (i+1+b.size) 0).toNat=i:=by rw[Hv,gL];simp
  unfold Tq at C;split at C
  ·cases C
  rename_i t1 h1;have gM:=ziu b (o.d.toNat::H) (I7 ..) gg;have gZ:=o.imm.toNat_lt;have P:∀(n B:Nat) (s:Ms) (t:Fs),1≤n→B+n=o.imm.toNat→s.i=i+1→s.first=true→Rep nb sz s (t.put o.d.toNat (UInt64.ofNat B))→nu (Tq sz b) o.d.toNat n B t=some t1 →
    ∃k j,Pq os es k s=some j∧j.i=i+b.size+2∧j.first=true∧Rep nb sz j t1∧k≤n*(b.costZ+2)-1∧j.l.length≤s.l.length+(n*(b.costZ+2)-1):=by
   intro n
   induction n with
   |zero=>intro B s t h;omega
   |succ n ih =>
    intro B s t _ hj gO gP gE E;unfold nu at E;split at E
    ·cases E
    rename_i t2 h2;obtain⟨k,g,U,V,p3,M,p5,p6⟩:=zix b (i+1) (o.d.toNat::H) _ _ s _ t2 w3 gg F G gO gP gE h2;have gQ:t2.r o.d.toNat=UInt64.ofNat B:=by
     rw[zzc b _ _ gM h2];show (if o.d.toNat=o.d.toNat then _ else _)=_;rw[H7 rfl]
    have gR:atR g.r o.d=UInt64.ofNat B:=by
     rw[M.at Z];unfold Tk;rw[Hx J,gQ]
    have A:Rq os es g=if UInt64.ofNat B+1<o.imm then some ⟨i,false,Nm g.r o.d (UInt64.ofNat B+1),g.bufs,g.l⟩ else some ⟨g.i+1,g.first,g.r,g.bufs,g.l⟩:=by
     unfold Rq;rw[V,gI];dsimp only;rw[Hx J,H7 gH,O,D];dsimp only;rw[gR]
    cases n with
    |zero =>
     have gT:¬(UInt64.ofNat B+1<o.imm):=by
      rw[Jm];have:(UInt64.ofNat B+1:UInt64).toNat=(B+1)%18446744073709551616:=N
      rw[this];by_cases q:B+1<18446744073709551616
      ·rw[Iv q];omega
      ·omega
     rw[Hx gT]at A;cases E;refine⟨k+1,⟨g.i+1,g.first,g.r,g.bufs,g.l⟩,?_,?_,p3,M.ctl,J,by show g.l.length≤_;omega⟩
     ·rw[ziz k 1 s g U];show (match Rq os es g with|none=>none|some j=>Pq os es 0 j)=_;rw[A];rfl
     ·show g.i+1=_;rw[V];omega
    |succ n =>
     have gU:UInt64.ofNat B+1<o.imm:=by
      rw[Jm];have:(UInt64.ofNat B+1:UInt64).toNat=(B+1)%18446744073709551616:=N
      rw[this,Iv J];omega
     rw[H7 gU]at A;have gV:(UInt64.ofNat B+1:UInt64)=UInt64.ofNat (B+1):=ofNat_lt;have Q:Rep nb sz ⟨i+1,true,Nm g.r o.d (UInt64.ofNat B+1),g.bufs,g.l++[((i:Int),-1)]⟩ (t2.put o.d.toNat (UInt64.ofNat (B+1))):=by
      have h:=M.put (x:=o.d) (v:=UInt64.ofNat B+1) (i:=i+1) (f:=true) (l:=g.l++[((i:Int),-1)]) Z;rw[gV]at h ⊢;unfold Ru at h;rw[H7 d0]at h;exact h
     obtain⟨I,s3,u1,u2,u3,u4,u5,u6⟩:=ih (B+1) _ t2 J J rfl rfl Q E;have hm:(n+1+1)*(b.costZ+2)=(n+1)*(b.costZ+2)+(b.costZ+2):=L7 _ _;have g9:b.costZ+2≤(n+1)*(b.costZ+2):=L8 _ J;refine⟨k+(I+2),s3,?_,u2,u3,u4,J,?_⟩
     ·rw[ziz k _ s g U];show (match Rq os es g with|none=>none|some j=>Pq os es (I+1) j)=_;rw[A];show (match Rq os es (⟨i,false,Nm g.r o.d (UInt64.ofNat B+1),g.bufs,g.l⟩:Ms) with|none=>none|some j=>Pq os es I j)=_;have:Rq os es (⟨i,false,Nm g.r o.d (UInt64.ofNat B+1),g.bufs,g.l⟩:Ms)=some ⟨i+1,true,Nm g.r o.d (UInt64.ofNat B+1),g.bufs,g.l++[((i:Int),-1)]⟩:=by
       unfold Rq;dsimp only;rw[D];dsimp only;rw[H7 gz];rfl
      rw[this];exact u1
     ·simp only[H9,Ig,Ix]at u6;omega
  have R:Rep nb sz ⟨i+1,true,Nm s.r o.d 0,s.bufs,s.l++[((i:Int),-1)]⟩ (t.put o.d.toNat (UInt64.ofNat 0)):=by
   have h:=Y.put (x:=o.d) (v:=0) (i:=i+1) (f:=true) (l:=s.l++[((i:Int),-1)]) Z;unfold Ru at h;rw[H7 d0]at h;exact h
  obtain⟨k,s1,U,V,p3,M,p5,p6⟩:=P o.imm.toNat 0 _ t m1 J rfl rfl R h1;have gY:b.costZ+2≤o.imm.toNat*(b.costZ+2):=L8 _ J;obtain⟨I,g,u1,u2,u3,u4,u5,u6⟩:=zix r (i+b.size+2) H z T s1 t1 K w4 gG (by rw[(J:i+b.size+2=i+1+b.size+1)];exact gK) (by rw[(J:i+b.size+2=i+1+b.size+1)]at gD ⊢;exact gD) V p3 M C;refine⟨(k+I)+1,g,?_,by rw[u2];simp[Fr.size];omega,u3,u4,by simp only[Fr.costZ];omega,?_⟩
  ·show (match Rq os es s with|none=>none|some j=>Pq os es (k+I) j)=_;have:Rq os es s=some ⟨i+1,true,Nm s.r o.d 0,s.bufs,s.l++[((i:Int),-1)]⟩:=by
    unfold Rq;rw[hi,D];dsimp only;rw[H7 gz,X];rfl
   rw[this];show Pq os es (k+I) _=_;rw[ziz k I _ s1 U];exact u1
  ·simp only[H9,Ig,Ix]at p6;simp only[Fr.costZ];omega
end
def Wh:Nat→List Nat→List Int→List Lo→List Int
 |_,_,g,[]=>g
 |i,st,g,o::l=>if o.kind=16 then Wh (i+1) (i::st) (g.set i (-1)) l
  else if o.kind=17 then (match st with
   |[]=>Wh (i+1) [] (g.set i (-1)) l
   |a::j=>Wh (i+1) j (((g.set i (-1)).set i a).set a i) l)
  else Wh (i+1) st (g.set i (-1)) l
def endsR_tree:∀(f:Fr Lo) (i:Nat) (st:List Nat) (j g:List Int) (z:List Lo),f.wf Qz→j.length=i →
  Wh i st (j++List.replicate f.size 0++g) (f.flat++z)=Wh (i+f.size) st (j++f.ends i++g) z
 |.nil,i,st,j,g,z,_,_=>by simp[Fr.flat,Fr.size,Fr.ends]
 |.op o r,i,st,j,g,z,w,B=>by
  have h:=endsR_tree r (i+1) st (j++[-1]) g z w.2 Ao;have G:=w.1;have K:¬o.kind=16:=λq=>by simp[Qz,q]at G
  have L:¬o.kind=17:=λq=>by simp[Qz,q]at G
  simp only[Fr.flat,Fr.size,Fr.ends,I6,Wh,K,L,Lp,K0];simp only[Jj,I6,Lz]at h ⊢;rw[La _ _ J,(J:i-j.length=0),Mz,h]
  congr 1;omega
 |.loop o b e r,i,st,j,g,z,w,B=>by
  obtain⟨C,D,M,O⟩:=w;have E:o.kind=16:=by unfold Qz at C;split at C<;>first|assumption|(split at C<;>omega)
  have F:e.kind=17:=by
   unfold Qz at D;split at D
   ·omega
   ·split at D
    ·assumption
    ·omega
  have H:=endsR_tree b (i+1) (i::st) (j++[-1]) ([0]++List.replicate r.size 0++g) (e::(r.flat++z)) M Ao;have I:=endsR_tree r (i+b.size+2) st (j++[((i+b.size+1:Nat):Int)]++b.ends (i+1)++[(i:Int)]) g z O (by simp[B,Fr.ends_len];omega);have P:List.replicate (b.size+r.size+2) (0:Int)=[0]++List.replicate b.size 0++([0]++List.replicate r.size 0):=by
   rw[(J:b.size+r.size+2=1+b.size+(1+r.size)),←Md,←Md,←Md];rfl
  simp only[Fr.flat,Fr.size,I6,Wh,E,Jo];rw[P];simp only[Jj,I6,Lz]at H I ⊢;rw[La _ _ J,(J:i-j.length=0),Mz,H];simp only[Wh,F];have A:(((j++(-1:Int)::(b.ends (i+1)++(0:Int)::(List.replicate r.size 0++g))).set (i+1+b.size) (-1)).set (i+1+b.size) (i:Int)).set i ((i+1+b.size:Nat):Int)
    = j++((i+b.size+1:Nat):Int)::(b.ends (i+1)++(i:Int)::(List.replicate r.size 0++g)):=by
   rw[List.set_set,La _ _ J,La _ _ J,(J:i+1+b.size-j.length=b.size+1),(J:i-j.length=0),M0,Mz,
    La _ _ (by rw[Fr.ends_len];exact Ia _),Fr.ends_len,Ll,Mz,(J:i+1+b.size=i+b.size+1)]
  rw[A,(J:i+1+b.size+1=i+b.size+2),I];simp only[Fr.ends,I6,Jj];rw[(J:i+(b.size+r.size+2)=i+b.size+2+r.size)];simp[Nat.add_comm]
def zyv{f:Fr Lo}(w:f.wf Qz):Wh 0 [] (List.replicate f.size 0) f.flat=f.ends 0:=by
 have h:=endsR_tree f 0 [] [] [] [] w rfl;simp only[Jp,Lz,Wh]at h;exact h
def tj{f:Fr Lo}:∀{d:Nat} {rest:List Lo},f.wf Qz→Xl Qz d rest→Xl Qz d (f.flat++rest):=by
 induction f with
 |nil=>intro d rest _ h;exact h
 |op o r z =>
  intro d rest w h;simp only[Fr.flat,I6];unfold Xl;rw[w.1,Hx Ac,Hx Ac];exact⟨rfl,z w.2 h⟩
 |loop o b e r g j =>
  intro d rest w h;obtain⟨A,B,C,D⟩:=w;simp only[Fr.flat,I6,Jj];unfold Xl;rw[A,H7 rfl];refine g C ?_;unfold Xl;rw[B,Hx Ac,H7 rfl];exact⟨J,j D h⟩
def endsR_len:∀(l:List Lo) (i:Nat) (st:List Nat) (g:List Int),(Wh i st g l).length=g.length
 |[],_,_,_=>rfl
 |o::l,i,st,g=>by
  unfold Wh;split
  ·rw[endsR_len];simp
  ·split
   ·split<;>rw[endsR_len]<;>simp
   ·rw[endsR_len];simp
def Wx:List (Int×Int)→Int→List Lo→Int
 |_,s,[]=>s
 |st,s,o::l=>if o.kind=16 then Wx ((s,(o.imm.toNat:Int))::st) 1 l
  else if o.kind=17 then (match st with
   |[]=>Wx [] s l
   |(j,t)::g=>Wx g (min 1125899906842624 ((if 1125899906842624/t<s then 1125899906842624 else s*t)+j)) l)
  else Wx st (min 1125899906842624 (s+1)) l
def Fr.stp:Fr Lo→Nat
 |.nil=>0
 |.op _ r=>1+r.stp
 |.loop o b _ r=>o.imm.toNat*(1+b.stp)+r.stp
def ztw{a b:Nat}(h:1≤a):b≤a*b:=L8 _ h
def zj0{I:Nat}:∀(f:Fr Lo) (j:List Nat) (st:List (Int×Int)) (s:Nat) (g:List Lo),f.wf Qz→f.regs I j=true→s+f.stp≤1125899906842624→Wx st s (f.flat++g)=Wx st ((s+f.stp:Nat):Int) g
 |.nil,_,st,s,g,_,_,_=>by simp[Fr.flat,Fr.stp]
 |.op o r,j,st,s,g,w,z,A=>by
  have H:=w.1;have K:¬o.kind=16:=λq=>by simp[Qz,q]at H
  have L:¬o.kind=17:=λq=>by simp[Qz,q]at H
  simp only[Fr.regs,Hy]at z;simp only[Fr.stp]at A ⊢;simp only[Fr.flat,I6,Wx,K,L,Lp];rw[(J:min (1125899906842624:Int) ((s:Int)+1)=((s+1:Nat):Int)),zj0 r j st (s+1) g w.2 z.2.2.2.2.2.2 J]
  congr 1;omega
 |.loop o b e r,j,st,s,g,w,z,A=>by
  obtain⟨B,C,M,O⟩:=w;have D:o.kind=16:=by unfold Qz at B;split at B<;>first|assumption|(split at B<;>omega)
  have E:e.kind=17:=by
   unfold Qz at C;split at C
   ·omega
   ·split at C
    ·assumption
    ·omega
  simp only[Fr.regs,Hy,Ic]at z;obtain⟨_,_,m1,F,G⟩:=z;simp only[Fr.stp]at A ⊢;have P:=ztw (b:=1+b.stp) m1;simp only[Fr.flat,I6,Jj,Wx,D,Jo];rw[show (1:Int)=((1:Nat):Int) from rfl,zj0 b _ _ 1 _ M F J];simp only[Wx,E];rw[Hx (Ac:¬(17:Int)=16),H7 trivial];have Q:¬(1125899906842624/((o.imm.toNat:Nat):Int)<((1+b.stp:Nat):Int)):=by
   have R:(1+b.stp)*o.imm.toNat≤1125899906842624:=by rw[Jt];omega
   have T:1+b.stp≤1125899906842624/o.imm.toNat:=(Nat.le_div_iff_mul_le m1).2 R;have U:((1125899906842624/o.imm.toNat:Nat):Int)=1125899906842624/((o.imm.toNat:Nat):Int):=N
   omega
  rw[Hx Q];have hm:(((1+b.stp:Nat):Int)*((o.imm.toNat:Nat):Int))=((o.imm.toNat*(1+b.stp):Nat):Int):=by rw[Jt];simp
  rw[hm,(J:min (1125899906842624:Int) (((o.imm.toNat*(1+b.stp):Nat):Int)+(s:Int))=((s+o.imm.toNat*(1+b.stp):Nat):Int)),zj0 r j st _ g O G J]
  congr 1;omega
def ns{f:Fr Lo}(w:f.wf Qz)(j:f.regs g vB=true)(z:f.stp≤1125899906842624):Wx [] 0 f.flat=f.stp:=by
 have h:=zj0 f vB [] 0 [] w j J;simp only[Jp,Wx,Iy]at h;exact h
def V7(b:Bf)(x:List UInt64):List UInt64:=x++List.replicate (b.size.toNat-x.length) 0
def Tt(bs:List Bf)(X:List (List UInt64))(n:Nat):List (List UInt64):=(List.range n).map λi=>V7 (Ns bs i) (X.getD i [])
def Qf(g:Int)(bs:List Bf)(X:List (List UInt64)):Ms:=⟨0,true,List.replicate g.toNat 0,Tt bs X bs.length,[]⟩
def ng(g:List Bf)(j:List (List UInt64))(n:Nat):(Tt g j n).length=n:=by simp[Tt]
def zfv(r:List UInt64)(x:Int)(v:UInt64):(Nm r x v).length=r.length:=Fe
structure SameLen (s s':Ms):Prop where
 r:s'.r.length=s.r.length
 b:s'.bufs.map List.length=s.bufs.map List.length
 i:s'.i=s.i+1
 l:s'.l.length=s.l.length+1
 f:s'.first=s.first
def doR_len{o:Lo}{s j:Ms}(h:Vm o s=some j):SameLen s j:=by
 unfold Vm at h;split at h
 ·split at h
  ·cases h;exact⟨by simp[zfv],rfl,rfl,N,rfl⟩
  ·cases h
 ·split at h
  ·split at h
   ·rename_i z;cases h;refine⟨by simp[zfv],?_,rfl,N,rfl⟩;show (s.bufs.set _ _).map List.length=_;rw[Ji,J3];refine Ma λA=>?_
    by_cases q:o.buf.toNat=A
    ·subst q;by_cases g:o.buf.toNat<s.bufs.length
     ·rw[H0 Be];simp[Uh,Hv,g]
     ·rw[Ke Be,Ke Be]
    ·rw[Hw q]
   ·cases h
  ·cases h;exact⟨by simp[zfv],rfl,rfl,N,rfl⟩
def zwj{os:List Lo}{es:List Int}{s:Ms}(h:os[s.i]?=none):∀n,Pq os es n s=some s
 |0=>rfl
 |n+1=>by
  show (match Rq os es s with|none=>none|some g=>Pq os es n g)=_;have:Rq os es s=some s:=by unfold Rq;rw[h]
  rw[this];exact zwj h n
def ends_at:∀(f:Fr Lo) (i j:Nat) (o:Lo),f.wf Qz→f.flat[j]?=some o→o.kind=17→∃k p,(f.ends i)[j]?=some ((i+k:Nat):Int)∧f.flat[k]?=some p∧p.kind=16
 |.nil,_,_,_,_,h,_=>by simp[Fr.flat]at h
 |.op a r,i,j,o,w,h,z=>by
  have C:=w.1;have H:¬a.kind=17:=λq=>by simp[Qz,q]at C
  cases j with
  |zero=>simp[Fr.flat]at h;subst h;exact absurd z H
  |succ j =>
   simp only[Fr.flat,Io]at h;obtain⟨k,p,A,g,B⟩:=ends_at r (i+1) j o w.2 h z;exact⟨k+1,p,by simp only[Fr.ends,Io];rw[A];congr 2;omega,by simpa only[Fr.flat,Io] using g,B⟩
 |.loop a b e r,i,j,o,w,h,z=>by
  obtain⟨D,M,I,K⟩:=w;have E:a.kind=16:=by unfold Qz at D;split at D<;>first|assumption|(split at D<;>omega)
  cases j with
  |zero=>simp[Fr.flat]at h;subst h;omega
  |succ j =>
   simp only[Fr.flat,Io]at h;simp only[Fr.ends,Io];by_cases G:j<b.size
   ·rw[H8 (by rw[Fr.flat_len];exact G)]at h;obtain⟨k,p,A,g,B⟩:=ends_at b (i+1) j o I h z;have F:k<b.size:=by rw[←Fr.flat_len];exact (Hu.1 g).1
    refine⟨k+1,p,?_,?_,B⟩
    ·rw[H8 (by rw[Fr.ends_len];exact G),A];congr 2;omega
    ·simp only[Fr.flat,Io];rw[H8 (by rw[Fr.flat_len];exact F)];exact g
   ·rw[Ij (by rw[Fr.flat_len];omega),Fr.flat_len]at h;rw[Ij (by rw[Fr.ends_len];omega),Fr.ends_len];cases L:j-b.size with
    |zero =>
     refine⟨0,a,N,by simp[Fr.flat],E⟩
    |succ m =>
     rw[L]at h;simp only[Io]at h ⊢;obtain⟨k,p,A,g,B⟩:=ends_at r (i+b.size+2) m o K h z;refine⟨k+b.size+2,p,by rw[A];congr 2;omega,?_,B⟩;simp only[Fr.flat,Io];rw[Ij (by rw[Fr.flat_len];omega),Fr.flat_len,(J:k+b.size+1-b.size=k+1),Io];exact g
noncomputable section
structure Pc where
 buf:Int
 at_:Int
 size:Int
def Pc.f(p:Pc):List LV:=[.i p.buf,.i p.at_,.i p.size]
def cK(d:Int)(n:UInt64):Lo:=⟨1,d,-1,-1,-1,-1,0,n⟩
def Qv(d a:Int):Lo:=⟨2,d,-1,a,-1,-1,0,0⟩
def M8(k d a b:Int):Lo:=⟨k,d,-1,a,b,-1,0,0⟩
def Q6(k d a g:Int):Lo:=⟨k,d,-1,a,-1,-1,0,iU g⟩
def N7(h l a b:Int):Lo:=⟨10,h,l,a,b,-1,0,0⟩
def Nv(k d g a b c:Int):Lo:=⟨k,d,g,a,b,c,0,0⟩
def Oc(d c a b:Int):Lo:=⟨13,d,-1,a,b,c,0,0⟩
def Nj(d:Int)(p:Pc)(i off:Int):Lo:=⟨14,d,-1,i,-1,-1,p.buf,iU (p.at_+off)⟩
def Nn(p:Pc)(i off b:Int):Lo:=⟨15,-1,-1,i,b,-1,p.buf,iU (p.at_+off)⟩
def Tn(d g:Int):Lo:=⟨16,d,-1,-1,-1,-1,0,iU g⟩
def T1:Lo:=⟨17,-1,-1,-1,-1,-1,0,0⟩
def Kp(e:Nat)(z j:M7):Prop:=z.length≤j.length∧∀(q:Nat) (g:LObj),q≠e→(∀A m k st,g≠LObj.dyn A m 8 k st)→z[q]?=some g→j[q]?=some g
def Kp.refl(e:Nat)(G:M7):Kp e G G:=⟨Ia _,λ_ _ _ _ h=>h⟩
def Kp.trans{e:Nat}{a b c:M7}(h:Kp e a b)(k:Kp e b c):Kp e a c:=⟨Ja h.1 k.1,λq ob h1 h2 h3=>k.2 q ob h1 h2 (h.2 q ob h1 h2 h3)⟩
def Kp.cells{e:Nat}{a b:M7}(h:Kp e a b){q st:Nat}{l:List LV}(hq:q≠e)(hc:a[q]?=some (.cells l st)):b[q]?=some (.cells l st):=h.2 q _ hq (λ_ _ _ _ e=>Ar) hc
def Kp.app{e:Nat}{a b:M7}(h:Kp e a b)(x:List LObj):Kp e a (b++x):=⟨by have:=h.1;simp;omega,λq ob h1 h2 h3=>by have h4:=h.2 q ob h1 h2 h3;rw[Nh (Hu.1 h4).1];exact h4⟩
def Kp.app'(e:Nat)(a:M7)(x:List LObj):Kp e a (a++x):=(Kp.refl e a).app x
def Ny(g:M7)(e:Nat)(ops:List Lo)(deep:Int):Prop:=∃(st:Nat) (v:LV),g[e]?=some (.cells [v,.i deep] st)∧Qn 0 g v 8 ops.length (Qh ops)
def Qn.set_cells{b:Nat}{G:M7}{v:LV}{n:Nat}{l:List LV}(h:Qn b G v j n l){q st:Nat}{c:List LV}{ob:LObj}(hq:G[q]?=some (.cells c st)):Qn b (G.set q ob) v j n l:=by
 obtain⟨h1,h2,h|⟨p,k,st,a,e,d⟩⟩:=h
 ·exact⟨h1,h2,.inl h⟩
 ·exact⟨h1,h2,.inr ⟨p,k,st,a,e,by rw[Hw (λq'=>by rw[q',d]at hq;cases hq)];exact d⟩⟩
def Qn.row{b:Nat}{G:M7}{v:LV}{esz n:Nat}{l:List LV}(h:Qn b G v esz n l){q:Nat}(e:v=.dy q j):∃R m k st,G[q]?=some (.dyn R m esz k st):=by
 obtain⟨_,_,⟨h,_⟩|⟨p,k,st,_,e2,d⟩⟩:=h
 ·rw[h]at e;cases e
 ·rw[e2]at e;cases e;exact⟨_,_,_,_,d⟩
def Ny.app{G:M7}{e:Nat}{ops:List Lo}{deep:Int}(h:Ny G e ops deep)(x:List LObj):Ny (G++x) e ops deep:=by
 obtain⟨st,v,h1,h2⟩:=h;exact⟨st,v,by rw[Nh (Hu.1 h1).1];exact h1,h2.push_end⟩
end
section
section made
variable {wk : Bool → Int} {a b Q1 : Nat → Int} {sec : Nat → Bool} {done busy : List Nat} {iv : Nat → Hl} {ps : Bool → St} {cur base : Int} {n : Nat}
end made
end
section
def xk{α:Type}(k:α→Int)(l:List α):Prop:=l.Pairwise λx y=>k x≤k y
section sym
variable {α : Type} {k : α → Int}
def xk.last{l:List α}(h:xk k l){u z:α}(hu:u∈l)(hz:l.getLast?=some z):k u≤k z:=by
 obtain⟨ys,rfl⟩:=List.getLast?_eq_some_iff.1 hz;have:=List.pairwise_append.1 h;rcases Ir.1 hu with q|q
 ·exact this.2.2 u q z N
 ·rw[M1.1 q];exact Int.le_refl _
def xk.head{l:List α}(h:xk k l){u z:α}(hu:u∈l)(hz:l.head?=some z):k z≤k u:=by
 obtain⟨ys,rfl⟩:=List.head?_eq_some_iff.1 hz;have:=List.pairwise_cons.1 h;rcases If.1 hu with q|q
 ·rw[q];exact Int.le_refl _
 ·exact this.1 u q
def Zw{l:List α}{u:α}(h:u∈l):∃j,l.getLast?=some j:=by
 cases g:l.getLast? with
 |none=>rw[List.getLast?_eq_none_iff]at g;subst g;cases h
 |some j=>exact⟨j,rfl⟩
def zzx{l:List α}{u:α}(h:u∈l):∃g,l.head?=some g:=by
 cases l with
 |nil=>cases h
 |cons g t=>exact⟨g,rfl⟩
def halves{z A B C:List α}(D:xk k (z++A))(E:xk k (B++C))(F:∀u w,z.getLast?=some u→C.head?=some w→k u≤k w)(G:∀u w,B.getLast?=some u→A.head?=some w→k u≤k w) :
  ∀u∈z++B,∀w∈A++C,k u≤k w:=by
 obtain⟨H,I,K⟩:=List.pairwise_append.1 D;obtain⟨L,M,O⟩:=List.pairwise_append.1 E;intro u hu w hw;rcases Ir.1 hu with hu|hu<;>rcases Ir.1 hw with hw|hw
 ·exact K u hu w hw
 ·obtain⟨P,g⟩:=Zw hu;obtain⟨y,j⟩:=zzx hw;exact Int.le_trans (xk.last H hu g) (Int.le_trans (F P y g j) (xk.head M hw j))
 ·obtain⟨P,g⟩:=Zw hu;obtain⟨y,j⟩:=zzx hw;exact Int.le_trans (xk.last L hu g) (Int.le_trans (G P y g j) (xk.head I hw j))
 ·exact O u hu w hw
end sym
end
def fq(g:List Vr):S9 g (Vs 0 g) []=Rb g:=by
 unfold S9;cases hv:Rb g with
 |false=>rfl
 |true =>
  have D:=zgj hv;have z:=startOs_len g 0;obtain⟨m,A,E,B⟩:=zfs g 0 (fi g) rfl (by simp[fi]) (λF j=>J) (λF _ j=>by
   unfold gb fi;rw[Hv,Jw,Tw j];rfl)
  rw[A];have hm:xb g m=true:=by
   unfold xb;rw[Jv];intro i hi;simp[B i (Kh.1 hi)]
  have C:(Vs 0 g).length≤4096:=J
  simp[hm,C]
def Qm(l:List Pc)(n:Nat):Pc:=l.getD n ⟨0,0,0⟩
def ku(g:List Bf):Int :=
 if 32<g.length then 3 else if (g.any λb=>decide (65536<b.size))=true then 3 else if (g.any λb=>decide (b.size<1) || (decide (b.kind<1) || decide (3<b.kind)))=true then 2 else 0
def Wv(g:List Bf)(x:Pc):Bool:=decide (0≤x.buf)&&(decide (x.buf<g.length)&&(decide (1≤x.size)&&(decide (x.size≤32768)&&(decide (0≤x.at_)&&(decide (x.at_≤(Ns g x.buf.toNat).size)&&decide (x.size≤(Ns g x.buf.toNat).size-x.at_))))))
def mc(g:List Bf)(v:Vr)(x:Pc):Bool :=
 Wv g x&&(decide (x.size=v.limbs)&&(!(decide ((Ns g x.buf.toNat).kind=1) && !Sd v)&&(!(decide ((Ns g x.buf.toNat).kind=2)&&Sd v)&&(v.sec==(Ns g x.buf.toNat).sec))))
def Wm(g:List Bf)(s:Bool)(x:Pc):Bool:=Wv g x&&(!decide ((Ns g x.buf.toNat).kind=1)&&((Ns g x.buf.toNat).sec==s))
def Wa(j:List Vr)(g:List Bf)(z:List Pc)(A B:Pc):Bool :=
 Rb j&&(decide (1≤g.length)&&(decide (z.length=j.length)&&(decide (ku g=0)&&(((List.range j.length).all λi=>mc g (gv j i) (Qm z i))&&(Wm g false A&&Wm g true B)))))
def Vp(l:List Pc):List LV:=l.flatMap Pc.f
section
def Nd:List Lo→Fr Lo
 |[]=>.nil
 |o::l=>.op o (Nd l)
def Fr.cat{α:Type}:Fr α→Fr α→Fr α
 |.nil,g=>g
 |.op o r,g=>.op o (r.cat g)
 |.loop o b e r,g=>.loop o b e (r.cat g)
def flat_frL:∀l:List Lo,(Nd l).flat=l
 |[]=>rfl
 |o::l=>by rw[Nd,Fr.flat,flat_frL l]
def P8{j:Type}:∀f g:Fr j,(f.cat g).flat=f.flat++g.flat
 |.nil,g=>rfl
 |.op o r,g=>by rw[Fr.cat,Fr.flat,Fr.flat,P8 r g];rfl
 |.loop o b e r,g=>by rw[Fr.cat,Fr.flat,Fr.flat,P8 r g];simp
def frL_app:∀a b:List Lo,Nd (a++b)=(Nd a).cat (Nd b)
 |[],_=>rfl
 |o::a,b=>by rw[I6,Nd,Nd,Fr.cat,frL_app a b]
def stp_cat:∀f g:Fr Lo,(f.cat g).stp=f.stp+g.stp
 |.nil,g=>by simp[Fr.cat,Fr.stp]
 |.op o r,g=>F3
 |.loop o b e r,g=>F3
def So(l:List Lo):(Nd l).stp=l.length:=by
 induction l with
 |nil=>rfl
 |cons o l g=>rw[Nd,Fr.stp,g,Ig];omega
section ex
variable {sz : Nat → Nat} {s : Fs}
def exZ_cat:∀(f g:Fr Lo) (s:Fs),Tq sz (f.cat g) s=(Tq sz f s).bind (Tq sz g)
 |.nil,g,s=>rfl
 |.op o r,g,s=>by
  rw[Fr.cat,Tq,Tq];cases Qu sz o s with
  |none=>rfl
  |some j=>exact exZ_cat r g j
 |.loop o b e r,g,s=>by
  rw[Fr.cat,Tq,Tq];cases nu (Tq sz b) o.d.toNat o.imm.toNat 0 s with
  |none=>rfl
  |some j=>exact exZ_cat r g j
def Tx(sz:Nat→Nat)(f:Fr Lo)(s:Fs)(j:Fs→Prop):Prop:=∃g,Tq sz f s=some g∧j g
def Tx.nil{Q:Fs→Prop}(h:Q s):Tx sz .nil s Q:=⟨s,rfl,h⟩
def Tx.op{o:Lo}{r:Fr Lo}{s1:Fs}{Q:Fs→Prop}(h:Qu sz o s=some s1)(k:Tx sz r s1 Q):Tx sz (.op o r) s Q:=by
 obtain⟨s',h1,h2⟩:=k;exact⟨s',by rw[Tq,h];exact h1,h2⟩
def Tx.cat{f g:Fr Lo}{Q R:Fs→Prop}(h:Tx sz f s R)(k:∀s',R s'→Tx sz g s' Q):Tx sz (f.cat g) s Q:=by
 obtain⟨s1,h1,h2⟩:=h;obtain⟨s2,h3,h4⟩:=k s1 h2;exact⟨s2,by rw[exZ_cat,h1];exact h3,h4⟩
def Tx.mono{f:Fr Lo}{Q R:Fs→Prop}(h:Tx sz f s R)(k:∀s',R s'→Q s'):Tx sz f s Q:=by
 obtain⟨s1,h1,h2⟩:=h;exact⟨s1,h1,k s1 h2⟩
def it_ex{f:Fs→Option Fs}{d:Nat}{z:Nat→Fs→Prop}:∀(n j:Nat) (s:Fs),z j s→(∀i s,i<j+n→z i s→∃g,f (s.put d (UInt64.ofNat i))=some g∧z (i+1) g)→∃g,nu f d n j s=some g∧z (j+n) g
 |0,j,s,h,_=>⟨s,rfl,h⟩
 |n+1,j,s,h,k=>by
  obtain⟨A,B,C⟩:=k j s J h;obtain⟨D,E,F⟩:=it_ex n (j+1) A C λi s hi G=>k i s J G
  refine⟨D,?_,by rw[(J:j+(n+1)=j+1+n)];exact F⟩;show (match f (s.put d (UInt64.ofNat j)) with|none=>none|some g=>nu f d n (j+1) g)=_;rw[B];exact E
def Tx.loop{o e:Lo}{b r:Fr Lo}{Q:Fs→Prop}(I:Nat→Fs→Prop)(h0:I 0 s)(h1:∀i s,i<o.imm.toNat→I i s→Tx sz b (s.put o.d.toNat (UInt64.ofNat i)) (I (i+1)))(h2:∀s',I o.imm.toNat s'→Tx sz r s' Q):Tx sz (.loop o b e r) s Q:=by
 obtain⟨s1,h3,h4⟩:=it_ex o.imm.toNat 0 s h0 λi s hi hI=>h1 i s J hI
 rw[Iy]at h4;obtain⟨s2,h5,h6⟩:=h2 s1 h4;exact⟨s2,by rw[Tq,h3];exact h5,h6⟩
def Zz(s:Fs)(d:Nat)(v:UInt64):Ru s (d:Int) v=s.put d v:=by unfold Ru;rw[H7 J];rfl
def eh(s:Fs)(v:UInt64):Ru s (-1) v=s:=by unfold Ru;rw[Hx J]
def Z8(s:Fs)(d:Nat):Tk s (d:Int)=s.r d:=by unfold Tk;rw[Hx J];rfl
def uf(s:Fs):Tk s (-1)=0:=by unfold Tk;rw[H7 J]
def V9{d:Nat}{v:UInt64}:Qu sz (cK d v) s=some (s.put d v):=by simp[Qu,cK,N8,Zz,eh]
def zn6{d a:Nat}:Qu sz (Qv d a) s=some (s.put d (s.r a)):=by simp[Qu,Qv,N8,Zz,eh,Z8]
def zel{d a b:Nat}:Qu sz (M8 3 d a b) s=some (s.put d (s.r a+s.r b)):=C4
def Zx{d a b:Nat}:Qu sz (M8 4 d a b) s=some (s.put d (s.r a-s.r b)):=C4
def zzp{d a b:Nat}:Qu sz (M8 6 d a b) s=some (s.put d (s.r a ||| s.r b)):=C4
def ae{d a b:Nat}:Qu sz (M8 7 d a b) s=some (s.put d (s.r a ^^^ s.r b)):=C4
def zk9{h l a b:Nat}:Qu sz (N7 h l a b) s=some ((s.put h (T2 (s.r a) (s.r b))).put l (s.r a*s.r b)):=by simp[Qu,N7,N8,Zz,Z8]
def zuc{d e a b c:Nat}:Qu sz (Nv 11 d e a b c) s=some ((s.put d (Nr (s.r a) (s.r b) (decide (s.r c%2=1))).1).put e (Oe (Nr (s.r a) (s.r b) (decide (s.r c%2=1))).2)):=by simp[Qu,Nv,N8,Zz,Z8]
def zk5{d e a b c:Nat}:Qu sz (Nv 12 d e a b c) s=some ((s.put d (Ov (s.r a) (s.r b) (decide (s.r c%2=1))).1).put e (Oe (Ov (s.r a) (s.r b) (decide (s.r c%2=1))).2)):=by simp[Qu,Nv,N8,Zz,Z8]
def zpe{d c a b:Nat}:Qu sz (Oc d c a b) s=some (s.put d (if s.r c%2=1 then s.r a else s.r b)):=by
 simp[Qu,Oc,N8,Zz,eh,Z8]
def opZ_ld{d i:Nat}{p:Pc}{b n:Nat}(j:p.buf=(b:Int))(A:(iU (p.at_+z)+s.r i).toNat=n)(g:n<sz b):Qu sz (Nj d p i z) s=some (s.put d (s.m b n)):=by
 simp[Qu,Nj,Zz,eh,Z8,j,A,g]
def opZ_ld0{d:Nat}{p:Pc}{b n:Nat}(j:p.buf=(b:Int))(A:(iU (p.at_+z)).toNat=n)(g:n<sz b):Qu sz (Nj d p (-1) z) s=some (s.put d (s.m b n)):=by
 simp[Qu,Nj,Zz,eh,uf,j,A,g]
def opZ_st{v i:Nat}{p:Pc}{b n:Nat}(j:p.buf=(b:Int))(A:(iU (p.at_+z)+s.r i).toNat=n)(g:n<sz b):Qu sz (Nn p i z v) s=some (s.sto b n (s.r v)):=by
 simp[Qu,Nn,eh,Z8,j,A,g]
def opZ_st0{v:Nat}{p:Pc}{b n:Nat}(j:p.buf=(b:Int))(A:(iU (p.at_+z)).toNat=n)(g:n<sz b):Qu sz (Nn p (-1) z v) s=some (s.sto b n (s.r v)):=by
 simp[Qu,Nn,eh,uf,Z8,j,A,g]
end ex
def Na(s:Fs)(d x:Nat)(v:UInt64):(s.put d v).r x=if x=d then v else s.r x:=rfl
def Pb(s:Fs)(d:Nat)(v:UInt64):(s.put d v).m=s.m:=rfl
def S6(s:Fs)(b n:Nat)(v:UInt64):(s.sto b n v).r=s.r:=rfl
def Zo(s:Fs)(b n x y:Nat)(v:UInt64):(s.sto b n v).m x y=if x=b∧y=n then v else s.m x y:=rfl
def S7(s:Ms):Fs:=⟨λx=>s.r.getD x 0,λb n=>(s.bufs.getD b []).getD n 0⟩
def yi(s:Ms):Nat→Nat:=λb=>(s.bufs.getD b []).length
def Rep.abs(s:Ms)(h:s.r.length=64):Rep s.bufs.length (yi s) s (S7 s):=⟨h,λ_ _=>rfl,rfl,λ_ _=>rfl,λ_ _ _ _=>rfl⟩
end
def zj6{d:Int}{v:UInt64}(h:0≤d∧d<z):Qg z Z (cK d v)=true:=by
 simp[Qg,cK,Ri,Q0,Q2,Rk,Wl,Wr,Pf,h]
def ip{d a:Int}(h:0≤d∧d<z)(g:0≤a∧a<z):Qg z Z (Qv d a)=true:=by
 simp[Qg,Qv,Ri,Q0,Q2,Rk,Wl,Wr,Pf,h,g]
def zd4{k d a b:Int}(B:3≤k∧k≤7)(h:0≤d∧d<z)(g:0≤a∧a<z)(j:0≤b∧b<z):Qg z Z (M8 k d a b)=true:=by
 have A:k=3∨k=4∨k=5∨k=6∨k=7:=J
 rcases A with rfl|rfl|rfl|rfl|rfl<;>simp[Qg,M8,Ri,Q0,Q2,Rk,Wl,Wr,Pf,h,g,j]
def zdr{d e a b:Int}(h:0≤d∧d<z)(he:0≤e∧e<z)(g:0≤a∧a<z)(j:0≤b∧b<z)(A:d≠e):Qg z Z (N7 d e a b)=true:=by
 simp[Qg,N7,Ri,Q0,Q2,Rk,Wl,Wr,Pf,h,g,j,he,A]
def zy8{k d e a b c:Int}(g:k=11∨k=12)(h:0≤d∧d<z)(he:0≤e∧e<z)(j:0≤a∧a<z)(A:0≤b∧b<z)(B:0≤c∧c<z)(C:d≠e):Qg z Z (Nv k d e a b c)=true:=by
 rcases g with rfl|rfl<;>simp[Qg,Nv,Ri,Q0,Q2,Rk,Wl,Wr,Pf,h,j,A,B,he,C]
def zxs{d c a b:Int}(h:0≤d∧d<z)(g:0≤c∧c<z)(j:0≤a∧a<z)(A:0≤b∧b<z):Qg z Z (Oc d c a b)=true:=by
 simp[Qg,Oc,Ri,Q0,Q2,Rk,Wl,Wr,Pf,h,j,A,g]
def zs3{d i:Int}{p:Pc}(h:0≤d∧d<z)(hi:i=-1∨0≤i∧i<z)(g:0≤p.buf∧p.buf<Z.length)(hm:i=-1→iU (p.at_+B)<iU (Ns Z p.buf.toNat).size):Qg z Z (Nj d p i B)=true:=by
 rcases hi with rfl|hi
 ·simp[Qg,Nj,Ri,Q0,Q2,Rk,Wl,Wr,Pf,h,g,hm rfl]
 ·have:i≠-1:=J
  simp[Qg,Nj,Ri,Q0,Q2,Rk,Wl,Wr,Pf,h,g,hi,this]
def zqg{v i:Int}{p:Pc}(h:0≤v∧v<z)(hi:i=-1∨0≤i∧i<z)(g:0≤p.buf∧p.buf<Z.length)(j:(Ns Z p.buf.toNat).kind≠1)(hm:i=-1→iU (p.at_+B)<iU (Ns Z p.buf.toNat).size):Qg z Z (Nn p i B v)=true:=by
 rcases hi with rfl|hi
 ·simp[Qg,Nn,Ri,Q0,Q2,Rk,Wl,Wr,Pf,h,g,hm rfl,j]
 ·have:i≠-1:=J
  simp[Qg,Nn,Ri,Q0,Q2,Rk,Wl,Wr,Pf,h,g,hi,this,j]
def Pk(g:Int)(j:List Bf):List Int→List Lo→Prop
 |_,[]=>True
 |S,o::l=>Qg g j o=true∧(o.kind≠16∧o.kind≠17)∧(∀x∈Oy o,x∈S)∧Pk g j (Nf o++S) l
def zou{g:Int}{A:List Bf}:∀{l:List Lo} {S z:List Int},(∀x∈S,x∈z)→Pk g A S l→Pk g A z l
 |[],_,_,_,_=>trivial
 |o::l,S,z,h,k=>⟨k.1,k.2.1,λx j=>h x (k.2.2.1 x j),zou (λx j=>by
   rcases Ir.1 j with j|j
   ·exact Li _ j
   ·exact Iw _ (h x j)) k.2.2.2⟩
def zu7{g:Int}{z:List Bf}:∀{a b:List Lo} {S:List Int},Pk g z S a→Pk g z ((a.flatMap Nf)++S) b→Pk g z S (a++b)
 |[],b,S,_,k=>by simpa using k
 |o::a,b,S,h,k=>⟨h.1,h.2.1,h.2.2.1,zu7 h.2.2.2 (zou (λx j=>by
   simp only[Kx,Ir]at j ⊢;rcases j with (j|j)|j
   ·exact .inr (.inl j)
   ·exact .inl j
   ·exact .inr (.inr j)) k)⟩
def zx0{a b:List Lo}{S:List Int}(h:Pk z Z S a)(k:Pk z Z S b):Pk z Z S (a++b) :=
 zu7 h (zou (λ_ g=>Iw _ g) k)
def lg(g:Int)(m:List Bool)(S:List Int):Prop:=(m.length:Int)=g∧∀x∈S,0≤x∧x<g∧Pj m x=true
def za7{m:List Bool}{a x:Int}(g:0≤a∧a<m.length)(j:0≤x):Pj (m.set a.toNat true) x=true↔x=a∨Pj m x=true:=by
 unfold Pj;rw[Wd _ _ _ _ _ J];by_cases e:x.toNat=a.toNat
 ·rw[H7 e];simp;left;omega
 ·rw[Hx e];constructor
  ·exact .inr
  ·rintro (rfl|h)
   ·exact absurd rfl e
   ·exact h
def lg.fold{regs:Int}:∀(mk:List Int) (m:List Bool) (S:List Int),lg regs m S→(∀x∈mk,0≤x∧x<regs)→lg regs (mk.foldl (λm r=>m.set r.toNat true) m) (mk++S)
 |[],_,_,h,_=>h
 |a::mk,m,S,h,hr=>by
  have ha:=hr a (I7 ..);have h1:lg regs (m.set a.toNat true) (a::S):=by
   refine⟨by simpa using h.1,λx hx=>?_⟩;rcases If.1 hx with rfl|hx
   ·exact⟨ha.1,ha.2,(za7 ⟨ha.1,by rw[h.1];exact ha.2⟩ ha.1).2 (.inl rfl)⟩
   ·obtain⟨h1,h2,h3⟩:=h.2 x hx;exact⟨h1,h2,(za7 ⟨ha.1,by rw[h.1];exact ha.2⟩ h1).2 (.inr h3)⟩
  have h2:=lg.fold mk _ _ h1 λx hx=>hr x (Ik _ hx)
  refine⟨h2.1,λx hx=>h2.2 x ?_⟩;simp only[Ir,If]at hx ⊢;rcases hx with (hx|hx)|hx
  ·exact .inr (.inl hx)
  ·exact .inl hx
  ·exact .inr (.inr hx)
def sm{m:List Bool}{ls:List Int}{o:Lo}(B:Qg z Z o=true)(g:o.kind≠16)(j:o.kind≠17)(hm:∀x∈Nf o,¬x∈ls)(C:∀x∈Oy o,Pj m x=true) :
  Vn z Z m ls o=(0,(Nf o).foldl (λm r=>m.set r.toNat true) m,ls):=by
 unfold Vn;rw[Hx (by rw[B];decide),Hx j,Hx,Hx (λq=>g q.1),Hx (λq=>g q.1),Hx,Hx g]
 ·rw[Jb];rintro⟨x,A,h⟩;rw[C x A]at h;cases h
 ·rw[Jb];rintro⟨x,A,h⟩;exact hm x A Ax
def zxe{o:Lo}(h:Qg z Z o=true):∀x∈Nf o,0≤x∧x<z:=by
 unfold Qg at h;simp only[Hy,Ic]at h;obtain⟨⟨B,C⟩,d,e,_⟩:=h;have j:∀{x:Int},Ri z x true=true→0≤x∧x<z:=λh=>by unfold Ri at h;simpa using h
 intro x g;unfold Nf at g;split at g
 ·rename_i A;have hd:Q0 o.kind=true:=by rcases A with h|h|h<;>rw[h]<;>rfl
  have he:Q2 o.kind=true:=by rcases A with h|h|h<;>rw[h]<;>rfl
  rw[hd]at d;rw[he]at e;simp at g;rcases g with rfl|rfl
  ·exact j d
  ·exact j e
 ·split at g
  ·cases g
  ·rename_i A;have hd:Q0 o.kind=true:=by simp[Q0];omega
   rw[hd]at d;simp at g;subst g;exact j d
def mp(n r:Int):List Lo:=[cK (r+3) 3,N7 (r+1) r n (r+3),cK (r+3) 2,M8 7 r r (r+3)]
def zqb(n r:Int):List Lo:=[N7 (r+1) (r+2) n r,M8 4 (r+2) (r+3) (r+2),N7 (r+1) r r (r+2)]
def Ye(n r:Int)(i:Nat):List Lo:=(List.range i).flatMap λ_=>zqb n r
def zdf(n r:Int)(i:Nat):Ye n r (i+1)=Ye n r i++zqb n r:=by simp[Ye,List.range_succ]
def zkd(n r:Int)(i:Nat):(Ye n r i).length=3*i:=by
 induction i with
 |zero=>rfl
 |succ i g=>rw[zdf,H9,g];simp[zqb];omega
def Uw(n r:Int):List Lo:=mp n r++(Ye n r 5++[cK (r+3) 0,M8 4 r (r+3) r])
def xor2(x:Nat):x ^^^ 2=if x%4<2 then x+2 else x-2:=by
 have B:(x ^^^ 2)/4=x/4:=by
  have:=Nat.xor_div_two_pow (a:=x) (b:=2) (n:=2);simpa using this
 have g:(x ^^^ 2)%4=(x%4) ^^^ 2:=by
  have:=Nat.xor_mod_two_pow (a:=x) (b:=2) (n:=2);simpa using this
 have j:x%4<4:=J1 _ Ac;have A:(x%4) ^^^ 2=if x%4<2 then x%4+2 else x%4-2:=by
  generalize x%4=c at j ⊢
  match c,j with
  |0,_=>rfl
  |1,_=>rfl
  |2,_=>rfl
  |3,_=>rfl
 rw[A]at g;split at g<;>rename_i z
 ·rw[H7 z];omega
 ·rw[Hx z];omega
def nh(k c:Nat)(j:c%2=1):∃t,k*(3*k+c)=2*t:=by
 have h:k*(3*k+c)%2=0:=by
  have g:k%2=0∨k%2=1:=J
  rw[Jh,Nat.add_mod,Jh 3 k];rcases g with g|g<;>simp[g,j]
 exact⟨k*(3*k+c)/2,J⟩
def reck0(a:UInt64)(h:a%2=1):∃t:UInt64,a*((a*3) ^^^ 2)=1+32*t:=by
 have H:a.toNat%2=1:=by
  have:=congrArg UInt64.toNat h;simpa using this
 have g:((a*3) ^^^ 2:UInt64).toNat=(a.toNat*3%18446744073709551616) ^^^ 2:=N
 rw[xor2]at g;have E:a.toNat*3%18446744073709551616<18446744073709551616:=J1 _ Ac;obtain⟨k,D⟩:∃k,a.toNat=4*k+a.toNat%4:=⟨a.toNat/4,J⟩;have F:a.toNat*3%18446744073709551616%4=a.toNat*3%4:=Nat.mod_mod_of_dvd _ Ac;have A:a=UInt64.ofNat a.toNat:=N
 have z:a.toNat%4=1∨a.toNat%4=3:=J
 rcases z with z|z
 ·rw[Hx J]at g;have j:(a*3) ^^^ 2=a*3-2:=by
   apply UInt64.toNat.inj;rw[g,Lt];simp;omega
  obtain⟨t,B⟩:=nh k 1 rfl;have G:a=4*UInt64.ofNat k+1:=by rw[A,D,z];simp
  have C:UInt64.ofNat k*(3*UInt64.ofNat k+1)=2*UInt64.ofNat t:=by
   have:=congrArg UInt64.ofNat B;simpa using this
  refine⟨UInt64.ofNat t,?_⟩;rw[j];generalize UInt64.ofNat k=b at *;generalize UInt64.ofNat t=u at *;clear g A
  grind
 ·rw[H7 J]at g;have j:(a*3) ^^^ 2=a*3+2:=by
   apply UInt64.toNat.inj;rw[g,Jk];simp;omega
  obtain⟨t,B⟩:=nh k 5 rfl;have G:a=4*UInt64.ofNat k+3:=by rw[A,D,z];simp
  have C:UInt64.ofNat k*(3*UInt64.ofNat k+5)=2*UInt64.ofNat t:=by
   have:=congrArg UInt64.ofNat B;simpa using this
  refine⟨UInt64.ofNat t+1,?_⟩;rw[j];generalize UInt64.ofNat k=b at *;generalize UInt64.ofNat t=u at *;clear g A
  grind
def nwt(a x:UInt64):UInt64:=x*(2-a*x)
def zrl(a x:UInt64):1-a*nwt a x=(1-a*x)*(1-a*x):=by unfold nwt;grind
def zv6(a:UInt64):UInt64:=nwt a (nwt a (nwt a (nwt a (nwt a ((a*3) ^^^ 2)))))
def sq32(t:UInt64):((32*t)*(32*t))*((32*t)*(32*t))=1048576*(t*t*(t*t)):=Ei
def jm(a:UInt64)(h:a%2=1):a*zv6 a=1:=by
 obtain⟨t,j⟩:=reck0 a h;have g:1-a*((a*3) ^^^ 2)=32*(0-t):=by rw[j];grind
 generalize 0-t=u at g;have z:1-a*zv6 a=0:=by
  unfold zv6;rw[zrl,zrl,zrl,zrl,zrl,g];have A:(32*u)*(32*u)*((32*u)*(32*u))=1048576*(u*u*(u*u)):=sq32 u;rw[A];generalize u*u*(u*u)=w;have B:(1048576*w)*(1048576*w)*((1048576*w)*(1048576*w))=0:=by
   have:(1048576*w)*(1048576*w)*((1048576*w)*(1048576*w))=(1048576*1048576*(1048576*1048576))*(w*w*(w*w)):=Ei
   rw[this,(Ac:(1048576*1048576*(1048576*1048576):UInt64)=0)];simp
  rw[B];simp
 have:a*zv6 a=1-(1-a*zv6 a):=Ei
 rw[this,z];rfl
def nwtI(a x:UInt64):Nat→UInt64
 |0=>x
 |i+1=>nwt a (nwtI a x i)
def reck_ex{I:Nat→Nat}{s:Fs}{n r:Nat}(h:¬(r≤n∧n≤r+3)):Tx I (Nd (Uw n r)) s λg=>g.r r=0-zv6 (s.r n)∧g.m=s.m∧∀x,¬(r≤x∧x≤r+3)→g.r x=s.r x:=by
 have L:Uw (n:Int) (r:Int)=[cK ((r+3:Nat):Int) 3,N7 ((r+1:Nat):Int) (r:Nat) (n:Nat) ((r+3:Nat):Int),cK ((r+3:Nat):Int) 2,M8 7 (r:Nat) (r:Nat) ((r+3:Nat):Int)]++(Ye n r 5++[cK ((r+3:Nat):Int) 0,M8 4 (r:Nat) ((r+3:Nat):Int) (r:Nat)]):=rfl;have j:∀(i:Nat) (s:Fs),s.r (r+3)=2→Tx I (Nd (Ye n r i)) s λg=>g.r (r+3)=2∧g.r r=nwtI (s.r n) (s.r r) i∧g.m=s.m∧∀x,¬(r≤x∧x≤r+3)→g.r x=s.r x:=by
  intro i
  induction i with
  |zero=>intro s D;exact .nil ⟨D,rfl,rfl,λ_ _=>rfl⟩
  |succ i M =>
   intro s D;rw[zdf,frL_app];refine (M s D).cat λK ⟨C,E,F,z⟩=>?_
   have O:zqb (n:Int) (r:Int)=[N7 ((r+1:Nat):Int) ((r+2:Nat):Int) (n:Nat) (r:Nat),M8 4 ((r+2:Nat):Int) ((r+3:Nat):Int) ((r+2:Nat):Int),N7 ((r+1:Nat):Int) (r:Nat) (r:Nat) ((r+2:Nat):Int)]:=rfl;rw[O];refine .op zk9 (.op Zx (.op zk9 (.nil ⟨?_,?_,?_,λx A=>?_⟩)))
   ·simp[Na,C]
   ·have P:=z n h;have Q:¬n=r:=J
    simp[Na,C,E,P,nwt,nwtI]
   ·simp[Pb,F]
   ·have B:¬x=r:=J
    have G:¬x=r+1:=J
    have T:¬x=r+2:=J
    simp[Na,B,G,T,z x A]
 rw[L,frL_app];refine Tx.cat (R:=λg=>g.r (r+3)=2∧g.r r=(s.r n*3) ^^^ 2∧g.m=s.m∧∀x,¬(r≤x∧x≤r+3)→g.r x=s.r x) (.op V9 (.op zk9 (.op V9 (.op ae (.nil ⟨?_,?_,?_,λx A=>?_⟩))))) λK ⟨C,E,F,z⟩=>?_
 ·simp[Na]
 ·have U:¬n=r+3:=J
  simp[Na,U]
 ·simp[Pb]
 ·have B:¬x=r:=J
  have G:¬x=r+1:=J
  have H:¬x=r+3:=J
  simp[Na,B,G,H]
 rw[frL_app];refine (j 5 K C).cat λZ ⟨b1,V,X,Y⟩=>?_
 refine .op V9 (.op Zx (.nil ⟨?_,?_,λx A=>?_⟩))
 ·simp[Na,V,E,z n h,zv6,nwtI]
 ·simp[Pb,X,F]
 ·have B:¬x=r:=J
  have H:¬x=r+3:=J
  simp[Na,B,H,Y x A,z x A]
def ji{n r:Int}{S:List Int}(j:0≤n∧n<64)(B:0≤r∧r+4<64)(z:n∈S)(g:r∈S)(A:r+3∈S):Pk 64 Z S (zqb n r):=by
 refine⟨zdr J J j J J,Fh,?_,zd4 J J J J,by simp[M8],?_,zdr J J J J J,Fh,?_,trivial⟩
 ·simp[Oy,N7,z,g]
 ·simp[Oy,M8,Nf,N7,A]
 ·simp[Oy,Nf,N7,M8,g]
def zsp{C:List Bf}{n r:Int}{S:List Int}(g:0≤n∧n<64)(j:0≤r∧r+4<64)(z:n∈S)(A:r∈S)(B:r+3∈S):∀i,Pk 64 C S (Ye n r i)
 |0=>trivial
 |i+1=>by rw[zdf];exact zx0 (zsp g j z A B i) (ji g j z A B)
def qu{n r:Int}{S:List Int}(g:0≤n∧n<64)(z:0≤r∧r+4<64)(j:n∈S):Pk 64 Z S (Uw n r):=by
 refine zu7 (a:=mp n r) ?_ ?_
 ·refine⟨zj6 J,Dq,Gm,zdr J J g J J,Fh,?_,zj6 J,Dq,Gm,zd4 J J J J,by simp[M8],?_,trivial⟩
  ·simp[Oy,Nf,N7,cK,j]
  ·simp[Oy,Nf,N7,cK,M8]
 ·refine zx0 (zsp g z (Iw _ j) ?_ ?_ 5) ?_
  ·simp[mp,Nf,cK,N7,M8]
  ·simp[mp,Nf,cK,N7,M8]
  ·refine⟨zj6 J,Dq,Gm,zd4 J J J J,by simp[M8],?_,trivial⟩;simp[Oy,Nf,cK,M8,mp,N7]
def zq3(n r:Int):(Uw n r).length=21:=by
 unfold Uw;rw[H9,H9,zkd];rfl
def iU1:iU 1=1:=by rw[wh];rfl
noncomputable section
def Ue(e:Nat)(d a b n t:Pc)(g:Int):List LV :=
 [.ptr e 0,.i d.buf,.i d.at_,.i d.size,.i a.buf,.i a.at_,.i a.size,.i b.buf,.i b.at_,.i b.size,.i n.buf,.i n.at_,.i n.size,.i t.buf,.i t.at_,.i t.size,
  .i g,.i (g+1),.i (g+2),.i (g+3),.i (g+4),.i (g+5),.i (g+6),.i (g+7),.i (g+8),.i (g+9),.i (g+10)]
def Oa(R a b:Int):List Lo:=[N7 (R+5) (R+6) a b,Nv 11 (R+6) (R+8) (R+6) (R+7) R,Nv 11 (R+6) (R+9) (R+6) (R+3) R,M8 3 (R+5) (R+5) (R+8),M8 3 (R+3) (R+5) (R+9)]
def O6(t:Pc)(k R:Int):List Lo:=[Nj (R+7) t (-1) k,Nv 11 (R+7) (R+8) (R+7) (R+3) R]
def Oz(d times:Int)(b:Fr Lo):Fr Lo:=if times<1 then .nil else .loop (Tn d times) b T1 .nil
def V6(d g:Int)(b:Fr Lo):(Oz d g b).flat=if g<1 then [] else Tn d g::(b.flat++[T1]):=by
 unfold Oz;split<;>rfl
def Ud(a t:Pc)(R j:Int):List Lo:=[Nj (R+4) a j 0,Nj (R+7) t j 0]++(Oa R (R+4) (R+2)++[Nn t j 0 (R+6)])
def T9(a b t:Pc)(k R D i:Int):Fr Lo:=(Nd [Nj (R+2) b i 0,cK (R+3) 0]).cat ((Oz D k (Nd (Ud a t R D))).cat (Nd (O6 t k R++[Nn t (-1) k (R+7),Nn t (-1) (k+1) (R+8)])))
def Uv(n t:Pc)(R j:Int):List Lo:=[Nj (R+4) n j 1,Nj (R+7) t j 1]++(Oa R (R+10) (R+4)++[Nn t j 0 (R+6)])
def Ul(n t:Pc)(k R D:Int):Fr Lo:=(Nd ([Nj (R+7) t (-1) 0,N7 (R+5) (R+10) (R+7) (R+1),Nj (R+4) n (-1) 0,cK (R+3) 0]++Oa R (R+10) (R+4))).cat
 ((Oz D (k-1) (Nd (Uv n t R D))).cat (Nd (O6 t k R++[Nn t (-1) (k-1) (R+7),Nj (R+7) t (-1) (k+1),M8 3 (R+7) (R+7) (R+8),Nn t (-1) k (R+7)])))
def Ub(n t:Pc)(g j:Int):List Lo:=[Nj (g+7) t j 0,Nj (g+4) n j 0,Nv 12 (g+6) (g+8) (g+7) (g+4) (g+8)]
def Wf(n t:Pc)(k g j:Int)(x:List Lo):Fr Lo:=(Nd [cK (g+8) 0]).cat (Oz j k (Nd (Ub n t g j++x)))
def Yc(d n t:Pc)(k R D:Int):Fr Lo:=(Wf n t k R D []).cat ((Nd [Nj (R+7) t (-1) k,Nv 12 (R+6) (R+10) (R+7) R (R+8)]).cat (Wf n t k R D [Oc (R+6) (R+10) (R+7) (R+6),Nn d D 0 (R+6)]))
def S5(p:Pc)(a D:Int):Fr Lo:=Oz D p.size (Nd [Nn p D 0 a])
def Xz(d a b n t:Pc)(k R D:Int):Fr Lo:=(Nd ([cK R 0,Nj (R+10) n (-1) 0]++Uw (R+10) (R+1))).cat ((S5 t R D).cat ((Oz D k ((T9 a b t k R (D+1) D).cat (Ul n t k R (D+1)))).cat (Yc d n t k R D)))
end
section
def vl(f:Nat→UInt64):Nat→Nat
 |0=>0
 |n+1=>vl f n+(f n).toNat*18446744073709551616^n
def W5(f:Nat→UInt64):∀n,vl f n<18446744073709551616^n
 |0=>C3
 |n+1=>by
  have h:=W5 f n;have g:(f n).toNat+1≤18446744073709551616:=(f n).toNat_lt;have j:=Ii (18446744073709551616^n) g;rw[Iu,Kb]at j;rw[vl,Iz,Jt (18446744073709551616^n)];omega
def V1{f g:Nat→UInt64}:∀{n:Nat},(∀i,i<n→f i=g i)→vl f n=vl g n
 |0,_=>rfl
 |n+1,h=>by rw[vl,vl,V1 λi hi=>h i J,h n J]
def zqj(f:Nat→UInt64):∀n,vl f (n+1)=(f 0).toNat+18446744073709551616*vl (λi=>f (i+1)) n
 |0=>C3
 |n+1=>by
  rw[vl,zqj f n,vl,Iz]
  grind
structure Pn where
 b:Nat
 a:Nat
 k:Nat
def Pn.p(p:Pn):Pc:=⟨p.b,p.a,p.k⟩
def pl(m:Nat→Nat→UInt64)(p:Pn)(i:Nat):UInt64:=m p.b (p.a+i)
def Dj(p q:Pn):Prop:=p.b≠q.b∨p.a+p.k≤q.a∨q.a+q.k≤p.a
def Nw(p:Pn)(m g:Nat→Nat→UInt64):Prop:=∀x y,¬(x=p.b∧p.a≤y∧y<p.a+p.k)→g x y=m x y
def Nw.trans{p:Pn}{m m' gg:Nat→Nat→UInt64}(h:Nw p m m')(k:Nw p m' gg):Nw p m gg:=λx y hn=>(k x y hn).trans (h x y hn)
def Nw.pl{p q:Pn}{m m':Nat→Nat→UInt64}(h:Nw p m m')(d:Dj p q){i:Nat}(hi:i<q.k):pl m' q i=pl m q i :=
 h _ _ λ⟨h1,h2,h3⟩=>by
  rcases d with d|d|d
  ·exact d h1.symm
  ·omega
  ·omega
def Nw.vl{p q:Pn}{m m':Nat→Nat→UInt64}(h:Nw p m m')(d:Dj p q){n:Nat}(hn:n≤q.k):vl (Go.Sv.pl m' q) n=vl (Go.Sv.pl m q) n:=V1 λ_ hi=>h.pl d J
def Wy{p:Pn}{s:Fs}{i:Nat}{v:UInt64}(h:i<p.k):Nw p s.m (s.sto p.b (p.a+i) v).m:=λx y g=>by
 rw[Zo,Hx];rintro⟨rfl,rfl⟩;exact g ⟨rfl,J,J⟩
def Rn(p:Pn)(s:Fs)(i j:Nat)(v:UInt64):pl (s.sto p.b (p.a+i) v).m p j=if j=i then v else pl s.m p j:=by
 unfold pl;rw[Zo];by_cases h:j=i
 ·subst h;simp
 ·rw[Hx J,Hx h]
def ft(h:g<18446744073709551616):(UInt64.ofNat g).toNat=g:=Ab
def su{p:Pn}{x:UInt64}(h:p.a+g+x.toNat<18446744073709551616):(iU (p.p.at_+(g:Int))+x).toNat=p.a+g+x.toNat:=by
 have:p.p.at_+(g:Int)=((p.a+g:Nat):Int):=Ec
 rw[this,Jk,V4 J,Iv Ax]
def cm{p:Pn}(h:p.a+g<18446744073709551616):(iU (p.p.at_+(g:Int))).toNat=p.a+g:=by
 have:p.p.at_+(g:Int)=((p.a+g:Nat):Int):=Ec
 rw[this,V4 h]
section ls
variable {sz : Nat → Nat} {s : Fs} {p : Pn}
def X0{d i:Nat}(h:p.a+g+(s.r i).toNat<sz p.b)(j:sz p.b≤65536):Qu sz (Nj d p.p i g) s=some (s.put d (pl s.m p (g+(s.r i).toNat))):=by
 rw[opZ_ld (b:=p.b) (n:=p.a+g+(s.r i).toNat) rfl (su J) h];unfold pl;rw[Kg]
def zuz{d:Nat}(h:p.a+g<sz p.b)(j:sz p.b≤65536):Qu sz (Nj d p.p (-1) g) s=some (s.put d (pl s.m p g)):=by
 rw[opZ_ld0 (b:=p.b) (n:=p.a+g) rfl (cm J) h];rfl
def pk{v i:Nat}(h:p.a+g+(s.r i).toNat<sz p.b)(j:sz p.b≤65536):Qu sz (Nn p.p i g v) s=some (s.sto p.b (p.a+(g+(s.r i).toNat)) (s.r v)):=by
 rw[opZ_st (b:=p.b) (n:=p.a+g+(s.r i).toNat) rfl (su J) h,Kg]
def zqn{v:Nat}(h:p.a+g<sz p.b)(j:sz p.b≤65536):Qu sz (Nn p.p (-1) g v) s=some (s.sto p.b (p.a+g) (s.r v)):=by
 rw[opZ_st0 (b:=p.b) (n:=p.a+g) rfl (cm J) h]
end ls
end
variable{P vR:Pn}
section
def zg0(b:Bool):(Oe b).toNat=b.toNat:=by cases b<;>rfl
def ry(b:Bool):decide (Oe b%2=1)=b:=by cases b<;>decide
def zf{x y w m:UInt64}{hi p q j:UInt64}{g:Bool}(B:hi=T2 x y)(C:U=x*y)(D:Nr U w false=(p,R))(E:Nr p m false=(q,g))(F:vE=hi+Oe R)(G:j=vE+Oe g) :
  q.toNat+18446744073709551616*j.toNat=x.toNat*y.toNat+w.toNat+m.toNat:=by
 have K:=zsf x y;have z:=z99 U w false;have A:=z99 p m false;rw[D]at z;rw[E]at A;subst B C F G;simp only[Bool.toNat_false,Kl]at z A;have L:x.toNat*y.toNat≤18446744073709551615*18446744073709551615:=Jn (by have:=x.toNat_lt;omega) (by have:=y.toNat_lt;omega);have M:=w.toNat_lt;have O:=m.toNat_lt;have P:=q.toNat_lt;have Q:R.toNat≤1:=by cases R<;>decide
 have d2:g.toNat≤1:=by cases g<;>decide
 have H:((T2 x y)+Oe R).toNat=(T2 x y).toNat+R.toNat:=by
  rw[Jk,zg0,Iv];omega
 have I:((T2 x y)+Oe R+Oe g).toNat=(T2 x y).toNat+R.toNat+g.toNat:=by
  rw[Jk,H,zg0,Iv];omega
 rw[I];omega
section mu
variable {sz : Nat → Nat}
def R3(R g:Nat):Prop:=R+3≤g∧g≤R+9
def Za{s:Fs}{R a b:Nat}(z:s.r R=0):Tx sz (Nd (Oa R a b)) s λj=>j.m=s.m∧(j.r (R+6)).toNat+18446744073709551616*(j.r (R+3)).toNat=(s.r a).toNat*(s.r b).toNat+(s.r (R+7)).toNat+(s.r (R+3)).toNat∧∀g,(¬R3 R g∨g=R+4∨g=R+7)→j.r g=s.r g:=by
 have e:Oa (R:Int) a b=[N7 ((R+5:Nat):Int) ((R+6:Nat):Int) (a:Nat) (b:Nat),Nv 11 ((R+6:Nat):Int) ((R+8:Nat):Int) ((R+6:Nat):Int) ((R+7:Nat):Int) (R:Nat),Nv 11 ((R+6:Nat):Int) ((R+9:Nat):Int) ((R+6:Nat):Int) ((R+3:Nat):Int) (R:Nat),M8 3 ((R+5:Nat):Int) ((R+5:Nat):Int) ((R+8:Nat):Int),M8 3 ((R+3:Nat):Int) ((R+5:Nat):Int) ((R+9:Nat):Int)]:=rfl;rw[e];unfold R3 at *;refine .op zk9 (.op zuc (.op zuc (.op zel (.op zel (.nil ⟨rfl,?_,λg F=>?_⟩)))))
 ·simp[Na,z,-UInt64.toNat_add];exact zf (x:=s.r a) (y:=s.r b) (w:=s.r (R+7)) (m:=s.r (R+3)) rfl rfl rfl rfl rfl rfl
 ·have A:¬g=R+5:=J
  have B:¬g=R+6:=J
  have C:¬g=R+8:=J
  have D:¬g=R+9:=J
  have E:¬g=R+3:=J
  simp[Na,E,A,B,C,D]
def Rh(f:Nat→UInt64)(n:Nat):vl f (n+1)=vl f n+(f n).toNat*18446744073709551616^n:=rfl
def Tx.lp{s:Fs}{d n:Nat}{b:Fr Lo}{Q:Fs→Prop}(gg:Nat→Fs→Prop)(h0:gg 0 s)(hn:n<18446744073709551616)(h1:∀i s,i<n→gg i s→Tx sz b (s.put d (UInt64.ofNat i)) (gg (i+1)))(h2:∀s',gg n s'→Q s'):Tx sz (Oz (d:Nat) (n:Nat) b) s Q:=by
 unfold Oz;have e:(Tn (d:Nat) (n:Nat)).imm.toNat=n:=V4 hn;split
 ·have:n=0:=J
  subst this;exact .nil (h2 _ h0)
 ·refine .loop gg h0 (λi s hi I=>?_) λs' I=>.nil (h2 _ ?_)
  ·rw[e]at hi;exact h1 i s hi I
  ·rw[e]at I;exact I
def yh(R z:Nat)(s j:Fs):Prop:=∀g,¬R3 R g→g≠z→j.r g=s.r g
def RgA(R z:Nat)(s j:Fs):Prop:=∀g,¬(R+2≤g∧g≤R+10)→g≠z→j.r g=s.r g
def Pn.in_(sz:Nat→Nat)(p:Pn):Prop:=p.a+p.k≤sz p.b∧sz p.b≤65536
def ztl{s:Fs}{R j:Nat}{a t:Pn}(I:s.r R=0)(Y:g<R)(F:(s.r g).toNat=j)(K:a.in_ sz)(L:t.in_ sz)(Z:j<a.k)(jt:j<t.k) :
  Tx sz (Nd (Ud a.p t.p R g)) s λC=>∃q:UInt64,(∀i,pl C.m t i=if i=j then q else pl s.m t i)∧Nw t s.m C.m∧yh R g s C ∧
   q.toNat+18446744073709551616*(C.r (R+3)).toNat=(pl s.m a j).toNat*(s.r (R+2)).toNat+(pl s.m t j).toNat+(s.r (R+3)).toNat:=by
 obtain⟨M,D⟩:=K;obtain⟨O,A⟩:=L;have e:Ud a.p t.p R g=[Nj ((R+4:Nat):Int) a.p (g:Nat) ((0:Nat):Int),Nj ((R+7:Nat):Int) t.p (g:Nat) ((0:Nat):Int)]++(Oa R ((R+4:Nat):Int) ((R+2:Nat):Int)++[Nn t.p (g:Nat) ((0:Nat):Int) ((R+6:Nat):Int)]):=rfl;rw[e,frL_app,frL_app];have E:∀n,n<11→¬g=R+n:=λn h=>J
 refine .op (X0 J D) (.op (X0 (by simp only[Na,Hx (E 4 J)];omega) A) ((Za (by simp[Na,I])).cat λB ⟨m1,P,G⟩=>?_));have z:B.r g=s.r g:=by rw[G _ (.inl Aw)];simp[Na,E]
 refine .op (pk Ga A) (.nil ⟨B.r (R+6),λi=>?_,?_,λQ H T=>?_,?_⟩)
 ·rw[Rn,z,F,m1];simp[Pb]
 ·have:=Wy (p:=t) (s:=B) (i:=0+(B.r g).toNat) (v:=B.r (R+6)) Ga;intro x y U;rw[this x y U,m1];rfl
 ·rw[S6,G Q (.inl H)];unfold R3 at H;have V:¬Q=R+4:=J
  have X:¬Q=R+7:=J
  simp[Na,V,X]
 ·rw[S6];simpa [Na,Pb,E,F] using P
def qw{W v r y q x t:Nat}(h:v+g*r=j+A*y)(k:q+W*D=x*y+t+r):v+q*g+g*W*D=j+t*g+(A+x*g)*y:=by
 have z:g*(q+W*D)=g*(x*y+t+r):=Gp
 grind
def top_law{W v r y p c t:Nat}(h:v+g*r=j+A*y)(k:p+W*c=t+r):v+p*g+c*(g*W)=j+t*g+A*y:=by
 have z:g*(p+W*c)=g*(t+r):=Gp
 grind
def o6{s:Fs}{R k:Nat}{t:Pn}(z:s.r R=0)(B:t.in_ sz)(G:k+2≤t.k)(r:Fr Lo)(F:Fs→Prop)
  (h:∀(g:Fs) (c:Bool),g.m=s.m→g.r (R+8)=Oe c→(g.r (R+7)).toNat+18446744073709551616*c.toNat=(pl s.m t k).toNat+(s.r (R+3)).toNat→(∀A,A≠R+7→A≠R+8→g.r A=s.r A)→Tx sz r g F) :
  Tx sz ((Nd (O6 t.p k R)).cat r) s F:=by
 obtain⟨C,j⟩:=B;have e:O6 t.p k R=[Nj ((R+7:Nat):Int) t.p (-1) (k:Nat),Nv 11 ((R+7:Nat):Int) ((R+8:Nat):Int) ((R+7:Nat):Int) ((R+3:Nat):Int) (R:Nat)]:=rfl;rw[e];refine .op (zuz J j) (.op zuc ?_);refine h _ (Nr (pl s.m t k) (s.r (R+3)) false).2 rfl ?_ ?_ λA D E=>?_
 ·simp[Na,z]
 ·have:=z99 (pl s.m t k) (s.r (R+3)) false;simpa [Na,z] using this
 ·simp[Na,D,E]
def oj{s:Fs}{R i k:Nat}{a b t:Pn}(hR:s.r R=0)(hD:A<R)(hi:(s.r i).toNat<b.k)(hb:b.in_ sz)(ha:a.in_ sz)(V:t.in_ sz)(hk:k≤a.k)(O:k+2≤t.k)(dj:Dj t a)(hW:sz t.b≤65536) :
  Tx sz (T9 a.p b.p t.p k R A i) s λI=>RgA R A s I∧Nw t s.m I.m∧vl (pl I.m t) (k+2)=vl (pl s.m t) (k+1)+vl (pl s.m a) k*(pl s.m b (s.r i).toNat).toNat∧(pl I.m t (k+1)).toNat≤1:=by
 have e:T9 a.p b.p t.p k R A i=(Nd [Nj ((R+2:Nat):Int) b.p (i:Nat) ((0:Nat):Int),cK ((R+3:Nat):Int) 0]).cat ((Oz (A:Nat) (k:Nat) (Nd (Ud a.p t.p R A))).cat ((Nd (O6 t.p k R)).cat (Nd [Nn t.p (-1) (k:Nat) ((R+7:Nat):Int),Nn t.p (-1) ((k+1:Nat):Int) ((R+8:Nat):Int)]))):=by
  rw[←frL_app];rfl
 rw[e];obtain⟨gg,P⟩:=hb;have F:=V;obtain⟨gz,G⟩:=V;have dn:∀n,n<11→¬A=R+n:=λn h=>J
 refine .op (X0 J P) (.op V9 ?_);rw[show ∀g:Fr Lo,Fr.cat (Nd []) g=g from λ_=>rfl];generalize C:(Fs.put (s.put (R+2) (pl s.m b (0+(s.r i).toNat))) (R+3) 0)=B;have X:B.m=s.m:=by rw[←C];rfl
 have y0:B.r (R+2)=pl s.m b (s.r i).toNat:=by rw[←C];simp[Na]
 have c0:B.r (R+3)=0:=by rw[←C];simp[Na]
 have Y:∀D,D≠R+2→D≠R+3→B.r D=s.r D:=λD h2 h3=>by rw[←C];simp[Na,h2,h3]
 have Z:B.r R=0:=by rw[Y R J J,hR]
 refine .cat (R:=λz=>yh R A B z∧Nw t s.m z.m∧(∀i,k≤i→pl z.m t i=pl s.m t i)∧vl (pl z.m t) k+18446744073709551616^k*(z.r (R+3)).toNat=vl (pl s.m t) k+vl (pl s.m a) k*(B.r (R+2)).toNat) ?_ λz ⟨K,L,M,Q⟩=>?_
 ·refine .lp (λH z=>yh R A B z∧Nw t s.m z.m∧(∀i,H≤i→pl z.m t i=pl s.m t i)∧vl (pl z.m t) H+18446744073709551616^H*(z.r (R+3)).toNat=vl (pl s.m t) H+vl (pl s.m a) H*(B.r (R+2)).toNat) ⟨λ_ _ _=>rfl,λ_ _ _=>by rw[X],λ_ _=>by rw[X],by simp[vl,c0]⟩ J (λH z hj ⟨K,L,M,Q⟩=>?_) λ_ h=>h
  have E:∀D,¬R3 R D→D≠A→(z.put A (UInt64.ofNat H)).r D=B.r D:=λD a b=>by rw[Na,Hx b,K D a b]
  have j3:(z.put A (UInt64.ofNat H)).r (R+3)=z.r (R+3):=Hc
  refine (ztl (j:=H) (by rw[E _ Aw J,Z]) hD Bl ha F J J).mono λs2 ⟨q,T,e2,e3,e4⟩=>⟨λD a b=>(e3 D a b).trans (E D a b),L.trans e2,λi hi=>?_,?_⟩
  ·rw[T,Hx J];exact M i J
  ·rw[E _ Aw J,Pb,L.pl dj J,M H J,j3]at e4;rw[Rh,Rh,Rh,T,H7 rfl,Iz,V1 (g:=pl z.m t) λi hi=>by rw[T,Hx J];rfl];exact qw Q e4
 ·refine o6 (by rw[K _ Aw J,Z]) F O _ _ λs2 c m2 c2 v2 r2=>?_
  refine .op (zqn J G) (.op (zqn J G) (.nil ⟨λD hz U=>?_,?_,?_,?_⟩))
  ·rw[S6,S6,r2 D J J,K D Aw U,Y D J J]
  ·exact L.trans (m2 ▸ (Wy J).trans (Wy J))
  ·rw[Rh,Rh,Rh,Rn,Rn,Rn,H7 rfl,Hx J,H7 rfl,S6,c2,zg0,V1 (g:=pl z.m t) λi hi=>by rw[Rn,Hx J,Rn,Hx J,m2],Iz,←y0];rw[M k J]at v2;exact top_law Q v2
  ·rw[Rn,H7 rfl,S6,c2,zg0];cases c<;>decide
def zyw{s:Fs}{R j:Nat}{n t:Pn}(K:s.r R=0)(X:g<R)(G:(s.r g).toNat=j)(D:n.in_ sz)(L:t.in_ sz)(Y:j+1<n.k)(Z:j+1<t.k) :
  Tx sz (Nd (Uv n.p t.p R g)) s λC=>∃q:UInt64,(∀i,pl C.m t i=if i=j then q else pl s.m t i)∧Nw t s.m C.m∧yh R g s C ∧
   q.toNat+18446744073709551616*(C.r (R+3)).toNat=(s.r (R+10)).toNat*(pl s.m n (j+1)).toNat+(pl s.m t (j+1)).toNat+(s.r (R+3)).toNat:=by
 obtain⟨M,E⟩:=D;obtain⟨O,A⟩:=L;have e:Uv n.p t.p R g=[Nj ((R+4:Nat):Int) n.p (g:Nat) ((1:Nat):Int),Nj ((R+7:Nat):Int) t.p (g:Nat) ((1:Nat):Int)]++(Oa R ((R+10:Nat):Int) ((R+4:Nat):Int)++[Nn t.p (g:Nat) ((0:Nat):Int) ((R+6:Nat):Int)]):=rfl;rw[e,frL_app,frL_app];have F:∀n,n<11→¬g=R+n:=λn h=>J
 refine .op (X0 J E) (.op (X0 (by simp only[Na,Hx (F 4 J)];omega) A) ((Za (by simp[Na,K])).cat λB ⟨m1,P,H⟩=>?_));have z:B.r g=s.r g:=by rw[H _ (.inl Aw)];simp[Na,F]
 refine .op (pk Ga A) (.nil ⟨B.r (R+6),λi=>?_,?_,λQ I T=>?_,?_⟩)
 ·rw[Rn,z,G,m1];simp[Pb]
 ·have:=Wy (p:=t) (s:=B) (i:=0+(B.r g).toNat) (v:=B.r (R+6)) Ga;intro x y D;rw[this x y D,m1];rfl
 ·rw[S6,H Q (.inl I)];unfold R3 at I;have U:¬Q=R+4:=J
  have V:¬Q=R+7:=J
  simp[Na,U,V]
 ·rw[S6];simpa [Na,Pb,F,G,Nat.add_comm 1] using P
def jn{W v r m q x t:Nat}(h:W*v+g*W*r=j+m*A)(k:q+W*D=m*x+t+r):W*(v+q*g)+g*W*W*D=j+t*(g*W)+m*(A+x*(g*W)):=by
 have z:g*W*(q+W*D)=g*W*(m*x+t+r):=Gp
 grind
def qy{W v r m p c t u:Nat}(h:W*v+g*W*r=j+m*A)(k:p+W*c=t+r):W*(v+p*g+(u+c)*(g*W))=j+t*(g*W)+u*(g*W*W)+m*A:=by
 have z:g*W*(p+W*c)=g*W*(t+r):=Gp
 grind
def low_law{t i n q h:UInt64}(hi:i*n+1=0)(e:q.toNat+18446744073709551616*h.toNat=(t*i).toNat*n.toNat+t.toNat):q.toNat=0:=by
 have g:(t*i*n+t).toNat=0:=by
  rw[(Ei:t*i*n+t=t*(i*n+1)),hi];simp
 rw[Jk,Mg]at g;have:=q.toNat_lt;omega
def down_ex{s:Fs}{R k:Nat}{n t:Pn}(hR:s.r R=0)(hD:A<R)(I:s.r (R+1)*pl s.m n 0+1=0)(hn:n.in_ sz)(ht:t.in_ sz)(hk:k+1≤n.k)(gz:k+3≤t.k)(dj:Dj t n)(hc:(pl s.m t (k+2)).toNat≤1) :
  Tx sz (Ul n.p t.p (k+1:Nat) R A) s λO=>RgA R A s O∧Nw t s.m O.m∧pl O.m t (k+2)=pl s.m t (k+2)∧∃m:UInt64,18446744073709551616*vl (pl O.m t) (k+2)=vl (pl s.m t) (k+3)+m.toNat*vl (pl s.m n) (k+1):=by
 have U:((k+1:Nat):Int)-1=(k:Nat):=J
 have e:Ul n.p t.p (k+1:Nat) R A=(Nd ([Nj ((R+7:Nat):Int) t.p (-1) ((0:Nat):Int),N7 ((R+5:Nat):Int) ((R+10:Nat):Int) ((R+7:Nat):Int) ((R+1:Nat):Int),Nj ((R+4:Nat):Int) n.p (-1) ((0:Nat):Int),cK ((R+3:Nat):Int) 0]++Oa R ((R+10:Nat):Int) ((R+4:Nat):Int))).cat
   ((Oz (A:Nat) (k:Nat) (Nd (Uv n.p t.p R A))).cat ((Nd (O6 t.p (k+1:Nat) R)).cat (Nd [Nn t.p (-1) (k:Nat) ((R+7:Nat):Int),Nj ((R+7:Nat):Int) t.p (-1) ((k+2:Nat):Int),M8 3 ((R+7:Nat):Int) ((R+7:Nat):Int) ((R+8:Nat):Int),Nn t.p (-1) ((k+1:Nat):Int) ((R+7:Nat):Int)]))):=by
  rw[←frL_app,←U];rfl
 rw[e];have V:=hn;have K:=ht;obtain⟨gA,D⟩:=hn;obtain⟨gC,E⟩:=ht;have dn:∀n,n<11→¬A=R+n:=λn h=>J
 rw[frL_app];refine Tx.cat (R:=λB=>(∀C,¬R3 R C→C≠R+10→B.r C=s.r C)∧B.m=s.m∧18446744073709551616*(B.r (R+3)).toNat=(B.r (R+10)).toNat*(pl s.m n 0).toNat+(pl s.m t 0).toNat) ?_ λB ⟨g1,m1,L⟩=>?_
 ·refine .op (zuz J E) (.op zk9 (.op (zuz J D) (.op V9 ((Za (by simp[Na,hR])).mono λB ⟨m1,L,r1⟩=>⟨λC X F=>?_,?_,?_⟩))))
  ·rw[r1 C (.inl X)];unfold R3 at X;have z3:¬C=R+3:=J
   have z4:¬C=R+4:=J
   have z5:¬C=R+5:=J
   have Y:¬C=R+7:=J
   simp[Na,z3,z4,z5,Y,F]
  ·rw[m1];rfl
  ·have M:=r1 (R+10) (.inl Aw);simp[Na,Pb]at L M;rw[M];have:=low_law (t:=pl s.m t 0) I (by simpa using L);rw[Mg,show (2:Nat)^64=18446744073709551616 from rfl];rw[this,Iy]at L;exact L
 have R1:B.r R=0:=by rw[g1 R Aw J,hR]
 refine .cat (R:=λz=>yh R A B z∧Nw t s.m z.m∧(∀i,k≤i→pl z.m t i=pl s.m t i)∧18446744073709551616*vl (pl z.m t) k+18446744073709551616^k*18446744073709551616*(z.r (R+3)).toNat=vl (pl s.m t) (k+1)+(B.r (R+10)).toNat*vl (pl s.m n) (k+1)) ?_ λz ⟨P,Q,G,Z⟩=>?_
 ·refine .lp (λH z=>yh R A B z∧Nw t s.m z.m∧(∀i,H≤i→pl z.m t i=pl s.m t i)∧18446744073709551616*vl (pl z.m t) H+18446744073709551616^H*18446744073709551616*(z.r (R+3)).toNat=vl (pl s.m t) (H+1)+(B.r (R+10)).toNat*vl (pl s.m n) (H+1)) ⟨λ_ _ _=>rfl,λ_ _ _=>by rw[m1],λ_ _=>by rw[m1],by simp[vl];omega⟩ J (λH z hj ⟨P,Q,G,Z⟩=>?_) λ_ h=>h
  have D:∀C,¬R3 R C→C≠A→(z.put A (UInt64.ofNat H)).r C=B.r C:=λC a b=>by rw[Na,Hx b,P C a b]
  have j3:(z.put A (UInt64.ofNat H)).r (R+3)=z.r (R+3):=Hc
  refine (zyw (j:=H) (by rw[D _ Aw J,R1]) hD Bl V K J J).mono λs3 ⟨q,e1,e2,e3,e4⟩=>⟨λC a b=>(e3 C a b).trans (D C a b),Q.trans e2,λi hi=>?_,?_⟩
  ·rw[e1,Hx J];exact G i J
  ·rw[D _ Aw J,Pb,Q.pl dj J,G (H+1) J,j3]at e4;rw[Rh,Rh _ (H+1),Rh _ (H+1),e1,H7 rfl,Iz,V1 (g:=pl z.m t) λi hi=>by rw[e1,Hx J];rfl];exact jn Z e4
 ·refine o6 (by rw[P _ Aw J,R1]) K J _ _ λs3 c T c3 v3 r3=>?_
  refine .op (zqn J E) (.op (zuz J E) (.op zel (.op (zqn J E) (.nil ⟨λC X F=>?_,?_,?_,B.r (R+10),?_⟩))))
  ·have Y:¬C=R+7:=J
   simp only[S6,Na,Hx Y];rw[r3 C J J,P C Aw F,g1 C Aw J]
  ·exact Q.trans (T ▸ (Wy J).trans (Wy (p:=t) J))
  ·rw[Rn,Hx J,Pb,Pb,Rn,Hx J,T,G (k+2) J]
  ·rw[G (k+1) J]at v3;have gg:((pl s.m t (k+2))+Oe c).toNat=(pl s.m t (k+2)).toNat+c.toNat:=by
    rw[Jk,zg0,Iv];have:c.toNat≤1:=by cases c<;>decide
    omega
   rw[Rh _ (k+2),Rh _ (k+1),Rh _ (k+1),Rh _ k,V1 (g:=pl z.m t) (n:=k) λi hi=>by rw[Rn,Hx J,Pb,Pb,Rn,Hx J,T]];have hu:=G (k+2) J;simp[Na,Pb,S6,Rn,c3,-UInt64.toNat_add,T];rw[hu,gg,Iz,Iz];exact qy Z v3
def zd9{W v n t c q x y b:Nat}(h:v+n=t+g*c)(k:q+x+c=y+W*b):v+q*g+(n+x*g)=t+y*g+g*W*b:=by
 have j:g*(q+x+c)=g*(y+W*b):=Gp
 grind
def zqe{s:Fs}{j:Nat}{n t:Pn}{c:Bool}(U:A<g)(D:(s.r A).toNat=j)(G:s.r (g+8)=Oe c)(H:n.in_ sz)(I:t.in_ sz)(V:j<n.k)(X:j<t.k)(x:List Lo)(T:Fs→Prop)
  (h:∀(z:Fs) (b:Bool),z.m=s.m→z.r (g+8)=Oe b→z.r (g+7)=pl s.m t j→(z.r (g+6)).toNat+(pl s.m n j).toNat+c.toNat=(pl s.m t j).toNat+18446744073709551616*b.toNat→(∀C,¬R3 g C→z.r C=s.r C)→Tx sz (Nd x) z T) :
  Tx sz (Nd (Ub n.p t.p g A++x)) s T:=by
 obtain⟨K,E⟩:=H;obtain⟨L,F⟩:=I;have e:Ub n.p t.p g A++x=Nj ((g+7:Nat):Int) t.p (A:Nat) ((0:Nat):Int)::Nj ((g+4:Nat):Int) n.p (A:Nat) ((0:Nat):Int)::Nv 12 ((g+6:Nat):Int) ((g+8:Nat):Int) ((g+7:Nat):Int) ((g+4:Nat):Int) ((g+8:Nat):Int)::x:=rfl;rw[e];have B:∀n,n<11→¬A=g+n:=λn h=>J
 refine .op (X0 J F) (.op (X0 (by simp only[Na,Hx (B 7 J)];omega) E) (.op zk5 ?_));have hv:=zdi (pl s.m t j) (pl s.m n j) c;refine h _ (Ov (pl s.m t j) (pl s.m n j) c).2 rfl ?_ ?_ ?_ λC M=>?_
 ·simp[Na,Pb,B,D,G,ry]
 ·simp[Na,Pb,B,D]
 ·simpa [Na,Pb,B,D,G,ry] using hv
 ·unfold R3 at M;have O:¬C=g+4:=J
  have P:¬C=g+6:=J
  have Q:¬C=g+7:=J
  have R:¬C=g+8:=J
  simp[Na,O,P,Q,R]
def yq{s:Fs}{k:Nat}{n t:Pn}(I:A<g)(E:n.in_ sz)(K:t.in_ sz)(Y:k≤n.k)(L:k≤t.k) :
  Tx sz (Wf n.p t.p k g A []) s λF=>yh g A s F∧F.m=s.m∧∃(c:Bool) (v:Nat),F.r (g+8)=Oe c∧v<18446744073709551616^k∧v+vl (pl s.m n) k=vl (pl s.m t) k+18446744073709551616^k*c.toNat:=by
 have M:k<18446744073709551616:=by have:=E.1;have:=E.2;omega
 have e:Wf n.p t.p k g A []=(Nd [cK ((g+8:Nat):Int) 0]).cat (Oz (A:Nat) (k:Nat) (Nd (Ub n.p t.p g A++[]))):=rfl;rw[e];refine .op V9 ?_;refine .lp (λB C=>yh g A s C∧C.m=s.m∧∃(c:Bool) (v:Nat),C.r (g+8)=Oe c∧v<18446744073709551616^B∧v+vl (pl s.m n) B=vl (pl s.m t) B+18446744073709551616^B*c.toNat) ⟨λO D _=>?_,rfl,false,0,by simp[Na,Oe],N,C3⟩ M (λB C Z ⟨P,m1,c,v,Q,l1,R⟩=>?_) λ_ h=>h
 ·unfold R3 at D;rw[Na,Hx J]
 ·refine zqe (j:=B) (c:=c) I Bl (by rw[Na,Hx J,Q]) E K J J _ _ λG b T U t2 H V=>.nil ⟨λO D z=>?_,by rw[T,Pb,m1],b,v+(G.r (g+6)).toNat*18446744073709551616^B,U,?_,?_⟩
  ·rw[V O D,Na,Hx z,P O D z]
  ·have:=(G.r (g+6)).toNat_lt;have X:=Ii (18446744073709551616^B) (J:(G.r (g+6)).toNat+1≤18446744073709551616);rw[Iu,Kb]at X;rw[Iz,Jt (18446744073709551616^B)];omega
  ·rw[Pb,m1]at H;rw[Rh,Rh,Iz];exact zd9 R H
def DjE(p q:Pn):Prop:=Dj p q∨(p.b=q.b∧p.a=q.a)
def DjE.sto{d n:Pn}{s:Fs}{v:UInt64}{i j:Nat}(h:DjE d n)(hj:j<d.k)(hi:i<n.k)(gg:i≠j):pl (s.sto d.b (d.a+j) v).m n i=pl s.m n i:=by
 rcases h with h|⟨e1,e2⟩
 ·exact (Wy hj).pl h hi
 ·unfold pl;rw[Zo,Hx J]
def pick_ex{s:Fs}{k:Nat}{d n t:Pn}{p:Bool}(Z:D<A)(hp:s.r (A+10)=Oe p)(L:n.in_ sz)(ht:t.in_ sz)(hd:d.in_ sz)(hk:k≤n.k)(gg:k≤t.k)(gz:k≤d.k)(dn:DjE d n)(V:Dj d t) :
  Tx sz (Wf n.p t.p k A D [Oc (A+6) (A+10) (A+7) (A+6),Nn d.p D 0 (A+6)]) s λM=>yh A D s M∧Nw d s.m M.m∧∃(c:Bool) (v:Nat),v<18446744073709551616^k∧v+vl (pl s.m n) k=vl (pl s.m t) k+18446744073709551616^k*c.toNat∧vl (pl M.m d) k=if p=true then vl (pl s.m t) k else v:=by
 have hW:k<18446744073709551616:=by have:=L.1;have:=L.2;omega
 have e:Wf n.p t.p k A D [Oc (A+6) (A+10) (A+7) (A+6),Nn d.p D 0 (A+6)]=(Nd [cK ((A+8:Nat):Int) 0]).cat (Oz (D:Nat) (k:Nat) (Nd (Ub n.p t.p A D++[Oc ((A+6:Nat):Int) ((A+10:Nat):Int) ((A+7:Nat):Int) ((A+6:Nat):Int),Nn d.p (D:Nat) ((0:Nat):Int) ((A+6:Nat):Int)]))):=rfl;rw[e];refine .op V9 ?_;refine .lp (λB C=>yh A D s C∧Nw d s.m C.m∧∃(c:Bool) (v:Nat),C.r (A+8)=Oe c∧v<18446744073709551616^B∧v+vl (pl s.m n) B=vl (pl s.m t) B+18446744073709551616^B*c.toNat∧vl (pl C.m d) B=(if p=true then vl (pl s.m t) B else v)∧∀i,B≤i→i<n.k→pl C.m n i=pl s.m n i) ⟨λgA F _=>?_,λ_ _ _=>rfl,false,0,by simp[Na,Oe],N,C3,C3,λ_ _ _=>rfl⟩ hW (λB C hj ⟨X,O,c,v,c1,l1,v1,d1,Y⟩=>?_) λ_ ⟨h1,h2,c,v,_,P,h4,h5,_⟩=>⟨h1,h2,c,v,P,h4,h5⟩
 ·unfold R3 at F;rw[Na,Hx J]
 ·refine zqe (j:=B) (c:=c) Z Bl (by rw[Na,Hx J,c1]) L ht J J _ _ λz b I b2 Q R T=>?_
  have gC:(z.r D).toNat=B:=by rw[T D Aw];simp[Na];omega
  rw[Pb]at Q R I;rw[Y B (Ia _) J,O.pl V J]at R;rw[O.pl V J]at Q;have U:z.r (A+10)=Oe p:=by rw[T _ Aw,Na,Hx J,X _ Aw J,hp]
  refine .op zpe (.op (pk (by simp only[Na];rw[Hx J];have:=hd.1;omega) hd.2) (.nil ⟨λgA F G=>?_,?_,b,v+(z.r (A+6)).toNat*18446744073709551616^B,?_,?_,?_,?_,λi hi H=>?_⟩))
  ·rw[S6,Na,Hx (by unfold R3 at F;omega),T gA F,Na,Hx G,X gA F G]
  ·refine O.trans (I ▸ ?_);exact Wy (p:=d) (s:=z.put _ _) Gw
  ·rw[S6,Na,Hx J,b2]
  ·have:=(z.r (A+6)).toNat_lt;have P:=Ii (18446744073709551616^B) (J:(z.r (A+6)).toNat+1≤18446744073709551616);rw[Iu,Kb]at P;rw[Iz,Jt (18446744073709551616^B)];omega
  ·rw[Rh,Rh,Iz];exact zd9 v1 R
  ·have E:0+((z.put (A+6) (if z.r (A+10)%2=1 then z.r (A+7) else z.r (A+6))).r D).toNat=B:=Gw
   rw[Rh,E,Rn,H7 rfl,V1 (g:=pl C.m d) (n:=B) λi hi=>by rw[Rn,Hx J,Pb,I],d1,Na,H7 rfl,U,Q];have K:=ry p;cases p
   ·simp at K;simp[K]
   ·simp at K;simp[K,Rh]
  ·have E:0+((z.put (A+6) (if z.r (A+10)%2=1 then z.r (A+7) else z.r (A+6))).r D).toNat=B:=Gw
   rw[E,dn.sto J H J,Pb,I];exact Y i J H
def vr{t c b v e:Nat}{W q:Nat}(D:A<g)(E:j+t*g<2*A)(hv:v<g)(z:c≤1)(B:b≤1)(h:v+A=j+g*c)(k:q+c=t+W*b)(F:q<W)(G:e+A=j+g*c):(j+t*g<A↔b=1)∧(b=1→t=0)∧(b=0→e=j+t*g-A):=by
 have C:t≤1:=by
  rcases Ku t 2 with h|h
  ·omega
  ·have:=Ii g h;omega
 have C:t=0∨t=1:=J
 have z:c=0∨c=1:=J
 have B:b=0∨b=1:=J
 rcases C with rfl|rfl<;>rcases z with rfl|rfl<;>rcases B with rfl|rfl<;>simp at *<;>omega
def y8{s:Fs}{R k:Nat}{d n t:Pn}(P:s.r R=0)(F:g<R)(G:n.in_ sz)(z:t.in_ sz)(hd:d.in_ sz)(H:k≤n.k)(Q:k+1≤t.k)(A:k≤d.k)(T:DjE d n)(U:Dj d t)(I:vl (pl s.m t) (k+1)<2*vl (pl s.m n) k) :
  Tx sz (Yc d.p n.p t.p k R g) s λB=>RgA R g s B∧Nw d s.m B.m∧vl (pl B.m d) k=if vl (pl s.m t) (k+1)<vl (pl s.m n) k then vl (pl s.m t) (k+1) else vl (pl s.m t) (k+1)-vl (pl s.m n) k:=by
 have e:Yc d.p n.p t.p k R g=(Wf n.p t.p k R g []).cat ((Nd [Nj ((R+7:Nat):Int) t.p (-1) (k:Nat),Nv 12 ((R+6:Nat):Int) ((R+10:Nat):Int) ((R+7:Nat):Int) (R:Nat) ((R+8:Nat):Int)]).cat (Wf n.p t.p k R g [Oc (R+6) (R+10) (R+7) (R+6),Nn d.p g 0 (R+6)])):=rfl;rw[e];refine (yq F G z H J).cat λV ⟨K,m1,c,v,X,Y,Z⟩=>?_
 have hT:=zdi (pl s.m t k) 0 c;refine .op (zuz (by have:=z.1;omega) z.2) (.op zk5 ?_);have R1:V.r R=0:=by rw[K R Aw J,P]
 refine (pick_ex (p:=(Ov (pl s.m t k) 0 c).2) F ?_ G z hd H J A T U).mono λs3 ⟨g3,o3,L,v',l3,C,M⟩=>⟨λgg hz j=>?_,?_,?_⟩
 ·simp[Na,R1,X,ry,m1]
 ·rw[g3 gg Aw j];simp only[Na];rw[Hx J,Hx J,Hx J,K gg Aw j]
 ·rw[←m1];exact o3
 ·simp only[Pb,m1]at C M;rw[Rh]at I ⊢;have hN:=W5 (pl s.m n) k;have hq:=(Ov (pl s.m t k) 0 c).1.toNat_lt;have D:c.toNat≤1:=by cases c<;>decide
  have E:L.toNat=c.toNat:=by
   rcases c with _|_<;>rcases L with _|_<;>simp at *<;>omega
  rw[E]at C;generalize (Ov (pl s.m t k) 0 c).2=b at *;have hb:b.toNat≤1:=by cases b<;>decide
  obtain⟨O,q2,q3⟩:=vr hN I Y D hb Z (by simpa using hT) hq C;rw[M];cases b
  ·rw[Hx N,Hx (by rw[O];simp),q3 rfl]
  ·rw[H7 rfl,H7 (by rw[O];rfl),q2 rfl];simp
def zub{s:Fs}{D a:Nat}{p:Pn}(G:p.in_ sz)(B:a≠D):Tx sz (S5 p.p a D) s λA=>(∀z,z≠D→A.r z=s.r z)∧Nw p s.m A.m∧∀i,i<p.k→pl A.m p i=s.r a:=by
 have e:S5 p.p a D=Oz (D:Nat) (p.k:Nat) (Nd [Nn p.p (D:Nat) ((0:Nat):Int) (a:Nat)]):=rfl;rw[e];obtain⟨L,H⟩:=G;refine .lp (λF j=>(∀z,z≠D→j.r z=s.r z)∧Nw p s.m j.m∧∀i,i<F→pl j.m p i=s.r a) ⟨λ_ _=>rfl,λ_ _ _=>rfl,λ_ h=>absurd h J⟩ J (λF j M ⟨C,I,K⟩=>?_) λ_ h=>h
 have g:((j.put D (UInt64.ofNat F)).r D).toNat=F:=Bl
 refine .op (pk (by rw[g];omega) H) (.nil ⟨λz E=>?_,?_,λi hi=>?_⟩)
 ·rw[S6,Na,Hx E,C z E]
 ·exact I.trans (Wy (p:=p) (s:=j.put _ _) (by rw[g];omega))
 ·rw[Rn,g];split
  ·rw[Na,Hx B,C a B]
  ·rw[Pb];exact K i J
def zkc{f:Nat→UInt64}:∀{n:Nat},(∀i,i<n→f i=0)→vl f n=0
 |0,_=>rfl
 |n+1,h=>by rw[vl,zkc λi hi=>h i J,h n J];simp
def ja{W b m:Nat}(h:g*vU=j*A+D*Q)(z:vj=vU+j*b)(B:W*vI=vj+m*Q):g*W*vI=j*(A+b*g)+(D+m*g)*Q:=by
 have:g*(W*vI)=g*(vU+j*b+m*Q):=by rw[B,z]
 grind
def qh{W b m:Nat}(F:A<2*j)(G:g<j)(H:b<W)(hm:m<W)(z:Q=A+g*b)(B:W*D=Q+m*j):D<2*j:=by
 have C:g*b≤j*(W-1):=Jn J J;have I:m*j≤(W-1)*j:=Ii _ J;have K:(W-1)*j+j=W*j:=by
  rw[←L7];congr 1;omega
 rw[Jt j]at C;have E:W*D<W*(2*j):=by
  rw[B,z,M4];omega
 exact Nat.lt_of_mul_lt_mul_left E
def yz{s:Fs}{R D k:Nat}{d a b n t:Pn}(hD:D+1<R)(hd:d.in_ sz)(ha:a.in_ sz)(hb:b.in_ sz)(K:n.in_ sz)(O:t.in_ sz)(kd:k+1≤d.k)(ka:k+1≤a.k)(kb:k+1≤b.k)(G:k+1≤n.k)(kt:k+3≤t.k)
  (dn:DjE d n) (dt:Dj d t) (ta:Dj t a) (tb:Dj t b) (H:Dj t n) (gg:pl s.m n 0%2=1) (hA:vl (pl s.m a) (k+1)<vl (pl s.m n) (k+1)) :
  Tx sz (Xz d.p a.p b.p n.p t.p (k+1:Nat) R D) s λX=>(∀g,¬(R≤g∧g≤R+10)→g≠D→g≠D+1→X.r g=s.r g)∧(∀x y,¬(x=d.b∧d.a≤y∧y<d.a+d.k)→¬(x=t.b∧t.a≤y∧y<t.a+t.k)→X.m x y=s.m x y) ∧
   vl (pl X.m d) (k+1)<vl (pl s.m n) (k+1)∧∃P Q':Nat,18446744073709551616^(k+1)*vl (pl X.m d) (k+1)+Q'*vl (pl s.m n) (k+1)=vl (pl s.m a) (k+1)*vl (pl s.m b) (k+1)+P*vl (pl s.m n) (k+1):=by
 have e:Xz d.p a.p b.p n.p t.p (k+1:Nat) R D=(Nd ([cK (R:Nat) 0,Nj ((R+10:Nat):Int) n.p (-1) ((0:Nat):Int)]++Uw ((R+10:Nat):Int) ((R+1:Nat):Int))).cat ((S5 t.p (R:Nat) (D:Nat)).cat ((Oz (D:Nat) (k+1:Nat) ((T9 a.p b.p t.p (k+1:Nat) R ((D+1:Nat):Int) D).cat (Ul n.p t.p (k+1:Nat) R ((D+1:Nat):Int)))).cat (Yc d.p n.p t.p (k+1:Nat) R D))):=rfl;rw[e,frL_app];have gz:k+1<18446744073709551616:=by have:=K.1;have:=K.2;omega
 refine Tx.cat (R:=λL=>L.r R=0∧L.r (R+1)*pl s.m n 0+1=0∧L.m=s.m∧∀g,¬(R≤g∧g≤R+10)→L.r g=s.r g) ?_ λL ⟨R1,I1,m1,g1⟩=>?_
 ·refine .op V9 (.op (zuz (by have:=K.1;omega) K.2) ((reck_ex J).mono λL ⟨e1,e2,e3⟩=>⟨?_,?_,?_,λg hz=>?_⟩))
  ·rw[e3 R J];simp[Na]
  ·rw[e1];simp only[Na,Jo,Pb];have:=jm _ gg
   grind
  ·rw[e2];rfl
  ·rw[e3 g J,Na,Hx J,Na,Hx J]
 refine (zub O J).cat λQ ⟨g2,o2,Y⟩=>?_
 have R2:Q.r R=0:=by rw[g2 R J,R1]
 have I2:Q.r (R+1)*pl s.m n 0+1=0:=by rw[g2 (R+1) J,I1]
 rw[m1]at o2;rw[R1]at Y;refine .cat (R:=λj=>(∀g,¬(R+2≤g∧g≤R+10)→g≠D→g≠D+1→j.r g=Q.r g)∧Nw t s.m j.m∧(pl j.m t (k+2)).toNat≤1∧vl (pl j.m t) (k+2)<2*vl (pl s.m n) (k+1)∧∃P,18446744073709551616^(k+1)*vl (pl j.m t) (k+2)=vl (pl s.m a) (k+1)*vl (pl s.m b) (k+1)+P*vl (pl s.m n) (k+1)) ?_ λj ⟨Z,F,_,T,P,M⟩=>?_
 ·refine .lp (λi j=>(∀g,¬(R+2≤g∧g≤R+10)→g≠D→g≠D+1→j.r g=Q.r g)∧Nw t s.m j.m∧(pl j.m t (k+2)).toNat≤1∧vl (pl j.m t) (k+2)<2*vl (pl s.m n) (k+1)∧∃P,18446744073709551616^i*vl (pl j.m t) (k+2)=vl (pl s.m a) (k+1)*vl (pl s.m b) i+P*vl (pl s.m n) (k+1)) ⟨λ_ _ _ _=>rfl,o2,by rw[Y _ J];decide,?_,0,?_⟩ gz (λi j hi ⟨Z,F,c3,T,P,M⟩=>?_) λ_ h=>h
  ·rw[zkc λi hi=>Y i J];omega
  ·rw[zkc λi hi=>Y i J];simp[vl]
  ·have U:((j.put D (UInt64.ofNat i)).r D).toNat=i:=Bl
   have A:∀g,¬(R+2≤g∧g≤R+10)→g≠D→g≠D+1→(j.put D (UInt64.ofNat i)).r g=Q.r g:=λg B z I=>by rw[Na,Hx z,Z g B z I]
   refine (oj (k:=k+1) (b:=b) (i:=D) (by rw[A R J J J,R2]) J (by rw[U];omega) hb ha O ka kt ta O.2).cat λs4 ⟨V,o4,C,c4⟩=>?_
   rw[Pb]at o4 C;rw[U,F.pl tb J,F.vl ta ka]at C;have E:=F.trans o4;refine (down_ex (k:=k) (by rw[V R J J,A R J J J,R2]) J (by rw[V (R+1) J J,A _ J J J,E.pl H J,I2]) K O G kt H c4).mono λs5 ⟨g5,o5,c5,m,v5⟩=>⟨λg B z I=>?_,E.trans o5,?_,?_,P+m.toNat*18446744073709551616^i,?_⟩
   ·rw[g5 g B I,V g B I,A g B z I]
   ·rw[c5];exact c4
   ·rw[E.vl H G]at v5;exact qh T hA (pl s.m b i).toNat_lt m.toNat_lt C v5
   ·rw[E.vl H G]at v5;rw[Iz,Rh];exact ja M C v5
 ·refine (y8 (k:=k+1) (by rw[Z R J J J,R2]) J K O hd G J kd dn dt (by rw[F.vl H G];exact T)).mono λs4 ⟨V,o4,C⟩=>⟨λg B z I=>?_,λx y B z=>?_,?_,?_⟩
  ·rw[V g J z,Z g J z I,g2 g z,g1 g B]
  ·rw[o4 x y B,F x y z]
  ·have T:vl (pl j.m t) (k+1+1)<2*vl (pl s.m n) (k+1):=T;rw[F.vl H G]at C;rw[C];split<;>omega
  ·have M:18446744073709551616^(k+1)*vl (pl j.m t) (k+1+1)=vl (pl s.m a) (k+1)*vl (pl s.m b) (k+1)+P*vl (pl s.m n) (k+1):=M;rw[F.vl H G]at C;rw[C];split
   ·exact⟨P,0,by rw[M];omega⟩
   ·refine⟨P,18446744073709551616^(k+1),?_⟩;rw[←M,←Lk,Nat.sub_add_cancel J]
end mu
end
noncomputable section
def Zc(g:List Bf)(m:List Bool)(o:Lo):Bool:=if o.kind=16 then false else if o.kind=14 then (Ns g o.buf.toNat).sec else (Oy o).any (Pj m)
def mkS(g:List Bf)(o:Lo):List Int→List Bool×Bool→List Bool×Bool
 |[],s=>s
 |r::j,s=>mkS g o j (if (!Pj s.1 r&&Zc g s.1 o)=true then (s.1.set r.toNat true,true) else s)
def bj(g:List Bf):List Lo→List Bool×Bool→List Bool×Bool
 |[],s=>s
 |o::j,s=>bj g j (mkS g o (Nf o) s)
def W7(g:List Bf)(os:List Lo):Nat→List Bool→List Bool
 |0,m=>m
 |n+1,m=>if (bj g os (m,false)).2=true then W7 g os n (bj g os (m,false)).1 else (bj g os (m,false)).1
def Ug(m:List Bool):Nat:=m.countP (λb=>!b)
def vq{m:List Bool}{n:Nat}(h:n<m.length)(k:m.getD n false=false):Ug (m.set n true)+1=Ug m:=by
 induction m generalizing n with
 |nil=>simp at h
 |cons b m g =>
  cases n with
  |zero=>simp at k;subst k;simp[Ug]
  |succ n =>
   have:=g (n:=n) Ax (by simpa using k);simp only[Ug,M0,List.countP_cons]at *;omega
def zuy(g:List Bf)(o:Lo):∀(l:List Int) (s:List Bool×Bool),(mkS g o l s).1.length=s.1.length
 |[],_=>rfl
 |r::l,s=>by rw[mkS,zuy g o l];split<;>simp
def zr8(j:List Bf):∀(g:List Lo) (s:List Bool×Bool),(bj j g s).1.length=s.1.length
 |[],_=>rfl
 |o::g,s=>by rw[bj,zr8 j g,zuy]
def Dn(s s':List Bool×Bool):Prop:=Ug s'.1≤Ug s.1∧(s'.2=true→s.2=true∨Ug s'.1<Ug s.1)
def Dn.trans{s s' gg:List Bool×Bool}(h:Dn s s')(k:Dn s' gg):Dn s gg:=by
 refine⟨by have:=h.1;have:=k.1;omega,λh2=>?_⟩;rcases k.2 h2 with q|q
 ·rcases h.2 q with q|q
  ·exact .inl q
  ·have:=k.1;exact .inr J
 ·have:=h.1;exact .inr J
def Y0(g:List Bf)(o:Lo):∀(l:List Int) (s:List Bool×Bool),(∀x∈l,0≤x∧x<s.1.length)→Dn s (mkS g o l s)
 |[],s,_=>⟨Ia _,λh=>.inl h⟩
 |r::l,s,h=>by
  rw[mkS];obtain⟨A,B⟩:=h r (I7 ..);split
  ·rename_i z;simp only[Hy,Jf]at z;have C:=vq (m:=s.1) (n:=r.toNat) J z.1;refine Dn.trans (s':=(s.1.set r.toNat true,true)) ⟨Bb,λ_=>.inr Bb⟩ (Y0 g o l _ λx j=>?_);simpa using h x (Ik _ j)
  ·exact Y0 g o l _ λx j=>h x (Ik _ j)
def zxg(g:List Bf):∀(os:List Lo) (s:List Bool×Bool),(∀o∈os,∀x∈Nf o,0≤x∧x<s.1.length)→Dn s (bj g os s)
 |[],s,_=>⟨Ia _,λh=>.inl h⟩
 |o::os,s,h=>by
  rw[bj];refine Dn.trans (Y0 g o _ s λx j=>h o (I7 ..) x j) (zxg g os _ λp z x j=>?_);rw[zuy];exact h p (Ik _ z) x j
def X2(m:List Bool)(g:Int→Bool):Prop:=∀x,0≤x→Pj m x=true→g x=true
def U8(g:List Bf)(j:Int→Bool)(o:Lo):Bool:=if o.kind=16 then false else if o.kind=14 then (Ns g o.buf.toNat).sec else (Oy o).any j
def Yx(g:List Bf)(z:Int→Bool)(j:List Lo):Prop:=∀o∈j,U8 g z o=true→∀x∈Nf o,z x=true
def X2.sec{bs:List Bf}{m:List Bool}{gg:Int→Bool}{o:Lo}(h:X2 m gg)(ht:∀x∈Oy o,0≤x)(k:Zc bs m o=true):U8 bs gg o=true:=by
 unfold Zc at k;unfold U8;split
 ·rename_i q;rw[H7 q]at k;exact k
 ·rename_i q;rw[Hx q]at k;split
  ·rename_i q;rw[H7 q]at k;exact k
  ·rename_i q;rw[Hx q,Jb]at k;obtain⟨x,C,hk⟩:=k;exact Jb.2 ⟨x,C,h x (ht x C) hk⟩
def X2.set{m:List Bool}{C:Int→Bool}{r:Int}(h:X2 m C)(h0:0≤r)(k:C r=true):X2 (m.set r.toNat true) C:=λx hx hm=>by
 by_cases e:x=r
 ·rw[e];exact k
 ·refine h x hx ?_;unfold Pj at hm ⊢;rw[Hv,Hw J]at hm;rw[Hv];exact hm
def Z4{g:List Bf}{B:Int→Bool}{o:Lo}(j:∀x∈Oy o,0≤x)(z:U8 g B o=true→∀x∈Nf o,B x=true):∀(l:List Int) (s:List Bool×Bool),(∀x∈l,x∈Nf o∧0≤x)→X2 s.1 B→X2 (mkS g o l s).1 B
 |[],_,_,h=>h
 |r::l,s,A,h=>by
  rw[mkS];refine Z4 j z l _ (λx C=>A x (Ik _ C)) ?_;split
  ·rename_i q;simp only[Hy]at q;obtain⟨D,E⟩:=A r (I7 ..);exact h.set E (z (h.sec j q.2) r D)
  ·exact h
def zkb{z:List Bf}{D:Int→Bool}:∀(g:List Lo) (s:List Bool×Bool),(∀o∈g,∀x∈Oy o,0≤x)→(∀o∈g,∀x∈Nf o,0≤x)→Yx z D g→X2 s.1 D→X2 (bj z g s).1 D
 |[],_,_,_,_,h=>h
 |o::g,s,A,hm,B,h=>by
  rw[bj];exact zkb g _ (λp j=>A p (Ik _ j)) (λp j=>hm p (Ik _ j)) (λp j=>B p (Ik _ j)) (Z4 (A o (I7 ..)) (B o (I7 ..)) _ _ (λx C=>⟨C,hm o (I7 ..) x C⟩) h)
def zvg{A:List Bf}{B:Int→Bool}{g:List Lo}(j:∀o∈g,∀x∈Oy o,0≤x)(hm:∀o∈g,∀x∈Nf o,0≤x)(z:Yx A B g):∀(n:Nat) (m:List Bool),X2 m B→X2 (W7 A g n m) B
 |0,_,h=>h
 |n+1,m,h=>by
  rw[W7];split
  ·exact zvg j hm z n _ (zkb g _ j hm z h)
  ·exact zkb g _ j hm z h
def zx4(g:List Bf)(j:List Lo):∀(n:Nat) (m:List Bool),(W7 g j n m).length=m.length
 |0,_=>rfl
 |n+1,m=>by rw[W7];split<;>simp[zx4 g j n,zr8]
def X2.none(n:Nat)(C:Int→Bool):X2 (List.replicate n false) C:=λx _ h=>by
 unfold Pj at h;rw[Hv,List.getElem?_replicate]at h;split at h<;>simp at h
def Y4(g:Int)(j:List Bf)(os:List Lo):List Bool:=W7 j os (g.toNat+1) (List.replicate g.toNat false)
def o9(g:List Bf)(j:Int→Bool)(o:Lo):Bool:=!((Pf o.kind&&decide (0≤o.a))&&j o.a)&&(!(decide (o.kind=15)&&(j o.b && !(Ns g o.buf.toNat).sec)) && !(decide (o.kind=16)&&j o.d))
def qq{m:List Bool}{C:Int→Bool}{o:Lo}(D:X2 m C)(E:o.kind=15→0≤o.b)(hd:o.kind=16→0≤o.d)(h:o9 Z C o=true):o9 Z (Pj m) o=true:=by
 unfold o9 at h ⊢;simp only[Hy,Jf,Mf,I4,Bool.not_eq_false']at h ⊢;have g:∀x,0≤x→C x=false→Pj m x=false:=λx F B=>by
  cases q:Pj m x
  ·rfl
  ·rw[D x F q]at B;exact absurd B Ac
 obtain⟨z,j,A⟩:=h;refine⟨?_,?_,?_⟩
 ·by_cases q:0≤o.a
  ·rcases z with z|z
   ·exact .inl z
   ·exact .inr (g _ q z)
  ·exact .inl (.inr q)
 ·by_cases q:o.kind=15
  ·rcases j with j|j|j
   ·exact absurd q j
   ·exact .inr (.inl (g _ (E q) j))
   ·exact .inr (.inr j)
  ·exact .inl q
 ·by_cases q:o.kind=16
  ·rcases A with A|A
   ·exact absurd q A
   ·exact .inr (g _ (hd q) A)
  ·exact .inl q
end
section
def W1(ls:List Int)(m:List Bool):Prop:=∀x,0≤x→x<8→(Pj m x=true↔x∈ls)
def Gd(bs:List Bf)(S:List Int)(ls:List Int)(f:Fr Lo)(S':List Int):Prop :=
 ∀m,lg 64 m S→W1 ls m→∃z,lg 64 z S'∧W1 ls z∧(∀x,8≤x→Pj m x=true→Pj z x=true)∧∀i j,jl 64 bs i m ls (f.flat++j)=jl 64 bs (i+f.flat.length) z ls j
def zt6{x:Int}(z:0≤x):∀(j:List Int) (m:List Bool),(∀y∈j,0≤y∧y<m.length)→Pj m x=true→Pj (j.foldl (λm r=>m.set r.toNat true) m) x=true
 |[],_,_,h=>h
 |a::j,m,A,h=>by
  have B:=A a (I7 ..);exact zt6 z j _ (λy C=>by rw[J3];exact A y (Ik _ C)) ((za7 ⟨B.1,B.2⟩ z).2 (.inr h))
section gd
variable {bs : List Bf} {S S' S2 ls : List Int} {f g : Fr Lo}
def lg.sub{regs:Int}{m:List Bool}(h:lg regs m S)(k:∀x∈S',x∈S):lg regs m S':=⟨h.1,λx hx=>h.2 x (k x hx)⟩
def Gd.mono(h:Gd bs S ls f S')(k1:∀x∈S,x∈S2)(k2:∀x∈vL,x∈S'):Gd bs S2 ls f vL:=λm hm hi=>by
 obtain⟨m',h1,h2,hk,h3⟩:=h m (hm.sub k1) hi;exact⟨m',h1.sub k2,h2,hk,h3⟩
def Gd.cat(h:Gd bs S ls f S')(k:Gd bs S' ls g S2):Gd bs S ls (f.cat g) S2:=λm hm hi=>by
 obtain⟨m1,h1,h2,ha,h3⟩:=h m hm hi;obtain⟨m2,k1,k2,kb,k3⟩:=k m1 h1 h2;refine⟨m2,k1,k2,λx hx hq=>kb x hx (ha x hx hq),λi rest=>?_⟩;rw[P8,Jj,h3,k3,H9,Kg]
def Gd.nil:Gd bs S ls .nil S:=λm hm hi=>⟨m,hm,hi,λ_ _ h=>h,λ_ _=>rfl⟩
def Gd.keep{T:List Int}(h:Gd bs S ls f S'):Gd bs (T++S) ls f (T++S'):=λm hm hi=>by
 obtain⟨m',h1,h2,hk,h3⟩:=h m (hm.sub λx hx=>Iw _ hx) hi;refine⟨m',⟨h1.1,λx hx=>?_⟩,h2,hk,h3⟩;rcases Ir.1 hx with hx|hx
 ·obtain⟨a,b,d⟩:=hm.2 x (Li _ hx);refine⟨a,b,?_⟩;by_cases q:8≤x
  ·exact hk x q d
  ·exact (h2 x a J).2 ((hi x a J).1 d)
 ·exact h1.2 x hx
def Gd.keep0(h:Gd bs [] ls f []):Gd bs S ls f S:=by
 have:=Gd.keep (T:=S) h;simpa using this
def W1.fold:∀(mk:List Int) (m:List Bool),m.length=64→W1 ls m→(∀x∈mk,8≤x∧x<64)→W1 ls (mk.foldl (λm r=>m.set r.toNat true) m)
 |[],_,_,h,_=>h
 |a::mk,m,hl,h,hr=>by
  have ha:=hr a (I7 ..);refine W1.fold mk _ (by simpa using hl) (λx h0 h8=>?_) λx hx=>hr x (Ik _ hx)
  rw[←h x h0 h8,za7 ⟨J,J⟩ h0];constructor
  ·rintro (q|q)
   ·omega
   ·exact q
  ·exact .inr
def Gd.L(gz:∀x∈ls,x<8):∀{l:List Lo} {S:List Int},Pk 64 bs S l→(∀o∈l,∀x∈Nf o,8≤x)→Gd bs S ls (Nd l) ((l.flatMap Nf)++S)
 |[],S,_,_=>λm hm hi=>⟨m,Ff,hi,λ_ _ h=>h,λ_ _=>rfl⟩
 |o::l,S,h,hk=>λm hm hi=>by
  obtain⟨h1,⟨h2,h3⟩,h4,h5⟩:=h;have gg:=zxe h1;have gA:=hk o (I7 ..);have hs:=sm (m:=m) (ls:=ls) h1 h2 h3 (λx hx q=>by have:=gz x q;have:=gA x hx;omega) (λx hx=>(hm.2 x (h4 x hx)).2.2);have gC:=hm.fold (Nf o) m S gg;have gD:=hi.fold (Nf o) m (by have:=hm.1;omega) λx hx=>⟨gA x hx,(gg x hx).2⟩
  obtain⟨m',k1,k2,kk,k3⟩:=Gd.L gz h5 (λp hp=>hk p (Ik _ hp)) _ gC gD;refine⟨m',k1.sub λx hx=>?_,k2,λx hx hq=>kk x hx (zt6 J _ _ (λy hy=>by have:=gg y hy;have:=hm.1;omega) hq),λi rest=>?_⟩
  ·simp only[Kx,Ir]at hx ⊢;rcases hx with (hx|hx)|hx
   ·exact .inr (.inl hx)
   ·exact .inl hx
   ·exact .inr (.inr hx)
  ·rw[Nd,Fr.flat,I6,jl,hs];dsimp only;rw[H7 rfl,k3,Ig]
   congr 1;omega
def e9{d:Int}(h:0≤d∧d<64)(C:1≤z∧z≤1048576):Qg 64 bs (Tn d z)=true:=by
 have j:(iU z).toNat=z.toNat:=by
  obtain⟨n,rfl⟩:=Hz (J:0≤z);rw[V4 J];rfl
 have A:(1:UInt64)≤iU z:=by rw[Jc,j];show 1≤_;omega
 have B:iU z≤(1048576:UInt64):=by rw[Jc,j];show _≤1048576;omega
 simp[Qg,Tn,Ri,Q0,Q2,Rk,Wl,Wr,Pf,h,A,B]
def fields_En:Qg 64 bs T1=true:=by simp[Qg,T1,Ri,Q0,Q2,Rk,Wl,Wr,Pf]
def zl8{m:List Bool}{a x:Int}(j:0≤a∧a<m.length)(z:0≤x):Pj (m.set a.toNat false) x=true↔x≠a∧Pj m x=true:=by
 unfold Pj;rw[Wd _ _ _ _ _ J];by_cases e:x.toNat=a.toNat
 ·rw[H7 e];simp;intro h;omega
 ·rw[Hx e];constructor
  ·exact λh=>⟨by rintro rfl;exact e rfl,h⟩
  ·exact λh=>h.2
def Gd.loop{d times:Int}{b r:Fr Lo}{S3:List Int}(gH:ls.length<8)(hd:0≤d∧d<8)(hn:¬d∈ls)(ht:1≤times∧times≤1048576)(hb:Gd bs (d::S) (ls++[d]) b S')(hs:∀x∈S2,x∈S'∧x≠d)(hr:Gd bs S2 ls r S3):Gd bs S ls (.loop (Tn d times) b T1 r) S3:=λm hm hi=>by
 have gG:m.length=64:=by have:=hm.1;omega
 have gg:Pj m d=false:=by
  cases q:Pj m d
  ·rfl
  ·exact absurd ((hi d hd.1 hd.2).1 q) hn
 have gz:Vn 64 bs m ls (Tn d times)=(0,m.set d.toNat true,ls++[d]):=by
  unfold Vn;rw[Hx (by rw[e9 J ht];decide),Hx (by simp[Tn]),Hx,Hx (by simp[Tn,gg]),Hx (by simp[Tn];omega),Hx (by simp[Tn,Oy])]
  ·simp[Tn,Nf]
  ·simp[Tn,Nf,hn]
 have gA:lg 64 (m.set d.toNat true) (d::S):=by
  have:=hm.fold [d] m S (λx hx=>by simp at hx;omega);simpa using this
 have gC:W1 (ls++[d]) (m.set d.toNat true):=λx h0 h8=>by
  rw[za7 ⟨J,J⟩ h0,hi x h0 h8];simp[or_comm]
 obtain⟨m2,a1,a2,ak,a3⟩:=hb _ gA gC;have gI:m2.length=64:=by have:=a1.1;omega
 have gD:lg 64 (m2.set d.toNat false) S2:=⟨by simpa using a1.1,λx hx=>by
  obtain⟨h1,h2⟩:=hs x hx;obtain⟨b1,b2,b3⟩:=a1.2 x h1;exact⟨b1,b2,(zl8 ⟨J,J⟩ b1).2 ⟨h2,b3⟩⟩⟩
 have gE:W1 ls (m2.set d.toNat false):=λx h0 h8=>by
  rw[zl8 ⟨J,J⟩ h0,a2 x h0 h8];simp only[Ir,M1];constructor
  ·rintro⟨h1,h2|h2⟩
   ·exact h2
   ·exact absurd h2 h1
  ·exact λh=>⟨λq=>hn (q ▸ h),.inl h⟩
 obtain⟨m4,c1,c2,ck,c3⟩:=hr _ gD gE;refine⟨m4,c1,c2,λx hx hq=>ck x hx ((zl8 ⟨J,J⟩ J).2 ⟨J,ak x hx ((za7 ⟨J,J⟩ J).2 (.inr hq))⟩),λi rest=>?_⟩;have gF:Vn 64 bs m2 (ls++[d]) T1=(0,m2.set d.toNat false,ls):=by
  unfold Vn;rw[Hx (by rw[fields_En];decide),H7 (by rfl)];simp
 rw[Fr.flat,I6,jl,gz];dsimp only;rw[H7 rfl,Jj,a3,I6,jl,gF];dsimp only;rw[H7 rfl,c3,Ig,H9,Ig]
 congr 1;omega
def Gd.lp{d times:Int}{b:Fr Lo}(gg:ls.length<8)(hd:0≤d∧d<8)(hn:¬d∈ls)(gz:¬d∈S)(ht:times≤1048576)(hb:Gd bs (d::S) (ls++[d]) b S')(hs:∀x∈S,x∈S'):Gd bs S ls (Oz d times b) S:=by
 unfold Oz;split
 ·exact .nil
 ·exact .loop gg hd hn J hb (λx hx=>⟨hs x hx,λq=>gz (q ▸ hx)⟩) .nil
def chkR_Gd(C:bs.length≤32)(D:f.flat.length≤65536)(A:∀b∈bs,1≤b.size∧b.size≤65536∧1≤b.kind∧b.kind≤3)(h:Gd bs [] [] f S'):Ra 64 bs f.flat=((f.flat.length:Int),0):=by
 unfold Ra;rw[Hx J,Hx,Hx J,Hx]
 ·obtain⟨E,_,_,_,B⟩:=h (List.replicate 64 false) ⟨N,N⟩ (λx F G=>by
   unfold Pj;rw[Hv,List.getElem?_replicate];split<;>simp)
  have:=B 0 [];rw[Jp]at this;rw[show (64:Int).toNat=64 from rfl,this,jl,H7 rfl,Iy]
 ·rw[Jb];rintro⟨b,j,z⟩;have:=A b j;simp at z;omega
 ·rw[Jb];rintro⟨b,j,z⟩;have:=A b j;simp at z;omega
end gd
end
section
section w
variable {bs : List Bf} {S : List Int} {l : List Lo}
def c8{d:Int}{v:UInt64}(h:0≤d∧d<64)(k:Pk 64 bs (d::S) l):Pk 64 bs S (cK d v::l):=⟨zj6 h,Dq,Gm,k⟩
def cn{d e a b:Int}(h:0≤d∧d<64)(he:0≤e∧e<64)(g:0≤a∧a<64)(j:0≤b∧b<64)(z:d≠e)(A:a∈S)(B:b∈S)(k:Pk 64 bs (d::e::S) l):Pk 64 bs S (N7 d e a b::l) :=
 ⟨zdr h he g j z,Fh,by simp[Oy,N7,A,B],k⟩
def uk{d a b:Int}(j:3≤z∧z≤7)(h:0≤d∧d<64)(A:0≤a∧a<64)(B:0≤b∧b<64)(C:a∈S)(E:b∈S)(k:Pk 64 bs (d::S) l):Pk 64 bs S (M8 z d a b::l):=by
 refine⟨zd4 j h A B,Fo,λx g=>?_,?_⟩
 ·unfold Oy M8 at g;simp only at g;rw[Hx J,H7 J]at g;simp at g;rcases g with rfl|rfl
  ·exact C
  ·exact E
 ·have:Nf (M8 z d a b)=[d]:=by unfold Nf M8;simp only;rw[Hx J,Hx J]
  rw[this];exact k
def zaz{d e a b c:Int}(g:z=11∨z=12)(h:0≤d∧d<64)(he:0≤e∧e<64)(j:0≤a∧a<64)(A:0≤b∧b<64)(B:0≤c∧c<64)(C:d≠e)(E:a∈S)(F:b∈S)(G:c∈S)(k:Pk 64 bs (d::e::S) l):Pk 64 bs S (Nv z d e a b c::l):=by
 refine⟨zy8 g h he j A B C,by rcases g with rfl|rfl<;>simp[Nv],?_,?_⟩
 ·rcases g with rfl|rfl<;>simp[Oy,Nv,E,F,G]
 ·rcases g with rfl|rfl<;>exact k
def zps{d c a b:Int}(h:0≤d∧d<64)(g:0≤c∧c<64)(j:0≤a∧a<64)(z:0≤b∧b<64)(A:c∈S)(B:a∈S)(C:b∈S)(k:Pk 64 bs (d::S) l):Pk 64 bs S (Oc d c a b::l) :=
 ⟨zxs h g j z,by simp[Oc],by simp[Oy,Oc,B,C,A],k⟩
structure Bp (bs:List Bf) (p:Pn):Prop where
 b:p.b<bs.length
 s:((p.a+p.k:Nat):Int)≤(Ns bs p.b).size
 z:(Ns bs p.b).size≤65536
def Bw(bs:List Bf)(p:Pn):Prop:=(Ns bs p.b).kind≠1
def Bp.at{p:Pn}(h:Bp bs p){off:Int}(h0:0≤off)(hk:off<p.k):iU (p.p.at_+off)<iU (Ns bs p.p.buf.toNat).size:=by
 obtain⟨o,rfl⟩:=Hz h0;have hs:=h.s;have hz:=h.z;obtain⟨z,gg⟩:=Hz (J:0≤(Ns bs p.b).size);have e1:p.p.buf.toNat=p.b:=rfl;rw[e1,gg,Jm,V4 J,cm J];omega
def X8{d i:Int}{p:Pn}(g:Bp bs p)(h:0≤d∧d<64)(hi:0≤i∧i<64)(j:i∈S)(k:Pk 64 bs (d::S) l):Pk 64 bs S (Nj d p.p i z::l):=by
 refine⟨zs3 h (.inr hi) ⟨Ec,B9⟩ (λq=>J),by simp[Nj],?_,k⟩;have:i≠-1:=J
 simp[Oy,Nj,this,j]
def zcx{d:Int}{p:Pn}(g:Bp bs p)(h:0≤d∧d<64)(j:0≤z)(A:z<p.k)(k:Pk 64 bs (d::S) l):Pk 64 bs S (Nj d p.p (-1) z::l):=by
 refine⟨zs3 h (.inl rfl) ⟨Ec,B9⟩ (λ_=>g.at j A),by simp[Nj],by simp[Oy,Nj],k⟩
def ux{v i:Int}{p:Pn}(g:Bp bs p)(hw:Bw bs p)(h:0≤v∧v<64)(hi:0≤i∧i<64)(j:i∈S)(A:v∈S)(k:Pk 64 bs S l):Pk 64 bs S (Nn p.p i z v::l):=by
 refine⟨zqg h (.inr hi) ⟨Ec,B9⟩ hw (λq=>J),by simp[Nn],?_,k⟩;have:i≠-1:=J
 simp[Oy,Nn,this,j,A]
def zch{v:Int}{p:Pn}(g:Bp bs p)(hw:Bw bs p)(h:0≤v∧v<64)(j:0≤z)(A:z<p.k)(B:v∈S)(k:Pk 64 bs S l):Pk 64 bs S (Nn p.p (-1) z v::l):=by
 refine⟨zqg h (.inl rfl) ⟨Ec,B9⟩ hw (λ_=>g.at j A),by simp[Nn],by simp[Oy,Nn,B],k⟩
def okL_nil:Pk 64 bs S []:=trivial
end w
section into
variable {bs : List Bf} {ls : List Int} {R D : Int} {d a b n t : Pn} {k : Int}
def Yj{S:List Int}{l:List Lo}{a b:Int}(F:16≤R∧R≤50)(g:0≤a∧a<64)(j:0≤b∧b<64)(z:a∈S)(A:b∈S)(B:R∈S)(C:R+3∈S)(E:R+7∈S)(k:Pk 64 bs ((R+3)::(R+5)::(R+6)::(R+9)::(R+6)::(R+8)::(R+5)::(R+6)::S) l):Pk 64 bs S (Oa R a b++l):=by
 unfold Oa;refine cn ?_ ?_ g j ?_ z A (zaz (.inl rfl) ?_ ?_ ?_ ?_ ?_ ?_ ?_ ?_ ?_ (zaz (.inl rfl) ?_ ?_ ?_ ?_ ?_ ?_ ?_ ?_ ?_ (uk ?_ ?_ ?_ ?_ ?_ ?_ (uk ?_ ?_ ?_ ?_ ?_ ?_ k))))
 all_goals first|omega|(simp[B,C,E];done)|(simp;omega)
def zuv{n r:Int}:∀o∈Uw n r,∀x∈Nf o,r≤x∧x≤r+4:=by
 intro o ho;simp[Uw,mp,Ye,zqb,cK,N7,M8]at ho;rcases ho with rfl|rfl|rfl|rfl|⟨_,rfl|rfl|rfl⟩|rfl|rfl<;>simp[Nf]<;>omega
def t9{i:Int}(C:16≤R∧R≤50)(hi:0≤i∧i<8)(E:0≤D∧D<8)(F:¬D∈ls)(G:D≠i)(A:ls.length<8)(j:∀x∈ls,x<8)(H:Bp bs a)(I:Bp bs b)(z:Bp bs t)(B:Bw bs t)(P:0≤k∧k+1<t.k) :
  Gd bs [i,R,R+1,R+10] ls (T9 a.p b.p t.p k R D i) [i,R,R+1,R+10]:=by
 have K:(t.k:Int)≤65536:=Es
 unfold T9;have L:Pk 64 bs [i,R,R+1,R+10] [Nj (R+2) b.p i 0,cK (R+3) 0]:=X8 I J J N (c8 J okL_nil);have M:Pk 64 bs (D::(List.flatMap Nf [Nj (R+2) b.p i 0,cK (R+3) 0]++[i,R,R+1,R+10])) (Ud a.p t.p R D):=by
  unfold Ud;refine X8 H J J N (X8 z J J N (Yj C J J N (by simp[Nf,Nj]) By By N (ux z B J J N N okL_nil)))
 have O:Pk 64 bs (List.flatMap Nf [Nj (R+2) b.p i 0,cK (R+3) 0]++[i,R,R+1,R+10]) (O6 t.p k R++[Nn t.p (-1) k (R+7),Nn t.p (-1) (k+1) (R+8)]):=by
  unfold O6;refine zcx z J J J (zaz (.inl rfl) J J J J J J N By By (zch z B J J J N (zch z B J J J N okL_nil)))
 refine Gd.mono ((Gd.L j L ?_).cat ((Gd.lp A E F ?_ J (Gd.L ?_ M ?_) ?_).cat (Gd.L j O ?_))) (λx h=>h) ?_
 ·simp[Nf,Nj,cK];omega
 ·simp[Nf,Nj,cK];omega
 ·intro x g;rcases Ir.1 g with g|g
  ·exact j x g
  ·simp at g;omega
 ·simp[Nf,Ud,Oa,Nj,Nn,N7,Nv,M8];omega
 ·intro x g;exact Iw _ (Ik _ g)
 ·simp[Nf,O6,Nj,Nn,Nv];omega
 ·intro x g;exact Iw _ (Iw _ g)
def yy{i:Int}(C:16≤R∧R≤50)(F:0≤D∧D<8)(G:¬D∈ls)(H:D≠i)(A:ls.length<8)(z:∀x∈ls,x<8)(E:Bp bs n)(g:Bp bs t)(B:Bw bs t)(P:1≤k∧k+1<t.k)(I:0<n.k) :
  Gd bs [i,R,R+1,R+10] ls (Ul n.p t.p k R D) [i,R,R+1,R+10]:=by
 have K:(t.k:Int)≤65536:=by have:=g.s;have:=g.z;omega
 unfold Ul;have L:Pk 64 bs [i,R,R+1,R+10] ([Nj (R+7) t.p (-1) 0,N7 (R+5) (R+10) (R+7) (R+1),Nj (R+4) n.p (-1) 0,cK (R+3) 0]++Oa R (R+10) (R+4)):=by
  rw[←Jp (_++Oa R (R+10) (R+4)),Jj];exact zcx g J J J (cn J J J J J N N (zcx E J J J (c8 J (Yj C J J N N N N N okL_nil))))
 have M:Pk 64 bs (D::(List.flatMap Nf ([Nj (R+7) t.p (-1) 0,N7 (R+5) (R+10) (R+7) (R+1),Nj (R+4) n.p (-1) 0,cK (R+3) 0]++Oa R (R+10) (R+4))++[i,R,R+1,R+10])) (Uv n.p t.p R D):=by
  unfold Uv;refine X8 E J J N (X8 g J J N (Yj C J J N (by simp[Nf,Nj]) By By N (ux g B J J N N okL_nil)))
 have O:Pk 64 bs (List.flatMap Nf ([Nj (R+7) t.p (-1) 0,N7 (R+5) (R+10) (R+7) (R+1),Nj (R+4) n.p (-1) 0,cK (R+3) 0]++Oa R (R+10) (R+4))++[i,R,R+1,R+10]) (O6 t.p k R++[Nn t.p (-1) (k-1) (R+7),Nj (R+7) t.p (-1) (k+1),M8 3 (R+7) (R+7) (R+8),Nn t.p (-1) k (R+7)]):=by
  unfold O6;refine zcx g J J J (zaz (.inl rfl) J J J J J J N By By (zch g B J J J N (zcx g J J J (uk J J J J N N (zch g B J J J N okL_nil)))))
 refine Gd.mono ((Gd.L z L ?_).cat ((Gd.lp A F G ?_ J (Gd.L ?_ M ?_) ?_).cat (Gd.L z O ?_))) (λx h=>h) ?_
 ·simp[Nf,Oa,Nj,cK,N7,Nv,M8];omega
 ·simp[Nf,Oa,Nj,cK,N7,Nv,M8];omega
 ·intro x j;rcases Ir.1 j with j|j
  ·exact z x j
  ·simp at j;omega
 ·simp[Nf,Uv,Oa,Nj,Nn,N7,Nv,M8];omega
 ·intro x j;exact Iw _ (Ik _ j)
 ·simp[Nf,O6,Nj,Nn,Nv,M8];omega
 ·intro x j;exact Iw _ (Iw _ j)
def Z9{x:Int}{S:List Int}{p:Pn}(C:0≤x∧x<64)(E:x∈S)(F:0≤D∧D<8)(G:¬D∈ls)(j:¬D∈S)(z:ls.length<8)(A:∀x∈ls,x<8)(B:Bp bs p)(wp:Bw bs p):Gd bs S ls (S5 p.p x D) S:=by
 have H:(p.k:Int)≤65536:=by have:=B.s;have:=B.z;omega
 unfold S5;have h:Pk 64 bs (D::S) [Nn p.p D 0 x]:=ux B wp C J N Ak okL_nil;refine Gd.lp z F G j (by show (p.k:Int)≤_;omega) (Gd.L ?_ h ?_) ?_
 ·intro y g;rcases Ir.1 g with g|g
  ·exact A y g
  ·simp at g;omega
 ·simp[Nf,Nn]
 ·intro y g;exact Iw _ (Ik _ g)
def aw{x:List Lo}{S:List Int}(K:16≤R∧R≤50)(B:0≤D∧D<8)(C:¬D∈ls)(z:¬D∈S)(A:ls.length<8)(j:∀x∈ls,x<8)(E:Bp bs n)(F:Bp bs t)(L:k≤65536)
  (G:Pk 64 bs ((R+6)::(R+8)::(R+4)::(R+7)::D::(R+8)::S) x) (hm:∀o∈x,∀y∈Nf o,8≤y):Gd bs S ls (Wf n.p t.p k R D x) ((R+8)::S):=by
 unfold Wf;have H:Pk 64 bs S [cK (R+8) 0]:=c8 J okL_nil;have I:Pk 64 bs (D::(List.flatMap Nf [cK (R+8) 0]++S)) (Ub n.p t.p R D++x):=by
  unfold Ub;exact X8 F J J N (X8 E J J N (zaz (.inr rfl) J J J J J J N N Ci G))
 refine (Gd.L j H ?_).cat (Gd.lp A B C ?_ J (Gd.L ?_ I ?_) ?_)
 ·simp[Nf,cK];omega
 ·simp[Nf,cK];exact⟨J,z⟩
 ·intro y g;rcases Ir.1 g with g|g
  ·exact j y g
  ·simp at g;omega
 ·intro o ho;rcases Ir.1 ho with ho|ho
  ·simp[Ub]at ho;rcases ho with rfl|rfl|rfl<;>simp[Nf,Nj,Nv]<;>omega
  ·exact hm o ho
 ·intro y g;exact Iw _ (Ik _ g)
def zw(A:16≤R∧R≤50)(B:0≤D∧D<8)(C:¬D∈ls)(j:ls.length<8)(g:∀x∈ls,x<8)(G:Bp bs d)(H:Bw bs d)(E:Bp bs n)(z:Bp bs t)(L:0≤k∧k<t.k):Gd bs [R] ls (Yc d.p n.p t.p k R D) [R]:=by
 have I:(t.k:Int)≤65536:=Es
 unfold Yc;have K:Pk 64 bs [R+8,R] [Nj (R+7) t.p (-1) k,Nv 12 (R+6) (R+10) (R+7) R (R+8)]:=zcx z J J J (zaz (.inr rfl) J J J J J J N N N okL_nil);refine Gd.mono ((aw A B C Ab j g E z J okL_nil N).cat ((Gd.L g K ?_).cat (aw A B C ?_ j g E z J ?_ ?_))) (λx h=>h) ?_
 ·simp[Nf,Nj,Nv];omega
 ·simp[Nf,Nj,Nv];omega
 ·exact zps J J J J (by simp[Nf,Nj,Nv]) N N (ux G H J J N N okL_nil)
 ·simp[Nf,Oc,Nn];omega
 ·intro x F;simp at F;subst F;simp
def gd_into(B:16≤R∧R≤50)(C:0≤D∧D+1<8)(E:¬D∈ls)(A:¬D+1∈ls)(K:ls.length<7)(j:∀x∈ls,x<8)(L:Bp bs d)(M:Bw bs d)(O:Bp bs a)(P:Bp bs b)(F:Bp bs n)(z:Bp bs t)(G:Bw bs t)(Q:1≤k∧k+1<t.k)(H:0<n.k) :
  Gd bs [] ls (Xz d.p a.p b.p n.p t.p k R D) []:=by
 have T:(t.k:Int)≤65536:=Es
 unfold Xz;have U:Pk 64 bs [] ([cK R 0,Nj (R+10) n.p (-1) 0]++Uw (R+10) (R+1)) :=
  c8 J (zcx F J J J (qu J J N))
 have I:∀x∈[R,R+1,R+10],x∈List.flatMap Nf ([cK R 0,Nj (R+10) n.p (-1) 0]++Uw (R+10) (R+1))++[]:=by
  intro x g;simp at g;rcases g with rfl|rfl|rfl<;>simp[Nf,cK,Nj,Uw,mp,N7,M8]
 refine Gd.mono (Gd.cat (Gd.mono (Gd.L j U ?_) (λx h=>h) I) ((Z9 (x:=R) J N ⟨C.1,J⟩ E Ab J j z G).cat ((Gd.lp J ⟨C.1,J⟩ E Ab J ((t9 B J J ?_ J ?_ ?_ O P z G J).cat (yy B J ?_ J ?_ ?_ F z G Q H)) ?_).cat (Gd.mono (zw B ⟨C.1,J⟩ E J j L M F z J) ?_ (λx h=>h))))) (λx h=>h) N
 ·intro o ho;rcases Ir.1 ho with ho|ho
  ·simp at ho;rcases ho with rfl|rfl<;>simp[Nf,cK,Nj]<;>omega
  ·intro x g;have:=zuv o ho x g;omega
 ·simp;exact⟨A,J⟩
 ·simp;omega
 ·intro x g;rcases Ir.1 g with g|g
  ·exact j x g
  ·simp at g;omega
 ·simp;exact⟨A,J⟩
 ·simp;omega
 ·intro x g;rcases Ir.1 g with g|g
  ·exact j x g
  ·simp at g;omega
 ·intro x g;exact Ik _ g
 ·intro x g;simp at g;simp[g]
end into
end
section
def rgR(R x:Int):Prop:=x=-1∨(R≤x∧x<R+14)
structure OpG (nb:Nat) (R lo hi:Int) (o:Lo):Prop where
 k:o.kind≠16∧o.kind≠17
 d:rgR R o.d
 e:rgR R o.e
 a:rgR R o.a∨(lo≤o.a∧o.a≤hi)
 b:rgR R o.b
 c:rgR R o.c
 m:(o.kind=14∨o.kind=15)→o.a=-1∨(lo≤o.a∧o.a≤hi)
 f:o.buf.toNat<nb
def LpG(g:Int)(o:Lo):Prop:=o.kind=16∧o.d=g∧o.e=-1∧o.a=-1∧o.b=-1∧o.c=-1∧1≤o.imm.toNat
section al
variable {nb : Nat} {R lo hi : Int}
def C16(x:Int):Bool:=decide (16≤x)
end al
end
section
section into
variable {nb : Nat} {R lo hi D k : Int} {d a b n t : Pn}
def rg(g:Int)(h:0≤g∧g<14):rgR R (R+g):=.inr J
end into
noncomputable def kj:Nat→Int→Fr Lo→Fr Lo
 |0,_,f=>f
 |n+1,i,f=>.loop (Tn i 1) (kj n (i+1) f) T1 .nil
def Qk:Nat→Int→List Lo
 |0,_=>[]
 |n+1,i=>⟨16,i,-1,-1,-1,-1,0,1⟩::Qk n (i+1)
def wrap_flat:∀(n:Nat) (i:Int) (f:Fr Lo),(kj n i f).flat=Qk n i++(f.flat++List.replicate n T1)
 |0,_,f=>by simp[kj,Qk]
 |n+1,i,f=>by
  rw[kj,Fr.flat,wrap_flat n,Qk,List.replicate_succ'];simp[Fr.flat,Tn,iU1]
def az{B:List Bf}:∀(n:Nat) (i:Int) (j:List Int) (f:Fr Lo),0≤i→i+n≤7→(j.length:Int)=i→(∀x∈j,x<i)→(∀g:List Int,(g.length:Int)=i+n→(∀x∈g,x<i+n)→Gd B [] g f [])→Gd B [] j (kj n i f) []
 |0,i,j,f,_,_,C,A,h=>by simpa [kj] using h j Cm Cj
 |n+1,i,j,f,F,G,C,A,h=>by
  refine .loop J J (λq=>by have:=A _ q;omega) J (Gd.mono (az n (i+1) (j++[i]) f J J Ab (λx z=>?_) λg H E=>?_) N N) (S':=[]) N .nil
  ·rcases Ir.1 z with q|q
   ·have:=A x q;omega
   ·simp at q;omega
  ·exact h g J λx z=>by have:=E x z;omega
def co{sz:Nat→Nat}{A:Fs→Prop}:∀(n:Nat) (i:Nat) (f:Fr Lo) (s:Fs),(∀g:Fs,g.m=s.m→Tx sz f g A)→Tx sz (kj n i f) s A
 |0,_,f,s,h=>h s rfl
 |n+1,i,f,s,h=>by
  have z:(Tn (i:Int) 1).imm.toNat=1:=by simp[Tn,iU1]
  refine .loop (I:=λB g=>if B=0 then g=s else A g) rfl (λB g C j=>?_) λg j=>?_
  ·rw[z]at C;have:B=0:=J
   subst this;rw[H7 rfl]at j;subst j;exact (co n (i+1) f _ λE F=>h E (by rw[F];rfl)).mono λH G=>B1
  ·rw[z,Hx J]at j;exact .nil j
end
def powW(k:Nat):(18446744073709551616:Nat)^k=2^(64*k):=by rw[Nat.pow_mul]
def og{D:Nat}(hi:g*vI%A=1%A)(h:g*D+vU*A=j+Q*A)(z:D<A):D=j*vI%A:=by
 have B:(g*D)%A=j%A:=by
  have:=congrArg (· % A) h;simpa using this
 have C:D*(g*vI)%A=j*vI%A:=by
  rw[(Ei:D*(g*vI)=g*D*vI),Jh,B,←Jh]
 rw[←C,Jh,hi,←Jh,Kw,Iv z]
def run_all{f:Fr Lo}{bs:List Bf}{X:List (List UInt64)}{M:Fs→Prop}(A:f.wf Qz)(z:f.regs bs.length []=true)(B:f.costZ≤800000000)
  (F:Tx (yi (Qf 64 bs X)) f (S7 (Qf 64 bs X)) M) :
  ∃E j t,E≤800000000∧Pq f.flat (f.ends 0) E (Qf 64 bs X)=some j∧j.i=f.flat.length∧Rep bs.length (yi (Qf 64 bs X)) j t∧M t∧j.l.length≤f.costZ:=by
 have C:(Qf 64 bs X).r.length=64:=Dr
 have g:=Rep.abs (Qf 64 bs X) C;have D:(Qf 64 bs X).bufs.length=bs.length:=by simp[Qf,Tt]
 rw[D]at g;obtain⟨t,G,H⟩:=F;obtain⟨E,j,I,K,_,L,O,P⟩:=zix (os:=f.flat) (es:=f.ends 0) f 0 [] [] [] (Qf 64 bs X) (S7 (Qf 64 bs X)) t A z N N rfl rfl g G;refine⟨E,j,t,J,I,by rw[K,Fr.flat_len,Iy],L,H,?_⟩;have:(Qf 64 bs X).l.length=0:=rfl;omega
def costZ_le:∀f:Fr Lo,f.costZ≤2*f.stp
 |.nil=>by simp[Fr.costZ]
 |.op _ r=>by have:=costZ_le r;rw[Fr.costZ,Fr.stp];omega
 |.loop o b _ r=>by
  have j:=costZ_le b;have z:=costZ_le r;have g:o.imm.toNat*(b.costZ+2)≤o.imm.toNat*(2*(1+b.stp)):=Mo _ J;rw[M4]at g;rw[Fr.costZ,Fr.stp];omega
noncomputable def Xg(l:List UInt64)(i:Nat):UInt64:=if l=[] then 0 else l.getD (i%l.length) 0*iU (1+((i/l.length:Nat):Int)*2)+iU ((i/l.length:Nat):Int)
noncomputable def zu4(l:List UInt64)(n:Nat):List UInt64:=(List.range n).map (Xg l)
def zk6(l:List UInt64)(n:Nat):(zu4 l n).length=n:=by simp[zu4]
section
def stp_lp(d g:Int)(b:Fr Lo)(j:g≤1000000):(Oz d g b).stp≤g.toNat*(1+b.stp):=by
 unfold Oz;split
 ·simp[Fr.stp]
 ·obtain⟨n,rfl⟩:=Hz (J:0≤g);rw[Fr.stp,Fr.stp];have:(Tn d (n:Int)).imm.toNat=n:=V4 J;rw[this];simp
section facts
variable {k y e r d : Nat}
def wrap_stp:∀(n:Nat) (i:Int) (f:Fr Lo),(kj n i f).stp=n+f.stp
 |0,_,_=>by simp[kj]
 |n+1,i,f=>by
  rw[kj,Fr.stp,Fr.stp,wrap_stp n];have:(Tn i 1).imm.toNat=1:=by simp[Tn,iU1]
  rw[this];omega
end facts
end
def vl_get:∀{n:Nat} {f:Nat→UInt64} {l:List UInt64},l.length≤n→(∀i,i<n→f i=l.getD i 0)→vl f n=val l
 |0,f,l,h,_=>by
  have:l=[]:=Ip J;subst this;simp[vl,val]
 |n+1,f,l,h,g=>by
  rw[zqj];cases l with
  |nil =>
   have j:=g 0 J;have z:=vl_get (n:=n) (f:=λi=>f (i+1)) (l:=[]) N (λi hi=>by have:=g (i+1) J;simpa using this);rw[z,j];simp[val]
  |cons x l =>
   have j:=g 0 J;have z:=vl_get (n:=n) (f:=λi=>f (i+1)) (l:=l) (by simp at h;omega) (λi hi=>by have:=g (i+1) J;simpa using this);rw[z,j];simp[val]
section
section facts
variable {k : Nat}
end facts
end
section
def Sg(x:Int):Bool:=decide (x<16)
def S4(x:Int):Bool:=decide (x<0) || decide (16≤x)
def V2(o:Lo):Bool :=
 if o.kind=16 then decide (0≤o.d)&&decide (o.d<16)
 else if o.kind=17 then true
 else if o.kind=14∨o.kind=15 then Sg o.a&&(S4 o.d&&S4 o.e)
 else (S4 o.d&&S4 o.e) || (Sg o.a&&(Sg o.b&&Sg o.c))
structure Lock (s t:Ms):Prop where
 i:s.i=t.i
 first:s.first=t.first
 l:s.l=t.l
 rs:s.r.length=64
 rt:t.r.length=64
 low:∀x,x<16→s.r.getD x 0=t.r.getD x 0
 bufs:s.bufs.map List.length=t.bufs.map List.length
section lock
variable {s t s' t' : Ms} {os : List Lo} {es : List Int}
def Lock.at(h:Lock s t){x:Int}(hx:Sg x=true):atR s.r x=atR t.r x:=by
 unfold Sg at hx;have hx:=Ka hx;unfold atR;by_cases q:x<0
 ·rw[H7 q,H7 q]
 ·rw[Hx q,Hx q];exact h.low _ J
def me{r:List UInt64}{x:Int}{v:UInt64}(h:S4 x=true){y:Nat}(g:y<16):(Nm r x v).getD y 0=r.getD y 0:=by
 unfold S4 at h;simp only[Jd,Ic]at h;unfold Nm;split
 ·simp only[Hv];rw[Hw J]
 ·rfl
def zj1{r q:List UInt64}{x:Int}{v:UInt64}(j:r.length=64)(z:q.length=64)(h:∀y,y<16→r.getD y 0=q.getD y 0):∀y,y<16→(Nm r x v).getD y 0=(Nm q x v).getD y 0:=λy g=>by
 unfold Nm;split
 ·by_cases A:x.toNat<64
  ·rw[Wd _ _ _ _ _ J,Wd _ _ _ _ _ J];split
   ·rfl
   ·exact h y g
  ·rw[List.set_eq_of_length_le J,List.set_eq_of_length_le J];exact h y g
 ·exact h y g
def Wu{r:List UInt64}{x:Int}{v:UInt64}(h:r.length=64):(Nm r x v).length=64:=by unfold Nm;split<;>simp[h]
def Lock.row(h:Lock s t)(x:Int):(Uh s.bufs x).length=(Uh t.bufs x).length:=by
 have hb:=congrArg (λl=>l.getD x.toNat 0) h.bufs;simp only[Hv,Jw]at hb;unfold Uh;simp only[Hv];cases h1:s.bufs[x.toNat]?<;>cases h2:t.bufs[x.toNat]?<;>simp[h1,h2]at hb ⊢<;>first|exact hb|skip
def Lock.step(h:Lock s t)(he:∀(i:Nat) (o p:Lo),os[i]?=some o→o.kind=17→os[(es.getD i 0).toNat]?=some p→p.kind=16)(ho:∀o∈os,V2 o=true)(hs:Rq os es s=some s')(ht:Rq os es t=some t'):Lock s' t':=by
 unfold Rq at hs ht;rw[←h.i]at ht;cases gg:os[s.i]? with
 |none =>
  rw[gg]at hs ht;cases hs;cases ht;exact h
 |some o =>
 rw[gg]at hs ht;dsimp only at hs ht;have hl:=ho o (Iq gg);unfold V2 at hl;by_cases gE:o.kind=16
 ·rw[H7 gE]at hs ht hl;cases hs;cases ht;simp only[Hy,Ic]at hl;rw[←h.first];cases s.first
  ·exact⟨Ey,rfl,D8,h.rs,h.rt,h.low,h.bufs⟩
  ·exact⟨Ey,rfl,D8,Wu h.rs,Wu h.rt,zj1 h.rs h.rt h.low,h.bufs⟩
 rw[Hx gE]at hs ht hl;by_cases gC:o.kind=17
 ·rw[H7 gC]at hs ht;cases hp:os[(es.getD s.i 0).toNat]? with
  |none=>rw[hp]at hs;cases hs
  |some p =>
  rw[hp]at hs ht;dsimp only at hs ht;have kp:=he _ _ _ gg gC hp;have gD:=ho p (Iq hp);unfold V2 at gD;rw[H7 kp]at gD;simp only[Hy,Ic]at gD;rw[←h.at (x:=p.d) (by unfold Sg;exact Js J)]at ht;split at hs
  ·rename_i g;rw[H7 g]at ht;cases hs;cases ht;exact⟨rfl,rfl,h.l,Wu h.rs,Wu h.rt,zj1 h.rs h.rt h.low,h.bufs⟩
  ·rename_i g;rw[Hx g]at ht;cases hs;cases ht;exact⟨Ey,h.first,h.l,h.rs,h.rt,h.low,h.bufs⟩
 rw[Hx gC]at hs ht hl;unfold Vm at hs ht;by_cases gz:o.kind=14
 ·rw[H7 (.inl gz)]at hl;simp only[Hy]at hl;rw[H7 gz,←h.at hl.1,←h.row]at ht;rw[H7 gz]at hs;split at hs
  ·rename_i g;rw[H7 g]at ht;cases hs;cases ht;exact⟨Ey,h.first,D8,Wu (Wu h.rs),Wu (Wu h.rt),λx hx=>Cz,h.bufs⟩
  ·cases hs
 rw[Hx gz]at hs ht;by_cases gA:o.kind=15
 ·rw[H7 (.inr gA)]at hl;simp only[Hy]at hl;rw[H7 gA,←h.at hl.1,←h.row]at ht;rw[H7 gA]at hs;split at hs
  ·rename_i g;rw[H7 g]at ht;cases hs;cases ht;refine⟨Ey,h.first,D8,Wu (Wu h.rs),Wu (Wu h.rt),λx hx=>Cz,?_⟩;simp only[Ji,J3];rw[h.row,h.bufs]
  ·cases hs
 rw[Hx gA]at hs ht;rw[Hx J]at hl;cases hs;cases ht;simp only[Jd,Hy]at hl;refine⟨Ey,h.first,D8,Wu (Wu h.rs),Wu (Wu h.rt),λx hx=>?_,h.bufs⟩;rcases hl with ⟨h1,h2⟩|⟨h1,h2,h3⟩
 ·show (Nm (Nm s.r o.d _) o.e _).getD x 0=(Nm (Nm t.r o.d _) o.e _).getD x 0;rw[me h2 hx,me h1 hx,me h2 hx,me h1 hx];exact h.low x hx
 ·show (Nm (Nm s.r o.d _) o.e _).getD x 0=(Nm (Nm t.r o.d _) o.e _).getD x 0;rw[h.at h1,h.at h2,h.at h3];exact zj1 (Wu h.rs) (Wu h.rt) (zj1 h.rs h.rt h.low) x hx
def Lock.step_some(h:Lock s t)(ho:∀o∈os,V2 o=true)(hs:Rq os es s=some s'):∃t',Rq os es t=some t':=by
 unfold Rq at hs ⊢;rw[←h.i];cases gA:os[s.i]? with
 |none=>exact⟨_,rfl⟩
 |some o =>
 rw[gA]at hs;dsimp only at hs ⊢;have hl:=ho o (Iq gA);unfold V2 at hl;by_cases gC:o.kind=16
 ·rw[H7 gC];exact⟨_,rfl⟩
 rw[Hx gC]at hs hl ⊢;by_cases gD:o.kind=17
 ·rw[H7 gD]at hs ⊢;cases hp:os[(es.getD s.i 0).toNat]? with
  |none=>rw[hp]at hs;cases hs
  |some p =>
   dsimp only;split<;>exact⟨_,rfl⟩
 rw[Hx gD]at hs hl ⊢;unfold Vm at hs ⊢;by_cases gg:o.kind=14
 ·rw[H7 (.inl gg)]at hl;simp only[Hy]at hl;rw[H7 gg]at hs ⊢;rw[←h.at hl.1,←h.row];split at hs
  ·rename_i g;rw[H7 g];exact⟨_,rfl⟩
  ·cases hs
 rw[Hx gg]at hs ⊢;by_cases gz:o.kind=15
 ·rw[H7 (.inr gz)]at hl;simp only[Hy]at hl;rw[H7 gz]at hs ⊢;rw[←h.at hl.1,←h.row];split at hs
  ·rename_i g;rw[H7 g];exact⟨_,rfl⟩
  ·cases hs
 rw[Hx gz];exact⟨_,rfl⟩
def Lock.run_some(he:∀(i:Nat) (o p:Lo),os[i]?=some o→o.kind=17→os[(es.getD i 0).toNat]?=some p→p.kind=16)(ho:∀o∈os,V2 o=true):∀(n:Nat) (s t s':Ms),Lock s t→Pq os es n s=some s'→∃t',Pq os es n t=some t'∧Lock s' t'
 |0,s,t,s',h,hs=>by cases hs;exact⟨t,rfl,h⟩
 |n+1,s,t,s',h,hs=>by
  unfold Pq at hs ⊢;split at hs
  ·cases hs
  ·rename_i s1 h1;obtain⟨t1,h2⟩:=h.step_some ho h1;rw[h2];exact Lock.run_some he ho n s1 t1 s' (h.step he ho h1 h2) hs
def stay{os:List Lo}{es:List Int}{s:Ms}(h:os[s.i]?=none):∀n,Pq os es n s=some s
 |0=>rfl
 |n+1=>by
  have:Rq os es s=some s:=by unfold Rq;rw[h]
  unfold Pq;rw[this];exact stay h n
end lock
end
section
section facts
variable {bs : List Bf} {d a b n t : Pn} {k R e nb : Nat}
end facts
end
def zys{bs:List Bf}{X Y:List (List UInt64)}(h:∀i,i<bs.length→(X.getD i []).length=(Y.getD i []).length):Lock (Qf 64 bs X) (Qf 64 bs Y):=by
 refine⟨rfl,rfl,rfl,Dr,Dr,λx _=>rfl,?_⟩;show (Tt bs X bs.length).map List.length=(Tt bs Y bs.length).map List.length;unfold Tt;rw[List.map_map,List.map_map];refine List.map_congr_left λi hi=>?_
 have:=h i (Kh.1 hi);simp only[Function.comp,V7,H9,List.length_replicate];omega
def g8{f:Fr Lo}(hw:f.wf Qz):∀(i:Nat) (o p:Lo),f.flat[i]?=some o→o.kind=17→f.flat[((f.ends 0).getD i 0).toNat]?=some p→p.kind=16:=λi o p ho j g=>by
 obtain⟨k,C,z,A,B⟩:=ends_at f 0 i o hw ho j;rw[Hv,z]at g;simp only[Jz,In,Iy]at g;rw[A]at g;rw[←Option.some.inj g];exact B
def fy{b:Nat}(C:∀o∈vX,¬(o.kind=15∧o.buf.toNat=b)){s D:Ms}(h:Rq vX vL s=some D):D.bufs.getD b []=s.bufs.getD b []∧D.bufs.length=s.bufs.length:=by
 unfold Rq at h;cases g:vX[s.i]? with
 |none=>rw[g]at h;cases h;exact⟨rfl,rfl⟩
 |some o =>
 rw[g]at h;dsimp only at h;have E:=C o (Iq g);by_cases z:o.kind=16
 ·rw[H7 z]at h;cases h;exact⟨rfl,rfl⟩
 rw[Hx z]at h;by_cases A:o.kind=17
 ·rw[H7 A]at h;split at h
  ·cases h
  ·split at h<;>(cases h;exact⟨rfl,rfl⟩)
 rw[Hx A]at h;unfold Vm at h;by_cases B:o.kind=14
 ·rw[H7 B]at h;split at h
  ·cases h;exact⟨rfl,rfl⟩
  ·cases h
 rw[Hx B]at h;by_cases j:o.kind=15
 ·rw[H7 j]at h;split at h
  ·cases h;refine⟨?_,N⟩;simp only[Hv];rw[Hw (λq=>E ⟨j,q⟩)]
  ·cases h
 rw[Hx j]at h;cases h;exact⟨rfl,rfl⟩
def zwy{z:List Lo}{A:List Int}{b:Nat}(j:∀o∈z,¬(o.kind=15∧o.buf.toNat=b)):∀(n:Nat) (s g:Ms),Pq z A n s=some g→g.bufs.getD b []=s.bufs.getD b []∧g.bufs.length=s.bufs.length
 |0,s,g,h=>by cases h;exact⟨rfl,rfl⟩
 |n+1,s,g,h=>by
  unfold Pq at h;split at h
  ·cases h
  ·rename_i B C;obtain⟨D,E⟩:=fy j C;obtain⟨F,G⟩:=zwy j n B g h;exact⟨F.trans D,G.trans E⟩
def X7(sz:Nat→Nat):(Nat→Option Nat)→Fr Lo→Prop
 |_,.nil=>True
 |g,.op o r=>(S4 o.d=true∧S4 o.e=true)∧(o.kind=14∨o.kind=15→(o.a=-1∧o.imm.toNat<sz o.buf.toNat)∨∃x m:Nat,o.a=x∧x<16∧g x=some m∧o.imm.toNat+m≤sz o.buf.toNat∧sz o.buf.toNat≤65536)∧X7 sz g r
 |g,.loop o b _ r=>((0≤o.d∧o.d<16)∧b.noW o.d.toNat=true)∧X7 sz (λx=>if x=o.d.toNat then some o.imm.toNat else g x) b∧X7 sz (λx=>if x=o.d.toNat then none else g x) r
def zuu(g:Nat→Option Nat)(s:Fs):Prop:=∀x m,x<16→g x=some m→(s.r x).toNat<m
def za8{s:Fs}{d:Int}{v:UInt64}(h:S4 d=true){x:Nat}(g:x<16):(Ru s d v).r x=s.r x:=by
 unfold S4 at h;simp only[Jd,Ic]at h;exact zkv J
def op_runs{A:Nat→Nat}{D:Nat→Option Nat}{o:Lo}{s:Fs}(F:zuu D s)(hd:S4 o.d=true)(he:S4 o.e=true)
  (hm:o.kind=14∨o.kind=15→(o.a=-1∧o.imm.toNat<A o.buf.toNat)∨∃x m:Nat,o.a=x∧x<16∧D x=some m∧o.imm.toNat+m≤A o.buf.toNat∧A o.buf.toNat≤65536):∃E,Qu A o s=some E∧∀x,x<16→E.r x=s.r x:=by
 have B:o.kind=14∨o.kind=15→(o.imm+Tk s o.a).toNat<A o.buf.toNat:=λG=>by
  rcases hm G with ⟨e,h⟩|⟨x,m,e,g,C,H,I⟩
  ·unfold Tk;rw[e,H7 Ac,UInt64.add_zero];exact h
  ·have K:=F x m g C;unfold Tk;rw[e,Hx J,In,Jk,Iv J];omega
 unfold Qu;by_cases j:o.kind=14
 ·rw[H7 j,H7 (B (.inl j))];exact⟨_,rfl,λx g=>by rw[za8 he g,za8 hd g]⟩
 rw[Hx j];by_cases z:o.kind=15
 ·rw[H7 z,H7 (B (.inr z))];exact⟨_,rfl,λx g=>by rw[za8 he g,za8 hd g];rfl⟩
 rw[Hx z];exact⟨_,rfl,λx g=>by rw[za8 he g,za8 hd g]⟩
def zfg{Q:Nat→Nat}:∀(f:Fr Lo) (z:Nat→Option Nat) (s:Fs),X7 Q z f→zuu z s→(∀x m,z x=some m→f.noW x=true)→∃G,Tq Q f s=some G∧∀x m,x<16→z x=some m→G.r x=s.r x
 |.nil,_,s,_,_,_=>⟨s,rfl,λ_ _ _ _=>rfl⟩
 |.op o r,z,s,h,H,hw=>by
  obtain⟨⟨U,V⟩,R,T⟩:=h;obtain⟨F,I,E⟩:=op_runs H U V R;obtain⟨K,L,M⟩:=zfg r z F T (λx m j g=>by rw[E x j];exact H x m j g) (λx m g=>by
   have:=hw x m g;simp only[Fr.noW,Hy]at this;exact this.2.2)
  refine⟨K,?_,λx m j g=>(M x m j g).trans (E x j)⟩;unfold Tq;rw[I];exact L
 |.loop o b e r,z,s,h,H,hw=>by
  obtain⟨⟨⟨U,V⟩,X⟩,R,T⟩:=h;have A:∀x m,z x=some m→x≠o.d.toNat∧b.noW x=true∧r.noW x=true:=λx m g=>by
   have:=hw x m g;simp only[Fr.noW,Hy,Jf,I4]at this;exact⟨λq=>this.1 q.symm,this.2.1,this.2.2⟩
  have Y:=o.imm.toNat_lt;have B:∀(n P:Nat) (s:Fs),P+n=o.imm.toNat→zuu z s→∃G,nu (Tq Q b) o.d.toNat n P s=some G∧∀x m,x<16→z x=some m→G.r x=s.r x:=by
   intro n
   induction n with
   |zero=>intro P s _ _;exact⟨s,rfl,λ_ _ _ _=>rfl⟩
   |succ n Z =>
    intro P s hj O;have C:∀x,(s.put o.d.toNat (UInt64.ofNat P)).r x=if x=o.d.toNat then UInt64.ofNat P else s.r x:=λx=>rfl
    obtain⟨F,I,E⟩:=zfg b _ (s.put o.d.toNat (UInt64.ofNat P)) R (λx m j g=>by
     rw[C];by_cases q:x=o.d.toNat
     ·rw[H7 q]at g ⊢;cases g;rw[Je];rw[Iv J];omega
     ·rw[Hx q]at g ⊢;exact O x m j g) (λx m g=>by
     by_cases q:x=o.d.toNat
     ·rw[q];exact X
     ·rw[Hx q]at g;exact (A x m g).2.1)
    have D:∀x m,x<16→z x=some m→F.r x=s.r x:=λx m j g=>by
     have q:=(A x m g).1;rw[E x m j (by rw[Hx q];exact g),C,Hx q]
    obtain⟨K,L,M⟩:=Z (P+1) F J (λx m j g=>by rw[D x m j g];exact O x m j g);refine⟨K,?_,λx m j g=>(M x m j g).trans (D x m j g)⟩;unfold nu;rw[I];exact L
  obtain⟨F,I,E⟩:=B o.imm.toNat 0 s J H;obtain⟨K,L,M⟩:=zfg r _ F T (λx m j g=>by
   by_cases q:x=o.d.toNat
   ·rw[H7 q]at g;cases g
   ·rw[Hx q]at g;rw[E x m j g];exact H x m j g) (λx m g=>by
   by_cases q:x=o.d.toNat
   ·rw[H7 q]at g;cases g
   ·rw[Hx q]at g;exact (A x m g).2.2)
  refine⟨K,?_,λx m j g=>?_⟩
  ·unfold Tq;rw[I];exact L
  ·have q:=(A x m g).1;rw[M x m j (by rw[Hx q];exact g)];exact E x m j g
section
def Ss(sz:Nat→Nat)(bd:Nat→Option Nat)(o:Lo):Prop:=(S4 o.d=true∧S4 o.e=true)∧(o.kind=14∨o.kind=15→(o.a=-1∧o.imm.toNat<sz o.buf.toNat)∨∃x m:Nat,o.a=x∧x<16∧bd x=some m∧o.imm.toNat+m≤sz o.buf.toNat∧sz o.buf.toNat≤65536)
section run
variable {sz : Nat → Nat} {bd : Nat → Option Nat}
def safe_L:∀{l:List Lo},(∀o∈l,Ss sz bd o)→X7 sz bd (Nd l)
 |[],_=>trivial
 |o::_,h=>⟨(h o (I7 ..)).1,(h o (I7 ..)).2,safe_L λx g=>h x (Ik _ g)⟩
def safe_cat:∀{f B:Fr Lo} {bd:Nat→Option Nat},X7 sz bd f→(∀g:Nat→Option Nat,(∀x m,bd x=some m→f.noW x=true→g x=some m)→X7 sz g B)→X7 sz bd (f.cat B)
 |.nil,_,bd,_,h=>h bd λ_ _ e _=>e
 |.op o r,B,bd,j,h=>⟨j.1,j.2.1,safe_cat j.2.2 λg A=>h g λx m e z=>A x m e (by
   simp only[Fr.noW,Hy]at z;exact z.2.2)⟩
 |.loop o b e r,B,bd,j,h=>⟨j.1,j.2.1,safe_cat j.2.2 λg A=>h g λx m q z=>by
   simp only[Fr.noW,Hy,Jf,I4]at z;exact A x m (by rw[Hx (λw=>z.1 w.symm)];exact q) z.2.2⟩
def zv4{g:Nat}(z:g<16):∀{l:List Lo},(∀o∈l,S4 o.d=true∧S4 o.e=true)→(Nd l).noW g=true
 |[],_=>rfl
 |o::l,h=>by
  have j:=h o (I7 ..);have A:=zv4 z (l:=l) λx B=>h x (Ik _ B)
  unfold S4 at j;simp only[Jd,Ic]at j;show (!decide (o.d=g)&&(!decide (o.e=g)&&(Nd l).noW g))=true;rw[A];simp;omega
def zeu{D:Nat}:∀(f g:Fr Lo),(f.cat g).noW D=(f.noW D&&g.noW D)
 |.nil,g=>by simp[Fr.cat,Fr.noW]
 |.op o r,g=>E8
 |.loop o b e r,g=>E8
def noW_lp{n:Nat}{b:Fr Lo}(h:j≠g)(z:b.noW g=true):(Oz (j:Nat) (n:Nat) b).noW g=true:=by
 unfold Oz;split
 ·rfl
 ·simp[Fr.noW,Tn,z,h]
def zzq{D n:Nat}{b:Fr Lo}(A:D<16)(B:n<1000000)(hw:b.noW D=true)(g:X7 sz (λx=>if x=D then some n else bd x) b):X7 sz bd (Oz (D:Nat) (n:Nat) b):=by
 unfold Oz;split
 ·trivial
 ·refine⟨⟨⟨by show (0:Int)≤D;omega,by show (D:Int)<16;omega⟩,hw⟩,?_,trivial⟩;have j:(Tn (D:Nat) (n:Nat)).d.toNat=D:=by simp[Tn]
  have z:(Tn (D:Nat) (n:Nat)).imm.toNat=n:=V4 J;rw[j,z];exact g
def zal{x:Int}(h:16≤x):S4 x=true:=by unfold S4;simp;omega
def high_m1:S4 (-1)=true:=Ac
def zsk{o:Lo}(g:o.kind≠14∧o.kind≠15)(hd:S4 o.d=true)(he:S4 o.e=true):Ss sz bd o:=⟨⟨hd,he⟩,λh=>J⟩
def zx8{p:Pn}(h:p.a+g<18446744073709551616):(iU (p.p.at_+(g:Int))).toNat=p.a+g:=cm h
def zez{p:Pn}{d:Int}{off:Nat}(hd:16≤d)(h:p.a+off<sz p.b)(g:sz p.b≤65536):Ss sz bd (Nj d p.p (-1) (off:Nat)) :=
 ⟨⟨zal hd,high_m1⟩,λ_=>.inl ⟨rfl,Gx⟩⟩
def zet{p:Pn}{d:Int}{x m off:Nat}(hd:16≤d)(g:x<16)(j:bd x=some m)(h:p.a+off+m≤sz p.b)(z:sz p.b≤65536):Ss sz bd (Nj d p.p (x:Nat) (off:Nat)) :=
 ⟨⟨zal hd,high_m1⟩,λ_=>.inr ⟨x,m,rfl,g,j,Gy,z⟩⟩
def zoi{p:Pn}{v:Int}{off:Nat}(h:p.a+off<sz p.b)(g:sz p.b≤65536):Ss sz bd (Nn p.p (-1) (off:Nat) v) :=
 ⟨⟨high_m1,high_m1⟩,λ_=>.inl ⟨rfl,Gx⟩⟩
def zpa{p:Pn}{v:Int}{x m off:Nat}(g:x<16)(j:bd x=some m)(h:p.a+off+m≤sz p.b)(z:sz p.b≤65536):Ss sz bd (Nn p.p (x:Nat) (off:Nat) v) :=
 ⟨⟨high_m1,high_m1⟩,λ_=>.inr ⟨x,m,rfl,g,j,Gy,z⟩⟩
def ok_nil:∀o∈([]:List Lo),Ss sz bd o:=λ_ h=>An
def Qp{o:Lo}{l:List Lo}(h:Ss sz bd o)(k:∀x∈l,Ss sz bd x):∀x∈o::l,Ss sz bd x:=λx g=>by
 rcases If.1 g with rfl|g
 ·exact h
 ·exact k x g
def po{l r:List Lo}(h:∀x∈l,Ss sz bd x)(k:∀x∈r,Ss sz bd x):∀x∈l++r,Ss sz bd x:=λx g=>(Ir.1 g).elim (h x) (k x)
def Ym{d:Int}{v:UInt64}(h:16≤d):Ss sz bd (cK d v):=zsk Dq (zal h) high_m1
def zrs{h l a b:Int}(g:16≤h)(j:16≤l):Ss sz bd (N7 h l a b):=zsk Fh (zal g) (zal j)
def zn0{k d o a b c:Int}(g:k≠14∧k≠15)(hd:16≤d)(ho:16≤o):Ss sz bd (Nv k d o a b c):=zsk g (zal hd) (zal ho)
def znr{k d a b:Int}(g:k≠14∧k≠15)(hd:16≤d):Ss sz bd (M8 k d a b):=zsk g (zal hd) high_m1
def ok_Sel{d c a b:Int}(hd:16≤d):Ss sz bd (Oc d c a b):=zsk (by simp[Oc]) (zal hd) high_m1
def zup{a b:Int}(g:16≤z):∀o∈Oa z a b,Ss sz bd o :=
 Qp (zrs J J) (Qp (zn0 J J J) (Qp (zn0 J J J) (Qp (znr J J) (Qp (znr J J) ok_nil))))
def ziv{D n:Nat}(j:D<16)(z:n<1000000)(h:∀g:Nat→Option Nat,g D=some n→∀o∈vX,Ss sz g o):X7 sz bd (Oz (D:Nat) (n:Nat) (Nd vX)) :=
 zzq j z (zv4 j λo ho=>(h (λ_=>some n) rfl o ho).1) (safe_L (h _ (H7 rfl)))
def ef{n:Nat}(A:j<16)(z:g≠j)(h:∀o∈vX,S4 o.d=true∧S4 o.e=true):(Oz (g:Nat) (n:Nat) (Nd vX)).noW j=true:=noW_lp z (zv4 A h)
def zmy{R D i k:Nat}{a b t:Pn}(U:16≤R)(j:D<16)(hi:i<16)(K:b.in_ sz)(L:a.in_ sz)(M:t.in_ sz){m:Nat}(z:bd i=some m)(hm:m≤b.k)(V:k≤a.k)(O:k+2≤t.k)(A:k<1000000) :
  X7 sz bd (T9 a.p b.p t.p (k:Nat) (R:Nat) (D:Nat) (i:Nat))∧∀I,I<16→D≠I→(T9 a.p b.p t.p (k:Nat) (R:Nat) (D:Nat) (i:Nat)).noW I=true:=by
 obtain⟨X,P⟩:=K;obtain⟨Y,Q⟩:=L;obtain⟨Z,g⟩:=M;have F:∀bd:Nat→Option Nat,bd i=some m→∀o∈[Nj ((R:Nat)+2:Int) b.p (i:Nat) ((0:Nat):Int),cK ((R:Nat)+3:Int) 0],Ss sz bd o:=λbd h =>
  Qp (zet J hi h J P) (Qp (Ym J) ok_nil)
 have G:∀bd:Nat→Option Nat,bd D=some k→∀o∈Ud a.p t.p (R:Nat) (D:Nat),Ss sz bd o:=λbd h =>
  po (Qp (zet (off:=0) J j h J Q) (Qp (zet (off:=0) J j h J g) ok_nil)) (po (zup J) (Qp (zpa (off:=0) j h J g) ok_nil))
 have H:∀bd:Nat→Option Nat,∀o∈O6 t.p (k:Nat) (R:Nat)++[Nn t.p (-1) (k:Nat) ((R:Nat)+7),Nn t.p (-1) ((k+1:Nat):Int) ((R:Nat)+8)],Ss sz bd o:=λbd =>
  po (Qp (zez J J g) (Qp (zn0 J J J) ok_nil)) (Qp (zoi J g) (Qp (zoi J g) ok_nil))
 refine⟨safe_cat (safe_L (F bd z)) λT _=>safe_cat (ziv j A G) λB _=>safe_L (H B),λI C E=>?_⟩;have e:T9 a.p b.p t.p (k:Nat) (R:Nat) (D:Nat) (i:Nat)=(Nd [Nj ((R:Nat)+2:Int) b.p (i:Nat) ((0:Nat):Int),cK ((R:Nat)+3:Int) 0]).cat ((Oz (D:Nat) (k:Nat) (Nd (Ud a.p t.p (R:Nat) (D:Nat)))).cat
   (Nd (O6 t.p (k:Nat) (R:Nat)++[Nn t.p (-1) (k:Nat) ((R:Nat)+7),Nn t.p (-1) ((k+1:Nat):Int) ((R:Nat)+8)]))):=rfl
 rw[e,zeu,zeu,zv4 C λo ho=>(F (λ_=>some m) rfl o ho).1,ef C E λo ho=>(G (λ_=>some k) rfl o ho).1,zv4 C λo ho=>(H bd o ho).1];rfl
def ztf{R D k:Nat}{n t:Pn}(Q:16≤R)(j:D<16)(K:n.in_ sz)(L:t.in_ sz)(T:k+1≤n.k)(M:k+3≤t.k)(z:k<1000000) :
  X7 sz bd (Ul n.p t.p ((k+1:Nat):Int) (R:Nat) (D:Nat))∧∀I,I<16→D≠I→(Ul n.p t.p ((k+1:Nat):Int) (R:Nat) (D:Nat)).noW I=true:=by
 obtain⟨U,E⟩:=K;obtain⟨V,g⟩:=L;have O:((k+1:Nat):Int)-1=(k:Nat):=J
 have F:∀bd:Nat→Option Nat,∀o∈[Nj ((R:Nat)+7:Int) t.p (-1) ((0:Nat):Int),N7 ((R:Nat)+5) ((R:Nat)+10) ((R:Nat)+7) ((R:Nat)+1),Nj ((R:Nat)+4:Int) n.p (-1) ((0:Nat):Int),cK ((R:Nat)+3) 0]++Oa (R:Nat) ((R:Nat)+10) ((R:Nat)+4),Ss sz bd o:=λbd =>
  po (Qp (zez J J g) (Qp (zrs J J) (Qp (zez J J E) (Qp (Ym J) ok_nil)))) (zup J)
 have G:∀bd:Nat→Option Nat,bd D=some k→∀o∈Uv n.p t.p (R:Nat) (D:Nat),Ss sz bd o:=λbd h =>
  po (Qp (zet (off:=1) J j h J E) (Qp (zet (off:=1) J j h J g) ok_nil)) (po (zup J) (Qp (zpa (off:=0) j h J g) ok_nil))
 have H:∀bd:Nat→Option Nat,∀o∈O6 t.p ((k+1:Nat):Int) (R:Nat)++[Nn t.p (-1) ((k:Nat):Int) ((R:Nat)+7),Nj ((R:Nat)+7) t.p (-1) ((k+2:Nat):Int),M8 3 ((R:Nat)+7) ((R:Nat)+7) ((R:Nat)+8),Nn t.p (-1) ((k+1:Nat):Int) ((R:Nat)+7)],Ss sz bd o:=λbd =>
  po (Qp (zez J J g) (Qp (zn0 J J J) ok_nil)) (Qp (zoi J g) (Qp (zez J J g) (Qp (znr J J) (Qp (zoi J g) ok_nil))))
 have e:Ul n.p t.p ((k+1:Nat):Int) (R:Nat) (D:Nat)=(Nd ([Nj ((R:Nat)+7:Int) t.p (-1) ((0:Nat):Int),N7 ((R:Nat)+5) ((R:Nat)+10) ((R:Nat)+7) ((R:Nat)+1),Nj ((R:Nat)+4:Int) n.p (-1) ((0:Nat):Int),cK ((R:Nat)+3) 0]++Oa (R:Nat) ((R:Nat)+10) ((R:Nat)+4))).cat
   ((Oz (D:Nat) (k:Nat) (Nd (Uv n.p t.p (R:Nat) (D:Nat)))).cat (Nd (O6 t.p ((k+1:Nat):Int) (R:Nat)++[Nn t.p (-1) ((k:Nat):Int) ((R:Nat)+7),Nj ((R:Nat)+7) t.p (-1) ((k+2:Nat):Int),M8 3 ((R:Nat)+7) ((R:Nat)+7) ((R:Nat)+8),Nn t.p (-1) ((k+1:Nat):Int) ((R:Nat)+7)]))):=by
  unfold Ul;rw[O];rfl
 rw[e];refine⟨safe_cat (safe_L (F bd)) λP _=>safe_cat (ziv j z G) λA _=>safe_L (H A),λI B C=>?_⟩;rw[zeu,zeu,zv4 B λo ho=>(F bd o ho).1,ef B C λo ho=>(G (λ_=>some k) rfl o ho).1,zv4 B λo ho=>(H bd o ho).1];rfl
end run
end
section
section run
variable {sz : Nat → Nat} {bd : Nat → Option Nat}
def zt8{k:Nat}{n t:Pn}{x:List Lo}(K:16≤g)(z:j<16)(B:n.in_ sz)(C:t.in_ sz)(L:k≤n.k)(D:k≤t.k)(A:k<1000000)(E:∀bd:Nat→Option Nat,bd j=some k→∀o∈x,Ss sz bd o) :
  X7 sz bd (Wf n.p t.p (k:Nat) (g:Nat) (j:Nat) x):=by
 obtain⟨M,F⟩:=B;obtain⟨O,G⟩:=C;have H:∀bd:Nat→Option Nat,bd j=some k→∀o∈Ub n.p t.p (g:Nat) (j:Nat)++x,Ss sz bd o:=λbd h =>
  po (Qp (zet (off:=0) J z h J G) (Qp (zet (off:=0) J z h J F) (Qp (zn0 J J J) ok_nil))) (E bd h)
 exact safe_cat (safe_L (Qp (Ym J) ok_nil)) λI _=>ziv z A H
def jq{R D k:Nat}{d n t:Pn}(A:16≤R)(z:D<16)(hd:d.in_ sz)(B:n.in_ sz)(j:t.in_ sz)(C:k≤n.k)(E:k+1≤t.k)(F:k≤d.k)(g:k<1000000) :
  X7 sz bd (Yc d.p n.p t.p (k:Nat) (R:Nat) (D:Nat)):=by
 unfold Yc;refine safe_cat (zt8 A z B j C J g λ_ _=>ok_nil) λG _=>safe_cat (safe_L (Qp (zez J (by have:=j.1;omega) j.2) (Qp (zn0 J J J) ok_nil))) λH _=>zt8 A z B j C J g λbd h=>?_
 exact Qp (ok_Sel J) (Qp (zpa (off:=0) z h (by have:=hd.1;omega) hd.2) ok_nil)
def zh{n r:Int}(h:16≤r):∀o∈Uw n r,Ss sz bd o:=by
 have g:∀i,∀o∈Ye n r i,Ss sz bd o:=λi o ho=>by
  unfold Ye at ho;obtain⟨_,_,ho⟩:=List.mem_flatMap.1 ho;exact Qp (zrs J J) (Qp (znr J J) (Qp (zrs J J) ok_nil)) o ho
 unfold Uw;exact po (Qp (Ym J) (Qp (zrs J J) (Qp (Ym J) (Qp (znr J J) ok_nil)))) (po (g 5) (Qp (Ym J) (Qp (znr J J) ok_nil)))
def gq{R D k:Nat}{d a b n t:Pn}(j:16≤R)(A:D+1<16)(hd:d.in_ sz)(E:a.in_ sz)(F:b.in_ sz)(z:n.in_ sz)(g:t.in_ sz)(K:k+1≤d.k)(G:k+1≤a.k)(H:k+1≤b.k)(B:k+1≤n.k)(I:k+3≤t.k)(C:t.k<1000000) :
  X7 sz bd (Xz d.p a.p b.p n.p t.p (k+1:Nat) (R:Nat) (D:Nat)):=by
 have e:Xz d.p a.p b.p n.p t.p (k+1:Nat) (R:Nat) (D:Nat)=(Nd ([cK (R:Nat) 0,Nj ((R:Nat)+10:Int) n.p (-1) ((0:Nat):Int)]++Uw ((R:Nat)+10:Int) ((R:Nat)+1:Int))).cat ((Oz (D:Nat) (t.k:Nat) (Nd [Nn t.p (D:Nat) ((0:Nat):Int) (R:Nat)])).cat ((Oz (D:Nat) (k+1:Nat) ((T9 a.p b.p t.p (k+1:Nat) (R:Nat) ((D+1:Nat):Int) (D:Nat)).cat (Ul n.p t.p (k+1:Nat) (R:Nat) ((D+1:Nat):Int)))).cat (Yc d.p n.p t.p (k+1:Nat) (R:Nat) (D:Nat)))):=rfl;rw[e];refine safe_cat (safe_L (po (Qp (Ym J) (Qp (zez J (by have:=z.1;omega) z.2) ok_nil)) (zh J))) λL _=>?_
 refine safe_cat (ziv J C λbd h=>Qp (zpa (off:=0) J h (by have:=g.1;omega) g.2) ok_nil) λM _=>?_
 refine safe_cat (zzq J J ?_ ?_) λO _=>jq j J hd z g B J K J
 ·have P:=(zmy (sz:=sz) (bd:=λ_=>some (k+1)) (R:=R) (D:=D+1) (i:=D) (k:=k+1) j A J F E g rfl H G J J).2 D J J;have Q:=(ztf (sz:=sz) (bd:=λ_=>some (k+1)) (R:=R) (D:=D+1) (k:=k) j A z g B I J).2 D J J;rw[zeu,P,Q];rfl
 ·refine safe_cat (zmy j A J F E g (m:=k+1) (H7 rfl) H G J J).1 λT _=>(ztf j A z g B I J).1
end run
end
section
structure Cf where
 nb:Nat
 R:Int
 w:Int
 lo:Int
 hi:Int
 pa:Int
 pb:Int
 L:Nat→Prop
 S:Nat→Prop
def Rf(c:Cf)(x:Int):Prop:=c.R≤x∧x<c.R+c.w
def Ua(c:Cf)(x:Int):Prop:=(c.lo≤x∧x≤c.hi)∨(c.pa≤x∧x≤c.pb)
def T6(c:Cf)(x:Int):Prop:=x=-1∨Rf c x∨Ua c x
def hiO(c:Cf)(o:Lo):Prop:=(o.d=-1∨Rf c o.d)∧(o.e=-1∨Rf c o.e)∧(o.kind=14∨o.kind=15→o.a=-1∨Ua c o.a)
def plO(c:Cf)(o:Lo):Prop:=(o.kind≠14∧o.kind≠15)∧(c.pa≤o.d∧o.d≤c.pb)∧o.e=-1∧(o.a=-1∨Ua c o.a)∧(o.b=-1∨Ua c o.b)∧(o.c=-1∨Ua c o.c)
structure OpH (c:Cf) (o:Lo):Prop where
 k:o.kind≠16∧o.kind≠17
 f:o.buf.toNat<c.nb
 a:T6 c o.a
 b:T6 c o.b
 z:T6 c o.c
 m:hiO c o∨plO c o
 ld:o.kind=14→c.L o.buf.toNat
 st:o.kind=15→c.S o.buf.toNat
def Fr.AllH(c:Cf):Int→Fr Lo→Prop
 |_,.nil=>True
 |gg,.op o r=>OpH c o∧r.AllH c gg
 |gg,.loop o b e r=>LpG gg o∧(c.lo≤gg∧gg≤c.hi)∧e=T1∧b.AllH c (gg+1)∧r.AllH c gg
structure CfOk (c:Cf):Prop where
 r:16≤c.R∧c.R+c.w≤64
 l:0≤c.lo∧c.hi<8
 p:8≤c.pa∧c.pb<16
def sk(c:Cf)(o:Lo):Prop:=OpH c o∨o=T1∨∃g,LpG g o∧c.lo≤g∧g≤c.hi
section ah
variable {c : Cf}
def allH_cat:∀{f j:Fr Lo} {g:Int},f.AllH c g→j.AllH c g→(f.cat j).AllH c g
 |.nil,_,_,_,h=>h
 |.op _ _,_,_,h,k=>⟨h.1,allH_cat h.2 k⟩
 |.loop _ _ _ _,_,_,h,k=>⟨h.1,h.2.1,h.2.2.1,h.2.2.2.1,allH_cat h.2.2.2.2 k⟩
def allH_L:∀{l:List Lo} {g:Int},(∀o∈l,OpH c o)→(Nd l).AllH c g
 |[],_,_=>trivial
 |o::_,_,h=>⟨h o (I7 ..),allH_L λx j=>h x (Ik _ j)⟩
def X3{b:Fr Lo}(A:B≤1000000)(g:c.lo≤z∧z≤c.hi)(j:b.AllH c (z+1)):(Oz z B b).AllH c z:=by
 unfold Oz;split
 ·trivial
 ·refine⟨⟨rfl,rfl,rfl,rfl,rfl,rfl,?_⟩,g,rfl,j,trivial⟩;obtain⟨n,rfl⟩:=Hz (J:0≤B);show 1≤(iU (n:Int)).toNat;rw[V4 J];omega
def allH_wf:∀{f:Fr Lo} {g:Int},f.AllH c g→f.wf Qz
 |.nil,_,_=>trivial
 |.op o r,_,h=>⟨by unfold Qz;rw[Hx h.1.k.1,Hx h.1.k.2],allH_wf h.2⟩
 |.loop o b e r,_,h=>⟨by unfold Qz;rw[H7 h.1.1],by rw[h.2.2.1];rfl,allH_wf h.2.2.2.1,allH_wf h.2.2.2.2⟩
def zvu{x:Int}{ls:List Nat}(g:∀y∈ls,y<8)(h:x=-1∨(8≤x∧x<64)):xi ls x=true:=by
 unfold xi;rcases h with rfl|h
 ·simp
 ·have:¬x.toNat∈ls:=λq=>by have:=g _ q;omega
  simp[this];omega
def Yf(g:CfOk c){x:Int}(h:T6 c x):x<64:=by
 obtain⟨r,l,p⟩:=g;rcases h with h|h|h|h
 ·omega
 ·have:=h.2;omega
 ·omega
 ·omega
def mkH(z:CfOk c){o:Lo}(h:OpH c o):(o.d=-1∨(8≤o.d∧o.d<64))∧(o.e=-1∨(8≤o.e∧o.e<64)):=by
 obtain⟨r,l,p⟩:=z;rcases h.m with ⟨g,j,_⟩|⟨_,g,j,_⟩
 ·unfold Rf at g j;omega
 ·omega
def zfb(j:CfOk c):∀{f:Fr Lo} {g:Int} {ls:List Nat},(∀y∈ls,(y:Int)<g∧y<8)→f.AllH c g→f.regs c.nb ls=true
 |.nil,_,_,_,_=>rfl
 |.op o r,g,ls,z,h=>by
  obtain⟨F,h⟩:=h;have C:=zfb j z h;have A:∀y∈ls,y<8:=λy B=>(z y B).2
  obtain⟨m1,G⟩:=mkH j F;simp only[Fr.regs,Hy,Ic];exact⟨zvu A m1,zvu A G,Yf j F.a,Yf j F.b,Yf j F.z,F.f,C⟩
 |.loop o b e r,g,ls,z,h=>by
  obtain⟨⟨I,K,L,M,O,P,H⟩,k,_,E,h⟩:=h;obtain⟨Q,T,U⟩:=id j;have C:=zfb j z h;have E:=zfb (ls:=o.d.toNat::ls) j (λy B=>by
   rcases If.1 B with rfl|B
   ·omega
   ·have:=z y B;omega) E
  simp only[Fr.regs,Hy,Ic];refine⟨?_,J,H,E,C⟩;unfold xi;have:¬o.d.toNat∈ls:=λq=>by have:=z _ q;omega
  simp[this];omega
def allH_flat:∀{f:Fr Lo} {g:Int},f.AllH c g→∀o∈f.flat,sk c o
 |.nil,_,_,o,ho=>by simp[Fr.flat]at ho
 |.op p r,_,h,o,ho=>by
  simp only[Fr.flat,If]at ho;rcases ho with rfl|ho
  ·exact .inl h.1
  ·exact allH_flat h.2 o ho
 |.loop p b e r,g,h,o,ho=>by
  simp only[Fr.flat,If,Ir]at ho;rcases ho with rfl|ho|rfl|ho
  ·exact .inr (.inr ⟨g,h.1,h.2.1⟩)
  ·exact allH_flat h.2.2.2.1 o ho
  ·exact .inr (.inl h.2.2.1)
  ·exact allH_flat h.2.2.2.2 o ho
def zsu(g:CfOk c){x:Int}(h:x=-1∨Ua c x):x<16:=by
 obtain⟨r,l,p⟩:=g;unfold Ua at h;omega
def sk.low(hc:CfOk c){o:Lo}(h:sk c o):V2 o=true:=by
 have hr:=hc.r;have gz:=hc.l;have hp:=hc.p;rcases h with h|rfl|⟨gA,⟨g1,g2,g3,g4,g5,g6,g7⟩,k⟩
 ·unfold V2;rw[Hx h.k.1,Hx h.k.2];rcases h.m with ⟨m1,m2,m3⟩|⟨m0,m1,m2,m3,m4,m5⟩
  ·have hd:S4 o.d=true:=by unfold S4;unfold Rf at m1;simp only[Jd,Ic];omega
   have he:S4 o.e=true:=by unfold S4;unfold Rf at m2;simp only[Jd,Ic];omega
   split
   ·rename_i hm;have ha:Sg o.a=true:=by unfold Sg;exact Js (zsu hc (m3 hm))
    rw[ha,hd,he];rfl
   ·rw[hd,he];rfl
  ·rw[Hx J];have ha:Sg o.a=true:=by unfold Sg;exact Js (zsu hc m3)
   have hb:Sg o.b=true:=by unfold Sg;exact Js (zsu hc m4)
   have gg:Sg o.c=true:=by unfold Sg;exact Js (zsu hc m5)
   rw[ha,hb,gg];simp
 ·rfl
 ·unfold V2;rw[H7 g1];simp only[Hy,Ic];omega
def sk.safeS(hc:CfOk c){bs:List Bf}{o:Lo}(hs:∀n,c.S n→(Ns bs n).sec=true)(h:sk c o):o9 bs C16 o=true:=by
 have gA:=hc.l;rcases h with h|rfl|⟨gC,⟨g1,g2,g3,g4,g5,g6,g7⟩,k⟩
 ·unfold o9;have hk:=h.k;by_cases q:o.kind=14∨o.kind=15
  ·have hm:o.a=-1∨Ua c o.a:=by
    rcases h.m with ⟨_,_,m3⟩|⟨m0,_⟩
    ·exact m3 q
    ·omega
   have gg:C16 o.a=false:=by have:=zsu hc hm;unfold C16;rw[I4];omega
   by_cases gz:o.kind=15
   ·simp[gg,hs _ (h.st gz),hk.1]
   ·simp[gg,hk.1,gz]
  ·have h1:¬o.kind=14:=λe=>q (.inl e)
   have h2:¬o.kind=15:=λe=>q (.inr e)
   simp[Pf,h1,h2,hk.1]
 ·simp[o9,T1,Pf]
 ·have:C16 o.d=false:=by unfold C16;rw[I4];omega
  simp[o9,g1,Pf,this]
def ig(o:Lo):∀x∈Oy o,x=o.a∨x=o.b∨x=o.c:=by
 intro x g;unfold Oy at g
 repeat' split at g
 all_goals simp at g
 all_goals omega
def sk.closedS(hc:CfOk c){bs:List Bf}{o:Lo}(hf:Qg 64 bs o=true)(h:sk c o):U8 bs C16 o=true→∀x∈Nf o,C16 x=true:=by
 have hr:=hc.r;rcases h with h|rfl|⟨gz,⟨g1,g2,g3,g4,g5,g6,g7⟩,k⟩
 ·intro gg x hx;have gA:=(zxe hf x hx).1;rcases h.m with ⟨m1,m2,m3⟩|⟨m0,m1,m2,m3,m4,m5⟩
  ·have:x=o.d∨x=o.e:=by
    unfold Nf at hx;split at hx
    ·simpa using hx
    ·split at hx
     ·simp at hx
     ·simp at hx;exact .inl hx
   unfold C16;rw[Ic];unfold Rf at m1 m2;rcases this with rfl|rfl<;>omega
  ·exfalso;unfold U8 at gg;rw[Hx h.k.1,Hx m0.1]at gg;obtain⟨y,hy,hC⟩:=Jb.1 gg;unfold C16 at hC;rw[Ic]at hC;rcases ig o y hy with rfl|rfl|rfl
   ·have:=zsu hc m3;omega
   ·have:=zsu hc m4;omega
   ·have:=zsu hc m5;omega
 ·intro h;simp[U8,T1,Oy]at h
 ·intro h;simp[U8,g1]at h
def C0(_:Int):Bool:=false
def safeP{o:Lo}:o9 Z C0 o=true:=by simp[o9,C0]
def sk.closedP{bs:List Bf}{o:Lo}(hs:∀n,c.L n→(Ns bs n).sec=false)(h:sk c o):U8 bs C0 o=true→∀x∈Nf o,C0 x=true:=by
 intro gg;exfalso;unfold U8 at gg;split at gg
 ·cases gg
 ·split at gg
  ·rename_i gz;rcases h with h|rfl|⟨gA,⟨g1,_⟩,_⟩
   ·rw[hs _ (h.ld gz)]at gg;cases gg
   ·simp[T1]at gz
   ·omega
  ·simp[C0]at gg
def sk.sto{o:Lo}(h:sk c o)(k:o.kind=15):c.S o.buf.toNat:=by
 rcases h with h|rfl|⟨gg,⟨g1,_⟩,_⟩
 ·exact h.st k
 ·simp[T1]at k
 ·omega
def wrap_allH:∀(n:Nat) (i:Int) (f:Fr Lo),c.lo≤i→i+n≤c.hi+1→f.AllH c (i+n)→(kj n i f).AllH c i
 |0,i,f,_,_,h=>by simpa [kj] using h
 |n+1,i,f,g,j,h=>by
  refine⟨⟨rfl,rfl,rfl,rfl,rfl,rfl,by simp[Tn,iU1]⟩,J,rfl,wrap_allH n (i+1) f J J ?_,trivial⟩;rw[(J:i+1+(n:Int)=i+(n+1:Nat))];exact h
def Lb(c:Cf)(p:Pn):Prop:=p.b<c.nb∧c.L p.b
def Sb(c:Cf)(p:Pn):Prop:=p.b<c.nb∧c.S p.b
def T4{v i:Int}{p:Pn}(g:Lb c p)(hv:Rf c v)(hi:i=-1∨Ua c i):OpH c (Nj v p.p i z) :=
 ⟨by simp[Nj],by simpa [Nj,Pn.p] using g.1,hi.imp_right .inr,.inl rfl,.inl rfl,.inl ⟨.inr hv,.inl rfl,λ_=>hi⟩,λ_=>by simpa [Nj,Pn.p] using g.2,λh=>by simp[Nj]at h⟩
def Wk{v i:Int}{p:Pn}(g:Sb c p)(hv:T6 c v)(hi:i=-1∨Ua c i):OpH c (Nn p.p i z v) :=
 ⟨by simp[Nn],by simpa [Nn,Pn.p] using g.1,hi.imp_right .inr,hv,.inl rfl,.inl ⟨.inl rfl,.inl rfl,λ_=>hi⟩,λh=>by simp[Nn]at h,λ_=>by simpa [Nn,Pn.p] using g.2⟩
def Us{v:Int}{x:UInt64}(g:0<c.nb)(hv:Rf c v):OpH c (cK v x) :=
 ⟨Dq,g,.inl rfl,.inl rfl,.inl rfl,.inl ⟨.inr hv,.inl rfl,λh=>Eo⟩,λh=>Eo,λh=>Eo⟩
def ce{v:Int}{x:UInt64}(g:0<c.nb)(hv:c.pa≤v∧v≤c.pb):OpH c (cK v x) :=
 ⟨Dq,g,.inl rfl,.inl rfl,.inl rfl,.inr ⟨Dq,hv,rfl,.inl rfl,.inl rfl,.inl rfl⟩,λh=>Eo,λh=>Eo⟩
def zzn{v x:Int}(g:0<c.nb)(hv:Rf c v)(j:T6 c x):OpH c (Qv v x) :=
 ⟨by simp[Qv],g,j,.inl rfl,.inl rfl,.inl ⟨.inr hv,.inl rfl,λh=>by simp[Qv]at h⟩,λh=>by simp[Qv]at h,λh=>by simp[Qv]at h⟩
def W8{v x b:Int}(A:z=8∨z=9)(g:0<c.nb)(hv:Rf c v)(j:T6 c x):OpH c (Q6 z v x b) :=
 ⟨by simp[Q6];omega,g,j,.inl rfl,.inl rfl,.inl ⟨.inr hv,.inl rfl,λh=>Ge⟩,λh=>Ge,λh=>Ge⟩
def Zd{x y w:Int}(g:0<c.nb)(j:Rf c x)(A:Rf c y)(B:T6 c z)(hw:T6 c w):OpH c (N7 x y z w) :=
 ⟨Fh,g,B,hw,.inl rfl,.inl ⟨.inr j,.inr A,λh=>by simp[N7]at h⟩,λh=>by simp[N7]at h,λh=>by simp[N7]at h⟩
def zht{x w:Int}(C:3≤z∧z≤7)(g:0<c.nb)(j:Rf c x)(A:T6 c B)(hw:T6 c w):OpH c (M8 z x B w) :=
 ⟨Fo,g,A,hw,.inl rfl,.inl ⟨.inr j,.inl rfl,λh=>Cu⟩,λh=>Cu,λh=>Cu⟩
def zwz{x w:Int}(C:3≤z∧z≤7)(j:0<c.nb)(A:c.pa≤x∧x≤c.pb)(g:Ua c B)(hw:Ua c w):OpH c (M8 z x B w) :=
 ⟨Fo,j,.inr (.inr g),.inr (.inr hw),.inl rfl,.inr ⟨Fo,A,rfl,.inr g,.inr hw,.inl rfl⟩,λh=>Cu,λh=>Cu⟩
def zgi{x y w q:Int}(F:z=11∨z=12)(g:0<c.nb)(j:Rf c x)(A:Rf c y)(C:T6 c B)(hw:T6 c w)(E:T6 c q):OpH c (Nv z x y B w q) :=
 ⟨by simp[Nv];omega,g,C,hw,E,.inl ⟨.inr j,.inr A,λh=>Gf⟩,λh=>Gf,λh=>Gf⟩
def zxa{x q w:Int}(g:0<c.nb)(j:Rf c x)(A:T6 c q)(B:T6 c z)(hw:T6 c w):OpH c (Oc x q z w) :=
 ⟨by simp[Oc],g,B,hw,A,.inl ⟨.inr j,.inl rfl,λh=>by simp[Oc]at h⟩,λh=>by simp[Oc]at h,λh=>by simp[Oc]at h⟩
def yg{x y:List Lo}(h:∀o∈x,OpH c o)(k:∀o∈y,OpH c o):∀o∈x++y,OpH c o:=λo ho=>(Ir.1 ho).elim (h o) (k o)
def Od{x:Lo}{y:List Lo}(h:OpH c x)(k:∀o∈y,OpH c o):∀o∈x::y,OpH c o:=λo ho=>by
 rcases If.1 ho with rfl|ho
 ·exact h
 ·exact k o ho
def oh_nil:∀o∈([]:List Lo),OpH c o:=λ_ h=>An
def Q4{x:Int}(h:Rf c x):T6 c x:=.inr (.inl h)
section into
variable {R D k : Int} {d a b n t : Pn}
def rgr(j:c.R≤R∧R+11≤c.R+c.w)(g:Int)(h:0≤g∧g≤10):Rf c (R+g):=E6
def jk(g:c.R≤R∧R+11≤c.R+c.w):Rf c R:=E6
def oh_reck(g:0<c.nb)(j:c.R≤R∧R+11≤c.R+c.w):∀o∈Uw (R+10) (R+1),OpH c o:=by
 intro o ho;simp[Uw,mp,Ye,zqb]at ho;rcases ho with rfl|rfl|rfl|rfl|⟨_,rfl|rfl|rfl⟩|rfl|rfl
 all_goals first|(refine Us g ?_;unfold Rf;omega)|(refine Zd g ?_ ?_ (Q4 ?_) (Q4 ?_)<;>(unfold Rf;omega))|(refine zht J g ?_ (Q4 ?_) (Q4 ?_)<;>(unfold Rf;omega))
def Yg{x y:Int}(j:0<c.nb)(z:c.R≤R∧R+11≤c.R+c.w)(A:Rf c x)(B:Rf c y):∀o∈Oa R x y,OpH c o:=by
 unfold Oa;have g:=rgr z;exact Od (Zd j (g 5 J) (g 6 J) (Q4 A) (Q4 B)) (Od (zgi (.inl rfl) j (g 6 J) (g 8 J) (Q4 (g 6 J)) (Q4 (g 7 J)) (Q4 (jk z))) (Od (zgi (.inl rfl) j (g 6 J) (g 9 J) (Q4 (g 6 J)) (Q4 (g 3 J)) (Q4 (jk z))) (Od (zht J j (g 5 J) (Q4 (g 5 J)) (Q4 (g 8 J))) (Od (zht J j (g 3 J) (Q4 (g 5 J)) (Q4 (g 9 J))) oh_nil))))
def zq2{x:List Lo}(E:c.R≤R∧R+11≤c.R+c.w)(j:Lb c n)(F:Lb c t)(G:k≤1000000)(A:c.lo≤z∧z≤c.hi)(H:∀o∈x,OpH c o):(Wf n.p t.p k R z x).AllH c z:=by
 unfold Wf Ub;have B:0<c.nb:=by have:=j.1;omega
 have g:=rgr E;have C:z=-1∨Ua c z:=.inr (.inl A);exact allH_cat (allH_L (Od (Us B (g 8 J)) oh_nil)) (X3 G A (allH_L (yg (Od (T4 F (g 7 J) C) (Od (T4 j (g 4 J) C) (Od (zgi (.inr rfl) B (g 6 J) (g 8 J) (Q4 (g 7 J)) (Q4 (g 4 J)) (Q4 (g 8 J))) oh_nil))) H)))
def zlf{x:Int}{p:Pn}(j:Sb c p)(z:T6 c x)(g:c.lo≤D∧D≤c.hi)(A:p.k≤1000000):(S5 p.p x D).AllH c D:=by
 unfold S5;exact X3 (by show (p.k:Int)≤_;omega) g (allH_L (Od (Wk j z (.inr (.inl g))) oh_nil))
def zra(C:c.R≤R∧R+11≤c.R+c.w)(O:Sb c d)(P:Lb c a)(Q:Lb c b)(F:Lb c n)(B:Lb c t)(st:Sb c t)(I:k≤1000000)(K:t.k≤1000000)(T:c.lo≤D∧D+1≤c.hi):(Xz d.p a.p b.p n.p t.p k R D).AllH c D:=by
 have z:0<c.nb:=by have:=F.1;omega
 have j:=rgr C;have G:=jk C;have g:∀L:Int,0≤L∧L≤10→T6 c (R+L):=λL h=>Q4 (j L h)
 have H:c.lo≤D∧D≤c.hi:=J
 have E:c.lo≤D+1∧D+1≤c.hi:=J
 have M:D=-1∨Ua c D:=.inr (.inl H);have A:D+1=-1∨Ua c (D+1):=.inr (.inl E);unfold Xz;refine allH_cat (allH_L (yg (Od (Us z G) (Od (T4 F (j 10 J) (.inl rfl)) oh_nil)) (oh_reck z C))) (allH_cat (zlf st (Q4 G) H K) (allH_cat (X3 I H (allH_cat ?_ ?_)) ?_))
 ·unfold T9 Ud O6;refine allH_cat (allH_L (Od (T4 Q (j 2 J) M) (Od (Us z (j 3 J)) oh_nil))) (allH_cat (X3 I E (allH_L (yg (Od (T4 P (j 4 J) A) (Od (T4 B (j 7 J) A) oh_nil)) (yg (Yg z C (j 4 J) (j 2 J)) (Od (Wk st (g 6 J) A) oh_nil))))) (allH_L (yg (Od (T4 B (j 7 J) (.inl rfl)) (Od (zgi (.inl rfl) z (j 7 J) (j 8 J) (g 7 J) (g 3 J) (Q4 G)) oh_nil)) (Od (Wk st (g 7 J) (.inl rfl)) (Od (Wk st (g 8 J) (.inl rfl)) oh_nil)))))
 ·unfold Ul Uv O6;refine allH_cat (allH_L (yg (Od (T4 B (j 7 J) (.inl rfl)) (Od (Zd z (j 5 J) (j 10 J) (g 7 J) (g 1 J)) (Od (T4 F (j 4 J) (.inl rfl)) (Od (Us z (j 3 J)) oh_nil)))) (Yg z C (j 10 J) (j 4 J))))
   (allH_cat (X3 J E (allH_L (yg (Od (T4 F (j 4 J) A) (Od (T4 B (j 7 J) A) oh_nil)) (yg (Yg z C (j 10 J) (j 4 J)) (Od (Wk st (g 6 J) A) oh_nil)))))
   (allH_L (yg (Od (T4 B (j 7 J) (.inl rfl)) (Od (zgi (.inl rfl) z (j 7 J) (j 8 J) (g 7 J) (g 3 J) (Q4 G)) oh_nil)) (Od (Wk st (g 7 J) (.inl rfl)) (Od (T4 B (j 7 J) (.inl rfl)) (Od (zht J z (j 7 J) (g 7 J) (g 8 J)) (Od (Wk st (g 7 J) (.inl rfl)) oh_nil)))))))
 ·unfold Yc;exact allH_cat (zq2 C F B I H oh_nil) (allH_cat (allH_L (Od (T4 B (j 7 J) (.inl rfl)) (Od (zgi (.inr rfl) z (j 6 J) (j 10 J) (g 7 J) (Q4 G) (g 8 J)) oh_nil))) (zq2 C F B I H (Od (zxa z (j 6 J) (g 10 J) (g 7 J) (g 6 J)) (Od (Wk O (g 6 J) M) oh_nil))))
end into
end ah
end
section
noncomputable section
def cr(p:Pc)(n l o b D:Int):Fr Lo:=Oz D n (Nd [Nj l p D 0,Q6 9 o l 63,Q6 8 l l 1,M8 6 l l b,Nn p D 0 l,Qv b o])
def ep(to fr:Pc)(k l D:Int):Fr Lo:=Oz D k (Nd [Nj l fr D 0,Nn to D 0 l])
def Wc(n r:Pc)(R g:Int):List Lo:=[Nj (R+2) r g 0,Nj (R+4) n g 0,Nv 12 (R+4) (R+5) (R+2) (R+4) (R+5)]
def Ws(n r:Pc)(k R D:Int)(x:List Lo):Fr Lo:=(Nd [cK (R+5) 0]).cat ((Oz D k (Nd (Wc n r R D++x))).cat (Nd [Nj (R+2) r (-1) k,Nv 12 (R+4) (R+5) (R+2) R (R+5)]))
def m6(n r:Pc)(k R D:Int):Fr Lo:=(cr r (k+1) (R+2) (R+3) (R+1) D).cat ((Ws n r k R D []).cat ((Nd [Qv (R+6) (R+5)]).cat ((Ws n r k R D [Oc (R+4) (R+6) (R+2) (R+4),Nn r D 0 (R+4)]).cat (Nd [Oc (R+4) (R+6) (R+2) (R+4),Nn r (-1) k (R+4),cK (R+1) 0]))))
def Yt(d n r:Pc)(k bits R D:Int):Fr Lo:=(Nd [cK R 0,cK (R+1) 1]).cat ((S5 r R D).cat ((Oz D (bits+1) (m6 n r k R (D+1))).cat (ep d r k (R+2) D)))
structure Pw where
 d:Pn
 a:Pn
 b:Pn
 n:Pn
 wb:Nat
 wa:Nat
 k:Nat
 w:Nat
 times:Nat
 over:Nat
 B:Nat
def Pw.acc(p:Pw):Pn:=⟨p.wb,p.wa,p.k⟩
def Pw.base(p:Pw):Pn:=⟨p.wb,p.wa+p.k,p.k⟩
def Pw.cur(p:Pw):Pn:=⟨p.wb,p.wa+2*p.k,p.k⟩
def Pw.es(p:Pw):Pn:=⟨p.wb,p.wa+3*p.k,p.b.k+1⟩
def Pw.t(p:Pw):Pn:=⟨p.wb,p.wa+3*p.k+p.b.k+1,p.k+2⟩
def Pw.tab(p:Pw):Pn:=⟨p.wb,p.wa+4*p.k+p.b.k+3,p.k*2^p.w⟩
def Pw.ent(p:Pw):Pn:=⟨p.tab.b,p.tab.a,p.k⟩
def Pw.r(p:Pw):Pn:=⟨p.t.b,p.t.a,p.k+1⟩
def Pw.mont(p:Pw)(d a b:Pn)(D:Int):Fr Lo:=Xz d.p a.p b.p p.n.p p.t.p p.k (p.B+10) D
def Pw.radix(p:Pw)(d:Pn)(bits D:Int):Fr Lo:=Yt d.p p.n.p p.r.p p.k bits (p.B+10) D
def Pw.copies(p:Pw)(to fr:Pn)(D:Int):Fr Lo:=ep to.p fr.p p.k (p.B+3) D
def Pw.fillR(p:Pw)(D:Int):Fr Lo:=(p.mont p.acc p.acc p.base (D+1)).cat ((Oz (D+1) p.k (Nd [Nj (p.B+3) p.acc.p (D+1) 0,M8 3 13 12 (D+1),Nn p.tab.p 13 0 (p.B+3)])).cat (Nd [cK 13 (iU p.k),M8 3 12 12 13]))
def Pw.fill(p:Pw)(D:Int):Fr Lo:=(p.radix p.ent (64*p.k) D).cat ((p.radix p.cur (128*p.k) D).cat ((p.mont p.base p.a p.cur D).cat ((p.copies p.acc p.ent D).cat ((Nd [cK 12 (iU p.k)]).cat (Oz D (2^p.w-1:Nat) (p.fillR D))))))
def Pw.expB(p:Pw)(D:Int):List Lo:=if p.over=0 then [Nj (p.B+3) p.b.p D 0,Nn p.es.p D 1 (p.B+3)] else [Nj (p.B+3) p.b.p D 0,Q6 8 (p.B+2) (p.B+3) (64-p.over),M8 6 (p.B+2) (p.B+2) (p.B+4),Nn p.es.p D 0 (p.B+2),Q6 9 (p.B+4) (p.B+3) p.over]
def Pw.expE(p:Pw):List Lo:=if p.over=0 then [Nn p.es.p (-1) 0 p.B] else [Nn p.es.p (-1) p.b.k (p.B+4)]
def Pw.exp(p:Pw)(D:Int):Fr Lo:=(Nd [Qv (p.B+4) p.B]).cat ((Oz D p.b.k (Nd (p.expB D))).cat (Nd p.expE))
def Pw.shift(p:Pw)(D:Int):Fr Lo:=(Nd [Qv (p.B+2) p.B]).cat ((cr p.es.p p.es.k (p.B+3) (p.B+4) (p.B+2) D).cat (Nd [Q6 8 (p.B+1) (p.B+1) 1,M8 6 (p.B+1) (p.B+1) (p.B+2)]))
def Pw.scanB(p:Pw)(D:Int):List Lo:=[M8 3 13 12 D,Nj (p.B+3) p.tab.p 13 0,Nj (p.B+6) p.cur.p D 0,Oc (p.B+3) (p.B+5) (p.B+6) (p.B+3),Nn p.cur.p D 0 (p.B+3)]
def Pw.scanR(p:Pw)(D:Int):Fr Lo:=(Nd [M8 7 (p.B+5) (p.B+1) D,Nv 12 (p.B+4) (p.B+5) p.B (p.B+5) p.B]).cat ((Oz (D+1) p.k (Nd (p.scanB (D+1)))).cat (Nd [cK 13 (iU p.k),M8 3 12 12 13]))
def Pw.scan(p:Pw)(D:Int):Fr Lo:=(Nd [cK 12 0]).cat (Oz D (2^p.w:Nat) (p.scanR D))
def Pw.runW(p:Pw)(D:Int):Fr Lo:=(p.mont p.acc p.acc p.acc D).cat (p.shift D)
def Pw.runR(p:Pw)(D:Int):Fr Lo:=(Nd [Qv (p.B+1) p.B]).cat ((Oz D p.w (p.runW (D+1))).cat ((p.scan D).cat (p.mont p.acc p.acc p.cur D)))
def Pw.run(p:Pw)(D:Int):Fr Lo:=(p.copies p.acc p.ent D).cat ((Oz D p.times (p.runR (D+1))).cat ((Nd [cK (p.B+3) 1]).cat ((S5 p.cur.p p.B D).cat ((Nd [Nn p.cur.p (-1) 0 (p.B+3)]).cat (p.mont p.d p.acc p.cur D)))))
def Pw.code(p:Pw)(D:Int):Fr Lo:=(Nd [cK p.B 0]).cat ((p.fill D).cat ((p.exp D).cat (p.run D)))
section all
variable {c : Cf}
def aa{p:Pn}{n l o b:Int}(A:Lb c p)(E:Sb c p)(g:Rf c l)(ho:Rf c o)(B:Rf c b)(F:n≤1000000)(C:c.lo≤z∧z≤c.hi):(cr p.p n l o b z).AllH c z:=by
 have j:0<c.nb:=by have:=A.1;omega
 have D:z=-1∨Ua c z:=.inr (.inl C);exact X3 F C (allH_L (Od (T4 A g D) (Od (W8 (.inr rfl) j ho (Q4 g)) (Od (W8 (.inl rfl) j g (Q4 g)) (Od (zht J j g (Q4 g) (Q4 B)) (Od (Wk E (Q4 g) D) (Od (zzn j B (Q4 ho)) oh_nil)))))))
def zts{k l:Int}(B:Lb c vR)(C:Sb c P)(g:Rf c l)(D:k≤1000000)(j:c.lo≤z∧z≤c.hi):(ep P.p vR.p k l z).AllH c z:=by
 have A:z=-1∨Ua c z:=.inr (.inl j);exact X3 D j (allH_L (Od (T4 B g A) (Od (Wk C (Q4 g) A) oh_nil)))
def zsz{n r:Pn}{k:Int}{x:List Lo}(C:c.R≤z∧z+11≤c.R+c.w)(D:Lb c n)(E:Lb c r)(I:k≤1000000)(F:c.lo≤B∧B≤c.hi)(K:∀o∈x,OpH c o):(Ws n.p r.p k z B x).AllH c B:=by
 have A:0<c.nb:=by have:=D.1;omega
 have G:B=-1∨Ua c B:=.inr (.inl F);have j:=rgr C;have g:∀H:Int,0≤H∧H≤10→T6 c (z+H):=λH h=>Q4 (j H h)
 unfold Ws Wc;exact allH_cat (allH_L (Od (Us A (j 5 J)) oh_nil)) (allH_cat (X3 I F (allH_L (yg (Od (T4 E (j 2 J) G) (Od (T4 D (j 4 J) G) (Od (zgi (.inr rfl) A (j 4 J) (j 5 J) (g 2 J) (g 4 J) (g 5 J)) oh_nil))) K))) (allH_L (Od (T4 E (j 2 J) (.inl rfl)) (Od (zgi (.inr rfl) A (j 4 J) (j 5 J) (g 2 J) (Q4 (jk C)) (g 5 J)) oh_nil))))
def zy7{d n r:Pn}{k bits:Int}(D:c.R≤z∧z+11≤c.R+c.w)(L:Sb c d)(H:Lb c n)(F:Lb c r)(G:Sb c r)(O:k≤1000)(P:bits≤100000)(M:r.k≤100000)(Q:c.lo≤B∧B+1≤c.hi):(Yt d.p n.p r.p k bits z B).AllH c B:=by
 have C:0<c.nb:=by have:=H.1;omega
 have A:c.lo≤B∧B≤c.hi:=J
 have g:c.lo≤B+1∧B+1≤c.hi:=J
 have I:B+1=-1∨Ua c (B+1):=.inr (.inl g);have E:=rgr D;have j:∀K:Int,0≤K∧K≤10→T6 c (z+K):=λK h=>Q4 (E K h)
 unfold Yt m6;refine allH_cat (allH_L (Od (Us C (jk D)) (Od (Us C (E 1 J)) oh_nil))) (allH_cat (zlf G (Q4 (jk D)) A J) (allH_cat (X3 J A ?_) (zts F L (E 2 J) J A)));have e:∀o∈[Oc (z+4) (z+6) (z+2) (z+4),Nn r.p (B+1) 0 (z+4)],OpH c o:=Od (zxa C (E 4 J) (j 6 J) (j 2 J) (j 4 J)) (Od (Wk G (j 4 J) I) oh_nil);exact allH_cat (aa F G (E 2 J) (E 3 J) (E 1 J) J g) (allH_cat (zsz D H F J g oh_nil) (allH_cat (allH_L (Od (zzn C (E 6 J) (j 5 J)) oh_nil)) (allH_cat (zsz D H F J g e) (allH_L (Od (zxa C (E 4 J) (j 6 J) (j 2 J) (j 4 J)) (Od (Wk G (j 4 J) (.inl rfl)) (Od (Us C (E 1 J)) oh_nil)))))))
structure PwC (c:Cf) (p:Pw):Prop where
 r:c.R≤p.B∧(p.B:Int)+21≤c.R+c.w
 q:c.pa≤12∧13≤c.pb
 d:Sb c p.d
 a:Lb c p.a
 b:Lb c p.b
 n:Lb c p.n
 wl:c.L p.wb
 ws:c.S p.wb
 wb:p.wb<c.nb
 k:p.k≤512
 w:p.w≤6
 ti:p.times≤100000
 bk:p.b.k≤512
def ko{w:Nat}(h:w≤6):2^w≤64:=Kj Ac h
def Pw.all{p:Pw}(h:PwC c p){D:Int}(hD:c.lo≤D∧D+3≤c.hi):(p.code D).AllH c D:=by
 obtain⟨hr,gD,pd,pa,pb,pn,wl,ws,wb,hk,hw,gE,gF⟩:=h;have j:0<c.nb:=by have:=pn.1;omega
 have wL:∀q:Pn,q.b=p.wb→Lb c q:=λq e=>⟨J,by rw[e];exact wl⟩
 have wS:∀q:Pn,q.b=p.wb→Sb c q:=λq e=>⟨J,by rw[e];exact ws⟩
 have g:∀gC:Int,0≤gC∧gC≤20→Rf c (p.B+gC):=λgC h=>E6
 have g0:Rf c p.B:=E6
 have gi:∀gC:Int,0≤gC∧gC≤20→T6 c (p.B+gC):=λgC h=>Q4 (g gC h)
 have gA:c.R≤(p.B:Int)+10∧(p.B:Int)+10+11≤c.R+c.w:=J
 have gG:=ko hw;have gg:Ua c 12:=.inr J;have gz:Ua c 13:=.inr J;have mo:∀(d a b:Pn) (E:Int),Sb c d→Lb c a→Lb c b→c.lo≤E→E+1≤c.hi→(p.mont d a b E).AllH c E:=λd a b E hd ha hb h1 h2=>zra gA hd ha hb pn (wL _ rfl) (wS _ rfl) J (by show p.k+2≤1000000;omega) ⟨h1,h2⟩
 have lv:∀E:Int,c.lo≤E→E≤c.hi→Ua c E:=λE h1 h2=>.inl ⟨h1,h2⟩
 have ra:∀(d:Pn) (bits:Int),Sb c d→bits≤100000→(p.radix d bits D).AllH c D:=λd bits hd hb=>zy7 gA hd pn (wL _ rfl) (wS _ rfl) J hb (by show p.k+1≤100000;omega) J
 unfold Pw.code;refine allH_cat (allH_L (Od (Us j g0) oh_nil)) (allH_cat ?_ (allH_cat ?_ ?_))
 ·unfold Pw.fill Pw.fillR;refine allH_cat (ra _ _ (wS _ rfl) J) (allH_cat (ra _ _ (wS _ rfl) J) (allH_cat (mo _ _ _ _ (wS _ rfl) pa (wL _ rfl) J J) (allH_cat (zts (wL _ rfl) (wS _ rfl) (g 3 J) J J) (allH_cat (allH_L (Od (ce j J) oh_nil)) (X3 J J (allH_cat (mo _ _ _ _ (wS _ rfl) (wL _ rfl) (wL _ rfl) J J) (allH_cat (X3 J J (allH_L ?_)) (allH_L ?_))))))))
  ·exact Od (T4 (wL _ rfl) (g 3 J) (.inr (lv _ J J))) (Od (zwz J j J gg (lv _ J J)) (Od (Wk (wS _ rfl) (gi 3 J) (.inr gz)) oh_nil))
  ·exact Od (ce j J) (Od (zwz J j J gg gz) oh_nil)
 ·unfold Pw.exp Pw.expB Pw.expE;refine allH_cat (allH_L (Od (zzn j (g 4 J) (Q4 g0)) oh_nil)) (allH_cat (X3 J J (allH_L ?_)) (allH_L ?_))
  ·split
   ·exact Od (T4 pb (g 3 J) (.inr (lv _ J J))) (Od (Wk (wS _ rfl) (gi 3 J) (.inr (lv _ J J))) oh_nil)
   ·exact Od (T4 pb (g 3 J) (.inr (lv _ J J))) (Od (W8 (.inl rfl) j (g 2 J) (gi 3 J)) (Od (zht J j (g 2 J) (gi 2 J) (gi 4 J)) (Od (Wk (wS _ rfl) (gi 2 J) (.inr (lv _ J J))) (Od (W8 (.inr rfl) j (g 4 J) (gi 3 J)) oh_nil))))
  ·split
   ·exact Od (Wk (wS _ rfl) (Q4 g0) (.inl rfl)) oh_nil
   ·exact Od (Wk (wS _ rfl) (gi 4 J) (.inl rfl)) oh_nil
 ·unfold Pw.run Pw.runR Pw.runW Pw.shift Pw.scan Pw.scanR Pw.scanB;refine allH_cat (zts (wL _ rfl) (wS _ rfl) (g 3 J) J J) (allH_cat (X3 J J (allH_cat (allH_L (Od (zzn j (g 1 J) (Q4 g0)) oh_nil)) (allH_cat (X3 J J (allH_cat ?_ ?_)) (allH_cat (allH_cat ?_ ?_) ?_)))) ?_)
  ·exact mo _ _ _ _ (wS _ rfl) (wL _ rfl) (wL _ rfl) J J
  ·exact allH_cat (allH_L (Od (zzn j (g 2 J) (Q4 g0)) oh_nil)) (allH_cat (aa (wL _ rfl) (wS _ rfl) (g 3 J) (g 4 J) (g 2 J) (by show ((p.b.k+1:Nat):Int)≤1000000;omega) J) (allH_L (Od (W8 (.inl rfl) j (g 1 J) (gi 1 J)) (Od (zht J j (g 1 J) (gi 1 J) (gi 2 J)) oh_nil))))
  ·exact allH_L (Od (ce j J) oh_nil)
  ·refine X3 J J (allH_cat (allH_L ?_) (allH_cat (X3 J J (allH_L ?_)) (allH_L ?_)))
   ·exact Od (zht J j (g 5 J) (gi 1 J) (.inr (.inr (lv _ J J)))) (Od (zgi (.inr rfl) j (g 4 J) (g 5 J) (Q4 g0) (gi 5 J) (Q4 g0)) oh_nil)
   ·exact Od (zwz J j J gg (lv _ J J)) (Od (T4 (wL _ rfl) (g 3 J) (.inr gz)) (Od (T4 (wL _ rfl) (g 6 J) (.inr (lv _ J J))) (Od (zxa j (g 3 J) (gi 5 J) (gi 6 J) (gi 3 J)) (Od (Wk (wS _ rfl) (gi 3 J) (.inr (lv _ J J))) oh_nil))))
   ·exact Od (ce j J) (Od (zwz J j J gg gz) oh_nil)
  ·exact mo _ _ _ _ (wS _ rfl) (wL _ rfl) (wL _ rfl) J J
  ·exact allH_cat (allH_L (Od (Us j (g 3 J)) oh_nil)) (allH_cat (zlf (wS _ rfl) (Q4 g0) J (by show p.k≤1000000;omega)) (allH_cat (allH_L (Od (Wk (wS _ rfl) (gi 3 J) (.inl rfl)) oh_nil)) (mo _ _ _ _ pd (wL _ rfl) (wL _ rfl) J J)))
end all
end
end
section
def dg(D:Int)(ls:List Int):Prop:=(ls.length:Int)≤D∧∀x∈ls,x<D
def Tj(D:Int)(S:List Int):Prop:=∀x∈S,x<D∨8≤x
section gd
variable {bs : List Bf} {S S' T ls : List Int} {D : Int} {f g b : Fr Lo} {l : List Lo}
def dg.snoc(h:dg D ls):dg (D+1) (ls++[D]):=⟨by have:=h.1;simp;omega,λx hx=>by
 rcases Ir.1 hx with hx|hx
 ·have:=h.2 x hx;omega
 ·simp at hx;omega⟩
def dg.lt(h:dg D ls)(hD:D≤8):∀x∈ls,x<8:=λx hx=>by have:=h.2 x hx;omega
def Tj.cons(h:Tj D S):Tj (D+1) (D::S):=λx hx=>by
 rcases If.1 hx with rfl|hx
 ·omega
 ·have:=h x hx;omega
def Tj.high{x:Int}(h:Tj D S)(hx:8≤x):Tj D (x::S):=λy hy=>by
 rcases If.1 hy with rfl|hy
 ·exact .inr hx
 ·exact h y hy
def Gd.lpD{times:Int}(h:dg D ls)(hD:0≤D∧D<8)(hS:Tj D S)(ht:times≤1048576)(hb:Gd bs (D::S) (ls++[D]) b S')(hs:∀x∈S,x∈S'):Gd bs S ls (Oz D times b) S :=
 .lp (by have:=h.1;omega) hD (λq=>by have:=h.2 _ q;omega) (λq=>by have:=hS _ q;omega) ht hb hs
def Gd.Lm(hL:dg D ls)(hD:D≤8)(h:Pk 64 bs S l)(hk:∀o∈l,∀x∈Nf o,8≤x)(hT:∀x∈T,x∈l.flatMap Nf++S):Gd bs S ls (Nd l) T :=
 Gd.mono (Gd.L (hL.lt hD) h hk) (λ_ h=>h) hT
def zs7{k d a:Int}(j:k=8∨k=9)(h:0≤d∧d<z)(A:0≤a∧a<z)(F:1≤B∧B≤63):Qg z bs (Q6 k d a B)=true:=by
 obtain⟨n,rfl⟩:=Hz (J:0≤B);have e:(iU (n:Int)).toNat=n:=V4 J;have C:(1:UInt64)≤iU (n:Int):=by rw[Jc,e];show 1≤_;omega
 have E:iU (n:Int)≤(63:UInt64):=by rw[Jc,e];show _≤63;omega
 rcases j with rfl|rfl<;>simp[Qg,Q6,Ri,Q0,Q2,Rk,Wl,Wr,Pf,h,A,C,E]
def ztb{d a:Int}(E:z=8∨z=9)(h:0≤d∧d<64)(j:0≤a∧a<64)(A:1≤B∧B≤63)(C:a∈S)(k:Pk 64 bs (d::S) l):Pk 64 bs S (Q6 z d a B::l):=by
 rcases E with rfl|rfl
 ·exact⟨zs7 (.inl rfl) h j A,by simp[Q6],by simp[Oy,Q6,C],k⟩
 ·exact⟨zs7 (.inr rfl) h j A,by simp[Q6],by simp[Oy,Q6,C],k⟩
def zrn{d a:Int}(h:0≤d∧d<64)(j:0≤a∧a<64)(z:a∈S)(k:Pk 64 bs (d::S) l):Pk 64 bs S (Qv d a::l) :=
 ⟨ip h j,by simp[Qv],by simp[Oy,Qv,z],k⟩
def gd_sh{p:Pn}{n l o b:Int}(j:dg D ls)(A:0≤D∧D<8)(B:Tj D S)(G:8≤l∧l<64)(ho:8≤o∧o<64)(H:8≤b∧b<64)(C:b∈S)(z:Bp bs p)(wp:Bw bs p)(E:n≤1048576):Gd bs S ls (cr p.p n l o b D) S:=by
 have h:Pk 64 bs (D::S) [Nj l p.p D 0,Q6 9 o l 63,Q6 8 l l 1,M8 6 l l b,Nn p.p D 0 l,Qv b o] :=
  X8 z J J N (ztb (.inr rfl) J J J N (ztb (.inl rfl) J J J N (uk J J J J N Al (ux z wp J J N N (zrn J J N okL_nil)))))
 refine Gd.lpD j A B E (Gd.L (j.snoc.lt J) h ?_) λx F=>Iw _ (Ik _ F)
 simp[Nf,Nj,Q6,M8,Nn,Qv];omega
def gd_cp{k l:Int}(j:dg D ls)(z:0≤D∧D<8)(A:Tj D S)(H:8≤l∧l<64)(B:Bp bs P)(C:Bw bs P)(E:Bp bs vR)(F:k≤1048576):Gd bs S ls (ep P.p vR.p k l D) S:=by
 have h:Pk 64 bs (D::S) [Nj l vR.p D 0,Nn P.p D 0 l]:=X8 E J J N (ux B C J J N N okL_nil);refine Gd.lpD j z A F (Gd.L (j.snoc.lt J) h ?_) λx G=>Iw _ (Ik _ G)
 simp[Nf,Nj,Nn];omega
def zx7{x:Int}{p:Pn}(j:dg D ls)(z:0≤D∧D<8)(A:Tj D S)(B:0≤x∧x<64)(C:x∈S)(E:Bp bs p)(wp:Bw bs p):Gd bs S ls (S5 p.p x D) S :=
 Z9 B C z (λq=>by have:=j.2 _ q;omega) (λq=>by have:=A _ q;omega) (by have:=j.1;omega) (j.lt J) E wp
def gd_rx{n r:Pn}{k:Int}{x:List Lo}(j:dg D ls)(E:0≤D∧D<8)(F:Tj D S)(P:16≤z∧z≤50)(G:z∈S)(H:Bp bs n)(A:Bp bs r)(C:0≤k∧k<r.k)
  (B:Pk 64 bs ((z+4)::(z+5)::(z+4)::(z+2)::D::(z+5)::S) x) (hm:∀o∈x,∀y∈Nf o,8≤y):Gd bs S ls (Ws n.p r.p k z D x) ((z+2)::(z+4)::(z+5)::S):=by
 have I:(r.k:Int)≤65536:=by have:=A.s;have:=A.z;omega
 unfold Ws;have K:Pk 64 bs S [cK (z+5) 0]:=c8 J okL_nil;have L:Pk 64 bs (D::(z+5)::S) (Wc n.p r.p z D++x):=by
  unfold Wc;exact X8 A J J N (X8 H J J N (zaz (.inr rfl) J J J J J J N N N B))
 have M:Pk 64 bs ((z+5)::S) [Nj (z+2) r.p (-1) k,Nv 12 (z+4) (z+5) (z+2) z (z+5)]:=zcx A J C.1 C.2 (zaz (.inr rfl) J J J J J J N A6 N okL_nil);refine Gd.cat (Gd.Lm (T:=(z+5)::S) j J K D6 Ci) (Gd.cat (Gd.lpD j E (F.high J) J (Gd.L (j.snoc.lt J) L ?_) ?_) (Gd.Lm j J M (by simp[Nf,Nj,Nv];omega) (λx B=>by simp[Nf,Nj,Nv]at B ⊢;rcases B with h|h|h|h<;>simp[h])))
 ·intro o ho;rcases Ir.1 ho with ho|ho
  ·simp[Wc]at ho;rcases ho with rfl|rfl|rfl<;>simp[Nf,Nj,Nv]<;>omega
  ·exact hm o ho
 ·intro y O;exact Iw _ (Ik _ O)
def tz{d n r:Pn}{k bits:Int}(E:dg D ls)(U:0≤D∧D+1<8)(L:Tj D S)(I:16≤z∧z≤50)(M:Bp bs d)(O:Bw bs d)(K:Bp bs n)(A:Bp bs r)(F:Bw bs r)(G:0≤k∧k<r.k)(V:bits≤1000000):Gd bs S ls (Yt d.p n.p r.p k bits z D) S:=by
 have P:(r.k:Int)≤65536:=by have:=A.s;have:=A.z;omega
 unfold Yt m6;have Q:Pk 64 bs S [cK z 0,cK (z+1) 1]:=c8 J (c8 J okL_nil);have B:Tj D ((z+1)::z::S):=(L.high J).high J;have C:Tj (D+1) (D::(z+1)::z::S):=B.cons;have j:=E.snoc;have R:Tj (D+1) ((z+2)::(z+4)::(z+5)::D::(z+1)::z::S):=((C.high J).high J).high J;refine Gd.mono (Gd.cat (Gd.Lm (T:=(z+1)::z::S) E J Q D6 (λx H=>by simp[Nf,cK]at H ⊢;grind)) (Gd.cat (zx7 E J B J N A F) (Gd.cat (Gd.lpD (S':=(z+1)::z::S) E J B J (Gd.cat (gd_sh j J C J J J N A F J) (Gd.cat (gd_rx j J C I N K A G okL_nil N) (Gd.cat (Gd.Lm (T:=(z+6)::(z+2)::(z+4)::(z+5)::D::(z+1)::z::S) j J (l:=[Qv (z+6) (z+5)]) (zrn J J N okL_nil) D7 F8) (Gd.cat (gd_rx j J (R.high J) I N K A G ?_ ?_) (Gd.Lm j J (l:=[Oc (z+4) (z+6) (z+2) (z+4),Nn r.p (-1) k (z+4),cK (z+1) 0]) ?_ ?_ ?_))))) λx h=>h) (gd_cp E J B J M O A J)))) (λx h=>h) (λx h=>by simp[h])
 ·exact zps J J J J N N N (ux A F J J N N okL_nil)
 ·simp[Nf,Oc,Nn];omega
 ·exact zps J J J J N N N (zch A F J G.1 G.2 N (c8 J okL_nil))
 ·simp[Nf,Oc,Nn,cK];omega
 ·intro x H;simp at H;rcases H with h|h|h<;>simp[Nf,Oc,Nn,cK,h]
structure PwG (bs:List Bf) (p:Pw):Prop where
 B:16≤p.B∧p.B≤40
 d:Bp bs p.d
 wd:Bw bs p.d
 a:Bp bs p.a
 b:Bp bs p.b
 n:Bp bs p.n
 wb:p.wb<bs.length
 wz:((p.wa+4*p.k+p.b.k+3+p.k*2^p.w:Nat):Int)≤(Ns bs p.wb).size
 w6:(Ns bs p.wb).size≤65536
 ww:(Ns bs p.wb).kind≠1
 k:1≤p.k∧p.k≤512
 nk:0<p.n.k
 w:1≤p.w∧p.w≤6
 ti:p.times≤100000
 ov:p.over≤63
 bk:p.b.k≤512
def Pw.gd{p:Pw}(h:PwG bs p)(hL:dg D ls)(hD:0≤D∧D+3<8)(hS:Tj D S):Gd bs S ls (p.code D) S:=by
 obtain⟨hB,pd,wd,pa,pb,pn,wb,wz,w6,ww,hk,gO,hw,gT,gU,gV⟩:=h;have gY:=ko hw.2;have gZ:p.k≤p.k*2^p.w:=Nat.le_mul_of_pos_right _ (Kn _);have wP:∀q:Pn,q.b=p.wb→q.a+q.k≤p.wa+4*p.k+p.b.k+3+p.k*2^p.w→Bp bs q:=λq e1 e2=>⟨J,by rw[e1];omega,by rw[e1];exact w6⟩
 have wW:∀q:Pn,q.b=p.wb→Bw bs q:=λq e1=>by unfold Bw;rw[e1];exact ww
 have gg:Bp bs p.acc:=wP _ rfl Ev;have gE:Bp bs p.base:=wP _ rfl (by simp only[Pw.base];omega);have gz:Bp bs p.cur:=wP _ rfl Bk;have gF:Bp bs p.es:=wP _ rfl A7;have Pt:Bp bs p.t:=wP _ rfl Fi;have gH:Bp bs p.tab:=wP _ rfl Eu;have gG:Bp bs p.ent:=wP _ rfl Dm;have Pr:Bp bs p.r:=wP _ rfl (by simp only[Pw.r,Pw.t];omega);have mo:∀(d a b:Pn) (E:Int) (ls S:List Int),Bp bs d→Bw bs d→Bp bs a→Bp bs b→0≤E→E+1<8→dg E ls→Gd bs S ls (p.mont d a b E) S:=λd a b E ls S hd wd ha hb h1 h2 hL=>Gd.keep0 (gd_into J ⟨h1,h2⟩ (λq=>by have:=hL.2 _ q;omega) (λq=>by have:=hL.2 _ q;omega) (by have:=hL.1;omega) (hL.lt J) hd wd ha hb pn Pt (wW _ rfl) Fi gO)
 have ra:∀(d:Pn) (bits:Int) (S:List Int),Tj D S→Bp bs d→Bw bs d→bits≤1000000→Gd bs S ls (p.radix d bits D) S:=λd bits S hS hd wd hb=>tz hL J hS J hd wd pn Pr (wW _ rfl) (by simp only[Pw.r];omega) hb
 have cp:∀(to fr:Pn) (S:List Int),Tj D S→Bp bs to→Bw bs to→Bp bs fr→Gd bs S ls (p.copies to fr D) S:=λto fr S hS ht wt hf=>gd_cp hL J hS J ht wt hf J
 have gC:Tj D ((p.B:Int)::S):=hS.high J;have gA:=hL.snoc;have gD:=gA.snoc;have gP:=gD.snoc;unfold Pw.code;refine Gd.mono (Gd.cat (Gd.Lm (T:=(p.B:Int)::S) hL J (l:=[cK p.B 0]) (c8 J okL_nil) D6 Ci) (Gd.cat (S':=(p.B:Int)::S) ?_ (Gd.cat (S':=(p.B:Int)::S) ?_ ?_))) (λx h=>h) (S':=(p.B:Int)::S) (λx h=>Ik _ h)
 ·unfold Pw.fill Pw.fillR;have gI:Tj D (12::(p.B:Int)::S):=gC.high J;refine Gd.mono (Gd.cat (ra _ _ _ gC gG (wW _ rfl) J) (Gd.cat (ra _ _ _ gC gz (wW _ rfl) J) (Gd.cat (mo _ _ _ _ _ _ gE (wW _ rfl) pa gz J J hL) (Gd.cat (cp _ _ _ gC gg (wW _ rfl) gG) (Gd.cat (Gd.Lm (T:=12::(p.B:Int)::S) hL J (l:=[cK 12 (iU p.k)]) (c8 J okL_nil) Ci Ci) (Gd.lpD (S':=12::(p.B:Int)::S) hL J gI J (Gd.cat (mo _ _ _ _ _ _ gg (wW _ rfl) gg gE J J gA) (Gd.cat (Gd.lpD gA J gI.cons J (Gd.L (l:=[Nj (p.B+3) p.acc.p (D+1) 0,M8 3 13 12 (D+1),Nn p.tab.p 13 0 (p.B+3)]) (gD.lt J) ?_ ?_) λx hx=>Iw _ (Ik _ hx)) (Gd.Lm (l:=[cK 13 (iU p.k),M8 3 12 12 13]) gA J ?_ ?_ ?_))) λx h=>h)))))) (λx h=>h) (λx h=>by simp at h;rcases h with h|h<;>simp[h])
  ·exact X8 gg J J N (uk J J J J N N (ux gH (wW _ rfl) J J N N okL_nil))
  ·simp[Nf,Nj,M8,Nn];omega
  ·exact c8 J (uk J J J J N N okL_nil)
  ·simp[Nf,cK,M8]
  ·intro x hx;simp at hx;rcases hx with h|h|h<;>simp[Nf,cK,M8,h]
 ·unfold Pw.exp;have gK:Tj D ((p.B+4:Int)::(p.B:Int)::S):=gC.high J;refine Gd.cat (Gd.Lm (T:=(p.B+4:Int)::(p.B:Int)::S) hL J (l:=[Qv (p.B+4) p.B]) (zrn J J N okL_nil) D7 F8) (Gd.cat (Gd.lpD hL J gK J (Gd.L (gA.lt J) ?_ ?_) λx hx=>Iw _ (Ik _ hx)) (Gd.Lm hL J ?_ ?_ ?_))
  ·unfold Pw.expB;split
   ·exact X8 pb J J N (ux gF (wW _ rfl) J J N N okL_nil)
   ·exact X8 pb J J N (ztb (.inl rfl) J J J N (uk J J J J N N (ux gF (wW _ rfl) J J N N (ztb (.inr rfl) J J J N okL_nil))))
  ·unfold Pw.expB;split
   ·simp[Nf,Nj,Nn];omega
   ·simp[Nf,Nj,Nn,Q6,M8];omega
  ·unfold Pw.expE;split
   ·exact zch gF (wW _ rfl) J J A7 N okL_nil
   ·exact zch gF (wW _ rfl) J J A7 N okL_nil
  ·unfold Pw.expE;split<;>simp[Nf,Nn]
  ·intro x hx;exact Iw _ (Ik _ hx)
 ·unfold Pw.run Pw.runR Pw.runW Pw.shift Pw.scan Pw.scanR;have gL:Tj (D+1) ((p.B+1:Int)::D::(p.B:Int)::S):=(gC.cons).high J;have gQ:Tj (D+1+1) ((p.B+2:Int)::(D+1)::(p.B+1:Int)::D::(p.B:Int)::S):=(gL.cons).high J;have gM:Tj (D+1) (12::(p.B+1:Int)::D::(p.B:Int)::S):=gL.high J;have gK:Tj (D+1+1) ((p.B+5:Int)::(D+1)::12::(p.B+1:Int)::D::(p.B:Int)::S):=(gM.cons).high J;have gR:Tj D ((p.B+3:Int)::(p.B:Int)::S):=gC.high J;refine Gd.mono (Gd.cat (cp _ _ _ gC gg (wW _ rfl) gG) (Gd.cat (Gd.lpD (S':=(p.B:Int)::S) hL J gC J (Gd.mono (Gd.cat (Gd.Lm (T:=(p.B+1:Int)::D::(p.B:Int)::S) gA J (l:=[Qv (p.B+1) p.B]) (zrn J J N okL_nil) D7 F8) (Gd.cat (Gd.lpD (S':=(p.B+1:Int)::D::(p.B:Int)::S) gA J gL J ?_ λx h=>h) (Gd.cat (S':=(p.B+1:Int)::D::(p.B:Int)::S) ?_ (mo _ _ _ _ _ _ gg (wW _ rfl) gg gz J J gA)))) (λx h=>h) (λx h=>by simp at h;rcases h with h|h<;>simp[h])) λx h=>h) ?_)) (λx h=>h) (S':=(p.B+3:Int)::(p.B:Int)::S) (λx h=>Ik _ h)
  ·refine Gd.mono (Gd.cat (mo _ _ _ _ _ _ gg (wW _ rfl) gg gg J J gD) (Gd.cat (Gd.Lm (T:=(p.B+2:Int)::(D+1)::(p.B+1:Int)::D::(p.B:Int)::S) gD J (l:=[Qv (p.B+2) p.B]) (zrn J J N okL_nil) D7 F8) (Gd.cat (gd_sh gD J gQ J J J N gF (wW _ rfl) (by show ((p.b.k+1:Nat):Int)≤_;omega)) (Gd.Lm (T:=(p.B+1:Int)::D::(p.B:Int)::S) gD J (l:=[Q6 8 (p.B+1) (p.B+1) 1,M8 6 (p.B+1) (p.B+1) (p.B+2)]) ?_ ?_ ?_)))) (λx h=>h) λx h=>h
   ·exact ztb (.inl rfl) J J J N (uk J J J J N N okL_nil)
   ·simp[Nf,Q6,M8];omega
   ·intro x hx;simp at hx;rcases hx with h|h|h|h<;>simp[Nf,Q6,M8,h]
  ·refine Gd.mono (Gd.cat (Gd.Lm (T:=12::(p.B+1:Int)::D::(p.B:Int)::S) gA J (l:=[cK 12 0]) (c8 J okL_nil) Ci Ci) (Gd.lpD (S':=12::(p.B+1:Int)::D::(p.B:Int)::S) gA J gM J (Gd.cat (Gd.Lm (T:=(p.B+5:Int)::(D+1)::12::(p.B+1:Int)::D::(p.B:Int)::S) gD J (l:=[M8 7 (p.B+5) (p.B+1) (D+1),Nv 12 (p.B+4) (p.B+5) p.B (p.B+5) p.B]) ?_ ?_ ?_) (Gd.cat (Gd.lpD gD J gK J (Gd.L (l:=p.scanB (D+1+1)) (gP.lt J) ?_ ?_) λx hx=>Iw _ (Ik _ hx)) (Gd.Lm (l:=[cK 13 (iU p.k),M8 3 12 12 13]) gD J ?_ ?_ ?_))) λx h=>h)) (λx h=>h) (λx h=>Ik _ h)
   ·exact uk J J J J N N (zaz (.inr rfl) J J J J J J N N N okL_nil)
   ·simp[Nf,M8,Nv];omega
   ·intro x hx;simp at hx;rcases hx with h|h|h|h|h|h|h<;>simp[Nf,M8,Nv,h]
   ·unfold Pw.scanB;exact uk J J J J N N (X8 gH J J N (X8 gz J J N (zps J J J J N N N (ux gz (wW _ rfl) J J N N okL_nil))))
   ·simp[Pw.scanB,Nf,M8,Nj,Oc,Nn];omega
   ·exact c8 J (uk J J J J N N okL_nil)
   ·simp[Nf,cK,M8]
   ·intro x hx;simp at hx;rcases hx with h|h|h|h|h<;>simp[Nf,cK,M8,h]
  ·exact Gd.cat (Gd.Lm (T:=(p.B+3:Int)::(p.B:Int)::S) hL J (l:=[cK (p.B+3) 1]) (c8 J okL_nil) D6 Ci) (Gd.cat (zx7 hL J gR J N gz (wW _ rfl)) (Gd.cat (Gd.Lm (T:=(p.B+3:Int)::(p.B:Int)::S) hL J (l:=[Nn p.cur.p (-1) 0 (p.B+3)]) (zch gz (wW _ rfl) J J Bk N okL_nil) (by simp[Nf,Nn]) (λx h=>by simp[Nf,Nn];simpa using h)) (mo _ _ _ _ _ _ pd wd gg gz J J hL)))
end gd
end
section
set_option linter.unusedSimpArgs false
def zg2{j:Type}:∀f g h:Fr j,(f.cat g).cat h=f.cat (g.cat h)
 |.nil,_,_=>rfl
 |.op o r,g,h=>Gu
 |.loop o b e r,g,h=>Gu
def ao(g:Fr Lo):Fr.cat (Nd []) g=g:=rfl
def Fm(l:List Pn)(m m':Nat→Nat→UInt64):Prop:=∀x y,(∀p∈l,¬(x=p.b∧p.a≤y∧y<p.a+p.k))→m' x y=m x y
section fm
variable {l l' : List Pn} {m m' m'' : Nat → Nat → UInt64} {p q : Pn}
def Fm.trans(h:Fm l m m')(k:Fm l m' m''):Fm l m m'':=λx y hn=>(k x y hn).trans (h x y hn)
def Fm.mono(h:Fm l m m')(k:∀p∈l,p∈l'):Fm l' m m':=λx y hn=>h x y λp hp=>hn p (k p hp)
def Nw.fm(h:Nw p m m')(hp:p∈l):Fm l m m':=λx y hn=>h x y (hn p hp)
def Fm.pl(h:Fm l m m')(d:∀p∈l,Dj p q){i:Nat}(hi:i<q.k):pl m' q i=pl m q i :=
 h _ _ λp hp ⟨h1,h2,h3⟩=>by
  rcases d p hp with d|d|d
  ·exact d h1.symm
  ·omega
  ·omega
def Fm.vl(h:Fm l m m')(d:∀p∈l,Dj p q){n:Nat}(hn:n≤q.k):vl (Go.Sv.pl m' q) n=vl (Go.Sv.pl m q) n:=V1 λ_ hi=>h.pl d J
end fm
section ex
variable {sz : Nat → Nat} {s : Fs}
def Zm{d a:Nat}{k:Nat}(g:k<64):Qu sz (Q6 9 d a (k:Nat)) s=some (s.put d (UInt64.ofNat ((s.r a).toNat/2^k))):=by
 have e:(iU (k:Int)).toNat=k:=V4 J;simp[Qu,Q6,N8,Zz,eh,Z8,e]
def zv3{d a:Nat}{k:Nat}(g:k<64):Qu sz (Q6 8 d a (k:Nat)) s=some (s.put d (UInt64.ofNat ((s.r a).toNat*2^k))):=by
 have e:(iU (k:Int)).toNat=k:=V4 J;simp[Qu,Q6,N8,Zz,eh,Z8,e]
def zjq{x:UInt64}{k:Nat}:(UInt64.ofNat (x.toNat/2^k)).toNat=x.toNat/2^k:=by
 have h:=x.toNat_lt;have:=Mn x.toNat (2^k);simp;omega
def si{x b:UInt64}(j:b.toNat≤1):(UInt64.ofNat (x.toNat*2^1) ||| b).toNat=2*x.toNat%18446744073709551616+b.toNat:=by
 have z:=x.toNat_lt;rw[Ml];have g:(UInt64.ofNat (x.toNat*2^1)).toNat=2^1*(x.toNat%2^63):=by
  simp;omega
 rw[g,←Mq (J:b.toNat<2^1)];omega
def oi{x b:UInt64}(g:b.toNat≤1):(UInt64.ofNat (x.toNat*2^1) ||| b).toNat+18446744073709551616*(UInt64.ofNat (x.toNat/2^63)).toNat=2*x.toNat+b.toNat∧(UInt64.ofNat (x.toNat/2^63)).toNat≤1:=by
 have j:=x.toNat_lt;rw[si g,zjq];omega
def sh_law{W v r x q b:Nat}(h:v+g*r=2*j+b)(k:q+W*A=2*x+r):v+q*g+g*W*A=2*(j+x*g)+b:=by
 have z:g*(q+W*A)=g*(2*x+r):=Gp
 grind
def sh_ex{p:Pn}{n l o b D:Nat}(T:p.in_ sz)(hn:n≤p.k)(hd:l≠o∧l≠b∧l≠D∧o≠b∧o≠D∧b≠D)(U:(s.r b).toNat≤1) :
  Tx sz (cr p.p n l o b D) s λA=>(∀z,z≠l→z≠o→z≠b→z≠D→A.r z=s.r z)∧Nw p s.m A.m∧(A.r b).toNat≤1∧vl (pl A.m p) n+18446744073709551616^n*(A.r b).toNat=2*vl (pl s.m p) n+(s.r b).toNat:=by
 obtain⟨p1,K⟩:=T;obtain⟨E,d2,F,V,G,X⟩:=hd;have e:cr p.p n l o b D=Oz (D:Nat) (n:Nat) (Nd [Nj (l:Nat) p.p (D:Nat) ((0:Nat):Int),Q6 9 (o:Nat) (l:Nat) ((63:Nat):Int),Q6 8 (l:Nat) (l:Nat) ((1:Nat):Int),M8 6 (l:Nat) (l:Nat) (b:Nat),Nn p.p (D:Nat) ((0:Nat):Int) (l:Nat),Qv (b:Nat) (o:Nat)]):=rfl;rw[e];refine .lp (λB j=>(∀z,z≠l→z≠o→z≠b→z≠D→j.r z=s.r z)∧Nw p s.m j.m∧(j.r b).toNat≤1∧(∀i,B≤i→pl j.m p i=pl s.m p i)∧vl (pl j.m p) B+18446744073709551616^B*(j.r b).toNat=2*vl (pl s.m p) B+(s.r b).toNat)
  ⟨λ_ _ _ _ _=>rfl,λ_ _ _=>rfl,U,λ_ _=>rfl,C3⟩ J (λB j hj ⟨Y,Z,b1,L,v1⟩=>?_) λ_ h=>⟨h.1,h.2.1,h.2.2.1,h.2.2.2.2⟩
 have H:((j.put D (UInt64.ofNat B)).r D).toNat=B:=Bl
 have C:(UInt64.ofNat B).toNat=B:=ft J;refine .op (X0 (by rw[H];omega) K) (.op (Zm J) (.op (zv3 J) (.op zzp ?_)));simp only[Na,Pb,Jo,Hx E,Hx d2.symm,Hx V.symm,Hx X,Hx E.symm,C,Iy];have I:=oi (x:=pl j.m p B) b1;obtain⟨M,a2⟩:=I;refine .op (pk (by simp only[Na,Hx F.symm,Hx G.symm,Jo];rw[ft J];omega) K) (.op zn6 (.nil ⟨λz O P Q R=>?_,?_,?_,λi hi=>?_,?_⟩))
 ·simp only[Na,S6,Hx O,Hx P,Hx Q,Hx R];exact Y z O P Q R
 ·refine Z.trans ?_;rw[Pb];refine Wy (p:=p) ?_;simp only[Na,Hx F.symm,Hx G.symm,Jo];rw[ft J];omega
 ·simp only[Na,S6,Jo,Hx E.symm,Iy];exact a2
 ·rw[Pb,Rn];simp only[Na,Hx F.symm,Hx G.symm,Jo];rw[ft J,Hx J];exact L i J
 ·rw[Pb,Rh,Rh,Rn];simp only[Na,S6,Hx F.symm,Hx G.symm,Jo,Hx E.symm,Iy];rw[C,H7 rfl,Iz,V1 (g:=pl j.m p) λi hi=>by rw[Rn,Hx J];rfl];rw[L B (Ia _)]at M ⊢;exact sh_law v1 M
def oq{to fr:Pn}{k l D:Nat}(H:to.in_ sz)(I:fr.in_ sz)(Q:k≤to.k)(R:k≤fr.k)(z:l≠D)(K:Dj to fr) :
  Tx sz (ep to.p fr.p k l D) s λA=>(∀g,g≠l→g≠D→A.r g=s.r g)∧Nw to s.m A.m∧∀i,i<k→pl A.m to i=pl s.m fr i:=by
 obtain⟨T,L⟩:=H;obtain⟨U,M⟩:=I;have e:ep to.p fr.p k l D=Oz (D:Nat) (k:Nat) (Nd [Nj (l:Nat) fr.p (D:Nat) ((0:Nat):Int),Nn to.p (D:Nat) ((0:Nat):Int) (l:Nat)]):=rfl;rw[e];refine .lp (λG j=>(∀g,g≠l→g≠D→j.r g=s.r g)∧Nw to s.m j.m∧∀i,i<G→pl j.m to i=pl s.m fr i)
  ⟨λ_ _ _=>rfl,λ_ _ _=>rfl,λ_ h=>absurd h J⟩ J (λG j V ⟨O,C,P⟩=>?_) λ_ h=>h
 have B:((j.put D (UInt64.ofNat G)).r D).toNat=G:=Bl
 refine .op (X0 (by rw[B];omega) M) (.op (pk (by simp only[Na,Hx z.symm,Jo];rw[ft J];omega) L) (.nil ⟨λg E F=>?_,?_,λi hi=>?_⟩))
 ·simp only[Na,S6,Hx E,Hx F];exact O g E F
 ·refine C.trans ?_;refine Wy (p:=to) ?_;simp only[Na,Hx z.symm,Jo];rw[ft J];omega
 ·rw[Rn];simp only[Na,Pb,Hx z.symm,Jo,Iy];rw[ft J];split
  ·rename_i q;rw[q];exact C.pl K J
  ·exact P i J
def zs6{R j:Nat}{n r:Pn}{c:Bool}(Q:g<R)(B:(s.r g).toNat=j)(F:s.r (R+5)=Oe c)(G:n.in_ sz)(H:r.in_ sz)(T:j<n.k)(U:j<r.k)(x:List Lo)(P:Fs→Prop)
  (h:∀(z:Fs) (b:Bool),z.m=s.m→z.r (R+5)=Oe b→z.r (R+2)=pl s.m r j→(z.r (R+4)).toNat+(pl s.m n j).toNat+c.toNat=(pl s.m r j).toNat+18446744073709551616*b.toNat→(∀E,E≠R+2→E≠R+4→E≠R+5→z.r E=s.r E)→Tx sz (Nd x) z P) :
  Tx sz (Nd (Wc n.p r.p R g++x)) s P:=by
 obtain⟨I,C⟩:=G;obtain⟨K,D⟩:=H;have e:Wc n.p r.p R g++x=Nj ((R+2:Nat):Int) r.p (g:Nat) ((0:Nat):Int)::Nj ((R+4:Nat):Int) n.p (g:Nat) ((0:Nat):Int)::Nv 12 ((R+4:Nat):Int) ((R+5:Nat):Int) ((R+2:Nat):Int) ((R+4:Nat):Int) ((R+5:Nat):Int)::x:=rfl;rw[e];have A:∀n,n<11→¬g=R+n:=λn h=>J
 refine .op (X0 J D) (.op (X0 (by simp only[Na,Hx (A 2 J)];omega) C) (.op zk5 ?_));have hv:=zdi (pl s.m r j) (pl s.m n j) c;refine h _ (Ov (pl s.m r j) (pl s.m n j) c).2 rfl ?_ ?_ ?_ λE L M O=>?_
 ·simp[Na,Pb,A,B,F,ry]
 ·simp[Na,Pb,A,B]
 ·simpa [Na,Pb,A,B,F,ry] using hv
 ·simp[Na,L,M,O]
def zwi{R k:Nat}{r:Pn}{c:Bool}(B:s.r R=0)(C:s.r (R+5)=Oe c)(D:r.in_ sz)(K:k<r.k)(g:Fr Lo)(I:Fs→Prop)
  (h:∀(j:Fs) (b:Bool),j.m=s.m→j.r (R+5)=Oe b→j.r (R+2)=pl s.m r k→(j.r (R+4)).toNat+c.toNat=(pl s.m r k).toNat+18446744073709551616*b.toNat→(∀A,A≠R+2→A≠R+4→A≠R+5→j.r A=s.r A)→Tx sz g j I) :
  Tx sz ((Nd [Nj ((R:Int)+2) r.p (-1) (k:Nat),Nv 12 ((R:Int)+4) ((R:Int)+5) ((R:Int)+2) (R:Nat) ((R:Int)+5)]).cat g) s I:=by
 obtain⟨E,z⟩:=D;have e:[Nj ((R:Int)+2) r.p (-1) (k:Nat),Nv 12 ((R:Int)+4) ((R:Int)+5) ((R:Int)+2) (R:Nat) ((R:Int)+5)]=[Nj ((R+2:Nat):Int) r.p (-1) (k:Nat),Nv 12 ((R+4:Nat):Int) ((R+5:Nat):Int) ((R+2:Nat):Int) (R:Nat) ((R+5:Nat):Int)]:=rfl;rw[e];refine .op (zuz J z) (.op zk5 ?_);have hv:=zdi (pl s.m r k) 0 c;refine h _ (Ov (pl s.m r k) 0 c).2 rfl ?_ ?_ ?_ λA F G H=>?_
 ·simp[Na,B,C,ry]
 ·simp[Na]
 ·simpa [Na,B,C,ry] using hv
 ·simp[Na,F,G,H]
def w9(R g:Nat):Prop:=g=R+2∨g=R+4∨g=R+5
def take_ex{R D k:Nat}{n r:Pn}(T:D<R)(U:s.r R=0)(V:n.in_ sz)(E:r.in_ sz)(kn:k≤n.k)(X:k<r.k) :
  Tx sz (Ws n.p r.p k R D []) s λI=>(∀g,¬w9 R g→g≠D→I.r g=s.r g)∧I.m=s.m∧∃(c:Bool) (v:Nat),I.r (R+5)=Oe c∧v<18446744073709551616^(k+1)∧v+vl (pl s.m n) k=vl (pl s.m r) (k+1)+18446744073709551616^(k+1)*c.toNat:=by
 have Y:k<18446744073709551616:=by have:=E.1;have:=E.2;omega
 have e:Ws n.p r.p k R D []=(Nd [cK ((R+5:Nat):Int) 0]).cat ((Oz (D:Nat) (k:Nat) (Nd (Wc n.p r.p R D++[]))).cat ((Nd [Nj ((R:Int)+2) r.p (-1) (k:Nat),Nv 12 ((R:Int)+4) ((R:Int)+5) ((R:Int)+2) (R:Nat) ((R:Int)+5)]).cat .nil)):=rfl;rw[e];unfold w9;refine .op V9 ?_;rw[ao];refine .cat (R:=λz=>(∀g,¬(g=R+2∨g=R+4∨g=R+5)→g≠D→z.r g=s.r g)∧z.m=s.m∧∃(c:Bool) (v:Nat),z.r (R+5)=Oe c∧v<18446744073709551616^k∧v+vl (pl s.m n) k=vl (pl s.m r) k+18446744073709551616^k*c.toNat) ?_ λz ⟨F,m1,c,v,K,Z,L⟩=>?_
 ·refine .lp (λG z=>(∀g,¬(g=R+2∨g=R+4∨g=R+5)→g≠D→z.r g=s.r g)∧z.m=s.m∧∃(c:Bool) (v:Nat),z.r (R+5)=Oe c∧v<18446744073709551616^G∧v+vl (pl s.m n) G=vl (pl s.m r) G+18446744073709551616^G*c.toNat) ⟨λg H _=>?_,rfl,false,0,by rw[Na,H7 rfl];rfl,N,C3⟩ Y (λG z hj ⟨F,m1,c,v,K,Z,L⟩=>?_) λ_ h=>h
  ·rw[Na,Hx J]
  ·refine zs6 (j:=G) (c:=c) T Bl (by rw[Na,Hx J,K]) V E J J _ _ λB b M O t2 C P=>.nil ⟨λg H A=>?_,by rw[M,Pb,m1],b,v+(B.r (R+4)).toNat*18446744073709551616^G,O,?_,?_⟩
   ·rw[P g J J J,Na,Hx A,F g H A]
   ·have:=(B.r (R+4)).toNat_lt;have Q:=Ii (18446744073709551616^G) (J:(B.r (R+4)).toNat+1≤18446744073709551616);rw[Iu,Kb]at Q;rw[Iz,Jt (18446744073709551616^G)];omega
   ·rw[Pb,m1]at C;rw[Rh,Rh,Iz];exact zd9 L C
 ·refine zwi (c:=c) (by rw[F R J J,U]) K E X _ _ λB b M O t2 C P=>.nil ⟨λg H A=>?_,by rw[M,m1],b,v+(B.r (R+4)).toNat*18446744073709551616^k,O,?_,?_⟩
  ·rw[P g J J J,F g H A]
  ·have:=(B.r (R+4)).toNat_lt;have Q:=Ii (18446744073709551616^k) (J:(B.r (R+4)).toNat+1≤18446744073709551616);rw[Iu,Kb]at Q;rw[Iz,Jt (18446744073709551616^k)];omega
  ·rw[m1]at C;rw[Rh,Iz];have:=zd9 (x:=0) L Cm;simpa using this
def keep_ex{R D k:Nat}{n r:Pn}{p:Bool}(hD:D<R)(hR:s.r R=0)(hp:s.r (R+6)=Oe p)(hn:n.in_ sz)(L:r.in_ sz)(kn:k≤n.k)(kr:k<r.k)(dj:Dj r n) :
  Tx sz ((Ws n.p r.p k R D [Oc ((R:Int)+4) ((R:Int)+6) ((R:Int)+2) ((R:Int)+4),Nn r.p D 0 ((R:Int)+4)]).cat (Nd [Oc ((R:Int)+4) ((R:Int)+6) ((R:Int)+2) ((R:Int)+4),Nn r.p (-1) k ((R:Int)+4),cK ((R:Int)+1) 0])) s λT =>
   (∀B,¬w9 R B→B≠R+1→B≠D→T.r B=s.r B)∧Nw r s.m T.m∧T.r (R+1)=0∧∃(c:Bool) (v:Nat),v<18446744073709551616^(k+1)∧v+vl (pl s.m n) k=vl (pl s.m r) (k+1)+18446744073709551616^(k+1)*c.toNat∧vl (pl T.m r) (k+1)=if p=true then vl (pl s.m r) (k+1) else v:=by
 have hW:k<18446744073709551616:=by have:=L.1;have:=L.2;omega
 have gg:=L.1;have Q:=L.2;have e:∀g:Fr Lo,(Ws n.p r.p k R D [Oc ((R:Int)+4) ((R:Int)+6) ((R:Int)+2) ((R:Int)+4),Nn r.p D 0 ((R:Int)+4)]).cat g=(Nd [cK ((R+5:Nat):Int) 0]).cat ((Oz (D:Nat) (k:Nat) (Nd (Wc n.p r.p R D++[Oc ((R+4:Nat):Int) ((R+6:Nat):Int) ((R+2:Nat):Int) ((R+4:Nat):Int),Nn r.p (D:Nat) ((0:Nat):Int) ((R+4:Nat):Int)]))).cat ((Nd [Nj ((R:Int)+2) r.p (-1) (k:Nat),Nv 12 ((R:Int)+4) ((R:Int)+5) ((R:Int)+2) (R:Nat) ((R:Int)+5)]).cat g)):=λg=>by
  unfold Ws;rw[zg2,zg2];rfl
 rw[e];unfold w9;refine .op V9 ?_;rw[ao];refine .cat (R:=λA=>(∀B,¬(B=R+2∨B=R+4∨B=R+5)→B≠D→A.r B=s.r B)∧Nw r s.m A.m∧(∀i,k≤i→pl A.m r i=pl s.m r i)∧∃(c:Bool) (v:Nat),A.r (R+5)=Oe c∧v<18446744073709551616^k∧v+vl (pl s.m n) k=vl (pl s.m r) k+18446744073709551616^k*c.toNat∧vl (pl A.m r) k=if p=true then vl (pl s.m r) k else v) ?_ λA ⟨M,U,V,c,v,Y,l1,Z,w1⟩=>?_
 ·refine .lp (λF A=>(∀B,¬(B=R+2∨B=R+4∨B=R+5)→B≠D→A.r B=s.r B)∧Nw r s.m A.m∧(∀i,F≤i→pl A.m r i=pl s.m r i)∧∃(c:Bool) (v:Nat),A.r (R+5)=Oe c∧v<18446744073709551616^F∧v+vl (pl s.m n) F=vl (pl s.m r) F+18446744073709551616^F*c.toNat∧vl (pl A.m r) F=if p=true then vl (pl s.m r) F else v) ⟨λB X _=>?_,λ_ _ _=>rfl,λ_ _=>rfl,false,0,by rw[Na,H7 rfl];rfl,N,C3,C3⟩ hW (λF A hj ⟨M,U,V,c,v,Y,l1,Z,w1⟩=>?_) λ_ h=>h
  ·rw[Na,Hx J]
  ·refine zs6 (j:=F) (c:=c) hD Bl (by rw[Na,Hx J,Y]) hn L J J _ _ λz b G b2 O H P=>?_
   have gz:(z.r D).toNat=F:=by rw[P D J J J];simp[Na];omega
   rw[Pb]at O H G;rw[V F (Ia _)]at O H;rw[U.pl dj J]at H;have I:z.r (R+6)=Oe p:=by rw[P _ J J J,Na,Hx J,M _ J J,hp]
   refine .op zpe (.op (pk (by simp only[Na];rw[Hx J];omega) Q) (.nil ⟨λB X C=>?_,?_,λi hi=>?_,b,v+(z.r (R+4)).toNat*18446744073709551616^F,?_,?_,?_,?_⟩))
   ·rw[S6,Na,Hx J,P B J J J,Na,Hx C,M B X C]
   ·refine U.trans (G ▸ ?_);exact Wy (p:=r) (s:=z.put _ _) Gw
   ·have K:0+((z.put (R+4) (if z.r (R+6)%2=1 then z.r (R+2) else z.r (R+4))).r D).toNat=F:=Gw
    rw[K,Rn,Hx J,Pb,G];exact V i J
   ·rw[S6,Na,Hx J,b2]
   ·have:=(z.r (R+4)).toNat_lt;have h3:=Ii (18446744073709551616^F) (J:(z.r (R+4)).toNat+1≤18446744073709551616);rw[Iu,Kb]at h3;rw[Iz,Jt (18446744073709551616^F)];omega
   ·rw[Rh,Rh,Iz];exact zd9 Z H
   ·have K:0+((z.put (R+4) (if z.r (R+6)%2=1 then z.r (R+2) else z.r (R+4))).r D).toNat=F:=Gw
    rw[Rh,K,Rn,H7 rfl,V1 (g:=pl A.m r) (n:=F) λi hi=>by rw[Rn,Hx J,Pb,G],w1,Na,H7 rfl,I,O];have E:=ry p;cases p
    ·simp at E;simp[E]
    ·simp at E;simp[E,Rh]
 ·refine zwi (c:=c) (by rw[M R J J,hR]) Y L kr _ _ λz b G b2 O H P=>?_
  rw[V k (Ia _)]at O H;have I:z.r (R+6)=Oe p:=by rw[P _ J J J,M _ J J,hp]
  have e2:[Oc ((R:Int)+4) ((R:Int)+6) ((R:Int)+2) ((R:Int)+4),Nn r.p (-1) (k:Nat) ((R:Int)+4),cK ((R:Int)+1) 0]=[Oc ((R+4:Nat):Int) ((R+6:Nat):Int) ((R+2:Nat):Int) ((R+4:Nat):Int),Nn r.p (-1) (k:Nat) ((R+4:Nat):Int),cK ((R+1:Nat):Int) 0]:=rfl;rw[e2];refine .op zpe (.op (zqn J Q) (.op V9 (.nil ⟨λB X h1 C=>?_,?_,by simp[Na],b,v+(z.r (R+4)).toNat*18446744073709551616^k,?_,?_,?_⟩)))
  ·rw[Na,Hx h1,S6,Na,Hx J,P B J J J,M B X C]
  ·refine U.trans (G ▸ ?_);exact Wy (p:=r) (s:=z.put _ _) J
  ·have:=(z.r (R+4)).toNat_lt;have h3:=Ii (18446744073709551616^k) (J:(z.r (R+4)).toNat+1≤18446744073709551616);rw[Iu,Kb]at h3;rw[Iz,Jt (18446744073709551616^k)];omega
  ·rw[Rh,Iz];have:=zd9 (x:=0) Z Bt;simpa using this
  ·rw[Pb,Rh,Rn,H7 rfl,V1 (g:=pl A.m r) (n:=k) λi hi=>by rw[Rn,Hx J,Pb,G],w1,Na,H7 rfl,I,O];have E:=ry p;cases p
   ·simp at E;simp[E]
   ·simp at E;simp[E,Rh]
end ex
end
section
set_option linter.unusedSimpArgs false
def Fm.inn{l:List Pn}{q:Pn}{m m':Nat→Nat→UInt64}(h:Fm l m m')(k:∀p∈l,p.b=q.b∧q.a≤p.a∧p.a+p.k≤q.a+q.k):Fm [q] m m':=λx y hn=>h x y λp hp ⟨h1,h2,h3⟩=>hn q N (by have:=k p hp;omega)
def rx_law{v c:Nat}(C:c≤1)(z:Q≤1)(E:v<g)(F:v+j=A+g*c)(G:D<g)(H:D+j=A+g*Q)(I:A<2*j):(c=1→A%j=A)∧(c=0→D=A%j):=by
 have e:c=0∨c=1:=J
 have B:Q=0∨Q=1:=J
 have hm:j≤A→A%j=A-j:=λh=>by rw[Nat.mod_eq_sub_mod h,Iv J]
 rcases e with rfl|rfl<;>rcases B with rfl|rfl<;>simp at *
 ·have:=hm J;omega
 ·omega
 ·exact Iv J
 ·exact Iv J
def rx_top{v b:Nat}(h:v+g*b=j)(z:b=0∨b=1)(B:j<2*A)(C:A<D)(E:g=D*18446744073709551616):v=j:=by
 rcases z with rfl|rfl<;>omega
def zt0{p:Pn}{t:Fs}{m:Nat→Nat→UInt64}{i:Nat}{v:UInt64}(h:t.m=m)(hi:i<p.k):Nw p m (t.sto p.b (p.a+i) v).m:=h ▸ Wy hi
section ex
variable {sz : Nat → Nat} {s : Fs}
def zwv{R D k bits:Nat}{d n r:Pn}(hD:D+1<R)(hd:d.in_ sz)(hn:n.in_ sz)(F:r.in_ sz)(kd:k≤d.k)(Q:k≤n.k)(kr:r.k=k+1)(rn:Dj r n)(dr:Dj d r)(hb:bits≤1000000) :
  Tx sz (Yt d.p n.p r.p k bits R D) s λT=>(∀z,¬(R≤z∧z≤R+6)→z≠D→z≠D+1→T.r z=s.r z)∧Fm [d,r] s.m T.m∧(0<vl (pl s.m n) k→vl (pl T.m d) k=2^bits%vl (pl s.m n) k):=by
 have gD:=F.1;have gE:=F.2;have e:Yt d.p n.p r.p k bits R D=(Nd [cK (R:Nat) 0,cK ((R+1:Nat):Int) 1]).cat ((S5 r.p (R:Nat) (D:Nat)).cat ((Oz (D:Nat) ((bits+1:Nat):Int) ((cr r.p ((k+1:Nat):Int) ((R+2:Nat):Int) ((R+3:Nat):Int) ((R+1:Nat):Int) ((D+1:Nat):Int)).cat ((Ws n.p r.p k R ((D+1:Nat):Int) []).cat ((Nd [Qv ((R+6:Nat):Int) ((R+5:Nat):Int)]).cat ((Ws n.p r.p k R ((D+1:Nat):Int) [Oc ((R:Int)+4) ((R:Int)+6) ((R:Int)+2) ((R:Int)+4),Nn r.p ((D+1:Nat):Int) 0 ((R:Int)+4)]).cat (Nd [Oc ((R:Int)+4) ((R:Int)+6) ((R:Int)+2) ((R:Int)+4),Nn r.p (-1) k ((R:Int)+4),cK ((R:Int)+1) 0])))))).cat (ep d.p r.p k ((R+2:Nat):Int) (D:Nat)))):=rfl;rw[e];refine .op V9 (.op V9 ?_);rw[ao];refine (zub F J).cat λs1 ⟨I,o1,z1⟩=>?_
 simp only[Pb,Na,Jo]at I o1 z1;have U:∀i,i<r.k→pl s1.m r i=0:=λi hi=>by rw[z1 i hi,Hx J]
 refine .cat (R:=λj=>(∀z,¬(R≤z∧z≤R+6)→z≠D→z≠D+1→j.r z=s.r z)∧j.r R=0∧Nw r s.m j.m∧(j.r (R+1)).toNat≤1∧(0<vl (pl s.m n) k→2*vl (pl j.m r) (k+1)+(j.r (R+1)).toNat<2*vl (pl s.m n) k∧(2*vl (pl j.m r) (k+1)+(j.r (R+1)).toNat)%vl (pl s.m n) k=2^(bits+1)%vl (pl s.m n) k∧vl (pl j.m r) (k+1)=2^bits%vl (pl s.m n) k)) ?_ λj ⟨V,R2,X,b2,Y⟩=>?_
 ·refine .lp (λi j=>(∀z,¬(R≤z∧z≤R+6)→z≠D→z≠D+1→j.r z=s.r z)∧j.r R=0∧Nw r s.m j.m∧(j.r (R+1)).toNat≤1∧(0<vl (pl s.m n) k→2*vl (pl j.m r) (k+1)+(j.r (R+1)).toNat<2*vl (pl s.m n) k∧(2*vl (pl j.m r) (k+1)+(j.r (R+1)).toNat)%vl (pl s.m n) k=2^i%vl (pl s.m n) k∧(0<i→vl (pl j.m r) (k+1)=2^(i-1)%vl (pl s.m n) k)))
   ⟨λz H A E=>?_,?_,o1,?_,λB=>?_⟩ J (λi j hi ⟨V,R2,X,b2,Y⟩=>?_) λC ⟨a,b,c,d,e⟩=>⟨a,b,c,d,λB=>⟨(e B).1,(e B).2.1,(e B).2.2 J⟩⟩
  ·rw[I z A,Hx J,Hx J]
  ·rw[I R J,Hx J,H7 rfl]
  ·rw[I (R+1) J,H7 rfl];decide
  ·rw[zkc λi hi=>U i J,I (R+1) J,H7 rfl];refine⟨?_,N,λh=>absurd h J⟩;show 2*0+1<_;omega
  ·have L:∀z,z≠D→(j.put D (UInt64.ofNat i)).r z=j.r z:=λz hz=>by rw[Na,Hx hz]
   refine (sh_ex (p:=r) (n:=k+1) (l:=R+2) (o:=R+3) (b:=R+1) (D:=D+1) F J J (by rw[L _ J];exact b2)).cat λC ⟨M,O,b3,P⟩=>?_
   rw[L (R+1) J,Pb]at P;rw[Pb]at O;have Z:C.r R=0:=by rw[M R J J J J,L R J,R2]
   refine (take_ex (k:=k) J Z hn F Q J).cat λs4 ⟨g4,m4,c,v,c4,l4,v4⟩=>?_
   refine .op zn6 ?_;rw[ao];have G:∀z,¬w9 R z→z≠R+6→z≠D+1→(s4.put (R+6) (s4.r (R+5))).r z=C.r z:=λz H A E=>by rw[Na,Hx A,g4 z H E]
   have K:=X.trans O;refine (keep_ex (p:=c) (k:=k) J (by rw[G R Db J J,Z]) (by rw[Na,H7 rfl,c4]) hn F Q J rn).mono λs5 ⟨g5,o5,b5,c',v',l5,v5,w5⟩=>?_
   rw[Pb,m4]at o5 v5 w5;rw[K.vl rn Q]at v4 v5;refine⟨λz H A E=>?_,?_,K.trans o5,by rw[b5];decide,λB=>?_⟩
   ·rw[g5 z Db J E,G z Db J E,M z J J J E,L z A,V z H A E]
   ·rw[g5 R Db J J,G R Db J J,Z]
   ·obtain⟨x1,x2,_⟩:=Y B;have gg:=W5 (pl s.m n) k;have gz:(C.r (R+1)).toNat=0∨(C.r (R+1)).toNat=1:=J
    have hP:(18446744073709551616:Nat)^(k+1)=18446744073709551616^k*18446744073709551616:=Iz ..;have hX:vl (pl C.m r) (k+1)=2*vl (pl j.m r) (k+1)+(j.r (R+1)).toNat:=by
     exact rx_top P gz x1 gg hP
    rw[←hX]at x1 x2;have gA:c.toNat≤1:=by cases c<;>decide
    have gC:c'.toNat≤1:=by cases c'<;>decide
    obtain⟨q1,q2⟩:=rx_law gA gC l4 v4 l5 v5 x1;have hV:vl (pl s5.m r) (k+1)=vl (pl C.m r) (k+1)%vl (pl s.m n) k:=by
     rw[w5];cases c
     ·rw[Hx N];exact q2 rfl
     ·rw[H7 rfl];exact (q1 rfl).symm
    have gF:=J1 (vl (pl C.m r) (k+1)) B;rw[b5,hV];refine⟨Ab,?_,λ_=>by rw[x2,Nat.add_sub_cancel]⟩;show (2*(vl (pl C.m r) (k+1)%vl (pl s.m n) k)+0)%_=_;rw[Kl,x2,Iz,Jt (2^i)]
    conv=>lhs;rw[Jh,Nat.mod_mod,←Jh]
 ·refine (oq (to:=d) (fr:=r) (k:=k) (l:=R+2) (D:=D) hd F kd J J dr).mono λC ⟨M,O,P⟩=>⟨λz H A E=>?_,?_,λB=>?_⟩
  ·rw[M z J A,V z H A E]
  ·exact (X.fm N).trans (O.fm N)
  ·obtain⟨_,_,w⟩:=Y B;have A:vl (pl j.m r) (k+1)<18446744073709551616^k:=by
    rw[w];exact Mr (J1 _ B) (W5 _ _)
   rw[V1 (g:=pl j.m r) P,←w,Rh];rw[Rh]at A;have:(pl j.m r k).toNat=0:=by
    rcases Nat.eq_zero_or_pos (pl j.m r k).toNat with q|q
    ·exact q
    ·have:=L8 (18446744073709551616^k) q;omega
   rw[this];omega
def Pw.wk(p:Pw):Pn:=⟨p.wb,p.wa,4*p.k+p.b.k+3+p.k*2^p.w⟩
def Pw.en(p:Pw)(e:Nat):Pn:=⟨p.wb,p.wa+4*p.k+p.b.k+3+e*p.k,p.k⟩
structure PwS (sz:Nat→Nat) (p:Pw):Prop where
 B:16≤p.B∧p.B≤40
 d:p.d.in_ sz
 a:p.a.in_ sz
 b:p.b.in_ sz
 n:p.n.in_ sz
 wk:p.wk.in_ sz
 k:1≤p.k
 kb:p.k≤512
 dk:p.d.k=p.k
 ak:p.a.k=p.k
 nk:p.n.k=p.k
 db:p.d.b≠p.wb
 ab:p.a.b≠p.wb
 bb:p.b.b≠p.wb
 nb:p.n.b≠p.wb
 dn:DjE p.d p.n
 w:1≤p.w∧p.w≤6
 ov:p.over≤63
 ti:p.times*p.w=64*p.b.k+p.over
section pieces
variable {p : Pw}
def zuo{e:Nat}(he:e<2^p.w):e*p.k+p.k≤p.k*2^p.w:=by
 have:=Ii p.k (J:e+1≤2^p.w);rw[Iu,Kb,Jt (2^p.w)]at this;exact this
def Yk(g:PwS sz p){q:Pn}(j:q.b=p.wb)(A:q.a+q.k≤p.wa+(4*p.k+p.b.k+3+p.k*2^p.w)):q.in_ sz:=by
 have z:=g.wk;unfold Pn.in_ at *;rw[j];simp only[Pw.wk]at z;omega
def zi2(p:Pw):p.k≤p.k*2^p.w:=Nat.le_mul_of_pos_right _ (Kn _)
def or_shl{x o:UInt64}{m:Nat}(hm:m<64)(ho:o.toNat<2^m):(UInt64.ofNat (x.toNat*2^m) ||| o).toNat+18446744073709551616*(x.toNat/2^(64-m))=2^m*x.toNat+o.toNat:=by
 have z:=x.toNat_lt;have g:(18446744073709551616:Nat)=2^m*2^(64-m):=by rw[←Kq,(J:m+(64-m)=64)]
 have j:(UInt64.ofNat (x.toNat*2^m)).toNat=2^m*(x.toNat%2^(64-m)):=by
  rw[Je,show (2:Nat)^64=2^m*2^(64-m) from g,Jt x.toNat,Nat.mul_mod_mul_left]
 rw[Ml,j,←Mq ho,g];have:=Nat.div_add_mod x.toNat (2^(64-m));generalize x.toNat/2^(64-m)=q at *;generalize x.toNat%2^(64-m)=r at *;rw[←this,Lk,Kf];omega
def exp_law{W r x q v:Nat}(h:v+g*r=A*j)(k:q+W*D=A*x+r):v+q*g+g*W*D=A*(j+x*g):=by
 have z:g*(q+W*D)=g*(A*x+r):=Gp
 grind
def exp_ex(L:PwS sz p){D:Nat}(hD:D<8)(Q:s.r p.B=0) :
  Tx sz (p.exp D) s λT=>(∀z,¬(p.B+2≤z∧z≤p.B+4)→z≠D→T.r z=s.r z)∧Nw p.es s.m T.m∧vl (pl T.m p.es) (p.b.k+1)=vl (pl s.m p.b) p.b.k*2^(64-p.over):=by
 have hB:=L.B.1;have gg:=L.b.1;have M:=L.b.2;have O:p.es.in_ sz:=Yk L rfl A7;have gz:p.es.a+(p.b.k+1)≤sz p.es.b:=O.1;have C:=O.2;have Z:Dj p.es p.b:=.inl L.bb.symm;have gA:=L.ov;by_cases P:p.over=0
 ·have e:p.exp D=(Nd [Qv ((p.B+4:Nat):Int) (p.B:Nat)]).cat ((Oz (D:Nat) (p.b.k:Nat) (Nd [Nj ((p.B+3:Nat):Int) p.b.p (D:Nat) ((0:Nat):Int),Nn p.es.p (D:Nat) ((1:Nat):Int) ((p.B+3:Nat):Int)])).cat (Nd [Nn p.es.p (-1) ((0:Nat):Int) (p.B:Nat)])):=by
   unfold Pw.exp Pw.expB Pw.expE;rw[H7 P,H7 P];rfl
  rw[e];refine .op zn6 ?_;rw[ao];refine .cat (R:=λj=>(∀z,¬(p.B+2≤z∧z≤p.B+4)→z≠D→j.r z=s.r z)∧Nw p.es s.m j.m∧∀i,i<p.b.k→pl j.m p.es (i+1)=pl s.m p.b i) ?_ λj ⟨G,E,I⟩=>?_
  ·refine .lp (λH j=>(∀z,¬(p.B+2≤z∧z≤p.B+4)→z≠D→j.r z=s.r z)∧Nw p.es s.m j.m∧∀i,i<H→pl j.m p.es (i+1)=pl s.m p.b i) ⟨λz F B=>Hc,λ_ _ _=>rfl,λ_ h=>absurd h J⟩ J (λH j hj ⟨G,E,I⟩=>?_) λ_ h=>h
   have A:(UInt64.ofNat H).toNat=H:=ft J;have K:¬D=p.B+3:=J
   refine .op (X0 (by simp only[Na,Jo,A];omega) M) (.op (pk (by simp only[Na,Hx K,Jo,A];omega) C) (.nil ⟨λz F B=>?_,?_,λi hi=>?_⟩))
   ·rw[S6,Na,Hx J,Na,Hx B,G z F B]
   ·refine E.trans (Wy (p:=p.es) (s:=(j.put D (UInt64.ofNat H)).put _ _) ?_);simp only[Na,Hx K,Jo,A,Pw.es];omega
   ·rw[Rn];simp only[Na,Pb,Hx K,Jo,A,Iy];split
    ·rename_i q;have:i=H:=J
     rw[this];exact E.pl Z J
    ·exact I i J
  ·refine .op (zqn J C) (.nil ⟨λz F B=>by rw[S6,G z F B],E.trans (Wy A7),?_⟩);rw[zqj,Rn,H7 rfl,G p.B J J,Q,V1 (g:=pl s.m p.b) λi hi=>by
    rw[Rn,Hx J];exact I i hi,P]
   simp;omega
 ·have e:p.exp D=(Nd [Qv ((p.B+4:Nat):Int) (p.B:Nat)]).cat ((Oz (D:Nat) (p.b.k:Nat) (Nd [Nj ((p.B+3:Nat):Int) p.b.p (D:Nat) ((0:Nat):Int),Q6 8 ((p.B+2:Nat):Int) ((p.B+3:Nat):Int) ((64-p.over:Nat):Int),M8 6 ((p.B+2:Nat):Int) ((p.B+2:Nat):Int) ((p.B+4:Nat):Int),Nn p.es.p (D:Nat) ((0:Nat):Int) ((p.B+2:Nat):Int),Q6 9 ((p.B+4:Nat):Int) ((p.B+3:Nat):Int) (p.over:Nat)])).cat (Nd [Nn p.es.p (-1) (p.b.k:Nat) ((p.B+4:Nat):Int)])):=by
   unfold Pw.exp Pw.expB Pw.expE;rw[Hx P,Hx P,(J:(64:Int)-(p.over:Int)=((64-p.over:Nat):Int))];rfl
  rw[e];refine .op zn6 ?_;rw[ao];refine .cat (R:=λj=>(∀z,¬(p.B+2≤z∧z≤p.B+4)→z≠D→j.r z=s.r z)∧Nw p.es s.m j.m∧(j.r (p.B+4)).toNat<2^(64-p.over)∧vl (pl j.m p.es) p.b.k+18446744073709551616^p.b.k*(j.r (p.B+4)).toNat=2^(64-p.over)*vl (pl s.m p.b) p.b.k) ?_ λj ⟨G,E,_,I⟩=>?_
  ·refine .lp (λH j=>(∀z,¬(p.B+2≤z∧z≤p.B+4)→z≠D→j.r z=s.r z)∧Nw p.es s.m j.m∧(j.r (p.B+4)).toNat<2^(64-p.over)∧vl (pl j.m p.es) H+18446744073709551616^H*(j.r (p.B+4)).toNat=2^(64-p.over)*vl (pl s.m p.b) H) ⟨λz F B=>Hc,λ_ _ _=>rfl,by rw[Na,H7 rfl,Q];exact Kn _,by rw[Na,H7 rfl,Q];simp[vl]⟩ J (λH j hj ⟨G,E,l1,I⟩=>?_) λ_ h=>h
   have A:(UInt64.ofNat H).toNat=H:=ft J;have d2:¬D=p.B+2:=J
   have U:¬D=p.B+3:=J
   have V:¬D=p.B+4:=J
   have X:¬p.B+4=D:=J
   have hq:=or_shl (x:=pl s.m p.b H) (m:=64-p.over) J l1;rw[(J:64-(64-p.over)=p.over)]at hq;refine .op (X0 (by simp only[Na,Jo,A];omega) M) (.op (zv3 J) (.op zzp (.op (pk ?_ C) (.op (Zm J) (.nil ⟨λz F B=>?_,?_,?_,?_⟩)))))
   ·simp[Na,d2,U,V,A];omega
   ·have z2:¬z=p.B+2:=J
    have z3:¬z=p.B+3:=J
    have z4:¬z=p.B+4:=J
    simp[Na,S6,z2,z3,z4,B];exact G z F B
   ·refine E.trans ?_;rw[Pb];refine zt0 rfl ?_;simp[Na,d2,U,V,A,Pw.es];omega
   ·rw[Na,H7 rfl,zjq];refine Nat.div_lt_of_lt_mul (Nat.lt_of_lt_of_eq (UInt64.toNat_lt _) ?_);rw[←Kq,(J:p.over+(64-p.over)=64)]
   ·have Y:pl j.m p.b H=pl s.m p.b H:=E.pl Z J;rw[Pb,Rh,Rh,Rn];simp[Na,Pb,S6,d2,U,V,X,A,Y,-UInt64.toNat_or,-UInt64.toNat_ofNat',-UInt64.ofNat_mul];rw[V1 (g:=pl j.m p.es) λi hi=>by rw[Rn,Hx J];rfl,zjq,Iz];exact exp_law I hq
  ·refine .op (zqn J C) (.nil ⟨λz F B=>by rw[S6,G z F B],E.trans (Wy A7),?_⟩);rw[Rh,Rn,H7 rfl,V1 (g:=pl j.m p.es) λi hi=>by rw[Rn,Hx J],Jt (vl (pl s.m p.b) p.b.k),←I,Jt (18446744073709551616^p.b.k)]
def rf(B:PwS sz p){D:Nat}(O:D<8)(C:s.r p.B=0)(K:(s.r (p.B+1)).toNat<9223372036854775808) :
  Tx sz (p.shift D) s λg=>(∀j,¬(p.B+1≤j∧j≤p.B+4)→j≠D→g.r j=s.r j)∧Nw p.es s.m g.m∧∃Pm:Nat,Pm≤1∧(g.r (p.B+1)).toNat=2*(s.r (p.B+1)).toNat+Pm∧vl (pl g.m p.es) (p.b.k+1)+18446744073709551616^(p.b.k+1)*Pm=2*vl (pl s.m p.es) (p.b.k+1):=by
 have P:=B.B.1;have z:p.es.in_ sz:=Yk B rfl A7;have e:p.shift D=(Nd [Qv ((p.B+2:Nat):Int) (p.B:Nat)]).cat ((cr p.es.p ((p.b.k+1:Nat):Int) ((p.B+3:Nat):Int) ((p.B+4:Nat):Int) ((p.B+2:Nat):Int) (D:Nat)).cat (Nd [Q6 8 ((p.B+1:Nat):Int) ((p.B+1:Nat):Int) ((1:Nat):Int),M8 6 ((p.B+1:Nat):Int) ((p.B+1:Nat):Int) ((p.B+2:Nat):Int)])):=rfl;rw[e];refine .op zn6 ?_;rw[ao];refine (sh_ex (p:=p.es) (n:=p.b.k+1) (l:=p.B+3) (o:=p.B+4) (b:=p.B+2) (D:=D) z Ek J (by rw[Na,H7 rfl,C];decide)).cat λE ⟨F,G,H,I⟩=>?_
 rw[Na,H7 rfl,C,Pb]at I;rw[Pb]at G;have A:E.r (p.B+1)=s.r (p.B+1):=by rw[F _ J J J J,Na,Hx J]
 refine .op (zv3 J) (.op zzp (.nil ⟨λj Q L=>?_,G,(E.r (p.B+2)).toNat,H,?_,?_⟩))
 ·rw[Na,Hx J,Na,Hx J,F j J J J L,Na,Hx J]
 ·have M:¬p.B+2=p.B+1:=J
  simp only[Na,Jo,Hx M,A];rw[si H];omega
 ·rw[Pb,Pb];simpa using I
end pieces
end ex
end
section
set_option linter.unusedSimpArgs false
def zit{c:Cf}{x:Nat}(j:¬Rf c x)(z:¬(c.pa≤x∧x≤c.pb)):∀{f:Fr Lo} {lev:Int},0≤lev→f.AllH c lev→((x:Int)<lev∨c.hi<x)→f.noW x=true
 |.nil,_,_,_,_=>rfl
 |.op o r,lev,B,h,C=>by
  obtain⟨F,h⟩:=h;have A:=zit j z B h C;simp only[Fr.noW,Hy,Jf,I4];rcases F.m with ⟨m1,g,_⟩|⟨_,m1,g,_⟩
  ·refine⟨λq=>?_,λq=>?_,A⟩
   ·rw[q]at m1;rcases m1 with m1|m1
    ·omega
    ·exact j m1
   ·rw[q]at g;rcases g with g|g
    ·omega
    ·exact j g
  ·exact⟨λq=>z J,λq=>J,A⟩
 |.loop o b e r,lev,B,h,C=>by
  obtain⟨⟨G,H,_⟩,k,_,E,h⟩:=h;have A:=zit j z B h C;have D:=zit j z (lev:=lev+1) J E J;simp only[Fr.noW,Hy,Jf,I4];exact⟨J,D,A⟩
def odd_inv(j:g%2=1)(m:Nat):2^m*((g+1)/2)^m%g=1%g:=by
 rw[←Nat.mul_pow,(J:2*((g+1)/2)=g+1),Nat.pow_mod,Nat.add_mod_left,←Nat.pow_mod,Nat.one_pow]
def zpg{x y:Nat}(hi:g*A%j=1%j):(x*g%j)*(y*g%j)*A%j=x*y*g%j:=by
 have z:((x*g%j)*(y*g%j))%j=(x*g*(y*g))%j:=(Jh _ _ _).symm;rw[Jh,z,←Jh,(Ei:x*g*(y*g)*A=x*y*g*(g*A)),Jh,hi,←Jh,Kw]
def sx{x:Nat}(hi:g*A%j=1%j):(x*g%j)*1*A%j=x%j:=by
 rw[Kw,Jh,Nat.mod_mod,←Jh,Kf,Jh,hi,←Jh,Kw]
def mont_in{a:Nat}(hi:g*A%j=1%j):a*(g*g%j)*A%j=a*g%j:=by
 have z:(a*(g*g%j))%j=(a*(g*g))%j:=by rw[Jh,Nat.mod_mod,←Jh]
 rw[Jh,z,←Jh,(Ei:a*(g*g)*A=a*g*(g*A)),Jh,hi,←Jh,Kw]
def zyj(x y:UInt64):(Ov 0 (x ^^^ y) false).2=decide (x≠y):=by
 have h:=zdi 0 (x ^^^ y) false;have z:=(Ov 0 (x ^^^ y) false).1.toNat_lt;by_cases e:x=y
 ·subst e;have j:x ^^^ x=0:=UInt64.xor_self;rw[j]at h z ⊢;generalize Ov 0 0 false=r at *;cases g:r.2
  ·simp
  ·rw[g]at h;simp at h;omega
 ·have j:(x ^^^ y).toNat≠0:=λq=>by
   have:x ^^^ y=0:=I3.1 q;exact e (UInt64.xor_eq_zero_iff.1 this)
  generalize Ov 0 (x ^^^ y) false=r at *;have A:(0:UInt64).toNat=0:=rfl;cases g:r.2
  ·rw[g,A]at h;simp only[Bool.toNat_false]at h;omega
  ·simp[e]
section ex
variable {sz : Nat → Nat} {s : Fs} {p : Pw}
def uq(m:Nat→Nat→UInt64)(p:Pw)(e g:Nat):pl m p.tab (e*p.k+g)=pl m (p.en e) g:=by
 unfold pl Pw.tab Pw.en;dsimp only;rw[Kg (p.wa+4*p.k+p.b.k+3)]
def zgm(g:PwS sz p){E:Nat}(hE:E+1<8){d a b:Pn}(hd:d.in_ sz)(H:a.in_ sz)(I:b.in_ sz)(kd:d.k=p.k)(ka:a.k=p.k)(kb:b.k=p.k)(P:DjE d p.n)(Q:Dj d p.t)(T:Dj p.t a)(U:Dj p.t b) :
  Tx sz (p.mont d a b E) s λj=>(∀B,¬(p.B+10≤B∧B≤p.B+20)→B≠E→B≠E+1→j.r B=s.r B) ∧
   (pl s.m p.n 0%2=1→vl (pl s.m a) p.k<vl (pl s.m p.n) p.k→Fm [d,p.t] s.m j.m∧∀z,18446744073709551616^p.k*z%vl (pl s.m p.n) p.k=1%vl (pl s.m p.n) p.k→vl (pl j.m d) p.k=vl (pl s.m a) p.k*vl (pl s.m b) p.k*z%vl (pl s.m p.n) p.k):=by
 obtain⟨k,K⟩:∃k,p.k=k+1:=⟨p.k-1,by have:=g.k;omega⟩;have hB:=g.B;have C:p.t.in_ sz:=Yk g rfl (by have:=zi2 p;simp only[Pw.t];omega);have tk:p.t.k=k+3:=Fi
 have V:Dj p.t p.n:=.inl g.nb.symm;have X:=g.nk;have e:p.mont d a b E=Xz d.p a.p b.p p.n.p p.t.p (k+1:Nat) ((p.B+10:Nat):Int) (E:Nat):=by unfold Pw.mont;rw[K];rfl
 rw[e];by_cases F:pl s.m p.n 0%2=1∧vl (pl s.m a) p.k<vl (pl s.m p.n) p.k
 ·rw[K]at F ⊢;refine (yz (k:=k) J hd H I g.n C J J J J J P Q T U V F.1 F.2).mono λj ⟨Y,Z,l1,gz,Q',v1⟩=>⟨λB G L M=>Y B J L M,λ_ _=>⟨λx y O=>Z x y (O d N) (O p.t N),λz hi=>?_⟩⟩
  exact og hi v1 l1
 ·have gg:=g.wk;have hz:p.t.k≤65536:=by have:=C.1;have:=C.2;omega
  have A:(Xz d.p a.p b.p p.n.p p.t.p (k+1:Nat) ((p.B+10:Nat):Int) (E:Nat)).AllH ⟨d.b+a.b+b.b+p.n.b+p.wb+1,(p.B:Int)+10,11,E,E+1,8,7,λ_=>True,λ_=>True⟩ E :=
   zra Gv ⟨Ay,trivial⟩ ⟨Ay,trivial⟩ ⟨Ay,trivial⟩ ⟨Ay,trivial⟩ ⟨by dsimp only[Pw.t];omega,trivial⟩ ⟨by dsimp only[Pw.t];omega,trivial⟩ J J Gv
  obtain⟨j,G,_⟩:=zfg _ (λ_=>none) s (gq (R:=p.B+10) (D:=E) (k:=k) J J hd H I g.n C J J J J J J) (λ_ _ _ h=>An) (λ_ _ h=>An);refine⟨j,G,λB L M h4=>zzc _ s j (zit ?_ ?_ J A ?_) G,λq1 q2=>absurd ⟨q1,q2⟩ F⟩
  ·unfold Rf;dsimp only;omega
  ·dsimp only;omega
  ·dsimp only;omega
def tq(P:PwS sz p){E e:Nat}(hE:E<8)(he:e<2^p.w)(D:(s.r 12).toNat=e*p.k) :
  Tx sz ((Oz (E:Nat) (p.k:Nat) (Nd [Nj (p.B+3) p.acc.p (E:Nat) 0,M8 3 13 12 (E:Nat),Nn p.tab.p 13 0 (p.B+3)])).cat (Nd [cK 13 (iU p.k),M8 3 12 12 13])) s λK =>
   (∀A,A≠p.B+3→A≠12→A≠13→A≠E→K.r A=s.r A)∧Nw (p.en e) s.m K.m∧(K.r 12).toNat=(e+1)*p.k∧∀C,C<p.k→pl K.m (p.en e) C=pl s.m p.acc C:=by
 have hB:=P.B;have gg:=zuo he;have F:p.acc.in_ sz:=Yk P rfl (by have:=zi2 p;simp only[Pw.acc];omega);have G:p.tab.in_ sz:=Yk P rfl Eu;have gz:p.acc.a+p.k≤sz p.acc.b:=F.1;have gA:p.tab.a+p.k*2^p.w≤sz p.tab.b:=G.1;have Q:=F.2;have T:=G.2;have dj:Dj (p.en e) p.acc:=.inr (.inr (by simp only[Pw.en,Pw.acc];omega));have e1:(Oz (E:Nat) (p.k:Nat) (Nd [Nj (p.B+3) p.acc.p (E:Nat) 0,M8 3 13 12 (E:Nat),Nn p.tab.p 13 0 (p.B+3)]))=Oz (E:Nat) (p.k:Nat) (Nd [Nj ((p.B+3:Nat):Int) p.acc.p (E:Nat) ((0:Nat):Int),M8 3 ((13:Nat):Int) ((12:Nat):Int) (E:Nat),Nn p.tab.p ((13:Nat):Int) ((0:Nat):Int) ((p.B+3:Nat):Int)]):=rfl;rw[e1];refine .cat (R:=λj=>(∀A,A≠p.B+3→A≠13→A≠E→j.r A=s.r A)∧Nw (p.en e) s.m j.m∧∀i,i<p.k→pl j.m (p.en e) i=pl s.m p.acc i) ?_ λj ⟨H,L,U⟩=>?_
 ·refine .lp (λC j=>(∀A,A≠p.B+3→A≠13→A≠E→j.r A=s.r A)∧Nw (p.en e) s.m j.m∧∀i,i<C→pl j.m (p.en e) i=pl s.m p.acc i) ⟨λ_ _ _ _=>rfl,λ_ _ _=>rfl,λ_ h=>absurd h J⟩ J (λC j hj ⟨H,L,U⟩=>?_) λ_ h=>h
  have B:(UInt64.ofNat C).toNat=C:=ft J;have V:¬E=p.B+3:=J
  have X:¬12=p.B+3:=J
  have Y:¬12=E:=J
  have n4:¬p.B+3=13:=J
  have n5:¬E=13:=J
  have g:j.r 12=s.r 12:=H 12 J J J;have z:(s.r 12+UInt64.ofNat C).toNat=e*p.k+C:=by
   rw[Jk,D,B,Iv J]
  have Z:pl j.m p.acc C=pl s.m p.acc C:=L.pl dj hj;refine .op (X0 (by simp only[Na,Jo,B];omega) Q) (.op zel (.op (pk (by simp only[Na,Jo,Hx V,Hx X,Hx Y,g,z];omega) T) (.nil ⟨λA M O I=>?_,?_,λi hi=>?_⟩)))
  ·rw[S6,Na,Hx O,Na,Hx M,Na,Hx I,H A M O I]
  ·refine L.trans λx y hn=>?_
   simp only[Na,Pb,Jo,Hx V,Hx X,Hx Y,g,z,Zo,Iy];rw[Hx];rintro⟨q1,q2⟩;exact hn ⟨by rw[q1];rfl,Gj,Gj⟩
  ·rw[←uq,Rn];simp only[Na,Pb,Jo,Hx V,Hx X,Hx Y,Hx n4,g,z,B,Iy];split
   ·rename_i q;have:i=C:=J
    rw[this];exact Z
   ·rw[uq];exact U i J
 ·have gC:iU (p.k:Int)=UInt64.ofNat p.k:=by
   apply I3.1;rw[V4 J,ft J]
  have e2:[cK 13 (iU p.k),M8 3 12 12 13]=[cK ((13:Nat):Int) (iU p.k),M8 3 ((12:Nat):Int) ((12:Nat):Int) ((13:Nat):Int)]:=rfl;rw[e2];refine .op V9 (.op zel (.nil ⟨λA M O I h4=>?_,L,?_,U⟩))
  ·rw[Na,Hx O,Na,Hx I,H A M I h4]
  ·have g:j.r 12=s.r 12:=H 12 J J J;simp only[Na,Jo,(J:¬(12:Nat)=13),Lp];rw[g,Jk,D,V4 J,Iu,Kb,Iv J]
def scan_ex(Z:PwS sz p){D:Nat}(hD:D+1<8)(hz:s.r p.B=0) :
  Tx sz (p.scan D) s λs'=>(∀j,¬(p.B+3≤j∧j≤p.B+6)→j≠12→j≠13→j≠D→j≠D+1→s'.r j=s.r j)∧Nw p.cur s.m s'.m ∧
   ((s.r (p.B+1)).toNat<2^p.w→∀E,E<p.k→pl s'.m p.cur E=pl s.m (p.en (s.r (p.B+1)).toNat) E):=by
 have hB:=Z.B;have gA:=ko Z.w.2;have Q:p.cur.in_ sz:=Yk Z rfl (by have:=zi2 p;simp only[Pw.cur];omega);have T:p.tab.in_ sz:=Yk Z rfl Eu;have gC:p.cur.a+p.k≤sz p.cur.b:=Q.1;have gD:p.tab.a+p.k*2^p.w≤sz p.tab.b:=T.1;have U:=Q.2;have gg:=T.2;have gE:=zi2 p;obtain⟨z,L⟩:∃z,(s.r (p.B+1)).toNat=z:=⟨_,rfl⟩;have e:p.scan D=(Nd [cK ((12:Nat):Int) 0]).cat (Oz (D:Nat) (2^p.w:Nat) ((Nd [M8 7 ((p.B+5:Nat):Int) ((p.B+1:Nat):Int) (D:Nat),Nv 12 ((p.B+4:Nat):Int) ((p.B+5:Nat):Int) (p.B:Nat) ((p.B+5:Nat):Int) (p.B:Nat)]).cat ((Oz ((D+1:Nat):Int) (p.k:Nat) (Nd [M8 3 ((13:Nat):Int) ((12:Nat):Int) ((D+1:Nat):Int),Nj ((p.B+3:Nat):Int) p.tab.p ((13:Nat):Int) ((0:Nat):Int),Nj ((p.B+6:Nat):Int) p.cur.p ((D+1:Nat):Int) ((0:Nat):Int),Oc ((p.B+3:Nat):Int) ((p.B+5:Nat):Int) ((p.B+6:Nat):Int) ((p.B+3:Nat):Int),Nn p.cur.p ((D+1:Nat):Int) ((0:Nat):Int) ((p.B+3:Nat):Int)])).cat (Nd [cK ((13:Nat):Int) (iU p.k),M8 3 ((12:Nat):Int) ((12:Nat):Int) ((13:Nat):Int)])))):=rfl;rw[e,L];refine .op V9 ?_;rw[ao];refine .lp (λf g=>(∀j,¬(p.B+3≤j∧j≤p.B+6)→j≠12→j≠13→j≠D→j≠D+1→g.r j=s.r j)∧Nw p.cur s.m g.m∧(g.r 12).toNat=f*p.k∧(z<f→∀E,E<p.k→pl g.m p.cur E=pl s.m (p.en z) E)) ⟨λj _ F _ _ _=>by rw[Na,Hx F],λ_ _ _=>rfl,by rw[Na,H7 rfl];simp,λh=>absurd h J⟩ J (λf g hf ⟨g1,o1,r1,v1⟩=>?_) λg ⟨a,b,_,d⟩=>⟨a,b,d⟩
 have gF:=zuo (p:=p) hf;have V:(UInt64.ofNat f).toNat=f:=ft J;have dj:Dj p.cur (p.en f):=.inr (.inl (by simp only[Pw.en,Pw.cur];omega));refine .op ae (.op zk5 ?_);rw[ao];have b0:¬p.B=p.B+5:=J
 have b1:¬p.B=D:=J
 have b2:¬p.B+1=D:=J
 have b3:¬p.B+5=p.B+4:=J
 have z1:g.r p.B=0:=by rw[g1 p.B J J J J J,hz]
 have d1:g.r (p.B+1)=s.r (p.B+1):=g1 _ J J J J J;obtain⟨H,B⟩:∃H,H=((((g.put D (UInt64.ofNat f)).put (p.B+5) ((g.put D (UInt64.ofNat f)).r (p.B+1) ^^^ (g.put D (UInt64.ofNat f)).r D)).put (p.B+4) (Ov (((g.put D (UInt64.ofNat f)).put (p.B+5) ((g.put D (UInt64.ofNat f)).r (p.B+1) ^^^ (g.put D (UInt64.ofNat f)).r D)).r p.B) (((g.put D (UInt64.ofNat f)).put (p.B+5) ((g.put D (UInt64.ofNat f)).r (p.B+1) ^^^ (g.put D (UInt64.ofNat f)).r D)).r (p.B+5)) (decide (((g.put D (UInt64.ofNat f)).put (p.B+5) ((g.put D (UInt64.ofNat f)).r (p.B+1) ^^^ (g.put D (UInt64.ofNat f)).r D)).r p.B%2=1))).1).put (p.B+5) (Oe (Ov (((g.put D (UInt64.ofNat f)).put (p.B+5) ((g.put D (UInt64.ofNat f)).r (p.B+1) ^^^ (g.put D (UInt64.ofNat f)).r D)).r p.B) (((g.put D (UInt64.ofNat f)).put (p.B+5) ((g.put D (UInt64.ofNat f)).r (p.B+1) ^^^ (g.put D (UInt64.ofNat f)).r D)).r (p.B+5)) (decide (((g.put D (UInt64.ofNat f)).put (p.B+5) ((g.put D (UInt64.ofNat f)).r (p.B+1) ^^^ (g.put D (UInt64.ofNat f)).r D)).r p.B%2=1))).2)):=⟨_,rfl⟩;rw[←B];have m2:H.m=g.m:=by rw[B];rfl
 have g2:∀j,j≠p.B+4→j≠p.B+5→j≠D→H.r j=g.r j:=λj P F I=>by rw[B];simp only[Na,Hx P,Hx F,Hx I]
 have u2:H.r (p.B+5)=Oe (decide (z≠f)):=by
  rw[B];simp only[Na,Jo,Hx b0,Hx b1,Hx b2,z1,d1];rw[(Ac:decide ((0:UInt64)%2=1)=false),zyj]
  congr 1
  refine decide_eq_decide.2 (not_congr ⟨λq=>?_,λq=>?_⟩)
  ·rw[←L,q,V]
  ·exact I3.1 (by rw[L,V,q])
 clear B;refine .cat (R:=λA=>(∀j,¬(p.B+3≤j∧j≤p.B+6)→j≠13→j≠D+1→A.r j=H.r j)∧Nw p.cur s.m A.m∧∀i,i<p.k→pl A.m p.cur i=if z=f then pl s.m (p.en z) i else pl g.m p.cur i) ?_ λA ⟨X,o3,v3⟩=>?_
 ·refine .lp (λE A=>(∀j,¬(p.B+3≤j∧j≤p.B+6)→j≠13→j≠D+1→A.r j=H.r j)∧A.r (p.B+5)=H.r (p.B+5)∧Nw p.cur s.m A.m∧∀i,i<p.k→pl A.m p.cur i=if z=f∧i<E then pl s.m (p.en z) i else pl g.m p.cur i) ⟨λ_ _ _ _=>rfl,rfl,λx y hn=>by rw[m2,o1 x y hn],λi _=>by rw[m2,Hx J]⟩ J (λE A Y ⟨X,u3,o3,v3⟩=>?_) λA ⟨a,_,b,d⟩=>⟨a,b,λi hi=>by rw[d i hi];by_cases q:z=f<;>simp[q,hi]⟩
  have C:(UInt64.ofNat E).toNat=E:=ft J;have n1:¬12=D+1:=J
  have n2:¬D+1=13:=J
  have n3:¬13=p.B+3:=J
  have n4:¬D+1=p.B+3:=J
  have n5:¬D+1=p.B+6:=J
  have n6:¬p.B+5=p.B+6:=J
  have n7:¬p.B+5=p.B+3:=J
  have n8:¬p.B+5=13:=J
  have n9:¬p.B+5=D+1:=J
  have gz:¬p.B+3=p.B+6:=J
  have G:A.r 12=g.r 12:=by rw[X 12 J J J,g2 12 J J J]
  have K:(g.r 12+UInt64.ofNat E).toNat=f*p.k+E:=by
   rw[Jk,r1,C,Iv J]
  refine .op zel (.op (X0 (by simp only[Na,Jo,Hx n1,G,K];omega) gg) (.op (X0 (by simp only[Na,Jo,Hx n2,Hx n4,C];omega) U) (.op zpe (.op (pk (by simp only[Na,Jo,Hx n2,Hx n4,Hx n5,C];omega) U) (.nil ⟨λj P F I=>?_,?_,?_,λi hi=>?_⟩)))))
  ·rw[S6,Na,Hx J,Na,Hx J,Na,Hx J,Na,Hx F,Na,Hx I,X j P F I]
  ·simp only[S6,Na,Hx n6,Hx n7,Hx n8,Hx n9];exact u3
  ·refine o3.trans (zt0 rfl ?_);simp only[Na,Jo,Hx n2,Hx n4,Hx n5,C,Pw.cur];omega
  ·rw[Rn];simp only[Na,Pb,Jo,Hx n1,Hx n2,Hx n4,Hx n5,Hx n6,Hx n7,Hx n8,Hx n9,Hx gz,G,K,C,Iy,u3,u2];by_cases q:i=E
   ·rw[H7 q,q];have hb:=ry (decide (z≠f));by_cases M:z=f
    ·have O:¬Oe (decide (z≠f))%2=1:=by simp[M,Oe]
     rw[Hx O,H7 ⟨M,J⟩,uq,o3.pl dj Y,M]
    ·have O:Oe (decide (z≠f))%2=1:=by simp[M,Oe]
     rw[H7 O,Hx J,v3 E Y,Hx J]
   ·rw[Hx q,v3 i hi];by_cases M:z=f∧i<E
    ·rw[H7 M,H7 J]
    ·rw[Hx M,Hx J]
 ·refine .op V9 (.op zel (.nil ⟨λj P F I h4 h5=>?_,o3,?_,λgG E Y=>?_⟩))
  ·rw[Na,Hx F,Na,Hx I,X j P I h5,g2 j J J h4,g1 j P F I h4 h5]
  ·have G:A.r 12=g.r 12:=by rw[X 12 J J J,g2 12 J J J]
   simp only[Na,Jo,(J:¬(12:Nat)=13),Lp];rw[G,Jk,r1,V4 J,Iu,Kb,Iv J]
  ·rw[Pb,Pb,v3 E Y];split
   ·rfl
   ·exact v1 J E Y
end ex
end
end Go.Sv
