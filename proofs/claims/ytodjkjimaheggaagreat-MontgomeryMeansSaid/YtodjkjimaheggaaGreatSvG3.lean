/- Texts of the evaluator, of the logic over it, of plain arithmetic. -/
import Derived.Test.YtodjkjimaheggaaGreatSvG2
set_option linter.unusedSimpArgs false
set_option linter.defProp false
namespace Go.Sv
variable{g j A D Q vU vK u9:Nat}{z B:Int}{P:Bool}{U vF:UInt64}{vP:Type}{vL:List Int}{vz:List Nat}
def zv7{j:Type}{f:j→List LV}{k:Nat}(g:∀a,(f a).length=k):∀l:List j,(l.flatMap f).length=l.length*k
 |[]=>N
 |a::l=>by rw[Kw,Ia,zv7 g l,g,Ih,Ix];omega
def zzp{j:Type}{f:j→List LV}{k:Nat}(g:∀a,(f a).length=k):∀(l:List j) (i:Nat),(l.flatMap f).drop (i*k)=(l.drop i).flatMap f
 |_,0=>N
 |[],i+1=>N
 |a::l,i+1=>by
  rw[Kw,List.drop_append,g,show (i+1)*k-k=i*k by rw[Ix];omega,zzp g l i];rw[J0 (by rw[g,Ix];omega)];rfl
def zbf{f:vP→List LV}{k:Nat}(g:∀a,(f a).length=k){l:List vP}{i:Nat}{a:vP}(h:l[i]?=some a):((l.flatMap f).drop (i*k)).take k=f a:=by
 rw[zzp g];obtain⟨hi,rfl⟩:=Hv.1 h;rw[Js hi,Kw,Ml Be,Il Be]
def zuc{f:vP→List LV}{k:Nat}(g:∀a,(f a).length=k){l:List vP}{i:Nat}{a:vP}(h:l[i]?=some a){j:Nat}(z:j<k):(l.flatMap f)[i*k+j]?=(f a)[j]?:=by
 rw[←M3,←zbf g h,Ju z]
def zw{j:Type}{f:j→List LV}(g:∀a,dats (f a)=true):∀l:List j,dats (l.flatMap f)=true
 |[]=>rfl
 |a::l=>by rw[Kw];exact dats_app (g a) (zw g l)
def zu0{f:vP→List LV}{k:Nat}(g:∀a,(f a).length=k){l:List vP}{i:Nat}(h:i<l.length):i*k+k≤(l.flatMap f).length:=by
 rw[zv7 g,←L9];exact Ij _ h
structure Vr where
 limbs:Int
 sec:Bool
 mode:Int
structure Ko where
 kind:Int
 d:Int
 e:Int
 a:Int
 b:Int
 c:Int
 imm:UInt64
def Vr.f(v:Vr):List LV:=[.i v.limbs,.bool v.sec,.i v.mode]
def Ko.f(o:Ko):List LV:=[.i o.kind,.i o.d,.i o.e,.i o.a,.i o.b,.i o.c,.u o.imm]
def Ob(l:List Vr):List LV:=l.flatMap Vr.f
def Un(l:List Ko):List LV:=l.flatMap Ko.f
def Vr.f_len(v:Vr):v.f.length=3:=rfl
def Ko.f_len(o:Ko):o.f.length=7:=rfl
def osC_len(l:List Ko):(Un l).length=l.length*7:=zv7 Ko.f_len l
def Ro(l:List Vr):dats (Ob l)=true:=zw (λ_=>rfl) l
def zcj(l:List Ko):dats (Un l)=true:=zw (λ_=>rfl) l
def zcb{l:List Vr}{i:Nat}{v:Vr}(h:l[i]?=some v):((Ob l).drop (i*3)).take 3=v.f:=zbf Vr.f_len h
def zuy{l:List Ko}{i:Nat}{v:Ko}(h:l[i]?=some v):((Un l).drop (i*7)).take 7=v.f:=zbf Ko.f_len h
def vd{l:List Vr}{i:Nat}{v:Vr}(h:l[i]?=some v):(Ob l)[i*3]?=some (.i v.limbs):=by have:=zuc Vr.f_len h (j:=0) J;simpa [Ob,Vr.f] using this
def zl3{l:List Vr}{i:Nat}{v:Vr}(h:l[i]?=some v):(Ob l)[i*3+1]?=some (.bool v.sec):=by have:=zuc Vr.f_len h (j:=1) J;simpa [Ob,Vr.f] using this
def ud{l:List Vr}{i:Nat}{v:Vr}(h:l[i]?=some v):(Ob l)[i*3+2]?=some (.i v.mode):=by have:=zuc Vr.f_len h (j:=2) J;simpa [Ob,Vr.f] using this
def ju{l:List Vr}{i:Nat}(h:i<l.length):i*3+3≤(Ob l).length:=zu0 Vr.f_len h
def os_lt{l:List Ko}{i:Nat}(h:i<l.length):i*7+7≤(Un l).length:=zu0 Ko.f_len h
def gv(l:List Vr)(n:Nat):Vr:=l.getD n ⟨0,false,0⟩
def go(l:List Ko)(n:Nat):Ko:=l.getD n ⟨0,0,0,0,0,0,0⟩
def gb(l:List Bool)(n:Nat):Bool:=l.getD n false
def T2{l:List Vr}{n:Nat}(h:n<l.length):l[n]?=some (gv l n):=by simp[gv,Hw,h]
def W9{l:List Ko}{n:Nat}(h:n<l.length):l[n]?=some (go l n):=by simp[go,Hw,h]
def at_gb{l:List Bool}{n:Nat}(h:n<l.length):l[n]?=some (gb l n):=by simp[gb,Hw,h]
def zom{l:List Vr}{n:Nat}(h:n<l.length):l.drop n=gv l n::l.drop (n+1):=by
 rw[Js h];congr 1;have:=T2 h;rw[H7 h]at this;exact Option.some.inj this
def drop_go{l:List Ko}{n:Nat}(h:n<l.length):l.drop n=go l n::l.drop (n+1):=by
 rw[Js h];congr 1;have:=W9 h;rw[H7 h]at this;exact Option.some.inj this
def Sc(v:Vr):Bool:=decide (v.mode=1) || decide (v.mode=2)
def Vl(v:Vr):Bool:=decide (v.limbs<1) || (decide (512<v.limbs) || (decide (v.mode<0) || decide (3<v.mode)))
def Rz:Nat→Nat→List Vr→Option Nat
 |_,p,[]=>some p
 |i,p,v::l=>if Vl v=true then none else if v.mode=0 then Rz (i+1) p l else if p<i∨v.sec=decide (v.mode=1) then none else Rz (i+1) (p+1) l
def Qx(l:List Vr):Bool:=match Rz 0 0 l with
 |none=>false
 |some p=>decide (1≤l.length)&&(decide (l.length≤256)&&decide (p≤12))
def Rp(n:Nat)(v:Int):Bool:=decide (0≤v)&&decide (v<n)
def Si(n:Nat)(o:Ko):Bool :=
 decide (o.d=-1)&&(decide (o.e=-1)&&(decide (o.c=-1)&&(Rp n o.a&&(if o.imm=2 then Rp n o.b else (decide (o.imm=1) || decide (o.imm=3))&&decide (o.b=-1)))))
def P1(k:Int):Option Nat :=
 if k=1 then some 1 else if k=2 then some 5 else if k=3∨k=4∨k=5∨k=6∨k=7 then some 13 else if k=8∨k=10∨k=11∨k=12∨k=13 then some 29 else if k=9 then some 21 else if k=14 then some 19 else if k=15∨k=16 then some 0 else none
def Rv(o:Ko):Bool:=if o.kind=1 then true else if o.kind=13 then decide (1≤o.imm)&&decide (o.imm≤6) else if o.kind=15 then decide (1≤o.imm)&&decide (o.imm≤4096) else decide (o.imm=0)
def Rn(n s i:Nat)(v:Int):Bool:=if s.testBit i=true then Rp n v else decide (v=-1)
def Tw(n s:Nat)(o:Ko):Bool:=Rn n s 0 o.d&&(Rn n s 1 o.e&&(Rn n s 2 o.a&&(Rn n s 3 o.b&&Rn n s 4 o.c)))
def T6(o:Ko):List Int:=[o.a,o.b,o.c].filter (λv=>!decide (v<0))++if o.kind=14 then [o.d,o.e] else []
def O5(g:List Vr)(o:Ko):Bool:=(T6 o).any λv=>(gv g v.toNat).sec
def Sj(j:List Vr)(g:Bool)(v:Int):Bool:=decide (v<0) || !(Sc (gv j v.toNat) || (g && !(gv j v.toNat).sec))
def Qm(o:Ko):List Int :=
 if o.kind=6 then [o.a,o.b] else if o.kind=14 then [o.d,o.e] else if o.kind=8 then [o.d,o.a,o.b] else if o.kind=9 then [o.d,o.c] else if o.kind=10∨o.kind=11∨o.kind=12 then [o.d,o.a,o.b,o.c] else if o.kind=13 then [o.d,o.a,o.c] else []
def Pl(vs:List Vr)(v:Int):Int:=(gv vs v.toNat).limbs
def sm(g:List Vr)(o:Ko):Bool:=(Qm o).all λv=>decide (Pl g v=Pl g ((Qm o).headD 0))
def Oc(g:List Vr)(o:Ko):Bool :=
 if o.kind=17 then Si g.length o else match P1 o.kind with
 |none=>false
 |some s=>Rv o&&(Tw g.length s o&&(Sj g (O5 g o) o.d&&(Sj g (O5 g o) o.e&&((decide (o.e<0) || !decide (o.d=o.e))&&sm g o))))
def dl(k:Int):Int:=if k=15 then 1 else if k=16 then -1 else 0
def X7(m:List Bool)(o:Ko):List Bool:=if 0≤o.d then m.set o.d.toNat true else m
def zgn(m:List Bool)(o:Ko):Bool:=(T6 o).all λv=>gb m v.toNat
def U4(j:List Vr):List Bool→Int→List Ko→Option (List Bool×Int)
 |m,g,[]=>some (m,g)
 |m,g,o::l=>if (Oc j o&&(zgn m o&&(decide (0≤g+dl o.kind)&&decide (g+dl o.kind≤4))))=true then U4 j (X7 m o) (g+dl o.kind) l else none
def U3(g:List Vr)(v:Int):Bool:=decide (0≤v)&&decide ((gv g v.toNat).mode=3)
def Ti(g:List Vr)(o:Ko):Bool:=decide (o.kind=17)&&(Si g.length o&&(!U3 g o.a && !U3 g o.b))
def ux(g:List Vr)(m:List Bool):Bool:=(List.range g.length).all λi=>!decide ((gv g i).mode=3) || gb m i
def ik(g:List Vr):List Bool:=g.map Sc
def S7(g:List Vr)(j z:List Ko):Bool :=
 Qx g&&(decide (j.length≤4096)&&(decide (z.length≤4096)&&(z.all (Ti g)&&(match U4 g (ik g) 0 j with
  |none=>false
  |some (m,A)=>ux g m&&decide (A=0)))))
def Ut(g:List Vr)(j z:List Ko):Int:=if S7 g j z=true then 0 else 2
def zoy{p:Int→Bool}{l:List Int}{j:Nat}(h:j<l.length):(l.take (j+1)).filter (λv=>!p v)=(l.take j).filter (λv=>!p v)++if p (gd l j)=true then [] else [gd l j]:=by
 have e:l[j]=gd l j:=by simp[gd,Hw,h]
 rw[Jg h,List.filter_append,e]
 congr 1
 cases g:p (gd l j)<;>simp[g]
def fg(p:Int→Bool)(l:List Int):(kf p l=-1∧l.filter (λv=>!p v)=l)∨∃i:Nat,kf p l=i∧i<l.length∧(l.take (i+1)).filter (λv=>!p v)=l.take i:=by
 unfold kf;by_cases h:l.findIdx p<l.length
 ·rw[H6 h];refine .inr ⟨_,rfl,h,?_⟩;have j:p l[l.findIdx p]=true:=List.findIdx_getElem;have e:l[l.findIdx p]=gd l (l.findIdx p):=by simp[gd,Hw,h]
  rw[zoy h,←e,H6 j,Jm,List.filter_eq_self];intro a g;obtain⟨B,z,rfl⟩:=J6.1 g;rw[List.getElem_take];rw[J4]at z;have:=List.not_of_lt_findIdx (p:=p) (xs:=l) (i:=B) J;simpa using this
 ·rw[Hx h];refine .inl ⟨rfl,?_⟩;rw[List.filter_eq_self];intro a g;have A:=List.findIdx_eq_length.1 (Du:l.findIdx p=l.length);simp[A a g]
def zts{c:List Int}{i j:Nat}{x:Int}(h:i<c.length)(g:i<j)(u:Nat)(hu:j≤u):gd (c.set i x) u=gd c u:=by
 rw[gd_set _ _ _ _ h,Hx J]
def znt{c:List Int}{i:Nat}{x:Int}(h:i<c.length):(c.set i x).take (i+1)=c.take i++[x]:=by
 rw[Jg Ax,List.getElem_set_self,List.take_set_of_le (H9 _)]
def jk{n:Nat}{v:Int}:Rp n v=true↔0≤v∧v<n:=by simp[Rp]
def zbr{n s i:Nat}{v:Int}(h:Rn n s i v=true):v=-1∨(0≤v∧v<n):=by
 unfold Rn at h;split at h
 ·exact .inr (jk.1 h)
 ·exact .inl (Kl h)
def T3{n s i:Nat}{v:Int}(h:Rn n s i v=true)(g:s.testBit i=true):0≤v∧v<n:=by
 rw[Rn,H6 g]at h;exact jk.1 h
def zjv{n s i:Nat}{v:Int}(h:Rn n s i v=true)(g:s.testBit i=false):v=-1:=by
 rw[Rn,Hx Av]at h;exact Kl h
def ze9{k:Int}{s:Nat}(h:P1 k=some s):(k=1∧s=1)∨(k=2∧s=5)∨((k=3∨k=4∨k=5∨k=6∨k=7)∧s=13)∨((k=8∨k=10∨k=11∨k=12∨k=13)∧s=29)∨(k=9∧s=21)∨(k=14∧s=19)∨((k=15∨k=16)∧s=0):=by
 unfold P1 at h
 repeat' split at h
 all_goals first|(cases h;done)|(cases h;simp_all)
structure PartsIn (n:Nat) (o:Ko):Prop where
 d:o.d=-1∨(0≤o.d∧o.d<n)
 e:o.e=-1∨(0≤o.e∧o.e<n)
 takes:∀v∈T6 o,0≤v∧v<n
 alike:∀v∈Qm o,0≤v∧v<n
 swap:o.kind=14→o.a=-1∧o.b=-1
def zob{n s:Nat}{o:Ko}(E:P1 o.kind=some s)(h:Tw n s o=true):PartsIn n o:=by
 simp only[Tw,Hz]at h;obtain⟨hd,he,A,B,C⟩:=h;have z:∀v∈[o.a,o.b,o.c].filter (λv=>!decide (v<0)),0≤v∧v<n:=by
  intro v hv;obtain⟨j,F⟩:=List.mem_filter.1 hv;simp at F;simp only[Ig,Ka,L7]at j;rcases j with rfl|rfl|rfl
  ·rcases zbr A with e|e<;>omega
  ·rcases zbr B with e|e<;>omega
  ·rcases zbr C with e|e<;>omega
 have G:=ze9 E;refine⟨zbr hd,zbr he,λv hv=>?_,λv hv=>?_,λD=>?_⟩
 ·rcases Is.1 hv with j|j
  ·exact z v j
  ·split at j
   ·rename_i D;have g:s=19:=J
    subst g;simp only[Ig,Ka,L7]at j;rcases j with rfl|rfl
    ·exact T3 hd Ad
    ·exact T3 he Ad
   ·cases j
 ·unfold Qm at hv;split at hv
  ·have g:s=13:=J
   subst g;simp only[Ig,Ka,L7]at hv;rcases hv with rfl|rfl
   ·exact T3 A Ad
   ·exact T3 B Ad
  split at hv
  ·have g:s=19:=J
   subst g;simp only[Ig,Ka,L7]at hv;rcases hv with rfl|rfl
   ·exact T3 hd Ad
   ·exact T3 he Ad
  split at hv
  ·have g:s=29:=J
   subst g;simp only[Ig,Ka,L7]at hv;rcases hv with rfl|rfl|rfl
   ·exact T3 hd Ad
   ·exact T3 A Ad
   ·exact T3 B Ad
  split at hv
  ·have g:s=21:=J
   subst g;simp only[Ig,Ka,L7]at hv;rcases hv with rfl|rfl
   ·exact T3 hd Ad
   ·exact T3 C Ad
  split at hv
  ·have g:s=29:=J
   subst g;simp only[Ig,Ka,L7]at hv;rcases hv with rfl|rfl|rfl|rfl
   ·exact T3 hd Ad
   ·exact T3 A Ad
   ·exact T3 B Ad
   ·exact T3 C Ad
  split at hv
  ·have g:s=29:=J
   subst g;simp only[Ig,Ka,L7]at hv;rcases hv with rfl|rfl|rfl
   ·exact T3 hd Ad
   ·exact T3 A Ad
   ·exact T3 C Ad
  ·cases hv
 ·have g:s=19:=J
  subst g;exact⟨zjv A Ad,zjv B Ad⟩
def br{n:Nat}{o:Ko}(C:o.kind=17)(h:Si n o=true):PartsIn n o:=by
 simp only[Si,Hz,Ie]at h;obtain⟨hd,he,D,j,g⟩:=h;have j:=jk.1 j;have g:o.b=-1∨(0≤o.b∧o.b<n):=by
  split at g
  ·exact .inr (jk.1 g)
  ·simp only[Hz,Ie]at g;exact .inl g.2
 refine⟨.inl hd,.inl he,λv hv=>?_,λv hv=>?_,λA=>J⟩
 ·unfold T6 at hv;rw[Hx J,Jm]at hv;obtain⟨z,B⟩:=List.mem_filter.1 hv;simp at B;simp only[Ig,Ka,L7]at z;rcases z with rfl|rfl|rfl
  ·omega
  ·rcases g with e|e<;>omega
  ·omega
 ·unfold Qm at hv;rw[Hx J,Hx J,Hx J,Hx J,Hx J,Hx J]at hv;cases hv
def kx{g:List Vr}{o:Ko}(h:Oc g o=true):PartsIn g.length o:=by
 unfold Oc at h;split at h
 ·rename_i j;exact br j h
 ·split at h
  ·cases h
  ·rename_i s z;simp only[Hz]at h;exact zob z h.2.1
def Qw(o:Ko):List Int:=[o.d,o.e,o.a,o.b,o.c]
def zls{n s:Nat}{o:Ko}(h:∀g<5,Rn n s g (gd (Qw o) g)=true):Tw n s o=true:=by
 simp only[Tw,Hz];exact⟨h 0 J,h 1 J,h 2 J,h 3 J,h 4 J⟩
def zq5{n s:Nat}{o:Ko}(z:g<5)(h:Rn n s g (gd (Qw o) g)=false):Tw n s o=false:=by
 cases j:Tw n s o with
 |false=>rfl
 |true =>
  simp only[Tw,Hz]at j;have:g=0∨g=1∨g=2∨g=3∨g=4:=J
  rcases this with rfl|rfl|rfl|rfl|rfl
  ·exact absurd j.1 (by rw[show o.d=gd (Qw o) 0 from rfl,h];simp)
  ·exact absurd j.2.1 (by rw[show o.e=gd (Qw o) 1 from rfl,h];simp)
  ·exact absurd j.2.2.1 (by rw[show o.a=gd (Qw o) 2 from rfl,h];simp)
  ·exact absurd j.2.2.2.1 (by rw[show o.b=gd (Qw o) 3 from rfl,h];simp)
  ·exact absurd j.2.2.2.2 (by rw[show o.c=gd (Qw o) 4 from rfl,h];simp)
def zsd{k:Int}{s:Nat}(h:P1 k=some s):s<32:=by rcases ze9 h with h|h|h|h|h|h|h<;>omega
def zwh(s i:Nat):((s:Int)/2^i%2=1)↔s.testBit i=true:=by
 rw[L8,Ie];constructor
 ·intro h;have:((s/2^i%2:Nat):Int)=1:=by push_cast;exact h
  omega
 ·intro h;have:((s/2^i%2:Nat):Int)=1:=J
  push_cast at this;exact this
variable{vQ:List Vr}
section
inductive Fr (α:Type) where
 |nil
 |op (o:α) (r:Fr α)
 |loop (o:α) (b:Fr α) (e:α) (r:Fr α)
section tree
variable {α : Type}
def Fr.flat:Fr α→List α
 |.nil=>[]
 |.op o r=>o::r.flat
 |.loop o b e r=>o::(b.flat++e::r.flat)
def Fr.size:Fr α→Nat
 |.nil=>0
 |.op _ r=>r.size+1
 |.loop _ b _ r=>b.size+r.size+2
def Fr.flat_len:∀f:Fr α,f.flat.length=f.size
 |.nil=>rfl
 |.op _ r=>by simp[flat,size,flat_len r]
 |.loop _ b _ r=>by simp[flat,size,flat_len b,flat_len r];omega
def Fr.wf(kd:α→Nat):Fr α→Prop
 |.nil=>True
 |.op o r=>kd o=0∧r.wf kd
 |.loop o b e r=>kd o=1∧kd e=2∧b.wf kd∧r.wf kd
def Vs(g:α→Nat):Nat→List α→Prop
 |d,[]=>d=0
 |d,o::l=>if g o=1 then Vs g (d+1) l else if g o=2 then 0<d∧Vs g (d-1) l else g o=0∧Vs g d l
def Fr.ends:Nat→Fr α→List Int
 |_,.nil=>[]
 |i,.op _ r=>-1::r.ends (i+1)
 |i,.loop _ b _ r=>((i+b.size+1:Nat):Int)::(b.ends (i+1)++(i:Int)::r.ends (i+b.size+2))
def Fr.ends_len:∀(f:Fr α) (i:Nat),(f.ends i).length=f.size
 |.nil,_=>rfl
 |.op _ r,i=>by simp[ends,size,ends_len r]
 |.loop _ b _ r,i=>by simp[ends,size,ends_len b,ends_len r];omega
end tree
def kdK(o:Ko):Nat:=if o.kind=15 then 1 else if o.kind=16 then 2 else 0
end
abbrev Sp:=Int×Int
def Fr.tops{α:Type}:Nat→Fr α→List Sp
 |_,.nil=>[]
 |i,.op _ r=>r.tops (i+1)
 |i,.loop _ b _ r=>((i:Int),((i+b.size+1:Nat):Int))::r.tops (i+b.size+2)
def gs(l:List Sp)(n:Nat):Sp:=l.getD n (0,0)
structure Left (os:List Ko) (es:List Int) (T0:List Sp) (i:Nat) (r:Fr Ko) (T:List Sp):Prop where
 os:os.drop i=r.flat
 es:es.drop i=r.ends i
 wf:r.wf kdK
 tops:T0=T++r.tops i
def Z0(k d:Int):Ko:=⟨k,d,-1,-1,-1,-1,0⟩
def Vi:Nat→List Vr→List Ko
 |_,[]=>[]
 |i,v::l=>if Sc v=true then Vi (i+1) l else Z0 1 i::Vi (i+1) l
def startOs_len:∀(l:List Vr) (i:Nat),(Vi i l).length≤l.length
 |[],_=>by simp[Vi]
 |v::l,i=>by
  have:=startOs_len l (i+1);unfold Vi;split<;>simp<;>omega
def zor(k:Int):Bool:=decide (k=15) || decide (k=16)
def Sw(g:List Vr)(o:Ko):Bool:=!zor o.kind&&S7 g (Vi 0 g++[o]) []
def ao(A:List Vr):∀(B g:List Ko) (m j:List Bool) (d z:Int),U4 A m d B=some (j,z)→U4 A m d (B++g)=U4 A j z g
 |[],g,m,j,d,z,h=>B1
 |o::B,g,m,j,d,z,h=>by
  unfold U4 at h;split at h
  ·rename_i C;rw[I7,U4,H6 C];exact ao A B g _ j _ z h
  ·cases h
def gr{i:Nat}(h:i<vQ.length)(g:Sc (gv vQ i)=false):Oc vQ (Z0 1 i)=true:=by
 have e:Rp vQ.length (i:Int)=true:=jk.2 ⟨J,J⟩;have j:Nat.testBit 1 1=false:=Ad
 have z:Nat.testBit 1 2=false:=Ad
 have A:Nat.testBit 1 3=false:=Ad
 have B:Nat.testBit 1 4=false:=Ad
 simp[Oc,Z0,P1,Rv,Tw,Rn,e,Sj,g,O5,T6,sm,Qm,j,z,A,B]
def Yr(m:List Bool)(i g:Nat)(hi:i<m.length):gb (m.set i true) g=if g=i then true else gb m g:=by
 unfold gb;rw[Hw,Hw,Mb];by_cases h:i=g
 ·subst h;simp[hi]
 ·rw[Hx h,Hx (λq=>h q.symm)]
def zen{g:List Vr}:∀(l:List Vr) (i:Nat) (m:List Bool),g.drop i=l→m.length=g.length→(∀j,j<i→gb m j=true)→(∀j,i≤j→j<g.length→gb m j=Sc (gv g j)) →
  ∃A,U4 g m 0 (Vi i l)=some (A,0)∧A.length=g.length∧∀j,j<g.length→gb A j=true
 |[],i,m,hd,C,D,E=>by
  have:g.length≤i:=Ev
  exact⟨m,rfl,C,λj F=>D j J⟩
 |v::l,i,m,hd,C,D,E=>by
  have hi:i<g.length:=Ev
  have I:=zom hi;rw[hd]at I;obtain⟨rfl,rfl⟩:=List.cons.inj I;unfold Vi;by_cases G:Sc (gv g i)=true
  ·rw[H6 G];refine zen _ (i+1) m rfl C (λj F=>?_) (λj F z=>E j J z);by_cases e:j=i
   ·subst e;rw[E j (H9 _) hi,G]
   ·exact D j J
  ·rw[Hx G];have H:Sc (gv g i)=false:=Bs
   have B:=gr hi H;have K:zgn m (Z0 1 i)=true:=by simp[zgn,T6,Z0]
   obtain⟨A,L,M⟩:=zen (g.drop (i+1)) (i+1) (m.set i true) rfl Cp (λj F=>by
    rw[Yr _ _ _ J];split
    ·rfl
    ·exact D j J) (λj F z=>by rw[Yr _ _ _ J,Hx J];exact E j J z)
   refine⟨A,?_,M⟩;rw[U4,H6 (by rw[B,K];simp[dl,Z0])];have O:X7 m (Z0 1 i)=m.set i true:=by simp[X7,Z0]
   rw[O];simpa [dl,Z0] using L
def zf2(h:Qx vQ=true):1≤vQ.length∧vQ.length≤256:=by
 unfold Qx at h;split at h
 ·cases h
 ·simp only[Hz,Ie]at h;omega
def vgo_limbs:∀(l:List Vr) (i p r:Nat),Rz i p l=some r→∀v∈l,1≤v.limbs∧v.limbs≤512∧0≤v.mode∧v.mode≤3
 |[],_,_,_,_,v,hv=>by cases hv
 |w::l,i,p,r,h,v,hv=>by
  unfold Rz at h;split at h
  ·cases h
  ·rename_i z;have hw:1≤w.limbs∧w.limbs≤512∧0≤w.mode∧w.mode≤3:=by
    simp[Vl]at z;omega
   have g:∀j,Rz (i+1) j l=some r→1≤v.limbs∧v.limbs≤512∧0≤v.mode∧v.mode≤3:=λj A=>by
    rcases Ig.1 hv with rfl|hv
    ·exact hw
    ·exact vgo_limbs l _ _ r A v hv
   split at h
   ·exact g _ h
   ·split at h
    ·cases h
    ·exact g _ h
def zk0{vs:List Vr}(h:Qx vs=true):∀v∈vs,1≤v.limbs∧v.limbs≤512∧0≤v.mode∧v.mode≤3:=by
 unfold Qx at h;split at h
 ·cases h
 ·rename_i p g;exact vgo_limbs vs 0 0 p g
def zve{vs:List Vr}{i:Nat}(h:i<vs.length):gv vs i∈vs:=Io (T2 h)
def sb{vs:List Vr}(h:Qx vs=true){v:Int}(g:0≤v)(j:v<vs.length):1≤Pl vs v∧Pl vs v≤512:=by
 have:=zk0 h _ (zve (vs:=vs) (i:=v.toNat) J);exact⟨this.1,this.2.1⟩
def zvk(g:List Vr)(o:Ko):Sw g o=(!zor o.kind&&(Qx g&&Oc g o)):=by
 unfold Sw;cases z:zor o.kind with
 |true=>rfl
 |false =>
  simp only[Bool.not_false,Ly];unfold S7;cases hv:Qx g with
  |false=>rfl
  |true =>
   have H:=zf2 hv;have D:=startOs_len g 0;obtain⟨m,E,I,A⟩:=zen g 0 (ik g) rfl (by simp[ik]) (λK C=>J) (λK _ C=>by
    unfold gb ik;rw[Hw,Jz,T2 C];rfl)
   rw[ao g _ _ _ _ _ _ E];have F:decide ((Vi 0 g++[o]).length≤4096)=true:=Jj Ab;rw[F];simp only[Ly,Iv,List.all_nil,show decide (0≤4096)=true from rfl];have B:dl o.kind=0:=by simp[zor]at z;simp[dl,z.1,z.2]
   cases ho:Oc g o with
   |false=>simp[U4,ho]
   |true =>
    have j:=kx ho;have G:zgn m o=true:=by
     unfold zgn;rw[Jy];intro v hv;have:=j.takes v hv;exact A _ J
    have hm:ux g (X7 m o)=true:=by
     unfold ux;rw[Jy];intro i hi;have hi:=Kh.1 hi;have:gb (X7 m o) i=true:=by
      unfold X7;split
      ·have:=j.d;rw[Yr _ _ _ J];split
       ·rfl
       ·exact A i hi
      ·exact A i hi
     simp[this]
    simp[U4,ho,G,B,hm]
def Nt(vs:List Vr)(o:Ko):Int:=if (decide (o.kind=12)&&Sw vs o)=true then Pl vs o.c+2 else 0
def R8(g:List Vr)(o:Ko):Int:=if (decide (o.kind=13)&&Sw g o)=true then (3+2^o.imm.toNat)*Pl g o.c+Pl g o.b+1+(Pl g o.c+2) else 0
def zp1{o:Ko}{s:Nat}(h:Oc vQ o=true)(g:P1 o.kind=some s):Tw vQ.length s o=true∧Rv o=true∧sm vQ o=true:=by
 unfold Oc at h;split at h
 ·rename_i j;rw[j]at g;simp[P1]at g
 ·rw[g]at h;simp only[Hz]at h;exact⟨h.2.1,h.1,h.2.2.2.2.2⟩
def zr1{o:Ko}{s:Nat}(h:Sw vQ o=true)(g:P1 o.kind=some s):Qx vQ=true∧Tw vQ.length s o=true∧Rv o=true∧sm vQ o=true:=by
 rw[zvk]at h;simp only[Hz]at h;exact⟨h.2.1,zp1 h.2.2 g⟩
def ztu{n s:Nat}{o:Ko}(h:Tw n s o=true)(g:s.testBit 2=true):0≤o.a∧o.a<n:=by
 simp only[Tw,Hz]at h;exact T3 h.2.2.1 g
def zsw{n s:Nat}{o:Ko}(h:Tw n s o=true)(g:s.testBit 3=true):0≤o.b∧o.b<n:=by
 simp only[Tw,Hz]at h;exact T3 h.2.2.2.1 g
def zoq{n s:Nat}{o:Ko}(h:Tw n s o=true)(g:s.testBit 4=true):0≤o.c∧o.c<n:=by
 simp only[Tw,Hz]at h;exact T3 h.2.2.2.2 g
def zt2{n s:Nat}{o:Ko}(h:Tw n s o=true)(g:s.testBit 0=true):0≤o.d∧o.d<n:=by
 simp only[Tw,Hz]at h;exact T3 h.1 g
def zs9(hv:Qx vQ=true){v:Int}(h:0≤v∧v<vQ.length):∃k:Nat,v=k∧k<vQ.length∧(Ob vQ)[k*3]?=some (.i (Pl vQ v))∧1≤Pl vQ v∧Pl vQ v≤512:=by
 obtain⟨k,rfl⟩:=H0 h.1;have g:k<vQ.length:=J
 have:=sb hv h.1 h.2;exact⟨k,rfl,g,vd (T2 g),this⟩
abbrev TVr:={ n:Int // U0 n }×Bool×{ n:Int // U0 n }×Unit
def vrT(e:TVr):Vr:=⟨e.1.1,e.2.1,e.2.2.1.1⟩
def flat_vr:∀l:List TVr,l.flatMap (λx=>[LV.i x.1.1,LV.bool x.2.1,LV.i x.2.2.1.1])=Ob (l.map vrT)
 |[]=>rfl
 |x::l=>by rw[Kw,flat_vr l];rfl
def Vc(g:List Vr)(o:Ko)(s i:Nat):Bool:=(List.range i).any λj=>s.testBit j&&((decide (2≤j) || decide (o.kind=14))&&(gv g (gd (Qw o) j).toNat).sec)
def z90{n s i:Nat}{v:Int}(h:Rn n s i v=true):s.testBit i=!decide (v<0):=by
 unfold Rn at h;split at h
 ·rename_i g;have:=jk.1 h;rw[g];simp;omega
 ·rename_i g;have:v=-1:=Kl h;subst this;simpa using g
def zp6(g:List Vr)(o:Ko)(s i:Nat):Vc g o s (i+1)=(Vc g o s i || (s.testBit i&&((decide (2≤i) || decide (o.kind=14))&&(gv g (gd (Qw o) i).toNat).sec))):=by
 simp[Vc,List.range_succ,List.any_append]
def secU_5{o:Ko}{n s:Nat}(z:P1 o.kind=some s)(j:Tw n s o=true):Vc vQ o s 5=O5 vQ o:=by
 simp only[Tw,Hz]at j;obtain⟨hd,he,A,B,C⟩:=j;have g:o.kind=14→s=19:=λh=>by have:=ze9 z;omega
 rw[show (5:Nat)=0+1+1+1+1+1 by rfl];simp only[zp6];rw[show Vc vQ o s 0=false from rfl];rw[z90 hd,z90 he,z90 A,z90 B,z90 C];have D:gd (Qw o) 0=o.d:=rfl;have E:gd (Qw o) (0+1)=o.e:=rfl;have F:gd (Qw o) (0+1+1)=o.a:=rfl;have G:gd (Qw o) (0+1+1+1)=o.b:=rfl;have H:gd (Qw o) (0+1+1+1+1)=o.c:=rfl;rw[D,E,F,G,H];unfold O5 T6;rw[List.any_append,List.any_filter];by_cases k:o.kind=14
 ·have:=g k;subst this;have L:=T3 hd Ad;have M:=T3 he Ad;have I:decide (o.d<0)=false:=Ab
  have K:decide (o.e<0)=false:=Ab
  simp[k,I,K,Bool.or_comm,Bool.or_assoc]
 ·simp[k,Bool.or_assoc]

abbrev Fc:=Int×Int×Int
def Xy(o:Ko):List Fc :=
 if o.kind=9 then [(3,o.c,-1)] else if o.kind=10∨o.kind=11 then [(2,o.a,o.c),(2,o.b,o.c)] else if o.kind=12 then [(1,o.c,-1),(2,o.a,o.c),(2,o.b,o.c)] else if o.kind=13 then [(1,o.c,-1),(2,o.a,o.c)]
 else if o.kind=17 then (if o.imm=2 then [(2,o.a,o.b)] else if o.imm=1 then [(1,o.a,-1)] else if o.imm=3 then [(3,o.a,-1)] else []) else []
def gN(v:List Nat)(i:Int):Nat:=if i<0 then 0 else v.getD i.toNat 0
def Xt(f:Fc)(v:List Nat):Bool :=
 Rp v.length f.2.1&&(if f.1=1 then decide (gN v f.2.1%2=1) else if f.1=3 then decide (0<gN v f.2.1) else if f.1=2 then Rp v.length f.2.2&&decide (gN v f.2.1<gN v f.2.2) else false)
def Vp(o:Ko)(v:List Nat):Bool:=(Xy o).all λf=>Xt f v
def yi(n:Int):Nat:=2^(64*n.toNat)
def kd_1{o:Ko}:kdK o=1↔o.kind=15:=by unfold kdK;split<;>(try split)<;>simp_all

def gN_at{v:List Nat}{i:Int}(h:0≤i):gN v i=v.getD i.toNat 0:=by unfold gN;rw[Hx J]



def Fr.map{α:Type}(g:α→α):Fr α→Fr α
 |.nil=>.nil
 |.op o r=>.op (g o) (r.map g)
 |.loop o b e r=>.loop (g o) (b.map g) (g e) (r.map g)
def jf(g:List Vr):List Nat:=(List.range g.length).filter λi=>Sc (gv g i)

def pk(a:List UInt64):(LU a).dat=true:=by
 simp only[LU,LV.dat];exact uv (λ_=>rfl) a

def Ur(f:Fc):List LV:=[.i f.1,.i f.2.1,.i f.2.2]
def Yl(l:List Fc):List LV:=l.flatMap Ur
def sc(l:List Fc):dats (Yl l)=true:=zw (f:=Ur) (λ_=>rfl) l
abbrev Hl:=Int×Int
def Yd(x y:Hl):Prop:=x.2≤y.1∨y.2≤x.1
def Ap(g:Int)(l:List Hl):Prop:=l.Pairwise Yd∧∀h∈l,0≤h.1∧h.1<h.2∧h.2≤g
structure St where
 holes:List Hl
 size:Int
def ivs(z:Nat→Hl)(j:Nat→Bool)(s:Bool)(g:List Nat):List Hl:=(g.filter λv=>j v==s).map z
def BusyOk(A:Bool→Int)(B:Nat→Hl)(j:Nat→Bool)(g:List Nat)(z:Bool→St):Prop :=
 ∀s,0≤(z s).size∧Ap (z s).size ((0,A s)::(ivs B j s g++(z s).holes))
structure Plan0 (wk:Bool→Int) (a b Qv:Nat→Int) (sec:Nat→Bool) (done busy:List Nat) (iv:Nat→Hl) (ps:Bool→St) (cur:Int):Prop where
 ok:BusyOk wk iv sec busy ps
 wide:∀v∈done,(iv v).2=(iv v).1+Qv v
 nd:busy.Nodup
 sub:∀v∈busy,v∈done
 over:∀v∈done,v ∉ busy→b v<cur
 pairs:∀v∈done,∀w∈done,v≠w→sec v=sec w→Yd (iv v) (iv w)∨b v<a w∨b w<a v
 inn:∀v∈done,0≤(iv v).1∧(iv v).2≤(ps (sec v)).size∧Yd (0,wk (sec v)) (iv v)
 sz:(ps false).size+(ps true).size≤wk false+wk true+(done.map Qv).sum
noncomputable section
structure Bf where
 size:Int
 kind:Int
 sec:Bool
structure Lo where
 kind:Int
 d:Int
 e:Int
 a:Int
 b:Int
 c:Int
 buf:Int
 imm:UInt64
 deriving DecidableEq
def Bf.f(v:Bf):List LV:=[.i v.size,.i v.kind,.bool v.sec]
def Lo.f(o:Lo):List LV:=[.i o.kind,.i o.d,.i o.e,.i o.a,.i o.b,.i o.c,.i o.buf,.u o.imm]
def P7(l:List Bf):List LV:=l.flatMap Bf.f
def Qu(l:List Lo):List LV:=l.flatMap Lo.f
def Bf.f_len(v:Bf):v.f.length=3:=rfl
def Lo.f_len(o:Lo):o.f.length=8:=rfl
def zyq(l:List Lo):(Qu l).length=l.length*8:=zv7 Lo.f_len l
def T9(l:List Bf):dats (P7 l)=true:=zw (λ_=>rfl) l
def Ud(l:List Lo):dats (Qu l)=true:=zw (λ_=>rfl) l
def zvz{l:List Bf}{i:Nat}{v:Bf}(h:l[i]?=some v):((P7 l).drop (i*3)).take 3=v.f:=zbf Bf.f_len h
def zcl{l:List Lo}{i:Nat}{v:Lo}(h:l[i]?=some v):((Qu l).drop (i*8)).take 8=v.f:=zbf Lo.f_len h
def zfo{l:List Bf}{i:Nat}{v:Bf}(h:l[i]?=some v):(P7 l)[i*3]?=some (.i v.size):=by have:=zuc Bf.f_len h (j:=0) J;simpa [P7,Bf.f] using this
def zma{l:List Bf}{i:Nat}{v:Bf}(h:l[i]?=some v):(P7 l)[i*3+1]?=some (.i v.kind):=by have:=zuc Bf.f_len h (j:=1) J;simpa [P7,Bf.f] using this
def zuo{l:List Bf}{i:Nat}{v:Bf}(h:l[i]?=some v):(P7 l)[i*3+2]?=some (.bool v.sec):=by have:=zuc Bf.f_len h (j:=2) J;simpa [P7,Bf.f] using this
def zqh{l:List Lo}{i:Nat}{v:Lo}(h:l[i]?=some v){j:Nat}(g:j<8):(Qu l)[i*8+j]?=v.f[j]?:=zuc Lo.f_len h g
def zh{l:List Bf}{i:Nat}(h:i<l.length):i*3+3≤(P7 l).length:=zu0 Bf.f_len h
def zne{l:List Lo}{i:Nat}(h:i<l.length):i*8+8≤(Qu l).length:=zu0 Lo.f_len h
def zof(a b:List Lo):Qu (a++b)=Qu a++Qu b:=by simp[Qu]
def xp(a b:List Bf):P7 (a++b)=P7 a++P7 b:=by simp[P7]
def Nw(l:List Bf)(n:Nat):Bf:=l.getD n ⟨0,0,false⟩
def ko(l:List Lo)(n:Nat):Lo:=l.getD n ⟨0,0,0,0,0,0,0,0⟩
def Sl{l:List Bf}{n:Nat}(h:n<l.length):l[n]?=some (Nw l n):=by simp[Nw,Hw,h]
def zh2{l:List Lo}{n:Nat}(h:n<l.length):l[n]?=some (ko l n):=by simp[ko,Hw,h]
def zhy{l:List Lo}{n:Nat}(h:n<l.length):l.drop n=ko l n::l.drop (n+1):=by
 rw[Js h];congr 1;have:=zh2 h;rw[H7 h]at this;exact Option.some.inj this
def repBs(n:Nat):Ph [.bool false] n=(List.replicate n false).map LV.bool:=by
 induction n with
 |zero=>rfl
 |succ n g=>rw[Ph,g,Kz];rfl
def Ov(o:Lo):List Int :=
 if o.kind=2∨o.kind=8∨o.kind=9 then [o.a]
 else if (3≤o.kind∧o.kind≤7)∨o.kind=10 then [o.a,o.b]
 else if o.kind=11∨o.kind=12∨o.kind=13 then [o.a,o.b,o.c]
 else if o.kind=14∧¬o.a=-1 then [o.a]
 else if o.kind=15∧¬o.a=-1 then [o.a,o.b]
 else if o.kind=15 then [o.b] else []
def Ng(o:Lo):List Int :=
 if o.kind=10∨o.kind=11∨o.kind=12 then [o.d,o.e]
 else if o.kind=15∨o.kind=17 then [] else [o.d]
def Q5(g r:Int)(j:Bool):Bool:=if j=true then decide (0≤r)&&decide (r<g) else decide (r=-1)
def Qr(k:Int):Bool:=!decide (k=15) && !decide (k=17)
def Qq(k:Int):Bool:=decide (k=10) || (decide (k=11) || decide (k=12))
def Q8(k:Int):Bool:=!decide (k=1)&&(!decide (k=16) && !decide (k=17))
def Wf(k:Int):Bool:=(decide (3≤k)&&decide (k≤7)) || ((decide (10≤k)&&decide (k≤13)) || decide (k=15))
def Wg(k:Int):Bool:=decide (11≤k)&&decide (k≤13)
def Pg(k:Int):Bool:=decide (k=14) || decide (k=15)
def P9(g:Int)(j:List Bf)(o:Lo):Bool :=
 (decide (1≤o.kind)&&decide (o.kind≤17))&&(Q5 g o.d (Qr o.kind)&&(Q5 g o.e (Qq o.kind)&&((Q5 g o.a (Q8 o.kind) || (Pg o.kind&&decide (o.a=-1)))&&(Q5 g o.b (Wf o.kind)&&(Q5 g o.c (Wg o.kind)&&(!(Qq o.kind&&decide (o.d=o.e)) &&
  (if Pg o.kind=true then decide (0≤o.buf)&&(decide (o.buf<j.length)&&(!(decide (o.kind=15)&&decide ((Nw j o.buf.toNat).kind=1))&&(!decide (o.a=-1) || decide (o.imm<iU (Nw j o.buf.toNat).size))))
   else decide (o.buf=0)&&(if o.kind=1 then true else if o.kind=8∨o.kind=9 then decide (1≤o.imm)&&decide (o.imm≤63) else if o.kind=16 then decide (1≤o.imm)&&decide (o.imm≤1048576) else decide (o.imm=0)))))))))
def Pj(m:List Bool)(r:Int):Bool:=m.getD r.toNat false
def Uz(j:Int)(z:List Bf)(m:List Bool)(g:List Int)(o:Lo):Int×List Bool×List Int :=
 if P9 j z o=false then (2,m,g)
 else if o.kind=17 then (match g.getLast? with|none=>(9,m,g)|some d=>(0,m.set d.toNat false,g.dropLast))
 else if (Ng o).any (λr=>g.contains r)=true then (9,m,g)
 else if o.kind=16∧Pj m o.d=true then (9,m,g)
 else if o.kind=16∧g.length=8 then (10,m,g)
 else if (Ov o).any (λr=>!Pj m r)=true then (5,m,g)
 else (0,(Ng o).foldl (λm r=>m.set r.toNat true) m,if o.kind=16 then g++[o.d] else g)
def fe(g:Int)(z:List Bf):Nat→List Bool→List Int→List Lo→Int×Int
 |i,_,j,[]=>if j=[] then (i,0) else (i,9)
 |i,m,j,o::l=>if (Uz g z m j o).1=0 then fe g z (i+1) (Uz g z m j o).2.1 (Uz g z m j o).2.2 l else (i,(Uz g z m j o).1)
def Qp(g:Int)(bs:List Bf)(os:List Lo):Int×Int :=
 if 64<g∨32<bs.length∨65536<os.length then (0,3)
 else if (bs.any λb=>decide (65536<b.size))=true then (0,3)
 else if g<0 then (0,2)
 else if (bs.any λb=>decide (b.size<1) || (decide (b.kind<1) || decide (3<b.kind)))=true then (0,2)
 else fe g bs 0 (List.replicate g.toNat false) [] os
structure Ms where
 i:Nat
 first:Bool
 r:List UInt64
 bufs:List (List UInt64)
 l:List (Int×Int)
def atR(r:List UInt64)(x:Int):UInt64:=if x<0 then 0 else r.getD x.toNat 0
def Oh(b:Bool):UInt64:=if b then 1 else 0
def Nl(r:List UInt64)(x:Int)(v:UInt64):List UInt64:=if 0≤x then r.set x.toNat v else r
def Oa(o:Lo)(a b:UInt64)(c:Bool):UInt64×UInt64 :=
 if o.kind=1 then (o.imm,0) else if o.kind=2 then (a,0) else if o.kind=3 then (a+b,0) else if o.kind=4 then (a-b,0)
 else if o.kind=5 then (a &&& b,0) else if o.kind=6 then (a ||| b,0) else if o.kind=7 then (a ^^^ b,0)
 else if o.kind=8 then (UInt64.ofNat (a.toNat*2^o.imm.toNat),0) else if o.kind=9 then (UInt64.ofNat (a.toNat/2^o.imm.toNat),0)
 else if o.kind=10 then (Ty a b,a*b) else if o.kind=11 then ((Nr a b c).1,Oh (Nr a b c).2) else if o.kind=12 then ((Ot a b c).1,Oh (Ot a b c).2)
 else if o.kind=13 then (if c then a else b,0) else (0,0)
def Ua(g:List (List UInt64))(x:Int):List UInt64:=g.getD x.toNat []
def U5(o:Lo)(s:Ms):Option Ms :=
 if o.kind=14 then
  (if (o.imm+atR s.r o.a).toNat<(Ua s.bufs o.buf).length then
   some ⟨s.i+1,s.first,Nl (Nl s.r o.d ((Ua s.bufs o.buf).getD (o.imm+atR s.r o.a).toNat 0)) o.e 0,s.bufs,s.l++[((s.i:Int),(((o.imm+atR s.r o.a).toNat:Nat):Int))]⟩ else none)
 else if o.kind=15 then
  (if (o.imm+atR s.r o.a).toNat<(Ua s.bufs o.buf).length then
   some ⟨s.i+1,s.first,Nl (Nl s.r o.d 0) o.e 0,s.bufs.set o.buf.toNat ((Ua s.bufs o.buf).set (o.imm+atR s.r o.a).toNat (atR s.r o.b)),s.l++[((s.i:Int),(((o.imm+atR s.r o.a).toNat:Nat):Int))]⟩ else none)
 else some ⟨s.i+1,s.first,Nl (Nl s.r o.d (Oa o (atR s.r o.a) (atR s.r o.b) (decide (atR s.r o.c%2=1))).1) o.e (Oa o (atR s.r o.a) (atR s.r o.b) (decide (atR s.r o.c%2=1))).2,s.bufs,s.l++[((s.i:Int),(-1:Int))]⟩
def Rh(os:List Lo)(es:List Int)(s:Ms):Option Ms :=
 match os[s.i]? with
 |none=>some s
 |some o =>
  if o.kind=16 then some ⟨s.i+1,true,if s.first then Nl s.r o.d 0 else s.r,s.bufs,s.l++[((s.i:Int),(-1:Int))]⟩
  else if o.kind=17 then
   (match os[(es.getD s.i 0).toNat]? with
   |none=>none
   |some p=>if atR s.r p.d+1<p.imm then some ⟨(es.getD s.i 0).toNat,false,Nl s.r p.d (atR s.r p.d+1),s.bufs,s.l⟩ else some ⟨s.i+1,s.first,s.r,s.bufs,s.l⟩)
  else U5 o s
def Py(os:List Lo)(es:List Int):Nat→Ms→Option Ms
 |0,s=>some s
 |n+1,s=>match Rh os es s with
  |none=>none
  |some g=>Py os es n g
end
variable{Z:List Bf}{vY:List Lo}
section
def Ql(o:Lo):Nat:=if o.kind=16 then 1 else if o.kind=17 then 2 else 0
structure Fs where
 r:Nat→UInt64
 m:Nat→Nat→UInt64
def Fs.put(s:Fs)(d:Nat)(v:UInt64):Fs:=⟨λx=>if x=d then v else s.r x,s.m⟩
def Fs.sto(s:Fs)(b n:Nat)(v:UInt64):Fs:=⟨s.r,λx y=>if x=b∧y=n then v else s.m x y⟩
def Te(s:Fs)(x:Int):UInt64:=if x<0 then 0 else s.r x.toNat
def Ri(s:Fs)(x:Int)(v:UInt64):Fs:=if 0≤x then s.put x.toNat v else s
def Qg(sz:Nat→Nat)(o:Lo)(s:Fs):Option Fs :=
 if o.kind=14 then (if (o.imm+Te s o.a).toNat<sz o.buf.toNat then some (Ri (Ri s o.d (s.m o.buf.toNat (o.imm+Te s o.a).toNat)) o.e 0) else none)
 else if o.kind=15 then (if (o.imm+Te s o.a).toNat<sz o.buf.toNat then some (Ri (Ri (s.sto o.buf.toNat (o.imm+Te s o.a).toNat (Te s o.b)) o.d 0) o.e 0) else none)
 else some (Ri (Ri s o.d (Oa o (Te s o.a) (Te s o.b) (decide (Te s o.c%2=1))).1) o.e (Oa o (Te s o.a) (Te s o.b) (decide (Te s o.c%2=1))).2)
def sv(f:Fs→Option Fs)(d:Nat):Nat→Nat→Fs→Option Fs
 |0,_,s=>some s
 |n+1,j,s=>match f (s.put d (UInt64.ofNat j)) with
  |none=>none
  |some g=>sv f d n (j+1) g
def Tn(sz:Nat→Nat):Fr Lo→Fs→Option Fs
 |.nil,s=>some s
 |.op o r,s=>match Qg sz o s with
  |none=>none
  |some g=>Tn sz r g
 |.loop o b _ r,s=>match sv (Tn sz b) o.d.toNat o.imm.toNat 0 s with
  |none=>none
  |some g=>Tn sz r g
def Fr.noW(x:Nat):Fr Lo→Bool
 |.nil=>true
 |.op o r=>!decide (o.d=x)&&(!decide (o.e=x)&&r.noW x)
 |.loop o b _ r=>!decide (o.d.toNat=x)&&(b.noW x&&r.noW x)
def zjz{s:Fs}{d:Int}{v:UInt64}{x:Nat}(h:¬d=x):(Ri s d v).r x=s.r x:=by
 unfold Ri;split
 ·show (if x=d.toNat then v else s.r x)=s.r x;rw[Hx J]
 ·rfl
def opZ_r{sz:Nat→Nat}{o:Lo}{s z:Fs}{x:Nat}(h:Qg sz o s=some z)(g:¬o.d=x)(j:¬o.e=x):z.r x=s.r x:=by
 unfold Qg at h;split at h
 ·split at h
  ·cases h;rw[zjz j,zjz g]
  ·cases h
 ·split at h
  ·split at h
   ·cases h;rw[zjz j,zjz g];rfl
   ·cases h
  ·cases h;rw[zjz j,zjz g]
def zwf{f:Fs→Option Fs}{P:Fs→Prop}{d:Nat}(hd:∀s v,P s→P (s.put d v))(z:∀s g,P s→f s=some g→P g):∀(n A:Nat) (s g:Fs),P s→sv f d n A s=some g→P g
 |0,_,s,g,j,h=>by cases h;exact j
 |n+1,A,s,g,j,h=>by
  unfold sv at h;split at h
  ·cases h
  ·rename_i B C;exact zwf hd z n (A+1) B g (z _ _ (hd _ _ j) C) h
def zzc{sz:Nat→Nat}{x:Nat}:∀(f:Fr Lo) (s g:Fs),f.noW x=true→Tn sz f s=some g→g.r x=s.r x
 |.nil,s,g,_,h=>B1
 |.op o r,s,g,hw,h=>by
  simp only[Fr.noW,Hz,Jq,I6]at hw;unfold Tn at h;split at h
  ·cases h
  ·rename_i j z;rw[zzc r j g hw.2.2 h,opZ_r z hw.1 hw.2.1]
 |.loop o b e r,s,g,hw,h=>by
  simp only[Fr.noW,Hz,Jq,I6]at hw;unfold Tn at h;split at h
  ·cases h
  ·rename_i j z;rw[zzc r j g hw.2.2 h];refine zwf (P:=λt=>t.r x=s.r x) (λt v A=>?_) (λt B A h=>by rw[zzc b t B hw.2.1 h,A]) _ _ _ _ rfl z;show (if x=o.d.toNat then v else t.r x)=_;rw[Hx (λq=>hw.1 q.symm)];exact A
def wm(ls:List Nat)(x:Int):Bool:=decide (-1≤x)&&(decide (x<64) && !ls.contains x.toNat || decide (x=-1))
def Fr.regs(nb:Nat):List Nat→Fr Lo→Bool
 |_,.nil=>true
 |ls,.op o r=>wm ls o.d&&(wm ls o.e&&(decide (o.a<64)&&(decide (o.b<64)&&(decide (o.c<64)&&(decide (o.buf.toNat<nb)&&r.regs nb ls)))))
 |ls,.loop o b _ r=>wm ls o.d&&(decide (0≤o.d)&&(decide (1≤o.imm.toNat)&&(b.regs nb (o.d.toNat::ls)&&r.regs nb ls)))
def zhu{nb x:Nat}:∀(f:Fr Lo) (z:List Nat),x∈z→f.regs nb z=true→f.noW x=true
 |.nil,_,_,_=>rfl
 |.op o r,z,j,h=>by
  simp only[Fr.regs,Hz,wm,Ie,Je,Jq,List.contains_eq_mem,I6]at h;obtain⟨⟨C,g⟩,⟨D,A⟩,_,_,_,_,B⟩:=h;simp only[Fr.noW,Hz,Jq,I6];refine⟨λq=>?_,λq=>?_,zhu r z j B⟩
  ·rcases g with ⟨_,g⟩|g
   ·apply g;rw[q];exact j
   ·omega
  ·rcases A with ⟨_,A⟩|A
   ·apply A;rw[q];exact j
   ·omega
 |.loop o b e r,z,j,h=>by
  simp only[Fr.regs,Hz,wm,Ie,Je,Jq,List.contains_eq_mem,I6]at h;obtain⟨⟨C,g⟩,D,_,A,B⟩:=h;simp only[Fr.noW,Hz,Jq,I6];refine⟨λq=>?_,zhu b _ (Ik _ j) A,zhu r z j B⟩;rcases g with ⟨_,g⟩|g
  ·apply g;rw[q];exact j
  ·omega
structure Rep (nb:Nat) (sz:Nat→Nat) (s:Ms) (t:Fs):Prop where
 rl:s.r.length=64
 r:∀x,x<64→s.r.getD x 0=t.r x
 bl:s.bufs.length=nb
 len:∀b,b<nb→(s.bufs.getD b []).length=sz b
 m:∀b n,b<nb→n<sz b→(s.bufs.getD b []).getD n 0=t.m b n
section rep
variable {nb : Nat} {sz : Nat → Nat} {s : Ms} {t : Fs}
def Rep.at(h:Rep nb sz s t){x:Int}(hx:x<64):atR s.r x=Te t x:=by
 unfold atR Te;split
 ·rfl
 ·exact h.r _ J
def Wn(l:List vP)(i g:Nat)(v d:vP)(h:i<l.length):(l.set i v).getD g d=if g=i then v else l.getD g d:=by
 simp only[Hw,Mb];by_cases q:g=i
 ·subst q;simp[h]
 ·rw[Hx (Ne.symm q),Hx q]
def Rep.put(h:Rep nb sz s t){x:Int}{v:UInt64}{i:Nat}{f:Bool}{l:List (Int×Int)}(hx:x<64):Rep nb sz ⟨i,f,Nl s.r x v,s.bufs,l⟩ (Ri t x v):=by
 unfold Nl Ri;split
 ·refine⟨by simpa using h.rl,λy hy=>?_,h.bl,h.len,h.m⟩;show (s.r.set x.toNat v).getD y 0=if y=x.toNat then v else t.r y
  rw[Wn _ _ _ _ _ (by rw[h.rl];omega)];split
  ·rfl
  ·exact h.r y hy
 ·exact⟨h.rl,h.r,h.bl,h.len,h.m⟩
def Rep.ctl(h:Rep nb sz s t){i:Nat}{f:Bool}{l:List (Int×Int)}:Rep nb sz ⟨i,f,s.r,s.bufs,l⟩ t:=⟨h.rl,h.r,h.bl,h.len,h.m⟩
def Rep.sto(h:Rep nb sz s t){b n:Nat}{v:UInt64}{i:Nat}{f:Bool}{l:List (Int×Int)}(hb:b<nb)(hn:n<sz b):Rep nb sz ⟨i,f,s.r,s.bufs.set b ((s.bufs.getD b []).set n v),l⟩ (t.sto b n v):=by
 have gg:b<s.bufs.length:=by rw[h.bl];exact hb
 refine⟨h.rl,h.r,by simpa using h.bl,λx hx=>?_,λx y hx hy=>?_⟩
 ·show ((s.bufs.set b _).getD x []).length=_;rw[Wn _ _ _ _ _ gg];split
  ·rename_i q;subst q;rw[J9];exact h.len x hx
  ·exact h.len x hx
 ·show ((s.bufs.set b _).getD x []).getD y 0=if x=b∧y=n then v else t.m x y
  rw[Wn _ _ _ _ _ gg];by_cases q:x=b
  ·subst q;rw[H6 rfl,Wn _ _ _ _ _ (by rw[h.len x hx];exact hn)];by_cases q2:y=n
   ·simp[q2]
   ·simp only[q2,and_false,Lp];exact h.m x y hx hy
  ·simp only[q,false_and,Lp];exact h.m x y hx hy
end rep
def zi2{j:List Lo}{z:List Int}:∀(n k:Nat) (s g:Ms),Py j z n s=some g→Py j z (n+k) s=Py j z k g
 |0,k,s,g,h=>by cases h;rw[Iz]
 |n+1,k,s,g,h=>by
  unfold Py at h;split at h
  ·cases h
  ·rename_i A B;rw[(J:n+1+k=(n+k)+1)];show (match Rh j z s with|none=>none|some g=>Py j z (n+k) g)=_;rw[B];exact zi2 n k A g h
def doR_ok{nb:Nat}{sz:Nat→Nat}{s:Ms}{t E:Fs}{o:Lo}(h:Rep nb sz s t)(hd:o.d<64)(he:o.e<64)(F:o.a<64)(G:o.b<64)(H:o.c<64)(g:o.buf.toNat<nb)(z:Qg sz o t=some E) :
  ∃C,U5 o s=some C∧C.i=s.i+1∧C.first=s.first∧Rep nb sz C E∧C.l.length=s.l.length+1:=by
 unfold Qg at z;unfold U5;rw[h.at F,h.at G,h.at H];unfold Ua;have I:o.buf.toNat<s.bufs.length:=by rw[h.bl];exact g
 split at z
 ·rename_i A;rw[H6 A,h.len _ g];split at z
  ·rename_i j;rw[H6 j];cases z;refine⟨_,rfl,rfl,rfl,?_,N⟩;rw[h.m _ _ g j];have D:=h.put (x:=o.d) (v:=t.m o.buf.toNat (o.imm+Te t o.a).toNat) (i:=0) (f:=true) (l:=[]) hd;exact D.put he
  ·cases z
 ·rename_i A;rw[Hx A];split at z
  ·rename_i B;rw[H6 B,h.len _ g];split at z
   ·rename_i j;rw[H6 j];cases z;refine⟨_,rfl,rfl,rfl,?_,N⟩;have K:=h.sto (v:=Te t o.b) (i:=0) (f:=true) (l:=[]) g j;have D:=K.put (x:=o.d) (v:=0) (i:=0) (f:=true) (l:=[]) hd;exact D.put he
   ·cases z
  ·rename_i B;rw[Hx B];cases z;refine⟨_,rfl,rfl,rfl,?_,N⟩;have D:=h.put (x:=o.d) (v:=(Oa o (Te t o.a) (Te t o.b) (decide (Te t o.c%2=1))).1) (i:=0) (f:=true) (l:=[]) hd;exact D.put he
def Fr.costZ:Fr Lo→Nat
 |.nil=>0
 |.op _ r=>1+r.costZ
 |.loop o b _ r=>o.imm.toNat*(b.costZ+2)+r.costZ
def zcg{l:List vP}{i:Nat}{a:vP}{r:List vP}(h:l.drop i=a::r):l[i]?=some a∧l.drop (i+1)=r:=by
 have g:=congrArg (λl=>l[0]?) h;simp at g;refine⟨g,?_⟩;rw[←List.drop_drop,h];rfl
def zr0{l a r:List vP}{i:Nat}(h:l.drop i=a++r):l.drop (i+a.length)=r:=by
 rw[←List.drop_drop,h,List.drop_left]
def ofNat_lt:(UInt64.ofNat g+1:UInt64)=UInt64.ofNat (g+1):=by
 apply UInt64.toNat.inj;simp
def zht{os:List Lo}{es:List Int}{nb:Nat}{sz:Nat→Nat}:∀(f:Fr Lo) (i:Nat) (H:List Nat) (z:List Lo) (T:List Int) (s:Ms) (t K:Fs),f.wf Ql→f.regs nb H=true→os.drop i=f.flat++z→es.drop i=f.ends i++T→s.i=i→s.first=true→Rep nb sz s t→Tn sz f t=some K →
  ∃n j,Py os es n s=some j∧j.i=i+f.size∧j.first=true∧Rep nb sz j K∧n≤f.costZ∧j.l.length≤s.l.length+f.costZ
 |.nil,i,H,z,T,s,t,K,_,_,_,_,hi,X,Y,C=>by
  cases C;exact⟨0,s,rfl,by simp[Fr.size,hi],X,Y,H9 _,H9 _⟩
 |.op o r,i,H,z,T,s,t,K,hw,L,ho,he,hi,X,Y,C=>by
  simp only[Fr.regs,Hz,wm,Ie,Je]at L;obtain⟨⟨d1,d2⟩,⟨e1,e2⟩,a1,b1,c1,f1,L⟩:=L;have Z:o.d<64:=by rcases d2 with d2|d2<;>omega
  have e3:o.e<64:=by rcases e2 with e2|e2<;>omega
  simp only[Fr.flat,I7]at ho;simp only[Fr.ends,I7]at he;obtain⟨D,F⟩:=zcg ho;obtain⟨gF,G⟩:=zcg he;unfold Tn at C;split at C
  ·cases C
  rename_i t1 h1;obtain⟨s1,q1,q2,q3,q4,q5⟩:=doR_ok Y Z e3 a1 b1 c1 f1 h1;obtain⟨n,j,U,V,p3,M,p5,p6⟩:=zht r (i+1) H z T s1 t1 K hw.2 L F G (by rw[q2,hi]) (by rw[q3,X]) q4 C;have hk:=hw.1;have A:Rh os es s=some s1:=by
   unfold Rh;rw[hi,D];dsimp only;unfold Ql at hk;rw[Hx (λq=>by simp[q]at hk),Hx (λq=>by simp[q]at hk)];exact q1
  refine⟨n+1,j,?_,by rw[V];simp[Fr.size];omega,p3,M,by simp[Fr.costZ];omega,by simp[Fr.costZ];omega⟩;show (match Rh os es s with|none=>none|some j=>Py os es n j)=_;rw[A];exact U
 |.loop o b e r,i,H,z,T,s,t,K,hw,L,ho,he,hi,X,Y,C=>by
  simp only[Fr.regs,Hz,wm,Ie,Je]at L;obtain⟨⟨d1,d2⟩,d0,m1,gg,gG⟩:=L;have Z:o.d<64:=by rcases d2 with d2|d2<;>omega
  obtain⟨w1,w2,w3,w4⟩:=hw;have gz:o.kind=16:=by unfold Ql at w1;split at w1<;>first|assumption|(split at w1<;>omega)
  have gH:e.kind=17:=by
   unfold Ql at w2;split at w2
   ·omega
   ·split at w2
    ·assumption
    ·omega
  simp only[Fr.flat,I7,Jp]at ho;simp only[Fr.ends,I7,Jp]at he;obtain⟨D,F⟩:=zcg ho;obtain⟨gF,G⟩:=zcg he;have gA:=zr0 F;have gC:=zr0 G;rw[Fr.flat_len]at gA;rw[Fr.ends_len]at gC;obtain⟨gI,gK⟩:=zcg gA;obtain⟨gL,gD⟩:=zcg gC;have O:(es.getD (i+1+b.size) 0).toNat=i:=by rw[Hw,gL];simp
  unfold Tn at C;split at C
  ·cases C
  rename_i t1 h1;have gM:=zhu b (o.d.toNat::H) (I9 ..) gg;have gZ:=o.imm.toNat_lt;have P:∀(n B:Nat) (s:Ms) (t:Fs),1≤n→B+n=o.imm.toNat→s.i=i+1→s.first=true→Rep nb sz s (t.put o.d.toNat (UInt64.ofNat B))→sv (Tn sz b) o.d.toNat n B t=some t1 →
    ∃k j,Py os es k s=some j∧j.i=i+b.size+2∧j.first=true∧Rep nb sz j t1∧k≤n*(b.costZ+2)-1∧j.l.length≤s.l.length+(n*(b.costZ+2)-1):=by
   intro n
   induction n with
   |zero=>intro B s t h;omega
   |succ n ih =>
    intro B s t _ hj gO gP gE E;unfold sv at E;split at E
    ·cases E
    rename_i t2 h2;obtain⟨k,g,U,V,p3,M,p5,p6⟩:=zht b (i+1) (o.d.toNat::H) _ _ s _ t2 w3 gg F G gO gP gE h2;have gQ:t2.r o.d.toNat=UInt64.ofNat B:=by
     rw[zzc b _ _ gM h2];show (if o.d.toNat=o.d.toNat then _ else _)=_;rw[H6 rfl]
    have gR:atR g.r o.d=UInt64.ofNat B:=by
     rw[M.at Z];unfold Te;rw[Hx J,gQ]
    have A:Rh os es g=if UInt64.ofNat B+1<o.imm then some ⟨i,false,Nl g.r o.d (UInt64.ofNat B+1),g.bufs,g.l⟩ else some ⟨g.i+1,g.first,g.r,g.bufs,g.l⟩:=by
     unfold Rh;rw[V,gI];dsimp only;rw[Hx J,H6 gH,O,D];dsimp only;rw[gR]
    cases n with
    |zero =>
     have gT:¬(UInt64.ofNat B+1<o.imm):=by
      rw[Jn];have:(UInt64.ofNat B+1:UInt64).toNat=(B+1)%18446744073709551616:=N
      rw[this];by_cases q:B+1<18446744073709551616
      ·rw[Iw q];omega
      ·omega
     rw[Hx gT]at A;cases E;refine⟨k+1,⟨g.i+1,g.first,g.r,g.bufs,g.l⟩,?_,?_,p3,M.ctl,J,by show g.l.length≤_;omega⟩
     ·rw[zi2 k 1 s g U];show (match Rh os es g with|none=>none|some j=>Py os es 0 j)=_;rw[A];rfl
     ·show g.i+1=_;rw[V];omega
    |succ n =>
     have gU:UInt64.ofNat B+1<o.imm:=by
      rw[Jn];have:(UInt64.ofNat B+1:UInt64).toNat=(B+1)%18446744073709551616:=N
      rw[this,Iw J];omega
     rw[H6 gU]at A;have gV:(UInt64.ofNat B+1:UInt64)=UInt64.ofNat (B+1):=ofNat_lt;have Q:Rep nb sz ⟨i+1,true,Nl g.r o.d (UInt64.ofNat B+1),g.bufs,g.l++[((i:Int),-1)]⟩ (t2.put o.d.toNat (UInt64.ofNat (B+1))):=by
      have h:=M.put (x:=o.d) (v:=UInt64.ofNat B+1) (i:=i+1) (f:=true) (l:=g.l++[((i:Int),-1)]) Z;rw[gV]at h ⊢;unfold Ri at h;rw[H6 d0]at h;exact h
     obtain⟨I,s3,u1,u2,u3,u4,u5,u6⟩:=ih (B+1) _ t2 J J rfl rfl Q E;have hm:(n+1+1)*(b.costZ+2)=(n+1)*(b.costZ+2)+(b.costZ+2):=L9 _ _;have g8:b.costZ+2≤(n+1)*(b.costZ+2):=Ma _ J;refine⟨k+(I+2),s3,?_,u2,u3,u4,J,?_⟩
     ·rw[zi2 k _ s g U];show (match Rh os es g with|none=>none|some j=>Py os es (I+1) j)=_;rw[A];show (match Rh os es (⟨i,false,Nl g.r o.d (UInt64.ofNat B+1),g.bufs,g.l⟩:Ms) with|none=>none|some j=>Py os es I j)=_;have:Rh os es (⟨i,false,Nl g.r o.d (UInt64.ofNat B+1),g.bufs,g.l⟩:Ms)=some ⟨i+1,true,Nl g.r o.d (UInt64.ofNat B+1),g.bufs,g.l++[((i:Int),-1)]⟩:=by
       unfold Rh;dsimp only;rw[D];dsimp only;rw[H6 gz];rfl
      rw[this];exact u1
     ·simp only[Ia,Ih,Iv]at u6;omega
  have R:Rep nb sz ⟨i+1,true,Nl s.r o.d 0,s.bufs,s.l++[((i:Int),-1)]⟩ (t.put o.d.toNat (UInt64.ofNat 0)):=by
   have h:=Y.put (x:=o.d) (v:=0) (i:=i+1) (f:=true) (l:=s.l++[((i:Int),-1)]) Z;unfold Ri at h;rw[H6 d0]at h;exact h
  obtain⟨k,s1,U,V,p3,M,p5,p6⟩:=P o.imm.toNat 0 _ t m1 J rfl rfl R h1;have gY:b.costZ+2≤o.imm.toNat*(b.costZ+2):=Ma _ J;obtain⟨I,g,u1,u2,u3,u4,u5,u6⟩:=zht r (i+b.size+2) H z T s1 t1 K w4 gG (by rw[(J:i+b.size+2=i+1+b.size+1)];exact gK) (by rw[(J:i+b.size+2=i+1+b.size+1)]at gD ⊢;exact gD) V p3 M C;refine⟨(k+I)+1,g,?_,by rw[u2];simp[Fr.size];omega,u3,u4,by simp only[Fr.costZ];omega,?_⟩
  ·show (match Rh os es s with|none=>none|some j=>Py os es (k+I) j)=_;have:Rh os es s=some ⟨i+1,true,Nl s.r o.d 0,s.bufs,s.l++[((i:Int),-1)]⟩:=by
    unfold Rh;rw[hi,D];dsimp only;rw[H6 gz,X];rfl
   rw[this];show Py os es (k+I) _=_;rw[zi2 k I _ s1 U];exact u1
  ·simp only[Ia,Ih,Iv]at p6;simp only[Fr.costZ];omega
end
def Vk:Nat→List Nat→List Int→List Lo→List Int
 |_,_,g,[]=>g
 |i,st,g,o::l=>if o.kind=16 then Vk (i+1) (i::st) (g.set i (-1)) l
  else if o.kind=17 then (match st with
   |[]=>Vk (i+1) [] (g.set i (-1)) l
   |a::j=>Vk (i+1) j (((g.set i (-1)).set i a).set a i) l)
  else Vk (i+1) st (g.set i (-1)) l
def endsR_tree:∀(f:Fr Lo) (i:Nat) (st:List Nat) (j g:List Int) (z:List Lo),f.wf Ql→j.length=i →
  Vk i st (j++List.replicate f.size 0++g) (f.flat++z)=Vk (i+f.size) st (j++f.ends i++g) z
 |.nil,i,st,j,g,z,_,_=>by simp[Fr.flat,Fr.size,Fr.ends]
 |.op o r,i,st,j,g,z,w,B=>by
  have h:=endsR_tree r (i+1) st (j++[-1]) g z w.2 An;have G:=w.1;have K:¬o.kind=16:=λq=>by simp[Ql,q]at G
  have L:¬o.kind=17:=λq=>by simp[Ql,q]at G
  simp only[Fr.flat,Fr.size,Fr.ends,I7,Vk,K,L,Lp,Kz];simp only[Jp,I7,Mq]at h ⊢;rw[K6 _ _ J,(J:i-j.length=0),M0,h]
  congr 1;omega
 |.loop o b e r,i,st,j,g,z,w,B=>by
  obtain⟨C,D,M,O⟩:=w;have E:o.kind=16:=by unfold Ql at C;split at C<;>first|assumption|(split at C<;>omega)
  have F:e.kind=17:=by
   unfold Ql at D;split at D
   ·omega
   ·split at D
    ·assumption
    ·omega
  have H:=endsR_tree b (i+1) (i::st) (j++[-1]) ([0]++List.replicate r.size 0++g) (e::(r.flat++z)) M An;have I:=endsR_tree r (i+b.size+2) st (j++[((i+b.size+1:Nat):Int)]++b.ends (i+1)++[(i:Int)]) g z O (by simp[B,Fr.ends_len];omega);have P:List.replicate (b.size+r.size+2) (0:Int)=[0]++List.replicate b.size 0++([0]++List.replicate r.size 0):=by
   rw[(J:b.size+r.size+2=1+b.size+(1+r.size)),←Mf,←Mf,←Mf];rfl
  simp only[Fr.flat,Fr.size,I7,Vk,E,Jo];rw[P];simp only[Jp,I7,Mq]at H I ⊢;rw[K6 _ _ J,(J:i-j.length=0),M0,H];simp only[Vk,F];have A:(((j++(-1:Int)::(b.ends (i+1)++(0:Int)::(List.replicate r.size 0++g))).set (i+1+b.size) (-1)).set (i+1+b.size) (i:Int)).set i ((i+1+b.size:Nat):Int)
    = j++((i+b.size+1:Nat):Int)::(b.ends (i+1)++(i:Int)::(List.replicate r.size 0++g)):=by
   rw[List.set_set,K6 _ _ J,K6 _ _ J,(J:i+1+b.size-j.length=b.size+1),(J:i-j.length=0),M1,M0,
    K6 _ _ (by rw[Fr.ends_len];exact H9 _),Fr.ends_len,Lk,M0,(J:i+1+b.size=i+b.size+1)]
  rw[A,(J:i+1+b.size+1=i+b.size+2),I];simp only[Fr.ends,I7,Jp];rw[(J:i+(b.size+r.size+2)=i+b.size+2+r.size)];simp[Nat.add_comm]
def zm1{f:Fr Lo}(w:f.wf Ql):Vk 0 [] (List.replicate f.size 0) f.flat=f.ends 0:=by
 have h:=endsR_tree f 0 [] [] [] [] w rfl;simp only[Jm,Mq,Vk]at h;exact h
def zvc{f:Fr Lo}:∀{d:Nat} {rest:List Lo},f.wf Ql→Vs Ql d rest→Vs Ql d (f.flat++rest):=by
 induction f with
 |nil=>intro d rest _ h;exact h
 |op o r z =>
  intro d rest w h;simp only[Fr.flat,I7];unfold Vs;rw[w.1,Hx Ad,Hx Ad];exact⟨rfl,z w.2 h⟩
 |loop o b e r g j =>
  intro d rest w h;obtain⟨A,B,C,D⟩:=w;simp only[Fr.flat,I7,Jp];unfold Vs;rw[A,H6 rfl];refine g C ?_;unfold Vs;rw[B,Hx Ad,H6 rfl];exact⟨J,j D h⟩
def endsR_len:∀(l:List Lo) (i:Nat) (st:List Nat) (g:List Int),(Vk i st g l).length=g.length
 |[],_,_,_=>rfl
 |o::l,i,st,g=>by
  unfold Vk;split
  ·rw[endsR_len];simp
  ·split
   ·split<;>rw[endsR_len]<;>simp
   ·rw[endsR_len];simp
def V8:List (Int×Int)→Int→List Lo→Int
 |_,s,[]=>s
 |st,s,o::l=>if o.kind=16 then V8 ((s,(o.imm.toNat:Int))::st) 1 l
  else if o.kind=17 then (match st with
   |[]=>V8 [] s l
   |(j,t)::g=>V8 g (min 1125899906842624 ((if 1125899906842624/t<s then 1125899906842624 else s*t)+j)) l)
  else V8 st (min 1125899906842624 (s+1)) l
def Fr.stp:Fr Lo→Nat
 |.nil=>0
 |.op _ r=>1+r.stp
 |.loop o b _ r=>o.imm.toNat*(1+b.stp)+r.stp
def zu9{a b:Nat}(h:1≤a):b≤a*b:=Ma _ h
def zhv{I:Nat}:∀(f:Fr Lo) (j:List Nat) (st:List (Int×Int)) (s:Nat) (g:List Lo),f.wf Ql→f.regs I j=true→s+f.stp≤1125899906842624→V8 st s (f.flat++g)=V8 st ((s+f.stp:Nat):Int) g
 |.nil,_,st,s,g,_,_,_=>by simp[Fr.flat,Fr.stp]
 |.op o r,j,st,s,g,w,z,A=>by
  have H:=w.1;have K:¬o.kind=16:=λq=>by simp[Ql,q]at H
  have L:¬o.kind=17:=λq=>by simp[Ql,q]at H
  simp only[Fr.regs,Hz]at z;simp only[Fr.stp]at A ⊢;simp only[Fr.flat,I7,V8,K,L,Lp];rw[(J:min (1125899906842624:Int) ((s:Int)+1)=((s+1:Nat):Int)),zhv r j st (s+1) g w.2 z.2.2.2.2.2.2 J]
  congr 1;omega
 |.loop o b e r,j,st,s,g,w,z,A=>by
  obtain⟨B,C,M,O⟩:=w;have D:o.kind=16:=by unfold Ql at B;split at B<;>first|assumption|(split at B<;>omega)
  have E:e.kind=17:=by
   unfold Ql at C;split at C
   ·omega
   ·split at C
    ·assumption
    ·omega
  simp only[Fr.regs,Hz,Ie]at z;obtain⟨_,_,m1,F,G⟩:=z;simp only[Fr.stp]at A ⊢;have P:=zu9 (b:=1+b.stp) m1;simp only[Fr.flat,I7,Jp,V8,D,Jo];rw[show (1:Int)=((1:Nat):Int) from rfl,zhv b _ _ 1 _ M F J];simp only[V8,E];rw[Hx (Ad:¬(17:Int)=16),H6 trivial];have Q:¬(1125899906842624/((o.imm.toNat:Nat):Int)<((1+b.stp:Nat):Int)):=by
   have R:(1+b.stp)*o.imm.toNat≤1125899906842624:=by rw[Jt];omega
   have T:1+b.stp≤1125899906842624/o.imm.toNat:=(Nat.le_div_iff_mul_le m1).2 R;have U:((1125899906842624/o.imm.toNat:Nat):Int)=1125899906842624/((o.imm.toNat:Nat):Int):=N
   omega
  rw[Hx Q];have hm:(((1+b.stp:Nat):Int)*((o.imm.toNat:Nat):Int))=((o.imm.toNat*(1+b.stp):Nat):Int):=by rw[Jt];simp
  rw[hm,(J:min (1125899906842624:Int) (((o.imm.toNat*(1+b.stp):Nat):Int)+(s:Int))=((s+o.imm.toNat*(1+b.stp):Nat):Int)),zhv r j st _ g O G J]
  congr 1;omega
def zw8{f:Fr Lo}(w:f.wf Ql)(j:f.regs g vz=true)(z:f.stp≤1125899906842624):V8 [] 0 f.flat=f.stp:=by
 have h:=zhv f vz [] 0 [] w j J;simp only[Jm,V8,Iz]at h;exact h
def V2(b:Bf)(x:List UInt64):List UInt64:=x++List.replicate (b.size.toNat-x.length) 0
def S0(bs:List Bf)(X:List (List UInt64))(n:Nat):List (List UInt64):=(List.range n).map λi=>V2 (Nw bs i) (X.getD i [])
def O6(g:Int)(bs:List Bf)(X:List (List UInt64)):Ms:=⟨0,true,List.replicate g.toNat 0,S0 bs X bs.length,[]⟩
def qe(g:List Bf)(j:List (List UInt64))(n:Nat):(S0 g j n).length=n:=by simp[S0]
def zfr(r:List UInt64)(x:Int)(v:UInt64):(Nl r x v).length=r.length:=E7
structure SameLen (s s':Ms):Prop where
 r:s'.r.length=s.r.length
 b:s'.bufs.map List.length=s.bufs.map List.length
 i:s'.i=s.i+1
 l:s'.l.length=s.l.length+1
 f:s'.first=s.first
def y7{o:Lo}{s j:Ms}(h:U5 o s=some j):SameLen s j:=by
 unfold U5 at h;split at h
 ·split at h
  ·cases h;exact⟨by simp[zfr],rfl,rfl,N,rfl⟩
  ·cases h
 ·split at h
  ·split at h
   ·rename_i z;cases h;refine⟨by simp[zfr],?_,rfl,N,rfl⟩;show (s.bufs.set _ _).map List.length=_;rw[Ji,J9];refine Mc λA=>?_
    by_cases q:o.buf.toNat=A
    ·subst q;by_cases g:o.buf.toNat<s.bufs.length
     ·rw[H8 A9];simp[Ua,Hw,g]
     ·rw[Ke A9,Ke A9]
    ·rw[Hy q]
   ·cases h
  ·cases h;exact⟨by simp[zfr],rfl,rfl,N,rfl⟩
def zv5{os:List Lo}{es:List Int}{s:Ms}(h:os[s.i]?=none):∀n,Py os es n s=some s
 |0=>rfl
 |n+1=>by
  show (match Rh os es s with|none=>none|some g=>Py os es n g)=_;have:Rh os es s=some s:=by unfold Rh;rw[h]
  rw[this];exact zv5 h n
def ends_at:∀(f:Fr Lo) (i j:Nat) (o:Lo),f.wf Ql→f.flat[j]?=some o→o.kind=17→∃k p,(f.ends i)[j]?=some ((i+k:Nat):Int)∧f.flat[k]?=some p∧p.kind=16
 |.nil,_,_,_,_,h,_=>by simp[Fr.flat]at h
 |.op a r,i,j,o,w,h,z=>by
  have C:=w.1;have H:¬a.kind=17:=λq=>by simp[Ql,q]at C
  cases j with
  |zero=>simp[Fr.flat]at h;subst h;exact absurd z H
  |succ j =>
   simp only[Fr.flat,Ip]at h;obtain⟨k,p,A,g,B⟩:=ends_at r (i+1) j o w.2 h z;exact⟨k+1,p,by simp only[Fr.ends,Ip];rw[A];congr 2;omega,by simpa only[Fr.flat,Ip] using g,B⟩
 |.loop a b e r,i,j,o,w,h,z=>by
  obtain⟨D,M,I,K⟩:=w;have E:a.kind=16:=by unfold Ql at D;split at D<;>first|assumption|(split at D<;>omega)
  cases j with
  |zero=>simp[Fr.flat]at h;subst h;omega
  |succ j =>
   simp only[Fr.flat,Ip]at h;simp only[Fr.ends,Ip];by_cases G:j<b.size
   ·rw[Ib (by rw[Fr.flat_len];exact G)]at h;obtain⟨k,p,A,g,B⟩:=ends_at b (i+1) j o I h z;have F:k<b.size:=by rw[←Fr.flat_len];exact (Hv.1 g).1
    refine⟨k+1,p,?_,?_,B⟩
    ·rw[Ib (by rw[Fr.ends_len];exact G),A];congr 2;omega
    ·simp only[Fr.flat,Ip];rw[Ib (by rw[Fr.flat_len];exact F)];exact g
   ·rw[Im (by rw[Fr.flat_len];omega),Fr.flat_len]at h;rw[Im (by rw[Fr.ends_len];omega),Fr.ends_len];cases L:j-b.size with
    |zero =>
     refine⟨0,a,N,by simp[Fr.flat],E⟩
    |succ m =>
     rw[L]at h;simp only[Ip]at h ⊢;obtain⟨k,p,A,g,B⟩:=ends_at r (i+b.size+2) m o K h z;refine⟨k+b.size+2,p,by rw[A];congr 2;omega,?_,B⟩;simp only[Fr.flat,Ip];rw[Im (by rw[Fr.flat_len];omega),Fr.flat_len,(J:k+b.size+1-b.size=k+1),Ip];exact g
noncomputable section
structure Pc where
 buf:Int
 at_:Int
 size:Int
def Pc.f(p:Pc):List LV:=[.i p.buf,.i p.at_,.i p.size]
def cK(d:Int)(n:UInt64):Lo:=⟨1,d,-1,-1,-1,-1,0,n⟩
def Q1(d a:Int):Lo:=⟨2,d,-1,a,-1,-1,0,0⟩
def Nb(k d a b:Int):Lo:=⟨k,d,-1,a,b,-1,0,0⟩
def Rb(k d a g:Int):Lo:=⟨k,d,-1,a,-1,-1,0,iU g⟩
def N9(h l a b:Int):Lo:=⟨10,h,l,a,b,-1,0,0⟩
def Ny(k d g a b c:Int):Lo:=⟨k,d,g,a,b,c,0,0⟩
def Og(d c a b:Int):Lo:=⟨13,d,-1,a,b,c,0,0⟩
def Nk(d:Int)(p:Pc)(i off:Int):Lo:=⟨14,d,-1,i,-1,-1,p.buf,iU (p.at_+off)⟩
def Nq(p:Pc)(i off b:Int):Lo:=⟨15,-1,-1,i,b,-1,p.buf,iU (p.at_+off)⟩
def S9(d g:Int):Lo:=⟨16,d,-1,-1,-1,-1,0,iU g⟩
def Tj:Lo:=⟨17,-1,-1,-1,-1,-1,0,0⟩
def Kp(e:Nat)(z j:M9):Prop:=z.length≤j.length∧∀(q:Nat) (g:LObj),q≠e→(∀A m k st,g≠LObj.dyn A m 8 k st)→z[q]?=some g→j[q]?=some g
def Kp.refl(e:Nat)(G:M9):Kp e G G:=⟨H9 _,λ_ _ _ _ h=>h⟩
def Kp.trans{e:Nat}{a b c:M9}(h:Kp e a b)(k:Kp e b c):Kp e a c:=⟨I8 h.1 k.1,λq ob h1 h2 h3=>k.2 q ob h1 h2 (h.2 q ob h1 h2 h3)⟩
def Kp.cells{e:Nat}{a b:M9}(h:Kp e a b){q st:Nat}{l:List LV}(hq:q≠e)(hc:a[q]?=some (.cells l st)):b[q]?=some (.cells l st):=h.2 q _ hq (λ_ _ _ _ e=>Aq) hc
def Kp.app{e:Nat}{a b:M9}(h:Kp e a b)(x:List LObj):Kp e a (b++x):=⟨by have:=h.1;simp;omega,λq ob h1 h2 h3=>by have h4:=h.2 q ob h1 h2 h3;rw[Nv (Hv.1 h4).1];exact h4⟩
def Kp.app'(e:Nat)(a:M9)(x:List LObj):Kp e a (a++x):=(Kp.refl e a).app x
def Pd(g:M9)(e:Nat)(ops:List Lo)(deep:Int):Prop:=∃(st:Nat) (v:LV),g[e]?=some (.cells [v,.i deep] st)∧Qf 0 g v 8 ops.length (Qu ops)
def Qf.set_cells{b:Nat}{G:M9}{v:LV}{n:Nat}{l:List LV}(h:Qf b G v j n l){q st:Nat}{c:List LV}{ob:LObj}(hq:G[q]?=some (.cells c st)):Qf b (G.set q ob) v j n l:=by
 obtain⟨h1,h2,h|⟨p,k,st,a,e,d⟩⟩:=h
 ·exact⟨h1,h2,.inl h⟩
 ·exact⟨h1,h2,.inr ⟨p,k,st,a,e,by rw[Hy (λq'=>by rw[q',d]at hq;cases hq)];exact d⟩⟩
def Qf.row{b:Nat}{G:M9}{v:LV}{esz n:Nat}{l:List LV}(h:Qf b G v esz n l){q:Nat}(e:v=.dy q j):∃R m k st,G[q]?=some (.dyn R m esz k st):=by
 obtain⟨_,_,⟨h,_⟩|⟨p,k,st,_,e2,d⟩⟩:=h
 ·rw[h]at e;cases e
 ·rw[e2]at e;cases e;exact⟨_,_,_,_,d⟩
def Pd.app{G:M9}{e:Nat}{ops:List Lo}{deep:Int}(h:Pd G e ops deep)(x:List LObj):Pd (G++x) e ops deep:=by
 obtain⟨st,v,h1,h2⟩:=h;exact⟨st,v,by rw[Nv (Hv.1 h1).1];exact h1,h2.push_end⟩
end
section
section made
variable {wk : Bool → Int} {a b Qv : Nat → Int} {sec : Nat → Bool} {done busy : List Nat} {iv : Nat → Hl} {ps : Bool → St} {cur base : Int} {n : Nat}
end made
end
section
def vt{α:Type}(k:α→Int)(l:List α):Prop:=l.Pairwise λx y=>k x≤k y
section sym
variable {α : Type} {k : α → Int}
def vt.last{l:List α}(h:vt k l){u z:α}(hu:u∈l)(hz:l.getLast?=some z):k u≤k z:=by
 obtain⟨ys,rfl⟩:=List.getLast?_eq_some_iff.1 hz;have:=List.pairwise_append.1 h;rcases Is.1 hu with q|q
 ·exact this.2.2 u q z N
 ·rw[M2.1 q];exact Int.le_refl _
def vt.head{l:List α}(h:vt k l){u z:α}(hu:u∈l)(hz:l.head?=some z):k z≤k u:=by
 obtain⟨ys,rfl⟩:=List.head?_eq_some_iff.1 hz;have:=List.pairwise_cons.1 h;rcases Ig.1 hu with q|q
 ·rw[q];exact Int.le_refl _
 ·exact this.1 u q
def b9{l:List α}{u:α}(h:u∈l):∃j,l.getLast?=some j:=by
 cases g:l.getLast? with
 |none=>rw[List.getLast?_eq_none_iff]at g;subst g;cases h
 |some j=>exact⟨j,rfl⟩
def Z5{l:List α}{u:α}(h:u∈l):∃g,l.head?=some g:=by
 cases l with
 |nil=>cases h
 |cons g t=>exact⟨g,rfl⟩
def halves{z A B C:List α}(D:vt k (z++A))(E:vt k (B++C))(F:∀u w,z.getLast?=some u→C.head?=some w→k u≤k w)(G:∀u w,B.getLast?=some u→A.head?=some w→k u≤k w) :
  ∀u∈z++B,∀w∈A++C,k u≤k w:=by
 obtain⟨H,I,K⟩:=List.pairwise_append.1 D;obtain⟨L,M,O⟩:=List.pairwise_append.1 E;intro u hu w hw;rcases Is.1 hu with hu|hu<;>rcases Is.1 hw with hw|hw
 ·exact K u hu w hw
 ·obtain⟨P,g⟩:=b9 hu;obtain⟨y,j⟩:=Z5 hw;exact Int.le_trans (vt.last H hu g) (Int.le_trans (F P y g j) (vt.head M hw j))
 ·obtain⟨P,g⟩:=b9 hu;obtain⟨y,j⟩:=Z5 hw;exact Int.le_trans (vt.last L hu g) (Int.le_trans (G P y g j) (vt.head I hw j))
 ·exact O u hu w hw
end sym
end
def ii(g:List Vr):S7 g (Vi 0 g) []=Qx g:=by
 unfold S7;cases hv:Qx g with
 |false=>rfl
 |true =>
  have D:=zf2 hv;have z:=startOs_len g 0;obtain⟨m,A,E,B⟩:=zen g 0 (ik g) rfl (by simp[ik]) (λF j=>J) (λF _ j=>by
   unfold gb ik;rw[Hw,Jz,T2 j];rfl)
  rw[A];have hm:ux g m=true:=by
   unfold ux;rw[Jy];intro i hi;simp[B i (Kh.1 hi)]
  have C:(Vi 0 g).length≤4096:=J
  simp[hm,C]
def Q0(l:List Pc)(n:Nat):Pc:=l.getD n ⟨0,0,0⟩
def ja(g:List Bf):Int :=
 if 32<g.length then 3 else if (g.any λb=>decide (65536<b.size))=true then 3 else if (g.any λb=>decide (b.size<1) || (decide (b.kind<1) || decide (3<b.kind)))=true then 2 else 0
def Wh(g:List Bf)(x:Pc):Bool:=decide (0≤x.buf)&&(decide (x.buf<g.length)&&(decide (1≤x.size)&&(decide (x.size≤32768)&&(decide (0≤x.at_)&&(decide (x.at_≤(Nw g x.buf.toNat).size)&&decide (x.size≤(Nw g x.buf.toNat).size-x.at_))))))
def ji(g:List Bf)(v:Vr)(x:Pc):Bool :=
 Wh g x&&(decide (x.size=v.limbs)&&(!(decide ((Nw g x.buf.toNat).kind=1) && !Sc v)&&(!(decide ((Nw g x.buf.toNat).kind=2)&&Sc v)&&(v.sec==(Nw g x.buf.toNat).sec))))
def Wy(g:List Bf)(s:Bool)(x:Pc):Bool:=Wh g x&&(!decide ((Nw g x.buf.toNat).kind=1)&&((Nw g x.buf.toNat).sec==s))
def Wj(j:List Vr)(g:List Bf)(z:List Pc)(A B:Pc):Bool :=
 Qx j&&(decide (1≤g.length)&&(decide (z.length=j.length)&&(decide (ja g=0)&&(((List.range j.length).all λi=>ji g (gv j i) (Q0 z i))&&(Wy g false A&&Wy g true B)))))
def Wo(l:List Pc):List LV:=l.flatMap Pc.f
section
def Nh:List Lo→Fr Lo
 |[]=>.nil
 |o::l=>.op o (Nh l)
def Fr.cat{α:Type}:Fr α→Fr α→Fr α
 |.nil,g=>g
 |.op o r,g=>.op o (r.cat g)
 |.loop o b e r,g=>.loop o b e (r.cat g)
def flat_frL:∀l:List Lo,(Nh l).flat=l
 |[]=>rfl
 |o::l=>by rw[Nh,Fr.flat,flat_frL l]
def Ra{j:Type}:∀f g:Fr j,(f.cat g).flat=f.flat++g.flat
 |.nil,g=>rfl
 |.op o r,g=>by rw[Fr.cat,Fr.flat,Fr.flat,Ra r g];rfl
 |.loop o b e r,g=>by rw[Fr.cat,Fr.flat,Fr.flat,Ra r g];simp
def frL_app:∀a b:List Lo,Nh (a++b)=(Nh a).cat (Nh b)
 |[],_=>rfl
 |o::a,b=>by rw[I7,Nh,Nh,Fr.cat,frL_app a b]
def stp_cat:∀f g:Fr Lo,(f.cat g).stp=f.stp+g.stp
 |.nil,g=>by simp[Fr.cat,Fr.stp]
 |.op o r,g=>Fw
 |.loop o b e r,g=>Fw
def Rf(l:List Lo):(Nh l).stp=l.length:=by
 induction l with
 |nil=>rfl
 |cons o l g=>rw[Nh,Fr.stp,g,Ih];omega
section ex
variable {sz : Nat → Nat} {s : Fs}
def exZ_cat:∀(f g:Fr Lo) (s:Fs),Tn sz (f.cat g) s=(Tn sz f s).bind (Tn sz g)
 |.nil,g,s=>rfl
 |.op o r,g,s=>by
  rw[Fr.cat,Tn,Tn];cases Qg sz o s with
  |none=>rfl
  |some j=>exact exZ_cat r g j
 |.loop o b e r,g,s=>by
  rw[Fr.cat,Tn,Tn];cases sv (Tn sz b) o.d.toNat o.imm.toNat 0 s with
  |none=>rfl
  |some j=>exact exZ_cat r g j
def Tx(sz:Nat→Nat)(f:Fr Lo)(s:Fs)(Q:Fs→Prop):Prop:=∃g,Tn sz f s=some g∧Q g
def Tx.nil{Q:Fs→Prop}(h:Q s):Tx sz .nil s Q:=⟨s,rfl,h⟩
def Tx.op{o:Lo}{r:Fr Lo}{s1:Fs}{Q:Fs→Prop}(h:Qg sz o s=some s1)(k:Tx sz r s1 Q):Tx sz (.op o r) s Q:=by
 obtain⟨s',h1,h2⟩:=k;exact⟨s',by rw[Tn,h];exact h1,h2⟩
def Tx.cat{f g:Fr Lo}{Q R:Fs→Prop}(h:Tx sz f s R)(k:∀s',R s'→Tx sz g s' Q):Tx sz (f.cat g) s Q:=by
 obtain⟨s1,h1,h2⟩:=h;obtain⟨s2,h3,h4⟩:=k s1 h2;exact⟨s2,by rw[exZ_cat,h1];exact h3,h4⟩
def Tx.mono{f:Fr Lo}{Q R:Fs→Prop}(h:Tx sz f s R)(k:∀s',R s'→Q s'):Tx sz f s Q:=by
 obtain⟨s1,h1,h2⟩:=h;exact⟨s1,h1,k s1 h2⟩
def it_ex{f:Fs→Option Fs}{d:Nat}{z:Nat→Fs→Prop}:∀(n j:Nat) (s:Fs),z j s→(∀i s,i<j+n→z i s→∃g,f (s.put d (UInt64.ofNat i))=some g∧z (i+1) g)→∃g,sv f d n j s=some g∧z (j+n) g
 |0,j,s,h,_=>⟨s,rfl,h⟩
 |n+1,j,s,h,k=>by
  obtain⟨A,B,C⟩:=k j s J h;obtain⟨D,E,F⟩:=it_ex n (j+1) A C λi s hi G=>k i s J G
  refine⟨D,?_,by rw[(J:j+(n+1)=j+1+n)];exact F⟩;show (match f (s.put d (UInt64.ofNat j)) with|none=>none|some g=>sv f d n (j+1) g)=_;rw[B];exact E
def Tx.loop{o e:Lo}{b r:Fr Lo}{Q:Fs→Prop}(I:Nat→Fs→Prop)(h0:I 0 s)(h1:∀i s,i<o.imm.toNat→I i s→Tx sz b (s.put o.d.toNat (UInt64.ofNat i)) (I (i+1)))(h2:∀s',I o.imm.toNat s'→Tx sz r s' Q):Tx sz (.loop o b e r) s Q:=by
 obtain⟨s1,h3,h4⟩:=it_ex o.imm.toNat 0 s h0 λi s hi hI=>h1 i s J hI
 rw[Iz]at h4;obtain⟨s2,h5,h6⟩:=h2 s1 h4;exact⟨s2,by rw[Tn,h3];exact h5,h6⟩
def Zz(s:Fs)(d:Nat)(v:UInt64):Ri s (d:Int) v=s.put d v:=by unfold Ri;rw[H6 J];rfl
def dx(s:Fs)(v:UInt64):Ri s (-1) v=s:=by unfold Ri;rw[Hx J]
def Zw(s:Fs)(d:Nat):Te s (d:Int)=s.r d:=by unfold Te;rw[Hx J];rfl
def t9(s:Fs):Te s (-1)=0:=by unfold Te;rw[H6 J]
def V6{d:Nat}{v:UInt64}:Qg sz (cK d v) s=some (s.put d v):=by simp[Qg,cK,Oa,Zz,dx]
def zmn{d a:Nat}:Qg sz (Q1 d a) s=some (s.put d (s.r a)):=by simp[Qg,Q1,Oa,Zz,dx,Zw]
def zdq{d a b:Nat}:Qg sz (Nb 3 d a b) s=some (s.put d (s.r a+s.r b)):=Cu
def zye{d a b:Nat}:Qg sz (Nb 4 d a b) s=some (s.put d (s.r a-s.r b)):=Cu
def Yt{d a b:Nat}:Qg sz (Nb 6 d a b) s=some (s.put d (s.r a ||| s.r b)):=Cu
def ci{d a b:Nat}:Qg sz (Nb 7 d a b) s=some (s.put d (s.r a ^^^ s.r b)):=Cu
def zkm{h l a b:Nat}:Qg sz (N9 h l a b) s=some ((s.put h (Ty (s.r a) (s.r b))).put l (s.r a*s.r b)):=by simp[Qg,N9,Oa,Zz,Zw]
def zt3{d e a b c:Nat}:Qg sz (Ny 11 d e a b c) s=some ((s.put d (Nr (s.r a) (s.r b) (decide (s.r c%2=1))).1).put e (Oh (Nr (s.r a) (s.r b) (decide (s.r c%2=1))).2)):=by simp[Qg,Ny,Oa,Zz,Zw]
def zjg{d e a b c:Nat}:Qg sz (Ny 12 d e a b c) s=some ((s.put d (Ot (s.r a) (s.r b) (decide (s.r c%2=1))).1).put e (Oh (Ot (s.r a) (s.r b) (decide (s.r c%2=1))).2)):=by simp[Qg,Ny,Oa,Zz,Zw]
def zo8{d c a b:Nat}:Qg sz (Og d c a b) s=some (s.put d (if s.r c%2=1 then s.r a else s.r b)):=by
 simp[Qg,Og,Oa,Zz,dx,Zw]
def opZ_ld{d i:Nat}{p:Pc}{b n:Nat}(j:p.buf=(b:Int))(A:(iU (p.at_+z)+s.r i).toNat=n)(g:n<sz b):Qg sz (Nk d p i z) s=some (s.put d (s.m b n)):=by
 simp[Qg,Nk,Zz,dx,Zw,j,A,g]
def xk{d:Nat}{p:Pc}{b n:Nat}(j:p.buf=(b:Int))(A:(iU (p.at_+z)).toNat=n)(g:n<sz b):Qg sz (Nk d p (-1) z) s=some (s.put d (s.m b n)):=by
 simp[Qg,Nk,Zz,dx,t9,j,A,g]
def opZ_st{v i:Nat}{p:Pc}{b n:Nat}(j:p.buf=(b:Int))(A:(iU (p.at_+z)+s.r i).toNat=n)(g:n<sz b):Qg sz (Nq p i z v) s=some (s.sto b n (s.r v)):=by
 simp[Qg,Nq,dx,Zw,j,A,g]
def opZ_st0{v:Nat}{p:Pc}{b n:Nat}(j:p.buf=(b:Int))(A:(iU (p.at_+z)).toNat=n)(g:n<sz b):Qg sz (Nq p (-1) z v) s=some (s.sto b n (s.r v)):=by
 simp[Qg,Nq,dx,t9,Zw,j,A,g]
end ex
def Nc(s:Fs)(d x:Nat)(v:UInt64):(s.put d v).r x=if x=d then v else s.r x:=rfl
def Pa(s:Fs)(d:Nat)(v:UInt64):(s.put d v).m=s.m:=rfl
def Su(s:Fs)(b n:Nat)(v:UInt64):(s.sto b n v).r=s.r:=rfl
def Y1(s:Fs)(b n x y:Nat)(v:UInt64):(s.sto b n v).m x y=if x=b∧y=n then v else s.m x y:=rfl
def Qz(s:Ms):Fs:=⟨λx=>s.r.getD x 0,λb n=>(s.bufs.getD b []).getD n 0⟩
def Xo(s:Ms):Nat→Nat:=λb=>(s.bufs.getD b []).length
def Rep.abs(s:Ms)(h:s.r.length=64):Rep s.bufs.length (Xo s) s (Qz s):=⟨h,λ_ _=>rfl,rfl,λ_ _=>rfl,λ_ _ _ _=>rfl⟩
end
def zhn{d:Int}{v:UInt64}(h:0≤d∧d<z):P9 z Z (cK d v)=true:=by
 simp[P9,cK,Q5,Qr,Qq,Q8,Wf,Wg,Pg,h]
def er{d a:Int}(h:0≤d∧d<z)(g:0≤a∧a<z):P9 z Z (Q1 d a)=true:=by
 simp[P9,Q1,Q5,Qr,Qq,Q8,Wf,Wg,Pg,h,g]
def zck{k d a b:Int}(B:3≤k∧k≤7)(h:0≤d∧d<z)(g:0≤a∧a<z)(j:0≤b∧b<z):P9 z Z (Nb k d a b)=true:=by
 have A:k=3∨k=4∨k=5∨k=6∨k=7:=J
 rcases A with rfl|rfl|rfl|rfl|rfl<;>simp[P9,Nb,Q5,Qr,Qq,Q8,Wf,Wg,Pg,h,g,j]
def zc9{d e a b:Int}(h:0≤d∧d<z)(he:0≤e∧e<z)(g:0≤a∧a<z)(j:0≤b∧b<z)(A:d≠e):P9 z Z (N9 d e a b)=true:=by
 simp[P9,N9,Q5,Qr,Qq,Q8,Wf,Wg,Pg,h,g,j,he,A]
def zyc{k d e a b c:Int}(g:k=11∨k=12)(h:0≤d∧d<z)(he:0≤e∧e<z)(j:0≤a∧a<z)(A:0≤b∧b<z)(B:0≤c∧c<z)(C:d≠e):P9 z Z (Ny k d e a b c)=true:=by
 rcases g with rfl|rfl<;>simp[P9,Ny,Q5,Qr,Qq,Q8,Wf,Wg,Pg,h,j,A,B,he,C]
def zxc{d c a b:Int}(h:0≤d∧d<z)(g:0≤c∧c<z)(j:0≤a∧a<z)(A:0≤b∧b<z):P9 z Z (Og d c a b)=true:=by
 simp[P9,Og,Q5,Qr,Qq,Q8,Wf,Wg,Pg,h,j,A,g]
def zrj{d i:Int}{p:Pc}(h:0≤d∧d<z)(hi:i=-1∨0≤i∧i<z)(g:0≤p.buf∧p.buf<Z.length)(hm:i=-1→iU (p.at_+B)<iU (Nw Z p.buf.toNat).size):P9 z Z (Nk d p i B)=true:=by
 rcases hi with rfl|hi
 ·simp[P9,Nk,Q5,Qr,Qq,Q8,Wf,Wg,Pg,h,g,hm rfl]
 ·have:i≠-1:=J
  simp[P9,Nk,Q5,Qr,Qq,Q8,Wf,Wg,Pg,h,g,hi,this]
def zqo{v i:Int}{p:Pc}(h:0≤v∧v<z)(hi:i=-1∨0≤i∧i<z)(g:0≤p.buf∧p.buf<Z.length)(j:(Nw Z p.buf.toNat).kind≠1)(hm:i=-1→iU (p.at_+B)<iU (Nw Z p.buf.toNat).size):P9 z Z (Nq p i B v)=true:=by
 rcases hi with rfl|hi
 ·simp[P9,Nq,Q5,Qr,Qq,Q8,Wf,Wg,Pg,h,g,hm rfl,j]
 ·have:i≠-1:=J
  simp[P9,Nq,Q5,Qr,Qq,Q8,Wf,Wg,Pg,h,g,hi,this,j]
def Pk(g:Int)(j:List Bf):List Int→List Lo→Prop
 |_,[]=>True
 |S,o::l=>P9 g j o=true∧(o.kind≠16∧o.kind≠17)∧(∀x∈Ov o,x∈S)∧Pk g j (Ng o++S) l
def znj{g:Int}{A:List Bf}:∀{l:List Lo} {S z:List Int},(∀x∈S,x∈z)→Pk g A S l→Pk g A z l
 |[],_,_,_,_=>trivial
 |o::l,S,z,h,k=>⟨k.1,k.2.1,λx j=>h x (k.2.2.1 x j),znj (λx j=>by
   rcases Is.1 j with j|j
   ·exact Lf _ j
   ·exact Iy _ (h x j)) k.2.2.2⟩
def ztg{g:Int}{z:List Bf}:∀{a b:List Lo} {S:List Int},Pk g z S a→Pk g z ((a.flatMap Ng)++S) b→Pk g z S (a++b)
 |[],b,S,_,k=>by simpa using k
 |o::a,b,S,h,k=>⟨h.1,h.2.1,h.2.2.1,ztg h.2.2.2 (znj (λx j=>by
   simp only[Kw,Is]at j ⊢;rcases j with (j|j)|j
   ·exact .inr (.inl j)
   ·exact .inl j
   ·exact .inr (.inr j)) k)⟩
def zuh{a b:List Lo}{S:List Int}(h:Pk z Z S a)(k:Pk z Z S b):Pk z Z S (a++b) :=
 ztg h (znj (λ_ g=>Iy _ g) k)
def jy(g:Int)(m:List Bool)(S:List Int):Prop:=(m.length:Int)=g∧∀x∈S,0≤x∧x<g∧Pj m x=true
def z93{m:List Bool}{a x:Int}(g:0≤a∧a<m.length)(j:0≤x):Pj (m.set a.toNat true) x=true↔x=a∨Pj m x=true:=by
 unfold Pj;rw[Wn _ _ _ _ _ J];by_cases e:x.toNat=a.toNat
 ·rw[H6 e];simp;left;omega
 ·rw[Hx e];constructor
  ·exact .inr
  ·rintro (rfl|h)
   ·exact absurd rfl e
   ·exact h
def jy.fold{regs:Int}:∀(mk:List Int) (m:List Bool) (S:List Int),jy regs m S→(∀x∈mk,0≤x∧x<regs)→jy regs (mk.foldl (λm r=>m.set r.toNat true) m) (mk++S)
 |[],_,_,h,_=>h
 |a::mk,m,S,h,hr=>by
  have ha:=hr a (I9 ..);have h1:jy regs (m.set a.toNat true) (a::S):=by
   refine⟨by simpa using h.1,λx hx=>?_⟩;rcases Ig.1 hx with rfl|hx
   ·exact⟨ha.1,ha.2,(z93 ⟨ha.1,by rw[h.1];exact ha.2⟩ ha.1).2 (.inl rfl)⟩
   ·obtain⟨h1,h2,h3⟩:=h.2 x hx;exact⟨h1,h2,(z93 ⟨ha.1,by rw[h.1];exact ha.2⟩ h1).2 (.inr h3)⟩
  have h2:=jy.fold mk _ _ h1 λx hx=>hr x (Ik _ hx)
  refine⟨h2.1,λx hx=>h2.2 x ?_⟩;simp only[Is,Ig]at hx ⊢;rcases hx with (hx|hx)|hx
  ·exact .inr (.inl hx)
  ·exact .inl hx
  ·exact .inr (.inr hx)
def oj{m:List Bool}{ls:List Int}{o:Lo}(B:P9 z Z o=true)(g:o.kind≠16)(j:o.kind≠17)(hm:∀x∈Ng o,¬x∈ls)(C:∀x∈Ov o,Pj m x=true) :
  Uz z Z m ls o=(0,(Ng o).foldl (λm r=>m.set r.toNat true) m,ls):=by
 unfold Uz;rw[Hx (by rw[B];decide),Hx j,Hx,Hx (λq=>g q.1),Hx (λq=>g q.1),Hx,Hx g]
 ·rw[Jc];rintro⟨x,A,h⟩;rw[C x A]at h;cases h
 ·rw[Jc];rintro⟨x,A,h⟩;exact hm x A Ax
def zvt{o:Lo}(h:P9 z Z o=true):∀x∈Ng o,0≤x∧x<z:=by
 unfold P9 at h;simp only[Hz,Ie]at h;obtain⟨⟨B,C⟩,d,e,_⟩:=h;have j:∀{x:Int},Q5 z x true=true→0≤x∧x<z:=λh=>by unfold Q5 at h;simpa using h
 intro x g;unfold Ng at g;split at g
 ·rename_i A;have hd:Qr o.kind=true:=by rcases A with h|h|h<;>rw[h]<;>rfl
  have he:Qq o.kind=true:=by rcases A with h|h|h<;>rw[h]<;>rfl
  rw[hd]at d;rw[he]at e;simp at g;rcases g with rfl|rfl
  ·exact j d
  ·exact j e
 ·split at g
  ·cases g
  ·rename_i A;have hd:Qr o.kind=true:=by simp[Qr];omega
   rw[hd]at d;simp at g;subst g;exact j d
def je(n r:Int):List Lo:=[cK (r+3) 3,N9 (r+1) r n (r+3),cK (r+3) 2,Nb 7 r r (r+3)]
def zqg(n r:Int):List Lo:=[N9 (r+1) (r+2) n r,Nb 4 (r+2) (r+3) (r+2),N9 (r+1) r r (r+2)]
def X6(n r:Int)(i:Nat):List Lo:=(List.range i).flatMap λ_=>zqg n r
def zci(n r:Int)(i:Nat):X6 n r (i+1)=X6 n r i++zqg n r:=by simp[X6,List.range_succ]
def zin(n r:Int)(i:Nat):(X6 n r i).length=3*i:=by
 induction i with
 |zero=>rfl
 |succ i g=>rw[zci,Ia,g];simp[zqg];omega
def Um(n r:Int):List Lo:=je n r++(X6 n r 5++[cK (r+3) 0,Nb 4 r (r+3) r])
def xor2(x:Nat):x ^^^ 2=if x%4<2 then x+2 else x-2:=by
 have B:(x ^^^ 2)/4=x/4:=by
  have:=Nat.xor_div_two_pow (a:=x) (b:=2) (n:=2);simpa using this
 have g:(x ^^^ 2)%4=(x%4) ^^^ 2:=by
  have:=Nat.xor_mod_two_pow (a:=x) (b:=2) (n:=2);simpa using this
 have j:x%4<4:=I4 _ Ad;have A:(x%4) ^^^ 2=if x%4<2 then x%4+2 else x%4-2:=by
  generalize x%4=c at j ⊢
  match c,j with
  |0,_=>rfl
  |1,_=>rfl
  |2,_=>rfl
  |3,_=>rfl
 rw[A]at g;split at g<;>rename_i z
 ·rw[H6 z];omega
 ·rw[Hx z];omega
def ub(k c:Nat)(j:c%2=1):∃t,k*(3*k+c)=2*t:=by
 have h:k*(3*k+c)%2=0:=by
  have g:k%2=0∨k%2=1:=J
  rw[Jd,Nat.add_mod,Jd 3 k];rcases g with g|g<;>simp[g,j]
 exact⟨k*(3*k+c)/2,J⟩
def reck0(a:UInt64)(h:a%2=1):∃t:UInt64,a*((a*3) ^^^ 2)=1+32*t:=by
 have H:a.toNat%2=1:=by
  have:=congrArg UInt64.toNat h;simpa using this
 have g:((a*3) ^^^ 2:UInt64).toNat=(a.toNat*3%18446744073709551616) ^^^ 2:=N
 rw[xor2]at g;have E:a.toNat*3%18446744073709551616<18446744073709551616:=I4 _ Ad;obtain⟨k,D⟩:∃k,a.toNat=4*k+a.toNat%4:=⟨a.toNat/4,J⟩;have F:a.toNat*3%18446744073709551616%4=a.toNat*3%4:=Nat.mod_mod_of_dvd _ Ad;have A:a=UInt64.ofNat a.toNat:=N
 have z:a.toNat%4=1∨a.toNat%4=3:=J
 rcases z with z|z
 ·rw[Hx J]at g;have j:(a*3) ^^^ 2=a*3-2:=by
   apply UInt64.toNat.inj;rw[g,Ls];simp;omega
  obtain⟨t,B⟩:=ub k 1 rfl;have G:a=4*UInt64.ofNat k+1:=by rw[A,D,z];simp
  have C:UInt64.ofNat k*(3*UInt64.ofNat k+1)=2*UInt64.ofNat t:=by
   have:=congrArg UInt64.ofNat B;simpa using this
  refine⟨UInt64.ofNat t,?_⟩;rw[j];generalize UInt64.ofNat k=b at *;generalize UInt64.ofNat t=u at *;clear g A
  grind
 ·rw[H6 J]at g;have j:(a*3) ^^^ 2=a*3+2:=by
   apply UInt64.toNat.inj;rw[g,Jk];simp;omega
  obtain⟨t,B⟩:=ub k 5 rfl;have G:a=4*UInt64.ofNat k+3:=by rw[A,D,z];simp
  have C:UInt64.ofNat k*(3*UInt64.ofNat k+5)=2*UInt64.ofNat t:=by
   have:=congrArg UInt64.ofNat B;simpa using this
  refine⟨UInt64.ofNat t+1,?_⟩;rw[j];generalize UInt64.ofNat k=b at *;generalize UInt64.ofNat t=u at *;clear g A
  grind
def nwt(a x:UInt64):UInt64:=x*(2-a*x)
def zrf(a x:UInt64):1-a*nwt a x=(1-a*x)*(1-a*x):=by unfold nwt;grind
def zsk(a:UInt64):UInt64:=nwt a (nwt a (nwt a (nwt a (nwt a ((a*3) ^^^ 2)))))
def sq32(t:UInt64):((32*t)*(32*t))*((32*t)*(32*t))=1048576*(t*t*(t*t)):=Cv
def d9(a:UInt64)(h:a%2=1):a*zsk a=1:=by
 obtain⟨t,j⟩:=reck0 a h;have g:1-a*((a*3) ^^^ 2)=32*(0-t):=by rw[j];grind
 generalize 0-t=u at g;have z:1-a*zsk a=0:=by
  unfold zsk;rw[zrf,zrf,zrf,zrf,zrf,g];have A:(32*u)*(32*u)*((32*u)*(32*u))=1048576*(u*u*(u*u)):=sq32 u;rw[A];generalize u*u*(u*u)=w;have B:(1048576*w)*(1048576*w)*((1048576*w)*(1048576*w))=0:=by
   have:(1048576*w)*(1048576*w)*((1048576*w)*(1048576*w))=(1048576*1048576*(1048576*1048576))*(w*w*(w*w)):=Cv
   rw[this,(Ad:(1048576*1048576*(1048576*1048576):UInt64)=0)];simp
  rw[B];simp
 have:a*zsk a=1-(1-a*zsk a):=Cv
 rw[this,z];rfl
def yw(a x:UInt64):Nat→UInt64
 |0=>x
 |i+1=>nwt a (yw a x i)
def reck_ex{I:Nat→Nat}{s:Fs}{n r:Nat}(h:¬(r≤n∧n≤r+3)):Tx I (Nh (Um n r)) s λg=>g.r r=0-zsk (s.r n)∧g.m=s.m∧∀x,¬(r≤x∧x≤r+3)→g.r x=s.r x:=by
 have L:Um (n:Int) (r:Int)=[cK ((r+3:Nat):Int) 3,N9 ((r+1:Nat):Int) (r:Nat) (n:Nat) ((r+3:Nat):Int),cK ((r+3:Nat):Int) 2,Nb 7 (r:Nat) (r:Nat) ((r+3:Nat):Int)]++(X6 n r 5++[cK ((r+3:Nat):Int) 0,Nb 4 (r:Nat) ((r+3:Nat):Int) (r:Nat)]):=rfl;have j:∀(i:Nat) (s:Fs),s.r (r+3)=2→Tx I (Nh (X6 n r i)) s λg=>g.r (r+3)=2∧g.r r=yw (s.r n) (s.r r) i∧g.m=s.m∧∀x,¬(r≤x∧x≤r+3)→g.r x=s.r x:=by
  intro i
  induction i with
  |zero=>intro s D;exact .nil ⟨D,rfl,rfl,λ_ _=>rfl⟩
  |succ i M =>
   intro s D;rw[zci,frL_app];refine (M s D).cat λK ⟨C,E,F,z⟩=>?_
   have O:zqg (n:Int) (r:Int)=[N9 ((r+1:Nat):Int) ((r+2:Nat):Int) (n:Nat) (r:Nat),Nb 4 ((r+2:Nat):Int) ((r+3:Nat):Int) ((r+2:Nat):Int),N9 ((r+1:Nat):Int) (r:Nat) (r:Nat) ((r+2:Nat):Int)]:=rfl;rw[O];refine .op zkm (.op zye (.op zkm (.nil ⟨?_,?_,?_,λx A=>?_⟩)))
   ·simp[Nc,C]
   ·have P:=z n h;have Q:¬n=r:=J
    simp[Nc,C,E,P,nwt,yw]
   ·simp[Pa,F]
   ·have B:¬x=r:=J
    have G:¬x=r+1:=J
    have T:¬x=r+2:=J
    simp[Nc,B,G,T,z x A]
 rw[L,frL_app];refine Tx.cat (R:=λg=>g.r (r+3)=2∧g.r r=(s.r n*3) ^^^ 2∧g.m=s.m∧∀x,¬(r≤x∧x≤r+3)→g.r x=s.r x) (.op V6 (.op zkm (.op V6 (.op ci (.nil ⟨?_,?_,?_,λx A=>?_⟩))))) λK ⟨C,E,F,z⟩=>?_
 ·simp[Nc]
 ·have U:¬n=r+3:=J
  simp[Nc,U]
 ·simp[Pa]
 ·have B:¬x=r:=J
  have G:¬x=r+1:=J
  have H:¬x=r+3:=J
  simp[Nc,B,G,H]
 rw[frL_app];refine (j 5 K C).cat λZ ⟨b1,V,X,Y⟩=>?_
 refine .op V6 (.op zye (.nil ⟨?_,?_,λx A=>?_⟩))
 ·simp[Nc,V,E,z n h,zsk,yw]
 ·simp[Pa,X,F]
 ·have B:¬x=r:=J
  have H:¬x=r+3:=J
  simp[Nc,B,H,Y x A,z x A]
def zym{n r:Int}{S:List Int}(j:0≤n∧n<64)(B:0≤r∧r+4<64)(z:n∈S)(g:r∈S)(A:r+3∈S):Pk 64 Z S (zqg n r):=by
 refine⟨zc9 J J j J J,Fa,?_,zck J J J J,by simp[Nb],?_,zc9 J J J J J,Fa,?_,trivial⟩
 ·simp[Ov,N9,z,g]
 ·simp[Ov,Nb,Ng,N9,A]
 ·simp[Ov,Ng,N9,Nb,g]
def zrk{C:List Bf}{n r:Int}{S:List Int}(g:0≤n∧n<64)(j:0≤r∧r+4<64)(z:n∈S)(A:r∈S)(B:r+3∈S):∀i,Pk 64 C S (X6 n r i)
 |0=>trivial
 |i+1=>by rw[zci];exact zuh (zrk g j z A B i) (zym g j z A B)
def ry{n r:Int}{S:List Int}(g:0≤n∧n<64)(z:0≤r∧r+4<64)(j:n∈S):Pk 64 Z S (Um n r):=by
 refine ztg (a:=je n r) ?_ ?_
 ·refine⟨zhn J,Dh,Gi,zc9 J J g J J,Fa,?_,zhn J,Dh,Gi,zck J J J J,by simp[Nb],?_,trivial⟩
  ·simp[Ov,Ng,N9,cK,j]
  ·simp[Ov,Ng,N9,cK,Nb]
 ·refine zuh (zrk g z (Iy _ j) ?_ ?_ 5) ?_
  ·simp[je,Ng,cK,N9,Nb]
  ·simp[je,Ng,cK,N9,Nb]
  ·refine⟨zhn J,Dh,Gi,zck J J J J,by simp[Nb],?_,trivial⟩;simp[Ov,Ng,cK,Nb,je,N9]
def zko(n r:Int):(Um n r).length=21:=by
 unfold Um;rw[Ia,Ia,zin];rfl
def iU1:iU 1=1:=by rw[tq];rfl
noncomputable section
def Ug(e:Nat)(d a b n t:Pc)(g:Int):List LV :=
 [.ptr e 0,.i d.buf,.i d.at_,.i d.size,.i a.buf,.i a.at_,.i a.size,.i b.buf,.i b.at_,.i b.size,.i n.buf,.i n.at_,.i n.size,.i t.buf,.i t.at_,.i t.size,
  .i g,.i (g+1),.i (g+2),.i (g+3),.i (g+4),.i (g+5),.i (g+6),.i (g+7),.i (g+8),.i (g+9),.i (g+10)]
def N6(R a b:Int):List Lo:=[N9 (R+5) (R+6) a b,Ny 11 (R+6) (R+8) (R+6) (R+7) R,Ny 11 (R+6) (R+9) (R+6) (R+3) R,Nb 3 (R+5) (R+5) (R+8),Nb 3 (R+3) (R+5) (R+9)]
def O3(t:Pc)(k R:Int):List Lo:=[Nk (R+7) t (-1) k,Ny 11 (R+7) (R+8) (R+7) (R+3) R]
def O0(d times:Int)(b:Fr Lo):Fr Lo:=if times<1 then .nil else .loop (S9 d times) b Tj .nil
def X1(d g:Int)(b:Fr Lo):(O0 d g b).flat=if g<1 then [] else S9 d g::(b.flat++[Tj]):=by
 unfold O0;split<;>rfl
def Tl(a t:Pc)(R j:Int):List Lo:=[Nk (R+4) a j 0,Nk (R+7) t j 0]++(N6 R (R+4) (R+2)++[Nq t j 0 (R+6)])
def Sy(a b t:Pc)(k R D i:Int):Fr Lo:=(Nh [Nk (R+2) b i 0,cK (R+3) 0]).cat ((O0 D k (Nh (Tl a t R D))).cat (Nh (O3 t k R++[Nq t (-1) k (R+7),Nq t (-1) (k+1) (R+8)])))
def T4(n t:Pc)(R j:Int):List Lo:=[Nk (R+4) n j 1,Nk (R+7) t j 1]++(N6 R (R+10) (R+4)++[Nq t j 0 (R+6)])
def Th(n t:Pc)(k R D:Int):Fr Lo:=(Nh ([Nk (R+7) t (-1) 0,N9 (R+5) (R+10) (R+7) (R+1),Nk (R+4) n (-1) 0,cK (R+3) 0]++N6 R (R+10) (R+4))).cat
 ((O0 D (k-1) (Nh (T4 n t R D))).cat (Nh (O3 t k R++[Nq t (-1) (k-1) (R+7),Nk (R+7) t (-1) (k+1),Nb 3 (R+7) (R+7) (R+8),Nq t (-1) k (R+7)])))
def Tq(n t:Pc)(g j:Int):List Lo:=[Nk (g+7) t j 0,Nk (g+4) n j 0,Ny 12 (g+6) (g+8) (g+7) (g+4) (g+8)]
def U2(n t:Pc)(k g j:Int)(x:List Lo):Fr Lo:=(Nh [cK (g+8) 0]).cat (O0 j k (Nh (Tq n t g j++x)))
def Xb(d n t:Pc)(k R D:Int):Fr Lo:=(U2 n t k R D []).cat ((Nh [Nk (R+7) t (-1) k,Ny 12 (R+6) (R+10) (R+7) R (R+8)]).cat (U2 n t k R D [Og (R+6) (R+10) (R+7) (R+6),Nq d D 0 (R+6)]))
def Tt(p:Pc)(a D:Int):Fr Lo:=O0 D p.size (Nh [Nq p D 0 a])
def Vw(d a b n t:Pc)(k R D:Int):Fr Lo:=(Nh ([cK R 0,Nk (R+10) n (-1) 0]++Um (R+10) (R+1))).cat ((Tt t R D).cat ((O0 D k ((Sy a b t k R (D+1) D).cat (Th n t k R (D+1)))).cat (Xb d n t k R D)))
end
section
def vl(f:Nat→UInt64):Nat→Nat
 |0=>0
 |n+1=>vl f n+(f n).toNat*18446744073709551616^n
def Xc(f:Nat→UInt64):∀n,vl f n<18446744073709551616^n
 |0=>Cs
 |n+1=>by
  have h:=Xc f n;have g:(f n).toNat+1≤18446744073709551616:=(f n).toNat_lt;have j:=Ij (18446744073709551616^n) g;rw[Ix,Kb]at j;rw[vl,I3,Jt (18446744073709551616^n)];omega
def Wb{f g:Nat→UInt64}:∀{n:Nat},(∀i,i<n→f i=g i)→vl f n=vl g n
 |0,_=>rfl
 |n+1,h=>by rw[vl,vl,Wb λi hi=>h i J,h n J]
def zpd(f:Nat→UInt64):∀n,vl f (n+1)=(f 0).toNat+18446744073709551616*vl (λi=>f (i+1)) n
 |0=>Cs
 |n+1=>by
  rw[vl,zpd f n,vl,I3]
  grind
structure Pn where
 b:Nat
 a:Nat
 k:Nat
def Pn.p(p:Pn):Pc:=⟨p.b,p.a,p.k⟩
def pl(m:Nat→Nat→UInt64)(p:Pn)(i:Nat):UInt64:=m p.b (p.a+i)
def Dj(p q:Pn):Prop:=p.b≠q.b∨p.a+p.k≤q.a∨q.a+q.k≤p.a
def N8(p:Pn)(m g:Nat→Nat→UInt64):Prop:=∀x y,¬(x=p.b∧p.a≤y∧y<p.a+p.k)→g x y=m x y
def N8.trans{p:Pn}{m m' gg:Nat→Nat→UInt64}(h:N8 p m m')(k:N8 p m' gg):N8 p m gg:=λx y hn=>(k x y hn).trans (h x y hn)
def N8.pl{p q:Pn}{m m':Nat→Nat→UInt64}(h:N8 p m m')(d:Dj p q){i:Nat}(hi:i<q.k):pl m' q i=pl m q i :=
 h _ _ λ⟨h1,h2,h3⟩=>by
  rcases d with d|d|d
  ·exact d h1.symm
  ·omega
  ·omega
def N8.vl{p q:Pn}{m m':Nat→Nat→UInt64}(h:N8 p m m')(d:Dj p q){n:Nat}(hn:n≤q.k):vl (Go.Sv.pl m' q) n=vl (Go.Sv.pl m q) n:=Wb λ_ hi=>h.pl d J
def Wm{p:Pn}{s:Fs}{i:Nat}{v:UInt64}(h:i<p.k):N8 p s.m (s.sto p.b (p.a+i) v).m:=λx y g=>by
 rw[Y1,Hx];rintro⟨rfl,rfl⟩;exact g ⟨rfl,J,J⟩
def Re(p:Pn)(s:Fs)(i j:Nat)(v:UInt64):pl (s.sto p.b (p.a+i) v).m p j=if j=i then v else pl s.m p j:=by
 unfold pl;rw[Y1];by_cases h:j=i
 ·subst h;simp
 ·rw[Hx J,Hx h]
def ie(h:g<18446744073709551616):(UInt64.ofNat g).toNat=g:=Ab
def lf{p:Pn}{x:UInt64}(h:p.a+g+x.toNat<18446744073709551616):(iU (p.p.at_+(g:Int))+x).toNat=p.a+g+x.toNat:=by
 have:p.p.at_+(g:Int)=((p.a+g:Nat):Int):=D7
 rw[this,Jk,Vu J,Iw Ax]
def ac{p:Pn}(h:p.a+g<18446744073709551616):(iU (p.p.at_+(g:Int))).toNat=p.a+g:=by
 have:p.p.at_+(g:Int)=((p.a+g:Nat):Int):=D7
 rw[this,Vu h]
section ls
variable {sz : Nat → Nat} {s : Fs} {p : Pn}
def Xr{d i:Nat}(h:p.a+g+(s.r i).toNat<sz p.b)(j:sz p.b≤65536):Qg sz (Nk d p.p i g) s=some (s.put d (pl s.m p (g+(s.r i).toNat))):=by
 rw[opZ_ld (b:=p.b) (n:=p.a+g+(s.r i).toNat) rfl (lf J) h];unfold pl;rw[Kg]
def ztj{d:Nat}(h:p.a+g<sz p.b)(j:sz p.b≤65536):Qg sz (Nk d p.p (-1) g) s=some (s.put d (pl s.m p g)):=by
 rw[xk (b:=p.b) (n:=p.a+g) rfl (ac J) h];rfl
def ui{v i:Nat}(h:p.a+g+(s.r i).toNat<sz p.b)(j:sz p.b≤65536):Qg sz (Nq p.p i g v) s=some (s.sto p.b (p.a+(g+(s.r i).toNat)) (s.r v)):=by
 rw[opZ_st (b:=p.b) (n:=p.a+g+(s.r i).toNat) rfl (lf J) h,Kg]
def zrm{v:Nat}(h:p.a+g<sz p.b)(j:sz p.b≤65536):Qg sz (Nq p.p (-1) g v) s=some (s.sto p.b (p.a+g) (s.r v)):=by
 rw[opZ_st0 (b:=p.b) (n:=p.a+g) rfl (ac J) h]
end ls
end
variable{T vR uL:Pn}
section
def zed(b:Bool):(Oh b).toNat=b.toNat:=by cases b<;>rfl
def mm(b:Bool):decide (Oh b%2=1)=b:=by cases b<;>decide
def yq{x y w m:UInt64}{hi p q j:UInt64}{g:Bool}(B:hi=Ty x y)(C:U=x*y)(D:Nr U w false=(p,P))(E:Nr p m false=(q,g))(F:vF=hi+Oh P)(G:j=vF+Oh g) :
  q.toNat+18446744073709551616*j.toNat=x.toNat*y.toNat+w.toNat+m.toNat:=by
 have K:=zpo x y;have z:=z8h U w false;have A:=z8h p m false;rw[D]at z;rw[E]at A;subst B C F G;simp only[Bool.toNat_false,Kt]at z A;have L:x.toNat*y.toNat≤18446744073709551615*18446744073709551615:=J1 (by have:=x.toNat_lt;omega) (by have:=y.toNat_lt;omega);have M:=w.toNat_lt;have O:=m.toNat_lt;have Q:=q.toNat_lt;have R:P.toNat≤1:=by cases P<;>decide
 have d2:g.toNat≤1:=by cases g<;>decide
 have H:((Ty x y)+Oh P).toNat=(Ty x y).toNat+P.toNat:=by
  rw[Jk,zed,Iw];omega
 have I:((Ty x y)+Oh P+Oh g).toNat=(Ty x y).toNat+P.toNat+g.toNat:=by
  rw[Jk,H,zed,Iw];omega
 rw[I];omega
section mu
variable {sz : Nat → Nat}
def Rq(R g:Nat):Prop:=R+3≤g∧g≤R+9
def Ye{s:Fs}{R a b:Nat}(z:s.r R=0):Tx sz (Nh (N6 R a b)) s λj=>j.m=s.m∧(j.r (R+6)).toNat+18446744073709551616*(j.r (R+3)).toNat=(s.r a).toNat*(s.r b).toNat+(s.r (R+7)).toNat+(s.r (R+3)).toNat∧∀g,(¬Rq R g∨g=R+4∨g=R+7)→j.r g=s.r g:=by
 have e:N6 (R:Int) a b=[N9 ((R+5:Nat):Int) ((R+6:Nat):Int) (a:Nat) (b:Nat),Ny 11 ((R+6:Nat):Int) ((R+8:Nat):Int) ((R+6:Nat):Int) ((R+7:Nat):Int) (R:Nat),Ny 11 ((R+6:Nat):Int) ((R+9:Nat):Int) ((R+6:Nat):Int) ((R+3:Nat):Int) (R:Nat),Nb 3 ((R+5:Nat):Int) ((R+5:Nat):Int) ((R+8:Nat):Int),Nb 3 ((R+3:Nat):Int) ((R+5:Nat):Int) ((R+9:Nat):Int)]:=rfl;rw[e];unfold Rq at *;refine .op zkm (.op zt3 (.op zt3 (.op zdq (.op zdq (.nil ⟨rfl,?_,λg F=>?_⟩)))))
 ·simp[Nc,z,-UInt64.toNat_add];exact yq (x:=s.r a) (y:=s.r b) (w:=s.r (R+7)) (m:=s.r (R+3)) rfl rfl rfl rfl rfl rfl
 ·have A:¬g=R+5:=J
  have B:¬g=R+6:=J
  have C:¬g=R+8:=J
  have D:¬g=R+9:=J
  have E:¬g=R+3:=J
  simp[Nc,E,A,B,C,D]
def Q7(f:Nat→UInt64)(n:Nat):vl f (n+1)=vl f n+(f n).toNat*18446744073709551616^n:=rfl
def Tx.lp{s:Fs}{d n:Nat}{b:Fr Lo}{Q:Fs→Prop}(gg:Nat→Fs→Prop)(h0:gg 0 s)(hn:n<18446744073709551616)(h1:∀i s,i<n→gg i s→Tx sz b (s.put d (UInt64.ofNat i)) (gg (i+1)))(h2:∀s',gg n s'→Q s'):Tx sz (O0 (d:Nat) (n:Nat) b) s Q:=by
 unfold O0;have e:(S9 (d:Nat) (n:Nat)).imm.toNat=n:=Vu hn;split
 ·have:n=0:=J
  subst this;exact .nil (h2 _ h0)
 ·refine .loop gg h0 (λi s hi I=>?_) λs' I=>.nil (h2 _ ?_)
  ·rw[e]at hi;exact h1 i s hi I
  ·rw[e]at I;exact I
def we(R z:Nat)(s j:Fs):Prop:=∀g,¬Rq R g→g≠z→j.r g=s.r g
def RgA(R z:Nat)(s j:Fs):Prop:=∀g,¬(R+2≤g∧g≤R+10)→g≠z→j.r g=s.r g
def Pn.in_(sz:Nat→Nat)(p:Pn):Prop:=p.a+p.k≤sz p.b∧sz p.b≤65536
def zt8{s:Fs}{R j:Nat}{a t:Pn}(I:s.r R=0)(Y:g<R)(F:(s.r g).toNat=j)(K:a.in_ sz)(L:t.in_ sz)(Z:j<a.k)(jt:j<t.k) :
  Tx sz (Nh (Tl a.p t.p R g)) s λC=>∃q:UInt64,(∀i,pl C.m t i=if i=j then q else pl s.m t i)∧N8 t s.m C.m∧we R g s C ∧
   q.toNat+18446744073709551616*(C.r (R+3)).toNat=(pl s.m a j).toNat*(s.r (R+2)).toNat+(pl s.m t j).toNat+(s.r (R+3)).toNat:=by
 obtain⟨M,D⟩:=K;obtain⟨O,A⟩:=L;have e:Tl a.p t.p R g=[Nk ((R+4:Nat):Int) a.p (g:Nat) ((0:Nat):Int),Nk ((R+7:Nat):Int) t.p (g:Nat) ((0:Nat):Int)]++(N6 R ((R+4:Nat):Int) ((R+2:Nat):Int)++[Nq t.p (g:Nat) ((0:Nat):Int) ((R+6:Nat):Int)]):=rfl;rw[e,frL_app,frL_app];have E:∀n,n<11→¬g=R+n:=λn h=>J
 refine .op (Xr J D) (.op (Xr (by simp only[Nc,Hx (E 4 J)];omega) A) ((Ye (by simp[Nc,I])).cat λB ⟨m1,P,G⟩=>?_));have z:B.r g=s.r g:=by rw[G _ (.inl Au)];simp[Nc,E]
 refine .op (ui F5 A) (.nil ⟨B.r (R+6),λi=>?_,?_,λQ H T=>?_,?_⟩)
 ·rw[Re,z,F,m1];simp[Pa]
 ·have:=Wm (p:=t) (s:=B) (i:=0+(B.r g).toNat) (v:=B.r (R+6)) F5;intro x y U;rw[this x y U,m1];rfl
 ·rw[Su,G Q (.inl H)];unfold Rq at H;have V:¬Q=R+4:=J
  have X:¬Q=R+7:=J
  simp[Nc,V,X]
 ·rw[Su];simpa [Nc,Pa,E,F] using P
def ky{W v r y q x t:Nat}(h:v+g*r=j+A*y)(k:q+W*D=x*y+t+r):v+q*g+g*W*D=j+t*g+(A+x*g)*y:=by
 have z:g*(q+W*D)=g*(x*y+t+r):=Gk
 grind
def yd{W v r y p c t:Nat}(h:v+g*r=j+A*y)(k:p+W*c=t+r):v+p*g+c*(g*W)=j+t*g+A*y:=by
 have z:g*(p+W*c)=g*(t+r):=Gk
 grind
def tg{s:Fs}{R k:Nat}{t:Pn}(z:s.r R=0)(B:t.in_ sz)(G:k+2≤t.k)(r:Fr Lo)(F:Fs→Prop)
  (h:∀(g:Fs) (c:Bool),g.m=s.m→g.r (R+8)=Oh c→(g.r (R+7)).toNat+18446744073709551616*c.toNat=(pl s.m t k).toNat+(s.r (R+3)).toNat→(∀A,A≠R+7→A≠R+8→g.r A=s.r A)→Tx sz r g F) :
  Tx sz ((Nh (O3 t.p k R)).cat r) s F:=by
 obtain⟨C,j⟩:=B;have e:O3 t.p k R=[Nk ((R+7:Nat):Int) t.p (-1) (k:Nat),Ny 11 ((R+7:Nat):Int) ((R+8:Nat):Int) ((R+7:Nat):Int) ((R+3:Nat):Int) (R:Nat)]:=rfl;rw[e];refine .op (ztj J j) (.op zt3 ?_);refine h _ (Nr (pl s.m t k) (s.r (R+3)) false).2 rfl ?_ ?_ λA D E=>?_
 ·simp[Nc,z]
 ·have:=z8h (pl s.m t k) (s.r (R+3)) false;simpa [Nc,z] using this
 ·simp[Nc,D,E]
def s9{s:Fs}{R i k:Nat}{a b t:Pn}(hR:s.r R=0)(hD:A<R)(hi:(s.r i).toNat<b.k)(hb:b.in_ sz)(ha:a.in_ sz)(V:t.in_ sz)(hk:k≤a.k)(O:k+2≤t.k)(dj:Dj t a)(hW:sz t.b≤65536) :
  Tx sz (Sy a.p b.p t.p k R A i) s λI=>RgA R A s I∧N8 t s.m I.m∧vl (pl I.m t) (k+2)=vl (pl s.m t) (k+1)+vl (pl s.m a) k*(pl s.m b (s.r i).toNat).toNat∧(pl I.m t (k+1)).toNat≤1:=by
 have e:Sy a.p b.p t.p k R A i=(Nh [Nk ((R+2:Nat):Int) b.p (i:Nat) ((0:Nat):Int),cK ((R+3:Nat):Int) 0]).cat ((O0 (A:Nat) (k:Nat) (Nh (Tl a.p t.p R A))).cat ((Nh (O3 t.p k R)).cat (Nh [Nq t.p (-1) (k:Nat) ((R+7:Nat):Int),Nq t.p (-1) ((k+1:Nat):Int) ((R+8:Nat):Int)]))):=by
  rw[←frL_app];rfl
 rw[e];obtain⟨gg,P⟩:=hb;have F:=V;obtain⟨gz,G⟩:=V;have dn:∀n,n<11→¬A=R+n:=λn h=>J
 refine .op (Xr J P) (.op V6 ?_);rw[show ∀g:Fr Lo,Fr.cat (Nh []) g=g from λ_=>rfl];generalize C:(Fs.put (s.put (R+2) (pl s.m b (0+(s.r i).toNat))) (R+3) 0)=B;have X:B.m=s.m:=by rw[←C];rfl
 have y0:B.r (R+2)=pl s.m b (s.r i).toNat:=by rw[←C];simp[Nc]
 have c0:B.r (R+3)=0:=by rw[←C];simp[Nc]
 have Y:∀D,D≠R+2→D≠R+3→B.r D=s.r D:=λD h2 h3=>by rw[←C];simp[Nc,h2,h3]
 have Z:B.r R=0:=by rw[Y R J J,hR]
 refine .cat (R:=λz=>we R A B z∧N8 t s.m z.m∧(∀i,k≤i→pl z.m t i=pl s.m t i)∧vl (pl z.m t) k+18446744073709551616^k*(z.r (R+3)).toNat=vl (pl s.m t) k+vl (pl s.m a) k*(B.r (R+2)).toNat) ?_ λz ⟨K,L,M,Q⟩=>?_
 ·refine .lp (λH z=>we R A B z∧N8 t s.m z.m∧(∀i,H≤i→pl z.m t i=pl s.m t i)∧vl (pl z.m t) H+18446744073709551616^H*(z.r (R+3)).toNat=vl (pl s.m t) H+vl (pl s.m a) H*(B.r (R+2)).toNat) ⟨λ_ _ _=>rfl,λ_ _ _=>by rw[X],λ_ _=>by rw[X],by simp[vl,c0]⟩ J (λH z hj ⟨K,L,M,Q⟩=>?_) λ_ h=>h
  have E:∀D,¬Rq R D→D≠A→(z.put A (UInt64.ofNat H)).r D=B.r D:=λD a b=>by rw[Nc,Hx b,K D a b]
  have j3:(z.put A (UInt64.ofNat H)).r (R+3)=z.r (R+3):=Gz
  refine (zt8 (j:=H) (by rw[E _ Au J,Z]) hD Bn ha F J J).mono λs2 ⟨q,T,e2,e3,e4⟩=>⟨λD a b=>(e3 D a b).trans (E D a b),L.trans e2,λi hi=>?_,?_⟩
  ·rw[T,Hx J];exact M i J
  ·rw[E _ Au J,Pa,L.pl dj J,M H J,j3]at e4;rw[Q7,Q7,Q7,T,H6 rfl,I3,Wb (g:=pl z.m t) λi hi=>by rw[T,Hx J];rfl];exact ky Q e4
 ·refine tg (by rw[K _ Au J,Z]) F O _ _ λs2 c m2 c2 v2 r2=>?_
  refine .op (zrm J G) (.op (zrm J G) (.nil ⟨λD hz U=>?_,?_,?_,?_⟩))
  ·rw[Su,Su,r2 D J J,K D Au U,Y D J J]
  ·exact L.trans (m2 ▸ (Wm J).trans (Wm J))
  ·rw[Q7,Q7,Q7,Re,Re,Re,H6 rfl,Hx J,H6 rfl,Su,c2,zed,Wb (g:=pl z.m t) λi hi=>by rw[Re,Hx J,Re,Hx J,m2],I3,←y0];rw[M k J]at v2;exact yd Q v2
  ·rw[Re,H6 rfl,Su,c2,zed];cases c<;>decide
def zy9{s:Fs}{R j:Nat}{n t:Pn}(K:s.r R=0)(X:g<R)(G:(s.r g).toNat=j)(D:n.in_ sz)(L:t.in_ sz)(Y:j+1<n.k)(Z:j+1<t.k) :
  Tx sz (Nh (T4 n.p t.p R g)) s λC=>∃q:UInt64,(∀i,pl C.m t i=if i=j then q else pl s.m t i)∧N8 t s.m C.m∧we R g s C ∧
   q.toNat+18446744073709551616*(C.r (R+3)).toNat=(s.r (R+10)).toNat*(pl s.m n (j+1)).toNat+(pl s.m t (j+1)).toNat+(s.r (R+3)).toNat:=by
 obtain⟨M,E⟩:=D;obtain⟨O,A⟩:=L;have e:T4 n.p t.p R g=[Nk ((R+4:Nat):Int) n.p (g:Nat) ((1:Nat):Int),Nk ((R+7:Nat):Int) t.p (g:Nat) ((1:Nat):Int)]++(N6 R ((R+10:Nat):Int) ((R+4:Nat):Int)++[Nq t.p (g:Nat) ((0:Nat):Int) ((R+6:Nat):Int)]):=rfl;rw[e,frL_app,frL_app];have F:∀n,n<11→¬g=R+n:=λn h=>J
 refine .op (Xr J E) (.op (Xr (by simp only[Nc,Hx (F 4 J)];omega) A) ((Ye (by simp[Nc,K])).cat λB ⟨m1,P,H⟩=>?_));have z:B.r g=s.r g:=by rw[H _ (.inl Au)];simp[Nc,F]
 refine .op (ui F5 A) (.nil ⟨B.r (R+6),λi=>?_,?_,λQ I T=>?_,?_⟩)
 ·rw[Re,z,G,m1];simp[Pa]
 ·have:=Wm (p:=t) (s:=B) (i:=0+(B.r g).toNat) (v:=B.r (R+6)) F5;intro x y D;rw[this x y D,m1];rfl
 ·rw[Su,H Q (.inl I)];unfold Rq at I;have U:¬Q=R+4:=J
  have V:¬Q=R+7:=J
  simp[Nc,U,V]
 ·rw[Su];simpa [Nc,Pa,F,G,Nat.add_comm 1] using P
def eh{W v r m q x t:Nat}(h:W*v+g*W*r=j+m*A)(k:q+W*D=m*x+t+r):W*(v+q*g)+g*W*W*D=j+t*(g*W)+m*(A+x*(g*W)):=by
 have z:g*W*(q+W*D)=g*W*(m*x+t+r):=Gk
 grind
def rz{W v r m p c t u:Nat}(h:W*v+g*W*r=j+m*A)(k:p+W*c=t+r):W*(v+p*g+(u+c)*(g*W))=j+t*(g*W)+u*(g*W*W)+m*A:=by
 have z:g*W*(p+W*c)=g*W*(t+r):=Gk
 grind
def x5{t i n q h:UInt64}(hi:i*n+1=0)(e:q.toNat+18446744073709551616*h.toNat=(t*i).toNat*n.toNat+t.toNat):q.toNat=0:=by
 have g:(t*i*n+t).toNat=0:=by
  rw[(Cv:t*i*n+t=t*(i*n+1)),hi];simp
 rw[Jk,Mi]at g;have:=q.toNat_lt;omega
def down_ex{s:Fs}{R k:Nat}{n t:Pn}(hR:s.r R=0)(hD:A<R)(I:s.r (R+1)*pl s.m n 0+1=0)(hn:n.in_ sz)(ht:t.in_ sz)(hk:k+1≤n.k)(gz:k+3≤t.k)(dj:Dj t n)(hc:(pl s.m t (k+2)).toNat≤1) :
  Tx sz (Th n.p t.p (k+1:Nat) R A) s λO=>RgA R A s O∧N8 t s.m O.m∧pl O.m t (k+2)=pl s.m t (k+2)∧∃m:UInt64,18446744073709551616*vl (pl O.m t) (k+2)=vl (pl s.m t) (k+3)+m.toNat*vl (pl s.m n) (k+1):=by
 have U:((k+1:Nat):Int)-1=(k:Nat):=J
 have e:Th n.p t.p (k+1:Nat) R A=(Nh ([Nk ((R+7:Nat):Int) t.p (-1) ((0:Nat):Int),N9 ((R+5:Nat):Int) ((R+10:Nat):Int) ((R+7:Nat):Int) ((R+1:Nat):Int),Nk ((R+4:Nat):Int) n.p (-1) ((0:Nat):Int),cK ((R+3:Nat):Int) 0]++N6 R ((R+10:Nat):Int) ((R+4:Nat):Int))).cat
   ((O0 (A:Nat) (k:Nat) (Nh (T4 n.p t.p R A))).cat ((Nh (O3 t.p (k+1:Nat) R)).cat (Nh [Nq t.p (-1) (k:Nat) ((R+7:Nat):Int),Nk ((R+7:Nat):Int) t.p (-1) ((k+2:Nat):Int),Nb 3 ((R+7:Nat):Int) ((R+7:Nat):Int) ((R+8:Nat):Int),Nq t.p (-1) ((k+1:Nat):Int) ((R+7:Nat):Int)]))):=by
  rw[←frL_app,←U];rfl
 rw[e];have V:=hn;have K:=ht;obtain⟨gA,D⟩:=hn;obtain⟨gC,E⟩:=ht;have dn:∀n,n<11→¬A=R+n:=λn h=>J
 rw[frL_app];refine Tx.cat (R:=λB=>(∀C,¬Rq R C→C≠R+10→B.r C=s.r C)∧B.m=s.m∧18446744073709551616*(B.r (R+3)).toNat=(B.r (R+10)).toNat*(pl s.m n 0).toNat+(pl s.m t 0).toNat) ?_ λB ⟨g1,m1,L⟩=>?_
 ·refine .op (ztj J E) (.op zkm (.op (ztj J D) (.op V6 ((Ye (by simp[Nc,hR])).mono λB ⟨m1,L,r1⟩=>⟨λC X F=>?_,?_,?_⟩))))
  ·rw[r1 C (.inl X)];unfold Rq at X;have z3:¬C=R+3:=J
   have z4:¬C=R+4:=J
   have z5:¬C=R+5:=J
   have Y:¬C=R+7:=J
   simp[Nc,z3,z4,z5,Y,F]
  ·rw[m1];rfl
  ·have M:=r1 (R+10) (.inl Au);simp[Nc,Pa]at L M;rw[M];have:=x5 (t:=pl s.m t 0) I (by simpa using L);rw[Mi,show (2:Nat)^64=18446744073709551616 from rfl];rw[this,Iz]at L;exact L
 have R1:B.r R=0:=by rw[g1 R Au J,hR]
 refine .cat (R:=λz=>we R A B z∧N8 t s.m z.m∧(∀i,k≤i→pl z.m t i=pl s.m t i)∧18446744073709551616*vl (pl z.m t) k+18446744073709551616^k*18446744073709551616*(z.r (R+3)).toNat=vl (pl s.m t) (k+1)+(B.r (R+10)).toNat*vl (pl s.m n) (k+1)) ?_ λz ⟨P,Q,G,Z⟩=>?_
 ·refine .lp (λH z=>we R A B z∧N8 t s.m z.m∧(∀i,H≤i→pl z.m t i=pl s.m t i)∧18446744073709551616*vl (pl z.m t) H+18446744073709551616^H*18446744073709551616*(z.r (R+3)).toNat=vl (pl s.m t) (H+1)+(B.r (R+10)).toNat*vl (pl s.m n) (H+1)) ⟨λ_ _ _=>rfl,λ_ _ _=>by rw[m1],λ_ _=>by rw[m1],by simp[vl];omega⟩ J (λH z hj ⟨P,Q,G,Z⟩=>?_) λ_ h=>h
  have D:∀C,¬Rq R C→C≠A→(z.put A (UInt64.ofNat H)).r C=B.r C:=λC a b=>by rw[Nc,Hx b,P C a b]
  have j3:(z.put A (UInt64.ofNat H)).r (R+3)=z.r (R+3):=Gz
  refine (zy9 (j:=H) (by rw[D _ Au J,R1]) hD Bn V K J J).mono λs3 ⟨q,e1,e2,e3,e4⟩=>⟨λC a b=>(e3 C a b).trans (D C a b),Q.trans e2,λi hi=>?_,?_⟩
  ·rw[e1,Hx J];exact G i J
  ·rw[D _ Au J,Pa,Q.pl dj J,G (H+1) J,j3]at e4;rw[Q7,Q7 _ (H+1),Q7 _ (H+1),e1,H6 rfl,I3,Wb (g:=pl z.m t) λi hi=>by rw[e1,Hx J];rfl];exact eh Z e4
 ·refine tg (by rw[P _ Au J,R1]) K J _ _ λs3 c T c3 v3 r3=>?_
  refine .op (zrm J E) (.op (ztj J E) (.op zdq (.op (zrm J E) (.nil ⟨λC X F=>?_,?_,?_,B.r (R+10),?_⟩))))
  ·have Y:¬C=R+7:=J
   simp only[Su,Nc,Hx Y];rw[r3 C J J,P C Au F,g1 C Au J]
  ·exact Q.trans (T ▸ (Wm J).trans (Wm (p:=t) J))
  ·rw[Re,Hx J,Pa,Pa,Re,Hx J,T,G (k+2) J]
  ·rw[G (k+1) J]at v3;have gg:((pl s.m t (k+2))+Oh c).toNat=(pl s.m t (k+2)).toNat+c.toNat:=by
    rw[Jk,zed,Iw];have:c.toNat≤1:=by cases c<;>decide
    omega
   rw[Q7 _ (k+2),Q7 _ (k+1),Q7 _ (k+1),Q7 _ k,Wb (g:=pl z.m t) (n:=k) λi hi=>by rw[Re,Hx J,Pa,Pa,Re,Hx J,T]];have hu:=G (k+2) J;simp[Nc,Pa,Su,Re,c3,-UInt64.toNat_add,T];rw[hu,gg,I3,I3];exact rz Z v3
def zc7{W v n t c q x y b:Nat}(h:v+n=t+g*c)(k:q+x+c=y+W*b):v+q*g+(n+x*g)=t+y*g+g*W*b:=by
 have j:g*(q+x+c)=g*(y+W*b):=Gk
 grind
def zsc{s:Fs}{j:Nat}{n t:Pn}{c:Bool}(U:A<g)(D:(s.r A).toNat=j)(G:s.r (g+8)=Oh c)(H:n.in_ sz)(I:t.in_ sz)(V:j<n.k)(X:j<t.k)(x:List Lo)(T:Fs→Prop)
  (h:∀(z:Fs) (b:Bool),z.m=s.m→z.r (g+8)=Oh b→z.r (g+7)=pl s.m t j→(z.r (g+6)).toNat+(pl s.m n j).toNat+c.toNat=(pl s.m t j).toNat+18446744073709551616*b.toNat→(∀C,¬Rq g C→z.r C=s.r C)→Tx sz (Nh x) z T) :
  Tx sz (Nh (Tq n.p t.p g A++x)) s T:=by
 obtain⟨K,E⟩:=H;obtain⟨L,F⟩:=I;have e:Tq n.p t.p g A++x=Nk ((g+7:Nat):Int) t.p (A:Nat) ((0:Nat):Int)::Nk ((g+4:Nat):Int) n.p (A:Nat) ((0:Nat):Int)::Ny 12 ((g+6:Nat):Int) ((g+8:Nat):Int) ((g+7:Nat):Int) ((g+4:Nat):Int) ((g+8:Nat):Int)::x:=rfl;rw[e];have B:∀n,n<11→¬A=g+n:=λn h=>J
 refine .op (Xr J F) (.op (Xr (by simp only[Nc,Hx (B 7 J)];omega) E) (.op zjg ?_));have hv:=zcm (pl s.m t j) (pl s.m n j) c;refine h _ (Ot (pl s.m t j) (pl s.m n j) c).2 rfl ?_ ?_ ?_ λC M=>?_
 ·simp[Nc,Pa,B,D,G,mm]
 ·simp[Nc,Pa,B,D]
 ·simpa [Nc,Pa,B,D,G,mm] using hv
 ·unfold Rq at M;have O:¬C=g+4:=J
  have P:¬C=g+6:=J
  have Q:¬C=g+7:=J
  have R:¬C=g+8:=J
  simp[Nc,O,P,Q,R]
def less_ex{s:Fs}{k:Nat}{n t:Pn}(I:A<g)(E:n.in_ sz)(K:t.in_ sz)(Y:k≤n.k)(L:k≤t.k) :
  Tx sz (U2 n.p t.p k g A []) s λF=>we g A s F∧F.m=s.m∧∃(c:Bool) (v:Nat),F.r (g+8)=Oh c∧v<18446744073709551616^k∧v+vl (pl s.m n) k=vl (pl s.m t) k+18446744073709551616^k*c.toNat:=by
 have M:k<18446744073709551616:=by have:=E.1;have:=E.2;omega
 have e:U2 n.p t.p k g A []=(Nh [cK ((g+8:Nat):Int) 0]).cat (O0 (A:Nat) (k:Nat) (Nh (Tq n.p t.p g A++[]))):=rfl;rw[e];refine .op V6 ?_;refine .lp (λB C=>we g A s C∧C.m=s.m∧∃(c:Bool) (v:Nat),C.r (g+8)=Oh c∧v<18446744073709551616^B∧v+vl (pl s.m n) B=vl (pl s.m t) B+18446744073709551616^B*c.toNat) ⟨λO D _=>?_,rfl,false,0,by simp[Nc,Oh],N,Cs⟩ M (λB C Z ⟨P,m1,c,v,Q,l1,R⟩=>?_) λ_ h=>h
 ·unfold Rq at D;rw[Nc,Hx J]
 ·refine zsc (j:=B) (c:=c) I Bn (by rw[Nc,Hx J,Q]) E K J J _ _ λG b T U t2 H V=>.nil ⟨λO D z=>?_,by rw[T,Pa,m1],b,v+(G.r (g+6)).toNat*18446744073709551616^B,U,?_,?_⟩
  ·rw[V O D,Nc,Hx z,P O D z]
  ·have:=(G.r (g+6)).toNat_lt;have X:=Ij (18446744073709551616^B) (J:(G.r (g+6)).toNat+1≤18446744073709551616);rw[Ix,Kb]at X;rw[I3,Jt (18446744073709551616^B)];omega
  ·rw[Pa,m1]at H;rw[Q7,Q7,I3];exact zc7 R H
def DjE(p q:Pn):Prop:=Dj p q∨(p.b=q.b∧p.a=q.a)
def DjE.sto{d n:Pn}{s:Fs}{v:UInt64}{i j:Nat}(h:DjE d n)(hj:j<d.k)(hi:i<n.k)(gg:i≠j):pl (s.sto d.b (d.a+j) v).m n i=pl s.m n i:=by
 rcases h with h|⟨e1,e2⟩
 ·exact (Wm hj).pl h hi
 ·unfold pl;rw[Y1,Hx J]
def yk{s:Fs}{k:Nat}{d n t:Pn}{p:Bool}(Z:D<A)(hp:s.r (A+10)=Oh p)(L:n.in_ sz)(ht:t.in_ sz)(hd:d.in_ sz)(hk:k≤n.k)(gg:k≤t.k)(gz:k≤d.k)(dn:DjE d n)(V:Dj d t) :
  Tx sz (U2 n.p t.p k A D [Og (A+6) (A+10) (A+7) (A+6),Nq d.p D 0 (A+6)]) s λM=>we A D s M∧N8 d s.m M.m∧∃(c:Bool) (v:Nat),v<18446744073709551616^k∧v+vl (pl s.m n) k=vl (pl s.m t) k+18446744073709551616^k*c.toNat∧vl (pl M.m d) k=if p=true then vl (pl s.m t) k else v:=by
 have hW:k<18446744073709551616:=by have:=L.1;have:=L.2;omega
 have e:U2 n.p t.p k A D [Og (A+6) (A+10) (A+7) (A+6),Nq d.p D 0 (A+6)]=(Nh [cK ((A+8:Nat):Int) 0]).cat (O0 (D:Nat) (k:Nat) (Nh (Tq n.p t.p A D++[Og ((A+6:Nat):Int) ((A+10:Nat):Int) ((A+7:Nat):Int) ((A+6:Nat):Int),Nq d.p (D:Nat) ((0:Nat):Int) ((A+6:Nat):Int)]))):=rfl;rw[e];refine .op V6 ?_;refine .lp (λB C=>we A D s C∧N8 d s.m C.m∧∃(c:Bool) (v:Nat),C.r (A+8)=Oh c∧v<18446744073709551616^B∧v+vl (pl s.m n) B=vl (pl s.m t) B+18446744073709551616^B*c.toNat∧vl (pl C.m d) B=(if p=true then vl (pl s.m t) B else v)∧∀i,B≤i→i<n.k→pl C.m n i=pl s.m n i) ⟨λgA F _=>?_,λ_ _ _=>rfl,false,0,by simp[Nc,Oh],N,Cs,Cs,λ_ _ _=>rfl⟩ hW (λB C hj ⟨X,O,c,v,c1,l1,v1,d1,Y⟩=>?_) λ_ ⟨h1,h2,c,v,_,P,h4,h5,_⟩=>⟨h1,h2,c,v,P,h4,h5⟩
 ·unfold Rq at F;rw[Nc,Hx J]
 ·refine zsc (j:=B) (c:=c) Z Bn (by rw[Nc,Hx J,c1]) L ht J J _ _ λz b I b2 Q R T=>?_
  have gC:(z.r D).toNat=B:=by rw[T D Au];simp[Nc];omega
  rw[Pa]at Q R I;rw[Y B (H9 _) J,O.pl V J]at R;rw[O.pl V J]at Q;have U:z.r (A+10)=Oh p:=by rw[T _ Au,Nc,Hx J,X _ Au J,hp]
  refine .op zo8 (.op (ui (by simp only[Nc];rw[Hx J];have:=hd.1;omega) hd.2) (.nil ⟨λgA F G=>?_,?_,b,v+(z.r (A+6)).toNat*18446744073709551616^B,?_,?_,?_,?_,λi hi H=>?_⟩))
  ·rw[Su,Nc,Hx (by unfold Rq at F;omega),T gA F,Nc,Hx G,X gA F G]
  ·refine O.trans (I ▸ ?_);exact Wm (p:=d) (s:=z.put _ _) Gt
  ·rw[Su,Nc,Hx J,b2]
  ·have:=(z.r (A+6)).toNat_lt;have P:=Ij (18446744073709551616^B) (J:(z.r (A+6)).toNat+1≤18446744073709551616);rw[Ix,Kb]at P;rw[I3,Jt (18446744073709551616^B)];omega
  ·rw[Q7,Q7,I3];exact zc7 v1 R
  ·have E:0+((z.put (A+6) (if z.r (A+10)%2=1 then z.r (A+7) else z.r (A+6))).r D).toNat=B:=Gt
   rw[Q7,E,Re,H6 rfl,Wb (g:=pl C.m d) (n:=B) λi hi=>by rw[Re,Hx J,Pa,I],d1,Nc,H6 rfl,U,Q];have K:=mm p;cases p
   ·simp at K;simp[K]
   ·simp at K;simp[K,Q7]
  ·have E:0+((z.put (A+6) (if z.r (A+10)%2=1 then z.r (A+7) else z.r (A+6))).r D).toNat=B:=Gt
   rw[E,dn.sto J H J,Pa,I];exact Y i J H
def uq{t c b v e:Nat}{W q:Nat}(D:A<g)(E:j+t*g<2*A)(hv:v<g)(z:c≤1)(B:b≤1)(h:v+A=j+g*c)(k:q+c=t+W*b)(F:q<W)(G:e+A=j+g*c):(j+t*g<A↔b=1)∧(b=1→t=0)∧(b=0→e=j+t*g-A):=by
 have C:t≤1:=by
  rcases Ks t 2 with h|h
  ·omega
  ·have:=Ij g h;omega
 have C:t=0∨t=1:=J
 have z:c=0∨c=1:=J
 have B:b=0∨b=1:=J
 rcases C with rfl|rfl<;>rcases z with rfl|rfl<;>rcases B with rfl|rfl<;>simp at *<;>omega
def last_ex{s:Fs}{R k:Nat}{d n t:Pn}(P:s.r R=0)(F:g<R)(G:n.in_ sz)(z:t.in_ sz)(hd:d.in_ sz)(H:k≤n.k)(Q:k+1≤t.k)(A:k≤d.k)(T:DjE d n)(U:Dj d t)(I:vl (pl s.m t) (k+1)<2*vl (pl s.m n) k) :
  Tx sz (Xb d.p n.p t.p k R g) s λB=>RgA R g s B∧N8 d s.m B.m∧vl (pl B.m d) k=if vl (pl s.m t) (k+1)<vl (pl s.m n) k then vl (pl s.m t) (k+1) else vl (pl s.m t) (k+1)-vl (pl s.m n) k:=by
 have e:Xb d.p n.p t.p k R g=(U2 n.p t.p k R g []).cat ((Nh [Nk ((R+7:Nat):Int) t.p (-1) (k:Nat),Ny 12 ((R+6:Nat):Int) ((R+10:Nat):Int) ((R+7:Nat):Int) (R:Nat) ((R+8:Nat):Int)]).cat (U2 n.p t.p k R g [Og (R+6) (R+10) (R+7) (R+6),Nq d.p g 0 (R+6)])):=rfl;rw[e];refine (less_ex F G z H J).cat λV ⟨K,m1,c,v,X,Y,Z⟩=>?_
 have hT:=zcm (pl s.m t k) 0 c;refine .op (ztj (by have:=z.1;omega) z.2) (.op zjg ?_);have R1:V.r R=0:=by rw[K R Au J,P]
 refine (yk (p:=(Ot (pl s.m t k) 0 c).2) F ?_ G z hd H J A T U).mono λs3 ⟨g3,o3,L,v',l3,C,M⟩=>⟨λgg hz j=>?_,?_,?_⟩
 ·simp[Nc,R1,X,mm,m1]
 ·rw[g3 gg Au j];simp only[Nc];rw[Hx J,Hx J,Hx J,K gg Au j]
 ·rw[←m1];exact o3
 ·simp only[Pa,m1]at C M;rw[Q7]at I ⊢;have hN:=Xc (pl s.m n) k;have hq:=(Ot (pl s.m t k) 0 c).1.toNat_lt;have D:c.toNat≤1:=by cases c<;>decide
  have E:L.toNat=c.toNat:=by
   rcases c with _|_<;>rcases L with _|_<;>simp at *<;>omega
  rw[E]at C;generalize (Ot (pl s.m t k) 0 c).2=b at *;have hb:b.toNat≤1:=by cases b<;>decide
  obtain⟨O,q2,q3⟩:=uq hN I Y D hb Z (by simpa using hT) hq C;rw[M];cases b
  ·rw[Hx N,Hx (by rw[O];simp),q3 rfl]
  ·rw[H6 rfl,H6 (by rw[O];rfl),q2 rfl];simp
def zsn{s:Fs}{D a:Nat}{p:Pn}(G:p.in_ sz)(B:a≠D):Tx sz (Tt p.p a D) s λA=>(∀z,z≠D→A.r z=s.r z)∧N8 p s.m A.m∧∀i,i<p.k→pl A.m p i=s.r a:=by
 have e:Tt p.p a D=O0 (D:Nat) (p.k:Nat) (Nh [Nq p.p (D:Nat) ((0:Nat):Int) (a:Nat)]):=rfl;rw[e];obtain⟨L,H⟩:=G;refine .lp (λF j=>(∀z,z≠D→j.r z=s.r z)∧N8 p s.m j.m∧∀i,i<F→pl j.m p i=s.r a) ⟨λ_ _=>rfl,λ_ _ _=>rfl,λ_ h=>absurd h J⟩ J (λF j M ⟨C,I,K⟩=>?_) λ_ h=>h
 have g:((j.put D (UInt64.ofNat F)).r D).toNat=F:=Bn
 refine .op (ui (by rw[g];omega) H) (.nil ⟨λz E=>?_,?_,λi hi=>?_⟩)
 ·rw[Su,Nc,Hx E,C z E]
 ·exact I.trans (Wm (p:=p) (s:=j.put _ _) (by rw[g];omega))
 ·rw[Re,g];split
  ·rw[Nc,Hx B,C a B]
  ·rw[Pa];exact K i J
def zij{f:Nat→UInt64}:∀{n:Nat},(∀i,i<n→f i=0)→vl f n=0
 |0,_=>rfl
 |n+1,h=>by rw[vl,zij λi hi=>h i J,h n J];simp
def e9{W b m:Nat}(h:g*vU=j*A+D*Q)(z:u9=vU+j*b)(B:W*vK=u9+m*Q):g*W*vK=j*(A+b*g)+(D+m*g)*Q:=by
 have:g*(W*vK)=g*(vU+j*b+m*Q):=by rw[B,z]
 grind
def tf{W b m:Nat}(F:A<2*j)(G:g<j)(H:b<W)(hm:m<W)(z:Q=A+g*b)(B:W*D=Q+m*j):D<2*j:=by
 have C:g*b≤j*(W-1):=J1 J J;have I:m*j≤(W-1)*j:=Ij _ J;have K:(W-1)*j+j=W*j:=by
  rw[←L9];congr 1;omega
 rw[Jt j]at C;have E:W*D<W*(2*j):=by
  rw[B,z,M5];omega
 exact Nat.lt_of_mul_lt_mul_left E
def Z4{s:Fs}{R D k:Nat}{d a b n t:Pn}(hD:D+1<R)(hd:d.in_ sz)(ha:a.in_ sz)(hb:b.in_ sz)(K:n.in_ sz)(O:t.in_ sz)(kd:k+1≤d.k)(ka:k+1≤a.k)(kb:k+1≤b.k)(G:k+1≤n.k)(kt:k+3≤t.k)
  (dn:DjE d n) (dt:Dj d t) (ta:Dj t a) (tb:Dj t b) (H:Dj t n) (gg:pl s.m n 0%2=1) (hA:vl (pl s.m a) (k+1)<vl (pl s.m n) (k+1)) :
  Tx sz (Vw d.p a.p b.p n.p t.p (k+1:Nat) R D) s λX=>(∀g,¬(R≤g∧g≤R+10)→g≠D→g≠D+1→X.r g=s.r g)∧(∀x y,¬(x=d.b∧d.a≤y∧y<d.a+d.k)→¬(x=t.b∧t.a≤y∧y<t.a+t.k)→X.m x y=s.m x y) ∧
   vl (pl X.m d) (k+1)<vl (pl s.m n) (k+1)∧∃P Q':Nat,18446744073709551616^(k+1)*vl (pl X.m d) (k+1)+Q'*vl (pl s.m n) (k+1)=vl (pl s.m a) (k+1)*vl (pl s.m b) (k+1)+P*vl (pl s.m n) (k+1):=by
 have e:Vw d.p a.p b.p n.p t.p (k+1:Nat) R D=(Nh ([cK (R:Nat) 0,Nk ((R+10:Nat):Int) n.p (-1) ((0:Nat):Int)]++Um ((R+10:Nat):Int) ((R+1:Nat):Int))).cat ((Tt t.p (R:Nat) (D:Nat)).cat ((O0 (D:Nat) (k+1:Nat) ((Sy a.p b.p t.p (k+1:Nat) R ((D+1:Nat):Int) D).cat (Th n.p t.p (k+1:Nat) R ((D+1:Nat):Int)))).cat (Xb d.p n.p t.p (k+1:Nat) R D))):=rfl;rw[e,frL_app];have gz:k+1<18446744073709551616:=by have:=K.1;have:=K.2;omega
 refine Tx.cat (R:=λL=>L.r R=0∧L.r (R+1)*pl s.m n 0+1=0∧L.m=s.m∧∀g,¬(R≤g∧g≤R+10)→L.r g=s.r g) ?_ λL ⟨R1,I1,m1,g1⟩=>?_
 ·refine .op V6 (.op (ztj (by have:=K.1;omega) K.2) ((reck_ex J).mono λL ⟨e1,e2,e3⟩=>⟨?_,?_,?_,λg hz=>?_⟩))
  ·rw[e3 R J];simp[Nc]
  ·rw[e1];simp only[Nc,Jo,Pa];have:=d9 _ gg
   grind
  ·rw[e2];rfl
  ·rw[e3 g J,Nc,Hx J,Nc,Hx J]
 refine (zsn O J).cat λQ ⟨g2,o2,Y⟩=>?_
 have R2:Q.r R=0:=by rw[g2 R J,R1]
 have I2:Q.r (R+1)*pl s.m n 0+1=0:=by rw[g2 (R+1) J,I1]
 rw[m1]at o2;rw[R1]at Y;refine .cat (R:=λj=>(∀g,¬(R+2≤g∧g≤R+10)→g≠D→g≠D+1→j.r g=Q.r g)∧N8 t s.m j.m∧(pl j.m t (k+2)).toNat≤1∧vl (pl j.m t) (k+2)<2*vl (pl s.m n) (k+1)∧∃P,18446744073709551616^(k+1)*vl (pl j.m t) (k+2)=vl (pl s.m a) (k+1)*vl (pl s.m b) (k+1)+P*vl (pl s.m n) (k+1)) ?_ λj ⟨Z,F,_,T,P,M⟩=>?_
 ·refine .lp (λi j=>(∀g,¬(R+2≤g∧g≤R+10)→g≠D→g≠D+1→j.r g=Q.r g)∧N8 t s.m j.m∧(pl j.m t (k+2)).toNat≤1∧vl (pl j.m t) (k+2)<2*vl (pl s.m n) (k+1)∧∃P,18446744073709551616^i*vl (pl j.m t) (k+2)=vl (pl s.m a) (k+1)*vl (pl s.m b) i+P*vl (pl s.m n) (k+1)) ⟨λ_ _ _ _=>rfl,o2,by rw[Y _ J];decide,?_,0,?_⟩ gz (λi j hi ⟨Z,F,c3,T,P,M⟩=>?_) λ_ h=>h
  ·rw[zij λi hi=>Y i J];omega
  ·rw[zij λi hi=>Y i J];simp[vl]
  ·have U:((j.put D (UInt64.ofNat i)).r D).toNat=i:=Bn
   have A:∀g,¬(R+2≤g∧g≤R+10)→g≠D→g≠D+1→(j.put D (UInt64.ofNat i)).r g=Q.r g:=λg B z I=>by rw[Nc,Hx z,Z g B z I]
   refine (s9 (k:=k+1) (b:=b) (i:=D) (by rw[A R J J J,R2]) J (by rw[U];omega) hb ha O ka kt ta O.2).cat λs4 ⟨V,o4,C,c4⟩=>?_
   rw[Pa]at o4 C;rw[U,F.pl tb J,F.vl ta ka]at C;have E:=F.trans o4;refine (down_ex (k:=k) (by rw[V R J J,A R J J J,R2]) J (by rw[V (R+1) J J,A _ J J J,E.pl H J,I2]) K O G kt H c4).mono λs5 ⟨g5,o5,c5,m,v5⟩=>⟨λg B z I=>?_,E.trans o5,?_,?_,P+m.toNat*18446744073709551616^i,?_⟩
   ·rw[g5 g B I,V g B I,A g B z I]
   ·rw[c5];exact c4
   ·rw[E.vl H G]at v5;exact tf T hA (pl s.m b i).toNat_lt m.toNat_lt C v5
   ·rw[E.vl H G]at v5;rw[I3,Q7];exact e9 M C v5
 ·refine (last_ex (k:=k+1) (by rw[Z R J J J,R2]) J K O hd G J kd dn dt (by rw[F.vl H G];exact T)).mono λs4 ⟨V,o4,C⟩=>⟨λg B z I=>?_,λx y B z=>?_,?_,?_⟩
  ·rw[V g J z,Z g J z I,g2 g z,g1 g B]
  ·rw[o4 x y B,F x y z]
  ·have T:vl (pl j.m t) (k+1+1)<2*vl (pl s.m n) (k+1):=T;rw[F.vl H G]at C;rw[C];split<;>omega
  ·have M:18446744073709551616^(k+1)*vl (pl j.m t) (k+1+1)=vl (pl s.m a) (k+1)*vl (pl s.m b) (k+1)+P*vl (pl s.m n) (k+1):=M;rw[F.vl H G]at C;rw[C];split
   ·exact⟨P,0,by rw[M];omega⟩
   ·refine⟨P,18446744073709551616^(k+1),?_⟩;rw[←M,←Lj,Nat.sub_add_cancel J]
end mu
end
noncomputable section
def X2(g:List Bf)(m:List Bool)(o:Lo):Bool:=if o.kind=16 then false else if o.kind=14 then (Nw g o.buf.toNat).sec else (Ov o).any (Pj m)
def mkS(g:List Bf)(o:Lo):List Int→List Bool×Bool→List Bool×Bool
 |[],s=>s
 |r::j,s=>mkS g o j (if (!Pj s.1 r&&X2 g s.1 o)=true then (s.1.set r.toNat true,true) else s)
def cz(g:List Bf):List Lo→List Bool×Bool→List Bool×Bool
 |[],s=>s
 |o::j,s=>cz g j (mkS g o (Ng o) s)
def Xd(g:List Bf)(os:List Lo):Nat→List Bool→List Bool
 |0,m=>m
 |n+1,m=>if (cz g os (m,false)).2=true then Xd g os n (cz g os (m,false)).1 else (cz g os (m,false)).1
def Ue(m:List Bool):Nat:=m.countP (λb=>!b)
def rk{m:List Bool}{n:Nat}(h:n<m.length)(k:m.getD n false=false):Ue (m.set n true)+1=Ue m:=by
 induction m generalizing n with
 |nil=>simp at h
 |cons b m g =>
  cases n with
  |zero=>simp at k;subst k;simp[Ue]
  |succ n =>
   have:=g (n:=n) Ax (by simpa using k);simp only[Ue,M1,List.countP_cons]at *;omega
def zsq(g:List Bf)(o:Lo):∀(l:List Int) (s:List Bool×Bool),(mkS g o l s).1.length=s.1.length
 |[],_=>rfl
 |r::l,s=>by rw[mkS,zsq g o l];split<;>simp
def zs3(j:List Bf):∀(g:List Lo) (s:List Bool×Bool),(cz j g s).1.length=s.1.length
 |[],_=>rfl
 |o::g,s=>by rw[cz,zs3 j g,zsq]
def Dn(s s':List Bool×Bool):Prop:=Ue s'.1≤Ue s.1∧(s'.2=true→s.2=true∨Ue s'.1<Ue s.1)
def Dn.trans{s s' gg:List Bool×Bool}(h:Dn s s')(k:Dn s' gg):Dn s gg:=by
 refine⟨by have:=h.1;have:=k.1;omega,λh2=>?_⟩;rcases k.2 h2 with q|q
 ·rcases h.2 q with q|q
  ·exact .inl q
  ·have:=k.1;exact .inr J
 ·have:=h.1;exact .inr J
def Yc(g:List Bf)(o:Lo):∀(l:List Int) (s:List Bool×Bool),(∀x∈l,0≤x∧x<s.1.length)→Dn s (mkS g o l s)
 |[],s,_=>⟨H9 _,λh=>.inl h⟩
 |r::l,s,h=>by
  rw[mkS];obtain⟨A,B⟩:=h r (I9 ..);split
  ·rename_i z;simp only[Hz,Jq]at z;have C:=rk (m:=s.1) (n:=r.toNat) J z.1;refine Dn.trans (s':=(s.1.set r.toNat true,true)) ⟨Bt,λ_=>.inr Bt⟩ (Yc g o l _ λx j=>?_);simpa using h x (Ik _ j)
  ·exact Yc g o l _ λx j=>h x (Ik _ j)
def zw0(g:List Bf):∀(os:List Lo) (s:List Bool×Bool),(∀o∈os,∀x∈Ng o,0≤x∧x<s.1.length)→Dn s (cz g os s)
 |[],s,_=>⟨H9 _,λh=>.inl h⟩
 |o::os,s,h=>by
  rw[cz];refine Dn.trans (Yc g o _ s λx j=>h o (I9 ..) x j) (zw0 g os _ λp z x j=>?_);rw[zsq];exact h p (Ik _ z) x j
def X0(m:List Bool)(g:Int→Bool):Prop:=∀x,0≤x→Pj m x=true→g x=true
def U9(g:List Bf)(j:Int→Bool)(o:Lo):Bool:=if o.kind=16 then false else if o.kind=14 then (Nw g o.buf.toNat).sec else (Ov o).any j
def Yh(g:List Bf)(z:Int→Bool)(j:List Lo):Prop:=∀o∈j,U9 g z o=true→∀x∈Ng o,z x=true
def X0.sec{bs:List Bf}{m:List Bool}{gg:Int→Bool}{o:Lo}(h:X0 m gg)(ht:∀x∈Ov o,0≤x)(k:X2 bs m o=true):U9 bs gg o=true:=by
 unfold X2 at k;unfold U9;split
 ·rename_i q;rw[H6 q]at k;exact k
 ·rename_i q;rw[Hx q]at k;split
  ·rename_i q;rw[H6 q]at k;exact k
  ·rename_i q;rw[Hx q,Jc]at k;obtain⟨x,C,hk⟩:=k;exact Jc.2 ⟨x,C,h x (ht x C) hk⟩
def X0.set{m:List Bool}{C:Int→Bool}{r:Int}(h:X0 m C)(h0:0≤r)(k:C r=true):X0 (m.set r.toNat true) C:=λx hx hm=>by
 by_cases e:x=r
 ·rw[e];exact k
 ·refine h x hx ?_;unfold Pj at hm ⊢;rw[Hw,Hy J]at hm;rw[Hw];exact hm
def bt{g:List Bf}{B:Int→Bool}{o:Lo}(j:∀x∈Ov o,0≤x)(z:U9 g B o=true→∀x∈Ng o,B x=true):∀(l:List Int) (s:List Bool×Bool),(∀x∈l,x∈Ng o∧0≤x)→X0 s.1 B→X0 (mkS g o l s).1 B
 |[],_,_,h=>h
 |r::l,s,A,h=>by
  rw[mkS];refine bt j z l _ (λx C=>A x (Ik _ C)) ?_;split
  ·rename_i q;simp only[Hz]at q;obtain⟨D,E⟩:=A r (I9 ..);exact h.set E (z (h.sec j q.2) r D)
  ·exact h
def zk2{z:List Bf}{D:Int→Bool}:∀(g:List Lo) (s:List Bool×Bool),(∀o∈g,∀x∈Ov o,0≤x)→(∀o∈g,∀x∈Ng o,0≤x)→Yh z D g→X0 s.1 D→X0 (cz z g s).1 D
 |[],_,_,_,_,h=>h
 |o::g,s,A,hm,B,h=>by
  rw[cz];exact zk2 g _ (λp j=>A p (Ik _ j)) (λp j=>hm p (Ik _ j)) (λp j=>B p (Ik _ j)) (bt (A o (I9 ..)) (B o (I9 ..)) _ _ (λx C=>⟨C,hm o (I9 ..) x C⟩) h)
def zuv{A:List Bf}{B:Int→Bool}{g:List Lo}(j:∀o∈g,∀x∈Ov o,0≤x)(hm:∀o∈g,∀x∈Ng o,0≤x)(z:Yh A B g):∀(n:Nat) (m:List Bool),X0 m B→X0 (Xd A g n m) B
 |0,_,h=>h
 |n+1,m,h=>by
  rw[Xd];split
  ·exact zuv j hm z n _ (zk2 g _ j hm z h)
  ·exact zk2 g _ j hm z h
def zuk(g:List Bf)(j:List Lo):∀(n:Nat) (m:List Bool),(Xd g j n m).length=m.length
 |0,_=>rfl
 |n+1,m=>by rw[Xd];split<;>simp[zuk g j n,zs3]
def X0.none(n:Nat)(C:Int→Bool):X0 (List.replicate n false) C:=λx _ h=>by
 unfold Pj at h;rw[Hw,List.getElem?_replicate]at h;split at h<;>simp at h
def Yj(g:Int)(j:List Bf)(os:List Lo):List Bool:=Xd j os (g.toNat+1) (List.replicate g.toNat false)
def qx(g:List Bf)(j:Int→Bool)(o:Lo):Bool:=!((Pg o.kind&&decide (0≤o.a))&&j o.a)&&(!(decide (o.kind=15)&&(j o.b && !(Nw g o.buf.toNat).sec)) && !(decide (o.kind=16)&&j o.d))
def s8{m:List Bool}{C:Int→Bool}{o:Lo}(D:X0 m C)(E:o.kind=15→0≤o.b)(hd:o.kind=16→0≤o.d)(h:qx Z C o=true):qx Z (Pj m) o=true:=by
 unfold qx at h ⊢;simp only[Hz,Jq,Bool.and_eq_false_iff,I6,Bool.not_eq_false']at h ⊢;have g:∀x,0≤x→C x=false→Pj m x=false:=λx F B=>by
  cases q:Pj m x
  ·rfl
  ·rw[D x F q]at B;exact absurd B Ad
 obtain⟨z,j,A⟩:=h;refine⟨?_,?_,?_⟩
 ·by_cases q:0≤o.a
  ·rcases z with z|z
   ·exact .inl z
   ·exact .inr (g _ q z)
  ·exact .inl (.inr q)
 ·by_cases q:o.kind=15
  ·rcases j with j|j|j
   ·exact absurd q j
   ·exact .inr (.inl (g _ (E q) j))
   ·exact .inr (.inr j)
  ·exact .inl q
 ·by_cases q:o.kind=16
  ·rcases A with A|A
   ·exact absurd q A
   ·exact .inr (g _ (hd q) A)
  ·exact .inl q
end
section
def W0(ls:List Int)(m:List Bool):Prop:=∀x,0≤x→x<8→(Pj m x=true↔x∈ls)
def Gd(bs:List Bf)(S:List Int)(ls:List Int)(f:Fr Lo)(S':List Int):Prop :=
 ∀m,jy 64 m S→W0 ls m→∃z,jy 64 z S'∧W0 ls z∧(∀x,8≤x→Pj m x=true→Pj z x=true)∧∀i j,fe 64 bs i m ls (f.flat++j)=fe 64 bs (i+f.flat.length) z ls j
def zrl{x:Int}(z:0≤x):∀(j:List Int) (m:List Bool),(∀y∈j,0≤y∧y<m.length)→Pj m x=true→Pj (j.foldl (λm r=>m.set r.toNat true) m) x=true
 |[],_,_,h=>h
 |a::j,m,A,h=>by
  have B:=A a (I9 ..);exact zrl z j _ (λy C=>by rw[J9];exact A y (Ik _ C)) ((z93 ⟨B.1,B.2⟩ z).2 (.inr h))
section gd
variable {bs : List Bf} {S S' S2 ls : List Int} {f g : Fr Lo}
def jy.sub{regs:Int}{m:List Bool}(h:jy regs m S)(k:∀x∈S',x∈S):jy regs m S':=⟨h.1,λx hx=>h.2 x (k x hx)⟩
def Gd.mono(h:Gd bs S ls f S')(k1:∀x∈S,x∈S2)(k2:∀x∈vL,x∈S'):Gd bs S2 ls f vL:=λm hm hi=>by
 obtain⟨m',h1,h2,hk,h3⟩:=h m (hm.sub k1) hi;exact⟨m',h1.sub k2,h2,hk,h3⟩
def Gd.cat(h:Gd bs S ls f S')(k:Gd bs S' ls g S2):Gd bs S ls (f.cat g) S2:=λm hm hi=>by
 obtain⟨m1,h1,h2,ha,h3⟩:=h m hm hi;obtain⟨m2,k1,k2,kb,k3⟩:=k m1 h1 h2;refine⟨m2,k1,k2,λx hx hq=>kb x hx (ha x hx hq),λi rest=>?_⟩;rw[Ra,Jp,h3,k3,Ia,Kg]
def Gd.nil:Gd bs S ls .nil S:=λm hm hi=>⟨m,hm,hi,λ_ _ h=>h,λ_ _=>rfl⟩
def Gd.keep{T:List Int}(h:Gd bs S ls f S'):Gd bs (T++S) ls f (T++S'):=λm hm hi=>by
 obtain⟨m',h1,h2,hk,h3⟩:=h m (hm.sub λx hx=>Iy _ hx) hi;refine⟨m',⟨h1.1,λx hx=>?_⟩,h2,hk,h3⟩;rcases Is.1 hx with hx|hx
 ·obtain⟨a,b,d⟩:=hm.2 x (Lf _ hx);refine⟨a,b,?_⟩;by_cases q:8≤x
  ·exact hk x q d
  ·exact (h2 x a J).2 ((hi x a J).1 d)
 ·exact h1.2 x hx
def Gd.keep0(h:Gd bs [] ls f []):Gd bs S ls f S:=by
 have:=Gd.keep (T:=S) h;simpa using this
def W0.fold:∀(mk:List Int) (m:List Bool),m.length=64→W0 ls m→(∀x∈mk,8≤x∧x<64)→W0 ls (mk.foldl (λm r=>m.set r.toNat true) m)
 |[],_,_,h,_=>h
 |a::mk,m,hl,h,hr=>by
  have ha:=hr a (I9 ..);refine W0.fold mk _ (by simpa using hl) (λx h0 h8=>?_) λx hx=>hr x (Ik _ hx)
  rw[←h x h0 h8,z93 ⟨J,J⟩ h0];constructor
  ·rintro (q|q)
   ·omega
   ·exact q
  ·exact .inr
def Gd.L(gz:∀x∈ls,x<8):∀{l:List Lo} {S:List Int},Pk 64 bs S l→(∀o∈l,∀x∈Ng o,8≤x)→Gd bs S ls (Nh l) ((l.flatMap Ng)++S)
 |[],S,_,_=>λm hm hi=>⟨m,E8,hi,λ_ _ h=>h,λ_ _=>rfl⟩
 |o::l,S,h,hk=>λm hm hi=>by
  obtain⟨h1,⟨h2,h3⟩,h4,h5⟩:=h;have gg:=zvt h1;have gA:=hk o (I9 ..);have hs:=oj (m:=m) (ls:=ls) h1 h2 h3 (λx hx q=>by have:=gz x q;have:=gA x hx;omega) (λx hx=>(hm.2 x (h4 x hx)).2.2);have gC:=hm.fold (Ng o) m S gg;have gD:=hi.fold (Ng o) m (by have:=hm.1;omega) λx hx=>⟨gA x hx,(gg x hx).2⟩
  obtain⟨m',k1,k2,kk,k3⟩:=Gd.L gz h5 (λp hp=>hk p (Ik _ hp)) _ gC gD;refine⟨m',k1.sub λx hx=>?_,k2,λx hx hq=>kk x hx (zrl J _ _ (λy hy=>by have:=gg y hy;have:=hm.1;omega) hq),λi rest=>?_⟩
  ·simp only[Kw,Is]at hx ⊢;rcases hx with (hx|hx)|hx
   ·exact .inr (.inl hx)
   ·exact .inl hx
   ·exact .inr (.inr hx)
  ·rw[Nh,Fr.flat,I7,fe,hs];dsimp only;rw[H6 rfl,k3,Ih]
   congr 1;omega
def fp{d:Int}(h:0≤d∧d<64)(C:1≤z∧z≤1048576):P9 64 bs (S9 d z)=true:=by
 have j:(iU z).toNat=z.toNat:=by
  obtain⟨n,rfl⟩:=H0 (J:0≤z);rw[Vu J];rfl
 have A:(1:UInt64)≤iU z:=by rw[J3,j];show 1≤_;omega
 have B:iU z≤(1048576:UInt64):=by rw[J3,j];show _≤1048576;omega
 simp[P9,S9,Q5,Qr,Qq,Q8,Wf,Wg,Pg,h,A,B]
def fields_En:P9 64 bs Tj=true:=by simp[P9,Tj,Q5,Qr,Qq,Q8,Wf,Wg,Pg]
def zjn{m:List Bool}{a x:Int}(j:0≤a∧a<m.length)(z:0≤x):Pj (m.set a.toNat false) x=true↔x≠a∧Pj m x=true:=by
 unfold Pj;rw[Wn _ _ _ _ _ J];by_cases e:x.toNat=a.toNat
 ·rw[H6 e];simp;intro h;omega
 ·rw[Hx e];constructor
  ·exact λh=>⟨by rintro rfl;exact e rfl,h⟩
  ·exact λh=>h.2
def Gd.loop{d times:Int}{b r:Fr Lo}{S3:List Int}(gH:ls.length<8)(hd:0≤d∧d<8)(hn:¬d∈ls)(ht:1≤times∧times≤1048576)(hb:Gd bs (d::S) (ls++[d]) b S')(hs:∀x∈S2,x∈S'∧x≠d)(hr:Gd bs S2 ls r S3):Gd bs S ls (.loop (S9 d times) b Tj r) S3:=λm hm hi=>by
 have gG:m.length=64:=by have:=hm.1;omega
 have gg:Pj m d=false:=by
  cases q:Pj m d
  ·rfl
  ·exact absurd ((hi d hd.1 hd.2).1 q) hn
 have gz:Uz 64 bs m ls (S9 d times)=(0,m.set d.toNat true,ls++[d]):=by
  unfold Uz;rw[Hx (by rw[fp J ht];decide),Hx (by simp[S9]),Hx,Hx (by simp[S9,gg]),Hx (by simp[S9];omega),Hx (by simp[S9,Ov])]
  ·simp[S9,Ng]
  ·simp[S9,Ng,hn]
 have gA:jy 64 (m.set d.toNat true) (d::S):=by
  have:=hm.fold [d] m S (λx hx=>by simp at hx;omega);simpa using this
 have gC:W0 (ls++[d]) (m.set d.toNat true):=λx h0 h8=>by
  rw[z93 ⟨J,J⟩ h0,hi x h0 h8];simp[or_comm]
 obtain⟨m2,a1,a2,ak,a3⟩:=hb _ gA gC;have gI:m2.length=64:=by have:=a1.1;omega
 have gD:jy 64 (m2.set d.toNat false) S2:=⟨by simpa using a1.1,λx hx=>by
  obtain⟨h1,h2⟩:=hs x hx;obtain⟨b1,b2,b3⟩:=a1.2 x h1;exact⟨b1,b2,(zjn ⟨J,J⟩ b1).2 ⟨h2,b3⟩⟩⟩
 have gE:W0 ls (m2.set d.toNat false):=λx h0 h8=>by
  rw[zjn ⟨J,J⟩ h0,a2 x h0 h8];simp only[Is,M2];constructor
  ·rintro⟨h1,h2|h2⟩
   ·exact h2
   ·exact absurd h2 h1
  ·exact λh=>⟨λq=>hn (q ▸ h),.inl h⟩
 obtain⟨m4,c1,c2,ck,c3⟩:=hr _ gD gE;refine⟨m4,c1,c2,λx hx hq=>ck x hx ((zjn ⟨J,J⟩ J).2 ⟨J,ak x hx ((z93 ⟨J,J⟩ J).2 (.inr hq))⟩),λi rest=>?_⟩;have gF:Uz 64 bs m2 (ls++[d]) Tj=(0,m2.set d.toNat false,ls):=by
  unfold Uz;rw[Hx (by rw[fields_En];decide),H6 (by rfl)];simp
 rw[Fr.flat,I7,fe,gz];dsimp only;rw[H6 rfl,Jp,a3,I7,fe,gF];dsimp only;rw[H6 rfl,c3,Ih,Ia,Ih]
 congr 1;omega
def Gd.lp{d times:Int}{b:Fr Lo}(gg:ls.length<8)(hd:0≤d∧d<8)(hn:¬d∈ls)(gz:¬d∈S)(ht:times≤1048576)(hb:Gd bs (d::S) (ls++[d]) b S')(hs:∀x∈S,x∈S'):Gd bs S ls (O0 d times b) S:=by
 unfold O0;split
 ·exact .nil
 ·exact .loop gg hd hn J hb (λx hx=>⟨hs x hx,λq=>gz (q ▸ hx)⟩) .nil
def Zu(C:bs.length≤32)(D:f.flat.length≤65536)(A:∀b∈bs,1≤b.size∧b.size≤65536∧1≤b.kind∧b.kind≤3)(h:Gd bs [] [] f S'):Qp 64 bs f.flat=((f.flat.length:Int),0):=by
 unfold Qp;rw[Hx J,Hx,Hx J,Hx]
 ·obtain⟨E,_,_,_,B⟩:=h (List.replicate 64 false) ⟨N,N⟩ (λx F G=>by
   unfold Pj;rw[Hw,List.getElem?_replicate];split<;>simp)
  have:=B 0 [];rw[Jm]at this;rw[show (64:Int).toNat=64 from rfl,this,fe,H6 rfl,Iz]
 ·rw[Jc];rintro⟨b,j,z⟩;have:=A b j;simp at z;omega
 ·rw[Jc];rintro⟨b,j,z⟩;have:=A b j;simp at z;omega
end gd
end
section
section w
variable {bs : List Bf} {S : List Int} {l : List Lo}
def aj{d:Int}{v:UInt64}(h:0≤d∧d<64)(k:Pk 64 bs (d::S) l):Pk 64 bs S (cK d v::l):=⟨zhn h,Dh,Gi,k⟩
def zze{d e a b:Int}(h:0≤d∧d<64)(he:0≤e∧e<64)(g:0≤a∧a<64)(j:0≤b∧b<64)(z:d≠e)(A:a∈S)(B:b∈S)(k:Pk 64 bs (d::e::S) l):Pk 64 bs S (N9 d e a b::l) :=
 ⟨zc9 h he g j z,Fa,by simp[Ov,N9,A,B],k⟩
def qk{d a b:Int}(j:3≤z∧z≤7)(h:0≤d∧d<64)(A:0≤a∧a<64)(B:0≤b∧b<64)(C:a∈S)(E:b∈S)(k:Pk 64 bs (d::S) l):Pk 64 bs S (Nb z d a b::l):=by
 refine⟨zck j h A B,Fg,λx g=>?_,?_⟩
 ·unfold Ov Nb at g;simp only at g;rw[Hx J,H6 J]at g;simp at g;rcases g with rfl|rfl
  ·exact C
  ·exact E
 ·have:Ng (Nb z d a b)=[d]:=by unfold Ng Nb;simp only;rw[Hx J,Hx J]
  rw[this];exact k
def zac{d e a b c:Int}(g:z=11∨z=12)(h:0≤d∧d<64)(he:0≤e∧e<64)(j:0≤a∧a<64)(A:0≤b∧b<64)(B:0≤c∧c<64)(C:d≠e)(E:a∈S)(F:b∈S)(G:c∈S)(k:Pk 64 bs (d::e::S) l):Pk 64 bs S (Ny z d e a b c::l):=by
 refine⟨zyc g h he j A B C,by rcases g with rfl|rfl<;>simp[Ny],?_,?_⟩
 ·rcases g with rfl|rfl<;>simp[Ov,Ny,E,F,G]
 ·rcases g with rfl|rfl<;>exact k
def zn5{d c a b:Int}(h:0≤d∧d<64)(g:0≤c∧c<64)(j:0≤a∧a<64)(z:0≤b∧b<64)(A:c∈S)(B:a∈S)(C:b∈S)(k:Pk 64 bs (d::S) l):Pk 64 bs S (Og d c a b::l) :=
 ⟨zxc h g j z,by simp[Og],by simp[Ov,Og,B,C,A],k⟩
structure Bp (bs:List Bf) (p:Pn):Prop where
 b:p.b<bs.length
 s:((p.a+p.k:Nat):Int)≤(Nw bs p.b).size
 z:(Nw bs p.b).size≤65536
def Bw(bs:List Bf)(p:Pn):Prop:=(Nw bs p.b).kind≠1
def Bp.at{p:Pn}(h:Bp bs p){off:Int}(h0:0≤off)(hk:off<p.k):iU (p.p.at_+off)<iU (Nw bs p.p.buf.toNat).size:=by
 obtain⟨o,rfl⟩:=H0 h0;have hs:=h.s;have hz:=h.z;obtain⟨z,gg⟩:=H0 (J:0≤(Nw bs p.b).size);have e1:p.p.buf.toNat=p.b:=rfl;rw[e1,gg,Jn,Vu J,ac J];omega
def Xz{d i:Int}{p:Pn}(g:Bp bs p)(h:0≤d∧d<64)(hi:0≤i∧i<64)(j:i∈S)(k:Pk 64 bs (d::S) l):Pk 64 bs S (Nk d p.p i z::l):=by
 refine⟨zrj h (.inr hi) ⟨D7,B4⟩ (λq=>J),by simp[Nk],?_,k⟩;have:i≠-1:=J
 simp[Ov,Nk,this,j]
def zbl{d:Int}{p:Pn}(g:Bp bs p)(h:0≤d∧d<64)(j:0≤z)(A:z<p.k)(k:Pk 64 bs (d::S) l):Pk 64 bs S (Nk d p.p (-1) z::l):=by
 refine⟨zrj h (.inl rfl) ⟨D7,B4⟩ (λ_=>g.at j A),by simp[Nk],by simp[Ov,Nk],k⟩
def po{v i:Int}{p:Pn}(g:Bp bs p)(hw:Bw bs p)(h:0≤v∧v<64)(hi:0≤i∧i<64)(j:i∈S)(A:v∈S)(k:Pk 64 bs S l):Pk 64 bs S (Nq p.p i z v::l):=by
 refine⟨zqo h (.inr hi) ⟨D7,B4⟩ hw (λq=>J),by simp[Nq],?_,k⟩;have:i≠-1:=J
 simp[Ov,Nq,this,j,A]
def zbt{v:Int}{p:Pn}(g:Bp bs p)(hw:Bw bs p)(h:0≤v∧v<64)(j:0≤z)(A:z<p.k)(B:v∈S)(k:Pk 64 bs S l):Pk 64 bs S (Nq p.p (-1) z v::l):=by
 refine⟨zqo h (.inl rfl) ⟨D7,B4⟩ hw (λ_=>g.at j A),by simp[Nq],by simp[Ov,Nq,B],k⟩
def okL_nil:Pk 64 bs S []:=trivial
end w
section into
variable {bs : List Bf} {ls : List Int} {R D : Int} {d a b n t : Pn} {k : Int}
def zzq{S:List Int}{l:List Lo}{a b:Int}(F:16≤R∧R≤50)(g:0≤a∧a<64)(j:0≤b∧b<64)(z:a∈S)(A:b∈S)(B:R∈S)(C:R+3∈S)(E:R+7∈S)(k:Pk 64 bs ((R+3)::(R+5)::(R+6)::(R+9)::(R+6)::(R+8)::(R+5)::(R+6)::S) l):Pk 64 bs S (N6 R a b++l):=by
 unfold N6;refine zze ?_ ?_ g j ?_ z A (zac (.inl rfl) ?_ ?_ ?_ ?_ ?_ ?_ ?_ ?_ ?_ (zac (.inl rfl) ?_ ?_ ?_ ?_ ?_ ?_ ?_ ?_ ?_ (qk ?_ ?_ ?_ ?_ ?_ ?_ (qk ?_ ?_ ?_ ?_ ?_ ?_ k))))
 all_goals first|omega|(simp[B,C,E];done)|(simp;omega)
def zte{n r:Int}:∀o∈Um n r,∀x∈Ng o,r≤x∧x≤r+4:=by
 intro o ho;simp[Um,je,X6,zqg,cK,N9,Nb]at ho;rcases ho with rfl|rfl|rfl|rfl|⟨_,rfl|rfl|rfl⟩|rfl|rfl<;>simp[Ng]<;>omega
def ox{i:Int}(C:16≤R∧R≤50)(hi:0≤i∧i<8)(E:0≤D∧D<8)(F:¬D∈ls)(G:D≠i)(A:ls.length<8)(j:∀x∈ls,x<8)(H:Bp bs a)(I:Bp bs b)(z:Bp bs t)(B:Bw bs t)(P:0≤k∧k+1<t.k) :
  Gd bs [i,R,R+1,R+10] ls (Sy a.p b.p t.p k R D i) [i,R,R+1,R+10]:=by
 have K:(t.k:Int)≤65536:=El
 unfold Sy;have L:Pk 64 bs [i,R,R+1,R+10] [Nk (R+2) b.p i 0,cK (R+3) 0]:=Xz I J J N (aj J okL_nil);have M:Pk 64 bs (D::(List.flatMap Ng [Nk (R+2) b.p i 0,cK (R+3) 0]++[i,R,R+1,R+10])) (Tl a.p t.p R D):=by
  unfold Tl;refine Xz H J J N (Xz z J J N (zzq C J J N (by simp[Ng,Nk]) Bu Bu N (po z B J J N N okL_nil)))
 have O:Pk 64 bs (List.flatMap Ng [Nk (R+2) b.p i 0,cK (R+3) 0]++[i,R,R+1,R+10]) (O3 t.p k R++[Nq t.p (-1) k (R+7),Nq t.p (-1) (k+1) (R+8)]):=by
  unfold O3;refine zbl z J J J (zac (.inl rfl) J J J J J J N Bu Bu (zbt z B J J J N (zbt z B J J J N okL_nil)))
 refine Gd.mono ((Gd.L j L ?_).cat ((Gd.lp A E F ?_ J (Gd.L ?_ M ?_) ?_).cat (Gd.L j O ?_))) (λx h=>h) ?_
 ·simp[Ng,Nk,cK];omega
 ·simp[Ng,Nk,cK];omega
 ·intro x g;rcases Is.1 g with g|g
  ·exact j x g
  ·simp at g;omega
 ·simp[Ng,Tl,N6,Nk,Nq,N9,Ny,Nb];omega
 ·intro x g;exact Iy _ (Ik _ g)
 ·simp[Ng,O3,Nk,Nq,Ny];omega
 ·intro x g;exact Iy _ (Iy _ g)
def gd_down{i:Int}(C:16≤R∧R≤50)(F:0≤D∧D<8)(G:¬D∈ls)(H:D≠i)(A:ls.length<8)(z:∀x∈ls,x<8)(E:Bp bs n)(g:Bp bs t)(B:Bw bs t)(P:1≤k∧k+1<t.k)(I:0<n.k) :
  Gd bs [i,R,R+1,R+10] ls (Th n.p t.p k R D) [i,R,R+1,R+10]:=by
 have K:(t.k:Int)≤65536:=by have:=g.s;have:=g.z;omega
 unfold Th;have L:Pk 64 bs [i,R,R+1,R+10] ([Nk (R+7) t.p (-1) 0,N9 (R+5) (R+10) (R+7) (R+1),Nk (R+4) n.p (-1) 0,cK (R+3) 0]++N6 R (R+10) (R+4)):=by
  rw[←Jm (_++N6 R (R+10) (R+4)),Jp];exact zbl g J J J (zze J J J J J N N (zbl E J J J (aj J (zzq C J J N N N N N okL_nil))))
 have M:Pk 64 bs (D::(List.flatMap Ng ([Nk (R+7) t.p (-1) 0,N9 (R+5) (R+10) (R+7) (R+1),Nk (R+4) n.p (-1) 0,cK (R+3) 0]++N6 R (R+10) (R+4))++[i,R,R+1,R+10])) (T4 n.p t.p R D):=by
  unfold T4;refine Xz E J J N (Xz g J J N (zzq C J J N (by simp[Ng,Nk]) Bu Bu N (po g B J J N N okL_nil)))
 have O:Pk 64 bs (List.flatMap Ng ([Nk (R+7) t.p (-1) 0,N9 (R+5) (R+10) (R+7) (R+1),Nk (R+4) n.p (-1) 0,cK (R+3) 0]++N6 R (R+10) (R+4))++[i,R,R+1,R+10]) (O3 t.p k R++[Nq t.p (-1) (k-1) (R+7),Nk (R+7) t.p (-1) (k+1),Nb 3 (R+7) (R+7) (R+8),Nq t.p (-1) k (R+7)]):=by
  unfold O3;refine zbl g J J J (zac (.inl rfl) J J J J J J N Bu Bu (zbt g B J J J N (zbl g J J J (qk J J J J N N (zbt g B J J J N okL_nil)))))
 refine Gd.mono ((Gd.L z L ?_).cat ((Gd.lp A F G ?_ J (Gd.L ?_ M ?_) ?_).cat (Gd.L z O ?_))) (λx h=>h) ?_
 ·simp[Ng,N6,Nk,cK,N9,Ny,Nb];omega
 ·simp[Ng,N6,Nk,cK,N9,Ny,Nb];omega
 ·intro x j;rcases Is.1 j with j|j
  ·exact z x j
  ·simp at j;omega
 ·simp[Ng,T4,N6,Nk,Nq,N9,Ny,Nb];omega
 ·intro x j;exact Iy _ (Ik _ j)
 ·simp[Ng,O3,Nk,Nq,Ny,Nb];omega
 ·intro x j;exact Iy _ (Iy _ j)
def zyx{x:Int}{S:List Int}{p:Pn}(C:0≤x∧x<64)(E:x∈S)(F:0≤D∧D<8)(G:¬D∈ls)(j:¬D∈S)(z:ls.length<8)(A:∀x∈ls,x<8)(B:Bp bs p)(wp:Bw bs p):Gd bs S ls (Tt p.p x D) S:=by
 have H:(p.k:Int)≤65536:=by have:=B.s;have:=B.z;omega
 unfold Tt;have h:Pk 64 bs (D::S) [Nq p.p D 0 x]:=po B wp C J N Af okL_nil;refine Gd.lp z F G j (by show (p.k:Int)≤_;omega) (Gd.L ?_ h ?_) ?_
 ·intro y g;rcases Is.1 g with g|g
  ·exact A y g
  ·simp at g;omega
 ·simp[Ng,Nq]
 ·intro y g;exact Iy _ (Ik _ g)
def Zr{x:List Lo}{S:List Int}(K:16≤R∧R≤50)(B:0≤D∧D<8)(C:¬D∈ls)(z:¬D∈S)(A:ls.length<8)(j:∀x∈ls,x<8)(E:Bp bs n)(F:Bp bs t)(L:k≤65536)
  (G:Pk 64 bs ((R+6)::(R+8)::(R+4)::(R+7)::D::(R+8)::S) x) (hm:∀o∈x,∀y∈Ng o,8≤y):Gd bs S ls (U2 n.p t.p k R D x) ((R+8)::S):=by
 unfold U2;have H:Pk 64 bs S [cK (R+8) 0]:=aj J okL_nil;have I:Pk 64 bs (D::(List.flatMap Ng [cK (R+8) 0]++S)) (Tq n.p t.p R D++x):=by
  unfold Tq;exact Xz F J J N (Xz E J J N (zac (.inr rfl) J J J J J J N N Cc G))
 refine (Gd.L j H ?_).cat (Gd.lp A B C ?_ J (Gd.L ?_ I ?_) ?_)
 ·simp[Ng,cK];omega
 ·simp[Ng,cK];exact⟨J,z⟩
 ·intro y g;rcases Is.1 g with g|g
  ·exact j y g
  ·simp at g;omega
 ·intro o ho;rcases Is.1 ho with ho|ho
  ·simp[Tq]at ho;rcases ho with rfl|rfl|rfl<;>simp[Ng,Nk,Ny]<;>omega
  ·exact hm o ho
 ·intro y g;exact Iy _ (Ik _ g)
def xq(A:16≤R∧R≤50)(B:0≤D∧D<8)(C:¬D∈ls)(j:ls.length<8)(g:∀x∈ls,x<8)(G:Bp bs d)(H:Bw bs d)(E:Bp bs n)(z:Bp bs t)(L:0≤k∧k<t.k):Gd bs [R] ls (Xb d.p n.p t.p k R D) [R]:=by
 have I:(t.k:Int)≤65536:=El
 unfold Xb;have K:Pk 64 bs [R+8,R] [Nk (R+7) t.p (-1) k,Ny 12 (R+6) (R+10) (R+7) R (R+8)]:=zbl z J J J (zac (.inr rfl) J J J J J J N N N okL_nil);refine Gd.mono ((Zr A B C Ab j g E z J okL_nil N).cat ((Gd.L g K ?_).cat (Zr A B C ?_ j g E z J ?_ ?_))) (λx h=>h) ?_
 ·simp[Ng,Nk,Ny];omega
 ·simp[Ng,Nk,Ny];omega
 ·exact zn5 J J J J (by simp[Ng,Nk,Ny]) N N (po G H J J N N okL_nil)
 ·simp[Ng,Og,Nq];omega
 ·intro x F;simp at F;subst F;simp
def ae(B:16≤R∧R≤50)(C:0≤D∧D+1<8)(E:¬D∈ls)(A:¬D+1∈ls)(K:ls.length<7)(j:∀x∈ls,x<8)(L:Bp bs d)(M:Bw bs d)(O:Bp bs a)(P:Bp bs b)(F:Bp bs n)(z:Bp bs t)(G:Bw bs t)(Q:1≤k∧k+1<t.k)(H:0<n.k) :
  Gd bs [] ls (Vw d.p a.p b.p n.p t.p k R D) []:=by
 have T:(t.k:Int)≤65536:=El
 unfold Vw;have U:Pk 64 bs [] ([cK R 0,Nk (R+10) n.p (-1) 0]++Um (R+10) (R+1)) :=
  aj J (zbl F J J J (ry J J N))
 have I:∀x∈[R,R+1,R+10],x∈List.flatMap Ng ([cK R 0,Nk (R+10) n.p (-1) 0]++Um (R+10) (R+1))++[]:=by
  intro x g;simp at g;rcases g with rfl|rfl|rfl<;>simp[Ng,cK,Nk,Um,je,N9,Nb]
 refine Gd.mono (Gd.cat (Gd.mono (Gd.L j U ?_) (λx h=>h) I) ((zyx (x:=R) J N ⟨C.1,J⟩ E Ab J j z G).cat ((Gd.lp J ⟨C.1,J⟩ E Ab J ((ox B J J ?_ J ?_ ?_ O P z G J).cat (gd_down B J ?_ J ?_ ?_ F z G Q H)) ?_).cat (Gd.mono (xq B ⟨C.1,J⟩ E J j L M F z J) ?_ (λx h=>h))))) (λx h=>h) N
 ·intro o ho;rcases Is.1 ho with ho|ho
  ·simp at ho;rcases ho with rfl|rfl<;>simp[Ng,cK,Nk]<;>omega
  ·intro x g;have:=zte o ho x g;omega
 ·simp;exact⟨A,J⟩
 ·simp;omega
 ·intro x g;rcases Is.1 g with g|g
  ·exact j x g
  ·simp at g;omega
 ·simp;exact⟨A,J⟩
 ·simp;omega
 ·intro x g;rcases Is.1 g with g|g
  ·exact j x g
  ·simp at g;omega
 ·intro x g;exact Ik _ g
 ·intro x g;simp at g;simp[g]
end into
end
section
def rgR(R x:Int):Prop:=x=-1∨(R≤x∧x<R+14)
structure OpG (nb:Nat) (R lo hi:Int) (o:Lo):Prop where
 k:o.kind≠16∧o.kind≠17
 d:rgR R o.d
 e:rgR R o.e
 a:rgR R o.a∨(lo≤o.a∧o.a≤hi)
 b:rgR R o.b
 c:rgR R o.c
 m:(o.kind=14∨o.kind=15)→o.a=-1∨(lo≤o.a∧o.a≤hi)
 f:o.buf.toNat<nb
def LpG(g:Int)(o:Lo):Prop:=o.kind=16∧o.d=g∧o.e=-1∧o.a=-1∧o.b=-1∧o.c=-1∧1≤o.imm.toNat
section al
variable {nb : Nat} {R lo hi : Int}
def C16(x:Int):Bool:=decide (16≤x)
end al
end
section
section into
variable {nb : Nat} {R lo hi D k : Int} {d a b n t : Pn}
def rg(g:Int)(h:0≤g∧g<14):rgR R (R+g):=.inr J
end into
noncomputable def c8:Nat→Int→Fr Lo→Fr Lo
 |0,_,f=>f
 |n+1,i,f=>.loop (S9 i 1) (c8 n (i+1) f) Tj .nil
def P8:Nat→Int→List Lo
 |0,_=>[]
 |n+1,i=>⟨16,i,-1,-1,-1,-1,0,1⟩::P8 n (i+1)
def wrap_flat:∀(n:Nat) (i:Int) (f:Fr Lo),(c8 n i f).flat=P8 n i++(f.flat++List.replicate n Tj)
 |0,_,f=>by simp[c8,P8]
 |n+1,i,f=>by
  rw[c8,Fr.flat,wrap_flat n,P8,List.replicate_succ'];simp[Fr.flat,S9,iU1]
def zss{B:List Bf}:∀(n:Nat) (i:Int) (j:List Int) (f:Fr Lo),0≤i→i+n≤7→(j.length:Int)=i→(∀x∈j,x<i)→(∀g:List Int,(g.length:Int)=i+n→(∀x∈g,x<i+n)→Gd B [] g f [])→Gd B [] j (c8 n i f) []
 |0,i,j,f,_,_,C,A,h=>by simpa [c8] using h j Cp Ce
 |n+1,i,j,f,F,G,C,A,h=>by
  refine .loop J J (λq=>by have:=A _ q;omega) J (Gd.mono (zss n (i+1) (j++[i]) f J J Ab (λx z=>?_) λg H E=>?_) N N) (S':=[]) N .nil
  ·rcases Is.1 z with q|q
   ·have:=A x q;omega
   ·simp at q;omega
  ·exact h g J λx z=>by have:=E x z;omega
def znr{sz:Nat→Nat}{A:Fs→Prop}:∀(n:Nat) (i:Nat) (f:Fr Lo) (s:Fs),(∀g:Fs,g.m=s.m→Tx sz f g A)→Tx sz (c8 n i f) s A
 |0,_,f,s,h=>h s rfl
 |n+1,i,f,s,h=>by
  have z:(S9 (i:Int) 1).imm.toNat=1:=by simp[S9,iU1]
  refine .loop (I:=λB g=>if B=0 then g=s else A g) rfl (λB g C j=>?_) λg j=>?_
  ·rw[z]at C;have:B=0:=J
   subst this;rw[H6 rfl]at j;subst j;exact (znr n (i+1) f _ λE F=>h E (by rw[F];rfl)).mono λH G=>Bs
  ·rw[z,Hx J]at j;exact .nil j
end
def powW(k:Nat):(18446744073709551616:Nat)^k=2^(64*k):=by rw[Nat.pow_mul]
def zwj{D:Nat}(hi:g*vK%A=1%A)(h:g*D+vU*A=j+Q*A)(z:D<A):D=j*vK%A:=by
 have B:(g*D)%A=j%A:=by
  have:=congrArg (· % A) h;simpa using this
 have C:D*(g*vK)%A=j*vK%A:=by
  rw[(Cv:D*(g*vK)=g*D*vK),Jd,B,←Jd]
 rw[←C,Jd,hi,←Jd,Kj,Iw z]
def sa{t n:List UInt64}{D k Q Q':Nat}(ho:Rk n=true)(A:k≤512)(h:18446744073709551616^k*D+Q'*val n=val t+Q*val n)(g:D<val n):val (Wc t n k)=D:=by
 unfold Wc;rw[H6 ⟨ho,J,J⟩,Sg,In];have j:=(zkp (ztk ho) (zd5 (zo2 ho) (64*k))).2;have z:2^(64*k)*R7 (2^(64*k)%val n) (val n)%val n=1%val n:=by
  rw[←j]
  conv=>lhs;rw[Jd]
  conv=>rhs;rw[Jd,Nat.mod_mod]
 rw[powW]at h;exact (zwj z h g).symm
def Z2{f:Fr Lo}{bs:List Bf}{X:List (List UInt64)}{M:Fs→Prop}(A:f.wf Ql)(z:f.regs bs.length []=true)(B:f.costZ≤800000000)
  (F:Tx (Xo (O6 64 bs X)) f (Qz (O6 64 bs X)) M) :
  ∃E j t,E≤800000000∧Py f.flat (f.ends 0) E (O6 64 bs X)=some j∧j.i=f.flat.length∧Rep bs.length (Xo (O6 64 bs X)) j t∧M t∧j.l.length≤f.costZ:=by
 have C:(O6 64 bs X).r.length=64:=Di
 have g:=Rep.abs (O6 64 bs X) C;have D:(O6 64 bs X).bufs.length=bs.length:=by simp[O6,S0]
 rw[D]at g;obtain⟨t,G,H⟩:=F;obtain⟨E,j,I,K,_,L,O,P⟩:=zht (os:=f.flat) (es:=f.ends 0) f 0 [] [] [] (O6 64 bs X) (Qz (O6 64 bs X)) t A z N N rfl rfl g G;refine⟨E,j,t,J,I,by rw[K,Fr.flat_len,Iz],L,H,?_⟩;have:(O6 64 bs X).l.length=0:=rfl;omega
def costZ_le:∀f:Fr Lo,f.costZ≤2*f.stp
 |.nil=>by simp[Fr.costZ]
 |.op _ r=>by have:=costZ_le r;rw[Fr.costZ,Fr.stp];omega
 |.loop o b _ r=>by
  have j:=costZ_le b;have z:=costZ_le r;have g:o.imm.toNat*(b.costZ+2)≤o.imm.toNat*(2*(1+b.stp)):=Mr _ J;rw[M5]at g;rw[Fr.costZ,Fr.stp];omega
noncomputable def Wt(l:List UInt64)(i:Nat):UInt64:=if l=[] then 0 else l.getD (i%l.length) 0*iU (1+((i/l.length:Nat):Int)*2)+iU ((i/l.length:Nat):Int)
noncomputable def zst(l:List UInt64)(n:Nat):List UInt64:=(List.range n).map (Wt l)
def ziq(l:List UInt64)(n:Nat):(zst l n).length=n:=by simp[zst]
section
def zv9(d g:Int)(b:Fr Lo)(j:g≤1000000):(O0 d g b).stp≤g.toNat*(1+b.stp):=by
 unfold O0;split
 ·simp[Fr.stp]
 ·obtain⟨n,rfl⟩:=H0 (J:0≤g);rw[Fr.stp,Fr.stp];have:(S9 d (n:Int)).imm.toNat=n:=Vu J;rw[this];simp
section facts
variable {k y e r d : Nat}
def wrap_stp:∀(n:Nat) (i:Int) (f:Fr Lo),(c8 n i f).stp=n+f.stp
 |0,_,_=>by simp[c8]
 |n+1,i,f=>by
  rw[c8,Fr.stp,Fr.stp,wrap_stp n];have:(S9 i 1).imm.toNat=1:=by simp[S9,iU1]
  rw[this];omega
end facts
end
def vl_get:∀{n:Nat} {f:Nat→UInt64} {l:List UInt64},l.length≤n→(∀i,i<n→f i=l.getD i 0)→vl f n=val l
 |0,f,l,h,_=>by
  have:l=[]:=Iq J;subst this;simp[vl,val]
 |n+1,f,l,h,g=>by
  rw[zpd];cases l with
  |nil =>
   have j:=g 0 J;have z:=vl_get (n:=n) (f:=λi=>f (i+1)) (l:=[]) N (λi hi=>by have:=g (i+1) J;simpa using this);rw[z,j];simp[val]
  |cons x l =>
   have j:=g 0 J;have z:=vl_get (n:=n) (f:=λi=>f (i+1)) (l:=l) (by simp at h;omega) (λi hi=>by have:=g (i+1) J;simpa using this);rw[z,j];simp[val]
section
section facts
variable {k : Nat}
end facts
end
section
def Sf(x:Int):Bool:=decide (x<16)
def Ss(x:Int):Bool:=decide (x<0) || decide (16≤x)
def V4(o:Lo):Bool :=
 if o.kind=16 then decide (0≤o.d)&&decide (o.d<16)
 else if o.kind=17 then true
 else if o.kind=14∨o.kind=15 then Sf o.a&&(Ss o.d&&Ss o.e)
 else (Ss o.d&&Ss o.e) || (Sf o.a&&(Sf o.b&&Sf o.c))
structure Lock (s t:Ms):Prop where
 i:s.i=t.i
 first:s.first=t.first
 l:s.l=t.l
 rs:s.r.length=64
 rt:t.r.length=64
 low:∀x,x<16→s.r.getD x 0=t.r.getD x 0
 bufs:s.bufs.map List.length=t.bufs.map List.length
section lock
variable {s t s' t' : Ms} {os : List Lo} {es : List Int}
def Lock.at(h:Lock s t){x:Int}(hx:Sf x=true):atR s.r x=atR t.r x:=by
 unfold Sf at hx;have hx:=Kl hx;unfold atR;by_cases q:x<0
 ·rw[H6 q,H6 q]
 ·rw[Hx q,Hx q];exact h.low _ J
def jq{r:List UInt64}{x:Int}{v:UInt64}(h:Ss x=true){y:Nat}(g:y<16):(Nl r x v).getD y 0=r.getD y 0:=by
 unfold Ss at h;simp only[Je,Ie]at h;unfold Nl;split
 ·simp only[Hw];rw[Hy J]
 ·rfl
def zhx{r q:List UInt64}{x:Int}{v:UInt64}(j:r.length=64)(z:q.length=64)(h:∀y,y<16→r.getD y 0=q.getD y 0):∀y,y<16→(Nl r x v).getD y 0=(Nl q x v).getD y 0:=λy g=>by
 unfold Nl;split
 ·by_cases A:x.toNat<64
  ·rw[Wn _ _ _ _ _ J,Wn _ _ _ _ _ J];split
   ·rfl
   ·exact h y g
  ·rw[List.set_eq_of_length_le J,List.set_eq_of_length_le J];exact h y g
 ·exact h y g
def Wl{r:List UInt64}{x:Int}{v:UInt64}(h:r.length=64):(Nl r x v).length=64:=by unfold Nl;split<;>simp[h]
def Lock.row(h:Lock s t)(x:Int):(Ua s.bufs x).length=(Ua t.bufs x).length:=by
 have hb:=congrArg (λl=>l.getD x.toNat 0) h.bufs;simp only[Hw,Jz]at hb;unfold Ua;simp only[Hw];cases h1:s.bufs[x.toNat]?<;>cases h2:t.bufs[x.toNat]?<;>simp[h1,h2]at hb ⊢<;>first|exact hb|skip
def Lock.step(h:Lock s t)(he:∀(i:Nat) (o p:Lo),os[i]?=some o→o.kind=17→os[(es.getD i 0).toNat]?=some p→p.kind=16)(ho:∀o∈os,V4 o=true)(hs:Rh os es s=some s')(ht:Rh os es t=some t'):Lock s' t':=by
 unfold Rh at hs ht;rw[←h.i]at ht;cases gg:os[s.i]? with
 |none =>
  rw[gg]at hs ht;cases hs;cases ht;exact h
 |some o =>
 rw[gg]at hs ht;dsimp only at hs ht;have hl:=ho o (Io gg);unfold V4 at hl;by_cases gE:o.kind=16
 ·rw[H6 gE]at hs ht hl;cases hs;cases ht;simp only[Hz,Ie]at hl;rw[←h.first];cases s.first
  ·exact⟨Ep,rfl,D3,h.rs,h.rt,h.low,h.bufs⟩
  ·exact⟨Ep,rfl,D3,Wl h.rs,Wl h.rt,zhx h.rs h.rt h.low,h.bufs⟩
 rw[Hx gE]at hs ht hl;by_cases gC:o.kind=17
 ·rw[H6 gC]at hs ht;cases hp:os[(es.getD s.i 0).toNat]? with
  |none=>rw[hp]at hs;cases hs
  |some p =>
  rw[hp]at hs ht;dsimp only at hs ht;have kp:=he _ _ _ gg gC hp;have gD:=ho p (Io hp);unfold V4 at gD;rw[H6 kp]at gD;simp only[Hz,Ie]at gD;rw[←h.at (x:=p.d) (by unfold Sf;exact Jj J)]at ht;split at hs
  ·rename_i g;rw[H6 g]at ht;cases hs;cases ht;exact⟨rfl,rfl,h.l,Wl h.rs,Wl h.rt,zhx h.rs h.rt h.low,h.bufs⟩
  ·rename_i g;rw[Hx g]at ht;cases hs;cases ht;exact⟨Ep,h.first,h.l,h.rs,h.rt,h.low,h.bufs⟩
 rw[Hx gC]at hs ht hl;unfold U5 at hs ht;by_cases gz:o.kind=14
 ·rw[H6 (.inl gz)]at hl;simp only[Hz]at hl;rw[H6 gz,←h.at hl.1,←h.row]at ht;rw[H6 gz]at hs;split at hs
  ·rename_i g;rw[H6 g]at ht;cases hs;cases ht;exact⟨Ep,h.first,D3,Wl (Wl h.rs),Wl (Wl h.rt),λx hx=>Cr,h.bufs⟩
  ·cases hs
 rw[Hx gz]at hs ht;by_cases gA:o.kind=15
 ·rw[H6 (.inr gA)]at hl;simp only[Hz]at hl;rw[H6 gA,←h.at hl.1,←h.row]at ht;rw[H6 gA]at hs;split at hs
  ·rename_i g;rw[H6 g]at ht;cases hs;cases ht;refine⟨Ep,h.first,D3,Wl (Wl h.rs),Wl (Wl h.rt),λx hx=>Cr,?_⟩;simp only[Ji,J9];rw[h.row,h.bufs]
  ·cases hs
 rw[Hx gA]at hs ht;rw[Hx J]at hl;cases hs;cases ht;simp only[Je,Hz]at hl;refine⟨Ep,h.first,D3,Wl (Wl h.rs),Wl (Wl h.rt),λx hx=>?_,h.bufs⟩;rcases hl with ⟨h1,h2⟩|⟨h1,h2,h3⟩
 ·show (Nl (Nl s.r o.d _) o.e _).getD x 0=(Nl (Nl t.r o.d _) o.e _).getD x 0;rw[jq h2 hx,jq h1 hx,jq h2 hx,jq h1 hx];exact h.low x hx
 ·show (Nl (Nl s.r o.d _) o.e _).getD x 0=(Nl (Nl t.r o.d _) o.e _).getD x 0;rw[h.at h1,h.at h2,h.at h3];exact zhx (Wl h.rs) (Wl h.rt) (zhx h.rs h.rt h.low) x hx
def Lock.step_some(h:Lock s t)(ho:∀o∈os,V4 o=true)(hs:Rh os es s=some s'):∃t',Rh os es t=some t':=by
 unfold Rh at hs ⊢;rw[←h.i];cases gA:os[s.i]? with
 |none=>exact⟨_,rfl⟩
 |some o =>
 rw[gA]at hs;dsimp only at hs ⊢;have hl:=ho o (Io gA);unfold V4 at hl;by_cases gC:o.kind=16
 ·rw[H6 gC];exact⟨_,rfl⟩
 rw[Hx gC]at hs hl ⊢;by_cases gD:o.kind=17
 ·rw[H6 gD]at hs ⊢;cases hp:os[(es.getD s.i 0).toNat]? with
  |none=>rw[hp]at hs;cases hs
  |some p =>
   dsimp only;split<;>exact⟨_,rfl⟩
 rw[Hx gD]at hs hl ⊢;unfold U5 at hs ⊢;by_cases gg:o.kind=14
 ·rw[H6 (.inl gg)]at hl;simp only[Hz]at hl;rw[H6 gg]at hs ⊢;rw[←h.at hl.1,←h.row];split at hs
  ·rename_i g;rw[H6 g];exact⟨_,rfl⟩
  ·cases hs
 rw[Hx gg]at hs ⊢;by_cases gz:o.kind=15
 ·rw[H6 (.inr gz)]at hl;simp only[Hz]at hl;rw[H6 gz]at hs ⊢;rw[←h.at hl.1,←h.row];split at hs
  ·rename_i g;rw[H6 g];exact⟨_,rfl⟩
  ·cases hs
 rw[Hx gz];exact⟨_,rfl⟩
def Lock.run_some(he:∀(i:Nat) (o p:Lo),os[i]?=some o→o.kind=17→os[(es.getD i 0).toNat]?=some p→p.kind=16)(ho:∀o∈os,V4 o=true):∀(n:Nat) (s t s':Ms),Lock s t→Py os es n s=some s'→∃t',Py os es n t=some t'∧Lock s' t'
 |0,s,t,s',h,hs=>by cases hs;exact⟨t,rfl,h⟩
 |n+1,s,t,s',h,hs=>by
  unfold Py at hs ⊢;split at hs
  ·cases hs
  ·rename_i s1 h1;obtain⟨t1,h2⟩:=h.step_some ho h1;rw[h2];exact Lock.run_some he ho n s1 t1 s' (h.step he ho h1 h2) hs
def stay{os:List Lo}{es:List Int}{s:Ms}(h:os[s.i]?=none):∀n,Py os es n s=some s
 |0=>rfl
 |n+1=>by
  have:Rh os es s=some s:=by unfold Rh;rw[h]
  unfold Py;rw[this];exact stay h n
end lock
end
section
noncomputable def zqf(d a b n t:Pn)(k R e:Nat):Fr Lo:=Vw d.p a.p b.p n.p t.p (k+1:Nat) (R:Nat) e
noncomputable def zx5(d a b n t:Pn)(k R e:Nat):Fr Lo:=c8 e 0 (zqf d a b n t k R e)
section facts
variable {bs : List Bf} {d a b n t : Pn} {k R e nb : Nat}
def lg(he:e≤6)(I:16≤R∧R≤50)(j:Bp bs d)(z:Bw bs d)(A:Bp bs a)(B:Bp bs b)(C:Bp bs n)(D:Bp bs t)(E:Bw bs t)(K:k+2<t.k)(F:0<n.k):Gd bs [] [] (zx5 d a b n t k R e) []:=by
 refine zss e 0 [] _ J J rfl N λL G g=>?_
 rw[Int.zero_add]at G g;unfold zqf;exact ae J J (λq=>Gl) (λq=>Gl) J (λx H=>by have:=g x H;omega) j z A B C D E J F
def gh(M:k≤9)(C:t.k≤12):(zqf d a b n t k R e).stp≤100000:=by
 have O:((k+1:Nat):Int).toNat≤10:=J
 have hw:(t.p.size).toNat≤12:=by simp[Pn.p];omega
 have m:∀(n x:Nat),n≤12→n*(1+x)≤12*(1+x):=λn x h=>Ij _ h
 unfold zqf Vw;have j:∀(g:Int) (b:Fr Lo),(O0 g ((k+1:Nat):Int) b).stp≤12*(1+b.stp):=λg b=>I8 (zv9 _ _ _ J) (m _ _ J)
 have D:∀(g:Int) (b:Fr Lo),(O0 g (((k+1:Nat):Int)-1) b).stp≤12*(1+b.stp):=λg b=>I8 (zv9 _ _ _ J) (m _ _ J)
 have E:∀(g:Int) (b:Fr Lo),(O0 g t.p.size b).stp≤12*(1+b.stp):=λg b=>I8 (zv9 _ _ _ (by simp[Pn.p];omega)) (m _ _ hw)
 have F:∀(a b t:Pc) (R g i:Int),(Sy a b t ((k+1:Nat):Int) R g i).stp≤300:=λa b t R g i=>by
  unfold Sy;have:=j g (Nh (Tl a t R g));simp only[stp_cat,Rf,Tl,N6,O3,Ia,Ih,Iv]at this ⊢;omega
 have G:∀(n t:Pc) (R g:Int),(Th n t ((k+1:Nat):Int) R g).stp≤300:=λn t R g=>by
  unfold Th;have:=D g (Nh (T4 n t R g));simp only[stp_cat,Rf,T4,N6,O3,Ia,Ih,Iv]at this ⊢;omega
 have z:∀(n t:Pc) (R g:Int) (x:List Lo),x.length≤2→(U2 n t ((k+1:Nat):Int) R g x).stp≤200:=λn t R g x P=>by
  unfold U2;have:=j g (Nh (Tq n t R g++x));simp only[stp_cat,Rf,Tq,Ia,Ih,Iv]at this ⊢;omega
 have H:∀(d n t:Pc) (R g:Int),(Xb d n t ((k+1:Nat):Int) R g).stp≤500:=λd n t R g=>by
  unfold Xb;have A:=z n t R g [] N;have B:=z n t R g [Og (R+6) (R+10) (R+7) (R+6),Nq d g 0 (R+6)] N;simp only[stp_cat,Rf,Ih,Iv]at A B ⊢;omega
 have A:=H d.p n.p t.p ((R:Nat):Int) e;have B:=F a.p b.p t.p ((R:Nat):Int) (e+1) e;have Q:=G n.p t.p ((R:Nat):Int) (e+1);have I:=j e ((Sy a.p b.p t.p ((k+1:Nat):Int) ((R:Nat):Int) (e+1) e).cat (Th n.p t.p ((k+1:Nat):Int) ((R:Nat):Int) (e+1)));have K:=E e (Nh [Nq t.p e 0 ((R:Nat):Int)]);have L:=zko (((R:Nat):Int)+10) (((R:Nat):Int)+1);simp only[stp_cat,Rf,Tt,Ia,Ih,Iv,L]at I K ⊢;omega
def gy(j:k≤9)(g:t.k≤12)(he:e≤6):(zx5 d a b n t k R e).stp≤16777216:=by
 unfold zx5;rw[wrap_stp];have:=gh (d:=d) (a:=a) (b:=b) (n:=n) (R:=R) (e:=e) j g;omega
def np{sz:Nat→Nat}{s0:Fs}(B:e+1<R)(hd:d.in_ sz)(C:a.in_ sz)(E:b.in_ sz)(F:n.in_ sz)(G:t.in_ sz)(H:k+1≤d.k)(I:k+1≤a.k)(K:k+1≤b.k)(L:k+1≤n.k)(M:k+3≤t.k)
  (O:DjE d n) (P:Dj d t) (T:Dj t a) (U:Dj t b) (V:Dj t n) (g:pl s0.m n 0%2=1) (X:vl (pl s0.m a) (k+1)<vl (pl s0.m n) (k+1)) :
  Tx sz (zx5 d a b n t k R e) s0 λj=>(∀x y,¬(x=d.b∧d.a≤y∧y<d.a+d.k)→¬(x=t.b∧t.a≤y∧y<t.a+t.k)→j.m x y=s0.m x y) ∧
   vl (pl j.m d) (k+1)<vl (pl s0.m n) (k+1)∧∃Q Q':Nat,18446744073709551616^(k+1)*vl (pl j.m d) (k+1)+Q'*vl (pl s0.m n) (k+1)=vl (pl s0.m a) (k+1)*vl (pl s0.m b) (k+1)+Q*vl (pl s0.m n) (k+1):=by
 refine znr e 0 _ _ λs z=>?_
 have A:=Z4 (sz:=sz) (s:=s) (R:=R) (D:=e) (k:=k) B hd C E F G H I K L M O P T U V (by rw[z];exact g) (by rw[z];exact X);rw[z]at A;exact A.mono λt ⟨_,Y⟩=>Y
end facts
end
def zmb{bs:List Bf}{X Y:List (List UInt64)}(h:∀i,i<bs.length→(X.getD i []).length=(Y.getD i []).length):Lock (O6 64 bs X) (O6 64 bs Y):=by
 refine⟨rfl,rfl,rfl,Di,Di,λx _=>rfl,?_⟩;show (S0 bs X bs.length).map List.length=(S0 bs Y bs.length).map List.length;unfold S0;rw[List.map_map,List.map_map];refine List.map_congr_left λi hi=>?_
 have:=h i (Kh.1 hi);simp only[Function.comp,V2,Ia,List.length_replicate];omega
def zow{f:Fr Lo}(hw:f.wf Ql):∀(i:Nat) (o p:Lo),f.flat[i]?=some o→o.kind=17→f.flat[((f.ends 0).getD i 0).toNat]?=some p→p.kind=16:=λi o p ho j g=>by
 obtain⟨k,C,z,A,B⟩:=ends_at f 0 i o hw ho j;rw[Hw,z]at g;simp only[Jx,In,Iz]at g;rw[A]at g;rw[←Option.some.inj g];exact B
def iu{b:Nat}(C:∀o∈vY,¬(o.kind=15∧o.buf.toNat=b)){s D:Ms}(h:Rh vY vL s=some D):D.bufs.getD b []=s.bufs.getD b []∧D.bufs.length=s.bufs.length:=by
 unfold Rh at h;cases g:vY[s.i]? with
 |none=>rw[g]at h;cases h;exact⟨rfl,rfl⟩
 |some o =>
 rw[g]at h;dsimp only at h;have E:=C o (Io g);by_cases z:o.kind=16
 ·rw[H6 z]at h;cases h;exact⟨rfl,rfl⟩
 rw[Hx z]at h;by_cases A:o.kind=17
 ·rw[H6 A]at h;split at h
  ·cases h
  ·split at h<;>(cases h;exact⟨rfl,rfl⟩)
 rw[Hx A]at h;unfold U5 at h;by_cases B:o.kind=14
 ·rw[H6 B]at h;split at h
  ·cases h;exact⟨rfl,rfl⟩
  ·cases h
 rw[Hx B]at h;by_cases j:o.kind=15
 ·rw[H6 j]at h;split at h
  ·cases h;refine⟨?_,N⟩;simp only[Hw];rw[Hy (λq=>E ⟨j,q⟩)]
  ·cases h
 rw[Hx j]at h;cases h;exact⟨rfl,rfl⟩
def zod{z:List Lo}{A:List Int}{b:Nat}(j:∀o∈z,¬(o.kind=15∧o.buf.toNat=b)):∀(n:Nat) (s g:Ms),Py z A n s=some g→g.bufs.getD b []=s.bufs.getD b []∧g.bufs.length=s.bufs.length
 |0,s,g,h=>by cases h;exact⟨rfl,rfl⟩
 |n+1,s,g,h=>by
  unfold Py at h;split at h
  ·cases h
  ·rename_i B C;obtain⟨D,E⟩:=iu j C;obtain⟨F,G⟩:=zod j n B g h;exact⟨F.trans D,G.trans E⟩
def Xs(sz:Nat→Nat):(Nat→Option Nat)→Fr Lo→Prop
 |_,.nil=>True
 |g,.op o r=>(Ss o.d=true∧Ss o.e=true)∧(o.kind=14∨o.kind=15→(o.a=-1∧o.imm.toNat<sz o.buf.toNat)∨∃x m:Nat,o.a=x∧x<16∧g x=some m∧o.imm.toNat+m≤sz o.buf.toNat∧sz o.buf.toNat≤65536)∧Xs sz g r
 |g,.loop o b _ r=>((0≤o.d∧o.d<16)∧b.noW o.d.toNat=true)∧Xs sz (λx=>if x=o.d.toNat then some o.imm.toNat else g x) b∧Xs sz (λx=>if x=o.d.toNat then none else g x) r
def zu2(g:Nat→Option Nat)(s:Fs):Prop:=∀x m,x<16→g x=some m→(s.r x).toNat<m
def z9o{s:Fs}{d:Int}{v:UInt64}(h:Ss d=true){x:Nat}(g:x<16):(Ri s d v).r x=s.r x:=by
 unfold Ss at h;simp only[Je,Ie]at h;exact zjz J
def op_runs{A:Nat→Nat}{D:Nat→Option Nat}{o:Lo}{s:Fs}(F:zu2 D s)(hd:Ss o.d=true)(he:Ss o.e=true)
  (hm:o.kind=14∨o.kind=15→(o.a=-1∧o.imm.toNat<A o.buf.toNat)∨∃x m:Nat,o.a=x∧x<16∧D x=some m∧o.imm.toNat+m≤A o.buf.toNat∧A o.buf.toNat≤65536):∃E,Qg A o s=some E∧∀x,x<16→E.r x=s.r x:=by
 have B:o.kind=14∨o.kind=15→(o.imm+Te s o.a).toNat<A o.buf.toNat:=λG=>by
  rcases hm G with ⟨e,h⟩|⟨x,m,e,g,C,H,I⟩
  ·unfold Te;rw[e,H6 Ad,UInt64.add_zero];exact h
  ·have K:=F x m g C;unfold Te;rw[e,Hx J,In,Jk,Iw J];omega
 unfold Qg;by_cases j:o.kind=14
 ·rw[H6 j,H6 (B (.inl j))];exact⟨_,rfl,λx g=>by rw[z9o he g,z9o hd g]⟩
 rw[Hx j];by_cases z:o.kind=15
 ·rw[H6 z,H6 (B (.inr z))];exact⟨_,rfl,λx g=>by rw[z9o he g,z9o hd g];rfl⟩
 rw[Hx z];exact⟨_,rfl,λx g=>by rw[z9o he g,z9o hd g]⟩
def zc4{Q:Nat→Nat}:∀(f:Fr Lo) (z:Nat→Option Nat) (s:Fs),Xs Q z f→zu2 z s→(∀x m,z x=some m→f.noW x=true)→∃G,Tn Q f s=some G∧∀x m,x<16→z x=some m→G.r x=s.r x
 |.nil,_,s,_,_,_=>⟨s,rfl,λ_ _ _ _=>rfl⟩
 |.op o r,z,s,h,H,hw=>by
  obtain⟨⟨U,V⟩,R,T⟩:=h;obtain⟨F,I,E⟩:=op_runs H U V R;obtain⟨K,L,M⟩:=zc4 r z F T (λx m j g=>by rw[E x j];exact H x m j g) (λx m g=>by
   have:=hw x m g;simp only[Fr.noW,Hz]at this;exact this.2.2)
  refine⟨K,?_,λx m j g=>(M x m j g).trans (E x j)⟩;unfold Tn;rw[I];exact L
 |.loop o b e r,z,s,h,H,hw=>by
  obtain⟨⟨⟨U,V⟩,X⟩,R,T⟩:=h;have A:∀x m,z x=some m→x≠o.d.toNat∧b.noW x=true∧r.noW x=true:=λx m g=>by
   have:=hw x m g;simp only[Fr.noW,Hz,Jq,I6]at this;exact⟨λq=>this.1 q.symm,this.2.1,this.2.2⟩
  have Y:=o.imm.toNat_lt;have B:∀(n P:Nat) (s:Fs),P+n=o.imm.toNat→zu2 z s→∃G,sv (Tn Q b) o.d.toNat n P s=some G∧∀x m,x<16→z x=some m→G.r x=s.r x:=by
   intro n
   induction n with
   |zero=>intro P s _ _;exact⟨s,rfl,λ_ _ _ _=>rfl⟩
   |succ n Z =>
    intro P s hj O;have C:∀x,(s.put o.d.toNat (UInt64.ofNat P)).r x=if x=o.d.toNat then UInt64.ofNat P else s.r x:=λx=>rfl
    obtain⟨F,I,E⟩:=zc4 b _ (s.put o.d.toNat (UInt64.ofNat P)) R (λx m j g=>by
     rw[C];by_cases q:x=o.d.toNat
     ·rw[H6 q]at g ⊢;cases g;rw[Jf];rw[Iw J];omega
     ·rw[Hx q]at g ⊢;exact O x m j g) (λx m g=>by
     by_cases q:x=o.d.toNat
     ·rw[q];exact X
     ·rw[Hx q]at g;exact (A x m g).2.1)
    have D:∀x m,x<16→z x=some m→F.r x=s.r x:=λx m j g=>by
     have q:=(A x m g).1;rw[E x m j (by rw[Hx q];exact g),C,Hx q]
    obtain⟨K,L,M⟩:=Z (P+1) F J (λx m j g=>by rw[D x m j g];exact O x m j g);refine⟨K,?_,λx m j g=>(M x m j g).trans (D x m j g)⟩;unfold sv;rw[I];exact L
  obtain⟨F,I,E⟩:=B o.imm.toNat 0 s J H;obtain⟨K,L,M⟩:=zc4 r _ F T (λx m j g=>by
   by_cases q:x=o.d.toNat
   ·rw[H6 q]at g;cases g
   ·rw[Hx q]at g;rw[E x m j g];exact H x m j g) (λx m g=>by
   by_cases q:x=o.d.toNat
   ·rw[H6 q]at g;cases g
   ·rw[Hx q]at g;exact (A x m g).2.2)
  refine⟨K,?_,λx m j g=>?_⟩
  ·unfold Tn;rw[I];exact L
  ·have q:=(A x m g).1;rw[M x m j (by rw[Hx q];exact g)];exact E x m j g
section
def Sm(sz:Nat→Nat)(bd:Nat→Option Nat)(o:Lo):Prop:=(Ss o.d=true∧Ss o.e=true)∧(o.kind=14∨o.kind=15→(o.a=-1∧o.imm.toNat<sz o.buf.toNat)∨∃x m:Nat,o.a=x∧x<16∧bd x=some m∧o.imm.toNat+m≤sz o.buf.toNat∧sz o.buf.toNat≤65536)
section run
variable {sz : Nat → Nat} {bd : Nat → Option Nat}
def safe_L:∀{l:List Lo},(∀o∈l,Sm sz bd o)→Xs sz bd (Nh l)
 |[],_=>trivial
 |o::_,h=>⟨(h o (I9 ..)).1,(h o (I9 ..)).2,safe_L λx g=>h x (Ik _ g)⟩
def safe_cat:∀{f B:Fr Lo} {bd:Nat→Option Nat},Xs sz bd f→(∀g:Nat→Option Nat,(∀x m,bd x=some m→f.noW x=true→g x=some m)→Xs sz g B)→Xs sz bd (f.cat B)
 |.nil,_,bd,_,h=>h bd λ_ _ e _=>e
 |.op o r,B,bd,j,h=>⟨j.1,j.2.1,safe_cat j.2.2 λg A=>h g λx m e z=>A x m e (by
   simp only[Fr.noW,Hz]at z;exact z.2.2)⟩
 |.loop o b e r,B,bd,j,h=>⟨j.1,j.2.1,safe_cat j.2.2 λg A=>h g λx m q z=>by
   simp only[Fr.noW,Hz,Jq,I6]at z;exact A x m (by rw[Hx (λw=>z.1 w.symm)];exact q) z.2.2⟩
def zu3{g:Nat}(z:g<16):∀{l:List Lo},(∀o∈l,Ss o.d=true∧Ss o.e=true)→(Nh l).noW g=true
 |[],_=>rfl
 |o::l,h=>by
  have j:=h o (I9 ..);have A:=zu3 z (l:=l) λx B=>h x (Ik _ B)
  unfold Ss at j;simp only[Je,Ie]at j;show (!decide (o.d=g)&&(!decide (o.e=g)&&(Nh l).noW g))=true;rw[A];simp;omega
def ze5{D:Nat}:∀(f g:Fr Lo),(f.cat g).noW D=(f.noW D&&g.noW D)
 |.nil,g=>by simp[Fr.cat,Fr.noW]
 |.op o r,g=>Ez
 |.loop o b e r,g=>Ez
def noW_lp{n:Nat}{b:Fr Lo}(h:j≠g)(z:b.noW g=true):(O0 (j:Nat) (n:Nat) b).noW g=true:=by
 unfold O0;split
 ·rfl
 ·simp[Fr.noW,S9,z,h]
def zzs{D n:Nat}{b:Fr Lo}(A:D<16)(B:n<1000000)(hw:b.noW D=true)(g:Xs sz (λx=>if x=D then some n else bd x) b):Xs sz bd (O0 (D:Nat) (n:Nat) b):=by
 unfold O0;split
 ·trivial
 ·refine⟨⟨⟨by show (0:Int)≤D;omega,by show (D:Int)<16;omega⟩,hw⟩,?_,trivial⟩;have j:(S9 (D:Nat) (n:Nat)).d.toNat=D:=by simp[S9]
  have z:(S9 (D:Nat) (n:Nat)).imm.toNat=n:=Vu J;rw[j,z];exact g
def za7{x:Int}(h:16≤x):Ss x=true:=by unfold Ss;simp;omega
def high_m1:Ss (-1)=true:=Ad
def zqe{o:Lo}(g:o.kind≠14∧o.kind≠15)(hd:Ss o.d=true)(he:Ss o.e=true):Sm sz bd o:=⟨⟨hd,he⟩,λh=>J⟩
def zuw{p:Pn}(h:p.a+g<18446744073709551616):(iU (p.p.at_+(g:Int))).toNat=p.a+g:=ac h
def ze4{p:Pn}{d:Int}{off:Nat}(hd:16≤d)(h:p.a+off<sz p.b)(g:sz p.b≤65536):Sm sz bd (Nk d p.p (-1) (off:Nat)) :=
 ⟨⟨za7 hd,high_m1⟩,λ_=>.inl ⟨rfl,Gv⟩⟩
def zdp{p:Pn}{d:Int}{x m off:Nat}(hd:16≤d)(g:x<16)(j:bd x=some m)(h:p.a+off+m≤sz p.b)(z:sz p.b≤65536):Sm sz bd (Nk d p.p (x:Nat) (off:Nat)) :=
 ⟨⟨za7 hd,high_m1⟩,λ_=>.inr ⟨x,m,rfl,g,j,Gw,z⟩⟩
def zoc{p:Pn}{v:Int}{off:Nat}(h:p.a+off<sz p.b)(g:sz p.b≤65536):Sm sz bd (Nq p.p (-1) (off:Nat) v) :=
 ⟨⟨high_m1,high_m1⟩,λ_=>.inl ⟨rfl,Gv⟩⟩
def znc{p:Pn}{v:Int}{x m off:Nat}(g:x<16)(j:bd x=some m)(h:p.a+off+m≤sz p.b)(z:sz p.b≤65536):Sm sz bd (Nq p.p (x:Nat) (off:Nat) v) :=
 ⟨⟨high_m1,high_m1⟩,λ_=>.inr ⟨x,m,rfl,g,j,Gw,z⟩⟩
def ok_nil:∀o∈([]:List Lo),Sm sz bd o:=λ_ h=>Am
def Qd{o:Lo}{l:List Lo}(h:Sm sz bd o)(k:∀x∈l,Sm sz bd x):∀x∈o::l,Sm sz bd x:=λx g=>by
 rcases Ig.1 g with rfl|g
 ·exact h
 ·exact k x g
def uj{l r:List Lo}(h:∀x∈l,Sm sz bd x)(k:∀x∈r,Sm sz bd x):∀x∈l++r,Sm sz bd x:=λx g=>(Is.1 g).elim (h x) (k x)
def Yg{d:Int}{v:UInt64}(h:16≤d):Sm sz bd (cK d v):=zqe Dh (za7 h) high_m1
def zrz{h l a b:Int}(g:16≤h)(j:16≤l):Sm sz bd (N9 h l a b):=zqe Fa (za7 g) (za7 j)
def zms{k d o a b c:Int}(g:k≠14∧k≠15)(hd:16≤d)(ho:16≤o):Sm sz bd (Ny k d o a b c):=zqe g (za7 hd) (za7 ho)
def zlv{k d a b:Int}(g:k≠14∧k≠15)(hd:16≤d):Sm sz bd (Nb k d a b):=zqe g (za7 hd) high_m1
def ok_Sel{d c a b:Int}(hd:16≤d):Sm sz bd (Og d c a b):=zqe (by simp[Og]) (za7 hd) high_m1
def zty{a b:Int}(g:16≤z):∀o∈N6 z a b,Sm sz bd o :=
 Qd (zrz J J) (Qd (zms J J J) (Qd (zms J J J) (Qd (zlv J J) (Qd (zlv J J) ok_nil))))
def zhr{D n:Nat}(j:D<16)(z:n<1000000)(h:∀g:Nat→Option Nat,g D=some n→∀o∈vY,Sm sz g o):Xs sz bd (O0 (D:Nat) (n:Nat) (Nh vY)) :=
 zzs j z (zu3 j λo ho=>(h (λ_=>some n) rfl o ho).1) (safe_L (h _ (H6 rfl)))
def Zn{n:Nat}(A:j<16)(z:g≠j)(h:∀o∈vY,Ss o.d=true∧Ss o.e=true):(O0 (g:Nat) (n:Nat) (Nh vY)).noW j=true:=noW_lp z (zu3 A h)
def zmh{R D i k:Nat}{a b t:Pn}(U:16≤R)(j:D<16)(hi:i<16)(K:b.in_ sz)(L:a.in_ sz)(M:t.in_ sz){m:Nat}(z:bd i=some m)(hm:m≤b.k)(V:k≤a.k)(O:k+2≤t.k)(A:k<1000000) :
  Xs sz bd (Sy a.p b.p t.p (k:Nat) (R:Nat) (D:Nat) (i:Nat))∧∀I,I<16→D≠I→(Sy a.p b.p t.p (k:Nat) (R:Nat) (D:Nat) (i:Nat)).noW I=true:=by
 obtain⟨X,P⟩:=K;obtain⟨Y,Q⟩:=L;obtain⟨Z,g⟩:=M;have F:∀bd:Nat→Option Nat,bd i=some m→∀o∈[Nk ((R:Nat)+2:Int) b.p (i:Nat) ((0:Nat):Int),cK ((R:Nat)+3:Int) 0],Sm sz bd o:=λbd h =>
  Qd (zdp J hi h J P) (Qd (Yg J) ok_nil)
 have G:∀bd:Nat→Option Nat,bd D=some k→∀o∈Tl a.p t.p (R:Nat) (D:Nat),Sm sz bd o:=λbd h =>
  uj (Qd (zdp (off:=0) J j h J Q) (Qd (zdp (off:=0) J j h J g) ok_nil)) (uj (zty J) (Qd (znc (off:=0) j h J g) ok_nil))
 have H:∀bd:Nat→Option Nat,∀o∈O3 t.p (k:Nat) (R:Nat)++[Nq t.p (-1) (k:Nat) ((R:Nat)+7),Nq t.p (-1) ((k+1:Nat):Int) ((R:Nat)+8)],Sm sz bd o:=λbd =>
  uj (Qd (ze4 J J g) (Qd (zms J J J) ok_nil)) (Qd (zoc J g) (Qd (zoc J g) ok_nil))
 refine⟨safe_cat (safe_L (F bd z)) λT _=>safe_cat (zhr j A G) λB _=>safe_L (H B),λI C E=>?_⟩;have e:Sy a.p b.p t.p (k:Nat) (R:Nat) (D:Nat) (i:Nat)=(Nh [Nk ((R:Nat)+2:Int) b.p (i:Nat) ((0:Nat):Int),cK ((R:Nat)+3:Int) 0]).cat ((O0 (D:Nat) (k:Nat) (Nh (Tl a.p t.p (R:Nat) (D:Nat)))).cat
   (Nh (O3 t.p (k:Nat) (R:Nat)++[Nq t.p (-1) (k:Nat) ((R:Nat)+7),Nq t.p (-1) ((k+1:Nat):Int) ((R:Nat)+8)]))):=rfl
 rw[e,ze5,ze5,zu3 C λo ho=>(F (λ_=>some m) rfl o ho).1,Zn C E λo ho=>(G (λ_=>some k) rfl o ho).1,zu3 C λo ho=>(H bd o ho).1];rfl
def zq7{R D k:Nat}{n t:Pn}(Q:16≤R)(j:D<16)(K:n.in_ sz)(L:t.in_ sz)(T:k+1≤n.k)(M:k+3≤t.k)(z:k<1000000) :
  Xs sz bd (Th n.p t.p ((k+1:Nat):Int) (R:Nat) (D:Nat))∧∀I,I<16→D≠I→(Th n.p t.p ((k+1:Nat):Int) (R:Nat) (D:Nat)).noW I=true:=by
 obtain⟨U,E⟩:=K;obtain⟨V,g⟩:=L;have O:((k+1:Nat):Int)-1=(k:Nat):=J
 have F:∀bd:Nat→Option Nat,∀o∈[Nk ((R:Nat)+7:Int) t.p (-1) ((0:Nat):Int),N9 ((R:Nat)+5) ((R:Nat)+10) ((R:Nat)+7) ((R:Nat)+1),Nk ((R:Nat)+4:Int) n.p (-1) ((0:Nat):Int),cK ((R:Nat)+3) 0]++N6 (R:Nat) ((R:Nat)+10) ((R:Nat)+4),Sm sz bd o:=λbd =>
  uj (Qd (ze4 J J g) (Qd (zrz J J) (Qd (ze4 J J E) (Qd (Yg J) ok_nil)))) (zty J)
 have G:∀bd:Nat→Option Nat,bd D=some k→∀o∈T4 n.p t.p (R:Nat) (D:Nat),Sm sz bd o:=λbd h =>
  uj (Qd (zdp (off:=1) J j h J E) (Qd (zdp (off:=1) J j h J g) ok_nil)) (uj (zty J) (Qd (znc (off:=0) j h J g) ok_nil))
 have H:∀bd:Nat→Option Nat,∀o∈O3 t.p ((k+1:Nat):Int) (R:Nat)++[Nq t.p (-1) ((k:Nat):Int) ((R:Nat)+7),Nk ((R:Nat)+7) t.p (-1) ((k+2:Nat):Int),Nb 3 ((R:Nat)+7) ((R:Nat)+7) ((R:Nat)+8),Nq t.p (-1) ((k+1:Nat):Int) ((R:Nat)+7)],Sm sz bd o:=λbd =>
  uj (Qd (ze4 J J g) (Qd (zms J J J) ok_nil)) (Qd (zoc J g) (Qd (ze4 J J g) (Qd (zlv J J) (Qd (zoc J g) ok_nil))))
 have e:Th n.p t.p ((k+1:Nat):Int) (R:Nat) (D:Nat)=(Nh ([Nk ((R:Nat)+7:Int) t.p (-1) ((0:Nat):Int),N9 ((R:Nat)+5) ((R:Nat)+10) ((R:Nat)+7) ((R:Nat)+1),Nk ((R:Nat)+4:Int) n.p (-1) ((0:Nat):Int),cK ((R:Nat)+3) 0]++N6 (R:Nat) ((R:Nat)+10) ((R:Nat)+4))).cat
   ((O0 (D:Nat) (k:Nat) (Nh (T4 n.p t.p (R:Nat) (D:Nat)))).cat (Nh (O3 t.p ((k+1:Nat):Int) (R:Nat)++[Nq t.p (-1) ((k:Nat):Int) ((R:Nat)+7),Nk ((R:Nat)+7) t.p (-1) ((k+2:Nat):Int),Nb 3 ((R:Nat)+7) ((R:Nat)+7) ((R:Nat)+8),Nq t.p (-1) ((k+1:Nat):Int) ((R:Nat)+7)]))):=by
  unfold Th;rw[O];rfl
 rw[e];refine⟨safe_cat (safe_L (F bd)) λP _=>safe_cat (zhr j z G) λA _=>safe_L (H A),λI B C=>?_⟩;rw[ze5,ze5,zu3 B λo ho=>(F bd o ho).1,Zn B C λo ho=>(G (λ_=>some k) rfl o ho).1,zu3 B λo ho=>(H bd o ho).1];rfl
end run
end
section
section run
variable {sz : Nat → Nat} {bd : Nat → Option Nat}
def zr6{k:Nat}{n t:Pn}{x:List Lo}(K:16≤g)(z:j<16)(B:n.in_ sz)(C:t.in_ sz)(L:k≤n.k)(D:k≤t.k)(A:k<1000000)(E:∀bd:Nat→Option Nat,bd j=some k→∀o∈x,Sm sz bd o) :
  Xs sz bd (U2 n.p t.p (k:Nat) (g:Nat) (j:Nat) x):=by
 obtain⟨M,F⟩:=B;obtain⟨O,G⟩:=C;have H:∀bd:Nat→Option Nat,bd j=some k→∀o∈Tq n.p t.p (g:Nat) (j:Nat)++x,Sm sz bd o:=λbd h =>
  uj (Qd (zdp (off:=0) J z h J G) (Qd (zdp (off:=0) J z h J F) (Qd (zms J J J) ok_nil))) (E bd h)
 exact safe_cat (safe_L (Qd (Yg J) ok_nil)) λI _=>zhr z A H
def fw{R D k:Nat}{d n t:Pn}(A:16≤R)(z:D<16)(hd:d.in_ sz)(B:n.in_ sz)(j:t.in_ sz)(C:k≤n.k)(E:k+1≤t.k)(F:k≤d.k)(g:k<1000000) :
  Xs sz bd (Xb d.p n.p t.p (k:Nat) (R:Nat) (D:Nat)):=by
 unfold Xb;refine safe_cat (zr6 A z B j C J g λ_ _=>ok_nil) λG _=>safe_cat (safe_L (Qd (ze4 J (by have:=j.1;omega) j.2) (Qd (zms J J J) ok_nil))) λH _=>zr6 A z B j C J g λbd h=>?_
 exact Qd (ok_Sel J) (Qd (znc (off:=0) z h (by have:=hd.1;omega) hd.2) ok_nil)
def xu{n r:Int}(h:16≤r):∀o∈Um n r,Sm sz bd o:=by
 have g:∀i,∀o∈X6 n r i,Sm sz bd o:=λi o ho=>by
  unfold X6 at ho;obtain⟨_,_,ho⟩:=List.mem_flatMap.1 ho;exact Qd (zrz J J) (Qd (zlv J J) (Qd (zrz J J) ok_nil)) o ho
 unfold Um;exact uj (Qd (Yg J) (Qd (zrz J J) (Qd (Yg J) (Qd (zlv J J) ok_nil)))) (uj (g 5) (Qd (Yg J) (Qd (zlv J J) ok_nil)))
def zp2{R D k:Nat}{d a b n t:Pn}(j:16≤R)(A:D+1<16)(hd:d.in_ sz)(E:a.in_ sz)(F:b.in_ sz)(z:n.in_ sz)(g:t.in_ sz)(K:k+1≤d.k)(G:k+1≤a.k)(H:k+1≤b.k)(B:k+1≤n.k)(I:k+3≤t.k)(C:t.k<1000000) :
  Xs sz bd (Vw d.p a.p b.p n.p t.p (k+1:Nat) (R:Nat) (D:Nat)):=by
 have e:Vw d.p a.p b.p n.p t.p (k+1:Nat) (R:Nat) (D:Nat)=(Nh ([cK (R:Nat) 0,Nk ((R:Nat)+10:Int) n.p (-1) ((0:Nat):Int)]++Um ((R:Nat)+10:Int) ((R:Nat)+1:Int))).cat ((O0 (D:Nat) (t.k:Nat) (Nh [Nq t.p (D:Nat) ((0:Nat):Int) (R:Nat)])).cat ((O0 (D:Nat) (k+1:Nat) ((Sy a.p b.p t.p (k+1:Nat) (R:Nat) ((D+1:Nat):Int) (D:Nat)).cat (Th n.p t.p (k+1:Nat) (R:Nat) ((D+1:Nat):Int)))).cat (Xb d.p n.p t.p (k+1:Nat) (R:Nat) (D:Nat)))):=rfl;rw[e];refine safe_cat (safe_L (uj (Qd (Yg J) (Qd (ze4 J (by have:=z.1;omega) z.2) ok_nil)) (xu J))) λL _=>?_
 refine safe_cat (zhr J C λbd h=>Qd (znc (off:=0) J h (by have:=g.1;omega) g.2) ok_nil) λM _=>?_
 refine safe_cat (zzs J J ?_ ?_) λO _=>fw j J hd z g B J K J
 ·have P:=(zmh (sz:=sz) (bd:=λ_=>some (k+1)) (R:=R) (D:=D+1) (i:=D) (k:=k+1) j A J F E g rfl H G J J).2 D J J;have Q:=(zq7 (sz:=sz) (bd:=λ_=>some (k+1)) (R:=R) (D:=D+1) (k:=k) j A z g B I J).2 D J J;rw[ze5,P,Q];rfl
 ·refine safe_cat (zmh j A J F E g (m:=k+1) (H6 rfl) H G J J).1 λT _=>(zq7 j A z g B I J).1
def zyd{R e k:Nat}{d a b n t:Pn}{s0:Fs}(j:16≤R)(he:e≤6)(hd:d.in_ sz)(z:a.in_ sz)(A:b.in_ sz)(B:n.in_ sz)(C:t.in_ sz)(D:k+1≤d.k)(E:k+1≤a.k)(F:k+1≤b.k)(G:k+1≤n.k)(H:k+3≤t.k)(g:t.k<1000000) :
  Tx sz (zx5 d a b n t k R e) s0 λ_=>True:=by
 refine znr e 0 _ _ λs L=>?_
 obtain⟨I,K,_⟩:=zc4 (zqf d a b n t k R e) (λ_=>none) s (zp2 j J hd z A B C D E F G H g) (λx m _ h=>Am) (λx m h=>Am);exact⟨I,K,trivial⟩
end run
end
section
structure Cf where
 nb:Nat
 R:Int
 w:Int
 lo:Int
 hi:Int
 pa:Int
 pb:Int
 L:Nat→Prop
 S:Nat→Prop
def Q4(c:Cf)(x:Int):Prop:=c.R≤x∧x<c.R+c.w
def T1(c:Cf)(x:Int):Prop:=(c.lo≤x∧x≤c.hi)∨(c.pa≤x∧x≤c.pb)
def Tv(c:Cf)(x:Int):Prop:=x=-1∨Q4 c x∨T1 c x
def hiO(c:Cf)(o:Lo):Prop:=(o.d=-1∨Q4 c o.d)∧(o.e=-1∨Q4 c o.e)∧(o.kind=14∨o.kind=15→o.a=-1∨T1 c o.a)
def plO(c:Cf)(o:Lo):Prop:=(o.kind≠14∧o.kind≠15)∧(c.pa≤o.d∧o.d≤c.pb)∧o.e=-1∧(o.a=-1∨T1 c o.a)∧(o.b=-1∨T1 c o.b)∧(o.c=-1∨T1 c o.c)
structure OpH (c:Cf) (o:Lo):Prop where
 k:o.kind≠16∧o.kind≠17
 f:o.buf.toNat<c.nb
 a:Tv c o.a
 b:Tv c o.b
 z:Tv c o.c
 m:hiO c o∨plO c o
 ld:o.kind=14→c.L o.buf.toNat
 st:o.kind=15→c.S o.buf.toNat
def Fr.AllH(c:Cf):Int→Fr Lo→Prop
 |_,.nil=>True
 |gg,.op o r=>OpH c o∧r.AllH c gg
 |gg,.loop o b e r=>LpG gg o∧(c.lo≤gg∧gg≤c.hi)∧e=Tj∧b.AllH c (gg+1)∧r.AllH c gg
structure CfOk (c:Cf):Prop where
 r:16≤c.R∧c.R+c.w≤64
 l:0≤c.lo∧c.hi<8
 p:8≤c.pa∧c.pb<16
def tu(c:Cf)(o:Lo):Prop:=OpH c o∨o=Tj∨∃g,LpG g o∧c.lo≤g∧g≤c.hi
section ah
variable {c : Cf}
def allH_cat:∀{f j:Fr Lo} {g:Int},f.AllH c g→j.AllH c g→(f.cat j).AllH c g
 |.nil,_,_,_,h=>h
 |.op _ _,_,_,h,k=>⟨h.1,allH_cat h.2 k⟩
 |.loop _ _ _ _,_,_,h,k=>⟨h.1,h.2.1,h.2.2.1,h.2.2.2.1,allH_cat h.2.2.2.2 k⟩
def allH_L:∀{l:List Lo} {g:Int},(∀o∈l,OpH c o)→(Nh l).AllH c g
 |[],_,_=>trivial
 |o::_,_,h=>⟨h o (I9 ..),allH_L λx j=>h x (Ik _ j)⟩
def Xv{b:Fr Lo}(A:B≤1000000)(g:c.lo≤z∧z≤c.hi)(j:b.AllH c (z+1)):(O0 z B b).AllH c z:=by
 unfold O0;split
 ·trivial
 ·refine⟨⟨rfl,rfl,rfl,rfl,rfl,rfl,?_⟩,g,rfl,j,trivial⟩;obtain⟨n,rfl⟩:=H0 (J:0≤B);show 1≤(iU (n:Int)).toNat;rw[Vu J];omega
def allH_wf:∀{f:Fr Lo} {g:Int},f.AllH c g→f.wf Ql
 |.nil,_,_=>trivial
 |.op o r,_,h=>⟨by unfold Ql;rw[Hx h.1.k.1,Hx h.1.k.2],allH_wf h.2⟩
 |.loop o b e r,_,h=>⟨by unfold Ql;rw[H6 h.1.1],by rw[h.2.2.1];rfl,allH_wf h.2.2.2.1,allH_wf h.2.2.2.2⟩
def zv2{x:Int}{ls:List Nat}(g:∀y∈ls,y<8)(h:x=-1∨(8≤x∧x<64)):wm ls x=true:=by
 unfold wm;rcases h with rfl|h
 ·simp
 ·have:¬x.toNat∈ls:=λq=>Gl
  simp[this];omega
def zyz(g:CfOk c){x:Int}(h:Tv c x):x<64:=by
 obtain⟨r,l,p⟩:=g;rcases h with h|h|h|h
 ·omega
 ·have:=h.2;omega
 ·omega
 ·omega
def mkH(z:CfOk c){o:Lo}(h:OpH c o):(o.d=-1∨(8≤o.d∧o.d<64))∧(o.e=-1∨(8≤o.e∧o.e<64)):=by
 obtain⟨r,l,p⟩:=z;rcases h.m with ⟨g,j,_⟩|⟨_,g,j,_⟩
 ·unfold Q4 at g j;omega
 ·omega
def zbe(j:CfOk c):∀{f:Fr Lo} {g:Int} {ls:List Nat},(∀y∈ls,(y:Int)<g∧y<8)→f.AllH c g→f.regs c.nb ls=true
 |.nil,_,_,_,_=>rfl
 |.op o r,g,ls,z,h=>by
  obtain⟨F,h⟩:=h;have C:=zbe j z h;have A:∀y∈ls,y<8:=λy B=>(z y B).2
  obtain⟨m1,G⟩:=mkH j F;simp only[Fr.regs,Hz,Ie];exact⟨zv2 A m1,zv2 A G,zyz j F.a,zyz j F.b,zyz j F.z,F.f,C⟩
 |.loop o b e r,g,ls,z,h=>by
  obtain⟨⟨I,K,L,M,O,P,H⟩,k,_,E,h⟩:=h;obtain⟨Q,T,U⟩:=id j;have C:=zbe j z h;have E:=zbe (ls:=o.d.toNat::ls) j (λy B=>by
   rcases Ig.1 B with rfl|B
   ·omega
   ·have:=z y B;omega) E
  simp only[Fr.regs,Hz,Ie];refine⟨?_,J,H,E,C⟩;unfold wm;have:¬o.d.toNat∈ls:=λq=>by have:=z _ q;omega
  simp[this];omega
def allH_flat:∀{f:Fr Lo} {g:Int},f.AllH c g→∀o∈f.flat,tu c o
 |.nil,_,_,o,ho=>by simp[Fr.flat]at ho
 |.op p r,_,h,o,ho=>by
  simp only[Fr.flat,Ig]at ho;rcases ho with rfl|ho
  ·exact .inl h.1
  ·exact allH_flat h.2 o ho
 |.loop p b e r,g,h,o,ho=>by
  simp only[Fr.flat,Ig,Is]at ho;rcases ho with rfl|ho|rfl|ho
  ·exact .inr (.inr ⟨g,h.1,h.2.1⟩)
  ·exact allH_flat h.2.2.2.1 o ho
  ·exact .inr (.inl h.2.2.1)
  ·exact allH_flat h.2.2.2.2 o ho
def zr7(g:CfOk c){x:Int}(h:x=-1∨T1 c x):x<16:=by
 obtain⟨r,l,p⟩:=g;unfold T1 at h;omega
def tu.low(hc:CfOk c){o:Lo}(h:tu c o):V4 o=true:=by
 have hr:=hc.r;have gz:=hc.l;have hp:=hc.p;rcases h with h|rfl|⟨gA,⟨g1,g2,g3,g4,g5,g6,g7⟩,k⟩
 ·unfold V4;rw[Hx h.k.1,Hx h.k.2];rcases h.m with ⟨m1,m2,m3⟩|⟨m0,m1,m2,m3,m4,m5⟩
  ·have hd:Ss o.d=true:=by unfold Ss;unfold Q4 at m1;simp only[Je,Ie];omega
   have he:Ss o.e=true:=by unfold Ss;unfold Q4 at m2;simp only[Je,Ie];omega
   split
   ·rename_i hm;have ha:Sf o.a=true:=by unfold Sf;exact Jj (zr7 hc (m3 hm))
    rw[ha,hd,he];rfl
   ·rw[hd,he];rfl
  ·rw[Hx J];have ha:Sf o.a=true:=by unfold Sf;exact Jj (zr7 hc m3)
   have hb:Sf o.b=true:=by unfold Sf;exact Jj (zr7 hc m4)
   have gg:Sf o.c=true:=by unfold Sf;exact Jj (zr7 hc m5)
   rw[ha,hb,gg];simp
 ·rfl
 ·unfold V4;rw[H6 g1];simp only[Hz,Ie];omega
def tu.safeS(hc:CfOk c){bs:List Bf}{o:Lo}(hs:∀n,c.S n→(Nw bs n).sec=true)(h:tu c o):qx bs C16 o=true:=by
 have gA:=hc.l;rcases h with h|rfl|⟨gC,⟨g1,g2,g3,g4,g5,g6,g7⟩,k⟩
 ·unfold qx;have hk:=h.k;by_cases q:o.kind=14∨o.kind=15
  ·have hm:o.a=-1∨T1 c o.a:=by
    rcases h.m with ⟨_,_,m3⟩|⟨m0,_⟩
    ·exact m3 q
    ·omega
   have gg:C16 o.a=false:=by have:=zr7 hc hm;unfold C16;rw[I6];omega
   by_cases gz:o.kind=15
   ·simp[gg,hs _ (h.st gz),hk.1]
   ·simp[gg,hk.1,gz]
  ·have h1:¬o.kind=14:=λe=>q (.inl e)
   have h2:¬o.kind=15:=λe=>q (.inr e)
   simp[Pg,h1,h2,hk.1]
 ·simp[qx,Tj,Pg]
 ·have:C16 o.d=false:=by unfold C16;rw[I6];omega
  simp[qx,g1,Pg,this]
def gl(o:Lo):∀x∈Ov o,x=o.a∨x=o.b∨x=o.c:=by
 intro x g;unfold Ov at g
 repeat' split at g
 all_goals simp at g
 all_goals omega
def tu.closedS(hc:CfOk c){bs:List Bf}{o:Lo}(hf:P9 64 bs o=true)(h:tu c o):U9 bs C16 o=true→∀x∈Ng o,C16 x=true:=by
 have hr:=hc.r;rcases h with h|rfl|⟨gz,⟨g1,g2,g3,g4,g5,g6,g7⟩,k⟩
 ·intro gg x hx;have gA:=(zvt hf x hx).1;rcases h.m with ⟨m1,m2,m3⟩|⟨m0,m1,m2,m3,m4,m5⟩
  ·have:x=o.d∨x=o.e:=by
    unfold Ng at hx;split at hx
    ·simpa using hx
    ·split at hx
     ·simp at hx
     ·simp at hx;exact .inl hx
   unfold C16;rw[Ie];unfold Q4 at m1 m2;rcases this with rfl|rfl<;>omega
  ·exfalso;unfold U9 at gg;rw[Hx h.k.1,Hx m0.1]at gg;obtain⟨y,hy,hC⟩:=Jc.1 gg;unfold C16 at hC;rw[Ie]at hC;rcases gl o y hy with rfl|rfl|rfl
   ·have:=zr7 hc m3;omega
   ·have:=zr7 hc m4;omega
   ·have:=zr7 hc m5;omega
 ·intro h;simp[U9,Tj,Ov]at h
 ·intro h;simp[U9,g1]at h
def C0(_:Int):Bool:=false
def safeP{o:Lo}:qx Z C0 o=true:=by simp[qx,C0]
def tu.closedP{bs:List Bf}{o:Lo}(hs:∀n,c.L n→(Nw bs n).sec=false)(h:tu c o):U9 bs C0 o=true→∀x∈Ng o,C0 x=true:=by
 intro gg;exfalso;unfold U9 at gg;split at gg
 ·cases gg
 ·split at gg
  ·rename_i gz;rcases h with h|rfl|⟨gA,⟨g1,_⟩,_⟩
   ·rw[hs _ (h.ld gz)]at gg;cases gg
   ·simp[Tj]at gz
   ·omega
  ·simp[C0]at gg
def tu.sto{o:Lo}(h:tu c o)(k:o.kind=15):c.S o.buf.toNat:=by
 rcases h with h|rfl|⟨gg,⟨g1,_⟩,_⟩
 ·exact h.st k
 ·simp[Tj]at k
 ·omega
def wrap_allH:∀(n:Nat) (i:Int) (f:Fr Lo),c.lo≤i→i+n≤c.hi+1→f.AllH c (i+n)→(c8 n i f).AllH c i
 |0,i,f,_,_,h=>by simpa [c8] using h
 |n+1,i,f,g,j,h=>by
  refine⟨⟨rfl,rfl,rfl,rfl,rfl,rfl,by simp[S9,iU1]⟩,J,rfl,wrap_allH n (i+1) f J J ?_,trivial⟩;rw[(J:i+1+(n:Int)=i+(n+1:Nat))];exact h
def Lb(c:Cf)(p:Pn):Prop:=p.b<c.nb∧c.L p.b
def Sb(c:Cf)(p:Pn):Prop:=p.b<c.nb∧c.S p.b
def Tu{v i:Int}{p:Pn}(g:Lb c p)(hv:Q4 c v)(hi:i=-1∨T1 c i):OpH c (Nk v p.p i z) :=
 ⟨by simp[Nk],by simpa [Nk,Pn.p] using g.1,hi.imp_right .inr,.inl rfl,.inl rfl,.inl ⟨.inr hv,.inl rfl,λ_=>hi⟩,λ_=>by simpa [Nk,Pn.p] using g.2,λh=>by simp[Nk]at h⟩
def V0{v i:Int}{p:Pn}(g:Sb c p)(hv:Tv c v)(hi:i=-1∨T1 c i):OpH c (Nq p.p i z v) :=
 ⟨by simp[Nq],by simpa [Nq,Pn.p] using g.1,hi.imp_right .inr,hv,.inl rfl,.inl ⟨.inl rfl,.inl rfl,λ_=>hi⟩,λh=>by simp[Nq]at h,λ_=>by simpa [Nq,Pn.p] using g.2⟩
def Uc{v:Int}{x:UInt64}(g:0<c.nb)(hv:Q4 c v):OpH c (cK v x) :=
 ⟨Dh,g,.inl rfl,.inl rfl,.inl rfl,.inl ⟨.inr hv,.inl rfl,λh=>Ei⟩,λh=>Ei,λh=>Ei⟩
def Y3{v:Int}{x:UInt64}(g:0<c.nb)(hv:c.pa≤v∧v≤c.pb):OpH c (cK v x) :=
 ⟨Dh,g,.inl rfl,.inl rfl,.inl rfl,.inr ⟨Dh,hv,rfl,.inl rfl,.inl rfl,.inl rfl⟩,λh=>Ei,λh=>Ei⟩
def Xh{v x:Int}(g:0<c.nb)(hv:Q4 c v)(j:Tv c x):OpH c (Q1 v x) :=
 ⟨by simp[Q1],g,j,.inl rfl,.inl rfl,.inl ⟨.inr hv,.inl rfl,λh=>by simp[Q1]at h⟩,λh=>by simp[Q1]at h,λh=>by simp[Q1]at h⟩
def Xl{v x b:Int}(A:z=8∨z=9)(g:0<c.nb)(hv:Q4 c v)(j:Tv c x):OpH c (Rb z v x b) :=
 ⟨by simp[Rb];omega,g,j,.inl rfl,.inl rfl,.inl ⟨.inr hv,.inl rfl,λh=>F8⟩,λh=>F8,λh=>F8⟩
def X8{x y w:Int}(g:0<c.nb)(j:Q4 c x)(A:Q4 c y)(B:Tv c z)(hw:Tv c w):OpH c (N9 x y z w) :=
 ⟨Fa,g,B,hw,.inl rfl,.inl ⟨.inr j,.inr A,λh=>by simp[N9]at h⟩,λh=>by simp[N9]at h,λh=>by simp[N9]at h⟩
def zgl{x w:Int}(C:3≤z∧z≤7)(g:0<c.nb)(j:Q4 c x)(A:Tv c B)(hw:Tv c w):OpH c (Nb z x B w) :=
 ⟨Fg,g,A,hw,.inl rfl,.inl ⟨.inr j,.inl rfl,λh=>Cm⟩,λh=>Cm,λh=>Cm⟩
def zvl{x w:Int}(C:3≤z∧z≤7)(j:0<c.nb)(A:c.pa≤x∧x≤c.pb)(g:T1 c B)(hw:T1 c w):OpH c (Nb z x B w) :=
 ⟨Fg,j,.inr (.inr g),.inr (.inr hw),.inl rfl,.inr ⟨Fg,A,rfl,.inr g,.inr hw,.inl rfl⟩,λh=>Cm,λh=>Cm⟩
def zeg{x y w q:Int}(F:z=11∨z=12)(g:0<c.nb)(j:Q4 c x)(A:Q4 c y)(C:Tv c B)(hw:Tv c w)(E:Tv c q):OpH c (Ny z x y B w q) :=
 ⟨by simp[Ny];omega,g,C,hw,E,.inl ⟨.inr j,.inr A,λh=>F9⟩,λh=>F9,λh=>F9⟩
def zv6{x q w:Int}(g:0<c.nb)(j:Q4 c x)(A:Tv c q)(B:Tv c z)(hw:Tv c w):OpH c (Og x q z w) :=
 ⟨by simp[Og],g,B,hw,A,.inl ⟨.inr j,.inl rfl,λh=>by simp[Og]at h⟩,λh=>by simp[Og]at h,λh=>by simp[Og]at h⟩
def vm{x y:List Lo}(h:∀o∈x,OpH c o)(k:∀o∈y,OpH c o):∀o∈x++y,OpH c o:=λo ho=>(Is.1 ho).elim (h o) (k o)
def Oe{x:Lo}{y:List Lo}(h:OpH c x)(k:∀o∈y,OpH c o):∀o∈x::y,OpH c o:=λo ho=>by
 rcases Ig.1 ho with rfl|ho
 ·exact h
 ·exact k o ho
def oh_nil:∀o∈([]:List Lo),OpH c o:=λ_ h=>Am
def Qs{x:Int}(h:Q4 c x):Tv c x:=.inr (.inl h)
section into
variable {R D k : Int} {d a b n t : Pn}
def rgr(j:c.R≤R∧R+11≤c.R+c.w)(g:Int)(h:0≤g∧g≤10):Q4 c (R+g):=Ew
def gq(g:c.R≤R∧R+11≤c.R+c.w):Q4 c R:=Ew
def oh_reck(g:0<c.nb)(j:c.R≤R∧R+11≤c.R+c.w):∀o∈Um (R+10) (R+1),OpH c o:=by
 intro o ho;simp[Um,je,X6,zqg]at ho;rcases ho with rfl|rfl|rfl|rfl|⟨_,rfl|rfl|rfl⟩|rfl|rfl
 all_goals first|(refine Uc g ?_;unfold Q4;omega)|(refine X8 g ?_ ?_ (Qs ?_) (Qs ?_)<;>(unfold Q4;omega))|(refine zgl J g ?_ (Qs ?_) (Qs ?_)<;>(unfold Q4;omega))
def Ys{x y:Int}(j:0<c.nb)(z:c.R≤R∧R+11≤c.R+c.w)(A:Q4 c x)(B:Q4 c y):∀o∈N6 R x y,OpH c o:=by
 unfold N6;have g:=rgr z;exact Oe (X8 j (g 5 J) (g 6 J) (Qs A) (Qs B)) (Oe (zeg (.inl rfl) j (g 6 J) (g 8 J) (Qs (g 6 J)) (Qs (g 7 J)) (Qs (gq z))) (Oe (zeg (.inl rfl) j (g 6 J) (g 9 J) (Qs (g 6 J)) (Qs (g 3 J)) (Qs (gq z))) (Oe (zgl J j (g 5 J) (Qs (g 5 J)) (Qs (g 8 J))) (Oe (zgl J j (g 3 J) (Qs (g 5 J)) (Qs (g 9 J))) oh_nil))))
def zri{x:List Lo}(E:c.R≤R∧R+11≤c.R+c.w)(j:Lb c n)(F:Lb c t)(G:k≤1000000)(A:c.lo≤z∧z≤c.hi)(H:∀o∈x,OpH c o):(U2 n.p t.p k R z x).AllH c z:=by
 unfold U2 Tq;have B:0<c.nb:=by have:=j.1;omega
 have g:=rgr E;have C:z=-1∨T1 c z:=.inr (.inl A);exact allH_cat (allH_L (Oe (Uc B (g 8 J)) oh_nil)) (Xv G A (allH_L (vm (Oe (Tu F (g 7 J) C) (Oe (Tu j (g 4 J) C) (Oe (zeg (.inr rfl) B (g 6 J) (g 8 J) (Qs (g 7 J)) (Qs (g 4 J)) (Qs (g 8 J))) oh_nil))) H)))
def zid{x:Int}{p:Pn}(j:Sb c p)(z:Tv c x)(g:c.lo≤D∧D≤c.hi)(A:p.k≤1000000):(Tt p.p x D).AllH c D:=by
 unfold Tt;exact Xv (by show (p.k:Int)≤_;omega) g (allH_L (Oe (V0 j z (.inr (.inl g))) oh_nil))
def zil(C:c.R≤R∧R+11≤c.R+c.w)(O:Sb c d)(P:Lb c a)(Q:Lb c b)(F:Lb c n)(B:Lb c t)(st:Sb c t)(I:k≤1000000)(K:t.k≤1000000)(T:c.lo≤D∧D+1≤c.hi):(Vw d.p a.p b.p n.p t.p k R D).AllH c D:=by
 have z:0<c.nb:=by have:=F.1;omega
 have j:=rgr C;have G:=gq C;have g:∀L:Int,0≤L∧L≤10→Tv c (R+L):=λL h=>Qs (j L h)
 have H:c.lo≤D∧D≤c.hi:=J
 have E:c.lo≤D+1∧D+1≤c.hi:=J
 have M:D=-1∨T1 c D:=.inr (.inl H);have A:D+1=-1∨T1 c (D+1):=.inr (.inl E);unfold Vw;refine allH_cat (allH_L (vm (Oe (Uc z G) (Oe (Tu F (j 10 J) (.inl rfl)) oh_nil)) (oh_reck z C))) (allH_cat (zid st (Qs G) H K) (allH_cat (Xv I H (allH_cat ?_ ?_)) ?_))
 ·unfold Sy Tl O3;refine allH_cat (allH_L (Oe (Tu Q (j 2 J) M) (Oe (Uc z (j 3 J)) oh_nil))) (allH_cat (Xv I E (allH_L (vm (Oe (Tu P (j 4 J) A) (Oe (Tu B (j 7 J) A) oh_nil)) (vm (Ys z C (j 4 J) (j 2 J)) (Oe (V0 st (g 6 J) A) oh_nil))))) (allH_L (vm (Oe (Tu B (j 7 J) (.inl rfl)) (Oe (zeg (.inl rfl) z (j 7 J) (j 8 J) (g 7 J) (g 3 J) (Qs G)) oh_nil)) (Oe (V0 st (g 7 J) (.inl rfl)) (Oe (V0 st (g 8 J) (.inl rfl)) oh_nil)))))
 ·unfold Th T4 O3;refine allH_cat (allH_L (vm (Oe (Tu B (j 7 J) (.inl rfl)) (Oe (X8 z (j 5 J) (j 10 J) (g 7 J) (g 1 J)) (Oe (Tu F (j 4 J) (.inl rfl)) (Oe (Uc z (j 3 J)) oh_nil)))) (Ys z C (j 10 J) (j 4 J))))
   (allH_cat (Xv J E (allH_L (vm (Oe (Tu F (j 4 J) A) (Oe (Tu B (j 7 J) A) oh_nil)) (vm (Ys z C (j 10 J) (j 4 J)) (Oe (V0 st (g 6 J) A) oh_nil)))))
   (allH_L (vm (Oe (Tu B (j 7 J) (.inl rfl)) (Oe (zeg (.inl rfl) z (j 7 J) (j 8 J) (g 7 J) (g 3 J) (Qs G)) oh_nil)) (Oe (V0 st (g 7 J) (.inl rfl)) (Oe (Tu B (j 7 J) (.inl rfl)) (Oe (zgl J z (j 7 J) (g 7 J) (g 8 J)) (Oe (V0 st (g 7 J) (.inl rfl)) oh_nil)))))))
 ·unfold Xb;exact allH_cat (zri C F B I H oh_nil) (allH_cat (allH_L (Oe (Tu B (j 7 J) (.inl rfl)) (Oe (zeg (.inr rfl) z (j 6 J) (j 10 J) (g 7 J) (Qs G) (g 8 J)) oh_nil))) (zri C F B I H (Oe (zv6 z (j 6 J) (g 10 J) (g 7 J) (g 6 J)) (Oe (V0 O (g 6 J) M) oh_nil))))
end into
end ah
end
section
noncomputable section
def jb(p:Pc)(n l o b D:Int):Fr Lo:=O0 D n (Nh [Nk l p D 0,Rb 9 o l 63,Rb 8 l l 1,Nb 6 l l b,Nq p D 0 l,Q1 b o])
def jx(to fr:Pc)(k l D:Int):Fr Lo:=O0 D k (Nh [Nk l fr D 0,Nq to D 0 l])
def Y7(n r:Pc)(R g:Int):List Lo:=[Nk (R+2) r g 0,Nk (R+4) n g 0,Ny 12 (R+4) (R+5) (R+2) (R+4) (R+5)]
def Xw(n r:Pc)(k R D:Int)(x:List Lo):Fr Lo:=(Nh [cK (R+5) 0]).cat ((O0 D k (Nh (Y7 n r R D++x))).cat (Nh [Nk (R+2) r (-1) k,Ny 12 (R+4) (R+5) (R+2) R (R+5)]))
def zea(n r:Pc)(k R D:Int):Fr Lo:=(jb r (k+1) (R+2) (R+3) (R+1) D).cat ((Xw n r k R D []).cat ((Nh [Q1 (R+6) (R+5)]).cat ((Xw n r k R D [Og (R+4) (R+6) (R+2) (R+4),Nq r D 0 (R+4)]).cat (Nh [Og (R+4) (R+6) (R+2) (R+4),Nq r (-1) k (R+4),cK (R+1) 0]))))
def dc(d n r:Pc)(k bits R D:Int):Fr Lo:=(Nh [cK R 0,cK (R+1) 1]).cat ((Tt r R D).cat ((O0 D (bits+1) (zea n r k R (D+1))).cat (jx d r k (R+2) D)))
structure Pw where
 d:Pn
 a:Pn
 b:Pn
 n:Pn
 wb:Nat
 wa:Nat
 k:Nat
 w:Nat
 times:Nat
 over:Nat
 B:Nat
def Pw.acc(p:Pw):Pn:=⟨p.wb,p.wa,p.k⟩
def Pw.base(p:Pw):Pn:=⟨p.wb,p.wa+p.k,p.k⟩
def Pw.cur(p:Pw):Pn:=⟨p.wb,p.wa+2*p.k,p.k⟩
def Pw.es(p:Pw):Pn:=⟨p.wb,p.wa+3*p.k,p.b.k+1⟩
def Pw.t(p:Pw):Pn:=⟨p.wb,p.wa+3*p.k+p.b.k+1,p.k+2⟩
def Pw.tab(p:Pw):Pn:=⟨p.wb,p.wa+4*p.k+p.b.k+3,p.k*2^p.w⟩
def Pw.ent(p:Pw):Pn:=⟨p.tab.b,p.tab.a,p.k⟩
def Pw.r(p:Pw):Pn:=⟨p.t.b,p.t.a,p.k+1⟩
def Pw.mont(p:Pw)(d a b:Pn)(D:Int):Fr Lo:=Vw d.p a.p b.p p.n.p p.t.p p.k (p.B+10) D
def Pw.radix(p:Pw)(d:Pn)(bits D:Int):Fr Lo:=dc d.p p.n.p p.r.p p.k bits (p.B+10) D
def Pw.copies(p:Pw)(to fr:Pn)(D:Int):Fr Lo:=jx to.p fr.p p.k (p.B+3) D
def Pw.fillR(p:Pw)(D:Int):Fr Lo:=(p.mont p.acc p.acc p.base (D+1)).cat ((O0 (D+1) p.k (Nh [Nk (p.B+3) p.acc.p (D+1) 0,Nb 3 13 12 (D+1),Nq p.tab.p 13 0 (p.B+3)])).cat (Nh [cK 13 (iU p.k),Nb 3 12 12 13]))
def Pw.fill(p:Pw)(D:Int):Fr Lo:=(p.radix p.ent (64*p.k) D).cat ((p.radix p.cur (128*p.k) D).cat ((p.mont p.base p.a p.cur D).cat ((p.copies p.acc p.ent D).cat ((Nh [cK 12 (iU p.k)]).cat (O0 D (2^p.w-1:Nat) (p.fillR D))))))
def Pw.expB(p:Pw)(D:Int):List Lo:=if p.over=0 then [Nk (p.B+3) p.b.p D 0,Nq p.es.p D 1 (p.B+3)] else [Nk (p.B+3) p.b.p D 0,Rb 8 (p.B+2) (p.B+3) (64-p.over),Nb 6 (p.B+2) (p.B+2) (p.B+4),Nq p.es.p D 0 (p.B+2),Rb 9 (p.B+4) (p.B+3) p.over]
def Pw.expE(p:Pw):List Lo:=if p.over=0 then [Nq p.es.p (-1) 0 p.B] else [Nq p.es.p (-1) p.b.k (p.B+4)]
def Pw.exp(p:Pw)(D:Int):Fr Lo:=(Nh [Q1 (p.B+4) p.B]).cat ((O0 D p.b.k (Nh (p.expB D))).cat (Nh p.expE))
def Pw.shift(p:Pw)(D:Int):Fr Lo:=(Nh [Q1 (p.B+2) p.B]).cat ((jb p.es.p p.es.k (p.B+3) (p.B+4) (p.B+2) D).cat (Nh [Rb 8 (p.B+1) (p.B+1) 1,Nb 6 (p.B+1) (p.B+1) (p.B+2)]))
def Pw.scanB(p:Pw)(D:Int):List Lo:=[Nb 3 13 12 D,Nk (p.B+3) p.tab.p 13 0,Nk (p.B+6) p.cur.p D 0,Og (p.B+3) (p.B+5) (p.B+6) (p.B+3),Nq p.cur.p D 0 (p.B+3)]
def Pw.scanR(p:Pw)(D:Int):Fr Lo:=(Nh [Nb 7 (p.B+5) (p.B+1) D,Ny 12 (p.B+4) (p.B+5) p.B (p.B+5) p.B]).cat ((O0 (D+1) p.k (Nh (p.scanB (D+1)))).cat (Nh [cK 13 (iU p.k),Nb 3 12 12 13]))
def Pw.scan(p:Pw)(D:Int):Fr Lo:=(Nh [cK 12 0]).cat (O0 D (2^p.w:Nat) (p.scanR D))
def Pw.runW(p:Pw)(D:Int):Fr Lo:=(p.mont p.acc p.acc p.acc D).cat (p.shift D)
def Pw.runR(p:Pw)(D:Int):Fr Lo:=(Nh [Q1 (p.B+1) p.B]).cat ((O0 D p.w (p.runW (D+1))).cat ((p.scan D).cat (p.mont p.acc p.acc p.cur D)))
def Pw.run(p:Pw)(D:Int):Fr Lo:=(p.copies p.acc p.ent D).cat ((O0 D p.times (p.runR (D+1))).cat ((Nh [cK (p.B+3) 1]).cat ((Tt p.cur.p p.B D).cat ((Nh [Nq p.cur.p (-1) 0 (p.B+3)]).cat (p.mont p.d p.acc p.cur D)))))
def Pw.code(p:Pw)(D:Int):Fr Lo:=(Nh [cK p.B 0]).cat ((p.fill D).cat ((p.exp D).cat (p.run D)))
section all
variable {c : Cf}
def Zo{p:Pn}{n l o b:Int}(A:Lb c p)(E:Sb c p)(g:Q4 c l)(ho:Q4 c o)(B:Q4 c b)(F:n≤1000000)(C:c.lo≤z∧z≤c.hi):(jb p.p n l o b z).AllH c z:=by
 have j:0<c.nb:=by have:=A.1;omega
 have D:z=-1∨T1 c z:=.inr (.inl C);exact Xv F C (allH_L (Oe (Tu A g D) (Oe (Xl (.inr rfl) j ho (Qs g)) (Oe (Xl (.inl rfl) j g (Qs g)) (Oe (zgl J j g (Qs g) (Qs B)) (Oe (V0 E (Qs g) D) (Oe (Xh j B (Qs ho)) oh_nil)))))))
def zt0{k l:Int}(B:Lb c vR)(C:Sb c T)(g:Q4 c l)(D:k≤1000000)(j:c.lo≤z∧z≤c.hi):(jx T.p vR.p k l z).AllH c z:=by
 have A:z=-1∨T1 c z:=.inr (.inl j);exact Xv D j (allH_L (Oe (Tu B g A) (Oe (V0 C (Qs g) A) oh_nil)))
def zrn{n r:Pn}{k:Int}{x:List Lo}(C:c.R≤z∧z+11≤c.R+c.w)(D:Lb c n)(E:Lb c r)(I:k≤1000000)(F:c.lo≤B∧B≤c.hi)(K:∀o∈x,OpH c o):(Xw n.p r.p k z B x).AllH c B:=by
 have A:0<c.nb:=by have:=D.1;omega
 have G:B=-1∨T1 c B:=.inr (.inl F);have j:=rgr C;have g:∀H:Int,0≤H∧H≤10→Tv c (z+H):=λH h=>Qs (j H h)
 unfold Xw Y7;exact allH_cat (allH_L (Oe (Uc A (j 5 J)) oh_nil)) (allH_cat (Xv I F (allH_L (vm (Oe (Tu E (j 2 J) G) (Oe (Tu D (j 4 J) G) (Oe (zeg (.inr rfl) A (j 4 J) (j 5 J) (g 2 J) (g 4 J) (g 5 J)) oh_nil))) K))) (allH_L (Oe (Tu E (j 2 J) (.inl rfl)) (Oe (zeg (.inr rfl) A (j 4 J) (j 5 J) (g 2 J) (Qs (gq C)) (g 5 J)) oh_nil))))
def zxm{d n r:Pn}{k bits:Int}(D:c.R≤z∧z+11≤c.R+c.w)(L:Sb c d)(H:Lb c n)(F:Lb c r)(G:Sb c r)(O:k≤1000)(P:bits≤100000)(M:r.k≤100000)(Q:c.lo≤B∧B+1≤c.hi):(dc d.p n.p r.p k bits z B).AllH c B:=by
 have C:0<c.nb:=by have:=H.1;omega
 have A:c.lo≤B∧B≤c.hi:=J
 have g:c.lo≤B+1∧B+1≤c.hi:=J
 have I:B+1=-1∨T1 c (B+1):=.inr (.inl g);have E:=rgr D;have j:∀K:Int,0≤K∧K≤10→Tv c (z+K):=λK h=>Qs (E K h)
 unfold dc zea;refine allH_cat (allH_L (Oe (Uc C (gq D)) (Oe (Uc C (E 1 J)) oh_nil))) (allH_cat (zid G (Qs (gq D)) A J) (allH_cat (Xv J A ?_) (zt0 F L (E 2 J) J A)));have e:∀o∈[Og (z+4) (z+6) (z+2) (z+4),Nq r.p (B+1) 0 (z+4)],OpH c o:=Oe (zv6 C (E 4 J) (j 6 J) (j 2 J) (j 4 J)) (Oe (V0 G (j 4 J) I) oh_nil);exact allH_cat (Zo F G (E 2 J) (E 3 J) (E 1 J) J g) (allH_cat (zrn D H F J g oh_nil) (allH_cat (allH_L (Oe (Xh C (E 6 J) (j 5 J)) oh_nil)) (allH_cat (zrn D H F J g e) (allH_L (Oe (zv6 C (E 4 J) (j 6 J) (j 2 J) (j 4 J)) (Oe (V0 G (j 4 J) (.inl rfl)) (Oe (Uc C (E 1 J)) oh_nil)))))))
structure PwC (c:Cf) (p:Pw):Prop where
 r:c.R≤p.B∧(p.B:Int)+21≤c.R+c.w
 q:c.pa≤12∧13≤c.pb
 d:Sb c p.d
 a:Lb c p.a
 b:Lb c p.b
 n:Lb c p.n
 wl:c.L p.wb
 ws:c.S p.wb
 wb:p.wb<c.nb
 k:p.k≤512
 w:p.w≤6
 ti:p.times≤100000
 bk:p.b.k≤512
def zay{w:Nat}(h:w≤6):2^w≤64:=La Ad h
def Pw.all{p:Pw}(h:PwC c p){D:Int}(hD:c.lo≤D∧D+3≤c.hi):(p.code D).AllH c D:=by
 obtain⟨hr,gD,pd,pa,pb,pn,wl,ws,wb,hk,hw,gE,gF⟩:=h;have j:0<c.nb:=by have:=pn.1;omega
 have wL:∀q:Pn,q.b=p.wb→Lb c q:=λq e=>⟨J,by rw[e];exact wl⟩
 have wS:∀q:Pn,q.b=p.wb→Sb c q:=λq e=>⟨J,by rw[e];exact ws⟩
 have g:∀gC:Int,0≤gC∧gC≤20→Q4 c (p.B+gC):=λgC h=>Ew
 have g0:Q4 c p.B:=Ew
 have gi:∀gC:Int,0≤gC∧gC≤20→Tv c (p.B+gC):=λgC h=>Qs (g gC h)
 have gA:c.R≤(p.B:Int)+10∧(p.B:Int)+10+11≤c.R+c.w:=J
 have gG:=zay hw;have gg:T1 c 12:=.inr J;have gz:T1 c 13:=.inr J;have mo:∀(d a b:Pn) (E:Int),Sb c d→Lb c a→Lb c b→c.lo≤E→E+1≤c.hi→(p.mont d a b E).AllH c E:=λd a b E hd ha hb h1 h2=>zil gA hd ha hb pn (wL _ rfl) (wS _ rfl) J (by show p.k+2≤1000000;omega) ⟨h1,h2⟩
 have lv:∀E:Int,c.lo≤E→E≤c.hi→T1 c E:=λE h1 h2=>.inl ⟨h1,h2⟩
 have ra:∀(d:Pn) (bits:Int),Sb c d→bits≤100000→(p.radix d bits D).AllH c D:=λd bits hd hb=>zxm gA hd pn (wL _ rfl) (wS _ rfl) J hb (by show p.k+1≤100000;omega) J
 unfold Pw.code;refine allH_cat (allH_L (Oe (Uc j g0) oh_nil)) (allH_cat ?_ (allH_cat ?_ ?_))
 ·unfold Pw.fill Pw.fillR;refine allH_cat (ra _ _ (wS _ rfl) J) (allH_cat (ra _ _ (wS _ rfl) J) (allH_cat (mo _ _ _ _ (wS _ rfl) pa (wL _ rfl) J J) (allH_cat (zt0 (wL _ rfl) (wS _ rfl) (g 3 J) J J) (allH_cat (allH_L (Oe (Y3 j J) oh_nil)) (Xv J J (allH_cat (mo _ _ _ _ (wS _ rfl) (wL _ rfl) (wL _ rfl) J J) (allH_cat (Xv J J (allH_L ?_)) (allH_L ?_))))))))
  ·exact Oe (Tu (wL _ rfl) (g 3 J) (.inr (lv _ J J))) (Oe (zvl J j J gg (lv _ J J)) (Oe (V0 (wS _ rfl) (gi 3 J) (.inr gz)) oh_nil))
  ·exact Oe (Y3 j J) (Oe (zvl J j J gg gz) oh_nil)
 ·unfold Pw.exp Pw.expB Pw.expE;refine allH_cat (allH_L (Oe (Xh j (g 4 J) (Qs g0)) oh_nil)) (allH_cat (Xv J J (allH_L ?_)) (allH_L ?_))
  ·split
   ·exact Oe (Tu pb (g 3 J) (.inr (lv _ J J))) (Oe (V0 (wS _ rfl) (gi 3 J) (.inr (lv _ J J))) oh_nil)
   ·exact Oe (Tu pb (g 3 J) (.inr (lv _ J J))) (Oe (Xl (.inl rfl) j (g 2 J) (gi 3 J)) (Oe (zgl J j (g 2 J) (gi 2 J) (gi 4 J)) (Oe (V0 (wS _ rfl) (gi 2 J) (.inr (lv _ J J))) (Oe (Xl (.inr rfl) j (g 4 J) (gi 3 J)) oh_nil))))
  ·split
   ·exact Oe (V0 (wS _ rfl) (Qs g0) (.inl rfl)) oh_nil
   ·exact Oe (V0 (wS _ rfl) (gi 4 J) (.inl rfl)) oh_nil
 ·unfold Pw.run Pw.runR Pw.runW Pw.shift Pw.scan Pw.scanR Pw.scanB;refine allH_cat (zt0 (wL _ rfl) (wS _ rfl) (g 3 J) J J) (allH_cat (Xv J J (allH_cat (allH_L (Oe (Xh j (g 1 J) (Qs g0)) oh_nil)) (allH_cat (Xv J J (allH_cat ?_ ?_)) (allH_cat (allH_cat ?_ ?_) ?_)))) ?_)
  ·exact mo _ _ _ _ (wS _ rfl) (wL _ rfl) (wL _ rfl) J J
  ·exact allH_cat (allH_L (Oe (Xh j (g 2 J) (Qs g0)) oh_nil)) (allH_cat (Zo (wL _ rfl) (wS _ rfl) (g 3 J) (g 4 J) (g 2 J) (by show ((p.b.k+1:Nat):Int)≤1000000;omega) J) (allH_L (Oe (Xl (.inl rfl) j (g 1 J) (gi 1 J)) (Oe (zgl J j (g 1 J) (gi 1 J) (gi 2 J)) oh_nil))))
  ·exact allH_L (Oe (Y3 j J) oh_nil)
  ·refine Xv J J (allH_cat (allH_L ?_) (allH_cat (Xv J J (allH_L ?_)) (allH_L ?_)))
   ·exact Oe (zgl J j (g 5 J) (gi 1 J) (.inr (.inr (lv _ J J)))) (Oe (zeg (.inr rfl) j (g 4 J) (g 5 J) (Qs g0) (gi 5 J) (Qs g0)) oh_nil)
   ·exact Oe (zvl J j J gg (lv _ J J)) (Oe (Tu (wL _ rfl) (g 3 J) (.inr gz)) (Oe (Tu (wL _ rfl) (g 6 J) (.inr (lv _ J J))) (Oe (zv6 j (g 3 J) (gi 5 J) (gi 6 J) (gi 3 J)) (Oe (V0 (wS _ rfl) (gi 3 J) (.inr (lv _ J J))) oh_nil))))
   ·exact Oe (Y3 j J) (Oe (zvl J j J gg gz) oh_nil)
  ·exact mo _ _ _ _ (wS _ rfl) (wL _ rfl) (wL _ rfl) J J
  ·exact allH_cat (allH_L (Oe (Uc j (g 3 J)) oh_nil)) (allH_cat (zid (wS _ rfl) (Qs g0) J (by show p.k≤1000000;omega)) (allH_cat (allH_L (Oe (V0 (wS _ rfl) (gi 3 J) (.inl rfl)) oh_nil)) (mo _ _ _ _ pd (wL _ rfl) (wL _ rfl) J J)))
end all
end
end
section
def zr(D:Int)(ls:List Int):Prop:=(ls.length:Int)≤D∧∀x∈ls,x<D
def Vh(D:Int)(S:List Int):Prop:=∀x∈S,x<D∨8≤x
section gd
variable {bs : List Bf} {S S' T ls : List Int} {D : Int} {f g b : Fr Lo} {l : List Lo}
def Gd.lpD{times:Int}(h:zr D ls)(hD:0≤D∧D<8)(hS:Vh D S)(ht:times≤1048576)(hb:Gd bs (D::S) (ls++[D]) b S')(hs:∀x∈S,x∈S'):Gd bs S ls (O0 D times b) S :=
 .lp (by have:=h.1;omega) hD (λq=>by have:=h.2 _ q;omega) (λq=>by have:=hS _ q;omega) ht hb hs
def Gd.Lm(hL:zr D ls)(hD:D≤8)(h:Pk 64 bs S l)(hk:∀o∈l,∀x∈Ng o,8≤x)(hT:∀x∈T,x∈l.flatMap Ng++S):Gd bs S ls (Nh l) T :=
 Gd.mono (Gd.L (hL.lt hD) h hk) (λ_ h=>h) hT
def zqt{k d a:Int}(j:k=8∨k=9)(h:0≤d∧d<z)(A:0≤a∧a<z)(F:1≤B∧B≤63):P9 z bs (Rb k d a B)=true:=by
 obtain⟨n,rfl⟩:=H0 (J:0≤B);have e:(iU (n:Int)).toNat=n:=Vu J;have C:(1:UInt64)≤iU (n:Int):=by rw[J3,e];show 1≤_;omega
 have E:iU (n:Int)≤(63:UInt64):=by rw[J3,e];show _≤63;omega
 rcases j with rfl|rfl<;>simp[P9,Rb,Q5,Qr,Qq,Q8,Wf,Wg,Pg,h,A,C,E]
def zqx{d a:Int}(E:z=8∨z=9)(h:0≤d∧d<64)(j:0≤a∧a<64)(A:1≤B∧B≤63)(C:a∈S)(k:Pk 64 bs (d::S) l):Pk 64 bs S (Rb z d a B::l):=by
 rcases E with rfl|rfl
 ·exact⟨zqt (.inl rfl) h j A,by simp[Rb],by simp[Ov,Rb,C],k⟩
 ·exact⟨zqt (.inr rfl) h j A,by simp[Rb],by simp[Ov,Rb,C],k⟩
def zp4{d a:Int}(h:0≤d∧d<64)(j:0≤a∧a<64)(z:a∈S)(k:Pk 64 bs (d::S) l):Pk 64 bs S (Q1 d a::l) :=
 ⟨er h j,by simp[Q1],by simp[Ov,Q1,z],k⟩
def gd_sh{p:Pn}{n l o b:Int}(j:zr D ls)(A:0≤D∧D<8)(B:Vh D S)(G:8≤l∧l<64)(ho:8≤o∧o<64)(H:8≤b∧b<64)(C:b∈S)(z:Bp bs p)(wp:Bw bs p)(E:n≤1048576):Gd bs S ls (jb p.p n l o b D) S:=by
 have h:Pk 64 bs (D::S) [Nk l p.p D 0,Rb 9 o l 63,Rb 8 l l 1,Nb 6 l l b,Nq p.p D 0 l,Q1 b o] :=
  Xz z J J N (zqx (.inr rfl) J J J N (zqx (.inl rfl) J J J N (qk J J J J N Al (po z wp J J N N (zp4 J J N okL_nil)))))
 refine Gd.lpD j A B E (Gd.L (j.snoc.lt J) h ?_) λx F=>Iy _ (Ik _ F)
 simp[Ng,Nk,Rb,Nb,Nq,Q1];omega
def gd_cp{k l:Int}(j:zr D ls)(z:0≤D∧D<8)(A:Vh D S)(H:8≤l∧l<64)(B:Bp bs vR)(C:Bw bs vR)(E:Bp bs uL)(F:k≤1048576):Gd bs S ls (jx vR.p uL.p k l D) S:=by
 have h:Pk 64 bs (D::S) [Nk l uL.p D 0,Nq vR.p D 0 l]:=Xz E J J N (po B C J J N N okL_nil);refine Gd.lpD j z A F (Gd.L (j.snoc.lt J) h ?_) λx G=>Iy _ (Ik _ G)
 simp[Ng,Nk,Nq];omega
def zvo{x:Int}{p:Pn}(j:zr D ls)(z:0≤D∧D<8)(A:Vh D S)(B:0≤x∧x<64)(C:x∈S)(E:Bp bs p)(wp:Bw bs p):Gd bs S ls (Tt p.p x D) S :=
 zyx B C z (λq=>by have:=j.2 _ q;omega) (λq=>by have:=A _ q;omega) (by have:=j.1;omega) (j.lt J) E wp
def gd_rx{n r:Pn}{k:Int}{x:List Lo}(j:zr D ls)(E:0≤D∧D<8)(F:Vh D S)(P:16≤z∧z≤50)(G:z∈S)(H:Bp bs n)(A:Bp bs r)(C:0≤k∧k<r.k)
  (B:Pk 64 bs ((z+4)::(z+5)::(z+4)::(z+2)::D::(z+5)::S) x) (hm:∀o∈x,∀y∈Ng o,8≤y):Gd bs S ls (Xw n.p r.p k z D x) ((z+2)::(z+4)::(z+5)::S):=by
 have I:(r.k:Int)≤65536:=by have:=A.s;have:=A.z;omega
 unfold Xw;have K:Pk 64 bs S [cK (z+5) 0]:=aj J okL_nil;have L:Pk 64 bs (D::(z+5)::S) (Y7 n.p r.p z D++x):=by
  unfold Y7;exact Xz A J J N (Xz H J J N (zac (.inr rfl) J J J J J J N N N B))
 have M:Pk 64 bs ((z+5)::S) [Nk (z+2) r.p (-1) k,Ny 12 (z+4) (z+5) (z+2) z (z+5)]:=zbl A J C.1 C.2 (zac (.inr rfl) J J J J J J N Bh N okL_nil);refine Gd.cat (Gd.Lm (T:=(z+5)::S) j J K Dz Cc) (Gd.cat (Gd.lpD j E (F.high J) J (Gd.L (j.snoc.lt J) L ?_) ?_) (Gd.Lm j J M (by simp[Ng,Nk,Ny];omega) (λx B=>by simp[Ng,Nk,Ny]at B ⊢;rcases B with h|h|h|h<;>simp[h])))
 ·intro o ho;rcases Is.1 ho with ho|ho
  ·simp[Y7]at ho;rcases ho with rfl|rfl|rfl<;>simp[Ng,Nk,Ny]<;>omega
  ·exact hm o ho
 ·intro y O;exact Iy _ (Ik _ O)
def qj{d n r:Pn}{k bits:Int}(E:zr D ls)(U:0≤D∧D+1<8)(L:Vh D S)(I:16≤z∧z≤50)(M:Bp bs d)(O:Bw bs d)(K:Bp bs n)(A:Bp bs r)(F:Bw bs r)(G:0≤k∧k<r.k)(V:bits≤1000000):Gd bs S ls (dc d.p n.p r.p k bits z D) S:=by
 have P:(r.k:Int)≤65536:=by have:=A.s;have:=A.z;omega
 unfold dc zea;have Q:Pk 64 bs S [cK z 0,cK (z+1) 1]:=aj J (aj J okL_nil);have B:Vh D ((z+1)::z::S):=(L.high J).high J;have C:Vh (D+1) (D::(z+1)::z::S):=B.cons;have j:=E.snoc;have R:Vh (D+1) ((z+2)::(z+4)::(z+5)::D::(z+1)::z::S):=((C.high J).high J).high J;refine Gd.mono (Gd.cat (Gd.Lm (T:=(z+1)::z::S) E J Q Dz (λx H=>by simp[Ng,cK]at H ⊢;grind)) (Gd.cat (zvo E J B J N A F) (Gd.cat (Gd.lpD (S':=(z+1)::z::S) E J B J (Gd.cat (gd_sh j J C J J J N A F J) (Gd.cat (gd_rx j J C I N K A G okL_nil N) (Gd.cat (Gd.Lm (T:=(z+6)::(z+2)::(z+4)::(z+5)::D::(z+1)::z::S) j J (l:=[Q1 (z+6) (z+5)]) (zp4 J J N okL_nil) D0 F3) (Gd.cat (gd_rx j J (R.high J) I N K A G ?_ ?_) (Gd.Lm j J (l:=[Og (z+4) (z+6) (z+2) (z+4),Nq r.p (-1) k (z+4),cK (z+1) 0]) ?_ ?_ ?_))))) λx h=>h) (gd_cp E J B J M O A J)))) (λx h=>h) (λx h=>by simp[h])
 ·exact zn5 J J J J N N N (po A F J J N N okL_nil)
 ·simp[Ng,Og,Nq];omega
 ·exact zn5 J J J J N N N (zbt A F J G.1 G.2 N (aj J okL_nil))
 ·simp[Ng,Og,Nq,cK];omega
 ·intro x H;simp at H;rcases H with h|h|h<;>simp[Ng,Og,Nq,cK,h]
structure PwG (bs:List Bf) (p:Pw):Prop where
 B:16≤p.B∧p.B≤40
 d:Bp bs p.d
 wd:Bw bs p.d
 a:Bp bs p.a
 b:Bp bs p.b
 n:Bp bs p.n
 wb:p.wb<bs.length
 wz:((p.wa+4*p.k+p.b.k+3+p.k*2^p.w:Nat):Int)≤(Nw bs p.wb).size
 w6:(Nw bs p.wb).size≤65536
 ww:(Nw bs p.wb).kind≠1
 k:1≤p.k∧p.k≤512
 nk:0<p.n.k
 w:1≤p.w∧p.w≤6
 ti:p.times≤100000
 ov:p.over≤63
 bk:p.b.k≤512
def Pw.gd{p:Pw}(h:PwG bs p)(hL:zr D ls)(hD:0≤D∧D+3<8)(hS:Vh D S):Gd bs S ls (p.code D) S:=by
 obtain⟨hB,pd,wd,pa,pb,pn,wb,wz,w6,ww,hk,gO,hw,gT,gU,gV⟩:=h;have gY:=zay hw.2;have gZ:p.k≤p.k*2^p.w:=Nat.le_mul_of_pos_right _ (K7 _);have wP:∀q:Pn,q.b=p.wb→q.a+q.k≤p.wa+4*p.k+p.b.k+3+p.k*2^p.w→Bp bs q:=λq e1 e2=>⟨J,by rw[e1];omega,by rw[e1];exact w6⟩
 have wW:∀q:Pn,q.b=p.wb→Bw bs q:=λq e1=>by unfold Bw;rw[e1];exact ww
 have gg:Bp bs p.acc:=wP _ rfl Eo;have gE:Bp bs p.base:=wP _ rfl (by simp only[Pw.base];omega);have gz:Bp bs p.cur:=wP _ rfl Bk;have gF:Bp bs p.es:=wP _ rfl A7;have Pt:Bp bs p.t:=wP _ rfl Fb;have gH:Bp bs p.tab:=wP _ rfl En;have gG:Bp bs p.ent:=wP _ rfl De;have Pr:Bp bs p.r:=wP _ rfl (by simp only[Pw.r,Pw.t];omega);have mo:∀(d a b:Pn) (E:Int) (ls S:List Int),Bp bs d→Bw bs d→Bp bs a→Bp bs b→0≤E→E+1<8→zr E ls→Gd bs S ls (p.mont d a b E) S:=λd a b E ls S hd wd ha hb h1 h2 hL=>Gd.keep0 (ae J ⟨h1,h2⟩ (λq=>by have:=hL.2 _ q;omega) (λq=>by have:=hL.2 _ q;omega) (by have:=hL.1;omega) (hL.lt J) hd wd ha hb pn Pt (wW _ rfl) Fb gO)
 have ra:∀(d:Pn) (bits:Int) (S:List Int),Vh D S→Bp bs d→Bw bs d→bits≤1000000→Gd bs S ls (p.radix d bits D) S:=λd bits S hS hd wd hb=>qj hL J hS J hd wd pn Pr (wW _ rfl) (by simp only[Pw.r];omega) hb
 have cp:∀(to fr:Pn) (S:List Int),Vh D S→Bp bs to→Bw bs to→Bp bs fr→Gd bs S ls (p.copies to fr D) S:=λto fr S hS ht wt hf=>gd_cp hL J hS J ht wt hf J
 have gC:Vh D ((p.B:Int)::S):=hS.high J;have gA:=hL.snoc;have gD:=gA.snoc;have gP:=gD.snoc;unfold Pw.code;refine Gd.mono (Gd.cat (Gd.Lm (T:=(p.B:Int)::S) hL J (l:=[cK p.B 0]) (aj J okL_nil) Dz Cc) (Gd.cat (S':=(p.B:Int)::S) ?_ (Gd.cat (S':=(p.B:Int)::S) ?_ ?_))) (λx h=>h) (S':=(p.B:Int)::S) (λx h=>Ik _ h)
 ·unfold Pw.fill Pw.fillR;have gI:Vh D (12::(p.B:Int)::S):=gC.high J;refine Gd.mono (Gd.cat (ra _ _ _ gC gG (wW _ rfl) J) (Gd.cat (ra _ _ _ gC gz (wW _ rfl) J) (Gd.cat (mo _ _ _ _ _ _ gE (wW _ rfl) pa gz J J hL) (Gd.cat (cp _ _ _ gC gg (wW _ rfl) gG) (Gd.cat (Gd.Lm (T:=12::(p.B:Int)::S) hL J (l:=[cK 12 (iU p.k)]) (aj J okL_nil) Cc Cc) (Gd.lpD (S':=12::(p.B:Int)::S) hL J gI J (Gd.cat (mo _ _ _ _ _ _ gg (wW _ rfl) gg gE J J gA) (Gd.cat (Gd.lpD gA J gI.cons J (Gd.L (l:=[Nk (p.B+3) p.acc.p (D+1) 0,Nb 3 13 12 (D+1),Nq p.tab.p 13 0 (p.B+3)]) (gD.lt J) ?_ ?_) λx hx=>Iy _ (Ik _ hx)) (Gd.Lm (l:=[cK 13 (iU p.k),Nb 3 12 12 13]) gA J ?_ ?_ ?_))) λx h=>h)))))) (λx h=>h) (λx h=>by simp at h;rcases h with h|h<;>simp[h])
  ·exact Xz gg J J N (qk J J J J N N (po gH (wW _ rfl) J J N N okL_nil))
  ·simp[Ng,Nk,Nb,Nq];omega
  ·exact aj J (qk J J J J N N okL_nil)
  ·simp[Ng,cK,Nb]
  ·intro x hx;simp at hx;rcases hx with h|h|h<;>simp[Ng,cK,Nb,h]
 ·unfold Pw.exp;have gK:Vh D ((p.B+4:Int)::(p.B:Int)::S):=gC.high J;refine Gd.cat (Gd.Lm (T:=(p.B+4:Int)::(p.B:Int)::S) hL J (l:=[Q1 (p.B+4) p.B]) (zp4 J J N okL_nil) D0 F3) (Gd.cat (Gd.lpD hL J gK J (Gd.L (gA.lt J) ?_ ?_) λx hx=>Iy _ (Ik _ hx)) (Gd.Lm hL J ?_ ?_ ?_))
  ·unfold Pw.expB;split
   ·exact Xz pb J J N (po gF (wW _ rfl) J J N N okL_nil)
   ·exact Xz pb J J N (zqx (.inl rfl) J J J N (qk J J J J N N (po gF (wW _ rfl) J J N N (zqx (.inr rfl) J J J N okL_nil))))
  ·unfold Pw.expB;split
   ·simp[Ng,Nk,Nq];omega
   ·simp[Ng,Nk,Nq,Rb,Nb];omega
  ·unfold Pw.expE;split
   ·exact zbt gF (wW _ rfl) J J A7 N okL_nil
   ·exact zbt gF (wW _ rfl) J J A7 N okL_nil
  ·unfold Pw.expE;split<;>simp[Ng,Nq]
  ·intro x hx;exact Iy _ (Ik _ hx)
 ·unfold Pw.run Pw.runR Pw.runW Pw.shift Pw.scan Pw.scanR;have gL:Vh (D+1) ((p.B+1:Int)::D::(p.B:Int)::S):=(gC.cons).high J;have gQ:Vh (D+1+1) ((p.B+2:Int)::(D+1)::(p.B+1:Int)::D::(p.B:Int)::S):=(gL.cons).high J;have gM:Vh (D+1) (12::(p.B+1:Int)::D::(p.B:Int)::S):=gL.high J;have gK:Vh (D+1+1) ((p.B+5:Int)::(D+1)::12::(p.B+1:Int)::D::(p.B:Int)::S):=(gM.cons).high J;have gR:Vh D ((p.B+3:Int)::(p.B:Int)::S):=gC.high J;refine Gd.mono (Gd.cat (cp _ _ _ gC gg (wW _ rfl) gG) (Gd.cat (Gd.lpD (S':=(p.B:Int)::S) hL J gC J (Gd.mono (Gd.cat (Gd.Lm (T:=(p.B+1:Int)::D::(p.B:Int)::S) gA J (l:=[Q1 (p.B+1) p.B]) (zp4 J J N okL_nil) D0 F3) (Gd.cat (Gd.lpD (S':=(p.B+1:Int)::D::(p.B:Int)::S) gA J gL J ?_ λx h=>h) (Gd.cat (S':=(p.B+1:Int)::D::(p.B:Int)::S) ?_ (mo _ _ _ _ _ _ gg (wW _ rfl) gg gz J J gA)))) (λx h=>h) (λx h=>by simp at h;rcases h with h|h<;>simp[h])) λx h=>h) ?_)) (λx h=>h) (S':=(p.B+3:Int)::(p.B:Int)::S) (λx h=>Ik _ h)
  ·refine Gd.mono (Gd.cat (mo _ _ _ _ _ _ gg (wW _ rfl) gg gg J J gD) (Gd.cat (Gd.Lm (T:=(p.B+2:Int)::(D+1)::(p.B+1:Int)::D::(p.B:Int)::S) gD J (l:=[Q1 (p.B+2) p.B]) (zp4 J J N okL_nil) D0 F3) (Gd.cat (gd_sh gD J gQ J J J N gF (wW _ rfl) (by show ((p.b.k+1:Nat):Int)≤_;omega)) (Gd.Lm (T:=(p.B+1:Int)::D::(p.B:Int)::S) gD J (l:=[Rb 8 (p.B+1) (p.B+1) 1,Nb 6 (p.B+1) (p.B+1) (p.B+2)]) ?_ ?_ ?_)))) (λx h=>h) λx h=>h
   ·exact zqx (.inl rfl) J J J N (qk J J J J N N okL_nil)
   ·simp[Ng,Rb,Nb];omega
   ·intro x hx;simp at hx;rcases hx with h|h|h|h<;>simp[Ng,Rb,Nb,h]
  ·refine Gd.mono (Gd.cat (Gd.Lm (T:=12::(p.B+1:Int)::D::(p.B:Int)::S) gA J (l:=[cK 12 0]) (aj J okL_nil) Cc Cc) (Gd.lpD (S':=12::(p.B+1:Int)::D::(p.B:Int)::S) gA J gM J (Gd.cat (Gd.Lm (T:=(p.B+5:Int)::(D+1)::12::(p.B+1:Int)::D::(p.B:Int)::S) gD J (l:=[Nb 7 (p.B+5) (p.B+1) (D+1),Ny 12 (p.B+4) (p.B+5) p.B (p.B+5) p.B]) ?_ ?_ ?_) (Gd.cat (Gd.lpD gD J gK J (Gd.L (l:=p.scanB (D+1+1)) (gP.lt J) ?_ ?_) λx hx=>Iy _ (Ik _ hx)) (Gd.Lm (l:=[cK 13 (iU p.k),Nb 3 12 12 13]) gD J ?_ ?_ ?_))) λx h=>h)) (λx h=>h) (λx h=>Ik _ h)
   ·exact qk J J J J N N (zac (.inr rfl) J J J J J J N N N okL_nil)
   ·simp[Ng,Nb,Ny];omega
   ·intro x hx;simp at hx;rcases hx with h|h|h|h|h|h|h<;>simp[Ng,Nb,Ny,h]
   ·unfold Pw.scanB;exact qk J J J J N N (Xz gH J J N (Xz gz J J N (zn5 J J J J N N N (po gz (wW _ rfl) J J N N okL_nil))))
   ·simp[Pw.scanB,Ng,Nb,Nk,Og,Nq];omega
   ·exact aj J (qk J J J J N N okL_nil)
   ·simp[Ng,cK,Nb]
   ·intro x hx;simp at hx;rcases hx with h|h|h|h|h<;>simp[Ng,cK,Nb,h]
  ·exact Gd.cat (Gd.Lm (T:=(p.B+3:Int)::(p.B:Int)::S) hL J (l:=[cK (p.B+3) 1]) (aj J okL_nil) Dz Cc) (Gd.cat (zvo hL J gR J N gz (wW _ rfl)) (Gd.cat (Gd.Lm (T:=(p.B+3:Int)::(p.B:Int)::S) hL J (l:=[Nq p.cur.p (-1) 0 (p.B+3)]) (zbt gz (wW _ rfl) J J Bk N okL_nil) (by simp[Ng,Nq]) (λx h=>by simp[Ng,Nq];simpa using h)) (mo _ _ _ _ _ _ pd wd gg gz J J hL)))
end gd
end
section
set_option linter.unusedSimpArgs false
def zfk{j:Type}:∀f g h:Fr j,(f.cat g).cat h=f.cat (g.cat h)
 |.nil,_,_=>rfl
 |.op o r,g,h=>Gq
 |.loop o b e r,g,h=>Gq
def bj(g:Fr Lo):Fr.cat (Nh []) g=g:=rfl
def Fm(l:List Pn)(m m':Nat→Nat→UInt64):Prop:=∀x y,(∀p∈l,¬(x=p.b∧p.a≤y∧y<p.a+p.k))→m' x y=m x y
section fm
variable {l l' : List Pn} {m m' m'' : Nat → Nat → UInt64} {p q : Pn}
end fm
section ex
variable {sz : Nat → Nat} {s : Fs}
def Zj{d a:Nat}{k:Nat}(g:k<64):Qg sz (Rb 9 d a (k:Nat)) s=some (s.put d (UInt64.ofNat ((s.r a).toNat/2^k))):=by
 have e:(iU (k:Int)).toNat=k:=Vu J;simp[Qg,Rb,Oa,Zz,dx,Zw,e]
def zud{d a:Nat}{k:Nat}(g:k<64):Qg sz (Rb 8 d a (k:Nat)) s=some (s.put d (UInt64.ofNat ((s.r a).toNat*2^k))):=by
 have e:(iU (k:Int)).toNat=k:=Vu J;simp[Qg,Rb,Oa,Zz,dx,Zw,e]
def zjr{x:UInt64}{k:Nat}:(UInt64.ofNat (x.toNat/2^k)).toNat=x.toNat/2^k:=by
 have h:=x.toNat_lt;have:=L5 x.toNat (2^k);simp;omega
def nm{x b:UInt64}(j:b.toNat≤1):(UInt64.ofNat (x.toNat*2^1) ||| b).toNat=2*x.toNat%18446744073709551616+b.toNat:=by
 have z:=x.toNat_lt;rw[Mn];have g:(UInt64.ofNat (x.toNat*2^1)).toNat=2^1*(x.toNat%2^63):=by
  simp;omega
 rw[g,←Mt (J:b.toNat<2^1)];omega
def na{x b:UInt64}(g:b.toNat≤1):(UInt64.ofNat (x.toNat*2^1) ||| b).toNat+18446744073709551616*(UInt64.ofNat (x.toNat/2^63)).toNat=2*x.toNat+b.toNat∧(UInt64.ofNat (x.toNat/2^63)).toNat≤1:=by
 have j:=x.toNat_lt;rw[nm g,zjr];omega
def sh_law{W v r x q b:Nat}(h:v+g*r=2*j+b)(k:q+W*A=2*x+r):v+q*g+g*W*A=2*(j+x*g)+b:=by
 have z:g*(q+W*A)=g*(2*x+r):=Gk
 grind
def sh_ex{p:Pn}{n l o b D:Nat}(T:p.in_ sz)(hn:n≤p.k)(hd:l≠o∧l≠b∧l≠D∧o≠b∧o≠D∧b≠D)(U:(s.r b).toNat≤1) :
  Tx sz (jb p.p n l o b D) s λA=>(∀z,z≠l→z≠o→z≠b→z≠D→A.r z=s.r z)∧N8 p s.m A.m∧(A.r b).toNat≤1∧vl (pl A.m p) n+18446744073709551616^n*(A.r b).toNat=2*vl (pl s.m p) n+(s.r b).toNat:=by
 obtain⟨p1,K⟩:=T;obtain⟨E,d2,F,V,G,X⟩:=hd;have e:jb p.p n l o b D=O0 (D:Nat) (n:Nat) (Nh [Nk (l:Nat) p.p (D:Nat) ((0:Nat):Int),Rb 9 (o:Nat) (l:Nat) ((63:Nat):Int),Rb 8 (l:Nat) (l:Nat) ((1:Nat):Int),Nb 6 (l:Nat) (l:Nat) (b:Nat),Nq p.p (D:Nat) ((0:Nat):Int) (l:Nat),Q1 (b:Nat) (o:Nat)]):=rfl;rw[e];refine .lp (λB j=>(∀z,z≠l→z≠o→z≠b→z≠D→j.r z=s.r z)∧N8 p s.m j.m∧(j.r b).toNat≤1∧(∀i,B≤i→pl j.m p i=pl s.m p i)∧vl (pl j.m p) B+18446744073709551616^B*(j.r b).toNat=2*vl (pl s.m p) B+(s.r b).toNat)
  ⟨λ_ _ _ _ _=>rfl,λ_ _ _=>rfl,U,λ_ _=>rfl,Cs⟩ J (λB j hj ⟨Y,Z,b1,L,v1⟩=>?_) λ_ h=>⟨h.1,h.2.1,h.2.2.1,h.2.2.2.2⟩
 have H:((j.put D (UInt64.ofNat B)).r D).toNat=B:=Bn
 have C:(UInt64.ofNat B).toNat=B:=ie J;refine .op (Xr (by rw[H];omega) K) (.op (Zj J) (.op (zud J) (.op Yt ?_)));simp only[Nc,Pa,Jo,Hx E,Hx d2.symm,Hx V.symm,Hx X,Hx E.symm,C,Iz];have I:=na (x:=pl j.m p B) b1;obtain⟨M,a2⟩:=I;refine .op (ui (by simp only[Nc,Hx F.symm,Hx G.symm,Jo];rw[ie J];omega) K) (.op zmn (.nil ⟨λz O P Q R=>?_,?_,?_,λi hi=>?_,?_⟩))
 ·simp only[Nc,Su,Hx O,Hx P,Hx Q,Hx R];exact Y z O P Q R
 ·refine Z.trans ?_;rw[Pa];refine Wm (p:=p) ?_;simp only[Nc,Hx F.symm,Hx G.symm,Jo];rw[ie J];omega
 ·simp only[Nc,Su,Jo,Hx E.symm,Iz];exact a2
 ·rw[Pa,Re];simp only[Nc,Hx F.symm,Hx G.symm,Jo];rw[ie J,Hx J];exact L i J
 ·rw[Pa,Q7,Q7,Re];simp only[Nc,Su,Hx F.symm,Hx G.symm,Jo,Hx E.symm,Iz];rw[C,H6 rfl,I3,Wb (g:=pl j.m p) λi hi=>by rw[Re,Hx J];rfl];rw[L B (H9 _)]at M ⊢;exact sh_law v1 M
def ng{to fr:Pn}{k l D:Nat}(H:to.in_ sz)(I:fr.in_ sz)(Q:k≤to.k)(R:k≤fr.k)(z:l≠D)(K:Dj to fr) :
  Tx sz (jx to.p fr.p k l D) s λA=>(∀g,g≠l→g≠D→A.r g=s.r g)∧N8 to s.m A.m∧∀i,i<k→pl A.m to i=pl s.m fr i:=by
 obtain⟨T,L⟩:=H;obtain⟨U,M⟩:=I;have e:jx to.p fr.p k l D=O0 (D:Nat) (k:Nat) (Nh [Nk (l:Nat) fr.p (D:Nat) ((0:Nat):Int),Nq to.p (D:Nat) ((0:Nat):Int) (l:Nat)]):=rfl;rw[e];refine .lp (λG j=>(∀g,g≠l→g≠D→j.r g=s.r g)∧N8 to s.m j.m∧∀i,i<G→pl j.m to i=pl s.m fr i)
  ⟨λ_ _ _=>rfl,λ_ _ _=>rfl,λ_ h=>absurd h J⟩ J (λG j V ⟨O,C,P⟩=>?_) λ_ h=>h
 have B:((j.put D (UInt64.ofNat G)).r D).toNat=G:=Bn
 refine .op (Xr (by rw[B];omega) M) (.op (ui (by simp only[Nc,Hx z.symm,Jo];rw[ie J];omega) L) (.nil ⟨λg E F=>?_,?_,λi hi=>?_⟩))
 ·simp only[Nc,Su,Hx E,Hx F];exact O g E F
 ·refine C.trans ?_;refine Wm (p:=to) ?_;simp only[Nc,Hx z.symm,Jo];rw[ie J];omega
 ·rw[Re];simp only[Nc,Pa,Hx z.symm,Jo,Iz];rw[ie J];split
  ·rename_i q;rw[q];exact C.pl K J
  ·exact P i J
def zov{R j:Nat}{n r:Pn}{c:Bool}(Q:g<R)(B:(s.r g).toNat=j)(F:s.r (R+5)=Oh c)(G:n.in_ sz)(H:r.in_ sz)(T:j<n.k)(U:j<r.k)(x:List Lo)(P:Fs→Prop)
  (h:∀(z:Fs) (b:Bool),z.m=s.m→z.r (R+5)=Oh b→z.r (R+2)=pl s.m r j→(z.r (R+4)).toNat+(pl s.m n j).toNat+c.toNat=(pl s.m r j).toNat+18446744073709551616*b.toNat→(∀E,E≠R+2→E≠R+4→E≠R+5→z.r E=s.r E)→Tx sz (Nh x) z P) :
  Tx sz (Nh (Y7 n.p r.p R g++x)) s P:=by
 obtain⟨I,C⟩:=G;obtain⟨K,D⟩:=H;have e:Y7 n.p r.p R g++x=Nk ((R+2:Nat):Int) r.p (g:Nat) ((0:Nat):Int)::Nk ((R+4:Nat):Int) n.p (g:Nat) ((0:Nat):Int)::Ny 12 ((R+4:Nat):Int) ((R+5:Nat):Int) ((R+2:Nat):Int) ((R+4:Nat):Int) ((R+5:Nat):Int)::x:=rfl;rw[e];have A:∀n,n<11→¬g=R+n:=λn h=>J
 refine .op (Xr J D) (.op (Xr (by simp only[Nc,Hx (A 2 J)];omega) C) (.op zjg ?_));have hv:=zcm (pl s.m r j) (pl s.m n j) c;refine h _ (Ot (pl s.m r j) (pl s.m n j) c).2 rfl ?_ ?_ ?_ λE L M O=>?_
 ·simp[Nc,Pa,A,B,F,mm]
 ·simp[Nc,Pa,A,B]
 ·simpa [Nc,Pa,A,B,F,mm] using hv
 ·simp[Nc,L,M,O]
def zwm{R k:Nat}{r:Pn}{c:Bool}(B:s.r R=0)(C:s.r (R+5)=Oh c)(D:r.in_ sz)(K:k<r.k)(g:Fr Lo)(I:Fs→Prop)
  (h:∀(j:Fs) (b:Bool),j.m=s.m→j.r (R+5)=Oh b→j.r (R+2)=pl s.m r k→(j.r (R+4)).toNat+c.toNat=(pl s.m r k).toNat+18446744073709551616*b.toNat→(∀A,A≠R+2→A≠R+4→A≠R+5→j.r A=s.r A)→Tx sz g j I) :
  Tx sz ((Nh [Nk ((R:Int)+2) r.p (-1) (k:Nat),Ny 12 ((R:Int)+4) ((R:Int)+5) ((R:Int)+2) (R:Nat) ((R:Int)+5)]).cat g) s I:=by
 obtain⟨E,z⟩:=D;have e:[Nk ((R:Int)+2) r.p (-1) (k:Nat),Ny 12 ((R:Int)+4) ((R:Int)+5) ((R:Int)+2) (R:Nat) ((R:Int)+5)]=[Nk ((R+2:Nat):Int) r.p (-1) (k:Nat),Ny 12 ((R+4:Nat):Int) ((R+5:Nat):Int) ((R+2:Nat):Int) (R:Nat) ((R+5:Nat):Int)]:=rfl;rw[e];refine .op (ztj J z) (.op zjg ?_);have hv:=zcm (pl s.m r k) 0 c;refine h _ (Ot (pl s.m r k) 0 c).2 rfl ?_ ?_ ?_ λA F G H=>?_
 ·simp[Nc,B,C,mm]
 ·simp[Nc]
 ·simpa [Nc,B,C,mm] using hv
 ·simp[Nc,F,G,H]
def wn(R g:Nat):Prop:=g=R+2∨g=R+4∨g=R+5
def zu{R D k:Nat}{n r:Pn}(T:D<R)(U:s.r R=0)(V:n.in_ sz)(E:r.in_ sz)(kn:k≤n.k)(X:k<r.k) :
  Tx sz (Xw n.p r.p k R D []) s λI=>(∀g,¬wn R g→g≠D→I.r g=s.r g)∧I.m=s.m∧∃(c:Bool) (v:Nat),I.r (R+5)=Oh c∧v<18446744073709551616^(k+1)∧v+vl (pl s.m n) k=vl (pl s.m r) (k+1)+18446744073709551616^(k+1)*c.toNat:=by
 have Y:k<18446744073709551616:=by have:=E.1;have:=E.2;omega
 have e:Xw n.p r.p k R D []=(Nh [cK ((R+5:Nat):Int) 0]).cat ((O0 (D:Nat) (k:Nat) (Nh (Y7 n.p r.p R D++[]))).cat ((Nh [Nk ((R:Int)+2) r.p (-1) (k:Nat),Ny 12 ((R:Int)+4) ((R:Int)+5) ((R:Int)+2) (R:Nat) ((R:Int)+5)]).cat .nil)):=rfl;rw[e];unfold wn;refine .op V6 ?_;rw[bj];refine .cat (R:=λz=>(∀g,¬(g=R+2∨g=R+4∨g=R+5)→g≠D→z.r g=s.r g)∧z.m=s.m∧∃(c:Bool) (v:Nat),z.r (R+5)=Oh c∧v<18446744073709551616^k∧v+vl (pl s.m n) k=vl (pl s.m r) k+18446744073709551616^k*c.toNat) ?_ λz ⟨F,m1,c,v,K,Z,L⟩=>?_
 ·refine .lp (λG z=>(∀g,¬(g=R+2∨g=R+4∨g=R+5)→g≠D→z.r g=s.r g)∧z.m=s.m∧∃(c:Bool) (v:Nat),z.r (R+5)=Oh c∧v<18446744073709551616^G∧v+vl (pl s.m n) G=vl (pl s.m r) G+18446744073709551616^G*c.toNat) ⟨λg H _=>?_,rfl,false,0,by rw[Nc,H6 rfl];rfl,N,Cs⟩ Y (λG z hj ⟨F,m1,c,v,K,Z,L⟩=>?_) λ_ h=>h
  ·rw[Nc,Hx J]
  ·refine zov (j:=G) (c:=c) T Bn (by rw[Nc,Hx J,K]) V E J J _ _ λB b M O t2 C P=>.nil ⟨λg H A=>?_,by rw[M,Pa,m1],b,v+(B.r (R+4)).toNat*18446744073709551616^G,O,?_,?_⟩
   ·rw[P g J J J,Nc,Hx A,F g H A]
   ·have:=(B.r (R+4)).toNat_lt;have Q:=Ij (18446744073709551616^G) (J:(B.r (R+4)).toNat+1≤18446744073709551616);rw[Ix,Kb]at Q;rw[I3,Jt (18446744073709551616^G)];omega
   ·rw[Pa,m1]at C;rw[Q7,Q7,I3];exact zc7 L C
 ·refine zwm (c:=c) (by rw[F R J J,U]) K E X _ _ λB b M O t2 C P=>.nil ⟨λg H A=>?_,by rw[M,m1],b,v+(B.r (R+4)).toNat*18446744073709551616^k,O,?_,?_⟩
  ·rw[P g J J J,F g H A]
  ·have:=(B.r (R+4)).toNat_lt;have Q:=Ij (18446744073709551616^k) (J:(B.r (R+4)).toNat+1≤18446744073709551616);rw[Ix,Kb]at Q;rw[I3,Jt (18446744073709551616^k)];omega
  ·rw[m1]at C;rw[Q7,I3];have:=zc7 (x:=0) L Cp;simpa using this
def keep_ex{R D k:Nat}{n r:Pn}{p:Bool}(hD:D<R)(hR:s.r R=0)(hp:s.r (R+6)=Oh p)(hn:n.in_ sz)(L:r.in_ sz)(kn:k≤n.k)(kr:k<r.k)(dj:Dj r n) :
  Tx sz ((Xw n.p r.p k R D [Og ((R:Int)+4) ((R:Int)+6) ((R:Int)+2) ((R:Int)+4),Nq r.p D 0 ((R:Int)+4)]).cat (Nh [Og ((R:Int)+4) ((R:Int)+6) ((R:Int)+2) ((R:Int)+4),Nq r.p (-1) k ((R:Int)+4),cK ((R:Int)+1) 0])) s λT =>
   (∀B,¬wn R B→B≠R+1→B≠D→T.r B=s.r B)∧N8 r s.m T.m∧T.r (R+1)=0∧∃(c:Bool) (v:Nat),v<18446744073709551616^(k+1)∧v+vl (pl s.m n) k=vl (pl s.m r) (k+1)+18446744073709551616^(k+1)*c.toNat∧vl (pl T.m r) (k+1)=if p=true then vl (pl s.m r) (k+1) else v:=by
 have hW:k<18446744073709551616:=by have:=L.1;have:=L.2;omega
 have gg:=L.1;have Q:=L.2;have e:∀g:Fr Lo,(Xw n.p r.p k R D [Og ((R:Int)+4) ((R:Int)+6) ((R:Int)+2) ((R:Int)+4),Nq r.p D 0 ((R:Int)+4)]).cat g=(Nh [cK ((R+5:Nat):Int) 0]).cat ((O0 (D:Nat) (k:Nat) (Nh (Y7 n.p r.p R D++[Og ((R+4:Nat):Int) ((R+6:Nat):Int) ((R+2:Nat):Int) ((R+4:Nat):Int),Nq r.p (D:Nat) ((0:Nat):Int) ((R+4:Nat):Int)]))).cat ((Nh [Nk ((R:Int)+2) r.p (-1) (k:Nat),Ny 12 ((R:Int)+4) ((R:Int)+5) ((R:Int)+2) (R:Nat) ((R:Int)+5)]).cat g)):=λg=>by
  unfold Xw;rw[zfk,zfk];rfl
 rw[e];unfold wn;refine .op V6 ?_;rw[bj];refine .cat (R:=λA=>(∀B,¬(B=R+2∨B=R+4∨B=R+5)→B≠D→A.r B=s.r B)∧N8 r s.m A.m∧(∀i,k≤i→pl A.m r i=pl s.m r i)∧∃(c:Bool) (v:Nat),A.r (R+5)=Oh c∧v<18446744073709551616^k∧v+vl (pl s.m n) k=vl (pl s.m r) k+18446744073709551616^k*c.toNat∧vl (pl A.m r) k=if p=true then vl (pl s.m r) k else v) ?_ λA ⟨M,U,V,c,v,Y,l1,Z,w1⟩=>?_
 ·refine .lp (λF A=>(∀B,¬(B=R+2∨B=R+4∨B=R+5)→B≠D→A.r B=s.r B)∧N8 r s.m A.m∧(∀i,F≤i→pl A.m r i=pl s.m r i)∧∃(c:Bool) (v:Nat),A.r (R+5)=Oh c∧v<18446744073709551616^F∧v+vl (pl s.m n) F=vl (pl s.m r) F+18446744073709551616^F*c.toNat∧vl (pl A.m r) F=if p=true then vl (pl s.m r) F else v) ⟨λB X _=>?_,λ_ _ _=>rfl,λ_ _=>rfl,false,0,by rw[Nc,H6 rfl];rfl,N,Cs,Cs⟩ hW (λF A hj ⟨M,U,V,c,v,Y,l1,Z,w1⟩=>?_) λ_ h=>h
  ·rw[Nc,Hx J]
  ·refine zov (j:=F) (c:=c) hD Bn (by rw[Nc,Hx J,Y]) hn L J J _ _ λz b G b2 O H P=>?_
   have gz:(z.r D).toNat=F:=by rw[P D J J J];simp[Nc];omega
   rw[Pa]at O H G;rw[V F (H9 _)]at O H;rw[U.pl dj J]at H;have I:z.r (R+6)=Oh p:=by rw[P _ J J J,Nc,Hx J,M _ J J,hp]
   refine .op zo8 (.op (ui (by simp only[Nc];rw[Hx J];omega) Q) (.nil ⟨λB X C=>?_,?_,λi hi=>?_,b,v+(z.r (R+4)).toNat*18446744073709551616^F,?_,?_,?_,?_⟩))
   ·rw[Su,Nc,Hx J,P B J J J,Nc,Hx C,M B X C]
   ·refine U.trans (G ▸ ?_);exact Wm (p:=r) (s:=z.put _ _) Gt
   ·have K:0+((z.put (R+4) (if z.r (R+6)%2=1 then z.r (R+2) else z.r (R+4))).r D).toNat=F:=Gt
    rw[K,Re,Hx J,Pa,G];exact V i J
   ·rw[Su,Nc,Hx J,b2]
   ·have:=(z.r (R+4)).toNat_lt;have h3:=Ij (18446744073709551616^F) (J:(z.r (R+4)).toNat+1≤18446744073709551616);rw[Ix,Kb]at h3;rw[I3,Jt (18446744073709551616^F)];omega
   ·rw[Q7,Q7,I3];exact zc7 Z H
   ·have K:0+((z.put (R+4) (if z.r (R+6)%2=1 then z.r (R+2) else z.r (R+4))).r D).toNat=F:=Gt
    rw[Q7,K,Re,H6 rfl,Wb (g:=pl A.m r) (n:=F) λi hi=>by rw[Re,Hx J,Pa,G],w1,Nc,H6 rfl,I,O];have E:=mm p;cases p
    ·simp at E;simp[E]
    ·simp at E;simp[E,Q7]
 ·refine zwm (c:=c) (by rw[M R J J,hR]) Y L kr _ _ λz b G b2 O H P=>?_
  rw[V k (H9 _)]at O H;have I:z.r (R+6)=Oh p:=by rw[P _ J J J,M _ J J,hp]
  have e2:[Og ((R:Int)+4) ((R:Int)+6) ((R:Int)+2) ((R:Int)+4),Nq r.p (-1) (k:Nat) ((R:Int)+4),cK ((R:Int)+1) 0]=[Og ((R+4:Nat):Int) ((R+6:Nat):Int) ((R+2:Nat):Int) ((R+4:Nat):Int),Nq r.p (-1) (k:Nat) ((R+4:Nat):Int),cK ((R+1:Nat):Int) 0]:=rfl;rw[e2];refine .op zo8 (.op (zrm J Q) (.op V6 (.nil ⟨λB X h1 C=>?_,?_,by simp[Nc],b,v+(z.r (R+4)).toNat*18446744073709551616^k,?_,?_,?_⟩)))
  ·rw[Nc,Hx h1,Su,Nc,Hx J,P B J J J,M B X C]
  ·refine U.trans (G ▸ ?_);exact Wm (p:=r) (s:=z.put _ _) J
  ·have:=(z.r (R+4)).toNat_lt;have h3:=Ij (18446744073709551616^k) (J:(z.r (R+4)).toNat+1≤18446744073709551616);rw[Ix,Kb]at h3;rw[I3,Jt (18446744073709551616^k)];omega
  ·rw[Q7,I3];have:=zc7 (x:=0) Z Do;simpa using this
  ·rw[Pa,Q7,Re,H6 rfl,Wb (g:=pl A.m r) (n:=k) λi hi=>by rw[Re,Hx J,Pa,G],w1,Nc,H6 rfl,I,O];have E:=mm p;cases p
   ·simp at E;simp[E]
   ·simp at E;simp[E,Q7]
end ex
end
section
set_option linter.unusedSimpArgs false
def rx_law{v c:Nat}(C:c≤1)(z:Q≤1)(E:v<g)(F:v+j=A+g*c)(G:D<g)(H:D+j=A+g*Q)(I:A<2*j):(c=1→A%j=A)∧(c=0→D=A%j):=by
 have e:c=0∨c=1:=J
 have B:Q=0∨Q=1:=J
 have hm:j≤A→A%j=A-j:=λh=>by rw[Nat.mod_eq_sub_mod h,Iw J]
 rcases e with rfl|rfl<;>rcases B with rfl|rfl<;>simp at *
 ·have:=hm J;omega
 ·omega
 ·exact Iw J
 ·exact Iw J
def rx_top{v b:Nat}(h:v+g*b=j)(z:b=0∨b=1)(B:j<2*A)(C:A<D)(E:g=D*18446744073709551616):v=j:=by
 rcases z with rfl|rfl<;>omega
def zql{p:Pn}{t:Fs}{m:Nat→Nat→UInt64}{i:Nat}{v:UInt64}(h:t.m=m)(hi:i<p.k):N8 p m (t.sto p.b (p.a+i) v).m:=h ▸ Wm hi
section ex
variable {sz : Nat → Nat} {s : Fs}
def zvx{R D k bits:Nat}{d n r:Pn}(hD:D+1<R)(hd:d.in_ sz)(hn:n.in_ sz)(F:r.in_ sz)(kd:k≤d.k)(Q:k≤n.k)(kr:r.k=k+1)(rn:Dj r n)(dr:Dj d r)(hb:bits≤1000000) :
  Tx sz (dc d.p n.p r.p k bits R D) s λT=>(∀z,¬(R≤z∧z≤R+6)→z≠D→z≠D+1→T.r z=s.r z)∧Fm [d,r] s.m T.m∧(0<vl (pl s.m n) k→vl (pl T.m d) k=2^bits%vl (pl s.m n) k):=by
 have gD:=F.1;have gE:=F.2;have e:dc d.p n.p r.p k bits R D=(Nh [cK (R:Nat) 0,cK ((R+1:Nat):Int) 1]).cat ((Tt r.p (R:Nat) (D:Nat)).cat ((O0 (D:Nat) ((bits+1:Nat):Int) ((jb r.p ((k+1:Nat):Int) ((R+2:Nat):Int) ((R+3:Nat):Int) ((R+1:Nat):Int) ((D+1:Nat):Int)).cat ((Xw n.p r.p k R ((D+1:Nat):Int) []).cat ((Nh [Q1 ((R+6:Nat):Int) ((R+5:Nat):Int)]).cat ((Xw n.p r.p k R ((D+1:Nat):Int) [Og ((R:Int)+4) ((R:Int)+6) ((R:Int)+2) ((R:Int)+4),Nq r.p ((D+1:Nat):Int) 0 ((R:Int)+4)]).cat (Nh [Og ((R:Int)+4) ((R:Int)+6) ((R:Int)+2) ((R:Int)+4),Nq r.p (-1) k ((R:Int)+4),cK ((R:Int)+1) 0])))))).cat (jx d.p r.p k ((R+2:Nat):Int) (D:Nat)))):=rfl;rw[e];refine .op V6 (.op V6 ?_);rw[bj];refine (zsn F J).cat λs1 ⟨I,o1,z1⟩=>?_
 simp only[Pa,Nc,Jo]at I o1 z1;have U:∀i,i<r.k→pl s1.m r i=0:=λi hi=>by rw[z1 i hi,Hx J]
 refine .cat (R:=λj=>(∀z,¬(R≤z∧z≤R+6)→z≠D→z≠D+1→j.r z=s.r z)∧j.r R=0∧N8 r s.m j.m∧(j.r (R+1)).toNat≤1∧(0<vl (pl s.m n) k→2*vl (pl j.m r) (k+1)+(j.r (R+1)).toNat<2*vl (pl s.m n) k∧(2*vl (pl j.m r) (k+1)+(j.r (R+1)).toNat)%vl (pl s.m n) k=2^(bits+1)%vl (pl s.m n) k∧vl (pl j.m r) (k+1)=2^bits%vl (pl s.m n) k)) ?_ λj ⟨V,R2,X,b2,Y⟩=>?_
 ·refine .lp (λi j=>(∀z,¬(R≤z∧z≤R+6)→z≠D→z≠D+1→j.r z=s.r z)∧j.r R=0∧N8 r s.m j.m∧(j.r (R+1)).toNat≤1∧(0<vl (pl s.m n) k→2*vl (pl j.m r) (k+1)+(j.r (R+1)).toNat<2*vl (pl s.m n) k∧(2*vl (pl j.m r) (k+1)+(j.r (R+1)).toNat)%vl (pl s.m n) k=2^i%vl (pl s.m n) k∧(0<i→vl (pl j.m r) (k+1)=2^(i-1)%vl (pl s.m n) k)))
   ⟨λz H A E=>?_,?_,o1,?_,λB=>?_⟩ J (λi j hi ⟨V,R2,X,b2,Y⟩=>?_) λC ⟨a,b,c,d,e⟩=>⟨a,b,c,d,λB=>⟨(e B).1,(e B).2.1,(e B).2.2 J⟩⟩
  ·rw[I z A,Hx J,Hx J]
  ·rw[I R J,Hx J,H6 rfl]
  ·rw[I (R+1) J,H6 rfl];decide
  ·rw[zij λi hi=>U i J,I (R+1) J,H6 rfl];refine⟨?_,N,λh=>absurd h J⟩;show 2*0+1<_;omega
  ·have L:∀z,z≠D→(j.put D (UInt64.ofNat i)).r z=j.r z:=λz hz=>by rw[Nc,Hx hz]
   refine (sh_ex (p:=r) (n:=k+1) (l:=R+2) (o:=R+3) (b:=R+1) (D:=D+1) F J J (by rw[L _ J];exact b2)).cat λC ⟨M,O,b3,P⟩=>?_
   rw[L (R+1) J,Pa]at P;rw[Pa]at O;have Z:C.r R=0:=by rw[M R J J J J,L R J,R2]
   refine (zu (k:=k) J Z hn F Q J).cat λs4 ⟨g4,m4,c,v,c4,l4,v4⟩=>?_
   refine .op zmn ?_;rw[bj];have G:∀z,¬wn R z→z≠R+6→z≠D+1→(s4.put (R+6) (s4.r (R+5))).r z=C.r z:=λz H A E=>by rw[Nc,Hx A,g4 z H E]
   have K:=X.trans O;refine (keep_ex (p:=c) (k:=k) J (by rw[G R C6 J J,Z]) (by rw[Nc,H6 rfl,c4]) hn F Q J rn).mono λs5 ⟨g5,o5,b5,c',v',l5,v5,w5⟩=>?_
   rw[Pa,m4]at o5 v5 w5;rw[K.vl rn Q]at v4 v5;refine⟨λz H A E=>?_,?_,K.trans o5,by rw[b5];decide,λB=>?_⟩
   ·rw[g5 z C6 J E,G z C6 J E,M z J J J E,L z A,V z H A E]
   ·rw[g5 R C6 J J,G R C6 J J,Z]
   ·obtain⟨x1,x2,_⟩:=Y B;have gg:=Xc (pl s.m n) k;have gz:(C.r (R+1)).toNat=0∨(C.r (R+1)).toNat=1:=J
    have hP:(18446744073709551616:Nat)^(k+1)=18446744073709551616^k*18446744073709551616:=I3 ..;have hX:vl (pl C.m r) (k+1)=2*vl (pl j.m r) (k+1)+(j.r (R+1)).toNat:=by
     exact rx_top P gz x1 gg hP
    rw[←hX]at x1 x2;have gA:c.toNat≤1:=by cases c<;>decide
    have gC:c'.toNat≤1:=by cases c'<;>decide
    obtain⟨q1,q2⟩:=rx_law gA gC l4 v4 l5 v5 x1;have hV:vl (pl s5.m r) (k+1)=vl (pl C.m r) (k+1)%vl (pl s.m n) k:=by
     rw[w5];cases c
     ·rw[Hx N];exact q2 rfl
     ·rw[H6 rfl];exact (q1 rfl).symm
    have gF:=I4 (vl (pl C.m r) (k+1)) B;rw[b5,hV];refine⟨Ab,?_,λ_=>by rw[x2,Nat.add_sub_cancel]⟩;show (2*(vl (pl C.m r) (k+1)%vl (pl s.m n) k)+0)%_=_;rw[Kt,x2,I3,Jt (2^i)]
    conv=>lhs;rw[Jd,Nat.mod_mod,←Jd]
 ·refine (ng (to:=d) (fr:=r) (k:=k) (l:=R+2) (D:=D) hd F kd J J dr).mono λC ⟨M,O,P⟩=>⟨λz H A E=>?_,?_,λB=>?_⟩
  ·rw[M z J A,V z H A E]
  ·exact (X.fm N).trans (O.fm N)
  ·obtain⟨_,_,w⟩:=Y B;have A:vl (pl j.m r) (k+1)<18446744073709551616^k:=by
    rw[w];exact Nat.lt_trans (I4 _ B) (Xc _ _)
   rw[Wb (g:=pl j.m r) P,←w,Q7];rw[Q7]at A;have:(pl j.m r k).toNat=0:=by
    rcases Nat.eq_zero_or_pos (pl j.m r k).toNat with q|q
    ·exact q
    ·have:=Ma (18446744073709551616^k) q;omega
   rw[this];omega
def Pw.wk(p:Pw):Pn:=⟨p.wb,p.wa,4*p.k+p.b.k+3+p.k*2^p.w⟩
def Pw.en(p:Pw)(e:Nat):Pn:=⟨p.wb,p.wa+4*p.k+p.b.k+3+e*p.k,p.k⟩
structure PwS (sz:Nat→Nat) (p:Pw):Prop where
 B:16≤p.B∧p.B≤40
 d:p.d.in_ sz
 a:p.a.in_ sz
 b:p.b.in_ sz
 n:p.n.in_ sz
 wk:p.wk.in_ sz
 k:1≤p.k
 kb:p.k≤512
 dk:p.d.k=p.k
 ak:p.a.k=p.k
 nk:p.n.k=p.k
 db:p.d.b≠p.wb
 ab:p.a.b≠p.wb
 bb:p.b.b≠p.wb
 nb:p.n.b≠p.wb
 dn:DjE p.d p.n
 w:1≤p.w∧p.w≤6
 ov:p.over≤63
 ti:p.times*p.w=64*p.b.k+p.over
section pieces
variable {p : Pw}
def ztb{e:Nat}(he:e<2^p.w):e*p.k+p.k≤p.k*2^p.w:=by
 have:=Ij p.k (J:e+1≤2^p.w);rw[Ix,Kb,Jt (2^p.w)]at this;exact this
def Yi(g:PwS sz p){q:Pn}(j:q.b=p.wb)(A:q.a+q.k≤p.wa+(4*p.k+p.b.k+3+p.k*2^p.w)):q.in_ sz:=by
 have z:=g.wk;unfold Pn.in_ at *;rw[j];simp only[Pw.wk]at z;omega
def zjk(p:Pw):p.k≤p.k*2^p.w:=Nat.le_mul_of_pos_right _ (K7 _)
def or_shl{x o:UInt64}{m:Nat}(hm:m<64)(ho:o.toNat<2^m):(UInt64.ofNat (x.toNat*2^m) ||| o).toNat+18446744073709551616*(x.toNat/2^(64-m))=2^m*x.toNat+o.toNat:=by
 have z:=x.toNat_lt;have g:(18446744073709551616:Nat)=2^m*2^(64-m):=by rw[←Ku,(J:m+(64-m)=64)]
 have j:(UInt64.ofNat (x.toNat*2^m)).toNat=2^m*(x.toNat%2^(64-m)):=by
  rw[Jf,show (2:Nat)^64=2^m*2^(64-m) from g,Jt x.toNat,Nat.mul_mod_mul_left]
 rw[Mn,j,←Mt ho,g];have:=Mp x.toNat (2^(64-m));generalize x.toNat/2^(64-m)=q at *;generalize x.toNat%2^(64-m)=r at *;rw[←this,Lj,Kf];omega
def exp_law{W r x q v:Nat}(h:v+g*r=A*j)(k:q+W*D=A*x+r):v+q*g+g*W*D=A*(j+x*g):=by
 have z:g*(q+W*D)=g*(A*x+r):=Gk
 grind
def exp_ex(L:PwS sz p){D:Nat}(hD:D<8)(Q:s.r p.B=0) :
  Tx sz (p.exp D) s λT=>(∀z,¬(p.B+2≤z∧z≤p.B+4)→z≠D→T.r z=s.r z)∧N8 p.es s.m T.m∧vl (pl T.m p.es) (p.b.k+1)=vl (pl s.m p.b) p.b.k*2^(64-p.over):=by
 have hB:=L.B.1;have gg:=L.b.1;have M:=L.b.2;have O:p.es.in_ sz:=Yi L rfl A7;have gz:p.es.a+(p.b.k+1)≤sz p.es.b:=O.1;have C:=O.2;have Z:Dj p.es p.b:=.inl L.bb.symm;have gA:=L.ov;by_cases P:p.over=0
 ·have e:p.exp D=(Nh [Q1 ((p.B+4:Nat):Int) (p.B:Nat)]).cat ((O0 (D:Nat) (p.b.k:Nat) (Nh [Nk ((p.B+3:Nat):Int) p.b.p (D:Nat) ((0:Nat):Int),Nq p.es.p (D:Nat) ((1:Nat):Int) ((p.B+3:Nat):Int)])).cat (Nh [Nq p.es.p (-1) ((0:Nat):Int) (p.B:Nat)])):=by
   unfold Pw.exp Pw.expB Pw.expE;rw[H6 P,H6 P];rfl
  rw[e];refine .op zmn ?_;rw[bj];refine .cat (R:=λj=>(∀z,¬(p.B+2≤z∧z≤p.B+4)→z≠D→j.r z=s.r z)∧N8 p.es s.m j.m∧∀i,i<p.b.k→pl j.m p.es (i+1)=pl s.m p.b i) ?_ λj ⟨G,E,I⟩=>?_
  ·refine .lp (λH j=>(∀z,¬(p.B+2≤z∧z≤p.B+4)→z≠D→j.r z=s.r z)∧N8 p.es s.m j.m∧∀i,i<H→pl j.m p.es (i+1)=pl s.m p.b i) ⟨λz F B=>Gz,λ_ _ _=>rfl,λ_ h=>absurd h J⟩ J (λH j hj ⟨G,E,I⟩=>?_) λ_ h=>h
   have A:(UInt64.ofNat H).toNat=H:=ie J;have K:¬D=p.B+3:=J
   refine .op (Xr (by simp only[Nc,Jo,A];omega) M) (.op (ui (by simp only[Nc,Hx K,Jo,A];omega) C) (.nil ⟨λz F B=>?_,?_,λi hi=>?_⟩))
   ·rw[Su,Nc,Hx J,Nc,Hx B,G z F B]
   ·refine E.trans (Wm (p:=p.es) (s:=(j.put D (UInt64.ofNat H)).put _ _) ?_);simp only[Nc,Hx K,Jo,A,Pw.es];omega
   ·rw[Re];simp only[Nc,Pa,Hx K,Jo,A,Iz];split
    ·rename_i q;have:i=H:=J
     rw[this];exact E.pl Z J
    ·exact I i J
  ·refine .op (zrm J C) (.nil ⟨λz F B=>by rw[Su,G z F B],E.trans (Wm A7),?_⟩);rw[zpd,Re,H6 rfl,G p.B J J,Q,Wb (g:=pl s.m p.b) λi hi=>by
    rw[Re,Hx J];exact I i hi,P]
   simp;omega
 ·have e:p.exp D=(Nh [Q1 ((p.B+4:Nat):Int) (p.B:Nat)]).cat ((O0 (D:Nat) (p.b.k:Nat) (Nh [Nk ((p.B+3:Nat):Int) p.b.p (D:Nat) ((0:Nat):Int),Rb 8 ((p.B+2:Nat):Int) ((p.B+3:Nat):Int) ((64-p.over:Nat):Int),Nb 6 ((p.B+2:Nat):Int) ((p.B+2:Nat):Int) ((p.B+4:Nat):Int),Nq p.es.p (D:Nat) ((0:Nat):Int) ((p.B+2:Nat):Int),Rb 9 ((p.B+4:Nat):Int) ((p.B+3:Nat):Int) (p.over:Nat)])).cat (Nh [Nq p.es.p (-1) (p.b.k:Nat) ((p.B+4:Nat):Int)])):=by
   unfold Pw.exp Pw.expB Pw.expE;rw[Hx P,Hx P,(J:(64:Int)-(p.over:Int)=((64-p.over:Nat):Int))];rfl
  rw[e];refine .op zmn ?_;rw[bj];refine .cat (R:=λj=>(∀z,¬(p.B+2≤z∧z≤p.B+4)→z≠D→j.r z=s.r z)∧N8 p.es s.m j.m∧(j.r (p.B+4)).toNat<2^(64-p.over)∧vl (pl j.m p.es) p.b.k+18446744073709551616^p.b.k*(j.r (p.B+4)).toNat=2^(64-p.over)*vl (pl s.m p.b) p.b.k) ?_ λj ⟨G,E,_,I⟩=>?_
  ·refine .lp (λH j=>(∀z,¬(p.B+2≤z∧z≤p.B+4)→z≠D→j.r z=s.r z)∧N8 p.es s.m j.m∧(j.r (p.B+4)).toNat<2^(64-p.over)∧vl (pl j.m p.es) H+18446744073709551616^H*(j.r (p.B+4)).toNat=2^(64-p.over)*vl (pl s.m p.b) H) ⟨λz F B=>Gz,λ_ _ _=>rfl,by rw[Nc,H6 rfl,Q];exact K7 _,by rw[Nc,H6 rfl,Q];simp[vl]⟩ J (λH j hj ⟨G,E,l1,I⟩=>?_) λ_ h=>h
   have A:(UInt64.ofNat H).toNat=H:=ie J;have d2:¬D=p.B+2:=J
   have U:¬D=p.B+3:=J
   have V:¬D=p.B+4:=J
   have X:¬p.B+4=D:=J
   have hq:=or_shl (x:=pl s.m p.b H) (m:=64-p.over) J l1;rw[(J:64-(64-p.over)=p.over)]at hq;refine .op (Xr (by simp only[Nc,Jo,A];omega) M) (.op (zud J) (.op Yt (.op (ui ?_ C) (.op (Zj J) (.nil ⟨λz F B=>?_,?_,?_,?_⟩)))))
   ·simp[Nc,d2,U,V,A];omega
   ·have z2:¬z=p.B+2:=J
    have z3:¬z=p.B+3:=J
    have z4:¬z=p.B+4:=J
    simp[Nc,Su,z2,z3,z4,B];exact G z F B
   ·refine E.trans ?_;rw[Pa];refine zql rfl ?_;simp[Nc,d2,U,V,A,Pw.es];omega
   ·rw[Nc,H6 rfl,zjr];refine Nat.div_lt_of_lt_mul (Nat.lt_of_lt_of_eq (UInt64.toNat_lt _) ?_);rw[←Ku,(J:p.over+(64-p.over)=64)]
   ·have Y:pl j.m p.b H=pl s.m p.b H:=E.pl Z J;rw[Pa,Q7,Q7,Re];simp[Nc,Pa,Su,d2,U,V,X,A,Y,-UInt64.toNat_or,-UInt64.toNat_ofNat',-UInt64.ofNat_mul];rw[Wb (g:=pl j.m p.es) λi hi=>by rw[Re,Hx J];rfl,zjr,I3];exact exp_law I hq
  ·refine .op (zrm J C) (.nil ⟨λz F B=>by rw[Su,G z F B],E.trans (Wm A7),?_⟩);rw[Q7,Re,H6 rfl,Wb (g:=pl j.m p.es) λi hi=>by rw[Re,Hx J],Jt (vl (pl s.m p.b) p.b.k),←I,Jt (18446744073709551616^p.b.k)]
def uk(B:PwS sz p){D:Nat}(O:D<8)(C:s.r p.B=0)(K:(s.r (p.B+1)).toNat<9223372036854775808) :
  Tx sz (p.shift D) s λg=>(∀j,¬(p.B+1≤j∧j≤p.B+4)→j≠D→g.r j=s.r j)∧N8 p.es s.m g.m∧∃Pp:Nat,Pp≤1∧(g.r (p.B+1)).toNat=2*(s.r (p.B+1)).toNat+Pp∧vl (pl g.m p.es) (p.b.k+1)+18446744073709551616^(p.b.k+1)*Pp=2*vl (pl s.m p.es) (p.b.k+1):=by
 have P:=B.B.1;have z:p.es.in_ sz:=Yi B rfl A7;have e:p.shift D=(Nh [Q1 ((p.B+2:Nat):Int) (p.B:Nat)]).cat ((jb p.es.p ((p.b.k+1:Nat):Int) ((p.B+3:Nat):Int) ((p.B+4:Nat):Int) ((p.B+2:Nat):Int) (D:Nat)).cat (Nh [Rb 8 ((p.B+1:Nat):Int) ((p.B+1:Nat):Int) ((1:Nat):Int),Nb 6 ((p.B+1:Nat):Int) ((p.B+1:Nat):Int) ((p.B+2:Nat):Int)])):=rfl;rw[e];refine .op zmn ?_;rw[bj];refine (sh_ex (p:=p.es) (n:=p.b.k+1) (l:=p.B+3) (o:=p.B+4) (b:=p.B+2) (D:=D) z Ed J (by rw[Nc,H6 rfl,C];decide)).cat λE ⟨F,G,H,I⟩=>?_
 rw[Nc,H6 rfl,C,Pa]at I;rw[Pa]at G;have A:E.r (p.B+1)=s.r (p.B+1):=by rw[F _ J J J J,Nc,Hx J]
 refine .op (zud J) (.op Yt (.nil ⟨λj Q L=>?_,G,(E.r (p.B+2)).toNat,H,?_,?_⟩))
 ·rw[Nc,Hx J,Nc,Hx J,F j J J J L,Nc,Hx J]
 ·have M:¬p.B+2=p.B+1:=J
  simp only[Nc,Jo,Hx M,A];rw[nm H];omega
 ·rw[Pa,Pa];simpa using I
end pieces
end ex
end
section
set_option linter.unusedSimpArgs false
def zi1{c:Cf}{x:Nat}(j:¬Q4 c x)(z:¬(c.pa≤x∧x≤c.pb)):∀{f:Fr Lo} {lev:Int},0≤lev→f.AllH c lev→((x:Int)<lev∨c.hi<x)→f.noW x=true
 |.nil,_,_,_,_=>rfl
 |.op o r,lev,B,h,C=>by
  obtain⟨F,h⟩:=h;have A:=zi1 j z B h C;simp only[Fr.noW,Hz,Jq,I6];rcases F.m with ⟨m1,g,_⟩|⟨_,m1,g,_⟩
  ·refine⟨λq=>?_,λq=>?_,A⟩
   ·rw[q]at m1;rcases m1 with m1|m1
    ·omega
    ·exact j m1
   ·rw[q]at g;rcases g with g|g
    ·omega
    ·exact j g
  ·exact⟨λq=>z J,λq=>J,A⟩
 |.loop o b e r,lev,B,h,C=>by
  obtain⟨⟨G,H,_⟩,k,_,E,h⟩:=h;have A:=zi1 j z B h C;have D:=zi1 j z (lev:=lev+1) J E J;simp only[Fr.noW,Hz,Jq,I6];exact⟨J,D,A⟩
def x9(j:g%2=1)(m:Nat):2^m*((g+1)/2)^m%g=1%g:=by
 rw[←Nat.mul_pow,(J:2*((g+1)/2)=g+1),Nat.pow_mod,Nat.add_mod_left,←Nat.pow_mod,Nat.one_pow]
def znx{x y:Nat}(hi:g*A%j=1%j):(x*g%j)*(y*g%j)*A%j=x*y*g%j:=by
 have z:((x*g%j)*(y*g%j))%j=(x*g*(y*g))%j:=(Jd _ _ _).symm;rw[Jd,z,←Jd,(Cv:x*g*(y*g)*A=x*y*g*(g*A)),Jd,hi,←Jd,Kj]
def oy{x:Nat}(hi:g*A%j=1%j):(x*g%j)*1*A%j=x%j:=by
 rw[Kj,Jd,Nat.mod_mod,←Jd,Kf,Jd,hi,←Jd,Kj]
def zi{a:Nat}(hi:g*A%j=1%j):a*(g*g%j)*A%j=a*g%j:=by
 have z:(a*(g*g%j))%j=(a*(g*g))%j:=by rw[Jd,Nat.mod_mod,←Jd]
 rw[Jd,z,←Jd,(Cv:a*(g*g)*A=a*g*(g*A)),Jd,hi,←Jd,Kj]
def zxu(x y:UInt64):(Ot 0 (x ^^^ y) false).2=decide (x≠y):=by
 have h:=zcm 0 (x ^^^ y) false;have z:=(Ot 0 (x ^^^ y) false).1.toNat_lt;by_cases e:x=y
 ·subst e;have j:x ^^^ x=0:=UInt64.xor_self;rw[j]at h z ⊢;generalize Ot 0 0 false=r at *;cases g:r.2
  ·simp
  ·rw[g]at h;simp at h;omega
 ·have j:(x ^^^ y).toNat≠0:=λq=>by
   have:x ^^^ y=0:=Jh.1 q;exact e (UInt64.xor_eq_zero_iff.1 this)
  generalize Ot 0 (x ^^^ y) false=r at *;have A:(0:UInt64).toNat=0:=rfl;cases g:r.2
  ·rw[g,A]at h;simp only[Bool.toNat_false]at h;omega
  ·simp[e]
section ex
variable {sz : Nat → Nat} {s : Fs} {p : Pw}
def mc(m:Nat→Nat→UInt64)(p:Pw)(e g:Nat):pl m p.tab (e*p.k+g)=pl m (p.en e) g:=by
 unfold pl Pw.tab Pw.en;dsimp only;rw[Kg (p.wa+4*p.k+p.b.k+3)]
def zex(g:PwS sz p){E:Nat}(hE:E+1<8){d a b:Pn}(hd:d.in_ sz)(H:a.in_ sz)(I:b.in_ sz)(kd:d.k=p.k)(ka:a.k=p.k)(kb:b.k=p.k)(P:DjE d p.n)(Q:Dj d p.t)(T:Dj p.t a)(U:Dj p.t b) :
  Tx sz (p.mont d a b E) s λj=>(∀B,¬(p.B+10≤B∧B≤p.B+20)→B≠E→B≠E+1→j.r B=s.r B) ∧
   (pl s.m p.n 0%2=1→vl (pl s.m a) p.k<vl (pl s.m p.n) p.k→Fm [d,p.t] s.m j.m∧∀z,18446744073709551616^p.k*z%vl (pl s.m p.n) p.k=1%vl (pl s.m p.n) p.k→vl (pl j.m d) p.k=vl (pl s.m a) p.k*vl (pl s.m b) p.k*z%vl (pl s.m p.n) p.k):=by
 obtain⟨k,K⟩:∃k,p.k=k+1:=⟨p.k-1,by have:=g.k;omega⟩;have hB:=g.B;have C:p.t.in_ sz:=Yi g rfl (by have:=zjk p;simp only[Pw.t];omega);have tk:p.t.k=k+3:=Fb
 have V:Dj p.t p.n:=.inl g.nb.symm;have X:=g.nk;have e:p.mont d a b E=Vw d.p a.p b.p p.n.p p.t.p (k+1:Nat) ((p.B+10:Nat):Int) (E:Nat):=by unfold Pw.mont;rw[K];rfl
 rw[e];by_cases F:pl s.m p.n 0%2=1∧vl (pl s.m a) p.k<vl (pl s.m p.n) p.k
 ·rw[K]at F ⊢;refine (Z4 (k:=k) J hd H I g.n C J J J J J P Q T U V F.1 F.2).mono λj ⟨Y,Z,l1,gz,Q',v1⟩=>⟨λB G L M=>Y B J L M,λ_ _=>⟨λx y O=>Z x y (O d N) (O p.t N),λz hi=>?_⟩⟩
  exact zwj hi v1 l1
 ·have gg:=g.wk;have hz:p.t.k≤65536:=by have:=C.1;have:=C.2;omega
  have A:(Vw d.p a.p b.p p.n.p p.t.p (k+1:Nat) ((p.B+10:Nat):Int) (E:Nat)).AllH ⟨d.b+a.b+b.b+p.n.b+p.wb+1,(p.B:Int)+10,11,E,E+1,8,7,λ_=>True,λ_=>True⟩ E :=
   zil Gr ⟨Aw,trivial⟩ ⟨Aw,trivial⟩ ⟨Aw,trivial⟩ ⟨Aw,trivial⟩ ⟨by dsimp only[Pw.t];omega,trivial⟩ ⟨by dsimp only[Pw.t];omega,trivial⟩ J J Gr
  obtain⟨j,G,_⟩:=zc4 _ (λ_=>none) s (zp2 (R:=p.B+10) (D:=E) (k:=k) J J hd H I g.n C J J J J J J) (λ_ _ _ h=>Am) (λ_ _ h=>Am);refine⟨j,G,λB L M h4=>zzc _ s j (zi1 ?_ ?_ J A ?_) G,λq1 q2=>absurd ⟨q1,q2⟩ F⟩
  ·unfold Q4;dsimp only;omega
  ·dsimp only;omega
  ·dsimp only;omega
def ma(P:PwS sz p){E e:Nat}(hE:E<8)(he:e<2^p.w)(D:(s.r 12).toNat=e*p.k) :
  Tx sz ((O0 (E:Nat) (p.k:Nat) (Nh [Nk (p.B+3) p.acc.p (E:Nat) 0,Nb 3 13 12 (E:Nat),Nq p.tab.p 13 0 (p.B+3)])).cat (Nh [cK 13 (iU p.k),Nb 3 12 12 13])) s λK =>
   (∀A,A≠p.B+3→A≠12→A≠13→A≠E→K.r A=s.r A)∧N8 (p.en e) s.m K.m∧(K.r 12).toNat=(e+1)*p.k∧∀C,C<p.k→pl K.m (p.en e) C=pl s.m p.acc C:=by
 have hB:=P.B;have gg:=ztb he;have F:p.acc.in_ sz:=Yi P rfl (by have:=zjk p;simp only[Pw.acc];omega);have G:p.tab.in_ sz:=Yi P rfl En;have gz:p.acc.a+p.k≤sz p.acc.b:=F.1;have gA:p.tab.a+p.k*2^p.w≤sz p.tab.b:=G.1;have Q:=F.2;have T:=G.2;have dj:Dj (p.en e) p.acc:=.inr (.inr (by simp only[Pw.en,Pw.acc];omega));have e1:(O0 (E:Nat) (p.k:Nat) (Nh [Nk (p.B+3) p.acc.p (E:Nat) 0,Nb 3 13 12 (E:Nat),Nq p.tab.p 13 0 (p.B+3)]))=O0 (E:Nat) (p.k:Nat) (Nh [Nk ((p.B+3:Nat):Int) p.acc.p (E:Nat) ((0:Nat):Int),Nb 3 ((13:Nat):Int) ((12:Nat):Int) (E:Nat),Nq p.tab.p ((13:Nat):Int) ((0:Nat):Int) ((p.B+3:Nat):Int)]):=rfl;rw[e1];refine .cat (R:=λj=>(∀A,A≠p.B+3→A≠13→A≠E→j.r A=s.r A)∧N8 (p.en e) s.m j.m∧∀i,i<p.k→pl j.m (p.en e) i=pl s.m p.acc i) ?_ λj ⟨H,L,U⟩=>?_
 ·refine .lp (λC j=>(∀A,A≠p.B+3→A≠13→A≠E→j.r A=s.r A)∧N8 (p.en e) s.m j.m∧∀i,i<C→pl j.m (p.en e) i=pl s.m p.acc i) ⟨λ_ _ _ _=>rfl,λ_ _ _=>rfl,λ_ h=>absurd h J⟩ J (λC j hj ⟨H,L,U⟩=>?_) λ_ h=>h
  have B:(UInt64.ofNat C).toNat=C:=ie J;have V:¬E=p.B+3:=J
  have X:¬12=p.B+3:=J
  have Y:¬12=E:=J
  have n4:¬p.B+3=13:=J
  have n5:¬E=13:=J
  have g:j.r 12=s.r 12:=H 12 J J J;have z:(s.r 12+UInt64.ofNat C).toNat=e*p.k+C:=by
   rw[Jk,D,B,Iw J]
  have Z:pl j.m p.acc C=pl s.m p.acc C:=L.pl dj hj;refine .op (Xr (by simp only[Nc,Jo,B];omega) Q) (.op zdq (.op (ui (by simp only[Nc,Jo,Hx V,Hx X,Hx Y,g,z];omega) T) (.nil ⟨λA M O I=>?_,?_,λi hi=>?_⟩)))
  ·rw[Su,Nc,Hx O,Nc,Hx M,Nc,Hx I,H A M O I]
  ·refine L.trans λx y hn=>?_
   simp only[Nc,Pa,Jo,Hx V,Hx X,Hx Y,g,z,Y1,Iz];rw[Hx];rintro⟨q1,q2⟩;exact hn ⟨by rw[q1];rfl,Gf,Gf⟩
  ·rw[←mc,Re];simp only[Nc,Pa,Jo,Hx V,Hx X,Hx Y,Hx n4,g,z,B,Iz];split
   ·rename_i q;have:i=C:=J
    rw[this];exact Z
   ·rw[mc];exact U i J
 ·have gC:iU (p.k:Int)=UInt64.ofNat p.k:=by
   apply Jh.1;rw[Vu J,ie J]
  have e2:[cK 13 (iU p.k),Nb 3 12 12 13]=[cK ((13:Nat):Int) (iU p.k),Nb 3 ((12:Nat):Int) ((12:Nat):Int) ((13:Nat):Int)]:=rfl;rw[e2];refine .op V6 (.op zdq (.nil ⟨λA M O I h4=>?_,L,?_,U⟩))
  ·rw[Nc,Hx O,Nc,Hx I,H A M I h4]
  ·have g:j.r 12=s.r 12:=H 12 J J J;simp only[Nc,Jo,(J:¬(12:Nat)=13),Lp];rw[g,Jk,D,Vu J,Ix,Kb,Iw J]
def scan_ex(Z:PwS sz p){D:Nat}(hD:D+1<8)(hz:s.r p.B=0) :
  Tx sz (p.scan D) s λs'=>(∀j,¬(p.B+3≤j∧j≤p.B+6)→j≠12→j≠13→j≠D→j≠D+1→s'.r j=s.r j)∧N8 p.cur s.m s'.m ∧
   ((s.r (p.B+1)).toNat<2^p.w→∀E,E<p.k→pl s'.m p.cur E=pl s.m (p.en (s.r (p.B+1)).toNat) E):=by
 have hB:=Z.B;have gA:=zay Z.w.2;have Q:p.cur.in_ sz:=Yi Z rfl (by have:=zjk p;simp only[Pw.cur];omega);have T:p.tab.in_ sz:=Yi Z rfl En;have gC:p.cur.a+p.k≤sz p.cur.b:=Q.1;have gD:p.tab.a+p.k*2^p.w≤sz p.tab.b:=T.1;have U:=Q.2;have gg:=T.2;have gE:=zjk p;obtain⟨z,L⟩:∃z,(s.r (p.B+1)).toNat=z:=⟨_,rfl⟩;have e:p.scan D=(Nh [cK ((12:Nat):Int) 0]).cat (O0 (D:Nat) (2^p.w:Nat) ((Nh [Nb 7 ((p.B+5:Nat):Int) ((p.B+1:Nat):Int) (D:Nat),Ny 12 ((p.B+4:Nat):Int) ((p.B+5:Nat):Int) (p.B:Nat) ((p.B+5:Nat):Int) (p.B:Nat)]).cat ((O0 ((D+1:Nat):Int) (p.k:Nat) (Nh [Nb 3 ((13:Nat):Int) ((12:Nat):Int) ((D+1:Nat):Int),Nk ((p.B+3:Nat):Int) p.tab.p ((13:Nat):Int) ((0:Nat):Int),Nk ((p.B+6:Nat):Int) p.cur.p ((D+1:Nat):Int) ((0:Nat):Int),Og ((p.B+3:Nat):Int) ((p.B+5:Nat):Int) ((p.B+6:Nat):Int) ((p.B+3:Nat):Int),Nq p.cur.p ((D+1:Nat):Int) ((0:Nat):Int) ((p.B+3:Nat):Int)])).cat (Nh [cK ((13:Nat):Int) (iU p.k),Nb 3 ((12:Nat):Int) ((12:Nat):Int) ((13:Nat):Int)])))):=rfl;rw[e,L];refine .op V6 ?_;rw[bj];refine .lp (λf g=>(∀j,¬(p.B+3≤j∧j≤p.B+6)→j≠12→j≠13→j≠D→j≠D+1→g.r j=s.r j)∧N8 p.cur s.m g.m∧(g.r 12).toNat=f*p.k∧(z<f→∀E,E<p.k→pl g.m p.cur E=pl s.m (p.en z) E)) ⟨λj _ F _ _ _=>by rw[Nc,Hx F],λ_ _ _=>rfl,by rw[Nc,H6 rfl];simp,λh=>absurd h J⟩ J (λf g hf ⟨g1,o1,r1,v1⟩=>?_) λg ⟨a,b,_,d⟩=>⟨a,b,d⟩
 have gF:=ztb (p:=p) hf;have V:(UInt64.ofNat f).toNat=f:=ie J;have dj:Dj p.cur (p.en f):=.inr (.inl (by simp only[Pw.en,Pw.cur];omega));refine .op ci (.op zjg ?_);rw[bj];have b0:¬p.B=p.B+5:=J
 have b1:¬p.B=D:=J
 have b2:¬p.B+1=D:=J
 have b3:¬p.B+5=p.B+4:=J
 have z1:g.r p.B=0:=by rw[g1 p.B J J J J J,hz]
 have d1:g.r (p.B+1)=s.r (p.B+1):=g1 _ J J J J J;obtain⟨H,B⟩:∃H,H=((((g.put D (UInt64.ofNat f)).put (p.B+5) ((g.put D (UInt64.ofNat f)).r (p.B+1) ^^^ (g.put D (UInt64.ofNat f)).r D)).put (p.B+4) (Ot (((g.put D (UInt64.ofNat f)).put (p.B+5) ((g.put D (UInt64.ofNat f)).r (p.B+1) ^^^ (g.put D (UInt64.ofNat f)).r D)).r p.B) (((g.put D (UInt64.ofNat f)).put (p.B+5) ((g.put D (UInt64.ofNat f)).r (p.B+1) ^^^ (g.put D (UInt64.ofNat f)).r D)).r (p.B+5)) (decide (((g.put D (UInt64.ofNat f)).put (p.B+5) ((g.put D (UInt64.ofNat f)).r (p.B+1) ^^^ (g.put D (UInt64.ofNat f)).r D)).r p.B%2=1))).1).put (p.B+5) (Oh (Ot (((g.put D (UInt64.ofNat f)).put (p.B+5) ((g.put D (UInt64.ofNat f)).r (p.B+1) ^^^ (g.put D (UInt64.ofNat f)).r D)).r p.B) (((g.put D (UInt64.ofNat f)).put (p.B+5) ((g.put D (UInt64.ofNat f)).r (p.B+1) ^^^ (g.put D (UInt64.ofNat f)).r D)).r (p.B+5)) (decide (((g.put D (UInt64.ofNat f)).put (p.B+5) ((g.put D (UInt64.ofNat f)).r (p.B+1) ^^^ (g.put D (UInt64.ofNat f)).r D)).r p.B%2=1))).2)):=⟨_,rfl⟩;rw[←B];have m2:H.m=g.m:=by rw[B];rfl
 have g2:∀j,j≠p.B+4→j≠p.B+5→j≠D→H.r j=g.r j:=λj P F I=>by rw[B];simp only[Nc,Hx P,Hx F,Hx I]
 have u2:H.r (p.B+5)=Oh (decide (z≠f)):=by
  rw[B];simp only[Nc,Jo,Hx b0,Hx b1,Hx b2,z1,d1];rw[(Ad:decide ((0:UInt64)%2=1)=false),zxu]
  congr 1
  refine decide_eq_decide.2 (not_congr ⟨λq=>?_,λq=>?_⟩)
  ·rw[←L,q,V]
  ·exact Jh.1 (by rw[L,V,q])
 clear B;refine .cat (R:=λA=>(∀j,¬(p.B+3≤j∧j≤p.B+6)→j≠13→j≠D+1→A.r j=H.r j)∧N8 p.cur s.m A.m∧∀i,i<p.k→pl A.m p.cur i=if z=f then pl s.m (p.en z) i else pl g.m p.cur i) ?_ λA ⟨X,o3,v3⟩=>?_
 ·refine .lp (λE A=>(∀j,¬(p.B+3≤j∧j≤p.B+6)→j≠13→j≠D+1→A.r j=H.r j)∧A.r (p.B+5)=H.r (p.B+5)∧N8 p.cur s.m A.m∧∀i,i<p.k→pl A.m p.cur i=if z=f∧i<E then pl s.m (p.en z) i else pl g.m p.cur i) ⟨λ_ _ _ _=>rfl,rfl,λx y hn=>by rw[m2,o1 x y hn],λi _=>by rw[m2,Hx J]⟩ J (λE A Y ⟨X,u3,o3,v3⟩=>?_) λA ⟨a,_,b,d⟩=>⟨a,b,λi hi=>by rw[d i hi];by_cases q:z=f<;>simp[q,hi]⟩
  have C:(UInt64.ofNat E).toNat=E:=ie J;have n1:¬12=D+1:=J
  have n2:¬D+1=13:=J
  have n3:¬13=p.B+3:=J
  have n4:¬D+1=p.B+3:=J
  have n5:¬D+1=p.B+6:=J
  have n6:¬p.B+5=p.B+6:=J
  have n7:¬p.B+5=p.B+3:=J
  have n8:¬p.B+5=13:=J
  have n9:¬p.B+5=D+1:=J
  have gz:¬p.B+3=p.B+6:=J
  have G:A.r 12=g.r 12:=by rw[X 12 J J J,g2 12 J J J]
  have K:(g.r 12+UInt64.ofNat E).toNat=f*p.k+E:=by
   rw[Jk,r1,C,Iw J]
  refine .op zdq (.op (Xr (by simp only[Nc,Jo,Hx n1,G,K];omega) gg) (.op (Xr (by simp only[Nc,Jo,Hx n2,Hx n4,C];omega) U) (.op zo8 (.op (ui (by simp only[Nc,Jo,Hx n2,Hx n4,Hx n5,C];omega) U) (.nil ⟨λj P F I=>?_,?_,?_,λi hi=>?_⟩)))))
  ·rw[Su,Nc,Hx J,Nc,Hx J,Nc,Hx J,Nc,Hx F,Nc,Hx I,X j P F I]
  ·simp only[Su,Nc,Hx n6,Hx n7,Hx n8,Hx n9];exact u3
  ·refine o3.trans (zql rfl ?_);simp only[Nc,Jo,Hx n2,Hx n4,Hx n5,C,Pw.cur];omega
  ·rw[Re];simp only[Nc,Pa,Jo,Hx n1,Hx n2,Hx n4,Hx n5,Hx n6,Hx n7,Hx n8,Hx n9,Hx gz,G,K,C,Iz,u3,u2];by_cases q:i=E
   ·rw[H6 q,q];have hb:=mm (decide (z≠f));by_cases M:z=f
    ·have O:¬Oh (decide (z≠f))%2=1:=by simp[M,Oh]
     rw[Hx O,H6 ⟨M,J⟩,mc,o3.pl dj Y,M]
    ·have O:Oh (decide (z≠f))%2=1:=by simp[M,Oh]
     rw[H6 O,Hx J,v3 E Y,Hx J]
   ·rw[Hx q,v3 i hi];by_cases M:z=f∧i<E
    ·rw[H6 M,H6 J]
    ·rw[Hx M,Hx J]
 ·refine .op V6 (.op zdq (.nil ⟨λj P F I h4 h5=>?_,o3,?_,λgG E Y=>?_⟩))
  ·rw[Nc,Hx F,Nc,Hx I,X j P I h5,g2 j J J h4,g1 j P F I h4 h5]
  ·have G:A.r 12=g.r 12:=by rw[X 12 J J J,g2 12 J J J]
   simp only[Nc,Jo,(J:¬(12:Nat)=13),Lp];rw[G,Jk,r1,Vu J,Ix,Kb,Iw J]
  ·rw[Pa,Pa,v3 E Y];split
   ·rfl
   ·exact v1 J E Y
end ex
end
end Go.Sv
