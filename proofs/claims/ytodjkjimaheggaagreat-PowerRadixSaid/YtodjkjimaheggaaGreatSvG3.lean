/- Texts of the evaluator, of the logic over it, of plain arithmetic. -/
import Derived.Test.YtodjkjimaheggaaGreatSvG2
set_option linter.unusedSimpArgs false
set_option linter.defProp false
namespace Go.Sv
variable{g j A D T vU vM vA:Nat}{z B:Int}{Q:Bool}{U vF:UInt64}{vQ:Type}{vO:List Int}{vg:List Nat}
def zue{j:Type}{f:j→List LV}{k:Nat}(g:∀a,(f a).length=k):∀l:List j,(l.flatMap f).length=l.length*k
 |[]=>N
 |a::l=>by rw[Lh,H8,zue g l,g,Ig,Iv];omega
def zxt{j:Type}{f:j→List LV}{k:Nat}(g:∀a,(f a).length=k):∀(l:List j) (i:Nat),(l.flatMap f).drop (i*k)=(l.drop i).flatMap f
 |_,0=>N
 |[],i+1=>N
 |a::l,i+1=>by
  rw[Lh,List.drop_append,g,show (i+1)*k-k=i*k by rw[Iv];omega,zxt g l i];rw[J0 (by rw[g,Iv];omega)];rfl
def zg5{f:vQ→List LV}{k:Nat}(g:∀a,(f a).length=k){l:List vQ}{i:Nat}{a:vQ}(h:l[i]?=some a):((l.flatMap f).drop (i*k)).take k=f a:=by
 rw[zxt g];obtain⟨hi,rfl⟩:=Hu.1 h;rw[Jo hi,Lh,Md (by rw[g];exact H9 _),Ij (by rw[g];exact H9 _)]
def zs5{f:vQ→List LV}{k:Nat}(g:∀a,(f a).length=k){l:List vQ}{i:Nat}{a:vQ}(h:l[i]?=some a){j:Nat}(z:j<k):(l.flatMap f)[i*k+j]?=(f a)[j]?:=by
 rw[←Mt,←zg5 g h,J3 z]
def ze8{j:Type}{f:j→List LV}(g:∀a,dats (f a)=true):∀l:List j,dats (l.flatMap f)=true
 |[]=>rfl
 |a::l=>by rw[Lh];exact dats_app (g a) (ze8 g l)
def Wz{f:vQ→List LV}{k:Nat}(g:∀a,(f a).length=k){l:List vQ}{i:Nat}(h:i<l.length):i*k+k≤(l.flatMap f).length:=by
 rw[zue g,←Lz];exact Ii _ h
structure Vr where
 limbs:Int
 sec:Bool
 mode:Int
structure Ko where
 kind:Int
 d:Int
 e:Int
 a:Int
 b:Int
 c:Int
 imm:UInt64
def Vr.f(v:Vr):List LV:=[.i v.limbs,.bool v.sec,.i v.mode]
def Ko.f(o:Ko):List LV:=[.i o.kind,.i o.d,.i o.e,.i o.a,.i o.b,.i o.c,.u o.imm]
def Pz(l:List Vr):List LV:=l.flatMap Vr.f
def Uk(l:List Ko):List LV:=l.flatMap Ko.f
def Vr.f_len(v:Vr):v.f.length=3:=rfl
def Ko.f_len(o:Ko):o.f.length=7:=rfl
def s9(l:List Ko):(Uk l).length=l.length*7:=zue Ko.f_len l
def T6(l:List Vr):dats (Pz l)=true:=ze8 (λ_=>rfl) l
def zcu(l:List Ko):dats (Uk l)=true:=ze8 (λ_=>rfl) l
def zf3{l:List Vr}{i:Nat}{v:Vr}(h:l[i]?=some v):((Pz l).drop (i*3)).take 3=v.f:=zg5 Vr.f_len h
def zvo{l:List Ko}{i:Nat}{v:Ko}(h:l[i]?=some v):((Uk l).drop (i*7)).take 7=v.f:=zg5 Ko.f_len h
def zps{l:List Vr}{i:Nat}{v:Vr}(h:l[i]?=some v):(Pz l)[i*3]?=some (.i v.limbs):=by have:=zs5 Vr.f_len h (j:=0) J;simpa [Pz,Vr.f] using this
def zvu{l:List Vr}{i:Nat}{v:Vr}(h:l[i]?=some v):(Pz l)[i*3+1]?=some (.bool v.sec):=by have:=zs5 Vr.f_len h (j:=1) J;simpa [Pz,Vr.f] using this
def vs_at2{l:List Vr}{i:Nat}{v:Vr}(h:l[i]?=some v):(Pz l)[i*3+2]?=some (.i v.mode):=by have:=zs5 Vr.f_len h (j:=2) J;simpa [Pz,Vr.f] using this
def zt6{l:List Vr}{i:Nat}(h:i<l.length):i*3+3≤(Pz l).length:=Wz Vr.f_len h
def os_lt{l:List Ko}{i:Nat}(h:i<l.length):i*7+7≤(Uk l).length:=Wz Ko.f_len h
def gv(l:List Vr)(n:Nat):Vr:=l.getD n ⟨0,false,0⟩
def go(l:List Ko)(n:Nat):Ko:=l.getD n ⟨0,0,0,0,0,0,0⟩
def gb(l:List Bool)(n:Nat):Bool:=l.getD n false
def Vl{l:List Vr}{n:Nat}(h:n<l.length):l[n]?=some (gv l n):=by simp[gv,Hy,h]
def zze{l:List Ko}{n:Nat}(h:n<l.length):l[n]?=some (go l n):=by simp[go,Hy,h]
def at_gb{l:List Bool}{n:Nat}(h:n<l.length):l[n]?=some (gb l n):=by simp[gb,Hy,h]
def ztm{l:List Vr}{n:Nat}(h:n<l.length):l.drop n=gv l n::l.drop (n+1):=by
 rw[Jo h];congr 1;have:=Vl h;rw[H6 h]at this;exact Option.some.inj this
def vq{l:List Ko}{n:Nat}(h:n<l.length):l.drop n=go l n::l.drop (n+1):=by
 rw[Jo h];congr 1;have:=zze h;rw[H6 h]at this;exact Option.some.inj this
def R9(v:Vr):Bool:=decide (v.mode=1) || decide (v.mode=2)
def rz(v:Vr):Bool:=decide (v.limbs<1) || (decide (512<v.limbs) || (decide (v.mode<0) || decide (3<v.mode)))
def V3:Nat→Nat→List Vr→Option Nat
 |_,p,[]=>some p
 |i,p,v::l=>if rz v=true then none else if v.mode=0 then V3 (i+1) p l else if p<i∨v.sec=decide (v.mode=1) then none else V3 (i+1) (p+1) l
def Sm(l:List Vr):Bool:=match V3 0 0 l with
 |none=>false
 |some p=>decide (1≤l.length)&&(decide (l.length≤256)&&decide (p≤12))
def ax(n:Nat)(v:Int):Bool:=decide (0≤v)&&decide (v<n)
def Xh(n:Nat)(o:Ko):Bool :=
 decide (o.d=-1)&&(decide (o.e=-1)&&(decide (o.c=-1)&&(ax n o.a&&(if o.imm=2 then ax n o.b else (decide (o.imm=1) || decide (o.imm=3))&&decide (o.b=-1)))))
def Rk(k:Int):Option Nat :=
 if k=1 then some 1 else if k=2 then some 5 else if k=3∨k=4∨k=5∨k=6∨k=7 then some 13 else if k=8∨k=10∨k=11∨k=12∨k=13 then some 29 else if k=9 then some 21 else if k=14 then some 19 else if k=15∨k=16 then some 0 else none
def Su(o:Ko):Bool:=if o.kind=1 then true else if o.kind=13 then decide (1≤o.imm)&&decide (o.imm≤6) else if o.kind=15 then decide (1≤o.imm)&&decide (o.imm≤4096) else decide (o.imm=0)
def T8(n s i:Nat)(v:Int):Bool:=if s.testBit i=true then ax n v else decide (v=-1)
def U6(n s:Nat)(o:Ko):Bool:=T8 n s 0 o.d&&(T8 n s 1 o.e&&(T8 n s 2 o.a&&(T8 n s 3 o.b&&T8 n s 4 o.c)))
def Tw(o:Ko):List Int:=[o.a,o.b,o.c].filter (λv=>!decide (v<0))++if o.kind=14 then [o.d,o.e] else []
def Re(g:List Vr)(o:Ko):Bool:=(Tw o).any λv=>(gv g v.toNat).sec
def Wc(j:List Vr)(g:Bool)(v:Int):Bool:=decide (v<0) || !(R9 (gv j v.toNat) || (g && !(gv j v.toNat).sec))
def Rz(o:Ko):List Int :=
 if o.kind=6 then [o.a,o.b] else if o.kind=14 then [o.d,o.e] else if o.kind=8 then [o.d,o.a,o.b] else if o.kind=9 then [o.d,o.c] else if o.kind=10∨o.kind=11∨o.kind=12 then [o.d,o.a,o.b,o.c] else if o.kind=13 then [o.d,o.a,o.c] else []
def Rq(vs:List Vr)(v:Int):Int:=(gv vs v.toNat).limbs
def sk(g:List Vr)(o:Ko):Bool:=(Rz o).all λv=>decide (Rq g v=Rq g ((Rz o).headD 0))
def Pg(vs:List Vr)(o:Ko):Bool :=
 if o.kind=17 then Xh vs.length o else match Rk o.kind with
 |none=>false
 |some s=>Su o&&(U6 vs.length s o&&(Wc vs (Re vs o) o.d&&(Wc vs (Re vs o) o.e&&((decide (o.e<0) || !decide (o.d=o.e))&&sk vs o))))
def dl(k:Int):Int:=if k=15 then 1 else if k=16 then -1 else 0
def Xk(m:List Bool)(o:Ko):List Bool:=if 0≤o.d then m.set o.d.toNat true else m
def zgo(m:List Bool)(o:Ko):Bool:=(Tw o).all λv=>gb m v.toNat
def U1(j:List Vr):List Bool→Int→List Ko→Option (List Bool×Int)
 |m,g,[]=>some (m,g)
 |m,g,o::l=>if (Pg j o&&(zgo m o&&(decide (0≤g+dl o.kind)&&decide (g+dl o.kind≤4))))=true then U1 j (Xk m o) (g+dl o.kind) l else none
def Uz(g:List Vr)(v:Int):Bool:=decide (0≤v)&&decide ((gv g v.toNat).mode=3)
def Tc(g:List Vr)(o:Ko):Bool:=decide (o.kind=17)&&(Xh g.length o&&(!Uz g o.a && !Uz g o.b))
def sp(g:List Vr)(m:List Bool):Bool:=(List.range g.length).all λi=>!decide ((gv g i).mode=3) || gb m i
def dh(g:List Vr):List Bool:=g.map R9
def Sk(g:List Vr)(j z:List Ko):Bool :=
 Sm g&&(decide (j.length≤4096)&&(decide (z.length≤4096)&&(z.all (Tc g)&&(match U1 g (dh g) 0 j with
  |none=>false
  |some (m,A)=>sp g m&&decide (A=0)))))
def Ur(g:List Vr)(j z:List Ko):Int:=if Sk g j z=true then 0 else 2
def zod{p:Int→Bool}{l:List Int}{j:Nat}(h:j<l.length):(l.take (j+1)).filter (λv=>!p v)=(l.take j).filter (λv=>!p v)++if p (gd l j)=true then [] else [gd l j]:=by
 have e:l[j]=gd l j:=by simp[gd,Hy,h]
 rw[Jm h,List.filter_append,e]
 congr 1
 cases g:p (gd l j)<;>simp[g]
def bm(p:Int→Bool)(l:List Int):(gf p l=-1∧l.filter (λv=>!p v)=l)∨∃i:Nat,gf p l=i∧i<l.length∧(l.take (i+1)).filter (λv=>!p v)=l.take i:=by
 unfold gf;by_cases h:l.findIdx p<l.length
 ·rw[H7 h];refine .inr ⟨_,rfl,h,?_⟩;have j:p l[l.findIdx p]=true:=List.findIdx_getElem;have e:l[l.findIdx p]=gd l (l.findIdx p):=by simp[gd,Hy,h]
  rw[zod h,←e,H7 j,Ji,List.filter_eq_self];intro a g;obtain⟨B,z,rfl⟩:=Kb.1 g;rw[List.getElem_take];rw[Kc]at z;have:=List.not_of_lt_findIdx (p:=p) (xs:=l) (i:=B) J;simpa using this
 ·rw[Hv h];refine .inl ⟨rfl,?_⟩;rw[List.filter_eq_self];intro a g;have A:=List.findIdx_eq_length.1 (Dx:l.findIdx p=l.length);simp[A a g]
def zsn{c:List Int}{i j:Nat}{x:Int}(h:i<c.length)(g:i<j)(u:Nat)(hu:j≤u):gd (c.set i x) u=gd c u:=by
 rw[gd_set _ _ _ _ h,Hv J]
def zna{c:List Int}{i:Nat}{x:Int}(h:i<c.length):(c.set i x).take (i+1)=c.take i++[x]:=by
 rw[Jm At,List.getElem_set_self,List.take_set_of_le (H9 _)]
def z5n{n:Nat}{v:Int}:ax n v=true↔0≤v∧v<n:=by simp[ax]
def zc9{n s i:Nat}{v:Int}(h:T8 n s i v=true):v=-1∨(0≤v∧v<n):=by
 unfold T8 at h;split at h
 ·exact .inr (z5n.1 h)
 ·exact .inl (Kr h)
def Um{n s i:Nat}{v:Int}(h:T8 n s i v=true)(g:s.testBit i=true):0≤v∧v<n:=by
 rw[T8,H7 g]at h;exact z5n.1 h
def zjm{n s i:Nat}{v:Int}(h:T8 n s i v=true)(g:s.testBit i=false):v=-1:=by
 rw[T8,Hv Ba]at h;exact Kr h
def zjh{k:Int}{s:Nat}(h:Rk k=some s):(k=1∧s=1)∨(k=2∧s=5)∨((k=3∨k=4∨k=5∨k=6∨k=7)∧s=13)∨((k=8∨k=10∨k=11∨k=12∨k=13)∧s=29)∨(k=9∧s=21)∨(k=14∧s=19)∨((k=15∨k=16)∧s=0):=by
 unfold Rk at h
 repeat' split at h
 all_goals first|(cases h;done)|(cases h;simp_all)
structure PartsIn (n:Nat) (o:Ko):Prop where
 d:o.d=-1∨(0≤o.d∧o.d<n)
 e:o.e=-1∨(0≤o.e∧o.e<n)
 takes:∀v∈Tw o,0≤v∧v<n
 alike:∀v∈Rz o,0≤v∧v<n
 swap:o.kind=14→o.a=-1∧o.b=-1
def zui{n s:Nat}{o:Ko}(E:Rk o.kind=some s)(h:U6 n s o=true):PartsIn n o:=by
 simp only[U6,Hw]at h;obtain⟨hd,he,A,B,C⟩:=h;have z:∀v∈[o.a,o.b,o.c].filter (λv=>!decide (v<0)),0≤v∧v<n:=by
  intro v hv;obtain⟨j,F⟩:=List.mem_filter.1 hv;simp at F;simp only[If,J2,Lu]at j;rcases j with rfl|rfl|rfl
  ·rcases zc9 A with e|e<;>omega
  ·rcases zc9 B with e|e<;>omega
  ·rcases zc9 C with e|e<;>omega
 have G:=zjh E;refine⟨zc9 hd,zc9 he,λv hv=>?_,λv hv=>?_,λD=>?_⟩
 ·rcases Ip.1 hv with j|j
  ·exact z v j
  ·split at j
   ·rename_i D;have g:s=19:=J
    subst g;simp only[If,J2,Lu]at j;rcases j with rfl|rfl
    ·exact Um hd Ac
    ·exact Um he Ac
   ·cases j
 ·unfold Rz at hv;split at hv
  ·have g:s=13:=J
   subst g;simp only[If,J2,Lu]at hv;rcases hv with rfl|rfl
   ·exact Um A Ac
   ·exact Um B Ac
  split at hv
  ·have g:s=19:=J
   subst g;simp only[If,J2,Lu]at hv;rcases hv with rfl|rfl
   ·exact Um hd Ac
   ·exact Um he Ac
  split at hv
  ·have g:s=29:=J
   subst g;simp only[If,J2,Lu]at hv;rcases hv with rfl|rfl|rfl
   ·exact Um hd Ac
   ·exact Um A Ac
   ·exact Um B Ac
  split at hv
  ·have g:s=21:=J
   subst g;simp only[If,J2,Lu]at hv;rcases hv with rfl|rfl
   ·exact Um hd Ac
   ·exact Um C Ac
  split at hv
  ·have g:s=29:=J
   subst g;simp only[If,J2,Lu]at hv;rcases hv with rfl|rfl|rfl|rfl
   ·exact Um hd Ac
   ·exact Um A Ac
   ·exact Um B Ac
   ·exact Um C Ac
  split at hv
  ·have g:s=29:=J
   subst g;simp only[If,J2,Lu]at hv;rcases hv with rfl|rfl|rfl
   ·exact Um hd Ac
   ·exact Um A Ac
   ·exact Um C Ac
  ·cases hv
 ·have g:s=19:=J
  subst g;exact⟨zjm A Ac,zjm B Ac⟩
def zyz{n:Nat}{o:Ko}(C:o.kind=17)(h:Xh n o=true):PartsIn n o:=by
 simp only[Xh,Hw,Ib]at h;obtain⟨hd,he,D,j,g⟩:=h;have j:=z5n.1 j;have g:o.b=-1∨(0≤o.b∧o.b<n):=by
  split at g
  ·exact .inr (z5n.1 g)
  ·simp only[Hw,Ib]at g;exact .inl g.2
 refine⟨.inl hd,.inl he,λv hv=>?_,λv hv=>?_,λA=>J⟩
 ·unfold Tw at hv;rw[Hv J,Ji]at hv;obtain⟨z,B⟩:=List.mem_filter.1 hv;simp at B;simp only[If,J2,Lu]at z;rcases z with rfl|rfl|rfl
  ·omega
  ·rcases g with e|e<;>omega
  ·omega
 ·unfold Rz at hv;rw[Hv J,Hv J,Hv J,Hv J,Hv J,Hv J]at hv;cases hv
def m7{g:List Vr}{o:Ko}(h:Pg g o=true):PartsIn g.length o:=by
 unfold Pg at h;split at h
 ·rename_i j;exact zyz j h
 ·split at h
  ·cases h
  ·rename_i s z;simp only[Hw]at h;exact zui z h.2.1
def Xt(o:Ko):List Int:=[o.d,o.e,o.a,o.b,o.c]
def zxd{n s:Nat}{o:Ko}(h:∀g<5,T8 n s g (gd (Xt o) g)=true):U6 n s o=true:=by
 simp only[U6,Hw];exact⟨h 0 J,h 1 J,h 2 J,h 3 J,h 4 J⟩
def zyc{n s:Nat}{o:Ko}(z:g<5)(h:T8 n s g (gd (Xt o) g)=false):U6 n s o=false:=by
 cases j:U6 n s o with
 |false=>rfl
 |true =>
  simp only[U6,Hw]at j;have:g=0∨g=1∨g=2∨g=3∨g=4:=J
  rcases this with rfl|rfl|rfl|rfl|rfl
  ·exact absurd j.1 (by rw[show o.d=gd (Xt o) 0 from rfl,h];simp)
  ·exact absurd j.2.1 (by rw[show o.e=gd (Xt o) 1 from rfl,h];simp)
  ·exact absurd j.2.2.1 (by rw[show o.a=gd (Xt o) 2 from rfl,h];simp)
  ·exact absurd j.2.2.2.1 (by rw[show o.b=gd (Xt o) 3 from rfl,h];simp)
  ·exact absurd j.2.2.2.2 (by rw[show o.c=gd (Xt o) 4 from rfl,h];simp)
def di{k:Int}{s:Nat}(h:Rk k=some s):s<32:=by rcases zjh h with h|h|h|h|h|h|h<;>omega
def jq(s i:Nat):((s:Int)/2^i%2=1)↔s.testBit i=true:=by
 rw[Ly,Ib];constructor
 ·intro h;have:((s/2^i%2:Nat):Int)=1:=by push_cast;exact h
  omega
 ·intro h;have:((s/2^i%2:Nat):Int)=1:=J
  push_cast at this;exact this
variable{vz:List Vr}
section
inductive Fr (α:Type) where
 |nil
 |op (o:α) (r:Fr α)
 |loop (o:α) (b:Fr α) (e:α) (r:Fr α)
section tree
variable {α : Type}
def Fr.flat:Fr α→List α
 |.nil=>[]
 |.op o r=>o::r.flat
 |.loop o b e r=>o::(b.flat++e::r.flat)
def Fr.size:Fr α→Nat
 |.nil=>0
 |.op _ r=>r.size+1
 |.loop _ b _ r=>b.size+r.size+2
def Fr.flat_len:∀f:Fr α,f.flat.length=f.size
 |.nil=>rfl
 |.op _ r=>by simp[flat,size,flat_len r]
 |.loop _ b _ r=>by simp[flat,size,flat_len b,flat_len r];omega
def Fr.wf(kd:α→Nat):Fr α→Prop
 |.nil=>True
 |.op o r=>kd o=0∧r.wf kd
 |.loop o b e r=>kd o=1∧kd e=2∧b.wf kd∧r.wf kd
def Vm(g:α→Nat):Nat→List α→Prop
 |d,[]=>d=0
 |d,o::l=>if g o=1 then Vm g (d+1) l else if g o=2 then 0<d∧Vm g (d-1) l else g o=0∧Vm g d l
def Fr.ends:Nat→Fr α→List Int
 |_,.nil=>[]
 |i,.op _ r=>-1::r.ends (i+1)
 |i,.loop _ b _ r=>((i+b.size+1:Nat):Int)::(b.ends (i+1)++(i:Int)::r.ends (i+b.size+2))
def Fr.ends_len:∀(f:Fr α) (i:Nat),(f.ends i).length=f.size
 |.nil,_=>rfl
 |.op _ r,i=>by simp[ends,size,ends_len r]
 |.loop _ b _ r,i=>by simp[ends,size,ends_len b,ends_len r];omega
end tree
def kdK(o:Ko):Nat:=if o.kind=15 then 1 else if o.kind=16 then 2 else 0
end
abbrev Sp:=Int×Int
def Fr.tops{α:Type}:Nat→Fr α→List Sp
 |_,.nil=>[]
 |i,.op _ r=>r.tops (i+1)
 |i,.loop _ b _ r=>((i:Int),((i+b.size+1:Nat):Int))::r.tops (i+b.size+2)
def gs(l:List Sp)(n:Nat):Sp:=l.getD n (0,0)
structure Left (os:List Ko) (es:List Int) (T0:List Sp) (i:Nat) (r:Fr Ko) (T:List Sp):Prop where
 os:os.drop i=r.flat
 es:es.drop i=r.ends i
 wf:r.wf kdK
 tops:T0=T++r.tops i
def Yq(k d:Int):Ko:=⟨k,d,-1,-1,-1,-1,0⟩
def Vc:Nat→List Vr→List Ko
 |_,[]=>[]
 |i,v::l=>if R9 v=true then Vc (i+1) l else Yq 1 i::Vc (i+1) l
def startOs_len:∀(l:List Vr) (i:Nat),(Vc i l).length≤l.length
 |[],_=>by simp[Vc]
 |v::l,i=>by
  have:=startOs_len l (i+1);unfold Vc;split<;>simp<;>omega
def zq5(k:Int):Bool:=decide (k=15) || decide (k=16)
def T1(g:List Vr)(o:Ko):Bool:=!zq5 o.kind&&Sk g (Vc 0 g++[o]) []
def Z5(A:List Vr):∀(B g:List Ko) (m j:List Bool) (d z:Int),U1 A m d B=some (j,z)→U1 A m d (B++g)=U1 A j z g
 |[],g,m,j,d,z,h=>Bz
 |o::B,g,m,j,d,z,h=>by
  unfold U1 at h;split at h
  ·rename_i C;rw[I4,U1,H7 C];exact Z5 A B g _ j _ z h
  ·cases h
def cy{i:Nat}(h:i<vz.length)(g:R9 (gv vz i)=false):Pg vz (Yq 1 i)=true:=by
 have e:ax vz.length (i:Int)=true:=z5n.2 ⟨J,J⟩;have j:Nat.testBit 1 1=false:=Ac
 have z:Nat.testBit 1 2=false:=Ac
 have A:Nat.testBit 1 3=false:=Ac
 have B:Nat.testBit 1 4=false:=Ac
 simp[Pg,Yq,Rk,Su,U6,T8,e,Wc,g,Re,Tw,sk,Rz,j,z,A,B]
def X3(m:List Bool)(i g:Nat)(hi:i<m.length):gb (m.set i true) g=if g=i then true else gb m g:=by
 unfold gb;rw[Hy,Hy,Mw];by_cases h:i=g
 ·subst h;simp[hi]
 ·rw[Hv h,Hv (λq=>h q.symm)]
def zet{g:List Vr}:∀(l:List Vr) (i:Nat) (m:List Bool),g.drop i=l→m.length=g.length→(∀j,j<i→gb m j=true)→(∀j,i≤j→j<g.length→gb m j=R9 (gv g j)) →
  ∃A,U1 g m 0 (Vc i l)=some (A,0)∧A.length=g.length∧∀j,j<g.length→gb A j=true
 |[],i,m,hd,C,D,E=>by
  have:g.length≤i:=E4
  exact⟨m,rfl,C,λj F=>D j J⟩
 |v::l,i,m,hd,C,D,E=>by
  have hi:i<g.length:=E4
  have I:=ztm hi;rw[hd]at I;obtain⟨rfl,rfl⟩:=List.cons.inj I;unfold Vc;by_cases G:R9 (gv g i)=true
  ·rw[H7 G];refine zet _ (i+1) m rfl C (λj F=>?_) (λj F z=>E j J z);by_cases e:j=i
   ·subst e;rw[E j (H9 _) hi,G]
   ·exact D j J
  ·rw[Hv G];have H:R9 (gv g i)=false:=Bv
   have B:=cy hi H;have K:zgo m (Yq 1 i)=true:=by simp[zgo,Tw,Yq]
   obtain⟨A,L,M⟩:=zet (g.drop (i+1)) (i+1) (m.set i true) rfl Ci (λj F=>by
    rw[X3 _ _ _ J];split
    ·rfl
    ·exact D j J) (λj F z=>by rw[X3 _ _ _ J,Hv J];exact E j J z)
   refine⟨A,?_,M⟩;rw[U1,H7 (by rw[B,K];simp[dl,Yq])];have O:Xk m (Yq 1 i)=m.set i true:=by simp[Xk,Yq]
   rw[O];simpa [dl,Yq] using L
def zjq(h:Sm vz=true):1≤vz.length∧vz.length≤256:=by
 unfold Sm at h;split at h
 ·cases h
 ·simp only[Hw,Ib]at h;omega
def vgo_limbs:∀(l:List Vr) (i p r:Nat),V3 i p l=some r→∀v∈l,1≤v.limbs∧v.limbs≤512∧0≤v.mode∧v.mode≤3
 |[],_,_,_,_,v,hv=>by cases hv
 |w::l,i,p,r,h,v,hv=>by
  unfold V3 at h;split at h
  ·cases h
  ·rename_i z;have hw:1≤w.limbs∧w.limbs≤512∧0≤w.mode∧w.mode≤3:=by
    simp[rz]at z;omega
   have g:∀j,V3 (i+1) j l=some r→1≤v.limbs∧v.limbs≤512∧0≤v.mode∧v.mode≤3:=λj A=>by
    rcases If.1 hv with rfl|hv
    ·exact hw
    ·exact vgo_limbs l _ _ r A v hv
   split at h
   ·exact g _ h
   ·split at h
    ·cases h
    ·exact g _ h
def zrn{vs:List Vr}(h:Sm vs=true):∀v∈vs,1≤v.limbs∧v.limbs≤512∧0≤v.mode∧v.mode≤3:=by
 unfold Sm at h;split at h
 ·cases h
 ·rename_i p g;exact vgo_limbs vs 0 0 p g
def gv_mem{vs:List Vr}{i:Nat}(h:i<vs.length):gv vs i∈vs:=Iq (Vl h)
def iy{vs:List Vr}(h:Sm vs=true){v:Int}(g:0≤v)(j:v<vs.length):1≤Rq vs v∧Rq vs v≤512:=by
 have:=zrn h _ (gv_mem (vs:=vs) (i:=v.toNat) J);exact⟨this.1,this.2.1⟩
def mj(g:List Vr)(o:Ko):T1 g o=(!zq5 o.kind&&(Sm g&&Pg g o)):=by
 unfold T1;cases z:zq5 o.kind with
 |true=>rfl
 |false =>
  simp only[Bool.not_false,Mc];unfold Sk;cases hv:Sm g with
  |false=>rfl
  |true =>
   have H:=zjq hv;have D:=startOs_len g 0;obtain⟨m,E,I,A⟩:=zet g 0 (dh g) rfl (by simp[dh]) (λK C=>J) (λK _ C=>by
    unfold gb dh;rw[Hy,Jy,Vl C];rfl)
   rw[Z5 g _ _ _ _ _ _ E];have F:decide ((Vc 0 g++[o]).length≤4096)=true:=Jp Ab;rw[F];simp only[Mc,Iw,List.all_nil,show decide (0≤4096)=true from rfl];have B:dl o.kind=0:=by simp[zq5]at z;simp[dl,z.1,z.2]
   cases ho:Pg g o with
   |false=>simp[U1,ho]
   |true =>
    have j:=m7 ho;have G:zgo m o=true:=by
     unfold zgo;rw[Jx];intro v hv;have:=j.takes v hv;exact A _ J
    have hm:sp g (Xk m o)=true:=by
     unfold sp;rw[Jx];intro i hi;have hi:=J9.1 hi;have:gb (Xk m o) i=true:=by
      unfold Xk;split
      ·have:=j.d;rw[X3 _ _ _ J];split
       ·rfl
       ·exact A i hi
      ·exact A i hi
     simp[this]
    simp[U1,ho,G,B,hm]
def Ou(vs:List Vr)(o:Ko):Int:=if (decide (o.kind=13)&&T1 vs o)=true then (3+2^o.imm.toNat)*Rq vs o.c+Rq vs o.b+1+(Rq vs o.c+2) else 0
def zqq{o:Ko}{s:Nat}(h:Pg vz o=true)(g:Rk o.kind=some s):U6 vz.length s o=true∧Su o=true∧sk vz o=true:=by
 unfold Pg at h;split at h
 ·rename_i j;rw[j]at g;simp[Rk]at g
 ·rw[g]at h;simp only[Hw]at h;exact⟨h.2.1,h.1,h.2.2.2.2.2⟩
def zp5{o:Ko}{s:Nat}(h:T1 vz o=true)(g:Rk o.kind=some s):Sm vz=true∧U6 vz.length s o=true∧Su o=true∧sk vz o=true:=by
 rw[mj]at h;simp only[Hw]at h;exact⟨h.2.1,zqq h.2.2 g⟩
def zt1{n s:Nat}{o:Ko}(h:U6 n s o=true)(g:s.testBit 2=true):0≤o.a∧o.a<n:=by
 simp only[U6,Hw]at h;exact Um h.2.2.1 g
def zju{n s:Nat}{o:Ko}(h:U6 n s o=true)(g:s.testBit 3=true):0≤o.b∧o.b<n:=by
 simp only[U6,Hw]at h;exact Um h.2.2.2.1 g
def zi3{n s:Nat}{o:Ko}(h:U6 n s o=true)(g:s.testBit 4=true):0≤o.c∧o.c<n:=by
 simp only[U6,Hw]at h;exact Um h.2.2.2.2 g
def zs3{n s:Nat}{o:Ko}(h:U6 n s o=true)(g:s.testBit 0=true):0≤o.d∧o.d<n:=by
 simp only[U6,Hw]at h;exact Um h.1 g
def zbb(hv:Sm vz=true){v:Int}(h:0≤v∧v<vz.length):∃k:Nat,v=k∧k<vz.length∧(Pz vz)[k*3]?=some (.i (Rq vz v))∧1≤Rq vz v∧Rq vz v≤512:=by
 obtain⟨k,rfl⟩:=Hz h.1;have g:k<vz.length:=J
 have:=iy hv h.1 h.2;exact⟨k,rfl,g,zps (Vl g),this⟩

def kd_1{o:Ko}:kdK o=1↔o.kind=15:=by unfold kdK;split<;>(try split)<;>simp_all





def Fr.map{α:Type}(g:α→α):Fr α→Fr α
 |.nil=>.nil
 |.op o r=>.op (g o) (r.map g)
 |.loop o b e r=>.loop (g o) (b.map g) (g e) (r.map g)
def vt(g:List Vr):List Nat:=(List.range g.length).filter λi=>R9 (gv g i)

abbrev Hl:=Int×Int
def X4(x y:Hl):Prop:=x.2≤y.1∨y.2≤x.1
def Ap(g:Int)(l:List Hl):Prop:=l.Pairwise X4∧∀h∈l,0≤h.1∧h.1<h.2∧h.2≤g
structure St where
 holes:List Hl
 size:Int
def ivs(z:Nat→Hl)(j:Nat→Bool)(s:Bool)(g:List Nat):List Hl:=(g.filter λv=>j v==s).map z
def BusyOk(A:Bool→Int)(B:Nat→Hl)(j:Nat→Bool)(g:List Nat)(z:Bool→St):Prop :=
 ∀s,0≤(z s).size∧Ap (z s).size ((0,A s)::(ivs B j s g++(z s).holes))
structure Plan0 (wk:Bool→Int) (a b Qn:Nat→Int) (sec:Nat→Bool) (done busy:List Nat) (iv:Nat→Hl) (ps:Bool→St) (cur:Int):Prop where
 ok:BusyOk wk iv sec busy ps
 wide:∀v∈done,(iv v).2=(iv v).1+Qn v
 nd:busy.Nodup
 sub:∀v∈busy,v∈done
 over:∀v∈done,v ∉ busy→b v<cur
 pairs:∀v∈done,∀w∈done,v≠w→sec v=sec w→X4 (iv v) (iv w)∨b v<a w∨b w<a v
 inn:∀v∈done,0≤(iv v).1∧(iv v).2≤(ps (sec v)).size∧X4 (0,wk (sec v)) (iv v)
 sz:(ps false).size+(ps true).size≤wk false+wk true+(done.map Qn).sum
noncomputable section
structure Bf where
 size:Int
 kind:Int
 sec:Bool
structure Lo where
 kind:Int
 d:Int
 e:Int
 a:Int
 b:Int
 c:Int
 buf:Int
 imm:UInt64
 deriving DecidableEq
def Bf.f(v:Bf):List LV:=[.i v.size,.i v.kind,.bool v.sec]
def Lo.f(o:Lo):List LV:=[.i o.kind,.i o.d,.i o.e,.i o.a,.i o.b,.i o.c,.i o.buf,.u o.imm]
def Py(l:List Bf):List LV:=l.flatMap Bf.f
def Pl(l:List Lo):List LV:=l.flatMap Lo.f
def Bf.f_len(v:Bf):v.f.length=3:=rfl
def Lo.f_len(o:Lo):o.f.length=8:=rfl
def Zb(l:List Lo):(Pl l).length=l.length*8:=zue Lo.f_len l
def Tk(l:List Bf):dats (Py l)=true:=ze8 (λ_=>rfl) l
def Ug(l:List Lo):dats (Pl l)=true:=ze8 (λ_=>rfl) l
def zvs{l:List Bf}{i:Nat}{v:Bf}(h:l[i]?=some v):((Py l).drop (i*3)).take 3=v.f:=zg5 Bf.f_len h
def zcr{l:List Lo}{i:Nat}{v:Lo}(h:l[i]?=some v):((Pl l).drop (i*8)).take 8=v.f:=zg5 Lo.f_len h
def zgm{l:List Bf}{i:Nat}{v:Bf}(h:l[i]?=some v):(Py l)[i*3]?=some (.i v.size):=by have:=zs5 Bf.f_len h (j:=0) J;simpa [Py,Bf.f] using this
def zln{l:List Bf}{i:Nat}{v:Bf}(h:l[i]?=some v):(Py l)[i*3+1]?=some (.i v.kind):=by have:=zs5 Bf.f_len h (j:=1) J;simpa [Py,Bf.f] using this
def zuv{l:List Bf}{i:Nat}{v:Bf}(h:l[i]?=some v):(Py l)[i*3+2]?=some (.bool v.sec):=by have:=zs5 Bf.f_len h (j:=2) J;simpa [Py,Bf.f] using this
def zta{l:List Lo}{i:Nat}{v:Lo}(h:l[i]?=some v){j:Nat}(g:j<8):(Pl l)[i*8+j]?=v.f[j]?:=zs5 Lo.f_len h g
def zq4{l:List Bf}{i:Nat}(h:i<l.length):i*3+3≤(Py l).length:=Wz Bf.f_len h
def sw{l:List Lo}{i:Nat}(h:i<l.length):i*8+8≤(Pl l).length:=Wz Lo.f_len h
def zn3(a b:List Lo):Pl (a++b)=Pl a++Pl b:=by simp[Pl]
def x9(a b:List Bf):Py (a++b)=Py a++Py b:=by simp[Py]
def Ng(l:List Bf)(n:Nat):Bf:=l.getD n ⟨0,0,false⟩
def dz(l:List Lo)(n:Nat):Lo:=l.getD n ⟨0,0,0,0,0,0,0,0⟩
def Sq{l:List Bf}{n:Nat}(h:n<l.length):l[n]?=some (Ng l n):=by simp[Ng,Hy,h]
def zg8{l:List Lo}{n:Nat}(h:n<l.length):l[n]?=some (dz l n):=by simp[dz,Hy,h]
def zhr{l:List Lo}{n:Nat}(h:n<l.length):l.drop n=dz l n::l.drop (n+1):=by
 rw[Jo h];congr 1;have:=zg8 h;rw[H6 h]at this;exact Option.some.inj this
def repBs(n:Nat):O4 [.bool false] n=(List.replicate n false).map LV.bool:=by
 induction n with
 |zero=>rfl
 |succ n g=>rw[O4,g,Ku];rfl
def Oc(o:Lo):List Int :=
 if o.kind=2∨o.kind=8∨o.kind=9 then [o.a]
 else if (3≤o.kind∧o.kind≤7)∨o.kind=10 then [o.a,o.b]
 else if o.kind=11∨o.kind=12∨o.kind=13 then [o.a,o.b,o.c]
 else if o.kind=14∧¬o.a=-1 then [o.a]
 else if o.kind=15∧¬o.a=-1 then [o.a,o.b]
 else if o.kind=15 then [o.b] else []
def M6(o:Lo):List Int :=
 if o.kind=10∨o.kind=11∨o.kind=12 then [o.d,o.e]
 else if o.kind=15∨o.kind=17 then [] else [o.d]
def Q5(g r:Int)(j:Bool):Bool:=if j=true then decide (0≤r)&&decide (r<g) else decide (r=-1)
def Qq(k:Int):Bool:=!decide (k=15) && !decide (k=17)
def Qr(k:Int):Bool:=decide (k=10) || (decide (k=11) || decide (k=12))
def Q7(k:Int):Bool:=!decide (k=1)&&(!decide (k=16) && !decide (k=17))
def V4(k:Int):Bool:=(decide (3≤k)&&decide (k≤7)) || ((decide (10≤k)&&decide (k≤13)) || decide (k=15))
def Wd(k:Int):Bool:=decide (11≤k)&&decide (k≤13)
def Oz(k:Int):Bool:=decide (k=14) || decide (k=15)
def Ps(g:Int)(j:List Bf)(o:Lo):Bool :=
 (decide (1≤o.kind)&&decide (o.kind≤17))&&(Q5 g o.d (Qq o.kind)&&(Q5 g o.e (Qr o.kind)&&((Q5 g o.a (Q7 o.kind) || (Oz o.kind&&decide (o.a=-1)))&&(Q5 g o.b (V4 o.kind)&&(Q5 g o.c (Wd o.kind)&&(!(Qr o.kind&&decide (o.d=o.e)) &&
  (if Oz o.kind=true then decide (0≤o.buf)&&(decide (o.buf<j.length)&&(!(decide (o.kind=15)&&decide ((Ng j o.buf.toNat).kind=1))&&(!decide (o.a=-1) || decide (o.imm<iU (Ng j o.buf.toNat).size))))
   else decide (o.buf=0)&&(if o.kind=1 then true else if o.kind=8∨o.kind=9 then decide (1≤o.imm)&&decide (o.imm≤63) else if o.kind=16 then decide (1≤o.imm)&&decide (o.imm≤1048576) else decide (o.imm=0)))))))))
def O1(m:List Bool)(r:Int):Bool:=m.getD r.toNat false
def Uu(j:Int)(z:List Bf)(m:List Bool)(g:List Int)(o:Lo):Int×List Bool×List Int :=
 if Ps j z o=false then (2,m,g)
 else if o.kind=17 then (match g.getLast? with|none=>(9,m,g)|some d=>(0,m.set d.toNat false,g.dropLast))
 else if (M6 o).any (λr=>g.contains r)=true then (9,m,g)
 else if o.kind=16∧O1 m o.d=true then (9,m,g)
 else if o.kind=16∧g.length=8 then (10,m,g)
 else if (Oc o).any (λr=>!O1 m r)=true then (5,m,g)
 else (0,(M6 o).foldl (λm r=>m.set r.toNat true) m,if o.kind=16 then g++[o.d] else g)
def de(g:Int)(z:List Bf):Nat→List Bool→List Int→List Lo→Int×Int
 |i,_,j,[]=>if j=[] then (i,0) else (i,9)
 |i,m,j,o::l=>if (Uu g z m j o).1=0 then de g z (i+1) (Uu g z m j o).2.1 (Uu g z m j o).2.2 l else (i,(Uu g z m j o).1)
def Qu(g:Int)(bs:List Bf)(os:List Lo):Int×Int :=
 if 64<g∨32<bs.length∨65536<os.length then (0,3)
 else if (bs.any λb=>decide (65536<b.size))=true then (0,3)
 else if g<0 then (0,2)
 else if (bs.any λb=>decide (b.size<1) || (decide (b.kind<1) || decide (3<b.kind)))=true then (0,2)
 else de g bs 0 (List.replicate g.toNat false) [] os
structure Ms where
 i:Nat
 first:Bool
 r:List UInt64
 bufs:List (List UInt64)
 l:List (Int×Int)
def atR(r:List UInt64)(x:Int):UInt64:=if x<0 then 0 else r.getD x.toNat 0
def Nv(b:Bool):UInt64:=if b then 1 else 0
def Nc(r:List UInt64)(x:Int)(v:UInt64):List UInt64:=if 0≤x then r.set x.toNat v else r
def Nq(o:Lo)(a b:UInt64)(c:Bool):UInt64×UInt64 :=
 if o.kind=1 then (o.imm,0) else if o.kind=2 then (a,0) else if o.kind=3 then (a+b,0) else if o.kind=4 then (a-b,0)
 else if o.kind=5 then (a &&& b,0) else if o.kind=6 then (a ||| b,0) else if o.kind=7 then (a ^^^ b,0)
 else if o.kind=8 then (UInt64.ofNat (a.toNat*2^o.imm.toNat),0) else if o.kind=9 then (UInt64.ofNat (a.toNat/2^o.imm.toNat),0)
 else if o.kind=10 then (ai a b,a*b) else if o.kind=11 then ((Qb a b c).1,Nv (Qb a b c).2) else if o.kind=12 then ((subC a b c).1,Nv (subC a b c).2)
 else if o.kind=13 then (if c then a else b,0) else (0,0)
def T7(g:List (List UInt64))(x:Int):List UInt64:=g.getD x.toNat []
def U7(o:Lo)(s:Ms):Option Ms :=
 if o.kind=14 then
  (if (o.imm+atR s.r o.a).toNat<(T7 s.bufs o.buf).length then
   some ⟨s.i+1,s.first,Nc (Nc s.r o.d ((T7 s.bufs o.buf).getD (o.imm+atR s.r o.a).toNat 0)) o.e 0,s.bufs,s.l++[((s.i:Int),(((o.imm+atR s.r o.a).toNat:Nat):Int))]⟩ else none)
 else if o.kind=15 then
  (if (o.imm+atR s.r o.a).toNat<(T7 s.bufs o.buf).length then
   some ⟨s.i+1,s.first,Nc (Nc s.r o.d 0) o.e 0,s.bufs.set o.buf.toNat ((T7 s.bufs o.buf).set (o.imm+atR s.r o.a).toNat (atR s.r o.b)),s.l++[((s.i:Int),(((o.imm+atR s.r o.a).toNat:Nat):Int))]⟩ else none)
 else some ⟨s.i+1,s.first,Nc (Nc s.r o.d (Nq o (atR s.r o.a) (atR s.r o.b) (decide (atR s.r o.c%2=1))).1) o.e (Nq o (atR s.r o.a) (atR s.r o.b) (decide (atR s.r o.c%2=1))).2,s.bufs,s.l++[((s.i:Int),(-1:Int))]⟩
def Rd(os:List Lo)(es:List Int)(s:Ms):Option Ms :=
 match os[s.i]? with
 |none=>some s
 |some o =>
  if o.kind=16 then some ⟨s.i+1,true,if s.first then Nc s.r o.d 0 else s.r,s.bufs,s.l++[((s.i:Int),(-1:Int))]⟩
  else if o.kind=17 then
   (match os[(es.getD s.i 0).toNat]? with
   |none=>none
   |some p=>if atR s.r p.d+1<p.imm then some ⟨(es.getD s.i 0).toNat,false,Nc s.r p.d (atR s.r p.d+1),s.bufs,s.l⟩ else some ⟨s.i+1,s.first,s.r,s.bufs,s.l⟩)
  else U7 o s
def Pe(os:List Lo)(es:List Int):Nat→Ms→Option Ms
 |0,s=>some s
 |n+1,s=>match Rd os es s with
  |none=>none
  |some g=>Pe os es n g
end
variable{Z:List Bf}{vX:List Lo}
section
def Qi(o:Lo):Nat:=if o.kind=16 then 1 else if o.kind=17 then 2 else 0
structure Fs where
 r:Nat→UInt64
 m:Nat→Nat→UInt64
def Fs.put(s:Fs)(d:Nat)(v:UInt64):Fs:=⟨λx=>if x=d then v else s.r x,s.m⟩
def Fs.sto(s:Fs)(b n:Nat)(v:UInt64):Fs:=⟨s.r,λx y=>if x=b∧y=n then v else s.m x y⟩
def Sz(s:Fs)(x:Int):UInt64:=if x<0 then 0 else s.r x.toNat
def Rb(s:Fs)(x:Int)(v:UInt64):Fs:=if 0≤x then s.put x.toNat v else s
def Qe(sz:Nat→Nat)(o:Lo)(s:Fs):Option Fs :=
 if o.kind=14 then (if (o.imm+Sz s o.a).toNat<sz o.buf.toNat then some (Rb (Rb s o.d (s.m o.buf.toNat (o.imm+Sz s o.a).toNat)) o.e 0) else none)
 else if o.kind=15 then (if (o.imm+Sz s o.a).toNat<sz o.buf.toNat then some (Rb (Rb (s.sto o.buf.toNat (o.imm+Sz s o.a).toNat (Sz s o.b)) o.d 0) o.e 0) else none)
 else some (Rb (Rb s o.d (Nq o (Sz s o.a) (Sz s o.b) (decide (Sz s o.c%2=1))).1) o.e (Nq o (Sz s o.a) (Sz s o.b) (decide (Sz s o.c%2=1))).2)
def ko(f:Fs→Option Fs)(d:Nat):Nat→Nat→Fs→Option Fs
 |0,_,s=>some s
 |n+1,j,s=>match f (s.put d (UInt64.ofNat j)) with
  |none=>none
  |some g=>ko f d n (j+1) g
def S9(sz:Nat→Nat):Fr Lo→Fs→Option Fs
 |.nil,s=>some s
 |.op o r,s=>match Qe sz o s with
  |none=>none
  |some g=>S9 sz r g
 |.loop o b _ r,s=>match ko (S9 sz b) o.d.toNat o.imm.toNat 0 s with
  |none=>none
  |some g=>S9 sz r g
def Fr.noW(x:Nat):Fr Lo→Bool
 |.nil=>true
 |.op o r=>!decide (o.d=x)&&(!decide (o.e=x)&&r.noW x)
 |.loop o b _ r=>!decide (o.d.toNat=x)&&(b.noW x&&r.noW x)
def zjf{s:Fs}{d:Int}{v:UInt64}{x:Nat}(h:¬d=x):(Rb s d v).r x=s.r x:=by
 unfold Rb;split
 ·show (if x=d.toNat then v else s.r x)=s.r x;rw[Hv J]
 ·rfl
def opZ_r{sz:Nat→Nat}{o:Lo}{s z:Fs}{x:Nat}(h:Qe sz o s=some z)(g:¬o.d=x)(j:¬o.e=x):z.r x=s.r x:=by
 unfold Qe at h;split at h
 ·split at h
  ·cases h;rw[zjf j,zjf g]
  ·cases h
 ·split at h
  ·split at h
   ·cases h;rw[zjf j,zjf g];rfl
   ·cases h
  ·cases h;rw[zjf j,zjf g]
def zvh{f:Fs→Option Fs}{P:Fs→Prop}{d:Nat}(hd:∀s v,P s→P (s.put d v))(z:∀s g,P s→f s=some g→P g):∀(n A:Nat) (s g:Fs),P s→ko f d n A s=some g→P g
 |0,_,s,g,j,h=>by cases h;exact j
 |n+1,A,s,g,j,h=>by
  unfold ko at h;split at h
  ·cases h
  ·rename_i B C;exact zvh hd z n (A+1) B g (z _ _ (hd _ _ j) C) h
def zyu{sz:Nat→Nat}{x:Nat}:∀(f:Fr Lo) (s g:Fs),f.noW x=true→S9 sz f s=some g→g.r x=s.r x
 |.nil,s,g,_,h=>Bz
 |.op o r,s,g,hw,h=>by
  simp only[Fr.noW,Hw,Jd,I3]at hw;unfold S9 at h;split at h
  ·cases h
  ·rename_i j z;rw[zyu r j g hw.2.2 h,opZ_r z hw.1 hw.2.1]
 |.loop o b e r,s,g,hw,h=>by
  simp only[Fr.noW,Hw,Jd,I3]at hw;unfold S9 at h;split at h
  ·cases h
  ·rename_i j z;rw[zyu r j g hw.2.2 h];refine zvh (P:=λt=>t.r x=s.r x) (λt v A=>?_) (λt B A h=>by rw[zyu b t B hw.2.1 h,A]) _ _ _ _ rfl z;show (if x=o.d.toNat then v else t.r x)=_;rw[Hv (λq=>hw.1 q.symm)];exact A
def ql(ls:List Nat)(x:Int):Bool:=decide (-1≤x)&&(decide (x<64) && !ls.contains x.toNat || decide (x=-1))
def Fr.regs(nb:Nat):List Nat→Fr Lo→Bool
 |_,.nil=>true
 |ls,.op o r=>ql ls o.d&&(ql ls o.e&&(decide (o.a<64)&&(decide (o.b<64)&&(decide (o.c<64)&&(decide (o.buf.toNat<nb)&&r.regs nb ls)))))
 |ls,.loop o b _ r=>ql ls o.d&&(decide (0≤o.d)&&(decide (1≤o.imm.toNat)&&(b.regs nb (o.d.toNat::ls)&&r.regs nb ls)))
def zhk{nb x:Nat}:∀(f:Fr Lo) (z:List Nat),x∈z→f.regs nb z=true→f.noW x=true
 |.nil,_,_,_=>rfl
 |.op o r,z,j,h=>by
  simp only[Fr.regs,Hw,ql,Ib,Jb,Jd,List.contains_eq_mem,I3]at h;obtain⟨⟨C,g⟩,⟨D,A⟩,_,_,_,_,B⟩:=h;simp only[Fr.noW,Hw,Jd,I3];refine⟨λq=>?_,λq=>?_,zhk r z j B⟩
  ·rcases g with ⟨_,g⟩|g
   ·apply g;rw[q];exact j
   ·omega
  ·rcases A with ⟨_,A⟩|A
   ·apply A;rw[q];exact j
   ·omega
 |.loop o b e r,z,j,h=>by
  simp only[Fr.regs,Hw,ql,Ib,Jb,Jd,List.contains_eq_mem,I3]at h;obtain⟨⟨C,g⟩,D,_,A,B⟩:=h;simp only[Fr.noW,Hw,Jd,I3];refine⟨λq=>?_,zhk b _ (Ik _ j) A,zhk r z j B⟩;rcases g with ⟨_,g⟩|g
  ·apply g;rw[q];exact j
  ·omega
structure Rep (nb:Nat) (sz:Nat→Nat) (s:Ms) (t:Fs):Prop where
 rl:s.r.length=64
 r:∀x,x<64→s.r.getD x 0=t.r x
 bl:s.bufs.length=nb
 len:∀b,b<nb→(s.bufs.getD b []).length=sz b
 m:∀b n,b<nb→n<sz b→(s.bufs.getD b []).getD n 0=t.m b n
section rep
variable {nb : Nat} {sz : Nat → Nat} {s : Ms} {t : Fs}
def Rep.at(h:Rep nb sz s t){x:Int}(hx:x<64):atR s.r x=Sz t x:=by
 unfold atR Sz;split
 ·rfl
 ·exact h.r _ J
def d8(l:List vQ)(i g:Nat)(v d:vQ)(h:i<l.length):(l.set i v).getD g d=if g=i then v else l.getD g d:=by
 simp only[Hy,Mw];by_cases q:g=i
 ·subst q;simp[h]
 ·rw[Hv (Ne.symm q),Hv q]
def Rep.put(h:Rep nb sz s t){x:Int}{v:UInt64}{i:Nat}{f:Bool}{l:List (Int×Int)}(hx:x<64):Rep nb sz ⟨i,f,Nc s.r x v,s.bufs,l⟩ (Rb t x v):=by
 unfold Nc Rb;split
 ·refine⟨by simpa using h.rl,λy hy=>?_,h.bl,h.len,h.m⟩;show (s.r.set x.toNat v).getD y 0=if y=x.toNat then v else t.r y
  rw[d8 _ _ _ _ _ (by rw[h.rl];omega)];split
  ·rfl
  ·exact h.r y hy
 ·exact⟨h.rl,h.r,h.bl,h.len,h.m⟩
def Rep.ctl(h:Rep nb sz s t){i:Nat}{f:Bool}{l:List (Int×Int)}:Rep nb sz ⟨i,f,s.r,s.bufs,l⟩ t:=⟨h.rl,h.r,h.bl,h.len,h.m⟩
def Rep.sto(h:Rep nb sz s t){b n:Nat}{v:UInt64}{i:Nat}{f:Bool}{l:List (Int×Int)}(hb:b<nb)(hn:n<sz b):Rep nb sz ⟨i,f,s.r,s.bufs.set b ((s.bufs.getD b []).set n v),l⟩ (t.sto b n v):=by
 have gg:b<s.bufs.length:=by rw[h.bl];exact hb
 refine⟨h.rl,h.r,by simpa using h.bl,λx hx=>?_,λx y hx hy=>?_⟩
 ·show ((s.bufs.set b _).getD x []).length=_;rw[d8 _ _ _ _ _ gg];split
  ·rename_i q;subst q;rw[J1];exact h.len x hx
  ·exact h.len x hx
 ·show ((s.bufs.set b _).getD x []).getD y 0=if x=b∧y=n then v else t.m x y
  rw[d8 _ _ _ _ _ gg];by_cases q:x=b
  ·subst q;rw[H7 rfl,d8 _ _ _ _ _ (by rw[h.len x hx];exact hn)];by_cases q2:y=n
   ·simp[q2]
   ·simp only[q2,and_false,La];exact h.m x y hx hy
  ·simp only[q,false_and,La];exact h.m x y hx hy
end rep
def zhq{j:List Lo}{z:List Int}:∀(n k:Nat) (s g:Ms),Pe j z n s=some g→Pe j z (n+k) s=Pe j z k g
 |0,k,s,g,h=>by cases h;rw[Ix]
 |n+1,k,s,g,h=>by
  unfold Pe at h;split at h
  ·cases h
  ·rename_i A B;rw[(J:n+1+k=(n+k)+1)];show (match Rd j z s with|none=>none|some g=>Pe j z (n+k) g)=_;rw[B];exact zhq n k A g h
def doR_ok{nb:Nat}{sz:Nat→Nat}{s:Ms}{t E:Fs}{o:Lo}(h:Rep nb sz s t)(hd:o.d<64)(he:o.e<64)(F:o.a<64)(G:o.b<64)(H:o.c<64)(g:o.buf.toNat<nb)(z:Qe sz o t=some E) :
  ∃C,U7 o s=some C∧C.i=s.i+1∧C.first=s.first∧Rep nb sz C E∧C.l.length=s.l.length+1:=by
 unfold Qe at z;unfold U7;rw[h.at F,h.at G,h.at H];unfold T7;have I:o.buf.toNat<s.bufs.length:=by rw[h.bl];exact g
 split at z
 ·rename_i A;rw[H7 A,h.len _ g];split at z
  ·rename_i j;rw[H7 j];cases z;refine⟨_,rfl,rfl,rfl,?_,N⟩;rw[h.m _ _ g j];have D:=h.put (x:=o.d) (v:=t.m o.buf.toNat (o.imm+Sz t o.a).toNat) (i:=0) (f:=true) (l:=[]) hd;exact D.put he
  ·cases z
 ·rename_i A;rw[Hv A];split at z
  ·rename_i B;rw[H7 B,h.len _ g];split at z
   ·rename_i j;rw[H7 j];cases z;refine⟨_,rfl,rfl,rfl,?_,N⟩;have K:=h.sto (v:=Sz t o.b) (i:=0) (f:=true) (l:=[]) g j;have D:=K.put (x:=o.d) (v:=0) (i:=0) (f:=true) (l:=[]) hd;exact D.put he
   ·cases z
  ·rename_i B;rw[Hv B];cases z;refine⟨_,rfl,rfl,rfl,?_,N⟩;have D:=h.put (x:=o.d) (v:=(Nq o (Sz t o.a) (Sz t o.b) (decide (Sz t o.c%2=1))).1) (i:=0) (f:=true) (l:=[]) hd;exact D.put he
def Fr.costZ:Fr Lo→Nat
 |.nil=>0
 |.op _ r=>1+r.costZ
 |.loop o b _ r=>o.imm.toNat*(b.costZ+2)+r.costZ
def zcb{l:List vQ}{i:Nat}{a:vQ}{r:List vQ}(h:l.drop i=a::r):l[i]?=some a∧l.drop (i+1)=r:=by
 have g:=congrArg (λl=>l[0]?) h;simp at g;refine⟨g,?_⟩;rw[←List.drop_drop,h];rfl
def zpu{l a r:List vQ}{i:Nat}(h:l.drop i=a++r):l.drop (i+a.length)=r:=by
 rw[←List.drop_drop,h,List.drop_left]
def ofNat_lt:(UInt64.ofNat g+1:UInt64)=UInt64.ofNat (g+1):=by
 apply UInt64.toNat.inj;simp
def zhh{os:List Lo}{es:List Int}{nb:Nat}{sz:Nat→Nat}:∀(f:Fr Lo) (i:Nat) (H:List Nat) (z:List Lo) (T:List Int) (s:Ms) (t K:Fs),f.wf Qi→f.regs nb H=true→os.drop i=f.flat++z→es.drop i=f.ends i++T→s.i=i→s.first=true→Rep nb sz s t→S9 sz f t=some K →
  ∃n j,Pe os es n s=some j∧j.i=i+f.size∧j.first=true∧Rep nb sz j K∧n≤f.costZ∧j.l.length≤s.l.length+f.costZ
 |.nil,i,H,z,T,s,t,K,_,_,_,_,hi,X,Y,C=>by
  cases C;exact⟨0,s,rfl,by simp[Fr.size,hi],X,Y,H9 _,H9 _⟩
 |.op o r,i,H,z,T,s,t,K,hw,L,ho,he,hi,X,Y,C=>by
  simp only[Fr.regs,Hw,ql,Ib,Jb]at L;obtain⟨⟨d1,d2⟩,⟨e1,e2⟩,a1,b1,c1,f1,L⟩:=L;have Z:o.d<64:=by rcases d2 with d2|d2<;>omega
  have e3:o.e<64:=by rcases e2 with e2|e2<;>omega
  simp only[Fr.flat,I4]at ho;simp only[Fr.ends,I4]at he;obtain⟨D,F⟩:=zcb ho;obtain⟨gE,G⟩:=zcb he;unfold S9 at C;split at C
  ·cases C
  rename_i t1 h1;obtain⟨s1,q1,q2,q3,q4,q5⟩:=doR_ok Y Z e3 a1 b1 c1 f1 h1;obtain⟨n,j,U,V,p3,M,p5,p6⟩:=zhh r (i+1) H z T s1 t1 K hw.2 L F G (by rw[q2,hi]) (by rw[q3,X]) q4 C;have hk:=hw.1;have A:Rd os es s=some s1:=by
   unfold Rd;rw[hi,D];dsimp only;unfold Qi at hk;rw[Hv (λq=>by simp[q]at hk),Hv (λq=>by simp[q]at hk)];exact q1
  refine⟨n+1,j,?_,by rw[V];simp[Fr.size];omega,p3,M,by simp[Fr.costZ];omega,by simp[Fr.costZ];omega⟩;show (match Rd os es s with|none=>none|some j=>Pe os es n j)=_;rw[A];exact U
 |.loop o b e r,i,H,z,T,s,t,K,hw,L,ho,he,hi,X,Y,C=>by
  simp only[Fr.regs,Hw,ql,Ib,Jb]at L;obtain⟨⟨d1,d2⟩,d0,m1,gg,gF⟩:=L;have Z:o.d<64:=by rcases d2 with d2|d2<;>omega
  obtain⟨w1,w2,w3,w4⟩:=hw;have gz:o.kind=16:=by unfold Qi at w1;split at w1<;>first|assumption|(split at w1<;>omega)
  have gG:e.kind=17:=by
   unfold Qi at w2;split at w2
   ·omega
   ·split at w2
    ·assumption
    ·omega
  simp only[Fr.flat,I4,Jg]at ho;simp only[Fr.ends,I4,Jg]at he;obtain⟨D,F⟩:=zcb ho;obtain⟨gE,G⟩:=zcb he;have gA:=zpu F;have gB:=zpu G;rw[Fr.flat_len]at gA;rw[Fr.ends_len]at gB;obtain⟨gH,gI⟩:=zcb gA;obtain⟨gK,gC⟩:=zcb gB;have O:(es.getD (i+1+b.size) 0).toNat=i:=by rw[Hy,gK];simp
  unfold S9 at C;split at C
  ·cases C
  rename_i t1 h1;have gL:=zhk b (o.d.toNat::H) (I5 ..) gg;have gX:=o.imm.toNat_lt;have P:∀(n B:Nat) (s:Ms) (t:Fs),1≤n→B+n=o.imm.toNat→s.i=i+1→s.first=true→Rep nb sz s (t.put o.d.toNat (UInt64.ofNat B))→ko (S9 sz b) o.d.toNat n B t=some t1 →
    ∃k j,Pe os es k s=some j∧j.i=i+b.size+2∧j.first=true∧Rep nb sz j t1∧k≤n*(b.costZ+2)-1∧j.l.length≤s.l.length+(n*(b.costZ+2)-1):=by
   intro n
   induction n with
   |zero=>intro B s t h;omega
   |succ n ih =>
    intro B s t _ hj gM gO gD E;unfold ko at E;split at E
    ·cases E
    rename_i t2 h2;obtain⟨k,g,U,V,p3,M,p5,p6⟩:=zhh b (i+1) (o.d.toNat::H) _ _ s _ t2 w3 gg F G gM gO gD h2;have gP:t2.r o.d.toNat=UInt64.ofNat B:=by
     rw[zyu b _ _ gL h2];show (if o.d.toNat=o.d.toNat then _ else _)=_;rw[H7 rfl]
    have gQ:atR g.r o.d=UInt64.ofNat B:=by
     rw[M.at Z];unfold Sz;rw[Hv J,gP]
    have A:Rd os es g=if UInt64.ofNat B+1<o.imm then some ⟨i,false,Nc g.r o.d (UInt64.ofNat B+1),g.bufs,g.l⟩ else some ⟨g.i+1,g.first,g.r,g.bufs,g.l⟩:=by
     unfold Rd;rw[V,gH];dsimp only;rw[Hv J,H7 gG,O,D];dsimp only;rw[gQ]
    cases n with
    |zero =>
     have gR:¬(UInt64.ofNat B+1<o.imm):=by
      rw[Jv];have:(UInt64.ofNat B+1:UInt64).toNat=(B+1)%18446744073709551616:=N
      rw[this];by_cases q:B+1<18446744073709551616
      ·rw[Iy q];omega
      ·omega
     rw[Hv gR]at A;cases E;refine⟨k+1,⟨g.i+1,g.first,g.r,g.bufs,g.l⟩,?_,?_,p3,M.ctl,J,by show g.l.length≤_;omega⟩
     ·rw[zhq k 1 s g U];show (match Rd os es g with|none=>none|some j=>Pe os es 0 j)=_;rw[A];rfl
     ·show g.i+1=_;rw[V];omega
    |succ n =>
     have gT:UInt64.ofNat B+1<o.imm:=by
      rw[Jv];have:(UInt64.ofNat B+1:UInt64).toNat=(B+1)%18446744073709551616:=N
      rw[this,Iy J];omega
     rw[H7 gT]at A;have gU:(UInt64.ofNat B+1:UInt64)=UInt64.ofNat (B+1):=ofNat_lt;have Q:Rep nb sz ⟨i+1,true,Nc g.r o.d (UInt64.ofNat B+1),g.bufs,g.l++[((i:Int),-1)]⟩ (t2.put o.d.toNat (UInt64.ofNat (B+1))):=by
      have h:=M.put (x:=o.d) (v:=UInt64.ofNat B+1) (i:=i+1) (f:=true) (l:=g.l++[((i:Int),-1)]) Z;rw[gU]at h ⊢;unfold Rb at h;rw[H7 d0]at h;exact h
     obtain⟨I,s3,u1,u2,u3,u4,u5,u6⟩:=ih (B+1) _ t2 J J rfl rfl Q E;have hm:(n+1+1)*(b.costZ+2)=(n+1)*(b.costZ+2)+(b.costZ+2):=Lz _ _;have gY:b.costZ+2≤(n+1)*(b.costZ+2):=L5 _ J;refine⟨k+(I+2),s3,?_,u2,u3,u4,J,?_⟩
     ·rw[zhq k _ s g U];show (match Rd os es g with|none=>none|some j=>Pe os es (I+1) j)=_;rw[A];show (match Rd os es (⟨i,false,Nc g.r o.d (UInt64.ofNat B+1),g.bufs,g.l⟩:Ms) with|none=>none|some j=>Pe os es I j)=_;have:Rd os es (⟨i,false,Nc g.r o.d (UInt64.ofNat B+1),g.bufs,g.l⟩:Ms)=some ⟨i+1,true,Nc g.r o.d (UInt64.ofNat B+1),g.bufs,g.l++[((i:Int),-1)]⟩:=by
       unfold Rd;dsimp only;rw[D];dsimp only;rw[H7 gz];rfl
      rw[this];exact u1
     ·simp only[H8,Ig,Iw]at u6;omega
  have R:Rep nb sz ⟨i+1,true,Nc s.r o.d 0,s.bufs,s.l++[((i:Int),-1)]⟩ (t.put o.d.toNat (UInt64.ofNat 0)):=by
   have h:=Y.put (x:=o.d) (v:=0) (i:=i+1) (f:=true) (l:=s.l++[((i:Int),-1)]) Z;unfold Rb at h;rw[H7 d0]at h;exact h
  obtain⟨k,s1,U,V,p3,M,p5,p6⟩:=P o.imm.toNat 0 _ t m1 J rfl rfl R h1;have gV:b.costZ+2≤o.imm.toNat*(b.costZ+2):=L5 _ J;obtain⟨I,g,u1,u2,u3,u4,u5,u6⟩:=zhh r (i+b.size+2) H z T s1 t1 K w4 gF (by rw[(J:i+b.size+2=i+1+b.size+1)];exact gI) (by rw[(J:i+b.size+2=i+1+b.size+1)]at gC ⊢;exact gC) V p3 M C;refine⟨(k+I)+1,g,?_,by rw[u2];simp[Fr.size];omega,u3,u4,by simp only[Fr.costZ];omega,?_⟩
  ·show (match Rd os es s with|none=>none|some j=>Pe os es (k+I) j)=_;have:Rd os es s=some ⟨i+1,true,Nc s.r o.d 0,s.bufs,s.l++[((i:Int),-1)]⟩:=by
    unfold Rd;rw[hi,D];dsimp only;rw[H7 gz,X];rfl
   rw[this];show Pe os es (k+I) _=_;rw[zhq k I _ s1 U];exact u1
  ·simp only[H8,Ig,Iw]at p6;simp only[Fr.costZ];omega
end
def Ve:Nat→List Nat→List Int→List Lo→List Int
 |_,_,g,[]=>g
 |i,st,g,o::l=>if o.kind=16 then Ve (i+1) (i::st) (g.set i (-1)) l
  else if o.kind=17 then (match st with
   |[]=>Ve (i+1) [] (g.set i (-1)) l
   |a::j=>Ve (i+1) j (((g.set i (-1)).set i a).set a i) l)
  else Ve (i+1) st (g.set i (-1)) l
def endsR_tree:∀(f:Fr Lo) (i:Nat) (st:List Nat) (j g:List Int) (z:List Lo),f.wf Qi→j.length=i →
  Ve i st (j++List.replicate f.size 0++g) (f.flat++z)=Ve (i+f.size) st (j++f.ends i++g) z
 |.nil,i,st,j,g,z,_,_=>by simp[Fr.flat,Fr.size,Fr.ends]
 |.op o r,i,st,j,g,z,w,B=>by
  have h:=endsR_tree r (i+1) st (j++[-1]) g z w.2 Aw;have G:=w.1;have K:¬o.kind=16:=λq=>by simp[Qi,q]at G
  have L:¬o.kind=17:=λq=>by simp[Qi,q]at G
  simp only[Fr.flat,Fr.size,Fr.ends,I4,Ve,K,L,La,Ku];simp only[Jg,I4,Lw]at h ⊢;rw[Lf _ _ J,(J:i-j.length=0),Mr,h]
  congr 1;omega
 |.loop o b e r,i,st,j,g,z,w,B=>by
  obtain⟨C,D,M,O⟩:=w;have E:o.kind=16:=by unfold Qi at C;split at C<;>first|assumption|(split at C<;>omega)
  have F:e.kind=17:=by
   unfold Qi at D;split at D
   ·omega
   ·split at D
    ·assumption
    ·omega
  have H:=endsR_tree b (i+1) (i::st) (j++[-1]) ([0]++List.replicate r.size 0++g) (e::(r.flat++z)) M Aw;have I:=endsR_tree r (i+b.size+2) st (j++[((i+b.size+1:Nat):Int)]++b.ends (i+1)++[(i:Int)]) g z O (by simp[B,Fr.ends_len];omega);have P:List.replicate (b.size+r.size+2) (0:Int)=[0]++List.replicate b.size 0++([0]++List.replicate r.size 0):=by
   rw[(J:b.size+r.size+2=1+b.size+(1+r.size)),←L7,←L7,←L7];rfl
  simp only[Fr.flat,Fr.size,I4,Ve,E,Jl];rw[P];simp only[Jg,I4,Lw]at H I ⊢;rw[Lf _ _ J,(J:i-j.length=0),Mr,H];simp only[Ve,F];have A:(((j++(-1:Int)::(b.ends (i+1)++(0:Int)::(List.replicate r.size 0++g))).set (i+1+b.size) (-1)).set (i+1+b.size) (i:Int)).set i ((i+1+b.size:Nat):Int)
    = j++((i+b.size+1:Nat):Int)::(b.ends (i+1)++(i:Int)::(List.replicate r.size 0++g)):=by
   rw[List.set_set,Lf _ _ J,Lf _ _ J,(J:i+1+b.size-j.length=b.size+1),(J:i-j.length=0),List.set_cons_succ,Mr,
    Lf _ _ (by rw[Fr.ends_len];exact H9 _),Fr.ends_len,Ml,Mr,(J:i+1+b.size=i+b.size+1)]
  rw[A,(J:i+1+b.size+1=i+b.size+2),I];simp only[Fr.ends,I4,Jg];rw[(J:i+(b.size+r.size+2)=i+b.size+2+r.size)];simp[Nat.add_comm]
def zm3{f:Fr Lo}(w:f.wf Qi):Ve 0 [] (List.replicate f.size 0) f.flat=f.ends 0:=by
 have h:=endsR_tree f 0 [] [] [] [] w rfl;simp only[Ji,Lw,Ve]at h;exact h
def zvy{f:Fr Lo}:∀{d:Nat} {rest:List Lo},f.wf Qi→Vm Qi d rest→Vm Qi d (f.flat++rest):=by
 induction f with
 |nil=>intro d rest _ h;exact h
 |op o r z =>
  intro d rest w h;simp only[Fr.flat,I4];unfold Vm;rw[w.1,Hv Ac,Hv Ac];exact⟨rfl,z w.2 h⟩
 |loop o b e r g j =>
  intro d rest w h;obtain⟨A,B,C,D⟩:=w;simp only[Fr.flat,I4,Jg];unfold Vm;rw[A,H7 rfl];refine g C ?_;unfold Vm;rw[B,Hv Ac,H7 rfl];exact⟨J,j D h⟩
def endsR_len:∀(l:List Lo) (i:Nat) (st:List Nat) (g:List Int),(Ve i st g l).length=g.length
 |[],_,_,_=>rfl
 |o::l,i,st,g=>by
  unfold Ve;split
  ·rw[endsR_len];simp
  ·split
   ·split<;>rw[endsR_len]<;>simp
   ·rw[endsR_len];simp
def Vo:List (Int×Int)→Int→List Lo→Int
 |_,s,[]=>s
 |st,s,o::l=>if o.kind=16 then Vo ((s,(o.imm.toNat:Int))::st) 1 l
  else if o.kind=17 then (match st with
   |[]=>Vo [] s l
   |(j,t)::g=>Vo g (min 1125899906842624 ((if 1125899906842624/t<s then 1125899906842624 else s*t)+j)) l)
  else Vo st (min 1125899906842624 (s+1)) l
def Fr.stp:Fr Lo→Nat
 |.nil=>0
 |.op _ r=>1+r.stp
 |.loop o b _ r=>o.imm.toNat*(1+b.stp)+r.stp
def zsi{a b:Nat}(h:1≤a):b≤a*b:=L5 _ h
def zhp{I:Nat}:∀(f:Fr Lo) (j:List Nat) (st:List (Int×Int)) (s:Nat) (g:List Lo),f.wf Qi→f.regs I j=true→s+f.stp≤1125899906842624→Vo st s (f.flat++g)=Vo st ((s+f.stp:Nat):Int) g
 |.nil,_,st,s,g,_,_,_=>by simp[Fr.flat,Fr.stp]
 |.op o r,j,st,s,g,w,z,A=>by
  have H:=w.1;have K:¬o.kind=16:=λq=>by simp[Qi,q]at H
  have L:¬o.kind=17:=λq=>by simp[Qi,q]at H
  simp only[Fr.regs,Hw]at z;simp only[Fr.stp]at A ⊢;simp only[Fr.flat,I4,Vo,K,L,La];rw[(J:min (1125899906842624:Int) ((s:Int)+1)=((s+1:Nat):Int)),zhp r j st (s+1) g w.2 z.2.2.2.2.2.2 J]
  congr 1;omega
 |.loop o b e r,j,st,s,g,w,z,A=>by
  obtain⟨B,C,M,O⟩:=w;have D:o.kind=16:=by unfold Qi at B;split at B<;>first|assumption|(split at B<;>omega)
  have E:e.kind=17:=by
   unfold Qi at C;split at C
   ·omega
   ·split at C
    ·assumption
    ·omega
  simp only[Fr.regs,Hw,Ib]at z;obtain⟨_,_,m1,F,G⟩:=z;simp only[Fr.stp]at A ⊢;have P:=zsi (b:=1+b.stp) m1;simp only[Fr.flat,I4,Jg,Vo,D,Jl];rw[show (1:Int)=((1:Nat):Int) from rfl,zhp b _ _ 1 _ M F J];simp only[Vo,E];rw[Hv (Ac:¬(17:Int)=16),H7 trivial];have Q:¬(1125899906842624/((o.imm.toNat:Nat):Int)<((1+b.stp:Nat):Int)):=by
   have R:(1+b.stp)*o.imm.toNat≤1125899906842624:=by rw[Jq];omega
   have T:1+b.stp≤1125899906842624/o.imm.toNat:=(Nat.le_div_iff_mul_le m1).2 R;have U:((1125899906842624/o.imm.toNat:Nat):Int)=1125899906842624/((o.imm.toNat:Nat):Int):=N
   omega
  rw[Hv Q];have hm:(((1+b.stp:Nat):Int)*((o.imm.toNat:Nat):Int))=((o.imm.toNat*(1+b.stp):Nat):Int):=by rw[Jq];simp
  rw[hm,(J:min (1125899906842624:Int) (((o.imm.toNat*(1+b.stp):Nat):Int)+(s:Int))=((s+o.imm.toNat*(1+b.stp):Nat):Int)),zhp r j st _ g O G J]
  congr 1;omega
def zuf{f:Fr Lo}(w:f.wf Qi)(j:f.regs g vg=true)(z:f.stp≤1125899906842624):Vo [] 0 f.flat=f.stp:=by
 have h:=zhp f vg [] 0 [] w j J;simp only[Ji,Vo,Ix]at h;exact h
def T2(b:Bf)(x:List UInt64):List UInt64:=x++List.replicate (b.size.toNat-x.length) 0
def Sc(bs:List Bf)(X:List (List UInt64))(n:Nat):List (List UInt64):=(List.range n).map λi=>T2 (Ng bs i) (X.getD i [])
def Ol(g:Int)(bs:List Bf)(X:List (List UInt64)):Ms:=⟨0,true,List.replicate g.toNat 0,Sc bs X bs.length,[]⟩
def jo(g:List Bf)(j:List (List UInt64))(n:Nat):(Sc g j n).length=n:=by simp[Sc]
def zel(r:List UInt64)(x:Int)(v:UInt64):(Nc r x v).length=r.length:=Fb
structure SameLen (s s':Ms):Prop where
 r:s'.r.length=s.r.length
 b:s'.bufs.map List.length=s.bufs.map List.length
 i:s'.i=s.i+1
 l:s'.l.length=s.l.length+1
 f:s'.first=s.first
def wc{o:Lo}{s j:Ms}(h:U7 o s=some j):SameLen s j:=by
 unfold U7 at h;split at h
 ·split at h
  ·cases h;exact⟨by simp[zel],rfl,rfl,N,rfl⟩
  ·cases h
 ·split at h
  ·split at h
   ·rename_i z;cases h;refine⟨by simp[zel],?_,rfl,N,rfl⟩;show (s.bufs.set _ _).map List.length=_;rw[Jj,J1];refine List.ext_getElem? λA=>?_
    by_cases q:o.buf.toNat=A
    ·subst q;by_cases g:o.buf.toNat<s.bufs.length
     ·rw[H0 Bb];simp[T7,Hy,g]
     ·rw[Kz Bb,Kz Bb]
    ·rw[Hx q]
   ·cases h
  ·cases h;exact⟨by simp[zel],rfl,rfl,N,rfl⟩
def zud{os:List Lo}{es:List Int}{s:Ms}(h:os[s.i]?=none):∀n,Pe os es n s=some s
 |0=>rfl
 |n+1=>by
  show (match Rd os es s with|none=>none|some g=>Pe os es n g)=_;have:Rd os es s=some s:=by unfold Rd;rw[h]
  rw[this];exact zud h n
def ends_at:∀(f:Fr Lo) (i j:Nat) (o:Lo),f.wf Qi→f.flat[j]?=some o→o.kind=17→∃k p,(f.ends i)[j]?=some ((i+k:Nat):Int)∧f.flat[k]?=some p∧p.kind=16
 |.nil,_,_,_,_,h,_=>by simp[Fr.flat]at h
 |.op a r,i,j,o,w,h,z=>by
  have C:=w.1;have H:¬a.kind=17:=λq=>by simp[Qi,q]at C
  cases j with
  |zero=>simp[Fr.flat]at h;subst h;exact absurd z H
  |succ j =>
   simp only[Fr.flat,Io]at h;obtain⟨k,p,A,g,B⟩:=ends_at r (i+1) j o w.2 h z;exact⟨k+1,p,by simp only[Fr.ends,Io];rw[A];congr 2;omega,by simpa only[Fr.flat,Io] using g,B⟩
 |.loop a b e r,i,j,o,w,h,z=>by
  obtain⟨D,M,I,K⟩:=w;have E:a.kind=16:=by unfold Qi at D;split at D<;>first|assumption|(split at D<;>omega)
  cases j with
  |zero=>simp[Fr.flat]at h;subst h;omega
  |succ j =>
   simp only[Fr.flat,Io]at h;simp only[Fr.ends,Io];by_cases G:j<b.size
   ·rw[Ie (by rw[Fr.flat_len];exact G)]at h;obtain⟨k,p,A,g,B⟩:=ends_at b (i+1) j o I h z;have F:k<b.size:=by rw[←Fr.flat_len];exact (Hu.1 g).1
    refine⟨k+1,p,?_,?_,B⟩
    ·rw[Ie (by rw[Fr.ends_len];exact G),A];congr 2;omega
    ·simp only[Fr.flat,Io];rw[Ie (by rw[Fr.flat_len];exact F)];exact g
   ·rw[Il (by rw[Fr.flat_len];omega),Fr.flat_len]at h;rw[Il (by rw[Fr.ends_len];omega),Fr.ends_len];cases L:j-b.size with
    |zero =>
     refine⟨0,a,N,by simp[Fr.flat],E⟩
    |succ m =>
     rw[L]at h;simp only[Io]at h ⊢;obtain⟨k,p,A,g,B⟩:=ends_at r (i+b.size+2) m o K h z;refine⟨k+b.size+2,p,by rw[A];congr 2;omega,?_,B⟩;simp only[Fr.flat,Io];rw[Il (by rw[Fr.flat_len];omega),Fr.flat_len,(J:k+b.size+1-b.size=k+1),Io];exact g
noncomputable section
structure Pc where
 buf:Int
 at_:Int
 size:Int
def Pc.f(p:Pc):List LV:=[.i p.buf,.i p.at_,.i p.size]
def cK(d:Int)(n:UInt64):Lo:=⟨1,d,-1,-1,-1,-1,0,n⟩
def Qj(d a:Int):Lo:=⟨2,d,-1,a,-1,-1,0,0⟩
def M1(k d a b:Int):Lo:=⟨k,d,-1,a,b,-1,0,0⟩
def Qt(k d a g:Int):Lo:=⟨k,d,-1,a,-1,-1,0,iU g⟩
def Np(h l a b:Int):Lo:=⟨10,h,l,a,b,-1,0,0⟩
def Ni(k d g a b c:Int):Lo:=⟨k,d,g,a,b,c,0,0⟩
def Ns(d c a b:Int):Lo:=⟨13,d,-1,a,b,c,0,0⟩
def M9(d:Int)(p:Pc)(i off:Int):Lo:=⟨14,d,-1,i,-1,-1,p.buf,iU (p.at_+off)⟩
def Nd(p:Pc)(i off b:Int):Lo:=⟨15,-1,-1,i,b,-1,p.buf,iU (p.at_+off)⟩
def S0(d g:Int):Lo:=⟨16,d,-1,-1,-1,-1,0,iU g⟩
def Uf:Lo:=⟨17,-1,-1,-1,-1,-1,0,0⟩
def Kp(e:Nat)(z j:M0):Prop:=z.length≤j.length∧∀(q:Nat) (g:LObj),q≠e→(∀A m k st,g≠LObj.dyn A m 8 k st)→z[q]?=some g→j[q]?=some g
def Kp.refl(e:Nat)(G:M0):Kp e G G:=⟨H9 _,λ_ _ _ _ h=>h⟩
def Kp.trans{e:Nat}{a b c:M0}(h:Kp e a b)(k:Kp e b c):Kp e a c:=⟨Ja h.1 k.1,λq ob h1 h2 h3=>k.2 q ob h1 h2 (h.2 q ob h1 h2 h3)⟩
def Kp.cells{e:Nat}{a b:M0}(h:Kp e a b){q st:Nat}{l:List LV}(hq:q≠e)(hc:a[q]?=some (.cells l st)):b[q]?=some (.cells l st):=h.2 q _ hq (λ_ _ _ _ e=>Am) hc
def Kp.app{e:Nat}{a b:M0}(h:Kp e a b)(x:List LObj):Kp e a (b++x):=⟨by have:=h.1;simp;omega,λq ob h1 h2 h3=>by have h4:=h.2 q ob h1 h2 h3;rw[M7 (Hu.1 h4).1];exact h4⟩
def Kp.app'(e:Nat)(a:M0)(x:List LObj):Kp e a (a++x):=(Kp.refl e a).app x
def Nk(g:M0)(e:Nat)(ops:List Lo)(deep:Int):Prop:=∃(st:Nat) (v:LV),g[e]?=some (.cells [v,.i deep] st)∧Px 0 g v 8 ops.length (Pl ops)
def Px.set_cells{b:Nat}{G:M0}{v:LV}{n:Nat}{l:List LV}(h:Px b G v j n l){q st:Nat}{c:List LV}{ob:LObj}(hq:G[q]?=some (.cells c st)):Px b (G.set q ob) v j n l:=by
 obtain⟨h1,h2,h|⟨p,k,st,a,e,d⟩⟩:=h
 ·exact⟨h1,h2,.inl h⟩
 ·exact⟨h1,h2,.inr ⟨p,k,st,a,e,by rw[Hx (λq'=>by rw[q',d]at hq;cases hq)];exact d⟩⟩
def Px.row{b:Nat}{G:M0}{v:LV}{esz n:Nat}{l:List LV}(h:Px b G v esz n l){q j:Nat}(e:v=.dy q j):∃R m k st,G[q]?=some (.dyn R m esz k st):=by
 obtain⟨_,_,⟨h,_⟩|⟨p,k,st,_,e2,d⟩⟩:=h
 ·rw[h]at e;cases e
 ·rw[e2]at e;cases e;exact⟨_,_,_,_,d⟩
def Nk.app{G:M0}{e:Nat}{ops:List Lo}{deep:Int}(h:Nk G e ops deep)(x:List LObj):Nk (G++x) e ops deep:=by
 obtain⟨st,v,h1,h2⟩:=h;exact⟨st,v,by rw[M7 (Hu.1 h1).1];exact h1,h2.push_end⟩
end
section
section made
variable {wk : Bool → Int} {a b Qn : Nat → Int} {sec : Nat → Bool} {done busy : List Nat} {iv : Nat → Hl} {ps : Bool → St} {cur base : Int} {n : Nat}
end made
end
section
def qq{α:Type}(k:α→Int)(l:List α):Prop:=l.Pairwise λx y=>k x≤k y
section sym
variable {α : Type} {k : α → Int}
def qq.last{l:List α}(h:qq k l){u z:α}(hu:u∈l)(hz:l.getLast?=some z):k u≤k z:=by
 obtain⟨ys,rfl⟩:=List.getLast?_eq_some_iff.1 hz;have:=List.pairwise_append.1 h;rcases Ip.1 hu with q|q
 ·exact this.2.2 u q z N
 ·rw[List.mem_singleton.1 q];exact Me _
def qq.head{l:List α}(h:qq k l){u z:α}(hu:u∈l)(hz:l.head?=some z):k z≤k u:=by
 obtain⟨ys,rfl⟩:=List.head?_eq_some_iff.1 hz;have:=List.pairwise_cons.1 h;rcases If.1 hu with q|q
 ·rw[q];exact Me _
 ·exact this.1 u q
def zzw{l:List α}{u:α}(h:u∈l):∃j,l.getLast?=some j:=by
 cases g:l.getLast? with
 |none=>rw[List.getLast?_eq_none_iff]at g;subst g;cases h
 |some j=>exact⟨j,rfl⟩
def zxw{l:List α}{u:α}(h:u∈l):∃g,l.head?=some g:=by
 cases l with
 |nil=>cases h
 |cons g t=>exact⟨g,rfl⟩
def halves{z A B C:List α}(D:qq k (z++A))(E:qq k (B++C))(F:∀u w,z.getLast?=some u→C.head?=some w→k u≤k w)(G:∀u w,B.getLast?=some u→A.head?=some w→k u≤k w) :
  ∀u∈z++B,∀w∈A++C,k u≤k w:=by
 obtain⟨H,I,K⟩:=List.pairwise_append.1 D;obtain⟨L,M,O⟩:=List.pairwise_append.1 E;intro u hu w hw;rcases Ip.1 hu with hu|hu<;>rcases Ip.1 hw with hw|hw
 ·exact K u hu w hw
 ·obtain⟨P,g⟩:=zzw hu;obtain⟨y,j⟩:=zxw hw;exact Int.le_trans (qq.last H hu g) (Int.le_trans (F P y g j) (qq.head M hw j))
 ·obtain⟨P,g⟩:=zzw hu;obtain⟨y,j⟩:=zxw hw;exact Int.le_trans (qq.last L hu g) (Int.le_trans (G P y g j) (qq.head I hw j))
 ·exact O u hu w hw
end sym
end
def zyg(g:List Vr):Sk g (Vc 0 g) []=Sm g:=by
 unfold Sk;cases hv:Sm g with
 |false=>rfl
 |true =>
  have D:=zjq hv;have z:=startOs_len g 0;obtain⟨m,A,E,B⟩:=zet g 0 (dh g) rfl (by simp[dh]) (λF j=>J) (λF _ j=>by
   unfold gb dh;rw[Hy,Jy,Vl j];rfl)
  rw[A];have hm:sp g m=true:=by
   unfold sp;rw[Jx];intro i hi;simp[B i (J9.1 hi)]
  have C:(Vc 0 g).length≤4096:=J
  simp[hm,C]
def Pv(l:List Pc)(n:Nat):Pc:=l.getD n ⟨0,0,0⟩
def d9(g:List Bf):Int :=
 if 32<g.length then 3 else if (g.any λb=>decide (65536<b.size))=true then 3 else if (g.any λb=>decide (b.size<1) || (decide (b.kind<1) || decide (3<b.kind)))=true then 2 else 0
def V8(g:List Bf)(x:Pc):Bool:=decide (0≤x.buf)&&(decide (x.buf<g.length)&&(decide (1≤x.size)&&(decide (x.size≤32768)&&(decide (0≤x.at_)&&(decide (x.at_≤(Ng g x.buf.toNat).size)&&decide (x.size≤(Ng g x.buf.toNat).size-x.at_))))))
def f0(g:List Bf)(v:Vr)(x:Pc):Bool :=
 V8 g x&&(decide (x.size=v.limbs)&&(!(decide ((Ng g x.buf.toNat).kind=1) && !R9 v)&&(!(decide ((Ng g x.buf.toNat).kind=2)&&R9 v)&&(v.sec==(Ng g x.buf.toNat).sec))))
def V5(g:List Bf)(s:Bool)(x:Pc):Bool:=V8 g x&&(!decide ((Ng g x.buf.toNat).kind=1)&&((Ng g x.buf.toNat).sec==s))
def Vz(j:List Vr)(g:List Bf)(z:List Pc)(A B:Pc):Bool :=
 Sm j&&(decide (1≤g.length)&&(decide (z.length=j.length)&&(decide (d9 g=0)&&(((List.range j.length).all λi=>f0 g (gv j i) (Pv z i))&&(V5 g false A&&V5 g true B)))))
def Xf(l:List Pc):List LV:=l.flatMap Pc.f
section
def M5:List Lo→Fr Lo
 |[]=>.nil
 |o::l=>.op o (M5 l)
def Fr.cat{α:Type}:Fr α→Fr α→Fr α
 |.nil,g=>g
 |.op o r,g=>.op o (r.cat g)
 |.loop o b e r,g=>.loop o b e (r.cat g)
def flat_frL:∀l:List Lo,(M5 l).flat=l
 |[]=>rfl
 |o::l=>by rw[M5,Fr.flat,flat_frL l]
def Pa{j:Type}:∀f g:Fr j,(f.cat g).flat=f.flat++g.flat
 |.nil,g=>rfl
 |.op o r,g=>by rw[Fr.cat,Fr.flat,Fr.flat,Pa r g];rfl
 |.loop o b e r,g=>by rw[Fr.cat,Fr.flat,Fr.flat,Pa r g];simp
def frL_app:∀a b:List Lo,M5 (a++b)=(M5 a).cat (M5 b)
 |[],_=>rfl
 |o::a,b=>by rw[I4,M5,M5,Fr.cat,frL_app a b]
def stp_cat:∀f g:Fr Lo,(f.cat g).stp=f.stp+g.stp
 |.nil,g=>by simp[Fr.cat,Fr.stp]
 |.op o r,g=>F2
 |.loop o b e r,g=>F2
def R0(l:List Lo):(M5 l).stp=l.length:=by
 induction l with
 |nil=>rfl
 |cons o l g=>rw[M5,Fr.stp,g,Ig];omega
section ex
variable {sz : Nat → Nat} {s : Fs}
def exZ_cat:∀(f g:Fr Lo) (s:Fs),S9 sz (f.cat g) s=(S9 sz f s).bind (S9 sz g)
 |.nil,g,s=>rfl
 |.op o r,g,s=>by
  rw[Fr.cat,S9,S9];cases Qe sz o s with
  |none=>rfl
  |some j=>exact exZ_cat r g j
 |.loop o b e r,g,s=>by
  rw[Fr.cat,S9,S9];cases ko (S9 sz b) o.d.toNat o.imm.toNat 0 s with
  |none=>rfl
  |some j=>exact exZ_cat r g j
def Tx(sz:Nat→Nat)(f:Fr Lo)(s:Fs)(j:Fs→Prop):Prop:=∃g,S9 sz f s=some g∧j g
def Tx.nil{Q:Fs→Prop}(h:Q s):Tx sz .nil s Q:=⟨s,rfl,h⟩
def Tx.op{o:Lo}{r:Fr Lo}{s1:Fs}{Q:Fs→Prop}(h:Qe sz o s=some s1)(k:Tx sz r s1 Q):Tx sz (.op o r) s Q:=by
 obtain⟨s',h1,h2⟩:=k;exact⟨s',by rw[S9,h];exact h1,h2⟩
def Tx.cat{f g:Fr Lo}{Q R:Fs→Prop}(h:Tx sz f s R)(k:∀s',R s'→Tx sz g s' Q):Tx sz (f.cat g) s Q:=by
 obtain⟨s1,h1,h2⟩:=h;obtain⟨s2,h3,h4⟩:=k s1 h2;exact⟨s2,by rw[exZ_cat,h1];exact h3,h4⟩
def Tx.mono{f:Fr Lo}{Q R:Fs→Prop}(h:Tx sz f s R)(k:∀s',R s'→Q s'):Tx sz f s Q:=by
 obtain⟨s1,h1,h2⟩:=h;exact⟨s1,h1,k s1 h2⟩
def it_ex{f:Fs→Option Fs}{d:Nat}{z:Nat→Fs→Prop}:∀(n j:Nat) (s:Fs),z j s→(∀i s,i<j+n→z i s→∃g,f (s.put d (UInt64.ofNat i))=some g∧z (i+1) g)→∃g,ko f d n j s=some g∧z (j+n) g
 |0,j,s,h,_=>⟨s,rfl,h⟩
 |n+1,j,s,h,k=>by
  obtain⟨A,B,C⟩:=k j s J h;obtain⟨D,E,F⟩:=it_ex n (j+1) A C λi s hi G=>k i s J G
  refine⟨D,?_,by rw[(J:j+(n+1)=j+1+n)];exact F⟩;show (match f (s.put d (UInt64.ofNat j)) with|none=>none|some g=>ko f d n (j+1) g)=_;rw[B];exact E
def Tx.loop{o e:Lo}{b r:Fr Lo}{Q:Fs→Prop}(I:Nat→Fs→Prop)(h0:I 0 s)(h1:∀i s,i<o.imm.toNat→I i s→Tx sz b (s.put o.d.toNat (UInt64.ofNat i)) (I (i+1)))(h2:∀s',I o.imm.toNat s'→Tx sz r s' Q):Tx sz (.loop o b e r) s Q:=by
 obtain⟨s1,h3,h4⟩:=it_ex o.imm.toNat 0 s h0 λi s hi hI=>h1 i s J hI
 rw[Ix]at h4;obtain⟨s2,h5,h6⟩:=h2 s1 h4;exact⟨s2,by rw[S9,h3];exact h5,h6⟩
def Yz(s:Fs)(d:Nat)(v:UInt64):Rb s (d:Int) v=s.put d v:=by unfold Rb;rw[H7 J];rfl
def da(s:Fs)(v:UInt64):Rb s (-1) v=s:=by unfold Rb;rw[Hv J]
def Ym(s:Fs)(d:Nat):Sz s (d:Int)=s.r d:=by unfold Sz;rw[Hv J];rfl
def nu(s:Fs):Sz s (-1)=0:=by unfold Sz;rw[H7 J]
def Vt{d:Nat}{v:UInt64}:Qe sz (cK d v) s=some (s.put d v):=by simp[Qe,cK,Nq,Yz,da]
def zmb{d a:Nat}:Qe sz (Qj d a) s=some (s.put d (s.r a)):=by simp[Qe,Qj,Nq,Yz,da,Ym]
def zdr{d a b:Nat}:Qe sz (M1 3 d a b) s=some (s.put d (s.r a+s.r b)):=Cv
def zzm{d a b:Nat}:Qe sz (M1 4 d a b) s=some (s.put d (s.r a-s.r b)):=Cv
def zym{d a b:Nat}:Qe sz (M1 6 d a b) s=some (s.put d (s.r a ||| s.r b)):=Cv
def Zs{d a b:Nat}:Qe sz (M1 7 d a b) s=some (s.put d (s.r a ^^^ s.r b)):=Cv
def zkj{h l a b:Nat}:Qe sz (Np h l a b) s=some ((s.put h (ai (s.r a) (s.r b))).put l (s.r a*s.r b)):=by simp[Qe,Np,Nq,Yz,Ym]
def zso{d e a b c:Nat}:Qe sz (Ni 11 d e a b c) s=some ((s.put d (Qb (s.r a) (s.r b) (decide (s.r c%2=1))).1).put e (Nv (Qb (s.r a) (s.r b) (decide (s.r c%2=1))).2)):=by simp[Qe,Ni,Nq,Yz,Ym]
def zkc{d e a b c:Nat}:Qe sz (Ni 12 d e a b c) s=some ((s.put d (subC (s.r a) (s.r b) (decide (s.r c%2=1))).1).put e (Nv (subC (s.r a) (s.r b) (decide (s.r c%2=1))).2)):=by simp[Qe,Ni,Nq,Yz,Ym]
def znk{d c a b:Nat}:Qe sz (Ns d c a b) s=some (s.put d (if s.r c%2=1 then s.r a else s.r b)):=by
 simp[Qe,Ns,Nq,Yz,da,Ym]
def opZ_ld{d i:Nat}{p:Pc}{b n:Nat}(j:p.buf=(b:Int))(A:(iU (p.at_+z)+s.r i).toNat=n)(g:n<sz b):Qe sz (M9 d p i z) s=some (s.put d (s.m b n)):=by
 simp[Qe,M9,Yz,da,Ym,j,A,g]
def sx{d:Nat}{p:Pc}{b n:Nat}(j:p.buf=(b:Int))(A:(iU (p.at_+z)).toNat=n)(g:n<sz b):Qe sz (M9 d p (-1) z) s=some (s.put d (s.m b n)):=by
 simp[Qe,M9,Yz,da,nu,j,A,g]
def opZ_st{v i:Nat}{p:Pc}{b n:Nat}(j:p.buf=(b:Int))(A:(iU (p.at_+z)+s.r i).toNat=n)(g:n<sz b):Qe sz (Nd p i z v) s=some (s.sto b n (s.r v)):=by
 simp[Qe,Nd,da,Ym,j,A,g]
def xu{v:Nat}{p:Pc}{b n:Nat}(j:p.buf=(b:Int))(A:(iU (p.at_+z)).toNat=n)(g:n<sz b):Qe sz (Nd p (-1) z v) s=some (s.sto b n (s.r v)):=by
 simp[Qe,Nd,da,nu,Ym,j,A,g]
end ex
def M3(s:Fs)(d x:Nat)(v:UInt64):(s.put d v).r x=if x=d then v else s.r x:=rfl
def Ot(s:Fs)(d:Nat)(v:UInt64):(s.put d v).m=s.m:=rfl
def Si(s:Fs)(b n:Nat)(v:UInt64):(s.sto b n v).r=s.r:=rfl
def Zz(s:Fs)(b n x y:Nat)(v:UInt64):(s.sto b n v).m x y=if x=b∧y=n then v else s.m x y:=rfl
def Q1(s:Ms):Fs:=⟨λx=>s.r.getD x 0,λb n=>(s.bufs.getD b []).getD n 0⟩
def U4(s:Ms):Nat→Nat:=λb=>(s.bufs.getD b []).length
def Rep.abs(s:Ms)(h:s.r.length=64):Rep s.bufs.length (U4 s) s (Q1 s):=⟨h,λ_ _=>rfl,rfl,λ_ _=>rfl,λ_ _ _ _=>rfl⟩
end
def zhm{d:Int}{v:UInt64}(h:0≤d∧d<z):Ps z Z (cK d v)=true:=by
 simp[Ps,cK,Q5,Qq,Qr,Q7,V4,Wd,Oz,h]
def zyo{d a:Int}(h:0≤d∧d<z)(g:0≤a∧a<z):Ps z Z (Qj d a)=true:=by
 simp[Ps,Qj,Q5,Qq,Qr,Q7,V4,Wd,Oz,h,g]
def zcd{k d a b:Int}(B:3≤k∧k≤7)(h:0≤d∧d<z)(g:0≤a∧a<z)(j:0≤b∧b<z):Ps z Z (M1 k d a b)=true:=by
 have A:k=3∨k=4∨k=5∨k=6∨k=7:=J
 rcases A with rfl|rfl|rfl|rfl|rfl<;>simp[Ps,M1,Q5,Qq,Qr,Q7,V4,Wd,Oz,h,g,j]
def zcq{d e a b:Int}(h:0≤d∧d<z)(he:0≤e∧e<z)(g:0≤a∧a<z)(j:0≤b∧b<z)(A:d≠e):Ps z Z (Np d e a b)=true:=by
 simp[Ps,Np,Q5,Qq,Qr,Q7,V4,Wd,Oz,h,g,j,he,A]
def zxa{k d e a b c:Int}(g:k=11∨k=12)(h:0≤d∧d<z)(he:0≤e∧e<z)(j:0≤a∧a<z)(A:0≤b∧b<z)(B:0≤c∧c<z)(C:d≠e):Ps z Z (Ni k d e a b c)=true:=by
 rcases g with rfl|rfl<;>simp[Ps,Ni,Q5,Qq,Qr,Q7,V4,Wd,Oz,h,j,A,B,he,C]
def zwf{d c a b:Int}(h:0≤d∧d<z)(g:0≤c∧c<z)(j:0≤a∧a<z)(A:0≤b∧b<z):Ps z Z (Ns d c a b)=true:=by
 simp[Ps,Ns,Q5,Qq,Qr,Q7,V4,Wd,Oz,h,j,A,g]
def zol{d i:Int}{p:Pc}(h:0≤d∧d<z)(hi:i=-1∨0≤i∧i<z)(g:0≤p.buf∧p.buf<Z.length)(hm:i=-1→iU (p.at_+B)<iU (Ng Z p.buf.toNat).size):Ps z Z (M9 d p i B)=true:=by
 rcases hi with rfl|hi
 ·simp[Ps,M9,Q5,Qq,Qr,Q7,V4,Wd,Oz,h,g,hm rfl]
 ·have:i≠-1:=J
  simp[Ps,M9,Q5,Qq,Qr,Q7,V4,Wd,Oz,h,g,hi,this]
def zr3{v i:Int}{p:Pc}(h:0≤v∧v<z)(hi:i=-1∨0≤i∧i<z)(g:0≤p.buf∧p.buf<Z.length)(j:(Ng Z p.buf.toNat).kind≠1)(hm:i=-1→iU (p.at_+B)<iU (Ng Z p.buf.toNat).size):Ps z Z (Nd p i B v)=true:=by
 rcases hi with rfl|hi
 ·simp[Ps,Nd,Q5,Qq,Qr,Q7,V4,Wd,Oz,h,g,hm rfl,j]
 ·have:i≠-1:=J
  simp[Ps,Nd,Q5,Qq,Qr,Q7,V4,Wd,Oz,h,g,hi,this,j]
def O2(g:Int)(j:List Bf):List Int→List Lo→Prop
 |_,[]=>True
 |S,o::l=>Ps g j o=true∧(o.kind≠16∧o.kind≠17)∧(∀x∈Oc o,x∈S)∧O2 g j (M6 o++S) l
def zn0{g:Int}{A:List Bf}:∀{l:List Lo} {S z:List Int},(∀x∈S,x∈z)→O2 g A S l→O2 g A z l
 |[],_,_,_,_=>trivial
 |o::l,S,z,h,k=>⟨k.1,k.2.1,λx j=>h x (k.2.2.1 x j),zn0 (λx j=>by
   rcases Ip.1 j with j|j
   ·exact K3 _ j
   ·exact Iu _ (h x j)) k.2.2.2⟩
def zsv{g:Int}{z:List Bf}:∀{a b:List Lo} {S:List Int},O2 g z S a→O2 g z ((a.flatMap M6)++S) b→O2 g z S (a++b)
 |[],b,S,_,k=>by simpa using k
 |o::a,b,S,h,k=>⟨h.1,h.2.1,h.2.2.1,zsv h.2.2.2 (zn0 (λx j=>by
   simp only[Lh,Ip]at j ⊢;rcases j with (j|j)|j
   ·exact .inr (.inl j)
   ·exact .inl j
   ·exact .inr (.inr j)) k)⟩
def ztz{a b:List Lo}{S:List Int}(h:O2 z Z S a)(k:O2 z Z S b):O2 z Z S (a++b) :=
 zsv h (zn0 (λ_ g=>Iu _ g) k)
def ee(g:Int)(m:List Bool)(S:List Int):Prop:=(m.length:Int)=g∧∀x∈S,0≤x∧x<g∧O1 m x=true
def z8v{m:List Bool}{a x:Int}(g:0≤a∧a<m.length)(j:0≤x):O1 (m.set a.toNat true) x=true↔x=a∨O1 m x=true:=by
 unfold O1;rw[d8 _ _ _ _ _ J];by_cases e:x.toNat=a.toNat
 ·rw[H7 e];simp;left;omega
 ·rw[Hv e];constructor
  ·exact .inr
  ·rintro (rfl|h)
   ·exact absurd rfl e
   ·exact h
def ee.fold{regs:Int}:∀(mk:List Int) (m:List Bool) (S:List Int),ee regs m S→(∀x∈mk,0≤x∧x<regs)→ee regs (mk.foldl (λm r=>m.set r.toNat true) m) (mk++S)
 |[],_,_,h,_=>h
 |a::mk,m,S,h,hr=>by
  have ha:=hr a (I5 ..);have h1:ee regs (m.set a.toNat true) (a::S):=by
   refine⟨by simpa using h.1,λx hx=>?_⟩;rcases If.1 hx with rfl|hx
   ·exact⟨ha.1,ha.2,(z8v ⟨ha.1,by rw[h.1];exact ha.2⟩ ha.1).2 (.inl rfl)⟩
   ·obtain⟨h1,h2,h3⟩:=h.2 x hx;exact⟨h1,h2,(z8v ⟨ha.1,by rw[h.1];exact ha.2⟩ h1).2 (.inr h3)⟩
  have h2:=ee.fold mk _ _ h1 λx hx=>hr x (Ik _ hx)
  refine⟨h2.1,λx hx=>h2.2 x ?_⟩;simp only[Ip,If]at hx ⊢;rcases hx with (hx|hx)|hx
  ·exact .inr (.inl hx)
  ·exact .inl hx
  ·exact .inr (.inr hx)
def oh{m:List Bool}{ls:List Int}{o:Lo}(B:Ps z Z o=true)(g:o.kind≠16)(j:o.kind≠17)(hm:∀x∈M6 o,¬x∈ls)(C:∀x∈Oc o,O1 m x=true) :
  Uu z Z m ls o=(0,(M6 o).foldl (λm r=>m.set r.toNat true) m,ls):=by
 unfold Uu;rw[Hv (by rw[B];decide),Hv j,Hv,Hv (λq=>g q.1),Hv (λq=>g q.1),Hv,Hv g]
 ·rw[I9];rintro⟨x,A,h⟩;rw[C x A]at h;cases h
 ·rw[I9];rintro⟨x,A,h⟩;exact hm x A At
def zuy{o:Lo}(h:Ps z Z o=true):∀x∈M6 o,0≤x∧x<z:=by
 unfold Ps at h;simp only[Hw,Ib]at h;obtain⟨⟨B,C⟩,d,e,_⟩:=h;have j:∀{x:Int},Q5 z x true=true→0≤x∧x<z:=λh=>by unfold Q5 at h;simpa using h
 intro x g;unfold M6 at g;split at g
 ·rename_i A;have hd:Qq o.kind=true:=by rcases A with h|h|h<;>rw[h]<;>rfl
  have he:Qr o.kind=true:=by rcases A with h|h|h<;>rw[h]<;>rfl
  rw[hd]at d;rw[he]at e;simp at g;rcases g with rfl|rfl
  ·exact j d
  ·exact j e
 ·split at g
  ·cases g
  ·rename_i A;have hd:Qq o.kind=true:=by simp[Qq];omega
   rw[hd]at d;simp at g;subst g;exact j d
def ff(n r:Int):List Lo:=[cK (r+3) 3,Np (r+1) r n (r+3),cK (r+3) 2,M1 7 r r (r+3)]
def zr9(n r:Int):List Lo:=[Np (r+1) (r+2) n r,M1 4 (r+2) (r+3) (r+2),Np (r+1) r r (r+2)]
def Xj(n r:Int)(i:Nat):List Lo:=(List.range i).flatMap λ_=>zr9 n r
def zcl(n r:Int)(i:Nat):Xj n r (i+1)=Xj n r i++zr9 n r:=by simp[Xj,List.range_succ]
def zi8(n r:Int)(i:Nat):(Xj n r i).length=3*i:=by
 induction i with
 |zero=>rfl
 |succ i g=>rw[zcl,H8,g];simp[zr9];omega
def Un(n r:Int):List Lo:=ff n r++(Xj n r 5++[cK (r+3) 0,M1 4 r (r+3) r])
def xor2(x:Nat):x ^^^ 2=if x%4<2 then x+2 else x-2:=by
 have B:(x ^^^ 2)/4=x/4:=by
  have:=Nat.xor_div_two_pow (a:=x) (b:=2) (n:=2);simpa using this
 have g:(x ^^^ 2)%4=(x%4) ^^^ 2:=by
  have:=Nat.xor_mod_two_pow (a:=x) (b:=2) (n:=2);simpa using this
 have j:x%4<4:=Kg _ Ac;have A:(x%4) ^^^ 2=if x%4<2 then x%4+2 else x%4-2:=by
  generalize x%4=c at j ⊢
  match c,j with
  |0,_=>rfl
  |1,_=>rfl
  |2,_=>rfl
  |3,_=>rfl
 rw[A]at g;split at g<;>rename_i z
 ·rw[H7 z];omega
 ·rw[Hv z];omega
def jk(k c:Nat)(j:c%2=1):∃t,k*(3*k+c)=2*t:=by
 have h:k*(3*k+c)%2=0:=by
  have g:k%2=0∨k%2=1:=J
  rw[Jr,Nat.add_mod,Jr 3 k];rcases g with g|g<;>simp[g,j]
 exact⟨k*(3*k+c)/2,J⟩
def reck0(a:UInt64)(h:a%2=1):∃t:UInt64,a*((a*3) ^^^ 2)=1+32*t:=by
 have H:a.toNat%2=1:=by
  have:=congrArg UInt64.toNat h;simpa using this
 have g:((a*3) ^^^ 2:UInt64).toNat=(a.toNat*3%18446744073709551616) ^^^ 2:=N
 rw[xor2]at g;have E:a.toNat*3%18446744073709551616<18446744073709551616:=Kg _ Ac;obtain⟨k,D⟩:∃k,a.toNat=4*k+a.toNat%4:=⟨a.toNat/4,J⟩;have F:a.toNat*3%18446744073709551616%4=a.toNat*3%4:=Nat.mod_mod_of_dvd _ Ac;have A:a=UInt64.ofNat a.toNat:=N
 have z:a.toNat%4=1∨a.toNat%4=3:=J
 rcases z with z|z
 ·rw[Hv J]at g;have j:(a*3) ^^^ 2=a*3-2:=by
   apply UInt64.toNat.inj;rw[g,Lr];simp;omega
  obtain⟨t,B⟩:=jk k 1 rfl;have G:a=4*UInt64.ofNat k+1:=by rw[A,D,z];simp
  have C:UInt64.ofNat k*(3*UInt64.ofNat k+1)=2*UInt64.ofNat t:=by
   have:=congrArg UInt64.ofNat B;simpa using this
  refine⟨UInt64.ofNat t,?_⟩;rw[j];generalize UInt64.ofNat k=b at *;generalize UInt64.ofNat t=u at *;clear g A
  grind
 ·rw[H7 J]at g;have j:(a*3) ^^^ 2=a*3+2:=by
   apply UInt64.toNat.inj;rw[g,Jh];simp;omega
  obtain⟨t,B⟩:=jk k 5 rfl;have G:a=4*UInt64.ofNat k+3:=by rw[A,D,z];simp
  have C:UInt64.ofNat k*(3*UInt64.ofNat k+5)=2*UInt64.ofNat t:=by
   have:=congrArg UInt64.ofNat B;simpa using this
  refine⟨UInt64.ofNat t+1,?_⟩;rw[j];generalize UInt64.ofNat k=b at *;generalize UInt64.ofNat t=u at *;clear g A
  grind
def wr(a x:UInt64):UInt64:=x*(2-a*x)
def zpr(a x:UInt64):1-a*wr a x=(1-a*x)*(1-a*x):=by unfold wr;grind
def zrt(a:UInt64):UInt64:=wr a (wr a (wr a (wr a (wr a ((a*3) ^^^ 2)))))
def sq32(t:UInt64):((32*t)*(32*t))*((32*t)*(32*t))=1048576*(t*t*(t*t)):=Eg
def zyx(a:UInt64)(h:a%2=1):a*zrt a=1:=by
 obtain⟨t,j⟩:=reck0 a h;have g:1-a*((a*3) ^^^ 2)=32*(0-t):=by rw[j];grind
 generalize 0-t=u at g;have z:1-a*zrt a=0:=by
  unfold zrt;rw[zpr,zpr,zpr,zpr,zpr,g];have A:(32*u)*(32*u)*((32*u)*(32*u))=1048576*(u*u*(u*u)):=sq32 u;rw[A];generalize u*u*(u*u)=w;have B:(1048576*w)*(1048576*w)*((1048576*w)*(1048576*w))=0:=by
   have:(1048576*w)*(1048576*w)*((1048576*w)*(1048576*w))=(1048576*1048576*(1048576*1048576))*(w*w*(w*w)):=Eg
   rw[this,(Ac:(1048576*1048576*(1048576*1048576):UInt64)=0)];simp
  rw[B];simp
 have:a*zrt a=1-(1-a*zrt a):=Eg
 rw[this,z];rfl
def yg(a x:UInt64):Nat→UInt64
 |0=>x
 |i+1=>wr a (yg a x i)
def uq{I:Nat→Nat}{s:Fs}{n r:Nat}(h:¬(r≤n∧n≤r+3)):Tx I (M5 (Un n r)) s λg=>g.r r=0-zrt (s.r n)∧g.m=s.m∧∀x,¬(r≤x∧x≤r+3)→g.r x=s.r x:=by
 have L:Un (n:Int) (r:Int)=[cK ((r+3:Nat):Int) 3,Np ((r+1:Nat):Int) (r:Nat) (n:Nat) ((r+3:Nat):Int),cK ((r+3:Nat):Int) 2,M1 7 (r:Nat) (r:Nat) ((r+3:Nat):Int)]++(Xj n r 5++[cK ((r+3:Nat):Int) 0,M1 4 (r:Nat) ((r+3:Nat):Int) (r:Nat)]):=rfl;have j:∀(i:Nat) (s:Fs),s.r (r+3)=2→Tx I (M5 (Xj n r i)) s λg=>g.r (r+3)=2∧g.r r=yg (s.r n) (s.r r) i∧g.m=s.m∧∀x,¬(r≤x∧x≤r+3)→g.r x=s.r x:=by
  intro i
  induction i with
  |zero=>intro s D;exact .nil ⟨D,rfl,rfl,λ_ _=>rfl⟩
  |succ i M =>
   intro s D;rw[zcl,frL_app];refine (M s D).cat λK ⟨C,E,F,z⟩=>?_
   have O:zr9 (n:Int) (r:Int)=[Np ((r+1:Nat):Int) ((r+2:Nat):Int) (n:Nat) (r:Nat),M1 4 ((r+2:Nat):Int) ((r+3:Nat):Int) ((r+2:Nat):Int),Np ((r+1:Nat):Int) (r:Nat) (r:Nat) ((r+2:Nat):Int)]:=rfl;rw[O];refine .op zkj (.op zzm (.op zkj (.nil ⟨?_,?_,?_,λx A=>?_⟩)))
   ·simp[M3,C]
   ·have P:=z n h;have Q:¬n=r:=J
    simp[M3,C,E,P,wr,yg]
   ·simp[Ot,F]
   ·have B:¬x=r:=J
    have G:¬x=r+1:=J
    have T:¬x=r+2:=J
    simp[M3,B,G,T,z x A]
 rw[L,frL_app];refine Tx.cat (R:=λg=>g.r (r+3)=2∧g.r r=(s.r n*3) ^^^ 2∧g.m=s.m∧∀x,¬(r≤x∧x≤r+3)→g.r x=s.r x) (.op Vt (.op zkj (.op Vt (.op Zs (.nil ⟨?_,?_,?_,λx A=>?_⟩))))) λK ⟨C,E,F,z⟩=>?_
 ·simp[M3]
 ·have U:¬n=r+3:=J
  simp[M3,U]
 ·simp[Ot]
 ·have B:¬x=r:=J
  have G:¬x=r+1:=J
  have H:¬x=r+3:=J
  simp[M3,B,G,H]
 rw[frL_app];refine (j 5 K C).cat λZ ⟨b1,V,X,Y⟩=>?_
 refine .op Vt (.op zzm (.nil ⟨?_,?_,λx A=>?_⟩))
 ·simp[M3,V,E,z n h,zrt,yg]
 ·simp[Ot,X,F]
 ·have B:¬x=r:=J
  have H:¬x=r+3:=J
  simp[M3,B,H,Y x A,z x A]
def dg{n r:Int}{S:List Int}(j:0≤n∧n<64)(B:0≤r∧r+4<64)(z:n∈S)(g:r∈S)(A:r+3∈S):O2 64 Z S (zr9 n r):=by
 refine⟨zcq J J j J J,Fg,?_,zcd J J J J,by simp[M1],?_,zcq J J J J J,Fg,?_,trivial⟩
 ·simp[Oc,Np,z,g]
 ·simp[Oc,M1,M6,Np,A]
 ·simp[Oc,M6,Np,M1,g]
def zqm{C:List Bf}{n r:Int}{S:List Int}(g:0≤n∧n<64)(j:0≤r∧r+4<64)(z:n∈S)(A:r∈S)(B:r+3∈S):∀i,O2 64 C S (Xj n r i)
 |0=>trivial
 |i+1=>by rw[zcl];exact ztz (zqm g j z A B i) (dg g j z A B)
def mi{n r:Int}{S:List Int}(g:0≤n∧n<64)(z:0≤r∧r+4<64)(j:n∈S):O2 64 Z S (Un n r):=by
 refine zsv (a:=ff n r) ?_ ?_
 ·refine⟨zhm J,Dk,Gm,zcq J J g J J,Fg,?_,zhm J,Dk,Gm,zcd J J J J,by simp[M1],?_,trivial⟩
  ·simp[Oc,M6,Np,cK,j]
  ·simp[Oc,M6,Np,cK,M1]
 ·refine ztz (zqm g z (Iu _ j) ?_ ?_ 5) ?_
  ·simp[ff,M6,cK,Np,M1]
  ·simp[ff,M6,cK,Np,M1]
  ·refine⟨zhm J,Dk,Gm,zcd J J J J,by simp[M1],?_,trivial⟩;simp[Oc,M6,cK,M1,ff,Np]
def zpb(n r:Int):(Un n r).length=21:=by
 unfold Un;rw[H8,H8,zi8];rfl
def iU1:iU 1=1:=by rw[gq];rfl
noncomputable section
def Tv(e:Nat)(d a b n t:Pc)(g:Int):List LV :=
 [.ptr e 0,.i d.buf,.i d.at_,.i d.size,.i a.buf,.i a.at_,.i a.size,.i b.buf,.i b.at_,.i b.size,.i n.buf,.i n.at_,.i n.size,.i t.buf,.i t.at_,.i t.size,
  .i g,.i (g+1),.i (g+2),.i (g+3),.i (g+4),.i (g+5),.i (g+6),.i (g+7),.i (g+8),.i (g+9),.i (g+10)]
def Nr(R a b:Int):List Lo:=[Np (R+5) (R+6) a b,Ni 11 (R+6) (R+8) (R+6) (R+7) R,Ni 11 (R+6) (R+9) (R+6) (R+3) R,M1 3 (R+5) (R+5) (R+8),M1 3 (R+3) (R+5) (R+9)]
def Ok(t:Pc)(k R:Int):List Lo:=[M9 (R+7) t (-1) k,Ni 11 (R+7) (R+8) (R+7) (R+3) R]
def Og(d times:Int)(b:Fr Lo):Fr Lo:=if times<1 then .nil else .loop (S0 d times) b Uf .nil
def Vy(d g:Int)(b:Fr Lo):(Og d g b).flat=if g<1 then [] else S0 d g::(b.flat++[Uf]):=by
 unfold Og;split<;>rfl
def Uc(a t:Pc)(R j:Int):List Lo:=[M9 (R+4) a j 0,M9 (R+7) t j 0]++(Nr R (R+4) (R+2)++[Nd t j 0 (R+6)])
def Tf(a b t:Pc)(k R D i:Int):Fr Lo:=(M5 [M9 (R+2) b i 0,cK (R+3) 0]).cat ((Og D k (M5 (Uc a t R D))).cat (M5 (Ok t k R++[Nd t (-1) k (R+7),Nd t (-1) (k+1) (R+8)])))
def Ui(n t:Pc)(R j:Int):List Lo:=[M9 (R+4) n j 1,M9 (R+7) t j 1]++(Nr R (R+10) (R+4)++[Nd t j 0 (R+6)])
def Tq(n t:Pc)(k R D:Int):Fr Lo:=(M5 ([M9 (R+7) t (-1) 0,Np (R+5) (R+10) (R+7) (R+1),M9 (R+4) n (-1) 0,cK (R+3) 0]++Nr R (R+10) (R+4))).cat
 ((Og D (k-1) (M5 (Ui n t R D))).cat (M5 (Ok t k R++[Nd t (-1) (k-1) (R+7),M9 (R+7) t (-1) (k+1),M1 3 (R+7) (R+7) (R+8),Nd t (-1) k (R+7)])))
def Ua(n t:Pc)(g j:Int):List Lo:=[M9 (g+7) t j 0,M9 (g+4) n j 0,Ni 12 (g+6) (g+8) (g+7) (g+4) (g+8)]
def Vx(n t:Pc)(k g j:Int)(x:List Lo):Fr Lo:=(M5 [cK (g+8) 0]).cat (Og j k (M5 (Ua n t g j++x)))
def Xq(d n t:Pc)(k R D:Int):Fr Lo:=(Vx n t k R D []).cat ((M5 [M9 (R+7) t (-1) k,Ni 12 (R+6) (R+10) (R+7) R (R+8)]).cat (Vx n t k R D [Ns (R+6) (R+10) (R+7) (R+6),Nd d D 0 (R+6)]))
def Sf(p:Pc)(a D:Int):Fr Lo:=Og D p.size (M5 [Nd p D 0 a])
def Wh(d a b n t:Pc)(k R D:Int):Fr Lo:=(M5 ([cK R 0,M9 (R+10) n (-1) 0]++Un (R+10) (R+1))).cat ((Sf t R D).cat ((Og D k ((Tf a b t k R (D+1) D).cat (Tq n t k R (D+1)))).cat (Xq d n t k R D)))
end
section
def vl(f:Nat→UInt64):Nat→Nat
 |0=>0
 |n+1=>vl f n+(f n).toNat*18446744073709551616^n
def zxo(f:Nat→UInt64):∀n,vl f n<18446744073709551616^n
 |0=>Cu
 |n+1=>by
  have h:=zxo f n;have g:(f n).toNat+1≤18446744073709551616:=(f n).toNat_lt;have j:=Ii (18446744073709551616^n) g;rw[Iv,J5]at j;rw[vl,I0,Jq (18446744073709551616^n)];omega
def Vb{f g:Nat→UInt64}:∀{n:Nat},(∀i,i<n→f i=g i)→vl f n=vl g n
 |0,_=>rfl
 |n+1,h=>by rw[vl,vl,Vb λi hi=>h i J,h n J]
def zpa(f:Nat→UInt64):∀n,vl f (n+1)=(f 0).toNat+18446744073709551616*vl (λi=>f (i+1)) n
 |0=>Cu
 |n+1=>by
  rw[vl,zpa f n,vl,I0]
  grind
structure Pn where
 b:Nat
 a:Nat
 k:Nat
def Pn.p(p:Pn):Pc:=⟨p.b,p.a,p.k⟩
def pl(m:Nat→Nat→UInt64)(p:Pn)(i:Nat):UInt64:=m p.b (p.a+i)
def Dj(p q:Pn):Prop:=p.b≠q.b∨p.a+p.k≤q.a∨q.a+q.k≤p.a
def Nl(p:Pn)(m g:Nat→Nat→UInt64):Prop:=∀x y,¬(x=p.b∧p.a≤y∧y<p.a+p.k)→g x y=m x y
def Nl.trans{p:Pn}{m m' gg:Nat→Nat→UInt64}(h:Nl p m m')(k:Nl p m' gg):Nl p m gg:=λx y hn=>(k x y hn).trans (h x y hn)
def Nl.pl{p q:Pn}{m m':Nat→Nat→UInt64}(h:Nl p m m')(d:Dj p q){i:Nat}(hi:i<q.k):pl m' q i=pl m q i :=
 h _ _ λ⟨h1,h2,h3⟩=>by
  rcases d with d|d|d
  ·exact d h1.symm
  ·omega
  ·omega
def Nl.vl{p q:Pn}{m m':Nat→Nat→UInt64}(h:Nl p m m')(d:Dj p q){n:Nat}(hn:n≤q.k):vl (Go.Sv.pl m' q) n=vl (Go.Sv.pl m q) n:=Vb λ_ hi=>h.pl d J
def V6{p:Pn}{s:Fs}{i:Nat}{v:UInt64}(h:i<p.k):Nl p s.m (s.sto p.b (p.a+i) v).m:=λx y g=>by
 rw[Zz,Hv];rintro⟨rfl,rfl⟩;exact g ⟨rfl,J,J⟩
def Q9(p:Pn)(s:Fs)(i j:Nat)(v:UInt64):pl (s.sto p.b (p.a+i) v).m p j=if j=i then v else pl s.m p j:=by
 unfold pl;rw[Zz];by_cases h:j=i
 ·subst h;simp
 ·rw[Hv J,Hv h]
def br(h:g<18446744073709551616):(UInt64.ofNat g).toNat=g:=Ab
def gn{p:Pn}{x:UInt64}(h:p.a+g+x.toNat<18446744073709551616):(iU (p.p.at_+(g:Int))+x).toNat=p.a+g+x.toNat:=by
 have:p.p.at_+(g:Int)=((p.a+g:Nat):Int):=Ea
 rw[this,Jh,Vv J,Iy At]
def Zn{p:Pn}(h:p.a+g<18446744073709551616):(iU (p.p.at_+(g:Int))).toNat=p.a+g:=by
 have:p.p.at_+(g:Int)=((p.a+g:Nat):Int):=Ea
 rw[this,Vv h]
section ls
variable {sz : Nat → Nat} {s : Fs} {p : Pn}
def W9{d i:Nat}(h:p.a+g+(s.r i).toNat<sz p.b)(j:sz p.b≤65536):Qe sz (M9 d p.p i g) s=some (s.put d (pl s.m p (g+(s.r i).toNat))):=by
 rw[opZ_ld (b:=p.b) (n:=p.a+g+(s.r i).toNat) rfl (gn J) h];unfold pl;rw[Ke]
def ztk{d:Nat}(h:p.a+g<sz p.b)(j:sz p.b≤65536):Qe sz (M9 d p.p (-1) g) s=some (s.put d (pl s.m p g)):=by
 rw[sx (b:=p.b) (n:=p.a+g) rfl (Zn J) h];rfl
def om{v i:Nat}(h:p.a+g+(s.r i).toNat<sz p.b)(j:sz p.b≤65536):Qe sz (Nd p.p i g v) s=some (s.sto p.b (p.a+(g+(s.r i).toNat)) (s.r v)):=by
 rw[opZ_st (b:=p.b) (n:=p.a+g+(s.r i).toNat) rfl (gn J) h,Ke]
def zof{v:Nat}(h:p.a+g<sz p.b)(j:sz p.b≤65536):Qe sz (Nd p.p (-1) g v) s=some (s.sto p.b (p.a+g) (s.r v)):=by
 rw[xu (b:=p.b) (n:=p.a+g) rfl (Zn J) h]
end ls
end
variable{O vR:Pn}
section
def zej(b:Bool):(Nv b).toNat=b.toNat:=by cases b<;>rfl
def pu(b:Bool):decide (Nv b%2=1)=b:=by cases b<;>decide
def yj{x y w m:UInt64}{hi p q j:UInt64}{g:Bool}(B:hi=ai x y)(C:U=x*y)(D:Qb U w false=(p,Q))(E:Qb p m false=(q,g))(F:vF=hi+Nv Q)(G:j=vF+Nv g) :
  q.toNat+18446744073709551616*j.toNat=x.toNat*y.toNat+w.toNat+m.toNat:=by
 have K:=zxh x y;have z:=zhx U w false;have A:=zhx p m false;rw[D]at z;rw[E]at A;subst B C F G;simp only[Bool.toNat_false,Kh]at z A;have L:x.toNat*y.toNat≤18446744073709551615*18446744073709551615:=Jw (by have:=x.toNat_lt;omega) (by have:=y.toNat_lt;omega);have M:=w.toNat_lt;have O:=m.toNat_lt;have P:=q.toNat_lt;have R:Q.toNat≤1:=by cases Q<;>decide
 have d2:g.toNat≤1:=by cases g<;>decide
 have H:((ai x y)+Nv Q).toNat=(ai x y).toNat+Q.toNat:=by
  rw[Jh,zej,Iy];omega
 have I:((ai x y)+Nv Q+Nv g).toNat=(ai x y).toNat+Q.toNat+g.toNat:=by
  rw[Jh,H,zej,Iy];omega
 rw[I];omega
section mu
variable {sz : Nat → Nat}
def Rn(R g:Nat):Prop:=R+3≤g∧g≤R+9
def Xv{s:Fs}{R a b:Nat}(z:s.r R=0):Tx sz (M5 (Nr R a b)) s λj=>j.m=s.m∧(j.r (R+6)).toNat+18446744073709551616*(j.r (R+3)).toNat=(s.r a).toNat*(s.r b).toNat+(s.r (R+7)).toNat+(s.r (R+3)).toNat∧∀g,(¬Rn R g∨g=R+4∨g=R+7)→j.r g=s.r g:=by
 have e:Nr (R:Int) a b=[Np ((R+5:Nat):Int) ((R+6:Nat):Int) (a:Nat) (b:Nat),Ni 11 ((R+6:Nat):Int) ((R+8:Nat):Int) ((R+6:Nat):Int) ((R+7:Nat):Int) (R:Nat),Ni 11 ((R+6:Nat):Int) ((R+9:Nat):Int) ((R+6:Nat):Int) ((R+3:Nat):Int) (R:Nat),M1 3 ((R+5:Nat):Int) ((R+5:Nat):Int) ((R+8:Nat):Int),M1 3 ((R+3:Nat):Int) ((R+5:Nat):Int) ((R+9:Nat):Int)]:=rfl;rw[e];unfold Rn at *;refine .op zkj (.op zso (.op zso (.op zdr (.op zdr (.nil ⟨rfl,?_,λg F=>?_⟩)))))
 ·simp[M3,z,-UInt64.toNat_add];exact yj (x:=s.r a) (y:=s.r b) (w:=s.r (R+7)) (m:=s.r (R+3)) rfl rfl rfl rfl rfl rfl
 ·have A:¬g=R+5:=J
  have B:¬g=R+6:=J
  have C:¬g=R+8:=J
  have D:¬g=R+9:=J
  have E:¬g=R+3:=J
  simp[M3,E,A,B,C,D]
def Q6(f:Nat→UInt64)(n:Nat):vl f (n+1)=vl f n+(f n).toNat*18446744073709551616^n:=rfl
def Tx.lp{s:Fs}{d n:Nat}{b:Fr Lo}{Q:Fs→Prop}(gg:Nat→Fs→Prop)(h0:gg 0 s)(hn:n<18446744073709551616)(h1:∀i s,i<n→gg i s→Tx sz b (s.put d (UInt64.ofNat i)) (gg (i+1)))(h2:∀s',gg n s'→Q s'):Tx sz (Og (d:Nat) (n:Nat) b) s Q:=by
 unfold Og;have e:(S0 (d:Nat) (n:Nat)).imm.toNat=n:=Vv hn;split
 ·have:n=0:=J
  subst this;exact .nil (h2 _ h0)
 ·refine .loop gg h0 (λi s hi I=>?_) λs' I=>.nil (h2 _ ?_)
  ·rw[e]at hi;exact h1 i s hi I
  ·rw[e]at I;exact I
def se(R z:Nat)(s j:Fs):Prop:=∀g,¬Rn R g→g≠z→j.r g=s.r g
def RgA(R z:Nat)(s j:Fs):Prop:=∀g,¬(R+2≤g∧g≤R+10)→g≠z→j.r g=s.r g
def Pn.in_(sz:Nat→Nat)(p:Pn):Prop:=p.a+p.k≤sz p.b∧sz p.b≤65536
def zth{s:Fs}{R j:Nat}{a t:Pn}(I:s.r R=0)(Y:g<R)(F:(s.r g).toNat=j)(K:a.in_ sz)(L:t.in_ sz)(Z:j<a.k)(jt:j<t.k) :
  Tx sz (M5 (Uc a.p t.p R g)) s λC=>∃q:UInt64,(∀i,pl C.m t i=if i=j then q else pl s.m t i)∧Nl t s.m C.m∧se R g s C ∧
   q.toNat+18446744073709551616*(C.r (R+3)).toNat=(pl s.m a j).toNat*(s.r (R+2)).toNat+(pl s.m t j).toNat+(s.r (R+3)).toNat:=by
 obtain⟨M,D⟩:=K;obtain⟨O,A⟩:=L;have e:Uc a.p t.p R g=[M9 ((R+4:Nat):Int) a.p (g:Nat) ((0:Nat):Int),M9 ((R+7:Nat):Int) t.p (g:Nat) ((0:Nat):Int)]++(Nr R ((R+4:Nat):Int) ((R+2:Nat):Int)++[Nd t.p (g:Nat) ((0:Nat):Int) ((R+6:Nat):Int)]):=rfl;rw[e,frL_app,frL_app];have E:∀n,n<11→¬g=R+n:=λn h=>J
 refine .op (W9 J D) (.op (W9 (by simp only[M3,Hv (E 4 J)];omega) A) ((Xv (by simp[M3,I])).cat λB ⟨m1,P,G⟩=>?_));have z:B.r g=s.r g:=by rw[G _ (.inl Aq)];simp[M3,E]
 refine .op (om F9 A) (.nil ⟨B.r (R+6),λi=>?_,?_,λQ H T=>?_,?_⟩)
 ·rw[Q9,z,F,m1];simp[Ot]
 ·have:=V6 (p:=t) (s:=B) (i:=0+(B.r g).toNat) (v:=B.r (R+6)) F9;intro x y U;rw[this x y U,m1];rfl
 ·rw[Si,G Q (.inl H)];unfold Rn at H;have V:¬Q=R+4:=J
  have X:¬Q=R+7:=J
  simp[M3,V,X]
 ·rw[Si];simpa [M3,Ot,E,F] using P
def i7{W v r y q x t:Nat}(h:v+g*r=j+A*y)(k:q+W*D=x*y+t+r):v+q*g+g*W*D=j+t*g+(A+x*g)*y:=by
 have z:g*(q+W*D)=g*(x*y+t+r):=Gp
 grind
def xz{W v r y p c t:Nat}(h:v+g*r=j+A*y)(k:p+W*c=t+r):v+p*g+c*(g*W)=j+t*g+A*y:=by
 have z:g*(p+W*c)=g*(t+r):=Gp
 grind
def jy{s:Fs}{R k:Nat}{t:Pn}(z:s.r R=0)(B:t.in_ sz)(G:k+2≤t.k)(r:Fr Lo)(F:Fs→Prop)
  (h:∀(g:Fs) (c:Bool),g.m=s.m→g.r (R+8)=Nv c→(g.r (R+7)).toNat+18446744073709551616*c.toNat=(pl s.m t k).toNat+(s.r (R+3)).toNat→(∀A,A≠R+7→A≠R+8→g.r A=s.r A)→Tx sz r g F) :
  Tx sz ((M5 (Ok t.p k R)).cat r) s F:=by
 obtain⟨C,j⟩:=B;have e:Ok t.p k R=[M9 ((R+7:Nat):Int) t.p (-1) (k:Nat),Ni 11 ((R+7:Nat):Int) ((R+8:Nat):Int) ((R+7:Nat):Int) ((R+3:Nat):Int) (R:Nat)]:=rfl;rw[e];refine .op (ztk J j) (.op zso ?_);refine h _ (Qb (pl s.m t k) (s.r (R+3)) false).2 rfl ?_ ?_ λA D E=>?_
 ·simp[M3,z]
 ·have:=zhx (pl s.m t k) (s.r (R+3)) false;simpa [M3,z] using this
 ·simp[M3,D,E]
def nq{s:Fs}{R i k:Nat}{a b t:Pn}(hR:s.r R=0)(hD:A<R)(hi:(s.r i).toNat<b.k)(hb:b.in_ sz)(ha:a.in_ sz)(V:t.in_ sz)(hk:k≤a.k)(O:k+2≤t.k)(dj:Dj t a)(hW:sz t.b≤65536) :
  Tx sz (Tf a.p b.p t.p k R A i) s λI=>RgA R A s I∧Nl t s.m I.m∧vl (pl I.m t) (k+2)=vl (pl s.m t) (k+1)+vl (pl s.m a) k*(pl s.m b (s.r i).toNat).toNat∧(pl I.m t (k+1)).toNat≤1:=by
 have e:Tf a.p b.p t.p k R A i=(M5 [M9 ((R+2:Nat):Int) b.p (i:Nat) ((0:Nat):Int),cK ((R+3:Nat):Int) 0]).cat ((Og (A:Nat) (k:Nat) (M5 (Uc a.p t.p R A))).cat ((M5 (Ok t.p k R)).cat (M5 [Nd t.p (-1) (k:Nat) ((R+7:Nat):Int),Nd t.p (-1) ((k+1:Nat):Int) ((R+8:Nat):Int)]))):=by
  rw[←frL_app];rfl
 rw[e];obtain⟨gg,P⟩:=hb;have F:=V;obtain⟨gz,G⟩:=V;have dn:∀n,n<11→¬A=R+n:=λn h=>J
 refine .op (W9 J P) (.op Vt ?_);rw[show ∀g:Fr Lo,Fr.cat (M5 []) g=g from λ_=>rfl];generalize C:(Fs.put (s.put (R+2) (pl s.m b (0+(s.r i).toNat))) (R+3) 0)=B;have X:B.m=s.m:=by rw[←C];rfl
 have y0:B.r (R+2)=pl s.m b (s.r i).toNat:=by rw[←C];simp[M3]
 have c0:B.r (R+3)=0:=by rw[←C];simp[M3]
 have Y:∀D,D≠R+2→D≠R+3→B.r D=s.r D:=λD h2 h3=>by rw[←C];simp[M3,h2,h3]
 have Z:B.r R=0:=by rw[Y R J J,hR]
 refine .cat (R:=λz=>se R A B z∧Nl t s.m z.m∧(∀i,k≤i→pl z.m t i=pl s.m t i)∧vl (pl z.m t) k+18446744073709551616^k*(z.r (R+3)).toNat=vl (pl s.m t) k+vl (pl s.m a) k*(B.r (R+2)).toNat) ?_ λz ⟨K,L,M,Q⟩=>?_
 ·refine .lp (λH z=>se R A B z∧Nl t s.m z.m∧(∀i,H≤i→pl z.m t i=pl s.m t i)∧vl (pl z.m t) H+18446744073709551616^H*(z.r (R+3)).toNat=vl (pl s.m t) H+vl (pl s.m a) H*(B.r (R+2)).toNat) ⟨λ_ _ _=>rfl,λ_ _ _=>by rw[X],λ_ _=>by rw[X],by simp[vl,c0]⟩ J (λH z hj ⟨K,L,M,Q⟩=>?_) λ_ h=>h
  have E:∀D,¬Rn R D→D≠A→(z.put A (UInt64.ofNat H)).r D=B.r D:=λD a b=>by rw[M3,Hv b,K D a b]
  have j3:(z.put A (UInt64.ofNat H)).r (R+3)=z.r (R+3):=Hc
  refine (zth (j:=H) (by rw[E _ Aq J,Z]) hD Bj ha F J J).mono λs2 ⟨q,T,e2,e3,e4⟩=>⟨λD a b=>(e3 D a b).trans (E D a b),L.trans e2,λi hi=>?_,?_⟩
  ·rw[T,Hv J];exact M i J
  ·rw[E _ Aq J,Ot,L.pl dj J,M H J,j3]at e4;rw[Q6,Q6,Q6,T,H7 rfl,I0,Vb (g:=pl z.m t) λi hi=>by rw[T,Hv J];rfl];exact i7 Q e4
 ·refine jy (by rw[K _ Aq J,Z]) F O _ _ λs2 c m2 c2 v2 r2=>?_
  refine .op (zof J G) (.op (zof J G) (.nil ⟨λD hz U=>?_,?_,?_,?_⟩))
  ·rw[Si,Si,r2 D J J,K D Aq U,Y D J J]
  ·exact L.trans (m2 ▸ (V6 J).trans (V6 J))
  ·rw[Q6,Q6,Q6,Q9,Q9,Q9,H7 rfl,Hv J,H7 rfl,Si,c2,zej,Vb (g:=pl z.m t) λi hi=>by rw[Q9,Hv J,Q9,Hv J,m2],I0,←y0];rw[M k J]at v2;exact xz Q v2
  ·rw[Q9,H7 rfl,Si,c2,zej];cases c<;>decide
def zx3{s:Fs}{R j:Nat}{n t:Pn}(K:s.r R=0)(X:g<R)(G:(s.r g).toNat=j)(D:n.in_ sz)(L:t.in_ sz)(Y:j+1<n.k)(Z:j+1<t.k) :
  Tx sz (M5 (Ui n.p t.p R g)) s λC=>∃q:UInt64,(∀i,pl C.m t i=if i=j then q else pl s.m t i)∧Nl t s.m C.m∧se R g s C ∧
   q.toNat+18446744073709551616*(C.r (R+3)).toNat=(s.r (R+10)).toNat*(pl s.m n (j+1)).toNat+(pl s.m t (j+1)).toNat+(s.r (R+3)).toNat:=by
 obtain⟨M,E⟩:=D;obtain⟨O,A⟩:=L;have e:Ui n.p t.p R g=[M9 ((R+4:Nat):Int) n.p (g:Nat) ((1:Nat):Int),M9 ((R+7:Nat):Int) t.p (g:Nat) ((1:Nat):Int)]++(Nr R ((R+10:Nat):Int) ((R+4:Nat):Int)++[Nd t.p (g:Nat) ((0:Nat):Int) ((R+6:Nat):Int)]):=rfl;rw[e,frL_app,frL_app];have F:∀n,n<11→¬g=R+n:=λn h=>J
 refine .op (W9 J E) (.op (W9 (by simp only[M3,Hv (F 4 J)];omega) A) ((Xv (by simp[M3,K])).cat λB ⟨m1,P,H⟩=>?_));have z:B.r g=s.r g:=by rw[H _ (.inl Aq)];simp[M3,F]
 refine .op (om F9 A) (.nil ⟨B.r (R+6),λi=>?_,?_,λQ I T=>?_,?_⟩)
 ·rw[Q9,z,G,m1];simp[Ot]
 ·have:=V6 (p:=t) (s:=B) (i:=0+(B.r g).toNat) (v:=B.r (R+6)) F9;intro x y D;rw[this x y D,m1];rfl
 ·rw[Si,H Q (.inl I)];unfold Rn at I;have U:¬Q=R+4:=J
  have V:¬Q=R+7:=J
  simp[M3,U,V]
 ·rw[Si];simpa [M3,Ot,F,G,Nat.add_comm 1] using P
def dp{W v r m q x t:Nat}(h:W*v+g*W*r=j+m*A)(k:q+W*D=m*x+t+r):W*(v+q*g)+g*W*W*D=j+t*(g*W)+m*(A+x*(g*W)):=by
 have z:g*W*(q+W*D)=g*W*(m*x+t+r):=Gp
 grind
def m8{W v r m p c t u:Nat}(h:W*v+g*W*r=j+m*A)(k:p+W*c=t+r):W*(v+p*g+(u+c)*(g*W))=j+t*(g*W)+u*(g*W*W)+m*A:=by
 have z:g*W*(p+W*c)=g*W*(t+r):=Gp
 grind
def wo{t i n q h:UInt64}(hi:i*n+1=0)(e:q.toNat+18446744073709551616*h.toNat=(t*i).toNat*n.toNat+t.toNat):q.toNat=0:=by
 have g:(t*i*n+t).toNat=0:=by
  rw[(Eg:t*i*n+t=t*(i*n+1)),hi];simp
 rw[Jh,L9]at g;have:=q.toNat_lt;omega
def ud{s:Fs}{R k:Nat}{n t:Pn}(hR:s.r R=0)(hD:A<R)(I:s.r (R+1)*pl s.m n 0+1=0)(hn:n.in_ sz)(ht:t.in_ sz)(hk:k+1≤n.k)(gz:k+3≤t.k)(dj:Dj t n)(hc:(pl s.m t (k+2)).toNat≤1) :
  Tx sz (Tq n.p t.p (k+1:Nat) R A) s λO=>RgA R A s O∧Nl t s.m O.m∧pl O.m t (k+2)=pl s.m t (k+2)∧∃m:UInt64,18446744073709551616*vl (pl O.m t) (k+2)=vl (pl s.m t) (k+3)+m.toNat*vl (pl s.m n) (k+1):=by
 have U:((k+1:Nat):Int)-1=(k:Nat):=J
 have e:Tq n.p t.p (k+1:Nat) R A=(M5 ([M9 ((R+7:Nat):Int) t.p (-1) ((0:Nat):Int),Np ((R+5:Nat):Int) ((R+10:Nat):Int) ((R+7:Nat):Int) ((R+1:Nat):Int),M9 ((R+4:Nat):Int) n.p (-1) ((0:Nat):Int),cK ((R+3:Nat):Int) 0]++Nr R ((R+10:Nat):Int) ((R+4:Nat):Int))).cat
   ((Og (A:Nat) (k:Nat) (M5 (Ui n.p t.p R A))).cat ((M5 (Ok t.p (k+1:Nat) R)).cat (M5 [Nd t.p (-1) (k:Nat) ((R+7:Nat):Int),M9 ((R+7:Nat):Int) t.p (-1) ((k+2:Nat):Int),M1 3 ((R+7:Nat):Int) ((R+7:Nat):Int) ((R+8:Nat):Int),Nd t.p (-1) ((k+1:Nat):Int) ((R+7:Nat):Int)]))):=by
  rw[←frL_app,←U];rfl
 rw[e];have V:=hn;have K:=ht;obtain⟨gA,D⟩:=hn;obtain⟨gB,E⟩:=ht;have dn:∀n,n<11→¬A=R+n:=λn h=>J
 rw[frL_app];refine Tx.cat (R:=λB=>(∀C,¬Rn R C→C≠R+10→B.r C=s.r C)∧B.m=s.m∧18446744073709551616*(B.r (R+3)).toNat=(B.r (R+10)).toNat*(pl s.m n 0).toNat+(pl s.m t 0).toNat) ?_ λB ⟨g1,m1,L⟩=>?_
 ·refine .op (ztk J E) (.op zkj (.op (ztk J D) (.op Vt ((Xv (by simp[M3,hR])).mono λB ⟨m1,L,r1⟩=>⟨λC X F=>?_,?_,?_⟩))))
  ·rw[r1 C (.inl X)];unfold Rn at X;have z3:¬C=R+3:=J
   have z4:¬C=R+4:=J
   have z5:¬C=R+5:=J
   have Y:¬C=R+7:=J
   simp[M3,z3,z4,z5,Y,F]
  ·rw[m1];rfl
  ·have M:=r1 (R+10) (.inl Aq);simp[M3,Ot]at L M;rw[M];have:=wo (t:=pl s.m t 0) I (by simpa using L);rw[L9,show (2:Nat)^64=18446744073709551616 from rfl];rw[this,Ix]at L;exact L
 have R1:B.r R=0:=by rw[g1 R Aq J,hR]
 refine .cat (R:=λz=>se R A B z∧Nl t s.m z.m∧(∀i,k≤i→pl z.m t i=pl s.m t i)∧18446744073709551616*vl (pl z.m t) k+18446744073709551616^k*18446744073709551616*(z.r (R+3)).toNat=vl (pl s.m t) (k+1)+(B.r (R+10)).toNat*vl (pl s.m n) (k+1)) ?_ λz ⟨P,Q,G,Z⟩=>?_
 ·refine .lp (λH z=>se R A B z∧Nl t s.m z.m∧(∀i,H≤i→pl z.m t i=pl s.m t i)∧18446744073709551616*vl (pl z.m t) H+18446744073709551616^H*18446744073709551616*(z.r (R+3)).toNat=vl (pl s.m t) (H+1)+(B.r (R+10)).toNat*vl (pl s.m n) (H+1)) ⟨λ_ _ _=>rfl,λ_ _ _=>by rw[m1],λ_ _=>by rw[m1],by simp[vl];omega⟩ J (λH z hj ⟨P,Q,G,Z⟩=>?_) λ_ h=>h
  have D:∀C,¬Rn R C→C≠A→(z.put A (UInt64.ofNat H)).r C=B.r C:=λC a b=>by rw[M3,Hv b,P C a b]
  have j3:(z.put A (UInt64.ofNat H)).r (R+3)=z.r (R+3):=Hc
  refine (zx3 (j:=H) (by rw[D _ Aq J,R1]) hD Bj V K J J).mono λs3 ⟨q,e1,e2,e3,e4⟩=>⟨λC a b=>(e3 C a b).trans (D C a b),Q.trans e2,λi hi=>?_,?_⟩
  ·rw[e1,Hv J];exact G i J
  ·rw[D _ Aq J,Ot,Q.pl dj J,G (H+1) J,j3]at e4;rw[Q6,Q6 _ (H+1),Q6 _ (H+1),e1,H7 rfl,I0,Vb (g:=pl z.m t) λi hi=>by rw[e1,Hv J];rfl];exact dp Z e4
 ·refine jy (by rw[P _ Aq J,R1]) K J _ _ λs3 c T c3 v3 r3=>?_
  refine .op (zof J E) (.op (ztk J E) (.op zdr (.op (zof J E) (.nil ⟨λC X F=>?_,?_,?_,B.r (R+10),?_⟩))))
  ·have Y:¬C=R+7:=J
   simp only[Si,M3,Hv Y];rw[r3 C J J,P C Aq F,g1 C Aq J]
  ·exact Q.trans (T ▸ (V6 J).trans (V6 (p:=t) J))
  ·rw[Q9,Hv J,Ot,Ot,Q9,Hv J,T,G (k+2) J]
  ·rw[G (k+1) J]at v3;have gg:((pl s.m t (k+2))+Nv c).toNat=(pl s.m t (k+2)).toNat+c.toNat:=by
    rw[Jh,zej,Iy];have:c.toNat≤1:=by cases c<;>decide
    omega
   rw[Q6 _ (k+2),Q6 _ (k+1),Q6 _ (k+1),Q6 _ k,Vb (g:=pl z.m t) (n:=k) λi hi=>by rw[Q9,Hv J,Ot,Ot,Q9,Hv J,T]];have hu:=G (k+2) J;simp[M3,Ot,Si,Q9,c3,-UInt64.toNat_add,T];rw[hu,gg,I0,I0];exact m8 Z v3
def zct{W v n t c q x y b:Nat}(h:v+n=t+g*c)(k:q+x+c=y+W*b):v+q*g+(n+x*g)=t+y*g+g*W*b:=by
 have j:g*(q+x+c)=g*(y+W*b):=Gp
 grind
def zo8{s:Fs}{j:Nat}{n t:Pn}{c:Bool}(U:A<g)(D:(s.r A).toNat=j)(G:s.r (g+8)=Nv c)(H:n.in_ sz)(I:t.in_ sz)(V:j<n.k)(X:j<t.k)(x:List Lo)(T:Fs→Prop)
  (h:∀(z:Fs) (b:Bool),z.m=s.m→z.r (g+8)=Nv b→z.r (g+7)=pl s.m t j→(z.r (g+6)).toNat+(pl s.m n j).toNat+c.toNat=(pl s.m t j).toNat+18446744073709551616*b.toNat→(∀C,¬Rn g C→z.r C=s.r C)→Tx sz (M5 x) z T) :
  Tx sz (M5 (Ua n.p t.p g A++x)) s T:=by
 obtain⟨K,E⟩:=H;obtain⟨L,F⟩:=I;have e:Ua n.p t.p g A++x=M9 ((g+7:Nat):Int) t.p (A:Nat) ((0:Nat):Int)::M9 ((g+4:Nat):Int) n.p (A:Nat) ((0:Nat):Int)::Ni 12 ((g+6:Nat):Int) ((g+8:Nat):Int) ((g+7:Nat):Int) ((g+4:Nat):Int) ((g+8:Nat):Int)::x:=rfl;rw[e];have B:∀n,n<11→¬A=g+n:=λn h=>J
 refine .op (W9 J F) (.op (W9 (by simp only[M3,Hv (B 7 J)];omega) E) (.op zkc ?_));have hv:=zcw (pl s.m t j) (pl s.m n j) c;refine h _ (subC (pl s.m t j) (pl s.m n j) c).2 rfl ?_ ?_ ?_ λC M=>?_
 ·simp[M3,Ot,B,D,G,pu]
 ·simp[M3,Ot,B,D]
 ·simpa [M3,Ot,B,D,G,pu] using hv
 ·unfold Rn at M;have O:¬C=g+4:=J
  have P:¬C=g+6:=J
  have Q:¬C=g+7:=J
  have R:¬C=g+8:=J
  simp[M3,O,P,Q,R]
def wn{s:Fs}{k:Nat}{n t:Pn}(I:A<g)(E:n.in_ sz)(K:t.in_ sz)(Y:k≤n.k)(L:k≤t.k) :
  Tx sz (Vx n.p t.p k g A []) s λF=>se g A s F∧F.m=s.m∧∃(c:Bool) (v:Nat),F.r (g+8)=Nv c∧v<18446744073709551616^k∧v+vl (pl s.m n) k=vl (pl s.m t) k+18446744073709551616^k*c.toNat:=by
 have M:k<18446744073709551616:=by have:=E.1;have:=E.2;omega
 have e:Vx n.p t.p k g A []=(M5 [cK ((g+8:Nat):Int) 0]).cat (Og (A:Nat) (k:Nat) (M5 (Ua n.p t.p g A++[]))):=rfl;rw[e];refine .op Vt ?_;refine .lp (λB C=>se g A s C∧C.m=s.m∧∃(c:Bool) (v:Nat),C.r (g+8)=Nv c∧v<18446744073709551616^B∧v+vl (pl s.m n) B=vl (pl s.m t) B+18446744073709551616^B*c.toNat) ⟨λO D _=>?_,rfl,false,0,by simp[M3,Nv],N,Cu⟩ M (λB C Z ⟨P,m1,c,v,Q,l1,R⟩=>?_) λ_ h=>h
 ·unfold Rn at D;rw[M3,Hv J]
 ·refine zo8 (j:=B) (c:=c) I Bj (by rw[M3,Hv J,Q]) E K J J _ _ λG b T U t2 H V=>.nil ⟨λO D z=>?_,by rw[T,Ot,m1],b,v+(G.r (g+6)).toNat*18446744073709551616^B,U,?_,?_⟩
  ·rw[V O D,M3,Hv z,P O D z]
  ·have:=(G.r (g+6)).toNat_lt;have X:=Ii (18446744073709551616^B) (J:(G.r (g+6)).toNat+1≤18446744073709551616);rw[Iv,J5]at X;rw[I0,Jq (18446744073709551616^B)];omega
  ·rw[Ot,m1]at H;rw[Q6,Q6,I0];exact zct R H
def DjE(p q:Pn):Prop:=Dj p q∨(p.b=q.b∧p.a=q.a)
def DjE.sto{d n:Pn}{s:Fs}{v:UInt64}{i j:Nat}(h:DjE d n)(hj:j<d.k)(hi:i<n.k)(gg:i≠j):pl (s.sto d.b (d.a+j) v).m n i=pl s.m n i:=by
 rcases h with h|⟨e1,e2⟩
 ·exact (V6 hj).pl h hi
 ·unfold pl;rw[Zz,Hv J]
def y7{s:Fs}{k:Nat}{d n t:Pn}{p:Bool}(Z:D<A)(hp:s.r (A+10)=Nv p)(L:n.in_ sz)(ht:t.in_ sz)(hd:d.in_ sz)(hk:k≤n.k)(gg:k≤t.k)(gz:k≤d.k)(dn:DjE d n)(V:Dj d t) :
  Tx sz (Vx n.p t.p k A D [Ns (A+6) (A+10) (A+7) (A+6),Nd d.p D 0 (A+6)]) s λM=>se A D s M∧Nl d s.m M.m∧∃(c:Bool) (v:Nat),v<18446744073709551616^k∧v+vl (pl s.m n) k=vl (pl s.m t) k+18446744073709551616^k*c.toNat∧vl (pl M.m d) k=if p=true then vl (pl s.m t) k else v:=by
 have hW:k<18446744073709551616:=by have:=L.1;have:=L.2;omega
 have e:Vx n.p t.p k A D [Ns (A+6) (A+10) (A+7) (A+6),Nd d.p D 0 (A+6)]=(M5 [cK ((A+8:Nat):Int) 0]).cat (Og (D:Nat) (k:Nat) (M5 (Ua n.p t.p A D++[Ns ((A+6:Nat):Int) ((A+10:Nat):Int) ((A+7:Nat):Int) ((A+6:Nat):Int),Nd d.p (D:Nat) ((0:Nat):Int) ((A+6:Nat):Int)]))):=rfl;rw[e];refine .op Vt ?_;refine .lp (λB C=>se A D s C∧Nl d s.m C.m∧∃(c:Bool) (v:Nat),C.r (A+8)=Nv c∧v<18446744073709551616^B∧v+vl (pl s.m n) B=vl (pl s.m t) B+18446744073709551616^B*c.toNat∧vl (pl C.m d) B=(if p=true then vl (pl s.m t) B else v)∧∀i,B≤i→i<n.k→pl C.m n i=pl s.m n i) ⟨λgA F _=>?_,λ_ _ _=>rfl,false,0,by simp[M3,Nv],N,Cu,Cu,λ_ _ _=>rfl⟩ hW (λB C hj ⟨X,O,c,v,c1,l1,v1,d1,Y⟩=>?_) λ_ ⟨h1,h2,c,v,_,P,h4,h5,_⟩=>⟨h1,h2,c,v,P,h4,h5⟩
 ·unfold Rn at F;rw[M3,Hv J]
 ·refine zo8 (j:=B) (c:=c) Z Bj (by rw[M3,Hv J,c1]) L ht J J _ _ λz b I b2 Q R T=>?_
  have gB:(z.r D).toNat=B:=by rw[T D Aq];simp[M3];omega
  rw[Ot]at Q R I;rw[Y B (H9 _) J,O.pl V J]at R;rw[O.pl V J]at Q;have U:z.r (A+10)=Nv p:=by rw[T _ Aq,M3,Hv J,X _ Aq J,hp]
  refine .op znk (.op (om (by simp only[M3];rw[Hv J];have:=hd.1;omega) hd.2) (.nil ⟨λgA F G=>?_,?_,b,v+(z.r (A+6)).toNat*18446744073709551616^B,?_,?_,?_,?_,λi hi H=>?_⟩))
  ·rw[Si,M3,Hv (by unfold Rn at F;omega),T gA F,M3,Hv G,X gA F G]
  ·refine O.trans (I ▸ ?_);exact V6 (p:=d) (s:=z.put _ _) Gx
  ·rw[Si,M3,Hv J,b2]
  ·have:=(z.r (A+6)).toNat_lt;have P:=Ii (18446744073709551616^B) (J:(z.r (A+6)).toNat+1≤18446744073709551616);rw[Iv,J5]at P;rw[I0,Jq (18446744073709551616^B)];omega
  ·rw[Q6,Q6,I0];exact zct v1 R
  ·have E:0+((z.put (A+6) (if z.r (A+10)%2=1 then z.r (A+7) else z.r (A+6))).r D).toNat=B:=Gx
   rw[Q6,E,Q9,H7 rfl,Vb (g:=pl C.m d) (n:=B) λi hi=>by rw[Q9,Hv J,Ot,I],d1,M3,H7 rfl,U,Q];have K:=pu p;cases p
   ·simp at K;simp[K]
   ·simp at K;simp[K,Q6]
  ·have E:0+((z.put (A+6) (if z.r (A+10)%2=1 then z.r (A+7) else z.r (A+6))).r D).toNat=B:=Gx
   rw[E,dn.sto J H J,Ot,I];exact Y i J H
def lq{t c b v e:Nat}{W q:Nat}(D:A<g)(E:j+t*g<2*A)(hv:v<g)(z:c≤1)(B:b≤1)(h:v+A=j+g*c)(k:q+c=t+W*b)(F:q<W)(G:e+A=j+g*c):(j+t*g<A↔b=1)∧(b=1→t=0)∧(b=0→e=j+t*g-A):=by
 have C:t≤1:=by
  rcases Km t 2 with h|h
  ·omega
  ·have:=Ii g h;omega
 have C:t=0∨t=1:=J
 have z:c=0∨c=1:=J
 have B:b=0∨b=1:=J
 rcases C with rfl|rfl<;>rcases z with rfl|rfl<;>rcases B with rfl|rfl<;>simp at *<;>omega
def wg{s:Fs}{R k:Nat}{d n t:Pn}(P:s.r R=0)(F:g<R)(G:n.in_ sz)(z:t.in_ sz)(hd:d.in_ sz)(H:k≤n.k)(Q:k+1≤t.k)(A:k≤d.k)(T:DjE d n)(U:Dj d t)(I:vl (pl s.m t) (k+1)<2*vl (pl s.m n) k) :
  Tx sz (Xq d.p n.p t.p k R g) s λB=>RgA R g s B∧Nl d s.m B.m∧vl (pl B.m d) k=if vl (pl s.m t) (k+1)<vl (pl s.m n) k then vl (pl s.m t) (k+1) else vl (pl s.m t) (k+1)-vl (pl s.m n) k:=by
 have e:Xq d.p n.p t.p k R g=(Vx n.p t.p k R g []).cat ((M5 [M9 ((R+7:Nat):Int) t.p (-1) (k:Nat),Ni 12 ((R+6:Nat):Int) ((R+10:Nat):Int) ((R+7:Nat):Int) (R:Nat) ((R+8:Nat):Int)]).cat (Vx n.p t.p k R g [Ns (R+6) (R+10) (R+7) (R+6),Nd d.p g 0 (R+6)])):=rfl;rw[e];refine (wn F G z H J).cat λV ⟨K,m1,c,v,X,Y,Z⟩=>?_
 have hT:=zcw (pl s.m t k) 0 c;refine .op (ztk (by have:=z.1;omega) z.2) (.op zkc ?_);have R1:V.r R=0:=by rw[K R Aq J,P]
 refine (y7 (p:=(subC (pl s.m t k) 0 c).2) F ?_ G z hd H J A T U).mono λs3 ⟨g3,o3,L,v',l3,C,M⟩=>⟨λgg hz j=>?_,?_,?_⟩
 ·simp[M3,R1,X,pu,m1]
 ·rw[g3 gg Aq j];simp only[M3];rw[Hv J,Hv J,Hv J,K gg Aq j]
 ·rw[←m1];exact o3
 ·simp only[Ot,m1]at C M;rw[Q6]at I ⊢;have hN:=zxo (pl s.m n) k;have hq:=(subC (pl s.m t k) 0 c).1.toNat_lt;have D:c.toNat≤1:=by cases c<;>decide
  have E:L.toNat=c.toNat:=by
   rcases c with _|_<;>rcases L with _|_<;>simp at *<;>omega
  rw[E]at C;generalize (subC (pl s.m t k) 0 c).2=b at *;have hb:b.toNat≤1:=by cases b<;>decide
  obtain⟨O,q2,q3⟩:=lq hN I Y D hb Z (by simpa using hT) hq C;rw[M];cases b
  ·rw[Hv N,Hv (by rw[O];simp),q3 rfl]
  ·rw[H7 rfl,H7 (by rw[O];rfl),q2 rfl];simp
def zrr{s:Fs}{D a:Nat}{p:Pn}(G:p.in_ sz)(B:a≠D):Tx sz (Sf p.p a D) s λA=>(∀z,z≠D→A.r z=s.r z)∧Nl p s.m A.m∧∀i,i<p.k→pl A.m p i=s.r a:=by
 have e:Sf p.p a D=Og (D:Nat) (p.k:Nat) (M5 [Nd p.p (D:Nat) ((0:Nat):Int) (a:Nat)]):=rfl;rw[e];obtain⟨L,H⟩:=G;refine .lp (λF j=>(∀z,z≠D→j.r z=s.r z)∧Nl p s.m j.m∧∀i,i<F→pl j.m p i=s.r a) ⟨λ_ _=>rfl,λ_ _ _=>rfl,λ_ h=>absurd h J⟩ J (λF j M ⟨C,I,K⟩=>?_) λ_ h=>h
 have g:((j.put D (UInt64.ofNat F)).r D).toNat=F:=Bj
 refine .op (om (by rw[g];omega) H) (.nil ⟨λz E=>?_,?_,λi hi=>?_⟩)
 ·rw[Si,M3,Hv E,C z E]
 ·exact I.trans (V6 (p:=p) (s:=j.put _ _) (by rw[g];omega))
 ·rw[Q9,g];split
  ·rw[M3,Hv B,C a B]
  ·rw[Ot];exact K i J
def zid{f:Nat→UInt64}:∀{n:Nat},(∀i,i<n→f i=0)→vl f n=0
 |0,_=>rfl
 |n+1,h=>by rw[vl,zid λi hi=>h i J,h n J];simp
def cd{W b m:Nat}(h:g*vU=j*A+D*T)(z:vA=vU+j*b)(B:W*vM=vA+m*T):g*W*vM=j*(A+b*g)+(D+m*g)*T:=by
 have:g*(W*vM)=g*(vU+j*b+m*T):=by rw[B,z]
 grind
def mq{W b m:Nat}(F:A<2*j)(G:g<j)(H:b<W)(hm:m<W)(z:T=A+g*b)(B:W*D=T+m*j):D<2*j:=by
 have C:g*b≤j*(W-1):=Jw J J;have I:m*j≤(W-1)*j:=Ii _ J;have K:(W-1)*j+j=W*j:=by
  rw[←Lz];congr 1;omega
 rw[Jq j]at C;have E:W*D<W*(2*j):=by
  rw[B,z,Mv];omega
 exact Nat.lt_of_mul_lt_mul_left E
def us{s:Fs}{R D k:Nat}{d a b n t:Pn}(hD:D+1<R)(hd:d.in_ sz)(ha:a.in_ sz)(hb:b.in_ sz)(K:n.in_ sz)(O:t.in_ sz)(kd:k+1≤d.k)(ka:k+1≤a.k)(kb:k+1≤b.k)(G:k+1≤n.k)(kt:k+3≤t.k)
  (dn:DjE d n) (dt:Dj d t) (ta:Dj t a) (tb:Dj t b) (H:Dj t n) (gg:pl s.m n 0%2=1) (hA:vl (pl s.m a) (k+1)<vl (pl s.m n) (k+1)) :
  Tx sz (Wh d.p a.p b.p n.p t.p (k+1:Nat) R D) s λX=>(∀g,¬(R≤g∧g≤R+10)→g≠D→g≠D+1→X.r g=s.r g)∧(∀x y,¬(x=d.b∧d.a≤y∧y<d.a+d.k)→¬(x=t.b∧t.a≤y∧y<t.a+t.k)→X.m x y=s.m x y) ∧
   vl (pl X.m d) (k+1)<vl (pl s.m n) (k+1)∧∃P Q':Nat,18446744073709551616^(k+1)*vl (pl X.m d) (k+1)+Q'*vl (pl s.m n) (k+1)=vl (pl s.m a) (k+1)*vl (pl s.m b) (k+1)+P*vl (pl s.m n) (k+1):=by
 have e:Wh d.p a.p b.p n.p t.p (k+1:Nat) R D=(M5 ([cK (R:Nat) 0,M9 ((R+10:Nat):Int) n.p (-1) ((0:Nat):Int)]++Un ((R+10:Nat):Int) ((R+1:Nat):Int))).cat ((Sf t.p (R:Nat) (D:Nat)).cat ((Og (D:Nat) (k+1:Nat) ((Tf a.p b.p t.p (k+1:Nat) R ((D+1:Nat):Int) D).cat (Tq n.p t.p (k+1:Nat) R ((D+1:Nat):Int)))).cat (Xq d.p n.p t.p (k+1:Nat) R D))):=rfl;rw[e,frL_app];have gz:k+1<18446744073709551616:=by have:=K.1;have:=K.2;omega
 refine Tx.cat (R:=λL=>L.r R=0∧L.r (R+1)*pl s.m n 0+1=0∧L.m=s.m∧∀g,¬(R≤g∧g≤R+10)→L.r g=s.r g) ?_ λL ⟨R1,I1,m1,g1⟩=>?_
 ·refine .op Vt (.op (ztk (by have:=K.1;omega) K.2) ((uq J).mono λL ⟨e1,e2,e3⟩=>⟨?_,?_,?_,λg hz=>?_⟩))
  ·rw[e3 R J];simp[M3]
  ·rw[e1];simp only[M3,Jl,Ot];have:=zyx _ gg
   grind
  ·rw[e2];rfl
  ·rw[e3 g J,M3,Hv J,M3,Hv J]
 refine (zrr O J).cat λQ ⟨g2,o2,Y⟩=>?_
 have R2:Q.r R=0:=by rw[g2 R J,R1]
 have I2:Q.r (R+1)*pl s.m n 0+1=0:=by rw[g2 (R+1) J,I1]
 rw[m1]at o2;rw[R1]at Y;refine .cat (R:=λj=>(∀g,¬(R+2≤g∧g≤R+10)→g≠D→g≠D+1→j.r g=Q.r g)∧Nl t s.m j.m∧(pl j.m t (k+2)).toNat≤1∧vl (pl j.m t) (k+2)<2*vl (pl s.m n) (k+1)∧∃P,18446744073709551616^(k+1)*vl (pl j.m t) (k+2)=vl (pl s.m a) (k+1)*vl (pl s.m b) (k+1)+P*vl (pl s.m n) (k+1)) ?_ λj ⟨Z,F,_,T,P,M⟩=>?_
 ·refine .lp (λi j=>(∀g,¬(R+2≤g∧g≤R+10)→g≠D→g≠D+1→j.r g=Q.r g)∧Nl t s.m j.m∧(pl j.m t (k+2)).toNat≤1∧vl (pl j.m t) (k+2)<2*vl (pl s.m n) (k+1)∧∃P,18446744073709551616^i*vl (pl j.m t) (k+2)=vl (pl s.m a) (k+1)*vl (pl s.m b) i+P*vl (pl s.m n) (k+1)) ⟨λ_ _ _ _=>rfl,o2,by rw[Y _ J];decide,?_,0,?_⟩ gz (λi j hi ⟨Z,F,c3,T,P,M⟩=>?_) λ_ h=>h
  ·rw[zid λi hi=>Y i J];omega
  ·rw[zid λi hi=>Y i J];simp[vl]
  ·have U:((j.put D (UInt64.ofNat i)).r D).toNat=i:=Bj
   have A:∀g,¬(R+2≤g∧g≤R+10)→g≠D→g≠D+1→(j.put D (UInt64.ofNat i)).r g=Q.r g:=λg B z I=>by rw[M3,Hv z,Z g B z I]
   refine (nq (k:=k+1) (b:=b) (i:=D) (by rw[A R J J J,R2]) J (by rw[U];omega) hb ha O ka kt ta O.2).cat λs4 ⟨V,o4,C,c4⟩=>?_
   rw[Ot]at o4 C;rw[U,F.pl tb J,F.vl ta ka]at C;have E:=F.trans o4;refine (ud (k:=k) (by rw[V R J J,A R J J J,R2]) J (by rw[V (R+1) J J,A _ J J J,E.pl H J,I2]) K O G kt H c4).mono λs5 ⟨g5,o5,c5,m,v5⟩=>⟨λg B z I=>?_,E.trans o5,?_,?_,P+m.toNat*18446744073709551616^i,?_⟩
   ·rw[g5 g B I,V g B I,A g B z I]
   ·rw[c5];exact c4
   ·rw[E.vl H G]at v5;exact mq T hA (pl s.m b i).toNat_lt m.toNat_lt C v5
   ·rw[E.vl H G]at v5;rw[I0,Q6];exact cd M C v5
 ·refine (wg (k:=k+1) (by rw[Z R J J J,R2]) J K O hd G J kd dn dt (by rw[F.vl H G];exact T)).mono λs4 ⟨V,o4,C⟩=>⟨λg B z I=>?_,λx y B z=>?_,?_,?_⟩
  ·rw[V g J z,Z g J z I,g2 g z,g1 g B]
  ·rw[o4 x y B,F x y z]
  ·have T:vl (pl j.m t) (k+1+1)<2*vl (pl s.m n) (k+1):=T;rw[F.vl H G]at C;rw[C];split<;>omega
  ·have M:18446744073709551616^(k+1)*vl (pl j.m t) (k+1+1)=vl (pl s.m a) (k+1)*vl (pl s.m b) (k+1)+P*vl (pl s.m n) (k+1):=M;rw[F.vl H G]at C;rw[C];split
   ·exact⟨P,0,by rw[M];omega⟩
   ·refine⟨P,18446744073709551616^(k+1),?_⟩;rw[←M,←Ln,Nat.sub_add_cancel J]
end mu
end
noncomputable section
def Xm(g:List Bf)(m:List Bool)(o:Lo):Bool:=if o.kind=16 then false else if o.kind=14 then (Ng g o.buf.toNat).sec else (Oc o).any (O1 m)
def mkS(g:List Bf)(o:Lo):List Int→List Bool×Bool→List Bool×Bool
 |[],s=>s
 |r::j,s=>mkS g o j (if (!O1 s.1 r&&Xm g s.1 o)=true then (s.1.set r.toNat true,true) else s)
def Y2(g:List Bf):List Lo→List Bool×Bool→List Bool×Bool
 |[],s=>s
 |o::j,s=>Y2 g j (mkS g o (M6 o) s)
def Wl(g:List Bf)(os:List Lo):Nat→List Bool→List Bool
 |0,m=>m
 |n+1,m=>if (Y2 g os (m,false)).2=true then Wl g os n (Y2 g os (m,false)).1 else (Y2 g os (m,false)).1
def Tu(m:List Bool):Nat:=m.countP (λb=>!b)
def kv{m:List Bool}{n:Nat}(h:n<m.length)(k:m.getD n false=false):Tu (m.set n true)+1=Tu m:=by
 induction m generalizing n with
 |nil=>simp at h
 |cons b m g =>
  cases n with
  |zero=>simp at k;subst k;simp[Tu]
  |succ n =>
   have:=g (n:=n) At (by simpa using k);simp only[Tu,List.set_cons_succ,List.countP_cons]at *;omega
def ztn(g:List Bf)(o:Lo):∀(l:List Int) (s:List Bool×Bool),(mkS g o l s).1.length=s.1.length
 |[],_=>rfl
 |r::l,s=>by rw[mkS,ztn g o l];split<;>simp
def zou(j:List Bf):∀(g:List Lo) (s:List Bool×Bool),(Y2 j g s).1.length=s.1.length
 |[],_=>rfl
 |o::g,s=>by rw[Y2,zou j g,ztn]
def Dn(s s':List Bool×Bool):Prop:=Tu s'.1≤Tu s.1∧(s'.2=true→s.2=true∨Tu s'.1<Tu s.1)
def Dn.trans{s s' gg:List Bool×Bool}(h:Dn s s')(k:Dn s' gg):Dn s gg:=by
 refine⟨by have:=h.1;have:=k.1;omega,λh2=>?_⟩;rcases k.2 h2 with q|q
 ·rcases h.2 q with q|q
  ·exact .inl q
  ·have:=k.1;exact .inr J
 ·have:=h.1;exact .inr J
def zzh(g:List Bf)(o:Lo):∀(l:List Int) (s:List Bool×Bool),(∀x∈l,0≤x∧x<s.1.length)→Dn s (mkS g o l s)
 |[],s,_=>⟨H9 _,λh=>.inl h⟩
 |r::l,s,h=>by
  rw[mkS];obtain⟨A,B⟩:=h r (I5 ..);split
  ·rename_i z;simp only[Hw,Jd]at z;have C:=kv (m:=s.1) (n:=r.toNat) J z.1;refine Dn.trans (s':=(s.1.set r.toNat true,true)) ⟨A8,λ_=>.inr A8⟩ (zzh g o l _ λx j=>?_);simpa using h x (Ik _ j)
  ·exact zzh g o l _ λx j=>h x (Ik _ j)
def zu3(g:List Bf):∀(os:List Lo) (s:List Bool×Bool),(∀o∈os,∀x∈M6 o,0≤x∧x<s.1.length)→Dn s (Y2 g os s)
 |[],s,_=>⟨H9 _,λh=>.inl h⟩
 |o::os,s,h=>by
  rw[Y2];refine Dn.trans (zzh g o _ s λx j=>h o (I5 ..) x j) (zu3 g os _ λp z x j=>?_);rw[ztn];exact h p (Ik _ z) x j
def Xe(m:List Bool)(g:Int→Bool):Prop:=∀x,0≤x→O1 m x=true→g x=true
def Wk(g:List Bf)(j:Int→Bool)(o:Lo):Bool:=if o.kind=16 then false else if o.kind=14 then (Ng g o.buf.toNat).sec else (Oc o).any j
def zux(bs:List Bf)(j:Int→Bool)(g:List Lo):Prop:=∀o∈g,Wk bs j o=true→∀x∈M6 o,j x=true
def Xe.sec{bs:List Bf}{m:List Bool}{gg:Int→Bool}{o:Lo}(h:Xe m gg)(ht:∀x∈Oc o,0≤x)(k:Xm bs m o=true):Wk bs gg o=true:=by
 unfold Xm at k;unfold Wk;split
 ·rename_i q;rw[H7 q]at k;exact k
 ·rename_i q;rw[Hv q]at k;split
  ·rename_i q;rw[H7 q]at k;exact k
  ·rename_i q;rw[Hv q,I9]at k;obtain⟨x,C,hk⟩:=k;exact I9.2 ⟨x,C,h x (ht x C) hk⟩
def Xe.set{m:List Bool}{C:Int→Bool}{r:Int}(h:Xe m C)(h0:0≤r)(k:C r=true):Xe (m.set r.toNat true) C:=λx hx hm=>by
 by_cases e:x=r
 ·rw[e];exact k
 ·refine h x hx ?_;unfold O1 at hm ⊢;rw[Hy,Hx J]at hm;rw[Hy];exact hm
def zy9{g:List Bf}{B:Int→Bool}{o:Lo}(j:∀x∈Oc o,0≤x)(z:Wk g B o=true→∀x∈M6 o,B x=true):∀(l:List Int) (s:List Bool×Bool),(∀x∈l,x∈M6 o∧0≤x)→Xe s.1 B→Xe (mkS g o l s).1 B
 |[],_,_,h=>h
 |r::l,s,A,h=>by
  rw[mkS];refine zy9 j z l _ (λx C=>A x (Ik _ C)) ?_;split
  ·rename_i q;simp only[Hw]at q;obtain⟨D,E⟩:=A r (I5 ..);exact h.set E (z (h.sec j q.2) r D)
  ·exact h
def zkq{z:List Bf}{D:Int→Bool}:∀(g:List Lo) (s:List Bool×Bool),(∀o∈g,∀x∈Oc o,0≤x)→(∀o∈g,∀x∈M6 o,0≤x)→zux z D g→Xe s.1 D→Xe (Y2 z g s).1 D
 |[],_,_,_,_,h=>h
 |o::g,s,A,hm,B,h=>by
  rw[Y2];exact zkq g _ (λp j=>A p (Ik _ j)) (λp j=>hm p (Ik _ j)) (λp j=>B p (Ik _ j)) (zy9 (A o (I5 ..)) (B o (I5 ..)) _ _ (λx C=>⟨C,hm o (I5 ..) x C⟩) h)
def zuk{A:List Bf}{B:Int→Bool}{g:List Lo}(j:∀o∈g,∀x∈Oc o,0≤x)(hm:∀o∈g,∀x∈M6 o,0≤x)(z:zux A B g):∀(n:Nat) (m:List Bool),Xe m B→Xe (Wl A g n m) B
 |0,_,h=>h
 |n+1,m,h=>by
  rw[Wl];split
  ·exact zuk j hm z n _ (zkq g _ j hm z h)
  ·exact zkq g _ j hm z h
def zuj(g:List Bf)(j:List Lo):∀(n:Nat) (m:List Bool),(Wl g j n m).length=m.length
 |0,_=>rfl
 |n+1,m=>by rw[Wl];split<;>simp[zuj g j n,zou]
def Xe.none(n:Nat)(C:Int→Bool):Xe (List.replicate n false) C:=λx _ h=>by
 unfold O1 at h;rw[Hy,List.getElem?_replicate]at h;split at h<;>simp at h
def Xn(g:Int)(j:List Bf)(os:List Lo):List Bool:=Wl j os (g.toNat+1) (List.replicate g.toNat false)
def w9(g:List Bf)(j:Int→Bool)(o:Lo):Bool:=!((Oz o.kind&&decide (0≤o.a))&&j o.a)&&(!(decide (o.kind=15)&&(j o.b && !(Ng g o.buf.toNat).sec)) && !(decide (o.kind=16)&&j o.d))
def jw{m:List Bool}{C:Int→Bool}{o:Lo}(D:Xe m C)(E:o.kind=15→0≤o.b)(hd:o.kind=16→0≤o.d)(h:w9 Z C o=true):w9 Z (O1 m) o=true:=by
 unfold w9 at h ⊢;simp only[Hw,Jd,L8,I3,Bool.not_eq_false']at h ⊢;have g:∀x,0≤x→C x=false→O1 m x=false:=λx F B=>by
  cases q:O1 m x
  ·rfl
  ·rw[D x F q]at B;exact absurd B Ac
 obtain⟨z,j,A⟩:=h;refine⟨?_,?_,?_⟩
 ·by_cases q:0≤o.a
  ·rcases z with z|z
   ·exact .inl z
   ·exact .inr (g _ q z)
  ·exact .inl (.inr q)
 ·by_cases q:o.kind=15
  ·rcases j with j|j|j
   ·exact absurd q j
   ·exact .inr (.inl (g _ (E q) j))
   ·exact .inr (.inr j)
  ·exact .inl q
 ·by_cases q:o.kind=16
  ·rcases A with A|A
   ·exact absurd q A
   ·exact .inr (g _ (hd q) A)
  ·exact .inl q
end
section
def Wo(ls:List Int)(m:List Bool):Prop:=∀x,0≤x→x<8→(O1 m x=true↔x∈ls)
def Gd(bs:List Bf)(S:List Int)(ls:List Int)(f:Fr Lo)(S':List Int):Prop :=
 ∀m,ee 64 m S→Wo ls m→∃z,ee 64 z S'∧Wo ls z∧(∀x,8≤x→O1 m x=true→O1 z x=true)∧∀i j,de 64 bs i m ls (f.flat++j)=de 64 bs (i+f.flat.length) z ls j
def zob{x:Int}(z:0≤x):∀(j:List Int) (m:List Bool),(∀y∈j,0≤y∧y<m.length)→O1 m x=true→O1 (j.foldl (λm r=>m.set r.toNat true) m) x=true
 |[],_,_,h=>h
 |a::j,m,A,h=>by
  have B:=A a (I5 ..);exact zob z j _ (λy C=>by rw[J1];exact A y (Ik _ C)) ((z8v ⟨B.1,B.2⟩ z).2 (.inr h))
section gd
variable {bs : List Bf} {S S' S2 ls : List Int} {f g : Fr Lo}
def ee.sub{regs:Int}{m:List Bool}(h:ee regs m S)(k:∀x∈S',x∈S):ee regs m S':=⟨h.1,λx hx=>h.2 x (k x hx)⟩
def Gd.mono(h:Gd bs S ls f S')(k1:∀x∈S,x∈S2)(k2:∀x∈vO,x∈S'):Gd bs S2 ls f vO:=λm hm hi=>by
 obtain⟨m',h1,h2,hk,h3⟩:=h m (hm.sub k1) hi;exact⟨m',h1.sub k2,h2,hk,h3⟩
def Gd.cat(h:Gd bs S ls f S')(k:Gd bs S' ls g S2):Gd bs S ls (f.cat g) S2:=λm hm hi=>by
 obtain⟨m1,h1,h2,ha,h3⟩:=h m hm hi;obtain⟨m2,k1,k2,kb,k3⟩:=k m1 h1 h2;refine⟨m2,k1,k2,λx hx hq=>kb x hx (ha x hx hq),λi rest=>?_⟩;rw[Pa,Jg,h3,k3,H8,Ke]
def Gd.nil:Gd bs S ls .nil S:=λm hm hi=>⟨m,hm,hi,λ_ _ h=>h,λ_ _=>rfl⟩
def Gd.keep{T:List Int}(h:Gd bs S ls f S'):Gd bs (T++S) ls f (T++S'):=λm hm hi=>by
 obtain⟨m',h1,h2,hk,h3⟩:=h m (hm.sub λx hx=>Iu _ hx) hi;refine⟨m',⟨h1.1,λx hx=>?_⟩,h2,hk,h3⟩;rcases Ip.1 hx with hx|hx
 ·obtain⟨a,b,d⟩:=hm.2 x (K3 _ hx);refine⟨a,b,?_⟩;by_cases q:8≤x
  ·exact hk x q d
  ·exact (h2 x a J).2 ((hi x a J).1 d)
 ·exact h1.2 x hx
def Gd.keep0(h:Gd bs [] ls f []):Gd bs S ls f S:=by
 have:=Gd.keep (T:=S) h;simpa using this
def Wo.fold:∀(mk:List Int) (m:List Bool),m.length=64→Wo ls m→(∀x∈mk,8≤x∧x<64)→Wo ls (mk.foldl (λm r=>m.set r.toNat true) m)
 |[],_,_,h,_=>h
 |a::mk,m,hl,h,hr=>by
  have ha:=hr a (I5 ..);refine Wo.fold mk _ (by simpa using hl) (λx h0 h8=>?_) λx hx=>hr x (Ik _ hx)
  rw[←h x h0 h8,z8v ⟨J,J⟩ h0];constructor
  ·rintro (q|q)
   ·omega
   ·exact q
  ·exact .inr
def Gd.L(gz:∀x∈ls,x<8):∀{l:List Lo} {S:List Int},O2 64 bs S l→(∀o∈l,∀x∈M6 o,8≤x)→Gd bs S ls (M5 l) ((l.flatMap M6)++S)
 |[],S,_,_=>λm hm hi=>⟨m,Fe,hi,λ_ _ h=>h,λ_ _=>rfl⟩
 |o::l,S,h,hk=>λm hm hi=>by
  obtain⟨h1,⟨h2,h3⟩,h4,h5⟩:=h;have gg:=zuy h1;have gA:=hk o (I5 ..);have hs:=oh (m:=m) (ls:=ls) h1 h2 h3 (λx hx q=>by have:=gz x q;have:=gA x hx;omega) (λx hx=>(hm.2 x (h4 x hx)).2.2);have gB:=hm.fold (M6 o) m S gg;have gC:=hi.fold (M6 o) m (by have:=hm.1;omega) λx hx=>⟨gA x hx,(gg x hx).2⟩
  obtain⟨m',k1,k2,kk,k3⟩:=Gd.L gz h5 (λp hp=>hk p (Ik _ hp)) _ gB gC;refine⟨m',k1.sub λx hx=>?_,k2,λx hx hq=>kk x hx (zob J _ _ (λy hy=>by have:=gg y hy;have:=hm.1;omega) hq),λi rest=>?_⟩
  ·simp only[Lh,Ip]at hx ⊢;rcases hx with (hx|hx)|hx
   ·exact .inr (.inl hx)
   ·exact .inl hx
   ·exact .inr (.inr hx)
  ·rw[M5,Fr.flat,I4,de,hs];dsimp only;rw[H7 rfl,k3,Ig]
   congr 1;omega
def ct{d:Int}(h:0≤d∧d<64)(C:1≤z∧z≤1048576):Ps 64 bs (S0 d z)=true:=by
 have j:(iU z).toNat=z.toNat:=by
  obtain⟨n,rfl⟩:=Hz (J:0≤z);rw[Vv J];rfl
 have A:(1:UInt64)≤iU z:=by rw[Je,j];show 1≤_;omega
 have B:iU z≤(1048576:UInt64):=by rw[Je,j];show _≤1048576;omega
 simp[Ps,S0,Q5,Qq,Qr,Q7,V4,Wd,Oz,h,A,B]
def fields_En:Ps 64 bs Uf=true:=by simp[Ps,Uf,Q5,Qq,Qr,Q7,V4,Wd,Oz]
def zjs{m:List Bool}{a x:Int}(j:0≤a∧a<m.length)(z:0≤x):O1 (m.set a.toNat false) x=true↔x≠a∧O1 m x=true:=by
 unfold O1;rw[d8 _ _ _ _ _ J];by_cases e:x.toNat=a.toNat
 ·rw[H7 e];simp;intro h;omega
 ·rw[Hv e];constructor
  ·exact λh=>⟨by rintro rfl;exact e rfl,h⟩
  ·exact λh=>h.2
def Gd.loop{d times:Int}{b r:Fr Lo}{S3:List Int}(gG:ls.length<8)(hd:0≤d∧d<8)(hn:¬d∈ls)(ht:1≤times∧times≤1048576)(hb:Gd bs (d::S) (ls++[d]) b S')(hs:∀x∈S2,x∈S'∧x≠d)(hr:Gd bs S2 ls r S3):Gd bs S ls (.loop (S0 d times) b Uf r) S3:=λm hm hi=>by
 have gF:m.length=64:=by have:=hm.1;omega
 have gg:O1 m d=false:=by
  cases q:O1 m d
  ·rfl
  ·exact absurd ((hi d hd.1 hd.2).1 q) hn
 have gz:Uu 64 bs m ls (S0 d times)=(0,m.set d.toNat true,ls++[d]):=by
  unfold Uu;rw[Hv (by rw[ct J ht];decide),Hv (by simp[S0]),Hv,Hv (by simp[S0,gg]),Hv (by simp[S0];omega),Hv (by simp[S0,Oc])]
  ·simp[S0,M6]
  ·simp[S0,M6,hn]
 have gA:ee 64 (m.set d.toNat true) (d::S):=by
  have:=hm.fold [d] m S (λx hx=>by simp at hx;omega);simpa using this
 have gB:Wo (ls++[d]) (m.set d.toNat true):=λx h0 h8=>by
  rw[z8v ⟨J,J⟩ h0,hi x h0 h8];simp[or_comm]
 obtain⟨m2,a1,a2,ak,a3⟩:=hb _ gA gB;have gH:m2.length=64:=by have:=a1.1;omega
 have gC:ee 64 (m2.set d.toNat false) S2:=⟨by simpa using a1.1,λx hx=>by
  obtain⟨h1,h2⟩:=hs x hx;obtain⟨b1,b2,b3⟩:=a1.2 x h1;exact⟨b1,b2,(zjs ⟨J,J⟩ b1).2 ⟨h2,b3⟩⟩⟩
 have gD:Wo ls (m2.set d.toNat false):=λx h0 h8=>by
  rw[zjs ⟨J,J⟩ h0,a2 x h0 h8];simp only[Ip,List.mem_singleton];constructor
  ·rintro⟨h1,h2|h2⟩
   ·exact h2
   ·exact absurd h2 h1
  ·exact λh=>⟨λq=>hn (q ▸ h),.inl h⟩
 obtain⟨m4,c1,c2,ck,c3⟩:=hr _ gC gD;refine⟨m4,c1,c2,λx hx hq=>ck x hx ((zjs ⟨J,J⟩ J).2 ⟨J,ak x hx ((z8v ⟨J,J⟩ J).2 (.inr hq))⟩),λi rest=>?_⟩;have gE:Uu 64 bs m2 (ls++[d]) Uf=(0,m2.set d.toNat false,ls):=by
  unfold Uu;rw[Hv (by rw[fields_En];decide),H7 (by rfl)];simp
 rw[Fr.flat,I4,de,gz];dsimp only;rw[H7 rfl,Jg,a3,I4,de,gE];dsimp only;rw[H7 rfl,c3,Ig,H8,Ig]
 congr 1;omega
def Gd.lp{d times:Int}{b:Fr Lo}(gg:ls.length<8)(hd:0≤d∧d<8)(hn:¬d∈ls)(gz:¬d∈S)(ht:times≤1048576)(hb:Gd bs (d::S) (ls++[d]) b S')(hs:∀x∈S,x∈S'):Gd bs S ls (Og d times b) S:=by
 unfold Og;split
 ·exact .nil
 ·exact .loop gg hd hn J hb (λx hx=>⟨hs x hx,λq=>gz (q ▸ hx)⟩) .nil
def Zf(C:bs.length≤32)(D:f.flat.length≤65536)(A:∀b∈bs,1≤b.size∧b.size≤65536∧1≤b.kind∧b.kind≤3)(h:Gd bs [] [] f S'):Qu 64 bs f.flat=((f.flat.length:Int),0):=by
 unfold Qu;rw[Hv J,Hv,Hv J,Hv]
 ·obtain⟨E,_,_,_,B⟩:=h (List.replicate 64 false) ⟨N,N⟩ (λx F G=>by
   unfold O1;rw[Hy,List.getElem?_replicate];split<;>simp)
  have:=B 0 [];rw[Ji]at this;rw[show (64:Int).toNat=64 from rfl,this,de,H7 rfl,Ix]
 ·rw[I9];rintro⟨b,j,z⟩;have:=A b j;simp at z;omega
 ·rw[I9];rintro⟨b,j,z⟩;have:=A b j;simp at z;omega
end gd
end
section
section w
variable {bs : List Bf} {S : List Int} {l : List Lo}
def Zi{d:Int}{v:UInt64}(h:0≤d∧d<64)(k:O2 64 bs (d::S) l):O2 64 bs S (cK d v::l):=⟨zhm h,Dk,Gm,k⟩
def zyp{d e a b:Int}(h:0≤d∧d<64)(he:0≤e∧e<64)(g:0≤a∧a<64)(j:0≤b∧b<64)(z:d≠e)(A:a∈S)(B:b∈S)(k:O2 64 bs (d::e::S) l):O2 64 bs S (Np d e a b::l) :=
 ⟨zcq h he g j z,Fg,by simp[Oc,Np,A,B],k⟩
def ju{d a b:Int}(j:3≤z∧z≤7)(h:0≤d∧d<64)(A:0≤a∧a<64)(B:0≤b∧b<64)(C:a∈S)(E:b∈S)(k:O2 64 bs (d::S) l):O2 64 bs S (M1 z d a b::l):=by
 refine⟨zcd j h A B,Fk,λx g=>?_,?_⟩
 ·unfold Oc M1 at g;simp only at g;rw[Hv J,H7 J]at g;simp at g;rcases g with rfl|rfl
  ·exact C
  ·exact E
 ·have:M6 (M1 z d a b)=[d]:=by unfold M6 M1;simp only;rw[Hv J,Hv J]
  rw[this];exact k
def tq{d e a b c:Int}(g:z=11∨z=12)(h:0≤d∧d<64)(he:0≤e∧e<64)(j:0≤a∧a<64)(A:0≤b∧b<64)(B:0≤c∧c<64)(C:d≠e)(E:a∈S)(F:b∈S)(G:c∈S)(k:O2 64 bs (d::e::S) l):O2 64 bs S (Ni z d e a b c::l):=by
 refine⟨zxa g h he j A B C,by rcases g with rfl|rfl<;>simp[Ni],?_,?_⟩
 ·rcases g with rfl|rfl<;>simp[Oc,Ni,E,F,G]
 ·rcases g with rfl|rfl<;>exact k
def zmn{d c a b:Int}(h:0≤d∧d<64)(g:0≤c∧c<64)(j:0≤a∧a<64)(z:0≤b∧b<64)(A:c∈S)(B:a∈S)(C:b∈S)(k:O2 64 bs (d::S) l):O2 64 bs S (Ns d c a b::l) :=
 ⟨zwf h g j z,by simp[Ns],by simp[Oc,Ns,B,C,A],k⟩
structure Bp (bs:List Bf) (p:Pn):Prop where
 b:p.b<bs.length
 s:((p.a+p.k:Nat):Int)≤(Ng bs p.b).size
 z:(Ng bs p.b).size≤65536
def Bw(bs:List Bf)(p:Pn):Prop:=(Ng bs p.b).kind≠1
def Bp.at{p:Pn}(h:Bp bs p){off:Int}(h0:0≤off)(hk:off<p.k):iU (p.p.at_+off)<iU (Ng bs p.p.buf.toNat).size:=by
 obtain⟨o,rfl⟩:=Hz h0;have hs:=h.s;have hz:=h.z;obtain⟨z,gg⟩:=Hz (J:0≤(Ng bs p.b).size);have e1:p.p.buf.toNat=p.b:=rfl;rw[e1,gg,Jv,Vv J,Zn J];omega
def Xc{d i:Int}{p:Pn}(g:Bp bs p)(h:0≤d∧d<64)(hi:0≤i∧i<64)(j:i∈S)(k:O2 64 bs (d::S) l):O2 64 bs S (M9 d p.p i z::l):=by
 refine⟨zol h (.inr hi) ⟨Ea,B3⟩ (λq=>J),by simp[M9],?_,k⟩;have:i≠-1:=J
 simp[Oc,M9,this,j]
def zn{d:Int}{p:Pn}(g:Bp bs p)(h:0≤d∧d<64)(j:0≤z)(A:z<p.k)(k:O2 64 bs (d::S) l):O2 64 bs S (M9 d p.p (-1) z::l):=by
 refine⟨zol h (.inl rfl) ⟨Ea,B3⟩ (λ_=>g.at j A),by simp[M9],by simp[Oc,M9],k⟩
def i1{v i:Int}{p:Pn}(g:Bp bs p)(hw:Bw bs p)(h:0≤v∧v<64)(hi:0≤i∧i<64)(j:i∈S)(A:v∈S)(k:O2 64 bs S l):O2 64 bs S (Nd p.p i z v::l):=by
 refine⟨zr3 h (.inr hi) ⟨Ea,B3⟩ hw (λq=>J),by simp[Nd],?_,k⟩;have:i≠-1:=J
 simp[Oc,Nd,this,j,A]
def zbg{v:Int}{p:Pn}(g:Bp bs p)(hw:Bw bs p)(h:0≤v∧v<64)(j:0≤z)(A:z<p.k)(B:v∈S)(k:O2 64 bs S l):O2 64 bs S (Nd p.p (-1) z v::l):=by
 refine⟨zr3 h (.inl rfl) ⟨Ea,B3⟩ hw (λ_=>g.at j A),by simp[Nd],by simp[Oc,Nd,B],k⟩
def okL_nil:O2 64 bs S []:=trivial
end w
section into
variable {bs : List Bf} {ls : List Int} {R D : Int} {d a b n t : Pn} {k : Int}
def Ye{S:List Int}{l:List Lo}{a b:Int}(F:16≤R∧R≤50)(g:0≤a∧a<64)(j:0≤b∧b<64)(z:a∈S)(A:b∈S)(B:R∈S)(C:R+3∈S)(E:R+7∈S)(k:O2 64 bs ((R+3)::(R+5)::(R+6)::(R+9)::(R+6)::(R+8)::(R+5)::(R+6)::S) l):O2 64 bs S (Nr R a b++l):=by
 unfold Nr;refine zyp ?_ ?_ g j ?_ z A (tq (.inl rfl) ?_ ?_ ?_ ?_ ?_ ?_ ?_ ?_ ?_ (tq (.inl rfl) ?_ ?_ ?_ ?_ ?_ ?_ ?_ ?_ ?_ (ju ?_ ?_ ?_ ?_ ?_ ?_ (ju ?_ ?_ ?_ ?_ ?_ ?_ k))))
 all_goals first|omega|(simp[B,C,E];done)|(simp;omega)
def zsp{n r:Int}:∀o∈Un n r,∀x∈M6 o,r≤x∧x≤r+4:=by
 intro o ho;simp[Un,ff,Xj,zr9,cK,Np,M1]at ho;rcases ho with rfl|rfl|rfl|rfl|⟨_,rfl|rfl|rfl⟩|rfl|rfl<;>simp[M6]<;>omega
def ja{i:Int}(C:16≤R∧R≤50)(hi:0≤i∧i<8)(E:0≤D∧D<8)(F:¬D∈ls)(G:D≠i)(A:ls.length<8)(j:∀x∈ls,x<8)(H:Bp bs a)(I:Bp bs b)(z:Bp bs t)(B:Bw bs t)(P:0≤k∧k+1<t.k) :
  Gd bs [i,R,R+1,R+10] ls (Tf a.p b.p t.p k R D i) [i,R,R+1,R+10]:=by
 have K:(t.k:Int)≤65536:=Ep
 unfold Tf;have L:O2 64 bs [i,R,R+1,R+10] [M9 (R+2) b.p i 0,cK (R+3) 0]:=Xc I J J N (Zi J okL_nil);have M:O2 64 bs (D::(List.flatMap M6 [M9 (R+2) b.p i 0,cK (R+3) 0]++[i,R,R+1,R+10])) (Uc a.p t.p R D):=by
  unfold Uc;refine Xc H J J N (Xc z J J N (Ye C J J N (by simp[M6,M9]) Bt Bt N (i1 z B J J N N okL_nil)))
 have O:O2 64 bs (List.flatMap M6 [M9 (R+2) b.p i 0,cK (R+3) 0]++[i,R,R+1,R+10]) (Ok t.p k R++[Nd t.p (-1) k (R+7),Nd t.p (-1) (k+1) (R+8)]):=by
  unfold Ok;refine zn z J J J (tq (.inl rfl) J J J J J J N Bt Bt (zbg z B J J J N (zbg z B J J J N okL_nil)))
 refine Gd.mono ((Gd.L j L ?_).cat ((Gd.lp A E F ?_ J (Gd.L ?_ M ?_) ?_).cat (Gd.L j O ?_))) (λx h=>h) ?_
 ·simp[M6,M9,cK];omega
 ·simp[M6,M9,cK];omega
 ·intro x g;rcases Ip.1 g with g|g
  ·exact j x g
  ·simp at g;omega
 ·simp[M6,Uc,Nr,M9,Nd,Np,Ni,M1];omega
 ·intro x g;exact Iu _ (Ik _ g)
 ·simp[M6,Ok,M9,Nd,Ni];omega
 ·intro x g;exact Iu _ (Iu _ g)
def sy{i:Int}(C:16≤R∧R≤50)(F:0≤D∧D<8)(G:¬D∈ls)(H:D≠i)(A:ls.length<8)(z:∀x∈ls,x<8)(E:Bp bs n)(g:Bp bs t)(B:Bw bs t)(P:1≤k∧k+1<t.k)(I:0<n.k) :
  Gd bs [i,R,R+1,R+10] ls (Tq n.p t.p k R D) [i,R,R+1,R+10]:=by
 have K:(t.k:Int)≤65536:=by have:=g.s;have:=g.z;omega
 unfold Tq;have L:O2 64 bs [i,R,R+1,R+10] ([M9 (R+7) t.p (-1) 0,Np (R+5) (R+10) (R+7) (R+1),M9 (R+4) n.p (-1) 0,cK (R+3) 0]++Nr R (R+10) (R+4)):=by
  rw[←Ji (_++Nr R (R+10) (R+4)),Jg];exact zn g J J J (zyp J J J J J N N (zn E J J J (Zi J (Ye C J J N N N N N okL_nil))))
 have M:O2 64 bs (D::(List.flatMap M6 ([M9 (R+7) t.p (-1) 0,Np (R+5) (R+10) (R+7) (R+1),M9 (R+4) n.p (-1) 0,cK (R+3) 0]++Nr R (R+10) (R+4))++[i,R,R+1,R+10])) (Ui n.p t.p R D):=by
  unfold Ui;refine Xc E J J N (Xc g J J N (Ye C J J N (by simp[M6,M9]) Bt Bt N (i1 g B J J N N okL_nil)))
 have O:O2 64 bs (List.flatMap M6 ([M9 (R+7) t.p (-1) 0,Np (R+5) (R+10) (R+7) (R+1),M9 (R+4) n.p (-1) 0,cK (R+3) 0]++Nr R (R+10) (R+4))++[i,R,R+1,R+10]) (Ok t.p k R++[Nd t.p (-1) (k-1) (R+7),M9 (R+7) t.p (-1) (k+1),M1 3 (R+7) (R+7) (R+8),Nd t.p (-1) k (R+7)]):=by
  unfold Ok;refine zn g J J J (tq (.inl rfl) J J J J J J N Bt Bt (zbg g B J J J N (zn g J J J (ju J J J J N N (zbg g B J J J N okL_nil)))))
 refine Gd.mono ((Gd.L z L ?_).cat ((Gd.lp A F G ?_ J (Gd.L ?_ M ?_) ?_).cat (Gd.L z O ?_))) (λx h=>h) ?_
 ·simp[M6,Nr,M9,cK,Np,Ni,M1];omega
 ·simp[M6,Nr,M9,cK,Np,Ni,M1];omega
 ·intro x j;rcases Ip.1 j with j|j
  ·exact z x j
  ·simp at j;omega
 ·simp[M6,Ui,Nr,M9,Nd,Np,Ni,M1];omega
 ·intro x j;exact Iu _ (Ik _ j)
 ·simp[M6,Ok,M9,Nd,Ni,M1];omega
 ·intro x j;exact Iu _ (Iu _ j)
def Y6{x:Int}{S:List Int}{p:Pn}(C:0≤x∧x<64)(E:x∈S)(F:0≤D∧D<8)(G:¬D∈ls)(j:¬D∈S)(z:ls.length<8)(A:∀x∈ls,x<8)(B:Bp bs p)(wp:Bw bs p):Gd bs S ls (Sf p.p x D) S:=by
 have H:(p.k:Int)≤65536:=by have:=B.s;have:=B.z;omega
 unfold Sf;have h:O2 64 bs (D::S) [Nd p.p D 0 x]:=i1 B wp C J N Au okL_nil;refine Gd.lp z F G j (by show (p.k:Int)≤_;omega) (Gd.L ?_ h ?_) ?_
 ·intro y g;rcases Ip.1 g with g|g
  ·exact A y g
  ·simp at g;omega
 ·simp[M6,Nd]
 ·intro y g;exact Iu _ (Ik _ g)
def zxl{x:List Lo}{S:List Int}(K:16≤R∧R≤50)(B:0≤D∧D<8)(C:¬D∈ls)(z:¬D∈S)(A:ls.length<8)(j:∀x∈ls,x<8)(E:Bp bs n)(F:Bp bs t)(L:k≤65536)
  (G:O2 64 bs ((R+6)::(R+8)::(R+4)::(R+7)::D::(R+8)::S) x) (hm:∀o∈x,∀y∈M6 o,8≤y):Gd bs S ls (Vx n.p t.p k R D x) ((R+8)::S):=by
 unfold Vx;have H:O2 64 bs S [cK (R+8) 0]:=Zi J okL_nil;have I:O2 64 bs (D::(List.flatMap M6 [cK (R+8) 0]++S)) (Ua n.p t.p R D++x):=by
  unfold Ua;exact Xc F J J N (Xc E J J N (tq (.inr rfl) J J J J J J N N Cb G))
 refine (Gd.L j H ?_).cat (Gd.lp A B C ?_ J (Gd.L ?_ I ?_) ?_)
 ·simp[M6,cK];omega
 ·simp[M6,cK];exact⟨J,z⟩
 ·intro y g;rcases Ip.1 g with g|g
  ·exact j y g
  ·simp at g;omega
 ·intro o ho;rcases Ip.1 ho with ho|ho
  ·simp[Ua]at ho;rcases ho with rfl|rfl|rfl<;>simp[M6,M9,Ni]<;>omega
  ·exact hm o ho
 ·intro y g;exact Iu _ (Ik _ g)
def xq(A:16≤R∧R≤50)(B:0≤D∧D<8)(C:¬D∈ls)(j:ls.length<8)(g:∀x∈ls,x<8)(G:Bp bs d)(H:Bw bs d)(E:Bp bs n)(z:Bp bs t)(L:0≤k∧k<t.k):Gd bs [R] ls (Xq d.p n.p t.p k R D) [R]:=by
 have I:(t.k:Int)≤65536:=Ep
 unfold Xq;have K:O2 64 bs [R+8,R] [M9 (R+7) t.p (-1) k,Ni 12 (R+6) (R+10) (R+7) R (R+8)]:=zn z J J J (tq (.inr rfl) J J J J J J N N N okL_nil);refine Gd.mono ((zxl A B C Ab j g E z J okL_nil N).cat ((Gd.L g K ?_).cat (zxl A B C ?_ j g E z J ?_ ?_))) (λx h=>h) ?_
 ·simp[M6,M9,Ni];omega
 ·simp[M6,M9,Ni];omega
 ·exact zmn J J J J (by simp[M6,M9,Ni]) N N (i1 G H J J N N okL_nil)
 ·simp[M6,Ns,Nd];omega
 ·intro x F;simp at F;subst F;simp
def tp(B:16≤R∧R≤50)(C:0≤D∧D+1<8)(E:¬D∈ls)(A:¬D+1∈ls)(K:ls.length<7)(j:∀x∈ls,x<8)(L:Bp bs d)(M:Bw bs d)(O:Bp bs a)(P:Bp bs b)(F:Bp bs n)(z:Bp bs t)(G:Bw bs t)(Q:1≤k∧k+1<t.k)(H:0<n.k) :
  Gd bs [] ls (Wh d.p a.p b.p n.p t.p k R D) []:=by
 have T:(t.k:Int)≤65536:=Ep
 unfold Wh;have U:O2 64 bs [] ([cK R 0,M9 (R+10) n.p (-1) 0]++Un (R+10) (R+1)) :=
  Zi J (zn F J J J (mi J J N))
 have I:∀x∈[R,R+1,R+10],x∈List.flatMap M6 ([cK R 0,M9 (R+10) n.p (-1) 0]++Un (R+10) (R+1))++[]:=by
  intro x g;simp at g;rcases g with rfl|rfl|rfl<;>simp[M6,cK,M9,Un,ff,Np,M1]
 refine Gd.mono (Gd.cat (Gd.mono (Gd.L j U ?_) (λx h=>h) I) ((Y6 (x:=R) J N ⟨C.1,J⟩ E Ab J j z G).cat ((Gd.lp J ⟨C.1,J⟩ E Ab J ((ja B J J ?_ J ?_ ?_ O P z G J).cat (sy B J ?_ J ?_ ?_ F z G Q H)) ?_).cat (Gd.mono (xq B ⟨C.1,J⟩ E J j L M F z J) ?_ (λx h=>h))))) (λx h=>h) N
 ·intro o ho;rcases Ip.1 ho with ho|ho
  ·simp at ho;rcases ho with rfl|rfl<;>simp[M6,cK,M9]<;>omega
  ·intro x g;have:=zsp o ho x g;omega
 ·simp;exact⟨A,J⟩
 ·simp;omega
 ·intro x g;rcases Ip.1 g with g|g
  ·exact j x g
  ·simp at g;omega
 ·simp;exact⟨A,J⟩
 ·simp;omega
 ·intro x g;rcases Ip.1 g with g|g
  ·exact j x g
  ·simp at g;omega
 ·intro x g;exact Ik _ g
 ·intro x g;simp at g;simp[g]
end into
end
section
def rgR(R x:Int):Prop:=x=-1∨(R≤x∧x<R+14)
structure OpG (nb:Nat) (R lo hi:Int) (o:Lo):Prop where
 k:o.kind≠16∧o.kind≠17
 d:rgR R o.d
 e:rgR R o.e
 a:rgR R o.a∨(lo≤o.a∧o.a≤hi)
 b:rgR R o.b
 c:rgR R o.c
 m:(o.kind=14∨o.kind=15)→o.a=-1∨(lo≤o.a∧o.a≤hi)
 f:o.buf.toNat<nb
def LpG(g:Int)(o:Lo):Prop:=o.kind=16∧o.d=g∧o.e=-1∧o.a=-1∧o.b=-1∧o.c=-1∧1≤o.imm.toNat
section al
variable {nb : Nat} {R lo hi : Int}
def qk(x:Int):Bool:=decide (16≤x)
end al
end
section
section into
variable {nb : Nat} {R lo hi D k : Int} {d a b n t : Pn}
end into
noncomputable def Z6:Nat→Int→Fr Lo→Fr Lo
 |0,_,f=>f
 |n+1,i,f=>.loop (S0 i 1) (Z6 n (i+1) f) Uf .nil
def Pu:Nat→Int→List Lo
 |0,_=>[]
 |n+1,i=>⟨16,i,-1,-1,-1,-1,0,1⟩::Pu n (i+1)
def wrap_flat:∀(n:Nat) (i:Int) (f:Fr Lo),(Z6 n i f).flat=Pu n i++(f.flat++List.replicate n Uf)
 |0,_,f=>by simp[Z6,Pu]
 |n+1,i,f=>by
  rw[Z6,Fr.flat,wrap_flat n,Pu,List.replicate_succ'];simp[Fr.flat,S0,iU1]
def zs8{B:List Bf}:∀(n:Nat) (i:Int) (j:List Int) (f:Fr Lo),0≤i→i+n≤7→(j.length:Int)=i→(∀x∈j,x<i)→(∀g:List Int,(g.length:Int)=i+n→(∀x∈g,x<i+n)→Gd B [] g f [])→Gd B [] j (Z6 n i f) []
 |0,i,j,f,_,_,C,A,h=>by simpa [Z6] using h j Ci Cd
 |n+1,i,j,f,F,G,C,A,h=>by
  refine .loop J J (λq=>by have:=A _ q;omega) J (Gd.mono (zs8 n (i+1) (j++[i]) f J J Ab (λx z=>?_) λg H E=>?_) N N) (S':=[]) N .nil
  ·rcases Ip.1 z with q|q
   ·have:=A x q;omega
   ·simp at q;omega
  ·exact h g J λx z=>by have:=E x z;omega
def zsf{sz:Nat→Nat}{A:Fs→Prop}:∀(n:Nat) (i:Nat) (f:Fr Lo) (s:Fs),(∀g:Fs,g.m=s.m→Tx sz f g A)→Tx sz (Z6 n i f) s A
 |0,_,f,s,h=>h s rfl
 |n+1,i,f,s,h=>by
  have z:(S0 (i:Int) 1).imm.toNat=1:=by simp[S0,iU1]
  refine .loop (I:=λB g=>if B=0 then g=s else A g) rfl (λB g C j=>?_) λg j=>?_
  ·rw[z]at C;have:B=0:=J
   subst this;rw[H7 rfl]at j;subst j;exact (zsf n (i+1) f _ λE F=>h E (by rw[F];rfl)).mono λH G=>Bv
  ·rw[z,Hv J]at j;exact .nil j
end
def powW(k:Nat):(18446744073709551616:Nat)^k=2^(64*k):=by rw[Nat.pow_mul]
def ma{D:Nat}(hi:g*vM%A=1%A)(h:g*D+vU*A=j+T*A)(z:D<A):D=j*vM%A:=by
 have B:(g*D)%A=j%A:=by
  have:=congrArg (· % A) h;simpa using this
 have C:D*(g*vM)%A=j*vM%A:=by
  rw[(Eg:D*(g*vM)=g*D*vM),Jr,B,←Jr]
 rw[←C,Jr,hi,←Jr,Kq,Iy z]
def Ze{f:Fr Lo}{bs:List Bf}{X:List (List UInt64)}{M:Fs→Prop}(A:f.wf Qi)(z:f.regs bs.length []=true)(B:f.costZ≤800000000)
  (F:Tx (U4 (Ol 64 bs X)) f (Q1 (Ol 64 bs X)) M) :
  ∃E j t,E≤800000000∧Pe f.flat (f.ends 0) E (Ol 64 bs X)=some j∧j.i=f.flat.length∧Rep bs.length (U4 (Ol 64 bs X)) j t∧M t∧j.l.length≤f.costZ:=by
 have C:(Ol 64 bs X).r.length=64:=Dp
 have g:=Rep.abs (Ol 64 bs X) C;have D:(Ol 64 bs X).bufs.length=bs.length:=by simp[Ol,Sc]
 rw[D]at g;obtain⟨t,G,H⟩:=F;obtain⟨E,j,I,K,_,L,O,P⟩:=zhh (os:=f.flat) (es:=f.ends 0) f 0 [] [] [] (Ol 64 bs X) (Q1 (Ol 64 bs X)) t A z N N rfl rfl g G;refine⟨E,j,t,J,I,by rw[K,Fr.flat_len,Ix],L,H,?_⟩;have:(Ol 64 bs X).l.length=0:=rfl;omega
def costZ_le:∀f:Fr Lo,f.costZ≤2*f.stp
 |.nil=>by simp[Fr.costZ]
 |.op _ r=>by have:=costZ_le r;rw[Fr.costZ,Fr.stp];omega
 |.loop o b _ r=>by
  have j:=costZ_le b;have z:=costZ_le r;have g:o.imm.toNat*(b.costZ+2)≤o.imm.toNat*(2*(1+b.stp)):=Mi _ J;rw[Mv]at g;rw[Fr.costZ,Fr.stp];omega
noncomputable def zyy(l:List UInt64)(i:Nat):UInt64:=if l=[] then 0 else l.getD (i%l.length) 0*iU (1+((i/l.length:Nat):Int)*2)+iU ((i/l.length:Nat):Int)
noncomputable def fq(l:List UInt64)(n:Nat):List UInt64:=(List.range n).map (zyy l)
def zep(l:List UInt64)(n:Nat):(fq l n).length=n:=by simp[fq]
section
def stp_lp(d g:Int)(b:Fr Lo)(j:g≤1000000):(Og d g b).stp≤g.toNat*(1+b.stp):=by
 unfold Og;split
 ·simp[Fr.stp]
 ·obtain⟨n,rfl⟩:=Hz (J:0≤g);rw[Fr.stp,Fr.stp];have:(S0 d (n:Int)).imm.toNat=n:=Vv J;rw[this];simp
section facts
variable {k y e r d : Nat}
def wrap_stp:∀(n:Nat) (i:Int) (f:Fr Lo),(Z6 n i f).stp=n+f.stp
 |0,_,_=>by simp[Z6]
 |n+1,i,f=>by
  rw[Z6,Fr.stp,Fr.stp,wrap_stp n];have:(S0 i 1).imm.toNat=1:=by simp[S0,iU1]
  rw[this];omega
end facts
end
def vl_get:∀{n:Nat} {f:Nat→UInt64} {l:List UInt64},l.length≤n→(∀i,i<n→f i=l.getD i 0)→vl f n=val l
 |0,f,l,h,_=>by
  have:l=[]:=In J;subst this;simp[vl,val]
 |n+1,f,l,h,g=>by
  rw[zpa];cases l with
  |nil =>
   have j:=g 0 J;have z:=vl_get (n:=n) (f:=λi=>f (i+1)) (l:=[]) N (λi hi=>by have:=g (i+1) J;simpa using this);rw[z,j];simp[val]
  |cons x l =>
   have j:=g 0 J;have z:=vl_get (n:=n) (f:=λi=>f (i+1)) (l:=l) (by simp at h;omega) (λi hi=>by have:=g (i+1) J;simpa using this);rw[z,j];simp[val]
section
section facts
variable {k : Nat}
end facts
end
section
def Ry(x:Int):Bool:=decide (x<16)
def Sg(x:Int):Bool:=decide (x<0) || decide (16≤x)
def Vs(o:Lo):Bool :=
 if o.kind=16 then decide (0≤o.d)&&decide (o.d<16)
 else if o.kind=17 then true
 else if o.kind=14∨o.kind=15 then Ry o.a&&(Sg o.d&&Sg o.e)
 else (Sg o.d&&Sg o.e) || (Ry o.a&&(Ry o.b&&Ry o.c))
structure Lock (s t:Ms):Prop where
 i:s.i=t.i
 first:s.first=t.first
 l:s.l=t.l
 rs:s.r.length=64
 rt:t.r.length=64
 low:∀x,x<16→s.r.getD x 0=t.r.getD x 0
 bufs:s.bufs.map List.length=t.bufs.map List.length
section lock
variable {s t s' t' : Ms} {os : List Lo} {es : List Int}
def Lock.at(h:Lock s t){x:Int}(hx:Ry x=true):atR s.r x=atR t.r x:=by
 unfold Ry at hx;have hx:=Kr hx;unfold atR;by_cases q:x<0
 ·rw[H7 q,H7 q]
 ·rw[Hv q,Hv q];exact h.low _ J
def fe{r:List UInt64}{x:Int}{v:UInt64}(h:Sg x=true){y:Nat}(g:y<16):(Nc r x v).getD y 0=r.getD y 0:=by
 unfold Sg at h;simp only[Jb,Ib]at h;unfold Nc;split
 ·simp only[Hy];rw[Hx J]
 ·rfl
def zhj{r q:List UInt64}{x:Int}{v:UInt64}(j:r.length=64)(z:q.length=64)(h:∀y,y<16→r.getD y 0=q.getD y 0):∀y,y<16→(Nc r x v).getD y 0=(Nc q x v).getD y 0:=λy g=>by
 unfold Nc;split
 ·by_cases A:x.toNat<64
  ·rw[d8 _ _ _ _ _ J,d8 _ _ _ _ _ J];split
   ·rfl
   ·exact h y g
  ·rw[List.set_eq_of_length_le J,List.set_eq_of_length_le J];exact h y g
 ·exact h y g
def Wa{r:List UInt64}{x:Int}{v:UInt64}(h:r.length=64):(Nc r x v).length=64:=by unfold Nc;split<;>simp[h]
def Lock.row(h:Lock s t)(x:Int):(T7 s.bufs x).length=(T7 t.bufs x).length:=by
 have hb:=congrArg (λl=>l.getD x.toNat 0) h.bufs;simp only[Hy,Jy]at hb;unfold T7;simp only[Hy];cases h1:s.bufs[x.toNat]?<;>cases h2:t.bufs[x.toNat]?<;>simp[h1,h2]at hb ⊢<;>first|exact hb|skip
def Lock.step(h:Lock s t)(he:∀(i:Nat) (o p:Lo),os[i]?=some o→o.kind=17→os[(es.getD i 0).toNat]?=some p→p.kind=16)(ho:∀o∈os,Vs o=true)(hs:Rd os es s=some s')(ht:Rd os es t=some t'):Lock s' t':=by
 unfold Rd at hs ht;rw[←h.i]at ht;cases gg:os[s.i]? with
 |none =>
  rw[gg]at hs ht;cases hs;cases ht;exact h
 |some o =>
 rw[gg]at hs ht;dsimp only at hs ht;have hl:=ho o (Iq gg);unfold Vs at hl;by_cases gD:o.kind=16
 ·rw[H7 gD]at hs ht hl;cases hs;cases ht;simp only[Hw,Ib]at hl;rw[←h.first];cases s.first
  ·exact⟨Ev,rfl,D7,h.rs,h.rt,h.low,h.bufs⟩
  ·exact⟨Ev,rfl,D7,Wa h.rs,Wa h.rt,zhj h.rs h.rt h.low,h.bufs⟩
 rw[Hv gD]at hs ht hl;by_cases gB:o.kind=17
 ·rw[H7 gB]at hs ht;cases hp:os[(es.getD s.i 0).toNat]? with
  |none=>rw[hp]at hs;cases hs
  |some p =>
  rw[hp]at hs ht;dsimp only at hs ht;have kp:=he _ _ _ gg gB hp;have gC:=ho p (Iq hp);unfold Vs at gC;rw[H7 kp]at gC;simp only[Hw,Ib]at gC;rw[←h.at (x:=p.d) (by unfold Ry;exact Jp J)]at ht;split at hs
  ·rename_i g;rw[H7 g]at ht;cases hs;cases ht;exact⟨rfl,rfl,h.l,Wa h.rs,Wa h.rt,zhj h.rs h.rt h.low,h.bufs⟩
  ·rename_i g;rw[Hv g]at ht;cases hs;cases ht;exact⟨Ev,h.first,h.l,h.rs,h.rt,h.low,h.bufs⟩
 rw[Hv gB]at hs ht hl;unfold U7 at hs ht;by_cases gz:o.kind=14
 ·rw[H7 (.inl gz)]at hl;simp only[Hw]at hl;rw[H7 gz,←h.at hl.1,←h.row]at ht;rw[H7 gz]at hs;split at hs
  ·rename_i g;rw[H7 g]at ht;cases hs;cases ht;exact⟨Ev,h.first,D7,Wa (Wa h.rs),Wa (Wa h.rt),λx hx=>Ct,h.bufs⟩
  ·cases hs
 rw[Hv gz]at hs ht;by_cases gA:o.kind=15
 ·rw[H7 (.inr gA)]at hl;simp only[Hw]at hl;rw[H7 gA,←h.at hl.1,←h.row]at ht;rw[H7 gA]at hs;split at hs
  ·rename_i g;rw[H7 g]at ht;cases hs;cases ht;refine⟨Ev,h.first,D7,Wa (Wa h.rs),Wa (Wa h.rt),λx hx=>Ct,?_⟩;simp only[Jj,J1];rw[h.row,h.bufs]
  ·cases hs
 rw[Hv gA]at hs ht;rw[Hv J]at hl;cases hs;cases ht;simp only[Jb,Hw]at hl;refine⟨Ev,h.first,D7,Wa (Wa h.rs),Wa (Wa h.rt),λx hx=>?_,h.bufs⟩;rcases hl with ⟨h1,h2⟩|⟨h1,h2,h3⟩
 ·show (Nc (Nc s.r o.d _) o.e _).getD x 0=(Nc (Nc t.r o.d _) o.e _).getD x 0;rw[fe h2 hx,fe h1 hx,fe h2 hx,fe h1 hx];exact h.low x hx
 ·show (Nc (Nc s.r o.d _) o.e _).getD x 0=(Nc (Nc t.r o.d _) o.e _).getD x 0;rw[h.at h1,h.at h2,h.at h3];exact zhj (Wa h.rs) (Wa h.rt) (zhj h.rs h.rt h.low) x hx
def Lock.step_some(h:Lock s t)(ho:∀o∈os,Vs o=true)(hs:Rd os es s=some s'):∃t',Rd os es t=some t':=by
 unfold Rd at hs ⊢;rw[←h.i];cases gA:os[s.i]? with
 |none=>exact⟨_,rfl⟩
 |some o =>
 rw[gA]at hs;dsimp only at hs ⊢;have hl:=ho o (Iq gA);unfold Vs at hl;by_cases gB:o.kind=16
 ·rw[H7 gB];exact⟨_,rfl⟩
 rw[Hv gB]at hs hl ⊢;by_cases gC:o.kind=17
 ·rw[H7 gC]at hs ⊢;cases hp:os[(es.getD s.i 0).toNat]? with
  |none=>rw[hp]at hs;cases hs
  |some p =>
   dsimp only;split<;>exact⟨_,rfl⟩
 rw[Hv gC]at hs hl ⊢;unfold U7 at hs ⊢;by_cases gg:o.kind=14
 ·rw[H7 (.inl gg)]at hl;simp only[Hw]at hl;rw[H7 gg]at hs ⊢;rw[←h.at hl.1,←h.row];split at hs
  ·rename_i g;rw[H7 g];exact⟨_,rfl⟩
  ·cases hs
 rw[Hv gg]at hs ⊢;by_cases gz:o.kind=15
 ·rw[H7 (.inr gz)]at hl;simp only[Hw]at hl;rw[H7 gz]at hs ⊢;rw[←h.at hl.1,←h.row];split at hs
  ·rename_i g;rw[H7 g];exact⟨_,rfl⟩
  ·cases hs
 rw[Hv gz];exact⟨_,rfl⟩
def Lock.run_some(he:∀(i:Nat) (o p:Lo),os[i]?=some o→o.kind=17→os[(es.getD i 0).toNat]?=some p→p.kind=16)(ho:∀o∈os,Vs o=true):∀(n:Nat) (s t s':Ms),Lock s t→Pe os es n s=some s'→∃t',Pe os es n t=some t'∧Lock s' t'
 |0,s,t,s',h,hs=>by cases hs;exact⟨t,rfl,h⟩
 |n+1,s,t,s',h,hs=>by
  unfold Pe at hs ⊢;split at hs
  ·cases hs
  ·rename_i s1 h1;obtain⟨t1,h2⟩:=h.step_some ho h1;rw[h2];exact Lock.run_some he ho n s1 t1 s' (h.step he ho h1 h2) hs
def stay{os:List Lo}{es:List Int}{s:Ms}(h:os[s.i]?=none):∀n,Pe os es n s=some s
 |0=>rfl
 |n+1=>by
  have:Rd os es s=some s:=by unfold Rd;rw[h]
  unfold Pe;rw[this];exact stay h n
end lock
end
section
section facts
variable {bs : List Bf} {d a b n t : Pn} {k R e nb : Nat}
end facts
end
def zx1{bs:List Bf}{X Y:List (List UInt64)}(h:∀i,i<bs.length→(X.getD i []).length=(Y.getD i []).length):Lock (Ol 64 bs X) (Ol 64 bs Y):=by
 refine⟨rfl,rfl,rfl,Dp,Dp,λx _=>rfl,?_⟩;show (Sc bs X bs.length).map List.length=(Sc bs Y bs.length).map List.length;unfold Sc;rw[List.map_map,List.map_map];refine List.map_congr_left λi hi=>?_
 have:=h i (J9.1 hi);simp only[Function.comp,T2,H8,List.length_replicate];omega
def zy7{f:Fr Lo}(hw:f.wf Qi):∀(i:Nat) (o p:Lo),f.flat[i]?=some o→o.kind=17→f.flat[((f.ends 0).getD i 0).toNat]?=some p→p.kind=16:=λi o p ho j g=>by
 obtain⟨k,C,z,A,B⟩:=ends_at f 0 i o hw ho j;rw[Hy,z]at g;simp only[Ju,Is,Ix]at g;rw[A]at g;rw[←Option.some.inj g];exact B
def zye{b:Nat}(C:∀o∈vX,¬(o.kind=15∧o.buf.toNat=b)){s D:Ms}(h:Rd vX vO s=some D):D.bufs.getD b []=s.bufs.getD b []∧D.bufs.length=s.bufs.length:=by
 unfold Rd at h;cases g:vX[s.i]? with
 |none=>rw[g]at h;cases h;exact⟨rfl,rfl⟩
 |some o =>
 rw[g]at h;dsimp only at h;have E:=C o (Iq g);by_cases z:o.kind=16
 ·rw[H7 z]at h;cases h;exact⟨rfl,rfl⟩
 rw[Hv z]at h;by_cases A:o.kind=17
 ·rw[H7 A]at h;split at h
  ·cases h
  ·split at h<;>(cases h;exact⟨rfl,rfl⟩)
 rw[Hv A]at h;unfold U7 at h;by_cases B:o.kind=14
 ·rw[H7 B]at h;split at h
  ·cases h;exact⟨rfl,rfl⟩
  ·cases h
 rw[Hv B]at h;by_cases j:o.kind=15
 ·rw[H7 j]at h;split at h
  ·cases h;refine⟨?_,N⟩;simp only[Hy];rw[Hx (λq=>E ⟨j,q⟩)]
  ·cases h
 rw[Hv j]at h;cases h;exact⟨rfl,rfl⟩
def zvd{z:List Lo}{A:List Int}{b:Nat}(j:∀o∈z,¬(o.kind=15∧o.buf.toNat=b)):∀(n:Nat) (s g:Ms),Pe z A n s=some g→g.bufs.getD b []=s.bufs.getD b []∧g.bufs.length=s.bufs.length
 |0,s,g,h=>by cases h;exact⟨rfl,rfl⟩
 |n+1,s,g,h=>by
  unfold Pe at h;split at h
  ·cases h
  ·rename_i B C;obtain⟨D,E⟩:=zye j C;obtain⟨F,G⟩:=zvd j n B g h;exact⟨F.trans D,G.trans E⟩
def Xa(sz:Nat→Nat):(Nat→Option Nat)→Fr Lo→Prop
 |_,.nil=>True
 |g,.op o r=>(Sg o.d=true∧Sg o.e=true)∧(o.kind=14∨o.kind=15→(o.a=-1∧o.imm.toNat<sz o.buf.toNat)∨∃x m:Nat,o.a=x∧x<16∧g x=some m∧o.imm.toNat+m≤sz o.buf.toNat∧sz o.buf.toNat≤65536)∧Xa sz g r
 |g,.loop o b _ r=>((0≤o.d∧o.d<16)∧b.noW o.d.toNat=true)∧Xa sz (λx=>if x=o.d.toNat then some o.imm.toNat else g x) b∧Xa sz (λx=>if x=o.d.toNat then none else g x) r
def zs7(g:Nat→Option Nat)(s:Fs):Prop:=∀x m,x<16→g x=some m→(s.r x).toNat<m
def z9p{s:Fs}{d:Int}{v:UInt64}(h:Sg d=true){x:Nat}(g:x<16):(Rb s d v).r x=s.r x:=by
 unfold Sg at h;simp only[Jb,Ib]at h;exact zjf J
def yz{A:Nat→Nat}{D:Nat→Option Nat}{o:Lo}{s:Fs}(F:zs7 D s)(hd:Sg o.d=true)(he:Sg o.e=true)
  (hm:o.kind=14∨o.kind=15→(o.a=-1∧o.imm.toNat<A o.buf.toNat)∨∃x m:Nat,o.a=x∧x<16∧D x=some m∧o.imm.toNat+m≤A o.buf.toNat∧A o.buf.toNat≤65536):∃E,Qe A o s=some E∧∀x,x<16→E.r x=s.r x:=by
 have B:o.kind=14∨o.kind=15→(o.imm+Sz s o.a).toNat<A o.buf.toNat:=λG=>by
  rcases hm G with ⟨e,h⟩|⟨x,m,e,g,C,H,I⟩
  ·unfold Sz;rw[e,H7 Ac,UInt64.add_zero];exact h
  ·have K:=F x m g C;unfold Sz;rw[e,Hv J,Is,Jh,Iy J];omega
 unfold Qe;by_cases j:o.kind=14
 ·rw[H7 j,H7 (B (.inl j))];exact⟨_,rfl,λx g=>by rw[z9p he g,z9p hd g]⟩
 rw[Hv j];by_cases z:o.kind=15
 ·rw[H7 z,H7 (B (.inr z))];exact⟨_,rfl,λx g=>by rw[z9p he g,z9p hd g];rfl⟩
 rw[Hv z];exact⟨_,rfl,λx g=>by rw[z9p he g,z9p hd g]⟩
def zfm{Q:Nat→Nat}:∀(f:Fr Lo) (z:Nat→Option Nat) (s:Fs),Xa Q z f→zs7 z s→(∀x m,z x=some m→f.noW x=true)→∃G,S9 Q f s=some G∧∀x m,x<16→z x=some m→G.r x=s.r x
 |.nil,_,s,_,_,_=>⟨s,rfl,λ_ _ _ _=>rfl⟩
 |.op o r,z,s,h,H,hw=>by
  obtain⟨⟨U,V⟩,R,T⟩:=h;obtain⟨F,I,E⟩:=yz H U V R;obtain⟨K,L,M⟩:=zfm r z F T (λx m j g=>by rw[E x j];exact H x m j g) (λx m g=>by
   have:=hw x m g;simp only[Fr.noW,Hw]at this;exact this.2.2)
  refine⟨K,?_,λx m j g=>(M x m j g).trans (E x j)⟩;unfold S9;rw[I];exact L
 |.loop o b e r,z,s,h,H,hw=>by
  obtain⟨⟨⟨U,V⟩,X⟩,R,T⟩:=h;have A:∀x m,z x=some m→x≠o.d.toNat∧b.noW x=true∧r.noW x=true:=λx m g=>by
   have:=hw x m g;simp only[Fr.noW,Hw,Jd,I3]at this;exact⟨λq=>this.1 q.symm,this.2.1,this.2.2⟩
  have Y:=o.imm.toNat_lt;have B:∀(n P:Nat) (s:Fs),P+n=o.imm.toNat→zs7 z s→∃G,ko (S9 Q b) o.d.toNat n P s=some G∧∀x m,x<16→z x=some m→G.r x=s.r x:=by
   intro n
   induction n with
   |zero=>intro P s _ _;exact⟨s,rfl,λ_ _ _ _=>rfl⟩
   |succ n Z =>
    intro P s hj O;have C:∀x,(s.put o.d.toNat (UInt64.ofNat P)).r x=if x=o.d.toNat then UInt64.ofNat P else s.r x:=λx=>rfl
    obtain⟨F,I,E⟩:=zfm b _ (s.put o.d.toNat (UInt64.ofNat P)) R (λx m j g=>by
     rw[C];by_cases q:x=o.d.toNat
     ·rw[H7 q]at g ⊢;cases g;rw[Jc];rw[Iy J];omega
     ·rw[Hv q]at g ⊢;exact O x m j g) (λx m g=>by
     by_cases q:x=o.d.toNat
     ·rw[q];exact X
     ·rw[Hv q]at g;exact (A x m g).2.1)
    have D:∀x m,x<16→z x=some m→F.r x=s.r x:=λx m j g=>by
     have q:=(A x m g).1;rw[E x m j (by rw[Hv q];exact g),C,Hv q]
    obtain⟨K,L,M⟩:=Z (P+1) F J (λx m j g=>by rw[D x m j g];exact O x m j g);refine⟨K,?_,λx m j g=>(M x m j g).trans (D x m j g)⟩;unfold ko;rw[I];exact L
  obtain⟨F,I,E⟩:=B o.imm.toNat 0 s J H;obtain⟨K,L,M⟩:=zfm r _ F T (λx m j g=>by
   by_cases q:x=o.d.toNat
   ·rw[H7 q]at g;cases g
   ·rw[Hv q]at g;rw[E x m j g];exact H x m j g) (λx m g=>by
   by_cases q:x=o.d.toNat
   ·rw[H7 q]at g;cases g
   ·rw[Hv q]at g;exact (A x m g).2.2)
  refine⟨K,?_,λx m j g=>?_⟩
  ·unfold S9;rw[I];exact L
  ·have q:=(A x m g).1;rw[M x m j (by rw[Hv q];exact g)];exact E x m j g
section
def R3(sz:Nat→Nat)(bd:Nat→Option Nat)(o:Lo):Prop:=(Sg o.d=true∧Sg o.e=true)∧(o.kind=14∨o.kind=15→(o.a=-1∧o.imm.toNat<sz o.buf.toNat)∨∃x m:Nat,o.a=x∧x<16∧bd x=some m∧o.imm.toNat+m≤sz o.buf.toNat∧sz o.buf.toNat≤65536)
section run
variable {sz : Nat → Nat} {bd : Nat → Option Nat}
def safe_L:∀{l:List Lo},(∀o∈l,R3 sz bd o)→Xa sz bd (M5 l)
 |[],_=>trivial
 |o::_,h=>⟨(h o (I5 ..)).1,(h o (I5 ..)).2,safe_L λx g=>h x (Ik _ g)⟩
def safe_cat:∀{f B:Fr Lo} {bd:Nat→Option Nat},Xa sz bd f→(∀g:Nat→Option Nat,(∀x m,bd x=some m→f.noW x=true→g x=some m)→Xa sz g B)→Xa sz bd (f.cat B)
 |.nil,_,bd,_,h=>h bd λ_ _ e _=>e
 |.op o r,B,bd,j,h=>⟨j.1,j.2.1,safe_cat j.2.2 λg A=>h g λx m e z=>A x m e (by
   simp only[Fr.noW,Hw]at z;exact z.2.2)⟩
 |.loop o b e r,B,bd,j,h=>⟨j.1,j.2.1,safe_cat j.2.2 λg A=>h g λx m q z=>by
   simp only[Fr.noW,Hw,Jd,I3]at z;exact A x m (by rw[Hv (λw=>z.1 w.symm)];exact q) z.2.2⟩
def ztl{g:Nat}(z:g<16):∀{l:List Lo},(∀o∈l,Sg o.d=true∧Sg o.e=true)→(M5 l).noW g=true
 |[],_=>rfl
 |o::l,h=>by
  have j:=h o (I5 ..);have A:=ztl z (l:=l) λx B=>h x (Ik _ B)
  unfold Sg at j;simp only[Jb,Ib]at j;show (!decide (o.d=g)&&(!decide (o.e=g)&&(M5 l).noW g))=true;rw[A];simp;omega
def zdx{D:Nat}:∀(f g:Fr Lo),(f.cat g).noW D=(f.noW D&&g.noW D)
 |.nil,g=>by simp[Fr.cat,Fr.noW]
 |.op o r,g=>E7
 |.loop o b e r,g=>E7
def noW_lp{n:Nat}{b:Fr Lo}(h:j≠g)(z:b.noW g=true):(Og (j:Nat) (n:Nat) b).noW g=true:=by
 unfold Og;split
 ·rfl
 ·simp[Fr.noW,S0,z,h]
def Zl{D n:Nat}{b:Fr Lo}(A:D<16)(B:n<1000000)(hw:b.noW D=true)(g:Xa sz (λx=>if x=D then some n else bd x) b):Xa sz bd (Og (D:Nat) (n:Nat) b):=by
 unfold Og;split
 ·trivial
 ·refine⟨⟨⟨by show (0:Int)≤D;omega,by show (D:Int)<16;omega⟩,hw⟩,?_,trivial⟩;have j:(S0 (D:Nat) (n:Nat)).d.toNat=D:=by simp[S0]
  have z:(S0 (D:Nat) (n:Nat)).imm.toNat=n:=Vv J;rw[j,z];exact g
def yn{x:Int}(h:16≤x):Sg x=true:=by unfold Sg;simp;omega
def high_m1:Sg (-1)=true:=Ac
def zqw{o:Lo}(g:o.kind≠14∧o.kind≠15)(hd:Sg o.d=true)(he:Sg o.e=true):R3 sz bd o:=⟨⟨hd,he⟩,λh=>J⟩
def zvt{p:Pn}(h:p.a+g<18446744073709551616):(iU (p.p.at_+(g:Int))).toNat=p.a+g:=Zn h
def zea{p:Pn}{d:Int}{off:Nat}(hd:16≤d)(h:p.a+off<sz p.b)(g:sz p.b≤65536):R3 sz bd (M9 d p.p (-1) (off:Nat)) :=
 ⟨⟨yn hd,high_m1⟩,λ_=>.inl ⟨rfl,Gy⟩⟩
def zdq{p:Pn}{d:Int}{x m off:Nat}(hd:16≤d)(g:x<16)(j:bd x=some m)(h:p.a+off+m≤sz p.b)(z:sz p.b≤65536):R3 sz bd (M9 d p.p (x:Nat) (off:Nat)) :=
 ⟨⟨yn hd,high_m1⟩,λ_=>.inr ⟨x,m,rfl,g,j,Gz,z⟩⟩
def znq{p:Pn}{v:Int}{off:Nat}(h:p.a+off<sz p.b)(g:sz p.b≤65536):R3 sz bd (Nd p.p (-1) (off:Nat) v) :=
 ⟨⟨high_m1,high_m1⟩,λ_=>.inl ⟨rfl,Gy⟩⟩
def zn7{p:Pn}{v:Int}{x m off:Nat}(g:x<16)(j:bd x=some m)(h:p.a+off+m≤sz p.b)(z:sz p.b≤65536):R3 sz bd (Nd p.p (x:Nat) (off:Nat) v) :=
 ⟨⟨high_m1,high_m1⟩,λ_=>.inr ⟨x,m,rfl,g,j,Gz,z⟩⟩
def ok_nil:∀o∈([]:List Lo),R3 sz bd o:=λ_ h=>Ai
def Qd{o:Lo}{l:List Lo}(h:R3 sz bd o)(k:∀x∈l,R3 sz bd x):∀x∈o::l,R3 sz bd x:=λx g=>by
 rcases If.1 g with rfl|g
 ·exact h
 ·exact k x g
def mw{l r:List Lo}(h:∀x∈l,R3 sz bd x)(k:∀x∈r,R3 sz bd x):∀x∈l++r,R3 sz bd x:=λx g=>(Ip.1 g).elim (h x) (k x)
def Xo{d:Int}{v:UInt64}(h:16≤d):R3 sz bd (cK d v):=zqw Dk (yn h) high_m1
def zr6{h l a b:Int}(g:16≤h)(j:16≤l):R3 sz bd (Np h l a b):=zqw Fg (yn g) (yn j)
def zll{k d o a b c:Int}(g:k≠14∧k≠15)(hd:16≤d)(ho:16≤o):R3 sz bd (Ni k d o a b c):=zqw g (yn hd) (yn ho)
def zls{k d a b:Int}(g:k≠14∧k≠15)(hd:16≤d):R3 sz bd (M1 k d a b):=zqw g (yn hd) high_m1
def ok_Sel{d c a b:Int}(hd:16≤d):R3 sz bd (Ns d c a b):=zqw (by simp[Ns]) (yn hd) high_m1
def ztf{a b:Int}(g:16≤z):∀o∈Nr z a b,R3 sz bd o :=
 Qd (zr6 J J) (Qd (zll J J J) (Qd (zll J J J) (Qd (zls J J) (Qd (zls J J) ok_nil))))
def zhw{D n:Nat}(j:D<16)(z:n<1000000)(h:∀g:Nat→Option Nat,g D=some n→∀o∈vX,R3 sz g o):Xa sz bd (Og (D:Nat) (n:Nat) (M5 vX)) :=
 Zl j z (ztl j λo ho=>(h (λ_=>some n) rfl o ho).1) (safe_L (h _ (H7 rfl)))
def zyd{n:Nat}(A:j<16)(z:g≠j)(h:∀o∈vX,Sg o.d=true∧Sg o.e=true):(Og (g:Nat) (n:Nat) (M5 vX)).noW j=true:=noW_lp z (ztl A h)
def zlw{R D i k:Nat}{a b t:Pn}(U:16≤R)(j:D<16)(hi:i<16)(K:b.in_ sz)(L:a.in_ sz)(M:t.in_ sz){m:Nat}(z:bd i=some m)(hm:m≤b.k)(V:k≤a.k)(O:k+2≤t.k)(A:k<1000000) :
  Xa sz bd (Tf a.p b.p t.p (k:Nat) (R:Nat) (D:Nat) (i:Nat))∧∀I,I<16→D≠I→(Tf a.p b.p t.p (k:Nat) (R:Nat) (D:Nat) (i:Nat)).noW I=true:=by
 obtain⟨X,P⟩:=K;obtain⟨Y,Q⟩:=L;obtain⟨Z,g⟩:=M;have F:∀bd:Nat→Option Nat,bd i=some m→∀o∈[M9 ((R:Nat)+2:Int) b.p (i:Nat) ((0:Nat):Int),cK ((R:Nat)+3:Int) 0],R3 sz bd o:=λbd h =>
  Qd (zdq J hi h J P) (Qd (Xo J) ok_nil)
 have G:∀bd:Nat→Option Nat,bd D=some k→∀o∈Uc a.p t.p (R:Nat) (D:Nat),R3 sz bd o:=λbd h =>
  mw (Qd (zdq (off:=0) J j h J Q) (Qd (zdq (off:=0) J j h J g) ok_nil)) (mw (ztf J) (Qd (zn7 (off:=0) j h J g) ok_nil))
 have H:∀bd:Nat→Option Nat,∀o∈Ok t.p (k:Nat) (R:Nat)++[Nd t.p (-1) (k:Nat) ((R:Nat)+7),Nd t.p (-1) ((k+1:Nat):Int) ((R:Nat)+8)],R3 sz bd o:=λbd =>
  mw (Qd (zea J J g) (Qd (zll J J J) ok_nil)) (Qd (znq J g) (Qd (znq J g) ok_nil))
 refine⟨safe_cat (safe_L (F bd z)) λT _=>safe_cat (zhw j A G) λB _=>safe_L (H B),λI C E=>?_⟩;have e:Tf a.p b.p t.p (k:Nat) (R:Nat) (D:Nat) (i:Nat)=(M5 [M9 ((R:Nat)+2:Int) b.p (i:Nat) ((0:Nat):Int),cK ((R:Nat)+3:Int) 0]).cat ((Og (D:Nat) (k:Nat) (M5 (Uc a.p t.p (R:Nat) (D:Nat)))).cat
   (M5 (Ok t.p (k:Nat) (R:Nat)++[Nd t.p (-1) (k:Nat) ((R:Nat)+7),Nd t.p (-1) ((k+1:Nat):Int) ((R:Nat)+8)]))):=rfl
 rw[e,zdx,zdx,ztl C λo ho=>(F (λ_=>some m) rfl o ho).1,zyd C E λo ho=>(G (λ_=>some k) rfl o ho).1,ztl C λo ho=>(H bd o ho).1];rfl
def zoh{R D k:Nat}{n t:Pn}(Q:16≤R)(j:D<16)(K:n.in_ sz)(L:t.in_ sz)(T:k+1≤n.k)(M:k+3≤t.k)(z:k<1000000) :
  Xa sz bd (Tq n.p t.p ((k+1:Nat):Int) (R:Nat) (D:Nat))∧∀I,I<16→D≠I→(Tq n.p t.p ((k+1:Nat):Int) (R:Nat) (D:Nat)).noW I=true:=by
 obtain⟨U,E⟩:=K;obtain⟨V,g⟩:=L;have O:((k+1:Nat):Int)-1=(k:Nat):=J
 have F:∀bd:Nat→Option Nat,∀o∈[M9 ((R:Nat)+7:Int) t.p (-1) ((0:Nat):Int),Np ((R:Nat)+5) ((R:Nat)+10) ((R:Nat)+7) ((R:Nat)+1),M9 ((R:Nat)+4:Int) n.p (-1) ((0:Nat):Int),cK ((R:Nat)+3) 0]++Nr (R:Nat) ((R:Nat)+10) ((R:Nat)+4),R3 sz bd o:=λbd =>
  mw (Qd (zea J J g) (Qd (zr6 J J) (Qd (zea J J E) (Qd (Xo J) ok_nil)))) (ztf J)
 have G:∀bd:Nat→Option Nat,bd D=some k→∀o∈Ui n.p t.p (R:Nat) (D:Nat),R3 sz bd o:=λbd h =>
  mw (Qd (zdq (off:=1) J j h J E) (Qd (zdq (off:=1) J j h J g) ok_nil)) (mw (ztf J) (Qd (zn7 (off:=0) j h J g) ok_nil))
 have H:∀bd:Nat→Option Nat,∀o∈Ok t.p ((k+1:Nat):Int) (R:Nat)++[Nd t.p (-1) ((k:Nat):Int) ((R:Nat)+7),M9 ((R:Nat)+7) t.p (-1) ((k+2:Nat):Int),M1 3 ((R:Nat)+7) ((R:Nat)+7) ((R:Nat)+8),Nd t.p (-1) ((k+1:Nat):Int) ((R:Nat)+7)],R3 sz bd o:=λbd =>
  mw (Qd (zea J J g) (Qd (zll J J J) ok_nil)) (Qd (znq J g) (Qd (zea J J g) (Qd (zls J J) (Qd (znq J g) ok_nil))))
 have e:Tq n.p t.p ((k+1:Nat):Int) (R:Nat) (D:Nat)=(M5 ([M9 ((R:Nat)+7:Int) t.p (-1) ((0:Nat):Int),Np ((R:Nat)+5) ((R:Nat)+10) ((R:Nat)+7) ((R:Nat)+1),M9 ((R:Nat)+4:Int) n.p (-1) ((0:Nat):Int),cK ((R:Nat)+3) 0]++Nr (R:Nat) ((R:Nat)+10) ((R:Nat)+4))).cat
   ((Og (D:Nat) (k:Nat) (M5 (Ui n.p t.p (R:Nat) (D:Nat)))).cat (M5 (Ok t.p ((k+1:Nat):Int) (R:Nat)++[Nd t.p (-1) ((k:Nat):Int) ((R:Nat)+7),M9 ((R:Nat)+7) t.p (-1) ((k+2:Nat):Int),M1 3 ((R:Nat)+7) ((R:Nat)+7) ((R:Nat)+8),Nd t.p (-1) ((k+1:Nat):Int) ((R:Nat)+7)]))):=by
  unfold Tq;rw[O];rfl
 rw[e];refine⟨safe_cat (safe_L (F bd)) λP _=>safe_cat (zhw j z G) λA _=>safe_L (H A),λI B C=>?_⟩;rw[zdx,zdx,ztl B λo ho=>(F bd o ho).1,zyd B C λo ho=>(G (λ_=>some k) rfl o ho).1,ztl B λo ho=>(H bd o ho).1];rfl
end run
end
section
section run
variable {sz : Nat → Nat} {bd : Nat → Option Nat}
def zoe{k:Nat}{n t:Pn}{x:List Lo}(K:16≤g)(z:j<16)(B:n.in_ sz)(C:t.in_ sz)(L:k≤n.k)(D:k≤t.k)(A:k<1000000)(E:∀bd:Nat→Option Nat,bd j=some k→∀o∈x,R3 sz bd o) :
  Xa sz bd (Vx n.p t.p (k:Nat) (g:Nat) (j:Nat) x):=by
 obtain⟨M,F⟩:=B;obtain⟨O,G⟩:=C;have H:∀bd:Nat→Option Nat,bd j=some k→∀o∈Ua n.p t.p (g:Nat) (j:Nat)++x,R3 sz bd o:=λbd h =>
  mw (Qd (zdq (off:=0) J z h J G) (Qd (zdq (off:=0) J z h J F) (Qd (zll J J J) ok_nil))) (E bd h)
 exact safe_cat (safe_L (Qd (Xo J) ok_nil)) λI _=>zhw z A H
def zxk{R D k:Nat}{d n t:Pn}(A:16≤R)(z:D<16)(hd:d.in_ sz)(B:n.in_ sz)(j:t.in_ sz)(C:k≤n.k)(E:k+1≤t.k)(F:k≤d.k)(g:k<1000000) :
  Xa sz bd (Xq d.p n.p t.p (k:Nat) (R:Nat) (D:Nat)):=by
 unfold Xq;refine safe_cat (zoe A z B j C J g λ_ _=>ok_nil) λG _=>safe_cat (safe_L (Qd (zea J (by have:=j.1;omega) j.2) (Qd (zll J J J) ok_nil))) λH _=>zoe A z B j C J g λbd h=>?_
 exact Qd (ok_Sel J) (Qd (zn7 (off:=0) z h (by have:=hd.1;omega) hd.2) ok_nil)
def yi{n r:Int}(h:16≤r):∀o∈Un n r,R3 sz bd o:=by
 have g:∀i,∀o∈Xj n r i,R3 sz bd o:=λi o ho=>by
  unfold Xj at ho;obtain⟨_,_,ho⟩:=List.mem_flatMap.1 ho;exact Qd (zr6 J J) (Qd (zls J J) (Qd (zr6 J J) ok_nil)) o ho
 unfold Un;exact mw (Qd (Xo J) (Qd (zr6 J J) (Qd (Xo J) (Qd (zls J J) ok_nil)))) (mw (g 5) (Qd (Xo J) (Qd (zls J J) ok_nil)))
def cn{R D k:Nat}{d a b n t:Pn}(j:16≤R)(A:D+1<16)(hd:d.in_ sz)(E:a.in_ sz)(F:b.in_ sz)(z:n.in_ sz)(g:t.in_ sz)(K:k+1≤d.k)(G:k+1≤a.k)(H:k+1≤b.k)(B:k+1≤n.k)(I:k+3≤t.k)(C:t.k<1000000) :
  Xa sz bd (Wh d.p a.p b.p n.p t.p (k+1:Nat) (R:Nat) (D:Nat)):=by
 have e:Wh d.p a.p b.p n.p t.p (k+1:Nat) (R:Nat) (D:Nat)=(M5 ([cK (R:Nat) 0,M9 ((R:Nat)+10:Int) n.p (-1) ((0:Nat):Int)]++Un ((R:Nat)+10:Int) ((R:Nat)+1:Int))).cat ((Og (D:Nat) (t.k:Nat) (M5 [Nd t.p (D:Nat) ((0:Nat):Int) (R:Nat)])).cat ((Og (D:Nat) (k+1:Nat) ((Tf a.p b.p t.p (k+1:Nat) (R:Nat) ((D+1:Nat):Int) (D:Nat)).cat (Tq n.p t.p (k+1:Nat) (R:Nat) ((D+1:Nat):Int)))).cat (Xq d.p n.p t.p (k+1:Nat) (R:Nat) (D:Nat)))):=rfl;rw[e];refine safe_cat (safe_L (mw (Qd (Xo J) (Qd (zea J (by have:=z.1;omega) z.2) ok_nil)) (yi J))) λL _=>?_
 refine safe_cat (zhw J C λbd h=>Qd (zn7 (off:=0) J h (by have:=g.1;omega) g.2) ok_nil) λM _=>?_
 refine safe_cat (Zl J J ?_ ?_) λO _=>zxk j J hd z g B J K J
 ·have P:=(zlw (sz:=sz) (bd:=λ_=>some (k+1)) (R:=R) (D:=D+1) (i:=D) (k:=k+1) j A J F E g rfl H G J J).2 D J J;have Q:=(zoh (sz:=sz) (bd:=λ_=>some (k+1)) (R:=R) (D:=D+1) (k:=k) j A z g B I J).2 D J J;rw[zdx,P,Q];rfl
 ·refine safe_cat (zlw j A J F E g (m:=k+1) (H7 rfl) H G J J).1 λT _=>(zoh j A z g B I J).1
end run
end
section
structure Cf where
 nb:Nat
 R:Int
 w:Int
 lo:Int
 hi:Int
 pa:Int
 pb:Int
 L:Nat→Prop
 S:Nat→Prop
def Qv(c:Cf)(x:Int):Prop:=c.R≤x∧x<c.R+c.w
def To(c:Cf)(x:Int):Prop:=(c.lo≤x∧x≤c.hi)∨(c.pa≤x∧x≤c.pb)
def Te(c:Cf)(x:Int):Prop:=x=-1∨Qv c x∨To c x
def hiO(c:Cf)(o:Lo):Prop:=(o.d=-1∨Qv c o.d)∧(o.e=-1∨Qv c o.e)∧(o.kind=14∨o.kind=15→o.a=-1∨To c o.a)
def plO(c:Cf)(o:Lo):Prop:=(o.kind≠14∧o.kind≠15)∧(c.pa≤o.d∧o.d≤c.pb)∧o.e=-1∧(o.a=-1∨To c o.a)∧(o.b=-1∨To c o.b)∧(o.c=-1∨To c o.c)
structure OpH (c:Cf) (o:Lo):Prop where
 k:o.kind≠16∧o.kind≠17
 f:o.buf.toNat<c.nb
 a:Te c o.a
 b:Te c o.b
 z:Te c o.c
 m:hiO c o∨plO c o
 ld:o.kind=14→c.L o.buf.toNat
 st:o.kind=15→c.S o.buf.toNat
def Fr.AllH(c:Cf):Int→Fr Lo→Prop
 |_,.nil=>True
 |gg,.op o r=>OpH c o∧r.AllH c gg
 |gg,.loop o b e r=>LpG gg o∧(c.lo≤gg∧gg≤c.hi)∧e=Uf∧b.AllH c (gg+1)∧r.AllH c gg
structure CfOk (c:Cf):Prop where
 r:16≤c.R∧c.R+c.w≤64
 l:0≤c.lo∧c.hi<8
 p:8≤c.pa∧c.pb<16
def xf(c:Cf)(o:Lo):Prop:=OpH c o∨o=Uf∨∃g,LpG g o∧c.lo≤g∧g≤c.hi
section ah
variable {c : Cf}
def allH_cat:∀{f j:Fr Lo} {g:Int},f.AllH c g→j.AllH c g→(f.cat j).AllH c g
 |.nil,_,_,_,h=>h
 |.op _ _,_,_,h,k=>⟨h.1,allH_cat h.2 k⟩
 |.loop _ _ _ _,_,_,h,k=>⟨h.1,h.2.1,h.2.2.1,h.2.2.2.1,allH_cat h.2.2.2.2 k⟩
def allH_L:∀{l:List Lo} {g:Int},(∀o∈l,OpH c o)→(M5 l).AllH c g
 |[],_,_=>trivial
 |o::_,_,h=>⟨h o (I5 ..),allH_L λx j=>h x (Ik _ j)⟩
def Xg{b:Fr Lo}(A:B≤1000000)(g:c.lo≤z∧z≤c.hi)(j:b.AllH c (z+1)):(Og z B b).AllH c z:=by
 unfold Og;split
 ·trivial
 ·refine⟨⟨rfl,rfl,rfl,rfl,rfl,rfl,?_⟩,g,rfl,j,trivial⟩;obtain⟨n,rfl⟩:=Hz (J:0≤B);show 1≤(iU (n:Int)).toNat;rw[Vv J];omega
def allH_wf:∀{f:Fr Lo} {g:Int},f.AllH c g→f.wf Qi
 |.nil,_,_=>trivial
 |.op o r,_,h=>⟨by unfold Qi;rw[Hv h.1.k.1,Hv h.1.k.2],allH_wf h.2⟩
 |.loop o b e r,_,h=>⟨by unfold Qi;rw[H7 h.1.1],by rw[h.2.2.1];rfl,allH_wf h.2.2.2.1,allH_wf h.2.2.2.2⟩
def zu1{x:Int}{ls:List Nat}(g:∀y∈ls,y<8)(h:x=-1∨(8≤x∧x<64)):ql ls x=true:=by
 unfold ql;rcases h with rfl|h
 ·simp
 ·have:¬x.toNat∈ls:=λq=>by have:=g _ q;omega
  simp[this];omega
def Xz(g:CfOk c){x:Int}(h:Te c x):x<64:=by
 obtain⟨r,l,p⟩:=g;rcases h with h|h|h|h
 ·omega
 ·have:=h.2;omega
 ·omega
 ·omega
def mkH(z:CfOk c){o:Lo}(h:OpH c o):(o.d=-1∨(8≤o.d∧o.d<64))∧(o.e=-1∨(8≤o.e∧o.e<64)):=by
 obtain⟨r,l,p⟩:=z;rcases h.m with ⟨g,j,_⟩|⟨_,g,j,_⟩
 ·unfold Qv at g j;omega
 ·omega
def zbr(j:CfOk c):∀{f:Fr Lo} {g:Int} {ls:List Nat},(∀y∈ls,(y:Int)<g∧y<8)→f.AllH c g→f.regs c.nb ls=true
 |.nil,_,_,_,_=>rfl
 |.op o r,g,ls,z,h=>by
  obtain⟨F,h⟩:=h;have C:=zbr j z h;have A:∀y∈ls,y<8:=λy B=>(z y B).2
  obtain⟨m1,G⟩:=mkH j F;simp only[Fr.regs,Hw,Ib];exact⟨zu1 A m1,zu1 A G,Xz j F.a,Xz j F.b,Xz j F.z,F.f,C⟩
 |.loop o b e r,g,ls,z,h=>by
  obtain⟨⟨I,K,L,M,O,P,H⟩,k,_,E,h⟩:=h;obtain⟨Q,T,U⟩:=id j;have C:=zbr j z h;have E:=zbr (ls:=o.d.toNat::ls) j (λy B=>by
   rcases If.1 B with rfl|B
   ·omega
   ·have:=z y B;omega) E
  simp only[Fr.regs,Hw,Ib];refine⟨?_,J,H,E,C⟩;unfold ql;have:¬o.d.toNat∈ls:=λq=>by have:=z _ q;omega
  simp[this];omega
def allH_flat:∀{f:Fr Lo} {g:Int},f.AllH c g→∀o∈f.flat,xf c o
 |.nil,_,_,o,ho=>by simp[Fr.flat]at ho
 |.op p r,_,h,o,ho=>by
  simp only[Fr.flat,If]at ho;rcases ho with rfl|ho
  ·exact .inl h.1
  ·exact allH_flat h.2 o ho
 |.loop p b e r,g,h,o,ho=>by
  simp only[Fr.flat,If,Ip]at ho;rcases ho with rfl|ho|rfl|ho
  ·exact .inr (.inr ⟨g,h.1,h.2.1⟩)
  ·exact allH_flat h.2.2.2.1 o ho
  ·exact .inr (.inl h.2.2.1)
  ·exact allH_flat h.2.2.2.2 o ho
def zo(g:CfOk c){x:Int}(h:x=-1∨To c x):x<16:=by
 obtain⟨r,l,p⟩:=g;unfold To at h;omega
def xf.low(hc:CfOk c){o:Lo}(h:xf c o):Vs o=true:=by
 have hr:=hc.r;have gz:=hc.l;have hp:=hc.p;rcases h with h|rfl|⟨gA,⟨g1,g2,g3,g4,g5,g6,g7⟩,k⟩
 ·unfold Vs;rw[Hv h.k.1,Hv h.k.2];rcases h.m with ⟨m1,m2,m3⟩|⟨m0,m1,m2,m3,m4,m5⟩
  ·have hd:Sg o.d=true:=by unfold Sg;unfold Qv at m1;simp only[Jb,Ib];omega
   have he:Sg o.e=true:=by unfold Sg;unfold Qv at m2;simp only[Jb,Ib];omega
   split
   ·rename_i hm;have ha:Ry o.a=true:=by unfold Ry;exact Jp (zo hc (m3 hm))
    rw[ha,hd,he];rfl
   ·rw[hd,he];rfl
  ·rw[Hv J];have ha:Ry o.a=true:=by unfold Ry;exact Jp (zo hc m3)
   have hb:Ry o.b=true:=by unfold Ry;exact Jp (zo hc m4)
   have gg:Ry o.c=true:=by unfold Ry;exact Jp (zo hc m5)
   rw[ha,hb,gg];simp
 ·rfl
 ·unfold Vs;rw[H7 g1];simp only[Hw,Ib];omega
def xf.safeS(hc:CfOk c){bs:List Bf}{o:Lo}(hs:∀n,c.S n→(Ng bs n).sec=true)(h:xf c o):w9 bs qk o=true:=by
 have gA:=hc.l;rcases h with h|rfl|⟨gB,⟨g1,g2,g3,g4,g5,g6,g7⟩,k⟩
 ·unfold w9;have hk:=h.k;by_cases q:o.kind=14∨o.kind=15
  ·have hm:o.a=-1∨To c o.a:=by
    rcases h.m with ⟨_,_,m3⟩|⟨m0,_⟩
    ·exact m3 q
    ·omega
   have gg:qk o.a=false:=by have:=zo hc hm;unfold qk;rw[I3];omega
   by_cases gz:o.kind=15
   ·simp[gg,hs _ (h.st gz),hk.1]
   ·simp[gg,hk.1,gz]
  ·have h1:¬o.kind=14:=λe=>q (.inl e)
   have h2:¬o.kind=15:=λe=>q (.inr e)
   simp[Oz,h1,h2,hk.1]
 ·simp[w9,Uf,Oz]
 ·have:qk o.d=false:=by unfold qk;rw[I3];omega
  simp[w9,g1,Oz,this]
def ce(o:Lo):∀x∈Oc o,x=o.a∨x=o.b∨x=o.c:=by
 intro x g;unfold Oc at g
 repeat' split at g
 all_goals simp at g
 all_goals omega
def xf.closedS(hc:CfOk c){bs:List Bf}{o:Lo}(hf:Ps 64 bs o=true)(h:xf c o):Wk bs qk o=true→∀x∈M6 o,qk x=true:=by
 have hr:=hc.r;rcases h with h|rfl|⟨gz,⟨g1,g2,g3,g4,g5,g6,g7⟩,k⟩
 ·intro gg x hx;have gA:=(zuy hf x hx).1;rcases h.m with ⟨m1,m2,m3⟩|⟨m0,m1,m2,m3,m4,m5⟩
  ·have:x=o.d∨x=o.e:=by
    unfold M6 at hx;split at hx
    ·simpa using hx
    ·split at hx
     ·simp at hx
     ·simp at hx;exact .inl hx
   unfold qk;rw[Ib];unfold Qv at m1 m2;rcases this with rfl|rfl<;>omega
  ·exfalso;unfold Wk at gg;rw[Hv h.k.1,Hv m0.1]at gg;obtain⟨y,hy,hC⟩:=I9.1 gg;unfold qk at hC;rw[Ib]at hC;rcases ce o y hy with rfl|rfl|rfl
   ·have:=zo hc m3;omega
   ·have:=zo hc m4;omega
   ·have:=zo hc m5;omega
 ·intro h;simp[Wk,Uf,Oc]at h
 ·intro h;simp[Wk,g1]at h
def C0(_:Int):Bool:=false
def xf.sto{o:Lo}(h:xf c o)(k:o.kind=15):c.S o.buf.toNat:=by
 rcases h with h|rfl|⟨gg,⟨g1,_⟩,_⟩
 ·exact h.st k
 ·simp[Uf]at k
 ·omega
def wrap_allH:∀(n:Nat) (i:Int) (f:Fr Lo),c.lo≤i→i+n≤c.hi+1→f.AllH c (i+n)→(Z6 n i f).AllH c i
 |0,i,f,_,_,h=>by simpa [Z6] using h
 |n+1,i,f,g,j,h=>by
  refine⟨⟨rfl,rfl,rfl,rfl,rfl,rfl,by simp[S0,iU1]⟩,J,rfl,wrap_allH n (i+1) f J J ?_,trivial⟩;rw[(J:i+1+(n:Int)=i+(n+1:Nat))];exact h
def Lb(c:Cf)(p:Pn):Prop:=p.b<c.nb∧c.L p.b
def Sb(c:Cf)(p:Pn):Prop:=p.b<c.nb∧c.S p.b
def Tl{v i:Int}{p:Pn}(g:Lb c p)(hv:Qv c v)(hi:i=-1∨To c i):OpH c (M9 v p.p i z) :=
 ⟨by simp[M9],by simpa [M9,Pn.p] using g.1,hi.imp_right .inr,.inl rfl,.inl rfl,.inl ⟨.inr hv,.inl rfl,λ_=>hi⟩,λ_=>by simpa [M9,Pn.p] using g.2,λh=>by simp[M9]at h⟩
def Vq{v i:Int}{p:Pn}(g:Sb c p)(hv:Te c v)(hi:i=-1∨To c i):OpH c (Nd p.p i z v) :=
 ⟨by simp[Nd],by simpa [Nd,Pn.p] using g.1,hi.imp_right .inr,hv,.inl rfl,.inl ⟨.inl rfl,.inl rfl,λ_=>hi⟩,λh=>by simp[Nd]at h,λ_=>by simpa [Nd,Pn.p] using g.2⟩
def Tt{v:Int}{x:UInt64}(g:0<c.nb)(hv:Qv c v):OpH c (cK v x) :=
 ⟨Dk,g,.inl rfl,.inl rfl,.inl rfl,.inl ⟨.inr hv,.inl rfl,λh=>Em⟩,λh=>Em,λh=>Em⟩
def Zj{v:Int}{x:UInt64}(g:0<c.nb)(hv:c.pa≤v∧v≤c.pb):OpH c (cK v x) :=
 ⟨Dk,g,.inl rfl,.inl rfl,.inl rfl,.inr ⟨Dk,hv,rfl,.inl rfl,.inl rfl,.inl rfl⟩,λh=>Em,λh=>Em⟩
def zxg{v x:Int}(g:0<c.nb)(hv:Qv c v)(j:Te c x):OpH c (Qj v x) :=
 ⟨by simp[Qj],g,j,.inl rfl,.inl rfl,.inl ⟨.inr hv,.inl rfl,λh=>by simp[Qj]at h⟩,λh=>by simp[Qj]at h,λh=>by simp[Qj]at h⟩
def zyl{v x b:Int}(A:z=8∨z=9)(g:0<c.nb)(hv:Qv c v)(j:Te c x):OpH c (Qt z v x b) :=
 ⟨by simp[Qt];omega,g,j,.inl rfl,.inl rfl,.inl ⟨.inr hv,.inl rfl,λh=>Gb⟩,λh=>Gb,λh=>Gb⟩
def zyv{x y w:Int}(g:0<c.nb)(j:Qv c x)(A:Qv c y)(B:Te c z)(hw:Te c w):OpH c (Np x y z w) :=
 ⟨Fg,g,B,hw,.inl rfl,.inl ⟨.inr j,.inr A,λh=>by simp[Np]at h⟩,λh=>by simp[Np]at h,λh=>by simp[Np]at h⟩
def zgn{x w:Int}(C:3≤z∧z≤7)(g:0<c.nb)(j:Qv c x)(A:Te c B)(hw:Te c w):OpH c (M1 z x B w) :=
 ⟨Fk,g,A,hw,.inl rfl,.inl ⟨.inr j,.inl rfl,λh=>Cq⟩,λh=>Cq,λh=>Cq⟩
def zvq{x w:Int}(C:3≤z∧z≤7)(j:0<c.nb)(A:c.pa≤x∧x≤c.pb)(g:To c B)(hw:To c w):OpH c (M1 z x B w) :=
 ⟨Fk,j,.inr (.inr g),.inr (.inr hw),.inl rfl,.inr ⟨Fk,A,rfl,.inr g,.inr hw,.inl rfl⟩,λh=>Cq,λh=>Cq⟩
def s8{x y w q:Int}(F:z=11∨z=12)(g:0<c.nb)(j:Qv c x)(A:Qv c y)(C:Te c B)(hw:Te c w)(E:Te c q):OpH c (Ni z x y B w q) :=
 ⟨by simp[Ni];omega,g,C,hw,E,.inl ⟨.inr j,.inr A,λh=>Gc⟩,λh=>Gc,λh=>Gc⟩
def zto{x q w:Int}(g:0<c.nb)(j:Qv c x)(A:Te c q)(B:Te c z)(hw:Te c w):OpH c (Ns x q z w) :=
 ⟨by simp[Ns],g,B,hw,A,.inl ⟨.inr j,.inl rfl,λh=>by simp[Ns]at h⟩,λh=>by simp[Ns]at h,λh=>by simp[Ns]at h⟩
def qr{x y:List Lo}(h:∀o∈x,OpH c o)(k:∀o∈y,OpH c o):∀o∈x++y,OpH c o:=λo ho=>(Ip.1 ho).elim (h o) (k o)
def Nu{x:Lo}{y:List Lo}(h:OpH c x)(k:∀o∈y,OpH c o):∀o∈x::y,OpH c o:=λo ho=>by
 rcases If.1 ho with rfl|ho
 ·exact h
 ·exact k o ho
def oh_nil:∀o∈([]:List Lo),OpH c o:=λ_ h=>Ai
def Qm{x:Int}(h:Qv c x):Te c x:=.inr (.inl h)
section into
variable {R D k : Int} {d a b n t : Pn}
def rgr(j:c.R≤R∧R+11≤c.R+c.w)(g:Int)(h:0≤g∧g≤10):Qv c (R+g):=E5
def am(g:c.R≤R∧R+11≤c.R+c.w):Qv c R:=E5
def vm(g:0<c.nb)(j:c.R≤R∧R+11≤c.R+c.w):∀o∈Un (R+10) (R+1),OpH c o:=by
 intro o ho;simp[Un,ff,Xj,zr9]at ho;rcases ho with rfl|rfl|rfl|rfl|⟨_,rfl|rfl|rfl⟩|rfl|rfl
 all_goals first|(refine Tt g ?_;unfold Qv;omega)|(refine zyv g ?_ ?_ (Qm ?_) (Qm ?_)<;>(unfold Qv;omega))|(refine zgn J g ?_ (Qm ?_) (Qm ?_)<;>(unfold Qv;omega))
def X2{x y:Int}(j:0<c.nb)(z:c.R≤R∧R+11≤c.R+c.w)(A:Qv c x)(B:Qv c y):∀o∈Nr R x y,OpH c o:=by
 unfold Nr;have g:=rgr z;exact Nu (zyv j (g 5 J) (g 6 J) (Qm A) (Qm B)) (Nu (s8 (.inl rfl) j (g 6 J) (g 8 J) (Qm (g 6 J)) (Qm (g 7 J)) (Qm (am z))) (Nu (s8 (.inl rfl) j (g 6 J) (g 9 J) (Qm (g 6 J)) (Qm (g 3 J)) (Qm (am z))) (Nu (zgn J j (g 5 J) (Qm (g 5 J)) (Qm (g 8 J))) (Nu (zgn J j (g 3 J) (Qm (g 5 J)) (Qm (g 9 J))) oh_nil))))
def zog{x:List Lo}(E:c.R≤R∧R+11≤c.R+c.w)(j:Lb c n)(F:Lb c t)(G:k≤1000000)(A:c.lo≤z∧z≤c.hi)(H:∀o∈x,OpH c o):(Vx n.p t.p k R z x).AllH c z:=by
 unfold Vx Ua;have B:0<c.nb:=by have:=j.1;omega
 have g:=rgr E;have C:z=-1∨To c z:=.inr (.inl A);exact allH_cat (allH_L (Nu (Tt B (g 8 J)) oh_nil)) (Xg G A (allH_L (qr (Nu (Tl F (g 7 J) C) (Nu (Tl j (g 4 J) C) (Nu (s8 (.inr rfl) B (g 6 J) (g 8 J) (Qm (g 7 J)) (Qm (g 4 J)) (Qm (g 8 J))) oh_nil))) H)))
def zij{x:Int}{p:Pn}(j:Sb c p)(z:Te c x)(g:c.lo≤D∧D≤c.hi)(A:p.k≤1000000):(Sf p.p x D).AllH c D:=by
 unfold Sf;exact Xg (by show (p.k:Int)≤_;omega) g (allH_L (Nu (Vq j z (.inr (.inl g))) oh_nil))
def zrc(C:c.R≤R∧R+11≤c.R+c.w)(O:Sb c d)(P:Lb c a)(Q:Lb c b)(F:Lb c n)(B:Lb c t)(st:Sb c t)(I:k≤1000000)(K:t.k≤1000000)(T:c.lo≤D∧D+1≤c.hi):(Wh d.p a.p b.p n.p t.p k R D).AllH c D:=by
 have z:0<c.nb:=by have:=F.1;omega
 have j:=rgr C;have G:=am C;have g:∀L:Int,0≤L∧L≤10→Te c (R+L):=λL h=>Qm (j L h)
 have H:c.lo≤D∧D≤c.hi:=J
 have E:c.lo≤D+1∧D+1≤c.hi:=J
 have M:D=-1∨To c D:=.inr (.inl H);have A:D+1=-1∨To c (D+1):=.inr (.inl E);unfold Wh;refine allH_cat (allH_L (qr (Nu (Tt z G) (Nu (Tl F (j 10 J) (.inl rfl)) oh_nil)) (vm z C))) (allH_cat (zij st (Qm G) H K) (allH_cat (Xg I H (allH_cat ?_ ?_)) ?_))
 ·unfold Tf Uc Ok;refine allH_cat (allH_L (Nu (Tl Q (j 2 J) M) (Nu (Tt z (j 3 J)) oh_nil))) (allH_cat (Xg I E (allH_L (qr (Nu (Tl P (j 4 J) A) (Nu (Tl B (j 7 J) A) oh_nil)) (qr (X2 z C (j 4 J) (j 2 J)) (Nu (Vq st (g 6 J) A) oh_nil))))) (allH_L (qr (Nu (Tl B (j 7 J) (.inl rfl)) (Nu (s8 (.inl rfl) z (j 7 J) (j 8 J) (g 7 J) (g 3 J) (Qm G)) oh_nil)) (Nu (Vq st (g 7 J) (.inl rfl)) (Nu (Vq st (g 8 J) (.inl rfl)) oh_nil)))))
 ·unfold Tq Ui Ok;refine allH_cat (allH_L (qr (Nu (Tl B (j 7 J) (.inl rfl)) (Nu (zyv z (j 5 J) (j 10 J) (g 7 J) (g 1 J)) (Nu (Tl F (j 4 J) (.inl rfl)) (Nu (Tt z (j 3 J)) oh_nil)))) (X2 z C (j 10 J) (j 4 J))))
   (allH_cat (Xg J E (allH_L (qr (Nu (Tl F (j 4 J) A) (Nu (Tl B (j 7 J) A) oh_nil)) (qr (X2 z C (j 10 J) (j 4 J)) (Nu (Vq st (g 6 J) A) oh_nil)))))
   (allH_L (qr (Nu (Tl B (j 7 J) (.inl rfl)) (Nu (s8 (.inl rfl) z (j 7 J) (j 8 J) (g 7 J) (g 3 J) (Qm G)) oh_nil)) (Nu (Vq st (g 7 J) (.inl rfl)) (Nu (Tl B (j 7 J) (.inl rfl)) (Nu (zgn J z (j 7 J) (g 7 J) (g 8 J)) (Nu (Vq st (g 7 J) (.inl rfl)) oh_nil)))))))
 ·unfold Xq;exact allH_cat (zog C F B I H oh_nil) (allH_cat (allH_L (Nu (Tl B (j 7 J) (.inl rfl)) (Nu (s8 (.inr rfl) z (j 6 J) (j 10 J) (g 7 J) (Qm G) (g 8 J)) oh_nil))) (zog C F B I H (Nu (zto z (j 6 J) (g 10 J) (g 7 J) (g 6 J)) (Nu (Vq O (g 6 J) M) oh_nil))))
end into
end ah
end
section
noncomputable section
def Yh(p:Pc)(n l o b D:Int):Fr Lo:=Og D n (M5 [M9 l p D 0,Qt 9 o l 63,Qt 8 l l 1,M1 6 l l b,Nd p D 0 l,Qj b o])
def aw(to fr:Pc)(k l D:Int):Fr Lo:=Og D k (M5 [M9 l fr D 0,Nd to D 0 l])
def Vu(n r:Pc)(R g:Int):List Lo:=[M9 (R+2) r g 0,M9 (R+4) n g 0,Ni 12 (R+4) (R+5) (R+2) (R+4) (R+5)]
def V1(n r:Pc)(k R D:Int)(x:List Lo):Fr Lo:=(M5 [cK (R+5) 0]).cat ((Og D k (M5 (Vu n r R D++x))).cat (M5 [M9 (R+2) r (-1) k,Ni 12 (R+4) (R+5) (R+2) R (R+5)]))
def fh(n r:Pc)(k R D:Int):Fr Lo:=(Yh r (k+1) (R+2) (R+3) (R+1) D).cat ((V1 n r k R D []).cat ((M5 [Qj (R+6) (R+5)]).cat ((V1 n r k R D [Ns (R+4) (R+6) (R+2) (R+4),Nd r D 0 (R+4)]).cat (M5 [Ns (R+4) (R+6) (R+2) (R+4),Nd r (-1) k (R+4),cK (R+1) 0]))))
def W4(d n r:Pc)(k bits R D:Int):Fr Lo:=(M5 [cK R 0,cK (R+1) 1]).cat ((Sf r R D).cat ((Og D (bits+1) (fh n r k R (D+1))).cat (aw d r k (R+2) D)))
structure Pw where
 d:Pn
 a:Pn
 b:Pn
 n:Pn
 wb:Nat
 wa:Nat
 k:Nat
 w:Nat
 times:Nat
 over:Nat
 B:Nat
def Pw.acc(p:Pw):Pn:=⟨p.wb,p.wa,p.k⟩
def Pw.base(p:Pw):Pn:=⟨p.wb,p.wa+p.k,p.k⟩
def Pw.cur(p:Pw):Pn:=⟨p.wb,p.wa+2*p.k,p.k⟩
def Pw.es(p:Pw):Pn:=⟨p.wb,p.wa+3*p.k,p.b.k+1⟩
def Pw.t(p:Pw):Pn:=⟨p.wb,p.wa+3*p.k+p.b.k+1,p.k+2⟩
def Pw.tab(p:Pw):Pn:=⟨p.wb,p.wa+4*p.k+p.b.k+3,p.k*2^p.w⟩
def Pw.ent(p:Pw):Pn:=⟨p.tab.b,p.tab.a,p.k⟩
def Pw.r(p:Pw):Pn:=⟨p.t.b,p.t.a,p.k+1⟩
def Pw.mont(p:Pw)(d a b:Pn)(D:Int):Fr Lo:=Wh d.p a.p b.p p.n.p p.t.p p.k (p.B+10) D
def Pw.radix(p:Pw)(d:Pn)(bits D:Int):Fr Lo:=W4 d.p p.n.p p.r.p p.k bits (p.B+10) D
def Pw.copies(p:Pw)(to fr:Pn)(D:Int):Fr Lo:=aw to.p fr.p p.k (p.B+3) D
def Pw.fillR(p:Pw)(D:Int):Fr Lo:=(p.mont p.acc p.acc p.base (D+1)).cat ((Og (D+1) p.k (M5 [M9 (p.B+3) p.acc.p (D+1) 0,M1 3 13 12 (D+1),Nd p.tab.p 13 0 (p.B+3)])).cat (M5 [cK 13 (iU p.k),M1 3 12 12 13]))
def Pw.fill(p:Pw)(D:Int):Fr Lo:=(p.radix p.ent (64*p.k) D).cat ((p.radix p.cur (128*p.k) D).cat ((p.mont p.base p.a p.cur D).cat ((p.copies p.acc p.ent D).cat ((M5 [cK 12 (iU p.k)]).cat (Og D (2^p.w-1:Nat) (p.fillR D))))))
def Pw.expB(p:Pw)(D:Int):List Lo:=if p.over=0 then [M9 (p.B+3) p.b.p D 0,Nd p.es.p D 1 (p.B+3)] else [M9 (p.B+3) p.b.p D 0,Qt 8 (p.B+2) (p.B+3) (64-p.over),M1 6 (p.B+2) (p.B+2) (p.B+4),Nd p.es.p D 0 (p.B+2),Qt 9 (p.B+4) (p.B+3) p.over]
def Pw.expE(p:Pw):List Lo:=if p.over=0 then [Nd p.es.p (-1) 0 p.B] else [Nd p.es.p (-1) p.b.k (p.B+4)]
def Pw.exp(p:Pw)(D:Int):Fr Lo:=(M5 [Qj (p.B+4) p.B]).cat ((Og D p.b.k (M5 (p.expB D))).cat (M5 p.expE))
def Pw.shift(p:Pw)(D:Int):Fr Lo:=(M5 [Qj (p.B+2) p.B]).cat ((Yh p.es.p p.es.k (p.B+3) (p.B+4) (p.B+2) D).cat (M5 [Qt 8 (p.B+1) (p.B+1) 1,M1 6 (p.B+1) (p.B+1) (p.B+2)]))
def Pw.scanB(p:Pw)(D:Int):List Lo:=[M1 3 13 12 D,M9 (p.B+3) p.tab.p 13 0,M9 (p.B+6) p.cur.p D 0,Ns (p.B+3) (p.B+5) (p.B+6) (p.B+3),Nd p.cur.p D 0 (p.B+3)]
def Pw.scanR(p:Pw)(D:Int):Fr Lo:=(M5 [M1 7 (p.B+5) (p.B+1) D,Ni 12 (p.B+4) (p.B+5) p.B (p.B+5) p.B]).cat ((Og (D+1) p.k (M5 (p.scanB (D+1)))).cat (M5 [cK 13 (iU p.k),M1 3 12 12 13]))
def Pw.scan(p:Pw)(D:Int):Fr Lo:=(M5 [cK 12 0]).cat (Og D (2^p.w:Nat) (p.scanR D))
def Pw.runW(p:Pw)(D:Int):Fr Lo:=(p.mont p.acc p.acc p.acc D).cat (p.shift D)
def Pw.runR(p:Pw)(D:Int):Fr Lo:=(M5 [Qj (p.B+1) p.B]).cat ((Og D p.w (p.runW (D+1))).cat ((p.scan D).cat (p.mont p.acc p.acc p.cur D)))
def Pw.run(p:Pw)(D:Int):Fr Lo:=(p.copies p.acc p.ent D).cat ((Og D p.times (p.runR (D+1))).cat ((M5 [cK (p.B+3) 1]).cat ((Sf p.cur.p p.B D).cat ((M5 [Nd p.cur.p (-1) 0 (p.B+3)]).cat (p.mont p.d p.acc p.cur D)))))
def Pw.code(p:Pw)(D:Int):Fr Lo:=(M5 [cK p.B 0]).cat ((p.fill D).cat ((p.exp D).cat (p.run D)))
section all
variable {c : Cf}
def zxx{p:Pn}{n l o b:Int}(A:Lb c p)(E:Sb c p)(g:Qv c l)(ho:Qv c o)(B:Qv c b)(F:n≤1000000)(C:c.lo≤z∧z≤c.hi):(Yh p.p n l o b z).AllH c z:=by
 have j:0<c.nb:=by have:=A.1;omega
 have D:z=-1∨To c z:=.inr (.inl C);exact Xg F C (allH_L (Nu (Tl A g D) (Nu (zyl (.inr rfl) j ho (Qm g)) (Nu (zyl (.inl rfl) j g (Qm g)) (Nu (zgn J j g (Qm g) (Qm B)) (Nu (Vq E (Qm g) D) (Nu (zxg j B (Qm ho)) oh_nil)))))))
def ztb{k l:Int}(B:Lb c vR)(C:Sb c O)(g:Qv c l)(D:k≤1000000)(j:c.lo≤z∧z≤c.hi):(aw O.p vR.p k l z).AllH c z:=by
 have A:z=-1∨To c z:=.inr (.inl j);exact Xg D j (allH_L (Nu (Tl B g A) (Nu (Vq C (Qm g) A) oh_nil)))
def zpd{n r:Pn}{k:Int}{x:List Lo}(C:c.R≤z∧z+11≤c.R+c.w)(D:Lb c n)(E:Lb c r)(I:k≤1000000)(F:c.lo≤B∧B≤c.hi)(K:∀o∈x,OpH c o):(V1 n.p r.p k z B x).AllH c B:=by
 have A:0<c.nb:=by have:=D.1;omega
 have G:B=-1∨To c B:=.inr (.inl F);have j:=rgr C;have g:∀H:Int,0≤H∧H≤10→Te c (z+H):=λH h=>Qm (j H h)
 unfold V1 Vu;exact allH_cat (allH_L (Nu (Tt A (j 5 J)) oh_nil)) (allH_cat (Xg I F (allH_L (qr (Nu (Tl E (j 2 J) G) (Nu (Tl D (j 4 J) G) (Nu (s8 (.inr rfl) A (j 4 J) (j 5 J) (g 2 J) (g 4 J) (g 5 J)) oh_nil))) K))) (allH_L (Nu (Tl E (j 2 J) (.inl rfl)) (Nu (s8 (.inr rfl) A (j 4 J) (j 5 J) (g 2 J) (Qm (am C)) (g 5 J)) oh_nil))))
def zle{d n r:Pn}{k bits:Int}(D:c.R≤z∧z+11≤c.R+c.w)(L:Sb c d)(H:Lb c n)(F:Lb c r)(G:Sb c r)(O:k≤1000)(P:bits≤100000)(M:r.k≤100000)(Q:c.lo≤B∧B+1≤c.hi):(W4 d.p n.p r.p k bits z B).AllH c B:=by
 have C:0<c.nb:=by have:=H.1;omega
 have A:c.lo≤B∧B≤c.hi:=J
 have g:c.lo≤B+1∧B+1≤c.hi:=J
 have I:B+1=-1∨To c (B+1):=.inr (.inl g);have E:=rgr D;have j:∀K:Int,0≤K∧K≤10→Te c (z+K):=λK h=>Qm (E K h)
 unfold W4 fh;refine allH_cat (allH_L (Nu (Tt C (am D)) (Nu (Tt C (E 1 J)) oh_nil))) (allH_cat (zij G (Qm (am D)) A J) (allH_cat (Xg J A ?_) (ztb F L (E 2 J) J A)));have e:∀o∈[Ns (z+4) (z+6) (z+2) (z+4),Nd r.p (B+1) 0 (z+4)],OpH c o:=Nu (zto C (E 4 J) (j 6 J) (j 2 J) (j 4 J)) (Nu (Vq G (j 4 J) I) oh_nil);exact allH_cat (zxx F G (E 2 J) (E 3 J) (E 1 J) J g) (allH_cat (zpd D H F J g oh_nil) (allH_cat (allH_L (Nu (zxg C (E 6 J) (j 5 J)) oh_nil)) (allH_cat (zpd D H F J g e) (allH_L (Nu (zto C (E 4 J) (j 6 J) (j 2 J) (j 4 J)) (Nu (Vq G (j 4 J) (.inl rfl)) (Nu (Tt C (E 1 J)) oh_nil)))))))
structure PwC (c:Cf) (p:Pw):Prop where
 r:c.R≤p.B∧(p.B:Int)+21≤c.R+c.w
 q:c.pa≤12∧13≤c.pb
 d:Sb c p.d
 a:Lb c p.a
 b:Lb c p.b
 n:Lb c p.n
 wl:c.L p.wb
 ws:c.S p.wb
 wb:p.wb<c.nb
 k:p.k≤512
 w:p.w≤6
 ti:p.times≤100000
 bk:p.b.k≤512
def fk{w:Nat}(h:w≤6):2^w≤64:=Ll Ac h
def Pw.all{p:Pw}(h:PwC c p){D:Int}(hD:c.lo≤D∧D+3≤c.hi):(p.code D).AllH c D:=by
 obtain⟨hr,gC,pd,pa,pb,pn,wl,ws,wb,hk,hw,gD,gE⟩:=h;have j:0<c.nb:=by have:=pn.1;omega
 have wL:∀q:Pn,q.b=p.wb→Lb c q:=λq e=>⟨J,by rw[e];exact wl⟩
 have wS:∀q:Pn,q.b=p.wb→Sb c q:=λq e=>⟨J,by rw[e];exact ws⟩
 have g:∀gB:Int,0≤gB∧gB≤20→Qv c (p.B+gB):=λgB h=>E5
 have g0:Qv c p.B:=E5
 have gi:∀gB:Int,0≤gB∧gB≤20→Te c (p.B+gB):=λgB h=>Qm (g gB h)
 have gA:c.R≤(p.B:Int)+10∧(p.B:Int)+10+11≤c.R+c.w:=J
 have gF:=fk hw;have gg:To c 12:=.inr J;have gz:To c 13:=.inr J;have mo:∀(d a b:Pn) (E:Int),Sb c d→Lb c a→Lb c b→c.lo≤E→E+1≤c.hi→(p.mont d a b E).AllH c E:=λd a b E hd ha hb h1 h2=>zrc gA hd ha hb pn (wL _ rfl) (wS _ rfl) J (by show p.k+2≤1000000;omega) ⟨h1,h2⟩
 have lv:∀E:Int,c.lo≤E→E≤c.hi→To c E:=λE h1 h2=>.inl ⟨h1,h2⟩
 have ra:∀(d:Pn) (bits:Int),Sb c d→bits≤100000→(p.radix d bits D).AllH c D:=λd bits hd hb=>zle gA hd pn (wL _ rfl) (wS _ rfl) J hb (by show p.k+1≤100000;omega) J
 unfold Pw.code;refine allH_cat (allH_L (Nu (Tt j g0) oh_nil)) (allH_cat ?_ (allH_cat ?_ ?_))
 ·unfold Pw.fill Pw.fillR;refine allH_cat (ra _ _ (wS _ rfl) J) (allH_cat (ra _ _ (wS _ rfl) J) (allH_cat (mo _ _ _ _ (wS _ rfl) pa (wL _ rfl) J J) (allH_cat (ztb (wL _ rfl) (wS _ rfl) (g 3 J) J J) (allH_cat (allH_L (Nu (Zj j J) oh_nil)) (Xg J J (allH_cat (mo _ _ _ _ (wS _ rfl) (wL _ rfl) (wL _ rfl) J J) (allH_cat (Xg J J (allH_L ?_)) (allH_L ?_))))))))
  ·exact Nu (Tl (wL _ rfl) (g 3 J) (.inr (lv _ J J))) (Nu (zvq J j J gg (lv _ J J)) (Nu (Vq (wS _ rfl) (gi 3 J) (.inr gz)) oh_nil))
  ·exact Nu (Zj j J) (Nu (zvq J j J gg gz) oh_nil)
 ·unfold Pw.exp Pw.expB Pw.expE;refine allH_cat (allH_L (Nu (zxg j (g 4 J) (Qm g0)) oh_nil)) (allH_cat (Xg J J (allH_L ?_)) (allH_L ?_))
  ·split
   ·exact Nu (Tl pb (g 3 J) (.inr (lv _ J J))) (Nu (Vq (wS _ rfl) (gi 3 J) (.inr (lv _ J J))) oh_nil)
   ·exact Nu (Tl pb (g 3 J) (.inr (lv _ J J))) (Nu (zyl (.inl rfl) j (g 2 J) (gi 3 J)) (Nu (zgn J j (g 2 J) (gi 2 J) (gi 4 J)) (Nu (Vq (wS _ rfl) (gi 2 J) (.inr (lv _ J J))) (Nu (zyl (.inr rfl) j (g 4 J) (gi 3 J)) oh_nil))))
  ·split
   ·exact Nu (Vq (wS _ rfl) (Qm g0) (.inl rfl)) oh_nil
   ·exact Nu (Vq (wS _ rfl) (gi 4 J) (.inl rfl)) oh_nil
 ·unfold Pw.run Pw.runR Pw.runW Pw.shift Pw.scan Pw.scanR Pw.scanB;refine allH_cat (ztb (wL _ rfl) (wS _ rfl) (g 3 J) J J) (allH_cat (Xg J J (allH_cat (allH_L (Nu (zxg j (g 1 J) (Qm g0)) oh_nil)) (allH_cat (Xg J J (allH_cat ?_ ?_)) (allH_cat (allH_cat ?_ ?_) ?_)))) ?_)
  ·exact mo _ _ _ _ (wS _ rfl) (wL _ rfl) (wL _ rfl) J J
  ·exact allH_cat (allH_L (Nu (zxg j (g 2 J) (Qm g0)) oh_nil)) (allH_cat (zxx (wL _ rfl) (wS _ rfl) (g 3 J) (g 4 J) (g 2 J) (by show ((p.b.k+1:Nat):Int)≤1000000;omega) J) (allH_L (Nu (zyl (.inl rfl) j (g 1 J) (gi 1 J)) (Nu (zgn J j (g 1 J) (gi 1 J) (gi 2 J)) oh_nil))))
  ·exact allH_L (Nu (Zj j J) oh_nil)
  ·refine Xg J J (allH_cat (allH_L ?_) (allH_cat (Xg J J (allH_L ?_)) (allH_L ?_)))
   ·exact Nu (zgn J j (g 5 J) (gi 1 J) (.inr (.inr (lv _ J J)))) (Nu (s8 (.inr rfl) j (g 4 J) (g 5 J) (Qm g0) (gi 5 J) (Qm g0)) oh_nil)
   ·exact Nu (zvq J j J gg (lv _ J J)) (Nu (Tl (wL _ rfl) (g 3 J) (.inr gz)) (Nu (Tl (wL _ rfl) (g 6 J) (.inr (lv _ J J))) (Nu (zto j (g 3 J) (gi 5 J) (gi 6 J) (gi 3 J)) (Nu (Vq (wS _ rfl) (gi 3 J) (.inr (lv _ J J))) oh_nil))))
   ·exact Nu (Zj j J) (Nu (zvq J j J gg gz) oh_nil)
  ·exact mo _ _ _ _ (wS _ rfl) (wL _ rfl) (wL _ rfl) J J
  ·exact allH_cat (allH_L (Nu (Tt j (g 3 J)) oh_nil)) (allH_cat (zij (wS _ rfl) (Qm g0) J (by show p.k≤1000000;omega)) (allH_cat (allH_L (Nu (Vq (wS _ rfl) (gi 3 J) (.inl rfl)) oh_nil)) (mo _ _ _ _ pd (wL _ rfl) (wL _ rfl) J J)))
end all
end
end
section
def Yt(D:Int)(ls:List Int):Prop:=(ls.length:Int)≤D∧∀x∈ls,x<D
def S6(D:Int)(S:List Int):Prop:=∀x∈S,x<D∨8≤x
section gd
variable {bs : List Bf} {S S' T ls : List Int} {D : Int} {f g b : Fr Lo} {l : List Lo}
def Yt.snoc(h:Yt D ls):Yt (D+1) (ls++[D]):=⟨by have:=h.1;simp;omega,λx hx=>by
 rcases Ip.1 hx with hx|hx
 ·have:=h.2 x hx;omega
 ·simp at hx;omega⟩
def Yt.lt(h:Yt D ls)(hD:D≤8):∀x∈ls,x<8:=λx hx=>by have:=h.2 x hx;omega
def S6.cons(h:S6 D S):S6 (D+1) (D::S):=λx hx=>by
 rcases If.1 hx with rfl|hx
 ·omega
 ·have:=h x hx;omega
def S6.high{x:Int}(h:S6 D S)(hx:8≤x):S6 D (x::S):=λy hy=>by
 rcases If.1 hy with rfl|hy
 ·exact .inr hx
 ·exact h y hy
def Gd.lpD{times:Int}(h:Yt D ls)(hD:0≤D∧D<8)(hS:S6 D S)(ht:times≤1048576)(hb:Gd bs (D::S) (ls++[D]) b S')(hs:∀x∈S,x∈S'):Gd bs S ls (Og D times b) S :=
 .lp (by have:=h.1;omega) hD (λq=>by have:=h.2 _ q;omega) (λq=>by have:=hS _ q;omega) ht hb hs
def Gd.Lm(hL:Yt D ls)(hD:D≤8)(h:O2 64 bs S l)(hk:∀o∈l,∀x∈M6 o,8≤x)(hT:∀x∈T,x∈l.flatMap M6++S):Gd bs S ls (M5 l) T :=
 Gd.mono (Gd.L (hL.lt hD) h hk) (λ_ h=>h) hT
def zqi{k d a:Int}(j:k=8∨k=9)(h:0≤d∧d<z)(A:0≤a∧a<z)(F:1≤B∧B≤63):Ps z bs (Qt k d a B)=true:=by
 obtain⟨n,rfl⟩:=Hz (J:0≤B);have e:(iU (n:Int)).toNat=n:=Vv J;have C:(1:UInt64)≤iU (n:Int):=by rw[Je,e];show 1≤_;omega
 have E:iU (n:Int)≤(63:UInt64):=by rw[Je,e];show _≤63;omega
 rcases j with rfl|rfl<;>simp[Ps,Qt,Q5,Qq,Qr,Q7,V4,Wd,Oz,h,A,C,E]
def zqh{d a:Int}(E:z=8∨z=9)(h:0≤d∧d<64)(j:0≤a∧a<64)(A:1≤B∧B≤63)(C:a∈S)(k:O2 64 bs (d::S) l):O2 64 bs S (Qt z d a B::l):=by
 rcases E with rfl|rfl
 ·exact⟨zqi (.inl rfl) h j A,by simp[Qt],by simp[Oc,Qt,C],k⟩
 ·exact⟨zqi (.inr rfl) h j A,by simp[Qt],by simp[Oc,Qt,C],k⟩
def zoz{d a:Int}(h:0≤d∧d<64)(j:0≤a∧a<64)(z:a∈S)(k:O2 64 bs (d::S) l):O2 64 bs S (Qj d a::l) :=
 ⟨zyo h j,by simp[Qj],by simp[Oc,Qj,z],k⟩
def gd_sh{p:Pn}{n l o b:Int}(j:Yt D ls)(A:0≤D∧D<8)(B:S6 D S)(G:8≤l∧l<64)(ho:8≤o∧o<64)(H:8≤b∧b<64)(C:b∈S)(z:Bp bs p)(wp:Bw bs p)(E:n≤1048576):Gd bs S ls (Yh p.p n l o b D) S:=by
 have h:O2 64 bs (D::S) [M9 l p.p D 0,Qt 9 o l 63,Qt 8 l l 1,M1 6 l l b,Nd p.p D 0 l,Qj b o] :=
  Xc z J J N (zqh (.inr rfl) J J J N (zqh (.inl rfl) J J J N (ju J J J J N As (i1 z wp J J N N (zoz J J N okL_nil)))))
 refine Gd.lpD j A B E (Gd.L (j.snoc.lt J) h ?_) λx F=>Iu _ (Ik _ F)
 simp[M6,M9,Qt,M1,Nd,Qj];omega
def gd_cp{k l:Int}(j:Yt D ls)(z:0≤D∧D<8)(A:S6 D S)(H:8≤l∧l<64)(B:Bp bs O)(C:Bw bs O)(E:Bp bs vR)(F:k≤1048576):Gd bs S ls (aw O.p vR.p k l D) S:=by
 have h:O2 64 bs (D::S) [M9 l vR.p D 0,Nd O.p D 0 l]:=Xc E J J N (i1 B C J J N N okL_nil);refine Gd.lpD j z A F (Gd.L (j.snoc.lt J) h ?_) λx G=>Iu _ (Ik _ G)
 simp[M6,M9,Nd];omega
def ztr{x:Int}{p:Pn}(j:Yt D ls)(z:0≤D∧D<8)(A:S6 D S)(B:0≤x∧x<64)(C:x∈S)(E:Bp bs p)(wp:Bw bs p):Gd bs S ls (Sf p.p x D) S :=
 Y6 B C z (λq=>by have:=j.2 _ q;omega) (λq=>by have:=A _ q;omega) (by have:=j.1;omega) (j.lt J) E wp
def zs{n r:Pn}{k:Int}{x:List Lo}(j:Yt D ls)(E:0≤D∧D<8)(F:S6 D S)(P:16≤z∧z≤50)(G:z∈S)(H:Bp bs n)(A:Bp bs r)(C:0≤k∧k<r.k)
  (B:O2 64 bs ((z+4)::(z+5)::(z+4)::(z+2)::D::(z+5)::S) x) (hm:∀o∈x,∀y∈M6 o,8≤y):Gd bs S ls (V1 n.p r.p k z D x) ((z+2)::(z+4)::(z+5)::S):=by
 have I:(r.k:Int)≤65536:=by have:=A.s;have:=A.z;omega
 unfold V1;have K:O2 64 bs S [cK (z+5) 0]:=Zi J okL_nil;have L:O2 64 bs (D::(z+5)::S) (Vu n.p r.p z D++x):=by
  unfold Vu;exact Xc A J J N (Xc H J J N (tq (.inr rfl) J J J J J J N N N B))
 have M:O2 64 bs ((z+5)::S) [M9 (z+2) r.p (-1) k,Ni 12 (z+4) (z+5) (z+2) z (z+5)]:=zn A J C.1 C.2 (tq (.inr rfl) J J J J J J N Bc N okL_nil);refine Gd.cat (Gd.Lm (T:=(z+5)::S) j J K D5 Cb) (Gd.cat (Gd.lpD j E (F.high J) J (Gd.L (j.snoc.lt J) L ?_) ?_) (Gd.Lm j J M (by simp[M6,M9,Ni];omega) (λx B=>by simp[M6,M9,Ni]at B ⊢;rcases B with h|h|h|h<;>simp[h])))
 ·intro o ho;rcases Ip.1 ho with ho|ho
  ·simp[Vu]at ho;rcases ho with rfl|rfl|rfl<;>simp[M6,M9,Ni]<;>omega
  ·exact hm o ho
 ·intro y O;exact Iu _ (Ik _ O)
def zv0{d n r:Pn}{k bits:Int}(E:Yt D ls)(U:0≤D∧D+1<8)(L:S6 D S)(I:16≤z∧z≤50)(M:Bp bs d)(O:Bw bs d)(K:Bp bs n)(A:Bp bs r)(F:Bw bs r)(G:0≤k∧k<r.k)(V:bits≤1000000):Gd bs S ls (W4 d.p n.p r.p k bits z D) S:=by
 have P:(r.k:Int)≤65536:=by have:=A.s;have:=A.z;omega
 unfold W4 fh;have Q:O2 64 bs S [cK z 0,cK (z+1) 1]:=Zi J (Zi J okL_nil);have B:S6 D ((z+1)::z::S):=(L.high J).high J;have C:S6 (D+1) (D::(z+1)::z::S):=B.cons;have j:=E.snoc;have R:S6 (D+1) ((z+2)::(z+4)::(z+5)::D::(z+1)::z::S):=((C.high J).high J).high J;refine Gd.mono (Gd.cat (Gd.Lm (T:=(z+1)::z::S) E J Q D5 (λx H=>by simp[M6,cK]at H ⊢;grind)) (Gd.cat (ztr E J B J N A F) (Gd.cat (Gd.lpD (S':=(z+1)::z::S) E J B J (Gd.cat (gd_sh j J C J J J N A F J) (Gd.cat (zs j J C I N K A G okL_nil N) (Gd.cat (Gd.Lm (T:=(z+6)::(z+2)::(z+4)::(z+5)::D::(z+1)::z::S) j J (l:=[Qj (z+6) (z+5)]) (zoz J J N okL_nil) D6 F7) (Gd.cat (zs j J (R.high J) I N K A G ?_ ?_) (Gd.Lm j J (l:=[Ns (z+4) (z+6) (z+2) (z+4),Nd r.p (-1) k (z+4),cK (z+1) 0]) ?_ ?_ ?_))))) λx h=>h) (gd_cp E J B J M O A J)))) (λx h=>h) (λx h=>by simp[h])
 ·exact zmn J J J J N N N (i1 A F J J N N okL_nil)
 ·simp[M6,Ns,Nd];omega
 ·exact zmn J J J J N N N (zbg A F J G.1 G.2 N (Zi J okL_nil))
 ·simp[M6,Ns,Nd,cK];omega
 ·intro x H;simp at H;rcases H with h|h|h<;>simp[M6,Ns,Nd,cK,h]
structure PwG (bs:List Bf) (p:Pw):Prop where
 B:16≤p.B∧p.B≤40
 d:Bp bs p.d
 wd:Bw bs p.d
 a:Bp bs p.a
 b:Bp bs p.b
 n:Bp bs p.n
 wb:p.wb<bs.length
 wz:((p.wa+4*p.k+p.b.k+3+p.k*2^p.w:Nat):Int)≤(Ng bs p.wb).size
 w6:(Ng bs p.wb).size≤65536
 ww:(Ng bs p.wb).kind≠1
 k:1≤p.k∧p.k≤512
 nk:0<p.n.k
 w:1≤p.w∧p.w≤6
 ti:p.times≤100000
 ov:p.over≤63
 bk:p.b.k≤512
def Pw.gd{p:Pw}(h:PwG bs p)(hL:Yt D ls)(hD:0≤D∧D+3<8)(hS:S6 D S):Gd bs S ls (p.code D) S:=by
 obtain⟨hB,pd,wd,pa,pb,pn,wb,wz,w6,ww,hk,gM,hw,gR,gT,gU⟩:=h;have gV:=fk hw.2;have gX:p.k≤p.k*2^p.w:=Nat.le_mul_of_pos_right _ (K0 _);have wP:∀q:Pn,q.b=p.wb→q.a+q.k≤p.wa+4*p.k+p.b.k+3+p.k*2^p.w→Bp bs q:=λq e1 e2=>⟨J,by rw[e1];omega,by rw[e1];exact w6⟩
 have wW:∀q:Pn,q.b=p.wb→Bw bs q:=λq e1=>by unfold Bw;rw[e1];exact ww
 have gg:Bp bs p.acc:=wP _ rfl Et;have gD:Bp bs p.base:=wP _ rfl (by simp only[Pw.base];omega);have gz:Bp bs p.cur:=wP _ rfl Bi;have gE:Bp bs p.es:=wP _ rfl Ay;have Pt:Bp bs p.t:=wP _ rfl Fh;have gG:Bp bs p.tab:=wP _ rfl Es;have gF:Bp bs p.ent:=wP _ rfl Dg;have Pr:Bp bs p.r:=wP _ rfl (by simp only[Pw.r,Pw.t];omega);have mo:∀(d a b:Pn) (E:Int) (ls S:List Int),Bp bs d→Bw bs d→Bp bs a→Bp bs b→0≤E→E+1<8→Yt E ls→Gd bs S ls (p.mont d a b E) S:=λd a b E ls S hd wd ha hb h1 h2 hL=>Gd.keep0 (tp J ⟨h1,h2⟩ (λq=>by have:=hL.2 _ q;omega) (λq=>by have:=hL.2 _ q;omega) (by have:=hL.1;omega) (hL.lt J) hd wd ha hb pn Pt (wW _ rfl) Fh gM)
 have ra:∀(d:Pn) (bits:Int) (S:List Int),S6 D S→Bp bs d→Bw bs d→bits≤1000000→Gd bs S ls (p.radix d bits D) S:=λd bits S hS hd wd hb=>zv0 hL J hS J hd wd pn Pr (wW _ rfl) (by simp only[Pw.r];omega) hb
 have cp:∀(to fr:Pn) (S:List Int),S6 D S→Bp bs to→Bw bs to→Bp bs fr→Gd bs S ls (p.copies to fr D) S:=λto fr S hS ht wt hf=>gd_cp hL J hS J ht wt hf J
 have gB:S6 D ((p.B:Int)::S):=hS.high J;have gA:=hL.snoc;have gC:=gA.snoc;have gO:=gC.snoc;unfold Pw.code;refine Gd.mono (Gd.cat (Gd.Lm (T:=(p.B:Int)::S) hL J (l:=[cK p.B 0]) (Zi J okL_nil) D5 Cb) (Gd.cat (S':=(p.B:Int)::S) ?_ (Gd.cat (S':=(p.B:Int)::S) ?_ ?_))) (λx h=>h) (S':=(p.B:Int)::S) (λx h=>Ik _ h)
 ·unfold Pw.fill Pw.fillR;have gH:S6 D (12::(p.B:Int)::S):=gB.high J;refine Gd.mono (Gd.cat (ra _ _ _ gB gF (wW _ rfl) J) (Gd.cat (ra _ _ _ gB gz (wW _ rfl) J) (Gd.cat (mo _ _ _ _ _ _ gD (wW _ rfl) pa gz J J hL) (Gd.cat (cp _ _ _ gB gg (wW _ rfl) gF) (Gd.cat (Gd.Lm (T:=12::(p.B:Int)::S) hL J (l:=[cK 12 (iU p.k)]) (Zi J okL_nil) Cb Cb) (Gd.lpD (S':=12::(p.B:Int)::S) hL J gH J (Gd.cat (mo _ _ _ _ _ _ gg (wW _ rfl) gg gD J J gA) (Gd.cat (Gd.lpD gA J gH.cons J (Gd.L (l:=[M9 (p.B+3) p.acc.p (D+1) 0,M1 3 13 12 (D+1),Nd p.tab.p 13 0 (p.B+3)]) (gC.lt J) ?_ ?_) λx hx=>Iu _ (Ik _ hx)) (Gd.Lm (l:=[cK 13 (iU p.k),M1 3 12 12 13]) gA J ?_ ?_ ?_))) λx h=>h)))))) (λx h=>h) (λx h=>by simp at h;rcases h with h|h<;>simp[h])
  ·exact Xc gg J J N (ju J J J J N N (i1 gG (wW _ rfl) J J N N okL_nil))
  ·simp[M6,M9,M1,Nd];omega
  ·exact Zi J (ju J J J J N N okL_nil)
  ·simp[M6,cK,M1]
  ·intro x hx;simp at hx;rcases hx with h|h|h<;>simp[M6,cK,M1,h]
 ·unfold Pw.exp;have gI:S6 D ((p.B+4:Int)::(p.B:Int)::S):=gB.high J;refine Gd.cat (Gd.Lm (T:=(p.B+4:Int)::(p.B:Int)::S) hL J (l:=[Qj (p.B+4) p.B]) (zoz J J N okL_nil) D6 F7) (Gd.cat (Gd.lpD hL J gI J (Gd.L (gA.lt J) ?_ ?_) λx hx=>Iu _ (Ik _ hx)) (Gd.Lm hL J ?_ ?_ ?_))
  ·unfold Pw.expB;split
   ·exact Xc pb J J N (i1 gE (wW _ rfl) J J N N okL_nil)
   ·exact Xc pb J J N (zqh (.inl rfl) J J J N (ju J J J J N N (i1 gE (wW _ rfl) J J N N (zqh (.inr rfl) J J J N okL_nil))))
  ·unfold Pw.expB;split
   ·simp[M6,M9,Nd];omega
   ·simp[M6,M9,Nd,Qt,M1];omega
  ·unfold Pw.expE;split
   ·exact zbg gE (wW _ rfl) J J Ay N okL_nil
   ·exact zbg gE (wW _ rfl) J J Ay N okL_nil
  ·unfold Pw.expE;split<;>simp[M6,Nd]
  ·intro x hx;exact Iu _ (Ik _ hx)
 ·unfold Pw.run Pw.runR Pw.runW Pw.shift Pw.scan Pw.scanR;have gK:S6 (D+1) ((p.B+1:Int)::D::(p.B:Int)::S):=(gB.cons).high J;have gP:S6 (D+1+1) ((p.B+2:Int)::(D+1)::(p.B+1:Int)::D::(p.B:Int)::S):=(gK.cons).high J;have gL:S6 (D+1) (12::(p.B+1:Int)::D::(p.B:Int)::S):=gK.high J;have gI:S6 (D+1+1) ((p.B+5:Int)::(D+1)::12::(p.B+1:Int)::D::(p.B:Int)::S):=(gL.cons).high J;have gQ:S6 D ((p.B+3:Int)::(p.B:Int)::S):=gB.high J;refine Gd.mono (Gd.cat (cp _ _ _ gB gg (wW _ rfl) gF) (Gd.cat (Gd.lpD (S':=(p.B:Int)::S) hL J gB J (Gd.mono (Gd.cat (Gd.Lm (T:=(p.B+1:Int)::D::(p.B:Int)::S) gA J (l:=[Qj (p.B+1) p.B]) (zoz J J N okL_nil) D6 F7) (Gd.cat (Gd.lpD (S':=(p.B+1:Int)::D::(p.B:Int)::S) gA J gK J ?_ λx h=>h) (Gd.cat (S':=(p.B+1:Int)::D::(p.B:Int)::S) ?_ (mo _ _ _ _ _ _ gg (wW _ rfl) gg gz J J gA)))) (λx h=>h) (λx h=>by simp at h;rcases h with h|h<;>simp[h])) λx h=>h) ?_)) (λx h=>h) (S':=(p.B+3:Int)::(p.B:Int)::S) (λx h=>Ik _ h)
  ·refine Gd.mono (Gd.cat (mo _ _ _ _ _ _ gg (wW _ rfl) gg gg J J gC) (Gd.cat (Gd.Lm (T:=(p.B+2:Int)::(D+1)::(p.B+1:Int)::D::(p.B:Int)::S) gC J (l:=[Qj (p.B+2) p.B]) (zoz J J N okL_nil) D6 F7) (Gd.cat (gd_sh gC J gP J J J N gE (wW _ rfl) (by show ((p.b.k+1:Nat):Int)≤_;omega)) (Gd.Lm (T:=(p.B+1:Int)::D::(p.B:Int)::S) gC J (l:=[Qt 8 (p.B+1) (p.B+1) 1,M1 6 (p.B+1) (p.B+1) (p.B+2)]) ?_ ?_ ?_)))) (λx h=>h) λx h=>h
   ·exact zqh (.inl rfl) J J J N (ju J J J J N N okL_nil)
   ·simp[M6,Qt,M1];omega
   ·intro x hx;simp at hx;rcases hx with h|h|h|h<;>simp[M6,Qt,M1,h]
  ·refine Gd.mono (Gd.cat (Gd.Lm (T:=12::(p.B+1:Int)::D::(p.B:Int)::S) gA J (l:=[cK 12 0]) (Zi J okL_nil) Cb Cb) (Gd.lpD (S':=12::(p.B+1:Int)::D::(p.B:Int)::S) gA J gL J (Gd.cat (Gd.Lm (T:=(p.B+5:Int)::(D+1)::12::(p.B+1:Int)::D::(p.B:Int)::S) gC J (l:=[M1 7 (p.B+5) (p.B+1) (D+1),Ni 12 (p.B+4) (p.B+5) p.B (p.B+5) p.B]) ?_ ?_ ?_) (Gd.cat (Gd.lpD gC J gI J (Gd.L (l:=p.scanB (D+1+1)) (gO.lt J) ?_ ?_) λx hx=>Iu _ (Ik _ hx)) (Gd.Lm (l:=[cK 13 (iU p.k),M1 3 12 12 13]) gC J ?_ ?_ ?_))) λx h=>h)) (λx h=>h) (λx h=>Ik _ h)
   ·exact ju J J J J N N (tq (.inr rfl) J J J J J J N N N okL_nil)
   ·simp[M6,M1,Ni];omega
   ·intro x hx;simp at hx;rcases hx with h|h|h|h|h|h|h<;>simp[M6,M1,Ni,h]
   ·unfold Pw.scanB;exact ju J J J J N N (Xc gG J J N (Xc gz J J N (zmn J J J J N N N (i1 gz (wW _ rfl) J J N N okL_nil))))
   ·simp[Pw.scanB,M6,M1,M9,Ns,Nd];omega
   ·exact Zi J (ju J J J J N N okL_nil)
   ·simp[M6,cK,M1]
   ·intro x hx;simp at hx;rcases hx with h|h|h|h|h<;>simp[M6,cK,M1,h]
  ·exact Gd.cat (Gd.Lm (T:=(p.B+3:Int)::(p.B:Int)::S) hL J (l:=[cK (p.B+3) 1]) (Zi J okL_nil) D5 Cb) (Gd.cat (ztr hL J gQ J N gz (wW _ rfl)) (Gd.cat (Gd.Lm (T:=(p.B+3:Int)::(p.B:Int)::S) hL J (l:=[Nd p.cur.p (-1) 0 (p.B+3)]) (zbg gz (wW _ rfl) J J Bi N okL_nil) (by simp[M6,Nd]) (λx h=>by simp[M6,Nd];simpa using h)) (mo _ _ _ _ _ _ pd wd gg gz J J hL)))
end gd
end
section
set_option linter.unusedSimpArgs false
def zes{j:Type}:∀f g h:Fr j,(f.cat g).cat h=f.cat (g.cat h)
 |.nil,_,_=>rfl
 |.op o r,g,h=>Gv
 |.loop o b e r,g,h=>Gv
def Yf(g:Fr Lo):Fr.cat (M5 []) g=g:=rfl
def Fm(l:List Pn)(m m':Nat→Nat→UInt64):Prop:=∀x y,(∀p∈l,¬(x=p.b∧p.a≤y∧y<p.a+p.k))→m' x y=m x y
section fm
variable {l l' : List Pn} {m m' m'' : Nat → Nat → UInt64} {p q : Pn}
def Fm.trans(h:Fm l m m')(k:Fm l m' m''):Fm l m m'':=λx y hn=>(k x y hn).trans (h x y hn)
def Fm.mono(h:Fm l m m')(k:∀p∈l,p∈l'):Fm l' m m':=λx y hn=>h x y λp hp=>hn p (k p hp)
def Nl.fm(h:Nl p m m')(hp:p∈l):Fm l m m':=λx y hn=>h x y (hn p hp)
def Fm.pl(h:Fm l m m')(d:∀p∈l,Dj p q){i:Nat}(hi:i<q.k):pl m' q i=pl m q i :=
 h _ _ λp hp ⟨h1,h2,h3⟩=>by
  rcases d p hp with d|d|d
  ·exact d h1.symm
  ·omega
  ·omega
def Fm.vl(h:Fm l m m')(d:∀p∈l,Dj p q){n:Nat}(hn:n≤q.k):vl (Go.Sv.pl m' q) n=vl (Go.Sv.pl m q) n:=Vb λ_ hi=>h.pl d J
end fm
section ex
variable {sz : Nat → Nat} {s : Fs}
def Yv{d a:Nat}{k:Nat}(g:k<64):Qe sz (Qt 9 d a (k:Nat)) s=some (s.put d (UInt64.ofNat ((s.r a).toNat/2^k))):=by
 have e:(iU (k:Int)).toNat=k:=Vv J;simp[Qe,Qt,Nq,Yz,da,Ym,e]
def ztj{d a:Nat}{k:Nat}(g:k<64):Qe sz (Qt 8 d a (k:Nat)) s=some (s.put d (UInt64.ofNat ((s.r a).toNat*2^k))):=by
 have e:(iU (k:Int)).toNat=k:=Vv J;simp[Qe,Qt,Nq,Yz,da,Ym,e]
def zjb{x:UInt64}{k:Nat}:(UInt64.ofNat (x.toNat/2^k)).toNat=x.toNat/2^k:=by
 have h:=x.toNat_lt;have:=Mh x.toNat (2^k);simp;omega
def m9{x b:UInt64}(j:b.toNat≤1):(UInt64.ofNat (x.toNat*2^1) ||| b).toNat=2*x.toNat%18446744073709551616+b.toNat:=by
 have z:=x.toNat_lt;rw[Mf];have g:(UInt64.ofNat (x.toNat*2^1)).toNat=2^1*(x.toNat%2^63):=by
  simp;omega
 rw[g,←Mj (J:b.toNat<2^1)];omega
def ji{x b:UInt64}(g:b.toNat≤1):(UInt64.ofNat (x.toNat*2^1) ||| b).toNat+18446744073709551616*(UInt64.ofNat (x.toNat/2^63)).toNat=2*x.toNat+b.toNat∧(UInt64.ofNat (x.toNat/2^63)).toNat≤1:=by
 have j:=x.toNat_lt;rw[m9 g,zjb];omega
def sh_law{W v r x q b:Nat}(h:v+g*r=2*j+b)(k:q+W*A=2*x+r):v+q*g+g*W*A=2*(j+x*g)+b:=by
 have z:g*(q+W*A)=g*(2*x+r):=Gp
 grind
def sh_ex{p:Pn}{n l o b D:Nat}(T:p.in_ sz)(hn:n≤p.k)(hd:l≠o∧l≠b∧l≠D∧o≠b∧o≠D∧b≠D)(U:(s.r b).toNat≤1) :
  Tx sz (Yh p.p n l o b D) s λA=>(∀z,z≠l→z≠o→z≠b→z≠D→A.r z=s.r z)∧Nl p s.m A.m∧(A.r b).toNat≤1∧vl (pl A.m p) n+18446744073709551616^n*(A.r b).toNat=2*vl (pl s.m p) n+(s.r b).toNat:=by
 obtain⟨p1,K⟩:=T;obtain⟨E,d2,F,V,G,X⟩:=hd;have e:Yh p.p n l o b D=Og (D:Nat) (n:Nat) (M5 [M9 (l:Nat) p.p (D:Nat) ((0:Nat):Int),Qt 9 (o:Nat) (l:Nat) ((63:Nat):Int),Qt 8 (l:Nat) (l:Nat) ((1:Nat):Int),M1 6 (l:Nat) (l:Nat) (b:Nat),Nd p.p (D:Nat) ((0:Nat):Int) (l:Nat),Qj (b:Nat) (o:Nat)]):=rfl;rw[e];refine .lp (λB j=>(∀z,z≠l→z≠o→z≠b→z≠D→j.r z=s.r z)∧Nl p s.m j.m∧(j.r b).toNat≤1∧(∀i,B≤i→pl j.m p i=pl s.m p i)∧vl (pl j.m p) B+18446744073709551616^B*(j.r b).toNat=2*vl (pl s.m p) B+(s.r b).toNat)
  ⟨λ_ _ _ _ _=>rfl,λ_ _ _=>rfl,U,λ_ _=>rfl,Cu⟩ J (λB j hj ⟨Y,Z,b1,L,v1⟩=>?_) λ_ h=>⟨h.1,h.2.1,h.2.2.1,h.2.2.2.2⟩
 have H:((j.put D (UInt64.ofNat B)).r D).toNat=B:=Bj
 have C:(UInt64.ofNat B).toNat=B:=br J;refine .op (W9 (by rw[H];omega) K) (.op (Yv J) (.op (ztj J) (.op zym ?_)));simp only[M3,Ot,Jl,Hv E,Hv d2.symm,Hv V.symm,Hv X,Hv E.symm,C,Ix];have I:=ji (x:=pl j.m p B) b1;obtain⟨M,a2⟩:=I;refine .op (om (by simp only[M3,Hv F.symm,Hv G.symm,Jl];rw[br J];omega) K) (.op zmb (.nil ⟨λz O P Q R=>?_,?_,?_,λi hi=>?_,?_⟩))
 ·simp only[M3,Si,Hv O,Hv P,Hv Q,Hv R];exact Y z O P Q R
 ·refine Z.trans ?_;rw[Ot];refine V6 (p:=p) ?_;simp only[M3,Hv F.symm,Hv G.symm,Jl];rw[br J];omega
 ·simp only[M3,Si,Jl,Hv E.symm,Ix];exact a2
 ·rw[Ot,Q9];simp only[M3,Hv F.symm,Hv G.symm,Jl];rw[br J,Hv J];exact L i J
 ·rw[Ot,Q6,Q6,Q9];simp only[M3,Si,Hv F.symm,Hv G.symm,Jl,Hv E.symm,Ix];rw[C,H7 rfl,I0,Vb (g:=pl j.m p) λi hi=>by rw[Q9,Hv J];rfl];rw[L B (H9 _)]at M ⊢;exact sh_law v1 M
def js{to fr:Pn}{k l D:Nat}(H:to.in_ sz)(I:fr.in_ sz)(Q:k≤to.k)(R:k≤fr.k)(z:l≠D)(K:Dj to fr) :
  Tx sz (aw to.p fr.p k l D) s λA=>(∀g,g≠l→g≠D→A.r g=s.r g)∧Nl to s.m A.m∧∀i,i<k→pl A.m to i=pl s.m fr i:=by
 obtain⟨T,L⟩:=H;obtain⟨U,M⟩:=I;have e:aw to.p fr.p k l D=Og (D:Nat) (k:Nat) (M5 [M9 (l:Nat) fr.p (D:Nat) ((0:Nat):Int),Nd to.p (D:Nat) ((0:Nat):Int) (l:Nat)]):=rfl;rw[e];refine .lp (λG j=>(∀g,g≠l→g≠D→j.r g=s.r g)∧Nl to s.m j.m∧∀i,i<G→pl j.m to i=pl s.m fr i)
  ⟨λ_ _ _=>rfl,λ_ _ _=>rfl,λ_ h=>absurd h J⟩ J (λG j V ⟨O,C,P⟩=>?_) λ_ h=>h
 have B:((j.put D (UInt64.ofNat G)).r D).toNat=G:=Bj
 refine .op (W9 (by rw[B];omega) M) (.op (om (by simp only[M3,Hv z.symm,Jl];rw[br J];omega) L) (.nil ⟨λg E F=>?_,?_,λi hi=>?_⟩))
 ·simp only[M3,Si,Hv E,Hv F];exact O g E F
 ·refine C.trans ?_;refine V6 (p:=to) ?_;simp only[M3,Hv z.symm,Jl];rw[br J];omega
 ·rw[Q9];simp only[M3,Ot,Hv z.symm,Jl,Ix];rw[br J];split
  ·rename_i q;rw[q];exact C.pl K J
  ·exact P i J
def zr7{R j:Nat}{n r:Pn}{c:Bool}(Q:g<R)(B:(s.r g).toNat=j)(F:s.r (R+5)=Nv c)(G:n.in_ sz)(H:r.in_ sz)(T:j<n.k)(U:j<r.k)(x:List Lo)(P:Fs→Prop)
  (h:∀(z:Fs) (b:Bool),z.m=s.m→z.r (R+5)=Nv b→z.r (R+2)=pl s.m r j→(z.r (R+4)).toNat+(pl s.m n j).toNat+c.toNat=(pl s.m r j).toNat+18446744073709551616*b.toNat→(∀E,E≠R+2→E≠R+4→E≠R+5→z.r E=s.r E)→Tx sz (M5 x) z P) :
  Tx sz (M5 (Vu n.p r.p R g++x)) s P:=by
 obtain⟨I,C⟩:=G;obtain⟨K,D⟩:=H;have e:Vu n.p r.p R g++x=M9 ((R+2:Nat):Int) r.p (g:Nat) ((0:Nat):Int)::M9 ((R+4:Nat):Int) n.p (g:Nat) ((0:Nat):Int)::Ni 12 ((R+4:Nat):Int) ((R+5:Nat):Int) ((R+2:Nat):Int) ((R+4:Nat):Int) ((R+5:Nat):Int)::x:=rfl;rw[e];have A:∀n,n<11→¬g=R+n:=λn h=>J
 refine .op (W9 J D) (.op (W9 (by simp only[M3,Hv (A 2 J)];omega) C) (.op zkc ?_));have hv:=zcw (pl s.m r j) (pl s.m n j) c;refine h _ (subC (pl s.m r j) (pl s.m n j) c).2 rfl ?_ ?_ ?_ λE L M O=>?_
 ·simp[M3,Ot,A,B,F,pu]
 ·simp[M3,Ot,A,B]
 ·simpa [M3,Ot,A,B,F,pu] using hv
 ·simp[M3,L,M,O]
def zvk{R k:Nat}{r:Pn}{c:Bool}(B:s.r R=0)(C:s.r (R+5)=Nv c)(D:r.in_ sz)(K:k<r.k)(g:Fr Lo)(I:Fs→Prop)
  (h:∀(j:Fs) (b:Bool),j.m=s.m→j.r (R+5)=Nv b→j.r (R+2)=pl s.m r k→(j.r (R+4)).toNat+c.toNat=(pl s.m r k).toNat+18446744073709551616*b.toNat→(∀A,A≠R+2→A≠R+4→A≠R+5→j.r A=s.r A)→Tx sz g j I) :
  Tx sz ((M5 [M9 ((R:Int)+2) r.p (-1) (k:Nat),Ni 12 ((R:Int)+4) ((R:Int)+5) ((R:Int)+2) (R:Nat) ((R:Int)+5)]).cat g) s I:=by
 obtain⟨E,z⟩:=D;have e:[M9 ((R:Int)+2) r.p (-1) (k:Nat),Ni 12 ((R:Int)+4) ((R:Int)+5) ((R:Int)+2) (R:Nat) ((R:Int)+5)]=[M9 ((R+2:Nat):Int) r.p (-1) (k:Nat),Ni 12 ((R+4:Nat):Int) ((R+5:Nat):Int) ((R+2:Nat):Int) (R:Nat) ((R+5:Nat):Int)]:=rfl;rw[e];refine .op (ztk J z) (.op zkc ?_);have hv:=zcw (pl s.m r k) 0 c;refine h _ (subC (pl s.m r k) 0 c).2 rfl ?_ ?_ ?_ λA F G H=>?_
 ·simp[M3,B,C,pu]
 ·simp[M3]
 ·simpa [M3,B,C,pu] using hv
 ·simp[M3,F,G,H]
def qy(R g:Nat):Prop:=g=R+2∨g=R+4∨g=R+5
def wv{R D k:Nat}{n r:Pn}(T:D<R)(U:s.r R=0)(V:n.in_ sz)(E:r.in_ sz)(kn:k≤n.k)(X:k<r.k) :
  Tx sz (V1 n.p r.p k R D []) s λI=>(∀g,¬qy R g→g≠D→I.r g=s.r g)∧I.m=s.m∧∃(c:Bool) (v:Nat),I.r (R+5)=Nv c∧v<18446744073709551616^(k+1)∧v+vl (pl s.m n) k=vl (pl s.m r) (k+1)+18446744073709551616^(k+1)*c.toNat:=by
 have Y:k<18446744073709551616:=by have:=E.1;have:=E.2;omega
 have e:V1 n.p r.p k R D []=(M5 [cK ((R+5:Nat):Int) 0]).cat ((Og (D:Nat) (k:Nat) (M5 (Vu n.p r.p R D++[]))).cat ((M5 [M9 ((R:Int)+2) r.p (-1) (k:Nat),Ni 12 ((R:Int)+4) ((R:Int)+5) ((R:Int)+2) (R:Nat) ((R:Int)+5)]).cat .nil)):=rfl;rw[e];unfold qy;refine .op Vt ?_;rw[Yf];refine .cat (R:=λz=>(∀g,¬(g=R+2∨g=R+4∨g=R+5)→g≠D→z.r g=s.r g)∧z.m=s.m∧∃(c:Bool) (v:Nat),z.r (R+5)=Nv c∧v<18446744073709551616^k∧v+vl (pl s.m n) k=vl (pl s.m r) k+18446744073709551616^k*c.toNat) ?_ λz ⟨F,m1,c,v,K,Z,L⟩=>?_
 ·refine .lp (λG z=>(∀g,¬(g=R+2∨g=R+4∨g=R+5)→g≠D→z.r g=s.r g)∧z.m=s.m∧∃(c:Bool) (v:Nat),z.r (R+5)=Nv c∧v<18446744073709551616^G∧v+vl (pl s.m n) G=vl (pl s.m r) G+18446744073709551616^G*c.toNat) ⟨λg H _=>?_,rfl,false,0,by rw[M3,H7 rfl];rfl,N,Cu⟩ Y (λG z hj ⟨F,m1,c,v,K,Z,L⟩=>?_) λ_ h=>h
  ·rw[M3,Hv J]
  ·refine zr7 (j:=G) (c:=c) T Bj (by rw[M3,Hv J,K]) V E J J _ _ λB b M O t2 C P=>.nil ⟨λg H A=>?_,by rw[M,Ot,m1],b,v+(B.r (R+4)).toNat*18446744073709551616^G,O,?_,?_⟩
   ·rw[P g J J J,M3,Hv A,F g H A]
   ·have:=(B.r (R+4)).toNat_lt;have Q:=Ii (18446744073709551616^G) (J:(B.r (R+4)).toNat+1≤18446744073709551616);rw[Iv,J5]at Q;rw[I0,Jq (18446744073709551616^G)];omega
   ·rw[Ot,m1]at C;rw[Q6,Q6,I0];exact zct L C
 ·refine zvk (c:=c) (by rw[F R J J,U]) K E X _ _ λB b M O t2 C P=>.nil ⟨λg H A=>?_,by rw[M,m1],b,v+(B.r (R+4)).toNat*18446744073709551616^k,O,?_,?_⟩
  ·rw[P g J J J,F g H A]
  ·have:=(B.r (R+4)).toNat_lt;have Q:=Ii (18446744073709551616^k) (J:(B.r (R+4)).toNat+1≤18446744073709551616);rw[Iv,J5]at Q;rw[I0,Jq (18446744073709551616^k)];omega
  ·rw[m1]at C;rw[Q6,I0];have:=zct (x:=0) L Ci;simpa using this
def uc{R D k:Nat}{n r:Pn}{p:Bool}(hD:D<R)(hR:s.r R=0)(hp:s.r (R+6)=Nv p)(hn:n.in_ sz)(L:r.in_ sz)(kn:k≤n.k)(kr:k<r.k)(dj:Dj r n) :
  Tx sz ((V1 n.p r.p k R D [Ns ((R:Int)+4) ((R:Int)+6) ((R:Int)+2) ((R:Int)+4),Nd r.p D 0 ((R:Int)+4)]).cat (M5 [Ns ((R:Int)+4) ((R:Int)+6) ((R:Int)+2) ((R:Int)+4),Nd r.p (-1) k ((R:Int)+4),cK ((R:Int)+1) 0])) s λT =>
   (∀B,¬qy R B→B≠R+1→B≠D→T.r B=s.r B)∧Nl r s.m T.m∧T.r (R+1)=0∧∃(c:Bool) (v:Nat),v<18446744073709551616^(k+1)∧v+vl (pl s.m n) k=vl (pl s.m r) (k+1)+18446744073709551616^(k+1)*c.toNat∧vl (pl T.m r) (k+1)=if p=true then vl (pl s.m r) (k+1) else v:=by
 have hW:k<18446744073709551616:=by have:=L.1;have:=L.2;omega
 have gg:=L.1;have Q:=L.2;have e:∀g:Fr Lo,(V1 n.p r.p k R D [Ns ((R:Int)+4) ((R:Int)+6) ((R:Int)+2) ((R:Int)+4),Nd r.p D 0 ((R:Int)+4)]).cat g=(M5 [cK ((R+5:Nat):Int) 0]).cat ((Og (D:Nat) (k:Nat) (M5 (Vu n.p r.p R D++[Ns ((R+4:Nat):Int) ((R+6:Nat):Int) ((R+2:Nat):Int) ((R+4:Nat):Int),Nd r.p (D:Nat) ((0:Nat):Int) ((R+4:Nat):Int)]))).cat ((M5 [M9 ((R:Int)+2) r.p (-1) (k:Nat),Ni 12 ((R:Int)+4) ((R:Int)+5) ((R:Int)+2) (R:Nat) ((R:Int)+5)]).cat g)):=λg=>by
  unfold V1;rw[zes,zes];rfl
 rw[e];unfold qy;refine .op Vt ?_;rw[Yf];refine .cat (R:=λA=>(∀B,¬(B=R+2∨B=R+4∨B=R+5)→B≠D→A.r B=s.r B)∧Nl r s.m A.m∧(∀i,k≤i→pl A.m r i=pl s.m r i)∧∃(c:Bool) (v:Nat),A.r (R+5)=Nv c∧v<18446744073709551616^k∧v+vl (pl s.m n) k=vl (pl s.m r) k+18446744073709551616^k*c.toNat∧vl (pl A.m r) k=if p=true then vl (pl s.m r) k else v) ?_ λA ⟨M,U,V,c,v,Y,l1,Z,w1⟩=>?_
 ·refine .lp (λF A=>(∀B,¬(B=R+2∨B=R+4∨B=R+5)→B≠D→A.r B=s.r B)∧Nl r s.m A.m∧(∀i,F≤i→pl A.m r i=pl s.m r i)∧∃(c:Bool) (v:Nat),A.r (R+5)=Nv c∧v<18446744073709551616^F∧v+vl (pl s.m n) F=vl (pl s.m r) F+18446744073709551616^F*c.toNat∧vl (pl A.m r) F=if p=true then vl (pl s.m r) F else v) ⟨λB X _=>?_,λ_ _ _=>rfl,λ_ _=>rfl,false,0,by rw[M3,H7 rfl];rfl,N,Cu,Cu⟩ hW (λF A hj ⟨M,U,V,c,v,Y,l1,Z,w1⟩=>?_) λ_ h=>h
  ·rw[M3,Hv J]
  ·refine zr7 (j:=F) (c:=c) hD Bj (by rw[M3,Hv J,Y]) hn L J J _ _ λz b G b2 O H P=>?_
   have gz:(z.r D).toNat=F:=by rw[P D J J J];simp[M3];omega
   rw[Ot]at O H G;rw[V F (H9 _)]at O H;rw[U.pl dj J]at H;have I:z.r (R+6)=Nv p:=by rw[P _ J J J,M3,Hv J,M _ J J,hp]
   refine .op znk (.op (om (by simp only[M3];rw[Hv J];omega) Q) (.nil ⟨λB X C=>?_,?_,λi hi=>?_,b,v+(z.r (R+4)).toNat*18446744073709551616^F,?_,?_,?_,?_⟩))
   ·rw[Si,M3,Hv J,P B J J J,M3,Hv C,M B X C]
   ·refine U.trans (G ▸ ?_);exact V6 (p:=r) (s:=z.put _ _) Gx
   ·have K:0+((z.put (R+4) (if z.r (R+6)%2=1 then z.r (R+2) else z.r (R+4))).r D).toNat=F:=Gx
    rw[K,Q9,Hv J,Ot,G];exact V i J
   ·rw[Si,M3,Hv J,b2]
   ·have:=(z.r (R+4)).toNat_lt;have h3:=Ii (18446744073709551616^F) (J:(z.r (R+4)).toNat+1≤18446744073709551616);rw[Iv,J5]at h3;rw[I0,Jq (18446744073709551616^F)];omega
   ·rw[Q6,Q6,I0];exact zct Z H
   ·have K:0+((z.put (R+4) (if z.r (R+6)%2=1 then z.r (R+2) else z.r (R+4))).r D).toNat=F:=Gx
    rw[Q6,K,Q9,H7 rfl,Vb (g:=pl A.m r) (n:=F) λi hi=>by rw[Q9,Hv J,Ot,G],w1,M3,H7 rfl,I,O];have E:=pu p;cases p
    ·simp at E;simp[E]
    ·simp at E;simp[E,Q6]
 ·refine zvk (c:=c) (by rw[M R J J,hR]) Y L kr _ _ λz b G b2 O H P=>?_
  rw[V k (H9 _)]at O H;have I:z.r (R+6)=Nv p:=by rw[P _ J J J,M _ J J,hp]
  have e2:[Ns ((R:Int)+4) ((R:Int)+6) ((R:Int)+2) ((R:Int)+4),Nd r.p (-1) (k:Nat) ((R:Int)+4),cK ((R:Int)+1) 0]=[Ns ((R+4:Nat):Int) ((R+6:Nat):Int) ((R+2:Nat):Int) ((R+4:Nat):Int),Nd r.p (-1) (k:Nat) ((R+4:Nat):Int),cK ((R+1:Nat):Int) 0]:=rfl;rw[e2];refine .op znk (.op (zof J Q) (.op Vt (.nil ⟨λB X h1 C=>?_,?_,by simp[M3],b,v+(z.r (R+4)).toNat*18446744073709551616^k,?_,?_,?_⟩)))
  ·rw[M3,Hv h1,Si,M3,Hv J,P B J J J,M B X C]
  ·refine U.trans (G ▸ ?_);exact V6 (p:=r) (s:=z.put _ _) J
  ·have:=(z.r (R+4)).toNat_lt;have h3:=Ii (18446744073709551616^k) (J:(z.r (R+4)).toNat+1≤18446744073709551616);rw[Iv,J5]at h3;rw[I0,Jq (18446744073709551616^k)];omega
  ·rw[Q6,I0];have:=zct (x:=0) Z Bn;simpa using this
  ·rw[Ot,Q6,Q9,H7 rfl,Vb (g:=pl A.m r) (n:=k) λi hi=>by rw[Q9,Hv J,Ot,G],w1,M3,H7 rfl,I,O];have E:=pu p;cases p
   ·simp at E;simp[E]
   ·simp at E;simp[E,Q6]
end ex
end
section
set_option linter.unusedSimpArgs false
def Fm.inn{l:List Pn}{q:Pn}{m m':Nat→Nat→UInt64}(h:Fm l m m')(k:∀p∈l,p.b=q.b∧q.a≤p.a∧p.a+p.k≤q.a+q.k):Fm [q] m m':=λx y hn=>h x y λp hp ⟨h1,h2,h3⟩=>hn q N (by have:=k p hp;omega)
def rx_law{v c:Nat}(C:c≤1)(z:T≤1)(E:v<g)(F:v+j=A+g*c)(G:D<g)(H:D+j=A+g*T)(I:A<2*j):(c=1→A%j=A)∧(c=0→D=A%j):=by
 have e:c=0∨c=1:=J
 have B:T=0∨T=1:=J
 have hm:j≤A→A%j=A-j:=λh=>by rw[Nat.mod_eq_sub_mod h,Iy J]
 rcases e with rfl|rfl<;>rcases B with rfl|rfl<;>simp at *
 ·have:=hm J;omega
 ·omega
 ·exact Iy J
 ·exact Iy J
def rx_top{v b:Nat}(h:v+g*b=j)(z:b=0∨b=1)(B:j<2*A)(C:A<D)(E:g=D*18446744073709551616):v=j:=by
 rcases z with rfl|rfl<;>omega
def zq3{p:Pn}{t:Fs}{m:Nat→Nat→UInt64}{i:Nat}{v:UInt64}(h:t.m=m)(hi:i<p.k):Nl p m (t.sto p.b (p.a+i) v).m:=h ▸ V6 hi
section ex
variable {sz : Nat → Nat} {s : Fs}
def zn4{R D k bits:Nat}{d n r:Pn}(hD:D+1<R)(hd:d.in_ sz)(hn:n.in_ sz)(F:r.in_ sz)(kd:k≤d.k)(Q:k≤n.k)(kr:r.k=k+1)(rn:Dj r n)(dr:Dj d r)(hb:bits≤1000000) :
  Tx sz (W4 d.p n.p r.p k bits R D) s λT=>(∀z,¬(R≤z∧z≤R+6)→z≠D→z≠D+1→T.r z=s.r z)∧Fm [d,r] s.m T.m∧(0<vl (pl s.m n) k→vl (pl T.m d) k=2^bits%vl (pl s.m n) k):=by
 have gC:=F.1;have gD:=F.2;have e:W4 d.p n.p r.p k bits R D=(M5 [cK (R:Nat) 0,cK ((R+1:Nat):Int) 1]).cat ((Sf r.p (R:Nat) (D:Nat)).cat ((Og (D:Nat) ((bits+1:Nat):Int) ((Yh r.p ((k+1:Nat):Int) ((R+2:Nat):Int) ((R+3:Nat):Int) ((R+1:Nat):Int) ((D+1:Nat):Int)).cat ((V1 n.p r.p k R ((D+1:Nat):Int) []).cat ((M5 [Qj ((R+6:Nat):Int) ((R+5:Nat):Int)]).cat ((V1 n.p r.p k R ((D+1:Nat):Int) [Ns ((R:Int)+4) ((R:Int)+6) ((R:Int)+2) ((R:Int)+4),Nd r.p ((D+1:Nat):Int) 0 ((R:Int)+4)]).cat (M5 [Ns ((R:Int)+4) ((R:Int)+6) ((R:Int)+2) ((R:Int)+4),Nd r.p (-1) k ((R:Int)+4),cK ((R:Int)+1) 0])))))).cat (aw d.p r.p k ((R+2:Nat):Int) (D:Nat)))):=rfl;rw[e];refine .op Vt (.op Vt ?_);rw[Yf];refine (zrr F J).cat λs1 ⟨I,o1,z1⟩=>?_
 simp only[Ot,M3,Jl]at I o1 z1;have U:∀i,i<r.k→pl s1.m r i=0:=λi hi=>by rw[z1 i hi,Hv J]
 refine .cat (R:=λj=>(∀z,¬(R≤z∧z≤R+6)→z≠D→z≠D+1→j.r z=s.r z)∧j.r R=0∧Nl r s.m j.m∧(j.r (R+1)).toNat≤1∧(0<vl (pl s.m n) k→2*vl (pl j.m r) (k+1)+(j.r (R+1)).toNat<2*vl (pl s.m n) k∧(2*vl (pl j.m r) (k+1)+(j.r (R+1)).toNat)%vl (pl s.m n) k=2^(bits+1)%vl (pl s.m n) k∧vl (pl j.m r) (k+1)=2^bits%vl (pl s.m n) k)) ?_ λj ⟨V,R2,X,b2,Y⟩=>?_
 ·refine .lp (λi j=>(∀z,¬(R≤z∧z≤R+6)→z≠D→z≠D+1→j.r z=s.r z)∧j.r R=0∧Nl r s.m j.m∧(j.r (R+1)).toNat≤1∧(0<vl (pl s.m n) k→2*vl (pl j.m r) (k+1)+(j.r (R+1)).toNat<2*vl (pl s.m n) k∧(2*vl (pl j.m r) (k+1)+(j.r (R+1)).toNat)%vl (pl s.m n) k=2^i%vl (pl s.m n) k∧(0<i→vl (pl j.m r) (k+1)=2^(i-1)%vl (pl s.m n) k)))
   ⟨λz H A E=>?_,?_,o1,?_,λB=>?_⟩ J (λi j hi ⟨V,R2,X,b2,Y⟩=>?_) λC ⟨a,b,c,d,e⟩=>⟨a,b,c,d,λB=>⟨(e B).1,(e B).2.1,(e B).2.2 J⟩⟩
  ·rw[I z A,Hv J,Hv J]
  ·rw[I R J,Hv J,H7 rfl]
  ·rw[I (R+1) J,H7 rfl];decide
  ·rw[zid λi hi=>U i J,I (R+1) J,H7 rfl];refine⟨?_,N,λh=>absurd h J⟩;show 2*0+1<_;omega
  ·have L:∀z,z≠D→(j.put D (UInt64.ofNat i)).r z=j.r z:=λz hz=>by rw[M3,Hv hz]
   refine (sh_ex (p:=r) (n:=k+1) (l:=R+2) (o:=R+3) (b:=R+1) (D:=D+1) F J J (by rw[L _ J];exact b2)).cat λC ⟨M,O,b3,P⟩=>?_
   rw[L (R+1) J,Ot]at P;rw[Ot]at O;have Z:C.r R=0:=by rw[M R J J J J,L R J,R2]
   refine (wv (k:=k) J Z hn F Q J).cat λs4 ⟨g4,m4,c,v,c4,l4,v4⟩=>?_
   refine .op zmb ?_;rw[Yf];have G:∀z,¬qy R z→z≠R+6→z≠D+1→(s4.put (R+6) (s4.r (R+5))).r z=C.r z:=λz H A E=>by rw[M3,Hv A,g4 z H E]
   have K:=X.trans O;refine (uc (p:=c) (k:=k) J (by rw[G R C6 J J,Z]) (by rw[M3,H7 rfl,c4]) hn F Q J rn).mono λs5 ⟨g5,o5,b5,c',v',l5,v5,w5⟩=>?_
   rw[Ot,m4]at o5 v5 w5;rw[K.vl rn Q]at v4 v5;refine⟨λz H A E=>?_,?_,K.trans o5,by rw[b5];decide,λB=>?_⟩
   ·rw[g5 z C6 J E,G z C6 J E,M z J J J E,L z A,V z H A E]
   ·rw[g5 R C6 J J,G R C6 J J,Z]
   ·obtain⟨x1,x2,_⟩:=Y B;have gg:=zxo (pl s.m n) k;have gz:(C.r (R+1)).toNat=0∨(C.r (R+1)).toNat=1:=J
    have hP:(18446744073709551616:Nat)^(k+1)=18446744073709551616^k*18446744073709551616:=I0 ..;have hX:vl (pl C.m r) (k+1)=2*vl (pl j.m r) (k+1)+(j.r (R+1)).toNat:=by
     exact rx_top P gz x1 gg hP
    rw[←hX]at x1 x2;have gA:c.toNat≤1:=by cases c<;>decide
    have gB:c'.toNat≤1:=by cases c'<;>decide
    obtain⟨q1,q2⟩:=rx_law gA gB l4 v4 l5 v5 x1;have hV:vl (pl s5.m r) (k+1)=vl (pl C.m r) (k+1)%vl (pl s.m n) k:=by
     rw[w5];cases c
     ·rw[Hv N];exact q2 rfl
     ·rw[H7 rfl];exact (q1 rfl).symm
    have gE:=Kg (vl (pl C.m r) (k+1)) B;rw[b5,hV];refine⟨Ab,?_,λ_=>by rw[x2,Nat.add_sub_cancel]⟩;show (2*(vl (pl C.m r) (k+1)%vl (pl s.m n) k)+0)%_=_;rw[Kh,x2,I0,Jq (2^i)]
    conv=>lhs;rw[Jr,Nat.mod_mod,←Jr]
 ·refine (js (to:=d) (fr:=r) (k:=k) (l:=R+2) (D:=D) hd F kd J J dr).mono λC ⟨M,O,P⟩=>⟨λz H A E=>?_,?_,λB=>?_⟩
  ·rw[M z J A,V z H A E]
  ·exact (X.fm N).trans (O.fm N)
  ·obtain⟨_,_,w⟩:=Y B;have A:vl (pl j.m r) (k+1)<18446744073709551616^k:=by
    rw[w];exact Nat.lt_trans (Kg _ B) (zxo _ _)
   rw[Vb (g:=pl j.m r) P,←w,Q6];rw[Q6]at A;have:(pl j.m r k).toNat=0:=by
    rcases Nat.eq_zero_or_pos (pl j.m r k).toNat with q|q
    ·exact q
    ·have:=L5 (18446744073709551616^k) q;omega
   rw[this];omega
def Pw.wk(p:Pw):Pn:=⟨p.wb,p.wa,4*p.k+p.b.k+3+p.k*2^p.w⟩
def Pw.en(p:Pw)(e:Nat):Pn:=⟨p.wb,p.wa+4*p.k+p.b.k+3+e*p.k,p.k⟩
structure PwS (sz:Nat→Nat) (p:Pw):Prop where
 B:16≤p.B∧p.B≤40
 d:p.d.in_ sz
 a:p.a.in_ sz
 b:p.b.in_ sz
 n:p.n.in_ sz
 wk:p.wk.in_ sz
 k:1≤p.k
 kb:p.k≤512
 dk:p.d.k=p.k
 ak:p.a.k=p.k
 nk:p.n.k=p.k
 db:p.d.b≠p.wb
 ab:p.a.b≠p.wb
 bb:p.b.b≠p.wb
 nb:p.n.b≠p.wb
 dn:DjE p.d p.n
 w:1≤p.w∧p.w≤6
 ov:p.over≤63
 ti:p.times*p.w=64*p.b.k+p.over
section pieces
variable {p : Pw}
def zsw{e:Nat}(he:e<2^p.w):e*p.k+p.k≤p.k*2^p.w:=by
 have:=Ii p.k (J:e+1≤2^p.w);rw[Iv,J5,Jq (2^p.w)]at this;exact this
def X6(g:PwS sz p){q:Pn}(j:q.b=p.wb)(A:q.a+q.k≤p.wa+(4*p.k+p.b.k+3+p.k*2^p.w)):q.in_ sz:=by
 have z:=g.wk;unfold Pn.in_ at *;rw[j];simp only[Pw.wk]at z;omega
def zgb(p:Pw):p.k≤p.k*2^p.w:=Nat.le_mul_of_pos_right _ (K0 _)
def or_shl{x o:UInt64}{m:Nat}(hm:m<64)(ho:o.toNat<2^m):(UInt64.ofNat (x.toNat*2^m) ||| o).toNat+18446744073709551616*(x.toNat/2^(64-m))=2^m*x.toNat+o.toNat:=by
 have z:=x.toNat_lt;have g:(18446744073709551616:Nat)=2^m*2^(64-m):=by rw[←K7,(J:m+(64-m)=64)]
 have j:(UInt64.ofNat (x.toNat*2^m)).toNat=2^m*(x.toNat%2^(64-m)):=by
  rw[Jc,show (2:Nat)^64=2^m*2^(64-m) from g,Jq x.toNat,Nat.mul_mod_mul_left]
 rw[Mf,j,←Mj ho,g];have:=Nat.div_add_mod x.toNat (2^(64-m));generalize x.toNat/2^(64-m)=q at *;generalize x.toNat%2^(64-m)=r at *;rw[←this,Ln,Kd];omega
def t9{W r x q v:Nat}(h:v+g*r=A*j)(k:q+W*D=A*x+r):v+q*g+g*W*D=A*(j+x*g):=by
 have z:g*(q+W*D)=g*(A*x+r):=Gp
 grind
def exp_ex(L:PwS sz p){D:Nat}(hD:D<8)(Q:s.r p.B=0) :
  Tx sz (p.exp D) s λT=>(∀z,¬(p.B+2≤z∧z≤p.B+4)→z≠D→T.r z=s.r z)∧Nl p.es s.m T.m∧vl (pl T.m p.es) (p.b.k+1)=vl (pl s.m p.b) p.b.k*2^(64-p.over):=by
 have hB:=L.B.1;have gg:=L.b.1;have M:=L.b.2;have O:p.es.in_ sz:=X6 L rfl Ay;have gz:p.es.a+(p.b.k+1)≤sz p.es.b:=O.1;have C:=O.2;have Z:Dj p.es p.b:=.inl L.bb.symm;have gA:=L.ov;by_cases P:p.over=0
 ·have e:p.exp D=(M5 [Qj ((p.B+4:Nat):Int) (p.B:Nat)]).cat ((Og (D:Nat) (p.b.k:Nat) (M5 [M9 ((p.B+3:Nat):Int) p.b.p (D:Nat) ((0:Nat):Int),Nd p.es.p (D:Nat) ((1:Nat):Int) ((p.B+3:Nat):Int)])).cat (M5 [Nd p.es.p (-1) ((0:Nat):Int) (p.B:Nat)])):=by
   unfold Pw.exp Pw.expB Pw.expE;rw[H7 P,H7 P];rfl
  rw[e];refine .op zmb ?_;rw[Yf];refine .cat (R:=λj=>(∀z,¬(p.B+2≤z∧z≤p.B+4)→z≠D→j.r z=s.r z)∧Nl p.es s.m j.m∧∀i,i<p.b.k→pl j.m p.es (i+1)=pl s.m p.b i) ?_ λj ⟨G,E,I⟩=>?_
  ·refine .lp (λH j=>(∀z,¬(p.B+2≤z∧z≤p.B+4)→z≠D→j.r z=s.r z)∧Nl p.es s.m j.m∧∀i,i<H→pl j.m p.es (i+1)=pl s.m p.b i) ⟨λz F B=>Hc,λ_ _ _=>rfl,λ_ h=>absurd h J⟩ J (λH j hj ⟨G,E,I⟩=>?_) λ_ h=>h
   have A:(UInt64.ofNat H).toNat=H:=br J;have K:¬D=p.B+3:=J
   refine .op (W9 (by simp only[M3,Jl,A];omega) M) (.op (om (by simp only[M3,Hv K,Jl,A];omega) C) (.nil ⟨λz F B=>?_,?_,λi hi=>?_⟩))
   ·rw[Si,M3,Hv J,M3,Hv B,G z F B]
   ·refine E.trans (V6 (p:=p.es) (s:=(j.put D (UInt64.ofNat H)).put _ _) ?_);simp only[M3,Hv K,Jl,A,Pw.es];omega
   ·rw[Q9];simp only[M3,Ot,Hv K,Jl,A,Ix];split
    ·rename_i q;have:i=H:=J
     rw[this];exact E.pl Z J
    ·exact I i J
  ·refine .op (zof J C) (.nil ⟨λz F B=>by rw[Si,G z F B],E.trans (V6 Ay),?_⟩);rw[zpa,Q9,H7 rfl,G p.B J J,Q,Vb (g:=pl s.m p.b) λi hi=>by
    rw[Q9,Hv J];exact I i hi,P]
   simp;omega
 ·have e:p.exp D=(M5 [Qj ((p.B+4:Nat):Int) (p.B:Nat)]).cat ((Og (D:Nat) (p.b.k:Nat) (M5 [M9 ((p.B+3:Nat):Int) p.b.p (D:Nat) ((0:Nat):Int),Qt 8 ((p.B+2:Nat):Int) ((p.B+3:Nat):Int) ((64-p.over:Nat):Int),M1 6 ((p.B+2:Nat):Int) ((p.B+2:Nat):Int) ((p.B+4:Nat):Int),Nd p.es.p (D:Nat) ((0:Nat):Int) ((p.B+2:Nat):Int),Qt 9 ((p.B+4:Nat):Int) ((p.B+3:Nat):Int) (p.over:Nat)])).cat (M5 [Nd p.es.p (-1) (p.b.k:Nat) ((p.B+4:Nat):Int)])):=by
   unfold Pw.exp Pw.expB Pw.expE;rw[Hv P,Hv P,(J:(64:Int)-(p.over:Int)=((64-p.over:Nat):Int))];rfl
  rw[e];refine .op zmb ?_;rw[Yf];refine .cat (R:=λj=>(∀z,¬(p.B+2≤z∧z≤p.B+4)→z≠D→j.r z=s.r z)∧Nl p.es s.m j.m∧(j.r (p.B+4)).toNat<2^(64-p.over)∧vl (pl j.m p.es) p.b.k+18446744073709551616^p.b.k*(j.r (p.B+4)).toNat=2^(64-p.over)*vl (pl s.m p.b) p.b.k) ?_ λj ⟨G,E,_,I⟩=>?_
  ·refine .lp (λH j=>(∀z,¬(p.B+2≤z∧z≤p.B+4)→z≠D→j.r z=s.r z)∧Nl p.es s.m j.m∧(j.r (p.B+4)).toNat<2^(64-p.over)∧vl (pl j.m p.es) H+18446744073709551616^H*(j.r (p.B+4)).toNat=2^(64-p.over)*vl (pl s.m p.b) H) ⟨λz F B=>Hc,λ_ _ _=>rfl,by rw[M3,H7 rfl,Q];exact K0 _,by rw[M3,H7 rfl,Q];simp[vl]⟩ J (λH j hj ⟨G,E,l1,I⟩=>?_) λ_ h=>h
   have A:(UInt64.ofNat H).toNat=H:=br J;have d2:¬D=p.B+2:=J
   have U:¬D=p.B+3:=J
   have V:¬D=p.B+4:=J
   have X:¬p.B+4=D:=J
   have hq:=or_shl (x:=pl s.m p.b H) (m:=64-p.over) J l1;rw[(J:64-(64-p.over)=p.over)]at hq;refine .op (W9 (by simp only[M3,Jl,A];omega) M) (.op (ztj J) (.op zym (.op (om ?_ C) (.op (Yv J) (.nil ⟨λz F B=>?_,?_,?_,?_⟩)))))
   ·simp[M3,d2,U,V,A];omega
   ·have z2:¬z=p.B+2:=J
    have z3:¬z=p.B+3:=J
    have z4:¬z=p.B+4:=J
    simp[M3,Si,z2,z3,z4,B];exact G z F B
   ·refine E.trans ?_;rw[Ot];refine zq3 rfl ?_;simp[M3,d2,U,V,A,Pw.es];omega
   ·rw[M3,H7 rfl,zjb];refine Nat.div_lt_of_lt_mul (Nat.lt_of_lt_of_eq (UInt64.toNat_lt _) ?_);rw[←K7,(J:p.over+(64-p.over)=64)]
   ·have Y:pl j.m p.b H=pl s.m p.b H:=E.pl Z J;rw[Ot,Q6,Q6,Q9];simp[M3,Ot,Si,d2,U,V,X,A,Y,-UInt64.toNat_or,-UInt64.toNat_ofNat',-UInt64.ofNat_mul];rw[Vb (g:=pl j.m p.es) λi hi=>by rw[Q9,Hv J];rfl,zjb,I0];exact t9 I hq
  ·refine .op (zof J C) (.nil ⟨λz F B=>by rw[Si,G z F B],E.trans (V6 Ay),?_⟩);rw[Q6,Q9,H7 rfl,Vb (g:=pl j.m p.es) λi hi=>by rw[Q9,Hv J],Jq (vl (pl s.m p.b) p.b.k),←I,Jq (18446744073709551616^p.b.k)]
def o0(B:PwS sz p){D:Nat}(O:D<8)(C:s.r p.B=0)(K:(s.r (p.B+1)).toNat<9223372036854775808) :
  Tx sz (p.shift D) s λg=>(∀j,¬(p.B+1≤j∧j≤p.B+4)→j≠D→g.r j=s.r j)∧Nl p.es s.m g.m∧∃O7:Nat,O7≤1∧(g.r (p.B+1)).toNat=2*(s.r (p.B+1)).toNat+O7∧vl (pl g.m p.es) (p.b.k+1)+18446744073709551616^(p.b.k+1)*O7=2*vl (pl s.m p.es) (p.b.k+1):=by
 have P:=B.B.1;have z:p.es.in_ sz:=X6 B rfl Ay;have e:p.shift D=(M5 [Qj ((p.B+2:Nat):Int) (p.B:Nat)]).cat ((Yh p.es.p ((p.b.k+1:Nat):Int) ((p.B+3:Nat):Int) ((p.B+4:Nat):Int) ((p.B+2:Nat):Int) (D:Nat)).cat (M5 [Qt 8 ((p.B+1:Nat):Int) ((p.B+1:Nat):Int) ((1:Nat):Int),M1 6 ((p.B+1:Nat):Int) ((p.B+1:Nat):Int) ((p.B+2:Nat):Int)])):=rfl;rw[e];refine .op zmb ?_;rw[Yf];refine (sh_ex (p:=p.es) (n:=p.b.k+1) (l:=p.B+3) (o:=p.B+4) (b:=p.B+2) (D:=D) z Ei J (by rw[M3,H7 rfl,C];decide)).cat λE ⟨F,G,H,I⟩=>?_
 rw[M3,H7 rfl,C,Ot]at I;rw[Ot]at G;have A:E.r (p.B+1)=s.r (p.B+1):=by rw[F _ J J J J,M3,Hv J]
 refine .op (ztj J) (.op zym (.nil ⟨λj Q L=>?_,G,(E.r (p.B+2)).toNat,H,?_,?_⟩))
 ·rw[M3,Hv J,M3,Hv J,F j J J J L,M3,Hv J]
 ·have M:¬p.B+2=p.B+1:=J
  simp only[M3,Jl,Hv M,A];rw[m9 H];omega
 ·rw[Ot,Ot];simpa using I
end pieces
end ex
end
section
set_option linter.unusedSimpArgs false
def zi0{c:Cf}{x:Nat}(j:¬Qv c x)(z:¬(c.pa≤x∧x≤c.pb)):∀{f:Fr Lo} {lev:Int},0≤lev→f.AllH c lev→((x:Int)<lev∨c.hi<x)→f.noW x=true
 |.nil,_,_,_,_=>rfl
 |.op o r,lev,B,h,C=>by
  obtain⟨F,h⟩:=h;have A:=zi0 j z B h C;simp only[Fr.noW,Hw,Jd,I3];rcases F.m with ⟨m1,g,_⟩|⟨_,m1,g,_⟩
  ·refine⟨λq=>?_,λq=>?_,A⟩
   ·rw[q]at m1;rcases m1 with m1|m1
    ·omega
    ·exact j m1
   ·rw[q]at g;rcases g with g|g
    ·omega
    ·exact j g
  ·exact⟨λq=>z J,λq=>J,A⟩
 |.loop o b e r,lev,B,h,C=>by
  obtain⟨⟨G,H,_⟩,k,_,E,h⟩:=h;have A:=zi0 j z B h C;have D:=zi0 j z (lev:=lev+1) J E J;simp only[Fr.noW,Hw,Jd,I3];exact⟨J,D,A⟩
def zd(j:g%2=1)(m:Nat):2^m*((g+1)/2)^m%g=1%g:=by
 rw[←Nat.mul_pow,(J:2*((g+1)/2)=g+1),Nat.pow_mod,Nat.add_mod_left,←Nat.pow_mod,Nat.one_pow]
def zmm{x y:Nat}(hi:g*A%j=1%j):(x*g%j)*(y*g%j)*A%j=x*y*g%j:=by
 have z:((x*g%j)*(y*g%j))%j=(x*g*(y*g))%j:=(Jr _ _ _).symm;rw[Jr,z,←Jr,(Eg:x*g*(y*g)*A=x*y*g*(g*A)),Jr,hi,←Jr,Kq]
def ow{x:Nat}(hi:g*A%j=1%j):(x*g%j)*1*A%j=x%j:=by
 rw[Kq,Jr,Nat.mod_mod,←Jr,Kd,Jr,hi,←Jr,Kq]
def y8{a:Nat}(hi:g*A%j=1%j):a*(g*g%j)*A%j=a*g%j:=by
 have z:(a*(g*g%j))%j=(a*(g*g))%j:=by rw[Jr,Nat.mod_mod,←Jr]
 rw[Jr,z,←Jr,(Eg:a*(g*g)*A=a*g*(g*A)),Jr,hi,←Jr,Kq]
def zwu(x y:UInt64):(subC 0 (x ^^^ y) false).2=decide (x≠y):=by
 have h:=zcw 0 (x ^^^ y) false;have z:=(subC 0 (x ^^^ y) false).1.toNat_lt;by_cases e:x=y
 ·subst e;have j:x ^^^ x=0:=UInt64.xor_self;rw[j]at h z ⊢;generalize subC 0 0 false=r at *;cases g:r.2
  ·simp
  ·rw[g]at h;simp at h;omega
 ·have j:(x ^^^ y).toNat≠0:=λq=>by
   have:x ^^^ y=0:=I8.1 q;exact e (UInt64.xor_eq_zero_iff.1 this)
  generalize subC 0 (x ^^^ y) false=r at *;have A:(0:UInt64).toNat=0:=rfl;cases g:r.2
  ·rw[g,A]at h;simp only[Bool.toNat_false]at h;omega
  ·simp[e]
section ex
variable {sz : Nat → Nat} {s : Fs} {p : Pw}
def ii(m:Nat→Nat→UInt64)(p:Pw)(e g:Nat):pl m p.tab (e*p.k+g)=pl m (p.en e) g:=by
 unfold pl Pw.tab Pw.en;dsimp only;rw[Ke (p.wa+4*p.k+p.b.k+3)]
def zfk(g:PwS sz p){E:Nat}(hE:E+1<8){d a b:Pn}(hd:d.in_ sz)(H:a.in_ sz)(I:b.in_ sz)(kd:d.k=p.k)(ka:a.k=p.k)(kb:b.k=p.k)(P:DjE d p.n)(Q:Dj d p.t)(T:Dj p.t a)(U:Dj p.t b) :
  Tx sz (p.mont d a b E) s λj=>(∀B,¬(p.B+10≤B∧B≤p.B+20)→B≠E→B≠E+1→j.r B=s.r B) ∧
   (pl s.m p.n 0%2=1→vl (pl s.m a) p.k<vl (pl s.m p.n) p.k→Fm [d,p.t] s.m j.m∧∀z,18446744073709551616^p.k*z%vl (pl s.m p.n) p.k=1%vl (pl s.m p.n) p.k→vl (pl j.m d) p.k=vl (pl s.m a) p.k*vl (pl s.m b) p.k*z%vl (pl s.m p.n) p.k):=by
 obtain⟨k,K⟩:∃k,p.k=k+1:=⟨p.k-1,by have:=g.k;omega⟩;have hB:=g.B;have C:p.t.in_ sz:=X6 g rfl (by have:=zgb p;simp only[Pw.t];omega);have tk:p.t.k=k+3:=Fh
 have V:Dj p.t p.n:=.inl g.nb.symm;have X:=g.nk;have e:p.mont d a b E=Wh d.p a.p b.p p.n.p p.t.p (k+1:Nat) ((p.B+10:Nat):Int) (E:Nat):=by unfold Pw.mont;rw[K];rfl
 rw[e];by_cases F:pl s.m p.n 0%2=1∧vl (pl s.m a) p.k<vl (pl s.m p.n) p.k
 ·rw[K]at F ⊢;refine (us (k:=k) J hd H I g.n C J J J J J P Q T U V F.1 F.2).mono λj ⟨Y,Z,l1,gz,Q',v1⟩=>⟨λB G L M=>Y B J L M,λ_ _=>⟨λx y O=>Z x y (O d N) (O p.t N),λz hi=>?_⟩⟩
  exact ma hi v1 l1
 ·have gg:=g.wk;have hz:p.t.k≤65536:=by have:=C.1;have:=C.2;omega
  have A:(Wh d.p a.p b.p p.n.p p.t.p (k+1:Nat) ((p.B+10:Nat):Int) (E:Nat)).AllH ⟨d.b+a.b+b.b+p.n.b+p.wb+1,(p.B:Int)+10,11,E,E+1,8,7,λ_=>True,λ_=>True⟩ E :=
   zrc Gw ⟨Ar,trivial⟩ ⟨Ar,trivial⟩ ⟨Ar,trivial⟩ ⟨Ar,trivial⟩ ⟨by dsimp only[Pw.t];omega,trivial⟩ ⟨by dsimp only[Pw.t];omega,trivial⟩ J J Gw
  obtain⟨j,G,_⟩:=zfm _ (λ_=>none) s (cn (R:=p.B+10) (D:=E) (k:=k) J J hd H I g.n C J J J J J J) (λ_ _ _ h=>Ai) (λ_ _ h=>Ai);refine⟨j,G,λB L M h4=>zyu _ s j (zi0 ?_ ?_ J A ?_) G,λq1 q2=>absurd ⟨q1,q2⟩ F⟩
  ·unfold Qv;dsimp only;omega
  ·dsimp only;omega
  ·dsimp only;omega
def oq(P:PwS sz p){E e:Nat}(hE:E<8)(he:e<2^p.w)(D:(s.r 12).toNat=e*p.k) :
  Tx sz ((Og (E:Nat) (p.k:Nat) (M5 [M9 (p.B+3) p.acc.p (E:Nat) 0,M1 3 13 12 (E:Nat),Nd p.tab.p 13 0 (p.B+3)])).cat (M5 [cK 13 (iU p.k),M1 3 12 12 13])) s λK =>
   (∀A,A≠p.B+3→A≠12→A≠13→A≠E→K.r A=s.r A)∧Nl (p.en e) s.m K.m∧(K.r 12).toNat=(e+1)*p.k∧∀C,C<p.k→pl K.m (p.en e) C=pl s.m p.acc C:=by
 have hB:=P.B;have gg:=zsw he;have F:p.acc.in_ sz:=X6 P rfl (by have:=zgb p;simp only[Pw.acc];omega);have G:p.tab.in_ sz:=X6 P rfl Es;have gz:p.acc.a+p.k≤sz p.acc.b:=F.1;have gA:p.tab.a+p.k*2^p.w≤sz p.tab.b:=G.1;have Q:=F.2;have T:=G.2;have dj:Dj (p.en e) p.acc:=.inr (.inr (by simp only[Pw.en,Pw.acc];omega));have e1:(Og (E:Nat) (p.k:Nat) (M5 [M9 (p.B+3) p.acc.p (E:Nat) 0,M1 3 13 12 (E:Nat),Nd p.tab.p 13 0 (p.B+3)]))=Og (E:Nat) (p.k:Nat) (M5 [M9 ((p.B+3:Nat):Int) p.acc.p (E:Nat) ((0:Nat):Int),M1 3 ((13:Nat):Int) ((12:Nat):Int) (E:Nat),Nd p.tab.p ((13:Nat):Int) ((0:Nat):Int) ((p.B+3:Nat):Int)]):=rfl;rw[e1];refine .cat (R:=λj=>(∀A,A≠p.B+3→A≠13→A≠E→j.r A=s.r A)∧Nl (p.en e) s.m j.m∧∀i,i<p.k→pl j.m (p.en e) i=pl s.m p.acc i) ?_ λj ⟨H,L,U⟩=>?_
 ·refine .lp (λC j=>(∀A,A≠p.B+3→A≠13→A≠E→j.r A=s.r A)∧Nl (p.en e) s.m j.m∧∀i,i<C→pl j.m (p.en e) i=pl s.m p.acc i) ⟨λ_ _ _ _=>rfl,λ_ _ _=>rfl,λ_ h=>absurd h J⟩ J (λC j hj ⟨H,L,U⟩=>?_) λ_ h=>h
  have B:(UInt64.ofNat C).toNat=C:=br J;have V:¬E=p.B+3:=J
  have X:¬12=p.B+3:=J
  have Y:¬12=E:=J
  have n4:¬p.B+3=13:=J
  have n5:¬E=13:=J
  have g:j.r 12=s.r 12:=H 12 J J J;have z:(s.r 12+UInt64.ofNat C).toNat=e*p.k+C:=by
   rw[Jh,D,B,Iy J]
  have Z:pl j.m p.acc C=pl s.m p.acc C:=L.pl dj hj;refine .op (W9 (by simp only[M3,Jl,B];omega) Q) (.op zdr (.op (om (by simp only[M3,Jl,Hv V,Hv X,Hv Y,g,z];omega) T) (.nil ⟨λA M O I=>?_,?_,λi hi=>?_⟩)))
  ·rw[Si,M3,Hv O,M3,Hv M,M3,Hv I,H A M O I]
  ·refine L.trans λx y hn=>?_
   simp only[M3,Ot,Jl,Hv V,Hv X,Hv Y,g,z,Zz,Ix];rw[Hv];rintro⟨q1,q2⟩;exact hn ⟨by rw[q1];rfl,Gh,Gh⟩
  ·rw[←ii,Q9];simp only[M3,Ot,Jl,Hv V,Hv X,Hv Y,Hv n4,g,z,B,Ix];split
   ·rename_i q;have:i=C:=J
    rw[this];exact Z
   ·rw[ii];exact U i J
 ·have gB:iU (p.k:Int)=UInt64.ofNat p.k:=by
   apply I8.1;rw[Vv J,br J]
  have e2:[cK 13 (iU p.k),M1 3 12 12 13]=[cK ((13:Nat):Int) (iU p.k),M1 3 ((12:Nat):Int) ((12:Nat):Int) ((13:Nat):Int)]:=rfl;rw[e2];refine .op Vt (.op zdr (.nil ⟨λA M O I h4=>?_,L,?_,U⟩))
  ·rw[M3,Hv O,M3,Hv I,H A M I h4]
  ·have g:j.r 12=s.r 12:=H 12 J J J;simp only[M3,Jl,(J:¬(12:Nat)=13),La];rw[g,Jh,D,Vv J,Iv,J5,Iy J]
def tg(Z:PwS sz p){D:Nat}(hD:D+1<8)(hz:s.r p.B=0) :
  Tx sz (p.scan D) s λs'=>(∀j,¬(p.B+3≤j∧j≤p.B+6)→j≠12→j≠13→j≠D→j≠D+1→s'.r j=s.r j)∧Nl p.cur s.m s'.m ∧
   ((s.r (p.B+1)).toNat<2^p.w→∀E,E<p.k→pl s'.m p.cur E=pl s.m (p.en (s.r (p.B+1)).toNat) E):=by
 have hB:=Z.B;have gA:=fk Z.w.2;have Q:p.cur.in_ sz:=X6 Z rfl (by have:=zgb p;simp only[Pw.cur];omega);have T:p.tab.in_ sz:=X6 Z rfl Es;have gB:p.cur.a+p.k≤sz p.cur.b:=Q.1;have gC:p.tab.a+p.k*2^p.w≤sz p.tab.b:=T.1;have U:=Q.2;have gg:=T.2;have gD:=zgb p;obtain⟨z,L⟩:∃z,(s.r (p.B+1)).toNat=z:=⟨_,rfl⟩;have e:p.scan D=(M5 [cK ((12:Nat):Int) 0]).cat (Og (D:Nat) (2^p.w:Nat) ((M5 [M1 7 ((p.B+5:Nat):Int) ((p.B+1:Nat):Int) (D:Nat),Ni 12 ((p.B+4:Nat):Int) ((p.B+5:Nat):Int) (p.B:Nat) ((p.B+5:Nat):Int) (p.B:Nat)]).cat ((Og ((D+1:Nat):Int) (p.k:Nat) (M5 [M1 3 ((13:Nat):Int) ((12:Nat):Int) ((D+1:Nat):Int),M9 ((p.B+3:Nat):Int) p.tab.p ((13:Nat):Int) ((0:Nat):Int),M9 ((p.B+6:Nat):Int) p.cur.p ((D+1:Nat):Int) ((0:Nat):Int),Ns ((p.B+3:Nat):Int) ((p.B+5:Nat):Int) ((p.B+6:Nat):Int) ((p.B+3:Nat):Int),Nd p.cur.p ((D+1:Nat):Int) ((0:Nat):Int) ((p.B+3:Nat):Int)])).cat (M5 [cK ((13:Nat):Int) (iU p.k),M1 3 ((12:Nat):Int) ((12:Nat):Int) ((13:Nat):Int)])))):=rfl;rw[e,L];refine .op Vt ?_;rw[Yf];refine .lp (λf g=>(∀j,¬(p.B+3≤j∧j≤p.B+6)→j≠12→j≠13→j≠D→j≠D+1→g.r j=s.r j)∧Nl p.cur s.m g.m∧(g.r 12).toNat=f*p.k∧(z<f→∀E,E<p.k→pl g.m p.cur E=pl s.m (p.en z) E)) ⟨λj _ F _ _ _=>by rw[M3,Hv F],λ_ _ _=>rfl,by rw[M3,H7 rfl];simp,λh=>absurd h J⟩ J (λf g hf ⟨g1,o1,r1,v1⟩=>?_) λg ⟨a,b,_,d⟩=>⟨a,b,d⟩
 have gE:=zsw (p:=p) hf;have V:(UInt64.ofNat f).toNat=f:=br J;have dj:Dj p.cur (p.en f):=.inr (.inl (by simp only[Pw.en,Pw.cur];omega));refine .op Zs (.op zkc ?_);rw[Yf];have b0:¬p.B=p.B+5:=J
 have b1:¬p.B=D:=J
 have b2:¬p.B+1=D:=J
 have b3:¬p.B+5=p.B+4:=J
 have z1:g.r p.B=0:=by rw[g1 p.B J J J J J,hz]
 have d1:g.r (p.B+1)=s.r (p.B+1):=g1 _ J J J J J;obtain⟨H,B⟩:∃H,H=((((g.put D (UInt64.ofNat f)).put (p.B+5) ((g.put D (UInt64.ofNat f)).r (p.B+1) ^^^ (g.put D (UInt64.ofNat f)).r D)).put (p.B+4) (subC (((g.put D (UInt64.ofNat f)).put (p.B+5) ((g.put D (UInt64.ofNat f)).r (p.B+1) ^^^ (g.put D (UInt64.ofNat f)).r D)).r p.B) (((g.put D (UInt64.ofNat f)).put (p.B+5) ((g.put D (UInt64.ofNat f)).r (p.B+1) ^^^ (g.put D (UInt64.ofNat f)).r D)).r (p.B+5)) (decide (((g.put D (UInt64.ofNat f)).put (p.B+5) ((g.put D (UInt64.ofNat f)).r (p.B+1) ^^^ (g.put D (UInt64.ofNat f)).r D)).r p.B%2=1))).1).put (p.B+5) (Nv (subC (((g.put D (UInt64.ofNat f)).put (p.B+5) ((g.put D (UInt64.ofNat f)).r (p.B+1) ^^^ (g.put D (UInt64.ofNat f)).r D)).r p.B) (((g.put D (UInt64.ofNat f)).put (p.B+5) ((g.put D (UInt64.ofNat f)).r (p.B+1) ^^^ (g.put D (UInt64.ofNat f)).r D)).r (p.B+5)) (decide (((g.put D (UInt64.ofNat f)).put (p.B+5) ((g.put D (UInt64.ofNat f)).r (p.B+1) ^^^ (g.put D (UInt64.ofNat f)).r D)).r p.B%2=1))).2)):=⟨_,rfl⟩;rw[←B];have m2:H.m=g.m:=by rw[B];rfl
 have g2:∀j,j≠p.B+4→j≠p.B+5→j≠D→H.r j=g.r j:=λj P F I=>by rw[B];simp only[M3,Hv P,Hv F,Hv I]
 have u2:H.r (p.B+5)=Nv (decide (z≠f)):=by
  rw[B];simp only[M3,Jl,Hv b0,Hv b1,Hv b2,z1,d1];rw[(Ac:decide ((0:UInt64)%2=1)=false),zwu]
  congr 1
  refine decide_eq_decide.2 (not_congr ⟨λq=>?_,λq=>?_⟩)
  ·rw[←L,q,V]
  ·exact I8.1 (by rw[L,V,q])
 clear B;refine .cat (R:=λA=>(∀j,¬(p.B+3≤j∧j≤p.B+6)→j≠13→j≠D+1→A.r j=H.r j)∧Nl p.cur s.m A.m∧∀i,i<p.k→pl A.m p.cur i=if z=f then pl s.m (p.en z) i else pl g.m p.cur i) ?_ λA ⟨X,o3,v3⟩=>?_
 ·refine .lp (λE A=>(∀j,¬(p.B+3≤j∧j≤p.B+6)→j≠13→j≠D+1→A.r j=H.r j)∧A.r (p.B+5)=H.r (p.B+5)∧Nl p.cur s.m A.m∧∀i,i<p.k→pl A.m p.cur i=if z=f∧i<E then pl s.m (p.en z) i else pl g.m p.cur i) ⟨λ_ _ _ _=>rfl,rfl,λx y hn=>by rw[m2,o1 x y hn],λi _=>by rw[m2,Hv J]⟩ J (λE A Y ⟨X,u3,o3,v3⟩=>?_) λA ⟨a,_,b,d⟩=>⟨a,b,λi hi=>by rw[d i hi];by_cases q:z=f<;>simp[q,hi]⟩
  have C:(UInt64.ofNat E).toNat=E:=br J;have n1:¬12=D+1:=J
  have n2:¬D+1=13:=J
  have n3:¬13=p.B+3:=J
  have n4:¬D+1=p.B+3:=J
  have n5:¬D+1=p.B+6:=J
  have n6:¬p.B+5=p.B+6:=J
  have n7:¬p.B+5=p.B+3:=J
  have n8:¬p.B+5=13:=J
  have n9:¬p.B+5=D+1:=J
  have gz:¬p.B+3=p.B+6:=J
  have G:A.r 12=g.r 12:=by rw[X 12 J J J,g2 12 J J J]
  have K:(g.r 12+UInt64.ofNat E).toNat=f*p.k+E:=by
   rw[Jh,r1,C,Iy J]
  refine .op zdr (.op (W9 (by simp only[M3,Jl,Hv n1,G,K];omega) gg) (.op (W9 (by simp only[M3,Jl,Hv n2,Hv n4,C];omega) U) (.op znk (.op (om (by simp only[M3,Jl,Hv n2,Hv n4,Hv n5,C];omega) U) (.nil ⟨λj P F I=>?_,?_,?_,λi hi=>?_⟩)))))
  ·rw[Si,M3,Hv J,M3,Hv J,M3,Hv J,M3,Hv F,M3,Hv I,X j P F I]
  ·simp only[Si,M3,Hv n6,Hv n7,Hv n8,Hv n9];exact u3
  ·refine o3.trans (zq3 rfl ?_);simp only[M3,Jl,Hv n2,Hv n4,Hv n5,C,Pw.cur];omega
  ·rw[Q9];simp only[M3,Ot,Jl,Hv n1,Hv n2,Hv n4,Hv n5,Hv n6,Hv n7,Hv n8,Hv n9,Hv gz,G,K,C,Ix,u3,u2];by_cases q:i=E
   ·rw[H7 q,q];have hb:=pu (decide (z≠f));by_cases M:z=f
    ·have O:¬Nv (decide (z≠f))%2=1:=by simp[M,Nv]
     rw[Hv O,H7 ⟨M,J⟩,ii,o3.pl dj Y,M]
    ·have O:Nv (decide (z≠f))%2=1:=by simp[M,Nv]
     rw[H7 O,Hv J,v3 E Y,Hv J]
   ·rw[Hv q,v3 i hi];by_cases M:z=f∧i<E
    ·rw[H7 M,H7 J]
    ·rw[Hv M,Hv J]
 ·refine .op Vt (.op zdr (.nil ⟨λj P F I h4 h5=>?_,o3,?_,λgF E Y=>?_⟩))
  ·rw[M3,Hv F,M3,Hv I,X j P I h5,g2 j J J h4,g1 j P F I h4 h5]
  ·have G:A.r 12=g.r 12:=by rw[X 12 J J J,g2 12 J J J]
   simp only[M3,Jl,(J:¬(12:Nat)=13),La];rw[G,Jh,r1,Vv J,Iv,J5,Iy J]
  ·rw[Ot,Ot,v3 E Y];split
   ·rfl
   ·exact v1 J E Y
end ex
end
end Go.Sv
