/- Texts of the evaluator, of the logic over it, of plain arithmetic. -/
import Derived.Test.YtodjkjimaheggaaGreatSvG2
set_option linter.unusedSimpArgs false
set_option linter.defProp false
namespace Go.Sv
variable{g j A E R vV vH uZ:Nat}{z C:Int}{Q:Bool}{V vF:UInt64}{vU:Type}{vP:List Int}{vD:List Nat}
def zt9{j:Type}{f:j→List LV}{k:Nat}(g:∀a,(f a).length=k):∀l:List j,(l.flatMap f).length=l.length*k
 |[]=>N
 |a::l=>by rw[Kd,H4,zt9 g l,g,Ig,Im];omega
def zxv{j:Type}{f:j→List LV}{k:Nat}(g:∀a,(f a).length=k):∀(l:List j) (i:Nat),(l.flatMap f).drop (i*k)=(l.drop i).flatMap f
 |_,0=>N
 |[],i+1=>N
 |a::l,i+1=>by
  rw[Kd,List.drop_append,g,show (i+1)*k-k=i*k by rw[Im];omega,zxv g l i];rw[Jk (by rw[g,Im];omega)];rfl
def zl{f:vU→List LV}{k:Nat}(g:∀a,(f a).length=k){l:List vU}{i:Nat}{a:vU}(h:l[i]?=some a):((l.flatMap f).drop (i*k)).take k=f a:=by
 rw[zxv g];obtain⟨hi,rfl⟩:=Hm.1 h;rw[Jb hi,Kd,Lz A6,H7 A6]
def zrn{f:vU→List LV}{k:Nat}(g:∀a,(f a).length=k){l:List vU}{i:Nat}{a:vU}(h:l[i]?=some a){j:Nat}(z:j<k):(l.flatMap f)[i*k+j]?=(f a)[j]?:=by
 rw[←Mi,←zl g h,Jc z]
def s9{j:Type}{f:j→List LV}(g:∀a,dats (f a)=true):∀l:List j,dats (l.flatMap f)=true
 |[]=>rfl
 |a::l=>by rw[Kd];exact dats_app (g a) (s9 g l)
def zrd{f:vU→List LV}{k:Nat}(g:∀a,(f a).length=k){l:List vU}{i:Nat}(h:i<l.length):i*k+k≤(l.flatMap f).length:=by
 rw[zt9 g,←Ll];exact H8 _ h
structure Vr where
 limbs:Int
 sec:Bool
 mode:Int
structure Ko where
 kind:Int
 d:Int
 e:Int
 a:Int
 b:Int
 c:Int
 imm:UInt64
def Vr.f(v:Vr):List LV:=[.i v.limbs,.bool v.sec,.i v.mode]
def Ko.f(o:Ko):List LV:=[.i o.kind,.i o.d,.i o.e,.i o.a,.i o.b,.i o.c,.u o.imm]
def Nd(l:List Vr):List LV:=l.flatMap Vr.f
def Tf(l:List Ko):List LV:=l.flatMap Ko.f
def Vr.f_len(v:Vr):v.f.length=3:=rfl
def Ko.f_len(o:Ko):o.f.length=7:=rfl
def rq(l:List Ko):(Tf l).length=l.length*7:=zt9 Ko.f_len l
def Qo(l:List Vr):dats (Nd l)=true:=s9 (λ_=>rfl) l
def zbc(l:List Ko):dats (Tf l)=true:=s9 (λ_=>rfl) l
def zbb{l:List Vr}{i:Nat}{v:Vr}(h:l[i]?=some v):((Nd l).drop (i*3)).take 3=v.f:=zl Vr.f_len h
def zt6{l:List Ko}{i:Nat}{v:Ko}(h:l[i]?=some v):((Tf l).drop (i*7)).take 7=v.f:=zl Ko.f_len h
def ng{l:List Vr}{i:Nat}{v:Vr}(h:l[i]?=some v):(Nd l)[i*3]?=some (.i v.limbs):=by have:=zrn Vr.f_len h (j:=0) J;simpa [Nd,Vr.f] using this
def zu{l:List Vr}{i:Nat}{v:Vr}(h:l[i]?=some v):(Nd l)[i*3+1]?=some (.bool v.sec):=by have:=zrn Vr.f_len h (j:=1) J;simpa [Nd,Vr.f] using this
def fo{l:List Vr}{i:Nat}{v:Vr}(h:l[i]?=some v):(Nd l)[i*3+2]?=some (.i v.mode):=by have:=zrn Vr.f_len h (j:=2) J;simpa [Nd,Vr.f] using this
def ae{l:List Vr}{i:Nat}(h:i<l.length):i*3+3≤(Nd l).length:=zrd Vr.f_len h
def yb{l:List Ko}{i:Nat}(h:i<l.length):i*7+7≤(Tf l).length:=zrd Ko.f_len h
def gv(l:List Vr)(n:Nat):Vr:=l.getD n ⟨0,false,0⟩
def go(l:List Ko)(n:Nat):Ko:=l.getD n ⟨0,0,0,0,0,0,0⟩
def gb(l:List Bool)(n:Nat):Bool:=l.getD n false
def Sr{l:List Vr}{n:Nat}(h:n<l.length):l[n]?=some (gv l n):=by simp[gv,Hn,h]
def zyj{l:List Ko}{n:Nat}(h:n<l.length):l[n]?=some (go l n):=by simp[go,Hn,h]
def wj{l:List Bool}{n:Nat}(h:n<l.length):l[n]?=some (gb l n):=by simp[gb,Hn,h]
def zmw{l:List Vr}{n:Nat}(h:n<l.length):l.drop n=gv l n::l.drop (n+1):=by
 rw[Jb h];congr 1;have:=Sr h;rw[Ht h]at this;exact Option.some.inj this
def oj{l:List Ko}{n:Nat}(h:n<l.length):l.drop n=go l n::l.drop (n+1):=by
 rw[Jb h];congr 1;have:=zyj h;rw[Ht h]at this;exact Option.some.inj this
def Q2(v:Vr):Bool:=decide (v.mode=1) || decide (v.mode=2)
def Ub(v:Vr):Bool:=decide (v.limbs<1) || (decide (512<v.limbs) || (decide (v.mode<0) || decide (3<v.mode)))
def Q0:Nat→Nat→List Vr→Option Nat
 |_,p,[]=>some p
 |i,p,v::l=>if Ub v=true then none else if v.mode=0 then Q0 (i+1) p l else if p<i∨v.sec=decide (v.mode=1) then none else Q0 (i+1) (p+1) l
def P3(l:List Vr):Bool:=match Q0 0 0 l with
 |none=>false
 |some p=>decide (1≤l.length)&&(decide (l.length≤256)&&decide (p≤12))
def Qq(n:Nat)(v:Int):Bool:=decide (0≤v)&&decide (v<n)
def Rd(n:Nat)(o:Ko):Bool :=
 decide (o.d=-1)&&(decide (o.e=-1)&&(decide (o.c=-1)&&(Qq n o.a&&(if o.imm=2 then Qq n o.b else (decide (o.imm=1) || decide (o.imm=3))&&decide (o.b=-1)))))
def O0(k:Int):Option Nat :=
 if k=1 then some 1 else if k=2 then some 5 else if k=3∨k=4∨k=5∨k=6∨k=7 then some 13 else if k=8∨k=10∨k=11∨k=12∨k=13 then some 29 else if k=9 then some 21 else if k=14 then some 19 else if k=15∨k=16 then some 0 else none
def Qv(o:Ko):Bool:=if o.kind=1 then true else if o.kind=13 then decide (1≤o.imm)&&decide (o.imm≤6) else if o.kind=15 then decide (1≤o.imm)&&decide (o.imm≤4096) else decide (o.imm=0)
def Qp(n s i:Nat)(v:Int):Bool:=if s.testBit i=true then Qq n v else decide (v=-1)
def Su(n s:Nat)(o:Ko):Bool:=Qp n s 0 o.d&&(Qp n s 1 o.e&&(Qp n s 2 o.a&&(Qp n s 3 o.b&&Qp n s 4 o.c)))
def Sn(o:Ko):List Int:=[o.a,o.b,o.c].filter (λv=>!decide (v<0))++if o.kind=14 then [o.d,o.e] else []
def N8(g:List Vr)(o:Ko):Bool:=(Sn o).any λv=>(gv g v.toNat).sec
def Rf(j:List Vr)(g:Bool)(v:Int):Bool:=decide (v<0) || !(Q2 (gv j v.toNat) || (g && !(gv j v.toNat).sec))
def Pt(o:Ko):List Int :=
 if o.kind=6 then [o.a,o.b] else if o.kind=14 then [o.d,o.e] else if o.kind=8 then [o.d,o.a,o.b] else if o.kind=9 then [o.d,o.c] else if o.kind=10∨o.kind=11∨o.kind=12 then [o.d,o.a,o.b,o.c] else if o.kind=13 then [o.d,o.a,o.c] else []
def O5(vs:List Vr)(v:Int):Int:=(gv vs v.toNat).limbs
def je(g:List Vr)(o:Ko):Bool:=(Pt o).all λv=>decide (O5 g v=O5 g ((Pt o).headD 0))
def Nf(g:List Vr)(o:Ko):Bool :=
 if o.kind=17 then Rd g.length o else match O0 o.kind with
 |none=>false
 |some s=>Qv o&&(Su g.length s o&&(Rf g (N8 g o) o.d&&(Rf g (N8 g o) o.e&&((decide (o.e<0) || !decide (o.d=o.e))&&je g o))))
def dl(k:Int):Int:=if k=15 then 1 else if k=16 then -1 else 0
def W4(m:List Bool)(o:Ko):List Bool:=if 0≤o.d then m.set o.d.toNat true else m
def wn(m:List Bool)(o:Ko):Bool:=(Sn o).all λv=>gb m v.toNat
def Tu(j:List Vr):List Bool→Int→List Ko→Option (List Bool×Int)
 |m,g,[]=>some (m,g)
 |m,g,o::l=>if (Nf j o&&(wn m o&&(decide (0≤g+dl o.kind)&&decide (g+dl o.kind≤4))))=true then Tu j (W4 m o) (g+dl o.kind) l else none
def Tj(g:List Vr)(v:Int):Bool:=decide (0≤v)&&decide ((gv g v.toNat).mode=3)
def Sc(g:List Vr)(o:Ko):Bool:=decide (o.kind=17)&&(Rd g.length o&&(!Tj g o.a && !Tj g o.b))
def np(g:List Vr)(m:List Bool):Bool:=(List.range g.length).all λi=>!decide ((gv g i).mode=3) || gb m i
def Y0(g:List Vr):List Bool:=g.map Q2
def Rv(g:List Vr)(j z:List Ko):Bool :=
 P3 g&&(decide (j.length≤4096)&&(decide (z.length≤4096)&&(z.all (Sc g)&&(match Tu g (Y0 g) 0 j with
  |none=>false
  |some (m,A)=>np g m&&decide (A=0)))))
def Tq(g:List Vr)(j z:List Ko):Int:=if Rv g j z=true then 0 else 2
def zpj{p:Int→Bool}{l:List Int}{j:Nat}(h:j<l.length):(l.take (j+1)).filter (λv=>!p v)=(l.take j).filter (λv=>!p v)++if p (gd l j)=true then [] else [gd l j]:=by
 have e:l[j]=gd l j:=by simp[gd,Hn,h]
 rw[I0 h,List.filter_append,e]
 congr 1
 cases g:p (gd l j)<;>simp[g]
def Zy(p:Int→Bool)(l:List Int):(ac p l=-1∧l.filter (λv=>!p v)=l)∨∃i:Nat,ac p l=i∧i<l.length∧(l.take (i+1)).filter (λv=>!p v)=l.take i:=by
 unfold ac;by_cases h:l.findIdx p<l.length
 ·rw[Hv h];refine .inr ⟨_,rfl,h,?_⟩;have j:p l[l.findIdx p]=true:=List.findIdx_getElem;have e:l[l.findIdx p]=gd l (l.findIdx p):=by simp[gd,Hn,h]
  rw[zpj h,←e,Hv j,I9,List.filter_eq_self];intro a g;obtain⟨B,z,rfl⟩:=Js.1 g;rw[List.getElem_take];rw[Jp]at z;have:=List.not_of_lt_findIdx (p:=p) (xs:=l) (i:=B) J;simpa using this
 ·rw[Hs h];refine .inl ⟨rfl,?_⟩;rw[List.filter_eq_self];intro a g;have A:=List.findIdx_eq_length.1 (Cv:l.findIdx p=l.length);simp[A a g]
def zsn{c:List Int}{i j:Nat}{x:Int}(h:i<c.length)(g:i<j)(u:Nat)(hu:j≤u):gd (c.set i x) u=gd c u:=by
 rw[gd_set _ _ _ _ h,Hs J]
def znb{c:List Int}{i:Nat}{x:Int}(h:i<c.length):(c.set i x).take (i+1)=c.take i++[x]:=by
 rw[I0 Av,List.getElem_set_self,List.take_set_of_le (Hw _)]
def af{n:Nat}{v:Int}:Qq n v=true↔0≤v∧v<n:=by simp[Qq]
def zao{n s i:Nat}{v:Int}(h:Qp n s i v=true):v=-1∨(0≤v∧v<n):=by
 unfold Qp at h;split at h
 ·exact .inr (af.1 h)
 ·exact .inl (J4 h)
def Sq{n s i:Nat}{v:Int}(h:Qp n s i v=true)(g:s.testBit i=true):0≤v∧v<n:=by
 rw[Qp,Hv g]at h;exact af.1 h
def zja{n s i:Nat}{v:Int}(h:Qp n s i v=true)(g:s.testBit i=false):v=-1:=by
 rw[Qp,Hs At]at h;exact J4 h
def zcx{k:Int}{s:Nat}(h:O0 k=some s):(k=1∧s=1)∨(k=2∧s=5)∨((k=3∨k=4∨k=5∨k=6∨k=7)∧s=13)∨((k=8∨k=10∨k=11∨k=12∨k=13)∧s=29)∨(k=9∧s=21)∨(k=14∧s=19)∨((k=15∨k=16)∧s=0):=by
 unfold O0 at h
 repeat' split at h
 all_goals first|(cases h;done)|(cases h;simp_all)
structure PartsIn (n:Nat) (o:Ko):Prop where
 d:o.d=-1∨(0≤o.d∧o.d<n)
 e:o.e=-1∨(0≤o.e∧o.e<n)
 takes:∀v∈Sn o,0≤v∧v<n
 alike:∀v∈Pt o,0≤v∧v<n
 swap:o.kind=14→o.a=-1∧o.b=-1
def zmd{n s:Nat}{o:Ko}(E:O0 o.kind=some s)(h:Su n s o=true):PartsIn n o:=by
 simp only[Su,Hq]at h;obtain⟨hd,he,A,B,C⟩:=h;have z:∀v∈[o.a,o.b,o.c].filter (λv=>!decide (v<0)),0≤v∧v<n:=by
  intro v hv;obtain⟨j,F⟩:=List.mem_filter.1 hv;simp at F;simp only[H5,Jw,Lj]at j;rcases j with rfl|rfl|rfl
  ·rcases zao A with e|e<;>omega
  ·rcases zao B with e|e<;>omega
  ·rcases zao C with e|e<;>omega
 have G:=zcx E;refine⟨zao hd,zao he,λv hv=>?_,λv hv=>?_,λD=>?_⟩
 ·rcases Ih.1 hv with j|j
  ·exact z v j
  ·split at j
   ·rename_i D;have g:s=19:=J
    subst g;simp only[H5,Jw,Lj]at j;rcases j with rfl|rfl
    ·exact Sq hd Ad
    ·exact Sq he Ad
   ·cases j
 ·unfold Pt at hv;split at hv
  ·have g:s=13:=J
   subst g;simp only[H5,Jw,Lj]at hv;rcases hv with rfl|rfl
   ·exact Sq A Ad
   ·exact Sq B Ad
  split at hv
  ·have g:s=19:=J
   subst g;simp only[H5,Jw,Lj]at hv;rcases hv with rfl|rfl
   ·exact Sq hd Ad
   ·exact Sq he Ad
  split at hv
  ·have g:s=29:=J
   subst g;simp only[H5,Jw,Lj]at hv;rcases hv with rfl|rfl|rfl
   ·exact Sq hd Ad
   ·exact Sq A Ad
   ·exact Sq B Ad
  split at hv
  ·have g:s=21:=J
   subst g;simp only[H5,Jw,Lj]at hv;rcases hv with rfl|rfl
   ·exact Sq hd Ad
   ·exact Sq C Ad
  split at hv
  ·have g:s=29:=J
   subst g;simp only[H5,Jw,Lj]at hv;rcases hv with rfl|rfl|rfl|rfl
   ·exact Sq hd Ad
   ·exact Sq A Ad
   ·exact Sq B Ad
   ·exact Sq C Ad
  split at hv
  ·have g:s=29:=J
   subst g;simp only[H5,Jw,Lj]at hv;rcases hv with rfl|rfl|rfl
   ·exact Sq hd Ad
   ·exact Sq A Ad
   ·exact Sq C Ad
  ·cases hv
 ·have g:s=19:=J
  subst g;exact⟨zja A Ad,zja B Ad⟩
def zz8{n:Nat}{o:Ko}(C:o.kind=17)(h:Rd n o=true):PartsIn n o:=by
 simp only[Rd,Hq,Hz]at h;obtain⟨hd,he,D,j,g⟩:=h;have j:=af.1 j;have g:o.b=-1∨(0≤o.b∧o.b<n):=by
  split at g
  ·exact .inr (af.1 g)
  ·simp only[Hq,Hz]at g;exact .inl g.2
 refine⟨.inl hd,.inl he,λv hv=>?_,λv hv=>?_,λA=>J⟩
 ·unfold Sn at hv;rw[Hs J,I9]at hv;obtain⟨z,B⟩:=List.mem_filter.1 hv;simp at B;simp only[H5,Jw,Lj]at z;rcases z with rfl|rfl|rfl
  ·omega
  ·rcases g with e|e<;>omega
  ·omega
 ·unfold Pt at hv;rw[Hs J,Hs J,Hs J,Hs J,Hs J,Hs J]at hv;cases hv
def d6{g:List Vr}{o:Ko}(h:Nf g o=true):PartsIn g.length o:=by
 unfold Nf at h;split at h
 ·rename_i j;exact zz8 j h
 ·split at h
  ·cases h
  ·rename_i s z;simp only[Hq]at h;exact zmd z h.2.1
def Pz(o:Ko):List Int:=[o.d,o.e,o.a,o.b,o.c]
def zkr{n s:Nat}{o:Ko}(h:∀g<5,Qp n s g (gd (Pz o) g)=true):Su n s o=true:=by
 simp only[Su,Hq];exact⟨h 0 J,h 1 J,h 2 J,h 3 J,h 4 J⟩
def zo0{n s:Nat}{o:Ko}(z:g<5)(h:Qp n s g (gd (Pz o) g)=false):Su n s o=false:=by
 cases j:Su n s o with
 |false=>rfl
 |true =>
  simp only[Su,Hq]at j;have:g=0∨g=1∨g=2∨g=3∨g=4:=J
  rcases this with rfl|rfl|rfl|rfl|rfl
  ·exact absurd j.1 (by rw[show o.d=gd (Pz o) 0 from rfl,h];simp)
  ·exact absurd j.2.1 (by rw[show o.e=gd (Pz o) 1 from rfl,h];simp)
  ·exact absurd j.2.2.1 (by rw[show o.a=gd (Pz o) 2 from rfl,h];simp)
  ·exact absurd j.2.2.2.1 (by rw[show o.b=gd (Pz o) 3 from rfl,h];simp)
  ·exact absurd j.2.2.2.2 (by rw[show o.c=gd (Pz o) 4 from rfl,h];simp)
def zp6{k:Int}{s:Nat}(h:O0 k=some s):s<32:=by rcases zcx h with h|h|h|h|h|h|h<;>omega
def zuz(s i:Nat):((s:Int)/2^i%2=1)↔s.testBit i=true:=by
 rw[Lk,Hz];constructor
 ·intro h;have:((s/2^i%2:Nat):Int)=1:=by push_cast;exact h
  omega
 ·intro h;have:((s/2^i%2:Nat):Int)=1:=J
  push_cast at this;exact this
variable{vX:List Vr}
section
inductive Fr (α:Type) where
 |nil
 |op (o:α) (r:Fr α)
 |loop (o:α) (b:Fr α) (e:α) (r:Fr α)
section tree
variable {α : Type}
def Fr.flat:Fr α→List α
 |.nil=>[]
 |.op o r=>o::r.flat
 |.loop o b e r=>o::(b.flat++e::r.flat)
def Fr.size:Fr α→Nat
 |.nil=>0
 |.op _ r=>r.size+1
 |.loop _ b _ r=>b.size+r.size+2
def Fr.flat_len:∀f:Fr α,f.flat.length=f.size
 |.nil=>rfl
 |.op _ r=>by simp[flat,size,flat_len r]
 |.loop _ b _ r=>by simp[flat,size,flat_len b,flat_len r];omega
def Fr.wf(kd:α→Nat):Fr α→Prop
 |.nil=>True
 |.op o r=>kd o=0∧r.wf kd
 |.loop o b e r=>kd o=1∧kd e=2∧b.wf kd∧r.wf kd
def Vt(g:α→Nat):Nat→List α→Prop
 |d,[]=>d=0
 |d,o::l=>if g o=1 then Vt g (d+1) l else if g o=2 then 0<d∧Vt g (d-1) l else g o=0∧Vt g d l
def Fr.ends:Nat→Fr α→List Int
 |_,.nil=>[]
 |i,.op _ r=>-1::r.ends (i+1)
 |i,.loop _ b _ r=>((i+b.size+1:Nat):Int)::(b.ends (i+1)++(i:Int)::r.ends (i+b.size+2))
def Fr.ends_len:∀(f:Fr α) (i:Nat),(f.ends i).length=f.size
 |.nil,_=>rfl
 |.op _ r,i=>by simp[ends,size,ends_len r]
 |.loop _ b _ r,i=>by simp[ends,size,ends_len b,ends_len r];omega
end tree
def kdK(o:Ko):Nat:=if o.kind=15 then 1 else if o.kind=16 then 2 else 0
end
abbrev Sp:=Int×Int
def Fr.tops{α:Type}:Nat→Fr α→List Sp
 |_,.nil=>[]
 |i,.op _ r=>r.tops (i+1)
 |i,.loop _ b _ r=>((i:Int),((i+b.size+1:Nat):Int))::r.tops (i+b.size+2)
def gs(l:List Sp)(n:Nat):Sp:=l.getD n (0,0)
structure Left (os:List Ko) (es:List Int) (T0:List Sp) (i:Nat) (r:Fr Ko) (T:List Sp):Prop where
 os:os.drop i=r.flat
 es:es.drop i=r.ends i
 wf:r.wf kdK
 tops:T0=T++r.tops i
def Xb(k d:Int):Ko:=⟨k,d,-1,-1,-1,-1,0⟩
def Uh:Nat→List Vr→List Ko
 |_,[]=>[]
 |i,v::l=>if Q2 v=true then Uh (i+1) l else Xb 1 i::Uh (i+1) l
def startOs_len:∀(l:List Vr) (i:Nat),(Uh i l).length≤l.length
 |[],_=>by simp[Uh]
 |v::l,i=>by
  have:=startOs_len l (i+1);unfold Uh;split<;>simp<;>omega
def x8(k:Int):Bool:=decide (k=15) || decide (k=16)
def Sk(g:List Vr)(o:Ko):Bool:=!x8 o.kind&&Rv g (Uh 0 g++[o]) []
def zz3(A:List Vr):∀(B g:List Ko) (m j:List Bool) (d z:Int),Tu A m d B=some (j,z)→Tu A m d (B++g)=Tu A j z g
 |[],g,m,j,d,z,h=>Br
 |o::B,g,m,j,d,z,h=>by
  unfold Tu at h;split at h
  ·rename_i C;rw[Ip,Tu,Hv C];exact zz3 A B g _ j _ z h
  ·cases h
def Zz{i:Nat}(h:i<vX.length)(g:Q2 (gv vX i)=false):Nf vX (Xb 1 i)=true:=by
 have e:Qq vX.length (i:Int)=true:=af.2 ⟨J,J⟩;have j:Nat.testBit 1 1=false:=Ad
 have z:Nat.testBit 1 2=false:=Ad
 have A:Nat.testBit 1 3=false:=Ad
 have B:Nat.testBit 1 4=false:=Ad
 simp[Nf,Xb,O0,Qv,Su,Qp,e,Rf,g,N8,Sn,je,Pt,j,z,A,B]
def Ww(m:List Bool)(i g:Nat)(hi:i<m.length):gb (m.set i true) g=if g=i then true else gb m g:=by
 unfold gb;rw[Hn,Hn,Lm];by_cases h:i=g
 ·subst h;simp[hi]
 ·rw[Hs h,Hs (λq=>h q.symm)]
def zdw{g:List Vr}:∀(l:List Vr) (i:Nat) (m:List Bool),g.drop i=l→m.length=g.length→(∀j,j<i→gb m j=true)→(∀j,i≤j→j<g.length→gb m j=Q2 (gv g j)) →
  ∃A,Tu g m 0 (Uh i l)=some (A,0)∧A.length=g.length∧∀j,j<g.length→gb A j=true
 |[],i,m,hd,C,D,E=>by
  have:g.length≤i:=Ds
  exact⟨m,rfl,C,λj F=>D j J⟩
 |v::l,i,m,hd,C,D,E=>by
  have hi:i<g.length:=Ds
  have I:=zmw hi;rw[hd]at I;obtain⟨rfl,rfl⟩:=List.cons.inj I;unfold Uh;by_cases G:Q2 (gv g i)=true
  ·rw[Hv G];refine zdw _ (i+1) m rfl C (λj F=>?_) (λj F z=>E j J z);by_cases e:j=i
   ·subst e;rw[E j (Hw _) hi,G]
   ·exact D j J
  ·rw[Hs G];have H:Q2 (gv g i)=false:=Bk
   have B:=Zz hi H;have K:wn m (Xb 1 i)=true:=by simp[wn,Sn,Xb]
   obtain⟨A,L,M⟩:=zdw (g.drop (i+1)) (i+1) (m.set i true) rfl Ca (λj F=>by
    rw[Ww _ _ _ J];split
    ·rfl
    ·exact D j J) (λj F z=>by rw[Ww _ _ _ J,Hs J];exact E j J z)
   refine⟨A,?_,M⟩;rw[Tu,Hv (by rw[B,K];simp[dl,Xb])];have O:W4 m (Xb 1 i)=m.set i true:=by simp[W4,Xb]
   rw[O];simpa [dl,Xb] using L
def zdp(h:P3 vX=true):1≤vX.length∧vX.length≤256:=by
 unfold P3 at h;split at h
 ·cases h
 ·simp only[Hq,Hz]at h;omega
def vgo_limbs:∀(l:List Vr) (i p r:Nat),Q0 i p l=some r→∀v∈l,1≤v.limbs∧v.limbs≤512∧0≤v.mode∧v.mode≤3
 |[],_,_,_,_,v,hv=>by cases hv
 |w::l,i,p,r,h,v,hv=>by
  unfold Q0 at h;split at h
  ·cases h
  ·rename_i z;have hw:1≤w.limbs∧w.limbs≤512∧0≤w.mode∧w.mode≤3:=by
    simp[Ub]at z;omega
   have g:∀j,Q0 (i+1) j l=some r→1≤v.limbs∧v.limbs≤512∧0≤v.mode∧v.mode≤3:=λj A=>by
    rcases H5.1 hv with rfl|hv
    ·exact hw
    ·exact vgo_limbs l _ _ r A v hv
   split at h
   ·exact g _ h
   ·split at h
    ·cases h
    ·exact g _ h
def ziy{vs:List Vr}(h:P3 vs=true):∀v∈vs,1≤v.limbs∧v.limbs≤512∧0≤v.mode∧v.mode≤3:=by
 unfold P3 at h;split at h
 ·cases h
 ·rename_i p g;exact vgo_limbs vs 0 0 p g
def ztb{vs:List Vr}{i:Nat}(h:i<vs.length):gv vs i∈vs:=Ia (Sr h)
def me{vs:List Vr}(h:P3 vs=true){v:Int}(g:0≤v)(j:v<vs.length):1≤O5 vs v∧O5 vs v≤512:=by
 have:=ziy h _ (ztb (vs:=vs) (i:=v.toNat) J);exact⟨this.1,this.2.1⟩
def zym(g:List Vr)(o:Ko):Sk g o=(!x8 o.kind&&(P3 g&&Nf g o)):=by
 unfold Sk;cases z:x8 o.kind with
 |true=>rfl
 |false =>
  simp only[Bool.not_false,Lh];unfold Rv;cases hv:P3 g with
  |false=>rfl
  |true =>
   have H:=zdp hv;have D:=startOs_len g 0;obtain⟨m,E,I,A⟩:=zdw g 0 (Y0 g) rfl (by simp[Y0]) (λK C=>J) (λK _ C=>by
    unfold gb Y0;rw[Hn,Jj,Sr C];rfl)
   rw[zz3 g _ _ _ _ _ _ E];have F:decide ((Uh 0 g++[o]).length≤4096)=true:=I7 Ab;rw[F];simp only[Lh,Jo,List.all_nil,show decide (0≤4096)=true from rfl];have B:dl o.kind=0:=by simp[x8]at z;simp[dl,z.1,z.2]
   cases ho:Nf g o with
   |false=>simp[Tu,ho]
   |true =>
    have j:=d6 ho;have G:wn m o=true:=by
     unfold wn;rw[Jh];intro v hv;have:=j.takes v hv;exact A _ J
    have hm:np g (W4 m o)=true:=by
     unfold np;rw[Jh];intro i hi;have hi:=J0.1 hi;have:gb (W4 m o) i=true:=by
      unfold W4;split
      ·have:=j.d;rw[Ww _ _ _ J];split
       ·rfl
       ·exact A i hi
      ·exact A i hi
     simp[this]
    simp[Tu,ho,G,B,hm]
def M4(vs:List Vr)(o:Ko):Int:=if (decide (o.kind=12)&&Sk vs o)=true then O5 vs o.c+2 else 0
def workP(g:List Vr)(o:Ko):Int:=if (decide (o.kind=13)&&Sk g o)=true then (3+2^o.imm.toNat)*O5 g o.c+O5 g o.b+1+(O5 g o.c+2) else 0
def zqr{o:Ko}{s:Nat}(h:Nf vX o=true)(g:O0 o.kind=some s):Su vX.length s o=true∧Qv o=true∧je vX o=true:=by
 unfold Nf at h;split at h
 ·rename_i j;rw[j]at g;simp[O0]at g
 ·rw[g]at h;simp only[Hq]at h;exact⟨h.2.1,h.1,h.2.2.2.2.2⟩
def zop{o:Ko}{s:Nat}(h:Sk vX o=true)(g:O0 o.kind=some s):P3 vX=true∧Su vX.length s o=true∧Qv o=true∧je vX o=true:=by
 rw[zym]at h;simp only[Hq]at h;exact⟨h.2.1,zqr h.2.2 g⟩
def zr9{n s:Nat}{o:Ko}(h:Su n s o=true)(g:s.testBit 2=true):0≤o.a∧o.a<n:=by
 simp only[Su,Hq]at h;exact Sq h.2.2.1 g
def zr6{n s:Nat}{o:Ko}(h:Su n s o=true)(g:s.testBit 3=true):0≤o.b∧o.b<n:=by
 simp only[Su,Hq]at h;exact Sq h.2.2.2.1 g
def zmc{n s:Nat}{o:Ko}(h:Su n s o=true)(g:s.testBit 4=true):0≤o.c∧o.c<n:=by
 simp only[Su,Hq]at h;exact Sq h.2.2.2.2 g
def zss{n s:Nat}{o:Ko}(h:Su n s o=true)(g:s.testBit 0=true):0≤o.d∧o.d<n:=by
 simp only[Su,Hq]at h;exact Sq h.1 g
def znz(hv:P3 vX=true){v:Int}(h:0≤v∧v<vX.length):∃k:Nat,v=k∧k<vX.length∧(Nd vX)[k*3]?=some (.i (O5 vX v))∧1≤O5 vX v∧O5 vX v≤512:=by
 obtain⟨k,rfl⟩:=Hr h.1;have g:k<vX.length:=J
 have:=me hv h.1 h.2;exact⟨k,rfl,g,ng (Sr g),this⟩
abbrev TVr:={ n:Int // Tk n }×Bool×{ n:Int // Tk n }×Unit
def vrT(e:TVr):Vr:=⟨e.1.1,e.2.1,e.2.2.1.1⟩
def flat_vr:∀l:List TVr,l.flatMap (λx=>[LV.i x.1.1,LV.bool x.2.1,LV.i x.2.2.1.1])=Nd (l.map vrT)
 |[]=>rfl
 |x::l=>by rw[Kd,flat_vr l];rfl
def Tn(g:List Vr)(o:Ko)(s i:Nat):Bool:=(List.range i).any λj=>s.testBit j&&((decide (2≤j) || decide (o.kind=14))&&(gv g (gd (Pz o) j).toNat).sec)
def z8j{n s i:Nat}{v:Int}(h:Qp n s i v=true):s.testBit i=!decide (v<0):=by
 unfold Qp at h;split at h
 ·rename_i g;have:=af.1 h;rw[g];simp;omega
 ·rename_i g;have:v=-1:=J4 h;subst this;simpa using g
def zov(g:List Vr)(o:Ko)(s i:Nat):Tn g o s (i+1)=(Tn g o s i || (s.testBit i&&((decide (2≤i) || decide (o.kind=14))&&(gv g (gd (Pz o) i).toNat).sec))):=by
 simp[Tn,List.range_succ,List.any_append]
def secU_5{o:Ko}{n s:Nat}(z:O0 o.kind=some s)(j:Su n s o=true):Tn vX o s 5=N8 vX o:=by
 simp only[Su,Hq]at j;obtain⟨hd,he,A,B,C⟩:=j;have g:o.kind=14→s=19:=λh=>by have:=zcx z;omega
 rw[show (5:Nat)=0+1+1+1+1+1 by rfl];simp only[zov];rw[show Tn vX o s 0=false from rfl];rw[z8j hd,z8j he,z8j A,z8j B,z8j C];have D:gd (Pz o) 0=o.d:=rfl;have E:gd (Pz o) (0+1)=o.e:=rfl;have F:gd (Pz o) (0+1+1)=o.a:=rfl;have G:gd (Pz o) (0+1+1+1)=o.b:=rfl;have H:gd (Pz o) (0+1+1+1+1)=o.c:=rfl;rw[D,E,F,G,H];unfold N8 Sn;rw[List.any_append,List.any_filter];by_cases k:o.kind=14
 ·have:=g k;subst this;have L:=Sq hd Ad;have M:=Sq he Ad;have I:decide (o.d<0)=false:=Ab
  have K:decide (o.e<0)=false:=Ab
  simp[k,I,K,Bool.or_comm,Bool.or_assoc]
 ·simp[k,Bool.or_assoc]

abbrev Fc:=Int×Int×Int
def V6(o:Ko):List Fc :=
 if o.kind=9 then [(3,o.c,-1)] else if o.kind=10∨o.kind=11 then [(2,o.a,o.c),(2,o.b,o.c)] else if o.kind=12 then [(1,o.c,-1),(2,o.a,o.c),(2,o.b,o.c)] else if o.kind=13 then [(1,o.c,-1),(2,o.a,o.c)]
 else if o.kind=17 then (if o.imm=2 then [(2,o.a,o.b)] else if o.imm=1 then [(1,o.a,-1)] else if o.imm=3 then [(3,o.a,-1)] else []) else []
def gN(v:List Nat)(i:Int):Nat:=if i<0 then 0 else v.getD i.toNat 0
def V8(f:Fc)(v:List Nat):Bool :=
 Qq v.length f.2.1&&(if f.1=1 then decide (gN v f.2.1%2=1) else if f.1=3 then decide (0<gN v f.2.1) else if f.1=2 then Qq v.length f.2.2&&decide (gN v f.2.1<gN v f.2.2) else false)
def Uy(o:Ko)(v:List Nat):Bool:=(V6 o).all λf=>V8 f v
def sm(n:Int):Nat:=2^(64*n.toNat)
def kd_1{o:Ko}:kdK o=1↔o.kind=15:=by unfold kdK;split<;>(try split)<;>simp_all

def wc{v:List Nat}{i:Int}(h:0≤i):gN v i=v.getD i.toNat 0:=by unfold gN;rw[Hs J]



def Fr.map{α:Type}(g:α→α):Fr α→Fr α
 |.nil=>.nil
 |.op o r=>.op (g o) (r.map g)
 |.loop o b e r=>.loop (g o) (b.map g) (g e) (r.map g)
def bh(g:List Vr):List Nat:=(List.range g.length).filter λi=>Q2 (gv g i)

def gu(a:List UInt64):(LU a).dat=true:=by
 simp only[LU,LV.dat];exact nz (λ_=>rfl) a

def Tg(f:Fc):List LV:=[.i f.1,.i f.2.1,.i f.2.2]
def Wz(l:List Fc):List LV:=l.flatMap Tg
def f8(l:List Fc):dats (Wz l)=true:=s9 (f:=Tg) (λ_=>rfl) l
abbrev Hl:=Int×Int
def zxz(x y:Hl):Prop:=x.2≤y.1∨y.2≤x.1
def Ap(g:Int)(l:List Hl):Prop:=l.Pairwise zxz∧∀h∈l,0≤h.1∧h.1<h.2∧h.2≤g
structure St where
 holes:List Hl
 size:Int
def ivs(z:Nat→Hl)(j:Nat→Bool)(s:Bool)(g:List Nat):List Hl:=(g.filter λv=>j v==s).map z
def BusyOk(A:Bool→Int)(B:Nat→Hl)(j:Nat→Bool)(g:List Nat)(z:Bool→St):Prop :=
 ∀s,0≤(z s).size∧Ap (z s).size ((0,A s)::(ivs B j s g++(z s).holes))
structure Plan0 (wk:Bool→Int) (a b P0:Nat→Int) (sec:Nat→Bool) (done busy:List Nat) (iv:Nat→Hl) (ps:Bool→St) (cur:Int):Prop where
 ok:BusyOk wk iv sec busy ps
 wide:∀v∈done,(iv v).2=(iv v).1+P0 v
 nd:busy.Nodup
 sub:∀v∈busy,v∈done
 over:∀v∈done,v ∉ busy→b v<cur
 pairs:∀v∈done,∀w∈done,v≠w→sec v=sec w→zxz (iv v) (iv w)∨b v<a w∨b w<a v
 inn:∀v∈done,0≤(iv v).1∧(iv v).2≤(ps (sec v)).size∧zxz (0,wk (sec v)) (iv v)
 sz:(ps false).size+(ps true).size≤wk false+wk true+(done.map P0).sum
noncomputable section
structure Bf where
 size:Int
 kind:Int
 sec:Bool
structure Lo where
 kind:Int
 d:Int
 e:Int
 a:Int
 b:Int
 c:Int
 buf:Int
 imm:UInt64
 deriving DecidableEq
def Bf.f(v:Bf):List LV:=[.i v.size,.i v.kind,.bool v.sec]
def Lo.f(o:Lo):List LV:=[.i o.kind,.i o.d,.i o.e,.i o.a,.i o.b,.i o.c,.i o.buf,.u o.imm]
def O8(l:List Bf):List LV:=l.flatMap Bf.f
def P1(l:List Lo):List LV:=l.flatMap Lo.f
def Bf.f_len(v:Bf):v.f.length=3:=rfl
def Lo.f_len(o:Lo):o.f.length=8:=rfl
def X7(l:List Lo):(P1 l).length=l.length*8:=zt9 Lo.f_len l
def S0(l:List Bf):dats (O8 l)=true:=s9 (λ_=>rfl) l
def Sz(l:List Lo):dats (P1 l)=true:=s9 (λ_=>rfl) l
def zua{l:List Bf}{i:Nat}{v:Bf}(h:l[i]?=some v):((O8 l).drop (i*3)).take 3=v.f:=zl Bf.f_len h
def zbd{l:List Lo}{i:Nat}{v:Lo}(h:l[i]?=some v):((P1 l).drop (i*8)).take 8=v.f:=zl Lo.f_len h
def ub{l:List Bf}{i:Nat}{v:Bf}(h:l[i]?=some v):(O8 l)[i*3]?=some (.i v.size):=by have:=zrn Bf.f_len h (j:=0) J;simpa [O8,Bf.f] using this
def zlk{l:List Bf}{i:Nat}{v:Bf}(h:l[i]?=some v):(O8 l)[i*3+1]?=some (.i v.kind):=by have:=zrn Bf.f_len h (j:=1) J;simpa [O8,Bf.f] using this
def zta{l:List Bf}{i:Nat}{v:Bf}(h:l[i]?=some v):(O8 l)[i*3+2]?=some (.bool v.sec):=by have:=zrn Bf.f_len h (j:=2) J;simpa [O8,Bf.f] using this
def zb{l:List Lo}{i:Nat}{v:Lo}(h:l[i]?=some v){j:Nat}(g:j<8):(P1 l)[i*8+j]?=v.f[j]?:=zrn Lo.f_len h g
def vx{l:List Bf}{i:Nat}(h:i<l.length):i*3+3≤(O8 l).length:=zrd Bf.f_len h
def qi{l:List Lo}{i:Nat}(h:i<l.length):i*8+8≤(P1 l).length:=zrd Lo.f_len h
def zm1(a b:List Lo):P1 (a++b)=P1 a++P1 b:=by simp[P1]
def tn(a b:List Bf):O8 (a++b)=O8 a++O8 b:=by simp[O8]
def M7(l:List Bf)(n:Nat):Bf:=l.getD n ⟨0,0,false⟩
def ap(l:List Lo)(n:Nat):Lo:=l.getD n ⟨0,0,0,0,0,0,0,0⟩
def Rg{l:List Bf}{n:Nat}(h:n<l.length):l[n]?=some (M7 l n):=by simp[M7,Hn,h]
def yj{l:List Lo}{n:Nat}(h:n<l.length):l[n]?=some (ap l n):=by simp[ap,Hn,h]
def zh4{l:List Lo}{n:Nat}(h:n<l.length):l.drop n=ap l n::l.drop (n+1):=by
 rw[Jb h];congr 1;have:=yj h;rw[Ht h]at this;exact Option.some.inj this
def wx(n:Nat):Oj [.bool false] n=(List.replicate n false).map LV.bool:=by
 induction n with
 |zero=>rfl
 |succ n g=>rw[Oj,g,Kg];rfl
def N1(o:Lo):List Int :=
 if o.kind=2∨o.kind=8∨o.kind=9 then [o.a]
 else if (3≤o.kind∧o.kind≤7)∨o.kind=10 then [o.a,o.b]
 else if o.kind=11∨o.kind=12∨o.kind=13 then [o.a,o.b,o.c]
 else if o.kind=14∧¬o.a=-1 then [o.a]
 else if o.kind=15∧¬o.a=-1 then [o.a,o.b]
 else if o.kind=15 then [o.b] else []
def M3(o:Lo):List Int :=
 if o.kind=10∨o.kind=11∨o.kind=12 then [o.d,o.e]
 else if o.kind=15∨o.kind=17 then [] else [o.d]
def Qg(g r:Int)(j:Bool):Bool:=if j=true then decide (0≤r)&&decide (r<g) else decide (r=-1)
def P7(k:Int):Bool:=!decide (k=15) && !decide (k=17)
def P9(k:Int):Bool:=decide (k=10) || (decide (k=11) || decide (k=12))
def Qu(k:Int):Bool:=!decide (k=1)&&(!decide (k=16) && !decide (k=17))
def V9(k:Int):Bool:=(decide (3≤k)&&decide (k≤7)) || ((decide (10≤k)&&decide (k≤13)) || decide (k=15))
def V1(k:Int):Bool:=decide (11≤k)&&decide (k≤13)
def Om(k:Int):Bool:=decide (k=14) || decide (k=15)
def Po(g:Int)(j:List Bf)(o:Lo):Bool :=
 (decide (1≤o.kind)&&decide (o.kind≤17))&&(Qg g o.d (P7 o.kind)&&(Qg g o.e (P9 o.kind)&&((Qg g o.a (Qu o.kind) || (Om o.kind&&decide (o.a=-1)))&&(Qg g o.b (V9 o.kind)&&(Qg g o.c (V1 o.kind)&&(!(P9 o.kind&&decide (o.d=o.e)) &&
  (if Om o.kind=true then decide (0≤o.buf)&&(decide (o.buf<j.length)&&(!(decide (o.kind=15)&&decide ((M7 j o.buf.toNat).kind=1))&&(!decide (o.a=-1) || decide (o.imm<iU (M7 j o.buf.toNat).size))))
   else decide (o.buf=0)&&(if o.kind=1 then true else if o.kind=8∨o.kind=9 then decide (1≤o.imm)&&decide (o.imm≤63) else if o.kind=16 then decide (1≤o.imm)&&decide (o.imm≤1048576) else decide (o.imm=0)))))))))
def Ok(m:List Bool)(r:Int):Bool:=m.getD r.toNat false
def T2(j:Int)(z:List Bf)(m:List Bool)(g:List Int)(o:Lo):Int×List Bool×List Int :=
 if Po j z o=false then (2,m,g)
 else if o.kind=17 then (match g.getLast? with|none=>(9,m,g)|some d=>(0,m.set d.toNat false,g.dropLast))
 else if (M3 o).any (λr=>g.contains r)=true then (9,m,g)
 else if o.kind=16∧Ok m o.d=true then (9,m,g)
 else if o.kind=16∧g.length=8 then (10,m,g)
 else if (N1 o).any (λr=>!Ok m r)=true then (5,m,g)
 else (0,(M3 o).foldl (λm r=>m.set r.toNat true) m,if o.kind=16 then g++[o.d] else g)
def Ys(g:Int)(z:List Bf):Nat→List Bool→List Int→List Lo→Int×Int
 |i,_,j,[]=>if j=[] then (i,0) else (i,9)
 |i,m,j,o::l=>if (T2 g z m j o).1=0 then Ys g z (i+1) (T2 g z m j o).2.1 (T2 g z m j o).2.2 l else (i,(T2 g z m j o).1)
def P5(g:Int)(bs:List Bf)(os:List Lo):Int×Int :=
 if 64<g∨32<bs.length∨65536<os.length then (0,3)
 else if (bs.any λb=>decide (65536<b.size))=true then (0,3)
 else if g<0 then (0,2)
 else if (bs.any λb=>decide (b.size<1) || (decide (b.kind<1) || decide (3<b.kind)))=true then (0,2)
 else Ys g bs 0 (List.replicate g.toNat false) [] os
structure Ms where
 i:Nat
 first:Bool
 r:List UInt64
 bufs:List (List UInt64)
 l:List (Int×Int)
def atR(r:List UInt64)(x:Int):UInt64:=if x<0 then 0 else r.getD x.toNat 0
def O4(b:Bool):UInt64:=if b then 1 else 0
def Mw(r:List UInt64)(x:Int)(v:UInt64):List UInt64:=if 0≤x then r.set x.toNat v else r
def Nj(o:Lo)(a b:UInt64)(c:Bool):UInt64×UInt64 :=
 if o.kind=1 then (o.imm,0) else if o.kind=2 then (a,0) else if o.kind=3 then (a+b,0) else if o.kind=4 then (a-b,0)
 else if o.kind=5 then (a &&& b,0) else if o.kind=6 then (a ||| b,0) else if o.kind=7 then (a ^^^ b,0)
 else if o.kind=8 then (UInt64.ofNat (a.toNat*2^o.imm.toNat),0) else if o.kind=9 then (UInt64.ofNat (a.toNat/2^o.imm.toNat),0)
 else if o.kind=10 then (Ss a b,a*b) else if o.kind=11 then ((M1 a b c).1,O4 (M1 a b c).2) else if o.kind=12 then ((Og a b c).1,O4 (Og a b c).2)
 else if o.kind=13 then (if c then a else b,0) else (0,0)
def Tb(g:List (List UInt64))(x:Int):List UInt64:=g.getD x.toNat []
def T7(o:Lo)(s:Ms):Option Ms :=
 if o.kind=14 then
  (if (o.imm+atR s.r o.a).toNat<(Tb s.bufs o.buf).length then
   some ⟨s.i+1,s.first,Mw (Mw s.r o.d ((Tb s.bufs o.buf).getD (o.imm+atR s.r o.a).toNat 0)) o.e 0,s.bufs,s.l++[((s.i:Int),(((o.imm+atR s.r o.a).toNat:Nat):Int))]⟩ else none)
 else if o.kind=15 then
  (if (o.imm+atR s.r o.a).toNat<(Tb s.bufs o.buf).length then
   some ⟨s.i+1,s.first,Mw (Mw s.r o.d 0) o.e 0,s.bufs.set o.buf.toNat ((Tb s.bufs o.buf).set (o.imm+atR s.r o.a).toNat (atR s.r o.b)),s.l++[((s.i:Int),(((o.imm+atR s.r o.a).toNat:Nat):Int))]⟩ else none)
 else some ⟨s.i+1,s.first,Mw (Mw s.r o.d (Nj o (atR s.r o.a) (atR s.r o.b) (decide (atR s.r o.c%2=1))).1) o.e (Nj o (atR s.r o.a) (atR s.r o.b) (decide (atR s.r o.c%2=1))).2,s.bufs,s.l++[((s.i:Int),(-1:Int))]⟩
def Qm(os:List Lo)(es:List Int)(s:Ms):Option Ms :=
 match os[s.i]? with
 |none=>some s
 |some o =>
  if o.kind=16 then some ⟨s.i+1,true,if s.first then Mw s.r o.d 0 else s.r,s.bufs,s.l++[((s.i:Int),(-1:Int))]⟩
  else if o.kind=17 then
   (match os[(es.getD s.i 0).toNat]? with
   |none=>none
   |some p=>if atR s.r p.d+1<p.imm then some ⟨(es.getD s.i 0).toNat,false,Mw s.r p.d (atR s.r p.d+1),s.bufs,s.l⟩ else some ⟨s.i+1,s.first,s.r,s.bufs,s.l⟩)
  else T7 o s
def Ov(os:List Lo)(es:List Int):Nat→Ms→Option Ms
 |0,s=>some s
 |n+1,s=>match Qm os es s with
  |none=>none
  |some g=>Ov os es n g
end
variable{X:List Bf}{v6:List Lo}
section
def Pu(o:Lo):Nat:=if o.kind=16 then 1 else if o.kind=17 then 2 else 0
structure Fs where
 r:Nat→UInt64
 m:Nat→Nat→UInt64
def Fs.put(s:Fs)(d:Nat)(v:UInt64):Fs:=⟨λx=>if x=d then v else s.r x,s.m⟩
def Fs.sto(s:Fs)(b n:Nat)(v:UInt64):Fs:=⟨s.r,λx y=>if x=b∧y=n then v else s.m x y⟩
def R9(s:Fs)(x:Int):UInt64:=if x<0 then 0 else s.r x.toNat
def Ql(s:Fs)(x:Int)(v:UInt64):Fs:=if 0≤x then s.put x.toNat v else s
def Qc(sz:Nat→Nat)(o:Lo)(s:Fs):Option Fs :=
 if o.kind=14 then (if (o.imm+R9 s o.a).toNat<sz o.buf.toNat then some (Ql (Ql s o.d (s.m o.buf.toNat (o.imm+R9 s o.a).toNat)) o.e 0) else none)
 else if o.kind=15 then (if (o.imm+R9 s o.a).toNat<sz o.buf.toNat then some (Ql (Ql (s.sto o.buf.toNat (o.imm+R9 s o.a).toNat (R9 s o.b)) o.d 0) o.e 0) else none)
 else some (Ql (Ql s o.d (Nj o (R9 s o.a) (R9 s o.b) (decide (R9 s o.c%2=1))).1) o.e (Nj o (R9 s o.a) (R9 s o.b) (decide (R9 s o.c%2=1))).2)
def df(f:Fs→Option Fs)(d:Nat):Nat→Nat→Fs→Option Fs
 |0,_,s=>some s
 |n+1,j,s=>match f (s.put d (UInt64.ofNat j)) with
  |none=>none
  |some g=>df f d n (j+1) g
def Sg(sz:Nat→Nat):Fr Lo→Fs→Option Fs
 |.nil,s=>some s
 |.op o r,s=>match Qc sz o s with
  |none=>none
  |some g=>Sg sz r g
 |.loop o b _ r,s=>match df (Sg sz b) o.d.toNat o.imm.toNat 0 s with
  |none=>none
  |some g=>Sg sz r g
def Fr.noW(x:Nat):Fr Lo→Bool
 |.nil=>true
 |.op o r=>!decide (o.d=x)&&(!decide (o.e=x)&&r.noW x)
 |.loop o b _ r=>!decide (o.d.toNat=x)&&(b.noW x&&r.noW x)
def zib{s:Fs}{d:Int}{v:UInt64}{x:Nat}(h:¬d=x):(Ql s d v).r x=s.r x:=by
 unfold Ql;split
 ·show (if x=d.toNat then v else s.r x)=s.r x;rw[Hs J]
 ·rfl
def opZ_r{sz:Nat→Nat}{o:Lo}{s z:Fs}{x:Nat}(h:Qc sz o s=some z)(g:¬o.d=x)(j:¬o.e=x):z.r x=s.r x:=by
 unfold Qc at h;split at h
 ·split at h
  ·cases h;rw[zib j,zib g]
  ·cases h
 ·split at h
  ·split at h
   ·cases h;rw[zib j,zib g];rfl
   ·cases h
  ·cases h;rw[zib j,zib g]
def zur{f:Fs→Option Fs}{P:Fs→Prop}{d:Nat}(hd:∀s v,P s→P (s.put d v))(z:∀s g,P s→f s=some g→P g):∀(n A:Nat) (s g:Fs),P s→df f d n A s=some g→P g
 |0,_,s,g,j,h=>by cases h;exact j
 |n+1,A,s,g,j,h=>by
  unfold df at h;split at h
  ·cases h
  ·rename_i B C;exact zur hd z n (A+1) B g (z _ _ (hd _ _ j) C) h
def Yl{sz:Nat→Nat}{x:Nat}:∀(f:Fr Lo) (s g:Fs),f.noW x=true→Sg sz f s=some g→g.r x=s.r x
 |.nil,s,g,_,h=>Br
 |.op o r,s,g,hw,h=>by
  simp only[Fr.noW,Hq,Jl,Iz]at hw;unfold Sg at h;split at h
  ·cases h
  ·rename_i j z;rw[Yl r j g hw.2.2 h,opZ_r z hw.1 hw.2.1]
 |.loop o b e r,s,g,hw,h=>by
  simp only[Fr.noW,Hq,Jl,Iz]at hw;unfold Sg at h;split at h
  ·cases h
  ·rename_i j z;rw[Yl r j g hw.2.2 h];refine zur (P:=λt=>t.r x=s.r x) (λt v A=>?_) (λt B A h=>by rw[Yl b t B hw.2.1 h,A]) _ _ _ _ rfl z;show (if x=o.d.toNat then v else t.r x)=_;rw[Hs (λq=>hw.1 q.symm)];exact A
def mj(ls:List Nat)(x:Int):Bool:=decide (-1≤x)&&(decide (x<64) && !ls.contains x.toNat || decide (x=-1))
def Fr.regs(nb:Nat):List Nat→Fr Lo→Bool
 |_,.nil=>true
 |ls,.op o r=>mj ls o.d&&(mj ls o.e&&(decide (o.a<64)&&(decide (o.b<64)&&(decide (o.c<64)&&(decide (o.buf.toNat<nb)&&r.regs nb ls)))))
 |ls,.loop o b _ r=>mj ls o.d&&(decide (0≤o.d)&&(decide (1≤o.imm.toNat)&&(b.regs nb (o.d.toNat::ls)&&r.regs nb ls)))
def zh7{nb x:Nat}:∀(f:Fr Lo) (z:List Nat),x∈z→f.regs nb z=true→f.noW x=true
 |.nil,_,_,_=>rfl
 |.op o r,z,j,h=>by
  simp only[Fr.regs,Hq,mj,Hz,Iy,Jl,List.contains_eq_mem,Iz]at h;obtain⟨⟨C,g⟩,⟨D,A⟩,_,_,_,_,B⟩:=h;simp only[Fr.noW,Hq,Jl,Iz];refine⟨λq=>?_,λq=>?_,zh7 r z j B⟩
  ·rcases g with ⟨_,g⟩|g
   ·apply g;rw[q];exact j
   ·omega
  ·rcases A with ⟨_,A⟩|A
   ·apply A;rw[q];exact j
   ·omega
 |.loop o b e r,z,j,h=>by
  simp only[Fr.regs,Hq,mj,Hz,Iy,Jl,List.contains_eq_mem,Iz]at h;obtain⟨⟨C,g⟩,D,_,A,B⟩:=h;simp only[Fr.noW,Hq,Jl,Iz];refine⟨λq=>?_,zh7 b _ (Ij _ j) A,zh7 r z j B⟩;rcases g with ⟨_,g⟩|g
  ·apply g;rw[q];exact j
  ·omega
structure Rep (nb:Nat) (sz:Nat→Nat) (s:Ms) (t:Fs):Prop where
 rl:s.r.length=64
 r:∀x,x<64→s.r.getD x 0=t.r x
 bl:s.bufs.length=nb
 len:∀b,b<nb→(s.bufs.getD b []).length=sz b
 m:∀b n,b<nb→n<sz b→(s.bufs.getD b []).getD n 0=t.m b n
section rep
variable {nb : Nat} {sz : Nat → Nat} {s : Ms} {t : Fs}
def Rep.at(h:Rep nb sz s t){x:Int}(hx:x<64):atR s.r x=R9 t x:=by
 unfold atR R9;split
 ·rfl
 ·exact h.r _ J
def Vo(l:List vU)(i g:Nat)(v d:vU)(h:i<l.length):(l.set i v).getD g d=if g=i then v else l.getD g d:=by
 simp only[Hn,Lm];by_cases q:g=i
 ·subst q;simp[h]
 ·rw[Hs (Ne.symm q),Hs q]
def Rep.put(h:Rep nb sz s t){x:Int}{v:UInt64}{i:Nat}{f:Bool}{l:List (Int×Int)}(hx:x<64):Rep nb sz ⟨i,f,Mw s.r x v,s.bufs,l⟩ (Ql t x v):=by
 unfold Mw Ql;split
 ·refine⟨by simpa using h.rl,λy hy=>?_,h.bl,h.len,h.m⟩;show (s.r.set x.toNat v).getD y 0=if y=x.toNat then v else t.r y
  rw[Vo _ _ _ _ _ (by rw[h.rl];omega)];split
  ·rfl
  ·exact h.r y hy
 ·exact⟨h.rl,h.r,h.bl,h.len,h.m⟩
def Rep.ctl(h:Rep nb sz s t){i:Nat}{f:Bool}{l:List (Int×Int)}:Rep nb sz ⟨i,f,s.r,s.bufs,l⟩ t:=⟨h.rl,h.r,h.bl,h.len,h.m⟩
def Rep.sto(h:Rep nb sz s t){b n:Nat}{v:UInt64}{i:Nat}{f:Bool}{l:List (Int×Int)}(hb:b<nb)(hn:n<sz b):Rep nb sz ⟨i,f,s.r,s.bufs.set b ((s.bufs.getD b []).set n v),l⟩ (t.sto b n v):=by
 have gg:b<s.bufs.length:=by rw[h.bl];exact hb
 refine⟨h.rl,h.r,by simpa using h.bl,λx hx=>?_,λx y hx hy=>?_⟩
 ·show ((s.bufs.set b _).getD x []).length=_;rw[Vo _ _ _ _ _ gg];split
  ·rename_i q;subst q;rw[Jv];exact h.len x hx
  ·exact h.len x hx
 ·show ((s.bufs.set b _).getD x []).getD y 0=if x=b∧y=n then v else t.m x y
  rw[Vo _ _ _ _ _ gg];by_cases q:x=b
  ·subst q;rw[Hv rfl,Vo _ _ _ _ _ (by rw[h.len x hx];exact hn)];by_cases q2:y=n
   ·simp[q2]
   ·simp only[q2,and_false,Le];exact h.m x y hx hy
  ·simp only[q,false_and,Le];exact h.m x y hx hy
end rep
def zh1{j:List Lo}{z:List Int}:∀(n k:Nat) (s g:Ms),Ov j z n s=some g→Ov j z (n+k) s=Ov j z k g
 |0,k,s,g,h=>by cases h;rw[Iq]
 |n+1,k,s,g,h=>by
  unfold Ov at h;split at h
  ·cases h
  ·rename_i A B;rw[(J:n+1+k=(n+k)+1)];show (match Qm j z s with|none=>none|some g=>Ov j z (n+k) g)=_;rw[B];exact zh1 n k A g h
def doR_ok{nb:Nat}{sz:Nat→Nat}{s:Ms}{t E:Fs}{o:Lo}(h:Rep nb sz s t)(hd:o.d<64)(he:o.e<64)(F:o.a<64)(G:o.b<64)(H:o.c<64)(g:o.buf.toNat<nb)(z:Qc sz o t=some E) :
  ∃C,T7 o s=some C∧C.i=s.i+1∧C.first=s.first∧Rep nb sz C E∧C.l.length=s.l.length+1:=by
 unfold Qc at z;unfold T7;rw[h.at F,h.at G,h.at H];unfold Tb;have I:o.buf.toNat<s.bufs.length:=by rw[h.bl];exact g
 split at z
 ·rename_i A;rw[Hv A,h.len _ g];split at z
  ·rename_i j;rw[Hv j];cases z;refine⟨_,rfl,rfl,rfl,?_,N⟩;rw[h.m _ _ g j];have D:=h.put (x:=o.d) (v:=t.m o.buf.toNat (o.imm+R9 t o.a).toNat) (i:=0) (f:=true) (l:=[]) hd;exact D.put he
  ·cases z
 ·rename_i A;rw[Hs A];split at z
  ·rename_i B;rw[Hv B,h.len _ g];split at z
   ·rename_i j;rw[Hv j];cases z;refine⟨_,rfl,rfl,rfl,?_,N⟩;have K:=h.sto (v:=R9 t o.b) (i:=0) (f:=true) (l:=[]) g j;have D:=K.put (x:=o.d) (v:=0) (i:=0) (f:=true) (l:=[]) hd;exact D.put he
   ·cases z
  ·rename_i B;rw[Hs B];cases z;refine⟨_,rfl,rfl,rfl,?_,N⟩;have D:=h.put (x:=o.d) (v:=(Nj o (R9 t o.a) (R9 t o.b) (decide (R9 t o.c%2=1))).1) (i:=0) (f:=true) (l:=[]) hd;exact D.put he
def Fr.costZ:Fr Lo→Nat
 |.nil=>0
 |.op _ r=>1+r.costZ
 |.loop o b _ r=>o.imm.toNat*(b.costZ+2)+r.costZ
def zba{l:List vU}{i:Nat}{a:vU}{r:List vU}(h:l.drop i=a::r):l[i]?=some a∧l.drop (i+1)=r:=by
 have g:=congrArg (λl=>l[0]?) h;simp at g;refine⟨g,?_⟩;rw[←List.drop_drop,h];rfl
def zpt{l a r:List vU}{i:Nat}(h:l.drop i=a++r):l.drop (i+a.length)=r:=by
 rw[←List.drop_drop,h,List.drop_left]
def ofNat_lt:(UInt64.ofNat g+1:UInt64)=UInt64.ofNat (g+1):=by
 apply UInt64.toNat.inj;simp
def zh5{os:List Lo}{es:List Int}{nb:Nat}{sz:Nat→Nat}:∀(f:Fr Lo) (i:Nat) (H:List Nat) (z:List Lo) (T:List Int) (s:Ms) (t K:Fs),f.wf Pu→f.regs nb H=true→os.drop i=f.flat++z→es.drop i=f.ends i++T→s.i=i→s.first=true→Rep nb sz s t→Sg sz f t=some K →
  ∃n j,Ov os es n s=some j∧j.i=i+f.size∧j.first=true∧Rep nb sz j K∧n≤f.costZ∧j.l.length≤s.l.length+f.costZ
 |.nil,i,H,z,T,s,t,K,_,_,_,_,hi,X,Y,C=>by
  cases C;exact⟨0,s,rfl,by simp[Fr.size,hi],X,Y,Hw _,Hw _⟩
 |.op o r,i,H,z,T,s,t,K,hw,L,ho,he,hi,X,Y,C=>by
  simp only[Fr.regs,Hq,mj,Hz,Iy]at L;obtain⟨⟨d1,d2⟩,⟨e1,e2⟩,a1,b1,c1,f1,L⟩:=L;have Z:o.d<64:=by rcases d2 with d2|d2<;>omega
  have e3:o.e<64:=by rcases e2 with e2|e2<;>omega
  simp only[Fr.flat,Ip]at ho;simp only[Fr.ends,Ip]at he;obtain⟨D,F⟩:=zba ho;obtain⟨gF,G⟩:=zba he;unfold Sg at C;split at C
  ·cases C
  rename_i t1 h1;obtain⟨s1,q1,q2,q3,q4,q5⟩:=doR_ok Y Z e3 a1 b1 c1 f1 h1;obtain⟨n,j,U,V,p3,M,p5,p6⟩:=zh5 r (i+1) H z T s1 t1 K hw.2 L F G (by rw[q2,hi]) (by rw[q3,X]) q4 C;have hk:=hw.1;have A:Qm os es s=some s1:=by
   unfold Qm;rw[hi,D];dsimp only;unfold Pu at hk;rw[Hs (λq=>by simp[q]at hk),Hs (λq=>by simp[q]at hk)];exact q1
  refine⟨n+1,j,?_,by rw[V];simp[Fr.size];omega,p3,M,by simp[Fr.costZ];omega,by simp[Fr.costZ];omega⟩;show (match Qm os es s with|none=>none|some j=>Ov os es n j)=_;rw[A];exact U
 |.loop o b e r,i,H,z,T,s,t,K,hw,L,ho,he,hi,X,Y,C=>by
  simp only[Fr.regs,Hq,mj,Hz,Iy]at L;obtain⟨⟨d1,d2⟩,d0,m1,gg,gG⟩:=L;have Z:o.d<64:=by rcases d2 with d2|d2<;>omega
  obtain⟨w1,w2,w3,w4⟩:=hw;have gz:o.kind=16:=by unfold Pu at w1;split at w1<;>first|assumption|(split at w1<;>omega)
  have gH:e.kind=17:=by
   unfold Pu at w2;split at w2
   ·omega
   ·split at w2
    ·assumption
    ·omega
  simp only[Fr.flat,Ip,I8]at ho;simp only[Fr.ends,Ip,I8]at he;obtain⟨D,F⟩:=zba ho;obtain⟨gF,G⟩:=zba he;have gA:=zpt F;have gC:=zpt G;rw[Fr.flat_len]at gA;rw[Fr.ends_len]at gC;obtain⟨gI,gK⟩:=zba gA;obtain⟨gL,gD⟩:=zba gC;have O:(es.getD (i+1+b.size) 0).toNat=i:=by rw[Hn,gL];simp
  unfold Sg at C;split at C
  ·cases C
  rename_i t1 h1;have gM:=zh7 b (o.d.toNat::H) (Ir ..) gg;have gZ:=o.imm.toNat_lt;have P:∀(n B:Nat) (s:Ms) (t:Fs),1≤n→B+n=o.imm.toNat→s.i=i+1→s.first=true→Rep nb sz s (t.put o.d.toNat (UInt64.ofNat B))→df (Sg sz b) o.d.toNat n B t=some t1 →
    ∃k j,Ov os es k s=some j∧j.i=i+b.size+2∧j.first=true∧Rep nb sz j t1∧k≤n*(b.costZ+2)-1∧j.l.length≤s.l.length+(n*(b.costZ+2)-1):=by
   intro n
   induction n with
   |zero=>intro B s t h;omega
   |succ n ih =>
    intro B s t _ hj gO gP gE E;unfold df at E;split at E
    ·cases E
    rename_i t2 h2;obtain⟨k,g,U,V,p3,M,p5,p6⟩:=zh5 b (i+1) (o.d.toNat::H) _ _ s _ t2 w3 gg F G gO gP gE h2;have gQ:t2.r o.d.toNat=UInt64.ofNat B:=by
     rw[Yl b _ _ gM h2];show (if o.d.toNat=o.d.toNat then _ else _)=_;rw[Hv rfl]
    have gR:atR g.r o.d=UInt64.ofNat B:=by
     rw[M.at Z];unfold R9;rw[Hs J,gQ]
    have A:Qm os es g=if UInt64.ofNat B+1<o.imm then some ⟨i,false,Mw g.r o.d (UInt64.ofNat B+1),g.bufs,g.l⟩ else some ⟨g.i+1,g.first,g.r,g.bufs,g.l⟩:=by
     unfold Qm;rw[V,gI];dsimp only;rw[Hs J,Hv gH,O,D];dsimp only;rw[gR]
    cases n with
    |zero =>
     have gT:¬(UInt64.ofNat B+1<o.imm):=by
      rw[I6];have:(UInt64.ofNat B+1:UInt64).toNat=(B+1)%18446744073709551616:=N
      rw[this];by_cases q:B+1<18446744073709551616
      ·rw[In q];omega
      ·omega
     rw[Hs gT]at A;cases E;refine⟨k+1,⟨g.i+1,g.first,g.r,g.bufs,g.l⟩,?_,?_,p3,M.ctl,J,by show g.l.length≤_;omega⟩
     ·rw[zh1 k 1 s g U];show (match Qm os es g with|none=>none|some j=>Ov os es 0 j)=_;rw[A];rfl
     ·show g.i+1=_;rw[V];omega
    |succ n =>
     have gU:UInt64.ofNat B+1<o.imm:=by
      rw[I6];have:(UInt64.ofNat B+1:UInt64).toNat=(B+1)%18446744073709551616:=N
      rw[this,In J];omega
     rw[Hv gU]at A;have gV:(UInt64.ofNat B+1:UInt64)=UInt64.ofNat (B+1):=ofNat_lt;have Q:Rep nb sz ⟨i+1,true,Mw g.r o.d (UInt64.ofNat B+1),g.bufs,g.l++[((i:Int),-1)]⟩ (t2.put o.d.toNat (UInt64.ofNat (B+1))):=by
      have h:=M.put (x:=o.d) (v:=UInt64.ofNat B+1) (i:=i+1) (f:=true) (l:=g.l++[((i:Int),-1)]) Z;rw[gV]at h ⊢;unfold Ql at h;rw[Hv d0]at h;exact h
     obtain⟨I,s3,u1,u2,u3,u4,u5,u6⟩:=ih (B+1) _ t2 J J rfl rfl Q E;have hm:(n+1+1)*(b.costZ+2)=(n+1)*(b.costZ+2)+(b.costZ+2):=Ll _ _;have g8:b.costZ+2≤(n+1)*(b.costZ+2):=Nat.le_mul_of_pos_left _ J;refine⟨k+(I+2),s3,?_,u2,u3,u4,J,?_⟩
     ·rw[zh1 k _ s g U];show (match Qm os es g with|none=>none|some j=>Ov os es (I+1) j)=_;rw[A];show (match Qm os es (⟨i,false,Mw g.r o.d (UInt64.ofNat B+1),g.bufs,g.l⟩:Ms) with|none=>none|some j=>Ov os es I j)=_;have:Qm os es (⟨i,false,Mw g.r o.d (UInt64.ofNat B+1),g.bufs,g.l⟩:Ms)=some ⟨i+1,true,Mw g.r o.d (UInt64.ofNat B+1),g.bufs,g.l++[((i:Int),-1)]⟩:=by
       unfold Qm;dsimp only;rw[D];dsimp only;rw[Hv gz];rfl
      rw[this];exact u1
     ·simp only[H4,Ig,Jo]at u6;omega
  have R:Rep nb sz ⟨i+1,true,Mw s.r o.d 0,s.bufs,s.l++[((i:Int),-1)]⟩ (t.put o.d.toNat (UInt64.ofNat 0)):=by
   have h:=Y.put (x:=o.d) (v:=0) (i:=i+1) (f:=true) (l:=s.l++[((i:Int),-1)]) Z;unfold Ql at h;rw[Hv d0]at h;exact h
  obtain⟨k,s1,U,V,p3,M,p5,p6⟩:=P o.imm.toNat 0 _ t m1 J rfl rfl R h1;have gY:b.costZ+2≤o.imm.toNat*(b.costZ+2):=Nat.le_mul_of_pos_left _ J;obtain⟨I,g,u1,u2,u3,u4,u5,u6⟩:=zh5 r (i+b.size+2) H z T s1 t1 K w4 gG (by rw[(J:i+b.size+2=i+1+b.size+1)];exact gK) (by rw[(J:i+b.size+2=i+1+b.size+1)]at gD ⊢;exact gD) V p3 M C;refine⟨(k+I)+1,g,?_,by rw[u2];simp[Fr.size];omega,u3,u4,by simp only[Fr.costZ];omega,?_⟩
  ·show (match Qm os es s with|none=>none|some j=>Ov os es (k+I) j)=_;have:Qm os es s=some ⟨i+1,true,Mw s.r o.d 0,s.bufs,s.l++[((i:Int),-1)]⟩:=by
    unfold Qm;rw[hi,D];dsimp only;rw[Hv gz,X];rfl
   rw[this];show Ov os es (k+I) _=_;rw[zh1 k I _ s1 U];exact u1
  ·simp only[H4,Ig,Jo]at p6;simp only[Fr.costZ];omega
end
def Us:Nat→List Nat→List Int→List Lo→List Int
 |_,_,g,[]=>g
 |i,st,g,o::l=>if o.kind=16 then Us (i+1) (i::st) (g.set i (-1)) l
  else if o.kind=17 then (match st with
   |[]=>Us (i+1) [] (g.set i (-1)) l
   |a::j=>Us (i+1) j (((g.set i (-1)).set i a).set a i) l)
  else Us (i+1) st (g.set i (-1)) l
def endsR_tree:∀(f:Fr Lo) (i:Nat) (st:List Nat) (j g:List Int) (z:List Lo),f.wf Pu→j.length=i →
  Us i st (j++List.replicate f.size 0++g) (f.flat++z)=Us (i+f.size) st (j++f.ends i++g) z
 |.nil,i,st,j,g,z,_,_=>by simp[Fr.flat,Fr.size,Fr.ends]
 |.op o r,i,st,j,g,z,w,B=>by
  have h:=endsR_tree r (i+1) st (j++[-1]) g z w.2 Ao;have G:=w.1;have K:¬o.kind=16:=λq=>by simp[Pu,q]at G
  have L:¬o.kind=17:=λq=>by simp[Pu,q]at G
  simp only[Fr.flat,Fr.size,Fr.ends,Ip,Us,K,L,Le,Kg];simp only[I8,Ip,L8]at h ⊢;rw[Kl _ _ J,(J:i-j.length=0),Mf,h]
  congr 1;omega
 |.loop o b e r,i,st,j,g,z,w,B=>by
  obtain⟨C,D,M,O⟩:=w;have E:o.kind=16:=by unfold Pu at C;split at C<;>first|assumption|(split at C<;>omega)
  have F:e.kind=17:=by
   unfold Pu at D;split at D
   ·omega
   ·split at D
    ·assumption
    ·omega
  have H:=endsR_tree b (i+1) (i::st) (j++[-1]) ([0]++List.replicate r.size 0++g) (e::(r.flat++z)) M Ao;have I:=endsR_tree r (i+b.size+2) st (j++[((i+b.size+1:Nat):Int)]++b.ends (i+1)++[(i:Int)]) g z O (by simp[B,Fr.ends_len];omega);have P:List.replicate (b.size+r.size+2) (0:Int)=[0]++List.replicate b.size 0++([0]++List.replicate r.size 0):=by
   rw[(J:b.size+r.size+2=1+b.size+(1+r.size)),←Lr,←Lr,←Lr];rfl
  simp only[Fr.flat,Fr.size,Ip,Us,E,Ky];rw[P];simp only[I8,Ip,L8]at H I ⊢;rw[Kl _ _ J,(J:i-j.length=0),Mf,H];simp only[Us,F];have A:(((j++(-1:Int)::(b.ends (i+1)++(0:Int)::(List.replicate r.size 0++g))).set (i+1+b.size) (-1)).set (i+1+b.size) (i:Int)).set i ((i+1+b.size:Nat):Int)
    = j++((i+b.size+1:Nat):Int)::(b.ends (i+1)++(i:Int)::(List.replicate r.size 0++g)):=by
   rw[List.set_set,Kl _ _ J,Kl _ _ J,(J:i+1+b.size-j.length=b.size+1),(J:i-j.length=0),Mg,Mf,
    Kl _ _ (by rw[Fr.ends_len];exact Hw _),Fr.ends_len,Kt,Mf,(J:i+1+b.size=i+b.size+1)]
  rw[A,(J:i+1+b.size+1=i+b.size+2),I];simp only[Fr.ends,Ip,I8];rw[(J:i+(b.size+r.size+2)=i+b.size+2+r.size)];simp[Nat.add_comm]
def zvu{f:Fr Lo}(w:f.wf Pu):Us 0 [] (List.replicate f.size 0) f.flat=f.ends 0:=by
 have h:=endsR_tree f 0 [] [] [] [] w rfl;simp only[I9,L8,Us]at h;exact h
def lj{f:Fr Lo}:∀{d:Nat} {rest:List Lo},f.wf Pu→Vt Pu d rest→Vt Pu d (f.flat++rest):=by
 induction f with
 |nil=>intro d rest _ h;exact h
 |op o r z =>
  intro d rest w h;simp only[Fr.flat,Ip];unfold Vt;rw[w.1,Hs Ad,Hs Ad];exact⟨rfl,z w.2 h⟩
 |loop o b e r g j =>
  intro d rest w h;obtain⟨A,B,C,D⟩:=w;simp only[Fr.flat,Ip,I8];unfold Vt;rw[A,Hv rfl];refine g C ?_;unfold Vt;rw[B,Hs Ad,Hv rfl];exact⟨J,j D h⟩
def endsR_len:∀(l:List Lo) (i:Nat) (st:List Nat) (g:List Int),(Us i st g l).length=g.length
 |[],_,_,_=>rfl
 |o::l,i,st,g=>by
  unfold Us;split
  ·rw[endsR_len];simp
  ·split
   ·split<;>rw[endsR_len]<;>simp
   ·rw[endsR_len];simp
def U5:List (Int×Int)→Int→List Lo→Int
 |_,s,[]=>s
 |st,s,o::l=>if o.kind=16 then U5 ((s,(o.imm.toNat:Int))::st) 1 l
  else if o.kind=17 then (match st with
   |[]=>U5 [] s l
   |(j,t)::g=>U5 g (min 1125899906842624 ((if 1125899906842624/t<s then 1125899906842624 else s*t)+j)) l)
  else U5 st (min 1125899906842624 (s+1)) l
def Fr.stp:Fr Lo→Nat
 |.nil=>0
 |.op _ r=>1+r.stp
 |.loop o b _ r=>o.imm.toNat*(1+b.stp)+r.stp
def zru{a b:Nat}(h:1≤a):b≤a*b:=Nat.le_mul_of_pos_left _ h
def zgr{K:Nat}:∀(f:Fr Lo) (j:List Nat) (st:List (Int×Int)) (s:Nat) (g:List Lo),f.wf Pu→f.regs K j=true→s+f.stp≤1125899906842624→U5 st s (f.flat++g)=U5 st ((s+f.stp:Nat):Int) g
 |.nil,_,st,s,g,_,_,_=>by simp[Fr.flat,Fr.stp]
 |.op o r,j,st,s,g,w,z,A=>by
  have H:=w.1;have L:¬o.kind=16:=λq=>by simp[Pu,q]at H
  have M:¬o.kind=17:=λq=>by simp[Pu,q]at H
  simp only[Fr.regs,Hq]at z;simp only[Fr.stp]at A ⊢;simp only[Fr.flat,Ip,U5,L,M,Le];rw[(J:min (1125899906842624:Int) ((s:Int)+1)=((s+1:Nat):Int)),zgr r j st (s+1) g w.2 z.2.2.2.2.2.2 J]
  congr 1;omega
 |.loop o b e r,j,st,s,g,w,z,A=>by
  obtain⟨B,C,O,P⟩:=w;have D:o.kind=16:=by unfold Pu at B;split at B<;>first|assumption|(split at B<;>omega)
  have E:e.kind=17:=by
   unfold Pu at C;split at C
   ·omega
   ·split at C
    ·assumption
    ·omega
  simp only[Fr.regs,Hq,Hz]at z;obtain⟨_,_,I,F,G⟩:=z;simp only[Fr.stp]at A ⊢;have Q:=zru (b:=1+b.stp) I;simp only[Fr.flat,Ip,I8,U5,D,Ky];rw[show (1:Int)=((1:Nat):Int) from rfl,zgr b _ _ 1 _ O F J];simp only[U5,E];rw[Hs (Ad:¬(17:Int)=16),Hv trivial];have R:¬(1125899906842624/((o.imm.toNat:Nat):Int)<((1+b.stp:Nat):Int)):=by
   have T:(1+b.stp)*o.imm.toNat≤1125899906842624:=by rw[Ka];omega
   have U:1+b.stp≤1125899906842624/o.imm.toNat:=(Nat.le_div_iff_mul_le I).2 T;have V:((1125899906842624/o.imm.toNat:Nat):Int)=1125899906842624/((o.imm.toNat:Nat):Int):=N
   omega
  rw[Hs R];have hm:(((1+b.stp:Nat):Int)*((o.imm.toNat:Nat):Int))=((o.imm.toNat*(1+b.stp):Nat):Int):=by rw[Ka];simp
  rw[hm,(J:min (1125899906842624:Int) (((o.imm.toNat*(1+b.stp):Nat):Int)+(s:Int))=((s+o.imm.toNat*(1+b.stp):Nat):Int)),zgr r j st _ g P G J]
  congr 1;omega
def kg{f:Fr Lo}(w:f.wf Pu)(j:f.regs g vD=true)(z:f.stp≤1125899906842624):U5 [] 0 f.flat=f.stp:=by
 have h:=zgr f vD [] 0 [] w j J;simp only[I9,U5,Iq]at h;exact h
def Um(b:Bf)(x:List UInt64):List UInt64:=x++List.replicate (b.size.toNat-x.length) 0
def Sd(bs:List Bf)(X:List (List UInt64))(n:Nat):List (List UInt64):=(List.range n).map λi=>Um (M7 bs i) (X.getD i [])
def O1(g:Int)(bs:List Bf)(X:List (List UInt64)):Ms:=⟨0,true,List.replicate g.toNat 0,Sd bs X bs.length,[]⟩
def fv(g:List Bf)(j:List (List UInt64))(n:Nat):(Sd g j n).length=n:=by simp[Sd]
def zdi(r:List UInt64)(x:Int)(v:UInt64):(Mw r x v).length=r.length:=D0
structure SameLen (s s':Ms):Prop where
 r:s'.r.length=s.r.length
 b:s'.bufs.map List.length=s.bufs.map List.length
 i:s'.i=s.i+1
 l:s'.l.length=s.l.length+1
 f:s'.first=s.first
def uh{o:Lo}{s j:Ms}(h:T7 o s=some j):SameLen s j:=by
 unfold T7 at h;split at h
 ·split at h
  ·cases h;exact⟨by simp[zdi],rfl,rfl,N,rfl⟩
  ·cases h
 ·split at h
  ·split at h
   ·rename_i z;cases h;refine⟨by simp[zdi],?_,rfl,N,rfl⟩;show (s.bufs.set _ _).map List.length=_;rw[I3,Jv];refine Ln λA=>?_
    by_cases q:o.buf.toNat=A
    ·subst q;by_cases g:o.buf.toNat<s.bufs.length
     ·rw[Hu A2];simp[Tb,Hn,g]
     ·rw[Jz A2,Jz A2]
    ·rw[Ho q]
   ·cases h
  ·cases h;exact⟨by simp[zdi],rfl,rfl,N,rfl⟩
def zut{os:List Lo}{es:List Int}{s:Ms}(h:os[s.i]?=none):∀n,Ov os es n s=some s
 |0=>rfl
 |n+1=>by
  show (match Qm os es s with|none=>none|some g=>Ov os es n g)=_;have:Qm os es s=some s:=by unfold Qm;rw[h]
  rw[this];exact zut h n
def ends_at:∀(f:Fr Lo) (i j:Nat) (o:Lo),f.wf Pu→f.flat[j]?=some o→o.kind=17→∃k p,(f.ends i)[j]?=some ((i+k:Nat):Int)∧f.flat[k]?=some p∧p.kind=16
 |.nil,_,_,_,_,h,_=>by simp[Fr.flat]at h
 |.op a r,i,j,o,w,h,z=>by
  have C:=w.1;have H:¬a.kind=17:=λq=>by simp[Pu,q]at C
  cases j with
  |zero=>simp[Fr.flat]at h;subst h;exact absurd z H
  |succ j =>
   simp only[Fr.flat,Ib]at h;obtain⟨k,p,A,g,B⟩:=ends_at r (i+1) j o w.2 h z;exact⟨k+1,p,by simp only[Fr.ends,Ib];rw[A];congr 2;omega,by simpa only[Fr.flat,Ib] using g,B⟩
 |.loop a b e r,i,j,o,w,h,z=>by
  obtain⟨D,M,I,K⟩:=w;have E:a.kind=16:=by unfold Pu at D;split at D<;>first|assumption|(split at D<;>omega)
  cases j with
  |zero=>simp[Fr.flat]at h;subst h;omega
  |succ j =>
   simp only[Fr.flat,Ib]at h;simp only[Fr.ends,Ib];by_cases G:j<b.size
   ·rw[Hx (by rw[Fr.flat_len];exact G)]at h;obtain⟨k,p,A,g,B⟩:=ends_at b (i+1) j o I h z;have F:k<b.size:=by rw[←Fr.flat_len];exact (Hm.1 g).1
    refine⟨k+1,p,?_,?_,B⟩
    ·rw[Hx (by rw[Fr.ends_len];exact G),A];congr 2;omega
    ·simp only[Fr.flat,Ib];rw[Hx (by rw[Fr.flat_len];exact F)];exact g
   ·rw[H9 (by rw[Fr.flat_len];omega),Fr.flat_len]at h;rw[H9 (by rw[Fr.ends_len];omega),Fr.ends_len];cases L:j-b.size with
    |zero =>
     refine⟨0,a,N,by simp[Fr.flat],E⟩
    |succ m =>
     rw[L]at h;simp only[Ib]at h ⊢;obtain⟨k,p,A,g,B⟩:=ends_at r (i+b.size+2) m o K h z;refine⟨k+b.size+2,p,by rw[A];congr 2;omega,?_,B⟩;simp only[Fr.flat,Ib];rw[H9 (by rw[Fr.flat_len];omega),Fr.flat_len,(J:k+b.size+1-b.size=k+1),Ib];exact g
noncomputable section
structure Pc where
 buf:Int
 at_:Int
 size:Int
def Pc.f(p:Pc):List LV:=[.i p.buf,.i p.at_,.i p.size]
def cK(d:Int)(n:UInt64):Lo:=⟨1,d,-1,-1,-1,-1,0,n⟩
def M8(k d a b:Int):Lo:=⟨k,d,-1,a,b,-1,0,0⟩
def Nc(h l a b:Int):Lo:=⟨10,h,l,a,b,-1,0,0⟩
def Nw(k d g a b c:Int):Lo:=⟨k,d,g,a,b,c,0,0⟩
def Pg(d c a b:Int):Lo:=⟨13,d,-1,a,b,c,0,0⟩
def Nb(d:Int)(p:Pc)(i off:Int):Lo:=⟨14,d,-1,i,-1,-1,p.buf,iU (p.at_+off)⟩
def N7(p:Pc)(i off b:Int):Lo:=⟨15,-1,-1,i,b,-1,p.buf,iU (p.at_+off)⟩
def R0(d g:Int):Lo:=⟨16,d,-1,-1,-1,-1,0,iU g⟩
def Se:Lo:=⟨17,-1,-1,-1,-1,-1,0,0⟩
def Kp(e:Nat)(z j:Mp):Prop:=z.length≤j.length∧∀(q:Nat) (g:LObj),q≠e→(∀A m k st,g≠LObj.dyn A m 8 k st)→z[q]?=some g→j[q]?=some g
def Kp.refl(e:Nat)(G:Mp):Kp e G G:=⟨Hw _,λ_ _ _ _ h=>h⟩
def Kp.trans{e:Nat}{a b c:Mp}(h:Kp e a b)(k:Kp e b c):Kp e a c:=⟨Is h.1 k.1,λq ob h1 h2 h3=>k.2 q ob h1 h2 (h.2 q ob h1 h2 h3)⟩
def Kp.cells{e:Nat}{a b:Mp}(h:Kp e a b){q st:Nat}{l:List LV}(hq:q≠e)(hc:a[q]?=some (.cells l st)):b[q]?=some (.cells l st):=h.2 q _ hq (λ_ _ _ _ e=>Aq) hc
def Kp.app{e:Nat}{a b:Mp}(h:Kp e a b)(x:List LObj):Kp e a (b++x):=⟨by have:=h.1;simp;omega,λq ob h1 h2 h3=>by have h4:=h.2 q ob h1 h2 h3;rw[M6 (Hm.1 h4).1];exact h4⟩
def Kp.app'(e:Nat)(a:Mp)(x:List LObj):Kp e a (a++x):=(Kp.refl e a).app x
def Of(g:Mp)(e:Nat)(ops:List Lo)(deep:Int):Prop:=∃(st:Nat) (v:LV),g[e]?=some (.cells [v,.i deep] st)∧Pl 0 g v 8 ops.length (P1 ops)
def Pl.set_cells{b:Nat}{G:Mp}{v:LV}{n:Nat}{l:List LV}(h:Pl b G v j n l){q st:Nat}{c:List LV}{ob:LObj}(hq:G[q]?=some (.cells c st)):Pl b (G.set q ob) v j n l:=by
 obtain⟨h1,h2,h|⟨p,k,st,a,e,d⟩⟩:=h
 ·exact⟨h1,h2,.inl h⟩
 ·exact⟨h1,h2,.inr ⟨p,k,st,a,e,by rw[Ho (λq'=>by rw[q',d]at hq;cases hq)];exact d⟩⟩
def Pl.row{b:Nat}{G:Mp}{v:LV}{esz n:Nat}{l:List LV}(h:Pl b G v esz n l){q:Nat}(e:v=.dy q j):∃R m k st,G[q]?=some (.dyn R m esz k st):=by
 obtain⟨_,_,⟨h,_⟩|⟨p,k,st,_,e2,d⟩⟩:=h
 ·rw[h]at e;cases e
 ·rw[e2]at e;cases e;exact⟨_,_,_,_,d⟩
def Of.app{G:Mp}{e:Nat}{ops:List Lo}{deep:Int}(h:Of G e ops deep)(x:List LObj):Of (G++x) e ops deep:=by
 obtain⟨st,v,h1,h2⟩:=h;exact⟨st,v,by rw[M6 (Hm.1 h1).1];exact h1,h2.push_end⟩
end
section
section made
variable {wk : Bool → Int} {a b P0 : Nat → Int} {sec : Nat → Bool} {done busy : List Nat} {iv : Nat → Hl} {ps : Bool → St} {cur base : Int} {n : Nat}
end made
end
section
def nh{α:Type}(k:α→Int)(l:List α):Prop:=l.Pairwise λx y=>k x≤k y
section sym
variable {α : Type} {k : α → Int}
def nh.last{l:List α}(h:nh k l){u z:α}(hu:u∈l)(hz:l.getLast?=some z):k u≤k z:=by
 obtain⟨ys,rfl⟩:=List.getLast?_eq_some_iff.1 hz;have:=List.pairwise_append.1 h;rcases Ih.1 hu with q|q
 ·exact this.2.2 u q z N
 ·rw[Mh.1 q];exact Int.le_refl _
def nh.head{l:List α}(h:nh k l){u z:α}(hu:u∈l)(hz:l.head?=some z):k z≤k u:=by
 obtain⟨ys,rfl⟩:=List.head?_eq_some_iff.1 hz;have:=List.pairwise_cons.1 h;rcases H5.1 hu with q|q
 ·rw[q];exact Int.le_refl _
 ·exact this.1 u q
def zxh{l:List α}{u:α}(h:u∈l):∃j,l.getLast?=some j:=by
 cases g:l.getLast? with
 |none=>rw[List.getLast?_eq_none_iff]at g;subst g;cases h
 |some j=>exact⟨j,rfl⟩
def zyp{l:List α}{u:α}(h:u∈l):∃g,l.head?=some g:=by
 cases l with
 |nil=>cases h
 |cons g t=>exact⟨g,rfl⟩
def halves{z A B C:List α}(D:nh k (z++A))(E:nh k (B++C))(F:∀u w,z.getLast?=some u→C.head?=some w→k u≤k w)(G:∀u w,B.getLast?=some u→A.head?=some w→k u≤k w) :
  ∀u∈z++B,∀w∈A++C,k u≤k w:=by
 obtain⟨H,I,K⟩:=List.pairwise_append.1 D;obtain⟨L,M,O⟩:=List.pairwise_append.1 E;intro u hu w hw;rcases Ih.1 hu with hu|hu<;>rcases Ih.1 hw with hw|hw
 ·exact K u hu w hw
 ·obtain⟨P,g⟩:=zxh hu;obtain⟨y,j⟩:=zyp hw;exact Int.le_trans (nh.last H hu g) (Int.le_trans (F P y g j) (nh.head M hw j))
 ·obtain⟨P,g⟩:=zxh hu;obtain⟨y,j⟩:=zyp hw;exact Int.le_trans (nh.last L hu g) (Int.le_trans (G P y g j) (nh.head I hw j))
 ·exact O u hu w hw
end sym
end
def zwu(g:List Vr):Rv g (Uh 0 g) []=P3 g:=by
 unfold Rv;cases hv:P3 g with
 |false=>rfl
 |true =>
  have D:=zdp hv;have z:=startOs_len g 0;obtain⟨m,A,E,B⟩:=zdw g 0 (Y0 g) rfl (by simp[Y0]) (λF j=>J) (λF _ j=>by
   unfold gb Y0;rw[Hn,Jj,Sr j];rfl)
  rw[A];have hm:np g m=true:=by
   unfold np;rw[Jh];intro i hi;simp[B i (J0.1 hi)]
  have C:(Uh 0 g).length≤4096:=J
  simp[hm,C]
def Rr(l:List Pc)(n:Nat):Pc:=l.getD n ⟨0,0,0⟩
def bo(g:List Bf):Int :=
 if 32<g.length then 3 else if (g.any λb=>decide (65536<b.size))=true then 3 else if (g.any λb=>decide (b.size<1) || (decide (b.kind<1) || decide (3<b.kind)))=true then 2 else 0
def U0(g:List Bf)(x:Pc):Bool:=decide (0≤x.buf)&&(decide (x.buf<g.length)&&(decide (1≤x.size)&&(decide (x.size≤32768)&&(decide (0≤x.at_)&&(decide (x.at_≤(M7 g x.buf.toNat).size)&&decide (x.size≤(M7 g x.buf.toNat).size-x.at_))))))
def aw(g:List Bf)(v:Vr)(x:Pc):Bool :=
 U0 g x&&(decide (x.size=v.limbs)&&(!(decide ((M7 g x.buf.toNat).kind=1) && !Q2 v)&&(!(decide ((M7 g x.buf.toNat).kind=2)&&Q2 v)&&(v.sec==(M7 g x.buf.toNat).sec))))
def Vm(g:List Bf)(s:Bool)(x:Pc):Bool:=U0 g x&&(!decide ((M7 g x.buf.toNat).kind=1)&&((M7 g x.buf.toNat).sec==s))
def U2(j:List Vr)(g:List Bf)(z:List Pc)(A B:Pc):Bool :=
 P3 j&&(decide (1≤g.length)&&(decide (z.length=j.length)&&(decide (bo g=0)&&(((List.range j.length).all λi=>aw g (gv j i) (Rr z i))&&(Vm g false A&&Vm g true B)))))
def Vk(l:List Pc):List LV:=l.flatMap Pc.f
section
def Nu:List Lo→Fr Lo
 |[]=>.nil
 |o::l=>.op o (Nu l)
def Fr.cat{α:Type}:Fr α→Fr α→Fr α
 |.nil,g=>g
 |.op o r,g=>.op o (r.cat g)
 |.loop o b e r,g=>.loop o b e (r.cat g)
def flat_frL:∀l:List Lo,(Nu l).flat=l
 |[]=>rfl
 |o::l=>by rw[Nu,Fr.flat,flat_frL l]
def Si{j:Type}:∀f g:Fr j,(f.cat g).flat=f.flat++g.flat
 |.nil,g=>rfl
 |.op o r,g=>by rw[Fr.cat,Fr.flat,Fr.flat,Si r g];rfl
 |.loop o b e r,g=>by rw[Fr.cat,Fr.flat,Fr.flat,Si r g];simp
def frL_app:∀a b:List Lo,Nu (a++b)=(Nu a).cat (Nu b)
 |[],_=>rfl
 |o::a,b=>by rw[Ip,Nu,Nu,Fr.cat,frL_app a b]
def stp_cat:∀f g:Fr Lo,(f.cat g).stp=f.stp+g.stp
 |.nil,g=>by simp[Fr.cat,Fr.stp]
 |.op o r,g=>Ei
 |.loop o b e r,g=>Ei
def ziv(l:List Lo):(Nu l).stp=l.length:=by
 induction l with
 |nil=>rfl
 |cons o l g=>rw[Nu,Fr.stp,g,Ig];omega
section ex
variable {sz : Nat → Nat} {s : Fs}
def exZ_cat:∀(f g:Fr Lo) (s:Fs),Sg sz (f.cat g) s=(Sg sz f s).bind (Sg sz g)
 |.nil,g,s=>rfl
 |.op o r,g,s=>by
  rw[Fr.cat,Sg,Sg];cases Qc sz o s with
  |none=>rfl
  |some j=>exact exZ_cat r g j
 |.loop o b e r,g,s=>by
  rw[Fr.cat,Sg,Sg];cases df (Sg sz b) o.d.toNat o.imm.toNat 0 s with
  |none=>rfl
  |some j=>exact exZ_cat r g j
def Tx(sz:Nat→Nat)(f:Fr Lo)(s:Fs)(Q:Fs→Prop):Prop:=∃g,Sg sz f s=some g∧Q g
def Tx.nil{Q:Fs→Prop}(h:Q s):Tx sz .nil s Q:=⟨s,rfl,h⟩
def Tx.op{o:Lo}{r:Fr Lo}{s1:Fs}{Q:Fs→Prop}(h:Qc sz o s=some s1)(k:Tx sz r s1 Q):Tx sz (.op o r) s Q:=by
 obtain⟨s',h1,h2⟩:=k;exact⟨s',by rw[Sg,h];exact h1,h2⟩
def Tx.cat{f g:Fr Lo}{Q R:Fs→Prop}(h:Tx sz f s R)(k:∀s',R s'→Tx sz g s' Q):Tx sz (f.cat g) s Q:=by
 obtain⟨s1,h1,h2⟩:=h;obtain⟨s2,h3,h4⟩:=k s1 h2;exact⟨s2,by rw[exZ_cat,h1];exact h3,h4⟩
def Tx.mono{f:Fr Lo}{Q R:Fs→Prop}(h:Tx sz f s R)(k:∀s',R s'→Q s'):Tx sz f s Q:=by
 obtain⟨s1,h1,h2⟩:=h;exact⟨s1,h1,k s1 h2⟩
def wh{f:Fs→Option Fs}{d:Nat}{z:Nat→Fs→Prop}:∀(n j:Nat) (s:Fs),z j s→(∀i s,i<j+n→z i s→∃g,f (s.put d (UInt64.ofNat i))=some g∧z (i+1) g)→∃g,df f d n j s=some g∧z (j+n) g
 |0,j,s,h,_=>⟨s,rfl,h⟩
 |n+1,j,s,h,k=>by
  obtain⟨A,B,C⟩:=k j s J h;obtain⟨D,E,F⟩:=wh n (j+1) A C λi s hi G=>k i s J G
  refine⟨D,?_,by rw[(J:j+(n+1)=j+1+n)];exact F⟩;show (match f (s.put d (UInt64.ofNat j)) with|none=>none|some g=>df f d n (j+1) g)=_;rw[B];exact E
def Tx.loop{o e:Lo}{b r:Fr Lo}{Q:Fs→Prop}(I:Nat→Fs→Prop)(h0:I 0 s)(h1:∀i s,i<o.imm.toNat→I i s→Tx sz b (s.put o.d.toNat (UInt64.ofNat i)) (I (i+1)))(h2:∀s',I o.imm.toNat s'→Tx sz r s' Q):Tx sz (.loop o b e r) s Q:=by
 obtain⟨s1,h3,h4⟩:=wh o.imm.toNat 0 s h0 λi s hi hI=>h1 i s J hI
 rw[Iq]at h4;obtain⟨s2,h5,h6⟩:=h2 s1 h4;exact⟨s2,by rw[Sg,h3];exact h5,h6⟩
def nq(s:Fs)(d:Nat)(v:UInt64):Ql s (d:Int) v=s.put d v:=by unfold Ql;rw[Hv J];rfl
def vh(s:Fs)(v:UInt64):Ql s (-1) v=s:=by unfold Ql;rw[Hs J]
def m6(s:Fs)(d:Nat):R9 s (d:Int)=s.r d:=by unfold R9;rw[Hs J];rfl
def c6(s:Fs):R9 s (-1)=0:=by unfold R9;rw[Hv J]
def w9{d:Nat}{v:UInt64}:Qc sz (cK d v) s=some (s.put d v):=by simp[Qc,cK,Nj,nq,vh]
def zs8{d a b:Nat}:Qc sz (M8 3 d a b) s=some (s.put d (s.r a+s.r b)):=Du
def zx4{d a b:Nat}:Qc sz (M8 4 d a b) s=some (s.put d (s.r a-s.r b)):=Du
def qq{d a b:Nat}:Qc sz (M8 7 d a b) s=some (s.put d (s.r a ^^^ s.r b)):=Du
def zjm{h l a b:Nat}:Qc sz (Nc h l a b) s=some ((s.put h (Ss (s.r a) (s.r b))).put l (s.r a*s.r b)):=by simp[Qc,Nc,Nj,nq,m6]
def zry{d e a b c:Nat}:Qc sz (Nw 11 d e a b c) s=some ((s.put d (M1 (s.r a) (s.r b) (decide (s.r c%2=1))).1).put e (O4 (M1 (s.r a) (s.r b) (decide (s.r c%2=1))).2)):=by simp[Qc,Nw,Nj,nq,m6]
def zyb{d e a b c:Nat}:Qc sz (Nw 12 d e a b c) s=some ((s.put d (Og (s.r a) (s.r b) (decide (s.r c%2=1))).1).put e (O4 (Og (s.r a) (s.r b) (decide (s.r c%2=1))).2)):=by simp[Qc,Nw,Nj,nq,m6]
def ud{d c a b:Nat}:Qc sz (Pg d c a b) s=some (s.put d (if s.r c%2=1 then s.r a else s.r b)):=by
 simp[Qc,Pg,Nj,nq,vh,m6]
def opZ_ld{d i:Nat}{p:Pc}{b n:Nat}(j:p.buf=(b:Int))(A:(iU (p.at_+z)+s.r i).toNat=n)(g:n<sz b):Qc sz (Nb d p i z) s=some (s.put d (s.m b n)):=by
 simp[Qc,Nb,nq,vh,m6,j,A,g]
def sh{d:Nat}{p:Pc}{b n:Nat}(j:p.buf=(b:Int))(A:(iU (p.at_+z)).toNat=n)(g:n<sz b):Qc sz (Nb d p (-1) z) s=some (s.put d (s.m b n)):=by
 simp[Qc,Nb,nq,vh,c6,j,A,g]
def opZ_st{v i:Nat}{p:Pc}{b n:Nat}(j:p.buf=(b:Int))(A:(iU (p.at_+z)+s.r i).toNat=n)(g:n<sz b):Qc sz (N7 p i z v) s=some (s.sto b n (s.r v)):=by
 simp[Qc,N7,vh,m6,j,A,g]
def sr{v:Nat}{p:Pc}{b n:Nat}(j:p.buf=(b:Int))(A:(iU (p.at_+z)).toNat=n)(g:n<sz b):Qc sz (N7 p (-1) z v) s=some (s.sto b n (s.r v)):=by
 simp[Qc,N7,vh,c6,m6,j,A,g]
end ex
def N0(s:Fs)(d x:Nat)(v:UInt64):(s.put d v).r x=if x=d then v else s.r x:=rfl
def Ry(s:Fs)(d:Nat)(v:UInt64):(s.put d v).m=s.m:=rfl
def Y5(s:Fs)(b n:Nat)(v:UInt64):(s.sto b n v).r=s.r:=rfl
def d7(s:Fs)(b n x y:Nat)(v:UInt64):(s.sto b n v).m x y=if x=b∧y=n then v else s.m x y:=rfl
def Rn(s:Ms):Fs:=⟨λx=>s.r.getD x 0,λb n=>(s.bufs.getD b []).getD n 0⟩
def bx(s:Ms):Nat→Nat:=λb=>(s.bufs.getD b []).length
def Rep.abs(s:Ms)(h:s.r.length=64):Rep s.bufs.length (bx s) s (Rn s):=⟨h,λ_ _=>rfl,rfl,λ_ _=>rfl,λ_ _ _ _=>rfl⟩
end
def zgy{d:Int}{v:UInt64}(h:0≤d∧d<z):Po z X (cK d v)=true:=by
 simp[Po,cK,Qg,P7,P9,Qu,V9,V1,Om,h]
def zbp{k d a b:Int}(B:3≤k∧k≤7)(h:0≤d∧d<z)(g:0≤a∧a<z)(j:0≤b∧b<z):Po z X (M8 k d a b)=true:=by
 have A:k=3∨k=4∨k=5∨k=6∨k=7:=J
 rcases A with rfl|rfl|rfl|rfl|rfl<;>simp[Po,M8,Qg,P7,P9,Qu,V9,V1,Om,h,g,j]
def zbn{d e a b:Int}(h:0≤d∧d<z)(he:0≤e∧e<z)(g:0≤a∧a<z)(j:0≤b∧b<z)(A:d≠e):Po z X (Nc d e a b)=true:=by
 simp[Po,Nc,Qg,P7,P9,Qu,V9,V1,Om,h,g,j,he,A]
def zvn{k d e a b c:Int}(g:k=11∨k=12)(h:0≤d∧d<z)(he:0≤e∧e<z)(j:0≤a∧a<z)(A:0≤b∧b<z)(B:0≤c∧c<z)(C:d≠e):Po z X (Nw k d e a b c)=true:=by
 rcases g with rfl|rfl<;>simp[Po,Nw,Qg,P7,P9,Qu,V9,V1,Om,h,j,A,B,he,C]
def zw9{d c a b:Int}(h:0≤d∧d<z)(g:0≤c∧c<z)(j:0≤a∧a<z)(A:0≤b∧b<z):Po z X (Pg d c a b)=true:=by
 simp[Po,Pg,Qg,P7,P9,Qu,V9,V1,Om,h,j,A,g]
def zo1{d i:Int}{p:Pc}(h:0≤d∧d<z)(hi:i=-1∨0≤i∧i<z)(g:0≤p.buf∧p.buf<X.length)(hm:i=-1→iU (p.at_+C)<iU (M7 X p.buf.toNat).size):Po z X (Nb d p i C)=true:=by
 rcases hi with rfl|hi
 ·simp[Po,Nb,Qg,P7,P9,Qu,V9,V1,Om,h,g,hm rfl]
 ·have:i≠-1:=J
  simp[Po,Nb,Qg,P7,P9,Qu,V9,V1,Om,h,g,hi,this]
def zqv{v i:Int}{p:Pc}(h:0≤v∧v<z)(hi:i=-1∨0≤i∧i<z)(g:0≤p.buf∧p.buf<X.length)(j:(M7 X p.buf.toNat).kind≠1)(hm:i=-1→iU (p.at_+C)<iU (M7 X p.buf.toNat).size):Po z X (N7 p i C v)=true:=by
 rcases hi with rfl|hi
 ·simp[Po,N7,Qg,P7,P9,Qu,V9,V1,Om,h,g,hm rfl,j]
 ·have:i≠-1:=J
  simp[Po,N7,Qg,P7,P9,Qu,V9,V1,Om,h,g,hi,this,j]
def Pm(g:Int)(j:List Bf):List Int→List Lo→Prop
 |_,[]=>True
 |S,o::l=>Po g j o=true∧(o.kind≠16∧o.kind≠17)∧(∀x∈N1 o,x∈S)∧Pm g j (M3 o++S) l
def zmt{g:Int}{A:List Bf}:∀{l:List Lo} {S z:List Int},(∀x∈S,x∈z)→Pm g A S l→Pm g A z l
 |[],_,_,_,_=>trivial
 |o::l,S,z,h,k=>⟨k.1,k.2.1,λx j=>h x (k.2.2.1 x j),zmt (λx j=>by
   rcases Ih.1 j with j|j
   ·exact K5 _ j
   ·exact Iv _ (h x j)) k.2.2.2⟩
def zsl{g:Int}{z:List Bf}:∀{a b:List Lo} {S:List Int},Pm g z S a→Pm g z ((a.flatMap M3)++S) b→Pm g z S (a++b)
 |[],b,S,_,k=>by simpa using k
 |o::a,b,S,h,k=>⟨h.1,h.2.1,h.2.2.1,zsl h.2.2.2 (zmt (λx j=>by
   simp only[Kd,Ih]at j ⊢;rcases j with (j|j)|j
   ·exact .inr (.inl j)
   ·exact .inl j
   ·exact .inr (.inr j)) k)⟩
def zun{a b:List Lo}{S:List Int}(h:Pm z X S a)(k:Pm z X S b):Pm z X S (a++b) :=
 zsl h (zmt (λ_ g=>Iv _ g) k)
def bf(g:Int)(m:List Bool)(S:List Int):Prop:=(m.length:Int)=g∧∀x∈S,0≤x∧x<g∧Ok m x=true
def z8p{m:List Bool}{a x:Int}(g:0≤a∧a<m.length)(j:0≤x):Ok (m.set a.toNat true) x=true↔x=a∨Ok m x=true:=by
 unfold Ok;rw[Vo _ _ _ _ _ J];by_cases e:x.toNat=a.toNat
 ·rw[Hv e];simp;left;omega
 ·rw[Hs e];constructor
  ·exact .inr
  ·rintro (rfl|h)
   ·exact absurd rfl e
   ·exact h
def bf.fold{regs:Int}:∀(mk:List Int) (m:List Bool) (S:List Int),bf regs m S→(∀x∈mk,0≤x∧x<regs)→bf regs (mk.foldl (λm r=>m.set r.toNat true) m) (mk++S)
 |[],_,_,h,_=>h
 |a::mk,m,S,h,hr=>by
  have ha:=hr a (Ir ..);have h1:bf regs (m.set a.toNat true) (a::S):=by
   refine⟨by simpa using h.1,λx hx=>?_⟩;rcases H5.1 hx with rfl|hx
   ·exact⟨ha.1,ha.2,(z8p ⟨ha.1,by rw[h.1];exact ha.2⟩ ha.1).2 (.inl rfl)⟩
   ·obtain⟨h1,h2,h3⟩:=h.2 x hx;exact⟨h1,h2,(z8p ⟨ha.1,by rw[h.1];exact ha.2⟩ h1).2 (.inr h3)⟩
  have h2:=bf.fold mk _ _ h1 λx hx=>hr x (Ij _ hx)
  refine⟨h2.1,λx hx=>h2.2 x ?_⟩;simp only[Ih,H5]at hx ⊢;rcases hx with (hx|hx)|hx
  ·exact .inr (.inl hx)
  ·exact .inl hx
  ·exact .inr (.inr hx)
def cy{m:List Bool}{ls:List Int}{o:Lo}(B:Po z X o=true)(g:o.kind≠16)(j:o.kind≠17)(hm:∀x∈M3 o,¬x∈ls)(C:∀x∈N1 o,Ok m x=true) :
  T2 z X m ls o=(0,(M3 o).foldl (λm r=>m.set r.toNat true) m,ls):=by
 unfold T2;rw[Hs (by rw[B];decide),Hs j,Hs,Hs (λq=>g q.1),Hs (λq=>g q.1),Hs,Hs g]
 ·rw[Iw];rintro⟨x,A,h⟩;rw[C x A]at h;cases h
 ·rw[Iw];rintro⟨x,A,h⟩;exact hm x A Av
def zui{o:Lo}(h:Po z X o=true):∀x∈M3 o,0≤x∧x<z:=by
 unfold Po at h;simp only[Hq,Hz]at h;obtain⟨⟨B,C⟩,d,e,_⟩:=h;have j:∀{x:Int},Qg z x true=true→0≤x∧x<z:=λh=>by unfold Qg at h;simpa using h
 intro x g;unfold M3 at g;split at g
 ·rename_i A;have hd:P7 o.kind=true:=by rcases A with h|h|h<;>rw[h]<;>rfl
  have he:P9 o.kind=true:=by rcases A with h|h|h<;>rw[h]<;>rfl
  rw[hd]at d;rw[he]at e;simp at g;rcases g with rfl|rfl
  ·exact j d
  ·exact j e
 ·split at g
  ·cases g
  ·rename_i A;have hd:P7 o.kind=true:=by simp[P7];omega
   rw[hd]at d;simp at g;subst g;exact j d
def Z9(n r:Int):List Lo:=[cK (r+3) 3,Nc (r+1) r n (r+3),cK (r+3) 2,M8 7 r r (r+3)]
def wo(n r:Int):List Lo:=[Nc (r+1) (r+2) n r,M8 4 (r+2) (r+3) (r+2),Nc (r+1) r r (r+2)]
def W1(n r:Int)(i:Nat):List Lo:=(List.range i).flatMap λ_=>wo n r
def zbi(n r:Int)(i:Nat):W1 n r (i+1)=W1 n r i++wo n r:=by simp[W1,List.range_succ]
def zj4(n r:Int)(i:Nat):(W1 n r i).length=3*i:=by
 induction i with
 |zero=>rfl
 |succ i g=>rw[zbi,H4,g];simp[wo];omega
def Td(n r:Int):List Lo:=Z9 n r++(W1 n r 5++[cK (r+3) 0,M8 4 r (r+3) r])
def xor2(x:Nat):x ^^^ 2=if x%4<2 then x+2 else x-2:=by
 have B:(x ^^^ 2)/4=x/4:=by
  have:=Nat.xor_div_two_pow (a:=x) (b:=2) (n:=2);simpa using this
 have g:(x ^^^ 2)%4=(x%4) ^^^ 2:=by
  have:=Nat.xor_mod_two_pow (a:=x) (b:=2) (n:=2);simpa using this
 have j:x%4<4:=Ix _ Ad;have A:(x%4) ^^^ 2=if x%4<2 then x%4+2 else x%4-2:=by
  generalize x%4=c at j ⊢
  match c,j with
  |0,_=>rfl
  |1,_=>rfl
  |2,_=>rfl
  |3,_=>rfl
 rw[A]at g;split at g<;>rename_i z
 ·rw[Hv z];omega
 ·rw[Hs z];omega
def kc(k c:Nat)(j:c%2=1):∃t,k*(3*k+c)=2*t:=by
 have h:k*(3*k+c)%2=0:=by
  have g:k%2=0∨k%2=1:=J
  rw[Kc,Nat.add_mod,Kc 3 k];rcases g with g|g<;>simp[g,j]
 exact⟨k*(3*k+c)/2,J⟩
def reck0(a:UInt64)(h:a%2=1):∃t:UInt64,a*((a*3) ^^^ 2)=1+32*t:=by
 have H:a.toNat%2=1:=by
  have:=congrArg UInt64.toNat h;simpa using this
 have g:((a*3) ^^^ 2:UInt64).toNat=(a.toNat*3%18446744073709551616) ^^^ 2:=N
 rw[xor2]at g;have E:a.toNat*3%18446744073709551616<18446744073709551616:=Ix _ Ad;obtain⟨k,D⟩:∃k,a.toNat=4*k+a.toNat%4:=⟨a.toNat/4,J⟩;have F:a.toNat*3%18446744073709551616%4=a.toNat*3%4:=Nat.mod_mod_of_dvd _ Ad;have A:a=UInt64.ofNat a.toNat:=N
 have z:a.toNat%4=1∨a.toNat%4=3:=J
 rcases z with z|z
 ·rw[Hs J]at g;have j:(a*3) ^^^ 2=a*3-2:=by
   apply UInt64.toNat.inj;rw[g,K6];simp;omega
  obtain⟨t,B⟩:=kc k 1 rfl;have G:a=4*UInt64.ofNat k+1:=by rw[A,D,z];simp
  have C:UInt64.ofNat k*(3*UInt64.ofNat k+1)=2*UInt64.ofNat t:=by
   have:=congrArg UInt64.ofNat B;simpa using this
  refine⟨UInt64.ofNat t,?_⟩;rw[j];generalize UInt64.ofNat k=b at *;generalize UInt64.ofNat t=u at *;clear g A
  grind
 ·rw[Hv J]at g;have j:(a*3) ^^^ 2=a*3+2:=by
   apply UInt64.toNat.inj;rw[g,Jm];simp;omega
  obtain⟨t,B⟩:=kc k 5 rfl;have G:a=4*UInt64.ofNat k+3:=by rw[A,D,z];simp
  have C:UInt64.ofNat k*(3*UInt64.ofNat k+5)=2*UInt64.ofNat t:=by
   have:=congrArg UInt64.ofNat B;simpa using this
  refine⟨UInt64.ofNat t+1,?_⟩;rw[j];generalize UInt64.ofNat k=b at *;generalize UInt64.ofNat t=u at *;clear g A
  grind
def sa(a x:UInt64):UInt64:=x*(2-a*x)
def zp0(a x:UInt64):1-a*sa a x=(1-a*x)*(1-a*x):=by unfold sa;grind
def zr5(a:UInt64):UInt64:=sa a (sa a (sa a (sa a (sa a ((a*3) ^^^ 2)))))
def sq32(t:UInt64):((32*t)*(32*t))*((32*t)*(32*t))=1048576*(t*t*(t*t)):=Dd
def zyt(a:UInt64)(h:a%2=1):a*zr5 a=1:=by
 obtain⟨t,j⟩:=reck0 a h;have g:1-a*((a*3) ^^^ 2)=32*(0-t):=by rw[j];grind
 generalize 0-t=u at g;have z:1-a*zr5 a=0:=by
  unfold zr5;rw[zp0,zp0,zp0,zp0,zp0,g];have A:(32*u)*(32*u)*((32*u)*(32*u))=1048576*(u*u*(u*u)):=sq32 u;rw[A];generalize u*u*(u*u)=w;have B:(1048576*w)*(1048576*w)*((1048576*w)*(1048576*w))=0:=by
   have:(1048576*w)*(1048576*w)*((1048576*w)*(1048576*w))=(1048576*1048576*(1048576*1048576))*(w*w*(w*w)):=Dd
   rw[this,(Ad:(1048576*1048576*(1048576*1048576):UInt64)=0)];simp
  rw[B];simp
 have:a*zr5 a=1-(1-a*zr5 a):=Dd
 rw[this,z];rfl
def tq(a x:UInt64):Nat→UInt64
 |0=>x
 |i+1=>sa a (tq a x i)
def vr{I:Nat→Nat}{s:Fs}{n r:Nat}(h:¬(r≤n∧n≤r+3)):Tx I (Nu (Td n r)) s λg=>g.r r=0-zr5 (s.r n)∧g.m=s.m∧∀x,¬(r≤x∧x≤r+3)→g.r x=s.r x:=by
 have L:Td (n:Int) (r:Int)=[cK ((r+3:Nat):Int) 3,Nc ((r+1:Nat):Int) (r:Nat) (n:Nat) ((r+3:Nat):Int),cK ((r+3:Nat):Int) 2,M8 7 (r:Nat) (r:Nat) ((r+3:Nat):Int)]++(W1 n r 5++[cK ((r+3:Nat):Int) 0,M8 4 (r:Nat) ((r+3:Nat):Int) (r:Nat)]):=rfl;have j:∀(i:Nat) (s:Fs),s.r (r+3)=2→Tx I (Nu (W1 n r i)) s λg=>g.r (r+3)=2∧g.r r=tq (s.r n) (s.r r) i∧g.m=s.m∧∀x,¬(r≤x∧x≤r+3)→g.r x=s.r x:=by
  intro i
  induction i with
  |zero=>intro s D;exact .nil ⟨D,rfl,rfl,λ_ _=>rfl⟩
  |succ i M =>
   intro s D;rw[zbi,frL_app];refine (M s D).cat λK ⟨C,E,F,z⟩=>?_
   have O:wo (n:Int) (r:Int)=[Nc ((r+1:Nat):Int) ((r+2:Nat):Int) (n:Nat) (r:Nat),M8 4 ((r+2:Nat):Int) ((r+3:Nat):Int) ((r+2:Nat):Int),Nc ((r+1:Nat):Int) (r:Nat) (r:Nat) ((r+2:Nat):Int)]:=rfl;rw[O];refine .op zjm (.op zx4 (.op zjm (.nil ⟨?_,?_,?_,λx A=>?_⟩)))
   ·simp[N0,C]
   ·have P:=z n h;have Q:¬n=r:=J
    simp[N0,C,E,P,sa,tq]
   ·simp[Ry,F]
   ·have B:¬x=r:=J
    have G:¬x=r+1:=J
    have T:¬x=r+2:=J
    simp[N0,B,G,T,z x A]
 rw[L,frL_app];refine Tx.cat (R:=λg=>g.r (r+3)=2∧g.r r=(s.r n*3) ^^^ 2∧g.m=s.m∧∀x,¬(r≤x∧x≤r+3)→g.r x=s.r x) (.op w9 (.op zjm (.op w9 (.op qq (.nil ⟨?_,?_,?_,λx A=>?_⟩))))) λK ⟨C,E,F,z⟩=>?_
 ·simp[N0]
 ·have U:¬n=r+3:=J
  simp[N0,U]
 ·simp[Ry]
 ·have B:¬x=r:=J
  have G:¬x=r+1:=J
  have H:¬x=r+3:=J
  simp[N0,B,G,H]
 rw[frL_app];refine (j 5 K C).cat λZ ⟨b1,V,X,Y⟩=>?_
 refine .op w9 (.op zx4 (.nil ⟨?_,?_,λx A=>?_⟩))
 ·simp[N0,V,E,z n h,zr5,tq]
 ·simp[Ry,X,F]
 ·have B:¬x=r:=J
  have H:¬x=r+3:=J
  simp[N0,B,H,Y x A,z x A]
def Zq{n r:Int}{S:List Int}(j:0≤n∧n<64)(B:0≤r∧r+4<64)(z:n∈S)(g:r∈S)(A:r+3∈S):Pm 64 X S (wo n r):=by
 refine⟨zbn J J j J J,D7,?_,zbp J J J J,by simp[M8],?_,zbn J J J J J,D7,?_,trivial⟩
 ·simp[N1,Nc,z,g]
 ·simp[N1,M8,M3,Nc,A]
 ·simp[N1,M3,Nc,M8,g]
def zqf{C:List Bf}{n r:Int}{S:List Int}(g:0≤n∧n<64)(j:0≤r∧r+4<64)(z:n∈S)(A:r∈S)(B:r+3∈S):∀i,Pm 64 C S (W1 n r i)
 |0=>trivial
 |i+1=>by rw[zbi];exact zun (zqf g j z A B i) (Zq g j z A B)
def mc{n r:Int}{S:List Int}(g:0≤n∧n<64)(z:0≤r∧r+4<64)(j:n∈S):Pm 64 X S (Td n r):=by
 refine zsl (a:=Z9 n r) ?_ ?_
 ·refine⟨zgy J,D6,E6,zbn J J g J J,D7,?_,zgy J,D6,E6,zbp J J J J,by simp[M8],?_,trivial⟩
  ·simp[N1,M3,Nc,cK,j]
  ·simp[N1,M3,Nc,cK,M8]
 ·refine zun (zqf g z (Iv _ j) ?_ ?_ 5) ?_
  ·simp[Z9,M3,cK,Nc,M8]
  ·simp[Z9,M3,cK,Nc,M8]
  ·refine⟨zgy J,D6,E6,zbp J J J J,by simp[M8],?_,trivial⟩;simp[N1,M3,cK,M8,Z9,Nc]
def zp3(n r:Int):(Td n r).length=21:=by
 unfold Td;rw[H4,H4,zj4];rfl
def iU1:iU 1=1:=by rw[jy];rfl
noncomputable section
def Sy(e:Nat)(d a b n t:Pc)(g:Int):List LV :=
 [.ptr e 0,.i d.buf,.i d.at_,.i d.size,.i a.buf,.i a.at_,.i a.size,.i b.buf,.i b.at_,.i b.size,.i n.buf,.i n.at_,.i n.size,.i t.buf,.i t.at_,.i t.size,
  .i g,.i (g+1),.i (g+2),.i (g+3),.i (g+4),.i (g+5),.i (g+6),.i (g+7),.i (g+8),.i (g+9),.i (g+10)]
def Ni(R a b:Int):List Lo:=[Nc (R+5) (R+6) a b,Nw 11 (R+6) (R+8) (R+6) (R+7) R,Nw 11 (R+6) (R+9) (R+6) (R+3) R,M8 3 (R+5) (R+5) (R+8),M8 3 (R+3) (R+5) (R+9)]
def Ob(t:Pc)(k R:Int):List Lo:=[Nb (R+7) t (-1) k,Nw 11 (R+7) (R+8) (R+7) (R+3) R]
def P4(d g:Int)(b:Fr Lo):Fr Lo:=if g<1 then .nil else .loop (R0 d g) b Se .nil
def Y2(d g:Int)(b:Fr Lo):(P4 d g b).flat=if g<1 then [] else R0 d g::(b.flat++[Se]):=by
 unfold P4;split<;>rfl
def Th(a t:Pc)(R j:Int):List Lo:=[Nb (R+4) a j 0,Nb (R+7) t j 0]++(Ni R (R+4) (R+2)++[N7 t j 0 (R+6)])
def R4(a b t:Pc)(k R D i:Int):Fr Lo:=(Nu [Nb (R+2) b i 0,cK (R+3) 0]).cat ((P4 D k (Nu (Th a t R D))).cat (Nu (Ob t k R++[N7 t (-1) k (R+7),N7 t (-1) (k+1) (R+8)])))
def Tt(n t:Pc)(R j:Int):List Lo:=[Nb (R+4) n j 1,Nb (R+7) t j 1]++(Ni R (R+10) (R+4)++[N7 t j 0 (R+6)])
def Sl(n t:Pc)(k R D:Int):Fr Lo:=(Nu ([Nb (R+7) t (-1) 0,Nc (R+5) (R+10) (R+7) (R+1),Nb (R+4) n (-1) 0,cK (R+3) 0]++Ni R (R+10) (R+4))).cat
 ((P4 D (k-1) (Nu (Tt n t R D))).cat (Nu (Ob t k R++[N7 t (-1) (k-1) (R+7),Nb (R+7) t (-1) (k+1),M8 3 (R+7) (R+7) (R+8),N7 t (-1) k (R+7)])))
def T1(n t:Pc)(g j:Int):List Lo:=[Nb (g+7) t j 0,Nb (g+4) n j 0,Nw 12 (g+6) (g+8) (g+7) (g+4) (g+8)]
def Uc(n t:Pc)(k g j:Int)(x:List Lo):Fr Lo:=(Nu [cK (g+8) 0]).cat (P4 j k (Nu (T1 n t g j++x)))
def V2(d n t:Pc)(k R D:Int):Fr Lo:=(Uc n t k R D []).cat ((Nu [Nb (R+7) t (-1) k,Nw 12 (R+6) (R+10) (R+7) R (R+8)]).cat (Uc n t k R D [Pg (R+6) (R+10) (R+7) (R+6),N7 d D 0 (R+6)]))
def W5(p:Pc)(a g:Int):Fr Lo:=P4 g p.size (Nu [N7 p g 0 a])
def Xw(d a b n t:Pc)(k R D:Int):Fr Lo:=(Nu ([cK R 0,Nb (R+10) n (-1) 0]++Td (R+10) (R+1))).cat ((W5 t R D).cat ((P4 D k ((R4 a b t k R (D+1) D).cat (Sl n t k R (D+1)))).cat (V2 d n t k R D)))
end
section
def vl(f:Nat→UInt64):Nat→Nat
 |0=>0
 |n+1=>vl f n+(f n).toNat*18446744073709551616^n
def xe(f:Nat→UInt64):∀n,vl f n<18446744073709551616^n
 |0=>E4
 |n+1=>by
  have h:=xe f n;have g:(f n).toNat+1≤18446744073709551616:=(f n).toNat_lt;have j:=H8 (18446744073709551616^n) g;rw[Im,Nat.one_mul]at j;rw[vl,Ji,Ka (18446744073709551616^n)];omega
def z9d{f g:Nat→UInt64}:∀{n:Nat},(∀i,i<n→f i=g i)→vl f n=vl g n
 |0,_=>rfl
 |n+1,h=>by rw[vl,vl,z9d λi hi=>h i J,h n J]
def jc(f:Nat→UInt64):∀n,vl f (n+1)=(f 0).toNat+18446744073709551616*vl (λi=>f (i+1)) n
 |0=>E4
 |n+1=>by
  rw[vl,jc f n,vl,Ji]
  grind
structure Pn where
 b:Nat
 a:Nat
 k:Nat
def Pn.p(p:Pn):Pc:=⟨p.b,p.a,p.k⟩
def pl(m:Nat→Nat→UInt64)(p:Pn)(i:Nat):UInt64:=m p.b (p.a+i)
def Dj(p q:Pn):Prop:=p.b≠q.b∨p.a+p.k≤q.a∨q.a+q.k≤p.a
def Pd(p:Pn)(m g:Nat→Nat→UInt64):Prop:=∀x y,¬(x=p.b∧p.a≤y∧y<p.a+p.k)→g x y=m x y
def Pd.trans{p:Pn}{m m' gg:Nat→Nat→UInt64}(h:Pd p m m')(k:Pd p m' gg):Pd p m gg:=λx y hn=>(k x y hn).trans (h x y hn)
def Pd.pl{p q:Pn}{m m':Nat→Nat→UInt64}(h:Pd p m m')(d:Dj p q){i:Nat}(hi:i<q.k):pl m' q i=pl m q i :=
 h _ _ λ⟨h1,h2,h3⟩=>by
  rcases d with d|d|d
  ·exact d h1.symm
  ·omega
  ·omega
def Pd.vl{p q:Pn}{m m':Nat→Nat→UInt64}(h:Pd p m m')(d:Dj p q){n:Nat}(hn:n≤q.k):vl (Go.Sv.pl m' q) n=vl (Go.Sv.pl m q) n:=z9d λ_ hi=>h.pl d J
def ue{p:Pn}{s:Fs}{i:Nat}{v:UInt64}(h:i<p.k):Pd p s.m (s.sto p.b (p.a+i) v).m:=λx y g=>by
 rw[d7,Hs];rintro⟨rfl,rfl⟩;exact g ⟨rfl,J,J⟩
def Wd(p:Pn)(s:Fs)(i j:Nat)(v:UInt64):pl (s.sto p.b (p.a+i) v).m p j=if j=i then v else pl s.m p j:=by
 unfold pl;rw[d7];by_cases h:j=i
 ·subst h;simp
 ·rw[Hs J,Hs h]
def eo{p:Pn}{x:UInt64}(h:p.a+g+x.toNat<18446744073709551616):(iU (p.p.at_+(g:Int))+x).toNat=p.a+g+x.toNat:=by
 have:p.p.at_+(g:Int)=((p.a+g:Nat):Int):=C9
 rw[this,Jm,ax J,In Av]
def Ya{p:Pn}(h:p.a+g<18446744073709551616):(iU (p.p.at_+(g:Int))).toNat=p.a+g:=by
 have:p.p.at_+(g:Int)=((p.a+g:Nat):Int):=C9
 rw[this,ax h]
section ls
variable {sz : Nat → Nat} {s : Fs} {p : Pn}
def zhe{d i:Nat}(h:p.a+g+(s.r i).toNat<sz p.b)(j:sz p.b≤65536):Qc sz (Nb d p.p i g) s=some (s.put d (pl s.m p (g+(s.r i).toNat))):=by
 rw[opZ_ld (b:=p.b) (n:=p.a+g+(s.r i).toNat) rfl (eo J) h];unfold pl;rw[J2]
def zvy{d:Nat}(h:p.a+g<sz p.b)(j:sz p.b≤65536):Qc sz (Nb d p.p (-1) g) s=some (s.put d (pl s.m p g)):=by
 rw[sh (b:=p.b) (n:=p.a+g) rfl (Ya J) h];rfl
def zup{v i:Nat}(h:p.a+g+(s.r i).toNat<sz p.b)(j:sz p.b≤65536):Qc sz (N7 p.p i g v) s=some (s.sto p.b (p.a+(g+(s.r i).toNat)) (s.r v)):=by
 rw[opZ_st (b:=p.b) (n:=p.a+g+(s.r i).toNat) rfl (eo J) h,J2]
def Xm{v:Nat}(h:p.a+g<sz p.b)(j:sz p.b≤65536):Qc sz (N7 p.p (-1) g v) s=some (s.sto p.b (p.a+g) (s.r v)):=by
 rw[sr (b:=p.b) (n:=p.a+g) rfl (Ya J) h]
end ls
end
section
def zdr(b:Bool):(O4 b).toNat=b.toNat:=by cases b<;>rfl
def zh3(b:Bool):decide (O4 b%2=1)=b:=by cases b<;>decide
def th{x y w m:UInt64}{hi p q j:UInt64}{g:Bool}(B:hi=Ss x y)(C:V=x*y)(D:M1 V w false=(p,Q))(E:M1 p m false=(q,g))(F:vF=hi+O4 Q)(G:j=vF+O4 g) :
  q.toNat+18446744073709551616*j.toNat=x.toNat*y.toNat+w.toNat+m.toNat:=by
 have K:=zq5 x y;have z:=xo V w false;have A:=xo p m false;rw[D]at z;rw[E]at A;subst B C F G;simp only[Bool.toNat_false,Kr]at z A;have L:x.toNat*y.toNat≤18446744073709551615*18446744073709551615:=Jr (by have:=x.toNat_lt;omega) (by have:=y.toNat_lt;omega);have M:=w.toNat_lt;have O:=m.toNat_lt;have P:=q.toNat_lt;have R:Q.toNat≤1:=by cases Q<;>decide
 have d2:g.toNat≤1:=by cases g<;>decide
 have H:((Ss x y)+O4 Q).toNat=(Ss x y).toNat+Q.toNat:=by
  rw[Jm,zdr,In];omega
 have I:((Ss x y)+O4 Q+O4 g).toNat=(Ss x y).toNat+Q.toNat+g.toNat:=by
  rw[Jm,H,zdr,In];omega
 rw[I];omega
section mu
variable {sz : Nat → Nat}
def Qs(R g:Nat):Prop:=R+3≤g∧g≤R+9
def zzz{s:Fs}{R a b:Nat}(z:s.r R=0):Tx sz (Nu (Ni R a b)) s λj=>j.m=s.m∧(j.r (R+6)).toNat+18446744073709551616*(j.r (R+3)).toNat=(s.r a).toNat*(s.r b).toNat+(s.r (R+7)).toNat+(s.r (R+3)).toNat∧∀g,(¬Qs R g∨g=R+4∨g=R+7)→j.r g=s.r g:=by
 have e:Ni (R:Int) a b=[Nc ((R+5:Nat):Int) ((R+6:Nat):Int) (a:Nat) (b:Nat),Nw 11 ((R+6:Nat):Int) ((R+8:Nat):Int) ((R+6:Nat):Int) ((R+7:Nat):Int) (R:Nat),Nw 11 ((R+6:Nat):Int) ((R+9:Nat):Int) ((R+6:Nat):Int) ((R+3:Nat):Int) (R:Nat),M8 3 ((R+5:Nat):Int) ((R+5:Nat):Int) ((R+8:Nat):Int),M8 3 ((R+3:Nat):Int) ((R+5:Nat):Int) ((R+9:Nat):Int)]:=rfl;rw[e];unfold Qs at *;refine .op zjm (.op zry (.op zry (.op zs8 (.op zs8 (.nil ⟨rfl,?_,λg F=>?_⟩)))))
 ·simp[N0,z,-UInt64.toNat_add];exact th (x:=s.r a) (y:=s.r b) (w:=s.r (R+7)) (m:=s.r (R+3)) rfl rfl rfl rfl rfl rfl
 ·have A:¬g=R+5:=J
  have B:¬g=R+6:=J
  have C:¬g=R+8:=J
  have D:¬g=R+9:=J
  have E:¬g=R+3:=J
  simp[N0,E,A,B,C,D]
def To(f:Nat→UInt64)(n:Nat):vl f (n+1)=vl f n+(f n).toNat*18446744073709551616^n:=rfl
def Tx.lp{s:Fs}{d n:Nat}{b:Fr Lo}{Q:Fs→Prop}(gg:Nat→Fs→Prop)(h0:gg 0 s)(hn:n<18446744073709551616)(h1:∀i s,i<n→gg i s→Tx sz b (s.put d (UInt64.ofNat i)) (gg (i+1)))(h2:∀s',gg n s'→Q s'):Tx sz (P4 (d:Nat) (n:Nat) b) s Q:=by
 unfold P4;have e:(R0 (d:Nat) (n:Nat)).imm.toNat=n:=ax hn;split
 ·have:n=0:=J
  subst this;exact .nil (h2 _ h0)
 ·refine .loop gg h0 (λi s hi I=>?_) λs' I=>.nil (h2 _ ?_)
  ·rw[e]at hi;exact h1 i s hi I
  ·rw[e]at I;exact I
def ny(R z:Nat)(s j:Fs):Prop:=∀g,¬Qs R g→g≠z→j.r g=s.r g
def RgA(R z:Nat)(s j:Fs):Prop:=∀g,¬(R+2≤g∧g≤R+10)→g≠z→j.r g=s.r g
def Pn.in_(sz:Nat→Nat)(p:Pn):Prop:=p.a+p.k≤sz p.b∧sz p.b≤65536
def zsq{s:Fs}{R j:Nat}{a t:Pn}(K:s.r R=0)(Z:g<R)(F:(s.r g).toNat=j)(L:a.in_ sz)(M:t.in_ sz)(ja:j<a.k)(jt:j<t.k) :
  Tx sz (Nu (Th a.p t.p R g)) s λC=>∃q:UInt64,(∀i,pl C.m t i=if i=j then q else pl s.m t i)∧Pd t s.m C.m∧ny R g s C ∧
   q.toNat+18446744073709551616*(C.r (R+3)).toNat=(pl s.m a j).toNat*(s.r (R+2)).toNat+(pl s.m t j).toNat+(s.r (R+3)).toNat:=by
 obtain⟨O,D⟩:=L;obtain⟨P,A⟩:=M;have e:Th a.p t.p R g=[Nb ((R+4:Nat):Int) a.p (g:Nat) ((0:Nat):Int),Nb ((R+7:Nat):Int) t.p (g:Nat) ((0:Nat):Int)]++(Ni R ((R+4:Nat):Int) ((R+2:Nat):Int)++[N7 t.p (g:Nat) ((0:Nat):Int) ((R+6:Nat):Int)]):=rfl;rw[e,frL_app,frL_app];have E:∀n,n<11→¬g=R+n:=λn h=>J
 refine .op (zhe J D) (.op (zhe (by simp only[N0,Hs (E 4 J)];omega) A) ((zzz (by simp[N0,K])).cat λB ⟨G,Q,H⟩=>?_));have z:B.r g=s.r g:=by rw[H _ (.inl Au)];simp[N0,E]
 refine .op (zup Eo A) (.nil ⟨B.r (R+6),λi=>?_,?_,λT I U=>?_,?_⟩)
 ·rw[Wd,z,F,G];simp[Ry]
 ·have:=ue (p:=t) (s:=B) (i:=0+(B.r g).toNat) (v:=B.r (R+6)) Eo;intro x y V;rw[this x y V,G];rfl
 ·rw[Y5,H T (.inl I)];unfold Qs at I;have X:¬T=R+4:=J
  have Y:¬T=R+7:=J
  simp[N0,X,Y]
 ·rw[Y5];simpa [N0,Ry,E,F] using Q
def jk{W v r y q x t:Nat}(h:v+g*r=j+A*y)(k:q+W*E=x*y+t+r):v+q*g+g*W*E=j+t*g+(A+x*g)*y:=by
 have z:g*(q+W*E)=g*(x*y+t+r):=by rw[k]
 grind
def tz{W v r y p c t:Nat}(h:v+g*r=j+A*y)(k:p+W*c=t+r):v+p*g+c*(g*W)=j+t*g+A*y:=by
 have z:g*(p+W*c)=g*(t+r):=by rw[k]
 grind
def ep{s:Fs}{R k:Nat}{t:Pn}(z:s.r R=0)(B:t.in_ sz)(G:k+2≤t.k)(r:Fr Lo)(F:Fs→Prop)
  (h:∀(g:Fs) (c:Bool),g.m=s.m→g.r (R+8)=O4 c→(g.r (R+7)).toNat+18446744073709551616*c.toNat=(pl s.m t k).toNat+(s.r (R+3)).toNat→(∀A,A≠R+7→A≠R+8→g.r A=s.r A)→Tx sz r g F) :
  Tx sz ((Nu (Ob t.p k R)).cat r) s F:=by
 obtain⟨C,j⟩:=B;have e:Ob t.p k R=[Nb ((R+7:Nat):Int) t.p (-1) (k:Nat),Nw 11 ((R+7:Nat):Int) ((R+8:Nat):Int) ((R+7:Nat):Int) ((R+3:Nat):Int) (R:Nat)]:=rfl;rw[e];refine .op (zvy J j) (.op zry ?_);refine h _ (M1 (pl s.m t k) (s.r (R+3)) false).2 rfl ?_ ?_ λA D E=>?_
 ·simp[N0,z]
 ·have:=xo (pl s.m t k) (s.r (R+3)) false;simpa [N0,z] using this
 ·simp[N0,D,E]
def ii{s:Fs}{R i k:Nat}{a b t:Pn}(hR:s.r R=0)(hD:A<R)(hi:(s.r i).toNat<b.k)(hb:b.in_ sz)(ha:a.in_ sz)(V:t.in_ sz)(hk:k≤a.k)(O:k+2≤t.k)(dj:Dj t a)(hW:sz t.b≤65536) :
  Tx sz (R4 a.p b.p t.p k R A i) s λI=>RgA R A s I∧Pd t s.m I.m∧vl (pl I.m t) (k+2)=vl (pl s.m t) (k+1)+vl (pl s.m a) k*(pl s.m b (s.r i).toNat).toNat∧(pl I.m t (k+1)).toNat≤1:=by
 have e:R4 a.p b.p t.p k R A i=(Nu [Nb ((R+2:Nat):Int) b.p (i:Nat) ((0:Nat):Int),cK ((R+3:Nat):Int) 0]).cat ((P4 (A:Nat) (k:Nat) (Nu (Th a.p t.p R A))).cat ((Nu (Ob t.p k R)).cat (Nu [N7 t.p (-1) (k:Nat) ((R+7:Nat):Int),N7 t.p (-1) ((k+1:Nat):Int) ((R+8:Nat):Int)]))):=by
  rw[←frL_app];rfl
 rw[e];obtain⟨gg,P⟩:=hb;have F:=V;obtain⟨gz,G⟩:=V;have dn:∀n,n<11→¬A=R+n:=λn h=>J
 refine .op (zhe J P) (.op w9 ?_);rw[show ∀g:Fr Lo,Fr.cat (Nu []) g=g from λ_=>rfl];generalize C:(Fs.put (s.put (R+2) (pl s.m b (0+(s.r i).toNat))) (R+3) 0)=B;have X:B.m=s.m:=by rw[←C];rfl
 have y0:B.r (R+2)=pl s.m b (s.r i).toNat:=by rw[←C];simp[N0]
 have c0:B.r (R+3)=0:=by rw[←C];simp[N0]
 have Y:∀D,D≠R+2→D≠R+3→B.r D=s.r D:=λD h2 h3=>by rw[←C];simp[N0,h2,h3]
 have Z:B.r R=0:=by rw[Y R J J,hR]
 refine .cat (R:=λz=>ny R A B z∧Pd t s.m z.m∧(∀i,k≤i→pl z.m t i=pl s.m t i)∧vl (pl z.m t) k+18446744073709551616^k*(z.r (R+3)).toNat=vl (pl s.m t) k+vl (pl s.m a) k*(B.r (R+2)).toNat) ?_ λz ⟨K,L,M,Q⟩=>?_
 ·refine .lp (λH z=>ny R A B z∧Pd t s.m z.m∧(∀i,H≤i→pl z.m t i=pl s.m t i)∧vl (pl z.m t) H+18446744073709551616^H*(z.r (R+3)).toNat=vl (pl s.m t) H+vl (pl s.m a) H*(B.r (R+2)).toNat) ⟨λ_ _ _=>rfl,λ_ _ _=>by rw[X],λ_ _=>by rw[X],by simp[vl,c0]⟩ J (λH z hj ⟨K,L,M,Q⟩=>?_) λ_ h=>h
  have E:∀D,¬Qs R D→D≠A→(z.put A (UInt64.ofNat H)).r D=B.r D:=λD a b=>by rw[N0,Hs b,K D a b]
  have j3:(z.put A (UInt64.ofNat H)).r (R+3)=z.r (R+3):=by rw[N0,Hs J]
  refine (zsq (j:=H) (by rw[E _ Au J,Z]) hD B6 ha F J J).mono λs2 ⟨q,T,e2,e3,e4⟩=>⟨λD a b=>(e3 D a b).trans (E D a b),L.trans e2,λi hi=>?_,?_⟩
  ·rw[T,Hs J];exact M i J
  ·rw[E _ Au J,Ry,L.pl dj J,M H J,j3]at e4;rw[To,To,To,T,Hv rfl,Ji,z9d (g:=pl z.m t) λi hi=>by rw[T,Hs J];rfl];exact jk Q e4
 ·refine ep (by rw[K _ Au J,Z]) F O _ _ λs2 c m2 c2 v2 r2=>?_
  refine .op (Xm J G) (.op (Xm J G) (.nil ⟨λD hz U=>?_,?_,?_,?_⟩))
  ·rw[Y5,Y5,r2 D J J,K D Au U,Y D J J]
  ·exact L.trans (m2 ▸ (ue J).trans (ue J))
  ·rw[To,To,To,Wd,Wd,Wd,Hv rfl,Hs J,Hv rfl,Y5,c2,zdr,z9d (g:=pl z.m t) λi hi=>by rw[Wd,Hs J,Wd,Hs J,m2],Ji,←y0];rw[M k J]at v2;exact tz Q v2
  ·rw[Wd,Hv rfl,Y5,c2,zdr];cases c<;>decide
def zv7{s:Fs}{R j:Nat}{n t:Pn}(L:s.r R=0)(Y:g<R)(G:(s.r g).toNat=j)(D:n.in_ sz)(M:t.in_ sz)(Z:j+1<n.k)(jt:j+1<t.k) :
  Tx sz (Nu (Tt n.p t.p R g)) s λC=>∃q:UInt64,(∀i,pl C.m t i=if i=j then q else pl s.m t i)∧Pd t s.m C.m∧ny R g s C ∧
   q.toNat+18446744073709551616*(C.r (R+3)).toNat=(s.r (R+10)).toNat*(pl s.m n (j+1)).toNat+(pl s.m t (j+1)).toNat+(s.r (R+3)).toNat:=by
 obtain⟨O,E⟩:=D;obtain⟨P,A⟩:=M;have e:Tt n.p t.p R g=[Nb ((R+4:Nat):Int) n.p (g:Nat) ((1:Nat):Int),Nb ((R+7:Nat):Int) t.p (g:Nat) ((1:Nat):Int)]++(Ni R ((R+10:Nat):Int) ((R+4:Nat):Int)++[N7 t.p (g:Nat) ((0:Nat):Int) ((R+6:Nat):Int)]):=rfl;rw[e,frL_app,frL_app];have F:∀n,n<11→¬g=R+n:=λn h=>J
 refine .op (zhe J E) (.op (zhe (by simp only[N0,Hs (F 4 J)];omega) A) ((zzz (by simp[N0,L])).cat λB ⟨H,Q,I⟩=>?_));have z:B.r g=s.r g:=by rw[I _ (.inl Au)];simp[N0,F]
 refine .op (zup Eo A) (.nil ⟨B.r (R+6),λi=>?_,?_,λT K U=>?_,?_⟩)
 ·rw[Wd,z,G,H];simp[Ry]
 ·have:=ue (p:=t) (s:=B) (i:=0+(B.r g).toNat) (v:=B.r (R+6)) Eo;intro x y D;rw[this x y D,H];rfl
 ·rw[Y5,I T (.inl K)];unfold Qs at K;have V:¬T=R+4:=J
  have X:¬T=R+7:=J
  simp[N0,V,X]
 ·rw[Y5];simpa [N0,Ry,F,G,Nat.add_comm 1] using Q
def zwz{W v r m q x t:Nat}(h:W*v+g*W*r=j+m*A)(k:q+W*E=m*x+t+r):W*(v+q*g)+g*W*W*E=j+t*(g*W)+m*(A+x*(g*W)):=by
 have z:g*W*(q+W*E)=g*W*(m*x+t+r):=by rw[k]
 grind
def gw{W v r m p c t u:Nat}(h:W*v+g*W*r=j+m*A)(k:p+W*c=t+r):W*(v+p*g+(u+c)*(g*W))=j+t*(g*W)+u*(g*W*W)+m*A:=by
 have z:g*W*(p+W*c)=g*W*(t+r):=by rw[k]
 grind
def ug{t i n q h:UInt64}(hi:i*n+1=0)(e:q.toNat+18446744073709551616*h.toNat=(t*i).toNat*n.toNat+t.toNat):q.toNat=0:=by
 have g:(t*i*n+t).toNat=0:=by
  rw[(Dd:t*i*n+t=t*(i*n+1)),hi];simp
 rw[Jm,Lu]at g;have:=q.toNat_lt;omega
def qv{s:Fs}{R k:Nat}{n t:Pn}(hR:s.r R=0)(hD:A<R)(I:s.r (R+1)*pl s.m n 0+1=0)(hn:n.in_ sz)(ht:t.in_ sz)(hk:k+1≤n.k)(gz:k+3≤t.k)(dj:Dj t n)(hc:(pl s.m t (k+2)).toNat≤1) :
  Tx sz (Sl n.p t.p (k+1:Nat) R A) s λO=>RgA R A s O∧Pd t s.m O.m∧pl O.m t (k+2)=pl s.m t (k+2)∧∃m:UInt64,18446744073709551616*vl (pl O.m t) (k+2)=vl (pl s.m t) (k+3)+m.toNat*vl (pl s.m n) (k+1):=by
 have V:((k+1:Nat):Int)-1=(k:Nat):=J
 have e:Sl n.p t.p (k+1:Nat) R A=(Nu ([Nb ((R+7:Nat):Int) t.p (-1) ((0:Nat):Int),Nc ((R+5:Nat):Int) ((R+10:Nat):Int) ((R+7:Nat):Int) ((R+1:Nat):Int),Nb ((R+4:Nat):Int) n.p (-1) ((0:Nat):Int),cK ((R+3:Nat):Int) 0]++Ni R ((R+10:Nat):Int) ((R+4:Nat):Int))).cat
   ((P4 (A:Nat) (k:Nat) (Nu (Tt n.p t.p R A))).cat ((Nu (Ob t.p (k+1:Nat) R)).cat (Nu [N7 t.p (-1) (k:Nat) ((R+7:Nat):Int),Nb ((R+7:Nat):Int) t.p (-1) ((k+2:Nat):Int),M8 3 ((R+7:Nat):Int) ((R+7:Nat):Int) ((R+8:Nat):Int),N7 t.p (-1) ((k+1:Nat):Int) ((R+7:Nat):Int)]))):=by
  rw[←frL_app,←V];rfl
 rw[e];have X:=hn;have K:=ht;obtain⟨gA,D⟩:=hn;obtain⟨gC,E⟩:=ht;have dn:∀n,n<11→¬A=R+n:=λn h=>J
 rw[frL_app];refine Tx.cat (R:=λB=>(∀C,¬Qs R C→C≠R+10→B.r C=s.r C)∧B.m=s.m∧18446744073709551616*(B.r (R+3)).toNat=(B.r (R+10)).toNat*(pl s.m n 0).toNat+(pl s.m t 0).toNat) ?_ λB ⟨g1,P,L⟩=>?_
 ·refine .op (zvy J E) (.op zjm (.op (zvy J D) (.op w9 ((zzz (by simp[N0,hR])).mono λB ⟨P,L,r1⟩=>⟨λC Y F=>?_,?_,?_⟩))))
  ·rw[r1 C (.inl Y)];unfold Qs at Y;have z3:¬C=R+3:=J
   have z4:¬C=R+4:=J
   have z5:¬C=R+5:=J
   have Z:¬C=R+7:=J
   simp[N0,z3,z4,z5,Z,F]
  ·rw[P];rfl
  ·have M:=r1 (R+10) (.inl Au);simp[N0,Ry]at L M;rw[M];have:=ug (t:=pl s.m t 0) I (by simpa using L);rw[Lu,show (2:Nat)^64=18446744073709551616 from rfl];rw[this,Iq]at L;exact L
 have R1:B.r R=0:=by rw[g1 R Au J,hR]
 refine .cat (R:=λz=>ny R A B z∧Pd t s.m z.m∧(∀i,k≤i→pl z.m t i=pl s.m t i)∧18446744073709551616*vl (pl z.m t) k+18446744073709551616^k*18446744073709551616*(z.r (R+3)).toNat=vl (pl s.m t) (k+1)+(B.r (R+10)).toNat*vl (pl s.m n) (k+1)) ?_ λz ⟨Q,T,G,v2⟩=>?_
 ·refine .lp (λH z=>ny R A B z∧Pd t s.m z.m∧(∀i,H≤i→pl z.m t i=pl s.m t i)∧18446744073709551616*vl (pl z.m t) H+18446744073709551616^H*18446744073709551616*(z.r (R+3)).toNat=vl (pl s.m t) (H+1)+(B.r (R+10)).toNat*vl (pl s.m n) (H+1)) ⟨λ_ _ _=>rfl,λ_ _ _=>by rw[P],λ_ _=>by rw[P],by simp[vl];omega⟩ J (λH z hj ⟨Q,T,G,v2⟩=>?_) λ_ h=>h
  have D:∀C,¬Qs R C→C≠A→(z.put A (UInt64.ofNat H)).r C=B.r C:=λC a b=>by rw[N0,Hs b,Q C a b]
  have j3:(z.put A (UInt64.ofNat H)).r (R+3)=z.r (R+3):=by rw[N0,Hs J]
  refine (zv7 (j:=H) (by rw[D _ Au J,R1]) hD B6 X K J J).mono λs3 ⟨q,e1,e2,e3,e4⟩=>⟨λC a b=>(e3 C a b).trans (D C a b),T.trans e2,λi hi=>?_,?_⟩
  ·rw[e1,Hs J];exact G i J
  ·rw[D _ Au J,Ry,T.pl dj J,G (H+1) J,j3]at e4;rw[To,To _ (H+1),To _ (H+1),e1,Hv rfl,Ji,z9d (g:=pl z.m t) λi hi=>by rw[e1,Hs J];rfl];exact zwz v2 e4
 ·refine ep (by rw[Q _ Au J,R1]) K J _ _ λs3 c U c3 v3 r3=>?_
  refine .op (Xm J E) (.op (zvy J E) (.op zs8 (.op (Xm J E) (.nil ⟨λC Y F=>?_,?_,?_,B.r (R+10),?_⟩))))
  ·have Z:¬C=R+7:=J
   simp only[Y5,N0,Hs Z];rw[r3 C J J,Q C Au F,g1 C Au J]
  ·exact T.trans (U ▸ (ue J).trans (ue (p:=t) J))
  ·rw[Wd,Hs J,Ry,Ry,Wd,Hs J,U,G (k+2) J]
  ·rw[G (k+1) J]at v3;have gg:((pl s.m t (k+2))+O4 c).toNat=(pl s.m t (k+2)).toNat+c.toNat:=by
    rw[Jm,zdr,In];have:c.toNat≤1:=by cases c<;>decide
    omega
   rw[To _ (k+2),To _ (k+1),To _ (k+1),To _ k,z9d (g:=pl z.m t) (n:=k) λi hi=>by rw[Wd,Hs J,Ry,Ry,Wd,Hs J,U]];have hu:=G (k+2) J;simp[N0,Ry,Y5,Wd,c3,-UInt64.toNat_add,U];rw[hu,gg,Ji,Ji];exact gw v2 v3
def zt8{W v n t c q x y b:Nat}(h:v+n=t+g*c)(k:q+x+c=y+W*b):v+q*g+(n+x*g)=t+y*g+g*W*b:=by
 have j:g*(q+x+c)=g*(y+W*b):=by rw[k]
 grind
def zod{s:Fs}{j:Nat}{n t:Pn}{c:Bool}(U:A<g)(D:(s.r A).toNat=j)(G:s.r (g+8)=O4 c)(H:n.in_ sz)(I:t.in_ sz)(V:j<n.k)(X:j<t.k)(x:List Lo)(T:Fs→Prop)
  (h:∀(z:Fs) (b:Bool),z.m=s.m→z.r (g+8)=O4 b→z.r (g+7)=pl s.m t j→(z.r (g+6)).toNat+(pl s.m n j).toNat+c.toNat=(pl s.m t j).toNat+18446744073709551616*b.toNat→(∀C,¬Qs g C→z.r C=s.r C)→Tx sz (Nu x) z T) :
  Tx sz (Nu (T1 n.p t.p g A++x)) s T:=by
 obtain⟨K,E⟩:=H;obtain⟨L,F⟩:=I;have e:T1 n.p t.p g A++x=Nb ((g+7:Nat):Int) t.p (A:Nat) ((0:Nat):Int)::Nb ((g+4:Nat):Int) n.p (A:Nat) ((0:Nat):Int)::Nw 12 ((g+6:Nat):Int) ((g+8:Nat):Int) ((g+7:Nat):Int) ((g+4:Nat):Int) ((g+8:Nat):Int)::x:=rfl;rw[e];have B:∀n,n<11→¬A=g+n:=λn h=>J
 refine .op (zhe J F) (.op (zhe (by simp only[N0,Hs (B 7 J)];omega) E) (.op zyb ?_));have hv:=zmg (pl s.m t j) (pl s.m n j) c;refine h _ (Og (pl s.m t j) (pl s.m n j) c).2 rfl ?_ ?_ ?_ λC M=>?_
 ·simp[N0,Ry,B,D,G,zh3]
 ·simp[N0,Ry,B,D]
 ·simpa [N0,Ry,B,D,G,zh3] using hv
 ·unfold Qs at M;have O:¬C=g+4:=J
  have P:¬C=g+6:=J
  have Q:¬C=g+7:=J
  have R:¬C=g+8:=J
  simp[N0,O,P,Q,R]
def pu{s:Fs}{k:Nat}{n t:Pn}(K:A<g)(E:n.in_ sz)(L:t.in_ sz)(Z:k≤n.k)(M:k≤t.k) :
  Tx sz (Uc n.p t.p k g A []) s λF=>ny g A s F∧F.m=s.m∧∃(c:Bool) (v:Nat),F.r (g+8)=O4 c∧v<18446744073709551616^k∧v+vl (pl s.m n) k=vl (pl s.m t) k+18446744073709551616^k*c.toNat:=by
 have O:k<18446744073709551616:=by have:=E.1;have:=E.2;omega
 have e:Uc n.p t.p k g A []=(Nu [cK ((g+8:Nat):Int) 0]).cat (P4 (A:Nat) (k:Nat) (Nu (T1 n.p t.p g A++[]))):=rfl;rw[e];refine .op w9 ?_;refine .lp (λB C=>ny g A s C∧C.m=s.m∧∃(c:Bool) (v:Nat),C.r (g+8)=O4 c∧v<18446744073709551616^B∧v+vl (pl s.m n) B=vl (pl s.m t) B+18446744073709551616^B*c.toNat) ⟨λP D _=>?_,rfl,false,0,by simp[N0,O4],N,E4⟩ O (λB C hj ⟨Q,H,c,v,R,l1,T⟩=>?_) λ_ h=>h
 ·unfold Qs at D;rw[N0,Hs J]
 ·refine zod (j:=B) (c:=c) K B6 (by rw[N0,Hs J,R]) E L J J _ _ λG b U V t2 I X=>.nil ⟨λP D z=>?_,by rw[U,Ry,H],b,v+(G.r (g+6)).toNat*18446744073709551616^B,V,?_,?_⟩
  ·rw[X P D,N0,Hs z,Q P D z]
  ·have:=(G.r (g+6)).toNat_lt;have Y:=H8 (18446744073709551616^B) (J:(G.r (g+6)).toNat+1≤18446744073709551616);rw[Im,Nat.one_mul]at Y;rw[Ji,Ka (18446744073709551616^B)];omega
  ·rw[Ry,H]at I;rw[To,To,Ji];exact zt8 T I
def DjE(p q:Pn):Prop:=Dj p q∨(p.b=q.b∧p.a=q.a)
def DjE.sto{d n:Pn}{s:Fs}{v:UInt64}{i j:Nat}(h:DjE d n)(hj:j<d.k)(hi:i<n.k)(gg:i≠j):pl (s.sto d.b (d.a+j) v).m n i=pl s.m n i:=by
 rcases h with h|⟨e1,e2⟩
 ·exact (ue hj).pl h hi
 ·unfold pl;rw[d7,Hs J]
def ou{s:Fs}{k:Nat}{d n t:Pn}{p:Bool}(Z:E<A)(hp:s.r (A+10)=O4 p)(L:n.in_ sz)(ht:t.in_ sz)(hd:d.in_ sz)(hk:k≤n.k)(gg:k≤t.k)(gz:k≤d.k)(dn:DjE d n)(V:Dj d t) :
  Tx sz (Uc n.p t.p k A E [Pg (A+6) (A+10) (A+7) (A+6),N7 d.p E 0 (A+6)]) s λM=>ny A E s M∧Pd d s.m M.m∧∃(c:Bool) (v:Nat),v<18446744073709551616^k∧v+vl (pl s.m n) k=vl (pl s.m t) k+18446744073709551616^k*c.toNat∧vl (pl M.m d) k=if p=true then vl (pl s.m t) k else v:=by
 have hW:k<18446744073709551616:=by have:=L.1;have:=L.2;omega
 have e:Uc n.p t.p k A E [Pg (A+6) (A+10) (A+7) (A+6),N7 d.p E 0 (A+6)]=(Nu [cK ((A+8:Nat):Int) 0]).cat (P4 (E:Nat) (k:Nat) (Nu (T1 n.p t.p A E++[Pg ((A+6:Nat):Int) ((A+10:Nat):Int) ((A+7:Nat):Int) ((A+6:Nat):Int),N7 d.p (E:Nat) ((0:Nat):Int) ((A+6:Nat):Int)]))):=rfl;rw[e];refine .op w9 ?_;refine .lp (λB C=>ny A E s C∧Pd d s.m C.m∧∃(c:Bool) (v:Nat),C.r (A+8)=O4 c∧v<18446744073709551616^B∧v+vl (pl s.m n) B=vl (pl s.m t) B+18446744073709551616^B*c.toNat∧vl (pl C.m d) B=(if p=true then vl (pl s.m t) B else v)∧∀i,B≤i→i<n.k→pl C.m n i=pl s.m n i) ⟨λgA F _=>?_,λ_ _ _=>rfl,false,0,by simp[N0,O4],N,E4,E4,λ_ _ _=>rfl⟩ hW (λB C hj ⟨X,O,c,v,c1,l1,v1,d1,Y⟩=>?_) λ_ ⟨h1,h2,c,v,_,P,h4,h5,_⟩=>⟨h1,h2,c,v,P,h4,h5⟩
 ·unfold Qs at F;rw[N0,Hs J]
 ·refine zod (j:=B) (c:=c) Z B6 (by rw[N0,Hs J,c1]) L ht J J _ _ λz b I b2 Q R T=>?_
  have gC:(z.r E).toNat=B:=by rw[T E Au];simp[N0];omega
  rw[Ry]at Q R I;rw[Y B (Hw _) J,O.pl V J]at R;rw[O.pl V J]at Q;have U:z.r (A+10)=O4 p:=by rw[T _ Au,N0,Hs J,X _ Au J,hp]
  refine .op ud (.op (zup (by simp only[N0];rw[Hs J];have:=hd.1;omega) hd.2) (.nil ⟨λgA F G=>?_,?_,b,v+(z.r (A+6)).toNat*18446744073709551616^B,?_,?_,?_,?_,λi hi H=>?_⟩))
  ·rw[Y5,N0,Hs (by unfold Qs at F;omega),T gA F,N0,Hs G,X gA F G]
  ·refine O.trans (I ▸ ?_);exact ue (p:=d) (s:=z.put _ _) Fk
  ·rw[Y5,N0,Hs J,b2]
  ·have:=(z.r (A+6)).toNat_lt;have P:=H8 (18446744073709551616^B) (J:(z.r (A+6)).toNat+1≤18446744073709551616);rw[Im,Nat.one_mul]at P;rw[Ji,Ka (18446744073709551616^B)];omega
  ·rw[To,To,Ji];exact zt8 v1 R
  ·have D:0+((z.put (A+6) (if z.r (A+10)%2=1 then z.r (A+7) else z.r (A+6))).r E).toNat=B:=Fk
   rw[To,D,Wd,Hv rfl,z9d (g:=pl C.m d) (n:=B) λi hi=>by rw[Wd,Hs J,Ry,I],d1,N0,Hv rfl,U,Q];have K:=zh3 p;cases p
   ·simp at K;simp[K]
   ·simp at K;simp[K,To]
  ·have D:0+((z.put (A+6) (if z.r (A+10)%2=1 then z.r (A+7) else z.r (A+6))).r E).toNat=B:=Fk
   rw[D,dn.sto J H J,Ry,I];exact Y i J H
def jv{t c b v e:Nat}{W q:Nat}(D:A<g)(E:j+t*g<2*A)(hv:v<g)(z:c≤1)(B:b≤1)(h:v+A=j+g*c)(k:q+c=t+W*b)(F:q<W)(G:e+A=j+g*c):(j+t*g<A↔b=1)∧(b=1→t=0)∧(b=0→e=j+t*g-A):=by
 have C:t≤1:=by
  rcases Kb t 2 with h|h
  ·omega
  ·have:=H8 g h;omega
 have C:t=0∨t=1:=J
 have z:c=0∨c=1:=J
 have B:b=0∨b=1:=J
 rcases C with rfl|rfl<;>rcases z with rfl|rfl<;>rcases B with rfl|rfl<;>simp at *<;>omega
def ux{s:Fs}{R k:Nat}{d n t:Pn}(Q:s.r R=0)(G:g<R)(H:n.in_ sz)(z:t.in_ sz)(hd:d.in_ sz)(I:k≤n.k)(T:k+1≤t.k)(A:k≤d.k)(U:DjE d n)(V:Dj d t)(K:vl (pl s.m t) (k+1)<2*vl (pl s.m n) k) :
  Tx sz (V2 d.p n.p t.p k R g) s λB=>RgA R g s B∧Pd d s.m B.m∧vl (pl B.m d) k=if vl (pl s.m t) (k+1)<vl (pl s.m n) k then vl (pl s.m t) (k+1) else vl (pl s.m t) (k+1)-vl (pl s.m n) k:=by
 have e:V2 d.p n.p t.p k R g=(Uc n.p t.p k R g []).cat ((Nu [Nb ((R+7:Nat):Int) t.p (-1) (k:Nat),Nw 12 ((R+6:Nat):Int) ((R+10:Nat):Int) ((R+7:Nat):Int) (R:Nat) ((R+8:Nat):Int)]).cat (Uc n.p t.p k R g [Pg (R+6) (R+10) (R+7) (R+6),N7 d.p g 0 (R+6)])):=rfl;rw[e];refine (pu G H z I J).cat λX ⟨L,C,c,v,Y,Z,v1⟩=>?_
 have hT:=zmg (pl s.m t k) 0 c;refine .op (zvy (by have:=z.1;omega) z.2) (.op zyb ?_);have R1:X.r R=0:=by rw[L R Au J,Q]
 refine (ou (p:=(Og (pl s.m t k) 0 c).2) G ?_ H z hd I J A U V).mono λs3 ⟨g3,o3,M,v',l3,D,O⟩=>⟨λgg hz j=>?_,?_,?_⟩
 ·simp[N0,R1,Y,zh3,C]
 ·rw[g3 gg Au j];simp only[N0];rw[Hs J,Hs J,Hs J,L gg Au j]
 ·rw[←C];exact o3
 ·simp only[Ry,C]at D O;rw[To]at K ⊢;have hN:=xe (pl s.m n) k;have hq:=(Og (pl s.m t k) 0 c).1.toNat_lt;have E:c.toNat≤1:=by cases c<;>decide
  have F:M.toNat=c.toNat:=by
   rcases c with _|_<;>rcases M with _|_<;>simp at *<;>omega
  rw[F]at D;generalize (Og (pl s.m t k) 0 c).2=b at *;have hb:b.toNat≤1:=by cases b<;>decide
  obtain⟨P,q2,q3⟩:=jv hN K Z E hb v1 (by simpa using hT) hq D;rw[O];cases b
  ·rw[Hs N,Hs (by rw[P];simp),q3 rfl]
  ·rw[Hv rfl,Hv (by rw[P];rfl),q2 rfl];simp
def tg{s:Fs}{a:Nat}{p:Pn}(G:p.in_ sz)(C:a≠g):Tx sz (W5 p.p a g) s λB=>(∀A,A≠g→B.r A=s.r A)∧Pd p s.m B.m∧∀i,i<p.k→pl B.m p i=s.r a:=by
 have e:W5 p.p a g=P4 (g:Nat) (p.k:Nat) (Nu [N7 p.p (g:Nat) ((0:Nat):Int) (a:Nat)]):=rfl;rw[e];obtain⟨L,H⟩:=G;refine .lp (λF z=>(∀A,A≠g→z.r A=s.r A)∧Pd p s.m z.m∧∀i,i<F→pl z.m p i=s.r a) ⟨λ_ _=>rfl,λ_ _ _=>rfl,λ_ h=>absurd h J⟩ J (λF z M ⟨D,I,K⟩=>?_) λ_ h=>h
 have j:((z.put g (UInt64.ofNat F)).r g).toNat=F:=B6
 refine .op (zup (by rw[j];omega) H) (.nil ⟨λA E=>?_,?_,λi hi=>?_⟩)
 ·rw[Y5,N0,Hs E,D A E]
 ·exact I.trans (ue (p:=p) (s:=z.put _ _) (by rw[j];omega))
 ·rw[Wd,j];split
  ·rw[N0,Hs C,D a C]
  ·rw[Ry];exact K i J
def zsz{f:Nat→UInt64}:∀{n:Nat},(∀i,i<n→f i=0)→vl f n=0
 |0,_=>rfl
 |n+1,h=>by rw[vl,zsz λi hi=>h i J,h n J];simp
def zyy{W b m:Nat}(h:g*vV=j*A+E*R)(z:uZ=vV+j*b)(B:W*vH=uZ+m*R):g*W*vH=j*(A+b*g)+(E+m*g)*R:=by
 have:g*(W*vH)=g*(vV+j*b+m*R):=by rw[B,z]
 grind
def gh{W b m:Nat}(F:A<2*j)(G:g<j)(H:b<W)(hm:m<W)(z:R=A+g*b)(B:W*E=R+m*j):E<2*j:=by
 have C:g*b≤j*(W-1):=Jr J J;have I:m*j≤(W-1)*j:=H8 _ J;have K:(W-1)*j+j=W*j:=by
  rw[←Ll];congr 1;omega
 rw[Ka j]at C;have D:W*E<W*(2*j):=by
  rw[B,z,Ml];omega
 exact Nat.lt_of_mul_lt_mul_left D
def vt{s:Fs}{R D k:Nat}{d a b n t:Pn}(hD:D+1<R)(hd:d.in_ sz)(ha:a.in_ sz)(hb:b.in_ sz)(K:n.in_ sz)(O:t.in_ sz)(kd:k+1≤d.k)(ka:k+1≤a.k)(kb:k+1≤b.k)(G:k+1≤n.k)(kt:k+3≤t.k)
  (dn:DjE d n) (dt:Dj d t) (ta:Dj t a) (tb:Dj t b) (H:Dj t n) (gg:pl s.m n 0%2=1) (hA:vl (pl s.m a) (k+1)<vl (pl s.m n) (k+1)) :
  Tx sz (Xw d.p a.p b.p n.p t.p (k+1:Nat) R D) s λX=>(∀g,¬(R≤g∧g≤R+10)→g≠D→g≠D+1→X.r g=s.r g)∧(∀x y,¬(x=d.b∧d.a≤y∧y<d.a+d.k)→¬(x=t.b∧t.a≤y∧y<t.a+t.k)→X.m x y=s.m x y) ∧
   vl (pl X.m d) (k+1)<vl (pl s.m n) (k+1)∧∃P Q':Nat,18446744073709551616^(k+1)*vl (pl X.m d) (k+1)+Q'*vl (pl s.m n) (k+1)=vl (pl s.m a) (k+1)*vl (pl s.m b) (k+1)+P*vl (pl s.m n) (k+1):=by
 have e:Xw d.p a.p b.p n.p t.p (k+1:Nat) R D=(Nu ([cK (R:Nat) 0,Nb ((R+10:Nat):Int) n.p (-1) ((0:Nat):Int)]++Td ((R+10:Nat):Int) ((R+1:Nat):Int))).cat ((W5 t.p (R:Nat) (D:Nat)).cat ((P4 (D:Nat) (k+1:Nat) ((R4 a.p b.p t.p (k+1:Nat) R ((D+1:Nat):Int) D).cat (Sl n.p t.p (k+1:Nat) R ((D+1:Nat):Int)))).cat (V2 d.p n.p t.p (k+1:Nat) R D))):=rfl;rw[e,frL_app];have gz:k+1<18446744073709551616:=by have:=K.1;have:=K.2;omega
 refine Tx.cat (R:=λL=>L.r R=0∧L.r (R+1)*pl s.m n 0+1=0∧L.m=s.m∧∀g,¬(R≤g∧g≤R+10)→L.r g=s.r g) ?_ λL ⟨R1,I1,m1,g1⟩=>?_
 ·refine .op w9 (.op (zvy (by have:=K.1;omega) K.2) ((vr J).mono λL ⟨e1,e2,e3⟩=>⟨?_,?_,?_,λg hz=>?_⟩))
  ·rw[e3 R J];simp[N0]
  ·rw[e1];simp only[N0,Ky,Ry];have:=zyt _ gg
   grind
  ·rw[e2];rfl
  ·rw[e3 g J,N0,Hs J,N0,Hs J]
 refine (tg O J).cat λQ ⟨g2,o2,Y⟩=>?_
 have R2:Q.r R=0:=by rw[g2 R J,R1]
 have I2:Q.r (R+1)*pl s.m n 0+1=0:=by rw[g2 (R+1) J,I1]
 rw[m1]at o2;rw[R1]at Y;refine .cat (R:=λj=>(∀g,¬(R+2≤g∧g≤R+10)→g≠D→g≠D+1→j.r g=Q.r g)∧Pd t s.m j.m∧(pl j.m t (k+2)).toNat≤1∧vl (pl j.m t) (k+2)<2*vl (pl s.m n) (k+1)∧∃P,18446744073709551616^(k+1)*vl (pl j.m t) (k+2)=vl (pl s.m a) (k+1)*vl (pl s.m b) (k+1)+P*vl (pl s.m n) (k+1)) ?_ λj ⟨Z,F,_,T,P,M⟩=>?_
 ·refine .lp (λi j=>(∀g,¬(R+2≤g∧g≤R+10)→g≠D→g≠D+1→j.r g=Q.r g)∧Pd t s.m j.m∧(pl j.m t (k+2)).toNat≤1∧vl (pl j.m t) (k+2)<2*vl (pl s.m n) (k+1)∧∃P,18446744073709551616^i*vl (pl j.m t) (k+2)=vl (pl s.m a) (k+1)*vl (pl s.m b) i+P*vl (pl s.m n) (k+1)) ⟨λ_ _ _ _=>rfl,o2,by rw[Y _ J];decide,?_,0,?_⟩ gz (λi j hi ⟨Z,F,c3,T,P,M⟩=>?_) λ_ h=>h
  ·rw[zsz λi hi=>Y i J];omega
  ·rw[zsz λi hi=>Y i J];simp[vl]
  ·have U:((j.put D (UInt64.ofNat i)).r D).toNat=i:=B6
   have A:∀g,¬(R+2≤g∧g≤R+10)→g≠D→g≠D+1→(j.put D (UInt64.ofNat i)).r g=Q.r g:=λg B z I=>by rw[N0,Hs z,Z g B z I]
   refine (ii (k:=k+1) (b:=b) (i:=D) (by rw[A R J J J,R2]) J (by rw[U];omega) hb ha O ka kt ta O.2).cat λs4 ⟨V,o4,C,c4⟩=>?_
   rw[Ry]at o4 C;rw[U,F.pl tb J,F.vl ta ka]at C;have E:=F.trans o4;refine (qv (k:=k) (by rw[V R J J,A R J J J,R2]) J (by rw[V (R+1) J J,A _ J J J,E.pl H J,I2]) K O G kt H c4).mono λs5 ⟨g5,o5,c5,m,v5⟩=>⟨λg B z I=>?_,E.trans o5,?_,?_,P+m.toNat*18446744073709551616^i,?_⟩
   ·rw[g5 g B I,V g B I,A g B z I]
   ·rw[c5];exact c4
   ·rw[E.vl H G]at v5;exact gh T hA (pl s.m b i).toNat_lt m.toNat_lt C v5
   ·rw[E.vl H G]at v5;rw[Ji,To];exact zyy M C v5
 ·refine (ux (k:=k+1) (by rw[Z R J J J,R2]) J K O hd G J kd dn dt (by rw[F.vl H G];exact T)).mono λs4 ⟨V,o4,C⟩=>⟨λg B z I=>?_,λx y B z=>?_,?_,?_⟩
  ·rw[V g J z,Z g J z I,g2 g z,g1 g B]
  ·rw[o4 x y B,F x y z]
  ·have T:vl (pl j.m t) (k+1+1)<2*vl (pl s.m n) (k+1):=T;rw[F.vl H G]at C;rw[C];split<;>omega
  ·have M:18446744073709551616^(k+1)*vl (pl j.m t) (k+1+1)=vl (pl s.m a) (k+1)*vl (pl s.m b) (k+1)+P*vl (pl s.m n) (k+1):=M;rw[F.vl H G]at C;rw[C];split
   ·exact⟨P,0,by rw[M];omega⟩
   ·refine⟨P,18446744073709551616^(k+1),?_⟩;rw[←M,←K3,Nat.sub_add_cancel J]
end mu
end
noncomputable section
def Wi(g:List Bf)(m:List Bool)(o:Lo):Bool:=if o.kind=16 then false else if o.kind=14 then (M7 g o.buf.toNat).sec else (N1 o).any (Ok m)
def mkS(g:List Bf)(o:Lo):List Int→List Bool×Bool→List Bool×Bool
 |[],s=>s
 |r::j,s=>mkS g o j (if (!Ok s.1 r&&Wi g s.1 o)=true then (s.1.set r.toNat true,true) else s)
def Xn(g:List Bf):List Lo→List Bool×Bool→List Bool×Bool
 |[],s=>s
 |o::j,s=>Xn g j (mkS g o (M3 o) s)
def Vz(g:List Bf)(os:List Lo):Nat→List Bool→List Bool
 |0,m=>m
 |n+1,m=>if (Xn g os (m,false)).2=true then Vz g os n (Xn g os (m,false)).1 else (Xn g os (m,false)).1
def S4(m:List Bool):Nat:=m.countP (λb=>!b)
def ef{m:List Bool}{n:Nat}(h:n<m.length)(k:m.getD n false=false):S4 (m.set n true)+1=S4 m:=by
 induction m generalizing n with
 |nil=>simp at h
 |cons b m g =>
  cases n with
  |zero=>simp at k;subst k;simp[S4]
  |succ n =>
   have:=g (n:=n) Av (by simpa using k);simp only[S4,Mg,List.countP_cons]at *;omega
def zsi(g:List Bf)(o:Lo):∀(l:List Int) (s:List Bool×Bool),(mkS g o l s).1.length=s.1.length
 |[],_=>rfl
 |r::l,s=>by rw[mkS,zsi g o l];split<;>simp
def zpq(j:List Bf):∀(g:List Lo) (s:List Bool×Bool),(Xn j g s).1.length=s.1.length
 |[],_=>rfl
 |o::g,s=>by rw[Xn,zpq j g,zsi]
def Dn(s s':List Bool×Bool):Prop:=S4 s'.1≤S4 s.1∧(s'.2=true→s.2=true∨S4 s'.1<S4 s.1)
def Dn.trans{s s' gg:List Bool×Bool}(h:Dn s s')(k:Dn s' gg):Dn s gg:=by
 refine⟨by have:=h.1;have:=k.1;omega,λh2=>?_⟩;rcases k.2 h2 with q|q
 ·rcases h.2 q with q|q
  ·exact .inl q
  ·have:=k.1;exact .inr J
 ·have:=h.1;exact .inr J
def Wr(g:List Bf)(o:Lo):∀(l:List Int) (s:List Bool×Bool),(∀x∈l,0≤x∧x<s.1.length)→Dn s (mkS g o l s)
 |[],s,_=>⟨Hw _,λh=>.inl h⟩
 |r::l,s,h=>by
  rw[mkS];obtain⟨A,B⟩:=h r (Ir ..);split
  ·rename_i z;simp only[Hq,Jl]at z;have C:=ef (m:=s.1) (n:=r.toNat) J z.1;refine Dn.trans (s':=(s.1.set r.toNat true,true)) ⟨Do,λ_=>.inr Do⟩ (Wr g o l _ λx j=>?_);simpa using h x (Ij _ j)
  ·exact Wr g o l _ λx j=>h x (Ij _ j)
def zty(g:List Bf):∀(os:List Lo) (s:List Bool×Bool),(∀o∈os,∀x∈M3 o,0≤x∧x<s.1.length)→Dn s (Xn g os s)
 |[],s,_=>⟨Hw _,λh=>.inl h⟩
 |o::os,s,h=>by
  rw[Xn];refine Dn.trans (Wr g o _ s λx j=>h o (Ir ..) x j) (zty g os _ λp z x j=>?_);rw[zsi];exact h p (Ij _ z) x j
def Wc(m:List Bool)(g:Int→Bool):Prop:=∀x,0≤x→Ok m x=true→g x=true
def Ty(g:List Bf)(j:Int→Bool)(o:Lo):Bool:=if o.kind=16 then false else if o.kind=14 then (M7 g o.buf.toNat).sec else (N1 o).any j
def zx2(g:List Bf)(z:Int→Bool)(j:List Lo):Prop:=∀o∈j,Ty g z o=true→∀x∈M3 o,z x=true
def Wc.sec{bs:List Bf}{m:List Bool}{gg:Int→Bool}{o:Lo}(h:Wc m gg)(ht:∀x∈N1 o,0≤x)(k:Wi bs m o=true):Ty bs gg o=true:=by
 unfold Wi at k;unfold Ty;split
 ·rename_i q;rw[Hv q]at k;exact k
 ·rename_i q;rw[Hs q]at k;split
  ·rename_i q;rw[Hv q]at k;exact k
  ·rename_i q;rw[Hs q,Iw]at k;obtain⟨x,C,hk⟩:=k;exact Iw.2 ⟨x,C,h x (ht x C) hk⟩
def Wc.set{m:List Bool}{C:Int→Bool}{r:Int}(h:Wc m C)(h0:0≤r)(k:C r=true):Wc (m.set r.toNat true) C:=λx hx hm=>by
 by_cases e:x=r
 ·rw[e];exact k
 ·refine h x hx ?_;unfold Ok at hm ⊢;rw[Hn,Ho J]at hm;rw[Hn];exact hm
def Yn{g:List Bf}{B:Int→Bool}{o:Lo}(j:∀x∈N1 o,0≤x)(z:Ty g B o=true→∀x∈M3 o,B x=true):∀(l:List Int) (s:List Bool×Bool),(∀x∈l,x∈M3 o∧0≤x)→Wc s.1 B→Wc (mkS g o l s).1 B
 |[],_,_,h=>h
 |r::l,s,A,h=>by
  rw[mkS];refine Yn j z l _ (λx C=>A x (Ij _ C)) ?_;split
  ·rename_i q;simp only[Hq]at q;obtain⟨D,E⟩:=A r (Ir ..);exact h.set E (z (h.sec j q.2) r D)
  ·exact h
def zj7{z:List Bf}{D:Int→Bool}:∀(g:List Lo) (s:List Bool×Bool),(∀o∈g,∀x∈N1 o,0≤x)→(∀o∈g,∀x∈M3 o,0≤x)→zx2 z D g→Wc s.1 D→Wc (Xn z g s).1 D
 |[],_,_,_,_,h=>h
 |o::g,s,A,hm,B,h=>by
  rw[Xn];exact zj7 g _ (λp j=>A p (Ij _ j)) (λp j=>hm p (Ij _ j)) (λp j=>B p (Ij _ j)) (Yn (A o (Ir ..)) (B o (Ir ..)) _ _ (λx C=>⟨C,hm o (Ir ..) x C⟩) h)
def zv0{A:List Bf}{B:Int→Bool}{g:List Lo}(j:∀o∈g,∀x∈N1 o,0≤x)(hm:∀o∈g,∀x∈M3 o,0≤x)(z:zx2 A B g):∀(n:Nat) (m:List Bool),Wc m B→Wc (Vz A g n m) B
 |0,_,h=>h
 |n+1,m,h=>by
  rw[Vz];split
  ·exact zv0 j hm z n _ (zj7 g _ j hm z h)
  ·exact zj7 g _ j hm z h
def ztv(g:List Bf)(j:List Lo):∀(n:Nat) (m:List Bool),(Vz g j n m).length=m.length
 |0,_=>rfl
 |n+1,m=>by rw[Vz];split<;>simp[ztv g j n,zpq]
def Wc.none(n:Nat)(C:Int→Bool):Wc (List.replicate n false) C:=λx _ h=>by
 unfold Ok at h;rw[Hn,List.getElem?_replicate]at h;split at h<;>simp at h
def W2(g:Int)(j:List Bf)(os:List Lo):List Bool:=Vz j os (g.toNat+1) (List.replicate g.toNat false)
def f9(g:List Bf)(j:Int→Bool)(o:Lo):Bool:=!((Om o.kind&&decide (0≤o.a))&&j o.a)&&(!(decide (o.kind=15)&&(j o.b && !(M7 g o.buf.toNat).sec)) && !(decide (o.kind=16)&&j o.d))
def i9{m:List Bool}{C:Int→Bool}{o:Lo}(D:Wc m C)(E:o.kind=15→0≤o.b)(hd:o.kind=16→0≤o.d)(h:f9 X C o=true):f9 X (Ok m) o=true:=by
 unfold f9 at h ⊢;simp only[Hq,Jl,Bool.and_eq_false_iff,Iz,Bool.not_eq_false']at h ⊢;have g:∀x,0≤x→C x=false→Ok m x=false:=λx F B=>by
  cases q:Ok m x
  ·rfl
  ·rw[D x F q]at B;exact absurd B Ad
 obtain⟨z,j,A⟩:=h;refine⟨?_,?_,?_⟩
 ·by_cases q:0≤o.a
  ·rcases z with z|z
   ·exact .inl z
   ·exact .inr (g _ q z)
  ·exact .inl (.inr q)
 ·by_cases q:o.kind=15
  ·rcases j with j|j|j
   ·exact absurd q j
   ·exact .inr (.inl (g _ (E q) j))
   ·exact .inr (.inr j)
  ·exact .inl q
 ·by_cases q:o.kind=16
  ·rcases A with A|A
   ·exact absurd q A
   ·exact .inr (g _ (hd q) A)
  ·exact .inl q
end
section
def Vi(ls:List Int)(m:List Bool):Prop:=∀x,0≤x→x<8→(Ok m x=true↔x∈ls)
def Gd(bs:List Bf)(S:List Int)(ls:List Int)(f:Fr Lo)(S':List Int):Prop :=
 ∀m,bf 64 m S→Vi ls m→∃z,bf 64 z S'∧Vi ls z∧(∀x,8≤x→Ok m x=true→Ok z x=true)∧∀i j,Ys 64 bs i m ls (f.flat++j)=Ys 64 bs (i+f.flat.length) z ls j
def zqp{x:Int}(z:0≤x):∀(j:List Int) (m:List Bool),(∀y∈j,0≤y∧y<m.length)→Ok m x=true→Ok (j.foldl (λm r=>m.set r.toNat true) m) x=true
 |[],_,_,h=>h
 |a::j,m,A,h=>by
  have B:=A a (Ir ..);exact zqp z j _ (λy C=>by rw[Jv];exact A y (Ij _ C)) ((z8p ⟨B.1,B.2⟩ z).2 (.inr h))
section gd
variable {bs : List Bf} {S S' S2 ls : List Int} {f g : Fr Lo}
def bf.sub{regs:Int}{m:List Bool}(h:bf regs m S)(k:∀x∈S',x∈S):bf regs m S':=⟨h.1,λx hx=>h.2 x (k x hx)⟩
def Gd.mono(h:Gd bs S ls f S')(k1:∀x∈S,x∈S2)(k2:∀x∈vP,x∈S'):Gd bs S2 ls f vP:=λm hm hi=>by
 obtain⟨m',h1,h2,hk,h3⟩:=h m (hm.sub k1) hi;exact⟨m',h1.sub k2,h2,hk,h3⟩
def Gd.cat(h:Gd bs S ls f S')(k:Gd bs S' ls g S2):Gd bs S ls (f.cat g) S2:=λm hm hi=>by
 obtain⟨m1,h1,h2,ha,h3⟩:=h m hm hi;obtain⟨m2,k1,k2,kb,k3⟩:=k m1 h1 h2;refine⟨m2,k1,k2,λx hx hq=>kb x hx (ha x hx hq),λi rest=>?_⟩;rw[Si,I8,h3,k3,H4,J2]
def Gd.nil:Gd bs S ls .nil S:=λm hm hi=>⟨m,hm,hi,λ_ _ h=>h,λ_ _=>rfl⟩
def Vi.fold:∀(mk:List Int) (m:List Bool),m.length=64→Vi ls m→(∀x∈mk,8≤x∧x<64)→Vi ls (mk.foldl (λm r=>m.set r.toNat true) m)
 |[],_,_,h,_=>h
 |a::mk,m,hl,h,hr=>by
  have ha:=hr a (Ir ..);refine Vi.fold mk _ (by simpa using hl) (λx h0 h8=>?_) λx hx=>hr x (Ij _ hx)
  rw[←h x h0 h8,z8p ⟨J,J⟩ h0];constructor
  ·rintro (q|q)
   ·omega
   ·exact q
  ·exact .inr
def Gd.L(gz:∀x∈ls,x<8):∀{l:List Lo} {S:List Int},Pm 64 bs S l→(∀o∈l,∀x∈M3 o,8≤x)→Gd bs S ls (Nu l) ((l.flatMap M3)++S)
 |[],S,_,_=>λm hm hi=>⟨m,D3,hi,λ_ _ h=>h,λ_ _=>rfl⟩
 |o::l,S,h,hk=>λm hm hi=>by
  obtain⟨h1,⟨h2,h3⟩,h4,h5⟩:=h;have gg:=zui h1;have gA:=hk o (Ir ..);have hs:=cy (m:=m) (ls:=ls) h1 h2 h3 (λx hx q=>by have:=gz x q;have:=gA x hx;omega) (λx hx=>(hm.2 x (h4 x hx)).2.2);have gC:=hm.fold (M3 o) m S gg;have gD:=hi.fold (M3 o) m (by have:=hm.1;omega) λx hx=>⟨gA x hx,(gg x hx).2⟩
  obtain⟨m',k1,k2,kk,k3⟩:=Gd.L gz h5 (λp hp=>hk p (Ij _ hp)) _ gC gD;refine⟨m',k1.sub λx hx=>?_,k2,λx hx hq=>kk x hx (zqp J _ _ (λy hy=>by have:=gg y hy;have:=hm.1;omega) hq),λi rest=>?_⟩
  ·simp only[Kd,Ih]at hx ⊢;rcases hx with (hx|hx)|hx
   ·exact .inr (.inl hx)
   ·exact .inl hx
   ·exact .inr (.inr hx)
  ·rw[Nu,Fr.flat,Ip,Ys,hs];dsimp only;rw[Hv rfl,k3,Ig]
   congr 1;omega
def zy9{d:Int}(h:0≤d∧d<64)(C:1≤z∧z≤1048576):Po 64 bs (R0 d z)=true:=by
 have j:(iU z).toNat=z.toNat:=by
  obtain⟨n,rfl⟩:=Hr (J:0≤z);rw[ax J];rfl
 have A:(1:UInt64)≤iU z:=by rw[J5,j];show 1≤_;omega
 have B:iU z≤(1048576:UInt64):=by rw[J5,j];show _≤1048576;omega
 simp[Po,R0,Qg,P7,P9,Qu,V9,V1,Om,h,A,B]
def fields_En:Po 64 bs Se=true:=by simp[Po,Se,Qg,P7,P9,Qu,V9,V1,Om]
def zhd{m:List Bool}{a x:Int}(j:0≤a∧a<m.length)(z:0≤x):Ok (m.set a.toNat false) x=true↔x≠a∧Ok m x=true:=by
 unfold Ok;rw[Vo _ _ _ _ _ J];by_cases e:x.toNat=a.toNat
 ·rw[Hv e];simp;intro h;omega
 ·rw[Hs e];constructor
  ·exact λh=>⟨by rintro rfl;exact e rfl,h⟩
  ·exact λh=>h.2
def Gd.loop{d times:Int}{b r:Fr Lo}{S3:List Int}(gH:ls.length<8)(hd:0≤d∧d<8)(hn:¬d∈ls)(ht:1≤times∧times≤1048576)(hb:Gd bs (d::S) (ls++[d]) b S')(hs:∀x∈S2,x∈S'∧x≠d)(hr:Gd bs S2 ls r S3):Gd bs S ls (.loop (R0 d times) b Se r) S3:=λm hm hi=>by
 have gG:m.length=64:=by have:=hm.1;omega
 have gg:Ok m d=false:=by
  cases q:Ok m d
  ·rfl
  ·exact absurd ((hi d hd.1 hd.2).1 q) hn
 have gz:T2 64 bs m ls (R0 d times)=(0,m.set d.toNat true,ls++[d]):=by
  unfold T2;rw[Hs (by rw[zy9 J ht];decide),Hs (by simp[R0]),Hs,Hs (by simp[R0,gg]),Hs (by simp[R0];omega),Hs (by simp[R0,N1])]
  ·simp[R0,M3]
  ·simp[R0,M3,hn]
 have gA:bf 64 (m.set d.toNat true) (d::S):=by
  have:=hm.fold [d] m S (λx hx=>by simp at hx;omega);simpa using this
 have gC:Vi (ls++[d]) (m.set d.toNat true):=λx h0 h8=>by
  rw[z8p ⟨J,J⟩ h0,hi x h0 h8];simp[or_comm]
 obtain⟨m2,a1,a2,ak,a3⟩:=hb _ gA gC;have gI:m2.length=64:=by have:=a1.1;omega
 have gD:bf 64 (m2.set d.toNat false) S2:=⟨by simpa using a1.1,λx hx=>by
  obtain⟨h1,h2⟩:=hs x hx;obtain⟨b1,b2,b3⟩:=a1.2 x h1;exact⟨b1,b2,(zhd ⟨J,J⟩ b1).2 ⟨h2,b3⟩⟩⟩
 have gE:Vi ls (m2.set d.toNat false):=λx h0 h8=>by
  rw[zhd ⟨J,J⟩ h0,a2 x h0 h8];simp only[Ih,Mh];constructor
  ·rintro⟨h1,h2|h2⟩
   ·exact h2
   ·exact absurd h2 h1
  ·exact λh=>⟨λq=>hn (q ▸ h),.inl h⟩
 obtain⟨m4,c1,c2,ck,c3⟩:=hr _ gD gE;refine⟨m4,c1,c2,λx hx hq=>ck x hx ((zhd ⟨J,J⟩ J).2 ⟨J,ak x hx ((z8p ⟨J,J⟩ J).2 (.inr hq))⟩),λi rest=>?_⟩;have gF:T2 64 bs m2 (ls++[d]) Se=(0,m2.set d.toNat false,ls):=by
  unfold T2;rw[Hs (by rw[fields_En];decide),Hv (by rfl)];simp
 rw[Fr.flat,Ip,Ys,gz];dsimp only;rw[Hv rfl,I8,a3,Ip,Ys,gF];dsimp only;rw[Hv rfl,c3,Ig,H4,Ig]
 congr 1;omega
def Gd.lp{d times:Int}{b:Fr Lo}(gg:ls.length<8)(hd:0≤d∧d<8)(hn:¬d∈ls)(gz:¬d∈S)(ht:times≤1048576)(hb:Gd bs (d::S) (ls++[d]) b S')(hs:∀x∈S,x∈S'):Gd bs S ls (P4 d times b) S:=by
 unfold P4;split
 ·exact .nil
 ·exact .loop gg hd hn J hb (λx hx=>⟨hs x hx,λq=>gz (q ▸ hx)⟩) .nil
def t9(C:bs.length≤32)(D:f.flat.length≤65536)(A:∀b∈bs,1≤b.size∧b.size≤65536∧1≤b.kind∧b.kind≤3)(h:Gd bs [] [] f S'):P5 64 bs f.flat=((f.flat.length:Int),0):=by
 unfold P5;rw[Hs J,Hs,Hs J,Hs]
 ·obtain⟨E,_,_,_,B⟩:=h (List.replicate 64 false) ⟨N,N⟩ (λx F G=>by
   unfold Ok;rw[Hn,List.getElem?_replicate];split<;>simp)
  have:=B 0 [];rw[I9]at this;rw[show (64:Int).toNat=64 from rfl,this,Ys,Hv rfl,Iq]
 ·rw[Iw];rintro⟨b,j,z⟩;have:=A b j;simp at z;omega
 ·rw[Iw];rintro⟨b,j,z⟩;have:=A b j;simp at z;omega
end gd
end
section
section w
variable {bs : List Bf} {S : List Int} {l : List Lo}
def Xf{d:Int}{v:UInt64}(h:0≤d∧d<64)(k:Pm 64 bs (d::S) l):Pm 64 bs S (cK d v::l):=⟨zgy h,D6,E6,k⟩
def zz5{d e a b:Int}(h:0≤d∧d<64)(he:0≤e∧e<64)(g:0≤a∧a<64)(j:0≤b∧b<64)(z:d≠e)(A:a∈S)(B:b∈S)(k:Pm 64 bs (d::e::S) l):Pm 64 bs S (Nc d e a b::l) :=
 ⟨zbn h he g j z,D7,by simp[N1,Nc,A,B],k⟩
def zs1{d a b:Int}(j:3≤z∧z≤7)(h:0≤d∧d<64)(A:0≤a∧a<64)(B:0≤b∧b<64)(C:a∈S)(E:b∈S)(k:Pm 64 bs (d::S) l):Pm 64 bs S (M8 z d a b::l):=by
 refine⟨zbp j h A B,by simp[M8];omega,λx g=>?_,?_⟩
 ·unfold N1 M8 at g;simp only at g;rw[Hs J,Hv J]at g;simp at g;rcases g with rfl|rfl
  ·exact C
  ·exact E
 ·have:M3 (M8 z d a b)=[d]:=by unfold M3 M8;simp only;rw[Hs J,Hs J]
  rw[this];exact k
def zfd{d e a b c:Int}(g:z=11∨z=12)(h:0≤d∧d<64)(he:0≤e∧e<64)(j:0≤a∧a<64)(A:0≤b∧b<64)(B:0≤c∧c<64)(C:d≠e)(E:a∈S)(F:b∈S)(G:c∈S)(k:Pm 64 bs (d::e::S) l):Pm 64 bs S (Nw z d e a b c::l):=by
 refine⟨zvn g h he j A B C,by rcases g with rfl|rfl<;>simp[Nw],?_,?_⟩
 ·rcases g with rfl|rfl<;>simp[N1,Nw,E,F,G]
 ·rcases g with rfl|rfl<;>exact k
def sd{d c a b:Int}(h:0≤d∧d<64)(g:0≤c∧c<64)(j:0≤a∧a<64)(z:0≤b∧b<64)(A:c∈S)(B:a∈S)(C:b∈S)(k:Pm 64 bs (d::S) l):Pm 64 bs S (Pg d c a b::l) :=
 ⟨zw9 h g j z,by simp[Pg],by simp[N1,Pg,B,C,A],k⟩
structure Bp (bs:List Bf) (p:Pn):Prop where
 b:p.b<bs.length
 s:((p.a+p.k:Nat):Int)≤(M7 bs p.b).size
 z:(M7 bs p.b).size≤65536
def Bw(bs:List Bf)(p:Pn):Prop:=(M7 bs p.b).kind≠1
def Bp.at{p:Pn}(h:Bp bs p){off:Int}(h0:0≤off)(hk:off<p.k):iU (p.p.at_+off)<iU (M7 bs p.p.buf.toNat).size:=by
 obtain⟨o,rfl⟩:=Hr h0;have hs:=h.s;have hz:=h.z;obtain⟨z,gg⟩:=Hr (J:0≤(M7 bs p.b).size);have e1:p.p.buf.toNat=p.b:=rfl;rw[e1,gg,I6,ax J,Ya J];omega
def zd2{d i:Int}{p:Pn}(g:Bp bs p)(h:0≤d∧d<64)(hi:0≤i∧i<64)(j:i∈S)(k:Pm 64 bs (d::S) l):Pm 64 bs S (Nb d p.p i z::l):=by
 refine⟨zo1 h (.inr hi) ⟨C9,Bu⟩ (λq=>J),by simp[Nb],?_,k⟩;have:i≠-1:=J
 simp[N1,Nb,this,j]
def zn{d:Int}{p:Pn}(g:Bp bs p)(h:0≤d∧d<64)(j:0≤z)(A:z<p.k)(k:Pm 64 bs (d::S) l):Pm 64 bs S (Nb d p.p (-1) z::l):=by
 refine⟨zo1 h (.inl rfl) ⟨C9,Bu⟩ (λ_=>g.at j A),by simp[Nb],by simp[N1,Nb],k⟩
def znc{v i:Int}{p:Pn}(g:Bp bs p)(hw:Bw bs p)(h:0≤v∧v<64)(hi:0≤i∧i<64)(j:i∈S)(A:v∈S)(k:Pm 64 bs S l):Pm 64 bs S (N7 p.p i z v::l):=by
 refine⟨zqv h (.inr hi) ⟨C9,Bu⟩ hw (λq=>J),by simp[N7],?_,k⟩;have:i≠-1:=J
 simp[N1,N7,this,j,A]
def zmi{v:Int}{p:Pn}(g:Bp bs p)(hw:Bw bs p)(h:0≤v∧v<64)(j:0≤z)(A:z<p.k)(B:v∈S)(k:Pm 64 bs S l):Pm 64 bs S (N7 p.p (-1) z v::l):=by
 refine⟨zqv h (.inl rfl) ⟨C9,Bu⟩ hw (λ_=>g.at j A),by simp[N7],by simp[N1,N7,B],k⟩
def okL_nil:Pm 64 bs S []:=trivial
end w
section into
variable {bs : List Bf} {ls : List Int} {R D : Int} {d a b n t : Pn} {k : Int}
def zwv{S:List Int}{l:List Lo}{a b:Int}(F:16≤R∧R≤50)(g:0≤a∧a<64)(j:0≤b∧b<64)(z:a∈S)(A:b∈S)(B:R∈S)(C:R+3∈S)(E:R+7∈S)(k:Pm 64 bs ((R+3)::(R+5)::(R+6)::(R+9)::(R+6)::(R+8)::(R+5)::(R+6)::S) l):Pm 64 bs S (Ni R a b++l):=by
 unfold Ni;refine zz5 ?_ ?_ g j ?_ z A (zfd (.inl rfl) ?_ ?_ ?_ ?_ ?_ ?_ ?_ ?_ ?_ (zfd (.inl rfl) ?_ ?_ ?_ ?_ ?_ ?_ ?_ ?_ ?_ (zs1 ?_ ?_ ?_ ?_ ?_ ?_ (zs1 ?_ ?_ ?_ ?_ ?_ ?_ k))))
 all_goals first|omega|(simp[B,C,E];done)|(simp;omega)
def zrg{n r:Int}:∀o∈Td n r,∀x∈M3 o,r≤x∧x≤r+4:=by
 intro o ho;simp[Td,Z9,W1,wo,cK,Nc,M8]at ho;rcases ho with rfl|rfl|rfl|rfl|⟨_,rfl|rfl|rfl⟩|rfl|rfl<;>simp[M3]<;>omega
def kv{i:Int}(C:16≤R∧R≤50)(hi:0≤i∧i<8)(E:0≤D∧D<8)(F:¬D∈ls)(G:D≠i)(A:ls.length<8)(j:∀x∈ls,x<8)(H:Bp bs a)(I:Bp bs b)(z:Bp bs t)(B:Bw bs t)(P:0≤k∧k+1<t.k) :
  Gd bs [i,R,R+1,R+10] ls (R4 a.p b.p t.p k R D i) [i,R,R+1,R+10]:=by
 have K:(t.k:Int)≤65536:=Dk
 unfold R4;have L:Pm 64 bs [i,R,R+1,R+10] [Nb (R+2) b.p i 0,cK (R+3) 0]:=zd2 I J J N (Xf J okL_nil);have M:Pm 64 bs (D::(List.flatMap M3 [Nb (R+2) b.p i 0,cK (R+3) 0]++[i,R,R+1,R+10])) (Th a.p t.p R D):=by
  unfold Th;refine zd2 H J J N (zd2 z J J N (zwv C J J N (by simp[M3,Nb]) Bi Bi N (znc z B J J N N okL_nil)))
 have O:Pm 64 bs (List.flatMap M3 [Nb (R+2) b.p i 0,cK (R+3) 0]++[i,R,R+1,R+10]) (Ob t.p k R++[N7 t.p (-1) k (R+7),N7 t.p (-1) (k+1) (R+8)]):=by
  unfold Ob;refine zn z J J J (zfd (.inl rfl) J J J J J J N Bi Bi (zmi z B J J J N (zmi z B J J J N okL_nil)))
 refine Gd.mono ((Gd.L j L ?_).cat ((Gd.lp A E F ?_ J (Gd.L ?_ M ?_) ?_).cat (Gd.L j O ?_))) (λx h=>h) ?_
 ·simp[M3,Nb,cK];omega
 ·simp[M3,Nb,cK];omega
 ·intro x g;rcases Ih.1 g with g|g
  ·exact j x g
  ·simp at g;omega
 ·simp[M3,Th,Ni,Nb,N7,Nc,Nw,M8];omega
 ·intro x g;exact Iv _ (Ij _ g)
 ·simp[M3,Ob,Nb,N7,Nw];omega
 ·intro x g;exact Iv _ (Iv _ g)
def pt{i:Int}(C:16≤R∧R≤50)(F:0≤D∧D<8)(G:¬D∈ls)(H:D≠i)(A:ls.length<8)(z:∀x∈ls,x<8)(E:Bp bs n)(g:Bp bs t)(B:Bw bs t)(P:1≤k∧k+1<t.k)(I:0<n.k) :
  Gd bs [i,R,R+1,R+10] ls (Sl n.p t.p k R D) [i,R,R+1,R+10]:=by
 have K:(t.k:Int)≤65536:=by have:=g.s;have:=g.z;omega
 unfold Sl;have L:Pm 64 bs [i,R,R+1,R+10] ([Nb (R+7) t.p (-1) 0,Nc (R+5) (R+10) (R+7) (R+1),Nb (R+4) n.p (-1) 0,cK (R+3) 0]++Ni R (R+10) (R+4)):=by
  rw[←I9 (_++Ni R (R+10) (R+4)),I8];exact zn g J J J (zz5 J J J J J N N (zn E J J J (Xf J (zwv C J J N N N N N okL_nil))))
 have M:Pm 64 bs (D::(List.flatMap M3 ([Nb (R+7) t.p (-1) 0,Nc (R+5) (R+10) (R+7) (R+1),Nb (R+4) n.p (-1) 0,cK (R+3) 0]++Ni R (R+10) (R+4))++[i,R,R+1,R+10])) (Tt n.p t.p R D):=by
  unfold Tt;refine zd2 E J J N (zd2 g J J N (zwv C J J N (by simp[M3,Nb]) Bi Bi N (znc g B J J N N okL_nil)))
 have O:Pm 64 bs (List.flatMap M3 ([Nb (R+7) t.p (-1) 0,Nc (R+5) (R+10) (R+7) (R+1),Nb (R+4) n.p (-1) 0,cK (R+3) 0]++Ni R (R+10) (R+4))++[i,R,R+1,R+10]) (Ob t.p k R++[N7 t.p (-1) (k-1) (R+7),Nb (R+7) t.p (-1) (k+1),M8 3 (R+7) (R+7) (R+8),N7 t.p (-1) k (R+7)]):=by
  unfold Ob;refine zn g J J J (zfd (.inl rfl) J J J J J J N Bi Bi (zmi g B J J J N (zn g J J J (zs1 J J J J N N (zmi g B J J J N okL_nil)))))
 refine Gd.mono ((Gd.L z L ?_).cat ((Gd.lp A F G ?_ J (Gd.L ?_ M ?_) ?_).cat (Gd.L z O ?_))) (λx h=>h) ?_
 ·simp[M3,Ni,Nb,cK,Nc,Nw,M8];omega
 ·simp[M3,Ni,Nb,cK,Nc,Nw,M8];omega
 ·intro x j;rcases Ih.1 j with j|j
  ·exact z x j
  ·simp at j;omega
 ·simp[M3,Tt,Ni,Nb,N7,Nc,Nw,M8];omega
 ·intro x j;exact Iv _ (Ij _ j)
 ·simp[M3,Ob,Nb,N7,Nw,M8];omega
 ·intro x j;exact Iv _ (Iv _ j)
def vi{x:Int}{S:List Int}{p:Pn}(C:0≤x∧x<64)(E:x∈S)(F:0≤D∧D<8)(G:¬D∈ls)(j:¬D∈S)(z:ls.length<8)(A:∀x∈ls,x<8)(B:Bp bs p)(wp:Bw bs p):Gd bs S ls (W5 p.p x D) S:=by
 have H:(p.k:Int)≤65536:=by have:=B.s;have:=B.z;omega
 unfold W5;have h:Pm 64 bs (D::S) [N7 p.p D 0 x]:=znc B wp C J N Ai okL_nil;refine Gd.lp z F G j (by show (p.k:Int)≤_;omega) (Gd.L ?_ h ?_) ?_
 ·intro y g;rcases Ih.1 g with g|g
  ·exact A y g
  ·simp at g;omega
 ·simp[M3,N7]
 ·intro y g;exact Iv _ (Ij _ g)
def zxj{x:List Lo}{S:List Int}(K:16≤R∧R≤50)(B:0≤D∧D<8)(C:¬D∈ls)(z:¬D∈S)(A:ls.length<8)(j:∀x∈ls,x<8)(E:Bp bs n)(F:Bp bs t)(L:k≤65536)
  (G:Pm 64 bs ((R+6)::(R+8)::(R+4)::(R+7)::D::(R+8)::S) x) (hm:∀o∈x,∀y∈M3 o,8≤y):Gd bs S ls (Uc n.p t.p k R D x) ((R+8)::S):=by
 unfold Uc;have H:Pm 64 bs S [cK (R+8) 0]:=Xf J okL_nil;have I:Pm 64 bs (D::(List.flatMap M3 [cK (R+8) 0]++S)) (T1 n.p t.p R D++x):=by
  unfold T1;exact zd2 F J J N (zd2 E J J N (zfd (.inr rfl) J J J J J J N N (by simp[M3,cK]) G))
 refine (Gd.L j H ?_).cat (Gd.lp A B C ?_ J (Gd.L ?_ I ?_) ?_)
 ·simp[M3,cK];omega
 ·simp[M3,cK];exact⟨J,z⟩
 ·intro y g;rcases Ih.1 g with g|g
  ·exact j y g
  ·simp at g;omega
 ·intro o ho;rcases Ih.1 ho with ho|ho
  ·simp[T1]at ho;rcases ho with rfl|rfl|rfl<;>simp[M3,Nb,Nw]<;>omega
  ·exact hm o ho
 ·intro y g;exact Iv _ (Ij _ g)
def vq(A:16≤R∧R≤50)(B:0≤D∧D<8)(C:¬D∈ls)(j:ls.length<8)(g:∀x∈ls,x<8)(G:Bp bs d)(H:Bw bs d)(E:Bp bs n)(z:Bp bs t)(L:0≤k∧k<t.k):Gd bs [R] ls (V2 d.p n.p t.p k R D) [R]:=by
 have I:(t.k:Int)≤65536:=Dk
 unfold V2;have K:Pm 64 bs [R+8,R] [Nb (R+7) t.p (-1) k,Nw 12 (R+6) (R+10) (R+7) R (R+8)]:=zn z J J J (zfd (.inr rfl) J J J J J J N N N okL_nil);refine Gd.mono ((zxj A B C Ab j g E z J okL_nil N).cat ((Gd.L g K ?_).cat (zxj A B C ?_ j g E z J ?_ ?_))) (λx h=>h) ?_
 ·simp[M3,Nb,Nw];omega
 ·simp[M3,Nb,Nw];omega
 ·exact sd J J J J (by simp[M3,Nb,Nw]) N N (znc G H J J N N okL_nil)
 ·simp[M3,Pg,N7];omega
 ·intro x F;simp at F;subst F;simp
def ox(B:16≤R∧R≤50)(C:0≤D∧D+1<8)(E:¬D∈ls)(A:¬D+1∈ls)(K:ls.length<7)(j:∀x∈ls,x<8)(L:Bp bs d)(M:Bw bs d)(O:Bp bs a)(P:Bp bs b)(F:Bp bs n)(z:Bp bs t)(G:Bw bs t)(Q:1≤k∧k+1<t.k)(H:0<n.k) :
  Gd bs [] ls (Xw d.p a.p b.p n.p t.p k R D) []:=by
 have T:(t.k:Int)≤65536:=Dk
 unfold Xw;have U:Pm 64 bs [] ([cK R 0,Nb (R+10) n.p (-1) 0]++Td (R+10) (R+1)) :=
  Xf J (zn F J J J (mc J J N))
 have I:∀x∈[R,R+1,R+10],x∈List.flatMap M3 ([cK R 0,Nb (R+10) n.p (-1) 0]++Td (R+10) (R+1))++[]:=by
  intro x g;simp at g;rcases g with rfl|rfl|rfl<;>simp[M3,cK,Nb,Td,Z9,Nc,M8]
 refine Gd.mono (Gd.cat (Gd.mono (Gd.L j U ?_) (λx h=>h) I) ((vi (x:=R) J N ⟨C.1,J⟩ E Ab J j z G).cat ((Gd.lp J ⟨C.1,J⟩ E Ab J ((kv B J J ?_ J ?_ ?_ O P z G J).cat (pt B J ?_ J ?_ ?_ F z G Q H)) ?_).cat (Gd.mono (vq B ⟨C.1,J⟩ E J j L M F z J) ?_ (λx h=>h))))) (λx h=>h) N
 ·intro o ho;rcases Ih.1 ho with ho|ho
  ·simp at ho;rcases ho with rfl|rfl<;>simp[M3,cK,Nb]<;>omega
  ·intro x g;have:=zrg o ho x g;omega
 ·simp;exact⟨A,J⟩
 ·simp;omega
 ·intro x g;rcases Ih.1 g with g|g
  ·exact j x g
  ·simp at g;omega
 ·simp;exact⟨A,J⟩
 ·simp;omega
 ·intro x g;rcases Ih.1 g with g|g
  ·exact j x g
  ·simp at g;omega
 ·intro x g;exact Ij _ g
 ·intro x g;simp at g;simp[g]
end into
end
section
def rgR(R x:Int):Prop:=x=-1∨(R≤x∧x<R+14)
structure OpG (nb:Nat) (R lo hi:Int) (o:Lo):Prop where
 k:o.kind≠16∧o.kind≠17
 d:rgR R o.d
 e:rgR R o.e
 a:rgR R o.a∨(lo≤o.a∧o.a≤hi)
 b:rgR R o.b
 c:rgR R o.c
 m:(o.kind=14∨o.kind=15)→o.a=-1∨(lo≤o.a∧o.a≤hi)
 f:o.buf.toNat<nb
def LpG(g:Int)(o:Lo):Prop:=o.kind=16∧o.d=g∧o.e=-1∧o.a=-1∧o.b=-1∧o.c=-1∧1≤o.imm.toNat
section al
variable {nb : Nat} {R lo hi : Int}
def pw(x:Int):Bool:=decide (16≤x)
end al
end
section
section into
variable {nb : Nat} {R lo hi D k : Int} {d a b n t : Pn}
def rg(g:Int)(h:0≤g∧g<14):rgR R (R+g):=.inr J
end into
noncomputable def Yq:Nat→Int→Fr Lo→Fr Lo
 |0,_,f=>f
 |n+1,i,f=>.loop (R0 i 1) (Yq n (i+1) f) Se .nil
def Pb:Nat→Int→List Lo
 |0,_=>[]
 |n+1,i=>⟨16,i,-1,-1,-1,-1,0,1⟩::Pb n (i+1)
def wrap_flat:∀(n:Nat) (i:Int) (f:Fr Lo),(Yq n i f).flat=Pb n i++(f.flat++List.replicate n Se)
 |0,_,f=>by simp[Yq,Pb]
 |n+1,i,f=>by
  rw[Yq,Fr.flat,wrap_flat n,Pb,List.replicate_succ'];simp[Fr.flat,R0,iU1]
def X2{B:List Bf}:∀(n:Nat) (i:Int) (j:List Int) (f:Fr Lo),0≤i→i+n≤7→(j.length:Int)=i→(∀x∈j,x<i)→(∀g:List Int,(g.length:Int)=i+n→(∀x∈g,x<i+n)→Gd B [] g f [])→Gd B [] j (Yq n i f) []
 |0,i,j,f,_,_,C,A,h=>by simpa [Yq] using h j Ca B2
 |n+1,i,j,f,F,G,C,A,h=>by
  refine .loop J J (λq=>by have:=A _ q;omega) J (Gd.mono (X2 n (i+1) (j++[i]) f J J Ab (λx z=>?_) λg H E=>?_) N N) (S':=[]) N .nil
  ·rcases Ih.1 z with q|q
   ·have:=A x q;omega
   ·simp at q;omega
  ·exact h g J λx z=>by have:=E x z;omega
def zsk{sz:Nat→Nat}{A:Fs→Prop}:∀(n:Nat) (i:Nat) (f:Fr Lo) (s:Fs),(∀g:Fs,g.m=s.m→Tx sz f g A)→Tx sz (Yq n i f) s A
 |0,_,f,s,h=>h s rfl
 |n+1,i,f,s,h=>by
  have z:(R0 (i:Int) 1).imm.toNat=1:=by simp[R0,iU1]
  refine .loop (I:=λB g=>if B=0 then g=s else A g) rfl (λB g C j=>?_) λg j=>?_
  ·rw[z]at C;have:B=0:=J
   subst this;rw[Hv rfl]at j;subst j;exact (zsk n (i+1) f _ λE F=>h E (by rw[F];rfl)).mono λH G=>Bk
  ·rw[z,Hs J]at j;exact .nil j
end
def powW(k:Nat):(18446744073709551616:Nat)^k=2^(64*k):=by rw[Nat.pow_mul]
def kx(hi:g*vH%E=1%E)(h:g*j+vV*E=A+R*E)(z:j<E):j=A*vH%E:=by
 have B:(g*j)%E=A%E:=by
  have:=congrArg (· % E) h;simpa using this
 have C:j*(g*vH)%E=A*vH%E:=by
  rw[(Dd:j*(g*vH)=g*j*vH),Kc,B,←Kc]
 rw[←C,Kc,hi,←Kc,K2,In z]
def f6{t n:List UInt64}{D k Q Q':Nat}(ho:Qh n=true)(A:k≤512)(h:18446744073709551616^k*D+Q'*val n=val t+Q*val n)(g:D<val n):val (U9 t n k)=D:=by
 unfold U9;rw[Hv ⟨ho,J,J⟩,Q1,If];have j:=(zh9 (zrw ho) (zcg (zmq ho) (64*k))).2;have z:2^(64*k)*Q8 (2^(64*k)%val n) (val n)%val n=1%val n:=by
  rw[←j]
  conv=>lhs;rw[Kc]
  conv=>rhs;rw[Kc,Nat.mod_mod]
 rw[powW]at h;exact (kx z h g).symm
def ve{f:Fr Lo}{bs:List Bf}{X:List (List UInt64)}{M:Fs→Prop}(A:f.wf Pu)(z:f.regs bs.length []=true)(B:f.costZ≤800000000)
  (F:Tx (bx (O1 64 bs X)) f (Rn (O1 64 bs X)) M) :
  ∃E j t,E≤800000000∧Ov f.flat (f.ends 0) E (O1 64 bs X)=some j∧j.i=f.flat.length∧Rep bs.length (bx (O1 64 bs X)) j t∧M t∧j.l.length≤f.costZ:=by
 have C:(O1 64 bs X).r.length=64:=Cp
 have g:=Rep.abs (O1 64 bs X) C;have D:(O1 64 bs X).bufs.length=bs.length:=by simp[O1,Sd]
 rw[D]at g;obtain⟨t,G,H⟩:=F;obtain⟨E,j,I,K,_,L,O,P⟩:=zh5 (os:=f.flat) (es:=f.ends 0) f 0 [] [] [] (O1 64 bs X) (Rn (O1 64 bs X)) t A z N N rfl rfl g G;refine⟨E,j,t,J,I,by rw[K,Fr.flat_len,Iq],L,H,?_⟩;have:(O1 64 bs X).l.length=0:=rfl;omega
def costZ_le:∀f:Fr Lo,f.costZ≤2*f.stp
 |.nil=>by simp[Fr.costZ]
 |.op _ r=>by have:=costZ_le r;rw[Fr.costZ,Fr.stp];omega
 |.loop o b _ r=>by
  have j:=costZ_le b;have z:=costZ_le r;have g:o.imm.toNat*(b.costZ+2)≤o.imm.toNat*(2*(1+b.stp)):=L9 _ J;rw[Ml]at g;rw[Fr.costZ,Fr.stp];omega
noncomputable def Vx(l:List UInt64)(i:Nat):UInt64:=if l=[] then 0 else l.getD (i%l.length) 0*iU (1+((i/l.length:Nat):Int)*2)+iU ((i/l.length:Nat):Int)
noncomputable def zrc(l:List UInt64)(n:Nat):List UInt64:=(List.range n).map (Vx l)
def zjq(l:List UInt64)(n:Nat):(zrc l n).length=n:=by simp[zrc]
section
def zxk(d g:Int)(b:Fr Lo)(j:g≤1000000):(P4 d g b).stp≤g.toNat*(1+b.stp):=by
 unfold P4;split
 ·simp[Fr.stp]
 ·obtain⟨n,rfl⟩:=Hr (J:0≤g);rw[Fr.stp,Fr.stp];have:(R0 d (n:Int)).imm.toNat=n:=ax J;rw[this];simp
section facts
variable {k y e r d : Nat}
def wrap_stp:∀(n:Nat) (i:Int) (f:Fr Lo),(Yq n i f).stp=n+f.stp
 |0,_,_=>by simp[Yq]
 |n+1,i,f=>by
  rw[Yq,Fr.stp,Fr.stp,wrap_stp n];have:(R0 i 1).imm.toNat=1:=by simp[R0,iU1]
  rw[this];omega
end facts
end
def vl_get:∀{n:Nat} {f:Nat→UInt64} {l:List UInt64},l.length≤n→(∀i,i<n→f i=l.getD i 0)→vl f n=val l
 |0,f,l,h,_=>by
  have:l=[]:=Ic J;subst this;simp[vl,val]
 |n+1,f,l,h,g=>by
  rw[jc];cases l with
  |nil =>
   have j:=g 0 J;have z:=vl_get (n:=n) (f:=λi=>f (i+1)) (l:=[]) N (λi hi=>by have:=g (i+1) J;simpa using this);rw[z,j];simp[val]
  |cons x l =>
   have j:=g 0 J;have z:=vl_get (n:=n) (f:=λi=>f (i+1)) (l:=l) (by simp at h;omega) (λi hi=>by have:=g (i+1) J;simpa using this);rw[z,j];simp[val]
section
section facts
variable {k : Nat}
end facts
end
section
def Rb(x:Int):Bool:=decide (x<16)
def Rl(x:Int):Bool:=decide (x<0) || decide (16≤x)
def Uk(o:Lo):Bool :=
 if o.kind=16 then decide (0≤o.d)&&decide (o.d<16)
 else if o.kind=17 then true
 else if o.kind=14∨o.kind=15 then Rb o.a&&(Rl o.d&&Rl o.e)
 else (Rl o.d&&Rl o.e) || (Rb o.a&&(Rb o.b&&Rb o.c))
structure Lock (s t:Ms):Prop where
 i:s.i=t.i
 first:s.first=t.first
 l:s.l=t.l
 rs:s.r.length=64
 rt:t.r.length=64
 low:∀x,x<16→s.r.getD x 0=t.r.getD x 0
 bufs:s.bufs.map List.length=t.bufs.map List.length
section lock
variable {s t s' t' : Ms} {os : List Lo} {es : List Int}
def Lock.at(h:Lock s t){x:Int}(hx:Rb x=true):atR s.r x=atR t.r x:=by
 unfold Rb at hx;have hx:=J4 hx;unfold atR;by_cases q:x<0
 ·rw[Hv q,Hv q]
 ·rw[Hs q,Hs q];exact h.low _ J
def Z8{r:List UInt64}{x:Int}{v:UInt64}(h:Rl x=true){y:Nat}(g:y<16):(Mw r x v).getD y 0=r.getD y 0:=by
 unfold Rl at h;simp only[Iy,Hz]at h;unfold Mw;split
 ·simp only[Hn];rw[Ho J]
 ·rfl
def zh2{r q:List UInt64}{x:Int}{v:UInt64}(j:r.length=64)(z:q.length=64)(h:∀y,y<16→r.getD y 0=q.getD y 0):∀y,y<16→(Mw r x v).getD y 0=(Mw q x v).getD y 0:=λy g=>by
 unfold Mw;split
 ·by_cases A:x.toNat<64
  ·rw[Vo _ _ _ _ _ J,Vo _ _ _ _ _ J];split
   ·rfl
   ·exact h y g
  ·rw[List.set_eq_of_length_le J,List.set_eq_of_length_le J];exact h y g
 ·exact h y g
def U8{r:List UInt64}{x:Int}{v:UInt64}(h:r.length=64):(Mw r x v).length=64:=by unfold Mw;split<;>simp[h]
def Lock.row(h:Lock s t)(x:Int):(Tb s.bufs x).length=(Tb t.bufs x).length:=by
 have hb:=congrArg (λl=>l.getD x.toNat 0) h.bufs;simp only[Hn,Jj]at hb;unfold Tb;simp only[Hn];cases h1:s.bufs[x.toNat]?<;>cases h2:t.bufs[x.toNat]?<;>simp[h1,h2]at hb ⊢<;>first|exact hb|skip
def Lock.step(h:Lock s t)(he:∀(i:Nat) (o p:Lo),os[i]?=some o→o.kind=17→os[(es.getD i 0).toNat]?=some p→p.kind=16)(ho:∀o∈os,Uk o=true)(hs:Qm os es s=some s')(ht:Qm os es t=some t'):Lock s' t':=by
 unfold Qm at hs ht;rw[←h.i]at ht;cases gg:os[s.i]? with
 |none =>
  rw[gg]at hs ht;cases hs;cases ht;exact h
 |some o =>
 rw[gg]at hs ht;dsimp only at hs ht;have hl:=ho o (Ia gg);unfold Uk at hl;by_cases gE:o.kind=16
 ·rw[Hv gE]at hs ht hl;cases hs;cases ht;simp only[Hq,Hz]at hl;rw[←h.first];cases s.first
  ·exact⟨Dm,rfl,C5,h.rs,h.rt,h.low,h.bufs⟩
  ·exact⟨Dm,rfl,C5,U8 h.rs,U8 h.rt,zh2 h.rs h.rt h.low,h.bufs⟩
 rw[Hs gE]at hs ht hl;by_cases gC:o.kind=17
 ·rw[Hv gC]at hs ht;cases hp:os[(es.getD s.i 0).toNat]? with
  |none=>rw[hp]at hs;cases hs
  |some p =>
  rw[hp]at hs ht;dsimp only at hs ht;have kp:=he _ _ _ gg gC hp;have gD:=ho p (Ia hp);unfold Uk at gD;rw[Hv kp]at gD;simp only[Hq,Hz]at gD;rw[←h.at (x:=p.d) (by unfold Rb;exact I7 J)]at ht;split at hs
  ·rename_i g;rw[Hv g]at ht;cases hs;cases ht;exact⟨rfl,rfl,h.l,U8 h.rs,U8 h.rt,zh2 h.rs h.rt h.low,h.bufs⟩
  ·rename_i g;rw[Hs g]at ht;cases hs;cases ht;exact⟨Dm,h.first,h.l,h.rs,h.rt,h.low,h.bufs⟩
 rw[Hs gC]at hs ht hl;unfold T7 at hs ht;by_cases gz:o.kind=14
 ·rw[Hv (.inl gz)]at hl;simp only[Hq]at hl;rw[Hv gz,←h.at hl.1,←h.row]at ht;rw[Hv gz]at hs;split at hs
  ·rename_i g;rw[Hv g]at ht;cases hs;cases ht;exact⟨Dm,h.first,C5,U8 (U8 h.rs),U8 (U8 h.rt),λx hx=>Cb,h.bufs⟩
  ·cases hs
 rw[Hs gz]at hs ht;by_cases gA:o.kind=15
 ·rw[Hv (.inr gA)]at hl;simp only[Hq]at hl;rw[Hv gA,←h.at hl.1,←h.row]at ht;rw[Hv gA]at hs;split at hs
  ·rename_i g;rw[Hv g]at ht;cases hs;cases ht;refine⟨Dm,h.first,C5,U8 (U8 h.rs),U8 (U8 h.rt),λx hx=>Cb,?_⟩;simp only[I3,Jv];rw[h.row,h.bufs]
  ·cases hs
 rw[Hs gA]at hs ht;rw[Hs J]at hl;cases hs;cases ht;simp only[Iy,Hq]at hl;refine⟨Dm,h.first,C5,U8 (U8 h.rs),U8 (U8 h.rt),λx hx=>?_,h.bufs⟩;rcases hl with ⟨h1,h2⟩|⟨h1,h2,h3⟩
 ·show (Mw (Mw s.r o.d _) o.e _).getD x 0=(Mw (Mw t.r o.d _) o.e _).getD x 0;rw[Z8 h2 hx,Z8 h1 hx,Z8 h2 hx,Z8 h1 hx];exact h.low x hx
 ·show (Mw (Mw s.r o.d _) o.e _).getD x 0=(Mw (Mw t.r o.d _) o.e _).getD x 0;rw[h.at h1,h.at h2,h.at h3];exact zh2 (U8 h.rs) (U8 h.rt) (zh2 h.rs h.rt h.low) x hx
def Lock.step_some(h:Lock s t)(ho:∀o∈os,Uk o=true)(hs:Qm os es s=some s'):∃t',Qm os es t=some t':=by
 unfold Qm at hs ⊢;rw[←h.i];cases gA:os[s.i]? with
 |none=>exact⟨_,rfl⟩
 |some o =>
 rw[gA]at hs;dsimp only at hs ⊢;have hl:=ho o (Ia gA);unfold Uk at hl;by_cases gC:o.kind=16
 ·rw[Hv gC];exact⟨_,rfl⟩
 rw[Hs gC]at hs hl ⊢;by_cases gD:o.kind=17
 ·rw[Hv gD]at hs ⊢;cases hp:os[(es.getD s.i 0).toNat]? with
  |none=>rw[hp]at hs;cases hs
  |some p =>
   dsimp only;split<;>exact⟨_,rfl⟩
 rw[Hs gD]at hs hl ⊢;unfold T7 at hs ⊢;by_cases gg:o.kind=14
 ·rw[Hv (.inl gg)]at hl;simp only[Hq]at hl;rw[Hv gg]at hs ⊢;rw[←h.at hl.1,←h.row];split at hs
  ·rename_i g;rw[Hv g];exact⟨_,rfl⟩
  ·cases hs
 rw[Hs gg]at hs ⊢;by_cases gz:o.kind=15
 ·rw[Hv (.inr gz)]at hl;simp only[Hq]at hl;rw[Hv gz]at hs ⊢;rw[←h.at hl.1,←h.row];split at hs
  ·rename_i g;rw[Hv g];exact⟨_,rfl⟩
  ·cases hs
 rw[Hs gz];exact⟨_,rfl⟩
def Lock.run_some(he:∀(i:Nat) (o p:Lo),os[i]?=some o→o.kind=17→os[(es.getD i 0).toNat]?=some p→p.kind=16)(ho:∀o∈os,Uk o=true):∀(n:Nat) (s t s':Ms),Lock s t→Ov os es n s=some s'→∃t',Ov os es n t=some t'∧Lock s' t'
 |0,s,t,s',h,hs=>by cases hs;exact⟨t,rfl,h⟩
 |n+1,s,t,s',h,hs=>by
  unfold Ov at hs ⊢;split at hs
  ·cases hs
  ·rename_i s1 h1;obtain⟨t1,h2⟩:=h.step_some ho h1;rw[h2];exact Lock.run_some he ho n s1 t1 s' (h.step he ho h1 h2) hs
def stay{os:List Lo}{es:List Int}{s:Ms}(h:os[s.i]?=none):∀n,Ov os es n s=some s
 |0=>rfl
 |n+1=>by
  have:Qm os es s=some s:=by unfold Qm;rw[h]
  unfold Ov;rw[this];exact stay h n
end lock
end
section
noncomputable def vy(d a b n t:Pn)(k R e:Nat):Fr Lo:=Xw d.p a.p b.p n.p t.p (k+1:Nat) (R:Nat) e
noncomputable def zv9(d a b n t:Pn)(k R e:Nat):Fr Lo:=Yq e 0 (vy d a b n t k R e)
section facts
variable {bs : List Bf} {d a b n t : Pn} {k R e nb : Nat}
def jx(he:e≤6)(I:16≤R∧R≤50)(j:Bp bs d)(z:Bw bs d)(A:Bp bs a)(B:Bp bs b)(C:Bp bs n)(D:Bp bs t)(E:Bw bs t)(K:k+2<t.k)(F:0<n.k):Gd bs [] [] (zv9 d a b n t k R e) []:=by
 refine X2 e 0 [] _ J J rfl N λL G g=>?_
 rw[Int.zero_add]at G g;unfold vy;exact ox J J (λq=>E8) (λq=>E8) J (λx H=>by have:=g x H;omega) j z A B C D E J F
def zz0(M:k≤9)(C:t.k≤12):(vy d a b n t k R e).stp≤100000:=by
 have O:((k+1:Nat):Int).toNat≤10:=J
 have hw:(t.p.size).toNat≤12:=by simp[Pn.p];omega
 have m:∀(n x:Nat),n≤12→n*(1+x)≤12*(1+x):=λn x h=>H8 _ h
 unfold vy Xw;have j:∀(g:Int) (b:Fr Lo),(P4 g ((k+1:Nat):Int) b).stp≤12*(1+b.stp):=λg b=>Is (zxk _ _ _ J) (m _ _ J)
 have D:∀(g:Int) (b:Fr Lo),(P4 g (((k+1:Nat):Int)-1) b).stp≤12*(1+b.stp):=λg b=>Is (zxk _ _ _ J) (m _ _ J)
 have E:∀(g:Int) (b:Fr Lo),(P4 g t.p.size b).stp≤12*(1+b.stp):=λg b=>Is (zxk _ _ _ (by simp[Pn.p];omega)) (m _ _ hw)
 have F:∀(a b t:Pc) (R g i:Int),(R4 a b t ((k+1:Nat):Int) R g i).stp≤300:=λa b t R g i=>by
  unfold R4;have:=j g (Nu (Th a t R g));simp only[stp_cat,ziv,Th,Ni,Ob,H4,Ig,Jo]at this ⊢;omega
 have G:∀(n t:Pc) (R g:Int),(Sl n t ((k+1:Nat):Int) R g).stp≤300:=λn t R g=>by
  unfold Sl;have:=D g (Nu (Tt n t R g));simp only[stp_cat,ziv,Tt,Ni,Ob,H4,Ig,Jo]at this ⊢;omega
 have z:∀(n t:Pc) (R g:Int) (x:List Lo),x.length≤2→(Uc n t ((k+1:Nat):Int) R g x).stp≤200:=λn t R g x P=>by
  unfold Uc;have:=j g (Nu (T1 n t R g++x));simp only[stp_cat,ziv,T1,H4,Ig,Jo]at this ⊢;omega
 have H:∀(d n t:Pc) (R g:Int),(V2 d n t ((k+1:Nat):Int) R g).stp≤500:=λd n t R g=>by
  unfold V2;have A:=z n t R g [] N;have B:=z n t R g [Pg (R+6) (R+10) (R+7) (R+6),N7 d g 0 (R+6)] N;simp only[stp_cat,ziv,Ig,Jo]at A B ⊢;omega
 have A:=H d.p n.p t.p ((R:Nat):Int) e;have B:=F a.p b.p t.p ((R:Nat):Int) (e+1) e;have Q:=G n.p t.p ((R:Nat):Int) (e+1);have I:=j e ((R4 a.p b.p t.p ((k+1:Nat):Int) ((R:Nat):Int) (e+1) e).cat (Sl n.p t.p ((k+1:Nat):Int) ((R:Nat):Int) (e+1)));have K:=E e (Nu [N7 t.p e 0 ((R:Nat):Int)]);have L:=zp3 (((R:Nat):Int)+10) (((R:Nat):Int)+1);simp only[stp_cat,ziv,W5,H4,Ig,Jo,L]at I K ⊢;omega
def zy5(j:k≤9)(g:t.k≤12)(he:e≤6):(zv9 d a b n t k R e).stp≤16777216:=by
 unfold zv9;rw[wrap_stp];have:=zz0 (d:=d) (a:=a) (b:=b) (n:=n) (R:=R) (e:=e) j g;omega
def jq{sz:Nat→Nat}{s0:Fs}(B:e+1<R)(hd:d.in_ sz)(C:a.in_ sz)(E:b.in_ sz)(F:n.in_ sz)(G:t.in_ sz)(H:k+1≤d.k)(I:k+1≤a.k)(K:k+1≤b.k)(L:k+1≤n.k)(M:k+3≤t.k)
  (O:DjE d n) (P:Dj d t) (T:Dj t a) (U:Dj t b) (V:Dj t n) (g:pl s0.m n 0%2=1) (X:vl (pl s0.m a) (k+1)<vl (pl s0.m n) (k+1)) :
  Tx sz (zv9 d a b n t k R e) s0 λj=>(∀x y,¬(x=d.b∧d.a≤y∧y<d.a+d.k)→¬(x=t.b∧t.a≤y∧y<t.a+t.k)→j.m x y=s0.m x y) ∧
   vl (pl j.m d) (k+1)<vl (pl s0.m n) (k+1)∧∃Q Q':Nat,18446744073709551616^(k+1)*vl (pl j.m d) (k+1)+Q'*vl (pl s0.m n) (k+1)=vl (pl s0.m a) (k+1)*vl (pl s0.m b) (k+1)+Q*vl (pl s0.m n) (k+1):=by
 refine zsk e 0 _ _ λs z=>?_
 have A:=vt (sz:=sz) (s:=s) (R:=R) (D:=e) (k:=k) B hd C E F G H I K L M O P T U V (by rw[z];exact g) (by rw[z];exact X);rw[z]at A;exact A.mono λt ⟨_,Y⟩=>Y
end facts
end
def zw7{bs:List Bf}{X Y:List (List UInt64)}(h:∀i,i<bs.length→(X.getD i []).length=(Y.getD i []).length):Lock (O1 64 bs X) (O1 64 bs Y):=by
 refine⟨rfl,rfl,rfl,Cp,Cp,λx _=>rfl,?_⟩;show (Sd bs X bs.length).map List.length=(Sd bs Y bs.length).map List.length;unfold Sd;rw[List.map_map,List.map_map];refine List.map_congr_left λi hi=>?_
 have:=h i (J0.1 hi);simp only[Function.comp,Um,H4,List.length_replicate];omega
def zxg{f:Fr Lo}(hw:f.wf Pu):∀(i:Nat) (o p:Lo),f.flat[i]?=some o→o.kind=17→f.flat[((f.ends 0).getD i 0).toNat]?=some p→p.kind=16:=λi o p ho j g=>by
 obtain⟨k,C,z,A,B⟩:=ends_at f 0 i o hw ho j;rw[Hn,z]at g;simp only[Jg,If,Iq]at g;rw[A]at g;rw[←Option.some.inj g];exact B
def zzv{b:Nat}(C:∀o∈v6,¬(o.kind=15∧o.buf.toNat=b)){s D:Ms}(h:Qm v6 vP s=some D):D.bufs.getD b []=s.bufs.getD b []∧D.bufs.length=s.bufs.length:=by
 unfold Qm at h;cases g:v6[s.i]? with
 |none=>rw[g]at h;cases h;exact⟨rfl,rfl⟩
 |some o =>
 rw[g]at h;dsimp only at h;have E:=C o (Ia g);by_cases z:o.kind=16
 ·rw[Hv z]at h;cases h;exact⟨rfl,rfl⟩
 rw[Hs z]at h;by_cases A:o.kind=17
 ·rw[Hv A]at h;split at h
  ·cases h
  ·split at h<;>(cases h;exact⟨rfl,rfl⟩)
 rw[Hs A]at h;unfold T7 at h;by_cases B:o.kind=14
 ·rw[Hv B]at h;split at h
  ·cases h;exact⟨rfl,rfl⟩
  ·cases h
 rw[Hs B]at h;by_cases j:o.kind=15
 ·rw[Hv j]at h;split at h
  ·cases h;refine⟨?_,N⟩;simp only[Hn];rw[Ho (λq=>E ⟨j,q⟩)]
  ·cases h
 rw[Hs j]at h;cases h;exact⟨rfl,rfl⟩
def zug{z:List Lo}{A:List Int}{b:Nat}(j:∀o∈z,¬(o.kind=15∧o.buf.toNat=b)):∀(n:Nat) (s g:Ms),Ov z A n s=some g→g.bufs.getD b []=s.bufs.getD b []∧g.bufs.length=s.bufs.length
 |0,s,g,h=>by cases h;exact⟨rfl,rfl⟩
 |n+1,s,g,h=>by
  unfold Ov at h;split at h
  ·cases h
  ·rename_i B C;obtain⟨D,E⟩:=zzv j C;obtain⟨F,G⟩:=zug j n B g h;exact⟨F.trans D,G.trans E⟩
def V4(sz:Nat→Nat):(Nat→Option Nat)→Fr Lo→Prop
 |_,.nil=>True
 |g,.op o r=>(Rl o.d=true∧Rl o.e=true)∧(o.kind=14∨o.kind=15→(o.a=-1∧o.imm.toNat<sz o.buf.toNat)∨∃x m:Nat,o.a=x∧x<16∧g x=some m∧o.imm.toNat+m≤sz o.buf.toNat∧sz o.buf.toNat≤65536)∧V4 sz g r
 |g,.loop o b _ r=>((0≤o.d∧o.d<16)∧b.noW o.d.toNat=true)∧V4 sz (λx=>if x=o.d.toNat then some o.imm.toNat else g x) b∧V4 sz (λx=>if x=o.d.toNat then none else g x) r
def zt2(g:Nat→Option Nat)(s:Fs):Prop:=∀x m,x<16→g x=some m→(s.r x).toNat<m
def z8c{s:Fs}{d:Int}{v:UInt64}(h:Rl d=true){x:Nat}(g:x<16):(Ql s d v).r x=s.r x:=by
 unfold Rl at h;simp only[Iy,Hz]at h;exact zib J
def sv{A:Nat→Nat}{D:Nat→Option Nat}{o:Lo}{s:Fs}(F:zt2 D s)(hd:Rl o.d=true)(he:Rl o.e=true)
  (hm:o.kind=14∨o.kind=15→(o.a=-1∧o.imm.toNat<A o.buf.toNat)∨∃x m:Nat,o.a=x∧x<16∧D x=some m∧o.imm.toNat+m≤A o.buf.toNat∧A o.buf.toNat≤65536):∃E,Qc A o s=some E∧∀x,x<16→E.r x=s.r x:=by
 have B:o.kind=14∨o.kind=15→(o.imm+R9 s o.a).toNat<A o.buf.toNat:=λG=>by
  rcases hm G with ⟨e,h⟩|⟨x,m,e,g,C,H,I⟩
  ·unfold R9;rw[e,Hv Ad,UInt64.add_zero];exact h
  ·have K:=F x m g C;unfold R9;rw[e,Hs J,If,Jm,In J];omega
 unfold Qc;by_cases j:o.kind=14
 ·rw[Hv j,Hv (B (.inl j))];exact⟨_,rfl,λx g=>by rw[z8c he g,z8c hd g]⟩
 rw[Hs j];by_cases z:o.kind=15
 ·rw[Hv z,Hv (B (.inr z))];exact⟨_,rfl,λx g=>by rw[z8c he g,z8c hd g];rfl⟩
 rw[Hs z];exact⟨_,rfl,λx g=>by rw[z8c he g,z8c hd g]⟩
def zeo{Q:Nat→Nat}:∀(f:Fr Lo) (z:Nat→Option Nat) (s:Fs),V4 Q z f→zt2 z s→(∀x m,z x=some m→f.noW x=true)→∃G,Sg Q f s=some G∧∀x m,x<16→z x=some m→G.r x=s.r x
 |.nil,_,s,_,_,_=>⟨s,rfl,λ_ _ _ _=>rfl⟩
 |.op o r,z,s,h,H,hw=>by
  obtain⟨⟨U,V⟩,R,T⟩:=h;obtain⟨F,I,E⟩:=sv H U V R;obtain⟨K,L,M⟩:=zeo r z F T (λx m j g=>by rw[E x j];exact H x m j g) (λx m g=>by
   have:=hw x m g;simp only[Fr.noW,Hq]at this;exact this.2.2)
  refine⟨K,?_,λx m j g=>(M x m j g).trans (E x j)⟩;unfold Sg;rw[I];exact L
 |.loop o b e r,z,s,h,H,hw=>by
  obtain⟨⟨⟨U,V⟩,X⟩,R,T⟩:=h;have A:∀x m,z x=some m→x≠o.d.toNat∧b.noW x=true∧r.noW x=true:=λx m g=>by
   have:=hw x m g;simp only[Fr.noW,Hq,Jl,Iz]at this;exact⟨λq=>this.1 q.symm,this.2.1,this.2.2⟩
  have Y:=o.imm.toNat_lt;have B:∀(n P:Nat) (s:Fs),P+n=o.imm.toNat→zt2 z s→∃G,df (Sg Q b) o.d.toNat n P s=some G∧∀x m,x<16→z x=some m→G.r x=s.r x:=by
   intro n
   induction n with
   |zero=>intro P s _ _;exact⟨s,rfl,λ_ _ _ _=>rfl⟩
   |succ n Z =>
    intro P s hj O;have C:∀x,(s.put o.d.toNat (UInt64.ofNat P)).r x=if x=o.d.toNat then UInt64.ofNat P else s.r x:=λx=>rfl
    obtain⟨F,I,E⟩:=zeo b _ (s.put o.d.toNat (UInt64.ofNat P)) R (λx m j g=>by
     rw[C];by_cases q:x=o.d.toNat
     ·rw[Hv q]at g ⊢;cases g;rw[I5];rw[In J];omega
     ·rw[Hs q]at g ⊢;exact O x m j g) (λx m g=>by
     by_cases q:x=o.d.toNat
     ·rw[q];exact X
     ·rw[Hs q]at g;exact (A x m g).2.1)
    have D:∀x m,x<16→z x=some m→F.r x=s.r x:=λx m j g=>by
     have q:=(A x m g).1;rw[E x m j (by rw[Hs q];exact g),C,Hs q]
    obtain⟨K,L,M⟩:=Z (P+1) F J (λx m j g=>by rw[D x m j g];exact O x m j g);refine⟨K,?_,λx m j g=>(M x m j g).trans (D x m j g)⟩;unfold df;rw[I];exact L
  obtain⟨F,I,E⟩:=B o.imm.toNat 0 s J H;obtain⟨K,L,M⟩:=zeo r _ F T (λx m j g=>by
   by_cases q:x=o.d.toNat
   ·rw[Hv q]at g;cases g
   ·rw[Hs q]at g;rw[E x m j g];exact H x m j g) (λx m g=>by
   by_cases q:x=o.d.toNat
   ·rw[Hv q]at g;cases g
   ·rw[Hs q]at g;exact (A x m g).2.2)
  refine⟨K,?_,λx m j g=>?_⟩
  ·unfold Sg;rw[I];exact L
  ·have q:=(A x m g).1;rw[M x m j (by rw[Hs q];exact g)];exact E x m j g
section
def Re(sz:Nat→Nat)(bd:Nat→Option Nat)(o:Lo):Prop:=(Rl o.d=true∧Rl o.e=true)∧(o.kind=14∨o.kind=15→(o.a=-1∧o.imm.toNat<sz o.buf.toNat)∨∃x m:Nat,o.a=x∧x<16∧bd x=some m∧o.imm.toNat+m≤sz o.buf.toNat∧sz o.buf.toNat≤65536)
section run
variable {sz : Nat → Nat} {bd : Nat → Option Nat}
def safe_L:∀{l:List Lo},(∀o∈l,Re sz bd o)→V4 sz bd (Nu l)
 |[],_=>trivial
 |o::_,h=>⟨(h o (Ir ..)).1,(h o (Ir ..)).2,safe_L λx g=>h x (Ij _ g)⟩
def safe_cat:∀{f B:Fr Lo} {bd:Nat→Option Nat},V4 sz bd f→(∀g:Nat→Option Nat,(∀x m,bd x=some m→f.noW x=true→g x=some m)→V4 sz g B)→V4 sz bd (f.cat B)
 |.nil,_,bd,_,h=>h bd λ_ _ e _=>e
 |.op o r,B,bd,j,h=>⟨j.1,j.2.1,safe_cat j.2.2 λg A=>h g λx m e z=>A x m e (by
   simp only[Fr.noW,Hq]at z;exact z.2.2)⟩
 |.loop o b e r,B,bd,j,h=>⟨j.1,j.2.1,safe_cat j.2.2 λg A=>h g λx m q z=>by
   simp only[Fr.noW,Hq,Jl,Iz]at z;exact A x m (by rw[Hs (λw=>z.1 w.symm)];exact q) z.2.2⟩
def zt0{g:Nat}(z:g<16):∀{l:List Lo},(∀o∈l,Rl o.d=true∧Rl o.e=true)→(Nu l).noW g=true
 |[],_=>rfl
 |o::l,h=>by
  have j:=h o (Ir ..);have A:=zt0 z (l:=l) λx B=>h x (Ij _ B)
  unfold Rl at j;simp only[Iy,Hz]at j;show (!decide (o.d=g)&&(!decide (o.e=g)&&(Nu l).noW g))=true;rw[A];simp;omega
def zct{D:Nat}:∀(f g:Fr Lo),(f.cat g).noW D=(f.noW D&&g.noW D)
 |.nil,g=>by simp[Fr.cat,Fr.noW]
 |.op o r,g=>Dw
 |.loop o b e r,g=>Dw
def noW_lp{n:Nat}{b:Fr Lo}(h:j≠g)(z:b.noW g=true):(P4 (j:Nat) (n:Nat) b).noW g=true:=by
 unfold P4;split
 ·rfl
 ·simp[Fr.noW,R0,z,h]
def zx3{D n:Nat}{b:Fr Lo}(A:D<16)(B:n<1000000)(hw:b.noW D=true)(g:V4 sz (λx=>if x=D then some n else bd x) b):V4 sz bd (P4 (D:Nat) (n:Nat) b):=by
 unfold P4;split
 ·trivial
 ·refine⟨⟨⟨by show (0:Int)≤D;omega,by show (D:Int)<16;omega⟩,hw⟩,?_,trivial⟩;have j:(R0 (D:Nat) (n:Nat)).d.toNat=D:=by simp[R0]
  have z:(R0 (D:Nat) (n:Nat)).imm.toNat=n:=ax J;rw[j,z];exact g
def sw{x:Int}(h:16≤x):Rl x=true:=by unfold Rl;simp;omega
def high_m1:Rl (-1)=true:=Ad
def zr0{o:Lo}(g:o.kind≠14∧o.kind≠15)(hd:Rl o.d=true)(he:Rl o.e=true):Re sz bd o:=⟨⟨hd,he⟩,λh=>J⟩
def zuw{p:Pn}(h:p.a+g<18446744073709551616):(iU (p.p.at_+(g:Int))).toNat=p.a+g:=Ya h
def zdb{p:Pn}{d:Int}{off:Nat}(hd:16≤d)(h:p.a+off<sz p.b)(g:sz p.b≤65536):Re sz bd (Nb d p.p (-1) (off:Nat)) :=
 ⟨⟨sw hd,high_m1⟩,λ_=>.inl ⟨rfl,Fg⟩⟩
def zcs{p:Pn}{d:Int}{x m off:Nat}(hd:16≤d)(g:x<16)(j:bd x=some m)(h:p.a+off+m≤sz p.b)(z:sz p.b≤65536):Re sz bd (Nb d p.p (x:Nat) (off:Nat)) :=
 ⟨⟨sw hd,high_m1⟩,λ_=>.inr ⟨x,m,rfl,g,j,Fh,z⟩⟩
def zmj{p:Pn}{v:Int}{off:Nat}(h:p.a+off<sz p.b)(g:sz p.b≤65536):Re sz bd (N7 p.p (-1) (off:Nat) v) :=
 ⟨⟨high_m1,high_m1⟩,λ_=>.inl ⟨rfl,Fg⟩⟩
def zne{p:Pn}{v:Int}{x m off:Nat}(g:x<16)(j:bd x=some m)(h:p.a+off+m≤sz p.b)(z:sz p.b≤65536):Re sz bd (N7 p.p (x:Nat) (off:Nat) v) :=
 ⟨⟨high_m1,high_m1⟩,λ_=>.inr ⟨x,m,rfl,g,j,Fh,z⟩⟩
def ok_nil:∀o∈([]:List Lo),Re sz bd o:=λ_ h=>An
def Pj{o:Lo}{l:List Lo}(h:Re sz bd o)(k:∀x∈l,Re sz bd x):∀x∈o::l,Re sz bd x:=λx g=>by
 rcases H5.1 g with rfl|g
 ·exact h
 ·exact k x g
def c9{l r:List Lo}(h:∀x∈l,Re sz bd x)(k:∀x∈r,Re sz bd x):∀x∈l++r,Re sz bd x:=λx g=>(Ih.1 g).elim (h x) (k x)
def We{d:Int}{v:UInt64}(h:16≤d):Re sz bd (cK d v):=zr0 D6 (sw h) high_m1
def zny{h l a b:Int}(g:16≤h)(j:16≤l):Re sz bd (Nc h l a b):=zr0 D7 (sw g) (sw j)
def zlc{k d o a b c:Int}(g:k≠14∧k≠15)(hd:16≤d)(ho:16≤o):Re sz bd (Nw k d o a b c):=zr0 g (sw hd) (sw ho)
def zlp{k d a b:Int}(g:k≠14∧k≠15)(hd:16≤d):Re sz bd (M8 k d a b):=zr0 g (sw hd) high_m1
def ok_Sel{d c a b:Int}(hd:16≤d):Re sz bd (Pg d c a b):=zr0 (by simp[Pg]) (sw hd) high_m1
def zs4{a b:Int}(g:16≤z):∀o∈Ni z a b,Re sz bd o :=
 Pj (zny J J) (Pj (zlc J J J) (Pj (zlc J J J) (Pj (zlp J J) (Pj (zlp J J) ok_nil))))
def zgw{D n:Nat}(j:D<16)(z:n<1000000)(h:∀g:Nat→Option Nat,g D=some n→∀o∈v6,Re sz g o):V4 sz bd (P4 (D:Nat) (n:Nat) (Nu v6)) :=
 zx3 j z (zt0 j λo ho=>(h (λ_=>some n) rfl o ho).1) (safe_L (h _ (Hv rfl)))
def zxm{n:Nat}(A:j<16)(z:g≠j)(h:∀o∈v6,Rl o.d=true∧Rl o.e=true):(P4 (g:Nat) (n:Nat) (Nu v6)).noW j=true:=noW_lp z (zt0 A h)
def zlq{R D i k:Nat}{a b t:Pn}(U:16≤R)(j:D<16)(hi:i<16)(K:b.in_ sz)(L:a.in_ sz)(M:t.in_ sz){m:Nat}(z:bd i=some m)(hm:m≤b.k)(V:k≤a.k)(O:k+2≤t.k)(A:k<1000000) :
  V4 sz bd (R4 a.p b.p t.p (k:Nat) (R:Nat) (D:Nat) (i:Nat))∧∀I,I<16→D≠I→(R4 a.p b.p t.p (k:Nat) (R:Nat) (D:Nat) (i:Nat)).noW I=true:=by
 obtain⟨X,P⟩:=K;obtain⟨Y,Q⟩:=L;obtain⟨Z,g⟩:=M;have F:∀bd:Nat→Option Nat,bd i=some m→∀o∈[Nb ((R:Nat)+2:Int) b.p (i:Nat) ((0:Nat):Int),cK ((R:Nat)+3:Int) 0],Re sz bd o:=λbd h =>
  Pj (zcs J hi h J P) (Pj (We J) ok_nil)
 have G:∀bd:Nat→Option Nat,bd D=some k→∀o∈Th a.p t.p (R:Nat) (D:Nat),Re sz bd o:=λbd h =>
  c9 (Pj (zcs (off:=0) J j h J Q) (Pj (zcs (off:=0) J j h J g) ok_nil)) (c9 (zs4 J) (Pj (zne (off:=0) j h J g) ok_nil))
 have H:∀bd:Nat→Option Nat,∀o∈Ob t.p (k:Nat) (R:Nat)++[N7 t.p (-1) (k:Nat) ((R:Nat)+7),N7 t.p (-1) ((k+1:Nat):Int) ((R:Nat)+8)],Re sz bd o:=λbd =>
  c9 (Pj (zdb J J g) (Pj (zlc J J J) ok_nil)) (Pj (zmj J g) (Pj (zmj J g) ok_nil))
 refine⟨safe_cat (safe_L (F bd z)) λT _=>safe_cat (zgw j A G) λB _=>safe_L (H B),λI C E=>?_⟩;have e:R4 a.p b.p t.p (k:Nat) (R:Nat) (D:Nat) (i:Nat)=(Nu [Nb ((R:Nat)+2:Int) b.p (i:Nat) ((0:Nat):Int),cK ((R:Nat)+3:Int) 0]).cat ((P4 (D:Nat) (k:Nat) (Nu (Th a.p t.p (R:Nat) (D:Nat)))).cat
   (Nu (Ob t.p (k:Nat) (R:Nat)++[N7 t.p (-1) (k:Nat) ((R:Nat)+7),N7 t.p (-1) ((k+1:Nat):Int) ((R:Nat)+8)]))):=rfl
 rw[e,zct,zct,zt0 C λo ho=>(F (λ_=>some m) rfl o ho).1,zxm C E λo ho=>(G (λ_=>some k) rfl o ho).1,zt0 C λo ho=>(H bd o ho).1];rfl
def zo9{R D k:Nat}{n t:Pn}(Q:16≤R)(j:D<16)(K:n.in_ sz)(L:t.in_ sz)(T:k+1≤n.k)(M:k+3≤t.k)(z:k<1000000) :
  V4 sz bd (Sl n.p t.p ((k+1:Nat):Int) (R:Nat) (D:Nat))∧∀I,I<16→D≠I→(Sl n.p t.p ((k+1:Nat):Int) (R:Nat) (D:Nat)).noW I=true:=by
 obtain⟨U,E⟩:=K;obtain⟨V,g⟩:=L;have O:((k+1:Nat):Int)-1=(k:Nat):=J
 have F:∀bd:Nat→Option Nat,∀o∈[Nb ((R:Nat)+7:Int) t.p (-1) ((0:Nat):Int),Nc ((R:Nat)+5) ((R:Nat)+10) ((R:Nat)+7) ((R:Nat)+1),Nb ((R:Nat)+4:Int) n.p (-1) ((0:Nat):Int),cK ((R:Nat)+3) 0]++Ni (R:Nat) ((R:Nat)+10) ((R:Nat)+4),Re sz bd o:=λbd =>
  c9 (Pj (zdb J J g) (Pj (zny J J) (Pj (zdb J J E) (Pj (We J) ok_nil)))) (zs4 J)
 have G:∀bd:Nat→Option Nat,bd D=some k→∀o∈Tt n.p t.p (R:Nat) (D:Nat),Re sz bd o:=λbd h =>
  c9 (Pj (zcs (off:=1) J j h J E) (Pj (zcs (off:=1) J j h J g) ok_nil)) (c9 (zs4 J) (Pj (zne (off:=0) j h J g) ok_nil))
 have H:∀bd:Nat→Option Nat,∀o∈Ob t.p ((k+1:Nat):Int) (R:Nat)++[N7 t.p (-1) ((k:Nat):Int) ((R:Nat)+7),Nb ((R:Nat)+7) t.p (-1) ((k+2:Nat):Int),M8 3 ((R:Nat)+7) ((R:Nat)+7) ((R:Nat)+8),N7 t.p (-1) ((k+1:Nat):Int) ((R:Nat)+7)],Re sz bd o:=λbd =>
  c9 (Pj (zdb J J g) (Pj (zlc J J J) ok_nil)) (Pj (zmj J g) (Pj (zdb J J g) (Pj (zlp J J) (Pj (zmj J g) ok_nil))))
 have e:Sl n.p t.p ((k+1:Nat):Int) (R:Nat) (D:Nat)=(Nu ([Nb ((R:Nat)+7:Int) t.p (-1) ((0:Nat):Int),Nc ((R:Nat)+5) ((R:Nat)+10) ((R:Nat)+7) ((R:Nat)+1),Nb ((R:Nat)+4:Int) n.p (-1) ((0:Nat):Int),cK ((R:Nat)+3) 0]++Ni (R:Nat) ((R:Nat)+10) ((R:Nat)+4))).cat
   ((P4 (D:Nat) (k:Nat) (Nu (Tt n.p t.p (R:Nat) (D:Nat)))).cat (Nu (Ob t.p ((k+1:Nat):Int) (R:Nat)++[N7 t.p (-1) ((k:Nat):Int) ((R:Nat)+7),Nb ((R:Nat)+7) t.p (-1) ((k+2:Nat):Int),M8 3 ((R:Nat)+7) ((R:Nat)+7) ((R:Nat)+8),N7 t.p (-1) ((k+1:Nat):Int) ((R:Nat)+7)]))):=by
  unfold Sl;rw[O];rfl
 rw[e];refine⟨safe_cat (safe_L (F bd)) λP _=>safe_cat (zgw j z G) λA _=>safe_L (H A),λI B C=>?_⟩;rw[zct,zct,zt0 B λo ho=>(F bd o ho).1,zxm B C λo ho=>(G (λ_=>some k) rfl o ho).1,zt0 B λo ho=>(H bd o ho).1];rfl
end run
end
section
section run
variable {sz : Nat → Nat} {bd : Nat → Option Nat}
def zq7{k:Nat}{n t:Pn}{x:List Lo}(K:16≤g)(z:j<16)(B:n.in_ sz)(C:t.in_ sz)(L:k≤n.k)(D:k≤t.k)(A:k<1000000)(E:∀bd:Nat→Option Nat,bd j=some k→∀o∈x,Re sz bd o) :
  V4 sz bd (Uc n.p t.p (k:Nat) (g:Nat) (j:Nat) x):=by
 obtain⟨M,F⟩:=B;obtain⟨O,G⟩:=C;have H:∀bd:Nat→Option Nat,bd j=some k→∀o∈T1 n.p t.p (g:Nat) (j:Nat)++x,Re sz bd o:=λbd h =>
  c9 (Pj (zcs (off:=0) J z h J G) (Pj (zcs (off:=0) J z h J F) (Pj (zlc J J J) ok_nil))) (E bd h)
 exact safe_cat (safe_L (Pj (We J) ok_nil)) λI _=>zgw z A H
def zwo{R D k:Nat}{d n t:Pn}(A:16≤R)(z:D<16)(hd:d.in_ sz)(B:n.in_ sz)(j:t.in_ sz)(C:k≤n.k)(E:k+1≤t.k)(F:k≤d.k)(g:k<1000000) :
  V4 sz bd (V2 d.p n.p t.p (k:Nat) (R:Nat) (D:Nat)):=by
 unfold V2;refine safe_cat (zq7 A z B j C J g λ_ _=>ok_nil) λG _=>safe_cat (safe_L (Pj (zdb J (by have:=j.1;omega) j.2) (Pj (zlc J J J) ok_nil))) λH _=>zq7 A z B j C J g λbd h=>?_
 exact Pj (ok_Sel J) (Pj (zne (off:=0) z h (by have:=hd.1;omega) hd.2) ok_nil)
def tu{n r:Int}(h:16≤r):∀o∈Td n r,Re sz bd o:=by
 have g:∀i,∀o∈W1 n r i,Re sz bd o:=λi o ho=>by
  unfold W1 at ho;obtain⟨_,_,ho⟩:=List.mem_flatMap.1 ho;exact Pj (zny J J) (Pj (zlp J J) (Pj (zny J J) ok_nil)) o ho
 unfold Td;exact c9 (Pj (We J) (Pj (zny J J) (Pj (We J) (Pj (zlp J J) ok_nil)))) (c9 (g 5) (Pj (We J) (Pj (zlp J J) ok_nil)))
def zxc{R D k:Nat}{d a b n t:Pn}(j:16≤R)(A:D+1<16)(hd:d.in_ sz)(E:a.in_ sz)(F:b.in_ sz)(z:n.in_ sz)(g:t.in_ sz)(K:k+1≤d.k)(G:k+1≤a.k)(H:k+1≤b.k)(B:k+1≤n.k)(I:k+3≤t.k)(C:t.k<1000000) :
  V4 sz bd (Xw d.p a.p b.p n.p t.p (k+1:Nat) (R:Nat) (D:Nat)):=by
 have e:Xw d.p a.p b.p n.p t.p (k+1:Nat) (R:Nat) (D:Nat)=(Nu ([cK (R:Nat) 0,Nb ((R:Nat)+10:Int) n.p (-1) ((0:Nat):Int)]++Td ((R:Nat)+10:Int) ((R:Nat)+1:Int))).cat ((P4 (D:Nat) (t.k:Nat) (Nu [N7 t.p (D:Nat) ((0:Nat):Int) (R:Nat)])).cat ((P4 (D:Nat) (k+1:Nat) ((R4 a.p b.p t.p (k+1:Nat) (R:Nat) ((D+1:Nat):Int) (D:Nat)).cat (Sl n.p t.p (k+1:Nat) (R:Nat) ((D+1:Nat):Int)))).cat (V2 d.p n.p t.p (k+1:Nat) (R:Nat) (D:Nat)))):=rfl;rw[e];refine safe_cat (safe_L (c9 (Pj (We J) (Pj (zdb J (by have:=z.1;omega) z.2) ok_nil)) (tu J))) λL _=>?_
 refine safe_cat (zgw J C λbd h=>Pj (zne (off:=0) J h (by have:=g.1;omega) g.2) ok_nil) λM _=>?_
 refine safe_cat (zx3 J J ?_ ?_) λO _=>zwo j J hd z g B J K J
 ·have P:=(zlq (sz:=sz) (bd:=λ_=>some (k+1)) (R:=R) (D:=D+1) (i:=D) (k:=k+1) j A J F E g rfl H G J J).2 D J J;have Q:=(zo9 (sz:=sz) (bd:=λ_=>some (k+1)) (R:=R) (D:=D+1) (k:=k) j A z g B I J).2 D J J;rw[zct,P,Q];rfl
 ·refine safe_cat (zlq j A J F E g (m:=k+1) (Hv rfl) H G J J).1 λT _=>(zo9 j A z g B I J).1
def zwc{R e k:Nat}{d a b n t:Pn}{s0:Fs}(j:16≤R)(he:e≤6)(hd:d.in_ sz)(z:a.in_ sz)(A:b.in_ sz)(B:n.in_ sz)(C:t.in_ sz)(D:k+1≤d.k)(E:k+1≤a.k)(F:k+1≤b.k)(G:k+1≤n.k)(H:k+3≤t.k)(g:t.k<1000000) :
  Tx sz (zv9 d a b n t k R e) s0 λ_=>True:=by
 refine zsk e 0 _ _ λs L=>?_
 obtain⟨I,K,_⟩:=zeo (vy d a b n t k R e) (λ_=>none) s (zxc j J hd z A B C D E F G H g) (λx m _ h=>An) (λx m h=>An);exact⟨I,K,trivial⟩
end run
end
section
structure Cf where
 nb:Nat
 R:Int
 w:Int
 lo:Int
 hi:Int
 pa:Int
 pb:Int
 L:Nat→Prop
 S:Nat→Prop
def Rz(c:Cf)(x:Int):Prop:=c.R≤x∧x<c.R+c.w
def Wf(c:Cf)(x:Int):Prop:=(c.lo≤x∧x≤c.hi)∨(c.pa≤x∧x≤c.pb)
def Ul(c:Cf)(x:Int):Prop:=x=-1∨Rz c x∨Wf c x
def hiO(c:Cf)(o:Lo):Prop:=(o.d=-1∨Rz c o.d)∧(o.e=-1∨Rz c o.e)∧(o.kind=14∨o.kind=15→o.a=-1∨Wf c o.a)
def plO(c:Cf)(o:Lo):Prop:=(o.kind≠14∧o.kind≠15)∧(c.pa≤o.d∧o.d≤c.pb)∧o.e=-1∧(o.a=-1∨Wf c o.a)∧(o.b=-1∨Wf c o.b)∧(o.c=-1∨Wf c o.c)
structure OpH (c:Cf) (o:Lo):Prop where
 k:o.kind≠16∧o.kind≠17
 f:o.buf.toNat<c.nb
 a:Ul c o.a
 b:Ul c o.b
 z:Ul c o.c
 m:hiO c o∨plO c o
 ld:o.kind=14→c.L o.buf.toNat
 st:o.kind=15→c.S o.buf.toNat
def Fr.AllH(c:Cf):Int→Fr Lo→Prop
 |_,.nil=>True
 |gg,.op o r=>OpH c o∧r.AllH c gg
 |gg,.loop o b e r=>LpG gg o∧(c.lo≤gg∧gg≤c.hi)∧e=Se∧b.AllH c (gg+1)∧r.AllH c gg
structure CfOk (c:Cf):Prop where
 r:16≤c.R∧c.R+c.w≤64
 l:0≤c.lo∧c.hi<8
 p:8≤c.pa∧c.pb<16
def cj(c:Cf)(o:Lo):Prop:=OpH c o∨o=Se∨∃g,LpG g o∧c.lo≤g∧g≤c.hi
section ah
variable {c : Cf}
def allH_cat:∀{f j:Fr Lo} {g:Int},f.AllH c g→j.AllH c g→(f.cat j).AllH c g
 |.nil,_,_,_,h=>h
 |.op _ _,_,_,h,k=>⟨h.1,allH_cat h.2 k⟩
 |.loop _ _ _ _,_,_,h,k=>⟨h.1,h.2.1,h.2.2.1,h.2.2.2.1,allH_cat h.2.2.2.2 k⟩
def allH_L:∀{l:List Lo} {g:Int},(∀o∈l,OpH c o)→(Nu l).AllH c g
 |[],_,_=>trivial
 |o::_,_,h=>⟨h o (Ir ..),allH_L λx j=>h x (Ij _ j)⟩
def zj5{b:Fr Lo}(A:C≤1000000)(g:c.lo≤z∧z≤c.hi)(j:b.AllH c (z+1)):(P4 z C b).AllH c z:=by
 unfold P4;split
 ·trivial
 ·refine⟨⟨rfl,rfl,rfl,rfl,rfl,rfl,?_⟩,g,rfl,j,trivial⟩;obtain⟨n,rfl⟩:=Hr (J:0≤C);show 1≤(iU (n:Int)).toNat;rw[ax J];omega
def allH_wf:∀{f:Fr Lo} {g:Int},f.AllH c g→f.wf Pu
 |.nil,_,_=>trivial
 |.op o r,_,h=>⟨by unfold Pu;rw[Hs h.1.k.1,Hs h.1.k.2],allH_wf h.2⟩
 |.loop o b e r,_,h=>⟨by unfold Pu;rw[Hv h.1.1],by rw[h.2.2.1];rfl,allH_wf h.2.2.2.1,allH_wf h.2.2.2.2⟩
def zu1{x:Int}{ls:List Nat}(g:∀y∈ls,y<8)(h:x=-1∨(8≤x∧x<64)):mj ls x=true:=by
 unfold mj;rcases h with rfl|h
 ·simp
 ·have:¬x.toNat∈ls:=λq=>E8
  simp[this];omega
def zy3(g:CfOk c){x:Int}(h:Ul c x):x<64:=by
 obtain⟨r,l,p⟩:=g;rcases h with h|h|h|h
 ·omega
 ·have:=h.2;omega
 ·omega
 ·omega
def mkH(z:CfOk c){o:Lo}(h:OpH c o):(o.d=-1∨(8≤o.d∧o.d<64))∧(o.e=-1∨(8≤o.e∧o.e<64)):=by
 obtain⟨r,l,p⟩:=z;rcases h.m with ⟨g,j,_⟩|⟨_,g,j,_⟩
 ·unfold Rz at g j;omega
 ·omega
def zdh(j:CfOk c):∀{f:Fr Lo} {g:Int} {ls:List Nat},(∀y∈ls,(y:Int)<g∧y<8)→f.AllH c g→f.regs c.nb ls=true
 |.nil,_,_,_,_=>rfl
 |.op o r,g,ls,z,h=>by
  obtain⟨F,h⟩:=h;have C:=zdh j z h;have A:∀y∈ls,y<8:=λy B=>(z y B).2
  obtain⟨G,H⟩:=mkH j F;simp only[Fr.regs,Hq,Hz];exact⟨zu1 A G,zu1 A H,zy3 j F.a,zy3 j F.b,zy3 j F.z,F.f,C⟩
 |.loop o b e r,g,ls,z,h=>by
  obtain⟨⟨K,L,M,O,P,Q,I⟩,k,_,E,h⟩:=h;obtain⟨T,U,V⟩:=id j;have C:=zdh j z h;have E:=zdh (ls:=o.d.toNat::ls) j (λy B=>by
   rcases H5.1 B with rfl|B
   ·omega
   ·have:=z y B;omega) E
  simp only[Fr.regs,Hq,Hz];refine⟨?_,J,I,E,C⟩;unfold mj;have:¬o.d.toNat∈ls:=λq=>by have:=z _ q;omega
  simp[this];omega
def allH_flat:∀{f:Fr Lo} {g:Int},f.AllH c g→∀o∈f.flat,cj c o
 |.nil,_,_,o,ho=>by simp[Fr.flat]at ho
 |.op p r,_,h,o,ho=>by
  simp only[Fr.flat,H5]at ho;rcases ho with rfl|ho
  ·exact .inl h.1
  ·exact allH_flat h.2 o ho
 |.loop p b e r,g,h,o,ho=>by
  simp only[Fr.flat,H5,Ih]at ho;rcases ho with rfl|ho|rfl|ho
  ·exact .inr (.inr ⟨g,h.1,h.2.1⟩)
  ·exact allH_flat h.2.2.2.1 o ho
  ·exact .inr (.inl h.2.2.1)
  ·exact allH_flat h.2.2.2.2 o ho
def wi(g:CfOk c){x:Int}(h:x=-1∨Wf c x):x<16:=by
 obtain⟨r,l,p⟩:=g;unfold Wf at h;omega
def cj.low(hc:CfOk c){o:Lo}(h:cj c o):Uk o=true:=by
 have hr:=hc.r;have gz:=hc.l;have hp:=hc.p;rcases h with h|rfl|⟨gA,⟨g1,g2,g3,g4,g5,g6,g7⟩,k⟩
 ·unfold Uk;rw[Hs h.k.1,Hs h.k.2];rcases h.m with ⟨m1,m2,m3⟩|⟨m0,m1,m2,m3,m4,m5⟩
  ·have hd:Rl o.d=true:=by unfold Rl;unfold Rz at m1;simp only[Iy,Hz];omega
   have he:Rl o.e=true:=by unfold Rl;unfold Rz at m2;simp only[Iy,Hz];omega
   split
   ·rename_i hm;have ha:Rb o.a=true:=by unfold Rb;exact I7 (wi hc (m3 hm))
    rw[ha,hd,he];rfl
   ·rw[hd,he];rfl
  ·rw[Hs J];have ha:Rb o.a=true:=by unfold Rb;exact I7 (wi hc m3)
   have hb:Rb o.b=true:=by unfold Rb;exact I7 (wi hc m4)
   have gg:Rb o.c=true:=by unfold Rb;exact I7 (wi hc m5)
   rw[ha,hb,gg];simp
 ·rfl
 ·unfold Uk;rw[Hv g1];simp only[Hq,Hz];omega
def cj.safeS(hc:CfOk c){bs:List Bf}{o:Lo}(hs:∀n,c.S n→(M7 bs n).sec=true)(h:cj c o):f9 bs pw o=true:=by
 have gA:=hc.l;rcases h with h|rfl|⟨gC,⟨g1,g2,g3,g4,g5,g6,g7⟩,k⟩
 ·unfold f9;have hk:=h.k;by_cases q:o.kind=14∨o.kind=15
  ·have hm:o.a=-1∨Wf c o.a:=by
    rcases h.m with ⟨_,_,m3⟩|⟨m0,_⟩
    ·exact m3 q
    ·omega
   have gg:pw o.a=false:=by have:=wi hc hm;unfold pw;rw[Iz];omega
   by_cases gz:o.kind=15
   ·simp[gg,hs _ (h.st gz),hk.1]
   ·simp[gg,hk.1,gz]
  ·have h1:¬o.kind=14:=λe=>q (.inl e)
   have h2:¬o.kind=15:=λe=>q (.inr e)
   simp[Om,h1,h2,hk.1]
 ·simp[f9,Se,Om]
 ·have:pw o.d=false:=by unfold pw;rw[Iz];omega
  simp[f9,g1,Om,this]
def Za(o:Lo):∀x∈N1 o,x=o.a∨x=o.b∨x=o.c:=by
 intro x g;unfold N1 at g
 repeat' split at g
 all_goals simp at g
 all_goals omega
def cj.closedS(hc:CfOk c){bs:List Bf}{o:Lo}(hf:Po 64 bs o=true)(h:cj c o):Ty bs pw o=true→∀x∈M3 o,pw x=true:=by
 have hr:=hc.r;rcases h with h|rfl|⟨gz,⟨g1,g2,g3,g4,g5,g6,g7⟩,k⟩
 ·intro gg x hx;have gA:=(zui hf x hx).1;rcases h.m with ⟨m1,m2,m3⟩|⟨m0,m1,m2,m3,m4,m5⟩
  ·have:x=o.d∨x=o.e:=by
    unfold M3 at hx;split at hx
    ·simpa using hx
    ·split at hx
     ·simp at hx
     ·simp at hx;exact .inl hx
   unfold pw;rw[Hz];unfold Rz at m1 m2;rcases this with rfl|rfl<;>omega
  ·exfalso;unfold Ty at gg;rw[Hs h.k.1,Hs m0.1]at gg;obtain⟨y,hy,hC⟩:=Iw.1 gg;unfold pw at hC;rw[Hz]at hC;rcases Za o y hy with rfl|rfl|rfl
   ·have:=wi hc m3;omega
   ·have:=wi hc m4;omega
   ·have:=wi hc m5;omega
 ·intro h;simp[Ty,Se,N1]at h
 ·intro h;simp[Ty,g1]at h
def C0(_:Int):Bool:=false
def safeP{o:Lo}:f9 X C0 o=true:=by simp[f9,C0]
def cj.closedP{bs:List Bf}{o:Lo}(hs:∀n,c.L n→(M7 bs n).sec=false)(h:cj c o):Ty bs C0 o=true→∀x∈M3 o,C0 x=true:=by
 intro gg;exfalso;unfold Ty at gg;split at gg
 ·cases gg
 ·split at gg
  ·rename_i gz;rcases h with h|rfl|⟨gA,⟨g1,_⟩,_⟩
   ·rw[hs _ (h.ld gz)]at gg;cases gg
   ·simp[Se]at gz
   ·omega
  ·simp[C0]at gg
def cj.sto{o:Lo}(h:cj c o)(k:o.kind=15):c.S o.buf.toNat:=by
 rcases h with h|rfl|⟨gg,⟨g1,_⟩,_⟩
 ·exact h.st k
 ·simp[Se]at k
 ·omega
def wrap_allH:∀(n:Nat) (i:Int) (f:Fr Lo),c.lo≤i→i+n≤c.hi+1→f.AllH c (i+n)→(Yq n i f).AllH c i
 |0,i,f,_,_,h=>by simpa [Yq] using h
 |n+1,i,f,g,j,h=>by
  refine⟨⟨rfl,rfl,rfl,rfl,rfl,rfl,by simp[R0,iU1]⟩,J,rfl,wrap_allH n (i+1) f J J ?_,trivial⟩;rw[(J:i+1+(n:Int)=i+(n+1:Nat))];exact h
def Lb(c:Cf)(p:Pn):Prop:=p.b<c.nb∧c.L p.b
def Sb(c:Cf)(p:Pn):Prop:=p.b<c.nb∧c.S p.b
def Xi{v i:Int}{p:Pn}(g:Lb c p)(hv:Rz c v)(hi:i=-1∨Wf c i):OpH c (Nb v p.p i z) :=
 ⟨by simp[Nb],by simpa [Nb,Pn.p] using g.1,hi.imp_right .inr,.inl rfl,.inl rfl,.inl ⟨.inr hv,.inl rfl,λ_=>hi⟩,λ_=>by simpa [Nb,Pn.p] using g.2,λh=>by simp[Nb]at h⟩
def yg{v i:Int}{p:Pn}(g:Sb c p)(hv:Ul c v)(hi:i=-1∨Wf c i):OpH c (N7 p.p i z v) :=
 ⟨by simp[N7],by simpa [N7,Pn.p] using g.1,hi.imp_right .inr,hv,.inl rfl,.inl ⟨.inl rfl,.inl rfl,λ_=>hi⟩,λh=>by simp[N7]at h,λ_=>by simpa [N7,Pn.p] using g.2⟩
def fe{v:Int}{x:UInt64}(g:0<c.nb)(hv:Rz c v):OpH c (cK v x) :=
 ⟨D6,g,.inl rfl,.inl rfl,.inl rfl,.inl ⟨.inr hv,.inl rfl,λh=>by simp[cK]at h⟩,λh=>by simp[cK]at h,λh=>by simp[cK]at h⟩
def Ws{x y w:Int}(g:0<c.nb)(j:Rz c x)(A:Rz c y)(B:Ul c z)(hw:Ul c w):OpH c (Nc x y z w) :=
 ⟨D7,g,B,hw,.inl rfl,.inl ⟨.inr j,.inr A,λh=>by simp[Nc]at h⟩,λh=>by simp[Nc]at h,λh=>by simp[Nc]at h⟩
def zv4{x w:Int}(B:3≤z∧z≤7)(g:0<c.nb)(j:Rz c x)(A:Ul c C)(hw:Ul c w):OpH c (M8 z x C w) :=
 ⟨by simp[M8];omega,g,A,hw,.inl rfl,.inl ⟨.inr j,.inl rfl,λh=>Eu⟩,λh=>Eu,λh=>Eu⟩
def zlh{x y w q:Int}(F:z=11∨z=12)(g:0<c.nb)(j:Rz c x)(A:Rz c y)(B:Ul c C)(hw:Ul c w)(E:Ul c q):OpH c (Nw z x y C w q) :=
 ⟨by simp[Nw];omega,g,B,hw,E,.inl ⟨.inr j,.inr A,λh=>Et⟩,λh=>Et,λh=>Et⟩
def oh_Sel{x q w:Int}(g:0<c.nb)(j:Rz c x)(A:Ul c q)(B:Ul c z)(hw:Ul c w):OpH c (Pg x q z w) :=
 ⟨by simp[Pg],g,B,hw,A,.inl ⟨.inr j,.inl rfl,λh=>by simp[Pg]at h⟩,λh=>by simp[Pg]at h,λh=>by simp[Pg]at h⟩
def tx{x y:List Lo}(h:∀o∈x,OpH c o)(k:∀o∈y,OpH c o):∀o∈x++y,OpH c o:=λo ho=>(Ih.1 ho).elim (h o) (k o)
def Qb{x:Lo}{y:List Lo}(h:OpH c x)(k:∀o∈y,OpH c o):∀o∈x::y,OpH c o:=λo ho=>by
 rcases H5.1 ho with rfl|ho
 ·exact h
 ·exact k o ho
def oh_nil:∀o∈([]:List Lo),OpH c o:=λ_ h=>An
def Sw{x:Int}(h:Rz c x):Ul c x:=.inr (.inl h)
section into
variable {R D k : Int} {d a b n t : Pn}
def rgr(j:c.R≤R∧R+11≤c.R+c.w)(g:Int)(h:0≤g∧g≤10):Rz c (R+g):=by unfold Rz;omega
def rgr0(g:c.R≤R∧R+11≤c.R+c.w):Rz c R:=by unfold Rz;omega
def qt(g:0<c.nb)(j:c.R≤R∧R+11≤c.R+c.w):∀o∈Td (R+10) (R+1),OpH c o:=by
 intro o ho;simp[Td,Z9,W1,wo]at ho;rcases ho with rfl|rfl|rfl|rfl|⟨_,rfl|rfl|rfl⟩|rfl|rfl
 all_goals first|(refine fe g ?_;unfold Rz;omega)|(refine Ws g ?_ ?_ (Sw ?_) (Sw ?_)<;>(unfold Rz;omega))|(refine zv4 J g ?_ (Sw ?_) (Sw ?_)<;>(unfold Rz;omega))
def zyx{x y:Int}(j:0<c.nb)(z:c.R≤R∧R+11≤c.R+c.w)(A:Rz c x)(B:Rz c y):∀o∈Ni R x y,OpH c o:=by
 unfold Ni;have g:=rgr z;exact Qb (Ws j (g 5 J) (g 6 J) (Sw A) (Sw B)) (Qb (zlh (.inl rfl) j (g 6 J) (g 8 J) (Sw (g 6 J)) (Sw (g 7 J)) (Sw (rgr0 z))) (Qb (zlh (.inl rfl) j (g 6 J) (g 9 J) (Sw (g 6 J)) (Sw (g 3 J)) (Sw (rgr0 z))) (Qb (zv4 J j (g 5 J) (Sw (g 5 J)) (Sw (g 8 J))) (Qb (zv4 J j (g 3 J) (Sw (g 5 J)) (Sw (g 9 J))) oh_nil))))
def zqo{x:List Lo}(E:c.R≤R∧R+11≤c.R+c.w)(j:Lb c n)(F:Lb c t)(G:k≤1000000)(A:c.lo≤z∧z≤c.hi)(H:∀o∈x,OpH c o):(Uc n.p t.p k R z x).AllH c z:=by
 unfold Uc T1;have B:0<c.nb:=by have:=j.1;omega
 have g:=rgr E;have C:z=-1∨Wf c z:=.inr (.inl A);exact allH_cat (allH_L (Qb (fe B (g 8 J)) oh_nil)) (zj5 G A (allH_L (tx (Qb (Xi F (g 7 J) C) (Qb (Xi j (g 4 J) C) (Qb (zlh (.inr rfl) B (g 6 J) (g 8 J) (Sw (g 7 J)) (Sw (g 4 J)) (Sw (g 8 J))) oh_nil))) H)))
def Z0{x:Int}{p:Pn}(j:Sb c p)(z:Ul c x)(g:c.lo≤D∧D≤c.hi)(A:p.k≤1000000):(W5 p.p x D).AllH c D:=by
 unfold W5;exact zj5 (by show (p.k:Int)≤_;omega) g (allH_L (Qb (yg j z (.inr (.inl g))) oh_nil))
def zx0(C:c.R≤R∧R+11≤c.R+c.w)(O:Sb c d)(P:Lb c a)(Q:Lb c b)(F:Lb c n)(B:Lb c t)(st:Sb c t)(I:k≤1000000)(K:t.k≤1000000)(T:c.lo≤D∧D+1≤c.hi):(Xw d.p a.p b.p n.p t.p k R D).AllH c D:=by
 have z:0<c.nb:=by have:=F.1;omega
 have j:=rgr C;have G:=rgr0 C;have g:∀L:Int,0≤L∧L≤10→Ul c (R+L):=λL h=>Sw (j L h)
 have H:c.lo≤D∧D≤c.hi:=J
 have E:c.lo≤D+1∧D+1≤c.hi:=J
 have M:D=-1∨Wf c D:=.inr (.inl H);have A:D+1=-1∨Wf c (D+1):=.inr (.inl E);unfold Xw;refine allH_cat (allH_L (tx (Qb (fe z G) (Qb (Xi F (j 10 J) (.inl rfl)) oh_nil)) (qt z C))) (allH_cat (Z0 st (Sw G) H K) (allH_cat (zj5 I H (allH_cat ?_ ?_)) ?_))
 ·unfold R4 Th Ob;refine allH_cat (allH_L (Qb (Xi Q (j 2 J) M) (Qb (fe z (j 3 J)) oh_nil))) (allH_cat (zj5 I E (allH_L (tx (Qb (Xi P (j 4 J) A) (Qb (Xi B (j 7 J) A) oh_nil)) (tx (zyx z C (j 4 J) (j 2 J)) (Qb (yg st (g 6 J) A) oh_nil))))) (allH_L (tx (Qb (Xi B (j 7 J) (.inl rfl)) (Qb (zlh (.inl rfl) z (j 7 J) (j 8 J) (g 7 J) (g 3 J) (Sw G)) oh_nil)) (Qb (yg st (g 7 J) (.inl rfl)) (Qb (yg st (g 8 J) (.inl rfl)) oh_nil)))))
 ·unfold Sl Tt Ob;refine allH_cat (allH_L (tx (Qb (Xi B (j 7 J) (.inl rfl)) (Qb (Ws z (j 5 J) (j 10 J) (g 7 J) (g 1 J)) (Qb (Xi F (j 4 J) (.inl rfl)) (Qb (fe z (j 3 J)) oh_nil)))) (zyx z C (j 10 J) (j 4 J))))
   (allH_cat (zj5 J E (allH_L (tx (Qb (Xi F (j 4 J) A) (Qb (Xi B (j 7 J) A) oh_nil)) (tx (zyx z C (j 10 J) (j 4 J)) (Qb (yg st (g 6 J) A) oh_nil)))))
   (allH_L (tx (Qb (Xi B (j 7 J) (.inl rfl)) (Qb (zlh (.inl rfl) z (j 7 J) (j 8 J) (g 7 J) (g 3 J) (Sw G)) oh_nil)) (Qb (yg st (g 7 J) (.inl rfl)) (Qb (Xi B (j 7 J) (.inl rfl)) (Qb (zv4 J z (j 7 J) (g 7 J) (g 8 J)) (Qb (yg st (g 7 J) (.inl rfl)) oh_nil)))))))
 ·unfold V2;exact allH_cat (zqo C F B I H oh_nil) (allH_cat (allH_L (Qb (Xi B (j 7 J) (.inl rfl)) (Qb (zlh (.inr rfl) z (j 6 J) (j 10 J) (g 7 J) (Sw G) (g 8 J)) oh_nil))) (zqo C F B I H (Qb (oh_Sel z (j 6 J) (g 10 J) (g 7 J) (g 6 J)) (Qb (yg O (g 6 J) M) oh_nil))))
end into
end ah
end
section
structure Pw where
 d:Pn
 a:Pn
 b:Pn
 n:Pn
 wb:Nat
 wa:Nat
 k:Nat
 w:Nat
 times:Nat
 over:Nat
 B:Nat
def Pw.t(p:Pw):Pn:=⟨p.wb,p.wa+3*p.k+p.b.k+1,p.k+2⟩
def Pw.r(p:Pw):Pn:=⟨p.t.b,p.t.a,p.k+1⟩
section all
variable {c : Cf}
structure PwC (c:Cf) (p:Pw):Prop where
 r:c.R≤p.B∧(p.B:Int)+21≤c.R+c.w
 q:c.pa≤12∧13≤c.pb
 d:Sb c p.d
 a:Lb c p.a
 b:Lb c p.b
 n:Lb c p.n
 wl:c.L p.wb
 ws:c.S p.wb
 wb:p.wb<c.nb
 k:p.k≤512
 w:p.w≤6
 ti:p.times≤100000
 bk:p.b.k≤512
end all
end
section
section gd
variable {bs : List Bf} {S S' T ls : List Int} {D : Int} {f g b : Fr Lo} {l : List Lo}
structure PwG (bs:List Bf) (p:Pw):Prop where
 B:16≤p.B∧p.B≤40
 d:Bp bs p.d
 wd:Bw bs p.d
 a:Bp bs p.a
 b:Bp bs p.b
 n:Bp bs p.n
 wb:p.wb<bs.length
 wz:((p.wa+4*p.k+p.b.k+3+p.k*2^p.w:Nat):Int)≤(M7 bs p.wb).size
 w6:(M7 bs p.wb).size≤65536
 ww:(M7 bs p.wb).kind≠1
 k:1≤p.k∧p.k≤512
 nk:0<p.n.k
 w:1≤p.w∧p.w≤6
 ti:p.times≤100000
 ov:p.over≤63
 bk:p.b.k≤512
end gd
end
section
set_option linter.unusedSimpArgs false
section fm
variable {l l' : List Pn} {m m' m'' : Nat → Nat → UInt64} {p q : Pn}
end fm
section ex
variable {sz : Nat → Nat} {s : Fs}
end ex
end
section
set_option linter.unusedSimpArgs false
section ex
variable {sz : Nat → Nat} {s : Fs}
def Pw.wk(p:Pw):Pn:=⟨p.wb,p.wa,4*p.k+p.b.k+3+p.k*2^p.w⟩
structure PwS (sz:Nat→Nat) (p:Pw):Prop where
 B:16≤p.B∧p.B≤40
 d:p.d.in_ sz
 a:p.a.in_ sz
 b:p.b.in_ sz
 n:p.n.in_ sz
 wk:p.wk.in_ sz
 k:1≤p.k
 kb:p.k≤512
 dk:p.d.k=p.k
 ak:p.a.k=p.k
 nk:p.n.k=p.k
 db:p.d.b≠p.wb
 ab:p.a.b≠p.wb
 bb:p.b.b≠p.wb
 nb:p.n.b≠p.wb
 dn:DjE p.d p.n
 w:1≤p.w∧p.w≤6
 ov:p.over≤63
 ti:p.times*p.w=64*p.b.k+p.over
section pieces
variable {p : Pw}
end pieces
end ex
end
section
set_option linter.unusedSimpArgs false
section ex
variable {sz : Nat → Nat} {s : Fs} {p : Pw}
end ex
end
section
set_option linter.unusedSimpArgs false
section ex
variable {sz : Nat → Nat} {s : Fs} {p : Pw}
def Pw.H(p:Pw)(m:Nat→Nat→UInt64):Prop:=pl m p.n 0%2=1∧vl (pl m p.a) p.k<vl (pl m p.n) p.k
end ex
end
section
set_option linter.unusedSimpArgs false
section stp
end stp
section prog
variable {p : Pw} {e : Nat} {c : Cf} {bs : List Bf} {sz : Nat → Nat} {s0 : Fs}
end prog
end
section
def Uq(vs:List Vr):List Bf:=vs.map λv=>⟨v.limbs,2,v.sec⟩
def Rk(vs:List Vr):List Pc:=(List.range vs.length).map λi:Nat=>⟨(i:Int),0,(gv vs i).limbs⟩
def Nt(vs:List Vr)(W:Int):List Bf:=Uq vs++[⟨W,2,false⟩,⟨W,2,true⟩]
section pl
variable {vs : List Vr} {W : Int} {i : Nat}
def plB_len:(Nt vs W).length=vs.length+2:=by simp[Nt,Uq]
def plP_len:(Rk vs).length=vs.length:=by simp[Rk]
def U3(hi:i<vs.length):M7 (Nt vs W) i=⟨(gv vs i).limbs,2,(gv vs i).sec⟩:=by
 have h:=Sr hi;have e:vs[i]=gv vs i:=by rw[Ht hi]at h;exact Option.some.inj h
 unfold M7 Nt Uq;rw[Hn,Hx Cn,Jj,Ht hi,e];rfl
def plB_w0:M7 (Nt vs W) vs.length=⟨W,2,false⟩:=by
 unfold M7 Nt Uq;rw[Hn,H9 N];simp
def plB_w1:M7 (Nt vs W) (vs.length+1)=⟨W,2,true⟩:=by
 unfold M7 Nt Uq;rw[Hn,H9 N];simp
def zqj(hi:i<vs.length):Rr (Rk vs) i=⟨i,0,(gv vs i).limbs⟩:=by
 unfold Rr Rk;rw[Hn,Jj,List.getElem?_range hi];rfl
def V3(hv:P3 vs=true)(hi:i<vs.length):1≤(gv vs i).limbs∧(gv vs i).limbs≤512:=by
 obtain⟨k,e,_,_,g,j⟩:=znz hv (v:=(i:Int)) J;unfold O5 at g j;rw[If]at g j;exact⟨g,j⟩
def ff{v:Vr}(h:v∈vs):∃i,i<vs.length∧gv vs i=v:=by
 obtain⟨i,hi,e⟩:=Js.1 h;have h:=Sr hi;rw[Ht hi,e]at h;exact⟨i,hi,(Option.some.inj h).symm⟩
def zro(hv:P3 vs=true)(z:1≤W∧W≤32768):∀b∈Nt vs W,1≤b.size∧b.size≤65536∧1≤b.kind∧b.kind≤3:=by
 intro b g;unfold Nt Uq at g;rcases Ih.1 g with g|g
 ·obtain⟨v,j,rfl⟩:=Mb.1 g;obtain⟨i,hi,rfl⟩:=ff j;have:=V3 hv hi;simp only;omega
 ·simp at g;rcases g with rfl|rfl<;>simp only<;>omega
def zwb(hv:P3 vs=true)(hm:∀i,i<vs.length→(gv vs i).mode=0)(C:vs.length≤30)(B:1≤W∧W≤32768):U2 vs (Nt vs W) (Rk vs) ⟨vs.length,0,W⟩ ⟨(vs.length:Int)+1,0,W⟩=true:=by
 have g:=zro hv B;have j:bo (Nt vs W)=0:=by
  unfold bo;rw[plB_len,Hs J,Hs,Hs]
  ·rw[Iw];rintro⟨b,j,z⟩;have:=g b j;simp at z;omega
  ·rw[Iw];rintro⟨b,j,z⟩;have:=g b j;simp at z;omega
 unfold U2;rw[hv,j,plB_len,plP_len];simp only[Lh,decide_true,Hq,Hz];refine⟨J,?_,?_,?_⟩
 ·refine Jh.2 λi hi=>?_
  have hi:=J0.1 hi;have D:=V3 hv hi;have A:=hm i hi;have e:((⟨i,0,(gv vs i).limbs⟩:Pc).buf.toNat)=i:=N
  unfold aw U0;rw[zqj hi,e,U3 hi,plB_len];simp[Q2,A];omega
 ·have e:((⟨vs.length,0,W⟩:Pc).buf.toNat)=vs.length:=N
  unfold Vm U0;rw[e,plB_w0,plB_len];simp;omega
 ·have e:((⟨(vs.length:Int)+1,0,W⟩:Pc).buf.toNat)=vs.length+1:=Do
  unfold Vm U0;rw[e,plB_w1,plB_len];simp;omega
end pl
section st
variable {bs : List Bf} {X : List (List UInt64)} {i : Nat}
def zhz(h:((X.getD i []).length:Int)=(M7 bs i).size)(hi:i<bs.length):(O1 64 bs X).bufs.getD i []=X.getD i []:=by
 show (Sd bs X bs.length).getD i []=_;unfold Sd;rw[Hn,Jj,List.getElem?_range hi];simp only[Jt,Jg];unfold Um;rw[(J:(M7 bs i).size.toNat-(X.getD i []).length=0)];simp
def zno(h:((X.getD i []).length:Int)=(M7 bs i).size)(hi:i<bs.length):bx (O1 64 bs X) i=(M7 bs i).size.toNat:=by
 unfold bx;rw[zhz h hi];omega
def Xy(h:((X.getD i []).length:Int)=(M7 bs i).size)(hi:i<bs.length)(g:Nat):(Rn (O1 64 bs X)).m i g=(X.getD i []).getD g 0:=by
 show ((O1 64 bs X).bufs.getD i []).getD g 0=_;rw[zhz h hi]
def jh{p:Pn}(h:((X.getD p.b []).length:Int)=(M7 bs p.b).size)(g:Bp bs p):p.in_ (bx (O1 64 bs X)):=by
 have z:=g.s;have A:=g.z;have j:=zno h g.b;unfold Pn.in_;rw[j];constructor
 ·omega
 ·exact_mod_cast (J:(M7 bs p.b).size.toNat≤65536)
def gq{p:Pn}{n:Nat}(h:((X.getD p.b []).length:Int)=(M7 bs p.b).size)(g:p.b<bs.length)(j:p.a=0)(z:(X.getD p.b []).length=n):vl (pl (Rn (O1 64 bs X)).m p) n=val (X.getD p.b []):=by
 refine vl_get (Kq z) λi hi=>?_
 show (Rn (O1 64 bs X)).m p.b (p.a+i)=_;rw[j,Iq,Xy h g]
end st
end
end Go.Sv
