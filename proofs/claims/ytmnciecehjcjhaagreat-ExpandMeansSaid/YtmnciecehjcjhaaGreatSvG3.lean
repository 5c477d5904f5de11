/- Texts of the evaluator, of the logic over it, of plain arithmetic. -/
import Derived.Test.YtmnciecehjcjhaaGreatSvG2
set_option linter.unusedSimpArgs false
set_option linter.defProp false
namespace Go.Sv
variable{g j A D U vO uR:Nat}{z B:Int}{M:Bool}{T vg:UInt64}{vR:List Int}{vM:Type}{uY:List Nat}
def zvq{j:Type}{f:j→List LV}{k:Nat}(g:∀a,(f a).length=k):∀l:List j,(l.flatMap f).length=l.length*k
 |[]=>N
 |a::l=>by rw[Nj,J9,zvq g l,g,Kh,Ky];omega
def zy6{j:Type}{f:j→List LV}{k:Nat}(g:∀a,(f a).length=k):∀(l:List j) (i:Nat),(l.flatMap f).drop (i*k)=(l.drop i).flatMap f
 |_,0=>N
 |[],i+1=>N
 |a::l,i+1=>by
  rw[Nj,List.drop_append,g,show (i+1)*k-k=i*k by rw[Ky];omega,zy6 g l i];rw[L6 (by rw[g,Ky];omega)];rfl
def zaf{f:vM→List LV}{k:Nat}(g:∀a,(f a).length=k){l:List vM}{i:Nat}{a:vM}(h:l[i]?=some a):((l.flatMap f).drop (i*k)).take k=f a:=by
 rw[zy6 g];obtain⟨hi,rfl⟩:=Jy.1 h;rw[Lt hi,Nj,Og (by rw[g];exact J8 _),Kk (by rw[g];exact J8 _)]
def zt2{f:vM→List LV}{k:Nat}(g:∀a,(f a).length=k){l:List vM}{i:Nat}{a:vM}(h:l[i]?=some a){j:Nat}(z:j<k):(l.flatMap f)[i*k+j]?=(f a)[j]?:=by
 rw[←O2,←zaf g h,Lu z]
def zae{j:Type}{f:j→List LV}(g:∀a,dats (f a)=true):∀l:List j,dats (l.flatMap f)=true
 |[]=>rfl
 |a::l=>by rw[Nj];exact dats_app (g a) (zae g l)
def zqu{f:vM→List LV}{k:Nat}(g:∀a,(f a).length=k){l:List vM}{i:Nat}(h:i<l.length):i*k+k≤(l.flatMap f).length:=by
 rw[zvq g,←On];exact Kq _ h
structure Vr where
 limbs:Int
 sec:Bool
 mode:Int
structure Ko where
 kind:Int
 d:Int
 e:Int
 a:Int
 b:Int
 c:Int
 imm:UInt64
def Vr.f(v:Vr):List LV:=[.i v.limbs,.bool v.sec,.i v.mode]
def Ko.f(o:Ko):List LV:=[.i o.kind,.i o.d,.i o.e,.i o.a,.i o.b,.i o.c,.u o.imm]
def Py(l:List Vr):List LV:=l.flatMap Vr.f
def Wn(l:List Ko):List LV:=l.flatMap Ko.f
def Vr.f_len(v:Vr):v.f.length=3:=rfl
def Ko.f_len(o:Ko):o.f.length=7:=rfl
def osC_len(l:List Ko):(Wn l).length=l.length*7:=zvq Ko.f_len l
def Tt(l:List Vr):dats (Py l)=true:=zae (λ_=>rfl) l
def zcu(l:List Ko):dats (Wn l)=true:=zae (λ_=>rfl) l
def zct{l:List Vr}{i:Nat}{v:Vr}(h:l[i]?=some v):((Py l).drop (i*3)).take 3=v.f:=zaf Vr.f_len h
def zv3{l:List Ko}{i:Nat}{v:Ko}(h:l[i]?=some v):((Wn l).drop (i*7)).take 7=v.f:=zaf Ko.f_len h
def zl{l:List Vr}{i:Nat}{v:Vr}(h:l[i]?=some v):(Py l)[i*3]?=some (.i v.limbs):=by have:=zt2 Vr.f_len h (j:=0) J;simpa [Py,Vr.f] using this
def ziv{l:List Vr}{i:Nat}{v:Vr}(h:l[i]?=some v):(Py l)[i*3+1]?=some (.bool v.sec):=by have:=zt2 Vr.f_len h (j:=1) J;simpa [Py,Vr.f] using this
def rx{l:List Vr}{i:Nat}{v:Vr}(h:l[i]?=some v):(Py l)[i*3+2]?=some (.i v.mode):=by have:=zt2 Vr.f_len h (j:=2) J;simpa [Py,Vr.f] using this
def mz{l:List Vr}{i:Nat}(h:i<l.length):i*3+3≤(Py l).length:=zqu Vr.f_len h
def os_lt{l:List Ko}{i:Nat}(h:i<l.length):i*7+7≤(Wn l).length:=zqu Ko.f_len h
def gv(l:List Vr)(n:Nat):Vr:=l.getD n ⟨0,false,0⟩
def go(l:List Ko)(n:Nat):Ko:=l.getD n ⟨0,0,0,0,0,0,0⟩
def gb(l:List Bool)(n:Nat):Bool:=l.getD n false
def Vf{l:List Vr}{n:Nat}(h:n<l.length):l[n]?=some (gv l n):=by simp[gv,J0,h]
def Y0{l:List Ko}{n:Nat}(h:n<l.length):l[n]?=some (go l n):=by simp[go,J0,h]
def at_gb{l:List Bool}{n:Nat}(h:n<l.length):l[n]?=some (gb l n):=by simp[gb,J0,h]
def zn9{l:List Vr}{n:Nat}(h:n<l.length):l.drop n=gv l n::l.drop (n+1):=by
 rw[Lt h];congr 1;have:=Vf h;rw[J7 h]at this;exact Option.some.inj this
def drop_go{l:List Ko}{n:Nat}(h:n<l.length):l.drop n=go l n::l.drop (n+1):=by
 rw[Lt h];congr 1;have:=Y0 h;rw[J7 h]at this;exact Option.some.inj this
def Uq(v:Vr):Bool:=decide (v.mode=1) || decide (v.mode=2)
def Xi(v:Vr):Bool:=decide (v.limbs<1) || (decide (512<v.limbs) || (decide (v.mode<0) || decide (3<v.mode)))
def T8:Nat→Nat→List Vr→Option Nat
 |_,p,[]=>some p
 |i,p,v::l=>if Xi v=true then none else if v.mode=0 then T8 (i+1) p l else if p<i∨v.sec=decide (v.mode=1) then none else T8 (i+1) (p+1) l
def Tg(l:List Vr):Bool:=match T8 0 0 l with
 |none=>false
 |some p=>decide (1≤l.length)&&(decide (l.length≤256)&&decide (p≤12))
def Tv(n:Nat)(v:Int):Bool:=decide (0≤v)&&decide (v<n)
def Up(n:Nat)(o:Ko):Bool :=
 decide (o.d=-1)&&(decide (o.e=-1)&&(decide (o.c=-1)&&(Tv n o.a&&(if o.imm=2 then Tv n o.b else (decide (o.imm=1) || decide (o.imm=3))&&decide (o.b=-1)))))
def Qm(k:Int):Option Nat :=
 if k=1 then some 1 else if k=2 then some 5 else if k=3∨k=4∨k=5∨k=6∨k=7 then some 13 else if k=8∨k=10∨k=11∨k=12∨k=13 then some 29 else if k=9 then some 21 else if k=14 then some 19 else if k=15∨k=16 then some 0 else none
def T1(o:Ko):Bool:=if o.kind=1 then true else if o.kind=13 then decide (1≤o.imm)&&decide (o.imm≤6) else if o.kind=15 then decide (1≤o.imm)&&decide (o.imm≤4096) else decide (o.imm=0)
def To(n s i:Nat)(v:Int):Bool:=if s.testBit i=true then Tv n v else decide (v=-1)
def Vp(n s:Nat)(o:Ko):Bool:=To n s 0 o.d&&(To n s 1 o.e&&(To n s 2 o.a&&(To n s 3 o.b&&To n s 4 o.c)))
def Uw(o:Ko):List Int:=[o.a,o.b,o.c].filter (λv=>!decide (v<0))++if o.kind=14 then [o.d,o.e] else []
def Qv(g:List Vr)(o:Ko):Bool:=(Uw o).any λv=>(gv g v.toNat).sec
def Ug(j:List Vr)(g:Bool)(v:Int):Bool:=decide (v<0) || !(Uq (gv j v.toNat) || (g && !(gv j v.toNat).sec))
def Rj(o:Ko):List Int :=
 if o.kind=6 then [o.a,o.b] else if o.kind=14 then [o.d,o.e] else if o.kind=8 then [o.d,o.a,o.b] else if o.kind=9 then [o.d,o.c] else if o.kind=10∨o.kind=11∨o.kind=12 then [o.d,o.a,o.b,o.c] else if o.kind=13 then [o.d,o.a,o.c] else []
def Qs(vs:List Vr)(v:Int):Int:=(gv vs v.toNat).limbs
def oz(g:List Vr)(o:Ko):Bool:=(Rj o).all λv=>decide (Qs g v=Qs g ((Rj o).headD 0))
def Qk(g:List Vr)(o:Ko):Bool :=
 if o.kind=17 then Up g.length o else match Qm o.kind with
 |none=>false
 |some s=>T1 o&&(Vp g.length s o&&(Ug g (Qv g o) o.d&&(Ug g (Qv g o) o.e&&((decide (o.e<0) || !decide (o.d=o.e))&&oz g o))))
def dl(k:Int):Int:=if k=15 then 1 else if k=16 then -1 else 0
def af(m:List Bool)(o:Ko):List Bool:=if 0≤o.d then m.set o.d.toNat true else m
def zgy(m:List Bool)(o:Ko):Bool:=(Uw o).all λv=>gb m v.toNat
def Xg(j:List Vr):List Bool→Int→List Ko→Option (List Bool×Int)
 |m,g,[]=>some (m,g)
 |m,g,o::l=>if (Qk j o&&(zgy m o&&(decide (0≤g+dl o.kind)&&decide (g+dl o.kind≤4))))=true then Xg j (af m o) (g+dl o.kind) l else none
def Xd(g:List Vr)(v:Int):Bool:=decide (0≤v)&&decide ((gv g v.toNat).mode=3)
def Vt(g:List Vr)(o:Ko):Bool:=decide (o.kind=17)&&(Up g.length o&&(!Xd g o.a && !Xd g o.b))
def zi(g:List Vr)(m:List Bool):Bool:=(List.range g.length).all λi=>!decide ((gv g i).mode=3) || gb m i
def jd(g:List Vr):List Bool:=g.map Uq
def U1(g:List Vr)(j z:List Ko):Bool :=
 Tg g&&(decide (j.length≤4096)&&(decide (z.length≤4096)&&(z.all (Vt g)&&(match Xg g (jd g) 0 j with
  |none=>false
  |some (m,A)=>zi g m&&decide (A=0)))))
def W3(g:List Vr)(j z:List Ko):Int:=if U1 g j z=true then 0 else 2
def zq8{p:Int→Bool}{l:List Int}{j:Nat}(h:j<l.length):(l.take (j+1)).filter (λv=>!p v)=(l.take j).filter (λv=>!p v)++if p (gd l j)=true then [] else [gd l j]:=by
 have e:l[j]=gd l j:=by simp[gd,J0,h]
 rw[K9 h,List.filter_append,e]
 congr 1
 cases g:p (gd l j)<;>simp[g]
def zyo(p:Int→Bool)(l:List Int):(nj p l=-1∧l.filter (λv=>!p v)=l)∨∃i:Nat,nj p l=i∧i<l.length∧(l.take (i+1)).filter (λv=>!p v)=l.take i:=by
 unfold nj;by_cases h:l.findIdx p<l.length
 ·rw[J6 h];refine .inr ⟨_,rfl,h,?_⟩;have g:p l[l.findIdx p]=true:=List.findIdx_getElem;have e:l[l.findIdx p]=gd l (l.findIdx p):=by simp[gd,J0,h]
  rw[zq8 h,←e,J6 g,Ls,List.filter_eq_self];intro a ha;obtain⟨A,j,rfl⟩:=L5.1 ha;rw[List.getElem_take];rw[Mc]at j;have:=List.not_of_lt_findIdx (p:=p) (xs:=l) (i:=A) J;simpa using this
 ·rw[J1 h];refine .inl ⟨rfl,?_⟩;rw[List.filter_eq_self];intro a ha;have z:=List.findIdx_eq_length.1 (Et:l.findIdx p=l.length);simp[z a ha]
def zsf{c:List Int}{i j:Nat}{x:Int}(h:i<c.length)(g:i<j)(u:Nat)(hu:j≤u):gd (c.set i x) u=gd c u:=by
 rw[zxo _ _ _ _ h,J1 J]
def znj{c:List Int}{i:Nat}{x:Int}(h:i<c.length):(c.set i x).take (i+1)=c.take i++[x]:=by
 rw[K9 Aw,List.getElem_set_self,List.take_set_of_le (J8 _)]
def mm{n:Nat}{v:Int}:Tv n v=true↔0≤v∧v<n:=by simp[Tv]
def y9{n s i:Nat}{v:Int}(h:To n s i v=true):v=-1∨(0≤v∧v<n):=by
 unfold To at h;split at h
 ·exact .inr (mm.1 h)
 ·exact .inl (Mn h)
def Un{n s i:Nat}{v:Int}(h:To n s i v=true)(hb:s.testBit i=true):0≤v∧v<n:=by
 rw[To,J6 hb]at h;exact mm.1 h
def yq{n s i:Nat}{v:Int}(h:To n s i v=true)(hb:s.testBit i=false):v=-1:=by
 rw[To,J1 (by simp[hb])]at h;exact Mn h
def ze9{k:Int}{s:Nat}(h:Qm k=some s):(k=1∧s=1)∨(k=2∧s=5)∨((k=3∨k=4∨k=5∨k=6∨k=7)∧s=13)∨((k=8∨k=10∨k=11∨k=12∨k=13)∧s=29)∨(k=9∧s=21)∨(k=14∧s=19)∨((k=15∨k=16)∧s=0):=by
 unfold Qm at h
 repeat' split at h
 all_goals first|(cases h;done)|(cases h;simp_all)
structure PartsIn (n:Nat) (o:Ko):Prop where
 d:o.d=-1∨(0≤o.d∧o.d<n)
 e:o.e=-1∨(0≤o.e∧o.e<n)
 takes:∀v∈Uw o,0≤v∧v<n
 alike:∀v∈Rj o,0≤v∧v<n
 swap:o.kind=14→o.a=-1∧o.b=-1
def zn6{n s:Nat}{o:Ko}(B:Qm o.kind=some s)(h:Vp n s o=true):PartsIn n o:=by
 simp only[Vp,J2]at h;obtain⟨hd,he,ha,hb,hc⟩:=h;have z:∀v∈[o.a,o.b,o.c].filter (λv=>!decide (v<0)),0≤v∧v<n:=by
  intro v hv;obtain⟨j,C⟩:=Ol.1 hv;simp at C;simp only[Ka,Ml,Ny]at j;rcases j with rfl|rfl|rfl
  ·rcases y9 ha with e|e<;>omega
  ·rcases y9 hb with e|e<;>omega
  ·rcases y9 hc with e|e<;>omega
 have hk:=ze9 B;refine⟨y9 hd,y9 he,λv hv=>?_,λv hv=>?_,λA=>?_⟩
 ·rcases Kx.1 hv with j|j
  ·exact z v j
  ·split at j
   ·rename_i A;have g:s=19:=J
    subst g;simp only[Ka,Ml,Ny]at j;rcases j with rfl|rfl
    ·exact Un hd Ac
    ·exact Un he Ac
   ·cases j
 ·unfold Rj at hv;split at hv
  ·have g:s=13:=J
   subst g;simp only[Ka,Ml,Ny]at hv;rcases hv with rfl|rfl
   ·exact Un ha Ac
   ·exact Un hb Ac
  split at hv
  ·have g:s=19:=J
   subst g;simp only[Ka,Ml,Ny]at hv;rcases hv with rfl|rfl
   ·exact Un hd Ac
   ·exact Un he Ac
  split at hv
  ·have g:s=29:=J
   subst g;simp only[Ka,Ml,Ny]at hv;rcases hv with rfl|rfl|rfl
   ·exact Un hd Ac
   ·exact Un ha Ac
   ·exact Un hb Ac
  split at hv
  ·have g:s=21:=J
   subst g;simp only[Ka,Ml,Ny]at hv;rcases hv with rfl|rfl
   ·exact Un hd Ac
   ·exact Un hc Ac
  split at hv
  ·have g:s=29:=J
   subst g;simp only[Ka,Ml,Ny]at hv;rcases hv with rfl|rfl|rfl|rfl
   ·exact Un hd Ac
   ·exact Un ha Ac
   ·exact Un hb Ac
   ·exact Un hc Ac
  split at hv
  ·have g:s=29:=J
   subst g;simp only[Ka,Ml,Ny]at hv;rcases hv with rfl|rfl|rfl
   ·exact Un hd Ac
   ·exact Un ha Ac
   ·exact Un hc Ac
  ·cases hv
 ·have g:s=19:=J
  subst g;exact⟨yq ha Ac,yq hb Ac⟩
def fv{n:Nat}{o:Ko}(hk:o.kind=17)(h:Up n o=true):PartsIn n o:=by
 simp only[Up,J2,Kb]at h;obtain⟨hd,he,hc,ha,hb⟩:=h;have ha:=mm.1 ha;have hb:o.b=-1∨(0≤o.b∧o.b<n):=by
  split at hb
  ·exact .inr (mm.1 hb)
  ·simp only[J2,Kb]at hb;exact .inl hb.2
 refine⟨.inl hd,.inl he,λv hv=>?_,λv hv=>?_,λj=>J⟩
 ·unfold Uw at hv;rw[J1 J,Ls]at hv;obtain⟨g,z⟩:=Ol.1 hv;simp at z;simp only[Ka,Ml,Ny]at g;rcases g with rfl|rfl|rfl
  ·omega
  ·rcases hb with e|e<;>omega
  ·omega
 ·unfold Rj at hv;rw[J1 J,J1 J,J1 J,J1 J,J1 J,J1 J]at hv;cases hv
def po{g:List Vr}{o:Ko}(h:Qk g o=true):PartsIn g.length o:=by
 unfold Qk at h;split at h
 ·rename_i hk;exact fv hk h
 ·split at h
  ·cases h
  ·rename_i s j;simp only[J2]at h;exact zn6 j h.2.1
def S1(o:Ko):List Int:=[o.d,o.e,o.a,o.b,o.c]
def zly{n s:Nat}{o:Ko}(h:∀g<5,To n s g (gd (S1 o) g)=true):Vp n s o=true:=by
 simp only[Vp,J2];exact⟨h 0 J,h 1 J,h 2 J,h 3 J,h 4 J⟩
def zpx{n s:Nat}{o:Ko}(z:g<5)(h:To n s g (gd (S1 o) g)=false):Vp n s o=false:=by
 cases j:Vp n s o with
 |false=>rfl
 |true =>
  simp only[Vp,J2]at j;have:g=0∨g=1∨g=2∨g=3∨g=4:=J
  rcases this with rfl|rfl|rfl|rfl|rfl
  ·exact absurd j.1 (by rw[show o.d=gd (S1 o) 0 from rfl,h];simp)
  ·exact absurd j.2.1 (by rw[show o.e=gd (S1 o) 1 from rfl,h];simp)
  ·exact absurd j.2.2.1 (by rw[show o.a=gd (S1 o) 2 from rfl,h];simp)
  ·exact absurd j.2.2.2.1 (by rw[show o.b=gd (S1 o) 3 from rfl,h];simp)
  ·exact absurd j.2.2.2.2 (by rw[show o.c=gd (S1 o) 4 from rfl,h];simp)
def zpy{k:Int}{s:Nat}(h:Qm k=some s):s<32:=by rcases ze9 h with h|h|h|h|h|h|h<;>omega
def zu9(s i:Nat):((s:Int)/2^i%2=1)↔s.testBit i=true:=by
 rw[Nz,Kb];constructor
 ·intro h;have:((s/2^i%2:Nat):Int)=1:=by push_cast;exact h
  omega
 ·intro h;have:((s/2^i%2:Nat):Int)=1:=J
  push_cast at this;exact this
variable{vQ:List Vr}
section
inductive Fr (α:Type) where
 |nil
 |op (o:α) (r:Fr α)
 |loop (o:α) (b:Fr α) (e:α) (r:Fr α)
section tree
variable {α : Type}
def Fr.flat:Fr α→List α
 |.nil=>[]
 |.op o r=>o::r.flat
 |.loop o b e r=>o::(b.flat++e::r.flat)
def Fr.size:Fr α→Nat
 |.nil=>0
 |.op _ r=>r.size+1
 |.loop _ b _ r=>b.size+r.size+2
def Fr.flat_len:∀f:Fr α,f.flat.length=f.size
 |.nil=>rfl
 |.op _ r=>by simp[flat,size,flat_len r]
 |.loop _ b _ r=>by simp[flat,size,flat_len b,flat_len r];omega
def Fr.wf(kd:α→Nat):Fr α→Prop
 |.nil=>True
 |.op o r=>kd o=0∧r.wf kd
 |.loop o b e r=>kd o=1∧kd e=2∧b.wf kd∧r.wf kd
def Yv(g:α→Nat):Nat→List α→Prop
 |d,[]=>d=0
 |d,o::l=>if g o=1 then Yv g (d+1) l else if g o=2 then 0<d∧Yv g (d-1) l else g o=0∧Yv g d l
def Fr.ends:Nat→Fr α→List Int
 |_,.nil=>[]
 |i,.op _ r=>-1::r.ends (i+1)
 |i,.loop _ b _ r=>((i+b.size+1:Nat):Int)::(b.ends (i+1)++(i:Int)::r.ends (i+b.size+2))
def Fr.ends_len:∀(f:Fr α) (i:Nat),(f.ends i).length=f.size
 |.nil,_=>rfl
 |.op _ r,i=>by simp[ends,size,ends_len r]
 |.loop _ b _ r,i=>by simp[ends,size,ends_len b,ends_len r];omega
end tree
def kdK(o:Ko):Nat:=if o.kind=15 then 1 else if o.kind=16 then 2 else 0
end
abbrev Sp:=Int×Int
def Fr.tops{α:Type}:Nat→Fr α→List Sp
 |_,.nil=>[]
 |i,.op _ r=>r.tops (i+1)
 |i,.loop _ b _ r=>((i:Int),((i+b.size+1:Nat):Int))::r.tops (i+b.size+2)
def gs(l:List Sp)(n:Nat):Sp:=l.getD n (0,0)
structure Left (os:List Ko) (es:List Int) (T0:List Sp) (i:Nat) (r:Fr Ko) (T:List Sp):Prop where
 os:os.drop i=r.flat
 es:es.drop i=r.ends i
 wf:r.wf kdK
 tops:T0=T++r.tops i
def c9(k d:Int):Ko:=⟨k,d,-1,-1,-1,-1,0⟩
def Xn:Nat→List Vr→List Ko
 |_,[]=>[]
 |i,v::l=>if Uq v=true then Xn (i+1) l else c9 1 i::Xn (i+1) l
def startOs_len:∀(l:List Vr) (i:Nat),(Xn i l).length≤l.length
 |[],_=>by simp[Xn]
 |v::l,i=>by
  have:=startOs_len l (i+1);unfold Xn;split<;>simp<;>omega
def zol(k:Int):Bool:=decide (k=15) || decide (k=16)
def V5(g:List Vr)(o:Ko):Bool:=!zol o.kind&&U1 g (Xn 0 g++[o]) []
def fp(A:List Vr):∀(B g:List Ko) (m j:List Bool) (d z:Int),Xg A m d B=some (j,z)→Xg A m d (B++g)=Xg A j z g
 |[],g,m,j,d,z,h=>Ci
 |o::B,g,m,j,d,z,h=>by
  unfold Xg at h;split at h
  ·rename_i hc;rw[K6,Xg,J6 hc];exact fp A B g _ j _ z h
  ·cases h
def zxt{i:Nat}(h:i<vQ.length)(g:Uq (gv vQ i)=false):Qk vQ (c9 1 i)=true:=by
 have e:Tv vQ.length (i:Int)=true:=mm.2 ⟨J,J⟩;have j:Nat.testBit 1 1=false:=Ac
 have z:Nat.testBit 1 2=false:=Ac
 have A:Nat.testBit 1 3=false:=Ac
 have B:Nat.testBit 1 4=false:=Ac
 simp[Qk,c9,Qm,T1,Vp,To,e,Ug,g,Qv,Uw,oz,Rj,j,z,A,B]
def am(m:List Bool)(i g:Nat)(hi:i<m.length):gb (m.set i true) g=if g=i then true else gb m g:=by
 unfold gb;rw[J0,J0,N1];by_cases h:i=g
 ·subst h;simp[hi]
 ·rw[J1 h,J1 (λq=>h q.symm)]
def zey{g:List Vr}:∀(l:List Vr) (i:Nat) (m:List Bool),g.drop i=l→m.length=g.length→(∀j,j<i→gb m j=true)→(∀j,i≤j→j<g.length→gb m j=Uq (gv g j)) →
  ∃A,Xg g m 0 (Xn i l)=some (A,0)∧A.length=g.length∧∀j,j<g.length→gb A j=true
 |[],i,m,hd,C,D,E=>by
  have:g.length≤i:=Gl
  exact⟨m,rfl,C,λj F=>D j J⟩
 |v::l,i,m,hd,C,D,E=>by
  have hi:i<g.length:=Gl
  have hc:=zn9 hi;rw[hd]at hc;obtain⟨rfl,rfl⟩:=List.cons.inj hc;unfold Xn;by_cases G:Uq (gv g i)=true
  ·rw[J6 G];refine zey _ (i+1) m rfl C (λj F=>?_) (λj F z=>E j J z);by_cases e:j=i
   ·subst e;rw[E j (J8 _) hi,G]
   ·exact D j J
  ·rw[J1 G];have H:Uq (gv g i)=false:=Ev
   have B:=zxt hi H;have I:zgy m (c9 1 i)=true:=by simp[zgy,Uw,c9]
   obtain⟨A,K,L⟩:=zey (g.drop (i+1)) (i+1) (m.set i true) rfl Cp (λj F=>by
    rw[am _ _ _ J];split
    ·rfl
    ·exact D j J) (λj F z=>by rw[am _ _ _ J,J1 J];exact E j J z)
   refine⟨A,?_,L⟩;rw[Xg,J6 (by rw[B,I];simp[dl,c9])];have M:af m (c9 1 i)=m.set i true:=by simp[af,c9]
   rw[M];simpa [dl,c9] using K
def zef(h:Tg vQ=true):1≤vQ.length∧vQ.length≤256:=by
 unfold Tg at h;split at h
 ·cases h
 ·simp only[J2,Kb]at h;omega
def vgo_limbs:∀(l:List Vr) (i p r:Nat),T8 i p l=some r→∀v∈l,1≤v.limbs∧v.limbs≤512∧0≤v.mode∧v.mode≤3
 |[],_,_,_,_,v,hv=>by cases hv
 |w::l,i,p,r,h,v,hv=>by
  unfold T8 at h;split at h
  ·cases h
  ·rename_i hb;have hw:1≤w.limbs∧w.limbs≤512∧0≤w.mode∧w.mode≤3:=by
    simp[Xi]at hb;omega
   have g:∀j,T8 (i+1) j l=some r→1≤v.limbs∧v.limbs≤512∧0≤v.mode∧v.mode≤3:=λj z=>by
    rcases Ka.1 hv with rfl|hv
    ·exact hw
    ·exact vgo_limbs l _ _ r z v hv
   split at h
   ·exact g _ h
   ·split at h
    ·cases h
    ·exact g _ h
def zrv{vs:List Vr}(h:Tg vs=true):∀v∈vs,1≤v.limbs∧v.limbs≤512∧0≤v.mode∧v.mode≤3:=by
 unfold Tg at h;split at h
 ·cases h
 ·rename_i p g;exact vgo_limbs vs 0 0 p g
def nq{vs:List Vr}{i:Nat}(h:i<vs.length):gv vs i∈vs:=Kj (Vf h)
def zv0{vs:List Vr}(h:Tg vs=true){v:Int}(g:0≤v)(j:v<vs.length):1≤Qs vs v∧Qs vs v≤512:=by
 have:=zrv h _ (nq (vs:=vs) (i:=v.toNat) J);exact⟨this.1,this.2.1⟩
def xj(g:List Vr)(o:Ko):V5 g o=(!zol o.kind&&(Tg g&&Qk g o)):=by
 unfold V5;cases hk:zol o.kind with
 |true=>rfl
 |false =>
  simp only[Bool.not_false,Nu];unfold U1;cases hv:Tg g with
  |false=>rfl
  |true =>
   have G:=zef hv;have C:=startOs_len g 0;obtain⟨m,D,H,z⟩:=zey g 0 (jd g) rfl (by simp[jd]) (λI B=>J) (λI _ B=>by
    unfold gb jd;rw[J0,Lv,Vf B];rfl)
   rw[fp g _ _ _ _ _ _ D];have E:decide ((Xn 0 g++[o]).length≤4096)=true:=L3 Ab;rw[E];simp only[Nu,Kz,List.all_nil,show decide (0≤4096)=true from rfl];have A:dl o.kind=0:=by simp[zol]at hk;simp[dl,hk.1,hk.2]
   cases ho:Qk g o with
   |false=>simp[Xg,ho]
   |true =>
    have j:=po ho;have F:zgy m o=true:=by
     unfold zgy;rw[Li];intro v hv;have:=j.takes v hv;exact z _ J
    have hm:zi g (af m o)=true:=by
     unfold zi;rw[Li];intro i hi;have hi:=Mf.1 hi;have:gb (af m o) i=true:=by
      unfold af;split
      ·have:=j.d;rw[am _ _ _ J];split
       ·rfl
       ·exact z i hi
      ·exact z i hi
     simp[this]
    simp[Xg,ho,F,A,hm]
def Te(k:Int):Bool:=(decide (1≤k)&&decide (k≤11)) || decide (k=14)
def zao(n:Int):Int:=2*n+4*(n-n/2+1)
def Pt(vs:List Vr)(o:Ko):Int :=
 if (Te o.kind&&V5 vs o)=true then
  (if o.kind=5 then Qs vs o.a+Qs vs o.b else if o.kind=6 then zao (Qs vs o.a) else if o.kind=9∨o.kind=10∨o.kind=11 then 2*(Qs vs o.c+1) else 1)
 else 0
def zfa{o:Ko}{s:Nat}(h:Qk vQ o=true)(g:Qm o.kind=some s):Vp vQ.length s o=true∧T1 o=true∧oz vQ o=true:=by
 unfold Qk at h;split at h
 ·rename_i hk;rw[hk]at g;simp[Qm]at g
 ·rw[g]at h;simp only[J2]at h;exact⟨h.2.1,h.1,h.2.2.2.2.2⟩
def za4{o:Ko}{s:Nat}(h:V5 vQ o=true)(g:Qm o.kind=some s):Tg vQ=true∧Vp vQ.length s o=true∧T1 o=true∧oz vQ o=true:=by
 rw[xj]at h;simp only[J2]at h;exact⟨h.2.1,zfa h.2.2 g⟩
def pu{n s:Nat}{o:Ko}(h:Vp n s o=true)(hb:s.testBit 2=true):0≤o.a∧o.a<n:=by
 simp only[Vp,J2]at h;exact Un h.2.2.1 hb
def zbf{n s:Nat}{o:Ko}(h:Vp n s o=true)(hb:s.testBit 3=true):0≤o.b∧o.b<n:=by
 simp only[Vp,J2]at h;exact Un h.2.2.2.1 hb
def ze0{n s:Nat}{o:Ko}(h:Vp n s o=true)(hb:s.testBit 4=true):0≤o.c∧o.c<n:=by
 simp only[Vp,J2]at h;exact Un h.2.2.2.2 hb
def z85(hv:Tg vQ=true){v:Int}(h:0≤v∧v<vQ.length):∃k:Nat,v=k∧k<vQ.length∧(Py vQ)[k*3]?=some (.i (Qs vQ v))∧1≤Qs vQ v∧Qs vQ v≤512:=by
 obtain⟨k,rfl⟩:=J5 h.1;have hk:k<vQ.length:=J
 have:=zv0 hv h.1 h.2;exact⟨k,rfl,hk,zl (Vf hk),this⟩
abbrev TVr:={ n:Int // Xc n }×Bool×{ n:Int // Xc n }×Unit
def vrT(e:TVr):Vr:=⟨e.1.1,e.2.1,e.2.2.1.1⟩
def flat_vr:∀l:List TVr,l.flatMap (λx=>[LV.i x.1.1,LV.bool x.2.1,LV.i x.2.2.1.1])=Py (l.map vrT)
 |[]=>rfl
 |x::l=>by rw[Nj,flat_vr l];rfl
def Wt(g:List Vr)(o:Ko)(s i:Nat):Bool:=(List.range i).any λj=>s.testBit j&&((decide (2≤j) || decide (o.kind=14))&&(gv g (gd (S1 o) j).toNat).sec)
def z9z{n s i:Nat}{v:Int}(h:To n s i v=true):s.testBit i=!decide (v<0):=by
 unfold To at h;split at h
 ·rename_i hb;have:=mm.1 h;rw[hb];simp;omega
 ·rename_i hb;have:v=-1:=Mn h;subst this;simpa using hb
def zq4(g:List Vr)(o:Ko)(s i:Nat):Wt g o s (i+1)=(Wt g o s i || (s.testBit i&&((decide (2≤i) || decide (o.kind=14))&&(gv g (gd (S1 o) i).toNat).sec))):=by
 simp[Wt,List.range_succ,List.any_append]
def secU_5{o:Ko}{n s:Nat}(z:Qm o.kind=some s)(j:Vp n s o=true):Wt vQ o s 5=Qv vQ o:=by
 simp only[Vp,J2]at j;obtain⟨hd,he,ha,hb,hc⟩:=j;have g:o.kind=14→s=19:=λh=>by have:=ze9 z;omega
 rw[show (5:Nat)=0+1+1+1+1+1 by rfl];simp only[zq4];rw[show Wt vQ o s 0=false from rfl];rw[z9z hd,z9z he,z9z ha,z9z hb,z9z hc];have A:gd (S1 o) 0=o.d:=rfl;have B:gd (S1 o) (0+1)=o.e:=rfl;have C:gd (S1 o) (0+1+1)=o.a:=rfl;have D:gd (S1 o) (0+1+1+1)=o.b:=rfl;have E:gd (S1 o) (0+1+1+1+1)=o.c:=rfl;rw[A,B,C,D,E];unfold Qv Uw;rw[List.any_append,List.any_filter];by_cases k:o.kind=14
 ·have:=g k;subst this;have H:=Un hd Ac;have I:=Un he Ac;have F:decide (o.d<0)=false:=Ab
  have G:decide (o.e<0)=false:=Ab
  simp[k,F,G,Bool.or_comm,Bool.or_assoc]
 ·simp[k,Bool.or_assoc]

abbrev Fc:=Int×Int×Int
def Xm(o:Ko):List Fc :=
 if o.kind=9 then [(3,o.c,-1)] else if o.kind=10∨o.kind=11 then [(2,o.a,o.c),(2,o.b,o.c)] else if o.kind=12 then [(1,o.c,-1),(2,o.a,o.c),(2,o.b,o.c)] else if o.kind=13 then [(1,o.c,-1),(2,o.a,o.c)]
 else if o.kind=17 then (if o.imm=2 then [(2,o.a,o.b)] else if o.imm=1 then [(1,o.a,-1)] else if o.imm=3 then [(3,o.a,-1)] else []) else []
def gN(v:List Nat)(i:Int):Nat:=if i<0 then 0 else v.getD i.toNat 0
def Yq(f:Fc)(v:List Nat):Bool :=
 Tv v.length f.2.1&&(if f.1=1 then decide (gN v f.2.1%2=1) else if f.1=3 then decide (0<gN v f.2.1) else if f.1=2 then Tv v.length f.2.2&&decide (gN v f.2.1<gN v f.2.2) else false)
def Ue(o:Ko)(v:List Nat):Bool:=(Xm o).all λf=>Yq f v
def Ul(n:Int):Nat:=2^(64*n.toNat)
noncomputable def Qz(g:List Vr)(o:Ko)(v:List Nat):Nat :=
 let a:=gN v o.a;let b:=gN v o.b;let c:=gN v o.c;let w:=Ul (Qs g o.d)
 if o.kind=1 then o.imm.toNat else if o.kind=2 then a else if o.kind=3 then a+b else if o.kind=4 then a%w+w-b%w else if o.kind=5∨o.kind=6 then a*b
 else if o.kind=7 then (if a<b then 1 else 0) else if o.kind=8 then (if c%2=1 then a else b) else if o.kind=9 then a%c else if o.kind=10 then (a+b)%c else if o.kind=11 then Z6 a b c
 else if o.kind=12 then val (reR (P1 (a*b)) (P1 c) (Qs g o.c)) else if o.kind=13 then a^b%c else 0
noncomputable def opV(vs:List Vr)(o:Ko)(v:List Nat):Nat:=Qz vs o v%Ul (Qs vs o.d)
def kd_1{o:Ko}:kdK o=1↔o.kind=15:=by unfold kdK;split<;>(try split)<;>simp_all

def zjl(n:Int):0<Ul n:=Nat.pow_pos Ac
def gN_at{v:List Nat}{i:Int}(h:0≤i):gN v i=v.getD i.toNat 0:=by unfold gN;rw[J1 J]



def Fr.map{α:Type}(g:α→α):Fr α→Fr α
 |.nil=>.nil
 |.op o r=>.op (g o) (r.map g)
 |.loop o b e r=>.loop (g o) (b.map g) (g e) (r.map g)
def mw(g:List Vr):List Nat:=(List.range g.length).filter λi=>Uq (gv g i)

def yg(a:List UInt64):(LU a).dat=true:=by
 simp only[LU,LV.dat];exact yp (λ_=>rfl) a
def met_c{o:Ko}{v:List Nat}(h:Ue o v=true)(hk:o.kind=9∨o.kind=10∨o.kind=11∨o.kind=12∨o.kind=13):gN v o.c≠0:=by
 rcases hk with hk|hk|hk|hk|hk<;>simp[Ue,Xm,hk,Yq]at h<;>omega
def Wq(f:Fc):List LV:=[.i f.1,.i f.2.1,.i f.2.2]
def aa(l:List Fc):List LV:=l.flatMap Wq
def oh(l:List Fc):dats (aa l)=true:=zae (f:=Wq) (λ_=>rfl) l
def zzk{x c k:Nat}(h:x<c)(hc:(P1 c).length≤k):(P1 x).length≤k:=Y1 (Nat.lt_trans h (z4m hc))
def dt{x y k:Nat}(g:(P1 x).length≤k)(j:(P1 y).length≤k):(P1 (x+y)).length≤k+1:=by
 refine Y1 ?_;have z:=z4m g;have A:=z4m j;rw[z61];omega
def eh{k:Nat}(x:Nat)(l:Int)(g:l≤k):(P1 (x%Ul l)).length≤k:=by
 have h:x%Ul l<2^(64*l.toNat):=L8 _ (zjl l);have:=Y1 h;omega
def top_len{k:Nat}(l:Int)(g:l≤k):(P1 (Ul l)).length≤k+1:=by
 refine Y1 ?_;have h:Ul l≤2^(64*k):=Lr Ac J;have j:0<2^(64*k):=Nat.pow_pos Ac;rw[z61];omega
def sk{x y k:Nat}(h:x≤y)(g:(P1 y).length≤k):(P1 x).length≤k:=Y1 (Nat.lt_of_le_of_lt h (z4m g))
abbrev Hl:=Int×Int
def aq(x y:Hl):Prop:=x.2≤y.1∨y.2≤x.1
def Ap(g:Int)(l:List Hl):Prop:=l.Pairwise aq∧∀h∈l,0≤h.1∧h.1<h.2∧h.2≤g
structure St where
 holes:List Hl
 size:Int
def ivs(z:Nat→Hl)(j:Nat→Bool)(s:Bool)(g:List Nat):List Hl:=(g.filter λv=>j v==s).map z
def BusyOk(A:Bool→Int)(B:Nat→Hl)(j:Nat→Bool)(g:List Nat)(z:Bool→St):Prop :=
 ∀s,0≤(z s).size∧Ap (z s).size ((0,A s)::(ivs B j s g++(z s).holes))
structure Plan0 (wk:Bool→Int) (a b S4:Nat→Int) (sec:Nat→Bool) (done busy:List Nat) (iv:Nat→Hl) (ps:Bool→St) (cur:Int):Prop where
 ok:BusyOk wk iv sec busy ps
 wide:∀v∈done,(iv v).2=(iv v).1+S4 v
 nd:busy.Nodup
 sub:∀v∈busy,v∈done
 over:∀v∈done,v ∉ busy→b v<cur
 pairs:∀v∈done,∀w∈done,v≠w→sec v=sec w→aq (iv v) (iv w)∨b v<a w∨b w<a v
 inn:∀v∈done,0≤(iv v).1∧(iv v).2≤(ps (sec v)).size∧aq (0,wk (sec v)) (iv v)
 sz:(ps false).size+(ps true).size≤wk false+wk true+(done.map S4).sum
noncomputable section
structure Bf where
 size:Int
 kind:Int
 sec:Bool
structure Lo where
 kind:Int
 d:Int
 e:Int
 a:Int
 b:Int
 c:Int
 buf:Int
 imm:UInt64
 deriving DecidableEq
def Bf.f(v:Bf):List LV:=[.i v.size,.i v.kind,.bool v.sec]
def Lo.f(o:Lo):List LV:=[.i o.kind,.i o.d,.i o.e,.i o.a,.i o.b,.i o.c,.i o.buf,.u o.imm]
def Rz(l:List Bf):List LV:=l.flatMap Bf.f
def Tu(l:List Lo):List LV:=l.flatMap Lo.f
def Bf.f_len(v:Bf):v.f.length=3:=rfl
def Lo.f_len(o:Lo):o.f.length=8:=rfl
def zxl(l:List Lo):(Tu l).length=l.length*8:=zvq Lo.f_len l
def V3(l:List Bf):dats (Rz l)=true:=zae (λ_=>rfl) l
def W9(l:List Lo):dats (Tu l)=true:=zae (λ_=>rfl) l
def zvd{l:List Bf}{i:Nat}{v:Bf}(h:l[i]?=some v):((Rz l).drop (i*3)).take 3=v.f:=zaf Bf.f_len h
def zco{l:List Lo}{i:Nat}{v:Lo}(h:l[i]?=some v):((Tu l).drop (i*8)).take 8=v.f:=zaf Lo.f_len h
def zel{l:List Bf}{i:Nat}{v:Bf}(h:l[i]?=some v):(Rz l)[i*3]?=some (.i v.size):=by have:=zt2 Bf.f_len h (j:=0) J;simpa [Rz,Bf.f] using this
def zle{l:List Bf}{i:Nat}{v:Bf}(h:l[i]?=some v):(Rz l)[i*3+1]?=some (.i v.kind):=by have:=zt2 Bf.f_len h (j:=1) J;simpa [Rz,Bf.f] using this
def zuq{l:List Bf}{i:Nat}{v:Bf}(h:l[i]?=some v):(Rz l)[i*3+2]?=some (.bool v.sec):=by have:=zt2 Bf.f_len h (j:=2) J;simpa [Rz,Bf.f] using this
def zph{l:List Lo}{i:Nat}{v:Lo}(h:l[i]?=some v){j:Nat}(g:j<8):(Tu l)[i*8+j]?=v.f[j]?:=zt2 Lo.f_len h g
def znw{l:List Bf}{i:Nat}(h:i<l.length):i*3+3≤(Rz l).length:=zqu Bf.f_len h
def zn1{l:List Lo}{i:Nat}(h:i<l.length):i*8+8≤(Tu l).length:=zqu Lo.f_len h
def znt(a b:List Lo):Tu (a++b)=Tu a++Tu b:=by simp[Tu]
def bfC_app(a b:List Bf):Rz (a++b)=Rz a++Rz b:=by simp[Rz]
def Ps(l:List Bf)(n:Nat):Bf:=l.getD n ⟨0,0,false⟩
def mh(l:List Lo)(n:Nat):Lo:=l.getD n ⟨0,0,0,0,0,0,0,0⟩
def T7{l:List Bf}{n:Nat}(h:n<l.length):l[n]?=some (Ps l n):=by simp[Ps,J0,h]
def zgs{l:List Lo}{n:Nat}(h:n<l.length):l[n]?=some (mh l n):=by simp[mh,J0,h]
def zhw{l:List Lo}{n:Nat}(h:n<l.length):l.drop n=mh l n::l.drop (n+1):=by
 rw[Lt h];congr 1;have:=zgs h;rw[J7 h]at this;exact Option.some.inj this
def repBs(n:Nat):Rl [.bool false] n=(List.replicate n false).map LV.bool:=by
 induction n with
 |zero=>rfl
 |succ n g=>rw[Rl,g,Na];rfl
def Rb(o:Lo):List Int :=
 if o.kind=2∨o.kind=8∨o.kind=9 then [o.a]
 else if (3≤o.kind∧o.kind≤7)∨o.kind=10 then [o.a,o.b]
 else if o.kind=11∨o.kind=12∨o.kind=13 then [o.a,o.b,o.c]
 else if o.kind=14∧¬o.a=-1 then [o.a]
 else if o.kind=15∧¬o.a=-1 then [o.a,o.b]
 else if o.kind=15 then [o.b] else []
def Pu(o:Lo):List Int :=
 if o.kind=10∨o.kind=11∨o.kind=12 then [o.d,o.e]
 else if o.kind=15∨o.kind=17 then [] else [o.d]
def Tb(g r:Int)(j:Bool):Bool:=if j=true then decide (0≤r)&&decide (r<g) else decide (r=-1)
def Ss(k:Int):Bool:=!decide (k=15) && !decide (k=17)
def Sw(k:Int):Bool:=decide (k=10) || (decide (k=11) || decide (k=12))
def Td(k:Int):Bool:=!decide (k=1)&&(!decide (k=16) && !decide (k=17))
def Yi(k:Int):Bool:=(decide (3≤k)&&decide (k≤7)) || ((decide (10≤k)&&decide (k≤13)) || decide (k=15))
def Yj(k:Int):Bool:=decide (11≤k)&&decide (k≤13)
def Re(k:Int):Bool:=decide (k=14) || decide (k=15)
def R6(g:Int)(j:List Bf)(o:Lo):Bool :=
 (decide (1≤o.kind)&&decide (o.kind≤17))&&(Tb g o.d (Ss o.kind)&&(Tb g o.e (Sw o.kind)&&((Tb g o.a (Td o.kind) || (Re o.kind&&decide (o.a=-1)))&&(Tb g o.b (Yi o.kind)&&(Tb g o.c (Yj o.kind)&&(!(Sw o.kind&&decide (o.d=o.e)) &&
  (if Re o.kind=true then decide (0≤o.buf)&&(decide (o.buf<j.length)&&(!(decide (o.kind=15)&&decide ((Ps j o.buf.toNat).kind=1))&&(!decide (o.a=-1) || decide (o.imm<iU (Ps j o.buf.toNat).size))))
   else decide (o.buf=0)&&(if o.kind=1 then true else if o.kind=8∨o.kind=9 then decide (1≤o.imm)&&decide (o.imm≤63) else if o.kind=16 then decide (1≤o.imm)&&decide (o.imm≤1048576) else decide (o.imm=0)))))))))
def Rm(m:List Bool)(r:Int):Bool:=m.getD r.toNat false
def Wx(j:Int)(z:List Bf)(m:List Bool)(g:List Int)(o:Lo):Int×List Bool×List Int :=
 if R6 j z o=false then (2,m,g)
 else if o.kind=17 then (match g.getLast? with|none=>(9,m,g)|some d=>(0,m.set d.toNat false,g.dropLast))
 else if (Pu o).any (λr=>g.contains r)=true then (9,m,g)
 else if o.kind=16∧Rm m o.d=true then (9,m,g)
 else if o.kind=16∧g.length=8 then (10,m,g)
 else if (Rb o).any (λr=>!Rm m r)=true then (5,m,g)
 else (0,(Pu o).foldl (λm r=>m.set r.toNat true) m,if o.kind=16 then g++[o.d] else g)
def gy(g:Int)(z:List Bf):Nat→List Bool→List Int→List Lo→Int×Int
 |i,_,j,[]=>if j=[] then (i,0) else (i,9)
 |i,m,j,o::l=>if (Wx g z m j o).1=0 then gy g z (i+1) (Wx g z m j o).2.1 (Wx g z m j o).2.2 l else (i,(Wx g z m j o).1)
def Tf(g:Int)(bs:List Bf)(os:List Lo):Int×Int :=
 if 64<g∨32<bs.length∨65536<os.length then (0,3)
 else if (bs.any λb=>decide (65536<b.size))=true then (0,3)
 else if g<0 then (0,2)
 else if (bs.any λb=>decide (b.size<1) || (decide (b.kind<1) || decide (3<b.kind)))=true then (0,2)
 else gy g bs 0 (List.replicate g.toNat false) [] os
structure Ms where
 i:Nat
 first:Bool
 r:List UInt64
 bufs:List (List UInt64)
 l:List (Int×Int)
def atR(r:List UInt64)(x:Int):UInt64:=if x<0 then 0 else r.getD x.toNat 0
def Qp(b:Bool):UInt64:=if b then 1 else 0
def Po(r:List UInt64)(x:Int)(v:UInt64):List UInt64:=if 0≤x then r.set x.toNat v else r
def P6(o:Lo)(a b:UInt64)(c:Bool):UInt64×UInt64 :=
 if o.kind=1 then (o.imm,0) else if o.kind=2 then (a,0) else if o.kind=3 then (a+b,0) else if o.kind=4 then (a-b,0)
 else if o.kind=5 then (a &&& b,0) else if o.kind=6 then (a ||| b,0) else if o.kind=7 then (a ^^^ b,0)
 else if o.kind=8 then (UInt64.ofNat (a.toNat*2^o.imm.toNat),0) else if o.kind=9 then (UInt64.ofNat (a.toNat/2^o.imm.toNat),0)
 else if o.kind=10 then (V2 a b,a*b) else if o.kind=11 then ((Pq a b c).1,Qp (Pq a b c).2) else if o.kind=12 then ((Rh a b c).1,Qp (Rh a b c).2)
 else if o.kind=13 then (if c then a else b,0) else (0,0)
def V8(g:List (List UInt64))(x:Int):List UInt64:=g.getD x.toNat []
def Xb(o:Lo)(s:Ms):Option Ms :=
 if o.kind=14 then
  (if (o.imm+atR s.r o.a).toNat<(V8 s.bufs o.buf).length then
   some ⟨s.i+1,s.first,Po (Po s.r o.d ((V8 s.bufs o.buf).getD (o.imm+atR s.r o.a).toNat 0)) o.e 0,s.bufs,s.l++[((s.i:Int),(((o.imm+atR s.r o.a).toNat:Nat):Int))]⟩ else none)
 else if o.kind=15 then
  (if (o.imm+atR s.r o.a).toNat<(V8 s.bufs o.buf).length then
   some ⟨s.i+1,s.first,Po (Po s.r o.d 0) o.e 0,s.bufs.set o.buf.toNat ((V8 s.bufs o.buf).set (o.imm+atR s.r o.a).toNat (atR s.r o.b)),s.l++[((s.i:Int),(((o.imm+atR s.r o.a).toNat:Nat):Int))]⟩ else none)
 else some ⟨s.i+1,s.first,Po (Po s.r o.d (P6 o (atR s.r o.a) (atR s.r o.b) (decide (atR s.r o.c%2=1))).1) o.e (P6 o (atR s.r o.a) (atR s.r o.b) (decide (atR s.r o.c%2=1))).2,s.bufs,s.l++[((s.i:Int),(-1:Int))]⟩
def Tk(os:List Lo)(es:List Int)(s:Ms):Option Ms :=
 match os[s.i]? with
 |none=>some s
 |some o =>
  if o.kind=16 then some ⟨s.i+1,true,if s.first then Po s.r o.d 0 else s.r,s.bufs,s.l++[((s.i:Int),(-1:Int))]⟩
  else if o.kind=17 then
   (match os[(es.getD s.i 0).toNat]? with
   |none=>none
   |some p=>if atR s.r p.d+1<p.imm then some ⟨(es.getD s.i 0).toNat,false,Po s.r p.d (atR s.r p.d+1),s.bufs,s.l⟩ else some ⟨s.i+1,s.first,s.r,s.bufs,s.l⟩)
  else Xb o s
def Rr(os:List Lo)(es:List Int):Nat→Ms→Option Ms
 |0,s=>some s
 |n+1,s=>match Tk os es s with
  |none=>none
  |some g=>Rr os es n g
end
variable{Y:List Bf}{uZ:List Lo}
section
def Sr(o:Lo):Nat:=if o.kind=16 then 1 else if o.kind=17 then 2 else 0
structure Fs where
 r:Nat→UInt64
 m:Nat→Nat→UInt64
def Fs.put(s:Fs)(d:Nat)(v:UInt64):Fs:=⟨λx=>if x=d then v else s.r x,s.m⟩
def Fs.sto(s:Fs)(b n:Nat)(v:UInt64):Fs:=⟨s.r,λx y=>if x=b∧y=n then v else s.m x y⟩
def Wh(s:Fs)(x:Int):UInt64:=if x<0 then 0 else s.r x.toNat
def T2(s:Fs)(x:Int)(v:UInt64):Fs:=if 0≤x then s.put x.toNat v else s
def Sz(sz:Nat→Nat)(o:Lo)(s:Fs):Option Fs :=
 if o.kind=14 then (if (o.imm+Wh s o.a).toNat<sz o.buf.toNat then some (T2 (T2 s o.d (s.m o.buf.toNat (o.imm+Wh s o.a).toNat)) o.e 0) else none)
 else if o.kind=15 then (if (o.imm+Wh s o.a).toNat<sz o.buf.toNat then some (T2 (T2 (s.sto o.buf.toNat (o.imm+Wh s o.a).toNat (Wh s o.b)) o.d 0) o.e 0) else none)
 else some (T2 (T2 s o.d (P6 o (Wh s o.a) (Wh s o.b) (decide (Wh s o.c%2=1))).1) o.e (P6 o (Wh s o.a) (Wh s o.b) (decide (Wh s o.c%2=1))).2)
def itZ(f:Fs→Option Fs)(d:Nat):Nat→Nat→Fs→Option Fs
 |0,_,s=>some s
 |n+1,j,s=>match f (s.put d (UInt64.ofNat j)) with
  |none=>none
  |some g=>itZ f d n (j+1) g
def W2(sz:Nat→Nat):Fr Lo→Fs→Option Fs
 |.nil,s=>some s
 |.op o r,s=>match Sz sz o s with
  |none=>none
  |some g=>W2 sz r g
 |.loop o b _ r,s=>match itZ (W2 sz b) o.d.toNat o.imm.toNat 0 s with
  |none=>none
  |some g=>W2 sz r g
def Fr.noW(x:Nat):Fr Lo→Bool
 |.nil=>true
 |.op o r=>!decide (o.d=x)&&(!decide (o.e=x)&&r.noW x)
 |.loop o b _ r=>!decide (o.d.toNat=x)&&(b.noW x&&r.noW x)
def zls{s:Fs}{d:Int}{v:UInt64}{x:Nat}(h:¬d=x):(T2 s d v).r x=s.r x:=by
 unfold T2;split
 ·show (if x=d.toNat then v else s.r x)=s.r x;rw[J1 J]
 ·rfl
def opZ_r{sz:Nat→Nat}{o:Lo}{s z:Fs}{x:Nat}(h:Sz sz o s=some z)(g:¬o.d=x)(j:¬o.e=x):z.r x=s.r x:=by
 unfold Sz at h;split at h
 ·split at h
  ·cases h;rw[zls j,zls g]
  ·cases h
 ·split at h
  ·split at h
   ·cases h;rw[zls j,zls g];rfl
   ·cases h
  ·cases h;rw[zls j,zls g]
def zua{f:Fs→Option Fs}{P:Fs→Prop}{d:Nat}(hd:∀s v,P s→P (s.put d v))(z:∀s g,P s→f s=some g→P g):∀(n A:Nat) (s g:Fs),P s→itZ f d n A s=some g→P g
 |0,_,s,g,j,h=>by cases h;exact j
 |n+1,A,s,g,j,h=>by
  unfold itZ at h;split at h
  ·cases h
  ·rename_i B C;exact zua hd z n (A+1) B g (z _ _ (hd _ _ j) C) h
def bt{sz:Nat→Nat}{x:Nat}:∀(f:Fr Lo) (s g:Fs),f.noW x=true→W2 sz f s=some g→g.r x=s.r x
 |.nil,s,g,_,h=>Ci
 |.op o r,s,g,hw,h=>by
  simp only[Fr.noW,J2,L9,Lk]at hw;unfold W2 at h;split at h
  ·cases h
  ·rename_i j z;rw[bt r j g hw.2.2 h,opZ_r z hw.1 hw.2.1]
 |.loop o b e r,s,g,hw,h=>by
  simp only[Fr.noW,J2,L9,Lk]at hw;unfold W2 at h;split at h
  ·cases h
  ·rename_i j z;rw[bt r j g hw.2.2 h];refine zua (P:=λt=>t.r x=s.r x) (λt v A=>?_) (λt B A h=>by rw[bt b t B hw.2.1 h,A]) _ _ _ _ rfl z;show (if x=o.d.toNat then v else t.r x)=_;rw[J1 (λq=>hw.1 q.symm)];exact A
def zx(ls:List Nat)(x:Int):Bool:=decide (-1≤x)&&(decide (x<64) && !ls.contains x.toNat || decide (x=-1))
def Fr.regs(nb:Nat):List Nat→Fr Lo→Bool
 |_,.nil=>true
 |ls,.op o r=>zx ls o.d&&(zx ls o.e&&(decide (o.a<64)&&(decide (o.b<64)&&(decide (o.c<64)&&(decide (o.buf.toNat<nb)&&r.regs nb ls)))))
 |ls,.loop o b _ r=>zx ls o.d&&(decide (0≤o.d)&&(decide (1≤o.imm.toNat)&&(b.regs nb (o.d.toNat::ls)&&r.regs nb ls)))
def zhn{nb x:Nat}:∀(f:Fr Lo) (z:List Nat),x∈z→f.regs nb z=true→f.noW x=true
 |.nil,_,_,_=>rfl
 |.op o r,z,j,h=>by
  simp only[Fr.regs,J2,zx,Kb,Lf,L9,List.contains_eq_mem,Lk]at h;obtain⟨⟨C,g⟩,⟨D,A⟩,_,_,_,_,B⟩:=h;simp only[Fr.noW,J2,L9,Lk];refine⟨λq=>?_,λq=>?_,zhn r z j B⟩
  ·rcases g with ⟨_,g⟩|g
   ·apply g;rw[q];exact j
   ·omega
  ·rcases A with ⟨_,A⟩|A
   ·apply A;rw[q];exact j
   ·omega
 |.loop o b e r,z,j,h=>by
  simp only[Fr.regs,J2,zx,Kb,Lf,L9,List.contains_eq_mem,Lk]at h;obtain⟨⟨C,g⟩,D,_,A,B⟩:=h;simp only[Fr.noW,J2,L9,Lk];refine⟨λq=>?_,zhn b _ (Kf _ j) A,zhn r z j B⟩;rcases g with ⟨_,g⟩|g
  ·apply g;rw[q];exact j
  ·omega
structure Rep (nb:Nat) (sz:Nat→Nat) (s:Ms) (t:Fs):Prop where
 rl:s.r.length=64
 r:∀x,x<64→s.r.getD x 0=t.r x
 bl:s.bufs.length=nb
 len:∀b,b<nb→(s.bufs.getD b []).length=sz b
 m:∀b n,b<nb→n<sz b→(s.bufs.getD b []).getD n 0=t.m b n
section rep
variable {nb : Nat} {sz : Nat → Nat} {s : Ms} {t : Fs}
def Rep.at(h:Rep nb sz s t){x:Int}(hx:x<64):atR s.r x=Wh t x:=by
 unfold atR Wh;split
 ·rfl
 ·exact h.r _ J
def ay(l:List vM)(i g:Nat)(v d:vM)(h:i<l.length):(l.set i v).getD g d=if g=i then v else l.getD g d:=by
 simp only[J0,N1];by_cases q:g=i
 ·subst q;simp[h]
 ·rw[J1 (Ne.symm q),J1 q]
def Rep.put(h:Rep nb sz s t){x:Int}{v:UInt64}{i:Nat}{f:Bool}{l:List (Int×Int)}(hx:x<64):Rep nb sz ⟨i,f,Po s.r x v,s.bufs,l⟩ (T2 t x v):=by
 unfold Po T2;split
 ·refine⟨by simpa using h.rl,λy hy=>?_,h.bl,h.len,h.m⟩;show (s.r.set x.toNat v).getD y 0=if y=x.toNat then v else t.r y
  rw[ay _ _ _ _ _ (by rw[h.rl];omega)];split
  ·rfl
  ·exact h.r y hy
 ·exact⟨h.rl,h.r,h.bl,h.len,h.m⟩
def Rep.ctl(h:Rep nb sz s t){i:Nat}{f:Bool}{l:List (Int×Int)}:Rep nb sz ⟨i,f,s.r,s.bufs,l⟩ t:=⟨h.rl,h.r,h.bl,h.len,h.m⟩
def Rep.sto(h:Rep nb sz s t){b n:Nat}{v:UInt64}{i:Nat}{f:Bool}{l:List (Int×Int)}(hb:b<nb)(hn:n<sz b):Rep nb sz ⟨i,f,s.r,s.bufs.set b ((s.bufs.getD b []).set n v),l⟩ (t.sto b n v):=by
 have gg:b<s.bufs.length:=by rw[h.bl];exact hb
 refine⟨h.rl,h.r,by simpa using h.bl,λx hx=>?_,λx y hx hy=>?_⟩
 ·show ((s.bufs.set b _).getD x []).length=_;rw[ay _ _ _ _ _ gg];split
  ·rename_i q;subst q;rw[Mj];exact h.len x hx
  ·exact h.len x hx
 ·show ((s.bufs.set b _).getD x []).getD y 0=if x=b∧y=n then v else t.m x y
  rw[ay _ _ _ _ _ gg];by_cases q:x=b
  ·subst q;rw[J6 rfl,ay _ _ _ _ _ (by rw[h.len x hx];exact hn)];by_cases q2:y=n
   ·simp[q2]
   ·simp only[q2,and_false,M7];exact h.m x y hx hy
  ·simp only[q,false_and,M7];exact h.m x y hx hy
end rep
def zht{j:List Lo}{z:List Int}:∀(n k:Nat) (s g:Ms),Rr j z n s=some g→Rr j z (n+k) s=Rr j z k g
 |0,k,s,g,h=>by cases h;rw[Kw]
 |n+1,k,s,g,h=>by
  unfold Rr at h;split at h
  ·cases h
  ·rename_i A B;rw[(J:n+1+k=(n+k)+1)];show (match Tk j z s with|none=>none|some g=>Rr j z (n+k) g)=_;rw[B];exact zht n k A g h
def doR_ok{nb:Nat}{sz:Nat→Nat}{s:Ms}{t E:Fs}{o:Lo}(h:Rep nb sz s t)(hd:o.d<64)(he:o.e<64)(ha:o.a<64)(hb:o.b<64)(hc:o.c<64)(g:o.buf.toNat<nb)(z:Sz sz o t=some E) :
  ∃C,Xb o s=some C∧C.i=s.i+1∧C.first=s.first∧Rep nb sz C E∧C.l.length=s.l.length+1:=by
 unfold Sz at z;unfold Xb;rw[h.at ha,h.at hb,h.at hc];unfold V8;have F:o.buf.toNat<s.bufs.length:=by rw[h.bl];exact g
 split at z
 ·rename_i A;rw[J6 A,h.len _ g];split at z
  ·rename_i j;rw[J6 j];cases z;refine⟨_,rfl,rfl,rfl,?_,N⟩;rw[h.m _ _ g j];have D:=h.put (x:=o.d) (v:=t.m o.buf.toNat (o.imm+Wh t o.a).toNat) (i:=0) (f:=true) (l:=[]) hd;exact D.put he
  ·cases z
 ·rename_i A;rw[J1 A];split at z
  ·rename_i B;rw[J6 B,h.len _ g];split at z
   ·rename_i j;rw[J6 j];cases z;refine⟨_,rfl,rfl,rfl,?_,N⟩;have G:=h.sto (v:=Wh t o.b) (i:=0) (f:=true) (l:=[]) g j;have D:=G.put (x:=o.d) (v:=0) (i:=0) (f:=true) (l:=[]) hd;exact D.put he
   ·cases z
  ·rename_i B;rw[J1 B];cases z;refine⟨_,rfl,rfl,rfl,?_,N⟩;have D:=h.put (x:=o.d) (v:=(P6 o (Wh t o.a) (Wh t o.b) (decide (Wh t o.c%2=1))).1) (i:=0) (f:=true) (l:=[]) hd;exact D.put he
def Fr.costZ:Fr Lo→Nat
 |.nil=>0
 |.op _ r=>1+r.costZ
 |.loop o b _ r=>o.imm.toNat*(b.costZ+2)+r.costZ
def zcd{l:List vM}{i:Nat}{a:vM}{r:List vM}(h:l.drop i=a::r):l[i]?=some a∧l.drop (i+1)=r:=by
 have g:=congrArg (λl=>l[0]?) h;simp at g;refine⟨g,?_⟩;rw[←List.drop_drop,h];rfl
def zqe{l a r:List vM}{i:Nat}(h:l.drop i=a++r):l.drop (i+a.length)=r:=by
 rw[←List.drop_drop,h,List.drop_left]
def ofNat_lt:(UInt64.ofNat g+1:UInt64)=UInt64.ofNat (g+1):=by
 apply UInt64.toNat.inj;simp
def zhm{os:List Lo}{es:List Int}{nb:Nat}{sz:Nat→Nat}:∀(f:Fr Lo) (i:Nat) (H:List Nat) (z:List Lo) (T:List Int) (s:Ms) (t K:Fs),f.wf Sr→f.regs nb H=true→os.drop i=f.flat++z→es.drop i=f.ends i++T→s.i=i→s.first=true→Rep nb sz s t→W2 sz f t=some K →
  ∃n j,Rr os es n s=some j∧j.i=i+f.size∧j.first=true∧Rep nb sz j K∧n≤f.costZ∧j.l.length≤s.l.length+f.costZ
 |.nil,i,H,z,T,s,t,K,_,_,_,_,hi,X,Y,C=>by
  cases C;exact⟨0,s,rfl,by simp[Fr.size,hi],X,Y,J8 _,J8 _⟩
 |.op o r,i,H,z,T,s,t,K,hw,L,ho,he,hi,X,Y,C=>by
  simp only[Fr.regs,J2,zx,Kb,Lf]at L;obtain⟨⟨d1,d2⟩,⟨e1,e2⟩,a1,b1,c1,f1,L⟩:=L;have Z:o.d<64:=by rcases d2 with d2|d2<;>omega
  have e3:o.e<64:=by rcases e2 with e2|e2<;>omega
  simp only[Fr.flat,K6]at ho;simp only[Fr.ends,K6]at he;obtain⟨D,F⟩:=zcd ho;obtain⟨gK,G⟩:=zcd he;unfold W2 at C;split at C
  ·cases C
  rename_i t1 h1;obtain⟨s1,q1,q2,q3,q4,q5⟩:=doR_ok Y Z e3 a1 b1 c1 f1 h1;obtain⟨n,j,U,V,p3,M,p5,p6⟩:=zhm r (i+1) H z T s1 t1 K hw.2 L F G (by rw[q2,hi]) (by rw[q3,X]) q4 C;have hk:=hw.1;have A:Tk os es s=some s1:=by
   unfold Tk;rw[hi,D];dsimp only;unfold Sr at hk;rw[J1 (λq=>by simp[q]at hk),J1 (λq=>by simp[q]at hk)];exact q1
  refine⟨n+1,j,?_,by rw[V];simp[Fr.size];omega,p3,M,by simp[Fr.costZ];omega,by simp[Fr.costZ];omega⟩;show (match Tk os es s with|none=>none|some j=>Rr os es n j)=_;rw[A];exact U
 |.loop o b e r,i,H,z,T,s,t,K,hw,L,ho,he,hi,X,Y,C=>by
  simp only[Fr.regs,J2,zx,Kb,Lf]at L;obtain⟨⟨d1,d2⟩,d0,m1,gg,gL⟩:=L;have Z:o.d<64:=by rcases d2 with d2|d2<;>omega
  obtain⟨w1,w2,w3,w4⟩:=hw;have gD:o.kind=16:=by unfold Sr at w1;split at w1<;>first|assumption|(split at w1<;>omega)
  have gM:e.kind=17:=by
   unfold Sr at w2;split at w2
   ·omega
   ·split at w2
    ·assumption
    ·omega
  simp only[Fr.flat,K6,K0]at ho;simp only[Fr.ends,K6,K0]at he;obtain⟨D,F⟩:=zcd ho;obtain⟨gK,G⟩:=zcd he;have gF:=zqe F;have gG:=zqe G;rw[Fr.flat_len]at gF;rw[Fr.ends_len]at gG;obtain⟨gO,gR⟩:=zcd gF;obtain⟨gT,gH⟩:=zcd gG;have O:(es.getD (i+1+b.size) 0).toNat=i:=by rw[J0,gT];simp
  unfold W2 at C;split at C
  ·cases C
  rename_i t1 h1;have gU:=zhn b (o.d.toNat::H) (K2 ..) gg;have jD:=o.imm.toNat_lt;have P:∀(n B:Nat) (s:Ms) (t:Fs),1≤n→B+n=o.imm.toNat→s.i=i+1→s.first=true→Rep nb sz s (t.put o.d.toNat (UInt64.ofNat B))→itZ (W2 sz b) o.d.toNat n B t=some t1 →
    ∃k j,Rr os es k s=some j∧j.i=i+b.size+2∧j.first=true∧Rep nb sz j t1∧k≤n*(b.costZ+2)-1∧j.l.length≤s.l.length+(n*(b.costZ+2)-1):=by
   intro n
   induction n with
   |zero=>intro B s t h;omega
   |succ n ih =>
    intro B s t _ hj gV gY gI E;unfold itZ at E;split at E
    ·cases E
    rename_i t2 h2;obtain⟨k,g,U,V,p3,M,p5,p6⟩:=zhm b (i+1) (o.d.toNat::H) _ _ s _ t2 w3 gg F G gV gY gI h2;have gZ:t2.r o.d.toNat=UInt64.ofNat B:=by
     rw[bt b _ _ gU h2];show (if o.d.toNat=o.d.toNat then _ else _)=_;rw[J6 rfl]
    have jg:atR g.r o.d=UInt64.ofNat B:=by
     rw[M.at Z];unfold Wh;rw[J1 J,gZ]
    have A:Tk os es g=if UInt64.ofNat B+1<o.imm then some ⟨i,false,Po g.r o.d (UInt64.ofNat B+1),g.bufs,g.l⟩ else some ⟨g.i+1,g.first,g.r,g.bufs,g.l⟩:=by
     unfold Tk;rw[V,gO];dsimp only;rw[J1 J,J6 gM,O,D];dsimp only;rw[jg]
    cases n with
    |zero =>
     have jz:¬(UInt64.ofNat B+1<o.imm):=by
      rw[Lq];have:(UInt64.ofNat B+1:UInt64).toNat=(B+1)%18446744073709551616:=N
      rw[this];by_cases q:B+1<18446744073709551616
      ·rw[Ke q];omega
      ·omega
     rw[J1 jz]at A;cases E;refine⟨k+1,⟨g.i+1,g.first,g.r,g.bufs,g.l⟩,?_,?_,p3,M.ctl,J,by show g.l.length≤_;omega⟩
     ·rw[zht k 1 s g U];show (match Tk os es g with|none=>none|some j=>Rr os es 0 j)=_;rw[A];rfl
     ·show g.i+1=_;rw[V];omega
    |succ n =>
     have jA:UInt64.ofNat B+1<o.imm:=by
      rw[Lq];have:(UInt64.ofNat B+1:UInt64).toNat=(B+1)%18446744073709551616:=N
      rw[this,Ke J];omega
     rw[J6 jA]at A;have jB:(UInt64.ofNat B+1:UInt64)=UInt64.ofNat (B+1):=ofNat_lt;have Q:Rep nb sz ⟨i+1,true,Po g.r o.d (UInt64.ofNat B+1),g.bufs,g.l++[((i:Int),-1)]⟩ (t2.put o.d.toNat (UInt64.ofNat (B+1))):=by
      have h:=M.put (x:=o.d) (v:=UInt64.ofNat B+1) (i:=i+1) (f:=true) (l:=g.l++[((i:Int),-1)]) Z;rw[jB]at h ⊢;unfold T2 at h;rw[J6 d0]at h;exact h
     obtain⟨I,s3,u1,u2,u3,u4,u5,u6⟩:=ih (B+1) _ t2 J J rfl rfl Q E;have hm:(n+1+1)*(b.costZ+2)=(n+1)*(b.costZ+2)+(b.costZ+2):=On _ _;have jE:b.costZ+2≤(n+1)*(b.costZ+2):=Nat.le_mul_of_pos_left _ J;refine⟨k+(I+2),s3,?_,u2,u3,u4,J,?_⟩
     ·rw[zht k _ s g U];show (match Tk os es g with|none=>none|some j=>Rr os es (I+1) j)=_;rw[A];show (match Tk os es (⟨i,false,Po g.r o.d (UInt64.ofNat B+1),g.bufs,g.l⟩:Ms) with|none=>none|some j=>Rr os es I j)=_;have:Tk os es (⟨i,false,Po g.r o.d (UInt64.ofNat B+1),g.bufs,g.l⟩:Ms)=some ⟨i+1,true,Po g.r o.d (UInt64.ofNat B+1),g.bufs,g.l++[((i:Int),-1)]⟩:=by
       unfold Tk;dsimp only;rw[D];dsimp only;rw[J6 gD];rfl
      rw[this];exact u1
     ·simp only[J9,Kh,Kz]at u6;omega
  have R:Rep nb sz ⟨i+1,true,Po s.r o.d 0,s.bufs,s.l++[((i:Int),-1)]⟩ (t.put o.d.toNat (UInt64.ofNat 0)):=by
   have h:=Y.put (x:=o.d) (v:=0) (i:=i+1) (f:=true) (l:=s.l++[((i:Int),-1)]) Z;unfold T2 at h;rw[J6 d0]at h;exact h
  obtain⟨k,s1,U,V,p3,M,p5,p6⟩:=P o.imm.toNat 0 _ t m1 J rfl rfl R h1;have jC:b.costZ+2≤o.imm.toNat*(b.costZ+2):=Nat.le_mul_of_pos_left _ J;obtain⟨I,g,u1,u2,u3,u4,u5,u6⟩:=zhm r (i+b.size+2) H z T s1 t1 K w4 gL (by rw[(J:i+b.size+2=i+1+b.size+1)];exact gR) (by rw[(J:i+b.size+2=i+1+b.size+1)]at gH ⊢;exact gH) V p3 M C;refine⟨(k+I)+1,g,?_,by rw[u2];simp[Fr.size];omega,u3,u4,by simp only[Fr.costZ];omega,?_⟩
  ·show (match Tk os es s with|none=>none|some j=>Rr os es (k+I) j)=_;have:Tk os es s=some ⟨i+1,true,Po s.r o.d 0,s.bufs,s.l++[((i:Int),-1)]⟩:=by
    unfold Tk;rw[hi,D];dsimp only;rw[J6 gD,X];rfl
   rw[this];show Rr os es (k+I) _=_;rw[zht k I _ s1 U];exact u1
  ·simp only[J9,Kh,Kz]at p6;simp only[Fr.costZ];omega
end
def X2:Nat→List Nat→List Int→List Lo→List Int
 |_,_,g,[]=>g
 |i,st,g,o::l=>if o.kind=16 then X2 (i+1) (i::st) (g.set i (-1)) l
  else if o.kind=17 then (match st with
   |[]=>X2 (i+1) [] (g.set i (-1)) l
   |a::j=>X2 (i+1) j (((g.set i (-1)).set i a).set a i) l)
  else X2 (i+1) st (g.set i (-1)) l
def endsR_tree:∀(f:Fr Lo) (i:Nat) (st:List Nat) (j g:List Int) (z:List Lo),f.wf Sr→j.length=i →
  X2 i st (j++List.replicate f.size 0++g) (f.flat++z)=X2 (i+f.size) st (j++f.ends i++g) z
 |.nil,i,st,j,g,z,_,_=>by simp[Fr.flat,Fr.size,Fr.ends]
 |.op o r,i,st,j,g,z,w,B=>by
  have h:=endsR_tree r (i+1) st (j++[-1]) g z w.2 Ao;have hk:=w.1;have H:¬o.kind=16:=λq=>Gn
  have I:¬o.kind=17:=λq=>Gn
  simp only[Fr.flat,Fr.size,Fr.ends,K6,X2,H,I,M7,Na];simp only[K0,K6,Ok]at h ⊢;rw[Nf _ _ J,(J:i-j.length=0),Oz,h]
  congr 1;omega
 |.loop o b e r,i,st,j,g,z,w,B=>by
  obtain⟨C,D,K,L⟩:=w;have E:o.kind=16:=by unfold Sr at C;split at C<;>first|assumption|(split at C<;>omega)
  have F:e.kind=17:=by
   unfold Sr at D;split at D
   ·omega
   ·split at D
    ·assumption
    ·omega
  have hb:=endsR_tree b (i+1) (i::st) (j++[-1]) ([0]++List.replicate r.size 0++g) (e::(r.flat++z)) K Ao;have G:=endsR_tree r (i+b.size+2) st (j++[((i+b.size+1:Nat):Int)]++b.ends (i+1)++[(i:Int)]) g z L (by simp[B,Fr.ends_len];omega);have M:List.replicate (b.size+r.size+2) (0:Int)=[0]++List.replicate b.size 0++([0]++List.replicate r.size 0):=by
   rw[(J:b.size+r.size+2=1+b.size+(1+r.size)),←N8,←N8,←N8];rfl
  simp only[Fr.flat,Fr.size,K6,X2,E,Lj];rw[M];simp only[K0,K6,Ok]at hb G ⊢;rw[Nf _ _ J,(J:i-j.length=0),Oz,hb];simp only[X2,F];have A:(((j++(-1:Int)::(b.ends (i+1)++(0:Int)::(List.replicate r.size 0++g))).set (i+1+b.size) (-1)).set (i+1+b.size) (i:Int)).set i ((i+1+b.size:Nat):Int)
    = j++((i+b.size+1:Nat):Int)::(b.ends (i+1)++(i:Int)::(List.replicate r.size 0++g)):=by
   rw[List.set_set,Nf _ _ J,Nf _ _ J,(J:i+1+b.size-j.length=b.size+1),(J:i-j.length=0),O0,Oz,
    Nf _ _ (by rw[Fr.ends_len];exact J8 _),Fr.ends_len,Nb,Oz,(J:i+1+b.size=i+b.size+1)]
  rw[A,(J:i+1+b.size+1=i+b.size+2),G];simp only[Fr.ends,K6,K0];rw[(J:i+(b.size+r.size+2)=i+b.size+2+r.size)];simp[Nat.add_comm]
def zw3{f:Fr Lo}(w:f.wf Sr):X2 0 [] (List.replicate f.size 0) f.flat=f.ends 0:=by
 have h:=endsR_tree f 0 [] [] [] [] w rfl;simp only[Ls,Ok,X2]at h;exact h
def sh{f:Fr Lo}:∀{d:Nat} {rest:List Lo},f.wf Sr→Yv Sr d rest→Yv Sr d (f.flat++rest):=by
 induction f with
 |nil=>intro d rest _ h;exact h
 |op o r z =>
  intro d rest w h;simp only[Fr.flat,K6];unfold Yv;rw[w.1,J1 Ac,J1 Ac];exact⟨rfl,z w.2 h⟩
 |loop o b e r g j =>
  intro d rest w h;obtain⟨A,B,C,D⟩:=w;simp only[Fr.flat,K6,K0];unfold Yv;rw[A,J6 rfl];refine g C ?_;unfold Yv;rw[B,J1 Ac,J6 rfl];exact⟨J,j D h⟩
def endsR_len:∀(l:List Lo) (i:Nat) (st:List Nat) (g:List Int),(X2 i st g l).length=g.length
 |[],_,_,_=>rfl
 |o::l,i,st,g=>by
  unfold X2;split
  ·rw[endsR_len];simp
  ·split
   ·split<;>rw[endsR_len]<;>simp
   ·rw[endsR_len];simp
def Yf:List (Int×Int)→Int→List Lo→Int
 |_,s,[]=>s
 |st,s,o::l=>if o.kind=16 then Yf ((s,(o.imm.toNat:Int))::st) 1 l
  else if o.kind=17 then (match st with
   |[]=>Yf [] s l
   |(j,t)::g=>Yf g (min 1125899906842624 ((if 1125899906842624/t<s then 1125899906842624 else s*t)+j)) l)
  else Yf st (min 1125899906842624 (s+1)) l
def Fr.stp:Fr Lo→Nat
 |.nil=>0
 |.op _ r=>1+r.stp
 |.loop o b _ r=>o.imm.toNat*(1+b.stp)+r.stp
def zt0{a b:Nat}(h:1≤a):b≤a*b:=Nat.le_mul_of_pos_left _ h
def zhp{I:Nat}:∀(f:Fr Lo) (j:List Nat) (st:List (Int×Int)) (s:Nat) (g:List Lo),f.wf Sr→f.regs I j=true→s+f.stp≤1125899906842624→Yf st s (f.flat++g)=Yf st ((s+f.stp:Nat):Int) g
 |.nil,_,st,s,g,_,_,_=>by simp[Fr.flat,Fr.stp]
 |.op o r,j,st,s,g,w,z,A=>by
  have hk:=w.1;have K:¬o.kind=16:=λq=>Gn
  have L:¬o.kind=17:=λq=>Gn
  simp only[Fr.regs,J2]at z;simp only[Fr.stp]at A ⊢;simp only[Fr.flat,K6,Yf,K,L,M7];rw[(J:min (1125899906842624:Int) ((s:Int)+1)=((s+1:Nat):Int)),zhp r j st (s+1) g w.2 z.2.2.2.2.2.2 J]
  congr 1;omega
 |.loop o b e r,j,st,s,g,w,z,A=>by
  obtain⟨B,C,M,O⟩:=w;have D:o.kind=16:=by unfold Sr at B;split at B<;>first|assumption|(split at B<;>omega)
  have E:e.kind=17:=by
   unfold Sr at C;split at C
   ·omega
   ·split at C
    ·assumption
    ·omega
  simp only[Fr.regs,J2,Kb]at z;obtain⟨_,_,H,F,G⟩:=z;simp only[Fr.stp]at A ⊢;have P:=zt0 (b:=1+b.stp) H;simp only[Fr.flat,K6,K0,Yf,D,Lj];rw[show (1:Int)=((1:Nat):Int) from rfl,zhp b _ _ 1 _ M F J];simp only[Yf,E];rw[J1 (Ac:¬(17:Int)=16),J6 trivial];have Q:¬(1125899906842624/((o.imm.toNat:Nat):Int)<((1+b.stp:Nat):Int)):=by
   have R:(1+b.stp)*o.imm.toNat≤1125899906842624:=by rw[M3];omega
   have T:1+b.stp≤1125899906842624/o.imm.toNat:=(Nat.le_div_iff_mul_le H).2 R;have U:((1125899906842624/o.imm.toNat:Nat):Int)=1125899906842624/((o.imm.toNat:Nat):Int):=N
   omega
  rw[J1 Q];have hm:(((1+b.stp:Nat):Int)*((o.imm.toNat:Nat):Int))=((o.imm.toNat*(1+b.stp):Nat):Int):=by rw[M3];simp
  rw[hm,(J:min (1125899906842624:Int) (((o.imm.toNat*(1+b.stp):Nat):Int)+(s:Int))=((s+o.imm.toNat*(1+b.stp):Nat):Int)),zhp r j st _ g O G J]
  congr 1;omega
def wv{f:Fr Lo}(w:f.wf Sr)(j:f.regs g uY=true)(z:f.stp≤1125899906842624):Yf [] 0 f.flat=f.stp:=by
 have h:=zhp f uY [] 0 [] w j J;simp only[Ls,Yf,Kw]at h;exact h
def X5(b:Bf)(x:List UInt64):List UInt64:=x++List.replicate (b.size.toNat-x.length) 0
def Vu(bs:List Bf)(X:List (List UInt64))(n:Nat):List (List UInt64):=(List.range n).map λi=>X5 (Ps bs i) (X.getD i [])
def Sc(g:Int)(bs:List Bf)(X:List (List UInt64)):Ms:=⟨0,true,List.replicate g.toNat 0,Vu bs X bs.length,[]⟩
def x6(g:List Bf)(j:List (List UInt64))(n:Nat):(Vu g j n).length=n:=by simp[Vu]
def zeh(r:List UInt64)(x:Int)(v:UInt64):(Po r x v).length=r.length:=Gv
structure SameLen (s s':Ms):Prop where
 r:s'.r.length=s.r.length
 b:s'.bufs.map List.length=s.bufs.map List.length
 i:s'.i=s.i+1
 l:s'.l.length=s.l.length+1
 f:s'.first=s.first
def doR_len{o:Lo}{s j:Ms}(h:Xb o s=some j):SameLen s j:=by
 unfold Xb at h;split at h
 ·split at h
  ·cases h;exact⟨by simp[zeh],rfl,rfl,N,rfl⟩
  ·cases h
 ·split at h
  ·split at h
   ·rename_i z;cases h;refine⟨by simp[zeh],?_,rfl,N,rfl⟩;show (s.bufs.set _ _).map List.length=_;rw[Ll,Mj];refine N5 λA=>?_
    by_cases q:o.buf.toNat=A
    ·subst q;by_cases g:o.buf.toNat<s.bufs.length
     ·rw[J3 Be];simp[V8,J0,g]
     ·rw[Me Be,Me Be]
    ·rw[Jz q]
   ·cases h
  ·cases h;exact⟨by simp[zeh],rfl,rfl,N,rfl⟩
def zud{os:List Lo}{es:List Int}{s:Ms}(h:os[s.i]?=none):∀n,Rr os es n s=some s
 |0=>rfl
 |n+1=>by
  show (match Tk os es s with|none=>none|some g=>Rr os es n g)=_;have:Tk os es s=some s:=by unfold Tk;rw[h]
  rw[this];exact zud h n
def ends_at:∀(f:Fr Lo) (i j:Nat) (o:Lo),f.wf Sr→f.flat[j]?=some o→o.kind=17→∃k p,(f.ends i)[j]?=some ((i+k:Nat):Int)∧f.flat[k]?=some p∧p.kind=16
 |.nil,_,_,_,_,h,_=>by simp[Fr.flat]at h
 |.op a r,i,j,o,w,h,hk=>by
  have B:=w.1;have G:¬a.kind=17:=λq=>by simp[Sr,q]at B
  cases j with
  |zero=>simp[Fr.flat]at h;subst h;exact absurd hk G
  |succ j =>
   simp only[Fr.flat,Km]at h;obtain⟨k,p,z,g,A⟩:=ends_at r (i+1) j o w.2 h hk;exact⟨k+1,p,by simp only[Fr.ends,Km];rw[z];congr 2;omega,by simpa only[Fr.flat,Km] using g,A⟩
 |.loop a b e r,i,j,o,w,h,hk=>by
  obtain⟨C,L,H,I⟩:=w;have D:a.kind=16:=by unfold Sr at C;split at C<;>first|assumption|(split at C<;>omega)
  cases j with
  |zero=>simp[Fr.flat]at h;subst h;omega
  |succ j =>
   simp only[Fr.flat,Km]at h;simp only[Fr.ends,Km];by_cases F:j<b.size
   ·rw[J4 (by rw[Fr.flat_len];exact F)]at h;obtain⟨k,p,z,g,A⟩:=ends_at b (i+1) j o H h hk;have E:k<b.size:=by rw[←Fr.flat_len];exact (Jy.1 g).1
    refine⟨k+1,p,?_,?_,A⟩
    ·rw[J4 (by rw[Fr.ends_len];exact F),z];congr 2;omega
    ·simp only[Fr.flat,Km];rw[J4 (by rw[Fr.flat_len];exact E)];exact g
   ·rw[Kl (by rw[Fr.flat_len];omega),Fr.flat_len]at h;rw[Kl (by rw[Fr.ends_len];omega),Fr.ends_len];cases K:j-b.size with
    |zero =>
     refine⟨0,a,N,by simp[Fr.flat],D⟩
    |succ m =>
     rw[K]at h;simp only[Km]at h ⊢;obtain⟨k,p,z,g,A⟩:=ends_at r (i+b.size+2) m o I h hk;refine⟨k+b.size+2,p,by rw[z];congr 2;omega,?_,A⟩;simp only[Fr.flat,Km];rw[Kl (by rw[Fr.flat_len];omega),Fr.flat_len,(J:k+b.size+1-b.size=k+1),Km];exact g
noncomputable section
structure Pc where
 buf:Int
 at_:Int
 size:Int
def Pc.f(p:Pc):List LV:=[.i p.buf,.i p.at_,.i p.size]
def cK(d:Int)(n:UInt64):Lo:=⟨1,d,-1,-1,-1,-1,0,n⟩
def Ub(d a:Int):Lo:=⟨2,d,-1,a,-1,-1,0,0⟩
def Pv(k d a b:Int):Lo:=⟨k,d,-1,a,b,-1,0,0⟩
def S8(k d a g:Int):Lo:=⟨k,d,-1,a,-1,-1,0,iU g⟩
def S0(h l a b:Int):Lo:=⟨10,h,l,a,b,-1,0,0⟩
def Qy(k d g a b c:Int):Lo:=⟨k,d,g,a,b,c,0,0⟩
def R1(d c a b:Int):Lo:=⟨13,d,-1,a,b,c,0,0⟩
def P7(d:Int)(p:Pc)(i off:Int):Lo:=⟨14,d,-1,i,-1,-1,p.buf,iU (p.at_+off)⟩
def Qn(p:Pc)(i off b:Int):Lo:=⟨15,-1,-1,i,b,-1,p.buf,iU (p.at_+off)⟩
def Wr(d g:Int):Lo:=⟨16,d,-1,-1,-1,-1,0,iU g⟩
def Vi:Lo:=⟨17,-1,-1,-1,-1,-1,0,0⟩
def Kp(e:Nat)(z j:Pd):Prop:=z.length≤j.length∧∀(q:Nat) (g:LObj),q≠e→(∀A m k st,g≠LObj.dyn A m 8 k st)→z[q]?=some g→j[q]?=some g
def Kp.refl(e:Nat)(G:Pd):Kp e G G:=⟨J8 _,λ_ _ _ _ h=>h⟩
def Kp.trans{e:Nat}{a b c:Pd}(h:Kp e a b)(k:Kp e b c):Kp e a c:=⟨K8 h.1 k.1,λq ob h1 h2 h3=>k.2 q ob h1 h2 (h.2 q ob h1 h2 h3)⟩
def Kp.cells{e:Nat}{a b:Pd}(h:Kp e a b){q st:Nat}{l:List LV}(hq:q≠e)(hc:a[q]?=some (.cells l st)):b[q]?=some (.cells l st):=h.2 q _ hq (λ_ _ _ _ e=>Ar) hc
def Kp.app{e:Nat}{a b:Pd}(h:Kp e a b)(x:List LObj):Kp e a (b++x):=⟨by have:=h.1;simp;omega,λq ob h1 h2 h3=>by have h4:=h.2 q ob h1 h2 h3;rw[Ph (Jy.1 h4).1];exact h4⟩
def Kp.app'(e:Nat)(a:Pd)(x:List LObj):Kp e a (a++x):=(Kp.refl e a).app x
def P5(g:Pd)(e:Nat)(ops:List Lo)(deep:Int):Prop:=∃(st:Nat) (v:LV),g[e]?=some (.cells [v,.i deep] st)∧R5 0 g v 8 ops.length (Tu ops)
def R5.set_cells{b:Nat}{G:Pd}{v:LV}{n:Nat}{l:List LV}(h:R5 b G v j n l){q st:Nat}{c:List LV}{ob:LObj}(hq:G[q]?=some (.cells c st)):R5 b (G.set q ob) v j n l:=by
 obtain⟨h1,h2,h|⟨p,k,st,a,e,d⟩⟩:=h
 ·exact⟨h1,h2,.inl h⟩
 ·exact⟨h1,h2,.inr ⟨p,k,st,a,e,by rw[Jz (λq'=>by rw[q',d]at hq;cases hq)];exact d⟩⟩
def R5.row{b:Nat}{G:Pd}{v:LV}{esz n:Nat}{l:List LV}(h:R5 b G v esz n l){q:Nat}(e:v=.dy q j):∃R m k st,G[q]?=some (.dyn R m esz k st):=by
 obtain⟨_,_,⟨h,_⟩|⟨p,k,st,_,e2,d⟩⟩:=h
 ·rw[h]at e;cases e
 ·rw[e2]at e;cases e;exact⟨_,_,_,_,d⟩
def P5.app{G:Pd}{e:Nat}{ops:List Lo}{deep:Int}(h:P5 G e ops deep)(x:List LObj):P5 (G++x) e ops deep:=by
 obtain⟨st,v,h1,h2⟩:=h;exact⟨st,v,by rw[Ph (Jy.1 h1).1];exact h1,h2.push_end⟩
end
section
section made
variable {wk : Bool → Int} {a b S4 : Nat → Int} {sec : Nat → Bool} {done busy : List Nat} {iv : Nat → Hl} {ps : Bool → St} {cur base : Int} {n : Nat}
end made
end
section
def yw{α:Type}(k:α→Int)(l:List α):Prop:=l.Pairwise λx y=>k x≤k y
section sym
variable {α : Type} {k : α → Int}
def yw.last{l:List α}(h:yw k l){u z:α}(hu:u∈l)(hz:l.getLast?=some z):k u≤k z:=by
 obtain⟨ys,rfl⟩:=List.getLast?_eq_some_iff.1 hz;have:=List.pairwise_append.1 h;rcases Kx.1 hu with q|q
 ·exact this.2.2 u q z N
 ·rw[O1.1 q];exact Int.le_refl _
def yw.head{l:List α}(h:yw k l){u z:α}(hu:u∈l)(hz:l.head?=some z):k z≤k u:=by
 obtain⟨ys,rfl⟩:=List.head?_eq_some_iff.1 hz;have:=Nw.1 h;rcases Ka.1 hu with q|q
 ·rw[q];exact Int.le_refl _
 ·exact this.1 u q
def cr{l:List α}{u:α}(h:u∈l):∃j,l.getLast?=some j:=by
 cases g:l.getLast? with
 |none=>rw[List.getLast?_eq_none_iff]at g;subst g;cases h
 |some j=>exact⟨j,rfl⟩
def zz9{l:List α}{u:α}(h:u∈l):∃g,l.head?=some g:=by
 cases l with
 |nil=>cases h
 |cons g t=>exact⟨g,rfl⟩
def yi{z A B C:List α}(D:yw k (z++A))(E:yw k (B++C))(F:∀u w,z.getLast?=some u→C.head?=some w→k u≤k w)(G:∀u w,B.getLast?=some u→A.head?=some w→k u≤k w) :
  ∀u∈z++B,∀w∈A++C,k u≤k w:=by
 obtain⟨H,I,K⟩:=List.pairwise_append.1 D;obtain⟨L,M,O⟩:=List.pairwise_append.1 E;intro u hu w hw;rcases Kx.1 hu with hu|hu<;>rcases Kx.1 hw with hw|hw
 ·exact K u hu w hw
 ·obtain⟨P,g⟩:=cr hu;obtain⟨y,j⟩:=zz9 hw;exact Ot (yw.last H hu g) (Ot (F P y g j) (yw.head M hw j))
 ·obtain⟨P,g⟩:=cr hu;obtain⟨y,j⟩:=zz9 hw;exact Ot (yw.last L hu g) (Ot (G P y g j) (yw.head I hw j))
 ·exact O u hu w hw
end sym
end
def zyn(g:List Vr):U1 g (Xn 0 g) []=Tg g:=by
 unfold U1;cases hv:Tg g with
 |false=>rfl
 |true =>
  have D:=zef hv;have z:=startOs_len g 0;obtain⟨m,A,E,B⟩:=zey g 0 (jd g) rfl (by simp[jd]) (λF j=>J) (λF _ j=>by
   unfold gb jd;rw[J0,Lv,Vf j];rfl)
  rw[A];have hm:zi g m=true:=by
   unfold zi;rw[Li];intro i hi;simp[B i (Mf.1 hi)]
  have C:(Xn 0 g).length≤4096:=J
  simp[hm,C]
def Vn(l:List Pc)(n:Nat):Pc:=l.getD n ⟨0,0,0⟩
def mr(g:List Bf):Int :=
 if 32<g.length then 3 else if (g.any λb=>decide (65536<b.size))=true then 3 else if (g.any λb=>decide (b.size<1) || (decide (b.kind<1) || decide (3<b.kind)))=true then 2 else 0
def Yp(g:List Bf)(x:Pc):Bool:=decide (0≤x.buf)&&(decide (x.buf<g.length)&&(decide (1≤x.size)&&(decide (x.size≤32768)&&(decide (0≤x.at_)&&(decide (x.at_≤(Ps g x.buf.toNat).size)&&decide (x.size≤(Ps g x.buf.toNat).size-x.at_))))))
def js(g:List Bf)(v:Vr)(x:Pc):Bool :=
 Yp g x&&(decide (x.size=v.limbs)&&(!(decide ((Ps g x.buf.toNat).kind=1) && !Uq v)&&(!(decide ((Ps g x.buf.toNat).kind=2)&&Uq v)&&(v.sec==(Ps g x.buf.toNat).sec))))
def Yh(g:List Bf)(s:Bool)(x:Pc):Bool:=Yp g x&&(!decide ((Ps g x.buf.toNat).kind=1)&&((Ps g x.buf.toNat).sec==s))
def Wp(j:List Vr)(g:List Bf)(z:List Pc)(A B:Pc):Bool :=
 Tg j&&(decide (1≤g.length)&&(decide (z.length=j.length)&&(decide (mr g=0)&&(((List.range j.length).all λi=>js g (gv j i) (Vn z i))&&(Yh g false A&&Yh g true B)))))
def Yl(l:List Pc):List LV:=l.flatMap Pc.f
section
def P0:List Lo→Fr Lo
 |[]=>.nil
 |o::l=>.op o (P0 l)
def Fr.cat{α:Type}:Fr α→Fr α→Fr α
 |.nil,g=>g
 |.op o r,g=>.op o (r.cat g)
 |.loop o b e r,g=>.loop o b e (r.cat g)
def flat_frL:∀l:List Lo,(P0 l).flat=l
 |[]=>rfl
 |o::l=>by rw[P0,Fr.flat,flat_frL l]
def R4{j:Type}:∀f g:Fr j,(f.cat g).flat=f.flat++g.flat
 |.nil,g=>rfl
 |.op o r,g=>by rw[Fr.cat,Fr.flat,Fr.flat,R4 r g];rfl
 |.loop o b e r,g=>by rw[Fr.cat,Fr.flat,Fr.flat,R4 r g];simp
def stp_cat:∀f g:Fr Lo,(f.cat g).stp=f.stp+g.stp
 |.nil,g=>by simp[Fr.cat,Fr.stp]
 |.op o r,g=>Hk
 |.loop o b e r,g=>Hk
def Ym(l:List Lo):(P0 l).stp=l.length:=by
 induction l with
 |nil=>rfl
 |cons o l g=>rw[P0,Fr.stp,g,Kh];omega
section ex
variable {sz : Nat → Nat} {s : Fs}
def exZ_cat:∀(f g:Fr Lo) (s:Fs),W2 sz (f.cat g) s=(W2 sz f s).bind (W2 sz g)
 |.nil,g,s=>rfl
 |.op o r,g,s=>by
  rw[Fr.cat,W2,W2];cases Sz sz o s with
  |none=>rfl
  |some j=>exact exZ_cat r g j
 |.loop o b e r,g,s=>by
  rw[Fr.cat,W2,W2];cases itZ (W2 sz b) o.d.toNat o.imm.toNat 0 s with
  |none=>rfl
  |some j=>exact exZ_cat r g j
def Tx(sz:Nat→Nat)(f:Fr Lo)(s:Fs)(j:Fs→Prop):Prop:=∃g,W2 sz f s=some g∧j g
def Tx.nil{Q:Fs→Prop}(h:Q s):Tx sz .nil s Q:=⟨s,rfl,h⟩
def Tx.op{o:Lo}{r:Fr Lo}{s1:Fs}{Q:Fs→Prop}(h:Sz sz o s=some s1)(k:Tx sz r s1 Q):Tx sz (.op o r) s Q:=by
 obtain⟨s',h1,h2⟩:=k;exact⟨s',by rw[W2,h];exact h1,h2⟩
def Tx.cat{f g:Fr Lo}{Q R:Fs→Prop}(h:Tx sz f s R)(k:∀s',R s'→Tx sz g s' Q):Tx sz (f.cat g) s Q:=by
 obtain⟨s1,h1,h2⟩:=h;obtain⟨s2,h3,h4⟩:=k s1 h2;exact⟨s2,by rw[exZ_cat,h1];exact h3,h4⟩
def Tx.mono{f:Fr Lo}{Q R:Fs→Prop}(h:Tx sz f s R)(k:∀s',R s'→Q s'):Tx sz f s Q:=by
 obtain⟨s1,h1,h2⟩:=h;exact⟨s1,h1,k s1 h2⟩
def it_ex{f:Fs→Option Fs}{d:Nat}{z:Nat→Fs→Prop}:∀(n j:Nat) (s:Fs),z j s→(∀i s,i<j+n→z i s→∃g,f (s.put d (UInt64.ofNat i))=some g∧z (i+1) g)→∃g,itZ f d n j s=some g∧z (j+n) g
 |0,j,s,h,_=>⟨s,rfl,h⟩
 |n+1,j,s,h,k=>by
  obtain⟨A,B,C⟩:=k j s J h;obtain⟨D,E,F⟩:=it_ex n (j+1) A C λi s hi G=>k i s J G
  refine⟨D,?_,by rw[(J:j+(n+1)=j+1+n)];exact F⟩;show (match f (s.put d (UInt64.ofNat j)) with|none=>none|some g=>itZ f d n (j+1) g)=_;rw[B];exact E
def Tx.loop{o e:Lo}{b r:Fr Lo}{Q:Fs→Prop}(I:Nat→Fs→Prop)(h0:I 0 s)(h1:∀i s,i<o.imm.toNat→I i s→Tx sz b (s.put o.d.toNat (UInt64.ofNat i)) (I (i+1)))(h2:∀s',I o.imm.toNat s'→Tx sz r s' Q):Tx sz (.loop o b e r) s Q:=by
 obtain⟨s1,h3,h4⟩:=it_ex o.imm.toNat 0 s h0 λi s hi hI=>h1 i s J hI
 rw[Kw]at h4;obtain⟨s2,h5,h6⟩:=h2 s1 h4;exact⟨s2,by rw[W2,h3];exact h5,h6⟩
def gf(s:Fs)(d:Nat)(v:UInt64):T2 s (d:Int) v=s.put d v:=by unfold T2;rw[J6 J];rfl
def kz(s:Fs)(v:UInt64):T2 s (-1) v=s:=by unfold T2;rw[J1 J]
def je(s:Fs)(d:Nat):Wh s (d:Int)=s.r d:=by unfold Wh;rw[J1 J];rfl
def uu(s:Fs):Wh s (-1)=0:=by unfold Wh;rw[J6 J]
def zya{d:Nat}{v:UInt64}:Sz sz (cK d v) s=some (s.put d v):=by simp[Sz,cK,P6,gf,kz]
def az{d a:Nat}:Sz sz (Ub d a) s=some (s.put d (s.r a)):=by simp[Sz,Ub,P6,gf,kz,je]
def zsz{d a b:Nat}:Sz sz (Pv 3 d a b) s=some (s.put d (s.r a+s.r b)):=Gm
def opZ_sub{d a b:Nat}:Sz sz (Pv 4 d a b) s=some (s.put d (s.r a-s.r b)):=Gm
def opZ_or{d a b:Nat}:Sz sz (Pv 6 d a b) s=some (s.put d (s.r a ||| s.r b)):=Gm
def opZ_mul{h l a b:Nat}:Sz sz (S0 h l a b) s=some ((s.put h (V2 (s.r a) (s.r b))).put l (s.r a*s.r b)):=by simp[Sz,S0,P6,gf,je]
def zrs{d e a b c:Nat}:Sz sz (Qy 11 d e a b c) s=some ((s.put d (Pq (s.r a) (s.r b) (decide (s.r c%2=1))).1).put e (Qp (Pq (s.r a) (s.r b) (decide (s.r c%2=1))).2)):=by simp[Sz,Qy,P6,gf,je]
def opZ_sbb{d e a b c:Nat}:Sz sz (Qy 12 d e a b c) s=some ((s.put d (Rh (s.r a) (s.r b) (decide (s.r c%2=1))).1).put e (Qp (Rh (s.r a) (s.r b) (decide (s.r c%2=1))).2)):=by simp[Sz,Qy,P6,gf,je]
def zt7{d c a b:Nat}:Sz sz (R1 d c a b) s=some (s.put d (if s.r c%2=1 then s.r a else s.r b)):=by
 simp[Sz,R1,P6,gf,kz,je]
def opZ_ld{d i:Nat}{p:Pc}{b n:Nat}(hb:p.buf=(b:Int))(hn:(iU (p.at_+z)+s.r i).toNat=n)(g:n<sz b):Sz sz (P7 d p i z) s=some (s.put d (s.m b n)):=by
 simp[Sz,P7,gf,kz,je,hb,hn,g]
def opZ_ld0{d:Nat}{p:Pc}{b n:Nat}(hb:p.buf=(b:Int))(hn:(iU (p.at_+z)).toNat=n)(g:n<sz b):Sz sz (P7 d p (-1) z) s=some (s.put d (s.m b n)):=by
 simp[Sz,P7,gf,kz,uu,hb,hn,g]
def opZ_st{v i:Nat}{p:Pc}{b n:Nat}(hb:p.buf=(b:Int))(hn:(iU (p.at_+z)+s.r i).toNat=n)(g:n<sz b):Sz sz (Qn p i z v) s=some (s.sto b n (s.r v)):=by
 simp[Sz,Qn,kz,je,hb,hn,g]
def opZ_st0{v:Nat}{p:Pc}{b n:Nat}(hb:p.buf=(b:Int))(hn:(iU (p.at_+z)).toNat=n)(g:n<sz b):Sz sz (Qn p (-1) z v) s=some (s.sto b n (s.r v)):=by
 simp[Sz,Qn,kz,uu,je,hb,hn,g]
end ex
def P8(s:Fs)(d x:Nat)(v:UInt64):(s.put d v).r x=if x=d then v else s.r x:=rfl
def gq(s:Fs)(d:Nat)(v:UInt64):(s.put d v).m=s.m:=rfl
def Zu(s:Fs)(b n:Nat)(v:UInt64):(s.sto b n v).r=s.r:=rfl
def d9(s:Fs)(b n x y:Nat)(v:UInt64):(s.sto b n v).m x y=if x=b∧y=n then v else s.m x y:=rfl
def X9(s:Ms):Fs:=⟨λx=>s.r.getD x 0,λb n=>(s.bufs.getD b []).getD n 0⟩
def lf(s:Ms):Nat→Nat:=λb=>(s.bufs.getD b []).length
def Rep.abs(s:Ms)(h:s.r.length=64):Rep s.bufs.length (lf s) s (X9 s):=⟨h,λ_ _=>rfl,rfl,λ_ _=>rfl,λ_ _ _ _=>rfl⟩
end
def uj{d:Int}{v:UInt64}(h:0≤d∧d<z):R6 z Y (cK d v)=true:=by
 simp[R6,cK,Tb,Ss,Sw,Td,Yi,Yj,Re,h]
def zz5{d a:Int}(h:0≤d∧d<z)(ha:0≤a∧a<z):R6 z Y (Ub d a)=true:=by
 simp[R6,Ub,Tb,Ss,Sw,Td,Yi,Yj,Re,h,ha]
def zwc{k d a b:Int}(hk:3≤k∧k≤7)(h:0≤d∧d<z)(ha:0≤a∧a<z)(hb:0≤b∧b<z):R6 z Y (Pv k d a b)=true:=by
 have hc:k=3∨k=4∨k=5∨k=6∨k=7:=J
 rcases hc with rfl|rfl|rfl|rfl|rfl<;>simp[R6,Pv,Tb,Ss,Sw,Td,Yi,Yj,Re,h,ha,hb]
def zw9{d e a b:Int}(h:0≤d∧d<z)(he:0≤e∧e<z)(ha:0≤a∧a<z)(hb:0≤b∧b<z)(hn:d≠e):R6 z Y (S0 d e a b)=true:=by
 simp[R6,S0,Tb,Ss,Sw,Td,Yi,Yj,Re,h,ha,hb,he,hn]
def zvv{k d e a b c:Int}(hk:k=11∨k=12)(h:0≤d∧d<z)(he:0≤e∧e<z)(ha:0≤a∧a<z)(hb:0≤b∧b<z)(hc:0≤c∧c<z)(hn:d≠e):R6 z Y (Qy k d e a b c)=true:=by
 rcases hk with rfl|rfl<;>simp[R6,Qy,Tb,Ss,Sw,Td,Yi,Yj,Re,h,ha,hb,hc,he,hn]
def zvr{d c a b:Int}(h:0≤d∧d<z)(hc:0≤c∧c<z)(ha:0≤a∧a<z)(hb:0≤b∧b<z):R6 z Y (R1 d c a b)=true:=by
 simp[R6,R1,Tb,Ss,Sw,Td,Yi,Yj,Re,h,ha,hb,hc]
def zq0{d i:Int}{p:Pc}(h:0≤d∧d<z)(hi:i=-1∨0≤i∧i<z)(hb:0≤p.buf∧p.buf<Y.length)(hm:i=-1→iU (p.at_+B)<iU (Ps Y p.buf.toNat).size):R6 z Y (P7 d p i B)=true:=by
 rcases hi with rfl|hi
 ·simp[R6,P7,Tb,Ss,Sw,Td,Yi,Yj,Re,h,hb,hm rfl]
 ·have:i≠-1:=J
  simp[R6,P7,Tb,Ss,Sw,Td,Yi,Yj,Re,h,hb,hi,this]
def zps{v i:Int}{p:Pc}(h:0≤v∧v<z)(hi:i=-1∨0≤i∧i<z)(hb:0≤p.buf∧p.buf<Y.length)(hk:(Ps Y p.buf.toNat).kind≠1)(hm:i=-1→iU (p.at_+B)<iU (Ps Y p.buf.toNat).size):R6 z Y (Qn p i B v)=true:=by
 rcases hi with rfl|hi
 ·simp[R6,Qn,Tb,Ss,Sw,Td,Yi,Yj,Re,h,hb,hm rfl,hk]
 ·have:i≠-1:=J
  simp[R6,Qn,Tb,Ss,Sw,Td,Yi,Yj,Re,h,hb,hi,this,hk]
def S5(g:Int)(j:List Bf):List Int→List Lo→Prop
 |_,[]=>True
 |S,o::l=>R6 g j o=true∧(o.kind≠16∧o.kind≠17)∧(∀x∈Rb o,x∈S)∧S5 g j (Pu o++S) l
def mc(g:Int)(m:List Bool)(S:List Int):Prop:=(m.length:Int)=g∧∀x∈S,0≤x∧x<g∧Rm m x=true
def z9i{m:List Bool}{a x:Int}(ha:0≤a∧a<m.length)(g:0≤x):Rm (m.set a.toNat true) x=true↔x=a∨Rm m x=true:=by
 unfold Rm;rw[ay _ _ _ _ _ J];by_cases e:x.toNat=a.toNat
 ·rw[J6 e];simp;left;omega
 ·rw[J1 e];constructor
  ·exact .inr
  ·rintro (rfl|h)
   ·exact absurd rfl e
   ·exact h
def mc.fold{regs:Int}:∀(mk:List Int) (m:List Bool) (S:List Int),mc regs m S→(∀x∈mk,0≤x∧x<regs)→mc regs (mk.foldl (λm r=>m.set r.toNat true) m) (mk++S)
 |[],_,_,h,_=>h
 |a::mk,m,S,h,hr=>by
  have ha:=hr a (K2 ..);have h1:mc regs (m.set a.toNat true) (a::S):=by
   refine⟨by simpa using h.1,λx hx=>?_⟩;rcases Ka.1 hx with rfl|hx
   ·exact⟨ha.1,ha.2,(z9i ⟨ha.1,by rw[h.1];exact ha.2⟩ ha.1).2 (.inl rfl)⟩
   ·obtain⟨h1,h2,h3⟩:=h.2 x hx;exact⟨h1,h2,(z9i ⟨ha.1,by rw[h.1];exact ha.2⟩ h1).2 (.inr h3)⟩
  have h2:=mc.fold mk _ _ h1 λx hx=>hr x (Kf _ hx)
  refine⟨h2.1,λx hx=>h2.2 x ?_⟩;simp only[Kx,Ka]at hx ⊢;rcases hx with (hx|hx)|hx
  ·exact .inr (.inl hx)
  ·exact .inl hx
  ·exact .inr (.inr hx)
def oc{m:List Bool}{ls:List Int}{o:Lo}(B:R6 z Y o=true)(g:o.kind≠16)(j:o.kind≠17)(hm:∀x∈Pu o,¬x∈ls)(C:∀x∈Rb o,Rm m x=true) :
  Wx z Y m ls o=(0,(Pu o).foldl (λm r=>m.set r.toNat true) m,ls):=by
 unfold Wx;rw[J1 (by rw[B];decide),J1 j,J1,J1 (λq=>g q.1),J1 (λq=>g q.1),J1,J1 g]
 ·rw[La];rintro⟨x,A,h⟩;rw[C x A]at h;cases h
 ·rw[La];rintro⟨x,A,h⟩;exact hm x A Aw
def zve{o:Lo}(h:R6 z Y o=true):∀x∈Pu o,0≤x∧x<z:=by
 unfold R6 at h;simp only[J2,Kb]at h;obtain⟨⟨A,B⟩,d,e,_⟩:=h;have j:∀{x:Int},Tb z x true=true→0≤x∧x<z:=λh=>by unfold Tb at h;simpa using h
 intro x g;unfold Pu at g;split at g
 ·rename_i hk;have hd:Ss o.kind=true:=by rcases hk with h|h|h<;>rw[h]<;>rfl
  have he:Sw o.kind=true:=by rcases hk with h|h|h<;>rw[h]<;>rfl
  rw[hd]at d;rw[he]at e;simp at g;rcases g with rfl|rfl
  ·exact j d
  ·exact j e
 ·split at g
  ·cases g
  ·rename_i hk;have hd:Ss o.kind=true:=by simp[Ss];omega
   rw[hd]at d;simp at g;subst g;exact j d
def reckA(n r:Int):List Lo:=[cK (r+3) 3,S0 (r+1) r n (r+3),cK (r+3) 2,Pv 7 r r (r+3)]
def reckR(n r:Int):List Lo:=[S0 (r+1) (r+2) n r,Pv 4 (r+2) (r+3) (r+2),S0 (r+1) r r (r+2)]
def reckB(n r:Int)(i:Nat):List Lo:=(List.range i).flatMap λ_=>reckR n r
def reckL(n r:Int):List Lo:=reckA n r++(reckB n r 5++[cK (r+3) 0,Pv 4 r (r+3) r])

def iU1:iU 1=1:=by rw[qi];rfl
noncomputable section
def sumL(g a b:Int):List Lo:=[S0 (g+5) (g+6) a b,Qy 11 (g+6) (g+8) (g+6) (g+7) g,Qy 11 (g+6) (g+9) (g+6) (g+3) g,Pv 3 (g+5) (g+5) (g+8),Pv 3 (g+3) (g+5) (g+9)]
def topL(t:Pc)(k g:Int):List Lo:=[P7 (g+7) t (-1) k,Qy 11 (g+7) (g+8) (g+7) (g+3) g]
def Ri(d g:Int)(b:Fr Lo):Fr Lo:=if g<1 then .nil else .loop (Wr d g) b Vi .nil
def zcn(d g:Int)(b:Fr Lo):(Ri d g b).flat=if g<1 then [] else Wr d g::(b.flat++[Vi]):=by
 unfold Ri;split<;>rfl
def timesB(a t:Pc)(g j:Int):List Lo:=[P7 (g+4) a j 0,P7 (g+7) t j 0]++(sumL g (g+4) (g+2)++[Qn t j 0 (g+6)])
def timesT(a b t:Pc)(k g j i:Int):Fr Lo:=(P0 [P7 (g+2) b i 0,cK (g+3) 0]).cat ((Ri j k (P0 (timesB a t g j))).cat (P0 (topL t k g++[Qn t (-1) k (g+7),Qn t (-1) (k+1) (g+8)])))
def downB(n t:Pc)(g j:Int):List Lo:=[P7 (g+4) n j 1,P7 (g+7) t j 1]++(sumL g (g+10) (g+4)++[Qn t j 0 (g+6)])
def downT(n t:Pc)(k g j:Int):Fr Lo:=(P0 ([P7 (g+7) t (-1) 0,S0 (g+5) (g+10) (g+7) (g+1),P7 (g+4) n (-1) 0,cK (g+3) 0]++sumL g (g+10) (g+4))).cat
 ((Ri j (k-1) (P0 (downB n t g j))).cat (P0 (topL t k g++[Qn t (-1) (k-1) (g+7),P7 (g+7) t (-1) (k+1),Pv 3 (g+7) (g+7) (g+8),Qn t (-1) k (g+7)])))
def lessB(n t:Pc)(g j:Int):List Lo:=[P7 (g+7) t j 0,P7 (g+4) n j 0,Qy 12 (g+6) (g+8) (g+7) (g+4) (g+8)]
def lessT(n t:Pc)(k g j:Int)(x:List Lo):Fr Lo:=(P0 [cK (g+8) 0]).cat (Ri j k (P0 (lessB n t g j++x)))
def lastT(d n t:Pc)(k g j:Int):Fr Lo:=(lessT n t k g j []).cat ((P0 [P7 (g+7) t (-1) k,Qy 12 (g+6) (g+10) (g+7) g (g+8)]).cat (lessT n t k g j [R1 (g+6) (g+10) (g+7) (g+6),Qn d j 0 (g+6)]))
def Uo(p:Pc)(a D:Int):Fr Lo:=Ri D p.size (P0 [Qn p D 0 a])
def intoT(d a b n t:Pc)(k g j:Int):Fr Lo:=(P0 ([cK g 0,P7 (g+10) n (-1) 0]++reckL (g+10) (g+1))).cat ((Uo t g j).cat ((Ri j k ((timesT a b t k g (j+1) j).cat (downT n t k g (j+1)))).cat (lastT d n t k g j)))
end
section
def vl(f:Nat→UInt64):Nat→Nat
 |0=>0
 |n+1=>vl f n+(f n).toNat*18446744073709551616^n
def Vj(f:Nat→UInt64):∀n,vl f n<18446744073709551616^n
 |0=>Ii
 |n+1=>by
  have h:=Vj f n;have g:(f n).toNat+1≤18446744073709551616:=(f n).toNat_lt;have j:=Kq (18446744073709551616^n) g;rw[Ky,O5]at j;rw[vl,Ly,M3 (18446744073709551616^n)];omega
def Vz{f g:Nat→UInt64}:∀{n:Nat},(∀i,i<n→f i=g i)→vl f n=vl g n
 |0,_=>rfl
 |n+1,h=>by rw[vl,vl,Vz λi hi=>h i J,h n J]
def qv(f:Nat→UInt64):∀n,vl f (n+1)=(f 0).toNat+18446744073709551616*vl (λi=>f (i+1)) n
 |0=>Ii
 |n+1=>by
  rw[vl,qv f n,vl,Ly]
  grind
structure Pn where
 b:Nat
 a:Nat
 k:Nat
def Pn.p(p:Pn):Pc:=⟨p.b,p.a,p.k⟩
def pl(m:Nat→Nat→UInt64)(p:Pn)(i:Nat):UInt64:=m p.b (p.a+i)
def Dj(p q:Pn):Prop:=p.b≠q.b∨p.a+p.k≤q.a∨q.a+q.k≤p.a
def Qd(p:Pn)(m g:Nat→Nat→UInt64):Prop:=∀x y,¬(x=p.b∧p.a≤y∧y<p.a+p.k)→g x y=m x y
def Qd.trans{p:Pn}{m m' gg:Nat→Nat→UInt64}(h:Qd p m m')(k:Qd p m' gg):Qd p m gg:=λx y hn=>(k x y hn).trans (h x y hn)
def Qd.pl{p q:Pn}{m m':Nat→Nat→UInt64}(h:Qd p m m')(d:Dj p q){i:Nat}(hi:i<q.k):pl m' q i=pl m q i :=
 h _ _ λ⟨h1,h2,h3⟩=>by
  rcases d with d|d|d
  ·exact d h1.symm
  ·omega
  ·omega
def Qd.vl{p q:Pn}{m m':Nat→Nat→UInt64}(h:Qd p m m')(d:Dj p q){n:Nat}(hn:n≤q.k):vl (Go.Sv.pl m' q) n=vl (Go.Sv.pl m q) n:=Vz λ_ hi=>h.pl d J
def z6e{p:Pn}{s:Fs}{i:Nat}{v:UInt64}(h:i<p.k):Qd p s.m (s.sto p.b (p.a+i) v).m:=λx y hn=>by
 rw[d9,J1];rintro⟨rfl,rfl⟩;exact hn ⟨rfl,J,J⟩
def Zp(p:Pn)(s:Fs)(i j:Nat)(v:UInt64):pl (s.sto p.b (p.a+i) v).m p j=if j=i then v else pl s.m p j:=by
 unfold pl;rw[d9];by_cases h:j=i
 ·subst h;simp
 ·rw[J1 J,J1 h]
def Y5{j:Nat}(h:j<18446744073709551616):(UInt64.ofNat j).toNat=j:=Ab
def xz{p:Pn}{x:UInt64}(h:p.a+g+x.toNat<18446744073709551616):(iU (p.p.at_+(g:Int))+x).toNat=p.a+g+x.toNat:=by
 have:p.p.at_+(g:Int)=((p.a+g:Nat):Int):=Fk
 rw[this,Mr,Zr J,Ke Aw]
def qw{p:Pn}(h:p.a+g<18446744073709551616):(iU (p.p.at_+(g:Int))).toNat=p.a+g:=by
 have:p.p.at_+(g:Int)=((p.a+g:Nat):Int):=Fk
 rw[this,Zr h]
section ls
variable {sz : Nat → Nat} {s : Fs} {p : Pn}
def zr{d i off:Nat}(h:p.a+off+(s.r i).toNat<sz p.b)(g:sz p.b≤65536):Sz sz (P7 d p.p i off) s=some (s.put d (pl s.m p (off+(s.r i).toNat))):=by
 rw[opZ_ld (b:=p.b) (n:=p.a+off+(s.r i).toNat) rfl (xz J) h];unfold pl;rw[L7]
def ld_no{d off:Nat}(h:p.a+off<sz p.b)(g:sz p.b≤65536):Sz sz (P7 d p.p (-1) off) s=some (s.put d (pl s.m p off)):=by
 rw[opZ_ld0 (b:=p.b) (n:=p.a+off) rfl (qw J) h];rfl
def zer{v i off:Nat}(h:p.a+off+(s.r i).toNat<sz p.b)(g:sz p.b≤65536):Sz sz (Qn p.p i off v) s=some (s.sto p.b (p.a+(off+(s.r i).toNat)) (s.r v)):=by
 rw[opZ_st (b:=p.b) (n:=p.a+off+(s.r i).toNat) rfl (xz J) h,L7]
def st_no{v off:Nat}(h:p.a+off<sz p.b)(g:sz p.b≤65536):Sz sz (Qn p.p (-1) off v) s=some (s.sto p.b (p.a+off) (s.r v)):=by
 rw[opZ_st0 (b:=p.b) (n:=p.a+off) rfl (qw J) h]
end ls
end
variable{R vK:Pn}
section
def zul(b:Bool):(Qp b).toNat=b.toNat:=by cases b<;>rfl
def qj(b:Bool):decide (Qp b%2=1)=b:=by cases b<;>decide
def sum_val{x y w m:UInt64}{hi p q j:UInt64}{g:Bool}(B:hi=V2 x y)(C:T=x*y)(D:Pq T w false=(p,M))(E:Pq p m false=(q,g))(F:vg=hi+Qp M)(G:j=vg+Qp g) :
  q.toNat+18446744073709551616*j.toNat=x.toNat*y.toNat+w.toNat+m.toNat:=by
 have K:=zop x y;have z:=z8v T w false;have A:=z8v p m false;rw[D]at z;rw[E]at A;subst B C F G;simp only[Bool.toNat_false,M6]at z A;have L:x.toNat*y.toNat≤18446744073709551615*18446744073709551615:=Mb (by have:=x.toNat_lt;omega) (by have:=y.toNat_lt;omega);have O:=w.toNat_lt;have P:=m.toNat_lt;have Q:=q.toNat_lt;have R:M.toNat≤1:=by cases M<;>decide
 have d2:g.toNat≤1:=by cases g<;>decide
 have H:((V2 x y)+Qp M).toNat=(V2 x y).toNat+M.toNat:=by
  rw[Mr,zul,Ke];omega
 have I:((V2 x y)+Qp M+Qp g).toNat=(V2 x y).toNat+M.toNat+g.toNat:=by
  rw[Mr,H,zul,Ke];omega
 rw[I];omega
section mu
variable {sz : Nat → Nat}
def W6(f:Nat→UInt64)(n:Nat):vl f (n+1)=vl f n+(f n).toNat*18446744073709551616^n:=rfl
def Tx.lp{s:Fs}{d n:Nat}{b:Fr Lo}{Q:Fs→Prop}(gg:Nat→Fs→Prop)(h0:gg 0 s)(hn:n<18446744073709551616)(h1:∀i s,i<n→gg i s→Tx sz b (s.put d (UInt64.ofNat i)) (gg (i+1)))(h2:∀s',gg n s'→Q s'):Tx sz (Ri (d:Nat) (n:Nat) b) s Q:=by
 unfold Ri;have e:(Wr (d:Nat) (n:Nat)).imm.toNat=n:=Zr hn;split
 ·have:n=0:=J
  subst this;exact .nil (h2 _ h0)
 ·refine .loop gg h0 (λi s hi I=>?_) λs' I=>.nil (h2 _ ?_)
  ·rw[e]at hi;exact h1 i s hi I
  ·rw[e]at I;exact I
def Pn.in_(sz:Nat→Nat)(p:Pn):Prop:=p.a+p.k≤sz p.b∧sz p.b≤65536
def Yr(p q:Pn):Prop:=Dj p q∨(p.b=q.b∧p.a=q.a)
def Yr.sto{d n:Pn}{s:Fs}{v:UInt64}{i j:Nat}(h:Yr d n)(hj:j<d.k)(hi:i<n.k)(gg:i≠j):pl (s.sto d.b (d.a+j) v).m n i=pl s.m n i:=by
 rcases h with h|⟨e1,e2⟩
 ·exact (z6e hj).pl h hi
 ·unfold pl;rw[d9,J1 J]
def zsh{s:Fs}{D a:Nat}{p:Pn}(F:p.in_ sz)(ha:a≠D):Tx sz (Uo p.p a D) s λA=>(∀z,z≠D→A.r z=s.r z)∧Qd p s.m A.m∧∀i,i<p.k→pl A.m p i=s.r a:=by
 have e:Uo p.p a D=Ri (D:Nat) (p.k:Nat) (P0 [Qn p.p (D:Nat) ((0:Nat):Int) (a:Nat)]):=rfl;rw[e];obtain⟨K,G⟩:=F;refine .lp (λE j=>(∀z,z≠D→j.r z=s.r z)∧Qd p s.m j.m∧∀i,i<E→pl j.m p i=s.r a) ⟨λ_ _=>rfl,λ_ _ _=>rfl,λ_ h=>absurd h J⟩ J (λE j L ⟨B,H,I⟩=>?_) λ_ h=>h
 have g:((j.put D (UInt64.ofNat E)).r D).toNat=E:=by simp[P8];omega
 refine .op (zer Av G) (.nil ⟨λz C=>?_,?_,λi hi=>?_⟩)
 ·rw[Zu,P8,J1 C,B z C]
 ·exact H.trans (z6e (p:=p) (s:=j.put _ _) Av)
 ·rw[Zp,g];split
  ·rw[P8,J1 ha,B a ha]
  ·rw[gq];exact I i J
end mu
end
noncomputable section
def Z7(g:List Bf)(m:List Bool)(o:Lo):Bool:=if o.kind=16 then false else if o.kind=14 then (Ps g o.buf.toNat).sec else (Rb o).any (Rm m)
def mkS(g:List Bf)(o:Lo):List Int→List Bool×Bool→List Bool×Bool
 |[],s=>s
 |r::j,s=>mkS g o j (if (!Rm s.1 r&&Z7 g s.1 o)=true then (s.1.set r.toNat true,true) else s)
def cg(g:List Bf):List Lo→List Bool×Bool→List Bool×Bool
 |[],s=>s
 |o::j,s=>cg g j (mkS g o (Pu o) s)
def Ze(g:List Bf)(os:List Lo):Nat→List Bool→List Bool
 |0,m=>m
 |n+1,m=>if (cg g os (m,false)).2=true then Ze g os n (cg g os (m,false)).1 else (cg g os (m,false)).1
def Wg(m:List Bool):Nat:=m.countP (λb=>!b)
def uq{m:List Bool}{n:Nat}(h:n<m.length)(k:m.getD n false=false):Wg (m.set n true)+1=Wg m:=by
 induction m generalizing n with
 |nil=>simp at h
 |cons b m g =>
  cases n with
  |zero=>simp at k;subst k;simp[Wg]
  |succ n =>
   have:=g (n:=n) Aw (by simpa using k);simp only[Wg,O0,List.countP_cons]at *;omega
def zsq(g:List Bf)(o:Lo):∀(l:List Int) (s:List Bool×Bool),(mkS g o l s).1.length=s.1.length
 |[],_=>rfl
 |r::l,s=>by rw[mkS,zsq g o l];split<;>simp
def zqb(j:List Bf):∀(g:List Lo) (s:List Bool×Bool),(cg j g s).1.length=s.1.length
 |[],_=>rfl
 |o::g,s=>by rw[cg,zqb j g,zsq]
def Dn(s s':List Bool×Bool):Prop:=Wg s'.1≤Wg s.1∧(s'.2=true→s.2=true∨Wg s'.1<Wg s.1)
def Dn.trans{s s' gg:List Bool×Bool}(h:Dn s s')(k:Dn s' gg):Dn s gg:=by
 refine⟨by have:=h.1;have:=k.1;omega,λh2=>?_⟩;rcases k.2 h2 with q|q
 ·rcases h.2 q with q|q
  ·exact .inl q
  ·have:=k.1;exact .inr J
 ·have:=h.1;exact .inr J
def aw(g:List Bf)(o:Lo):∀(l:List Int) (s:List Bool×Bool),(∀x∈l,0≤x∧x<s.1.length)→Dn s (mkS g o l s)
 |[],s,_=>⟨J8 _,λh=>.inl h⟩
 |r::l,s,h=>by
  rw[mkS];obtain⟨z,A⟩:=h r (K2 ..);split
  ·rename_i hc;simp only[J2,L9]at hc;have B:=uq (m:=s.1) (n:=r.toNat) J hc.1;refine Dn.trans (s':=(s.1.set r.toNat true,true)) ⟨by simp only;omega,λ_=>.inr (by simp only;omega)⟩ (aw g o l _ λx j=>?_);simpa using h x (Kf _ j)
  ·exact aw g o l _ λx j=>h x (Kf _ j)
def zur(g:List Bf):∀(os:List Lo) (s:List Bool×Bool),(∀o∈os,∀x∈Pu o,0≤x∧x<s.1.length)→Dn s (cg g os s)
 |[],s,_=>⟨J8 _,λh=>.inl h⟩
 |o::os,s,h=>by
  rw[cg];refine Dn.trans (aw g o _ s λx j=>h o (K2 ..) x j) (zur g os _ λp z x j=>?_);rw[zsq];exact h p (Kf _ z) x j
def Zl(m:List Bool)(g:Int→Bool):Prop:=∀x,0≤x→Rm m x=true→g x=true
def Ws(g:List Bf)(j:Int→Bool)(o:Lo):Bool:=if o.kind=16 then false else if o.kind=14 then (Ps g o.buf.toNat).sec else (Rb o).any j
def ag(g:List Bf)(z:Int→Bool)(j:List Lo):Prop:=∀o∈j,Ws g z o=true→∀x∈Pu o,z x=true
def Zl.sec{bs:List Bf}{m:List Bool}{gg:Int→Bool}{o:Lo}(h:Zl m gg)(ht:∀x∈Rb o,0≤x)(k:Z7 bs m o=true):Ws bs gg o=true:=by
 unfold Z7 at k;unfold Ws;split
 ·rename_i q;rw[J6 q]at k;exact k
 ·rename_i q;rw[J1 q]at k;split
  ·rename_i q;rw[J6 q]at k;exact k
  ·rename_i q;rw[J1 q,La]at k;obtain⟨x,C,hk⟩:=k;exact La.2 ⟨x,C,h x (ht x C) hk⟩
def Zl.set{m:List Bool}{C:Int→Bool}{r:Int}(h:Zl m C)(h0:0≤r)(k:C r=true):Zl (m.set r.toNat true) C:=λx hx hm=>by
 by_cases e:x=r
 ·rw[e];exact k
 ·refine h x hx ?_;unfold Rm at hm ⊢;rw[J0,Jz J]at hm;rw[J0];exact hm
def cp{g:List Bf}{A:Int→Bool}{o:Lo}(j:∀x∈Rb o,0≤x)(hc:Ws g A o=true→∀x∈Pu o,A x=true):∀(l:List Int) (s:List Bool×Bool),(∀x∈l,x∈Pu o∧0≤x)→Zl s.1 A→Zl (mkS g o l s).1 A
 |[],_,_,h=>h
 |r::l,s,z,h=>by
  rw[mkS];refine cp j hc l _ (λx B=>z x (Kf _ B)) ?_;split
  ·rename_i q;simp only[J2]at q;obtain⟨C,D⟩:=z r (K2 ..);exact h.set D (hc (h.sec j q.2) r C)
  ·exact h
def zj1{z:List Bf}{C:Int→Bool}:∀(g:List Lo) (s:List Bool×Bool),(∀o∈g,∀x∈Rb o,0≤x)→(∀o∈g,∀x∈Pu o,0≤x)→ag z C g→Zl s.1 C→Zl (cg z g s).1 C
 |[],_,_,_,_,h=>h
 |o::g,s,A,hm,hc,h=>by
  rw[cg];exact zj1 g _ (λp j=>A p (Kf _ j)) (λp j=>hm p (Kf _ j)) (λp j=>hc p (Kf _ j)) (cp (A o (K2 ..)) (hc o (K2 ..)) _ _ (λx B=>⟨B,hm o (K2 ..) x B⟩) h)
def ztu{z:List Bf}{A:Int→Bool}{g:List Lo}(j:∀o∈g,∀x∈Rb o,0≤x)(hm:∀o∈g,∀x∈Pu o,0≤x)(hc:ag z A g):∀(n:Nat) (m:List Bool),Zl m A→Zl (Ze z g n m) A
 |0,_,h=>h
 |n+1,m,h=>by
  rw[Ze];split
  ·exact ztu j hm hc n _ (zj1 g _ j hm hc h)
  ·exact zj1 g _ j hm hc h
def zu1(g:List Bf)(j:List Lo):∀(n:Nat) (m:List Bool),(Ze g j n m).length=m.length
 |0,_=>rfl
 |n+1,m=>by rw[Ze];split<;>simp[zu1 g j n,zqb]
def Zl.none(n:Nat)(C:Int→Bool):Zl (List.replicate n false) C:=λx _ h=>by
 unfold Rm at h;rw[J0,List.getElem?_replicate]at h;split at h<;>simp at h
def ba(g:Int)(j:List Bf)(os:List Lo):List Bool:=Ze j os (g.toNat+1) (List.replicate g.toNat false)
def rq(g:List Bf)(j:Int→Bool)(o:Lo):Bool:=!((Re o.kind&&decide (0≤o.a))&&j o.a)&&(!(decide (o.kind=15)&&(j o.b && !(Ps g o.buf.toNat).sec)) && !(decide (o.kind=16)&&j o.d))
def nu{m:List Bool}{B:Int→Bool}{o:Lo}(C:Zl m B)(hb:o.kind=15→0≤o.b)(hd:o.kind=16→0≤o.d)(h:rq Y B o=true):rq Y (Rm m) o=true:=by
 unfold rq at h ⊢;simp only[J2,L9,Bool.and_eq_false_iff,Lk,Bool.not_eq_false']at h ⊢;have g:∀x,0≤x→B x=false→Rm m x=false:=λx D hc=>by
  cases q:Rm m x
  ·rfl
  ·rw[C x D q]at hc;exact absurd hc Ac
 obtain⟨z,j,A⟩:=h;refine⟨?_,?_,?_⟩
 ·by_cases q:0≤o.a
  ·rcases z with z|z
   ·exact .inl z
   ·exact .inr (g _ q z)
  ·exact .inl (.inr q)
 ·by_cases q:o.kind=15
  ·rcases j with j|j|j
   ·exact absurd q j
   ·exact .inr (.inl (g _ (hb q) j))
   ·exact .inr (.inr j)
  ·exact .inl q
 ·by_cases q:o.kind=16
  ·rcases A with A|A
   ·exact absurd q A
   ·exact .inr (g _ (hd q) A)
  ·exact .inl q
end
section
def Zd(ls:List Int)(m:List Bool):Prop:=∀x,0≤x→x<8→(Rm m x=true↔x∈ls)
def Gd(bs:List Bf)(S:List Int)(ls:List Int)(f:Fr Lo)(S':List Int):Prop :=
 ∀m,mc 64 m S→Zd ls m→∃z,mc 64 z S'∧Zd ls z∧(∀x,8≤x→Rm m x=true→Rm z x=true)∧∀i j,gy 64 bs i m ls (f.flat++j)=gy 64 bs (i+f.flat.length) z ls j
def zpv{x:Int}(z:0≤x):∀(j:List Int) (m:List Bool),(∀y∈j,0≤y∧y<m.length)→Rm m x=true→Rm (j.foldl (λm r=>m.set r.toNat true) m) x=true
 |[],_,_,h=>h
 |a::j,m,A,h=>by
  have ha:=A a (K2 ..);exact zpv z j _ (λy B=>by rw[Mj];exact A y (Kf _ B)) ((z9i ⟨ha.1,ha.2⟩ z).2 (.inr h))
section gd
variable {bs : List Bf} {S S' S2 ls : List Int} {f g : Fr Lo}
def mc.sub{regs:Int}{m:List Bool}(h:mc regs m S)(k:∀x∈S',x∈S):mc regs m S':=⟨h.1,λx hx=>h.2 x (k x hx)⟩
def Gd.mono(h:Gd bs S ls f S')(k1:∀x∈S,x∈S2)(k2:∀x∈vR,x∈S'):Gd bs S2 ls f vR:=λm hm hi=>by
 obtain⟨m',h1,h2,hk,h3⟩:=h m (hm.sub k1) hi;exact⟨m',h1.sub k2,h2,hk,h3⟩
def Gd.cat(h:Gd bs S ls f S')(k:Gd bs S' ls g S2):Gd bs S ls (f.cat g) S2:=λm hm hi=>by
 obtain⟨m1,h1,h2,ha,h3⟩:=h m hm hi;obtain⟨m2,k1,k2,kb,k3⟩:=k m1 h1 h2;refine⟨m2,k1,k2,λx hx hq=>kb x hx (ha x hx hq),λi rest=>?_⟩;rw[R4,K0,h3,k3,J9,L7]
def Gd.nil:Gd bs S ls .nil S:=λm hm hi=>⟨m,hm,hi,λ_ _ h=>h,λ_ _=>rfl⟩
def Zd.fold:∀(mk:List Int) (m:List Bool),m.length=64→Zd ls m→(∀x∈mk,8≤x∧x<64)→Zd ls (mk.foldl (λm r=>m.set r.toNat true) m)
 |[],_,_,h,_=>h
 |a::mk,m,hl,h,hr=>by
  have ha:=hr a (K2 ..);refine Zd.fold mk _ (by simpa using hl) (λx h0 h8=>?_) λx hx=>hr x (Kf _ hx)
  rw[←h x h0 h8,z9i ⟨J,J⟩ h0];constructor
  ·rintro (q|q)
   ·omega
   ·exact q
  ·exact .inr
def Gd.L(gD:∀x∈ls,x<8):∀{l:List Lo} {S:List Int},S5 64 bs S l→(∀o∈l,∀x∈Pu o,8≤x)→Gd bs S ls (P0 l) ((l.flatMap Pu)++S)
 |[],S,_,_=>λm hm hi=>⟨m,Gw,hi,λ_ _ h=>h,λ_ _=>rfl⟩
 |o::l,S,h,hk=>λm hm hi=>by
  obtain⟨h1,⟨h2,h3⟩,h4,h5⟩:=h;have gg:=zve h1;have gF:=hk o (K2 ..);have hs:=oc (m:=m) (ls:=ls) h1 h2 h3 (λx hx q=>by have:=gD x q;have:=gF x hx;omega) (λx hx=>(hm.2 x (h4 x hx)).2.2);have gG:=hm.fold (Pu o) m S gg;have gH:=hi.fold (Pu o) m (by have:=hm.1;omega) λx hx=>⟨gF x hx,(gg x hx).2⟩
  obtain⟨m',k1,k2,kk,k3⟩:=Gd.L gD h5 (λp hp=>hk p (Kf _ hp)) _ gG gH;refine⟨m',k1.sub λx hx=>?_,k2,λx hx hq=>kk x hx (zpv J _ _ (λy hy=>by have:=gg y hy;have:=hm.1;omega) hq),λi rest=>?_⟩
  ·simp only[Nj,Kx]at hx ⊢;rcases hx with (hx|hx)|hx
   ·exact .inr (.inl hx)
   ·exact .inl hx
   ·exact .inr (.inr hx)
  ·rw[P0,Fr.flat,K6,gy,hs];dsimp only;rw[J6 rfl,k3,Kh]
   congr 1;omega
def jn{d:Int}(h:0≤d∧d<64)(C:1≤z∧z≤1048576):R6 64 bs (Wr d z)=true:=by
 have j:(iU z).toNat=z.toNat:=by
  obtain⟨n,rfl⟩:=J5 (J:0≤z);rw[Zr J];rfl
 have A:(1:UInt64)≤iU z:=by rw[L4,j];show 1≤_;omega
 have B:iU z≤(1048576:UInt64):=by rw[L4,j];show _≤1048576;omega
 simp[R6,Wr,Tb,Ss,Sw,Td,Yi,Yj,Re,h,A,B]
def fields_En:R6 64 bs Vi=true:=by simp[R6,Vi,Tb,Ss,Sw,Td,Yi,Yj,Re]
def zk8{m:List Bool}{a x:Int}(ha:0≤a∧a<m.length)(j:0≤x):Rm (m.set a.toNat false) x=true↔x≠a∧Rm m x=true:=by
 unfold Rm;rw[ay _ _ _ _ _ J];by_cases e:x.toNat=a.toNat
 ·rw[J6 e];simp;intro h;omega
 ·rw[J1 e];constructor
  ·exact λh=>⟨by rintro rfl;exact e rfl,h⟩
  ·exact λh=>h.2
def Gd.loop{d times:Int}{b r:Fr Lo}{S3:List Int}(gM:ls.length<8)(hd:0≤d∧d<8)(hn:¬d∈ls)(ht:1≤times∧times≤1048576)(hb:Gd bs (d::S) (ls++[d]) b S')(hs:∀x∈S2,x∈S'∧x≠d)(hr:Gd bs S2 ls r S3):Gd bs S ls (.loop (Wr d times) b Vi r) S3:=λm hm hi=>by
 have gL:m.length=64:=by have:=hm.1;omega
 have gg:Rm m d=false:=by
  cases q:Rm m d
  ·rfl
  ·exact absurd ((hi d hd.1 hd.2).1 q) hn
 have gD:Wx 64 bs m ls (Wr d times)=(0,m.set d.toNat true,ls++[d]):=by
  unfold Wx;rw[J1 (by rw[jn J ht];decide),J1 (by simp[Wr]),J1,J1 (by simp[Wr,gg]),J1 (by simp[Wr];omega),J1 (by simp[Wr,Rb])]
  ·simp[Wr,Pu]
  ·simp[Wr,Pu,hn]
 have gF:mc 64 (m.set d.toNat true) (d::S):=by
  have:=hm.fold [d] m S (λx hx=>by simp at hx;omega);simpa using this
 have gG:Zd (ls++[d]) (m.set d.toNat true):=λx h0 h8=>by
  rw[z9i ⟨J,J⟩ h0,hi x h0 h8];simp[or_comm]
 obtain⟨m2,a1,a2,ak,a3⟩:=hb _ gF gG;have gO:m2.length=64:=by have:=a1.1;omega
 have gH:mc 64 (m2.set d.toNat false) S2:=⟨by simpa using a1.1,λx hx=>by
  obtain⟨h1,h2⟩:=hs x hx;obtain⟨b1,b2,b3⟩:=a1.2 x h1;exact⟨b1,b2,(zk8 ⟨J,J⟩ b1).2 ⟨h2,b3⟩⟩⟩
 have gI:Zd ls (m2.set d.toNat false):=λx h0 h8=>by
  rw[zk8 ⟨J,J⟩ h0,a2 x h0 h8];simp only[Kx,O1];constructor
  ·rintro⟨h1,h2|h2⟩
   ·exact h2
   ·exact absurd h2 h1
  ·exact λh=>⟨λq=>hn (q ▸ h),.inl h⟩
 obtain⟨m4,c1,c2,ck,c3⟩:=hr _ gH gI;refine⟨m4,c1,c2,λx hx hq=>ck x hx ((zk8 ⟨J,J⟩ J).2 ⟨J,ak x hx ((z9i ⟨J,J⟩ J).2 (.inr hq))⟩),λi rest=>?_⟩;have gK:Wx 64 bs m2 (ls++[d]) Vi=(0,m2.set d.toNat false,ls):=by
  unfold Wx;rw[J1 (by rw[fields_En];decide),J6 (by rfl)];simp
 rw[Fr.flat,K6,gy,gD];dsimp only;rw[J6 rfl,K0,a3,K6,gy,gK];dsimp only;rw[J6 rfl,c3,Kh,J9,Kh]
 congr 1;omega
def Gd.lp{d times:Int}{b:Fr Lo}(gg:ls.length<8)(hd:0≤d∧d<8)(hn:¬d∈ls)(gD:¬d∈S)(ht:times≤1048576)(hb:Gd bs (d::S) (ls++[d]) b S')(hs:∀x∈S,x∈S'):Gd bs S ls (Ri d times b) S:=by
 unfold Ri;split
 ·exact .nil
 ·exact .loop gg hd hn J hb (λx hx=>⟨hs x hx,λq=>gD (q ▸ hx)⟩) .nil
def chkR_Gd(A:bs.length≤32)(B:f.flat.length≤65536)(j:∀b∈bs,1≤b.size∧b.size≤65536∧1≤b.kind∧b.kind≤3)(h:Gd bs [] [] f S'):Tf 64 bs f.flat=((f.flat.length:Int),0):=by
 unfold Tf;rw[J1 J,J1,J1 J,J1]
 ·obtain⟨C,_,_,_,z⟩:=h (List.replicate 64 false) ⟨N,N⟩ (λx D E=>by
   unfold Rm;rw[J0,List.getElem?_replicate];split<;>simp)
  have:=z 0 [];rw[Ls]at this;rw[show (64:Int).toNat=64 from rfl,this,gy,J6 rfl,Kw]
 ·rw[La];rintro⟨b,hb,hk⟩;have:=j b hb;simp at hk;omega
 ·rw[La];rintro⟨b,hb,hk⟩;have:=j b hb;simp at hk;omega
end gd
end
section
section w
variable {bs : List Bf} {S : List Int} {l : List Lo}
def zxs{d:Int}{v:UInt64}(h:0≤d∧d<64)(k:S5 64 bs (d::S) l):S5 64 bs S (cK d v::l):=⟨uj h,by simp[cK],by simp[Rb,cK],k⟩
def okL_Mul{d e a b:Int}(h:0≤d∧d<64)(he:0≤e∧e<64)(ha:0≤a∧a<64)(hb:0≤b∧b<64)(hn:d≠e)(g:a∈S)(j:b∈S)(k:S5 64 bs (d::e::S) l):S5 64 bs S (S0 d e a b::l) :=
 ⟨zw9 h he ha hb hn,by simp[S0],by simp[Rb,S0,g,j],k⟩
def zk0{d a b:Int}(hk:3≤z∧z≤7)(h:0≤d∧d<64)(ha:0≤a∧a<64)(hb:0≤b∧b<64)(j:a∈S)(A:b∈S)(k:S5 64 bs (d::S) l):S5 64 bs S (Pv z d a b::l):=by
 refine⟨zwc hk h ha hb,Ha,λx g=>?_,?_⟩
 ·unfold Rb Pv at g;simp only at g;rw[J1 J,J6 J]at g;simp at g;rcases g with rfl|rfl
  ·exact j
  ·exact A
 ·have:Pu (Pv z d a b)=[d]:=by unfold Pu Pv;simp only;rw[J1 J,J1 J]
  rw[this];exact k
def zsv{d e a b c:Int}(hk:z=11∨z=12)(h:0≤d∧d<64)(he:0≤e∧e<64)(ha:0≤a∧a<64)(hb:0≤b∧b<64)(hc:0≤c∧c<64)(hn:d≠e)(g:a∈S)(j:b∈S)(A:c∈S)(k:S5 64 bs (d::e::S) l):S5 64 bs S (Qy z d e a b c::l):=by
 refine⟨zvv hk h he ha hb hc hn,by rcases hk with rfl|rfl<;>simp[Qy],?_,?_⟩
 ·rcases hk with rfl|rfl<;>simp[Rb,Qy,g,j,A]
 ·rcases hk with rfl|rfl<;>exact k
def zsx{d c a b:Int}(h:0≤d∧d<64)(hc:0≤c∧c<64)(ha:0≤a∧a<64)(hb:0≤b∧b<64)(g:c∈S)(j:a∈S)(z:b∈S)(k:S5 64 bs (d::S) l):S5 64 bs S (R1 d c a b::l) :=
 ⟨zvr h hc ha hb,by simp[R1],by simp[Rb,R1,j,z,g],k⟩
structure Bp (bs:List Bf) (p:Pn):Prop where
 b:p.b<bs.length
 s:((p.a+p.k:Nat):Int)≤(Ps bs p.b).size
 z:(Ps bs p.b).size≤65536
def Bw(bs:List Bf)(p:Pn):Prop:=(Ps bs p.b).kind≠1
def Bp.at{p:Pn}(h:Bp bs p){off:Int}(h0:0≤off)(hk:off<p.k):iU (p.p.at_+off)<iU (Ps bs p.p.buf.toNat).size:=by
 obtain⟨o,rfl⟩:=J5 h0;have hs:=h.s;have hz:=h.z;obtain⟨z,gg⟩:=J5 (J:0≤(Ps bs p.b).size);have e1:p.p.buf.toNat=p.b:=rfl;rw[e1,gg,Lq,Zr J,qw J];omega
def zu{d i:Int}{p:Pn}(g:Bp bs p)(h:0≤d∧d<64)(hi:0≤i∧i<64)(j:i∈S)(k:S5 64 bs (d::S) l):S5 64 bs S (P7 d p.p i z::l):=by
 refine⟨zq0 h (.inr hi) ⟨Fk,Cq⟩ (λq=>J),by simp[P7],?_,k⟩;have:i≠-1:=J
 simp[Rb,P7,this,j]
def zzb{d:Int}{p:Pn}(g:Bp bs p)(h:0≤d∧d<64)(j:0≤z)(hk:z<p.k)(k:S5 64 bs (d::S) l):S5 64 bs S (P7 d p.p (-1) z::l):=by
 refine⟨zq0 h (.inl rfl) ⟨Fk,Cq⟩ (λ_=>g.at j hk),by simp[P7],by simp[Rb,P7],k⟩
def zak{v i:Int}{p:Pn}(g:Bp bs p)(hw:Bw bs p)(h:0≤v∧v<64)(hi:0≤i∧i<64)(j:i∈S)(A:v∈S)(k:S5 64 bs S l):S5 64 bs S (Qn p.p i z v::l):=by
 refine⟨zps h (.inr hi) ⟨Fk,Cq⟩ hw (λq=>J),by simp[Qn],?_,k⟩;have:i≠-1:=J
 simp[Rb,Qn,this,j,A]
def okL_StN{v:Int}{p:Pn}(g:Bp bs p)(hw:Bw bs p)(h:0≤v∧v<64)(j:0≤z)(hk:z<p.k)(A:v∈S)(k:S5 64 bs S l):S5 64 bs S (Qn p.p (-1) z v::l):=by
 refine⟨zps h (.inl rfl) ⟨Fk,Cq⟩ hw (λ_=>g.at j hk),by simp[Qn],by simp[Rb,Qn,A],k⟩
def okL_nil:S5 64 bs S []:=trivial
end w
section into
variable {bs : List Bf} {ls : List Int} {R D : Int} {d a b n t : Pn} {k : Int}
def gd_fill{x:Int}{S:List Int}{p:Pn}(C:0≤x∧x<64)(E:x∈S)(F:0≤D∧D<8)(hn:¬D∈ls)(j:¬D∈S)(z:ls.length<8)(A:∀x∈ls,x<8)(B:Bp bs p)(wp:Bw bs p):Gd bs S ls (Uo p.p x D) S:=by
 have G:(p.k:Int)≤65536:=by have:=B.s;have:=B.z;omega
 unfold Uo;have h:S5 64 bs (D::S) [Qn p.p D 0 x]:=zak B wp C J N Ax okL_nil;refine Gd.lp z F hn j (by show (p.k:Int)≤_;omega) (Gd.L ?_ h ?_) ?_
 ·intro y g;rcases Kx.1 g with g|g
  ·exact A y g
  ·simp at g;omega
 ·simp[Pu,Qn]
 ·intro y g;exact Ln _ (Kf _ g)
end into
end
section
def rgR(R x:Int):Prop:=x=-1∨(R≤x∧x<R+14)
structure OpG (nb:Nat) (R lo hi:Int) (o:Lo):Prop where
 k:o.kind≠16∧o.kind≠17
 d:rgR R o.d
 e:rgR R o.e
 a:rgR R o.a∨(lo≤o.a∧o.a≤hi)
 b:rgR R o.b
 c:rgR R o.c
 m:(o.kind=14∨o.kind=15)→o.a=-1∨(lo≤o.a∧o.a≤hi)
 f:o.buf.toNat<nb
def LpG(g:Int)(o:Lo):Prop:=o.kind=16∧o.d=g∧o.e=-1∧o.a=-1∧o.b=-1∧o.c=-1∧1≤o.imm.toNat
section al
variable {nb : Nat} {R lo hi : Int}
def C16(x:Int):Bool:=decide (16≤x)
end al
end
section
section into
variable {nb : Nat} {R lo hi D k : Int} {d a b n t : Pn}
def rg(g:Int)(h:0≤g∧g<14):rgR R (R+g):=.inr J
end into
noncomputable def gn:Nat→Int→Fr Lo→Fr Lo
 |0,_,f=>f
 |n+1,i,f=>.loop (Wr i 1) (gn n (i+1) f) Vi .nil
def R0:Nat→Int→List Lo
 |0,_=>[]
 |n+1,i=>⟨16,i,-1,-1,-1,-1,0,1⟩::R0 n (i+1)
def wrap_flat:∀(n:Nat) (i:Int) (f:Fr Lo),(gn n i f).flat=R0 n i++(f.flat++List.replicate n Vi)
 |0,_,f=>by simp[gn,R0]
 |n+1,i,f=>by
  rw[gn,Fr.flat,wrap_flat n,R0,List.replicate_succ'];simp[Fr.flat,Wr,iU1]
def fy{B:List Bf}:∀(n:Nat) (i:Int) (j:List Int) (f:Fr Lo),0≤i→i+n≤7→(j.length:Int)=i→(∀x∈j,x<i)→(∀g:List Int,(g.length:Int)=i+n→(∀x∈g,x<i+n)→Gd B [] g f [])→Gd B [] j (gn n i f) []
 |0,i,j,f,_,_,C,A,h=>by simpa [gn] using h j Cp Cv
 |n+1,i,j,f,F,G,C,A,h=>by
  refine .loop J J (λq=>by have:=A _ q;omega) J (Gd.mono (fy n (i+1) (j++[i]) f J J Ab (λx z=>?_) λg H E=>?_) N N) (S':=[]) N .nil
  ·rcases Kx.1 z with q|q
   ·have:=A x q;omega
   ·simp at q;omega
  ·exact h g J λx z=>by have:=E x z;omega
def cj{sz:Nat→Nat}{A:Fs→Prop}:∀(n:Nat) (i:Nat) (f:Fr Lo) (s:Fs),(∀g:Fs,g.m=s.m→Tx sz f g A)→Tx sz (gn n i f) s A
 |0,_,f,s,h=>h s rfl
 |n+1,i,f,s,h=>by
  have z:(Wr (i:Int) 1).imm.toNat=1:=by simp[Wr,iU1]
  refine .loop (I:=λB g=>if B=0 then g=s else A g) rfl (λB g C j=>?_) λg j=>?_
  ·rw[z]at C;have:B=0:=J
   subst this;rw[J6 rfl]at j;subst j;exact (cj n (i+1) f _ λE F=>h E (by rw[F];rfl)).mono λH G=>Ev
  ·rw[z,J1 J]at j;exact .nil j
end
def run_all{f:Fr Lo}{bs:List Bf}{X:List (List UInt64)}{M:Fs→Prop}(A:f.wf Sr)(z:f.regs bs.length []=true)(B:f.costZ≤800000000)
  (F:Tx (lf (Sc 64 bs X)) f (X9 (Sc 64 bs X)) M) :
  ∃E j t,E≤800000000∧Rr f.flat (f.ends 0) E (Sc 64 bs X)=some j∧j.i=f.flat.length∧Rep bs.length (lf (Sc 64 bs X)) j t∧M t∧j.l.length≤f.costZ:=by
 have C:(Sc 64 bs X).r.length=64:=Ek
 have g:=Rep.abs (Sc 64 bs X) C;have D:(Sc 64 bs X).bufs.length=bs.length:=by simp[Sc,Vu]
 rw[D]at g;obtain⟨t,G,H⟩:=F;obtain⟨E,j,I,K,_,L,O,P⟩:=zhm (os:=f.flat) (es:=f.ends 0) f 0 [] [] [] (Sc 64 bs X) (X9 (Sc 64 bs X)) t A z N N rfl rfl g G;refine⟨E,j,t,J,I,by rw[K,Fr.flat_len,Kw],L,H,?_⟩;have:(Sc 64 bs X).l.length=0:=rfl;omega
def costZ_le:∀f:Fr Lo,f.costZ≤2*f.stp
 |.nil=>by simp[Fr.costZ]
 |.op _ r=>by have:=costZ_le r;rw[Fr.costZ,Fr.stp];omega
 |.loop o b _ r=>by
  have j:=costZ_le b;have z:=costZ_le r;have g:o.imm.toNat*(b.costZ+2)≤o.imm.toNat*(2*(1+b.stp)):=Om _ J;rw[Nat.mul_left_comm]at g;rw[Fr.costZ,Fr.stp];omega
noncomputable def zyy(l:List UInt64)(i:Nat):UInt64:=if l=[] then 0 else l.getD (i%l.length) 0*iU (1+((i/l.length:Nat):Int)*2)+iU ((i/l.length:Nat):Int)
noncomputable def zt8(l:List UInt64)(n:Nat):List UInt64:=(List.range n).map (zyy l)
def zin(l:List UInt64)(n:Nat):(zt8 l n).length=n:=by simp[zt8]
section
def stp_lp(d g:Int)(b:Fr Lo)(j:g≤1000000):(Ri d g b).stp≤g.toNat*(1+b.stp):=by
 unfold Ri;split
 ·simp[Fr.stp]
 ·obtain⟨n,rfl⟩:=J5 (J:0≤g);rw[Fr.stp,Fr.stp];have:(Wr d (n:Int)).imm.toNat=n:=Zr J;rw[this];simp
section facts
variable {k y e r d : Nat}
def wrap_stp:∀(n:Nat) (i:Int) (f:Fr Lo),(gn n i f).stp=n+f.stp
 |0,_,_=>by simp[gn]
 |n+1,i,f=>by
  rw[gn,Fr.stp,Fr.stp,wrap_stp n];have:(Wr i 1).imm.toNat=1:=by simp[Wr,iU1]
  rw[this];omega
end facts
end
def vl_get:∀{n:Nat} {f:Nat→UInt64} {l:List UInt64},l.length≤n→(∀i,i<n→f i=l.getD i 0)→vl f n=val l
 |0,f,l,h,_=>by
  have:l=[]:=Kn J;subst this;simp[vl,val]
 |n+1,f,l,h,g=>by
  rw[qv];cases l with
  |nil =>
   have j:=g 0 J;have z:=vl_get (n:=n) (f:=λi=>f (i+1)) (l:=[]) N (λi hi=>by have:=g (i+1) J;simpa using this);rw[z,j];simp[val]
  |cons x l =>
   have j:=g 0 J;have z:=vl_get (n:=n) (f:=λi=>f (i+1)) (l:=l) (by simp at h;omega) (λi hi=>by have:=g (i+1) J;simpa using this);rw[z,j];simp[val]
section
section facts
variable {k : Nat}
end facts
end
section
def Uf(x:Int):Bool:=decide (x<16)
def zkw(x:Int):Bool:=decide (x<0) || decide (16≤x)
def X4(o:Lo):Bool :=
 if o.kind=16 then decide (0≤o.d)&&decide (o.d<16)
 else if o.kind=17 then true
 else if o.kind=14∨o.kind=15 then Uf o.a&&(zkw o.d&&zkw o.e)
 else (zkw o.d&&zkw o.e) || (Uf o.a&&(Uf o.b&&Uf o.c))
structure Lock (s t:Ms):Prop where
 i:s.i=t.i
 first:s.first=t.first
 l:s.l=t.l
 rs:s.r.length=64
 rt:t.r.length=64
 low:∀x,x<16→s.r.getD x 0=t.r.getD x 0
 bufs:s.bufs.map List.length=t.bufs.map List.length
section lock
variable {s t s' t' : Ms} {os : List Lo} {es : List Int}
def Lock.at(h:Lock s t){x:Int}(hx:Uf x=true):atR s.r x=atR t.r x:=by
 unfold Uf at hx;have hx:=Mn hx;unfold atR;by_cases q:x<0
 ·rw[J6 q,J6 q]
 ·rw[J1 q,J1 q];exact h.low _ J
def mg{r:List UInt64}{x:Int}{v:UInt64}(h:zkw x=true){y:Nat}(g:y<16):(Po r x v).getD y 0=r.getD y 0:=by
 unfold zkw at h;simp only[Lf,Kb]at h;unfold Po;split
 ·simp only[J0];rw[Jz J]
 ·rfl
def zhl{r q:List UInt64}{x:Int}{v:UInt64}(j:r.length=64)(z:q.length=64)(h:∀y,y<16→r.getD y 0=q.getD y 0):∀y,y<16→(Po r x v).getD y 0=(Po q x v).getD y 0:=λy g=>by
 unfold Po;split
 ·by_cases A:x.toNat<64
  ·rw[ay _ _ _ _ _ J,ay _ _ _ _ _ J];split
   ·rfl
   ·exact h y g
  ·rw[List.set_eq_of_length_le J,List.set_eq_of_length_le J];exact h y g
 ·exact h y g
def Yn{r:List UInt64}{x:Int}{v:UInt64}(h:r.length=64):(Po r x v).length=64:=by unfold Po;split<;>simp[h]
def Lock.row(h:Lock s t)(x:Int):(V8 s.bufs x).length=(V8 t.bufs x).length:=by
 have hb:=congrArg (λl=>l.getD x.toNat 0) h.bufs;simp only[J0,Lv]at hb;unfold V8;simp only[J0];cases h1:s.bufs[x.toNat]?<;>cases h2:t.bufs[x.toNat]?<;>simp[h1,h2]at hb ⊢<;>first|exact hb|skip
def Lock.step(h:Lock s t)(he:∀(i:Nat) (o p:Lo),os[i]?=some o→o.kind=17→os[(es.getD i 0).toNat]?=some p→p.kind=16)(ho:∀o∈os,X4 o=true)(hs:Tk os es s=some s')(ht:Tk os es t=some t'):Lock s' t':=by
 unfold Tk at hs ht;rw[←h.i]at ht;cases gg:os[s.i]? with
 |none =>
  rw[gg]at hs ht;cases hs;cases ht;exact h
 |some o =>
 rw[gg]at hs ht;dsimp only at hs ht;have hl:=ho o (Kj gg);unfold X4 at hl;by_cases gH:o.kind=16
 ·rw[J6 gH]at hs ht hl;cases hs;cases ht;simp only[J2,Kb]at hl;rw[←h.first];cases s.first
  ·exact⟨Gf,rfl,Fb,h.rs,h.rt,h.low,h.bufs⟩
  ·exact⟨Gf,rfl,Fb,Yn h.rs,Yn h.rt,zhl h.rs h.rt h.low,h.bufs⟩
 rw[J1 gH]at hs ht hl;by_cases gF:o.kind=17
 ·rw[J6 gF]at hs ht;cases hp:os[(es.getD s.i 0).toNat]? with
  |none=>rw[hp]at hs;cases hs
  |some p =>
  rw[hp]at hs ht;dsimp only at hs ht;have kp:=he _ _ _ gg gF hp;have gG:=ho p (Kj hp);unfold X4 at gG;rw[J6 kp]at gG;simp only[J2,Kb]at gG;rw[←h.at (x:=p.d) (by unfold Uf;exact L3 J)]at ht;split at hs
  ·rename_i g;rw[J6 g]at ht;cases hs;cases ht;exact⟨rfl,rfl,h.l,Yn h.rs,Yn h.rt,zhl h.rs h.rt h.low,h.bufs⟩
  ·rename_i g;rw[J1 g]at ht;cases hs;cases ht;exact⟨Gf,h.first,h.l,h.rs,h.rt,h.low,h.bufs⟩
 rw[J1 gF]at hs ht hl;unfold Xb at hs ht;by_cases k14:o.kind=14
 ·rw[J6 (.inl k14)]at hl;simp only[J2]at hl;rw[J6 k14,←h.at hl.1,←h.row]at ht;rw[J6 k14]at hs;split at hs
  ·rename_i g;rw[J6 g]at ht;cases hs;cases ht;exact⟨Gf,h.first,Fb,Yn (Yn h.rs),Yn (Yn h.rt),λx hx=>Dr,h.bufs⟩
  ·cases hs
 rw[J1 k14]at hs ht;by_cases gD:o.kind=15
 ·rw[J6 (.inr gD)]at hl;simp only[J2]at hl;rw[J6 gD,←h.at hl.1,←h.row]at ht;rw[J6 gD]at hs;split at hs
  ·rename_i g;rw[J6 g]at ht;cases hs;cases ht;refine⟨Gf,h.first,Fb,Yn (Yn h.rs),Yn (Yn h.rt),λx hx=>Dr,?_⟩;simp only[Ll,Mj];rw[h.row,h.bufs]
  ·cases hs
 rw[J1 gD]at hs ht;rw[J1 J]at hl;cases hs;cases ht;simp only[Lf,J2]at hl;refine⟨Gf,h.first,Fb,Yn (Yn h.rs),Yn (Yn h.rt),λx hx=>?_,h.bufs⟩;rcases hl with ⟨h1,h2⟩|⟨h1,h2,h3⟩
 ·show (Po (Po s.r o.d _) o.e _).getD x 0=(Po (Po t.r o.d _) o.e _).getD x 0;rw[mg h2 hx,mg h1 hx,mg h2 hx,mg h1 hx];exact h.low x hx
 ·show (Po (Po s.r o.d _) o.e _).getD x 0=(Po (Po t.r o.d _) o.e _).getD x 0;rw[h.at h1,h.at h2,h.at h3];exact zhl (Yn h.rs) (Yn h.rt) (zhl h.rs h.rt h.low) x hx
def Lock.step_some(h:Lock s t)(ho:∀o∈os,X4 o=true)(hs:Tk os es s=some s'):∃t',Tk os es t=some t':=by
 unfold Tk at hs ⊢;rw[←h.i];cases gD:os[s.i]? with
 |none=>exact⟨_,rfl⟩
 |some o =>
 rw[gD]at hs;dsimp only at hs ⊢;have hl:=ho o (Kj gD);unfold X4 at hl;by_cases gF:o.kind=16
 ·rw[J6 gF];exact⟨_,rfl⟩
 rw[J1 gF]at hs hl ⊢;by_cases gG:o.kind=17
 ·rw[J6 gG]at hs ⊢;cases hp:os[(es.getD s.i 0).toNat]? with
  |none=>rw[hp]at hs;cases hs
  |some p =>
   dsimp only;split<;>exact⟨_,rfl⟩
 rw[J1 gG]at hs hl ⊢;unfold Xb at hs ⊢;by_cases k14:o.kind=14
 ·rw[J6 (.inl k14)]at hl;simp only[J2]at hl;rw[J6 k14]at hs ⊢;rw[←h.at hl.1,←h.row];split at hs
  ·rename_i g;rw[J6 g];exact⟨_,rfl⟩
  ·cases hs
 rw[J1 k14]at hs ⊢;by_cases gg:o.kind=15
 ·rw[J6 (.inr gg)]at hl;simp only[J2]at hl;rw[J6 gg]at hs ⊢;rw[←h.at hl.1,←h.row];split at hs
  ·rename_i g;rw[J6 g];exact⟨_,rfl⟩
  ·cases hs
 rw[J1 gg];exact⟨_,rfl⟩
def Lock.run_some(he:∀(i:Nat) (o p:Lo),os[i]?=some o→o.kind=17→os[(es.getD i 0).toNat]?=some p→p.kind=16)(ho:∀o∈os,X4 o=true):∀(n:Nat) (s t s':Ms),Lock s t→Rr os es n s=some s'→∃t',Rr os es n t=some t'∧Lock s' t'
 |0,s,t,s',h,hs=>by cases hs;exact⟨t,rfl,h⟩
 |n+1,s,t,s',h,hs=>by
  unfold Rr at hs ⊢;split at hs
  ·cases hs
  ·rename_i s1 h1;obtain⟨t1,h2⟩:=h.step_some ho h1;rw[h2];exact Lock.run_some he ho n s1 t1 s' (h.step he ho h1 h2) hs
def stay{os:List Lo}{es:List Int}{s:Ms}(h:os[s.i]?=none):∀n,Rr os es n s=some s
 |0=>rfl
 |n+1=>by
  have:Tk os es s=some s:=by unfold Tk;rw[h]
  unfold Rr;rw[this];exact stay h n
end lock
end
section
section facts
variable {bs : List Bf} {d a b n t : Pn} {k R e nb : Nat}
end facts
end
def zw0{bs:List Bf}{X Y:List (List UInt64)}(h:∀i,i<bs.length→(X.getD i []).length=(Y.getD i []).length):Lock (Sc 64 bs X) (Sc 64 bs Y):=by
 refine⟨rfl,rfl,rfl,Ek,Ek,λx _=>rfl,?_⟩;show (Vu bs X bs.length).map List.length=(Vu bs Y bs.length).map List.length;unfold Vu;rw[List.map_map,List.map_map];refine List.map_congr_left λi hi=>?_
 have:=h i (Mf.1 hi);simp only[Function.comp,X5,J9,List.length_replicate];omega
def ib{f:Fr Lo}(hw:f.wf Sr):∀(i:Nat) (o p:Lo),f.flat[i]?=some o→o.kind=17→f.flat[((f.ends 0).getD i 0).toNat]?=some p→p.kind=16:=λi o p ho hk g=>by
 obtain⟨k,B,j,z,A⟩:=ends_at f 0 i o hw ho hk;rw[J0,j]at g;simp only[L0,Kr,Kw]at g;rw[z]at g;rw[←Option.some.inj g];exact A
def zyb{b:Nat}(C:∀o∈uZ,¬(o.kind=15∧o.buf.toNat=b)){s D:Ms}(h:Tk uZ vR s=some D):D.bufs.getD b []=s.bufs.getD b []∧D.bufs.length=s.bufs.length:=by
 unfold Tk at h;cases g:uZ[s.i]? with
 |none=>rw[g]at h;cases h;exact⟨rfl,rfl⟩
 |some o =>
 rw[g]at h;dsimp only at h;have hn:=C o (Kj g);by_cases z:o.kind=16
 ·rw[J6 z]at h;cases h;exact⟨rfl,rfl⟩
 rw[J1 z]at h;by_cases A:o.kind=17
 ·rw[J6 A]at h;split at h
  ·cases h
  ·split at h<;>(cases h;exact⟨rfl,rfl⟩)
 rw[J1 A]at h;unfold Xb at h;by_cases B:o.kind=14
 ·rw[J6 B]at h;split at h
  ·cases h;exact⟨rfl,rfl⟩
  ·cases h
 rw[J1 B]at h;by_cases j:o.kind=15
 ·rw[J6 j]at h;split at h
  ·cases h;refine⟨?_,N⟩;simp only[J0];rw[Jz (λq=>hn ⟨j,q⟩)]
  ·cases h
 rw[J1 j]at h;cases h;exact⟨rfl,rfl⟩
def zvi{z:List Lo}{A:List Int}{b:Nat}(j:∀o∈z,¬(o.kind=15∧o.buf.toNat=b)):∀(n:Nat) (s g:Ms),Rr z A n s=some g→g.bufs.getD b []=s.bufs.getD b []∧g.bufs.length=s.bufs.length
 |0,s,g,h=>by cases h;exact⟨rfl,rfl⟩
 |n+1,s,g,h=>by
  unfold Rr at h;split at h
  ·cases h
  ·rename_i B C;obtain⟨D,E⟩:=zyb j C;obtain⟨F,G⟩:=zvi j n B g h;exact⟨F.trans D,G.trans E⟩

section
section run
variable {sz : Nat → Nat} {bd : Nat → Option Nat}
end run
end
section
section run
variable {sz : Nat → Nat} {bd : Nat → Option Nat}
end run
end
section
structure Cf where
 nb:Nat
 R:Int
 w:Int
 lo:Int
 hi:Int
 pa:Int
 pb:Int
 L:Nat→Prop
 S:Nat→Prop
def S7(c:Cf)(x:Int):Prop:=c.R≤x∧x<c.R+c.w
def Wo(c:Cf)(x:Int):Prop:=(c.lo≤x∧x≤c.hi)∨(c.pa≤x∧x≤c.pb)
def Wk(c:Cf)(x:Int):Prop:=x=-1∨S7 c x∨Wo c x
def hiO(c:Cf)(o:Lo):Prop:=(o.d=-1∨S7 c o.d)∧(o.e=-1∨S7 c o.e)∧(o.kind=14∨o.kind=15→o.a=-1∨Wo c o.a)
def plO(c:Cf)(o:Lo):Prop:=(o.kind≠14∧o.kind≠15)∧(c.pa≤o.d∧o.d≤c.pb)∧o.e=-1∧(o.a=-1∨Wo c o.a)∧(o.b=-1∨Wo c o.b)∧(o.c=-1∨Wo c o.c)
structure OpH (c:Cf) (o:Lo):Prop where
 k:o.kind≠16∧o.kind≠17
 f:o.buf.toNat<c.nb
 a:Wk c o.a
 b:Wk c o.b
 z:Wk c o.c
 m:hiO c o∨plO c o
 ld:o.kind=14→c.L o.buf.toNat
 st:o.kind=15→c.S o.buf.toNat
def Fr.AllH(c:Cf):Int→Fr Lo→Prop
 |_,.nil=>True
 |gg,.op o r=>OpH c o∧r.AllH c gg
 |gg,.loop o b e r=>LpG gg o∧(c.lo≤gg∧gg≤c.hi)∧e=Vi∧b.AllH c (gg+1)∧r.AllH c gg
structure CfOk (c:Cf):Prop where
 r:16≤c.R∧c.R+c.w≤64
 l:0≤c.lo∧c.hi<8
 p:8≤c.pa∧c.pb<16
def xi(c:Cf)(o:Lo):Prop:=OpH c o∨o=Vi∨∃g,LpG g o∧c.lo≤g∧g≤c.hi
section ah
variable {c : Cf}
def allH_cat:∀{f j:Fr Lo} {g:Int},f.AllH c g→j.AllH c g→(f.cat j).AllH c g
 |.nil,_,_,_,h=>h
 |.op _ _,_,_,h,k=>⟨h.1,allH_cat h.2 k⟩
 |.loop _ _ _ _,_,_,h,k=>⟨h.1,h.2.1,h.2.2.1,h.2.2.2.1,allH_cat h.2.2.2.2 k⟩
def allH_L:∀{l:List Lo} {g:Int},(∀o∈l,OpH c o)→(P0 l).AllH c g
 |[],_,_=>trivial
 |o::_,_,h=>⟨h o (K2 ..),allH_L λx j=>h x (Kf _ j)⟩
def za7{b:Fr Lo}(j:B≤1000000)(g:c.lo≤z∧z≤c.hi)(hb:b.AllH c (z+1)):(Ri z B b).AllH c z:=by
 unfold Ri;split
 ·trivial
 ·refine⟨⟨rfl,rfl,rfl,rfl,rfl,rfl,?_⟩,g,rfl,hb,trivial⟩;obtain⟨n,rfl⟩:=J5 (J:0≤B);show 1≤(iU (n:Int)).toNat;rw[Zr J];omega
def allH_wf:∀{f:Fr Lo} {g:Int},f.AllH c g→f.wf Sr
 |.nil,_,_=>trivial
 |.op o r,_,h=>⟨by unfold Sr;rw[J1 h.1.k.1,J1 h.1.k.2],allH_wf h.2⟩
 |.loop o b e r,_,h=>⟨by unfold Sr;rw[J6 h.1.1],by rw[h.2.2.1];rfl,allH_wf h.2.2.2.1,allH_wf h.2.2.2.2⟩
def zui{x:Int}{ls:List Nat}(g:∀y∈ls,y<8)(h:x=-1∨(8≤x∧x<64)):zx ls x=true:=by
 unfold zx;rcases h with rfl|h
 ·simp
 ·have:¬x.toNat∈ls:=λq=>by have:=g _ q;omega
  simp[this];omega
def ar(hc:CfOk c){x:Int}(h:Wk c x):x<64:=by
 obtain⟨r,l,p⟩:=hc;rcases h with h|h|h|h
 ·omega
 ·have:=h.2;omega
 ·omega
 ·omega
def mkH(hc:CfOk c){o:Lo}(h:OpH c o):(o.d=-1∨(8≤o.d∧o.d<64))∧(o.e=-1∨(8≤o.e∧o.e<64)):=by
 obtain⟨r,l,p⟩:=hc;rcases h.m with ⟨g,j,_⟩|⟨_,g,j,_⟩
 ·unfold S7 at g j;omega
 ·omega
def zf1(hc:CfOk c):∀{f:Fr Lo} {g:Int} {ls:List Nat},(∀y∈ls,(y:Int)<g∧y<8)→f.AllH c g→f.regs c.nb ls=true
 |.nil,_,_,_,_=>rfl
 |.op o r,g,ls,j,h=>by
  obtain⟨C,h⟩:=h;have B:=zf1 hc j h;have z:∀y∈ls,y<8:=λy A=>(j y A).2
  obtain⟨E,F⟩:=mkH hc C;simp only[Fr.regs,J2,Kb];exact⟨zui z E,zui z F,ar hc C.a,ar hc C.b,ar hc C.z,C.f,B⟩
 |.loop o b e r,g,ls,j,h=>by
  obtain⟨⟨H,I,K,L,M,O,G⟩,k,_,hb,h⟩:=h;obtain⟨P,Q,T⟩:=id hc;have B:=zf1 hc j h;have hb:=zf1 (ls:=o.d.toNat::ls) hc (λy A=>by
   rcases Ka.1 A with rfl|A
   ·omega
   ·have:=j y A;omega) hb
  simp only[Fr.regs,J2,Kb];refine⟨?_,J,G,hb,B⟩;unfold zx;have:¬o.d.toNat∈ls:=λq=>by have:=j _ q;omega
  simp[this];omega
def allH_flat:∀{f:Fr Lo} {g:Int},f.AllH c g→∀o∈f.flat,xi c o
 |.nil,_,_,o,ho=>by simp[Fr.flat]at ho
 |.op p r,_,h,o,ho=>by
  simp only[Fr.flat,Ka]at ho;rcases ho with rfl|ho
  ·exact .inl h.1
  ·exact allH_flat h.2 o ho
 |.loop p b e r,g,h,o,ho=>by
  simp only[Fr.flat,Ka,Kx]at ho;rcases ho with rfl|ho|rfl|ho
  ·exact .inr (.inr ⟨g,h.1,h.2.1⟩)
  ·exact allH_flat h.2.2.2.1 o ho
  ·exact .inr (.inl h.2.2.1)
  ·exact allH_flat h.2.2.2.2 o ho
def zpr(hc:CfOk c){x:Int}(h:x=-1∨Wo c x):x<16:=by
 obtain⟨r,l,p⟩:=hc;unfold Wo at h;omega
def xi.low(hc:CfOk c){o:Lo}(h:xi c o):X4 o=true:=by
 have hr:=hc.r;have gD:=hc.l;have hp:=hc.p;rcases h with h|rfl|⟨gF,⟨g1,g2,g3,g4,g5,g6,g7⟩,k⟩
 ·unfold X4;rw[J1 h.k.1,J1 h.k.2];rcases h.m with ⟨m1,m2,m3⟩|⟨m0,m1,m2,m3,m4,m5⟩
  ·have hd:zkw o.d=true:=by unfold zkw;unfold S7 at m1;simp only[Lf,Kb];omega
   have he:zkw o.e=true:=by unfold zkw;unfold S7 at m2;simp only[Lf,Kb];omega
   split
   ·rename_i hm;have ha:Uf o.a=true:=by unfold Uf;exact L3 (zpr hc (m3 hm))
    rw[ha,hd,he];rfl
   ·rw[hd,he];rfl
  ·rw[J1 J];have ha:Uf o.a=true:=by unfold Uf;exact L3 (zpr hc m3)
   have hb:Uf o.b=true:=by unfold Uf;exact L3 (zpr hc m4)
   have gg:Uf o.c=true:=by unfold Uf;exact L3 (zpr hc m5)
   rw[ha,hb,gg];simp
 ·rfl
 ·unfold X4;rw[J6 g1];simp only[J2,Kb];omega
def xi.safeS(hc:CfOk c){bs:List Bf}{o:Lo}(hs:∀n,c.S n→(Ps bs n).sec=true)(h:xi c o):rq bs C16 o=true:=by
 have gF:=hc.l;rcases h with h|rfl|⟨gG,⟨g1,g2,g3,g4,g5,g6,g7⟩,k⟩
 ·unfold rq;have hk:=h.k;by_cases q:o.kind=14∨o.kind=15
  ·have hm:o.a=-1∨Wo c o.a:=by
    rcases h.m with ⟨_,_,m3⟩|⟨m0,_⟩
    ·exact m3 q
    ·omega
   have gg:C16 o.a=false:=by have:=zpr hc hm;unfold C16;rw[Lk];omega
   by_cases gD:o.kind=15
   ·simp[gg,hs _ (h.st gD),hk.1]
   ·simp[gg,hk.1,gD]
  ·have h1:¬o.kind=14:=λe=>q (.inl e)
   have h2:¬o.kind=15:=λe=>q (.inr e)
   simp[Re,h1,h2,hk.1]
 ·simp[rq,Vi,Re]
 ·have:C16 o.d=false:=by unfold C16;rw[Lk];omega
  simp[rq,g1,Re,this]
def zyi(o:Lo):∀x∈Rb o,x=o.a∨x=o.b∨x=o.c:=by
 intro x g;unfold Rb at g
 repeat' split at g
 all_goals simp at g
 all_goals omega
def xi.closedS(hc:CfOk c){bs:List Bf}{o:Lo}(hf:R6 64 bs o=true)(h:xi c o):Ws bs C16 o=true→∀x∈Pu o,C16 x=true:=by
 have hr:=hc.r;rcases h with h|rfl|⟨gD,⟨g1,g2,g3,g4,g5,g6,g7⟩,k⟩
 ·intro gg x hx;have gF:=(zve hf x hx).1;rcases h.m with ⟨m1,m2,m3⟩|⟨m0,m1,m2,m3,m4,m5⟩
  ·have:x=o.d∨x=o.e:=by
    unfold Pu at hx;split at hx
    ·simpa using hx
    ·split at hx
     ·simp at hx
     ·simp at hx;exact .inl hx
   unfold C16;rw[Kb];unfold S7 at m1 m2;rcases this with rfl|rfl<;>omega
  ·exfalso;unfold Ws at gg;rw[J1 h.k.1,J1 m0.1]at gg;obtain⟨y,hy,hC⟩:=La.1 gg;unfold C16 at hC;rw[Kb]at hC;rcases zyi o y hy with rfl|rfl|rfl
   ·have:=zpr hc m3;omega
   ·have:=zpr hc m4;omega
   ·have:=zpr hc m5;omega
 ·intro h;simp[Ws,Vi,Rb]at h
 ·intro h;simp[Ws,g1]at h
def C0(_:Int):Bool:=false
def safeP{o:Lo}:rq Y C0 o=true:=by simp[rq,C0]
def xi.closedP{bs:List Bf}{o:Lo}(hs:∀n,c.L n→(Ps bs n).sec=false)(h:xi c o):Ws bs C0 o=true→∀x∈Pu o,C0 x=true:=by
 intro gg;exfalso;unfold Ws at gg;split at gg
 ·cases gg
 ·split at gg
  ·rename_i k14;rcases h with h|rfl|⟨gD,⟨g1,_⟩,_⟩
   ·rw[hs _ (h.ld k14)]at gg;cases gg
   ·simp[Vi]at k14
   ·omega
  ·simp[C0]at gg
def xi.sto{o:Lo}(h:xi c o)(k:o.kind=15):c.S o.buf.toNat:=by
 rcases h with h|rfl|⟨gg,⟨g1,_⟩,_⟩
 ·exact h.st k
 ·simp[Vi]at k
 ·omega
def wrap_allH:∀(n:Nat) (i:Int) (f:Fr Lo),c.lo≤i→i+n≤c.hi+1→f.AllH c (i+n)→(gn n i f).AllH c i
 |0,i,f,_,_,h=>by simpa [gn] using h
 |n+1,i,f,g,j,h=>by
  refine⟨⟨rfl,rfl,rfl,rfl,rfl,rfl,by simp[Wr,iU1]⟩,J,rfl,wrap_allH n (i+1) f J J ?_,trivial⟩;rw[(J:i+1+(n:Int)=i+(n+1:Nat))];exact h
def Lb(c:Cf)(p:Pn):Prop:=p.b<c.nb∧c.L p.b
def Sb(c:Cf)(p:Pn):Prop:=p.b<c.nb∧c.S p.b
def mf{v i:Int}{p:Pn}(g:Lb c p)(hv:S7 c v)(hi:i=-1∨Wo c i):OpH c (P7 v p.p i z) :=
 ⟨by simp[P7],by simpa [P7,Pn.p] using g.1,hi.imp_right .inr,.inl rfl,.inl rfl,.inl ⟨.inr hv,.inl rfl,λ_=>hi⟩,λ_=>by simpa [P7,Pn.p] using g.2,λh=>by simp[P7]at h⟩
def zl6{v i:Int}{p:Pn}(g:Sb c p)(hv:Wk c v)(hi:i=-1∨Wo c i):OpH c (Qn p.p i z v) :=
 ⟨by simp[Qn],by simpa [Qn,Pn.p] using g.1,hi.imp_right .inr,hv,.inl rfl,.inl ⟨.inl rfl,.inl rfl,λ_=>hi⟩,λh=>by simp[Qn]at h,λ_=>by simpa [Qn,Pn.p] using g.2⟩
def oh_K{v:Int}{x:UInt64}(hn:0<c.nb)(hv:S7 c v):OpH c (cK v x) :=
 ⟨by simp[cK],hn,.inl rfl,.inl rfl,.inl rfl,.inl ⟨.inr hv,.inl rfl,λh=>Fv⟩,λh=>Fv,λh=>Fv⟩
def oh_Kl{v:Int}{x:UInt64}(hn:0<c.nb)(hv:c.pa≤v∧v≤c.pb):OpH c (cK v x) :=
 ⟨by simp[cK],hn,.inl rfl,.inl rfl,.inl rfl,.inr ⟨by simp[cK],hv,rfl,.inl rfl,.inl rfl,.inl rfl⟩,λh=>Fv,λh=>Fv⟩
def rf{v x:Int}(hn:0<c.nb)(hv:S7 c v)(g:Wk c x):OpH c (Ub v x) :=
 ⟨by simp[Ub],hn,g,.inl rfl,.inl rfl,.inl ⟨.inr hv,.inl rfl,λh=>by simp[Ub]at h⟩,λh=>by simp[Ub]at h,λh=>by simp[Ub]at h⟩
def ft{v x b:Int}(hk:z=8∨z=9)(hn:0<c.nb)(hv:S7 c v)(g:Wk c x):OpH c (S8 z v x b) :=
 ⟨by simp[S8];omega,hn,g,.inl rfl,.inl rfl,.inl ⟨.inr hv,.inl rfl,λh=>Hy⟩,λh=>Hy,λh=>Hy⟩
def oh_Mul{x y w:Int}(hn:0<c.nb)(g:S7 c x)(j:S7 c y)(A:Wk c z)(hw:Wk c w):OpH c (S0 x y z w) :=
 ⟨by simp[S0],hn,A,hw,.inl rfl,.inl ⟨.inr g,.inr j,λh=>by simp[S0]at h⟩,λh=>by simp[S0]at h,λh=>by simp[S0]at h⟩
def bg{x w:Int}(hk:3≤z∧z≤7)(hn:0<c.nb)(g:S7 c x)(j:Wk c B)(hw:Wk c w):OpH c (Pv z x B w) :=
 ⟨Ha,hn,j,hw,.inl rfl,.inl ⟨.inr g,.inl rfl,λh=>Di⟩,λh=>Di,λh=>Di⟩
def um{x w:Int}(hk:3≤z∧z≤7)(hn:0<c.nb)(j:c.pa≤x∧x≤c.pb)(g:Wo c B)(hw:Wo c w):OpH c (Pv z x B w) :=
 ⟨Ha,hn,.inr (.inr g),.inr (.inr hw),.inl rfl,.inr ⟨Ha,j,rfl,.inr g,.inr hw,.inl rfl⟩,λh=>Di,λh=>Di⟩
def zzm{x y w q:Int}(hk:z=11∨z=12)(hn:0<c.nb)(g:S7 c x)(j:S7 c y)(A:Wk c B)(hw:Wk c w)(C:Wk c q):OpH c (Qy z x y B w q) :=
 ⟨by simp[Qy];omega,hn,A,hw,C,.inl ⟨.inr g,.inr j,λh=>Ia⟩,λh=>Ia,λh=>Ia⟩
def aj{x q w:Int}(hn:0<c.nb)(g:S7 c x)(j:Wk c q)(A:Wk c z)(hw:Wk c w):OpH c (R1 x q z w) :=
 ⟨by simp[R1],hn,A,hw,j,.inl ⟨.inr g,.inl rfl,λh=>by simp[R1]at h⟩,λh=>by simp[R1]at h,λh=>by simp[R1]at h⟩
def Si{x:Lo}{y:List Lo}(h:OpH c x)(k:∀o∈y,OpH c o):∀o∈x::y,OpH c o:=λo ho=>by
 rcases Ka.1 ho with rfl|ho
 ·exact h
 ·exact k o ho
def oh_nil:∀o∈([]:List Lo),OpH c o:=λ_ h=>Ak
def Sa{x:Int}(h:S7 c x):Wk c x:=.inr (.inl h)
section into
variable {R D k : Int} {d a b n t : Pn}
def pq(j:c.R≤R∧R+11≤c.R+c.w)(g:Int)(h:0≤g∧g≤10):S7 c (R+g):=by unfold S7;omega
def rgr0(g:c.R≤R∧R+11≤c.R+c.w):S7 c R:=by unfold S7;omega
def zkh{x:Int}{p:Pn}(j:Sb c p)(z:Wk c x)(g:c.lo≤D∧D≤c.hi)(hk:p.k≤1000000):(Uo p.p x D).AllH c D:=by
 unfold Uo;exact za7 (by show (p.k:Int)≤_;omega) g (allH_L (Si (zl6 j z (.inr (.inl g))) oh_nil))
end into
end ah
end
section
noncomputable section
def Zv(p:Pc)(n l o b D:Int):Fr Lo:=Ri D n (P0 [P7 l p D 0,S8 9 o l 63,S8 8 l l 1,Pv 6 l l b,Qn p D 0 l,Ub b o])
def cpT(g j:Pc)(k l z:Int):Fr Lo:=Ri z k (P0 [P7 l j z 0,Qn g z 0 l])
def rxB(n r:Pc)(g j:Int):List Lo:=[P7 (g+2) r j 0,P7 (g+4) n j 0,Qy 12 (g+4) (g+5) (g+2) (g+4) (g+5)]
def om(n r:Pc)(k g j:Int)(x:List Lo):Fr Lo:=(P0 [cK (g+5) 0]).cat ((Ri j k (P0 (rxB n r g j++x))).cat (P0 [P7 (g+2) r (-1) k,Qy 12 (g+4) (g+5) (g+2) g (g+5)]))
def rxRound(n r:Pc)(k g j:Int):Fr Lo:=(Zv r (k+1) (g+2) (g+3) (g+1) j).cat ((om n r k g j []).cat ((P0 [Ub (g+6) (g+5)]).cat ((om n r k g j [R1 (g+4) (g+6) (g+2) (g+4),Qn r j 0 (g+4)]).cat (P0 [R1 (g+4) (g+6) (g+2) (g+4),Qn r (-1) k (g+4),cK (g+1) 0]))))
def radixT(d n r:Pc)(k bits g j:Int):Fr Lo:=(P0 [cK g 0,cK (g+1) 1]).cat ((Uo r g j).cat ((Ri j (bits+1) (rxRound n r k g (j+1))).cat (cpT d r k (g+2) j)))
structure Pw where
 d:Pn
 a:Pn
 b:Pn
 n:Pn
 wb:Nat
 wa:Nat
 k:Nat
 w:Nat
 times:Nat
 over:Nat
 B:Nat
def Pw.acc(p:Pw):Pn:=⟨p.wb,p.wa,p.k⟩
def Pw.base(p:Pw):Pn:=⟨p.wb,p.wa+p.k,p.k⟩
def Pw.cur(p:Pw):Pn:=⟨p.wb,p.wa+2*p.k,p.k⟩
def Pw.es(p:Pw):Pn:=⟨p.wb,p.wa+3*p.k,p.b.k+1⟩
def Pw.t(p:Pw):Pn:=⟨p.wb,p.wa+3*p.k+p.b.k+1,p.k+2⟩
def Pw.tab(p:Pw):Pn:=⟨p.wb,p.wa+4*p.k+p.b.k+3,p.k*2^p.w⟩
def Pw.ent(p:Pw):Pn:=⟨p.tab.b,p.tab.a,p.k⟩
def Pw.r(p:Pw):Pn:=⟨p.t.b,p.t.a,p.k+1⟩
def Pw.mont(p:Pw)(d a b:Pn)(D:Int):Fr Lo:=intoT d.p a.p b.p p.n.p p.t.p p.k (p.B+10) D
def Pw.radix(p:Pw)(d:Pn)(bits D:Int):Fr Lo:=radixT d.p p.n.p p.r.p p.k bits (p.B+10) D
def Pw.copies(p:Pw)(to fr:Pn)(D:Int):Fr Lo:=cpT to.p fr.p p.k (p.B+3) D
def Pw.fillR(p:Pw)(D:Int):Fr Lo:=(p.mont p.acc p.acc p.base (D+1)).cat ((Ri (D+1) p.k (P0 [P7 (p.B+3) p.acc.p (D+1) 0,Pv 3 13 12 (D+1),Qn p.tab.p 13 0 (p.B+3)])).cat (P0 [cK 13 (iU p.k),Pv 3 12 12 13]))
def Pw.fill(p:Pw)(D:Int):Fr Lo:=(p.radix p.ent (64*p.k) D).cat ((p.radix p.cur (128*p.k) D).cat ((p.mont p.base p.a p.cur D).cat ((p.copies p.acc p.ent D).cat ((P0 [cK 12 (iU p.k)]).cat (Ri D (2^p.w-1:Nat) (p.fillR D))))))
def Pw.expB(p:Pw)(D:Int):List Lo:=if p.over=0 then [P7 (p.B+3) p.b.p D 0,Qn p.es.p D 1 (p.B+3)] else [P7 (p.B+3) p.b.p D 0,S8 8 (p.B+2) (p.B+3) (64-p.over),Pv 6 (p.B+2) (p.B+2) (p.B+4),Qn p.es.p D 0 (p.B+2),S8 9 (p.B+4) (p.B+3) p.over]
def Pw.expE(p:Pw):List Lo:=if p.over=0 then [Qn p.es.p (-1) 0 p.B] else [Qn p.es.p (-1) p.b.k (p.B+4)]
def Pw.exp(p:Pw)(D:Int):Fr Lo:=(P0 [Ub (p.B+4) p.B]).cat ((Ri D p.b.k (P0 (p.expB D))).cat (P0 p.expE))
def Pw.shift(p:Pw)(D:Int):Fr Lo:=(P0 [Ub (p.B+2) p.B]).cat ((Zv p.es.p p.es.k (p.B+3) (p.B+4) (p.B+2) D).cat (P0 [S8 8 (p.B+1) (p.B+1) 1,Pv 6 (p.B+1) (p.B+1) (p.B+2)]))
def Pw.scanB(p:Pw)(D:Int):List Lo:=[Pv 3 13 12 D,P7 (p.B+3) p.tab.p 13 0,P7 (p.B+6) p.cur.p D 0,R1 (p.B+3) (p.B+5) (p.B+6) (p.B+3),Qn p.cur.p D 0 (p.B+3)]
def Pw.scanR(p:Pw)(D:Int):Fr Lo:=(P0 [Pv 7 (p.B+5) (p.B+1) D,Qy 12 (p.B+4) (p.B+5) p.B (p.B+5) p.B]).cat ((Ri (D+1) p.k (P0 (p.scanB (D+1)))).cat (P0 [cK 13 (iU p.k),Pv 3 12 12 13]))
def Pw.scan(p:Pw)(D:Int):Fr Lo:=(P0 [cK 12 0]).cat (Ri D (2^p.w:Nat) (p.scanR D))
def Pw.runW(p:Pw)(D:Int):Fr Lo:=(p.mont p.acc p.acc p.acc D).cat (p.shift D)
def Pw.runR(p:Pw)(D:Int):Fr Lo:=(P0 [Ub (p.B+1) p.B]).cat ((Ri D p.w (p.runW (D+1))).cat ((p.scan D).cat (p.mont p.acc p.acc p.cur D)))
def Pw.run(p:Pw)(D:Int):Fr Lo:=(p.copies p.acc p.ent D).cat ((Ri D p.times (p.runR (D+1))).cat ((P0 [cK (p.B+3) 1]).cat ((Uo p.cur.p p.B D).cat ((P0 [Qn p.cur.p (-1) 0 (p.B+3)]).cat (p.mont p.d p.acc p.cur D)))))
def Pw.code(p:Pw)(D:Int):Fr Lo:=(P0 [cK p.B 0]).cat ((p.fill D).cat ((p.exp D).cat (p.run D)))
section all
variable {c : Cf}
structure PwC (c:Cf) (p:Pw):Prop where
 r:c.R≤p.B∧(p.B:Int)+21≤c.R+c.w
 q:c.pa≤12∧13≤c.pb
 d:Sb c p.d
 a:Lb c p.a
 b:Lb c p.b
 n:Lb c p.n
 wl:c.L p.wb
 ws:c.S p.wb
 wb:p.wb<c.nb
 k:p.k≤512
 w:p.w≤6
 ti:p.times≤100000
 bk:p.b.k≤512
end all
end
end
section
def Vo(D:Int)(ls:List Int):Prop:=(ls.length:Int)≤D∧∀x∈ls,x<D
def Tj(D:Int)(S:List Int):Prop:=∀x∈S,x<D∨8≤x
section gd
variable {bs : List Bf} {S S' T ls : List Int} {D : Int} {f g b : Fr Lo} {l : List Lo}
def Vo.snoc(h:Vo D ls):Vo (D+1) (ls++[D]):=⟨by have:=h.1;simp;omega,λx hx=>by
 rcases Kx.1 hx with hx|hx
 ·have:=h.2 x hx;omega
 ·simp at hx;omega⟩
def Vo.lt(h:Vo D ls)(hD:D≤8):∀x∈ls,x<8:=λx hx=>by have:=h.2 x hx;omega
def Tj.cons(h:Tj D S):Tj (D+1) (D::S):=λx hx=>by
 rcases Ka.1 hx with rfl|hx
 ·omega
 ·have:=h x hx;omega
def Tj.high{x:Int}(h:Tj D S)(hx:8≤x):Tj D (x::S):=λy hy=>by
 rcases Ka.1 hy with rfl|hy
 ·exact .inr hx
 ·exact h y hy
def Gd.lpD{times:Int}(h:Vo D ls)(hD:0≤D∧D<8)(hS:Tj D S)(ht:times≤1048576)(hb:Gd bs (D::S) (ls++[D]) b S')(hs:∀x∈S,x∈S'):Gd bs S ls (Ri D times b) S :=
 .lp (by have:=h.1;omega) hD (λq=>by have:=h.2 _ q;omega) (λq=>by have:=hS _ q;omega) ht hb hs
def Gd.Lm(hL:Vo D ls)(hD:D≤8)(h:S5 64 bs S l)(hk:∀o∈l,∀x∈Pu o,8≤x)(hT:∀x∈T,x∈l.flatMap Pu++S):Gd bs S ls (P0 l) T :=
 Gd.mono (Gd.L (hL.lt hD) h hk) (λ_ h=>h) hT
def zog{k d a:Int}(hk:k=8∨k=9)(h:0≤d∧d<z)(ha:0≤a∧a<z)(hb:1≤B∧B≤63):R6 z bs (S8 k d a B)=true:=by
 obtain⟨n,rfl⟩:=J5 (J:0≤B);have e:(iU (n:Int)).toNat=n:=Zr J;have j:(1:UInt64)≤iU (n:Int):=by rw[L4,e];show 1≤_;omega
 have A:iU (n:Int)≤(63:UInt64):=by rw[L4,e];show _≤63;omega
 rcases hk with rfl|rfl<;>simp[R6,S8,Tb,Ss,Sw,Td,Yi,Yj,Re,h,ha,j,A]
def zuc{d a:Int}(hk:z=8∨z=9)(h:0≤d∧d<64)(ha:0≤a∧a<64)(hb:1≤B∧B≤63)(j:a∈S)(k:S5 64 bs (d::S) l):S5 64 bs S (S8 z d a B::l):=by
 rcases hk with rfl|rfl
 ·exact⟨zog (.inl rfl) h ha hb,by simp[S8],by simp[Rb,S8,j],k⟩
 ·exact⟨zog (.inr rfl) h ha hb,by simp[S8],by simp[Rb,S8,j],k⟩
def zzu{d a:Int}(h:0≤d∧d<64)(ha:0≤a∧a<64)(j:a∈S)(k:S5 64 bs (d::S) l):S5 64 bs S (Ub d a::l) :=
 ⟨zz5 h ha,by simp[Ub],by simp[Rb,Ub,j],k⟩
def gd_sh{p:Pn}{n l o b:Int}(j:Vo D ls)(A:0≤D∧D<8)(B:Tj D S)(F:8≤l∧l<64)(ho:8≤o∧o<64)(hb:8≤b∧b<64)(C:b∈S)(z:Bp bs p)(wp:Bw bs p)(hn:n≤1048576):Gd bs S ls (Zv p.p n l o b D) S:=by
 have h:S5 64 bs (D::S) [P7 l p.p D 0,S8 9 o l 63,S8 8 l l 1,Pv 6 l l b,Qn p.p D 0 l,Ub b o] :=
  zu z J J N (zuc (.inr rfl) J J J N (zuc (.inl rfl) J J J N (zk0 J J J J N Af (zak z wp J J N N (zzu J J N okL_nil)))))
 refine Gd.lpD j A B hn (Gd.L (j.snoc.lt J) h ?_) λx E=>Ln _ (Kf _ E)
 simp[Pu,P7,S8,Pv,Qn,Ub];omega
def zmh{x:Int}{p:Pn}(j:Vo D ls)(z:0≤D∧D<8)(A:Tj D S)(B:0≤x∧x<64)(C:x∈S)(E:Bp bs p)(wp:Bw bs p):Gd bs S ls (Uo p.p x D) S :=
 gd_fill B C z (λq=>by have:=j.2 _ q;omega) (λq=>by have:=A _ q;omega) (by have:=j.1;omega) (j.lt J) E wp
structure PwG (bs:List Bf) (p:Pw):Prop where
 B:16≤p.B∧p.B≤40
 d:Bp bs p.d
 wd:Bw bs p.d
 a:Bp bs p.a
 b:Bp bs p.b
 n:Bp bs p.n
 wb:p.wb<bs.length
 wz:((p.wa+4*p.k+p.b.k+3+p.k*2^p.w:Nat):Int)≤(Ps bs p.wb).size
 w6:(Ps bs p.wb).size≤65536
 ww:(Ps bs p.wb).kind≠1
 k:1≤p.k∧p.k≤512
 nk:0<p.n.k
 w:1≤p.w∧p.w≤6
 ti:p.times≤100000
 ov:p.over≤63
 bk:p.b.k≤512
end gd
end
section
set_option linter.unusedSimpArgs false
def Fm(l:List Pn)(m m':Nat→Nat→UInt64):Prop:=∀x y,(∀p∈l,¬(x=p.b∧p.a≤y∧y<p.a+p.k))→m' x y=m x y
section fm
variable {l l' : List Pn} {m m' m'' : Nat → Nat → UInt64} {p q : Pn}
def Fm.refl:Fm l m m:=λ_ _ _=>rfl
def Fm.trans(h:Fm l m m')(k:Fm l m' m''):Fm l m m'':=λx y hn=>(k x y hn).trans (h x y hn)
def Fm.mono(h:Fm l m m')(k:∀p∈l,p∈l'):Fm l' m m':=λx y hn=>h x y λp hp=>hn p (k p hp)
def Qd.fm(h:Qd p m m')(hp:p∈l):Fm l m m':=λx y hn=>h x y (hn p hp)
def Fm.pl(h:Fm l m m')(d:∀p∈l,Dj p q){i:Nat}(hi:i<q.k):pl m' q i=pl m q i :=
 h _ _ λp hp ⟨h1,h2,h3⟩=>by
  rcases d p hp with d|d|d
  ·exact d h1.symm
  ·omega
  ·omega
def Fm.vl(h:Fm l m m')(d:∀p∈l,Dj p q){n:Nat}(hn:n≤q.k):vl (Go.Sv.pl m' q) n=vl (Go.Sv.pl m q) n:=Vz λ_ hi=>h.pl d J
end fm
section ex
variable {sz : Nat → Nat} {s : Fs}
def dg{d a:Nat}{k:Nat}(hk:k<64):Sz sz (S8 9 d a (k:Nat)) s=some (s.put d (UInt64.ofNat ((s.r a).toNat/2^k))):=by
 have e:(iU (k:Int)).toNat=k:=Zr J;simp[Sz,S8,P6,gf,kz,je,e]
def zy9{d a:Nat}{k:Nat}(hk:k<64):Sz sz (S8 8 d a (k:Nat)) s=some (s.put d (UInt64.ofNat ((s.r a).toNat*2^k))):=by
 have e:(iU (k:Int)).toNat=k:=Zr J;simp[Sz,S8,P6,gf,kz,je,e]
def zpj{x:UInt64}{k:Nat}:(UInt64.ofNat (x.toNat/2^k)).toNat=x.toNat/2^k:=by
 have h:=x.toNat_lt;have:=Oj x.toNat (2^k);simp;omega
def or_two{x b:UInt64}(hb:b.toNat≤1):(UInt64.ofNat (x.toNat*2^1) ||| b).toNat=2*x.toNat%18446744073709551616+b.toNat:=by
 have j:=x.toNat_lt;rw[UInt64.toNat_or];have g:(UInt64.ofNat (x.toNat*2^1)).toNat=2^1*(x.toNat%2^63):=by
  simp;omega
 rw[g,←Nat.two_pow_add_eq_or_of_lt (J:b.toNat<2^1)];omega
def ox{x b:UInt64}(hb:b.toNat≤1):(UInt64.ofNat (x.toNat*2^1) ||| b).toNat+18446744073709551616*(UInt64.ofNat (x.toNat/2^63)).toNat=2*x.toNat+b.toNat∧(UInt64.ofNat (x.toNat/2^63)).toNat≤1:=by
 have g:=x.toNat_lt;rw[or_two hb,zpj];omega
def sh_law{W v r x q b:Nat}(h:v+g*r=2*j+b)(k:q+W*A=2*x+r):v+q*g+g*W*A=2*(j+x*g)+b:=by
 have z:g*(q+W*A)=g*(2*x+r):=by rw[k]
 grind
def sh_ex{p:Pn}{n l o b D:Nat}(T:p.in_ sz)(hn:n≤p.k)(hd:l≠o∧l≠b∧l≠D∧o≠b∧o≠D∧b≠D)(hb:(s.r b).toNat≤1) :
  Tx sz (Zv p.p n l o b D) s λA=>(∀z,z≠l→z≠o→z≠b→z≠D→A.r z=s.r z)∧Qd p s.m A.m∧(A.r b).toNat≤1∧vl (pl A.m p) n+18446744073709551616^n*(A.r b).toNat=2*vl (pl s.m p) n+(s.r b).toNat:=by
 obtain⟨p1,K⟩:=T;obtain⟨E,d2,F,U,G,V⟩:=hd;have e:Zv p.p n l o b D=Ri (D:Nat) (n:Nat) (P0 [P7 (l:Nat) p.p (D:Nat) ((0:Nat):Int),S8 9 (o:Nat) (l:Nat) ((63:Nat):Int),S8 8 (l:Nat) (l:Nat) ((1:Nat):Int),Pv 6 (l:Nat) (l:Nat) (b:Nat),Qn p.p (D:Nat) ((0:Nat):Int) (l:Nat),Ub (b:Nat) (o:Nat)]):=rfl;rw[e];refine .lp (λB j=>(∀z,z≠l→z≠o→z≠b→z≠D→j.r z=s.r z)∧Qd p s.m j.m∧(j.r b).toNat≤1∧(∀i,B≤i→pl j.m p i=pl s.m p i)∧vl (pl j.m p) B+18446744073709551616^B*(j.r b).toNat=2*vl (pl s.m p) B+(s.r b).toNat)
  ⟨λ_ _ _ _ _=>rfl,λ_ _ _=>rfl,hb,λ_ _=>rfl,Ii⟩ J (λB j hj ⟨X,Y,Z,L,v1⟩=>?_) λ_ h=>⟨h.1,h.2.1,h.2.2.1,h.2.2.2.2⟩
 have H:((j.put D (UInt64.ofNat B)).r D).toNat=B:=by simp[P8];omega
 have C:(UInt64.ofNat B).toNat=B:=Y5 J;refine .op (zr (by rw[H];omega) K) (.op (dg J) (.op (zy9 J) (.op opZ_or ?_)));simp only[P8,gq,Lj,J1 E,J1 d2.symm,J1 U.symm,J1 V,J1 E.symm,C,Kw];have I:=ox (x:=pl j.m p B) Z;obtain⟨M,a2⟩:=I;refine .op (zer (by simp only[P8,J1 F.symm,J1 G.symm,Lj];rw[Y5 J];omega) K) (.op az (.nil ⟨λz O P Q R=>?_,?_,?_,λi hi=>?_,?_⟩))
 ·simp only[P8,Zu,J1 O,J1 P,J1 Q,J1 R];exact X z O P Q R
 ·refine Y.trans ?_;rw[gq];refine z6e (p:=p) ?_;simp only[P8,J1 F.symm,J1 G.symm,Lj];rw[Y5 J];omega
 ·simp only[P8,Zu,Lj,J1 E.symm,Kw];exact a2
 ·rw[gq,Zp];simp only[P8,J1 F.symm,J1 G.symm,Lj];rw[Y5 J,J1 J];exact L i J
 ·rw[gq,W6,W6,Zp];simp only[P8,Zu,J1 F.symm,J1 G.symm,Lj,J1 E.symm,Kw];rw[C,J6 rfl,Ly,Vz (g:=pl j.m p) λi hi=>by rw[Zp,J1 J];rfl];rw[L B (J8 _)]at M ⊢;exact sh_law v1 M
end ex
end
section
set_option linter.unusedSimpArgs false
section ex
variable {sz : Nat → Nat} {s : Fs}
def Pw.wk(p:Pw):Pn:=⟨p.wb,p.wa,4*p.k+p.b.k+3+p.k*2^p.w⟩
structure PwS (sz:Nat→Nat) (p:Pw):Prop where
 B:16≤p.B∧p.B≤40
 d:p.d.in_ sz
 a:p.a.in_ sz
 b:p.b.in_ sz
 n:p.n.in_ sz
 wk:p.wk.in_ sz
 k:1≤p.k
 kb:p.k≤512
 dk:p.d.k=p.k
 ak:p.a.k=p.k
 nk:p.n.k=p.k
 db:p.d.b≠p.wb
 ab:p.a.b≠p.wb
 bb:p.b.b≠p.wb
 nb:p.n.b≠p.wb
 dn:Yr p.d p.n
 w:1≤p.w∧p.w≤6
 ov:p.over≤63
 ti:p.times*p.w=64*p.b.k+p.over
section pieces
variable {p : Pw}
end pieces
end ex
end
section
set_option linter.unusedSimpArgs false
section ex
variable {sz : Nat → Nat} {s : Fs} {p : Pw}
end ex
end
section
set_option linter.unusedSimpArgs false
section ex
variable {sz : Nat → Nat} {s : Fs} {p : Pw}
def Pw.H(p:Pw)(m:Nat→Nat→UInt64):Prop:=pl m p.n 0%2=1∧vl (pl m p.a) p.k<vl (pl m p.n) p.k
end ex
end
section
set_option linter.unusedSimpArgs false
section stp
def tb{d times:Int}{b:Fr Lo}{T M:Nat}(g:times≤T)(j:T≤1000000)(hb:b.stp≤M):(Ri d times b).stp≤T*(1+M) :=
 K8 (stp_lp d times b J) (Mb J J)
end stp
section prog
variable {p : Pw} {e : Nat} {c : Cf} {bs : List Bf} {sz : Nat → Nat} {s0 : Fs}
end prog
end
section
def Xu(vs:List Vr):List Bf:=vs.map λv=>⟨v.limbs,2,v.sec⟩
def Vg(vs:List Vr):List Pc:=(List.range vs.length).map λi:Nat=>⟨(i:Int),0,(gv vs i).limbs⟩
def Qx(vs:List Vr)(W:Int):List Bf:=Xu vs++[⟨W,2,false⟩,⟨W,2,true⟩]
section pl
variable {vs : List Vr} {W : Int} {i : Nat}
def plB_len:(Qx vs W).length=vs.length+2:=by simp[Qx,Xu]
def plP_len:(Vg vs).length=vs.length:=by simp[Vg]
def ce(hi:i<vs.length):Ps (Qx vs W) i=⟨(gv vs i).limbs,2,(gv vs i).sec⟩:=by
 have h:=Vf hi;have e:vs[i]=gv vs i:=by rw[J7 hi]at h;exact Option.some.inj h
 unfold Ps Qx Xu;rw[J0,J4 Ed,Lv,J7 hi,e];rfl
def plB_w0:Ps (Qx vs W) vs.length=⟨W,2,false⟩:=by
 unfold Ps Qx Xu;rw[J0,Kl N];simp
def plB_w1:Ps (Qx vs W) (vs.length+1)=⟨W,2,true⟩:=by
 unfold Ps Qx Xu;rw[J0,Kl N];simp
def vh(hi:i<vs.length):Vn (Vg vs) i=⟨i,0,(gv vs i).limbs⟩:=by
 unfold Vn Vg;rw[J0,Lv,List.getElem?_range hi];rfl
def zo(hv:Tg vs=true)(hi:i<vs.length):1≤(gv vs i).limbs∧(gv vs i).limbs≤512:=by
 obtain⟨k,e,_,_,g,j⟩:=z85 hv (v:=(i:Int)) J;unfold Qs at g j;rw[Kr]at g j;exact⟨g,j⟩
def mem_gv{v:Vr}(h:v∈vs):∃i,i<vs.length∧gv vs i=v:=by
 obtain⟨i,hi,e⟩:=L5.1 h;have h:=Vf hi;rw[J7 hi,e]at h;exact⟨i,hi,(Option.some.inj h).symm⟩
def zs3(hv:Tg vs=true)(j:1≤W∧W≤32768):∀b∈Qx vs W,1≤b.size∧b.size≤65536∧1≤b.kind∧b.kind≤3:=by
 intro b hb;unfold Qx Xu at hb;rcases Kx.1 hb with hb|hb
 ·obtain⟨v,g,rfl⟩:=N0.1 hb;obtain⟨i,hi,rfl⟩:=mem_gv g;have:=zo hv hi;simp only;omega
 ·simp at hb;rcases hb with rfl|rfl<;>simp only<;>omega
def zwq(hv:Tg vs=true)(hm:∀i,i<vs.length→(gv vs i).mode=0)(hn:vs.length≤30)(z:1≤W∧W≤32768):Wp vs (Qx vs W) (Vg vs) ⟨vs.length,0,W⟩ ⟨(vs.length:Int)+1,0,W⟩=true:=by
 have g:=zs3 hv z;have hb:mr (Qx vs W)=0:=by
  unfold mr;rw[plB_len,J1 J,J1,J1]
  ·rw[La];rintro⟨b,hb,hk⟩;have:=g b hb;simp at hk;omega
  ·rw[La];rintro⟨b,hb,hk⟩;have:=g b hb;simp at hk;omega
 unfold Wp;rw[hv,hb,plB_len,plP_len];simp only[Nu,decide_true,J2,Kb];refine⟨J,?_,?_,?_⟩
 ·refine Li.2 λi hi=>?_
  have hi:=Mf.1 hi;have A:=zo hv hi;have j:=hm i hi;have e:((⟨i,0,(gv vs i).limbs⟩:Pc).buf.toNat)=i:=N
  unfold js Yp;rw[vh hi,e,ce hi,plB_len];simp[Uq,j];omega
 ·have e:((⟨vs.length,0,W⟩:Pc).buf.toNat)=vs.length:=N
  unfold Yh Yp;rw[e,plB_w0,plB_len];simp;omega
 ·have e:((⟨(vs.length:Int)+1,0,W⟩:Pc).buf.toNat)=vs.length+1:=by simp only;omega
  unfold Yh Yp;rw[e,plB_w1,plB_len];simp;omega
end pl
section st
variable {bs : List Bf} {X : List (List UInt64)} {i : Nat}
def zi1(h:((X.getD i []).length:Int)=(Ps bs i).size)(hi:i<bs.length):(Sc 64 bs X).bufs.getD i []=X.getD i []:=by
 show (Vu bs X bs.length).getD i []=_;unfold Vu;rw[J0,Lv,List.getElem?_range hi];simp only[Mg,L0];unfold X5;rw[(J:(Ps bs i).size.toNat-(X.getD i []).length=0)];simp
def zms(h:((X.getD i []).length:Int)=(Ps bs i).size)(hi:i<bs.length):lf (Sc 64 bs X) i=(Ps bs i).size.toNat:=by
 unfold lf;rw[zi1 h hi];omega
def start_m(h:((X.getD i []).length:Int)=(Ps bs i).size)(hi:i<bs.length)(g:Nat):(X9 (Sc 64 bs X)).m i g=(X.getD i []).getD g 0:=by
 show ((Sc 64 bs X).bufs.getD i []).getD g 0=_;rw[zi1 h hi]
def nr{p:Pn}(h:((X.getD p.b []).length:Int)=(Ps bs p.b).size)(g:Bp bs p):p.in_ (lf (Sc 64 bs X)):=by
 have z:=g.s;have A:=g.z;have j:=zms h g.b;unfold Pn.in_;rw[j];constructor
 ·omega
 ·exact_mod_cast (J:(Ps bs p.b).size.toNat≤65536)
def ym{p:Pn}{n:Nat}(h:((X.getD p.b []).length:Int)=(Ps bs p.b).size)(g:p.b<bs.length)(ha:p.a=0)(hn:(X.getD p.b []).length=n):vl (pl (X9 (Sc 64 bs X)).m p) n=val (X.getD p.b []):=by
 refine vl_get (Ni hn) λi hi=>?_
 show (X9 (Sc 64 bs X)).m p.b (p.a+i)=_;rw[ha,Kw,start_m h g]
end st
end
section
noncomputable section
def Ty(p:Pc)(g d i off:Int):Lo:=if off<p.size then P7 d p i off else Ub d g
def Qc(D:Int)(body:Int→List Lo):List Int→Fr Lo
 |x::y::l=>(Ri D (y-x) (P0 (body x))).cat (Qc D body (y::l))
 |_=>.nil
def uh:List Int→List Int
 |x::y::l=>if x=y then uh (y::l) else x::uh (y::l)
 |l=>l
def ddp_head:∀(l:List Int) (x:Int),∃t,uh (x::l)=x::t
 |[],x=>⟨[],rfl⟩
 |y::l,x=>by
  rw[uh];by_cases e:x=y
  ·rw[J6 e,e];exact ddp_head l y
  ·rw[J1 e];exact⟨_,rfl⟩
def zo3{D:Int}{body:Int→List Lo}:∀l:List Int,Qc D body (uh l)=Qc D body l
 |[]=>rfl
 |[_]=>rfl
 |x::y::l=>by
  rw[uh];by_cases e:x=y
  ·rw[J6 e,zo3 (y::l),Qc,e,Int.sub_self];rfl
  ·obtain⟨t,g⟩:=ddp_head l y;have h:=zo3 (D:=D) (body:=body) (y::l);rw[J1 e,g,Qc,Qc,←g,h]
def zi5{g:Int}:∀l:List Int,g∈uh l↔g∈l
 |[]=>Iff.rfl
 |[_]=>Iff.rfl
 |x::y::l=>by
  rw[uh];by_cases e:x=y
  ·rw[J6 e,zi5 (y::l),e];simp
  ·rw[J1 e,Ka,zi5 (y::l)];simp
def rise_ddp:∀l:List Int,l.Pairwise (·≤·)→(uh l).Pairwise (· < ·)
 |[],_=>.nil
 |[_],_=>by simp[uh]
 |x::y::l,h=>by
  obtain⟨A,j⟩:=Nw.1 h;have z:=rise_ddp (y::l) j;rw[uh];by_cases e:x=y
  ·rw[J6 e];exact z
  ·rw[J1 e];refine Nw.2 ⟨λC g=>?_,z⟩;have g:=(zi5 _).1 g;have B:=A y (K2 ..);rcases Ka.1 g with q|q
   ·omega
   ·have:=(Nw.1 j).1 C q;omega
def ux{l:List Int}(h:sTo l l.length):l.Pairwise (·≤·):=by
 rw[List.pairwise_iff_getElem];intro i z hi j g;have:=h i z g j;simpa [gd,hi,j] using this
def seg_eq{D:Int}{body:Int→List Lo}{l:List Int}(h:sTo l l.length)(g:vR.Pairwise (·≤·))(hm:∀x,x∈l↔x∈vR):Qc D body l=Qc D body vR:=by
 rw[←zo3 l,←zo3 vR,rise_eq (rise_ddp l (ux h)) (rise_ddp vR g) λx=>by rw[zi5,zi5,hm]]
def bj(n a:Int):List Int:=[0,min a n,n]
def bx(n a b:Int):List Int:=[0,min (min a b) n,min (max a b) n,n]
def zwz{n a:Int}(hn:0≤n)(ha:0≤a):(bj n a).Pairwise (·≤·):=by simp[bj];omega
def zws{n a b:Int}(hn:0≤n)(ha:0≤a)(hb:0≤b):(bx n a b).Pairwise (·≤·):=by simp[bx];omega
def jl{n a x:Int}:x∈[0,n,min a n]↔x∈bj n a:=by simp[bj];omega
def i4{n a b x:Int}:x∈[0,n,min a n,min b n]↔x∈bx n a b:=by simp[bx];omega
def fj(z:Int)(to a b:Pc)(g:Bool)(j D off:Int):List Lo :=
 [Ty a j (j+2) D off,Ty b j (j+3) D off,Qy z (j+4) (j+1) (j+2) (j+3) (j+1)]++if g=true then [Qn to D off (j+4)] else []
def R7(kd:Int)(to a b:Pc)(n:Int)(keep:Bool)(R D:Int):Fr Lo:=(P0 [cK (R+1) 0]).cat (Qc D (fj kd to a b keep R D) (bx n a.size b.size))
def il(to g:Pc)(j D off:Int):List Lo:=[Ty g j (j+2) D off,Qn to D off (j+2)]
def Sd(to g:Pc)(R D:Int):Fr Lo:=Qc D (il to g R D) (bj to.size g.size)
def rl(m:Nat→Nat→UInt64)(p:Pn)(i:Nat):UInt64:=if i<p.k then pl m p i else 0
def zyw{m:Nat→Nat→UInt64}{p:Pn}{i:Nat}(h:i<p.k):rl m p i=pl m p i:=J6 h
def rl_ge{m:Nat→Nat→UInt64}{p:Pn}{i:Nat}(h:p.k≤i):rl m p i=0:=J1 J
def zo1{m:Nat→Nat→UInt64}{p:Pn}:∀{n:Nat},p.k≤n→vl (rl m p) n=vl (pl m p) p.k
 |n,h=>by
  induction n with
  |zero =>
   have:p.k=0:=J
   rw[this];rfl
  |succ n g =>
   by_cases q:p.k≤n
   ·rw[W6,g q,rl_ge q];simp
   ·have e:p.k=n+1:=J
    rw[e];exact Vz λi hi=>zyw J
def wu{m:Nat→Nat→UInt64}{p:Pn}{n:Nat}(h:n≤p.k):vl (rl m p) n=vl (pl m p) n:=Vz λi hi=>zyw J
section ex
variable {sz : Nat → Nat} {s : Fs}
def zsr{p:Pn}{d off j:Nat}(C:p.in_ sz)(D:s.r g=0)(z:(s.r A).toNat=j)(B:off<p.k→off+j<p.k):Sz sz (Ty p.p g d A off) s=some (s.put d (rl s.m p (off+j))):=by
 unfold Ty;obtain⟨G,E⟩:=C;by_cases F:off<p.k
 ·rw[J6 (by show (off:Int)<(p.k:Nat);omega),zr (by rw[z];have:=B F;omega) E,z,zyw (B F)]
 ·rw[J1 (by show ¬(off:Int)<(p.k:Nat);omega),az,D,rl_ge J]
def t8{I:Nat→Fs→Prop}{b:Fr Lo}{x y:Nat}(z:x≤y)(A:y<18446744073709551616)(h:I x s)(st:∀i s,x≤i→i<y→I i s→Tx sz b (s.put g (UInt64.ofNat (i-x))) (I (i+1))):Tx sz (Ri g ((y:Int)-x) b) s (I y):=by
 rw[(J:((y:Int)-x)=((y-x:Nat):Int))];refine .lp (λB=>I (x+B)) Aw J (λi s hi j=>?_) λC j=>by rwa [(J:x+(y-x)=y)]at j
 have:=st (x+i) s J J j
 rwa [(J:x+i-x=i)]at this
def segs_ex{I:Nat→Fs→Prop}{j:Int→List Lo}{x y z n:Nat}(D:x≤y)(E:y≤z)(F:z≤n)(hn:n<18446744073709551616)(h:I x s)
  (st:∀(off C i:Nat) s,(off=x∧C=y∨off=y∧C=z∨off=z∧C=n)→off≤i→i<C→I i s→Tx sz (P0 (j off)) (s.put g (UInt64.ofNat (i-off))) (I (i+1))):Tx sz (Qc g j [(x:Int),(y:Int),(z:Int),(n:Int)]) s (I n):=by
 unfold Qc;refine .cat (t8 (I:=I) D J h λi s A B=>st x y i s N A B) λH A=>?_
 unfold Qc;refine .cat (t8 (I:=I) E J A λi s A B=>st y z i s N A B) λK B=>?_
 unfold Qc;refine .cat (t8 (I:=I) F J B λi s A B=>st z n i s N A B) λL G=>?_
 unfold Qc;exact .nil G
def qk{I:Nat→Fs→Prop}{j:Int→List Lo}{x y n:Nat}(B:x≤y)(C:y≤n)(hn:n<18446744073709551616)(h:I x s)
  (st:∀(off D i:Nat) s,(off=x∧D=y∨off=y∧D=n)→off≤i→i<D→I i s→Tx sz (P0 (j off)) (s.put g (UInt64.ofNat (i-off))) (I (i+1))):Tx sz (Qc g j [(x:Int),(y:Int),(n:Int)]) s (I n):=by
 unfold Qc;refine .cat (t8 (I:=I) B J h λi s z A=>st x y i s N z A) λE z=>?_
 unfold Qc;refine .cat (t8 (I:=I) C J z λi s z A=>st y n i s N z A) λF A=>?_
 unfold Qc;exact .nil A
def RgC(z A:Nat)(s j:Fs):Prop:=∀g,¬(z+1≤g∧g≤z+4)→g≠A→j.r g=s.r g
def Tl(g:Int)(j v z A c:Nat):Prop:=if g=11 then v+j*c=z+A else v+A=z+j*c
def Z2(g:Int)(x y:UInt64)(c:Bool):UInt64×Bool:=if g=11 then Pq x y c else Rh x y c
def opZ_car{d e a b c:Nat}(hk:z=11∨z=12):Sz sz (Qy z d e a b c) s=some ((s.put d (Z2 z (s.r a) (s.r b) (decide (s.r c%2=1))).1).put e (Qp (Z2 z (s.r a) (s.r b) (decide (s.r c%2=1))).2)):=by
 rcases hk with rfl|rfl
 ·exact zrs
 ·exact opZ_sbb
def qg(hk:z=11∨z=12){v:Nat}{x y:UInt64}{c:Bool}(h:Tl z g v j A c.toNat):Tl z (g*18446744073709551616) (v+(Z2 z x y c).1.toNat*g) (j+x.toNat*g) (A+y.toNat*g) (Z2 z x y c).2.toNat:=by
 rcases hk with rfl|rfl
 ·have k:=z8v x y c;have e:Z2 11 x y c=Pq x y c:=rfl;rw[e];simp only[Tl,Lj]at h ⊢;generalize (Pq x y c).1.toNat=r at *;generalize (Pq x y c).2.toNat=B at *;have D:g*(r+18446744073709551616*B)=g*(x.toNat+y.toNat+c.toNat):=by rw[k]
  grind
 ·have k:=zvm x y c;have e:Z2 12 x y c=Rh x y c:=rfl;rw[e];have C:¬(12:Int)=11:=Ac
  simp only[Tl,J1 C]at h ⊢;generalize (Rh x y c).1.toNat=r at *;generalize (Rh x y c).2.toNat=B at *;have D:g*(r+y.toNat+c.toNat)=g*(x.toNat+18446744073709551616*B):=by rw[k]
  grind
def z7k(hk:B=11∨B=12){keep:Bool}{D n:Nat}{to a b:Pn}(hR:s.r A=0)(hD:D<A)(ha:a.in_ sz)(hb:b.in_ sz)(hn:n<18446744073709551616)(V:keep=true→to.in_ sz∧n≤to.k∧Yr to a∧Yr to b) :
  Tx sz (R7 B to.p a.p b.p n keep A D) s λs'=>RgC A D s s'∧(keep=false→s'.m=s.m)∧(keep=true→Qd to s.m s'.m)∧∃(c:Bool) (v:Nat),v<18446744073709551616^n∧s'.r (A+1)=Qp c∧(keep=true→vl (pl s'.m to) n=v)∧Tl B (18446744073709551616^n) v (vl (rl s.m a) n) (vl (rl s.m b) n) c.toNat:=by
 have e2:bx n a.p.size b.p.size=[((0:Nat):Int),((min (min a.k b.k) n:Nat):Int),((min (max a.k b.k) n:Nat):Int),((n:Nat):Int)]:=by
  show [(0:Int),min (min (a.k:Int) b.k) n,min (max (a.k:Int) b.k) n,(n:Int)]=_;rw[(J:min (min (a.k:Int) b.k) n=((min (min a.k b.k) n:Nat):Int)),(J:min (max (a.k:Int) b.k) n=((min (max a.k b.k) n:Nat):Int))];rfl
 have e1:cK ((A:Int)+1) 0=cK ((A+1:Nat):Int) 0:=rfl;unfold R7;rw[e2,e1];refine .op zya ?_;rw[show ∀g:Fr Lo,Fr.cat (P0 []) g=g from λ_=>rfl];refine Tx.mono (segs_ex (x:=0) (y:=min (min a.k b.k) n) (z:=min (max a.k b.k) n) (n:=n) (I:=λX E=>RgC A D s E∧(keep=false→E.m=s.m)∧(keep=true→Qd to s.m E.m)∧(∀i,X≤i→rl E.m a i=rl s.m a i)∧(∀i,X≤i→rl E.m b i=rl s.m b i)∧∃(c:Bool) (v:Nat),v<18446744073709551616^X∧E.r (A+1)=Qp c∧(keep=true→vl (pl E.m to) X=v)∧Tl B (18446744073709551616^X) v (vl (rl s.m a) X) (vl (rl s.m b) X) c.toNat)
  J J J J ⟨λL U _=>It,λ_=>rfl,λ_ _ _ _=>rfl,λ_ _=>rfl,λ_ _=>rfl,false,0,N,by simp[P8,Qp],λ_=>Ii,by simp[Tl,vl]⟩ λC nx i E gH hi gI ⟨g1,u1,o1,Y,Z,c,v,l1,c1,w1,v1⟩=>?_) λs' ⟨h1,h2,h3,_,_,c,v,h4,h5,h6,h7⟩=>⟨h1,h2,h3,c,v,h4,h5,h6,h7⟩
 have gK:i<n:=J
 have gg:C<a.k→C+(i-C)<a.k:=λ_=>J
 have gD:C<b.k→C+(i-C)<b.k:=λ_=>J
 have q0:¬A=D:=J
 have q1:¬D=A+1:=J
 have q2:¬D=A+2:=J
 have q3:¬D=A+3:=J
 have q4:¬D=A+4:=J
 have M:E.r A=0:=by rw[g1 A J J,hR]
 have O:C+(i-C)=i:=J
 have F:(UInt64.ofNat (i-C)).toNat=i-C:=Y5 J;have eb:fj B to.p a.p b.p keep A D C=Ty a.p A ((A+2:Nat):Int) D C::Ty b.p A ((A+3:Nat):Int) D C::Qy B ((A+4:Nat):Int) ((A+1:Nat):Int) ((A+2:Nat):Int) ((A+3:Nat):Int) ((A+1:Nat):Int)::(if keep=true then [Qn to.p D C ((A+4:Nat):Int)] else []):=rfl;rw[eb];refine .op (zsr (j:=i-C) ha (by simp[P8,q0,M]) (by simp[P8,F]) gg) (.op (zsr (j:=i-C) hb (by simp[P8,q0,M]) (by simp[P8,q2,F]) gD) (.op (opZ_car hk) ?_));rw[O];have hA:=Y i (J8 _);have hB:=Z i (J8 _);simp only[gq,hA,hB];have P:=qg hk (x:=rl s.m a i) (y:=rl s.m b i) v1;have r3:((((E.put D (UInt64.ofNat (i-C))).put (A+2) (rl s.m a i)).put (A+3) (rl s.m b i)).r (A+1))=Qp c:=by simp[P8,Ne.symm q1,c1]
 have r2:((((E.put D (UInt64.ofNat (i-C))).put (A+2) (rl s.m a i)).put (A+3) (rl s.m b i)).r (A+2))=rl s.m a i:=Il
 have r4:((((E.put D (UInt64.ofNat (i-C))).put (A+2) (rl s.m a i)).put (A+3) (rl s.m b i)).r (A+3))=rl s.m b i:=Il
 rw[r2,r3,r4,qj c];generalize Z2 B (rl s.m a i) (rl s.m b i) c=pc at *;obtain⟨p,G⟩:=pc;simp only at P ⊢;have hv:v+p.toNat*18446744073709551616^i<18446744073709551616^(i+1):=by
  have h3:=Kq (18446744073709551616^i) (show p.toNat+1≤18446744073709551616 from p.toNat_lt);rw[Ky,O5]at h3;rw[Ly,M3 (18446744073709551616^i)];omega
 have K:Tl B (18446744073709551616^(i+1)) (v+p.toNat*18446744073709551616^i) (vl (rl s.m a) (i+1)) (vl (rl s.m b) (i+1)) G.toNat:=by
  rw[Ly,W6,W6];exact P
 have Q:∀L,¬(A+1≤L∧L≤A+4)→L≠D→(((((E.put D (UInt64.ofNat (i-C))).put (A+2) (rl s.m a i)).put (A+3) (rl s.m b i)).put (A+4) p).put (A+1) (Qp G)).r L=s.r L:=λL U H=>by
  have z1:¬L=A+1:=J
  have z2:¬L=A+2:=J
  have z3:¬L=A+3:=J
  have z4:¬L=A+4:=J
  simp only[P8,z1,z2,z3,z4,H,M7];exact g1 L U H
 have R:(((((E.put D (UInt64.ofNat (i-C))).put (A+2) (rl s.m a i)).put (A+3) (rl s.m b i)).put (A+4) p).put (A+1) (Qp G)).r D=UInt64.ofNat (i-C):=by simp[P8,q1,q2,q3,q4]
 have gF:(((((E.put D (UInt64.ofNat (i-C))).put (A+2) (rl s.m a i)).put (A+3) (rl s.m b i)).put (A+4) p).put (A+1) (Qp G)).r (A+4)=p:=Il
 have T:(((((E.put D (UInt64.ofNat (i-C))).put (A+2) (rl s.m a i)).put (A+3) (rl s.m b i)).put (A+4) p).put (A+1) (Qp G)).r (A+1)=Qp G:=Il
 have hm:(((((E.put D (UInt64.ofNat (i-C))).put (A+2) (rl s.m a i)).put (A+3) (rl s.m b i)).put (A+4) p).put (A+1) (Qp G)).m=E.m:=rfl;generalize ((((E.put D (UInt64.ofNat (i-C))).put (A+2) (rl s.m a i)).put (A+3) (rl s.m b i)).put (A+4) p).put (A+1) (Qp G)=s2 at *;cases keep with
 |false =>
  refine .nil ⟨Q,λ_=>hm.trans (u1 rfl),(λh=>Ak),λk hk=>by rw[hm];exact Y k J,λk hk=>by rw[hm];exact Z k J,G,_,hv,T,(λh=>Ak),K⟩
 |true =>
  obtain⟨⟨gL,gG⟩,gM,da,db⟩:=V rfl;refine .op (zer (p:=to) (off:=C) (by rw[R,F];omega) gG) (.nil ?_);rw[R,F,O,gF];refine⟨λL U H=>by rw[Zu];exact Q L U H,(λh=>Ak),λ_=>(o1 rfl).trans (hm ▸ z6e J),λk hk=>?_,λk hk=>?_,G,_,hv,by rw[Zu];exact T,λ_=>?_,K⟩
  ·rw[←Y k J];unfold rl;split
   ·rw[da.sto J J J,hm]
   ·rfl
  ·rw[←Z k J];unfold rl;split
   ·rw[db.sto J J J,hm]
   ·rfl
  ·rw[W6,Zp,J6 rfl,←w1 rfl,Vz (g:=pl E.m to) λk hk=>by rw[Zp,J1 J,hm]]
def copy_ex(Y:s.r g=0)(hD:A<g)(K:R.in_ sz)(Z:vK.in_ sz)(df:Yr R vK) :
  Tx sz (Sd R.p vK.p g A) s λF=>(∀D,D≠g+2→D≠A→F.r D=s.r D)∧Qd R s.m F.m∧∀i,i<R.k→pl F.m R i=rl s.m vK i:=by
 obtain⟨gg,L⟩:=K;have e2:bj R.p.size vK.p.size=[((0:Nat):Int),((min vK.k R.k:Nat):Int),((R.k:Nat):Int)]:=by
  show [(0:Int),min (vK.k:Int) R.k,(R.k:Int)]=_;rw[(J:min (vK.k:Int) R.k=((min vK.k R.k:Nat):Int))];rfl
 unfold Sd;rw[e2];refine Tx.mono (qk (x:=0) (y:=min vK.k R.k) (n:=R.k) (I:=λj B=>(∀D,D≠g+2→D≠A→B.r D=s.r D)∧Qd R s.m B.m∧(∀i,j≤i→rl B.m vK i=rl s.m vK i)∧∀i,i<j→pl B.m R i=rl s.m vK i)
  J J J ⟨λ_ _ _=>rfl,λ_ _ _=>rfl,λ_ _=>rfl,λi hi=>J⟩ λz nx i B gD hi gF ⟨U,o1,V,v1⟩=>?_) λF ⟨h1,h2,_,h4⟩=>⟨h1,h2,h4⟩
 have gG:i<R.k:=J
 have M:z<vK.k→z+(i-z)<vK.k:=λ_=>J
 have q0:¬g=A:=J
 have X:¬A=g+2:=J
 have O:B.r g=0:=by rw[U g J J,Y]
 have E:z+(i-z)=i:=J
 have C:(UInt64.ofNat (i-z)).toNat=i-z:=Y5 J;have eb:il R.p vK.p g A z=[Ty vK.p g ((g+2:Nat):Int) A z,Qn R.p A z ((g+2:Nat):Int)]:=rfl;rw[eb];have hA:=V i (J8 _);refine .op (zsr (j:=i-z) Z (by simp[P8,q0,O]) (by simp[P8,C]) M) (.op (zer (p:=R) (off:=z) (by simp only[P8,J1 X,Lj,C];omega) L) (.nil ?_));rw[E,gq,hA];have P:(((B.put A (UInt64.ofNat (i-z))).put (g+2) (rl s.m vK i)).r A)=UInt64.ofNat (i-z):=by simp[P8,X]
 have Q:(((B.put A (UInt64.ofNat (i-z))).put (g+2) (rl s.m vK i)).r (g+2))=rl s.m vK i:=Il
 have hm:(((B.put A (UInt64.ofNat (i-z))).put (g+2) (rl s.m vK i)).m)=B.m:=rfl;have T:∀D,D≠g+2→D≠A→(((B.put A (UInt64.ofNat (i-z))).put (g+2) (rl s.m vK i)).r D)=s.r D:=λD G H=>by
  simp only[P8,G,H,M7];exact U D G H
 generalize ((B.put A (UInt64.ofNat (i-z))).put (g+2) (rl s.m vK i))=s2 at *;rw[P,C,E,Q];refine⟨λD G H=>by rw[Zu];exact T D G H,o1.trans (hm ▸ z6e J),λk hk=>?_,λk hk=>?_⟩
 ·rw[←V k J];unfold rl;split
  ·rw[df.sto J J J,hm]
  ·rfl
 ·rw[Zp];split
  ·rename_i e;rw[e]
  ·rw[hm];exact v1 k J
end ex
end
end
section
noncomputable section
set_option linter.unusedSimpArgs false
def Su(g b:Pc)(R j:Int):List Lo :=
 [P7 (R+5) b (j+1) 0,S0 (R+4) (R+5) (R+2) (R+5),Pv 3 8 j (j+1),P7 (R+6) g 8 0,Qy 11 (R+5) (R+1) (R+5) (R+6) R,Pv 3 (R+4) (R+4) (R+1),Qy 11 (R+5) (R+1) (R+5) (R+3) R,Pv 3 (R+3) (R+4) (R+1),Qn g 8 0 (R+5)]
def Zq(g a b:Pc)(R j:Int):Fr Lo:=(P0 [P7 (R+2) a j 0,cK (R+3) 0]).cat ((Ri (j+1) b.size (P0 (Su g b R j))).cat (P0 [Qn g j b.size (R+3)]))
def Sm(g a b:Pc)(z j:Int):Fr Lo:=(Uo g z j).cat (Ri j a.size (Zq g a b z j))
def gr(z A:Nat)(s j:Fs):Prop:=∀g,¬(z+1≤g∧g≤z+6)→g≠8→g≠A→g≠A+1→j.r g=s.r g
def gr.trans{R D:Nat}{s s' gg:Fs}(h:gr R D s s')(k:gr R D s' gg):gr R D s gg:=λz a b c d=>(k z a b c d).trans (h z a b c d)
def zk9(f:Nat→UInt64)(i:Nat):∀n,vl f (i+n)=vl f i+18446744073709551616^i*vl (λt=>f (i+t)) n
 |0=>Ii
 |n+1=>by
  rw[←L7,W6,zk9 f i n,W6,Nc]
  grind
section ex
variable {sz : Nat → Nat} {s : Fs}
def pin_ex{R i j:Nat}{b:Pn}(Q:s.r R=0)(hD:g+1<8)(T:8<R)(hi:(s.r g).toNat=i)(D:(s.r (g+1)).toNat=j)(hb:b.in_ sz)(U:vK.in_ sz)(jb:j<b.k)(jt:i+j<vK.k) :
  Tx sz (P0 (Su vK.p b.p R g)) s λC=>∃q:UInt64,(∀t,pl C.m vK t=if t=i+j then q else pl s.m vK t)∧Qd vK s.m C.m∧(∀z,¬(R+1≤z∧z≤R+6)∨z=R+2→z≠8→C.r z=s.r z) ∧
   q.toNat+18446744073709551616*(C.r (R+3)).toNat=(s.r (R+2)).toNat*(pl s.m b j).toNat+(pl s.m vK (i+j)).toNat+(s.r (R+3)).toNat:=by
 obtain⟨V,E⟩:=hb;obtain⟨X,A⟩:=U;have e:Su vK.p b.p R g=[P7 ((R+5:Nat):Int) b.p ((g+1:Nat):Int) ((0:Nat):Int),S0 ((R+4:Nat):Int) ((R+5:Nat):Int) ((R+2:Nat):Int) ((R+5:Nat):Int),Pv 3 ((8:Nat):Int) (g:Nat) ((g+1:Nat):Int),P7 ((R+6:Nat):Int) vK.p ((8:Nat):Int) ((0:Nat):Int),
  Qy 11 ((R+5:Nat):Int) ((R+1:Nat):Int) ((R+5:Nat):Int) ((R+6:Nat):Int) (R:Nat),Pv 3 ((R+4:Nat):Int) ((R+4:Nat):Int) ((R+1:Nat):Int),Qy 11 ((R+5:Nat):Int) ((R+1:Nat):Int) ((R+5:Nat):Int) ((R+3:Nat):Int) (R:Nat),Pv 3 ((R+3:Nat):Int) ((R+4:Nat):Int) ((R+1:Nat):Int),Qn vK.p ((8:Nat):Int) ((0:Nat):Int) ((R+5:Nat):Int)]:=rfl
 rw[e];have F:¬g=R+5:=J
 have G:¬g+1=R+5:=J
 have H:¬g=R+4:=J
 have I:¬g+1=R+4:=J
 have Y:¬R=8:=J
 have Z:¬R+5=8:=J
 have K:¬8=R+5:=J
 have L:¬8=R+4:=J
 have M:¬8=R+6:=J
 have O:¬8=R+1:=J
 have P:¬8=R+3:=J
 have x7:¬R+4=8:=J
 have x8:¬R+3=8:=J
 have x9:¬g=R+3:=J
 have B:(s.r g+s.r (g+1)).toNat=i+j:=by rw[Mr,hi,D];exact Ke J
 refine .op (zr (p:=b) (by rw[D];omega) E) (.op opZ_mul (.op zsz (.op (zr (p:=vK) ?_ A) (.op zrs (.op zsz (.op zrs (.op zsz (.op (zer (p:=vK) ?_ A) (.nil ?_)))))))))
 ·simp only[P8,Lj,F,G,H,I,M7];rw[B];omega
 ·simp only[P8,Lj,F,G,H,I,K,L,M,O,P,M7];rw[B];omega
 simp[P8,gq,F,G,H,I,Y,Z,K,L,M,O,P,x7,x8,x9,Q,B,D,-UInt64.toNat_add];refine⟨_,λt=>Zp vK _ (i+j) t _,?_,λz hz B=>?_,?_⟩
 ·intro x y hn;exact z6e (p:=vK) (s:=s) (i:=i+j) J x y hn
 ·have z1:¬z=R+1:=J
  have z3:¬z=R+3:=J
  have z4:¬z=R+4:=J
  have z5:¬z=R+5:=J
  have z6:¬z=R+6:=J
  simp[Zu,P8,z1,z3,z4,z5,z6,B]
 ·simp[Zu,P8,-UInt64.toNat_add];exact sum_val (x:=s.r (R+2)) (y:=pl s.m b j) (w:=pl s.m vK (i+j)) (m:=s.r (R+3)) rfl rfl rfl rfl rfl rfl
def prow_ex{R i:Nat}{a b:Pn}(hR:s.r R=0)(hD:A+1<8)(P:8<R)(hi:(s.r A).toNat=i)(ha:a.in_ sz)(hb:b.in_ sz)(G:vK.in_ sz)(ia:i<a.k)(it:i+b.k<vK.k)(db:Dj vK b) :
  Tx sz (Zq vK.p a.p b.p R A) s λI=>(∀B,¬(R+1≤B∧B≤R+6)→B≠8→B≠A+1→I.r B=s.r B)∧Qd vK s.m I.m∧(∀t,t<i→pl I.m vK t=pl s.m vK t) ∧
   vl (λt=>pl I.m vK (i+t)) (b.k+1)=vl (λt=>pl s.m vK (i+t)) b.k+(pl s.m a i).toNat*vl (pl s.m b) b.k:=by
 have Q:=hb;have T:=G;obtain⟨gg,U⟩:=ha;obtain⟨gD,gF⟩:=hb;obtain⟨gG,V⟩:=G;have e:Zq vK.p a.p b.p R A=(P0 [P7 ((R+2:Nat):Int) a.p (A:Nat) ((0:Nat):Int),cK ((R+3:Nat):Int) 0]).cat ((Ri ((A+1:Nat):Int) (b.k:Nat) (P0 (Su vK.p b.p R A))).cat (P0 [Qn vK.p (A:Nat) (b.k:Nat) ((R+3:Nat):Int)])):=rfl;rw[e];refine .op (zr (p:=a) (by rw[hi];omega) U) (.op zya ?_);rw[show ∀g:Fr Lo,Fr.cat (P0 []) g=g from λ_=>rfl,hi,Kw];generalize D:(Fs.put (s.put (R+2) (pl s.m a i)) (R+3) 0)=H;have m0:H.m=s.m:=by rw[←D];rfl
 have y0:H.r (R+2)=pl s.m a i:=by rw[←D];simp[P8]
 have c0:H.r (R+3)=0:=by rw[←D];simp[P8]
 have X:∀B,B≠R+2→B≠R+3→H.r B=s.r B:=λB K Y=>by rw[←D];simp[P8,K,Y]
 refine .cat (R:=λz=>(∀B,¬(R+1≤B∧B≤R+6)→B≠8→B≠A+1→z.r B=s.r B)∧Qd vK s.m z.m∧(∀t,t<i∨i+b.k≤t→pl z.m vK t=pl s.m vK t)∧vl (λt=>pl z.m vK (i+t)) b.k+18446744073709551616^b.k*(z.r (R+3)).toNat=vl (λt=>pl s.m vK (i+t)) b.k+(pl s.m a i).toNat*vl (pl s.m b) b.k) ?_ λz ⟨L,M,O,v1⟩=>?_
 ·refine .lp (λF z=>(∀B,¬(R+1≤B∧B≤R+6)∨B=R+2→B≠8→B≠A+1→z.r B=H.r B)∧Qd vK s.m z.m∧(∀t,t<i∨i+F≤t→pl z.m vK t=pl s.m vK t)∧vl (λt=>pl z.m vK (i+t)) F+18446744073709551616^F*(z.r (R+3)).toNat=vl (λt=>pl s.m vK (i+t)) F+(pl s.m a i).toNat*vl (pl s.m b) F) ⟨λ_ _ _ _=>rfl,λ_ _ _=>by rw[m0],λ_ _=>by rw[m0],by simp[vl,c0]⟩ J (λF z hj ⟨L,M,O,v1⟩=>?_) λz ⟨h1,K,Y,h4⟩=>⟨λB Z h8 hd=>(h1 B (.inl Z) h8 hd).trans (X B J J),K,Y,h4⟩
  have E:∀B,¬(R+1≤B∧B≤R+6)∨B=R+2→B≠8→B≠A+1→(z.put (A+1) (UInt64.ofNat F)).r B=H.r B:=λB a b c=>by rw[P8,J1 c,L B a b c]
  have j3:(z.put (A+1) (UInt64.ofNat F)).r (R+3)=z.r (R+3):=It
  have C:((z.put (A+1) (UInt64.ofNat F)).r A).toNat=i:=by rw[E A J J J,X A J J,hi]
  refine Tx.mono (pin_ex (i:=i) (j:=F) (by rw[E R J J J,X R J J,hR]) hD P C (by rw[P8,J6 rfl];exact Y5 J) Q T hj J) λs2 ⟨q,e1,e2,e3,e4⟩=>⟨λB a b c=>(e3 B a b).trans (E B a b c),M.trans e2,λt G=>?_,?_⟩
  ·rw[e1,J1 J];exact O t J
  ·rw[E (R+2) (.inr rfl) J J,gq,M.pl db hj,O (i+F) J,j3,y0]at e4;rw[W6,W6,W6,Ly];rw[e1,J6 rfl,Vz (g:=λt=>pl z.m vK (i+t)) λt G=>by rw[e1,J1 J];rfl];generalize vl (λt=>pl z.m vK (i+t)) F=gI at *;generalize vl (λt=>pl s.m vK (i+t)) F=gK at *;generalize vl (pl s.m b) F=gL at *;generalize 18446744073709551616^F=gH at *;have K:gH*(q.toNat+18446744073709551616*(s2.r (R+3)).toNat)=gH*((pl s.m a i).toNat*(pl s.m b F).toNat+(pl s.m vK (i+F)).toNat+(z.r (R+3)).toNat):=by rw[e4]
   grind
 ·have C:(z.r A).toNat=i:=by rw[L A J J J,hi]
  refine .op (zer (p:=vK) (by rw[C];omega) V) (.nil ⟨λB Z h8 hd=>by rw[Zu];exact L B Z h8 hd,?_,λt G=>?_,?_⟩)
  ·rw[C];exact M.trans (z6e J)
  ·rw[C,Zp,J1 J];exact O t (.inl G)
  ·rw[C,W6];rw[Zp,J6 J,Vz (g:=λt=>pl z.m vK (i+t)) λt G=>by rw[Zp,J1 J],M3 (z.r (R+3)).toNat];exact v1
def zpq{to a b:Pn}(L:s.r j=0)(T:A+1<8)(F:8<j)(ha:a.in_ sz)(hb:b.in_ sz)(B:to.in_ sz)(hk:to.k=a.k+b.k)(U:Dj to a)(M:Dj to b) :
  Tx sz (Sm to.p a.p b.p j A) s λG=>gr j A s G∧Qd to s.m G.m∧vl (pl G.m to) to.k=vl (pl s.m a) a.k*vl (pl s.m b) b.k:=by
 unfold Sm;refine .cat (zsh B J) λV ⟨X,Y,Z⟩=>?_
 have e:Ri (A:Int) a.p.size (Zq to.p a.p b.p j A)=Ri (A:Nat) (a.k:Nat) (Zq to.p a.p b.p j A):=rfl;rw[e];have gg:=ha.1;have gD:=ha.2;refine .lp (λi z=>gr j A s z∧Qd to s.m z.m∧vl (pl z.m to) (i+b.k)=vl (pl s.m a) i*vl (pl s.m b) b.k) ⟨λR _ _ hz _=>X R hz,Y,?_⟩ J (λi z hi ⟨O,H,v1⟩=>?_) λz ⟨C,D,E⟩=>⟨C,D,by rw[hk];exact E⟩
 ·rw[Kw,vl,M0];have:∀n,n≤b.k→vl (pl V.m to) n=0:=λn hn=>by
   induction n with
   |zero=>rfl
   |succ n ih=>rw[W6,ih J,Z n J,L];simp
  exact this _ (J8 _)
 ·have I:((z.put A (UInt64.ofNat i)).r A).toNat=i:=by rw[P8,J6 rfl];exact Y5 J
  refine Tx.mono (prow_ex (i:=i) (by rw[P8,J1 J,O j J J J J,L]) T F I ha hb B hi J M) λs2 ⟨e1,e2,P,K⟩=>⟨λR C D E Q=>?_,H.trans e2,?_⟩
  ·rw[e1 R C D Q,P8,J1 E];exact O R C D E Q
  ·rw[gq]at K P;rw[H.pl U hi,H.vl M (J8 _)]at K;rw[zk9]at v1;rw[(J:i+1+b.k=i+(b.k+1)),zk9,K,W6,Vz (g:=pl z.m to) λt B=>P t B];generalize vl (λt=>pl z.m to (i+t)) b.k=gF at *;generalize vl (pl z.m to) i=gG at *;generalize vl (pl s.m b) b.k=gH at *;generalize vl (pl s.m a) i=gI at *;generalize 18446744073709551616^i=gK at *
   grind
end ex
end
end
section
set_option linter.unusedSimpArgs false
def vl_part(f:Nat→UInt64){n m:Nat}(h:n≤m):vl f n=vl f m%18446744073709551616^n:=by
 obtain⟨k,rfl⟩:∃k,m=n+k:=⟨m-n,J⟩;rw[zk9,Nr,Ke (Vj _ _)]
def Yc{m:Nat→Nat→UInt64}{p:Pn}{n:Nat}:vl (rl m p) n=vl (pl m p) p.k%18446744073709551616^n:=by
 by_cases h:n≤p.k
 ·rw[wu h,vl_part _ h]
 ·rw[zo1 J,Ke];exact Kt (Vj _ _) (Lr Ac J)
def Pb(p:Pn)(x k:Nat):Pn:=⟨p.b,p.a+x,k⟩
noncomputable def U4(d a b w:Pn)(n R D:Nat):Fr Lo :=
 let h:=n/2;let m:=n-n/2
 if h=0 then (Sm (Pb w 0 (2*n)).p a.p b.p R D).cat (Sd d.p (Pb w 0 (2*n)).p R D)
 else (Sm (Pb w 0 (2*h)).p (Pb a 0 h).p (Pb b 0 h).p R D).cat ((Sm (Pb w (2*h) (2*m)).p (Pb a h m).p (Pb b h m).p R D).cat
  ((R7 11 (Pb w (2*n) (m+1)).p (Pb a 0 h).p (Pb a h m).p (m+1:Nat) true R D).cat ((R7 11 (Pb w (2*n+(m+1)) (m+1)).p (Pb b 0 h).p (Pb b h m).p (m+1:Nat) true R D).cat
  ((Sm (Pb w (2*n+2*(m+1)) (2*(m+1))).p (Pb w (2*n) (m+1)).p (Pb w (2*n+(m+1)) (m+1)).p R D).cat
  ((R7 12 (Pb w (2*n+2*(m+1)) (2*(m+1))).p (Pb w (2*n+2*(m+1)) (2*(m+1))).p (Pb w 0 (2*h)).p (2*(m+1):Nat) true R D).cat
  ((R7 12 (Pb w (2*n+2*(m+1)) (2*(m+1))).p (Pb w (2*n+2*(m+1)) (2*(m+1))).p (Pb w (2*h) (2*m)).p (2*(m+1):Nat) true R D).cat
  ((R7 11 (Pb w h (2*n-h)).p (Pb w h (2*n-h)).p (Pb w (2*n+2*(m+1)) (2*(m+1))).p (2*n-h:Nat) true R D).cat
  (Sd d.p (Pb w 0 (2*n)).p R D))))))))
section ex
variable {sz : Nat → Nat} {s : Fs}
def RgC.p{R D:Nat}{s s':Fs}(h:RgC R D s s'):gr R D s s':=λz h1 _ h3 _=>h z J h3
def zfb{n:Nat}{to a b:Pn}(D:s.r g=0)(E:j<g)(ha:a.in_ sz)(hb:b.in_ sz)(A:to.in_ sz)(hn:n=to.k)(F:Yr to a)(G:Yr to b)(L:vl (pl s.m a) a.k+vl (pl s.m b) b.k<18446744073709551616^n) :
  Tx sz (R7 11 to.p a.p b.p n true g j) s λz=>gr g j s z∧Qd to s.m z.m∧vl (pl z.m to) to.k=vl (pl s.m a) a.k+vl (pl s.m b) b.k:=by
 have H:n<18446744073709551616:=by have:=A.1;have:=A.2;omega
 refine (z7k (.inl rfl) (keep:=true) D E ha hb H λ_=>⟨A,J,F,G⟩).mono λz ⟨I,_,K,c,v,M,_,B,C⟩=>⟨I.p,K rfl,?_⟩
 have B:=B rfl;rw[Tl,J6 rfl,Yc,Yc,Ke J,Ke J]at C;rw[←hn,B];cases c with
 |false=>simpa using C
 |true=>simp at C;omega
def zos{n:Nat}{to a b:Pn}(E:s.r g=0)(F:j<g)(ha:a.in_ sz)(hb:b.in_ sz)(A:to.in_ sz)(hn:n=to.k)(B:a.k≤n)(G:Yr to a)(H:Yr to b)(O:vl (pl s.m b) b.k≤vl (pl s.m a) a.k) :
  Tx sz (R7 12 to.p a.p b.p n true g j) s λz=>gr g j s z∧Qd to s.m z.m∧vl (pl z.m to) to.k+vl (pl s.m b) b.k=vl (pl s.m a) a.k:=by
 have I:n<18446744073709551616:=by have:=A.1;have:=A.2;omega
 refine (z7k (.inr rfl) (keep:=true) E F ha hb I λ_=>⟨A,J,G,H⟩).mono λz ⟨K,_,L,c,v,P,_,C,D⟩=>⟨K.p,L rfl,?_⟩
 have C:=C rfl;have M:vl (pl s.m a) a.k<18446744073709551616^n:=Kt (Vj _ _) (Lr Ac B);rw[Tl,J1 Ac,Yc,Yc,Ke J,Ke J]at D;rw[←hn,C];cases c with
 |false=>simpa using D
 |true=>simp at D;omega
def zfh{D:Nat}{to fr:Pn}(A:s.r g=0)(B:D<g)(z:to.in_ sz)(C:fr.in_ sz)(E:Yr to fr) :
  Tx sz (Sd to.p fr.p g D) s λj=>gr g D s j∧Qd to s.m j.m∧vl (pl j.m to) to.k=vl (pl s.m fr) fr.k%18446744073709551616^to.k:=by
 refine (copy_ex A B z C E).mono λj ⟨F,G,H⟩=>⟨λI a _ c _=>F I J c,G,?_⟩
 rw[←Yc];exact Vz H
def zz1{mid E G H V F:Nat}(z:U=g*A)(B:vO=j*D)(C:mid=(g+j)*(A+D))(I:uR+U=mid)(K:E+vO=uR)(L:G+F*H=U+F*F*vO)(M:V=H+E):G+F*V=(g+F*j)*(A+F*D):=by
 have O:E=g*D+j*A:=by
  have:E+(j*D+g*A)=g*D+j*A+(j*D+g*A):=by
   rw[←B,←z,←L7,K,I,C,z,B];grind
  omega
 rw[M,O,Np,←L7,L,z,B]
 grind
def hal_ex{n:Nat}{d a b w:Pn}(hR:s.r g=0)(hD:j+1<8)(K:8<g)(ha:a.in_ sz)(hb:b.in_ sz)(hd:d.in_ sz)(hw:w.in_ sz)(gL:a.k=n)(gM:b.k=n)(hn:1≤n)(gO:2*n+4*(n-n/2+1)≤w.k)(G:w.b≠a.b)(H:w.b≠b.b)(wd:w.b≠d.b) :
  Tx sz (U4 d a b w n g j) s λs'=>gr g j s s'∧Fm [w,d] s.m s'.m∧vl (pl s'.m d) d.k=vl (pl s.m a) a.k*vl (pl s.m b) b.k%18446744073709551616^d.k:=by
 have z:∀x k,x+k≤w.k→(Pb w x k).in_ sz:=λx k h=>by
  obtain⟨h1,h2⟩:=hw;exact⟨by show w.a+x+k≤sz w.b;omega,h2⟩
 have A:∀x k,x+k≤w.k→∀{m X:Nat→Nat→UInt64},Qd (Pb w x k) m X→Fm [w,d] m X:=λx k h m X o=>λu v hn=>o u v λ⟨q1,q2,q3⟩=>hn w N ⟨q1,by have:w.a+x≤v:=q2;omega,by have:v<w.a+x+k:=q3;omega⟩
 have jY:∀{m X:Nat→Nat→UInt64} (q:Pn),w.b≠q.b→(∀x k,Qd (Pb w x k) m X→∀c,c≤q.k→vl (pl X q) c=vl (pl m q) c):=λ{m X} q E x k o c hc=>o.vl (.inl E) hc
 have C:j<g:=J
 unfold U4;simp only;by_cases h0:n/2=0
 ·rw[J6 h0];refine .cat (zpq (to:=Pb w 0 (2*n)) hR hD K ha hb (z _ _ J) (by show 2*n=_;omega) (.inl G) (.inl H)) λs1 ⟨g1,o1,v1⟩=>?_
  have L:s1.r g=0:=Iv
  refine (zfh L C hd (z _ _ J) (.inl (.inl (Ne.symm wd)))).mono λs2 ⟨g2,o2,v2⟩=>⟨g1.trans g2,(A _ _ J o1).trans (o2.fm N),?_⟩
  rw[v2,v1]
 rw[J1 h0];have hh:1≤n/2:=J
 obtain⟨h,jK⟩:∃h,n/2=h:=⟨_,rfl⟩;obtain⟨m,jL⟩:∃m,n-h=m:=⟨_,rfl⟩;rw[jK]at hh gO ⊢;rw[jL]at gO ⊢;have Y:h≤m∧m≤h+1∧h+m=n:=J
 have B:∀(q:Pn) x k,q.in_ sz→x+k≤q.k→(Pb q x k).in_ sz:=λq x k E h=>by
  obtain⟨h1,h2⟩:=E;exact⟨by show q.a+x+k≤sz q.b;omega,h2⟩
 have W0:0<18446744073709551616^h:=Ou N;have sp:∀(q:Pn) (f:Nat→Nat→UInt64),q.k=n→vl (pl f q) q.k=vl (pl f (Pb q 0 h)) h+18446744073709551616^h*vl (pl f (Pb q h m)) m:=λq f E=>by
  have e:vl (λt=>pl f q (h+t)) m=vl (pl f (Pb q h m)) m:=Vz λi _=>by
   show f q.b (q.a+(h+i))=f q.b (q.a+h+i);rw[L7]
  rw[E,←Y.2.2,zk9,e];rfl
 have Z:∀(f:Nat→Nat→UInt64) (x k l:Nat),vl (pl f (Pb w x (k+l))) (k+l)=vl (pl f (Pb w x k)) k+18446744073709551616^k*vl (pl f (Pb w (x+k) l)) l:=λf x k l=>by
  rw[zk9]
  congr 2
  refine Vz λi _=>?_
  show f w.b (w.a+x+(k+i))=f w.b (w.a+(x+k)+i)
  congr 1;omega
 have jM:vl (pl s.m (Pb a 0 h)) h<18446744073709551616^m:=Kt (Vj _ _) (Lr Ac Y.1);have jO:vl (pl s.m (Pb a h m)) m<18446744073709551616^m:=Vj _ _;have jP:vl (pl s.m (Pb b 0 h)) h<18446744073709551616^m:=Kt (Vj _ _) (Lr Ac Y.1);have jQ:vl (pl s.m (Pb b h m)) m<18446744073709551616^m:=Vj _ _;have jR:=sp a s.m gL;have jT:=sp b s.m gM;have gg:vl (pl s.m a) a.k*vl (pl s.m b) b.k<18446744073709551616^(2*n):=by
  rw[(J:2*n=n+n),Nc];exact Nat.mul_lt_mul'' (by rw[gL];exact Vj _ _) (by rw[gM];exact Vj _ _)
 have gR:∀x y:Nat,x<18446744073709551616^m→y<18446744073709551616^m→x+y<18446744073709551616^(m+1):=λx y hx hy=>by rw[Ly];omega
 rw[jR,jT]at gg ⊢;refine .cat (zpq (to:=Pb w 0 (2*h)) (a:=Pb a 0 h) (b:=Pb b 0 h) hR hD K (B a 0 h ha J) (B b 0 h hb J) (z _ _ J) (by show 2*h=h+h;omega) (.inl G) (.inl H)) λs1 ⟨g1,o1,v1⟩=>?_
 have L:s1.r g=0:=Iv
 refine .cat (zpq (to:=Pb w (2*h) (2*m)) (a:=Pb a h m) (b:=Pb b h m) L hD K (B a h m ha J) (B b h m hb J) (z _ _ J) (by show 2*m=m+m;omega) (.inl G) (.inl H)) λs2 ⟨g2,o2,v2⟩=>?_
 have gT:s2.r g=0:=by rw[g2 g J J J J,L]
 rw[o1.vl (q:=Pb a h m) (.inl G) (J8 _),o1.vl (q:=Pb b h m) (.inl H) (J8 _)]at v2;have f2:∀q:Pn,w.b≠q.b→∀c,c≤q.k→vl (pl s2.m q) c=vl (pl s.m q) c:=λq E c hc=>by rw[o2.vl (.inl E) hc,o1.vl (.inl E) hc]
 have gU:vl (pl s2.m (Pb w 0 (2*h))) (2*h)=_:=(o2.vl (.inr (.inr (by show w.a+0+2*h≤w.a+2*h;omega))) (J8 _)).trans v1;refine .cat (zfb (to:=Pb w (2*n) (m+1)) (a:=Pb a 0 h) (b:=Pb a h m) gT C (B a 0 h ha J) (B a h m ha J) (z _ _ J) rfl (.inl (.inl G)) (.inl (.inl G)) (by rw[f2 (Pb a 0 h) G _ (J8 _),f2 (Pb a h m) G _ (J8 _)];exact gR _ _ jM jO)) λs3 ⟨g3,o3,v3⟩=>?_
 have gV:s3.r g=0:=by rw[g3 g J J J J,gT]
 rw[f2 (Pb a 0 h) G _ (J8 _),f2 (Pb a h m) G _ (J8 _)]at v3;have f3:∀q:Pn,w.b≠q.b→∀c,c≤q.k→vl (pl s3.m q) c=vl (pl s.m q) c:=λq E c hc=>by rw[o3.vl (.inl E) hc,f2 q E c hc]
 refine .cat (zfb (to:=Pb w (2*n+(m+1)) (m+1)) (a:=Pb b 0 h) (b:=Pb b h m) gV C (B b 0 h hb J) (B b h m hb J) (z _ _ J) rfl (.inl (.inl H)) (.inl (.inl H)) (by rw[f3 (Pb b 0 h) H _ (J8 _),f3 (Pb b h m) H _ (J8 _)];exact gR _ _ jP jQ)) λs4 ⟨g4,o4,v4⟩=>?_
 have gY:s4.r g=0:=by rw[g4 g J J J J,gV]
 rw[f3 (Pb b 0 h) H _ (J8 _),f3 (Pb b h m) H _ (J8 _)]at v4;have jU:vl (pl s4.m (Pb w (2*n) (m+1))) (m+1)=_:=(o4.vl (.inr (.inr (by show w.a+2*n+(m+1)≤w.a+(2*n+(m+1));omega))) (J8 _)).trans v3;refine .cat (zpq (to:=Pb w (2*n+2*(m+1)) (2*(m+1))) (a:=Pb w (2*n) (m+1)) (b:=Pb w (2*n+(m+1)) (m+1)) gY hD K (z _ _ J) (z _ _ J) (z _ _ J) (by show 2*(m+1)=(m+1)+(m+1);omega) (.inr (.inr (by show w.a+2*n+(m+1)≤w.a+(2*n+2*(m+1));omega))) (.inr (.inr (by show w.a+(2*n+(m+1))+(m+1)≤w.a+(2*n+2*(m+1));omega)))) λM ⟨g5,o5,v5⟩=>?_
 have gZ:M.r g=0:=by rw[g5 g J J J J,gY]
 have v5:vl (pl M.m (Pb w (2*n+2*(m+1)) (2*(m+1)))) (2*(m+1))=vl (pl s4.m (Pb w (2*n) (m+1))) (m+1)*vl (pl s4.m (Pb w (2*n+(m+1)) (m+1))) (m+1):=v5;have v4:vl (pl s4.m (Pb w (2*n+(m+1)) (m+1))) (m+1)=vl (pl s.m (Pb b 0 h)) h+vl (pl s.m (Pb b h m)) m:=v4;rw[jU,v4]at v5;have O:∀x k,x+k≤2*n→vl (pl M.m (Pb w x k)) k=vl (pl s2.m (Pb w x k)) k:=λx k hx =>
  (o5.vl (q:=Pb w x k) (n:=k) (.inr (.inr Dp)) (J8 _)).trans ((o4.vl (q:=Pb w x k) (n:=k) (.inr (.inr (by show w.a+x+k≤w.a+(2*n+(m+1));omega))) (J8 _)).trans (o3.vl (q:=Pb w x k) (n:=k) (.inr (.inr (by show w.a+x+k≤w.a+2*n;omega))) (J8 _)))
 have D:vl (pl M.m (Pb w 0 (2*h))) (2*h)=_:=(O 0 (2*h) J).trans gU;have gD:vl (pl M.m (Pb w (2*h) (2*m))) (2*m)=_:=(O (2*h) (2*m) J).trans v2;have jV:∀x y jZ t:Nat,x*jZ≤(x+y)*(jZ+t):=λx y jZ t=>Mb J J
 obtain⟨A0,jg⟩:∃A0,vl (pl s.m (Pb a 0 h)) h=A0:=⟨_,rfl⟩;obtain⟨P,jz⟩:∃P,vl (pl s.m (Pb a h m)) m=P:=⟨_,rfl⟩;obtain⟨B0,gF⟩:∃B0,vl (pl s.m (Pb b 0 h)) h=B0:=⟨_,rfl⟩;obtain⟨Q,gG⟩:∃Q,vl (pl s.m (Pb b h m)) m=Q:=⟨_,rfl⟩;have R:vl (pl s.m (Pb a 0 h)) (Pb a 0 h).k=A0:=jg;have T:vl (pl s.m (Pb a h m)) (Pb a h m).k=P:=jz;have jA:vl (pl s.m (Pb b 0 h)) (Pb b 0 h).k=B0:=gF;have jB:vl (pl s.m (Pb b h m)) (Pb b h m).k=Q:=gG;rw[R,T,gF,gG]at v5;rw[R,jA]at D;rw[T,jB]at gD;rw[jg,jz,gF,gG]at gg ⊢;refine .cat (zos (to:=Pb w (2*n+2*(m+1)) (2*(m+1))) (a:=Pb w (2*n+2*(m+1)) (2*(m+1))) (b:=Pb w 0 (2*h)) gZ C (z _ _ J) (z _ _ J) (z _ _ J) rfl (J8 _) (.inr ⟨rfl,rfl⟩) (.inl (.inr (.inr (by show w.a+0+2*h≤w.a+(2*n+2*(m+1));omega)))) (by show vl _ (2*h)≤vl _ (2*(m+1));rw[D,v5];exact jV _ _ _ _)) λs6 ⟨g6,o6,v6⟩=>?_
 have jC:s6.r g=0:=by rw[g6 g J J J J,gZ]
 have v6:vl (pl s6.m (Pb w (2*n+2*(m+1)) (2*(m+1)))) (2*(m+1))+vl (pl M.m (Pb w 0 (2*h))) (2*h)=vl (pl M.m (Pb w (2*n+2*(m+1)) (2*(m+1)))) (2*(m+1)):=v6;rw[D,v5]at v6;have jD:vl (pl s6.m (Pb w (2*h) (2*m))) (2*m)=_:=(o6.vl (.inr (.inr Hs)) (J8 _)).trans gD;have jE:P*Q≤vl (pl s6.m (Pb w (2*n+2*(m+1)) (2*(m+1)))) (2*(m+1)):=by
  have:(A0+P)*(B0+Q)=A0*B0+P*Q+(A0*Q+P*B0):=by grind
  omega
 refine .cat (zos (to:=Pb w (2*n+2*(m+1)) (2*(m+1))) (a:=Pb w (2*n+2*(m+1)) (2*(m+1))) (b:=Pb w (2*h) (2*m)) jC C (z _ _ J) (z _ _ J) (z _ _ J) rfl (J8 _) (.inr ⟨rfl,rfl⟩) (.inl (.inr (.inr Hs))) (by show vl _ (2*m)≤vl _ (2*(m+1));rw[jD];exact jE)) λI ⟨g7,o7,v7⟩=>?_
 have jF:I.r g=0:=by rw[g7 g J J J J,jC]
 have v7:vl (pl I.m (Pb w (2*n+2*(m+1)) (2*(m+1)))) (2*(m+1))+vl (pl s6.m (Pb w (2*h) (2*m))) (2*m)=vl (pl s6.m (Pb w (2*n+2*(m+1)) (2*(m+1)))) (2*(m+1)):=v7;rw[jD]at v7;have F:∀x k,x+k≤2*n→vl (pl I.m (Pb w x k)) k=vl (pl M.m (Pb w x k)) k:=λx k hx =>
  (o7.vl (q:=Pb w x k) (n:=k) (.inr (.inr Dp)) (J8 _)).trans (o6.vl (q:=Pb w x k) (n:=k) (.inr (.inr Dp)) (J8 _))
 have c1:=Z I.m 0 (2*h) (2*m);rw[Kw,F 0 (2*h) J,F (2*h) (2*m) J,D,gD]at c1;have c2:=Z I.m 0 h (2*n-h);rw[Kw,(J:h+(2*n-h)=2*h+2*m),c1]at c2;have jX:18446744073709551616^(2*h)=18446744073709551616^h*18446744073709551616^h:=Hc
 rw[jX]at c2;obtain⟨M2,gH⟩:∃M2,vl (pl I.m (Pb w (2*n+2*(m+1)) (2*(m+1)))) (2*(m+1))=M2:=⟨_,rfl⟩;obtain⟨M1,jG⟩:∃M1,vl (pl s6.m (Pb w (2*n+2*(m+1)) (2*(m+1)))) (2*(m+1))=M1:=⟨_,rfl⟩;obtain⟨X0,jH⟩:∃X0,vl (pl I.m (Pb w 0 h)) h=X0:=⟨_,rfl⟩;obtain⟨Xr,gI⟩:∃Xr,vl (pl I.m (Pb w h (2*n-h))) (2*n-h)=Xr:=⟨_,rfl⟩;rw[gH,jG]at v7;rw[jG]at v6;rw[jH,gI]at c2;have U:=zz1 (mid:=(A0+P)*(B0+Q)) (V:=Xr+M2) rfl rfl rfl v6 v7 c2.symm rfl;have gK:Xr+M2<18446744073709551616^(2*n-h):=by
  have h1:18446744073709551616^h*(Xr+M2)<18446744073709551616^h*18446744073709551616^(2*n-h):=by
   rw[←Nc,(J:h+(2*n-h)=2*n)];rw[←U]at gg;omega
  exact Nat.lt_of_mul_lt_mul_left h1
 refine .cat (zfb (to:=Pb w h (2*n-h)) (a:=Pb w h (2*n-h)) (b:=Pb w (2*n+2*(m+1)) (2*(m+1))) jF C (z _ _ J) (z _ _ J) (z _ _ J) rfl (.inr ⟨rfl,rfl⟩) (.inl (.inr (.inl (by show w.a+h+(2*n-h)≤w.a+(2*n+2*(m+1));omega)))) (by show vl _ (2*n-h)+vl _ (2*(m+1))<_;rw[gI,gH];exact gK)) λs8 ⟨g8,o8,v8⟩=>?_
 have jI:s8.r g=0:=by rw[g8 g J J J J,jF]
 have v8:vl (pl s8.m (Pb w h (2*n-h))) (2*n-h)=vl (pl I.m (Pb w h (2*n-h))) (2*n-h)+vl (pl I.m (Pb w (2*n+2*(m+1)) (2*(m+1)))) (2*(m+1)):=v8;rw[gI,gH]at v8;have x8:vl (pl s8.m (Pb w 0 h)) h=X0:=(o8.vl (q:=Pb w 0 h) (.inr (.inr (by show w.a+0+h≤w.a+h;omega))) (J8 _)).trans jH;have c8:=Z s8.m 0 h (2*n-h);rw[Kw,x8,v8,(J:h+(2*n-h)=2*n),U]at c8;refine (zfh jI C hd (z 0 (2*n) J) (.inl (.inl (Ne.symm wd)))).mono λs9 ⟨g9,o9,v9⟩=>⟨g1.trans (g2.trans (g3.trans (g4.trans (g5.trans (g6.trans (g7.trans (g8.trans g9))))))),?_,?_⟩
 ·exact (A _ _ J o1).trans ((A _ _ J o2).trans ((A _ _ J o3).trans ((A _ _ J o4).trans ((A _ _ J o5).trans ((A _ _ J o6).trans ((A _ _ J o7).trans ((A _ _ J o8).trans (o9.fm N))))))))
 ·rw[v9];show vl (pl s8.m (Pb w 0 (2*n))) (2*n)%_=_;rw[c8]
end ex
end
section
set_option linter.unusedSimpArgs false
def Yb{d t:Int}{b:Fr Lo}{m:Nat}(h:b.flat.length≤m):(Ri d t b).flat.length≤m+2:=by
 rw[zcn];split
 ·simp
 ·simp;omega
def zn8{D:Int}{body:Int→List Lo}{m:Nat}(h:∀x,(body x).length≤m):∀l:List Int,(Qc D body l).flat.length≤l.length*(m+2)
 |[]=>by simp[Qc,Fr.flat]
 |[_]=>by simp[Qc,Fr.flat]
 |x::y::l=>by
  have g:=zn8 (D:=D) h (y::l);have j:=Yb (d:=D) (t:=y-x) (b:=P0 (body x)) (m:=m) (by rw[flat_frL];exact h x);rw[Qc,R4,J9];simp only[Kh]at g ⊢;rw[Ky (l.length+1) 1,O5];omega
def Wm{kd n R D:Int}{to a b:Pc}{keep:Bool}:(R7 kd to a b n keep R D).flat.length≤40:=by
 unfold R7;rw[R4,flat_frL,J9];have:=zn8 (D:=D) (body:=fj kd to a b keep R D) (m:=4) (λx=>Fa) (bx n a.size b.size);simp[bx]at this ⊢;omega
def zft{R D:Int}{to fr:Pc}:(Sd to fr R D).flat.length≤40:=by
 have:=zn8 (D:=D) (body:=il to fr R D) (m:=2) (λx=>by unfold il;simp) (bj to.size fr.size);unfold Sd;simp[bj]at this ⊢;omega
def zbi{R D:Int}{to a b:Pc}:(Sm to a b R D).flat.length≤40:=by
 unfold Sm;rw[R4,J9];have j:(Uo to R D).flat.length≤3:=Yb (m:=1) Bx;have g:(Zq to a b R D).flat.length≤14:=by
  have:=Yb (d:=D+1) (t:=b.size) (b:=P0 (Su to b R D)) (m:=9) (by simp[flat_frL,Su]);unfold Zq;simp only[R4,flat_frL,J9,Kh,Kz];omega
 have:=Yb (d:=D) (t:=a.size) g;omega
def hal_len{d a b w:Pn}{n R D:Nat}:(U4 d a b w n R D).flat.length≤400:=by
 unfold U4;simp only;split
 ·rw[R4,J9];have g:=zbi (R:=R) (D:=D) (to:=(Pb w 0 (2*n)).p) (a:=a.p) (b:=b.p);have j:=zft (R:=R) (D:=D) (to:=d.p) (fr:=(Pb w 0 (2*n)).p);omega
 ·simp only[R4,J9];have p:=λ(to a b:Pc)=>zbi (R:=R) (D:=D) (to:=to) (a:=a) (b:=b)
  have c:=λ(kd n:Int) (to a b:Pc)=>Wm (kd:=kd) (n:=n) (R:=R) (D:=D) (to:=to) (a:=a) (b:=b) (keep:=true)
  have q:=zft (R:=R) (D:=D) (to:=d.p) (fr:=(Pb w 0 (2*n)).p);have z:=p (Pb w 0 (2*(n/2))).p (Pb a 0 (n/2)).p (Pb b 0 (n/2)).p;have A:=p (Pb w (2*(n/2)) (2*(n-n/2))).p (Pb a (n/2) (n-n/2)).p (Pb b (n/2) (n-n/2)).p;have B:=p (Pb w (2*n+2*(n-n/2+1)) (2*(n-n/2+1))).p (Pb w (2*n) (n-n/2+1)).p (Pb w (2*n+(n-n/2+1)) (n-n/2+1)).p;have C:=c 11 (n-n/2+1:Nat) (Pb w (2*n) (n-n/2+1)).p (Pb a 0 (n/2)).p (Pb a (n/2) (n-n/2)).p;have E:=c 11 (n-n/2+1:Nat) (Pb w (2*n+(n-n/2+1)) (n-n/2+1)).p (Pb b 0 (n/2)).p (Pb b (n/2) (n-n/2)).p;have F:=c 12 (2*(n-n/2+1):Nat) (Pb w (2*n+2*(n-n/2+1)) (2*(n-n/2+1))).p (Pb w (2*n+2*(n-n/2+1)) (2*(n-n/2+1))).p (Pb w 0 (2*(n/2))).p;have G:=c 12 (2*(n-n/2+1):Nat) (Pb w (2*n+2*(n-n/2+1)) (2*(n-n/2+1))).p (Pb w (2*n+2*(n-n/2+1)) (2*(n-n/2+1))).p (Pb w (2*(n/2)) (2*(n-n/2))).p;have H:=c 11 (2*n-n/2:Nat) (Pb w (n/2) (2*n-n/2)).p (Pb w (n/2) (2*n-n/2)).p (Pb w (2*n+2*(n-n/2+1)) (2*(n-n/2+1))).p;omega
section ah
variable {c : Cf} {R D : Int} {to a b : Pn}
structure EhC (c:Cf) (R D:Int):Prop where
 r:c.R≤R∧R+11≤c.R+c.w
 p:c.pa≤8∧8≤c.pb
 l:c.lo≤D∧D+1≤c.hi
 n:0<c.nb
def zzg{d:Int}{p:Pn}(h:EhC c R D)(g:Lb c p)(hd:S7 c d):OpH c (Ty p.p R d D z):=by
 unfold Ty;have j:=h.r;have A:=h.l;split
 ·exact mf g hd (.inr (.inl J))
 ·exact rf h.n hd (Sa (by unfold S7;omega))
def zo8{g:Int→List Lo}(j:c.lo≤D∧D≤c.hi)(hb:∀x,∀o∈g x,OpH c o):∀l:List Int,(∀x∈l,0≤x∧x≤1000000)→(Qc D g l).AllH c D
 |[],_=>trivial
 |[_],_=>trivial
 |x::y::l,h=>by
  have A:=h x N;have B:=h y N;exact allH_cat (za7 J j (allH_L (hb x))) (zo8 j hb (y::l) λC z=>h C (Kf _ z))
def zts{n a b:Int}(hn:0≤n∧n≤1000000)(ha:0≤a)(hb:0≤b):∀x∈bx n a b,0≤x∧x≤1000000:=by
 intro x g;simp[bx]at g;omega
def ztr{n a:Int}(hn:0≤n∧n≤1000000)(ha:0≤a):∀x∈bj n a,0≤x∧x≤1000000:=by
 intro x g;simp[bj]at g;omega
def im{n:Int}(hk:z=11∨z=12)(h:EhC c R D)(j:Lb c a)(A:Lb c b)(B:M=true→Sb c to)(hn:0≤n∧n≤1000000):(R7 z to.p a.p b.p n M R D).AllH c D:=by
 have C:=h.r;have F:=h.l;have g:∀E:Int,0≤E∧E≤10→S7 c (R+E):=pq C;unfold R7;refine allH_cat (allH_L (Si (oh_K h.n (g 1 J)) oh_nil)) (zo8 J (λx=>?_) _ (zts hn Ds (by show 0≤(b.k:Int);omega)));unfold fj;refine Si (zzg h j (g 2 J)) (Si (zzg h A (g 3 J)) (Si (zzm hk h.n (g 4 J) (g 1 J) (Sa (g 2 J)) (Sa (g 3 J)) (Sa (g 1 J))) ?_));cases M with
 |false=>exact oh_nil
 |true=>exact Si (zl6 (B rfl) (Sa (g 4 J)) (.inr (.inl J))) oh_nil
def zf9(h:EhC c R D)(g:Lb c a)(j:Sb c to)(hn:to.k≤1000000):(Sd to.p a.p R D).AllH c D:=by
 have z:=h.r;have C:=h.l;have B:∀A:Int,0≤A∧A≤10→S7 c (R+A):=pq z;unfold Sd;refine zo8 J (λx=>?_) _ (ztr (by show 0≤(to.k:Int)∧(to.k:Int)≤_;omega) Ds);unfold il;exact Si (zzg h g (B 2 J)) (Si (zl6 j (Sa (B 2 J)) (.inr (.inl J))) oh_nil)
def zfe(h:EhC c R D)(G:Lb c a)(H:Lb c b)(pl:Lb c to)(z:Sb c to)(ha:a.k≤1000000)(hb:b.k≤1000000)(hn:to.k≤1000000):(Sm to.p a.p b.p R D).AllH c D:=by
 have E:=h.r;have K:=h.l;have L:=h.p;have g:∀I:Int,0≤I∧I≤10→S7 c (R+I):=pq E;have A:S7 c R:=rgr0 E;have B:Wo c D:=.inl J;have j:Wo c (D+1):=.inl J;have F:Wo c 8:=.inr J;unfold Sm;refine allH_cat (zkh z (Sa A) J hn) (za7 (by show (a.k:Int)≤_;omega) J ?_);unfold Zq;have C:(P0 (Su to.p b.p R D)).AllH c (D+1+1):=by
  unfold Su;refine allH_L (Si (mf H (g 5 J) (.inr j)) (Si (oh_Mul h.n (g 4 J) (g 5 J) (Sa (g 2 J)) (Sa (g 5 J))) (Si (um J h.n J B j) (Si (mf pl (g 6 J) (.inr F)) (Si (zzm (.inl rfl) h.n (g 5 J) (g 1 J) (Sa (g 5 J)) (Sa (g 6 J)) (Sa A)) (Si (bg J h.n (g 4 J) (Sa (g 4 J)) (Sa (g 1 J))) (Si (zzm (.inl rfl) h.n (g 5 J) (g 1 J) (Sa (g 5 J)) (Sa (g 3 J)) (Sa A)) (Si (bg J h.n (g 3 J) (Sa (g 4 J)) (Sa (g 1 J))) (Si (zl6 z (Sa (g 5 J)) (.inr F)) oh_nil)))))))))
 exact allH_cat (allH_L (Si (mf G (g 2 J) (.inr B)) (Si (oh_K h.n (g 3 J)) oh_nil))) (allH_cat (za7 (by show (b.k:Int)≤_;omega) J C) (allH_L (Si (zl6 z (Sa (g 3 J)) (.inr B)) oh_nil)))
def qq{d w:Pn}{n R D:Nat}(h:EhC c R D)(z:Lb c a)(A:Lb c b)(B:Sb c d)(G:Lb c w)(H:Sb c w)(hn:n≤10000)(ha:a.k≤10000)(hb:b.k≤10000)(hd:d.k≤1000000):(U4 d a b w n R D).AllH c D:=by
 unfold U4;simp only;have g:∀x k,Lb c (Pb w x k):=λ_ _=>G
 have S:∀x k,Sb c (Pb w x k):=λ_ _=>H
 have E:∀x k,Lb c (Pb a x k):=λ_ _=>z
 have F:∀x k,Lb c (Pb b x k):=λ_ _=>A
 have j:(Or (11=(11:Int)) (11=(12:Int))):=.inl rfl;have C:(Or (12=(11:Int)) (12=(12:Int))):=.inr rfl;split
 ·exact allH_cat (zfe h z A (g _ _) (S _ _) J J (by show 2*n≤_;omega)) (zf9 h (g _ _) B hd)
 ·exact allH_cat (zfe h (E _ _) (F _ _) (g _ _) (S _ _) (by show n/2≤_;omega) (by show n/2≤_;omega) (by show 2*(n/2)≤_;omega))
   (allH_cat (zfe h (E _ _) (F _ _) (g _ _) (S _ _) (by show n-n/2≤_;omega) (by show n-n/2≤_;omega) (by show 2*(n-n/2)≤_;omega))
   (allH_cat (im j h (E _ _) (E _ _) (λ_=>S _ _) J) (allH_cat (im j h (F _ _) (F _ _) (λ_=>S _ _) J)
   (allH_cat (zfe h (g _ _) (g _ _) (g _ _) (S _ _) (by show n-n/2+1≤_;omega) (by show n-n/2+1≤_;omega) (by show 2*(n-n/2+1)≤_;omega))
   (allH_cat (im C h (g _ _) (g _ _) (λ_=>S _ _) J) (allH_cat (im C h (g _ _) (g _ _) (λ_=>S _ _) J)
   (allH_cat (im j h (g _ _) (g _ _) (λ_=>S _ _) J) (zf9 h (g _ _) B hd))))))))
end ah
section gd
variable {bs : List Bf} {S ls : List Int} {R D : Int} {to a b : Pn}
def zrq{d:Int}{l:List Lo}{p:Pn}(g:Bp bs p)(hd:0≤d∧d<64)(j:0≤D∧D<64)(A:D∈S)(B:0≤R∧R<64)(mR:R∈S)(k:S5 64 bs (d::S) l):S5 64 bs S (Ty p.p R d D z::l):=by
 unfold Ty;split
 ·exact zu g hd j A k
 ·exact zzu hd B mR k
def zqa{d:Int}{p:Pc}:Pu (Ty p R d D z)=[d]:=by
 unfold Ty;split<;>simp[Pu,P7,Ub]
def zzi{g:Int→List Lo}(A:Vo D ls)(C:0≤D∧D<8)(E:Tj D S)(j:∀x,S5 64 bs (D::S) (g x))(z:∀x,∀o∈g x,∀y∈Pu o,8≤y):∀l:List Int,(∀x∈l,0≤x∧x≤1000000)→Gd bs S ls (Qc D g l) S
 |[],_=>.nil
 |[_],_=>.nil
 |x::y::l,h=>by
  have G:=h x N;have H:=h y N;exact Gd.cat (Gd.lpD A C E J (Gd.L (A.snoc.lt J) (j x) (z x)) λF B=>Ln _ (Kf _ B)) (zzi A C E j z (y::l) λF B=>h F (Kf _ B))
def kw{n:Int}(hk:z=11∨z=12)(g:Vo D ls)(B:0≤D∧D<8)(C:Tj D S)(H:16≤R∧R≤50)(j:R∈S)(E:Bp bs a)(F:Bp bs b)(A:M=true→Bp bs to∧Bw bs to)(hn:0≤n∧n≤1000000):Gd bs S ls (R7 z to.p a.p b.p n M R D) ((R+1)::S):=by
 unfold R7;have G:S5 64 bs S [cK (R+1) 0]:=zxs J okL_nil;refine Gd.cat (Gd.Lm (T:=(R+1)::S) g J G Hw (by simp[Pu,cK])) (zzi g B (C.high J) (λx=>?_) (λx=>?_) _ (zts hn Ds (by show 0≤(b.k:Int);omega)))
 ·unfold fj;refine zrq E J J N J Am (zrq F J J N J Am (zsv hk J J J J J J N N N ?_));cases M with
  |false=>exact okL_nil
  |true=>exact zak (A rfl).1 (A rfl).2 J J N N okL_nil
 ·intro o ho;unfold fj at ho;have:Pu (Qy z (R+4) (R+1) (R+2) (R+3) (R+1))=[R+4,R+1]:=by rcases hk with rfl|rfl<;>simp[Pu,Qy]
  cases M with
  |false =>
   simp at ho;rcases ho with rfl|rfl|rfl
   ·rw[zqa];simp;omega
   ·rw[zqa];simp;omega
   ·rw[this];simp;omega
  |true =>
   simp at ho;rcases ho with rfl|rfl|rfl|rfl
   ·rw[zqa];simp;omega
   ·rw[zqa];simp;omega
   ·rw[this];simp;omega
   ·simp[Pu,Qn]
def zq7(j:Vo D ls)(z:0≤D∧D<8)(A:Tj D S)(F:16≤R∧R≤50)(B:R∈S)(C:Bp bs a)(g:Bp bs to)(E:Bw bs to):Gd bs S ls (Sd to.p a.p R D) S:=by
 have hk:(to.k:Int)≤65536:=by have:=g.s;have:=g.z;omega
 unfold Sd;refine zzi j z A (λx=>?_) (λx=>?_) _ (ztr (by show 0≤(to.k:Int)∧(to.k:Int)≤_;omega) Ds)
 ·unfold il;exact zrq C J J N J Ao (zak g E J J N N okL_nil)
 ·intro o ho;unfold il at ho;simp at ho;rcases ho with rfl|rfl
  ·rw[zqa];simp;omega
  ·simp[Pu,Qn]
def zq6(A:Vo D ls)(P:0≤D∧D+1<8)(B:Tj D S)(Q:16≤R∧R≤50)(C:R∈S)(E:Bp bs a)(F:Bp bs b)(z:Bp bs to)(G:Bw bs to):Gd bs S ls (Sm to.p a.p b.p R D) S:=by
 have I:(a.k:Int)≤65536:=by have:=E.s;have:=E.z;omega
 have K:(b.k:Int)≤65536:=by have:=F.s;have:=F.z;omega
 unfold Sm;have H:Tj (D+1) (D::S):=B.cons;have g:=A.snoc;have L:S5 64 bs (D::S) [P7 (R+2) a.p D 0,cK (R+3) 0]:=zu E J J N (zxs J okL_nil);have M:S5 64 bs ((D+1)::(R+3)::(R+2)::D::S) (Su to.p b.p R D):=by
  unfold Su;refine zu F J J N (okL_Mul J J J J J N N (zk0 J J J J N N (zu z J J N (zsv (.inl rfl) J J J J J J N N Af (zk0 J J J J N N (zsv (.inl rfl) J J J J J J N N Af (zk0 J J J J N N (zak z G J J N N okL_nil))))))))
 have O:S5 64 bs ((R+3)::(R+2)::D::S) [Qn to.p D b.p.size (R+3)]:=zak z G J J N N okL_nil;refine Gd.cat (zmh A J B J C z G) (Gd.lpD (S':=(R+3)::(R+2)::D::S) A J B (by show (a.k:Int)≤_;omega) ?_ λx j=>by simp[j]);unfold Zq;refine Gd.cat (Gd.Lm (T:=(R+3)::(R+2)::D::S) g J L (by simp[Pu,P7,cK];omega) (λx j=>by simp[Pu,P7,cK]at j ⊢;rcases j with h|h|h|h<;>simp[h])) (Gd.cat (Gd.lpD g J ((H.high J).high J) (by show (b.k:Int)≤_;omega) (Gd.L (g.snoc.lt J) M ?_) ?_) (Gd.Lm g J O (by simp[Pu,Qn]) (λx j=>by simpa [Pu,Qn] using j)))
 ·simp[Pu,Su,P7,S0,Pv,Qy,Qn];omega
 ·intro x j;exact Ln _ (Kf _ j)
def gd_hal{d w:Pn}{n R D:Nat}(F:Vo (D:Int) ls)(Y:D+1<8)(C:Tj (D:Int) S)(Z:16≤R∧R≤50)(E:(R:Int)∈S)(H:Bp bs a)(I:Bp bs b)(M:Bp bs d)(O:Bw bs d)(j:Bp bs w)(Q:Bw bs w)(T:a.k=n)(U:b.k=n)(V:2*n+4*(n-n/2+1)≤w.k):Gd bs S ls (U4 d a b w n R D) S:=by
 have X:(w.k:Int)≤65536:=by have:=j.s;have:=j.z;omega
 have g:16≤(R:Int)∧(R:Int)≤50:=J
 have G:0≤(D:Int)∧(D:Int)+1<8:=J
 have A:0≤(D:Int)∧(D:Int)<8:=J
 have B:∀(q:Pn) x k,Bp bs q→x+k≤q.k→Bp bs (Pb q x k):=λq x k K h=>⟨K.b,by have:=K.s;show ((q.a+x+k:Nat):Int)≤(Ps bs q.b).size;omega,K.z⟩
 have W:∀x k,Bw bs (Pb w x k):=λ_ _=>Q
 have s1:Tj (D:Int) (((R:Int)+1)::S):=C.high J;have m1:(R:Int)∈((R:Int)+1)::S:=Ax
 have L:(Or (11=(11:Int)) (11=(12:Int))):=.inl rfl;have P:(Or (12=(11:Int)) (12=(12:Int))):=.inr rfl;have z:∀{f:Fr Lo},Gd bs S ls f (((R:Int)+1)::S)→Gd bs S ls f S:=λh=>Gd.mono h (λ_ h=>h) (λ_ h=>Kf _ h)
 unfold U4;simp only;split
 ·exact Gd.cat (zq6 F G C g E H I (B _ _ _ j J) (W _ _)) (zq7 F A C g E (B _ _ _ j J) M O)
 ·exact Gd.cat (zq6 F G C g E (B _ _ _ H J) (B _ _ _ I J) (B _ _ _ j J) (W _ _))
   (Gd.cat (zq6 F G C g E (B _ _ _ H J) (B _ _ _ I J) (B _ _ _ j J) (W _ _))
   (Gd.cat (z (kw L F A C g E (B _ _ _ H J) (B _ _ _ H J) (λ_=>⟨B _ _ _ j J,W _ _⟩) J))
   (Gd.cat (z (kw L F A C g E (B _ _ _ I J) (B _ _ _ I J) (λ_=>⟨B _ _ _ j J,W _ _⟩) J))
   (Gd.cat (zq6 F G C g E (B _ _ _ j J) (B _ _ _ j J) (B _ _ _ j J) (W _ _))
   (Gd.cat (z (kw P F A C g E (B _ _ _ j J) (B _ _ _ j J) (λ_=>⟨B _ _ _ j J,W _ _⟩) J))
   (Gd.cat (z (kw P F A C g E (B _ _ _ j J) (B _ _ _ j J) (λ_=>⟨B _ _ _ j J,W _ _⟩) J))
   (Gd.cat (z (kw L F A C g E (B _ _ _ j J) (B _ _ _ j J) (λ_=>⟨B _ _ _ j J,W _ _⟩) J))
   (zq7 F A C g E (B _ _ _ j J) M O))))))))
end gd
end
section
set_option linter.unusedSimpArgs false
def bq(i k:Nat):Pn:=⟨i,0,k⟩
noncomputable def zeF(R:Nat):Fr Lo:=P0 [cK R 0]
section ex
variable {sz : Nat → Nat} {s : Fs}
def z_ex{f:Fr Lo}{j:Fs→Prop}(h:Tx sz f (s.put g 0) j):Tx sz ((zeF g).cat f) s j:=by
 unfold zeF;refine .op zya ?_;rw[show ∀z,Fr.cat (P0 []) z=z from λ_=>rfl];exact h
def ry{x:UInt64}:(s.put g x).r g=x:=by rw[P8,J6 rfl]
end ex
end
section
set_option linter.unusedSimpArgs false
def zsc{D:Int}{body:Int→List Lo}{m T:Nat}(h:∀x,(body x).length≤m)(j:T≤1000000):∀l:List Int,(∀x∈l,0≤x∧x≤T)→(Qc D body l).stp≤l.length*(T*(1+m))
 |[],_=>by simp[Qc,Fr.stp]
 |[_],_=>by simp[Qc,Fr.stp]
 |x::y::l,g=>by
  have z:=zsc (D:=D) h j (y::l) λB A=>g B (Kf _ A)
  have C:=g x N;have E:=g y N;have F:=tb (d:=D) (times:=y-x) (b:=P0 (body x)) (T:=T) (M:=m) J j (by rw[Ym];exact h x);rw[Qc,stp_cat];simp only[Kh]at z ⊢;rw[Ky (l.length+1) 1,O5];omega
def gw{kd n R D:Int}{to a b:Pc}{keep:Bool}(hn:0≤n∧n≤40)(ha:0≤a.size)(hb:0≤b.size):(R7 kd to a b n keep R D).stp≤900:=by
 unfold R7;rw[stp_cat,Ym];have:=zsc (D:=D) (body:=fj kd to a b keep R D) (m:=4) (T:=40) (λx=>Fa) Ac (bx n a.size b.size) (λx g=>by simp[bx]at g;omega);simp[bx]at this ⊢;omega
def zji{R D:Int}{to fr:Pc}(hn:0≤to.size∧to.size≤40)(ha:0≤fr.size):(Sd to fr R D).stp≤900:=by
 have:=zsc (D:=D) (body:=il to fr R D) (m:=2) (T:=40) (λx=>by unfold il;simp) Ac (bj to.size fr.size) (λx g=>by simp[bj]at g;omega);unfold Sd;simp[bj]at this ⊢;omega
def zjz{R D:Int}{to a b:Pc}(j:to.size≤40)(ha:a.size≤40)(hb:b.size≤40):(Sm to a b R D).stp≤20000:=by
 unfold Sm;rw[stp_cat];have z:(Uo to R D).stp≤40*(1+1):=tb J Ac (by simp[Ym]);have g:(Zq to a b R D).stp≤410:=by
  have:=tb (d:=D+1) (times:=b.size) (b:=P0 (Su to b R D)) (T:=40) (M:=9) J Ac (by simp[Ym,Su]);unfold Zq;simp only[stp_cat,Ym,Kh,Kz];omega
 have:=tb (d:=D) (times:=a.size) (T:=40) J Ac g;omega
def hal_stp{d a b w:Pn}{n R D:Nat}(hn:n≤9)(ha:a.k=n)(hb:b.k=n)(hd:d.k≤40):(U4 d a b w n R D).stp≤100000:=by
 have g:∀(q:Pn) x k,((Pb q x k).p.size=(k:Int)):=λ_ _ _=>rfl
 have L:a.p.size=(n:Int):=by show ((a.k:Nat):Int)=_;rw[ha]
 have M:b.p.size=(n:Int):=by show ((b.k:Nat):Int)=_;rw[hb]
 have j:d.p.size=(d.k:Int):=rfl;unfold U4;simp only;split
 ·rw[stp_cat];have z:=zjz (R:=R) (D:=D) (to:=(Pb w 0 (2*n)).p) (a:=a.p) (b:=b.p) Av J J;have A:=zji (R:=R) (D:=D) (to:=d.p) (fr:=(Pb w 0 (2*n)).p) J Av;omega
 ·simp only[stp_cat];have B:=zjz (R:=R) (D:=D) (to:=(Pb w 0 (2*(n/2))).p) (a:=(Pb a 0 (n/2)).p) (b:=(Pb b 0 (n/2)).p) Av Av Av;have C:=zjz (R:=R) (D:=D) (to:=(Pb w (2*(n/2)) (2*(n-n/2))).p) (a:=(Pb a (n/2) (n-n/2)).p) (b:=(Pb b (n/2) (n-n/2)).p) Av Av Av;have E:=zjz (R:=R) (D:=D) (to:=(Pb w (2*n+2*(n-n/2+1)) (2*(n-n/2+1))).p) (a:=(Pb w (2*n) (n-n/2+1)).p) (b:=(Pb w (2*n+(n-n/2+1)) (n-n/2+1)).p) Av Av Av;have F:=gw (R:=R) (D:=D) (kd:=11) (keep:=true) (n:=(n-n/2+1:Nat)) (to:=(Pb w (2*n) (n-n/2+1)).p) (a:=(Pb a 0 (n/2)).p) (b:=(Pb a (n/2) (n-n/2)).p) J Av Av;have G:=gw (R:=R) (D:=D) (kd:=11) (keep:=true) (n:=(n-n/2+1:Nat)) (to:=(Pb w (2*n+(n-n/2+1)) (n-n/2+1)).p) (a:=(Pb b 0 (n/2)).p) (b:=(Pb b (n/2) (n-n/2)).p) J Av Av;have H:=gw (R:=R) (D:=D) (kd:=12) (keep:=true) (n:=(2*(n-n/2+1):Nat)) (to:=(Pb w (2*n+2*(n-n/2+1)) (2*(n-n/2+1))).p) (a:=(Pb w (2*n+2*(n-n/2+1)) (2*(n-n/2+1))).p) (b:=(Pb w 0 (2*(n/2))).p) J Av Av;have I:=gw (R:=R) (D:=D) (kd:=12) (keep:=true) (n:=(2*(n-n/2+1):Nat)) (to:=(Pb w (2*n+2*(n-n/2+1)) (2*(n-n/2+1))).p) (a:=(Pb w (2*n+2*(n-n/2+1)) (2*(n-n/2+1))).p) (b:=(Pb w (2*(n/2)) (2*(n-n/2))).p) J Av Av;have K:=gw (R:=R) (D:=D) (kd:=11) (keep:=true) (n:=(2*n-n/2:Nat)) (to:=(Pb w (n/2) (2*n-n/2)).p) (a:=(Pb w (n/2) (2*n-n/2)).p) (b:=(Pb w (2*n+2*(n-n/2+1)) (2*(n-n/2+1))).p) J Av Av;have q:=zji (R:=R) (D:=D) (to:=d.p) (fr:=(Pb w 0 (2*n)).p) J Av;omega
section ah
variable {c : Cf} {n R : Nat} {w : Pn}
end ah
section gd
variable {bs : List Bf} {n R : Nat} {w : Pn}
end gd
end
section
set_option linter.unusedSimpArgs false
def v7(n:Nat)(s:Bool):List Vr:=[⟨n,s,0⟩,⟨n,s,0⟩,⟨(n:Int)+1,s,0⟩,⟨n,s,0⟩,⟨2*(n:Int),s,0⟩,⟨2*(n:Int),s,0⟩,⟨1,s,0⟩]
def v3:List Vr:=[⟨1,true,0⟩,⟨1,true,0⟩,⟨2,true,0⟩]
def w7(n:Nat):Int:=zao n
end
section
set_option linter.unusedSimpArgs false
noncomputable def Vw(j a b:Pc)(c g z:Int):List Lo:=[P7 (g+2) a z 0,P7 (g+3) b z 0,R1 (g+4) c (g+2) (g+3),Qn j z 0 (g+4)]
noncomputable def Se(to a b:Pc)(c R D:Int):Fr Lo:=Ri D to.size (P0 (Vw to a b c R D))
section ex
variable {sz : Nat → Nat} {s : Fs}
def np{D c:Nat}{to a b:Pn}(hD:D<g)(hc:c≠D∧¬(g+2≤c∧c≤g+4))(ha:a.in_ sz)(hb:b.in_ sz)(I:to.in_ sz)(Z:to.k≤a.k)(gg:to.k≤b.k)(da:Yr to a)(db:Yr to b) :
  Tx sz (Se to.p a.p b.p c g D) s λF=>(∀z,¬(g+2≤z∧z≤g+4)→z≠D→F.r z=s.r z)∧Qd to s.m F.m∧∀i,i<to.k→pl F.m to i=if s.r c%2=1 then pl s.m a i else pl s.m b i:=by
 obtain⟨gD,K⟩:=I;obtain⟨gF,L⟩:=ha;obtain⟨gG,M⟩:=hb;unfold Se;rw[show to.p.size=((to.k:Nat):Int) from rfl];refine .lp (λgH B=>(∀z,¬(g+2≤z∧z≤g+4)→z≠D→B.r z=s.r z)∧Qd to s.m B.m∧(∀i,gH≤i→i<to.k→pl B.m a i=pl s.m a i)∧(∀i,gH≤i→i<to.k→pl B.m b i=pl s.m b i)∧∀i,i<gH→pl B.m to i=if s.r c%2=1 then pl s.m a i else pl s.m b i)
  ⟨λ_ _ _=>rfl,λ_ _ _=>rfl,λ_ _ _=>rfl,λ_ _ _=>rfl,λi hi=>J⟩ J (λi B hi ⟨U,o1,V,X,v1⟩=>?_) λF ⟨h1,h2,_,_,h5⟩=>⟨h1,h2,h5⟩
 have G:¬D=g+2:=J
 have O:¬D=g+3:=J
 have P:¬D=g+4:=J
 have j:(UInt64.ofNat i).toNat=i:=Y5 J;have eb:Vw to.p a.p b.p c g D=[P7 ((g+2:Nat):Int) a.p D ((0:Nat):Int),P7 ((g+3:Nat):Int) b.p D ((0:Nat):Int),R1 ((g+4:Nat):Int) c ((g+2:Nat):Int) ((g+3:Nat):Int),Qn to.p D ((0:Nat):Int) ((g+4:Nat):Int)]:=rfl;rw[eb];have hA:=V i (J8 _) hi;have hB:=X i (J8 _) hi;refine .op (zr (p:=a) (off:=0) (by simp only[P8,Lj,j];omega) L) (.op (zr (p:=b) (off:=0) (by simp only[P8,Lj,J1 G,j];omega) M) (.op zt7 (.op (zer (p:=to) (off:=0) (by simp only[P8,Lj,J1 G,J1 O,J1 P,j];omega) K) (.nil ?_))));have c2:¬c=g+2:=J
 have c3:¬c=g+3:=J
 have Q:B.r c=s.r c:=U c hc.2 hc.1;simp only[gq,P8,Lj,J1 G,J1 O,J1 P,J1 c2,J1 c3,J1 hc.1,J1 (J:¬g+2=g+3),j,Kw,hA,hB,Q];obtain⟨q,Y⟩:∃q,(if s.r c%2=1 then pl s.m a i else pl s.m b i)=q:=⟨_,rfl⟩;rw[Y];obtain⟨E,A⟩:∃E,(((B.put D (UInt64.ofNat i)).put (g+2) (pl s.m a i)).put (g+3) (pl s.m b i)).put (g+4) q=E:=⟨_,rfl⟩;have gI:E.r D=UInt64.ofNat i:=by rw[←A];simp[P8,G,O,P]
 have gK:E.r (g+4)=q:=by rw[←A];simp[P8]
 have hm:E.m=B.m:=by rw[←A];rfl
 have R:∀z,¬(g+2≤z∧z≤g+4)→z≠D→E.r z=s.r z:=λz T H=>by
  have e2:¬z=g+2:=J
  have e3:¬z=g+3:=J
  have e4:¬z=g+4:=J
  rw[←A];simp only[P8,e2,e3,e4,H,M7];exact U z T H
 rw[A];refine⟨λz T H=>by rw[Zu];exact R z T H,o1.trans (hm ▸ z6e hi),λk hk C=>by rw[da.sto hi J J,hm];exact V k J C,λk hk C=>by rw[db.sto hi J J,hm];exact X k J C,λk hk=>?_⟩;rw[Zp];split
 ·rename_i e;rw[e,←Y]
 ·rw[hm];exact v1 k J
end ex
end
section
noncomputable section
set_option linter.unusedSimpArgs false
def Uz(d a b c w:Pn)(R D:Nat):Fr Lo :=
 (R7 11 (Pb w 0 (c.k+1)).p a.p b.p (c.k+1:Nat) true R D).cat ((R7 12 (Pb w (c.k+1) (c.k+1)).p (Pb w 0 (c.k+1)).p c.p (c.k+1:Nat) true R D).cat
  (Se d.p (Pb w 0 (c.k+1)).p (Pb w (c.k+1) (c.k+1)).p ((R+1:Nat):Int) R D))
def U2(d a b c w:Pn)(R D:Nat):Fr Lo :=
 (R7 12 (Pb w 0 c.k).p a.p b.p (c.k:Nat) true R D).cat ((P0 [Ub ((R+7:Nat):Int) ((R+1:Nat):Int)]).cat ((R7 11 (Pb w c.k c.k).p (Pb w 0 c.k).p c.p (c.k:Nat) true R D).cat
  (Se d.p (Pb w c.k c.k).p (Pb w 0 c.k).p ((R+7:Nat):Int) R D)))
section ex
variable {sz : Nat → Nat} {s : Fs}
def uw{k:Nat}(z:g<18446744073709551616^k)(A:j<18446744073709551616^k):g+j<18446744073709551616^(k+1):=by
 rw[Ly];generalize 18446744073709551616^k=B at *;omega
def tt{k:Nat}(j:g<18446744073709551616^k):g<18446744073709551616^(k+1):=by
 rw[Ly];generalize 18446744073709551616^k=z at *;omega
def zze{v:Nat}(B:g<A)(C:j<A)(E:A<D)(F:v<U)(q:v+A=g+j+U*M.toNat):(if Qp M%2=1 then g+j else v)%D=(g+j)%A:=by
 cases M with
 |true =>
  rw[J6 (by rfl)];simp at q;rw[Ke J,Ke (J:g+j<A)]
 |false =>
  rw[J1 Ac];simp at q;have z:v<A:=J
  rw[Ke J,←q,O7,Ke z]
def i9{v:Nat}(E:g<A)(F:j<A)(G:A<D)(B:v<D)(C:U<D)(q:v+j=g+D*M.toNat)(z:U+D*vO=v+A):(if Qp M%2=1 then U else v)%D=(g+(A-j))%A:=by
 cases M with
 |true =>
  rw[J6 (by rfl)];simp at q;have hc:vO=1:=by
   rcases Nat.lt_trichotomy vO 1 with h|h|h
   ·have:vO=0:=J
    subst this;simp at z;omega
   ·exact h
   ·obtain⟨d,rfl⟩:∃d,vO=2+d:=⟨vO-2,J⟩;rw[Np]at z;omega
  subst hc;rw[Ke C,Ke (J:g+(A-j)<A)];omega
 |false =>
  rw[J1 Ac];simp at q;rw[Ke B,(J:g+(A-j)=v+A),O7,Ke J]
def co(j z:Nat)(s s':Fs):Prop:=∀g,¬(j+1≤g∧g≤j+7)→g≠8→g≠z→g≠z+1→s'.r g=s.r g
def gr.m{R D:Nat}{s s':Fs}(h:gr R D s s'):co R D s s':=λz h1 h2 h3 h4=>h z J h2 h3 h4
def co.trans{R D:Nat}{s s' gg:Fs}(h:co R D s s')(k:co R D s' gg):co R D s gg:=λz a b c d=>(k z a b c d).trans (h z a b c d)
def zsg{c:Nat}{to a b:Pn}{s:Fs}(D:j<g)(hc:c≠j∧¬(g+2≤c∧c≤g+4))(ha:a.in_ sz)(hb:b.in_ sz)(z:to.in_ sz)(A:to.k≤a.k)(B:to.k≤b.k)(E:Yr to a)(F:Yr to b) :
  Tx sz (Se to.p a.p b.p c g j) s λs'=>co g j s s'∧Qd to s.m s'.m∧vl (pl s'.m to) to.k=(if s.r c%2=1 then vl (pl s.m a) a.k else vl (pl s.m b) b.k)%18446744073709551616^to.k:=by
 refine (np D hc ha hb z A B E F).mono λs' ⟨G,H,C⟩=>⟨λI a _ b _=>G I J b,H,?_⟩
 by_cases q:s.r c%2=1
 ·rw[J6 q,←Yc];exact Vz λi hi=>by rw[C i hi,J6 q,zyw J]
 ·rw[J1 q,←Yc];exact Vz λi hi=>by rw[C i hi,J1 q,zyw J]
def adm_ex{d a b c w:Pn}(hR:s.r g=0)(hD:j+1<8)(gI:8<g)(ha:a.in_ sz)(hb:b.in_ sz)(hc:c.in_ sz)(hd:d.in_ sz)(hw:w.in_ sz)(G:a.k=c.k)(H:b.k=c.k)(I:d.k=c.k)(gK:2*(c.k+1)≤w.k)(wa:w.b≠a.b)(wb:w.b≠b.b)(wc:w.b≠c.b)(wd:w.b≠d.b) :
  Tx sz (Uz d a b c w g j) s λK=>co g j s K∧Fm [w,d] s.m K.m∧(vl (pl s.m a) a.k<vl (pl s.m c) c.k→vl (pl s.m b) b.k<vl (pl s.m c) c.k→vl (pl K.m d) d.k=(vl (pl s.m a) a.k+vl (pl s.m b) b.k)%vl (pl s.m c) c.k):=by
 have z:∀x,x+(c.k+1)≤w.k→(Pb w x (c.k+1)).in_ sz:=λx h=>by
  obtain⟨h1,L⟩:=hw;exact⟨by show w.a+x+(c.k+1)≤sz w.b;omega,L⟩
 have B:∀x,x+(c.k+1)≤w.k→∀{m M:Nat→Nat→UInt64},Qd (Pb w x (c.k+1)) m M→Fm [w,d] m M:=λx h m M o=>λu v hn=>o u v λ⟨q1,C,q3⟩=>hn w N ⟨q1,by have:w.a+x≤v:=C;omega,by have:v<w.a+x+(c.k+1):=q3;omega⟩
 have O:c.k+1<18446744073709551616:=by have h1:=(z 0 J).1;have L:=(z 0 J).2;simp only[Pb]at h1 L;omega
 obtain⟨P,D⟩:∃P,vl (pl s.m a) a.k=P:=⟨_,rfl⟩;obtain⟨Q,E⟩:∃Q,vl (pl s.m b) b.k=Q:=⟨_,rfl⟩;obtain⟨gH,R⟩:∃gH,vl (pl s.m c) c.k=gH:=⟨_,rfl⟩;have lA:P<18446744073709551616^c.k:=D ▸ G ▸ Vj _ _;have lB:Q<18446744073709551616^c.k:=E ▸ H ▸ Vj _ _;have lC:gH<18446744073709551616^c.k:=R ▸ Vj _ _;rw[D,E,R];unfold Uz;have A:j<g:=J
 refine .cat (zfb (n:=c.k+1) (to:=Pb w 0 (c.k+1)) hR A ha hb (z 0 J) rfl (.inl (.inl wa)) (.inl (.inl wb)) (by rw[D,E];exact uw lA lB)) λT ⟨g1,o1,U⟩=>?_
 rw[D,E]at U;have V:T.r g=0:=Iv
 have c1:vl (pl T.m c) c.k=gH:=(o1.vl (.inl wc) (J8 _)).trans R;refine .cat (z7k (.inr rfl) (keep:=true) (n:=c.k+1) (to:=Pb w (c.k+1) (c.k+1)) (a:=Pb w 0 (c.k+1)) (b:=c) V A (z 0 J) hc O λ_=>⟨z (c.k+1) J,J8 _,.inl (.inr (.inr Bs)),.inl (.inl wc)⟩) λX ⟨g2,_,F,cb,v,lv,r2,Y,C⟩=>?_
 have F:=F rfl;have Y:=Y rfl;have Z:¬(12:Int)=11:=Ac
 rw[Tl,J1 Z,Yc,Yc]at C;have gg:vl (pl T.m (Pb w 0 (c.k+1))) (Pb w 0 (c.k+1)).k=P+Q:=U;have hS:P+Q<18446744073709551616^(c.k+1):=uw lA lB;rw[gg,c1,Ke hS,Ke (tt lC)]at C;have gD:vl (pl X.m (Pb w 0 (c.k+1))) (c.k+1)=P+Q:=(F.vl (q:=Pb w 0 (c.k+1)) (.inr (.inr Bs)) (J8 _)).trans U;refine (zsg (c:=g+1) A ⟨J,J⟩ (z 0 J) (z (c.k+1) J) hd (by show d.k≤c.k+1;omega) (by show d.k≤c.k+1;omega) (.inl (.inl (Ne.symm wd))) (.inl (.inl (Ne.symm wd)))).mono λs3 ⟨g3,o3,v3⟩=>⟨g1.m.trans (g2.p.m.trans g3),(B 0 J o1).trans ((B (c.k+1) J F).trans (o3.fm N)),λgF gG=>?_⟩
 rw[v3,r2];have e1:vl (pl X.m (Pb w 0 (c.k+1))) (Pb w 0 (c.k+1)).k=P+Q:=gD;have e2:vl (pl X.m (Pb w (c.k+1) (c.k+1))) (Pb w (c.k+1) (c.k+1)).k=v:=Y;rw[e1,e2,I];exact zze gF gG lC lv C
def sbm_ex{d a b c w:Pn}(hR:s.r g=0)(hD:j+1<8)(gK:8<g)(ha:a.in_ sz)(hb:b.in_ sz)(hc:c.in_ sz)(hd:d.in_ sz)(hw:w.in_ sz)(M:a.k=c.k)(O:b.k=c.k)(P:d.k=c.k)(gL:2*c.k≤w.k)(wa:w.b≠a.b)(wb:w.b≠b.b)(wc:w.b≠c.b)(wd:w.b≠d.b) :
  Tx sz (U2 d a b c w g j) s λs'=>co g j s s'∧Fm [w,d] s.m s'.m∧(vl (pl s.m a) a.k<vl (pl s.m c) c.k→vl (pl s.m b) b.k<vl (pl s.m c) c.k→vl (pl s'.m d) d.k=(vl (pl s.m a) a.k+(vl (pl s.m c) c.k-vl (pl s.m b) b.k))%vl (pl s.m c) c.k):=by
 have z:∀x,x+c.k≤w.k→(Pb w x c.k).in_ sz:=λx h=>by
  obtain⟨h1,h2⟩:=hw;exact⟨by show w.a+x+c.k≤sz w.b;omega,h2⟩
 have C:∀x,x+c.k≤w.k→∀{m Q:Nat→Nat→UInt64},Qd (Pb w x c.k) m Q→Fm [w,d] m Q:=λx h m Q o=>λu v hn=>o u v λ⟨G,D,q3⟩=>hn w N ⟨G,by have:w.a+x≤v:=D;omega,by have:v<w.a+x+c.k:=q3;omega⟩
 have E:c.k<18446744073709551616:=by have h1:=hc.1;have h2:=hc.2;omega
 obtain⟨gM,R⟩:∃gM,vl (pl s.m a) a.k=gM:=⟨_,rfl⟩;obtain⟨gO,T⟩:∃gO,vl (pl s.m b) b.k=gO:=⟨_,rfl⟩;obtain⟨gI,U⟩:∃gI,vl (pl s.m c) c.k=gI:=⟨_,rfl⟩;have lA:gM<18446744073709551616^c.k:=R ▸ M ▸ Vj _ _;have lB:gO<18446744073709551616^c.k:=T ▸ O ▸ Vj _ _;have lC:gI<18446744073709551616^c.k:=U ▸ Vj _ _;have A:j<g:=J
 have V:¬(12:Int)=11:=Ac
 rw[R,T,U];unfold U2;refine .cat (z7k (.inr rfl) (keep:=true) (n:=c.k) (to:=Pb w 0 c.k) (a:=a) (b:=b) hR A ha hb E λ_=>⟨z 0 J,J8 _,.inl (.inl wa),.inl (.inl wb)⟩) λB ⟨g1,_,H,F,v,lv,r1,I,G⟩=>?_
 have H:=H rfl;have I:=I rfl;rw[Tl,J1 V,Yc,Yc,R,T,Ke lA,Ke lB]at G;have X:B.r g=0:=by rw[g1 g J J,hR]
 have c1:vl (pl B.m c) c.k=gI:=(H.vl (.inl wc) (J8 _)).trans U;refine .op az ?_;rw[show ∀gT,Fr.cat (P0 []) gT=gT from λ_=>rfl,r1];have Y:(B.put (g+7) (Qp F)).r g=0:=by rw[P8,J1 J,X]
 refine .cat (z7k (.inl rfl) (keep:=true) (n:=c.k) (to:=Pb w c.k c.k) (a:=Pb w 0 c.k) (b:=c) Y A (z 0 J) hc E λ_=>⟨z c.k J,J8 _,.inl (.inr (.inr (by show w.a+0+c.k≤w.a+c.k;omega))),.inl (.inl wc)⟩) λK ⟨g2,_,L,gR,v2,Z,_,w2,D⟩=>?_
 have L:=L rfl;have w2:=w2 rfl;rw[Tl,J6 rfl,Yc,Yc]at D;have gg:vl (pl (B.put (g+7) (Qp F)).m (Pb w 0 c.k)) (Pb w 0 c.k).k=v:=I;have gD:vl (pl (B.put (g+7) (Qp F)).m c) c.k=gI:=c1;rw[gg,gD,Ke lv,Ke lC]at D;have gF:vl (pl K.m (Pb w 0 c.k)) c.k=v:=(L.vl (q:=Pb w 0 c.k) (.inr (.inr (by show w.a+0+c.k≤w.a+c.k;omega))) (J8 _)).trans I;have r2:K.r (g+7)=Qp F:=by rw[g2 (g+7) J J,P8,J6 rfl]
 refine (zsg (c:=g+7) A ⟨J,J⟩ (z c.k J) (z 0 J) hd (by show d.k≤c.k;omega) (by show d.k≤c.k;omega) (.inl (.inl (Ne.symm wd))) (.inl (.inl (Ne.symm wd)))).mono λs3 ⟨g3,o3,v3⟩=>⟨?_,(C 0 J H).trans (Fm.trans (C c.k J L) (o3.fm N)),λgG gH=>?_⟩
 ·refine g1.p.m.trans (co.trans (s':=B.put (g+7) (Qp F)) (λgU a _ _ _=>It) (g2.p.m.trans g3))
 rw[v3,r2];have e1:vl (pl K.m (Pb w 0 c.k)) (Pb w 0 c.k).k=v:=gF;have e2:vl (pl K.m (Pb w c.k c.k)) (Pb w c.k c.k).k=v2:=w2;rw[e1,e2,P];exact i9 gG gH lC lv Z G D
def V6(d a b c:Pn)(R D:Nat):Fr Lo:=(P0 [P7 ((R+7:Nat):Int) c.p (-1) ((0:Nat):Int)]).cat (Se d.p a.p b.p ((R+7:Nat):Int) R D)
def sel_ex{d a b c:Pn}(C:j<g)(ha:a.in_ sz)(hb:b.in_ sz)(hc:c.in_ sz)(hd:d.in_ sz)(z:a.k=d.k)(A:b.k=d.k)(D:1≤c.k)(E:Yr d a)(F:Yr d b) :
  Tx sz (V6 d a b c g j) s λs'=>co g j s s'∧Qd d s.m s'.m∧vl (pl s'.m d) d.k=if pl s.m c 0%2=1 then vl (pl s.m a) a.k else vl (pl s.m b) b.k:=by
 unfold V6;obtain⟨K,G⟩:=hc;refine .op (ld_no (p:=c) (off:=0) J G) ?_;rw[show ∀B,Fr.cat (P0 []) B=B from λ_=>rfl];refine (zsg (c:=g+7) C ⟨J,J⟩ ha hb hd J J E F).mono λs' ⟨B,o,v⟩=>⟨co.trans (s':=s.put (g+7) (pl s.m c 0)) (λL a _ _ _=>It) B,o,?_⟩
 rw[v,P8,J6 rfl];have H:vl (pl s.m a) a.k<18446744073709551616^d.k:=z ▸ Vj _ _;have I:vl (pl s.m b) b.k<18446744073709551616^d.k:=A ▸ Vj _ _;split
 ·exact Ke H
 ·exact Ke I
def Tp(d e:Pc)(R D:Int):List Lo:=[P7 (R+2) d D 0,P7 (R+3) e D 0,R1 (R+4) (R+7) (R+3) (R+2),R1 (R+5) (R+7) (R+2) (R+3),Qn d D 0 (R+4),Qn e D 0 (R+5)]
def Vm(d e c:Pn)(R D:Nat):Fr Lo:=(P0 [P7 ((R+7:Nat):Int) c.p (-1) ((0:Nat):Int)]).cat (Ri D d.k (P0 (Tp d.p e.p R D)))
def swp_ex{d e c:Pn}(hD:j<g)(hc:c.in_ sz)(hd:d.in_ sz)(he:e.in_ sz)(gg:e.k=d.k)(gD:1≤c.k)(M:d.b≠e.b) :
  Tx sz (Vm d e c g j) s λF=>co g j s F∧Fm [d,e] s.m F.m∧(∀i,i<d.k→pl F.m d i=if pl s.m c 0%2=1 then pl s.m e i else pl s.m d i)∧∀i,i<d.k→pl F.m e i=if pl s.m c 0%2=1 then pl s.m d i else pl s.m e i:=by
 obtain⟨gF,P⟩:=hc;obtain⟨gG,G⟩:=hd;obtain⟨gH,H⟩:=he;unfold Vm;refine .op (ld_no (p:=c) (off:=0) J P) ?_;rw[show ∀gK,Fr.cat (P0 []) gK=gK from λ_=>rfl];obtain⟨x,hx⟩:∃x,pl s.m c 0=x:=⟨_,rfl⟩;rw[hx];refine .lp (λgI B=>co g j s B∧B.r (g+7)=x∧Fm [d,e] s.m B.m∧(∀i,gI≤i→i<d.k→pl B.m d i=pl s.m d i∧pl B.m e i=pl s.m e i)∧(∀i,i<gI→pl B.m d i=if x%2=1 then pl s.m e i else pl s.m d i)∧∀i,i<gI→pl B.m e i=if x%2=1 then pl s.m d i else pl s.m e i)
  ⟨λO a _ _ _=>It,by rw[P8,J6 rfl],λ_ _ _=>rfl,λ_ _ _=>⟨rfl,rfl⟩,λi hi=>J,λi hi=>J⟩ J (λi B hi ⟨g1,x1,o1,Q,v1,u1⟩=>?_) λF ⟨h1,_,h2,_,h4,h5⟩=>⟨h1,h2,h4,h5⟩
 have R:¬j=g+2:=J
 have q3:¬j=g+3:=J
 have q4:¬j=g+4:=J
 have q5:¬j=g+5:=J
 have q7:¬g+7=j:=J
 have z:(UInt64.ofNat i).toNat=i:=Y5 J;have eb:Tp d.p e.p g j=[P7 ((g+2:Nat):Int) d.p j ((0:Nat):Int),P7 ((g+3:Nat):Int) e.p j ((0:Nat):Int),R1 ((g+4:Nat):Int) ((g+7:Nat):Int) ((g+3:Nat):Int) ((g+2:Nat):Int),R1 ((g+5:Nat):Int) ((g+7:Nat):Int) ((g+2:Nat):Int) ((g+3:Nat):Int),Qn d.p j ((0:Nat):Int) ((g+4:Nat):Int),Qn e.p j ((0:Nat):Int) ((g+5:Nat):Int)]:=rfl;rw[eb];obtain⟨hA,hB⟩:=Q i (J8 _) hi;refine .op (zr (p:=d) (off:=0) (by simp only[P8,Lj,z];omega) G) (.op (zr (p:=e) (off:=0) (by simp only[P8,Lj,J1 R,z];omega) H) (.op zt7 (.op zt7 ?_)));have c1:¬g+7=g+2:=J
 have c2:¬g+7=g+3:=J
 have c3:¬g+7=g+4:=J
 have c4:¬g+2=g+3:=J
 have c5:¬g+3=g+4:=J
 have c6:¬g+2=g+4:=J
 simp only[gq,P8,Lj,J1 R,J1 q3,J1 q7,J1 c1,J1 c2,J1 c3,J1 c4,J1 c5,J1 c6,z,Kw,hA,hB,x1];obtain⟨q,hq⟩:∃q,(if x%2=1 then pl s.m e i else pl s.m d i)=q:=⟨_,rfl⟩;obtain⟨T,I⟩:∃q,(if x%2=1 then pl s.m d i else pl s.m e i)=q:=⟨_,rfl⟩;rw[hq,I];obtain⟨C,A⟩:∃C,((((B.put j (UInt64.ofNat i)).put (g+2) (pl s.m d i)).put (g+3) (pl s.m e i)).put (g+4) q).put (g+5) T=C:=⟨_,rfl⟩;have D:C.r j=UInt64.ofNat i:=by rw[←A];simp[P8,R,q3,q4,q5]
 have U:C.r (g+4)=q:=by rw[←A];simp[P8]
 have K:C.r (g+5)=T:=by rw[←A];simp[P8]
 have L:C.r (g+7)=x:=by rw[←A];simp[P8,q7,x1]
 have hm:C.m=B.m:=by rw[←A];rfl
 have V:co g j s C:=λO z1 z8 z2 z3=>by
  have e2:¬O=g+2:=J
  have e3:¬O=g+3:=J
  have e4:¬O=g+4:=J
  have e5:¬O=g+5:=J
  rw[←A];simp only[P8,e2,e3,e4,e5,z2,M7];exact g1 O z1 z8 z2 z3
 rw[A];refine .op (zer (p:=d) (off:=0) (by rw[D,z];omega) G) (.op (zer (p:=e) (off:=0) (by rw[Zu,D,z];omega) H) (.nil ?_));rw[Zu,Zu,D,z,Kw,U,K];have X:i<e.k:=J
 have Y:Qd d B.m (C.sto d.b (d.a+i) q).m:=hm ▸ z6e hi;have Z:Qd e (C.sto d.b (d.a+i) q).m ((C.sto d.b (d.a+i) q).sto e.b (e.a+i) T).m:=z6e X;refine⟨λO a b c d=>by rw[Zu,Zu];exact V O a b c d,L,o1.trans ((Y.fm N).trans (Z.fm N)),λk hk E=>⟨?_,?_⟩,λk hk=>?_,λk hk=>?_⟩
 ·rw[Z.pl (.inl (Ne.symm M)) E,Zp,J1 J,hm];exact (Q k J E).1
 ·rw[Zp,J1 J,Y.pl (.inl M) J];exact (Q k J E).2
 ·rw[Z.pl (.inl (Ne.symm M)) J,Zp];split
  ·rename_i h;rw[h,←hq]
  ·rw[hm];exact v1 k J
 ·rw[Zp];split
  ·rename_i h;rw[h,←I]
  ·rw[Y.pl (.inl M) J];exact u1 k J
end ex
end
end
section
noncomputable section
set_option linter.unusedSimpArgs false
def dw(c w:Pn)(R D:Nat):Fr Lo :=
 (P0 [S8 9 ((R+8:Nat):Int) ((R+7:Nat):Int) ((63:Nat):Int),S8 8 ((R+7:Nat):Int) ((R+7:Nat):Int) ((1:Nat):Int)]).cat ((Zv (Pb w 0 (c.k+1)).p (c.k+1:Nat) ((R+2:Nat):Int) ((R+3:Nat):Int) ((R+8:Nat):Int) D).cat
  ((R7 12 (Pb w (c.k+1) (c.k+1)).p (Pb w 0 (c.k+1)).p c.p (c.k+1:Nat) true R D).cat (Se (Pb w 0 (c.k+1)).p (Pb w 0 (c.k+1)).p (Pb w (c.k+1) (c.k+1)).p ((R+1:Nat):Int) R D)))
section ex
variable {sz : Nat → Nat} {s : Fs}
def zwf{k:Nat}:2*18446744073709551616^k≤18446744073709551616^(k+1):=by
 rw[Ly];generalize 18446744073709551616^k=g;omega
def tq{v b Rn:Nat}(E:g<j)(F:j<A)(G:2*A≤D)(hb:Rn≤1)(B:b≤1)(z:U+D*b=2*g+Rn)(H:v<D)(q:v+j=U+D*M.toNat) :
  (if Qp M%2=1 then U else v)=(2*g+Rn)%j:=by
 have C:b=0:=by
  rcases M5 b 1 with h|h
  ·omega
  ·have:b=1:=J
   subst this;rw[Oe]at z;omega
 subst C;simp at z;cases M with
 |true =>
  rw[J6 (by rfl)];simp at q;rw[←z,Ke J]
 |false =>
  rw[J1 Ac];simp at q;rw[←z,←q,O7,Ke J]
def RgE(z D:Nat)(s j:Fs):Prop:=∀g,¬(z+1≤g∧g≤z+8)→g≠D→j.r g=s.r g
def RgE.trans{R D:Nat}{s s' gg:Fs}(h:RgE R D s s')(k:RgE R D s' gg):RgE R D s gg:=λz a b=>(k z a b).trans (h z a b)
def rsR_ex{R D:Nat}{c w:Pn}(hR:s.r R=0)(hD:D<R)(hc:c.in_ sz)(hw:w.in_ sz)(gG:2*(c.k+1)≤w.k)(wc:w.b≠c.b) :
  Tx sz (dw c w R D) s λF=>RgE R D s F∧F.r (R+7)=UInt64.ofNat ((s.r (R+7)).toNat*2)∧Fm [w] s.m F.m ∧
   (vl (pl s.m (Pb w 0 (c.k+1))) (c.k+1)<vl (pl s.m c) c.k→vl (pl F.m (Pb w 0 (c.k+1))) (c.k+1)=(2*vl (pl s.m (Pb w 0 (c.k+1))) (c.k+1)+(s.r (R+7)).toNat/2^63)%vl (pl s.m c) c.k):=by
 have g:∀x,x+(c.k+1)≤w.k→(Pb w x (c.k+1)).in_ sz:=λx h=>by
  obtain⟨h1,I⟩:=hw;exact⟨by show w.a+x+(c.k+1)≤sz w.b;omega,I⟩
 have A:∀x,x+(c.k+1)≤w.k→∀{m K:Nat→Nat→UInt64},Qd (Pb w x (c.k+1)) m K→Fm [w] m K:=λx h m K o=>λu v hn=>o u v λ⟨q1,E,q3⟩=>hn w N ⟨q1,by have:w.a+x≤v:=E;omega,by have:v<w.a+x+(c.k+1):=q3;omega⟩
 have L:c.k+1<18446744073709551616:=by have h1:=(g 0 J).1;have I:=(g 0 J).2;simp only[Pb]at h1 I;omega
 obtain⟨gH,hV⟩:∃gH,vl (pl s.m (Pb w 0 (c.k+1))) (c.k+1)=gH:=⟨_,rfl⟩;obtain⟨gF,M⟩:∃gF,vl (pl s.m c) c.k=gF:=⟨_,rfl⟩;have lC:gF<18446744073709551616^c.k:=M ▸ Vj _ _;obtain⟨t,ht⟩:∃t,s.r (R+7)=t:=⟨_,rfl⟩;rw[hV,M,ht];have z:t.toNat/2^63≤1:=by have:=t.toNat_lt;omega
 unfold dw;refine .op (dg Ac) (.op (zy9 Ac) ?_);rw[show ∀gI,Fr.cat (P0 []) gI=gI from λ_=>rfl,P8,J1 J,ht,Nat.pow_one];obtain⟨B,j⟩:∃B,(s.put (R+8) (UInt64.ofNat (t.toNat/2^63))).put (R+7) (UInt64.ofNat (t.toNat*2))=B:=⟨_,rfl⟩;have m0:B.m=s.m:=by rw[←j];rfl
 have r8:(B.r (R+8)).toNat=t.toNat/2^63:=by rw[←j,P8,J1 J,P8,J6 rfl];exact zpj
 have r7:B.r (R+7)=UInt64.ofNat (t.toNat*2):=by rw[←j,P8,J6 rfl]
 have g0:RgE R D s B:=λgg a b=>by rw[←j,P8,J1 J,P8,J1 J]
 rw[j];refine .cat (sh_ex (p:=Pb w 0 (c.k+1)) (n:=c.k+1) (l:=R+2) (o:=R+3) (b:=R+8) (D:=D) (g 0 J) (J8 _) J (by rw[r8];exact z)) λC ⟨O,P,b1,Q⟩=>?_
 rw[r8,m0,hV]at Q;rw[m0]at P;have T:C.r R=0:=by rw[O R J J J J,g0 R J J,hR]
 have c1:vl (pl C.m c) c.k=gF:=(P.vl (.inl wc) (J8 _)).trans M;have t1:C.r (R+7)=UInt64.ofNat (t.toNat*2):=by rw[O (R+7) J J J J,r7]
 have k1:RgE R D s C:=g0.trans λgg a b=>O gg J J J b
 obtain⟨gD,G⟩:∃gD,vl (pl C.m (Pb w 0 (c.k+1))) (c.k+1)=gD:=⟨_,rfl⟩;rw[G]at Q;have lX:gD<18446744073709551616^(c.k+1):=G ▸ Vj _ _;refine .cat (z7k (.inr rfl) (keep:=true) (n:=c.k+1) (to:=Pb w (c.k+1) (c.k+1)) (a:=Pb w 0 (c.k+1)) (b:=c) T hD (g 0 J) hc L λ_=>⟨g (c.k+1) J,J8 _,.inl (.inr (.inr Bs)),.inl (.inl wc)⟩) λs2 ⟨g2,_,H,cb,v,lv,r2,U,E⟩=>?_
 have H:=H rfl;have U:=U rfl;have V:¬(12:Int)=11:=Ac
 rw[Tl,J1 V,Yc,Yc]at E;have X:vl (pl C.m (Pb w 0 (c.k+1))) (Pb w 0 (c.k+1)).k=gD:=G;rw[X,c1,Ke lX,Ke (tt lC)]at E;have Y:vl (pl s2.m (Pb w 0 (c.k+1))) (c.k+1)=gD:=(H.vl (q:=Pb w 0 (c.k+1)) (.inr (.inr Bs)) (J8 _)).trans G;refine (np (c:=R+1) (to:=Pb w 0 (c.k+1)) (a:=Pb w 0 (c.k+1)) (b:=Pb w (c.k+1) (c.k+1)) hD ⟨J,J⟩ (g 0 J) (g (c.k+1) J) (g 0 J) (J8 _) (J8 _) (.inr ⟨rfl,rfl⟩) (.inl (.inr (.inl Bs)))).mono λs3 ⟨g3,o3,v3⟩=>⟨k1.trans (RgE.trans (λgg a b=>g2 gg J b) λgg a b=>g3 gg J b),?_,(A 0 J P).trans ((A (c.k+1) J H).trans (A 0 J o3)),λZ=>?_⟩
 ·rw[g3 (R+7) J J,g2 (R+7) J J,t1]
 have e3:vl (pl s3.m (Pb w 0 (c.k+1))) (c.k+1)=if Qp cb%2=1 then gD else v:=by
  rw[r2]at v3;by_cases q:Qp cb%2=1
  ·rw[J6 q,←Y];exact Vz λi hi=>by rw[v3 i hi,J6 q]
  ·rw[J1 q,←U];exact Vz λi hi=>by rw[v3 i hi,J1 q]
 rw[e3];exact tq Z lC zwf z b1 Q lv E
def uo{t P J M:Nat}(z:2*(P*J)=M)(E:0<P)(A:0<J):2*(t/(2*P))+t*J%M/(P*J)=t/P:=by
 obtain⟨q,B⟩:∃q,t/(2*P)=q:=⟨_,rfl⟩;obtain⟨r,C⟩:∃r,t%(2*P)=r:=⟨_,rfl⟩;have D:t=2*P*q+r:=by rw[←B,←C];exact (Nat.div_add_mod t (2*P)).symm
 have g:r<2*P:=C ▸ L8 _ (by omega);have F:t*J=M*q+r*J:=by rw[D,←z];grind
 have j:r*J<M:=by
  rw[←z,←M4];exact Nat.mul_lt_mul_of_pos_right g A
 have G:t*J%M=r*J:=by rw[F,Nat.mul_add_mod,Ke j]
 have H:r*J/(P*J)=r/P:=Nat.mul_div_mul_right _ _ A;have I:t/P=2*q+r/P:=by
  rw[D,show 2*P*q=P*(2*q) by grind,Nat.mul_add_div E]
 rw[B,G,H,I]
def rsTop{t J:Nat}:UInt64.ofNat ((UInt64.ofNat (t*J)).toNat*2)=UInt64.ofNat (t*(J*2)):=by
 apply Le.1;simp only[Lh];rw[←M4,Nat.mod_mul_mod]
def mod_two{b:Nat}:(2*(g%j)+b)%j=(2*g+b)%j:=by
 rw[O8,O6,Nat.mod_mod,←O6,←O8]
def rsI_ex{R D:Nat}{c w:Pn}(X:s.r R=0)(Y:D+1<R)(hc:c.in_ sz)(hw:w.in_ sz)(B:2*(c.k+1)≤w.k)(H:w.b≠c.b) :
  Tx sz (Ri (D:Nat) ((64:Nat):Int) (dw c w R (D+1))) s λA=>(∀z,¬(R+1≤z∧z≤R+8)→z≠D→z≠D+1→A.r z=s.r z)∧Fm [w] s.m A.m ∧
   (vl (pl s.m (Pb w 0 (c.k+1))) (c.k+1)<vl (pl s.m c) c.k→vl (pl A.m (Pb w 0 (c.k+1))) (c.k+1)=(2^64*vl (pl s.m (Pb w 0 (c.k+1))) (c.k+1)+(s.r (R+7)).toNat)%vl (pl s.m c) c.k):=by
 obtain⟨F,I⟩:∃F,vl (pl s.m (Pb w 0 (c.k+1))) (c.k+1)=F:=⟨_,rfl⟩;obtain⟨G,K⟩:∃G,vl (pl s.m c) c.k=G:=⟨_,rfl⟩;obtain⟨t,L⟩:∃t,s.r (R+7)=t:=⟨_,rfl⟩;rw[I,K,L];have Z:=t.toNat_lt;refine .lp (λg j=>(∀z,¬(R+1≤z∧z≤R+8)→z≠D→z≠D+1→j.r z=s.r z)∧Fm [w] s.m j.m∧j.r (R+7)=UInt64.ofNat (t.toNat*2^g)∧(F<G→vl (pl j.m (Pb w 0 (c.k+1))) (c.k+1)=(2^g*F+t.toNat/2^(64-g))%G))
  ⟨λ_ _ _ _=>rfl,Fm.refl,by rw[L];simp,λh=>by rw[I,Oo,Nl (by omega)];simp;exact (Ke h).symm⟩ (by omega) (λg j hj ⟨O,Q,T,v1⟩=>?_) λA ⟨h1,h2,_,h4⟩=>⟨h1,h2,λh=>by rw[h4 h];simp⟩
 have c1:vl (pl j.m c) c.k=G:=(Q.vl (q:=c) (λp U=>by simp at U;subst U;exact .inl H) (J8 _)).trans K;refine (rsR_ex (s:=j.put D (UInt64.ofNat g)) (R:=R) (D:=D+1) (by rw[P8,J1 (by omega),O R (by omega) (by omega) (by omega),X]) Y hc hw B H).mono λs2 ⟨g2,t2,f2,V⟩=>⟨λz a b d=>?_,Q.trans f2,?_,λC=>?_⟩
 ·rw[g2 z a d,P8,J1 b];exact O z a b d
 ·rw[t2,P8,J1 (by omega),T,Ly];exact rsTop
 have e0:(j.put D (UInt64.ofNat g)).m=j.m:=rfl;rw[e0,P8,J1 (by omega),T,c1,v1 C]at V;have E:0<G:=by omega
 rw[V (L8 _ E),mod_two]
 congr 1
 have hb:=uo (t:=t.toNat) (P:=2^(63-g)) (J:=2^g) (M:=2^64) (by rw[←Nc,show 63-g+g=63 by omega]) (Nat.pow_pos Ac) (Nat.pow_pos Ac);rw[←Nc,show 63-g+g=63 by omega,show 2*2^(63-g)=2^(64-g) by rw[←Nat.pow_succ',show (63-g).succ=64-g by omega]]at hb;have hn:(UInt64.ofNat (t.toNat*2^g)).toNat=t.toNat*2^g%2^64:=N
 rw[hn,show 64-(g+1)=63-g by omega,←hb,show (2:Nat)^(g+1)=2^g*2 from Ly _ _];generalize t.toNat*2^g%2^64/2^63=b;generalize t.toNat/2^(64-g)=x;generalize 2^g=y;have hy:y*2*F=2*(y*F):=by rw[M3 y 2,M4]
 rw[hy];omega
def hiV(f:Nat→UInt64)(k m:Nat):Nat:=vl (λt=>f (m+t)) (k-m)
def hi_step{f:Nat→UInt64}{k m:Nat}(h:m<k):hiV f k m=(f m).toNat+2^64*hiV f k (m+1):=by
 unfold hiV;have e:vl (λt=>f (m+t)) (1+(k-(m+1)))=vl (λt=>f (m+t)) 1+18446744073709551616^1*vl (λt=>f (m+(1+t))) (k-(m+1)):=zk9 _ _ _;rw[(J:k-m=1+(k-(m+1))),e,Nat.pow_one];have g:vl (λt=>f (m+t)) 1=(f m).toNat:=by rw[W6];simp[vl]
 have j:vl (λt=>f (m+(1+t))) (k-(m+1))=vl (λt=>f (m+1+t)) (k-(m+1)):=Vz λt _=>by rw[L7]
 rw[g,j]
def modInC{x t:Nat}:(j*(x%g)+t)%g=(j*x+t)%g:=by
 rw[O8,O6,Nat.mod_mod,←O6,←O8]
def Wc(a c w:Pn)(R D:Nat):Fr Lo :=
 (P0 [cK ((8:Nat):Int) (UInt64.ofNat (a.k-1)),Pv 4 ((8:Nat):Int) ((8:Nat):Int) (D:Nat),P7 ((R+7:Nat):Int) a.p ((8:Nat):Int) ((0:Nat):Int)]).cat (Ri ((D+1:Nat):Int) ((64:Nat):Int) (dw c w R (D+1+1)))
def U5(d a c w:Pn)(R D:Nat):Fr Lo :=
 (Uo (Pb w 0 (c.k+1)).p R D).cat ((Ri (D:Nat) (a.k:Nat) (Wc a c w R D)).cat (Sd d.p (Pb w 0 c.k).p R D))
def RgR(z D:Nat)(s j:Fs):Prop:=∀g,¬(z+1≤g∧g≤z+8)→g≠8→g≠D→g≠D+1→g≠D+2→j.r g=s.r g
def rst_ex{D:Nat}{d a c w:Pn}(K:s.r g=0)(hD:D+2<8)(gg:8<g)(ha:a.in_ sz)(hc:c.in_ sz)(hd:d.in_ sz)(hw:w.in_ sz)(O:d.k=c.k)(P:2*(c.k+1)≤w.k)(wa:w.b≠a.b)(wc:w.b≠c.b)(wd:w.b≠d.b) :
  Tx sz (U5 d a c w g D) s λQ=>RgR g D s Q∧Fm [w,d] s.m Q.m∧(0<vl (pl s.m c) c.k→vl (pl Q.m d) d.k=vl (pl s.m a) a.k%vl (pl s.m c) c.k):=by
 obtain⟨M,hA⟩:∃M,vl (pl s.m a) a.k=M:=⟨_,rfl⟩;obtain⟨I,R⟩:∃I,vl (pl s.m c) c.k=I:=⟨_,rfl⟩;have lC:I<18446744073709551616^c.k:=R ▸ Vj _ _;rw[hA,R];have hr:(Pb w 0 (c.k+1)).in_ sz:=by
  obtain⟨h1,T⟩:=hw;exact⟨by show w.a+0+(c.k+1)≤sz w.b;omega,T⟩
 have U:(Pb w 0 c.k).in_ sz:=by
  obtain⟨h1,T⟩:=hw;exact⟨by show w.a+0+c.k≤sz w.b;omega,T⟩
 have wf:∀{m V:Nat→Nat→UInt64},Qd (Pb w 0 (c.k+1)) m V→Fm [w] m V:=λ{m V} o=>λu v hn=>o u v λ⟨q1,q2,q3⟩=>hn w N ⟨q1,by have:w.a+0≤v:=q2;omega,by have:v<w.a+0+(c.k+1):=q3;omega⟩
 have dj:∀{q:Pn},w.b≠q.b→∀p∈[w],Dj p q:=λ{q} h p hp=>by simp at hp;subst hp;exact .inl h
 obtain⟨gD,X⟩:=ha;unfold U5;refine .cat (zsh (p:=Pb w 0 (c.k+1)) hr J) λY ⟨g1,o1,v1⟩=>?_
 have gF:Y.r g=0:=by rw[g1 g J,K]
 have r1:vl (pl Y.m (Pb w 0 (c.k+1))) (c.k+1)=0:=by
  have:vl (pl Y.m (Pb w 0 (c.k+1))) (c.k+1)=vl (λ_=>0) (c.k+1):=Vz λi hi=>by rw[v1 i hi,K]
  rw[this];generalize c.k+1=n
  induction n with
  |zero=>rfl
  |succ n ih=>rw[W6,ih];simp
 have f1:=wf o1;refine .cat (.lp (λi j=>RgR g D s j∧Fm [w] s.m j.m∧(0<I→vl (pl j.m (Pb w 0 (c.k+1))) (c.k+1)=hiV (pl s.m a) a.k (a.k-i)%I))
  ⟨λA _ _ z1 _ _=>g1 A z1,f1,λ_=>by rw[r1];unfold hiV;rw[Oo,Nb];simp[vl]⟩ J (λi j hi ⟨E,F,B⟩=>?_) λj h=>h) λj ⟨E,F,B⟩=>?_
 ·have c2:vl (pl j.m c) c.k=I:=(F.vl (q:=c) (dj wc) (J8 _)).trans R;unfold Wc;refine .op zya (.op opZ_sub ?_);have G:UInt64.ofNat (a.k-1)-UInt64.ofNat i=UInt64.ofNat (a.k-1-i):=by
   apply Le.1;rw[UInt64.toNat_sub_of_le _ _ (by rw[L4,Y5 J,Y5 J];omega),Y5 J,Y5 J,Y5 J]
  have n8:¬D=8:=J
  simp only[P8,Lj,J1 n8,G];refine .op (zr (p:=a) (i:=8) (off:=0) (by simp only[P8,Lj];rw[Y5 J];omega) X) ?_;rw[show ∀gG,Fr.cat (P0 []) gG=gG from λ_=>rfl];simp only[P8,gq,Lj];rw[Y5 (J:a.k-1-i<18446744073709551616),Kw];obtain⟨C,z⟩:∃C,(((j.put D (UInt64.ofNat i)).put 8 (UInt64.ofNat (a.k-1))).put 8 (UInt64.ofNat (a.k-1-i))).put (g+7) (pl j.m a (a.k-1-i))=C:=⟨_,rfl⟩;rw[z];have m3:C.m=j.m:=by rw[←z];rfl
  have t3:C.r (g+7)=pl j.m a (a.k-1-i):=by rw[←z,P8,J6 rfl]
  have L:∀A,A≠g+7→A≠8→A≠D→C.r A=j.r A:=λA a b c=>by rw[←z,P8,J1 a,P8,J1 b,P8,J1 b,P8,J1 c]
  refine (rsI_ex (D:=D+1) (by rw[L g J J J,E g J J J J J,K]) J hc hw P wc).mono λs4 ⟨g4,f4,v4⟩=>⟨λA a b c d e=>?_,F.trans (m3 ▸ f4),λH=>?_⟩
  ·rw[g4 A a d e,L A J b c];exact E A a b c d e
  ·rw[m3,c2,t3,B H]at v4;have ea:pl j.m a (a.k-1-i)=pl s.m a (a.k-1-i):=F.pl (q:=a) (dj wa) J;rw[v4 (L8 _ H),modInC,ea];have hs:=hi_step (f:=pl s.m a) (k:=a.k) (m:=a.k-1-i) J;rw[(J:a.k-(i+1)=a.k-1-i),hs,(J:a.k-1-i+1=a.k-i),Nat.add_comm]
 ·have Z:j.r g=0:=by rw[E g J J J J J,K]
  refine (zfh (to:=d) (fr:=Pb w 0 c.k) Z J hd U (.inl (.inl (Ne.symm wd)))).mono λC ⟨L,o3,v3⟩=>⟨λA a b c d e=>(L A J b c d).trans (E A a b c d e),(F.mono N).trans (o3.fm N),λH=>?_⟩
  have B:=B H;rw[Nb]at B;have e0:hiV (pl s.m a) a.k 0=M:=by
   rw[←hA];unfold hiV;rw[Oo];exact Vz λi _=>by rw[Kw]
  rw[e0]at B;have lt:=L8 M H;have e1:vl (pl j.m (Pb w 0 c.k)) c.k%18446744073709551616^c.k=M%I:=by
   have h:=W6 (pl j.m (Pb w 0 (c.k+1))) c.k;rw[B]at h;have e2:vl (pl j.m (Pb w 0 (c.k+1))) c.k=vl (pl j.m (Pb w 0 c.k)) c.k:=rfl;have l2:=Vj (pl j.m (Pb w 0 c.k)) c.k;rw[e2]at h;have h3:M%I<18446744073709551616^c.k:=Nat.lt_trans lt lC;have h4:M%I%18446744073709551616^c.k=M%I:=Ke h3;rw[←h4,h,Nat.add_mul_mod_self_right]
  have e3:vl (pl C.m d) d.k=vl (pl j.m (Pb w 0 c.k)) c.k%18446744073709551616^d.k:=v3;rw[e3,O,e1]
end ex
end
end
section
set_option linter.unusedSimpArgs false
section ah
variable {c : Cf} {R D : Nat} {d e a b n w : Pn}
def zhq{q:Int}(h:EhC c (R:Int) (D:Int))(z:Wk c q)(A:Lb c a)(B:Lb c b)(C:Sb c d)(hk:d.k≤1000000):(Se d.p a.p b.p q R D).AllH c (D:Int):=by
 have E:=h.r;have G:=h.l;have j:∀F:Int,0≤F∧F≤10→S7 c ((R:Int)+F):=pq E;unfold Se;refine za7 (by show (d.k:Int)≤_;omega) J ?_;unfold Vw;have g:Wo c (D:Int):=.inl J;exact allH_L (Si (mf A (j 2 J) (.inr g)) (Si (mf B (j 3 J) (.inr g)) (Si (aj h.n (j 4 J) z (Sa (j 2 J)) (Sa (j 3 J))) (Si (zl6 C (Sa (j 4 J)) (.inr g)) oh_nil))))
def qz(h:EhC c (R:Int) (D:Int))(z:Lb c a)(A:Lb c b)(B:Lb c n)(C:Sb c d)(g:Lb c w)(j:Sb c w)(hn:n.k≤10000)(hd:d.k≤1000000):(Uz d a b n w R D).AllH c (D:Int):=by
 have F:∀E:Int,0≤E∧E≤10→S7 c ((R:Int)+E):=pq h.r;unfold Uz;exact allH_cat (im (.inl rfl) h z A (λ_=>j) J) (allH_cat (im (.inr rfl) h g B (λ_=>j) J) (zhq h (Sa (F 1 J)) g g C hd))
def sv(h:EhC c (R:Int) (D:Int))(z:Lb c a)(A:Lb c b)(B:Lb c n)(C:Sb c d)(g:Lb c w)(j:Sb c w)(hn:n.k≤10000)(hd:d.k≤1000000):(U2 d a b n w R D).AllH c (D:Int):=by
 have E:∀F:Int,0≤F∧F≤10→S7 c ((R:Int)+F):=pq h.r;unfold U2;exact allH_cat (im (.inr rfl) h z A (λ_=>j) J) (allH_cat (allH_L (Si (rf h.n (E 7 J) (Sa (E 1 J))) oh_nil)) (allH_cat (im (.inl rfl) h g B (λ_=>j) J) (zhq h (Sa (E 7 J)) g g C hd)))
def xg(h:EhC c (R:Int) (D:Int))(g:Lb c a)(j:Lb c b)(z:Lb c n)(A:Sb c d)(hd:d.k≤1000000):(V6 d a b n R D).AllH c (D:Int):=by
 have C:∀B:Int,0≤B∧B≤10→S7 c ((R:Int)+B):=pq h.r;unfold V6;exact allH_cat (allH_L (Si (mf z (C 7 J) (.inl rfl)) oh_nil)) (zhq h (Sa (C 7 J)) g j A hd)
def uy(h:EhC c (R:Int) (D:Int))(z:Lb c n)(A:Lb c d)(B:Sb c d)(C:Lb c e)(E:Sb c e)(hd:d.k≤1000000):(Vm d e n R D).AllH c (D:Int):=by
 have G:=h.l;have g:∀F:Int,0≤F∧F≤10→S7 c ((R:Int)+F):=pq h.r;have j:Wo c (D:Int):=.inl J;unfold Vm;refine allH_cat (allH_L (Si (mf z (g 7 J) (.inl rfl)) oh_nil)) (za7 J J ?_);unfold Tp;exact allH_L (Si (mf A (g 2 J) (.inr j)) (Si (mf C (g 3 J) (.inr j)) (Si (aj h.n (g 4 J) (Sa (g 7 J)) (Sa (g 3 J)) (Sa (g 2 J))) (Si (aj h.n (g 5 J) (Sa (g 7 J)) (Sa (g 2 J)) (Sa (g 3 J))) (Si (zl6 B (Sa (g 4 J)) (.inr j)) (Si (zl6 E (Sa (g 5 J)) (.inr j)) oh_nil))))))
def ny{l o x:Int}(h:EhC c (R:Int) (D:Int))(g:S7 c l)(ho:S7 c o)(j:S7 c x)(A:Lb c a)(B:Sb c a){k:Int}(hk:k≤1000000):(Zv a.p k l o x D).AllH c (D:Int):=by
 have C:=h.l;have z:Wo c (D:Int):=.inl J;unfold Zv;exact za7 J J (allH_L (Si (mf A g (.inr z)) (Si (ft (.inr rfl) h.n ho (Sa g)) (Si (ft (.inl rfl) h.n g (Sa g)) (Si (bg J h.n g (Sa g) (Sa j)) (Si (zl6 B (Sa g) (.inr z)) (Si (rf h.n j (Sa ho)) oh_nil)))))))
def sa(h:EhC c (R:Int) (D:Int))(A:Lb c n)(g:Lb c w)(z:Sb c w)(hn:n.k≤10000):(dw n w R D).AllH c (D:Int):=by
 have j:∀B:Int,0≤B∧B≤10→S7 c ((R:Int)+B):=pq h.r;unfold dw;exact allH_cat (allH_L (Si (ft (.inr rfl) h.n (j 8 J) (Sa (j 7 J))) (Si (ft (.inl rfl) h.n (j 7 J) (Sa (j 7 J))) oh_nil))) (allH_cat (ny (a:=Pb w 0 (n.k+1)) h (j 2 J) (j 3 J) (j 8 J) g z J)
  (allH_cat (im (.inr rfl) h g A (λ_=>z) J) (zhq (d:=Pb w 0 (n.k+1)) h (Sa (j 1 J)) g g z (by show n.k+1≤_;omega))))
def yh(h:EhC c (R:Int) (D:Int))(H:(D:Int)+3≤c.hi)(A:Lb c a)(B:Lb c n)(C:Sb c d)(g:Lb c w)(j:Sb c w)(hn:n.k≤10000)(ha:a.k≤10000)(hd:d.k≤1000000):(U5 d a n w R D).AllH c (D:Int):=by
 have I:=h.l;have K:=h.p;have L:∀E:Int,0≤E∧E≤10→S7 c ((R:Int)+E):=pq h.r;have F:Wo c (D:Int):=.inl J;have z:Wo c ((8:Nat):Int):=.inr J;have G:EhC c (R:Int) ((D+1+1:Nat):Int):=⟨h.r,h.p,J,h.n⟩;unfold U5;refine allH_cat (zkh j (Sa (rgr0 h.r)) J (by show n.k+1≤_;omega)) (allH_cat (za7 J J ?_) (zf9 h g C hd));unfold Wc;refine allH_cat (allH_L (Si (oh_Kl h.n J) (Si (um J h.n J z F) (Si (mf A (L 7 J) (.inr z)) oh_nil)))) (za7 J J ?_);exact sa G B g j hn
end ah
section gd
variable {bs : List Bf} {S ls : List Int} {R D : Nat} {d e a b n w : Pn}
def ew{f:Fr Lo}(h:Gd bs S ls f vR)(k:∀x∈S,x∈vR):Gd bs S ls f S:=Gd.mono h (λ_ h=>h) k
def zva{q:Int}(j:Vo (D:Int) ls)(H:D<8)(z:Tj (D:Int) S)(I:16≤R∧R≤50)(A:0≤q∧q<64)(B:q∈S)(C:Bp bs a)(E:Bp bs b)(g:Bp bs d)(F:Bw bs d):Gd bs S ls (Se d.p a.p b.p q R D) S:=by
 have hk:(d.k:Int)≤65536:=by have:=g.s;have:=g.z;omega
 unfold Se;have h:S5 64 bs ((D:Int)::S) (Vw d.p a.p b.p q R D):=by
  unfold Vw;exact zu C J J N (zu E J J N (zsx J A J J Ao N N (zak g F J J N N okL_nil)))
 exact Gd.lpD j J z (by show (d.k:Int)≤_;omega) (Gd.L (j.snoc.lt J) h (by simp[Pu,Vw,P7,R1,Qn];omega)) λx G=>Ln _ (Kf _ G)
def zh{x k:Nat}(g:Bp bs w)(h:x+k≤w.k):Bp bs (Pb w x k):=⟨g.b,by have:=g.s;show ((w.a+x+k:Nat):Int)≤(Ps bs w.b).size;omega,g.z⟩
def gd_adm(g:Vo (D:Int) ls)(G:D<8)(A:Tj (D:Int) S)(H:16≤R∧R≤50)(B:(R:Int)∈S)(I:Bp bs a)(K:Bp bs b)(L:Bp bs n)(M:Bp bs d)(O:Bw bs d)(C:Bp bs w)(P:Bw bs w)(hn:n.k≤10000)(Q:2*(n.k+1)≤w.k):Gd bs S ls (Uz d a b n w R D) S:=by
 have W:∀x k,Bw bs (Pb w x k):=λ_ _=>P
 have j:=zh (x:=0) (k:=n.k+1) C J;have E:=zh (x:=n.k+1) (k:=n.k+1) C J;have F:Tj (D:Int) (((R:Int)+1)::S):=A.high J;unfold Uz;refine Gd.cat (kw (.inl rfl) g J A J B I K (λ_=>⟨j,W _ _⟩) J) (Gd.cat (ew (kw (.inr rfl) g J F J Ao j L (λ_=>⟨E,W _ _⟩) J) λx z=>Kf _ z) (Gd.mono (zva g G F H J N j E M O) (λ_ h=>h) λx z=>Kf _ z))
def gd_sbm(j:Vo (D:Int) ls)(G:D<8)(A:Tj (D:Int) S)(H:16≤R∧R≤50)(B:(R:Int)∈S)(I:Bp bs a)(K:Bp bs b)(L:Bp bs n)(M:Bp bs d)(O:Bw bs d)(C:Bp bs w)(P:Bw bs w)(hn:n.k≤10000)(Q:2*n.k≤w.k):Gd bs S ls (U2 d a b n w R D) S:=by
 have W:∀x k,Bw bs (Pb w x k):=λ_ _=>P
 have z:=zh (x:=0) (k:=n.k) C J;have E:=zh (x:=n.k) (k:=n.k) C J;have F:Tj (D:Int) (((R+7:Nat):Int)::((R:Int)+1)::S):=(A.high (x:=(R:Int)+1) J).high J;have U:S5 64 bs (((R:Int)+1)::S) [Ub ((R+7:Nat):Int) ((R+1:Nat):Int)]:=zzu J J N okL_nil;unfold U2;refine Gd.cat (kw (.inr rfl) j J A J B I K (λ_=>⟨z,W _ _⟩) J) (Gd.cat (Gd.Lm (T:=((R+7:Nat):Int)::((R:Int)+1)::S) j J U (by simp[Pu,Ub];omega) (λx g=>by simpa [Pu,Ub] using g))
  (Gd.cat (ew (kw (.inl rfl) j J F J Ao z L (λ_=>⟨E,W _ _⟩) J) λx g=>Kf _ g) (Gd.mono (zva j G F H J N E z M O) (λ_ h=>h) λx g=>Kf _ (Kf _ g))))
def gd_sel(j:Vo (D:Int) ls)(z:D<8)(A:Tj (D:Int) S)(B:16≤R∧R≤50)(C:Bp bs a)(E:Bp bs b)(F:Bp bs n)(hn:1≤n.k)(G:Bp bs d)(H:Bw bs d):Gd bs S ls (V6 d a b n R D) S:=by
 have I:Tj (D:Int) (((R+7:Nat):Int)::S):=A.high J;have K:S5 64 bs S [P7 ((R+7:Nat):Int) n.p (-1) ((0:Nat):Int)]:=zzb F J J J okL_nil;unfold V6;exact Gd.cat (Gd.Lm (T:=((R+7:Nat):Int)::S) j J K (by simp[Pu,P7];omega) (λx g=>by simpa [Pu,P7] using g)) (Gd.mono (zva j z I B J N C E G H) (λ_ h=>h) λx g=>Kf _ g)
def gd_swp(z:Vo (D:Int) ls)(K:D<8)(B:Tj (D:Int) S)(L:16≤R∧R≤50)(C:Bp bs n)(hn:1≤n.k)(j:Bp bs d)(E:Bw bs d)(A:Bp bs e)(F:Bw bs e):Gd bs S ls (Vm d e n R D) S:=by
 have hk:(d.k:Int)≤65536:=by have:=j.s;have:=j.z;omega
 have G:Tj (D:Int) (((R+7:Nat):Int)::S):=B.high J;have H:S5 64 bs S [P7 ((R+7:Nat):Int) n.p (-1) ((0:Nat):Int)]:=zzb C J J J okL_nil;have I:S5 64 bs ((D:Int)::((R+7:Nat):Int)::S) (Tp d.p e.p R D):=by
  unfold Tp;exact zu j J J N (zu A J J N (zsx J J J J N N N (zsx J J J J N N N (zak j E J J N N (zak A F J J N N okL_nil)))))
 unfold Vm;exact Gd.cat (Gd.Lm (T:=((R+7:Nat):Int)::S) z J H (by simp[Pu,P7];omega) (λx g=>by simpa [Pu,P7] using g))
  (Gd.mono (Gd.lpD z J G J (Gd.L (z.snoc.lt J) I (by simp[Pu,Tp,P7,R1,Qn];omega)) λx g=>Ln _ (Kf _ g)) (λ_ h=>h) λx g=>Kf _ g)
def gd_rsR(j:Vo (D:Int) ls)(F:D<8)(G:Tj (D:Int) S)(H:16≤R∧R≤50)(I:(R:Int)∈S)(B:((R+7:Nat):Int)∈S)(K:Bp bs n)(C:Bp bs w)(L:Bw bs w)(hn:n.k≤10000)(M:2*(n.k+1)≤w.k):Gd bs S ls (dw n w R D) S:=by
 have W:∀x k,Bw bs (Pb w x k):=λ_ _=>L
 have z:=zh (x:=0) (k:=n.k+1) C J;have E:=zh (x:=n.k+1) (k:=n.k+1) C J;have O:S5 64 bs S [S8 9 ((R+8:Nat):Int) ((R+7:Nat):Int) ((63:Nat):Int),S8 8 ((R+7:Nat):Int) ((R+7:Nat):Int) ((1:Nat):Int)]:=zuc (.inr rfl) J J J B (zuc (.inl rfl) J J J (Kf _ B) okL_nil);have A:Tj (D:Int) (((R+8:Nat):Int)::S):=G.high J;have P:Tj (D:Int) (((R:Int)+1)::((R+8:Nat):Int)::S):=A.high J;unfold dw;refine Gd.cat (Gd.Lm (T:=((R+8:Nat):Int)::S) j J O (by simp[Pu,S8];omega) (λx g=>?_)) (Gd.cat (gd_sh (p:=Pb w 0 (n.k+1)) j J A J J J N z (W _ _) J)
  (Gd.cat (kw (.inr rfl) j J A J Bn z K (λ_=>⟨E,W _ _⟩) J) (Gd.mono (zva j F P H J N z E z (W _ _)) (λ_ h=>h) λx g=>Kf _ (Kf _ g))))
 simp only[Ka]at g;rcases g with rfl|g
 ·simp[Pu,S8]
 ·exact Ln _ g
def gd_rst(z:Vo (D:Int) ls)(Y:D+2<8)(A:Tj (D:Int) S)(I:16≤R∧R≤50)(B:(R:Int)∈S)(K:Bp bs a)(L:Bp bs n)(M:Bp bs d)(O:Bw bs d)(C:Bp bs w)(G:Bw bs w)(hn:n.k≤10000)(ha:a.k≤65536)(E:2*(n.k+1)≤w.k):Gd bs S ls (U5 d a n w R D) S:=by
 have W:∀x k,Bw bs (Pb w x k):=λ_ _=>G
 have P:=zh (x:=0) (k:=n.k+1) C J;have Q:=zh (x:=0) (k:=n.k) C J;unfold U5;refine Gd.cat (zmh z J A J B P (W _ _)) (Gd.cat (Gd.lpD (S':=(D:Int)::S) z J A J ?_ λx g=>Kf _ g) (zq7 z J A J B Q M O));unfold Wc;have j:Vo ((D+1:Nat):Int) (ls++[(D:Int)]):=z.snoc;have F:Vo ((D+1+1:Nat):Int) (ls++[(D:Int)]++[((D+1:Nat):Int)]):=j.snoc;have U:Tj ((D+1:Nat):Int) ((D:Int)::S):=A.cons;have H:Tj ((D+1:Nat):Int) (((R+7:Nat):Int)::(D:Int)::S):=U.high J;have V:Tj ((D+1+1:Nat):Int) (((D+1:Nat):Int)::((R+7:Nat):Int)::(D:Int)::S):=H.cons;have X:S5 64 bs ((D:Int)::S) [cK ((8:Nat):Int) (UInt64.ofNat (a.k-1)),Pv 4 ((8:Nat):Int) ((8:Nat):Int) (D:Nat),P7 ((R+7:Nat):Int) a.p ((8:Nat):Int) ((0:Nat):Int)] :=
  zxs J (zk0 J J J J N N (zu K J J N okL_nil))
 refine Gd.cat (Gd.Lm (T:=((R+7:Nat):Int)::(D:Int)::S) j J X (by simp[Pu,cK,Pv,P7];omega) (λx g=>?_)) (Gd.mono (Gd.lpD j J H J (gd_rsR F J V I Ao N L C G hn E) λx g=>Kf _ g) (λ_ h=>h) λx g=>Kf _ g);simp only[Ka]at g;rcases g with rfl|rfl|g
 ·simp[Pu,cK,Pv,P7]
 ·simp
 ·exact Ln _ (Kf _ g)
end gd
end
section
set_option linter.unusedSimpArgs false
section stp
variable {d e a b c w : Pn} {R D : Nat}
def zn4{q:Int}{to a b:Pc}{R D:Int}(h:to.size≤40):(Se to a b q R D).stp≤200:=tb (T:=40) (M:=4) J Ac (by simp[Ym,Vw])
def adm_stp(hc:c.k≤9)(hd:d.k≤40):(Uz d a b c w R D).stp≤2000:=by
 have g:∀q:Pn,0≤q.p.size:=λq=>K4 _
 have j:=gw (kd:=11) (n:=(c.k+1:Nat)) (R:=R) (D:=D) (to:=(Pb w 0 (c.k+1)).p) (a:=a.p) (b:=b.p) (keep:=true) J (g _) (g _);have z:=gw (kd:=12) (n:=(c.k+1:Nat)) (R:=R) (D:=D) (to:=(Pb w (c.k+1) (c.k+1)).p) (a:=(Pb w 0 (c.k+1)).p) (b:=c.p) (keep:=true) J (g _) (g _);have A:=zn4 (q:=((R+1:Nat):Int)) (to:=d.p) (a:=(Pb w 0 (c.k+1)).p) (b:=(Pb w (c.k+1) (c.k+1)).p) (R:=R) (D:=D) Dq;unfold Uz;simp only[stp_cat];omega
def sbm_stp(hc:c.k≤9)(hd:d.k≤40):(U2 d a b c w R D).stp≤2001:=by
 have g:∀q:Pn,0≤q.p.size:=λq=>K4 _
 have j:=gw (kd:=12) (n:=(c.k:Nat)) (R:=R) (D:=D) (to:=(Pb w 0 c.k).p) (a:=a.p) (b:=b.p) (keep:=true) J (g _) (g _);have z:=gw (kd:=11) (n:=(c.k:Nat)) (R:=R) (D:=D) (to:=(Pb w c.k c.k).p) (a:=(Pb w 0 c.k).p) (b:=c.p) (keep:=true) J (g _) (g _);have A:=zn4 (q:=((R+7:Nat):Int)) (to:=d.p) (a:=(Pb w c.k c.k).p) (b:=(Pb w 0 c.k).p) (R:=R) (D:=D) Dq;unfold U2;simp only[stp_cat,Ym,Kh,Kz];omega
def sel_stp(hd:d.k≤40):(V6 d a b c R D).stp≤201:=by
 have g:=zn4 (q:=((R+7:Nat):Int)) (to:=d.p) (a:=a.p) (b:=b.p) (R:=R) (D:=D) Dq;unfold V6;simp only[stp_cat,Ym,Kh,Kz];omega
def swp_stp(hd:d.k≤40):(Vm d e c R D).stp≤281:=by
 have g:=tb (d:=D) (times:=d.k) (b:=P0 (Tp d.p e.p R D)) (T:=40) (M:=6) J Ac (by simp[Ym,Tp]);unfold Vm;simp only[stp_cat,Ym,Kh,Kz];omega
def rsR_stp(hc:c.k≤9):(dw c w R D).stp≤1400:=by
 have g:∀q:Pn,0≤q.p.size:=λq=>K4 _
 have j:(Zv (Pb w 0 (c.k+1)).p (c.k+1:Nat) ((R+2:Nat):Int) ((R+3:Nat):Int) ((R+8:Nat):Int) D).stp≤40*(1+6):=tb J Ac (by simp[Ym]);have z:=gw (kd:=12) (n:=(c.k+1:Nat)) (R:=R) (D:=D) (to:=(Pb w (c.k+1) (c.k+1)).p) (a:=(Pb w 0 (c.k+1)).p) (b:=c.p) (keep:=true) J (g _) (g _);have A:=zn4 (q:=((R+1:Nat):Int)) (to:=(Pb w 0 (c.k+1)).p) (a:=(Pb w 0 (c.k+1)).p) (b:=(Pb w (c.k+1) (c.k+1)).p) (R:=R) (D:=D) (by show ((c.k+1:Nat):Int)≤40;omega);unfold dw;simp only[stp_cat,Ym,Kh,Kz];omega
def rst_stp(hc:c.k≤9)(ha:a.k≤40)(hd:d.k≤40):(U5 d a c w R D).stp≤4000000:=by
 have j:(Uo (Pb w 0 (c.k+1)).p R D).stp≤40*(1+1):=tb (by show ((c.k+1:Nat):Int)≤_;omega) Ac (by simp[Ym]);have z:=tb (d:=((D+1:Nat):Int)) (times:=((64:Nat):Int)) (b:=dw c w R (D+1+1)) (T:=64) (M:=1400) J Ac (rsR_stp hc);have g:(Wc a c w R D).stp≤90000:=by
  unfold Wc;simp only[stp_cat,Ym,Kh,Kz];omega
 have A:=tb (d:=(D:Int)) (times:=(a.k:Nat)) (b:=Wc a c w R D) (T:=40) (M:=90000) J Ac g;have B:=zji (R:=R) (D:=D) (to:=d.p) (fr:=(Pb w 0 c.k).p) ⟨K4 _,Dq⟩ (K4 _);unfold U5;simp only[stp_cat];omega
def zg7{q:Int}{to a b:Pc}{R D:Int}:(Se to a b q R D).flat.length≤6:=Yb (m:=4) (by simp[flat_frL,Vw])
def adm_len:(Uz d a b c w R D).flat.length≤90:=by
 have g:=Wm (kd:=11) (n:=(c.k+1:Nat)) (R:=R) (D:=D) (to:=(Pb w 0 (c.k+1)).p) (a:=a.p) (b:=b.p) (keep:=true);have j:=Wm (kd:=12) (n:=(c.k+1:Nat)) (R:=R) (D:=D) (to:=(Pb w (c.k+1) (c.k+1)).p) (a:=(Pb w 0 (c.k+1)).p) (b:=c.p) (keep:=true);have z:=zg7 (q:=((R+1:Nat):Int)) (to:=d.p) (a:=(Pb w 0 (c.k+1)).p) (b:=(Pb w (c.k+1) (c.k+1)).p) (R:=R) (D:=D);unfold Uz;simp only[R4,J9];omega
def sbm_len:(U2 d a b c w R D).flat.length≤90:=by
 have g:=Wm (kd:=12) (n:=(c.k:Nat)) (R:=R) (D:=D) (to:=(Pb w 0 c.k).p) (a:=a.p) (b:=b.p) (keep:=true);have j:=Wm (kd:=11) (n:=(c.k:Nat)) (R:=R) (D:=D) (to:=(Pb w c.k c.k).p) (a:=(Pb w 0 c.k).p) (b:=c.p) (keep:=true);have z:=zg7 (q:=((R+7:Nat):Int)) (to:=d.p) (a:=(Pb w c.k c.k).p) (b:=(Pb w 0 c.k).p) (R:=R) (D:=D);unfold U2;simp only[R4,flat_frL,J9,Kh,Kz];omega
def rst_len:(U5 d a c w R D).flat.length≤120:=by
 have z:(Uo (Pb w 0 (c.k+1)).p R D).flat.length≤3:=Yb (m:=1) Bx;have A:(Zv (Pb w 0 (c.k+1)).p (c.k+1:Nat) ((R+2:Nat):Int) ((R+3:Nat):Int) ((R+8:Nat):Int) ((D+1+1:Nat):Int)).flat.length≤8:=Yb (m:=6) Bx;have B:=Wm (kd:=12) (n:=(c.k+1:Nat)) (R:=R) (D:=((D+1+1:Nat):Int)) (to:=(Pb w (c.k+1) (c.k+1)).p) (a:=(Pb w 0 (c.k+1)).p) (b:=c.p) (keep:=true);have C:=zg7 (q:=((R+1:Nat):Int)) (to:=(Pb w 0 (c.k+1)).p) (a:=(Pb w 0 (c.k+1)).p) (b:=(Pb w (c.k+1) (c.k+1)).p) (R:=R) (D:=((D+1+1:Nat):Int));have g:(dw c w R (D+1+1)).flat.length≤56:=by
  unfold dw;simp only[R4,flat_frL,J9,Kh,Kz];omega
 have E:=Yb (d:=((D+1:Nat):Int)) (t:=((64:Nat):Int)) g;have j:(Wc a c w R D).flat.length≤61:=by
  unfold Wc;simp only[R4,flat_frL,J9,Kh,Kz];omega
 have F:=Yb (d:=(D:Int)) (t:=(a.k:Nat)) j;have G:=zft (R:=R) (D:=D) (to:=d.p) (fr:=(Pb w 0 c.k).p);unfold U5;simp only[R4,J9];omega
end stp
end
section
noncomputable section
set_option linter.unusedSimpArgs false
set_option linter.unusedVariables false
def Ut(d:Pn)(q R D:Int):Fr Lo:=(P0 [Qn d.p (-1) 0 q]).cat (Uo (Pb d 1 (d.k-1)).p R D)
def V0(kd:Int)(imm:UInt64)(d e a b c w:Pn)(R D:Nat):Fr Lo :=
 if kd=1 then (P0 [cK ((R:Int)+2) imm]).cat (Ut d ((R:Int)+2) R D)
 else if kd=2 then Sd d.p a.p R D
 else if kd=3 then R7 11 d.p a.p b.p (d.k:Nat) true R D
 else if kd=4 then R7 12 d.p a.p b.p (d.k:Nat) true R D
 else if kd=5 then (Sm (Pb w 0 (a.k+b.k)).p a.p b.p R D).cat (Sd d.p (Pb w 0 (a.k+b.k)).p R D)
 else if kd=6 then U4 d a b w a.k R D
 else if kd=7 then (R7 12 d.p a.p b.p (max a.k b.k:Nat) false R D).cat (Ut d ((R:Int)+1) R D)
 else if kd=8 then V6 d a b c R D
 else if kd=9 then U5 d a c w R D
 else if kd=10 then Uz d a b c w R D
 else if kd=11 then U2 d a b c w R D
 else Vm d e c R D
def Zw(kd:Int)(imm:UInt64)(d e a b c w:Pn)(R D:Nat):Fr Lo:=(zeF R).cat (V0 kd imm d e a b c w R D)
structure ExP (kd:Int) (d e a b c w:Pn):Prop where
 dk:1≤d.k∧d.k≤9
 ek:1≤e.k∧e.k≤9
 ak:1≤a.k∧a.k≤9
 bk:1≤b.k∧b.k≤9
 ck:1≤c.k∧c.k≤9
 k6:kd=6→b.k=a.k
 k8:kd=8→a.k=d.k∧b.k=d.k
 k9:kd=9→c.k=d.k
 k10:kd=10∨kd=11→a.k=d.k∧b.k=d.k∧c.k=d.k
 k14:¬kd≤11→e.k=d.k∧d.b≠e.b
 w5:kd=5→a.k+b.k≤w.k
 w6:kd=6→2*a.k+4*(a.k-a.k/2+1)≤w.k
 w9:kd=9∨kd=10∨kd=11→2*(c.k+1)≤w.k
 wk:w.k≤100
 wb:w.b≠d.b∧w.b≠e.b∧w.b≠a.b∧w.b≠b.b∧w.b≠c.b
 z:d.a=0∧e.a=0∧a.a=0∧b.a=0∧c.a=0
section ah
variable {cf : Cf} {kd : Int} {imm : UInt64} {d e a b c w : Pn} {R D : Nat}
def zus{q:Int}(h:EhC cf (R:Int) (D:Int))(j:Wk cf q)(g:Sb cf d)(hd:d.k≤1000000):(Ut d q R D).AllH cf (D:Int):=by
 have z:=h.l;unfold Ut;exact allH_cat (allH_L (Si (zl6 g j (.inl rfl)) oh_nil)) (zkh (p:=Pb d 1 (d.k-1)) g (Sa (rgr0 h.r)) J (by show d.k-1≤_;omega))
structure ExL (cf:Cf) (kd:Int) (d e a b c w:Pn):Prop where
 sd:Sb cf d
 sw:Sb cf w
 lw:Lb cf w
 la:2≤kd→kd≤11→Lb cf a
 lb:3≤kd→kd≤11→kd≠9→Lb cf b
 lc:8≤kd→Lb cf c
 ld:¬kd≤11→Lb cf d
 le:¬kd≤11→Lb cf e
 se:¬kd≤11→Sb cf e
def zty(hk:1≤kd)(p:ExP kd d e a b c w)(l:ExL cf kd d e a b c w)(h:EhC cf (R:Int) (D:Int))(K:(D:Int)+3≤cf.hi):(Zw kd imm d e a b c w R D).AllH cf (D:Int):=by
 have L:∀M:Int,0≤M∧M≤10→S7 cf ((R:Int)+M):=pq h.r;have O:=p.dk;have P:=p.ak;have Q:=p.bk;have T:=p.ck;unfold Zw zeF;refine allH_cat (allH_L (Si (oh_K h.n (rgr0 h.r)) oh_nil)) ?_;unfold V0;by_cases z:kd=1
 ·rw[J6 z];exact allH_cat (allH_L (Si (oh_K h.n (L 2 J)) oh_nil)) (zus h (Sa (L 2 J)) l.sd J)
 rw[J1 z];by_cases A:kd=2
 ·rw[J6 A];exact zf9 h (l.la J J) l.sd J
 rw[J1 A];by_cases B:kd=3
 ·rw[J6 B];exact im (.inl rfl) h (l.la J J) (l.lb J J J) (λ_=>l.sd) J
 rw[J1 B];by_cases C:kd=4
 ·rw[J6 C];exact im (.inr rfl) h (l.la J J) (l.lb J J J) (λ_=>l.sd) J
 rw[J1 C];by_cases E:kd=5
 ·rw[J6 E];exact allH_cat (zfe (to:=Pb w 0 (a.k+b.k)) h (l.la J J) (l.lb J J J) l.lw l.sw J J (by show a.k+b.k≤_;omega)) (zf9 (a:=Pb w 0 (a.k+b.k)) h l.lw l.sd J)
 rw[J1 E];by_cases F:kd=6
 ·rw[J6 F];exact qq h (l.la J J) (l.lb J J J) l.sd l.lw l.sw J J J J
 rw[J1 F];by_cases G:kd=7
 ·rw[J6 G];exact allH_cat (im (to:=d) (.inr rfl) h (l.la J J) (l.lb J J J) (λh=>Ak) J) (zus h (Sa (L 1 J)) l.sd J)
 rw[J1 G];by_cases H:kd=8
 ·rw[J6 H];exact xg h (l.la J J) (l.lb J J J) (l.lc J) l.sd J
 rw[J1 H];by_cases I:kd=9
 ·rw[J6 I];exact yh h K (l.la J J) (l.lc J) l.sd l.lw l.sw J J J
 rw[J1 I];by_cases g:kd=10
 ·rw[J6 g];exact qz h (l.la J J) (l.lb J J J) (l.lc J) l.sd l.lw l.sw J J
 rw[J1 g];by_cases j:kd=11
 ·rw[J6 j];exact sv h (l.la J J) (l.lb J J J) (l.lc J) l.sd l.lw l.sw J J
 rw[J1 j];have hn:¬kd≤11:=J
 exact uy h (l.lc J) (l.ld hn) l.sd (l.le hn) (l.se hn) J
end ah
section gd
variable {bs : List Bf} {ls S : List Int} {kd : Int} {imm : UInt64} {d e a b c w : Pn} {R D : Nat}
def ol{q:Int}(g:Vo (D:Int) ls)(G:D<8)(A:Tj (D:Int) S)(H:16≤R∧R≤50)(B:0≤q∧q<64)(C:q∈S)(E:(R:Int)∈S)(j:Bp bs d)(z:Bw bs d)(hd:1≤d.k):Gd bs S ls (Ut d q R D) S:=by
 unfold Ut;exact Gd.cat (Gd.Lm (T:=S) g J (okL_StN j z B J J C okL_nil) (by simp[Pu,Qn]) (λx F=>by simpa [Pu,Qn] using F)) (zmh g J A J E (zh (x:=1) (k:=d.k-1) j J) z)
structure ExG (bs:List Bf) (kd:Int) (d e a b c w:Pn):Prop where
 d:Bp bs d∧Bw bs d
 e:Bp bs e∧(¬kd≤11→Bw bs e)
 a:Bp bs a
 b:Bp bs b
 c:Bp bs c
 w:Bp bs w∧Bw bs w
def exT_gd(hk:1≤kd)(p:ExP kd d e a b c w)(g:ExG bs kd d e a b c w)(z:Vo (D:Int) ls)(Z:D+2<8)(C:16≤R∧R≤50):Gd bs [] ls (Zw kd imm d e a b c w R D) []:=by
 have A:Tj (D:Int) [(R:Int)]:=λx G=>by simp at G;omega
 have B:16≤(R:Int)∧(R:Int)≤50:=J
 have m:(R:Int)∈[(R:Int)]:=N
 have dk:=p.dk;have ak:=p.ak;have bk:=p.bk;have ck:=p.ck;have j:∀{f:Fr Lo} {Y:List Int},Gd bs [(R:Int)] ls f Y→Gd bs [(R:Int)] ls f []:=λh=>Gd.mono h (λ_ h=>h) (λ_ h=>Ak)
 unfold Zw zeF;refine Gd.cat (Gd.Lm (T:=[(R:Int)]) z J (zxs J okL_nil) Hw (λx G=>by simpa [Pu,cK] using G)) ?_;unfold V0;by_cases M:kd=1
 ·rw[J6 M];have I:Tj (D:Int) [(R:Int)+2,(R:Int)]:=A.high J;exact j (Gd.cat (Gd.Lm (T:=[(R:Int)+2,(R:Int)]) z J (zxs J okL_nil) Hw (λx G=>by simpa [Pu,cK] using G)) (ol z J I C J N N g.d.1 g.d.2 p.dk.1))
 rw[J1 M];by_cases O:kd=2
 ·rw[J6 O];exact j (zq7 z J A B m g.a g.d.1 g.d.2)
 rw[J1 O];by_cases P:kd=3
 ·rw[J6 P];exact j (kw (.inl rfl) z J A B m g.a g.b (λ_=>g.d) J)
 rw[J1 P];by_cases Q:kd=4
 ·rw[J6 Q];exact j (kw (.inr rfl) z J A B m g.a g.b (λ_=>g.d) J)
 rw[J1 Q];by_cases K:kd=5
 ·rw[J6 K];have w5:=p.w5 K;have U:=zh (x:=0) (k:=a.k+b.k) g.w.1 J;exact j (Gd.cat (zq6 z J A B m g.a g.b U g.w.2) (zq7 z J A B m U g.d.1 g.d.2))
 rw[J1 K];by_cases H:kd=6
 ·rw[J6 H];exact j (gd_hal z J A C m g.a g.b g.d.1 g.d.2 g.w.1 g.w.2 rfl (p.k6 H) (p.w6 H))
 rw[J1 H];by_cases V:kd=7
 ·rw[J6 V];have I:Tj (D:Int) [(R:Int)+1,(R:Int)]:=A.high J;exact j (Gd.cat (kw (to:=d) (.inr rfl) z J A B m g.a g.b (λh=>Ak) J) (ol z J I C J N N g.d.1 g.d.2 p.dk.1))
 rw[J1 V];by_cases X:kd=8
 ·rw[J6 X];exact j (gd_sel z J A C g.a g.b g.c p.ck.1 g.d.1 g.d.2)
 rw[J1 X];by_cases L:kd=9
 ·rw[J6 L];exact j (gd_rst z J A C m g.a g.c g.d.1 g.d.2 g.w.1 g.w.2 J J (p.w9 (.inl L)))
 rw[J1 L];by_cases E:kd=10
 ·rw[J6 E];exact j (gd_adm z J A C m g.a g.b g.c g.d.1 g.d.2 g.w.1 g.w.2 J (p.w9 (.inr (.inl E))))
 rw[J1 E];by_cases F:kd=11
 ·rw[J6 F];have:=p.w9 (.inr (.inr F));exact j (gd_sbm z J A C m g.a g.b g.c g.d.1 g.d.2 g.w.1 g.w.2 J J)
 rw[J1 F];have hn:¬kd≤11:=J
 exact j (gd_swp z J A C g.c p.ck.1 g.d.1 g.d.2 g.e.1 (g.e.2 hn))
end gd
end
end
end Go.Sv
