/- Texts of the evaluator, of the logic over it, of plain arithmetic. -/
import Derived.Test.YtodjkjimaheggaaGreatSvG2
set_option linter.unusedSimpArgs false
set_option linter.defProp false
namespace Go.Sv
def zuw {α:Type}{f:α→List LV}{k:Nat}(d:∀a,(f a).length=k):∀l:List α,(l.flatMap f).length=l.length*k
 |[]=>by simp
 |a::l=>by rw[Dx,Aj,zuw d l,d,Ar,Bb];omega
def zyl {α:Type}{f:α→List LV}{k:Nat}(d:∀a,(f a).length=k):∀(l:List α) (i:Nat),(l.flatMap f).drop (i*k)=(l.drop i).flatMap f
 |_,0=>by simp
 |[],i+1=>by simp
 |a::l,i+1=>by
  rw[Dx,List.drop_append,d,show (i+1)*k - k=i*k by rw[Bb];omega,zyl d l i];rw[Cy (by rw[d,Bb];omega)];rfl
def y4 {α:Type}{f:α→List LV}{k:Nat}(d:∀a,(f a).length=k){l:List α}{i:Nat}{a:α}(h:l[i]?=some a):((l.flatMap f).drop (i*k)).take k=f a:=by
 rw[zyl d];obtain⟨hi,rfl⟩:=Aa.1 h;rw[B9 hi,Dx,En (by rw[d];exact Al _),Aw (by rw[d];exact Al _)]
def uk {α:Type}{f:α→List LV}{k:Nat}(d:∀a,(f a).length=k){l:List α}{i:Nat}{a:α}(h:l[i]?=some a){j:Nat}(g:j<k):(l.flatMap f)[i*k+j]?=(f a)[j]?:=by
 rw[←E6,←y4 d h,Ci g]
def xu {α:Type}{f:α→List LV}(d:∀a,dats (f a)=true):∀l:List α,dats (l.flatMap f)=true
 |[]=>rfl
 |a::l=>by rw[Dx];exact dats_app (d a) (xu d l)
def zx6 {α:Type}{f:α→List LV}{k:Nat}(d:∀a,(f a).length=k){l:List α}{i:Nat}(h:i<l.length):i*k+k≤(l.flatMap f).length:=by
 rw[zuw d,←Ec];exact At _ h
structure Vr where
 limbs:Int
 sec:Bool
 mode:Int
structure Ko where
 kind:Int
 d:Int
 e:Int
 a:Int
 b:Int
 c:Int
 imm:UInt64
def Vr.f (v:Vr):List LV:=[.i v.limbs,.bool v.sec,.i v.mode]
def Ko.f (o:Ko):List LV:=[.i o.kind,.i o.d,.i o.e,.i o.a,.i o.b,.i o.c,.u o.imm]
def Iq (l:List Vr):List LV:=l.flatMap Vr.f
def Nb (l:List Ko):List LV:=l.flatMap Ko.f
def Vr.f_len (v:Vr):v.f.length=3:=rfl
def Ko.f_len (o:Ko):o.f.length=7:=rfl
def j8 (l:List Ko):(Nb l).length=l.length*7:=zuw Ko.f_len l
def Ml (l:List Vr):dats (Iq l)=true:=xu (fun _=>rfl) l
def zcj (l:List Ko):dats (Nb l)=true:=xu (fun _=>rfl) l
def ze3 {l:List Vr}{i:Nat}{v:Vr}(h:l[i]?=some v):((Iq l).drop (i*3)).take 3=v.f:=y4 Vr.f_len h
def ztg {l:List Ko}{i:Nat}{v:Ko}(h:l[i]?=some v):((Nb l).drop (i*7)).take 7=v.f:=y4 Ko.f_len h
def zqd {l:List Vr}{i:Nat}{v:Vr}(h:l[i]?=some v):(Iq l)[i*3]?=some (.i v.limbs):=by have:=uk Vr.f_len h (j:=0) (by omega);simpa [Iq,Vr.f] using this
def ztc {l:List Vr}{i:Nat}{v:Vr}(h:l[i]?=some v):(Iq l)[i*3+1]?=some (.bool v.sec):=by have:=uk Vr.f_len h (j:=1) (by omega);simpa [Iq,Vr.f] using this
def xm {l:List Vr}{i:Nat}{v:Vr}(h:l[i]?=some v):(Iq l)[i*3+2]?=some (.i v.mode):=by have:=uk Vr.f_len h (j:=2) (by omega);simpa [Iq,Vr.f] using this
def sg {l:List Vr}{i:Nat}(h:i<l.length):i*3+3≤(Iq l).length:=zx6 Vr.f_len h
def oo {l:List Ko}{i:Nat}(h:i<l.length):i*7+7≤(Nb l).length:=zx6 Ko.f_len h
def gv (l:List Vr)(n:Nat):Vr:=l.getD n ⟨0,false,0⟩
def go (l:List Ko)(n:Nat):Ko:=l.getD n ⟨0,0,0,0,0,0,0⟩
def gb (l:List Bool)(n:Nat):Bool:=l.getD n false
def Og {l:List Vr}{n:Nat}(h:n<l.length):l[n]?=some (gv l n):=by simp[gv,Ae,h]
def zxj {l:List Ko}{n:Nat}(h:n<l.length):l[n]?=some (go l n):=by simp[go,Ae,h]
def mm {l:List Bool}{n:Nat}(h:n<l.length):l[n]?=some (gb l n):=by simp[gb,Ae,h]
def zs8 {l:List Vr}{n:Nat}(h:n<l.length):l.drop n=gv l n::l.drop (n+1):=by
 rw[B9 h];congr 1;have:=Og h;rw[Ai h] at this;exact Option.some.inj this
def fu {l:List Ko}{n:Nat}(h:n<l.length):l.drop n=go l n::l.drop (n+1):=by
 rw[B9 h];congr 1;have:=zxj h;rw[Ai h] at this;exact Option.some.inj this
def Ku (v:Vr):Bool:=decide (v.mode=1) || decide (v.mode=2)
def b9 (v:Vr):Bool:=decide (v.limbs<1) || (decide (512<v.limbs) || (decide (v.mode<0) || decide (3<v.mode)))
def Oz:Nat→Nat→List Vr→Option Nat
 |_,p,[]=>some p
 |i,p,v::l=>if b9 v=true then none else if v.mode=0 then Oz (i+1) p l else if p<i∨v.sec=decide (v.mode=1) then none else Oz (i+1) (p+1) l
def K3 (l:List Vr):Bool:=match Oz 0 0 l with
 |none=>false
 |some p=>decide (1≤l.length)&&(decide (l.length≤256)&&decide (p≤12))
def Ti (n:Nat)(v:Int):Bool:=decide (0≤v)&&decide (v<n)
def Qi (n:Nat)(o:Ko):Bool :=
 decide (o.d=-1)&&(decide (o.e=-1)&&(decide (o.c=-1)&&(Ti n o.a&&(if o.imm=2 then Ti n o.b else (decide (o.imm=1) || decide (o.imm=3))&&decide (o.b=-1)))))
def Jz (k:Int):Option Nat :=
 if k=1 then some 1 else if k=2 then some 5 else if k=3∨k=4∨k=5∨k=6∨k=7 then some 13 else if k=8∨k=10∨k=11∨k=12∨k=13 then some 29 else if k=9 then some 21 else if k=14 then some 19 else if k=15∨k=16 then some 0 else none
def K6 (o:Ko):Bool:=if o.kind=1 then true else if o.kind=13 then decide (1≤o.imm)&&decide (o.imm≤6) else if o.kind=15 then decide (1≤o.imm)&&decide (o.imm≤4096) else decide (o.imm=0)
def Me (n s i:Nat)(v:Int):Bool:=if s.testBit i=true then Ti n v else decide (v=-1)
def Nk (n s:Nat)(o:Ko):Bool:=Me n s 0 o.d&&(Me n s 1 o.e&&(Me n s 2 o.a&&(Me n s 3 o.b&&Me n s 4 o.c)))
def Mn (o:Ko):List Int:=[o.a,o.b,o.c].filter (fun v=>!decide (v<0))++if o.kind=14 then [o.d,o.e] else []
def Jq (vs:List Vr)(o:Ko):Bool:=(Mn o).any fun v=>(gv vs v.toNat).sec
def O3 (vs:List Vr)(sec:Bool)(v:Int):Bool:=decide (v<0) || !(Ku (gv vs v.toNat) || (sec && !(gv vs v.toNat).sec))
def Kf (o:Ko):List Int :=
 if o.kind=6 then [o.a,o.b] else if o.kind=14 then [o.d,o.e] else if o.kind=8 then [o.d,o.a,o.b] else if o.kind=9 then [o.d,o.c] else if o.kind=10∨o.kind=11∨o.kind=12 then [o.d,o.a,o.b,o.c] else if o.kind=13 then [o.d,o.a,o.c] else []
def Kc (vs:List Vr)(v:Int):Int:=(gv vs v.toNat).limbs
def cr (vs:List Vr)(o:Ko):Bool:=(Kf o).all fun v=>decide (Kc vs v=Kc vs ((Kf o).headD 0))
def Ie (vs:List Vr)(o:Ko):Bool :=
 if o.kind=17 then Qi vs.length o else match Jz o.kind with
 |none=>false
 |some s=>K6 o&&(Nk vs.length s o&&(O3 vs (Jq vs o) o.d&&(O3 vs (Jq vs o) o.e&&((decide (o.e<0) || !decide (o.d=o.e))&&cr vs o))))
def dl (k:Int):Int:=if k=15 then 1 else if k=16 then -1 else 0
def Q1 (m:List Bool)(o:Ko):List Bool:=if 0≤o.d then m.set o.d.toNat true else m
def oi (m:List Bool)(o:Ko):Bool:=(Mn o).all fun v=>gb m v.toNat
def Nh (vs:List Vr):List Bool→Int→List Ko→Option (List Bool×Int)
 |m,a,[]=>some (m,a)
 |m,a,o::l=>if (Ie vs o&&(oi m o&&(decide (0≤a+dl o.kind)&&decide (a+dl o.kind≤4))))=true then Nh vs (Q1 m o) (a+dl o.kind) l else none
def Nd (vs:List Vr)(v:Int):Bool:=decide (0≤v)&&decide ((gv vs v.toNat).mode=3)
def Ls (vs:List Vr)(o:Ko):Bool:=decide (o.kind=17)&&(Qi vs.length o&&(!Nd vs o.a && !Nd vs o.b))
def cb (vs:List Vr)(m:List Bool):Bool:=(List.range vs.length).all fun i=>!decide ((gv vs i).mode=3) || gb m i
def Tj (vs:List Vr):List Bool:=vs.map Ku
def Le (vs:List Vr)(os rs:List Ko):Bool :=
 K3 vs&&(decide (os.length≤4096)&&(decide (rs.length≤4096)&&(rs.all (Ls vs)&&(match Nh vs (Tj vs) 0 os with
  |none=>false
  |some (m,a)=>cb vs m&&decide (a=0)))))
def Nu (vs:List Vr)(os rs:List Ko):Int:=if Le vs os rs=true then 0 else 2
def znn {p:Int→Bool}{l:List Int}{j:Nat}(h:j<l.length):(l.take (j+1)).filter (fun v=>!p v)=(l.take j).filter (fun v=>!p v)++if p (gd l j)=true then [] else [gd l j]:=by
 have e:l[j]=gd l j:=by simp[gd,Ae,h]
 rw[Ck h,List.filter_append,e]
 congr 1
 cases a:p (gd l j)<;>simp[a]
def T6 (p:Int→Bool)(l:List Int):(Uz p l=-1∧l.filter (fun v=>!p v)=l)∨∃i:Nat,Uz p l=i∧i<l.length∧(l.take (i+1)).filter (fun v=>!p v)=l.take i:=by
 unfold Uz;by_cases h:l.findIdx p<l.length
 ·rw[Ag h];refine .inr ⟨_,rfl,h,?_⟩;have f:p l[l.findIdx p]=true:=List.findIdx_getElem;have e:l[l.findIdx p]=gd l (l.findIdx p):=by simp[gd,Ae,h]
  rw[znn h,←e,Ag f,Bz,List.filter_eq_self];intro a d;obtain⟨j,g,rfl⟩:=Cs.1 d;rw[List.getElem_take];rw[Ct] at g;have:=List.not_of_lt_findIdx (p:=p) (xs:=l) (i:=j) (by omega);simpa using this
 ·rw[Ab h];refine .inl ⟨rfl,?_⟩;rw[List.filter_eq_self];intro a d;have m:=List.findIdx_eq_length.1 (show l.findIdx p=l.length by have:=List.findIdx_le_length (p:=p) (xs:=l);omega);simp[m a d]
def zsg {c:List Int}{i j:Nat}{x:Int}(h:i<c.length)(a:i<j)(u:Nat)(hu:j≤u):gd (c.set i x) u=gd c u:=by
 rw[wm _ _ _ _ h,Ab (by omega)]
def znk {c:List Int}{i:Nat}{x:Int}(h:i<c.length):(c.set i x).take (i+1)=c.take i++[x]:=by
 rw[Ck (by simpa using h),List.getElem_set_self,List.take_set_of_le (Al _)]
def yg {n:Nat}{v:Int}:Ti n v=true↔0≤v∧v<n:=by simp[Ti]
def zb7 {n s i:Nat}{v:Int}(h:Me n s i v=true):v=-1∨(0≤v∧v<n):=by
 unfold Me at h;split at h
 ·exact .inr (yg.1 h)
 ·exact .inl (Dc h)
def M4 {n s i:Nat}{v:Int}(h:Me n s i v=true)(a:s.testBit i=true):0≤v∧v<n:=by
 rw[Me,Ag a] at h;exact yg.1 h
def zj1 {n s i:Nat}{v:Int}(h:Me n s i v=true)(a:s.testBit i=false):v=-1:=by
 rw[Me,Ab (by simp[a])] at h;exact Dc h
def zih {k:Int}{s:Nat}(h:Jz k=some s):(k=1∧s=1)∨(k=2∧s=5)∨((k=3∨k=4∨k=5∨k=6∨k=7)∧s=13)∨((k=8∨k=10∨k=11∨k=12∨k=13)∧s=29)∨(k=9∧s=21)∨(k=14∧s=19)∨((k=15∨k=16)∧s=0):=by
 unfold Jz at h
 repeat' split at h
 all_goals first|(cases h;done)|(cases h;simp_all)
structure PartsIn (n:Nat) (o:Ko):Prop where
 d:o.d=-1∨(0≤o.d∧o.d<n)
 e:o.e=-1∨(0≤o.e∧o.e<n)
 takes:∀v∈Mn o,0≤v∧v<n
 alike:∀v∈Kf o,0≤v∧v<n
 swap:o.kind=14→o.a=-1∧o.b=-1
def zu9 {n s:Nat}{o:Ko}(l:Jz o.kind=some s)(h:Nk n s o=true):PartsIn n o:=by
 simp only[Nk,Ac] at h;obtain⟨hd,he,d,f,g⟩:=h;have three:∀v∈[o.a,o.b,o.c].filter (fun v=>!decide (v<0)),0≤v∧v<n:=by
  intro v hv;obtain⟨a,m⟩:=List.mem_filter.1 hv;simp at m;simp only[An,C4,Ey] at a;rcases a with rfl|rfl|rfl
  ·rcases zb7 d with e|e<;>omega
  ·rcases zb7 f with e|e<;>omega
  ·rcases zb7 g with e|e<;>omega
 have hk:=zih l;refine⟨zb7 hd,zb7 he,fun v hv=>?_,fun v hv=>?_,fun j=>?_⟩
 ·rcases Az.1 hv with a|a
  ·exact three v a
  ·split at a
   ·rename_i j;have es:s=19:=by omega
    subst es;simp only[An,C4,Ey] at a;rcases a with rfl|rfl
    ·exact M4 hd (by decide)
    ·exact M4 he (by decide)
   ·cases a
 ·unfold Kf at hv;split at hv
  ·have es:s=13:=by omega
   subst es;simp only[An,C4,Ey] at hv;rcases hv with rfl|rfl
   ·exact M4 d (by decide)
   ·exact M4 f (by decide)
  split at hv
  ·have es:s=19:=by omega
   subst es;simp only[An,C4,Ey] at hv;rcases hv with rfl|rfl
   ·exact M4 hd (by decide)
   ·exact M4 he (by decide)
  split at hv
  ·have es:s=29:=by omega
   subst es;simp only[An,C4,Ey] at hv;rcases hv with rfl|rfl|rfl
   ·exact M4 hd (by decide)
   ·exact M4 d (by decide)
   ·exact M4 f (by decide)
  split at hv
  ·have es:s=21:=by omega
   subst es;simp only[An,C4,Ey] at hv;rcases hv with rfl|rfl
   ·exact M4 hd (by decide)
   ·exact M4 g (by decide)
  split at hv
  ·have es:s=29:=by omega
   subst es;simp only[An,C4,Ey] at hv;rcases hv with rfl|rfl|rfl|rfl
   ·exact M4 hd (by decide)
   ·exact M4 d (by decide)
   ·exact M4 f (by decide)
   ·exact M4 g (by decide)
  split at hv
  ·have es:s=29:=by omega
   subst es;simp only[An,C4,Ey] at hv;rcases hv with rfl|rfl|rfl
   ·exact M4 hd (by decide)
   ·exact M4 d (by decide)
   ·exact M4 g (by decide)
  ·cases hv
 ·have es:s=19:=by omega
  subst es;exact⟨zj1 d (by decide),zj1 f (by decide)⟩
def Su {n:Nat}{o:Ko}(hk:o.kind=17)(h:Qi n o=true):PartsIn n o:=by
 simp only[Qi,Ac,Ao] at h;obtain⟨hd,he,l,d,a⟩:=h;have d:=yg.1 d;have a:o.b=-1∨(0≤o.b∧o.b<n):=by
  split at a
  ·exact .inr (yg.1 a)
  ·simp only[Ac,Ao] at a;exact .inl a.2
 refine⟨.inl hd,.inl he,fun v hv=>?_,fun v hv=>?_,fun g=>by omega⟩
 ·unfold Mn at hv;rw[Ab (by omega),Bz] at hv;obtain⟨f,j⟩:=List.mem_filter.1 hv;simp at j;simp only[An,C4,Ey] at f;rcases f with rfl|rfl|rfl
  ·omega
  ·rcases a with e|e<;>omega
  ·omega
 ·unfold Kf at hv;rw[Ab (by omega),Ab (by omega),Ab (by omega),Ab (by omega),Ab (by omega),Ab (by omega)] at hv;cases hv
def Ys {vs:List Vr}{o:Ko}(h:Ie vs o=true):PartsIn vs.length o:=by
 unfold Ie at h;split at h
 ·rename_i hk;exact Su hk h
 ·split at h
  ·cases h
  ·rename_i s a;simp only[Ac] at h;exact zu9 a h.2.1
def Ra (o:Ko):List Int:=[o.d,o.e,o.a,o.b,o.c]
def zvp {n s:Nat}{o:Ko}(h:∀j<5,Me n s j (gd (Ra o) j)=true):Nk n s o=true:=by
 simp only[Nk,Ac];exact⟨h 0 (by omega),h 1 (by omega),h 2 (by omega),h 3 (by omega),h 4 (by omega)⟩
def zwx {n s:Nat}{o:Ko}{j:Nat}(d:j<5)(h:Me n s j (gd (Ra o) j)=false):Nk n s o=false:=by
 cases a:Nk n s o with
 |false=>rfl
 |true =>
  simp only[Nk,Ac] at a;have:j=0∨j=1∨j=2∨j=3∨j=4:=by omega
  rcases this with rfl|rfl|rfl|rfl|rfl
  ·exact absurd a.1 (by rw[show o.d=gd (Ra o) 0 from rfl,h];simp)
  ·exact absurd a.2.1 (by rw[show o.e=gd (Ra o) 1 from rfl,h];simp)
  ·exact absurd a.2.2.1 (by rw[show o.a=gd (Ra o) 2 from rfl,h];simp)
  ·exact absurd a.2.2.2.1 (by rw[show o.b=gd (Ra o) 3 from rfl,h];simp)
  ·exact absurd a.2.2.2.2 (by rw[show o.c=gd (Ra o) 4 from rfl,h];simp)
def zy0 {k:Int}{s:Nat}(h:Jz k=some s):s<32:=by rcases zih h with h|h|h|h|h|h|h<;>omega
def Yz (s i:Nat):((s:Int)/2^i%2=1)↔s.testBit i=true:=by
 rw[Ea,Ao];constructor
 ·intro h;have:((s/2^i%2:Nat):Int)=1:=by push_cast;exact h
  omega
 ·intro h;have:((s/2^i%2:Nat):Int)=1:=by omega
  push_cast at this;exact this
inductive Fr (α:Type) where
 |nil
 |op (o:α) (r:Fr α)
 |loop (o:α) (b:Fr α) (e:α) (r:Fr α)
section tree
variable {α : Type}
def Fr.flat:Fr α→List α
 |.nil=>[]
 |.op o r=>o::r.flat
 |.loop o b e r=>o::(b.flat++e::r.flat)
def Fr.size:Fr α→Nat
 |.nil=>0
 |.op _ r=>r.size+1
 |.loop _ b _ r=>b.size+r.size+2
def Fr.flat_len:∀f:Fr α,f.flat.length=f.size
 |.nil=>rfl
 |.op _ r=>by simp[flat,size,flat_len r]
 |.loop _ b _ r=>by simp[flat,size,flat_len b,flat_len r];omega
def Fr.wf (kd:α→Nat):Fr α→Prop
 |.nil=>True
 |.op o r=>kd o=0∧r.wf kd
 |.loop o b e r=>kd o=1∧kd e=2∧b.wf kd∧r.wf kd
def Pf (a:α→Nat):Nat→List α→Prop
 |d,[]=>d=0
 |d,o::l=>if a o=1 then Pf a (d+1) l else if a o=2 then 0<d∧Pf a (d - 1) l else a o=0∧Pf a d l
def Fr.ends:Nat→Fr α→List Int
 |_,.nil=>[]
 |i,.op _ r=>-1::r.ends (i+1)
 |i,.loop _ b _ r=>((i+b.size+1:Nat):Int)::(b.ends (i+1)++(i:Int)::r.ends (i+b.size+2))
def Fr.ends_len:∀(f:Fr α) (i:Nat),(f.ends i).length=f.size
 |.nil,_=>rfl
 |.op _ r,i=>by simp[ends,size,ends_len r]
 |.loop _ b _ r,i=>by simp[ends,size,ends_len b,ends_len r];omega
end tree
def kdK (o:Ko):Nat:=if o.kind=15 then 1 else if o.kind=16 then 2 else 0
end Go.Sv
namespace Go.Sv
abbrev Sp:=Int×Int
def Fr.tops {α:Type}:Nat→Fr α→List Sp
 |_,.nil=>[]
 |i,.op _ r=>r.tops (i+1)
 |i,.loop _ b _ r=>((i:Int),((i+b.size+1:Nat):Int))::r.tops (i+b.size+2)
def gs (l:List Sp)(n:Nat):Sp:=l.getD n (0,0)
structure Left (os:List Ko) (es:List Int) (T0:List Sp) (i:Nat) (r:Fr Ko) (T:List Sp):Prop where
 os:os.drop i=r.flat
 es:es.drop i=r.ends i
 wf:r.wf kdK
 tops:T0=T++r.tops i
def R6 (k d:Int):Ko:=⟨k,d,-1,-1,-1,-1,0⟩
def N9:Nat→List Vr→List Ko
 |_,[]=>[]
 |i,v::l=>if Ku v=true then N9 (i+1) l else R6 1 i::N9 (i+1) l
def startOs_len:∀(l:List Vr) (i:Nat),(N9 i l).length≤l.length
 |[],_=>by simp[N9]
 |v::l,i=>by
  have:=startOs_len l (i+1);unfold N9;split<;>simp<;>omega
def pz (k:Int):Bool:=decide (k=15) || decide (k=16)
def Md (vs:List Vr)(o:Ko):Bool:=!pz o.kind&&Le vs (N9 0 vs++[o]) []
def zxd (vs:List Vr):∀(j a:List Ko) (m f:List Bool) (d g:Int),Nh vs m d j=some (f,g)→Nh vs m d (j++a)=Nh vs f g a
 |[],a,m,f,d,g,h=>by cases h;rfl
 |o::j,a,m,f,d,g,h=>by
  unfold Nh at h;split at h
  ·rename_i l;rw[Bi,Nh,Ag l];exact zxd vs j a _ f _ g h
  ·cases h
def zx4 {vs:List Vr}{i:Nat}(h:i<vs.length)(a:Ku (gv vs i)=false):Ie vs (R6 1 i)=true:=by
 have e:Ti vs.length (i:Int)=true:=yg.2 ⟨by omega,by omega⟩;have t1:Nat.testBit 1 1=false:=by decide
 have t2:Nat.testBit 1 2=false:=by decide
 have t3:Nat.testBit 1 3=false:=by decide
 have t4:Nat.testBit 1 4=false:=by decide
 simp[Ie,R6,Jz,K6,Nk,Me,e,O3,a,Jq,Mn,cr,Kf,t1,t2,t3,t4]
def Rg (m:List Bool)(i j:Nat)(hi:i<m.length):gb (m.set i true) j=if j=i then true else gb m j:=by
 unfold gb;rw[Ae,Ae,E9];by_cases h:i=j
 ·subst h;simp[hi]
 ·rw[Ab h,Ab (fun q=>h q.symm)]
def zem {vs:List Vr}:∀(l:List Vr) (i:Nat) (m:List Bool),vs.drop i=l→m.length=vs.length→(∀j,j<i→gb m j=true)→(∀j,i≤j→j<vs.length→gb m j=Ku (gv vs j)) →
  ∃d,Nh vs m 0 (N9 i l)=some (d,0)∧d.length=vs.length∧∀j,j<vs.length→gb d j=true
 |[],i,m,hd,g,h,o=>by
  have:vs.length≤i:=by have:=congrArg List.length hd;simp at this;omega
  exact⟨m,rfl,g,fun j p=>h j (by omega)⟩
 |v::l,i,m,hd,g,h,o=>by
  have hi:i<vs.length:=by have:=congrArg List.length hd;simp at this;omega
  have s:=zs8 hi;rw[hd] at s;obtain⟨rfl,rfl⟩:=List.cons.inj s;unfold N9;by_cases q:Ku (gv vs i)=true
  ·rw[Ag q];refine zem _ (i+1) m rfl g (fun j p=>?_) (fun j p a=>o j (by omega) a);by_cases e:j=i
   ·subst e;rw[o j (Al _) hi,q]
   ·exact h j (by omega)
  ·rw[Ab q];have r:Ku (gv vs i)=false:=by simpa using q
   have f:=zx4 hi r;have w:oi m (R6 1 i)=true:=by simp[oi,Mn,R6]
   obtain⟨d,x,y⟩:=zem (vs.drop (i+1)) (i+1) (m.set i true) rfl (by simpa using g) (fun j p=>by
    rw[Rg _ _ _ (by omega)];split
    ·rfl
    ·exact h j (by omega)) (fun j p a=>by rw[Rg _ _ _ (by omega),Ab (by omega)];exact o j (by omega) a)
   refine⟨d,?_,y⟩;rw[Nh,Ag (by rw[f,w];simp[dl,R6])];have z:Q1 m (R6 1 i)=m.set i true:=by simp[Q1,R6]
   rw[z];simpa [dl,R6] using x
def zib {vs:List Vr}(h:K3 vs=true):1≤vs.length∧vs.length≤256:=by
 unfold K3 at h;split at h
 ·cases h
 ·simp only[Ac,Ao] at h;omega
def vgo_limbs:∀(l:List Vr) (i p r:Nat),Oz i p l=some r→∀v∈l,1≤v.limbs∧v.limbs≤512∧0≤v.mode∧v.mode≤3
 |[],_,_,_,_,v,hv=>by cases hv
 |w::l,i,p,r,h,v,hv=>by
  unfold Oz at h;split at h
  ·cases h
  ·rename_i a;have hw:1≤w.limbs∧w.limbs≤512∧0≤w.mode∧w.mode≤3:=by
    simp[b9] at a;omega
   have key:∀r',Oz (i+1) r' l=some r→1≤v.limbs∧v.limbs≤512∧0≤v.mode∧v.mode≤3:=fun r' d=>by
    rcases An.1 hv with rfl|hv
    ·exact hw
    ·exact vgo_limbs l _ _ r d v hv
   split at h
   ·exact key _ h
   ·split at h
    ·cases h
    ·exact key _ h
def zrz {vs:List Vr}(h:K3 vs=true):∀v∈vs,1≤v.limbs∧v.limbs≤512∧0≤v.mode∧v.mode≤3:=by
 unfold K3 at h;split at h
 ·cases h
 ·rename_i p a;exact vgo_limbs vs 0 0 p a
def si {vs:List Vr}{i:Nat}(h:i<vs.length):gv vs i∈vs:=A7 (Og h)
def Y5 {vs:List Vr}(h:K3 vs=true){v:Int}(a:0≤v)(d:v<vs.length):1≤Kc vs v∧Kc vs v≤512:=by
 have:=zrz h _ (si (vs:=vs) (i:=v.toNat) (by omega));exact⟨this.1,this.2.1⟩
def Vw (vs:List Vr)(o:Ko):Md vs o=(!pz o.kind&&(K3 vs&&Ie vs o)):=by
 unfold Md;cases hk:pz o.kind with
 |true=>rfl
 |false =>
  simp only[Bool.not_false,El];unfold Le;cases hv:K3 vs with
  |false=>rfl
  |true =>
   have r:=zib hv;have h:=startOs_len vs 0;obtain⟨m,l,s,d⟩:=zem vs 0 (Tj vs) rfl (by simp[Tj]) (fun j g=>by omega) (fun j _ g=>by
    unfold gb Tj;rw[Ae,Ce,Og g];rfl)
   rw[zxd vs _ _ _ _ _ _ l];have p:decide ((N9 0 vs++[o]).length≤4096)=true:=B5 (by simp;omega);rw[p];simp only[El,Bc,List.all_nil,show decide (0≤4096)=true from rfl];have f:dl o.kind=0:=by simp[pz] at hk;simp[dl,hk.1,hk.2]
   cases ho:Ie vs o with
   |false=>simp[Nh,ho]
   |true =>
    have a:=Ys ho;have q:oi m o=true:=by
     unfold oi;rw[Cd];intro v hv;have:=a.takes v hv;exact d _ (by omega)
    have hm:cb vs (Q1 m o)=true:=by
     unfold cb;rw[Cd];intro i hi;have hi:=Cr.1 hi;have:gb (Q1 m o) i=true:=by
      unfold Q1;split
      ·have:=a.d;rw[Rg _ _ _ (by omega)];split
       ·rfl
       ·exact d i hi
      ·exact d i hi
     simp[this]
    simp[Nh,ho,q,f,hm]
def Hq (vs:List Vr)(o:Ko):Int:=if (decide (o.kind=13)&&Md vs o)=true then (3+2^o.imm.toNat)*Kc vs o.c+Kc vs o.b+1+(Kc vs o.c+2) else 0
def zpq {vs:List Vr}{o:Ko}{s:Nat}(h:Ie vs o=true)(a:Jz o.kind=some s):Nk vs.length s o=true∧K6 o=true∧cr vs o=true:=by
 unfold Ie at h;split at h
 ·rename_i hk;rw[hk] at a;simp[Jz] at a
 ·rw[a] at h;simp only[Ac] at h;exact⟨h.2.1,h.1,h.2.2.2.2.2⟩
def zq0 {vs:List Vr}{o:Ko}{s:Nat}(h:Md vs o=true)(a:Jz o.kind=some s):K3 vs=true∧Nk vs.length s o=true∧K6 o=true∧cr vs o=true:=by
 rw[Vw] at h;simp only[Ac] at h;exact⟨h.2.1,zpq h.2.2 a⟩
def zsn {n s:Nat}{o:Ko}(h:Nk n s o=true)(a:s.testBit 2=true):0≤o.a∧o.a<n:=by
 simp only[Nk,Ac] at h;exact M4 h.2.2.1 a
def zic {n s:Nat}{o:Ko}(h:Nk n s o=true)(a:s.testBit 3=true):0≤o.b∧o.b<n:=by
 simp only[Nk,Ac] at h;exact M4 h.2.2.2.1 a
def zjh {n s:Nat}{o:Ko}(h:Nk n s o=true)(a:s.testBit 4=true):0≤o.c∧o.c<n:=by
 simp only[Nk,Ac] at h;exact M4 h.2.2.2.2 a
def zs5 {n s:Nat}{o:Ko}(h:Nk n s o=true)(a:s.testBit 0=true):0≤o.d∧o.d<n:=by
 simp only[Nk,Ac] at h;exact M4 h.1 a
def zbl {vs:List Vr}(hv:K3 vs=true){v:Int}(h:0≤v∧v<vs.length):∃k:Nat,v=k∧k<vs.length∧(Iq vs)[k*3]?=some (.i (Kc vs v))∧1≤Kc vs v∧Kc vs v≤512:=by
 obtain⟨k,rfl⟩:=Af h.1;have hk:k<vs.length:=by omega
 have:=Y5 hv h.1 h.2;exact⟨k,rfl,hk,zqd (Og hk),this⟩
def kd_1 {o:Ko}:kdK o=1↔o.kind=15:=by unfold kdK;split<;>(try split)<;>simp_all
def Fr.map {α:Type}(g:α→α):Fr α→Fr α
 |.nil=>.nil
 |.op o r=>.op (g o) (r.map g)
 |.loop o b e r=>.loop (g o) (b.map g) (g e) (r.map g)
def kg (vs:List Vr):List Nat:=(List.range vs.length).filter fun i=>Ku (gv vs i)
abbrev Hl:=Int×Int
def zwz (x y:Hl):Prop:=x.2≤y.1∨y.2≤x.1
def Ap (size:Int)(l:List Hl):Prop:=l.Pairwise zwz∧∀h∈l,0≤h.1∧h.1<h.2∧h.2≤size
structure St where
 holes:List Hl
 size:Int
def ivs (a:Nat→Hl)(sec:Nat→Bool)(s:Bool)(busy:List Nat):List Hl:=(busy.filter fun v=>sec v==s).map a
def wy (wk:Bool→Int)(d:Nat→Hl)(sec:Nat→Bool)(busy:List Nat)(a:Bool→St):Prop :=
 ∀s,0≤(a s).size∧Ap (a s).size ((0,wk s)::(ivs d sec s busy++(a s).holes))
structure Plan0 (wk:Bool→Int) (a b I6:Nat→Int) (sec:Nat→Bool) (done busy:List Nat) (iv:Nat→Hl) (ps:Bool→St) (cur:Int):Prop where
 ok:wy wk iv sec busy ps
 wide:∀v∈done,(iv v).2=(iv v).1+I6 v
 nd:busy.Nodup
 sub:∀v∈busy,v∈done
 over:∀v∈done,v ∉ busy→b v<cur
 pairs:∀v∈done,∀w∈done,v≠w→sec v=sec w→zwz (iv v) (iv w)∨b v<a w∨b w<a v
 inn:∀v∈done,0≤(iv v).1∧(iv v).2≤(ps (sec v)).size∧zwz (0,wk (sec v)) (iv v)
 sz:(ps false).size+(ps true).size≤wk false+wk true+(done.map I6).sum
end Go.Sv
noncomputable section
namespace Go.Sv
structure Bf where
 size:Int
 kind:Int
 sec:Bool
structure Lo where
 kind:Int
 d:Int
 e:Int
 a:Int
 b:Int
 c:Int
 buf:Int
 imm:UInt64
 deriving DecidableEq
def Bf.f (v:Bf):List LV:=[.i v.size,.i v.kind,.bool v.sec]
def Lo.f (o:Lo):List LV:=[.i o.kind,.i o.d,.i o.e,.i o.a,.i o.b,.i o.c,.i o.buf,.u o.imm]
def Gs (l:List Bf):List LV:=l.flatMap Bf.f
def Gv (l:List Lo):List LV:=l.flatMap Lo.f
def Bf.f_len (v:Bf):v.f.length=3:=rfl
def Lo.f_len (o:Lo):o.f.length=8:=rfl
def zwp (l:List Lo):(Gv l).length=l.length*8:=zuw Lo.f_len l
def J3 (l:List Bf):dats (Gs l)=true:=xu (fun _=>rfl) l
def Kb (l:List Lo):dats (Gv l)=true:=xu (fun _=>rfl) l
def ztk {l:List Bf}{i:Nat}{v:Bf}(h:l[i]?=some v):((Gs l).drop (i*3)).take 3=v.f:=y4 Bf.f_len h
def zha {l:List Lo}{i:Nat}{v:Lo}(h:l[i]?=some v):((Gv l).drop (i*8)).take 8=v.f:=y4 Lo.f_len h
def bw {l:List Bf}{i:Nat}{v:Bf}(h:l[i]?=some v):(Gs l)[i*3]?=some (.i v.size):=by have:=uk Bf.f_len h (j:=0) (by omega);simpa [Gs,Bf.f] using this
def o8 {l:List Bf}{i:Nat}{v:Bf}(h:l[i]?=some v):(Gs l)[i*3+1]?=some (.i v.kind):=by have:=uk Bf.f_len h (j:=1) (by omega);simpa [Gs,Bf.f] using this
def Y8 {l:List Bf}{i:Nat}{v:Bf}(h:l[i]?=some v):(Gs l)[i*3+2]?=some (.bool v.sec):=by have:=uk Bf.f_len h (j:=2) (by omega);simpa [Gs,Bf.f] using this
def mg {l:List Lo}{i:Nat}{v:Lo}(h:l[i]?=some v){j:Nat}(a:j<8):(Gv l)[i*8+j]?=v.f[j]?:=uk Lo.f_len h a
def Z5 {l:List Bf}{i:Nat}(h:i<l.length):i*3+3≤(Gs l).length:=zx6 Bf.f_len h
def yz {l:List Lo}{i:Nat}(h:i<l.length):i*8+8≤(Gv l).length:=zx6 Lo.f_len h
def zmh (a b:List Lo):Gv (a++b)=Gv a++Gv b:=by simp[Gv]
def jb (a b:List Bf):Gs (a++b)=Gs a++Gs b:=by simp[Gs]
def F4 (l:List Bf)(n:Nat):Bf:=l.getD n ⟨0,0,false⟩
def te (l:List Lo)(n:Nat):Lo:=l.getD n ⟨0,0,0,0,0,0,0,0⟩
def K9 {l:List Bf}{n:Nat}(h:n<l.length):l[n]?=some (F4 l n):=by simp[F4,Ae,h]
def zp5 {l:List Lo}{n:Nat}(h:n<l.length):l[n]?=some (te l n):=by simp[te,Ae,h]
def znc {l:List Lo}{n:Nat}(h:n<l.length):l.drop n=te l n::l.drop (n+1):=by
 rw[B9 h];congr 1;have:=zp5 h;rw[Ai h] at this;exact Option.some.inj this
def repBs (n:Nat):H8 [.bool false] n=(List.replicate n false).map LV.bool:=by
 induction n with
 |zero=>rfl
 |succ n a=>rw[H8,a,Df];rfl
def Ii (o:Lo):List Int :=
 if o.kind=2∨o.kind=8∨o.kind=9 then [o.a]
 else if (3≤o.kind∧o.kind≤7)∨o.kind=10 then [o.a,o.b]
 else if o.kind=11∨o.kind=12∨o.kind=13 then [o.a,o.b,o.c]
 else if o.kind=14∧¬o.a=-1 then [o.a]
 else if o.kind=15∧¬o.a=-1 then [o.a,o.b]
 else if o.kind=15 then [o.b] else []
def Ft (o:Lo):List Int :=
 if o.kind=10∨o.kind=11∨o.kind=12 then [o.d,o.e]
 else if o.kind=15∨o.kind=17 then [] else [o.d]
def F1 (regs r:Int)(has:Bool):Bool:=if has=true then decide (0≤r)&&decide (r<regs) else decide (r=-1)
def Gy (k:Int):Bool:=!decide (k=15) && !decide (k=17)
def Gx (k:Int):Bool:=decide (k=10) || (decide (k=11) || decide (k=12))
def Hh (k:Int):Bool:=!decide (k=1)&&(!decide (k=16) && !decide (k=17))
def J0 (k:Int):Bool:=(decide (3≤k)&&decide (k≤7)) || ((decide (10≤k)&&decide (k≤13)) || decide (k=15))
def J4 (k:Int):Bool:=decide (11≤k)&&decide (k≤13)
def Gt (k:Int):Bool:=decide (k=14) || decide (k=15)
def Ix (regs:Int)(bs:List Bf)(o:Lo):Bool :=
 (decide (1≤o.kind)&&decide (o.kind≤17))&&(F1 regs o.d (Gy o.kind)&&(F1 regs o.e (Gx o.kind)&&((F1 regs o.a (Hh o.kind) || (Gt o.kind&&decide (o.a=-1)))&&(F1 regs o.b (J0 o.kind)&&(F1 regs o.c (J4 o.kind)&&(!(Gx o.kind&&decide (o.d=o.e)) &&
  (if Gt o.kind=true then decide (0≤o.buf)&&(decide (o.buf<bs.length)&&(!(decide (o.kind=15)&&decide ((F4 bs o.buf.toNat).kind=1))&&(!decide (o.a=-1) || decide (o.imm<iU (F4 bs o.buf.toNat).size))))
   else decide (o.buf=0)&&(if o.kind=1 then true else if o.kind=8∨o.kind=9 then decide (1≤o.imm)&&decide (o.imm≤63) else if o.kind=16 then decide (1≤o.imm)&&decide (o.imm≤1048576) else decide (o.imm=0)))))))))
def Jk (m:List Bool)(r:Int):Bool:=m.getD r.toNat false
def Ns (regs:Int)(bs:List Bf)(m:List Bool)(ls:List Int)(o:Lo):Int×List Bool×List Int :=
 if Ix regs bs o=false then (2,m,ls)
 else if o.kind=17 then (match ls.getLast? with|none=>(9,m,ls)|some d=>(0,m.set d.toNat false,ls.dropLast))
 else if (Ft o).any (fun r=>ls.contains r)=true then (9,m,ls)
 else if o.kind=16∧Jk m o.d=true then (9,m,ls)
 else if o.kind=16∧ls.length=8 then (10,m,ls)
 else if (Ii o).any (fun r=>!Jk m r)=true then (5,m,ls)
 else (0,(Ft o).foldl (fun m r=>m.set r.toNat true) m,if o.kind=16 then ls++[o.d] else ls)
def S8 (regs:Int)(bs:List Bf):Nat→List Bool→List Int→List Lo→Int×Int
 |i,_,ls,[]=>if ls=[] then (i,0) else (i,9)
 |i,m,ls,o::l=>if (Ns regs bs m ls o).1=0 then S8 regs bs (i+1) (Ns regs bs m ls o).2.1 (Ns regs bs m ls o).2.2 l else (i,(Ns regs bs m ls o).1)
def J6 (regs:Int)(bs:List Bf)(os:List Lo):Int×Int :=
 if 64<regs∨32<bs.length∨65536<os.length then (0,3)
 else if (bs.any fun b=>decide (65536<b.size))=true then (0,3)
 else if regs<0 then (0,2)
 else if (bs.any fun b=>decide (b.size<1) || (decide (b.kind<1) || decide (3<b.kind)))=true then (0,2)
 else S8 regs bs 0 (List.replicate regs.toNat false) [] os
structure Ms where
 i:Nat
 first:Bool
 r:List UInt64
 bufs:List (List UInt64)
 l:List (Int×Int)
def atR (r:List UInt64)(x:Int):UInt64:=if x<0 then 0 else r.getD x.toNat 0
def Gj (b:Bool):UInt64:=if b then 1 else 0
def Fw (r:List UInt64)(x:Int)(v:UInt64):List UInt64:=if 0≤x then r.set x.toNat v else r
def Gb (o:Lo)(a b:UInt64)(c:Bool):UInt64×UInt64 :=
 if o.kind=1 then (o.imm,0) else if o.kind=2 then (a,0) else if o.kind=3 then (a+b,0) else if o.kind=4 then (a - b,0)
 else if o.kind=5 then (a &&& b,0) else if o.kind=6 then (a ||| b,0) else if o.kind=7 then (a ^^^ b,0)
 else if o.kind=8 then (UInt64.ofNat (a.toNat*2^o.imm.toNat),0) else if o.kind=9 then (UInt64.ofNat (a.toNat/2^o.imm.toNat),0)
 else if o.kind=10 then (L9 a b,a*b) else if o.kind=11 then ((F0 a b c).1,Gj (F0 a b c).2) else if o.kind=12 then ((Gu a b c).1,Gj (Gu a b c).2)
 else if o.kind=13 then (if c then a else b,0) else (0,0)
def Mf (bufs:List (List UInt64))(x:Int):List UInt64:=bufs.getD x.toNat []
def Nl (o:Lo)(s:Ms):Option Ms :=
 if o.kind=14 then
  (if (o.imm+atR s.r o.a).toNat<(Mf s.bufs o.buf).length then
   some ⟨s.i+1,s.first,Fw (Fw s.r o.d ((Mf s.bufs o.buf).getD (o.imm+atR s.r o.a).toNat 0)) o.e 0,s.bufs,s.l++[((s.i:Int),(((o.imm+atR s.r o.a).toNat:Nat):Int))]⟩ else none)
 else if o.kind=15 then
  (if (o.imm+atR s.r o.a).toNat<(Mf s.bufs o.buf).length then
   some ⟨s.i+1,s.first,Fw (Fw s.r o.d 0) o.e 0,s.bufs.set o.buf.toNat ((Mf s.bufs o.buf).set (o.imm+atR s.r o.a).toNat (atR s.r o.b)),s.l++[((s.i:Int),(((o.imm+atR s.r o.a).toNat:Nat):Int))]⟩ else none)
 else some ⟨s.i+1,s.first,Fw (Fw s.r o.d (Gb o (atR s.r o.a) (atR s.r o.b) (decide (atR s.r o.c%2=1))).1) o.e (Gb o (atR s.r o.a) (atR s.r o.b) (decide (atR s.r o.c%2=1))).2,s.bufs,s.l++[((s.i:Int),(-1:Int))]⟩
def Jw (os:List Lo)(es:List Int)(s:Ms):Option Ms :=
 match os[s.i]? with
 |none=>some s
 |some o =>
  if o.kind=16 then some ⟨s.i+1,true,if s.first then Fw s.r o.d 0 else s.r,s.bufs,s.l++[((s.i:Int),(-1:Int))]⟩
  else if o.kind=17 then
   (match os[(es.getD s.i 0).toNat]? with
   |none=>none
   |some p=>if atR s.r p.d+1<p.imm then some ⟨(es.getD s.i 0).toNat,false,Fw s.r p.d (atR s.r p.d+1),s.bufs,s.l⟩ else some ⟨s.i+1,s.first,s.r,s.bufs,s.l⟩)
  else Nl o s
def H6 (os:List Lo)(es:List Int):Nat→Ms→Option Ms
 |0,s=>some s
 |n+1,s=>match Jw os es s with
  |none=>none
  |some a=>H6 os es n a
end Go.Sv
end
namespace Go.Sv
def I9 (o:Lo):Nat:=if o.kind=16 then 1 else if o.kind=17 then 2 else 0
structure Fs where
 r:Nat→UInt64
 m:Nat→Nat→UInt64
def Fs.put (s:Fs)(d:Nat)(v:UInt64):Fs:=⟨fun x=>if x=d then v else s.r x,s.m⟩
def Fs.sto (s:Fs)(b n:Nat)(v:UInt64):Fs:=⟨s.r,fun x y=>if x=b∧y=n then v else s.m x y⟩
def Lr (s:Fs)(x:Int):UInt64:=if x<0 then 0 else s.r x.toNat
def Jr (s:Fs)(x:Int)(v:UInt64):Fs:=if 0≤x then s.put x.toNat v else s
def I3 (sz:Nat→Nat)(o:Lo)(s:Fs):Option Fs :=
 if o.kind=14 then (if (o.imm+Lr s o.a).toNat<sz o.buf.toNat then some (Jr (Jr s o.d (s.m o.buf.toNat (o.imm+Lr s o.a).toNat)) o.e 0) else none)
 else if o.kind=15 then (if (o.imm+Lr s o.a).toNat<sz o.buf.toNat then some (Jr (Jr (s.sto o.buf.toNat (o.imm+Lr s o.a).toNat (Lr s o.b)) o.d 0) o.e 0) else none)
 else some (Jr (Jr s o.d (Gb o (Lr s o.a) (Lr s o.b) (decide (Lr s o.c%2=1))).1) o.e (Gb o (Lr s o.a) (Lr s o.b) (decide (Lr s o.c%2=1))).2)
def Zt (f:Fs→Option Fs)(d:Nat):Nat→Nat→Fs→Option Fs
 |0,_,s=>some s
 |n+1,j,s=>match f (s.put d (UInt64.ofNat j)) with
  |none=>none
  |some a=>Zt f d n (j+1) a
def Lz (sz:Nat→Nat):Fr Lo→Fs→Option Fs
 |.nil,s=>some s
 |.op o r,s=>match I3 sz o s with
  |none=>none
  |some a=>Lz sz r a
 |.loop o b _ r,s=>match Zt (Lz sz b) o.d.toNat o.imm.toNat 0 s with
  |none=>none
  |some a=>Lz sz r a
def Fr.noW (x:Nat):Fr Lo→Bool
 |.nil=>true
 |.op o r=>!decide (o.d=x)&&(!decide (o.e=x)&&r.noW x)
 |.loop o b _ r=>!decide (o.d.toNat=x)&&(b.noW x&&r.noW x)
def sy {s:Fs}{d:Int}{v:UInt64}{x:Nat}(h:¬d=x):(Jr s d v).r x=s.r x:=by
 unfold Jr;split
 ·show (if x=d.toNat then v else s.r x)=s.r x;rw[Ab (by omega)]
 ·rfl
def opZ_r {sz:Nat→Nat}{o:Lo}{s f:Fs}{x:Nat}(h:I3 sz o s=some f)(a:¬o.d=x)(d:¬o.e=x):f.r x=s.r x:=by
 unfold I3 at h;split at h
 ·split at h
  ·cases h;rw[sy d,sy a]
  ·cases h
 ·split at h
  ·split at h
   ·cases h;rw[sy d,sy a];rfl
   ·cases h
  ·cases h;rw[sy d,sy a]
def zt7 {f:Fs→Option Fs}{P:Fs→Prop}{d:Nat}(hd:∀s v,P s→P (s.put d v))(l:∀s a,P s→f s=some a→P a):∀(n j:Nat) (s a:Fs),P s→Zt f d n j s=some a→P a
 |0,_,s,a,g,h=>by cases h;exact g
 |n+1,j,s,a,g,h=>by
  unfold Zt at h;split at h
  ·cases h
  ·rename_i s1 m;exact zt7 hd l n (j+1) s1 a (l _ _ (hd _ _ g) m) h
def Py {sz:Nat→Nat}{x:Nat}:∀(f:Fr Lo) (s a:Fs),f.noW x=true→Lz sz f s=some a→a.r x=s.r x
 |.nil,s,a,_,h=>by cases h;rfl
 |.op o r,s,a,hw,h=>by
  simp only[Fr.noW,Ac,Bu,Bl] at hw;unfold Lz at h;split at h
  ·cases h
  ·rename_i s1 d;rw[Py r s1 a hw.2.2 h,opZ_r d hw.1 hw.2.1]
 |.loop o b e r,s,a,hw,h=>by
  simp only[Fr.noW,Ac,Bu,Bl] at hw;unfold Lz at h;split at h
  ·cases h
  ·rename_i s1 d;rw[Py r s1 a hw.2.2 h];refine zt7 (P:=fun t=>t.r x=s.r x) (fun t v g=>?_) (fun t j g h=>by rw[Py b t j hw.2.1 h,g]) _ _ _ _ rfl d;show (if x=o.d.toNat then v else t.r x)=_;rw[Ab (fun q=>hw.1 q.symm)];exact g
def Z8 (ls:List Nat)(x:Int):Bool:=decide (-1≤x)&&(decide (x<64) && !ls.contains x.toNat || decide (x=-1))
def Fr.regs (nb:Nat):List Nat→Fr Lo→Bool
 |_,.nil=>true
 |ls,.op o r=>Z8 ls o.d&&(Z8 ls o.e&&(decide (o.a<64)&&(decide (o.b<64)&&(decide (o.c<64)&&(decide (o.buf.toNat<nb)&&r.regs nb ls)))))
 |ls,.loop o b _ r=>Z8 ls o.d&&(decide (0≤o.d)&&(decide (1≤o.imm.toNat)&&(b.regs nb (o.d.toNat::ls)&&r.regs nb ls)))
def zhf {nb x:Nat}:∀(f:Fr Lo) (ls:List Nat),x∈ls→f.regs nb ls=true→f.noW x=true
 |.nil,_,_,_=>rfl
 |.op o r,ls,d,h=>by
  simp only[Fr.regs,Ac,Z8,Ao,Bn,Bu,List.contains_eq_mem,Bl] at h;obtain⟨⟨l,a⟩,⟨m,g⟩,_,_,_,_,j⟩:=h;simp only[Fr.noW,Ac,Bu,Bl];refine⟨fun q=>?_,fun q=>?_,zhf r ls d j⟩
  ·rcases a with ⟨_,a⟩|a
   ·apply a;rw[q];exact d
   ·omega
  ·rcases g with ⟨_,g⟩|g
   ·apply g;rw[q];exact d
   ·omega
 |.loop o b e r,ls,d,h=>by
  simp only[Fr.regs,Ac,Z8,Ao,Bn,Bu,List.contains_eq_mem,Bl] at h;obtain⟨⟨l,a⟩,m,_,g,j⟩:=h;simp only[Fr.noW,Ac,Bu,Bl];refine⟨fun q=>?_,zhf b _ (A0 _ d) g,zhf r ls d j⟩;rcases a with ⟨_,a⟩|a
  ·apply a;rw[q];exact d
  ·omega
structure Rep (nb:Nat) (sz:Nat→Nat) (s:Ms) (t:Fs):Prop where
 rl:s.r.length=64
 r:∀x,x<64→s.r.getD x 0=t.r x
 bl:s.bufs.length=nb
 len:∀b,b<nb→(s.bufs.getD b []).length=sz b
 m:∀b n,b<nb→n<sz b→(s.bufs.getD b []).getD n 0=t.m b n
section rep
variable {nb : Nat} {sz : Nat → Nat} {s : Ms} {t : Fs}
def Rep.at (h:Rep nb sz s t){x:Int}(hx:x<64):atR s.r x=Lr t x:=by
 unfold atR Lr;split
 ·rfl
 ·exact h.r _ (by omega)
def Vf {α:Type}(l:List α)(i j:Nat)(v d:α)(h:i<l.length):(l.set i v).getD j d=if j=i then v else l.getD j d:=by
 simp only[Ae,E9];by_cases q:j=i
 ·subst q;simp[h]
 ·rw[Ab (Ne.symm q),Ab q]
def Rep.put (h:Rep nb sz s t){x:Int}{v:UInt64}{i:Nat}{f:Bool}{l:List (Int×Int)}(hx:x<64):Rep nb sz ⟨i,f,Fw s.r x v,s.bufs,l⟩ (Jr t x v):=by
 unfold Fw Jr;split
 ·refine⟨by simpa using h.rl,fun y hy=>?_,h.bl,h.len,h.m⟩;show (s.r.set x.toNat v).getD y 0=if y=x.toNat then v else t.r y
  rw[Vf _ _ _ _ _ (by rw[h.rl];omega)];split
  ·rfl
  ·exact h.r y hy
 ·exact⟨h.rl,h.r,h.bl,h.len,h.m⟩
def Rep.ctl (h:Rep nb sz s t){i:Nat}{f:Bool}{l:List (Int×Int)}:Rep nb sz ⟨i,f,s.r,s.bufs,l⟩ t:=⟨h.rl,h.r,h.bl,h.len,h.m⟩
def Rep.sto (h:Rep nb sz s t){b n:Nat}{v:UInt64}{i:Nat}{f:Bool}{l:List (Int×Int)}(hb:b<nb)(hn:n<sz b):Rep nb sz ⟨i,f,s.r,s.bufs.set b ((s.bufs.getD b []).set n v),l⟩ (t.sto b n v):=by
 have aa:b<s.bufs.length:=by rw[h.bl];exact hb
 refine⟨h.rl,h.r,by simpa using h.bl,fun x hx=>?_,fun x y hx hy=>?_⟩
 ·show ((s.bufs.set b _).getD x []).length=_;rw[Vf _ _ _ _ _ aa];split
  ·rename_i q;subst q;rw[Ch];exact h.len x hx
  ·exact h.len x hx
 ·show ((s.bufs.set b _).getD x []).getD y 0=if x=b∧y=n then v else t.m x y
  rw[Vf _ _ _ _ _ aa];by_cases q:x=b
  ·subst q;rw[Ag rfl,Vf _ _ _ _ _ (by rw[h.len x hx];exact hn)];by_cases q2:y=n
   ·simp[q2]
   ·simp only[q2,and_false,Dv];exact h.m x y hx hy
  ·simp only[q,false_and,Dv];exact h.m x y hx hy
end rep
def zhb {os:List Lo}{es:List Int}:∀(n k:Nat) (s a:Ms),H6 os es n s=some a→H6 os es (n+k) s=H6 os es k a
 |0,k,s,a,h=>by cases h;rw[Be]
 |n+1,k,s,a,h=>by
  unfold H6 at h;split at h
  ·cases h
  ·rename_i s1 d;rw[show n+1+k=(n+k)+1 by omega];show (match Jw os es s with|none=>none|some a=>H6 os es (n+k) a)=_;rw[d];exact zhb n k s1 a h
def rn {nb:Nat}{sz:Nat→Nat}{s:Ms}{t r:Fs}{o:Lo}(h:Rep nb sz s t)(hd:o.d<64)(he:o.e<64)(w:o.a<64)(y:o.b<64)(z:o.c<64)(a:o.buf.toNat<nb)(g:I3 sz o t=some r) :
  ∃p,Nl o s=some p∧p.i=s.i+1∧p.first=s.first∧Rep nb sz p r∧p.l.length=s.l.length+1:=by
 unfold I3 at g;unfold Nl;rw[h.at w,h.at y,h.at z];unfold Mf;have A:o.buf.toNat<s.bufs.length:=by rw[h.bl];exact a
 split at g
 ·rename_i j;rw[Ag j,h.len _ a];split at g
  ·rename_i d;rw[Ag d];cases g;refine⟨_,rfl,rfl,rfl,?_,by simp⟩;rw[h.m _ _ a d];have q:=h.put (x:=o.d) (v:=t.m o.buf.toNat (o.imm+Lr t o.a).toNat) (i:=0) (f:=true) (l:=[]) hd;exact q.put he
  ·cases g
 ·rename_i j;rw[Ab j];split at g
  ·rename_i m;rw[Ag m,h.len _ a];split at g
   ·rename_i d;rw[Ag d];cases g;refine⟨_,rfl,rfl,rfl,?_,by simp⟩;have B:=h.sto (v:=Lr t o.b) (i:=0) (f:=true) (l:=[]) a d;have q:=B.put (x:=o.d) (v:=0) (i:=0) (f:=true) (l:=[]) hd;exact q.put he
   ·cases g
  ·rename_i m;rw[Ab m];cases g;refine⟨_,rfl,rfl,rfl,?_,by simp⟩;have q:=h.put (x:=o.d) (v:=(Gb o (Lr t o.a) (Lr t o.b) (decide (Lr t o.c%2=1))).1) (i:=0) (f:=true) (l:=[]) hd;exact q.put he
def Fr.costZ:Fr Lo→Nat
 |.nil=>0
 |.op _ r=>1+r.costZ
 |.loop o b _ r=>o.imm.toNat*(b.costZ+2)+r.costZ
def zcg {α:Type}{l:List α}{i:Nat}{a:α}{r:List α}(h:l.drop i=a::r):l[i]?=some a∧l.drop (i+1)=r:=by
 have d:=congrArg (fun l=>l[0]?) h;simp at d;refine⟨d,?_⟩;rw[←List.drop_drop,h];rfl
def zpj {α:Type}{l a r:List α}{i:Nat}(h:l.drop i=a++r):l.drop (i+a.length)=r:=by
 rw[←List.drop_drop,h,List.drop_left]
def ofNat_lt {j:Nat}:(UInt64.ofNat j+1:UInt64)=UInt64.ofNat (j+1):=by
 apply UInt64.toNat.inj;simp
def zhe {os:List Lo}{es:List Int}{nb:Nat}{sz:Nat→Nat}:∀(f:Fr Lo) (i:Nat) (ls:List Nat) (rest:List Lo) (rs:List Int) (s:Ms) (t A:Fs),f.wf I9→f.regs nb ls=true→os.drop i=f.flat++rest→es.drop i=f.ends i++rs→s.i=i→s.first=true→Rep nb sz s t→Lz sz f t=some A →
  ∃n a,H6 os es n s=some a∧a.i=i+f.size∧a.first=true∧Rep nb sz a A∧n≤f.costZ∧a.l.length≤s.l.length+f.costZ
 |.nil,i,ls,rest,rs,s,t,A,_,_,_,_,hi,I,J,g=>by
  cases g;exact⟨0,s,rfl,by simp[Fr.size,hi],I,J,Al _,Al _⟩
 |.op o r,i,ls,rest,rs,s,t,A,hw,B,ho,he,hi,I,J,g=>by
  simp only[Fr.regs,Ac,Z8,Ao,Bn] at B;obtain⟨⟨d1,d2⟩,⟨e1,R⟩,a1,b1,c1,f1,B⟩:=B;have d3:o.d<64:=by rcases d2 with d2|d2<;>omega
  have e3:o.e<64:=by rcases R with R|R<;>omega
  simp only[Fr.flat,Bi] at ho;simp only[Fr.ends,Bi] at he;obtain⟨m,w⟩:=zcg ho;obtain⟨S,y⟩:=zcg he;unfold Lz at g;split at g
  ·cases g
  rename_i t1 T;obtain⟨s1,q1,q2,q3,q4,q5⟩:=rn J d3 e3 a1 b1 c1 f1 T;obtain⟨n,a,G,H,K,C,p5,U⟩:=zhe r (i+1) ls rest rs s1 t1 A hw.2 B w y (by rw[q2,hi]) (by rw[q3,I]) q4 g;have hk:=hw.1;have d:Jw os es s=some s1:=by
   unfold Jw;rw[hi,m];dsimp only;unfold I9 at hk;rw[Ab (fun q=>by simp[q] at hk),Ab (fun q=>by simp[q] at hk)];exact q1
  refine⟨n+1,a,?_,by rw[H];simp[Fr.size];omega,K,C,by simp[Fr.costZ];omega,by simp[Fr.costZ];omega⟩;show (match Jw os es s with|none=>none|some a=>H6 os es n a)=_;rw[d];exact G
 |.loop o b e r,i,ls,rest,rs,s,t,A,hw,B,ho,he,hi,I,J,g=>by
  simp only[Fr.regs,Ac,Z8,Ao,Bn] at B;obtain⟨⟨d1,d2⟩,d0,m1,L,V⟩:=B;have d3:o.d<64:=by rcases d2 with d2|d2<;>omega
  obtain⟨W,X,w3,w4⟩:=hw;have M:o.kind=16:=by unfold I9 at W;split at W<;>first|assumption|(split at W<;>omega)
  have Y:e.kind=17:=by
   unfold I9 at X;split at X
   ·omega
   ·split at X
    ·assumption
    ·omega
  simp only[Fr.flat,Bi,Bt] at ho;simp only[Fr.ends,Bi,Bt] at he;obtain⟨m,w⟩:=zcg ho;obtain⟨S,y⟩:=zcg he;have N:=zpj w;have O:=zpj y;rw[Fr.flat_len] at N;rw[Fr.ends_len] at O;obtain⟨Z,aa⟩:=zcg N;obtain⟨ad,P⟩:=zcg O;have D:(es.getD (i+1+b.size) 0).toNat=i:=by rw[Ae,ad];simp
  unfold Lz at g;split at g
  ·cases g
  rename_i t1 T;have af:=zhf b (o.d.toNat::ls) (B6 ..) L;have ax:=o.imm.toNat_lt;have round:∀(n j:Nat) (s:Ms) (t:Fs),1≤n→j+n=o.imm.toNat→s.i=i+1→s.first=true→Rep nb sz s (t.put o.d.toNat (UInt64.ofNat j))→Zt (Lz sz b) o.d.toNat n j t=some t1 →
    ∃k a,H6 os es k s=some a∧a.i=i+b.size+2∧a.first=true∧Rep nb sz a t1∧k≤n*(b.costZ+2) - 1∧a.l.length≤s.l.length+(n*(b.costZ+2) - 1):=by
   intro n
   induction n with
   |zero=>intro j s t h;omega
   |succ n ih =>
    intro j s t _ hj ag ah Q p;unfold Zt at p;split at p
    ·cases p
    rename_i t2 h2;obtain⟨k,s2,G,H,K,C,p5,U⟩:=zhe b (i+1) (o.d.toNat::ls) _ _ s _ t2 w3 L w y ag ah Q h2;have aj:t2.r o.d.toNat=UInt64.ofNat j:=by
     rw[Py b _ _ af h2];show (if o.d.toNat=o.d.toNat then _ else _)=_;rw[Ag rfl]
    have ao:atR s2.r o.d=UInt64.ofNat j:=by
     rw[C.at d3];unfold Lr;rw[Ab (by omega),aj]
    have d:Jw os es s2=if UInt64.ofNat j+1<o.imm then some ⟨i,false,Fw s2.r o.d (UInt64.ofNat j+1),s2.bufs,s2.l⟩ else some ⟨s2.i+1,s2.first,s2.r,s2.bufs,s2.l⟩:=by
     unfold Jw;rw[H,Z];dsimp only;rw[Ab (by omega),Ag Y,D,m];dsimp only;rw[ao]
    cases n with
    |zero =>
     have ap:¬(UInt64.ofNat j+1<o.imm):=by
      rw[Ca];have:(UInt64.ofNat j+1:UInt64).toNat=(j+1)%18446744073709551616:=by simp
      rw[this];by_cases q:j+1<18446744073709551616
      ·rw[Bd q];omega
      ·omega
     rw[Ab ap] at d;cases p;refine⟨k+1,⟨s2.i+1,s2.first,s2.r,s2.bufs,s2.l⟩,?_,?_,K,C.ctl,by omega,by show s2.l.length≤_;omega⟩
     ·rw[zhb k 1 s s2 G];show (match Jw os es s2 with|none=>none|some a=>H6 os es 0 a)=_;rw[d];rfl
     ·show s2.i+1=_;rw[H];omega
    |succ n =>
     have aq:UInt64.ofNat j+1<o.imm:=by
      rw[Ca];have:(UInt64.ofNat j+1:UInt64).toNat=(j+1)%18446744073709551616:=by simp
      rw[this,Bd (by omega)];omega
     rw[Ag aq] at d;have ar:(UInt64.ofNat j+1:UInt64)=UInt64.ofNat (j+1):=ofNat_lt;have E:Rep nb sz ⟨i+1,true,Fw s2.r o.d (UInt64.ofNat j+1),s2.bufs,s2.l++[((i:Int),-1)]⟩ (t2.put o.d.toNat (UInt64.ofNat (j+1))):=by
      have h:=C.put (x:=o.d) (v:=UInt64.ofNat j+1) (i:=i+1) (f:=true) (l:=s2.l++[((i:Int),-1)]) d3;rw[ar] at h ⊢;unfold Jr at h;rw[Ag d0] at h;exact h
     obtain⟨z,s3,u1,u2,u3,u4,u5,u6⟩:=ih (j+1) _ t2 (by omega) (by omega) rfl rfl E p;have hm:(n+1+1)*(b.costZ+2)=(n+1)*(b.costZ+2)+(b.costZ+2):=Ec _ _;have ay:b.costZ+2≤(n+1)*(b.costZ+2):=Ed _ (by omega);refine⟨k+(z+2),s3,?_,u2,u3,u4,by omega,?_⟩
     ·rw[zhb k _ s s2 G];show (match Jw os es s2 with|none=>none|some a=>H6 os es (z+1) a)=_;rw[d];show (match Jw os es (⟨i,false,Fw s2.r o.d (UInt64.ofNat j+1),s2.bufs,s2.l⟩:Ms) with|none=>none|some a=>H6 os es z a)=_;have:Jw os es (⟨i,false,Fw s2.r o.d (UInt64.ofNat j+1),s2.bufs,s2.l⟩:Ms)=some ⟨i+1,true,Fw s2.r o.d (UInt64.ofNat j+1),s2.bufs,s2.l++[((i:Int),-1)]⟩:=by
       unfold Jw;dsimp only;rw[m];dsimp only;rw[Ag M];rfl
      rw[this];exact u1
     ·simp only[Aj,Ar,Bc] at u6;omega
  have F:Rep nb sz ⟨i+1,true,Fw s.r o.d 0,s.bufs,s.l++[((i:Int),-1)]⟩ (t.put o.d.toNat (UInt64.ofNat 0)):=by
   have h:=J.put (x:=o.d) (v:=0) (i:=i+1) (f:=true) (l:=s.l++[((i:Int),-1)]) d3;unfold Jr at h;rw[Ag d0] at h;exact h
  obtain⟨k,s1,G,H,K,C,p5,U⟩:=round o.imm.toNat 0 _ t m1 (by omega) rfl rfl F T;have aw:b.costZ+2≤o.imm.toNat*(b.costZ+2):=Ed _ (by omega);obtain⟨z,s2,u1,u2,u3,u4,u5,u6⟩:=zhe r (i+b.size+2) ls rest rs s1 t1 A w4 V (by rw[show i+b.size+2=i+1+b.size+1 by omega];exact aa) (by rw[show i+b.size+2=i+1+b.size+1 by omega] at P ⊢;exact P) H K C g;refine⟨(k+z)+1,s2,?_,by rw[u2];simp[Fr.size];omega,u3,u4,by simp only[Fr.costZ];omega,?_⟩
  ·show (match Jw os es s with|none=>none|some a=>H6 os es (k+z) a)=_;have:Jw os es s=some ⟨i+1,true,Fw s.r o.d 0,s.bufs,s.l++[((i:Int),-1)]⟩:=by
    unfold Jw;rw[hi,m];dsimp only;rw[Ag M,I];rfl
   rw[this];show H6 os es (k+z) _=_;rw[zhb k z _ s1 G];exact u1
  ·simp only[Aj,Ar,Bc] at U;simp only[Fr.costZ];omega
end Go.Sv
namespace Go.Sv
def Oe:Nat→List Nat→List Int→List Lo→List Int
 |_,_,out,[]=>out
 |i,st,out,o::l=>if o.kind=16 then Oe (i+1) (i::st) (out.set i (-1)) l
  else if o.kind=17 then (match st with
   |[]=>Oe (i+1) [] (out.set i (-1)) l
   |a::d=>Oe (i+1) d (((out.set i (-1)).set i a).set a i) l)
  else Oe (i+1) st (out.set i (-1)) l
def endsR_tree:∀(f:Fr Lo) (i:Nat) (st:List Nat) (out a:List Int) (rest:List Lo),f.wf I9→out.length=i →
  Oe i st (out++List.replicate f.size 0++a) (f.flat++rest)=Oe (i+f.size) st (out++f.ends i++a) rest
 |.nil,i,st,out,a,rest,_,_=>by simp[Fr.flat,Fr.size,Fr.ends]
 |.op o r,i,st,out,a,rest,w,g=>by
  have h:=endsR_tree r (i+1) st (out++[-1]) a rest w.2 (by simp[g]);have hk:=w.1;have y:¬o.kind=16:=fun q=>by simp[I9,q] at hk
  have z:¬o.kind=17:=fun q=>by simp[I9,q] at hk
  simp only[Fr.flat,Fr.size,Fr.ends,Bi,Oe,y,z,Dv,Df];simp only[Bt,Bi,D8] at h ⊢;rw[Dw _ _ (by omega),show i - out.length=0 by omega,E5,h]
  congr 1;omega
 |.loop o b e r,i,st,out,a,rest,w,g=>by
  obtain⟨j,l,A,B⟩:=w;have m:o.kind=16:=by unfold I9 at j;split at j<;>first|assumption|(split at j<;>omega)
  have p:e.kind=17:=by
   unfold I9 at l;split at l
   ·omega
   ·split at l
    ·assumption
    ·omega
  have s:=endsR_tree b (i+1) (i::st) (out++[-1]) ([0]++List.replicate r.size 0++a) (e::(r.flat++rest)) A (by simp[g]);have x:=endsR_tree r (i+b.size+2) st (out++[((i+b.size+1:Nat):Int)]++b.ends (i+1)++[(i:Int)]) a rest B (by simp[g,Fr.ends_len];omega);have C:List.replicate (b.size+r.size+2) (0:Int)=[0]++List.replicate b.size 0++([0]++List.replicate r.size 0):=by
   rw[show b.size+r.size+2=1+b.size+(1+r.size) by omega,←Eh,←Eh,←Eh];rfl
  simp only[Fr.flat,Fr.size,Bi,Oe,m,Bv];rw[C];simp only[Bt,Bi,D8] at s x ⊢;rw[Dw _ _ (by omega),show i - out.length=0 by omega,E5,s];simp only[Oe,p];have d:(((out++(-1:Int)::(b.ends (i+1)++(0:Int)::(List.replicate r.size 0++a))).set (i+1+b.size) (-1)).set (i+1+b.size) (i:Int)).set i ((i+1+b.size:Nat):Int)
    = out++((i+b.size+1:Nat):Int)::(b.ends (i+1)++(i:Int)::(List.replicate r.size 0++a)):=by
   rw[List.set_set,Dw _ _ (by omega),Dw _ _ (by omega),show i+1+b.size - out.length=b.size+1 by omega,show i - out.length=0 by omega,List.set_cons_succ,E5,
    Dw _ _ (by rw[Fr.ends_len];exact Al _),Fr.ends_len,Eu,E5,show i+1+b.size=i+b.size+1 by omega]
  rw[d,show i+1+b.size+1=i+b.size+2 by omega,x];simp only[Fr.ends,Bi,Bt];rw[show i+(b.size+r.size+2)=i+b.size+2+r.size by omega];simp[Nat.add_comm]
def zvz {f:Fr Lo}(w:f.wf I9):Oe 0 [] (List.replicate f.size 0) f.flat=f.ends 0:=by
 have h:=endsR_tree f 0 [] [] [] [] w rfl;simp only[Bz,D8,Oe] at h;exact h
def Zv {f:Fr Lo}:∀{d:Nat} {rest:List Lo},f.wf I9→Pf I9 d rest→Pf I9 d (f.flat++rest):=by
 induction f with
 |nil=>intro d rest _ h;exact h
 |op o r j =>
  intro d rest w h;simp only[Fr.flat,Bi];unfold Pf;rw[w.1,Ab (by decide),Ab (by decide)];exact⟨rfl,j w.2 h⟩
 |loop o b e r a g =>
  intro d rest w h;obtain⟨l,m,p,q⟩:=w;simp only[Fr.flat,Bi,Bt];unfold Pf;rw[l,Ag rfl];refine a p ?_;unfold Pf;rw[m,Ab (by decide),Ag rfl];exact⟨by omega,g q h⟩
def endsR_len:∀(l:List Lo) (i:Nat) (st:List Nat) (out:List Int),(Oe i st out l).length=out.length
 |[],_,_,_=>rfl
 |o::l,i,st,out=>by
  unfold Oe;split
  ·rw[endsR_len];simp
  ·split
   ·split<;>rw[endsR_len]<;>simp
   ·rw[endsR_len];simp
def O8:List (Int×Int)→Int→List Lo→Int
 |_,s,[]=>s
 |st,s,o::l=>if o.kind=16 then O8 ((s,(o.imm.toNat:Int))::st) 1 l
  else if o.kind=17 then (match st with
   |[]=>O8 [] s l
   |(s0,t)::a=>O8 a (min 1125899906842624 ((if 1125899906842624/t<s then 1125899906842624 else s*t)+s0)) l)
  else O8 st (min 1125899906842624 (s+1)) l
def Fr.stp:Fr Lo→Nat
 |.nil=>0
 |.op _ r=>1+r.stp
 |.loop o b _ r=>o.imm.toNat*(1+b.stp)+r.stp
def zru {a b:Nat}(h:1≤a):b≤a*b:=Ed _ h
def zh7 {nb:Nat}:∀(f:Fr Lo) (ls:List Nat) (st:List (Int×Int)) (s:Nat) (rest:List Lo),f.wf I9→f.regs nb ls=true→s+f.stp≤1125899906842624→O8 st s (f.flat++rest)=O8 st ((s+f.stp:Nat):Int) rest
 |.nil,_,st,s,rest,_,_,_=>by simp[Fr.flat,Fr.stp]
 |.op o r,ls,st,s,rest,w,a,d=>by
  have hk:=w.1;have x:¬o.kind=16:=fun q=>by simp[I9,q] at hk
  have y:¬o.kind=17:=fun q=>by simp[I9,q] at hk
  simp only[Fr.regs,Ac] at a;simp only[Fr.stp] at d ⊢;simp only[Fr.flat,Bi,O8,x,y,Dv];rw[show min (1125899906842624:Int) ((s:Int)+1)=((s+1:Nat):Int) by omega,zh7 r ls st (s+1) rest w.2 a.2.2.2.2.2.2 (by omega)]
  congr 1;omega
 |.loop o b e r,ls,st,s,rest,w,a,d=>by
  obtain⟨g,h,z,A⟩:=w;have j:o.kind=16:=by unfold I9 at g;split at g<;>first|assumption|(split at g<;>omega)
  have l:e.kind=17:=by
   unfold I9 at h;split at h
   ·omega
   ·split at h
    ·assumption
    ·omega
  simp only[Fr.regs,Ac,Ao] at a;obtain⟨_,_,m1,m,p⟩:=a;simp only[Fr.stp] at d ⊢;have hle:=zru (b:=1+b.stp) m1;simp only[Fr.flat,Bi,Bt,O8,j,Bv];rw[show (1:Int)=((1:Nat):Int) from rfl,zh7 b _ _ 1 _ z m (by omega)];simp only[O8,l];rw[Ab (show ¬(17:Int)=16 by decide),Ag trivial];have B:¬(1125899906842624/((o.imm.toNat:Nat):Int)<((1+b.stp:Nat):Int)):=by
   have C:(1+b.stp)*o.imm.toNat≤1125899906842624:=by rw[B2];omega
   have D:1+b.stp≤1125899906842624/o.imm.toNat:=(Nat.le_div_iff_mul_le m1).2 C;have E:((1125899906842624/o.imm.toNat:Nat):Int)=1125899906842624/((o.imm.toNat:Nat):Int):=by simp
   omega
  rw[Ab B];have hm:(((1+b.stp:Nat):Int)*((o.imm.toNat:Nat):Int))=((o.imm.toNat*(1+b.stp):Nat):Int):=by rw[B2];simp
  rw[hm,show min (1125899906842624:Int) (((o.imm.toNat*(1+b.stp):Nat):Int)+(s:Int))=((s+o.imm.toNat*(1+b.stp):Nat):Int) by omega,zh7 r ls st _ rest A p (by omega)]
  congr 1;omega
def Zf {nb:Nat}{ls:List Nat}{f:Fr Lo}(w:f.wf I9)(a:f.regs nb ls=true)(d:f.stp≤1125899906842624):O8 [] 0 f.flat=f.stp:=by
 have h:=zh7 f ls [] 0 [] w a (by omega);simp only[Bz,O8,Be] at h;exact h
def Oi (b:Bf)(x:List UInt64):List UInt64:=x++List.replicate (b.size.toNat - x.length) 0
def L5 (bs:List Bf)(X:List (List UInt64))(n:Nat):List (List UInt64):=(List.range n).map fun i=>Oi (F4 bs i) (X.getD i [])
def Il (regs:Int)(bs:List Bf)(X:List (List UInt64)):Ms:=⟨0,true,List.replicate regs.toNat 0,L5 bs X bs.length,[]⟩
def Zb (bs:List Bf)(X:List (List UInt64))(n:Nat):(L5 bs X n).length=n:=by simp[L5]
def zer (r:List UInt64)(x:Int)(v:UInt64):(Fw r x v).length=r.length:=by unfold Fw;split<;>simp
structure SameLen (s s':Ms):Prop where
 r:s'.r.length=s.r.length
 b:s'.bufs.map List.length=s.bufs.map List.length
 i:s'.i=s.i+1
 l:s'.l.length=s.l.length+1
 f:s'.first=s.first
def cw {o:Lo}{s d:Ms}(h:Nl o s=some d):SameLen s d:=by
 unfold Nl at h;split at h
 ·split at h
  ·cases h;exact⟨by simp[zer],rfl,rfl,by simp,rfl⟩
  ·cases h
 ·split at h
  ·split at h
   ·rename_i f;cases h;refine⟨by simp[zer],?_,rfl,by simp,rfl⟩;show (s.bufs.set _ _).map List.length=_;rw[B3,Ch];refine List.ext_getElem? fun j=>?_
    by_cases q:o.buf.toNat=j
    ·subst q;by_cases a:o.buf.toNat<s.bufs.length
     ·rw[Ah (by simpa using a)];simp[Mf,Ae,a]
     ·rw[Dk (by simpa using a),Dk (by simpa using a)]
    ·rw[Ad q]
   ·cases h
  ·cases h;exact⟨by simp[zer],rfl,rfl,by simp,rfl⟩
def zul {os:List Lo}{es:List Int}{s:Ms}(h:os[s.i]?=none):∀n,H6 os es n s=some s
 |0=>rfl
 |n+1=>by
  show (match Jw os es s with|none=>none|some a=>H6 os es n a)=_;have:Jw os es s=some s:=by unfold Jw;rw[h]
  rw[this];exact zul h n
def ends_at:∀(f:Fr Lo) (i j:Nat) (o:Lo),f.wf I9→f.flat[j]?=some o→o.kind=17→∃k p,(f.ends i)[j]?=some ((i+k:Nat):Int)∧f.flat[k]?=some p∧p.kind=16
 |.nil,_,_,_,_,h,_=>by simp[Fr.flat] at h
 |.op a r,i,j,o,w,h,hk=>by
  have s:=w.1;have B:¬a.kind=17:=fun q=>by simp[I9,q] at s
  cases j with
  |zero=>simp[Fr.flat] at h;subst h;exact absurd hk B
  |succ j =>
   simp only[Fr.flat,Av] at h;obtain⟨k,p,g,d,l⟩:=ends_at r (i+1) j o w.2 h hk;exact⟨k+1,p,by simp only[Fr.ends,Av];rw[g];congr 2;omega,by simpa only[Fr.flat,Av] using d,l⟩
 |.loop a b e r,i,j,o,w,h,hk=>by
  obtain⟨x,F,C,D⟩:=w;have y:a.kind=16:=by unfold I9 at x;split at x<;>first|assumption|(split at x<;>omega)
  cases j with
  |zero=>simp[Fr.flat] at h;subst h;omega
  |succ j =>
   simp only[Fr.flat,Av] at h;simp only[Fr.ends,Av];by_cases A:j<b.size
   ·rw[Aq (by rw[Fr.flat_len];exact A)] at h;obtain⟨k,p,g,d,l⟩:=ends_at b (i+1) j o C h hk;have z:k<b.size:=by rw[←Fr.flat_len];exact (Aa.1 d).1
    refine⟨k+1,p,?_,?_,l⟩
    ·rw[Aq (by rw[Fr.ends_len];exact A),g];congr 2;omega
    ·simp only[Fr.flat,Av];rw[Aq (by rw[Fr.flat_len];exact z)];exact d
   ·rw[Au (by rw[Fr.flat_len];omega),Fr.flat_len] at h;rw[Au (by rw[Fr.ends_len];omega),Fr.ends_len];cases E:j - b.size with
    |zero =>
     refine⟨0,a,by simp,by simp[Fr.flat],y⟩
    |succ m =>
     rw[E] at h;simp only[Av] at h ⊢;obtain⟨k,p,g,d,l⟩:=ends_at r (i+b.size+2) m o D h hk;refine⟨k+b.size+2,p,by rw[g];congr 2;omega,?_,l⟩;simp only[Fr.flat,Av];rw[Au (by rw[Fr.flat_len];omega),Fr.flat_len,show k+b.size+1 - b.size=k+1 by omega,Av];exact d
end Go.Sv
noncomputable section
namespace Go.Sv
structure Pc where
 buf:Int
 at_:Int
 size:Int
def Pc.f (p:Pc):List LV:=[.i p.buf,.i p.at_,.i p.size]
def cK (d:Int)(n:UInt64):Lo:=⟨1,d,-1,-1,-1,-1,0,n⟩
def I4 (d a:Int):Lo:=⟨2,d,-1,a,-1,-1,0,0⟩
def Fg (k d a b:Int):Lo:=⟨k,d,-1,a,b,-1,0,0⟩
def Jd (k d a f:Int):Lo:=⟨k,d,-1,a,-1,-1,0,iU f⟩
def F9 (h l a b:Int):Lo:=⟨10,h,l,a,b,-1,0,0⟩
def F3 (k d out a b c:Int):Lo:=⟨k,d,out,a,b,c,0,0⟩
def Gg (d c a b:Int):Lo:=⟨13,d,-1,a,b,c,0,0⟩
def Fq (d:Int)(p:Pc)(i off:Int):Lo:=⟨14,d,-1,i,-1,-1,p.buf,iU (p.at_+off)⟩
def Fx (p:Pc)(i off b:Int):Lo:=⟨15,-1,-1,i,b,-1,p.buf,iU (p.at_+off)⟩
def Lk (d times:Int):Lo:=⟨16,d,-1,-1,-1,-1,0,iU times⟩
def O6:Lo:=⟨17,-1,-1,-1,-1,-1,0,0⟩
def Kp (e:Nat)(G G':Ff):Prop:=G.length≤G'.length∧∀(q:Nat) (ob:LObj),q≠e→(∀R m k st,ob≠LObj.dyn R m 8 k st)→G[q]?=some ob→G'[q]?=some ob
def Kp.refl (e:Nat)(G:Ff):Kp e G G:=⟨Al _,fun _ _ _ _ h=>h⟩
def Kp.trans {e:Nat}{a b c:Ff}(h:Kp e a b)(k:Kp e b c):Kp e a c:=⟨Bq h.1 k.1,fun q ob h1 h2 h3=>k.2 q ob h1 h2 (h.2 q ob h1 h2 h3)⟩
def Kp.cells {e:Nat}{a b:Ff}(h:Kp e a b){q st:Nat}{l:List LV}(hq:q≠e)(hc:a[q]?=some (.cells l st)):b[q]?=some (.cells l st):=h.2 q _ hq (fun _ _ _ _ e=>by cases e) hc
def Kp.app {e:Nat}{a b:Ff}(h:Kp e a b)(x:List LObj):Kp e a (b++x):=⟨by have:=h.1;simp;omega,fun q ob h1 h2 h3=>by have h4:=h.2 q ob h1 h2 h3;rw[Fp (Aa.1 h4).1];exact h4⟩
def Kp.app' (e:Nat)(a:Ff)(x:List LObj):Kp e a (a++x):=(Kp.refl e a).app x
def F6 (G:Ff)(e:Nat)(ops:List Lo)(deep:Int):Prop:=∃(st:Nat) (v:LV),G[e]?=some (.cells [v,.i deep] st)∧Io 0 G v 8 ops.length (Gv ops)
def Io.set_cells {b:Nat}{G:Ff}{v:LV}{esz n:Nat}{l:List LV}(h:Io b G v esz n l){q st:Nat}{c:List LV}{ob:LObj}(hq:G[q]?=some (.cells c st)):Io b (G.set q ob) v esz n l:=by
 obtain⟨h1,h2,h|⟨p,k,st,a,e,d⟩⟩:=h
 ·exact⟨h1,h2,.inl h⟩
 ·exact⟨h1,h2,.inr ⟨p,k,st,a,e,by rw[Ad (fun q'=>by rw[q',d] at hq;cases hq)];exact d⟩⟩
def Io.row {b:Nat}{G:Ff}{v:LV}{esz n:Nat}{l:List LV}(h:Io b G v esz n l){q j:Nat}(e:v=.dy q j):∃R m k st,G[q]?=some (.dyn R m esz k st):=by
 obtain⟨_,_,⟨h,_⟩|⟨p,k,st,_,e2,d⟩⟩:=h
 ·rw[h] at e;cases e
 ·rw[e2] at e;cases e;exact⟨_,_,_,_,d⟩
def F6.app {G:Ff}{e:Nat}{ops:List Lo}{deep:Int}(h:F6 G e ops deep)(x:List LObj):F6 (G++x) e ops deep:=by
 obtain⟨st,v,h1,h2⟩:=h;exact⟨st,v,by rw[Fp (Aa.1 h1).1];exact h1,h2.push_end⟩
end Go.Sv
end
namespace Go.Sv
section made
variable {wk : Bool → Int} {a b I6 : Nat → Int} {sec : Nat → Bool} {done busy : List Nat} {iv : Nat → Hl} {ps : Bool → St} {cur base : Int} {n : Nat}
end made
end Go.Sv
namespace Go.Sv
def cn {α:Type}(k:α→Int)(l:List α):Prop:=l.Pairwise fun x y=>k x≤k y
section sym
variable {α : Type} {k : α → Int}
def cn.last {l:List α}(h:cn k l){u z:α}(hu:u∈l)(hz:l.getLast?=some z):k u≤k z:=by
 obtain⟨ys,rfl⟩:=List.getLast?_eq_some_iff.1 hz;have:=List.pairwise_append.1 h;rcases Az.1 hu with q|q
 ·exact this.2.2 u q z (by simp)
 ·rw[List.mem_singleton.1 q];exact Int.le_refl _
def cn.head {l:List α}(h:cn k l){u z:α}(hu:u∈l)(hz:l.head?=some z):k z≤k u:=by
 obtain⟨ys,rfl⟩:=List.head?_eq_some_iff.1 hz;have:=List.pairwise_cons.1 h;rcases An.1 hu with q|q
 ·rw[q];exact Int.le_refl _
 ·exact this.1 u q
def zzt {l:List α}{u:α}(h:u∈l):∃z,l.getLast?=some z:=by
 cases a:l.getLast? with
 |none=>rw[List.getLast?_eq_none_iff] at a;subst a;cases h
 |some z=>exact⟨z,rfl⟩
def zyj {l:List α}{u:α}(h:u∈l):∃z,l.head?=some z:=by
 cases l with
 |nil=>cases h
 |cons z t=>exact⟨z,rfl⟩
def halves {f g h j:List α}(l:cn k (f++g))(m:cn k (h++j))(o:∀u w,f.getLast?=some u→j.head?=some w→k u≤k w)(p:∀u w,h.getLast?=some u→g.head?=some w→k u≤k w) :
  ∀u∈f++h,∀w∈g++j,k u≤k w:=by
 obtain⟨q,r,s⟩:=List.pairwise_append.1 l;obtain⟨x,A,B⟩:=List.pairwise_append.1 m;intro u hu w hw;rcases Az.1 hu with hu|hu<;>rcases Az.1 hw with hw|hw
 ·exact s u hu w hw
 ·obtain⟨z,a⟩:=zzt hu;obtain⟨y,d⟩:=zyj hw;exact Int.le_trans (cn.last q hu a) (Int.le_trans (o z y a d) (cn.head A hw d))
 ·obtain⟨z,a⟩:=zzt hu;obtain⟨y,d⟩:=zyj hw;exact Int.le_trans (cn.last x hu a) (Int.le_trans (p z y a d) (cn.head r hw d))
 ·exact B u hu w hw
end sym
end Go.Sv
namespace Go.Sv
def zxc (vs:List Vr):Le vs (N9 0 vs) []=K3 vs:=by
 unfold Le;cases hv:K3 vs with
 |false=>rfl
 |true =>
  have l:=zib hv;have d:=startOs_len vs 0;obtain⟨m,f,o,g⟩:=zem vs 0 (Tj vs) rfl (by simp[Tj]) (fun j a=>by omega) (fun j _ a=>by
   unfold gb Tj;rw[Ae,Ce,Og a];rfl)
  rw[f];have hm:cb vs m=true:=by
   unfold cb;rw[Cd];intro i hi;simp[g i (Cr.1 hi)]
  have h:(N9 0 vs).length≤4096:=by omega
  simp[hm,h]
def Ir (l:List Pc)(n:Nat):Pc:=l.getD n ⟨0,0,0⟩
def U7 (bs:List Bf):Int :=
 if 32<bs.length then 3 else if (bs.any fun b=>decide (65536<b.size))=true then 3 else if (bs.any fun b=>decide (b.size<1) || (decide (b.kind<1) || decide (3<b.kind)))=true then 2 else 0
def O5 (bs:List Bf)(x:Pc):Bool:=decide (0≤x.buf)&&(decide (x.buf<bs.length)&&(decide (1≤x.size)&&(decide (x.size≤32768)&&(decide (0≤x.at_)&&(decide (x.at_≤(F4 bs x.buf.toNat).size)&&decide (x.size≤(F4 bs x.buf.toNat).size - x.at_))))))
def Va (bs:List Bf)(v:Vr)(x:Pc):Bool :=
 O5 bs x&&(decide (x.size=v.limbs)&&(!(decide ((F4 bs x.buf.toNat).kind=1) && !Ku v)&&(!(decide ((F4 bs x.buf.toNat).kind=2)&&Ku v)&&(v.sec==(F4 bs x.buf.toNat).sec))))
def O1 (bs:List Bf)(s:Bool)(x:Pc):Bool:=O5 bs x&&(!decide ((F4 bs x.buf.toNat).kind=1)&&((F4 bs x.buf.toNat).sec==s))
def Od (vs:List Vr)(bs:List Bf)(a:List Pc)(d f:Pc):Bool :=
 K3 vs&&(decide (1≤bs.length)&&(decide (a.length=vs.length)&&(decide (U7 bs=0)&&(((List.range vs.length).all fun i=>Va bs (gv vs i) (Ir a i))&&(O1 bs false d&&O1 bs true f)))))
def Qp (l:List Pc):List LV:=l.flatMap Pc.f
def Fl:List Lo→Fr Lo
 |[]=>.nil
 |o::l=>.op o (Fl l)
def Fr.cat {α:Type}:Fr α→Fr α→Fr α
 |.nil,g=>g
 |.op o r,g=>.op o (r.cat g)
 |.loop o b e r,g=>.loop o b e (r.cat g)
def flat_frL:∀l:List Lo,(Fl l).flat=l
 |[]=>rfl
 |o::l=>by rw[Fl,Fr.flat,flat_frL l]
def Ia {α:Type}:∀f g:Fr α,(f.cat g).flat=f.flat++g.flat
 |.nil,g=>rfl
 |.op o r,g=>by rw[Fr.cat,Fr.flat,Fr.flat,Ia r g];rfl
 |.loop o b e r,g=>by rw[Fr.cat,Fr.flat,Fr.flat,Ia r g];simp
def frL_app:∀a b:List Lo,Fl (a++b)=(Fl a).cat (Fl b)
 |[],_=>rfl
 |o::a,b=>by rw[Bi,Fl,Fl,Fr.cat,frL_app a b]
def stp_cat:∀f g:Fr Lo,(f.cat g).stp=f.stp+g.stp
 |.nil,g=>by simp[Fr.cat,Fr.stp]
 |.op o r,g=>by rw[Fr.cat,Fr.stp,Fr.stp,stp_cat r g];omega
 |.loop o b e r,g=>by rw[Fr.cat,Fr.stp,Fr.stp,stp_cat r g];omega
def Kr (l:List Lo):(Fl l).stp=l.length:=by
 induction l with
 |nil=>rfl
 |cons o l a=>rw[Fl,Fr.stp,a,Ar];omega
section ex
variable {sz : Nat → Nat} {s : Fs}
def exZ_cat:∀(f g:Fr Lo) (s:Fs),Lz sz (f.cat g) s=(Lz sz f s).bind (Lz sz g)
 |.nil,g,s=>rfl
 |.op o r,g,s=>by
  rw[Fr.cat,Lz,Lz];cases I3 sz o s with
  |none=>rfl
  |some a=>exact exZ_cat r g a
 |.loop o b e r,g,s=>by
  rw[Fr.cat,Lz,Lz];cases Zt (Lz sz b) o.d.toNat o.imm.toNat 0 s with
  |none=>rfl
  |some a=>exact exZ_cat r g a
def Tx (sz:Nat→Nat)(f:Fr Lo)(s:Fs)(Q:Fs→Prop):Prop:=∃a,Lz sz f s=some a∧Q a
def Tx.nil {Q:Fs→Prop}(h:Q s):Tx sz .nil s Q:=⟨s,rfl,h⟩
def Tx.op {o:Lo}{r:Fr Lo}{s1:Fs}{Q:Fs→Prop}(h:I3 sz o s=some s1)(k:Tx sz r s1 Q):Tx sz (.op o r) s Q:=by
 obtain⟨s',h1,h2⟩:=k;exact⟨s',by rw[Lz,h];exact h1,h2⟩
def Tx.cat {f g:Fr Lo}{Q R:Fs→Prop}(h:Tx sz f s R)(k:∀s',R s'→Tx sz g s' Q):Tx sz (f.cat g) s Q:=by
 obtain⟨s1,h1,h2⟩:=h;obtain⟨s2,h3,h4⟩:=k s1 h2;exact⟨s2,by rw[exZ_cat,h1];exact h3,h4⟩
def Tx.mono {f:Fr Lo}{Q R:Fs→Prop}(h:Tx sz f s R)(k:∀s',R s'→Q s'):Tx sz f s Q:=by
 obtain⟨s1,h1,h2⟩:=h;exact⟨s1,h1,k s1 h2⟩
def qh {f:Fs→Option Fs}{d:Nat}{I:Nat→Fs→Prop}:∀(n j:Nat) (s:Fs),I j s→(∀i s,i<j+n→I i s→∃a,f (s.put d (UInt64.ofNat i))=some a∧I (i+1) a)→∃a,Zt f d n j s=some a∧I (j+n) a
 |0,j,s,h,_=>⟨s,rfl,h⟩
 |n+1,j,s,h,k=>by
  obtain⟨s1,g,l⟩:=k j s (by omega) h;obtain⟨s2,m,o⟩:=qh n (j+1) s1 l fun i s hi p=>k i s (by omega) p
  refine⟨s2,?_,by rw[show j+(n+1)=j+1+n by omega];exact o⟩;show (match f (s.put d (UInt64.ofNat j)) with|none=>none|some a=>Zt f d n (j+1) a)=_;rw[g];exact m
def Tx.loop {o e:Lo}{b r:Fr Lo}{Q:Fs→Prop}(I:Nat→Fs→Prop)(h0:I 0 s)(h1:∀i s,i<o.imm.toNat→I i s→Tx sz b (s.put o.d.toNat (UInt64.ofNat i)) (I (i+1)))(h2:∀s',I o.imm.toNat s'→Tx sz r s' Q):Tx sz (.loop o b e r) s Q:=by
 obtain⟨s1,h3,h4⟩:=qh o.imm.toNat 0 s h0 fun i s hi hI=>h1 i s (by omega) hI
 rw[Be] at h4;obtain⟨s2,h5,h6⟩:=h2 s1 h4;exact⟨s2,by rw[Lz,h3];exact h5,h6⟩
def So (s:Fs)(d:Nat)(v:UInt64):Jr s (d:Int) v=s.put d v:=by unfold Jr;rw[Ag (by omega)];rfl
def T8 (s:Fs)(v:UInt64):Jr s (-1) v=s:=by unfold Jr;rw[Ab (by omega)]
def Ri (s:Fs)(d:Nat):Lr s (d:Int)=s.r d:=by unfold Lr;rw[Ab (by omega)];rfl
def Wm (s:Fs):Lr s (-1)=0:=by unfold Lr;rw[Ag (by omega)]
def Oh {d:Nat}{v:UInt64}:I3 sz (cK d v) s=some (s.put d v):=by simp[I3,cK,Gb,So,T8]
def y5 {d a:Nat}:I3 sz (I4 d a) s=some (s.put d (s.r a)):=by simp[I3,I4,Gb,So,T8,Ri]
def sr {d a b:Nat}:I3 sz (Fg 3 d a b) s=some (s.put d (s.r a+s.r b)):=by simp[I3,Fg,Gb,So,T8,Ri]
def zxn {d a b:Nat}:I3 sz (Fg 4 d a b) s=some (s.put d (s.r a - s.r b)):=by simp[I3,Fg,Gb,So,T8,Ri]
def zwy {d a b:Nat}:I3 sz (Fg 6 d a b) s=some (s.put d (s.r a ||| s.r b)):=by simp[I3,Fg,Gb,So,T8,Ri]
def zxz {d a b:Nat}:I3 sz (Fg 7 d a b) s=some (s.put d (s.r a ^^^ s.r b)):=by simp[I3,Fg,Gb,So,T8,Ri]
def zj4 {h l a b:Nat}:I3 sz (F9 h l a b) s=some ((s.put h (L9 (s.r a) (s.r b))).put l (s.r a*s.r b)):=by simp[I3,F9,Gb,So,Ri]
def zsm {d e a b c:Nat}:I3 sz (F3 11 d e a b c) s=some ((s.put d (F0 (s.r a) (s.r b) (decide (s.r c%2=1))).1).put e (Gj (F0 (s.r a) (s.r b) (decide (s.r c%2=1))).2)):=by simp[I3,F3,Gb,So,Ri]
def zio {d e a b c:Nat}:I3 sz (F3 12 d e a b c) s=some ((s.put d (Gu (s.r a) (s.r b) (decide (s.r c%2=1))).1).put e (Gj (Gu (s.r a) (s.r b) (decide (s.r c%2=1))).2)):=by simp[I3,F3,Gb,So,Ri]
def zms {d c a b:Nat}:I3 sz (Gg d c a b) s=some (s.put d (if s.r c%2=1 then s.r a else s.r b)):=by
 simp[I3,Gg,Gb,So,T8,Ri]
def vk {d i:Nat}{p:Pc}{off:Int}{b n:Nat}(f:p.buf=(b:Int))(g:(iU (p.at_+off)+s.r i).toNat=n)(a:n<sz b):I3 sz (Fq d p i off) s=some (s.put d (s.m b n)):=by
 simp[I3,Fq,So,T8,Ri,f,g,a]
def gh {d:Nat}{p:Pc}{off:Int}{b n:Nat}(f:p.buf=(b:Int))(g:(iU (p.at_+off)).toNat=n)(a:n<sz b):I3 sz (Fq d p (-1) off) s=some (s.put d (s.m b n)):=by
 simp[I3,Fq,So,T8,Wm,f,g,a]
def tz {v i:Nat}{p:Pc}{off:Int}{b n:Nat}(d:p.buf=(b:Int))(f:(iU (p.at_+off)+s.r i).toNat=n)(a:n<sz b):I3 sz (Fx p i off v) s=some (s.sto b n (s.r v)):=by
 simp[I3,Fx,T8,Ri,d,f,a]
def lh {v:Nat}{p:Pc}{off:Int}{b n:Nat}(d:p.buf=(b:Int))(f:(iU (p.at_+off)).toNat=n)(a:n<sz b):I3 sz (Fx p (-1) off v) s=some (s.sto b n (s.r v)):=by
 simp[I3,Fx,T8,Wm,Ri,d,f,a]
end ex
def Fh (s:Fs)(d x:Nat)(v:UInt64):(s.put d v).r x=if x=d then v else s.r x:=rfl
def Ho (s:Fs)(d:Nat)(v:UInt64):(s.put d v).m=s.m:=rfl
def K0 (s:Fs)(b n:Nat)(v:UInt64):(s.sto b n v).r=s.r:=rfl
def Rt (s:Fs)(b n x y:Nat)(v:UInt64):(s.sto b n v).m x y=if x=b∧y=n then v else s.m x y:=rfl
def La (s:Ms):Fs:=⟨fun x=>s.r.getD x 0,fun b n=>(s.bufs.getD b []).getD n 0⟩
def Z4 (s:Ms):Nat→Nat:=fun b=>(s.bufs.getD b []).length
def Rep.abs (s:Ms)(h:s.r.length=64):Rep s.bufs.length (Z4 s) s (La s):=⟨h,fun _ _=>rfl,rfl,fun _ _=>rfl,fun _ _ _ _=>rfl⟩
end Go.Sv
namespace Go.Sv
def zh6 {regs:Int}{bs:List Bf}{d:Int}{v:UInt64}(h:0≤d∧d<regs):Ix regs bs (cK d v)=true:=by
 simp[Ix,cK,F1,Gy,Gx,Hh,J0,J4,Gt,h]
def Ug {regs:Int}{bs:List Bf}{d a:Int}(h:0≤d∧d<regs)(f:0≤a∧a<regs):Ix regs bs (I4 d a)=true:=by
 simp[Ix,I4,F1,Gy,Gx,Hh,J0,J4,Gt,h,f]
def zc8 {regs:Int}{bs:List Bf}{k d a b:Int}(hk:3≤k∧k≤7)(h:0≤d∧d<regs)(f:0≤a∧a<regs)(g:0≤b∧b<regs):Ix regs bs (Fg k d a b)=true:=by
 have j:k=3∨k=4∨k=5∨k=6∨k=7:=by omega
 rcases j with rfl|rfl|rfl|rfl|rfl<;>simp[Ix,Fg,F1,Gy,Gx,Hh,J0,J4,Gt,h,f,g]
def zck {regs:Int}{bs:List Bf}{d e a b:Int}(h:0≤d∧d<regs)(he:0≤e∧e<regs)(f:0≤a∧a<regs)(g:0≤b∧b<regs)(j:d≠e):Ix regs bs (F9 d e a b)=true:=by
 simp[Ix,F9,F1,Gy,Gx,Hh,J0,J4,Gt,h,f,g,he,j]
def zv6 {regs:Int}{bs:List Bf}{k d e a b c:Int}(hk:k=11∨k=12)(h:0≤d∧d<regs)(he:0≤e∧e<regs)(f:0≤a∧a<regs)(g:0≤b∧b<regs)(j:0≤c∧c<regs)(l:d≠e):Ix regs bs (F3 k d e a b c)=true:=by
 rcases hk with rfl|rfl<;>simp[Ix,F3,F1,Gy,Gx,Hh,J0,J4,Gt,h,f,g,j,he,l]
def zvq {regs:Int}{bs:List Bf}{d c a b:Int}(h:0≤d∧d<regs)(f:0≤c∧c<regs)(g:0≤a∧a<regs)(j:0≤b∧b<regs):Ix regs bs (Gg d c a b)=true:=by
 simp[Ix,Gg,F1,Gy,Gx,Hh,J0,J4,Gt,h,g,j,f]
def zq3 {regs:Int}{bs:List Bf}{d i off:Int}{p:Pc}(h:0≤d∧d<regs)(hi:i=-1∨0≤i∧i<regs)(a:0≤p.buf∧p.buf<bs.length)(hm:i=-1→iU (p.at_+off)<iU (F4 bs p.buf.toNat).size):Ix regs bs (Fq d p i off)=true:=by
 rcases hi with rfl|hi
 ·simp[Ix,Fq,F1,Gy,Gx,Hh,J0,J4,Gt,h,a,hm rfl]
 ·have:i≠-1:=by omega
  simp[Ix,Fq,F1,Gy,Gx,Hh,J0,J4,Gt,h,a,hi,this]
def zqx {regs:Int}{bs:List Bf}{v i off:Int}{p:Pc}(h:0≤v∧v<regs)(hi:i=-1∨0≤i∧i<regs)(a:0≤p.buf∧p.buf<bs.length)(hk:(F4 bs p.buf.toNat).kind≠1)(hm:i=-1→iU (p.at_+off)<iU (F4 bs p.buf.toNat).size):Ix regs bs (Fx p i off v)=true:=by
 rcases hi with rfl|hi
 ·simp[Ix,Fx,F1,Gy,Gx,Hh,J0,J4,Gt,h,a,hm rfl,hk]
 ·have:i≠-1:=by omega
  simp[Ix,Fx,F1,Gy,Gx,Hh,J0,J4,Gt,h,a,hi,this,hk]
def Hv (regs:Int)(bs:List Bf):List Int→List Lo→Prop
 |_,[]=>True
 |S,o::l=>Ix regs bs o=true∧(o.kind≠16∧o.kind≠17)∧(∀x∈Ii o,x∈S)∧Hv regs bs (Ft o++S) l
def zmx {regs:Int}{bs:List Bf}:∀{l:List Lo} {S S':List Int},(∀x∈S,x∈S')→Hv regs bs S l→Hv regs bs S' l
 |[],_,_,_,_=>trivial
 |o::l,S,S',h,k=>⟨k.1,k.2.1,fun x a=>h x (k.2.2.1 x a),zmx (fun x a=>by
   rcases Az.1 a with a|a
   ·exact Dp _ a
   ·exact Ba _ (h x a)) k.2.2.2⟩
def zrg {regs:Int}{bs:List Bf}:∀{a b:List Lo} {S:List Int},Hv regs bs S a→Hv regs bs ((a.flatMap Ft)++S) b→Hv regs bs S (a++b)
 |[],b,S,_,k=>by simpa using k
 |o::a,b,S,h,k=>⟨h.1,h.2.1,h.2.2.1,zrg h.2.2.2 (zmx (fun x d=>by
   simp only[Dx,Az] at d ⊢;rcases d with (d|d)|d
   ·exact .inr (.inl d)
   ·exact .inl d
   ·exact .inr (.inr d)) k)⟩
def zty {regs:Int}{bs:List Bf}{a b:List Lo}{S:List Int}(h:Hv regs bs S a)(k:Hv regs bs S b):Hv regs bs S (a++b) :=
 zrg h (zmx (fun _ d=>Ba _ d) k)
def Vn (regs:Int)(m:List Bool)(S:List Int):Prop:=(m.length:Int)=regs∧∀x∈S,0≤x∧x<regs∧Jk m x=true
def z98 {m:List Bool}{a x:Int}(d:0≤a∧a<m.length)(f:0≤x):Jk (m.set a.toNat true) x=true↔x=a∨Jk m x=true:=by
 unfold Jk;rw[Vf _ _ _ _ _ (by omega)];by_cases e:x.toNat=a.toNat
 ·rw[Ag e];simp;left;omega
 ·rw[Ab e];constructor
  ·exact .inr
  ·rintro (rfl|h)
   ·exact absurd rfl e
   ·exact h
def Vn.fold {regs:Int}:∀(mk:List Int) (m:List Bool) (S:List Int),Vn regs m S→(∀x∈mk,0≤x∧x<regs)→Vn regs (mk.foldl (fun m r=>m.set r.toNat true) m) (mk++S)
 |[],_,_,h,_=>h
 |a::mk,m,S,h,hr=>by
  have ha:=hr a (B6 ..);have h1:Vn regs (m.set a.toNat true) (a::S):=by
   refine⟨by simpa using h.1,fun x hx=>?_⟩;rcases An.1 hx with rfl|hx
   ·exact⟨ha.1,ha.2,(z98 ⟨ha.1,by rw[h.1];exact ha.2⟩ ha.1).2 (.inl rfl)⟩
   ·obtain⟨h1,h2,h3⟩:=h.2 x hx;exact⟨h1,h2,(z98 ⟨ha.1,by rw[h.1];exact ha.2⟩ h1).2 (.inr h3)⟩
  have h2:=Vn.fold mk _ _ h1 fun x hx=>hr x (A0 _ hx)
  refine⟨h2.1,fun x hx=>h2.2 x ?_⟩;simp only[Az,An] at hx ⊢;rcases hx with (hx|hx)|hx
  ·exact .inr (.inl hx)
  ·exact .inl hx
  ·exact .inr (.inr hx)
def W6 {regs:Int}{bs:List Bf}{m:List Bool}{ls:List Int}{o:Lo}(g:Ix regs bs o=true)(a:o.kind≠16)(d:o.kind≠17)(hm:∀x∈Ft o,¬x∈ls)(j:∀x∈Ii o,Jk m x=true) :
  Ns regs bs m ls o=(0,(Ft o).foldl (fun m r=>m.set r.toNat true) m,ls):=by
 unfold Ns;rw[Ab (by rw[g];decide),Ab d,Ab,Ab (fun q=>a q.1),Ab (fun q=>a q.1),Ab,Ab a]
 ·rw[By];rintro⟨x,f,h⟩;rw[j x f] at h;cases h
 ·rw[By];rintro⟨x,f,h⟩;exact hm x f (by simpa using h)
def Yl {regs:Int}{bs:List Bf}{o:Lo}(h:Ix regs bs o=true):∀x∈Ft o,0≤x∧x<regs:=by
 unfold Ix at h;simp only[Ac,Ao] at h;obtain⟨⟨f,g⟩,d,e,_⟩:=h;have f1:∀{x:Int},F1 regs x true=true→0≤x∧x<regs:=fun h=>by unfold F1 at h;simpa using h
 intro x a;unfold Ft at a;split at a
 ·rename_i hk;have hd:Gy o.kind=true:=by rcases hk with h|h|h<;>rw[h]<;>rfl
  have he:Gx o.kind=true:=by rcases hk with h|h|h<;>rw[h]<;>rfl
  rw[hd] at d;rw[he] at e;simp at a;rcases a with rfl|rfl
  ·exact f1 d
  ·exact f1 e
 ·split at a
  ·cases a
  ·rename_i hk;have hd:Gy o.kind=true:=by simp[Gy];omega
   rw[hd] at d;simp at a;subst a;exact f1 d
def U0 (n r:Int):List Lo:=[cK (r+3) 3,F9 (r+1) r n (r+3),cK (r+3) 2,Fg 7 r r (r+3)]
def pu (n r:Int):List Lo:=[F9 (r+1) (r+2) n r,Fg 4 (r+2) (r+3) (r+2),F9 (r+1) r r (r+2)]
def Qx (n r:Int)(i:Nat):List Lo:=(List.range i).flatMap fun _=>pu n r
def zcq (n r:Int)(i:Nat):Qx n r (i+1)=Qx n r i++pu n r:=by simp[Qx,List.range_succ]
def zk7 (n r:Int)(i:Nat):(Qx n r i).length=3*i:=by
 induction i with
 |zero=>rfl
 |succ i a=>rw[zcq,Aj,a];simp[pu];omega
def M8 (n r:Int):List Lo:=U0 n r++(Qx n r 5++[cK (r+3) 0,Fg 4 r (r+3) r])
def xor2 (x:Nat):x ^^^ 2=if x%4<2 then x+2 else x - 2:=by
 have j:(x ^^^ 2)/4=x/4:=by
  have:=Nat.xor_div_two_pow (a:=x) (b:=2) (n:=2);simpa using this
 have d:(x ^^^ 2)%4=(x%4) ^^^ 2:=by
  have:=Nat.xor_mod_two_pow (a:=x) (b:=2) (n:=2);simpa using this
 have f:x%4<4:=Cm _ (by decide);have h:(x%4) ^^^ 2=if x%4<2 then x%4+2 else x%4 - 2:=by
  generalize x%4=c at f ⊢
  match c,f with
  |0,_=>rfl
  |1,_=>rfl
  |2,_=>rfl
  |3,_=>rfl
 rw[h] at d;split at d<;>rename_i g
 ·rw[Ag g];omega
 ·rw[Ab g];omega
def Xl (k c:Nat)(d:c%2=1):∃t,k*(3*k+c)=2*t:=by
 have h:k*(3*k+c)%2=0:=by
  have a:k%2=0∨k%2=1:=by omega
  rw[B1,Nat.add_mod,B1 3 k];rcases a with a|a<;>simp[a,d]
 exact⟨k*(3*k+c)/2,by omega⟩
def reck0 (a:UInt64)(h:a%2=1):∃t:UInt64,a*((a*3) ^^^ 2)=1+32*t:=by
 have r:a.toNat%2=1:=by
  have:=congrArg UInt64.toNat h;simpa using this
 have d:((a*3) ^^^ 2:UInt64).toNat=(a.toNat*3%18446744073709551616) ^^^ 2:=by simp
 rw[xor2] at d;have o:a.toNat*3%18446744073709551616<18446744073709551616:=Cm _ (by decide);obtain⟨k,hk⟩:∃k,a.toNat=4*k+a.toNat%4:=⟨a.toNat/4,by omega⟩;have p:a.toNat*3%18446744073709551616%4=a.toNat*3%4:=Nat.mod_mod_of_dvd _ (by decide);have j:a=UInt64.ofNat a.toNat:=by simp
 have g:a.toNat%4=1∨a.toNat%4=3:=by omega
 rcases g with g|g
 ·rw[Ab (by omega)] at d;have f:(a*3) ^^^ 2=a*3 - 2:=by
   apply UInt64.toNat.inj;rw[d,D3];simp;omega
  obtain⟨t,l⟩:=Xl k 1 rfl;have q:a=4*UInt64.ofNat k+1:=by rw[j,hk,g];simp
  have m:UInt64.ofNat k*(3*UInt64.ofNat k+1)=2*UInt64.ofNat t:=by
   have:=congrArg UInt64.ofNat l;simpa using this
  refine⟨UInt64.ofNat t,?_⟩;rw[f];generalize UInt64.ofNat k=b at *;generalize UInt64.ofNat t=u at *;clear d j
  grind
 ·rw[Ag (by omega)] at d;have f:(a*3) ^^^ 2=a*3+2:=by
   apply UInt64.toNat.inj;rw[d,Bs];simp;omega
  obtain⟨t,l⟩:=Xl k 5 rfl;have q:a=4*UInt64.ofNat k+3:=by rw[j,hk,g];simp
  have m:UInt64.ofNat k*(3*UInt64.ofNat k+5)=2*UInt64.ofNat t:=by
   have:=congrArg UInt64.ofNat l;simpa using this
  refine⟨UInt64.ofNat t+1,?_⟩;rw[f];generalize UInt64.ofNat k=b at *;generalize UInt64.ofNat t=u at *;clear d j
  grind
def kz (a x:UInt64):UInt64:=x*(2 - a*x)
def zq2 (a x:UInt64):1 - a*kz a x=(1 - a*x)*(1 - a*x):=by unfold kz;grind
def xn (a:UInt64):UInt64:=kz a (kz a (kz a (kz a (kz a ((a*3) ^^^ 2)))))
def sq32 (t:UInt64):((32*t)*(32*t))*((32*t)*(32*t))=1048576*(t*t*(t*t)):=by grind
def zxk (a:UInt64)(h:a%2=1):a*xn a=1:=by
 obtain⟨t,f⟩:=reck0 a h;have d:1 - a*((a*3) ^^^ 2)=32*(0 - t):=by rw[f];grind
 generalize 0 - t=u at d;have g:1 - a*xn a=0:=by
  unfold xn;rw[zq2,zq2,zq2,zq2,zq2,d];have j:(32*u)*(32*u)*((32*u)*(32*u))=1048576*(u*u*(u*u)):=sq32 u;rw[j];generalize u*u*(u*u)=w;have l:(1048576*w)*(1048576*w)*((1048576*w)*(1048576*w))=0:=by
   have:(1048576*w)*(1048576*w)*((1048576*w)*(1048576*w))=(1048576*1048576*(1048576*1048576))*(w*w*(w*w)):=by grind
   rw[this,show (1048576*1048576*(1048576*1048576):UInt64)=0 by decide];simp
  rw[l];simp
 have:a*xn a=1 - (1 - a*xn a):=by grind
 rw[this,g];rfl
def ft (a x:UInt64):Nat→UInt64
 |0=>x
 |i+1=>kz a (ft a x i)
def ky {sz:Nat→Nat}{s:Fs}{n r:Nat}(h:¬(r≤n∧n≤r+3)):Tx sz (Fl (M8 n r)) s fun a=>a.r r=0 - xn (s.r n)∧a.m=s.m∧∀x,¬(r≤x∧x≤r+3)→a.r x=s.r x:=by
 have w:M8 (n:Int) (r:Int)=[cK ((r+3:Nat):Int) 3,F9 ((r+1:Nat):Int) (r:Nat) (n:Nat) ((r+3:Nat):Int),cK ((r+3:Nat):Int) 2,Fg 7 (r:Nat) (r:Nat) ((r+3:Nat):Int)]++(Qx n r 5++[cK ((r+3:Nat):Int) 0,Fg 4 (r:Nat) ((r+3:Nat):Int) (r:Nat)]):=rfl;have round:∀(i:Nat) (s:Fs),s.r (r+3)=2→Tx sz (Fl (Qx n r i)) s fun a=>a.r (r+3)=2∧a.r r=ft (s.r n) (s.r r) i∧a.m=s.m∧∀x,¬(r≤x∧x≤r+3)→a.r x=s.r x:=by
  intro i
  induction i with
  |zero=>intro s l;exact .nil ⟨l,rfl,rfl,fun _ _=>rfl⟩
  |succ i y =>
   intro s l;rw[zcq,frL_app];refine (y s l).cat fun s1 ⟨j,m,o,d⟩=>?_
   have z:pu (n:Int) (r:Int)=[F9 ((r+1:Nat):Int) ((r+2:Nat):Int) (n:Nat) (r:Nat),Fg 4 ((r+2:Nat):Int) ((r+3:Nat):Int) ((r+2:Nat):Int),F9 ((r+1:Nat):Int) (r:Nat) (r:Nat) ((r+2:Nat):Int)]:=rfl;rw[z];refine .op zj4 (.op zxn (.op zj4 (.nil ⟨?_,?_,?_,fun x f=>?_⟩)))
   ·simp[Fh,j]
   ·have A:=d n h;have B:¬n=r:=by omega
    simp[Fh,j,m,A,kz,ft]
   ·simp[Ho,o]
   ·have g:¬x=r:=by omega
    have p:¬x=r+1:=by omega
    have C:¬x=r+2:=by omega
    simp[Fh,g,p,C,d x f]
 rw[w,frL_app];refine Tx.cat (R:=fun a=>a.r (r+3)=2∧a.r r=(s.r n*3) ^^^ 2∧a.m=s.m∧∀x,¬(r≤x∧x≤r+3)→a.r x=s.r x) (.op Oh (.op zj4 (.op Oh (.op zxz (.nil ⟨?_,?_,?_,fun x f=>?_⟩))))) fun s1 ⟨j,m,o,d⟩=>?_
 ·simp[Fh]
 ·have D:¬n=r+3:=by omega
  simp[Fh,D]
 ·simp[Ho]
 ·have g:¬x=r:=by omega
  have p:¬x=r+1:=by omega
  have q:¬x=r+3:=by omega
  simp[Fh,g,p,q]
 rw[frL_app];refine (round 5 s1 j).cat fun s2 ⟨H,E,F,G⟩=>?_
 refine .op Oh (.op zxn (.nil ⟨?_,?_,fun x f=>?_⟩))
 ·simp[Fh,E,m,d n h,xn,ft]
 ·simp[Ho,F,o]
 ·have g:¬x=r:=by omega
  have q:¬x=r+3:=by omega
  simp[Fh,g,q,G x f,d x f]
def zyp {bs:List Bf}{n r:Int}{S:List Int}(d:0≤n∧n<64)(h:0≤r∧r+4<64)(f:n∈S)(a:r∈S)(g:r+3∈S):Hv 64 bs S (pu n r):=by
 refine⟨zck (by omega) (by omega) d (by omega) (by omega),by simp[F9],?_,zc8 (by omega) (by omega) (by omega) (by omega),by simp[Fg],?_,zck (by omega) (by omega) (by omega) (by omega) (by omega),by simp[F9],?_,trivial⟩
 ·simp[Ii,F9,f,a]
 ·simp[Ii,Fg,Ft,F9,g]
 ·simp[Ii,Ft,F9,Fg,a]
def zqz {bs:List Bf}{n r:Int}{S:List Int}(a:0≤n∧n<64)(d:0≤r∧r+4<64)(f:n∈S)(g:r∈S)(h:r+3∈S):∀i,Hv 64 bs S (Qx n r i)
 |0=>trivial
 |i+1=>by rw[zcq];exact zty (zqz a d f g h i) (zyp a d f g h)
def X7 {bs:List Bf}{n r:Int}{S:List Int}(d:0≤n∧n<64)(g:0≤r∧r+4<64)(f:n∈S):Hv 64 bs S (M8 n r):=by
 refine zrg (a:=U0 n r) ?_ ?_
 ·refine⟨zh6 (by omega),by simp[cK],by simp[Ii,cK],zck (by omega) (by omega) d (by omega) (by omega),by simp[F9],?_,zh6 (by omega),by simp[cK],by simp[Ii,cK],zc8 (by omega) (by omega) (by omega) (by omega),by simp[Fg],?_,trivial⟩
  ·simp[Ii,Ft,F9,cK,f]
  ·simp[Ii,Ft,F9,cK,Fg]
 ·refine zty (zqz d g (Ba _ f) ?_ ?_ 5) ?_
  ·simp[U0,Ft,cK,F9,Fg]
  ·simp[U0,Ft,cK,F9,Fg]
  ·refine⟨zh6 (by omega),by simp[cK],by simp[Ii,cK],zc8 (by omega) (by omega) (by omega) (by omega),by simp[Fg],?_,trivial⟩;simp[Ii,Ft,cK,Fg,U0,F9]
def zq9 (n r:Int):(M8 n r).length=21:=by
 unfold M8;rw[Aj,Aj,zk7];rfl
def iU1:iU 1=1:=by rw[Yk];rfl
end Go.Sv
noncomputable section
namespace Go.Sv
def M0 (e:Nat)(d a b n t:Pc)(R:Int):List LV :=
 [.ptr e 0,.i d.buf,.i d.at_,.i d.size,.i a.buf,.i a.at_,.i a.size,.i b.buf,.i b.at_,.i b.size,.i n.buf,.i n.at_,.i n.size,.i t.buf,.i t.at_,.i t.size,
  .i R,.i (R+1),.i (R+2),.i (R+3),.i (R+4),.i (R+5),.i (R+6),.i (R+7),.i (R+8),.i (R+9),.i (R+10)]
def Gc (R a b:Int):List Lo:=[F9 (R+5) (R+6) a b,F3 11 (R+6) (R+8) (R+6) (R+7) R,F3 11 (R+6) (R+9) (R+6) (R+3) R,Fg 3 (R+5) (R+5) (R+8),Fg 3 (R+3) (R+5) (R+9)]
def Hi (t:Pc)(k R:Int):List Lo:=[Fq (R+7) t (-1) k,F3 11 (R+7) (R+8) (R+7) (R+3) R]
def Ha (d times:Int)(b:Fr Lo):Fr Lo:=if times<1 then .nil else .loop (Lk d times) b O6 .nil
def Oc (d times:Int)(b:Fr Lo):(Ha d times b).flat=if times<1 then [] else Lk d times::(b.flat++[O6]):=by
 unfold Ha;split<;>rfl
def Mz (a t:Pc)(R j:Int):List Lo:=[Fq (R+4) a j 0,Fq (R+7) t j 0]++(Gc R (R+4) (R+2)++[Fx t j 0 (R+6)])
def L8 (a b t:Pc)(k R D i:Int):Fr Lo:=(Fl [Fq (R+2) b i 0,cK (R+3) 0]).cat ((Ha D k (Fl (Mz a t R D))).cat (Fl (Hi t k R++[Fx t (-1) k (R+7),Fx t (-1) (k+1) (R+8)])))
def Nc (n t:Pc)(R j:Int):List Lo:=[Fq (R+4) n j 1,Fq (R+7) t j 1]++(Gc R (R+10) (R+4)++[Fx t j 0 (R+6)])
def Mj (n t:Pc)(k R D:Int):Fr Lo:=(Fl ([Fq (R+7) t (-1) 0,F9 (R+5) (R+10) (R+7) (R+1),Fq (R+4) n (-1) 0,cK (R+3) 0]++Gc R (R+10) (R+4))).cat
 ((Ha D (k - 1) (Fl (Nc n t R D))).cat (Fl (Hi t k R++[Fx t (-1) (k - 1) (R+7),Fq (R+7) t (-1) (k+1),Fg 3 (R+7) (R+7) (R+8),Fx t (-1) k (R+7)])))
def Mr (n t:Pc)(R j:Int):List Lo:=[Fq (R+7) t j 0,Fq (R+4) n j 0,F3 12 (R+6) (R+8) (R+7) (R+4) (R+8)]
def Oq (n t:Pc)(k R D:Int)(x:List Lo):Fr Lo:=(Fl [cK (R+8) 0]).cat (Ha D k (Fl (Mr n t R D++x)))
def Q8 (d n t:Pc)(k R D:Int):Fr Lo:=(Oq n t k R D []).cat ((Fl [Fq (R+7) t (-1) k,F3 12 (R+6) (R+10) (R+7) R (R+8)]).cat (Oq n t k R D [Gg (R+6) (R+10) (R+7) (R+6),Fx d D 0 (R+6)]))
def Ky (p:Pc)(a D:Int):Fr Lo:=Ha D p.size (Fl [Fx p D 0 a])
def Qd (d a b n t:Pc)(k R D:Int):Fr Lo:=(Fl ([cK R 0,Fq (R+10) n (-1) 0]++M8 (R+10) (R+1))).cat ((Ky t R D).cat ((Ha D k ((L8 a b t k R (D+1) D).cat (Mj n t k R (D+1)))).cat (Q8 d n t k R D)))
end Go.Sv
end
namespace Go.Sv
def vl (f:Nat→UInt64):Nat→Nat
 |0=>0
 |n+1=>vl f n+(f n).toNat*18446744073709551616^n
def Qe (f:Nat→UInt64):∀n,vl f n<18446744073709551616^n
 |0=>by simp[vl]
 |n+1=>by
  have h:=Qe f n;have a:(f n).toNat+1≤18446744073709551616:=(f n).toNat_lt;have d:=At (18446744073709551616^n) a;rw[Bb,Cn] at d;rw[vl,Bg,B2 (18446744073709551616^n)];omega
def Om {f g:Nat→UInt64}:∀{n:Nat},(∀i,i<n→f i=g i)→vl f n=vl g n
 |0,_=>rfl
 |n+1,h=>by rw[vl,vl,Om fun i hi=>h i (by omega),h n (by omega)]
def zop (f:Nat→UInt64):∀n,vl f (n+1)=(f 0).toNat+18446744073709551616*vl (fun i=>f (i+1)) n
 |0=>by simp[vl]
 |n+1=>by
  rw[vl,zop f n,vl,Bg]
  grind
structure Pn where
 b:Nat
 a:Nat
 k:Nat
def Pn.p (p:Pn):Pc:=⟨p.b,p.a,p.k⟩
def pl (m:Nat→Nat→UInt64)(p:Pn)(i:Nat):UInt64:=m p.b (p.a+i)
def Dj (p q:Pn):Prop:=p.b≠q.b∨p.a+p.k≤q.a∨q.a+q.k≤p.a
def F5 (p:Pn)(m a:Nat→Nat→UInt64):Prop:=∀x y,¬(x=p.b∧p.a≤y∧y<p.a+p.k)→a x y=m x y
def F5.trans {p:Pn}{m m' aa:Nat→Nat→UInt64}(h:F5 p m m')(k:F5 p m' aa):F5 p m aa:=fun x y hn=>(k x y hn).trans (h x y hn)
def F5.pl {p q:Pn}{m m':Nat→Nat→UInt64}(h:F5 p m m')(d:Dj p q){i:Nat}(hi:i<q.k):pl m' q i=pl m q i :=
 h _ _ fun ⟨h1,h2,h3⟩=>by
  rcases d with d|d|d
  ·exact d h1.symm
  ·omega
  ·omega
def F5.vl {p q:Pn}{m m':Nat→Nat→UInt64}(h:F5 p m m')(d:Dj p q){n:Nat}(hn:n≤q.k):vl (Go.Sv.pl m' q) n=vl (Go.Sv.pl m q) n:=Om fun _ hi=>h.pl d (by omega)
def Pd {p:Pn}{s:Fs}{i:Nat}{v:UInt64}(h:i<p.k):F5 p s.m (s.sto p.b (p.a+i) v).m:=fun x y a=>by
 rw[Rt,Ab];rintro⟨rfl,rfl⟩;exact a ⟨rfl,by omega,by omega⟩
def Jo (p:Pn)(s:Fs)(i j:Nat)(v:UInt64):pl (s.sto p.b (p.a+i) v).m p j=if j=i then v else pl s.m p j:=by
 unfold pl;rw[Rt];by_cases h:j=i
 ·subst h;simp
 ·rw[Ab (by omega),Ab h]
def S4 {j:Nat}(h:j<18446744073709551616):(UInt64.ofNat j).toNat=j:=by simp;omega
def Wt {p:Pn}{off:Nat}{x:UInt64}(h:p.a+off+x.toNat<18446744073709551616):(iU (p.p.at_+(off:Int))+x).toNat=p.a+off+x.toNat:=by
 have:p.p.at_+(off:Int)=((p.a+off:Nat):Int):=by simp[Pn.p]
 rw[this,Bs,Ol (by omega),Bd (by simpa using h)]
def Rj {p:Pn}{off:Nat}(h:p.a+off<18446744073709551616):(iU (p.p.at_+(off:Int))).toNat=p.a+off:=by
 have:p.p.at_+(off:Int)=((p.a+off:Nat):Int):=by simp[Pn.p]
 rw[this,Ol h]
section ls
variable {sz : Nat → Nat} {s : Fs} {p : Pn}
def Qj {d i off:Nat}(h:p.a+off+(s.r i).toNat<sz p.b)(a:sz p.b≤65536):I3 sz (Fq d p.p i off) s=some (s.put d (pl s.m p (off+(s.r i).toNat))):=by
 rw[vk (b:=p.b) (n:=p.a+off+(s.r i).toNat) rfl (Wt (by omega)) h];unfold pl;rw[Cu]
def xe {d off:Nat}(h:p.a+off<sz p.b)(a:sz p.b≤65536):I3 sz (Fq d p.p (-1) off) s=some (s.put d (pl s.m p off)):=by
 rw[gh (b:=p.b) (n:=p.a+off) rfl (Rj (by omega)) h];rfl
def Wj {v i off:Nat}(h:p.a+off+(s.r i).toNat<sz p.b)(a:sz p.b≤65536):I3 sz (Fx p.p i off v) s=some (s.sto p.b (p.a+(off+(s.r i).toNat)) (s.r v)):=by
 rw[tz (b:=p.b) (n:=p.a+off+(s.r i).toNat) rfl (Wt (by omega)) h,Cu]
def qw {v off:Nat}(h:p.a+off<sz p.b)(a:sz p.b≤65536):I3 sz (Fx p.p (-1) off v) s=some (s.sto p.b (p.a+off) (s.r v)):=by
 rw[lh (b:=p.b) (n:=p.a+off) rfl (Rj (by omega)) h]
end ls
end Go.Sv
namespace Go.Sv
def zej (b:Bool):(Gj b).toNat=b.toNat:=by cases b<;>rfl
def Wn (b:Bool):decide (Gj b%2=1)=b:=by cases b<;>decide
def jt {x y w m:UInt64}{hi lo p q f g:UInt64}{a d:Bool}(l:hi=L9 x y)(o:lo=x*y)(r:F0 lo w false=(p,a))(s:F0 p m false=(q,d))(z:f=hi+Gj a)(A:g=f+Gj d) :
  q.toNat+18446744073709551616*g.toNat=x.toNat*y.toNat+w.toNat+m.toNat:=by
 have B:=zof x y;have h:=pk lo w false;have j:=pk p m false;rw[r] at h;rw[s] at j;subst l o z A;simp only[Bool.toNat_false,Cw] at h j;have C:x.toNat*y.toNat≤18446744073709551615*18446744073709551615:=Cb (by have:=x.toNat_lt;omega) (by have:=y.toNat_lt;omega);have D:=w.toNat_lt;have E:=m.toNat_lt;have F:=q.toNat_lt;have d1:a.toNat≤1:=by cases a<;>decide
 have d2:d.toNat≤1:=by cases d<;>decide
 have f1:((L9 x y)+Gj a).toNat=(L9 x y).toNat+a.toNat:=by
  rw[Bs,zej,Bd];omega
 have f2:((L9 x y)+Gj a+Gj d).toNat=(L9 x y).toNat+a.toNat+d.toNat:=by
  rw[Bs,f1,zej,Bd];omega
 rw[f2];omega
section mu
variable {sz : Nat → Nat}
def J9 (R z:Nat):Prop:=R+3≤z∧z≤R+9
def zzr {s:Fs}{R a b:Nat}(f:s.r R=0):Tx sz (Fl (Gc R a b)) s fun d=>d.m=s.m∧(d.r (R+6)).toNat+18446744073709551616*(d.r (R+3)).toNat=(s.r a).toNat*(s.r b).toNat+(s.r (R+7)).toNat+(s.r (R+3)).toNat∧∀z,(¬J9 R z∨z=R+4∨z=R+7)→d.r z=s.r z:=by
 have e:Gc (R:Int) a b=[F9 ((R+5:Nat):Int) ((R+6:Nat):Int) (a:Nat) (b:Nat),F3 11 ((R+6:Nat):Int) ((R+8:Nat):Int) ((R+6:Nat):Int) ((R+7:Nat):Int) (R:Nat),F3 11 ((R+6:Nat):Int) ((R+9:Nat):Int) ((R+6:Nat):Int) ((R+3:Nat):Int) (R:Nat),Fg 3 ((R+5:Nat):Int) ((R+5:Nat):Int) ((R+8:Nat):Int),Fg 3 ((R+3:Nat):Int) ((R+5:Nat):Int) ((R+9:Nat):Int)]:=rfl;rw[e];unfold J9 at *;refine .op zj4 (.op zsm (.op zsm (.op sr (.op sr (.nil ⟨rfl,?_,fun z p=>?_⟩)))))
 ·simp[Fh,f,-UInt64.toNat_add];exact jt (x:=s.r a) (y:=s.r b) (w:=s.r (R+7)) (m:=s.r (R+3)) rfl rfl rfl rfl rfl rfl
 ·have g:¬z=R+5:=by omega
  have h:¬z=R+6:=by omega
  have j:¬z=R+8:=by omega
  have l:¬z=R+9:=by omega
  have o:¬z=R+3:=by omega
  simp[Fh,o,g,h,j,l]
def Jl (f:Nat→UInt64)(n:Nat):vl f (n+1)=vl f n+(f n).toNat*18446744073709551616^n:=rfl
def Tx.lp {s:Fs}{d n:Nat}{b:Fr Lo}{Q:Fs→Prop}(I:Nat→Fs→Prop)(h0:I 0 s)(hn:n<18446744073709551616)(h1:∀i s,i<n→I i s→Tx sz b (s.put d (UInt64.ofNat i)) (I (i+1)))(h2:∀s',I n s'→Q s'):Tx sz (Ha (d:Nat) (n:Nat) b) s Q:=by
 unfold Ha;have e:(Lk (d:Nat) (n:Nat)).imm.toNat=n:=Ol hn;split
 ·have:n=0:=by omega
  subst this;exact .nil (h2 _ h0)
 ·refine .loop I h0 (fun i s hi hI=>?_) fun s' hI=>.nil (h2 _ ?_)
  ·rw[e] at hi;exact h1 i s hi hI
  ·rw[e] at hI;exact hI
def cu (R D:Nat)(s a:Fs):Prop:=∀z,¬J9 R z→z≠D→a.r z=s.r z
def RgA (R D:Nat)(s a:Fs):Prop:=∀z,¬(R+2≤z∧z≤R+10)→z≠D→a.r z=s.r z
def Pn.in_ (sz:Nat→Nat)(p:Pn):Prop:=p.a+p.k≤sz p.b∧sz p.b≤65536
def zr7 {s:Fs}{R D j:Nat}{a t:Pn}(w:s.r R=0)(J:D<R)(m:(s.r D).toNat=j)(A:a.in_ sz)(B:t.in_ sz)(K:j<a.k)(L:j<t.k) :
  Tx sz (Fl (Mz a.p t.p R D)) s fun g=>∃q:UInt64,(∀i,pl g.m t i=if i=j then q else pl s.m t i)∧F5 t s.m g.m∧cu R D s g ∧
   q.toNat+18446744073709551616*(g.r (R+3)).toNat=(pl s.m a j).toNat*(s.r (R+2)).toNat+(pl s.m t j).toNat+(s.r (R+3)).toNat:=by
 obtain⟨C,l⟩:=A;obtain⟨E,f⟩:=B;have e:Mz a.p t.p R D=[Fq ((R+4:Nat):Int) a.p (D:Nat) ((0:Nat):Int),Fq ((R+7:Nat):Int) t.p (D:Nat) ((0:Nat):Int)]++(Gc R ((R+4:Nat):Int) ((R+2:Nat):Int)++[Fx t.p (D:Nat) ((0:Nat):Int) ((R+6:Nat):Int)]):=rfl;rw[e,frL_app,frL_app];have dn:∀n,n<11→¬D=R+n:=fun n h=>by omega
 refine .op (Qj (by omega) l) (.op (Qj (by simp only[Fh,Ab (dn 4 (by omega))];omega) f) ((zzr (by simp[Fh,w])).cat fun s1 ⟨m1,v1,o⟩=>?_));have d:s1.r D=s.r D:=by rw[o _ (.inl (by unfold J9;omega))];simp[Fh,dn]
 refine .op (Wj (by rw[d];omega) f) (.nil ⟨s1.r (R+6),fun i=>?_,?_,fun z r F=>?_,?_⟩)
 ·rw[Jo,d,m,m1];simp[Ho]
 ·have:=Pd (p:=t) (s:=s1) (i:=0+(s1.r D).toNat) (v:=s1.r (R+6)) (by rw[d];omega);intro x y G;rw[this x y G,m1];rfl
 ·rw[K0,o z (.inl r)];unfold J9 at r;have H:¬z=R+4:=by omega
  have I:¬z=R+7:=by omega
  simp[Fh,H,I]
 ·rw[K0];simpa [Fh,Ho,dn,m] using v1
def Xf {W P v r T A y q r' x t:Nat}(h:v+P*r=T+A*y)(k:q+W*r'=x*y+t+r):v+q*P+P*W*r'=T+t*P+(A+x*P)*y:=by
 have a:P*(q+W*r')=P*(x*y+t+r):=by rw[k]
 grind
def ga {W P v r T A y p c t:Nat}(h:v+P*r=T+A*y)(k:p+W*c=t+r):v+p*P+c*(P*W)=T+t*P+A*y:=by
 have a:P*(p+W*c)=P*(t+r):=by rw[k]
 grind
def Zm {s:Fs}{R k:Nat}{t:Pn}(d:s.r R=0)(f:t.in_ sz)(hk:k+2≤t.k)(r:Fr Lo)(Q:Fs→Prop)
  (h:∀(s1:Fs) (c:Bool),s1.m=s.m→s1.r (R+8)=Gj c→(s1.r (R+7)).toNat+18446744073709551616*c.toNat=(pl s.m t k).toNat+(s.r (R+3)).toNat→(∀z,z≠R+7→z≠R+8→s1.r z=s.r z)→Tx sz r s1 Q) :
  Tx sz ((Fl (Hi t.p k R)).cat r) s Q:=by
 obtain⟨g,a⟩:=f;have e:Hi t.p k R=[Fq ((R+7:Nat):Int) t.p (-1) (k:Nat),F3 11 ((R+7:Nat):Int) ((R+8:Nat):Int) ((R+7:Nat):Int) ((R+3:Nat):Int) (R:Nat)]:=rfl;rw[e];refine .op (xe (by omega) a) (.op zsm ?_);refine h _ (F0 (pl s.m t k) (s.r (R+3)) false).2 rfl ?_ ?_ fun z j l=>?_
 ·simp[Fh,d]
 ·have:=pk (pl s.m t k) (s.r (R+3)) false;simpa [Fh,d] using this
 ·simp[Fh,j,l]
def V2 {s:Fs}{R D i k:Nat}{a b t:Pn}(K:s.r R=0)(L:D<R)(hi:(s.r i).toNat<b.k)(M:b.in_ sz)(N:a.in_ sz)(C:t.in_ sz)(hk:k≤a.k)(x:k+2≤t.k)(O:Dj t a)(hW:sz t.b≤65536) :
  Tx sz (L8 a.p b.p t.p k R D i) s fun o=>RgA R D s o∧F5 t s.m o.m∧vl (pl o.m t) (k+2)=vl (pl s.m t) (k+1)+vl (pl s.m a) k*(pl s.m b (s.r i).toNat).toNat∧(pl o.m t (k+1)).toNat≤1:=by
 have e:L8 a.p b.p t.p k R D i=(Fl [Fq ((R+2:Nat):Int) b.p (i:Nat) ((0:Nat):Int),cK ((R+3:Nat):Int) 0]).cat ((Ha (D:Nat) (k:Nat) (Fl (Mz a.p t.p R D))).cat ((Fl (Hi t.p k R)).cat (Fl [Fx t.p (-1) (k:Nat) ((R+7:Nat):Int),Fx t.p (-1) ((k+1:Nat):Int) ((R+8:Nat):Int)]))):=by
  rw[←frL_app];rfl
 rw[e];obtain⟨P,y⟩:=M;have l:=C;obtain⟨Q,m⟩:=C;have dn:∀n,n<11→¬D=R+n:=fun n h=>by omega
 refine .op (Qj (by omega) y) (.op Oh ?_);rw[show ∀g:Fr Lo,Fr.cat (Fl []) g=g from fun _=>rfl];generalize d:(Fs.put (s.put (R+2) (pl s.m b (0+(s.r i).toNat))) (R+3) 0)=s0;have E:s0.m=s.m:=by rw[←d];rfl
 have S:s0.r (R+2)=pl s.m b (s.r i).toNat:=by rw[←d];simp[Fh]
 have T:s0.r (R+3)=0:=by rw[←d];simp[Fh]
 have F:∀z,z≠R+2→z≠R+3→s0.r z=s.r z:=fun z U V=>by rw[←d];simp[Fh,U,V]
 have G:s0.r R=0:=by rw[F R (by omega) (by omega),K]
 refine .cat (R:=fun s1=>cu R D s0 s1∧F5 t s.m s1.m∧(∀i,k≤i→pl s1.m t i=pl s.m t i)∧vl (pl s1.m t) k+18446744073709551616^k*(s1.r (R+3)).toNat=vl (pl s.m t) k+vl (pl s.m a) k*(s0.r (R+2)).toNat) ?_ fun s1 ⟨g1,p,w,v1⟩=>?_
 ·refine .lp (fun j s1=>cu R D s0 s1∧F5 t s.m s1.m∧(∀i,j≤i→pl s1.m t i=pl s.m t i)∧vl (pl s1.m t) j+18446744073709551616^j*(s1.r (R+3)).toNat=vl (pl s.m t) j+vl (pl s.m a) j*(s0.r (R+2)).toNat) ⟨fun _ _ _=>rfl,fun _ _ _=>by rw[E],fun _ _=>by rw[E],by simp[vl,T]⟩ (by omega) (fun j s1 hj ⟨g1,p,w,v1⟩=>?_) fun _ h=>h
  have f:∀z,¬J9 R z→z≠D→(s1.put D (UInt64.ofNat j)).r z=s0.r z:=fun z a b=>by rw[Fh,Ab b,g1 z a b]
  have W:(s1.put D (UInt64.ofNat j)).r (R+3)=s1.r (R+3):=by rw[Fh,Ab (by omega)]
  refine (zr7 (j:=j) (by rw[f _ (by unfold J9;omega) (by omega),G]) L (by simp[Fh];omega) N l (by omega) (by omega)).mono fun s2 ⟨q,A,X,Y,H⟩=>⟨fun z a b=>(Y z a b).trans (f z a b),p.trans X,fun i hi=>?_,?_⟩
  ·rw[A,Ab (by omega)];exact w i (by omega)
  ·rw[f _ (by unfold J9;omega) (by omega),Ho,p.pl O (by omega),w j (by omega),W] at H;rw[Jl,Jl,Jl,A,Ag rfl,Bg,Om (g:=pl s1.m t) fun i hi=>by rw[A,Ab (by omega)];rfl];exact Xf v1 H
 ·refine Zm (by rw[g1 _ (by unfold J9;omega) (by omega),G]) l x _ _ fun s2 c I J v2 Z=>?_
  refine .op (qw (by omega) m) (.op (qw (by omega) m) (.nil ⟨fun z hz B=>?_,?_,?_,?_⟩))
  ·rw[K0,K0,Z z (by omega) (by omega),g1 z (by unfold J9;omega) B,F z (by omega) (by omega)]
  ·exact p.trans (I ▸ (Pd (by omega)).trans (Pd (by omega)))
  ·rw[Jl,Jl,Jl,Jo,Jo,Jo,Ag rfl,Ab (by omega),Ag rfl,K0,J,zej,Om (g:=pl s1.m t) fun i hi=>by rw[Jo,Ab (by omega),Jo,Ab (by omega),I],Bg,←S];rw[w k (by omega)] at v2;exact ga v1 v2
  ·rw[Jo,Ag rfl,K0,J,zej];cases c<;>decide
def zw4 {s:Fs}{R D j:Nat}{n t:Pn}(w:s.r R=0)(H:D<R)(m:(s.r D).toNat=j)(g:n.in_ sz)(A:t.in_ sz)(I:j+1<n.k)(J:j+1<t.k) :
  Tx sz (Fl (Nc n.p t.p R D)) s fun f=>∃q:UInt64,(∀i,pl f.m t i=if i=j then q else pl s.m t i)∧F5 t s.m f.m∧cu R D s f ∧
   q.toNat+18446744073709551616*(f.r (R+3)).toNat=(s.r (R+10)).toNat*(pl s.m n (j+1)).toNat+(pl s.m t (j+1)).toNat+(s.r (R+3)).toNat:=by
 obtain⟨B,l⟩:=g;obtain⟨C,d⟩:=A;have e:Nc n.p t.p R D=[Fq ((R+4:Nat):Int) n.p (D:Nat) ((1:Nat):Int),Fq ((R+7:Nat):Int) t.p (D:Nat) ((1:Nat):Int)]++(Gc R ((R+10:Nat):Int) ((R+4:Nat):Int)++[Fx t.p (D:Nat) ((0:Nat):Int) ((R+6:Nat):Int)]):=rfl;rw[e,frL_app,frL_app];have dn:∀n,n<11→¬D=R+n:=fun n h=>by omega
 refine .op (Qj (by omega) l) (.op (Qj (by simp only[Fh,Ab (dn 4 (by omega))];omega) d) ((zzr (by simp[Fh,w])).cat fun s1 ⟨m1,v1,o⟩=>?_));have a:s1.r D=s.r D:=by rw[o _ (.inl (by unfold J9;omega))];simp[Fh,dn]
 refine .op (Wj (by rw[a];omega) d) (.nil ⟨s1.r (R+6),fun i=>?_,?_,fun z r E=>?_,?_⟩)
 ·rw[Jo,a,m,m1];simp[Ho]
 ·have:=Pd (p:=t) (s:=s1) (i:=0+(s1.r D).toNat) (v:=s1.r (R+6)) (by rw[a];omega);intro x y g;rw[this x y g,m1];rfl
 ·rw[K0,o z (.inl r)];unfold J9 at r;have F:¬z=R+4:=by omega
  have G:¬z=R+7:=by omega
  simp[Fh,F,G]
 ·rw[K0];simpa [Fh,Ho,dn,m,Nat.add_comm 1] using v1
def zyz {W P v r T N m q r' x t:Nat}(h:W*v+P*W*r=T+m*N)(k:q+W*r'=m*x+t+r):W*(v+q*P)+P*W*W*r'=T+t*(P*W)+m*(N+x*(P*W)):=by
 have a:P*W*(q+W*r')=P*W*(m*x+t+r):=by rw[k]
 grind
def V8 {W P v r T N m p c t u:Nat}(h:W*v+P*W*r=T+m*N)(k:p+W*c=t+r):W*(v+p*P+(u+c)*(P*W))=T+t*(P*W)+u*(P*W*W)+m*N:=by
 have a:P*W*(p+W*c)=P*W*(t+r):=by rw[k]
 grind
def eu {t i n q h:UInt64}(hi:i*n+1=0)(e:q.toNat+18446744073709551616*h.toNat=(t*i).toNat*n.toNat+t.toNat):q.toNat=0:=by
 have a:(t*i*n+t).toNat=0:=by
  rw[show t*i*n+t=t*(i*n+1) by grind,hi];simp
 rw[Bs,Ei] at a;have:=q.toNat_lt;omega
def im {s:Fs}{R D k:Nat}{n t:Pn}(J:s.r R=0)(Q:D<R)(hinv:s.r (R+1)*pl s.m n 0+1=0)(K:n.in_ sz)(L:t.in_ sz)(hk:k+1≤n.k)(S:k+3≤t.k)(T:Dj t n)(hc:(pl s.m t (k+2)).toNat≤1) :
  Tx sz (Mj n.p t.p (k+1:Nat) R D) s fun y=>RgA R D s y∧F5 t s.m y.m∧pl y.m t (k+2)=pl s.m t (k+2)∧∃m:UInt64,18446744073709551616*vl (pl y.m t) (k+2)=vl (pl s.m t) (k+3)+m.toNat*vl (pl s.m n) (k+1):=by
 have C:((k+1:Nat):Int) - 1=(k:Nat):=by omega
 have e:Mj n.p t.p (k+1:Nat) R D=(Fl ([Fq ((R+7:Nat):Int) t.p (-1) ((0:Nat):Int),F9 ((R+5:Nat):Int) ((R+10:Nat):Int) ((R+7:Nat):Int) ((R+1:Nat):Int),Fq ((R+4:Nat):Int) n.p (-1) ((0:Nat):Int),cK ((R+3:Nat):Int) 0]++Gc R ((R+10:Nat):Int) ((R+4:Nat):Int))).cat
   ((Ha (D:Nat) (k:Nat) (Fl (Nc n.p t.p R D))).cat ((Fl (Hi t.p (k+1:Nat) R)).cat (Fl [Fx t.p (-1) (k:Nat) ((R+7:Nat):Int),Fq ((R+7:Nat):Int) t.p (-1) ((k+2:Nat):Int),Fg 3 ((R+7:Nat):Int) ((R+7:Nat):Int) ((R+8:Nat):Int),Fx t.p (-1) ((k+1:Nat):Int) ((R+7:Nat):Int)]))):=by
  rw[←frL_app,←C];rfl
 rw[e];have E:=K;have w:=L;obtain⟨U,d⟩:=K;obtain⟨V,f⟩:=L;have dn:∀n,n<11→¬D=R+n:=fun n h=>by omega
 rw[frL_app];refine Tx.cat (R:=fun s1=>(∀z,¬J9 R z→z≠R+10→s1.r z=s.r z)∧s1.m=s.m∧18446744073709551616*(s1.r (R+3)).toNat=(s1.r (R+10)).toNat*(pl s.m n 0).toNat+(pl s.m t 0).toNat) ?_ fun s1 ⟨g1,m1,v1⟩=>?_
 ·refine .op (xe (by omega) f) (.op zj4 (.op (xe (by omega) d) (.op Oh ((zzr (by simp[Fh,J])).mono fun s1 ⟨m1,v1,M⟩=>⟨fun z F l=>?_,?_,?_⟩))))
  ·rw[M z (.inl F)];unfold J9 at F;have W:¬z=R+3:=by omega
   have X:¬z=R+4:=by omega
   have Y:¬z=R+5:=by omega
   have G:¬z=R+7:=by omega
   simp[Fh,W,X,Y,G,l]
  ·rw[m1];rfl
  ·have x:=M (R+10) (.inl (by unfold J9;omega));simp[Fh,Ho] at v1 x;rw[x];have:=eu (t:=pl s.m t 0) hinv (by simpa using v1);rw[Ei,show (2:Nat)^64=18446744073709551616 from rfl];rw[this,Be] at v1;exact v1
 have N:s1.r R=0:=by rw[g1 R (by unfold J9;omega) (by omega),J]
 refine .cat (R:=fun s2=>cu R D s1 s2∧F5 t s.m s2.m∧(∀i,k≤i→pl s2.m t i=pl s.m t i)∧18446744073709551616*vl (pl s2.m t) k+18446744073709551616^k*18446744073709551616*(s2.r (R+3)).toNat=vl (pl s.m t) (k+1)+(s1.r (R+10)).toNat*vl (pl s.m n) (k+1)) ?_ fun s2 ⟨g2,A,o,v2⟩=>?_
 ·refine .lp (fun j s2=>cu R D s1 s2∧F5 t s.m s2.m∧(∀i,j≤i→pl s2.m t i=pl s.m t i)∧18446744073709551616*vl (pl s2.m t) j+18446744073709551616^j*18446744073709551616*(s2.r (R+3)).toNat=vl (pl s.m t) (j+1)+(s1.r (R+10)).toNat*vl (pl s.m n) (j+1)) ⟨fun _ _ _=>rfl,fun _ _ _=>by rw[m1],fun _ _=>by rw[m1],by simp[vl];omega⟩ (by omega) (fun j s2 hj ⟨g2,A,o,v2⟩=>?_) fun _ h=>h
  have d:∀z,¬J9 R z→z≠D→(s2.put D (UInt64.ofNat j)).r z=s1.r z:=fun z a b=>by rw[Fh,Ab b,g2 z a b]
  have Z:(s2.put D (UInt64.ofNat j)).r (R+3)=s2.r (R+3):=by rw[Fh,Ab (by omega)]
  refine (zw4 (j:=j) (by rw[d _ (by unfold J9;omega) (by omega),N]) Q (by simp[Fh];omega) E w (by omega) (by omega)).mono fun s3 ⟨q,H,e2,e3,O⟩=>⟨fun z a b=>(e3 z a b).trans (d z a b),A.trans e2,fun i hi=>?_,?_⟩
  ·rw[H,Ab (by omega)];exact o i (by omega)
  ·rw[d _ (by unfold J9;omega) (by omega),Ho,A.pl T (by omega),o (j+1) (by omega),Z] at O;rw[Jl,Jl _ (j+1),Jl _ (j+1),H,Ag rfl,Bg,Om (g:=pl s2.m t) fun i hi=>by rw[H,Ab (by omega)];rfl];exact zyz v2 O
 ·refine Zm (by rw[g2 _ (by unfold J9;omega) (by omega),N]) w (by omega) _ _ fun s3 c B c3 P r3=>?_
  refine .op (qw (by omega) f) (.op (xe (by omega) f) (.op sr (.op (qw (by omega) f) (.nil ⟨fun z F l=>?_,?_,?_,s1.r (R+10),?_⟩))))
  ·have G:¬z=R+7:=by omega
   simp only[K0,Fh,Ab G];rw[r3 z (by omega) (by omega),g2 z (by unfold J9;omega) l,g1 z (by unfold J9;omega) (by omega)]
  ·exact A.trans (B ▸ (Pd (by omega)).trans (Pd (p:=t) (by omega)))
  ·rw[Jo,Ab (by omega),Ho,Ho,Jo,Ab (by omega),B,o (k+2) (by omega)]
  ·rw[o (k+1) (by omega)] at P;have I:((pl s.m t (k+2))+Gj c).toNat=(pl s.m t (k+2)).toNat+c.toNat:=by
    rw[Bs,zej,Bd];have:c.toNat≤1:=by cases c<;>decide
    omega
   rw[Jl _ (k+2),Jl _ (k+1),Jl _ (k+1),Jl _ k,Om (g:=pl s2.m t) (n:=k) fun i hi=>by rw[Jo,Ab (by omega),Ho,Ho,Jo,Ab (by omega),B]];have hu:=o (k+2) (by omega);simp[Fh,Ho,K0,Jo,c3,-UInt64.toNat_add,B];rw[hu,I,Bg,Bg];exact V8 v2 P
def yx {W P v n t c q x y b:Nat}(h:v+n=t+P*c)(k:q+x+c=y+W*b):v+q*P+(n+x*P)=t+y*P+P*W*b:=by
 have a:P*(q+x+c)=P*(y+W*b):=by rw[k]
 grind
def zou {s:Fs}{R D j:Nat}{n t:Pn}{c:Bool}(B:D<R)(a:(s.r D).toNat=j)(g:s.r (R+8)=Gj c)(l:n.in_ sz)(m:t.in_ sz)(C:j<n.k)(E:j<t.k)(x:List Lo)(Q:Fs→Prop)
  (h:∀(s1:Fs) (b:Bool),s1.m=s.m→s1.r (R+8)=Gj b→s1.r (R+7)=pl s.m t j→(s1.r (R+6)).toNat+(pl s.m n j).toNat+c.toNat=(pl s.m t j).toNat+18446744073709551616*b.toNat→(∀z,¬J9 R z→s1.r z=s.r z)→Tx sz (Fl x) s1 Q) :
  Tx sz (Fl (Mr n.p t.p R D++x)) s Q:=by
 obtain⟨o,d⟩:=l;obtain⟨p,f⟩:=m;have e:Mr n.p t.p R D++x=Fq ((R+7:Nat):Int) t.p (D:Nat) ((0:Nat):Int)::Fq ((R+4:Nat):Int) n.p (D:Nat) ((0:Nat):Int)::F3 12 ((R+6:Nat):Int) ((R+8:Nat):Int) ((R+7:Nat):Int) ((R+4:Nat):Int) ((R+8:Nat):Int)::x:=rfl;rw[e];have dn:∀n,n<11→¬D=R+n:=fun n h=>by omega
 refine .op (Qj (by omega) f) (.op (Qj (by simp only[Fh,Ab (dn 7 (by omega))];omega) d) (.op zio ?_));have hv:=zci (pl s.m t j) (pl s.m n j) c;refine h _ (Gu (pl s.m t j) (pl s.m n j) c).2 rfl ?_ ?_ ?_ fun z q=>?_
 ·simp[Fh,Ho,dn,a,g,Wn]
 ·simp[Fh,Ho,dn,a]
 ·simpa [Fh,Ho,dn,a,g,Wn] using hv
 ·unfold J9 at q;have r:¬z=R+4:=by omega
  have w:¬z=R+6:=by omega
  have y:¬z=R+7:=by omega
  have A:¬z=R+8:=by omega
  simp[Fh,r,w,y,A]
def ly {s:Fs}{R D k:Nat}{n t:Pn}(l:D<R)(f:n.in_ sz)(m:t.in_ sz)(hk:k≤n.k)(o:k≤t.k) :
  Tx sz (Oq n.p t.p k R D []) s fun g=>cu R D s g∧g.m=s.m∧∃(c:Bool) (v:Nat),g.r (R+8)=Gj c∧v<18446744073709551616^k∧v+vl (pl s.m n) k=vl (pl s.m t) k+18446744073709551616^k*c.toNat:=by
 have p:k<18446744073709551616:=by have:=f.1;have:=f.2;omega
 have e:Oq n.p t.p k R D []=(Fl [cK ((R+8:Nat):Int) 0]).cat (Ha (D:Nat) (k:Nat) (Fl (Mr n.p t.p R D++[]))):=rfl;rw[e];refine .op Oh ?_;refine .lp (fun j s1=>cu R D s s1∧s1.m=s.m∧∃(c:Bool) (v:Nat),s1.r (R+8)=Gj c∧v<18446744073709551616^j∧v+vl (pl s.m n) j=vl (pl s.m t) j+18446744073709551616^j*c.toNat) ⟨fun z d _=>?_,rfl,false,0,by simp[Fh,Gj],by simp,by simp[vl]⟩ p (fun j s1 A ⟨g1,m1,c,v,q,B,v1⟩=>?_) fun _ h=>h
 ·unfold J9 at d;rw[Fh,Ab (by omega)]
 ·refine zou (j:=j) (c:=c) l (by simp[Fh];omega) (by rw[Fh,Ab (by omega),q]) f m (by omega) (by omega) _ _ fun s2 b r w t2 v2 x=>.nil ⟨fun z d a=>?_,by rw[r,Ho,m1],b,v+(s2.r (R+6)).toNat*18446744073709551616^j,w,?_,?_⟩
  ·rw[x z d,Fh,Ab a,g1 z d a]
  ·have:=(s2.r (R+6)).toNat_lt;have y:=At (18446744073709551616^j) (show (s2.r (R+6)).toNat+1≤18446744073709551616 by omega);rw[Bb,Cn] at y;rw[Bg,B2 (18446744073709551616^j)];omega
  ·rw[Ho,m1] at v2;rw[Jl,Jl,Bg];exact yx v1 v2
def tf (p q:Pn):Prop:=Dj p q∨(p.b=q.b∧p.a=q.a)
def tf.sto {d n:Pn}{s:Fs}{v:UInt64}{i j:Nat}(h:tf d n)(hj:j<d.k)(hi:i<n.k)(aa:i≠j):pl (s.sto d.b (d.a+j) v).m n i=pl s.m n i:=by
 rcases h with h|⟨e1,e2⟩
 ·exact (Pd hj).pl h hi
 ·unfold pl;rw[Rt,Ab (by omega)]
def cy {s:Fs}{R D k:Nat}{d n t:Pn}{p:Bool}(F:D<R)(G:s.r (R+10)=Gj p)(q:n.in_ sz)(H:t.in_ sz)(hd:d.in_ sz)(hk:k≤n.k)(I:k≤t.k)(J:k≤d.k)(dn:tf d n)(C:Dj d t) :
  Tx sz (Oq n.p t.p k R D [Gg (R+6) (R+10) (R+7) (R+6),Fx d.p D 0 (R+6)]) s fun w=>cu R D s w∧F5 d s.m w.m∧∃(c:Bool) (v:Nat),v<18446744073709551616^k∧v+vl (pl s.m n) k=vl (pl s.m t) k+18446744073709551616^k*c.toNat∧vl (pl w.m d) k=if p=true then vl (pl s.m t) k else v:=by
 have K:k<18446744073709551616:=by have:=q.1;have:=q.2;omega
 have e:Oq n.p t.p k R D [Gg (R+6) (R+10) (R+7) (R+6),Fx d.p D 0 (R+6)]=(Fl [cK ((R+8:Nat):Int) 0]).cat (Ha (D:Nat) (k:Nat) (Fl (Mr n.p t.p R D++[Gg ((R+6:Nat):Int) ((R+10:Nat):Int) ((R+7:Nat):Int) ((R+6:Nat):Int),Fx d.p (D:Nat) ((0:Nat):Int) ((R+6:Nat):Int)]))):=rfl;rw[e];refine .op Oh ?_;refine .lp (fun j s1=>cu R D s s1∧F5 d s.m s1.m∧∃(c:Bool) (v:Nat),s1.r (R+8)=Gj c∧v<18446744073709551616^j∧v+vl (pl s.m n) j=vl (pl s.m t) j+18446744073709551616^j*c.toNat∧vl (pl s1.m d) j=(if p=true then vl (pl s.m t) j else v)∧∀i,j≤i→i<n.k→pl s1.m n i=pl s.m n i) ⟨fun z f _=>?_,fun _ _ _=>rfl,false,0,by simp[Fh,Gj],by simp,by simp[vl],by simp[vl],fun _ _ _=>rfl⟩ K (fun j s1 T ⟨g1,x,c,v,L,U,v1,d1,E⟩=>?_) fun _ ⟨M,N,c,v,_,y,O,P,_⟩=>⟨M,N,c,v,y,O,P⟩
 ·unfold J9 at f;rw[Fh,Ab (by omega)]
 ·refine zou (j:=j) (c:=c) F (by simp[Fh];omega) (by rw[Fh,Ab (by omega),L]) q H (by omega) (by omega) _ _ fun s2 b m Q t2 v2 A=>?_
  have S:(s2.r D).toNat=j:=by rw[A D (by unfold J9;omega)];simp[Fh];omega
  rw[Ho] at t2 v2 m;rw[E j (Al _) (by omega),x.pl C (by omega)] at v2;rw[x.pl C (by omega)] at t2;have B:s2.r (R+10)=Gj p:=by rw[A _ (by unfold J9;omega),Fh,Ab (by omega),g1 _ (by unfold J9;omega) (by omega),G]
  refine .op zms (.op (Wj (by simp only[Fh];rw[Ab (by omega)];have:=hd.1;omega) hd.2) (.nil ⟨fun z f h=>?_,?_,b,v+(s2.r (R+6)).toNat*18446744073709551616^j,?_,?_,?_,?_,fun i hi l=>?_⟩))
  ·rw[K0,Fh,Ab (by unfold J9 at f;omega),A z f,Fh,Ab h,g1 z f h]
  ·refine x.trans (m ▸ ?_);exact Pd (p:=d) (s:=s2.put _ _) (by rw[Fh,Ab (by omega)];omega)
  ·rw[K0,Fh,Ab (by omega),Q]
  ·have:=(s2.r (R+6)).toNat_lt;have y:=At (18446744073709551616^j) (show (s2.r (R+6)).toNat+1≤18446744073709551616 by omega);rw[Bb,Cn] at y;rw[Bg,B2 (18446744073709551616^j)];omega
  ·rw[Jl,Jl,Bg];exact yx v1 v2
  ·have a:0+((s2.put (R+6) (if s2.r (R+10)%2=1 then s2.r (R+7) else s2.r (R+6))).r D).toNat=j:=by rw[Fh,Ab (by omega)];omega
   rw[Jl,a,Jo,Ag rfl,Om (g:=pl s1.m d) (n:=j) fun i hi=>by rw[Jo,Ab (by omega),Ho,m],d1,Fh,Ag rfl,B,t2];have o:=Wn p;cases p
   ·simp at o;simp[o]
   ·simp at o;simp[o,Jl]
  ·have a:0+((s2.put (R+6) (if s2.r (R+10)%2=1 then s2.r (R+7) else s2.r (R+6))).r D).toNat=j:=by rw[Fh,Ab (by omega)];omega
   rw[a,dn.sto (by omega) l (by omega),Ho,m];exact E i (by omega) l
def Xp {P V N t c b v e:Nat}{W q:Nat}(j:N<P)(l:V+t*P<2*N)(hv:v<P)(a:c≤1)(d:b≤1)(h:v+N=V+P*c)(k:q+c=t+W*b)(m:q<W)(g:e+N=V+P*c):(V+t*P<N↔b=1)∧(b=1→t=0)∧(b=0→e=V+t*P - N):=by
 have f:t≤1:=by
  rcases C7 t 2 with h|h
  ·omega
  ·have:=At P h;omega
 have f:t=0∨t=1:=by omega
 have a:c=0∨c=1:=by omega
 have d:b=0∨b=1:=by omega
 rcases f with rfl|rfl<;>rcases a with rfl|rfl<;>rcases d with rfl|rfl<;>simp at *<;>omega
def lr {s:Fs}{R D k:Nat}{d n t:Pn}(x:s.r R=0)(o:D<R)(q:n.in_ sz)(f:t.in_ sz)(hd:d.in_ sz)(hk:k≤n.k)(y:k+1≤t.k)(g:k≤d.k)(dn:tf d n)(A:Dj d t)(r:vl (pl s.m t) (k+1)<2*vl (pl s.m n) k) :
  Tx sz (Q8 d.p n.p t.p k R D) s fun h=>RgA R D s h∧F5 d s.m h.m∧vl (pl h.m d) k=if vl (pl s.m t) (k+1)<vl (pl s.m n) k then vl (pl s.m t) (k+1) else vl (pl s.m t) (k+1) - vl (pl s.m n) k:=by
 have e:Q8 d.p n.p t.p k R D=(Oq n.p t.p k R D []).cat ((Fl [Fq ((R+7:Nat):Int) t.p (-1) (k:Nat),F3 12 ((R+6:Nat):Int) ((R+10:Nat):Int) ((R+7:Nat):Int) (R:Nat) ((R+8:Nat):Int)]).cat (Oq n.p t.p k R D [Gg (R+6) (R+10) (R+7) (R+6),Fx d.p D 0 (R+6)])):=rfl;rw[e];refine (ly o q f hk (by omega)).cat fun s1 ⟨g1,m1,c,v,B,C,v1⟩=>?_
 have E:=zci (pl s.m t k) 0 c;refine .op (xe (by have:=f.1;omega) f.2) (.op zio ?_);have F:s1.r R=0:=by rw[g1 R (by unfold J9;omega) (by omega),x]
 refine (cy (p:=(Gu (pl s.m t k) 0 c).2) o ?_ q f hd hk (by omega) g dn A).mono fun M ⟨g3,G,c',N,O,j,d3⟩=>⟨fun z P a=>?_,?_,?_⟩
 ·simp[Fh,F,B,Wn,m1]
 ·rw[g3 z (by unfold J9;omega) a];simp only[Fh];rw[Ab (by omega),Ab (by omega),Ab (by omega),g1 z (by unfold J9;omega) a]
 ·rw[←m1];exact G
 ·simp only[Ho,m1] at j d3;rw[Jl] at r ⊢;have H:=Qe (pl s.m n) k;have I:=(Gu (pl s.m t k) 0 c).1.toNat_lt;have l:c.toNat≤1:=by cases c<;>decide
  have m:c'.toNat=c.toNat:=by
   rcases c with _|_<;>rcases c' with _|_<;>simp at *<;>omega
  rw[m] at j;generalize (Gu (pl s.m t k) 0 c).2=b at *;have J:b.toNat≤1:=by cases b<;>decide
  obtain⟨w,K,L⟩:=Xp H r C l J v1 (by simpa using E) I j;rw[d3];cases b
  ·rw[Ab (by simp),Ab (by rw[w];simp),L rfl]
  ·rw[Ag rfl,Ag (by rw[w];rfl),K rfl];simp
def zsv {s:Fs}{D a:Nat}{p:Pn}(m:p.in_ sz)(g:a≠D):Tx sz (Ky p.p a D) s fun f=>(∀z,z≠D→f.r z=s.r z)∧F5 p s.m f.m∧∀i,i<p.k→pl f.m p i=s.r a:=by
 have e:Ky p.p a D=Ha (D:Nat) (p.k:Nat) (Fl [Fx p.p (D:Nat) ((0:Nat):Int) (a:Nat)]):=rfl;rw[e];obtain⟨w,o⟩:=m;refine .lp (fun j s1=>(∀z,z≠D→s1.r z=s.r z)∧F5 p s.m s1.m∧∀i,i<j→pl s1.m p i=s.r a) ⟨fun _ _=>rfl,fun _ _ _=>rfl,fun _ h=>absurd h (by omega)⟩ (by omega) (fun j s1 x ⟨g1,q,v1⟩=>?_) fun _ h=>h
 have d:((s1.put D (UInt64.ofNat j)).r D).toNat=j:=by simp[Fh];omega
 refine .op (Wj (by rw[d];omega) o) (.nil ⟨fun z l=>?_,?_,fun i hi=>?_⟩)
 ·rw[K0,Fh,Ab l,g1 z l]
 ·exact q.trans (Pd (p:=p) (s:=s1.put _ _) (by rw[d];omega))
 ·rw[Jo,d];split
  ·rw[Fh,Ab g,g1 a g]
  ·rw[Ho];exact v1 i (by omega)
def zhn {f:Nat→UInt64}:∀{n:Nat},(∀i,i<n→f i=0)→vl f n=0
 |0,_=>rfl
 |n+1,h=>by rw[vl,zhn fun i hi=>h i (by omega),h n (by omega)];simp
def Tv {W P A B Q N V a X b m:Nat}(h:P*V=A*B+Q*N)(d:X=V+A*b)(f:W*a=X+m*N):P*W*a=A*(B+b*P)+(Q+m*P)*N:=by
 have:P*(W*a)=P*(V+A*b+m*N):=by rw[f,d]
 grind
def Wk {W A N V a X b m:Nat}(g:V<2*N)(h:A<N)(j:b<W)(hm:m<W)(d:X=V+A*b)(f:W*a=X+m*N):a<2*N:=by
 have g1:A*b≤N*(W - 1):=Cb (by omega) (by omega);have g2:m*N≤(W - 1)*N:=At _ (by omega);have g3:(W - 1)*N+N=W*N:=by
  rw[←Ec];congr 1;omega
 rw[B2 N] at g1;have g4:W*a<W*(2*N):=by
  rw[f,d,E8];omega
 exact Nat.lt_of_mul_lt_mul_left g4
def de {s:Fs}{R D k:Nat}{d a b n t:Pn}(hD:D+1<R)(hd:d.in_ sz)(X:a.in_ sz)(Y:b.in_ sz)(B:n.in_ sz)(E:t.in_ sz)(Z:k+1≤d.k)(O:k+1≤a.k)(kb:k+1≤b.k)(q:k+1≤n.k)(P:k+3≤t.k)
  (dn:tf d n) (dt:Dj d t) (S:Dj t a) (tb:Dj t b) (w:Dj t n) (L:pl s.m n 0%2=1) (hA:vl (pl s.m a) (k+1)<vl (pl s.m n) (k+1)) :
  Tx sz (Qd d.p a.p b.p n.p t.p (k+1:Nat) R D) s fun H=>(∀z,¬(R≤z∧z≤R+10)→z≠D→z≠D+1→H.r z=s.r z)∧(∀x y,¬(x=d.b∧d.a≤y∧y<d.a+d.k)→¬(x=t.b∧t.a≤y∧y<t.a+t.k)→H.m x y=s.m x y) ∧
   vl (pl H.m d) (k+1)<vl (pl s.m n) (k+1)∧∃Q Q':Nat,18446744073709551616^(k+1)*vl (pl H.m d) (k+1)+Q'*vl (pl s.m n) (k+1)=vl (pl s.m a) (k+1)*vl (pl s.m b) (k+1)+Q*vl (pl s.m n) (k+1):=by
 have e:Qd d.p a.p b.p n.p t.p (k+1:Nat) R D=(Fl ([cK (R:Nat) 0,Fq ((R+10:Nat):Int) n.p (-1) ((0:Nat):Int)]++M8 ((R+10:Nat):Int) ((R+1:Nat):Int))).cat ((Ky t.p (R:Nat) (D:Nat)).cat ((Ha (D:Nat) (k+1:Nat) ((L8 a.p b.p t.p (k+1:Nat) R ((D+1:Nat):Int) D).cat (Mj n.p t.p (k+1:Nat) R ((D+1:Nat):Int)))).cat (Q8 d.p n.p t.p (k+1:Nat) R D))):=rfl;rw[e,frL_app];have M:k+1<18446744073709551616:=by have:=B.1;have:=B.2;omega
 refine Tx.cat (R:=fun s1=>s1.r R=0∧s1.r (R+1)*pl s.m n 0+1=0∧s1.m=s.m∧∀z,¬(R≤z∧z≤R+10)→s1.r z=s.r z) ?_ fun s1 ⟨T,I1,m1,g1⟩=>?_
 ·refine .op Oh (.op (xe (by have:=B.1;omega) B.2) ((ky (by omega)).mono fun s1 ⟨e1,e2,U⟩=>⟨?_,?_,?_,fun z hz=>?_⟩))
  ·rw[U R (by omega)];simp[Fh]
  ·rw[e1];simp only[Fh,Bv,Ho];have:=zxk _ L
   grind
  ·rw[e2];rfl
  ·rw[U z (by omega),Fh,Ab (by omega),Fh,Ab (by omega)]
 refine (zsv E (by omega)).cat fun s2 ⟨g2,V,I⟩=>?_
 have N:s2.r R=0:=by rw[g2 R (by omega),T]
 have I2:s2.r (R+1)*pl s.m n 0+1=0:=by rw[g2 (R+1) (by omega),I1]
 rw[m1] at V;rw[T] at I;refine .cat (R:=fun f=>(∀z,¬(R+2≤z∧z≤R+10)→z≠D→z≠D+1→f.r z=s2.r z)∧F5 t s.m f.m∧(pl f.m t (k+2)).toNat≤1∧vl (pl f.m t) (k+2)<2*vl (pl s.m n) (k+1)∧∃Q,18446744073709551616^(k+1)*vl (pl f.m t) (k+2)=vl (pl s.m a) (k+1)*vl (pl s.m b) (k+1)+Q*vl (pl s.m n) (k+1)) ?_ fun f ⟨g3,p,_,F,Q,C⟩=>?_
 ·refine .lp (fun i f=>(∀z,¬(R+2≤z∧z≤R+10)→z≠D→z≠D+1→f.r z=s2.r z)∧F5 t s.m f.m∧(pl f.m t (k+2)).toNat≤1∧vl (pl f.m t) (k+2)<2*vl (pl s.m n) (k+1)∧∃Q,18446744073709551616^i*vl (pl f.m t) (k+2)=vl (pl s.m a) (k+1)*vl (pl s.m b) i+Q*vl (pl s.m n) (k+1)) ⟨fun _ _ _ _=>rfl,V,by rw[I _ (by omega)];decide,?_,0,?_⟩ M (fun i f hi ⟨g3,p,c3,F,Q,C⟩=>?_) fun _ h=>h
  ·rw[zhn fun i hi=>I i (by omega)];omega
  ·rw[zhn fun i hi=>I i (by omega)];simp[vl]
  ·have G:((f.put D (UInt64.ofNat i)).r D).toNat=i:=by simp[Fh];omega
   have j:∀z,¬(R+2≤z∧z≤R+10)→z≠D→z≠D+1→(f.put D (UInt64.ofNat i)).r z=s2.r z:=fun z l g A=>by rw[Fh,Ab g,g3 z l g A]
   refine (V2 (k:=k+1) (b:=b) (i:=D) (by rw[j R (by omega) (by omega) (by omega),N]) (by omega) (by rw[G];omega) Y X E O P S E.2).cat fun s4 ⟨g4,J,v4,W⟩=>?_
   rw[Ho] at J v4;rw[G,p.pl tb (by omega),p.vl S O] at v4;have o:=p.trans J;refine (im (k:=k) (by rw[g4 R (by omega) (by omega),j R (by omega) (by omega) (by omega),N]) (by omega) (by rw[g4 (R+1) (by omega) (by omega),j _ (by omega) (by omega) (by omega),o.pl w (by omega),I2]) B E q P w W).mono fun s5 ⟨g5,o5,c5,m,K⟩=>⟨fun z l g A=>?_,o.trans o5,?_,?_,Q+m.toNat*18446744073709551616^i,?_⟩
   ·rw[g5 z l A,g4 z l A,j z l g A]
   ·rw[c5];exact W
   ·rw[o.vl w q] at K;exact Wk F hA (pl s.m b i).toNat_lt m.toNat_lt v4 K
   ·rw[o.vl w q] at K;rw[Bg,Jl];exact Tv C v4 K
 ·refine (lr (k:=k+1) (by rw[g3 R (by omega) (by omega) (by omega),N]) (by omega) B E hd q (by omega) Z dn dt (by rw[p.vl w q];exact F)).mono fun s4 ⟨g4,J,v4⟩=>⟨fun z l g A=>?_,fun x y l g=>?_,?_,?_⟩
  ·rw[g4 z (by omega) g,g3 z (by omega) g A,g2 z g,g1 z l]
  ·rw[J x y l,p x y g]
  ·have F:vl (pl f.m t) (k+1+1)<2*vl (pl s.m n) (k+1):=F;rw[p.vl w q] at v4;rw[v4];split<;>omega
  ·have C:18446744073709551616^(k+1)*vl (pl f.m t) (k+1+1)=vl (pl s.m a) (k+1)*vl (pl s.m b) (k+1)+Q*vl (pl s.m n) (k+1):=C;rw[p.vl w q] at v4;rw[v4];split
   ·exact⟨Q,0,by rw[C];omega⟩
   ·refine⟨Q,18446744073709551616^(k+1),?_⟩;rw[←C,←Ds,Nat.sub_add_cancel (by omega)]
end mu
end Go.Sv
namespace Go.Sv
def Po (ls:List Int)(m:List Bool):Prop:=∀x,0≤x→x<8→(Jk m x=true↔x∈ls)
def Gd (bs:List Bf)(S:List Int)(ls:List Int)(f:Fr Lo)(S':List Int):Prop :=
 ∀m,Vn 64 m S→Po ls m→∃a,Vn 64 a S'∧Po ls a∧(∀x,8≤x→Jk m x=true→Jk a x=true)∧∀i rest,S8 64 bs i m ls (f.flat++rest)=S8 64 bs (i+f.flat.length) a ls rest
def zqt {x:Int}(d:0≤x):∀(mk:List Int) (m:List Bool),(∀y∈mk,0≤y∧y<m.length)→Jk m x=true→Jk (mk.foldl (fun m r=>m.set r.toNat true) m) x=true
 |[],_,_,h=>h
 |a::mk,m,j,h=>by
  have l:=j a (B6 ..);exact zqt d mk _ (fun y o=>by rw[Ch];exact j y (A0 _ o)) ((z98 ⟨l.1,l.2⟩ d).2 (.inr h))
section gd
variable {bs : List Bf} {S S' S2 ls : List Int} {f g : Fr Lo}
def Vn.sub {regs:Int}{m:List Bool}(h:Vn regs m S)(k:∀x∈S',x∈S):Vn regs m S':=⟨h.1,fun x hx=>h.2 x (k x hx)⟩
def Gd.mono (h:Gd bs S ls f S')(k1:∀x∈S,x∈S2){S3:List Int}(k2:∀x∈S3,x∈S'):Gd bs S2 ls f S3:=fun m hm hi=>by
 obtain⟨m',h1,h2,hk,h3⟩:=h m (hm.sub k1) hi;exact⟨m',h1.sub k2,h2,hk,h3⟩
def Gd.cat (h:Gd bs S ls f S')(k:Gd bs S' ls g S2):Gd bs S ls (f.cat g) S2:=fun m hm hi=>by
 obtain⟨m1,h1,h2,ha,h3⟩:=h m hm hi;obtain⟨m2,k1,k2,kb,k3⟩:=k m1 h1 h2;refine⟨m2,k1,k2,fun x hx hq=>kb x hx (ha x hx hq),fun i rest=>?_⟩;rw[Ia,Bt,h3,k3,Aj,Cu]
def Gd.nil:Gd bs S ls .nil S:=fun m hm hi=>⟨m,hm,hi,fun _ _ h=>h,fun _ _=>rfl⟩
def Gd.keep {T:List Int}(h:Gd bs S ls f S'):Gd bs (T++S) ls f (T++S'):=fun m hm hi=>by
 obtain⟨m',h1,h2,hk,h3⟩:=h m (hm.sub fun x hx=>Ba _ hx) hi;refine⟨m',⟨h1.1,fun x hx=>?_⟩,h2,hk,h3⟩;rcases Az.1 hx with hx|hx
 ·obtain⟨a,b,d⟩:=hm.2 x (Dp _ hx);refine⟨a,b,?_⟩;by_cases q:8≤x
  ·exact hk x q d
  ·exact (h2 x a (by omega)).2 ((hi x a (by omega)).1 d)
 ·exact h1.2 x hx
def Gd.keep0 (h:Gd bs [] ls f []):Gd bs S ls f S:=by
 have:=Gd.keep (T:=S) h;simpa using this
def Po.fold:∀(mk:List Int) (m:List Bool),m.length=64→Po ls m→(∀x∈mk,8≤x∧x<64)→Po ls (mk.foldl (fun m r=>m.set r.toNat true) m)
 |[],_,_,h,_=>h
 |a::mk,m,hl,h,hr=>by
  have ha:=hr a (B6 ..);refine Po.fold mk _ (by simpa using hl) (fun x h0 h8=>?_) fun x hx=>hr x (A0 _ hx)
  rw[←h x h0 h8,z98 ⟨by omega,by omega⟩ h0];constructor
  ·rintro (q|q)
   ·omega
   ·exact q
  ·exact .inr
def Gd.L (ad:∀x∈ls,x<8):∀{l:List Lo} {S:List Int},Hv 64 bs S l→(∀o∈l,∀x∈Ft o,8≤x)→Gd bs S ls (Fl l) ((l.flatMap Ft)++S)
 |[],S,_,_=>fun m hm hi=>⟨m,by simpa using hm,hi,fun _ _ h=>h,fun _ _=>rfl⟩
 |o::l,S,h,hk=>fun m hm hi=>by
  obtain⟨h1,⟨h2,h3⟩,h4,h5⟩:=h;have aa:=Yl h1;have af:=hk o (B6 ..);have hs:=W6 (m:=m) (ls:=ls) h1 h2 h3 (fun x hx q=>by have:=ad x q;have:=af x hx;omega) (fun x hx=>(hm.2 x (h4 x hx)).2.2);have ag:=hm.fold (Ft o) m S aa;have ah:=hi.fold (Ft o) m (by have:=hm.1;omega) fun x hx=>⟨af x hx,(aa x hx).2⟩
  obtain⟨m',k1,k2,kk,k3⟩:=Gd.L ad h5 (fun p hp=>hk p (A0 _ hp)) _ ag ah;refine⟨m',k1.sub fun x hx=>?_,k2,fun x hx hq=>kk x hx (zqt (by omega) _ _ (fun y hy=>by have:=aa y hy;have:=hm.1;omega) hq),fun i rest=>?_⟩
  ·simp only[Dx,Az] at hx ⊢;rcases hx with (hx|hx)|hx
   ·exact .inr (.inl hx)
   ·exact .inl hx
   ·exact .inr (.inr hx)
  ·rw[Fl,Fr.flat,Bi,S8,hs];dsimp only;rw[Ag rfl,k3,Ar]
   congr 1;omega
def zya {d times:Int}(h:0≤d∧d<64)(m:1≤times∧times≤1048576):Ix 64 bs (Lk d times)=true:=by
 have a:(iU times).toNat=times.toNat:=by
  obtain⟨n,rfl⟩:=Af (show 0≤times by omega);rw[Ol (by omega)];rfl
 have j:(1:UInt64)≤iU times:=by rw[Br,a];show 1≤_;omega
 have l:iU times≤(1048576:UInt64):=by rw[Br,a];show _≤1048576;omega
 simp[Ix,Lk,F1,Gy,Gx,Hh,J0,J4,Gt,h,j,l]
def fields_En:Ix 64 bs O6=true:=by simp[Ix,O6,F1,Gy,Gx,Hh,J0,J4,Gt]
def zi3 {m:List Bool}{a x:Int}(d:0≤a∧a<m.length)(j:0≤x):Jk (m.set a.toNat false) x=true↔x≠a∧Jk m x=true:=by
 unfold Jk;rw[Vf _ _ _ _ _ (by omega)];by_cases e:x.toNat=a.toNat
 ·rw[Ag e];simp;intro h;omega
 ·rw[Ab e];constructor
  ·exact fun h=>⟨by rintro rfl;exact e rfl,h⟩
  ·exact fun h=>h.2
def Gd.loop {d times:Int}{b r:Fr Lo}{S3:List Int}(aq:ls.length<8)(hd:0≤d∧d<8)(hn:¬d∈ls)(ht:1≤times∧times≤1048576)(hb:Gd bs (d::S) (ls++[d]) b S')(hs:∀x∈S2,x∈S'∧x≠d)(hr:Gd bs S2 ls r S3):Gd bs S ls (.loop (Lk d times) b O6 r) S3:=fun m hm hi=>by
 have ap:m.length=64:=by have:=hm.1;omega
 have aa:Jk m d=false:=by
  cases q:Jk m d
  ·rfl
  ·exact absurd ((hi d hd.1 hd.2).1 q) hn
 have ad:Ns 64 bs m ls (Lk d times)=(0,m.set d.toNat true,ls++[d]):=by
  unfold Ns;rw[Ab (by rw[zya (by omega) ht];decide),Ab (by simp[Lk]),Ab,Ab (by simp[Lk,aa]),Ab (by simp[Lk];omega),Ab (by simp[Lk,Ii])]
  ·simp[Lk,Ft]
  ·simp[Lk,Ft,hn]
 have af:Vn 64 (m.set d.toNat true) (d::S):=by
  have:=hm.fold [d] m S (fun x hx=>by simp at hx;omega);simpa using this
 have ag:Po (ls++[d]) (m.set d.toNat true):=fun x h0 h8=>by
  rw[z98 ⟨by omega,by omega⟩ h0,hi x h0 h8];simp[or_comm]
 obtain⟨m2,a1,a2,ak,a3⟩:=hb _ af ag;have ar:m2.length=64:=by have:=a1.1;omega
 have ah:Vn 64 (m2.set d.toNat false) S2:=⟨by simpa using a1.1,fun x hx=>by
  obtain⟨h1,h2⟩:=hs x hx;obtain⟨b1,b2,b3⟩:=a1.2 x h1;exact⟨b1,b2,(zi3 ⟨by omega,by omega⟩ b1).2 ⟨h2,b3⟩⟩⟩
 have aj:Po ls (m2.set d.toNat false):=fun x h0 h8=>by
  rw[zi3 ⟨by omega,by omega⟩ h0,a2 x h0 h8];simp only[Az,List.mem_singleton];constructor
  ·rintro⟨h1,h2|h2⟩
   ·exact h2
   ·exact absurd h2 h1
  ·exact fun h=>⟨fun q=>hn (q ▸ h),.inl h⟩
 obtain⟨m4,c1,c2,ck,c3⟩:=hr _ ah aj;refine⟨m4,c1,c2,fun x hx hq=>ck x hx ((zi3 ⟨by omega,by omega⟩ (by omega)).2 ⟨by omega,ak x hx ((z98 ⟨by omega,by omega⟩ (by omega)).2 (.inr hq))⟩),fun i rest=>?_⟩;have ao:Ns 64 bs m2 (ls++[d]) O6=(0,m2.set d.toNat false,ls):=by
  unfold Ns;rw[Ab (by rw[fields_En];decide),Ag (by rfl)];simp
 rw[Fr.flat,Bi,S8,ad];dsimp only;rw[Ag rfl,Bt,a3,Bi,S8,ao];dsimp only;rw[Ag rfl,c3,Ar,Aj,Ar]
 congr 1;omega
def Gd.lp {d times:Int}{b:Fr Lo}(aa:ls.length<8)(hd:0≤d∧d<8)(hn:¬d∈ls)(ad:¬d∈S)(ht:times≤1048576)(hb:Gd bs (d::S) (ls++[d]) b S')(hs:∀x∈S,x∈S'):Gd bs S ls (Ha d times b) S:=by
 unfold Ha;split
 ·exact .nil
 ·exact .loop aa hd hn (by omega) hb (fun x hx=>⟨hs x hx,fun q=>ad (q ▸ hx)⟩) .nil
def gn (l:bs.length≤32)(m:f.flat.length≤65536)(d:∀b∈bs,1≤b.size∧b.size≤65536∧1≤b.kind∧b.kind≤3)(h:Gd bs [] [] f S'):J6 64 bs f.flat=((f.flat.length:Int),0):=by
 unfold J6;rw[Ab (by omega),Ab,Ab (by omega),Ab]
 ·obtain⟨o,_,_,_,j⟩:=h (List.replicate 64 false) ⟨by simp,by simp⟩ (fun x p q=>by
   unfold Jk;rw[Ae,List.getElem?_replicate];split<;>simp)
  have:=j 0 [];rw[Bz] at this;rw[show (64:Int).toNat=64 from rfl,this,S8,Ag rfl,Be]
 ·rw[By];rintro⟨b,a,hk⟩;have:=d b a;simp at hk;omega
 ·rw[By];rintro⟨b,a,hk⟩;have:=d b a;simp at hk;omega
end gd
end Go.Sv
namespace Go.Sv
section w
variable {bs : List Bf} {S : List Int} {l : List Lo}
def Sr {d:Int}{v:UInt64}(h:0≤d∧d<64)(k:Hv 64 bs (d::S) l):Hv 64 bs S (cK d v::l):=⟨zh6 h,by simp[cK],by simp[Ii,cK],k⟩
def Sy {d e a b:Int}(h:0≤d∧d<64)(he:0≤e∧e<64)(f:0≤a∧a<64)(g:0≤b∧b<64)(j:d≠e)(m:a∈S)(o:b∈S)(k:Hv 64 bs (d::e::S) l):Hv 64 bs S (F9 d e a b::l) :=
 ⟨zck h he f g j,by simp[F9],by simp[Ii,F9,m,o],k⟩
def Wr {k' d a b:Int}(hk:3≤k'∧k'≤7)(h:0≤d∧d<64)(g:0≤a∧a<64)(j:0≤b∧b<64)(m:a∈S)(o:b∈S)(k:Hv 64 bs (d::S) l):Hv 64 bs S (Fg k' d a b::l):=by
 refine⟨zc8 hk h g j,by simp[Fg];omega,fun x f=>?_,?_⟩
 ·unfold Ii Fg at f;simp only at f;rw[Ab (by omega),Ag (by omega)] at f;simp at f;rcases f with rfl|rfl
  ·exact m
  ·exact o
 ·have:Ft (Fg k' d a b)=[d]:=by unfold Ft Fg;simp only;rw[Ab (by omega),Ab (by omega)]
  rw[this];exact k
def ir {k' d e a b c:Int}(hk:k'=11∨k'=12)(h:0≤d∧d<64)(he:0≤e∧e<64)(f:0≤a∧a<64)(g:0≤b∧b<64)(j:0≤c∧c<64)(m:d≠e)(o:a∈S)(p:b∈S)(q:c∈S)(k:Hv 64 bs (d::e::S) l):Hv 64 bs S (F3 k' d e a b c::l):=by
 refine⟨zv6 hk h he f g j m,by rcases hk with rfl|rfl<;>simp[F3],?_,?_⟩
 ·rcases hk with rfl|rfl<;>simp[Ii,F3,o,p,q]
 ·rcases hk with rfl|rfl<;>exact k
def zmo {d c a b:Int}(h:0≤d∧d<64)(f:0≤c∧c<64)(g:0≤a∧a<64)(j:0≤b∧b<64)(m:c∈S)(o:a∈S)(p:b∈S)(k:Hv 64 bs (d::S) l):Hv 64 bs S (Gg d c a b::l) :=
 ⟨zvq h f g j,by simp[Gg],by simp[Ii,Gg,o,p,m],k⟩
structure Bp (bs:List Bf) (p:Pn):Prop where
 b:p.b<bs.length
 s:((p.a+p.k:Nat):Int)≤(F4 bs p.b).size
 z:(F4 bs p.b).size≤65536
def Bw (bs:List Bf)(p:Pn):Prop:=(F4 bs p.b).kind≠1
def Bp.at {p:Pn}(h:Bp bs p){off:Int}(h0:0≤off)(hk:off<p.k):iU (p.p.at_+off)<iU (F4 bs p.p.buf.toNat).size:=by
 obtain⟨o,rfl⟩:=Af h0;have hs:=h.s;have hz:=h.z;obtain⟨z,aa⟩:=Af (show 0≤(F4 bs p.b).size by omega);have e1:p.p.buf.toNat=p.b:=rfl;rw[e1,aa,Ca,Ol (by omega),Rj (by omega)];omega
def Qq {d i off:Int}{p:Pn}(f:Bp bs p)(h:0≤d∧d<64)(hi:0≤i∧i<64)(g:i∈S)(k:Hv 64 bs (d::S) l):Hv 64 bs S (Fq d p.p i off::l):=by
 refine⟨zq3 h (.inr hi) ⟨by simp[Pn.p],by have:=f.b;simpa [Pn.p] using this⟩ (fun q=>by omega),by simp[Fq],?_,k⟩;have:i≠-1:=by omega
 simp[Ii,Fq,this,g]
def qt {d off:Int}{p:Pn}(f:Bp bs p)(h:0≤d∧d<64)(g:0≤off)(hk:off<p.k)(k:Hv 64 bs (d::S) l):Hv 64 bs S (Fq d p.p (-1) off::l):=by
 refine⟨zq3 h (.inl rfl) ⟨by simp[Pn.p],by have:=f.b;simpa [Pn.p] using this⟩ (fun _=>f.at g hk),by simp[Fq],by simp[Ii,Fq],k⟩
def Y9 {v i off:Int}{p:Pn}(f:Bp bs p)(hw:Bw bs p)(h:0≤v∧v<64)(hi:0≤i∧i<64)(g:i∈S)(j:v∈S)(k:Hv 64 bs S l):Hv 64 bs S (Fx p.p i off v::l):=by
 refine⟨zqx h (.inr hi) ⟨by simp[Pn.p],by have:=f.b;simpa [Pn.p] using this⟩ hw (fun q=>by omega),by simp[Fx],?_,k⟩;have:i≠-1:=by omega
 simp[Ii,Fx,this,g,j]
def m7 {v off:Int}{p:Pn}(f:Bp bs p)(hw:Bw bs p)(h:0≤v∧v<64)(g:0≤off)(hk:off<p.k)(j:v∈S)(k:Hv 64 bs S l):Hv 64 bs S (Fx p.p (-1) off v::l):=by
 refine⟨zqx h (.inl rfl) ⟨by simp[Pn.p],by have:=f.b;simpa [Pn.p] using this⟩ hw (fun _=>f.at g hk),by simp[Fx],by simp[Ii,Fx,j],k⟩
def okL_nil:Hv 64 bs S []:=trivial
end w
section into
variable {bs : List Bf} {ls : List Int} {R D : Int} {d a b n t : Pn} {k : Int}
def Rf {S:List Int}{l:List Lo}{a b:Int}(q:16≤R∧R≤50)(f:0≤a∧a<64)(g:0≤b∧b<64)(h:a∈S)(j:b∈S)(m:R∈S)(o:R+3∈S)(p:R+7∈S)(k:Hv 64 bs ((R+3)::(R+5)::(R+6)::(R+9)::(R+6)::(R+8)::(R+5)::(R+6)::S) l):Hv 64 bs S (Gc R a b++l):=by
 unfold Gc;refine Sy ?_ ?_ f g ?_ h j (ir (.inl rfl) ?_ ?_ ?_ ?_ ?_ ?_ ?_ ?_ ?_ (ir (.inl rfl) ?_ ?_ ?_ ?_ ?_ ?_ ?_ ?_ ?_ (Wr ?_ ?_ ?_ ?_ ?_ ?_ (Wr ?_ ?_ ?_ ?_ ?_ ?_ k))))
 all_goals first|omega|(simp[m,o,p];done)|(simp;omega)
def zsr {n r:Int}:∀o∈M8 n r,∀x∈Ft o,r≤x∧x≤r+4:=by
 intro o ho;simp[M8,U0,Qx,pu,cK,F9,Fg] at ho;rcases ho with rfl|rfl|rfl|rfl|⟨_,rfl|rfl|rfl⟩|rfl|rfl<;>simp[Ft]<;>omega
def Yp {i:Int}(o:16≤R∧R≤50)(hi:0≤i∧i<8)(p:0≤D∧D<8)(q:¬D∈ls)(r:D≠i)(m:ls.length<8)(g:∀x∈ls,x<8)(pa:Bp bs a)(pb:Bp bs b)(j:Bp bs t)(wt:Bw bs t)(hk:0≤k∧k+1<t.k) :
  Gd bs [i,R,R+1,R+10] ls (L8 a.p b.p t.p k R D i) [i,R,R+1,R+10]:=by
 have s:(t.k:Int)≤65536:=by have:=j.s;have:=j.z;omega
 unfold L8;have w:Hv 64 bs [i,R,R+1,R+10] [Fq (R+2) b.p i 0,cK (R+3) 0]:=Qq pb (by omega) (by omega) (by simp) (Sr (by omega) okL_nil);have y:Hv 64 bs (D::(List.flatMap Ft [Fq (R+2) b.p i 0,cK (R+3) 0]++[i,R,R+1,R+10])) (Mz a.p t.p R D):=by
  unfold Mz;refine Qq pa (by omega) (by omega) (by simp) (Qq j (by omega) (by omega) (by simp) (Rf o (by omega) (by omega) (by simp) (by simp[Ft,Fq]) (by simp[Ft,Fq,cK]) (by simp[Ft,Fq,cK]) (by simp) (Y9 j wt (by omega) (by omega) (by simp) (by simp) okL_nil)))
 have z:Hv 64 bs (List.flatMap Ft [Fq (R+2) b.p i 0,cK (R+3) 0]++[i,R,R+1,R+10]) (Hi t.p k R++[Fx t.p (-1) k (R+7),Fx t.p (-1) (k+1) (R+8)]):=by
  unfold Hi;refine qt j (by omega) (by omega) (by omega) (ir (.inl rfl) (by omega) (by omega) (by omega) (by omega) (by omega) (by omega) (by simp) (by simp[Ft,Fq,cK]) (by simp[Ft,Fq,cK]) (m7 j wt (by omega) (by omega) (by omega) (by simp) (m7 j wt (by omega) (by omega) (by omega) (by simp) okL_nil)))
 refine Gd.mono ((Gd.L g w ?_).cat ((Gd.lp m p q ?_ (by omega) (Gd.L ?_ y ?_) ?_).cat (Gd.L g z ?_))) (fun x h=>h) ?_
 ·simp[Ft,Fq,cK];omega
 ·simp[Ft,Fq,cK];omega
 ·intro x f;rcases Az.1 f with f|f
  ·exact g x f
  ·simp at f;omega
 ·simp[Ft,Mz,Gc,Fq,Fx,F9,F3,Fg];omega
 ·intro x f;exact Ba _ (A0 _ f)
 ·simp[Ft,Hi,Fq,Fx,F3];omega
 ·intro x f;exact Ba _ (Ba _ f)
def fw {i:Int}(o:16≤R∧R≤50)(p:0≤D∧D<8)(q:¬D∈ls)(r:D≠i)(m:ls.length<8)(j:∀x∈ls,x<8)(pn:Bp bs n)(f:Bp bs t)(wt:Bw bs t)(hk:1≤k∧k+1<t.k)(s:0<n.k) :
  Gd bs [i,R,R+1,R+10] ls (Mj n.p t.p k R D) [i,R,R+1,R+10]:=by
 have w:(t.k:Int)≤65536:=by have:=f.s;have:=f.z;omega
 unfold Mj;have y:Hv 64 bs [i,R,R+1,R+10] ([Fq (R+7) t.p (-1) 0,F9 (R+5) (R+10) (R+7) (R+1),Fq (R+4) n.p (-1) 0,cK (R+3) 0]++Gc R (R+10) (R+4)):=by
  rw[←Bz (_++Gc R (R+10) (R+4)),Bt];exact qt f (by omega) (by omega) (by omega) (Sy (by omega) (by omega) (by omega) (by omega) (by omega) (by simp) (by simp) (qt pn (by omega) (by omega) (by omega) (Sr (by omega) (Rf o (by omega) (by omega) (by simp) (by simp) (by simp) (by simp) (by simp) okL_nil))))
 have z:Hv 64 bs (D::(List.flatMap Ft ([Fq (R+7) t.p (-1) 0,F9 (R+5) (R+10) (R+7) (R+1),Fq (R+4) n.p (-1) 0,cK (R+3) 0]++Gc R (R+10) (R+4))++[i,R,R+1,R+10])) (Nc n.p t.p R D):=by
  unfold Nc;refine Qq pn (by omega) (by omega) (by simp) (Qq f (by omega) (by omega) (by simp) (Rf o (by omega) (by omega) (by simp) (by simp[Ft,Fq]) (by simp[Ft,Fq,cK]) (by simp[Ft,Fq,cK]) (by simp) (Y9 f wt (by omega) (by omega) (by simp) (by simp) okL_nil)))
 have A:Hv 64 bs (List.flatMap Ft ([Fq (R+7) t.p (-1) 0,F9 (R+5) (R+10) (R+7) (R+1),Fq (R+4) n.p (-1) 0,cK (R+3) 0]++Gc R (R+10) (R+4))++[i,R,R+1,R+10]) (Hi t.p k R++[Fx t.p (-1) (k - 1) (R+7),Fq (R+7) t.p (-1) (k+1),Fg 3 (R+7) (R+7) (R+8),Fx t.p (-1) k (R+7)]):=by
  unfold Hi;refine qt f (by omega) (by omega) (by omega) (ir (.inl rfl) (by omega) (by omega) (by omega) (by omega) (by omega) (by omega) (by simp) (by simp[Ft,Fq,cK]) (by simp[Ft,Fq,cK]) (m7 f wt (by omega) (by omega) (by omega) (by simp) (qt f (by omega) (by omega) (by omega) (Wr (by omega) (by omega) (by omega) (by omega) (by simp) (by simp) (m7 f wt (by omega) (by omega) (by omega) (by simp) okL_nil)))))
 refine Gd.mono ((Gd.L j y ?_).cat ((Gd.lp m p q ?_ (by omega) (Gd.L ?_ z ?_) ?_).cat (Gd.L j A ?_))) (fun x h=>h) ?_
 ·simp[Ft,Gc,Fq,cK,F9,F3,Fg];omega
 ·simp[Ft,Gc,Fq,cK,F9,F3,Fg];omega
 ·intro x g;rcases Az.1 g with g|g
  ·exact j x g
  ·simp at g;omega
 ·simp[Ft,Nc,Gc,Fq,Fx,F9,F3,Fg];omega
 ·intro x g;exact Ba _ (A0 _ g)
 ·simp[Ft,Hi,Fq,Fx,F3,Fg];omega
 ·intro x g;exact Ba _ (Ba _ g)
def R7 {x:Int}{S:List Int}{p:Pn}(q:0≤x∧x<64)(mx:x∈S)(r:0≤D∧D<8)(s:¬D∈ls)(g:¬D∈S)(j:ls.length<8)(m:∀x∈ls,x<8)(o:Bp bs p)(wp:Bw bs p):Gd bs S ls (Ky p.p x D) S:=by
 have w:(p.k:Int)≤65536:=by have:=o.s;have:=o.z;omega
 unfold Ky;have h:Hv 64 bs (D::S) [Fx p.p D 0 x]:=Y9 o wp q (by omega) (by simp) (by simp[mx]) okL_nil;refine Gd.lp j r s g (by show (p.k:Int)≤_;omega) (Gd.L ?_ h ?_) ?_
 ·intro y f;rcases Az.1 f with f|f
  ·exact m y f
  ·simp at f;omega
 ·simp[Ft,Fx]
 ·intro y f;exact Ba _ (A0 _ f)
def zzd {x:List Lo}{S:List Int}(z:16≤R∧R≤50)(m:0≤D∧D<8)(p:¬D∈ls)(h:¬D∈S)(j:ls.length<8)(g:∀x∈ls,x<8)(pn:Bp bs n)(q:Bp bs t)(hk:k≤65536)
  (r:Hv 64 bs ((R+6)::(R+8)::(R+4)::(R+7)::D::(R+8)::S) x) (hm:∀o∈x,∀y∈Ft o,8≤y):Gd bs S ls (Oq n.p t.p k R D x) ((R+8)::S):=by
 unfold Oq;have s:Hv 64 bs S [cK (R+8) 0]:=Sr (by omega) okL_nil;have w:Hv 64 bs (D::(List.flatMap Ft [cK (R+8) 0]++S)) (Mr n.p t.p R D++x):=by
  unfold Mr;exact Qq q (by omega) (by omega) (by simp) (Qq pn (by omega) (by omega) (by simp) (ir (.inr rfl) (by omega) (by omega) (by omega) (by omega) (by omega) (by omega) (by simp) (by simp) (by simp[Ft,cK]) r))
 refine (Gd.L g s ?_).cat (Gd.lp j m p ?_ (by omega) (Gd.L ?_ w ?_) ?_)
 ·simp[Ft,cK];omega
 ·simp[Ft,cK];exact⟨by omega,h⟩
 ·intro y f;rcases Az.1 f with f|f
  ·exact g y f
  ·simp at f;omega
 ·intro o ho;rcases Az.1 ho with ho|ho
  ·simp[Mr] at ho;rcases ho with rfl|rfl|rfl<;>simp[Ft,Fq,F3]<;>omega
  ·exact hm o ho
 ·intro y f;exact Ba _ (A0 _ f)
def l9 (m:16≤R∧R≤50)(o:0≤D∧D<8)(p:¬D∈ls)(g:ls.length<8)(f:∀x∈ls,x<8)(pd:Bp bs d)(wd:Bw bs d)(pn:Bp bs n)(j:Bp bs t)(hk:0≤k∧k<t.k):Gd bs [R] ls (Q8 d.p n.p t.p k R D) [R]:=by
 have r:(t.k:Int)≤65536:=by have:=j.s;have:=j.z;omega
 unfold Q8;have s:Hv 64 bs [R+8,R] [Fq (R+7) t.p (-1) k,F3 12 (R+6) (R+10) (R+7) R (R+8)]:=qt j (by omega) (by omega) (by omega) (ir (.inr rfl) (by omega) (by omega) (by omega) (by omega) (by omega) (by omega) (by simp) (by simp) (by simp) okL_nil);refine Gd.mono ((zzd m o p (by simp;omega) g f pn j (by omega) okL_nil (by simp)).cat ((Gd.L f s ?_).cat (zzd m o p ?_ g f pn j (by omega) ?_ ?_))) (fun x h=>h) ?_
 ·simp[Ft,Fq,F3];omega
 ·simp[Ft,Fq,F3];omega
 ·exact zmo (by omega) (by omega) (by omega) (by omega) (by simp[Ft,Fq,F3]) (by simp) (by simp) (Y9 pd wd (by omega) (by omega) (by simp) (by simp) okL_nil)
 ·simp[Ft,Gg,Fx];omega
 ·intro x q;simp at q;subst q;simp
def gz (p:16≤R∧R≤50)(q:0≤D∧D+1<8)(r:¬D∈ls)(m:¬D+1∈ls)(y:ls.length<7)(g:∀x∈ls,x<8)(pd:Bp bs d)(wd:Bw bs d)(pa:Bp bs a)(pb:Bp bs b)(pn:Bp bs n)(j:Bp bs t)(wt:Bw bs t)(hk:1≤k∧k+1<t.k)(s:0<n.k) :
  Gd bs [] ls (Qd d.p a.p b.p n.p t.p k R D) []:=by
 have z:(t.k:Int)≤65536:=by have:=j.s;have:=j.z;omega
 unfold Qd;have A:Hv 64 bs [] ([cK R 0,Fq (R+10) n.p (-1) 0]++M8 (R+10) (R+1)) :=
  Sr (by omega) (qt pn (by omega) (by omega) (by omega) (X7 (by omega) (by omega) (by simp)))
 have w:∀x∈[R,R+1,R+10],x∈List.flatMap Ft ([cK R 0,Fq (R+10) n.p (-1) 0]++M8 (R+10) (R+1))++[]:=by
  intro x f;simp at f;rcases f with rfl|rfl|rfl<;>simp[Ft,cK,Fq,M8,U0,F9,Fg]
 refine Gd.mono (Gd.cat (Gd.mono (Gd.L g A ?_) (fun x h=>h) w) ((R7 (x:=R) (by omega) (by simp) ⟨q.1,by omega⟩ r (by simp;omega) (by omega) g j wt).cat ((Gd.lp (by omega) ⟨q.1,by omega⟩ r (by simp;omega) (by omega) ((Yp p (by omega) (by omega) ?_ (by omega) ?_ ?_ pa pb j wt (by omega)).cat (fw p (by omega) ?_ (by omega) ?_ ?_ pn j wt hk s)) ?_).cat (Gd.mono (l9 p ⟨q.1,by omega⟩ r (by omega) g pd wd pn j (by omega)) ?_ (fun x h=>h))))) (fun x h=>h) (by simp)
 ·intro o ho;rcases Az.1 ho with ho|ho
  ·simp at ho;rcases ho with rfl|rfl<;>simp[Ft,cK,Fq]<;>omega
  ·intro x f;have:=zsr o ho x f;omega
 ·simp;exact⟨m,by omega⟩
 ·simp;omega
 ·intro x f;rcases Az.1 f with f|f
  ·exact g x f
  ·simp at f;omega
 ·simp;exact⟨m,by omega⟩
 ·simp;omega
 ·intro x f;rcases Az.1 f with f|f
  ·exact g x f
  ·simp at f;omega
 ·intro x f;exact A0 _ f
 ·intro x f;simp at f;simp[f]
end into
end Go.Sv
namespace Go.Sv
def rgR (R x:Int):Prop:=x=-1∨(R≤x∧x<R+14)
structure OpG (nb:Nat) (R lo hi:Int) (o:Lo):Prop where
 k:o.kind≠16∧o.kind≠17
 d:rgR R o.d
 e:rgR R o.e
 a:rgR R o.a∨(lo≤o.a∧o.a≤hi)
 b:rgR R o.b
 c:rgR R o.c
 m:(o.kind=14∨o.kind=15)→o.a=-1∨(lo≤o.a∧o.a≤hi)
 f:o.buf.toNat<nb
def LpG (lev:Int)(o:Lo):Prop:=o.kind=16∧o.d=lev∧o.e=-1∧o.a=-1∧o.b=-1∧o.c=-1∧1≤o.imm.toNat
section al
variable {nb : Nat} {R lo hi : Int}
end al
end Go.Sv
namespace Go.Sv
section into
variable {nb : Nat} {R lo hi D k : Int} {d a b n t : Pn}
end into
noncomputable def Tf:Nat→Int→Fr Lo→Fr Lo
 |0,_,f=>f
 |n+1,i,f=>.loop (Lk i 1) (Tf n (i+1) f) O6 .nil
def Iz:Nat→Int→List Lo
 |0,_=>[]
 |n+1,i=>⟨16,i,-1,-1,-1,-1,0,1⟩::Iz n (i+1)
def wrap_flat:∀(n:Nat) (i:Int) (f:Fr Lo),(Tf n i f).flat=Iz n i++(f.flat++List.replicate n O6)
 |0,_,f=>by simp[Tf,Iz]
 |n+1,i,f=>by
  rw[Tf,Fr.flat,wrap_flat n,Iz,List.replicate_succ'];simp[Fr.flat,Lk,iU1]
def Sm {bs:List Bf}:∀(n:Nat) (i:Int) (ls:List Int) (f:Fr Lo),0≤i→i+n≤7→(ls.length:Int)=i→(∀x∈ls,x<i)→(∀g:List Int,(g.length:Int)=i+n→(∀x∈g,x<i+n)→Gd bs [] g f [])→Gd bs [] ls (Tf n i f) []
 |0,i,ls,f,_,_,m,l,h=>by simpa [Tf] using h ls (by simpa using m) (by simpa using l)
 |n+1,i,ls,f,p,r,m,l,h=>by
  refine .loop (by omega) (by omega) (fun q=>by have:=l _ q;omega) (by omega) (Gd.mono (Sm n (i+1) (ls++[i]) f (by omega) (by omega) (by simp;omega) (fun x j=>?_) fun g s o=>?_) (by simp) (by simp)) (S':=[]) (by simp) .nil
  ·rcases Az.1 j with q|q
   ·have:=l x q;omega
   ·simp at q;omega
  ·exact h g (by omega) fun x j=>by have:=o x j;omega
def Sj {sz:Nat→Nat}{Q:Fs→Prop}:∀(n:Nat) (i:Nat) (f:Fr Lo) (s:Fs),(∀g:Fs,g.m=s.m→Tx sz f g Q)→Tx sz (Tf n i f) s Q
 |0,_,f,s,h=>h s rfl
 |n+1,i,f,s,h=>by
  have m:(Lk (i:Int) 1).imm.toNat=1:=by simp[Lk,iU1]
  refine .loop (I:=fun j g=>if j=0 then g=s else Q g) rfl (fun j g o l=>?_) fun g l=>?_
  ·rw[m] at o;have:j=0:=by omega
   subst this;rw[Ag rfl] at l;subst l;exact (Sj n (i+1) f _ fun s2 p=>h s2 (by rw[p];rfl)).mono fun r q=>by simpa using q
  ·rw[m,Ab (by omega)] at l;exact .nil l
end Go.Sv
namespace Go.Sv
def Qs (k:Nat):(18446744073709551616:Nat)^k=2^(64*k):=by rw[Nat.pow_mul]
def Wd {P D T N Q a inv:Nat}(hi:P*inv%N=1%N)(h:P*D+a*N=T+Q*N)(d:D<N):D=T*inv%N:=by
 have f:(P*D)%N=T%N:=by
  have:=congrArg (· % N) h;simpa using this
 have g:D*(P*inv)%N=T*inv%N:=by
  rw[show D*(P*inv)=P*D*inv by grind,B1,f,←B1]
 rw[←g,B1,hi,←B1,Da,Bd d]
def l7 {f:Fr Lo}{bs:List Bf}{X:List (List UInt64)}{Q:Fs→Prop}(h:f.wf I9)(g:f.regs bs.length []=true)(j:f.costZ≤800000000)
  (p:Tx (Z4 (Il 64 bs X)) f (La (Il 64 bs X)) Q) :
  ∃T d t,T≤800000000∧H6 f.flat (f.ends 0) T (Il 64 bs X)=some d∧d.i=f.flat.length∧Rep bs.length (Z4 (Il 64 bs X)) d t∧Q t∧d.l.length≤f.costZ:=by
 have m:(Il 64 bs X).r.length=64:=by simp[Il]
 have a:=Rep.abs (Il 64 bs X) m;have o:(Il 64 bs X).bufs.length=bs.length:=by simp[Il,L5]
 rw[o] at a;obtain⟨t,q,s⟩:=p;obtain⟨T,d,w,x,_,y,z,A⟩:=zhe (os:=f.flat) (es:=f.ends 0) f 0 [] [] [] (Il 64 bs X) (La (Il 64 bs X)) t h g (by simp) (by simp) rfl rfl a q;refine⟨T,d,t,by omega,w,by rw[x,Fr.flat_len,Be],y,s,?_⟩;have:(Il 64 bs X).l.length=0:=rfl;omega
def costZ_le:∀f:Fr Lo,f.costZ≤2*f.stp
 |.nil=>by simp[Fr.costZ]
 |.op _ r=>by have:=costZ_le r;rw[Fr.costZ,Fr.stp];omega
 |.loop o b _ r=>by
  have d:=costZ_le b;have g:=costZ_le r;have a:o.imm.toNat*(b.costZ+2)≤o.imm.toNat*(2*(1+b.stp)):=Es _ (by omega);rw[E8] at a;rw[Fr.costZ,Fr.stp];omega
noncomputable def Pu (l:List UInt64)(i:Nat):UInt64:=if l=[] then 0 else l.getD (i%l.length) 0*iU (1+((i/l.length:Nat):Int)*2)+iU ((i/l.length:Nat):Int)
noncomputable def zk (l:List UInt64)(n:Nat):List UInt64:=(List.range n).map (Pu l)
def zq8 (l:List UInt64)(n:Nat):(zk l n).length=n:=by simp[zk]
def yi (d times:Int)(b:Fr Lo)(a:times≤1000000):(Ha d times b).stp≤times.toNat*(1+b.stp):=by
 unfold Ha;split
 ·simp[Fr.stp]
 ·obtain⟨n,rfl⟩:=Af (show 0≤times by omega);rw[Fr.stp,Fr.stp];have:(Lk d (n:Int)).imm.toNat=n:=Ol (by omega);rw[this];simp
section facts
variable {k y e r d : Nat}
def wrap_stp:∀(n:Nat) (i:Int) (f:Fr Lo),(Tf n i f).stp=n+f.stp
 |0,_,_=>by simp[Tf]
 |n+1,i,f=>by
  rw[Tf,Fr.stp,Fr.stp,wrap_stp n];have:(Lk i 1).imm.toNat=1:=by simp[Lk,iU1]
  rw[this];omega
end facts
end Go.Sv
namespace Go.Sv
def vl_get:∀{n:Nat} {f:Nat→UInt64} {l:List UInt64},l.length≤n→(∀i,i<n→f i=l.getD i 0)→vl f n=val l
 |0,f,l,h,_=>by
  have:l=[]:=Ay (by omega);subst this;simp[vl,val]
 |n+1,f,l,h,a=>by
  rw[zop];cases l with
  |nil =>
   have d:=a 0 (by omega);have g:=vl_get (n:=n) (f:=fun i=>f (i+1)) (l:=[]) (by simp) (fun i hi=>by have:=a (i+1) (by omega);simpa using this);rw[g,d];simp[val]
  |cons x l =>
   have d:=a 0 (by omega);have g:=vl_get (n:=n) (f:=fun i=>f (i+1)) (l:=l) (by simp at h;omega) (fun i hi=>by have:=a (i+1) (by omega);simpa using this);rw[g,d];simp[val]
section facts
variable {k : Nat}
end facts
end Go.Sv
namespace Go.Sv
def Kj (x:Int):Bool:=decide (x<16)
def Kz (x:Int):Bool:=decide (x<0) || decide (16≤x)
def Oj (o:Lo):Bool :=
 if o.kind=16 then decide (0≤o.d)&&decide (o.d<16)
 else if o.kind=17 then true
 else if o.kind=14∨o.kind=15 then Kj o.a&&(Kz o.d&&Kz o.e)
 else (Kz o.d&&Kz o.e) || (Kj o.a&&(Kj o.b&&Kj o.c))
structure Lock (s t:Ms):Prop where
 i:s.i=t.i
 first:s.first=t.first
 l:s.l=t.l
 rs:s.r.length=64
 rt:t.r.length=64
 low:∀x,x<16→s.r.getD x 0=t.r.getD x 0
 bufs:s.bufs.map List.length=t.bufs.map List.length
section lock
variable {s t s' t' : Ms} {os : List Lo} {es : List Int}
def Lock.at (h:Lock s t){x:Int}(hx:Kj x=true):atR s.r x=atR t.r x:=by
 unfold Kj at hx;have hx:=Dc hx;unfold atR;by_cases q:x<0
 ·rw[Ag q,Ag q]
 ·rw[Ab q,Ab q];exact h.low _ (by omega)
def Uv {r:List UInt64}{x:Int}{v:UInt64}(h:Kz x=true){y:Nat}(a:y<16):(Fw r x v).getD y 0=r.getD y 0:=by
 unfold Kz at h;simp only[Bn,Ao] at h;unfold Fw;split
 ·simp only[Ae];rw[Ad (by omega)]
 ·rfl
def zhj {r q:List UInt64}{x:Int}{v:UInt64}(d:r.length=64)(f:q.length=64)(h:∀y,y<16→r.getD y 0=q.getD y 0):∀y,y<16→(Fw r x v).getD y 0=(Fw q x v).getD y 0:=fun y a=>by
 unfold Fw;split
 ·by_cases g:x.toNat<64
  ·rw[Vf _ _ _ _ _ (by omega),Vf _ _ _ _ _ (by omega)];split
   ·rfl
   ·exact h y a
  ·rw[List.set_eq_of_length_le (by omega),List.set_eq_of_length_le (by omega)];exact h y a
 ·exact h y a
def O7 {r:List UInt64}{x:Int}{v:UInt64}(h:r.length=64):(Fw r x v).length=64:=by unfold Fw;split<;>simp[h]
def Lock.row (h:Lock s t)(x:Int):(Mf s.bufs x).length=(Mf t.bufs x).length:=by
 have hb:=congrArg (fun l=>l.getD x.toNat 0) h.bufs;simp only[Ae,Ce] at hb;unfold Mf;simp only[Ae];cases h1:s.bufs[x.toNat]?<;>cases h2:t.bufs[x.toNat]?<;>simp[h1,h2] at hb ⊢<;>first|exact hb|skip
def Lock.step (h:Lock s t)(he:∀(i:Nat) (o p:Lo),os[i]?=some o→o.kind=17→os[(es.getD i 0).toNat]?=some p→p.kind=16)(ho:∀o∈os,Oj o=true)(hs:Jw os es s=some s')(ht:Jw os es t=some t'):Lock s' t':=by
 unfold Jw at hs ht;rw[←h.i] at ht;cases aa:os[s.i]? with
 |none =>
  rw[aa] at hs ht;cases hs;cases ht;exact h
 |some o =>
 rw[aa] at hs ht;dsimp only at hs ht;have hl:=ho o (A7 aa);unfold Oj at hl;by_cases aj:o.kind=16
 ·rw[Ag aj] at hs ht hl;cases hs;cases ht;simp only[Ac,Ao] at hl;rw[←h.first];cases s.first
  ·exact⟨by simp[h.i],rfl,by simp[h.l,h.i],h.rs,h.rt,h.low,h.bufs⟩
  ·exact⟨by simp[h.i],rfl,by simp[h.l,h.i],O7 h.rs,O7 h.rt,zhj h.rs h.rt h.low,h.bufs⟩
 rw[Ab aj] at hs ht hl;by_cases ag:o.kind=17
 ·rw[Ag ag] at hs ht;cases hp:os[(es.getD s.i 0).toNat]? with
  |none=>rw[hp] at hs;cases hs
  |some p =>
  rw[hp] at hs ht;dsimp only at hs ht;have kp:=he _ _ _ aa ag hp;have ah:=ho p (A7 hp);unfold Oj at ah;rw[Ag kp] at ah;simp only[Ac,Ao] at ah;rw[←h.at (x:=p.d) (by unfold Kj;exact B5 (by omega))] at ht;split at hs
  ·rename_i g;rw[Ag g] at ht;cases hs;cases ht;exact⟨rfl,rfl,h.l,O7 h.rs,O7 h.rt,zhj h.rs h.rt h.low,h.bufs⟩
  ·rename_i g;rw[Ab g] at ht;cases hs;cases ht;exact⟨by simp[h.i],h.first,h.l,h.rs,h.rt,h.low,h.bufs⟩
 rw[Ab ag] at hs ht hl;unfold Nl at hs ht;by_cases ad:o.kind=14
 ·rw[Ag (.inl ad)] at hl;simp only[Ac] at hl;rw[Ag ad,←h.at hl.1,←h.row] at ht;rw[Ag ad] at hs;split at hs
  ·rename_i g;rw[Ag g] at ht;cases hs;cases ht;exact⟨by simp[h.i],h.first,by simp[h.l,h.i],O7 (O7 h.rs),O7 (O7 h.rt),fun x hx=>by rw[Uv hl.2.2 hx,Uv hl.2.1 hx,Uv hl.2.2 hx,Uv hl.2.1 hx];exact h.low x hx,h.bufs⟩
  ·cases hs
 rw[Ab ad] at hs ht;by_cases af:o.kind=15
 ·rw[Ag (.inr af)] at hl;simp only[Ac] at hl;rw[Ag af,←h.at hl.1,←h.row] at ht;rw[Ag af] at hs;split at hs
  ·rename_i g;rw[Ag g] at ht;cases hs;cases ht;refine⟨by simp[h.i],h.first,by simp[h.l,h.i],O7 (O7 h.rs),O7 (O7 h.rt),fun x hx=>by rw[Uv hl.2.2 hx,Uv hl.2.1 hx,Uv hl.2.2 hx,Uv hl.2.1 hx];exact h.low x hx,?_⟩;simp only[B3,Ch];rw[h.row,h.bufs]
  ·cases hs
 rw[Ab af] at hs ht;rw[Ab (by omega)] at hl;cases hs;cases ht;simp only[Bn,Ac] at hl;refine⟨by simp[h.i],h.first,by simp[h.l,h.i],O7 (O7 h.rs),O7 (O7 h.rt),fun x hx=>?_,h.bufs⟩;rcases hl with ⟨h1,h2⟩|⟨h1,h2,h3⟩
 ·show (Fw (Fw s.r o.d _) o.e _).getD x 0=(Fw (Fw t.r o.d _) o.e _).getD x 0;rw[Uv h2 hx,Uv h1 hx,Uv h2 hx,Uv h1 hx];exact h.low x hx
 ·show (Fw (Fw s.r o.d _) o.e _).getD x 0=(Fw (Fw t.r o.d _) o.e _).getD x 0;rw[h.at h1,h.at h2,h.at h3];exact zhj (O7 h.rs) (O7 h.rt) (zhj h.rs h.rt h.low) x hx
def Lock.step_some (h:Lock s t)(ho:∀o∈os,Oj o=true)(hs:Jw os es s=some s'):∃t',Jw os es t=some t':=by
 unfold Jw at hs ⊢;rw[←h.i];cases af:os[s.i]? with
 |none=>exact⟨_,rfl⟩
 |some o =>
 rw[af] at hs;dsimp only at hs ⊢;have hl:=ho o (A7 af);unfold Oj at hl;by_cases ag:o.kind=16
 ·rw[Ag ag];exact⟨_,rfl⟩
 rw[Ab ag] at hs hl ⊢;by_cases ah:o.kind=17
 ·rw[Ag ah] at hs ⊢;cases hp:os[(es.getD s.i 0).toNat]? with
  |none=>rw[hp] at hs;cases hs
  |some p =>
   dsimp only;split<;>exact⟨_,rfl⟩
 rw[Ab ah] at hs hl ⊢;unfold Nl at hs ⊢;by_cases aa:o.kind=14
 ·rw[Ag (.inl aa)] at hl;simp only[Ac] at hl;rw[Ag aa] at hs ⊢;rw[←h.at hl.1,←h.row];split at hs
  ·rename_i g;rw[Ag g];exact⟨_,rfl⟩
  ·cases hs
 rw[Ab aa] at hs ⊢;by_cases ad:o.kind=15
 ·rw[Ag (.inr ad)] at hl;simp only[Ac] at hl;rw[Ag ad] at hs ⊢;rw[←h.at hl.1,←h.row];split at hs
  ·rename_i g;rw[Ag g];exact⟨_,rfl⟩
  ·cases hs
 rw[Ab ad];exact⟨_,rfl⟩
def Lock.run_some (he:∀(i:Nat) (o p:Lo),os[i]?=some o→o.kind=17→os[(es.getD i 0).toNat]?=some p→p.kind=16)(ho:∀o∈os,Oj o=true):∀(n:Nat) (s t s':Ms),Lock s t→H6 os es n s=some s'→∃t',H6 os es n t=some t'∧Lock s' t'
 |0,s,t,s',h,hs=>by cases hs;exact⟨t,rfl,h⟩
 |n+1,s,t,s',h,hs=>by
  unfold H6 at hs ⊢;split at hs
  ·cases hs
  ·rename_i s1 h1;obtain⟨t1,h2⟩:=h.step_some ho h1;rw[h2];exact Lock.run_some he ho n s1 t1 s' (h.step he ho h1 h2) hs
def stay {os:List Lo}{es:List Int}{s:Ms}(h:os[s.i]?=none):∀n,H6 os es n s=some s
 |0=>rfl
 |n+1=>by
  have:Jw os es s=some s:=by unfold Jw;rw[h]
  unfold H6;rw[this];exact stay h n
end lock
end Go.Sv
namespace Go.Sv
section facts
variable {bs : List Bf} {d a b n t : Pn} {k R e nb : Nat}
end facts
end Go.Sv
namespace Go.Sv
def zvc {bs:List Bf}{X Y:List (List UInt64)}(h:∀i,i<bs.length→(X.getD i []).length=(Y.getD i []).length):Lock (Il 64 bs X) (Il 64 bs Y):=by
 refine⟨rfl,rfl,rfl,by simp[Il],by simp[Il],fun x _=>rfl,?_⟩;show (L5 bs X bs.length).map List.length=(L5 bs Y bs.length).map List.length;unfold L5;rw[List.map_map,List.map_map];refine List.map_congr_left fun i hi=>?_
 have:=h i (Cr.1 hi);simp only[Function.comp,Oi,Aj,List.length_replicate];omega
def To {f:Fr Lo}(hw:f.wf I9):∀(i:Nat) (o p:Lo),f.flat[i]?=some o→o.kind=17→f.flat[((f.ends 0).getD i 0).toNat]?=some p→p.kind=16:=fun i o p ho hk a=>by
 obtain⟨k,j,d,g,h⟩:=ends_at f 0 i o hw ho hk;rw[Ae,d] at a;simp only[Cc,A8,Be] at a;rw[g] at a;rw[←Option.some.inj a];exact h
def zxx {os:List Lo}{es:List Int}{b:Nat}(l:∀o∈os,¬(o.kind=15∧o.buf.toNat=b)){s m:Ms}(h:Jw os es s=some m):m.bufs.getD b []=s.bufs.getD b []∧m.bufs.length=s.bufs.length:=by
 unfold Jw at h;cases a:os[s.i]? with
 |none=>rw[a] at h;cases h;exact⟨rfl,rfl⟩
 |some o =>
 rw[a] at h;dsimp only at h;have p:=l o (A7 a);by_cases f:o.kind=16
 ·rw[Ag f] at h;cases h;exact⟨rfl,rfl⟩
 rw[Ab f] at h;by_cases g:o.kind=17
 ·rw[Ag g] at h;split at h
  ·cases h
  ·split at h<;>(cases h;exact⟨rfl,rfl⟩)
 rw[Ab g] at h;unfold Nl at h;by_cases j:o.kind=14
 ·rw[Ag j] at h;split at h
  ·cases h;exact⟨rfl,rfl⟩
  ·cases h
 rw[Ab j] at h;by_cases d:o.kind=15
 ·rw[Ag d] at h;split at h
  ·cases h;refine⟨?_,by simp⟩;simp only[Ae];rw[Ad (fun q=>p ⟨d,q⟩)]
  ·cases h
 rw[Ab d] at h;cases h;exact⟨rfl,rfl⟩
def ztv {os:List Lo}{es:List Int}{b:Nat}(d:∀o∈os,¬(o.kind=15∧o.buf.toNat=b)):∀(n:Nat) (s a:Ms),H6 os es n s=some a→a.bufs.getD b []=s.bufs.getD b []∧a.bufs.length=s.bufs.length
 |0,s,a,h=>by cases h;exact⟨rfl,rfl⟩
 |n+1,s,a,h=>by
  unfold H6 at h;split at h
  ·cases h
  ·rename_i s1 f;obtain⟨g,j⟩:=zxx d f;obtain⟨l,m⟩:=ztv d n s1 a h;exact⟨l.trans g,m.trans j⟩
def Qk (sz:Nat→Nat):(Nat→Option Nat)→Fr Lo→Prop
 |_,.nil=>True
 |bd,.op o r=>(Kz o.d=true∧Kz o.e=true)∧(o.kind=14∨o.kind=15→(o.a=-1∧o.imm.toNat<sz o.buf.toNat)∨∃x m:Nat,o.a=x∧x<16∧bd x=some m∧o.imm.toNat+m≤sz o.buf.toNat∧sz o.buf.toNat≤65536)∧Qk sz bd r
 |bd,.loop o b _ r=>((0≤o.d∧o.d<16)∧b.noW o.d.toNat=true)∧Qk sz (fun x=>if x=o.d.toNat then some o.imm.toNat else bd x) b∧Qk sz (fun x=>if x=o.d.toNat then none else bd x) r
def zrj (bd:Nat→Option Nat)(s:Fs):Prop:=∀x m,x<16→bd x=some m→(s.r x).toNat<m
def z9p {s:Fs}{d:Int}{v:UInt64}(h:Kz d=true){x:Nat}(a:x<16):(Jr s d v).r x=s.r x:=by
 unfold Kz at h;simp only[Bn,Ao] at h;exact sy (by omega)
def iu {sz:Nat→Nat}{bd:Nat→Option Nat}{o:Lo}{s:Fs}(p:zrj bd s)(hd:Kz o.d=true)(he:Kz o.e=true)
  (hm:o.kind=14∨o.kind=15→(o.a=-1∧o.imm.toNat<sz o.buf.toNat)∨∃x m:Nat,o.a=x∧x<16∧bd x=some m∧o.imm.toNat+m≤sz o.buf.toNat∧sz o.buf.toNat≤65536):∃l,I3 sz o s=some l∧∀x,x<16→l.r x=s.r x:=by
 have g:o.kind=14∨o.kind=15→(o.imm+Lr s o.a).toNat<sz o.buf.toNat:=fun hk=>by
  rcases hm hk with ⟨e,h⟩|⟨x,m,e,a,j,q,r⟩
  ·unfold Lr;rw[e,Ag (by decide),UInt64.add_zero];exact h
  ·have w:=p x m a j;unfold Lr;rw[e,Ab (by omega),A8,Bs,Bd (by omega)];omega
 unfold I3;by_cases d:o.kind=14
 ·rw[Ag d,Ag (g (.inl d))];exact⟨_,rfl,fun x a=>by rw[z9p he a,z9p hd a]⟩
 rw[Ab d];by_cases f:o.kind=15
 ·rw[Ag f,Ag (g (.inr f))];exact⟨_,rfl,fun x a=>by rw[z9p he a,z9p hd a];rfl⟩
 rw[Ab f];exact⟨_,rfl,fun x a=>by rw[z9p he a,z9p hd a]⟩
def zez {sz:Nat→Nat}:∀(f:Fr Lo) (bd:Nat→Option Nat) (s:Fs),Qk sz bd f→zrj bd s→(∀x m,bd x=some m→f.noW x=true)→∃w,Lz sz f s=some w∧∀x m,x<16→bd x=some m→w.r x=s.r x
 |.nil,_,s,_,_,_=>⟨s,rfl,fun _ _ _ _=>rfl⟩
 |.op o r,bd,s,h,y,hw=>by
  obtain⟨⟨F,G⟩,D,E⟩:=h;obtain⟨s1,z,p⟩:=iu y F G D;obtain⟨s2,A,B⟩:=zez r bd s1 E (fun x m d a=>by rw[p x d];exact y x m d a) (fun x m a=>by
   have:=hw x m a;simp only[Fr.noW,Ac] at this;exact this.2.2)
  refine⟨s2,?_,fun x m d a=>(B x m d a).trans (p x d)⟩;unfold Lz;rw[z];exact A
 |.loop o b e r,bd,s,h,y,hw=>by
  obtain⟨⟨⟨F,G⟩,H⟩,D,E⟩:=h;have g:∀x m,bd x=some m→x≠o.d.toNat∧b.noW x=true∧r.noW x=true:=fun x m a=>by
   have:=hw x m a;simp only[Fr.noW,Ac,Bu,Bl] at this;exact⟨fun q=>this.1 q.symm,this.2.1,this.2.2⟩
  have I:=o.imm.toNat_lt;have rounds:∀(n j:Nat) (s:Fs),j+n=o.imm.toNat→zrj bd s→∃w,Zt (Lz sz b) o.d.toNat n j s=some w∧∀x m,x<16→bd x=some m→w.r x=s.r x:=by
   intro n
   induction n with
   |zero=>intro j s _ _;exact⟨s,rfl,fun _ _ _ _=>rfl⟩
   |succ n J =>
    intro j s K C;have l:∀x,(s.put o.d.toNat (UInt64.ofNat j)).r x=if x=o.d.toNat then UInt64.ofNat j else s.r x:=fun x=>rfl
    obtain⟨s1,z,p⟩:=zez b _ (s.put o.d.toNat (UInt64.ofNat j)) D (fun x m d a=>by
     rw[l];by_cases q:x=o.d.toNat
     ·rw[Ag q] at a ⊢;cases a;rw[Bo];rw[Bd (by omega)];omega
     ·rw[Ab q] at a ⊢;exact C x m d a) (fun x m a=>by
     by_cases q:x=o.d.toNat
     ·rw[q];exact H
     ·rw[Ab q] at a;exact (g x m a).2.1)
    have keep:∀x m,x<16→bd x=some m→s1.r x=s.r x:=fun x m d a=>by
     have q:=(g x m a).1;rw[p x m d (by rw[Ab q];exact a),l,Ab q]
    obtain⟨s2,A,B⟩:=J (j+1) s1 (by omega) (fun x m d a=>by rw[keep x m d a];exact C x m d a);refine⟨s2,?_,fun x m d a=>(B x m d a).trans (keep x m d a)⟩;unfold Zt;rw[z];exact A
  obtain⟨s1,z,p⟩:=rounds o.imm.toNat 0 s (by omega) y;obtain⟨s2,A,B⟩:=zez r _ s1 E (fun x m d a=>by
   by_cases q:x=o.d.toNat
   ·rw[Ag q] at a;cases a
   ·rw[Ab q] at a;rw[p x m d a];exact y x m d a) (fun x m a=>by
   by_cases q:x=o.d.toNat
   ·rw[Ag q] at a;cases a
   ·rw[Ab q] at a;exact (g x m a).2.2)
  refine⟨s2,?_,fun x m d a=>?_⟩
  ·unfold Lz;rw[z];exact A
  ·have q:=(g x m a).1;rw[B x m d (by rw[Ab q];exact a)];exact p x m d a
def Kq (sz:Nat→Nat)(bd:Nat→Option Nat)(o:Lo):Prop:=(Kz o.d=true∧Kz o.e=true)∧(o.kind=14∨o.kind=15→(o.a=-1∧o.imm.toNat<sz o.buf.toNat)∨∃x m:Nat,o.a=x∧x<16∧bd x=some m∧o.imm.toNat+m≤sz o.buf.toNat∧sz o.buf.toNat≤65536)
section run
variable {sz : Nat → Nat} {bd : Nat → Option Nat}
def safe_L:∀{l:List Lo},(∀o∈l,Kq sz bd o)→Qk sz bd (Fl l)
 |[],_=>trivial
 |o::_,h=>⟨(h o (B6 ..)).1,(h o (B6 ..)).2,safe_L fun x a=>h x (A0 _ a)⟩
def safe_cat:∀{f g:Fr Lo} {bd:Nat→Option Nat},Qk sz bd f→(∀a:Nat→Option Nat,(∀x m,bd x=some m→f.noW x=true→a x=some m)→Qk sz a g)→Qk sz bd (f.cat g)
 |.nil,_,bd,_,h=>h bd fun _ _ e _=>e
 |.op o r,g,bd,d,h=>⟨d.1,d.2.1,safe_cat d.2.2 fun a l=>h a fun x m e j=>l x m e (by
   simp only[Fr.noW,Ac] at j;exact j.2.2)⟩
 |.loop o b e r,g,bd,d,h=>⟨d.1,d.2.1,safe_cat d.2.2 fun a l=>h a fun x m q j=>by
   simp only[Fr.noW,Ac,Bu,Bl] at j;exact l x m (by rw[Ab (fun w=>j.1 w.symm)];exact q) j.2.2⟩
def sj {D:Nat}(d:D<16):∀{l:List Lo},(∀o∈l,Kz o.d=true∧Kz o.e=true)→(Fl l).noW D=true
 |[],_=>rfl
 |o::l,h=>by
  have a:=h o (B6 ..);have f:=sj d (l:=l) fun x g=>h x (A0 _ g)
  unfold Kz at a;simp only[Bn,Ao] at a;show (!decide (o.d=D)&&(!decide (o.e=D)&&(Fl l).noW D))=true;rw[f];simp;omega
def wc {D:Nat}:∀(f g:Fr Lo),(f.cat g).noW D=(f.noW D&&g.noW D)
 |.nil,g=>by simp[Fr.cat,Fr.noW]
 |.op o r,g=>by simp only[Fr.cat,Fr.noW,wc r g,Bool.and_assoc]
 |.loop o b e r,g=>by simp only[Fr.cat,Fr.noW,wc r g,Bool.and_assoc]
def wq {D E n:Nat}{b:Fr Lo}(h:E≠D)(a:b.noW D=true):(Ha (E:Nat) (n:Nat) b).noW D=true:=by
 unfold Ha;split
 ·rfl
 ·simp[Fr.noW,Lk,a,h]
def zzg {D n:Nat}{b:Fr Lo}(h:D<16)(j:n<1000000)(hw:b.noW D=true)(a:Qk sz (fun x=>if x=D then some n else bd x) b):Qk sz bd (Ha (D:Nat) (n:Nat) b):=by
 unfold Ha;split
 ·trivial
 ·refine⟨⟨⟨by show (0:Int)≤D;omega,by show (D:Int)<16;omega⟩,hw⟩,?_,trivial⟩;have f:(Lk (D:Nat) (n:Nat)).d.toNat=D:=by simp[Lk]
  have g:(Lk (D:Nat) (n:Nat)).imm.toNat=n:=Ol (by omega);rw[f,g];exact a
def eh {x:Int}(h:16≤x):Kz x=true:=by unfold Kz;simp;omega
def high_m1:Kz (-1)=true:=by decide
def zoj {o:Lo}(hk:o.kind≠14∧o.kind≠15)(hd:Kz o.d=true)(he:Kz o.e=true):Kq sz bd o:=⟨⟨hd,he⟩,fun h=>by omega⟩
def zt0 {p:Pn}{off:Nat}(h:p.a+off<18446744073709551616):(iU (p.p.at_+(off:Int))).toNat=p.a+off:=Rj h
def xf {p:Pn}{d:Int}{off:Nat}(hd:16≤d)(h:p.a+off<sz p.b)(a:sz p.b≤65536):Kq sz bd (Fq d p.p (-1) (off:Nat)) :=
 ⟨⟨eh hd,high_m1⟩,fun _=>.inl ⟨rfl,by show (iU (p.p.at_+(off:Int))).toNat<sz p.b;rw[zt0 (by omega)];exact h⟩⟩
def um {p:Pn}{d:Int}{x m off:Nat}(hd:16≤d)(a:x<16)(f:bd x=some m)(h:p.a+off+m≤sz p.b)(g:sz p.b≤65536):Kq sz bd (Fq d p.p (x:Nat) (off:Nat)) :=
 ⟨⟨eh hd,high_m1⟩,fun _=>.inr ⟨x,m,rfl,a,f,by show (iU (p.p.at_+(off:Int))).toNat+m≤sz p.b;rw[zt0 (by omega)];exact h,g⟩⟩
def znj {p:Pn}{v:Int}{off:Nat}(h:p.a+off<sz p.b)(a:sz p.b≤65536):Kq sz bd (Fx p.p (-1) (off:Nat) v) :=
 ⟨⟨high_m1,high_m1⟩,fun _=>.inl ⟨rfl,by show (iU (p.p.at_+(off:Int))).toNat<sz p.b;rw[zt0 (by omega)];exact h⟩⟩
def zmk {p:Pn}{v:Int}{x m off:Nat}(a:x<16)(d:bd x=some m)(h:p.a+off+m≤sz p.b)(f:sz p.b≤65536):Kq sz bd (Fx p.p (x:Nat) (off:Nat) v) :=
 ⟨⟨high_m1,high_m1⟩,fun _=>.inr ⟨x,m,rfl,a,d,by show (iU (p.p.at_+(off:Int))).toNat+m≤sz p.b;rw[zt0 (by omega)];exact h,f⟩⟩
def ok_nil:∀o∈([]:List Lo),Kq sz bd o:=fun _ h=>by cases h
def Iu {o:Lo}{l:List Lo}(h:Kq sz bd o)(k:∀x∈l,Kq sz bd x):∀x∈o::l,Kq sz bd x:=fun x a=>by
 rcases An.1 a with rfl|a
 ·exact h
 ·exact k x a
def Ym {l r:List Lo}(h:∀x∈l,Kq sz bd x)(k:∀x∈r,Kq sz bd x):∀x∈l++r,Kq sz bd x:=fun x a=>(Az.1 a).elim (h x) (k x)
def Qt {d:Int}{v:UInt64}(h:16≤d):Kq sz bd (cK d v):=zoj (by simp[cK]) (eh h) high_m1
def zo8 {h l a b:Int}(d:16≤h)(f:16≤l):Kq sz bd (F9 h l a b):=zoj (by simp[F9]) (eh d) (eh f)
def zj {k d o a b c:Int}(hk:k≠14∧k≠15)(hd:16≤d)(ho:16≤o):Kq sz bd (F3 k d o a b c):=zoj hk (eh hd) (eh ho)
def zb {k d a b:Int}(hk:k≠14∧k≠15)(hd:16≤d):Kq sz bd (Fg k d a b):=zoj hk (eh hd) high_m1
def uc {d c a b:Int}(hd:16≤d):Kq sz bd (Gg d c a b):=zoj (by simp[Gg]) (eh hd) high_m1
def zss {R a b:Int}(d:16≤R):∀o∈Gc R a b,Kq sz bd o :=
 Iu (zo8 (by omega) (by omega)) (Iu (zj (by omega) (by omega) (by omega)) (Iu (zj (by omega) (by omega) (by omega)) (Iu (zb (by omega) (by omega)) (Iu (zb (by omega) (by omega)) ok_nil))))
def zhc {D n:Nat}{L:List Lo}(d:D<16)(f:n<1000000)(h:∀a:Nat→Option Nat,a D=some n→∀o∈L,Kq sz a o):Qk sz bd (Ha (D:Nat) (n:Nat) (Fl L)) :=
 zzg d f (sj d fun o ho=>(h (fun _=>some n) rfl o ho).1) (safe_L (h _ (Ag rfl)))
def zxm {D E n:Nat}{L:List Lo}(d:E<16)(a:D≠E)(h:∀o∈L,Kz o.d=true∧Kz o.e=true):(Ha (D:Nat) (n:Nat) (Fl L)).noW E=true:=wq a (sj d h)
def zlq {R D i k:Nat}{a b t:Pn}(F:16≤R)(d:D<16)(hi:i<16)(w:b.in_ sz)(x:a.in_ sz)(y:t.in_ sz){m:Nat}(f:bd i=some m)(hm:m≤b.k)(hk:k≤a.k)(z:k+2≤t.k)(g:k<1000000) :
  Qk sz bd (L8 a.p b.p t.p (k:Nat) (R:Nat) (D:Nat) (i:Nat))∧∀E,E<16→D≠E→(L8 a.p b.p t.p (k:Nat) (R:Nat) (D:Nat) (i:Nat)).noW E=true:=by
 obtain⟨G,A⟩:=w;obtain⟨H,B⟩:=x;obtain⟨t1,t2⟩:=y;have q:∀bd:Nat→Option Nat,bd i=some m→∀o∈[Fq ((R:Nat)+2:Int) b.p (i:Nat) ((0:Nat):Int),cK ((R:Nat)+3:Int) 0],Kq sz bd o:=fun bd h =>
  Iu (um (by omega) hi h (by omega) A) (Iu (Qt (by omega)) ok_nil)
 have r:∀bd:Nat→Option Nat,bd D=some k→∀o∈Mz a.p t.p (R:Nat) (D:Nat),Kq sz bd o:=fun bd h =>
  Ym (Iu (um (off:=0) (by omega) d h (by omega) B) (Iu (um (off:=0) (by omega) d h (by omega) t2) ok_nil)) (Ym (zss (by omega)) (Iu (zmk (off:=0) d h (by omega) t2) ok_nil))
 have s:∀bd:Nat→Option Nat,∀o∈Hi t.p (k:Nat) (R:Nat)++[Fx t.p (-1) (k:Nat) ((R:Nat)+7),Fx t.p (-1) ((k+1:Nat):Int) ((R:Nat)+8)],Kq sz bd o:=fun bd =>
  Ym (Iu (xf (by omega) (by omega) t2) (Iu (zj (by omega) (by omega) (by omega)) ok_nil)) (Iu (znj (by omega) t2) (Iu (znj (by omega) t2) ok_nil))
 refine⟨safe_cat (safe_L (q bd f)) fun C _=>safe_cat (zhc d g r) fun j _=>safe_L (s j),fun E l p=>?_⟩;have e:L8 a.p b.p t.p (k:Nat) (R:Nat) (D:Nat) (i:Nat)=(Fl [Fq ((R:Nat)+2:Int) b.p (i:Nat) ((0:Nat):Int),cK ((R:Nat)+3:Int) 0]).cat ((Ha (D:Nat) (k:Nat) (Fl (Mz a.p t.p (R:Nat) (D:Nat)))).cat
   (Fl (Hi t.p (k:Nat) (R:Nat)++[Fx t.p (-1) (k:Nat) ((R:Nat)+7),Fx t.p (-1) ((k+1:Nat):Int) ((R:Nat)+8)]))):=rfl
 rw[e,wc,wc,sj l fun o ho=>(q (fun _=>some m) rfl o ho).1,zxm l p fun o ho=>(r (fun _=>some k) rfl o ho).1,sj l fun o ho=>(s bd o ho).1];rfl
def zp1 {R D k:Nat}{n t:Pn}(z:16≤R)(a:D<16)(r:n.in_ sz)(s:t.in_ sz)(hk:k+1≤n.k)(w:k+3≤t.k)(d:k<1000000) :
  Qk sz bd (Mj n.p t.p ((k+1:Nat):Int) (R:Nat) (D:Nat))∧∀E,E<16→D≠E→(Mj n.p t.p ((k+1:Nat):Int) (R:Nat) (D:Nat)).noW E=true:=by
 obtain⟨A,l⟩:=r;obtain⟨t1,t2⟩:=s;have x:((k+1:Nat):Int) - 1=(k:Nat):=by omega
 have m:∀bd:Nat→Option Nat,∀o∈[Fq ((R:Nat)+7:Int) t.p (-1) ((0:Nat):Int),F9 ((R:Nat)+5) ((R:Nat)+10) ((R:Nat)+7) ((R:Nat)+1),Fq ((R:Nat)+4:Int) n.p (-1) ((0:Nat):Int),cK ((R:Nat)+3) 0]++Gc (R:Nat) ((R:Nat)+10) ((R:Nat)+4),Kq sz bd o:=fun bd =>
  Ym (Iu (xf (by omega) (by omega) t2) (Iu (zo8 (by omega) (by omega)) (Iu (xf (by omega) (by omega) l) (Iu (Qt (by omega)) ok_nil)))) (zss (by omega))
 have p:∀bd:Nat→Option Nat,bd D=some k→∀o∈Nc n.p t.p (R:Nat) (D:Nat),Kq sz bd o:=fun bd h =>
  Ym (Iu (um (off:=1) (by omega) a h (by omega) l) (Iu (um (off:=1) (by omega) a h (by omega) t2) ok_nil)) (Ym (zss (by omega)) (Iu (zmk (off:=0) a h (by omega) t2) ok_nil))
 have q:∀bd:Nat→Option Nat,∀o∈Hi t.p ((k+1:Nat):Int) (R:Nat)++[Fx t.p (-1) ((k:Nat):Int) ((R:Nat)+7),Fq ((R:Nat)+7) t.p (-1) ((k+2:Nat):Int),Fg 3 ((R:Nat)+7) ((R:Nat)+7) ((R:Nat)+8),Fx t.p (-1) ((k+1:Nat):Int) ((R:Nat)+7)],Kq sz bd o:=fun bd =>
  Ym (Iu (xf (by omega) (by omega) t2) (Iu (zj (by omega) (by omega) (by omega)) ok_nil)) (Iu (znj (by omega) t2) (Iu (xf (by omega) (by omega) t2) (Iu (zb (by omega) (by omega)) (Iu (znj (by omega) t2) ok_nil))))
 have e:Mj n.p t.p ((k+1:Nat):Int) (R:Nat) (D:Nat)=(Fl ([Fq ((R:Nat)+7:Int) t.p (-1) ((0:Nat):Int),F9 ((R:Nat)+5) ((R:Nat)+10) ((R:Nat)+7) ((R:Nat)+1),Fq ((R:Nat)+4:Int) n.p (-1) ((0:Nat):Int),cK ((R:Nat)+3) 0]++Gc (R:Nat) ((R:Nat)+10) ((R:Nat)+4))).cat
   ((Ha (D:Nat) (k:Nat) (Fl (Nc n.p t.p (R:Nat) (D:Nat)))).cat (Fl (Hi t.p ((k+1:Nat):Int) (R:Nat)++[Fx t.p (-1) ((k:Nat):Int) ((R:Nat)+7),Fq ((R:Nat)+7) t.p (-1) ((k+2:Nat):Int),Fg 3 ((R:Nat)+7) ((R:Nat)+7) ((R:Nat)+8),Fx t.p (-1) ((k+1:Nat):Int) ((R:Nat)+7)]))):=by
  unfold Mj;rw[x];rfl
 rw[e];refine⟨safe_cat (safe_L (m bd)) fun y _=>safe_cat (zhc a d p) fun f _=>safe_L (q f),fun E g j=>?_⟩;rw[wc,wc,sj g fun o ho=>(m bd o ho).1,zxm g j fun o ho=>(p (fun _=>some k) rfl o ho).1,sj g fun o ho=>(q bd o ho).1];rfl
end run
end Go.Sv
namespace Go.Sv
section run
variable {sz : Nat → Nat} {bd : Nat → Option Nat}
def zo0 {R D k:Nat}{n t:Pn}{x:List Lo}(r:16≤R)(a:D<16)(f:n.in_ sz)(g:t.in_ sz)(hk:k≤n.k)(j:k≤t.k)(d:k<1000000)(l:∀bd:Nat→Option Nat,bd D=some k→∀o∈x,Kq sz bd o) :
  Qk sz bd (Oq n.p t.p (k:Nat) (R:Nat) (D:Nat) x):=by
 obtain⟨s,m⟩:=f;obtain⟨t1,t2⟩:=g;have p:∀bd:Nat→Option Nat,bd D=some k→∀o∈Mr n.p t.p (R:Nat) (D:Nat)++x,Kq sz bd o:=fun bd h =>
  Ym (Iu (um (off:=0) (by omega) a h (by omega) t2) (Iu (um (off:=0) (by omega) a h (by omega) m) (Iu (zj (by omega) (by omega) (by omega)) ok_nil))) (l bd h)
 exact safe_cat (safe_L (Iu (Qt (by omega)) ok_nil)) fun q _=>zhc a d p
def Tt {R D k:Nat}{d n t:Pn}(j:16≤R)(g:D<16)(hd:d.in_ sz)(l:n.in_ sz)(f:t.in_ sz)(hk:k≤n.k)(m:k+1≤t.k)(o:k≤d.k)(a:k<1000000) :
  Qk sz bd (Q8 d.p n.p t.p (k:Nat) (R:Nat) (D:Nat)):=by
 unfold Q8;refine safe_cat (zo0 j g l f hk (by omega) a fun _ _=>ok_nil) fun p _=>safe_cat (safe_L (Iu (xf (by omega) (by have:=f.1;omega) f.2) (Iu (zj (by omega) (by omega) (by omega)) ok_nil))) fun q _=>zo0 j g l f hk (by omega) a fun bd h=>?_
 exact Iu (uc (by omega)) (Iu (zmk (off:=0) g h (by have:=hd.1;omega) hd.2) ok_nil)
def lu {n r:Int}(h:16≤r):∀o∈M8 n r,Kq sz bd o:=by
 have a:∀i,∀o∈Qx n r i,Kq sz bd o:=fun i o ho=>by
  unfold Qx at ho;obtain⟨_,_,ho⟩:=List.mem_flatMap.1 ho;exact Iu (zo8 (by omega) (by omega)) (Iu (zb (by omega) (by omega)) (Iu (zo8 (by omega) (by omega)) ok_nil)) o ho
 unfold M8;exact Ym (Iu (Qt (by omega)) (Iu (zo8 (by omega) (by omega)) (Iu (Qt (by omega)) (Iu (zb (by omega) (by omega)) ok_nil)))) (Ym (a 5) (Iu (Qt (by omega)) (Iu (zb (by omega) (by omega)) ok_nil)))
def Tn {R D k:Nat}{d a b n t:Pn}(g:16≤R)(l:D+1<16)(hd:d.in_ sz)(q:a.in_ sz)(r:b.in_ sz)(j:n.in_ sz)(f:t.in_ sz)(x:k+1≤d.k)(s:k+1≤a.k)(kb:k+1≤b.k)(o:k+1≤n.k)(w:k+3≤t.k)(p:t.k<1000000) :
  Qk sz bd (Qd d.p a.p b.p n.p t.p (k+1:Nat) (R:Nat) (D:Nat)):=by
 have e:Qd d.p a.p b.p n.p t.p (k+1:Nat) (R:Nat) (D:Nat)=(Fl ([cK (R:Nat) 0,Fq ((R:Nat)+10:Int) n.p (-1) ((0:Nat):Int)]++M8 ((R:Nat)+10:Int) ((R:Nat)+1:Int))).cat ((Ha (D:Nat) (t.k:Nat) (Fl [Fx t.p (D:Nat) ((0:Nat):Int) (R:Nat)])).cat ((Ha (D:Nat) (k+1:Nat) ((L8 a.p b.p t.p (k+1:Nat) (R:Nat) ((D+1:Nat):Int) (D:Nat)).cat (Mj n.p t.p (k+1:Nat) (R:Nat) ((D+1:Nat):Int)))).cat (Q8 d.p n.p t.p (k+1:Nat) (R:Nat) (D:Nat)))):=rfl;rw[e];refine safe_cat (safe_L (Ym (Iu (Qt (by omega)) (Iu (xf (by omega) (by have:=j.1;omega) j.2) ok_nil)) (lu (by omega)))) fun y _=>?_
 refine safe_cat (zhc (by omega) p fun bd h=>Iu (zmk (off:=0) (by omega) h (by have:=f.1;omega) f.2) ok_nil) fun z _=>?_
 refine safe_cat (zzg (by omega) (by omega) ?_ ?_) fun A _=>Tt g (by omega) hd j f o (by omega) x (by omega)
 ·have B:=(zlq (sz:=sz) (bd:=fun _=>some (k+1)) (R:=R) (D:=D+1) (i:=D) (k:=k+1) g l (by omega) r q f rfl kb s (by omega) (by omega)).2 D (by omega) (by omega);have C:=(zp1 (sz:=sz) (bd:=fun _=>some (k+1)) (R:=R) (D:=D+1) (k:=k) g l j f o w (by omega)).2 D (by omega) (by omega);rw[wc,B,C];rfl
 ·refine safe_cat (zlq g l (by omega) r q f (m:=k+1) (Ag rfl) kb s (by omega) (by omega)).1 fun E _=>(zp1 g l j f o w (by omega)).1
end run
end Go.Sv
namespace Go.Sv
structure Cf where
 nb:Nat
 R:Int
 w:Int
 lo:Int
 hi:Int
 pa:Int
 pb:Int
 L:Nat→Prop
 S:Nat→Prop
def Jp (c:Cf)(x:Int):Prop:=c.R≤x∧x<c.R+c.w
def Nr (c:Cf)(x:Int):Prop:=(c.lo≤x∧x≤c.hi)∨(c.pa≤x∧x≤c.pb)
def Mu (c:Cf)(x:Int):Prop:=x=-1∨Jp c x∨Nr c x
def hiO (c:Cf)(o:Lo):Prop:=(o.d=-1∨Jp c o.d)∧(o.e=-1∨Jp c o.e)∧(o.kind=14∨o.kind=15→o.a=-1∨Nr c o.a)
def plO (c:Cf)(o:Lo):Prop:=(o.kind≠14∧o.kind≠15)∧(c.pa≤o.d∧o.d≤c.pb)∧o.e=-1∧(o.a=-1∨Nr c o.a)∧(o.b=-1∨Nr c o.b)∧(o.c=-1∨Nr c o.c)
structure OpH (c:Cf) (o:Lo):Prop where
 k:o.kind≠16∧o.kind≠17
 f:o.buf.toNat<c.nb
 a:Mu c o.a
 b:Mu c o.b
 z:Mu c o.c
 m:hiO c o∨plO c o
 ld:o.kind=14→c.L o.buf.toNat
 st:o.kind=15→c.S o.buf.toNat
def Fr.AllH (c:Cf):Int→Fr Lo→Prop
 |_,.nil=>True
 |lev,.op o r=>OpH c o∧r.AllH c lev
 |lev,.loop o b e r=>LpG lev o∧(c.lo≤lev∧lev≤c.hi)∧e=O6∧b.AllH c (lev+1)∧r.AllH c lev
structure CfOk (c:Cf):Prop where
 r:16≤c.R∧c.R+c.w≤64
 l:0≤c.lo∧c.hi<8
 p:8≤c.pa∧c.pb<16
def FlH (c:Cf)(o:Lo):Prop:=OpH c o∨o=O6∨∃lev,LpG lev o∧c.lo≤lev∧lev≤c.hi
section ah
variable {c : Cf}
def allH_cat:∀{f g:Fr Lo} {lev:Int},f.AllH c lev→g.AllH c lev→(f.cat g).AllH c lev
 |.nil,_,_,_,h=>h
 |.op _ _,_,_,h,k=>⟨h.1,allH_cat h.2 k⟩
 |.loop _ _ _ _,_,_,h,k=>⟨h.1,h.2.1,h.2.2.1,h.2.2.2.1,allH_cat h.2.2.2.2 k⟩
def allH_L:∀{l:List Lo} {lev:Int},(∀o∈l,OpH c o)→(Fl l).AllH c lev
 |[],_,_=>trivial
 |o::_,_,h=>⟨h o (B6 ..),allH_L fun x f=>h x (A0 _ f)⟩
def Ql {lev times:Int}{b:Fr Lo}(h:times≤1000000)(f:c.lo≤lev∧lev≤c.hi)(g:b.AllH c (lev+1)):(Ha lev times b).AllH c lev:=by
 unfold Ha;split
 ·trivial
 ·refine⟨⟨rfl,rfl,rfl,rfl,rfl,rfl,?_⟩,f,rfl,g,trivial⟩;obtain⟨n,rfl⟩:=Af (show 0≤times by omega);show 1≤(iU (n:Int)).toNat;rw[Ol (by omega)];omega
def allH_wf:∀{f:Fr Lo} {lev:Int},f.AllH c lev→f.wf I9
 |.nil,_,_=>trivial
 |.op o r,_,h=>⟨by unfold I9;rw[Ab h.1.k.1,Ab h.1.k.2],allH_wf h.2⟩
 |.loop o b e r,_,h=>⟨by unfold I9;rw[Ag h.1.1],by rw[h.2.2.1];rfl,allH_wf h.2.2.2.1,allH_wf h.2.2.2.2⟩
def zth {x:Int}{ls:List Nat}(f:∀y∈ls,y<8)(h:x=-1∨(8≤x∧x<64)):Z8 ls x=true:=by
 unfold Z8;rcases h with rfl|h
 ·simp
 ·have:¬x.toNat∈ls:=fun q=>by have:=f _ q;omega
  simp[this];omega
def zzi (f:CfOk c){x:Int}(h:Mu c x):x<64:=by
 obtain⟨r,l,p⟩:=f;rcases h with h|h|h|h
 ·omega
 ·have:=h.2;omega
 ·omega
 ·omega
def mkH (j:CfOk c){o:Lo}(h:OpH c o):(o.d=-1∨(8≤o.d∧o.d<64))∧(o.e=-1∨(8≤o.e∧o.e<64)):=by
 obtain⟨r,l,p⟩:=j;rcases h.m with ⟨f,g,_⟩|⟨_,f,g,_⟩
 ·unfold Jp at f g;omega
 ·omega
def ze9 (j:CfOk c):∀{f:Fr Lo} {lev:Int} {ls:List Nat},(∀y∈ls,(y:Int)<lev∧y<8)→f.AllH c lev→f.regs c.nb ls=true
 |.nil,_,_,_,_=>rfl
 |.op o r,lev,ls,l,h=>by
  obtain⟨g,h⟩:=h;have s:=ze9 j l h;have m:∀y∈ls,y<8:=fun y p=>(l y p).2
  obtain⟨m1,x⟩:=mkH j g;simp only[Fr.regs,Ac,Ao];exact⟨zth m m1,zth m x,zzi j g.a,zzi j g.b,zzi j g.z,g.f,s⟩
 |.loop o b e r,lev,ls,l,h=>by
  obtain⟨⟨g1,g2,g3,g4,g5,g6,z⟩,k,_,w,h⟩:=h;obtain⟨A,B,C⟩:=id j;have s:=ze9 j l h;have w:=ze9 (ls:=o.d.toNat::ls) j (fun y p=>by
   rcases An.1 p with rfl|p
   ·omega
   ·have:=l y p;omega) w
  simp only[Fr.regs,Ac,Ao];refine⟨?_,by omega,z,w,s⟩;unfold Z8;have:¬o.d.toNat∈ls:=fun q=>by have:=l _ q;omega
  simp[this];omega
def allH_flat:∀{f:Fr Lo} {lev:Int},f.AllH c lev→∀o∈f.flat,FlH c o
 |.nil,_,_,o,ho=>by simp[Fr.flat] at ho
 |.op p r,_,h,o,ho=>by
  simp only[Fr.flat,An] at ho;rcases ho with rfl|ho
  ·exact .inl h.1
  ·exact allH_flat h.2 o ho
 |.loop p b e r,lev,h,o,ho=>by
  simp only[Fr.flat,An,Az] at ho;rcases ho with rfl|ho|rfl|ho
  ·exact .inr (.inr ⟨lev,h.1,h.2.1⟩)
  ·exact allH_flat h.2.2.2.1 o ho
  ·exact .inr (.inl h.2.2.1)
  ·exact allH_flat h.2.2.2.2 o ho
def Sn (f:CfOk c){x:Int}(h:x=-1∨Nr c x):x<16:=by
 obtain⟨r,l,p⟩:=f;unfold Nr at h;omega
def FlH.low (hc:CfOk c){o:Lo}(h:FlH c o):Oj o=true:=by
 have hr:=hc.r;have ad:=hc.l;have hp:=hc.p;rcases h with h|rfl|⟨lev,⟨g1,g2,g3,g4,g5,g6,g7⟩,k⟩
 ·unfold Oj;rw[Ab h.k.1,Ab h.k.2];rcases h.m with ⟨m1,m2,m3⟩|⟨m0,m1,m2,m3,m4,m5⟩
  ·have hd:Kz o.d=true:=by unfold Kz;unfold Jp at m1;simp only[Bn,Ao];omega
   have he:Kz o.e=true:=by unfold Kz;unfold Jp at m2;simp only[Bn,Ao];omega
   split
   ·rename_i hm;have ha:Kj o.a=true:=by unfold Kj;exact B5 (Sn hc (m3 hm))
    rw[ha,hd,he];rfl
   ·rw[hd,he];rfl
  ·rw[Ab (by omega)];have ha:Kj o.a=true:=by unfold Kj;exact B5 (Sn hc m3)
   have hb:Kj o.b=true:=by unfold Kj;exact B5 (Sn hc m4)
   have aa:Kj o.c=true:=by unfold Kj;exact B5 (Sn hc m5)
   rw[ha,hb,aa];simp
 ·rfl
 ·unfold Oj;rw[Ag g1];simp only[Ac,Ao];omega
def C0 (_:Int):Bool:=false
def FlH.sto {o:Lo}(h:FlH c o)(k:o.kind=15):c.S o.buf.toNat:=by
 rcases h with h|rfl|⟨lev,⟨g1,_⟩,_⟩
 ·exact h.st k
 ·simp[O6] at k
 ·omega
def wrap_allH:∀(n:Nat) (i:Int) (f:Fr Lo),c.lo≤i→i+n≤c.hi+1→f.AllH c (i+n)→(Tf n i f).AllH c i
 |0,i,f,_,_,h=>by simpa [Tf] using h
 |n+1,i,f,g,j,h=>by
  refine⟨⟨rfl,rfl,rfl,rfl,rfl,rfl,by simp[Lk,iU1]⟩,by omega,rfl,wrap_allH n (i+1) f (by omega) (by omega) ?_,trivial⟩;rw[show i+1+(n:Int)=i+(n+1:Nat) by omega];exact h
def Lb (c:Cf)(p:Pn):Prop:=p.b<c.nb∧c.L p.b
def Sb (c:Cf)(p:Pn):Prop:=p.b<c.nb∧c.S p.b
def L7 {v i off:Int}{p:Pn}(f:Lb c p)(hv:Jp c v)(hi:i=-1∨Nr c i):OpH c (Fq v p.p i off) :=
 ⟨by simp[Fq],by simpa [Fq,Pn.p] using f.1,hi.imp_right .inr,.inl rfl,.inl rfl,.inl ⟨.inr hv,.inl rfl,fun _=>hi⟩,fun _=>by simpa [Fq,Pn.p] using f.2,fun h=>by simp[Fq] at h⟩
def On {v i off:Int}{p:Pn}(f:Sb c p)(hv:Mu c v)(hi:i=-1∨Nr c i):OpH c (Fx p.p i off v) :=
 ⟨by simp[Fx],by simpa [Fx,Pn.p] using f.1,hi.imp_right .inr,hv,.inl rfl,.inl ⟨.inl rfl,.inl rfl,fun _=>hi⟩,fun h=>by simp[Fx] at h,fun _=>by simpa [Fx,Pn.p] using f.2⟩
def Mg {v:Int}{x:UInt64}(f:0<c.nb)(hv:Jp c v):OpH c (cK v x) :=
 ⟨by simp[cK],f,.inl rfl,.inl rfl,.inl rfl,.inl ⟨.inr hv,.inl rfl,fun h=>by simp[cK] at h⟩,fun h=>by simp[cK] at h,fun h=>by simp[cK] at h⟩
def Rx {v:Int}{x:UInt64}(f:0<c.nb)(hv:c.pa≤v∧v≤c.pb):OpH c (cK v x) :=
 ⟨by simp[cK],f,.inl rfl,.inl rfl,.inl rfl,.inr ⟨by simp[cK],hv,rfl,.inl rfl,.inl rfl,.inl rfl⟩,fun h=>by simp[cK] at h,fun h=>by simp[cK] at h⟩
def Qf {v x:Int}(f:0<c.nb)(hv:Jp c v)(g:Mu c x):OpH c (I4 v x) :=
 ⟨by simp[I4],f,g,.inl rfl,.inl rfl,.inl ⟨.inr hv,.inl rfl,fun h=>by simp[I4] at h⟩,fun h=>by simp[I4] at h,fun h=>by simp[I4] at h⟩
def zzv {f v x b:Int}(hk:f=8∨f=9)(g:0<c.nb)(hv:Jp c v)(j:Mu c x):OpH c (Jd f v x b) :=
 ⟨by simp[Jd];omega,g,j,.inl rfl,.inl rfl,.inl ⟨.inr hv,.inl rfl,fun h=>by simp[Jd] at h;omega⟩,fun h=>by simp[Jd] at h;omega,fun h=>by simp[Jd] at h;omega⟩
def zww {x y z w:Int}(f:0<c.nb)(g:Jp c x)(j:Jp c y)(l:Mu c z)(hw:Mu c w):OpH c (F9 x y z w) :=
 ⟨by simp[F9],f,l,hw,.inl rfl,.inl ⟨.inr g,.inr j,fun h=>by simp[F9] at h⟩,fun h=>by simp[F9] at h,fun h=>by simp[F9] at h⟩
def ow {f x z w:Int}(hk:3≤f∧f≤7)(g:0<c.nb)(j:Jp c x)(l:Mu c z)(hw:Mu c w):OpH c (Fg f x z w) :=
 ⟨by simp[Fg];omega,g,l,hw,.inl rfl,.inl ⟨.inr j,.inl rfl,fun h=>by simp[Fg] at h;omega⟩,fun h=>by simp[Fg] at h;omega,fun h=>by simp[Fg] at h;omega⟩
def ztb {f x z w:Int}(hk:3≤f∧f≤7)(j:0<c.nb)(l:c.pa≤x∧x≤c.pb)(g:Nr c z)(hw:Nr c w):OpH c (Fg f x z w) :=
 ⟨by simp[Fg];omega,j,.inr (.inr g),.inr (.inr hw),.inl rfl,.inr ⟨by simp[Fg];omega,l,rfl,.inr g,.inr hw,.inl rfl⟩,fun h=>by simp[Fg] at h;omega,fun h=>by simp[Fg] at h;omega⟩
def gu {f x y z w q:Int}(hk:f=11∨f=12)(g:0<c.nb)(j:Jp c x)(l:Jp c y)(m:Mu c z)(hw:Mu c w)(o:Mu c q):OpH c (F3 f x y z w q) :=
 ⟨by simp[F3];omega,g,m,hw,o,.inl ⟨.inr j,.inr l,fun h=>by simp[F3] at h;omega⟩,fun h=>by simp[F3] at h;omega,fun h=>by simp[F3] at h;omega⟩
def zuv {x q z w:Int}(f:0<c.nb)(g:Jp c x)(j:Mu c q)(l:Mu c z)(hw:Mu c w):OpH c (Gg x q z w) :=
 ⟨by simp[Gg],f,l,hw,j,.inl ⟨.inr g,.inl rfl,fun h=>by simp[Gg] at h⟩,fun h=>by simp[Gg] at h,fun h=>by simp[Gg] at h⟩
def cf {x y:List Lo}(h:∀o∈x,OpH c o)(k:∀o∈y,OpH c o):∀o∈x++y,OpH c o:=fun o ho=>(Az.1 ho).elim (h o) (k o)
def Gf {x:Lo}{y:List Lo}(h:OpH c x)(k:∀o∈y,OpH c o):∀o∈x::y,OpH c o:=fun o ho=>by
 rcases An.1 ho with rfl|ho
 ·exact h
 ·exact k o ho
def oh_nil:∀o∈([]:List Lo),OpH c o:=fun _ h=>by cases h
def Jb {x:Int}(h:Jp c x):Mu c x:=.inr (.inl h)
section into
variable {R D k : Int} {d a b n t : Pn}
def rgr (f:c.R≤R∧R+11≤c.R+c.w)(j:Int)(h:0≤j∧j≤10):Jp c (R+j):=by unfold Jp;omega
def Uf (f:c.R≤R∧R+11≤c.R+c.w):Jp c R:=by unfold Jp;omega
def j1 (f:0<c.nb)(g:c.R≤R∧R+11≤c.R+c.w):∀o∈M8 (R+10) (R+1),OpH c o:=by
 intro o ho;simp[M8,U0,Qx,pu] at ho;rcases ho with rfl|rfl|rfl|rfl|⟨_,rfl|rfl|rfl⟩|rfl|rfl
 all_goals first|(refine Mg f ?_;unfold Jp;omega)|(refine zww f ?_ ?_ (Jb ?_) (Jb ?_)<;>(unfold Jp;omega))|(refine ow (by omega) f ?_ (Jb ?_) (Jb ?_)<;>(unfold Jp;omega))
def Rb {x y:Int}(f:0<c.nb)(h:c.R≤R∧R+11≤c.R+c.w)(j:Jp c x)(l:Jp c y):∀o∈Gc R x y,OpH c o:=by
 unfold Gc;have g:=rgr h;exact Gf (zww f (g 5 (by omega)) (g 6 (by omega)) (Jb j) (Jb l)) (Gf (gu (.inl rfl) f (g 6 (by omega)) (g 8 (by omega)) (Jb (g 6 (by omega))) (Jb (g 7 (by omega))) (Jb (Uf h))) (Gf (gu (.inl rfl) f (g 6 (by omega)) (g 9 (by omega)) (Jb (g 6 (by omega))) (Jb (g 3 (by omega))) (Jb (Uf h))) (Gf (ow (by omega) f (g 5 (by omega)) (Jb (g 5 (by omega))) (Jb (g 8 (by omega)))) (Gf (ow (by omega) f (g 3 (by omega)) (Jb (g 5 (by omega))) (Jb (g 9 (by omega)))) oh_nil))))
def zpe {x:List Lo}{lev:Int}(l:c.R≤R∧R+11≤c.R+c.w)(pn:Lb c n)(m:Lb c t)(hk:k≤1000000)(f:c.lo≤lev∧lev≤c.hi)(p:∀o∈x,OpH c o):(Oq n.p t.p k R lev x).AllH c lev:=by
 unfold Oq Mr;have h:0<c.nb:=by have:=pn.1;omega
 have g:=rgr l;have j:lev=-1∨Nr c lev:=.inr (.inl f);exact allH_cat (allH_L (Gf (Mg h (g 8 (by omega))) oh_nil)) (Ql hk f (allH_L (cf (Gf (L7 m (g 7 (by omega)) j) (Gf (L7 pn (g 4 (by omega)) j) (Gf (gu (.inr rfl) h (g 6 (by omega)) (g 8 (by omega)) (Jb (g 7 (by omega))) (Jb (g 4 (by omega))) (Jb (g 8 (by omega)))) oh_nil))) p)))
def zju {x:Int}{p:Pn}(g:Sb c p)(h:Mu c x)(f:c.lo≤D∧D≤c.hi)(hk:p.k≤1000000):(Ky p.p x D).AllH c D:=by
 unfold Ky;exact Ql (by show (p.k:Int)≤_;omega) f (allH_L (Gf (On g h (.inr (.inl f))) oh_nil))
def zpp (p:c.R≤R∧R+11≤c.R+c.w)(pd:Sb c d)(pa:Lb c a)(pb:Lb c b)(pn:Lb c n)(o:Lb c t)(st:Sb c t)(hk:k≤1000000)(s:t.k≤1000000)(x:c.lo≤D∧D+1≤c.hi):(Qd d.p a.p b.p n.p t.p k R D).AllH c D:=by
 have l:0<c.nb:=by have:=pn.1;omega
 have g:=rgr p;have g0:=Uf p;have f:∀j:Int,0≤j∧j≤10→Mu c (R+j):=fun j h=>Jb (g j h)
 have r:c.lo≤D∧D≤c.hi:=by omega
 have q:c.lo≤D+1∧D+1≤c.hi:=by omega
 have w:D=-1∨Nr c D:=.inr (.inl r);have m:D+1=-1∨Nr c (D+1):=.inr (.inl q);unfold Qd;refine allH_cat (allH_L (cf (Gf (Mg l g0) (Gf (L7 pn (g 10 (by omega)) (.inl rfl)) oh_nil)) (j1 l p))) (allH_cat (zju st (Jb g0) r s) (allH_cat (Ql hk r (allH_cat ?_ ?_)) ?_))
 ·unfold L8 Mz Hi;refine allH_cat (allH_L (Gf (L7 pb (g 2 (by omega)) w) (Gf (Mg l (g 3 (by omega))) oh_nil))) (allH_cat (Ql hk q (allH_L (cf (Gf (L7 pa (g 4 (by omega)) m) (Gf (L7 o (g 7 (by omega)) m) oh_nil)) (cf (Rb l p (g 4 (by omega)) (g 2 (by omega))) (Gf (On st (f 6 (by omega)) m) oh_nil))))) (allH_L (cf (Gf (L7 o (g 7 (by omega)) (.inl rfl)) (Gf (gu (.inl rfl) l (g 7 (by omega)) (g 8 (by omega)) (f 7 (by omega)) (f 3 (by omega)) (Jb g0)) oh_nil)) (Gf (On st (f 7 (by omega)) (.inl rfl)) (Gf (On st (f 8 (by omega)) (.inl rfl)) oh_nil)))))
 ·unfold Mj Nc Hi;refine allH_cat (allH_L (cf (Gf (L7 o (g 7 (by omega)) (.inl rfl)) (Gf (zww l (g 5 (by omega)) (g 10 (by omega)) (f 7 (by omega)) (f 1 (by omega))) (Gf (L7 pn (g 4 (by omega)) (.inl rfl)) (Gf (Mg l (g 3 (by omega))) oh_nil)))) (Rb l p (g 10 (by omega)) (g 4 (by omega)))))
   (allH_cat (Ql (by omega) q (allH_L (cf (Gf (L7 pn (g 4 (by omega)) m) (Gf (L7 o (g 7 (by omega)) m) oh_nil)) (cf (Rb l p (g 10 (by omega)) (g 4 (by omega))) (Gf (On st (f 6 (by omega)) m) oh_nil)))))
   (allH_L (cf (Gf (L7 o (g 7 (by omega)) (.inl rfl)) (Gf (gu (.inl rfl) l (g 7 (by omega)) (g 8 (by omega)) (f 7 (by omega)) (f 3 (by omega)) (Jb g0)) oh_nil)) (Gf (On st (f 7 (by omega)) (.inl rfl)) (Gf (L7 o (g 7 (by omega)) (.inl rfl)) (Gf (ow (by omega) l (g 7 (by omega)) (f 7 (by omega)) (f 8 (by omega))) (Gf (On st (f 7 (by omega)) (.inl rfl)) oh_nil)))))))
 ·unfold Q8;exact allH_cat (zpe p pn o hk r oh_nil) (allH_cat (allH_L (Gf (L7 o (g 7 (by omega)) (.inl rfl)) (Gf (gu (.inr rfl) l (g 6 (by omega)) (g 10 (by omega)) (f 7 (by omega)) (Jb g0) (f 8 (by omega))) oh_nil))) (zpe p pn o hk r (Gf (zuv l (g 6 (by omega)) (f 10 (by omega)) (f 7 (by omega)) (f 6 (by omega))) (Gf (On pd (f 6 (by omega)) w) oh_nil))))
end into
end ah
end Go.Sv
noncomputable section
namespace Go.Sv
def Ro (p:Pc)(n l o b D:Int):Fr Lo:=Ha D n (Fl [Fq l p D 0,Jd 9 o l 63,Jd 8 l l 1,Fg 6 l l b,Fx p D 0 l,I4 b o])
def Ta (to fr:Pc)(k l D:Int):Fr Lo:=Ha D k (Fl [Fq l fr D 0,Fx to D 0 l])
def Oy (n r:Pc)(R D:Int):List Lo:=[Fq (R+2) r D 0,Fq (R+4) n D 0,F3 12 (R+4) (R+5) (R+2) (R+4) (R+5)]
def O0 (n r:Pc)(k R D:Int)(x:List Lo):Fr Lo:=(Fl [cK (R+5) 0]).cat ((Ha D k (Fl (Oy n r R D++x))).cat (Fl [Fq (R+2) r (-1) k,F3 12 (R+4) (R+5) (R+2) R (R+5)]))
def Vk (n r:Pc)(k R D:Int):Fr Lo:=(Ro r (k+1) (R+2) (R+3) (R+1) D).cat ((O0 n r k R D []).cat ((Fl [I4 (R+6) (R+5)]).cat ((O0 n r k R D [Gg (R+4) (R+6) (R+2) (R+4),Fx r D 0 (R+4)]).cat (Fl [Gg (R+4) (R+6) (R+2) (R+4),Fx r (-1) k (R+4),cK (R+1) 0]))))
def Qv (d n r:Pc)(k bits R D:Int):Fr Lo:=(Fl [cK R 0,cK (R+1) 1]).cat ((Ky r R D).cat ((Ha D (bits+1) (Vk n r k R (D+1))).cat (Ta d r k (R+2) D)))
structure Pw where
 d:Pn
 a:Pn
 b:Pn
 n:Pn
 wb:Nat
 wa:Nat
 k:Nat
 w:Nat
 times:Nat
 over:Nat
 B:Nat
def Pw.acc (p:Pw):Pn:=⟨p.wb,p.wa,p.k⟩
def Pw.base (p:Pw):Pn:=⟨p.wb,p.wa+p.k,p.k⟩
def Pw.cur (p:Pw):Pn:=⟨p.wb,p.wa+2*p.k,p.k⟩
def Pw.es (p:Pw):Pn:=⟨p.wb,p.wa+3*p.k,p.b.k+1⟩
def Pw.t (p:Pw):Pn:=⟨p.wb,p.wa+3*p.k+p.b.k+1,p.k+2⟩
def Pw.tab (p:Pw):Pn:=⟨p.wb,p.wa+4*p.k+p.b.k+3,p.k*2^p.w⟩
def Pw.ent (p:Pw):Pn:=⟨p.tab.b,p.tab.a,p.k⟩
def Pw.r (p:Pw):Pn:=⟨p.t.b,p.t.a,p.k+1⟩
def Pw.mont (p:Pw)(d a b:Pn)(D:Int):Fr Lo:=Qd d.p a.p b.p p.n.p p.t.p p.k (p.B+10) D
def Pw.radix (p:Pw)(d:Pn)(bits D:Int):Fr Lo:=Qv d.p p.n.p p.r.p p.k bits (p.B+10) D
def Pw.copies (p:Pw)(to fr:Pn)(D:Int):Fr Lo:=Ta to.p fr.p p.k (p.B+3) D
def Pw.fillR (p:Pw)(D:Int):Fr Lo:=(p.mont p.acc p.acc p.base (D+1)).cat ((Ha (D+1) p.k (Fl [Fq (p.B+3) p.acc.p (D+1) 0,Fg 3 13 12 (D+1),Fx p.tab.p 13 0 (p.B+3)])).cat (Fl [cK 13 (iU p.k),Fg 3 12 12 13]))
def Pw.fill (p:Pw)(D:Int):Fr Lo:=(p.radix p.ent (64*p.k) D).cat ((p.radix p.cur (128*p.k) D).cat ((p.mont p.base p.a p.cur D).cat ((p.copies p.acc p.ent D).cat ((Fl [cK 12 (iU p.k)]).cat (Ha D (2^p.w - 1:Nat) (p.fillR D))))))
def Pw.expB (p:Pw)(D:Int):List Lo:=if p.over=0 then [Fq (p.B+3) p.b.p D 0,Fx p.es.p D 1 (p.B+3)] else [Fq (p.B+3) p.b.p D 0,Jd 8 (p.B+2) (p.B+3) (64 - p.over),Fg 6 (p.B+2) (p.B+2) (p.B+4),Fx p.es.p D 0 (p.B+2),Jd 9 (p.B+4) (p.B+3) p.over]
def Pw.expE (p:Pw):List Lo:=if p.over=0 then [Fx p.es.p (-1) 0 p.B] else [Fx p.es.p (-1) p.b.k (p.B+4)]
def Pw.exp (p:Pw)(D:Int):Fr Lo:=(Fl [I4 (p.B+4) p.B]).cat ((Ha D p.b.k (Fl (p.expB D))).cat (Fl p.expE))
def Pw.shift (p:Pw)(D:Int):Fr Lo:=(Fl [I4 (p.B+2) p.B]).cat ((Ro p.es.p p.es.k (p.B+3) (p.B+4) (p.B+2) D).cat (Fl [Jd 8 (p.B+1) (p.B+1) 1,Fg 6 (p.B+1) (p.B+1) (p.B+2)]))
def Pw.scanB (p:Pw)(D:Int):List Lo:=[Fg 3 13 12 D,Fq (p.B+3) p.tab.p 13 0,Fq (p.B+6) p.cur.p D 0,Gg (p.B+3) (p.B+5) (p.B+6) (p.B+3),Fx p.cur.p D 0 (p.B+3)]
def Pw.scanR (p:Pw)(D:Int):Fr Lo:=(Fl [Fg 7 (p.B+5) (p.B+1) D,F3 12 (p.B+4) (p.B+5) p.B (p.B+5) p.B]).cat ((Ha (D+1) p.k (Fl (p.scanB (D+1)))).cat (Fl [cK 13 (iU p.k),Fg 3 12 12 13]))
def Pw.scan (p:Pw)(D:Int):Fr Lo:=(Fl [cK 12 0]).cat (Ha D (2^p.w:Nat) (p.scanR D))
def Pw.runW (p:Pw)(D:Int):Fr Lo:=(p.mont p.acc p.acc p.acc D).cat (p.shift D)
def Pw.runR (p:Pw)(D:Int):Fr Lo:=(Fl [I4 (p.B+1) p.B]).cat ((Ha D p.w (p.runW (D+1))).cat ((p.scan D).cat (p.mont p.acc p.acc p.cur D)))
def Pw.run (p:Pw)(D:Int):Fr Lo:=(p.copies p.acc p.ent D).cat ((Ha D p.times (p.runR (D+1))).cat ((Fl [cK (p.B+3) 1]).cat ((Ky p.cur.p p.B D).cat ((Fl [Fx p.cur.p (-1) 0 (p.B+3)]).cat (p.mont p.d p.acc p.cur D)))))
def Pw.code (p:Pw)(D:Int):Fr Lo:=(Fl [cK p.B 0]).cat ((p.fill D).cat ((p.exp D).cat (p.run D)))
section all
variable {c : Cf}
def zy2 {p:Pn}{n l o b D:Int}(f:Lb c p)(sp:Sb c p)(a:Jp c l)(ho:Jp c o)(g:Jp c b)(m:n≤1000000)(h:c.lo≤D∧D≤c.hi):(Ro p.p n l o b D).AllH c D:=by
 have d:0<c.nb:=by have:=f.1;omega
 have j:D=-1∨Nr c D:=.inr (.inl h);exact Ql m h (allH_L (Gf (L7 f a j) (Gf (zzv (.inr rfl) d ho (Jb a)) (Gf (zzv (.inl rfl) d a (Jb a)) (Gf (ow (by omega) d a (Jb a) (Jb g)) (Gf (On sp (Jb a) j) (Gf (Qf d g (Jb ho)) oh_nil)))))))
def zr8 {to fr:Pn}{k l D:Int}(g:Lb c fr)(sp:Sb c to)(a:Jp c l)(h:k≤1000000)(d:c.lo≤D∧D≤c.hi):(Ta to.p fr.p k l D).AllH c D:=by
 have f:D=-1∨Nr c D:=.inr (.inl d);exact Ql h d (allH_L (Gf (L7 g a f) (Gf (On sp (Jb a) f) oh_nil)))
def zpm {n r:Pn}{k R D:Int}{x:List Lo}(f:c.R≤R∧R+11≤c.R+c.w)(pn:Lb c n)(l:Lb c r)(hk:k≤1000000)(m:c.lo≤D∧D≤c.hi)(q:∀o∈x,OpH c o):(O0 n.p r.p k R D x).AllH c D:=by
 have d:0<c.nb:=by have:=pn.1;omega
 have p:D=-1∨Nr c D:=.inr (.inl m);have g:=rgr f;have a:∀j:Int,0≤j∧j≤10→Mu c (R+j):=fun j h=>Jb (g j h)
 unfold O0 Oy;exact allH_cat (allH_L (Gf (Mg d (g 5 (by omega))) oh_nil)) (allH_cat (Ql hk m (allH_L (cf (Gf (L7 l (g 2 (by omega)) p) (Gf (L7 pn (g 4 (by omega)) p) (Gf (gu (.inr rfl) d (g 4 (by omega)) (g 5 (by omega)) (a 2 (by omega)) (a 4 (by omega)) (a 5 (by omega))) oh_nil))) q))) (allH_L (Gf (L7 l (g 2 (by omega)) (.inl rfl)) (Gf (gu (.inr rfl) d (g 4 (by omega)) (g 5 (by omega)) (a 2 (by omega)) (Jb (Uf f)) (a 5 (by omega))) oh_nil))))
def zvd {d n r:Pn}{k bits R D:Int}(p:c.R≤R∧R+11≤c.R+c.w)(pd:Sb c d)(pn:Lb c n)(q:Lb c r)(s:Sb c r)(hk:k≤1000)(y:bits≤100000)(x:r.k≤100000)(z:c.lo≤D∧D+1≤c.hi):(Qv d.p n.p r.p k bits R D).AllH c D:=by
 have m:0<c.nb:=by have:=pn.1;omega
 have l:c.lo≤D∧D≤c.hi:=by omega
 have a:c.lo≤D+1∧D+1≤c.hi:=by omega
 have w:D+1=-1∨Nr c (D+1):=.inr (.inl a);have g:=rgr p;have f:∀j:Int,0≤j∧j≤10→Mu c (R+j):=fun j h=>Jb (g j h)
 unfold Qv Vk;refine allH_cat (allH_L (Gf (Mg m (Uf p)) (Gf (Mg m (g 1 (by omega))) oh_nil))) (allH_cat (zju s (Jb (Uf p)) l (by omega)) (allH_cat (Ql (by omega) l ?_) (zr8 q pd (g 2 (by omega)) (by omega) l)));have e:∀o∈[Gg (R+4) (R+6) (R+2) (R+4),Fx r.p (D+1) 0 (R+4)],OpH c o:=Gf (zuv m (g 4 (by omega)) (f 6 (by omega)) (f 2 (by omega)) (f 4 (by omega))) (Gf (On s (f 4 (by omega)) w) oh_nil);exact allH_cat (zy2 q s (g 2 (by omega)) (g 3 (by omega)) (g 1 (by omega)) (by omega) a) (allH_cat (zpm p pn q (by omega) a oh_nil) (allH_cat (allH_L (Gf (Qf m (g 6 (by omega)) (f 5 (by omega))) oh_nil)) (allH_cat (zpm p pn q (by omega) a e) (allH_L (Gf (zuv m (g 4 (by omega)) (f 6 (by omega)) (f 2 (by omega)) (f 4 (by omega))) (Gf (On s (f 4 (by omega)) (.inl rfl)) (Gf (Mg m (g 1 (by omega))) oh_nil)))))))
structure PwC (c:Cf) (p:Pw):Prop where
 r:c.R≤p.B∧(p.B:Int)+21≤c.R+c.w
 q:c.pa≤12∧13≤c.pb
 d:Sb c p.d
 a:Lb c p.a
 b:Lb c p.b
 n:Lb c p.n
 wl:c.L p.wb
 ws:c.S p.wb
 wb:p.wb<c.nb
 k:p.k≤512
 w:p.w≤6
 ti:p.times≤100000
 bk:p.b.k≤512
def U6 {w:Nat}(h:w≤6):2^w≤64:=D0 (by decide) h
def Pw.all {p:Pw}(h:PwC c p){D:Int}(hD:c.lo≤D∧D+3≤c.hi):(p.code D).AllH c D:=by
 obtain⟨hr,ag,pd,pa,pb,pn,wl,ws,wb,hk,hw,ah,aj⟩:=h;have h0:0<c.nb:=by have:=pn.1;omega
 have wL:∀q:Pn,q.b=p.wb→Lb c q:=fun q e=>⟨by omega,by rw[e];exact wl⟩
 have wS:∀q:Pn,q.b=p.wb→Sb c q:=fun q e=>⟨by omega,by rw[e];exact ws⟩
 have g:∀j:Int,0≤j∧j≤20→Jp c (p.B+j):=fun j h=>by unfold Jp;omega
 have g0:Jp c p.B:=by unfold Jp;omega
 have gi:∀j:Int,0≤j∧j≤20→Mu c (p.B+j):=fun j h=>Jb (g j h)
 have af:c.R≤(p.B:Int)+10∧(p.B:Int)+10+11≤c.R+c.w:=by omega
 have ao:=U6 hw;have aa:Nr c 12:=.inr (by omega);have ad:Nr c 13:=.inr (by omega);have mo:∀(d a b:Pn) (E:Int),Sb c d→Lb c a→Lb c b→c.lo≤E→E+1≤c.hi→(p.mont d a b E).AllH c E:=fun d a b E hd ha hb h1 h2=>zpp af hd ha hb pn (wL _ rfl) (wS _ rfl) (by omega) (by show p.k+2≤1000000;omega) ⟨h1,h2⟩
 have lv:∀E:Int,c.lo≤E→E≤c.hi→Nr c E:=fun E h1 h2=>.inl ⟨h1,h2⟩
 have ra:∀(d:Pn) (bits:Int),Sb c d→bits≤100000→(p.radix d bits D).AllH c D:=fun d bits hd hb=>zvd af hd pn (wL _ rfl) (wS _ rfl) (by omega) hb (by show p.k+1≤100000;omega) (by omega)
 unfold Pw.code;refine allH_cat (allH_L (Gf (Mg h0 g0) oh_nil)) (allH_cat ?_ (allH_cat ?_ ?_))
 ·unfold Pw.fill Pw.fillR;refine allH_cat (ra _ _ (wS _ rfl) (by omega)) (allH_cat (ra _ _ (wS _ rfl) (by omega)) (allH_cat (mo _ _ _ _ (wS _ rfl) pa (wL _ rfl) (by omega) (by omega)) (allH_cat (zr8 (wL _ rfl) (wS _ rfl) (g 3 (by omega)) (by omega) (by omega)) (allH_cat (allH_L (Gf (Rx h0 (by omega)) oh_nil)) (Ql (by omega) (by omega) (allH_cat (mo _ _ _ _ (wS _ rfl) (wL _ rfl) (wL _ rfl) (by omega) (by omega)) (allH_cat (Ql (by omega) (by omega) (allH_L ?_)) (allH_L ?_))))))))
  ·exact Gf (L7 (wL _ rfl) (g 3 (by omega)) (.inr (lv _ (by omega) (by omega)))) (Gf (ztb (by omega) h0 (by omega) aa (lv _ (by omega) (by omega))) (Gf (On (wS _ rfl) (gi 3 (by omega)) (.inr ad)) oh_nil))
  ·exact Gf (Rx h0 (by omega)) (Gf (ztb (by omega) h0 (by omega) aa ad) oh_nil)
 ·unfold Pw.exp Pw.expB Pw.expE;refine allH_cat (allH_L (Gf (Qf h0 (g 4 (by omega)) (Jb g0)) oh_nil)) (allH_cat (Ql (by omega) (by omega) (allH_L ?_)) (allH_L ?_))
  ·split
   ·exact Gf (L7 pb (g 3 (by omega)) (.inr (lv _ (by omega) (by omega)))) (Gf (On (wS _ rfl) (gi 3 (by omega)) (.inr (lv _ (by omega) (by omega)))) oh_nil)
   ·exact Gf (L7 pb (g 3 (by omega)) (.inr (lv _ (by omega) (by omega)))) (Gf (zzv (.inl rfl) h0 (g 2 (by omega)) (gi 3 (by omega))) (Gf (ow (by omega) h0 (g 2 (by omega)) (gi 2 (by omega)) (gi 4 (by omega))) (Gf (On (wS _ rfl) (gi 2 (by omega)) (.inr (lv _ (by omega) (by omega)))) (Gf (zzv (.inr rfl) h0 (g 4 (by omega)) (gi 3 (by omega))) oh_nil))))
  ·split
   ·exact Gf (On (wS _ rfl) (Jb g0) (.inl rfl)) oh_nil
   ·exact Gf (On (wS _ rfl) (gi 4 (by omega)) (.inl rfl)) oh_nil
 ·unfold Pw.run Pw.runR Pw.runW Pw.shift Pw.scan Pw.scanR Pw.scanB;refine allH_cat (zr8 (wL _ rfl) (wS _ rfl) (g 3 (by omega)) (by omega) (by omega)) (allH_cat (Ql (by omega) (by omega) (allH_cat (allH_L (Gf (Qf h0 (g 1 (by omega)) (Jb g0)) oh_nil)) (allH_cat (Ql (by omega) (by omega) (allH_cat ?_ ?_)) (allH_cat (allH_cat ?_ ?_) ?_)))) ?_)
  ·exact mo _ _ _ _ (wS _ rfl) (wL _ rfl) (wL _ rfl) (by omega) (by omega)
  ·exact allH_cat (allH_L (Gf (Qf h0 (g 2 (by omega)) (Jb g0)) oh_nil)) (allH_cat (zy2 (wL _ rfl) (wS _ rfl) (g 3 (by omega)) (g 4 (by omega)) (g 2 (by omega)) (by show ((p.b.k+1:Nat):Int)≤1000000;omega) (by omega)) (allH_L (Gf (zzv (.inl rfl) h0 (g 1 (by omega)) (gi 1 (by omega))) (Gf (ow (by omega) h0 (g 1 (by omega)) (gi 1 (by omega)) (gi 2 (by omega))) oh_nil))))
  ·exact allH_L (Gf (Rx h0 (by omega)) oh_nil)
  ·refine Ql (by omega) (by omega) (allH_cat (allH_L ?_) (allH_cat (Ql (by omega) (by omega) (allH_L ?_)) (allH_L ?_)))
   ·exact Gf (ow (by omega) h0 (g 5 (by omega)) (gi 1 (by omega)) (.inr (.inr (lv _ (by omega) (by omega))))) (Gf (gu (.inr rfl) h0 (g 4 (by omega)) (g 5 (by omega)) (Jb g0) (gi 5 (by omega)) (Jb g0)) oh_nil)
   ·exact Gf (ztb (by omega) h0 (by omega) aa (lv _ (by omega) (by omega))) (Gf (L7 (wL _ rfl) (g 3 (by omega)) (.inr ad)) (Gf (L7 (wL _ rfl) (g 6 (by omega)) (.inr (lv _ (by omega) (by omega)))) (Gf (zuv h0 (g 3 (by omega)) (gi 5 (by omega)) (gi 6 (by omega)) (gi 3 (by omega))) (Gf (On (wS _ rfl) (gi 3 (by omega)) (.inr (lv _ (by omega) (by omega)))) oh_nil))))
   ·exact Gf (Rx h0 (by omega)) (Gf (ztb (by omega) h0 (by omega) aa ad) oh_nil)
  ·exact mo _ _ _ _ (wS _ rfl) (wL _ rfl) (wL _ rfl) (by omega) (by omega)
  ·exact allH_cat (allH_L (Gf (Mg h0 (g 3 (by omega))) oh_nil)) (allH_cat (zju (wS _ rfl) (Jb g0) (by omega) (by show p.k≤1000000;omega)) (allH_cat (allH_L (Gf (On (wS _ rfl) (gi 3 (by omega)) (.inl rfl)) oh_nil)) (mo _ _ _ _ pd (wL _ rfl) (wL _ rfl) (by omega) (by omega))))
end all
end Go.Sv
end
namespace Go.Sv
def Sk (D:Int)(ls:List Int):Prop:=(ls.length:Int)≤D∧∀x∈ls,x<D
def Ll (D:Int)(S:List Int):Prop:=∀x∈S,x<D∨8≤x
section gd
variable {bs : List Bf} {S S' T ls : List Int} {D : Int} {f g b : Fr Lo} {l : List Lo}
def Sk.snoc (h:Sk D ls):Sk (D+1) (ls++[D]):=⟨by have:=h.1;simp;omega,fun x hx=>by
 rcases Az.1 hx with hx|hx
 ·have:=h.2 x hx;omega
 ·simp at hx;omega⟩
def Sk.lt (h:Sk D ls)(hD:D≤8):∀x∈ls,x<8:=fun x hx=>by have:=h.2 x hx;omega
def Ll.cons (h:Ll D S):Ll (D+1) (D::S):=fun x hx=>by
 rcases An.1 hx with rfl|hx
 ·omega
 ·have:=h x hx;omega
def Ll.high {x:Int}(h:Ll D S)(hx:8≤x):Ll D (x::S):=fun y hy=>by
 rcases An.1 hy with rfl|hy
 ·exact .inr hx
 ·exact h y hy
def Gd.lpD {times:Int}(h:Sk D ls)(hD:0≤D∧D<8)(hS:Ll D S)(ht:times≤1048576)(hb:Gd bs (D::S) (ls++[D]) b S')(hs:∀x∈S,x∈S'):Gd bs S ls (Ha D times b) S :=
 .lp (by have:=h.1;omega) hD (fun q=>by have:=h.2 _ q;omega) (fun q=>by have:=hS _ q;omega) ht hb hs
def Gd.Lm (hL:Sk D ls)(hD:D≤8)(h:Hv 64 bs S l)(hk:∀o∈l,∀x∈Ft o,8≤x)(hT:∀x∈T,x∈l.flatMap Ft++S):Gd bs S ls (Fl l) T :=
 Gd.mono (Gd.L (hL.lt hD) h hk) (fun _ h=>h) hT
def zp2 {regs:Int}{k d a j:Int}(hk:k=8∨k=9)(h:0≤d∧d<regs)(m:0≤a∧a<regs)(q:1≤j∧j≤63):Ix regs bs (Jd k d a j)=true:=by
 obtain⟨n,rfl⟩:=Af (show 0≤j by omega);have e:(iU (n:Int)).toNat=n:=Ol (by omega);have o:(1:UInt64)≤iU (n:Int):=by rw[Br,e];show 1≤_;omega
 have p:iU (n:Int)≤(63:UInt64):=by rw[Br,e];show _≤63;omega
 rcases hk with rfl|rfl<;>simp[Ix,Jd,F1,Gy,Gx,Hh,J0,J4,Gt,h,m,o,p]
def zqj {k' d a j:Int}(hk:k'=8∨k'=9)(h:0≤d∧d<64)(m:0≤a∧a<64)(o:1≤j∧j≤63)(p:a∈S)(k:Hv 64 bs (d::S) l):Hv 64 bs S (Jd k' d a j::l):=by
 rcases hk with rfl|rfl
 ·exact⟨zp2 (.inl rfl) h m o,by simp[Jd],by simp[Ii,Jd,p],k⟩
 ·exact⟨zp2 (.inr rfl) h m o,by simp[Jd],by simp[Ii,Jd,p],k⟩
def zoe {d a:Int}(h:0≤d∧d<64)(j:0≤a∧a<64)(m:a∈S)(k:Hv 64 bs (d::S) l):Hv 64 bs S (I4 d a::l) :=
 ⟨Ug h j,by simp[I4],by simp[Ii,I4,m],k⟩
def py {p:Pn}{n l o b:Int}(a:Sk D ls)(j:0≤D∧D<8)(m:Ll D S)(w:8≤l∧l<64)(ho:8≤o∧o<64)(y:8≤b∧b<64)(q:b∈S)(d:Bp bs p)(wp:Bw bs p)(r:n≤1048576):Gd bs S ls (Ro p.p n l o b D) S:=by
 have h:Hv 64 bs (D::S) [Fq l p.p D 0,Jd 9 o l 63,Jd 8 l l 1,Fg 6 l l b,Fx p.p D 0 l,I4 b o] :=
  Qq d (by omega) (by omega) (by simp) (zqj (.inr rfl) (by omega) (by omega) (by omega) (by simp) (zqj (.inl rfl) (by omega) (by omega) (by omega) (by simp) (Wr (by omega) (by omega) (by omega) (by omega) (by simp) (by simp[q]) (Y9 d wp (by omega) (by omega) (by simp) (by simp) (zoe (by omega) (by omega) (by simp) okL_nil)))))
 refine Gd.lpD a j m r (Gd.L (a.snoc.lt (by omega)) h ?_) fun x s=>Ba _ (A0 _ s)
 simp[Ft,Fq,Jd,Fg,Fx,I4];omega
def qo {to fr:Pn}{k l:Int}(a:Sk D ls)(d:0≤D∧D<8)(j:Ll D S)(r:8≤l∧l<64)(m:Bp bs to)(wt:Bw bs to)(o:Bp bs fr)(p:k≤1048576):Gd bs S ls (Ta to.p fr.p k l D) S:=by
 have h:Hv 64 bs (D::S) [Fq l fr.p D 0,Fx to.p D 0 l]:=Qq o (by omega) (by omega) (by simp) (Y9 m wt (by omega) (by omega) (by simp) (by simp) okL_nil);refine Gd.lpD a d j p (Gd.L (a.snoc.lt (by omega)) h ?_) fun x q=>Ba _ (A0 _ q)
 simp[Ft,Fq,Fx];omega
def zu5 {x:Int}{p:Pn}(a:Sk D ls)(d:0≤D∧D<8)(h:Ll D S)(j:0≤x∧x<64)(mx:x∈S)(m:Bp bs p)(wp:Bw bs p):Gd bs S ls (Ky p.p x D) S :=
 R7 j mx d (fun q=>by have:=a.2 _ q;omega) (fun q=>by have:=h _ q;omega) (by have:=a.1;omega) (a.lt (by omega)) m wp
def ol {n r:Pn}{k R:Int}{x:List Lo}(a:Sk D ls)(m:0≤D∧D<8)(p:Ll D S)(C:16≤R∧R≤50)(q:R∈S)(pn:Bp bs n)(d:Bp bs r)(hk:0≤k∧k<r.k)
  (j:Hv 64 bs ((R+4)::(R+5)::(R+4)::(R+2)::D::(R+5)::S) x) (hm:∀o∈x,∀y∈Ft o,8≤y):Gd bs S ls (O0 n.p r.p k R D x) ((R+2)::(R+4)::(R+5)::S):=by
 have s:(r.k:Int)≤65536:=by have:=d.s;have:=d.z;omega
 unfold O0;have w:Hv 64 bs S [cK (R+5) 0]:=Sr (by omega) okL_nil;have z:Hv 64 bs (D::(R+5)::S) (Oy n.p r.p R D++x):=by
  unfold Oy;exact Qq d (by omega) (by omega) (by simp) (Qq pn (by omega) (by omega) (by simp) (ir (.inr rfl) (by omega) (by omega) (by omega) (by omega) (by omega) (by omega) (by simp) (by simp) (by simp) j))
 have A:Hv 64 bs ((R+5)::S) [Fq (R+2) r.p (-1) k,F3 12 (R+4) (R+5) (R+2) R (R+5)]:=qt d (by omega) hk.1 hk.2 (ir (.inr rfl) (by omega) (by omega) (by omega) (by omega) (by omega) (by omega) (by simp) (by simp[q]) (by simp) okL_nil);refine Gd.cat (Gd.Lm (T:=(R+5)::S) a (by omega) w (by simp[Ft,cK];omega) (by simp[Ft,cK])) (Gd.cat (Gd.lpD a m (p.high (by omega)) (by omega) (Gd.L (a.snoc.lt (by omega)) z ?_) ?_) (Gd.Lm a (by omega) A (by simp[Ft,Fq,F3];omega) (fun x j=>by simp[Ft,Fq,F3] at j ⊢;rcases j with h|h|h|h<;>simp[h])))
 ·intro o ho;rcases Az.1 ho with ho|ho
  ·simp[Oy] at ho;rcases ho with rfl|rfl|rfl<;>simp[Ft,Fq,F3]<;>omega
  ·exact hm o ho
 ·intro y B;exact Ba _ (A0 _ B)
def Xa {d n r:Pn}{k bits R:Int}(p:Sk D ls)(B:0≤D∧D+1<8)(w:Ll D S)(s:16≤R∧R≤50)(pd:Bp bs d)(wd:Bw bs d)(pn:Bp bs n)(j:Bp bs r)(wr:Bw bs r)(hk:0≤k∧k<r.k)(C:bits≤1000000):Gd bs S ls (Qv d.p n.p r.p k bits R D) S:=by
 have y:(r.k:Int)≤65536:=by have:=j.s;have:=j.z;omega
 unfold Qv Vk;have z:Hv 64 bs S [cK R 0,cK (R+1) 1]:=Sr (by omega) (Sr (by omega) okL_nil);have m:Ll D ((R+1)::R::S):=(w.high (by omega)).high (by omega);have o:Ll (D+1) (D::(R+1)::R::S):=m.cons;have a:=p.snoc;have A:Ll (D+1) ((R+2)::(R+4)::(R+5)::D::(R+1)::R::S):=((o.high (by omega)).high (by omega)).high (by omega);refine Gd.mono (Gd.cat (Gd.Lm (T:=(R+1)::R::S) p (by omega) z (by simp[Ft,cK];omega) (fun x q=>by simp[Ft,cK] at q ⊢;grind)) (Gd.cat (zu5 p (by omega) m (by omega) (by simp) j wr) (Gd.cat (Gd.lpD (S':=(R+1)::R::S) p (by omega) m (by omega) (Gd.cat (py a (by omega) o (by omega) (by omega) (by omega) (by simp) j wr (by omega)) (Gd.cat (ol a (by omega) o s (by simp) pn j hk okL_nil (by simp)) (Gd.cat (Gd.Lm (T:=(R+6)::(R+2)::(R+4)::(R+5)::D::(R+1)::R::S) a (by omega) (l:=[I4 (R+6) (R+5)]) (zoe (by omega) (by omega) (by simp) okL_nil) (by simp[Ft,I4];omega) (by simp[Ft,I4])) (Gd.cat (ol a (by omega) (A.high (by omega)) s (by simp) pn j hk ?_ ?_) (Gd.Lm a (by omega) (l:=[Gg (R+4) (R+6) (R+2) (R+4),Fx r.p (-1) k (R+4),cK (R+1) 0]) ?_ ?_ ?_))))) fun x h=>h) (qo p (by omega) m (by omega) pd wd j (by omega))))) (fun x h=>h) (fun x h=>by simp[h])
 ·exact zmo (by omega) (by omega) (by omega) (by omega) (by simp) (by simp) (by simp) (Y9 j wr (by omega) (by omega) (by simp) (by simp) okL_nil)
 ·simp[Ft,Gg,Fx];omega
 ·exact zmo (by omega) (by omega) (by omega) (by omega) (by simp) (by simp) (by simp) (m7 j wr (by omega) hk.1 hk.2 (by simp) (Sr (by omega) okL_nil))
 ·simp[Ft,Gg,Fx,cK];omega
 ·intro x q;simp at q;rcases q with h|h|h<;>simp[Ft,Gg,Fx,cK,h]
structure PwG (bs:List Bf) (p:Pw):Prop where
 B:16≤p.B∧p.B≤40
 d:Bp bs p.d
 wd:Bw bs p.d
 a:Bp bs p.a
 b:Bp bs p.b
 n:Bp bs p.n
 wb:p.wb<bs.length
 wz:((p.wa+4*p.k+p.b.k+3+p.k*2^p.w:Nat):Int)≤(F4 bs p.wb).size
 w6:(F4 bs p.wb).size≤65536
 ww:(F4 bs p.wb).kind≠1
 k:1≤p.k∧p.k≤512
 nk:0<p.n.k
 w:1≤p.w∧p.w≤6
 ti:p.times≤100000
 ov:p.over≤63
 bk:p.b.k≤512
def Pw.gd {p:Pw}(h:PwG bs p)(hL:Sk D ls)(hD:0≤D∧D+3<8)(hS:Ll D S):Gd bs S ls (p.code D) S:=by
 obtain⟨hB,pd,wd,pa,pb,pn,wb,wz,w6,ww,hk,az,hw,aD,aE,aF⟩:=h;have aG:=U6 hw.2;have aH:p.k≤p.k*2^p.w:=Nat.le_mul_of_pos_right _ (Dl _);have wP:∀q:Pn,q.b=p.wb→q.a+q.k≤p.wa+4*p.k+p.b.k+3+p.k*2^p.w→Bp bs q:=fun q e1 e2=>⟨by omega,by rw[e1];omega,by rw[e1];exact w6⟩
 have wW:∀q:Pn,q.b=p.wb→Bw bs q:=fun q e1=>by unfold Bw;rw[e1];exact ww
 have aa:Bp bs p.acc:=wP _ rfl (by simp only[Pw.acc];omega);have aj:Bp bs p.base:=wP _ rfl (by simp only[Pw.base];omega);have ad:Bp bs p.cur:=wP _ rfl (by simp only[Pw.cur];omega);have ao:Bp bs p.es:=wP _ rfl (by simp only[Pw.es];omega);have Pt:Bp bs p.t:=wP _ rfl (by simp only[Pw.t];omega);have aq:Bp bs p.tab:=wP _ rfl (by simp only[Pw.tab];omega);have ap:Bp bs p.ent:=wP _ rfl (by simp only[Pw.ent,Pw.tab];omega);have Pr:Bp bs p.r:=wP _ rfl (by simp only[Pw.r,Pw.t];omega);have mo:∀(d a b:Pn) (E:Int) (ls S:List Int),Bp bs d→Bw bs d→Bp bs a→Bp bs b→0≤E→E+1<8→Sk E ls→Gd bs S ls (p.mont d a b E) S:=fun d a b E ls S hd wd ha hb h1 h2 hL=>Gd.keep0 (gz (by omega) ⟨h1,h2⟩ (fun q=>by have:=hL.2 _ q;omega) (fun q=>by have:=hL.2 _ q;omega) (by have:=hL.1;omega) (hL.lt (by omega)) hd wd ha hb pn Pt (wW _ rfl) (by simp only[Pw.t];omega) az)
 have ra:∀(d:Pn) (bits:Int) (S:List Int),Ll D S→Bp bs d→Bw bs d→bits≤1000000→Gd bs S ls (p.radix d bits D) S:=fun d bits S hS hd wd hb=>Xa hL (by omega) hS (by omega) hd wd pn Pr (wW _ rfl) (by simp only[Pw.r];omega) hb
 have cp:∀(to fr:Pn) (S:List Int),Ll D S→Bp bs to→Bw bs to→Bp bs fr→Gd bs S ls (p.copies to fr D) S:=fun to fr S hS ht wt hf=>qo hL (by omega) hS (by omega) ht wt hf (by omega)
 have ag:Ll D ((p.B:Int)::S):=hS.high (by omega);have af:=hL.snoc;have ah:=af.snoc;have aA:=ah.snoc;unfold Pw.code;refine Gd.mono (Gd.cat (Gd.Lm (T:=(p.B:Int)::S) hL (by omega) (l:=[cK p.B 0]) (Sr (by omega) okL_nil) (by simp[Ft,cK];omega) (by simp[Ft,cK])) (Gd.cat (S':=(p.B:Int)::S) ?_ (Gd.cat (S':=(p.B:Int)::S) ?_ ?_))) (fun x h=>h) (S':=(p.B:Int)::S) (fun x h=>A0 _ h)
 ·unfold Pw.fill Pw.fillR;have ar:Ll D (12::(p.B:Int)::S):=ag.high (by omega);refine Gd.mono (Gd.cat (ra _ _ _ ag ap (wW _ rfl) (by omega)) (Gd.cat (ra _ _ _ ag ad (wW _ rfl) (by omega)) (Gd.cat (mo _ _ _ _ _ _ aj (wW _ rfl) pa ad (by omega) (by omega) hL) (Gd.cat (cp _ _ _ ag aa (wW _ rfl) ap) (Gd.cat (Gd.Lm (T:=12::(p.B:Int)::S) hL (by omega) (l:=[cK 12 (iU p.k)]) (Sr (by omega) okL_nil) (by simp[Ft,cK]) (by simp[Ft,cK])) (Gd.lpD (S':=12::(p.B:Int)::S) hL (by omega) ar (by omega) (Gd.cat (mo _ _ _ _ _ _ aa (wW _ rfl) aa aj (by omega) (by omega) af) (Gd.cat (Gd.lpD af (by omega) ar.cons (by omega) (Gd.L (l:=[Fq (p.B+3) p.acc.p (D+1) 0,Fg 3 13 12 (D+1),Fx p.tab.p 13 0 (p.B+3)]) (ah.lt (by omega)) ?_ ?_) fun x hx=>Ba _ (A0 _ hx)) (Gd.Lm (l:=[cK 13 (iU p.k),Fg 3 12 12 13]) af (by omega) ?_ ?_ ?_))) fun x h=>h)))))) (fun x h=>h) (fun x h=>by simp at h;rcases h with h|h<;>simp[h])
  ·exact Qq aa (by omega) (by omega) (by simp) (Wr (by omega) (by omega) (by omega) (by omega) (by simp) (by simp) (Y9 aq (wW _ rfl) (by omega) (by omega) (by simp) (by simp) okL_nil))
  ·simp[Ft,Fq,Fg,Fx];omega
  ·exact Sr (by omega) (Wr (by omega) (by omega) (by omega) (by omega) (by simp) (by simp) okL_nil)
  ·simp[Ft,cK,Fg]
  ·intro x hx;simp at hx;rcases hx with h|h|h<;>simp[Ft,cK,Fg,h]
 ·unfold Pw.exp;have aw:Ll D ((p.B+4:Int)::(p.B:Int)::S):=ag.high (by omega);refine Gd.cat (Gd.Lm (T:=(p.B+4:Int)::(p.B:Int)::S) hL (by omega) (l:=[I4 (p.B+4) p.B]) (zoe (by omega) (by omega) (by simp) okL_nil) (by simp[Ft,I4];omega) (by simp[Ft,I4])) (Gd.cat (Gd.lpD hL (by omega) aw (by omega) (Gd.L (af.lt (by omega)) ?_ ?_) fun x hx=>Ba _ (A0 _ hx)) (Gd.Lm hL (by omega) ?_ ?_ ?_))
  ·unfold Pw.expB;split
   ·exact Qq pb (by omega) (by omega) (by simp) (Y9 ao (wW _ rfl) (by omega) (by omega) (by simp) (by simp) okL_nil)
   ·exact Qq pb (by omega) (by omega) (by simp) (zqj (.inl rfl) (by omega) (by omega) (by omega) (by simp) (Wr (by omega) (by omega) (by omega) (by omega) (by simp) (by simp) (Y9 ao (wW _ rfl) (by omega) (by omega) (by simp) (by simp) (zqj (.inr rfl) (by omega) (by omega) (by omega) (by simp) okL_nil))))
  ·unfold Pw.expB;split
   ·simp[Ft,Fq,Fx];omega
   ·simp[Ft,Fq,Fx,Jd,Fg];omega
  ·unfold Pw.expE;split
   ·exact m7 ao (wW _ rfl) (by omega) (by omega) (by simp only[Pw.es];omega) (by simp) okL_nil
   ·exact m7 ao (wW _ rfl) (by omega) (by omega) (by simp only[Pw.es];omega) (by simp) okL_nil
  ·unfold Pw.expE;split<;>simp[Ft,Fx]
  ·intro x hx;exact Ba _ (A0 _ hx)
 ·unfold Pw.run Pw.runR Pw.runW Pw.shift Pw.scan Pw.scanR;have ax:Ll (D+1) ((p.B+1:Int)::D::(p.B:Int)::S):=(ag.cons).high (by omega);have aB:Ll (D+1+1) ((p.B+2:Int)::(D+1)::(p.B+1:Int)::D::(p.B:Int)::S):=(ax.cons).high (by omega);have ay:Ll (D+1) (12::(p.B+1:Int)::D::(p.B:Int)::S):=ax.high (by omega);have aw:Ll (D+1+1) ((p.B+5:Int)::(D+1)::12::(p.B+1:Int)::D::(p.B:Int)::S):=(ay.cons).high (by omega);have aC:Ll D ((p.B+3:Int)::(p.B:Int)::S):=ag.high (by omega);refine Gd.mono (Gd.cat (cp _ _ _ ag aa (wW _ rfl) ap) (Gd.cat (Gd.lpD (S':=(p.B:Int)::S) hL (by omega) ag (by omega) (Gd.mono (Gd.cat (Gd.Lm (T:=(p.B+1:Int)::D::(p.B:Int)::S) af (by omega) (l:=[I4 (p.B+1) p.B]) (zoe (by omega) (by omega) (by simp) okL_nil) (by simp[Ft,I4];omega) (by simp[Ft,I4])) (Gd.cat (Gd.lpD (S':=(p.B+1:Int)::D::(p.B:Int)::S) af (by omega) ax (by omega) ?_ fun x h=>h) (Gd.cat (S':=(p.B+1:Int)::D::(p.B:Int)::S) ?_ (mo _ _ _ _ _ _ aa (wW _ rfl) aa ad (by omega) (by omega) af)))) (fun x h=>h) (fun x h=>by simp at h;rcases h with h|h<;>simp[h])) fun x h=>h) ?_)) (fun x h=>h) (S':=(p.B+3:Int)::(p.B:Int)::S) (fun x h=>A0 _ h)
  ·refine Gd.mono (Gd.cat (mo _ _ _ _ _ _ aa (wW _ rfl) aa aa (by omega) (by omega) ah) (Gd.cat (Gd.Lm (T:=(p.B+2:Int)::(D+1)::(p.B+1:Int)::D::(p.B:Int)::S) ah (by omega) (l:=[I4 (p.B+2) p.B]) (zoe (by omega) (by omega) (by simp) okL_nil) (by simp[Ft,I4];omega) (by simp[Ft,I4])) (Gd.cat (py ah (by omega) aB (by omega) (by omega) (by omega) (by simp) ao (wW _ rfl) (by show ((p.b.k+1:Nat):Int)≤_;omega)) (Gd.Lm (T:=(p.B+1:Int)::D::(p.B:Int)::S) ah (by omega) (l:=[Jd 8 (p.B+1) (p.B+1) 1,Fg 6 (p.B+1) (p.B+1) (p.B+2)]) ?_ ?_ ?_)))) (fun x h=>h) fun x h=>h
   ·exact zqj (.inl rfl) (by omega) (by omega) (by omega) (by simp) (Wr (by omega) (by omega) (by omega) (by omega) (by simp) (by simp) okL_nil)
   ·simp[Ft,Jd,Fg];omega
   ·intro x hx;simp at hx;rcases hx with h|h|h|h<;>simp[Ft,Jd,Fg,h]
  ·refine Gd.mono (Gd.cat (Gd.Lm (T:=12::(p.B+1:Int)::D::(p.B:Int)::S) af (by omega) (l:=[cK 12 0]) (Sr (by omega) okL_nil) (by simp[Ft,cK]) (by simp[Ft,cK])) (Gd.lpD (S':=12::(p.B+1:Int)::D::(p.B:Int)::S) af (by omega) ay (by omega) (Gd.cat (Gd.Lm (T:=(p.B+5:Int)::(D+1)::12::(p.B+1:Int)::D::(p.B:Int)::S) ah (by omega) (l:=[Fg 7 (p.B+5) (p.B+1) (D+1),F3 12 (p.B+4) (p.B+5) p.B (p.B+5) p.B]) ?_ ?_ ?_) (Gd.cat (Gd.lpD ah (by omega) aw (by omega) (Gd.L (l:=p.scanB (D+1+1)) (aA.lt (by omega)) ?_ ?_) fun x hx=>Ba _ (A0 _ hx)) (Gd.Lm (l:=[cK 13 (iU p.k),Fg 3 12 12 13]) ah (by omega) ?_ ?_ ?_))) fun x h=>h)) (fun x h=>h) (fun x h=>A0 _ h)
   ·exact Wr (by omega) (by omega) (by omega) (by omega) (by simp) (by simp) (ir (.inr rfl) (by omega) (by omega) (by omega) (by omega) (by omega) (by omega) (by simp) (by simp) (by simp) okL_nil)
   ·simp[Ft,Fg,F3];omega
   ·intro x hx;simp at hx;rcases hx with h|h|h|h|h|h|h<;>simp[Ft,Fg,F3,h]
   ·unfold Pw.scanB;exact Wr (by omega) (by omega) (by omega) (by omega) (by simp) (by simp) (Qq aq (by omega) (by omega) (by simp) (Qq ad (by omega) (by omega) (by simp) (zmo (by omega) (by omega) (by omega) (by omega) (by simp) (by simp) (by simp) (Y9 ad (wW _ rfl) (by omega) (by omega) (by simp) (by simp) okL_nil))))
   ·simp[Pw.scanB,Ft,Fg,Fq,Gg,Fx];omega
   ·exact Sr (by omega) (Wr (by omega) (by omega) (by omega) (by omega) (by simp) (by simp) okL_nil)
   ·simp[Ft,cK,Fg]
   ·intro x hx;simp at hx;rcases hx with h|h|h|h|h<;>simp[Ft,cK,Fg,h]
  ·exact Gd.cat (Gd.Lm (T:=(p.B+3:Int)::(p.B:Int)::S) hL (by omega) (l:=[cK (p.B+3) 1]) (Sr (by omega) okL_nil) (by simp[Ft,cK];omega) (by simp[Ft,cK])) (Gd.cat (zu5 hL (by omega) aC (by omega) (by simp) ad (wW _ rfl)) (Gd.cat (Gd.Lm (T:=(p.B+3:Int)::(p.B:Int)::S) hL (by omega) (l:=[Fx p.cur.p (-1) 0 (p.B+3)]) (m7 ad (wW _ rfl) (by omega) (by omega) (by simp only[Pw.cur];omega) (by simp) okL_nil) (by simp[Ft,Fx]) (fun x h=>by simp[Ft,Fx];simpa using h)) (mo _ _ _ _ _ _ pd wd aa ad (by omega) (by omega) hL)))
end gd
end Go.Sv
namespace Go.Sv
set_option linter.unusedSimpArgs false
def zeh {α:Type}:∀f g h:Fr α,(f.cat g).cat h=f.cat (g.cat h)
 |.nil,_,_=>rfl
 |.op o r,g,h=>by rw[Fr.cat,Fr.cat,Fr.cat,zeh r g h]
 |.loop o b e r,g,h=>by rw[Fr.cat,Fr.cat,Fr.cat,zeh r g h]
def Rn (g:Fr Lo):Fr.cat (Fl []) g=g:=rfl
def Fm (l:List Pn)(m m':Nat→Nat→UInt64):Prop:=∀x y,(∀p∈l,¬(x=p.b∧p.a≤y∧y<p.a+p.k))→m' x y=m x y
section fm
variable {l l' : List Pn} {m m' m'' : Nat → Nat → UInt64} {p q : Pn}
def Fm.trans (h:Fm l m m')(k:Fm l m' m''):Fm l m m'':=fun x y hn=>(k x y hn).trans (h x y hn)
def Fm.mono (h:Fm l m m')(k:∀p∈l,p∈l'):Fm l' m m':=fun x y hn=>h x y fun p hp=>hn p (k p hp)
def F5.fm (h:F5 p m m')(hp:p∈l):Fm l m m':=fun x y hn=>h x y (hn p hp)
def Fm.pl (h:Fm l m m')(d:∀p∈l,Dj p q){i:Nat}(hi:i<q.k):pl m' q i=pl m q i :=
 h _ _ fun p hp ⟨h1,h2,h3⟩=>by
  rcases d p hp with d|d|d
  ·exact d h1.symm
  ·omega
  ·omega
def Fm.vl (h:Fm l m m')(d:∀p∈l,Dj p q){n:Nat}(hn:n≤q.k):vl (Go.Sv.pl m' q) n=vl (Go.Sv.pl m q) n:=Om fun _ hi=>h.pl d (by omega)
end fm
section ex
variable {sz : Nat → Nat} {s : Fs}
def zyo {d a:Nat}{k:Nat}(hk:k<64):I3 sz (Jd 9 d a (k:Nat)) s=some (s.put d (UInt64.ofNat ((s.r a).toNat/2^k))):=by
 have e:(iU (k:Int)).toNat=k:=Ol (by omega);simp[I3,Jd,Gb,So,T8,Ri,e]
def zs1 {d a:Nat}{k:Nat}(hk:k<64):I3 sz (Jd 8 d a (k:Nat)) s=some (s.put d (UInt64.ofNat ((s.r a).toNat*2^k))):=by
 have e:(iU (k:Int)).toNat=k:=Ol (by omega);simp[I3,Jd,Gb,So,T8,Ri,e]
def zhv {x:UInt64}{k:Nat}:(UInt64.ofNat (x.toNat/2^k)).toNat=x.toNat/2^k:=by
 have h:=x.toNat_lt;have:=Er x.toNat (2^k);simp;omega
def Xo {x b:UInt64}(d:b.toNat≤1):(UInt64.ofNat (x.toNat*2^1) ||| b).toNat=2*x.toNat%18446744073709551616+b.toNat:=by
 have f:=x.toNat_lt;rw[D7];have a:(UInt64.ofNat (x.toNat*2^1)).toNat=2^1*(x.toNat%2^63):=by
  simp;omega
 rw[a,←Et (show b.toNat<2^1 by omega)];omega
def Yv {x b:UInt64}(a:b.toNat≤1):(UInt64.ofNat (x.toNat*2^1) ||| b).toNat+18446744073709551616*(UInt64.ofNat (x.toNat/2^63)).toNat=2*x.toNat+b.toNat∧(UInt64.ofNat (x.toNat/2^63)).toNat≤1:=by
 have d:=x.toNat_lt;rw[Xo a,zhv];omega
def rh {P W v r V x q b r':Nat}(h:v+P*r=2*V+b)(k:q+W*r'=2*x+r):v+q*P+P*W*r'=2*(V+x*P)+b:=by
 have a:P*(q+W*r')=P*(2*x+r):=by rw[k]
 grind
def pe {p:Pn}{n l o b D:Nat}(H:p.in_ sz)(M:n≤p.k)(hd:l≠o∧l≠b∧l≠D∧o≠b∧o≠D∧b≠D)(I:(s.r b).toNat≤1) :
  Tx sz (Ro p.p n l o b D) s fun a=>(∀z,z≠l→z≠o→z≠b→z≠D→a.r z=s.r z)∧F5 p s.m a.m∧(a.r b).toNat≤1∧vl (pl a.m p) n+18446744073709551616^n*(a.r b).toNat=2*vl (pl s.m p) n+(s.r b).toNat:=by
 obtain⟨N,y⟩:=H;obtain⟨d1,d2,d3,d4,d5,d6⟩:=hd;have e:Ro p.p n l o b D=Ha (D:Nat) (n:Nat) (Fl [Fq (l:Nat) p.p (D:Nat) ((0:Nat):Int),Jd 9 (o:Nat) (l:Nat) ((63:Nat):Int),Jd 8 (l:Nat) (l:Nat) ((1:Nat):Int),Fg 6 (l:Nat) (l:Nat) (b:Nat),Fx p.p (D:Nat) ((0:Nat):Int) (l:Nat),I4 (b:Nat) (o:Nat)]):=rfl;rw[e];refine .lp (fun j s1=>(∀z,z≠l→z≠o→z≠b→z≠D→s1.r z=s.r z)∧F5 p s.m s1.m∧(s1.r b).toNat≤1∧(∀i,j≤i→pl s1.m p i=pl s.m p i)∧vl (pl s1.m p) j+18446744073709551616^j*(s1.r b).toNat=2*vl (pl s.m p) j+(s.r b).toNat)
  ⟨fun _ _ _ _ _=>rfl,fun _ _ _=>rfl,I,fun _ _=>rfl,by simp[vl]⟩ (by omega) (fun j s1 O ⟨g1,J,K,A,v1⟩=>?_) fun _ h=>⟨h.1,h.2.1,h.2.2.1,h.2.2.2.2⟩
 have f:((s1.put D (UInt64.ofNat j)).r D).toNat=j:=by simp[Fh];omega
 have d:(UInt64.ofNat j).toNat=j:=S4 (by omega);refine .op (Qj (by rw[f];omega) y) (.op (zyo (by omega)) (.op (zs1 (by omega)) (.op zwy ?_)));simp only[Fh,Ho,Bv,Ab d1,Ab d2.symm,Ab d4.symm,Ab d6,Ab d1.symm,d,Be];have w:=Yv (x:=pl s1.m p j) K;obtain⟨B,L⟩:=w;refine .op (Wj (by simp only[Fh,Ab d3.symm,Ab d5.symm,Bv];rw[S4 (by omega)];omega) y) (.op y5 (.nil ⟨fun z C E F G=>?_,?_,?_,fun i hi=>?_,?_⟩))
 ·simp only[Fh,K0,Ab C,Ab E,Ab F,Ab G];exact g1 z C E F G
 ·refine J.trans ?_;rw[Ho];refine Pd (p:=p) ?_;simp only[Fh,Ab d3.symm,Ab d5.symm,Bv];rw[S4 (by omega)];omega
 ·simp only[Fh,K0,Bv,Ab d1.symm,Be];exact L
 ·rw[Ho,Jo];simp only[Fh,Ab d3.symm,Ab d5.symm,Bv];rw[S4 (by omega),Ab (by omega)];exact A i (by omega)
 ·rw[Ho,Jl,Jl,Jo];simp only[Fh,K0,Ab d3.symm,Ab d5.symm,Bv,Ab d1.symm,Be];rw[d,Ag rfl,Bg,Om (g:=pl s1.m p) fun i hi=>by rw[Jo,Ab (by omega)];rfl];rw[A j (Al _)] at B ⊢;exact rh v1 B
def Y0 {to fr:Pn}{k l D:Nat}(x:to.in_ sz)(y:fr.in_ sz)(B:k≤to.k)(C:k≤fr.k)(a:l≠D)(A:Dj to fr) :
  Tx sz (Ta to.p fr.p k l D) s fun d=>(∀z,z≠l→z≠D→d.r z=s.r z)∧F5 to s.m d.m∧∀i,i<k→pl d.m to i=pl s.m fr i:=by
 obtain⟨t1,t2⟩:=x;obtain⟨f1,f2⟩:=y;have e:Ta to.p fr.p k l D=Ha (D:Nat) (k:Nat) (Fl [Fq (l:Nat) fr.p (D:Nat) ((0:Nat):Int),Fx to.p (D:Nat) ((0:Nat):Int) (l:Nat)]):=rfl;rw[e];refine .lp (fun j s1=>(∀z,z≠l→z≠D→s1.r z=s.r z)∧F5 to s.m s1.m∧∀i,i<j→pl s1.m to i=pl s.m fr i)
  ⟨fun _ _ _=>rfl,fun _ _ _=>rfl,fun _ h=>absurd h (by omega)⟩ (by omega) (fun j s1 E ⟨g1,g,v1⟩=>?_) fun _ h=>h
 have f:((s1.put D (UInt64.ofNat j)).r D).toNat=j:=by simp[Fh];omega
 refine .op (Qj (by rw[f];omega) f2) (.op (Wj (by simp only[Fh,Ab a.symm,Bv];rw[S4 (by omega)];omega) t2) (.nil ⟨fun z o w=>?_,?_,fun i hi=>?_⟩))
 ·simp only[Fh,K0,Ab o,Ab w];exact g1 z o w
 ·refine g.trans ?_;refine Pd (p:=to) ?_;simp only[Fh,Ab a.symm,Bv];rw[S4 (by omega)];omega
 ·rw[Jo];simp only[Fh,Ho,Ab a.symm,Bv,Be];rw[S4 (by omega)];split
  ·rename_i q;rw[q];exact g.pl A (by omega)
  ·exact v1 i (by omega)
def zqe {R D j:Nat}{n r:Pn}{c:Bool}(F:D<R)(a:(s.r D).toNat=j)(g:s.r (R+5)=Gj c)(o:n.in_ sz)(w:r.in_ sz)(G:j<n.k)(H:j<r.k)(x:List Lo)(Q:Fs→Prop)
  (h:∀(s1:Fs) (b:Bool),s1.m=s.m→s1.r (R+5)=Gj b→s1.r (R+2)=pl s.m r j→(s1.r (R+4)).toNat+(pl s.m n j).toNat+c.toNat=(pl s.m r j).toNat+18446744073709551616*b.toNat→(∀z,z≠R+2→z≠R+4→z≠R+5→s1.r z=s.r z)→Tx sz (Fl x) s1 Q) :
  Tx sz (Fl (Oy n.p r.p R D++x)) s Q:=by
 obtain⟨y,d⟩:=o;obtain⟨A,f⟩:=w;have e:Oy n.p r.p R D++x=Fq ((R+2:Nat):Int) r.p (D:Nat) ((0:Nat):Int)::Fq ((R+4:Nat):Int) n.p (D:Nat) ((0:Nat):Int)::F3 12 ((R+4:Nat):Int) ((R+5:Nat):Int) ((R+2:Nat):Int) ((R+4:Nat):Int) ((R+5:Nat):Int)::x:=rfl;rw[e];have dn:∀n,n<11→¬D=R+n:=fun n h=>by omega
 refine .op (Qj (by omega) f) (.op (Qj (by simp only[Fh,Ab (dn 2 (by omega))];omega) d) (.op zio ?_));have hv:=zci (pl s.m r j) (pl s.m n j) c;refine h _ (Gu (pl s.m r j) (pl s.m n j) c).2 rfl ?_ ?_ ?_ fun z B C E=>?_
 ·simp[Fh,Ho,dn,a,g,Wn]
 ·simp[Fh,Ho,dn,a]
 ·simpa [Fh,Ho,dn,a,g,Wn] using hv
 ·simp[Fh,B,C,E]
def ztd {R k:Nat}{r:Pn}{c:Bool}(d:s.r R=0)(f:s.r (R+5)=Gj c)(j:r.in_ sz)(A:k<r.k)(g:Fr Lo)(Q:Fs→Prop)
  (h:∀(s1:Fs) (b:Bool),s1.m=s.m→s1.r (R+5)=Gj b→s1.r (R+2)=pl s.m r k→(s1.r (R+4)).toNat+c.toNat=(pl s.m r k).toNat+18446744073709551616*b.toNat→(∀z,z≠R+2→z≠R+4→z≠R+5→s1.r z=s.r z)→Tx sz g s1 Q) :
  Tx sz ((Fl [Fq ((R:Int)+2) r.p (-1) (k:Nat),F3 12 ((R:Int)+4) ((R:Int)+5) ((R:Int)+2) (R:Nat) ((R:Int)+5)]).cat g) s Q:=by
 obtain⟨o,a⟩:=j;have e:[Fq ((R:Int)+2) r.p (-1) (k:Nat),F3 12 ((R:Int)+4) ((R:Int)+5) ((R:Int)+2) (R:Nat) ((R:Int)+5)]=[Fq ((R+2:Nat):Int) r.p (-1) (k:Nat),F3 12 ((R+4:Nat):Int) ((R+5:Nat):Int) ((R+2:Nat):Int) (R:Nat) ((R+5:Nat):Int)]:=rfl;rw[e];refine .op (xe (by omega) a) (.op zio ?_);have hv:=zci (pl s.m r k) 0 c;refine h _ (Gu (pl s.m r k) 0 c).2 rfl ?_ ?_ ?_ fun z w x y=>?_
 ·simp[Fh,d,f,Wn]
 ·simp[Fh]
 ·simpa [Fh,d,f,Wn] using hv
 ·simp[Fh,w,x,y]
def Z1 (R z:Nat):Prop:=z=R+2∨z=R+4∨z=R+5
def iy {R D k:Nat}{n r:Pn}(C:D<R)(E:s.r R=0)(F:n.in_ sz)(d:r.in_ sz)(J:k≤n.k)(G:k<r.k) :
  Tx sz (O0 n.p r.p k R D []) s fun g=>(∀z,¬Z1 R z→z≠D→g.r z=s.r z)∧g.m=s.m∧∃(c:Bool) (v:Nat),g.r (R+5)=Gj c∧v<18446744073709551616^(k+1)∧v+vl (pl s.m n) k=vl (pl s.m r) (k+1)+18446744073709551616^(k+1)*c.toNat:=by
 have H:k<18446744073709551616:=by have:=d.1;have:=d.2;omega
 have e:O0 n.p r.p k R D []=(Fl [cK ((R+5:Nat):Int) 0]).cat ((Ha (D:Nat) (k:Nat) (Fl (Oy n.p r.p R D++[]))).cat ((Fl [Fq ((R:Int)+2) r.p (-1) (k:Nat),F3 12 ((R:Int)+4) ((R:Int)+5) ((R:Int)+2) (R:Nat) ((R:Int)+5)]).cat .nil)):=rfl;rw[e];unfold Z1;refine .op Oh ?_;rw[Rn];refine .cat (R:=fun s1=>(∀z,¬(z=R+2∨z=R+4∨z=R+5)→z≠D→s1.r z=s.r z)∧s1.m=s.m∧∃(c:Bool) (v:Nat),s1.r (R+5)=Gj c∧v<18446744073709551616^k∧v+vl (pl s.m n) k=vl (pl s.m r) k+18446744073709551616^k*c.toNat) ?_ fun s1 ⟨g1,m1,c,v,o,I,v1⟩=>?_
 ·refine .lp (fun j s1=>(∀z,¬(z=R+2∨z=R+4∨z=R+5)→z≠D→s1.r z=s.r z)∧s1.m=s.m∧∃(c:Bool) (v:Nat),s1.r (R+5)=Gj c∧v<18446744073709551616^j∧v+vl (pl s.m n) j=vl (pl s.m r) j+18446744073709551616^j*c.toNat) ⟨fun z f _=>?_,rfl,false,0,by rw[Fh,Ag rfl];rfl,by simp,by simp[vl]⟩ H (fun j s1 K ⟨g1,m1,c,v,o,I,v1⟩=>?_) fun _ h=>h
  ·rw[Fh,Ab (by omega)]
  ·refine zqe (j:=j) (c:=c) C (by simp[Fh];omega) (by rw[Fh,Ab (by omega),o]) F d (by omega) (by omega) _ _ fun s2 b w y t2 v2 A=>.nil ⟨fun z f a=>?_,by rw[w,Ho,m1],b,v+(s2.r (R+4)).toNat*18446744073709551616^j,y,?_,?_⟩
   ·rw[A z (by omega) (by omega) (by omega),Fh,Ab a,g1 z f a]
   ·have:=(s2.r (R+4)).toNat_lt;have B:=At (18446744073709551616^j) (show (s2.r (R+4)).toNat+1≤18446744073709551616 by omega);rw[Bb,Cn] at B;rw[Bg,B2 (18446744073709551616^j)];omega
   ·rw[Ho,m1] at v2;rw[Jl,Jl,Bg];exact yx v1 v2
 ·refine ztd (c:=c) (by rw[g1 R (by omega) (by omega),E]) o d G _ _ fun s2 b w y t2 v2 A=>.nil ⟨fun z f a=>?_,by rw[w,m1],b,v+(s2.r (R+4)).toNat*18446744073709551616^k,y,?_,?_⟩
  ·rw[A z (by omega) (by omega) (by omega),g1 z f a]
  ·have:=(s2.r (R+4)).toNat_lt;have B:=At (18446744073709551616^k) (show (s2.r (R+4)).toNat+1≤18446744073709551616 by omega);rw[Bb,Cn] at B;rw[Bg,B2 (18446744073709551616^k)];omega
  ·rw[m1] at v2;rw[Jl,Bg];have:=yx (x:=0) v1 (by simpa using v2);simpa using this
def fy {R D k:Nat}{n r:Pn}{p:Bool}(M:D<R)(N:s.r R=0)(K:s.r (R+6)=Gj p)(O:n.in_ sz)(y:r.in_ sz)(Y:k≤n.k)(P:k<r.k)(Q:Dj r n) :
  Tx sz ((O0 n.p r.p k R D [Gg ((R:Int)+4) ((R:Int)+6) ((R:Int)+2) ((R:Int)+4),Fx r.p D 0 ((R:Int)+4)]).cat (Fl [Gg ((R:Int)+4) ((R:Int)+6) ((R:Int)+2) ((R:Int)+4),Fx r.p (-1) k ((R:Int)+4),cK ((R:Int)+1) 0])) s fun C =>
   (∀z,¬Z1 R z→z≠R+1→z≠D→C.r z=s.r z)∧F5 r s.m C.m∧C.r (R+1)=0∧∃(c:Bool) (v:Nat),v<18446744073709551616^(k+1)∧v+vl (pl s.m n) k=vl (pl s.m r) (k+1)+18446744073709551616^(k+1)*c.toNat∧vl (pl C.m r) (k+1)=if p=true then vl (pl s.m r) (k+1) else v:=by
 have S:k<18446744073709551616:=by have:=y.1;have:=y.2;omega
 have T:=y.1;have B:=y.2;have e:∀g:Fr Lo,(O0 n.p r.p k R D [Gg ((R:Int)+4) ((R:Int)+6) ((R:Int)+2) ((R:Int)+4),Fx r.p D 0 ((R:Int)+4)]).cat g=(Fl [cK ((R+5:Nat):Int) 0]).cat ((Ha (D:Nat) (k:Nat) (Fl (Oy n.p r.p R D++[Gg ((R+4:Nat):Int) ((R+6:Nat):Int) ((R+2:Nat):Int) ((R+4:Nat):Int),Fx r.p (D:Nat) ((0:Nat):Int) ((R+4:Nat):Int)]))).cat ((Fl [Fq ((R:Int)+2) r.p (-1) (k:Nat),F3 12 ((R:Int)+4) ((R:Int)+5) ((R:Int)+2) (R:Nat) ((R:Int)+5)]).cat g)):=fun g=>by
  unfold O0;rw[zeh,zeh];rfl
 rw[e];unfold Z1;refine .op Oh ?_;rw[Rn];refine .cat (R:=fun s1=>(∀z,¬(z=R+2∨z=R+4∨z=R+5)→z≠D→s1.r z=s.r z)∧F5 r s.m s1.m∧(∀i,k≤i→pl s1.m r i=pl s.m r i)∧∃(c:Bool) (v:Nat),s1.r (R+5)=Gj c∧v<18446744073709551616^k∧v+vl (pl s.m n) k=vl (pl s.m r) k+18446744073709551616^k*c.toNat∧vl (pl s1.m r) k=if p=true then vl (pl s.m r) k else v) ?_ fun s1 ⟨g1,E,F,c,v,H,U,v1,I⟩=>?_
 ·refine .lp (fun j s1=>(∀z,¬(z=R+2∨z=R+4∨z=R+5)→z≠D→s1.r z=s.r z)∧F5 r s.m s1.m∧(∀i,j≤i→pl s1.m r i=pl s.m r i)∧∃(c:Bool) (v:Nat),s1.r (R+5)=Gj c∧v<18446744073709551616^j∧v+vl (pl s.m n) j=vl (pl s.m r) j+18446744073709551616^j*c.toNat∧vl (pl s1.m r) j=if p=true then vl (pl s.m r) j else v) ⟨fun z G _=>?_,fun _ _ _=>rfl,fun _ _=>rfl,false,0,by rw[Fh,Ag rfl];rfl,by simp,by simp[vl],by simp[vl]⟩ S (fun j s1 Z ⟨g1,E,F,c,v,H,U,v1,I⟩=>?_) fun _ h=>h
  ·rw[Fh,Ab (by omega)]
  ·refine zqe (j:=j) (c:=c) M (by simp[Fh];omega) (by rw[Fh,Ab (by omega),H]) O y (by omega) (by omega) _ _ fun s2 b f L t2 v2 A=>?_
   have V:(s2.r D).toNat=j:=by rw[A D (by omega) (by omega) (by omega)];simp[Fh];omega
   rw[Ho] at t2 v2 f;rw[F j (Al _)] at t2 v2;rw[E.pl Q (by omega)] at v2;have o:s2.r (R+6)=Gj p:=by rw[A _ (by omega) (by omega) (by omega),Fh,Ab (by omega),g1 _ (by omega) (by omega),K]
   refine .op zms (.op (Wj (by simp only[Fh];rw[Ab (by omega)];omega) B) (.nil ⟨fun z G a=>?_,?_,fun i hi=>?_,b,v+(s2.r (R+4)).toNat*18446744073709551616^j,?_,?_,?_,?_⟩))
   ·rw[K0,Fh,Ab (by omega),A z (by omega) (by omega) (by omega),Fh,Ab a,g1 z G a]
   ·refine E.trans (f ▸ ?_);exact Pd (p:=r) (s:=s2.put _ _) (by rw[Fh,Ab (by omega)];omega)
   ·have w:0+((s2.put (R+4) (if s2.r (R+6)%2=1 then s2.r (R+2) else s2.r (R+4))).r D).toNat=j:=by rw[Fh,Ab (by omega)];omega
    rw[w,Jo,Ab (by omega),Ho,f];exact F i (by omega)
   ·rw[K0,Fh,Ab (by omega),L]
   ·have:=(s2.r (R+4)).toNat_lt;have J:=At (18446744073709551616^j) (show (s2.r (R+4)).toNat+1≤18446744073709551616 by omega);rw[Bb,Cn] at J;rw[Bg,B2 (18446744073709551616^j)];omega
   ·rw[Jl,Jl,Bg];exact yx v1 v2
   ·have w:0+((s2.put (R+4) (if s2.r (R+6)%2=1 then s2.r (R+2) else s2.r (R+4))).r D).toNat=j:=by rw[Fh,Ab (by omega)];omega
    rw[Jl,w,Jo,Ag rfl,Om (g:=pl s1.m r) (n:=j) fun i hi=>by rw[Jo,Ab (by omega),Ho,f],I,Fh,Ag rfl,o,t2];have d:=Wn p;cases p
    ·simp at d;simp[d]
    ·simp at d;simp[d,Jl]
 ·refine ztd (c:=c) (by rw[g1 R (by omega) (by omega),N]) H y P _ _ fun s2 b f L t2 v2 A=>?_
  rw[F k (Al _)] at t2 v2;have o:s2.r (R+6)=Gj p:=by rw[A _ (by omega) (by omega) (by omega),g1 _ (by omega) (by omega),K]
  have W:[Gg ((R:Int)+4) ((R:Int)+6) ((R:Int)+2) ((R:Int)+4),Fx r.p (-1) (k:Nat) ((R:Int)+4),cK ((R:Int)+1) 0]=[Gg ((R+4:Nat):Int) ((R+6:Nat):Int) ((R+2:Nat):Int) ((R+4:Nat):Int),Fx r.p (-1) (k:Nat) ((R+4:Nat):Int),cK ((R+1:Nat):Int) 0]:=rfl;rw[W];refine .op zms (.op (qw (by omega) B) (.op Oh (.nil ⟨fun z G X a=>?_,?_,by simp[Fh],b,v+(s2.r (R+4)).toNat*18446744073709551616^k,?_,?_,?_⟩)))
  ·rw[Fh,Ab X,K0,Fh,Ab (by omega),A z (by omega) (by omega) (by omega),g1 z G a]
  ·refine E.trans (f ▸ ?_);exact Pd (p:=r) (s:=s2.put _ _) (by omega)
  ·have:=(s2.r (R+4)).toNat_lt;have J:=At (18446744073709551616^k) (show (s2.r (R+4)).toNat+1≤18446744073709551616 by omega);rw[Bb,Cn] at J;rw[Bg,B2 (18446744073709551616^k)];omega
  ·rw[Jl,Bg];have:=yx (x:=0) v1 (by simpa using v2);simpa using this
  ·rw[Ho,Jl,Jo,Ag rfl,Om (g:=pl s1.m r) (n:=k) fun i hi=>by rw[Jo,Ab (by omega),Ho,f],I,Fh,Ag rfl,o,t2];have d:=Wn p;cases p
   ·simp at d;simp[d]
   ·simp at d;simp[d,Jl]
end ex
end Go.Sv
namespace Go.Sv
set_option linter.unusedSimpArgs false
def Fm.inn {l:List Pn}{q:Pn}{m m':Nat→Nat→UInt64}(h:Fm l m m')(k:∀p∈l,p.b=q.b∧q.a≤p.a∧p.a+p.k≤q.a+q.k):Fm [q] m m':=fun x y hn=>h x y fun p hp ⟨h1,h2,h3⟩=>hn q (by simp) (by have:=k p hp;omega)
def rq {P N X v a c c':Nat}(g:c≤1)(d:c'≤1)(j:v<P)(l:v+N=X+P*c)(m:a<P)(o:a+N=X+P*c')(q:X<2*N):(c=1→X%N=X)∧(c=0→a=X%N):=by
 have e:c=0∨c=1:=by omega
 have f:c'=0∨c'=1:=by omega
 have hm:N≤X→X%N=X - N:=fun h=>by rw[Nat.mod_eq_sub_mod h,Bd (by omega)]
 rcases e with rfl|rfl<;>rcases f with rfl|rfl<;>simp at *
 ·have:=hm (by omega);omega
 ·omega
 ·exact Bd (by omega)
 ·exact Bd (by omega)
def vr {v P b X N Q:Nat}(h:v+P*b=X)(a:b=0∨b=1)(d:X<2*N)(f:N<Q)(g:P=Q*18446744073709551616):v=X:=by
 rcases a with rfl|rfl<;>omega
def zpg {p:Pn}{t:Fs}{m:Nat→Nat→UInt64}{i:Nat}{v:UInt64}(h:t.m=m)(hi:i<p.k):F5 p m (t.sto p.b (p.a+i) v).m:=h ▸ Pd hi
section ex
variable {sz : Nat → Nat} {s : Fs}
def zug {R D k bits:Nat}{d n r:Pn}(hD:D+1<R)(hd:d.in_ sz)(U:n.in_ sz)(y:r.in_ sz)(kd:k≤d.k)(H:k≤n.k)(kr:r.k=k+1)(V:Dj r n)(dr:Dj d r)(hb:bits≤1000000) :
  Tx sz (Qv d.p n.p r.p k bits R D) s fun I=>(∀z,¬(R≤z∧z≤R+6)→z≠D→z≠D+1→I.r z=s.r z)∧Fm [d,r] s.m I.m∧(0<vl (pl s.m n) k→vl (pl I.m d) k=2^bits%vl (pl s.m n) k):=by
 have aa:=y.1;have ad:=y.2;have e:Qv d.p n.p r.p k bits R D=(Fl [cK (R:Nat) 0,cK ((R+1:Nat):Int) 1]).cat ((Ky r.p (R:Nat) (D:Nat)).cat ((Ha (D:Nat) ((bits+1:Nat):Int) ((Ro r.p ((k+1:Nat):Int) ((R+2:Nat):Int) ((R+3:Nat):Int) ((R+1:Nat):Int) ((D+1:Nat):Int)).cat ((O0 n.p r.p k R ((D+1:Nat):Int) []).cat ((Fl [I4 ((R+6:Nat):Int) ((R+5:Nat):Int)]).cat ((O0 n.p r.p k R ((D+1:Nat):Int) [Gg ((R:Int)+4) ((R:Int)+6) ((R:Int)+2) ((R:Int)+4),Fx r.p ((D+1:Nat):Int) 0 ((R:Int)+4)]).cat (Fl [Gg ((R:Int)+4) ((R:Int)+6) ((R:Int)+2) ((R:Int)+4),Fx r.p (-1) k ((R:Int)+4),cK ((R:Int)+1) 0])))))).cat (Ta d.p r.p k ((R+2:Nat):Int) (D:Nat)))):=rfl;rw[e];refine .op Oh (.op Oh ?_);rw[Rn];refine (zsv y (by omega)).cat fun s1 ⟨g1,W,X⟩=>?_
 simp only[Ho,Fh,Bv] at g1 W X;have J:∀i,i<r.k→pl s1.m r i=0:=fun i hi=>by rw[X i hi,Ab (by omega)]
 refine .cat (R:=fun s2=>(∀z,¬(R≤z∧z≤R+6)→z≠D→z≠D+1→s2.r z=s.r z)∧s2.r R=0∧F5 r s.m s2.m∧(s2.r (R+1)).toNat≤1∧(0<vl (pl s.m n) k→2*vl (pl s2.m r) (k+1)+(s2.r (R+1)).toNat<2*vl (pl s.m n) k∧(2*vl (pl s2.m r) (k+1)+(s2.r (R+1)).toNat)%vl (pl s.m n) k=2^(bits+1)%vl (pl s.m n) k∧vl (pl s2.m r) (k+1)=2^bits%vl (pl s.m n) k)) ?_ fun s2 ⟨g2,Y,K,Z,v2⟩=>?_
 ·refine .lp (fun i s2=>(∀z,¬(R≤z∧z≤R+6)→z≠D→z≠D+1→s2.r z=s.r z)∧s2.r R=0∧F5 r s.m s2.m∧(s2.r (R+1)).toNat≤1∧(0<vl (pl s.m n) k→2*vl (pl s2.m r) (k+1)+(s2.r (R+1)).toNat<2*vl (pl s.m n) k∧(2*vl (pl s2.m r) (k+1)+(s2.r (R+1)).toNat)%vl (pl s.m n) k=2^i%vl (pl s.m n) k∧(0<i→vl (pl s2.m r) (k+1)=2^(i - 1)%vl (pl s.m n) k)))
   ⟨fun z B f x=>?_,?_,W,?_,fun j=>?_⟩ (by omega) (fun i s2 hi ⟨g2,Y,K,Z,v2⟩=>?_) fun m ⟨a,b,c,d,e⟩=>⟨a,b,c,d,fun j=>⟨(e j).1,(e j).2.1,(e j).2.2 (by omega)⟩⟩
  ·rw[g1 z f,Ab (by omega),Ab (by omega)]
  ·rw[g1 R (by omega),Ab (by omega),Ag rfl]
  ·rw[g1 (R+1) (by omega),Ag rfl];decide
  ·rw[zhn fun i hi=>J i (by omega),g1 (R+1) (by omega),Ag rfl];refine⟨?_,by simp,fun h=>absurd h (by omega)⟩;show 2*0+1<_;omega
  ·have E:∀z,z≠D→(s2.put D (UInt64.ofNat i)).r z=s2.r z:=fun z hz=>by rw[Fh,Ab hz]
   refine (pe (p:=r) (n:=k+1) (l:=R+2) (o:=R+3) (b:=R+1) (D:=D+1) y (by omega) (by omega) (by rw[E _ (by omega)];exact Z)).cat fun m ⟨g3,F,b3,G⟩=>?_
   rw[E (R+1) (by omega),Ho] at G;rw[Ho] at F;have L:m.r R=0:=by rw[g3 R (by omega) (by omega) (by omega) (by omega),E R (by omega),Y]
   refine (iy (k:=k) (by omega) L U y H (by omega)).cat fun s4 ⟨g4,m4,c,v,c4,l4,v4⟩=>?_
   refine .op y5 ?_;rw[Rn];have A:∀z,¬Z1 R z→z≠R+6→z≠D+1→(s4.put (R+6) (s4.r (R+5))).r z=m.r z:=fun z B f x=>by rw[Fh,Ab f,g4 z B x]
   have C:=K.trans F;refine (fy (p:=c) (k:=k) (by omega) (by rw[A R (by unfold Z1;omega) (by omega) (by omega),L]) (by rw[Fh,Ag rfl,c4]) U y H (by omega) V).mono fun s5 ⟨g5,o5,b5,c',v',l5,M,w5⟩=>?_
   rw[Ho,m4] at o5 M w5;rw[C.vl V H] at v4 M;refine⟨fun z B f x=>?_,?_,C.trans o5,by rw[b5];decide,fun j=>?_⟩
   ·rw[g5 z (by unfold Z1;omega) (by omega) x,A z (by unfold Z1;omega) (by omega) x,g3 z (by omega) (by omega) (by omega) x,E z f,g2 z B f x]
   ·rw[g5 R (by unfold Z1;omega) (by omega) (by omega),A R (by unfold Z1;omega) (by omega) (by omega),L]
   ·obtain⟨N,O,_⟩:=v2 j;have P:=Qe (pl s.m n) k;have Q:(m.r (R+1)).toNat=0∨(m.r (R+1)).toNat=1:=by omega
    have hP:(18446744073709551616:Nat)^(k+1)=18446744073709551616^k*18446744073709551616:=Bg ..;have hX:vl (pl m.m r) (k+1)=2*vl (pl s2.m r) (k+1)+(s2.r (R+1)).toNat:=by
     exact vr G Q N P hP
    rw[←hX] at N O;have S:c.toNat≤1:=by cases c<;>decide
    have T:c'.toNat≤1:=by cases c'<;>decide
    obtain⟨q1,q2⟩:=rq S T l4 v4 l5 M N;have hV:vl (pl s5.m r) (k+1)=vl (pl m.m r) (k+1)%vl (pl s.m n) k:=by
     rw[w5];cases c
     ·rw[Ab (by simp)];exact q2 rfl
     ·rw[Ag rfl];exact (q1 rfl).symm
    have af:=Cm (vl (pl m.m r) (k+1)) j;rw[b5,hV];refine⟨by simp;omega,?_,fun _=>by rw[O,Nat.add_sub_cancel]⟩;show (2*(vl (pl m.m r) (k+1)%vl (pl s.m n) k)+0)%_=_;rw[Cw,O,Bg,B2 (2^i)]
    conv=>lhs;rw[B1,Nat.mod_mod,←B1]
 ·refine (Y0 (to:=d) (fr:=r) (k:=k) (l:=R+2) (D:=D) hd y kd (by omega) (by omega) dr).mono fun m ⟨g3,F,G⟩=>⟨fun z B f x=>?_,?_,fun j=>?_⟩
  ·rw[g3 z (by omega) f,g2 z B f x]
  ·exact (K.fm (by simp)).trans (F.fm (by simp))
  ·obtain⟨_,_,w⟩:=v2 j;have f:vl (pl s2.m r) (k+1)<18446744073709551616^k:=by
    rw[w];exact Nat.lt_trans (Cm _ j) (Qe _ _)
   rw[Om (g:=pl s2.m r) G,←w,Jl];rw[Jl] at f;have:(pl s2.m r k).toNat=0:=by
    rcases Nat.eq_zero_or_pos (pl s2.m r k).toNat with q|q
    ·exact q
    ·have:=Ed (18446744073709551616^k) q;omega
   rw[this];omega
def Pw.wk (p:Pw):Pn:=⟨p.wb,p.wa,4*p.k+p.b.k+3+p.k*2^p.w⟩
def Pw.en (p:Pw)(e:Nat):Pn:=⟨p.wb,p.wa+4*p.k+p.b.k+3+e*p.k,p.k⟩
structure PwS (sz:Nat→Nat) (p:Pw):Prop where
 B:16≤p.B∧p.B≤40
 d:p.d.in_ sz
 a:p.a.in_ sz
 b:p.b.in_ sz
 n:p.n.in_ sz
 wk:p.wk.in_ sz
 k:1≤p.k
 kb:p.k≤512
 dk:p.d.k=p.k
 ak:p.a.k=p.k
 nk:p.n.k=p.k
 db:p.d.b≠p.wb
 ab:p.a.b≠p.wb
 bb:p.b.b≠p.wb
 nb:p.n.b≠p.wb
 dn:tf p.d p.n
 w:1≤p.w∧p.w≤6
 ov:p.over≤63
 ti:p.times*p.w=64*p.b.k+p.over
section pieces
variable {p : Pw}
def vg {e:Nat}(he:e<2^p.w):e*p.k+p.k≤p.k*2^p.w:=by
 have:=At p.k (show e+1≤2^p.w by omega);rw[Bb,Cn,B2 (2^p.w)] at this;exact this
def Re (a:PwS sz p){q:Pn}(d:q.b=p.wb)(g:q.a+q.k≤p.wa+(4*p.k+p.b.k+3+p.k*2^p.w)):q.in_ sz:=by
 have f:=a.wk;unfold Pn.in_ at *;rw[d];simp only[Pw.wk] at f;omega
def m6 (p:Pw):p.k≤p.k*2^p.w:=Nat.le_mul_of_pos_right _ (Dl _)
def sh {x o:UInt64}{m:Nat}(hm:m<64)(ho:o.toNat<2^m):(UInt64.ofNat (x.toNat*2^m) ||| o).toNat+18446744073709551616*(x.toNat/2^(64 - m))=2^m*x.toNat+o.toNat:=by
 have f:=x.toNat_lt;have a:(18446744073709551616:Nat)=2^m*2^(64 - m):=by rw[←C9,show m+(64 - m)=64 by omega]
 have d:(UInt64.ofNat (x.toNat*2^m)).toNat=2^m*(x.toNat%2^(64 - m)):=by
  rw[Bo,show (2:Nat)^64=2^m*2^(64 - m) from a,B2 x.toNat,Nat.mul_mod_mul_left]
 rw[D7,d,←Et ho,a];have:=Nat.div_add_mod x.toNat (2^(64 - m));generalize x.toNat/2^(64 - m)=q at *;generalize x.toNat%2^(64 - m)=r at *;rw[←this,Ds,Cq];omega
def di {P W V r M x q r' v:Nat}(h:v+P*r=M*V)(k:q+W*r'=M*x+r):v+q*P+P*W*r'=M*(V+x*P):=by
 have a:P*(q+W*r')=P*(M*x+r):=by rw[k]
 grind
def xw (w:PwS sz p){D:Nat}(S:D<8)(C:s.r p.B=0) :
  Tx sz (p.exp D) s fun E=>(∀z,¬(p.B+2≤z∧z≤p.B+4)→z≠D→E.r z=s.r z)∧F5 p.es s.m E.m∧vl (pl E.m p.es) (p.b.k+1)=vl (pl s.m p.b) p.b.k*2^(64 - p.over):=by
 have T:=w.B.1;have J:=w.b.1;have y:=w.b.2;have A:p.es.in_ sz:=Re w rfl (by simp only[Pw.es];omega);have K:p.es.a+(p.b.k+1)≤sz p.es.b:=A.1;have f:=A.2;have H:Dj p.es p.b:=.inl w.bb.symm;have L:=w.ov;by_cases B:p.over=0
 ·have e:p.exp D=(Fl [I4 ((p.B+4:Nat):Int) (p.B:Nat)]).cat ((Ha (D:Nat) (p.b.k:Nat) (Fl [Fq ((p.B+3:Nat):Int) p.b.p (D:Nat) ((0:Nat):Int),Fx p.es.p (D:Nat) ((1:Nat):Int) ((p.B+3:Nat):Int)])).cat (Fl [Fx p.es.p (-1) ((0:Nat):Int) (p.B:Nat)])):=by
   unfold Pw.exp Pw.expB Pw.expE;rw[Ag B,Ag B];rfl
  rw[e];refine .op y5 ?_;rw[Rn];refine .cat (R:=fun s1=>(∀z,¬(p.B+2≤z∧z≤p.B+4)→z≠D→s1.r z=s.r z)∧F5 p.es s.m s1.m∧∀i,i<p.b.k→pl s1.m p.es (i+1)=pl s.m p.b i) ?_ fun s1 ⟨g1,l,v1⟩=>?_
  ·refine .lp (fun j s1=>(∀z,¬(p.B+2≤z∧z≤p.B+4)→z≠D→s1.r z=s.r z)∧F5 p.es s.m s1.m∧∀i,i<j→pl s1.m p.es (i+1)=pl s.m p.b i) ⟨fun z o d=>by rw[Fh,Ab (by omega)],fun _ _ _=>rfl,fun _ h=>absurd h (by omega)⟩ (by omega) (fun j s1 M ⟨g1,l,v1⟩=>?_) fun _ h=>h
   have a:(UInt64.ofNat j).toNat=j:=S4 (by omega);have r:¬D=p.B+3:=by omega
   refine .op (Qj (by simp only[Fh,Bv,a];omega) y) (.op (Wj (by simp only[Fh,Ab r,Bv,a];omega) f) (.nil ⟨fun z o d=>?_,?_,fun i hi=>?_⟩))
   ·rw[K0,Fh,Ab (by omega),Fh,Ab d,g1 z o d]
   ·refine l.trans (Pd (p:=p.es) (s:=(s1.put D (UInt64.ofNat j)).put _ _) ?_);simp only[Fh,Ab r,Bv,a,Pw.es];omega
   ·rw[Jo];simp only[Fh,Ho,Ab r,Bv,a,Be];split
    ·rename_i q;have:i=j:=by omega
     rw[this];exact l.pl H (by omega)
    ·exact v1 i (by omega)
  ·refine .op (qw (by omega) f) (.nil ⟨fun z o d=>by rw[K0,g1 z o d],l.trans (Pd (by simp only[Pw.es];omega)),?_⟩);rw[zop,Jo,Ag rfl,g1 p.B (by omega) (by omega),C,Om (g:=pl s.m p.b) fun i hi=>by
    rw[Jo,Ab (by omega)];exact v1 i hi,B]
   simp;omega
 ·have e:p.exp D=(Fl [I4 ((p.B+4:Nat):Int) (p.B:Nat)]).cat ((Ha (D:Nat) (p.b.k:Nat) (Fl [Fq ((p.B+3:Nat):Int) p.b.p (D:Nat) ((0:Nat):Int),Jd 8 ((p.B+2:Nat):Int) ((p.B+3:Nat):Int) ((64 - p.over:Nat):Int),Fg 6 ((p.B+2:Nat):Int) ((p.B+2:Nat):Int) ((p.B+4:Nat):Int),Fx p.es.p (D:Nat) ((0:Nat):Int) ((p.B+2:Nat):Int),Jd 9 ((p.B+4:Nat):Int) ((p.B+3:Nat):Int) (p.over:Nat)])).cat (Fl [Fx p.es.p (-1) (p.b.k:Nat) ((p.B+4:Nat):Int)])):=by
   unfold Pw.exp Pw.expB Pw.expE;rw[Ab B,Ab B,show (64:Int) - (p.over:Int)=((64 - p.over:Nat):Int) by omega];rfl
  rw[e];refine .op y5 ?_;rw[Rn];refine .cat (R:=fun s1=>(∀z,¬(p.B+2≤z∧z≤p.B+4)→z≠D→s1.r z=s.r z)∧F5 p.es s.m s1.m∧(s1.r (p.B+4)).toNat<2^(64 - p.over)∧vl (pl s1.m p.es) p.b.k+18446744073709551616^p.b.k*(s1.r (p.B+4)).toNat=2^(64 - p.over)*vl (pl s.m p.b) p.b.k) ?_ fun s1 ⟨g1,l,_,v1⟩=>?_
  ·refine .lp (fun j s1=>(∀z,¬(p.B+2≤z∧z≤p.B+4)→z≠D→s1.r z=s.r z)∧F5 p.es s.m s1.m∧(s1.r (p.B+4)).toNat<2^(64 - p.over)∧vl (pl s1.m p.es) j+18446744073709551616^j*(s1.r (p.B+4)).toNat=2^(64 - p.over)*vl (pl s.m p.b) j) ⟨fun z o d=>by rw[Fh,Ab (by omega)],fun _ _ _=>rfl,by rw[Fh,Ag rfl,C];exact Dl _,by rw[Fh,Ag rfl,C];simp[vl]⟩ (by omega) (fun j s1 M ⟨g1,l,N,v1⟩=>?_) fun _ h=>h
   have a:(UInt64.ofNat j).toNat=j:=S4 (by omega);have d2:¬D=p.B+2:=by omega
   have d3:¬D=p.B+3:=by omega
   have d4:¬D=p.B+4:=by omega
   have F:¬p.B+4=D:=by omega
   have I:=sh (x:=pl s.m p.b j) (m:=64 - p.over) (by omega) N;rw[show 64 - (64 - p.over)=p.over by omega] at I;refine .op (Qj (by simp only[Fh,Bv,a];omega) y) (.op (zs1 (by omega)) (.op zwy (.op (Wj ?_ f) (.op (zyo (by omega)) (.nil ⟨fun z o d=>?_,?_,?_,?_⟩)))))
   ·simp[Fh,d2,d3,d4,a];omega
   ·have O:¬z=p.B+2:=by omega
    have P:¬z=p.B+3:=by omega
    have Q:¬z=p.B+4:=by omega
    simp[Fh,K0,O,P,Q,d];exact g1 z o d
   ·refine l.trans ?_;rw[Ho];refine zpg rfl ?_;simp[Fh,d2,d3,d4,a,Pw.es];omega
   ·rw[Fh,Ag rfl,zhv];refine Nat.div_lt_of_lt_mul (Nat.lt_of_lt_of_eq (Eo _) ?_);rw[←C9,show p.over+(64 - p.over)=64 by omega]
   ·have G:pl s1.m p.b j=pl s.m p.b j:=l.pl H (by omega);rw[Ho,Jl,Jl,Jo];simp[Fh,Ho,K0,d2,d3,d4,F,a,G,-UInt64.toNat_or,-UInt64.toNat_ofNat',-UInt64.ofNat_mul];rw[Om (g:=pl s1.m p.es) fun i hi=>by rw[Jo,Ab (by omega)];rfl,zhv,Bg];exact di v1 I
  ·refine .op (qw (by omega) f) (.nil ⟨fun z o d=>by rw[K0,g1 z o d],l.trans (Pd (by simp only[Pw.es];omega)),?_⟩);rw[Jl,Jo,Ag rfl,Om (g:=pl s1.m p.es) fun i hi=>by rw[Jo,Ab (by omega)],B2 (vl (pl s.m p.b) p.b.k),←v1,B2 (18446744073709551616^p.b.k)]
def Zs (g:PwS sz p){D:Nat}(x:D<8)(h:s.r p.B=0)(q:(s.r (p.B+1)).toNat<9223372036854775808) :
  Tx sz (p.shift D) s fun a=>(∀z,¬(p.B+1≤z∧z≤p.B+4)→z≠D→a.r z=s.r z)∧F5 p.es s.m a.m∧∃Hy:Nat,Hy≤1∧(a.r (p.B+1)).toNat=2*(s.r (p.B+1)).toNat+Hy∧vl (pl a.m p.es) (p.b.k+1)+18446744073709551616^(p.b.k+1)*Hy=2*vl (pl s.m p.es) (p.b.k+1):=by
 have y:=g.B.1;have d:p.es.in_ sz:=Re g rfl (by simp only[Pw.es];omega);have e:p.shift D=(Fl [I4 ((p.B+2:Nat):Int) (p.B:Nat)]).cat ((Ro p.es.p ((p.b.k+1:Nat):Int) ((p.B+3:Nat):Int) ((p.B+4:Nat):Int) ((p.B+2:Nat):Int) (D:Nat)).cat (Fl [Jd 8 ((p.B+1:Nat):Int) ((p.B+1:Nat):Int) ((1:Nat):Int),Fg 6 ((p.B+1:Nat):Int) ((p.B+1:Nat):Int) ((p.B+2:Nat):Int)])):=rfl;rw[e];refine .op y5 ?_;rw[Rn];refine (pe (p:=p.es) (n:=p.b.k+1) (l:=p.B+3) (o:=p.B+4) (b:=p.B+2) (D:=D) d (by simp[Pw.es]) (by omega) (by rw[Fh,Ag rfl,h];decide)).cat fun s1 ⟨g1,j,m,v1⟩=>?_
 rw[Fh,Ag rfl,h,Ho] at v1;rw[Ho] at j;have f:s1.r (p.B+1)=s.r (p.B+1):=by rw[g1 _ (by omega) (by omega) (by omega) (by omega),Fh,Ab (by omega)]
 refine .op (zs1 (by omega)) (.op zwy (.nil ⟨fun z A r=>?_,j,(s1.r (p.B+2)).toNat,m,?_,?_⟩))
 ·rw[Fh,Ab (by omega),Fh,Ab (by omega),g1 z (by omega) (by omega) (by omega) r,Fh,Ab (by omega)]
 ·have w:¬p.B+2=p.B+1:=by omega
  simp only[Fh,Bv,Ab w,f];rw[Xo m];omega
 ·rw[Ho,Ho];simpa using v1
end pieces
end ex
end Go.Sv
