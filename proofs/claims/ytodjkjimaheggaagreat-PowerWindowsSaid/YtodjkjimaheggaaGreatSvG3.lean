/- Texts of the evaluator, of the logic over it, of plain arithmetic. -/
import Derived.Test.YtodjkjimaheggaaGreatSvG2
set_option linter.unusedSimpArgs false
namespace Go.Sv
inductive Fr (α:Type) where
 |nil
 |op (o:α) (r:Fr α)
 |loop (o:α) (b:Fr α) (e:α) (r:Fr α)
section tree
variable {α : Type}
def Fr.flat:Fr α→List α
 |.nil=>[]
 |.op o r=>o::r.flat
 |.loop o b e r=>o::(b.flat++e::r.flat)
def Fr.size:Fr α→Nat
 |.nil=>0
 |.op _ r=>r.size+1
 |.loop _ b _ r=>b.size+r.size+2
theorem Fr.flat_len:∀f:Fr α,f.flat.length=f.size
 |.nil=>rfl
 |.op _ r=>by simp[flat,size,flat_len r]
 |.loop _ b _ r=>by simp[flat,size,flat_len b,flat_len r];omega
def Fr.wf (kd:α→Nat):Fr α→Prop
 |.nil=>True
 |.op o r=>kd o=0∧r.wf kd
 |.loop o b e r=>kd o=1∧kd e=2∧b.wf kd∧r.wf kd
def K9 (a:α→Nat):Nat→List α→Prop
 |d,[]=>d=0
 |d,o::l=>if a o=1 then K9 a (d+1) l else if a o=2 then 0<d∧K9 a (d - 1) l else a o=0∧K9 a d l
theorem Rg {j:α→Nat}:∀(n:Nat) (l:List α) (d:Nat),l.length≤n→K9 j d l→∃(f:Fr α) (rest:List α),f.wf j∧l=f.flat++rest∧((d=0∧rest=[])∨∃(e:α) (a:List α) (m:Nat),d=m+1∧rest=e::a∧j e=2∧K9 j m a)
 |_,[],d,_,h=>⟨.nil,[],trivial,rfl,.inl ⟨h,rfl⟩⟩
 |n+1,o::l,d,B,h=>by
  have g:l.length≤n:=by simpa using B
  unfold K9 at h;by_cases r:j o=1
  ·rw[Ag r] at h;obtain⟨f1,z,s,p,w⟩:=Rg n l (d+1) g h;rcases w with ⟨q,_⟩ | ⟨e,A,m,hd,rfl,C,D⟩
   ·omega
   obtain rfl:d=m:=by omega
   have x:A.length≤n:=by rw[p] at g;simp at g;omega
   obtain⟨f2,E,F,G,H⟩:=Rg n A d x D;refine⟨.loop o f1 e f2,E,⟨r,C,s,F⟩,by rw[p,G];simp[Fr.flat],H⟩
  ·rw[Ac r] at h;by_cases y:j o=2
   ·rw[Ag y] at h;exact⟨.nil,o::l,trivial,rfl,.inr ⟨o,l,d - 1,by omega,rfl,y,h.2⟩⟩
   ·rw[Ac y] at h;obtain⟨f1,z,s,p,w⟩:=Rg n l d g h.2;exact⟨.op o f1,z,⟨h.1,s⟩,by rw[p];rfl,w⟩
theorem tree_of {a:α→Nat}{l:List α}(h:K9 a 0 l):∃f:Fr α,f.wf a∧l=f.flat:=by
 obtain⟨f,r,w,e,q⟩:=Rg l.length l 0 (Am _) h;rcases q with ⟨_,rfl⟩ | ⟨_,_,_,h,_⟩
 ·exact⟨f,w,by simpa using e⟩
 ·omega
def Fr.ends:Nat→Fr α→List Int
 |_,.nil=>[]
 |i,.op _ r=>-1::r.ends (i+1)
 |i,.loop _ b _ r=>((i+b.size+1:Nat):Int)::(b.ends (i+1)++(i:Int)::r.ends (i+b.size+2))
theorem Fr.ends_len:∀(f:Fr α) (i:Nat),(f.ends i).length=f.size
 |.nil,_=>rfl
 |.op _ r,i=>by simp[ends,size,ends_len r]
 |.loop _ b _ r,i=>by simp[ends,size,ends_len b,ends_len r];omega
end tree
def Lf (o:Ko):Nat:=if o.kind=15 then 1 else if o.kind=16 then 2 else 0
theorem zlh {vs:List Vr}:∀(l:List Ko) (m f:List Bool) (d:Nat),Jb vs m d l=some (f,0)→K9 Lf d l
 |[],m,f,d,h=>by
  unfold Jb at h;cases h;unfold K9;rfl
 |o::l,m,f,d,h=>by
  unfold Jb at h;split at h
  ·rename_i j;simp only[Ab,Ak] at j;obtain⟨_,_,p,q⟩:=j;unfold K9;by_cases a:o.kind=15
   ·rw[Ag (by simp[Lf,a])];rw[dl,Ag a] at h;exact zlh l _ f (d+1) (by simpa using h)
   ·rw[Ac (by simp[Lf,a];split<;>simp)];by_cases g:o.kind=16
    ·rw[Ag (by simp[Lf,g])];rw[dl,Ac a,Ag g] at h p;refine⟨by omega,zlh (vs:=vs) l (Nv m o) f (d - 1) ?_⟩;rw[show ((d - 1:Nat):Int)=(d:Int)+-1 by omega];exact h
    ·rw[Ac (by simp[Lf,a,g])];rw[dl,Ac a,Ac g] at h;exact⟨by simp[Lf,a,g],zlh l _ f d (by simpa using h)⟩
  ·cases h
end Go.Sv
namespace Go.Sv
abbrev Sp:=Int×Int
def Fr.tops {α:Type}:Nat→Fr α→List Sp
 |_,.nil=>[]
 |i,.op _ r=>r.tops (i+1)
 |i,.loop _ b _ r=>((i:Int),((i+b.size+1:Nat):Int))::r.tops (i+b.size+2)
def gs (l:List Sp)(n:Nat):Sp:=l.getD n (0,0)
structure Left (os:List Ko) (es:List Int) (T0:List Sp) (i:Nat) (r:Fr Ko) (T:List Sp):Prop where
 os:os.drop i=r.flat
 es:es.drop i=r.ends i
 wf:r.wf Lf
 tops:T0=T++r.tops i
def Qt (k d:Int):Ko:=⟨k,d,-1,-1,-1,-1,0⟩
def Nf:Nat→List Vr→List Ko
 |_,[]=>[]
 |i,v::l=>if Ka v=true then Nf (i+1) l else Qt 1 i::Nf (i+1) l
theorem startOs_len:∀(l:List Vr) (i:Nat),(Nf i l).length≤l.length
 |[],_=>by simp[Nf]
 |v::l,i=>by
  have:=startOs_len l (i+1);unfold Nf;split<;>simp<;>omega
def zpb (k:Int):Bool:=decide (k=15) || decide (k=16)
def Mb (vs:List Vr)(o:Ko):Bool:=!zpb o.kind&&Io vs (Nf 0 vs++[o]) []
theorem zzv (vs:List Vr):∀(j a:List Ko) (m f:List Bool) (d g:Int),Jb vs m d j=some (f,g)→Jb vs m d (j++a)=Jb vs f g a
 |[],a,m,f,d,g,h=>by cases h;rfl
 |o::j,a,m,f,d,g,h=>by
  unfold Jb at h;split at h
  ·rename_i l;rw[Bd,Jb,Ag l];exact zzv vs j a _ f _ g h
  ·cases h
theorem zzq {vs:List Vr}{i:Nat}(h:i<vs.length)(a:Ka (gv vs i)=false):Gu vs (Qt 1 i)=true:=by
 have e:Pv vs.length (i:Int)=true:=z67.2 ⟨by omega,by omega⟩;have t1:Nat.testBit 1 1=false:=by decide
 have t2:Nat.testBit 1 2=false:=by decide
 have t3:Nat.testBit 1 3=false:=by decide
 have t4:Nat.testBit 1 4=false:=by decide
 simp[Gu,Qt,I9,Jz,Mo,Lw,e,Oi,a,I6,Km,Uw,Jv,t1,t2,t3,t4]
theorem zw1 (m:List Bool)(i j:Nat)(hi:i<m.length):gb (m.set i true) j=if j=i then true else gb m j:=by
 unfold gb;rw[Ae,Ae,Et];by_cases h:i=j
 ·subst h;simp[hi]
 ·rw[Ac h,Ac (fun q=>h q.symm)]
theorem zef {vs:List Vr}:∀(l:List Vr) (i:Nat) (m:List Bool),vs.drop i=l→m.length=vs.length→(∀j,j<i→gb m j=true)→(∀j,i≤j→j<vs.length→gb m j=Ka (gv vs j)) →
  ∃d,Jb vs m 0 (Nf i l)=some (d,0)∧d.length=vs.length∧∀j,j<vs.length→gb d j=true
 |[],i,m,hd,g,h,o=>by
  have:vs.length≤i:=by have:=congrArg List.length hd;simp at this;omega
  exact⟨m,rfl,g,fun j p=>h j (by omega)⟩
 |v::l,i,m,hd,g,h,o=>by
  have hi:i<vs.length:=by have:=congrArg List.length hd;simp at this;omega
  have s:=zra hi;rw[hd] at s;obtain⟨rfl,rfl⟩:=List.cons.inj s;unfold Nf;by_cases q:Ka (gv vs i)=true
  ·rw[Ag q];refine zef _ (i+1) m rfl g (fun j p=>?_) (fun j p a=>o j (by omega) a);by_cases e:j=i
   ·subst e;rw[o j (Am _) hi,q]
   ·exact h j (by omega)
  ·rw[Ac q];have r:Ka (gv vs i)=false:=by simpa using q
   have f:=zzq hi r;have w:S4 m (Qt 1 i)=true:=by simp[S4,Km,Qt]
   obtain⟨d,x,y⟩:=zef (vs.drop (i+1)) (i+1) (m.set i true) rfl (by simpa using g) (fun j p=>by
    rw[zw1 _ _ _ (by omega)];split
    ·rfl
    ·exact h j (by omega)) (fun j p a=>by rw[zw1 _ _ _ (by omega),Ac (by omega)];exact o j (by omega) a)
   refine⟨d,?_,y⟩;rw[Jb,Ag (by rw[f,w];simp[dl,Qt])];have z:Nv m (Qt 1 i)=m.set i true:=by simp[Nv,Qt]
   rw[z];simpa [dl,Qt] using x
theorem ziv {vs:List Vr}(h:Kk vs=true):1≤vs.length∧vs.length≤256:=by
 unfold Kk at h;split at h
 ·cases h
 ·simp only[Ab,Ak] at h;omega
theorem vgo_limbs:∀(l:List Vr) (i p r:Nat),Ol i p l=some r→∀v∈l,1≤v.limbs∧v.limbs≤512∧0≤v.mode∧v.mode≤3
 |[],_,_,_,_,v,hv=>by cases hv
 |w::l,i,p,r,h,v,hv=>by
  unfold Ol at h;split at h
  ·cases h
  ·rename_i a;have hw:1≤w.limbs∧w.limbs≤512∧0≤w.mode∧w.mode≤3:=by
    simp[Yx] at a;omega
   have key:∀r',Ol (i+1) r' l=some r→1≤v.limbs∧v.limbs≤512∧0≤v.mode∧v.mode≤3:=fun r' d=>by
    rcases Ao.1 hv with rfl | hv
    ·exact hw
    ·exact vgo_limbs l _ _ r d v hv
   split at h
   ·exact key _ h
   ·split at h
    ·cases h
    ·exact key _ h
theorem zrd {vs:List Vr}(h:Kk vs=true):∀v∈vs,1≤v.limbs∧v.limbs≤512∧0≤v.mode∧v.mode≤3:=by
 unfold Kk at h;split at h
 ·cases h
 ·rename_i p a;exact vgo_limbs vs 0 0 p a
theorem gv_mem {vs:List Vr}{i:Nat}(h:i<vs.length):gv vs i∈vs:=A7 (Nj h)
theorem U4 {vs:List Vr}(h:Kk vs=true){v:Int}(a:0≤v)(d:v<vs.length):1≤Je vs v∧Je vs v≤512:=by
 have:=zrd h _ (gv_mem (vs:=vs) (i:=v.toNat) (by omega));exact⟨this.1,this.2.1⟩
theorem W6 (vs:List Vr)(o:Ko):Mb vs o=(!zpb o.kind&&(Kk vs&&Gu vs o)):=by
 unfold Mb;cases hk:zpb o.kind with
 |true=>rfl
 |false =>
  simp only[Bool.not_false,Ed];unfold Io;cases hv:Kk vs with
  |false=>rfl
  |true =>
   have r:=ziv hv;have h:=startOs_len vs 0;obtain⟨m,l,s,d⟩:=zef vs 0 (Py vs) rfl (by simp[Py]) (fun j g=>by omega) (fun j _ g=>by
    unfold gb Py;rw[Ae,Cc,Nj g];rfl)
   rw[zzv vs _ _ _ _ _ _ l];have p:decide ((Nf 0 vs++[o]).length≤4096)=true:=B4 (by simp;omega);rw[p];simp only[Ed,Bc,List.all_nil,show decide (0≤4096)=true from rfl];have f:dl o.kind=0:=by simp[zpb] at hk;simp[dl,hk.1,hk.2]
   cases ho:Gu vs o with
   |false=>simp[Jb,ho]
   |true =>
    have a:=Wq ho;have q:S4 m o=true:=by
     unfold S4;rw[Cb];intro v hv;have:=a.takes v hv;exact d _ (by omega)
    have hm:Ub vs (Nv m o)=true:=by
     unfold Ub;rw[Cb];intro i hi;have hi:=Cp.1 hi;have:gb (Nv m o) i=true:=by
      unfold Nv;split
      ·have:=a.d;rw[zw1 _ _ _ (by omega)];split
       ·rfl
       ·exact d i hi
      ·exact d i hi
     simp[this]
    simp[Jb,ho,q,f,hm]
def Gy (vs:List Vr)(o:Ko):Int:=if (decide (o.kind=13)&&Mb vs o)=true then (3+2^o.imm.toNat)*Je vs o.c+Je vs o.b+1+(Je vs o.c+2) else 0
theorem zix {vs:List Vr}{o:Ko}{s:Nat}(h:Gu vs o=true)(a:I9 o.kind=some s):Mo vs.length s o=true∧Jz o=true∧Uw vs o=true:=by
 unfold Gu at h;split at h
 ·rename_i hk;rw[hk] at a;simp[I9] at a
 ·rw[a] at h;simp only[Ab] at h;exact⟨h.2.1,h.1,h.2.2.2.2.2⟩
theorem zna {vs:List Vr}{o:Ko}{s:Nat}(h:Mb vs o=true)(a:I9 o.kind=some s):Kk vs=true∧Mo vs.length s o=true∧Jz o=true∧Uw vs o=true:=by
 rw[W6] at h;simp only[Ab] at h;exact⟨h.2.1,zix h.2.2 a⟩
theorem zry {n s:Nat}{o:Ko}(h:Mo n s o=true)(a:s.testBit 2=true):0≤o.a∧o.a<n:=by
 simp only[Mo,Ab] at h;exact Md h.2.2.1 a
theorem zii {n s:Nat}{o:Ko}(h:Mo n s o=true)(a:s.testBit 3=true):0≤o.b∧o.b<n:=by
 simp only[Mo,Ab] at h;exact Md h.2.2.2.1 a
theorem zj4 {n s:Nat}{o:Ko}(h:Mo n s o=true)(a:s.testBit 4=true):0≤o.c∧o.c<n:=by
 simp only[Mo,Ab] at h;exact Md h.2.2.2.2 a
theorem zqt {n s:Nat}{o:Ko}(h:Mo n s o=true)(a:s.testBit 0=true):0≤o.d∧o.d<n:=by
 simp only[Mo,Ab] at h;exact Md h.1 a
theorem zc0 {vs:List Vr}(hv:Kk vs=true){v:Int}(h:0≤v∧v<vs.length):∃k:Nat,v=k∧k<vs.length∧(H6 vs)[k*3]?=some (.i (Je vs v))∧1≤Je vs v∧Je vs v≤512:=by
 obtain⟨k,rfl⟩:=Af h.1;have hk:k<vs.length:=by omega
 have:=U4 hv h.1 h.2;exact⟨k,rfl,hk,zp5 (Nj hk),this⟩
end Go.Sv
noncomputable section
namespace Go.Sv
abbrev Fc:=Int×Int×Int
def Wu (o:Ko):List Fc :=
 if o.kind=9 then [(3,o.c,-1)] else if o.kind=10∨o.kind=11 then [(2,o.a,o.c),(2,o.b,o.c)] else if o.kind=12 then [(1,o.c,-1),(2,o.a,o.c),(2,o.b,o.c)] else if o.kind=13 then [(1,o.c,-1),(2,o.a,o.c)]
 else if o.kind=17 then (if o.imm=2 then [(2,o.a,o.b)] else if o.imm=1 then [(1,o.a,-1)] else if o.imm=3 then [(3,o.a,-1)] else []) else []
def gN (v:List Nat)(i:Int):Nat:=if i<0 then 0 else v.getD i.toNat 0
def holdsB (f:Fc)(v:List Nat):Bool :=
 Pv v.length f.2.1&&(if f.1=1 then decide (gN v f.2.1%2=1) else if f.1=3 then decide (0<gN v f.2.1) else if f.1=2 then Pv v.length f.2.2&&decide (gN v f.2.1<gN v f.2.2) else false)
def Us (o:Ko)(v:List Nat):Bool:=(Wu o).all fun f=>holdsB f v
def U1 (n:Int):Nat:=2^(64*n.toNat)
def rawV (vs:List Vr)(o:Ko)(v:List Nat):Nat :=
 let a:=gN v o.a;let b:=gN v o.b;let c:=gN v o.c;let w:=U1 (Je vs o.d)
 if o.kind=1 then o.imm.toNat else if o.kind=2 then a else if o.kind=3 then a+b else if o.kind=4 then a%w+w - b%w else if o.kind=5∨o.kind=6 then a*b
 else if o.kind=7 then (if a<b then 1 else 0) else if o.kind=8 then (if c%2=1 then a else b) else if o.kind=9 then a%c else if o.kind=10 then (a+b)%c else if o.kind=11 then subM a b c
 else if o.kind=12 then val (reR (Nm (a*b)) (Nm c) (Je vs o.c)) else if o.kind=13 then a^b%c else 0
def opV (vs:List Vr)(o:Ko)(v:List Nat):Nat:=rawV vs o v%U1 (Je vs o.d)
def Qx (vs:List Vr)(o:Ko)(v:List Nat):List Nat :=
 if o.kind=14 then (if gN v o.c%2=1 then (v.set o.d.toNat (gN v o.e)).set o.e.toNat (gN v o.d) else v) else if o.kind=17 then v else v.set o.d.toNat (opV vs o v)
def Uj {α:Type}(f:α→Option α):Nat→α→Option α
 |0,v=>some v
 |n+1,v=>match f v with
  |none=>none
  |some w=>Uj f n w
def Fr.exec (vs:List Vr):Fr Ko→List Nat→Option (List Nat)
 |.nil,v=>some v
 |.op o r,v=>if Us o v=true then r.exec vs (Qx vs o v) else none
 |.loop o b _ r,v=>match Uj (fun w=>b.exec vs w) o.imm.toNat v with
  |none=>none
  |some w=>r.exec vs w
def Fr.once:Fr Ko→Prop
 |.nil=>True
 |.op _ r=>r.once
 |.loop o b _ r=>1≤o.imm.toNat∧b.once∧r.once
theorem kd_1 {o:Ko}:Lf o=1↔o.kind=15:=by unfold Lf;split<;>(try split)<;>simp_all
theorem kd_2 {o:Ko}:Lf o=2↔o.kind=16:=by
 unfold Lf;by_cases h:o.kind=15
 ·simp[h]
 ·by_cases a:o.kind=16<;>simp[h,a]
end Go.Sv
end
namespace Go.Sv
def cap40:Nat:=1099511627776
def Fr.stepsT:Fr Ko→Nat
 |.nil=>0
 |.op _ r=>r.stepsT+1
 |.loop o b _ r=>o.imm.toNat*(1+b.stepsT)+r.stepsT
theorem zyw {vs:List Vr}:∀(l:List Ko) (m:List Bool) (d:Int) (r:List Bool×Int),Jb vs m d l=some r→∀o∈l,Gu vs o=true
 |[],_,_,_,_,o,ho=>by cases ho
 |x::l,m,d,r,h,o,ho=>by
  unfold Jb at h;split at h
  ·rename_i a;simp only[Ab] at a;rcases Ao.1 ho with rfl | ho
   ·exact a.1
   ·exact zyw l _ _ r h o ho
  ·cases h
theorem zl7 {vs:List Vr}:∀(f:Fr Ko),f.wf Lf→(∀o∈f.flat,Gu vs o=true)→f.once
 |.nil,_,_=>trivial
 |.op _ r,w,h=>zl7 r w.2 fun o ho=>h o (Ay _ ho)
 |.loop o b e r,w,h=>by
  obtain⟨j,q,l,m⟩:=w;refine⟨?_,zl7 b l fun x d=>h x (by simp[Fr.flat,d]),zl7 r m fun x d=>h x (by simp[Fr.flat,d])⟩;have a:=kd_1.1 j;have p:=h o (by simp[Fr.flat]);obtain⟨_,g,_⟩:=zix (s:=0) p (by simp[I9,a]);simp[Jz,a] at g;have:=g.1;rw[Bm] at this;exact this
def Fr.app {α:Type}:Fr α→Fr α→Fr α
 |.nil,g=>g
 |.op o r,g=>.op o (r.app g)
 |.loop o b e r,g=>.loop o b e (r.app g)
def Yf:List Bool→List Ko→Option (List Bool)
 |m,[]=>some m
 |m,o::l=>if S4 m o=true then Yf (Nv m o) l else none
def Fr.deep:Fr Ko→Nat
 |.nil=>0
 |.op _ r=>r.deep
 |.loop _ b _ r=>max (1+b.deep) r.deep
theorem mkO_app:∀(a b:List Ko) (m:List Bool),Yf m (a++b)=match Yf m a with
  |none=>none
  |some m1=>Yf m1 b
 |[],_,_=>rfl
 |o::a,b,m=>by
  simp only[Bd,Yf];split
  ·exact mkO_app a b _
  ·rfl
theorem zgs {vs:List Vr}:∀(f:Fr Ko) (m:List Bool) (d:Int) (rest:List Ko) (r:List Bool×Int),f.wf Lf→0≤d→d≤4→Jb vs m d (f.flat++rest)=some r→d+f.deep≤4∧∃p,Yf m f.flat=some p∧Jb vs p d rest=some r
 |.nil,m,d,rest,r,_,_,q,h=>⟨by simp[Fr.deep];omega,m,rfl,h⟩
 |.op o f,m,d,rest,r,w,s,q,h=>by
  have A:o.kind≠15:=fun h=>by have:=w.1;simp[Lf,h] at this
  have B:o.kind≠16:=fun h=>by have:=w.1;simp[Lf,h] at this
  simp only[Fr.flat,Bd] at h;unfold Jb at h;split at h
  ·rename_i g;simp only[Ab] at g;rw[dl,Ac A,Ac B,Int.add_zero] at h;obtain⟨z,p,x,a⟩:=zgs f _ d rest r w.2 s q h;exact⟨z,p,by simp only[Fr.flat,Yf,g.2.1,Bs];exact x,a⟩
  ·cases h
 |.loop o b e f,m,d,rest,r,w,s,q,h=>by
  obtain⟨C,D,E,F⟩:=w;have j:=kd_1.1 C;have y:=kd_2.1 D;simp only[Fr.flat,Bd,Bo] at h;unfold Jb at h;split at h
  ·rename_i g;simp only[Ab,Ak] at g;rw[dl,Ag j] at h;have hd:=g.2.2.2;rw[dl,Ag j] at hd;obtain⟨z,m1,x,a⟩:=zgs b _ (d+1) _ r E (by omega) hd h;unfold Jb at a;split at a
   ·rename_i l;simp only[Ab,Ak] at l;rw[dl,Ac (by omega),Ag y,show d+1+-1=d by omega] at a;obtain⟨J,G,H,I⟩:=zgs f _ d rest r F s q a;refine⟨by simp only[Fr.deep];omega,G,?_,I⟩;simp only[Fr.flat,Yf,g.2.1,Bs];rw[mkO_app,x];simp only[Yf,l.2.1,Bs];exact H
   ·cases a
  ·cases h
theorem X8 {vs:List Vr}{os rs:List Ko}(h:Io vs os rs=true):∃f:Fr Ko,f.wf Lf∧os=f.flat∧f.once∧(∀o∈f.flat,Gu vs o=true)∧f.deep≤4∧∃d,Yf (Py vs) f.flat=some d∧Ub vs d=true:=by
 unfold Io at h;simp only[Ab,Ak] at h;obtain⟨r,s,x,y,a⟩:=h;split at a
 ·cases a
 ·rename_i m z g;simp only[Ab,Ak] at a;obtain⟨a,rfl⟩:=a;obtain⟨f,w,p⟩:=tree_of (zlh os _ m 0 (by simpa using g));subst p;have j:=zyw _ _ _ _ g;obtain⟨A,d,q,l⟩:=zgs f (Py vs) 0 [] (m,0) w (by omega) (by omega) (by simpa using g);have hm:d=m:=by
   unfold Jb at l;simpa using l
  subst hm;exact⟨f,w,rfl,zl7 f w j,j,by omega,d,q,a⟩
def Kb (o:Ko):Ko:=if o.kind=6 then { o with kind:=5 } else o
def Fr.map {α:Type}(g:α→α):Fr α→Fr α
 |.nil=>.nil
 |.op o r=>.op (g o) (r.map g)
 |.loop o b e r=>.loop (g o) (b.map g) (g e) (r.map g)
theorem zh6 {α:Type}(g:α→α):∀f:Fr α,(f.map g).flat=f.flat.map g
 |.nil=>rfl
 |.op _ r=>by simp[Fr.map,Fr.flat,zh6 g r]
 |.loop _ b _ r=>by simp[Fr.map,Fr.flat,zh6 g r,zh6 g b]
theorem Qm (o:Ko):Lf (Kb o)=Lf o:=by
 unfold Kb;split
 ·rename_i h;simp[Lf,h]
 ·rfl
theorem wf_map:∀f:Fr Ko,f.wf Lf→(f.map Kb).wf Lf
 |.nil,_=>trivial
 |.op _ r,w=>⟨by rw[Qm];exact w.1,wf_map r w.2⟩
 |.loop _ b _ r,w=>⟨by rw[Qm];exact w.1,by rw[Qm];exact w.2.1,wf_map b w.2.2.1,wf_map r w.2.2.2⟩
theorem zwb (o:Ko):(Kb o).imm=o.imm:=by unfold Kb;split<;>rfl
theorem Xe (vs:List Vr)(o:Ko)(v:List Nat):Qx vs (Kb o) v=Qx vs o v:=by
 unfold Kb;split
 ·rename_i h;simp[Qx,opV,rawV,h]
 ·rfl
theorem unK_met (o:Ko)(v:List Nat):Us (Kb o) v=Us o v:=by
 unfold Kb;split
 ·rename_i h;simp[Us,Wu,h]
 ·rfl
theorem zh3 {vs:List Vr}:∀(f:Fr Ko) (v:List Nat),(f.map Kb).exec vs v=f.exec vs v
 |.nil,_=>rfl
 |.op o r,v=>by
  simp only[Fr.map,Fr.exec,unK_met,Xe];split
  ·exact zh3 r _
  ·rfl
 |.loop o b e r,v=>by
  have a:(fun w=>(b.map Kb).exec vs w)=fun w=>b.exec vs w:=funext fun w=>zh3 b w
  simp only[Fr.map,Fr.exec,zwb,a];cases Uj (fun w=>b.exec vs w) o.imm.toNat v with
  |none=>rfl
  |some w=>exact zh3 r w
theorem stepsT_map:∀f:Fr Ko,(f.map Kb).stepsT=f.stepsT
 |.nil=>rfl
 |.op _ r=>by simp[Fr.map,Fr.stepsT,stepsT_map r]
 |.loop _ b _ r=>by simp[Fr.map,Fr.stepsT,stepsT_map r,stepsT_map b,zwb]
theorem zyn (o:Ko):Km (Kb o)=Km o:=by
 unfold Kb;split
 ·rename_i h;simp[Km,h]
 ·rfl
theorem Zq {vs:List Vr}{o:Ko}(h:Gu vs o=true):Gu vs (Kb o)=true:=by
 unfold Kb;split
 ·rename_i k;simp only[Gu,k,I9,Mo,Jz,I6,Km,Uw,Jv] at h ⊢;simp only[show (6:Int)≠17 by decide,show (5:Int)≠17 by decide,Dl] at h ⊢;simp at h ⊢
  simp_all
 ·exact h
theorem zzw {vs:List Vr}:∀(l:List Ko) (m:List Bool) (d:Int) (r:List Bool×Int),Jb vs m d l=some r→Jb vs m d (l.map Kb)=some r
 |[],_,_,_,h=>h
 |o::l,m,d,r,h=>by
  simp only[Ct];have f:S4 m (Kb o)=S4 m o:=by simp[S4,zyn]
  have g:dl (Kb o).kind=dl o.kind:=by
   unfold Kb;split
   ·rename_i k;simp[dl,k]
   ·rfl
  have j:Nv m (Kb o)=Nv m o:=by
   unfold Kb;split<;>rfl
  unfold Jb at h ⊢;split at h
  ·rename_i a;simp only[Ab] at a;rw[f,g,j,Ag (by simp only[Ab];exact⟨Zq a.1,a.2⟩)];exact zzw l _ _ r h
  ·cases h
theorem chk_map {vs:List Vr}{os rs:List Ko}(h:Io vs os rs=true):Io vs (os.map Kb) rs=true:=by
 unfold Io at h ⊢;simp only[Ab,Ak] at h ⊢;obtain⟨d,f,g,j,a⟩:=h;refine⟨d,by simpa using f,g,j,?_⟩;split at a
 ·cases a
 ·rename_i m o l;rw[zzw _ _ _ _ l];simpa using a
end Go.Sv
noncomputable section
namespace Go.Sv
theorem zh7 {α:Type}{m:α→Nat}:∀(f g:Fr α) (a d:List α),f.wf m→g.wf m→(∀x t,a=x::t→m x=2)→(∀x t,d=x::t→m x=2)→f.flat++a=g.flat++d→f=g∧a=d
 |.nil,.nil,a,d,_,_,_,_,h=>⟨rfl,h⟩
 |.nil,.op o g,a,d,_,w,j,_,h=>by
  have:=j o _ (by simpa [Fr.flat] using h);have:=w.1;omega
 |.nil,.loop o b e g,a,d,_,w,j,_,h=>by
  have:=j o _ (by simpa [Fr.flat] using h);have:=w.1;omega
 |.op o f,.nil,a,d,w,_,_,l,h=>by
  have:=l o _ (by simpa [Fr.flat] using h.symm);have:=w.1;omega
 |.loop o b e f,.nil,a,d,w,_,_,l,h=>by
  have:=l o _ (by simpa [Fr.flat] using h.symm);have:=w.1;omega
 |.op o f,.op p g,a,d,w,w',j,l,h=>by
  simp only[Fr.flat,Bd,List.cons.injEq] at h;obtain⟨rfl,h⟩:=h;obtain⟨rfl,rfl⟩:=zh7 f g a d w.2 w'.2 j l h;exact⟨rfl,rfl⟩
 |.op o f,.loop p b e g,a,d,w,w',_,_,h=>by
  simp only[Fr.flat,Bd,List.cons.injEq] at h;have r:=w.1;have s:=w'.1;rw[h.1] at r;omega
 |.loop o b e f,.op p g,a,d,w,w',_,_,h=>by
  simp only[Fr.flat,Bd,List.cons.injEq] at h;have r:=w.1;have s:=w'.1;rw[h.1] at r;omega
 |.loop o b e f,.loop p b' B g,a,d,w,w',j,l,h=>by
  simp only[Fr.flat,Bd,List.cons.injEq,Bo] at h;obtain⟨rfl,h⟩:=h;obtain⟨rfl,y⟩:=zh7 b b' _ _ w.2.2.1 w'.2.2.1 (fun x t q=>by injection q with q _;exact q ▸ w.2.1) (fun x t q=>by injection q with q _;exact q ▸ w'.2.1) h;injection y with z A
  subst z;obtain⟨rfl,rfl⟩:=zh7 f g a d w.2.2.2 w'.2.2.2 j l A;exact⟨rfl,rfl⟩
open Classical in
def Up (os:List Ko):Fr Ko:=if h:∃f:Fr Ko,f.wf Lf∧os=f.flat then h.choose else .nil
theorem zi9 {f:Fr Ko}(w:f.wf Lf):Up f.flat=f:=by
 have h:∃g:Fr Ko,g.wf Lf∧f.flat=g.flat:=⟨f,w,rfl⟩;unfold Up;rw[dif_pos h];have a:=h.choose_spec;exact (zh7 _ f [] [] a.1 w (by simp) (by simp) (by simpa using a.2.symm)).1
def S8 (vs:List Vr):List Nat:=(List.range vs.length).filter fun i=>Ka (gv vs i)
def outV (vs:List Vr):List Nat:=(List.range vs.length).filter fun i=>decide ((gv vs i).mode=3)
def fitsD (vs:List Vr)(a:List Nat):Bool:=((S8 vs).zip a).all fun p=>decide (p.2<U1 (gv vs p.1).limbs)
def R9 (vs:List Vr)(os rs:List Ko)(a:List Nat):Int:=if Io vs os rs=true then (if (S8 vs).length=a.length then (if fitsD vs a=true then 0 else 3) else 2) else 2
def Xi (vs:List Vr)(a:List Nat):List Nat:=((S8 vs).zip a).foldl (fun v p=>v.set p.1 p.2) (List.replicate vs.length 0)
def Zz (vs:List Vr)(os rs:List Ko)(a:List Nat):Bool:=decide (R9 vs os rs a=0)&&rs.all fun o=>Us o (Xi vs a)
def zgz (vs:List Vr)(os rs:List Ko):Nat:=if Io vs os rs=true then min cap40 (Up os).stepsT else 0
def runD (vs:List Vr)(os rs:List Ko)(a:List Nat):List (List UInt64)×Int :=
 if R9 vs os rs a=0 then (if Zz vs os rs a=true then (if zgz vs os rs≤16384 then (match (Up os).exec vs (Xi vs a) with
  |none=>([],9)
  |some w=>((outV vs).map fun i=>Nm (w.getD i 0),0)) else ([],10)) else ([],9)) else ([],R9 vs os rs a)
theorem run_map {vs:List Vr}{os rs:List Ko}{a:List Nat}(g:Io vs os rs=true):runD vs (os.map Kb) rs a=runD vs os rs a:=by
 obtain⟨f,w,rfl,u,p,hd,q,hm,l⟩:=X8 g;have d:=chk_map g;have h:Up (f.flat.map Kb)=f.map Kb:=by rw[←zh6,zi9 (wf_map f w)]
 have j:R9 vs (f.flat.map Kb) rs a=R9 vs f.flat rs a:=by simp[R9,g,d]
 have m:Zz vs (f.flat.map Kb) rs a=Zz vs f.flat rs a:=by simp[Zz,j]
 have o:zgz vs (f.flat.map Kb) rs=zgz vs f.flat rs:=by simp[zgz,g,d,h,zi9 w,stepsT_map]
 unfold runD;rw[j,m,o,h,zi9 w,zh3]
end Go.Sv
end
namespace Go.Sv
abbrev Hl:=Int×Int
def zy9 (x y:Hl):Prop:=x.2≤y.1∨y.2≤x.1
def Ap (size:Int)(l:List Hl):Prop:=l.Pairwise zy9∧∀h∈l,0≤h.1∧h.1<h.2∧h.2≤size
structure St where
 holes:List Hl
 size:Int
def ivs (a:Nat→Hl)(sec:Nat→Bool)(s:Bool)(busy:List Nat):List Hl:=(busy.filter fun v=>sec v==s).map a
def BusyOk (wk:Bool→Int)(d:Nat→Hl)(sec:Nat→Bool)(busy:List Nat)(a:Bool→St):Prop :=
 ∀s,0≤(a s).size∧Ap (a s).size ((0,wk s)::(ivs d sec s busy++(a s).holes))
structure Plan0 (wk:Bool→Int) (a b It:Nat→Int) (sec:Nat→Bool) (done busy:List Nat) (iv:Nat→Hl) (ps:Bool→St) (cur:Int):Prop where
 ok:BusyOk wk iv sec busy ps
 wide:∀v∈done,(iv v).2=(iv v).1+It v
 nd:busy.Nodup
 sub:∀v∈busy,v∈done
 over:∀v∈done,v ∉ busy→b v<cur
 pairs:∀v∈done,∀w∈done,v≠w→sec v=sec w→zy9 (iv v) (iv w)∨b v<a w∨b w<a v
 inn:∀v∈done,0≤(iv v).1∧(iv v).2≤(ps (sec v)).size∧zy9 (0,wk (sec v)) (iv v)
 sz:(ps false).size+(ps true).size≤wk false+wk true+(done.map It).sum
end Go.Sv
noncomputable section
namespace Go.Sv
structure Bf where
 size:Int
 kind:Int
 sec:Bool
structure Lo where
 kind:Int
 d:Int
 e:Int
 a:Int
 b:Int
 c:Int
 buf:Int
 imm:UInt64
 deriving DecidableEq
def Bf.f (v:Bf):List LV:=[.i v.size,.i v.kind,.bool v.sec]
def Lo.f (o:Lo):List LV:=[.i o.kind,.i o.d,.i o.e,.i o.a,.i o.b,.i o.c,.i o.buf,.u o.imm]
def Gb (l:List Bf):List LV:=l.flatMap Bf.f
def Gf (l:List Lo):List LV:=l.flatMap Lo.f
theorem Bf.f_len (v:Bf):v.f.length=3:=rfl
theorem Lo.f_len (o:Lo):o.f.length=8:=rfl
theorem zz8 (l:List Lo):(Gf l).length=l.length*8:=zt9 Lo.f_len l
theorem Jn (l:List Bf):dats (Gb l)=true:=zdc (fun _=>rfl) l
theorem Ju (l:List Lo):dats (Gf l)=true:=zdc (fun _=>rfl) l
theorem zsp {l:List Bf}{i:Nat}{v:Bf}(h:l[i]?=some v):((Gb l).drop (i*3)).take 3=v.f:=zfk Bf.f_len h
theorem zgt {l:List Lo}{i:Nat}{v:Lo}(h:l[i]?=some v):((Gf l).drop (i*8)).take 8=v.f:=zfk Lo.f_len h
theorem Yn {l:List Bf}{i:Nat}{v:Bf}(h:l[i]?=some v):(Gb l)[i*3]?=some (.i v.size):=by have:=zre Bf.f_len h (j:=0) (by omega);simpa [Gb,Bf.f] using this
theorem zg6 {l:List Bf}{i:Nat}{v:Bf}(h:l[i]?=some v):(Gb l)[i*3+1]?=some (.i v.kind):=by have:=zre Bf.f_len h (j:=1) (by omega);simpa [Gb,Bf.f] using this
theorem V5 {l:List Bf}{i:Nat}{v:Bf}(h:l[i]?=some v):(Gb l)[i*3+2]?=some (.bool v.sec):=by have:=zre Bf.f_len h (j:=2) (by omega);simpa [Gb,Bf.f] using this
theorem lo_at {l:List Lo}{i:Nat}{v:Lo}(h:l[i]?=some v){j:Nat}(a:j<8):(Gf l)[i*8+j]?=v.f[j]?:=zre Lo.f_len h a
theorem Zc {l:List Bf}{i:Nat}(h:i<l.length):i*3+3≤(Gb l).length:=zyr Bf.f_len h
theorem zu1 {l:List Lo}{i:Nat}(h:i<l.length):i*8+8≤(Gf l).length:=zyr Lo.f_len h
theorem zmx (a b:List Lo):Gf (a++b)=Gf a++Gf b:=by simp[Gf]
theorem bfC_app (a b:List Bf):Gb (a++b)=Gb a++Gb b:=by simp[Gb]
def Fk (l:List Bf)(n:Nat):Bf:=l.getD n ⟨0,0,false⟩
def glo (l:List Lo)(n:Nat):Lo:=l.getD n ⟨0,0,0,0,0,0,0,0⟩
theorem Kl {l:List Bf}{n:Nat}(h:n<l.length):l[n]?=some (Fk l n):=by simp[Fk,Ae,h]
theorem zq1 {l:List Lo}{n:Nat}(h:n<l.length):l[n]?=some (glo l n):=by simp[glo,Ae,h]
theorem zmd {l:List Lo}{n:Nat}(h:n<l.length):l.drop n=glo l n::l.drop (n+1):=by
 rw[B8 h];congr 1;have:=zq1 h;rw[Ai h] at this;exact Option.some.inj this
theorem repBs (n:Nat):Hk [.bool false] n=(List.replicate n false).map LV.bool:=by
 induction n with
 |zero=>rfl
 |succ n a=>rw[Hk,a,Db];rfl
def Hr (o:Lo):List Int :=
 if o.kind=2∨o.kind=8∨o.kind=9 then [o.a]
 else if (3≤o.kind∧o.kind≤7)∨o.kind=10 then [o.a,o.b]
 else if o.kind=11∨o.kind=12∨o.kind=13 then [o.a,o.b,o.c]
 else if o.kind=14∧¬o.a=-1 then [o.a]
 else if o.kind=15∧¬o.a=-1 then [o.a,o.b]
 else if o.kind=15 then [o.b] else []
def E7 (o:Lo):List Int :=
 if o.kind=10∨o.kind=11∨o.kind=12 then [o.d,o.e]
 else if o.kind=15∨o.kind=17 then [] else [o.d]
def Fi (regs r:Int)(has:Bool):Bool:=if has=true then decide (0≤r)&&decide (r<regs) else decide (r=-1)
def Gg (k:Int):Bool:=!decide (k=15) && !decide (k=17)
def Gh (k:Int):Bool:=decide (k=10) || (decide (k=11) || decide (k=12))
def Gq (k:Int):Bool:=!decide (k=1)&&(!decide (k=16) && !decide (k=17))
def Jo (k:Int):Bool:=(decide (3≤k)&&decide (k≤7)) || ((decide (10≤k)&&decide (k≤13)) || decide (k=15))
def Jj (k:Int):Bool:=decide (11≤k)&&decide (k≤13)
def Ge (k:Int):Bool:=decide (k=14) || decide (k=15)
def Ic (regs:Int)(bs:List Bf)(o:Lo):Bool :=
 (decide (1≤o.kind)&&decide (o.kind≤17))&&(Fi regs o.d (Gg o.kind)&&(Fi regs o.e (Gh o.kind)&&((Fi regs o.a (Gq o.kind) || (Ge o.kind&&decide (o.a=-1)))&&(Fi regs o.b (Jo o.kind)&&(Fi regs o.c (Jj o.kind)&&(!(Gh o.kind&&decide (o.d=o.e)) &&
  (if Ge o.kind=true then decide (0≤o.buf)&&(decide (o.buf<bs.length)&&(!(decide (o.kind=15)&&decide ((Fk bs o.buf.toNat).kind=1))&&(!decide (o.a=-1) || decide (o.imm<iU (Fk bs o.buf.toNat).size))))
   else decide (o.buf=0)&&(if o.kind=1 then true else if o.kind=8∨o.kind=9 then decide (1≤o.imm)&&decide (o.imm≤63) else if o.kind=16 then decide (1≤o.imm)&&decide (o.imm≤1048576) else decide (o.imm=0)))))))))
def Iz (m:List Bool)(r:Int):Bool:=m.getD r.toNat false
def My (regs:Int)(bs:List Bf)(m:List Bool)(ls:List Int)(o:Lo):Int×List Bool×List Int :=
 if Ic regs bs o=false then (2,m,ls)
 else if o.kind=17 then (match ls.getLast? with | none=>(9,m,ls) | some d=>(0,m.set d.toNat false,ls.dropLast))
 else if (E7 o).any (fun r=>ls.contains r)=true then (9,m,ls)
 else if o.kind=16∧Iz m o.d=true then (9,m,ls)
 else if o.kind=16∧ls.length=8 then (10,m,ls)
 else if (Hr o).any (fun r=>!Iz m r)=true then (5,m,ls)
 else (0,(E7 o).foldl (fun m r=>m.set r.toNat true) m,if o.kind=16 then ls++[o.d] else ls)
def Rn (regs:Int)(bs:List Bf):Nat→List Bool→List Int→List Lo→Int×Int
 |i,_,ls,[]=>if ls=[] then (i,0) else (i,9)
 |i,m,ls,o::l=>if (My regs bs m ls o).1=0 then Rn regs bs (i+1) (My regs bs m ls o).2.1 (My regs bs m ls o).2.2 l else (i,(My regs bs m ls o).1)
def Jq (regs:Int)(bs:List Bf)(os:List Lo):Int×Int :=
 if 64<regs∨32<bs.length∨65536<os.length then (0,3)
 else if (bs.any fun b=>decide (65536<b.size))=true then (0,3)
 else if regs<0 then (0,2)
 else if (bs.any fun b=>decide (b.size<1) || (decide (b.kind<1) || decide (3<b.kind)))=true then (0,2)
 else Rn regs bs 0 (List.replicate regs.toNat false) [] os
structure Ms where
 i:Nat
 first:Bool
 r:List UInt64
 bufs:List (List UInt64)
 l:List (Int×Int)
def atR (r:List UInt64)(x:Int):UInt64:=if x<0 then 0 else r.getD x.toNat 0
def F2 (b:Bool):UInt64:=if b then 1 else 0
def Fa (r:List UInt64)(x:Int)(v:UInt64):List UInt64:=if 0≤x then r.set x.toNat v else r
def Fx (o:Lo)(a b:UInt64)(c:Bool):UInt64×UInt64 :=
 if o.kind=1 then (o.imm,0) else if o.kind=2 then (a,0) else if o.kind=3 then (a+b,0) else if o.kind=4 then (a - b,0)
 else if o.kind=5 then (a &&& b,0) else if o.kind=6 then (a ||| b,0) else if o.kind=7 then (a ^^^ b,0)
 else if o.kind=8 then (UInt64.ofNat (a.toNat*2^o.imm.toNat),0) else if o.kind=9 then (UInt64.ofNat (a.toNat/2^o.imm.toNat),0)
 else if o.kind=10 then (R4 a b,a*b) else if o.kind=11 then ((I3 a b c).1,F2 (I3 a b c).2) else if o.kind=12 then ((Gt a b c).1,F2 (Gt a b c).2)
 else if o.kind=13 then (if c then a else b,0) else (0,0)
def Ma (bufs:List (List UInt64))(x:Int):List UInt64:=bufs.getD x.toNat []
def M8 (o:Lo)(s:Ms):Option Ms :=
 if o.kind=14 then
  (if (o.imm+atR s.r o.a).toNat<(Ma s.bufs o.buf).length then
   some ⟨s.i+1,s.first,Fa (Fa s.r o.d ((Ma s.bufs o.buf).getD (o.imm+atR s.r o.a).toNat 0)) o.e 0,s.bufs,s.l++[((s.i:Int),(((o.imm+atR s.r o.a).toNat:Nat):Int))]⟩ else none)
 else if o.kind=15 then
  (if (o.imm+atR s.r o.a).toNat<(Ma s.bufs o.buf).length then
   some ⟨s.i+1,s.first,Fa (Fa s.r o.d 0) o.e 0,s.bufs.set o.buf.toNat ((Ma s.bufs o.buf).set (o.imm+atR s.r o.a).toNat (atR s.r o.b)),s.l++[((s.i:Int),(((o.imm+atR s.r o.a).toNat:Nat):Int))]⟩ else none)
 else some ⟨s.i+1,s.first,Fa (Fa s.r o.d (Fx o (atR s.r o.a) (atR s.r o.b) (decide (atR s.r o.c%2=1))).1) o.e (Fx o (atR s.r o.a) (atR s.r o.b) (decide (atR s.r o.c%2=1))).2,s.bufs,s.l++[((s.i:Int),(-1:Int))]⟩
def Jf (os:List Lo)(es:List Int)(s:Ms):Option Ms :=
 match os[s.i]? with
 |none=>some s
 |some o =>
  if o.kind=16 then some ⟨s.i+1,true,if s.first then Fa s.r o.d 0 else s.r,s.bufs,s.l++[((s.i:Int),(-1:Int))]⟩
  else if o.kind=17 then
   (match os[(es.getD s.i 0).toNat]? with
   |none=>none
   |some p=>if atR s.r p.d+1<p.imm then some ⟨(es.getD s.i 0).toNat,false,Fa s.r p.d (atR s.r p.d+1),s.bufs,s.l⟩ else some ⟨s.i+1,s.first,s.r,s.bufs,s.l⟩)
  else M8 o s
def Hm (os:List Lo)(es:List Int):Nat→Ms→Option Ms
 |0,s=>some s
 |n+1,s=>match Jf os es s with
  |none=>none
  |some a=>Hm os es n a
end Go.Sv
end
namespace Go.Sv
def Iq (o:Lo):Nat:=if o.kind=16 then 1 else if o.kind=17 then 2 else 0
structure Fs where
 r:Nat→UInt64
 m:Nat→Nat→UInt64
def Fs.put (s:Fs)(d:Nat)(v:UInt64):Fs:=⟨fun x=>if x=d then v else s.r x,s.m⟩
def Fs.sto (s:Fs)(b n:Nat)(v:UInt64):Fs:=⟨s.r,fun x y=>if x=b∧y=n then v else s.m x y⟩
def Ky (s:Fs)(x:Int):UInt64:=if x<0 then 0 else s.r x.toNat
def Jg (s:Fs)(x:Int)(v:UInt64):Fs:=if 0≤x then s.put x.toNat v else s
def Ii (sz:Nat→Nat)(o:Lo)(s:Fs):Option Fs :=
 if o.kind=14 then (if (o.imm+Ky s o.a).toNat<sz o.buf.toNat then some (Jg (Jg s o.d (s.m o.buf.toNat (o.imm+Ky s o.a).toNat)) o.e 0) else none)
 else if o.kind=15 then (if (o.imm+Ky s o.a).toNat<sz o.buf.toNat then some (Jg (Jg (s.sto o.buf.toNat (o.imm+Ky s o.a).toNat (Ky s o.b)) o.d 0) o.e 0) else none)
 else some (Jg (Jg s o.d (Fx o (Ky s o.a) (Ky s o.b) (decide (Ky s o.c%2=1))).1) o.e (Fx o (Ky s o.a) (Ky s o.b) (decide (Ky s o.c%2=1))).2)
def Vl (f:Fs→Option Fs)(d:Nat):Nat→Nat→Fs→Option Fs
 |0,_,s=>some s
 |n+1,j,s=>match f (s.put d (UInt64.ofNat j)) with
  |none=>none
  |some a=>Vl f d n (j+1) a
def K5 (sz:Nat→Nat):Fr Lo→Fs→Option Fs
 |.nil,s=>some s
 |.op o r,s=>match Ii sz o s with
  |none=>none
  |some a=>K5 sz r a
 |.loop o b _ r,s=>match Vl (K5 sz b) o.d.toNat o.imm.toNat 0 s with
  |none=>none
  |some a=>K5 sz r a
def Fr.noW (x:Nat):Fr Lo→Bool
 |.nil=>true
 |.op o r=>!decide (o.d=x)&&(!decide (o.e=x)&&r.noW x)
 |.loop o b _ r=>!decide (o.d.toNat=x)&&(b.noW x&&r.noW x)
theorem zha {s:Fs}{d:Int}{v:UInt64}{x:Nat}(h:¬d=x):(Jg s d v).r x=s.r x:=by
 unfold Jg;split
 ·show (if x=d.toNat then v else s.r x)=s.r x;rw[Ac (by omega)]
 ·rfl
theorem opZ_r {sz:Nat→Nat}{o:Lo}{s f:Fs}{x:Nat}(h:Ii sz o s=some f)(a:¬o.d=x)(d:¬o.e=x):f.r x=s.r x:=by
 unfold Ii at h;split at h
 ·split at h
  ·cases h;rw[zha d,zha a]
  ·cases h
 ·split at h
  ·split at h
   ·cases h;rw[zha d,zha a];rfl
   ·cases h
  ·cases h;rw[zha d,zha a]
theorem zt3 {f:Fs→Option Fs}{P:Fs→Prop}{d:Nat}(hd:∀s v,P s→P (s.put d v))(l:∀s a,P s→f s=some a→P a):∀(n j:Nat) (s a:Fs),P s→Vl f d n j s=some a→P a
 |0,_,s,a,g,h=>by cases h;exact g
 |n+1,j,s,a,g,h=>by
  unfold Vl at h;split at h
  ·cases h
  ·rename_i s1 m;exact zt3 hd l n (j+1) s1 a (l _ _ (hd _ _ g) m) h
theorem O7 {sz:Nat→Nat}{x:Nat}:∀(f:Fr Lo) (s a:Fs),f.noW x=true→K5 sz f s=some a→a.r x=s.r x
 |.nil,s,a,_,h=>by cases h;rfl
 |.op o r,s,a,hw,h=>by
  simp only[Fr.noW,Ab,Bt,Bl] at hw;unfold K5 at h;split at h
  ·cases h
  ·rename_i s1 d;rw[O7 r s1 a hw.2.2 h,opZ_r d hw.1 hw.2.1]
 |.loop o b e r,s,a,hw,h=>by
  simp only[Fr.noW,Ab,Bt,Bl] at hw;unfold K5 at h;split at h
  ·cases h
  ·rename_i s1 d;rw[O7 r s1 a hw.2.2 h];refine zt3 (P:=fun t=>t.r x=s.r x) (fun t v g=>?_) (fun t j g h=>by rw[O7 b t j hw.2.1 h,g]) _ _ _ _ rfl d;show (if x=o.d.toNat then v else t.r x)=_;rw[Ac (fun q=>hw.1 q.symm)];exact g
def Zd (ls:List Nat)(x:Int):Bool:=decide (-1≤x)&&(decide (x<64) && !ls.contains x.toNat || decide (x=-1))
def Fr.regs (nb:Nat):List Nat→Fr Lo→Bool
 |_,.nil=>true
 |ls,.op o r=>Zd ls o.d&&(Zd ls o.e&&(decide (o.a<64)&&(decide (o.b<64)&&(decide (o.c<64)&&(decide (o.buf.toNat<nb)&&r.regs nb ls)))))
 |ls,.loop o b _ r=>Zd ls o.d&&(decide (0≤o.d)&&(decide (1≤o.imm.toNat)&&(b.regs nb (o.d.toNat::ls)&&r.regs nb ls)))
theorem zh1 {nb x:Nat}:∀(f:Fr Lo) (ls:List Nat),x∈ls→f.regs nb ls=true→f.noW x=true
 |.nil,_,_,_=>rfl
 |.op o r,ls,d,h=>by
  simp only[Fr.regs,Ab,Zd,Ak,Bn,Bt,List.contains_eq_mem,Bl] at h;obtain⟨⟨l,a⟩,⟨m,g⟩,_,_,_,_,j⟩:=h;simp only[Fr.noW,Ab,Bt,Bl];refine⟨fun q=>?_,fun q=>?_,zh1 r ls d j⟩
  ·rcases a with ⟨_,a⟩ | a
   ·apply a;rw[q];exact d
   ·omega
  ·rcases g with ⟨_,g⟩ | g
   ·apply g;rw[q];exact d
   ·omega
 |.loop o b e r,ls,d,h=>by
  simp only[Fr.regs,Ab,Zd,Ak,Bn,Bt,List.contains_eq_mem,Bl] at h;obtain⟨⟨l,a⟩,m,_,g,j⟩:=h;simp only[Fr.noW,Ab,Bt,Bl];refine⟨fun q=>?_,zh1 b _ (Ay _ d) g,zh1 r ls d j⟩;rcases a with ⟨_,a⟩ | a
  ·apply a;rw[q];exact d
  ·omega
structure Rep (nb:Nat) (sz:Nat→Nat) (s:Ms) (t:Fs):Prop where
 rl:s.r.length=64
 r:∀x,x<64→s.r.getD x 0=t.r x
 bl:s.bufs.length=nb
 len:∀b,b<nb→(s.bufs.getD b []).length=sz b
 m:∀b n,b<nb→n<sz b→(s.bufs.getD b []).getD n 0=t.m b n
section rep
variable {nb : Nat} {sz : Nat → Nat} {s : Ms} {t : Fs}
theorem Rep.at (h:Rep nb sz s t){x:Int}(hx:x<64):atR s.r x=Ky t x:=by
 unfold atR Ky;split
 ·rfl
 ·exact h.r _ (by omega)
theorem S9 {α:Type}(l:List α)(i j:Nat)(v d:α)(h:i<l.length):(l.set i v).getD j d=if j=i then v else l.getD j d:=by
 simp only[Ae,Et];by_cases q:j=i
 ·subst q;simp[h]
 ·rw[Ac (Ne.symm q),Ac q]
theorem Rep.put (h:Rep nb sz s t){x:Int}{v:UInt64}{i:Nat}{f:Bool}{l:List (Int×Int)}(hx:x<64):Rep nb sz ⟨i,f,Fa s.r x v,s.bufs,l⟩ (Jg t x v):=by
 unfold Fa Jg;split
 ·refine⟨by simpa using h.rl,fun y hy=>?_,h.bl,h.len,h.m⟩;show (s.r.set x.toNat v).getD y 0=if y=x.toNat then v else t.r y
  rw[S9 _ _ _ _ _ (by rw[h.rl];omega)];split
  ·rfl
  ·exact h.r y hy
 ·exact⟨h.rl,h.r,h.bl,h.len,h.m⟩
theorem Rep.ctl (h:Rep nb sz s t){i:Nat}{f:Bool}{l:List (Int×Int)}:Rep nb sz ⟨i,f,s.r,s.bufs,l⟩ t:=⟨h.rl,h.r,h.bl,h.len,h.m⟩
theorem Rep.sto (h:Rep nb sz s t){b n:Nat}{v:UInt64}{i:Nat}{f:Bool}{l:List (Int×Int)}(hb:b<nb)(hn:n<sz b):Rep nb sz ⟨i,f,s.r,s.bufs.set b ((s.bufs.getD b []).set n v),l⟩ (t.sto b n v):=by
 have aa:b<s.bufs.length:=by rw[h.bl];exact hb
 refine⟨h.rl,h.r,by simpa using h.bl,fun x hx=>?_,fun x y hx hy=>?_⟩
 ·show ((s.bufs.set b _).getD x []).length=_;rw[S9 _ _ _ _ _ aa];split
  ·rename_i q;subst q;rw[Ce];exact h.len x hx
  ·exact h.len x hx
 ·show ((s.bufs.set b _).getD x []).getD y 0=if x=b∧y=n then v else t.m x y
  rw[S9 _ _ _ _ _ aa];by_cases q:x=b
  ·subst q;rw[Ag rfl,S9 _ _ _ _ _ (by rw[h.len x hx];exact hn)];by_cases q2:y=n
   ·simp[q2]
   ·simp only[q2,and_false,Dl];exact h.m x y hx hy
  ·simp only[q,false_and,Dl];exact h.m x y hx hy
end rep
theorem zgp {os:List Lo}{es:List Int}:∀(n k:Nat) (s a:Ms),Hm os es n s=some a→Hm os es (n+k) s=Hm os es k a
 |0,k,s,a,h=>by cases h;rw[Be]
 |n+1,k,s,a,h=>by
  unfold Hm at h;split at h
  ·cases h
  ·rename_i s1 d;rw[show n+1+k=(n+k)+1 by omega];show (match Jf os es s with | none=>none | some a=>Hm os es (n+k) a)=_;rw[d];exact zgp n k s1 a h
theorem doR_ok {nb:Nat}{sz:Nat→Nat}{s:Ms}{t r:Fs}{o:Lo}(h:Rep nb sz s t)(hd:o.d<64)(he:o.e<64)(w:o.a<64)(y:o.b<64)(z:o.c<64)(a:o.buf.toNat<nb)(g:Ii sz o t=some r) :
  ∃p,M8 o s=some p∧p.i=s.i+1∧p.first=s.first∧Rep nb sz p r∧p.l.length=s.l.length+1:=by
 unfold Ii at g;unfold M8;rw[h.at w,h.at y,h.at z];unfold Ma;have A:o.buf.toNat<s.bufs.length:=by rw[h.bl];exact a
 split at g
 ·rename_i j;rw[Ag j,h.len _ a];split at g
  ·rename_i d;rw[Ag d];cases g;refine⟨_,rfl,rfl,rfl,?_,by simp⟩;rw[h.m _ _ a d];have q:=h.put (x:=o.d) (v:=t.m o.buf.toNat (o.imm+Ky t o.a).toNat) (i:=0) (f:=true) (l:=[]) hd;exact q.put he
  ·cases g
 ·rename_i j;rw[Ac j];split at g
  ·rename_i m;rw[Ag m,h.len _ a];split at g
   ·rename_i d;rw[Ag d];cases g;refine⟨_,rfl,rfl,rfl,?_,by simp⟩;have B:=h.sto (v:=Ky t o.b) (i:=0) (f:=true) (l:=[]) a d;have q:=B.put (x:=o.d) (v:=0) (i:=0) (f:=true) (l:=[]) hd;exact q.put he
   ·cases g
  ·rename_i m;rw[Ac m];cases g;refine⟨_,rfl,rfl,rfl,?_,by simp⟩;have q:=h.put (x:=o.d) (v:=(Fx o (Ky t o.a) (Ky t o.b) (decide (Ky t o.c%2=1))).1) (i:=0) (f:=true) (l:=[]) hd;exact q.put he
def Fr.costZ:Fr Lo→Nat
 |.nil=>0
 |.op _ r=>1+r.costZ
 |.loop o b _ r=>o.imm.toNat*(b.costZ+2)+r.costZ
theorem zcd {α:Type}{l:List α}{i:Nat}{a:α}{r:List α}(h:l.drop i=a::r):l[i]?=some a∧l.drop (i+1)=r:=by
 have d:=congrArg (fun l=>l[0]?) h;simp at d;refine⟨d,?_⟩;rw[←List.drop_drop,h];rfl
theorem zoi {α:Type}{l a r:List α}{i:Nat}(h:l.drop i=a++r):l.drop (i+a.length)=r:=by
 rw[←List.drop_drop,h,List.drop_left]
theorem ofNat_lt {j:Nat}:(UInt64.ofNat j+1:UInt64)=UInt64.ofNat (j+1):=by
 apply UInt64.toNat.inj;simp
theorem zgn {os:List Lo}{es:List Int}{nb:Nat}{sz:Nat→Nat}:∀(f:Fr Lo) (i:Nat) (ls:List Nat) (rest:List Lo) (rs:List Int) (s:Ms) (t A:Fs),f.wf Iq→f.regs nb ls=true→os.drop i=f.flat++rest→es.drop i=f.ends i++rs→s.i=i→s.first=true→Rep nb sz s t→K5 sz f t=some A →
  ∃n a,Hm os es n s=some a∧a.i=i+f.size∧a.first=true∧Rep nb sz a A∧n≤f.costZ∧a.l.length≤s.l.length+f.costZ
 |.nil,i,ls,rest,rs,s,t,A,_,_,_,_,hi,I,J,g=>by
  cases g;exact⟨0,s,rfl,by simp[Fr.size,hi],I,J,Am _,Am _⟩
 |.op o r,i,ls,rest,rs,s,t,A,hw,B,ho,he,hi,I,J,g=>by
  simp only[Fr.regs,Ab,Zd,Ak,Bn] at B;obtain⟨⟨d1,d2⟩,⟨e1,R⟩,a1,b1,c1,f1,B⟩:=B;have d3:o.d<64:=by rcases d2 with d2 | d2<;>omega
  have e3:o.e<64:=by rcases R with R | R<;>omega
  simp only[Fr.flat,Bd] at ho;simp only[Fr.ends,Bd] at he;obtain⟨m,w⟩:=zcd ho;obtain⟨S,y⟩:=zcd he;unfold K5 at g;split at g
  ·cases g
  rename_i t1 T;obtain⟨s1,q1,q2,q3,q4,q5⟩:=doR_ok J d3 e3 a1 b1 c1 f1 T;obtain⟨n,a,G,H,K,C,p5,U⟩:=zgn r (i+1) ls rest rs s1 t1 A hw.2 B w y (by rw[q2,hi]) (by rw[q3,I]) q4 g;have hk:=hw.1;have d:Jf os es s=some s1:=by
   unfold Jf;rw[hi,m];dsimp only;unfold Iq at hk;rw[Ac (fun q=>by simp[q] at hk),Ac (fun q=>by simp[q] at hk)];exact q1
  refine⟨n+1,a,?_,by rw[H];simp[Fr.size];omega,K,C,by simp[Fr.costZ];omega,by simp[Fr.costZ];omega⟩;show (match Jf os es s with | none=>none | some a=>Hm os es n a)=_;rw[d];exact G
 |.loop o b e r,i,ls,rest,rs,s,t,A,hw,B,ho,he,hi,I,J,g=>by
  simp only[Fr.regs,Ab,Zd,Ak,Bn] at B;obtain⟨⟨d1,d2⟩,d0,m1,L,V⟩:=B;have d3:o.d<64:=by rcases d2 with d2 | d2<;>omega
  obtain⟨W,X,w3,w4⟩:=hw;have M:o.kind=16:=by unfold Iq at W;split at W<;>first | assumption | (split at W<;>omega)
  have Y:e.kind=17:=by
   unfold Iq at X;split at X
   ·omega
   ·split at X
    ·assumption
    ·omega
  simp only[Fr.flat,Bd,Bo] at ho;simp only[Fr.ends,Bd,Bo] at he;obtain⟨m,w⟩:=zcd ho;obtain⟨S,y⟩:=zcd he;have N:=zoi w;have O:=zoi y;rw[Fr.flat_len] at N;rw[Fr.ends_len] at O;obtain⟨Z,aa⟩:=zcd N;obtain⟨ad,P⟩:=zcd O;have D:(es.getD (i+1+b.size) 0).toNat=i:=by rw[Ae,ad];simp
  unfold K5 at g;split at g
  ·cases g
  rename_i t1 T;have af:=zh1 b (o.d.toNat::ls) (B5 ..) L;have ax:=o.imm.toNat_lt;have round:∀(n j:Nat) (s:Ms) (t:Fs),1≤n→j+n=o.imm.toNat→s.i=i+1→s.first=true→Rep nb sz s (t.put o.d.toNat (UInt64.ofNat j))→Vl (K5 sz b) o.d.toNat n j t=some t1 →
    ∃k a,Hm os es k s=some a∧a.i=i+b.size+2∧a.first=true∧Rep nb sz a t1∧k≤n*(b.costZ+2) - 1∧a.l.length≤s.l.length+(n*(b.costZ+2) - 1):=by
   intro n
   induction n with
   |zero=>intro j s t h;omega
   |succ n ih =>
    intro j s t _ hj ag ah Q p;unfold Vl at p;split at p
    ·cases p
    rename_i t2 h2;obtain⟨k,s2,G,H,K,C,p5,U⟩:=zgn b (i+1) (o.d.toNat::ls) _ _ s _ t2 w3 L w y ag ah Q h2;have aj:t2.r o.d.toNat=UInt64.ofNat j:=by
     rw[O7 b _ _ af h2];show (if o.d.toNat=o.d.toNat then _ else _)=_;rw[Ag rfl]
    have ao:atR s2.r o.d=UInt64.ofNat j:=by
     rw[C.at d3];unfold Ky;rw[Ac (by omega),aj]
    have d:Jf os es s2=if UInt64.ofNat j+1<o.imm then some ⟨i,false,Fa s2.r o.d (UInt64.ofNat j+1),s2.bufs,s2.l⟩ else some ⟨s2.i+1,s2.first,s2.r,s2.bufs,s2.l⟩:=by
     unfold Jf;rw[H,Z];dsimp only;rw[Ac (by omega),Ag Y,D,m];dsimp only;rw[ao]
    cases n with
    |zero =>
     have ap:¬(UInt64.ofNat j+1<o.imm):=by
      rw[Cl];have:(UInt64.ofNat j+1:UInt64).toNat=(j+1)%18446744073709551616:=by simp
      rw[this];by_cases q:j+1<18446744073709551616
      ·rw[Bg q];omega
      ·omega
     rw[Ac ap] at d;cases p;refine⟨k+1,⟨s2.i+1,s2.first,s2.r,s2.bufs,s2.l⟩,?_,?_,K,C.ctl,by omega,by show s2.l.length≤_;omega⟩
     ·rw[zgp k 1 s s2 G];show (match Jf os es s2 with | none=>none | some a=>Hm os es 0 a)=_;rw[d];rfl
     ·show s2.i+1=_;rw[H];omega
    |succ n =>
     have aq:UInt64.ofNat j+1<o.imm:=by
      rw[Cl];have:(UInt64.ofNat j+1:UInt64).toNat=(j+1)%18446744073709551616:=by simp
      rw[this,Bg (by omega)];omega
     rw[Ag aq] at d;have ar:(UInt64.ofNat j+1:UInt64)=UInt64.ofNat (j+1):=ofNat_lt;have E:Rep nb sz ⟨i+1,true,Fa s2.r o.d (UInt64.ofNat j+1),s2.bufs,s2.l++[((i:Int),-1)]⟩ (t2.put o.d.toNat (UInt64.ofNat (j+1))):=by
      have h:=C.put (x:=o.d) (v:=UInt64.ofNat j+1) (i:=i+1) (f:=true) (l:=s2.l++[((i:Int),-1)]) d3;rw[ar] at h ⊢;unfold Jg at h;rw[Ag d0] at h;exact h
     obtain⟨z,s3,u1,u2,u3,u4,u5,u6⟩:=ih (j+1) _ t2 (by omega) (by omega) rfl rfl E p;have hm:(n+1+1)*(b.costZ+2)=(n+1)*(b.costZ+2)+(b.costZ+2):=D5 _ _;have ay:b.costZ+2≤(n+1)*(b.costZ+2):=D6 _ (by omega);refine⟨k+(z+2),s3,?_,u2,u3,u4,by omega,?_⟩
     ·rw[zgp k _ s s2 G];show (match Jf os es s2 with | none=>none | some a=>Hm os es (z+1) a)=_;rw[d];show (match Jf os es (⟨i,false,Fa s2.r o.d (UInt64.ofNat j+1),s2.bufs,s2.l⟩:Ms) with | none=>none | some a=>Hm os es z a)=_;have:Jf os es (⟨i,false,Fa s2.r o.d (UInt64.ofNat j+1),s2.bufs,s2.l⟩:Ms)=some ⟨i+1,true,Fa s2.r o.d (UInt64.ofNat j+1),s2.bufs,s2.l++[((i:Int),-1)]⟩:=by
       unfold Jf;dsimp only;rw[m];dsimp only;rw[Ag M];rfl
      rw[this];exact u1
     ·simp only[Aj,Ar,Bc] at u6;omega
  have F:Rep nb sz ⟨i+1,true,Fa s.r o.d 0,s.bufs,s.l++[((i:Int),-1)]⟩ (t.put o.d.toNat (UInt64.ofNat 0)):=by
   have h:=J.put (x:=o.d) (v:=0) (i:=i+1) (f:=true) (l:=s.l++[((i:Int),-1)]) d3;unfold Jg at h;rw[Ag d0] at h;exact h
  obtain⟨k,s1,G,H,K,C,p5,U⟩:=round o.imm.toNat 0 _ t m1 (by omega) rfl rfl F T;have aw:b.costZ+2≤o.imm.toNat*(b.costZ+2):=D6 _ (by omega);obtain⟨z,s2,u1,u2,u3,u4,u5,u6⟩:=zgn r (i+b.size+2) ls rest rs s1 t1 A w4 V (by rw[show i+b.size+2=i+1+b.size+1 by omega];exact aa) (by rw[show i+b.size+2=i+1+b.size+1 by omega] at P ⊢;exact P) H K C g;refine⟨(k+z)+1,s2,?_,by rw[u2];simp[Fr.size];omega,u3,u4,by simp only[Fr.costZ];omega,?_⟩
  ·show (match Jf os es s with | none=>none | some a=>Hm os es (k+z) a)=_;have:Jf os es s=some ⟨i+1,true,Fa s.r o.d 0,s.bufs,s.l++[((i:Int),-1)]⟩:=by
    unfold Jf;rw[hi,m];dsimp only;rw[Ag M,I];rfl
   rw[this];show Hm os es (k+z) _=_;rw[zgp k z _ s1 G];exact u1
  ·simp only[Aj,Ar,Bc] at U;simp only[Fr.costZ];omega
end Go.Sv
namespace Go.Sv
def N7:Nat→List Nat→List Int→List Lo→List Int
 |_,_,out,[]=>out
 |i,st,out,o::l=>if o.kind=16 then N7 (i+1) (i::st) (out.set i (-1)) l
  else if o.kind=17 then (match st with
   |[]=>N7 (i+1) [] (out.set i (-1)) l
   |a::d=>N7 (i+1) d (((out.set i (-1)).set i a).set a i) l)
  else N7 (i+1) st (out.set i (-1)) l
theorem endsR_tree:∀(f:Fr Lo) (i:Nat) (st:List Nat) (out a:List Int) (rest:List Lo),f.wf Iq→out.length=i →
  N7 i st (out++List.replicate f.size 0++a) (f.flat++rest)=N7 (i+f.size) st (out++f.ends i++a) rest
 |.nil,i,st,out,a,rest,_,_=>by simp[Fr.flat,Fr.size,Fr.ends]
 |.op o r,i,st,out,a,rest,w,g=>by
  have h:=endsR_tree r (i+1) st (out++[-1]) a rest w.2 (by simp[g]);have hk:=w.1;have y:¬o.kind=16:=fun q=>by simp[Iq,q] at hk
  have z:¬o.kind=17:=fun q=>by simp[Iq,q] at hk
  simp only[Fr.flat,Fr.size,Fr.ends,Bd,N7,y,z,Dl,Db];simp only[Bo,Bd,D0] at h ⊢;rw[Dr _ _ (by omega),show i - out.length=0 by omega,Er,h]
  congr 1;omega
 |.loop o b e r,i,st,out,a,rest,w,g=>by
  obtain⟨j,l,A,B⟩:=w;have m:o.kind=16:=by unfold Iq at j;split at j<;>first | assumption | (split at j<;>omega)
  have p:e.kind=17:=by
   unfold Iq at l;split at l
   ·omega
   ·split at l
    ·assumption
    ·omega
  have s:=endsR_tree b (i+1) (i::st) (out++[-1]) ([0]++List.replicate r.size 0++a) (e::(r.flat++rest)) A (by simp[g]);have x:=endsR_tree r (i+b.size+2) st (out++[((i+b.size+1:Nat):Int)]++b.ends (i+1)++[(i:Int)]) a rest B (by simp[g,Fr.ends_len];omega);have C:List.replicate (b.size+r.size+2) (0:Int)=[0]++List.replicate b.size 0++([0]++List.replicate r.size 0):=by
   rw[show b.size+r.size+2=1+b.size+(1+r.size) by omega,←D9,←D9,←D9];rfl
  simp only[Fr.flat,Fr.size,Bd,N7,m,Bs];rw[C];simp only[Bo,Bd,D0] at s x ⊢;rw[Dr _ _ (by omega),show i - out.length=0 by omega,Er,s];simp only[N7,p];have d:(((out++(-1:Int)::(b.ends (i+1)++(0:Int)::(List.replicate r.size 0++a))).set (i+1+b.size) (-1)).set (i+1+b.size) (i:Int)).set i ((i+1+b.size:Nat):Int)
    = out++((i+b.size+1:Nat):Int)::(b.ends (i+1)++(i:Int)::(List.replicate r.size 0++a)):=by
   rw[List.set_set,Dr _ _ (by omega),Dr _ _ (by omega),show i+1+b.size - out.length=b.size+1 by omega,show i - out.length=0 by omega,List.set_cons_succ,Er,
    Dr _ _ (by rw[Fr.ends_len];exact Am _),Fr.ends_len,Ej,Er,show i+1+b.size=i+b.size+1 by omega]
  rw[d,show i+1+b.size+1=i+b.size+2 by omega,x];simp only[Fr.ends,Bd,Bo];rw[show i+(b.size+r.size+2)=i+b.size+2+r.size by omega];simp[Nat.add_comm]
theorem zv1 {f:Fr Lo}(w:f.wf Iq):N7 0 [] (List.replicate f.size 0) f.flat=f.ends 0:=by
 have h:=endsR_tree f 0 [] [] [] [] w rfl;simp only[Bx,D0,N7] at h;exact h
theorem Xy {f:Fr Lo}:∀{d:Nat} {rest:List Lo},f.wf Iq→K9 Iq d rest→K9 Iq d (f.flat++rest):=by
 induction f with
 |nil=>intro d rest _ h;exact h
 |op o r j =>
  intro d rest w h;simp only[Fr.flat,Bd];unfold K9;rw[w.1,Ac (by decide),Ac (by decide)];exact⟨rfl,j w.2 h⟩
 |loop o b e r a g =>
  intro d rest w h;obtain⟨l,m,p,q⟩:=w;simp only[Fr.flat,Bd,Bo];unfold K9;rw[l,Ag rfl];refine a p ?_;unfold K9;rw[m,Ac (by decide),Ag rfl];exact⟨by omega,g q h⟩
theorem endsR_len:∀(l:List Lo) (i:Nat) (st:List Nat) (out:List Int),(N7 i st out l).length=out.length
 |[],_,_,_=>rfl
 |o::l,i,st,out=>by
  unfold N7;split
  ·rw[endsR_len];simp
  ·split
   ·split<;>rw[endsR_len]<;>simp
   ·rw[endsR_len];simp
def Od:List (Int×Int)→Int→List Lo→Int
 |_,s,[]=>s
 |st,s,o::l=>if o.kind=16 then Od ((s,(o.imm.toNat:Int))::st) 1 l
  else if o.kind=17 then (match st with
   |[]=>Od [] s l
   |(s0,t)::a=>Od a (min 1125899906842624 ((if 1125899906842624/t<s then 1125899906842624 else s*t)+s0)) l)
  else Od st (min 1125899906842624 (s+1)) l
def Fr.stp:Fr Lo→Nat
 |.nil=>0
 |.op _ r=>1+r.stp
 |.loop o b _ r=>o.imm.toNat*(1+b.stp)+r.stp
theorem zrv {a b:Nat}(h:1≤a):b≤a*b:=D6 _ h
theorem zgy {nb:Nat}:∀(f:Fr Lo) (ls:List Nat) (st:List (Int×Int)) (s:Nat) (rest:List Lo),f.wf Iq→f.regs nb ls=true→s+f.stp≤1125899906842624→Od st s (f.flat++rest)=Od st ((s+f.stp:Nat):Int) rest
 |.nil,_,st,s,rest,_,_,_=>by simp[Fr.flat,Fr.stp]
 |.op o r,ls,st,s,rest,w,a,d=>by
  have hk:=w.1;have x:¬o.kind=16:=fun q=>by simp[Iq,q] at hk
  have y:¬o.kind=17:=fun q=>by simp[Iq,q] at hk
  simp only[Fr.regs,Ab] at a;simp only[Fr.stp] at d ⊢;simp only[Fr.flat,Bd,Od,x,y,Dl];rw[show min (1125899906842624:Int) ((s:Int)+1)=((s+1:Nat):Int) by omega,zgy r ls st (s+1) rest w.2 a.2.2.2.2.2.2 (by omega)]
  congr 1;omega
 |.loop o b e r,ls,st,s,rest,w,a,d=>by
  obtain⟨g,h,z,A⟩:=w;have j:o.kind=16:=by unfold Iq at g;split at g<;>first | assumption | (split at g<;>omega)
  have l:e.kind=17:=by
   unfold Iq at h;split at h
   ·omega
   ·split at h
    ·assumption
    ·omega
  simp only[Fr.regs,Ab,Ak] at a;obtain⟨_,_,m1,m,p⟩:=a;simp only[Fr.stp] at d ⊢;have hle:=zrv (b:=1+b.stp) m1;simp only[Fr.flat,Bd,Bo,Od,j,Bs];rw[show (1:Int)=((1:Nat):Int) from rfl,zgy b _ _ 1 _ z m (by omega)];simp only[Od,l];rw[Ac (show ¬(17:Int)=16 by decide),Ag trivial];have B:¬(1125899906842624/((o.imm.toNat:Nat):Int)<((1+b.stp:Nat):Int)):=by
   have C:(1+b.stp)*o.imm.toNat≤1125899906842624:=by rw[Bz];omega
   have D:1+b.stp≤1125899906842624/o.imm.toNat:=(Nat.le_div_iff_mul_le m1).2 C;have E:((1125899906842624/o.imm.toNat:Nat):Int)=1125899906842624/((o.imm.toNat:Nat):Int):=by simp
   omega
  rw[Ac B];have hm:(((1+b.stp:Nat):Int)*((o.imm.toNat:Nat):Int))=((o.imm.toNat*(1+b.stp):Nat):Int):=by rw[Bz];simp
  rw[hm,show min (1125899906842624:Int) (((o.imm.toNat*(1+b.stp):Nat):Int)+(s:Int))=((s+o.imm.toNat*(1+b.stp):Nat):Int) by omega,zgy r ls st _ rest A p (by omega)]
  congr 1;omega
theorem Xp {nb:Nat}{ls:List Nat}{f:Fr Lo}(w:f.wf Iq)(a:f.regs nb ls=true)(d:f.stp≤1125899906842624):Od [] 0 f.flat=f.stp:=by
 have h:=zgy f ls [] 0 [] w a (by omega);simp only[Bx,Od,Be] at h;exact h
def Ny (b:Bf)(x:List UInt64):List UInt64:=x++List.replicate (b.size.toNat - x.length) 0
def K3 (bs:List Bf)(X:List (List UInt64))(n:Nat):List (List UInt64):=(List.range n).map fun i=>Ny (Fk bs i) (X.getD i [])
def Hy (regs:Int)(bs:List Bf)(X:List (List UInt64)):Ms:=⟨0,true,List.replicate regs.toNat 0,K3 bs X bs.length,[]⟩
theorem Ul (bs:List Bf)(X:List (List UInt64))(n:Nat):(K3 bs X n).length=n:=by simp[K3]
theorem zdz (r:List UInt64)(x:Int)(v:UInt64):(Fa r x v).length=r.length:=by unfold Fa;split<;>simp
structure SameLen (s s':Ms):Prop where
 r:s'.r.length=s.r.length
 b:s'.bufs.map List.length=s.bufs.map List.length
 i:s'.i=s.i+1
 l:s'.l.length=s.l.length+1
 f:s'.first=s.first
theorem Zt {o:Lo}{s d:Ms}(h:M8 o s=some d):SameLen s d:=by
 unfold M8 at h;split at h
 ·split at h
  ·cases h;exact⟨by simp[zdz],rfl,rfl,by simp,rfl⟩
  ·cases h
 ·split at h
  ·split at h
   ·rename_i f;cases h;refine⟨by simp[zdz],?_,rfl,by simp,rfl⟩;show (s.bufs.set _ _).map List.length=_;rw[B0,Ce];refine List.ext_getElem? fun j=>?_
    by_cases q:o.buf.toNat=j
    ·subst q;by_cases a:o.buf.toNat<s.bufs.length
     ·rw[Ah (by simpa using a)];simp[Ma,Ae,a]
     ·rw[Dh (by simpa using a),Dh (by simpa using a)]
    ·rw[Ad q]
   ·cases h
  ·cases h;exact⟨by simp[zdz],rfl,rfl,by simp,rfl⟩
theorem ztd {os:List Lo}{es:List Int}{s:Ms}(h:os[s.i]?=none):∀n,Hm os es n s=some s
 |0=>rfl
 |n+1=>by
  show (match Jf os es s with | none=>none | some a=>Hm os es n a)=_;have:Jf os es s=some s:=by unfold Jf;rw[h]
  rw[this];exact ztd h n
theorem ends_at:∀(f:Fr Lo) (i j:Nat) (o:Lo),f.wf Iq→f.flat[j]?=some o→o.kind=17→∃k p,(f.ends i)[j]?=some ((i+k:Nat):Int)∧f.flat[k]?=some p∧p.kind=16
 |.nil,_,_,_,_,h,_=>by simp[Fr.flat] at h
 |.op a r,i,j,o,w,h,hk=>by
  have s:=w.1;have B:¬a.kind=17:=fun q=>by simp[Iq,q] at s
  cases j with
  |zero=>simp[Fr.flat] at h;subst h;exact absurd hk B
  |succ j =>
   simp only[Fr.flat,Av] at h;obtain⟨k,p,g,d,l⟩:=ends_at r (i+1) j o w.2 h hk;exact⟨k+1,p,by simp only[Fr.ends,Av];rw[g];congr 2;omega,by simpa only[Fr.flat,Av] using d,l⟩
 |.loop a b e r,i,j,o,w,h,hk=>by
  obtain⟨x,F,C,D⟩:=w;have y:a.kind=16:=by unfold Iq at x;split at x<;>first | assumption | (split at x<;>omega)
  cases j with
  |zero=>simp[Fr.flat] at h;subst h;omega
  |succ j =>
   simp only[Fr.flat,Av] at h;simp only[Fr.ends,Av];by_cases A:j<b.size
   ·rw[Aq (by rw[Fr.flat_len];exact A)] at h;obtain⟨k,p,g,d,l⟩:=ends_at b (i+1) j o C h hk;have z:k<b.size:=by rw[←Fr.flat_len];exact (Aa.1 d).1
    refine⟨k+1,p,?_,?_,l⟩
    ·rw[Aq (by rw[Fr.ends_len];exact A),g];congr 2;omega
    ·simp only[Fr.flat,Av];rw[Aq (by rw[Fr.flat_len];exact z)];exact d
   ·rw[Au (by rw[Fr.flat_len];omega),Fr.flat_len] at h;rw[Au (by rw[Fr.ends_len];omega),Fr.ends_len];cases E:j - b.size with
    |zero =>
     refine⟨0,a,by simp,by simp[Fr.flat],y⟩
    |succ m =>
     rw[E] at h;simp only[Av] at h ⊢;obtain⟨k,p,g,d,l⟩:=ends_at r (i+b.size+2) m o D h hk;refine⟨k+b.size+2,p,by rw[g];congr 2;omega,?_,l⟩;simp only[Fr.flat,Av];rw[Au (by rw[Fr.flat_len];omega),Fr.flat_len,show k+b.size+1 - b.size=k+1 by omega,Av];exact d
end Go.Sv
noncomputable section
namespace Go.Sv
structure Pc where
 buf:Int
 at_:Int
 size:Int
def Pc.f (p:Pc):List LV:=[.i p.buf,.i p.at_,.i p.size]
def cK (d:Int)(n:UInt64):Lo:=⟨1,d,-1,-1,-1,-1,0,n⟩
def Ik (d a:Int):Lo:=⟨2,d,-1,a,-1,-1,0,0⟩
def Ew (k d a b:Int):Lo:=⟨k,d,-1,a,b,-1,0,0⟩
def Iu (k d a f:Int):Lo:=⟨k,d,-1,a,-1,-1,0,iU f⟩
def Fu (h l a b:Int):Lo:=⟨10,h,l,a,b,-1,0,0⟩
def Fj (k d out a b c:Int):Lo:=⟨k,d,out,a,b,c,0,0⟩
def F1 (d c a b:Int):Lo:=⟨13,d,-1,a,b,c,0,0⟩
def E6 (d:Int)(p:Pc)(i off:Int):Lo:=⟨14,d,-1,i,-1,-1,p.buf,iU (p.at_+off)⟩
def Ff (p:Pc)(i off b:Int):Lo:=⟨15,-1,-1,i,b,-1,p.buf,iU (p.at_+off)⟩
def Ks (d times:Int):Lo:=⟨16,d,-1,-1,-1,-1,0,iU times⟩
def Oa:Lo:=⟨17,-1,-1,-1,-1,-1,0,0⟩
def Kp (e:Nat)(G G':Ev):Prop:=G.length≤G'.length∧∀(q:Nat) (ob:LObj),q≠e→(∀R m k st,ob≠LObj.dyn R m 8 k st)→G[q]?=some ob→G'[q]?=some ob
theorem Kp.refl (e:Nat)(G:Ev):Kp e G G:=⟨Am _,fun _ _ _ _ h=>h⟩
theorem Kp.trans {e:Nat}{a b c:Ev}(h:Kp e a b)(k:Kp e b c):Kp e a c:=⟨Br h.1 k.1,fun q ob h1 h2 h3=>k.2 q ob h1 h2 (h.2 q ob h1 h2 h3)⟩
theorem Kp.cells {e:Nat}{a b:Ev}(h:Kp e a b){q st:Nat}{l:List LV}(hq:q≠e)(hc:a[q]?=some (.cells l st)):b[q]?=some (.cells l st):=h.2 q _ hq (fun _ _ _ _ e=>by cases e) hc
theorem Kp.app {e:Nat}{a b:Ev}(h:Kp e a b)(x:List LObj):Kp e a (b++x):=⟨by have:=h.1;simp;omega,fun q ob h1 h2 h3=>by have h4:=h.2 q ob h1 h2 h3;rw[E5 (Aa.1 h4).1];exact h4⟩
theorem Kp.app' (e:Nat)(a:Ev)(x:List LObj):Kp e a (a++x):=(Kp.refl e a).app x
def Fp (G:Ev)(e:Nat)(ops:List Lo)(deep:Int):Prop:=∃(st:Nat) (v:LV),G[e]?=some (.cells [v,.i deep] st)∧H8 0 G v 8 ops.length (Gf ops)
theorem H8.set_cells {b:Nat}{G:Ev}{v:LV}{esz n:Nat}{l:List LV}(h:H8 b G v esz n l){q st:Nat}{c:List LV}{ob:LObj}(hq:G[q]?=some (.cells c st)):H8 b (G.set q ob) v esz n l:=by
 obtain⟨h1,h2,h | ⟨p,k,st,a,e,d⟩⟩:=h
 ·exact⟨h1,h2,.inl h⟩
 ·exact⟨h1,h2,.inr ⟨p,k,st,a,e,by rw[Ad (fun q'=>by rw[q',d] at hq;cases hq)];exact d⟩⟩
theorem H8.row {b:Nat}{G:Ev}{v:LV}{esz n:Nat}{l:List LV}(h:H8 b G v esz n l){q j:Nat}(e:v=.dy q j):∃R m k st,G[q]?=some (.dyn R m esz k st):=by
 obtain⟨_,_,⟨h,_⟩ | ⟨p,k,st,_,e2,d⟩⟩:=h
 ·rw[h] at e;cases e
 ·rw[e2] at e;cases e;exact⟨_,_,_,_,d⟩
theorem Fp.app {G:Ev}{e:Nat}{ops:List Lo}{deep:Int}(h:Fp G e ops deep)(x:List LObj):Fp (G++x) e ops deep:=by
 obtain⟨st,v,h1,h2⟩:=h;exact⟨st,v,by rw[E5 (Aa.1 h1).1];exact h1,h2.push_end⟩
end Go.Sv
end
namespace Go.Sv
section made
variable {wk : Bool → Int} {a b It : Nat → Int} {sec : Nat → Bool} {done busy : List Nat} {iv : Nat → Hl} {ps : Bool → St} {cur base : Int} {n : Nat}
end made
end Go.Sv
namespace Go.Sv
def Yd {α:Type}(k:α→Int)(l:List α):Prop:=l.Pairwise fun x y=>k x≤k y
section sym
variable {α : Type} {k : α → Int}
theorem Yd.last {l:List α}(h:Yd k l){u z:α}(hu:u∈l)(hz:l.getLast?=some z):k u≤k z:=by
 obtain⟨ys,rfl⟩:=List.getLast?_eq_some_iff.1 hz;have:=List.pairwise_append.1 h;rcases Az.1 hu with q | q
 ·exact this.2.2 u q z (by simp)
 ·rw[List.mem_singleton.1 q];exact Int.le_refl _
theorem Yd.head {l:List α}(h:Yd k l){u z:α}(hu:u∈l)(hz:l.head?=some z):k z≤k u:=by
 obtain⟨ys,rfl⟩:=List.head?_eq_some_iff.1 hz;have:=List.pairwise_cons.1 h;rcases Ao.1 hu with q | q
 ·rw[q];exact Int.le_refl _
 ·exact this.1 u q
theorem zxg {l:List α}{u:α}(h:u∈l):∃z,l.getLast?=some z:=by
 cases a:l.getLast? with
 |none=>rw[List.getLast?_eq_none_iff] at a;subst a;cases h
 |some z=>exact⟨z,rfl⟩
theorem Re {l:List α}{u:α}(h:u∈l):∃z,l.head?=some z:=by
 cases l with
 |nil=>cases h
 |cons z t=>exact⟨z,rfl⟩
theorem halves {f g h j:List α}(l:Yd k (f++g))(m:Yd k (h++j))(o:∀u w,f.getLast?=some u→j.head?=some w→k u≤k w)(p:∀u w,h.getLast?=some u→g.head?=some w→k u≤k w) :
  ∀u∈f++h,∀w∈g++j,k u≤k w:=by
 obtain⟨q,r,s⟩:=List.pairwise_append.1 l;obtain⟨x,A,B⟩:=List.pairwise_append.1 m;intro u hu w hw;rcases Az.1 hu with hu | hu<;>rcases Az.1 hw with hw | hw
 ·exact s u hu w hw
 ·obtain⟨z,a⟩:=zxg hu;obtain⟨y,d⟩:=Re hw;exact Int.le_trans (Yd.last q hu a) (Int.le_trans (o z y a d) (Yd.head A hw d))
 ·obtain⟨z,a⟩:=zxg hu;obtain⟨y,d⟩:=Re hw;exact Int.le_trans (Yd.last x hu a) (Int.le_trans (p z y a d) (Yd.head r hw d))
 ·exact B u hu w hw
end sym
end Go.Sv
namespace Go.Sv
theorem Su (vs:List Vr):Io vs (Nf 0 vs) []=Kk vs:=by
 unfold Io;cases hv:Kk vs with
 |false=>rfl
 |true =>
  have l:=ziv hv;have d:=startOs_len vs 0;obtain⟨m,f,o,g⟩:=zef vs 0 (Py vs) rfl (by simp[Py]) (fun j a=>by omega) (fun j _ a=>by
   unfold gb Py;rw[Ae,Cc,Nj a];rfl)
  rw[f];have hm:Ub vs m=true:=by
   unfold Ub;rw[Cb];intro i hi;simp[g i (Cp.1 hi)]
  have h:(Nf 0 vs).length≤4096:=by omega
  simp[hm,h]
def H7 (l:List Pc)(n:Nat):Pc:=l.getD n ⟨0,0,0⟩
def Tv (bs:List Bf):Int :=
 if 32<bs.length then 3 else if (bs.any fun b=>decide (65536<b.size))=true then 3 else if (bs.any fun b=>decide (b.size<1) || (decide (b.kind<1) || decide (3<b.kind)))=true then 2 else 0
def Oj (bs:List Bf)(x:Pc):Bool:=decide (0≤x.buf)&&(decide (x.buf<bs.length)&&(decide (1≤x.size)&&(decide (x.size≤32768)&&(decide (0≤x.at_)&&(decide (x.at_≤(Fk bs x.buf.toNat).size)&&decide (x.size≤(Fk bs x.buf.toNat).size - x.at_))))))
def Tj (bs:List Bf)(v:Vr)(x:Pc):Bool :=
 Oj bs x&&(decide (x.size=v.limbs)&&(!(decide ((Fk bs x.buf.toNat).kind=1) && !Ka v)&&(!(decide ((Fk bs x.buf.toNat).kind=2)&&Ka v)&&(v.sec==(Fk bs x.buf.toNat).sec))))
def Of (bs:List Bf)(s:Bool)(x:Pc):Bool:=Oj bs x&&(!decide ((Fk bs x.buf.toNat).kind=1)&&((Fk bs x.buf.toNat).sec==s))
def Ns (vs:List Vr)(bs:List Bf)(a:List Pc)(d f:Pc):Bool :=
 Kk vs&&(decide (1≤bs.length)&&(decide (a.length=vs.length)&&(decide (Tv bs=0)&&(((List.range vs.length).all fun i=>Tj bs (gv vs i) (H7 a i))&&(Of bs false d&&Of bs true f)))))
def Pj (l:List Pc):List LV:=l.flatMap Pc.f
def E4:List Lo→Fr Lo
 |[]=>.nil
 |o::l=>.op o (E4 l)
def Fr.cat {α:Type}:Fr α→Fr α→Fr α
 |.nil,g=>g
 |.op o r,g=>.op o (r.cat g)
 |.loop o b e r,g=>.loop o b e (r.cat g)
theorem flat_frL:∀l:List Lo,(E4 l).flat=l
 |[]=>rfl
 |o::l=>by rw[E4,Fr.flat,flat_frL l]
theorem Hq {α:Type}:∀f g:Fr α,(f.cat g).flat=f.flat++g.flat
 |.nil,g=>rfl
 |.op o r,g=>by rw[Fr.cat,Fr.flat,Fr.flat,Hq r g];rfl
 |.loop o b e r,g=>by rw[Fr.cat,Fr.flat,Fr.flat,Hq r g];simp
theorem frL_app:∀a b:List Lo,E4 (a++b)=(E4 a).cat (E4 b)
 |[],_=>rfl
 |o::a,b=>by rw[Bd,E4,E4,Fr.cat,frL_app a b]
theorem stp_cat:∀f g:Fr Lo,(f.cat g).stp=f.stp+g.stp
 |.nil,g=>by simp[Fr.cat,Fr.stp]
 |.op o r,g=>by rw[Fr.cat,Fr.stp,Fr.stp,stp_cat r g];omega
 |.loop o b e r,g=>by rw[Fr.cat,Fr.stp,Fr.stp,stp_cat r g];omega
theorem J5 (l:List Lo):(E4 l).stp=l.length:=by
 induction l with
 |nil=>rfl
 |cons o l a=>rw[E4,Fr.stp,a,Ar];omega
section ex
variable {sz : Nat → Nat} {s : Fs}
theorem exZ_cat:∀(f g:Fr Lo) (s:Fs),K5 sz (f.cat g) s=(K5 sz f s).bind (K5 sz g)
 |.nil,g,s=>rfl
 |.op o r,g,s=>by
  rw[Fr.cat,K5,K5];cases Ii sz o s with
  |none=>rfl
  |some a=>exact exZ_cat r g a
 |.loop o b e r,g,s=>by
  rw[Fr.cat,K5,K5];cases Vl (K5 sz b) o.d.toNat o.imm.toNat 0 s with
  |none=>rfl
  |some a=>exact exZ_cat r g a
def Tx (sz:Nat→Nat)(f:Fr Lo)(s:Fs)(Q:Fs→Prop):Prop:=∃a,K5 sz f s=some a∧Q a
theorem Tx.nil {Q:Fs→Prop}(h:Q s):Tx sz .nil s Q:=⟨s,rfl,h⟩
theorem Tx.op {o:Lo}{r:Fr Lo}{s1:Fs}{Q:Fs→Prop}(h:Ii sz o s=some s1)(k:Tx sz r s1 Q):Tx sz (.op o r) s Q:=by
 obtain⟨s',h1,h2⟩:=k;exact⟨s',by rw[K5,h];exact h1,h2⟩
theorem Tx.cat {f g:Fr Lo}{Q R:Fs→Prop}(h:Tx sz f s R)(k:∀s',R s'→Tx sz g s' Q):Tx sz (f.cat g) s Q:=by
 obtain⟨s1,h1,h2⟩:=h;obtain⟨s2,h3,h4⟩:=k s1 h2;exact⟨s2,by rw[exZ_cat,h1];exact h3,h4⟩
theorem Tx.mono {f:Fr Lo}{Q R:Fs→Prop}(h:Tx sz f s R)(k:∀s',R s'→Q s'):Tx sz f s Q:=by
 obtain⟨s1,h1,h2⟩:=h;exact⟨s1,h1,k s1 h2⟩
theorem it_ex {f:Fs→Option Fs}{d:Nat}{I:Nat→Fs→Prop}:∀(n j:Nat) (s:Fs),I j s→(∀i s,i<j+n→I i s→∃a,f (s.put d (UInt64.ofNat i))=some a∧I (i+1) a)→∃a,Vl f d n j s=some a∧I (j+n) a
 |0,j,s,h,_=>⟨s,rfl,h⟩
 |n+1,j,s,h,k=>by
  obtain⟨s1,g,l⟩:=k j s (by omega) h;obtain⟨s2,m,o⟩:=it_ex n (j+1) s1 l fun i s hi p=>k i s (by omega) p
  refine⟨s2,?_,by rw[show j+(n+1)=j+1+n by omega];exact o⟩;show (match f (s.put d (UInt64.ofNat j)) with | none=>none | some a=>Vl f d n (j+1) a)=_;rw[g];exact m
theorem Tx.loop {o e:Lo}{b r:Fr Lo}{Q:Fs→Prop}(I:Nat→Fs→Prop)(h0:I 0 s)(h1:∀i s,i<o.imm.toNat→I i s→Tx sz b (s.put o.d.toNat (UInt64.ofNat i)) (I (i+1)))(h2:∀s',I o.imm.toNat s'→Tx sz r s' Q):Tx sz (.loop o b e r) s Q:=by
 obtain⟨s1,h3,h4⟩:=it_ex o.imm.toNat 0 s h0 fun i s hi hI=>h1 i s (by omega) hI
 rw[Be] at h4;obtain⟨s2,h5,h6⟩:=h2 s1 h4;exact⟨s2,by rw[K5,h3];exact h5,h6⟩
theorem Q0 (s:Fs)(d:Nat)(v:UInt64):Jg s (d:Int) v=s.put d v:=by unfold Jg;rw[Ag (by omega)];rfl
theorem Ry (s:Fs)(v:UInt64):Jg s (-1) v=s:=by unfold Jg;rw[Ac (by omega)]
theorem Qy (s:Fs)(d:Nat):Ky s (d:Int)=s.r d:=by unfold Ky;rw[Ac (by omega)];rfl
theorem Uy (s:Fs):Ky s (-1)=0:=by unfold Ky;rw[Ag (by omega)]
theorem Nk {d:Nat}{v:UInt64}:Ii sz (cK d v) s=some (s.put d v):=by simp[Ii,cK,Fx,Q0,Ry]
theorem zkq {d a:Nat}:Ii sz (Ik d a) s=some (s.put d (s.r a)):=by simp[Ii,Ik,Fx,Q0,Ry,Qy]
theorem zdv {d a b:Nat}:Ii sz (Ew 3 d a b) s=some (s.put d (s.r a+s.r b)):=by simp[Ii,Ew,Fx,Q0,Ry,Qy]
theorem zz3 {d a b:Nat}:Ii sz (Ew 4 d a b) s=some (s.put d (s.r a - s.r b)):=by simp[Ii,Ew,Fx,Q0,Ry,Qy]
theorem zx9 {d a b:Nat}:Ii sz (Ew 6 d a b) s=some (s.put d (s.r a ||| s.r b)):=by simp[Ii,Ew,Fx,Q0,Ry,Qy]
theorem zxy {d a b:Nat}:Ii sz (Ew 7 d a b) s=some (s.put d (s.r a ^^^ s.r b)):=by simp[Ii,Ew,Fx,Q0,Ry,Qy]
theorem zj2 {h l a b:Nat}:Ii sz (Fu h l a b) s=some ((s.put h (R4 (s.r a) (s.r b))).put l (s.r a*s.r b)):=by simp[Ii,Fu,Fx,Q0,Qy]
theorem zrn {d e a b c:Nat}:Ii sz (Fj 11 d e a b c) s=some ((s.put d (I3 (s.r a) (s.r b) (decide (s.r c%2=1))).1).put e (F2 (I3 (s.r a) (s.r b) (decide (s.r c%2=1))).2)):=by simp[Ii,Fj,Fx,Q0,Qy]
theorem zj0 {d e a b c:Nat}:Ii sz (Fj 12 d e a b c) s=some ((s.put d (Gt (s.r a) (s.r b) (decide (s.r c%2=1))).1).put e (F2 (Gt (s.r a) (s.r b) (decide (s.r c%2=1))).2)):=by simp[Ii,Fj,Fx,Q0,Qy]
theorem zm9 {d c a b:Nat}:Ii sz (F1 d c a b) s=some (s.put d (if s.r c%2=1 then s.r a else s.r b)):=by
 simp[Ii,F1,Fx,Q0,Ry,Qy]
theorem opZ_ld {d i:Nat}{p:Pc}{off:Int}{b n:Nat}(f:p.buf=(b:Int))(g:(iU (p.at_+off)+s.r i).toNat=n)(a:n<sz b):Ii sz (E6 d p i off) s=some (s.put d (s.m b n)):=by
 simp[Ii,E6,Q0,Ry,Qy,f,g,a]
theorem Zw {d:Nat}{p:Pc}{off:Int}{b n:Nat}(f:p.buf=(b:Int))(g:(iU (p.at_+off)).toNat=n)(a:n<sz b):Ii sz (E6 d p (-1) off) s=some (s.put d (s.m b n)):=by
 simp[Ii,E6,Q0,Ry,Uy,f,g,a]
theorem opZ_st {v i:Nat}{p:Pc}{off:Int}{b n:Nat}(d:p.buf=(b:Int))(f:(iU (p.at_+off)+s.r i).toNat=n)(a:n<sz b):Ii sz (Ff p i off v) s=some (s.sto b n (s.r v)):=by
 simp[Ii,Ff,Ry,Qy,d,f,a]
theorem opZ_st0 {v:Nat}{p:Pc}{off:Int}{b n:Nat}(d:p.buf=(b:Int))(f:(iU (p.at_+off)).toNat=n)(a:n<sz b):Ii sz (Ff p (-1) off v) s=some (s.sto b n (s.r v)):=by
 simp[Ii,Ff,Ry,Uy,Qy,d,f,a]
end ex
theorem Ez (s:Fs)(d x:Nat)(v:UInt64):(s.put d v).r x=if x=d then v else s.r x:=rfl
theorem Gz (s:Fs)(d:Nat)(v:UInt64):(s.put d v).m=s.m:=rfl
theorem Kd (s:Fs)(b n:Nat)(v:UInt64):(s.sto b n v).r=s.r:=rfl
theorem Qs (s:Fs)(b n x y:Nat)(v:UInt64):(s.sto b n v).m x y=if x=b∧y=n then v else s.m x y:=rfl
def Kf (s:Ms):Fs:=⟨fun x=>s.r.getD x 0,fun b n=>(s.bufs.getD b []).getD n 0⟩
def Y1 (s:Ms):Nat→Nat:=fun b=>(s.bufs.getD b []).length
theorem Rep.abs (s:Ms)(h:s.r.length=64):Rep s.bufs.length (Y1 s) s (Kf s):=⟨h,fun _ _=>rfl,rfl,fun _ _=>rfl,fun _ _ _ _=>rfl⟩
end Go.Sv
namespace Go.Sv
theorem zgw {regs:Int}{bs:List Bf}{d:Int}{v:UInt64}(h:0≤d∧d<regs):Ic regs bs (cK d v)=true:=by
 simp[Ic,cK,Fi,Gg,Gh,Gq,Jo,Jj,Ge,h]
theorem zxw {regs:Int}{bs:List Bf}{d a:Int}(h:0≤d∧d<regs)(f:0≤a∧a<regs):Ic regs bs (Ik d a)=true:=by
 simp[Ic,Ik,Fi,Gg,Gh,Gq,Jo,Jj,Ge,h,f]
theorem zcl {regs:Int}{bs:List Bf}{k d a b:Int}(hk:3≤k∧k≤7)(h:0≤d∧d<regs)(f:0≤a∧a<regs)(g:0≤b∧b<regs):Ic regs bs (Ew k d a b)=true:=by
 have j:k=3∨k=4∨k=5∨k=6∨k=7:=by omega
 rcases j with rfl | rfl | rfl | rfl | rfl<;>simp[Ic,Ew,Fi,Gg,Gh,Gq,Jo,Jj,Ge,h,f,g]
theorem zci {regs:Int}{bs:List Bf}{d e a b:Int}(h:0≤d∧d<regs)(he:0≤e∧e<regs)(f:0≤a∧a<regs)(g:0≤b∧b<regs)(j:d≠e):Ic regs bs (Fu d e a b)=true:=by
 simp[Ic,Fu,Fi,Gg,Gh,Gq,Jo,Jj,Ge,h,f,g,he,j]
theorem zue {regs:Int}{bs:List Bf}{k d e a b c:Int}(hk:k=11∨k=12)(h:0≤d∧d<regs)(he:0≤e∧e<regs)(f:0≤a∧a<regs)(g:0≤b∧b<regs)(j:0≤c∧c<regs)(l:d≠e):Ic regs bs (Fj k d e a b c)=true:=by
 rcases hk with rfl | rfl<;>simp[Ic,Fj,Fi,Gg,Gh,Gq,Jo,Jj,Ge,h,f,g,j,he,l]
theorem zv7 {regs:Int}{bs:List Bf}{d c a b:Int}(h:0≤d∧d<regs)(f:0≤c∧c<regs)(g:0≤a∧a<regs)(j:0≤b∧b<regs):Ic regs bs (F1 d c a b)=true:=by
 simp[Ic,F1,Fi,Gg,Gh,Gq,Jo,Jj,Ge,h,g,j,f]
theorem znc {regs:Int}{bs:List Bf}{d i off:Int}{p:Pc}(h:0≤d∧d<regs)(hi:i=-1∨0≤i∧i<regs)(a:0≤p.buf∧p.buf<bs.length)(hm:i=-1→iU (p.at_+off)<iU (Fk bs p.buf.toNat).size):Ic regs bs (E6 d p i off)=true:=by
 rcases hi with rfl | hi
 ·simp[Ic,E6,Fi,Gg,Gh,Gq,Jo,Jj,Ge,h,a,hm rfl]
 ·have:i≠-1:=by omega
  simp[Ic,E6,Fi,Gg,Gh,Gq,Jo,Jj,Ge,h,a,hi,this]
theorem zoq {regs:Int}{bs:List Bf}{v i off:Int}{p:Pc}(h:0≤v∧v<regs)(hi:i=-1∨0≤i∧i<regs)(a:0≤p.buf∧p.buf<bs.length)(hk:(Fk bs p.buf.toNat).kind≠1)(hm:i=-1→iU (p.at_+off)<iU (Fk bs p.buf.toNat).size):Ic regs bs (Ff p i off v)=true:=by
 rcases hi with rfl | hi
 ·simp[Ic,Ff,Fi,Gg,Gh,Gq,Jo,Jj,Ge,h,a,hm rfl,hk]
 ·have:i≠-1:=by omega
  simp[Ic,Ff,Fi,Gg,Gh,Gq,Jo,Jj,Ge,h,a,hi,this,hk]
def Hf (regs:Int)(bs:List Bf):List Int→List Lo→Prop
 |_,[]=>True
 |S,o::l=>Ic regs bs o=true∧(o.kind≠16∧o.kind≠17)∧(∀x∈Hr o,x∈S)∧Hf regs bs (E7 o++S) l
theorem zml {regs:Int}{bs:List Bf}:∀{l:List Lo} {S S':List Int},(∀x∈S,x∈S')→Hf regs bs S l→Hf regs bs S' l
 |[],_,_,_,_=>trivial
 |o::l,S,S',h,k=>⟨k.1,k.2.1,fun x a=>h x (k.2.2.1 x a),zml (fun x a=>by
   rcases Az.1 a with a | a
   ·exact Dk _ a
   ·exact Ba _ (h x a)) k.2.2.2⟩
theorem zrj {regs:Int}{bs:List Bf}:∀{a b:List Lo} {S:List Int},Hf regs bs S a→Hf regs bs ((a.flatMap E7)++S) b→Hf regs bs S (a++b)
 |[],b,S,_,k=>by simpa using k
 |o::a,b,S,h,k=>⟨h.1,h.2.1,h.2.2.1,zrj h.2.2.2 (zml (fun x d=>by
   simp only[Ds,Az] at d ⊢;rcases d with (d | d) | d
   ·exact .inr (.inl d)
   ·exact .inl d
   ·exact .inr (.inr d)) k)⟩
theorem ztw {regs:Int}{bs:List Bf}{a b:List Lo}{S:List Int}(h:Hf regs bs S a)(k:Hf regs bs S b):Hf regs bs S (a++b) :=
 zrj h (zml (fun _ d=>Ba _ d) k)
def S0 (regs:Int)(m:List Bool)(S:List Int):Prop:=(m.length:Int)=regs∧∀x∈S,0≤x∧x<regs∧Iz m x=true
theorem z9w {m:List Bool}{a x:Int}(d:0≤a∧a<m.length)(f:0≤x):Iz (m.set a.toNat true) x=true↔x=a∨Iz m x=true:=by
 unfold Iz;rw[S9 _ _ _ _ _ (by omega)];by_cases e:x.toNat=a.toNat
 ·rw[Ag e];simp;left;omega
 ·rw[Ac e];constructor
  ·exact .inr
  ·rintro (rfl | h)
   ·exact absurd rfl e
   ·exact h
theorem S0.fold {regs:Int}:∀(mk:List Int) (m:List Bool) (S:List Int),S0 regs m S→(∀x∈mk,0≤x∧x<regs)→S0 regs (mk.foldl (fun m r=>m.set r.toNat true) m) (mk++S)
 |[],_,_,h,_=>h
 |a::mk,m,S,h,hr=>by
  have ha:=hr a (B5 ..);have h1:S0 regs (m.set a.toNat true) (a::S):=by
   refine⟨by simpa using h.1,fun x hx=>?_⟩;rcases Ao.1 hx with rfl | hx
   ·exact⟨ha.1,ha.2,(z9w ⟨ha.1,by rw[h.1];exact ha.2⟩ ha.1).2 (.inl rfl)⟩
   ·obtain⟨h1,h2,h3⟩:=h.2 x hx;exact⟨h1,h2,(z9w ⟨ha.1,by rw[h.1];exact ha.2⟩ h1).2 (.inr h3)⟩
  have h2:=S0.fold mk _ _ h1 fun x hx=>hr x (Ay _ hx)
  refine⟨h2.1,fun x hx=>h2.2 x ?_⟩;simp only[Az,Ao] at hx ⊢;rcases hx with (hx | hx) | hx
  ·exact .inr (.inl hx)
  ·exact .inl hx
  ·exact .inr (.inr hx)
theorem Xw {regs:Int}{bs:List Bf}{m:List Bool}{ls:List Int}{o:Lo}(g:Ic regs bs o=true)(a:o.kind≠16)(d:o.kind≠17)(hm:∀x∈E7 o,¬x∈ls)(j:∀x∈Hr o,Iz m x=true) :
  My regs bs m ls o=(0,(E7 o).foldl (fun m r=>m.set r.toNat true) m,ls):=by
 unfold My;rw[Ac (by rw[g];decide),Ac d,Ac,Ac (fun q=>a q.1),Ac (fun q=>a q.1),Ac,Ac a]
 ·rw[Bv];rintro⟨x,f,h⟩;rw[j x f] at h;cases h
 ·rw[Bv];rintro⟨x,f,h⟩;exact hm x f (by simpa using h)
theorem Uc {regs:Int}{bs:List Bf}{o:Lo}(h:Ic regs bs o=true):∀x∈E7 o,0≤x∧x<regs:=by
 unfold Ic at h;simp only[Ab,Ak] at h;obtain⟨⟨f,g⟩,d,e,_⟩:=h;have f1:∀{x:Int},Fi regs x true=true→0≤x∧x<regs:=fun h=>by unfold Fi at h;simpa using h
 intro x a;unfold E7 at a;split at a
 ·rename_i hk;have hd:Gg o.kind=true:=by rcases hk with h | h | h<;>rw[h]<;>rfl
  have he:Gh o.kind=true:=by rcases hk with h | h | h<;>rw[h]<;>rfl
  rw[hd] at d;rw[he] at e;simp at a;rcases a with rfl | rfl
  ·exact f1 d
  ·exact f1 e
 ·split at a
  ·cases a
  ·rename_i hk;have hd:Gg o.kind=true:=by simp[Gg];omega
   rw[hd] at d;simp at a;subst a;exact f1 d
def Ta (n r:Int):List Lo:=[cK (r+3) 3,Fu (r+1) r n (r+3),cK (r+3) 2,Ew 7 r r (r+3)]
def zq4 (n r:Int):List Lo:=[Fu (r+1) (r+2) n r,Ew 4 (r+2) (r+3) (r+2),Fu (r+1) r r (r+2)]
def Qf (n r:Int)(i:Nat):List Lo:=(List.range i).flatMap fun _=>zq4 n r
theorem zcc (n r:Int)(i:Nat):Qf n r (i+1)=Qf n r i++zq4 n r:=by simp[Qf,List.range_succ]
theorem zhf (n r:Int)(i:Nat):(Qf n r i).length=3*i:=by
 induction i with
 |zero=>rfl
 |succ i a=>rw[zcc,Aj,a];simp[zq4];omega
def Mh (n r:Int):List Lo:=Ta n r++(Qf n r 5++[cK (r+3) 0,Ew 4 r (r+3) r])
theorem xor2 (x:Nat):x ^^^ 2=if x%4<2 then x+2 else x - 2:=by
 have j:(x ^^^ 2)/4=x/4:=by
  have:=Nat.xor_div_two_pow (a:=x) (b:=2) (n:=2);simpa using this
 have d:(x ^^^ 2)%4=(x%4) ^^^ 2:=by
  have:=Nat.xor_mod_two_pow (a:=x) (b:=2) (n:=2);simpa using this
 have f:x%4<4:=Df _ (by decide);have h:(x%4) ^^^ 2=if x%4<2 then x%4+2 else x%4 - 2:=by
  generalize x%4=c at f ⊢
  match c,f with
  |0,_=>rfl
  |1,_=>rfl
  |2,_=>rfl
  |3,_=>rfl
 rw[h] at d;split at d<;>rename_i g
 ·rw[Ag g];omega
 ·rw[Ac g];omega
theorem U9 (k c:Nat)(d:c%2=1):∃t,k*(3*k+c)=2*t:=by
 have h:k*(3*k+c)%2=0:=by
  have a:k%2=0∨k%2=1:=by omega
  rw[B1,Nat.add_mod,B1 3 k];rcases a with a | a<;>simp[a,d]
 exact⟨k*(3*k+c)/2,by omega⟩
theorem reck0 (a:UInt64)(h:a%2=1):∃t:UInt64,a*((a*3) ^^^ 2)=1+32*t:=by
 have r:a.toNat%2=1:=by
  have:=congrArg UInt64.toNat h;simpa using this
 have d:((a*3) ^^^ 2:UInt64).toNat=(a.toNat*3%18446744073709551616) ^^^ 2:=by simp
 rw[xor2] at d;have o:a.toNat*3%18446744073709551616<18446744073709551616:=Df _ (by decide);obtain⟨k,hk⟩:∃k,a.toNat=4*k+a.toNat%4:=⟨a.toNat/4,by omega⟩;have p:a.toNat*3%18446744073709551616%4=a.toNat*3%4:=Nat.mod_mod_of_dvd _ (by decide);have j:a=UInt64.ofNat a.toNat:=by simp
 have g:a.toNat%4=1∨a.toNat%4=3:=by omega
 rcases g with g | g
 ·rw[Ac (by omega)] at d;have f:(a*3) ^^^ 2=a*3 - 2:=by
   apply UInt64.toNat.inj;rw[d,Dv];simp;omega
  obtain⟨t,l⟩:=U9 k 1 rfl;have q:a=4*UInt64.ofNat k+1:=by rw[j,hk,g];simp
  have m:UInt64.ofNat k*(3*UInt64.ofNat k+1)=2*UInt64.ofNat t:=by
   have:=congrArg UInt64.ofNat l;simpa using this
  refine⟨UInt64.ofNat t,?_⟩;rw[f];generalize UInt64.ofNat k=b at *;generalize UInt64.ofNat t=u at *;clear d j
  grind
 ·rw[Ag (by omega)] at d;have f:(a*3) ^^^ 2=a*3+2:=by
   apply UInt64.toNat.inj;rw[d,Bu];simp;omega
  obtain⟨t,l⟩:=U9 k 5 rfl;have q:a=4*UInt64.ofNat k+3:=by rw[j,hk,g];simp
  have m:UInt64.ofNat k*(3*UInt64.ofNat k+5)=2*UInt64.ofNat t:=by
   have:=congrArg UInt64.ofNat l;simpa using this
  refine⟨UInt64.ofNat t+1,?_⟩;rw[f];generalize UInt64.ofNat k=b at *;generalize UInt64.ofNat t=u at *;clear d j
  grind
def Zg (a x:UInt64):UInt64:=x*(2 - a*x)
theorem znp (a x:UInt64):1 - a*Zg a x=(1 - a*x)*(1 - a*x):=by unfold Zg;grind
def zqo (a:UInt64):UInt64:=Zg a (Zg a (Zg a (Zg a (Zg a ((a*3) ^^^ 2)))))
theorem sq32 (t:UInt64):((32*t)*(32*t))*((32*t)*(32*t))=1048576*(t*t*(t*t)):=by grind
theorem zzf (a:UInt64)(h:a%2=1):a*zqo a=1:=by
 obtain⟨t,f⟩:=reck0 a h;have d:1 - a*((a*3) ^^^ 2)=32*(0 - t):=by rw[f];grind
 generalize 0 - t=u at d;have g:1 - a*zqo a=0:=by
  unfold zqo;rw[znp,znp,znp,znp,znp,d];have j:(32*u)*(32*u)*((32*u)*(32*u))=1048576*(u*u*(u*u)):=sq32 u;rw[j];generalize u*u*(u*u)=w;have l:(1048576*w)*(1048576*w)*((1048576*w)*(1048576*w))=0:=by
   have:(1048576*w)*(1048576*w)*((1048576*w)*(1048576*w))=(1048576*1048576*(1048576*1048576))*(w*w*(w*w)):=by grind
   rw[this,show (1048576*1048576*(1048576*1048576):UInt64)=0 by decide];simp
  rw[l];simp
 have:a*zqo a=1 - (1 - a*zqo a):=by grind
 rw[this,g];rfl
def Z2 (a x:UInt64):Nat→UInt64
 |0=>x
 |i+1=>Zg a (Z2 a x i)
theorem reck_ex {sz:Nat→Nat}{s:Fs}{n r:Nat}(h:¬(r≤n∧n≤r+3)):Tx sz (E4 (Mh n r)) s fun a=>a.r r=0 - zqo (s.r n)∧a.m=s.m∧∀x,¬(r≤x∧x≤r+3)→a.r x=s.r x:=by
 have w:Mh (n:Int) (r:Int)=[cK ((r+3:Nat):Int) 3,Fu ((r+1:Nat):Int) (r:Nat) (n:Nat) ((r+3:Nat):Int),cK ((r+3:Nat):Int) 2,Ew 7 (r:Nat) (r:Nat) ((r+3:Nat):Int)]++(Qf n r 5++[cK ((r+3:Nat):Int) 0,Ew 4 (r:Nat) ((r+3:Nat):Int) (r:Nat)]):=rfl;have round:∀(i:Nat) (s:Fs),s.r (r+3)=2→Tx sz (E4 (Qf n r i)) s fun a=>a.r (r+3)=2∧a.r r=Z2 (s.r n) (s.r r) i∧a.m=s.m∧∀x,¬(r≤x∧x≤r+3)→a.r x=s.r x:=by
  intro i
  induction i with
  |zero=>intro s l;exact .nil ⟨l,rfl,rfl,fun _ _=>rfl⟩
  |succ i y =>
   intro s l;rw[zcc,frL_app];refine (y s l).cat fun s1 ⟨j,m,o,d⟩=>?_
   have z:zq4 (n:Int) (r:Int)=[Fu ((r+1:Nat):Int) ((r+2:Nat):Int) (n:Nat) (r:Nat),Ew 4 ((r+2:Nat):Int) ((r+3:Nat):Int) ((r+2:Nat):Int),Fu ((r+1:Nat):Int) (r:Nat) (r:Nat) ((r+2:Nat):Int)]:=rfl;rw[z];refine .op zj2 (.op zz3 (.op zj2 (.nil ⟨?_,?_,?_,fun x f=>?_⟩)))
   ·simp[Ez,j]
   ·have A:=d n h;have B:¬n=r:=by omega
    simp[Ez,j,m,A,Zg,Z2]
   ·simp[Gz,o]
   ·have g:¬x=r:=by omega
    have p:¬x=r+1:=by omega
    have C:¬x=r+2:=by omega
    simp[Ez,g,p,C,d x f]
 rw[w,frL_app];refine Tx.cat (R:=fun a=>a.r (r+3)=2∧a.r r=(s.r n*3) ^^^ 2∧a.m=s.m∧∀x,¬(r≤x∧x≤r+3)→a.r x=s.r x) (.op Nk (.op zj2 (.op Nk (.op zxy (.nil ⟨?_,?_,?_,fun x f=>?_⟩))))) fun s1 ⟨j,m,o,d⟩=>?_
 ·simp[Ez]
 ·have D:¬n=r+3:=by omega
  simp[Ez,D]
 ·simp[Gz]
 ·have g:¬x=r:=by omega
  have p:¬x=r+1:=by omega
  have q:¬x=r+3:=by omega
  simp[Ez,g,p,q]
 rw[frL_app];refine (round 5 s1 j).cat fun s2 ⟨H,E,F,G⟩=>?_
 refine .op Nk (.op zz3 (.nil ⟨?_,?_,fun x f=>?_⟩))
 ·simp[Ez,E,m,d n h,zqo,Z2]
 ·simp[Gz,F,o]
 ·have g:¬x=r:=by omega
  have q:¬x=r+3:=by omega
  simp[Ez,g,q,G x f,d x f]
theorem zzj {bs:List Bf}{n r:Int}{S:List Int}(d:0≤n∧n<64)(h:0≤r∧r+4<64)(f:n∈S)(a:r∈S)(g:r+3∈S):Hf 64 bs S (zq4 n r):=by
 refine⟨zci (by omega) (by omega) d (by omega) (by omega),by simp[Fu],?_,zcl (by omega) (by omega) (by omega) (by omega),by simp[Ew],?_,zci (by omega) (by omega) (by omega) (by omega) (by omega),by simp[Fu],?_,trivial⟩
 ·simp[Hr,Fu,f,a]
 ·simp[Hr,Ew,E7,Fu,g]
 ·simp[Hr,E7,Fu,Ew,a]
theorem zp0 {bs:List Bf}{n r:Int}{S:List Int}(a:0≤n∧n<64)(d:0≤r∧r+4<64)(f:n∈S)(g:r∈S)(h:r+3∈S):∀i,Hf 64 bs S (Qf n r i)
 |0=>trivial
 |i+1=>by rw[zcc];exact ztw (zp0 a d f g h i) (zzj a d f g h)
theorem Uk {bs:List Bf}{n r:Int}{S:List Int}(d:0≤n∧n<64)(g:0≤r∧r+4<64)(f:n∈S):Hf 64 bs S (Mh n r):=by
 refine zrj (a:=Ta n r) ?_ ?_
 ·refine⟨zgw (by omega),by simp[cK],by simp[Hr,cK],zci (by omega) (by omega) d (by omega) (by omega),by simp[Fu],?_,zgw (by omega),by simp[cK],by simp[Hr,cK],zcl (by omega) (by omega) (by omega) (by omega),by simp[Ew],?_,trivial⟩
  ·simp[Hr,E7,Fu,cK,f]
  ·simp[Hr,E7,Fu,cK,Ew]
 ·refine ztw (zp0 d g (Ba _ f) ?_ ?_ 5) ?_
  ·simp[Ta,E7,cK,Fu,Ew]
  ·simp[Ta,E7,cK,Fu,Ew]
  ·refine⟨zgw (by omega),by simp[cK],by simp[Hr,cK],zcl (by omega) (by omega) (by omega) (by omega),by simp[Ew],?_,trivial⟩;simp[Hr,E7,cK,Ew,Ta,Fu]
theorem zon (n r:Int):(Mh n r).length=21:=by
 unfold Mh;rw[Aj,Aj,zhf];rfl
theorem iU1:iU 1=1:=by rw[X6];rfl
end Go.Sv
noncomputable section
namespace Go.Sv
def L6 (e:Nat)(d a b n t:Pc)(R:Int):List LV :=
 [.ptr e 0,.i d.buf,.i d.at_,.i d.size,.i a.buf,.i a.at_,.i a.size,.i b.buf,.i b.at_,.i b.size,.i n.buf,.i n.at_,.i n.size,.i t.buf,.i t.at_,.i t.size,
  .i R,.i (R+1),.i (R+2),.i (R+3),.i (R+4),.i (R+5),.i (R+6),.i (R+7),.i (R+8),.i (R+9),.i (R+10)]
def Fw (R a b:Int):List Lo:=[Fu (R+5) (R+6) a b,Fj 11 (R+6) (R+8) (R+6) (R+7) R,Fj 11 (R+6) (R+9) (R+6) (R+3) R,Ew 3 (R+5) (R+5) (R+8),Ew 3 (R+3) (R+5) (R+9)]
def Gr (t:Pc)(k R:Int):List Lo:=[E6 (R+7) t (-1) k,Fj 11 (R+7) (R+8) (R+7) (R+3) R]
def Gj (d times:Int)(b:Fr Lo):Fr Lo:=if times<1 then .nil else .loop (Ks d times) b Oa .nil
theorem N8 (d times:Int)(b:Fr Lo):(Gj d times b).flat=if times<1 then [] else Ks d times::(b.flat++[Oa]):=by
 unfold Gj;split<;>rfl
def Ln (a t:Pc)(R j:Int):List Lo:=[E6 (R+4) a j 0,E6 (R+7) t j 0]++(Fw R (R+4) (R+2)++[Ff t j 0 (R+6)])
def Li (a b t:Pc)(k R D i:Int):Fr Lo:=(E4 [E6 (R+2) b i 0,cK (R+3) 0]).cat ((Gj D k (E4 (Ln a t R D))).cat (E4 (Gr t k R++[Ff t (-1) k (R+7),Ff t (-1) (k+1) (R+8)])))
def Mm (n t:Pc)(R j:Int):List Lo:=[E6 (R+4) n j 1,E6 (R+7) t j 1]++(Fw R (R+10) (R+4)++[Ff t j 0 (R+6)])
def Ls (n t:Pc)(k R D:Int):Fr Lo:=(E4 ([E6 (R+7) t (-1) 0,Fu (R+5) (R+10) (R+7) (R+1),E6 (R+4) n (-1) 0,cK (R+3) 0]++Fw R (R+10) (R+4))).cat
 ((Gj D (k - 1) (E4 (Mm n t R D))).cat (E4 (Gr t k R++[Ff t (-1) (k - 1) (R+7),E6 (R+7) t (-1) (k+1),Ew 3 (R+7) (R+7) (R+8),Ff t (-1) k (R+7)])))
def L9 (n t:Pc)(R j:Int):List Lo:=[E6 (R+7) t j 0,E6 (R+4) n j 0,Fj 12 (R+6) (R+8) (R+7) (R+4) (R+8)]
def N0 (n t:Pc)(k R D:Int)(x:List Lo):Fr Lo:=(E4 [cK (R+8) 0]).cat (Gj D k (E4 (L9 n t R D++x)))
def Pp (d n t:Pc)(k R D:Int):Fr Lo:=(N0 n t k R D []).cat ((E4 [E6 (R+7) t (-1) k,Fj 12 (R+6) (R+10) (R+7) R (R+8)]).cat (N0 n t k R D [F1 (R+6) (R+10) (R+7) (R+6),Ff d D 0 (R+6)]))
def Kc (p:Pc)(a D:Int):Fr Lo:=Gj D p.size (E4 [Ff p D 0 a])
def O2 (d a b n t:Pc)(k R D:Int):Fr Lo:=(E4 ([cK R 0,E6 (R+10) n (-1) 0]++Mh (R+10) (R+1))).cat ((Kc t R D).cat ((Gj D k ((Li a b t k R (D+1) D).cat (Ls n t k R (D+1)))).cat (Pp d n t k R D)))
end Go.Sv
end
namespace Go.Sv
def vl (f:Nat→UInt64):Nat→Nat
 |0=>0
 |n+1=>vl f n+(f n).toNat*18446744073709551616^n
theorem zvr (f:Nat→UInt64):∀n,vl f n<18446744073709551616^n
 |0=>by simp[vl]
 |n+1=>by
  have h:=zvr f n;have a:(f n).toNat+1≤18446744073709551616:=(f n).toNat_lt;have d:=At (18446744073709551616^n) a;rw[Bb,Cm] at d;rw[vl,Bi,Bz (18446744073709551616^n)];omega
theorem Nn {f g:Nat→UInt64}:∀{n:Nat},(∀i,i<n→f i=g i)→vl f n=vl g n
 |0,_=>rfl
 |n+1,h=>by rw[vl,vl,Nn fun i hi=>h i (by omega),h n (by omega)]
theorem zou (f:Nat→UInt64):∀n,vl f (n+1)=(f 0).toNat+18446744073709551616*vl (fun i=>f (i+1)) n
 |0=>by simp[vl]
 |n+1=>by
  rw[vl,zou f n,vl,Bi]
  grind
structure Pn where
 b:Nat
 a:Nat
 k:Nat
def Pn.p (p:Pn):Pc:=⟨p.b,p.a,p.k⟩
def pl (m:Nat→Nat→UInt64)(p:Pn)(i:Nat):UInt64:=m p.b (p.a+i)
def Dj (p q:Pn):Prop:=p.b≠q.b∨p.a+p.k≤q.a∨q.a+q.k≤p.a
def Fo (p:Pn)(m a:Nat→Nat→UInt64):Prop:=∀x y,¬(x=p.b∧p.a≤y∧y<p.a+p.k)→a x y=m x y
theorem Fo.trans {p:Pn}{m m' aa:Nat→Nat→UInt64}(h:Fo p m m')(k:Fo p m' aa):Fo p m aa:=fun x y hn=>(k x y hn).trans (h x y hn)
theorem Fo.pl {p q:Pn}{m m':Nat→Nat→UInt64}(h:Fo p m m')(d:Dj p q){i:Nat}(hi:i<q.k):pl m' q i=pl m q i :=
 h _ _ fun ⟨h1,h2,h3⟩=>by
  rcases d with d | d | d
  ·exact d h1.symm
  ·omega
  ·omega
theorem Fo.vl {p q:Pn}{m m':Nat→Nat→UInt64}(h:Fo p m m')(d:Dj p q){n:Nat}(hn:n≤q.k):vl (Go.Sv.pl m' q) n=vl (Go.Sv.pl m q) n:=Nn fun _ hi=>h.pl d (by omega)
theorem Oh {p:Pn}{s:Fs}{i:Nat}{v:UInt64}(h:i<p.k):Fo p s.m (s.sto p.b (p.a+i) v).m:=fun x y a=>by
 rw[Qs,Ac];rintro⟨rfl,rfl⟩;exact a ⟨rfl,by omega,by omega⟩
theorem Ja (p:Pn)(s:Fs)(i j:Nat)(v:UInt64):pl (s.sto p.b (p.a+i) v).m p j=if j=i then v else pl s.m p j:=by
 unfold pl;rw[Qs];by_cases h:j=i
 ·subst h;simp
 ·rw[Ac (by omega),Ac h]
theorem Rv {j:Nat}(h:j<18446744073709551616):(UInt64.ofNat j).toNat=j:=by simp;omega
theorem V1 {p:Pn}{off:Nat}{x:UInt64}(h:p.a+off+x.toNat<18446744073709551616):(iU (p.p.at_+(off:Int))+x).toNat=p.a+off+x.toNat:=by
 have:p.p.at_+(off:Int)=((p.a+off:Nat):Int):=by simp[Pn.p]
 rw[this,Bu,Pg (by omega),Bg (by simpa using h)]
theorem Q2 {p:Pn}{off:Nat}(h:p.a+off<18446744073709551616):(iU (p.p.at_+(off:Int))).toNat=p.a+off:=by
 have:p.p.at_+(off:Int)=((p.a+off:Nat):Int):=by simp[Pn.p]
 rw[this,Pg h]
section ls
variable {sz : Nat → Nat} {s : Fs} {p : Pn}
theorem Pl {d i off:Nat}(h:p.a+off+(s.r i).toNat<sz p.b)(a:sz p.b≤65536):Ii sz (E6 d p.p i off) s=some (s.put d (pl s.m p (off+(s.r i).toNat))):=by
 rw[opZ_ld (b:=p.b) (n:=p.a+off+(s.r i).toNat) rfl (V1 (by omega)) h];unfold pl;rw[Cs]
theorem zrc {d off:Nat}(h:p.a+off<sz p.b)(a:sz p.b≤65536):Ii sz (E6 d p.p (-1) off) s=some (s.put d (pl s.m p off)):=by
 rw[Zw (b:=p.b) (n:=p.a+off) rfl (Q2 (by omega)) h];rfl
theorem W7 {v i off:Nat}(h:p.a+off+(s.r i).toNat<sz p.b)(a:sz p.b≤65536):Ii sz (Ff p.p i off v) s=some (s.sto p.b (p.a+(off+(s.r i).toNat)) (s.r v)):=by
 rw[opZ_st (b:=p.b) (n:=p.a+off+(s.r i).toNat) rfl (V1 (by omega)) h,Cs]
theorem zpq {v off:Nat}(h:p.a+off<sz p.b)(a:sz p.b≤65536):Ii sz (Ff p.p (-1) off v) s=some (s.sto p.b (p.a+off) (s.r v)):=by
 rw[opZ_st0 (b:=p.b) (n:=p.a+off) rfl (Q2 (by omega)) h]
end ls
end Go.Sv
namespace Go.Sv
theorem zf0 (b:Bool):(F2 b).toNat=b.toNat:=by cases b<;>rfl
theorem Xx (b:Bool):decide (F2 b%2=1)=b:=by cases b<;>decide
theorem Zp {x y w m:UInt64}{hi lo p q f g:UInt64}{a d:Bool}(l:hi=R4 x y)(o:lo=x*y)(r:I3 lo w false=(p,a))(s:I3 p m false=(q,d))(z:f=hi+F2 a)(A:g=f+F2 d) :
  q.toNat+18446744073709551616*g.toNat=x.toNat*y.toNat+w.toNat+m.toNat:=by
 have B:=zy2 x y;have h:=zm0 lo w false;have j:=zm0 p m false;rw[r] at h;rw[s] at j;subst l o z A;simp only[Bool.toNat_false,C6] at h j;have C:x.toNat*y.toNat≤18446744073709551615*18446744073709551615:=Ca (by have:=x.toNat_lt;omega) (by have:=y.toNat_lt;omega);have D:=w.toNat_lt;have E:=m.toNat_lt;have F:=q.toNat_lt;have d1:a.toNat≤1:=by cases a<;>decide
 have d2:d.toNat≤1:=by cases d<;>decide
 have f1:((R4 x y)+F2 a).toNat=(R4 x y).toNat+a.toNat:=by
  rw[Bu,zf0,Bg];omega
 have f2:((R4 x y)+F2 a+F2 d).toNat=(R4 x y).toNat+a.toNat+d.toNat:=by
  rw[Bu,f1,zf0,Bg];omega
 rw[f2];omega
section mu
variable {sz : Nat → Nat}
def Jr (R z:Nat):Prop:=R+3≤z∧z≤R+9
theorem zxf {s:Fs}{R a b:Nat}(f:s.r R=0):Tx sz (E4 (Fw R a b)) s fun d=>d.m=s.m∧(d.r (R+6)).toNat+18446744073709551616*(d.r (R+3)).toNat=(s.r a).toNat*(s.r b).toNat+(s.r (R+7)).toNat+(s.r (R+3)).toNat∧∀z,(¬Jr R z∨z=R+4∨z=R+7)→d.r z=s.r z:=by
 have e:Fw (R:Int) a b=[Fu ((R+5:Nat):Int) ((R+6:Nat):Int) (a:Nat) (b:Nat),Fj 11 ((R+6:Nat):Int) ((R+8:Nat):Int) ((R+6:Nat):Int) ((R+7:Nat):Int) (R:Nat),Fj 11 ((R+6:Nat):Int) ((R+9:Nat):Int) ((R+6:Nat):Int) ((R+3:Nat):Int) (R:Nat),Ew 3 ((R+5:Nat):Int) ((R+5:Nat):Int) ((R+8:Nat):Int),Ew 3 ((R+3:Nat):Int) ((R+5:Nat):Int) ((R+9:Nat):Int)]:=rfl;rw[e];unfold Jr at *;refine .op zj2 (.op zrn (.op zrn (.op zdv (.op zdv (.nil ⟨rfl,?_,fun z p=>?_⟩)))))
 ·simp[Ez,f,-UInt64.toNat_add];exact Zp (x:=s.r a) (y:=s.r b) (w:=s.r (R+7)) (m:=s.r (R+3)) rfl rfl rfl rfl rfl rfl
 ·have g:¬z=R+5:=by omega
  have h:¬z=R+6:=by omega
  have j:¬z=R+8:=by omega
  have l:¬z=R+9:=by omega
  have o:¬z=R+3:=by omega
  simp[Ez,o,g,h,j,l]
theorem I4 (f:Nat→UInt64)(n:Nat):vl f (n+1)=vl f n+(f n).toNat*18446744073709551616^n:=rfl
theorem Tx.lp {s:Fs}{d n:Nat}{b:Fr Lo}{Q:Fs→Prop}(I:Nat→Fs→Prop)(h0:I 0 s)(hn:n<18446744073709551616)(h1:∀i s,i<n→I i s→Tx sz b (s.put d (UInt64.ofNat i)) (I (i+1)))(h2:∀s',I n s'→Q s'):Tx sz (Gj (d:Nat) (n:Nat) b) s Q:=by
 unfold Gj;have e:(Ks (d:Nat) (n:Nat)).imm.toNat=n:=Pg hn;split
 ·have:n=0:=by omega
  subst this;exact .nil (h2 _ h0)
 ·refine .loop I h0 (fun i s hi hI=>?_) fun s' hI=>.nil (h2 _ ?_)
  ·rw[e] at hi;exact h1 i s hi hI
  ·rw[e] at hI;exact hI
def Y5 (R D:Nat)(s a:Fs):Prop:=∀z,¬Jr R z→z≠D→a.r z=s.r z
def RgA (R D:Nat)(s a:Fs):Prop:=∀z,¬(R+2≤z∧z≤R+10)→z≠D→a.r z=s.r z
def Pn.in_ (sz:Nat→Nat)(p:Pn):Prop:=p.a+p.k≤sz p.b∧sz p.b≤65536
theorem zr1 {s:Fs}{R D j:Nat}{a t:Pn}(w:s.r R=0)(J:D<R)(m:(s.r D).toNat=j)(A:a.in_ sz)(B:t.in_ sz)(K:j<a.k)(L:j<t.k) :
  Tx sz (E4 (Ln a.p t.p R D)) s fun g=>∃q:UInt64,(∀i,pl g.m t i=if i=j then q else pl s.m t i)∧Fo t s.m g.m∧Y5 R D s g ∧
   q.toNat+18446744073709551616*(g.r (R+3)).toNat=(pl s.m a j).toNat*(s.r (R+2)).toNat+(pl s.m t j).toNat+(s.r (R+3)).toNat:=by
 obtain⟨C,l⟩:=A;obtain⟨E,f⟩:=B;have e:Ln a.p t.p R D=[E6 ((R+4:Nat):Int) a.p (D:Nat) ((0:Nat):Int),E6 ((R+7:Nat):Int) t.p (D:Nat) ((0:Nat):Int)]++(Fw R ((R+4:Nat):Int) ((R+2:Nat):Int)++[Ff t.p (D:Nat) ((0:Nat):Int) ((R+6:Nat):Int)]):=rfl;rw[e,frL_app,frL_app];have dn:∀n,n<11→¬D=R+n:=fun n h=>by omega
 refine .op (Pl (by omega) l) (.op (Pl (by simp only[Ez,Ac (dn 4 (by omega))];omega) f) ((zxf (by simp[Ez,w])).cat fun s1 ⟨m1,v1,o⟩=>?_));have d:s1.r D=s.r D:=by rw[o _ (.inl (by unfold Jr;omega))];simp[Ez,dn]
 refine .op (W7 (by rw[d];omega) f) (.nil ⟨s1.r (R+6),fun i=>?_,?_,fun z r F=>?_,?_⟩)
 ·rw[Ja,d,m,m1];simp[Gz]
 ·have:=Oh (p:=t) (s:=s1) (i:=0+(s1.r D).toNat) (v:=s1.r (R+6)) (by rw[d];omega);intro x y G;rw[this x y G,m1];rfl
 ·rw[Kd,o z (.inl r)];unfold Jr at r;have H:¬z=R+4:=by omega
  have I:¬z=R+7:=by omega
  simp[Ez,H,I]
 ·rw[Kd];simpa [Ez,Gz,dn,m] using v1
theorem X3 {W P v r T A y q r' x t:Nat}(h:v+P*r=T+A*y)(k:q+W*r'=x*y+t+r):v+q*P+P*W*r'=T+t*P+(A+x*P)*y:=by
 have a:P*(q+W*r')=P*(x*y+t+r):=by rw[k]
 grind
theorem top_law {W P v r T A y p c t:Nat}(h:v+P*r=T+A*y)(k:p+W*c=t+r):v+p*P+c*(P*W)=T+t*P+A*y:=by
 have a:P*(p+W*c)=P*(t+r):=by rw[k]
 grind
theorem Wv {s:Fs}{R k:Nat}{t:Pn}(d:s.r R=0)(f:t.in_ sz)(hk:k+2≤t.k)(r:Fr Lo)(Q:Fs→Prop)
  (h:∀(s1:Fs) (c:Bool),s1.m=s.m→s1.r (R+8)=F2 c→(s1.r (R+7)).toNat+18446744073709551616*c.toNat=(pl s.m t k).toNat+(s.r (R+3)).toNat→(∀z,z≠R+7→z≠R+8→s1.r z=s.r z)→Tx sz r s1 Q) :
  Tx sz ((E4 (Gr t.p k R)).cat r) s Q:=by
 obtain⟨g,a⟩:=f;have e:Gr t.p k R=[E6 ((R+7:Nat):Int) t.p (-1) (k:Nat),Fj 11 ((R+7:Nat):Int) ((R+8:Nat):Int) ((R+7:Nat):Int) ((R+3:Nat):Int) (R:Nat)]:=rfl;rw[e];refine .op (zrc (by omega) a) (.op zrn ?_);refine h _ (I3 (pl s.m t k) (s.r (R+3)) false).2 rfl ?_ ?_ fun z j l=>?_
 ·simp[Ez,d]
 ·have:=zm0 (pl s.m t k) (s.r (R+3)) false;simpa [Ez,d] using this
 ·simp[Ez,j,l]
theorem Vi {s:Fs}{R D i k:Nat}{a b t:Pn}(K:s.r R=0)(L:D<R)(hi:(s.r i).toNat<b.k)(M:b.in_ sz)(N:a.in_ sz)(C:t.in_ sz)(hk:k≤a.k)(x:k+2≤t.k)(O:Dj t a)(hW:sz t.b≤65536) :
  Tx sz (Li a.p b.p t.p k R D i) s fun o=>RgA R D s o∧Fo t s.m o.m∧vl (pl o.m t) (k+2)=vl (pl s.m t) (k+1)+vl (pl s.m a) k*(pl s.m b (s.r i).toNat).toNat∧(pl o.m t (k+1)).toNat≤1:=by
 have e:Li a.p b.p t.p k R D i=(E4 [E6 ((R+2:Nat):Int) b.p (i:Nat) ((0:Nat):Int),cK ((R+3:Nat):Int) 0]).cat ((Gj (D:Nat) (k:Nat) (E4 (Ln a.p t.p R D))).cat ((E4 (Gr t.p k R)).cat (E4 [Ff t.p (-1) (k:Nat) ((R+7:Nat):Int),Ff t.p (-1) ((k+1:Nat):Int) ((R+8:Nat):Int)]))):=by
  rw[←frL_app];rfl
 rw[e];obtain⟨P,y⟩:=M;have l:=C;obtain⟨Q,m⟩:=C;have dn:∀n,n<11→¬D=R+n:=fun n h=>by omega
 refine .op (Pl (by omega) y) (.op Nk ?_);rw[show ∀g:Fr Lo,Fr.cat (E4 []) g=g from fun _=>rfl];generalize d:(Fs.put (s.put (R+2) (pl s.m b (0+(s.r i).toNat))) (R+3) 0)=s0;have E:s0.m=s.m:=by rw[←d];rfl
 have S:s0.r (R+2)=pl s.m b (s.r i).toNat:=by rw[←d];simp[Ez]
 have T:s0.r (R+3)=0:=by rw[←d];simp[Ez]
 have F:∀z,z≠R+2→z≠R+3→s0.r z=s.r z:=fun z U V=>by rw[←d];simp[Ez,U,V]
 have G:s0.r R=0:=by rw[F R (by omega) (by omega),K]
 refine .cat (R:=fun s1=>Y5 R D s0 s1∧Fo t s.m s1.m∧(∀i,k≤i→pl s1.m t i=pl s.m t i)∧vl (pl s1.m t) k+18446744073709551616^k*(s1.r (R+3)).toNat=vl (pl s.m t) k+vl (pl s.m a) k*(s0.r (R+2)).toNat) ?_ fun s1 ⟨g1,p,w,v1⟩=>?_
 ·refine .lp (fun j s1=>Y5 R D s0 s1∧Fo t s.m s1.m∧(∀i,j≤i→pl s1.m t i=pl s.m t i)∧vl (pl s1.m t) j+18446744073709551616^j*(s1.r (R+3)).toNat=vl (pl s.m t) j+vl (pl s.m a) j*(s0.r (R+2)).toNat) ⟨fun _ _ _=>rfl,fun _ _ _=>by rw[E],fun _ _=>by rw[E],by simp[vl,T]⟩ (by omega) (fun j s1 hj ⟨g1,p,w,v1⟩=>?_) fun _ h=>h
  have f:∀z,¬Jr R z→z≠D→(s1.put D (UInt64.ofNat j)).r z=s0.r z:=fun z a b=>by rw[Ez,Ac b,g1 z a b]
  have W:(s1.put D (UInt64.ofNat j)).r (R+3)=s1.r (R+3):=by rw[Ez,Ac (by omega)]
  refine (zr1 (j:=j) (by rw[f _ (by unfold Jr;omega) (by omega),G]) L (by simp[Ez];omega) N l (by omega) (by omega)).mono fun s2 ⟨q,A,X,Y,H⟩=>⟨fun z a b=>(Y z a b).trans (f z a b),p.trans X,fun i hi=>?_,?_⟩
  ·rw[A,Ac (by omega)];exact w i (by omega)
  ·rw[f _ (by unfold Jr;omega) (by omega),Gz,p.pl O (by omega),w j (by omega),W] at H;rw[I4,I4,I4,A,Ag rfl,Bi,Nn (g:=pl s1.m t) fun i hi=>by rw[A,Ac (by omega)];rfl];exact X3 v1 H
 ·refine Wv (by rw[g1 _ (by unfold Jr;omega) (by omega),G]) l x _ _ fun s2 c I J v2 Z=>?_
  refine .op (zpq (by omega) m) (.op (zpq (by omega) m) (.nil ⟨fun z hz B=>?_,?_,?_,?_⟩))
  ·rw[Kd,Kd,Z z (by omega) (by omega),g1 z (by unfold Jr;omega) B,F z (by omega) (by omega)]
  ·exact p.trans (I ▸ (Oh (by omega)).trans (Oh (by omega)))
  ·rw[I4,I4,I4,Ja,Ja,Ja,Ag rfl,Ac (by omega),Ag rfl,Kd,J,zf0,Nn (g:=pl s1.m t) fun i hi=>by rw[Ja,Ac (by omega),Ja,Ac (by omega),I],Bi,←S];rw[w k (by omega)] at v2;exact top_law v1 v2
  ·rw[Ja,Ag rfl,Kd,J,zf0];cases c<;>decide
theorem zul {s:Fs}{R D j:Nat}{n t:Pn}(w:s.r R=0)(H:D<R)(m:(s.r D).toNat=j)(g:n.in_ sz)(A:t.in_ sz)(I:j+1<n.k)(J:j+1<t.k) :
  Tx sz (E4 (Mm n.p t.p R D)) s fun f=>∃q:UInt64,(∀i,pl f.m t i=if i=j then q else pl s.m t i)∧Fo t s.m f.m∧Y5 R D s f ∧
   q.toNat+18446744073709551616*(f.r (R+3)).toNat=(s.r (R+10)).toNat*(pl s.m n (j+1)).toNat+(pl s.m t (j+1)).toNat+(s.r (R+3)).toNat:=by
 obtain⟨B,l⟩:=g;obtain⟨C,d⟩:=A;have e:Mm n.p t.p R D=[E6 ((R+4:Nat):Int) n.p (D:Nat) ((1:Nat):Int),E6 ((R+7:Nat):Int) t.p (D:Nat) ((1:Nat):Int)]++(Fw R ((R+10:Nat):Int) ((R+4:Nat):Int)++[Ff t.p (D:Nat) ((0:Nat):Int) ((R+6:Nat):Int)]):=rfl;rw[e,frL_app,frL_app];have dn:∀n,n<11→¬D=R+n:=fun n h=>by omega
 refine .op (Pl (by omega) l) (.op (Pl (by simp only[Ez,Ac (dn 4 (by omega))];omega) d) ((zxf (by simp[Ez,w])).cat fun s1 ⟨m1,v1,o⟩=>?_));have a:s1.r D=s.r D:=by rw[o _ (.inl (by unfold Jr;omega))];simp[Ez,dn]
 refine .op (W7 (by rw[a];omega) d) (.nil ⟨s1.r (R+6),fun i=>?_,?_,fun z r E=>?_,?_⟩)
 ·rw[Ja,a,m,m1];simp[Gz]
 ·have:=Oh (p:=t) (s:=s1) (i:=0+(s1.r D).toNat) (v:=s1.r (R+6)) (by rw[a];omega);intro x y g;rw[this x y g,m1];rfl
 ·rw[Kd,o z (.inl r)];unfold Jr at r;have F:¬z=R+4:=by omega
  have G:¬z=R+7:=by omega
  simp[Ez,F,G]
 ·rw[Kd];simpa [Ez,Gz,dn,m,Nat.add_comm 1] using v1
theorem zvu {W P v r T N m q r' x t:Nat}(h:W*v+P*W*r=T+m*N)(k:q+W*r'=m*x+t+r):W*(v+q*P)+P*W*W*r'=T+t*(P*W)+m*(N+x*(P*W)):=by
 have a:P*W*(q+W*r')=P*W*(m*x+t+r):=by rw[k]
 grind
theorem Xj {W P v r T N m p c t u:Nat}(h:W*v+P*W*r=T+m*N)(k:p+W*c=t+r):W*(v+p*P+(u+c)*(P*W))=T+t*(P*W)+u*(P*W*W)+m*N:=by
 have a:P*W*(p+W*c)=P*W*(t+r):=by rw[k]
 grind
theorem Zo {t i n q h:UInt64}(hi:i*n+1=0)(e:q.toNat+18446744073709551616*h.toNat=(t*i).toNat*n.toNat+t.toNat):q.toNat=0:=by
 have a:(t*i*n+t).toNat=0:=by
  rw[show t*i*n+t=t*(i*n+1) by grind,hi];simp
 rw[Bu,Ea] at a;have:=q.toNat_lt;omega
theorem down_ex {s:Fs}{R D k:Nat}{n t:Pn}(J:s.r R=0)(Q:D<R)(hinv:s.r (R+1)*pl s.m n 0+1=0)(K:n.in_ sz)(L:t.in_ sz)(hk:k+1≤n.k)(S:k+3≤t.k)(T:Dj t n)(hc:(pl s.m t (k+2)).toNat≤1) :
  Tx sz (Ls n.p t.p (k+1:Nat) R D) s fun y=>RgA R D s y∧Fo t s.m y.m∧pl y.m t (k+2)=pl s.m t (k+2)∧∃m:UInt64,18446744073709551616*vl (pl y.m t) (k+2)=vl (pl s.m t) (k+3)+m.toNat*vl (pl s.m n) (k+1):=by
 have C:((k+1:Nat):Int) - 1=(k:Nat):=by omega
 have e:Ls n.p t.p (k+1:Nat) R D=(E4 ([E6 ((R+7:Nat):Int) t.p (-1) ((0:Nat):Int),Fu ((R+5:Nat):Int) ((R+10:Nat):Int) ((R+7:Nat):Int) ((R+1:Nat):Int),E6 ((R+4:Nat):Int) n.p (-1) ((0:Nat):Int),cK ((R+3:Nat):Int) 0]++Fw R ((R+10:Nat):Int) ((R+4:Nat):Int))).cat
   ((Gj (D:Nat) (k:Nat) (E4 (Mm n.p t.p R D))).cat ((E4 (Gr t.p (k+1:Nat) R)).cat (E4 [Ff t.p (-1) (k:Nat) ((R+7:Nat):Int),E6 ((R+7:Nat):Int) t.p (-1) ((k+2:Nat):Int),Ew 3 ((R+7:Nat):Int) ((R+7:Nat):Int) ((R+8:Nat):Int),Ff t.p (-1) ((k+1:Nat):Int) ((R+7:Nat):Int)]))):=by
  rw[←frL_app,←C];rfl
 rw[e];have E:=K;have w:=L;obtain⟨U,d⟩:=K;obtain⟨V,f⟩:=L;have dn:∀n,n<11→¬D=R+n:=fun n h=>by omega
 rw[frL_app];refine Tx.cat (R:=fun s1=>(∀z,¬Jr R z→z≠R+10→s1.r z=s.r z)∧s1.m=s.m∧18446744073709551616*(s1.r (R+3)).toNat=(s1.r (R+10)).toNat*(pl s.m n 0).toNat+(pl s.m t 0).toNat) ?_ fun s1 ⟨g1,m1,v1⟩=>?_
 ·refine .op (zrc (by omega) f) (.op zj2 (.op (zrc (by omega) d) (.op Nk ((zxf (by simp[Ez,J])).mono fun s1 ⟨m1,v1,M⟩=>⟨fun z F l=>?_,?_,?_⟩))))
  ·rw[M z (.inl F)];unfold Jr at F;have W:¬z=R+3:=by omega
   have X:¬z=R+4:=by omega
   have Y:¬z=R+5:=by omega
   have G:¬z=R+7:=by omega
   simp[Ez,W,X,Y,G,l]
  ·rw[m1];rfl
  ·have x:=M (R+10) (.inl (by unfold Jr;omega));simp[Ez,Gz] at v1 x;rw[x];have:=Zo (t:=pl s.m t 0) hinv (by simpa using v1);rw[Ea,show (2:Nat)^64=18446744073709551616 from rfl];rw[this,Be] at v1;exact v1
 have N:s1.r R=0:=by rw[g1 R (by unfold Jr;omega) (by omega),J]
 refine .cat (R:=fun s2=>Y5 R D s1 s2∧Fo t s.m s2.m∧(∀i,k≤i→pl s2.m t i=pl s.m t i)∧18446744073709551616*vl (pl s2.m t) k+18446744073709551616^k*18446744073709551616*(s2.r (R+3)).toNat=vl (pl s.m t) (k+1)+(s1.r (R+10)).toNat*vl (pl s.m n) (k+1)) ?_ fun s2 ⟨g2,A,o,v2⟩=>?_
 ·refine .lp (fun j s2=>Y5 R D s1 s2∧Fo t s.m s2.m∧(∀i,j≤i→pl s2.m t i=pl s.m t i)∧18446744073709551616*vl (pl s2.m t) j+18446744073709551616^j*18446744073709551616*(s2.r (R+3)).toNat=vl (pl s.m t) (j+1)+(s1.r (R+10)).toNat*vl (pl s.m n) (j+1)) ⟨fun _ _ _=>rfl,fun _ _ _=>by rw[m1],fun _ _=>by rw[m1],by simp[vl];omega⟩ (by omega) (fun j s2 hj ⟨g2,A,o,v2⟩=>?_) fun _ h=>h
  have d:∀z,¬Jr R z→z≠D→(s2.put D (UInt64.ofNat j)).r z=s1.r z:=fun z a b=>by rw[Ez,Ac b,g2 z a b]
  have Z:(s2.put D (UInt64.ofNat j)).r (R+3)=s2.r (R+3):=by rw[Ez,Ac (by omega)]
  refine (zul (j:=j) (by rw[d _ (by unfold Jr;omega) (by omega),N]) Q (by simp[Ez];omega) E w (by omega) (by omega)).mono fun s3 ⟨q,H,e2,e3,O⟩=>⟨fun z a b=>(e3 z a b).trans (d z a b),A.trans e2,fun i hi=>?_,?_⟩
  ·rw[H,Ac (by omega)];exact o i (by omega)
  ·rw[d _ (by unfold Jr;omega) (by omega),Gz,A.pl T (by omega),o (j+1) (by omega),Z] at O;rw[I4,I4 _ (j+1),I4 _ (j+1),H,Ag rfl,Bi,Nn (g:=pl s2.m t) fun i hi=>by rw[H,Ac (by omega)];rfl];exact zvu v2 O
 ·refine Wv (by rw[g2 _ (by unfold Jr;omega) (by omega),N]) w (by omega) _ _ fun s3 c B c3 P r3=>?_
  refine .op (zpq (by omega) f) (.op (zrc (by omega) f) (.op zdv (.op (zpq (by omega) f) (.nil ⟨fun z F l=>?_,?_,?_,s1.r (R+10),?_⟩))))
  ·have G:¬z=R+7:=by omega
   simp only[Kd,Ez,Ac G];rw[r3 z (by omega) (by omega),g2 z (by unfold Jr;omega) l,g1 z (by unfold Jr;omega) (by omega)]
  ·exact A.trans (B ▸ (Oh (by omega)).trans (Oh (p:=t) (by omega)))
  ·rw[Ja,Ac (by omega),Gz,Gz,Ja,Ac (by omega),B,o (k+2) (by omega)]
  ·rw[o (k+1) (by omega)] at P;have I:((pl s.m t (k+2))+F2 c).toNat=(pl s.m t (k+2)).toNat+c.toNat:=by
    rw[Bu,zf0,Bg];have:c.toNat≤1:=by cases c<;>decide
    omega
   rw[I4 _ (k+2),I4 _ (k+1),I4 _ (k+1),I4 _ k,Nn (g:=pl s2.m t) (n:=k) fun i hi=>by rw[Ja,Ac (by omega),Gz,Gz,Ja,Ac (by omega),B]];have hu:=o (k+2) (by omega);simp[Ez,Gz,Kd,Ja,c3,-UInt64.toNat_add,B];rw[hu,I,Bi,Bi];exact Xj v2 P
theorem zck {W P v n t c q x y b:Nat}(h:v+n=t+P*c)(k:q+x+c=y+W*b):v+q*P+(n+x*P)=t+y*P+P*W*b:=by
 have a:P*(q+x+c)=P*(y+W*b):=by rw[k]
 grind
theorem zok {s:Fs}{R D j:Nat}{n t:Pn}{c:Bool}(B:D<R)(a:(s.r D).toNat=j)(g:s.r (R+8)=F2 c)(l:n.in_ sz)(m:t.in_ sz)(C:j<n.k)(E:j<t.k)(x:List Lo)(Q:Fs→Prop)
  (h:∀(s1:Fs) (b:Bool),s1.m=s.m→s1.r (R+8)=F2 b→s1.r (R+7)=pl s.m t j→(s1.r (R+6)).toNat+(pl s.m n j).toNat+c.toNat=(pl s.m t j).toNat+18446744073709551616*b.toNat→(∀z,¬Jr R z→s1.r z=s.r z)→Tx sz (E4 x) s1 Q) :
  Tx sz (E4 (L9 n.p t.p R D++x)) s Q:=by
 obtain⟨o,d⟩:=l;obtain⟨p,f⟩:=m;have e:L9 n.p t.p R D++x=E6 ((R+7:Nat):Int) t.p (D:Nat) ((0:Nat):Int)::E6 ((R+4:Nat):Int) n.p (D:Nat) ((0:Nat):Int)::Fj 12 ((R+6:Nat):Int) ((R+8:Nat):Int) ((R+7:Nat):Int) ((R+4:Nat):Int) ((R+8:Nat):Int)::x:=rfl;rw[e];have dn:∀n,n<11→¬D=R+n:=fun n h=>by omega
 refine .op (Pl (by omega) f) (.op (Pl (by simp only[Ez,Ac (dn 7 (by omega))];omega) d) (.op zj0 ?_));have hv:=ze1 (pl s.m t j) (pl s.m n j) c;refine h _ (Gt (pl s.m t j) (pl s.m n j) c).2 rfl ?_ ?_ ?_ fun z q=>?_
 ·simp[Ez,Gz,dn,a,g,Xx]
 ·simp[Ez,Gz,dn,a]
 ·simpa [Ez,Gz,dn,a,g,Xx] using hv
 ·unfold Jr at q;have r:¬z=R+4:=by omega
  have w:¬z=R+6:=by omega
  have y:¬z=R+7:=by omega
  have A:¬z=R+8:=by omega
  simp[Ez,r,w,y,A]
theorem less_ex {s:Fs}{R D k:Nat}{n t:Pn}(l:D<R)(f:n.in_ sz)(m:t.in_ sz)(hk:k≤n.k)(o:k≤t.k) :
  Tx sz (N0 n.p t.p k R D []) s fun g=>Y5 R D s g∧g.m=s.m∧∃(c:Bool) (v:Nat),g.r (R+8)=F2 c∧v<18446744073709551616^k∧v+vl (pl s.m n) k=vl (pl s.m t) k+18446744073709551616^k*c.toNat:=by
 have p:k<18446744073709551616:=by have:=f.1;have:=f.2;omega
 have e:N0 n.p t.p k R D []=(E4 [cK ((R+8:Nat):Int) 0]).cat (Gj (D:Nat) (k:Nat) (E4 (L9 n.p t.p R D++[]))):=rfl;rw[e];refine .op Nk ?_;refine .lp (fun j s1=>Y5 R D s s1∧s1.m=s.m∧∃(c:Bool) (v:Nat),s1.r (R+8)=F2 c∧v<18446744073709551616^j∧v+vl (pl s.m n) j=vl (pl s.m t) j+18446744073709551616^j*c.toNat) ⟨fun z d _=>?_,rfl,false,0,by simp[Ez,F2],by simp,by simp[vl]⟩ p (fun j s1 A ⟨g1,m1,c,v,q,B,v1⟩=>?_) fun _ h=>h
 ·unfold Jr at d;rw[Ez,Ac (by omega)]
 ·refine zok (j:=j) (c:=c) l (by simp[Ez];omega) (by rw[Ez,Ac (by omega),q]) f m (by omega) (by omega) _ _ fun s2 b r w t2 v2 x=>.nil ⟨fun z d a=>?_,by rw[r,Gz,m1],b,v+(s2.r (R+6)).toNat*18446744073709551616^j,w,?_,?_⟩
  ·rw[x z d,Ez,Ac a,g1 z d a]
  ·have:=(s2.r (R+6)).toNat_lt;have y:=At (18446744073709551616^j) (show (s2.r (R+6)).toNat+1≤18446744073709551616 by omega);rw[Bb,Cm] at y;rw[Bi,Bz (18446744073709551616^j)];omega
  ·rw[Gz,m1] at v2;rw[I4,I4,Bi];exact zck v1 v2
def DjE (p q:Pn):Prop:=Dj p q∨(p.b=q.b∧p.a=q.a)
theorem DjE.sto {d n:Pn}{s:Fs}{v:UInt64}{i j:Nat}(h:DjE d n)(hj:j<d.k)(hi:i<n.k)(aa:i≠j):pl (s.sto d.b (d.a+j) v).m n i=pl s.m n i:=by
 rcases h with h | ⟨e1,e2⟩
 ·exact (Oh hj).pl h hi
 ·unfold pl;rw[Qs,Ac (by omega)]
theorem pick_ex {s:Fs}{R D k:Nat}{d n t:Pn}{p:Bool}(F:D<R)(G:s.r (R+10)=F2 p)(q:n.in_ sz)(H:t.in_ sz)(hd:d.in_ sz)(hk:k≤n.k)(I:k≤t.k)(J:k≤d.k)(dn:DjE d n)(C:Dj d t) :
  Tx sz (N0 n.p t.p k R D [F1 (R+6) (R+10) (R+7) (R+6),Ff d.p D 0 (R+6)]) s fun w=>Y5 R D s w∧Fo d s.m w.m∧∃(c:Bool) (v:Nat),v<18446744073709551616^k∧v+vl (pl s.m n) k=vl (pl s.m t) k+18446744073709551616^k*c.toNat∧vl (pl w.m d) k=if p=true then vl (pl s.m t) k else v:=by
 have K:k<18446744073709551616:=by have:=q.1;have:=q.2;omega
 have e:N0 n.p t.p k R D [F1 (R+6) (R+10) (R+7) (R+6),Ff d.p D 0 (R+6)]=(E4 [cK ((R+8:Nat):Int) 0]).cat (Gj (D:Nat) (k:Nat) (E4 (L9 n.p t.p R D++[F1 ((R+6:Nat):Int) ((R+10:Nat):Int) ((R+7:Nat):Int) ((R+6:Nat):Int),Ff d.p (D:Nat) ((0:Nat):Int) ((R+6:Nat):Int)]))):=rfl;rw[e];refine .op Nk ?_;refine .lp (fun j s1=>Y5 R D s s1∧Fo d s.m s1.m∧∃(c:Bool) (v:Nat),s1.r (R+8)=F2 c∧v<18446744073709551616^j∧v+vl (pl s.m n) j=vl (pl s.m t) j+18446744073709551616^j*c.toNat∧vl (pl s1.m d) j=(if p=true then vl (pl s.m t) j else v)∧∀i,j≤i→i<n.k→pl s1.m n i=pl s.m n i) ⟨fun z f _=>?_,fun _ _ _=>rfl,false,0,by simp[Ez,F2],by simp,by simp[vl],by simp[vl],fun _ _ _=>rfl⟩ K (fun j s1 T ⟨g1,x,c,v,L,U,v1,d1,E⟩=>?_) fun _ ⟨M,N,c,v,_,y,O,P,_⟩=>⟨M,N,c,v,y,O,P⟩
 ·unfold Jr at f;rw[Ez,Ac (by omega)]
 ·refine zok (j:=j) (c:=c) F (by simp[Ez];omega) (by rw[Ez,Ac (by omega),L]) q H (by omega) (by omega) _ _ fun s2 b m Q t2 v2 A=>?_
  have S:(s2.r D).toNat=j:=by rw[A D (by unfold Jr;omega)];simp[Ez];omega
  rw[Gz] at t2 v2 m;rw[E j (Am _) (by omega),x.pl C (by omega)] at v2;rw[x.pl C (by omega)] at t2;have B:s2.r (R+10)=F2 p:=by rw[A _ (by unfold Jr;omega),Ez,Ac (by omega),g1 _ (by unfold Jr;omega) (by omega),G]
  refine .op zm9 (.op (W7 (by simp only[Ez];rw[Ac (by omega)];have:=hd.1;omega) hd.2) (.nil ⟨fun z f h=>?_,?_,b,v+(s2.r (R+6)).toNat*18446744073709551616^j,?_,?_,?_,?_,fun i hi l=>?_⟩))
  ·rw[Kd,Ez,Ac (by unfold Jr at f;omega),A z f,Ez,Ac h,g1 z f h]
  ·refine x.trans (m ▸ ?_);exact Oh (p:=d) (s:=s2.put _ _) (by rw[Ez,Ac (by omega)];omega)
  ·rw[Kd,Ez,Ac (by omega),Q]
  ·have:=(s2.r (R+6)).toNat_lt;have y:=At (18446744073709551616^j) (show (s2.r (R+6)).toNat+1≤18446744073709551616 by omega);rw[Bb,Cm] at y;rw[Bi,Bz (18446744073709551616^j)];omega
  ·rw[I4,I4,Bi];exact zck v1 v2
  ·have a:0+((s2.put (R+6) (if s2.r (R+10)%2=1 then s2.r (R+7) else s2.r (R+6))).r D).toNat=j:=by rw[Ez,Ac (by omega)];omega
   rw[I4,a,Ja,Ag rfl,Nn (g:=pl s1.m d) (n:=j) fun i hi=>by rw[Ja,Ac (by omega),Gz,m],d1,Ez,Ag rfl,B,t2];have o:=Xx p;cases p
   ·simp at o;simp[o]
   ·simp at o;simp[o,I4]
  ·have a:0+((s2.put (R+6) (if s2.r (R+10)%2=1 then s2.r (R+7) else s2.r (R+6))).r D).toNat=j:=by rw[Ez,Ac (by omega)];omega
   rw[a,dn.sto (by omega) l (by omega),Gz,m];exact E i (by omega) l
theorem Uh {P V N t c b v e:Nat}{W q:Nat}(j:N<P)(l:V+t*P<2*N)(hv:v<P)(a:c≤1)(d:b≤1)(h:v+N=V+P*c)(k:q+c=t+W*b)(m:q<W)(g:e+N=V+P*c):(V+t*P<N↔b=1)∧(b=1→t=0)∧(b=0→e=V+t*P - N):=by
 have f:t≤1:=by
  rcases C5 t 2 with h | h
  ·omega
  ·have:=At P h;omega
 have f:t=0∨t=1:=by omega
 have a:c=0∨c=1:=by omega
 have d:b=0∨b=1:=by omega
 rcases f with rfl | rfl<;>rcases a with rfl | rfl<;>rcases d with rfl | rfl<;>simp at *<;>omega
theorem last_ex {s:Fs}{R D k:Nat}{d n t:Pn}(x:s.r R=0)(o:D<R)(q:n.in_ sz)(f:t.in_ sz)(hd:d.in_ sz)(hk:k≤n.k)(y:k+1≤t.k)(g:k≤d.k)(dn:DjE d n)(A:Dj d t)(r:vl (pl s.m t) (k+1)<2*vl (pl s.m n) k) :
  Tx sz (Pp d.p n.p t.p k R D) s fun h=>RgA R D s h∧Fo d s.m h.m∧vl (pl h.m d) k=if vl (pl s.m t) (k+1)<vl (pl s.m n) k then vl (pl s.m t) (k+1) else vl (pl s.m t) (k+1) - vl (pl s.m n) k:=by
 have e:Pp d.p n.p t.p k R D=(N0 n.p t.p k R D []).cat ((E4 [E6 ((R+7:Nat):Int) t.p (-1) (k:Nat),Fj 12 ((R+6:Nat):Int) ((R+10:Nat):Int) ((R+7:Nat):Int) (R:Nat) ((R+8:Nat):Int)]).cat (N0 n.p t.p k R D [F1 (R+6) (R+10) (R+7) (R+6),Ff d.p D 0 (R+6)])):=rfl;rw[e];refine (less_ex o q f hk (by omega)).cat fun s1 ⟨g1,m1,c,v,B,C,v1⟩=>?_
 have E:=ze1 (pl s.m t k) 0 c;refine .op (zrc (by have:=f.1;omega) f.2) (.op zj0 ?_);have F:s1.r R=0:=by rw[g1 R (by unfold Jr;omega) (by omega),x]
 refine (pick_ex (p:=(Gt (pl s.m t k) 0 c).2) o ?_ q f hd hk (by omega) g dn A).mono fun M ⟨g3,G,c',N,O,j,d3⟩=>⟨fun z P a=>?_,?_,?_⟩
 ·simp[Ez,F,B,Xx,m1]
 ·rw[g3 z (by unfold Jr;omega) a];simp only[Ez];rw[Ac (by omega),Ac (by omega),Ac (by omega),g1 z (by unfold Jr;omega) a]
 ·rw[←m1];exact G
 ·simp only[Gz,m1] at j d3;rw[I4] at r ⊢;have H:=zvr (pl s.m n) k;have I:=(Gt (pl s.m t k) 0 c).1.toNat_lt;have l:c.toNat≤1:=by cases c<;>decide
  have m:c'.toNat=c.toNat:=by
   rcases c with _ | _<;>rcases c' with _ | _<;>simp at *<;>omega
  rw[m] at j;generalize (Gt (pl s.m t k) 0 c).2=b at *;have J:b.toNat≤1:=by cases b<;>decide
  obtain⟨w,K,L⟩:=Uh H r C l J v1 (by simpa using E) I j;rw[d3];cases b
  ·rw[Ac (by simp),Ac (by rw[w];simp),L rfl]
  ·rw[Ag rfl,Ag (by rw[w];rfl),K rfl];simp
theorem zqc {s:Fs}{D a:Nat}{p:Pn}(m:p.in_ sz)(g:a≠D):Tx sz (Kc p.p a D) s fun f=>(∀z,z≠D→f.r z=s.r z)∧Fo p s.m f.m∧∀i,i<p.k→pl f.m p i=s.r a:=by
 have e:Kc p.p a D=Gj (D:Nat) (p.k:Nat) (E4 [Ff p.p (D:Nat) ((0:Nat):Int) (a:Nat)]):=rfl;rw[e];obtain⟨w,o⟩:=m;refine .lp (fun j s1=>(∀z,z≠D→s1.r z=s.r z)∧Fo p s.m s1.m∧∀i,i<j→pl s1.m p i=s.r a) ⟨fun _ _=>rfl,fun _ _ _=>rfl,fun _ h=>absurd h (by omega)⟩ (by omega) (fun j s1 x ⟨g1,q,v1⟩=>?_) fun _ h=>h
 have d:((s1.put D (UInt64.ofNat j)).r D).toNat=j:=by simp[Ez];omega
 refine .op (W7 (by rw[d];omega) o) (.nil ⟨fun z l=>?_,?_,fun i hi=>?_⟩)
 ·rw[Kd,Ez,Ac l,g1 z l]
 ·exact q.trans (Oh (p:=p) (s:=s1.put _ _) (by rw[d];omega))
 ·rw[Ja,d];split
  ·rw[Ez,Ac g,g1 a g]
  ·rw[Gz];exact v1 i (by omega)
theorem zhx {f:Nat→UInt64}:∀{n:Nat},(∀i,i<n→f i=0)→vl f n=0
 |0,_=>rfl
 |n+1,h=>by rw[vl,zhx fun i hi=>h i (by omega),h n (by omega)];simp
theorem zy1 {W P A B Q N V a X b m:Nat}(h:P*V=A*B+Q*N)(d:X=V+A*b)(f:W*a=X+m*N):P*W*a=A*(B+b*P)+(Q+m*P)*N:=by
 have:P*(W*a)=P*(V+A*b+m*N):=by rw[f,d]
 grind
theorem Uz {W A N V a X b m:Nat}(g:V<2*N)(h:A<N)(j:b<W)(hm:m<W)(d:X=V+A*b)(f:W*a=X+m*N):a<2*N:=by
 have g1:A*b≤N*(W - 1):=Ca (by omega) (by omega);have g2:m*N≤(W - 1)*N:=At _ (by omega);have g3:(W - 1)*N+N=W*N:=by
  rw[←D5];congr 1;omega
 rw[Bz N] at g1;have g4:W*a<W*(2*N):=by
  rw[f,d,Nat.mul_left_comm];omega
 exact Nat.lt_of_mul_lt_mul_left g4
theorem Z6 {s:Fs}{R D k:Nat}{d a b n t:Pn}(hD:D+1<R)(hd:d.in_ sz)(X:a.in_ sz)(Y:b.in_ sz)(B:n.in_ sz)(E:t.in_ sz)(Z:k+1≤d.k)(O:k+1≤a.k)(kb:k+1≤b.k)(q:k+1≤n.k)(P:k+3≤t.k)
  (dn:DjE d n) (dt:Dj d t) (S:Dj t a) (tb:Dj t b) (w:Dj t n) (L:pl s.m n 0%2=1) (hA:vl (pl s.m a) (k+1)<vl (pl s.m n) (k+1)) :
  Tx sz (O2 d.p a.p b.p n.p t.p (k+1:Nat) R D) s fun H=>(∀z,¬(R≤z∧z≤R+10)→z≠D→z≠D+1→H.r z=s.r z)∧(∀x y,¬(x=d.b∧d.a≤y∧y<d.a+d.k)→¬(x=t.b∧t.a≤y∧y<t.a+t.k)→H.m x y=s.m x y) ∧
   vl (pl H.m d) (k+1)<vl (pl s.m n) (k+1)∧∃Q Q':Nat,18446744073709551616^(k+1)*vl (pl H.m d) (k+1)+Q'*vl (pl s.m n) (k+1)=vl (pl s.m a) (k+1)*vl (pl s.m b) (k+1)+Q*vl (pl s.m n) (k+1):=by
 have e:O2 d.p a.p b.p n.p t.p (k+1:Nat) R D=(E4 ([cK (R:Nat) 0,E6 ((R+10:Nat):Int) n.p (-1) ((0:Nat):Int)]++Mh ((R+10:Nat):Int) ((R+1:Nat):Int))).cat ((Kc t.p (R:Nat) (D:Nat)).cat ((Gj (D:Nat) (k+1:Nat) ((Li a.p b.p t.p (k+1:Nat) R ((D+1:Nat):Int) D).cat (Ls n.p t.p (k+1:Nat) R ((D+1:Nat):Int)))).cat (Pp d.p n.p t.p (k+1:Nat) R D))):=rfl;rw[e,frL_app];have M:k+1<18446744073709551616:=by have:=B.1;have:=B.2;omega
 refine Tx.cat (R:=fun s1=>s1.r R=0∧s1.r (R+1)*pl s.m n 0+1=0∧s1.m=s.m∧∀z,¬(R≤z∧z≤R+10)→s1.r z=s.r z) ?_ fun s1 ⟨T,I1,m1,g1⟩=>?_
 ·refine .op Nk (.op (zrc (by have:=B.1;omega) B.2) ((reck_ex (by omega)).mono fun s1 ⟨e1,e2,U⟩=>⟨?_,?_,?_,fun z hz=>?_⟩))
  ·rw[U R (by omega)];simp[Ez]
  ·rw[e1];simp only[Ez,Bs,Gz];have:=zzf _ L
   grind
  ·rw[e2];rfl
  ·rw[U z (by omega),Ez,Ac (by omega),Ez,Ac (by omega)]
 refine (zqc E (by omega)).cat fun s2 ⟨g2,V,I⟩=>?_
 have N:s2.r R=0:=by rw[g2 R (by omega),T]
 have I2:s2.r (R+1)*pl s.m n 0+1=0:=by rw[g2 (R+1) (by omega),I1]
 rw[m1] at V;rw[T] at I;refine .cat (R:=fun f=>(∀z,¬(R+2≤z∧z≤R+10)→z≠D→z≠D+1→f.r z=s2.r z)∧Fo t s.m f.m∧(pl f.m t (k+2)).toNat≤1∧vl (pl f.m t) (k+2)<2*vl (pl s.m n) (k+1)∧∃Q,18446744073709551616^(k+1)*vl (pl f.m t) (k+2)=vl (pl s.m a) (k+1)*vl (pl s.m b) (k+1)+Q*vl (pl s.m n) (k+1)) ?_ fun f ⟨g3,p,_,F,Q,C⟩=>?_
 ·refine .lp (fun i f=>(∀z,¬(R+2≤z∧z≤R+10)→z≠D→z≠D+1→f.r z=s2.r z)∧Fo t s.m f.m∧(pl f.m t (k+2)).toNat≤1∧vl (pl f.m t) (k+2)<2*vl (pl s.m n) (k+1)∧∃Q,18446744073709551616^i*vl (pl f.m t) (k+2)=vl (pl s.m a) (k+1)*vl (pl s.m b) i+Q*vl (pl s.m n) (k+1)) ⟨fun _ _ _ _=>rfl,V,by rw[I _ (by omega)];decide,?_,0,?_⟩ M (fun i f hi ⟨g3,p,c3,F,Q,C⟩=>?_) fun _ h=>h
  ·rw[zhx fun i hi=>I i (by omega)];omega
  ·rw[zhx fun i hi=>I i (by omega)];simp[vl]
  ·have G:((f.put D (UInt64.ofNat i)).r D).toNat=i:=by simp[Ez];omega
   have j:∀z,¬(R+2≤z∧z≤R+10)→z≠D→z≠D+1→(f.put D (UInt64.ofNat i)).r z=s2.r z:=fun z l g A=>by rw[Ez,Ac g,g3 z l g A]
   refine (Vi (k:=k+1) (b:=b) (i:=D) (by rw[j R (by omega) (by omega) (by omega),N]) (by omega) (by rw[G];omega) Y X E O P S E.2).cat fun s4 ⟨g4,J,v4,W⟩=>?_
   rw[Gz] at J v4;rw[G,p.pl tb (by omega),p.vl S O] at v4;have o:=p.trans J;refine (down_ex (k:=k) (by rw[g4 R (by omega) (by omega),j R (by omega) (by omega) (by omega),N]) (by omega) (by rw[g4 (R+1) (by omega) (by omega),j _ (by omega) (by omega) (by omega),o.pl w (by omega),I2]) B E q P w W).mono fun s5 ⟨g5,o5,c5,m,K⟩=>⟨fun z l g A=>?_,o.trans o5,?_,?_,Q+m.toNat*18446744073709551616^i,?_⟩
   ·rw[g5 z l A,g4 z l A,j z l g A]
   ·rw[c5];exact W
   ·rw[o.vl w q] at K;exact Uz F hA (pl s.m b i).toNat_lt m.toNat_lt v4 K
   ·rw[o.vl w q] at K;rw[Bi,I4];exact zy1 C v4 K
 ·refine (last_ex (k:=k+1) (by rw[g3 R (by omega) (by omega) (by omega),N]) (by omega) B E hd q (by omega) Z dn dt (by rw[p.vl w q];exact F)).mono fun s4 ⟨g4,J,v4⟩=>⟨fun z l g A=>?_,fun x y l g=>?_,?_,?_⟩
  ·rw[g4 z (by omega) g,g3 z (by omega) g A,g2 z g,g1 z l]
  ·rw[J x y l,p x y g]
  ·have F:vl (pl f.m t) (k+1+1)<2*vl (pl s.m n) (k+1):=F;rw[p.vl w q] at v4;rw[v4];split<;>omega
  ·have C:18446744073709551616^(k+1)*vl (pl f.m t) (k+1+1)=vl (pl s.m a) (k+1)*vl (pl s.m b) (k+1)+Q*vl (pl s.m n) (k+1):=C;rw[p.vl w q] at v4;rw[v4];split
   ·exact⟨Q,0,by rw[C];omega⟩
   ·refine⟨Q,18446744073709551616^(k+1),?_⟩;rw[←C,←Nat.mul_add,Nat.sub_add_cancel (by omega)]
end mu
end Go.Sv
namespace Go.Sv
noncomputable def secR (bs:List Bf)(m:List Bool)(o:Lo):Bool:=if o.kind=16 then false else if o.kind=14 then (Fk bs o.buf.toNat).sec else (Hr o).any (Iz m)
noncomputable def mkS (bs:List Bf)(o:Lo):List Int→List Bool×Bool→List Bool×Bool
 |[],s=>s
 |r::rs,s=>mkS bs o rs (if (!Iz s.1 r&&secR bs s.1 o)=true then (s.1.set r.toNat true,true) else s)
def Ov (ls:List Int)(m:List Bool):Prop:=∀x,0≤x→x<8→(Iz m x=true↔x∈ls)
def Gd (bs:List Bf)(S:List Int)(ls:List Int)(f:Fr Lo)(S':List Int):Prop :=
 ∀m,S0 64 m S→Ov ls m→∃a,S0 64 a S'∧Ov ls a∧(∀x,8≤x→Iz m x=true→Iz a x=true)∧∀i rest,Rn 64 bs i m ls (f.flat++rest)=Rn 64 bs (i+f.flat.length) a ls rest
theorem zn3 {x:Int}(d:0≤x):∀(mk:List Int) (m:List Bool),(∀y∈mk,0≤y∧y<m.length)→Iz m x=true→Iz (mk.foldl (fun m r=>m.set r.toNat true) m) x=true
 |[],_,_,h=>h
 |a::mk,m,j,h=>by
  have l:=j a (B5 ..);exact zn3 d mk _ (fun y o=>by rw[Ce];exact j y (Ay _ o)) ((z9w ⟨l.1,l.2⟩ d).2 (.inr h))
section gd
variable {bs : List Bf} {S S' S2 ls : List Int} {f g : Fr Lo}
theorem S0.sub {regs:Int}{m:List Bool}(h:S0 regs m S)(k:∀x∈S',x∈S):S0 regs m S':=⟨h.1,fun x hx=>h.2 x (k x hx)⟩
theorem Gd.mono (h:Gd bs S ls f S')(k1:∀x∈S,x∈S2){S3:List Int}(k2:∀x∈S3,x∈S'):Gd bs S2 ls f S3:=fun m hm hi=>by
 obtain⟨m',h1,h2,hk,h3⟩:=h m (hm.sub k1) hi;exact⟨m',h1.sub k2,h2,hk,h3⟩
theorem Gd.cat (h:Gd bs S ls f S')(k:Gd bs S' ls g S2):Gd bs S ls (f.cat g) S2:=fun m hm hi=>by
 obtain⟨m1,h1,h2,ha,h3⟩:=h m hm hi;obtain⟨m2,k1,k2,kb,k3⟩:=k m1 h1 h2;refine⟨m2,k1,k2,fun x hx hq=>kb x hx (ha x hx hq),fun i rest=>?_⟩;rw[Hq,Bo,h3,k3,Aj,Cs]
theorem Gd.nil:Gd bs S ls .nil S:=fun m hm hi=>⟨m,hm,hi,fun _ _ h=>h,fun _ _=>rfl⟩
theorem Gd.keep {T:List Int}(h:Gd bs S ls f S'):Gd bs (T++S) ls f (T++S'):=fun m hm hi=>by
 obtain⟨m',h1,h2,hk,h3⟩:=h m (hm.sub fun x hx=>Ba _ hx) hi;refine⟨m',⟨h1.1,fun x hx=>?_⟩,h2,hk,h3⟩;rcases Az.1 hx with hx | hx
 ·obtain⟨a,b,d⟩:=hm.2 x (Dk _ hx);refine⟨a,b,?_⟩;by_cases q:8≤x
  ·exact hk x q d
  ·exact (h2 x a (by omega)).2 ((hi x a (by omega)).1 d)
 ·exact h1.2 x hx
theorem Gd.keep0 (h:Gd bs [] ls f []):Gd bs S ls f S:=by
 have:=Gd.keep (T:=S) h;simpa using this
theorem Ov.fold:∀(mk:List Int) (m:List Bool),m.length=64→Ov ls m→(∀x∈mk,8≤x∧x<64)→Ov ls (mk.foldl (fun m r=>m.set r.toNat true) m)
 |[],_,_,h,_=>h
 |a::mk,m,hl,h,hr=>by
  have ha:=hr a (B5 ..);refine Ov.fold mk _ (by simpa using hl) (fun x h0 h8=>?_) fun x hx=>hr x (Ay _ hx)
  rw[←h x h0 h8,z9w ⟨by omega,by omega⟩ h0];constructor
  ·rintro (q | q)
   ·omega
   ·exact q
  ·exact .inr
theorem Gd.L (ad:∀x∈ls,x<8):∀{l:List Lo} {S:List Int},Hf 64 bs S l→(∀o∈l,∀x∈E7 o,8≤x)→Gd bs S ls (E4 l) ((l.flatMap E7)++S)
 |[],S,_,_=>fun m hm hi=>⟨m,by simpa using hm,hi,fun _ _ h=>h,fun _ _=>rfl⟩
 |o::l,S,h,hk=>fun m hm hi=>by
  obtain⟨h1,⟨h2,h3⟩,h4,h5⟩:=h;have aa:=Uc h1;have af:=hk o (B5 ..);have hs:=Xw (m:=m) (ls:=ls) h1 h2 h3 (fun x hx q=>by have:=ad x q;have:=af x hx;omega) (fun x hx=>(hm.2 x (h4 x hx)).2.2);have ag:=hm.fold (E7 o) m S aa;have ah:=hi.fold (E7 o) m (by have:=hm.1;omega) fun x hx=>⟨af x hx,(aa x hx).2⟩
  obtain⟨m',k1,k2,kk,k3⟩:=Gd.L ad h5 (fun p hp=>hk p (Ay _ hp)) _ ag ah;refine⟨m',k1.sub fun x hx=>?_,k2,fun x hx hq=>kk x hx (zn3 (by omega) _ _ (fun y hy=>by have:=aa y hy;have:=hm.1;omega) hq),fun i rest=>?_⟩
  ·simp only[Ds,Az] at hx ⊢;rcases hx with (hx | hx) | hx
   ·exact .inr (.inl hx)
   ·exact .inl hx
   ·exact .inr (.inr hx)
  ·rw[E4,Fr.flat,Bd,Rn,hs];dsimp only;rw[Ag rfl,k3,Ar]
   congr 1;omega
theorem zxt {d times:Int}(h:0≤d∧d<64)(m:1≤times∧times≤1048576):Ic 64 bs (Ks d times)=true:=by
 have a:(iU times).toNat=times.toNat:=by
  obtain⟨n,rfl⟩:=Af (show 0≤times by omega);rw[Pg (by omega)];rfl
 have j:(1:UInt64)≤iU times:=by rw[Bm,a];show 1≤_;omega
 have l:iU times≤(1048576:UInt64):=by rw[Bm,a];show _≤1048576;omega
 simp[Ic,Ks,Fi,Gg,Gh,Gq,Jo,Jj,Ge,h,j,l]
theorem fields_En:Ic 64 bs Oa=true:=by simp[Ic,Oa,Fi,Gg,Gh,Gq,Jo,Jj,Ge]
theorem zi0 {m:List Bool}{a x:Int}(d:0≤a∧a<m.length)(j:0≤x):Iz (m.set a.toNat false) x=true↔x≠a∧Iz m x=true:=by
 unfold Iz;rw[S9 _ _ _ _ _ (by omega)];by_cases e:x.toNat=a.toNat
 ·rw[Ag e];simp;intro h;omega
 ·rw[Ac e];constructor
  ·exact fun h=>⟨by rintro rfl;exact e rfl,h⟩
  ·exact fun h=>h.2
theorem Gd.loop {d times:Int}{b r:Fr Lo}{S3:List Int}(aq:ls.length<8)(hd:0≤d∧d<8)(hn:¬d∈ls)(ht:1≤times∧times≤1048576)(hb:Gd bs (d::S) (ls++[d]) b S')(hs:∀x∈S2,x∈S'∧x≠d)(hr:Gd bs S2 ls r S3):Gd bs S ls (.loop (Ks d times) b Oa r) S3:=fun m hm hi=>by
 have ap:m.length=64:=by have:=hm.1;omega
 have aa:Iz m d=false:=by
  cases q:Iz m d
  ·rfl
  ·exact absurd ((hi d hd.1 hd.2).1 q) hn
 have ad:My 64 bs m ls (Ks d times)=(0,m.set d.toNat true,ls++[d]):=by
  unfold My;rw[Ac (by rw[zxt (by omega) ht];decide),Ac (by simp[Ks]),Ac,Ac (by simp[Ks,aa]),Ac (by simp[Ks];omega),Ac (by simp[Ks,Hr])]
  ·simp[Ks,E7]
  ·simp[Ks,E7,hn]
 have af:S0 64 (m.set d.toNat true) (d::S):=by
  have:=hm.fold [d] m S (fun x hx=>by simp at hx;omega);simpa using this
 have ag:Ov (ls++[d]) (m.set d.toNat true):=fun x h0 h8=>by
  rw[z9w ⟨by omega,by omega⟩ h0,hi x h0 h8];simp[or_comm]
 obtain⟨m2,a1,a2,ak,a3⟩:=hb _ af ag;have ar:m2.length=64:=by have:=a1.1;omega
 have ah:S0 64 (m2.set d.toNat false) S2:=⟨by simpa using a1.1,fun x hx=>by
  obtain⟨h1,h2⟩:=hs x hx;obtain⟨b1,b2,b3⟩:=a1.2 x h1;exact⟨b1,b2,(zi0 ⟨by omega,by omega⟩ b1).2 ⟨h2,b3⟩⟩⟩
 have aj:Ov ls (m2.set d.toNat false):=fun x h0 h8=>by
  rw[zi0 ⟨by omega,by omega⟩ h0,a2 x h0 h8];simp only[Az,List.mem_singleton];constructor
  ·rintro⟨h1,h2 | h2⟩
   ·exact h2
   ·exact absurd h2 h1
  ·exact fun h=>⟨fun q=>hn (q ▸ h),.inl h⟩
 obtain⟨m4,c1,c2,ck,c3⟩:=hr _ ah aj;refine⟨m4,c1,c2,fun x hx hq=>ck x hx ((zi0 ⟨by omega,by omega⟩ (by omega)).2 ⟨by omega,ak x hx ((z9w ⟨by omega,by omega⟩ (by omega)).2 (.inr hq))⟩),fun i rest=>?_⟩;have ao:My 64 bs m2 (ls++[d]) Oa=(0,m2.set d.toNat false,ls):=by
  unfold My;rw[Ac (by rw[fields_En];decide),Ag (by rfl)];simp
 rw[Fr.flat,Bd,Rn,ad];dsimp only;rw[Ag rfl,Bo,a3,Bd,Rn,ao];dsimp only;rw[Ag rfl,c3,Ar,Aj,Ar]
 congr 1;omega
theorem Gd.lp {d times:Int}{b:Fr Lo}(aa:ls.length<8)(hd:0≤d∧d<8)(hn:¬d∈ls)(ad:¬d∈S)(ht:times≤1048576)(hb:Gd bs (d::S) (ls++[d]) b S')(hs:∀x∈S,x∈S'):Gd bs S ls (Gj d times b) S:=by
 unfold Gj;split
 ·exact .nil
 ·exact .loop aa hd hn (by omega) hb (fun x hx=>⟨hs x hx,fun q=>ad (q ▸ hx)⟩) .nil
theorem chkR_Gd (l:bs.length≤32)(m:f.flat.length≤65536)(d:∀b∈bs,1≤b.size∧b.size≤65536∧1≤b.kind∧b.kind≤3)(h:Gd bs [] [] f S'):Jq 64 bs f.flat=((f.flat.length:Int),0):=by
 unfold Jq;rw[Ac (by omega),Ac,Ac (by omega),Ac]
 ·obtain⟨o,_,_,_,j⟩:=h (List.replicate 64 false) ⟨by simp,by simp⟩ (fun x p q=>by
   unfold Iz;rw[Ae,List.getElem?_replicate];split<;>simp)
  have:=j 0 [];rw[Bx] at this;rw[show (64:Int).toNat=64 from rfl,this,Rn,Ag rfl,Be]
 ·rw[Bv];rintro⟨b,a,hk⟩;have:=d b a;simp at hk;omega
 ·rw[Bv];rintro⟨b,a,hk⟩;have:=d b a;simp at hk;omega
end gd
end Go.Sv
namespace Go.Sv
section w
variable {bs : List Bf} {S : List Int} {l : List Lo}
theorem Ri {d:Int}{v:UInt64}(h:0≤d∧d<64)(k:Hf 64 bs (d::S) l):Hf 64 bs S (cK d v::l):=⟨zgw h,by simp[cK],by simp[Hr,cK],k⟩
theorem zym {d e a b:Int}(h:0≤d∧d<64)(he:0≤e∧e<64)(f:0≤a∧a<64)(g:0≤b∧b<64)(j:d≠e)(m:a∈S)(o:b∈S)(k:Hf 64 bs (d::e::S) l):Hf 64 bs S (Fu d e a b::l) :=
 ⟨zci h he f g j,by simp[Fu],by simp[Hr,Fu,m,o],k⟩
theorem Uo {k' d a b:Int}(hk:3≤k'∧k'≤7)(h:0≤d∧d<64)(g:0≤a∧a<64)(j:0≤b∧b<64)(m:a∈S)(o:b∈S)(k:Hf 64 bs (d::S) l):Hf 64 bs S (Ew k' d a b::l):=by
 refine⟨zcl hk h g j,by simp[Ew];omega,fun x f=>?_,?_⟩
 ·unfold Hr Ew at f;simp only at f;rw[Ac (by omega),Ag (by omega)] at f;simp at f;rcases f with rfl | rfl
  ·exact m
  ·exact o
 ·have:E7 (Ew k' d a b)=[d]:=by unfold E7 Ew;simp only;rw[Ac (by omega),Ac (by omega)]
  rw[this];exact k
theorem zao {k' d e a b c:Int}(hk:k'=11∨k'=12)(h:0≤d∧d<64)(he:0≤e∧e<64)(f:0≤a∧a<64)(g:0≤b∧b<64)(j:0≤c∧c<64)(m:d≠e)(o:a∈S)(p:b∈S)(q:c∈S)(k:Hf 64 bs (d::e::S) l):Hf 64 bs S (Fj k' d e a b c::l):=by
 refine⟨zue hk h he f g j m,by rcases hk with rfl | rfl<;>simp[Fj],?_,?_⟩
 ·rcases hk with rfl | rfl<;>simp[Hr,Fj,o,p,q]
 ·rcases hk with rfl | rfl<;>exact k
theorem zld {d c a b:Int}(h:0≤d∧d<64)(f:0≤c∧c<64)(g:0≤a∧a<64)(j:0≤b∧b<64)(m:c∈S)(o:a∈S)(p:b∈S)(k:Hf 64 bs (d::S) l):Hf 64 bs S (F1 d c a b::l) :=
 ⟨zv7 h f g j,by simp[F1],by simp[Hr,F1,o,p,m],k⟩
structure Bp (bs:List Bf) (p:Pn):Prop where
 b:p.b<bs.length
 s:((p.a+p.k:Nat):Int)≤(Fk bs p.b).size
 z:(Fk bs p.b).size≤65536
def Bw (bs:List Bf)(p:Pn):Prop:=(Fk bs p.b).kind≠1
theorem Bp.at {p:Pn}(h:Bp bs p){off:Int}(h0:0≤off)(hk:off<p.k):iU (p.p.at_+off)<iU (Fk bs p.p.buf.toNat).size:=by
 obtain⟨o,rfl⟩:=Af h0;have hs:=h.s;have hz:=h.z;obtain⟨z,aa⟩:=Af (show 0≤(Fk bs p.b).size by omega);have e1:p.p.buf.toNat=p.b:=rfl;rw[e1,aa,Cl,Pg (by omega),Q2 (by omega)];omega
theorem Ph {d i off:Int}{p:Pn}(f:Bp bs p)(h:0≤d∧d<64)(hi:0≤i∧i<64)(g:i∈S)(k:Hf 64 bs (d::S) l):Hf 64 bs S (E6 d p.p i off::l):=by
 refine⟨znc h (.inr hi) ⟨by simp[Pn.p],by have:=f.b;simpa [Pn.p] using this⟩ (fun q=>by omega),by simp[E6],?_,k⟩;have:i≠-1:=by omega
 simp[Hr,E6,this,g]
theorem zc1 {d off:Int}{p:Pn}(f:Bp bs p)(h:0≤d∧d<64)(g:0≤off)(hk:off<p.k)(k:Hf 64 bs (d::S) l):Hf 64 bs S (E6 d p.p (-1) off::l):=by
 refine⟨znc h (.inl rfl) ⟨by simp[Pn.p],by have:=f.b;simpa [Pn.p] using this⟩ (fun _=>f.at g hk),by simp[E6],by simp[Hr,E6],k⟩
theorem Vo {v i off:Int}{p:Pn}(f:Bp bs p)(hw:Bw bs p)(h:0≤v∧v<64)(hi:0≤i∧i<64)(g:i∈S)(j:v∈S)(k:Hf 64 bs S l):Hf 64 bs S (Ff p.p i off v::l):=by
 refine⟨zoq h (.inr hi) ⟨by simp[Pn.p],by have:=f.b;simpa [Pn.p] using this⟩ hw (fun q=>by omega),by simp[Ff],?_,k⟩;have:i≠-1:=by omega
 simp[Hr,Ff,this,g,j]
theorem zbg {v off:Int}{p:Pn}(f:Bp bs p)(hw:Bw bs p)(h:0≤v∧v<64)(g:0≤off)(hk:off<p.k)(j:v∈S)(k:Hf 64 bs S l):Hf 64 bs S (Ff p.p (-1) off v::l):=by
 refine⟨zoq h (.inl rfl) ⟨by simp[Pn.p],by have:=f.b;simpa [Pn.p] using this⟩ hw (fun _=>f.at g hk),by simp[Ff],by simp[Hr,Ff,j],k⟩
theorem okL_nil:Hf 64 bs S []:=trivial
end w
section into
variable {bs : List Bf} {ls : List Int} {R D : Int} {d a b n t : Pn} {k : Int}
theorem zzx {S:List Int}{l:List Lo}{a b:Int}(q:16≤R∧R≤50)(f:0≤a∧a<64)(g:0≤b∧b<64)(h:a∈S)(j:b∈S)(m:R∈S)(o:R+3∈S)(p:R+7∈S)(k:Hf 64 bs ((R+3)::(R+5)::(R+6)::(R+9)::(R+6)::(R+8)::(R+5)::(R+6)::S) l):Hf 64 bs S (Fw R a b++l):=by
 unfold Fw;refine zym ?_ ?_ f g ?_ h j (zao (.inl rfl) ?_ ?_ ?_ ?_ ?_ ?_ ?_ ?_ ?_ (zao (.inl rfl) ?_ ?_ ?_ ?_ ?_ ?_ ?_ ?_ ?_ (Uo ?_ ?_ ?_ ?_ ?_ ?_ (Uo ?_ ?_ ?_ ?_ ?_ ?_ k))))
 all_goals first | omega | (simp[m,o,p];done) | (simp;omega)
theorem zrl {n r:Int}:∀o∈Mh n r,∀x∈E7 o,r≤x∧x≤r+4:=by
 intro o ho;simp[Mh,Ta,Qf,zq4,cK,Fu,Ew] at ho;rcases ho with rfl | rfl | rfl | rfl | ⟨_,rfl | rfl | rfl⟩ | rfl | rfl<;>simp[E7]<;>omega
theorem X5 {i:Int}(o:16≤R∧R≤50)(hi:0≤i∧i<8)(p:0≤D∧D<8)(q:¬D∈ls)(r:D≠i)(m:ls.length<8)(g:∀x∈ls,x<8)(pa:Bp bs a)(pb:Bp bs b)(j:Bp bs t)(wt:Bw bs t)(hk:0≤k∧k+1<t.k) :
  Gd bs [i,R,R+1,R+10] ls (Li a.p b.p t.p k R D i) [i,R,R+1,R+10]:=by
 have s:(t.k:Int)≤65536:=by have:=j.s;have:=j.z;omega
 unfold Li;have w:Hf 64 bs [i,R,R+1,R+10] [E6 (R+2) b.p i 0,cK (R+3) 0]:=Ph pb (by omega) (by omega) (by simp) (Ri (by omega) okL_nil);have y:Hf 64 bs (D::(List.flatMap E7 [E6 (R+2) b.p i 0,cK (R+3) 0]++[i,R,R+1,R+10])) (Ln a.p t.p R D):=by
  unfold Ln;refine Ph pa (by omega) (by omega) (by simp) (Ph j (by omega) (by omega) (by simp) (zzx o (by omega) (by omega) (by simp) (by simp[E7,E6]) (by simp[E7,E6,cK]) (by simp[E7,E6,cK]) (by simp) (Vo j wt (by omega) (by omega) (by simp) (by simp) okL_nil)))
 have z:Hf 64 bs (List.flatMap E7 [E6 (R+2) b.p i 0,cK (R+3) 0]++[i,R,R+1,R+10]) (Gr t.p k R++[Ff t.p (-1) k (R+7),Ff t.p (-1) (k+1) (R+8)]):=by
  unfold Gr;refine zc1 j (by omega) (by omega) (by omega) (zao (.inl rfl) (by omega) (by omega) (by omega) (by omega) (by omega) (by omega) (by simp) (by simp[E7,E6,cK]) (by simp[E7,E6,cK]) (zbg j wt (by omega) (by omega) (by omega) (by simp) (zbg j wt (by omega) (by omega) (by omega) (by simp) okL_nil)))
 refine Gd.mono ((Gd.L g w ?_).cat ((Gd.lp m p q ?_ (by omega) (Gd.L ?_ y ?_) ?_).cat (Gd.L g z ?_))) (fun x h=>h) ?_
 ·simp[E7,E6,cK];omega
 ·simp[E7,E6,cK];omega
 ·intro x f;rcases Az.1 f with f | f
  ·exact g x f
  ·simp at f;omega
 ·simp[E7,Ln,Fw,E6,Ff,Fu,Fj,Ew];omega
 ·intro x f;exact Ba _ (Ay _ f)
 ·simp[E7,Gr,E6,Ff,Fj];omega
 ·intro x f;exact Ba _ (Ba _ f)
theorem Zy {i:Int}(o:16≤R∧R≤50)(p:0≤D∧D<8)(q:¬D∈ls)(r:D≠i)(m:ls.length<8)(j:∀x∈ls,x<8)(pn:Bp bs n)(f:Bp bs t)(wt:Bw bs t)(hk:1≤k∧k+1<t.k)(s:0<n.k) :
  Gd bs [i,R,R+1,R+10] ls (Ls n.p t.p k R D) [i,R,R+1,R+10]:=by
 have w:(t.k:Int)≤65536:=by have:=f.s;have:=f.z;omega
 unfold Ls;have y:Hf 64 bs [i,R,R+1,R+10] ([E6 (R+7) t.p (-1) 0,Fu (R+5) (R+10) (R+7) (R+1),E6 (R+4) n.p (-1) 0,cK (R+3) 0]++Fw R (R+10) (R+4)):=by
  rw[←Bx (_++Fw R (R+10) (R+4)),Bo];exact zc1 f (by omega) (by omega) (by omega) (zym (by omega) (by omega) (by omega) (by omega) (by omega) (by simp) (by simp) (zc1 pn (by omega) (by omega) (by omega) (Ri (by omega) (zzx o (by omega) (by omega) (by simp) (by simp) (by simp) (by simp) (by simp) okL_nil))))
 have z:Hf 64 bs (D::(List.flatMap E7 ([E6 (R+7) t.p (-1) 0,Fu (R+5) (R+10) (R+7) (R+1),E6 (R+4) n.p (-1) 0,cK (R+3) 0]++Fw R (R+10) (R+4))++[i,R,R+1,R+10])) (Mm n.p t.p R D):=by
  unfold Mm;refine Ph pn (by omega) (by omega) (by simp) (Ph f (by omega) (by omega) (by simp) (zzx o (by omega) (by omega) (by simp) (by simp[E7,E6]) (by simp[E7,E6,cK]) (by simp[E7,E6,cK]) (by simp) (Vo f wt (by omega) (by omega) (by simp) (by simp) okL_nil)))
 have A:Hf 64 bs (List.flatMap E7 ([E6 (R+7) t.p (-1) 0,Fu (R+5) (R+10) (R+7) (R+1),E6 (R+4) n.p (-1) 0,cK (R+3) 0]++Fw R (R+10) (R+4))++[i,R,R+1,R+10]) (Gr t.p k R++[Ff t.p (-1) (k - 1) (R+7),E6 (R+7) t.p (-1) (k+1),Ew 3 (R+7) (R+7) (R+8),Ff t.p (-1) k (R+7)]):=by
  unfold Gr;refine zc1 f (by omega) (by omega) (by omega) (zao (.inl rfl) (by omega) (by omega) (by omega) (by omega) (by omega) (by omega) (by simp) (by simp[E7,E6,cK]) (by simp[E7,E6,cK]) (zbg f wt (by omega) (by omega) (by omega) (by simp) (zc1 f (by omega) (by omega) (by omega) (Uo (by omega) (by omega) (by omega) (by omega) (by simp) (by simp) (zbg f wt (by omega) (by omega) (by omega) (by simp) okL_nil)))))
 refine Gd.mono ((Gd.L j y ?_).cat ((Gd.lp m p q ?_ (by omega) (Gd.L ?_ z ?_) ?_).cat (Gd.L j A ?_))) (fun x h=>h) ?_
 ·simp[E7,Fw,E6,cK,Fu,Fj,Ew];omega
 ·simp[E7,Fw,E6,cK,Fu,Fj,Ew];omega
 ·intro x g;rcases Az.1 g with g | g
  ·exact j x g
  ·simp at g;omega
 ·simp[E7,Mm,Fw,E6,Ff,Fu,Fj,Ew];omega
 ·intro x g;exact Ba _ (Ay _ g)
 ·simp[E7,Gr,E6,Ff,Fj,Ew];omega
 ·intro x g;exact Ba _ (Ba _ g)
theorem zxa {x:Int}{S:List Int}{p:Pn}(q:0≤x∧x<64)(mx:x∈S)(r:0≤D∧D<8)(s:¬D∈ls)(g:¬D∈S)(j:ls.length<8)(m:∀x∈ls,x<8)(o:Bp bs p)(wp:Bw bs p):Gd bs S ls (Kc p.p x D) S:=by
 have w:(p.k:Int)≤65536:=by have:=o.s;have:=o.z;omega
 unfold Kc;have h:Hf 64 bs (D::S) [Ff p.p D 0 x]:=Vo o wp q (by omega) (by simp) (by simp[mx]) okL_nil;refine Gd.lp j r s g (by show (p.k:Int)≤_;omega) (Gd.L ?_ h ?_) ?_
 ·intro y f;rcases Az.1 f with f | f
  ·exact m y f
  ·simp at f;omega
 ·simp[E7,Ff]
 ·intro y f;exact Ba _ (Ay _ f)
theorem zye {x:List Lo}{S:List Int}(z:16≤R∧R≤50)(m:0≤D∧D<8)(p:¬D∈ls)(h:¬D∈S)(j:ls.length<8)(g:∀x∈ls,x<8)(pn:Bp bs n)(q:Bp bs t)(hk:k≤65536)
  (r:Hf 64 bs ((R+6)::(R+8)::(R+4)::(R+7)::D::(R+8)::S) x) (hm:∀o∈x,∀y∈E7 o,8≤y):Gd bs S ls (N0 n.p t.p k R D x) ((R+8)::S):=by
 unfold N0;have s:Hf 64 bs S [cK (R+8) 0]:=Ri (by omega) okL_nil;have w:Hf 64 bs (D::(List.flatMap E7 [cK (R+8) 0]++S)) (L9 n.p t.p R D++x):=by
  unfold L9;exact Ph q (by omega) (by omega) (by simp) (Ph pn (by omega) (by omega) (by simp) (zao (.inr rfl) (by omega) (by omega) (by omega) (by omega) (by omega) (by omega) (by simp) (by simp) (by simp[E7,cK]) r))
 refine (Gd.L g s ?_).cat (Gd.lp j m p ?_ (by omega) (Gd.L ?_ w ?_) ?_)
 ·simp[E7,cK];omega
 ·simp[E7,cK];exact⟨by omega,h⟩
 ·intro y f;rcases Az.1 f with f | f
  ·exact g y f
  ·simp at f;omega
 ·intro o ho;rcases Az.1 ho with ho | ho
  ·simp[L9] at ho;rcases ho with rfl | rfl | rfl<;>simp[E7,E6,Fj]<;>omega
  ·exact hm o ho
 ·intro y f;exact Ba _ (Ay _ f)
theorem Z9 (m:16≤R∧R≤50)(o:0≤D∧D<8)(p:¬D∈ls)(g:ls.length<8)(f:∀x∈ls,x<8)(pd:Bp bs d)(wd:Bw bs d)(pn:Bp bs n)(j:Bp bs t)(hk:0≤k∧k<t.k):Gd bs [R] ls (Pp d.p n.p t.p k R D) [R]:=by
 have r:(t.k:Int)≤65536:=by have:=j.s;have:=j.z;omega
 unfold Pp;have s:Hf 64 bs [R+8,R] [E6 (R+7) t.p (-1) k,Fj 12 (R+6) (R+10) (R+7) R (R+8)]:=zc1 j (by omega) (by omega) (by omega) (zao (.inr rfl) (by omega) (by omega) (by omega) (by omega) (by omega) (by omega) (by simp) (by simp) (by simp) okL_nil);refine Gd.mono ((zye m o p (by simp;omega) g f pn j (by omega) okL_nil (by simp)).cat ((Gd.L f s ?_).cat (zye m o p ?_ g f pn j (by omega) ?_ ?_))) (fun x h=>h) ?_
 ·simp[E7,E6,Fj];omega
 ·simp[E7,E6,Fj];omega
 ·exact zld (by omega) (by omega) (by omega) (by omega) (by simp[E7,E6,Fj]) (by simp) (by simp) (Vo pd wd (by omega) (by omega) (by simp) (by simp) okL_nil)
 ·simp[E7,F1,Ff];omega
 ·intro x q;simp at q;subst q;simp
theorem gd_into (p:16≤R∧R≤50)(q:0≤D∧D+1<8)(r:¬D∈ls)(m:¬D+1∈ls)(y:ls.length<7)(g:∀x∈ls,x<8)(pd:Bp bs d)(wd:Bw bs d)(pa:Bp bs a)(pb:Bp bs b)(pn:Bp bs n)(j:Bp bs t)(wt:Bw bs t)(hk:1≤k∧k+1<t.k)(s:0<n.k) :
  Gd bs [] ls (O2 d.p a.p b.p n.p t.p k R D) []:=by
 have z:(t.k:Int)≤65536:=by have:=j.s;have:=j.z;omega
 unfold O2;have A:Hf 64 bs [] ([cK R 0,E6 (R+10) n.p (-1) 0]++Mh (R+10) (R+1)) :=
  Ri (by omega) (zc1 pn (by omega) (by omega) (by omega) (Uk (by omega) (by omega) (by simp)))
 have w:∀x∈[R,R+1,R+10],x∈List.flatMap E7 ([cK R 0,E6 (R+10) n.p (-1) 0]++Mh (R+10) (R+1))++[]:=by
  intro x f;simp at f;rcases f with rfl | rfl | rfl<;>simp[E7,cK,E6,Mh,Ta,Fu,Ew]
 refine Gd.mono (Gd.cat (Gd.mono (Gd.L g A ?_) (fun x h=>h) w) ((zxa (x:=R) (by omega) (by simp) ⟨q.1,by omega⟩ r (by simp;omega) (by omega) g j wt).cat ((Gd.lp (by omega) ⟨q.1,by omega⟩ r (by simp;omega) (by omega) ((X5 p (by omega) (by omega) ?_ (by omega) ?_ ?_ pa pb j wt (by omega)).cat (Zy p (by omega) ?_ (by omega) ?_ ?_ pn j wt hk s)) ?_).cat (Gd.mono (Z9 p ⟨q.1,by omega⟩ r (by omega) g pd wd pn j (by omega)) ?_ (fun x h=>h))))) (fun x h=>h) (by simp)
 ·intro o ho;rcases Az.1 ho with ho | ho
  ·simp at ho;rcases ho with rfl | rfl<;>simp[E7,cK,E6]<;>omega
  ·intro x f;have:=zrl o ho x f;omega
 ·simp;exact⟨m,by omega⟩
 ·simp;omega
 ·intro x f;rcases Az.1 f with f | f
  ·exact g x f
  ·simp at f;omega
 ·simp;exact⟨m,by omega⟩
 ·simp;omega
 ·intro x f;rcases Az.1 f with f | f
  ·exact g x f
  ·simp at f;omega
 ·intro x f;exact Ay _ f
 ·intro x f;simp at f;simp[f]
end into
end Go.Sv
namespace Go.Sv
def rgR (R x:Int):Prop:=x=-1∨(R≤x∧x<R+14)
structure OpG (nb:Nat) (R lo hi:Int) (o:Lo):Prop where
 k:o.kind≠16∧o.kind≠17
 d:rgR R o.d
 e:rgR R o.e
 a:rgR R o.a∨(lo≤o.a∧o.a≤hi)
 b:rgR R o.b
 c:rgR R o.c
 m:(o.kind=14∨o.kind=15)→o.a=-1∨(lo≤o.a∧o.a≤hi)
 f:o.buf.toNat<nb
def LpG (lev:Int)(o:Lo):Prop:=o.kind=16∧o.d=lev∧o.e=-1∧o.a=-1∧o.b=-1∧o.c=-1∧1≤o.imm.toNat
section al
variable {nb : Nat} {R lo hi : Int}
end al
end Go.Sv
namespace Go.Sv
section into
variable {nb : Nat} {R lo hi D k : Int} {d a b n t : Pn}
end into
noncomputable def Rs:Nat→Int→Fr Lo→Fr Lo
 |0,_,f=>f
 |n+1,i,f=>.loop (Ks i 1) (Rs n (i+1) f) Oa .nil
def Ih:Nat→Int→List Lo
 |0,_=>[]
 |n+1,i=>⟨16,i,-1,-1,-1,-1,0,1⟩::Ih n (i+1)
theorem wrap_flat:∀(n:Nat) (i:Int) (f:Fr Lo),(Rs n i f).flat=Ih n i++(f.flat++List.replicate n Oa)
 |0,_,f=>by simp[Rs,Ih]
 |n+1,i,f=>by
  rw[Rs,Fr.flat,wrap_flat n,Ih,List.replicate_succ'];simp[Fr.flat,Ks,iU1]
theorem zyf {bs:List Bf}:∀(n:Nat) (i:Int) (ls:List Int) (f:Fr Lo),0≤i→i+n≤7→(ls.length:Int)=i→(∀x∈ls,x<i)→(∀g:List Int,(g.length:Int)=i+n→(∀x∈g,x<i+n)→Gd bs [] g f [])→Gd bs [] ls (Rs n i f) []
 |0,i,ls,f,_,_,m,l,h=>by simpa [Rs] using h ls (by simpa using m) (by simpa using l)
 |n+1,i,ls,f,p,r,m,l,h=>by
  refine .loop (by omega) (by omega) (fun q=>by have:=l _ q;omega) (by omega) (Gd.mono (zyf n (i+1) (ls++[i]) f (by omega) (by omega) (by simp;omega) (fun x j=>?_) fun g s o=>?_) (by simp) (by simp)) (S':=[]) (by simp) .nil
  ·rcases Az.1 j with q | q
   ·have:=l x q;omega
   ·simp at q;omega
  ·exact h g (by omega) fun x j=>by have:=o x j;omega
theorem zz0 {sz:Nat→Nat}{Q:Fs→Prop}:∀(n:Nat) (i:Nat) (f:Fr Lo) (s:Fs),(∀g:Fs,g.m=s.m→Tx sz f g Q)→Tx sz (Rs n i f) s Q
 |0,_,f,s,h=>h s rfl
 |n+1,i,f,s,h=>by
  have m:(Ks (i:Int) 1).imm.toNat=1:=by simp[Ks,iU1]
  refine .loop (I:=fun j g=>if j=0 then g=s else Q g) rfl (fun j g o l=>?_) fun g l=>?_
  ·rw[m] at o;have:j=0:=by omega
   subst this;rw[Ag rfl] at l;subst l;exact (zz0 n (i+1) f _ fun s2 p=>h s2 (by rw[p];rfl)).mono fun r q=>by simpa using q
  ·rw[m,Ac (by omega)] at l;exact .nil l
end Go.Sv
namespace Go.Sv
theorem powW (k:Nat):(18446744073709551616:Nat)^k=2^(64*k):=by rw[Nat.pow_mul]
theorem V2 {P D T N Q a inv:Nat}(hi:P*inv%N=1%N)(h:P*D+a*N=T+Q*N)(d:D<N):D=T*inv%N:=by
 have f:(P*D)%N=T%N:=by
  have:=congrArg (· % N) h;simpa using this
 have g:D*(P*inv)%N=T*inv%N:=by
  rw[show D*(P*inv)=P*D*inv by grind,B1,f,←B1]
 rw[←g,B1,hi,←B1,De,Bg d]
theorem run_all {f:Fr Lo}{bs:List Bf}{X:List (List UInt64)}{Q:Fs→Prop}(h:f.wf Iq)(g:f.regs bs.length []=true)(j:f.costZ≤800000000)
  (p:Tx (Y1 (Hy 64 bs X)) f (Kf (Hy 64 bs X)) Q) :
  ∃T d t,T≤800000000∧Hm f.flat (f.ends 0) T (Hy 64 bs X)=some d∧d.i=f.flat.length∧Rep bs.length (Y1 (Hy 64 bs X)) d t∧Q t∧d.l.length≤f.costZ:=by
 have m:(Hy 64 bs X).r.length=64:=by simp[Hy]
 have a:=Rep.abs (Hy 64 bs X) m;have o:(Hy 64 bs X).bufs.length=bs.length:=by simp[Hy,K3]
 rw[o] at a;obtain⟨t,q,s⟩:=p;obtain⟨T,d,w,x,_,y,z,A⟩:=zgn (os:=f.flat) (es:=f.ends 0) f 0 [] [] [] (Hy 64 bs X) (Kf (Hy 64 bs X)) t h g (by simp) (by simp) rfl rfl a q;refine⟨T,d,t,by omega,w,by rw[x,Fr.flat_len,Be],y,s,?_⟩;have:(Hy 64 bs X).l.length=0:=rfl;omega
theorem costZ_le:∀f:Fr Lo,f.costZ≤2*f.stp
 |.nil=>by simp[Fr.costZ]
 |.op _ r=>by have:=costZ_le r;rw[Fr.costZ,Fr.stp];omega
 |.loop o b _ r=>by
  have d:=costZ_le b;have g:=costZ_le r;have a:o.imm.toNat*(b.costZ+2)≤o.imm.toNat*(2*(1+b.stp)):=Nat.mul_le_mul_left _ (by omega);rw[Nat.mul_left_comm] at a;rw[Fr.costZ,Fr.stp];omega
noncomputable def zw4 (l:List UInt64)(i:Nat):UInt64:=if l=[] then 0 else l.getD (i%l.length) 0*iU (1+((i/l.length:Nat):Int)*2)+iU ((i/l.length:Nat):Int)
noncomputable def zv8 (l:List UInt64)(n:Nat):List UInt64:=(List.range n).map (zw4 l)
theorem zol (l:List UInt64)(n:Nat):(zv8 l n).length=n:=by simp[zv8]
theorem stp_lp (d times:Int)(b:Fr Lo)(a:times≤1000000):(Gj d times b).stp≤times.toNat*(1+b.stp):=by
 unfold Gj;split
 ·simp[Fr.stp]
 ·obtain⟨n,rfl⟩:=Af (show 0≤times by omega);rw[Fr.stp,Fr.stp];have:(Ks d (n:Int)).imm.toNat=n:=Pg (by omega);rw[this];simp
section facts
variable {k y e r d : Nat}
theorem wrap_stp:∀(n:Nat) (i:Int) (f:Fr Lo),(Rs n i f).stp=n+f.stp
 |0,_,_=>by simp[Rs]
 |n+1,i,f=>by
  rw[Rs,Fr.stp,Fr.stp,wrap_stp n];have:(Ks i 1).imm.toNat=1:=by simp[Ks,iU1]
  rw[this];omega
end facts
end Go.Sv
namespace Go.Sv
theorem vl_get:∀{n:Nat} {f:Nat→UInt64} {l:List UInt64},l.length≤n→(∀i,i<n→f i=l.getD i 0)→vl f n=val l
 |0,f,l,h,_=>by
  have:l=[]:=A0 (by omega);subst this;simp[vl,val]
 |n+1,f,l,h,a=>by
  rw[zou];cases l with
  |nil =>
   have d:=a 0 (by omega);have g:=vl_get (n:=n) (f:=fun i=>f (i+1)) (l:=[]) (by simp) (fun i hi=>by have:=a (i+1) (by omega);simpa using this);rw[g,d];simp[val]
  |cons x l =>
   have d:=a 0 (by omega);have g:=vl_get (n:=n) (f:=fun i=>f (i+1)) (l:=l) (by simp at h;omega) (fun i hi=>by have:=a (i+1) (by omega);simpa using this);rw[g,d];simp[val]
section facts
variable {k : Nat}
end facts
end Go.Sv
namespace Go.Sv
def J0 (x:Int):Bool:=decide (x<16)
def Ke (x:Int):Bool:=decide (x<0) || decide (16≤x)
def Nt (o:Lo):Bool :=
 if o.kind=16 then decide (0≤o.d)&&decide (o.d<16)
 else if o.kind=17 then true
 else if o.kind=14∨o.kind=15 then J0 o.a&&(Ke o.d&&Ke o.e)
 else (Ke o.d&&Ke o.e) || (J0 o.a&&(J0 o.b&&J0 o.c))
structure Lock (s t:Ms):Prop where
 i:s.i=t.i
 first:s.first=t.first
 l:s.l=t.l
 rs:s.r.length=64
 rt:t.r.length=64
 low:∀x,x<16→s.r.getD x 0=t.r.getD x 0
 bufs:s.bufs.map List.length=t.bufs.map List.length
section lock
variable {s t s' t' : Ms} {os : List Lo} {es : List Int}
theorem Lock.at (h:Lock s t){x:Int}(hx:J0 x=true):atR s.r x=atR t.r x:=by
 unfold J0 at hx;have hx:=C8 hx;unfold atR;by_cases q:x<0
 ·rw[Ag q,Ag q]
 ·rw[Ac q,Ac q];exact h.low _ (by omega)
theorem Th {r:List UInt64}{x:Int}{v:UInt64}(h:Ke x=true){y:Nat}(a:y<16):(Fa r x v).getD y 0=r.getD y 0:=by
 unfold Ke at h;simp only[Bn,Ak] at h;unfold Fa;split
 ·simp only[Ae];rw[Ad (by omega)]
 ·rfl
theorem zh2 {r q:List UInt64}{x:Int}{v:UInt64}(d:r.length=64)(f:q.length=64)(h:∀y,y<16→r.getD y 0=q.getD y 0):∀y,y<16→(Fa r x v).getD y 0=(Fa q x v).getD y 0:=fun y a=>by
 unfold Fa;split
 ·by_cases g:x.toNat<64
  ·rw[S9 _ _ _ _ _ (by omega),S9 _ _ _ _ _ (by omega)];split
   ·rfl
   ·exact h y a
  ·rw[List.set_eq_of_length_le (by omega),List.set_eq_of_length_le (by omega)];exact h y a
 ·exact h y a
theorem Og {r:List UInt64}{x:Int}{v:UInt64}(h:r.length=64):(Fa r x v).length=64:=by unfold Fa;split<;>simp[h]
theorem Lock.row (h:Lock s t)(x:Int):(Ma s.bufs x).length=(Ma t.bufs x).length:=by
 have hb:=congrArg (fun l=>l.getD x.toNat 0) h.bufs;simp only[Ae,Cc] at hb;unfold Ma;simp only[Ae];cases h1:s.bufs[x.toNat]?<;>cases h2:t.bufs[x.toNat]?<;>simp[h1,h2] at hb ⊢<;>first | exact hb | skip
theorem Lock.step (h:Lock s t)(he:∀(i:Nat) (o p:Lo),os[i]?=some o→o.kind=17→os[(es.getD i 0).toNat]?=some p→p.kind=16)(ho:∀o∈os,Nt o=true)(hs:Jf os es s=some s')(ht:Jf os es t=some t'):Lock s' t':=by
 unfold Jf at hs ht;rw[←h.i] at ht;cases aa:os[s.i]? with
 |none =>
  rw[aa] at hs ht;cases hs;cases ht;exact h
 |some o =>
 rw[aa] at hs ht;dsimp only at hs ht;have hl:=ho o (A7 aa);unfold Nt at hl;by_cases aj:o.kind=16
 ·rw[Ag aj] at hs ht hl;cases hs;cases ht;simp only[Ab,Ak] at hl;rw[←h.first];cases s.first
  ·exact⟨by simp[h.i],rfl,by simp[h.l,h.i],h.rs,h.rt,h.low,h.bufs⟩
  ·exact⟨by simp[h.i],rfl,by simp[h.l,h.i],Og h.rs,Og h.rt,zh2 h.rs h.rt h.low,h.bufs⟩
 rw[Ac aj] at hs ht hl;by_cases ag:o.kind=17
 ·rw[Ag ag] at hs ht;cases hp:os[(es.getD s.i 0).toNat]? with
  |none=>rw[hp] at hs;cases hs
  |some p =>
  rw[hp] at hs ht;dsimp only at hs ht;have kp:=he _ _ _ aa ag hp;have ah:=ho p (A7 hp);unfold Nt at ah;rw[Ag kp] at ah;simp only[Ab,Ak] at ah;rw[←h.at (x:=p.d) (by unfold J0;exact B4 (by omega))] at ht;split at hs
  ·rename_i g;rw[Ag g] at ht;cases hs;cases ht;exact⟨rfl,rfl,h.l,Og h.rs,Og h.rt,zh2 h.rs h.rt h.low,h.bufs⟩
  ·rename_i g;rw[Ac g] at ht;cases hs;cases ht;exact⟨by simp[h.i],h.first,h.l,h.rs,h.rt,h.low,h.bufs⟩
 rw[Ac ag] at hs ht hl;unfold M8 at hs ht;by_cases ad:o.kind=14
 ·rw[Ag (.inl ad)] at hl;simp only[Ab] at hl;rw[Ag ad,←h.at hl.1,←h.row] at ht;rw[Ag ad] at hs;split at hs
  ·rename_i g;rw[Ag g] at ht;cases hs;cases ht;exact⟨by simp[h.i],h.first,by simp[h.l,h.i],Og (Og h.rs),Og (Og h.rt),fun x hx=>by rw[Th hl.2.2 hx,Th hl.2.1 hx,Th hl.2.2 hx,Th hl.2.1 hx];exact h.low x hx,h.bufs⟩
  ·cases hs
 rw[Ac ad] at hs ht;by_cases af:o.kind=15
 ·rw[Ag (.inr af)] at hl;simp only[Ab] at hl;rw[Ag af,←h.at hl.1,←h.row] at ht;rw[Ag af] at hs;split at hs
  ·rename_i g;rw[Ag g] at ht;cases hs;cases ht;refine⟨by simp[h.i],h.first,by simp[h.l,h.i],Og (Og h.rs),Og (Og h.rt),fun x hx=>by rw[Th hl.2.2 hx,Th hl.2.1 hx,Th hl.2.2 hx,Th hl.2.1 hx];exact h.low x hx,?_⟩;simp only[B0,Ce];rw[h.row,h.bufs]
  ·cases hs
 rw[Ac af] at hs ht;rw[Ac (by omega)] at hl;cases hs;cases ht;simp only[Bn,Ab] at hl;refine⟨by simp[h.i],h.first,by simp[h.l,h.i],Og (Og h.rs),Og (Og h.rt),fun x hx=>?_,h.bufs⟩;rcases hl with ⟨h1,h2⟩ | ⟨h1,h2,h3⟩
 ·show (Fa (Fa s.r o.d _) o.e _).getD x 0=(Fa (Fa t.r o.d _) o.e _).getD x 0;rw[Th h2 hx,Th h1 hx,Th h2 hx,Th h1 hx];exact h.low x hx
 ·show (Fa (Fa s.r o.d _) o.e _).getD x 0=(Fa (Fa t.r o.d _) o.e _).getD x 0;rw[h.at h1,h.at h2,h.at h3];exact zh2 (Og h.rs) (Og h.rt) (zh2 h.rs h.rt h.low) x hx
theorem Lock.step_some (h:Lock s t)(ho:∀o∈os,Nt o=true)(hs:Jf os es s=some s'):∃t',Jf os es t=some t':=by
 unfold Jf at hs ⊢;rw[←h.i];cases af:os[s.i]? with
 |none=>exact⟨_,rfl⟩
 |some o =>
 rw[af] at hs;dsimp only at hs ⊢;have hl:=ho o (A7 af);unfold Nt at hl;by_cases ag:o.kind=16
 ·rw[Ag ag];exact⟨_,rfl⟩
 rw[Ac ag] at hs hl ⊢;by_cases ah:o.kind=17
 ·rw[Ag ah] at hs ⊢;cases hp:os[(es.getD s.i 0).toNat]? with
  |none=>rw[hp] at hs;cases hs
  |some p =>
   dsimp only;split<;>exact⟨_,rfl⟩
 rw[Ac ah] at hs hl ⊢;unfold M8 at hs ⊢;by_cases aa:o.kind=14
 ·rw[Ag (.inl aa)] at hl;simp only[Ab] at hl;rw[Ag aa] at hs ⊢;rw[←h.at hl.1,←h.row];split at hs
  ·rename_i g;rw[Ag g];exact⟨_,rfl⟩
  ·cases hs
 rw[Ac aa] at hs ⊢;by_cases ad:o.kind=15
 ·rw[Ag (.inr ad)] at hl;simp only[Ab] at hl;rw[Ag ad] at hs ⊢;rw[←h.at hl.1,←h.row];split at hs
  ·rename_i g;rw[Ag g];exact⟨_,rfl⟩
  ·cases hs
 rw[Ac ad];exact⟨_,rfl⟩
theorem Lock.run_some (he:∀(i:Nat) (o p:Lo),os[i]?=some o→o.kind=17→os[(es.getD i 0).toNat]?=some p→p.kind=16)(ho:∀o∈os,Nt o=true):∀(n:Nat) (s t s':Ms),Lock s t→Hm os es n s=some s'→∃t',Hm os es n t=some t'∧Lock s' t'
 |0,s,t,s',h,hs=>by cases hs;exact⟨t,rfl,h⟩
 |n+1,s,t,s',h,hs=>by
  unfold Hm at hs ⊢;split at hs
  ·cases hs
  ·rename_i s1 h1;obtain⟨t1,h2⟩:=h.step_some ho h1;rw[h2];exact Lock.run_some he ho n s1 t1 s' (h.step he ho h1 h2) hs
theorem stay {os:List Lo}{es:List Int}{s:Ms}(h:os[s.i]?=none):∀n,Hm os es n s=some s
 |0=>rfl
 |n+1=>by
  have:Jf os es s=some s:=by unfold Jf;rw[h]
  unfold Hm;rw[this];exact stay h n
end lock
end Go.Sv
namespace Go.Sv
section facts
variable {bs : List Bf} {d a b n t : Pn} {k R e nb : Nat}
end facts
end Go.Sv
namespace Go.Sv
theorem zuk {bs:List Bf}{X Y:List (List UInt64)}(h:∀i,i<bs.length→(X.getD i []).length=(Y.getD i []).length):Lock (Hy 64 bs X) (Hy 64 bs Y):=by
 refine⟨rfl,rfl,rfl,by simp[Hy],by simp[Hy],fun x _=>rfl,?_⟩;show (K3 bs X bs.length).map List.length=(K3 bs Y bs.length).map List.length;unfold K3;rw[List.map_map,List.map_map];refine List.map_congr_left fun i hi=>?_
 have:=h i (Cp.1 hi);simp only[Function.comp,Ny,Aj,List.length_replicate];omega
theorem zvv {f:Fr Lo}(hw:f.wf Iq):∀(i:Nat) (o p:Lo),f.flat[i]?=some o→o.kind=17→f.flat[((f.ends 0).getD i 0).toNat]?=some p→p.kind=16:=fun i o p ho hk a=>by
 obtain⟨k,j,d,g,h⟩:=ends_at f 0 i o hw ho hk;rw[Ae,d] at a;simp only[B9,A9,Be] at a;rw[g] at a;rw[←Option.some.inj a];exact h
theorem zze {os:List Lo}{es:List Int}{b:Nat}(l:∀o∈os,¬(o.kind=15∧o.buf.toNat=b)){s m:Ms}(h:Jf os es s=some m):m.bufs.getD b []=s.bufs.getD b []∧m.bufs.length=s.bufs.length:=by
 unfold Jf at h;cases a:os[s.i]? with
 |none=>rw[a] at h;cases h;exact⟨rfl,rfl⟩
 |some o =>
 rw[a] at h;dsimp only at h;have p:=l o (A7 a);by_cases f:o.kind=16
 ·rw[Ag f] at h;cases h;exact⟨rfl,rfl⟩
 rw[Ac f] at h;by_cases g:o.kind=17
 ·rw[Ag g] at h;split at h
  ·cases h
  ·split at h<;>(cases h;exact⟨rfl,rfl⟩)
 rw[Ac g] at h;unfold M8 at h;by_cases j:o.kind=14
 ·rw[Ag j] at h;split at h
  ·cases h;exact⟨rfl,rfl⟩
  ·cases h
 rw[Ac j] at h;by_cases d:o.kind=15
 ·rw[Ag d] at h;split at h
  ·cases h;refine⟨?_,by simp⟩;simp only[Ae];rw[Ad (fun q=>p ⟨d,q⟩)]
  ·cases h
 rw[Ac d] at h;cases h;exact⟨rfl,rfl⟩
theorem ztn {os:List Lo}{es:List Int}{b:Nat}(d:∀o∈os,¬(o.kind=15∧o.buf.toNat=b)):∀(n:Nat) (s a:Ms),Hm os es n s=some a→a.bufs.getD b []=s.bufs.getD b []∧a.bufs.length=s.bufs.length
 |0,s,a,h=>by cases h;exact⟨rfl,rfl⟩
 |n+1,s,a,h=>by
  unfold Hm at h;split at h
  ·cases h
  ·rename_i s1 f;obtain⟨g,j⟩:=zze d f;obtain⟨l,m⟩:=ztn d n s1 a h;exact⟨l.trans g,m.trans j⟩
def Pd (sz:Nat→Nat):(Nat→Option Nat)→Fr Lo→Prop
 |_,.nil=>True
 |bd,.op o r=>(Ke o.d=true∧Ke o.e=true)∧(o.kind=14∨o.kind=15→(o.a=-1∧o.imm.toNat<sz o.buf.toNat)∨∃x m:Nat,o.a=x∧x<16∧bd x=some m∧o.imm.toNat+m≤sz o.buf.toNat∧sz o.buf.toNat≤65536)∧Pd sz bd r
 |bd,.loop o b _ r=>((0≤o.d∧o.d<16)∧b.noW o.d.toNat=true)∧Pd sz (fun x=>if x=o.d.toNat then some o.imm.toNat else bd x) b∧Pd sz (fun x=>if x=o.d.toNat then none else bd x) r
def zr2 (bd:Nat→Option Nat)(s:Fs):Prop:=∀x m,x<16→bd x=some m→(s.r x).toNat<m
theorem z9s {s:Fs}{d:Int}{v:UInt64}(h:Ke d=true){x:Nat}(a:x<16):(Jg s d v).r x=s.r x:=by
 unfold Ke at h;simp only[Bn,Ak] at h;exact zha (by omega)
theorem op_runs {sz:Nat→Nat}{bd:Nat→Option Nat}{o:Lo}{s:Fs}(p:zr2 bd s)(hd:Ke o.d=true)(he:Ke o.e=true)
  (hm:o.kind=14∨o.kind=15→(o.a=-1∧o.imm.toNat<sz o.buf.toNat)∨∃x m:Nat,o.a=x∧x<16∧bd x=some m∧o.imm.toNat+m≤sz o.buf.toNat∧sz o.buf.toNat≤65536):∃l,Ii sz o s=some l∧∀x,x<16→l.r x=s.r x:=by
 have g:o.kind=14∨o.kind=15→(o.imm+Ky s o.a).toNat<sz o.buf.toNat:=fun hk=>by
  rcases hm hk with ⟨e,h⟩ | ⟨x,m,e,a,j,q,r⟩
  ·unfold Ky;rw[e,Ag (by decide),UInt64.add_zero];exact h
  ·have w:=p x m a j;unfold Ky;rw[e,Ac (by omega),A9,Bu,Bg (by omega)];omega
 unfold Ii;by_cases d:o.kind=14
 ·rw[Ag d,Ag (g (.inl d))];exact⟨_,rfl,fun x a=>by rw[z9s he a,z9s hd a]⟩
 rw[Ac d];by_cases f:o.kind=15
 ·rw[Ag f,Ag (g (.inr f))];exact⟨_,rfl,fun x a=>by rw[z9s he a,z9s hd a];rfl⟩
 rw[Ac f];exact⟨_,rfl,fun x a=>by rw[z9s he a,z9s hd a]⟩
theorem zek {sz:Nat→Nat}:∀(f:Fr Lo) (bd:Nat→Option Nat) (s:Fs),Pd sz bd f→zr2 bd s→(∀x m,bd x=some m→f.noW x=true)→∃w,K5 sz f s=some w∧∀x m,x<16→bd x=some m→w.r x=s.r x
 |.nil,_,s,_,_,_=>⟨s,rfl,fun _ _ _ _=>rfl⟩
 |.op o r,bd,s,h,y,hw=>by
  obtain⟨⟨F,G⟩,D,E⟩:=h;obtain⟨s1,z,p⟩:=op_runs y F G D;obtain⟨s2,A,B⟩:=zek r bd s1 E (fun x m d a=>by rw[p x d];exact y x m d a) (fun x m a=>by
   have:=hw x m a;simp only[Fr.noW,Ab] at this;exact this.2.2)
  refine⟨s2,?_,fun x m d a=>(B x m d a).trans (p x d)⟩;unfold K5;rw[z];exact A
 |.loop o b e r,bd,s,h,y,hw=>by
  obtain⟨⟨⟨F,G⟩,H⟩,D,E⟩:=h;have g:∀x m,bd x=some m→x≠o.d.toNat∧b.noW x=true∧r.noW x=true:=fun x m a=>by
   have:=hw x m a;simp only[Fr.noW,Ab,Bt,Bl] at this;exact⟨fun q=>this.1 q.symm,this.2.1,this.2.2⟩
  have I:=o.imm.toNat_lt;have rounds:∀(n j:Nat) (s:Fs),j+n=o.imm.toNat→zr2 bd s→∃w,Vl (K5 sz b) o.d.toNat n j s=some w∧∀x m,x<16→bd x=some m→w.r x=s.r x:=by
   intro n
   induction n with
   |zero=>intro j s _ _;exact⟨s,rfl,fun _ _ _ _=>rfl⟩
   |succ n J =>
    intro j s K C;have l:∀x,(s.put o.d.toNat (UInt64.ofNat j)).r x=if x=o.d.toNat then UInt64.ofNat j else s.r x:=fun x=>rfl
    obtain⟨s1,z,p⟩:=zek b _ (s.put o.d.toNat (UInt64.ofNat j)) D (fun x m d a=>by
     rw[l];by_cases q:x=o.d.toNat
     ·rw[Ag q] at a ⊢;cases a;rw[By];rw[Bg (by omega)];omega
     ·rw[Ac q] at a ⊢;exact C x m d a) (fun x m a=>by
     by_cases q:x=o.d.toNat
     ·rw[q];exact H
     ·rw[Ac q] at a;exact (g x m a).2.1)
    have keep:∀x m,x<16→bd x=some m→s1.r x=s.r x:=fun x m d a=>by
     have q:=(g x m a).1;rw[p x m d (by rw[Ac q];exact a),l,Ac q]
    obtain⟨s2,A,B⟩:=J (j+1) s1 (by omega) (fun x m d a=>by rw[keep x m d a];exact C x m d a);refine⟨s2,?_,fun x m d a=>(B x m d a).trans (keep x m d a)⟩;unfold Vl;rw[z];exact A
  obtain⟨s1,z,p⟩:=rounds o.imm.toNat 0 s (by omega) y;obtain⟨s2,A,B⟩:=zek r _ s1 E (fun x m d a=>by
   by_cases q:x=o.d.toNat
   ·rw[Ag q] at a;cases a
   ·rw[Ac q] at a;rw[p x m d a];exact y x m d a) (fun x m a=>by
   by_cases q:x=o.d.toNat
   ·rw[Ag q] at a;cases a
   ·rw[Ac q] at a;exact (g x m a).2.2)
  refine⟨s2,?_,fun x m d a=>?_⟩
  ·unfold K5;rw[z];exact A
  ·have q:=(g x m a).1;rw[B x m d (by rw[Ac q];exact a)];exact p x m d a
def J3 (sz:Nat→Nat)(bd:Nat→Option Nat)(o:Lo):Prop:=(Ke o.d=true∧Ke o.e=true)∧(o.kind=14∨o.kind=15→(o.a=-1∧o.imm.toNat<sz o.buf.toNat)∨∃x m:Nat,o.a=x∧x<16∧bd x=some m∧o.imm.toNat+m≤sz o.buf.toNat∧sz o.buf.toNat≤65536)
section run
variable {sz : Nat → Nat} {bd : Nat → Option Nat}
theorem safe_L:∀{l:List Lo},(∀o∈l,J3 sz bd o)→Pd sz bd (E4 l)
 |[],_=>trivial
 |o::_,h=>⟨(h o (B5 ..)).1,(h o (B5 ..)).2,safe_L fun x a=>h x (Ay _ a)⟩
theorem safe_cat:∀{f g:Fr Lo} {bd:Nat→Option Nat},Pd sz bd f→(∀a:Nat→Option Nat,(∀x m,bd x=some m→f.noW x=true→a x=some m)→Pd sz a g)→Pd sz bd (f.cat g)
 |.nil,_,bd,_,h=>h bd fun _ _ e _=>e
 |.op o r,g,bd,d,h=>⟨d.1,d.2.1,safe_cat d.2.2 fun a l=>h a fun x m e j=>l x m e (by
   simp only[Fr.noW,Ab] at j;exact j.2.2)⟩
 |.loop o b e r,g,bd,d,h=>⟨d.1,d.2.1,safe_cat d.2.2 fun a l=>h a fun x m q j=>by
   simp only[Fr.noW,Ab,Bt,Bl] at j;exact l x m (by rw[Ac (fun w=>j.1 w.symm)];exact q) j.2.2⟩
theorem zr9 {D:Nat}(d:D<16):∀{l:List Lo},(∀o∈l,Ke o.d=true∧Ke o.e=true)→(E4 l).noW D=true
 |[],_=>rfl
 |o::l,h=>by
  have a:=h o (B5 ..);have f:=zr9 d (l:=l) fun x g=>h x (Ay _ g)
  unfold Ke at a;simp only[Bn,Ak] at a;show (!decide (o.d=D)&&(!decide (o.e=D)&&(E4 l).noW D))=true;rw[f];simp;omega
theorem zde {D:Nat}:∀(f g:Fr Lo),(f.cat g).noW D=(f.noW D&&g.noW D)
 |.nil,g=>by simp[Fr.cat,Fr.noW]
 |.op o r,g=>by simp only[Fr.cat,Fr.noW,zde r g,Bool.and_assoc]
 |.loop o b e r,g=>by simp only[Fr.cat,Fr.noW,zde r g,Bool.and_assoc]
theorem noW_lp {D E n:Nat}{b:Fr Lo}(h:E≠D)(a:b.noW D=true):(Gj (E:Nat) (n:Nat) b).noW D=true:=by
 unfold Gj;split
 ·rfl
 ·simp[Fr.noW,Ks,a,h]
theorem zw3 {D n:Nat}{b:Fr Lo}(h:D<16)(j:n<1000000)(hw:b.noW D=true)(a:Pd sz (fun x=>if x=D then some n else bd x) b):Pd sz bd (Gj (D:Nat) (n:Nat) b):=by
 unfold Gj;split
 ·trivial
 ·refine⟨⟨⟨by show (0:Int)≤D;omega,by show (D:Int)<16;omega⟩,hw⟩,?_,trivial⟩;have f:(Ks (D:Nat) (n:Nat)).d.toNat=D:=by simp[Ks]
  have g:(Ks (D:Nat) (n:Nat)).imm.toNat=n:=Pg (by omega);rw[f,g];exact a
theorem zak {x:Int}(h:16≤x):Ke x=true:=by unfold Ke;simp;omega
theorem high_m1:Ke (-1)=true:=by decide
theorem zph {o:Lo}(hk:o.kind≠14∧o.kind≠15)(hd:Ke o.d=true)(he:Ke o.e=true):J3 sz bd o:=⟨⟨hd,he⟩,fun h=>by omega⟩
theorem zth {p:Pn}{off:Nat}(h:p.a+off<18446744073709551616):(iU (p.p.at_+(off:Int))).toNat=p.a+off:=Q2 h
theorem zdw {p:Pn}{d:Int}{off:Nat}(hd:16≤d)(h:p.a+off<sz p.b)(a:sz p.b≤65536):J3 sz bd (E6 d p.p (-1) (off:Nat)) :=
 ⟨⟨zak hd,high_m1⟩,fun _=>.inl ⟨rfl,by show (iU (p.p.at_+(off:Int))).toNat<sz p.b;rw[zth (by omega)];exact h⟩⟩
theorem zds {p:Pn}{d:Int}{x m off:Nat}(hd:16≤d)(a:x<16)(f:bd x=some m)(h:p.a+off+m≤sz p.b)(g:sz p.b≤65536):J3 sz bd (E6 d p.p (x:Nat) (off:Nat)) :=
 ⟨⟨zak hd,high_m1⟩,fun _=>.inr ⟨x,m,rfl,a,f,by show (iU (p.p.at_+(off:Int))).toNat+m≤sz p.b;rw[zth (by omega)];exact h,g⟩⟩
theorem zl9 {p:Pn}{v:Int}{off:Nat}(h:p.a+off<sz p.b)(a:sz p.b≤65536):J3 sz bd (Ff p.p (-1) (off:Nat) v) :=
 ⟨⟨high_m1,high_m1⟩,fun _=>.inl ⟨rfl,by show (iU (p.p.at_+(off:Int))).toNat<sz p.b;rw[zth (by omega)];exact h⟩⟩
theorem zls {p:Pn}{v:Int}{x m off:Nat}(a:x<16)(d:bd x=some m)(h:p.a+off+m≤sz p.b)(f:sz p.b≤65536):J3 sz bd (Ff p.p (x:Nat) (off:Nat) v) :=
 ⟨⟨high_m1,high_m1⟩,fun _=>.inr ⟨x,m,rfl,a,d,by show (iU (p.p.at_+(off:Int))).toNat+m≤sz p.b;rw[zth (by omega)];exact h,f⟩⟩
theorem ok_nil:∀o∈([]:List Lo),J3 sz bd o:=fun _ h=>by cases h
theorem Ia {o:Lo}{l:List Lo}(h:J3 sz bd o)(k:∀x∈l,J3 sz bd x):∀x∈o::l,J3 sz bd x:=fun x a=>by
 rcases Ao.1 a with rfl | a
 ·exact h
 ·exact k x a
theorem Wz {l r:List Lo}(h:∀x∈l,J3 sz bd x)(k:∀x∈r,J3 sz bd x):∀x∈l++r,J3 sz bd x:=fun x a=>(Az.1 a).elim (h x) (k x)
theorem Pu {d:Int}{v:UInt64}(h:16≤d):J3 sz bd (cK d v):=zph (by simp[cK]) (zak h) high_m1
theorem zpw {h l a b:Int}(d:16≤h)(f:16≤l):J3 sz bd (Fu h l a b):=zph (by simp[Fu]) (zak d) (zak f)
theorem zkh {k d o a b c:Int}(hk:k≠14∧k≠15)(hd:16≤d)(ho:16≤o):J3 sz bd (Fj k d o a b c):=zph hk (zak hd) (zak ho)
theorem zl3 {k d a b:Int}(hk:k≠14∧k≠15)(hd:16≤d):J3 sz bd (Ew k d a b):=zph hk (zak hd) high_m1
theorem ok_Sel {d c a b:Int}(hd:16≤d):J3 sz bd (F1 d c a b):=zph (by simp[F1]) (zak hd) high_m1
theorem zql {R a b:Int}(d:16≤R):∀o∈Fw R a b,J3 sz bd o :=
 Ia (zpw (by omega) (by omega)) (Ia (zkh (by omega) (by omega) (by omega)) (Ia (zkh (by omega) (by omega) (by omega)) (Ia (zl3 (by omega) (by omega)) (Ia (zl3 (by omega) (by omega)) ok_nil))))
theorem zgq {D n:Nat}{L:List Lo}(d:D<16)(f:n<1000000)(h:∀a:Nat→Option Nat,a D=some n→∀o∈L,J3 sz a o):Pd sz bd (Gj (D:Nat) (n:Nat) (E4 L)) :=
 zw3 d f (zr9 d fun o ho=>(h (fun _=>some n) rfl o ho).1) (safe_L (h _ (Ag rfl)))
theorem zzu {D E n:Nat}{L:List Lo}(d:E<16)(a:D≠E)(h:∀o∈L,Ke o.d=true∧Ke o.e=true):(Gj (D:Nat) (n:Nat) (E4 L)).noW E=true:=noW_lp a (zr9 d h)
theorem zkn {R D i k:Nat}{a b t:Pn}(F:16≤R)(d:D<16)(hi:i<16)(w:b.in_ sz)(x:a.in_ sz)(y:t.in_ sz){m:Nat}(f:bd i=some m)(hm:m≤b.k)(hk:k≤a.k)(z:k+2≤t.k)(g:k<1000000) :
  Pd sz bd (Li a.p b.p t.p (k:Nat) (R:Nat) (D:Nat) (i:Nat))∧∀E,E<16→D≠E→(Li a.p b.p t.p (k:Nat) (R:Nat) (D:Nat) (i:Nat)).noW E=true:=by
 obtain⟨G,A⟩:=w;obtain⟨H,B⟩:=x;obtain⟨t1,t2⟩:=y;have q:∀bd:Nat→Option Nat,bd i=some m→∀o∈[E6 ((R:Nat)+2:Int) b.p (i:Nat) ((0:Nat):Int),cK ((R:Nat)+3:Int) 0],J3 sz bd o:=fun bd h =>
  Ia (zds (by omega) hi h (by omega) A) (Ia (Pu (by omega)) ok_nil)
 have r:∀bd:Nat→Option Nat,bd D=some k→∀o∈Ln a.p t.p (R:Nat) (D:Nat),J3 sz bd o:=fun bd h =>
  Wz (Ia (zds (off:=0) (by omega) d h (by omega) B) (Ia (zds (off:=0) (by omega) d h (by omega) t2) ok_nil)) (Wz (zql (by omega)) (Ia (zls (off:=0) d h (by omega) t2) ok_nil))
 have s:∀bd:Nat→Option Nat,∀o∈Gr t.p (k:Nat) (R:Nat)++[Ff t.p (-1) (k:Nat) ((R:Nat)+7),Ff t.p (-1) ((k+1:Nat):Int) ((R:Nat)+8)],J3 sz bd o:=fun bd =>
  Wz (Ia (zdw (by omega) (by omega) t2) (Ia (zkh (by omega) (by omega) (by omega)) ok_nil)) (Ia (zl9 (by omega) t2) (Ia (zl9 (by omega) t2) ok_nil))
 refine⟨safe_cat (safe_L (q bd f)) fun C _=>safe_cat (zgq d g r) fun j _=>safe_L (s j),fun E l p=>?_⟩;have e:Li a.p b.p t.p (k:Nat) (R:Nat) (D:Nat) (i:Nat)=(E4 [E6 ((R:Nat)+2:Int) b.p (i:Nat) ((0:Nat):Int),cK ((R:Nat)+3:Int) 0]).cat ((Gj (D:Nat) (k:Nat) (E4 (Ln a.p t.p (R:Nat) (D:Nat)))).cat
   (E4 (Gr t.p (k:Nat) (R:Nat)++[Ff t.p (-1) (k:Nat) ((R:Nat)+7),Ff t.p (-1) ((k+1:Nat):Int) ((R:Nat)+8)]))):=rfl
 rw[e,zde,zde,zr9 l fun o ho=>(q (fun _=>some m) rfl o ho).1,zzu l p fun o ho=>(r (fun _=>some k) rfl o ho).1,zr9 l fun o ho=>(s bd o ho).1];rfl
theorem zow {R D k:Nat}{n t:Pn}(z:16≤R)(a:D<16)(r:n.in_ sz)(s:t.in_ sz)(hk:k+1≤n.k)(w:k+3≤t.k)(d:k<1000000) :
  Pd sz bd (Ls n.p t.p ((k+1:Nat):Int) (R:Nat) (D:Nat))∧∀E,E<16→D≠E→(Ls n.p t.p ((k+1:Nat):Int) (R:Nat) (D:Nat)).noW E=true:=by
 obtain⟨A,l⟩:=r;obtain⟨t1,t2⟩:=s;have x:((k+1:Nat):Int) - 1=(k:Nat):=by omega
 have m:∀bd:Nat→Option Nat,∀o∈[E6 ((R:Nat)+7:Int) t.p (-1) ((0:Nat):Int),Fu ((R:Nat)+5) ((R:Nat)+10) ((R:Nat)+7) ((R:Nat)+1),E6 ((R:Nat)+4:Int) n.p (-1) ((0:Nat):Int),cK ((R:Nat)+3) 0]++Fw (R:Nat) ((R:Nat)+10) ((R:Nat)+4),J3 sz bd o:=fun bd =>
  Wz (Ia (zdw (by omega) (by omega) t2) (Ia (zpw (by omega) (by omega)) (Ia (zdw (by omega) (by omega) l) (Ia (Pu (by omega)) ok_nil)))) (zql (by omega))
 have p:∀bd:Nat→Option Nat,bd D=some k→∀o∈Mm n.p t.p (R:Nat) (D:Nat),J3 sz bd o:=fun bd h =>
  Wz (Ia (zds (off:=1) (by omega) a h (by omega) l) (Ia (zds (off:=1) (by omega) a h (by omega) t2) ok_nil)) (Wz (zql (by omega)) (Ia (zls (off:=0) a h (by omega) t2) ok_nil))
 have q:∀bd:Nat→Option Nat,∀o∈Gr t.p ((k+1:Nat):Int) (R:Nat)++[Ff t.p (-1) ((k:Nat):Int) ((R:Nat)+7),E6 ((R:Nat)+7) t.p (-1) ((k+2:Nat):Int),Ew 3 ((R:Nat)+7) ((R:Nat)+7) ((R:Nat)+8),Ff t.p (-1) ((k+1:Nat):Int) ((R:Nat)+7)],J3 sz bd o:=fun bd =>
  Wz (Ia (zdw (by omega) (by omega) t2) (Ia (zkh (by omega) (by omega) (by omega)) ok_nil)) (Ia (zl9 (by omega) t2) (Ia (zdw (by omega) (by omega) t2) (Ia (zl3 (by omega) (by omega)) (Ia (zl9 (by omega) t2) ok_nil))))
 have e:Ls n.p t.p ((k+1:Nat):Int) (R:Nat) (D:Nat)=(E4 ([E6 ((R:Nat)+7:Int) t.p (-1) ((0:Nat):Int),Fu ((R:Nat)+5) ((R:Nat)+10) ((R:Nat)+7) ((R:Nat)+1),E6 ((R:Nat)+4:Int) n.p (-1) ((0:Nat):Int),cK ((R:Nat)+3) 0]++Fw (R:Nat) ((R:Nat)+10) ((R:Nat)+4))).cat
   ((Gj (D:Nat) (k:Nat) (E4 (Mm n.p t.p (R:Nat) (D:Nat)))).cat (E4 (Gr t.p ((k+1:Nat):Int) (R:Nat)++[Ff t.p (-1) ((k:Nat):Int) ((R:Nat)+7),E6 ((R:Nat)+7) t.p (-1) ((k+2:Nat):Int),Ew 3 ((R:Nat)+7) ((R:Nat)+7) ((R:Nat)+8),Ff t.p (-1) ((k+1:Nat):Int) ((R:Nat)+7)]))):=by
  unfold Ls;rw[x];rfl
 rw[e];refine⟨safe_cat (safe_L (m bd)) fun y _=>safe_cat (zgq a d p) fun f _=>safe_L (q f),fun E g j=>?_⟩;rw[zde,zde,zr9 g fun o ho=>(m bd o ho).1,zzu g j fun o ho=>(p (fun _=>some k) rfl o ho).1,zr9 g fun o ho=>(q bd o ho).1];rfl
end run
end Go.Sv
namespace Go.Sv
section run
variable {sz : Nat → Nat} {bd : Nat → Option Nat}
theorem zpz {R D k:Nat}{n t:Pn}{x:List Lo}(r:16≤R)(a:D<16)(f:n.in_ sz)(g:t.in_ sz)(hk:k≤n.k)(j:k≤t.k)(d:k<1000000)(l:∀bd:Nat→Option Nat,bd D=some k→∀o∈x,J3 sz bd o) :
  Pd sz bd (N0 n.p t.p (k:Nat) (R:Nat) (D:Nat) x):=by
 obtain⟨s,m⟩:=f;obtain⟨t1,t2⟩:=g;have p:∀bd:Nat→Option Nat,bd D=some k→∀o∈L9 n.p t.p (R:Nat) (D:Nat)++x,J3 sz bd o:=fun bd h =>
  Wz (Ia (zds (off:=0) (by omega) a h (by omega) t2) (Ia (zds (off:=0) (by omega) a h (by omega) m) (Ia (zkh (by omega) (by omega) (by omega)) ok_nil))) (l bd h)
 exact safe_cat (safe_L (Ia (Pu (by omega)) ok_nil)) fun q _=>zgq a d p
theorem Si {R D k:Nat}{d n t:Pn}(j:16≤R)(g:D<16)(hd:d.in_ sz)(l:n.in_ sz)(f:t.in_ sz)(hk:k≤n.k)(m:k+1≤t.k)(o:k≤d.k)(a:k<1000000) :
  Pd sz bd (Pp d.p n.p t.p (k:Nat) (R:Nat) (D:Nat)):=by
 unfold Pp;refine safe_cat (zpz j g l f hk (by omega) a fun _ _=>ok_nil) fun p _=>safe_cat (safe_L (Ia (zdw (by omega) (by have:=f.1;omega) f.2) (Ia (zkh (by omega) (by omega) (by omega)) ok_nil))) fun q _=>zpz j g l f hk (by omega) a fun bd h=>?_
 exact Ia (ok_Sel (by omega)) (Ia (zls (off:=0) g h (by have:=hd.1;omega) hd.2) ok_nil)
theorem ok_reck {n r:Int}(h:16≤r):∀o∈Mh n r,J3 sz bd o:=by
 have a:∀i,∀o∈Qf n r i,J3 sz bd o:=fun i o ho=>by
  unfold Qf at ho;obtain⟨_,_,ho⟩:=List.mem_flatMap.1 ho;exact Ia (zpw (by omega) (by omega)) (Ia (zl3 (by omega) (by omega)) (Ia (zpw (by omega) (by omega)) ok_nil)) o ho
 unfold Mh;exact Wz (Ia (Pu (by omega)) (Ia (zpw (by omega) (by omega)) (Ia (Pu (by omega)) (Ia (zl3 (by omega) (by omega)) ok_nil)))) (Wz (a 5) (Ia (Pu (by omega)) (Ia (zl3 (by omega) (by omega)) ok_nil)))
theorem Sq {R D k:Nat}{d a b n t:Pn}(g:16≤R)(l:D+1<16)(hd:d.in_ sz)(q:a.in_ sz)(r:b.in_ sz)(j:n.in_ sz)(f:t.in_ sz)(x:k+1≤d.k)(s:k+1≤a.k)(kb:k+1≤b.k)(o:k+1≤n.k)(w:k+3≤t.k)(p:t.k<1000000) :
  Pd sz bd (O2 d.p a.p b.p n.p t.p (k+1:Nat) (R:Nat) (D:Nat)):=by
 have e:O2 d.p a.p b.p n.p t.p (k+1:Nat) (R:Nat) (D:Nat)=(E4 ([cK (R:Nat) 0,E6 ((R:Nat)+10:Int) n.p (-1) ((0:Nat):Int)]++Mh ((R:Nat)+10:Int) ((R:Nat)+1:Int))).cat ((Gj (D:Nat) (t.k:Nat) (E4 [Ff t.p (D:Nat) ((0:Nat):Int) (R:Nat)])).cat ((Gj (D:Nat) (k+1:Nat) ((Li a.p b.p t.p (k+1:Nat) (R:Nat) ((D+1:Nat):Int) (D:Nat)).cat (Ls n.p t.p (k+1:Nat) (R:Nat) ((D+1:Nat):Int)))).cat (Pp d.p n.p t.p (k+1:Nat) (R:Nat) (D:Nat)))):=rfl;rw[e];refine safe_cat (safe_L (Wz (Ia (Pu (by omega)) (Ia (zdw (by omega) (by have:=j.1;omega) j.2) ok_nil)) (ok_reck (by omega)))) fun y _=>?_
 refine safe_cat (zgq (by omega) p fun bd h=>Ia (zls (off:=0) (by omega) h (by have:=f.1;omega) f.2) ok_nil) fun z _=>?_
 refine safe_cat (zw3 (by omega) (by omega) ?_ ?_) fun A _=>Si g (by omega) hd j f o (by omega) x (by omega)
 ·have B:=(zkn (sz:=sz) (bd:=fun _=>some (k+1)) (R:=R) (D:=D+1) (i:=D) (k:=k+1) g l (by omega) r q f rfl kb s (by omega) (by omega)).2 D (by omega) (by omega);have C:=(zow (sz:=sz) (bd:=fun _=>some (k+1)) (R:=R) (D:=D+1) (k:=k) g l j f o w (by omega)).2 D (by omega) (by omega);rw[zde,B,C];rfl
 ·refine safe_cat (zkn g l (by omega) r q f (m:=k+1) (Ag rfl) kb s (by omega) (by omega)).1 fun E _=>(zow g l j f o w (by omega)).1
end run
end Go.Sv
namespace Go.Sv
structure Cf where
 nb:Nat
 R:Int
 w:Int
 lo:Int
 hi:Int
 pa:Int
 pb:Int
 L:Nat→Prop
 S:Nat→Prop
def I7 (c:Cf)(x:Int):Prop:=c.R≤x∧x<c.R+c.w
def M2 (c:Cf)(x:Int):Prop:=(c.lo≤x∧x≤c.hi)∨(c.pa≤x∧x≤c.pb)
def L5 (c:Cf)(x:Int):Prop:=x=-1∨I7 c x∨M2 c x
def hiO (c:Cf)(o:Lo):Prop:=(o.d=-1∨I7 c o.d)∧(o.e=-1∨I7 c o.e)∧(o.kind=14∨o.kind=15→o.a=-1∨M2 c o.a)
def plO (c:Cf)(o:Lo):Prop:=(o.kind≠14∧o.kind≠15)∧(c.pa≤o.d∧o.d≤c.pb)∧o.e=-1∧(o.a=-1∨M2 c o.a)∧(o.b=-1∨M2 c o.b)∧(o.c=-1∨M2 c o.c)
structure OpH (c:Cf) (o:Lo):Prop where
 k:o.kind≠16∧o.kind≠17
 f:o.buf.toNat<c.nb
 a:L5 c o.a
 b:L5 c o.b
 z:L5 c o.c
 m:hiO c o∨plO c o
 ld:o.kind=14→c.L o.buf.toNat
 st:o.kind=15→c.S o.buf.toNat
def Fr.AllH (c:Cf):Int→Fr Lo→Prop
 |_,.nil=>True
 |lev,.op o r=>OpH c o∧r.AllH c lev
 |lev,.loop o b e r=>LpG lev o∧(c.lo≤lev∧lev≤c.hi)∧e=Oa∧b.AllH c (lev+1)∧r.AllH c lev
structure CfOk (c:Cf):Prop where
 r:16≤c.R∧c.R+c.w≤64
 l:0≤c.lo∧c.hi<8
 p:8≤c.pa∧c.pb<16
def FlH (c:Cf)(o:Lo):Prop:=OpH c o∨o=Oa∨∃lev,LpG lev o∧c.lo≤lev∧lev≤c.hi
section ah
variable {c : Cf}
theorem allH_cat:∀{f g:Fr Lo} {lev:Int},f.AllH c lev→g.AllH c lev→(f.cat g).AllH c lev
 |.nil,_,_,_,h=>h
 |.op _ _,_,_,h,k=>⟨h.1,allH_cat h.2 k⟩
 |.loop _ _ _ _,_,_,h,k=>⟨h.1,h.2.1,h.2.2.1,h.2.2.2.1,allH_cat h.2.2.2.2 k⟩
theorem allH_L:∀{l:List Lo} {lev:Int},(∀o∈l,OpH c o)→(E4 l).AllH c lev
 |[],_,_=>trivial
 |o::_,_,h=>⟨h o (B5 ..),allH_L fun x f=>h x (Ay _ f)⟩
theorem Pf {lev times:Int}{b:Fr Lo}(h:times≤1000000)(f:c.lo≤lev∧lev≤c.hi)(g:b.AllH c (lev+1)):(Gj lev times b).AllH c lev:=by
 unfold Gj;split
 ·trivial
 ·refine⟨⟨rfl,rfl,rfl,rfl,rfl,rfl,?_⟩,f,rfl,g,trivial⟩;obtain⟨n,rfl⟩:=Af (show 0≤times by omega);show 1≤(iU (n:Int)).toNat;rw[Pg (by omega)];omega
theorem allH_wf:∀{f:Fr Lo} {lev:Int},f.AllH c lev→f.wf Iq
 |.nil,_,_=>trivial
 |.op o r,_,h=>⟨by unfold Iq;rw[Ac h.1.k.1,Ac h.1.k.2],allH_wf h.2⟩
 |.loop o b e r,_,h=>⟨by unfold Iq;rw[Ag h.1.1],by rw[h.2.2.1];rfl,allH_wf h.2.2.2.1,allH_wf h.2.2.2.2⟩
theorem zsq {x:Int}{ls:List Nat}(f:∀y∈ls,y<8)(h:x=-1∨(8≤x∧x<64)):Zd ls x=true:=by
 unfold Zd;rcases h with rfl | h
 ·simp
 ·have:¬x.toNat∈ls:=fun q=>by have:=f _ q;omega
  simp[this];omega
theorem Ql (f:CfOk c){x:Int}(h:L5 c x):x<64:=by
 obtain⟨r,l,p⟩:=f;rcases h with h | h | h | h
 ·omega
 ·have:=h.2;omega
 ·omega
 ·omega
theorem mkH (j:CfOk c){o:Lo}(h:OpH c o):(o.d=-1∨(8≤o.d∧o.d<64))∧(o.e=-1∨(8≤o.e∧o.e<64)):=by
 obtain⟨r,l,p⟩:=j;rcases h.m with ⟨f,g,_⟩ | ⟨_,f,g,_⟩
 ·unfold I7 at f g;omega
 ·omega
theorem ze4 (j:CfOk c):∀{f:Fr Lo} {lev:Int} {ls:List Nat},(∀y∈ls,(y:Int)<lev∧y<8)→f.AllH c lev→f.regs c.nb ls=true
 |.nil,_,_,_,_=>rfl
 |.op o r,lev,ls,l,h=>by
  obtain⟨g,h⟩:=h;have s:=ze4 j l h;have m:∀y∈ls,y<8:=fun y p=>(l y p).2
  obtain⟨m1,x⟩:=mkH j g;simp only[Fr.regs,Ab,Ak];exact⟨zsq m m1,zsq m x,Ql j g.a,Ql j g.b,Ql j g.z,g.f,s⟩
 |.loop o b e r,lev,ls,l,h=>by
  obtain⟨⟨g1,g2,g3,g4,g5,g6,z⟩,k,_,w,h⟩:=h;obtain⟨A,B,C⟩:=id j;have s:=ze4 j l h;have w:=ze4 (ls:=o.d.toNat::ls) j (fun y p=>by
   rcases Ao.1 p with rfl | p
   ·omega
   ·have:=l y p;omega) w
  simp only[Fr.regs,Ab,Ak];refine⟨?_,by omega,z,w,s⟩;unfold Zd;have:¬o.d.toNat∈ls:=fun q=>by have:=l _ q;omega
  simp[this];omega
theorem allH_flat:∀{f:Fr Lo} {lev:Int},f.AllH c lev→∀o∈f.flat,FlH c o
 |.nil,_,_,o,ho=>by simp[Fr.flat] at ho
 |.op p r,_,h,o,ho=>by
  simp only[Fr.flat,Ao] at ho;rcases ho with rfl | ho
  ·exact .inl h.1
  ·exact allH_flat h.2 o ho
 |.loop p b e r,lev,h,o,ho=>by
  simp only[Fr.flat,Ao,Az] at ho;rcases ho with rfl | ho | rfl | ho
  ·exact .inr (.inr ⟨lev,h.1,h.2.1⟩)
  ·exact allH_flat h.2.2.2.1 o ho
  ·exact .inr (.inl h.2.2.1)
  ·exact allH_flat h.2.2.2.2 o ho
theorem Qq (f:CfOk c){x:Int}(h:x=-1∨M2 c x):x<16:=by
 obtain⟨r,l,p⟩:=f;unfold M2 at h;omega
theorem FlH.low (hc:CfOk c){o:Lo}(h:FlH c o):Nt o=true:=by
 have hr:=hc.r;have ad:=hc.l;have hp:=hc.p;rcases h with h | rfl | ⟨lev,⟨g1,g2,g3,g4,g5,g6,g7⟩,k⟩
 ·unfold Nt;rw[Ac h.k.1,Ac h.k.2];rcases h.m with ⟨m1,m2,m3⟩ | ⟨m0,m1,m2,m3,m4,m5⟩
  ·have hd:Ke o.d=true:=by unfold Ke;unfold I7 at m1;simp only[Bn,Ak];omega
   have he:Ke o.e=true:=by unfold Ke;unfold I7 at m2;simp only[Bn,Ak];omega
   split
   ·rename_i hm;have ha:J0 o.a=true:=by unfold J0;exact B4 (Qq hc (m3 hm))
    rw[ha,hd,he];rfl
   ·rw[hd,he];rfl
  ·rw[Ac (by omega)];have ha:J0 o.a=true:=by unfold J0;exact B4 (Qq hc m3)
   have hb:J0 o.b=true:=by unfold J0;exact B4 (Qq hc m4)
   have aa:J0 o.c=true:=by unfold J0;exact B4 (Qq hc m5)
   rw[ha,hb,aa];simp
 ·rfl
 ·unfold Nt;rw[Ag g1];simp only[Ab,Ak];omega
def C0 (_:Int):Bool:=false
theorem FlH.sto {o:Lo}(h:FlH c o)(k:o.kind=15):c.S o.buf.toNat:=by
 rcases h with h | rfl | ⟨lev,⟨g1,_⟩,_⟩
 ·exact h.st k
 ·simp[Oa] at k
 ·omega
theorem wrap_allH:∀(n:Nat) (i:Int) (f:Fr Lo),c.lo≤i→i+n≤c.hi+1→f.AllH c (i+n)→(Rs n i f).AllH c i
 |0,i,f,_,_,h=>by simpa [Rs] using h
 |n+1,i,f,g,j,h=>by
  refine⟨⟨rfl,rfl,rfl,rfl,rfl,rfl,by simp[Ks,iU1]⟩,by omega,rfl,wrap_allH n (i+1) f (by omega) (by omega) ?_,trivial⟩;rw[show i+1+(n:Int)=i+(n+1:Nat) by omega];exact h
def Lb (c:Cf)(p:Pn):Prop:=p.b<c.nb∧c.L p.b
def Sb (c:Cf)(p:Pn):Prop:=p.b<c.nb∧c.S p.b
theorem La {v i off:Int}{p:Pn}(f:Lb c p)(hv:I7 c v)(hi:i=-1∨M2 c i):OpH c (E6 v p.p i off) :=
 ⟨by simp[E6],by simpa [E6,Pn.p] using f.1,hi.imp_right .inr,.inl rfl,.inl rfl,.inl ⟨.inr hv,.inl rfl,fun _=>hi⟩,fun _=>by simpa [E6,Pn.p] using f.2,fun h=>by simp[E6] at h⟩
theorem Nl {v i off:Int}{p:Pn}(f:Sb c p)(hv:L5 c v)(hi:i=-1∨M2 c i):OpH c (Ff p.p i off v) :=
 ⟨by simp[Ff],by simpa [Ff,Pn.p] using f.1,hi.imp_right .inr,hv,.inl rfl,.inl ⟨.inl rfl,.inl rfl,fun _=>hi⟩,fun h=>by simp[Ff] at h,fun _=>by simpa [Ff,Pn.p] using f.2⟩
theorem Lv {v:Int}{x:UInt64}(f:0<c.nb)(hv:I7 c v):OpH c (cK v x) :=
 ⟨by simp[cK],f,.inl rfl,.inl rfl,.inl rfl,.inl ⟨.inr hv,.inl rfl,fun h=>by simp[cK] at h⟩,fun h=>by simp[cK] at h,fun h=>by simp[cK] at h⟩
theorem Rd {v:Int}{x:UInt64}(f:0<c.nb)(hv:c.pa≤v∧v≤c.pb):OpH c (cK v x) :=
 ⟨by simp[cK],f,.inl rfl,.inl rfl,.inl rfl,.inr ⟨by simp[cK],hv,rfl,.inl rfl,.inl rfl,.inl rfl⟩,fun h=>by simp[cK] at h,fun h=>by simp[cK] at h⟩
theorem zvt {v x:Int}(f:0<c.nb)(hv:I7 c v)(g:L5 c x):OpH c (Ik v x) :=
 ⟨by simp[Ik],f,g,.inl rfl,.inl rfl,.inl ⟨.inr hv,.inl rfl,fun h=>by simp[Ik] at h⟩,fun h=>by simp[Ik] at h,fun h=>by simp[Ik] at h⟩
theorem O6 {f v x b:Int}(hk:f=8∨f=9)(g:0<c.nb)(hv:I7 c v)(j:L5 c x):OpH c (Iu f v x b) :=
 ⟨by simp[Iu];omega,g,j,.inl rfl,.inl rfl,.inl ⟨.inr hv,.inl rfl,fun h=>by simp[Iu] at h;omega⟩,fun h=>by simp[Iu] at h;omega,fun h=>by simp[Iu] at h;omega⟩
theorem Qj {x y z w:Int}(f:0<c.nb)(g:I7 c x)(j:I7 c y)(l:L5 c z)(hw:L5 c w):OpH c (Fu x y z w) :=
 ⟨by simp[Fu],f,l,hw,.inl rfl,.inl ⟨.inr g,.inr j,fun h=>by simp[Fu] at h⟩,fun h=>by simp[Fu] at h,fun h=>by simp[Fu] at h⟩
theorem zfq {f x z w:Int}(hk:3≤f∧f≤7)(g:0<c.nb)(j:I7 c x)(l:L5 c z)(hw:L5 c w):OpH c (Ew f x z w) :=
 ⟨by simp[Ew];omega,g,l,hw,.inl rfl,.inl ⟨.inr j,.inl rfl,fun h=>by simp[Ew] at h;omega⟩,fun h=>by simp[Ew] at h;omega,fun h=>by simp[Ew] at h;omega⟩
theorem zsz {f x z w:Int}(hk:3≤f∧f≤7)(j:0<c.nb)(l:c.pa≤x∧x≤c.pb)(g:M2 c z)(hw:M2 c w):OpH c (Ew f x z w) :=
 ⟨by simp[Ew];omega,j,.inr (.inr g),.inr (.inr hw),.inl rfl,.inr ⟨by simp[Ew];omega,l,rfl,.inr g,.inr hw,.inl rfl⟩,fun h=>by simp[Ew] at h;omega,fun h=>by simp[Ew] at h;omega⟩
theorem Zx {f x y z w q:Int}(hk:f=11∨f=12)(g:0<c.nb)(j:I7 c x)(l:I7 c y)(m:L5 c z)(hw:L5 c w)(o:L5 c q):OpH c (Fj f x y z w q) :=
 ⟨by simp[Fj];omega,g,m,hw,o,.inl ⟨.inr j,.inr l,fun h=>by simp[Fj] at h;omega⟩,fun h=>by simp[Fj] at h;omega,fun h=>by simp[Fj] at h;omega⟩
theorem zsx {x q z w:Int}(f:0<c.nb)(g:I7 c x)(j:L5 c q)(l:L5 c z)(hw:L5 c w):OpH c (F1 x q z w) :=
 ⟨by simp[F1],f,l,hw,j,.inl ⟨.inr g,.inl rfl,fun h=>by simp[F1] at h⟩,fun h=>by simp[F1] at h,fun h=>by simp[F1] at h⟩
theorem Y7 {x y:List Lo}(h:∀o∈x,OpH c o)(k:∀o∈y,OpH c o):∀o∈x++y,OpH c o:=fun o ho=>(Az.1 ho).elim (h o) (k o)
theorem Fy {x:Lo}{y:List Lo}(h:OpH c x)(k:∀o∈y,OpH c o):∀o∈x::y,OpH c o:=fun o ho=>by
 rcases Ao.1 ho with rfl | ho
 ·exact h
 ·exact k o ho
theorem oh_nil:∀o∈([]:List Lo),OpH c o:=fun _ h=>by cases h
theorem Ir {x:Int}(h:I7 c x):L5 c x:=.inr (.inl h)
section into
variable {R D k : Int} {d a b n t : Pn}
theorem rgr (f:c.R≤R∧R+11≤c.R+c.w)(j:Int)(h:0≤j∧j≤10):I7 c (R+j):=by unfold I7;omega
theorem Se (f:c.R≤R∧R+11≤c.R+c.w):I7 c R:=by unfold I7;omega
theorem oh_reck (f:0<c.nb)(g:c.R≤R∧R+11≤c.R+c.w):∀o∈Mh (R+10) (R+1),OpH c o:=by
 intro o ho;simp[Mh,Ta,Qf,zq4] at ho;rcases ho with rfl | rfl | rfl | rfl | ⟨_,rfl | rfl | rfl⟩ | rfl | rfl
 all_goals first | (refine Lv f ?_;unfold I7;omega) | (refine Qj f ?_ ?_ (Ir ?_) (Ir ?_)<;>(unfold I7;omega)) | (refine zfq (by omega) f ?_ (Ir ?_) (Ir ?_)<;>(unfold I7;omega))
theorem Qi {x y:Int}(f:0<c.nb)(h:c.R≤R∧R+11≤c.R+c.w)(j:I7 c x)(l:I7 c y):∀o∈Fw R x y,OpH c o:=by
 unfold Fw;have g:=rgr h;exact Fy (Qj f (g 5 (by omega)) (g 6 (by omega)) (Ir j) (Ir l)) (Fy (Zx (.inl rfl) f (g 6 (by omega)) (g 8 (by omega)) (Ir (g 6 (by omega))) (Ir (g 7 (by omega))) (Ir (Se h))) (Fy (Zx (.inl rfl) f (g 6 (by omega)) (g 9 (by omega)) (Ir (g 6 (by omega))) (Ir (g 3 (by omega))) (Ir (Se h))) (Fy (zfq (by omega) f (g 5 (by omega)) (Ir (g 5 (by omega))) (Ir (g 8 (by omega)))) (Fy (zfq (by omega) f (g 3 (by omega)) (Ir (g 5 (by omega))) (Ir (g 9 (by omega)))) oh_nil))))
theorem zoc {x:List Lo}{lev:Int}(l:c.R≤R∧R+11≤c.R+c.w)(pn:Lb c n)(m:Lb c t)(hk:k≤1000000)(f:c.lo≤lev∧lev≤c.hi)(p:∀o∈x,OpH c o):(N0 n.p t.p k R lev x).AllH c lev:=by
 unfold N0 L9;have h:0<c.nb:=by have:=pn.1;omega
 have g:=rgr l;have j:lev=-1∨M2 c lev:=.inr (.inl f);exact allH_cat (allH_L (Fy (Lv h (g 8 (by omega))) oh_nil)) (Pf hk f (allH_L (Y7 (Fy (La m (g 7 (by omega)) j) (Fy (La pn (g 4 (by omega)) j) (Fy (Zx (.inr rfl) h (g 6 (by omega)) (g 8 (by omega)) (Ir (g 7 (by omega))) (Ir (g 4 (by omega))) (Ir (g 8 (by omega)))) oh_nil))) p)))
theorem zjg {x:Int}{p:Pn}(g:Sb c p)(h:L5 c x)(f:c.lo≤D∧D≤c.hi)(hk:p.k≤1000000):(Kc p.p x D).AllH c D:=by
 unfold Kc;exact Pf (by show (p.k:Int)≤_;omega) f (allH_L (Fy (Nl g h (.inr (.inl f))) oh_nil))
theorem znj (p:c.R≤R∧R+11≤c.R+c.w)(pd:Sb c d)(pa:Lb c a)(pb:Lb c b)(pn:Lb c n)(o:Lb c t)(st:Sb c t)(hk:k≤1000000)(s:t.k≤1000000)(x:c.lo≤D∧D+1≤c.hi):(O2 d.p a.p b.p n.p t.p k R D).AllH c D:=by
 have l:0<c.nb:=by have:=pn.1;omega
 have g:=rgr p;have g0:=Se p;have f:∀j:Int,0≤j∧j≤10→L5 c (R+j):=fun j h=>Ir (g j h)
 have r:c.lo≤D∧D≤c.hi:=by omega
 have q:c.lo≤D+1∧D+1≤c.hi:=by omega
 have w:D=-1∨M2 c D:=.inr (.inl r);have m:D+1=-1∨M2 c (D+1):=.inr (.inl q);unfold O2;refine allH_cat (allH_L (Y7 (Fy (Lv l g0) (Fy (La pn (g 10 (by omega)) (.inl rfl)) oh_nil)) (oh_reck l p))) (allH_cat (zjg st (Ir g0) r s) (allH_cat (Pf hk r (allH_cat ?_ ?_)) ?_))
 ·unfold Li Ln Gr;refine allH_cat (allH_L (Fy (La pb (g 2 (by omega)) w) (Fy (Lv l (g 3 (by omega))) oh_nil))) (allH_cat (Pf hk q (allH_L (Y7 (Fy (La pa (g 4 (by omega)) m) (Fy (La o (g 7 (by omega)) m) oh_nil)) (Y7 (Qi l p (g 4 (by omega)) (g 2 (by omega))) (Fy (Nl st (f 6 (by omega)) m) oh_nil))))) (allH_L (Y7 (Fy (La o (g 7 (by omega)) (.inl rfl)) (Fy (Zx (.inl rfl) l (g 7 (by omega)) (g 8 (by omega)) (f 7 (by omega)) (f 3 (by omega)) (Ir g0)) oh_nil)) (Fy (Nl st (f 7 (by omega)) (.inl rfl)) (Fy (Nl st (f 8 (by omega)) (.inl rfl)) oh_nil)))))
 ·unfold Ls Mm Gr;refine allH_cat (allH_L (Y7 (Fy (La o (g 7 (by omega)) (.inl rfl)) (Fy (Qj l (g 5 (by omega)) (g 10 (by omega)) (f 7 (by omega)) (f 1 (by omega))) (Fy (La pn (g 4 (by omega)) (.inl rfl)) (Fy (Lv l (g 3 (by omega))) oh_nil)))) (Qi l p (g 10 (by omega)) (g 4 (by omega)))))
   (allH_cat (Pf (by omega) q (allH_L (Y7 (Fy (La pn (g 4 (by omega)) m) (Fy (La o (g 7 (by omega)) m) oh_nil)) (Y7 (Qi l p (g 10 (by omega)) (g 4 (by omega))) (Fy (Nl st (f 6 (by omega)) m) oh_nil)))))
   (allH_L (Y7 (Fy (La o (g 7 (by omega)) (.inl rfl)) (Fy (Zx (.inl rfl) l (g 7 (by omega)) (g 8 (by omega)) (f 7 (by omega)) (f 3 (by omega)) (Ir g0)) oh_nil)) (Fy (Nl st (f 7 (by omega)) (.inl rfl)) (Fy (La o (g 7 (by omega)) (.inl rfl)) (Fy (zfq (by omega) l (g 7 (by omega)) (f 7 (by omega)) (f 8 (by omega))) (Fy (Nl st (f 7 (by omega)) (.inl rfl)) oh_nil)))))))
 ·unfold Pp;exact allH_cat (zoc p pn o hk r oh_nil) (allH_cat (allH_L (Fy (La o (g 7 (by omega)) (.inl rfl)) (Fy (Zx (.inr rfl) l (g 6 (by omega)) (g 10 (by omega)) (f 7 (by omega)) (Ir g0) (f 8 (by omega))) oh_nil))) (zoc p pn o hk r (Fy (zsx l (g 6 (by omega)) (f 10 (by omega)) (f 7 (by omega)) (f 6 (by omega))) (Fy (Nl pd (f 6 (by omega)) w) oh_nil))))
end into
end ah
end Go.Sv
noncomputable section
namespace Go.Sv
def Q8 (p:Pc)(n l o b D:Int):Fr Lo:=Gj D n (E4 [E6 l p D 0,Iu 9 o l 63,Iu 8 l l 1,Ew 6 l l b,Ff p D 0 l,Ik b o])
def R5 (to fr:Pc)(k l D:Int):Fr Lo:=Gj D k (E4 [E6 l fr D 0,Ff to D 0 l])
def Nh (n r:Pc)(R D:Int):List Lo:=[E6 (R+2) r D 0,E6 (R+4) n D 0,Fj 12 (R+4) (R+5) (R+2) (R+4) (R+5)]
def Oc (n r:Pc)(k R D:Int)(x:List Lo):Fr Lo:=(E4 [cK (R+5) 0]).cat ((Gj D k (E4 (Nh n r R D++x))).cat (E4 [E6 (R+2) r (-1) k,Fj 12 (R+4) (R+5) (R+2) R (R+5)]))
def Tp (n r:Pc)(k R D:Int):Fr Lo:=(Q8 r (k+1) (R+2) (R+3) (R+1) D).cat ((Oc n r k R D []).cat ((E4 [Ik (R+6) (R+5)]).cat ((Oc n r k R D [F1 (R+4) (R+6) (R+2) (R+4),Ff r D 0 (R+4)]).cat (E4 [F1 (R+4) (R+6) (R+2) (R+4),Ff r (-1) k (R+4),cK (R+1) 0]))))
def Pm (d n r:Pc)(k bits R D:Int):Fr Lo:=(E4 [cK R 0,cK (R+1) 1]).cat ((Kc r R D).cat ((Gj D (bits+1) (Tp n r k R (D+1))).cat (R5 d r k (R+2) D)))
structure Pw where
 d:Pn
 a:Pn
 b:Pn
 n:Pn
 wb:Nat
 wa:Nat
 k:Nat
 w:Nat
 times:Nat
 over:Nat
 B:Nat
def Pw.acc (p:Pw):Pn:=⟨p.wb,p.wa,p.k⟩
def Pw.base (p:Pw):Pn:=⟨p.wb,p.wa+p.k,p.k⟩
def Pw.cur (p:Pw):Pn:=⟨p.wb,p.wa+2*p.k,p.k⟩
def Pw.es (p:Pw):Pn:=⟨p.wb,p.wa+3*p.k,p.b.k+1⟩
def Pw.t (p:Pw):Pn:=⟨p.wb,p.wa+3*p.k+p.b.k+1,p.k+2⟩
def Pw.tab (p:Pw):Pn:=⟨p.wb,p.wa+4*p.k+p.b.k+3,p.k*2^p.w⟩
def Pw.ent (p:Pw):Pn:=⟨p.tab.b,p.tab.a,p.k⟩
def Pw.r (p:Pw):Pn:=⟨p.t.b,p.t.a,p.k+1⟩
def Pw.mont (p:Pw)(d a b:Pn)(D:Int):Fr Lo:=O2 d.p a.p b.p p.n.p p.t.p p.k (p.B+10) D
def Pw.radix (p:Pw)(d:Pn)(bits D:Int):Fr Lo:=Pm d.p p.n.p p.r.p p.k bits (p.B+10) D
def Pw.copies (p:Pw)(to fr:Pn)(D:Int):Fr Lo:=R5 to.p fr.p p.k (p.B+3) D
def Pw.fillR (p:Pw)(D:Int):Fr Lo:=(p.mont p.acc p.acc p.base (D+1)).cat ((Gj (D+1) p.k (E4 [E6 (p.B+3) p.acc.p (D+1) 0,Ew 3 13 12 (D+1),Ff p.tab.p 13 0 (p.B+3)])).cat (E4 [cK 13 (iU p.k),Ew 3 12 12 13]))
def Pw.fill (p:Pw)(D:Int):Fr Lo:=(p.radix p.ent (64*p.k) D).cat ((p.radix p.cur (128*p.k) D).cat ((p.mont p.base p.a p.cur D).cat ((p.copies p.acc p.ent D).cat ((E4 [cK 12 (iU p.k)]).cat (Gj D (2^p.w - 1:Nat) (p.fillR D))))))
def Pw.expB (p:Pw)(D:Int):List Lo:=if p.over=0 then [E6 (p.B+3) p.b.p D 0,Ff p.es.p D 1 (p.B+3)] else [E6 (p.B+3) p.b.p D 0,Iu 8 (p.B+2) (p.B+3) (64 - p.over),Ew 6 (p.B+2) (p.B+2) (p.B+4),Ff p.es.p D 0 (p.B+2),Iu 9 (p.B+4) (p.B+3) p.over]
def Pw.expE (p:Pw):List Lo:=if p.over=0 then [Ff p.es.p (-1) 0 p.B] else [Ff p.es.p (-1) p.b.k (p.B+4)]
def Pw.exp (p:Pw)(D:Int):Fr Lo:=(E4 [Ik (p.B+4) p.B]).cat ((Gj D p.b.k (E4 (p.expB D))).cat (E4 p.expE))
def Pw.shift (p:Pw)(D:Int):Fr Lo:=(E4 [Ik (p.B+2) p.B]).cat ((Q8 p.es.p p.es.k (p.B+3) (p.B+4) (p.B+2) D).cat (E4 [Iu 8 (p.B+1) (p.B+1) 1,Ew 6 (p.B+1) (p.B+1) (p.B+2)]))
def Pw.scanB (p:Pw)(D:Int):List Lo:=[Ew 3 13 12 D,E6 (p.B+3) p.tab.p 13 0,E6 (p.B+6) p.cur.p D 0,F1 (p.B+3) (p.B+5) (p.B+6) (p.B+3),Ff p.cur.p D 0 (p.B+3)]
def Pw.scanR (p:Pw)(D:Int):Fr Lo:=(E4 [Ew 7 (p.B+5) (p.B+1) D,Fj 12 (p.B+4) (p.B+5) p.B (p.B+5) p.B]).cat ((Gj (D+1) p.k (E4 (p.scanB (D+1)))).cat (E4 [cK 13 (iU p.k),Ew 3 12 12 13]))
def Pw.scan (p:Pw)(D:Int):Fr Lo:=(E4 [cK 12 0]).cat (Gj D (2^p.w:Nat) (p.scanR D))
def Pw.runW (p:Pw)(D:Int):Fr Lo:=(p.mont p.acc p.acc p.acc D).cat (p.shift D)
def Pw.runR (p:Pw)(D:Int):Fr Lo:=(E4 [Ik (p.B+1) p.B]).cat ((Gj D p.w (p.runW (D+1))).cat ((p.scan D).cat (p.mont p.acc p.acc p.cur D)))
def Pw.run (p:Pw)(D:Int):Fr Lo:=(p.copies p.acc p.ent D).cat ((Gj D p.times (p.runR (D+1))).cat ((E4 [cK (p.B+3) 1]).cat ((Kc p.cur.p p.B D).cat ((E4 [Ff p.cur.p (-1) 0 (p.B+3)]).cat (p.mont p.d p.acc p.cur D)))))
def Pw.code (p:Pw)(D:Int):Fr Lo:=(E4 [cK p.B 0]).cat ((p.fill D).cat ((p.exp D).cat (p.run D)))
section all
variable {c : Cf}
theorem zwf {p:Pn}{n l o b D:Int}(f:Lb c p)(sp:Sb c p)(a:I7 c l)(ho:I7 c o)(g:I7 c b)(m:n≤1000000)(h:c.lo≤D∧D≤c.hi):(Q8 p.p n l o b D).AllH c D:=by
 have d:0<c.nb:=by have:=f.1;omega
 have j:D=-1∨M2 c D:=.inr (.inl h);exact Pf m h (allH_L (Fy (La f a j) (Fy (O6 (.inr rfl) d ho (Ir a)) (Fy (O6 (.inl rfl) d a (Ir a)) (Fy (zfq (by omega) d a (Ir a) (Ir g)) (Fy (Nl sp (Ir a) j) (Fy (zvt d g (Ir ho)) oh_nil)))))))
theorem zqj {to fr:Pn}{k l D:Int}(g:Lb c fr)(sp:Sb c to)(a:I7 c l)(h:k≤1000000)(d:c.lo≤D∧D≤c.hi):(R5 to.p fr.p k l D).AllH c D:=by
 have f:D=-1∨M2 c D:=.inr (.inl d);exact Pf h d (allH_L (Fy (La g a f) (Fy (Nl sp (Ir a) f) oh_nil)))
theorem zo2 {n r:Pn}{k R D:Int}{x:List Lo}(f:c.R≤R∧R+11≤c.R+c.w)(pn:Lb c n)(l:Lb c r)(hk:k≤1000000)(m:c.lo≤D∧D≤c.hi)(q:∀o∈x,OpH c o):(Oc n.p r.p k R D x).AllH c D:=by
 have d:0<c.nb:=by have:=pn.1;omega
 have p:D=-1∨M2 c D:=.inr (.inl m);have g:=rgr f;have a:∀j:Int,0≤j∧j≤10→L5 c (R+j):=fun j h=>Ir (g j h)
 unfold Oc Nh;exact allH_cat (allH_L (Fy (Lv d (g 5 (by omega))) oh_nil)) (allH_cat (Pf hk m (allH_L (Y7 (Fy (La l (g 2 (by omega)) p) (Fy (La pn (g 4 (by omega)) p) (Fy (Zx (.inr rfl) d (g 4 (by omega)) (g 5 (by omega)) (a 2 (by omega)) (a 4 (by omega)) (a 5 (by omega))) oh_nil))) q))) (allH_L (Fy (La l (g 2 (by omega)) (.inl rfl)) (Fy (Zx (.inr rfl) d (g 4 (by omega)) (g 5 (by omega)) (a 2 (by omega)) (Ir (Se f)) (a 5 (by omega))) oh_nil))))
theorem zu2 {d n r:Pn}{k bits R D:Int}(p:c.R≤R∧R+11≤c.R+c.w)(pd:Sb c d)(pn:Lb c n)(q:Lb c r)(s:Sb c r)(hk:k≤1000)(y:bits≤100000)(x:r.k≤100000)(z:c.lo≤D∧D+1≤c.hi):(Pm d.p n.p r.p k bits R D).AllH c D:=by
 have m:0<c.nb:=by have:=pn.1;omega
 have l:c.lo≤D∧D≤c.hi:=by omega
 have a:c.lo≤D+1∧D+1≤c.hi:=by omega
 have w:D+1=-1∨M2 c (D+1):=.inr (.inl a);have g:=rgr p;have f:∀j:Int,0≤j∧j≤10→L5 c (R+j):=fun j h=>Ir (g j h)
 unfold Pm Tp;refine allH_cat (allH_L (Fy (Lv m (Se p)) (Fy (Lv m (g 1 (by omega))) oh_nil))) (allH_cat (zjg s (Ir (Se p)) l (by omega)) (allH_cat (Pf (by omega) l ?_) (zqj q pd (g 2 (by omega)) (by omega) l)));have e:∀o∈[F1 (R+4) (R+6) (R+2) (R+4),Ff r.p (D+1) 0 (R+4)],OpH c o:=Fy (zsx m (g 4 (by omega)) (f 6 (by omega)) (f 2 (by omega)) (f 4 (by omega))) (Fy (Nl s (f 4 (by omega)) w) oh_nil);exact allH_cat (zwf q s (g 2 (by omega)) (g 3 (by omega)) (g 1 (by omega)) (by omega) a) (allH_cat (zo2 p pn q (by omega) a oh_nil) (allH_cat (allH_L (Fy (zvt m (g 6 (by omega)) (f 5 (by omega))) oh_nil)) (allH_cat (zo2 p pn q (by omega) a e) (allH_L (Fy (zsx m (g 4 (by omega)) (f 6 (by omega)) (f 2 (by omega)) (f 4 (by omega))) (Fy (Nl s (f 4 (by omega)) (.inl rfl)) (Fy (Lv m (g 1 (by omega))) oh_nil)))))))
structure PwC (c:Cf) (p:Pw):Prop where
 r:c.R≤p.B∧(p.B:Int)+21≤c.R+c.w
 q:c.pa≤12∧13≤c.pb
 d:Sb c p.d
 a:Lb c p.a
 b:Lb c p.b
 n:Lb c p.n
 wl:c.L p.wb
 ws:c.S p.wb
 wb:p.wb<c.nb
 k:p.k≤512
 w:p.w≤6
 ti:p.times≤100000
 bk:p.b.k≤512
theorem Te {w:Nat}(h:w≤6):2^w≤64:=Ee (by decide) h
theorem Pw.all {p:Pw}(h:PwC c p){D:Int}(hD:c.lo≤D∧D+3≤c.hi):(p.code D).AllH c D:=by
 obtain⟨hr,ag,pd,pa,pb,pn,wl,ws,wb,hk,hw,ah,aj⟩:=h;have h0:0<c.nb:=by have:=pn.1;omega
 have wL:∀q:Pn,q.b=p.wb→Lb c q:=fun q e=>⟨by omega,by rw[e];exact wl⟩
 have wS:∀q:Pn,q.b=p.wb→Sb c q:=fun q e=>⟨by omega,by rw[e];exact ws⟩
 have g:∀j:Int,0≤j∧j≤20→I7 c (p.B+j):=fun j h=>by unfold I7;omega
 have g0:I7 c p.B:=by unfold I7;omega
 have gi:∀j:Int,0≤j∧j≤20→L5 c (p.B+j):=fun j h=>Ir (g j h)
 have af:c.R≤(p.B:Int)+10∧(p.B:Int)+10+11≤c.R+c.w:=by omega
 have ao:=Te hw;have aa:M2 c 12:=.inr (by omega);have ad:M2 c 13:=.inr (by omega);have mo:∀(d a b:Pn) (E:Int),Sb c d→Lb c a→Lb c b→c.lo≤E→E+1≤c.hi→(p.mont d a b E).AllH c E:=fun d a b E hd ha hb h1 h2=>znj af hd ha hb pn (wL _ rfl) (wS _ rfl) (by omega) (by show p.k+2≤1000000;omega) ⟨h1,h2⟩
 have lv:∀E:Int,c.lo≤E→E≤c.hi→M2 c E:=fun E h1 h2=>.inl ⟨h1,h2⟩
 have ra:∀(d:Pn) (bits:Int),Sb c d→bits≤100000→(p.radix d bits D).AllH c D:=fun d bits hd hb=>zu2 af hd pn (wL _ rfl) (wS _ rfl) (by omega) hb (by show p.k+1≤100000;omega) (by omega)
 unfold Pw.code;refine allH_cat (allH_L (Fy (Lv h0 g0) oh_nil)) (allH_cat ?_ (allH_cat ?_ ?_))
 ·unfold Pw.fill Pw.fillR;refine allH_cat (ra _ _ (wS _ rfl) (by omega)) (allH_cat (ra _ _ (wS _ rfl) (by omega)) (allH_cat (mo _ _ _ _ (wS _ rfl) pa (wL _ rfl) (by omega) (by omega)) (allH_cat (zqj (wL _ rfl) (wS _ rfl) (g 3 (by omega)) (by omega) (by omega)) (allH_cat (allH_L (Fy (Rd h0 (by omega)) oh_nil)) (Pf (by omega) (by omega) (allH_cat (mo _ _ _ _ (wS _ rfl) (wL _ rfl) (wL _ rfl) (by omega) (by omega)) (allH_cat (Pf (by omega) (by omega) (allH_L ?_)) (allH_L ?_))))))))
  ·exact Fy (La (wL _ rfl) (g 3 (by omega)) (.inr (lv _ (by omega) (by omega)))) (Fy (zsz (by omega) h0 (by omega) aa (lv _ (by omega) (by omega))) (Fy (Nl (wS _ rfl) (gi 3 (by omega)) (.inr ad)) oh_nil))
  ·exact Fy (Rd h0 (by omega)) (Fy (zsz (by omega) h0 (by omega) aa ad) oh_nil)
 ·unfold Pw.exp Pw.expB Pw.expE;refine allH_cat (allH_L (Fy (zvt h0 (g 4 (by omega)) (Ir g0)) oh_nil)) (allH_cat (Pf (by omega) (by omega) (allH_L ?_)) (allH_L ?_))
  ·split
   ·exact Fy (La pb (g 3 (by omega)) (.inr (lv _ (by omega) (by omega)))) (Fy (Nl (wS _ rfl) (gi 3 (by omega)) (.inr (lv _ (by omega) (by omega)))) oh_nil)
   ·exact Fy (La pb (g 3 (by omega)) (.inr (lv _ (by omega) (by omega)))) (Fy (O6 (.inl rfl) h0 (g 2 (by omega)) (gi 3 (by omega))) (Fy (zfq (by omega) h0 (g 2 (by omega)) (gi 2 (by omega)) (gi 4 (by omega))) (Fy (Nl (wS _ rfl) (gi 2 (by omega)) (.inr (lv _ (by omega) (by omega)))) (Fy (O6 (.inr rfl) h0 (g 4 (by omega)) (gi 3 (by omega))) oh_nil))))
  ·split
   ·exact Fy (Nl (wS _ rfl) (Ir g0) (.inl rfl)) oh_nil
   ·exact Fy (Nl (wS _ rfl) (gi 4 (by omega)) (.inl rfl)) oh_nil
 ·unfold Pw.run Pw.runR Pw.runW Pw.shift Pw.scan Pw.scanR Pw.scanB;refine allH_cat (zqj (wL _ rfl) (wS _ rfl) (g 3 (by omega)) (by omega) (by omega)) (allH_cat (Pf (by omega) (by omega) (allH_cat (allH_L (Fy (zvt h0 (g 1 (by omega)) (Ir g0)) oh_nil)) (allH_cat (Pf (by omega) (by omega) (allH_cat ?_ ?_)) (allH_cat (allH_cat ?_ ?_) ?_)))) ?_)
  ·exact mo _ _ _ _ (wS _ rfl) (wL _ rfl) (wL _ rfl) (by omega) (by omega)
  ·exact allH_cat (allH_L (Fy (zvt h0 (g 2 (by omega)) (Ir g0)) oh_nil)) (allH_cat (zwf (wL _ rfl) (wS _ rfl) (g 3 (by omega)) (g 4 (by omega)) (g 2 (by omega)) (by show ((p.b.k+1:Nat):Int)≤1000000;omega) (by omega)) (allH_L (Fy (O6 (.inl rfl) h0 (g 1 (by omega)) (gi 1 (by omega))) (Fy (zfq (by omega) h0 (g 1 (by omega)) (gi 1 (by omega)) (gi 2 (by omega))) oh_nil))))
  ·exact allH_L (Fy (Rd h0 (by omega)) oh_nil)
  ·refine Pf (by omega) (by omega) (allH_cat (allH_L ?_) (allH_cat (Pf (by omega) (by omega) (allH_L ?_)) (allH_L ?_)))
   ·exact Fy (zfq (by omega) h0 (g 5 (by omega)) (gi 1 (by omega)) (.inr (.inr (lv _ (by omega) (by omega))))) (Fy (Zx (.inr rfl) h0 (g 4 (by omega)) (g 5 (by omega)) (Ir g0) (gi 5 (by omega)) (Ir g0)) oh_nil)
   ·exact Fy (zsz (by omega) h0 (by omega) aa (lv _ (by omega) (by omega))) (Fy (La (wL _ rfl) (g 3 (by omega)) (.inr ad)) (Fy (La (wL _ rfl) (g 6 (by omega)) (.inr (lv _ (by omega) (by omega)))) (Fy (zsx h0 (g 3 (by omega)) (gi 5 (by omega)) (gi 6 (by omega)) (gi 3 (by omega))) (Fy (Nl (wS _ rfl) (gi 3 (by omega)) (.inr (lv _ (by omega) (by omega)))) oh_nil))))
   ·exact Fy (Rd h0 (by omega)) (Fy (zsz (by omega) h0 (by omega) aa ad) oh_nil)
  ·exact mo _ _ _ _ (wS _ rfl) (wL _ rfl) (wL _ rfl) (by omega) (by omega)
  ·exact allH_cat (allH_L (Fy (Lv h0 (g 3 (by omega))) oh_nil)) (allH_cat (zjg (wS _ rfl) (Ir g0) (by omega) (by show p.k≤1000000;omega)) (allH_cat (allH_L (Fy (Nl (wS _ rfl) (gi 3 (by omega)) (.inl rfl)) oh_nil)) (mo _ _ _ _ pd (wL _ rfl) (wL _ rfl) (by omega) (by omega))))
end all
end Go.Sv
end
namespace Go.Sv
def Q9 (D:Int)(ls:List Int):Prop:=(ls.length:Int)≤D∧∀x∈ls,x<D
def Ku (D:Int)(S:List Int):Prop:=∀x∈S,x<D∨8≤x
section gd
variable {bs : List Bf} {S S' T ls : List Int} {D : Int} {f g b : Fr Lo} {l : List Lo}
theorem Q9.snoc (h:Q9 D ls):Q9 (D+1) (ls++[D]):=⟨by have:=h.1;simp;omega,fun x hx=>by
 rcases Az.1 hx with hx | hx
 ·have:=h.2 x hx;omega
 ·simp at hx;omega⟩
theorem Q9.lt (h:Q9 D ls)(hD:D≤8):∀x∈ls,x<8:=fun x hx=>by have:=h.2 x hx;omega
theorem Ku.cons (h:Ku D S):Ku (D+1) (D::S):=fun x hx=>by
 rcases Ao.1 hx with rfl | hx
 ·omega
 ·have:=h x hx;omega
theorem Ku.high {x:Int}(h:Ku D S)(hx:8≤x):Ku D (x::S):=fun y hy=>by
 rcases Ao.1 hy with rfl | hy
 ·exact .inr hx
 ·exact h y hy
theorem Gd.lpD {times:Int}(h:Q9 D ls)(hD:0≤D∧D<8)(hS:Ku D S)(ht:times≤1048576)(hb:Gd bs (D::S) (ls++[D]) b S')(hs:∀x∈S,x∈S'):Gd bs S ls (Gj D times b) S :=
 .lp (by have:=h.1;omega) hD (fun q=>by have:=h.2 _ q;omega) (fun q=>by have:=hS _ q;omega) ht hb hs
theorem Gd.Lm (hL:Q9 D ls)(hD:D≤8)(h:Hf 64 bs S l)(hk:∀o∈l,∀x∈E7 o,8≤x)(hT:∀x∈T,x∈l.flatMap E7++S):Gd bs S ls (E4 l) T :=
 Gd.mono (Gd.L (hL.lt hD) h hk) (fun _ h=>h) hT
theorem zq6 {regs:Int}{k d a j:Int}(hk:k=8∨k=9)(h:0≤d∧d<regs)(m:0≤a∧a<regs)(q:1≤j∧j≤63):Ic regs bs (Iu k d a j)=true:=by
 obtain⟨n,rfl⟩:=Af (show 0≤j by omega);have e:(iU (n:Int)).toNat=n:=Pg (by omega);have o:(1:UInt64)≤iU (n:Int):=by rw[Bm,e];show 1≤_;omega
 have p:iU (n:Int)≤(63:UInt64):=by rw[Bm,e];show _≤63;omega
 rcases hk with rfl | rfl<;>simp[Ic,Iu,Fi,Gg,Gh,Gq,Jo,Jj,Ge,h,m,o,p]
theorem zov {k' d a j:Int}(hk:k'=8∨k'=9)(h:0≤d∧d<64)(m:0≤a∧a<64)(o:1≤j∧j≤63)(p:a∈S)(k:Hf 64 bs (d::S) l):Hf 64 bs S (Iu k' d a j::l):=by
 rcases hk with rfl | rfl
 ·exact⟨zq6 (.inl rfl) h m o,by simp[Iu],by simp[Hr,Iu,p],k⟩
 ·exact⟨zq6 (.inr rfl) h m o,by simp[Iu],by simp[Hr,Iu,p],k⟩
theorem zot {d a:Int}(h:0≤d∧d<64)(j:0≤a∧a<64)(m:a∈S)(k:Hf 64 bs (d::S) l):Hf 64 bs S (Ik d a::l) :=
 ⟨zxw h j,by simp[Ik],by simp[Hr,Ik,m],k⟩
theorem gd_sh {p:Pn}{n l o b:Int}(a:Q9 D ls)(j:0≤D∧D<8)(m:Ku D S)(w:8≤l∧l<64)(ho:8≤o∧o<64)(y:8≤b∧b<64)(q:b∈S)(d:Bp bs p)(wp:Bw bs p)(r:n≤1048576):Gd bs S ls (Q8 p.p n l o b D) S:=by
 have h:Hf 64 bs (D::S) [E6 l p.p D 0,Iu 9 o l 63,Iu 8 l l 1,Ew 6 l l b,Ff p.p D 0 l,Ik b o] :=
  Ph d (by omega) (by omega) (by simp) (zov (.inr rfl) (by omega) (by omega) (by omega) (by simp) (zov (.inl rfl) (by omega) (by omega) (by omega) (by simp) (Uo (by omega) (by omega) (by omega) (by omega) (by simp) (by simp[q]) (Vo d wp (by omega) (by omega) (by simp) (by simp) (zot (by omega) (by omega) (by simp) okL_nil)))))
 refine Gd.lpD a j m r (Gd.L (a.snoc.lt (by omega)) h ?_) fun x s=>Ba _ (Ay _ s)
 simp[E7,E6,Iu,Ew,Ff,Ik];omega
theorem gd_cp {to fr:Pn}{k l:Int}(a:Q9 D ls)(d:0≤D∧D<8)(j:Ku D S)(r:8≤l∧l<64)(m:Bp bs to)(wt:Bw bs to)(o:Bp bs fr)(p:k≤1048576):Gd bs S ls (R5 to.p fr.p k l D) S:=by
 have h:Hf 64 bs (D::S) [E6 l fr.p D 0,Ff to.p D 0 l]:=Ph o (by omega) (by omega) (by simp) (Vo m wt (by omega) (by omega) (by simp) (by simp) okL_nil);refine Gd.lpD a d j p (Gd.L (a.snoc.lt (by omega)) h ?_) fun x q=>Ba _ (Ay _ q)
 simp[E7,E6,Ff];omega
theorem zt5 {x:Int}{p:Pn}(a:Q9 D ls)(d:0≤D∧D<8)(h:Ku D S)(j:0≤x∧x<64)(mx:x∈S)(m:Bp bs p)(wp:Bw bs p):Gd bs S ls (Kc p.p x D) S :=
 zxa j mx d (fun q=>by have:=a.2 _ q;omega) (fun q=>by have:=h _ q;omega) (by have:=a.1;omega) (a.lt (by omega)) m wp
theorem gd_rx {n r:Pn}{k R:Int}{x:List Lo}(a:Q9 D ls)(m:0≤D∧D<8)(p:Ku D S)(C:16≤R∧R≤50)(q:R∈S)(pn:Bp bs n)(d:Bp bs r)(hk:0≤k∧k<r.k)
  (j:Hf 64 bs ((R+4)::(R+5)::(R+4)::(R+2)::D::(R+5)::S) x) (hm:∀o∈x,∀y∈E7 o,8≤y):Gd bs S ls (Oc n.p r.p k R D x) ((R+2)::(R+4)::(R+5)::S):=by
 have s:(r.k:Int)≤65536:=by have:=d.s;have:=d.z;omega
 unfold Oc;have w:Hf 64 bs S [cK (R+5) 0]:=Ri (by omega) okL_nil;have z:Hf 64 bs (D::(R+5)::S) (Nh n.p r.p R D++x):=by
  unfold Nh;exact Ph d (by omega) (by omega) (by simp) (Ph pn (by omega) (by omega) (by simp) (zao (.inr rfl) (by omega) (by omega) (by omega) (by omega) (by omega) (by omega) (by simp) (by simp) (by simp) j))
 have A:Hf 64 bs ((R+5)::S) [E6 (R+2) r.p (-1) k,Fj 12 (R+4) (R+5) (R+2) R (R+5)]:=zc1 d (by omega) hk.1 hk.2 (zao (.inr rfl) (by omega) (by omega) (by omega) (by omega) (by omega) (by omega) (by simp) (by simp[q]) (by simp) okL_nil);refine Gd.cat (Gd.Lm (T:=(R+5)::S) a (by omega) w (by simp[E7,cK];omega) (by simp[E7,cK])) (Gd.cat (Gd.lpD a m (p.high (by omega)) (by omega) (Gd.L (a.snoc.lt (by omega)) z ?_) ?_) (Gd.Lm a (by omega) A (by simp[E7,E6,Fj];omega) (fun x j=>by simp[E7,E6,Fj] at j ⊢;rcases j with h | h | h | h<;>simp[h])))
 ·intro o ho;rcases Az.1 ho with ho | ho
  ·simp[Nh] at ho;rcases ho with rfl | rfl | rfl<;>simp[E7,E6,Fj]<;>omega
  ·exact hm o ho
 ·intro y B;exact Ba _ (Ay _ B)
theorem Xt {d n r:Pn}{k bits R:Int}(p:Q9 D ls)(B:0≤D∧D+1<8)(w:Ku D S)(s:16≤R∧R≤50)(pd:Bp bs d)(wd:Bw bs d)(pn:Bp bs n)(j:Bp bs r)(wr:Bw bs r)(hk:0≤k∧k<r.k)(C:bits≤1000000):Gd bs S ls (Pm d.p n.p r.p k bits R D) S:=by
 have y:(r.k:Int)≤65536:=by have:=j.s;have:=j.z;omega
 unfold Pm Tp;have z:Hf 64 bs S [cK R 0,cK (R+1) 1]:=Ri (by omega) (Ri (by omega) okL_nil);have m:Ku D ((R+1)::R::S):=(w.high (by omega)).high (by omega);have o:Ku (D+1) (D::(R+1)::R::S):=m.cons;have a:=p.snoc;have A:Ku (D+1) ((R+2)::(R+4)::(R+5)::D::(R+1)::R::S):=((o.high (by omega)).high (by omega)).high (by omega);refine Gd.mono (Gd.cat (Gd.Lm (T:=(R+1)::R::S) p (by omega) z (by simp[E7,cK];omega) (fun x q=>by simp[E7,cK] at q ⊢;grind)) (Gd.cat (zt5 p (by omega) m (by omega) (by simp) j wr) (Gd.cat (Gd.lpD (S':=(R+1)::R::S) p (by omega) m (by omega) (Gd.cat (gd_sh a (by omega) o (by omega) (by omega) (by omega) (by simp) j wr (by omega)) (Gd.cat (gd_rx a (by omega) o s (by simp) pn j hk okL_nil (by simp)) (Gd.cat (Gd.Lm (T:=(R+6)::(R+2)::(R+4)::(R+5)::D::(R+1)::R::S) a (by omega) (l:=[Ik (R+6) (R+5)]) (zot (by omega) (by omega) (by simp) okL_nil) (by simp[E7,Ik];omega) (by simp[E7,Ik])) (Gd.cat (gd_rx a (by omega) (A.high (by omega)) s (by simp) pn j hk ?_ ?_) (Gd.Lm a (by omega) (l:=[F1 (R+4) (R+6) (R+2) (R+4),Ff r.p (-1) k (R+4),cK (R+1) 0]) ?_ ?_ ?_))))) fun x h=>h) (gd_cp p (by omega) m (by omega) pd wd j (by omega))))) (fun x h=>h) (fun x h=>by simp[h])
 ·exact zld (by omega) (by omega) (by omega) (by omega) (by simp) (by simp) (by simp) (Vo j wr (by omega) (by omega) (by simp) (by simp) okL_nil)
 ·simp[E7,F1,Ff];omega
 ·exact zld (by omega) (by omega) (by omega) (by omega) (by simp) (by simp) (by simp) (zbg j wr (by omega) hk.1 hk.2 (by simp) (Ri (by omega) okL_nil))
 ·simp[E7,F1,Ff,cK];omega
 ·intro x q;simp at q;rcases q with h | h | h<;>simp[E7,F1,Ff,cK,h]
structure PwG (bs:List Bf) (p:Pw):Prop where
 B:16≤p.B∧p.B≤40
 d:Bp bs p.d
 wd:Bw bs p.d
 a:Bp bs p.a
 b:Bp bs p.b
 n:Bp bs p.n
 wb:p.wb<bs.length
 wz:((p.wa+4*p.k+p.b.k+3+p.k*2^p.w:Nat):Int)≤(Fk bs p.wb).size
 w6:(Fk bs p.wb).size≤65536
 ww:(Fk bs p.wb).kind≠1
 k:1≤p.k∧p.k≤512
 nk:0<p.n.k
 w:1≤p.w∧p.w≤6
 ti:p.times≤100000
 ov:p.over≤63
 bk:p.b.k≤512
theorem Pw.gd {p:Pw}(h:PwG bs p)(hL:Q9 D ls)(hD:0≤D∧D+3<8)(hS:Ku D S):Gd bs S ls (p.code D) S:=by
 obtain⟨hB,pd,wd,pa,pb,pn,wb,wz,w6,ww,hk,az,hw,aD,aE,aF⟩:=h;have aG:=Te hw.2;have aH:p.k≤p.k*2^p.w:=Nat.le_mul_of_pos_right _ (Dz _);have wP:∀q:Pn,q.b=p.wb→q.a+q.k≤p.wa+4*p.k+p.b.k+3+p.k*2^p.w→Bp bs q:=fun q e1 e2=>⟨by omega,by rw[e1];omega,by rw[e1];exact w6⟩
 have wW:∀q:Pn,q.b=p.wb→Bw bs q:=fun q e1=>by unfold Bw;rw[e1];exact ww
 have aa:Bp bs p.acc:=wP _ rfl (by simp only[Pw.acc];omega);have aj:Bp bs p.base:=wP _ rfl (by simp only[Pw.base];omega);have ad:Bp bs p.cur:=wP _ rfl (by simp only[Pw.cur];omega);have ao:Bp bs p.es:=wP _ rfl (by simp only[Pw.es];omega);have Pt:Bp bs p.t:=wP _ rfl (by simp only[Pw.t];omega);have aq:Bp bs p.tab:=wP _ rfl (by simp only[Pw.tab];omega);have ap:Bp bs p.ent:=wP _ rfl (by simp only[Pw.ent,Pw.tab];omega);have Pr:Bp bs p.r:=wP _ rfl (by simp only[Pw.r,Pw.t];omega);have mo:∀(d a b:Pn) (E:Int) (ls S:List Int),Bp bs d→Bw bs d→Bp bs a→Bp bs b→0≤E→E+1<8→Q9 E ls→Gd bs S ls (p.mont d a b E) S:=fun d a b E ls S hd wd ha hb h1 h2 hL=>Gd.keep0 (gd_into (by omega) ⟨h1,h2⟩ (fun q=>by have:=hL.2 _ q;omega) (fun q=>by have:=hL.2 _ q;omega) (by have:=hL.1;omega) (hL.lt (by omega)) hd wd ha hb pn Pt (wW _ rfl) (by simp only[Pw.t];omega) az)
 have ra:∀(d:Pn) (bits:Int) (S:List Int),Ku D S→Bp bs d→Bw bs d→bits≤1000000→Gd bs S ls (p.radix d bits D) S:=fun d bits S hS hd wd hb=>Xt hL (by omega) hS (by omega) hd wd pn Pr (wW _ rfl) (by simp only[Pw.r];omega) hb
 have cp:∀(to fr:Pn) (S:List Int),Ku D S→Bp bs to→Bw bs to→Bp bs fr→Gd bs S ls (p.copies to fr D) S:=fun to fr S hS ht wt hf=>gd_cp hL (by omega) hS (by omega) ht wt hf (by omega)
 have ag:Ku D ((p.B:Int)::S):=hS.high (by omega);have af:=hL.snoc;have ah:=af.snoc;have aA:=ah.snoc;unfold Pw.code;refine Gd.mono (Gd.cat (Gd.Lm (T:=(p.B:Int)::S) hL (by omega) (l:=[cK p.B 0]) (Ri (by omega) okL_nil) (by simp[E7,cK];omega) (by simp[E7,cK])) (Gd.cat (S':=(p.B:Int)::S) ?_ (Gd.cat (S':=(p.B:Int)::S) ?_ ?_))) (fun x h=>h) (S':=(p.B:Int)::S) (fun x h=>Ay _ h)
 ·unfold Pw.fill Pw.fillR;have ar:Ku D (12::(p.B:Int)::S):=ag.high (by omega);refine Gd.mono (Gd.cat (ra _ _ _ ag ap (wW _ rfl) (by omega)) (Gd.cat (ra _ _ _ ag ad (wW _ rfl) (by omega)) (Gd.cat (mo _ _ _ _ _ _ aj (wW _ rfl) pa ad (by omega) (by omega) hL) (Gd.cat (cp _ _ _ ag aa (wW _ rfl) ap) (Gd.cat (Gd.Lm (T:=12::(p.B:Int)::S) hL (by omega) (l:=[cK 12 (iU p.k)]) (Ri (by omega) okL_nil) (by simp[E7,cK]) (by simp[E7,cK])) (Gd.lpD (S':=12::(p.B:Int)::S) hL (by omega) ar (by omega) (Gd.cat (mo _ _ _ _ _ _ aa (wW _ rfl) aa aj (by omega) (by omega) af) (Gd.cat (Gd.lpD af (by omega) ar.cons (by omega) (Gd.L (l:=[E6 (p.B+3) p.acc.p (D+1) 0,Ew 3 13 12 (D+1),Ff p.tab.p 13 0 (p.B+3)]) (ah.lt (by omega)) ?_ ?_) fun x hx=>Ba _ (Ay _ hx)) (Gd.Lm (l:=[cK 13 (iU p.k),Ew 3 12 12 13]) af (by omega) ?_ ?_ ?_))) fun x h=>h)))))) (fun x h=>h) (fun x h=>by simp at h;rcases h with h | h<;>simp[h])
  ·exact Ph aa (by omega) (by omega) (by simp) (Uo (by omega) (by omega) (by omega) (by omega) (by simp) (by simp) (Vo aq (wW _ rfl) (by omega) (by omega) (by simp) (by simp) okL_nil))
  ·simp[E7,E6,Ew,Ff];omega
  ·exact Ri (by omega) (Uo (by omega) (by omega) (by omega) (by omega) (by simp) (by simp) okL_nil)
  ·simp[E7,cK,Ew]
  ·intro x hx;simp at hx;rcases hx with h | h | h<;>simp[E7,cK,Ew,h]
 ·unfold Pw.exp;have aw:Ku D ((p.B+4:Int)::(p.B:Int)::S):=ag.high (by omega);refine Gd.cat (Gd.Lm (T:=(p.B+4:Int)::(p.B:Int)::S) hL (by omega) (l:=[Ik (p.B+4) p.B]) (zot (by omega) (by omega) (by simp) okL_nil) (by simp[E7,Ik];omega) (by simp[E7,Ik])) (Gd.cat (Gd.lpD hL (by omega) aw (by omega) (Gd.L (af.lt (by omega)) ?_ ?_) fun x hx=>Ba _ (Ay _ hx)) (Gd.Lm hL (by omega) ?_ ?_ ?_))
  ·unfold Pw.expB;split
   ·exact Ph pb (by omega) (by omega) (by simp) (Vo ao (wW _ rfl) (by omega) (by omega) (by simp) (by simp) okL_nil)
   ·exact Ph pb (by omega) (by omega) (by simp) (zov (.inl rfl) (by omega) (by omega) (by omega) (by simp) (Uo (by omega) (by omega) (by omega) (by omega) (by simp) (by simp) (Vo ao (wW _ rfl) (by omega) (by omega) (by simp) (by simp) (zov (.inr rfl) (by omega) (by omega) (by omega) (by simp) okL_nil))))
  ·unfold Pw.expB;split
   ·simp[E7,E6,Ff];omega
   ·simp[E7,E6,Ff,Iu,Ew];omega
  ·unfold Pw.expE;split
   ·exact zbg ao (wW _ rfl) (by omega) (by omega) (by simp only[Pw.es];omega) (by simp) okL_nil
   ·exact zbg ao (wW _ rfl) (by omega) (by omega) (by simp only[Pw.es];omega) (by simp) okL_nil
  ·unfold Pw.expE;split<;>simp[E7,Ff]
  ·intro x hx;exact Ba _ (Ay _ hx)
 ·unfold Pw.run Pw.runR Pw.runW Pw.shift Pw.scan Pw.scanR;have ax:Ku (D+1) ((p.B+1:Int)::D::(p.B:Int)::S):=(ag.cons).high (by omega);have aB:Ku (D+1+1) ((p.B+2:Int)::(D+1)::(p.B+1:Int)::D::(p.B:Int)::S):=(ax.cons).high (by omega);have ay:Ku (D+1) (12::(p.B+1:Int)::D::(p.B:Int)::S):=ax.high (by omega);have aw:Ku (D+1+1) ((p.B+5:Int)::(D+1)::12::(p.B+1:Int)::D::(p.B:Int)::S):=(ay.cons).high (by omega);have aC:Ku D ((p.B+3:Int)::(p.B:Int)::S):=ag.high (by omega);refine Gd.mono (Gd.cat (cp _ _ _ ag aa (wW _ rfl) ap) (Gd.cat (Gd.lpD (S':=(p.B:Int)::S) hL (by omega) ag (by omega) (Gd.mono (Gd.cat (Gd.Lm (T:=(p.B+1:Int)::D::(p.B:Int)::S) af (by omega) (l:=[Ik (p.B+1) p.B]) (zot (by omega) (by omega) (by simp) okL_nil) (by simp[E7,Ik];omega) (by simp[E7,Ik])) (Gd.cat (Gd.lpD (S':=(p.B+1:Int)::D::(p.B:Int)::S) af (by omega) ax (by omega) ?_ fun x h=>h) (Gd.cat (S':=(p.B+1:Int)::D::(p.B:Int)::S) ?_ (mo _ _ _ _ _ _ aa (wW _ rfl) aa ad (by omega) (by omega) af)))) (fun x h=>h) (fun x h=>by simp at h;rcases h with h | h<;>simp[h])) fun x h=>h) ?_)) (fun x h=>h) (S':=(p.B+3:Int)::(p.B:Int)::S) (fun x h=>Ay _ h)
  ·refine Gd.mono (Gd.cat (mo _ _ _ _ _ _ aa (wW _ rfl) aa aa (by omega) (by omega) ah) (Gd.cat (Gd.Lm (T:=(p.B+2:Int)::(D+1)::(p.B+1:Int)::D::(p.B:Int)::S) ah (by omega) (l:=[Ik (p.B+2) p.B]) (zot (by omega) (by omega) (by simp) okL_nil) (by simp[E7,Ik];omega) (by simp[E7,Ik])) (Gd.cat (gd_sh ah (by omega) aB (by omega) (by omega) (by omega) (by simp) ao (wW _ rfl) (by show ((p.b.k+1:Nat):Int)≤_;omega)) (Gd.Lm (T:=(p.B+1:Int)::D::(p.B:Int)::S) ah (by omega) (l:=[Iu 8 (p.B+1) (p.B+1) 1,Ew 6 (p.B+1) (p.B+1) (p.B+2)]) ?_ ?_ ?_)))) (fun x h=>h) fun x h=>h
   ·exact zov (.inl rfl) (by omega) (by omega) (by omega) (by simp) (Uo (by omega) (by omega) (by omega) (by omega) (by simp) (by simp) okL_nil)
   ·simp[E7,Iu,Ew];omega
   ·intro x hx;simp at hx;rcases hx with h | h | h | h<;>simp[E7,Iu,Ew,h]
  ·refine Gd.mono (Gd.cat (Gd.Lm (T:=12::(p.B+1:Int)::D::(p.B:Int)::S) af (by omega) (l:=[cK 12 0]) (Ri (by omega) okL_nil) (by simp[E7,cK]) (by simp[E7,cK])) (Gd.lpD (S':=12::(p.B+1:Int)::D::(p.B:Int)::S) af (by omega) ay (by omega) (Gd.cat (Gd.Lm (T:=(p.B+5:Int)::(D+1)::12::(p.B+1:Int)::D::(p.B:Int)::S) ah (by omega) (l:=[Ew 7 (p.B+5) (p.B+1) (D+1),Fj 12 (p.B+4) (p.B+5) p.B (p.B+5) p.B]) ?_ ?_ ?_) (Gd.cat (Gd.lpD ah (by omega) aw (by omega) (Gd.L (l:=p.scanB (D+1+1)) (aA.lt (by omega)) ?_ ?_) fun x hx=>Ba _ (Ay _ hx)) (Gd.Lm (l:=[cK 13 (iU p.k),Ew 3 12 12 13]) ah (by omega) ?_ ?_ ?_))) fun x h=>h)) (fun x h=>h) (fun x h=>Ay _ h)
   ·exact Uo (by omega) (by omega) (by omega) (by omega) (by simp) (by simp) (zao (.inr rfl) (by omega) (by omega) (by omega) (by omega) (by omega) (by omega) (by simp) (by simp) (by simp) okL_nil)
   ·simp[E7,Ew,Fj];omega
   ·intro x hx;simp at hx;rcases hx with h | h | h | h | h | h | h<;>simp[E7,Ew,Fj,h]
   ·unfold Pw.scanB;exact Uo (by omega) (by omega) (by omega) (by omega) (by simp) (by simp) (Ph aq (by omega) (by omega) (by simp) (Ph ad (by omega) (by omega) (by simp) (zld (by omega) (by omega) (by omega) (by omega) (by simp) (by simp) (by simp) (Vo ad (wW _ rfl) (by omega) (by omega) (by simp) (by simp) okL_nil))))
   ·simp[Pw.scanB,E7,Ew,E6,F1,Ff];omega
   ·exact Ri (by omega) (Uo (by omega) (by omega) (by omega) (by omega) (by simp) (by simp) okL_nil)
   ·simp[E7,cK,Ew]
   ·intro x hx;simp at hx;rcases hx with h | h | h | h | h<;>simp[E7,cK,Ew,h]
  ·exact Gd.cat (Gd.Lm (T:=(p.B+3:Int)::(p.B:Int)::S) hL (by omega) (l:=[cK (p.B+3) 1]) (Ri (by omega) okL_nil) (by simp[E7,cK];omega) (by simp[E7,cK])) (Gd.cat (zt5 hL (by omega) aC (by omega) (by simp) ad (wW _ rfl)) (Gd.cat (Gd.Lm (T:=(p.B+3:Int)::(p.B:Int)::S) hL (by omega) (l:=[Ff p.cur.p (-1) 0 (p.B+3)]) (zbg ad (wW _ rfl) (by omega) (by omega) (by simp only[Pw.cur];omega) (by simp) okL_nil) (by simp[E7,Ff]) (fun x h=>by simp[E7,Ff];simpa using h)) (mo _ _ _ _ _ _ pd wd aa ad (by omega) (by omega) hL)))
end gd
end Go.Sv
namespace Go.Sv
set_option linter.unusedSimpArgs false
theorem zed {α:Type}:∀f g h:Fr α,(f.cat g).cat h=f.cat (g.cat h)
 |.nil,_,_=>rfl
 |.op o r,g,h=>by rw[Fr.cat,Fr.cat,Fr.cat,zed r g h]
 |.loop o b e r,g,h=>by rw[Fr.cat,Fr.cat,Fr.cat,zed r g h]
theorem Qp (g:Fr Lo):Fr.cat (E4 []) g=g:=rfl
def Fm (l:List Pn)(m m':Nat→Nat→UInt64):Prop:=∀x y,(∀p∈l,¬(x=p.b∧p.a≤y∧y<p.a+p.k))→m' x y=m x y
section fm
variable {l l' : List Pn} {m m' m'' : Nat → Nat → UInt64} {p q : Pn}
theorem Fm.trans (h:Fm l m m')(k:Fm l m' m''):Fm l m m'':=fun x y hn=>(k x y hn).trans (h x y hn)
theorem Fm.mono (h:Fm l m m')(k:∀p∈l,p∈l'):Fm l' m m':=fun x y hn=>h x y fun p hp=>hn p (k p hp)
theorem Fo.fm (h:Fo p m m')(hp:p∈l):Fm l m m':=fun x y hn=>h x y (hn p hp)
theorem Fm.pl (h:Fm l m m')(d:∀p∈l,Dj p q){i:Nat}(hi:i<q.k):pl m' q i=pl m q i :=
 h _ _ fun p hp ⟨h1,h2,h3⟩=>by
  rcases d p hp with d | d | d
  ·exact d h1.symm
  ·omega
  ·omega
theorem Fm.vl (h:Fm l m m')(d:∀p∈l,Dj p q){n:Nat}(hn:n≤q.k):vl (Go.Sv.pl m' q) n=vl (Go.Sv.pl m q) n:=Nn fun _ hi=>h.pl d (by omega)
end fm
section ex
variable {sz : Nat → Nat} {s : Fs}
theorem zwr {d a:Nat}{k:Nat}(hk:k<64):Ii sz (Iu 9 d a (k:Nat)) s=some (s.put d (UInt64.ofNat ((s.r a).toNat/2^k))):=by
 have e:(iU (k:Int)).toNat=k:=Pg (by omega);simp[Ii,Iu,Fx,Q0,Ry,Qy,e]
theorem zrb {d a:Nat}{k:Nat}(hk:k<64):Ii sz (Iu 8 d a (k:Nat)) s=some (s.put d (UInt64.ofNat ((s.r a).toNat*2^k))):=by
 have e:(iU (k:Int)).toNat=k:=Pg (by omega);simp[Ii,Iu,Fx,Q0,Ry,Qy,e]
theorem zhh {x:UInt64}{k:Nat}:(UInt64.ofNat (x.toNat/2^k)).toNat=x.toNat/2^k:=by
 have h:=x.toNat_lt;have:=Nat.div_le_self x.toNat (2^k);simp;omega
theorem T8 {x b:UInt64}(d:b.toNat≤1):(UInt64.ofNat (x.toNat*2^1) ||| b).toNat=2*x.toNat%18446744073709551616+b.toNat:=by
 have f:=x.toNat_lt;rw[UInt64.toNat_or];have a:(UInt64.ofNat (x.toNat*2^1)).toNat=2^1*(x.toNat%2^63):=by
  simp;omega
 rw[a,←Nat.two_pow_add_eq_or_of_lt (show b.toNat<2^1 by omega)];omega
theorem Xz {x b:UInt64}(a:b.toNat≤1):(UInt64.ofNat (x.toNat*2^1) ||| b).toNat+18446744073709551616*(UInt64.ofNat (x.toNat/2^63)).toNat=2*x.toNat+b.toNat∧(UInt64.ofNat (x.toNat/2^63)).toNat≤1:=by
 have d:=x.toNat_lt;rw[T8 a,zhh];omega
theorem sh_law {P W v r V x q b r':Nat}(h:v+P*r=2*V+b)(k:q+W*r'=2*x+r):v+q*P+P*W*r'=2*(V+x*P)+b:=by
 have a:P*(q+W*r')=P*(2*x+r):=by rw[k]
 grind
theorem sh_ex {p:Pn}{n l o b D:Nat}(H:p.in_ sz)(M:n≤p.k)(hd:l≠o∧l≠b∧l≠D∧o≠b∧o≠D∧b≠D)(I:(s.r b).toNat≤1) :
  Tx sz (Q8 p.p n l o b D) s fun a=>(∀z,z≠l→z≠o→z≠b→z≠D→a.r z=s.r z)∧Fo p s.m a.m∧(a.r b).toNat≤1∧vl (pl a.m p) n+18446744073709551616^n*(a.r b).toNat=2*vl (pl s.m p) n+(s.r b).toNat:=by
 obtain⟨N,y⟩:=H;obtain⟨d1,d2,d3,d4,d5,d6⟩:=hd;have e:Q8 p.p n l o b D=Gj (D:Nat) (n:Nat) (E4 [E6 (l:Nat) p.p (D:Nat) ((0:Nat):Int),Iu 9 (o:Nat) (l:Nat) ((63:Nat):Int),Iu 8 (l:Nat) (l:Nat) ((1:Nat):Int),Ew 6 (l:Nat) (l:Nat) (b:Nat),Ff p.p (D:Nat) ((0:Nat):Int) (l:Nat),Ik (b:Nat) (o:Nat)]):=rfl;rw[e];refine .lp (fun j s1=>(∀z,z≠l→z≠o→z≠b→z≠D→s1.r z=s.r z)∧Fo p s.m s1.m∧(s1.r b).toNat≤1∧(∀i,j≤i→pl s1.m p i=pl s.m p i)∧vl (pl s1.m p) j+18446744073709551616^j*(s1.r b).toNat=2*vl (pl s.m p) j+(s.r b).toNat)
  ⟨fun _ _ _ _ _=>rfl,fun _ _ _=>rfl,I,fun _ _=>rfl,by simp[vl]⟩ (by omega) (fun j s1 O ⟨g1,J,K,A,v1⟩=>?_) fun _ h=>⟨h.1,h.2.1,h.2.2.1,h.2.2.2.2⟩
 have f:((s1.put D (UInt64.ofNat j)).r D).toNat=j:=by simp[Ez];omega
 have d:(UInt64.ofNat j).toNat=j:=Rv (by omega);refine .op (Pl (by rw[f];omega) y) (.op (zwr (by omega)) (.op (zrb (by omega)) (.op zx9 ?_)));simp only[Ez,Gz,Bs,Ac d1,Ac d2.symm,Ac d4.symm,Ac d6,Ac d1.symm,d,Be];have w:=Xz (x:=pl s1.m p j) K;obtain⟨B,L⟩:=w;refine .op (W7 (by simp only[Ez,Ac d3.symm,Ac d5.symm,Bs];rw[Rv (by omega)];omega) y) (.op zkq (.nil ⟨fun z C E F G=>?_,?_,?_,fun i hi=>?_,?_⟩))
 ·simp only[Ez,Kd,Ac C,Ac E,Ac F,Ac G];exact g1 z C E F G
 ·refine J.trans ?_;rw[Gz];refine Oh (p:=p) ?_;simp only[Ez,Ac d3.symm,Ac d5.symm,Bs];rw[Rv (by omega)];omega
 ·simp only[Ez,Kd,Bs,Ac d1.symm,Be];exact L
 ·rw[Gz,Ja];simp only[Ez,Ac d3.symm,Ac d5.symm,Bs];rw[Rv (by omega),Ac (by omega)];exact A i (by omega)
 ·rw[Gz,I4,I4,Ja];simp only[Ez,Kd,Ac d3.symm,Ac d5.symm,Bs,Ac d1.symm,Be];rw[d,Ag rfl,Bi,Nn (g:=pl s1.m p) fun i hi=>by rw[Ja,Ac (by omega)];rfl];rw[A j (Am _)] at B ⊢;exact sh_law v1 B
theorem V9 {to fr:Pn}{k l D:Nat}(x:to.in_ sz)(y:fr.in_ sz)(B:k≤to.k)(C:k≤fr.k)(a:l≠D)(A:Dj to fr) :
  Tx sz (R5 to.p fr.p k l D) s fun d=>(∀z,z≠l→z≠D→d.r z=s.r z)∧Fo to s.m d.m∧∀i,i<k→pl d.m to i=pl s.m fr i:=by
 obtain⟨t1,t2⟩:=x;obtain⟨f1,f2⟩:=y;have e:R5 to.p fr.p k l D=Gj (D:Nat) (k:Nat) (E4 [E6 (l:Nat) fr.p (D:Nat) ((0:Nat):Int),Ff to.p (D:Nat) ((0:Nat):Int) (l:Nat)]):=rfl;rw[e];refine .lp (fun j s1=>(∀z,z≠l→z≠D→s1.r z=s.r z)∧Fo to s.m s1.m∧∀i,i<j→pl s1.m to i=pl s.m fr i)
  ⟨fun _ _ _=>rfl,fun _ _ _=>rfl,fun _ h=>absurd h (by omega)⟩ (by omega) (fun j s1 E ⟨g1,g,v1⟩=>?_) fun _ h=>h
 have f:((s1.put D (UInt64.ofNat j)).r D).toNat=j:=by simp[Ez];omega
 refine .op (Pl (by rw[f];omega) f2) (.op (W7 (by simp only[Ez,Ac a.symm,Bs];rw[Rv (by omega)];omega) t2) (.nil ⟨fun z o w=>?_,?_,fun i hi=>?_⟩))
 ·simp only[Ez,Kd,Ac o,Ac w];exact g1 z o w
 ·refine g.trans ?_;refine Oh (p:=to) ?_;simp only[Ez,Ac a.symm,Bs];rw[Rv (by omega)];omega
 ·rw[Ja];simp only[Ez,Gz,Ac a.symm,Bs,Be];rw[Rv (by omega)];split
  ·rename_i q;rw[q];exact g.pl A (by omega)
  ·exact v1 i (by omega)
theorem zoh {R D j:Nat}{n r:Pn}{c:Bool}(F:D<R)(a:(s.r D).toNat=j)(g:s.r (R+5)=F2 c)(o:n.in_ sz)(w:r.in_ sz)(G:j<n.k)(H:j<r.k)(x:List Lo)(Q:Fs→Prop)
  (h:∀(s1:Fs) (b:Bool),s1.m=s.m→s1.r (R+5)=F2 b→s1.r (R+2)=pl s.m r j→(s1.r (R+4)).toNat+(pl s.m n j).toNat+c.toNat=(pl s.m r j).toNat+18446744073709551616*b.toNat→(∀z,z≠R+2→z≠R+4→z≠R+5→s1.r z=s.r z)→Tx sz (E4 x) s1 Q) :
  Tx sz (E4 (Nh n.p r.p R D++x)) s Q:=by
 obtain⟨y,d⟩:=o;obtain⟨A,f⟩:=w;have e:Nh n.p r.p R D++x=E6 ((R+2:Nat):Int) r.p (D:Nat) ((0:Nat):Int)::E6 ((R+4:Nat):Int) n.p (D:Nat) ((0:Nat):Int)::Fj 12 ((R+4:Nat):Int) ((R+5:Nat):Int) ((R+2:Nat):Int) ((R+4:Nat):Int) ((R+5:Nat):Int)::x:=rfl;rw[e];have dn:∀n,n<11→¬D=R+n:=fun n h=>by omega
 refine .op (Pl (by omega) f) (.op (Pl (by simp only[Ez,Ac (dn 2 (by omega))];omega) d) (.op zj0 ?_));have hv:=ze1 (pl s.m r j) (pl s.m n j) c;refine h _ (Gt (pl s.m r j) (pl s.m n j) c).2 rfl ?_ ?_ ?_ fun z B C E=>?_
 ·simp[Ez,Gz,dn,a,g,Xx]
 ·simp[Ez,Gz,dn,a]
 ·simpa [Ez,Gz,dn,a,g,Xx] using hv
 ·simp[Ez,B,C,E]
theorem zs4 {R k:Nat}{r:Pn}{c:Bool}(d:s.r R=0)(f:s.r (R+5)=F2 c)(j:r.in_ sz)(A:k<r.k)(g:Fr Lo)(Q:Fs→Prop)
  (h:∀(s1:Fs) (b:Bool),s1.m=s.m→s1.r (R+5)=F2 b→s1.r (R+2)=pl s.m r k→(s1.r (R+4)).toNat+c.toNat=(pl s.m r k).toNat+18446744073709551616*b.toNat→(∀z,z≠R+2→z≠R+4→z≠R+5→s1.r z=s.r z)→Tx sz g s1 Q) :
  Tx sz ((E4 [E6 ((R:Int)+2) r.p (-1) (k:Nat),Fj 12 ((R:Int)+4) ((R:Int)+5) ((R:Int)+2) (R:Nat) ((R:Int)+5)]).cat g) s Q:=by
 obtain⟨o,a⟩:=j;have e:[E6 ((R:Int)+2) r.p (-1) (k:Nat),Fj 12 ((R:Int)+4) ((R:Int)+5) ((R:Int)+2) (R:Nat) ((R:Int)+5)]=[E6 ((R+2:Nat):Int) r.p (-1) (k:Nat),Fj 12 ((R+4:Nat):Int) ((R+5:Nat):Int) ((R+2:Nat):Int) (R:Nat) ((R+5:Nat):Int)]:=rfl;rw[e];refine .op (zrc (by omega) a) (.op zj0 ?_);have hv:=ze1 (pl s.m r k) 0 c;refine h _ (Gt (pl s.m r k) 0 c).2 rfl ?_ ?_ ?_ fun z w x y=>?_
 ·simp[Ez,d,f,Xx]
 ·simp[Ez]
 ·simpa [Ez,d,f,Xx] using hv
 ·simp[Ez,w,x,y]
def Yq (R z:Nat):Prop:=z=R+2∨z=R+4∨z=R+5
theorem take_ex {R D k:Nat}{n r:Pn}(C:D<R)(E:s.r R=0)(F:n.in_ sz)(d:r.in_ sz)(J:k≤n.k)(G:k<r.k) :
  Tx sz (Oc n.p r.p k R D []) s fun g=>(∀z,¬Yq R z→z≠D→g.r z=s.r z)∧g.m=s.m∧∃(c:Bool) (v:Nat),g.r (R+5)=F2 c∧v<18446744073709551616^(k+1)∧v+vl (pl s.m n) k=vl (pl s.m r) (k+1)+18446744073709551616^(k+1)*c.toNat:=by
 have H:k<18446744073709551616:=by have:=d.1;have:=d.2;omega
 have e:Oc n.p r.p k R D []=(E4 [cK ((R+5:Nat):Int) 0]).cat ((Gj (D:Nat) (k:Nat) (E4 (Nh n.p r.p R D++[]))).cat ((E4 [E6 ((R:Int)+2) r.p (-1) (k:Nat),Fj 12 ((R:Int)+4) ((R:Int)+5) ((R:Int)+2) (R:Nat) ((R:Int)+5)]).cat .nil)):=rfl;rw[e];unfold Yq;refine .op Nk ?_;rw[Qp];refine .cat (R:=fun s1=>(∀z,¬(z=R+2∨z=R+4∨z=R+5)→z≠D→s1.r z=s.r z)∧s1.m=s.m∧∃(c:Bool) (v:Nat),s1.r (R+5)=F2 c∧v<18446744073709551616^k∧v+vl (pl s.m n) k=vl (pl s.m r) k+18446744073709551616^k*c.toNat) ?_ fun s1 ⟨g1,m1,c,v,o,I,v1⟩=>?_
 ·refine .lp (fun j s1=>(∀z,¬(z=R+2∨z=R+4∨z=R+5)→z≠D→s1.r z=s.r z)∧s1.m=s.m∧∃(c:Bool) (v:Nat),s1.r (R+5)=F2 c∧v<18446744073709551616^j∧v+vl (pl s.m n) j=vl (pl s.m r) j+18446744073709551616^j*c.toNat) ⟨fun z f _=>?_,rfl,false,0,by rw[Ez,Ag rfl];rfl,by simp,by simp[vl]⟩ H (fun j s1 K ⟨g1,m1,c,v,o,I,v1⟩=>?_) fun _ h=>h
  ·rw[Ez,Ac (by omega)]
  ·refine zoh (j:=j) (c:=c) C (by simp[Ez];omega) (by rw[Ez,Ac (by omega),o]) F d (by omega) (by omega) _ _ fun s2 b w y t2 v2 A=>.nil ⟨fun z f a=>?_,by rw[w,Gz,m1],b,v+(s2.r (R+4)).toNat*18446744073709551616^j,y,?_,?_⟩
   ·rw[A z (by omega) (by omega) (by omega),Ez,Ac a,g1 z f a]
   ·have:=(s2.r (R+4)).toNat_lt;have B:=At (18446744073709551616^j) (show (s2.r (R+4)).toNat+1≤18446744073709551616 by omega);rw[Bb,Cm] at B;rw[Bi,Bz (18446744073709551616^j)];omega
   ·rw[Gz,m1] at v2;rw[I4,I4,Bi];exact zck v1 v2
 ·refine zs4 (c:=c) (by rw[g1 R (by omega) (by omega),E]) o d G _ _ fun s2 b w y t2 v2 A=>.nil ⟨fun z f a=>?_,by rw[w,m1],b,v+(s2.r (R+4)).toNat*18446744073709551616^k,y,?_,?_⟩
  ·rw[A z (by omega) (by omega) (by omega),g1 z f a]
  ·have:=(s2.r (R+4)).toNat_lt;have B:=At (18446744073709551616^k) (show (s2.r (R+4)).toNat+1≤18446744073709551616 by omega);rw[Bb,Cm] at B;rw[Bi,Bz (18446744073709551616^k)];omega
  ·rw[m1] at v2;rw[I4,Bi];have:=zck (x:=0) v1 (by simpa using v2);simpa using this
theorem keep_ex {R D k:Nat}{n r:Pn}{p:Bool}(M:D<R)(N:s.r R=0)(K:s.r (R+6)=F2 p)(O:n.in_ sz)(y:r.in_ sz)(Y:k≤n.k)(P:k<r.k)(Q:Dj r n) :
  Tx sz ((Oc n.p r.p k R D [F1 ((R:Int)+4) ((R:Int)+6) ((R:Int)+2) ((R:Int)+4),Ff r.p D 0 ((R:Int)+4)]).cat (E4 [F1 ((R:Int)+4) ((R:Int)+6) ((R:Int)+2) ((R:Int)+4),Ff r.p (-1) k ((R:Int)+4),cK ((R:Int)+1) 0])) s fun C =>
   (∀z,¬Yq R z→z≠R+1→z≠D→C.r z=s.r z)∧Fo r s.m C.m∧C.r (R+1)=0∧∃(c:Bool) (v:Nat),v<18446744073709551616^(k+1)∧v+vl (pl s.m n) k=vl (pl s.m r) (k+1)+18446744073709551616^(k+1)*c.toNat∧vl (pl C.m r) (k+1)=if p=true then vl (pl s.m r) (k+1) else v:=by
 have S:k<18446744073709551616:=by have:=y.1;have:=y.2;omega
 have T:=y.1;have B:=y.2;have e:∀g:Fr Lo,(Oc n.p r.p k R D [F1 ((R:Int)+4) ((R:Int)+6) ((R:Int)+2) ((R:Int)+4),Ff r.p D 0 ((R:Int)+4)]).cat g=(E4 [cK ((R+5:Nat):Int) 0]).cat ((Gj (D:Nat) (k:Nat) (E4 (Nh n.p r.p R D++[F1 ((R+4:Nat):Int) ((R+6:Nat):Int) ((R+2:Nat):Int) ((R+4:Nat):Int),Ff r.p (D:Nat) ((0:Nat):Int) ((R+4:Nat):Int)]))).cat ((E4 [E6 ((R:Int)+2) r.p (-1) (k:Nat),Fj 12 ((R:Int)+4) ((R:Int)+5) ((R:Int)+2) (R:Nat) ((R:Int)+5)]).cat g)):=fun g=>by
  unfold Oc;rw[zed,zed];rfl
 rw[e];unfold Yq;refine .op Nk ?_;rw[Qp];refine .cat (R:=fun s1=>(∀z,¬(z=R+2∨z=R+4∨z=R+5)→z≠D→s1.r z=s.r z)∧Fo r s.m s1.m∧(∀i,k≤i→pl s1.m r i=pl s.m r i)∧∃(c:Bool) (v:Nat),s1.r (R+5)=F2 c∧v<18446744073709551616^k∧v+vl (pl s.m n) k=vl (pl s.m r) k+18446744073709551616^k*c.toNat∧vl (pl s1.m r) k=if p=true then vl (pl s.m r) k else v) ?_ fun s1 ⟨g1,E,F,c,v,H,U,v1,I⟩=>?_
 ·refine .lp (fun j s1=>(∀z,¬(z=R+2∨z=R+4∨z=R+5)→z≠D→s1.r z=s.r z)∧Fo r s.m s1.m∧(∀i,j≤i→pl s1.m r i=pl s.m r i)∧∃(c:Bool) (v:Nat),s1.r (R+5)=F2 c∧v<18446744073709551616^j∧v+vl (pl s.m n) j=vl (pl s.m r) j+18446744073709551616^j*c.toNat∧vl (pl s1.m r) j=if p=true then vl (pl s.m r) j else v) ⟨fun z G _=>?_,fun _ _ _=>rfl,fun _ _=>rfl,false,0,by rw[Ez,Ag rfl];rfl,by simp,by simp[vl],by simp[vl]⟩ S (fun j s1 Z ⟨g1,E,F,c,v,H,U,v1,I⟩=>?_) fun _ h=>h
  ·rw[Ez,Ac (by omega)]
  ·refine zoh (j:=j) (c:=c) M (by simp[Ez];omega) (by rw[Ez,Ac (by omega),H]) O y (by omega) (by omega) _ _ fun s2 b f L t2 v2 A=>?_
   have V:(s2.r D).toNat=j:=by rw[A D (by omega) (by omega) (by omega)];simp[Ez];omega
   rw[Gz] at t2 v2 f;rw[F j (Am _)] at t2 v2;rw[E.pl Q (by omega)] at v2;have o:s2.r (R+6)=F2 p:=by rw[A _ (by omega) (by omega) (by omega),Ez,Ac (by omega),g1 _ (by omega) (by omega),K]
   refine .op zm9 (.op (W7 (by simp only[Ez];rw[Ac (by omega)];omega) B) (.nil ⟨fun z G a=>?_,?_,fun i hi=>?_,b,v+(s2.r (R+4)).toNat*18446744073709551616^j,?_,?_,?_,?_⟩))
   ·rw[Kd,Ez,Ac (by omega),A z (by omega) (by omega) (by omega),Ez,Ac a,g1 z G a]
   ·refine E.trans (f ▸ ?_);exact Oh (p:=r) (s:=s2.put _ _) (by rw[Ez,Ac (by omega)];omega)
   ·have w:0+((s2.put (R+4) (if s2.r (R+6)%2=1 then s2.r (R+2) else s2.r (R+4))).r D).toNat=j:=by rw[Ez,Ac (by omega)];omega
    rw[w,Ja,Ac (by omega),Gz,f];exact F i (by omega)
   ·rw[Kd,Ez,Ac (by omega),L]
   ·have:=(s2.r (R+4)).toNat_lt;have J:=At (18446744073709551616^j) (show (s2.r (R+4)).toNat+1≤18446744073709551616 by omega);rw[Bb,Cm] at J;rw[Bi,Bz (18446744073709551616^j)];omega
   ·rw[I4,I4,Bi];exact zck v1 v2
   ·have w:0+((s2.put (R+4) (if s2.r (R+6)%2=1 then s2.r (R+2) else s2.r (R+4))).r D).toNat=j:=by rw[Ez,Ac (by omega)];omega
    rw[I4,w,Ja,Ag rfl,Nn (g:=pl s1.m r) (n:=j) fun i hi=>by rw[Ja,Ac (by omega),Gz,f],I,Ez,Ag rfl,o,t2];have d:=Xx p;cases p
    ·simp at d;simp[d]
    ·simp at d;simp[d,I4]
 ·refine zs4 (c:=c) (by rw[g1 R (by omega) (by omega),N]) H y P _ _ fun s2 b f L t2 v2 A=>?_
  rw[F k (Am _)] at t2 v2;have o:s2.r (R+6)=F2 p:=by rw[A _ (by omega) (by omega) (by omega),g1 _ (by omega) (by omega),K]
  have W:[F1 ((R:Int)+4) ((R:Int)+6) ((R:Int)+2) ((R:Int)+4),Ff r.p (-1) (k:Nat) ((R:Int)+4),cK ((R:Int)+1) 0]=[F1 ((R+4:Nat):Int) ((R+6:Nat):Int) ((R+2:Nat):Int) ((R+4:Nat):Int),Ff r.p (-1) (k:Nat) ((R+4:Nat):Int),cK ((R+1:Nat):Int) 0]:=rfl;rw[W];refine .op zm9 (.op (zpq (by omega) B) (.op Nk (.nil ⟨fun z G X a=>?_,?_,by simp[Ez],b,v+(s2.r (R+4)).toNat*18446744073709551616^k,?_,?_,?_⟩)))
  ·rw[Ez,Ac X,Kd,Ez,Ac (by omega),A z (by omega) (by omega) (by omega),g1 z G a]
  ·refine E.trans (f ▸ ?_);exact Oh (p:=r) (s:=s2.put _ _) (by omega)
  ·have:=(s2.r (R+4)).toNat_lt;have J:=At (18446744073709551616^k) (show (s2.r (R+4)).toNat+1≤18446744073709551616 by omega);rw[Bb,Cm] at J;rw[Bi,Bz (18446744073709551616^k)];omega
  ·rw[I4,Bi];have:=zck (x:=0) v1 (by simpa using v2);simpa using this
  ·rw[Gz,I4,Ja,Ag rfl,Nn (g:=pl s1.m r) (n:=k) fun i hi=>by rw[Ja,Ac (by omega),Gz,f],I,Ez,Ag rfl,o,t2];have d:=Xx p;cases p
   ·simp at d;simp[d]
   ·simp at d;simp[d,I4]
end ex
end Go.Sv
namespace Go.Sv
set_option linter.unusedSimpArgs false
theorem Fm.inn {l:List Pn}{q:Pn}{m m':Nat→Nat→UInt64}(h:Fm l m m')(k:∀p∈l,p.b=q.b∧q.a≤p.a∧p.a+p.k≤q.a+q.k):Fm [q] m m':=fun x y hn=>h x y fun p hp ⟨h1,h2,h3⟩=>hn q (by simp) (by have:=k p hp;omega)
theorem rx_law {P N X v a c c':Nat}(g:c≤1)(d:c'≤1)(j:v<P)(l:v+N=X+P*c)(m:a<P)(o:a+N=X+P*c')(q:X<2*N):(c=1→X%N=X)∧(c=0→a=X%N):=by
 have e:c=0∨c=1:=by omega
 have f:c'=0∨c'=1:=by omega
 have hm:N≤X→X%N=X - N:=fun h=>by rw[Nat.mod_eq_sub_mod h,Bg (by omega)]
 rcases e with rfl | rfl<;>rcases f with rfl | rfl<;>simp at *
 ·have:=hm (by omega);omega
 ·omega
 ·exact Bg (by omega)
 ·exact Bg (by omega)
theorem rx_top {v P b X N Q:Nat}(h:v+P*b=X)(a:b=0∨b=1)(d:X<2*N)(f:N<Q)(g:P=Q*18446744073709551616):v=X:=by
 rcases a with rfl | rfl<;>omega
theorem zpo {p:Pn}{t:Fs}{m:Nat→Nat→UInt64}{i:Nat}{v:UInt64}(h:t.m=m)(hi:i<p.k):Fo p m (t.sto p.b (p.a+i) v).m:=h ▸ Oh hi
section ex
variable {sz : Nat → Nat} {s : Fs}
theorem zts {R D k bits:Nat}{d n r:Pn}(hD:D+1<R)(hd:d.in_ sz)(U:n.in_ sz)(y:r.in_ sz)(kd:k≤d.k)(H:k≤n.k)(kr:r.k=k+1)(V:Dj r n)(dr:Dj d r)(hb:bits≤1000000) :
  Tx sz (Pm d.p n.p r.p k bits R D) s fun I=>(∀z,¬(R≤z∧z≤R+6)→z≠D→z≠D+1→I.r z=s.r z)∧Fm [d,r] s.m I.m∧(0<vl (pl s.m n) k→vl (pl I.m d) k=2^bits%vl (pl s.m n) k):=by
 have aa:=y.1;have ad:=y.2;have e:Pm d.p n.p r.p k bits R D=(E4 [cK (R:Nat) 0,cK ((R+1:Nat):Int) 1]).cat ((Kc r.p (R:Nat) (D:Nat)).cat ((Gj (D:Nat) ((bits+1:Nat):Int) ((Q8 r.p ((k+1:Nat):Int) ((R+2:Nat):Int) ((R+3:Nat):Int) ((R+1:Nat):Int) ((D+1:Nat):Int)).cat ((Oc n.p r.p k R ((D+1:Nat):Int) []).cat ((E4 [Ik ((R+6:Nat):Int) ((R+5:Nat):Int)]).cat ((Oc n.p r.p k R ((D+1:Nat):Int) [F1 ((R:Int)+4) ((R:Int)+6) ((R:Int)+2) ((R:Int)+4),Ff r.p ((D+1:Nat):Int) 0 ((R:Int)+4)]).cat (E4 [F1 ((R:Int)+4) ((R:Int)+6) ((R:Int)+2) ((R:Int)+4),Ff r.p (-1) k ((R:Int)+4),cK ((R:Int)+1) 0])))))).cat (R5 d.p r.p k ((R+2:Nat):Int) (D:Nat)))):=rfl;rw[e];refine .op Nk (.op Nk ?_);rw[Qp];refine (zqc y (by omega)).cat fun s1 ⟨g1,W,X⟩=>?_
 simp only[Gz,Ez,Bs] at g1 W X;have J:∀i,i<r.k→pl s1.m r i=0:=fun i hi=>by rw[X i hi,Ac (by omega)]
 refine .cat (R:=fun s2=>(∀z,¬(R≤z∧z≤R+6)→z≠D→z≠D+1→s2.r z=s.r z)∧s2.r R=0∧Fo r s.m s2.m∧(s2.r (R+1)).toNat≤1∧(0<vl (pl s.m n) k→2*vl (pl s2.m r) (k+1)+(s2.r (R+1)).toNat<2*vl (pl s.m n) k∧(2*vl (pl s2.m r) (k+1)+(s2.r (R+1)).toNat)%vl (pl s.m n) k=2^(bits+1)%vl (pl s.m n) k∧vl (pl s2.m r) (k+1)=2^bits%vl (pl s.m n) k)) ?_ fun s2 ⟨g2,Y,K,Z,v2⟩=>?_
 ·refine .lp (fun i s2=>(∀z,¬(R≤z∧z≤R+6)→z≠D→z≠D+1→s2.r z=s.r z)∧s2.r R=0∧Fo r s.m s2.m∧(s2.r (R+1)).toNat≤1∧(0<vl (pl s.m n) k→2*vl (pl s2.m r) (k+1)+(s2.r (R+1)).toNat<2*vl (pl s.m n) k∧(2*vl (pl s2.m r) (k+1)+(s2.r (R+1)).toNat)%vl (pl s.m n) k=2^i%vl (pl s.m n) k∧(0<i→vl (pl s2.m r) (k+1)=2^(i - 1)%vl (pl s.m n) k)))
   ⟨fun z B f x=>?_,?_,W,?_,fun j=>?_⟩ (by omega) (fun i s2 hi ⟨g2,Y,K,Z,v2⟩=>?_) fun m ⟨a,b,c,d,e⟩=>⟨a,b,c,d,fun j=>⟨(e j).1,(e j).2.1,(e j).2.2 (by omega)⟩⟩
  ·rw[g1 z f,Ac (by omega),Ac (by omega)]
  ·rw[g1 R (by omega),Ac (by omega),Ag rfl]
  ·rw[g1 (R+1) (by omega),Ag rfl];decide
  ·rw[zhx fun i hi=>J i (by omega),g1 (R+1) (by omega),Ag rfl];refine⟨?_,by simp,fun h=>absurd h (by omega)⟩;show 2*0+1<_;omega
  ·have E:∀z,z≠D→(s2.put D (UInt64.ofNat i)).r z=s2.r z:=fun z hz=>by rw[Ez,Ac hz]
   refine (sh_ex (p:=r) (n:=k+1) (l:=R+2) (o:=R+3) (b:=R+1) (D:=D+1) y (by omega) (by omega) (by rw[E _ (by omega)];exact Z)).cat fun m ⟨g3,F,b3,G⟩=>?_
   rw[E (R+1) (by omega),Gz] at G;rw[Gz] at F;have L:m.r R=0:=by rw[g3 R (by omega) (by omega) (by omega) (by omega),E R (by omega),Y]
   refine (take_ex (k:=k) (by omega) L U y H (by omega)).cat fun s4 ⟨g4,m4,c,v,c4,l4,v4⟩=>?_
   refine .op zkq ?_;rw[Qp];have A:∀z,¬Yq R z→z≠R+6→z≠D+1→(s4.put (R+6) (s4.r (R+5))).r z=m.r z:=fun z B f x=>by rw[Ez,Ac f,g4 z B x]
   have C:=K.trans F;refine (keep_ex (p:=c) (k:=k) (by omega) (by rw[A R (by unfold Yq;omega) (by omega) (by omega),L]) (by rw[Ez,Ag rfl,c4]) U y H (by omega) V).mono fun s5 ⟨g5,o5,b5,c',v',l5,M,w5⟩=>?_
   rw[Gz,m4] at o5 M w5;rw[C.vl V H] at v4 M;refine⟨fun z B f x=>?_,?_,C.trans o5,by rw[b5];decide,fun j=>?_⟩
   ·rw[g5 z (by unfold Yq;omega) (by omega) x,A z (by unfold Yq;omega) (by omega) x,g3 z (by omega) (by omega) (by omega) x,E z f,g2 z B f x]
   ·rw[g5 R (by unfold Yq;omega) (by omega) (by omega),A R (by unfold Yq;omega) (by omega) (by omega),L]
   ·obtain⟨N,O,_⟩:=v2 j;have P:=zvr (pl s.m n) k;have Q:(m.r (R+1)).toNat=0∨(m.r (R+1)).toNat=1:=by omega
    have hP:(18446744073709551616:Nat)^(k+1)=18446744073709551616^k*18446744073709551616:=Bi ..;have hX:vl (pl m.m r) (k+1)=2*vl (pl s2.m r) (k+1)+(s2.r (R+1)).toNat:=by
     exact rx_top G Q N P hP
    rw[←hX] at N O;have S:c.toNat≤1:=by cases c<;>decide
    have T:c'.toNat≤1:=by cases c'<;>decide
    obtain⟨q1,q2⟩:=rx_law S T l4 v4 l5 M N;have hV:vl (pl s5.m r) (k+1)=vl (pl m.m r) (k+1)%vl (pl s.m n) k:=by
     rw[w5];cases c
     ·rw[Ac (by simp)];exact q2 rfl
     ·rw[Ag rfl];exact (q1 rfl).symm
    have af:=Df (vl (pl m.m r) (k+1)) j;rw[b5,hV];refine⟨by simp;omega,?_,fun _=>by rw[O,Nat.add_sub_cancel]⟩;show (2*(vl (pl m.m r) (k+1)%vl (pl s.m n) k)+0)%_=_;rw[C6,O,Bi,Bz (2^i)]
    conv=>lhs;rw[B1,Nat.mod_mod,←B1]
 ·refine (V9 (to:=d) (fr:=r) (k:=k) (l:=R+2) (D:=D) hd y kd (by omega) (by omega) dr).mono fun m ⟨g3,F,G⟩=>⟨fun z B f x=>?_,?_,fun j=>?_⟩
  ·rw[g3 z (by omega) f,g2 z B f x]
  ·exact (K.fm (by simp)).trans (F.fm (by simp))
  ·obtain⟨_,_,w⟩:=v2 j;have f:vl (pl s2.m r) (k+1)<18446744073709551616^k:=by
    rw[w];exact Nat.lt_trans (Df _ j) (zvr _ _)
   rw[Nn (g:=pl s2.m r) G,←w,I4];rw[I4] at f;have:(pl s2.m r k).toNat=0:=by
    rcases Nat.eq_zero_or_pos (pl s2.m r k).toNat with q | q
    ·exact q
    ·have:=D6 (18446744073709551616^k) q;omega
   rw[this];omega
def Pw.wk (p:Pw):Pn:=⟨p.wb,p.wa,4*p.k+p.b.k+3+p.k*2^p.w⟩
def Pw.en (p:Pw)(e:Nat):Pn:=⟨p.wb,p.wa+4*p.k+p.b.k+3+e*p.k,p.k⟩
structure PwS (sz:Nat→Nat) (p:Pw):Prop where
 B:16≤p.B∧p.B≤40
 d:p.d.in_ sz
 a:p.a.in_ sz
 b:p.b.in_ sz
 n:p.n.in_ sz
 wk:p.wk.in_ sz
 k:1≤p.k
 kb:p.k≤512
 dk:p.d.k=p.k
 ak:p.a.k=p.k
 nk:p.n.k=p.k
 db:p.d.b≠p.wb
 ab:p.a.b≠p.wb
 bb:p.b.b≠p.wb
 nb:p.n.b≠p.wb
 dn:DjE p.d p.n
 w:1≤p.w∧p.w≤6
 ov:p.over≤63
 ti:p.times*p.w=64*p.b.k+p.over
section pieces
variable {p : Pw}
theorem zrt {e:Nat}(he:e<2^p.w):e*p.k+p.k≤p.k*2^p.w:=by
 have:=At p.k (show e+1≤2^p.w by omega);rw[Bb,Cm,Bz (2^p.w)] at this;exact this
theorem Qn (a:PwS sz p){q:Pn}(d:q.b=p.wb)(g:q.a+q.k≤p.wa+(4*p.k+p.b.k+3+p.k*2^p.w)):q.in_ sz:=by
 have f:=a.wk;unfold Pn.in_ at *;rw[d];simp only[Pw.wk] at f;omega
theorem zft (p:Pw):p.k≤p.k*2^p.w:=Nat.le_mul_of_pos_right _ (Dz _)
theorem or_shl {x o:UInt64}{m:Nat}(hm:m<64)(ho:o.toNat<2^m):(UInt64.ofNat (x.toNat*2^m) ||| o).toNat+18446744073709551616*(x.toNat/2^(64 - m))=2^m*x.toNat+o.toNat:=by
 have f:=x.toNat_lt;have a:(18446744073709551616:Nat)=2^m*2^(64 - m):=by rw[←D4,show m+(64 - m)=64 by omega]
 have d:(UInt64.ofNat (x.toNat*2^m)).toNat=2^m*(x.toNat%2^(64 - m)):=by
  rw[By,show (2:Nat)^64=2^m*2^(64 - m) from a,Bz x.toNat,Nat.mul_mod_mul_left]
 rw[UInt64.toNat_or,d,←Nat.two_pow_add_eq_or_of_lt ho,a];have:=Nat.div_add_mod x.toNat (2^(64 - m));generalize x.toNat/2^(64 - m)=q at *;generalize x.toNat%2^(64 - m)=r at *;rw[←this,Nat.mul_add,Dq];omega
theorem exp_law {P W V r M x q r' v:Nat}(h:v+P*r=M*V)(k:q+W*r'=M*x+r):v+q*P+P*W*r'=M*(V+x*P):=by
 have a:P*(q+W*r')=P*(M*x+r):=by rw[k]
 grind
theorem exp_ex (w:PwS sz p){D:Nat}(S:D<8)(C:s.r p.B=0) :
  Tx sz (p.exp D) s fun E=>(∀z,¬(p.B+2≤z∧z≤p.B+4)→z≠D→E.r z=s.r z)∧Fo p.es s.m E.m∧vl (pl E.m p.es) (p.b.k+1)=vl (pl s.m p.b) p.b.k*2^(64 - p.over):=by
 have T:=w.B.1;have J:=w.b.1;have y:=w.b.2;have A:p.es.in_ sz:=Qn w rfl (by simp only[Pw.es];omega);have K:p.es.a+(p.b.k+1)≤sz p.es.b:=A.1;have f:=A.2;have H:Dj p.es p.b:=.inl w.bb.symm;have L:=w.ov;by_cases B:p.over=0
 ·have e:p.exp D=(E4 [Ik ((p.B+4:Nat):Int) (p.B:Nat)]).cat ((Gj (D:Nat) (p.b.k:Nat) (E4 [E6 ((p.B+3:Nat):Int) p.b.p (D:Nat) ((0:Nat):Int),Ff p.es.p (D:Nat) ((1:Nat):Int) ((p.B+3:Nat):Int)])).cat (E4 [Ff p.es.p (-1) ((0:Nat):Int) (p.B:Nat)])):=by
   unfold Pw.exp Pw.expB Pw.expE;rw[Ag B,Ag B];rfl
  rw[e];refine .op zkq ?_;rw[Qp];refine .cat (R:=fun s1=>(∀z,¬(p.B+2≤z∧z≤p.B+4)→z≠D→s1.r z=s.r z)∧Fo p.es s.m s1.m∧∀i,i<p.b.k→pl s1.m p.es (i+1)=pl s.m p.b i) ?_ fun s1 ⟨g1,l,v1⟩=>?_
  ·refine .lp (fun j s1=>(∀z,¬(p.B+2≤z∧z≤p.B+4)→z≠D→s1.r z=s.r z)∧Fo p.es s.m s1.m∧∀i,i<j→pl s1.m p.es (i+1)=pl s.m p.b i) ⟨fun z o d=>by rw[Ez,Ac (by omega)],fun _ _ _=>rfl,fun _ h=>absurd h (by omega)⟩ (by omega) (fun j s1 M ⟨g1,l,v1⟩=>?_) fun _ h=>h
   have a:(UInt64.ofNat j).toNat=j:=Rv (by omega);have r:¬D=p.B+3:=by omega
   refine .op (Pl (by simp only[Ez,Bs,a];omega) y) (.op (W7 (by simp only[Ez,Ac r,Bs,a];omega) f) (.nil ⟨fun z o d=>?_,?_,fun i hi=>?_⟩))
   ·rw[Kd,Ez,Ac (by omega),Ez,Ac d,g1 z o d]
   ·refine l.trans (Oh (p:=p.es) (s:=(s1.put D (UInt64.ofNat j)).put _ _) ?_);simp only[Ez,Ac r,Bs,a,Pw.es];omega
   ·rw[Ja];simp only[Ez,Gz,Ac r,Bs,a,Be];split
    ·rename_i q;have:i=j:=by omega
     rw[this];exact l.pl H (by omega)
    ·exact v1 i (by omega)
  ·refine .op (zpq (by omega) f) (.nil ⟨fun z o d=>by rw[Kd,g1 z o d],l.trans (Oh (by simp only[Pw.es];omega)),?_⟩);rw[zou,Ja,Ag rfl,g1 p.B (by omega) (by omega),C,Nn (g:=pl s.m p.b) fun i hi=>by
    rw[Ja,Ac (by omega)];exact v1 i hi,B]
   simp;omega
 ·have e:p.exp D=(E4 [Ik ((p.B+4:Nat):Int) (p.B:Nat)]).cat ((Gj (D:Nat) (p.b.k:Nat) (E4 [E6 ((p.B+3:Nat):Int) p.b.p (D:Nat) ((0:Nat):Int),Iu 8 ((p.B+2:Nat):Int) ((p.B+3:Nat):Int) ((64 - p.over:Nat):Int),Ew 6 ((p.B+2:Nat):Int) ((p.B+2:Nat):Int) ((p.B+4:Nat):Int),Ff p.es.p (D:Nat) ((0:Nat):Int) ((p.B+2:Nat):Int),Iu 9 ((p.B+4:Nat):Int) ((p.B+3:Nat):Int) (p.over:Nat)])).cat (E4 [Ff p.es.p (-1) (p.b.k:Nat) ((p.B+4:Nat):Int)])):=by
   unfold Pw.exp Pw.expB Pw.expE;rw[Ac B,Ac B,show (64:Int) - (p.over:Int)=((64 - p.over:Nat):Int) by omega];rfl
  rw[e];refine .op zkq ?_;rw[Qp];refine .cat (R:=fun s1=>(∀z,¬(p.B+2≤z∧z≤p.B+4)→z≠D→s1.r z=s.r z)∧Fo p.es s.m s1.m∧(s1.r (p.B+4)).toNat<2^(64 - p.over)∧vl (pl s1.m p.es) p.b.k+18446744073709551616^p.b.k*(s1.r (p.B+4)).toNat=2^(64 - p.over)*vl (pl s.m p.b) p.b.k) ?_ fun s1 ⟨g1,l,_,v1⟩=>?_
  ·refine .lp (fun j s1=>(∀z,¬(p.B+2≤z∧z≤p.B+4)→z≠D→s1.r z=s.r z)∧Fo p.es s.m s1.m∧(s1.r (p.B+4)).toNat<2^(64 - p.over)∧vl (pl s1.m p.es) j+18446744073709551616^j*(s1.r (p.B+4)).toNat=2^(64 - p.over)*vl (pl s.m p.b) j) ⟨fun z o d=>by rw[Ez,Ac (by omega)],fun _ _ _=>rfl,by rw[Ez,Ag rfl,C];exact Dz _,by rw[Ez,Ag rfl,C];simp[vl]⟩ (by omega) (fun j s1 M ⟨g1,l,N,v1⟩=>?_) fun _ h=>h
   have a:(UInt64.ofNat j).toNat=j:=Rv (by omega);have d2:¬D=p.B+2:=by omega
   have d3:¬D=p.B+3:=by omega
   have d4:¬D=p.B+4:=by omega
   have F:¬p.B+4=D:=by omega
   have I:=or_shl (x:=pl s.m p.b j) (m:=64 - p.over) (by omega) N;rw[show 64 - (64 - p.over)=p.over by omega] at I;refine .op (Pl (by simp only[Ez,Bs,a];omega) y) (.op (zrb (by omega)) (.op zx9 (.op (W7 ?_ f) (.op (zwr (by omega)) (.nil ⟨fun z o d=>?_,?_,?_,?_⟩)))))
   ·simp[Ez,d2,d3,d4,a];omega
   ·have O:¬z=p.B+2:=by omega
    have P:¬z=p.B+3:=by omega
    have Q:¬z=p.B+4:=by omega
    simp[Ez,Kd,O,P,Q,d];exact g1 z o d
   ·refine l.trans ?_;rw[Gz];refine zpo rfl ?_;simp[Ez,d2,d3,d4,a,Pw.es];omega
   ·rw[Ez,Ag rfl,zhh];refine Nat.div_lt_of_lt_mul (Nat.lt_of_lt_of_eq (UInt64.toNat_lt _) ?_);rw[←D4,show p.over+(64 - p.over)=64 by omega]
   ·have G:pl s1.m p.b j=pl s.m p.b j:=l.pl H (by omega);rw[Gz,I4,I4,Ja];simp[Ez,Gz,Kd,d2,d3,d4,F,a,G,-UInt64.toNat_or,-UInt64.toNat_ofNat',-UInt64.ofNat_mul];rw[Nn (g:=pl s1.m p.es) fun i hi=>by rw[Ja,Ac (by omega)];rfl,zhh,Bi];exact exp_law v1 I
  ·refine .op (zpq (by omega) f) (.nil ⟨fun z o d=>by rw[Kd,g1 z o d],l.trans (Oh (by simp only[Pw.es];omega)),?_⟩);rw[I4,Ja,Ag rfl,Nn (g:=pl s1.m p.es) fun i hi=>by rw[Ja,Ac (by omega)],Bz (vl (pl s.m p.b) p.b.k),←v1,Bz (18446744073709551616^p.b.k)]
theorem Wm (g:PwS sz p){D:Nat}(x:D<8)(h:s.r p.B=0)(q:(s.r (p.B+1)).toNat<9223372036854775808) :
  Tx sz (p.shift D) s fun a=>(∀z,¬(p.B+1≤z∧z≤p.B+4)→z≠D→a.r z=s.r z)∧Fo p.es s.m a.m∧∃Hh:Nat,Hh≤1∧(a.r (p.B+1)).toNat=2*(s.r (p.B+1)).toNat+Hh∧vl (pl a.m p.es) (p.b.k+1)+18446744073709551616^(p.b.k+1)*Hh=2*vl (pl s.m p.es) (p.b.k+1):=by
 have y:=g.B.1;have d:p.es.in_ sz:=Qn g rfl (by simp only[Pw.es];omega);have e:p.shift D=(E4 [Ik ((p.B+2:Nat):Int) (p.B:Nat)]).cat ((Q8 p.es.p ((p.b.k+1:Nat):Int) ((p.B+3:Nat):Int) ((p.B+4:Nat):Int) ((p.B+2:Nat):Int) (D:Nat)).cat (E4 [Iu 8 ((p.B+1:Nat):Int) ((p.B+1:Nat):Int) ((1:Nat):Int),Ew 6 ((p.B+1:Nat):Int) ((p.B+1:Nat):Int) ((p.B+2:Nat):Int)])):=rfl;rw[e];refine .op zkq ?_;rw[Qp];refine (sh_ex (p:=p.es) (n:=p.b.k+1) (l:=p.B+3) (o:=p.B+4) (b:=p.B+2) (D:=D) d (by simp[Pw.es]) (by omega) (by rw[Ez,Ag rfl,h];decide)).cat fun s1 ⟨g1,j,m,v1⟩=>?_
 rw[Ez,Ag rfl,h,Gz] at v1;rw[Gz] at j;have f:s1.r (p.B+1)=s.r (p.B+1):=by rw[g1 _ (by omega) (by omega) (by omega) (by omega),Ez,Ac (by omega)]
 refine .op (zrb (by omega)) (.op zx9 (.nil ⟨fun z A r=>?_,j,(s1.r (p.B+2)).toNat,m,?_,?_⟩))
 ·rw[Ez,Ac (by omega),Ez,Ac (by omega),g1 z (by omega) (by omega) (by omega) r,Ez,Ac (by omega)]
 ·have w:¬p.B+2=p.B+1:=by omega
  simp only[Ez,Bs,Ac w,f];rw[T8 m];omega
 ·rw[Gz,Gz];simpa using v1
end pieces
end ex
end Go.Sv
