/- Texts of the evaluator, of the logic over it, of plain arithmetic. -/
import Derived.Test.YtgjbfhmmgeplmaaGreatSvG2
import Derived.Laws.IdiomCopy
import Derived.Laws.Externs
set_option linter.unusedSimpArgs false
set_option linter.defProp false
namespace Go.Sv
variable{g j vZ vT:Nat}{A:Int}{C:World}{Z:List Nat}{v9:Type}{v7:Value}{vL:List Value}{vG:Prop}{U:Heap}{Y:List LV}{X:List Vr}
def U2(k d:Int):Ko:=⟨k,d,-1,-1,-1,-1,0⟩
def Sz:Nat→List Vr→List Ko
 |_,[]=>[]
 |i,v::l=>if Ny v=true then Sz (i+1) l else U2 1 i::Sz (i+1) l
def startOs_len:∀(l:List Vr) (i:Nat),(Sz i l).length≤l.length
 |[],_=>by simp[Sz]
 |v::l,i=>by
  have:=startOs_len l (i+1);unfold Sz;split<;>simp<;>omega
def oq(k:Int):Bool:=decide (k=15) || decide (k=16)
def Q3(g:List Vr)(o:Ko):Bool:=!oq o.kind&&M3 g (Sz 0 g++[o]) []
def ztp(A:List Vr):∀(B g:List Ko) (m j:List Bool) (d z:Int),Ph A m d B=some (j,z)→Ph A m d (B++g)=Ph A j z g
 |[],g,m,j,d,z,h=>B5
 |o::B,g,m,j,d,z,h=>by
  unfold Ph at h;split at h
  ·rename_i C;rw[Jh,Ph,Ih C];exact ztp A B g _ j _ z h
  ·cases h
def zu7{i:Nat}(h:i<X.length)(g:Ny (gv X i)=false):Nn X (U2 1 i)=true:=by
 have e:Qy X.length (i:Int)=true:=bt.2 ⟨J,J⟩;have j:Nat.testBit 1 1=false:=Ah
 have z:Nat.testBit 1 2=false:=Ah
 have A:Nat.testBit 1 3=false:=Ah
 have B:Nat.testBit 1 4=false:=Ah
 simp[Nn,U2,Og,Px,Su,Qb,e,Qz,g,N9,Qx,ba,Pk,j,z,A,B]
def zva(m:List Bool)(i g:Nat)(hi:i<m.length):gb (m.set i true) g=if g=i then true else gb m g:=by
 unfold gb;rw[H9,H9,Lt];by_cases h:i=g
 ·subst h;simp[hi]
 ·rw[Ig h,Ig (λq=>h q.symm)]
def zd3{g:List Vr}:∀(l:List Vr) (i:Nat) (m:List Bool),g.drop i=l→m.length=g.length→(∀j,j<i→gb m j=true)→(∀j,i≤j→j<g.length→gb m j=Ny (gv g j)) →
  ∃A,Ph g m 0 (Sz i l)=some (A,0)∧A.length=g.length∧∀j,j<g.length→gb A j=true
 |[],i,m,hd,C,D,E=>by
  have:g.length≤i:=D9
  exact⟨m,rfl,C,λj F=>D j J⟩
 |v::l,i,m,hd,C,D,E=>by
  have hi:i<g.length:=D9
  have I:=zfy hi;rw[hd]at I;obtain⟨rfl,rfl⟩:=List.cons.inj I;unfold Sz;by_cases G:Ny (gv g i)=true
  ·rw[Ih G];refine zd3 _ (i+1) m rfl C (λj F=>?_) (λj F z=>E j J z);by_cases e:j=i
   ·subst e;rw[E j (Ie _) hi,G]
   ·exact D j J
  ·rw[Ig G];have H:Ny (gv g i)=false:=by simpa using G
   have B:=zu7 hi H;have K:U8 m (U2 1 i)=true:=by simp[U8,Qx,U2]
   obtain⟨A,L,M⟩:=zd3 (g.drop (i+1)) (i+1) (m.set i true) rfl (by simpa using C) (λj F=>by
    rw[zva _ _ _ J];split
    ·rfl
    ·exact D j J) (λj F z=>by rw[zva _ _ _ J,Ig J];exact E j J z)
   refine⟨A,?_,M⟩;rw[Ph,Ih (by rw[B,K];simp[dl,U2])];have O:Ro m (U2 1 i)=m.set i true:=by simp[Ro,U2]
   rw[O];simpa [dl,U2] using L
def ks{vs:List Vr}(h:Ps vs=true):1≤vs.length∧vs.length≤256:=by
 unfold Ps at h;split at h
 ·cases h
 ·simp only[H7,Ii]at h;omega
def vgo_limbs:∀(l:List Vr) (i p r:Nat),Pp i p l=some r→∀v∈l,1≤v.limbs∧v.limbs≤512∧0≤v.mode∧v.mode≤3
 |[],_,_,_,_,v,g=>Ea
 |w::l,i,p,r,h,v,g=>by
  unfold Pp at h;split at h
  ·cases h
  ·rename_i A;have hw:1≤w.limbs∧w.limbs≤512∧0≤w.mode∧w.mode≤3:=by
    simp[Sx]at A;omega
   have j:∀z,Pp (i+1) z l=some r→1≤v.limbs∧v.limbs≤512∧0≤v.mode∧v.mode≤3:=λz B=>by
    rcases Ij.1 g with rfl|g
    ·exact hw
    ·exact vgo_limbs l _ _ r B v g
   split at h
   ·exact j _ h
   ·split at h
    ·cases h
    ·exact j _ h
def Wd{vs:List Vr}(h:Ps vs=true):∀v∈vs,1≤v.limbs∧v.limbs≤512∧0≤v.mode∧v.mode≤3:=by
 unfold Ps at h;split at h
 ·cases h
 ·rename_i p g;exact vgo_limbs vs 0 0 p g
def X9{vs:List Vr}{i:Nat}(h:i<vs.length):gv vs i∈vs:=I8 (Qa h)
def Zx{vs:List Vr}(h:Ps vs=true){v:Int}(g:0≤v)(j:v<vs.length):1≤Pv vs v∧Pv vs v≤512:=by
 have:=Wd h _ (X9 (vs:=vs) (i:=v.toNat) J);exact⟨this.1,this.2.1⟩
def tf(g:List Vr)(o:Ko):Q3 g o=(!oq o.kind&&(Ps g&&Nn g o)):=by
 unfold Q3;cases z:oq o.kind with
 |true=>rfl
 |false =>
  simp only[L8,Kf];unfold M3;cases A:Ps g with
  |false=>rfl
  |true =>
   have K:=ks A;have F:=startOs_len g 0;obtain⟨m,G,L,B⟩:=zd3 g 0 (Rx g) rfl (by simp[Rx]) (λM E=>J) (λM _ E=>by
    unfold gb Rx;rw[H9,J5,Qa E];rfl)
   rw[ztp g _ _ _ _ _ _ G];have H:decide ((Sz 0 g++[o]).length≤4096)=true:=Kg Ab;rw[H];simp only[Kf,List.length_nil,List.all_nil,show decide (0≤4096)=true from rfl];have C:dl o.kind=0:=by simp[oq]at z;simp[dl,z.1,z.2]
   cases D:Nn g o with
   |false=>simp[Ph,D]
   |true =>
    have j:=ztj D;have I:U8 m o=true:=by
     unfold U8;rw[I9];intro v A;have:=j.takes v A;exact B _ J
    have hm:Ua g (Ro m o)=true:=by
     unfold Ua;rw[I9];intro i hi;have hi:=Jk.1 hi;have:gb (Ro m o) i=true:=by
      unfold Ro;split
      ·have:=j.d;rw[zva _ _ _ J];split
       ·rfl
       ·exact B i hi
      ·exact B i hi
     simp[this]
    simp[Ph,D,I,C,hm]
def Sk(k:Int):Bool:=(decide (1≤k)&&decide (k≤11)) || decide (k=14)
def zoy(n:Int):Int:=2*n+4*(n-n/2+1)
def W8(g:List Vr)(o:Ko):Int :=
 if (Sk o.kind&&Q3 g o)=true then
  (if o.kind=5 then Pv g o.a+Pv g o.b else if o.kind=6 then zoy (Pv g o.a) else if o.kind=9∨o.kind=10∨o.kind=11 then 2*(Pv g o.c+1) else 1)
 else 0
def t8(g:List Vr)(o:Ko):Int:=if (decide (o.kind=12)&&Q3 g o)=true then Pv g o.c+2 else 0
def uo(g:List Vr)(o:Ko):Int:=if (decide (o.kind=13)&&Q3 g o)=true then (3+2^o.imm.toNat)*Pv g o.c+Pv g o.b+1+(Pv g o.c+2) else 0
def zln{o:Ko}{s:Nat}(h:Nn X o=true)(g:Og o.kind=some s):Su X.length s o=true∧Px o=true∧ba X o=true:=by
 unfold Nn at h;split at h
 ·rename_i j;rw[j]at g;simp[Og]at g
 ·rw[g]at h;simp only[H7]at h;exact⟨h.2.1,h.1,h.2.2.2.2.2⟩
def oc{o:Ko}{s:Nat}(h:Q3 X o=true)(g:Og o.kind=some s):Ps X=true∧Su X.length s o=true∧Px o=true∧ba X o=true:=by
 rw[tf]at h;simp only[H7]at h;exact⟨h.2.1,zln h.2.2 g⟩
def zvq{n s:Nat}{o:Ko}(h:Su n s o=true)(g:s.testBit 2=true):0≤o.a∧o.a<n:=by
 simp only[Su,H7]at h;exact R4 h.2.2.1 g
def zw0{n s:Nat}{o:Ko}(h:Su n s o=true)(g:s.testBit 3=true):0≤o.b∧o.b<n:=by
 simp only[Su,H7]at h;exact R4 h.2.2.2.1 g
def vr{n s:Nat}{o:Ko}(h:Su n s o=true)(g:s.testBit 4=true):0≤o.c∧o.c<n:=by
 simp only[Su,H7]at h;exact R4 h.2.2.2.2 g
def ic(j:Ps X=true){v:Int}(h:0≤v∧v<X.length):∃k:Nat,v=k∧k<X.length∧(Nb X)[k*3]?=some (.i (Pv X v))∧1≤Pv X v∧Pv X v≤512:=by
 obtain⟨k,rfl⟩:=Ip h.1;have g:k<X.length:=J
 have:=Zx j h.1 h.2;exact⟨k,rfl,g,bn (Qa g),this⟩
abbrev TVr:={ n:Int // Q5 n }×Bool×{ n:Int // Q5 n }×Unit
abbrev TKo:={ n:Int // Q5 n }×{ n:Int // Q5 n }×{ n:Int // Q5 n }×{ n:Int // Q5 n }×{ n:Int // Q5 n }×{ n:Int // Q5 n }×UInt64×Unit
def vrT(e:TVr):Vr:=⟨e.1.1,e.2.1,e.2.2.1.1⟩
def n4(e:TKo):Ko:=⟨e.1.1,e.2.1.1,e.2.2.1.1,e.2.2.2.1.1,e.2.2.2.2.1.1,e.2.2.2.2.2.1.1,e.2.2.2.2.2.2.1⟩
def flat_vr:∀l:List TVr,l.flatMap (λx=>[LV.i x.1.1,LV.bool x.2.1,LV.i x.2.2.1.1])=Nb (l.map vrT)
 |[]=>rfl
 |x::l=>by rw[J6,flat_vr l];rfl
def flat_ko:∀l:List TKo,l.flatMap (λx=>[LV.i x.1.1,LV.i x.2.1.1,LV.i x.2.2.1.1,LV.i x.2.2.2.1.1,LV.i x.2.2.2.2.1.1,LV.i x.2.2.2.2.2.1.1,LV.u x.2.2.2.2.2.2.1])=N3 (l.map n4)
 |[]=>rfl
 |x::l=>by rw[J6,flat_ko l];rfl
def Sw(g:List Vr)(o:Ko)(s i:Nat):Bool:=(List.range i).any λj=>s.testBit j&&((decide (2≤j) || decide (o.kind=14))&&(gv g (gd (Ob o) j).toNat).sec)
def yn{n s i:Nat}{v:Int}(h:Qb n s i v=true):s.testBit i=!decide (v<0):=by
 unfold Qb at h;split at h
 ·rename_i g;have:=bt.1 h;rw[g];simp;omega
 ·rename_i g;have:v=-1:=Ku h;subst this;simpa using g
def zmj(g:List Vr)(o:Ko)(s i:Nat):Sw g o s (i+1)=(Sw g o s i || (s.testBit i&&((decide (2≤i) || decide (o.kind=14))&&(gv g (gd (Ob o) i).toNat).sec))):=by
 simp[Sw,Mg,List.any_append]
def qt{o:Ko}{n s:Nat}(A:Og o.kind=some s)(j:Su n s o=true):Sw X o s 5=N9 X o:=by
 simp only[Su,H7]at j;obtain⟨hd,z,B,C,D⟩:=j;have g:o.kind=14→s=19:=λh=>by have:=zbs A;omega
 rw[show (5:Nat)=0+1+1+1+1+1 by rfl];simp only[zmj];rw[show Sw X o s 0=false from rfl];rw[yn hd,yn z,yn B,yn C,yn D];have E:gd (Ob o) 0=o.d:=rfl;have F:gd (Ob o) (0+1)=o.e:=rfl;have G:gd (Ob o) (0+1+1)=o.a:=rfl;have H:gd (Ob o) (0+1+1+1)=o.b:=rfl;have I:gd (Ob o) (0+1+1+1+1)=o.c:=rfl;rw[E,F,G,H,I];unfold N9 Qx;rw[List.any_append,List.any_filter];by_cases k:o.kind=14
 ·have:=g k;subst this;have M:=R4 hd Ah;have O:=R4 z Ah;have K:decide (o.d<0)=false:=Ab
  have L:decide (o.e<0)=false:=Ab
  simp[k,K,L,Bool.or_comm,Bool.or_assoc]
 ·simp[k,Bool.or_assoc]
def Sn(m:List Bool)(o:Ko)(i:Nat):Bool:=(List.range i).all λg=>!(!decide (gd (Ob o) g<0)&&(decide (2≤g) || decide (o.kind=14))) || gb m (gd (Ob o) g).toNat
def zkm(m:List Bool)(o:Ko)(i:Nat):Sn m o (i+1)=(Sn m o i&&(!(!decide (gd (Ob o) i<0)&&(decide (2≤i) || decide (o.kind=14))) || gb m (gd (Ob o) i).toNat)):=by
 simp[Sn,Mg,List.all_append]
def Zd{n:Nat}{m:List Bool}{o:Ko}(g:PartsIn n o):Sn m o 5=U8 m o:=by
 rw[show (5:Nat)=0+1+1+1+1+1 by rfl];simp only[zkm];rw[show Sn m o 0=true from rfl];have j:gd (Ob o) 0=o.d:=rfl;have z:gd (Ob o) (0+1)=o.e:=rfl;have A:gd (Ob o) (0+1+1)=o.a:=rfl;have B:gd (Ob o) (0+1+1+1)=o.b:=rfl;have C:gd (Ob o) (0+1+1+1+1)=o.c:=rfl;rw[j,z,A,B,C];unfold U8 Qx;rw[List.all_append,List.all_filter];by_cases k:o.kind=14
 ·have hd:=g.takes o.d (by simp[Qx,k]);have F:=g.takes o.e (by simp[Qx,k]);have D:decide (o.d<0)=false:=Ab
  have E:decide (o.e<0)=false:=Ab
  simp[k,D,E,Bool.and_comm,Bool.and_assoc]
 ·simp[k,Bool.and_assoc]

def Y8(n:Int):Nat:=2^(64*n.toNat)
def Fr.once:Fr Ko→Prop
 |.nil=>True
 |.op _ r=>r.once
 |.loop o b _ r=>1≤o.imm.toNat∧b.once∧r.once
def xe{o:Ko}:Qc o=1↔o.kind=15:=Ey
def kd_2{o:Ko}:Qc o=2↔o.kind=16:=by
 unfold Qc;by_cases h:o.kind=15
 ·simp[h]
 ·by_cases g:o.kind=16<;>simp[h,g]
def zu6{j:List Vr}:∀(l:List Ko) (m:List Bool) (d:Int) (r:List Bool×Int),Ph j m d l=some r→∀o∈l,Nn j o=true
 |[],_,_,_,_,o,g=>Ea
 |x::l,m,d,r,h,o,g=>by
  unfold Ph at h;split at h
  ·rename_i z;simp only[H7]at z;rcases Ij.1 g with rfl|g
   ·exact z.1
   ·exact zu6 l _ _ r h o g
  ·cases h
def zj8{A:List Vr}:∀(f:Fr Ko),f.wf Qc→(∀o∈f.flat,Nn A o=true)→f.once
 |.nil,_,_=>trivial
 |.op _ r,w,h=>zj8 r w.2 λo B=>h o (Jc _ B)
 |.loop o b e r,w,h=>by
  obtain⟨C,G,D,E⟩:=w;refine⟨?_,zj8 b D λx j=>h x (by simp[Fr.flat,j]),zj8 r E λx j=>h x (by simp[Fr.flat,j])⟩;have g:=xe.1 C;have F:=h o (by simp[Fr.flat]);obtain⟨_,z,_⟩:=zln (s:=0) F (by simp[Og,g]);simp[Px,g]at z;have:=z.1;rw[UInt64.le_iff_toNat_le]at this;exact this


def ac:List Bool→List Ko→Option (List Bool)
 |m,[]=>some m
 |m,o::l=>if U8 m o=true then ac (Ro m o) l else none
def Fr.deep:Fr Ko→Nat
 |.nil=>0
 |.op _ r=>r.deep
 |.loop _ b _ r=>max (1+b.deep) r.deep
def mkO_app:∀(a b:List Ko) (m:List Bool),ac m (a++b)=match ac m a with
  |none=>none
  |some m1=>ac m1 b
 |[],_,_=>rfl
 |o::a,b,m=>by
  simp only[Jh,ac];split
  ·exact mkO_app a b _
  ·rfl
def zey{H:List Vr}:∀(f:Fr Ko) (m:List Bool) (d:Int) (g:List Ko) (r:List Bool×Int),f.wf Qc→0≤d→d≤4→Ph H m d (f.flat++g)=some r→d+f.deep≤4∧∃C,ac m f.flat=some C∧Ph H C d g=some r
 |.nil,m,d,g,r,_,_,D,h=>⟨by simp[Fr.deep];omega,m,rfl,h⟩
 |.op o f,m,d,g,r,w,E,D,h=>by
  have K:o.kind≠15:=λh=>by have:=w.1;simp[Qc,h]at this
  have L:o.kind≠16:=λh=>by have:=w.1;simp[Qc,h]at this
  simp only[Fr.flat,Jh]at h;unfold Ph at h;split at h
  ·rename_i z;simp only[H7]at z;rw[dl,Ig K,Ig L,Int.add_zero]at h;obtain⟨I,C,F,j⟩:=zey f _ d g r w.2 E D h;exact⟨I,C,by simp only[Fr.flat,ac,z.2.1,Kw];exact F,j⟩
  ·cases h
 |.loop o b e f,m,d,g,r,w,E,D,h=>by
  obtain⟨M,O,P,Q⟩:=w;have A:=xe.1 M;have G:=kd_2.1 O;simp only[Fr.flat,Jh,Iz]at h;unfold Ph at h;split at h
  ·rename_i z;simp only[H7,Ii]at z;rw[dl,Ih A]at h;have hd:=z.2.2.2;rw[dl,Ih A]at hd;obtain⟨I,m1,F,j⟩:=zey b _ (d+1) _ r P J hd h;unfold Ph at j;split at j
   ·rename_i B;simp only[H7,Ii]at B;rw[dl,Ig J,Ih G,(J:d+1+-1=d)]at j;obtain⟨U,R,S,T⟩:=zey f _ d g r Q E D j;refine⟨by simp only[Fr.deep];omega,R,?_,T⟩;simp only[Fr.flat,ac,z.2.1,Kw];rw[mkO_app,F];simp only[ac,B.2.1,Kw];exact S
   ·cases j
  ·cases h
def Xb{z D:List Ko}(h:M3 X z D=true):∃f:Fr Ko,f.wf Qc∧z=f.flat∧f.once∧(∀o∈f.flat,Nn X o=true)∧f.deep≤4∧∃j,ac (Rx X) f.flat=some j∧Ua X j=true:=by
 unfold M3 at h;simp only[H7,Ii]at h;obtain⟨G,H,I,K,g⟩:=h;split at g
 ·cases g
 ·rename_i m L A;simp only[H7,Ii]at g;obtain⟨g,rfl⟩:=g;obtain⟨f,w,E⟩:=gh (xg z _ m 0 Bi);subst E;have B:=zu6 _ _ _ _ A;obtain⟨M,j,F,C⟩:=zey f (Rx X) 0 [] (m,0) w J J Bi;have hm:j=m:=by
   unfold Ph at C;simpa using C
  subst hm;exact⟨f,w,rfl,zj8 f w B,B,J,j,F,g⟩
def Fr.map{α:Type}(g:α→α):Fr α→Fr α
 |.nil=>.nil
 |.op o r=>.op (g o) (r.map g)
 |.loop o b e r=>.loop (g o) (b.map g) (g e) (r.map g)
def inV(vs:List Vr):List Nat:=(List.range vs.length).filter λi=>Ny (gv vs i)
def outV(vs:List Vr):List Nat:=(List.range vs.length).filter λi=>decide ((gv vs i).mode=3)
def dv(vs:List Vr)(ns:List Nat):Bool:=((inV vs).zip ns).all λp=>decide (p.2<Y8 (gv vs p.1).limbs)
def Pu(vs:List Vr)(g j:List Ko)(ns:List Nat):Int:=if M3 vs g j=true then (if (inV vs).length=ns.length then (if dv vs ns=true then 0 else 3) else 2) else 2
def m9{i:Nat}(h:i∈inV X):i<X.length:=by
 have:=(Kz.1 h).1;simpa using this
def zsu{vs:List Vr}{i:Nat}(h:i∈outV vs):i<vs.length:=by
 have:=(Kz.1 h).1;simpa using this

def Xp(a:List UInt64):(LU a).dat=true:=by
 simp only[LU,LV.dat];exact Wi (λ_=>rfl) a
def Yq{a b:List Nat}{j:Nat}(g:j<a.length)(z:j<b.length):(a.zip b)[j]?=some (a.getD j 0,b.getD j 0):=by
 simp[List.getElem?_zip_eq_some,H9,g,z]
def zcy{vs:List Vr}{ns:List Nat}(B:(inV vs).length=ns.length):dv vs ns=true↔∀j,j<ns.length→ns.getD j 0<Y8 (gv vs ((inV vs).getD j 0)).limbs:=by
 unfold dv;rw[I9];constructor
 ·intro h j z;have:=h _ (I8 (Yq (a:=inV vs) (b:=ns) J z));exact Ku this
 ·intro h p A;obtain⟨j,z,rfl⟩:=Ks.1 A;have g:j<ns.length:=by simp at z;omega
  have e:=Yq (a:=inV vs) (b:=ns) (j:=j) J g;rw[H8 z]at e;rw[Option.some.inj e];exact Kg (h j g)
def zjs(n:Nat)(l:Int)(h:0≤l):((Ow n).length:Int)≤l↔n<Y8 l:=by
 unfold Y8;rw[←zo3];omega
def inV_len(vs:List Vr):(inV vs).length≤vs.length:=by
 have:=K6 (λi=>Ny (gv vs i)) (List.range vs.length);simpa [inV] using this
def Ww{vs:List Vr}{j:Nat}(h:j<(inV vs).length):(inV vs).getD j 0<vs.length:=by
 have:(inV vs).getD j 0∈inV vs:=by
  rw[H9,H8 h];exact K3 h
 exact m9 this
def On(p:Vr→Bool)(vs:List Vr)(n:Nat):List Nat:=(List.range n).filter λi=>p (gv vs i)
def ji(p:Vr→Bool)(vs:List Vr)(n:Nat):On p vs (n+1)=On p vs n++if p (gv vs n)=true then [n] else []:=by
 unfold On;rw[Mg,List.filter_append]
 congr 1
 by_cases h:p (gv vs n)=true<;>simp[h]
def x5(p:Vr→Bool)(vs:List Vr)(n:Nat):(On p vs n).length≤n:=by
 have:=K6 (λi=>p (gv vs i)) (List.range n);simpa [On] using this
def iw(vs:List Vr):inV vs=On Ny vs vs.length:=rfl
def vu(vs:List Vr):outV vs=On (λv=>decide (v.mode=3)) vs vs.length:=rfl
def U0(vs:List Vr)(g j:List Ko):List Nat:=if M3 vs g j=true then inV vs else []
def Ul(vs:List Vr)(g j:List Ko):List Nat:=if M3 vs g j=true then outV vs else []

def mh{j:Type}{f:j→List LV}{k:Nat}(g:∀a,(f a).length=k):∀(l:List j) (i:Nat),(l.flatMap f).take (i*k)=(l.take i).flatMap f
 |[],i=>N
 |a::l,0=>N
 |a::l,i+1=>by
  rw[J6,List.take_succ_cons,J6,I2,Lv,List.take_append,Io (by rw[g];omega),g,Nat.add_sub_cancel,mh g l i]
abbrev Hl:=Int×Int
def Ys(x y:Hl):Prop:=x.2≤y.1∨y.2≤x.1
def Ap(g:Int)(l:List Hl):Prop:=l.Pairwise Ys∧∀h∈l,0≤h.1∧h.1<h.2∧h.2≤g
def zc3{x y:Hl}(h:Ys x y):Ys y x:=Or.symm h
def Ap.perm{s:Int}{l m:List Hl}(h:Ap s l)(p:l.Perm m):Ap s m:=⟨(p.pairwise_iff (λ{_ _} h=>zc3 h)).1 h.1,λx hx=>h.2 x (p.mem_iff.2 hx)⟩
def Ap.split{s a b n:Int}{l:List Hl}(h:Ap s ((a,b)::l))(hn:1≤n)(hb:a+n<b):Ap s ((a,a+n)::(a+n,b)::l):=by
 obtain⟨h1,h2⟩:=h;obtain⟨q1,q2⟩:=Jv.1 h1;have g:=h2 (a,b) (J9 ..);dsimp only at g;refine⟨Jv.2 ⟨λy hy=>?_,Jv.2 ⟨λy hy=>?_,q2⟩⟩,λx hx=>?_⟩
 ·rcases Ij.1 hy with rfl|hy
  ·exact .inl (Kt _)
  ·have:=q1 y hy;unfold Ys at this ⊢;dsimp only at this ⊢;omega
 ·have:=q1 y hy;unfold Ys at this ⊢;dsimp only at this ⊢;omega
 ·rcases Ij.1 hx with rfl|hx
  ·dsimp only;omega
  ·rcases Ij.1 hx with rfl|hx
   ·dsimp only;omega
   ·exact h2 x (Jc _ hx)
def Ap.join{s a b c:Int}{l:List Hl}(h:Ap s ((a,b)::(b,c)::l)):Ap s ((a,c)::l):=by
 obtain⟨h1,h2⟩:=h;obtain⟨q1,q2⟩:=Jv.1 h1;obtain⟨q3,q4⟩:=Jv.1 q2;have g1:=h2 (a,b) (J9 ..);have g2:=h2 (b,c) (Jc _ (J9 ..));dsimp only at g1 g2;refine⟨Jv.2 ⟨λy hy=>?_,q4⟩,λx hx=>?_⟩
 ·have t1:=q1 y (Jc _ hy);have t2:=q3 y hy;have t3:=h2 y (Jc _ (Jc _ hy));unfold Ys at t1 t2 ⊢;dsimp only at t1 t2 ⊢;omega
 ·rcases Ij.1 hx with rfl|hx
  ·dsimp only;omega
  ·exact h2 x (Jc _ (Jc _ hx))
def Ap.new{s n:Int}{l:List Hl}(h:Ap s l)(hs:0≤s)(hn:1≤n):Ap (s+n) ((s,s+n)::l):=by
 refine⟨Jv.2 ⟨λy hy=>?_,h.1⟩,λx hx=>?_⟩
 ·have:=h.2 y hy;exact .inr this.2.2
 ·rcases Ij.1 hx with rfl|hx
  ·dsimp only;omega
  ·have:=h.2 x hx;omega
def Vi(n:Int):List Hl→Option (Int×List Hl)
 |[]=>none
 |h::l=>if h.2-h.1<n then (match Vi n l with
   |none=>none
   |some r=>some (r.1,h::r.2)) else some (h.1,if h.1+n=h.2 then l else (h.1+n,h.2)::l)
def zq7{s n:Int}(B:1≤n):∀(z A:List Hl) (a:Int) (j:List Hl),Ap s (A++z)→Vi n z=some (a,j)→Ap s ((a,a+n)::(A++j))
 |[],_,_,_,_,h=>Ak
 |(x,y)::z,A,a,j,C,h=>by
  unfold Vi at h;split at h
  ·split at h
   ·cases h
   ·rename_i r D;simp only[Option.some.injEq,Prod.mk.injEq]at h;obtain⟨rfl,rfl⟩:=h;have g:Ap s (((x,y)::A)++z):=C.perm J3;have:=zq7 B z ((x,y)::A) r.1 r.2 g D;exact this.perm (List.Perm.cons _ J3.symm)
  ·rename_i hw;simp only[Option.some.injEq,Prod.mk.injEq]at h;dsimp only at hw h;obtain⟨rfl,rfl⟩:=h;have g:Ap s ((x,y)::(A++z)):=C.perm J3;split
   ·rename_i e;rw[e];exact g
   ·exact (g.split B J).perm (List.Perm.cons _ J3.symm)
def Rl:List Hl→List Hl
 |x::y::l=>if x.2=y.1 then Rl ((x.1,y.2)::l) else x::Rl (y::l)
 |l=>l
termination_by l=>l.length
def zjo{s:Int}:∀(n:Nat) (B j:List Hl),B.length≤n→Ap s (j++B)→Ap s (j++Rl B)
 |_,[],j,_,h=>by unfold Rl;exact h
 |_,[x],j,_,h=>by unfold Rl;exact h
 |0,_::_::_,_,z,_=>by simp at z
 |n+1,(A,g)::(E,C)::B,j,z,h=>by
  unfold Rl;split
  ·rename_i e;dsimp only at e ⊢;subst e;refine zjo n _ j (by simp at z ⊢;omega) ?_;have D:Ap s ((A,g)::(j++(g,C)::B)):=h.perm J3;have F:Ap s ((A,g)::(g,C)::(j++B)):=D.perm (List.Perm.cons _ J3);exact F.join.perm J3.symm
  ·have D:Ap s ((j++[(A,g)])++(E,C)::B):=Aw
   have:=zjo n _ (j++[(A,g)]) (by simp at z ⊢;omega) D;simpa using this
def ib{s:Int}{j g:List Hl}{h:Hl}(i B:Nat)(z:Ap s (h::(j++g))):Ap s (j++((g.take i++h::g.drop i).take B++Rl ((g.take i++h::g.drop i).drop B))):=by
 have p:(g.take i++h::g.drop i).Perm (h::g):=by
  have:(g.take i++h::g.drop i).Perm (h::(g.take i++g.drop i)):=J3
  rwa [Jp]at this
 have A:Ap s (j++(g.take i++h::g.drop i)):=z.perm ((J3.symm).trans (List.Perm.append_left _ p.symm));rw[←Iz];refine zjo _ _ _ (Ie _) ?_;rw[Iz,Jp];exact A
variable{vS:List Hl}
structure St where
 holes:List Hl
 size:Int
def To(z:Nat→Hl)(j:Nat→Bool)(s:Bool)(g:List Nat):List Hl:=(g.filter λv=>j v==s).map z
def Wr(g:Nat→Hl)(v:Nat)(x:Hl):Nat→Hl:=λw=>if w=v then x else g w
def Rp(g:Bool→St)(s:Bool)(x:St):Bool→St:=λt=>if t=s then x else g t
def zmq(A:Bool→Int)(B:Nat→Hl)(j:Nat→Bool)(g:List Nat)(z:Bool→St):Prop :=
 ∀s,0≤(z s).size∧Ap (z s).size ((0,A s)::(To B j s g++(z s).holes))
def cn(i g:Nat)(h:Hl)(H:List Hl):List Hl:=(H.take i++h::H.drop i).take g++Rl ((H.take i++h::H.drop i).drop g)
def Oz(n:Int)(s:St):Int×St:=match Vi n s.holes with
 |some (a,g)=>(a,⟨g,s.size⟩)
 |none=>(s.size,⟨s.holes,s.size+n⟩)
def zoo(j:Nat→Hl)(g:Nat→Bool)(s:Bool)(x y:List Nat):To j g s (x++y)=To j g s x++To j g s y:=by simp[To]
def zqs(j:Nat→Hl)(g:Nat→Bool)(s:Bool)(v:Nat)(y:List Nat):To j g s (v::y)=(if g v=s then [j v] else [])++To j g s y:=by
 unfold To;rw[List.filter_cons];by_cases h:g v=s
 ·simp[h]
 ·simp[h]
def ci{j:Nat→Hl}{g:Nat→Bool}{s:Bool}{v:Nat}{x:Hl}{l:List Nat}(h:v ∉ l):To (Wr j v x) g s l=To j g s l:=by
 unfold To;apply List.map_congr_left;intro w hw;have:w≠v:=λe=>h (e ▸ (Kz.1 hw).1)
 simp[Wr,this]
def ef{B:Bool→Int}{A:Nat→Hl}{g:Nat→Bool}{x y:List Nat}{v:Nat}{z:Bool→St}(i D:Nat)(h:zmq B A g (x++v::y) z):zmq B A g (x++y) (Rp z (g v) ⟨cn i D (A v) (z (g v)).holes,(z (g v)).size⟩):=by
 intro s;obtain⟨C,j⟩:=h s;rw[zoo,zqs]at j;rw[zoo];by_cases e:s=g v
 ·subst e;rw[Ih rfl]at j;simp only[Rp,Kw];refine⟨C,?_⟩;rw[←Jh];refine ib i D ?_;refine j.perm ?_;rw[Iz];refine (List.Perm.cons _ J3).trans ?_;refine (List.Perm.swap ..).trans (List.Perm.cons _ ?_);simp
 ·rw[Ig (λq=>e q.symm),Ky]at j;simp only[Rp,Ig e];exact⟨C,j⟩
def zib{n:Int}(g:1≤n)(s:St):s.size≤(Oz n s).2.size∧(Oz n s).2.size≤s.size+n:=by
 unfold Oz;split
 ·exact⟨Kt _,Am⟩
 ·exact⟨Am,Kt _⟩
def zqd{n:Int}(g:1≤n){B:List Hl}{s:St}(j:0≤s.size)(h:Ap s.size (B++s.holes)):Ap (Oz n s).2.size (((Oz n s).1,(Oz n s).1+n)::(B++(Oz n s).2.holes)):=by
 unfold Oz;split
 ·rename_i a z e;exact zq7 g _ _ _ _ h e
 ·exact h.new j g
def f9{z:Bool→Int}{A:Nat→Hl}{g:Nat→Bool}{v:Nat}{j:Bool→St}{n:Int}(C:1≤n)(F:v ∉ Z)(h:zmq z A g Z j) :
  zmq z (Wr A v ((Oz n (j (g v))).1,(Oz n (j (g v))).1+n)) g (Z++[v]) (Rp j (g v) (Oz n (j (g v))).2):=by
 intro s;obtain⟨D,E⟩:=h s;rw[zoo,zqs,ci F];by_cases e:s=g v
 ·subst e;simp only[Rp,Kw];have G:=zib C (j (g v));refine⟨J,?_⟩;have q:=zqd C (B:=(0,z (g v))::To A g (g v) Z) D E;refine q.perm ?_;simp only[Wr,Kw,To,List.filter_nil,Mn,Jd,Iz,Jh,Ky];refine (List.Perm.swap ..).trans (List.Perm.cons _ ?_);exact J3.symm
 ·rw[Ig (λq=>e q.symm)];simp only[Rp,Ig e];refine⟨D,?_⟩;simpa [To] using E
structure Plan0 (wk:Bool→Int) (a b M8:Nat→Int) (sec:Nat→Bool) (done busy:List Nat) (iv:Nat→Hl) (ps:Bool→St) (cur:Int):Prop where
 ok:zmq wk iv sec busy ps
 wide:∀v∈done,(iv v).2=(iv v).1+M8 v
 nd:busy.Nodup
 sub:∀v∈busy,v∈done
 over:∀v∈done,v ∉ busy→b v<cur
 pairs:∀v∈done,∀w∈done,v≠w→sec v=sec w→Ys (iv v) (iv w)∨b v<a w∨b w<a v
 inn:∀v∈done,0≤(iv v).1∧(iv v).2≤(ps (sec v)).size∧Ys (0,wk (sec v)) (iv v)
 sz:(ps false).size+(ps true).size≤wk false+wk true+(done.map M8).sum
def e9{j:Nat→Hl}{g:Nat→Bool}{v:Nat}{l:List Nat}(h:v∈l):j v∈To j g (g v) l:=Lz.2 ⟨v,Kz.2 ⟨h,N⟩,rfl⟩
def Plan0.give{wk:Bool→Int}{a b M8:Nat→Int}{sec:Nat→Bool}{done x y:List Nat}{v:Nat}{iv:Nat→Hl}{ps:Bool→St}{cur j:Int}(i gg:Nat)(h:Plan0 wk a b M8 sec done (x++v::y) iv ps cur)(hc:cur≤j)(hb:b v<j) :
  Plan0 wk a b M8 sec done (x++y) iv (Rp ps (sec v) ⟨cn i gg (iv v) (ps (sec v)).holes,(ps (sec v)).size⟩) j:=by
 have sz:∀s,(Rp ps (sec v) ⟨cn i gg (iv v) (ps (sec v)).holes,(ps (sec v)).size⟩ s).size=(ps s).size:=by
  intro s;unfold Rp;split
  ·rename_i e;rw[e]
  ·rfl
 refine⟨ef i gg h.ok,h.wide,?_,λw hw=>h.sub w ?_,λw hw hn=>?_,h.pairs,λw hw=>by rw[sz];exact h.inn w hw,by rw[sz,sz];exact h.sz⟩
 ·have:=h.nd;rw[List.nodup_append]at this ⊢;obtain⟨q1,q2,q3⟩:=this;exact⟨q1,(List.nodup_cons.1 q2).2,λp hp q hq=>q3 p hp q (Jc _ hq)⟩
 ·rcases Iy.1 hw with hw|hw
  ·exact Kc _ hw
  ·exact J8 _ (Jc _ hw)
 ·by_cases e:w=v
  ·rw[e];exact hb
  ·have:w ∉ x++v::y:=by
    intro hm;rcases Iy.1 hm with hm|hm
    ·exact hn (Kc _ hm)
    ·rcases Ij.1 hm with hm|hm
     ·exact e hm
     ·exact hn (J8 _ hm)
   have:=h.over w hw this;omega
def Plan0.take{wk:Bool→Int}{a b M8:Nat→Int}{sec:Nat→Bool}{done busy:List Nat}{v:Nat}{iv:Nat→Hl}{ps:Bool→St}(h:Plan0 wk a b M8 sec done busy iv ps (a v))(hv:v ∉ done)(hl:1≤M8 v) :
  Plan0 wk a b M8 sec (done++[v]) (busy++[v]) (Wr iv v ((Oz (M8 v) (ps (sec v))).1,(Oz (M8 v) (ps (sec v))).1+M8 v)) (Rp ps (sec v) (Oz (M8 v) (ps (sec v))).2) (a v):=by
 have gj:v ∉ busy:=λhm=>hv (h.sub v hm)
 have hk:=f9 hl gj h.ok;have old:∀w∈done,Wr iv v ((Oz (M8 v) (ps (sec v))).1,(Oz (M8 v) (ps (sec v))).1+M8 v) w=iv w:=λw hw=>by
  have:w≠v:=λe=>hv (e ▸ hw)
  simp[Wr,this]
 have nw:Wr iv v ((Oz (M8 v) (ps (sec v))).1,(Oz (M8 v) (ps (sec v))).1+M8 v) v=((Oz (M8 v) (ps (sec v))).1,(Oz (M8 v) (ps (sec v))).1+M8 v):=by simp[Wr]
 have hz:=zib hl (ps (sec v));have gD:∀s,(ps s).size≤(Rp ps (sec v) (Oz (M8 v) (ps (sec v))).2 s).size:=by
  intro s;unfold Rp;split
  ·rename_i e;rw[e];exact hz.1
  ·exact Kt _
 have hA:=zqd hl (B:=(0,wk (sec v))::To iv sec (sec v) busy) (h.ok (sec v)).1 (h.ok (sec v)).2;obtain⟨p1,p2⟩:=Jv.1 hA.1;have g:=hA.2 _ (J9 ..);dsimp only at g;have nb:∀w∈done,sec v=sec w→Ys ((Oz (M8 v) (ps (sec v))).1,(Oz (M8 v) (ps (sec v))).1+M8 v) (iv w)∨b w<a v:=by
  intro w hw hs;by_cases hm:w∈busy
  ·left;refine p1 _ ?_;simp only[Jh,Ij,Iy];right;left;rw[hs];exact e9 hm
  ·right;exact h.over w hw hm
 refine⟨hk,?_,?_,?_,?_,?_,?_,?_⟩
 ·intro w hw;rcases Iy.1 hw with hw|hw
  ·rw[old w hw];exact h.wide w hw
  ·rw[Kl.1 hw,nw]
 ·rw[List.nodup_append];exact⟨h.nd,N,λp hp q hq=>by rw[Kl.1 hq];exact λe=>gj (e ▸ hp)⟩
 ·intro w hw;rcases Iy.1 hw with hw|hw
  ·exact Kc _ (h.sub w hw)
  ·exact J8 _ hw
 ·intro w hw hn;rcases Iy.1 hw with hw|hw
  ·exact h.over w hw λhm=>hn (Kc _ hm)
  ·exact absurd (J8 _ hw) hn
 ·intro x hx y hy gB hs;rcases Iy.1 hx with gg|hx
  ·rcases Iy.1 hy with gC|hy
   ·rw[old x gg,old y gC];exact h.pairs x gg y gC gB hs
   ·have:=Kl.1 hy;subst this;rw[old x gg,nw];rcases nb x gg hs.symm with q|q
    ·exact .inl (zc3 q)
    ·exact .inr (.inl q)
  ·have:=Kl.1 hx;subst this;rcases Iy.1 hy with hy|hy
   ·rw[old y hy,nw];rcases nb y hy hs with q|q
    ·exact .inl q
    ·exact .inr (.inr q)
   ·exact absurd (Kl.1 hy).symm gB
 ·intro w hw;rcases Iy.1 hw with hw|hw
  ·rw[old w hw];have:=h.inn w hw;have:=gD (sec w);exact⟨J,J,(h.inn w hw).2.2⟩
  ·have:=Kl.1 hw;subst this;rw[nw];refine⟨g.1,?_,zc3 (p1 _ N)⟩;simp only[Rp,Kw];exact g.2.2
 ·rw[Js,List.sum_append];simp only[Kd,Mn,List.sum_cons,List.sum_nil];have:=h.sz;cases hs:sec v
  ·rw[hs]at hz;simp[Rp];omega
  ·rw[hs]at hz;simp[Rp];omega
structure Bf where
 size:Int
 kind:Int
 sec:Bool
structure Lo where
 kind:Int
 d:Int
 e:Int
 a:Int
 b:Int
 c:Int
 buf:Int
 imm:UInt64
 deriving DecidableEq
def Bf.f(v:Bf):List LV:=[.i v.size,.i v.kind,.bool v.sec]
def Lo.f(o:Lo):List LV:=[.i o.kind,.i o.d,.i o.e,.i o.a,.i o.b,.i o.c,.i o.buf,.u o.imm]
def Ok(l:List Bf):List LV:=l.flatMap Bf.f
def loC(l:List Lo):List LV:=l.flatMap Lo.f
def Bf.f_len(v:Bf):v.f.length=3:=rfl
def vh(l:List Bf):dats (Ok l)=true:=ut (λ_=>rfl) l
def xf{l:List Bf}{i:Nat}{v:Bf}(h:l[i]?=some v):((Ok l).drop (i*3)).take 3=v.f:=pg Bf.f_len h
def tn{l:List Bf}{i:Nat}{v:Bf}(h:l[i]?=some v):(Ok l)[i*3]?=some (.i v.size):=by have:=U5 Bf.f_len h (j:=0) J;simpa [Ok,Bf.f] using this
def Wv{l:List Bf}{i:Nat}{v:Bf}(h:l[i]?=some v):(Ok l)[i*3+1]?=some (.i v.kind):=by have:=U5 Bf.f_len h (j:=1) J;simpa [Ok,Bf.f] using this
def Yt{l:List Bf}{i:Nat}{v:Bf}(h:l[i]?=some v):(Ok l)[i*3+2]?=some (.bool v.sec):=by have:=U5 Bf.f_len h (j:=2) J;simpa [Ok,Bf.f] using this
def lu{l:List Bf}{i:Nat}(h:i<l.length):i*3+3≤(Ok l).length:=xb Bf.f_len h
def xk(a b:List Bf):Ok (a++b)=Ok a++Ok b:=by simp[Ok]
def Of(l:List Bf)(n:Nat):Bf:=l.getD n ⟨0,0,false⟩
def au{l:List Bf}{n:Nat}(h:n<l.length):l[n]?=some (Of l n):=by simp[Of,H9,h]
structure Ms where
 i:Nat
 first:Bool
 r:List UInt64
 bufs:List (List UInt64)
 l:List (Int×Int)
def atR(r:List UInt64)(x:Int):UInt64:=if x<0 then 0 else r.getD x.toNat 0
def zd(b:Bool):UInt64:=if b then 1 else 0
def Tt(r:List UInt64)(x:Int)(v:UInt64):List UInt64:=if 0≤x then r.set x.toNat v else r
def yp(o:Lo)(a b:UInt64)(c:Bool):UInt64×UInt64 :=
 if o.kind=1 then (o.imm,0) else if o.kind=2 then (a,0) else if o.kind=3 then (a+b,0) else if o.kind=4 then (a-b,0)
 else if o.kind=5 then (a &&& b,0) else if o.kind=6 then (a ||| b,0) else if o.kind=7 then (a ^^^ b,0)
 else if o.kind=8 then (UInt64.ofNat (a.toNat*2^o.imm.toNat),0) else if o.kind=9 then (UInt64.ofNat (a.toNat/2^o.imm.toNat),0)
 else if o.kind=10 then (dg a b,a*b) else if o.kind=11 then ((vy a b c).1,zd (vy a b c).2) else if o.kind=12 then ((zl a b c).1,zd (zl a b c).2)
 else if o.kind=13 then (if c then a else b,0) else (0,0)
def ct(g:List (List UInt64))(x:Int):List UInt64:=g.getD x.toNat []
def doR(o:Lo)(s:Ms):Option Ms :=
 if o.kind=14 then
  (if (o.imm+atR s.r o.a).toNat<(ct s.bufs o.buf).length then
   some ⟨s.i+1,s.first,Tt (Tt s.r o.d ((ct s.bufs o.buf).getD (o.imm+atR s.r o.a).toNat 0)) o.e 0,s.bufs,s.l++[((s.i:Int),(((o.imm+atR s.r o.a).toNat:Nat):Int))]⟩ else none)
 else if o.kind=15 then
  (if (o.imm+atR s.r o.a).toNat<(ct s.bufs o.buf).length then
   some ⟨s.i+1,s.first,Tt (Tt s.r o.d 0) o.e 0,s.bufs.set o.buf.toNat ((ct s.bufs o.buf).set (o.imm+atR s.r o.a).toNat (atR s.r o.b)),s.l++[((s.i:Int),(((o.imm+atR s.r o.a).toNat:Nat):Int))]⟩ else none)
 else some ⟨s.i+1,s.first,Tt (Tt s.r o.d (yp o (atR s.r o.a) (atR s.r o.b) (decide (atR s.r o.c%2=1))).1) o.e (yp o (atR s.r o.a) (atR s.r o.b) (decide (atR s.r o.c%2=1))).2,s.bufs,s.l++[((s.i:Int),(-1:Int))]⟩
def Zm(g:List Lo)(j:List Int)(s:Ms):Option Ms :=
 match g[s.i]? with
 |none=>some s
 |some o =>
  if o.kind=16 then some ⟨s.i+1,true,if s.first then Tt s.r o.d 0 else s.r,s.bufs,s.l++[((s.i:Int),(-1:Int))]⟩
  else if o.kind=17 then
   (match g[(j.getD s.i 0).toNat]? with
   |none=>none
   |some p=>if atR s.r p.d+1<p.imm then some ⟨(j.getD s.i 0).toNat,false,Tt s.r p.d (atR s.r p.d+1),s.bufs,s.l⟩ else some ⟨s.i+1,s.first,s.r,s.bufs,s.l⟩)
  else doR o s
def nu(g:List Lo)(j:List Int):Nat→Ms→Option Ms
 |0,s=>some s
 |n+1,s=>match Zm g j s with
  |none=>none
  |some z=>nu g j n z
section
structure Fs where
 r:Nat→UInt64
 m:Nat→Nat→UInt64
def Fs.put(s:Fs)(d:Nat)(v:UInt64):Fs:=⟨λx=>if x=d then v else s.r x,s.m⟩
structure Rep (nb:Nat) (sz:Nat→Nat) (s:Ms) (t:Fs):Prop where
 rl:s.r.length=64
 r:∀x,x<64→s.r.getD x 0=t.r x
 bl:s.bufs.length=nb
 len:∀b,b<nb→(s.bufs.getD b []).length=sz b
 m:∀b n,b<nb→n<sz b→(s.bufs.getD b []).getD n 0=t.m b n
section rep
variable {nb : Nat} {sz : Nat → Nat} {s : Ms} {t : Fs}
def zd9(l:List v9)(i j:Nat)(v d:v9)(h:i<l.length):(l.set i v).getD j d=if j=i then v else l.getD j d:=by
 simp only[H9,Lt];by_cases q:j=i
 ·subst q;simp[h]
 ·rw[Ig (Ne.symm q),Ig q]
end rep
end
def Fr.stp:Fr Lo→Nat
 |.nil=>0
 |.op _ r=>1+r.stp
 |.loop o b _ r=>o.imm.toNat*(1+b.stp)+r.stp
structure SameLen (s s':Ms):Prop where
 r:s'.r.length=s.r.length
 b:s'.bufs.map List.length=s.bufs.map List.length
 i:s'.i=s.i+1
 l:s'.l.length=s.l.length+1
 f:s'.first=s.first
structure Pc where
 buf:Int
 at_:Int
 size:Int
def Pc.f(p:Pc):List LV:=[.i p.buf,.i p.at_,.i p.size]
section
def Vd(x y:Pc):Prop:=x.buf=y.buf∧x.at_<y.at_+y.size∧y.at_<x.at_+x.size
def R9(base:Int)(iv:Nat→Hl)(M8:Nat→Int)(sec:Nat→Bool)(i:Nat):Pc:=if (i:Int)<base then ⟨i,0,M8 i⟩ else ⟨base+(if sec i=true then 1 else 0),(iv i).1,M8 i⟩
def Ur(base:Int)(wk:Bool→Int)(s:Bool):Pc:=⟨base+(if s=true then 1 else 0),0,wk s⟩
section made
variable {wk : Bool → Int} {a b M8 : Nat → Int} {sec : Nat → Bool} {done busy : List Nat} {iv : Nat → Hl} {ps : Bool → St} {cur base : Int} {n : Nat}
def zv1(h:Plan0 wk a b M8 sec done busy iv ps cur)(hd:∀i:Nat,base≤i→i<n→i∈done){i:Nat}(hi:i<n)(G:g<n)(B:i≠g)(H:Vd (R9 base iv M8 sec i) (R9 base iv M8 sec g)):b i<a g∨b g<a i:=by
 obtain⟨j,C,D⟩:=H;unfold R9 at j C D;by_cases A:(i:Int)<base
 ·by_cases z:(g:Int)<base
  ·rw[Ih A,Ih z]at j;dsimp only at j;omega
  ·rw[Ih A,Ig z]at j;dsimp only at j;split at j<;>omega
 ·by_cases z:(g:Int)<base
  ·rw[Ig A,Ih z]at j;dsimp only at j;split at j<;>omega
  ·rw[Ig A,Ig z]at j C D;dsimp only at j C D;have E:=hd i J hi;have F:=hd g J G;have I:sec i=sec g:=by
    cases K:sec i<;>cases L:sec g<;>simp[K,L]at j ⊢<;>omega
   rcases h.pairs i E g F B I with q|q
   ·have M:=h.wide i E;have O:=h.wide g F;unfold Ys at q;omega
   ·exact q
def zpl(h:Plan0 wk a b M8 sec done busy iv ps cur)(hd:∀i:Nat,base≤i→i<n→i∈done){i:Nat}(hi:i<n)(s:Bool):¬Vd (R9 base iv M8 sec i) (Ur base wk s):=by
 intro C;obtain⟨g,j,z⟩:=C;unfold R9 Ur at g j z;by_cases A:(i:Int)<base
 ·rw[Ih A]at g;dsimp only at g;split at g<;>omega
 ·rw[Ig A]at g j z;dsimp only at g j z;have B:=hd i J hi;have D:sec i=s:=by
   cases E:sec i<;>cases s<;>simp[E]at g ⊢<;>omega
  subst D;have F:=h.wide i B;have:=(h.inn i B).2.2;unfold Ys at this;dsimp only at this;omega
def works_apart:¬Vd (Ur base wk false) (Ur base wk true):=by
 intro g;have:=g.1;simp[Ur]at this;omega
def zop(h:Plan0 wk a b M8 sec done busy iv ps cur)(s:Bool):1≤wk s∧wk s≤(ps s).size:=by
 have:=(h.ok s).2.2 _ (J9 ..);dsimp only at this;omega
def zs3{wk:Bool→Int}{a b M8:Nat→Int}{sec:Nat→Bool}{iv:Nat→Hl}{cur:Int}(h:∀s,1≤wk s):Plan0 wk a b M8 sec [] [] iv (λs=>⟨[],wk s⟩) cur:=by
 refine⟨λs=>⟨?_,?_⟩,N,N,N,N,N,N,N⟩
 ·have:=h s;dsimp only;omega
 ·have:=h s;refine⟨by simp[To],λx g=>?_⟩;simp[To]at g;subst g;dsimp only;omega
end made
end
section
def ar{α:Type}(k:α→Int)(l:List α):Prop:=l.Pairwise λx y=>k x≤k y
section sym
variable {α : Type} {k : α → Int}
def ar.last{l:List α}(h:ar k l){u z:α}(hu:u∈l)(hz:l.getLast?=some z):k u≤k z:=by
 obtain⟨ys,rfl⟩:=List.getLast?_eq_some_iff.1 hz;have:=Md.1 h;rcases Iy.1 hu with q|q
 ·exact this.2.2 u q z N
 ·rw[Kl.1 q];exact Kt _
def ar.head{l:List α}(h:ar k l){u z:α}(hu:u∈l)(hz:l.head?=some z):k z≤k u:=by
 obtain⟨ys,rfl⟩:=List.head?_eq_some_iff.1 hz;have:=Jv.1 h;rcases Ij.1 hu with q|q
 ·rw[q];exact Kt _
 ·exact this.1 u q
def zvt{l:List α}{u:α}(h:u∈l):∃j,l.getLast?=some j:=by
 cases g:l.getLast? with
 |none=>rw[List.getLast?_eq_none_iff]at g;subst g;cases h
 |some j=>exact⟨j,rfl⟩
def zvb{l:List α}{u:α}(h:u∈l):∃g,l.head?=some g:=by
 cases l with
 |nil=>cases h
 |cons g t=>exact⟨g,rfl⟩
def halves{z A B C:List α}(D:ar k (z++A))(E:ar k (B++C))(F:∀u w,z.getLast?=some u→C.head?=some w→k u≤k w)(G:∀u w,B.getLast?=some u→A.head?=some w→k u≤k w) :
  ∀u∈z++B,∀w∈A++C,k u≤k w:=by
 obtain⟨H,I,K⟩:=Md.1 D;obtain⟨L,M,O⟩:=Md.1 E;intro u hu w hw;rcases Iy.1 hu with hu|hu<;>rcases Iy.1 hw with hw|hw
 ·exact K u hu w hw
 ·obtain⟨P,g⟩:=zvt hu;obtain⟨y,j⟩:=zvb hw;exact L7 (ar.last H hu g) (L7 (F P y g j) (ar.head M hw j))
 ·obtain⟨P,g⟩:=zvt hu;obtain⟨y,j⟩:=zvb hw;exact L7 (ar.last L hu g) (L7 (G P y g j) (ar.head I hw j))
 ·exact O u hu w hw
end sym
end
def ztf(g:List Vr):M3 g (Sz 0 g) []=Ps g:=by
 unfold M3;cases z:Ps g with
 |false=>rfl
 |true =>
  have E:=ks z;have A:=startOs_len g 0;obtain⟨m,B,F,C⟩:=zd3 g 0 (Rx g) rfl (by simp[Rx]) (λG j=>J) (λG _ j=>by
   unfold gb Rx;rw[H9,J5,Qa j];rfl)
  rw[B];have hm:Ua g m=true:=by
   unfold Ua;rw[I9];intro i hi;simp[C i (Jk.1 hi)]
  have D:(Sz 0 g).length≤4096:=J
  simp[hm,D]
def N4(l:List Pc)(n:Nat):Pc:=l.getD n ⟨0,0,0⟩
def Wq(g:List Bf):Int :=
 if 32<g.length then 3 else if (g.any λb=>decide (65536<b.size))=true then 3 else if (g.any λb=>decide (b.size<1) || (decide (b.kind<1) || decide (3<b.kind)))=true then 2 else 0
def Tk(g:List Bf)(x:Pc):Bool:=decide (0≤x.buf)&&(decide (x.buf<g.length)&&(decide (1≤x.size)&&(decide (x.size≤32768)&&(decide (0≤x.at_)&&(decide (x.at_≤(Of g x.buf.toNat).size)&&decide (x.size≤(Of g x.buf.toNat).size-x.at_))))))
def Vk(g:List Bf)(v:Vr)(x:Pc):Bool :=
 Tk g x&&(decide (x.size=v.limbs)&&(!(decide ((Of g x.buf.toNat).kind=1) && !Ny v)&&(!(decide ((Of g x.buf.toNat).kind=2)&&Ny v)&&(v.sec==(Of g x.buf.toNat).sec))))
def Ue(g:List Bf)(s:Bool)(x:Pc):Bool:=Tk g x&&(!decide ((Of g x.buf.toNat).kind=1)&&((Of g x.buf.toNat).sec==s))
def Vo(vs:List Vr)(g:List Bf)(ps:List Pc)(j z:Pc):Bool :=
 Ps vs&&(decide (1≤g.length)&&(decide (ps.length=vs.length)&&(decide (Wq g=0)&&(((List.range vs.length).all λi=>Vk g (gv vs i) (N4 ps i))&&(Ue g false j&&Ue g true z)))))
def N0(l:List Pc):List LV:=l.flatMap Pc.f
def zpa(v:Vr)(l:List Vr):gv (v::l) 0=v:=rfl
def zqb(v:Vr)(l:List Vr)(g:Nat):gv (v::l) (g+1)=gv l g:=rfl
def vgo_params:∀(l:List Vr) (i p r:Nat),Pp i p l=some r→p≤i→p≤r∧(p<i→r=p)∧∀g,g<l.length→((gv l g).mode≠0↔i+g<r)
 |[],i,p,r,h,F=>by
  cases h;exact⟨Ie _,λ_=>rfl,λg j=>by simp at j⟩
 |v::l,i,p,r,h,F=>by
  unfold Pp at h;split at h
  ·cases h
  ·split at h
   ·rename_i z;obtain⟨C,D,A⟩:=vgo_params l (i+1) p r h J;have G:=D J;refine⟨C,λ_=>G,λg j=>?_⟩;cases g with
    | zero => rw [zpa]; constructor
              ·intro E;exact absurd z E
              ·intro E;omega
    |succ g=>rw[zqb,A g Bt];omega
   ·rename_i z;split at h
    ·cases h
    ·rename_i H;have B:¬p<i:=λq=>H (.inl q)
     obtain⟨C,D,A⟩:=vgo_params l (i+1) (p+1) r h J;refine⟨J,λq=>absurd q B,λg j=>?_⟩;cases g with
     | zero => rw [zpa]; constructor
               ·intro _;omega
               ·intro _;exact z
     |succ g=>rw[zqb,A g Bt];omega
def zh1{vs:List Vr}(h:Ps vs=true):∃r:Nat,Pp 0 0 vs=some r∧r≤12∧r≤vs.length∧∀z,z<vs.length→((gv vs z).mode≠0↔z<r):=by
 unfold Ps at h;split at h
 ·cases h
 ·rename_i r g;simp only[H7,Ii]at h;obtain⟨D,E,B⟩:=vgo_params vs 0 0 r g (Ie _);have j:r≤vs.length:=by
   by_cases q:vs.length<r
   ·exfalso;have:∀(l:List Vr) (i p r:Nat),Pp i p l=some r→r≤p+l.length:=by
     intro l
     induction l with
     |nil=>intro i p r h;cases h;simp
     |cons v l A =>
      intro i p r h;unfold Pp at h;split at h
      ·cases h
      ·split at h
       ·have:=A _ _ _ h;simp;omega
       ·split at h
        ·cases h
        ·have:=A _ _ _ h;simp;omega
    have:=this vs 0 0 r g;omega
   ·omega
  refine⟨r,g,J,j,λz C=>?_⟩;rw[B z C,I7]
def P8(v:Vr):Bf:=⟨v.limbs,if v.mode=3 then 2 else 1,v.sec⟩
def Ru(vs:List Vr)(r:Nat)(ps:Bool→St):List Bf:=((List.range r).map λi=>P8 (gv vs i))++[⟨(ps false).size,3,false⟩,⟨(ps true).size,3,true⟩]
def Te(vs:List Vr)(r:Nat)(g:Nat→Hl):List Pc:=(List.range vs.length).map λi=>R9 r g (λi=>(gv vs i).limbs) (λi=>(gv vs i).sec) i
def zaj(vs:List Vr)(r:Nat)(ps:Bool→St):(Ru vs r ps).length=r+2:=by simp[Ru]
def zi9{vs:List Vr}{r i:Nat}{ps:Bool→St}(h:i<r):Of (Ru vs r ps) i=P8 (gv vs i):=by
 unfold Of Ru;rw[H9,Ib D6];simp[h]
def zdi{vs:List Vr}{r:Nat}{ps:Bool→St}(s:Bool):Of (Ru vs r ps) (r+(if s=true then 1 else 0))=⟨(ps s).size,3,s⟩:=by
 unfold Of Ru;rw[H9,In N];cases s<;>simp
def zgy{vs:List Vr}{r i:Nat}{g:Nat→Hl}(h:i<vs.length):N4 (Te vs r g) i=R9 r g (λi=>(gv vs i).limbs) (λi=>(gv vs i).sec) i:=by
 unfold N4 Te;rw[H9];simp[h]
def zti{vs:List Vr}{r:Nat}{B:Bool→Int}{a b:Nat→Int}{done:List Nat}{C:Nat→Hl}{ps:Bool→St}(D:Ps vs=true)(R:Pp 0 0 vs=some r)
  (h:Plan0 B a b (λi=>(gv vs i).limbs) (λi=>(gv vs i).sec) done Z C ps A) (hd:∀i:Nat,r≤i→i<vs.length→i∈done) (hs:(ps false).size+(ps true).size≤65536) (hw:∀s,B s≤32768) :
  Vo vs (Ru vs r ps) (Te vs r C) (Ur r B false) (Ur r B true)=true:=by
 obtain⟨r',E,S,T,U⟩:=zh1 D;rw[R]at E;obtain rfl:=Option.some.inj E;have w0:=zop h false;have V:=zop h true;have F:∀s,1≤(ps s).size∧(ps s).size≤65536:=by intro s;cases s<;>omega
 have hl:=ks D;have G:=zaj vs r ps;have H:∀x∈Ru vs r ps,1≤x.size∧x.size≤65536∧1≤x.kind∧x.kind≤3:=by
  intro x g;unfold Ru at g;rcases Iy.1 g with g|g
  ·obtain⟨i,hi,rfl⟩:=Lz.1 g;have hi:=Jk.1 hi;have:=Wd D _ (X9 (vs:=vs) (i:=i) J);unfold P8;dsimp only;refine⟨J,J,?_,?_⟩<;>split<;>omega
  ·have O:=F false;have P:=F true;simp only[Ij,J4,L5]at g;rcases g with rfl|rfl
   ·exact⟨O.1,O.2,by show (1:Int)≤3;decide,by show (3:Int)≤3;decide⟩
   ·exact⟨P.1,P.2,by show (1:Int)≤3;decide,by show (3:Int)≤3;decide⟩
 have K:Wq (Ru vs r ps)=0:=by
  unfold Wq;rw[Ig J,Ig,Ig]
  ·intro q;obtain⟨x,g,q⟩:=List.any_eq_true.1 q;have:=H x g;simp only[Jx,Ii]at q;omega
  ·intro q;obtain⟨x,g,q⟩:=List.any_eq_true.1 q;have:=H x g;simp only[Ii]at q;omega
 have tmp:∀s:Bool,∃q:Nat,(r:Int)+(if s=true then 1 else 0)=(q:Int)∧q<(Ru vs r ps).length∧Of (Ru vs r ps) q=⟨(ps s).size,3,s⟩:=by
  intro s;refine⟨r+(if s=true then 1 else 0),?_,?_,zdi s⟩
  ·cases s<;>simp
  ·rw[G];cases s<;>simp
 have j:∀s,Ue (Ru vs r ps) s (Ur r B s)=true:=by
  intro s;obtain⟨q,L,X,M⟩:=tmp s;have w:=zop h s;have:=hw s;have e:Ur r B s=⟨q,0,B s⟩:=by unfold Ur;rw[L]
  rw[e];simp only[Ue,Tk,I4,M,H7,Ii,Lu,L4,beq_self_eq_true,and_true];refine⟨⟨J,J,J,J,J,J,J⟩,Ah⟩
 have z:∀i,i<vs.length→Vk (Ru vs r ps) (gv vs i) (N4 (Te vs r C) i)=true:=by
  intro i hi;rw[zgy hi];have vl:=Wd D _ (X9 hi);by_cases q:i<r
  ·have e:R9 r C (λi=>(gv vs i).limbs) (λi=>(gv vs i).sec) i=⟨i,0,(gv vs i).limbs⟩:=by unfold R9;rw[Ih J]
   have t:=zi9 (vs:=vs) (ps:=ps) q;have hm:=(U i hi).2 q;rw[e];simp only[Vk,Tk,I4,t,P8,H7,Ii,Lu,beq_self_eq_true,and_true];refine⟨⟨J,J,J,J,J,J,J⟩,trivial,?_,?_⟩
   ·by_cases I:(gv vs i).mode=3
    ·simp[I]
    ·have:(gv vs i).mode=1∨(gv vs i).mode=2:=J
     rcases this with m|m<;>simp[Ny,m]
   ·by_cases I:(gv vs i).mode=3
    ·simp[Ny,I]
    ·simp[I]
  ·have Q:=hd i J hi;obtain⟨Y,L,X,M⟩:=tmp (gv vs i).sec;have V:=h.wide i Q;have wi:=h.inn i Q;have e:R9 r C (λi=>(gv vs i).limbs) (λi=>(gv vs i).sec) i=⟨Y,(C i).1,(gv vs i).limbs⟩:=by unfold R9;rw[Ig J,L]
   rw[e];simp only[Vk,Tk,I4,M,H7,Ii,Lu,beq_self_eq_true,and_true];refine⟨⟨J,J,J,J,wi.1,J,J⟩,trivial,?_,?_⟩<;>simp
 simp only[Vo,H7,Ii,I9,Jk];exact⟨D,J,by simp[Te],K,z,j false,j true⟩
section
def Fr.cat{α:Type}:Fr α→Fr α→Fr α
 |.nil,g=>g
 |.op o r,g=>.op o (r.cat g)
 |.loop o b e r,g=>.loop o b e (r.cat g)
section ex
variable {sz : Nat → Nat} {s : Fs}
end ex
end





section
def vl(f:Nat→UInt64):Nat→Nat
 |0=>0
 |n+1=>vl f n+(f n).toNat*18446744073709551616^n
structure Pn where
 b:Nat
 a:Nat
 k:Nat
def pl(m:Nat→Nat→UInt64)(p:Pn)(i:Nat):UInt64:=m p.b (p.a+i)
def Dj(p q:Pn):Prop:=p.b≠q.b∨p.a+p.k≤q.a∨q.a+q.k≤p.a
section ls
variable {sz : Nat → Nat} {s : Fs} {p : Pn}
end ls
end
section
section mu
variable {sz : Nat → Nat}
def Pn.in_(sz:Nat→Nat)(p:Pn):Prop:=p.a+p.k≤sz p.b∧sz p.b≤65536
def DjE(p q:Pn):Prop:=Dj p q∨(p.b=q.b∧p.a=q.a)
end mu
end

section
section gd
variable {bs : List Bf} {S S' S2 ls : List Int} {f g : Fr Lo}
end gd
end
section
section w
variable {bs : List Bf} {S : List Int} {l : List Lo}
structure Bp (bs:List Bf) (p:Pn):Prop where
 b:p.b<bs.length
 s:((p.a+p.k:Nat):Int)≤(Of bs p.b).size
 z:(Of bs p.b).size≤65536
def Bw(bs:List Bf)(p:Pn):Prop:=(Of bs p.b).kind≠1
end w
section into
variable {bs : List Bf} {ls : List Int} {R D : Int} {d a b n t : Pn} {k : Int}
end into
end
section
def x9(R x:Int):Prop:=x=-1∨(R≤x∧x<R+14)
structure OpG (nb:Nat) (R lo hi:Int) (o:Lo):Prop where
 k:o.kind≠16∧o.kind≠17
 d:x9 R o.d
 e:x9 R o.e
 a:x9 R o.a∨(lo≤o.a∧o.a≤hi)
 b:x9 R o.b
 c:x9 R o.c
 m:(o.kind=14∨o.kind=15)→o.a=-1∨(lo≤o.a∧o.a≤hi)
 f:o.buf.toNat<nb
section al
variable {nb : Nat} {R lo hi : Int}
end al
end
section
section into
variable {nb : Nat} {R lo hi D k : Int} {d a b n t : Pn}
end into
end


section
section facts
variable {k y e r d : Nat}
end facts
end

section
section facts
variable {k : Nat}
end facts
end
section
structure Lock (s t:Ms):Prop where
 i:s.i=t.i
 first:s.first=t.first
 l:s.l=t.l
 rs:s.r.length=64
 rt:t.r.length=64
 low:∀x,x<16→s.r.getD x 0=t.r.getD x 0
 bufs:s.bufs.map List.length=t.bufs.map List.length
section lock
variable {s t s' t' : Ms} {os : List Lo} {es : List Int}
def stay{os:List Lo}{es:List Int}{s:Ms}(h:os[s.i]?=none):∀n,nu os es n s=some s
 |0=>rfl
 |n+1=>by
  have:Zm os es s=some s:=by unfold Zm;rw[h]
  unfold nu;rw[this];exact stay h n
end lock
end
section
section facts
variable {bs : List Bf} {d a b n t : Pn} {k R e nb : Nat}
end facts
end


section
section run
variable {sz : Nat → Nat} {bd : Nat → Option Nat}
end run
end
section
section run
variable {sz : Nat → Nat} {bd : Nat → Option Nat}
end run
end
section
structure Cf where
 nb:Nat
 R:Int
 w:Int
 lo:Int
 hi:Int
 pa:Int
 pb:Int
 L:Nat→Prop
 S:Nat→Prop
def rgH(c:Cf)(x:Int):Prop:=c.R≤x∧x<c.R+c.w
def zn(c:Cf)(x:Int):Prop:=(c.lo≤x∧x≤c.hi)∨(c.pa≤x∧x≤c.pb)
def inH(c:Cf)(x:Int):Prop:=x=-1∨rgH c x∨zn c x
def hiO(c:Cf)(o:Lo):Prop:=(o.d=-1∨rgH c o.d)∧(o.e=-1∨rgH c o.e)∧(o.kind=14∨o.kind=15→o.a=-1∨zn c o.a)
def plO(c:Cf)(o:Lo):Prop:=(o.kind≠14∧o.kind≠15)∧(c.pa≤o.d∧o.d≤c.pb)∧o.e=-1∧(o.a=-1∨zn c o.a)∧(o.b=-1∨zn c o.b)∧(o.c=-1∨zn c o.c)
structure OpH (c:Cf) (o:Lo):Prop where
 k:o.kind≠16∧o.kind≠17
 f:o.buf.toNat<c.nb
 a:inH c o.a
 b:inH c o.b
 z:inH c o.c
 m:hiO c o∨plO c o
 ld:o.kind=14→c.L o.buf.toNat
 st:o.kind=15→c.S o.buf.toNat
structure CfOk (c:Cf):Prop where
 r:16≤c.R∧c.R+c.w≤64
 l:0≤c.lo∧c.hi<8
 p:8≤c.pa∧c.pb<16
section ah
variable {c : Cf}
def C0(_:Int):Bool:=false
def Lb(c:Cf)(p:Pn):Prop:=p.b<c.nb∧c.L p.b
def Sb(c:Cf)(p:Pn):Prop:=p.b<c.nb∧c.S p.b
section into
variable {R D k : Int} {d a b n t : Pn}
end into
end ah
end
section
structure Pw where
 d:Pn
 a:Pn
 b:Pn
 n:Pn
 wb:Nat
 wa:Nat
 k:Nat
 w:Nat
 times:Nat
 over:Nat
 B:Nat
def Pw.t(p:Pw):Pn:=⟨p.wb,p.wa+3*p.k+p.b.k+1,p.k+2⟩
def Pw.r(p:Pw):Pn:=⟨p.t.b,p.t.a,p.k+1⟩
section all
variable {c : Cf}
structure PwC (c:Cf) (p:Pw):Prop where
 r:c.R≤p.B∧(p.B:Int)+21≤c.R+c.w
 q:c.pa≤12∧13≤c.pb
 d:Sb c p.d
 a:Lb c p.a
 b:Lb c p.b
 n:Lb c p.n
 wl:c.L p.wb
 ws:c.S p.wb
 wb:p.wb<c.nb
 k:p.k≤512
 w:p.w≤6
 ti:p.times≤100000
 bk:p.b.k≤512
end all
end
section
section gd
variable {bs : List Bf} {S S' T ls : List Int} {D : Int} {f g b : Fr Lo} {l : List Lo}
structure PwG (bs:List Bf) (p:Pw):Prop where
 B:16≤p.B∧p.B≤40
 d:Bp bs p.d
 wd:Bw bs p.d
 a:Bp bs p.a
 b:Bp bs p.b
 n:Bp bs p.n
 wb:p.wb<bs.length
 wz:((p.wa+4*p.k+p.b.k+3+p.k*2^p.w:Nat):Int)≤(Of bs p.wb).size
 w6:(Of bs p.wb).size≤65536
 ww:(Of bs p.wb).kind≠1
 k:1≤p.k∧p.k≤512
 nk:0<p.n.k
 w:1≤p.w∧p.w≤6
 ti:p.times≤100000
 ov:p.over≤63
 bk:p.b.k≤512
end gd
end
section
set_option linter.unusedSimpArgs false
section fm
variable {l l' : List Pn} {m m' m'' : Nat → Nat → UInt64} {p q : Pn}
end fm
section ex
variable {sz : Nat → Nat} {s : Fs}
end ex
end
section
set_option linter.unusedSimpArgs false
section ex
variable {sz : Nat → Nat} {s : Fs}
def Pw.wk(p:Pw):Pn:=⟨p.wb,p.wa,4*p.k+p.b.k+3+p.k*2^p.w⟩
structure PwS (sz:Nat→Nat) (p:Pw):Prop where
 B:16≤p.B∧p.B≤40
 d:p.d.in_ sz
 a:p.a.in_ sz
 b:p.b.in_ sz
 n:p.n.in_ sz
 wk:p.wk.in_ sz
 k:1≤p.k
 kb:p.k≤512
 dk:p.d.k=p.k
 ak:p.a.k=p.k
 nk:p.n.k=p.k
 db:p.d.b≠p.wb
 ab:p.a.b≠p.wb
 bb:p.b.b≠p.wb
 nb:p.n.b≠p.wb
 dn:DjE p.d p.n
 w:1≤p.w∧p.w≤6
 ov:p.over≤63
 ti:p.times*p.w=64*p.b.k+p.over
section pieces
variable {p : Pw}
end pieces
end ex
end
section
set_option linter.unusedSimpArgs false
section ex
variable {sz : Nat → Nat} {s : Fs} {p : Pw}
end ex
end
section
set_option linter.unusedSimpArgs false
section ex
variable {sz : Nat → Nat} {s : Fs} {p : Pw}
def Pw.H(p:Pw)(m:Nat→Nat→UInt64):Prop:=pl m p.n 0%2=1∧vl (pl m p.a) p.k<vl (pl m p.n) p.k
end ex
end
section
set_option linter.unusedSimpArgs false
section stp
end stp
section prog
variable {p : Pw} {e : Nat} {c : Cf} {bs : List Bf} {sz : Nat → Nat} {s0 : Fs}
end prog
end
section
section pl
variable {vs : List Vr} {W : Int} {i : Nat}
end pl
section st
variable {bs : List Bf} {X : List (List UInt64)} {i : Nat}
end st
end
section
open Go.RowKit (Below)
set_option linter.unusedVariables false
structure Turn (w w':World) (b:Nat):Prop where
 os:w'.os=w.os
 tape:w'.tape=w.tape
 output:w'.output=w.output
 size:w.heap.size≤w'.heap.size
 block:∀k,k<w.heap.size→k≠b→w'.heap[k]?=w.heap[k]?
def Turn.refl(w:World)(b:Nat):Turn w w b:=⟨rfl,rfl,rfl,Ie _,λ_ _ _=>rfl⟩
def Turn.trans{w w' gg:World}{b:Nat}(h:Turn w w' b)(k:Turn w' gg b):Turn w gg b :=
 ⟨k.os.trans h.os,k.tape.trans h.tape,k.output.trans h.output,I5 h.size k.size,λi hi hb=>(k.block i (Ix hi h.size) hb).trans (h.block i hi hb)⟩
def Turn.drew{w w':World}{b:Nat}(h:Turn w w' b):Turn w w'.drew b:=⟨h.os,h.tape,h.output,h.size,h.block⟩
def ze0(b:Nat):∀(r:List Value) (o:Nat) (w:World),(w.setCells b o r).os=w.os∧(w.setCells b o r).tape=w.tape∧(w.setCells b o r).output=w.output∧(w.setCells b o r).heap.size=w.heap.size∧∀k,k≠b→(w.setCells b o r).heap[k]?=w.heap[k]?
 |[],o,w=>⟨rfl,rfl,rfl,rfl,λ_ _=>rfl⟩
 |v::r,o,w=>by
  obtain⟨j,z,A,B,C⟩:=ze0 b r (o+1) (w.setCell ⟨b,o,none⟩ v);rw[World.setCells];refine⟨j,z,A,by rw[B];simp[World.setCell],λk g=>?_⟩;rw[C k g];exact Below.heap_setCell w _ v k g
def Turn.cells{w w':World}{b b':Nat}(h:Turn w w' b)(hb:b'=b∨w.heap.size≤b')(o:Nat)(r:List Value):Turn w (w'.setCells b' o r) b:=by
 obtain⟨h1,h2,h3,h4,h5⟩:=ze0 b' r o w';exact⟨h1.trans h.os,h2.trans h.tape,h3.trans h.output,by rw[h4];exact h.size,λk hk gg=>(h5 k J).trans (h.block k hk gg)⟩
def Turn.alloc{w w':World}{b:Nat}(h:Turn w w' b)(x:Obj):Turn w (w'.alloc x) b :=
 ⟨h.os,h.tape,h.output,by rw[World.size_alloc];exact Nat.le_succ_of_le h.size,λk hk hb=>(zb w' x (Ix hk h.size)).trans (h.block k hk hb)⟩
def zh7(b:Nat)(e:TypeId)(B hi:Nat):∀(r:List Value) (o:Nat) (w:World) (j:Array Value),w.heap[b]?=some (.cells j e (B,hi))→o+r.length≤j.size →
  ∃g,(w.setCells b o r).heap[b]?=some (.cells g e (B,hi))∧g.size=j.size∧∀z,g[z]?=if o≤z∧z<o+r.length then r[z-o]? else j[z]?
 |[],o,w,j,h,_=>⟨j,h,rfl,λz=>by rw[Ig N]⟩
 |v::r,o,w,j,h,E=>by
  simp only[Iv]at E;have A:(w.setCell ⟨b,o,none⟩ v).heap[b]?=some (.cells (j.setIfInBounds o v) e (B,hi)):=by
   simp only[World.setCell,Array.getElem?_modify,Kw,h,Jw];rfl
  obtain⟨g,F,G,H⟩:=zh7 b e B hi r (o+1) _ _ A (by rw[L3];omega);refine⟨g,F,by rw[G,L3],λz=>?_⟩;rw[H z,Mh];by_cases C:o+1≤z∧z<o+1+r.length
  ·rw[Ih C,Ih Bv,(J:z-o=(z-(o+1))+1),Is]
  ·rw[Ig C];by_cases D:o=z
   ·subst D;rw[Ih rfl,Ih J,Ih Bv,Nat.sub_self,Iq]
   ·rw[Ig D,Ig Bv]
structure RowIn (w:World) (b d cap k:Nat) (cs:List Value):Prop where
 has:∃vs e lo hi,w.heap[b]?=some (.cells vs e (lo,hi))∧d+cap*k≤vs.size∧(∀i,d≤i→i<d+cap*k→¬(lo≤i∧i<hi))∧∀j u,cs[j]?=some u→vs[d+j]?=some u
def RowIn.lt{w:World}{b d cap k:Nat}{cs:List Value}(h:RowIn w b d cap k cs):b<w.heap.size:=by
 obtain⟨vs,e,lo,hi,h1,_⟩:=h;exact (Lw.1 h1).1
def RowIn.cell{w:World}{b d cap k:Nat}{cs:List Value}(h:RowIn w b d cap k cs):∀j u,cs[j]?=some u→w.cell? ⟨b,d+j,none⟩=some u:=by
 obtain⟨vs,e,lo,hi,h1,_,_,h4⟩:=h;intro j u hj;rw[cu h1];exact h4 j u hj
def RowIn.room{w:World}{b d cap k:Nat}{cs:List Value}(h:RowIn w b d cap k cs):∀j,j<cap*k→(w.cell? ⟨b,d+j,none⟩).isSome=true:=by
 obtain⟨vs,e,lo,hi,h1,h2,_,_⟩:=h;intro j hj;rw[cu h1,Je J];rfl
def RowIn.free{w:World}{b d cap k:Nat}{cs:List Value}(h:RowIn w b d cap k cs):∀j,j<cap*k→w.frozen? ⟨b,d+j,none⟩=false:=by
 obtain⟨vs,e,lo,hi,h1,h2,h3,_⟩:=h;intro j hj;simp only[World.frozen?,h1];have:=h3 (d+j) J J;simp only[Bool.and_eq_false_iff,L4];omega
def RowIn.put{w:World}{b d cap k:Nat}{cs cs':List Value}(h:RowIn w b d cap k cs)(o:Nat)(r:List Value)(ho:o+r.length≤cap*k)
  (gg:∀j u,cs'[j]?=some u→if o≤j∧j<o+r.length then r[j-o]?=some u else cs[j]?=some u):RowIn (w.setCells b (d+o) r) b d cap k cs':=by
 obtain⟨vs,e,lo,hi,h1,h2,h3,h4⟩:=h;obtain⟨gj,q1,q2,q3⟩:=zh7 b e lo hi r (d+o) w vs h1 J;refine⟨gj,e,lo,hi,q1,J,h3,λj u hj=>?_⟩;have:=gg j u hj;rw[q3];by_cases e1:o≤j∧j<o+r.length
 ·rw[Ih e1]at this;rw[Ih J,(J:d+j-(d+o)=j-o)];exact this
 ·rw[Ig e1]at this;rw[Ig J];exact h4 j u this
def RowIn.drew{w:World}{b d cap k:Nat}{cs:List Value}(h:RowIn w b d cap k cs):RowIn w.drew b d cap k cs:=⟨h.has⟩
def RowIn.new(w:World)(j:Array Value)(e:TypeId)(cap k:Nat)(cs:List Value)(hs:cap*k≤j.size)(hc:∀(gg:Nat) (u:Value),cs[gg]?=some u→j[gg]?=some u):RowIn (w.alloc (.cells j e)) w.heap.size 0 cap k cs :=
 ⟨j,e,0,0,Wl _ _,J,λi _ _=>J,λgg u hj=>by rw[I7];exact hc gg u hj⟩
variable {P : Program}
def zqw(w:World)(t e D:TypeId)(E g j:Value)(F:P.underlying t=some (.slice e))(G:∀w,(zeroValue e).run P w=.ok E w)(H:E.cells=#[g,j])(L:g.oneCell'=true)(M:j.oneCell'=true)(b o c:Nat)
  (I:∀C,C<2→(w.cell? ⟨b,o+C,none⟩).isSome=true) (K:∀C,C<2→w.frozen? ⟨b,o+C,none⟩=false) :
  (Builtin.clear_ #[t] D #[.slice (some ⟨b,o,none⟩) 1 c]).run P w=.ok (.tuple #[]) (w.setCells b o [g,j]):=by
 have B:(Builtin.zeroCells E.cells 1).toList=[g,j]:=by
  rw[H];simp[Builtin.zeroCells];rfl
 have z:=run_storeCells_cells (P:=P) b o [g,j] 0 w (by simpa using I) (by simpa using K) (by intro v A;simp at A;rcases A with rfl|rfl<;>assumption);simp only[La]at z;simp[Builtin.clear_,run_underlying F,G,B,z]
def z9k(w:World)(H L M g:TypeId)(b o j B:Nat)(a:Addr)(z C k:Nat)(A:List Value)
  (hu:P.underlying H=some (.slice g)) (I:(P.info? g).map (·.size)=some k) (O:A.length=Nat.min z j*k)
  (D:∀E v,A[E]?=some v→w.cell? (a.add E)=some v) (Q:∀E,E<A.length→(w.cell? ⟨b,o+E,none⟩).isSome=true) (R:∀E,E<A.length→w.frozen? ⟨b,o+E,none⟩=false) (S:∀v∈A,v.oneCell'=true) :
  (Builtin.copy_ #[H,L] M #[.slice (some ⟨b,o,none⟩) j B,.slice (some a) z C]).run P w=.ok (goInt (Nat.min z j)) (w.setCells b o A):=by
 have K:=run_loadCells_list (P:=P) w a A D;have F:=run_storeCells_cells (P:=P) b o A 0 w (by simpa using Q) C7 S;cases G:P.info? g with
 |none=>simp[G]at I
 |some i =>
  have hi:i.size=k:=by simpa [G] using I
  rw[O]at K;simp[Builtin.copy_,run_underlying hu,Builtin.lenOf,Builtin.firstCells,sizeOf,typeInfo,G,hi,K,F]
def zch{ops:Array Oper}{o:Oper}{a:Act}{w:World}{F:Act→World→Prop}{G:Exit→Act→World→Prop}
  (A:o.guard=none) (d x:Operand) (j z:TypeId) (g:o.op=Op.call { callee:=Callee.builtin Builtin.copy,args:=#[d,x],argTypes:=#[j,z] })
  (v u:Value) (hd:a.eval d=v) (B:a.eval x=u) (D:(Builtin.copy_ #[j,z] o.type #[v,u]).run P w=.ok v7 C) (E:F (a.put o.dst v7) C) :
  if Region.wanted o (yielded ops a.tmps)=true then Oper.wp P o a w F G else vG:=by
 have hw:Region.wanted o (yielded ops a.tmps)=true:=by simp[Region.wanted,A]
 rw[Ih hw];unfold Oper.wp;simp[execOp,g,resolve,invoke,builtin,hd,B,D,Result.andThen];exact E
def z4a(w:World){ops:Array Oper}{g:List Oper}{o:Oper}{a:Act}{F:Exit→Act→World→Prop}(j:o.guard=none)(d s:Operand)(t z:TypeId)
  (A:o.op=.call { callee:=.builtin .copy,args:=#[d,s],argTypes:=#[t,z] }) (v u:Value) (hd:a.eval d=v) (B:a.eval s=u)
  (D:(Builtin.copy_ #[t,z] o.type #[v,u]).run P w=.ok v7 C) (h:wpList P ops F g (a.put o.dst v7) C):wpList P ops F (o::g) a w:=by
 refine wpList_plain j λG E=>?_
 unfold Oper.wp execOp;simp only[A,resolve,invoke,builtin,Sem.run_bind,Sem.run_pure,Result.andThen_ok,List.map_toArray,Kd,Mn,hd,B,D];exact E _ _ h
def zek(w:World)(F X e:TypeId)(G:P.underlying F=some (.slice e))(g:Nat)(H:∀w,(Go.sizeOf e).run P w=.ok g w)
  (a b:Addr) (I Y K Z:Nat) (L:a.block≠b.block) (tA tB:TypeId) (M O:Nat)
  (A:w.shape? a.block=some (tA,M)) (B:w.shape? b.block=some (tB,O)) (T:M≠0) (U:O≠0) (C:w.frozen? a=false) :
  ∃r E,(Extern.SlicesOverlaps.overlaps #[F,F] #[X] #[.slice (some a) I Y,.slice (some b) K Z]).run P w=.ok (.bool r) E∧E.heap=w.heap∧E.os=w.os∧E.tape=w.tape∧E.output=w.output:=by
 have D:(a.block != b.block)=true:=De
 have z:(a.block==b.block)=false:=De
 have j:∀r E,Sem.run P (α:=Value) (do
   let some t := (#[F, F] : Array TypeId)[0]? | stuck "slices.overlaps: no parameter types"
   let .slice Q ← underlying t | stuck "slices.overlaps: slice type expected"
   let g ←sizeOf Q
   match (some a:Option Addr),(some b:Option Addr) with
   |some a,some b =>
    if I=0∨K=0∨g=0 then pure (Value.bool false)
    else if a.block != b.block&&(←frozen a)&&(←frozen b) then unsupported .addressObserved
    else do
     if a.block != b.block then do
      noView a;noView b
      if ← mayBeOne a b then return Value.bool ((← choose (.extern "sameAddr.stringBytes" 2)) == 1)
     pure (Value.bool (a.block==b.block&&a.off<b.off+K*g&&b.off<a.off+I*g))
   |_,_=>pure (Value.bool false)) w=.ok (.bool r) E→(Extern.SlicesOverlaps.overlaps #[F,F] #[X] #[.slice (some a) I Y,.slice (some b) K Z]).run P w=.ok (.bool r) E:=λ_ _ h=>h
 by_cases R:I=0∨K=0∨g=0
 ·exact⟨false,w,j _ _ (by simp[run_underlying G,H,R]),rfl,rfl,rfl,rfl⟩
 ·cases M with
  |zero=>exact absurd rfl T
  |succ M =>
  cases O with
  |zero=>exact absurd rfl U
  |succ O =>
  cases S:w.frozen? { block:=a.block,off:=M+1 } with
  |false=>exact⟨false,w,j _ _ (by simp[run_underlying G,H,R,D,z,frozen,noView,viewAt,mayBeOne,stringish,shape,Sem.run,A,B,C,S]),rfl,rfl,rfl,rfl⟩
  |true =>
   cases V:w.frozen? b with
   |true=>exact⟨_,w.drew,j _ _ (by simp[run_underlying G,H,R,D,z,frozen,noView,viewAt,mayBeOne,stringish,shape,Sem.run,A,B,C,S,V,choose,Question.forced];rfl),rfl,rfl,rfl,rfl⟩
   |false =>
    cases hB:w.frozen? { block:=b.block,off:=O+1 } with
    |false=>exact⟨false,w,j _ _ (by simp[run_underlying G,H,R,D,z,frozen,noView,viewAt,mayBeOne,stringish,shape,Sem.run,A,B,C,S,V,hB]),rfl,rfl,rfl,rfl⟩
    |true=>exact⟨_,w.drew,j _ _ (by simp[run_underlying G,H,R,D,z,frozen,noView,viewAt,mayBeOne,stringish,shape,Sem.run,A,B,C,S,V,hB,choose,Question.forced];rfl),rfl,rfl,rfl,rfl⟩
def z82(b:Nat)(g:List Value)(o:Nat)(w:World)(h:∀A,A<g.length→(w.cell? ⟨b,o+A,none⟩).isSome=true)(k:Nat)(j:(w.cell? ⟨b,k,none⟩).isSome=true):((w.setCells b o g).cell? ⟨b,k,none⟩).isSome=true:=by
 by_cases z:o≤k∧k<o+g.length
 ·have:=World.cell?_setCells_in b g o w h (k-o) J;rw[(J:o+(k-o)=k)]at this;rw[this];rfl
 ·rw[World.cell?_setCells_out b g o w ⟨b,k,none⟩ (λ_ _=>by show k<o∨o+g.length≤k;omega)];exact j
def Rel.rowTo{w w':World}{gE:CM}{H:Heap}(hR:Rel C gE H w){o v:Nat}{t:Tr AV}(hg:H.get o=some (.cells t j v false)){L:Loc}(hL:gE o v=some L){b' k n':Nat}{l':List AV}
  (ht:Turn w w' L.b) (gj:RowIn w' b' vZ vT k vL) (gB:b'=L.b∨w.heap.size≤b') (hn:n'≤vT) (hl:l'.length=n'*k) (hv:VRs gE l' vL) (h1:∀a∈l',a.one=true) :
  ∃C',gE.le C'∧Rel C C' (H.put o (.cells (O8 l' 0 .e) l'.length (v+1) false)) w'∧VR C' (.sl o (v+1) 0 n' k none) (.slice (some ⟨b',vZ,none⟩) n' vT):=by
 have ho:=hR.fresh _ _ _ hL;have hB:C.heap.size≤L.b:=(hR.obj o _ ho hg L hL).2.1 rfl;have gH:=hR.lt _ _ _ hL;have hmul:n'*k≤vT*k:=Im _ hn;obtain⟨vs,e,lo,hi,q1,q2,q3,q4⟩:=gj.has;have gF:C.heap.size≤b':=by
  rcases gB with rfl|h
  ·exact hB
  ·exact I5 hR.low.size h
 have gC:∀o' v' L1,o'≠o→gE o' v'=some L1→L1.b≠L.b:=λo' v' L1 gg h hb=>gg (hR.excl _ _ _ _ _ _ h hL hb (by rw[hb];exact hB))
 obtain⟨r1,r2⟩:=hR.bump ho ⟨v,L,hL⟩ hg ⟨b',vZ,l'.length,vZ+vT*k⟩ (O8 l' 0 .e) l'.length (w':=w')
  (hR.low.trans ⟨ht.os,ht.tape,ht.output,ht.size,λgG hj=>ht.block gG (Ix hj hR.low.size) J⟩) ht.size (Lw.1 q1).1
  (λo' v' L1 h hb=>by
   rcases gB with rfl|gI
   ·by_cases e1:o'=o
    ·exact e1
    ·exact absurd hb (gC o' v' L1 e1 h)
   ·have:=hR.lt _ _ _ h;dsimp only at hb;omega)
  (λo' v' L1 gg h=>ht.block L1.b (hR.lt _ _ _ h) (gC o' v' L1 gg h))
  (by
   intro L1 gD;rw[CM.ext_same]at gD;cases gD;refine⟨rfl,λ_=>gF,Am,vs,e,lo,hi,q1,q2,q3,?_⟩;intro gG hj;rw[get_ofList l' 0 .e gG,Ih J];obtain⟨a,u,p1,p2,p3⟩:=hv.get' (i:=gG) hj;have hle:gE.le (gE.ext o (v+1) ⟨b',vZ,l'.length,vZ+vT*k⟩):=by
    refine CM.le_ext _ ?_ (.inl ⟨v,L,hL⟩);cases e1:gE o (v+1) with
    |none=>rfl
    |some L2=>have:=hR.top _ _ _ _ _ ho hg _ _ e1;omega
   exact⟨a,by simpa using p1,h1 a (I8 p1),u,q4 gG u p2,p3.mono hle⟩)
 refine⟨_,r2,r1,?_⟩;exact VR.sl (i:=0) (L:=⟨b',vZ,l'.length,vZ+vT*k⟩) (CM.ext_same _ _ _ _) Am Am hn (λr hr=>by cases hr) (λ_=>rfl)
def Rel.rowIn{w:World}{gj:CM}{H:Heap}(hR:Rel C gj H w)(P:Program){o v:Nat}{t:Tr AV}(hg:H.get o=some (.cells t j v false)){L:Loc}(hL:gj o v=some L){len cap k:Nat}{l:List AV}
  (hr:Pg H o v 0 (len*k)=some l) (hc:L.d+cap*k≤L.sz):∃cs,RowIn w L.b L.d cap k cs∧VRs gj l cs∧(∀a∈l,a.one=true)∧cs.length=len*k∧(∀u∈cs,u.oneCell'=true):=by
 obtain⟨vs,_,p2,p3,p4,_,p6⟩:=hR.read P hr hL;obtain⟨h1,_,h3,gg,e,lo,hi,h4,h5,h6,h7⟩:=hR.obj o _ (hR.fresh _ _ _ hL) hg L hL;have hl:vs.length=len*k:=by rw[←p2.length];exact p4
 refine⟨vs,⟨gg,e,lo,hi,h4,J,λi a b=>h6 i a J,λgC u hj=>?_⟩,p2,p3,hl,p2.one p3⟩;have gB:=(H5.1 hj).1;have:=p6 gC J;rw[cu h4,hj,I7]at this;exact this
def km.of_calls{w:World}{gg:CM}{f:Nat}{vs:List Value}{v:AV}{R:Ending→World→Prop}(h:Calls P f vs.toArray w R)
  (hR:∀e w',R e w'→∃C' v',e=.returned v'∧gg.le C'∧Rel C C' U w'∧VR C' v v'):km P C gg w (.fn f) vs v U:=by
 intro cs;obtain⟨e,w',fr,q1,q2,q3,q4⟩:=h cs;obtain⟨C',v',rfl,p1,p2,p3⟩:=hR e w' q1;exact⟨C',w',v',fr,p1,p2,p3,q2,q3,q4⟩
end
def na{H:List Hl}{i:Nat}(h:i<H.length):(M9 H)[i*2]?=some (.i (gs H i).1):=by
 have:=U5 (f:=Od) (k:=2) (λ_=>rfl) (Wb h) (j:=0) J;simpa [M9,Od] using this
def zc6{H:List Hl}{i:Nat}(h:i<H.length):(M9 H)[i*2+1]?=some (.i (gs H i).2):=by
 have:=U5 (f:=Od) (k:=2) (λ_=>rfl) (Wb h) (j:=1) J;simpa [M9,Od] using this
def zoe{i:Nat}(h:i<vS.length):((M9 vS).drop (i*2)).take 2=Od (gs vS i):=pg (f:=Od) (k:=2) (λ_=>rfl) (Wb h)
def gr(g:List Hl)(h:Hl)(i:Nat):(M9 g).take (i*2)++Od h++(M9 g).drop (i*2)=M9 (g.take i++h::g.drop i):=by
 unfold M9;rw[mh (k:=2) (λ_=>rfl),ub (k:=2) (λ_=>rfl)];simp
def zv4(H:List Hl)(i:Nat):(M9 H).take (i*2)++(M9 H).drop ((i+1)*2)=M9 (H.take i++H.drop (i+1)):=by
 unfold M9;rw[mh (k:=2) (λ_=>rfl),ub (k:=2) (λ_=>rfl)];simp
def zun{i:Nat}(h:i<vS.length)(x:Hl):M9 (vS.set i x)=(M9 vS).take (i*2)++Od x++(M9 vS).drop ((i+1)*2):=by
 unfold M9;rw[mh (k:=2) (λ_=>rfl),ub (k:=2) (λ_=>rfl),Jy,Ih h];simp
def W0{i:Nat}(h:i<vS.length)(x:Int):Nh (M9 vS) (i*2) [.i x]=M9 (vS.set i (x,(gs vS i).2)):=by
 rw[zun h];unfold Nh;have g:=zc6 h;have j:=mr vS;have e:(M9 vS).drop (i*2+1)=.i (gs vS i).2::(M9 vS).drop ((i+1)*2):=by
  rw[Iw J,(J:(i+1)*2=i*2+1+1)];rw[H8 J]at g;rw[Option.some.inj g]
 show _++(M9 vS).drop (i*2+1)=_;rw[e];simp[Od]
def Yp{H:List Hl}{i:Nat}(h:i<H.length)(y:Int):Nh (M9 H) (i*2+1) [.i y]=M9 (H.set i ((gs H i).1,y)):=by
 rw[zun h];unfold Nh;have g:=na h;have j:=mr H;have e:(M9 H).take (i*2+1)=(M9 H).take (i*2)++[.i (gs H i).1]:=by
  rw[L6,g];rfl
 show _++(M9 H).drop (i*2+1+1)=_;rw[e,(J:i*2+1+1=(i+1)*2)];simp[Od]
def ziw{n:Int}:∀(g:List Hl),(∀j,j<g.length→(gs g j).2-(gs g j).1<n)→Vi n g=none
 |[],_=>rfl
 |h::g,z=>by
  have A:=z 0 N;have:(gs (h::g) 0)=h:=rfl;rw[this]at A;unfold Vi;rw[Ih A,ziw g (λj B=>by have:=z (j+1) (by simpa using B);simpa [gs] using this)]
def zq1{n:Int}:∀(g:List Hl) (i:Nat),i<g.length→(∀j,j<i→(gs g j).2-(gs g j).1<n)→¬((gs g i).2-(gs g i).1<n) →
  Vi n g=some ((gs g i).1,g.take i++(if (gs g i).1+n=(gs g i).2 then g.drop (i+1) else ((gs g i).1+n,(gs g i).2)::g.drop (i+1)))
 |[],_,h,_,_=>Cj
 |h::g,0,_,_,hw=>by
  have:(gs (h::g) 0)=h:=rfl;rw[this]at hw ⊢;unfold Vi;rw[Ig hw];rfl
 |h::g,i+1,hi,z,hw=>by
  have A:=z 0 J;have B:(gs (h::g) 0)=h:=rfl;have C:gs (h::g) (i+1)=gs g i:=by simp[gs]
  rw[B]at A;rw[C]at hw ⊢;unfold Vi;rw[Ih A,zq1 g i Co (λj D=>by have:=z (j+1) J;simpa [gs] using this) hw];simp
def zpc{i:Nat}(h:i+1<vS.length):vS.drop i=gs vS i::gs vS (i+1)::vS.drop (i+2):=by
 have g:=Wb (l:=vS) (n:=i) J;have j:=Wb h;rw[H8 J]at g j;rw[Iw J,Iw (J:i+1<vS.length),Option.some.inj g,Option.some.inj j]
def zrn{H:List Hl}{i:Nat}(h:i+1<H.length)(g:(gs H i).2≠(gs H (i+1)).1):H.take (i+1)++Rl (H.drop (i+1))=H.take i++Rl (H.drop i):=by
 have z:=Wb (l:=H) (n:=i) J;have A:H.drop (i+1)=gs H (i+1)::H.drop (i+2):=by
  have j:=Wb h;rw[H8 J]at j;rw[Iw (J:i+1<H.length),Option.some.inj j]
 rw[zpc h]
 conv=>rhs;rw[Rl]
 rw[Ig g,←A,L6,z];simp
def zr2{H:List Hl}{i:Nat}(h:i+1<H.length)(j:(gs H i).2=(gs H (i+1)).1) :
  (((H.set i ((gs H i).1,(gs H (i+1)).2)).take (i+1)++(H.set i ((gs H i).1,(gs H (i+1)).2)).drop (i+1+1)).take i++Rl (((H.set i ((gs H i).1,(gs H (i+1)).2)).take (i+1)++(H.set i ((gs H i).1,(gs H (i+1)).2)).drop (i+1+1)).drop i))=H.take i++Rl (H.drop i):=by
 have z:(H.set i ((gs H i).1,(gs H (i+1)).2)).take (i+1)++(H.set i ((gs H i).1,(gs H (i+1)).2)).drop (i+1+1)=H.take i++((gs H i).1,(gs H (i+1)).2)::H.drop (i+2):=by
  rw[List.drop_set_of_lt J,L6,Mi J,Ia J];simp
 rw[z,zpc h]
 conv=>rhs;rw[Rl]
 rw[Ih j];have g:(H.take i).length=i:=B2
 rw[K7 g,List.drop_left' g]
def ztw{H:List Hl}{i:Nat}(h:H.length≤i+1):H.take i++Rl (H.drop i)=H:=by
 have g:Rl (H.drop i)=H.drop i:=by
  match hd:H.drop i with
  |[]=>unfold Rl;rfl
  |[x]=>unfold Rl;rfl
  |x::y::l =>
   have:=congrArg List.length hd;rw[Jg]at this;simp at this;omega
 rw[g,Jp]
section
variable {f : Int → Int}
def q9(f:Int→Int)(l:List Int)(a b:Nat):Prop:=∀u v,a≤u→u<v→v<b→f (gd l u)≤f (gd l v)
def Xh(f:Int→Int)(l:List Int)(a i g:Nat):Prop:=∀u v,a≤u→u<v→v≤i→v≠g→f (gd l u)≤f (gd l v)
def X3{l:List Int}{a i:Nat}(H:a<g)(I:g≤i)(hi:i<l.length)(A:Xh f l a i g)(G:f (gd l g)<f (gd l (g-1))):Xh f (ux l g) a i (g-1):=by
 intro u v E B C D;rw[zjz J J,zjz J J];by_cases j:v=g
 ·rw[Ih j];by_cases z:u=g-1
  ·rw[Ig J,Ih z];omega
  ·rw[Ig J,Ig z];exact A u (g-1) E J J J
 ·rw[Ig j,Ig D];by_cases F:u=g
  ·rw[Ih F];exact A (g-1) v J J C j
  ·rw[Ig F];by_cases z:u=g-1
   ·rw[Ih z];exact A g v J J C j
   ·rw[Ig z];exact A u v E B C j
def Xz{l:List Int}{a i:Nat}(B:g≤i)(z:Xh f l a i g)(h:g=a∨f (gd l (g-1))≤f (gd l g)):q9 f l a (i+1):=by
 intro u v A j C;by_cases e:v=g
 ·subst e;rcases h with h|h
  ·omega
  ·by_cases e:u=v-1
   ·rw[e];exact h
   ·exact L7 (z u (v-1) A J J J) h
 ·exact z u v A j J e
def zst{l:List Int}{a i:Nat}(h:q9 f l a i):Xh f l a i i:=λu v j g A z=>h u v j g J
def Yr{l:List Int}(H:0<g)(h:g<l.length):(ux l g).Perm l:=by
 have z:l=l.take (g-1)++gd l (g-1)::gd l g::l.drop (g+1):=by
  have A:=Ug (l:=l) (u:=g-1) J;have B:=Ug h;rw[H8 J]at A B;have j:l.drop (g-1)=l[g-1]::l[g]::l.drop (g+1):=by
   have:=Iw (l:=l) (i:=g) h;rw[Iw (J:g-1<l.length),(J:g-1+1=g),this]
  rw[←Option.some.inj A,←Option.some.inj B,←j,Jp]
 obtain⟨F,x,y,G,j,C,D,E⟩:∃(F:List Int) (x y:Int) (G:List Int),l=F++x::y::G∧F.length=g-1∧gd l (g-1)=x∧gd l g=y :=
  ⟨_,_,_,_,z,B2,rfl,rfl⟩
 unfold ux;rw[D,E];clear D E z;subst j;rw[Ls _ _ J,C,(J:g-(g-1)=1)];rw[Ls _ _ J,C,Nat.sub_self];simp only[List.set_cons_succ,List.set_cons_zero];exact List.Perm.append_left _ (List.Perm.swap ..)
end
def Zs{l:List Int}(h:l.Perm (Z.map λ(v:Nat)=>(v:Int))):∃o:List Nat,l=o.map (λ(v:Nat)=>(v:Int))∧o.Perm Z:=by
 refine⟨l.map Int.toNat,?_,?_⟩
 ·rw[List.map_map];refine (List.map_id l).symm.trans (List.map_congr_left λx g=>?_);obtain⟨v,_,rfl⟩:=Lz.1 (h.mem_iff.1 g);simp
 ·have:=h.map Int.toNat;rw[List.map_map]at this;refine this.trans (List.Perm.of_eq ?_);refine (List.map_congr_left λx _=>?_).trans (List.map_id Z);simp
def Yz{f:Int→Int}{l:List Int}(h:q9 f l 0 l.length):l.Pairwise λx y=>f x≤f y:=by
 rw[List.pairwise_iff_getElem];intro i z hi j g;have:=h i z J g j;simpa [gd,hi,j] using this
def Sj(vs:List Vr)(n:Nat):List Nat:=(List.range n).filter λv=>decide ((gv vs v).mode=0)
def zbv(vs:List Vr)(n:Nat):Sj vs (n+1)=Sj vs n++if (gv vs n).mode=0 then [n] else []:=by
 unfold Sj;rw[Mg,List.filter_append];by_cases h:(gv vs n).mode=0<;>simp[h]
def zao{vs:List Vr}{n v:Nat}:v∈Sj vs n↔v<n∧(gv vs v).mode=0:=by simp[Sj]
def zdg(vs:List Vr)(n:Nat):(Sj vs n).length≤n:=by
 have:=K6 (λv=>decide ((gv vs v).mode=0)) (List.range n);simpa [Sj] using this
def zkn(g:List Vr)(n:Nat):(Sj g n).Nodup:=(List.nodup_range (n:=n)).sublist List.filter_sublist
section
section del
variable {b : Nat} {G : Mu} {v : LV} {n : Nat} {l : List LV}
def zk3{i:Nat}{x:LV}(h:i<Y.length):Nh Y i [x]=Y.set i x:=by
 unfold Nh;rw[Jy,Ih h];simp
def Nt.ixw1(h:Nt b G v 1 n l){i:Int}(h0:0≤i)(hi:i<n){K:LV→Prop}
  (k:∀(p gg:Nat) (R:List LV) (m st:Nat),Q9 v=some p→G[p]?=some (.dyn R m 1 gg st)→i.toNat+1≤R.length→(∀(x:LV) (gj:Nat),x.dat=true→Nt b (G.set p (.dyn (Nh R i.toNat [x]) m 1 gg gj)) v 1 n (l.set i.toNat x))→K (.dptr p gg i.toNat)):Vm G 1 v i K:=by
 have key:∀(R:List LV) (x:LV),dats R=true→x.dat=true→i.toNat<R.length→dats (Nh R i.toNat [x])=true:=λR x hd hx _=>zex hd (by simp[dats,hx])
 rcases h with ⟨rfl,rfl,rfl⟩|⟨p,gg,R,m',st,h1,h2,h3,h4,rfl,hd,⟨rfl,rfl⟩|rfl⟩
 ·omega
 ·rw[wh,h2];have hp:=(H5.1 h2).1;refine⟨rfl,rfl,h0,hi,?_⟩;rw[Kr];refine k _ _ _ _ _ rfl h2 J λx gj hx=>.inr ⟨p,gg,_,_,_,h1,Ia hp,?_,Ie _,?_,key R x hd hx J,.inl ⟨rfl,rfl⟩⟩
  ·rw[zk3 J,J2];exact h3
  ·rw[zk3 J,List.take_set]
 ·rw[zp9,h2];have hp:=(H5.1 h2).1;refine⟨rfl,rfl,h0,hi,?_⟩;rw[I7,Kr];refine k _ _ _ _ _ rfl h2 J λx gj hx=>.inr ⟨p,gg,_,_,_,h1,Ia hp,?_,h4,?_,key R x hd hx J,.inr rfl⟩
  ·rw[zk3 J,J2];exact h3
  ·rw[zk3 J,List.take_set]
def zkf{g:LV}:∀n,(Na [g] n).length=n
 |0=>rfl
 |n+1=>by simp[Na,zkf n]
def zha{g:LV}(h:g.dat=true):∀n,dats (Na [g] n)=true
 |0=>rfl
 |n+1=>by simp[Na,dats,h,zha h n]
def Nt.tail1(h:Nt b G v 1 n l){i:Nat}(hi:i≤n)(hr:Q9 v≠none){lo:(Nat→Prop)→Prop}{gB:Nat→(Nat→Prop)→Prop}(gC:∀K':Nat→Prop,K' i→lo K')(gD:∀(K':Nat→Prop),K' n→gB n K'){K:LV→Prop}
  (k:∀(p gg:Nat) (R:List LV) (m st:Nat),Q9 v=some p→G[p]?=some (.dyn R m 1 gg st)→i+(n-i)≤R.length→(∀(gj:Nat),Nt b (G.set p (.dyn (Nh R i (Na [.i 0] (n-i))) m 1 gg gj)) v 1 n (l.take i++Na [.i 0] (n-i)))→K (.vw p gg i (n-i))):Yg G 1 v lo gB K:=by
 have key:∀(R:List LV) (m:Nat),n≤R.length→(Nh R i (Na [.i 0] (n-i))).length=R.length∧(Nh R i (Na [.i 0] (n-i))).take n=(R.take n).take i++Na [.i 0] (n-i):=by
  intro R m hR;unfold Nh;have e:(R.take i++Na [LV.i 0] (n-i)).length=n:=by rw[Il,Ir,zkf];omega
  refine⟨?_,?_⟩
  ·rw[Il,e,Jg,zkf];omega
  ·rw[K7 e,Lj,Jr hi]
 rcases h with ⟨rfl,rfl,rfl⟩|⟨p,gg,R,m',st,h1,h2,h3,h4,rfl,hd,⟨rfl,rfl⟩|rfl⟩
 ·exact absurd rfl hr
 ·rw[slL_dy,h2];have hp:=(H5.1 h2).1;refine⟨rfl,rfl,gC _ (gD _ ⟨J,Ie _,?_⟩)⟩;obtain⟨k1,k2⟩:=key R n J;refine k _ _ _ _ _ rfl h2 J λgj=>.inr ⟨p,gg,_,_,_,h1,Ia hp,by rw[k1];exact h3,Ie _,by rw[Kr,k2],zex hd (zha rfl _),.inl ⟨rfl,rfl⟩⟩
 ·rw[slL_vw,h2];have hp:=(H5.1 h2).1;refine⟨rfl,rfl,gC _ (gD _ ⟨J,Ie _,?_⟩)⟩;obtain⟨k1,k2⟩:=key R m' J;rw[I7];refine k _ _ _ _ _ rfl h2 J λgj=>.inr ⟨p,gg,_,_,_,h1,Ia hp,by rw[k1];exact h3,h4,by rw[Kr,k2],zex hd (zha rfl _),.inr rfl⟩
end del
end
section
def zto{f:v9→List LV}{k:Nat}(g:∀a,(f a).length=k){l:List v9}{i:Nat}(x:v9)(h:i<l.length):Nh (l.flatMap f) (i*k) (f x)=(l.set i x).flatMap f:=by
 unfold Nh;rw[g,mh g,(En:i*k+k=(i+1)*k),ub g,Jy,Ih h,List.flatMap_append,J6,Iz]
def joinL_len:∀(n:Nat) (j:List Hl),j.length≤n→(Rl j).length≤j.length
 |_,[],_=>by unfold Rl;exact Ie _
 |_,[x],_=>by unfold Rl;exact Ie _
 |0,_::_::_,g=>by simp at g
 |n+1,(A,C)::(B,z)::j,g=>by
  unfold Rl;split
  ·have:=joinL_len n ((A,z)::j) (by simp at g ⊢;omega);simp at this ⊢;omega
  ·have:=joinL_len n ((B,z)::j) (by simp at g ⊢;omega);simp at this ⊢;omega
def zt3(i j:Nat)(h:Hl)(g:List Hl):(cn i j h g).length≤g.length+1:=by
 unfold cn;have e:(g.take i++h::g.drop i).length=g.length+1:=Ab
 have:=joinL_len _ ((g.take i++h::g.drop i).drop j) (Ie _);rw[Il,Ir];rw[Jg]at this;omega
def zls{n:Int}:∀(j:List Hl) (a:Int) (g:List Hl),Vi n j=some (a,g)→g.length≤j.length
 |[],_,_,h=>Ak
 |(x,y)::j,a,g,h=>by
  unfold Vi at h;split at h
  ·split at h
   ·cases h
   ·rename_i r z;simp only[Option.some.injEq,Prod.mk.injEq]at h;obtain⟨rfl,rfl⟩:=h;have:=zls j r.1 r.2 z;simp;exact this
  ·simp only[Option.some.injEq,Prod.mk.injEq]at h;obtain⟨_,rfl⟩:=h;split<;>simp
def zw9(n:Int)(s:St):(Oz n s).2.holes.length≤s.holes.length:=by
 unfold Oz;split
 ·rename_i a g e;exact zls _ _ _ e
 ·exact Ie _
def znh{l:List Int}(h:∀x∈l,0≤x)(t:Nat):(l.take t).sum≤l.sum:=by
 have e:(l.take t++l.drop t).sum=l.sum:=by rw[Jp]
 rw[List.sum_append]at e;have:∀m:List Int,(∀x∈m,0≤x)→0≤m.sum:=by
  intro m
  induction m with
  |nil=>intro _;simp
  |cons y m j =>
   intro hm;have:=j λx g=>hm x (Jc _ g)
   have:=hm y (J9 ..);simp;omega
 have:=this (l.drop t) λx g=>h x (J1 g)
 omega
def zpj{l m:List Int}(h:l.Perm m):l.sum=m.sum:=by
 induction h with
 |nil=>rfl
 |cons x _ g=>simp[g]
 |swap x y l=>simp;omega
 |trans _ _ j z=>exact j.trans z
section pl
variable {wk : Bool → Int} {a b M8 : Nat → Int} {sec : Nat → Bool} {done busy : List Nat} {iv : Nat → Hl} {ps : Bool → St} {cur cur' : Int}
def Plan0.raise(h:Plan0 wk a b M8 sec done busy iv ps cur)(hc:cur≤cur'):Plan0 wk a b M8 sec done busy iv ps cur' :=
 ⟨h.ok,h.wide,h.nd,h.sub,λv hv hn=>Int.lt_of_lt_of_le (h.over v hv hn) hc,h.pairs,h.inn,h.sz⟩
def Plan0.hole(h:Plan0 wk a b M8 sec done busy iv ps cur)(s:Bool){x:Hl}(hx:x∈(ps s).holes):0≤x.1∧x.1<x.2∧x.2≤(ps s).size:=(h.ok s).2.2 _ (by simp[hx])
def zam(ps:Bool→St)(s:Bool)(x:St):Rp ps s x s=x:=by simp[Rp]
def zez(ps:Bool→St){s t:Bool}(x:St)(h:t≠s):Rp ps s x t=ps t:=by simp[Rp,h]
def ki(done busy:List Nat)(ps:Bool→St):Prop:=∀s,(ps s).holes.length+busy.length≤done.length
def ki.give{x y:List Nat}{v:Nat}(h:ki done (x++v::y) ps)(s:Bool)(i j:Nat)(q:Hl)(z:Int):ki done (x++y) (Rp ps s ⟨cn i j q (ps s).holes,z⟩):=by
 intro t;have:=h t;simp at this;by_cases e:t=s
 ·subst e;rw[zam];have:=zt3 i j q (ps t).holes;dsimp only;simp;omega
 ·rw[zez _ _ e];simp;omega
def ki.take{v:Nat}(h:ki done busy ps)(s:Bool)(n:Int):ki (done++[v]) (busy++[v]) (Rp ps s (Oz n (ps s)).2):=by
 intro t;have:=h t;by_cases e:t=s
 ·subst e;rw[zam];have:=zw9 n (ps t);simp;omega
 ·rw[zez _ _ e];simp;omega
def znr{l:List Pc}{i:Nat}(h:i<l.length)(x:Pc)(g:Nat):N4 (l.set i x) g=if g=i then x else N4 l g:=by
 unfold N4;rw[H9,Lt];by_cases e:i=g
 ·subst e;simp[h]
 ·rw[Ig e,Ig (λq=>e q.symm),H9]
def gc{l m:List Pc}(h:l.length=m.length)(j:∀i,i<l.length→N4 l i=N4 m i):l=m:=by
 refine List.ext_getElem h λi g z=>?_
 have:=j i g;simpa [N4,g,z] using this
def jk(vs:List Vr)(r:Nat)(iv:Nat→Hl):(Te vs r iv).length=vs.length:=by simp[Te]
def znp{M8:Nat→Int}{sec:Nat→Bool}{i:Nat}(h:(i:Int)<A):R9 A iv M8 sec i=⟨i,0,M8 i⟩:=by unfold R9;rw[Ih h]
def zkd{M8:Nat→Int}{sec:Nat→Bool}{i:Nat}(h:¬(i:Int)<A):R9 A iv M8 sec i=⟨A+(if sec i=true then 1 else 0),(iv i).1,M8 i⟩:=by unfold R9;rw[Ig h]
def fy{M8:Nat→Int}{sec:Nat→Bool}{i v:Nat}{x:Hl}(h:i≠v):R9 A (Wr iv v x) M8 sec i=R9 A iv M8 sec i:=by
 unfold R9;split
 ·rfl
 ·simp[Wr,h]
end pl
end
def cd(w:Bool→Int)(c:Bool)(n:Int):Bool→Int:=λe=>if e=c then max (w e) n else w e
def Qt(N:Ko→Int)(g:Ko→Bool):(Bool→Int)→List Ko→(Bool→Int)×Bool
 |w,[]=>(w,true)
 |w,o::l=>if o.d<0 then Qt N g w l else if N o=0 then (w,false) else Qt N g (cd w (!g o) (N o)) l
def mb:Bool→Int:=λ_=>1
def yg(N:Ko→Int)(g:Ko→Bool):∀(l:List Ko) (w:Bool→Int) (c:Bool),w c≤(Qt N g w l).1 c
 |[],_,_=>Kt _
 |o::l,w,c=>by
  unfold Qt;split
  ·exact yg N g l w c
  ·split
   ·exact Kt _
   ·refine L7 ?_ (yg N g l _ c);unfold cd;split<;>omega
def zjx(N:Ko→Int)(g:Ko→Bool){m:Int}(j:∀o,N o≤m):∀(l:List Ko) (w:Bool→Int),(∀c,w c≤m)→∀c,(Qt N g w l).1 c≤m
 |[],_,h,c=>h c
 |o::l,w,h,c=>by
  unfold Qt;split
  ·exact zjx N g j l w h c
  ·split
   ·exact h c
   ·refine zjx N g j l _ (λe=>?_) c;have:=h e;have:=j o;unfold cd;split<;>omega
def zk7(N:Ko→Int)(g:Ko→Bool):∀(l:List Ko) (w:Bool→Int),(Qt N g w l).2=true→∀o∈l,0≤o.d→N o≠0∧N o≤(Qt N g w l).1 (!g o)
 |[],_,_,_,h,_=>Ak
 |o::l,w,j,x,z,hd=>by
  unfold Qt at j ⊢;split at j
  ·rename_i A;rw[Ih A];rcases Ij.1 z with rfl|z
   ·omega
   ·exact zk7 N g l w j x z hd
  ·rename_i A;rw[Ig A];split at j
   ·cases j
   ·rename_i B;rw[Ig B];rcases Ij.1 z with rfl|z
    ·refine⟨B,L7 ?_ (yg N g l _ _)⟩;unfold cd;rw[Ih rfl];omega
    ·exact zk7 N g l _ j x z hd
section
section those
variable {p : Vr → Bool} {vs : List Vr}
def those_rank:∀(n t:Nat),t<(On p vs n).length→(On p vs n).getD t 0<n∧p (gv vs ((On p vs n).getD t 0))=true∧(On p vs ((On p vs n).getD t 0)).length=t
 |0,t,h=>by simp[On]at h
 |n+1,t,h=>by
  rw[ji]at h ⊢;by_cases q:t<(On p vs n).length
  ·have e:(On p vs n++if p (gv vs n)=true then [n] else []).getD t 0=(On p vs n).getD t 0:=by
    rw[H9,Ib q,H9]
   rw[e];obtain⟨a,b,c⟩:=those_rank n t q;exact⟨J,b,c⟩
  ·split at h
   ·rename_i g;have j:t=(On p vs n).length:=by simp at h;omega
    subst j;rw[Ih g];have e:(On p vs n++[n]).getD (On p vs n).length 0=n:=by
     rw[H9,In (Ie _)];simp
    rw[e];exact⟨J,g,rfl⟩
   ·simp at h;omega
def those_at:∀(n g:Nat),g<n→p (gv vs g)=true→(On p vs g).length<(On p vs n).length∧(On p vs n).getD (On p vs g).length 0=g
 |0,g,h,_=>J
 |n+1,g,h,j=>by
  rw[ji];by_cases q:g<n
  ·obtain⟨a,b⟩:=those_at n g q j;refine⟨by rw[Il];omega,?_⟩;rw[H9,Ib a,←H9];exact b
  ·have:g=n:=J
   subst this;rw[Ih j];refine⟨N,?_⟩;rw[H9,In (Ie _)];simp
end those
def Qw(vs:List Vr)(g:UInt64)(z:List (List UInt64))(j:Nat):List UInt64 :=
 if (gv vs j).mode=3 then List.replicate (gv vs j).limbs.toNat g else Nr (z.getD (On Ny vs j).length []) (gv vs j).limbs
def RowsM(vs:List Vr)(g:Nat)(j:UInt64)(z B:List (List UInt64)):Prop :=
 B.length=g+2∧(∀A,A<g→B.getD A []=Qw vs j z A)∧∀A,g≤A→B.getD A []=[]
def xi{x:List UInt64}{n:Int}(g:1≤n∧n≤512)(h:val x<Y8 n):Nz x n=0:=by
 unfold Nz;rw[Ig J,Ig];have:=(zjs (val x) n J).2 h;omega
def ox{x:List UInt64}{n:Int}(h:Nz x n=0):val (Nr x n)=val x:=by
 unfold Nr;rw[Ih h,val_append,val_rep0,tq];simp
def zsl(x:List UInt64)(n:Int):(Nr x n).length≤512:=by
 by_cases h:Nz x n=0
 ·have:=zbg h;omega
 ·unfold Nr;rw[Ig h];simp
end
end Go.Sv
