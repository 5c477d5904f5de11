/- Texts of the evaluator, of the logic over it, of plain arithmetic. -/
import Derived.Test.YtgjbfhmmgeplmaaGreatSvG1
import Derived.OpenShut
import Derived.Carry
import Derived.WalkKit
import Derived.ProofKit
import Derived.WideKeyArgs
import Derived.ChangeCalls
set_option linter.unusedSimpArgs false
set_option linter.defProp false
namespace Go.Sv
variable{g j D vZ vT:Nat}{z:Program}{T:Int}{C:World}{L vK:Bool}{R:TypeId}{V:Option Nat}{Z:List Nat}{v9:Type}{v8:Array Value}{vI:Code}{vG:Prop}{B U:Heap}{E:AV}{I vV:Tr AV}{F:CM}{G Y:List LV}{M:Mu}{O:LV}{S:LV→Mu→Prop}{vO:Cx}{vH:LV→Prop}
section
section res
variable {P : Program} {c : Cx} {G : Mu} {K : LV → Mu → Prop}
def zlz(l h m o v i j:Nat)(A:l≤h)(B:h≤m):(h-l=0∧Xg l h m o v i j=.emp∧l≠0)∨∃g,Xg l h m o v i j=.sl o v (i+l*j) (h-l) j g∧∀r,g=some r→h-l≤r:=by
 unfold Xg;cases C:Nat.beq l m with
 |true =>
  have E:=Ic C;cases z:Nat.beq l 0 with
  |true =>
   have D:=Ic z;have:h-l=0:=J
   refine .inr ⟨some 0,?_,λr _=>J⟩;rw[this,D];simp
  |false=>exact .inl ⟨J,rfl,λe=>by subst e;cases z⟩
 |false=>exact .inr ⟨_,rfl,λr e=>by cases e;show h-l≤m-l;omega⟩
def z89{lo hi:Option Nat}{o v i len esz:Nat}{room:Option Nat}(j:lo.getD 0≤hi.getD len)(B:hi.getD len≤len)(C:∀r,room=some r→len≤r) :
  ∃a,Ts esz lo hi none o v i len esz room=some a∧cj a=true∧((hi.getD len-lo.getD 0=0∧a=.emp∧lo.getD 0≠0)∨∃g,a=.sl o v (i+lo.getD 0*esz) (hi.getD len-lo.getD 0) esz g∧∀r,g=some r→hi.getD len-lo.getD 0≤r):=by
 generalize F:lo.getD 0=l at j;generalize H:hi.getD len=h at j B;have z:∀a,((h-l=0∧a=.emp∧l≠0)∨∃g,a=AV.sl o v (i+l*esz) (h-l) esz g∧∀r,g=some r→h-l≤r)→cj a=true:=by
  rintro a (⟨_,rfl,_⟩|⟨_,rfl,_⟩)<;>rfl
 unfold Ts;rw[I0,F,H];dsimp only;unfold jr;have D:Nat.ble l h=true:=If j;cases room with
 |some r =>
  have A:Nat.ble h ((some r).getD len)=true:=If (by have:=C r rfl;show h≤r;omega);rw[D,A];dsimp only;have:=zlz l h r o v i esz j (by have:=C r rfl;omega);exact⟨_,rfl,z _ this,this⟩
 |none =>
  have A:Nat.ble h ((none:Option Nat).getD len)=true:=If B;rw[D,A];dsimp only;cases E:Nat.beq l 0 with
  |true =>
   have I:=Ic E;have:(h-l=0∧(AV.sl o v i h esz none)=.emp∧l≠0)∨∃g,AV.sl o v i h esz none=AV.sl o v (i+l*esz) (h-l) esz g∧∀r,g=some r→h-l≤r:=.inr ⟨none,by rw[I];simp,λr e=>An⟩;exact⟨_,rfl,z _ this,this⟩
  |false =>
   cases L:Nat.beq l h with
   |true =>
    have M:=Ic L;exact⟨_,rfl,rfl,.inl ⟨J,rfl,λe=>by subst e;cases E⟩⟩
   |false=>exact⟨_,rfl,rfl,.inr ⟨none,rfl,λr e=>An⟩⟩
def zec{lo hi:Option Nat}{o v i len esz m:Nat}{room:Option Nat}(z:lo.getD 0≤hi.getD len)(A:hi.getD len≤m)(hm:m≤len)(C:∀r,room=some r→len≤r) :
  ∃a,Ts esz lo hi (some m) o v i len esz room=some a∧cj a=true∧((hi.getD len-lo.getD 0=0∧a=.emp∧lo.getD 0≠0)∨∃g,a=.sl o v (i+lo.getD 0*esz) (hi.getD len-lo.getD 0) esz g∧∀r,g=some r→hi.getD len-lo.getD 0≤r):=by
 generalize D:lo.getD 0=l at z;generalize E:hi.getD len=h at z A;have B:∀a,((h-l=0∧a=.emp∧l≠0)∨∃g,a=AV.sl o v (i+l*esz) (h-l) esz g∧∀r,g=some r→h-l≤r)→cj a=true:=by
  rintro a (⟨_,rfl,_⟩|⟨_,rfl,_⟩)<;>rfl
 unfold Ts;rw[I0,D,E];dsimp only;unfold jr;have j:m≤room.getD len:=by
  cases room with
  |none=>exact hm
  |some r=>have:=C r rfl;show m≤r;omega
 rw[show Nat.ble l h=true from If z,show Nat.ble h (room.getD len)=true from If (I5 A j)];dsimp only;rw[show Nat.ble h m=true from If A,show Nat.ble m (room.getD len)=true from If j];dsimp only;have:=zlz l h m o v i esz z A;exact⟨_,rfl,B _ this,this⟩
def zdx{hi:Option Nat}{o v i len:Nat}{z:Option Nat}{a:AV}(h:Ts g V hi none o v i len j z=some a)(A:V.getD 0=0):∃B n,a=.sl o v B n j z:=by
 unfold Ts at h;split at h
 ·cases h
 rw[A]at h;unfold jr at h;split at h
 ·cases h
 split at h
 ·cases h
 dsimp only at h;cases z with
 |some r =>
  dsimp only at h;cases h;unfold Xg;split
  ·rename_i C;have:=Ic C;subst this;exact⟨_,_,rfl⟩
  ·exact⟨_,_,rfl⟩
 |none =>
  dsimp only at h;cases h;exact⟨_,_,rfl⟩
def zkz{lo hi:Option Nat}{o v i len esz:Nat}{room:Option Nat}{a:AV}(h:Ts g lo hi none o v i len esz room=some a)(z:j=0→lo.getD 0=0)(A:E=.sl o v 0 len esz room):Vj j E a:=by
 intro B;obtain⟨C,n,rfl⟩:=zdx h (z B);subst A;exact .inl rfl
def ziz{lo hi:Option Nat}{o v i len esz:Nat}{a:AV}(h:Ts g lo hi none o v i len esz V=some a)(z:j=0→lo.getD 0=0∧D=0)(B:Vj D E (.sl o v vZ vT esz V)):Vj j E a:=by
 intro A;obtain⟨C,n,rfl⟩:=zdx h (z A).1;exact B (z A).2
def zjt{lo hi:Option Nat}{o v i len esz m:Nat}{room:Option Nat}{a:AV}(h:Ts g lo hi (some m) o v i len esz room=some a)(z:j=0→lo.getD 0=0)(hm:m≤len)(B:E=.sl o v 0 len esz room):Vj j E a:=by
 intro C;have z:=z C;subst B;unfold Ts at h;split at h
 ·cases h
 rw[z]at h;unfold jr at h;split at h
 ·cases h
 split at h
 ·cases h
 dsimp only at h;split at h
 ·cases h
 split at h
 ·cases h
 cases h;have D:∃(A n r:Nat),Xg 0 (hi.getD len) m o v i esz=.sl o v A n esz (some r)∧r≤m:=by
  unfold Xg;cases Nat.beq 0 m with
  |true=>exact⟨_,_,0,rfl,K8 _⟩
  |false=>exact⟨_,_,m-0,rfl,Nat.sub_le _ _⟩
 obtain⟨A,n,r,e,F⟩:=D;rw[e];exact .inr ⟨r,rfl,J⟩
def zmv{lo hi:Option Nat}{o v i len esz m:Nat}{room:Option Nat}{a:AV}(h:Ts g lo hi (some m) o v i len esz room=some a)(z:lo.getD 0=0)(A:hi.getD len=m)(hm:0<m):a=.sl o v i m esz (some m):=by
 unfold Ts at h;split at h
 ·cases h
 rw[z,A]at h;unfold jr at h;split at h
 ·cases h
 split at h
 ·cases h
 dsimp only at h;split at h
 ·cases h
 split at h
 ·cases h
 cases h;unfold Xg;have j:Nat.beq 0 m=false:=by
  cases j:Nat.beq 0 m with
  |false=>rfl
  |true=>have:=Ic j;omega
 rw[j];dsimp only;rw[show Nat.add i (Nat.mul 0 esz)=i by show i+0*esz=i;omega,show Nat.sub m 0=m from rfl]
def AR.lst'{l:List LV}{len esz:Nat}{a:AV}{o v i n:Nat}{l':List AV}(hf:c.Fz o)(hr:Pg c.H o v i n=some l')(hl:ARs c l l')(hle:j*esz+len*esz≤n)
  (ha:(len=0∧a=.emp)∨∃room,a=.sl o v (i+j*esz) len esz room∧∀r,room=some r→len≤r):AR c (.lst ((l.drop (j*esz)).take (len*esz)) len esz) a:=by
 have hn:=zcr hr;have gj:=hl.length;rcases ha with ⟨rfl,rfl⟩|⟨room,rfl,gg⟩
 ·simp only[Kq,Mr];exact .lstEmp
 ·exact .lst hf gg Ab (zic hr hle) ((hl.drop _).take _)
def xl(g:Bool)(a b:Int):Wa g (.int .i64 a) [.int .i64 b]=some (.int .i64 (match g with|true=>max a b|false=>min a b)):=by
 have j:Ve .i64 .i64=true:=rfl;simp only[Wa,Uv,j];cases g with
 |true =>
  simp only[S1];by_cases h:a<b
  ·rw[Kg h];simp only;congr 2;omega
  ·rw[Me h];simp only;congr 2;omega
 |false =>
  simp only[S1];by_cases h:b<a
  ·rw[Kg h];simp only;congr 2;omega
  ·rw[Me h];simp only;congr 2;omega
def dq(z:Bool)(a b d:Int):Wa z (.int .i64 a) [.int .i64 b,.int .i64 d]=some (.int .i64 (match z with|true=>max (max a b) d|false=>min (min a b) d)):=by
 cases z with
 |true =>
  have g:=xl true a b;have j:=xl true (max a b) d;simp only[Wa]at g j ⊢;cases hm:Uv true (.int .i64 a) (.int .i64 b) with
  |none=>rw[hm]at g;cases g
  |some r =>
   rw[hm]at g;simp only[Option.some.injEq]at g;subst g;exact j
 |false =>
  have g:=xl false a b;have j:=xl false (min a b) d;simp only[Wa]at g j ⊢;cases hm:Uv false (.int .i64 a) (.int .i64 b) with
  |none=>rw[hm]at g;cases g
  |some r =>
   rw[hm]at g;simp only[Option.some.injEq]at g;subst g;exact j
def ol(g:Bool)(a b:UInt64):Wa g (.int .u64 (Int.ofNat a.toNat)) [.int .u64 (Int.ofNat b.toNat)]=some (.int .u64 (Int.ofNat (match g with|true=>if a<b then b else a|false=>if b<a then b else a:UInt64).toNat)):=by
 have j:Ve .u64 .u64=true:=rfl;simp only[Wa,Uv,j];cases g with
 |true =>
  simp only[S1,zf2];by_cases h:a<b
  ·rw[Kg h,Ih h]
  ·rw[Me h,Ig h]
 |false =>
  simp only[S1,zf2];by_cases h:b<a
  ·rw[Kg h,Ih h]
  ·rw[Me h,Ig h]
def bytesA_map:∀l:List UInt8,Tz.bytesA (l.map λb=>AV.int .u8 (Int.ofNat b.toNat))=some (Oh l)
 |[]=>rfl
 |b::l=>by
  have g:=b.toNat_lt;have h:Nat.blt b.toNat 256=true:=by unfold Nat.blt;exact If g
  simp only[Kd,Tz.bytesA,h,Kw,bytesA_map l,Oh]
def ARs_b:∀{j:List UInt8} {g:List AV},ARs c (j.map LV.b) g→g=j.map λb=>AV.int .u8 (Int.ofNat b.toNat)
 |[],g,h=>B5
 |b::j,g,h=>by
  cases h with
  |cons h z=>cases h;rw[ARs_b z];rfl
def fa(O:HSim c G){x:LV}{a:AV}{K:List LV→Prop}(D:AR c x a)(h:sf G x K):∃l j,ARs c l j∧K l∧((a=.nilSl∧j=[])∨∃o v i room,a=.sl o v i j.length 1 room∧Pg c.H o v i j.length=some j):=by
 unfold sf at h;split at h
 ·cases D;exact⟨[],[],.nil,h,.inl ⟨rfl,rfl⟩⟩
 ·rename_i p k;split at h
  ·rename_i l len E Q st R;obtain⟨S,rfl,h⟩:=h;cases D with
   | @dy _ _ Z hh _ e hk T _ =>
    obtain⟨r0,H,A⟩:=O.obj p _ _ _ R e;have B:=T J;rcases A with ⟨A,F⟩|⟨o,v,room,t,I,j,A,F,U,V,L,_⟩
    ·subst F;have:l=[]:=Iu Dd;subst this;exact⟨[],[],.nil,h,.inl ⟨B.trans A,rfl⟩⟩
    ·have g:j.length=len*1:=by rw[←L.length];exact H
     have z:=Tf (i:=0) (n:=len*1) F V U J;rw[Kr]at g z;refine⟨l,j,L,h,.inr ⟨o,v,0,room,by rw[B,A,g],?_⟩⟩;rw[g,z,Jt,Io J]
  ·exact h.elim
 ·rename_i l len E;obtain⟨rfl,C,h⟩:=h;cases D with
  |lst hf X M z Y =>
   have g:=zcr z;rw[Kr]at g z;refine⟨l,_,Y,h,.inr ⟨_,_,_,_,by rw[g],by rw[g];exact z⟩⟩
  |lstNil=>exact absurd rfl C
  |lstEmp=>exact absurd rfl C
 ·exact h.elim
def ny(z:HSim c G){ρ:My}(B:Nu c ρ I){o:LOp}(g:o.ok=true)(h:Nd P ρ G o K):Qu P c G K (N7 P (ρA I) c.H o.r):=by
 cases o with
 |move x=>exact .same z (N5 B g) h
 |pick cc a b =>
  simp only[LOp.ok,H7]at g;have hc:=N5 B g.1.1;have Z:=N5 B g.1.2;have hb:=N5 B g.2;simp only[Nd]at h;simp only[LOp.r,N7];generalize cc.ev ρ=cv at h hc;generalize cc.r.ev (ρA I)=ca at hc ⊢;cases cv<;>first|exact h.elim|skip
  rename_i t;cases hc;dsimp only at h;split at h
  ·rename_i x y j hy;rw[j]at Z;rw[hy]at hb;cases t with
   |true=>exact .same z Z h
   |false=>exact .same z hb h
  ·cases t with
   |true=>exact .same z Z (h.1 rfl)
   |false=>exact .same z hb (h.2 rfl)
 |alloc l=>exact zii z (kt c g) h
 |box x =>
  have j:=N5 B g;simp only[Nd]at h;simp only[LOp.r,N7];split at h
  ·rename_i l X;obtain⟨l',E,C⟩:=j.cells X;rw[E];exact zii z C h
  ·exact h.elim
 |build cs ps =>
  simp only[LOp.ok,H7]at g;simp only[Nd]at h;simp only[LOp.r,N7];split at h
  ·rename_i l X;obtain⟨l',E,C⟩:=zjn B g.2 (kt c g.1) X;rw[E];exact .same z (.agg C) h
  ·exact h.elim
 |buildSl A len cs ps =>
  simp only[LOp.ok,H7]at g;simp only[Nd]at h;simp only[LOp.r,N7];split at h
  ·rename_i l X;obtain⟨l',E,C⟩:=zjn B g.2 (kt c g.1) X;rw[E];exact d8 z C h.1 (λr e=>by cases e;rfl) h.2
  ·exact h.elim
 |load1 x =>
  have j:=N5 B g;simp only[Nd]at h;simp only[LOp.r,N7];obtain⟨o,v,i,w,b,E,C,O,H⟩:=zpy z j h;rw[E];dsimp only;rw[C];exact .same z O H
 |loadN n x =>
  have j:=N5 B g;simp only[Nd]at h;simp only[LOp.r,N7];obtain⟨o,v,i,l',l,E,C,O,H⟩:=zkg z j h;rw[E];dsimp only;rw[C];exact .same z (.agg O) H
 |store n x y =>
  simp only[LOp.ok,H7]at g;have j:=N5 B g.1;have hy:=N5 B g.2;simp only[Nd]at h;simp only[LOp.r,N7];split at h
  ·rename_i l X;obtain⟨l',p1,p2⟩:=hy.cells X;obtain⟨o,v,i,H',c',G',E,C,O,H,Q,q6⟩:=z9q z j p2 h.2;rw[E];dsimp only;rw[p1];dsimp only;have hb:Nat.beq l'.length n=true:=by rw[←p2.length,h.1];exact I0 _
   rw[hb];dsimp only;rw[C];exact⟨c',.tup [],G',O,H,Q,.tup .nil,q6⟩
  ·exact h.elim
 |nilChk x =>
  have j:=N5 B g;simp only[Nd]at h;simp only[LOp.r,N7];generalize x.ev ρ=v at h j;generalize x.r.ev (ρA I)=a at j ⊢;split at h
  ·have h0:=j;cases j;exact .same z h0 h
  ·have h0:=j;cases j;exact .same z h0 h
  ·have h0:=j;cases j;exact .same z h0 h
  ·have h0:=j;cases j;exact .same z h0 h
  ·exact h.elim
 |bin op jD t x y =>
  simp only[LOp.ok,H7]at g;exact .ret z (co (N5 B g.1) (N5 B g.2) h)
 |un op x=>exact .ret z (mi (N5 B g) h)
 |cvInt k x =>
  obtain⟨k',n,E,v,C,O⟩:=ml (N5 B g) (show ft k (x.ev ρ) (λv=>K v G) from h);simp only[LOp.r,N7];rw[E];exact .same z C O
 |cvStr x =>
  have j:=N5 B g;simp only[Nd]at h;simp only[LOp.r,N7];obtain⟨l,l',E,⟨bs,rfl,C⟩,O⟩:=fa z j h;have gX:=ARs_b E;rcases O with ⟨O,H⟩|⟨o,v,i,room,O,H⟩
  ·rw[O];rw[H]at gX;have:bs=[]:=by cases bs with
    |nil=>rfl
    |cons _ _=>cases gX
   subst this;exact .same z (.str []) C
  ·rw[O];show Qu P c G K (match Pg c.H o v i l'.length with
    |some r=>match Tz.bytesA r with
     |some n=>OR.val (.str l'.length n) c.H
     |none=>.no
    |none=>.no)
   rw[H];dsimp only;rw[gX,bytesA_map];dsimp only;exact .same z (.str' N rfl) C
 |cvSame x =>
  have j:=N5 B g;simp only[Nd]at h;simp only[LOp.r,N7];generalize x.ev ρ=v at h j;generalize x.r.ev (ρA I)=a at j ⊢;split at h
  ·cases j;exact .same z (.str _) h
  ·exact h.elim
 |cvBytes x =>
  have j:=N5 B g;simp only[Nd]at h;simp only[LOp.r,N7];generalize x.ev ρ=v at h j;generalize x.r.ev (ρA I)=a at j ⊢;split at h
  ·rename_i l;cases j;exact d8 z (zn3 l c) N (λr e=>An) h
  ·exact h.elim
 |mkFunc f a b =>
  simp only[LOp.ok,H7]at g;exact .same z (.fn (zqn B g.1) (zqn B g.2)) h
 |mkSl A jE l cc =>
  simp only[LOp.ok,H7]at g;have X:=N5 B g.1.2;have hc:=N5 B g.2;simp only[Nd]at h;simp only[LOp.r,N7];generalize l.ev ρ=lv at h X;generalize l.r.ev (ρA I)=la at X ⊢;generalize cc.ev ρ=cv at h hc;generalize cc.r.ev (ρA I)=ca at hc ⊢;split at h
  ·rename_i n m;obtain⟨rfl,F,T,M,h4⟩:=h;cases X;cases hc;obtain⟨k,rfl⟩:=Ip F;have b1:Nat.ble k k=true:=If (Ie _);have b2:Nat.ble k 1048576=true:=If J;show Qu P c G K (match Nat.ble k k with
    |true=>match Nat.ble k 1048576 with
     |true=>match newObj c.H (Ry (toAs jE) k) with
      |some (o,H')=>OR.val (.sl o 0 0 k A (some k)) H'
      |none=>.no
     |false=>.no
    |false=>.no)
   rw[b1,b2];exact d8 z ((kt c g.1.1).rep k) (by rw[wj,M]) (λr e=>by cases e;rfl) h4
  ·exact h.elim
 |slStr x lo hi =>
  simp only[LOp.ok,H7]at g;have j:=N5 B g.1.1;simp only[Nd]at h;simp only[LOp.r,N7];generalize x.ev ρ=v at h j;generalize x.r.ev (ρA I)=a at j ⊢;split at h
  ·rename_i l;cases j;obtain⟨gg,U,E,C,O⟩:=Ti B g.1.2 h;obtain⟨R,S,H,Q,F,T,M⟩:=Ti B g.2 O;rw[E,H];dsimp only;rw[C,Q];have b1:Nat.ble U S=true:=If F;have b2:Nat.ble S l.length=true:=If T;rw[b1,b2];dsimp only;refine .same z (.str' Ab ?_) M;rw[packL_take,packL_drop];rfl
  ·exact h.elim
 |slSl A x lo hi =>
  simp only[LOp.ok,H7]at g;have j:=N5 B g.1.1;simp only[Nd]at h;simp only[LOp.r,N7];have gK:Oy (ρA I) none=some none:=rfl;rw[gK];split at h
  ·rename_i hv;rw[hv]at j;generalize x.r.ev (ρA I)=a at j ⊢;cases j;obtain⟨gg,U,E,C,O⟩:=Ti B g.1.2 h;obtain⟨R,S,H,Q,F,T,M⟩:=Ti B g.2 O;rw[E,H];dsimp only;rw[C,Q,F,T];exact .same z .nilSl M
  ·rename_i p k hv;rw[hv]at j;generalize x.r.ev (ρA I)=a at j ⊢;split at h
   ·rename_i l len esz gj st Y;obtain⟨gB,rfl,h⟩:=h;obtain⟨gg,U,E,C,O⟩:=Ti B g.1.2 h;obtain⟨R,S,H,Q,F,T,M⟩:=Ti B g.2 O;rw[E,H];cases j with
    | @dy _ _ k' hh _ e hk Z _ =>
     obtain⟨r0,r1,V⟩:=z.obj p _ _ _ Y e;have gD:=Z J;rcases V with ⟨V,r3⟩|⟨o,v,room,t,gL,l',V,r3,r4,r5,r6,r7,r8⟩
     ·subst r3;have e1:U=0:=J
      have e2:S=0:=J
      subst e1 e2;rw[gD,V];dsimp only;rw[C,show R.getD 0=0 from Q];exact .same z (.vw e hk (λ_=>.inl ⟨rfl,.inl rfl⟩) rfl (λ_ _=>trivial)) M
     ·obtain⟨a2,p1,p2,p3⟩:=z89 (lo:=gg) (hi:=R) (o:=o) (v:=v) (i:=0) (esz:=esz) (len:=len) (room:=room) Cm Cr (λr e'=>(r7 r e').2);rw[gD,V];dsimp only;rw[p1];rw[C,Q,I7]at p3;refine .same z (.vw e hk (λ_=>?_) p2 (λ_=>zkz p1 (λh0=>by rw[C];exact h0) V)) M;rcases p3 with ⟨p3,p4,p5⟩|⟨L,p4⟩
      ·exact .inl ⟨p3,.inr ⟨p4,p5⟩⟩
      ·exact .inr ⟨o,v,len,esz,room,L,V,p4⟩
   ·exact h.elim
  ·rename_i p k l0 len hv;rw[hv]at j;generalize x.r.ev (ρA I)=a at j ⊢;split at h
   ·rename_i l gF esz gj st Y;obtain⟨gB,rfl,h⟩:=h;obtain⟨gg,U,E,C,O⟩:=Ti B g.1.2 h;obtain⟨R,S,H,Q,F,T,M⟩:=Ti B g.2 O;rw[E,H];cases j with
    | @vw _ _ _ _ k' hh _ e hk Z _ hz =>
     have jF:=(z.obj p _ _ _ Y e).1;rcases Z J with ⟨r3,r4⟩|⟨o,v,gC,D,room,L,r3,r4,r9⟩
     ·subst r3;have e1:U=0:=J
      have e2:S=0:=J
      subst e1 e2;rcases r4 with rfl|⟨rfl,r5⟩
      ·dsimp only;rw[C,show R.getD 0=0 from Q];exact .same z (.vw e hk (λ_=>.inl ⟨rfl,.inl rfl⟩) rfl (λ_ _=>trivial)) M
      ·dsimp only;rw[C,show R.getD 0=0 from Q];exact .same z (.vw e hk (λ_=>.inl ⟨rfl,.inr ⟨rfl,r5⟩⟩) rfl (λ_ _=>trivial)) M
     ·subst r3;obtain⟨_,w1,w2,w3,_⟩:=Yo z Y e;subst w2 w3;obtain⟨a2,p1,p2,p3⟩:=z89 (lo:=gg) (hi:=R) (o:=o) (v:=v) (i:=l0*D) (esz:=D) (len:=len) (room:=L) Cm Cr r9;rw[r4];dsimp only;rw[p1];rw[C,Q]at p3;refine .same z (.vw e hk (λ_=>?_) p2 (λq=>ziz p1 (λh0=>⟨by rw[C];omega,J⟩) (r4 ▸ hz q))) M;rcases p3 with ⟨p3,p4,p6⟩|⟨gY,p4,p5⟩
      ·exact .inl ⟨p3,.inr ⟨p4,J⟩⟩
      ·exact .inr ⟨o,v,_,D,room,gY,rfl,by rw[p4,I2],p5⟩
   ·exact h.elim
  ·rename_i l len esz hv;rw[hv]at j;generalize x.r.ev (ρA I)=a at j ⊢;obtain⟨rfl,h⟩:=h;obtain⟨gg,U,E,C,O⟩:=Ti B g.1.2 h;obtain⟨R,S,H,Q,F,T,M⟩:=Ti B g.2 O;rw[E,H];have gT:len=0→l=[]→K (.lst [] 0 esz) G:=λe1 e2=>by
    have e3:U=0:=J
    have e4:S=0:=J
    subst e2 e3 e4;simpa using M
   cases j with
   |lst hf gI gG hr X =>
    obtain⟨a2,p1,p2,p3⟩:=z89 (lo:=gg) (hi:=R) Cm Cr gI;dsimp only;rw[p1];rw[C,Q]at p3;refine .same z (.lst' hf hr X ?_ (p3.imp (λh=>⟨h.1,h.2.1⟩) id)) M;rw[←I2];exact Im _ J
   |lstNil =>
    have e3:U=0:=J
    have e4:S=0:=J
    dsimp only;rw[C,show R.getD 0=S from Q,e3,e4];exact .same z .lstNil (gT rfl rfl)
   |lstEmp =>
    have e3:U=0:=J
    have e4:S=0:=J
    dsimp only;rw[C,show R.getD 0=S from Q,e3,e4];exact .same z .lstEmp (gT rfl rfl)
  ·exact h.elim
 |slSl3 A x lo hi mx =>
  simp only[LOp.ok,H7]at g;have j:=N5 B g.1.1.1;have jz:br (some mx)=true:=g.2;simp only[Nd]at h;simp only[LOp.r,N7];split at h
  ·rename_i p k hv;rw[hv]at j;generalize x.r.ev (ρA I)=a at j ⊢;split at h
   ·rename_i l len esz gj st Y;obtain⟨gB,rfl,h⟩:=h;obtain⟨gg,U,E,C,O⟩:=Ti B g.1.1.2 h;obtain⟨R,S,H,Q,q6⟩:=Ti B g.1.2 O;obtain⟨gM,gO,q7,q8,h0,F,T,M,h4⟩:=Ti B jz q6;simp only[Jw]at q7;rw[E,H,q7];cases j with
    | @dy _ _ k' hh _ e hk Z _ =>
     obtain⟨r0,r1,V⟩:=z.obj p _ _ _ Y e;have gD:=Z J;have gK:gM=some gO:=by
      cases gM with
      |none=>unfold Oy at q7;dsimp only at q7;split at q7<;>cases q7
      |some m=>simp at q8;rw[q8]
     rcases V with ⟨V,r3⟩|⟨o,v,room,t,gL,l',V,r3,r4,r5,r6,r7,r8⟩
     ·omega
     ·obtain⟨a2,p1,p2,p3⟩:=zec (lo:=gg) (hi:=R) (o:=o) (v:=v) (i:=0) (esz:=esz) (len:=len) (room:=room) (m:=gO) Cm Cr M (λr e'=>(r7 r e').2);rw[gD,V,gK];dsimp only;rw[p1];rw[C,Q,I7]at p3;unfold l9 at h4;split at h4
      ·rename_i jA;obtain⟨f1,f2,f3⟩:=Ku jA;have hc:=zmv p1 (by rw[C];exact f1) (by rw[Q];exact f2) J;exact .same z (.vf e hk (λ_=>⟨o,v,len,esz,room,V,by rw[hc,f2]⟩) p2) h4
      refine .same z (.vw e hk (λ_=>?_) p2 (λ_=>zjt p1 (λh0=>by rw[C];exact h0) M V)) h4;rcases p3 with ⟨p3,p4,p5⟩|⟨L,p4⟩
      ·exact .inl ⟨p3,.inr ⟨p4,p5⟩⟩
      ·exact .inr ⟨o,v,len,esz,room,L,V,p4⟩
   ·exact h.elim
  ·rename_i l len esz hv;rw[hv]at j;generalize x.r.ev (ρA I)=a at j ⊢;obtain⟨rfl,h⟩:=h;obtain⟨gg,U,E,C,O⟩:=Ti B g.1.1.2 h;obtain⟨R,S,H,Q,q6⟩:=Ti B g.1.2 O;obtain⟨gM,gO,q7,q8,h0,F,T,M,h4⟩:=Ti B jz q6;simp only[Jw]at q7;rw[E,H,q7];have gK:gM=some gO:=by
    cases gM with
    |none=>unfold Oy at q7;dsimp only at q7;split at q7<;>cases q7
    |some m=>simp at q8;rw[q8]
   cases j with
   |lst hf gI gG hr X =>
    obtain⟨a2,p1,p2,p3⟩:=zec (lo:=gg) (hi:=R) (m:=gO) Cm Cr M gI;rw[gK];dsimp only;rw[p1];rw[C,Q]at p3;refine .same z (.lst' hf hr X ?_ (p3.imp (λh=>⟨h.1,h.2.1⟩) id)) h4;rw[←I2];exact Im _ J
   |lstNil=>omega
   |lstEmp=>omega
  ·exact h.elim
 |fieldAddr gS x =>
  have j:=N5 B g;simp only[Nd]at h;simp only[LOp.r,N7];generalize x.ev ρ=v at h j;generalize x.r.ev (ρA I)=a at j ⊢;split at h
  ·cases j with
   |ptr e=>exact .same z (.ptr e) h
  ·cases j with
   |dptr e hk Z=>exact .same z (.dptr e hk (λq=>⟨by rw[(Z q).1];rfl,(Z q).2⟩)) h
  ·cases j with
   |cptr hf hr X =>
    dsimp only;rw[show ∀a b c:Nat,Nat.add (a+b) c=a+(b+c) from λa b c=>Ja a b c];exact .same z (.cptr hf hr X) h
  ·exact h.elim
 |field jD n gS x =>
  have j:=N5 B g;simp only[Nd]at h;simp only[LOp.r,N7];generalize x.ev ρ=v at h j;generalize x.r.ev (ρA I)=a at j ⊢;split at h
  ·rename_i l;cases j with
   |agg X =>
    dsimp only;cases jD with
    |true =>
     obtain⟨F,T⟩:=h;have gZ:=X.length;rename_i l';have b1:Nat.ble (Nat.add gS n) l'.length=true:=If (show gS+n≤l'.length by rw[←gZ];exact F);refine .ret z ?_;simp only[X2,V0,b1];exact .mk (.agg ((X.drop gS).take n)) T
    |false =>
     obtain⟨v,hv,h⟩:=h;obtain⟨a,E,C⟩:=X.get hv;refine .ret z ?_;simp only[X2];rw[E];exact .mk C h
  ·exact h.elim
 |ixAddr A x i =>
  simp only[LOp.ok,H7]at g;have j:=N5 B g.1;have hi:=N5 B g.2;simp only[Nd]at h;simp only[LOp.r,N7];generalize i.ev ρ=iv at h hi;generalize i.r.ev (ρA I)=ia at hi ⊢;generalize x.ev ρ=v at h j;generalize x.r.ev (ρA I)=a at j ⊢
  have gU : ∀ {kk : IntKind} {n : Int} (v : LV) (a : AV), AR c v a → ixO G A v n (fun v => K v G) → Qu P c G K (match a, AV.int kk n with
     |.sl o v i len esz _,.int _ (.ofNat n)=>match Nat.blt n len with
      |true=>match Nat.beq esz A with
       |true=>.val (.ptr o v (Nat.add i (Nat.mul n esz))) c.H
       |false=>.no
      |false=>.no
     |_,_=>.no):=by
   clear h j;intro kk n v a j h;unfold ixO at h;have gE:∀{o v jI len esz:Nat} {room:Option Nat} {m:Nat} {y:LV},m<len→esz=A→AR c y (.ptr o v (jI+m*esz))→K y G→Qu P c G K (match AV.sl o v jI len esz room,AV.int kk (Int.ofNat m) with
     |.sl o v i len esz _,.int _ (.ofNat n)=>match Nat.blt n len with
      |true=>match Nat.beq esz A with
       |true=>.val (.ptr o v (Nat.add i (Nat.mul n esz))) c.H
       |false=>.no
      |false=>.no
     |_,_=>.no):=by
    intro o v jI len esz room m y F T M h4;subst T;have b1:Nat.blt m len=true:=by unfold Nat.blt;exact If F
    dsimp only;rw[b1,I0];exact .same z M h4
   split at h
   ·rename_i p k;split at h
    ·rename_i l len esz gj st Y;obtain⟨gB,rfl,F,T,M⟩:=h;obtain⟨m,rfl⟩:=Ip F;cases j with
     | @dy _ _ k' hh _ e hk Z _ =>
      obtain⟨r0,r1,V⟩:=z.obj p _ _ _ Y e;have gD:=Z J;rcases V with ⟨V,r3⟩|⟨o,v,room,t,gL,l',V,_⟩
      ·omega
      ·rw[gD,V];refine gE (room:=room) (y:=.dptr p k (m*esz)) J rfl (.dptr e hk (λ_=>⟨by rw[I7],len,esz,room,V⟩)) M
    ·exact h.elim
   ·rename_i p k lo len;split at h
    ·rename_i l gF esz gj st Y;obtain⟨gB,rfl,F,T,M⟩:=h;obtain⟨m,rfl⟩:=Ip F;cases j with
     | @vw _ _ _ _ k' hh _ e hk Z _ _ =>
      have jF:=(z.obj p _ _ _ Y e).1;rcases Z J with ⟨r3,r4⟩|⟨o,v,gC,D,room,L,r3,r4,r9⟩
      ·omega
      ·have e2:=e;rw[r3]at e2;obtain⟨_,w1,w2,w3,_⟩:=Yo z Y e2;subst w2 w3;rw[r4];refine gE (room:=L) (y:=.dptr p k ((lo+m)*D)) J rfl (.dptr e hk (λ_=>⟨by rw[I2],gC,D,room,r3⟩)) M
    ·exact h.elim
   ·rename_i l len esz;obtain⟨rfl,F,T,M⟩:=h;obtain⟨m,rfl⟩:=Ip F;cases j with
    | @lst _ _ _ _ _ _ rm _ hf gI gG hr X =>
     refine gE (room:=rm) (y:=.cptr l (m*esz)) J rfl ?_ M;rw[←gG]at hr;exact .cptr hf hr X
    |lstNil=>omega
    |lstEmp=>omega
   ·exact h.elim
  split at h
  ·cases hi;exact gU v a j h
  ·cases hi;exact gU v a j h
  ·exact h.elim
 |ixStr x i =>
  simp only[LOp.ok,H7]at g;have j:=N5 B g.1;have hi:=N5 B g.2;simp only[Nd]at h;simp only[LOp.r,N7];generalize i.ev ρ=iv at h hi;generalize i.r.ev (ρA I)=ia at hi ⊢;generalize x.ev ρ=v at h j;generalize x.r.ev (ρA I)=a at j ⊢;have gE:∀{l:List UInt8} {k:IntKind} {m:Nat},m<l.length→K (.b (l.getD m 0)) G→Qu P c G K (match AV.str l.length (Oh l),AV.int k (Int.ofNat m) with
    |.str len n,.int _ (.ofNat i)=>match Nat.blt i len with
     |true=>.val (.int .u8 (Int.ofNat (Nat.mod (Nat.div n (Nat.pow 256 i)) 256))) c.H
     |false=>.no
    |_,_=>.no):=by
   intro l k m F T;have b1:Nat.blt m l.length=true:=by unfold Nat.blt;exact If F
   dsimp only;rw[b1];refine .same z (.b' ?_) T;have:=zg0 (H8 F);show Int.ofNat (Oh l/256^m%256)=_;rw[this,H9,H8 F];rfl
  split at h
  ·rename_i l n;obtain⟨F,T,M⟩:=h;obtain⟨m,rfl⟩:=Ip F;cases j;cases hi;exact gE (k:=.i64) J M
  ·rename_i l n;obtain⟨T,M⟩:=h;cases j;cases hi;exact gE (k:=.u64) T M
  ·rename_i l n;obtain⟨T,M⟩:=h;cases j;cases hi;exact gE (k:=.u8) T M
  ·exact h.elim
 |extract i x =>
  have j:=N5 B g;simp only[Nd]at h;simp only[LOp.r,N7];generalize x.ev ρ=v at h j;generalize x.r.ev (ρA I)=a at j ⊢;split at h
  ·rename_i l;cases j with
   |tup X =>
    dsimp only;obtain⟨v,hv,h⟩:=h;obtain⟨a,E,C⟩:=X.get hv;refine .ret z ?_;rw[E];exact .mk C h
  ·exact h.elim
 |lenStr x =>
  have j:=N5 B g;simp only[Nd]at h;simp only[LOp.r,N7];generalize x.ev ρ=v at h j;generalize x.r.ev (ρA I)=a at j ⊢;split at h
  ·cases j;exact .same z (.i _) h
  ·exact h.elim
 |lenSl x =>
  obtain⟨n,E,C⟩:=fk z (N5 B g) (show lenL G (x.ev ρ) (λn=>K (.i n) G) from h);simp only[LOp.r,N7];rcases C with ⟨C,rfl⟩|⟨C,rfl⟩|⟨o,v,i,esz,room,C⟩
  ·rw[C];exact .same z (.i 0) E
  ·rw[C];exact .same z (.i 0) E
  ·rw[C];exact .same z (.i n) E
 |maxi mx x y =>
  simp only[LOp.ok,H7]at g;have j:=N5 B g.1;have hy:=N5 B g.2;simp only[Nd]at h;simp only[LOp.r,N7,Kd,Mn];generalize y.ev ρ=yv at h hy;generalize y.r.ev (ρA I)=ya at hy ⊢;generalize x.ev ρ=v at h j;generalize x.r.ev (ρA I)=a at j ⊢;split at h
  ·cases j;cases hy;dsimp only;rw[xl];exact .same z (.i _) h
  ·cases j;cases hy;dsimp only;rw[ol];exact .same z (.u _) h
  ·exact h.elim
 |max3 mx x y jE =>
  simp only[LOp.ok,H7]at g;have j:=N5 B g.1.1;have hy:=N5 B g.1.2;have hz:=N5 B g.2;simp only[Nd]at h;simp only[LOp.r,N7,Kd,Mn];generalize jE.ev ρ=zv at h hz;generalize jE.r.ev (ρA I)=za at hz ⊢;generalize y.ev ρ=yv at h hy;generalize y.r.ev (ρA I)=ya at hy ⊢;generalize x.ev ρ=v at h j;generalize x.r.ev (ρA I)=a at j ⊢;cases v<;>first|exact h.elim|skip
  cases yv<;>first|exact h.elim|skip
  cases zv<;>first|exact h.elim|skip
  cases j;cases hy;cases hz;dsimp only;rw[dq];exact .same z (.i _) h
 |ixAddrArr len A x i =>
  simp only[LOp.ok,H7]at g;have j:=N5 B g.1;have hi:=N5 B g.2;simp only[Nd]at h;simp only[LOp.r,N7];generalize i.ev ρ=iv at h hi;generalize i.r.ev (ρA I)=ia at hi ⊢;generalize x.ev ρ=v at h j;generalize x.r.ev (ρA I)=a at j ⊢;cases iv<;>first|exact h.elim|skip
  cases hi;obtain⟨F,T,h⟩:=h;rename_i n;obtain⟨m,rfl⟩:=Ip F;have b1:Nat.blt m len=true:=by unfold Nat.blt;exact If J
  cases v<;>first|exact h.elim|skip
  ·cases j with
   |ptr e =>
    show Qu P c G K (match Nat.blt m len with|true=>_|false=>_);rw[b1];refine .same z ?_ h;have e0:=AR.ptr (i:=0) e;rename_i p jI o;show AR c (.ptr p (jI+m*A)) (.ptr o 0 (jI+m*A));exact .ptr e
  ·cases j with
   |dptr e hk Z =>
    show Qu P c G K (match Nat.blt m len with|true=>_|false=>_);rw[b1];exact .same z (.dptr e hk (λq=>⟨by rw[(Z q).1];rfl,(Z q).2⟩)) h
  ·cases j with
   |cptr hf hr X =>
    show Qu P c G K (match Nat.blt m len with|true=>_|false=>_);rw[b1];refine .same z ?_ h;rename_i o vv jj ll;rw[show Nat.add (jj+_) (Nat.mul m A)=jj+(_+m*A) from Ja _ _ _];exact .cptr hf hr X
 |ixArr jD len A x i =>
  simp only[LOp.ok,H7]at g;have j:=N5 B g.1;have hi:=N5 B g.2;simp only[Nd]at h;simp only[LOp.r,N7];generalize i.ev ρ=iv at h hi;generalize i.r.ev (ρA I)=ia at hi ⊢;generalize x.ev ρ=v at h j;generalize x.r.ev (ρA I)=a at j ⊢;cases iv<;>first|exact h.elim|skip
  cases hi;obtain⟨F,T,h⟩:=h;rename_i n;obtain⟨m,rfl⟩:=Ip F;have b1:Nat.blt m len=true:=by unfold Nat.blt;exact If J
  cases v<;>first|exact h.elim|skip
  cases j with
  |agg X =>
   show Qu P c G K (match Nat.blt m len with|true=>_|false=>_);rw[b1];simp only[I4]at h;cases jD with
   |true =>
    obtain⟨F,T⟩:=h;have gZ:=X.length;rename_i l';have b2:Nat.ble (Nat.add (Nat.mul m A) A) l'.length=true:=If (show m*A+A≤l'.length by rw[←gZ];exact F);refine .ret z ?_;simp only[X2,V0,b2];exact .mk (.agg ((X.drop _).take _)) T
   |false =>
    obtain⟨v,hv,h⟩:=h;obtain⟨a,E,C⟩:=X.get hv;refine .ret z ?_;simp only[X2];show Qp c _ (_);rw[show Nat.mul m A=m*A from rfl,E];exact .mk C h
 |lenArr n x =>
  simp only[Nd]at h;simp only[LOp.r,N7];exact .same z (.i _) h
 |appZ A jE s x =>
  simp only[LOp.ok,H7]at g;have hz:=kt c g.1.1;have g8:=N5 B g.1.2;have j:=N5 B g.2;simp only[Nd]at h;simp only[LOp.r,N7];generalize x.ev ρ=v at h j;generalize x.r.ev (ρA I)=a at j ⊢;split at h
  ·rename_i n;obtain⟨F,T,M,h4⟩:=h;obtain⟨m,rfl⟩:=Ip F;cases j;have b1:Nat.ble m 1048576=true:=If J;show Qu P c G K (match Nat.ble m 1048576 with
    |true=>Uf c.H A (s.r.ev (ρA I)) m (Ry (toAs jE) m)
    |false=>.no)
   rw[b1];exact zus z g8 (hz.rep m) (by rw[wj,M]) h4
  ·exact h.elim
 |appG A s x =>
  simp only[LOp.ok,H7]at g;have g8:=N5 B g.1;have j:=N5 B g.2;simp only[Nd]at h;simp only[LOp.r,N7];obtain⟨n,l,l',E,C,O,H,Q⟩:=zue z j h;rw[E];have b1:Nat.ble n 1048576=true:=If H;dsimp only;rw[b1];exact zus z g8 C O Q
 |copy A d x =>
  simp only[LOp.ok,H7]at g;have hd:=N5 B g.1;have j:=N5 B g.2;simp only[Nd]at h;simp only[LOp.r,N7];obtain⟨n,l,l',E,C,O,H⟩:=zue z j h;rw[E];dsimp only;have gV:∀a b:Nat,Pb a b=min a b:=λa b=>by
   unfold Pb;cases hb:Nat.ble a b with
   |true=>have:=Ik hb;simp only;omega
   |false =>
    have:¬a≤b:=λq=>by rw[If q]at hb;cases hb
    simp only;omega
  generalize d.ev ρ=v at H hd;generalize d.r.ev (ρA I)=a at hd ⊢;split at H
  ·rename_i p k;split at H
   ·rename_i r len esz gj st Y;obtain⟨gB,rfl,h⟩:=H;cases hd with
    | @dy _ _ k' hh _ e hk Z _ =>
     obtain⟨r0,r1,V⟩:=z.obj p _ _ _ Y e;have gD:=Z J;rcases V with ⟨V,r3⟩|⟨o,v,room,t,gL,r',V,r3⟩
     ·subst r3;have:r=[]:=Iu D4;subst this;rw[gD,V];dsimp only;have hm:min n 0=0:=J
      rw[hm]at h;simp only[Kq,Mr]at h;obtain⟨p1,p2,_⟩:=z.upd (k':=k') (x':=hh) (ob':=.dyn (Nh [] 0 []) 0 esz gj (st+1)) (H':=c.H) Y rfl e (Ie _) (λ_ _ _=>rfl) (λo e'=>⟨.inl e',z.lt o ⟨p,_,_,_,Y,rfl,e,e'⟩⟩) (Ie _) (λ_=>rfl) (λ_=>rfl) (.inl (Jb _))
       (λ_=>⟨r0,by simp[Nh],.inl ⟨V,rfl⟩⟩)
      exact⟨⟨c.hd.set p (k',hh),c.Fz,c.H⟩,.i (0:Nat),_,rfl,p1,p2,.i _,h⟩
     ·have hw:Tn G (.dptr p k 0) (l.take (min n len*esz)) (λG'=>K (.i (min n len:Nat)) G'):=by
       unfold Tn;dsimp only;rw[Y];refine⟨gB,?_,h⟩;rw[r1,Ir,I7];exact I5 (Nat.min_le_left _ _) (Im _ (Nat.min_le_right _ _))
      obtain⟨o2,v2,i2,H',c',G',w1,w2,w3,w4,w5,w6⟩:=z9q z (a:=.ptr o v 0) (.dptr e hk (λ_=>⟨rfl,len,esz,room,V⟩)) (C.take (min n len*esz)) hw;cases w1;rw[gD,V];dsimp only;rw[I0,gV];dsimp only;rw[show Nat.mul (min n len) esz=min n len*esz from rfl,w2];exact⟨c',_,G',w3,w4,w5,.i _,w6⟩
   ·exact H.elim
  ·rename_i p k lo len;split at H
   ·rename_i r gF esz gj st Y;obtain⟨gB,rfl,g9,h⟩:=H;cases hd with
    | @vw _ _ _ _ k' hh _ e hk Z _ _ =>
     obtain⟨r0,r1,V⟩:=z.obj p _ _ _ Y e;have gP:len=0→(a=.nilSl∨a=.emp∧lo≠0)→Qu P c G K (.val (.int .i64 0) c.H):=by
      intro jg _;subst jg;have hm:min n 0=0:=J
      rw[hm]at h;simp only[Kq,Mr]at h;have gQ:Nh r (lo*esz) []=r:=by unfold Nh;simp
      rw[gQ]at h;obtain⟨p1,p2,_⟩:=z.upd (k':=k') (x':=hh) (ob':=.dyn r gF esz gj (st+1)) (H':=c.H) Y rfl e (Ie _) (λ_ _ _=>rfl) (λo e'=>⟨.inl e',z.lt o ⟨p,_,_,_,Y,rfl,e,e'⟩⟩) (Ie _) (λ_=>rfl) (λ_=>rfl) (.inl (Jb _))
       (λgR=>(z.obj p _ _ _ Y e).mono gR (λ_ _=>rfl))
      exact⟨⟨c.hd.set p (k',hh),c.Fz,c.H⟩,.i (0:Nat),_,rfl,p1,p2,.i _,h⟩
     rcases Z J with ⟨r3,r4⟩|⟨o,v,gC,D,room,L,r3,r4,r9⟩
     ·have:=gP r3 r4;rcases r4 with rfl|⟨rfl,_⟩
      ·exact this
      ·exact this
     ·have e2:=e;rw[r3]at e2;obtain⟨_,w1,w2,w3,_⟩:=Yo z Y e2;subst w2 w3;have hw:Tn G (.dptr p k (lo*D)) (l.take (min n len*D)) (λG'=>K (.i (min n len:Nat)) G'):=by
       unfold Tn;dsimp only;rw[Y];refine⟨gB,?_,h⟩;rw[Ir];have F:min (min n len*D) l.length≤len*D:=I5 (Nat.min_le_left _ _) (Im _ (Nat.min_le_right _ _));rw[I2]at g9;omega
      obtain⟨o2,v2,i2,H',c',G',u1,u2,u3,u4,u5,u6⟩:=z9q z (a:=.ptr o v (lo*D)) (.dptr e hk (λ_=>⟨rfl,gC,D,room,r3⟩)) (C.take (min n len*D)) hw;cases u1;rw[r4];dsimp only;rw[I0,gV];dsimp only;rw[show Nat.mul (min n len) D=min n len*D from rfl,u2];exact⟨c',_,G',u3,u4,u5,.i _,u6⟩
   ·exact H.elim
  ·exact H.elim
 |clear A jE x =>
  simp only[LOp.ok,H7]at g;have hz:=kt c g.1;have j:=N5 B g.2;simp only[Nd]at h;simp only[LOp.r,N7];generalize x.ev ρ=v at h j;generalize x.r.ev (ρA I)=a at j ⊢;split at h
  ·rename_i p k lo len;split at h
   ·rename_i r gF esz gj st Y;obtain⟨gB,rfl,jG,g9,h⟩:=h;cases j with
    | @vw _ _ _ _ k' hh _ e hk Z _ _ =>
     obtain⟨r0,r1,V⟩:=z.obj p _ _ _ Y e;have gP:len=0→Qu P c G K (.val Qs c.H):=by
      intro jg;subst jg;have gQ:Nh r (lo*esz) (Na jE 0)=r:=by unfold Nh;simp[Na]
      rw[gQ]at h;obtain⟨p1,p2,_⟩:=z.upd (k':=k') (x':=hh) (ob':=.dyn r gF esz gj (st+1)) (H':=c.H) Y rfl e (Ie _) (λ_ _ _=>rfl) (λo e'=>⟨.inl e',z.lt o ⟨p,_,_,_,Y,rfl,e,e'⟩⟩) (Ie _) (λ_=>rfl) (λ_=>rfl) (.inl (Jb _))
       (λgR=>(z.obj p _ _ _ Y e).mono gR (λ_ _=>rfl))
      exact⟨⟨c.hd.set p (k',hh),c.Fz,c.H⟩,.any,_,rfl,p1,p2,.any _,h⟩
     rcases Z J with ⟨r3,r4⟩|⟨o,v,gC,D,room,L,r3,r4,r9⟩
     ·have:=gP r3;rcases r4 with rfl|⟨rfl,_⟩
      ·exact this
      ·exact this
     ·have e2:=e;rw[r3]at e2;obtain⟨_,w1,w2,w3,_⟩:=Yo z Y e2;subst w2 w3;have hw:Tn G (.dptr p k (lo*D)) (Na jE len) (λG'=>K .any G'):=by
       unfold Tn;dsimp only;rw[Y];refine⟨gB,?_,h⟩;rw[wj,jG,←I2];exact g9
      obtain⟨o2,v2,i2,H',c',G',u1,u2,u3,u4,u5,u6⟩:=z9q z (a:=.ptr o v (lo*D)) (.dptr e hk (λ_=>⟨rfl,gC,D,room,r3⟩)) (hz.rep len) hw;cases u1;rw[r4];dsimp only;rw[I0];dsimp only;rw[u2];exact⟨c',.any,G',u3,u4,u5,.any _,u6⟩
   ·exact h.elim
  ·exact h.elim
 |mkMap0=>exact zfz z h
 |mkMap1 x =>
  have j:=N5 B g;simp only[Nd]at h;simp only[LOp.r,N7];generalize x.ev ρ=v at h j;generalize x.r.ev (ρA I)=a at j ⊢;split at h
  ·cases j;exact zfz z h
  ·exact h.elim
 |lookup d jE ok x i =>
  simp only[LOp.ok,H7]at g;have hz:=Yy c g.1.1;have j:=N5 B g.1.2;have hi:=N5 B g.2;simp only[Nd]at h;simp only[LOp.r,N7];obtain⟨es,jH,E,C,O,_⟩:=zsi z j h;rw[E];dsimp only;rcases zpq hi C O with ⟨f1,f2⟩|⟨v,b,f1,f2,f3⟩
  ·rw[f1];dsimp only;cases ok with
   |true=>exact .same z (.tup (.cons hz (.cons (.bool _) .nil))) f2
   |false=>exact .same z hz f2
  ·rw[f1];dsimp only;cases ok with
   |true=>exact .same z (.tup (.cons f2 (.cons (.bool _) .nil))) f3
   |false=>exact .same z f2 f3
 |mapUpd d m k v =>
  simp only[LOp.ok,H7]at g;simp only[Nd]at h;simp only[LOp.r,N7];exact zts z (N5 B g.1.1) (N5 B g.1.2) (N5 B g.2) h
 |lenMap x =>
  have j:=N5 B g;simp only[Nd]at h;simp only[LOp.r,N7];obtain⟨es,jH,E,C,O,H⟩:=zsi z j h;have gG:∀{l:List (LV×LV×Nat)} {r:List (AV×AV×Nat)},MRs c l r→l.length=r.length:=by
   intro l r hr
   induction hr with
   |nil=>rfl
   |cons _ _ _ ih=>simp[ih]
  rcases H with ⟨e1,rfl⟩|⟨o,ck,e1,e2⟩
  ·rw[e1];cases C;exact .same z (.i 0) O
  ·rw[e1];dsimp only;rw[e2];dsimp only;rw[←gG C];exact .same z (.i _) O
 |slArr n A x lo hi =>
  simp only[LOp.ok,H7]at g;have j:=N5 B g.1.1;simp only[Nd]at h;simp only[LOp.r,N7];generalize x.ev ρ=v at h j;generalize x.r.ev (ρA I)=a at j ⊢;split at h
  ·rename_i p i;split at h
   ·rename_i l st Y;obtain⟨h0,h⟩:=h;obtain⟨gg,U,E,C,O⟩:=Ti B g.1.2 h;obtain⟨R,S,H,Q,q6⟩:=Ti B g.2 O;rw[E,H];obtain⟨F,T,M⟩:=q6;cases j with
    | @ptr _ _ o e =>
     obtain⟨t,l',V,r3,r4⟩:=zji z Y e;obtain⟨a2,p1,p2,p3⟩:=z89 (lo:=gg) (hi:=R) (o:=o) (v:=0) (i:=i) (len:=n) (esz:=A) (room:=some n) Cm Cr (λr e=>by cases e;exact Ie _);have b1:Nat.ble (Nat.add i (Nat.mul n A)) l.length=true:=If h0;simp only[Oy,V,b1];rw[p1];rw[C,Q]at p3;obtain⟨u1,u2⟩:=z.freeze (st:=st+1) Y rfl (Jb _) e (rfl:Nk (.ptr o 0 0)=some o);have jB:i+U*A+(S-U)*A≤l.length:=by
      rw[Ja,←I2];have:(U+(S-U))*A≤n*A:=Im _ J;omega
     refine⟨⟨c.hd,λq=>c.Fz q∨q=o,c.H⟩,_,_,rfl,u1,u2,?_,M⟩;rcases p3 with ⟨e1,rfl,_⟩|⟨room,rfl,gI⟩
     ·rw[e1];simp only[Kq,Mr];exact .lstEmp
     ·refine .lst (.inr rfl) gI Ab (Tf V r3 (Ie _) jB) (ARs.mono u2.le ((r4.drop _).take _))
   ·exact h.elim
  ·exact h.elim
 |callV f gH =>
  simp only[LOp.ok,H7]at g;have hf:=N5 B g.1;have Z:=zqn B g.2;simp only[Nd]at h;simp only[LOp.r,N7];generalize f.ev ρ=v at h hf;generalize f.r.ev (ρA I)=a at hf ⊢;split at h
  ·rename_i jD l r;have jC:=h.1;cases hf with
   |fn X hr =>
    rename_i l' r';have gE:x8 P c.H (.fn (.func jD) l' r') ((dt gH).map (·.ev (ρA I)))=.call (.fn jD) (l'++(dt gH).map (·.ev (ρA I))++r'):=by
     have k2:bh P (.fn (.func jD) l' r') ((dt gH).map (·.ev (ρA I)))=.call (.fn jD) (l'++(dt gH).map (·.ev (ρA I))++r'):=by
      unfold bh;dsimp only;rw[Ih jC.1]
     unfold x8;split
     ·rename_i g' e;cases e;rw[jC.2];exact k2
     ·exact k2
    rw[gE];exact⟨.fn jD,_,rfl,(X.append Z).append hr,h⟩
  ·rename_i p r;cases hf with
   |yield e=>exact⟨.yield p,_,e,Z,h⟩
  ·exact h.elim
end res
end
section
noncomputable section
structure RI where
 d:Option Nat
 g:Option (Nat×Bool)
 o:ROp
def jh(n:Nat):Option Nat→Bool
 |none=>true
 |some d=>Nat.blt d n
def fu(P:Program)(n:Nat)(ops:Array Oper)(o:Oper):Option RI :=
 match jh n o.dst with
 |false=>none
 |true=>match Re P o.op with
  |none=>none
  |some r=>match o.guard with
   |none=>some ⟨o.dst,none,r⟩
   |some (g,w)=>match (ops[g]?).bind (·.dst) with
    |none=>none
    |some t=>match Nat.ble t M8 with
     |true=>some ⟨o.dst,some (t,w),r⟩
     |false=>none
def vk(P:Program)(n:Nat)(ops:Array Oper):List Oper→Option (List RI)
 |[]=>some []
 |o::l=>match fu P n ops o with
  |none=>none
  |some r=>match vk P n ops l with
   |none=>none
   |some g=>some (r::g)
structure LI where
 d:Option Nat
 g:Option (Nat×Bool)
 o:LOp
def LI.r(x:LI):RI:=⟨x.d,x.g,x.o.r⟩
def lis:List LI→List RI
 |[]=>[]
 |x::l=>x.r::lis l
def Wp(g:Option (Nat×Bool))(j:Tr AV):Bool:=match g with
 |none=>true
 |some (t,w)=>match Mz (M6 t) j with
  |some (.bool b)=>match b with
   |true=>w
   |false=>!w
  |_=>false
def aw(P:Program)(x:RI)(k:Py)(z:Tr AV)(A:Heap):OE:=match Wp x.g z with
 |false=>.ok (Oj x.d Qs z) A
 |true=>match N7 P (ρA z) A x.o with
  |.no=>.no
  |.val v j=>.ok (Oj x.d v z) j
  |.call t g=>match k t g A with
   |.no=>.no
   |.ok v j=>.ok (Oj x.d v z) j
def zdv{P:Program}{n:Nat}{ops:Array Oper}{o:Oper}{x:RI}(h:fu P n ops o=some x)(k:Py)(z:Tr AV)(I:Heap):(P6 P n ops o).run k z I=aw P x k z I:=by
 unfold fu at h;cases hd:jh n o.dst with
 |false=>rw[hd]at h;cases h
 |true =>
  rw[hd]at h;dsimp only at h;cases B:Re P o.op with
  |none=>rw[B]at h;cases h
  |some r =>
   rw[B]at h;dsimp only at h;have K:∃p,P7 n o.dst=some p∧∀a z,p.run a z=Oj o.dst a z:=by
    cases C:o.dst with
    |none=>exact⟨_,rfl,λ_ _=>rfl⟩
    |some d =>
     rw[C]at hd;have D:d<n:=Ik hd;unfold P7;dsimp only;rw[Ih D];exact⟨_,rfl,λ_ _=>rfl⟩
   obtain⟨p,E,g⟩:=K;have L:x.d=o.dst∧x.o=r∧(Rf ops o).run z=Wp x.g z:=by
    cases A:o.guard with
    |none =>
     rw[A]at h;cases h;refine⟨rfl,rfl,?_⟩;unfold Rf;rw[A];rfl
    |some M =>
     obtain⟨T,w⟩:=M;rw[A]at h;dsimp only at h;cases F:(ops[T]?).bind (·.dst) with
     |none=>rw[F]at h;cases h
     |some t =>
      rw[F]at h;dsimp only at h;cases H:Nat.ble t M8 with
      |false=>rw[H]at h;cases h
      |true =>
       rw[H]at h;cases h;refine⟨rfl,rfl,?_⟩;unfold Rf;rw[A];dsimp only;rw[F];dsimp only;rw[Ih (Ik H)];rfl
   obtain⟨O,Q,R⟩:=L;unfold P6 aw;rw[E];dsimp only;rw[R,O,Q,zqm (znw z) B I];cases Wp x.g z with
   |false=>simp only[g]
   |true =>
    dsimp only;cases N7 P (ρA z) I r with
    |no=>rfl
    |val v S=>simp only[g]
    |call t j =>
     dsimp only;cases k t j I with
     |no=>rfl
     |ok v S=>simp only[g]
def zrb{P:Program}{x:RI}{k A:Py}(D:k.le A)(h:aw P x k I B=.ok vV U):aw P x A I B=.ok vV U:=by
 unfold aw at h ⊢;cases C:Wp x.g I with
 |false=>rw[C]at h;exact h
 |true =>
  rw[C]at h;dsimp only at h ⊢;cases j:N7 P (ρA I) B x.o with
  |no=>rw[j]at h;cases h
  |val v E=>rw[j]at h;exact h
  |call t g =>
   rw[j]at h;dsimp only at h ⊢;cases z:k t g B with
   |no=>rw[z]at h;cases h
   |ok v E=>rw[z]at h;rw[D _ _ _ _ _ z];exact h
def Q8(g:My)(d:Option Nat)(v:LV):My:=match d with
 |none=>g
 |some d=>(d,v)::g
def setL(t:Nat)(v:LV):My→My
 |[]=>[]
 |(d,x)::l=>if t=d then (d,v)::l else (d,x)::setL t v l
def Z9(v:LV)(g j z:Prop):Prop:=match v with
 |.bool t=>Rt t g j
 |.tup []=>z
 |_=>False
def Vv(P:Program)(x:LI)(g:My)(G:Mu)(z:My→Mu→Prop):Prop:=match x.g with
 |none=>Nd P g G x.o λv j=>z (Q8 g x.d v) j
 |some (t,true)=>Z9 (lk g t) (Nd P (setL t (.bool true) g) G x.o λv j=>z (Q8 (setL t (.bool true) g) x.d v) j) (z (Q8 (setL t (.bool false) g) x.d (.tup [])) G) (z (Q8 g x.d (.tup [])) G)
 |some (t,false)=>Z9 (lk g t) (z (Q8 (setL t (.bool true) g) x.d (.tup [])) G) (Nd P (setL t (.bool false) g) G x.o λv j=>z (Q8 (setL t (.bool false) g) x.d v) j) (z (Q8 g x.d (.tup [])) G)
def Xr{v:LV}{g:Prop}(h:u7 v vG g):∃b,v=.bool b∧(b=true→vG)∧(b=false→g):=by
 cases v with
 |bool b=>exact⟨b,rfl,h⟩
 |_=>exact h.elim
def zm6{v:LV}{g j:Prop}(h:Z9 v vG g j):(∃b,v=.bool b∧(b=true→vG)∧(b=false→g))∨v=.tup []∧j:=by
 unfold Z9 at h;split at h
 ·exact .inl ⟨_,rfl,h⟩
 ·exact .inr ⟨rfl,h⟩
 ·exact h.elim
def zt6{P:Program}{x:LI}{t:Nat}{w:Bool}(z:x.g=some (t,w)){g:My}{G:Mu}{j:My→Mu→Prop}(h:Vv P x g G j) :
  (∃b,lk g t=.bool b∧(b=w→Nd P (setL t (.bool w) g) G x.o λv A=>j (Q8 (setL t (.bool w) g) x.d v) A)∧(b=!w→j (Q8 (setL t (.bool (!w)) g) x.d (.tup [])) G))∨lk g t=.tup []∧j (Q8 g x.d (.tup [])) G:=by
 unfold Vv at h;rw[z]at h;cases w with
 |true=>exact zm6 h
 |false =>
  rcases zm6 h with ⟨b,e,B,C⟩|h
  ·exact .inl ⟨b,e,C,B⟩
  ·exact .inr h
def Sg(P:Program):List LI→My→Mu→(My→Mu→Prop)→Prop
 |[],g,G,j=>j g G
 |x::l,g,G,j=>Vv P x g G λz A=>Sg P l z A j
def Nu.put{c:Cx}{ρ:My}{E:Tr AV}(h:Nu c ρ E){v:LV}{a:AV}(ha:AR c v a)(d:Option Nat):Nu c (Q8 ρ d v) (Oj d a E):=by
 cases d with
 |none=>exact h
 |some d =>
  intro t;show AR c (lk ((d,v)::ρ) t) ((Mz (M6 t) (N8 a (M6 d) E)).getD Qs);rw[xx,xr];by_cases e:t=d
  ·rw[Ih e,Ih e];exact ha
  ·rw[Ig e,Ig e];exact h t
def zt5(t:Nat)(v:LV):∀(z:My) (g:Nat),lk (setL t v z) g=lk z g∨(g=t∧lk (setL t v z) g=v)
 |[],_=>.inl rfl
 |(d,x)::l,g=>by
  simp only[setL];by_cases h:t=d
  ·rw[Ih h];simp only[xr];by_cases j:g=d
   ·rw[Ih j];exact .inr ⟨J,rfl⟩
   ·rw[Ig j,Ig j];exact .inl rfl
  ·rw[Ig h];simp only[xr];by_cases j:g=d
   ·rw[Ih j,Ih j];exact .inl rfl
   ·rw[Ig j,Ig j];exact zt5 t v l g
def Nu.setL{c:Cx}{ρ:My}{E:Tr AV}(h:Nu c ρ E){t:Nat}{v:LV}(ha:AR c v ((Mz (M6 t) E).getD Qs)):Nu c (Sv.setL t v ρ) E:=by
 intro t';rcases zt5 t v ρ t' with e|⟨rfl,e⟩
 ·rw[e];exact h t'
 ·rw[e];exact ha
section run
variable {P : Program} {c : Cx} {G : Mu}
def W5(O:HSim c G){S:My}(A:Nu c S I){x:LI}(T:x.o.ok=true){gg:My→Mu→Prop}(h:Vv P x S G gg) :
  ∃m K j L z,aw P x.r (Qr P (OL P) m) I c.H=.ok K j.H∧HSim j z∧Step c G j z∧Nu j L K∧gg L z:=by
 have D:∀S,Nu c S I→(Nd P S G x.o λv z=>gg (Q8 S x.d v) z)→Wp x.g I=true→∃m K j L z,aw P x.r (Qr P (OL P) m) I c.H=.ok K j.H∧HSim j z∧Step c G j z∧Nu j L K∧gg L z:=by
  intro S A h M;have E:=ny O A T h;unfold Qu at E;unfold aw;rw[show x.r.g=x.g from rfl,M];dsimp only[LI.r];cases U:N7 P (ρA I) c.H x.o.r with
  |no=>rw[U]at E;exact E.elim
  |val v1 H' =>
   rw[U]at E;obtain⟨j,v,z,rfl,V,Q,q4,q5⟩:=E;exact⟨0,_,j,_,z,rfl,V,Q,(A.mono Q.le).put q4 x.d,q5⟩
  |call t1 F =>
   rw[U]at E;obtain⟨t,Z,q1,V,_,Q⟩:=E;obtain⟨m,v1,H',r1,j,v,z,rfl,r3,r4,r5,r6⟩:=Q c t1 F O q1 V;refine⟨m,_,j,_,z,?_,r3,r4,(A.mono r4.le).put r5 x.d,r6⟩;dsimp only;rw[r1]
 cases B:x.g with
 |none =>
  unfold Vv at h;rw[B]at h;exact D S A h Ew
 |some tw =>
  obtain⟨t,w⟩:=tw;have M:=B;rcases zt6 B h with ⟨b,X,h⟩|⟨X,h⟩
  rotate_left
  ·have C:=A t;rw[X]at C;have H:Wp x.g I=false:=by
    rw[M];unfold Wp;dsimp only;cases R:Mz (M6 t) I with
    |none=>rfl
    |some a=>rw[R]at C;cases C;rfl
   refine⟨0,_,c,_,G,?_,O,.refl c G,A.put (.tup .nil) x.d,h⟩;unfold aw;rw[show x.r.g=x.g from rfl,H];rfl
  ·have C:=A t;rw[X]at C;have g:Mz (M6 t) I=some (.bool b):=by
    cases R:Mz (M6 t) I with
    |none=>rw[R]at C;cases C
    |some a=>rw[R]at C;cases C;rfl
   by_cases e:b=w
   ·refine D _ (A.setL (by rw[g,←e];exact .bool b)) (h.1 e) ?_;rw[M];unfold Wp;dsimp only;rw[g,e];cases w<;>rfl
   ·have Y:b=!w:=by cases b<;>cases w<;>simp_all
    refine⟨0,_,c,_,G,?_,O,.refl c G,(A.setL (by rw[g,←Y];exact .bool b)).put (.tup .nil) x.d,h.2 Y⟩;have H:Wp x.g I=false:=by
     rw[M];unfold Wp;dsimp only;rw[g,Y];cases w<;>rfl
    unfold aw;rw[show x.r.g=x.g from rfl,H];rfl
def ztk{n:Nat}{ops:Array Oper}:∀{l:List LI} {j:List Oper} {c:Cx} {G:Mu} {K:My} {L:Tr AV} {M:My→Mu→Prop},vk P n ops j=some (lis l)→l.all (·.o.ok)=true→HSim c G→Nu c K L→Sg P l K G M →
  ∃m O B C A,(bw P n ops j).run (Qr P (OL P) m) L c.H=.ok O B.H∧HSim B A∧Step c G B A∧Nu B C O∧M C A
 |[],j,c,G,K,L,M,g,_,D,E,h=>by
  cases j with
  |nil=>exact⟨0,L,c,K,G,rfl,D,.refl c G,E,h⟩
  |cons o j =>
   simp only[vk]at g;split at g
   ·cases g
   ·split at g<;>cases g
 |x::l,j,c,G,K,L,M,g,z,D,E,h=>by
  cases j with
  |nil=>cases g
  |cons o j =>
   simp only[vk]at g;split at g
   ·cases g
   ·rename_i r F;split at g
    ·cases g
    ·rename_i rs H;simp only[lis,Option.some.injEq,List.cons.injEq]at g;obtain⟨rfl,rfl⟩:=g;simp only[Ke,H7]at z;obtain⟨m1,E1,c1,ρ1,G1,R,Q,S,T,U⟩:=W5 D E z.1 (show Vv P x K G λC A=>Sg P l C A M from h);obtain⟨I,V,X,Y,Z,q1,q2,q3,q4,q5⟩:=ztk H z.2 Q T U;refine⟨max m1 I,V,X,Y,Z,?_,q2,.trans D Q S q3,q4,q5⟩;simp only[bw];rw[zdv F,zrb (am (Ki m1 I)) R];dsimp only;exact za9 (am (Li m1 I)) q1
end run
end
end
section
noncomputable section
inductive RC where
 |skip
 |ops (l:List RI)
 |draw (l:List (RI×List (RI×Bool)))
 |seq (a b:RC)
 |cond (c:Ox) (a b:RC)
 |block (id:Nat) (c:RC)
 |loop (c:RC)
 |rangeF (g:Ox) (ps:List Nat) (a b:RC)
 |exit (id:Nat)
 |scope (c:RC)
 |label
 |ret
 |stuck
inductive LC where
 |skip
 |ops (l:List LI)
 |draw (l:List (LI×List (LI×Bool)))
 |seq (a b:LC)
 |cond (c:Lx) (a b:LC)
 |block (id:Nat) (c:LC)
 |loop (c:LC)
 |rangeF (g:Lx) (ps:List Nat) (a b:LC)
 |exit (id:Nat)
 |scope (c:LC)
 |label
 |ret
 |stuck
def Tw(t:Nat):List Nat→Bool
 |[]=>false
 |a::l=>match Nat.beq t a with
  |true=>true
  |false=>Tw t l
def Vc(ops:Array Oper)(d:Option Nat)(x:DOp):Bool:=match d with
 |none=>true
 |some d=>match Tw d (Sy ops x.o) with
  |true=>false
  |false=>match x.o.dst with
   |none=>true
   |some e=>!(Nat.beq d e)
def S7(x:DOp):Bool:=match x.c with
 |.al=>true
 |_=>false
def ul(P:Program)(n:Nat)(ops:Array Oper):List DOp→Option (List (RI×Bool))
 |[]=>some []
 |x::l=>match fu P n ops x.o with
  |none=>none
  |some r=>match ul P n ops l with
   |none=>none
   |some g=>some ((r,S7 x)::g)
def yb:Cls→Cls→Bool
 |.quiet,.quiet=>true
 |.rd,.rd=>true
 |.al,.al=>true
 |.ch,.ch=>true
 |_,_=>false
def qm(ops:Array Oper)(x:DOp):Bool:=match x.o.dst with
 |none=>false
 |some d=>!(Tw d (Sy ops x.o))
def kz(P:Program)(n:Nat)(ops:Array Oper):List DOp→List DOp→Option (List (RI×List (RI×Bool)))
 |[],_=>some []
 |x::l,g=>match Tv (Vc ops x.o.dst) g&&yb x.c (cls P x.o.op) with
  |false=>none
  |true=>match fu P n ops x.o with
   |none=>none
   |some r=>match x.c with
    |.quiet=>match kz P n ops l g with
     |none=>none
     |some j=>some ((r,[])::j)
    |.rd=>match qm ops x with
     |false=>none
     |true=>match kz P n ops l (x::g) with
      |none=>none
      |some j=>some ((r,[])::j)
    |.al=>match qm ops x with
     |false=>none
     |true=>match ul P n ops g with
      |none=>none
      |some z=>match kz P n ops l (x::g) with
       |none=>none
       |some j=>some ((r,z)::j)
    |.ch=>match ul P n ops (Nl (λy=>!(Nat.testBit x.m y.i)) g) with
     |none=>none
     |some z=>match kz P n ops l (Nl (λy=>!(Nat.testBit x.m y.i)) g) with
      |none=>none
      |some j=>some ((r,z)::j)
def zoq(P:Program)(n:Nat)(ops:Array Oper):Option (List (RI×List (RI×Bool))) :=
 let z:=Pq P ops ops.toList [] 0;let g:=Nl M1 z;let j:=zr z g
 match zt1 ops.size z j with
 |true=>kz P n ops j []
 |false=>none
def Ni(P:Program)(n:Nat):Code→Option RC
 |.skip=>some .skip
 |.region _ ops draw=>match draw with
  |true=>match zoq P n ops with
   |none=>some .stuck
   |some l=>some (.draw l)
  |false=>match vk P n ops ops.toList with
   |none=>some .stuck
   |some l=>some (.ops l)
 |.seq a b=>match Ni P n a with
  |none=>none
  |some a=>match Ni P n b with
   |none=>none
   |some b=>some (.seq a b)
 |.cond c a b=>match Nw c with
  |none=>none
  |some c=>match Ni P n a with
   |none=>none
   |some a=>match Ni P n b with
    |none=>none
    |some b=>some (.cond c a b)
 |.block id c=>match Ni P n c with
  |none=>none
  |some c=>some (.block id c)
 |.loop c=>match Ni P n c with
  |none=>none
  |some c=>some (.loop c)
 |.rangeFunc g j a b=>match Nw g with
  |none=>none
  |some g=>match Ni P n a with
   |none=>none
   |some a=>match Ni P n b with
    |none=>none
    |some b=>some (.rangeF g j.toList a b)
 |.exit id=>some (.exit id)
 |.scope c=>match Ni P n c with
  |none=>none
  |some c=>some (.scope c)
 |.label _=>some .label
 |.ret=>some .ret
 |_=>some .stuck
def rck:List (LI×Bool)→List (RI×Bool)
 |[]=>[]
 |(x,b)::l=>(x.r,b)::rck l
def jc:List (LI×List (LI×Bool))→List (RI×List (RI×Bool))
 |[]=>[]
 |(x,c)::l=>(x.r,rck c)::jc l
def LC.r:LC→RC
 |.skip=>.skip
 |.ops l=>.ops (lis l)
 |.draw l=>.draw (jc l)
 |.seq a b=>.seq a.r b.r
 |.cond c a b=>.cond c.r a.r b.r
 |.block id c=>.block id c.r
 |.loop c=>.loop c.r
 |.rangeF g ps a b=>.rangeF g.r ps a.r b.r
 |.exit id=>.exit id
 |.scope c=>.scope c.r
 |.label=>.label
 |.ret=>.ret
 |.stuck=>.stuck
def LC.ok:LC→Bool
 |.ops l=>l.all (·.o.ok)
 |.draw l=>l.all λx=>x.1.o.ok&&x.2.all (·.1.o.ok)
 |.seq a b=>a.ok&&b.ok
 |.cond c a b=>c.ok&&a.ok&&b.ok
 |.block _ c=>c.ok
 |.loop c=>c.ok
 |.rangeF g _ a b=>g.ok&&a.ok&&b.ok
 |.scope c=>c.ok
 |_=>true
abbrev O6:=Ex→My→List Nat→Mu→Prop
inductive DRs (c:Cx):List Nat→List Nat→Prop where
 |nil:DRs c [] []
 |cons {p o:Nat} {l r:List Nat} (h:c.hd[p]?=some (0,.ptr o 0 0)) (hs:DRs c l r):DRs c (p::l) (o::r)
def DRs.mono{c c':Cx}(h:CxLe c c'):∀{l r:List Nat},DRs c l r→DRs c' l r
 |_,_,.nil=>.nil
 |_,_,.cons e es=>.cons (h.fix e rfl) (DRs.mono h es)
def ROr(c:Cx):Option Nat→Option Nat→Prop
 |none,none=>True
 |some p,some o=>c.hd[p]?=some (0,.ptr o 0 0)
 |_,_=>False
def ROr.mono{c:Cx}(h:CxLe c vO){a b:Option Nat}(k:ROr c a b):ROr vO a b:=by
 cases a<;>cases b<;>first|exact k|exact h.fix k rfl
def W(P:Program)(f n:Nat)(s:LC)(ro:Option Nat)(ρ:My)(D:List Nat)(G:Mu)(Q:O6):Prop :=
 ∀(g:Code) (c:Cx) (I:Tr AV) (C:List Nat) (j:Option Nat),Ni P n g=some s.r→s.ok=true→HSim c G→Nu c ρ I→DRs c D C→ROr c ro j →
  ∃m x E z A F H B,(O7 P f n g).run (Qr P (OL P) m) m j I C c.H=.ok x E z A.H∧HSim A B∧Step c G A B∧Nu A F E∧DRs A H z∧Q x F H B
section rules
variable {P : Program} {f n : Nat} {ro : Option Nat} {ρ : My} {D : List Nat} {G : Mu} {Q : O6}
def W.post{s:LC}{Q':O6}(h:W P f n s ro ρ D G Q)(hq:∀x ρ D G,Q x ρ D G→Q' x ρ D G):W P f n s ro ρ D G Q':=by
 intro code c E D1 gg h1 h2 h3 h4 h5 h6;obtain⟨m,x,E',gj,c',ρ',D',G',q1,q2,q3,q4,q5,q6⟩:=h code c E D1 gg h1 h2 h3 h4 h5 h6;exact⟨m,x,E',gj,c',ρ',D',G',q1,q2,q3,q4,q5,hq _ _ _ _ q6⟩
def Z6(h:Ni P n vI=some .skip):vI=.skip:=by
 cases vI<;>simp only[Ni]at h<;>first|rfl|(repeat' split at h)<;>cases h
def eu{l:List RI}(h:Ni P n vI=some (.ops l)):∃id ops,vI=.region id ops false∧vk P n ops ops.toList=some l:=by
 cases vI<;>simp only[Ni]at h<;>(repeat' split at h)<;>cases h;exact⟨_,_,rfl,‹_›⟩
def Yj{l:List (RI×List (RI×Bool))}(h:Ni P n vI=some (.draw l)):∃id ops,vI=.region id ops true∧zoq P n ops=some l:=by
 cases vI<;>simp only[Ni]at h<;>(repeat' split at h)<;>cases h;exact⟨_,_,rfl,‹_›⟩
def ik{a b:RC}(h:Ni P n vI=some (.seq a b)):∃g j,vI=.seq g j∧Ni P n g=some a∧Ni P n j=some b:=by
 cases vI<;>simp only[Ni]at h<;>(repeat' split at h)<;>cases h;exact⟨_,_,rfl,‹_›,‹_›⟩
def X4{x:Ox}{a b:RC}(h:Ni P n vI=some (.cond x a b)):∃g j z,vI=.cond g j z∧Nw g=some x∧Ni P n j=some a∧Ni P n z=some b:=by
 cases vI<;>simp only[Ni]at h<;>(repeat' split at h)<;>cases h;exact⟨_,_,_,rfl,‹_›,‹_›,‹_›⟩
def zvc{id:Nat}{a:RC}(h:Ni P n vI=some (.block id a)):∃g,vI=.block id g∧Ni P n g=some a:=by
 cases vI<;>simp only[Ni]at h<;>(repeat' split at h)<;>cases h;exact⟨_,rfl,‹_›⟩
def Zp{a:RC}(h:Ni P n vI=some (.loop a)):∃g,vI=.loop g∧Ni P n g=some a:=by
 cases vI<;>simp only[Ni]at h<;>(repeat' split at h)<;>cases h;exact⟨_,rfl,‹_›⟩
def Yb{id:Nat}(h:Ni P n vI=some (.exit id)):vI=.exit id:=by
 cases vI<;>simp only[Ni]at h<;>(repeat' split at h)<;>cases h;rfl
def zw6{a:RC}(h:Ni P n vI=some (.scope a)):∃g,vI=.scope g∧Ni P n g=some a:=by
 cases vI<;>simp only[Ni]at h<;>(repeat' split at h)<;>cases h;exact⟨_,rfl,‹_›⟩
def zvh(h:Ni P n vI=some .label):∃s,vI=.label s:=by
 cases vI<;>simp only[Ni]at h<;>(repeat' split at h)<;>cases h;exact⟨_,rfl⟩
def gn(h:Ni P n vI=some .ret):vI=.ret:=by
 cases vI<;>simp only[Ni]at h<;>first|rfl|(repeat' split at h)<;>cases h
def ot(h:Q .normal ρ D G):W P f n .skip ro ρ D G Q:=by
 intro g c F j z A H B C E I;obtain rfl:=Z6 A;exact⟨0,.normal,F,j,c,ρ,D,G,rfl,B,.refl c G,C,E,h⟩
def eq(h:Q .normal ρ D G):W P f n .label ro ρ D G Q:=by
 intro g c F j z A H B C E I;obtain⟨s,rfl⟩:=zvh A;exact⟨0,.normal,F,j,c,ρ,D,G,rfl,B,.refl c G,C,E,h⟩
def pq{id:Nat}(h:Q (.exit id) ρ D G):W P f n (.exit id) ro ρ D G Q:=by
 intro g c F j z A H B C E I;obtain rfl:=Yb A;exact⟨0,.exit id,F,j,c,ρ,D,G,rfl,B,.refl c G,C,E,h⟩
def W_ret(h:Q .ret ρ D G):W P f n .ret ro ρ D G Q:=by
 intro g c F j z A H B C E I;obtain rfl:=gn A;exact⟨0,.ret,F,j,c,ρ,D,G,rfl,B,.refl c G,C,E,h⟩
def ew{s:LC}(h:W P f n s ro ρ D G Q):W P f n (.scope s) ro ρ D G Q:=by
 intro z c L A g B C E F H I;obtain⟨K,rfl,j⟩:=zw6 B;exact h K c L A g j C E F H I
def xo{l:List LI}(h:Sg P l ρ G λg j=>Q .normal g D j):W P f n (.ops l) ro ρ D G Q:=by
 intro z c X B C E F H I K V;obtain⟨id,ops,rfl,L⟩:=eu E;obtain⟨m,M,O,g,j,R,S,A,T,U⟩:=ztk L F H I h;refine⟨m,.normal,M,B,O,g,D,j,?_,S,A,T,K.mono A.le,U⟩;simp only[O7];rw[R]
def W_seq{a b:LC}(h:W P f n a ro ρ D G λx j z A=>match x with
  |.normal=>W P f n b ro j z A Q
  |x=>Q x j z A):W P f n (.seq a b) ro ρ D G Q:=by
 intro T c gg X B Y H U Z h5 V;obtain⟨ca,cb,rfl,ha,hb⟩:=ik Y;simp only[LC.ok,H7]at H;obtain⟨m,x,I,g,K,j,z,A,L,E,F,M,O,R⟩:=h ca c gg X B ha H.1 U Z h5 V;cases x with
 |normal =>
  obtain⟨C,x,E2,D2,c2,ρ2,S,G2,r1,r2,r3,r4,r5,r6⟩:=R cb K I g B hb H.2 E M O (V.mono F.le);refine⟨max m C,x,E2,D2,c2,ρ2,S,G2,?_,r2,.trans U E F r3,r4,r5,r6⟩;simp only[O7];rw[me (am (Ki m C)) (Ki m C) _ L];exact me (am (Li m C)) (Li m C) _ r1
 |exit id =>
  refine⟨m,.exit id,I,g,K,j,z,A,?_,E,F,M,O,R⟩;simp only[O7];rw[L]
 |ret =>
  refine⟨m,.ret,I,g,K,j,z,A,?_,E,F,M,O,R⟩;simp only[O7];rw[L]
def qj{x:Lx}{a b:LC}{t:Bool}(hx:x.ev ρ=.bool t)(ha:t=true→W P f n a ro ρ D G Q)(hb:t=false→W P f n b ro ρ D G Q):W P f n (.cond x a b) ro ρ D G Q:=by
 intro T c U V j h1 z X A Y Z;obtain⟨cx,ca,cb,rfl,B,C,E⟩:=X4 h1;simp only[LC.ok,H7]at z;have F:=N5 A z.1.1;have H:=Sd B (znw U);have I:x.r.ev (ρA U)=.bool t:=by
  rw[hx]at F;generalize x.r.ev (ρA U)=w at F;cases F;rfl
 rw[I]at H;cases t with
 |true =>
  obtain⟨m,x,K,g,L,M,O,R,S,q⟩:=ha rfl ca c U V j C z.1.2 X A Y Z;refine⟨m,x,K,g,L,M,O,R,?_,q⟩;simp only[O7];rw[H];exact S
 |false =>
  obtain⟨m,x,K,g,L,M,O,R,S,q⟩:=hb rfl cb c U V j E z.2 X A Y Z;refine⟨m,x,K,g,L,M,O,R,?_,q⟩;simp only[O7];rw[H];exact S
def gk{id:Nat}{s:LC}(h:W P f n s ro ρ D G λx j z A=>match x with
  |.exit i=>if i=id then Q .normal j z A else Q (.exit i) j z A
  |x=>Q x j z A):W P f n (.block id s) ro ρ D G Q:=by
 intro R c gg S M T U V X Y Z;obtain⟨ca,rfl,O⟩:=zvc T;obtain⟨m,x,C,g,E,j,z,A,F,H,I,K,L,B⟩:=h ca c gg S M O U V X Y Z;cases x with
 |normal =>
  refine⟨m,.normal,C,g,E,j,z,A,?_,H,I,K,L,B⟩;simp only[O7];rw[F]
 |exit i =>
  dsimp only at B;by_cases e:i=id
  ·rw[Ih e]at B;refine⟨m,.normal,C,g,E,j,z,A,?_,H,I,K,L,B⟩;simp only[O7];rw[F,e];dsimp only;rw[I0]
  ·rw[Ig e]at B;refine⟨m,.exit i,C,g,E,j,z,A,?_,H,I,K,L,B⟩;simp only[O7];rw[F];dsimp only;cases hb:Nat.beq i id with
   |true=>exact absurd (Ic hb) e
   |false=>rfl
 |ret =>
  refine⟨m,.ret,C,g,E,j,z,A,?_,H,I,K,L,B⟩;simp only[O7];rw[F]
def Z0{s:LC}(gE:My→List Nat→Mu→Nat→Prop)(h0:gE ρ D G g)
  (h:∀g ρ D G,gE ρ D G g→W P f n s ro ρ D G λx A B z=>match x with
   |.normal=>∃M,M<g∧gE A B z M
   |x=>Q x A B z):W P f n (.loop s) ro ρ D G Q:=by
 intro gD c gC H F h1 h2 O U V R;obtain⟨ca,rfl,X⟩:=Zp h1;have Y:∀g,∀(c:Cx) (gC:Tr AV) (H:List Nat) (ρ:My) (D:List Nat) (G:Mu),gE ρ D G g→HSim c G→Nu c ρ gC→DRs c D H→ROr c ro F →
   ∃m I x E j C A B z,Xq ((O7 P f n ca).run (Qr P (OL P) m) m F) I gC H c.H=.ok x E j C.H∧HSim C z∧Step c G C z∧Nu C A E∧DRs C B j∧Q x A B z:=by
  intro g
  induction g using Nat.strongRecOn with
  |_ g ih =>
   intro c gC H ρ D G hI O U V R;obtain⟨m,x,E,j,C,A,B,z,K,S,T,Z,q5,q6⟩:=h g ρ D G hI ca c gC H F X h2 O U V R;cases x with
   |normal =>
    obtain⟨M,hN,gg⟩:=q6;obtain⟨L,gj,x,E2,D2,c2,ρ2,gB,G2,r1,r2,r3,r4,r5,r6⟩:=ih M hN C E j A B z gg S Z q5 (R.mono T.le);refine⟨max m L,gj+1,x,E2,D2,c2,ρ2,gB,G2,?_,r2,.trans O S T r3,r4,r5,r6⟩;simp only[Xq];rw[me (am (Ki m L)) (Ki m L) _ K];exact zal (λ_ _ _ _ _ _ _ e=>me (am (Li m L)) (Li m L) _ e) (Ie _) r1
   |exit id =>
    refine⟨m,1,.exit id,E,j,C,A,B,z,?_,S,T,Z,q5,q6⟩;simp only[Xq];rw[K]
   |ret =>
    refine⟨m,1,.ret,E,j,C,A,B,z,?_,S,T,Z,q5,q6⟩;simp only[Xq];rw[K]
 obtain⟨m,I,x,E,j,C,A,B,z,K,q⟩:=Y g c gC H ρ D G h0 O U V R;refine⟨max m I,x,E,j,C,A,B,z,?_,q⟩;simp only[O7];exact zal (λ_ _ _ _ _ _ _ e=>me (am (Ki m I)) (Ki m I) _ e) (Li m I) K
end rules
inductive RRes where
 |tmp (t:Nat)
 |cell1 (t:Nat)
 |cellN (t n:Nat)
def pk(P:Program):ResultVar→Option RRes
 |.tmp t=>match Nat.ble t M8 with
  |true=>some (.tmp t)
  |false=>none
 |.cell a t=>match Nat.ble a M8 with
  |true=>match Rh P t,Oi P t with
   |some true,some n=>some (.cellN a n)
   |some false,some _=>some (.cell1 a)
   |_,_=>none
  |false=>none
def U3(P:Program):List ResultVar→Option (List RRes)
 |[]=>some []
 |r::l=>match pk P r with
  |none=>none
  |some a=>match U3 P l with
   |none=>none
   |some b=>some (a::b)
structure RF where
 n:Nat
 c:RC
 rs:List RRes
def M4(P:Program)(f:Nat):Option RF :=
 match cq P f && !(vj P f) && !(zsj P f) with
 |false=>none
 |true=>match P.funcs[f]? with
  |none=>none
  |some fn=>match fn.body with
   |none=>none
   |some b=>match Nat.ble fn.ntmps M8 with
    |false=>none
    |true=>match Ni P fn.ntmps b with
     |none=>none
     |some c=>match U3 P fn.results.toList with
      |none=>none
      |some g=>some ⟨fn.ntmps,c,g⟩
def Qk(ρ:My)(G:Mu):List RRes→(List LV→Prop)→Prop
 |[],j=>j []
 |r::l,j=>match r with
  |.tmp t=>Qk ρ G l λg=>j (lk ρ t::g)
  |.cell1 t=>Ui G (lk ρ t) λv=>Qk ρ G l λg=>j (v::g)
  |.cellN t n=>Ud G (lk ρ t) n λz=>Qk ρ G l λg=>j (.agg z::g)
def T1:List LV→LV
 |[v]=>v
 |l=>.tup l
def aa:List LV→Nat→My
 |[],_=>[]
 |v::l,i=>(i,v)::aa l (i+1)
def js:List Nat→Mu→(Mu→Prop)→Prop
 |[],G,g=>g G
 |d::l,G,g=>match G[d]? with
  |some (.defd true)=>js l (G.set d (.defd false)) g
  |_=>False
section fns
variable {P : Program}
def zjm{c:Cx}{G:Mu}{ρ:My}{I:Tr AV}(B:HSim c G)(A:Nu c ρ I):∀{l:List ResultVar} {H:List RRes} {K:List LV→Prop},U3 P l=some H→Qk ρ G H K→∃g as,(kc P l).run I c.H=some as∧ARs c g as∧K g
 |[],H,K,h,k=>by cases h;exact⟨[],[],rfl,.nil,k⟩
 |r::l,H,K,h,k=>by
  simp only[U3]at h;split at h
  ·cases h
  ·rename_i a j;split at h
   ·cases h
   ·rename_i b L;cases h;simp only[kc];cases r with
    |tmp t =>
     simp only[pk]at j;split at j
     ·rename_i M;cases j;obtain⟨g,as,C,E,F⟩:=zjm B A L (show Qk ρ G b (λg=>K (lk ρ t::g)) from k);have z:(M7 (.tmp t)).run I=some ((Mz (M6 t) I).getD Qs):=by
       unfold M7;dsimp only;rw[M];dsimp only;cases Mz (M6 t) I<;>rfl
      refine⟨_,_,?_,.cons (A t) E,F⟩;simp only[resF];rw[z,C]
     ·cases j
    |cell t Y =>
     simp only[pk]at j;split at j
     ·rename_i M;have z:(M7 (.tmp t)).run I=some ((Mz (M6 t) I).getD Qs):=by
       unfold M7;dsimp only;rw[M];dsimp only;cases Mz (M6 t) I<;>rfl
      split at j
      ·rename_i m O R;cases j;obtain⟨o,v,i,Z,X,S,T,U,V⟩:=zkg B (A t) (show Ud G (lk ρ t) m (λX=>Qk ρ G b λg=>K (.agg X::g)) from k);obtain⟨g,as,C,E,F⟩:=zjm B A L V;refine⟨_,_,?_,.cons (.agg U) E,F⟩;simp only[Sv.resF,O,R];rw[z,S];dsimp only;rw[T,C]
      ·rename_i m O R;cases j;obtain⟨o,v,i,w,bb,S,T,U,V⟩:=zpy B (A t) (show Ui G (lk ρ t) (λv=>Qk ρ G b λg=>K (v::g)) from k);obtain⟨g,as,C,E,F⟩:=zjm B A L V;refine⟨_,_,?_,.cons U E,F⟩;simp only[Sv.resF,O,R];rw[z,S];dsimp only;rw[T];dsimp only;rw[C]
      ·cases j
     ·cases j
end fns
end
end
section
section fns
variable {P : Program}
def lk_argsL:∀(l:List LV) (i t:Nat),lk (aa l i) t=if i≤t∧t<i+l.length then l.getD (t-i) .any else .any
 |[],i,t=>by simp only[aa,Zg,List.length_nil];rw[Ig J]
 |v::l,i,t=>by
  simp only[aa,xr,Iv];rw[lk_argsL l (i+1) t];by_cases h:t=i
  ·subst h;rw[Ih rfl,Ih J];simp
  ·rw[Ig h];by_cases g:i+1≤t∧t<i+1+l.length
   ·rw[Ih g,Ih J,show t-i=(t-(i+1))+1 from J];simp
   ·rw[Ig g,Ig J]
def Nu.start{c:Cx}{args:List LV}{gg:List AV}(h:ARs c args gg):Nu c (aa args 0) (O8 gg 0 .e):=by
 intro t;rw[lk_argsL,get_ofList,Uw];have hl:=h.length;by_cases ht:t<args.length
 ·rw[Ih J,Ih J];obtain⟨a,q1,q2⟩:=h.get (H8 ht);rw[Nat.sub_zero,q1,H9,H8 ht];exact q2
 ·rw[Ig J];exact .any _
def zps{U:Mu→Prop}:∀{I:List Nat} {F:List Nat} {c:Cx} {B:Mu},DRs c I F→HSim c B→js I B U→∃j z,mj F c.H=some j.H∧HSim j z∧Step c B j z∧U z
 |[],_,c,B,.nil,g,h=>⟨c,B,rfl,g,.refl c B,h⟩
 |d::I,_,c,B,.cons (o:=o) e K,g,h=>by
  simp only[js]at h;split at h
  ·rename_i C;obtain⟨_,G,D,A⟩:=g.obj d _ _ _ C e;injection D with D
   subst D;obtain⟨H,L,M⟩:=g.upd (k':=0) (x':=.ptr o 0 0) (ob':=.defd false) (H':=c.H.put o (.defd false)) C rfl e (Ie _) (λG _ E=>Heap.get_put_ne _ _ (λq=>E Em))
    (λG O=>by cases O;exact⟨.inl rfl,g.lt o ⟨d,_,_,_,C,rfl,e,rfl⟩⟩) (Ie _) (λ_=>rfl) (λ_=>rfl) (.inr ⟨rfl,Ie _⟩) (λ_=>⟨rfl,o,rfl,Heap.get_put_same _ _ _⟩)
   obtain⟨j,z,Q,R,S,T⟩:=zps (K.mono M) H h;refine⟨j,z,?_,R,.trans g H L S,T⟩;simp only[mj];rw[A];exact Q
  ·exact h.elim
def zi:List AV→AV
 |[v]=>v
 |l=>.tup l
def zsd{f:Nat}{s:LC}{n:Nat}{Q:List RRes}(g:M4 P f=some ⟨n,s.r,Q⟩)(E:s.ok=true)(hn:G.length≤n)
  (h:W P f n s none (aa G 0) [] M λx ρ gB R=>(match x with | .exit _=>False|_=>True)∧js gB R λC=>Qk ρ C Q λD=>S (T1 D) C):Pz P (.fn f) G M S:=by
 unfold M4 at g;split at g
 ·cases g
 ·rename_i j;simp only[H7,Lu]at j;refine⟨j.1,λc t1 z T U V=>?_⟩;cases t1 with
  |yield o=>exact U.elim
  |fn gC =>
   obtain rfl:f=gC:=U;split at g
   ·cases g
   ·rename_i fn F;split at g
    ·cases g
    ·rename_i b hb;split at g
     ·cases g
     ·rename_i A;split at g
      ·cases g
      ·rename_i rc H;split at g
       ·cases g
       ·rename_i gg I;cases g;obtain⟨m,x,E',gj,c',ρ',D',R,q1,X,q3,q4,q5,q6,q7⟩:=h b c _ [] none H E T (Nu.start V) .nil trivial;obtain⟨K,C,Y,Z,r3,r4⟩:=zps q5 X q7;obtain⟨D,as,s1,s2,s3⟩:=zjm Z (q4.mono r3.le) I r4;have B:AR K (T1 D) (zi as):=by
         cases s2 with
         |nil=>exact .tup .nil
         |cons e es =>
          cases es with
          |nil=>exact e
          |cons e2 L=>exact .tup (.cons e (.cons e2 L))
        refine⟨m+1,zi as,K.H,?_,K,T1 D,C,rfl,Z,.trans T X q3 r3,B,s3⟩;unfold Qr;dsimp only;rw[xd j.2];dsimp only;unfold ou;rw[F];dsimp only;rw[hb];dsimp only;rw[Ih (Ik A)];dsimp only;have O:Nat.ble z.length fn.ntmps=true:=If (by rw[←V.length];exact hn);rw[O];dsimp only;rw[q1];dsimp only;cases x with
        |exit id=>exact q6.elim
        |normal =>
         dsimp only;rw[Y];dsimp only;rw[s1];rcases as with _|⟨a,_|⟨a2,as⟩⟩<;>rfl
        |ret =>
         dsimp only;rw[Y];dsimp only;rw[s1];rcases as with _|⟨a,_|⟨a2,as⟩⟩<;>rfl
def Pz.mono{t:LTgt}{args:List LV}{G:Mu}{K K':LV→Mu→Prop}(h:Pz P t args G K)(hk:∀v G,K v G→K' v G):Pz P t args G K' :=
 ⟨h.1,λc t1 gg h1 h2 h3=>by
  obtain⟨m,v1,H',q1,c',v,G',q2,q3,q4,q5,q6⟩:=h.2 c t1 gg h1 h2 h3;exact⟨m,v1,H',q1,c',v,G',q2,q3,q4,q5,hk _ _ q6⟩⟩
mutual
def LV.sim(m:Nat):LV→Bool
 |.bool _ |.u _ |.b _ |.i _ |.int _ _ |.str _ |.nilPtr |.nilSl |.nilMap |.nilFn |.nilIf=>true
 |.dy j k=>k==0&&decide (j<m)
 |.agg l=>sims m l
 |.tup l=>sims m l
 |_=>false
def sims(m:Nat):List LV→Bool
 |[]=>true
 |v::l=>v.sim m&&sims m l
end
mutual
def subV(sel:List LV):LV→LV
 |.dy j _=>sel.getD j .any
 |.agg l=>.agg (subVs sel l)
 |.tup l=>.tup (subVs sel l)
 |v=>v
def subVs(sel:List LV):List LV→List LV
 |[]=>[]
 |v::l=>subV sel v::subVs sel l
end
def yo(p:Nat):LV→Prop
 |.dy q _=>q≠p
 |_=>True
def Vz(A:Mu):List LV→Mu→Prop
 |[],[]=>True
 |.dy p k::s,.dyn l len j g st::B=>g=0∧l.all LV.scal=true∧(∃z,A[p]?=some (.dyn l len j k z))∧st=0∧(∀x∈s,yo p x)∧Vz A s B
 |.nilSl::s,.dyn l len _ g st::B=>g=0∧st=0∧l=[]∧len=0∧Vz A s B
 |_,_=>False
def Nf(P:Program)(f:Nat)(A:List LV)(F:LV)(C:Mu):Prop :=
 fx P (.fn f)∧F.sim C.length=true∧(∀(I:Nat) (G:LObj),C[I]?=some G→∃l len D,G=.dyn l len D 0 0∧l.all LV.scal=true)∧∀(B:Nat→Prop) (E:Heap) (g:List AV),(∀o,B o→o<E.next)→ARs ⟨[],B,E⟩ A g →
  ∃m H j z,Qr P (OL P) m (.fn f) g E=.ok H z∧HSim ⟨j,B,z⟩ C∧AR ⟨j,B,z⟩ F H∧E.next≤z.next∧(∀o,o<E.next→z.get o=E.get o)∧∀o,Ot ⟨j,B,z⟩ C o→E.next≤o
def zd8{c g:Cx}:∀{l:List LV} {r:List AV},l.all LV.scal=true→ARs c l r→ARs g l r
 |[],_,_,.nil=>.nil
 |v::l,_,h,.cons e j=>by
  simp only[Ke,H7]at h;refine .cons ?_ (zd8 h.2 j);cases v<;>first|(cases h.1;done)|(cases e;constructor)
def HSim.empty{Fz:Nat→Prop}{H:Heap}(h:∀o,Fz o→o<H.next):HSim ⟨[],Fz,H⟩ [] :=
 ⟨rfl,h,λo ⟨p,_,_,_,e,_⟩=>B4,λo ⟨p,_,_,_,e,_⟩=>B4,λp _ _ _ e=>B4,λp _ _ _ _ _ _ _ _ e=>B4⟩
def zfj{c:Cx}{gj:Mu}(Q:HSim c gj):∀{g:List LV} {R:Mu},Vz gj g R→∃C:List (Nat×AV),C.length=R.length ∧
  (∀(j:Nat) (E:LObj) (k:Nat) (h:AV),R[j]?=some E→C[j]?=some (k,h)→k=0∧(∀S:Cx,S.H=c.H→ku S 0 h E)∧(∃l len F,E=.dyn l len F 0 0∧l.all LV.scal=true) ∧
   ((g[j]?=some .nilSl∧h=.nilSl)∨∃p D,g[j]?=some (.dy p D)∧c.hd[p]?=some (D,h)∧(∀o,Nk h=some o→Ot c gj o)∧∃G,gj[p]?=some G∧G.live=true)) ∧
  (∀(i j p k q D:Nat),g[i]?=some (.dy p k)→g[j]?=some (.dy q D)→p=q→i=j)
 |[],[],_=>⟨[],rfl,λj E k h e=>B4,λi j p k q D e=>B4⟩
 |[],_::_,h=>h.elim
 |s::g,[],h=>by cases s<;>exact h.elim
 |s::g,E::R,h=>by
  cases s<;>cases E<;>first|exact h.elim|skip
  ·rename_i l len F U st;obtain⟨rfl,rfl,rfl,rfl,h⟩:=h;obtain⟨C,V,X,Y⟩:=zfj Q h;refine⟨(0,.nilSl)::C,B7,λj E k h z A=>?_,λi j p k q D z A H=>?_⟩
   ·cases j with
    |zero =>
     simp only[Iq,Option.some.injEq]at z A;cases z;cases A;exact⟨rfl,λS _=>⟨rfl,N,.inl ⟨rfl,rfl⟩⟩,⟨_,_,_,rfl,rfl⟩,.inl ⟨rfl,rfl⟩⟩
    |succ j=>exact X j E k h Cq Bi
   ·cases i with
    |zero=>simp at z
    |succ i=>cases j with
     |zero=>simp at A
     |succ j=>have:=Y i j p k q D Cq Bi H;omega
  ·rename_i p k l len F U st;obtain⟨rfl,I,⟨gB,T⟩,rfl,Z,h⟩:=h;obtain⟨C,V,X,Y⟩:=zfj Q h;have hp:p<c.hd.length:=by rw[Q.len];exact (H5.1 T).1
   obtain⟨k0,h0,e0⟩:∃k h,c.hd[p]?=some (k,h):=⟨_,_,H8 hp⟩;have K:=Q.obj p _ _ _ T e0;have hk:=K.1;subst hk;have B:∀(j q D:Nat),g[j]?=some (.dy q D)→q≠p:=λj q D e=>Z _ (I8 e)
   refine⟨(0,h0)::C,B7,λj E k h z A=>?_,λi j p' k q D z A H=>?_⟩
   ·cases j with
    |zero =>
     simp only[Iq,Option.some.injEq]at z A;cases z;cases A;refine⟨rfl,λS gg=>?_,⟨_,_,_,rfl,I⟩,.inr ⟨p,_,rfl,e0,λo ho=>⟨p,_,_,_,T,rfl,e0,ho⟩,_,T,rfl⟩⟩;obtain⟨_,r1,L⟩:=K;refine⟨rfl,r1,?_⟩;rcases L with L|⟨o,v,M,t,O,l',L,r3,r4,r5,r6,r7⟩
     ·exact .inl L
     ·exact .inr ⟨o,v,M,t,O,l',L,by rw[gg];exact r3,r4,r5,zd8 I r6,r7⟩
    |succ j=>exact X j E k h Cq Bi
   ·cases i with
    |zero =>
     simp only[Iq,Option.some.injEq]at z;cases z;cases j with
     |zero=>rfl
     |succ j=>exact absurd H.symm (B j q D Bi)
    |succ i=>cases j with
     |zero =>
      simp only[Iq,Option.some.injEq]at A;cases A;exact absurd H (B i p' k Cq)
     |succ j=>have:=Y i j p' k q D Cq Bi H;omega
mutual
def sub_AR{c c':Cx}{sel:List LV}(gg:∀(gB:Nat) (v:LV) (a:AV),sel[gB]?=some v→AR c v a→AR c' (.dy gB 0) a)(v:LV)(a:AV)(j:v.sim sel.length=true)(h:AR c (subV sel v) a):AR c' v a:=by
 cases v with
 |dy gB k =>
  simp only[LV.sim,H7,L9,Ii]at j;obtain⟨rfl,gj⟩:=j;refine gg gB _ a (H8 gj) ?_;unfold subV at h
  rwa [H9,H8 gj]at h
 |agg l =>
  simp only[LV.sim]at j;simp only[subV]at h;cases h with
  |agg h=>exact .agg (sub_ARs gg l _ j h)
 |tup l =>
  simp only[LV.sim]at j;simp only[subV]at h;cases h with
  |tup h=>exact .tup (sub_ARs gg l _ j h)
 |_=>first|(simp only[LV.sim]at j;cases j;done)|(simp only[subV]at h;cases h;constructor)
termination_by SizeOf.sizeOf v
def sub_ARs{c c':Cx}{sel:List LV}(gg:∀(gB:Nat) (v:LV) (a:AV),sel[gB]?=some v→AR c v a→AR c' (.dy gB 0) a)(l:List LV)(r:List AV)(j:sims sel.length l=true)(h:ARs c (subVs sel l) r):ARs c' l r:=by
 cases l with
 |nil=>simp only[subVs]at h;cases h;exact .nil
 |cons v l =>
  simp only[sims,H7]at j;simp only[subVs]at h;cases h with
  |cons e es=>exact .cons (sub_AR gg v _ j.1 e) (sub_ARs gg l _ j.2 es)
termination_by SizeOf.sizeOf l
end
def Nf.mk{f:Nat}{args:List LV}{v0:LV}{G0:Mu}(gj:v0.sim G0.length=true)(h:Pz P (.fn f) args [] λv G=>∃sel,v=subV sel v0∧sel.length=G0.length∧Vz G sel G0)(hG:∀(j:Nat) (ob:LObj),G0[j]?=some ob→∃l len esz,ob=.dyn l len esz 0 0∧l.all LV.scal=true):Nf P f args v0 G0:=by
 refine⟨h.1,gj,hG,λFz H gD gE ha=>?_⟩;obtain⟨m,v1,H',q1,c1,v,G,rfl,q3,q4,q5,sel,rfl,hlen,hr⟩:=h.2 ⟨[],Fz,H⟩ (.fn f) gD (.empty gE) rfl ha;obtain⟨gg,r1,r2,r3⟩:=zfj q3 hr;have gF:∀(j:Nat) (ob:LObj),G0[j]?=some ob→∃k h,gg[j]?=some (k,h):=λj ob e=>⟨_,_,H8 (by rw[r1];exact (H5.1 e).1)⟩
 have gB:∀o,Ot ⟨gg,Fz,c1.H⟩ G0 o→Ot c1 G o:=by
  rintro o ⟨j,ob,k,h,e1,e2,e3,e4⟩;obtain⟨_,_,_,s4⟩:=r2 j ob k h e1 e3;rcases s4 with ⟨_,s4⟩|⟨p,k',_,_,s6,_⟩
  ·rw[s4]at e4;cases e4
  ·exact s6 o e4
 have gC:∀o,Ot ⟨gg,Fz,c1.H⟩ G0 o→H.next≤o:=λo ho=>by
  rcases q4.new o (gB o ho) with ⟨p,_,_,_,e,_⟩|h
  ·simp at e
  ·exact h
 have gG:∀o,¬Ot ⟨[],Fz,H⟩ [] o:=λo ⟨p,_,_,_,e,_⟩=>B4
 have gH:HSim ⟨gg,Fz,c1.H⟩ G0:=by
  refine⟨r1,λo ho=>Ix (gE o ho) q4.nx,λo ho=>q3.lt o (gB o ho),λo ho hf=>?_,λj ob k h e1 e2=>?_,λi j ob gI k h k' h' o e1 e2 e3 e4 e5 e6 e7 e8=>?_⟩
  ·have:=gC o ho;have:=gE o hf;omega
  ·obtain⟨s1,s2,_⟩:=r2 j ob k h e1 e2;rw[s1];exact s2 _ rfl
  ·obtain⟨_,_,_,s4⟩:=r2 i ob k h e1 e5;obtain⟨_,_,_,t4⟩:=r2 j gI k' h' e2 e6;rcases s4 with ⟨_,s4⟩|⟨p,kp,s5,s6,_,o1,g1,g2⟩
   ·rw[s4]at e7;cases e7
   ·rcases t4 with ⟨_,t4⟩|⟨q,kq,t5,t6,_,o2,g3,g4⟩
    ·rw[t4]at e8;cases e8
    ·refine r3 i j p kp q kq s5 t5 ?_;exact q3.excl p q o1 o2 kp h kq h' o g1 g3 g2 g4 s6 t6 e7 e8
 refine⟨m,v1,gg,c1.H,q1,gH,?_,q4.nx,λo ho=>q4.frame o ho (gG o),gC⟩;refine sub_AR (c:=c1) (λj v a e1 e2=>?_) v0 v1 (by rw[hlen];exact gj) q5;have hj:j<G0.length:=by rw[←hlen];exact (H5.1 e1).1
 obtain⟨k,h,e3⟩:=gF j _ (H8 hj);obtain⟨rfl,_,_,s4⟩:=r2 j _ k h (H8 hj) e3;rcases s4 with ⟨s4,s5⟩|⟨p,k',s4,s5,_⟩
 ·rw[e1]at s4;cases s4;cases e2;exact .dy e3 (Ie _) (λ_=>s5.symm) rfl
 ·rw[e1]at s4;cases s4;cases e2 with
  |dy f1 f2 f3 f4 =>
   rw[s5]at f1;cases f1;exact .dy e3 (Ie _) (λ_=>f3 rfl) f4
end fns
end
section
noncomputable section
def il(ρ:My)(G:Mu):LOp→Option (Option Nat)
 |.load1 x |.loadN _ x=>match x.ev ρ with
  |.ptr p _=>some (some p)
  |.dptr p k _=>match G[p]? with
   |some (.dyn _ _ _ g _)=>if k=g then some (some p) else none
   |_=>none
  |.cptr _ _=>some none
  |_=>none
 |.cvStr x=>match x.ev ρ with
  |.nilSl=>some none
  |.lst _ _ _=>some none
  |.dy p k=>match G[p]? with
   |some (.dyn _ _ _ g _)=>if k=g then some (some p) else none
   |_=>none
  |_=>none
 |_=>none
def kw(G g:Mu)(p:Nat):Prop:=match G[p]?,g[p]? with
 |some a,some b=>a.stp=true∧a.st=b.st
 |_,_=>False
def mv(ρ:My)(G g:Mu)(x:LI×Bool):Prop:=match x.2 with
 |false=>match il ρ G x.1.o with
  |some none=>True
  |some (some p)=>kw G g p
  |none=>False
 |true=>match x.1.d with
  |none=>False
  |some d=>match lk ρ d with
   |.ptr p _=>kw G g p
   |.dy p k=>(match G[p]? with
    |some (.dyn _ _ _ j _)=>k=j
    |_=>False)∧kw G g p
   |_=>False
def ckL(ρ:My)(G g:Mu)(x:LI×Bool):Prop:=match x.1.g with
 |none=>mv ρ G g x
 |some (t,w)=>match lk ρ t with
  |.bool b=>b=w→mv ρ G g x
  |_=>mv ρ G g x
def T8(ρ:My)(G g:Mu):List (LI×Bool)→Prop
 |[]=>True
 |x::l=>ckL ρ G g x∧T8 ρ G g l
def V9(P:Program):List (LI×List (LI×Bool))→My→Mu→(My→Mu→Prop)→Prop
 |[],ρ,G,j=>j ρ G
 |(x,z)::l,ρ,G,j=>Vv P x ρ G λA g=>T8 ρ G g z∧V9 P l A g j
section al
variable {P : Program}
def zua{v:AV}{id n:Nat}(h:Nk v=some id):Pm id (Pm n v)=v:=by
 cases v<;>first|(cases h;done)|(cases h;rfl)
def zit{l:List AV}{v:AV}(h:Uq B l=.val v U):∃j,U=B.push j∧Nk v=some B.next∧∀g,Uq g l=.val (Pm g.next v) (g.push j):=by
 unfold Uq newObj at h;cases h;exact⟨_,rfl,rfl,λg=>rfl⟩
def zky{l:List AV}{a b:Nat}{r:Option Nat}{v:AV}(h:(match newObj B l with
  |some (o,j)=>OR.val (.sl o 0 0 a b r) j
  |none=>.no)=.val v U):∃z,U=B.push z∧Nk v=some B.next∧∀g,(match newObj g l with
  |some (o,j)=>OR.val (.sl o 0 0 a b r) j
  |none=>.no)=.val (Pm g.next v) (g.push z):=by
 unfold newObj at h;cases h;exact⟨_,rfl,rfl,λg=>rfl⟩
def nq{o:Op}(g:cls P o=.al){v:AV}(h:(Nq P o).run I B=.val v U):∃z,U=B.push z∧Nk v=some B.next∧∀j,(Nq P o).run I j=.val (Pm j.next v) (j.push z):=by
 cases o with
 |alloc t =>
  simp only[Nq]at h ⊢;split at h
  ·exact zit h
  ·cases h
 |box t x =>
  simp only[Nq,Pa]at h ⊢;cases A:(M7 x).run I with
  |none=>rw[A]at h;cases h
  |some a =>
   rw[A]at h;dsimp only at h ⊢;cases C:a.cells with
   |none=>rw[C]at h;cases h
   |some l=>rw[C]at h;exact zit h
 |buildSlice t len H =>
  simp only[Nq,jf]at h ⊢;split at h
  ·split at h
   ·cases h
   ·split at h
    ·cases h
    ·rename_i R O;by_cases F:len * ‹Nat›≤2^20∧0 < ‹Nat›
     ·rw[Ih F]at h ⊢;split at h
      ·cases h
      ·dsimp only at h ⊢;split at h
       ·exact zky h
       ·cases h
     ·rw[Ig F]at h;cases h
  ·cases h
 |makeSlice t l c =>
  simp only[Nq,jx]at h ⊢;split at h
  ·split at h
   ·cases h
   ·split at h
    ·cases h
    ·split at h
     ·rename_i i hi R O F;simp only[Ih F];simp only[Rs]at h ⊢;cases C:(M7 l).run I with
      |none=>rw[C]at h;cases h
      |some a =>
       rw[C]at h;cases E:(M7 c).run I with
       |none=>rw[E]at h;cases h
       |some b =>
        rw[E]at h;dsimp only at h ⊢;split at h
        ·rename_i n m;cases K:Nat.ble n m with
         |false=>rw[K]at h;cases h
         |true =>
          rw[K]at h;cases L:Nat.ble m 1048576 with
          |false=>rw[L]at h;cases h
          |true=>rw[L]at h;exact zky h
        ·cases h
     ·cases h
  ·cases h
 |makeMap t r =>
  have M:∀{v:AV} {U:Heap},Vh B=.val v U→∃z,U=B.push z∧Nk v=some B.next∧∀j,Vh j=.val (Pm j.next v) (j.push z):=λh=>by
   unfold Vh at h;cases h;exact⟨_,rfl,rfl,λj=>rfl⟩
  simp only[Nq,jv]at h ⊢;split at h
  ·exact M h
  ·rename_i x;split at h
   ·simp only[Pa]at h ⊢;cases A:(M7 x).run I with
    |none=>rw[A]at h;cases h
    |some a =>
     rw[A]at h;dsimp only at h ⊢;split at h
     ·exact M h
     ·cases h
   ·cases h
 |_ =>
  exfalso;simp only[cls]at g
  first
   |(cases g;done)
   |(split at g<;>first|(cases g;done)|(split at g<;>cases g))
   |(simp only[ve]at g;split at g<;>first|(cases g;done)|(split at g<;>first|(cases g;done)|(split at g<;>cases g)))
end al
section draw
variable {P : Program} {n : Nat} {ops : Array Oper}
def S3(P:Program)(ops:Array Oper)(x:DOp)(j:Tr AV)(A:Heap):Prop:=match x.c with
 |.rd=>(Rf ops x.o).run j=true→∃d v,x.o.dst=some d∧Mz (M6 d) j=some v∧(Nq P x.o.op).run j A=.val v A
 |.al=>(Rf ops x.o).run j=true→∃d v id z,x.o.dst=some d∧Mz (M6 d) j=some v∧Nk v=some id∧A.get id=some z∧∀g,(Nq P x.o.op).run j g=.val (Pm g.next v) (g.push z)
 |_=>True
def z8d{x:DOp}(h:S3 P ops x I B)(j:x.c=.rd∨x.c=.al)(hd:qm ops x=true):(Wk P ops x).run I B=true:=by
 unfold Wk;cases g:x.o.dst with
 |none=>unfold qm at hd;rw[g]at hd;cases hd
 |some d =>
  dsimp only;cases E:(Rf ops x.o).run I with
  |false=>rfl
  |true =>
   dsimp only;unfold S3 at h;rcases j with j|j
   ·rw[j]at h;obtain⟨F,v,z,C,A⟩:=h E;rw[g]at z;cases z;rw[C,A,j];dsimp only;unfold U7;split
    ·rfl
    ·exact @Kg _ (Classical.propDecidable _) rfl
   ·rw[j]at h;obtain⟨F,v,id,M,z,C,A,H,K⟩:=h E;rw[g]at z;cases z;rw[C,K B,j];dsimp only;unfold zt8;rw[A];dsimp only;have L:U7 (Qh 30 v (Pm id (Pm B.next v))) v (Pm id (Pm B.next v))=true:=by
     unfold U7;split
     ·rfl
     ·exact @Kg _ (Classical.propDecidable _) (zua A).symm
    rw[L,H,Heap.get_push_same];dsimp only;unfold U7;split
    ·rfl
    ·exact @Kg _ (Classical.propDecidable _) rfl
def zcm{t:Nat}:∀{l:List Nat},Tw t l=false→t ∉ l
 |[],_=>N
 |a::l,h=>by
  simp only[Tw]at h;cases g:Nat.beq t a with
  |true=>rw[g]at h;cases h
  |false =>
   rw[g]at h;intro hm;rcases Ij.1 hm with rfl|hm
   ·rw[I0]at g;cases g
   ·exact zcm h hm
def Wx{x:DOp}{d:Option Nat}(h:Vc ops d x=true)(v:AV)(g:Tr AV):Qv (Sy ops x.o) (Oj d v g) g∧∀e,x.o.dst=some e→Mz (M6 e) (Oj d v g)=Mz (M6 e) g:=by
 cases d with
 |none=>exact⟨λt _ _=>rfl,λe _=>rfl⟩
 |some d =>
  unfold Vc at h;dsimp only at h;cases hm:Tw d (Sy ops x.o) with
  |true=>rw[hm]at h;cases h
  |false =>
   rw[hm]at h;dsimp only at h;refine⟨λt j _=>?_,λe z=>?_⟩
   ·show Mz (M6 t) (N8 v (M6 d) g)=_;rw[n5 (λq=>zcm hm (by rw[←q];exact j))]
   ·rw[z]at h;dsimp only at h;show Mz (M6 e) (N8 v (M6 d) g)=_;rw[n5 (λq=>by rw[q,I0]at h;cases h)]
def S3.put{x:DOp}{E:Tr AV}{H:Heap}(h:S3 P ops x E H){d:Option Nat}(ho:Vc ops d x=true)(v:AV):S3 P ops x (Oj d v E) H:=by
 obtain⟨h1,h2⟩:=Wx ho v E;have hg:=ln (o:=x.o) h1;have hc:∀H2,(Nq P x.o.op).run (Oj d v E) H2=(Nq P x.o.op).run E H2:=λH2=>z6s h1
 unfold S3 at h ⊢;cases hx:x.c with
 |rd =>
  rw[hx]at h;intro g;obtain⟨d',w,k1,k2,k3⟩:=h (by rw[←hg];exact g);exact⟨d',w,k1,by rw[h2 d' k1];exact k2,by rw[hc];exact k3⟩
 |al =>
  rw[hx]at h;intro g;obtain⟨d',w,id,ob,k1,k2,k3,k4,k5⟩:=h (by rw[←hg];exact g);exact⟨d',w,id,ob,k1,by rw[h2 d' k1];exact k2,k3,k4,λH2=>by rw[hc];exact k5 H2⟩
 |quiet=>trivial
 |ch=>trivial
def zso{x:DOp}{r:RI}(g:fu P n ops x.o=some r)(C:Tr AV):(Rf ops x.o).run C=Wp r.g C∧Re P x.o.op=some r.o∧r.d=x.o.dst:=by
 unfold fu at g;split at g
 ·cases g
 ·split at g
  ·cases g
  ·rename_i ro j;split at g
   ·rename_i z;cases g;refine⟨?_,j,rfl⟩;unfold Rf;rw[z];rfl
   ·rename_i E w z;split at g
    ·cases g
    ·rename_i t A;split at g
     ·rename_i B;cases g;refine⟨?_,j,rfl⟩;unfold Rf;rw[z];dsimp only;rw[A];dsimp only;rw[Ih (Ik B)];rfl
     ·cases g
def S3.keep{x:DOp}{li:LI}(hr:fu P n ops x.o=some li.r)(gj:li.o.ok=true){c c1:Cx}{G G1:Mu}{ρ:My}{E:Tr AV}(hs:HSim c G)(hE:Nu c ρ E)(st:Step c G c1 G1)(gg:ckL ρ G G1 (li,S7 x))
  (h:S3 P ops x E c.H):S3 P ops x E c1.H:=by
 have gC:∀{p k:Nat} {a:AV} {o:Nat},kw G G1 p→c.hd[p]?=some (k,a)→Nk a=some o→c1.H.get o=c.H.get o:=by
  intro p k a o hk e1 e2;unfold kw at hk;split at hk
  ·rename_i a1 b1 g1 g2;exact (st.st p a1 b1 k a o g1 g2 e1 e2 hk.1 hk.2).2.1
  ·exact hk.elim
 obtain⟨g1,g2,g3⟩:=zso hr E;have gD:(Rf ops x.o).run E=true→mv ρ G G1 (li,S7 x):=by
  intro g;rw[g1]at g;unfold ckL at gg;dsimp only at gg;split at gg
  ·exact gg
  ·rename_i t w hg;split at gg
   ·rename_i b hb;refine gg ?_;have ht:=hE t;rw[hb]at ht;rw[show li.r.g=li.g from rfl,hg]at g;unfold Wp at g;dsimp only at g;cases hq:Mz (M6 t) E with
    |none=>rw[hq]at g;cases g
    |some a =>
     rw[hq]at g ht;cases ht;cases b<;>cases w<;>first|rfl|cases g
   ·exact gg
 unfold S3 at h ⊢;cases hx:x.c with
 |quiet=>trivial
 |ch=>trivial
 |rd =>
  rw[hx]at h;intro g;have hc:=gD g;obtain⟨d,v,k1,k2,k3⟩:=h g;refine⟨d,v,k1,k2,?_⟩;rw[zqm (znw E) g2]at k3 ⊢;have gH:S7 x=false:=by unfold S7;rw[hx]
  unfold mv at hc;rw[gH]at hc;dsimp only at hc;have gG:∀{y:Lx},y.ok=true→∀m,(match y.ev ρ with
    |.ptr p _=>some (some p)
    |.dptr p k _=>(match G[p]? with
     |some (.dyn _ _ _ gB _)=>if k=gB then some (some p) else none
     |_=>none)
    |.cptr _ _=>some none
    |_=>(none:Option (Option Nat)))=some m→(∀p,m=some p→kw G G1 p)→∃o v i,y.r.ev (ρA E)=.ptr o v i∧c1.H.get o=c.H.get o:=by
   intro y hy m hm hk;have hv:=N5 hE hy;generalize y.ev ρ=w at hm hv;generalize y.r.ev (ρA E)=b at hv ⊢;split at hm
   ·rename_i p i;cases hm;cases hv with
    |ptr e=>exact⟨_,_,_,rfl,gC (hk p rfl) e rfl⟩
   ·rename_i p k i;split at hm
    ·rename_i l len gE gB stp hg;by_cases gF:k=gB
     ·rw[Ih gF]at hm;cases hm;cases hv with
      | @dptr _ _ _ k' o v gT hh e gK ha =>
       have:=(hs.obj p _ _ _ hg e).1;obtain⟨_,gQ,gR,room,rfl⟩:=ha J;exact⟨o,v,gT,rfl,gC (hk p rfl) e rfl⟩
     ·rw[Ig gF]at hm;cases hm
    ·cases hm
   ·cases hm;cases hv with
    |cptr hf hr hl=>exact⟨_,_,_,rfl,(st.le.fz _ hf).2⟩
   ·cases hm
  have fin:∀m,il ρ G li.o=some m→(∀p,m=some p→kw G G1 p)→N7 P (ρA E) c1.H li.r.o=.val v c1.H:=by
   intro m hm hk;have j:N7 P (ρA E) c.H li.o.r=.val v c.H:=k3;show N7 P (ρA E) c1.H li.o.r=_;unfold il at hm;split at hm
   ·rename_i y ho;rw[ho]at j gj ⊢;obtain⟨o,w,i,q1,q2⟩:=gG gj m hm hk;simp only[LOp.r,N7]at j ⊢;rw[q1]at j ⊢;dsimp only at j ⊢;rw[pd q2];split at j
    ·cases j;rfl
    ·cases j
   ·rename_i nn y ho;rw[ho]at j gj ⊢;obtain⟨o,w,i,q1,q2⟩:=gG gj m hm hk;simp only[LOp.r,N7]at j ⊢;rw[q1]at j ⊢;dsimp only at j ⊢;rw[pd q2];split at j
    ·cases j;rfl
    ·cases j
   ·rename_i y ho;rw[ho]at j gj ⊢;have hv:=N5 hE gj;simp only[LOp.r,N7]at j ⊢;generalize y.ev ρ=w at hm hv;generalize y.r.ev (ρA E)=b at hv j ⊢;have done:(∀o v i len gE room,b=.sl o v i len gE room→c1.H.get o=c.H.get o)→(match b with
      |.nilSl=>OR.val (.str 0 0) c1.H
      |.sl o v i len 1 _=>match Pg c1.H o v i len with
       |some l=>match Tz.bytesA l with
        |some n=>.val (.str len n) c1.H
        |none=>.no
       |none=>.no
      |_=>.no)=.val v c1.H:=by
     intro hh;split at j
     ·cases j;rfl
     ·rename_i o v2 i len room;have e:=hh o v2 i len 1 room rfl;show (match Pg c1.H o v2 i len with
       |some l=>match Tz.bytesA l with
        |some n=>OR.val (.str len n) c1.H
        |none=>.no
       |none=>.no)=.val v c1.H
      rw[pd e];split at j
      ·rename_i gM;split at j
       ·rename_i hb;cases j;rw[gM];dsimp only;rw[hb]
       ·cases j
      ·cases j
     ·cases j
    split at hm
    ·cases hv;exact done (λ_ _ _ _ _ _ e=>An)
    ·cases hm;cases hv with
     |lst hf gS hlen hr hl=>exact done (λ_ _ _ _ _ _ e=>by cases e;exact (st.le.fz _ hf).2)
     |lstNil=>exact done (λ_ _ _ _ _ _ e=>An)
     |lstEmp=>exact done (λ_ _ _ _ _ _ e=>An)
    ·rename_i p k;split at hm
     ·rename_i l len gE gB stp hg;by_cases gF:k=gB
      ·rw[Ih gF]at hm;cases hm;cases hv with
       | @dy _ _ k' hh _ e gK ha gO =>
        have:=(hs.obj p _ _ _ hg e).1;have gI:=ha J;exact done (λo v i len gE room eb=>gC (hk p rfl) e (by rw[←gI,eb];rfl))
      ·rw[Ig gF]at hm;cases hm
     ·cases hm
    ·cases hm
   ·cases hm
  split at hc
  ·rename_i hm;exact fin none hm (λp e=>An)
  ·rename_i p hm;exact fin (some p) hm (λp' e=>by cases e;exact hc)
  ·exact hc.elim
 |al =>
  rw[hx]at h;intro g;have hc:=gD g;obtain⟨d,v,id,ob,k1,k2,k3,k4,k5⟩:=h g;refine⟨d,v,id,ob,k1,k2,k3,?_,k5⟩;have gH:S7 x=true:=by unfold S7;rw[hx]
  unfold mv at hc;rw[gH]at hc;dsimp only at hc;have hd:li.d=some d:=by rw[←k1];exact g3
  rw[hd]at hc;dsimp only at hc;have hv:=hE d;rw[k2]at hv;split at hc
  ·rename_i p i hl;rw[hl]at hv;cases hv with
   |ptr e=>cases k3;rw[gC hc e rfl];exact k4
  ·rename_i p k hl;rw[hl]at hv;obtain⟨gL,gP⟩:=hc;split at gL
   ·rename_i l len gE gB stp hg;cases hv with
    | @dy _ _ k' hh _ e gK ha gO =>
     have:=(hs.obj p _ _ _ hg e).1;have gI:v=hh:=ha J;rw[gC gP e (by rw[←gI];exact k3)];exact k4
   ·exact gL.elim
  ·exact hc.elim
def cks_mem:∀{g:List DOp} {B:List (LI×Bool)},ul P n ops g=some (rck B)→∀{ρ:My} {G C:Mu},T8 ρ G C B→∀x∈g,∃z,fu P n ops x.o=some z.r∧(z,S7 x)∈B∧ckL ρ G C (z,S7 x)
 |[],_,_,_,_,_,_,x,j=>by simp at j
 |y::g,[],h,_,_,_,_,x,j=>by
  simp only[ul]at h;split at h
  ·cases h
  ·split at h<;>cases h
 |y::g,(z,b)::B,h,ρ,G,C,k,x,j=>by
  simp only[ul]at h;split at h
  ·cases h
  ·rename_i r F;split at h
   ·cases h
   ·rename_i M A;simp only[rck,Option.some.injEq,List.cons.injEq,Prod.mk.injEq]at h;obtain⟨⟨rfl,rfl⟩,H⟩:=h;rw[H]at A;rcases Ij.1 j with rfl|j
    ·exact⟨z,F,N,k.1⟩
    ·obtain⟨E,I,K,L⟩:=cks_mem A k.2 x j;exact⟨E,I,Bc,L⟩
def zbr{g:Type}{f:g→Bool}:∀{l:List g} {x:g},x∈Nl f l→x∈l
 |[],_,h=>h
 |a::l,x,h=>by
  simp only[Nl]at h;split at h
  ·rcases Ij.1 h with rfl|h
   ·simp
   ·exact Jc _ (zbr h)
  ·exact Jc _ (zbr h)
def zew{z:Type}{f:z→Bool}:∀{l:List z},Tv f l=true→∀x∈l,f x=true
 |[],_,x,g=>by simp at g
 |a::l,h,x,g=>by
  simp only[Tv]at h;split at h
  ·rename_i j;rcases Ij.1 g with rfl|g
   ·exact j
   ·exact zew h x g
  ·cases h
def zc1{j:Tr AV}{z:Heap}:∀{l:List DOp},(∀x∈l,(Wk P ops x).run j z=true)→(dr P ops l).run j z=true
 |[],_=>rfl
 |x::l,h=>by
  simp only[dr];rw[h x N];exact zc1 (λy g=>h y Bd)
structure Pend (P:Program) (n:Nat) (ops:Array Oper) (x:DOp):Prop where
 cls:x.c=.rd∨x.c=.al
 own:qm ops x=true
def drawGo_ok:∀{l z:List DOp} {g:List (LI×List (LI×Bool))} {c:Cx} {G:Mu} {ρ:My} {gD:Tr AV} {gM:My→Mu→Prop},kz P n ops l z=some (jc g)→(g.all λx=>x.1.o.ok&&x.2.all (·.1.o.ok))=true →
  HSim c G→Nu c ρ gD→(∀x∈z,Pend P n ops x∧S3 P ops x gD c.H)→V9 P g ρ G gM →
  ∃m X R T O,(S8 P n ops l z).run (Qr P (OL P) m) gD c.H=.ok X R.H∧HSim R O∧Step c G R O∧Nu R T X∧gM T O
 |[],z,g,c,G,ρ,gD,gM,h,_,hs,hE,_,k=>by
  cases g with
  |nil=>exact⟨0,gD,c,ρ,G,rfl,hs,.refl c G,hE,k⟩
  |cons _ _=>cases h
 |x::l,z,g,c,G,ρ,gD,gM,h,I,hs,hE,hp,k=>by
  simp only[kz]at h;split at h
  ·cases h
  ·rename_i gI;rw[H7]at gI;obtain⟨gE,C⟩:=gI;split at h
   ·cases h
   ·rename_i r hr;have gC:∀{li:LI} {cs:List (LI×Bool)} {H:List (LI×List (LI×Bool))},r=li.r→g=(li,cs)::H →
      ∃m M K ρ1 Y v,(P6 P n ops x.o).run (Qr P (OL P) m) gD c.H=.ok M K.H∧M=Oj x.o.dst v gD∧HSim K Y∧Step c G K Y∧Nu K ρ1 M∧T8 ρ G Y cs∧V9 P H ρ1 Y gM:=by
     intro li cs H e1 e2;subst e2;simp only[Ke,H7]at I;obtain⟨m,M,K,ρ1,Y,Z,q2,q3,q4,q5,q6⟩:=W5 hs hE I.1.1 (show Vv P li ρ G (λT O=>T8 ρ G O cs∧V9 P H T O gM) from k);rw[←e1,←zdv hr]at Z;obtain⟨v,w1,_⟩:=z53 Z;exact⟨m,M,K,ρ1,Y,v,Z,w1,q2,q3,q4,q5,q6⟩
    have gF:∀{v:AV},∀y∈z,S3 P ops y gD c.H→S3 P ops y (Oj x.o.dst v gD) c.H:=λy B hv=>hv.put (zew gE y B) _
    have go:∀{pend':List DOp} {H:List (LI×List (LI×Bool))} {m:Nat} {M:Tr AV} {K:Cx} {ρ1:My} {Y:Mu},kz P n ops l pend'=some (jc H)→(H.all λx=>x.1.o.ok&&x.2.all (·.1.o.ok))=true→HSim K Y→Step c G K Y→Nu K ρ1 M →
      (∀y∈pend',Pend P n ops y∧S3 P ops y M K.H)→V9 P H ρ1 Y gM→(P6 P n ops x.o).run (Qr P (OL P) m) gD c.H=.ok M K.H →
      ∃m' X R T O,(P6 P n ops x.o).run (Qr P (OL P) m') gD c.H=.ok M K.H∧(S8 P n ops l pend').run (Qr P (OL P) m') M K.H=.ok X R.H∧HSim R O∧Step c G R O∧Nu R T X∧gM T O:=by
     intro pend' H m M K ρ1 Y a1 a2 a3 a4 a5 a6 a7 a8;obtain⟨m2,X,R,T,O,b1,b2,b3,b4,b5⟩:=drawGo_ok a1 a2 a3 a5 a6 a7;exact⟨max m m2,X,R,T,O,tv (am (Ki m m2)) a8,vd (am (Li m m2)) b1,b2,.trans hs a3 a4 b3,b4,b5⟩
    cases V:x.c with
    |quiet =>
     rw[V]at h;dsimp only at h;split at h
     ·cases h
     ·rename_i rs gg;cases g with
      |nil=>cases h
      |cons it H =>
       obtain⟨li,cs⟩:=it;simp only[jc,Option.some.injEq,List.cons.injEq,Prod.mk.injEq]at h;obtain⟨⟨h1,h2⟩,h3⟩:=h;obtain⟨m,M,K,ρ1,Y,v,Z,q2,q3,q4,q5,q6,q7⟩:=gC h1 rfl;simp only[Ke,H7]at I;have hH:K.H=c.H:=by
        have hc:cls P x.o.op=.quiet:=by
         rw[V]at C;cases E:cls P x.o.op<;>rw[E]at C<;>first|rfl|cases C
        exact z58 (ua.1 hc).reads Z
       obtain⟨m',X,R,T,O,b1,b2,b3,b4,b5,b6⟩:=go (pend':=z) Ds I.2 q3 q4 q5 (λy B=>⟨(hp y B).1,by rw[hH,q2];exact gF y B (hp y B).2⟩) q7 Z;refine⟨m',X,R,T,O,?_,b3,b4,b5,b6⟩;simp only[S8];rw[V];dsimp only;rw[b1];exact b2
    |rd =>
     rw[V]at h;dsimp only at h;split at h
     ·cases h
     ·rename_i j;split at h
      ·cases h
      ·rename_i rs gg;cases g with
       |nil=>cases h
       |cons it H =>
        obtain⟨li,cs⟩:=it;simp only[jc,Option.some.injEq,List.cons.injEq,Prod.mk.injEq]at h;obtain⟨⟨h1,h2⟩,h3⟩:=h;obtain⟨m,M,K,ρ1,Y,v,Z,q2,q3,q4,q5,q6,q7⟩:=gC h1 rfl;simp only[Ke,H7]at I;have hc:cls P x.o.op=.rd:=by
         rw[V]at C;cases E:cls P x.o.op<;>rw[E]at C<;>first|rfl|cases C
        have hH:K.H=c.H:=z58 (ua.2 hc) Z;have S:S3 P ops x M K.H:=by
         unfold S3;rw[V];intro gP;unfold qm at j;cases A:x.o.dst with
         |none=>rw[A]at j;cases j
         |some d =>
          rw[A]at j;have hm:Tw d (Sy ops x.o)=false:=Bt
          have L:Qv (Sy ops x.o) M gD:=λt ht _=>by
           rw[q2,A];show Mz (M6 t) (N8 v (M6 d) gD)=_;rw[n5 (λq=>zcm hm (by rw[←q];exact ht))]
          rw[ln L]at gP;refine⟨d,v,rfl,by rw[q2,A];exact ai _ _ _,?_⟩;rw[z6s L,hH];have E:=Z;unfold P6 at E;cases gj:P7 n x.o.dst with
          |none=>rw[gj]at E;cases E
          |some pf =>
           rw[gj]at E;dsimp only at E;rw[gP]at E;dsimp only at E;have gH:=(ua.2 hc) gD c.H;cases U:(Nq P x.o.op).run gD c.H with
           |no=>rw[U]at E;cases E
           |call t a=>rw[U]at gH;cases gH
           |val w H2 =>
            rw[U]at E gH;cases gH;injection E with e1 e2
            have:=congrArg (λgD=>Mz (M6 d) gD) e1;rw[q2,(zu gj).1,A,ai,ai]at this;cases this;rfl
        obtain⟨m',X,R,T,O,b1,b2,b3,b4,b5,b6⟩:=go (pend':=x::z) Ds I.2 q3 q4 q5 (λy B=>by
         rcases Ij.1 B with rfl|B
         ·exact⟨⟨.inl V,j⟩,S⟩
         ·exact⟨(hp y B).1,by rw[hH,q2];exact gF y B (hp y B).2⟩) q7 Z
        refine⟨m',X,R,T,O,?_,b3,b4,b5,b6⟩;simp only[S8];rw[V];dsimp only;rw[b1];exact b2
    |al =>
     rw[V]at h;dsimp only at h;split at h
     ·cases h
     ·rename_i j;split at h
      ·cases h
      ·rename_i gO gG;split at h
       ·cases h
       ·rename_i rs gg;cases g with
        |nil=>cases h
        |cons it H =>
         obtain⟨li,cs⟩:=it;simp only[jc,Option.some.injEq,List.cons.injEq,Prod.mk.injEq]at h;obtain⟨⟨h1,h2⟩,h3⟩:=h;obtain⟨m,M,K,ρ1,Y,v,Z,q2,q3,q4,q5,q6,q7⟩:=gC h1 rfl;simp only[Ke,H7]at I;have hc:cls P x.o.op=.al:=by
          rw[V]at C;cases E:cls P x.o.op<;>rw[E]at C<;>first|rfl|cases C
         rw[h2]at gG;have F:∀y∈z,Pend P n ops y∧S3 P ops y M K.H:=λy B=>by
          obtain⟨gK,w1,w2,w3⟩:=cks_mem gG q6 y B;have gB:gK.o.ok=true:=I9.1 I.1.2 _ w2;refine⟨(hp y B).1,?_⟩;rw[q2];exact ((hp y B).2.keep w1 gB hs hE q4 w3).put (zew gE y B) _
         have S:S3 P ops x M K.H:=by
          unfold S3;rw[V];intro gP;unfold qm at j;cases A:x.o.dst with
          |none=>rw[A]at j;cases j
          |some d =>
           rw[A]at j;have hm:Tw d (Sy ops x.o)=false:=Bt
           have L:Qv (Sy ops x.o) M gD:=λt ht _=>by
            rw[q2,A];show Mz (M6 t) (N8 v (M6 d) gD)=_;rw[n5 (λq=>zcm hm (by rw[←q];exact ht))]
           rw[ln L]at gP;have E:=Z;unfold P6 at E;cases gj:P7 n x.o.dst with
           |none=>rw[gj]at E;cases E
           |some pf =>
            rw[gj]at E;dsimp only at E;rw[gP]at E;dsimp only at E;cases U:(Nq P x.o.op).run gD c.H with
            |no=>rw[U]at E;cases E
            |call t a =>
             exfalso;have:=zpg (o:=x.o) hc gD c.H;rw[U]at this;exact this
            |val w H2 =>
             rw[U]at E;injection E with e1 e2
             have:=congrArg (λgD=>Mz (M6 d) gD) e1;rw[q2,(zu gj).1,A,ai,ai]at this;cases this;obtain⟨ob,u1,u2,u3⟩:=nq hc U;refine⟨d,_,c.H.next,ob,rfl,by rw[q2,A];exact ai _ _ _,u2,?_,λH3=>by rw[z6s L];exact u3 H3⟩;rw[←e2,u1];exact Heap.get_push_same _ _
         obtain⟨m',X,R,T,O,b1,b2,b3,b4,b5,b6⟩:=go (pend':=x::z) Ds I.2 q3 q4 q5 (λy B=>by
          rcases Ij.1 B with rfl|B
          ·exact⟨⟨.inr V,j⟩,S⟩
          ·exact F y B) q7 Z
         refine⟨m',X,R,T,O,?_,b3,b4,b5,b6⟩;simp only[S8];rw[V];dsimp only;rw[b1];dsimp only;rw[zc1 (λy B=>by
          rcases Ij.1 B with rfl|B
          ·exact z8d S (.inr V) j
          ·exact z8d (F y B).2 (F y B).1.cls (F y B).1.own)]
         exact b2
    |ch =>
     rw[V]at h;dsimp only at h;split at h
     ·cases h
     ·rename_i gO gG;split at h
      ·cases h
      ·rename_i rs gg;cases g with
       |nil=>cases h
       |cons it H =>
        obtain⟨li,cs⟩:=it;simp only[jc,Option.some.injEq,List.cons.injEq,Prod.mk.injEq]at h;obtain⟨⟨h1,h2⟩,h3⟩:=h;obtain⟨m,M,K,ρ1,Y,v,Z,q2,q3,q4,q5,q6,q7⟩:=gC h1 rfl;simp only[Ke,H7]at I;rw[h2]at gG;have F:∀y∈Nl (λy=>!(Nat.testBit x.m y.i)) z,Pend P n ops y∧S3 P ops y M K.H:=λy B=>by
         have gL:=zbr B;obtain⟨gK,w1,w2,w3⟩:=cks_mem gG q6 y B;have gB:gK.o.ok=true:=I9.1 I.1.2 _ w2;refine⟨(hp y gL).1,?_⟩;rw[q2];exact ((hp y gL).2.keep w1 gB hs hE q4 w3).put (zew gE y gL) _
        obtain⟨m',X,R,T,O,b1,b2,b3,b4,b5,b6⟩:=go (pend':=Nl (λy=>!(Nat.testBit x.m y.i)) z) Ds I.2 q3 q4 q5 F q7 Z;refine⟨m',X,R,T,O,?_,b3,b4,b5,b6⟩;simp only[S8];rw[V];dsimp only;rw[b1];dsimp only;rw[zc1 (λy B=>z8d (F y B).2 (F y B).1.cls (F y B).1.own)];exact b2
end draw
section rule
variable {P : Program} {f n : Nat} {ro : Option Nat} {ρ : My} {D : List Nat} {G : Mu} {Q : O6}
def qp{l:List (LI×List (LI×Bool))}(h:V9 P l ρ G λj z=>Q .normal j D z):W P f n (.draw l) ro ρ D G Q:=by
 intro A c Y C E F H I K L X;obtain⟨id,ops,rfl,g⟩:=Yj F;unfold zoq at g;dsimp only at g;split at g
 ·rename_i hd;obtain⟨m,M,O,j,z,R,S,B,T,U⟩:=drawGo_ok g H I K (λx V=>by simp at V) h;refine⟨m,.normal,M,C,O,j,D,z,?_,S,B,T,L.mono B.le,U⟩;simp only[O7,rz];rw[hd];dsimp only;rw[R]
 ·cases g
end rule
end
end
section
mutual
def LV.dat:LV→Bool
 |.any=>true
 |.bool _ |.u _ |.b _ |.i _ |.int _ _ |.str _ |.nilPtr |.nilSl |.nilMap |.nilFn |.nilIf=>true
 |.cptr l _=>dats l
 |.lst l _ _=>dats l
 |.fn (.func _) l r=>dats l&&dats r
 |.iface _ v=>v.dat
 |.agg l=>dats l
 |.tup l=>dats l
 |_=>false
def dats:List LV→Bool
 |[]=>true
 |v::l=>v.dat&&dats l
end
mutual
def AR.dat{c c':Cx}(gg:∀o,c.Fz o→c'.Fz o∧c'.H.get o=c.H.get o)(v:LV)(a:AV)(hd:v.dat=true)(h:AR c v a):AR c' v a:=by
 cases v with
 |cptr l i =>
  simp only[LV.dat]at hd;cases h with
  |cptr hf hr hl=>exact .cptr (gg _ hf).1 (by rw[pd (gg _ hf).2];exact hr) (ARs.dat gg l _ hd hl)
 |lst l len gB =>
  simp only[LV.dat]at hd;cases h with
  |lst hf gj hlen hr hl=>exact .lst (gg _ hf).1 gj hlen (by rw[pd (gg _ hf).2];exact hr) (ARs.dat gg l _ hd hl)
  |lstNil=>exact .lstNil
  |lstEmp=>exact .lstEmp
 |fn f l r =>
  cases f with
  |func f =>
   simp only[LV.dat,H7]at hd;cases h with
   |fn hl hr=>exact .fn (ARs.dat gg l _ hd.1 hl) (ARs.dat gg r _ hd.2 hr)
  |_=>simp[LV.dat]at hd
 |iface t w =>
  simp only[LV.dat]at hd;cases h with
  |iface h=>exact .iface (AR.dat gg w _ hd h)
 |agg l =>
  simp only[LV.dat]at hd;cases h with
  |agg h=>exact .agg (ARs.dat gg l _ hd h)
 |tup l =>
  simp only[LV.dat]at hd;cases h with
  |tup h=>exact .tup (ARs.dat gg l _ hd h)
 |any=>exact .any a
 |_=>first|(simp only[LV.dat]at hd;cases hd;done)|(cases h;constructor)
termination_by SizeOf.sizeOf v
def ARs.dat{c c':Cx}(gg:∀o,c.Fz o→c'.Fz o∧c'.H.get o=c.H.get o)(l:List LV)(r:List AV)(hd:dats l=true)(h:ARs c l r):ARs c' l r:=by
 cases l with
 |nil=>cases h;exact .nil
 |cons v l =>
  simp only[dats,H7]at hd;cases h with
  |cons e es=>exact .cons (AR.dat gg v _ hd.1 e) (ARs.dat gg l _ hd.2 es)
termination_by SizeOf.sizeOf l
end
def dats_app:∀{l r:List LV},dats l=true→dats r=true→dats (l++r)=true
 |[],_,_,h=>h
 |v::l,r,h,k=>by
  simp only[dats,H7]at h;simp only[Jh,dats,H7];exact⟨h.1,dats_app h.2 k⟩
def dats_take:∀{l:List LV} (n:Nat),dats l=true→dats (l.take n)=true
 |_,0,_=>by simp[dats]
 |[],n+1,_=>by simp[dats]
 |v::l,n+1,h=>by
  simp only[dats,H7]at h;simp only[List.take_succ_cons,dats,H7];exact⟨h.1,dats_take n h.2⟩
def dats_drop:∀{l:List LV} (n:Nat),dats l=true→dats (l.drop n)=true
 |_,0,h=>h
 |[],n+1,_=>by simp[dats]
 |v::l,n+1,h=>by
  simp only[dats,H7]at h;simp only[Lh];exact dats_drop n h.2
def Wi{g:Type}{f:g→LV}(h:∀a,(f a).dat=true):∀l:List g,dats (l.map f)=true
 |[]=>rfl
 |a::l=>by simp only[Kd,dats,H7];exact⟨h a,Wi h l⟩
mutual
def bor(G:Mu):LV→LV→Prop
 |.dy p k,d=>∃l len gg st,d=.lst l len gg∧G[p]?=some (.dyn l len gg k st)∧dats l=true
 |.vw p k lo len,d=>∃l gj gg st,d=.lst ((l.drop (lo*gg)).take (len*gg)) len gg∧G[p]?=some (.dyn l gj gg k st)∧lo*gg+len*gg≤l.length∧dats l=true
 |.nilSl,d=>d=.nilSl∨∃gg,d=.lst [] 0 gg
 |.agg l,d=>∃r,d=.agg r∧bors G l r
 |v,d=>d=v∧v.dat=true
def bors(G:Mu):List LV→List LV→Prop
 |[],r=>r=[]
 |v::l,r=>∃d r',r=d::r'∧bor G v d∧bors G l r'
end
section calls
variable {P : Program} {c : Cx} {G : Mu}
def cw{v d:LV}{a:AV}(g:d=v∧v.dat=true)(h:AR c v a):AR ⟨[],λo=>c.Fz o∨Ot c G o,c.H⟩ d a:=by
 obtain⟨rfl,hd⟩:=g;exact AR.dat (c':=⟨[],λo=>c.Fz o∨Ot c G o,c.H⟩) (λo j=>⟨Or.inl j,rfl⟩) d a hd h
mutual
def bor_ok(hs:HSim c G)(v d:LV)(a:AV)(hb:bor G v d)(h:AR c v a):AR ⟨[],λo=>c.Fz o∨Ot c G o,c.H⟩ d a:=by
 cases v with
 |dy p k =>
  simp only[bor]at hb;obtain⟨l,len,gg,st,rfl,hg,hd⟩:=hb;cases h with
  | @dy _ _ k' hh _ e hk ha _ =>
   have gD:=hs.obj p _ _ _ hg e;obtain⟨r0,r1,r2⟩:=gD;have gB:=ha J;rcases r2 with ⟨r2,r3⟩|⟨o,v,room,t,gC,l',r2,r3,r4,r5,r6,r7,r8⟩
   ·subst r3;have:l=[]:=Iu D4;subst this;rw[gB,r2];exact .lstNil
   ·have gK:l'.length=len*gg:=Ei
    have hr:=Tf (i:=0) (n:=len*gg) r3 r5 r4 J;rw[Jt,Io J]at hr;rw[gB,r2];exact .lst (.inr ⟨p,_,_,_,hg,rfl,e,by rw[r2];rfl⟩) (λr e=>(r7 r e).2) r1 hr (ARs.dat (c':=⟨[],λo=>c.Fz o∨Ot c G o,c.H⟩) (λo ho=>⟨Or.inl ho,rfl⟩) l l' hd r6)
 |vw p k lo len =>
  simp only[bor]at hb;obtain⟨l,gH,gg,st,rfl,hg,hle,hd⟩:=hb;cases h with
  | @vw _ _ _ _ k' hh _ e hk ha _ _ =>
   have gL:=(hs.obj p _ _ _ hg e).1;rcases ha J with ⟨r3,r4⟩|⟨o,v,gI,gj,room,gE,r3,r4,r9⟩
   ·subst r3;simp only[Kq,Mr];rcases r4 with rfl|⟨rfl,_⟩
    ·exact .lstNil
    ·exact .lstEmp
   ·have e2:=e;rw[r3]at e2;obtain⟨_,q1,q2,q3,t,gC,l',q4,q5,q6,q7,_⟩:=Yo hs hg e2;subst q2 q3;have hr:=Tf (i:=lo*gj) (n:=len*gj) q4 q6 q5 J;rw[r4];refine .lst (.inr ⟨p,_,_,_,hg,rfl,e,by rw[r3];rfl⟩) r9 Ab hr ?_;exact ((ARs.dat (c':=⟨[],λo=>c.Fz o∨Ot c G o,c.H⟩) (λo ho=>⟨Or.inl ho,rfl⟩) l l' hd q7).drop _).take _
 |nilSl =>
  simp only[bor]at hb;cases h;rcases hb with rfl|⟨gg,rfl⟩
  ·exact .nilSl
  ·exact .lstNil
 |agg l =>
  simp only[bor]at hb;obtain⟨r,rfl,hb⟩:=hb;cases h with
  |agg h=>exact .agg (bors_ok hs l r _ hb h)
 |_=>exact cw (by simpa only[bor] using hb) h
termination_by SizeOf.sizeOf v
def bors_ok(hs:HSim c G)(l r:List LV)(as:List AV)(hb:bors G l r)(h:ARs c l as):ARs ⟨[],λo=>c.Fz o∨Ot c G o,c.H⟩ r as:=by
 cases l with
 |nil=>simp only[bors]at hb;subst hb;cases h;exact .nil
 |cons v l =>
  simp only[bors]at hb;obtain⟨d,r',rfl,gF,gG⟩:=hb;cases h with
  |cons e es=>exact .cons (bor_ok hs v d _ gF e) (bors_ok hs l r' _ gG es)
termination_by SizeOf.sizeOf l
end
mutual
def shV(n:Nat):LV→LV
 |.dy j k=>.dy (n+j) k
 |.agg l=>.agg (shVs n l)
 |.tup l=>.tup (shVs n l)
 |v=>v
def shVs(n:Nat):List LV→List LV
 |[]=>[]
 |v::l=>shV n v::shVs n l
end
mutual
def frV(j:Mu):LV→LV
 |.dy gj _=>match j[gj]? with
  |some (.dyn l len gg _ _)=>.lst l len gg
  |_=>.any
 |.agg l=>.agg (frVs j l)
 |.tup l=>.tup (frVs j l)
 |v=>v
def frVs(j:Mu):List LV→List LV
 |[]=>[]
 |v::l=>frV j v::frVs j l
end
mutual
def sh_AR{c0 c':Cx}{n m:Nat}(h:∀gg a,gg<m→AR c0 (.dy gg 0) a→AR c' (.dy (n+gg) 0) a)(v:LV)(a:AV)(j:v.sim m=true)(ha:AR c0 v a):AR c' (shV n v) a:=by
 cases v with
 |dy gg k =>
  simp only[LV.sim,H7,L9,Ii]at j;obtain⟨rfl,hj⟩:=j;exact h gg a hj ha
 |agg l =>
  simp only[LV.sim]at j;cases ha with
  |agg ha=>simp only[shV];exact .agg (sh_ARs h l _ j ha)
 |tup l =>
  simp only[LV.sim]at j;cases ha with
  |tup ha=>simp only[shV];exact .tup (sh_ARs h l _ j ha)
 |_=>first|(simp only[LV.sim]at j;cases j;done)|(simp only[shV];cases ha;constructor)
termination_by SizeOf.sizeOf v
def sh_ARs{c0 c':Cx}{n m:Nat}(h:∀gg a,gg<m→AR c0 (.dy gg 0) a→AR c' (.dy (n+gg) 0) a)(l:List LV)(r:List AV)(j:sims m l=true)(ha:ARs c0 l r):ARs c' (shVs n l) r:=by
 cases l with
 |nil=>cases ha;simp only[shVs];exact .nil
 |cons v l =>
  simp only[sims,H7]at j;cases ha with
  |cons e es=>simp only[shVs];exact .cons (sh_AR h v _ j.1 e) (sh_ARs h l _ j.2 es)
termination_by SizeOf.sizeOf l
end
mutual
def fr_AR{c0 c':Cx}{G0:Mu}(h:∀gg a,gg<G0.length→AR c0 (.dy gg 0) a→AR c' (frV G0 (.dy gg 0)) a)(v:LV)(a:AV)(j:v.sim G0.length=true)(ha:AR c0 v a):AR c' (frV G0 v) a:=by
 cases v with
 |dy gg k =>
  simp only[LV.sim,H7,L9,Ii]at j;obtain⟨rfl,hj⟩:=j;exact h gg a hj ha
 |agg l =>
  simp only[LV.sim]at j;cases ha with
  |agg ha=>simp only[frV];exact .agg (fr_ARs h l _ j ha)
 |tup l =>
  simp only[LV.sim]at j;cases ha with
  |tup ha=>simp only[frV];exact .tup (fr_ARs h l _ j ha)
 |_=>first|(simp only[LV.sim]at j;cases j;done)|(simp only[frV];cases ha;constructor)
termination_by SizeOf.sizeOf v
def fr_ARs{c0 c':Cx}{G0:Mu}(h:∀gg a,gg<G0.length→AR c0 (.dy gg 0) a→AR c' (frV G0 (.dy gg 0)) a)(l:List LV)(r:List AV)(j:sims G0.length l=true)(ha:ARs c0 l r):ARs c' (frVs G0 l) r:=by
 cases l with
 |nil=>cases ha;simp only[frVs];exact .nil
 |cons v l =>
  simp only[sims,H7]at j;cases ha with
  |cons e es=>simp only[frVs];exact .cons (fr_AR h v _ j.1 e) (fr_ARs h l _ j.2 es)
termination_by SizeOf.sizeOf l
end
def M5{f:Nat}{j:List LV}(hc:Nf P f j O M)(hb:bors G Y j)(k:S (frV M O) G):Pz P (.fn f) Y G S:=by
 obtain⟨ht,Q,hG,R⟩:=hc;refine⟨ht,λc t1 D A T ha=>?_⟩;cases t1 with
 |yield o=>exact T.elim
 |fn gG =>
  obtain rfl:f=gG:=T;obtain⟨m,v1,F,H,q1,q2,q3,q4,q5,q6⟩:=R (λo=>c.Fz o∨Ot c G o) c.H D (λo g=>g.elim (A.fz o) (A.lt o)) (bors_ok A Y j D hb ha);have U:CxLe c ⟨c.hd,λo=>c.Fz o∨Ot ⟨F,λo=>c.Fz o∨Ot c G o,H⟩ M o,H⟩:=⟨λp k h e=>⟨k,h,e,Ie _,λ_=>rfl,λ_=>rfl⟩,λo g=>⟨.inl g,q5 o (A.fz o g)⟩⟩;have z:∀o,Ot ⟨c.hd,λo=>c.Fz o∨Ot ⟨F,λo=>c.Fz o∨Ot c G o,H⟩ M o,H⟩ G o→Ot c G o:=λo ⟨p,B,k,h,E,C,V,X⟩=>⟨p,B,k,h,E,C,V,X⟩
  refine⟨m,v1,H,q1,⟨c.hd,λo=>c.Fz o∨Ot ⟨F,λo=>c.Fz o∨Ot c G o,H⟩ M o,H⟩,frV M O,G,rfl,?_,?_,?_,k⟩
  ·refine⟨A.len,λo g=>?_,λo g=>Ix (A.lt o (z o g)) q4,λo g Z=>?_,λp B k h E C=>?_,λp q B I k h k' h' o E C V X e5 e6 e7 e8=>A.excl p q B I k h k' h' o E C V X e5 e6 e7 e8⟩
   ·rcases g with g|g
    ·exact Ix (A.fz o g) q4
    ·exact q2.lt o g
   ·rcases Z with Z|Z
    ·exact A.sep o (z o g) Z
    ·have:=q6 o Z;have:=A.lt o (z o g);omega
   ·by_cases hl:B.live=true
    ·exact (A.obj p B k h E C).mono U (λo g=>q5 o (A.lt o ⟨p,B,k,h,E,hl,C,g⟩))
    ·cases B<;>first|exact absurd rfl hl|trivial
  ·refine⟨U,q4,λo g _=>q5 o g,λo g=>.inl (z o g),λo g=>g.elim .inl (λh=>.inr (.inr (q6 o h))),λp B I E C=>?_,λp B I k h o E C V X e5 e6=>?_⟩
   ·rw[E]at C;cases C;exact Ie _
   ·rw[E]at C;cases C;have hl:B.live=true:=by cases B<;>first|rfl|cases e5
    exact⟨rfl,q5 o (A.lt o ⟨p,B,k,h,E,hl,V,X⟩),rfl⟩
  ·refine fr_AR (λgE a hj h=>?_) O v1 Q q3;obtain⟨l,len,K,gj,gB⟩:=hG gE _ (H8 hj);have hg:M[gE]?=some (.dyn l len K 0 0):=by rw[H8 hj,gj]
   simp only[frV];rw[hg];dsimp only;cases h with
   | @dy _ _ k' hh _ e hk ha _ =>
    obtain⟨r0,r1,L⟩:=q2.obj gE _ _ _ hg e;have gg:=ha J;rcases L with ⟨L,r3⟩|⟨o,v,gC,t,gD,l',L,r3,r4,r5,r6,r7,r8⟩
    ·subst r3;have:l=[]:=Iu D4;subst this;rw[gg,L];exact .lstNil
    ·have gF:l'.length=len*K:=Ei
     have hr:=Tf (i:=0) (n:=len*K) r3 r5 r4 J;rw[Jt,Io J]at hr;rw[gg,L];exact .lst (.inr ⟨gE,_,_,_,hg,rfl,e,by rw[L];rfl⟩) (λr e=>(r7 r e).2) r1 hr (zd8 gB r6)
def d6{f:Nat}{E:List LV}(hc:Nf P f E O M)(hb:bors G Y E)(k:S (shV G.length O) (G++M)):Pz P (.fn f) Y G S:=by
 obtain⟨ht,gg,hG,gj⟩:=hc;refine⟨ht,λc t1 Q j gB ha=>?_⟩;cases t1 with
 |yield o=>exact gB.elim
 |fn gK =>
  obtain rfl:f=gK:=gB;obtain⟨m,v1,A,V,q1,X,q3,q4,q5,q6⟩:=gj (λo=>c.Fz o∨Ot c G o) c.H Q (λo D=>D.elim (j.fz o) (j.lt o)) (bors_ok j Y E Q hb ha);have gC:∀(p k:Nat) (h:AV),c.hd[p]?=some (k,h)→(c.hd++A)[p]?=some (k,h):=λp k h e=>by
   rw[Ib (H5.1 e).1];exact e
  have gD:CxLe c ⟨c.hd++A,c.Fz,V⟩:=⟨λp k h e=>⟨k,h,gC p k h e,Ie _,λ_=>rfl,λ_=>rfl⟩,λo D=>⟨D,q5 o (j.fz o D)⟩⟩;have U:A.length=M.length:=X.len;have H:∀(p:Nat) (k:Nat) (h:AV) (g:LObj),(c.hd++A)[p]?=some (k,h)→(G++M)[p]?=some g→(c.hd[p]?=some (k,h)∧G[p]?=some g)∨(G.length≤p∧A[p-G.length]?=some (k,h)∧M[p-G.length]?=some g):=by
   intro p k h g B C;by_cases hp:p<G.length
   ·rw[Ib hp]at C;rw[Ib (by rw[j.len];exact hp)]at B;exact .inl ⟨B,C⟩
   ·rw[In J]at C;rw[In (by rw[j.len];omega),j.len]at B;exact .inr ⟨J,B,C⟩
  have F:∀(p k:Nat) (h:AV) (z:LObj) (o:Nat),A[p]?=some (k,h)→M[p]?=some z→z.live=true→Nk h=some o→Ot ⟨A,λo=>c.Fz o∨Ot c G o,V⟩ M o:=λp k h z o B C K R=>⟨p,z,k,h,C,K,B,R⟩
  have T:∀o,Ot ⟨c.hd++A,c.Fz,V⟩ (G++M) o→Ot c G o∨(c.H.next≤o∧o<V.next):=by
   rintro o ⟨p,g,k,h,B,C,K,R⟩;rcases H p k h g K B with ⟨q1,X⟩|⟨_,L,I⟩
   ·exact .inl ⟨p,g,k,h,X,C,q1,R⟩
   ·have:=F _ k h g o L I C R;exact .inr ⟨q6 o this,X.lt o this⟩
  refine⟨m,v1,V,q1,⟨c.hd++A,c.Fz,V⟩,shV G.length O,G++M,rfl,?_,?_,?_,k⟩
  ·refine⟨by simp[j.len,U],λo D=>Ix (j.fz o D) q4,λo D=>?_,λo D hf=>?_,λp z k h B C=>?_,λp q z g k h Z h' o B C K R e5 e6 e7 e8=>?_⟩
   ·rcases T o D with h|h
    ·exact Ix (j.lt o h) q4
    ·exact h.2
   ·rcases T o D with h|h
    ·exact j.sep o h hf
    ·have:=j.fz o hf;omega
   ·rcases H p k h z C B with ⟨L,I⟩|⟨_,L,I⟩
    ·by_cases hl:z.live=true
     ·exact (j.obj p z k h I L).mono gD (λo D=>q5 o (j.lt o ⟨p,z,k,h,I,hl,L,D⟩))
     ·cases z<;>first|exact absurd rfl hl|trivial
    ·obtain⟨l,len,gI,rfl,gG⟩:=hG _ _ I;obtain⟨s0,s1,s2⟩:=X.obj _ _ _ _ I L;refine⟨s0,s1,?_⟩;rcases s2 with s2|⟨o,v,gE,t,gF,l',s2,s3,s4,s5,s6,s7⟩
     ·exact .inl s2
     ·exact .inr ⟨o,v,gE,t,gF,l',s2,s3,s4,s5,zd8 gG s6,s7⟩
   ·rcases H p k h z e5 B with ⟨L,I⟩|⟨hp,L,I⟩<;>rcases H q Z h' g e6 C with ⟨r3,r4⟩|⟨hq,r3,r4⟩
    ·exact j.excl p q z g k h Z h' o I r4 K R L r3 e7 e8
    ·have:=j.lt o ⟨p,z,k,h,I,K,L,e7⟩;have:=q6 o (F _ _ _ _ o r3 r4 R e8);omega
    ·have:=j.lt o ⟨q,g,Z,h',r4,R,r3,e8⟩;have:=q6 o (F _ _ _ _ o L I K e7);omega
    ·have:=X.excl _ _ z g k h Z h' o I r4 K R L r3 e7 e8;omega
  ·refine⟨gD,q4,λo D _=>q5 o D,λo D=>(T o D).elim .inl (λh=>.inr h.1),λo D=>.inl D,λp z g B C=>?_,λp z g k h o B C K R e5 e6=>?_⟩
   ·rw[Ib (H5.1 B).1,B]at C;cases C;exact Ie _
   ·rw[Ib (H5.1 B).1,B]at C;cases C;have hl:z.live=true:=by cases z<;>first|rfl|cases e5
    exact⟨rfl,q5 o (j.lt o ⟨p,z,k,h,B,hl,K,R⟩),by rw[gC p k h K,K]⟩
  ·refine sh_AR (λgL a hj h=>?_) O v1 gg q3;cases h with
   | @dy _ _ Z hh _ e hk ha gH =>
    exact .dy (k':=Z) (h:=hh) (by dsimp only;rw[In (by rw[j.len];omega),j.len,Nat.add_sub_cancel_left];exact e) hk ha gH
end calls
end
section
section rules
variable {P : Program} {f n : Nat} {ρ : My} {D : List Nat} {G : Mu} {Q : O6}
end rules
end
section
noncomputable section
def wp(P:Program)(f n:Nat)(ro:Option Nat):LC→My→List Nat→Mu→O6→Prop
 |.skip,ρ,D,G,Q=>Q .normal ρ D G
 |.ops l,ρ,D,G,Q=>Sg P l ρ G λρ' G'=>Q .normal ρ' D G'
 |.seq a b,ρ,D,G,Q=>wp P f n ro a ρ D G λx ρ' j G'=>match x with
  |.normal=>wp P f n ro b ρ' j G' Q
  |x=>Q x ρ' j G'
 |.cond x a b,ρ,D,G,Q=>u7 (x.ev ρ) (wp P f n ro a ρ D G Q) (wp P f n ro b ρ D G Q)
 |.block id c,ρ,D,G,Q=>wp P f n ro c ρ D G λx ρ' j G'=>match x with
  |.exit i=>if i=id then Q .normal ρ' j G' else Q (.exit i) ρ' j G'
  |x=>Q x ρ' j G'
 |.draw l,ρ,D,G,Q=>V9 P l ρ G λρ' G'=>Q .normal ρ' D G'
 |.exit id,ρ,D,G,Q=>Q (.exit id) ρ D G
 |.scope c,ρ,D,G,Q=>wp P f n ro c ρ D G Q
 |.label,ρ,D,G,Q=>Q .normal ρ D G
 |.ret,ρ,D,G,Q=>Q .ret ρ D G
 |.stuck,_,_,_,_=>False
 |s,ρ,D,G,Q=>W P f n s ro ρ D G Q
def bx(P:Program)(f n:Nat)(ro:Option Nat)(b:LC)(Q:O6):O6:=λx ρ' j G'=>match x with
  |.normal=>wp P f n ro b ρ' j G' Q
  |x=>Q x ρ' j G'
def gq(id:Nat)(Q:O6):O6:=λx ρ' j G'=>match x with
  |.exit i=>if i=id then Q .normal ρ' j G' else Q (.exit i) ρ' j G'
  |x=>Q x ρ' j G'
def zo(Nx:My→List Nat→Mu→Prop)(Q:O6):O6:=λx ρ' j G'=>match x with
  |.normal=>Nx ρ' j G'
  |x=>Q x ρ' j G'
def su(K:LV→Mu→Prop)(G:Mu):List LV→Prop:=λvs=>K (T1 vs) G
def ie(ρ:My)(rs:List RRes)(K:LV→Mu→Prop):Mu→Prop:=λj=>Qk ρ j rs (su K j)
def pz (rs : List RRes) (K : LV → Mu → Prop) : O6 := fun x ρ D G' => match x with
   |.exit _=>False
   |_=>js D G' (ie ρ rs K)
def n9(Q:O6)(D:List Nat):My→Mu→Prop:=λρ G=>Q .normal ρ D G
def wr(P:Program)(l:List LI)(K:My→Mu→Prop):My→Mu→Prop:=λρ' G'=>Sg P l ρ' G' K
def dx(ρ:My)(d:Option Nat)(K:My→Mu→Prop):LV→Mu→Prop:=λv G'=>K (Q8 ρ d v) G'
def Uc(K:LV→Mu→Prop)(G:Mu):LV→Prop:=λv=>K v G
def drK(P:Program)(cs:List (LI×Bool))(l:List (LI×List (LI×Bool)))(ρ:My)(G:Mu)(K:My→Mu→Prop):My→Mu→Prop:=λρ' G'=>T8 ρ G G' cs∧V9 P l ρ' G' K
def x7(ρ:My)(t:Nat)(K:List LV→Prop):List LV→Prop:=λvs=>K (lk ρ t::vs)
def sn(v:LV)(K:List LV→Prop):List LV→Prop:=λvs=>K (v::vs)
def cnK(ρ:My)(G:Mu)(l:List RRes)(K:List LV→Prop):List LV→Prop:=λcs=>Qk ρ G l (sn (.agg cs) K)
def Ta{P:Program}{f n:Nat}{ro:Option Nat}:∀(s:LC) {ρ:My} {D:List Nat} {G:Mu} {Q:O6},wp P f n ro s ρ D G Q→W P f n s ro ρ D G Q
 |.skip,_,_,_,_,h=>ot h
 |.ops l,_,_,_,_,h=>xo h
 |.seq a b,_,_,_,_,h=>W_seq ((Ta a h).post λx ρ D G k=>by
  cases x with
  |normal=>exact Ta b k
  |exit i=>exact k
  |ret=>exact k)
 |.cond x a b,ρ,_,_,_,h=>by
  simp only[wp]at h;obtain⟨t,j,h⟩:=Xr h;exact qj j (λe=>Ta a (h.1 e)) (λe=>Ta b (h.2 e))
 |.block id c,_,_,_,_,h=>gk (Ta c h)
 |.exit id,_,_,_,_,h=>pq h
 |.scope c,_,_,_,_,h=>ew (Ta c h)
 |.label,_,_,_,_,h=>eq h
 |.ret,_,_,_,_,h=>W_ret h
 |.stuck,_,_,_,_,h=>h.elim
 |.draw l,_,_,_,_,h=>qp h
 |.loop c,_,_,_,_,h=>h
 |.rangeF g ps a b,_,_,_,_,h=>h
section rules
variable {P : Program}
def M2{f:Nat}{s:LC}{n:Nat}{rs:List RRes}(C:M4 P f=some ⟨n,s.r,rs⟩)(j:s.ok=true){G:Mu}{K:LV→Mu→Prop}(E:Y.length≤n)
  (h:wp P f n none s (aa Y 0) [] G (pz rs K)):Pz P (.fn f) Y G K :=
 zsd C j E ((Ta s h).post λx ρ D G' k=>by
  cases x with
  |normal=>exact⟨trivial,k⟩
  |exit i=>exact k.elim
  |ret=>exact⟨trivial,k⟩)
def Nf.val{f:Nat}{args:List LV}{v0:LV}(j:v0.sim 0=true)(h:Pz P (.fn f) args [] λv _=>v=subV [] v0):Nf P f args v0 [] :=
 .mk j (h.mono λv G e=>⟨[],e,rfl,trivial⟩) (λgg ob e=>B4)
def zuv{f n:Nat}{ro:Option Nat}{ρ:My}{D:List Nat}{G:Mu}{Q:O6}{s:LC}(I:My→List Nat→Mu→Nat→Prop){N:Nat}(C:I ρ D G N)
  (h:∀N ρ D G,I ρ D G N→wp P f n ro s ρ D G (zo (λρ' E G'=>∃j,j<N∧I ρ' E G' j) Q)):W P f n (.loop s) ro ρ D G Q :=
 Z0 I C λN ρ D G k=>Ta s (h N ρ D G k)
def Nm{f n:Nat}{ro:Option Nat}{ρ:My}{D:List Nat}{G:Mu}{Q:O6}{s:LC}(I:My→List Nat→Mu→Nat→Prop){N:Nat}(E:I ρ D G N)
  (h:∀(N:Nat) (ρ:My) (D:List Nat) (G:Mu),I ρ D G N→∀Nx:My→List Nat→Mu→Prop,(∀(ρ':My) (C:List Nat) (G':Mu),(∃j,j<N∧I ρ' C G' j)→Nx ρ' C G')→wp P f n ro s ρ D G (zo Nx Q)):W P f n (.loop s) ro ρ D G Q :=
 Z0 I E λN ρ D G k=>Ta s (h N ρ D G k (λρ' C G'=>∃j,j<N∧I ρ' C G' j) λ_ _ _ e=>e)
end rules
section congr
variable {P : Program} {ρ ρ' : My} {G G' : Mu} {x x' y y' : LV} {K : LV → Mu → Prop} {Kv : LV → Prop}
@[congr] theorem W_congr {f n:Nat} {s:LC} {ro:Option Nat} {D:List Nat} {Q:O6} (j:ρ=ρ') (C:G=G'):W P f n s ro ρ D G Q=W P f n s ro ρ' D G' Q:=Cd
@[congr] theorem xh {f n:Nat} {s:LC} {ro:Option Nat} {D:List Nat} {Q:O6} (j:ρ=ρ') (C:G=G'):wp P f n ro s ρ D G Q=wp P f n ro s ρ' D G' Q:=Cd
@[congr] theorem ja {t:LTgt} {a:List LV} (j:a=Y) (C:G=G'):Pz P t a G K=Pz P t Y G' K:=Cd
@[congr] theorem pt {op:BinOp} {g:Bool} {t:TypeId} (j:x=x') (C:y=y'):Q7 P op g t x y Kv=Q7 P op g t x' y' Kv:=Cd
@[congr] theorem vn {op:UnOp} (j:x=x'):oz op x Kv=oz op x' Kv:=Fl
@[congr] theorem uw {k:IntKind} (j:x=x'):ft k x Kv=ft k x' Kv:=Fl
@[congr] theorem i9 {n:Nat} {K:List LV→Prop} (j:G=G') (C:x=x'):Ud G x n K=Ud G' x' n K:=Cd
@[congr] theorem ko (j:G=G') (C:x=x'):Ui G x Kv=Ui G' x' Kv:=Cd
@[congr] theorem oi {l:List LV} {i:Nat} (C:l=Y) (E:i=j):N6 l i Kv=N6 Y j Kv:=by rw[C,E]
@[congr] theorem c8 {r:List LV} {K:Mu→Prop} (j:G=G') (C:x=x') (E:r=Y):Tn G x r K=Tn G' x' Y K:=C8
@[congr] theorem nv {n:Nat} {K:Nat→List LV→Prop} (j:G=G') (C:x=x'):Ra G n x K=Ra G' n x' K:=Cd
@[congr] theorem sa {K:Nat→Prop} (j:G=G') (C:x=x'):lenL G x K=lenL G' x' K:=Cd
@[congr] theorem ry {size n n':Nat} {l:List LV} (j:G=G') (C:x=x') (E:n=n') (F:l=Y):Pj G size x n l K=Pj G' size x' n' Y K:=by rw[j,C,E,F]
@[congr] theorem t7 {t:Bool} {A B:Prop} (h:t=L):Rt t A B=Rt L A B:=Ev
@[congr] theorem tz {A B:Prop} (h:x=x'):Z9 x A B vG=Z9 x' A B vG:=Ev
@[congr] theorem um {A B:Prop} (h:x=x'):u7 x A B=u7 x' A B:=Ev
end congr
def zne{t:Bool}{A B:Prop}:u7 (.bool t) A B=Rt t A B:=(rfl)
def zqi{t:Bool}{A B:Prop}:Z9 (.bool t) A B vG=Rt t A B:=(rfl)
def zty{A B:Prop}:Z9 (.tup []) A B vG=vG:=(rfl)
def zj6{A B:Prop}:Rt true A B=A:=by simp[Rt]
def zfh{A B:Prop}:Rt false A B=B:=by simp[Rt]
def fh{p:Prop}[Decidable p]{A B:Prop}:Rt (decide p) A B=((p→A)∧(¬p→B)):=by simp[Rt]
def zvx{b:Bool}{A B:Prop}:Rt (!b) A B=Rt b B A:=by cases b<;>simp[Rt]
def zlc(v:LV)(l:List LV)(K:LV→Prop):N6 (v::l) 0 K=K v:=by simp[N6]
def zkq(v:LV)(l:List LV)(i:Nat)(K:LV→Prop):N6 (v::l) (i+1) K=N6 l i K:=by simp[N6]
def zqp(f:v9→LV)(d:v9)(l:List v9)(i:Nat)(K:LV→Prop):N6 (l.map f) i K=(i<l.length∧K (f (l.getD i d))):=by
 unfold N6;by_cases h:i<l.length
 ·simp[h]
 ·simp[h]
def Xw(l:List UInt64)(i:Nat)(K:LV→Prop):N6 (l.map .u) i K=(i<l.length∧K (.u (l.getD i 0))):=zqp _ _ _ _ _
def zlv(l:List LV)(m i:Nat)(K:LV→Prop):N6 (l.take m) i K=(i<m∧N6 l i K):=by
 unfold N6;by_cases h:i<m
 ·simp[h,I1 h]
 ·simp[h,List.getElem?_take]
def V6(o:Option LObj)(K:List LV→Nat→Prop):Prop:=match o with
 |some (.cells l st)=>K l st
 |_=>False
def Pr(o:Option LObj)(K:List LV→Nat→Nat→Nat→Nat→Prop):Prop:=match o with
 |some (.dyn l len esz j st)=>K l len esz j st
 |_=>False
def pe(o:Option (List LV))(K:List LV→Prop):Prop:=match o with
 |some l=>K l
 |none=>False
def gt(c a b:LV)(K:LV→Prop):Prop:=match c with
 |.bool t=>match a,b with
  |.bool x,.bool y=>K (.bool (match t with|true=>x|false=>y))
  |x,y=>Rt t (K x) (K y)
 |_=>False
def fp(x:LV)(K:LV→Prop):Prop:=match x with
 |.ptr p i=>K (.ptr p i)
 |.dptr p k i=>K (.dptr p k i)
 |.cptr l i=>K (.cptr l i)
 |.fn (.func f) a b=>K (.fn (.func f) a b)
 |_=>False
def wv(x y:LV)(K:Nat→Prop):Prop:=match x,y with
 |.i l,.i c=>l=c∧0≤l∧l≤1048576∧K l.toNat
 |_,_=>False
def c6(x:LV)(K:Nat→Prop):Prop:=match x with
 |.i n=>0≤n∧K n.toNat
 |.u n=>K n.toNat
 |_=>False
def Yg(G:Mu)(size:Nat)(x:LV)(lo:(Nat→Prop)→Prop)(hi:Nat→(Nat→Prop)→Prop)(K:LV→Prop):Prop:=match x with
 |.nilSl=>lo λa=>hi 0 λb=>a=0∧b=0∧K .nilSl
 |.dy p k=>Pr G[p]? λ_ len esz j _=>k=j∧esz=size∧lo λa=>hi len λb=>a≤b∧b≤len∧K (.vw p k a (b-a))
 |.vw p k C len=>Pr G[p]? λ_ _ esz j _=>k=j∧esz=size∧lo λa=>hi len λb=>a≤b∧b≤len∧K (.vw p k (C+a) (b-a))
 |.lst l len esz=>esz=size∧lo λa=>hi len λb=>a≤b∧b≤len∧K (.lst ((l.drop (a*esz)).take ((b-a)*esz)) (b-a) esz)
 |_=>False
def Tu(off:Nat)(x:LV)(K:LV→Prop):Prop:=match x with
 |.ptr p i=>K (.ptr p (i+off))
 |.dptr p k i=>K (.dptr p k (i+off))
 |.cptr l i=>K (.cptr l (i+off))
 |_=>False
def ce(g:Bool)(n off:Nat)(x:LV)(K:LV→Prop):Prop:=match x with
 |.agg l=>match g with
  |true=>off+n≤l.length∧K (.agg ((l.drop off).take n))
  |false=>N6 l off K
 |_=>False
def Vm(G:Mu)(size:Nat)(x:LV)(n:Int)(K:LV→Prop):Prop:=match x with
 |.dy p k=>Pr G[p]? λ_ len esz j _=>k=j∧esz=size∧0≤n∧n<len∧K (.dptr p k (n.toNat*size))
 |.vw p k lo len=>Pr G[p]? λ_ _ esz j _=>k=j∧esz=size∧0≤n∧n<len∧K (.dptr p k ((lo+n.toNat)*size))
 |.lst l len esz=>esz=size∧0≤n∧n<len∧K (.cptr l (n.toNat*size))
 |_=>False
def yy(G:Mu)(size:Nat)(x i:LV)(K:LV→Prop):Prop:=match i with
 |.i n=>Vm G size x n K
 |.u n=>Vm G size x (n.toNat:Int) K
 |_=>False
def fb(i:Nat)(x:LV)(K:LV→Prop):Prop:=match x with
 |.tup l=>N6 l i K
 |_=>False
def Zy(j:Bool)(x y:LV)(K:LV→Prop):Prop:=match x,y with
 |.i a,.i b=>K (.i (match j with|true=>max a b|false=>min a b))
 |.u a,.u b=>K (.u (match j with|true=>if a<b then b else a|false=>if b<a then b else a))
 |_,_=>False
def d5(x:LV)(K:Nat→Prop):Prop:=match x with
 |.i n=>0≤n∧n≤1048576∧K n.toNat
 |_=>False
def uh(G:Mu)(size:Nat)(d:LV)(n:Nat)(l:List LV)(K:LV→Mu→Prop):Prop:=match d with
 |.dy p k=>Pr G[p]? λr len esz j st=>k=j∧esz=size∧K (.i (min n len:Nat)) (G.set p (.dyn (Nh r 0 (l.take (min n len*size))) len esz j (st+1)))
 |.vw p k lo len=>Pr G[p]? λr C esz j st=>k=j∧esz=size∧(lo+len)*size≤r.length∧K (.i (min n len:Nat)) (G.set p (.dyn (Nh r (lo*size) (l.take (min n len*size))) C esz j (st+1)))
 |_=>False
def zw(G:Mu)(size:Nat)(z:List LV)(x:LV)(K:Mu→Prop):Prop:=match x with
 |.vw p k lo len=>Pr G[p]? λr j esz C st=>k=C∧esz=size∧z.length=size∧(lo+len)*size≤r.length∧K (G.set p (.dyn (Nh r (lo*size) (Na z len)) j esz C (st+1)))
 |_=>False
def goL(P:Program)(f:LV)(j:List LV)(G:Mu)(K:LV→Mu→Prop):Prop:=match f with
 |.fn (.func g) a b=>Pz P (.fn g) (a++j++b) G K
 |.fn (.yield p) [] _=>Pz P (.yield p) j G K
 |_=>False
section byOps
variable {P : Program} {ρ : My} {G : Mu} {K : LV → Mu → Prop} {x y c a b s d i f : Lx} {l cs z : List LV} {ps : List (Nat × Nat × Lx)} {n size len off : Nat} {lo hi : Option Lx}
def OpL_move:Nd P ρ G (.move x) K=K (x.ev ρ) G:=(rfl)
def OpL_pick:Nd P ρ G (.pick c a b) K=gt (c.ev ρ) (a.ev ρ) (b.ev ρ) (Uc K G):=(rfl)
def OpL_alloc:Nd P ρ G (.alloc l) K=K (.ptr G.length 0) (G++[.cells l 0]):=(rfl)
def OpL_box:Nd P ρ G (.box x) K=pe (x.ev ρ).cells λl=>K (.ptr G.length 0) (G++[.cells l 0]):=(rfl)
def OpL_build:Nd P ρ G (.build cs ps) K=pe (bz ρ cs ps) λl=>K (.agg l) G:=(rfl)
def OpL_buildSl:Nd P ρ G (.buildSl size len cs ps) K=pe (bz ρ cs ps) λl=>l.length=len*size∧K (.dy G.length 0) (G++[.dyn l len size 0 0]):=(rfl)
def OpL_load1:Nd P ρ G (.load1 x) K=Ui G (x.ev ρ) (Uc K G):=(rfl)
def OpL_loadN:Nd P ρ G (.loadN n x) K=Ud G (x.ev ρ) n λl=>K (.agg l) G:=(rfl)
def OpL_store:Nd P ρ G (.store n x y) K=pe (y.ev ρ).cells λl=>l.length=n∧Tn G (x.ev ρ) l λG'=>K (.tup []) G':=(rfl)
def OpL_nilChk:Nd P ρ G (.nilChk x) K=fp (x.ev ρ) (Uc K G):=(rfl)
def fq{op:BinOp}{g:Bool}{t:TypeId}:Nd P ρ G (.bin op g t x y) K=Q7 P op g t (x.ev ρ) (y.ev ρ) (Uc K G):=(rfl)
def pu{op:UnOp}:Nd P ρ G (.un op x) K=oz op (x.ev ρ) (Uc K G):=(rfl)
def zuy{k:IntKind}:Nd P ρ G (.cvInt k x) K=ft k (x.ev ρ) (Uc K G):=(rfl)
def zsc{g:Nat}{j gs:List Lx}:Nd P ρ G (.mkFunc g j gs) K=K (.fn (.func g) (j.map (·.ev ρ)) (gs.map (·.ev ρ))) G:=(rfl)
def OpL_mkSl:Nd P ρ G (.mkSl size z a b) K=wv (a.ev ρ) (b.ev ρ) λn=>z.length=size∧K (.dy G.length 0) (G++[.dyn (Na z n) n size 0 0]):=by
 simp only[Nd,wv];cases a.ev ρ<;>cases b.ev ρ<;>rfl
def zvw{x:Lx}{d:Nat}{K:Nat→Prop}:Om ρ d (some x) K=c6 (x.ev ρ) K:=(rfl)
def zu0{d:Nat}{K:Nat→Prop}:Om ρ d none K=K d:=(rfl)
def OpL_slSl:Nd P ρ G (.slSl size x lo hi) K=Yg G size (x.ev ρ) (λk=>Om ρ 0 lo k) (λd k=>Om ρ d hi k) (Uc K G):=by
 simp only[Nd,Yg,Pr];cases x.ev ρ<;>try rfl
 all_goals (cases G[_]?<;>try rfl)
def Uz(j:Bool)(x y z:LV)(K:LV→Prop):Prop:=match x with
 |.i a=>match y with
  |.i b=>match z with
   |.i d=>K (.i (match j with|true=>max (max a b) d|false=>min (min a b) d))
   |_=>False
  |_=>False
 |_=>False
def iq(len size:Nat)(x i:LV)(K:LV→Prop):Prop:=match i with
 |.i n=>0≤n∧n<len∧Tu (n.toNat*size) x K
 |_=>False
def c9(g:Bool)(len size:Nat)(x i:LV)(K:LV→Prop):Prop:=match i with
 |.i n=>0≤n∧n<len∧ce g size (n.toNat*size) x K
 |_=>False
def Xi{g:Bool}{x y z:Lx}:Nd P ρ G (.max3 g x y z) K=Uz g (x.ev ρ) (y.ev ρ) (z.ev ρ) (Uc K G):=(rfl)
def zka{len size:Nat}{x i:Lx}:Nd P ρ G (.ixAddrArr len size x i) K=iq len size (x.ev ρ) (i.ev ρ) (Uc K G):=(rfl)
def zvk{g:Bool}{len size:Nat}{x i:Lx}:Nd P ρ G (.ixArr g len size x i) K=c9 g len size (x.ev ρ) (i.ev ρ) (Uc K G):=(rfl)
def OpL_fieldAddr:Nd P ρ G (.fieldAddr off x) K=Tu off (x.ev ρ) (Uc K G):=(rfl)
def OpL_ixAddr:Nd P ρ G (.ixAddr size x i) K=yy G size (x.ev ρ) (i.ev ρ) (Uc K G):=by
 simp only[Nd,yy,Vm,ixO,Pr];cases i.ev ρ<;>try rfl
def OpL_extract:Nd P ρ G (.extract n x) K=fb n (x.ev ρ) (Uc K G):=(rfl)
def OpL_lenSl:Nd P ρ G (.lenSl x) K=lenL G (x.ev ρ) λn=>K (.i n) G:=(rfl)
def X8{g:Bool}:Nd P ρ G (.maxi g x y) K=Zy g (x.ev ρ) (y.ev ρ) (Uc K G):=(rfl)
def OpL_appZ:Nd P ρ G (.appZ size z s x) K=d5 (x.ev ρ) λn=>z.length=size∧Pj G size (s.ev ρ) n (Na z n) K:=(rfl)
def OpL_appG:Nd P ρ G (.appG size s x) K=Ra G size (x.ev ρ) λn l=>n≤1048576∧Pj G size (s.ev ρ) n l K:=(rfl)
def OpL_copy:Nd P ρ G (.copy size d x) K=Ra G size (x.ev ρ) λn l=>uh G size (d.ev ρ) n l K:=by
 simp only[Nd,uh,Pr]
 congr 1
def OpL_clear:Nd P ρ G (.clear size z x) K=zw G size z (x.ev ρ) λG'=>K .any G':=by
 simp only[Nd,zw,Pr]
 congr 1
def zw7{j:List Lx}:Nd P ρ G (.callV f j) K=goL P (f.ev ρ) (j.map (·.ev ρ)) G K:=(rfl)
end byOps
section opened
variable {P : Program} {G : Mu} {p k i n size lo len off esz : Nat} {l r new : List LV} {K : List LV → Prop} {K1 : LV → Prop} {KG : Mu → Prop} {KN : Nat → Prop} {KR : Nat → List LV → Prop} {KV : LV → Mu → Prop} {KS : List UInt8 → Prop} {lof mxf : (Nat → Prop) → Prop} {hif : Nat → (Nat → Prop) → Prop}
def zpo{l:List LV}{st:Nat}{K:List LV→Nat→Prop}:V6 (some (.cells l st)) K=K l st:=(rfl)
def v6{l:List LV}{len esz st:Nat}{K:List LV→Nat→Nat→Nat→Nat→Prop}:Pr (some (.dyn l len esz j st)) K=K l len esz j st:=(rfl)
def cellsL_some:pe (some l) K=K l:=(rfl)
def zin{a b:LV}:gt (.bool true) a b K1=K1 a:=by cases a<;>cases b<;>simp[gt,Rt]
def zfs{a b:LV}:gt (.bool false) a b K1=K1 b:=by cases a<;>cases b<;>simp[gt,Rt]
def zlm{t x:Bool}:gt (.bool t) (.bool x) (.bool false) K1=K1 (.bool (t&&x)):=by cases t<;>rfl
def zpf{t x:Bool}:gt (.bool t) (.bool true) (.bool x) K1=K1 (.bool (t || x)):=by cases t<;>rfl
def chkL_ptr:fp (.ptr p i) K1=K1 (.ptr p i):=(rfl)
def zu4{a b:Int}:wv (.i a) (.i b) KN=(a=b∧0≤a∧a≤1048576∧KN a.toNat):=(rfl)
def Xf{a:Int}:c6 (.i a) KN=(0≤a∧KN a.toNat):=(rfl)
def slL_nil:Yg G size .nilSl lof hif K1=(lof λa=>hif 0 λb=>a=0∧b=0∧K1 .nilSl):=(rfl)
def slL_dy:Yg G size (.dy p k) lof hif K1=(Pr G[p]? λ_ len esz j _=>k=j∧esz=size∧lof λa=>hif len λb=>a≤b∧b≤len∧K1 (.vw p k a (b-a))):=(rfl)
def slL_vw:Yg G size (.vw p k lo len) lof hif K1=(Pr G[p]? λ_ _ esz j _=>k=j∧esz=size∧lof λa=>hif len λb=>a≤b∧b≤len∧K1 (.vw p k (lo+a) (b-a))):=(rfl)
def slL_lst:Yg G size (.lst l len esz) lof hif K1=(esz=size∧lof λa=>hif len λb=>a≤b∧b≤len∧K1 (.lst ((l.drop (a*esz)).take ((b-a)*esz)) (b-a) esz)):=(rfl)
def offL_ptr:Tu off (.ptr p i) K1=K1 (.ptr p (i+off)):=(rfl)
def offL_dptr:Tu off (.dptr p k i) K1=K1 (.dptr p k (i+off)):=(rfl)
def offL_cptr:Tu off (.cptr l i) K1=K1 (.cptr l (i+off)):=(rfl)
def fldL_true:ce true n off (.agg l) K1=(off+n≤l.length∧K1 (.agg ((l.drop off).take n))):=(rfl)
def fldL_false:ce false n off (.agg l) K1=N6 l off K1:=(rfl)
def l8{x:LV}{n:Int}:yy G size x (.i n) K1=Vm G size x n K1:=(rfl)
def wh{n:Int}:Vm G size (.dy p k) n K1=(Pr G[p]? λ_ len esz j _=>k=j∧esz=size∧0≤n∧n<len∧K1 (.dptr p k (n.toNat*size))):=(rfl)
def zp9{n:Int}:Vm G size (.vw p k lo len) n K1=(Pr G[p]? λ_ _ esz j _=>k=j∧esz=size∧0≤n∧n<len∧K1 (.dptr p k ((lo+n.toNat)*size))):=(rfl)
def zns{n:Int}:Vm G size (.lst l len esz) n K1=(esz=size∧0≤n∧n<len∧K1 (.cptr l (n.toNat*size))):=(rfl)
def tupL_tup:fb i (.tup l) K1=N6 l i K1:=(rfl)
def zu2{a b d:Int}:Uz true (.i a) (.i b) (.i d) K1=K1 (.i (max (max a b) d)):=(rfl)
def X6{len size:Nat}{x:LV}{n:Int}:iq len size x (.i n) K1=(0≤n∧n<len∧Tu (n.toNat*size) x K1):=(rfl)
def Yi{g:Bool}{len size:Nat}{x:LV}{n:Int}:c9 g len size x (.i n) K1=(0≤n∧n<len∧ce g size (n.toNat*size) x K1):=(rfl)
def zsy{a b:Int}:Uh .and a b K1=(0≤a∧a<9223372036854775808∧0≤b∧b<9223372036854775808∧K1 (.i (a.toNat &&& b.toNat:Nat))):=(rfl)
def zv5{a b:Int}:Zy true (.i a) (.i b) K1=K1 (.i (max a b)):=(rfl)
def zuu{a b:Int}:Zy false (.i a) (.i b) K1=K1 (.i (min a b)):=(rfl)
def W9{n:Int}:d5 (.i n) KN=(0≤n∧n≤1048576∧KN n.toNat):=(rfl)
def zpp{n:Nat}:uh G size (.dy p k) n l KV=(Pr G[p]? λr len esz j st=>k=j∧esz=size∧KV (.i (min n len:Nat)) (G.set p (.dyn (Nh r 0 (l.take (min n len*size))) len esz j (st+1)))):=(rfl)
def zpw{n:Nat}:uh G size (.vw p k lo len) n l KV=(Pr G[p]? λr j esz C st=>k=C∧esz=size∧(lo+len)*size≤r.length∧KV (.i (min n len:Nat)) (G.set p (.dyn (Nh r (lo*size) (l.take (min n len*size))) j esz C (st+1)))):=(rfl)
def zmt{z:List LV}{KH:Mu→Prop}:zw G size z (.vw p k lo len) KH=(Pr G[p]? λr j esz C st=>k=C∧esz=size∧z.length=size∧(lo+len)*size≤r.length∧KH (G.set p (.dyn (Nh r (lo*size) (Na z len)) j esz C (st+1)))):=(rfl)
def Wu{g:Nat}{a b:List LV}:goL P (.fn (.func g) a b) Y G KV=Pz P (.fn g) (a++Y++b) G KV:=(rfl)
def readL_ptr:Ud G (.ptr p i) n K=V6 G[p]? λl _=>i+n≤l.length∧K ((l.drop i).take n):=by
 simp only[Ud,V6];cases G[p]?<;>try rfl
def readL_dptr:Ud G (.dptr p k i) n K=Pr G[p]? λl _ _ j _=>k=j∧i+n≤l.length∧K ((l.drop i).take n):=by
 simp only[Ud,Pr];cases G[p]?<;>try rfl
def readL_cptr:Ud G (.cptr l i) n K=(i+n≤l.length∧K ((l.drop i).take n)):=(rfl)
def read1_ptr:Ui G (.ptr p i) K1=V6 G[p]? λl _=>N6 l i K1:=by
 simp only[Ui,V6];cases G[p]?<;>try rfl
def read1_dptr:Ui G (.dptr p k i) K1=Pr G[p]? λl _ _ j _=>k=j∧N6 l i K1:=by
 simp only[Ui,Pr];cases G[p]?<;>try rfl
def read1_cptr:Ui G (.cptr l i) K1=N6 l i K1:=(rfl)
def writeL_ptr:Tn G (.ptr p i) r KG=V6 G[p]? λl st=>i+r.length≤l.length∧KG (G.set p (.cells (Nh l i r) (st+1))):=by
 simp only[Tn,V6];cases G[p]?<;>try rfl
def writeL_dptr:Tn G (.dptr p k i) r KG=Pr G[p]? λl len esz j st=>k=j∧i+r.length≤l.length∧KG (G.set p (.dyn (Nh l i r) len esz j (st+1))):=by
 simp only[Tn,Pr];cases G[p]?<;>try rfl
def rowL_dy:Ra G size (.dy p k) KR=Pr G[p]? λl len esz j _=>k=j∧esz=size∧KR len l:=by
 simp only[Ra,Pr];cases G[p]?<;>try rfl
def rowL_vw:Ra G size (.vw p k lo len) KR=Pr G[p]? λl _ esz j _=>k=j∧esz=size∧lo*esz+len*esz≤l.length∧KR len ((l.drop (lo*esz)).take (len*esz)):=by
 simp only[Ra,Pr];cases G[p]?<;>try rfl
def rowL_lst:Ra G size (.lst l len esz) KR=(esz=size∧KR len l):=(rfl)
def lenL_nil:lenL G .nilSl KN=KN 0:=(rfl)
def lenL_dy:lenL G (.dy p k) KN=Pr G[p]? λ_ len _ j _=>k=j∧KN len:=by
 simp only[lenL,Pr];cases G[p]?<;>try rfl
def lenL_vw:lenL G (.vw p k lo len) KN=Pr G[p]? λ_ _ _ j _=>k=j∧KN len:=by
 simp only[lenL,Pr];cases G[p]?<;>try rfl
def lenL_lst:lenL G (.lst l len esz) KN=KN len:=(rfl)
def appL_nil:Pj G size .nilSl n new KV=KV (.dy G.length 0) (G++[.dyn new n size 0 0]):=(rfl)
def appL_dy:Pj G size (.dy p k) n new KV=Pr G[p]? λl len esz j st=>k=j∧(esz=size∧0<esz)∧len≤1000000000∧KV (.dy p (j+1)) (G.set p (.dyn (l++new) (len+n) esz (j+1) (st+1))):=by
 simp only[Pj,Pr];cases G[p]?<;>try rfl
def appL_vw:Pj G size (.vw p k lo len) n new KV=Pr G[p]? λl C esz j st=>k=j∧(esz=size∧lo=0∧0<n)∧len≤1000000000∧if (len+n)*esz≤l.length then KV (.vw p k 0 (len+n)) (G.set p (.dyn (Nh l (len*esz) new) C esz j (st+1)))∧KV (.dy G.length 0) (G++[.dyn (l.take (len*esz)++new) (len+n) size 0 0]) else len=C∧0<esz∧KV (.dy p (j+1)) (G.set p (.dyn (l++new) (len+n) esz (j+1) (st+1)))∧KV (.dy G.length 0) (G++[.dyn (l++new) (len+n) size 0 0]):=by
 simp only[Pj,Pr];cases G[p]?<;>try rfl
variable {op : BinOp} {g : Bool} {t : TypeId}
def ztv{a b:UInt64}:Q7 P op g t (.u a) (.u b) K1=Vf op a b K1:=(rfl)
def zuq{a b:Int}:Q7 P op g t (.i a) (.i b) K1=Uh op a b K1:=(rfl)
def zl3{a:Int}{s:UInt64}:Q7 P .shl g t (.i a) (.u s) K1=(0≤a∧s.toNat≤64∧Q5 (a*2^s.toNat)∧K1 (.i (a*2^s.toNat))):=(rfl)
def zm2{a:Int}{s:UInt64}:Q7 P .shr g t (.i a) (.u s) K1=(0≤a∧s.toNat≤64∧K1 (.i (a/2^s.toNat))):=(rfl)
def zpv{a b:Bool}:Q7 P .neq g t (.bool a) (.bool b) K1=(Qo P g t (.bool a) (.bool b)=some (a==b)∧K1 (.bool (!(a==b)))):=(rfl)
def zvv{b:Bool}:oz .not (.bool b) K1=K1 (.bool (!b)):=(rfl)
def Zn{a:Int}:ft .u64 (.i a) K1=K1 (.u (iU a)):=(rfl)
def Z4{a:UInt64}:ft .i64 (.u a) K1=(a.toNat<9223372036854775808∧K1 (.i a.toNat)):=(rfl)
def zp7{l:List LV}{len esz:Nat}:Q7 P .eql g t (.lst l len esz) .nilSl K1=(Qo P g t .nilSl .nilSl=some true∧K1 (.bool false)∧(len=0→K1 (.bool true))):=(rfl)
def zwb{op:BinOp}{g:Bool}{t:TypeId}{l r:List LV}:Q7 P op g t (.agg l) (.agg r) K1=fj P op g t l r K1:=(rfl)
end opened
section code
variable {P : Program} {f n : Nat} {ro : Option Nat} {ρ ρ' : My} {D : List Nat} {G G' : Mu} {Q : O6} {a b c : LC} {x : Lx} {id i t d : Nat} {l : List LI} {ds : List (LI × List (LI × Bool))} {cs : List (LI × Bool)} {K : My → Mu → Prop} {KV : LV → Mu → Prop} {KL : List LV → Prop} {KG : Mu → Prop} {Nx : My → List Nat → Mu → Prop} {rs : List RRes} {o : LOp} {od : Option Nat} {v w : LV} {vs : List LV} {it : LI}
def wp_skip:wp P f n ro .skip ρ D G Q=Q .normal ρ D G:=(rfl)
def wp_ops:wp P f n ro (.ops l) ρ D G Q=Sg P l ρ G (n9 Q D):=(rfl)
def wp_seq:wp P f n ro (.seq a b) ρ D G Q=wp P f n ro a ρ D G (bx P f n ro b Q):=(rfl)
def wp_cond:wp P f n ro (.cond x a b) ρ D G Q=u7 (x.ev ρ) (wp P f n ro a ρ D G Q) (wp P f n ro b ρ D G Q):=(rfl)
def wp_block:wp P f n ro (.block id c) ρ D G Q=wp P f n ro c ρ D G (gq id Q):=(rfl)
def wp_draw:wp P f n ro (.draw ds) ρ D G Q=V9 P ds ρ G (n9 Q D):=(rfl)
def wp_exit:wp P f n ro (.exit id) ρ D G Q=Q (.exit id) ρ D G:=(rfl)
def wp_ret:wp P f n ro .ret ρ D G Q=Q .ret ρ D G:=(rfl)
def wp_loop:wp P f n ro (.loop c) ρ D G Q=W P f n (.loop c) ro ρ D G Q:=(rfl)
def seqQ_n:bx P f n ro b Q .normal ρ D G=wp P f n ro b ρ D G Q:=(rfl)
def seqQ_e:bx P f n ro b Q (.exit i) ρ D G=Q (.exit i) ρ D G:=(rfl)
def seqQ_r:bx P f n ro b Q .ret ρ D G=Q .ret ρ D G:=(rfl)
def blkQ_n:gq id Q .normal ρ D G=Q .normal ρ D G:=(rfl)
def blkQ_e:gq id Q (.exit i) ρ D G=if i=id then Q .normal ρ D G else Q (.exit i) ρ D G:=(rfl)
def blkQ_r:gq id Q .ret ρ D G=Q .ret ρ D G:=(rfl)
def nxQ_n:zo Nx Q .normal ρ D G=Nx ρ D G:=(rfl)
def nxQ_e:zo Nx Q (.exit i) ρ D G=Q (.exit i) ρ D G:=(rfl)
def nxQ_r:zo Nx Q .ret ρ D G=Q .ret ρ D G:=(rfl)
def endQ_n:pz rs KV .normal ρ D G=js D G (ie ρ rs KV):=(rfl)
def endQ_r:pz rs KV .ret ρ D G=js D G (ie ρ rs KV):=(rfl)
def norQ_app:n9 Q D ρ G=Q .normal ρ D G:=(rfl)
def takeL_nil:js [] G KG=KG G:=(rfl)
def takK_app:ie ρ rs KV G=Qk ρ G rs (su KV G):=(rfl)
def endK_app:su KV G vs=KV (T1 vs) G:=(rfl)
def resL_nil:Qk ρ G [] KL=KL []:=(rfl)
def resL_tmp:Qk ρ G (.tmp t::rs) KL=Qk ρ G rs (x7 ρ t KL):=(rfl)
def resL_cN:Qk ρ G (.cellN t n::rs) KL=Ud G (lk ρ t) n (cnK ρ G rs KL):=(rfl)
def tmpK_app:x7 ρ t KL vs=KL (lk ρ t::vs):=(rfl)
def conK_app:sn v KL vs=KL (v::vs):=(rfl)
def cnK_app:cnK ρ G rs KL vs=Qk ρ G rs (sn (.agg vs) KL):=(rfl)
def oneL_1:T1 [v]=v:=(rfl)
def oneL_0:T1 []=.tup []:=(rfl)
def oneL_2:T1 (v::w::vs)=.tup (v::w::vs):=(rfl)
def OpsL_nil:Sg P [] ρ G K=K ρ G:=(rfl)
def OpsL_cons:Sg P (it::l) ρ G K=Vv P it ρ G (wr P l K):=(rfl)
def opsK_app:wr P l K ρ G=Sg P l ρ G K:=(rfl)
def ItL_n:Vv P ⟨od,none,o⟩ ρ G K=Nd P ρ G o (dx ρ od K):=(rfl)
def ItL_t:Vv P ⟨od,some (t,true),o⟩ ρ G K=Z9 (lk ρ t) (Nd P (setL t (.bool true) ρ) G o (dx (setL t (.bool true) ρ) od K)) (dx (setL t (.bool false) ρ) od K (.tup []) G) (dx ρ od K (.tup []) G):=(rfl)
def ItL_f:Vv P ⟨od,some (t,false),o⟩ ρ G K=Z9 (lk ρ t) (dx (setL t (.bool true) ρ) od K (.tup []) G) (Nd P (setL t (.bool false) ρ) G o (dx (setL t (.bool false) ρ) od K)) (dx ρ od K (.tup []) G):=(rfl)
def itK_some:dx ρ (some d) K v G=K ((d,v)::ρ) G:=(rfl)
def itK_none:dx ρ none K v G=K ρ G:=(rfl)
def atG_app:Uc KV G v=KV v G:=(rfl)
def DrL_nil:V9 P [] ρ G K=K ρ G:=(rfl)
def DrL_cons:V9 P ((it,cs)::ds) ρ G K=Vv P it ρ G (drK P cs ds ρ G K):=(rfl)
def drK_app:drK P cs ds ρ G K ρ' G'=(T8 ρ G G' cs∧V9 P ds ρ' G' K):=(rfl)
def ev_t:(Lx.t i).ev ρ=lk ρ i:=(rfl)
def ev_c:(Lx.c v).ev ρ=v:=(rfl)
def argsL_nil:aa [] i=[]:=(rfl)
def argsL_cons:aa (v::vs) i=(i,v)::aa vs (i+1):=(rfl)
def setL_cons:setL t v ((d,w)::ρ)=if t=d then (d,v)::ρ else (d,w)::setL t v ρ:=(rfl)
end code
section nums
variable {K : LV → Prop}
def zsm{a b:UInt64}:Vf .add a b K=K (.u (Sr a b)):=(rfl)
def zu3{a b:UInt64}:Vf .mul a b K=K (.u (Rv a b)):=(rfl)
def zuc{a b:UInt64}:Vf .shr a b K=K (.u (P9 a b.toNat)):=(rfl)
def zvm{a b:UInt64}:Vf .and a b K=K (.u (Q1 a b)):=(rfl)
def zup{a b:UInt64}:Vf .eql a b K=K (.bool (decide (a=b))):=(rfl)
def zug{a b:UInt64}:Vf .neq a b K=K (.bool (decide (a≠b))):=(rfl)
def zvd{a b:UInt64}:Vf .lss a b K=K (.bool (decide (a<b))):=(rfl)
def zw2{a b:UInt64}:Vf .leq a b K=K (.bool (decide (a≤b))):=(rfl)
def zuk{a b:UInt64}:Vf .gtr a b K=K (.bool (decide (b<a))):=(rfl)
def zui{a b:UInt64}:Vf .geq a b K=K (.bool (decide (b≤a))):=(rfl)
def ztz{a b:Int}:Uh .add a b K=(Q5 (a+b)∧K (.i (a+b))):=(rfl)
def ztx{a b:Int}:Uh .sub a b K=(Q5 (a-b)∧K (.i (a-b))):=(rfl)
def zvr{a b:Int}:Uh .mul a b K=(Q5 (a*b)∧K (.i (a*b))):=(rfl)
def zuz{a b:Int}:Uh .quo a b K=(b≠0∧Q5 (a.tdiv b)∧K (.i (a.tdiv b))):=(rfl)
def ztt{a b:Int}:Uh .shr a b K=(0≤a∧0≤b∧b≤64∧K (.i (a/2^b.toNat))):=(rfl)
def zsx{a b:Int}:Uh .eql a b K=K (.bool (decide (a=b))):=(rfl)
def zsw{a b:Int}:Uh .neq a b K=K (.bool (decide (a≠b))):=(rfl)
def zt4{a b:Int}:Uh .lss a b K=K (.bool (decide (a<b))):=(rfl)
def ztm{a b:Int}:Uh .leq a b K=K (.bool (decide (a≤b))):=(rfl)
def zvi{a b:Int}:Uh .gtr a b K=K (.bool (decide (b<a))):=(rfl)
def zt0{a b:Int}:Uh .geq a b K=K (.bool (decide (b≤a))):=(rfl)
end nums
section congr2
variable {P : Program} {G G' : Mu} {x x' y y' z z' : LV} {K : LV → Mu → Prop} {Kv : LV → Prop} {n n' size : Nat}
@[congr] theorem uz {o j:Option LObj} {K:List LV→Nat→Prop} (h:o=j):V6 o K=V6 j K:=Ev
@[congr] theorem ue {o j:Option LObj} {K:List LV→Nat→Nat→Nat→Nat→Prop} (h:o=j):Pr o K=Pr j K:=Ev
@[congr] theorem dh {o j:Option (List LV)} {K:List LV→Prop} (h:o=j):pe o K=pe j K:=Ev
@[congr] theorem jl (j:x=x') (C:y=y') (E:z=z'):gt x y z Kv=gt x' y' z' Kv:=C8
@[congr] theorem qg (j:x=x'):fp x Kv=fp x' Kv:=Fl
@[congr] theorem i4 {K:Nat→Prop} (j:x=x') (C:y=y'):wv x y K=wv x' y' K:=Cd
@[congr] theorem m7 {K:Nat→Prop} (j:x=x'):c6 x K=c6 x' K:=Fl
@[congr] theorem uv {lo:(Nat→Prop)→Prop} {hi:Nat→(Nat→Prop)→Prop} (j:G=G') (C:x=x'):Yg G size x lo hi Kv=Yg G' size x' lo hi Kv:=Cd
@[congr] theorem ng (j:x=x'):Tu n x Kv=Tu n x' Kv:=Fl
@[congr] theorem uc (j:G=G') (C:x=x') (E:y=y'):yy G size x y Kv=yy G' size x' y' Kv:=C8
@[congr] theorem t9 {i:Int} (j:G=G') (C:x=x') (E:i=T):Vm G size x i Kv=Vm G' size x' T Kv:=C8
@[congr] theorem p9 (j:x=x'):fb n x Kv=fb n x' Kv:=Fl
@[congr] theorem i5 {g:Bool} {z z':LV} (j:x=x') (C:y=y') (E:z=z'):Uz g x y z Kv=Uz g x' y' z' Kv:=C8
@[congr] theorem o9 {len size:Nat} (j:x=x') (C:y=y'):iq len size x y Kv=iq len size x' y' Kv:=Cd
@[congr] theorem qd {g:Bool} {len size:Nat} (j:x=x') (C:y=y'):c9 g len size x y Kv=c9 g len size x' y' Kv:=Cd
@[congr] theorem og {g:Bool} (j:x=x') (C:y=y'):Zy g x y Kv=Zy g x' y' Kv:=Cd
@[congr] theorem sk {K:Nat→Prop} (j:x=x'):d5 x K=d5 x' K:=Fl
@[congr] theorem ed {z z':List LV} {KH:Mu→Prop} (j:G=G') (C:x=x') (E:z=z'):zw G size z x KH=zw G' size z' x' KH:=C8
@[congr] theorem iu {l:List LV} (j:G=G') (C:x=x') (E:n=n') (F:l=Y):uh G size x n l K=uh G' size x' n' Y K:=by rw[j,C,E,F]
@[congr] theorem uq {l:List LV} (j:x=x') (C:l=Y) (E:G=G'):goL P x l G K=goL P x' Y G' K:=C8
end congr2
def LU(a:List UInt64):LV:=.lst (a.map .u) a.length 1
def sx(a:List UInt64):dats (a.map LV.u)=true:=Wi (λ_=>rfl) a
def zs4(l r:List LV):Nh l 0 r=r++l.drop r.length:=by simp[Nh]
def zqy(v:LV)(l r:List LV)(i:Nat):Nh (v::l) (i+1) r=v::Nh l i r:=by
 unfold Nh;rw[show i+1+r.length=(i+r.length)+1 from J];simp
attribute [simp] zlv T8 ckL mv kw il LObj.stp LObj.st zlc zkq Xw Zg xr bz LV.cells subV subVs Vz yo shV shVs frV frVs bor bors LV.dat dats LV.scal LV.sim sims sx zs4 zqy LU Q5
attribute [simp] zne zqi zty zj6 zfh fh zvx
attribute [simp ↓] zne zqi zty zj6 zfh zvx zlv zlc zkq Xw
attribute [simp ↓] OpL_move OpL_pick OpL_alloc OpL_box OpL_build OpL_buildSl OpL_load1 OpL_loadN OpL_store OpL_nilChk fq pu zuy zsc OpL_mkSl zvw zu0 OpL_slSl OpL_fieldAddr OpL_ixAddr OpL_extract OpL_lenSl X8 OpL_appZ OpL_appG OpL_copy zw7
attribute [simp] zpo v6 cellsL_some zin zfs zlm zpf chkL_ptr zu4 Xf slL_nil slL_dy slL_vw slL_lst offL_ptr offL_dptr offL_cptr fldL_true fldL_false l8 wh zp9 zns tupL_tup zv5 zuu W9 zpp zpw Wu readL_ptr readL_dptr readL_cptr read1_ptr read1_dptr read1_cptr writeL_ptr writeL_dptr rowL_dy rowL_vw rowL_lst lenL_nil lenL_dy lenL_vw lenL_lst appL_nil appL_dy appL_vw ztv zuq zl3 zm2 zpv zp7 zvv Zn Z4
attribute [simp ↓] zpo v6 cellsL_some zin zfs zlm zpf chkL_ptr zu4 Xf slL_nil slL_dy slL_vw slL_lst offL_ptr offL_dptr offL_cptr fldL_true fldL_false l8 wh zp9 zns tupL_tup zv5 zuu W9 zpp zpw Wu readL_ptr readL_dptr readL_cptr read1_ptr read1_dptr read1_cptr writeL_ptr writeL_dptr rowL_dy rowL_vw rowL_lst lenL_nil lenL_dy lenL_vw lenL_lst appL_nil appL_dy appL_vw ztv zuq zl3 zm2 zpv zp7 zvv Zn Z4
attribute [simp] wp_skip wp_ops wp_seq wp_cond wp_block wp_draw wp_exit wp_ret wp_loop seqQ_n seqQ_e seqQ_r blkQ_n blkQ_e blkQ_r nxQ_n nxQ_e nxQ_r endQ_n endQ_r norQ_app takeL_nil takK_app endK_app resL_nil resL_tmp resL_cN tmpK_app conK_app cnK_app oneL_1 oneL_0 oneL_2 OpsL_nil OpsL_cons opsK_app ItL_n ItL_t ItL_f itK_some itK_none atG_app DrL_nil DrL_cons drK_app ev_t ev_c argsL_nil argsL_cons setL_cons zsm zu3 zuc zvm zup zug zvd zw2 zuk zui ztz ztx zvr zuz ztt zsx zsw zt4 ztm zvi zt0
attribute [simp ↓] wp_skip wp_ops wp_seq wp_cond wp_block wp_draw wp_exit wp_ret wp_loop seqQ_n seqQ_e seqQ_r blkQ_n blkQ_e blkQ_r nxQ_n nxQ_e nxQ_r endQ_n endQ_r norQ_app takeL_nil takK_app endK_app resL_nil resL_tmp resL_cN tmpK_app conK_app cnK_app oneL_1 oneL_0 oneL_2 OpsL_nil OpsL_cons opsK_app ItL_n ItL_t ItL_f itK_some itK_none atG_app DrL_nil DrL_cons drK_app ev_t ev_c argsL_nil argsL_cons setL_cons zsm zu3 zuc zvm zup zug zvd zw2 zuk zui ztz ztx zvr zuz ztt zsx zsw zt4 ztm zvi zt0
attribute [simp] zwb
attribute [simp ↓] zwb
attribute [simp] zu2 X6 Yi zsy
attribute [simp] zmt
attribute [simp ↓] OpL_clear zmt Xi zka zvk zu2 X6 Yi zsy
def Xu(o:Option Bool)(A B:Prop):Prop:=match o with
 |some b=>Rt b A B
 |none=>False
def pw(o:Option LObj)(K:List (LV×LV×Nat)→Nat→Nat→Prop):Prop:=match o with
 |some (.map es ck st)=>K es ck st
 |_=>False
def kl(d:TypeDesc)(k z:LV)(ok:Bool)(K:LV→Prop):List (LV×LV×Nat)→Prop:=λes=>cg d k (xm z ok K) es
def wy(x:LV×LV×Nat)(K:List (LV×LV×Nat)→Bool→Prop):List (LV×LV×Nat)→Bool→Prop:=λr new=>K (x::r) new
def nh(G:Mu)(n size:Nat)(x:LV)(lo:(Nat→Prop)→Prop)(hi:Nat→(Nat→Prop)→Prop)(K:LV→Mu→Prop):Prop:=match x with
 |.ptr p i=>V6 G[p]? λl st=>i+n*size≤l.length∧lo λa=>hi n λb=>a≤b∧b≤n∧K (.lst ((l.drop (i+a*size)).take ((b-a)*size)) (b-a) size) (G.set p (.dead (st+1)))
 |_=>False
section maps
variable {P : Program} {ρ : My} {G G' : Mu} {K : LV → Mu → Prop} {K1 : LV → Prop} {x i m k v z x' k' : LV} {X I M V : Lx} {d : TypeDesc} {ok : Bool} {es es' : List (LV × LV × Nat)} {KE : List (LV × LV × Nat) → Prop} {KB : List (LV × LV × Nat) → Bool → Prop} {KH : Mu → Prop} {p ck st n size : Nat} {lo hi : Option Lx} {A B : Prop} {lof : (Nat → Prop) → Prop} {hif : Nat → (Nat → Prop) → Prop}
def OpL_mkMap0:Nd P ρ G .mkMap0 K=K (.map G.length) (G++[.map [] 0 0]):=(rfl)
def OpL_lookup:Nd P ρ G (.lookup d z ok X I) K=Ut G (X.ev ρ) (kl d (I.ev ρ) z ok (Uc K G)):=(rfl)
def OpL_mapUpd:Nd P ρ G (.mapUpd d M I V) K=kf G d (M.ev ρ) (I.ev ρ) (V.ev ρ) λG'=>K .any G':=(rfl)
def OpL_slArr:Nd P ρ G (.slArr n size X lo hi) K=nh G n size (X.ev ρ) (λk=>Om ρ 0 lo k) (λd k=>Om ρ d hi k) K:=by
 simp only[Nd,nh,V6];cases X.ev ρ<;>try rfl
 all_goals (cases G[_]?<;>try rfl)
def zqo{K:List (LV×LV×Nat)→Nat→Nat→Prop}:pw (some (.map es ck st)) K=K es ck st:=(rfl)
def mapL_map:Ut G (.map p) KE=pw G[p]? λes _ _=>KE es:=by
 simp only[Ut,pw];cases G[p]?<;>try rfl
def lookM_app:kl d k z ok K1 es=cg d k (xm z ok K1) es:=(rfl)
def zkv{j:Option LV→Prop}:cg d k j []=j none:=(rfl)
def zis{j:Option LV→Prop}:cg d k j ((k',v,n)::es)=Xu (Um d k k') (j (some v)) (cg d k j es):=(rfl)
def lookK_st:xm z true K1 (some v)=K1 (.tup [v,.bool true]):=(rfl)
def lookK_nt:xm z true K1 none=K1 (.tup [z,.bool false]):=(rfl)
def updL'_map:kf G d (.map p) k v KH=pw G[p]? λes ck st=>Ty d k v ck (mq G p ck st KH) es:=by
 simp only[kf,pw];cases G[p]?<;>try rfl
def putL_nil:Ty d k v ck KB []=KB [(k,v,ck)] true:=(rfl)
def zmm{w:LV}:Ty d k v ck KB ((k',w,n)::es)=Xu (Um d k k') (KB ((k,v,n)::es) false) (Ty d k v ck (wy (k',w,n) KB) es):=(rfl)
def zpt{y:LV×LV×Nat}{b:Bool}:wy y KB es b=KB (y::es) b:=(rfl)
def setK_t:mq G p ck st KH es true=KH (G.set p (.map es (ck+1) (st+1))):=(rfl)
def zmy{b:Bool}:Xu (some b) A B=Rt b A B:=(rfl)
def W7{j:IntKind}{a b:Int}:Um (.int j) (.i a) (.i b)=some (decide (a=b)):=(rfl)
def zql:nh G n size (.ptr p j) lof hif K=V6 G[p]? λl st=>j+n*size≤l.length∧lof λa=>hif n λb=>a≤b∧b≤n∧K (.lst ((l.drop (j+a*size)).take ((b-a)*size)) (b-a) size) (G.set p (.dead (st+1))):=(rfl)
@[congr] theorem vm {o j:Option LObj} {K:List (LV×LV×Nat)→Nat→Nat→Prop} (h:o=j):pw o K=pw j K:=Ev
@[congr] theorem lh {j:LV} (C:G=G') (E:m=j) (F:k=k') (H:v=O):kf G d m k v KH=kf G' d j k' O KH:=by rw[C,E,F,H]
@[congr] theorem tg {o j:Option Bool} (h:o=j):Xu o A B=Xu j A B:=Ev
end maps
attribute [simp] zqo mapL_map lookM_app zkv zis lookK_st lookK_nt updL'_map putL_nil zmm zpt setK_t zmy W7 zql
attribute [simp ↓] OpL_mkMap0 OpL_lookup OpL_mapUpd OpL_slArr zqo mapL_map lookM_app zkv zis lookK_st lookK_nt updL'_map putL_nil zmm zpt setK_t zmy W7 zql
end
end
section
noncomputable section
open Go.RowKit (Below)
mutual
inductive Sh where
 |bool
 |u
 |b
 |i
 |k (k:IntKind)
 |str
 |sl (s:Sh)
 |st (l:ShL)
inductive ShL where
 |nil
 |cons (s:Sh) (l:ShL)
end
mutual
def Sh.n:Sh→Nat
 |.st l=>l.n
 |_=>1
def ShL.n:ShL→Nat
 |.nil=>0
 |.cons s l=>s.n+l.n
end
mutual
def Sh.T:Sh→Type
 |.bool=>Bool
 |.u=>UInt64
 |.b=>UInt8
 |.i=>{ n:Int // Q5 n }
 |.k _=>Int
 |.str=>{ l:List UInt8 // l.length≤maxLen }
 |.sl s=>{ l:List s.T // l.length≤maxLen }
 |.st l=>l.T
def ShL.T:ShL→Type
 |.nil=>Unit
 |.cons s l=>s.T×l.T
end
mutual
def Sh.enc:(s:Sh)→s.T→List LV
 |.bool,x=>[.bool x]
 |.u,x=>[.u x]
 |.b,x=>[.b x]
 |.i,x=>[.i x.1]
 |.k k,x=>[.int k x]
 |.str,x=>[.str x.1]
 |.sl s,x=>[.lst (x.1.flatMap s.enc) x.1.length s.n]
 |.st l,x=>l.enc x
def ShL.enc:(l:ShL)→l.T→List LV
 |.nil,_=>[]
 |.cons s l,x=>s.enc x.1++l.enc x.2
end
mutual
def Sh.enc_length:∀(s:Sh) (x:s.T),(s.enc x).length=s.n
 |.bool,_=>rfl
 |.u,_=>rfl
 |.b,_=>rfl
 |.i,_=>rfl
 |.k _,_=>rfl
 |.str,_=>rfl
 |.sl _,_=>rfl
 |.st l,x=>by simp only[Sh.enc,Sh.n];exact ShL.enc_length l x
def ShL.enc_length:∀(l:ShL) (x:l.T),(l.enc x).length=l.n
 |.nil,_=>rfl
 |.cons s l,x=>by simp only[ShL.enc,ShL.n,Il,Sh.enc_length s x.1,ShL.enc_length l x.2]
end
def Xa(P:Program)(f:TypeId→Option Sh)(j:Nat):List Field→Nat→Option ShL
 |[],g=>if g=j then some .nil else none
 |fd::l,g=>match f fd.type with
  |none=>none
  |some s=>if fd.offset=g∧P.cellsOf fd.type=s.n then match Xa P f j l (g+s.n) with
   |none=>none
   |some r=>some (.cons s r)
   else none
def zf:Nat→Sh→ShL
 |0,_=>.nil
 |n+1,s=>.cons s (zf n s)
def T4(P:Program):Nat→TypeId→Option Sh
 |0,_=>none
 |d+1,t=>match P.underlying t with
  |some .bool=>some .bool
  |some (.int k)=>match k with
   |.u64=>some .u
   |.u8=>some .b
   |.i64=>some .i
   |k=>some (.k k)
  |some .string=>some .str
  |some (.slice e)=>match T4 P d e with
   |none=>none
   |some s=>if P.cellsOf e=s.n∧0<s.n then some (.sl s) else none
  |some (.struct g)=>match Xa P (T4 P d) (P.cellsOf t) g.toList 0 with
   |none=>none
   |some l=>some (.st l)
  |some (.array n e)=>match T4 P d e with
   |none=>none
   |some s=>if P.cellsOf e=s.n∧P.cellsOf t=n*s.n then some (.st (zf n s)) else none
  |_=>none
def zt(P:Program)(d:Nat):List TypeId→Option ShL
 |[]=>some .nil
 |t::l=>match T4 P d t with
  |none=>none
  |some s=>if P.cellsOf t=s.n then match zt P d l with
   |none=>none
   |some r=>some (.cons s r)
   else none
def Rel.ro{W:World}{gj:CM}{H:Heap}(h:Rel W gj H W){L:Loc}(hL:L.b<W.heap.size){l:List AV}(gB:gj.le (gj.ext H.next 0 L)→O2 W.heap.size (gj.ext H.next 0 L) W H.next (.cells (O8 l 0 .e) l.length 0 true)) :
  Rel W (gj.ext H.next 0 L) (H.push (.cells (O8 l 0 .e) l.length 0 true)) W∧gj.le (gj.ext H.next 0 L):=by
 have hle:gj.le (gj.ext H.next 0 L):=CM.le_ext _ (h.next_none 0) (.inr (Lm h.nx));refine⟨⟨by show max gj.nx (H.next+1)=H.next+1;rw[h.nx];exact Nat.max_eq_right (K9 _),h.low,?_,?_,?_,?_,?_⟩,hle⟩
 ·intro o v L' C;show o<H.next+1;by_cases e:o=H.next∧v=0
  ·omega
  ·rw[CM.ext_ne _ _ e]at C;have:=h.fresh _ _ _ C;omega
 ·intro o v L' C;by_cases e:o=H.next∧v=0
  ·obtain⟨rfl,rfl⟩:=e;rw[CM.ext_same]at C;cases C;exact hL
  ·rw[CM.ext_ne _ _ e]at C;exact h.lt _ _ _ C
 ·intro o v L1 o' v' L2 h1 h2 hb hB;by_cases e:o=H.next∧v=0
  ·obtain⟨rfl,rfl⟩:=e;rw[CM.ext_same]at h1;cases h1;omega
  ·by_cases e':o'=H.next∧v'=0
   ·obtain⟨rfl,rfl⟩:=e';rw[CM.ext_same]at h2;cases h2;omega
   ·rw[CM.ext_ne _ _ e]at h1;rw[CM.ext_ne _ _ e']at h2;exact h.excl _ _ _ _ _ _ h1 h2 hb hB
 ·intro o ob ho hg;by_cases e:o=H.next
  ·subst e;rw[Heap.get_push_same]at hg;cases hg;exact gB hle
  ·have gg:o<H.next:=Bu
   rw[Heap.get_push_ne _ _ gg]at hg;refine (h.obj _ _ gg hg).frame hle (λv L' C=>?_) (λ_ _ _=>rfl)
   rwa [CM.ext_ne _ _ J]at C
 ·intro o c len gC ro ho hg v L' C;by_cases e:o=H.next
  ·subst e;by_cases ev:v=0
   ·omega
   ·rw[CM.ext_ne _ _ J]at C;have:=h.fresh _ _ _ C;omega
  ·have gg:o<H.next:=Bu
   rw[Heap.get_push_ne _ _ gg]at hg;rw[CM.ext_ne _ _ J]at C;exact h.top _ _ _ _ _ gg hg _ _ C
def Sm(H:Heap):Cx:=⟨[],λo=>o<H.next,H⟩
def Rk(H g:Heap):Prop:=H.next≤g.next∧∀o,o<H.next→g.get o=H.get o
def Rk.refl(H:Heap):Rk H H:=⟨Ie _,λ_ _=>rfl⟩
def Rk.trans{A B C:Heap}(h:Rk A B)(k:Rk B C):Rk A C:=⟨I5 h.1 k.1,λo ho=>by rw[k.2 o (Ix ho h.1),h.2 o ho]⟩
def Rk.le{H H':Heap}(h:Rk H H'):CxLe (Sm H) (Sm H') :=
 ⟨λp k x e=>by simp[Sm]at e,λo ho=>⟨Ix ho h.1,h.2 o ho⟩⟩
section imp
variable {HH : Type} {enc : TypeId × Value → HH} {P : Program} {W : World}
def Got(W:World)(A:CM)(H:Heap)(z:List Value)(s:Nat)(T:Type)(e:T→List LV):Prop :=
 ∃g j as,∃y:T,A.le g∧Rel W g j W∧Rk H j∧VRs g as z∧(∀a∈as,a.one=true)∧ARs (Sm j) (e y) as∧as.length=s
def jp{H:Heap}(g:Rel W F H W){v:Value}{T:Type}{e:T→List LV}(y:T)(a:AV)(l:LV)(j:e y=[l])(z:VR F a v)(A:a.one=true)(B:AR (Sm H) l a):Got W F H [v] 1 T e :=
 ⟨F,H,[a],y,CM.le_refl F,g,.refl H,.cons z .nil,Bi,by rw[j];exact .cons B .nil,rfl⟩
def zhw{j:List MemPlace}(z:W.noneFrozen j){b n:Nat}(h:∀x∈MemPlace.row ⟨b,g,none⟩ n,x∈j){i:Nat}(hi:i<n):W.frozen? ⟨b,g+i,none⟩=false :=
 z b (g+i) (h _ (Lz.2 ⟨i,Jk.2 hi,rfl⟩))
def got_cells:∀(M:Nat) (d:Nat) (t:TypeId) (s:Sh) (cs:List Value) (x:DataW HH×List MemPlace) (U:CM) (H:Heap),T4 P d t=some s→DataW.trod enc P W 0 (λ_=>true) true M t cs=some x→W.noneFrozen x.2→Rel W U H W →
  Got W U H cs s.n s.T s.enc:=by
 intro M
 induction M with
 |zero=>intro d t s cs x U H _ h;simp[DataW.trod]at h
 |succ M ih =>
  intro d t s cs x U H z h hz C;cases d with
  |zero=>cases z
  |succ d =>
   simp only[T4]at z;split at z
   ·rename_i hu;cases z;obtain⟨b,rfl,_⟩:=DataW.trod_bool hu h;exact jp C (T:=Bool) b (.bool b) (.bool b) rfl (.bool b) rfl (.bool b)
   ·rename_i k hu;obtain⟨n,rfl,_,hw⟩:=DataW.trod_int hu h;split at z
    ·cases z;have hb:=bounds_u64 hw;refine jp C (T:=UInt64) (UInt64.ofNat n.toNat) (.int .u64 n) (.u (UInt64.ofNat n.toNat)) rfl (.int _ _) rfl (.u' ?_);rw[Jq];simp only[It];omega
    ·cases z;have hb:=bounds_u8 hw;refine jp C (T:=UInt8) (UInt8.ofNat n.toNat) (.int .u8 n) (.b (UInt8.ofNat n.toNat)) rfl (.int _ _) rfl (.b' ?_);rw[UInt8.toNat_ofNat'];simp only[It];omega
    ·cases z;have hb:=bounds_i64 hw;exact jp C (T:={ n:Int // Q5 n }) ⟨n,by unfold Q5;omega⟩ (.int .i64 n) (.i n) rfl (.int _ _) rfl (.i n)
    ·cases z;exact jp C (T:=Int) n (.int k n) (.int k n) rfl (.int _ _) rfl (.int k n)
   ·rename_i hu;cases z;obtain⟨b,rfl,_,hm⟩:=DataW.trod_string hu h;exact jp C (T:={ l:List UInt8 // l.length≤maxLen }) ⟨b.data.toList,by simpa using hm⟩ (.str b.data.toList.length (Oh b.data.toList)) (.str b.data.toList) rfl (.str rfl rfl) rfl (.str _)
   ·rename_i e hu;split at z
    ·cases z
    ·rename_i j gC;by_cases S:P.cellsOf e=j.n∧0<j.n
     ·rw[Ih S]at z;cases z;obtain⟨gD,O⟩:=S;rcases DataW.trod_slice hu h with ⟨rfl,_⟩|⟨a,len,cap,G,gM,n,hn,rfl,hx,_,gO,jM,gP,gj,gQ,_⟩
      ·exact jp C (T:={ l:List j.T // l.length≤maxLen }) ⟨[],N⟩ .nilSl (.lst [] 0 j.n) rfl .nilSl rfl .lstNil
      ·cases hn;by_cases h0:len=0
       ·subst h0;exact jp C (T:={ l:List j.T // l.length≤maxLen }) ⟨[],N⟩ .emp (.lst [] 0 j.n) rfl .emp rfl .lstEmp
       ·
        obtain⟨b,g,Q⟩:=a;have I:∀i,i<cap→∃D,W.cells? 0 ((⟨b,g,Q⟩:Addr).add (i*P.cellsOf e)) (P.cellsOf e)=some D:=by
         intro i hi;by_cases g9:i<len
         ·have:=gj i g9;rw[H8 J]at this;cases hq:W.cells? 0 ((⟨b,g,Q⟩:Addr).add (i*P.cellsOf e)) (P.cellsOf e) with
          |none=>rw[hq]at this;cases this
          |some D=>exact⟨D,rfl⟩
         ·obtain⟨jQ,jg⟩:=gQ rfl;have:=jg (i-len) J;rw[show len+(i-len)=i from J,H8 J]at this;cases hq:W.cells? 0 ((⟨b,g,Q⟩:Addr).add (i*P.cellsOf e)) (P.cellsOf e) with
          |none=>rw[hq]at this;cases this
          |some D=>exact⟨D,rfl⟩
        have gE:Q=none:=by
         obtain⟨D,he⟩:=I 0 J;obtain⟨_,E,A⟩:=World.cells?_some he;have:=A 0 J;rw[H8 J]at this;simpa [Addr.add] using World.cell?_spot this
        subst gE;have R:∀i V,i<cap→V<j.n→∃v,W.cell? ⟨b,g+(i*j.n+V),none⟩=some v:=by
         intro i V hi hj;obtain⟨D,he⟩:=I i hi;obtain⟨_,E,A⟩:=World.cells?_some he;have:=A V J;rw[H8 J]at this;rw[gD]at this;rw[WideShapes.add_plain,WideShapes.add_plain]at this;rw[←Ja];exact⟨_,this⟩
        obtain⟨v0,gB⟩:=R 0 0 J O;obtain⟨vs,ty,lo,hi,B⟩:∃vs ty lo hi,W.heap[b]?=some (.cells vs ty (lo,hi)):=by
         unfold World.cell? at gB;dsimp only at gB;split at gB
         ·rename_i vs ty fz B;exact⟨vs,ty,fz.1,fz.2,B⟩
         ·cases gB
        have jz:∀q,q<cap*j.n→∃v,vs[g+q]?=some v:=by
         intro q hq;obtain⟨v,hv⟩:=R (q/j.n) (q%j.n) (by rw[Nat.div_lt_iff_lt_mul O];exact hq) (Nat.mod_lt _ O);have:q/j.n*j.n+q%j.n=q:=by rw[Ml];exact Nat.div_add_mod q j.n
         rw[this,cu B]at hv;exact⟨v,hv⟩
        have gR:g+cap*j.n≤vs.size:=by
         have jA:0<cap*j.n:=Nat.mul_pos J O;obtain⟨v,hv⟩:=jz (cap*j.n-1) J;have:=(Lw.1 hv).1;omega
        have gS:∀x',x'∈MemPlace.row ⟨b,g,none⟩ (cap*j.n)→x'∈x.2:=by
         intro x' gF;rw[hx];have:(G.length+gM.length)*P.cellsOf e=cap*j.n:=by rw[gP,(gQ rfl).1,gD];congr 1;omega
         rw[this];exact Kc _ gF
        have loop:∀m,m≤len→∃C' H' as,∃ys:List j.T,U.le C'∧Rel W C' H' W∧Rk H H'∧(∀a∈as,a.one=true)∧ARs (Sm H') (ys.flatMap j.enc) as∧ys.length=m∧as.length=m*j.n∧∀q,q<m*j.n→∃a v,as[q]?=some a∧vs[g+q]?=some v∧VR C' a v:=by
         intro m
         induction m with
         |zero=>intro _;exact⟨U,H,[],[],CM.le_refl U,C,.refl H,N,.nil,rfl,N,λq hq=>J⟩
         |succ m jB =>
          intro hm;obtain⟨C1,X,Y,jC,a1,a2,a3,a4,a5,a6,a7,a8⟩:=jB J;obtain⟨D,he⟩:=I m J;have gT:=gj m J;rw[he,H8 J]at gT;obtain⟨_,E,A⟩:=World.cells?_some he;have jD : W.noneFrozen (G[m]' J).2 := λb' F Z => hz b' F (by
           rw[hx];exact J8 _ (List.mem_flatMap.2 ⟨G[m]' J, N, Z⟩))
          obtain⟨C2,H2,gg,y,b1,b2,b3,b4,b5,b6,b7⟩:=ih d e j D _ C1 X gC gT jD a2;refine⟨C2,H2,Y++gg,jC++[y],CM.le_trans a1 b1,b2,a3.trans b3,?_,?_,by simp[a6],?_,?_⟩
          ·intro gY hz;rcases Iy.1 hz with h|h
           ·exact a4 gY h
           ·exact b5 gY h
          ·rw[List.flatMap_append];refine (a5.mono b3.le).append ?_;simpa using b6
          ·rw[Il,a7,b7,I2,Lv]
          ·intro q hq;by_cases jE:q<m*j.n
           ·obtain⟨a,v,c1,c2,c3⟩:=a8 q jE;exact⟨a,v,by rw[Ib J];exact c1,c2,c3.mono b1⟩
           ·have jR:q-m*j.n<j.n:=by rw[I2,Lv]at hq;omega
            obtain⟨a,v,c1,c2,c3⟩:=b4.get' (i:=q-m*j.n) J;refine⟨a,v,by rw[In J,a7];exact c1,?_,c3⟩;have:=A (q-m*j.n) J;rw[gD,WideShapes.add_plain,WideShapes.add_plain,cu B,c2]at this;rw[←this]
            congr 1
            omega
        obtain⟨C1,X,as,ys,a1,a2,a3,a4,a5,a6,a7,a8⟩:=loop len (Ie _);have jF:b<W.heap.size:=by
         have:=(Lw.1 B).1;exact this
        have jO:len*j.n≤cap*j.n:=Im _ gO;have jG:∀q,g≤q→q<g+cap*j.n→¬(lo≤q∧q<hi):=by
         intro q h1 h2;have:=zhw hz (λx' gF=>gS x' gF) (i:=q-g) (n:=cap*j.n) J;rw[show g+(q-g)=q from J]at this;unfold World.frozen? at this;dsimp only at this;rw[B]at this;simp at this;omega
        obtain⟨c1,c2⟩:=a2.ro (L:=⟨b,g,len*j.n,g+cap*j.n⟩) jF (l:=as) (λgU L hL=>by
         rw[CM.ext_same]at hL;cases hL;refine⟨by rw[a7],λe=>An,by show g+as.length≤g+cap*j.n;omega,vs,ty,lo,hi,B,gR,jG,?_⟩;intro q hq;rw[get_ofList,Ih J];obtain⟨a,v,d1,d2,d3⟩:=a8 q J;exact⟨a,by simpa using d1,a4 a (I8 d1),v,d2,d3.mono gU⟩)
        have hg:Rk X (X.push (.cells (O8 as 0 .e) as.length 0 true)):=⟨K9 _,λo ho=>Heap.get_push_ne _ _ ho⟩;refine⟨_,_,[.sl X.next 0 0 len j.n none],(⟨ys,J⟩:{ l:List j.T // l.length≤maxLen }),CM.le_trans a1 c2,c1,a3.trans hg,.cons ?_ .nil,by simp[AV.one],?_,rfl⟩
        ·exact VR.sl (L:=⟨b,g,len*j.n,g+cap*j.n⟩) (i:=0) (CM.ext_same _ _ _ _) Am Am gO (λr e=>An) (λ_=>rfl)
        ·show ARs _ [LV.lst (ys.flatMap j.enc) ys.length j.n] _;rw[a6];refine .cons (.lst (Jb X.next) (λr e=>An) ?_ ?_ (a5.mono hg.le)) .nil
         ·have:=a5.length;omega
         ·have hr:=Tf (H:=X.push (.cells (O8 as 0 .e) as.length 0 true)) (i:=0) (n:=len*j.n) (Heap.get_push_same _ _) (jq as) (Ie _) J;rw[Jt,Io J]at hr;exact hr
     ·rw[Ig S]at z;cases z
   ·rename_i fs hu;split at z
    ·cases z
    ·rename_i l E;cases z;obtain⟨xs,n,hn,hx,gG,gV,jH⟩:=DataW.trod_struct hu h;cases hn;have gH:∀(fl:List Field) (V g:Nat) (l:ShL) (U:CM) (H:Heap),fs.toList.drop V=fl→Xa P (T4 P d) (P.cellsOf t) fl g=some l→Rel W U H W→Got W U H (cs.drop g) l.n l.T l.enc:=by
      intro fl
      induction fl with
      |nil =>
       intro V g l U H hj E C;simp only[Xa]at E;split at E
       ·rename_i he;cases E;refine⟨U,H,[],(():Unit),CM.le_refl U,C,.refl H,?_,N,.nil,rfl⟩;rw[he,←gG,List.drop_length];exact .nil
       ·cases E
      |cons fd fl jI =>
       intro V g l U H hj E C;simp only[Xa]at E;split at E
       ·cases E
       ·rename_i s z;by_cases S:fd.offset=g∧P.cellsOf fd.type=s.n
        ·rw[Ih S]at E;split at E
         ·cases E
         ·rename_i r hr;cases E;have gI:V<fs.toList.length:=by
           rcases K0 V fs.toList.length with h|h
           ·exact h
           ·rw[List.drop_eq_nil_of_le h]at hj;cases hj
          have jK:fs[V]?=some fd:=by
           rw[Iw gI]at hj;injection hj with h1 h2
           rw[←h1];simp
          have K:=jH V fd jK;rw[S.1,S.2]at K;have gK:V<xs.length:=by rw[gV];simpa using gI
          rw[H8 gK]at K;obtain⟨C1,X,Y,y,a1,a2,a3,a4,a5,a6,a7⟩:=ih d fd.type s _ _ U H z K (λb' F Z=>hz b' F Fw) C;obtain⟨C2,H2,gg,ys,b1,b2,b3,b4,b5,b6,b7⟩:=jI (V+1) (g+s.n) r C1 X (by rw[Iw gI]at hj;injection hj) hr a2;refine⟨C2,H2,Y++gg,(y,ys),CM.le_trans a1 b1,b2,a3.trans b3,?_,?_,(a6.mono b3.le).append b6,by rw[Il,a7,b7];rfl⟩
          ·have:=(a4.mono b1).append b4
           rwa [←Kh,Jp]at this
          ·intro gY hz;rcases Iy.1 hz with h|h
           ·exact a5 gY h
           ·exact b5 gY h
        ·rw[Ig S]at E;cases E
     have:=gH fs.toList 0 0 l U H N E C;rw[Jt]at this;exact this
   ·rename_i n e hu;split at z
    ·cases z
    ·rename_i j gC;by_cases S:P.cellsOf e=j.n∧P.cellsOf t=n*j.n
     case neg=>rw[Ig S]at z;cases z
     rw[Ih S]at z;cases z;obtain⟨xs,m,hm,hx,gG,gV,gj⟩:=DataW.trod_array hu h;cases hm;have gH:∀(k V:Nat) (U:CM) (H:Heap),V+k=n→Rel W U H W→Got W U H (cs.drop (V*j.n)) (zf k j).n (zf k j).T (zf k j).enc:=by
      intro k
      induction k with
      |zero =>
       intro V U H hj C;refine⟨U,H,[],(():Unit),CM.le_refl U,C,.refl H,?_,N,.nil,rfl⟩;rw[(J:V=n),←S.2,←gG,List.drop_length];exact .nil
      |succ k jL =>
       intro V U H hj C;have K:=gj V J;rw[S.1]at K;have gK:V<xs.length:=J
       rw[H8 gK]at K;obtain⟨C1,X,Y,y,a1,a2,a3,a4,a5,a6,a7⟩:=ih d e j _ _ U H gC K (λb' F Z=>hz b' F Fw) C;obtain⟨C2,H2,gg,ys,b1,b2,b3,b4,b5,b6,b7⟩:=jL (V+1) C1 X J a2;refine⟨C2,H2,Y++gg,(y,ys),CM.le_trans a1 b1,b2,a3.trans b3,?_,?_,(a6.mono b3.le).append b6,by rw[Il,a7,b7];rfl⟩
       ·have:=(a4.mono b1).append b4
        rwa [Nat.succ_mul,←Kh,Jp]at this
       ·intro gY hz;rcases Iy.1 hz with h|h
        ·exact a5 gY h
        ·exact b5 gY h
     have:=gH n 0 U H J C;rw[Kq,Jt]at this;exact this
   ·cases z
end imp
end
end
section
open Go.RowKit Go.ChangeShapes Go.WideShapes Go.ChangeAt
def Sh.arg:(s:Sh)→s.T→LV
 |.st l,x=>.agg (l.enc x)
 |.bool,x=>.bool x
 |.u,x=>.u x
 |.b,x=>.b x
 |.i,x=>.i x.1
 |.k kk,x=>.int kk x
 |.str,x=>.str x.1
 |.sl s,x=>.lst (x.1.flatMap s.enc) x.1.length s.n
def ShL.args:(l:ShL)→l.T→List LV
 |.nil,_=>[]
 |.cons s l,x=>s.arg x.1::l.args x.2
section law
variable {H : Type} {enc : TypeId × Value → H} {P : Program}
def zqf{W:World}{d F:Nat}:∀{O:List TypeId} {l:ShL} {z:List Value} {T:List (DataW H)} {Q:List MemPlace} {C:CM} {Hp:Heap},zt P d O=some l→DataW.TrodAll enc P W 0 (λ_=>true) true O z T Q→W.noneFrozen Q →
  (∀(gC:Nat) (t:TypeId) (v:Value),O[gC]?=some t→z[gC]?=some v→Value.okWide P W .any F t v)→Rel W C Hp W→∃U V as,∃y:l.T,C.le U∧Rel W U V W∧Rk Hp V∧VRs U as z∧ARs (Sm V) (l.args y) as
 |[],l,z,T,Q,C,Hp,B,X,_,_,Y=>by
  cases B;obtain⟨rfl,_,_⟩:=trodAll_nil X;exact⟨C,Hp,[],(():Unit),CM.le_refl C,Y,.refl Hp,.nil,.nil⟩
 |t::O,l,z,T,Q,C,Hp,B,X,hz,hv,Y=>by
  simp only[zt]at B;split at B
  ·cases B
  ·rename_i s g;by_cases hc:P.cellsOf t=s.n
   ·rw[Ih hc]at B;split at B
    ·cases B
    ·rename_i r hr;cases B;obtain⟨v,vs,dd,gD,p,q,rfl,rfl,rfl,⟨G,hd⟩,E⟩:=trodAll_cons X;obtain⟨Z,H1,I,y,a1,a2,a3,R,a5,S,a7⟩:=got_cells G d t s _ _ C Hp g hd (λb o hb=>hz b o (Kc _ hb)) Y;obtain⟨C2,H2,gg,ys,b1,b2,b3,b4,b5⟩:=zqf (C:=Z) (Hp:=H1) hr E (λb o hb=>hz b o (J8 _ hb)) (λgC t' v' K h2=>hv (gC+1) t' v' (by simpa using K) (by simpa using h2)) a2;have A:=hv 0 t v rfl rfl;have gj:∃a,VR Z a v∧AR (Sm H1) (s.arg y) a:=by
      cases d with
      |zero=>cases g
      |succ d =>
       have j:∀{gE:LV},s.enc y=[gE]→s.arg y=gE→v.cells.toList=[v]→∃a,VR Z a v∧AR (Sm H1) (s.arg y) a:=by
        intro gE e1 e2 e3;rw[e3]at R;rw[e1]at S;cases R with
        |cons K h2 =>
         cases S with
         |cons h3 h4=>exact⟨_,K,by rw[e2];exact h3⟩
       simp only[T4]at g;split at g
       ·rename_i hu;cases g;obtain⟨b,rfl⟩:=okWide_bool hu A;exact j rfl rfl rfl
       ·rename_i k hu;obtain⟨n,rfl⟩:=okWide_int hu A;split at g<;>cases g<;>exact j rfl rfl rfl
       ·rename_i hu;cases g;obtain⟨b,rfl⟩:=okWide_string hu A;exact j rfl rfl rfl
       ·rename_i e hu;obtain⟨a,len,cap,rfl⟩:=okWide_slice hu A;split at g
        ·cases g
        ·rename_i L gB;by_cases D:P.cellsOf e=L.n∧0<L.n
         ·rw[Ih D]at g;cases g;exact j rfl rfl rfl
         ·rw[Ig D]at g;cases g
       ·rename_i fs hu;obtain⟨M,rfl,_⟩:=okWide_struct hu A;split at g
        ·cases g
        ·rename_i l hl;cases g;exact⟨.agg I,.agg R a5,.agg S⟩
       ·rename_i n e hu;obtain⟨M,rfl⟩:∃M,v=.agg M:=by
         simp only[Value.okWide,hu]at A;obtain⟨M,K,_⟩:=A;exact⟨M,K⟩
        split at g
        ·cases g
        ·rename_i L gB;by_cases D:P.cellsOf e=L.n∧P.cellsOf t=n*L.n
         ·rw[Ih D]at g;cases g;exact⟨.agg I,.agg R a5,.agg S⟩
         ·rw[Ig D]at g;cases g
       ·cases g
     obtain⟨a,o1,o2⟩:=gj;exact⟨C2,H2,a::gg,(y,ys),CM.le_trans a1 b1,b2,a3.trans b3,.cons (o1.mono b1) b4,.cons (o2.mono b3.le) b5⟩
   ·rw[Ig hc]at B;cases B
def ig{f d:Nat}{j:List TypeId}{l:ShL}(hm:P.follows .mixedOrders=true)(z:zt P d j=some l)(h:∀y:l.T,Pz P (.fn f) (l.args y) [] λv _=>v=.bool true){W:World}{D:List (DataW H)}{C:List MemPlace}
  (E:DataW.TrodAll enc P W 0 (λ_=>true) true j v8.toList D C) (F:W.noneFrozen C) (G:∀(gg:Nat) (t:TypeId) (v:Value),j[gg]?=some t→v8.toList[gg]?=some v→Value.okWide P W .any g t v) :
  Calls P f v8 W λe A=>e=.returned (.bool true)∧Below W.heap.size W A:=by
 obtain⟨gj,I,as,y,_,K,_,L,B⟩:=zqf z E F G (Rel.start W);obtain⟨m,v1,H',M,c',v,G',q2,q3,q4,O,Q⟩:=(h y).2 (Sm I) (.fn f) as (HSim.empty (λo R=>R)) rfl B;subst Q;cases O;intro S;obtain⟨C',A,v',T,h1,U,V,X,Y,Z⟩:=zby hm (Y2 P) m W _ _ W (.fn f) as _ _ _ K L M S;cases V;exact⟨.returned (.bool true),A,T,⟨rfl,U.low⟩,X,Y,Z⟩
def zlr(F:laidOutB P=true){W G:World}(I:Below W.heap.size W G){K:Nat→Bool}:∀{A:List TypeId} {C:List Value} {D:List (DataW H)} {B:List MemPlace},(∀t∈A,P.readableRec t=true∧t<P.types.size)→DataW.TrodAll enc P W 0 (λ_=>true) true A C D B →
  (∀x∈B,x.block<W.heap.size)→(∀x∈B,K x.block=true)→DataW.TrodAll enc P G 0 K true A C D B
 |[],[],[],_,_,h,_,_=>h
 |t::A,v::C,d::D,_,E,⟨p,q,L,M,e⟩,j,z=>by
  subst e;exact⟨p,q,WideElems.Trod_stays F (E t N).1 (E t N).2 L (λx g=>I.same (j x (Kc _ g))) (λx g=>z x (Kc _ g)),
   zlr F I (λO Q=>E O Bx) M (λx g=>j x (J8 _ g)) (λx g=>z x (J8 _ g)),rfl⟩
 |[],[],_::_,_,_,h,_,_=>h.elim
 |[],_::_,_,_,_,h,_,_=>h.elim
 |_::_,[],_,_,_,h,_,_=>h.elim
 |_::_,_::_,[],_,_,h,_,_=>h.elim
def Zb{f:Func}{s:ChangeSpec}{g D:Bool}{W:World}{args:Array Value}{I gs:List (DataW H)}{A:List MemPlace}(T:DataW.Whole enc P f.params.toList s.vars L W args.toList I gs A)(j:s.vars=[])
  (E:∀F:List (DataW H),F.length=f.params.toList.length→s.fn H F={ results:=[.lit (.bool true)],args:=F }) (U:Below W.heap.size W C) (Z:laidOutB P=true) (hr:∀t∈f.params.toList,P.readableRec t=true∧t<P.types.size)
  (B:f.resultTypes=#[R]) (z:P.underlying R=some .bool):s.post enc P f L vK g D W args (.bool true) C:=by
 have K:=T;obtain⟨p,q,V,X,rfl,gg,gj⟩:=T;rw[j]at X;obtain⟨rfl,rfl⟩:=trodVars_none X;have M:I.length=f.params.toList.length:=(trodAll_length V).2;have hs:=E I M;have G:s.fn H (I++[])={ results:=[.lit (.bool true)],args:=I }:=by rw[Jd];exact hs
 have O:=K.lt;refine zrm (pa:=p) (pv:=[]) K (λb Y hd=>?_) (λY Q=>?_) (λY _=>?_) rfl U ?_
 ·rw[G,B];exact trodAll_cons_mk (shut_bool z _) trodAll_mk0
 ·rw[G];exact zlr Z U hr V (λx S=>O x (by simp[S])) (λx S=>Q x (by simp[S]))
 ·rw[G,j];rfl
 ·exact ok_one B rfl (okWide_bool_mk z _)
end law
end
section
def Oc(G:Mu)(v d:LV):Prop:=match v with
 |.tup l=>∃r,d=.tup r∧bors G l r
 |v=>bor G v d
def S0(P:Program)(f:Nat)(z:List LV)(E:LV):Prop :=
 fx P (.fn f)∧E.dat=true∧∀(B:Nat→Prop) (C:Heap) (g:List AV),(∀o,B o→o<C.next)→ARs ⟨[],B,C⟩ z g →
  ∃(m:Nat) (F:AV) (j:Nat→Prop) (A:Heap),Qr P (OL P) m (.fn f) g C=.ok F A∧C.next≤A.next∧(∀o,B o→j o)∧(∀o,j o→o<A.next∧(B o∨C.next≤o))∧(∀o,o<C.next→A.get o=C.get o)∧AR ⟨[],j,A⟩ E F
section calls
variable {P : Program}
def zvl{c:Cx}{G:Mu}(j:HSim c G)(v d:LV)(a:AV)(g:Oc G v d)(h:AR c v a):AR ⟨[],λo=>c.Fz o∨Ot c G o,c.H⟩ d a:=by
 unfold Oc at g;split at g
 ·obtain⟨r,rfl,g⟩:=g;cases h with
  |tup h=>exact .tup (bors_ok j _ _ _ g h)
 ·exact bor_ok j _ _ _ g h
def S0.mk{f:Nat}{args:List LV}{v0:LV}(hd:v0.dat=true)(h:Pz P (.fn f) args [] λv G=>Oc G v v0):S0 P f args v0:=by
 refine⟨h.1,hd,λFz H gg gB ha=>?_⟩;obtain⟨m,v1,H',q1,c1,v,G,rfl,q3,q4,q5,q6⟩:=h.2 ⟨[],Fz,H⟩ (.fn f) gg (.empty gB) rfl ha;have gj:∀o,¬Ot ⟨[],Fz,H⟩ [] o:=λo ⟨p,_,_,_,e,_⟩=>B4
 refine⟨m,v1,_,c1.H,q1,q4.nx,λo ho=>.inl (q4.le.fz o ho).1,λo ho=>⟨ho.elim (q3.fz o) (q3.lt o),?_⟩,λo ho=>q4.frame o ho (gj o),zvl q3 v v0 v1 q6 q5⟩;rcases ho with ho|ho
 ·rcases q4.fznew o ho with h|h|h
  ·exact .inl h
  ·exact absurd h (gj o)
  ·exact .inr h
 ·rcases q4.new o ho with h|h
  ·exact absurd h (gj o)
  ·exact .inr h
def zn6{c:Cx}{G:Mu}(F:HSim c G){z:Nat→Prop}(T:c.H.next≤B.next)(V:∀o,c.Fz o→z o)(R:∀o,z o→o<B.next∧(c.Fz o∨c.H.next≤o))(M:∀o,o<c.H.next→B.get o=c.H.get o) :
  HSim ⟨c.hd,z,B⟩ G∧Step c G ⟨c.hd,z,B⟩ G:=by
 have I:CxLe c ⟨c.hd,z,B⟩:=⟨λp k h e=>⟨k,h,e,Ie _,λ_=>rfl,λ_=>rfl⟩,λo g=>⟨V o g,M o (F.fz o g)⟩⟩;have j:∀o,Ot ⟨c.hd,z,B⟩ G o→Ot c G o:=λo ⟨p,A,k,h,E,C,K,L⟩=>⟨p,A,k,h,E,C,K,L⟩
 refine⟨⟨F.len,λo g=>(R o g).1,λo g=>Ix (F.lt o (j o g)) T,λo g X=>?_,λp A k h E C=>?_,λp q A H k h Y Z o E C K L S U e7 e8=>F.excl p q A H k h Y Z o E C K L S U e7 e8⟩,?_⟩
 ·rcases (R o X).2 with h|h
  ·exact F.sep o (j o g) h
  ·have:=F.lt o (j o g);omega
 ·by_cases O:A.live=true
  ·exact (F.obj p A k h E C).mono I (λo g=>M o (F.lt o ⟨p,A,k,h,E,O,C,g⟩))
  ·cases A<;>first|exact absurd rfl O|trivial
 ·refine⟨I,T,λo g _=>M o g,λo g=>.inl (j o g),λo g=>(R o g).2.elim .inl (λh=>.inr (.inr h)),λp A H E C=>?_,λp A H k h o E C K L S U=>?_⟩
  ·rw[E]at C;cases C;exact Ie _
  ·rw[E]at C;cases C;have O:A.live=true:=by cases A<;>first|rfl|cases S
   exact⟨rfl,M o (F.lt o ⟨p,A,k,h,E,O,K,L⟩),rfl⟩
def Rj{f:Nat}{G:Mu}(H:S0 P f Y O)(I:dats Y=true)(k:S O G):Pz P (.fn f) Y G S:=by
 obtain⟨K,hd,z⟩:=H;refine⟨K,λc L g E A M=>?_⟩;cases L with
 |yield o=>exact A.elim
 |fn gg =>
  obtain rfl:f=gg:=A;obtain⟨m,F,j,B,R,T,U,V,X,Z⟩:=z c.Fz c.H g E.fz (ARs.dat (c:=c) (c':=⟨[],c.Fz,c.H⟩) (λo C=>⟨C,rfl⟩) Y g I M);obtain⟨r1,r2⟩:=zn6 E T U V X;exact⟨m,F,B,R,⟨c.hd,j,B⟩,O,G,rfl,r1,r2,AR.dat (c:=⟨[],j,B⟩) (c':=⟨c.hd,j,B⟩) (λo C=>⟨C,rfl⟩) O F hd Z,k⟩
mutual
def LV.flat:LV→Bool
 |.bool _ |.u _ |.b _ |.i _ |.int _ _ |.str _ |.nilPtr |.nilSl |.nilMap |.nilFn |.nilIf=>true
 |.agg l=>flats l
 |.tup l=>flats l
 |_=>false
def flats:List LV→Bool
 |[]=>true
 |v::l=>v.flat&&flats l
end
mutual
def AR.flat{c c':Cx}(v:LV)(a:AV)(hd:v.flat=true)(h:AR c v a):AR c' v a:=by
 cases v with
 |agg l =>
  simp only[LV.flat]at hd;cases h with
  |agg h=>exact .agg (ARs.flat l _ hd h)
 |tup l =>
  simp only[LV.flat]at hd;cases h with
  |tup h=>exact .tup (ARs.flat l _ hd h)
 |_=>first|(simp only[LV.flat]at hd;cases hd;done)|(cases h;constructor)
termination_by SizeOf.sizeOf v
def ARs.flat{c c':Cx}(l:List LV)(r:List AV)(hd:flats l=true)(h:ARs c l r):ARs c' l r:=by
 cases l with
 |nil=>cases h;exact .nil
 |cons v l =>
  simp only[flats,H7]at hd;cases h with
  |cons e es=>exact .cons (AR.flat v _ hd.1 e) (ARs.flat l _ hd.2 es)
termination_by SizeOf.sizeOf l
end
end calls
def Nf.lives{P:Program}{f:Nat}(ht:cq P f=true∧vj P f=false)(hl:vp P f=true)(hr:zad P f):Nf P f [] (.bool true) []:=by
 refine⟨ht,rfl,λgj ob e=>B4,λFz H j gg ha=>?_⟩;cases ha;refine⟨1,.bool true,[],H,?_,.empty gg,.bool true,Ie _,λ_ _=>rfl,λo ⟨p,_,_,_,e,_⟩=>B4⟩;unfold Qr;dsimp only;rw[ow hl hr]
section cuts
variable {P : Program} {f n : Nat} {ro : Option Nat} {ρ : My} {D : List Nat} {G : Mu} {Q : O6}
end cuts
attribute [simp] Oc LV.flat flats
end

section
def Qn(b:Nat)(G:Mu)(v:LV)(esz n:Nat)(l:List LV):Prop :=
 (v=.nilSl∧n=0∧l=[])∨∃(p k:Nat) (g:List LV) (m st:Nat),b≤p∧G[p]?=some (.dyn g m esz k st)∧g.length=m*esz∧n≤m∧l=g.take (n*esz)∧((v=.dy p k∧n=m)∨v=.vw p k 0 n)
section stk
variable {b : Nat} {G G' : Mu} {v : LV} {esz n : Nat} {l x : List LV}
def Qn.nil:Qn b G .nilSl esz 0 []:=.inl ⟨rfl,rfl,rfl⟩
def Qn.dy{p k st:Nat}(hb:b≤p)(hp:G[p]?=some (.dyn l n esz k st))(hl:l.length=n*esz):Qn b G (.dy p k) esz n l :=
 .inr ⟨p,k,l,n,st,hb,hp,hl,Ie _,by rw[Io J],.inl ⟨rfl,rfl⟩⟩
def Qn.length(h:Qn b G v esz n l):l.length=n*esz:=by
 rcases h with ⟨_,rfl,rfl⟩|⟨p,k,R,m,st,_,_,h2,h3,rfl,_⟩
 ·simp
 ·have:=Im esz h3;rw[Ir];omega
def Qn.frame(h:Qn b G v esz n l)(hf:∀q,b≤q→G'[q]?=G[q]?):Qn b G' v esz n l:=by
 rcases h with h|⟨p,k,R,m,st,h1,h2,h3⟩
 ·exact .inl h
 ·exact .inr ⟨p,k,R,m,st,h1,by rw[hf p h1];exact h2,h3⟩
def Qn.set_lt(h:Qn b G v esz n l){q:Nat}{ob:LObj}(hq:q<b):Qn b (G.set q ob) v esz n l :=
 h.frame λr hr=>H6 J
def Qn.push_end(h:Qn b G v esz n l){ob:List LObj}:Qn b (G++ob) v esz n l:=by
 rcases h with h|⟨p,k,R,m,st,h1,h2,h3⟩
 ·exact .inl h
 ·exact .inr ⟨p,k,R,m,st,h1,by rw[Ib (H5.1 h2).1];exact h2,h3⟩
def Qn.lenL(h:Qn b G v esz n l){K:Nat→Prop}(k:K n):lenL G v K:=by
 rcases h with ⟨rfl,rfl,_⟩|⟨p,gg,R,m,st,_,h1,_,_,_,⟨rfl,rfl⟩|rfl⟩
 ·exact k
 ·rw[lenL_dy,h1];exact⟨rfl,k⟩
 ·rw[lenL_vw,h1];exact⟨rfl,k⟩
def Qn.push(h:Qn b G v esz n l)(hz:0<esz)(hb:b≤G.length)(hn:n≤1000000000)(hx:x.length=esz){K:LV→Mu→Prop}
  (k:∀v' G',Qn b G' v' esz (n+1) (l++x)→(∀q,q<b→G'[q]?=G[q]?)→b≤G'.length→K v' G'):Pj G esz v 1 x K:=by
 have gj:=h.length;have fresh:∀l',l'=l++x→K (.dy G.length 0) (G++[.dyn l' (n+1) esz 0 0]):=by
  rintro l' rfl;refine k _ _ (.dy hb (st:=0) Jf (by rw[Il,gj,hx,I2];omega)) (λq hq=>Ib J) Ab
 rcases h with ⟨rfl,rfl,rfl⟩|⟨p,gB,R,m,st,h0,h1,h2,h3,rfl,⟨rfl,rfl⟩|rfl⟩
 ·rw[appL_nil];exact fresh _ rfl
 ·have hp:p<G.length:=(H5.1 h1).1;rw[Io J]at k;rw[appL_dy,h1];refine⟨rfl,⟨rfl,hz⟩,hn,k _ _ (.dy h0 (Ia hp) Cw) (λq hq=>H6 J) Dw⟩
 ·have hp:p<G.length:=(H5.1 h1).1;have hm:=Im esz h3;have ha:(n+1)*esz=n*esz+esz:=En
  rw[appL_vw,h1];refine⟨rfl,⟨rfl,rfl,J⟩,hn,?_⟩;by_cases hf:(n+1)*esz≤R.length
  ·rw[Ih hf];have gg:n+1≤m:=by
    rw[h2]at hf;exact Mq hf hz
   refine⟨k _ _ (.inr ⟨p,gB,_,m,_,h0,Ia hp,?_,gg,?_,.inr rfl⟩) (λq hq=>H6 J) Dw,fresh _ rfl⟩
   ·unfold Nh;simp;omega
   ·unfold Nh;have e1:(R.take (n*esz)++x).length=(n+1)*esz:=by rw[Il,gj,hx,ha]
    rw[K7 e1]
  ·rw[Ig hf];have gg:n=m:=by
    rw[h2]at hf;have:¬n+1≤m:=λq=>hf (Im _ q)
    omega
   subst gg;have ht:R.take (n*esz)=R:=Io J;rw[ht]at k fresh;exact⟨rfl,hz,k _ _ (.dy h0 (Ia hp) Cw) (λq hq=>H6 J) Dw,fresh _ rfl⟩
def Qn.cut(h:Qn b G v esz n l){m:Nat}(hm:m≤n){lo:(Nat→Prop)→Prop}{hi:Nat→(Nat→Prop)→Prop}(gg:∀K':Nat→Prop,K' 0→lo K')(gj:∀(d:Nat) (K':Nat→Prop),K' m→hi d K'){K:LV→Prop}
  (k:∀v',Qn b G v' esz m (l.take (m*esz))→K v'):Yg G esz v lo hi K:=by
 rcases h with ⟨rfl,rfl,rfl⟩|⟨p,gB,R,m',st,h0,h1,h2,h3,rfl,⟨rfl,rfl⟩|rfl⟩
 ·have:m=0:=J
  subst this;rw[slL_nil];exact gg _ (gj _ _ ⟨rfl,rfl,k _ (.inl ⟨rfl,rfl,N⟩)⟩)
 ·rw[slL_dy,h1];refine⟨rfl,rfl,gg _ (gj _ _ ⟨J,hm,k _ (.inr ⟨p,gB,R,n,st,h0,h1,h2,hm,?_,.inr rfl⟩)⟩)⟩;rw[Lj,Jr (Im _ hm)]
 ·rw[slL_vw,h1];refine⟨rfl,rfl,gg _ (gj _ _ ⟨J,hm,k _ (.inr ⟨p,gB,R,m',st,h0,h1,h2,J,?_,.inr rfl⟩)⟩)⟩;rw[Lj,Jr (Im _ hm)]
def Qn.ix(h:Qn b G v esz n l){i:Int}(h0:0≤i)(hi:i<n){K:LV→Prop}
  (k:∀(p j:Nat) (R:List LV) (m st:Nat),b≤p→G[p]?=some (.dyn R m esz j st)→(∀gg,gg<n*esz→R[gg]?=l[gg]?)→n*esz≤R.length→K (.dptr p j (i.toNat*esz))):Vm G esz v i K:=by
 rcases h with ⟨rfl,rfl,rfl⟩|⟨p,j,R,m',st,h1,h2,h3,h4,rfl,⟨rfl,rfl⟩|rfl⟩
 ·omega
 ·rw[wh,h2];exact⟨rfl,rfl,h0,hi,k _ _ _ _ _ h1 h2 (λgg hj=>by rw[I1 hj]) J⟩
 ·rw[zp9,h2];have:=Im esz h4;refine⟨rfl,rfl,h0,hi,?_⟩;rw[I7];exact k _ _ _ _ _ h1 h2 (λgg hj=>by rw[I1 hj]) J
def Rw(b:Nat)(G:Mu)(v:LV)(esz n:Nat)(l:List LV):Prop :=
 (v=.nilSl∧n=0∧l=[])∨∃(p k st:Nat),b≤p∧v=.dy p k∧G[p]?=some (.dyn l n esz k st)∧l.length=n*esz
def Rw.nil:Rw b G .nilSl esz 0 []:=.inl ⟨rfl,rfl,rfl⟩
def Rw.frame(h:Rw b G v esz n l)(hf:∀q,b≤q→G'[q]?=G[q]?):Rw b G' v esz n l:=by
 rcases h with h|⟨p,k,st,h1,h2,h3,h4⟩
 ·exact .inl h
 ·exact .inr ⟨p,k,st,h1,h2,by rw[hf p h1];exact h3,h4⟩
def Rw.set_lt(h:Rw b G v esz n l){q:Nat}{ob:LObj}(hq:q<b):Rw b (G.set q ob) v esz n l :=
 h.frame λr hr=>H6 J
def Rw.set_cells(h:Rw b G v esz n l){q st:Nat}{c:List LV}{ob:LObj}(hq:G[q]?=some (.cells c st)):Rw b (G.set q ob) v esz n l:=by
 rcases h with h|⟨p,k,s,h1,h2,h3,h4⟩
 ·exact .inl h
 ·refine .inr ⟨p,k,s,h1,h2,?_,h4⟩;rw[H6 (λe=>by rw[e,h3]at hq;cases hq)];exact h3
def Rw.push_end(h:Rw b G v esz n l){ob:List LObj}:Rw b (G++ob) v esz n l:=by
 rcases h with h|⟨p,k,st,h1,h2,h3,h4⟩
 ·exact .inl h
 ·exact .inr ⟨p,k,st,h1,h2,by rw[Ib (H5.1 h3).1];exact h3,h4⟩
def Rw.push(h:Rw b G v esz n l)(hz:0<esz)(hb:b≤G.length)(hn:n≤1000000000){m:Nat}(hx:x.length=m*esz){K:LV→Mu→Prop}
  (k:∀v' G',Rw b G' v' esz (n+m) (l++x)→(∀q,q<b→G'[q]?=G[q]?)→b≤G'.length→K v' G'):Pj G esz v m x K:=by
 rcases h with ⟨rfl,rfl,rfl⟩|⟨p,gg,st,h1,rfl,h2,h3⟩
 ·rw[appL_nil];refine k _ _ (.inr ⟨_,0,0,hb,rfl,?_,by simpa using hx⟩) (λq hq=>Ib J) Ab;rw[I7];exact Jf
 ·have hp:p<G.length:=(H5.1 h2).1;rw[appL_dy,h2];exact⟨rfl,⟨rfl,hz⟩,hn,k _ _ (.inr ⟨p,gg+1,st+1,h1,rfl,Ia hp,by rw[Il,h3,hx,I2]⟩) (λq hq=>H6 J) Dw⟩
def Rw.cells(h:Rw b G v esz n l):v.cells=some [v]:=by
 rcases h with ⟨rfl,_⟩|⟨_,_,_,_,rfl,_⟩<;>rfl
def Rw.bor(h:Rw b G v esz n l)(hd:dats l=true):Go.Sv.bor G v (.lst l n esz):=by
 rcases h with ⟨rfl,rfl,rfl⟩|⟨p,k,st,_,rfl,h2,_⟩
 ·exact .inr ⟨_,rfl⟩
 ·exact⟨_,_,_,_,rfl,h2,hd⟩
def Qn.cells(h:Qn b G v esz n l):v.cells=some [v]:=by
 rcases h with ⟨rfl,_⟩|⟨_,_,_,_,_,_,_,_,_,_,⟨rfl,_⟩|rfl⟩<;>rfl
end stk
end
def HSim.freeze'{c:Cx}{G:Mu}(hs:HSim c G){p k st:Nat}{x:AV}{ob:LObj}(hG:G[p]?=some ob)(hl:ob.live=true)(gD:ob.st<st)(hp:c.hd[p]?=some (k,x)) :
  HSim ⟨c.hd,λq=>c.Fz q∨Nk x=some q,c.H⟩ (G.set p (.dead st))∧Step c G ⟨c.hd,λq=>c.Fz q∨Nk x=some q,c.H⟩ (G.set p (.dead st)):=by
 have gE:p<G.length:=(H5.1 hG).1;have hle:CxLe c ⟨c.hd,λq=>c.Fz q∨Nk x=some q,c.H⟩:=⟨λp k h e=>⟨k,h,e,Ie _,λ_=>rfl,λ_=>rfl⟩,λq hq=>⟨.inl hq,rfl⟩⟩;have gB:∀q,Nk x=some q→Ot c G q:=λq hq=>⟨p,ob,k,x,hG,hl,hp,hq⟩
 have hinv:∀{q:Nat} {gg:LObj},(G.set p (.dead st))[q]?=some gg→(q=p∧gg=.dead st)∨(q≠p∧G[q]?=some gg):=by
  intro q gg e;by_cases hq:q=p
  ·subst hq;rw[Ia gE]at e;cases e;exact .inl ⟨rfl,rfl⟩
  ·rw[H6 (Ne.symm hq)]at e;exact .inr ⟨hq,e⟩
 have gj:∀q,Ot ⟨c.hd,λq=>c.Fz q∨Nk x=some q,c.H⟩ (G.set p (.dead st)) q→Ot c G q∧Nk x≠some q:=by
  rintro q ⟨p1,gg,k1,h1,e1,e2,e3,e4⟩;rcases hinv e1 with ⟨_,rfl⟩|⟨gF,e1⟩
  ·cases e2
  ·exact⟨⟨p1,gg,k1,h1,e1,e2,e3,e4⟩,λhq=>gF (hs.excl p1 p gg ob k1 h1 k x q e1 hG e2 hl e3 hp e4 hq)⟩
 refine⟨⟨Dt,λq hq=>hq.elim (hs.fz q) (λe=>hs.lt q (gB q e)),λq hq=>hs.lt q (gj q hq).1,λq hq hf=>hf.elim (hs.sep q (gj q hq).1) (gj q hq).2,λq gg k1 h1 e1 e2=>?_,?_⟩,⟨hle,Ie _,λ_ _ _=>rfl,λq hq=>.inl (gj q hq).1,λq hq=>hq.elim .inl (λe=>.inr (.inl (gB q e))),λq gg gC e1 e2=>?_,λq gg gC k1 h1 o1 e1 e2 e3 e4 e5 e6=>?_⟩⟩
 ·rcases hinv e1 with ⟨_,rfl⟩|⟨_,e1⟩
  ·trivial
  ·by_cases gG:gg.live=true
   ·exact (hs.obj q gg k1 h1 e1 e2).mono hle (λ_ _=>rfl)
   ·cases gg<;>first|exact absurd rfl gG|trivial
 ·intro q r gg gC k1 h1 k2 h2 o1 e1 e2 e3 e4 e5 e6 e7 e8;rcases hinv e1 with ⟨_,rfl⟩|⟨_,e1⟩
  ·cases e3
  ·rcases hinv e2 with ⟨_,rfl⟩|⟨_,e2⟩
   ·cases e4
   ·exact hs.excl q r gg gC k1 h1 k2 h2 o1 e1 e2 e3 e4 e5 e6 e7 e8
 ·rcases hinv e2 with ⟨rfl,rfl⟩|⟨_,e2⟩
  ·rw[hG]at e1;cases e1;exact Mm gD
  ·rw[e1]at e2;cases e2;exact Ie _
 ·rcases hinv e2 with ⟨rfl,rfl⟩|⟨_,e2⟩
  ·rw[hG]at e1;cases e1;have:ob.st=st:=e6;omega
  ·rw[e1]at e2;cases e2;exact⟨rfl,rfl,rfl⟩
def ARs.parts{c:Cx}:∀{a b:List LV} {v:LV} {r:List AV},ARs c (a++v::b) r→∃ra x rb,r=ra++x::rb∧ARs c a ra∧AR c v x∧ARs c b rb
 |[],b,v,r,h=>by
  cases h with
  |cons e es=>exact⟨[],_,_,rfl,.nil,e,es⟩
 |w::a,b,v,r,h=>by
  cases h with
  |cons e es =>
   obtain⟨ra,x,rb,rfl,h1,h2,h3⟩:=ARs.parts (a:=a) es;exact⟨_::ra,x,rb,rfl,.cons e h1,h2,h3⟩
def ARs.join{c:Cx}:∀{a b:List LV} {v:LV} {ra rb:List AV} {x:AV},ARs c a ra→AR c v x→ARs c b rb→ARs c (a++v::b) (ra++x::rb)
 |[],_,_,_,_,_,h1,h2,h3=>by cases h1;exact .cons h2 h3
 |_::a,_,_,_,_,_,h1,h2,h3=>by
  cases h1 with
  |cons e es=>exact .cons e (ARs.join es h2 h3)
def Yl{t:LTgt}{a b:List LV}{p k len st:Nat}{l:List LV}(L:M[p]?=some (.dyn l len g k st))(h:Pz z t (a++.lst l len g::b) (M.set p (.dead (st+1))) S) :
  Pz z t (a++.dy p k::b) M S:=by
 refine⟨h.1,λc C D E F V=>?_⟩;obtain⟨ra,x,rb,rfl,X,Y,Z⟩:=V.parts;cases Y with
 | @dy _ _ k' O _ e hk G gg =>
  obtain⟨r0,H,j⟩:=E.obj p _ _ _ L e;have I:=G J;obtain⟨P,B⟩:=E.freeze' (st:=st+1) L rfl (Jb _) e;have hx:AR ⟨c.hd,λq=>c.Fz q∨Nk O=some q,c.H⟩ (.lst l len g) x:=by
   rw[I];rcases j with ⟨j,K⟩|⟨o,v,Q,t,R,l',j,K,r4,r5,T,r7,r8⟩
   ·subst K;have hl:l=[]:=Iu Dd;subst hl;rw[j];exact .lstNil
   ·have gj:l'.length=len*g:=by rw[←T.length];exact H
    have U:=Tf (i:=0) (n:=len*g) K r5 r4 J;rw[Jt,Io J]at U;rw[j];exact .lst (.inr rfl) (λr e=>(r7 r e).2) H U (T.mono (j ▸ B.le))
  have A:se ⟨c.hd,λq=>c.Fz q∨Nk O=some q,c.H⟩ t C:=by
   cases t<;>cases C<;>exact F
  obtain⟨m,v1,H',q1,c1,v,G1,q2,q3,q4,q5,q6⟩:=h.2 _ C _ P A (.join (X.mono B.le) hx (Z.mono B.le));exact⟨m,v1,H',q1,c1,v,G1,q2,q3,B.trans E P q4,q5,q6⟩
section
def HSim.sub{c:Cx}{G:Mu}(hs:HSim c G){p len esz ver st:Nat}{l l':List LV}(hG:G[p]?=some (.dyn l len esz ver st))(hl:∀r,ARs c l r→ARs c l' r) :
  HSim c (G.set p (.dyn l' len esz ver (st+1)))∧Step c G c (G.set p (.dyn l' len esz ver (st+1))):=by
 have gE:p<G.length:=(H5.1 hG).1;have hle:CxLe c c:=⟨λp k h e=>⟨k,h,e,Ie _,λ_=>rfl,λ_=>rfl⟩,λq hq=>⟨hq,rfl⟩⟩;have hinv:∀{q:Nat} {gg:LObj},(G.set p (.dyn l' len esz ver (st+1)))[q]?=some gg→(q=p∧gg=.dyn l' len esz ver (st+1))∨(q≠p∧G[q]?=some gg):=by
  intro q gg e;by_cases hq:q=p
  ·subst hq;rw[Ia gE]at e;cases e;exact .inl ⟨rfl,rfl⟩
  ·rw[H6 (Ne.symm hq)]at e;exact .inr ⟨hq,e⟩
 have gj:∀{q:Nat} {gg:LObj},(G.set p (.dyn l' len esz ver (st+1)))[q]?=some gg→gg.live=true→∃gB,G[q]?=some gB∧gB.live=true:=by
  intro q gg e gF;rcases hinv e with ⟨rfl,rfl⟩|⟨_,e⟩
  ·exact⟨_,hG,rfl⟩
  ·exact⟨_,e,gF⟩
 have gC:∀q,Ot c (G.set p (.dyn l' len esz ver (st+1))) q→Ot c G q:=by
  rintro q ⟨p1,gg,k1,h1,e1,e2,e3,e4⟩;obtain⟨gB,f1,f2⟩:=gj e1 e2;exact⟨p1,gB,k1,h1,f1,f2,e3,e4⟩
 refine⟨⟨Dt,hs.fz,λq hq=>hs.lt q (gC q hq),λq hq=>hs.sep q (gC q hq),λq gg k1 h1 e1 e2=>?_,?_⟩,⟨hle,Ie _,λ_ _ _=>rfl,λq hq=>.inl (gC q hq),λq hq=>.inl hq,λq gg gB e1 e2=>?_,λq gg gB k1 h1 o1 e1 e2 e3 e4 e5 e6=>?_⟩⟩
 ·rcases hinv e1 with ⟨rfl,rfl⟩|⟨_,e1⟩
  ·obtain⟨a1,a2,a3⟩:=hs.obj q _ k1 h1 hG e2;rcases a3 with ⟨b1,b2⟩|⟨o,v,room,t,gD,lr,b1,b2,b3,b4,b5,b6,b7⟩
   ·have gG:l=[]:=Iu (by rw[a2,b2];simp);subst gG;have h9:=hl [] .nil;cases h9;exact⟨a1,a2,.inl ⟨b1,b2⟩⟩
   ·have h9:=hl _ b5;exact⟨a1,by rw[h9.length,←b5.length];exact a2,.inr ⟨o,v,room,t,gD,lr,b1,b2,b3,b4,h9,b6,b7⟩⟩
  ·exact hs.obj q gg k1 h1 e1 e2
 ·intro q r gg gB k1 h1 k2 h2 o1 e1 e2 e3 e4 e5 e6 e7 e8;obtain⟨gH,f1,f2⟩:=gj e1 e3;obtain⟨gI,f3,f4⟩:=gj e2 e4;exact hs.excl q r gH gI k1 h1 k2 h2 o1 f1 f3 f2 f4 e5 e6 e7 e8
 ·rcases hinv e2 with ⟨rfl,rfl⟩|⟨_,e2⟩
  ·rw[hG]at e1;cases e1;exact K9 _
  ·rw[e1]at e2;cases e2;exact Ie _
 ·rcases hinv e2 with ⟨rfl,rfl⟩|⟨_,e2⟩
  ·rw[hG]at e1;cases e1;have:st=st+1:=e6;omega
  ·rw[e1]at e2;cases e2;exact⟨rfl,rfl,rfl⟩
section sub
variable {P : Program} {G : Mu} {p len esz ver st : Nat} {l l' : List LV}
def cm{f n:Nat}{s:LC}{ρ:My}{gg:O6}(C:G[p]?=some (.dyn l len esz ver st))(D:∀c r,ARs c l r→ARs c l' r)(k:W P f n s V ρ Z (G.set p (.dyn l' len esz ver (st+1))) gg):W P f n s V ρ Z G gg:=by
 intro g c gj E j F H A I K L;obtain⟨B,M⟩:=A.sub C (D c);obtain⟨m,x,O,z,Q,R,S,T,U,X,Y,q4,q5,q6⟩:=k g c gj E j F H B I K L;exact⟨m,x,O,z,Q,R,S,T,U,X,Step.trans A B M Y,q4,q5,q6⟩
def zs0{t:LTgt}{args':List LV}(h:∀c r,ARs c Y r→ARs c args' r)(k:Pz P t args' G S):Pz P t Y G S :=
 ⟨k.1,λc j g z A B=>k.2 c j g z A (h c _ B)⟩
end sub
def im{c:Cx}{a:AV}(h:AR c .nilSl a):AR c (.lst [] 0 1) a:=by cases h;exact .lstNil
def zqc{c:Cx}:∀(n:Nat) (r:List AV),ARs c (Na [.nilSl] n) r→ARs c (List.replicate n (.lst [] 0 1)) r
 |0,_,h=>h
 |n+1,_,h=>by
  cases h with
  |cons e g=>exact .cons (im e) (zqc n _ g)
end


section
def zot{l:List LV}(h:∀v∈l,v.dat=true):dats l=true:=by
 induction l with
 |nil=>rfl
 |cons v l g=>rw[dats,h v (J9 ..),g λw hw=>h w (Jc _ hw)];rfl
def zf4{l:List LV}(h:dats l=true):∀v∈l,v.dat=true:=by
 induction l with
 |nil=>intro v g;cases g
 |cons w l j =>
  rw[dats,H7]at h;intro v g;rcases Ij.1 g with rfl|g
  ·exact h.1
  ·exact j h.2 v g
def zid{l:List LV}(n:Nat)(h:dats l=true):dats (l.take n)=true:=zot λv g=>zf4 h v (Lf g)
def zs9{l:List LV}(n:Nat)(h:dats l=true):dats (l.drop n)=true:=zot λv g=>zf4 h v (J1 g)
def ud{a b:List LV}(h:dats a=true)(k:dats b=true):dats (a++b)=true:=zot λv g=>(Iy.1 g).elim (zf4 h v) (zf4 k v)
def zex{l r:List LV}{i:Nat}(h:dats l=true)(k:dats r=true):dats (Nh l i r)=true:=by
 unfold Nh;exact ud (ud (zid _ h) k) (zs9 _ h)
def Mv{G x:Mu}{i:Nat}(h:i<G.length):(G++x)[i]?=G[i]?:=Ib h
def Nt(b:Nat)(G:Mu)(v:LV)(esz n:Nat)(l:List LV):Prop :=
 (v=.nilSl∧n=0∧l=[])∨∃(p k:Nat) (g:List LV) (m st:Nat),b≤p∧G[p]?=some (.dyn g m esz k st)∧g.length=m*esz∧n≤m∧l=g.take (n*esz)∧dats g=true∧((v=.dy p k∧n=m)∨v=.vw p k 0 n)
section std
variable {b : Nat} {G G' : Mu} {v : LV} {esz n : Nat} {l x : List LV}
def Nt.nil:Nt b G .nilSl esz 0 []:=.inl ⟨rfl,rfl,rfl⟩
def Nt.stk(h:Nt b G v esz n l):Qn b G v esz n l:=by
 rcases h with h|⟨p,k,R,m,st,h1,h2,h3,h4,h5,_,h6⟩
 ·exact .inl h
 ·exact .inr ⟨p,k,R,m,st,h1,h2,h3,h4,h5,h6⟩
def Nt.dy{p k st:Nat}(hb:b≤p)(hp:G[p]?=some (.dyn l n esz k st))(hl:l.length=n*esz)(hd:dats l=true):Nt b G (.dy p k) esz n l :=
 .inr ⟨p,k,l,n,st,hb,hp,hl,Ie _,by rw[Io J],hd,.inl ⟨rfl,rfl⟩⟩
def Nt.frame(h:Nt b G v esz n l)(hf:∀q,b≤q→q<G.length→G'[q]?=G[q]?):Nt b G' v esz n l:=by
 rcases h with h|⟨p,k,R,m,st,h1,h2,h3⟩
 ·exact .inl h
 ·exact .inr ⟨p,k,R,m,st,h1,by rw[hf p h1 (H5.1 h2).1];exact h2,h3⟩
def Nt.set_lt(h:Nt b G v esz n l){q:Nat}{ob:LObj}(hq:q<b):Nt b (G.set q ob) v esz n l :=
 h.frame λr hr _=>H6 J
def Nt.push_end(h:Nt b G v esz n l){ob:List LObj}:Nt b (G++ob) v esz n l :=
 h.frame λ_ _ hr=>Ib hr
def Nt.bor(h:Nt b G v esz n l):Go.Sv.bor G v (.lst l n esz):=by
 rcases h with ⟨rfl,rfl,rfl⟩|⟨p,k,R,m,st,h1,h2,h3,h4,rfl,hd,⟨rfl,rfl⟩|rfl⟩
 ·exact .inr ⟨_,rfl⟩
 ·exact⟨R,_,_,_,by rw[Io J],h2,hd⟩
 ·have:=Im esz h4;exact⟨R,_,_,_,by rw[Kq,Jt],h2,J,hd⟩
def Nt.lenL(h:Nt b G v esz n l){K:Nat→Prop}(k:K n):Go.Sv.lenL G v K:=h.stk.lenL k
def Nt.cells(h:Nt b G v esz n l):v.cells=some [v]:=h.stk.cells
def Nt.at1(h:Nt b G v 1 n l){i:Int}(h0:0≤i)(hi:i<n){K:LV→Prop}(k:∀a,(∀K':LV→Prop,N6 l i.toNat K'→Ui G a K')→K a):Vm G 1 v i K:=by
 refine h.stk.ix h0 hi λp gg R m st h1 h2 h3 h4=>k _ λK' hk=>?_
 rw[read1_dptr,h2];obtain⟨w,hw,hk⟩:=hk;refine⟨rfl,w,?_,hk⟩;rw[Kr]at h3 ⊢;rw[h3 _ J];exact hw
def Q9:LV→Option Nat
 |.dy p _=>some p
 |.vw p _ _ _=>some p
 |_=>none
def Nt.frame2(h:Nt b G v esz n l)(hf:∀q,Q9 v=some q→G'[q]?=G[q]?):Nt b G' v esz n l:=by
 rcases h with h|⟨p,k,R,m,st,h1,h2,h3,h4,h5,h6,h7⟩
 ·exact .inl h
 ·refine .inr ⟨p,k,R,m,st,h1,?_,h3,h4,h5,h6,h7⟩;rw[hf p (by rcases h7 with ⟨rfl,_⟩|rfl<;>rfl)];exact h2
def Nt.row(h:Nt b G v esz n l){q:Nat}(hq:Q9 v=some q):b≤q∧q<G.length∧∃R m k st,G[q]?=some (.dyn R m esz k st):=by
 rcases h with ⟨rfl,_⟩|⟨p,k,R,m,st,h1,h2,h3,h4,h5,h6,⟨rfl,_⟩|rfl⟩
 ·cases hq
 ·cases hq;exact⟨h1,(H5.1 h2).1,_,_,_,_,h2⟩
 ·cases hq;exact⟨h1,(H5.1 h2).1,_,_,_,_,h2⟩
def Nt.cut2(h:Nt b G v esz n l){m:Nat}(hm:m≤n){lo:(Nat→Prop)→Prop}{hi:Nat→(Nat→Prop)→Prop}(gg:∀K':Nat→Prop,K' 0→lo K')(gj:∀(d:Nat) (K':Nat→Prop),K' m→hi d K'){K:LV→Prop}
  (k:∀v',Nt b G v' esz m (l.take (m*esz))→Q9 v'=Q9 v→K v'):Yg G esz v lo hi K:=by
 rcases h with ⟨rfl,rfl,rfl⟩|⟨p,gB,R,m',st,h0,h1,h2,h3,rfl,hd,⟨rfl,rfl⟩|rfl⟩
 ·have:m=0:=J
  subst this;rw[slL_nil];exact gg _ (gj _ _ ⟨rfl,rfl,k _ (.inl ⟨rfl,rfl,N⟩) rfl⟩)
 ·rw[slL_dy,h1];refine⟨rfl,rfl,gg _ (gj _ _ ⟨J,hm,k _ (.inr ⟨p,gB,R,n,st,h0,h1,h2,hm,?_,hd,.inr rfl⟩) rfl⟩)⟩;rw[Lj,Jr (Im _ hm)]
 ·rw[slL_vw,h1];refine⟨rfl,rfl,gg _ (gj _ _ ⟨J,hm,k _ (.inr ⟨p,gB,R,m',st,h0,h1,h2,J,?_,hd,.inr rfl⟩) rfl⟩)⟩;rw[Lj,Jr (Im _ hm)]
def Nt.push2(h:Nt b G v esz n l)(hz:0<esz)(hb:b≤G.length)(hn:n≤1000000000)(hx:x.length=esz)(gg:dats x=true){K:LV→Mu→Prop}
  (k:∀(v':LV) (G':Mu),Nt b G' v' esz (n+1) (l++x)→(∀q,q<G.length→Q9 v≠some q→G'[q]?=G[q]?)→G.length≤G'.length→(Q9 v'=Q9 v∨Q9 v'=some G.length)→K v' G'):Pj G esz v 1 x K:=by
 have gB:=h.stk.length;have fresh:∀l',l'=l++x→dats l'=true→K (.dy G.length 0) (G++[.dyn l' (n+1) esz 0 0]):=by
  rintro l' rfl hd;refine k _ _ (.dy hb (st:=0) Jf (by rw[Il,gB,hx,I2];omega) hd) (λq hq _=>Ib hq) N (.inr rfl)
 rcases h with ⟨rfl,rfl,rfl⟩|⟨p,gC,R,m,st,h0,h1,h2,h3,rfl,hd,⟨rfl,rfl⟩|rfl⟩
 ·rw[appL_nil];exact fresh _ rfl gg
 ·have hp:p<G.length:=(H5.1 h1).1;rw[Io J]at k;rw[appL_dy,h1];refine⟨rfl,⟨rfl,hz⟩,hn,k _ _ (.dy h0 (Ia hp) Cw (ud hd gg)) (λq _ hq=>H6 (λe=>hq (by rw[←e];rfl))) N (.inl rfl)⟩
 ·have hp:p<G.length:=(H5.1 h1).1;have hm:=Im esz h3;have ha:(n+1)*esz=n*esz+esz:=En
  rw[appL_vw,h1];refine⟨rfl,⟨rfl,rfl,J⟩,hn,?_⟩;by_cases hf:(n+1)*esz≤R.length
  ·rw[Ih hf];have gj:n+1≤m:=by
    rw[h2]at hf;exact Mq hf hz
   refine⟨k _ _ (.inr ⟨p,gC,_,m,_,h0,Ia hp,?_,gj,?_,zex hd gg,.inr rfl⟩) (λq _ hq=>H6 (λe=>hq (by rw[←e];rfl))) N (.inl rfl),fresh _ rfl (ud (zid _ hd) gg)⟩
   ·unfold Nh;simp;omega
   ·unfold Nh;have e1:(R.take (n*esz)++x).length=(n+1)*esz:=by rw[Il,gB,hx,ha]
    rw[K7 e1]
  ·rw[Ig hf];have gj:n=m:=by
    rw[h2]at hf;have:¬n+1≤m:=λq=>hf (Im _ q)
    omega
   subst gj;have ht:R.take (n*esz)=R:=Io J;rw[ht]at k fresh;refine⟨rfl,hz,k _ _ (.dy h0 (Ia hp) Cw (ud hd gg)) (λq _ hq=>H6 (λe=>hq (by rw[←e];rfl))) N (.inl rfl),fresh _ rfl (ud hd gg)⟩
end std
end
section
section deep
variable {P : Program}
end deep
end
section
def Rq(b:Nat)(G:Mu)(v:LV)(esz n:Nat)(l:List LV):Prop :=
 dats l=true∧l.length=n*esz∧((v=.nilSl∧n=0∧l=[])∨∃(p k st:Nat),b≤p∧v=.dy p k∧G[p]?=some (.dyn l n esz k st))
section dys
variable {b : Nat} {G G' : Mu} {v : LV} {esz n : Nat} {l x : List LV}
def Rq.nil:Rq b G .nilSl esz 0 []:=⟨rfl,N,.inl ⟨rfl,rfl,rfl⟩⟩
def Rq.frame(h:Rq b G v esz n l)(hf:∀q,b≤q→q<G.length→G'[q]?=G[q]?):Rq b G' v esz n l:=by
 obtain⟨h1,h2,h|⟨p,k,st,a,e,c⟩⟩:=h
 ·exact⟨h1,h2,.inl h⟩
 ·exact⟨h1,h2,.inr ⟨p,k,st,a,e,by rw[hf p a (H5.1 c).1];exact c⟩⟩
def Rq.push_end(h:Rq b G v esz n l){ob:List LObj}:Rq b (G++ob) v esz n l :=
 h.frame λ_ _ hr=>Ib hr
def Rq.push{c:Nat}(h:Rq b G v esz n l)(hz:0<esz)(hb:b≤G.length)(hn:n≤1000000000)(hx:x.length=c*esz)(gg:dats x=true){K:LV→Mu→Prop}
  (k:∀(v':LV) (G':Mu),Rq b G' v' esz (n+c) (l++x)→(∀q,q<b→G'[q]?=G[q]?)→G.length≤G'.length→K v' G'):Pj G esz v c x K:=by
 obtain⟨h1,h2,h⟩:=h;have hl:(l++x).length=(n+c)*esz:=by rw[Il,h2,hx,I2]
 rcases h with ⟨rfl,rfl,rfl⟩|⟨p,gj,st,a,rfl,e⟩
 ·rw[appL_nil];refine k _ _ ⟨by simpa using gg,hl,.inr ⟨G.length,0,0,hb,rfl,?_⟩⟩ (λq hq=>Ib J) N;rw[Jf];simp
 ·have hp:=(H5.1 e).1;rw[appL_dy,e];exact⟨rfl,⟨rfl,hz⟩,hn,k _ _ ⟨dats_app h1 gg,hl,.inr ⟨p,gj+1,st+1,a,rfl,Ia hp⟩⟩ (λq hq=>H6 J) N⟩
end dys
end
section
section dys
variable {b : Nat} {G G' : Mu} {v : LV} {esz n : Nat} {l x : List LV}
end dys
end
section
def spl:Nat→LC→LC×LC
 |0,.seq a b=>(a,b)
 |n+1,.seq a b=>(.seq a (spl n b).1,(spl n b).2)
 |_,s=>(s,.skip)
section spl
variable {P : Program} {f n : Nat} {ro : Option Nat}
end spl
end
section
set_option linter.unusedSimpArgs false
section lib
variable {P : Program} {f : Nat} {G : Mu} {K : LV → Mu → Prop}
def znj{j:List AV}:Sl 1 g B j=Uk g B j:=rfl
def d9{j:List AV}:Sl 2 g B j=Z2 g B j:=rfl
def zc9{k:Nat}(A:R5 P f=g)(z:Qf P f=k)(B:k≠0)(C:iy P f)(D:Heap)(j:List AV){v:AV}{H':Heap}(h:Sl k g D j=.ok v H'):Qr P (OL P) 1 (.fn f) j D=.ok v H':=by
 unfold Qr;dsimp only;rw[sg (by rw[z];exact B) C,z,A,h]
def zp6{c:Cx}(H:HSim c G){p st len:Nat}{E:List LV}{z:List AV}{o v A:_}{t:Tr AV}(I:G[p]?=some (.dyn Y len D g st))(e:c.hd[p]?=some (g,.sl o v 0 len D A))(V:c.H.get o=some (.cells t vZ v false))
  (S:ARs c E z) (T:E.length=j*D) (k:K (.dy p (g+1)) (G.set p (.dyn E j D (g+1) (st+1)))) :
  ∃U H',rowTo c.H o v j D z=.ok U H'∧∃F w L,F.H=H'∧HSim F L∧Step c G F L∧AR F w U∧K w L:=by
 have M:p<c.hd.length:=by rw[H.len];exact (H5.1 I).1
 have O:o<c.H.next:=H.lt o ⟨p,_,_,_,I,rfl,e,rfl⟩;have B:z.length=j*D:=by rw[←S.length];exact T
 have C:rowTo c.H o v j D z=.ok (.sl o (v+1) 0 j D none) (c.H.put o (.cells (O8 z 0 .e) z.length (v+1) false)):=by
  unfold rowTo;rw[V];dsimp only;rw[I0]
 refine⟨_,_,C,?_⟩;obtain⟨X,Z,_⟩:=H.upd (k':=g+1) (x':=.sl o (v+1) 0 j D none) (ob':=.dyn E j D (g+1) (st+1)) (H':=c.H.put o (.cells (O8 z 0 .e) z.length (v+1) false)) I rfl e (Ie _) (λo' _ Q=>Heap.get_put_ne _ _ (λq=>Q Em))
  (λo' e'=>by cases e';exact⟨.inl rfl,O⟩) (K9 _) (λq=>J) (λq=>C6) (.inl (Jb _))
  (λR=>⟨rfl,T,.inr ⟨o,v+1,none,_,_,z,rfl,Heap.get_put_same _ _ _,J,by rw[←B];exact jq z,S.mono R,λr q=>C6,λ_=>B⟩⟩)
 exact⟨_,.dy p (g+1),_,rfl,X,Z,.dy (k':=g+1) (h:=.sl o (v+1) 0 j D none) (by dsimp only;rw[Ia M]) (Ie _) (λ_=>rfl) rfl,k⟩
def zvj(ht:fx P (.fn f))(hk:Qf P f=1)(hr:iy P f){p st len q i:Nat}(hz:R5 P f=j){x:List LV}(H:G[p]?=some (.dyn Y len j g st))(hq:G[q]?=some (.dyn x 1 j D vZ))(T:p≠q)(hi:i≤len)(he:1≤j)(hl:len≤1000000000)
  (k:K (.dy p (g+1)) (G.set p (.dyn (Y.take (i*j)++x++Y.drop (i*j)) (len+1) j (g+1) (st+1)))):Pz P (.fn f) [.dy p g,.i i,.dy q D] G K:=by
 refine⟨ht,λc t1 U F I C=>?_⟩;cases t1 with
 |yield o=>exact I.elim
 |fn gQ =>
  obtain rfl:f=gQ:=I;cases C with
  |cons h1 C =>
   cases C with
   |cons h2 C =>
    cases C with
    |cons h3 C =>
     cases C;cases h2;cases h1 with
     | @dy _ _ Q hh a1 R gI V gK =>
      cases h3 with
      | @dy _ _ k2 hx a3 e2 gL X gM =>
       obtain⟨rfl,Z,r2⟩:=F.obj p _ _ _ H R;obtain⟨rfl,x1,x2⟩:=F.obj q _ _ _ hq e2;obtain rfl:=V rfl;obtain rfl:=X rfl;rcases x2 with ⟨_,x2⟩|⟨L,v2,z,t2,gg,E,rfl,y3,y4,y5,y6,y7,y8⟩
       ·cases x2
       have rx:=Tf (i:=0) (n:=j) y3 y5 y4 J;have gj:E.length=j:=by rw[←y6.length,x1,Lv]
       rw[Jt,Io J]at rx;have A:(Y.take (i*j)++x++Y.drop (i*j)).length=(len+1)*j:=by
        have M:i*j≤len*j:=Im _ hi;simp only[Il,Ir,Jg,Z,x1,I2,Lv];omega
       rcases r2 with ⟨rfl,S⟩|⟨o,v,O,t,gH,l',rfl,S,r4,r5,r6,r7,r8⟩
       ·
        subst S;have gB:Y=[]:=Iu (by simpa using Z);have gC:i=0:=J
        subst gB gC;simp only[Kq,List.take_nil,Ky,List.drop_nil,Jd,I7]at k A;have B:Sl 1 j c.H [.nilSl,.int .i64 (Int.ofNat 0),.sl L v2 0 1 j z]=.ok (.sl c.H.next 0 0 1 j none) (c.H.push (.cells (O8 E 0 .e) E.length 0 false)):=by
         rw[znj];unfold Uk;dsimp only;rw[(E7:(Nat.beq 0 0&&(Nat.beq 1 1&&(Nat.beq j j&&Nat.ble 1 j)))=true)];dsimp only;rw[rx]
        refine⟨1,_,_,zc9 hz hk Ah hr c.H _ B,?_⟩;have gD:p<c.hd.length:=by rw[F.len];exact (H5.1 H).1
        obtain⟨q1,q2,_⟩:=F.upd (k':=Q+1) (x':=.sl c.H.next 0 0 1 j none) (ob':=.dyn x 1 j (Q+1) (st+1)) (H':=c.H.push (.cells (O8 E 0 .e) E.length 0 false)) H rfl R (K9 _) (λo' gE _=>Heap.get_push_ne _ _ gE)
         (λo' e'=>by cases e';exact⟨.inr (Ie _),Jb _⟩) (K9 _) (λq=>J) (λq=>C6) (.inl (Jb _))
         (λM=>⟨rfl,x1,.inr ⟨c.H.next,0,none,_,_,E,rfl,Heap.get_push_same _ _,J,by rw[Lv,←gj];exact jq E,y6.mono M,λr q=>C6,λ_=>J⟩⟩)
        exact⟨_,.dy p (Q+1),_,rfl,q1,q2,.dy (k':=Q+1) (h:=.sl c.H.next 0 0 1 j none) (by dsimp only;rw[Ia gD]) (Ie _) (λ_=>rfl) rfl,k⟩
       ·have gP:l'.length=len*j:=by rw[←r6.length];exact Z
        have rr:=Tf (i:=0) (n:=len*j) S r5 r4 J;rw[Jt,Io J]at rr;obtain⟨v1,H',w1,w2⟩:=zp6 (K:=K) F H R S (((r6.take (i*j)).append y6).append (r6.drop (i*j))) A k;have B:Sl 1 j c.H [.sl o v 0 len j O,.int .i64 (Int.ofNat i),.sl L v2 0 1 j z]=.ok v1 H':=by
         rw[znj];unfold Uk;have gF:Nat.beq o L=false:=by
          cases gG:Nat.beq o L with
          |false=>rfl
          |true=>exact absurd (F.excl p q _ _ _ _ _ _ o H hq rfl rfl R e2 rfl (by rw[Ic gG];rfl)) T
         have hb:(!(Nat.beq o L)&&(Nat.beq 0 0&&(Nat.beq 1 1&&(Nat.beq j j&&(Nat.beq j j&&(Nat.ble i len&&(Nat.ble 1 j&&Nat.ble len M8)))))))=true:=by
          simp only[gF,L8,I0,If hi,If he,show Nat.ble len M8=true from If hl,Bool.and_self]
         dsimp only;rw[hb];dsimp only;rw[show Nat.mul len j=len*j from rfl,rr,rx];exact w1
        exact⟨1,_,_,zc9 hz hk Ah hr c.H _ B,w2⟩
def zlb(V:fx P (.fn f))(X:Qf P f=1)(Y:iy P f){q:Nat}{x:List LV}(Z:R5 P f=g)(hq:G[q]?=some (.dyn x 1 g j D))(he:1≤g)
  (k:K (.dy G.length 0) (G++[.dyn x 1 g 0 0])):Pz P (.fn f) [.nilSl,.i (0:Int),.dy q j] G K:=by
 refine⟨V,λc t1 I F C A=>?_⟩;cases t1 with
 |yield o=>exact C.elim
 |fn gB =>
  obtain rfl:f=gB:=C;cases A with
  |cons h1 A =>
   cases A with
   |cons h2 A =>
    cases A with
    |cons h3 A =>
     cases A;cases h2;cases h1 with
     |nilSl =>
      cases h3 with
      | @dy _ _ k2 hx a3 e2 gg L gj =>
       obtain⟨rfl,S,M⟩:=F.obj q _ _ _ hq e2;obtain rfl:=L rfl;rcases M with ⟨_,M⟩|⟨o2,v2,B,t2,O,z,rfl,y3,y4,y5,T,y7,y8⟩
       ·cases M
       have U:=Tf (i:=0) (n:=g) y3 y5 y4 J;have Q:z.length=g:=by rw[←T.length,S,Lv]
       rw[Jt,Io J]at U;have E:Sl 1 g c.H [.nilSl,.int .i64 (Int.ofNat 0),.sl o2 v2 0 1 g B]=.ok (.sl c.H.next 0 0 1 g none) (c.H.push (.cells (O8 z 0 .e) z.length 0 false)):=by
        rw[znj];unfold Uk;dsimp only;rw[(E7:(Nat.beq 0 0&&(Nat.beq 1 1&&(Nat.beq g g&&Nat.ble 1 g)))=true)];dsimp only;rw[U]
       refine⟨1,_,_,zc9 Z X Ah Y c.H _ E,?_⟩;have R:CxLe c ⟨c.hd++[(0,.sl c.H.next 0 0 1 g none)],c.Fz,c.H.push (.cells (O8 z 0 .e) z.length 0 false)⟩:=⟨λp k h e=>⟨k,h,Dx,Ie _,λ_=>rfl,λ_=>rfl⟩,λo H=>⟨H,Heap.get_push_ne _ _ (F.fz o H)⟩⟩;obtain⟨q1,q2,q3⟩:=F.push (H':=c.H.push (.cells (O8 z 0 .e) z.length 0 false)) (x:=.sl c.H.next 0 0 1 g none) (ob:=.dyn x 1 g 0 0) (K9 _) (λo H=>Heap.get_push_ne _ _ H) (λo e=>by cases e;exact⟨Ie _,Jb _⟩)
        ⟨rfl,S,.inr ⟨c.H.next,0,none,_,_,z,rfl,Heap.get_push_same _ _,J,by rw[Lv,←Q];exact jq z,T.mono R,λr e=>An,λ_=>J⟩⟩
       exact⟨_,.dy G.length 0,_,rfl,q1,q2,.dy (k':=0) (h:=.sl c.H.next 0 0 1 g none) (by dsimp only;rw[←F.len];simp) (Ie _) (λ_=>rfl) rfl,k⟩
def zl5(V:fx P (.fn f))(X:Qf P f=2)(Z:iy P f){p st len i:Nat}(hz:R5 P f=j)(M:G[p]?=some (.dyn Y len j g st))(hi:i<len)(he:1≤j)(hl:len≤1000000000)
  (k:K (.dy p (g+1)) (G.set p (.dyn (Y.take (i*j)++Y.drop ((i+1)*j)) (len-1) j (g+1) (st+1)))):Pz P (.fn f) [.dy p g,.i i,.i ((i+1:Nat):Int)] G K:=by
 refine⟨V,λc t1 E O B z=>?_⟩;cases t1 with
 |yield o=>exact B.elim
 |fn gC =>
  obtain rfl:f=gC:=B;cases z with
  |cons Q z =>
   cases z with
   |cons F z =>
    cases z with
    |cons h3 z =>
     cases z;cases F;cases h3;cases Q with
     | @dy _ _ k1 hh a1 R gg H gj =>
      obtain⟨rfl,S,r2⟩:=O.obj p _ _ _ M R;obtain rfl:=H rfl;rcases r2 with ⟨rfl,I⟩|⟨o,v,C,t,T,l',rfl,I,r4,r5,L,r7,r8⟩
      ·omega
      have gB:l'.length=len*j:=by rw[←L.length];exact S
      have U:=Tf (i:=0) (n:=len*j) I r5 r4 J;rw[Jt,Io J]at U;have A:(Y.take (i*j)++Y.drop ((i+1)*j)).length=(len-1)*j:=by
       have Q:i*j≤len*j:=Im _ J;have F:(i+1)*j≤len*j:=Im _ J;simp only[Il,Ir,Jg,S,I2,Lv,Nat.sub_mul]at F ⊢;omega
      obtain⟨v1,H',w1,w2⟩:=zp6 (K:=K) O M R I ((L.take (i*j)).append (L.drop ((i+1)*j))) A k;have D:Sl 2 j c.H [.sl o v 0 len j C,.int .i64 (Int.ofNat i),.int .i64 (Int.ofNat (i+1))]=.ok v1 H':=by
       rw[d9];unfold Z2;have hb:(Nat.beq 0 0&&(Nat.beq (i+1) (Nat.add i 1)&&(Nat.beq j j&&(Nat.ble (i+1) len&&(Nat.ble 1 j&&Nat.ble len M8)))))=true:=by
        simp only[I0,show Nat.beq (i+1) (Nat.add i 1)=true from I0 _,If (J:i+1≤len),If he,show Nat.ble len M8=true from If hl,Bool.and_self]
       dsimp only;rw[hb];dsimp only;rw[show Nat.mul len j=len*j from rfl,U];exact w1
      exact⟨1,_,_,zc9 hz X Ah Z c.H _ D,w2⟩
end lib
end
section
def yh(P:Program)(f:Nat)(z:List LV)(F:LV→Prop):Prop :=
 fx P (.fn f)∧∀(B:Nat→Prop) (C:Heap) (g:List AV),(∀o,B o→o<C.next)→ARs ⟨[],B,C⟩ z g →
  ∃(D:LV) (m:Nat) (E:AV) (j:Nat→Prop) (A:Heap),F D∧D.dat=true∧Qr P (OL P) m (.fn f) g C=.ok E A∧C.next≤A.next∧(∀o,B o→j o)∧(∀o,j o→o<A.next∧(B o∨C.next≤o))∧(∀o,o<C.next→A.get o=C.get o)∧AR ⟨[],j,A⟩ D E
section calls
variable {P : Program}
def yh.mk{f:Nat}{args:List LV}{S:LV→Prop}(h:Pz P (.fn f) args [] λv G=>∃v0,S v0∧v0.dat=true∧Oc G v v0):yh P f args S:=by
 refine⟨h.1,λFz H gg gB ha=>?_⟩;obtain⟨m,v1,H',q1,c1,v,G,rfl,q3,q4,q5,v0,hS,hd,q6⟩:=h.2 ⟨[],Fz,H⟩ (.fn f) gg (.empty gB) rfl ha;have gj:∀o,¬Ot ⟨[],Fz,H⟩ [] o:=λo ⟨p,_,_,_,e,_⟩=>B4
 refine⟨v0,m,v1,_,c1.H,hS,hd,q1,q4.nx,λo ho=>.inl (q4.le.fz o ho).1,λo ho=>⟨ho.elim (q3.fz o) (q3.lt o),?_⟩,λo ho=>q4.frame o ho (gj o),zvl q3 v v0 v1 q6 q5⟩;rcases ho with ho|ho
 ·rcases q4.fznew o ho with h|h|h
  ·exact .inl h
  ·exact absurd h (gj o)
  ·exact .inr h
 ·rcases q4.new o ho with h|h
  ·exact absurd h (gj o)
  ·exact .inr h
def et{f:Nat}(H:yh P f G vH)(I:dats G=true)(k:∀j,vH j→j.dat=true→S j M):Pz P (.fn f) G M S:=by
 obtain⟨K,A⟩:=H;refine⟨K,λc L g E B O=>?_⟩;cases L with
 |yield o=>exact B.elim
 |fn gg =>
  obtain rfl:f=gg:=B;obtain⟨j,m,F,z,C,Q,hd,R,T,U,V,X,Y⟩:=A c.Fz c.H g E.fz (ARs.dat (c:=c) (c':=⟨[],c.Fz,c.H⟩) (λo D=>⟨D,rfl⟩) G g I O);obtain⟨Z,r2⟩:=zn6 E T U V X;exact⟨m,F,C,R,⟨c.hd,z,C⟩,j,M,rfl,Z,r2,AR.dat (c:=⟨[],z,C⟩) (c':=⟨c.hd,z,C⟩) (λo D=>⟨D,rfl⟩) j F hd Y,k j Q hd⟩
end calls
end
def vg{n:Nat}(h:n<18446744073709551616):(iU (n:Int)).toNat=n:=by
 rw[lf,UInt64.ofInt,Jq];omega
def val:List UInt64→Nat
 |[]=>0
 |x::l=>x.toNat+18446744073709551616*val l
def zdo(n:Nat):2^(64*(n+1))=18446744073709551616*2^(64*n):=by
 rw[Nat.mul_add,Nat.pow_add,Ml]
def val_append:∀a b:List UInt64,val (a++b)=val a+2^(64*a.length)*val b
 |[],b=>by simp[val]
 |x::a,b=>by
  rw[Jh,val,val,val_append a b,Iv,zdo,Nat.mul_add,Nat.mul_assoc];omega
def val_lt:∀a:List UInt64,val a<2^(64*a.length)
 |[]=>by simp[val]
 |x::a=>by
  have g:=x.toNat_lt;have j:=val_lt a;rw[val,Iv,zdo];omega
def zik(x:UInt64):val [x]=x.toNat:=by simp[val]
def Xe(a:List UInt64)(x:UInt64):val (a++[x])=val a+2^(64*a.length)*x.toNat:=by
 rw[val_append,zik]
def val_rep0:∀n,val (List.replicate n 0)=0
 |0=>rfl
 |n+1=>by rw[J0,val,val_rep0 n];rfl
def z77{a:List UInt64}{n:Nat}(h:n<a.length):a.take (n+1)=a.take n++[a.getD n 0]:=by
 rw[Le h];simp[h]
def z85{a:List UInt64}{n:Nat}(h:n<a.length):val (a.take (n+1))=val (a.take n)+2^(64*n)*(a.getD n 0).toNat:=by
 rw[z77 h,Xe,Ir,Jr J]
def T5:Nat→Nat→List UInt64
 |0,_=>[]
 |f+1,n=>if n=0 then [] else UInt64.ofNat n::T5 f (n/18446744073709551616)
def Ow(n:Nat):List UInt64:=T5 n n
def toLf_more:∀(f j n:Nat),n≤f→n≤j→T5 f n=T5 j n
 |0,0,_,_,_=>rfl
 |0,j+1,n,h,_=>by
  have:n=0:=J
  subst this;simp[T5]
 |f+1,0,n,_,h=>by
  have:n=0:=J
  subst this;simp[T5]
 |f+1,j+1,n,z,A=>by
  simp only[T5];by_cases g:n=0
  ·simp[g]
  ·rw[Ig g,Ig g,toLf_more f j (n/18446744073709551616) J J]
def toL_zero:Ow 0=[]:=rfl
def zp2{n:Nat}(h:n≠0):Ow n=UInt64.ofNat n::Ow (n/18446744073709551616):=by
 unfold Ow;cases n with
 |zero=>exact absurd rfl h
 |succ n =>
  rw[T5,Ig h,toLf_more n ((n+1)/18446744073709551616) _ J (Ie _)]
def tq(n:Nat):val (Ow n)=n:=by
 induction n using Nat.strongRecOn with
 |_ n g =>
  by_cases h:n=0
  ·subst h;rfl
  ·rw[zp2 h,val,g _ J,Jq];omega
def xn(l:List UInt64):Prop:=l=[]∨l.getLast?.getD 0≠0
def zq6{x:UInt64}{l:List UInt64}(h:xn (x::l)):xn l:=by
 cases l with
 |nil=>exact .inl rfl
 |cons y l =>
  rcases h with h|h
  ·cases h
  ·exact .inr (by simpa [List.getLast?_cons_cons] using h)
def val_pos_of_Trm:∀{l:List UInt64},l≠[]→xn l→val l≠0
 |[],h,_=>absurd rfl h
 |[x],_,h=>by
  rcases h with h|h
  ·cases h
  ·simp at h;rw[zik];intro e;exact h (Jm.1 e)
 |x::y::l,_,h=>by
  have:=val_pos_of_Trm (l:=y::l) N (zq6 h);rw[val];omega
def toL_val:∀{l:List UInt64},xn l→Ow (val l)=l
 |[],_=>rfl
 |x::l,h=>by
  have g:=val_pos_of_Trm N h;rw[zp2 g];have A:=x.toNat_lt;have j:UInt64.ofNat (val (x::l))=x:=by
   apply Jm.1;rw[Jq,val];omega
  have z:val (x::l)/18446744073709551616=val l:=by rw[val];omega
  rw[j,z,toL_val (zq6 h)]
def zqk{l:List UInt64}{x:UInt64}(h:x≠0):xn (l++[x]):=.inr Aw
def zd0{n k:Nat}(h:n<2^(64*k)):(Ow n).length≤k:=by
 induction k generalizing n with
 | zero => have : n = 0 := by simpa using h
           subst this;simp[toL_zero]
 |succ k j =>
  by_cases g:n=0
  ·subst g;simp[toL_zero]
  ·rw[zp2 g,Iv];have:=j (n:=n/18446744073709551616) (by rw[zdo]at h;exact Nat.div_lt_of_lt_mul h);omega
def wm(a:List UInt64):(Ow (val a)).length≤a.length:=zd0 (val_lt a)
def zet{n k:Nat}(h:(Ow n).length≤k):n<2^(64*k):=by
 have:=val_lt (Ow n);rw[tq]at this;exact Ix this (Mc J J)
def zo3(n k:Nat):(Ow n).length≤k↔n<2^(64*k):=⟨zet,zd0⟩
def RU(l:List UInt64):LObj:=.dyn (l.map .u) l.length 1 0 0
def W6(g:Mu)(v:LV)(l:List UInt64):Prop:=(v=.nilSl∧l=[])∨∃p k st,v=.dy p k∧g[p]?=some (.dyn (l.map .u) l.length 1 k st)
def W6.sel{G:Mu}{v:LV}{l:List UInt64}(h:W6 G v l):Vz G [v] [RU l]:=by
 rcases h with ⟨rfl,rfl⟩|⟨p,k,st,rfl,hg⟩
 ·simp[RU]
 ·simp[RU,hg]
def ky{l:List UInt64}:∀(z:Nat) (g:LObj),[RU l][z]?=some g→∃c len j,g=.dyn c len j 0 0∧c.all LV.scal=true:=by
 intro z g e;cases z with
 |zero=>simp at e;subst e;exact⟨_,_,_,rfl,N⟩
 |succ z=>simp at e
def Nf.row{P:Program}{f:Nat}{args:List LV}{l:List UInt64}(h:Pz P (.fn f) args [] λv G=>W6 G v l):Nf P f args (.dy 0 0) [RU l] :=
 Nf.mk rfl (h.mono λv G e=>⟨[v],N,rfl,e.sel⟩) ky
def Nf.rowE{P:Program}{f:Nat}{args:List LV}{l:List UInt64}{e:Int}(h:Pz P (.fn f) args [] λv G=>∃w,v=.tup [w,.i e]∧W6 G w l):Nf P f args (.tup [.dy 0 0,.i e]) [RU l] :=
 Nf.mk rfl (h.mono λv G ⟨w,e1,e2⟩=>⟨[w],by simp[e1],rfl,e2.sel⟩) ky
def vy(a b:UInt64):Bool→UInt64×Bool
 |false=>(a+b,decide (a+b<a))
 |true=>(a+b+1,decide (a+b<a) || decide (a+b+1=0))
def zl(a b:UInt64):Bool→UInt64×Bool
 |false=>(a-b,decide (a<b))
 |true=>(a-b-1,decide (a<b) || decide (a-b=0))
def zhz(x:UInt64):x=0↔x.toNat=0:=⟨λh=>by rw[h];rfl,λh=>Jm.1 (by rw[h];rfl)⟩
def n6(l:List UInt64):l.flatMap (λx=>[LV.u x])=l.map .u:=by
 induction l with
 |nil=>rfl
 |cons x l g=>simp[g]
def zli{f:Nat}{l:List UInt64}(g:Nf z f Y (.dy 0 0) [RU l])(j:bors M G Y)(k:S (.dy M.length 0) (M++[RU l])):Pz z (.fn f) G M S :=
 d6 g j (by simpa using k)
def zdz{a:List UInt64}{n:Nat}(h:a.length≤n):val (a.take n)=val a:=by rw[Io h]
def zd4(a:List UInt64)(n:Nat):val (a.take (n+1))=val (a.take n)+2^(64*n)*(a.getD n 0).toNat:=by
 by_cases h:n<a.length
 ·exact z85 h
 ·rw[Io J,Io J];have:a.getD n 0=0:=by simp;rw[Kk J];rfl
  rw[this];simp
def val_getD:∀{a b:List UInt64},val a=val b→∀i,a.getD i 0=b.getD i 0
 |[],[],_,_=>rfl
 |[],y::b,h,i=>by
  simp only[val]at h;have j:y=0:=(zhz y).2 J;have z:val []=val b:=by simp only[val];omega
  have g:=val_getD z;cases i with
  |zero=>simp[j]
  |succ i=>simpa using g i
 |x::a,[],h,i=>by
  simp only[val]at h;have A:x=0:=(zhz x).2 J;have B:val a=val []:=by simp only[val];omega
  have g:=val_getD B;cases i with
  |zero=>simp[A]
  |succ i=>simpa using g i
 |x::a,y::b,h,i=>by
  simp only[val]at h;have C:=x.toNat_lt;have D:=y.toNat_lt;have e:x.toNat=y.toNat:=J
  have g:=val_getD (a:=a) (b:=b) J;cases i with
  |zero=>simpa using Jm.1 e
  |succ i=>simpa using g i
def opened:(∀a b,Sr a b=a+b)∧(∀a b,Zz a b=a-b)∧(∀a b,Rv a b=a*b):=⟨zk8,zov,zj3⟩
def Nz(a:List UInt64)(n:Int):Int:=if n<0∨512<n then 2 else if n<(Ow (val a)).length then 3 else 0
def Nr(a:List UInt64)(n:Int):List UInt64:=if Nz a n=0 then Ow (val a)++List.replicate (n.toNat-(Ow (val a)).length) 0 else []
def zbg{a:List UInt64}{n:Int}(h:Nz a n=0):((Nr a n).length:Int)=n∧0≤n∧n≤512:=by
 unfold Nr;rw[Ih h];unfold Nz at h;by_cases g:n<0∨512<n
 ·rw[Ih g]at h;simp at h
 ·rw[Ig g]at h;by_cases j:n<(Ow (val a)).length
  ·rw[Ih j]at h;simp at h
  ·simp;omega
def yu(n:Nat):Na [LV.u 0] n=(List.replicate n (0:UInt64)).map .u:=by
 induction n with
 |zero=>rfl
 |succ n g=>simp[Na,g,J0]
def LN(l:List (List UInt64)):LV:=.lst (l.map LU) l.length 1
attribute [simp] LN
def W2(l:List (List UInt64))(i:Nat)(g:LV→Prop):N6 (l.map LU) i g=(i<l.length∧g (LU (l.getD i []))):=zqp _ _ _ _ _
def oy(l:List (List UInt64)):dats (l.map LU)=true:=Wi (λx=>N) l
attribute [simp] W2 oy
attribute [simp ↓] W2
def Yu(l:List { l:List UInt64 // l.length≤maxLen }):l.flatMap (λx=>[LV.lst (x.1.flatMap λx=>[LV.u x]) x.1.length 1])=(l.map (·.1)).map LU:=by
 induction l with
 |nil=>rfl
 |cons x l g =>
  rw[J6,g,n6];simp only[Kd,Jh,Ky,LU]
def dg(a b:UInt64):UInt64:=UInt64.ofNat (a.toNat*b.toNat/18446744073709551616)
def fw(x:UInt64):(x &&& 4294967295).toNat=x.toNat%4294967296:=by
 rw[UInt64.toNat_and];exact Nat.and_two_pow_sub_one_eq_mod x.toNat 32
def qu(a b:UInt64) :
  Sr (Sr (Rv (P9 a 32) (P9 b 32)) (P9 (Sr (Rv (P9 a 32) (Q1 b 4294967295)) (P9 (Rv (Q1 a 4294967295) (Q1 b 4294967295)) 32)) 32)) (P9 (Sr (Rv (Q1 a 4294967295) (P9 b 32)) (Q1 (Sr (Rv (P9 a 32) (Q1 b 4294967295)) (P9 (Rv (Q1 a 4294967295) (Q1 b 4294967295)) 32)) 4294967295)) 32)=dg a b:=by
 simp only[zk8,zj3,zoh,zvg];apply Jm.1;have B:=a.toNat_lt;have C:=b.toNat_lt;simp only[dg,UInt64.toNat_add,UInt64.toNat_mul,Jq,fw,Nat.reducePow];generalize a.toNat=x at *;generalize b.toNat=y at *;have g:x=x/4294967296*4294967296+x%4294967296:=J
 have j:y=y/4294967296*4294967296+y%4294967296:=J
 have D:x/4294967296<4294967296:=J
 have E:x%4294967296<4294967296:=J
 have F:y/4294967296<4294967296:=J
 have G:y%4294967296<4294967296:=J
 have m1:x/4294967296%18446744073709551616=x/4294967296:=J
 have z:y/4294967296%18446744073709551616=y/4294967296:=J
 rw[m1,z];have A:x*y=(x/4294967296*(y/4294967296))*18446744073709551616+(x/4294967296*(y%4294967296))*4294967296+(x%4294967296*(y/4294967296))*4294967296+x%4294967296*(y%4294967296):=by
  generalize x/4294967296=p at *;generalize x%4294967296=q at *;generalize y/4294967296=r at *;generalize y%4294967296=s at *;subst g j
  grind
 rw[A];generalize x/4294967296=p at *;generalize x%4294967296=q at *;generalize y/4294967296=r at *;generalize y%4294967296=s at *;have H:p*r≤4294967295*4294967295:=K4 J J;have I:p*s≤4294967295*4294967295:=K4 J J;have K:q*r≤4294967295*4294967295:=K4 J J;have L:q*s≤4294967295*4294967295:=K4 J J;generalize p*r=M at *;generalize p*s=O at *;generalize q*r=P at *;generalize q*s=Q at *;clear g j m1 z D E F G B C A;omega
def c7(v:UInt64)(s:Nat):(P9 v s).toNat=v.toNat/2^s:=by
 have h:=v.toNat_lt;have:v.toNat/2^s≤v.toNat:=Nat.div_le_self _ _;rw[zoh,Jq,Kb J]


def Mx{l:List LV}{i:Nat}{v:LV}(h:l[i]?=some v):N6 l i vH=vH v:=by simp[N6,h]
def Rm{f:v9→LV}{l:List v9}{i:Nat}{a:v9}(h:l[i]?=some a):(l.map f)[i]?=some (f a):=D6
mutual
def bor_self{G:Mu}(v:LV)(h:v.dat=true):bor G v v:=by
 cases v with
 |agg l=>simp only[LV.dat]at h;exact⟨l,rfl,bors_self l h⟩
 |nilSl=>exact .inl rfl
 |dy p k=>simp[LV.dat]at h
 |vw p k lo len=>simp[LV.dat]at h
 |_=>exact⟨rfl,h⟩
termination_by SizeOf.sizeOf v
def bors_self{G:Mu}(l:List LV)(h:dats l=true):bors G l l:=by
 cases l with
 |nil=>rfl
 |cons v l =>
  simp only[dats,H7]at h;exact⟨v,l,rfl,bor_self v h.1,bors_self l h.2⟩
termination_by SizeOf.sizeOf l
end
def Uy(p:v9→Bool)(l:List v9):Int:=if l.findIdx p<l.length then (l.findIdx p:Int) else -1
def zq9{p:v9→Bool}{l:List v9}{i:Nat}{a:v9}(h:l[i]?=some a)(j:p a=true)(z:∀g b,g<i→l[g]?=some b→p b=false):Uy p l=i:=by
 obtain⟨hi,rfl⟩:=H5.1 h;have:l.findIdx p=i:=(List.findIdx_eq hi).2 ⟨j,λg A=>z g _ A (H8 _)⟩;rw[Uy,this,Ih hi]
def zf1{p:v9→Bool}{l:List v9}{i:Nat}(hi:l.length≤i)(j:∀g b,g<i→l[g]?=some b→p b=false):Uy p l=-1:=by
 have:l.findIdx p=l.length:=List.findIdx_eq_length.2 λa z=>by
  obtain⟨g,A,rfl⟩:=Ks.1 z;exact j g _ J (H8 _)
 rw[Uy,this,Ig J]
def zj2(p:v9→Bool)(l:List v9):decide (0≤Uy p l)=l.any p:=by
 unfold Uy;by_cases h:l.findIdx p<l.length
 ·rw[Ih h,Kg J];exact (List.any_eq_true.2 ⟨_,K3 h,List.findIdx_getElem⟩).symm
 ·rw[Ig h,Me J];have g:=List.findIdx_eq_length.1 (Db:l.findIdx p=l.length);exact (List.any_eq_false.2 λx j=>by simp[g x j]).symm
def xz(l:List Int)(j:Nat)(x:Int)(h:j<l.length):Nh (l.map .i) j [.i x]=(l.set j x).map .i:=by
 unfold Nh;rw[Jy,Ih h];simp[Lr,List.map_drop]
def gd(l:List Int)(u:Nat):Int:=l.getD u 0
def zsr(l:List Int)(g u:Nat)(x:Int)(h:g<l.length):gd (l.set g x) u=if u=g then x else gd l u:=by
 simp only[gd,H9,Lt];by_cases e:g=u
 ·subst e;simp[h]
 ·simp[e,Ne.symm e]
def Ug{l:List Int}{u:Nat}(h:u<l.length):l[u]?=some (gd l u):=by simp[gd,H9,h]
def ux(l:List Int)(g:Nat):List Int:=(l.set g (gd l (g-1))).set (g-1) (gd l g)
def zjz{l:List Int}{u:Nat}(j:0<g)(h:g<l.length):gd (ux l g) u=if u=g then gd l (g-1) else if u=g-1 then gd l g else gd l u:=by
 unfold ux;rw[zsr _ _ _ _ Ab,zsr _ _ _ _ h];by_cases e:u=g
 ·subst e;rw[Ig J];simp
 ·simp[e]
def mo(l:List Int)(m:Nat):Prop:=∀u v,u<v→v<m→gd l u<gd l v
structure Cmp (l0 l:List Int) (m d:Nat):Prop where
 len:l.length=l0.length
 m1:1≤m
 md:m≤d
 st:mo l m
 mem:∀x,(∃u,u<m∧gd l u=x)↔∃u,u<d∧gd l0 u=x
 last:gd l (m-1)=gd l0 (d-1)
 rest:∀u,d-1≤u→gd l u=gd l0 u∨u<m
def Xy{a r:List LV}{m:Nat}(h:m≤a.length):(Nh a m r).take m=a.take m:=by
 unfold Nh;rw[Iz,Lk B2,Lj,Nat.min_self]
def zry{a r:List LV}{m:Nat}(h:m+r.length=a.length):(Nh a m r).length=a.length:=by
 unfold Nh;simp;omega
def zq2{v:LV}(h:v.dat=true):∀n,dats (Na [v] n)=true
 |0=>rfl
 |n+1=>by simp[Na,dats,h,zq2 h n]
def zqa{j:Type}{f:j→List LV}{k:Nat}(g:∀a,(f a).length=k):∀l:List j,(l.flatMap f).length=l.length*k
 |[]=>N
 |a::l=>by rw[J6,Il,zqa g l,g,Iv,I2];omega
def ub{j:Type}{f:j→List LV}{k:Nat}(g:∀a,(f a).length=k):∀(l:List j) (i:Nat),(l.flatMap f).drop (i*k)=(l.drop i).flatMap f
 |_,0=>N
 |[],i+1=>N
 |a::l,i+1=>by
  rw[J6,List.drop_append,g,(En:(i+1)*k-k=i*k),ub g l i];rw[Jl (by rw[g,I2];omega)];rfl
def pg{f:v9→List LV}{k:Nat}(g:∀a,(f a).length=k){l:List v9}{i:Nat}{a:v9}(h:l[i]?=some a):((l.flatMap f).drop (i*k)).take k=f a:=by
 rw[ub g];obtain⟨hi,rfl⟩:=H5.1 h;rw[Iw hi,J6,Lk (by rw[g];exact Ie _),Io (by rw[g];exact Ie _)]
def U5{f:v9→List LV}{k:Nat}(g:∀a,(f a).length=k){l:List v9}{i:Nat}{a:v9}(h:l[i]?=some a){j:Nat}(z:j<k):(l.flatMap f)[i*k+j]?=(f a)[j]?:=by
 rw[←K5,←pg g h,I1 z]
def ut{j:Type}{f:j→List LV}(g:∀a,dats (f a)=true):∀l:List j,dats (l.flatMap f)=true
 |[]=>rfl
 |a::l=>by rw[J6];exact dats_app (g a) (ut g l)
def xb{f:v9→List LV}{k:Nat}(g:∀a,(f a).length=k){l:List v9}{i:Nat}(h:i<l.length):i*k+k≤(l.flatMap f).length:=by
 rw[zqa g,←Nat.succ_mul];exact Im _ h
structure Vr where
 limbs:Int
 sec:Bool
 mode:Int
structure Ko where
 kind:Int
 d:Int
 e:Int
 a:Int
 b:Int
 c:Int
 imm:UInt64
def Vr.f(v:Vr):List LV:=[.i v.limbs,.bool v.sec,.i v.mode]
def Ko.f(o:Ko):List LV:=[.i o.kind,.i o.d,.i o.e,.i o.a,.i o.b,.i o.c,.u o.imm]
def Nb(l:List Vr):List LV:=l.flatMap Vr.f
def N3(l:List Ko):List LV:=l.flatMap Ko.f
def Vr.f_len(v:Vr):v.f.length=3:=rfl
def Ko.f_len(o:Ko):o.f.length=7:=rfl
def ii(l:List Ko):(N3 l).length=l.length*7:=zqa Ko.f_len l
def O9(l:List Vr):dats (Nb l)=true:=ut (λ_=>rfl) l
def Rz(l:List Ko):dats (N3 l)=true:=ut (λ_=>rfl) l
def U4{l:List Vr}{i:Nat}{v:Vr}(h:l[i]?=some v):((Nb l).drop (i*3)).take 3=v.f:=pg Vr.f_len h
def ir{l:List Ko}{i:Nat}{v:Ko}(h:l[i]?=some v):((N3 l).drop (i*7)).take 7=v.f:=pg Ko.f_len h
def bn{l:List Vr}{i:Nat}{v:Vr}(h:l[i]?=some v):(Nb l)[i*3]?=some (.i v.limbs):=by have:=U5 Vr.f_len h (j:=0) J;simpa [Nb,Vr.f] using this
def us{l:List Vr}{i:Nat}{v:Vr}(h:l[i]?=some v):(Nb l)[i*3+1]?=some (.bool v.sec):=by have:=U5 Vr.f_len h (j:=1) J;simpa [Nb,Vr.f] using this
def kj{l:List Vr}{i:Nat}{v:Vr}(h:l[i]?=some v):(Nb l)[i*3+2]?=some (.i v.mode):=by have:=U5 Vr.f_len h (j:=2) J;simpa [Nb,Vr.f] using this
def S6{l:List Vr}{i:Nat}(h:i<l.length):i*3+3≤(Nb l).length:=xb Vr.f_len h
def iz{l:List Ko}{i:Nat}(h:i<l.length):i*7+7≤(N3 l).length:=xb Ko.f_len h
def gv(l:List Vr)(n:Nat):Vr:=l.getD n ⟨0,false,0⟩
def go(l:List Ko)(n:Nat):Ko:=l.getD n ⟨0,0,0,0,0,0,0⟩
def gb(l:List Bool)(n:Nat):Bool:=l.getD n false
def Qa{l:List Vr}{n:Nat}(h:n<l.length):l[n]?=some (gv l n):=by simp[gv,H9,h]
def Uj{l:List Ko}{n:Nat}(h:n<l.length):l[n]?=some (go l n):=by simp[go,H9,h]
def wo{l:List Bool}{n:Nat}(h:n<l.length):l[n]?=some (gb l n):=by simp[gb,H9,h]
def zfy{l:List Vr}{n:Nat}(h:n<l.length):l.drop n=gv l n::l.drop (n+1):=by
 rw[Iw h];congr 1;have:=Qa h;rw[H8 h]at this;exact Option.some.inj this
def zx{l:List Ko}{n:Nat}(h:n<l.length):l.drop n=go l n::l.drop (n+1):=by
 rw[Iw h];congr 1;have:=Uj h;rw[H8 h]at this;exact Option.some.inj this
def Ny(v:Vr):Bool:=decide (v.mode=1) || decide (v.mode=2)
def Sx(v:Vr):Bool:=decide (v.limbs<1) || (decide (512<v.limbs) || (decide (v.mode<0) || decide (3<v.mode)))
def Pp:Nat→Nat→List Vr→Option Nat
 |_,p,[]=>some p
 |i,p,v::l=>if Sx v=true then none else if v.mode=0 then Pp (i+1) p l else if p<i∨v.sec=decide (v.mode=1) then none else Pp (i+1) (p+1) l
def Ps(l:List Vr):Bool:=match Pp 0 0 l with
 |none=>false
 |some p=>decide (1≤l.length)&&(decide (l.length≤256)&&decide (p≤12))
def Qy(n:Nat)(v:Int):Bool:=decide (0≤v)&&decide (v<n)
def Qd(n:Nat)(o:Ko):Bool :=
 decide (o.d=-1)&&(decide (o.e=-1)&&(decide (o.c=-1)&&(Qy n o.a&&(if o.imm=2 then Qy n o.b else (decide (o.imm=1) || decide (o.imm=3))&&decide (o.b=-1)))))
def Og(k:Int):Option Nat :=
 if k=1 then some 1 else if k=2 then some 5 else if k=3∨k=4∨k=5∨k=6∨k=7 then some 13 else if k=8∨k=10∨k=11∨k=12∨k=13 then some 29 else if k=9 then some 21 else if k=14 then some 19 else if k=15∨k=16 then some 0 else none
def Px(o:Ko):Bool:=if o.kind=1 then true else if o.kind=13 then decide (1≤o.imm)&&decide (o.imm≤6) else if o.kind=15 then decide (1≤o.imm)&&decide (o.imm≤4096) else decide (o.imm=0)
def Qb(n s i:Nat)(v:Int):Bool:=if s.testBit i=true then Qy n v else decide (v=-1)
def Su(n s:Nat)(o:Ko):Bool:=Qb n s 0 o.d&&(Qb n s 1 o.e&&(Qb n s 2 o.a&&(Qb n s 3 o.b&&Qb n s 4 o.c)))
def Qx(o:Ko):List Int:=[o.a,o.b,o.c].filter (λv=>!decide (v<0))++if o.kind=14 then [o.d,o.e] else []
def N9(g:List Vr)(o:Ko):Bool:=(Qx o).any λv=>(gv g v.toNat).sec
def Qz(j:List Vr)(g:Bool)(v:Int):Bool:=decide (v<0) || !(Ny (gv j v.toNat) || (g && !(gv j v.toNat).sec))
def Pk(o:Ko):List Int :=
 if o.kind=6 then [o.a,o.b] else if o.kind=14 then [o.d,o.e] else if o.kind=8 then [o.d,o.a,o.b] else if o.kind=9 then [o.d,o.c] else if o.kind=10∨o.kind=11∨o.kind=12 then [o.d,o.a,o.b,o.c] else if o.kind=13 then [o.d,o.a,o.c] else []
def Pv(vs:List Vr)(v:Int):Int:=(gv vs v.toNat).limbs
def ba(g:List Vr)(o:Ko):Bool:=(Pk o).all λv=>decide (Pv g v=Pv g ((Pk o).headD 0))
def Nn(g:List Vr)(o:Ko):Bool :=
 if o.kind=17 then Qd g.length o else match Og o.kind with
 |none=>false
 |some s=>Px o&&(Su g.length s o&&(Qz g (N9 g o) o.d&&(Qz g (N9 g o) o.e&&((decide (o.e<0) || !decide (o.d=o.e))&&ba g o))))
def dl(k:Int):Int:=if k=15 then 1 else if k=16 then -1 else 0
def Ro(m:List Bool)(o:Ko):List Bool:=if 0≤o.d then m.set o.d.toNat true else m
def U8(m:List Bool)(o:Ko):Bool:=(Qx o).all λv=>gb m v.toNat
def Ph(vs:List Vr):List Bool→Int→List Ko→Option (List Bool×Int)
 |m,g,[]=>some (m,g)
 |m,g,o::l=>if (Nn vs o&&(U8 m o&&(decide (0≤g+dl o.kind)&&decide (g+dl o.kind≤4))))=true then Ph vs (Ro m o) (g+dl o.kind) l else none
def Oe(vs:List Vr)(v:Int):Bool:=decide (0≤v)&&decide ((gv vs v.toNat).mode=3)
def Ov(g:List Vr)(o:Ko):Bool:=decide (o.kind=17)&&(Qd g.length o&&(!Oe g o.a && !Oe g o.b))
def Ua(g:List Vr)(m:List Bool):Bool:=(List.range g.length).all λi=>!decide ((gv g i).mode=3) || gb m i
def Rx(g:List Vr):List Bool:=g.map Ny
def M3(vs:List Vr)(g j:List Ko):Bool :=
 Ps vs&&(decide (g.length≤4096)&&(decide (j.length≤4096)&&(j.all (Ov vs)&&(match Ph vs (Rx vs) 0 g with
  |none=>false
  |some (m,z)=>Ua vs m&&decide (z=0)))))
def Np(vs:List Vr)(g j:List Ko):Int:=if M3 vs g j=true then 0 else 2
def zn5{p:Int→Bool}{l:List Int}{j:Nat}(h:j<l.length):(l.take (j+1)).filter (λv=>!p v)=(l.take j).filter (λv=>!p v)++if p (gd l j)=true then [] else [gd l j]:=by
 have e:l[j]=gd l j:=by simp[gd,H9,h]
 rw[Le h,List.filter_append,e]
 congr 1
 cases g:p (gd l j)<;>simp[g]
def zvp(p:Int→Bool)(l:List Int):(Uy p l=-1∧l.filter (λv=>!p v)=l)∨∃i:Nat,Uy p l=i∧i<l.length∧(l.take (i+1)).filter (λv=>!p v)=l.take i:=by
 unfold Uy;by_cases h:l.findIdx p<l.length
 ·rw[Ih h];refine .inr ⟨_,rfl,h,?_⟩;have j:p l[l.findIdx p]=true:=List.findIdx_getElem;have e:l[l.findIdx p]=gd l (l.findIdx p):=by simp[gd,H9,h]
  rw[zn5 h,←e,Ih j,Jd,List.filter_eq_self];intro a g;obtain⟨B,z,rfl⟩:=Ks.1 g;rw[List.getElem_take];rw[Ir]at z;have:=List.not_of_lt_findIdx (p:=p) (xs:=l) (i:=B) J;simpa using this
 ·rw[Ig h];refine .inl ⟨rfl,?_⟩;rw[List.filter_eq_self];intro a g;have A:=List.findIdx_eq_length.1 (Db:l.findIdx p=l.length);simp[A a g]
def zni{c:List Int}{i j:Nat}{x:Int}(h:i<c.length)(g:i<j)(u:Nat)(hu:j≤u):gd (c.set i x) u=gd c u:=by
 rw[zsr _ _ _ _ h,Ig J]
def zj0{c:List Int}{i:Nat}{x:Int}(h:i<c.length):(c.set i x).take (i+1)=c.take i++[x]:=by
 rw[Le Aw,List.getElem_set_self,Mi (Ie _)]
def bt{n:Nat}{v:Int}:Qy n v=true↔0≤v∧v<n:=by simp[Qy]
def z93{n s i:Nat}{v:Int}(h:Qb n s i v=true):v=-1∨(0≤v∧v<n):=by
 unfold Qb at h;split at h
 ·exact .inr (bt.1 h)
 ·exact .inl (Ku h)
def R4{n s i:Nat}{v:Int}(h:Qb n s i v=true)(g:s.testBit i=true):0≤v∧v<n:=by
 rw[Qb,Ih g]at h;exact bt.1 h
def zl6{n s i:Nat}{v:Int}(h:Qb n s i v=true)(g:s.testBit i=false):v=-1:=by
 rw[Qb,Ig Bd]at h;exact Ku h
def zbs{k:Int}{s:Nat}(h:Og k=some s):(k=1∧s=1)∨(k=2∧s=5)∨((k=3∨k=4∨k=5∨k=6∨k=7)∧s=13)∨((k=8∨k=10∨k=11∨k=12∨k=13)∧s=29)∨(k=9∧s=21)∨(k=14∧s=19)∨((k=15∨k=16)∧s=0):=by
 unfold Og at h
 repeat' split at h
 all_goals first|(cases h;done)|(cases h;simp_all)
structure PartsIn (n:Nat) (o:Ko):Prop where
 d:o.d=-1∨(0≤o.d∧o.d<n)
 e:o.e=-1∨(0≤o.e∧o.e<n)
 takes:∀v∈Qx o,0≤v∧v<n
 alike:∀v∈Pk o,0≤v∧v<n
 swap:o.kind=14→o.a=-1∧o.b=-1
def zkb{n s:Nat}{o:Ko}(G:Og o.kind=some s)(h:Su n s o=true):PartsIn n o:=by
 simp only[Su,H7]at h;obtain⟨hd,E,B,C,D⟩:=h;have A:∀v∈[o.a,o.b,o.c].filter (λv=>!decide (v<0)),0≤v∧v<n:=by
  intro v g;obtain⟨z,H⟩:=Kz.1 g;simp at H;simp only[Ij,J4,L5]at z;rcases z with rfl|rfl|rfl
  ·rcases z93 B with e|e<;>omega
  ·rcases z93 C with e|e<;>omega
  ·rcases z93 D with e|e<;>omega
 have I:=zbs G;refine⟨z93 hd,z93 E,λv g=>?_,λv g=>?_,λF=>?_⟩
 ·rcases Iy.1 g with z|z
  ·exact A v z
  ·split at z
   ·rename_i F;have j:s=19:=J
    subst j;simp only[Ij,J4,L5]at z;rcases z with rfl|rfl
    ·exact R4 hd Ah
    ·exact R4 E Ah
   ·cases z
 ·unfold Pk at g;split at g
  ·have j:s=13:=J
   subst j;simp only[Ij,J4,L5]at g;rcases g with rfl|rfl
   ·exact R4 B Ah
   ·exact R4 C Ah
  split at g
  ·have j:s=19:=J
   subst j;simp only[Ij,J4,L5]at g;rcases g with rfl|rfl
   ·exact R4 hd Ah
   ·exact R4 E Ah
  split at g
  ·have j:s=29:=J
   subst j;simp only[Ij,J4,L5]at g;rcases g with rfl|rfl|rfl
   ·exact R4 hd Ah
   ·exact R4 B Ah
   ·exact R4 C Ah
  split at g
  ·have j:s=21:=J
   subst j;simp only[Ij,J4,L5]at g;rcases g with rfl|rfl
   ·exact R4 hd Ah
   ·exact R4 D Ah
  split at g
  ·have j:s=29:=J
   subst j;simp only[Ij,J4,L5]at g;rcases g with rfl|rfl|rfl|rfl
   ·exact R4 hd Ah
   ·exact R4 B Ah
   ·exact R4 C Ah
   ·exact R4 D Ah
  split at g
  ·have j:s=29:=J
   subst j;simp only[Ij,J4,L5]at g;rcases g with rfl|rfl|rfl
   ·exact R4 hd Ah
   ·exact R4 B Ah
   ·exact R4 D Ah
  ·cases g
 ·have j:s=19:=J
  subst j;exact⟨zl6 B Ah,zl6 C Ah⟩
def zox{n:Nat}{o:Ko}(E:o.kind=17)(h:Qd n o=true):PartsIn n o:=by
 simp only[Qd,H7,Ii]at h;obtain⟨hd,B,F,z,j⟩:=h;have z:=bt.1 z;have j:o.b=-1∨(0≤o.b∧o.b<n):=by
  split at j
  ·exact .inr (bt.1 j)
  ·simp only[H7,Ii]at j;exact .inl j.2
 refine⟨.inl hd,.inl B,λv g=>?_,λv g=>?_,λC=>J⟩
 ·unfold Qx at g;rw[Ig J,Jd]at g;obtain⟨A,D⟩:=Kz.1 g;simp at D;simp only[Ij,J4,L5]at A;rcases A with rfl|rfl|rfl
  ·omega
  ·rcases j with e|e<;>omega
  ·omega
 ·unfold Pk at g;rw[Ig J,Ig J,Ig J,Ig J,Ig J,Ig J]at g;cases g
def ztj{g:List Vr}{o:Ko}(h:Nn g o=true):PartsIn g.length o:=by
 unfold Nn at h;split at h
 ·rename_i j;exact zox j h
 ·split at h
  ·cases h
  ·rename_i s z;simp only[H7]at h;exact zkb z h.2.1
def Ob(o:Ko):List Int:=[o.d,o.e,o.a,o.b,o.c]
def zi0{n s:Nat}{o:Ko}(h:∀g<5,Qb n s g (gd (Ob o) g)=true):Su n s o=true:=by
 simp only[Su,H7];exact⟨h 0 J,h 1 J,h 2 J,h 3 J,h 4 J⟩
def zlg{n s:Nat}{o:Ko}(z:g<5)(h:Qb n s g (gd (Ob o) g)=false):Su n s o=false:=by
 cases j:Su n s o with
 |false=>rfl
 |true =>
  simp only[Su,H7]at j;have:g=0∨g=1∨g=2∨g=3∨g=4:=J
  rcases this with rfl|rfl|rfl|rfl|rfl
  ·exact absurd j.1 (by rw[show o.d=gd (Ob o) 0 from rfl,h];simp)
  ·exact absurd j.2.1 (by rw[show o.e=gd (Ob o) 1 from rfl,h];simp)
  ·exact absurd j.2.2.1 (by rw[show o.a=gd (Ob o) 2 from rfl,h];simp)
  ·exact absurd j.2.2.2.1 (by rw[show o.b=gd (Ob o) 3 from rfl,h];simp)
  ·exact absurd j.2.2.2.2 (by rw[show o.c=gd (Ob o) 4 from rfl,h];simp)
def zlt{k:Int}{s:Nat}(h:Og k=some s):s<32:=by rcases zbs h with h|h|h|h|h|h|h<;>omega
def zq8(s i:Nat):((s:Int)/2^i%2=1)↔s.testBit i=true:=by
 rw[Nat.testBit_eq_decide_div_mod_eq,Ii];constructor
 ·intro h;have:((s/2^i%2:Nat):Int)=1:=by push_cast;exact h
  omega
 ·intro h;have:((s/2^i%2:Nat):Int)=1:=J
  push_cast at this;exact this
section
inductive Fr (α:Type) where
 |nil
 |op (o:α) (r:Fr α)
 |loop (o:α) (b:Fr α) (e:α) (r:Fr α)
section tree
variable {α : Type}
def Fr.flat:Fr α→List α
 |.nil=>[]
 |.op o r=>o::r.flat
 |.loop o b e r=>o::(b.flat++e::r.flat)
def Fr.size:Fr α→Nat
 |.nil=>0
 |.op _ r=>r.size+1
 |.loop _ b _ r=>b.size+r.size+2
def Fr.flat_len:∀f:Fr α,f.flat.length=f.size
 |.nil=>rfl
 |.op _ r=>by simp[flat,size,flat_len r]
 |.loop _ b _ r=>by simp[flat,size,flat_len b,flat_len r];omega
def Fr.wf(kd:α→Nat):Fr α→Prop
 |.nil=>True
 |.op o r=>kd o=0∧r.wf kd
 |.loop o b e r=>kd o=1∧kd e=2∧b.wf kd∧r.wf kd
def V4(g:α→Nat):Nat→List α→Prop
 |d,[]=>d=0
 |d,o::l=>if g o=1 then V4 g (d+1) l else if g o=2 then 0<d∧V4 g (d-1) l else g o=0∧V4 g d l
def Vg{A:α→Nat}:∀(n:Nat) (l:List α) (d:Nat),l.length≤n→V4 A d l→∃(f:Fr α) (g:List α),f.wf A∧l=f.flat++g∧((d=0∧g=[])∨∃(e:α) (j:List α) (B:Nat),d=B+1∧g=e::j∧A e=2∧V4 A B j)
 |_,[],d,_,h=>⟨.nil,[],trivial,rfl,.inl ⟨h,rfl⟩⟩
 |n+1,o::l,d,L,h=>by
  have z:l.length≤n:=De
  unfold V4 at h;by_cases D:A o=1
  ·rw[Ih D]at h;obtain⟨f1,I,E,C,F⟩:=Vg n l (d+1) z h;rcases F with ⟨q,_⟩|⟨e,K,B,hd,rfl,M,O⟩
   ·omega
   obtain rfl:d=B:=J
   have G:K.length≤n:=by rw[C]at z;simp at z;omega
   obtain⟨f2,P,Q,R,S⟩:=Vg n K d G O;refine⟨.loop o f1 e f2,P,⟨D,M,E,Q⟩,by rw[C,R];simp[Fr.flat],S⟩
  ·rw[Ig D]at h;by_cases H:A o=2
   ·rw[Ih H]at h;exact⟨.nil,o::l,trivial,rfl,.inr ⟨o,l,d-1,J,rfl,H,h.2⟩⟩
   ·rw[Ig H]at h;obtain⟨f1,I,E,C,F⟩:=Vg n l d z h.2;exact⟨.op o f1,I,⟨h.1,E⟩,by rw[C];rfl,F⟩
def gh{g:α→Nat}{l:List α}(h:V4 g 0 l):∃f:Fr α,f.wf g∧l=f.flat:=by
 obtain⟨f,r,w,e,q⟩:=Vg l.length l 0 (Ie _) h;rcases q with ⟨_,rfl⟩|⟨_,_,_,h,_⟩
 ·exact⟨f,w,by simpa using e⟩
 ·omega
def Fr.ends:Nat→Fr α→List Int
 |_,.nil=>[]
 |i,.op _ r=>-1::r.ends (i+1)
 |i,.loop _ b _ r=>((i+b.size+1:Nat):Int)::(b.ends (i+1)++(i:Int)::r.ends (i+b.size+2))
def Fr.ends_len:∀(f:Fr α) (i:Nat),(f.ends i).length=f.size
 |.nil,_=>rfl
 |.op _ r,i=>by simp[ends,size,ends_len r]
 |.loop _ b _ r,i=>by simp[ends,size,ends_len b,ends_len r];omega
def Va(j:α→Nat):Nat→List Nat→List Int→List α→List Int
 |_,_,g,[]=>g
 |i,st,g,o::l=>if j o=1 then Va j (i+1) (i::st) g l
  else if j o=2 then (match st with
   |[]=>Va j (i+1) [] g l
   |a::z=>Va j (i+1) z ((g.set i a).set a i) l)
  else Va j (i+1) st g l
def zak{A:α→Nat}:∀(f:Fr α) (i:Nat) (st:List Nat) (j g:List Int) (z:List α),f.wf A→j.length=i →
  Va A i st (j++List.replicate f.size (-1)++g) (f.flat++z)=Va A (i+f.size) st (j++f.ends i++g) z
 |.nil,i,st,j,g,z,_,_=>by simp[Fr.flat,Fr.size,Fr.ends]
 |.op o r,i,st,j,g,z,w,C=>by
  have h:=zak r (i+1) st (j++[-1]) g z w.2 Ad;have F:¬A o=1:=by rw[w.1];decide
  have G:¬A o=2:=by rw[w.1];decide
  simp only[Fr.flat,Fr.size,Fr.ends,Jh,Va,F,G,Mp,J0];simp only[Iz,Jh,Ky]at h ⊢;rw[h]
  congr 1;omega
 |.loop o b e r,i,st,j,g,z,w,C=>by
  obtain⟨H,I,K,L⟩:=w;have D:=zak b (i+1) (i::st) (j++[-1]) ([-1]++List.replicate r.size (-1)++g) (e::(r.flat++z)) K Ad;have E:=zak r (i+b.size+2) st (j++[((i+b.size+1:Nat):Int)]++b.ends (i+1)++[(i:Int)]) g z L (by simp[C,Fr.ends_len];omega);have M:List.replicate (b.size+r.size+2) (-1:Int)=[-1]++List.replicate b.size (-1)++([-1]++List.replicate r.size (-1)):=by
   rw[(J:b.size+r.size+2=1+b.size+(1+r.size)),←Kj,←Kj,←Kj];rfl
  simp only[Fr.flat,Fr.size,Jh,Va,H,Kw];rw[M];simp only[Iz,Jh,Ky]at D E ⊢;rw[D];simp only[Va,I,Kw];have B:((j++(-1:Int)::(b.ends (i+1)++(-1:Int)::(List.replicate r.size (-1)++g))).set (i+1+b.size) (i:Int)).set i ((i+1+b.size:Nat):Int)
    = j++((i+b.size+1:Nat):Int)::(b.ends (i+1)++(i:Int)::(List.replicate r.size (-1)++g)):=by
   rw[Ls _ _ J,Ls _ _ J,(J:i+1+b.size-j.length=b.size+1),(J:i-j.length=0),List.set_cons_succ,List.set_cons_zero,
    Ls _ _ (by rw[Fr.ends_len];exact Ie _),Fr.ends_len,Nat.sub_self,List.set_cons_zero,(J:i+1+b.size=i+b.size+1)]
  rw[B,(J:i+1+b.size+1=i+b.size+2),E];simp only[Fr.ends,Jh,Iz];rw[(J:i+(b.size+r.size+2)=i+b.size+2+r.size)];simp[Nat.add_comm]
def qi(g:α→Nat)(l:List α):List Int:=Va g 0 [] (List.replicate l.length (-1)) l
def zs2{g:α→Nat}{f:Fr α}(w:f.wf g):qi g f.flat=f.ends 0:=by
 have h:=zak f 0 [] [] [] [] w rfl;simp only[Jd,Ky,Va]at h;rw[qi,Fr.flat_len,h]
end tree
def Qc(o:Ko):Nat:=if o.kind=15 then 1 else if o.kind=16 then 2 else 0
def xg{vs:List Vr}:∀(l:List Ko) (m j:List Bool) (d:Nat),Ph vs m d l=some (j,0)→V4 Qc d l
 |[],m,j,d,h=>by
  unfold Ph at h;cases h;unfold V4;rfl
 |o::l,m,j,d,h=>by
  unfold Ph at h;split at h
  ·rename_i A;simp only[H7,Ii]at A;obtain⟨_,_,B,C⟩:=A;unfold V4;by_cases g:o.kind=15
   ·rw[Ih (by simp[Qc,g])];rw[dl,Ih g]at h;exact xg l _ j (d+1) Aw
   ·rw[Ig (by simp[Qc,g];split<;>simp)];by_cases z:o.kind=16
    ·rw[Ih (by simp[Qc,z])];rw[dl,Ig g,Ih z]at h B;refine⟨J,xg (vs:=vs) l (Ro m o) j (d-1) ?_⟩;rw[(J:((d-1:Nat):Int)=(d:Int)+-1)];exact h
    ·rw[Ig (by simp[Qc,g,z])];rw[dl,Ig g,Ig z]at h;exact⟨by simp[Qc,g,z],xg l _ j d Aw⟩
  ·cases h
end
abbrev Sp:=Int×Int
def Y1(o:Ko)(v:Int):Bool:=[o.d,o.e,o.a,o.b,o.c].any λx=>decide (x=v)
def qh(v:Int):Nat→Sp→List Ko→Sp
 |_,s,[]=>s
 |i,s,o::l=>qh v (i+1) (if Y1 o v=true then (if s.1<0 then (i:Int) else s.1,(i:Int)) else s) l
def jo(p q:Sp):Bool:=decide (p.1≤q.2)&&decide (q.1≤p.2)
def rq(p q:Sp):Sp:=(min p.1 q.1,max p.2 q.2)
def zu8(s p:Sp):Sp:=if (!decide (s.1<0)&&jo s p)=true then rq s p else s
def yq(s:Sp)(g:List Sp):Sp:=g.foldl zu8 s
def Fr.tops{α:Type}:Nat→Fr α→List Sp
 |_,.nil=>[]
 |i,.op _ r=>r.tops (i+1)
 |i,.loop _ b _ r=>((i:Int),((i+b.size+1:Nat):Int))::r.tops (i+b.size+2)
def Vb(g:List Ko)(j:List Sp)(v:Nat)(x:Vr):Sp:=if 0<x.mode then (0,(g.length:Int)) else yq (qh v 0 (-1,-1) g) j
def S4(g:List Ko)(j:List Sp):Nat→List Vr→List Sp
 |_,[]=>[]
 |v,x::l=>Vb g j v x::S4 g j (v+1) l
def Od(p:Sp):List LV:=[.i p.1,.i p.2]
def M9(l:List Sp):List LV:=l.flatMap Od
def mr(l:List Sp):(M9 l).length=l.length*2:=zqa (f:=Od) (k:=2) (λ_=>rfl) l
def zf3(l:List Sp):dats (M9 l)=true:=ut (f:=Od) (λ_=>rfl) l
def zu5(a b:List Sp):M9 (a++b)=M9 a++M9 b:=by simp[M9]
def gs(l:List Sp)(n:Nat):Sp:=l.getD n (0,0)
def Wb{l:List Sp}{n:Nat}(h:n<l.length):l[n]?=some (gs l n):=by simp[gs,H9,h]
def zuo{l:List Sp}{i:Nat}{v:Sp}(h:l[i]?=some v):((M9 l).drop (i*2)).take 2=[.i v.1,.i v.2]:=pg (f:=Od) (λ_=>rfl) h
def Z8{l:List Sp}{i:Nat}(h:i<l.length):i*2+2≤(M9 l).length:=xb (f:=Od) (λ_=>rfl) h
def fc{l:List Sp}{n:Nat}(h:n<l.length):l.drop n=gs l n::l.drop (n+1):=by
 rw[Iw h];congr 1;have:=Wb h;rw[H8 h]at this;exact Option.some.inj this
structure Left (os:List Ko) (es:List Int) (T0:List Sp) (i:Nat) (r:Fr Ko) (T:List Sp):Prop where
 os:os.drop i=r.flat
 es:es.drop i=r.ends i
 wf:r.wf Qc
 tops:T0=T++r.tops i
def Left.len{os:List Ko}{es:List Int}{T0:List Sp}{i:Nat}{r:Fr Ko}{T:List Sp}(h:Left os es T0 i r T)(hi:i≤os.length):os.length=i+r.size:=by
 have:=congrArg List.length h.os;rw[Jg,Fr.flat_len]at this;omega
def Left.op{os:List Ko}{es:List Int}{T0:List Sp}{i:Nat}{o:Ko}{r:Fr Ko}{T:List Sp}(h:Left os es T0 i (.op o r) T):os[i]?=some o∧o.kind≠15∧Left os es T0 (i+1) r T:=by
 obtain⟨h1,h2,h3,h4⟩:=h;have e1:os[i]?=some o:=by
  have:=congrArg (λl:List Ko=>l[0]?) h1;simpa [Fr.flat] using this
 refine⟨e1,λhk=>?_,?_,?_,h3.2,h4⟩
 ·have:=h3.1;simp[Qc,hk]at this
 ·rw[←Kh,h1];rfl
 ·rw[←Kh,h2];rfl
def Left.loop{os:List Ko}{es:List Int}{T0:List Sp}{i:Nat}{o e:Ko}{b r:Fr Ko}{T:List Sp}(h:Left os es T0 i (.loop o b e r) T) :
  os[i]?=some o∧o.kind=15∧es[i]?=some ((i+b.size+1:Nat):Int)∧Left os es T0 (i+b.size+2) r (T++[((i:Int),((i+b.size+1:Nat):Int))]):=by
 obtain⟨h1,h2,h3,h4⟩:=h;have e1:os[i]?=some o:=by
  have:=congrArg (λl:List Ko=>l[0]?) h1;simpa [Fr.flat] using this
 have e2:es[i]?=some ((i+b.size+1:Nat):Int):=by
  have:=congrArg (λl:List Int=>l[0]?) h2;simpa [Fr.ends] using this
 refine⟨e1,?_,e2,?_,?_,h3.2.2.2,?_⟩
 ·have:=h3.1;unfold Qc at this;split at this
  ·assumption
  ·split at this<;>cases this
 ·rw[(J:i+b.size+2=i+(b.size+2)),←Kh,h1];simp only[Fr.flat];rw[(J:b.size+2=(b.size+1)+1),Lh,←Kh,←Fr.flat_len b,List.drop_left,Lh,Jt]
 ·rw[show es.drop (i+b.size+2)=(es.drop i).drop (b.size+2) by rw[Kh];congr 1,h2];simp only[Fr.ends];rw[show (b.size+2:Nat)=(b.size+1)+1 from rfl,Lh,←Kh];have:(b.ends (i+1)).length=b.size:=Fr.ends_len b (i+1);rw[List.drop_left' this,Lh,Jt,Ja]
 ·rw[h4];simp[Fr.tops]
end Go.Sv
