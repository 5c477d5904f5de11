/- Texts of the evaluator, of the logic over it, of plain arithmetic. -/
import Derived.Test.YtgjbfhmmgeplmaaGreatSvG1
import Derived.OpenShut
import Derived.Carry
import Derived.WalkKit
import Derived.ProofKit
import Derived.WideKeyArgs
import Derived.ChangeCalls
set_option linter.unusedSimpArgs false
set_option linter.defProp false
namespace Go.Sv
variable{g j B Q v7:Nat}{z:Program}{T:Int}{E:World}{O vI:Bool}{S:TypeId}{Y:Option Nat}{Z:List Nat}{v8:Type}{v6:Array Value}{vQ:Code}{vG:Prop}{C X:Heap}{vM:AV}{L vT:Tr AV}{M:List AV}{I:CM}{D U:List LV}{F:M4}{K:LV}{P:LV→M4→Prop}{vP:Cx}{vE:LV→Prop}
section
section res
variable {P : Program} {c : Cx} {G : M4} {K : LV → M4 → Prop}
def znd(l h m o v i j:Nat)(A:l≤h)(B:h≤m):(h-l=0∧Y1 l h m o v i j=.emp∧l≠0)∨∃g,Y1 l h m o v i j=.sl o v (i+l*j) (h-l) j g∧∀r,g=some r→h-l≤r:=by
 unfold Y1;cases C:Nat.beq l m with
 |true =>
  have E:=Ig C;cases z:Nat.beq l 0 with
  |true =>
   have D:=Ig z;have:h-l=0:=J
   refine .inr ⟨some 0,?_,λr _=>J⟩;rw[this,D];simp
  |false=>exact .inl ⟨J,rfl,λe=>by subst e;cases z⟩
 |false=>exact .inr ⟨_,rfl,λr e=>by cases e;show h-l≤m-l;omega⟩
def z90{lo hi:Option Nat}{o v i len esz:Nat}{room:Option Nat}(j:lo.getD 0≤hi.getD len)(B:hi.getD len≤len)(C:∀r,room=some r→len≤r) :
  ∃a,Uf esz lo hi none o v i len esz room=some a∧kc a=true∧((hi.getD len-lo.getD 0=0∧a=.emp∧lo.getD 0≠0)∨∃g,a=.sl o v (i+lo.getD 0*esz) (hi.getD len-lo.getD 0) esz g∧∀r,g=some r→hi.getD len-lo.getD 0≤r):=by
 generalize F:lo.getD 0=l at j;generalize H:hi.getD len=h at j B;have z:∀a,((h-l=0∧a=.emp∧l≠0)∨∃g,a=AV.sl o v (i+l*esz) (h-l) esz g∧∀r,g=some r→h-l≤r)→kc a=true:=by
  rintro a (⟨_,rfl,_⟩|⟨_,rfl,_⟩)<;>rfl
 unfold Uf;rw[I3,F,H];dsimp only;unfold m6;have D:Nat.ble l h=true:=Ih j;cases room with
 |some r =>
  have A:Nat.ble h ((some r).getD len)=true:=Ih (by have:=C r rfl;show h≤r;omega);rw[D,A];dsimp only;have:=znd l h r o v i esz j (by have:=C r rfl;omega);exact⟨_,rfl,z _ this,this⟩
 |none =>
  have A:Nat.ble h ((none:Option Nat).getD len)=true:=Ih B;rw[D,A];dsimp only;cases E:Nat.beq l 0 with
  |true =>
   have I:=Ig E;have:(h-l=0∧(AV.sl o v i h esz none)=.emp∧l≠0)∨∃g,AV.sl o v i h esz none=AV.sl o v (i+l*esz) (h-l) esz g∧∀r,g=some r→h-l≤r:=.inr ⟨none,by rw[I];simp,λr e=>Aq⟩;exact⟨_,rfl,z _ this,this⟩
  |false =>
   cases L:Nat.beq l h with
   |true =>
    have M:=Ig L;exact⟨_,rfl,rfl,.inl ⟨J,rfl,λe=>by subst e;cases E⟩⟩
   |false=>exact⟨_,rfl,rfl,.inr ⟨none,rfl,λr e=>Aq⟩⟩
def zfo{lo hi:Option Nat}{o v i len esz m:Nat}{room:Option Nat}(z:lo.getD 0≤hi.getD len)(A:hi.getD len≤m)(hm:m≤len)(C:∀r,room=some r→len≤r) :
  ∃a,Uf esz lo hi (some m) o v i len esz room=some a∧kc a=true∧((hi.getD len-lo.getD 0=0∧a=.emp∧lo.getD 0≠0)∨∃g,a=.sl o v (i+lo.getD 0*esz) (hi.getD len-lo.getD 0) esz g∧∀r,g=some r→hi.getD len-lo.getD 0≤r):=by
 generalize D:lo.getD 0=l at z;generalize E:hi.getD len=h at z A;have B:∀a,((h-l=0∧a=.emp∧l≠0)∨∃g,a=AV.sl o v (i+l*esz) (h-l) esz g∧∀r,g=some r→h-l≤r)→kc a=true:=by
  rintro a (⟨_,rfl,_⟩|⟨_,rfl,_⟩)<;>rfl
 unfold Uf;rw[I3,D,E];dsimp only;unfold m6;have j:m≤room.getD len:=by
  cases room with
  |none=>exact hm
  |some r=>have:=C r rfl;show m≤r;omega
 rw[show Nat.ble l h=true from Ih z,show Nat.ble h (room.getD len)=true from Ih (I1 A j)];dsimp only;rw[show Nat.ble h m=true from Ih A,show Nat.ble m (room.getD len)=true from Ih j];dsimp only;have:=znd l h m o v i esz z A;exact⟨_,rfl,B _ this,this⟩
def zf6{hi:Option Nat}{o v i len:Nat}{z:Option Nat}{a:AV}(h:Uf g Y hi none o v i len j z=some a)(A:Y.getD 0=0):∃B n,a=.sl o v B n j z:=by
 unfold Uf at h;split at h
 ·cases h
 rw[A]at h;unfold m6 at h;split at h
 ·cases h
 split at h
 ·cases h
 dsimp only at h;cases z with
 |some r =>
  dsimp only at h;cases h;unfold Y1;split
  ·rename_i C;have:=Ig C;subst this;exact⟨_,_,rfl⟩
  ·exact⟨_,_,rfl⟩
 |none =>
  dsimp only at h;cases h;exact⟨_,_,rfl⟩
def zme{lo hi:Option Nat}{o v i len esz:Nat}{room:Option Nat}{a:AV}(h:Uf g lo hi none o v i len esz room=some a)(z:j=0→lo.getD 0=0)(A:vM=.sl o v 0 len esz room):We j vM a:=by
 intro B;obtain⟨C,n,rfl⟩:=zf6 h (z B);subst A;exact .inl rfl
def zkh{lo hi:Option Nat}{o v i len esz:Nat}{a:AV}(h:Uf g lo hi none o v i len esz Y=some a)(z:j=0→lo.getD 0=0∧B=0)(C:We B vM (.sl o v Q v7 esz Y)):We j vM a:=by
 intro A;obtain⟨D,n,rfl⟩:=zf6 h (z A).1;exact C (z A).2
def zlc{lo hi:Option Nat}{o v i len esz m:Nat}{room:Option Nat}{a:AV}(h:Uf g lo hi (some m) o v i len esz room=some a)(z:j=0→lo.getD 0=0)(hm:m≤len)(B:vM=.sl o v 0 len esz room):We j vM a:=by
 intro C;have z:=z C;subst B;unfold Uf at h;split at h
 ·cases h
 rw[z]at h;unfold m6 at h;split at h
 ·cases h
 split at h
 ·cases h
 dsimp only at h;split at h
 ·cases h
 split at h
 ·cases h
 cases h;have D:∃(A n r:Nat),Y1 0 (hi.getD len) m o v i esz=.sl o v A n esz (some r)∧r≤m:=by
  unfold Y1;cases Nat.beq 0 m with
  |true=>exact⟨_,_,0,rfl,Lk _⟩
  |false=>exact⟨_,_,m-0,rfl,Nat.sub_le _ _⟩
 obtain⟨A,n,r,e,E⟩:=D;rw[e];exact .inr ⟨r,rfl,J⟩
def zod{lo hi:Option Nat}{o v i len esz m:Nat}{room:Option Nat}{a:AV}(h:Uf g lo hi (some m) o v i len esz room=some a)(z:lo.getD 0=0)(A:hi.getD len=m)(hm:0<m):a=.sl o v i m esz (some m):=by
 unfold Uf at h;split at h
 ·cases h
 rw[z,A]at h;unfold m6 at h;split at h
 ·cases h
 split at h
 ·cases h
 dsimp only at h;split at h
 ·cases h
 split at h
 ·cases h
 cases h;unfold Y1;have j:Nat.beq 0 m=false:=by
  cases j:Nat.beq 0 m with
  |false=>rfl
  |true=>have:=Ig j;omega
 rw[j];dsimp only;rw[show Nat.add i (Nat.mul 0 esz)=i by show i+0*esz=i;omega,show Nat.sub m 0=m from rfl]
def AR.lst'{l:List LV}{len esz:Nat}{a:AV}{o v i n:Nat}{l':List AV}(hf:c.Fz o)(hr:Pt c.H o v i n=some l')(hl:ARs c l l')(hle:j*esz+len*esz≤n)
  (ha:(len=0∧a=.emp)∨∃room,a=.sl o v (i+j*esz) len esz room∧∀r,room=some r→len≤r):AR c (.lst ((l.drop (j*esz)).take (len*esz)) len esz) a:=by
 have hn:=zdx hr;have gj:=hl.length;rcases ha with ⟨rfl,rfl⟩|⟨room,rfl,gg⟩
 ·simp only[Kz,M1];exact .lstEmp
 ·exact .lst hf gg Ab (zjx hr hle) ((hl.drop _).take _)
def zmo(g:Bool)(a b:Int):Xk g (.int .i64 a) [.int .i64 b]=some (.int .i64 (match g with|true=>max a b|false=>min a b)):=by
 have j:Wc .i64 .i64=true:=rfl;simp only[Xk,Vq,j];cases g with
 |true =>
  simp only[Tw];by_cases h:a<b
  ·rw[J4 h];simp only;congr 2;omega
  ·rw[Md h];simp only;congr 2;omega
 |false =>
  simp only[Tw];by_cases h:b<a
  ·rw[J4 h];simp only;congr 2;omega
  ·rw[Md h];simp only;congr 2;omega
def gy(z:Bool)(a b d:Int):Xk z (.int .i64 a) [.int .i64 b,.int .i64 d]=some (.int .i64 (match z with|true=>max (max a b) d|false=>min (min a b) d)):=by
 cases z with
 |true =>
  have g:=zmo true a b;have j:=zmo true (max a b) d;simp only[Xk]at g j ⊢;cases hm:Vq true (.int .i64 a) (.int .i64 b) with
  |none=>rw[hm]at g;cases g
  |some r =>
   rw[hm]at g;simp only[Option.some.injEq]at g;subst g;exact j
 |false =>
  have g:=zmo false a b;have j:=zmo false (min a b) d;simp only[Xk]at g j ⊢;cases hm:Vq false (.int .i64 a) (.int .i64 b) with
  |none=>rw[hm]at g;cases g
  |some r =>
   rw[hm]at g;simp only[Option.some.injEq]at g;subst g;exact j
def sd(g:Bool)(a b:UInt64):Xk g (.int .u64 (Int.ofNat a.toNat)) [.int .u64 (Int.ofNat b.toNat)]=some (.int .u64 (Int.ofNat (match g with|true=>if a<b then b else a|false=>if b<a then b else a:UInt64).toNat)):=by
 have j:Wc .u64 .u64=true:=rfl;simp only[Xk,Vq,j];cases g with
 |true =>
  simp only[Tw,zgf];by_cases h:a<b
  ·rw[J4 h,Ij h]
  ·rw[Md h,Ii h]
 |false =>
  simp only[Tw,zgf];by_cases h:b<a
  ·rw[J4 h,Ij h]
  ·rw[Md h,Ii h]
def bytesA_map:∀l:List UInt8,U1.bytesA (l.map λb=>AV.int .u8 (Int.ofNat b.toNat))=some (Oy l)
 |[]=>rfl
 |b::l=>by
  have g:=b.toNat_lt;have h:Nat.blt b.toNat 256=true:=by unfold Nat.blt;exact Ih g
  simp only[Kn,U1.bytesA,h,K7,bytesA_map l,Oy]
def ARs_b:∀{j:List UInt8} {g:List AV},ARs c (j.map LV.b) g→g=j.map λb=>AV.int .u8 (Int.ofNat b.toNat)
 |[],g,h=>Ce
 |b::j,g,h=>by
  cases h with
  |cons h z=>cases h;rw[ARs_b z];rfl
def ja(O:HSim c G){x:LV}{a:AV}{K:List LV→Prop}(D:AR c x a)(h:U2 G x K):∃l j,ARs c l j∧K l∧((a=.nilSl∧j=[])∨∃o v i room,a=.sl o v i j.length 1 room∧Pt c.H o v i j.length=some j):=by
 unfold U2 at h;split at h
 ·cases D;exact⟨[],[],.nil,h,.inl ⟨rfl,rfl⟩⟩
 ·rename_i p k;split at h
  ·rename_i l len E Q st R;obtain⟨S,rfl,h⟩:=h;cases D with
   | @dy _ _ Z hh _ e hk T _ =>
    obtain⟨r0,H,A⟩:=O.obj p _ _ _ R e;have B:=T J;rcases A with ⟨A,F⟩|⟨o,v,room,t,I,j,A,F,U,V,L,_⟩
    ·subst F;have:l=[]:=Is Cv;subst this;exact⟨[],[],.nil,h,.inl ⟨B.trans A,rfl⟩⟩
    ·have g:j.length=len*1:=by rw[←L.length];exact H
     have z:=Tz (i:=0) (n:=len*1) F V U J;rw[K0]at g z;refine⟨l,j,L,h,.inr ⟨o,v,0,room,by rw[B,A,g],?_⟩⟩;rw[g,z,Jv,Io J]
  ·exact h.elim
 ·rename_i l len E;obtain⟨rfl,C,h⟩:=h;cases D with
  |lst hf X M z Y =>
   have g:=zdx z;rw[K0]at g z;refine⟨l,_,Y,h,.inr ⟨_,_,_,_,by rw[g],by rw[g];exact z⟩⟩
  |lstNil=>exact absurd rfl C
  |lstEmp=>exact absurd rfl C
 ·exact h.elim
def re(z:HSim c G){ρ:M7}(B:N0 c ρ L){o:LOp}(g:o.ok=true)(h:Nq P ρ G o K):Rn P c G K (On P (ρA L) c.H o.r):=by
 cases o with
 |move x=>exact .same z (Ol B g) h
 |pick cc a b =>
  simp only[LOp.ok,H9]at g;have hc:=Ol B g.1.1;have Z:=Ol B g.1.2;have hb:=Ol B g.2;simp only[Nq]at h;simp only[LOp.r,On];generalize cc.ev ρ=cv at h hc;generalize cc.r.ev (ρA L)=ca at hc ⊢;cases cv<;>first|exact h.elim|skip
  rename_i t;cases hc;dsimp only at h;split at h
  ·rename_i x y j hy;rw[j]at Z;rw[hy]at hb;cases t with
   |true=>exact .same z Z h
   |false=>exact .same z hb h
  ·cases t with
   |true=>exact .same z Z (h.1 rfl)
   |false=>exact .same z hb (h.2 rfl)
 |alloc l=>exact zk2 z (pw c g) h
 |box x =>
  have j:=Ol B g;simp only[Nq]at h;simp only[LOp.r,On];split at h
  ·rename_i l X;obtain⟨l',E,C⟩:=j.cells X;rw[E];exact zk2 z C h
  ·exact h.elim
 |build cs ps =>
  simp only[LOp.ok,H9]at g;simp only[Nq]at h;simp only[LOp.r,On];split at h
  ·rename_i l X;obtain⟨l',E,C⟩:=zl6 B g.2 (pw c g.1) X;rw[E];exact .same z (.agg C) h
  ·exact h.elim
 |buildSl A len cs ps =>
  simp only[LOp.ok,H9]at g;simp only[Nq]at h;simp only[LOp.r,On];split at h
  ·rename_i l X;obtain⟨l',E,C⟩:=zl6 B g.2 (pw c g.1) X;rw[E];exact gr z C h.1 (λr e=>by cases e;rfl) h.2
  ·exact h.elim
 |load1 x =>
  have j:=Ol B g;simp only[Nq]at h;simp only[LOp.r,On];obtain⟨o,v,i,w,b,E,C,O,H⟩:=zrp z j h;rw[E];dsimp only;rw[C];exact .same z O H
 |loadN n x =>
  have j:=Ol B g;simp only[Nq]at h;simp only[LOp.r,On];obtain⟨o,v,i,l',l,E,C,O,H⟩:=zlv z j h;rw[E];dsimp only;rw[C];exact .same z (.agg O) H
 |store n x y =>
  simp only[LOp.ok,H9]at g;have j:=Ol B g.1;have hy:=Ol B g.2;simp only[Nq]at h;simp only[LOp.r,On];split at h
  ·rename_i l X;obtain⟨l',p1,p2⟩:=hy.cells X;obtain⟨o,v,i,H',c',G',E,C,O,H,Q,q6⟩:=zao z j p2 h.2;rw[E];dsimp only;rw[p1];dsimp only;have hb:Nat.beq l'.length n=true:=by rw[←p2.length,h.1];exact I3 _
   rw[hb];dsimp only;rw[C];exact⟨c',.tup [],G',O,H,Q,.tup .nil,q6⟩
  ·exact h.elim
 |nilChk x =>
  have j:=Ol B g;simp only[Nq]at h;simp only[LOp.r,On];generalize x.ev ρ=v at h j;generalize x.r.ev (ρA L)=a at j ⊢;split at h
  ·have h0:=j;cases j;exact .same z h0 h
  ·have h0:=j;cases j;exact .same z h0 h
  ·have h0:=j;cases j;exact .same z h0 h
  ·have h0:=j;cases j;exact .same z h0 h
  ·exact h.elim
 |bin op jD t x y =>
  simp only[LOp.ok,H9]at g;exact .ret z (fq (Ol B g.1) (Ol B g.2) h)
 |un op x=>exact .ret z (p8 (Ol B g) h)
 |cvInt k x =>
  obtain⟨k',n,E,v,C,O⟩:=qc (Ol B g) (show ai k (x.ev ρ) (λv=>K v G) from h);simp only[LOp.r,On];rw[E];exact .same z C O
 |cvStr x =>
  have j:=Ol B g;simp only[Nq]at h;simp only[LOp.r,On];obtain⟨l,l',E,⟨bs,rfl,C⟩,O⟩:=ja z j h;have gX:=ARs_b E;rcases O with ⟨O,H⟩|⟨o,v,i,room,O,H⟩
  ·rw[O];rw[H]at gX;have:bs=[]:=by cases bs with
    |nil=>rfl
    |cons _ _=>cases gX
   subst this;exact .same z (.str []) C
  ·rw[O];show Rn P c G K (match Pt c.H o v i l'.length with
    |some r=>match U1.bytesA r with
     |some n=>OR.val (.str l'.length n) c.H
     |none=>.no
    |none=>.no)
   rw[H];dsimp only;rw[gX,bytesA_map];dsimp only;exact .same z (.str' N rfl) C
 |cvSame x =>
  have j:=Ol B g;simp only[Nq]at h;simp only[LOp.r,On];generalize x.ev ρ=v at h j;generalize x.r.ev (ρA L)=a at j ⊢;split at h
  ·cases j;exact .same z (.str _) h
  ·exact h.elim
 |cvBytes x =>
  have j:=Ol B g;simp only[Nq]at h;simp only[LOp.r,On];generalize x.ev ρ=v at h j;generalize x.r.ev (ρA L)=a at j ⊢;split at h
  ·rename_i l;cases j;exact gr z (zol l c) N (λr e=>Aq) h
  ·exact h.elim
 |mkFunc f a b =>
  simp only[LOp.ok,H9]at g;exact .same z (.fn (zsj B g.1) (zsj B g.2)) h
 |mkSl A jE l cc =>
  simp only[LOp.ok,H9]at g;have X:=Ol B g.1.2;have hc:=Ol B g.2;simp only[Nq]at h;simp only[LOp.r,On];generalize l.ev ρ=lv at h X;generalize l.r.ev (ρA L)=la at X ⊢;generalize cc.ev ρ=cv at h hc;generalize cc.r.ev (ρA L)=ca at hc ⊢;split at h
  ·rename_i n m;obtain⟨rfl,F,T,M,h4⟩:=h;cases X;cases hc;obtain⟨k,rfl⟩:=Ir F;have b1:Nat.ble k k=true:=Ih (If _);have b2:Nat.ble k 1048576=true:=Ih J;show Rn P c G K (match Nat.ble k k with
    |true=>match Nat.ble k 1048576 with
     |true=>match newObj c.H (Sw (toAs jE) k) with
      |some (o,H')=>OR.val (.sl o 0 0 k A (some k)) H'
      |none=>.no
     |false=>.no
    |false=>.no)
   rw[b1,b2];exact gr z ((pw c g.1.1).rep k) (by rw[z6y,M]) (λr e=>by cases e;rfl) h4
  ·exact h.elim
 |slStr x lo hi =>
  simp only[LOp.ok,H9]at g;have j:=Ol B g.1.1;simp only[Nq]at h;simp only[LOp.r,On];generalize x.ev ρ=v at h j;generalize x.r.ev (ρA L)=a at j ⊢;split at h
  ·rename_i l;cases j;obtain⟨gg,U,E,C,O⟩:=Uh B g.1.2 h;obtain⟨R,S,H,Q,F,T,M⟩:=Uh B g.2 O;rw[E,H];dsimp only;rw[C,Q];have b1:Nat.ble U S=true:=Ih F;have b2:Nat.ble S l.length=true:=Ih T;rw[b1,b2];dsimp only;refine .same z (.str' Ab ?_) M;rw[packL_take,packL_drop];rfl
  ·exact h.elim
 |slSl A x lo hi =>
  simp only[LOp.ok,H9]at g;have j:=Ol B g.1.1;simp only[Nq]at h;simp only[LOp.r,On];have gK:Pg (ρA L) none=some none:=rfl;rw[gK];split at h
  ·rename_i hv;rw[hv]at j;generalize x.r.ev (ρA L)=a at j ⊢;cases j;obtain⟨gg,U,E,C,O⟩:=Uh B g.1.2 h;obtain⟨R,S,H,Q,F,T,M⟩:=Uh B g.2 O;rw[E,H];dsimp only;rw[C,Q,F,T];exact .same z .nilSl M
  ·rename_i p k hv;rw[hv]at j;generalize x.r.ev (ρA L)=a at j ⊢;split at h
   ·rename_i l len esz gj st Y;obtain⟨gB,rfl,h⟩:=h;obtain⟨gg,U,E,C,O⟩:=Uh B g.1.2 h;obtain⟨R,S,H,Q,F,T,M⟩:=Uh B g.2 O;rw[E,H];cases j with
    | @dy _ _ k' hh _ e hk Z _ =>
     obtain⟨r0,r1,V⟩:=z.obj p _ _ _ Y e;have gD:=Z J;rcases V with ⟨V,r3⟩|⟨o,v,room,t,gL,l',V,r3,r4,r5,r6,r7,r8⟩
     ·subst r3;have e1:U=0:=J
      have e2:S=0:=J
      subst e1 e2;rw[gD,V];dsimp only;rw[C,show R.getD 0=0 from Q];exact .same z (.vw e hk (λ_=>.inl ⟨rfl,.inl rfl⟩) rfl (λ_ _=>trivial)) M
     ·obtain⟨a2,p1,p2,p3⟩:=z90 (lo:=gg) (hi:=R) (o:=o) (v:=v) (i:=0) (esz:=esz) (len:=len) (room:=room) Cu C6 (λr e'=>(r7 r e').2);rw[gD,V];dsimp only;rw[p1];rw[C,Q,Jc]at p3;refine .same z (.vw e hk (λ_=>?_) p2 (λ_=>zme p1 (λh0=>by rw[C];exact h0) V)) M;rcases p3 with ⟨p3,p4,p5⟩|⟨I,p4⟩
      ·exact .inl ⟨p3,.inr ⟨p4,p5⟩⟩
      ·exact .inr ⟨o,v,len,esz,room,I,V,p4⟩
   ·exact h.elim
  ·rename_i p k l0 len hv;rw[hv]at j;generalize x.r.ev (ρA L)=a at j ⊢;split at h
   ·rename_i l gF esz gj st Y;obtain⟨gB,rfl,h⟩:=h;obtain⟨gg,U,E,C,O⟩:=Uh B g.1.2 h;obtain⟨R,S,H,Q,F,T,M⟩:=Uh B g.2 O;rw[E,H];cases j with
    | @vw _ _ _ _ k' hh _ e hk Z _ hz =>
     have jF:=(z.obj p _ _ _ Y e).1;rcases Z J with ⟨r3,r4⟩|⟨o,v,gC,D,room,I,r3,r4,r9⟩
     ·subst r3;have e1:U=0:=J
      have e2:S=0:=J
      subst e1 e2;rcases r4 with rfl|⟨rfl,r5⟩
      ·dsimp only;rw[C,show R.getD 0=0 from Q];exact .same z (.vw e hk (λ_=>.inl ⟨rfl,.inl rfl⟩) rfl (λ_ _=>trivial)) M
      ·dsimp only;rw[C,show R.getD 0=0 from Q];exact .same z (.vw e hk (λ_=>.inl ⟨rfl,.inr ⟨rfl,r5⟩⟩) rfl (λ_ _=>trivial)) M
     ·subst r3;obtain⟨_,w1,w2,w3,_⟩:=Xq z Y e;subst w2 w3;obtain⟨a2,p1,p2,p3⟩:=z90 (lo:=gg) (hi:=R) (o:=o) (v:=v) (i:=l0*D) (esz:=D) (len:=len) (room:=I) Cu C6 r9;rw[r4];dsimp only;rw[p1];rw[C,Q]at p3;refine .same z (.vw e hk (λ_=>?_) p2 (λq=>zkh p1 (λh0=>⟨by rw[C];omega,J⟩) (r4 ▸ hz q))) M;rcases p3 with ⟨p3,p4,p6⟩|⟨gY,p4,p5⟩
      ·exact .inl ⟨p3,.inr ⟨p4,J⟩⟩
      ·exact .inr ⟨o,v,_,D,room,gY,rfl,by rw[p4,I5],p5⟩
   ·exact h.elim
  ·rename_i l len esz hv;rw[hv]at j;generalize x.r.ev (ρA L)=a at j ⊢;obtain⟨rfl,h⟩:=h;obtain⟨gg,U,E,C,O⟩:=Uh B g.1.2 h;obtain⟨R,S,H,Q,F,T,M⟩:=Uh B g.2 O;rw[E,H];have gT:len=0→l=[]→K (.lst [] 0 esz) G:=λe1 e2=>by
    have e3:U=0:=J
    have e4:S=0:=J
    subst e2 e3 e4;simpa using M
   cases j with
   |lst hf gI gG hr X =>
    obtain⟨a2,p1,p2,p3⟩:=z90 (lo:=gg) (hi:=R) Cu C6 gI;dsimp only;rw[p1];rw[C,Q]at p3;refine .same z (.lst' hf hr X ?_ (p3.imp (λh=>⟨h.1,h.2.1⟩) id)) M;rw[←I5];exact Ip _ J
   |lstNil =>
    have e3:U=0:=J
    have e4:S=0:=J
    dsimp only;rw[C,show R.getD 0=S from Q,e3,e4];exact .same z .lstNil (gT rfl rfl)
   |lstEmp =>
    have e3:U=0:=J
    have e4:S=0:=J
    dsimp only;rw[C,show R.getD 0=S from Q,e3,e4];exact .same z .lstEmp (gT rfl rfl)
  ·exact h.elim
 |slSl3 A x lo hi mx =>
  simp only[LOp.ok,H9]at g;have j:=Ol B g.1.1.1;have jz:fa (some mx)=true:=g.2;simp only[Nq]at h;simp only[LOp.r,On];split at h
  ·rename_i p k hv;rw[hv]at j;generalize x.r.ev (ρA L)=a at j ⊢;split at h
   ·rename_i l len esz gj st Y;obtain⟨gB,rfl,h⟩:=h;obtain⟨gg,U,E,C,O⟩:=Uh B g.1.1.2 h;obtain⟨R,S,H,Q,q6⟩:=Uh B g.1.2 O;obtain⟨gM,gO,q7,q8,h0,F,T,M,h4⟩:=Uh B jz q6;simp only[Jw]at q7;rw[E,H,q7];cases j with
    | @dy _ _ k' hh _ e hk Z _ =>
     obtain⟨r0,r1,V⟩:=z.obj p _ _ _ Y e;have gD:=Z J;have gK:gM=some gO:=by
      cases gM with
      |none=>unfold Pg at q7;dsimp only at q7;split at q7<;>cases q7
      |some m=>simp at q8;rw[q8]
     rcases V with ⟨V,r3⟩|⟨o,v,room,t,gL,l',V,r3,r4,r5,r6,r7,r8⟩
     ·omega
     ·obtain⟨a2,p1,p2,p3⟩:=zfo (lo:=gg) (hi:=R) (o:=o) (v:=v) (i:=0) (esz:=esz) (len:=len) (room:=room) (m:=gO) Cu C6 M (λr e'=>(r7 r e').2);rw[gD,V,gK];dsimp only;rw[p1];rw[C,Q,Jc]at p3;unfold i1 at h4;split at h4
      ·rename_i jA;obtain⟨f1,f2,f3⟩:=Lj jA;have hc:=zod p1 (by rw[C];exact f1) (by rw[Q];exact f2) J;exact .same z (.vf e hk (λ_=>⟨o,v,len,esz,room,V,by rw[hc,f2]⟩) p2) h4
      refine .same z (.vw e hk (λ_=>?_) p2 (λ_=>zlc p1 (λh0=>by rw[C];exact h0) M V)) h4;rcases p3 with ⟨p3,p4,p5⟩|⟨I,p4⟩
      ·exact .inl ⟨p3,.inr ⟨p4,p5⟩⟩
      ·exact .inr ⟨o,v,len,esz,room,I,V,p4⟩
   ·exact h.elim
  ·rename_i l len esz hv;rw[hv]at j;generalize x.r.ev (ρA L)=a at j ⊢;obtain⟨rfl,h⟩:=h;obtain⟨gg,U,E,C,O⟩:=Uh B g.1.1.2 h;obtain⟨R,S,H,Q,q6⟩:=Uh B g.1.2 O;obtain⟨gM,gO,q7,q8,h0,F,T,M,h4⟩:=Uh B jz q6;simp only[Jw]at q7;rw[E,H,q7];have gK:gM=some gO:=by
    cases gM with
    |none=>unfold Pg at q7;dsimp only at q7;split at q7<;>cases q7
    |some m=>simp at q8;rw[q8]
   cases j with
   |lst hf gI gG hr X =>
    obtain⟨a2,p1,p2,p3⟩:=zfo (lo:=gg) (hi:=R) (m:=gO) Cu C6 M gI;rw[gK];dsimp only;rw[p1];rw[C,Q]at p3;refine .same z (.lst' hf hr X ?_ (p3.imp (λh=>⟨h.1,h.2.1⟩) id)) h4;rw[←I5];exact Ip _ J
   |lstNil=>omega
   |lstEmp=>omega
  ·exact h.elim
 |fieldAddr gS x =>
  have j:=Ol B g;simp only[Nq]at h;simp only[LOp.r,On];generalize x.ev ρ=v at h j;generalize x.r.ev (ρA L)=a at j ⊢;split at h
  ·cases j with
   |ptr e=>exact .same z (.ptr e) h
  ·cases j with
   |dptr e hk Z=>exact .same z (.dptr e hk (λq=>⟨by rw[(Z q).1];rfl,(Z q).2⟩)) h
  ·cases j with
   |cptr hf hr X =>
    dsimp only;rw[show ∀a b c:Nat,Nat.add (a+b) c=a+(b+c) from λa b c=>Je a b c];exact .same z (.cptr hf hr X) h
  ·exact h.elim
 |field jD n gS x =>
  have j:=Ol B g;simp only[Nq]at h;simp only[LOp.r,On];generalize x.ev ρ=v at h j;generalize x.r.ev (ρA L)=a at j ⊢;split at h
  ·rename_i l;cases j with
   |agg X =>
    dsimp only;cases jD with
    |true =>
     obtain⟨F,T⟩:=h;have gZ:=X.length;rename_i l';have b1:Nat.ble (Nat.add gS n) l'.length=true:=Ih (show gS+n≤l'.length by rw[←gZ];exact F);refine .ret z ?_;simp only[X3,Wv,b1];exact .mk (.agg ((X.drop gS).take n)) T
    |false =>
     obtain⟨v,hv,h⟩:=h;obtain⟨a,E,C⟩:=X.get hv;refine .ret z ?_;simp only[X3];rw[E];exact .mk C h
  ·exact h.elim
 |ixAddr A x i =>
  simp only[LOp.ok,H9]at g;have j:=Ol B g.1;have hi:=Ol B g.2;simp only[Nq]at h;simp only[LOp.r,On];generalize i.ev ρ=iv at h hi;generalize i.r.ev (ρA L)=ia at hi ⊢;generalize x.ev ρ=v at h j;generalize x.r.ev (ρA L)=a at j ⊢
  have gU : ∀ {kk : IntKind} {n : Int} (v : LV) (a : AV), AR c v a → ixO G A v n (fun v => K v G) → Rn P c G K (match a, AV.int kk n with
     |.sl o v i len esz _,.int _ (.ofNat n)=>match Nat.blt n len with
      |true=>match Nat.beq esz A with
       |true=>.val (.ptr o v (Nat.add i (Nat.mul n esz))) c.H
       |false=>.no
      |false=>.no
     |_,_=>.no):=by
   clear h j;intro kk n v a j h;unfold ixO at h;have gE:∀{o v jI len esz:Nat} {room:Option Nat} {m:Nat} {y:LV},m<len→esz=A→AR c y (.ptr o v (jI+m*esz))→K y G→Rn P c G K (match AV.sl o v jI len esz room,AV.int kk (Int.ofNat m) with
     |.sl o v i len esz _,.int _ (.ofNat n)=>match Nat.blt n len with
      |true=>match Nat.beq esz A with
       |true=>.val (.ptr o v (Nat.add i (Nat.mul n esz))) c.H
       |false=>.no
      |false=>.no
     |_,_=>.no):=by
    intro o v jI len esz room m y F T M h4;subst T;have b1:Nat.blt m len=true:=by unfold Nat.blt;exact Ih F
    dsimp only;rw[b1,I3];exact .same z M h4
   split at h
   ·rename_i p k;split at h
    ·rename_i l len esz gj st Y;obtain⟨gB,rfl,F,T,M⟩:=h;obtain⟨m,rfl⟩:=Ir F;cases j with
     | @dy _ _ k' hh _ e hk Z _ =>
      obtain⟨r0,r1,V⟩:=z.obj p _ _ _ Y e;have gD:=Z J;rcases V with ⟨V,r3⟩|⟨o,v,room,t,gL,l',V,_⟩
      ·omega
      ·rw[gD,V];refine gE (room:=room) (y:=.dptr p k (m*esz)) J rfl (.dptr e hk (λ_=>⟨by rw[Jc],len,esz,room,V⟩)) M
    ·exact h.elim
   ·rename_i p k lo len;split at h
    ·rename_i l gF esz gj st Y;obtain⟨gB,rfl,F,T,M⟩:=h;obtain⟨m,rfl⟩:=Ir F;cases j with
     | @vw _ _ _ _ k' hh _ e hk Z _ _ =>
      have jF:=(z.obj p _ _ _ Y e).1;rcases Z J with ⟨r3,r4⟩|⟨o,v,gC,D,room,I,r3,r4,r9⟩
      ·omega
      ·have e2:=e;rw[r3]at e2;obtain⟨_,w1,w2,w3,_⟩:=Xq z Y e2;subst w2 w3;rw[r4];refine gE (room:=I) (y:=.dptr p k ((lo+m)*D)) J rfl (.dptr e hk (λ_=>⟨by rw[I5],gC,D,room,r3⟩)) M
    ·exact h.elim
   ·rename_i l len esz;obtain⟨rfl,F,T,M⟩:=h;obtain⟨m,rfl⟩:=Ir F;cases j with
    | @lst _ _ _ _ _ _ rm _ hf gI gG hr X =>
     refine gE (room:=rm) (y:=.cptr l (m*esz)) J rfl ?_ M;rw[←gG]at hr;exact .cptr hf hr X
    |lstNil=>omega
    |lstEmp=>omega
   ·exact h.elim
  split at h
  ·cases hi;exact gU v a j h
  ·cases hi;exact gU v a j h
  ·exact h.elim
 |ixStr x i =>
  simp only[LOp.ok,H9]at g;have j:=Ol B g.1;have hi:=Ol B g.2;simp only[Nq]at h;simp only[LOp.r,On];generalize i.ev ρ=iv at h hi;generalize i.r.ev (ρA L)=ia at hi ⊢;generalize x.ev ρ=v at h j;generalize x.r.ev (ρA L)=a at j ⊢;have gE:∀{l:List UInt8} {k:IntKind} {m:Nat},m<l.length→K (.b (l.getD m 0)) G→Rn P c G K (match AV.str l.length (Oy l),AV.int k (Int.ofNat m) with
    |.str len n,.int _ (.ofNat i)=>match Nat.blt i len with
     |true=>.val (.int .u8 (Int.ofNat (Nat.mod (Nat.div n (Nat.pow 256 i)) 256))) c.H
     |false=>.no
    |_,_=>.no):=by
   intro l k m F T;have b1:Nat.blt m l.length=true:=by unfold Nat.blt;exact Ih F
   dsimp only;rw[b1];refine .same z (.b' ?_) T;have:=zha (Ib F);show Int.ofNat (Oy l/256^m%256)=_;rw[this,Ie,Ib F];rfl
  split at h
  ·rename_i l n;obtain⟨F,T,M⟩:=h;obtain⟨m,rfl⟩:=Ir F;cases j;cases hi;exact gE (k:=.i64) J M
  ·rename_i l n;obtain⟨T,M⟩:=h;cases j;cases hi;exact gE (k:=.u64) T M
  ·rename_i l n;obtain⟨T,M⟩:=h;cases j;cases hi;exact gE (k:=.u8) T M
  ·exact h.elim
 |extract i x =>
  have j:=Ol B g;simp only[Nq]at h;simp only[LOp.r,On];generalize x.ev ρ=v at h j;generalize x.r.ev (ρA L)=a at j ⊢;split at h
  ·rename_i l;cases j with
   |tup X =>
    dsimp only;obtain⟨v,hv,h⟩:=h;obtain⟨a,E,C⟩:=X.get hv;refine .ret z ?_;rw[E];exact .mk C h
  ·exact h.elim
 |lenStr x =>
  have j:=Ol B g;simp only[Nq]at h;simp only[LOp.r,On];generalize x.ev ρ=v at h j;generalize x.r.ev (ρA L)=a at j ⊢;split at h
  ·cases j;exact .same z (.i _) h
  ·exact h.elim
 |lenSl x =>
  obtain⟨n,E,C⟩:=jm z (Ol B g) (show lenL G (x.ev ρ) (λn=>K (.i n) G) from h);simp only[LOp.r,On];rcases C with ⟨C,rfl⟩|⟨C,rfl⟩|⟨o,v,i,esz,room,C⟩
  ·rw[C];exact .same z (.i 0) E
  ·rw[C];exact .same z (.i 0) E
  ·rw[C];exact .same z (.i n) E
 |maxi mx x y =>
  simp only[LOp.ok,H9]at g;have j:=Ol B g.1;have hy:=Ol B g.2;simp only[Nq]at h;simp only[LOp.r,On,Kn,Mw];generalize y.ev ρ=yv at h hy;generalize y.r.ev (ρA L)=ya at hy ⊢;generalize x.ev ρ=v at h j;generalize x.r.ev (ρA L)=a at j ⊢;split at h
  ·cases j;cases hy;dsimp only;rw[zmo];exact .same z (.i _) h
  ·cases j;cases hy;dsimp only;rw[sd];exact .same z (.u _) h
  ·exact h.elim
 |max3 mx x y jE =>
  simp only[LOp.ok,H9]at g;have j:=Ol B g.1.1;have hy:=Ol B g.1.2;have hz:=Ol B g.2;simp only[Nq]at h;simp only[LOp.r,On,Kn,Mw];generalize jE.ev ρ=zv at h hz;generalize jE.r.ev (ρA L)=za at hz ⊢;generalize y.ev ρ=yv at h hy;generalize y.r.ev (ρA L)=ya at hy ⊢;generalize x.ev ρ=v at h j;generalize x.r.ev (ρA L)=a at j ⊢;cases v<;>first|exact h.elim|skip
  cases yv<;>first|exact h.elim|skip
  cases zv<;>first|exact h.elim|skip
  cases j;cases hy;cases hz;dsimp only;rw[gy];exact .same z (.i _) h
 |ixAddrArr len A x i =>
  simp only[LOp.ok,H9]at g;have j:=Ol B g.1;have hi:=Ol B g.2;simp only[Nq]at h;simp only[LOp.r,On];generalize i.ev ρ=iv at h hi;generalize i.r.ev (ρA L)=ia at hi ⊢;generalize x.ev ρ=v at h j;generalize x.r.ev (ρA L)=a at j ⊢;cases iv<;>first|exact h.elim|skip
  cases hi;obtain⟨F,T,h⟩:=h;rename_i n;obtain⟨m,rfl⟩:=Ir F;have b1:Nat.blt m len=true:=by unfold Nat.blt;exact Ih J
  cases v<;>first|exact h.elim|skip
  ·cases j with
   |ptr e =>
    show Rn P c G K (match Nat.blt m len with|true=>_|false=>_);rw[b1];refine .same z ?_ h;have e0:=AR.ptr (i:=0) e;rename_i p jI o;show AR c (.ptr p (jI+m*A)) (.ptr o 0 (jI+m*A));exact .ptr e
  ·cases j with
   |dptr e hk Z =>
    show Rn P c G K (match Nat.blt m len with|true=>_|false=>_);rw[b1];exact .same z (.dptr e hk (λq=>⟨by rw[(Z q).1];rfl,(Z q).2⟩)) h
  ·cases j with
   |cptr hf hr X =>
    show Rn P c G K (match Nat.blt m len with|true=>_|false=>_);rw[b1];refine .same z ?_ h;rename_i o vv jj ll;rw[show Nat.add (jj+_) (Nat.mul m A)=jj+(_+m*A) from Je _ _ _];exact .cptr hf hr X
 |ixArr jD len A x i =>
  simp only[LOp.ok,H9]at g;have j:=Ol B g.1;have hi:=Ol B g.2;simp only[Nq]at h;simp only[LOp.r,On];generalize i.ev ρ=iv at h hi;generalize i.r.ev (ρA L)=ia at hi ⊢;generalize x.ev ρ=v at h j;generalize x.r.ev (ρA L)=a at j ⊢;cases iv<;>first|exact h.elim|skip
  cases hi;obtain⟨F,T,h⟩:=h;rename_i n;obtain⟨m,rfl⟩:=Ir F;have b1:Nat.blt m len=true:=by unfold Nat.blt;exact Ih J
  cases v<;>first|exact h.elim|skip
  cases j with
  |agg X =>
   show Rn P c G K (match Nat.blt m len with|true=>_|false=>_);rw[b1];simp only[I6]at h;cases jD with
   |true =>
    obtain⟨F,T⟩:=h;have gZ:=X.length;rename_i l';have b2:Nat.ble (Nat.add (Nat.mul m A) A) l'.length=true:=Ih (show m*A+A≤l'.length by rw[←gZ];exact F);refine .ret z ?_;simp only[X3,Wv,b2];exact .mk (.agg ((X.drop _).take _)) T
   |false =>
    obtain⟨v,hv,h⟩:=h;obtain⟨a,E,C⟩:=X.get hv;refine .ret z ?_;simp only[X3];show Re c _ (_);rw[show Nat.mul m A=m*A from rfl,E];exact .mk C h
 |lenArr n x =>
  simp only[Nq]at h;simp only[LOp.r,On];exact .same z (.i _) h
 |appZ A jE s x =>
  simp only[LOp.ok,H9]at g;have hz:=pw c g.1.1;have g8:=Ol B g.1.2;have j:=Ol B g.2;simp only[Nq]at h;simp only[LOp.r,On];generalize x.ev ρ=v at h j;generalize x.r.ev (ρA L)=a at j ⊢;split at h
  ·rename_i n;obtain⟨F,T,M,h4⟩:=h;obtain⟨m,rfl⟩:=Ir F;cases j;have b1:Nat.ble m 1048576=true:=Ih J;show Rn P c G K (match Nat.ble m 1048576 with
    |true=>Vc c.H A (s.r.ev (ρA L)) m (Sw (toAs jE) m)
    |false=>.no)
   rw[b1];exact zwx z g8 (hz.rep m) (by rw[z6y,M]) h4
  ·exact h.elim
 |appG A s x =>
  simp only[LOp.ok,H9]at g;have g8:=Ol B g.1;have j:=Ol B g.2;simp only[Nq]at h;simp only[LOp.r,On];obtain⟨n,l,l',E,C,O,H,Q⟩:=zwi z j h;rw[E];have b1:Nat.ble n 1048576=true:=Ih H;dsimp only;rw[b1];exact zwx z g8 C O Q
 |copy A d x =>
  simp only[LOp.ok,H9]at g;have hd:=Ol B g.1;have j:=Ol B g.2;simp only[Nq]at h;simp only[LOp.r,On];obtain⟨n,l,l',E,C,O,H⟩:=zwi z j h;rw[E];dsimp only;have gV:∀a b:Nat,Pr a b=min a b:=λa b=>by
   unfold Pr;cases hb:Nat.ble a b with
   |true=>have:=In hb;simp only;omega
   |false =>
    have:¬a≤b:=λq=>by rw[Ih q]at hb;cases hb
    simp only;omega
  generalize d.ev ρ=v at H hd;generalize d.r.ev (ρA L)=a at hd ⊢;split at H
  ·rename_i p k;split at H
   ·rename_i r len esz gj st Y;obtain⟨gB,rfl,h⟩:=H;cases hd with
    | @dy _ _ k' hh _ e hk Z _ =>
     obtain⟨r0,r1,V⟩:=z.obj p _ _ _ Y e;have gD:=Z J;rcases V with ⟨V,r3⟩|⟨o,v,room,t,gL,r',V,r3⟩
     ·subst r3;have:r=[]:=Is Cw;subst this;rw[gD,V];dsimp only;have hm:min n 0=0:=J
      rw[hm]at h;simp only[Kz,M1]at h;obtain⟨p1,p2,_⟩:=z.upd (k':=k') (x':=hh) (ob':=.dyn (Nu [] 0 []) 0 esz gj (st+1)) (H':=c.H) Y rfl e (If _) (λ_ _ _=>rfl) (λo e'=>⟨.inl e',z.lt o ⟨p,_,_,_,Y,rfl,e,e'⟩⟩) (If _) (λ_=>rfl) (λ_=>rfl) (.inl (I9 _))
       (λ_=>⟨r0,by simp[Nu],.inl ⟨V,rfl⟩⟩)
      exact⟨⟨c.hd.set p (k',hh),c.Fz,c.H⟩,.i (0:Nat),_,rfl,p1,p2,.i _,h⟩
     ·have hw:Uk G (.dptr p k 0) (l.take (min n len*esz)) (λG'=>K (.i (min n len:Nat)) G'):=by
       unfold Uk;dsimp only;rw[Y];refine⟨gB,?_,h⟩;rw[r1,Iu,Jc];exact I1 (Nat.min_le_left _ _) (Ip _ (Nat.min_le_right _ _))
      obtain⟨o2,v2,i2,H',c',G',w1,w2,w3,w4,w5,w6⟩:=zao z (a:=.ptr o v 0) (.dptr e hk (λ_=>⟨rfl,len,esz,room,V⟩)) (C.take (min n len*esz)) hw;cases w1;rw[gD,V];dsimp only;rw[I3,gV];dsimp only;rw[show Nat.mul (min n len) esz=min n len*esz from rfl,w2];exact⟨c',_,G',w3,w4,w5,.i _,w6⟩
   ·exact H.elim
  ·rename_i p k lo len;split at H
   ·rename_i r gF esz gj st Y;obtain⟨gB,rfl,g9,h⟩:=H;cases hd with
    | @vw _ _ _ _ k' hh _ e hk Z _ _ =>
     obtain⟨r0,r1,V⟩:=z.obj p _ _ _ Y e;have gP:len=0→(a=.nilSl∨a=.emp∧lo≠0)→Rn P c G K (.val (.int .i64 0) c.H):=by
      intro jg _;subst jg;have hm:min n 0=0:=J
      rw[hm]at h;simp only[Kz,M1]at h;have gQ:Nu r (lo*esz) []=r:=by unfold Nu;simp
      rw[gQ]at h;obtain⟨p1,p2,_⟩:=z.upd (k':=k') (x':=hh) (ob':=.dyn r gF esz gj (st+1)) (H':=c.H) Y rfl e (If _) (λ_ _ _=>rfl) (λo e'=>⟨.inl e',z.lt o ⟨p,_,_,_,Y,rfl,e,e'⟩⟩) (If _) (λ_=>rfl) (λ_=>rfl) (.inl (I9 _))
       (λgR=>(z.obj p _ _ _ Y e).mono gR (λ_ _=>rfl))
      exact⟨⟨c.hd.set p (k',hh),c.Fz,c.H⟩,.i (0:Nat),_,rfl,p1,p2,.i _,h⟩
     rcases Z J with ⟨r3,r4⟩|⟨o,v,gC,D,room,I,r3,r4,r9⟩
     ·have:=gP r3 r4;rcases r4 with rfl|⟨rfl,_⟩
      ·exact this
      ·exact this
     ·have e2:=e;rw[r3]at e2;obtain⟨_,w1,w2,w3,_⟩:=Xq z Y e2;subst w2 w3;have hw:Uk G (.dptr p k (lo*D)) (l.take (min n len*D)) (λG'=>K (.i (min n len:Nat)) G'):=by
       unfold Uk;dsimp only;rw[Y];refine⟨gB,?_,h⟩;rw[Iu];have F:min (min n len*D) l.length≤len*D:=I1 (Nat.min_le_left _ _) (Ip _ (Nat.min_le_right _ _));rw[I5]at g9;omega
      obtain⟨o2,v2,i2,H',c',G',u1,u2,u3,u4,u5,u6⟩:=zao z (a:=.ptr o v (lo*D)) (.dptr e hk (λ_=>⟨rfl,gC,D,room,r3⟩)) (C.take (min n len*D)) hw;cases u1;rw[r4];dsimp only;rw[I3,gV];dsimp only;rw[show Nat.mul (min n len) D=min n len*D from rfl,u2];exact⟨c',_,G',u3,u4,u5,.i _,u6⟩
   ·exact H.elim
  ·exact H.elim
 |clear A jE x =>
  simp only[LOp.ok,H9]at g;have hz:=pw c g.1;have j:=Ol B g.2;simp only[Nq]at h;simp only[LOp.r,On];generalize x.ev ρ=v at h j;generalize x.r.ev (ρA L)=a at j ⊢;split at h
  ·rename_i p k lo len;split at h
   ·rename_i r gF esz gj st Y;obtain⟨gB,rfl,jG,g9,h⟩:=h;cases j with
    | @vw _ _ _ _ k' hh _ e hk Z _ _ =>
     obtain⟨r0,r1,V⟩:=z.obj p _ _ _ Y e;have gP:len=0→Rn P c G K (.val Ri c.H):=by
      intro jg;subst jg;have gQ:Nu r (lo*esz) (Ni jE 0)=r:=by unfold Nu;simp[Ni]
      rw[gQ]at h;obtain⟨p1,p2,_⟩:=z.upd (k':=k') (x':=hh) (ob':=.dyn r gF esz gj (st+1)) (H':=c.H) Y rfl e (If _) (λ_ _ _=>rfl) (λo e'=>⟨.inl e',z.lt o ⟨p,_,_,_,Y,rfl,e,e'⟩⟩) (If _) (λ_=>rfl) (λ_=>rfl) (.inl (I9 _))
       (λgR=>(z.obj p _ _ _ Y e).mono gR (λ_ _=>rfl))
      exact⟨⟨c.hd.set p (k',hh),c.Fz,c.H⟩,.any,_,rfl,p1,p2,.any _,h⟩
     rcases Z J with ⟨r3,r4⟩|⟨o,v,gC,D,room,I,r3,r4,r9⟩
     ·have:=gP r3;rcases r4 with rfl|⟨rfl,_⟩
      ·exact this
      ·exact this
     ·have e2:=e;rw[r3]at e2;obtain⟨_,w1,w2,w3,_⟩:=Xq z Y e2;subst w2 w3;have hw:Uk G (.dptr p k (lo*D)) (Ni jE len) (λG'=>K .any G'):=by
       unfold Uk;dsimp only;rw[Y];refine⟨gB,?_,h⟩;rw[z6y,jG,←I5];exact g9
      obtain⟨o2,v2,i2,H',c',G',u1,u2,u3,u4,u5,u6⟩:=zao z (a:=.ptr o v (lo*D)) (.dptr e hk (λ_=>⟨rfl,gC,D,room,r3⟩)) (hz.rep len) hw;cases u1;rw[r4];dsimp only;rw[I3];dsimp only;rw[u2];exact⟨c',.any,G',u3,u4,u5,.any _,u6⟩
   ·exact h.elim
  ·exact h.elim
 |mkMap0=>exact zh9 z h
 |mkMap1 x =>
  have j:=Ol B g;simp only[Nq]at h;simp only[LOp.r,On];generalize x.ev ρ=v at h j;generalize x.r.ev (ρA L)=a at j ⊢;split at h
  ·cases j;exact zh9 z h
  ·exact h.elim
 |lookup d jE ok x i =>
  simp only[LOp.ok,H9]at g;have hz:=aa c g.1.1;have j:=Ol B g.1.2;have hi:=Ol B g.2;simp only[Nq]at h;simp only[LOp.r,On];obtain⟨es,jH,E,C,O,_⟩:=zuf z j h;rw[E];dsimp only;rcases zrh hi C O with ⟨f1,f2⟩|⟨v,b,f1,f2,f3⟩
  ·rw[f1];dsimp only;cases ok with
   |true=>exact .same z (.tup (.cons hz (.cons (.bool _) .nil))) f2
   |false=>exact .same z hz f2
  ·rw[f1];dsimp only;cases ok with
   |true=>exact .same z (.tup (.cons f2 (.cons (.bool _) .nil))) f3
   |false=>exact .same z f2 f3
 |mapUpd d m k v =>
  simp only[LOp.ok,H9]at g;simp only[Nq]at h;simp only[LOp.r,On];exact zvu z (Ol B g.1.1) (Ol B g.1.2) (Ol B g.2) h
 |lenMap x =>
  have j:=Ol B g;simp only[Nq]at h;simp only[LOp.r,On];obtain⟨es,jH,E,C,O,H⟩:=zuf z j h;have gG:∀{l:List (LV×LV×Nat)} {r:List (AV×AV×Nat)},MRs c l r→l.length=r.length:=by
   intro l r hr
   induction hr with
   |nil=>rfl
   |cons _ _ _ ih=>simp[ih]
  rcases H with ⟨e1,rfl⟩|⟨o,ck,e1,e2⟩
  ·rw[e1];cases C;exact .same z (.i 0) O
  ·rw[e1];dsimp only;rw[e2];dsimp only;rw[←gG C];exact .same z (.i _) O
 |slArr n A x lo hi =>
  simp only[LOp.ok,H9]at g;have j:=Ol B g.1.1;simp only[Nq]at h;simp only[LOp.r,On];generalize x.ev ρ=v at h j;generalize x.r.ev (ρA L)=a at j ⊢;split at h
  ·rename_i p i;split at h
   ·rename_i l st Y;obtain⟨h0,h⟩:=h;obtain⟨gg,U,E,C,O⟩:=Uh B g.1.2 h;obtain⟨R,S,H,Q,q6⟩:=Uh B g.2 O;rw[E,H];obtain⟨F,T,M⟩:=q6;cases j with
    | @ptr _ _ o e =>
     obtain⟨t,l',V,r3,r4⟩:=zl1 z Y e;obtain⟨a2,p1,p2,p3⟩:=z90 (lo:=gg) (hi:=R) (o:=o) (v:=0) (i:=i) (len:=n) (esz:=A) (room:=some n) Cu C6 (λr e=>by cases e;exact If _);have b1:Nat.ble (Nat.add i (Nat.mul n A)) l.length=true:=Ih h0;simp only[Pg,V,b1];rw[p1];rw[C,Q]at p3;obtain⟨u1,u2⟩:=z.freeze (st:=st+1) Y rfl (I9 _) e (rfl:Nv (.ptr o 0 0)=some o);have jB:i+U*A+(S-U)*A≤l.length:=by
      rw[Je,←I5];have:(U+(S-U))*A≤n*A:=Ip _ J;omega
     refine⟨⟨c.hd,λq=>c.Fz q∨q=o,c.H⟩,_,_,rfl,u1,u2,?_,M⟩;rcases p3 with ⟨e1,rfl,_⟩|⟨room,rfl,gI⟩
     ·rw[e1];simp only[Kz,M1];exact .lstEmp
     ·refine .lst (.inr rfl) gI Ab (Tz V r3 (If _) jB) (ARs.mono u2.le ((r4.drop _).take _))
   ·exact h.elim
  ·exact h.elim
 |callV f gH =>
  simp only[LOp.ok,H9]at g;have hf:=Ol B g.1;have Z:=zsj B g.2;simp only[Nq]at h;simp only[LOp.r,On];generalize f.ev ρ=v at h hf;generalize f.r.ev (ρA L)=a at hf ⊢;split at h
  ·rename_i jD l r;have jC:=h.1;cases hf with
   |fn X hr =>
    rename_i l' r';have gE:zgr P c.H (.fn (.func jD) l' r') ((ib gH).map (·.ev (ρA L)))=.call (.fn jD) (l'++(ib gH).map (·.ev (ρA L))++r'):=by
     have k2:Xu P (.fn (.func jD) l' r') ((ib gH).map (·.ev (ρA L)))=.call (.fn jD) (l'++(ib gH).map (·.ev (ρA L))++r'):=by
      unfold Xu;dsimp only;rw[Ij jC.1]
     unfold zgr;split
     ·rename_i g' e;cases e;rw[jC.2];exact k2
     ·exact k2
    rw[gE];exact⟨.fn jD,_,rfl,(X.append Z).append hr,h⟩
  ·rename_i p r;cases hf with
   |yield e=>exact⟨.yield p,_,e,Z,h⟩
  ·exact h.elim
end res
end
section
noncomputable section
structure RI where
 d:Option Nat
 g:Option (Nat×Bool)
 o:ROp
def mp(n:Nat):Option Nat→Bool
 |none=>true
 |some d=>Nat.blt d n
def gf(P:Program)(n:Nat)(ops:Array Oper)(o:Oper):Option RI :=
 match mp n o.dst with
 |false=>none
 |true=>match R9 P o.op with
  |none=>none
  |some r=>match o.guard with
   |none=>some ⟨o.dst,none,r⟩
   |some (g,w)=>match (ops[g]?).bind (·.dst) with
    |none=>none
    |some t=>match Nat.ble t Nm with
     |true=>some ⟨o.dst,some (t,w),r⟩
     |false=>none
def xa(P:Program)(n:Nat)(ops:Array Oper):List Oper→Option (List RI)
 |[]=>some []
 |o::l=>match gf P n ops o with
  |none=>none
  |some r=>match xa P n ops l with
   |none=>none
   |some g=>some (r::g)
structure LI where
 d:Option Nat
 g:Option (Nat×Bool)
 o:LOp
def LI.r(x:LI):RI:=⟨x.d,x.g,x.o.r⟩
def lis:List LI→List RI
 |[]=>[]
 |x::l=>x.r::lis l
def Xr(g:Option (Nat×Bool))(j:Tr AV):Bool:=match g with
 |none=>true
 |some (t,w)=>match M8 (Nh t) j with
  |some (.bool b)=>match b with
   |true=>w
   |false=>!w
  |_=>false
def ef(P:Program)(x:RI)(k:Qn)(z:Tr AV)(A:Heap):OE:=match Xr x.g z with
 |false=>.ok (O0 x.d Ri z) A
 |true=>match On P (ρA z) A x.o with
  |.no=>.no
  |.val v j=>.ok (O0 x.d v z) j
  |.call t g=>match k t g A with
   |.no=>.no
   |.ok v j=>.ok (O0 x.d v z) j
def zf4{P:Program}{n:Nat}{ops:Array Oper}{o:Oper}{x:RI}(h:gf P n ops o=some x)(k:Qn)(z:Tr AV)(I:Heap):(Qq P n ops o).run k z I=ef P x k z I:=by
 unfold gf at h;cases hd:mp n o.dst with
 |false=>rw[hd]at h;cases h
 |true =>
  rw[hd]at h;dsimp only at h;cases B:R9 P o.op with
  |none=>rw[B]at h;cases h
  |some r =>
   rw[B]at h;dsimp only at h;have K:∃p,Qs n o.dst=some p∧∀a z,p.run a z=O0 o.dst a z:=by
    cases C:o.dst with
    |none=>exact⟨_,rfl,λ_ _=>rfl⟩
    |some d =>
     rw[C]at hd;have D:d<n:=In hd;unfold Qs;dsimp only;rw[Ij D];exact⟨_,rfl,λ_ _=>rfl⟩
   obtain⟨p,E,g⟩:=K;have L:x.d=o.dst∧x.o=r∧(R4 ops o).run z=Xr x.g z:=by
    cases A:o.guard with
    |none =>
     rw[A]at h;cases h;refine⟨rfl,rfl,?_⟩;unfold R4;rw[A];rfl
    |some M =>
     obtain⟨T,w⟩:=M;rw[A]at h;dsimp only at h;cases F:(ops[T]?).bind (·.dst) with
     |none=>rw[F]at h;cases h
     |some t =>
      rw[F]at h;dsimp only at h;cases H:Nat.ble t Nm with
      |false=>rw[H]at h;cases h
      |true =>
       rw[H]at h;cases h;refine⟨rfl,rfl,?_⟩;unfold R4;rw[A];dsimp only;rw[F];dsimp only;rw[Ij (In H)];rfl
   obtain⟨O,Q,R⟩:=L;unfold Qq ef;rw[E];dsimp only;rw[R,O,Q,zsh (zkx z) B I];cases Xr x.g z with
   |false=>simp only[g]
   |true =>
    dsimp only;cases On P (ρA z) I r with
    |no=>rfl
    |val v S=>simp only[g]
    |call t j =>
     dsimp only;cases k t j I with
     |no=>rfl
     |ok v S=>simp only[g]
def zt7{P:Program}{x:RI}{k A:Qn}(D:k.le A)(h:ef P x k L C=.ok vT X):ef P x A L C=.ok vT X:=by
 unfold ef at h ⊢;cases B:Xr x.g L with
 |false=>rw[B]at h;exact h
 |true =>
  rw[B]at h;dsimp only at h ⊢;cases j:On P (ρA L) C x.o with
  |no=>rw[j]at h;cases h
  |val v E=>rw[j]at h;exact h
  |call t g =>
   rw[j]at h;dsimp only at h ⊢;cases z:k t g C with
   |no=>rw[z]at h;cases h
   |ok v E=>rw[z]at h;rw[D _ _ _ _ _ z];exact h
def R0(g:M7)(d:Option Nat)(v:LV):M7:=match d with
 |none=>g
 |some d=>(d,v)::g
def setL(t:Nat)(v:LV):M7→M7
 |[]=>[]
 |(d,x)::l=>if t=d then (d,v)::l else (d,x)::setL t v l
def de(v:LV)(g j z:Prop):Prop:=match v with
 |.bool t=>Sr t g j
 |.tup []=>z
 |_=>False
def Wq(P:Program)(x:LI)(g:M7)(G:M4)(z:M7→M4→Prop):Prop:=match x.g with
 |none=>Nq P g G x.o λv j=>z (R0 g x.d v) j
 |some (t,true)=>de (lk g t) (Nq P (setL t (.bool true) g) G x.o λv j=>z (R0 (setL t (.bool true) g) x.d v) j) (z (R0 (setL t (.bool false) g) x.d (.tup [])) G) (z (R0 g x.d (.tup [])) G)
 |some (t,false)=>de (lk g t) (z (R0 (setL t (.bool true) g) x.d (.tup [])) G) (Nq P (setL t (.bool false) g) G x.o λv j=>z (R0 (setL t (.bool false) g) x.d v) j) (z (R0 g x.d (.tup [])) G)
def Yw{v:LV}{g:Prop}(h:xz v vG g):∃b,v=.bool b∧(b=true→vG)∧(b=false→g):=by
 cases v with
 |bool b=>exact⟨b,rfl,h⟩
 |_=>exact h.elim
def znk{v:LV}{g j:Prop}(h:de v vG g j):(∃b,v=.bool b∧(b=true→vG)∧(b=false→g))∨v=.tup []∧j:=by
 unfold de at h;split at h
 ·exact .inl ⟨_,rfl,h⟩
 ·exact .inr ⟨rfl,h⟩
 ·exact h.elim
def zv6{P:Program}{x:LI}{t:Nat}{w:Bool}(z:x.g=some (t,w)){g:M7}{G:M4}{j:M7→M4→Prop}(h:Wq P x g G j) :
  (∃b,lk g t=.bool b∧(b=w→Nq P (setL t (.bool w) g) G x.o λv A=>j (R0 (setL t (.bool w) g) x.d v) A)∧(b=!w→j (R0 (setL t (.bool (!w)) g) x.d (.tup [])) G))∨lk g t=.tup []∧j (R0 g x.d (.tup [])) G:=by
 unfold Wq at h;rw[z]at h;cases w with
 |true=>exact znk h
 |false =>
  rcases znk h with ⟨b,e,B,C⟩|h
  ·exact .inl ⟨b,e,C,B⟩
  ·exact .inr h
def Tf(P:Program):List LI→M7→M4→(M7→M4→Prop)→Prop
 |[],g,G,j=>j g G
 |x::l,g,G,j=>Wq P x g G λz A=>Tf P l z A j
def N0.put{c:Cx}{ρ:M7}{E:Tr AV}(h:N0 c ρ E){v:LV}{a:AV}(ha:AR c v a)(d:Option Nat):N0 c (R0 ρ d v) (O0 d a E):=by
 cases d with
 |none=>exact h
 |some d =>
  intro t;show AR c (lk ((d,v)::ρ) t) ((M8 (Nh t) (Oo a (Nh d) E)).getD Ri);rw[zht,zhp];by_cases e:t=d
  ·rw[Ij e,Ij e];exact ha
  ·rw[Ii e,Ii e];exact h t
def zv5(t:Nat)(v:LV):∀(z:M7) (g:Nat),lk (setL t v z) g=lk z g∨(g=t∧lk (setL t v z) g=v)
 |[],_=>.inl rfl
 |(d,x)::l,g=>by
  simp only[setL];by_cases h:t=d
  ·rw[Ij h];simp only[zhp];by_cases j:g=d
   ·rw[Ij j];exact .inr ⟨J,rfl⟩
   ·rw[Ii j,Ii j];exact .inl rfl
  ·rw[Ii h];simp only[zhp];by_cases j:g=d
   ·rw[Ij j,Ij j];exact .inl rfl
   ·rw[Ii j,Ii j];exact zv5 t v l g
def N0.setL{c:Cx}{ρ:M7}{E:Tr AV}(h:N0 c ρ E){t:Nat}{v:LV}(ha:AR c v ((M8 (Nh t) E).getD Ri)):N0 c (Sv.setL t v ρ) E:=by
 intro t';rcases zv5 t v ρ t' with e|⟨rfl,e⟩
 ·rw[e];exact h t'
 ·rw[e];exact ha
section run
variable {P : Program} {c : Cx} {G : M4}
def Yc(O:HSim c G){S:M7}(A:N0 c S L){x:LI}(T:x.o.ok=true){gg:M7→M4→Prop}(h:Wq P x S G gg) :
  ∃m I j K z,ef P x.r (Q6 P (OL P) m) L c.H=.ok I j.H∧HSim j z∧Step c G j z∧N0 j K I∧gg K z:=by
 have D:∀S,N0 c S L→(Nq P S G x.o λv z=>gg (R0 S x.d v) z)→Xr x.g L=true→∃m I j K z,ef P x.r (Q6 P (OL P) m) L c.H=.ok I j.H∧HSim j z∧Step c G j z∧N0 j K I∧gg K z:=by
  intro S A h M;have E:=re O A T h;unfold Rn at E;unfold ef;rw[show x.r.g=x.g from rfl,M];dsimp only[LI.r];cases U:On P (ρA L) c.H x.o.r with
  |no=>rw[U]at E;exact E.elim
  |val v1 H' =>
   rw[U]at E;obtain⟨j,v,z,rfl,V,Q,q4,q5⟩:=E;exact⟨0,_,j,_,z,rfl,V,Q,(A.mono Q.le).put q4 x.d,q5⟩
  |call t1 F =>
   rw[U]at E;obtain⟨t,Z,q1,V,_,Q⟩:=E;obtain⟨m,v1,H',r1,j,v,z,rfl,r3,r4,r5,r6⟩:=Q c t1 F O q1 V;refine⟨m,_,j,_,z,?_,r3,r4,(A.mono r4.le).put r5 x.d,r6⟩;dsimp only;rw[r1]
 cases B:x.g with
 |none =>
  unfold Wq at h;rw[B]at h;exact D S A h (by rw[B];rfl)
 |some tw =>
  obtain⟨t,w⟩:=tw;have M:=B;rcases zv6 B h with ⟨b,X,h⟩|⟨X,h⟩
  rotate_left
  ·have C:=A t;rw[X]at C;have H:Xr x.g L=false:=by
    rw[M];unfold Xr;dsimp only;cases R:M8 (Nh t) L with
    |none=>rfl
    |some a=>rw[R]at C;cases C;rfl
   refine⟨0,_,c,_,G,?_,O,.refl c G,A.put (.tup .nil) x.d,h⟩;unfold ef;rw[show x.r.g=x.g from rfl,H];rfl
  ·have C:=A t;rw[X]at C;have g:M8 (Nh t) L=some (.bool b):=by
    cases R:M8 (Nh t) L with
    |none=>rw[R]at C;cases C
    |some a=>rw[R]at C;cases C;rfl
   by_cases e:b=w
   ·refine D _ (A.setL (by rw[g,←e];exact .bool b)) (h.1 e) ?_;rw[M];unfold Xr;dsimp only;rw[g,e];cases w<;>rfl
   ·have Y:b=!w:=by cases b<;>cases w<;>simp_all
    refine⟨0,_,c,_,G,?_,O,.refl c G,(A.setL (by rw[g,←Y];exact .bool b)).put (.tup .nil) x.d,h.2 Y⟩;have H:Xr x.g L=false:=by
     rw[M];unfold Xr;dsimp only;rw[g,Y];cases w<;>rfl
    unfold ef;rw[show x.r.g=x.g from rfl,H];rfl
def zvl{n:Nat}{ops:Array Oper}:∀{l:List LI} {j:List Oper} {c:Cx} {G:M4} {K:M7} {L:Tr AV} {M:M7→M4→Prop},xa P n ops j=some (lis l)→l.all (·.o.ok)=true→HSim c G→N0 c K L→Tf P l K G M →
  ∃m O B C A,(df P n ops j).run (Q6 P (OL P) m) L c.H=.ok O B.H∧HSim B A∧Step c G B A∧N0 B C O∧M C A
 |[],j,c,G,K,L,M,g,_,D,E,h=>by
  cases j with
  |nil=>exact⟨0,L,c,K,G,rfl,D,.refl c G,E,h⟩
  |cons o j =>
   simp only[xa]at g;split at g
   ·cases g
   ·split at g<;>cases g
 |x::l,j,c,G,K,L,M,g,z,D,E,h=>by
  cases j with
  |nil=>cases g
  |cons o j =>
   simp only[xa]at g;split at g
   ·cases g
   ·rename_i r F;split at g
    ·cases g
    ·rename_i rs H;simp only[lis,Option.some.injEq,List.cons.injEq]at g;obtain⟨rfl,rfl⟩:=g;simp only[Kq,H9]at z;obtain⟨m1,E1,c1,ρ1,G1,R,Q,S,T,U⟩:=Yc D E z.1 (show Wq P x K G λC A=>Tf P l C A M from h);obtain⟨I,V,X,Y,Z,q1,q2,q3,q4,q5⟩:=zvl H z.2 Q T U;refine⟨max m1 I,V,X,Y,Z,?_,q2,.trans D Q S q3,q4,q5⟩;simp only[df];rw[zf4 F,zt7 (W7 (J7 m1 I)) R];dsimp only;exact zbb (W7 (Ku m1 I)) q1
end run
end
end
section
noncomputable section
inductive RC where
 |skip
 |ops (l:List RI)
 |draw (l:List (RI×List (RI×Bool)))
 |seq (a b:RC)
 |cond (c:Ox) (a b:RC)
 |block (id:Nat) (c:RC)
 |loop (c:RC)
 |rangeF (g:Ox) (ps:List Nat) (a b:RC)
 |exit (id:Nat)
 |scope (c:RC)
 |label
 |ret
 |stuck
inductive LC where
 |skip
 |ops (l:List LI)
 |draw (l:List (LI×List (LI×Bool)))
 |seq (a b:LC)
 |cond (c:Lx) (a b:LC)
 |block (id:Nat) (c:LC)
 |loop (c:LC)
 |rangeF (g:Lx) (ps:List Nat) (a b:LC)
 |exit (id:Nat)
 |scope (c:LC)
 |label
 |ret
 |stuck
def Ut(t:Nat):List Nat→Bool
 |[]=>false
 |a::l=>match Nat.beq t a with
  |true=>true
  |false=>Ut t l
def V5(ops:Array Oper)(d:Option Nat)(x:DOp):Bool:=match d with
 |none=>true
 |some d=>match Ut d (Ts ops x.o) with
  |true=>false
  |false=>match x.o.dst with
   |none=>true
   |some e=>!(Nat.beq d e)
def T4(x:DOp):Bool:=match x.c with
 |.al=>true
 |_=>false
def yp(P:Program)(n:Nat)(ops:Array Oper):List DOp→Option (List (RI×Bool))
 |[]=>some []
 |x::l=>match gf P n ops x.o with
  |none=>none
  |some r=>match yp P n ops l with
   |none=>none
   |some g=>some ((r,T4 x)::g)
def eqCls:Cls→Cls→Bool
 |.quiet,.quiet=>true
 |.rd,.rd=>true
 |.al,.al=>true
 |.ch,.ch=>true
 |_,_=>false
def rz(ops:Array Oper)(x:DOp):Bool:=match x.o.dst with
 |none=>false
 |some d=>!(Ut d (Ts ops x.o))
def pi(P:Program)(n:Nat)(ops:Array Oper):List DOp→List DOp→Option (List (RI×List (RI×Bool)))
 |[],_=>some []
 |x::l,g=>match Us (V5 ops x.o.dst) g&&eqCls x.c (cls P x.o.op) with
  |false=>none
  |true=>match gf P n ops x.o with
   |none=>none
   |some r=>match x.c with
    |.quiet=>match pi P n ops l g with
     |none=>none
     |some j=>some ((r,[])::j)
    |.rd=>match rz ops x with
     |false=>none
     |true=>match pi P n ops l (x::g) with
      |none=>none
      |some j=>some ((r,[])::j)
    |.al=>match rz ops x with
     |false=>none
     |true=>match yp P n ops g with
      |none=>none
      |some z=>match pi P n ops l (x::g) with
       |none=>none
       |some j=>some ((r,z)::j)
    |.ch=>match yp P n ops (Ny (λy=>!(Nat.testBit x.m y.i)) g) with
     |none=>none
     |some z=>match pi P n ops l (Ny (λy=>!(Nat.testBit x.m y.i)) g) with
      |none=>none
      |some j=>some ((r,z)::j)
def zqb(P:Program)(n:Nat)(ops:Array Oper):Option (List (RI×List (RI×Bool))) :=
 let z:=Qf P ops ops.toList [] 0;let g:=Ny Nc z;let j:=zy z g
 match zv1 ops.size z j with
 |true=>pi P n ops j []
 |false=>none
def Nl(P:Program)(n:Nat):Code→Option RC
 |.skip=>some .skip
 |.region _ ops draw=>match draw with
  |true=>match zqb P n ops with
   |none=>some .stuck
   |some l=>some (.draw l)
  |false=>match xa P n ops ops.toList with
   |none=>some .stuck
   |some l=>some (.ops l)
 |.seq a b=>match Nl P n a with
  |none=>none
  |some a=>match Nl P n b with
   |none=>none
   |some b=>some (.seq a b)
 |.cond c a b=>match N8 c with
  |none=>none
  |some c=>match Nl P n a with
   |none=>none
   |some a=>match Nl P n b with
    |none=>none
    |some b=>some (.cond c a b)
 |.block id c=>match Nl P n c with
  |none=>none
  |some c=>some (.block id c)
 |.loop c=>match Nl P n c with
  |none=>none
  |some c=>some (.loop c)
 |.rangeFunc g j a b=>match N8 g with
  |none=>none
  |some g=>match Nl P n a with
   |none=>none
   |some a=>match Nl P n b with
    |none=>none
    |some b=>some (.rangeF g j.toList a b)
 |.exit id=>some (.exit id)
 |.scope c=>match Nl P n c with
  |none=>none
  |some c=>some (.scope c)
 |.label _=>some .label
 |.ret=>some .ret
 |_=>some .stuck
def rck:List (LI×Bool)→List (RI×Bool)
 |[]=>[]
 |(x,b)::l=>(x.r,b)::rck l
def ml:List (LI×List (LI×Bool))→List (RI×List (RI×Bool))
 |[]=>[]
 |(x,c)::l=>(x.r,rck c)::ml l
def LC.r:LC→RC
 |.skip=>.skip
 |.ops l=>.ops (lis l)
 |.draw l=>.draw (ml l)
 |.seq a b=>.seq a.r b.r
 |.cond c a b=>.cond c.r a.r b.r
 |.block id c=>.block id c.r
 |.loop c=>.loop c.r
 |.rangeF g ps a b=>.rangeF g.r ps a.r b.r
 |.exit id=>.exit id
 |.scope c=>.scope c.r
 |.label=>.label
 |.ret=>.ret
 |.stuck=>.stuck
def LC.ok:LC→Bool
 |.ops l=>l.all (·.o.ok)
 |.draw l=>l.all λx=>x.1.o.ok&&x.2.all (·.1.o.ok)
 |.seq a b=>a.ok&&b.ok
 |.cond c a b=>c.ok&&a.ok&&b.ok
 |.block _ c=>c.ok
 |.loop c=>c.ok
 |.rangeF g _ a b=>g.ok&&a.ok&&b.ok
 |.scope c=>c.ok
 |_=>true
abbrev Pm:=Ex→M7→List Nat→M4→Prop
inductive DRs (c:Cx):List Nat→List Nat→Prop where
 |nil:DRs c [] []
 |cons {p o:Nat} {l r:List Nat} (h:c.hd[p]?=some (0,.ptr o 0 0)) (hs:DRs c l r):DRs c (p::l) (o::r)
def DRs.mono{c c':Cx}(h:CxLe c c'):∀{l r:List Nat},DRs c l r→DRs c' l r
 |_,_,.nil=>.nil
 |_,_,.cons e es=>.cons (h.fix e rfl) (DRs.mono h es)
def ROr(c:Cx):Option Nat→Option Nat→Prop
 |none,none=>True
 |some p,some o=>c.hd[p]?=some (0,.ptr o 0 0)
 |_,_=>False
def ROr.mono{c:Cx}(h:CxLe c vP){a b:Option Nat}(k:ROr c a b):ROr vP a b:=by
 cases a<;>cases b<;>first|exact k|exact h.fix k rfl
def W(P:Program)(f n:Nat)(s:LC)(ro:Option Nat)(ρ:M7)(D:List Nat)(G:M4)(Q:Pm):Prop :=
 ∀(g:Code) (c:Cx) (I:Tr AV) (C:List Nat) (j:Option Nat),Nl P n g=some s.r→s.ok=true→HSim c G→N0 c ρ I→DRs c D C→ROr c ro j →
  ∃m x E z A F H B,(Pl P f n g).run (Q6 P (OL P) m) m j I C c.H=.ok x E z A.H∧HSim A B∧Step c G A B∧N0 A F E∧DRs A H z∧Q x F H B
section rules
variable {P : Program} {f n : Nat} {ro : Option Nat} {ρ : M7} {D : List Nat} {G : M4} {Q : Pm}
def W.post{s:LC}{Q':Pm}(h:W P f n s ro ρ D G Q)(hq:∀x ρ D G,Q x ρ D G→Q' x ρ D G):W P f n s ro ρ D G Q':=by
 intro code c E D1 gg h1 h2 h3 h4 h5 h6;obtain⟨m,x,E',gj,c',ρ',D',G',q1,q2,q3,q4,q5,q6⟩:=h code c E D1 gg h1 h2 h3 h4 h5 h6;exact⟨m,x,E',gj,c',ρ',D',G',q1,q2,q3,q4,q5,hq _ _ _ _ q6⟩
def c7(h:Nl P n vQ=some .skip):vQ=.skip:=by
 cases vQ<;>simp only[Nl]at h<;>first|rfl|(repeat' split at h)<;>cases h
def i4{l:List RI}(h:Nl P n vQ=some (.ops l)):∃id ops,vQ=.region id ops false∧xa P n ops ops.toList=some l:=by
 cases vQ<;>simp only[Nl]at h<;>(repeat' split at h)<;>cases h;exact⟨_,_,rfl,‹_›⟩
def Zt{l:List (RI×List (RI×Bool))}(h:Nl P n vQ=some (.draw l)):∃id ops,vQ=.region id ops true∧zqb P n ops=some l:=by
 cases vQ<;>simp only[Nl]at h<;>(repeat' split at h)<;>cases h;exact⟨_,_,rfl,‹_›⟩
def lf{a b:RC}(h:Nl P n vQ=some (.seq a b)):∃g j,vQ=.seq g j∧Nl P n g=some a∧Nl P n j=some b:=by
 cases vQ<;>simp only[Nl]at h<;>(repeat' split at h)<;>cases h;exact⟨_,_,rfl,‹_›,‹_›⟩
def Zc{x:Ox}{a b:RC}(h:Nl P n vQ=some (.cond x a b)):∃g j z,vQ=.cond g j z∧N8 g=some x∧Nl P n j=some a∧Nl P n z=some b:=by
 cases vQ<;>simp only[Nl]at h<;>(repeat' split at h)<;>cases h;exact⟨_,_,_,rfl,‹_›,‹_›,‹_›⟩
def zxh{id:Nat}{a:RC}(h:Nl P n vQ=some (.block id a)):∃g,vQ=.block id g∧Nl P n g=some a:=by
 cases vQ<;>simp only[Nl]at h<;>(repeat' split at h)<;>cases h;exact⟨_,rfl,‹_›⟩
def bx{a:RC}(h:Nl P n vQ=some (.loop a)):∃g,vQ=.loop g∧Nl P n g=some a:=by
 cases vQ<;>simp only[Nl]at h<;>(repeat' split at h)<;>cases h;exact⟨_,rfl,‹_›⟩
def zxw{B:Ox}{a b:RC}(h:Nl P n vQ=some (.rangeF B Z a b)):∃(j:Operand) (g:Array Tmp) (z A:Code),vQ=.rangeFunc j g z A∧g.toList=Z∧N8 j=some B∧Nl P n z=some a∧Nl P n A=some b:=by
 cases vQ<;>simp only[Nl]at h<;>(repeat' split at h)<;>cases h;exact⟨_,_,_,_,rfl,rfl,‹_›,‹_›,‹_›⟩
def Zl{id:Nat}(h:Nl P n vQ=some (.exit id)):vQ=.exit id:=by
 cases vQ<;>simp only[Nl]at h<;>(repeat' split at h)<;>cases h;rfl
def zyd{a:RC}(h:Nl P n vQ=some (.scope a)):∃g,vQ=.scope g∧Nl P n g=some a:=by
 cases vQ<;>simp only[Nl]at h<;>(repeat' split at h)<;>cases h;exact⟨_,rfl,‹_›⟩
def zxm(h:Nl P n vQ=some .label):∃s,vQ=.label s:=by
 cases vQ<;>simp only[Nl]at h<;>(repeat' split at h)<;>cases h;exact⟨_,rfl⟩
def ke(h:Nl P n vQ=some .ret):vQ=.ret:=by
 cases vQ<;>simp only[Nl]at h<;>first|rfl|(repeat' split at h)<;>cases h
def sf(h:Q .normal ρ D G):W P f n .skip ro ρ D G Q:=by
 intro g c F j z A H B C E I;obtain rfl:=c7 A;exact⟨0,.normal,F,j,c,ρ,D,G,rfl,B,.refl c G,C,E,h⟩
def iz(h:Q .normal ρ D G):W P f n .label ro ρ D G Q:=by
 intro g c F j z A H B C E I;obtain⟨s,rfl⟩:=zxm A;exact⟨0,.normal,F,j,c,ρ,D,G,rfl,B,.refl c G,C,E,h⟩
def te{id:Nat}(h:Q (.exit id) ρ D G):W P f n (.exit id) ro ρ D G Q:=by
 intro g c F j z A H B C E I;obtain rfl:=Zl A;exact⟨0,.exit id,F,j,c,ρ,D,G,rfl,B,.refl c G,C,E,h⟩
def W_ret(h:Q .ret ρ D G):W P f n .ret ro ρ D G Q:=by
 intro g c F j z A H B C E I;obtain rfl:=ke A;exact⟨0,.ret,F,j,c,ρ,D,G,rfl,B,.refl c G,C,E,h⟩
def i6{s:LC}(h:W P f n s ro ρ D G Q):W P f n (.scope s) ro ρ D G Q:=by
 intro z c L A g B C E F H I;obtain⟨K,rfl,j⟩:=zyd B;exact h K c L A g j C E F H I
def W_ops{l:List LI}(h:Tf P l ρ G λg j=>Q .normal g D j):W P f n (.ops l) ro ρ D G Q:=by
 intro z c X B C E F H I K V;obtain⟨id,ops,rfl,L⟩:=i4 E;obtain⟨m,M,O,g,j,R,S,A,T,U⟩:=zvl L F H I h;refine⟨m,.normal,M,B,O,g,D,j,?_,S,A,T,K.mono A.le,U⟩;simp only[Pl];rw[R]
def W_seq{a b:LC}(h:W P f n a ro ρ D G λx j z A=>match x with
  |.normal=>W P f n b ro j z A Q
  |x=>Q x j z A):W P f n (.seq a b) ro ρ D G Q:=by
 intro T c gg X B Y H U Z h5 V;obtain⟨ca,cb,rfl,ha,hb⟩:=lf Y;simp only[LC.ok,H9]at H;obtain⟨m,x,I,g,K,j,z,A,L,E,F,M,O,R⟩:=h ca c gg X B ha H.1 U Z h5 V;cases x with
 |normal =>
  obtain⟨C,x,E2,D2,c2,ρ2,S,G2,r1,r2,r3,r4,r5,r6⟩:=R cb K I g B hb H.2 E M O (V.mono F.le);refine⟨max m C,x,E2,D2,c2,ρ2,S,G2,?_,r2,.trans U E F r3,r4,r5,r6⟩;simp only[Pl];rw[eo (W7 (J7 m C)) (J7 m C) _ L];exact eo (W7 (Ku m C)) (Ku m C) _ r1
 |exit id =>
  refine⟨m,.exit id,I,g,K,j,z,A,?_,E,F,M,O,R⟩;simp only[Pl];rw[L]
 |ret =>
  refine⟨m,.ret,I,g,K,j,z,A,?_,E,F,M,O,R⟩;simp only[Pl];rw[L]
def tz{x:Lx}{a b:LC}{t:Bool}(hx:x.ev ρ=.bool t)(ha:t=true→W P f n a ro ρ D G Q)(hb:t=false→W P f n b ro ρ D G Q):W P f n (.cond x a b) ro ρ D G Q:=by
 intro T c U V j h1 z X A Y Z;obtain⟨cx,ca,cb,rfl,B,C,E⟩:=Zc h1;simp only[LC.ok,H9]at z;have F:=Ol A z.1.1;have H:=S7 B (zkx U);have I:x.r.ev (ρA U)=.bool t:=by
  rw[hx]at F;generalize x.r.ev (ρA U)=w at F;cases F;rfl
 rw[I]at H;cases t with
 |true =>
  obtain⟨m,x,K,g,L,M,O,R,S,q⟩:=ha rfl ca c U V j C z.1.2 X A Y Z;refine⟨m,x,K,g,L,M,O,R,?_,q⟩;simp only[Pl];rw[H];exact S
 |false =>
  obtain⟨m,x,K,g,L,M,O,R,S,q⟩:=hb rfl cb c U V j E z.2 X A Y Z;refine⟨m,x,K,g,L,M,O,R,?_,q⟩;simp only[Pl];rw[H];exact S
def j3{id:Nat}{s:LC}(h:W P f n s ro ρ D G λx j z A=>match x with
  |.exit i=>if i=id then Q .normal j z A else Q (.exit i) j z A
  |x=>Q x j z A):W P f n (.block id s) ro ρ D G Q:=by
 intro R c gg S M T U V X Y Z;obtain⟨ca,rfl,O⟩:=zxh T;obtain⟨m,x,C,g,E,j,z,A,F,H,I,K,L,B⟩:=h ca c gg S M O U V X Y Z;cases x with
 |normal =>
  refine⟨m,.normal,C,g,E,j,z,A,?_,H,I,K,L,B⟩;simp only[Pl];rw[F]
 |exit i =>
  dsimp only at B;by_cases e:i=id
  ·rw[Ij e]at B;refine⟨m,.normal,C,g,E,j,z,A,?_,H,I,K,L,B⟩;simp only[Pl];rw[F,e];dsimp only;rw[I3]
  ·rw[Ii e]at B;refine⟨m,.exit i,C,g,E,j,z,A,?_,H,I,K,L,B⟩;simp only[Pl];rw[F];dsimp only;cases hb:Nat.beq i id with
   |true=>exact absurd (Ig hb) e
   |false=>rfl
 |ret =>
  refine⟨m,.ret,C,g,E,j,z,A,?_,H,I,K,L,B⟩;simp only[Pl];rw[F]
def ct{s:LC}(gE:M7→List Nat→M4→Nat→Prop)(h0:gE ρ D G g)
  (h:∀g ρ D G,gE ρ D G g→W P f n s ro ρ D G λx A B z=>match x with
   |.normal=>∃M,M<g∧gE A B z M
   |x=>Q x A B z):W P f n (.loop s) ro ρ D G Q:=by
 intro gD c gC H F h1 h2 O U V R;obtain⟨ca,rfl,X⟩:=bx h1;have Y:∀g,∀(c:Cx) (gC:Tr AV) (H:List Nat) (ρ:M7) (D:List Nat) (G:M4),gE ρ D G g→HSim c G→N0 c ρ gC→DRs c D H→ROr c ro F →
   ∃m I x E j C A B z,aq ((Pl P f n ca).run (Q6 P (OL P) m) m F) I gC H c.H=.ok x E j C.H∧HSim C z∧Step c G C z∧N0 C A E∧DRs C B j∧Q x A B z:=by
  intro g
  induction g using Nat.strongRecOn with
  |_ g ih =>
   intro c gC H ρ D G hI O U V R;obtain⟨m,x,E,j,C,A,B,z,K,S,T,Z,q5,q6⟩:=h g ρ D G hI ca c gC H F X h2 O U V R;cases x with
   |normal =>
    obtain⟨M,hN,gg⟩:=q6;obtain⟨L,gj,x,E2,D2,c2,ρ2,gB,G2,r1,r2,r3,r4,r5,r6⟩:=ih M hN C E j A B z gg S Z q5 (R.mono T.le);refine⟨max m L,gj+1,x,E2,D2,c2,ρ2,gB,G2,?_,r2,.trans O S T r3,r4,r5,r6⟩;simp only[aq];rw[eo (W7 (J7 m L)) (J7 m L) _ K];exact zbo (λ_ _ _ _ _ _ _ e=>eo (W7 (Ku m L)) (Ku m L) _ e) (If _) r1
   |exit id =>
    refine⟨m,1,.exit id,E,j,C,A,B,z,?_,S,T,Z,q5,q6⟩;simp only[aq];rw[K]
   |ret =>
    refine⟨m,1,.ret,E,j,C,A,B,z,?_,S,T,Z,q5,q6⟩;simp only[aq];rw[K]
 obtain⟨m,I,x,E,j,C,A,B,z,K,q⟩:=Y g c gC H ρ D G h0 O U V R;refine⟨max m I,x,E,j,C,A,B,z,?_,q⟩;simp only[Pl];exact zbo (λ_ _ _ _ _ _ _ e=>eo (W7 (J7 m I)) (J7 m I) _ e) (Ku m I) K
end rules
inductive RRes where
 |tmp (t:Nat)
 |cell1 (t:Nat)
 |cellN (t n:Nat)
def s8(P:Program):ResultVar→Option RRes
 |.tmp t=>match Nat.ble t Nm with
  |true=>some (.tmp t)
  |false=>none
 |.cell a t=>match Nat.ble a Nm with
  |true=>match Sc P t,Oz P t with
   |some true,some n=>some (.cellN a n)
   |some false,some _=>some (.cell1 a)
   |_,_=>none
  |false=>none
def V1(P:Program):List ResultVar→Option (List RRes)
 |[]=>some []
 |r::l=>match s8 P r with
  |none=>none
  |some a=>match V1 P l with
   |none=>none
   |some b=>some (a::b)
structure RF where
 n:Nat
 c:RC
 rs:List RRes
def Nf(P:Program)(f:Nat):Option RF :=
 match io P f && !(ym P f) && !(zug P f) with
 |false=>none
 |true=>match P.funcs[f]? with
  |none=>none
  |some fn=>match fn.body with
   |none=>none
   |some b=>match Nat.ble fn.ntmps Nm with
    |false=>none
    |true=>match Nl P fn.ntmps b with
     |none=>none
     |some c=>match V1 P fn.results.toList with
      |none=>none
      |some g=>some ⟨fn.ntmps,c,g⟩
def Q5(ρ:M7)(G:M4):List RRes→(List LV→Prop)→Prop
 |[],j=>j []
 |r::l,j=>match r with
  |.tmp t=>Q5 ρ G l λg=>j (lk ρ t::g)
  |.cell1 t=>Vn G (lk ρ t) λv=>Q5 ρ G l λg=>j (v::g)
  |.cellN t n=>Va G (lk ρ t) n λz=>Q5 ρ G l λg=>j (.agg z::g)
def Uw:List LV→LV
 |[v]=>v
 |l=>.tup l
def dt:List LV→Nat→M7
 |[],_=>[]
 |v::l,i=>(i,v)::dt l (i+1)
def d9:List Nat→M4→(M4→Prop)→Prop
 |[],G,g=>g G
 |d::l,G,g=>match G[d]? with
  |some (.defd true)=>d9 l (G.set d (.defd false)) g
  |_=>False
section fns
variable {P : Program}
def zl5{c:Cx}{G:M4}{ρ:M7}{I:Tr AV}(B:HSim c G)(A:N0 c ρ I):∀{l:List ResultVar} {H:List RRes} {K:List LV→Prop},V1 P l=some H→Q5 ρ G H K→∃g as,(n7 P l).run I c.H=some as∧ARs c g as∧K g
 |[],H,K,h,k=>by cases h;exact⟨[],[],rfl,.nil,k⟩
 |r::l,H,K,h,k=>by
  simp only[V1]at h;split at h
  ·cases h
  ·rename_i a j;split at h
   ·cases h
   ·rename_i b L;cases h;simp only[n7];cases r with
    |tmp t =>
     simp only[s8]at j;split at j
     ·rename_i M;cases j;obtain⟨g,as,C,E,F⟩:=zl5 B A L (show Q5 ρ G b (λg=>K (lk ρ t::g)) from k);have z:(Nk (.tmp t)).run I=some ((M8 (Nh t) I).getD Ri):=by
       unfold Nk;dsimp only;rw[M];dsimp only;cases M8 (Nh t) I<;>rfl
      refine⟨_,_,?_,.cons (A t) E,F⟩;simp only[resF];rw[z,C]
     ·cases j
    |cell t Y =>
     simp only[s8]at j;split at j
     ·rename_i M;have z:(Nk (.tmp t)).run I=some ((M8 (Nh t) I).getD Ri):=by
       unfold Nk;dsimp only;rw[M];dsimp only;cases M8 (Nh t) I<;>rfl
      split at j
      ·rename_i m O R;cases j;obtain⟨o,v,i,Z,X,S,T,U,V⟩:=zlv B (A t) (show Va G (lk ρ t) m (λX=>Q5 ρ G b λg=>K (.agg X::g)) from k);obtain⟨g,as,C,E,F⟩:=zl5 B A L V;refine⟨_,_,?_,.cons (.agg U) E,F⟩;simp only[Sv.resF,O,R];rw[z,S];dsimp only;rw[T,C]
      ·rename_i m O R;cases j;obtain⟨o,v,i,w,bb,S,T,U,V⟩:=zrp B (A t) (show Vn G (lk ρ t) (λv=>Q5 ρ G b λg=>K (v::g)) from k);obtain⟨g,as,C,E,F⟩:=zl5 B A L V;refine⟨_,_,?_,.cons U E,F⟩;simp only[Sv.resF,O,R];rw[z,S];dsimp only;rw[T];dsimp only;rw[C]
      ·cases j
     ·cases j
end fns
end
end
section
section fns
variable {P : Program}
def lk_argsL:∀(l:List LV) (i t:Nat),lk (dt l i) t=if i≤t∧t<i+l.length then l.getD (t-i) .any else .any
 |[],i,t=>by simp only[dt,bf,List.length_nil];rw[Ii J]
 |v::l,i,t=>by
  simp only[dt,zhp,Iy];rw[lk_argsL l (i+1) t];by_cases h:t=i
  ·subst h;rw[Ij rfl,Ij J];simp
  ·rw[Ii h];by_cases g:i+1≤t∧t<i+1+l.length
   ·rw[Ij g,Ij J,show t-i=(t-(i+1))+1 from J];simp
   ·rw[Ii g,Ii J]
def N0.start{c:Cx}{args:List LV}{gg:List AV}(h:ARs c args gg):N0 c (dt args 0) (Pp gg 0 .e):=by
 intro t;rw[lk_argsL,get_ofList,Vz];have hl:=h.length;by_cases ht:t<args.length
 ·rw[Ij J,Ij J];obtain⟨a,q1,q2⟩:=h.get (Ib ht);rw[Nat.sub_zero,q1,Ie,Ib ht];exact q2
 ·rw[Ii J];exact .any _
def zrj{U:M4→Prop}:∀{I:List Nat} {F:List Nat} {c:Cx} {B:M4},DRs c I F→HSim c B→d9 I B U→∃j z,p0 F c.H=some j.H∧HSim j z∧Step c B j z∧U z
 |[],_,c,B,.nil,g,h=>⟨c,B,rfl,g,.refl c B,h⟩
 |d::I,_,c,B,.cons (o:=o) e K,g,h=>by
  simp only[d9]at h;split at h
  ·rename_i C;obtain⟨_,G,D,A⟩:=g.obj d _ _ _ C e;injection D with D
   subst D;obtain⟨H,L,M⟩:=g.upd (k':=0) (x':=.ptr o 0 0) (ob':=.defd false) (H':=c.H.put o (.defd false)) C rfl e (If _) (λG _ E=>Heap.get_put_ne _ _ (λq=>E C5))
    (λG O=>by cases O;exact⟨.inl rfl,g.lt o ⟨d,_,_,_,C,rfl,e,rfl⟩⟩) (If _) (λ_=>rfl) (λ_=>rfl) (.inr ⟨rfl,If _⟩) (λ_=>⟨rfl,o,rfl,Heap.get_put_same _ _ _⟩)
   obtain⟨j,z,Q,R,S,T⟩:=zrj (K.mono M) H h;refine⟨j,z,?_,R,.trans g H L S,T⟩;simp only[p0];rw[A];exact Q
  ·exact h.elim
def oneA:List AV→AV
 |[v]=>v
 |l=>.tup l
def zua{f:Nat}{s:LC}{n:Nat}{Q:List RRes}(g:Nf P f=some ⟨n,s.r,Q⟩)(G:s.ok=true)(hn:D.length≤n){gB:LV→M4→Prop}
  (h:W P f n s none (dt D 0) [] F λx ρ gC R=>(match x with | .exit _=>False|_=>True)∧d9 gC R λC=>Q5 ρ C Q λE=>gB (Uw E) C):Qa P (.fn f) D F gB:=by
 unfold Nf at g;split at g
 ·cases g
 ·rename_i j;simp only[H9,L5]at j;refine⟨j.1,λc t1 z S T U=>?_⟩;cases t1 with
  |yield o=>exact T.elim
  |fn gD =>
   obtain rfl:f=gD:=T;split at g
   ·cases g
   ·rename_i fn H;split at g
    ·cases g
    ·rename_i b hb;split at g
     ·cases g
     ·rename_i A;split at g
      ·cases g
      ·rename_i rc I;split at g
       ·cases g
       ·rename_i gg K;cases g;obtain⟨m,x,E',gj,c',ρ',D',R,q1,V,q3,q4,q5,q6,q7⟩:=h b c _ [] none I G S (N0.start U) .nil trivial;obtain⟨L,C,X,Y,Z,r4⟩:=zrj q5 V q7;obtain⟨E,as,s1,s2,s3⟩:=zl5 Y (q4.mono Z.le) K r4;have B:AR L (Uw E) (oneA as):=by
         cases s2 with
         |nil=>exact .tup .nil
         |cons e es =>
          cases es with
          |nil=>exact e
          |cons e2 M=>exact .tup (.cons e (.cons e2 M))
        refine⟨m+1,oneA as,L.H,?_,L,Uw E,C,rfl,Y,.trans S V q3 Z,B,s3⟩;unfold Q6;dsimp only;rw[zt j.2];dsimp only;unfold wh;rw[H];dsimp only;rw[hb];dsimp only;rw[Ij (In A)];dsimp only;have O:Nat.ble z.length fn.ntmps=true:=Ih (by rw[←U.length];exact hn);rw[O];dsimp only;rw[q1];dsimp only;cases x with
        |exit id=>exact q6.elim
        |normal =>
         dsimp only;rw[X];dsimp only;rw[s1];rcases as with _|⟨a,_|⟨a2,as⟩⟩<;>rfl
        |ret =>
         dsimp only;rw[X];dsimp only;rw[s1];rcases as with _|⟨a,_|⟨a2,as⟩⟩<;>rfl
def Qa.mono{t:LTgt}{args:List LV}{G:M4}{K K':LV→M4→Prop}(h:Qa P t args G K)(hk:∀v G,K v G→K' v G):Qa P t args G K' :=
 ⟨h.1,λc t1 gg h1 h2 h3=>by
  obtain⟨m,v1,H',q1,c',v,G',q2,q3,q4,q5,q6⟩:=h.2 c t1 gg h1 h2 h3;exact⟨m,v1,H',q1,c',v,G',q2,q3,q4,q5,hk _ _ q6⟩⟩
mutual
def LV.sim(m:Nat):LV→Bool
 |.bool _ |.u _ |.b _ |.i _ |.int _ _ |.str _ |.nilPtr |.nilSl |.nilMap |.nilFn |.nilIf=>true
 |.dy j k=>k==0&&decide (j<m)
 |.agg l=>sims m l
 |.tup l=>sims m l
 |_=>false
def sims(m:Nat):List LV→Bool
 |[]=>true
 |v::l=>v.sim m&&sims m l
end
mutual
def subV(sel:List LV):LV→LV
 |.dy j _=>sel.getD j .any
 |.agg l=>.agg (subVs sel l)
 |.tup l=>.tup (subVs sel l)
 |v=>v
def subVs(sel:List LV):List LV→List LV
 |[]=>[]
 |v::l=>subV sel v::subVs sel l
end
def notP(p:Nat):LV→Prop
 |.dy q _=>q≠p
 |_=>True
def Wt(A:M4):List LV→M4→Prop
 |[],[]=>True
 |.dy p k::s,.dyn l len j g st::B=>g=0∧l.all LV.scal=true∧(∃z,A[p]?=some (.dyn l len j k z))∧st=0∧(∀x∈s,notP p x)∧Wt A s B
 |.nilSl::s,.dyn l len _ g st::B=>g=0∧st=0∧l=[]∧len=0∧Wt A s B
 |_,_=>False
def Np(P:Program)(f:Nat)(A:List LV)(F:LV)(C:M4):Prop :=
 jh P (.fn f)∧F.sim C.length=true∧(∀(I:Nat) (G:LObj),C[I]?=some G→∃l len D,G=.dyn l len D 0 0∧l.all LV.scal=true)∧∀(B:Nat→Prop) (E:Heap) (g:List AV),(∀o,B o→o<E.next)→ARs ⟨[],B,E⟩ A g →
  ∃m H j z,Q6 P (OL P) m (.fn f) g E=.ok H z∧HSim ⟨j,B,z⟩ C∧AR ⟨j,B,z⟩ F H∧E.next≤z.next∧(∀o,o<E.next→z.get o=E.get o)∧∀o,O9 ⟨j,B,z⟩ C o→E.next≤o
def zef{c g:Cx}:∀{l:List LV} {r:List AV},l.all LV.scal=true→ARs c l r→ARs g l r
 |[],_,_,.nil=>.nil
 |v::l,_,h,.cons e j=>by
  simp only[Kq,H9]at h;refine .cons ?_ (zef h.2 j);cases v<;>first|(cases h.1;done)|(cases e;constructor)
def HSim.empty{Fz:Nat→Prop}{H:Heap}(h:∀o,Fz o→o<H.next):HSim ⟨[],Fz,H⟩ [] :=
 ⟨rfl,h,λo ⟨p,_,_,_,e,_⟩=>B7,λo ⟨p,_,_,_,e,_⟩=>B7,λp _ _ _ e=>B7,λp _ _ _ _ _ _ _ _ e=>B7⟩
def zgv{c:Cx}{gj:M4}(Q:HSim c gj):∀{g:List LV} {R:M4},Wt gj g R→∃C:List (Nat×AV),C.length=R.length ∧
  (∀(j:Nat) (E:LObj) (k:Nat) (h:AV),R[j]?=some E→C[j]?=some (k,h)→k=0∧(∀S:Cx,S.H=c.H→oy S 0 h E)∧(∃l len F,E=.dyn l len F 0 0∧l.all LV.scal=true) ∧
   ((g[j]?=some .nilSl∧h=.nilSl)∨∃p D,g[j]?=some (.dy p D)∧c.hd[p]?=some (D,h)∧(∀o,Nv h=some o→O9 c gj o)∧∃G,gj[p]?=some G∧G.live=true)) ∧
  (∀(i j p k q D:Nat),g[i]?=some (.dy p k)→g[j]?=some (.dy q D)→p=q→i=j)
 |[],[],_=>⟨[],rfl,λj E k h e=>B7,λi j p k q D e=>B7⟩
 |[],_::_,h=>h.elim
 |s::g,[],h=>by cases s<;>exact h.elim
 |s::g,E::R,h=>by
  cases s<;>cases E<;>first|exact h.elim|skip
  ·rename_i l len F U st;obtain⟨rfl,rfl,rfl,rfl,h⟩:=h;obtain⟨C,V,X,Y⟩:=zgv Q h;refine⟨(0,.nilSl)::C,Ch,λj E k h z A=>?_,λi j p k q D z A H=>?_⟩
   ·cases j with
    |zero =>
     simp only[It,Option.some.injEq]at z A;cases z;cases A;exact⟨rfl,λS _=>⟨rfl,N,.inl ⟨rfl,rfl⟩⟩,⟨_,_,_,rfl,rfl⟩,.inl ⟨rfl,rfl⟩⟩
    |succ j=>exact X j E k h Cp Bh
   ·cases i with
    |zero=>simp at z
    |succ i=>cases j with
     |zero=>simp at A
     |succ j=>have:=Y i j p k q D Cp Bh H;omega
  ·rename_i p k l len F U st;obtain⟨rfl,I,⟨gB,T⟩,rfl,Z,h⟩:=h;obtain⟨C,V,X,Y⟩:=zgv Q h;have hp:p<c.hd.length:=by rw[Q.len];exact (H7.1 T).1
   obtain⟨k0,h0,e0⟩:∃k h,c.hd[p]?=some (k,h):=⟨_,_,Ib hp⟩;have K:=Q.obj p _ _ _ T e0;have hk:=K.1;subst hk;have B:∀(j q D:Nat),g[j]?=some (.dy q D)→q≠p:=λj q D e=>Z _ (Jd e)
   refine⟨(0,h0)::C,Ch,λj E k h z A=>?_,λi j p' k q D z A H=>?_⟩
   ·cases j with
    |zero =>
     simp only[It,Option.some.injEq]at z A;cases z;cases A;refine⟨rfl,λS gg=>?_,⟨_,_,_,rfl,I⟩,.inr ⟨p,_,rfl,e0,λo ho=>⟨p,_,_,_,T,rfl,e0,ho⟩,_,T,rfl⟩⟩;obtain⟨_,r1,L⟩:=K;refine⟨rfl,r1,?_⟩;rcases L with L|⟨o,v,M,t,O,l',L,r3,r4,r5,r6,r7⟩
     ·exact .inl L
     ·exact .inr ⟨o,v,M,t,O,l',L,by rw[gg];exact r3,r4,r5,zef I r6,r7⟩
    |succ j=>exact X j E k h Cp Bh
   ·cases i with
    |zero =>
     simp only[It,Option.some.injEq]at z;cases z;cases j with
     |zero=>rfl
     |succ j=>exact absurd H.symm (B j q D Bh)
    |succ i=>cases j with
     |zero =>
      simp only[It,Option.some.injEq]at A;cases A;exact absurd H (B i p' k Cp)
     |succ j=>have:=Y i j p' k q D Cp Bh H;omega
mutual
def sub_AR{c c':Cx}{sel:List LV}(gg:∀(gB:Nat) (v:LV) (a:AV),sel[gB]?=some v→AR c v a→AR c' (.dy gB 0) a)(v:LV)(a:AV)(j:v.sim sel.length=true)(h:AR c (subV sel v) a):AR c' v a:=by
 cases v with
 |dy gB k =>
  simp only[LV.sim,H9,Ml,Il]at j;obtain⟨rfl,gj⟩:=j;refine gg gB _ a (Ib gj) ?_;unfold subV at h
  rwa [Ie,Ib gj]at h
 |agg l =>
  simp only[LV.sim]at j;simp only[subV]at h;cases h with
  |agg h=>exact .agg (sub_ARs gg l _ j h)
 |tup l =>
  simp only[LV.sim]at j;simp only[subV]at h;cases h with
  |tup h=>exact .tup (sub_ARs gg l _ j h)
 |_=>first|(simp only[LV.sim]at j;cases j;done)|(simp only[subV]at h;cases h;constructor)
termination_by SizeOf.sizeOf v
def sub_ARs{c c':Cx}{sel:List LV}(gg:∀(gB:Nat) (v:LV) (a:AV),sel[gB]?=some v→AR c v a→AR c' (.dy gB 0) a)(l:List LV)(r:List AV)(j:sims sel.length l=true)(h:ARs c (subVs sel l) r):ARs c' l r:=by
 cases l with
 |nil=>simp only[subVs]at h;cases h;exact .nil
 |cons v l =>
  simp only[sims,H9]at j;simp only[subVs]at h;cases h with
  |cons e es=>exact .cons (sub_AR gg v _ j.1 e) (sub_ARs gg l _ j.2 es)
termination_by SizeOf.sizeOf l
end
def Np.mk{f:Nat}{args:List LV}{v0:LV}{G0:M4}(gj:v0.sim G0.length=true)(h:Qa P (.fn f) args [] λv G=>∃sel,v=subV sel v0∧sel.length=G0.length∧Wt G sel G0)(hG:∀(j:Nat) (ob:LObj),G0[j]?=some ob→∃l len esz,ob=.dyn l len esz 0 0∧l.all LV.scal=true):Np P f args v0 G0:=by
 refine⟨h.1,gj,hG,λFz H gD gE ha=>?_⟩;obtain⟨m,v1,H',q1,c1,v,G,rfl,q3,q4,q5,sel,rfl,hlen,hr⟩:=h.2 ⟨[],Fz,H⟩ (.fn f) gD (.empty gE) rfl ha;obtain⟨gg,r1,r2,r3⟩:=zgv q3 hr;have gF:∀(j:Nat) (ob:LObj),G0[j]?=some ob→∃k h,gg[j]?=some (k,h):=λj ob e=>⟨_,_,Ib (by rw[r1];exact (H7.1 e).1)⟩
 have gB:∀o,O9 ⟨gg,Fz,c1.H⟩ G0 o→O9 c1 G o:=by
  rintro o ⟨j,ob,k,h,e1,e2,e3,e4⟩;obtain⟨_,_,_,s4⟩:=r2 j ob k h e1 e3;rcases s4 with ⟨_,s4⟩|⟨p,k',_,_,s6,_⟩
  ·rw[s4]at e4;cases e4
  ·exact s6 o e4
 have gC:∀o,O9 ⟨gg,Fz,c1.H⟩ G0 o→H.next≤o:=λo ho=>by
  rcases q4.new o (gB o ho) with ⟨p,_,_,_,e,_⟩|h
  ·simp at e
  ·exact h
 have gG:∀o,¬O9 ⟨[],Fz,H⟩ [] o:=λo ⟨p,_,_,_,e,_⟩=>B7
 have gH:HSim ⟨gg,Fz,c1.H⟩ G0:=by
  refine⟨r1,λo ho=>Ix (gE o ho) q4.nx,λo ho=>q3.lt o (gB o ho),λo ho hf=>?_,λj ob k h e1 e2=>?_,λi j ob gI k h k' h' o e1 e2 e3 e4 e5 e6 e7 e8=>?_⟩
  ·have:=gC o ho;have:=gE o hf;omega
  ·obtain⟨s1,s2,_⟩:=r2 j ob k h e1 e2;rw[s1];exact s2 _ rfl
  ·obtain⟨_,_,_,s4⟩:=r2 i ob k h e1 e5;obtain⟨_,_,_,t4⟩:=r2 j gI k' h' e2 e6;rcases s4 with ⟨_,s4⟩|⟨p,kp,s5,s6,_,o1,g1,g2⟩
   ·rw[s4]at e7;cases e7
   ·rcases t4 with ⟨_,t4⟩|⟨q,kq,t5,t6,_,o2,g3,g4⟩
    ·rw[t4]at e8;cases e8
    ·refine r3 i j p kp q kq s5 t5 ?_;exact q3.excl p q o1 o2 kp h kq h' o g1 g3 g2 g4 s6 t6 e7 e8
 refine⟨m,v1,gg,c1.H,q1,gH,?_,q4.nx,λo ho=>q4.frame o ho (gG o),gC⟩;refine sub_AR (c:=c1) (λj v a e1 e2=>?_) v0 v1 (by rw[hlen];exact gj) q5;have hj:j<G0.length:=by rw[←hlen];exact (H7.1 e1).1
 obtain⟨k,h,e3⟩:=gF j _ (Ib hj);obtain⟨rfl,_,_,s4⟩:=r2 j _ k h (Ib hj) e3;rcases s4 with ⟨s4,s5⟩|⟨p,k',s4,s5,_⟩
 ·rw[e1]at s4;cases s4;cases e2;exact .dy e3 (If _) (λ_=>s5.symm) rfl
 ·rw[e1]at s4;cases s4;cases e2 with
  |dy f1 f2 f3 f4 =>
   rw[s5]at f1;cases f1;exact .dy e3 (If _) (λ_=>f3 rfl) f4
end fns
end
section
noncomputable section
def lh(ρ:M7)(G:M4):LOp→Option (Option Nat)
 |.load1 x |.loadN _ x=>match x.ev ρ with
  |.ptr p _=>some (some p)
  |.dptr p k _=>match G[p]? with
   |some (.dyn _ _ _ g _)=>if k=g then some (some p) else none
   |_=>none
  |.cptr _ _=>some none
  |_=>none
 |.cvStr x=>match x.ev ρ with
  |.nilSl=>some none
  |.lst _ _ _=>some none
  |.dy p k=>match G[p]? with
   |some (.dyn _ _ _ g _)=>if k=g then some (some p) else none
   |_=>none
  |_=>none
 |_=>none
def oo(G g:M4)(p:Nat):Prop:=match G[p]?,g[p]? with
 |some a,some b=>a.stp=true∧a.st=b.st
 |_,_=>False
def qm(ρ:M7)(G g:M4)(x:LI×Bool):Prop:=match x.2 with
 |false=>match lh ρ G x.1.o with
  |some none=>True
  |some (some p)=>oo G g p
  |none=>False
 |true=>match x.1.d with
  |none=>False
  |some d=>match lk ρ d with
   |.ptr p _=>oo G g p
   |.dy p k=>(match G[p]? with
    |some (.dyn _ _ _ j _)=>k=j
    |_=>False)∧oo G g p
   |_=>False
def ckL(ρ:M7)(G g:M4)(x:LI×Bool):Prop:=match x.1.g with
 |none=>qm ρ G g x
 |some (t,w)=>match lk ρ t with
  |.bool b=>b=w→qm ρ G g x
  |_=>qm ρ G g x
def U4(ρ:M7)(G g:M4):List (LI×Bool)→Prop
 |[]=>True
 |x::l=>ckL ρ G g x∧U4 ρ G g l
def Xc(P:Program):List (LI×List (LI×Bool))→M7→M4→(M7→M4→Prop)→Prop
 |[],ρ,G,j=>j ρ G
 |(x,z)::l,ρ,G,j=>Wq P x ρ G λA g=>U4 ρ G g z∧Xc P l A g j
section al
variable {P : Program}
def zwd{v:AV}{id n:Nat}(h:Nv v=some id):P9 id (P9 n v)=v:=by
 cases v<;>first|(cases h;done)|(cases h;rfl)
def zka{l:List AV}{v:AV}(h:Vm C l=.val v X):∃j,X=C.push j∧Nv v=some C.next∧∀g,Vm g l=.val (P9 g.next v) (g.push j):=by
 unfold Vm newObj at h;cases h;exact⟨_,rfl,rfl,λg=>rfl⟩
def zmd{l:List AV}{a b:Nat}{r:Option Nat}{v:AV}(h:(match newObj C l with
  |some (o,j)=>OR.val (.sl o 0 0 a b r) j
  |none=>.no)=.val v X):∃z,X=C.push z∧Nv v=some C.next∧∀g,(match newObj g l with
  |some (o,j)=>OR.val (.sl o 0 0 a b r) j
  |none=>.no)=.val (P9 g.next v) (g.push z):=by
 unfold newObj at h;cases h;exact⟨_,rfl,rfl,λg=>rfl⟩
def qv{o:Op}(g:cls P o=.al){v:AV}(h:(N5 P o).run L C=.val v X):∃z,X=C.push z∧Nv v=some C.next∧∀j,(N5 P o).run L j=.val (P9 j.next v) (j.push z):=by
 cases o with
 |alloc t =>
  simp only[N5]at h ⊢;split at h
  ·exact zka h
  ·cases h
 |box t x =>
  simp only[N5,Pq]at h ⊢;cases A:(Nk x).run L with
  |none=>rw[A]at h;cases h
  |some a =>
   rw[A]at h;dsimp only at h ⊢;cases B:a.cells with
   |none=>rw[B]at h;cases h
   |some l=>rw[B]at h;exact zka h
 |buildSlice t len H =>
  simp only[N5,py]at h ⊢;split at h
  ·split at h
   ·cases h
   ·split at h
    ·cases h
    ·rename_i R O;by_cases F:len * ‹Nat›≤2^20∧0 < ‹Nat›
     ·rw[Ij F]at h ⊢;split at h
      ·cases h
      ·dsimp only at h ⊢;split at h
       ·exact zmd h
       ·cases h
     ·rw[Ii F]at h;cases h
  ·cases h
 |makeSlice t l c =>
  simp only[N5,l9]at h ⊢;split at h
  ·split at h
   ·cases h
   ·split at h
    ·cases h
    ·split at h
     ·rename_i i hi R O F;simp only[Ij F];simp only[Ss]at h ⊢;cases B:(Nk l).run L with
      |none=>rw[B]at h;cases h
      |some a =>
       rw[B]at h;cases E:(Nk c).run L with
       |none=>rw[E]at h;cases h
       |some b =>
        rw[E]at h;dsimp only at h ⊢;split at h
        ·rename_i n m;cases I:Nat.ble n m with
         |false=>rw[I]at h;cases h
         |true =>
          rw[I]at h;cases K:Nat.ble m 1048576 with
          |false=>rw[K]at h;cases h
          |true=>rw[K]at h;exact zmd h
        ·cases h
     ·cases h
  ·cases h
 |makeMap t r =>
  have M:∀{v:AV} {X:Heap},W0 C=.val v X→∃z,X=C.push z∧Nv v=some C.next∧∀j,W0 j=.val (P9 j.next v) (j.push z):=λh=>by
   unfold W0 at h;cases h;exact⟨_,rfl,rfl,λj=>rfl⟩
  simp only[N5,n5]at h ⊢;split at h
  ·exact M h
  ·rename_i x;split at h
   ·simp only[Pq]at h ⊢;cases A:(Nk x).run L with
    |none=>rw[A]at h;cases h
    |some a =>
     rw[A]at h;dsimp only at h ⊢;split at h
     ·exact M h
     ·cases h
   ·cases h
 |_ =>
  exfalso;simp only[cls]at g
  first
   |(cases g;done)
   |(split at g<;>first|(cases g;done)|(split at g<;>cases g))
   |(simp only[xk]at g;split at g<;>first|(cases g;done)|(split at g<;>first|(cases g;done)|(split at g<;>cases g)))
end al
section draw
variable {P : Program} {n : Nat} {ops : Array Oper}
def T2(P:Program)(ops:Array Oper)(x:DOp)(j:Tr AV)(A:Heap):Prop:=match x.c with
 |.rd=>(R4 ops x.o).run j=true→∃d v,x.o.dst=some d∧M8 (Nh d) j=some v∧(N5 P x.o.op).run j A=.val v A
 |.al=>(R4 ops x.o).run j=true→∃d v id z,x.o.dst=some d∧M8 (Nh d) j=some v∧Nv v=some id∧A.get id=some z∧∀g,(N5 P x.o.op).run j g=.val (P9 g.next v) (g.push z)
 |_=>True
def z94{x:DOp}(h:T2 P ops x L C)(j:x.c=.rd∨x.c=.al)(hd:rz ops x=true):(Xd P ops x).run L C=true:=by
 unfold Xd;cases g:x.o.dst with
 |none=>unfold rz at hd;rw[g]at hd;cases hd
 |some d =>
  dsimp only;cases E:(R4 ops x.o).run L with
  |false=>rfl
  |true =>
   dsimp only;unfold T2 at h;rcases j with j|j
   ·rw[j]at h;obtain⟨F,v,z,B,A⟩:=h E;rw[g]at z;cases z;rw[B,A,j];dsimp only;unfold V7;split
    ·rfl
    ·exact @J4 _ (Classical.propDecidable _) rfl
   ·rw[j]at h;obtain⟨F,v,id,M,z,B,A,H,I⟩:=h E;rw[g]at z;cases z;rw[B,I C,j];dsimp only;unfold zv8;rw[A];dsimp only;have K:V7 (Q1 30 v (P9 id (P9 C.next v))) v (P9 id (P9 C.next v))=true:=by
     unfold V7;split
     ·rfl
     ·exact @J4 _ (Classical.propDecidable _) (zwd A).symm
    rw[K,H,Heap.get_push_same];dsimp only;unfold V7;split
    ·rfl
    ·exact @J4 _ (Classical.propDecidable _) rfl
def zdr{t:Nat}:∀{l:List Nat},Ut t l=false→t ∉ l
 |[],_=>N
 |a::l,h=>by
  simp only[Ut]at h;cases g:Nat.beq t a with
  |true=>rw[g]at h;cases h
  |false =>
   rw[g]at h;intro hm;rcases Ik.1 hm with rfl|hm
   ·rw[I3]at g;cases g
   ·exact zdr h hm
def X5{x:DOp}{d:Option Nat}(h:V5 ops d x=true)(v:AV)(g:Tr AV):Ro (Ts ops x.o) (O0 d v g) g∧∀e,x.o.dst=some e→M8 (Nh e) (O0 d v g)=M8 (Nh e) g:=by
 cases d with
 |none=>exact⟨λt _ _=>rfl,λe _=>rfl⟩
 |some d =>
  unfold V5 at h;dsimp only at h;cases hm:Ut d (Ts ops x.o) with
  |true=>rw[hm]at h;cases h
  |false =>
   rw[hm]at h;dsimp only at h;refine⟨λt j _=>?_,λe z=>?_⟩
   ·show M8 (Nh t) (Oo v (Nh d) g)=_;rw[tb (λq=>zdr hm (by rw[←q];exact j))]
   ·rw[z]at h;dsimp only at h;show M8 (Nh e) (Oo v (Nh d) g)=_;rw[tb (λq=>by rw[q,I3]at h;cases h)]
def T2.put{x:DOp}{E:Tr AV}{H:Heap}(h:T2 P ops x E H){d:Option Nat}(ho:V5 ops d x=true)(v:AV):T2 P ops x (O0 d v E) H:=by
 obtain⟨h1,h2⟩:=X5 ho v E;have hg:=ow (o:=x.o) h1;have hc:∀H2,(N5 P x.o.op).run (O0 d v E) H2=(N5 P x.o.op).run E H2:=λH2=>z7c h1
 unfold T2 at h ⊢;cases hx:x.c with
 |rd =>
  rw[hx]at h;intro g;obtain⟨d',w,k1,k2,k3⟩:=h (by rw[←hg];exact g);exact⟨d',w,k1,by rw[h2 d' k1];exact k2,by rw[hc];exact k3⟩
 |al =>
  rw[hx]at h;intro g;obtain⟨d',w,id,ob,k1,k2,k3,k4,k5⟩:=h (by rw[←hg];exact g);exact⟨d',w,id,ob,k1,by rw[h2 d' k1];exact k2,k3,k4,λH2=>by rw[hc];exact k5 H2⟩
 |quiet=>trivial
 |ch=>trivial
def zun{x:DOp}{r:RI}(g:gf P n ops x.o=some r)(C:Tr AV):(R4 ops x.o).run C=Xr r.g C∧R9 P x.o.op=some r.o∧r.d=x.o.dst:=by
 unfold gf at g;split at g
 ·cases g
 ·split at g
  ·cases g
  ·rename_i ro j;split at g
   ·rename_i z;cases g;refine⟨?_,j,rfl⟩;unfold R4;rw[z];rfl
   ·rename_i E w z;split at g
    ·cases g
    ·rename_i t A;split at g
     ·rename_i B;cases g;refine⟨?_,j,rfl⟩;unfold R4;rw[z];dsimp only;rw[A];dsimp only;rw[Ij (In B)];rfl
     ·cases g
def T2.keep{x:DOp}{li:LI}(hr:gf P n ops x.o=some li.r)(gj:li.o.ok=true){c c1:Cx}{G G1:M4}{ρ:M7}{E:Tr AV}(hs:HSim c G)(hE:N0 c ρ E)(st:Step c G c1 G1)(gg:ckL ρ G G1 (li,T4 x))
  (h:T2 P ops x E c.H):T2 P ops x E c1.H:=by
 have gC:∀{p k:Nat} {a:AV} {o:Nat},oo G G1 p→c.hd[p]?=some (k,a)→Nv a=some o→c1.H.get o=c.H.get o:=by
  intro p k a o hk e1 e2;unfold oo at hk;split at hk
  ·rename_i a1 b1 g1 g2;exact (st.st p a1 b1 k a o g1 g2 e1 e2 hk.1 hk.2).2.1
  ·exact hk.elim
 obtain⟨g1,g2,g3⟩:=zun hr E;have gD:(R4 ops x.o).run E=true→qm ρ G G1 (li,T4 x):=by
  intro g;rw[g1]at g;unfold ckL at gg;dsimp only at gg;split at gg
  ·exact gg
  ·rename_i t w hg;split at gg
   ·rename_i b hb;refine gg ?_;have ht:=hE t;rw[hb]at ht;rw[show li.r.g=li.g from rfl,hg]at g;unfold Xr at g;dsimp only at g;cases hq:M8 (Nh t) E with
    |none=>rw[hq]at g;cases g
    |some a =>
     rw[hq]at g ht;cases ht;cases b<;>cases w<;>first|rfl|cases g
   ·exact gg
 unfold T2 at h ⊢;cases hx:x.c with
 |quiet=>trivial
 |ch=>trivial
 |rd =>
  rw[hx]at h;intro g;have hc:=gD g;obtain⟨d,v,k1,k2,k3⟩:=h g;refine⟨d,v,k1,k2,?_⟩;rw[zsh (zkx E) g2]at k3 ⊢;have gH:T4 x=false:=by unfold T4;rw[hx]
  unfold qm at hc;rw[gH]at hc;dsimp only at hc;have gG:∀{y:Lx},y.ok=true→∀m,(match y.ev ρ with
    |.ptr p _=>some (some p)
    |.dptr p k _=>(match G[p]? with
     |some (.dyn _ _ _ gB _)=>if k=gB then some (some p) else none
     |_=>none)
    |.cptr _ _=>some none
    |_=>(none:Option (Option Nat)))=some m→(∀p,m=some p→oo G G1 p)→∃o v i,y.r.ev (ρA E)=.ptr o v i∧c1.H.get o=c.H.get o:=by
   intro y hy m hm hk;have hv:=Ol hE hy;generalize y.ev ρ=w at hm hv;generalize y.r.ev (ρA E)=b at hv ⊢;split at hm
   ·rename_i p i;cases hm;cases hv with
    |ptr e=>exact⟨_,_,_,rfl,gC (hk p rfl) e rfl⟩
   ·rename_i p k i;split at hm
    ·rename_i l len gE gB stp hg;by_cases gF:k=gB
     ·rw[Ij gF]at hm;cases hm;cases hv with
      | @dptr _ _ _ k' o v gT hh e gK ha =>
       have:=(hs.obj p _ _ _ hg e).1;obtain⟨_,gQ,gR,room,rfl⟩:=ha J;exact⟨o,v,gT,rfl,gC (hk p rfl) e rfl⟩
     ·rw[Ii gF]at hm;cases hm
    ·cases hm
   ·cases hm;cases hv with
    |cptr hf hr hl=>exact⟨_,_,_,rfl,(st.le.fz _ hf).2⟩
   ·cases hm
  have fin:∀m,lh ρ G li.o=some m→(∀p,m=some p→oo G G1 p)→On P (ρA E) c1.H li.r.o=.val v c1.H:=by
   intro m hm hk;have j:On P (ρA E) c.H li.o.r=.val v c.H:=k3;show On P (ρA E) c1.H li.o.r=_;unfold lh at hm;split at hm
   ·rename_i y ho;rw[ho]at j gj ⊢;obtain⟨o,w,i,q1,q2⟩:=gG gj m hm hk;simp only[LOp.r,On]at j ⊢;rw[q1]at j ⊢;dsimp only at j ⊢;rw[ue q2];split at j
    ·cases j;rfl
    ·cases j
   ·rename_i nn y ho;rw[ho]at j gj ⊢;obtain⟨o,w,i,q1,q2⟩:=gG gj m hm hk;simp only[LOp.r,On]at j ⊢;rw[q1]at j ⊢;dsimp only at j ⊢;rw[ue q2];split at j
    ·cases j;rfl
    ·cases j
   ·rename_i y ho;rw[ho]at j gj ⊢;have hv:=Ol hE gj;simp only[LOp.r,On]at j ⊢;generalize y.ev ρ=w at hm hv;generalize y.r.ev (ρA E)=b at hv j ⊢;have done:(∀o v i len gE room,b=.sl o v i len gE room→c1.H.get o=c.H.get o)→(match b with
      |.nilSl=>OR.val (.str 0 0) c1.H
      |.sl o v i len 1 _=>match Pt c1.H o v i len with
       |some l=>match U1.bytesA l with
        |some n=>.val (.str len n) c1.H
        |none=>.no
       |none=>.no
      |_=>.no)=.val v c1.H:=by
     intro hh;split at j
     ·cases j;rfl
     ·rename_i o v2 i len room;have e:=hh o v2 i len 1 room rfl;show (match Pt c1.H o v2 i len with
       |some l=>match U1.bytesA l with
        |some n=>OR.val (.str len n) c1.H
        |none=>.no
       |none=>.no)=.val v c1.H
      rw[ue e];split at j
      ·rename_i gM;split at j
       ·rename_i hb;cases j;rw[gM];dsimp only;rw[hb]
       ·cases j
      ·cases j
     ·cases j
    split at hm
    ·cases hv;exact done (λ_ _ _ _ _ _ e=>Aq)
    ·cases hm;cases hv with
     |lst hf gS hlen hr hl=>exact done (λ_ _ _ _ _ _ e=>by cases e;exact (st.le.fz _ hf).2)
     |lstNil=>exact done (λ_ _ _ _ _ _ e=>Aq)
     |lstEmp=>exact done (λ_ _ _ _ _ _ e=>Aq)
    ·rename_i p k;split at hm
     ·rename_i l len gE gB stp hg;by_cases gF:k=gB
      ·rw[Ij gF]at hm;cases hm;cases hv with
       | @dy _ _ k' hh _ e gK ha gO =>
        have:=(hs.obj p _ _ _ hg e).1;have gI:=ha J;exact done (λo v i len gE room eb=>gC (hk p rfl) e (by rw[←gI,eb];rfl))
      ·rw[Ii gF]at hm;cases hm
     ·cases hm
    ·cases hm
   ·cases hm
  split at hc
  ·rename_i hm;exact fin none hm (λp e=>Aq)
  ·rename_i p hm;exact fin (some p) hm (λp' e=>by cases e;exact hc)
  ·exact hc.elim
 |al =>
  rw[hx]at h;intro g;have hc:=gD g;obtain⟨d,v,id,ob,k1,k2,k3,k4,k5⟩:=h g;refine⟨d,v,id,ob,k1,k2,k3,?_,k5⟩;have gH:T4 x=true:=by unfold T4;rw[hx]
  unfold qm at hc;rw[gH]at hc;dsimp only at hc;have hd:li.d=some d:=by rw[←k1];exact g3
  rw[hd]at hc;dsimp only at hc;have hv:=hE d;rw[k2]at hv;split at hc
  ·rename_i p i hl;rw[hl]at hv;cases hv with
   |ptr e=>cases k3;rw[gC hc e rfl];exact k4
  ·rename_i p k hl;rw[hl]at hv;obtain⟨gL,gP⟩:=hc;split at gL
   ·rename_i l len gE gB stp hg;cases hv with
    | @dy _ _ k' hh _ e gK ha gO =>
     have:=(hs.obj p _ _ _ hg e).1;have gI:v=hh:=ha J;rw[gC gP e (by rw[←gI];exact k3)];exact k4
   ·exact gL.elim
  ·exact hc.elim
def cks_mem:∀{g:List DOp} {B:List (LI×Bool)},yp P n ops g=some (rck B)→∀{ρ:M7} {G C:M4},U4 ρ G C B→∀x∈g,∃z,gf P n ops x.o=some z.r∧(z,T4 x)∈B∧ckL ρ G C (z,T4 x)
 |[],_,_,_,_,_,_,x,j=>by simp at j
 |y::g,[],h,_,_,_,_,x,j=>by
  simp only[yp]at h;split at h
  ·cases h
  ·split at h<;>cases h
 |y::g,(z,b)::B,h,ρ,G,C,k,x,j=>by
  simp only[yp]at h;split at h
  ·cases h
  ·rename_i r F;split at h
   ·cases h
   ·rename_i M A;simp only[rck,Option.some.injEq,List.cons.injEq,Prod.mk.injEq]at h;obtain⟨⟨rfl,rfl⟩,H⟩:=h;rw[H]at A;rcases Ik.1 j with rfl|j
    ·exact⟨z,F,N,k.1⟩
    ·obtain⟨E,I,K,L⟩:=cks_mem A k.2 x j;exact⟨E,I,Bs,L⟩
def zcv{g:Type}{f:g→Bool}:∀{l:List g} {x:g},x∈Ny f l→x∈l
 |[],_,h=>h
 |a::l,x,h=>by
  simp only[Ny]at h;split at h
  ·rcases Ik.1 h with rfl|h
   ·simp
   ·exact Jg _ (zcv h)
  ·exact Jg _ (zcv h)
def zg9{z:Type}{f:z→Bool}:∀{l:List z},Us f l=true→∀x∈l,f x=true
 |[],_,x,g=>by simp at g
 |a::l,h,x,g=>by
  simp only[Us]at h;split at h
  ·rename_i j;rcases Ik.1 g with rfl|g
   ·exact j
   ·exact zg9 h x g
  ·cases h
def zd4{j:Tr AV}{z:Heap}:∀{l:List DOp},(∀x∈l,(Xd P ops x).run j z=true)→(kz P ops l).run j z=true
 |[],_=>rfl
 |x::l,h=>by
  simp only[kz];rw[h x N];exact zd4 (λy g=>h y Ay)
structure Pend (P:Program) (n:Nat) (ops:Array Oper) (x:DOp):Prop where
 cls:x.c=.rd∨x.c=.al
 own:rz ops x=true
def drawGo_ok:∀{l z:List DOp} {g:List (LI×List (LI×Bool))} {c:Cx} {G:M4} {ρ:M7} {gD:Tr AV} {gM:M7→M4→Prop},pi P n ops l z=some (ml g)→(g.all λx=>x.1.o.ok&&x.2.all (·.1.o.ok))=true →
  HSim c G→N0 c ρ gD→(∀x∈z,Pend P n ops x∧T2 P ops x gD c.H)→Xc P g ρ G gM →
  ∃m X R T O,(T5 P n ops l z).run (Q6 P (OL P) m) gD c.H=.ok X R.H∧HSim R O∧Step c G R O∧N0 R T X∧gM T O
 |[],z,g,c,G,ρ,gD,gM,h,_,hs,hE,_,k=>by
  cases g with
  |nil=>exact⟨0,gD,c,ρ,G,rfl,hs,.refl c G,hE,k⟩
  |cons _ _=>cases h
 |x::l,z,g,c,G,ρ,gD,gM,h,I,hs,hE,hp,k=>by
  simp only[pi]at h;split at h
  ·cases h
  ·rename_i gI;rw[H9]at gI;obtain⟨gE,C⟩:=gI;split at h
   ·cases h
   ·rename_i r hr;have gC:∀{li:LI} {cs:List (LI×Bool)} {H:List (LI×List (LI×Bool))},r=li.r→g=(li,cs)::H →
      ∃m M K ρ1 Y v,(Qq P n ops x.o).run (Q6 P (OL P) m) gD c.H=.ok M K.H∧M=O0 x.o.dst v gD∧HSim K Y∧Step c G K Y∧N0 K ρ1 M∧U4 ρ G Y cs∧Xc P H ρ1 Y gM:=by
     intro li cs H e1 e2;subst e2;simp only[Kq,H9]at I;obtain⟨m,M,K,ρ1,Y,Z,q2,q3,q4,q5,q6⟩:=Yc hs hE I.1.1 (show Wq P li ρ G (λT O=>U4 ρ G O cs∧Xc P H T O gM) from k);rw[←e1,←zf4 hr]at Z;obtain⟨v,w1,_⟩:=z5k Z;exact⟨m,M,K,ρ1,Y,v,Z,w1,q2,q3,q4,q5,q6⟩
    have gF:∀{v:AV},∀y∈z,T2 P ops y gD c.H→T2 P ops y (O0 x.o.dst v gD) c.H:=λy B hv=>hv.put (zg9 gE y B) _
    have go:∀{pend':List DOp} {H:List (LI×List (LI×Bool))} {m:Nat} {M:Tr AV} {K:Cx} {ρ1:M7} {Y:M4},pi P n ops l pend'=some (ml H)→(H.all λx=>x.1.o.ok&&x.2.all (·.1.o.ok))=true→HSim K Y→Step c G K Y→N0 K ρ1 M →
      (∀y∈pend',Pend P n ops y∧T2 P ops y M K.H)→Xc P H ρ1 Y gM→(Qq P n ops x.o).run (Q6 P (OL P) m) gD c.H=.ok M K.H →
      ∃m' X R T O,(Qq P n ops x.o).run (Q6 P (OL P) m') gD c.H=.ok M K.H∧(T5 P n ops l pend').run (Q6 P (OL P) m') M K.H=.ok X R.H∧HSim R O∧Step c G R O∧N0 R T X∧gM T O:=by
     intro pend' H m M K ρ1 Y a1 a2 a3 a4 a5 a6 a7 a8;obtain⟨m2,X,R,T,O,b1,b2,b3,b4,b5⟩:=drawGo_ok a1 a2 a3 a5 a6 a7;exact⟨max m m2,X,R,T,O,yg (W7 (J7 m m2)) a8,xw (W7 (Ku m m2)) b1,b2,.trans hs a3 a4 b3,b4,b5⟩
    cases V:x.c with
    |quiet =>
     rw[V]at h;dsimp only at h;split at h
     ·cases h
     ·rename_i rs gg;cases g with
      |nil=>cases h
      |cons it H =>
       obtain⟨li,cs⟩:=it;simp only[ml,Option.some.injEq,List.cons.injEq,Prod.mk.injEq]at h;obtain⟨⟨h1,h2⟩,h3⟩:=h;obtain⟨m,M,K,ρ1,Y,v,Z,q2,q3,q4,q5,q6,q7⟩:=gC h1 rfl;simp only[Kq,H9]at I;have hH:K.H=c.H:=by
        have hc:cls P x.o.op=.quiet:=by
         rw[V]at C;cases E:cls P x.o.op<;>rw[E]at C<;>first|rfl|cases C
        exact z5q (xm.1 hc).reads Z
       obtain⟨m',X,R,T,O,b1,b2,b3,b4,b5,b6⟩:=go (pend':=z) D8 I.2 q3 q4 q5 (λy B=>⟨(hp y B).1,by rw[hH,q2];exact gF y B (hp y B).2⟩) q7 Z;refine⟨m',X,R,T,O,?_,b3,b4,b5,b6⟩;simp only[T5];rw[V];dsimp only;rw[b1];exact b2
    |rd =>
     rw[V]at h;dsimp only at h;split at h
     ·cases h
     ·rename_i j;split at h
      ·cases h
      ·rename_i rs gg;cases g with
       |nil=>cases h
       |cons it H =>
        obtain⟨li,cs⟩:=it;simp only[ml,Option.some.injEq,List.cons.injEq,Prod.mk.injEq]at h;obtain⟨⟨h1,h2⟩,h3⟩:=h;obtain⟨m,M,K,ρ1,Y,v,Z,q2,q3,q4,q5,q6,q7⟩:=gC h1 rfl;simp only[Kq,H9]at I;have hc:cls P x.o.op=.rd:=by
         rw[V]at C;cases E:cls P x.o.op<;>rw[E]at C<;>first|rfl|cases C
        have hH:K.H=c.H:=z5q (xm.2 hc) Z;have S:T2 P ops x M K.H:=by
         unfold T2;rw[V];intro gP;unfold rz at j;cases A:x.o.dst with
         |none=>rw[A]at j;cases j
         |some d =>
          rw[A]at j;have hm:Ut d (Ts ops x.o)=false:=B0
          have L:Ro (Ts ops x.o) M gD:=λt ht _=>by
           rw[q2,A];show M8 (Nh t) (Oo v (Nh d) gD)=_;rw[tb (λq=>zdr hm (by rw[←q];exact ht))]
          rw[ow L]at gP;refine⟨d,v,rfl,by rw[q2,A];exact dq _ _ _,?_⟩;rw[z7c L,hH];have E:=Z;unfold Qq at E;cases gj:Qs n x.o.dst with
          |none=>rw[gj]at E;cases E
          |some pf =>
           rw[gj]at E;dsimp only at E;rw[gP]at E;dsimp only at E;have gH:=(xm.2 hc) gD c.H;cases U:(N5 P x.o.op).run gD c.H with
           |no=>rw[U]at E;cases E
           |call t a=>rw[U]at gH;cases gH
           |val w H2 =>
            rw[U]at E gH;cases gH;injection E with e1 e2
            have:=congrArg (λgD=>M8 (Nh d) gD) e1;rw[q2,(z9w gj).1,A,dq,dq]at this;cases this;rfl
        obtain⟨m',X,R,T,O,b1,b2,b3,b4,b5,b6⟩:=go (pend':=x::z) D8 I.2 q3 q4 q5 (λy B=>by
         rcases Ik.1 B with rfl|B
         ·exact⟨⟨.inl V,j⟩,S⟩
         ·exact⟨(hp y B).1,by rw[hH,q2];exact gF y B (hp y B).2⟩) q7 Z
        refine⟨m',X,R,T,O,?_,b3,b4,b5,b6⟩;simp only[T5];rw[V];dsimp only;rw[b1];exact b2
    |al =>
     rw[V]at h;dsimp only at h;split at h
     ·cases h
     ·rename_i j;split at h
      ·cases h
      ·rename_i gO gG;split at h
       ·cases h
       ·rename_i rs gg;cases g with
        |nil=>cases h
        |cons it H =>
         obtain⟨li,cs⟩:=it;simp only[ml,Option.some.injEq,List.cons.injEq,Prod.mk.injEq]at h;obtain⟨⟨h1,h2⟩,h3⟩:=h;obtain⟨m,M,K,ρ1,Y,v,Z,q2,q3,q4,q5,q6,q7⟩:=gC h1 rfl;simp only[Kq,H9]at I;have hc:cls P x.o.op=.al:=by
          rw[V]at C;cases E:cls P x.o.op<;>rw[E]at C<;>first|rfl|cases C
         rw[h2]at gG;have F:∀y∈z,Pend P n ops y∧T2 P ops y M K.H:=λy B=>by
          obtain⟨gK,w1,w2,w3⟩:=cks_mem gG q6 y B;have gB:gK.o.ok=true:=I7.1 I.1.2 _ w2;refine⟨(hp y B).1,?_⟩;rw[q2];exact ((hp y B).2.keep w1 gB hs hE q4 w3).put (zg9 gE y B) _
         have S:T2 P ops x M K.H:=by
          unfold T2;rw[V];intro gP;unfold rz at j;cases A:x.o.dst with
          |none=>rw[A]at j;cases j
          |some d =>
           rw[A]at j;have hm:Ut d (Ts ops x.o)=false:=B0
           have L:Ro (Ts ops x.o) M gD:=λt ht _=>by
            rw[q2,A];show M8 (Nh t) (Oo v (Nh d) gD)=_;rw[tb (λq=>zdr hm (by rw[←q];exact ht))]
           rw[ow L]at gP;have E:=Z;unfold Qq at E;cases gj:Qs n x.o.dst with
           |none=>rw[gj]at E;cases E
           |some pf =>
            rw[gj]at E;dsimp only at E;rw[gP]at E;dsimp only at E;cases U:(N5 P x.o.op).run gD c.H with
            |no=>rw[U]at E;cases E
            |call t a =>
             exfalso;have:=zr4 (o:=x.o) hc gD c.H;rw[U]at this;exact this
            |val w H2 =>
             rw[U]at E;injection E with e1 e2
             have:=congrArg (λgD=>M8 (Nh d) gD) e1;rw[q2,(z9w gj).1,A,dq,dq]at this;cases this;obtain⟨ob,u1,u2,u3⟩:=qv hc U;refine⟨d,_,c.H.next,ob,rfl,by rw[q2,A];exact dq _ _ _,u2,?_,λH3=>by rw[z7c L];exact u3 H3⟩;rw[←e2,u1];exact Heap.get_push_same _ _
         obtain⟨m',X,R,T,O,b1,b2,b3,b4,b5,b6⟩:=go (pend':=x::z) D8 I.2 q3 q4 q5 (λy B=>by
          rcases Ik.1 B with rfl|B
          ·exact⟨⟨.inr V,j⟩,S⟩
          ·exact F y B) q7 Z
         refine⟨m',X,R,T,O,?_,b3,b4,b5,b6⟩;simp only[T5];rw[V];dsimp only;rw[b1];dsimp only;rw[zd4 (λy B=>by
          rcases Ik.1 B with rfl|B
          ·exact z94 S (.inr V) j
          ·exact z94 (F y B).2 (F y B).1.cls (F y B).1.own)]
         exact b2
    |ch =>
     rw[V]at h;dsimp only at h;split at h
     ·cases h
     ·rename_i gO gG;split at h
      ·cases h
      ·rename_i rs gg;cases g with
       |nil=>cases h
       |cons it H =>
        obtain⟨li,cs⟩:=it;simp only[ml,Option.some.injEq,List.cons.injEq,Prod.mk.injEq]at h;obtain⟨⟨h1,h2⟩,h3⟩:=h;obtain⟨m,M,K,ρ1,Y,v,Z,q2,q3,q4,q5,q6,q7⟩:=gC h1 rfl;simp only[Kq,H9]at I;rw[h2]at gG;have F:∀y∈Ny (λy=>!(Nat.testBit x.m y.i)) z,Pend P n ops y∧T2 P ops y M K.H:=λy B=>by
         have gL:=zcv B;obtain⟨gK,w1,w2,w3⟩:=cks_mem gG q6 y B;have gB:gK.o.ok=true:=I7.1 I.1.2 _ w2;refine⟨(hp y gL).1,?_⟩;rw[q2];exact ((hp y gL).2.keep w1 gB hs hE q4 w3).put (zg9 gE y gL) _
        obtain⟨m',X,R,T,O,b1,b2,b3,b4,b5,b6⟩:=go (pend':=Ny (λy=>!(Nat.testBit x.m y.i)) z) D8 I.2 q3 q4 q5 F q7 Z;refine⟨m',X,R,T,O,?_,b3,b4,b5,b6⟩;simp only[T5];rw[V];dsimp only;rw[b1];dsimp only;rw[zd4 (λy B=>z94 (F y B).2 (F y B).1.cls (F y B).1.own)];exact b2
end draw
section rule
variable {P : Program} {f n : Nat} {ro : Option Nat} {ρ : M7} {D : List Nat} {G : M4} {Q : Pm}
def t9{l:List (LI×List (LI×Bool))}(h:Xc P l ρ G λj z=>Q .normal j D z):W P f n (.draw l) ro ρ D G Q:=by
 intro A c Y C E F H I K L X;obtain⟨id,ops,rfl,g⟩:=Zt F;unfold zqb at g;dsimp only at g;split at g
 ·rename_i hd;obtain⟨m,M,O,j,z,R,S,B,T,U⟩:=drawGo_ok g H I K (λx V=>by simp at V) h;refine⟨m,.normal,M,C,O,j,D,z,?_,S,B,T,L.mono B.le,U⟩;simp only[Pl,sq];rw[hd];dsimp only;rw[R]
 ·cases g
end rule
end
end
section
mutual
def LV.dat:LV→Bool
 |.any=>true
 |.bool _ |.u _ |.b _ |.i _ |.int _ _ |.str _ |.nilPtr |.nilSl |.nilMap |.nilFn |.nilIf=>true
 |.cptr l _=>dats l
 |.lst l _ _=>dats l
 |.fn (.func _) l r=>dats l&&dats r
 |.iface _ v=>v.dat
 |.agg l=>dats l
 |.tup l=>dats l
 |_=>false
def dats:List LV→Bool
 |[]=>true
 |v::l=>v.dat&&dats l
end
mutual
def AR.dat{c c':Cx}(gg:∀o,c.Fz o→c'.Fz o∧c'.H.get o=c.H.get o)(v:LV)(a:AV)(hd:v.dat=true)(h:AR c v a):AR c' v a:=by
 cases v with
 |cptr l i =>
  simp only[LV.dat]at hd;cases h with
  |cptr hf hr hl=>exact .cptr (gg _ hf).1 (by rw[ue (gg _ hf).2];exact hr) (ARs.dat gg l _ hd hl)
 |lst l len gB =>
  simp only[LV.dat]at hd;cases h with
  |lst hf gj hlen hr hl=>exact .lst (gg _ hf).1 gj hlen (by rw[ue (gg _ hf).2];exact hr) (ARs.dat gg l _ hd hl)
  |lstNil=>exact .lstNil
  |lstEmp=>exact .lstEmp
 |fn f l r =>
  cases f with
  |func f =>
   simp only[LV.dat,H9]at hd;cases h with
   |fn hl hr=>exact .fn (ARs.dat gg l _ hd.1 hl) (ARs.dat gg r _ hd.2 hr)
  |_=>simp[LV.dat]at hd
 |iface t w =>
  simp only[LV.dat]at hd;cases h with
  |iface h=>exact .iface (AR.dat gg w _ hd h)
 |agg l =>
  simp only[LV.dat]at hd;cases h with
  |agg h=>exact .agg (ARs.dat gg l _ hd h)
 |tup l =>
  simp only[LV.dat]at hd;cases h with
  |tup h=>exact .tup (ARs.dat gg l _ hd h)
 |any=>exact .any a
 |_=>first|(simp only[LV.dat]at hd;cases hd;done)|(cases h;constructor)
termination_by SizeOf.sizeOf v
def ARs.dat{c c':Cx}(gg:∀o,c.Fz o→c'.Fz o∧c'.H.get o=c.H.get o)(l:List LV)(r:List AV)(hd:dats l=true)(h:ARs c l r):ARs c' l r:=by
 cases l with
 |nil=>cases h;exact .nil
 |cons v l =>
  simp only[dats,H9]at hd;cases h with
  |cons e es=>exact .cons (AR.dat gg v _ hd.1 e) (ARs.dat gg l _ hd.2 es)
termination_by SizeOf.sizeOf l
end
def dats_app:∀{l r:List LV},dats l=true→dats r=true→dats (l++r)=true
 |[],_,_,h=>h
 |v::l,r,h,k=>by
  simp only[dats,H9]at h;simp only[Jl,dats,H9];exact⟨h.1,dats_app h.2 k⟩
def dats_take:∀{l:List LV} (n:Nat),dats l=true→dats (l.take n)=true
 |_,0,_=>by simp[dats]
 |[],n+1,_=>by simp[dats]
 |v::l,n+1,h=>by
  simp only[dats,H9]at h;simp only[List.take_succ_cons,dats,H9];exact⟨h.1,dats_take n h.2⟩
def dats_drop:∀{l:List LV} (n:Nat),dats l=true→dats (l.drop n)=true
 |_,0,h=>h
 |[],n+1,_=>by simp[dats]
 |v::l,n+1,h=>by
  simp only[dats,H9]at h;simp only[Ln];exact dats_drop n h.2
def Un{g:Type}{f:g→LV}(h:∀a,(f a).dat=true):∀l:List g,dats (l.map f)=true
 |[]=>rfl
 |a::l=>by simp only[Kn,dats,H9];exact⟨h a,Un h l⟩
mutual
def bor(G:M4):LV→LV→Prop
 |.dy p k,d=>∃l len gg st,d=.lst l len gg∧G[p]?=some (.dyn l len gg k st)∧dats l=true
 |.vw p k lo len,d=>∃l gj gg st,d=.lst ((l.drop (lo*gg)).take (len*gg)) len gg∧G[p]?=some (.dyn l gj gg k st)∧lo*gg+len*gg≤l.length∧dats l=true
 |.nilSl,d=>d=.nilSl∨∃gg,d=.lst [] 0 gg
 |.agg l,d=>∃r,d=.agg r∧bors G l r
 |v,d=>d=v∧v.dat=true
def bors(G:M4):List LV→List LV→Prop
 |[],r=>r=[]
 |v::l,r=>∃d r',r=d::r'∧bor G v d∧bors G l r'
end
section calls
variable {P : Program} {c : Cx} {G : M4}
def fy{v d:LV}{a:AV}(g:d=v∧v.dat=true)(h:AR c v a):AR ⟨[],λo=>c.Fz o∨O9 c G o,c.H⟩ d a:=by
 obtain⟨rfl,hd⟩:=g;exact AR.dat (c':=⟨[],λo=>c.Fz o∨O9 c G o,c.H⟩) (λo j=>⟨Or.inl j,rfl⟩) d a hd h
mutual
def bor_ok(hs:HSim c G)(v d:LV)(a:AV)(hb:bor G v d)(h:AR c v a):AR ⟨[],λo=>c.Fz o∨O9 c G o,c.H⟩ d a:=by
 cases v with
 |dy p k =>
  simp only[bor]at hb;obtain⟨l,len,gg,st,rfl,hg,hd⟩:=hb;cases h with
  | @dy _ _ k' hh _ e hk ha _ =>
   have gD:=hs.obj p _ _ _ hg e;obtain⟨r0,r1,r2⟩:=gD;have gB:=ha J;rcases r2 with ⟨r2,r3⟩|⟨o,v,room,t,gC,l',r2,r3,r4,r5,r6,r7,r8⟩
   ·subst r3;have:l=[]:=Is Cw;subst this;rw[gB,r2];exact .lstNil
   ·have gK:l'.length=len*gg:=Cn
    have hr:=Tz (i:=0) (n:=len*gg) r3 r5 r4 J;rw[Jv,Io J]at hr;rw[gB,r2];exact .lst (.inr ⟨p,_,_,_,hg,rfl,e,by rw[r2];rfl⟩) (λr e=>(r7 r e).2) r1 hr (ARs.dat (c':=⟨[],λo=>c.Fz o∨O9 c G o,c.H⟩) (λo ho=>⟨Or.inl ho,rfl⟩) l l' hd r6)
 |vw p k lo len =>
  simp only[bor]at hb;obtain⟨l,gH,gg,st,rfl,hg,hle,hd⟩:=hb;cases h with
  | @vw _ _ _ _ k' hh _ e hk ha _ _ =>
   have gL:=(hs.obj p _ _ _ hg e).1;rcases ha J with ⟨r3,r4⟩|⟨o,v,gI,gj,room,gE,r3,r4,r9⟩
   ·subst r3;simp only[Kz,M1];rcases r4 with rfl|⟨rfl,_⟩
    ·exact .lstNil
    ·exact .lstEmp
   ·have e2:=e;rw[r3]at e2;obtain⟨_,q1,q2,q3,t,gC,l',q4,q5,q6,q7,_⟩:=Xq hs hg e2;subst q2 q3;have hr:=Tz (i:=lo*gj) (n:=len*gj) q4 q6 q5 J;rw[r4];refine .lst (.inr ⟨p,_,_,_,hg,rfl,e,by rw[r3];rfl⟩) r9 Ab hr ?_;exact ((ARs.dat (c':=⟨[],λo=>c.Fz o∨O9 c G o,c.H⟩) (λo ho=>⟨Or.inl ho,rfl⟩) l l' hd q7).drop _).take _
 |nilSl =>
  simp only[bor]at hb;cases h;rcases hb with rfl|⟨gg,rfl⟩
  ·exact .nilSl
  ·exact .lstNil
 |agg l =>
  simp only[bor]at hb;obtain⟨r,rfl,hb⟩:=hb;cases h with
  |agg h=>exact .agg (bors_ok hs l r _ hb h)
 |_=>exact fy (by simpa only[bor] using hb) h
termination_by SizeOf.sizeOf v
def bors_ok(hs:HSim c G)(l r:List LV)(as:List AV)(hb:bors G l r)(h:ARs c l as):ARs ⟨[],λo=>c.Fz o∨O9 c G o,c.H⟩ r as:=by
 cases l with
 |nil=>simp only[bors]at hb;subst hb;cases h;exact .nil
 |cons v l =>
  simp only[bors]at hb;obtain⟨d,r',rfl,gF,gG⟩:=hb;cases h with
  |cons e es=>exact .cons (bor_ok hs v d _ gF e) (bors_ok hs l r' _ gG es)
termination_by SizeOf.sizeOf l
end
mutual
def shV(n:Nat):LV→LV
 |.dy j k=>.dy (n+j) k
 |.agg l=>.agg (shVs n l)
 |.tup l=>.tup (shVs n l)
 |v=>v
def shVs(n:Nat):List LV→List LV
 |[]=>[]
 |v::l=>shV n v::shVs n l
end
mutual
def frV(j:M4):LV→LV
 |.dy gj _=>match j[gj]? with
  |some (.dyn l len gg _ _)=>.lst l len gg
  |_=>.any
 |.agg l=>.agg (frVs j l)
 |.tup l=>.tup (frVs j l)
 |v=>v
def frVs(j:M4):List LV→List LV
 |[]=>[]
 |v::l=>frV j v::frVs j l
end
mutual
def sh_AR{c0 c':Cx}{n m:Nat}(h:∀gg a,gg<m→AR c0 (.dy gg 0) a→AR c' (.dy (n+gg) 0) a)(v:LV)(a:AV)(j:v.sim m=true)(ha:AR c0 v a):AR c' (shV n v) a:=by
 cases v with
 |dy gg k =>
  simp only[LV.sim,H9,Ml,Il]at j;obtain⟨rfl,hj⟩:=j;exact h gg a hj ha
 |agg l =>
  simp only[LV.sim]at j;cases ha with
  |agg ha=>simp only[shV];exact .agg (sh_ARs h l _ j ha)
 |tup l =>
  simp only[LV.sim]at j;cases ha with
  |tup ha=>simp only[shV];exact .tup (sh_ARs h l _ j ha)
 |_=>first|(simp only[LV.sim]at j;cases j;done)|(simp only[shV];cases ha;constructor)
termination_by SizeOf.sizeOf v
def sh_ARs{c0 c':Cx}{n m:Nat}(h:∀gg a,gg<m→AR c0 (.dy gg 0) a→AR c' (.dy (n+gg) 0) a)(l:List LV)(r:List AV)(j:sims m l=true)(ha:ARs c0 l r):ARs c' (shVs n l) r:=by
 cases l with
 |nil=>cases ha;simp only[shVs];exact .nil
 |cons v l =>
  simp only[sims,H9]at j;cases ha with
  |cons e es=>simp only[shVs];exact .cons (sh_AR h v _ j.1 e) (sh_ARs h l _ j.2 es)
termination_by SizeOf.sizeOf l
end
mutual
def fr_AR{c0 c':Cx}{G0:M4}(h:∀gg a,gg<G0.length→AR c0 (.dy gg 0) a→AR c' (frV G0 (.dy gg 0)) a)(v:LV)(a:AV)(j:v.sim G0.length=true)(ha:AR c0 v a):AR c' (frV G0 v) a:=by
 cases v with
 |dy gg k =>
  simp only[LV.sim,H9,Ml,Il]at j;obtain⟨rfl,hj⟩:=j;exact h gg a hj ha
 |agg l =>
  simp only[LV.sim]at j;cases ha with
  |agg ha=>simp only[frV];exact .agg (fr_ARs h l _ j ha)
 |tup l =>
  simp only[LV.sim]at j;cases ha with
  |tup ha=>simp only[frV];exact .tup (fr_ARs h l _ j ha)
 |_=>first|(simp only[LV.sim]at j;cases j;done)|(simp only[frV];cases ha;constructor)
termination_by SizeOf.sizeOf v
def fr_ARs{c0 c':Cx}{G0:M4}(h:∀gg a,gg<G0.length→AR c0 (.dy gg 0) a→AR c' (frV G0 (.dy gg 0)) a)(l:List LV)(r:List AV)(j:sims G0.length l=true)(ha:ARs c0 l r):ARs c' (frVs G0 l) r:=by
 cases l with
 |nil=>cases ha;simp only[frVs];exact .nil
 |cons v l =>
  simp only[sims,H9]at j;cases ha with
  |cons e es=>simp only[frVs];exact .cons (fr_AR h v _ j.1 e) (fr_ARs h l _ j.2 es)
termination_by SizeOf.sizeOf l
end
def Nb{f:Nat}{gF:LV→M4→Prop}(hc:Np P f U K F)(hb:bors G D U)(k:gF (frV F K) G):Qa P (.fn f) D G gF:=by
 obtain⟨ht,Q,hG,R⟩:=hc;refine⟨ht,λc t1 C z S ha=>?_⟩;cases t1 with
 |yield o=>exact S.elim
 |fn gG =>
  obtain rfl:f=gG:=S;obtain⟨m,v1,H,I,q1,q2,q3,q4,q5,q6⟩:=R (λo=>c.Fz o∨O9 c G o) c.H C (λo g=>g.elim (z.fz o) (z.lt o)) (bors_ok z D U C hb ha);have T:CxLe c ⟨c.hd,λo=>c.Fz o∨O9 ⟨H,λo=>c.Fz o∨O9 c G o,I⟩ F o,I⟩:=⟨λp k h e=>⟨k,h,e,If _,λ_=>rfl,λ_=>rfl⟩,λo g=>⟨.inl g,q5 o (z.fz o g)⟩⟩;have j:∀o,O9 ⟨c.hd,λo=>c.Fz o∨O9 ⟨H,λo=>c.Fz o∨O9 c G o,I⟩ F o,I⟩ G o→O9 c G o:=λo ⟨p,A,k,h,E,B,V,X⟩=>⟨p,A,k,h,E,B,V,X⟩
  refine⟨m,v1,I,q1,⟨c.hd,λo=>c.Fz o∨O9 ⟨H,λo=>c.Fz o∨O9 c G o,I⟩ F o,I⟩,frV F K,G,rfl,?_,?_,?_,k⟩
  ·refine⟨z.len,λo g=>?_,λo g=>Ix (z.lt o (j o g)) q4,λo g Y=>?_,λp A k h E B=>?_,λp q A L k h k' h' o E B V X e5 e6 e7 e8=>z.excl p q A L k h k' h' o E B V X e5 e6 e7 e8⟩
   ·rcases g with g|g
    ·exact Ix (z.fz o g) q4
    ·exact q2.lt o g
   ·rcases Y with Y|Y
    ·exact z.sep o (j o g) Y
    ·have:=q6 o Y;have:=z.lt o (j o g);omega
   ·by_cases hl:A.live=true
    ·exact (z.obj p A k h E B).mono T (λo g=>q5 o (z.lt o ⟨p,A,k,h,E,hl,B,g⟩))
    ·cases A<;>first|exact absurd rfl hl|trivial
  ·refine⟨T,q4,λo g _=>q5 o g,λo g=>.inl (j o g),λo g=>g.elim .inl (λh=>.inr (.inr (q6 o h))),λp A L E B=>?_,λp A L k h o E B V X e5 e6=>?_⟩
   ·rw[E]at B;cases B;exact If _
   ·rw[E]at B;cases B;have hl:A.live=true:=by cases A<;>first|rfl|cases e5
    exact⟨rfl,q5 o (z.lt o ⟨p,A,k,h,E,hl,V,X⟩),rfl⟩
  ·refine fr_AR (λgD a hj h=>?_) K v1 Q q3;obtain⟨l,len,M,gg,gj⟩:=hG gD _ (Ib hj);have hg:F[gD]?=some (.dyn l len M 0 0):=by rw[Ib hj,gg]
   simp only[frV];rw[hg];dsimp only;cases h with
   | @dy _ _ k' hh _ e hk ha _ =>
    obtain⟨r0,r1,O⟩:=q2.obj gD _ _ _ hg e;have Z:=ha J;rcases O with ⟨O,r3⟩|⟨o,v,gB,t,gC,l',O,r3,r4,r5,r6,r7,r8⟩
    ·subst r3;have:l=[]:=Is Cw;subst this;rw[Z,O];exact .lstNil
    ·have gE:l'.length=len*M:=Cn
     have hr:=Tz (i:=0) (n:=len*M) r3 r5 r4 J;rw[Jv,Io J]at hr;rw[Z,O];exact .lst (.inr ⟨gD,_,_,_,hg,rfl,e,by rw[O];rfl⟩) (λr e=>(r7 r e).2) r1 hr (zef gj r6)
def ij{f:Nat}{gI:LV→M4→Prop}(hc:Np P f U K F)(hb:bors G D U)(k:gI (shV G.length K) (G++F)):Qa P (.fn f) D G gI:=by
 obtain⟨ht,Z,hG,gg⟩:=hc;refine⟨ht,λc t1 Q j gj ha=>?_⟩;cases t1 with
 |yield o=>exact gj.elim
 |fn gK =>
  obtain rfl:f=gK:=gj;obtain⟨m,v1,A,V,q1,X,q3,q4,q5,q6⟩:=gg (λo=>c.Fz o∨O9 c G o) c.H Q (λo E=>E.elim (j.fz o) (j.lt o)) (bors_ok j D U Q hb ha);have gB:∀(p k:Nat) (h:AV),c.hd[p]?=some (k,h)→(c.hd++A)[p]?=some (k,h):=λp k h e=>by
   rw[Ic (H7.1 e).1];exact e
  have gC:CxLe c ⟨c.hd++A,c.Fz,V⟩:=⟨λp k h e=>⟨k,h,gB p k h e,If _,λ_=>rfl,λ_=>rfl⟩,λo E=>⟨E,q5 o (j.fz o E)⟩⟩;have T:A.length=F.length:=X.len;have I:∀(p:Nat) (k:Nat) (h:AV) (g:LObj),(c.hd++A)[p]?=some (k,h)→(G++F)[p]?=some g→(c.hd[p]?=some (k,h)∧G[p]?=some g)∨(G.length≤p∧A[p-G.length]?=some (k,h)∧F[p-G.length]?=some g):=by
   intro p k h g B C;by_cases hp:p<G.length
   ·rw[Ic hp]at C;rw[Ic (by rw[j.len];exact hp)]at B;exact .inl ⟨B,C⟩
   ·rw[Iq J]at C;rw[Iq (by rw[j.len];omega),j.len]at B;exact .inr ⟨J,B,C⟩
  have H:∀(p k:Nat) (h:AV) (z:LObj) (o:Nat),A[p]?=some (k,h)→F[p]?=some z→z.live=true→Nv h=some o→O9 ⟨A,λo=>c.Fz o∨O9 c G o,V⟩ F o:=λp k h z o B C M R=>⟨p,z,k,h,C,M,B,R⟩
  have S:∀o,O9 ⟨c.hd++A,c.Fz,V⟩ (G++F) o→O9 c G o∨(c.H.next≤o∧o<V.next):=by
   rintro o ⟨p,g,k,h,B,C,M,R⟩;rcases I p k h g M B with ⟨q1,X⟩|⟨_,O,L⟩
   ·exact .inl ⟨p,g,k,h,X,C,q1,R⟩
   ·have:=H _ k h g o O L C R;exact .inr ⟨q6 o this,X.lt o this⟩
  refine⟨m,v1,V,q1,⟨c.hd++A,c.Fz,V⟩,shV G.length K,G++F,rfl,?_,?_,?_,k⟩
  ·refine⟨by simp[j.len,T],λo E=>Ix (j.fz o E) q4,λo E=>?_,λo E hf=>?_,λp z k h B C=>?_,λp q z g k h Y h' o B C M R e5 e6 e7 e8=>?_⟩
   ·rcases S o E with h|h
    ·exact Ix (j.lt o h) q4
    ·exact h.2
   ·rcases S o E with h|h
    ·exact j.sep o h hf
    ·have:=j.fz o hf;omega
   ·rcases I p k h z C B with ⟨O,L⟩|⟨_,O,L⟩
    ·by_cases hl:z.live=true
     ·exact (j.obj p z k h L O).mono gC (λo E=>q5 o (j.lt o ⟨p,z,k,h,L,hl,O,E⟩))
     ·cases z<;>first|exact absurd rfl hl|trivial
    ·obtain⟨l,len,gH,rfl,gF⟩:=hG _ _ L;obtain⟨s0,s1,s2⟩:=X.obj _ _ _ _ L O;refine⟨s0,s1,?_⟩;rcases s2 with s2|⟨o,v,gD,t,gE,l',s2,s3,s4,s5,s6,s7⟩
     ·exact .inl s2
     ·exact .inr ⟨o,v,gD,t,gE,l',s2,s3,s4,s5,zef gF s6,s7⟩
   ·rcases I p k h z e5 B with ⟨O,L⟩|⟨hp,O,L⟩<;>rcases I q Y h' g e6 C with ⟨r3,r4⟩|⟨hq,r3,r4⟩
    ·exact j.excl p q z g k h Y h' o L r4 M R O r3 e7 e8
    ·have:=j.lt o ⟨p,z,k,h,L,M,O,e7⟩;have:=q6 o (H _ _ _ _ o r3 r4 R e8);omega
    ·have:=j.lt o ⟨q,g,Y,h',r4,R,r3,e8⟩;have:=q6 o (H _ _ _ _ o O L M e7);omega
    ·have:=X.excl _ _ z g k h Y h' o L r4 M R O r3 e7 e8;omega
  ·refine⟨gC,q4,λo E _=>q5 o E,λo E=>(S o E).elim .inl (λh=>.inr h.1),λo E=>.inl E,λp z g B C=>?_,λp z g k h o B C M R e5 e6=>?_⟩
   ·rw[Ic (H7.1 B).1,B]at C;cases C;exact If _
   ·rw[Ic (H7.1 B).1,B]at C;cases C;have hl:z.live=true:=by cases z<;>first|rfl|cases e5
    exact⟨rfl,q5 o (j.lt o ⟨p,z,k,h,B,hl,M,R⟩),by rw[gB p k h M,M]⟩
  ·refine sh_AR (λgL a hj h=>?_) K v1 Z q3;cases h with
   | @dy _ _ Y hh _ e hk ha gG =>
    exact .dy (k':=Y) (h:=hh) (by dsimp only;rw[Iq (by rw[j.len];omega),j.len,Lq];exact e) hk ha gG
end calls
end
section
def zs5:List Nat→List LV→M7→M7
 |p::g,a::as,ρ=>zs5 g as ((p,a)::ρ)
 |_,_,ρ=>ρ
def zo5{c:Cx}{n:Nat}:∀{ps:List Nat} {g:List LV} {j:List AV} {ρ:M7} {B:Tr AV},ARs c g j→N0 c ρ B→ps.length=g.length→(∀p∈ps,p<n)→∃z,vm ps j n B=some z∧N0 c (zs5 ps g ρ) z
 |[],[],_,ρ,B,.nil,A,_,_=>⟨B,rfl,A⟩
 |[],_::_,_,_,_,_,_,h,_=>B1
 |_::_,[],_,_,_,_,_,h,_=>B1
 |p::ps,a::as,_,ρ,B,.cons e E,A,F,C=>by
  have H:Nat.blt p n=true:=by unfold Nat.blt;exact Ih (C p N)
  obtain⟨z,I,K⟩:=zo5 (n:=n) (ps:=ps) E (A.put e (some p)) (by simpa using F) (λq L=>C q Br);refine⟨z,?_,K⟩;simp only[vm];rw[H];exact I
section rules
variable {P : Program} {f n : Nat} {ρ : M7} {D : List Nat} {G : M4} {Q : Pm}
def HSim.le_push{c:Cx}(hs:HSim c G)(x:Nat×AV){H':Heap}(gg:∀o,o<c.H.next→H'.get o=c.H.get o):CxLe c ⟨c.hd++[x],c.Fz,H'⟩ :=
 ⟨λp k y e=>⟨k,y,by dsimp only;rw[Ic (H7.1 e).1];exact e,If _,λ_=>rfl,λ_=>rfl⟩,λo ho=>⟨ho,gg o (hs.fz o ho)⟩⟩
def zps{c:Cx}(F:HSim c G){p o:Nat}{s:LoopState}{z:Option Code}{E:M7}{A:Array Tmp}{B:Code}{d:Nat}(H:G[p]?=some (.loop s z g j E A vQ B d))(e:c.hd[p]?=some (0,.ptr o 0 0))(R:s≠.busy) :
  ∃I,zea o c.H=some (z,I.H)∧HSim I (G.set p (.loop .exhausted z g j E A vQ B d))∧Step c G I (G.set p (.loop .exhausted z g j E A vQ B d)):=by
 obtain⟨_,M,O,Z,K,S,T,U⟩:=F.obj p _ _ _ H e;injection K with K
 subst K;obtain⟨V,X,r3⟩:=F.upd (k':=0) (x':=.ptr o 0 0) (ob':=.loop .exhausted z g j E A vQ B d) (H':=c.H.put o (.loop .exhausted z g j Z A vQ B O)) H rfl e (If _) (λM _ L=>Heap.get_put_ne _ _ (λq=>L C5))
  (λM Y=>by cases Y;exact⟨.inl rfl,F.lt o ⟨p,_,_,_,H,rfl,e,rfl⟩⟩) (If _) (λ_=>rfl) (λ_=>rfl) (.inr ⟨rfl,If _⟩)
  (λC=>⟨rfl,o,O,Z,rfl,C.fix S rfl,Heap.get_put_same _ _ _,U.mono C⟩)
 refine⟨_,?_,V,X⟩;unfold zea;rw[T];cases s<;>first|rfl|exact absurd rfl R
def zx5(l:Nat)(ρ:M7)(D:List Nat)(Q:Pm)(z:M4):Prop:=match z[l]? with
 |some (.loop s g A B C j E F d)=>s≠.busy∧match g with
  |none=>Q .normal ρ D (z.set l (.loop .exhausted g A B C j E F d))
  |some c=>match lc c with
   |some x=>Q x ρ D (z.set l (.loop .exhausted g A B C j E F d))
   |none=>False
 |_=>False
def fg{gP:Lx}{a b:LC}{fn':Nat}{first cap:List LV}(hg:gP.ev ρ=.fn (.func fn') first cap)
  (h:∀(F H:Code) (g:Array Tmp),Nl P n F=some a.r→Nl P n H=some b.r→g.toList=Z →
   Qa P (.fn fn') (first++[.fn (.yield (G.length+1)) [] []]++cap) (G++[.defd true,.loop .ready none f n ρ g F H G.length]) λ_ G2=>zx5 (G.length+1) ρ (G.length::D) Q G2) :
  W P f n (.rangeF gP Z a b) none ρ D G Q:=by
 intro gM c S T U h1 h2 O h4 h5 h6;obtain⟨cg,g,F,H,rfl,V,gC,gD,gE⟩:=zxw h1;simp only[LC.ok,H9]at h2;have A:=h F H g gD gE V;have gF:U=none:=by cases U with
  |none=>rfl
  |some _=>exact h6.elim
 subst gF;have hv:=Ol h4 h2.1.1;have X:=S7 gC (zkx S);rw[hg]at hv;generalize gP.r.ev (ρA S)=gv at hv X;cases hv with
 | @fn _ _ _ z B hl hr =>
  obtain⟨R,s2,s3⟩:=O.push (H':=c.H.push (.defd true)) (x:=.ptr c.H.next 0 0) (ob:=.defd true) (K4 _) (λo Y=>Heap.get_push_ne _ _ Y) (λo e=>Eu) ⟨rfl,c.H.next,rfl,Heap.get_push_same _ _⟩;have gG:(c.hd++[(0,AV.ptr c.H.next 0 0)])[G.length]?=some (0,.ptr c.H.next 0 0):=by rw[←O.len];exact Ja
  generalize gg:(⟨c.hd++[(0,.ptr c.H.next 0 0)],c.Fz,c.H.push (.defd true)⟩:Cx)=j at R s2 s3;have e1:j.H=c.H.push (.defd true):=by rw[←gg]
  have e2:j.hd[G.length]?=some (0,.ptr c.H.next 0 0):=by rw[←gg];exact gG
  obtain⟨t1,t2,t3⟩:=R.push (H':=j.H.push (.loop .ready none f n S g F H c.H.next)) (x:=.ptr j.H.next 0 0) (ob:=.loop .ready none f n ρ g F H G.length) (K4 _) (λo Y=>Heap.get_push_ne _ _ Y) (λo e=>Eu)
   ⟨rfl,j.H.next,c.H.next,S,rfl,by rw[Ic (by rw[R.len];simp)];exact e2,Heap.get_push_same _ _,(h4.mono s3).mono (R.le_push _ (λo Y=>Heap.get_push_ne _ _ Y))⟩
  have gH:(j.hd++[(0,AV.ptr j.H.next 0 0)])[G.length+1]?=some (0,.ptr j.H.next 0 0):=by
   have:j.hd.length=G.length+1:=by rw[R.len];simp
   rw[←this];exact Ja
  generalize gj:(⟨j.hd++[(0,.ptr j.H.next 0 0)],j.Fz,j.H.push (.loop .ready none f n S g F H c.H.next)⟩:Cx)=c2 at t1 t2 t3;have e3:c2.H=j.H.push (.loop .ready none f n S g F H c.H.next):=by rw[←gj]
  have e4:c2.hd[G.length+1]?=some (0,.ptr j.H.next 0 0):=by rw[←gj];exact gH
  rw[I0]at t1 t2;have gB:j.H.next=c.H.next+1:=by rw[e1];rfl
  have K:CxLe c c2:=s3.trans t3;obtain⟨m,v1,H',u1,c3,v,G3,rfl,u3,u4,u5,I⟩:=A.2 c2 (.fn fn') (z++[.fn (.yield j.H.next) [] []]++B) t1 rfl
   (((hl.mono K).append (.cons (.yield e4) .nil)).append (hr.mono K))
  have e5:c3.hd[G.length+1]?=some (0,.ptr j.H.next 0 0):=u4.le.fix e4 rfl;have L:Step c G c3 G3:=(Step.trans O R s2 t2 |>.trans O t1) u4;unfold zx5 at I;split at I
  ·rename_i s C f' n' ρ' gO gQ gR d' gI;obtain⟨M,I⟩:=I;obtain⟨c4,w1,w2,w3⟩:=zps u3 gI e5 M;have E:CxLe c c4:=L.le.trans w3.le;have hD:DRs c4 (G.length::D) (c.H.next::T):=.cons (w3.le.fix (u4.le.fix (t3.fix e2 rfl) rfl) rfl) (h5.mono E);have run:∀x,(match C with|none=>some Ex.normal|some cd=>lc cd)=some x→(Pl P f n (.rangeFunc cg g F H)).run (Q6 P (OL P) m) m none S T c.H=.ok x S (c.H.next::T) c4.H:=by
    intro x hx;simp only[Pl];rw[X];dsimp only;unfold zbu;dsimp only;have gK:Xu P (.fn (.func fn') z B) [.fn (.yield (Nat.add c.H.next 1)) [] []]=.call (.fn fn') (z++[.fn (.yield j.H.next) [] []]++B):=by
     unfold Xu;dsimp only;rw[Ij A.1.1,gB]
    rw[gK];dsimp only;have gL:(c.H.push (.defd true)).push (.loop .ready none f n S g F H c.H.next)=c2.H:=by rw[e3,e1]
    rw[gL,u1];dsimp only;rw[show Nat.add c.H.next 1=j.H.next from gB.symm,w1];cases C with
    |none=>cases hx;rfl
    |some cd=>dsimp only at hx ⊢;rw[hx]
   cases C with
   |none=>exact⟨m,.normal,S,c.H.next::T,c4,ρ,G.length::D,_,run .normal rfl,w2,L.trans O u3 w3,h4.mono E,hD,I⟩
   |some cd =>
    dsimp only at I;split at I
    ·rename_i x hx;exact⟨m,x,S,c.H.next::T,c4,ρ,G.length::D,_,run x hx,w2,L.trans O u3 w3,h4.mono E,hD,I⟩
    ·exact I.elim
  ·exact I.elim
def zqr{p:Nat}{B:Array Tmp}{M:Code}{d:Nat}{a b:LC}{gH:LV→M4→Prop}(hg:G[p]?=some (.loop .ready none f n ρ B vQ M d))(gD:Nl P n vQ=some a.r)(gE:Nl P n M=some b.r)(gg:a.ok=true)(gj:b.ok=true)
  (gF:B.toList=Z) (gB:Z.length=U.length) (gG:∀q∈Z,q<n)
  (h:W P f n a (some p) (zs5 Z U ρ) [] G λx ρ2 D2 G2=>match x with
   |.normal=>D2=[]∧G2[p]?=some (.loop .ready none f n ρ B vQ M d)∧W P f n b (some p) ρ2 [] (G2.set p (.loop .busy none f n ρ B vQ M d)) λx _ D3 G3=>D3=[]∧match G3[p]? with
    |some (.loop _ _ E F ρ' g j z d')=>match x with
     |.normal=>gH (.bool true) (G3.set p (.loop .ready none E F ρ' g j z d'))
     |.ret=>gH (.bool false) (G3.set p (.loop .done (some .ret) E F ρ' g j z d'))
     |.exit id=>gH (.bool false) (G3.set p (.loop .done (some (.exit id)) E F ρ' g j z d'))
    |_=>False
   |_=>False):Qa P (.yield p) U G gH:=by
 refine⟨trivial,λc t1 O hs ht ha=>?_⟩;cases t1 with
 |fn gL=>exact ht.elim
 |yield o =>
  have e:c.hd[p]?=some (0,.ptr o 0 0):=ht;obtain⟨_,o',od,gM,H,q1,q2,q3⟩:=hs.obj p _ _ _ hg e;injection H with H
  subst H;obtain⟨E1,r1,r2⟩:=zo5 (n:=n) ha q3 gB gG;rw[←gF]at r1;obtain⟨m,x,E2,D2,c2,ρ2,gI,G2,s1,s2,s3,s4,s5,s6⟩:=h vQ c E1 [] (some o) gD gg hs r2 .nil e;cases x with
  |exit id=>exact s6.elim
  |ret=>exact s6.elim
  |normal =>
   obtain⟨rfl,R,s6⟩:=s6;cases s5;have e2:=s3.le.fix e rfl;obtain⟨_,o',S,Eo,H,t1,t2,t3⟩:=s2.obj p _ _ _ R e2;injection H with H
   subst H;obtain⟨v1,v2,v3⟩:=s2.upd (k':=0) (x':=.ptr o 0 0) (ob':=.loop .busy none f n ρ B vQ M d) (H':=c2.H.put o (.loop .busy none f n Eo B vQ M S)) R rfl e2 (If _) (λo' _ T=>Heap.get_put_ne _ _ (λq=>T C5))
    (λo' e'=>by cases e';exact⟨.inl rfl,s2.lt o ⟨p,_,_,_,R,rfl,e2,rfl⟩⟩) (If _) (λ_=>rfl) (λ_=>rfl) (.inr ⟨rfl,If _⟩)
    (λI=>⟨rfl,o,S,Eo,rfl,I.fix t1 rfl,Heap.get_put_same _ _ _,t3.mono I⟩)
   obtain⟨m3,x,E3,D3,V,ρ3,gK,G3,w1,w2,w3,w4,w5,rfl,w7⟩:=s6 M _ E2 [] (some o) gE gj v1 (s4.mono v3) .nil (v3.fix e2 rfl);cases w5;have e4:=w3.le.fix (v3.fix e2 rfl) rfl;have gC:x8 o c2.H=some (c2.H.put o (.loop .busy none f n Eo B vQ M S)):=by unfold x8;rw[t2]
   split at w7
   ·rename_i s' pd E F ρ' g j z d' X;obtain⟨_,o',C,Ee,H,x1,x2,x3⟩:=w2.obj p _ _ _ X e4;injection H with H
    subst H;have Y:∀(K:LoopState) (L:Option Code) (bv:Bool),yh o x V.H=.ok (.bool bv) (V.H.put o (.loop K L E F Ee g j z C))→gH (.bool bv) (G3.set p (.loop K L E F ρ' g j z d')) →
      ∃m v1 H',Q6 P (OL P) m (.yield o) O c.H=.ok v1 H'∧∃c' v G',c'.H=H'∧HSim c' G'∧Step c G c' G'∧AR c' v v1∧gH v G':=by
     intro K L bv A hk;obtain⟨y1,y2,y3⟩:=w2.upd (k':=0) (x':=.ptr o 0 0) (ob':=.loop K L E F ρ' g j z d') (H':=V.H.put o (.loop K L E F Ee g j z C)) X rfl e4 (If _) (λo' _ T=>Heap.get_put_ne _ _ (λq=>T C5))
      (λo' e'=>by cases e';exact⟨.inl rfl,w2.lt o ⟨p,_,_,_,X,rfl,e4,rfl⟩⟩) (If _) (λ_=>rfl) (λ_=>rfl) (.inr ⟨rfl,If _⟩)
      (λI=>⟨rfl,o,C,Ee,rfl,I.fix x1 rfl,Heap.get_put_same _ _ _,x3.mono I⟩)
     refine⟨max m m3+1,.bool bv,_,?_,_,.bool bv,_,rfl,y1,.trans hs w2 (.trans hs v1 (.trans hs s2 s3 v2) w3) y2,.bool bv,hk⟩;unfold Q6;dsimp only;rw[q2];dsimp only;rw[r1];dsimp only;rw[eo (W7 (J7 m m3)) (J7 m m3) _ s1];dsimp only;rw[gC];dsimp only;rw[eo (W7 (Ku m m3)) (Ku m m3) _ w1];exact A
    have A:∀y,yh o y V.H=match y with
      |.normal=>.ok (.bool true) (V.H.put o (.loop .ready none E F Ee g j z C))
      |.ret=>.ok (.bool false) (V.H.put o (.loop .done (some .ret) E F Ee g j z C))
      |.exit id=>.ok (.bool false) (V.H.put o (.loop .done (some (.exit id)) E F Ee g j z C)):=λy=>by
     unfold yh;rw[x2];cases y<;>rfl
    cases x with
    |normal=>exact Y _ _ _ (A .normal) w7
    |ret=>exact Y _ _ _ (A .ret) w7
    |exit id=>exact Y _ _ _ (A (.exit id)) w7
   ·exact w7.elim
end rules
end
section
noncomputable section
def wp(P:Program)(f n:Nat)(ro:Option Nat):LC→M7→List Nat→M4→Pm→Prop
 |.skip,ρ,D,G,Q=>Q .normal ρ D G
 |.ops l,ρ,D,G,Q=>Tf P l ρ G λρ' G'=>Q .normal ρ' D G'
 |.seq a b,ρ,D,G,Q=>wp P f n ro a ρ D G λx ρ' j G'=>match x with
  |.normal=>wp P f n ro b ρ' j G' Q
  |x=>Q x ρ' j G'
 |.cond x a b,ρ,D,G,Q=>xz (x.ev ρ) (wp P f n ro a ρ D G Q) (wp P f n ro b ρ D G Q)
 |.block id c,ρ,D,G,Q=>wp P f n ro c ρ D G λx ρ' j G'=>match x with
  |.exit i=>if i=id then Q .normal ρ' j G' else Q (.exit i) ρ' j G'
  |x=>Q x ρ' j G'
 |.draw l,ρ,D,G,Q=>Xc P l ρ G λρ' G'=>Q .normal ρ' D G'
 |.exit id,ρ,D,G,Q=>Q (.exit id) ρ D G
 |.scope c,ρ,D,G,Q=>wp P f n ro c ρ D G Q
 |.label,ρ,D,G,Q=>Q .normal ρ D G
 |.ret,ρ,D,G,Q=>Q .ret ρ D G
 |.stuck,_,_,_,_=>False
 |s,ρ,D,G,Q=>W P f n s ro ρ D G Q
def fe(P:Program)(f n:Nat)(ro:Option Nat)(b:LC)(Q:Pm):Pm:=λx ρ' j G'=>match x with
  |.normal=>wp P f n ro b ρ' j G' Q
  |x=>Q x ρ' j G'
def kh(id:Nat)(Q:Pm):Pm:=λx ρ' j G'=>match x with
  |.exit i=>if i=id then Q .normal ρ' j G' else Q (.exit i) ρ' j G'
  |x=>Q x ρ' j G'
def nxQ(Nx:M7→List Nat→M4→Prop)(Q:Pm):Pm:=λx ρ' j G'=>match x with
  |.normal=>Nx ρ' j G'
  |x=>Q x ρ' j G'
def vg(K:LV→M4→Prop)(G:M4):List LV→Prop:=λvs=>K (Uw vs) G
def ko(ρ:M7)(rs:List RRes)(K:LV→M4→Prop):M4→Prop:=λj=>Q5 ρ j rs (vg K j)
def tp (rs : List RRes) (K : LV → M4 → Prop) : Pm := fun x ρ D G' => match x with
   |.exit _=>False
   |_=>d9 D G' (ko ρ rs K)
def rk(Q:Pm)(D:List Nat):M7→M4→Prop:=λρ G=>Q .normal ρ D G
def zm(P:Program)(l:List LI)(K:M7→M4→Prop):M7→M4→Prop:=λρ' G'=>Tf P l ρ' G' K
def ie(ρ:M7)(d:Option Nat)(K:M7→M4→Prop):LV→M4→Prop:=λv G'=>K (R0 ρ d v) G'
def Ug(K:LV→M4→Prop)(G:M4):LV→Prop:=λv=>K v G
def drK(P:Program)(cs:List (LI×Bool))(l:List (LI×List (LI×Bool)))(ρ:M7)(G:M4)(K:M7→M4→Prop):M7→M4→Prop:=λρ' G'=>U4 ρ G G' cs∧Xc P l ρ' G' K
def tmpK(ρ:M7)(t:Nat)(K:List LV→Prop):List LV→Prop:=λvs=>K (lk ρ t::vs)
def vd(v:LV)(K:List LV→Prop):List LV→Prop:=λvs=>K (v::vs)
def cnK(ρ:M7)(G:M4)(l:List RRes)(K:List LV→Prop):List LV→Prop:=λcs=>Q5 ρ G l (vd (.agg cs) K)
def takM(o:Option LObj)(A:Prop):Prop:=match o with
 |some (.defd true)=>A
 |_=>False
def Su{P:Program}{f n:Nat}{ro:Option Nat}:∀(s:LC) {ρ:M7} {D:List Nat} {G:M4} {Q:Pm},wp P f n ro s ρ D G Q→W P f n s ro ρ D G Q
 |.skip,_,_,_,_,h=>sf h
 |.ops l,_,_,_,_,h=>W_ops h
 |.seq a b,_,_,_,_,h=>W_seq ((Su a h).post λx ρ D G k=>by
  cases x with
  |normal=>exact Su b k
  |exit i=>exact k
  |ret=>exact k)
 |.cond x a b,ρ,_,_,_,h=>by
  simp only[wp]at h;obtain⟨t,j,h⟩:=Yw h;exact tz j (λe=>Su a (h.1 e)) (λe=>Su b (h.2 e))
 |.block id c,_,_,_,_,h=>j3 (Su c h)
 |.exit id,_,_,_,_,h=>te h
 |.scope c,_,_,_,_,h=>i6 (Su c h)
 |.label,_,_,_,_,h=>iz h
 |.ret,_,_,_,_,h=>W_ret h
 |.stuck,_,_,_,_,h=>h.elim
 |.draw l,_,_,_,_,h=>t9 h
 |.loop c,_,_,_,_,h=>h
 |.rangeF g ps a b,_,_,_,_,h=>h
section rules
variable {P : Program}
def Nd{f:Nat}{s:LC}{n:Nat}{rs:List RRes}(C:Nf P f=some ⟨n,s.r,rs⟩)(j:s.ok=true){G:M4}{K:LV→M4→Prop}(E:U.length≤n)
  (h:wp P f n none s (dt U 0) [] G (tp rs K)):Qa P (.fn f) U G K :=
 zua C j E ((Su s h).post λx ρ D G' k=>by
  cases x with
  |normal=>exact⟨trivial,k⟩
  |exit i=>exact k.elim
  |ret=>exact⟨trivial,k⟩)
def Np.val{f:Nat}{args:List LV}{v0:LV}(j:v0.sim 0=true)(h:Qa P (.fn f) args [] λv _=>v=subV [] v0):Np P f args v0 [] :=
 .mk j (h.mono λv G e=>⟨[],e,rfl,trivial⟩) (λgg ob e=>B7)
def zx0{f n:Nat}{ro:Option Nat}{ρ:M7}{D:List Nat}{G:M4}{Q:Pm}{s:LC}(I:M7→List Nat→M4→Nat→Prop){N:Nat}(C:I ρ D G N)
  (h:∀N ρ D G,I ρ D G N→wp P f n ro s ρ D G (nxQ (λρ' E G'=>∃j,j<N∧I ρ' E G' j) Q)):W P f n (.loop s) ro ρ D G Q :=
 ct I C λN ρ D G k=>Su s (h N ρ D G k)
def Ns{f n:Nat}{ro:Option Nat}{ρ:M7}{D:List Nat}{G:M4}{Q:Pm}{s:LC}(I:M7→List Nat→M4→Nat→Prop){N:Nat}(E:I ρ D G N)
  (h:∀(N:Nat) (ρ:M7) (D:List Nat) (G:M4),I ρ D G N→∀Nx:M7→List Nat→M4→Prop,(∀(ρ':M7) (C:List Nat) (G':M4),(∃j,j<N∧I ρ' C G' j)→Nx ρ' C G')→wp P f n ro s ρ D G (nxQ Nx Q)):W P f n (.loop s) ro ρ D G Q :=
 ct I E λN ρ D G k=>Su s (h N ρ D G k (λρ' C G'=>∃j,j<N∧I ρ' C G' j) λ_ _ _ e=>e)
end rules
section congr
variable {P : Program} {ρ ρ' : M7} {G G' : M4} {x x' y y' : LV} {K : LV → M4 → Prop} {Kv : LV → Prop}
@[congr] theorem W_congr {f n:Nat} {s:LC} {ro:Option Nat} {D:List Nat} {Q:Pm} (j:ρ=ρ') (C:G=G'):W P f n s ro ρ D G Q=W P f n s ro ρ' D G' Q:=Cb
@[congr] theorem wp_congr {f n:Nat} {s:LC} {ro:Option Nat} {D:List Nat} {Q:Pm} (j:ρ=ρ') (C:G=G'):wp P f n ro s ρ D G Q=wp P f n ro s ρ' D G' Q:=Cb
@[congr] theorem mi {t:LTgt} {a:List LV} (j:a=U) (C:G=G'):Qa P t a G K=Qa P t U G' K:=Cb
@[congr] theorem tg {op:BinOp} {g:Bool} {t:TypeId} (j:x=x') (C:y=y'):Qt P op g t x y Kv=Qt P op g t x' y' Kv:=Cb
@[congr] theorem yn {op:UnOp} (j:x=x'):su op x Kv=su op x' Kv:=Fh
@[congr] theorem xq {k:IntKind} (j:x=x'):ai k x Kv=ai k x' Kv:=Fh
@[congr] theorem mh {n:Nat} {K:List LV→Prop} (j:G=G') (C:x=x'):Va G x n K=Va G' x' n K:=Cb
@[congr] theorem ou (j:G=G') (C:x=x'):Vn G x Kv=Vn G' x' Kv:=Cb
@[congr] theorem sb {l:List LV} {i:Nat} (C:l=U) (E:i=j):Oj l i Kv=Oj U j Kv:=by rw[C,E]
@[congr] theorem gh {r:List LV} {K:M4→Prop} (j:G=G') (C:x=x') (E:r=U):Uk G x r K=Uk G' x' U K:=Dm
@[congr] theorem q9 {n:Nat} {K:Nat→List LV→Prop} (j:G=G') (C:x=x'):R3 G n x K=R3 G' n x' K:=Cb
@[congr] theorem p9 {K:List LV→Prop} (j:G=G') (C:x=x'):U2 G x K=U2 G' x' K:=Cb
@[congr] theorem uo {K:Nat→Prop} (j:G=G') (C:x=x'):lenL G x K=lenL G' x' K:=Cb
@[congr] theorem um {size n n':Nat} {l:List LV} (j:G=G') (C:x=x') (E:n=n') (F:l=U):O2 G size x n l K=O2 G' size x' n' U K:=by rw[j,C,E,F]
@[congr] theorem wv {t:Bool} {A B:Prop} (h:t=O):Sr t A B=Sr O A B:=Fi
@[congr] theorem wr {A B:Prop} (h:x=x'):de x A B vG=de x' A B vG:=Fi
@[congr] theorem xh {A B:Prop} (h:x=x'):xz x A B=xz x' A B:=Fi
end congr
def zox{t:Bool}{A B:Prop}:xz (.bool t) A B=Sr t A B:=(rfl)
def zsb{t:Bool}{A B:Prop}:de (.bool t) A B vG=Sr t A B:=(rfl)
def zw0{A B:Prop}:de (.tup []) A B vG=vG:=(rfl)
def zko{A B:Prop}:Sr true A B=A:=by simp[Sr]
def zgt{A B:Prop}:Sr false A B=B:=by simp[Sr]
def jf{p:Prop}[Decidable p]{A B:Prop}:Sr (decide p) A B=((p→A)∧(¬p→B)):=by simp[Sr]
def zy4{b:Bool}{A B:Prop}:Sr (!b) A B=Sr b B A:=by cases b<;>simp[Sr]
def zmr(v:LV)(l:List LV)(K:LV→Prop):Oj (v::l) 0 K=K v:=by simp[Oj]
def zm6(v:LV)(l:List LV)(i:Nat)(K:LV→Prop):Oj (v::l) (i+1) K=Oj l i K:=by simp[Oj]
def zly(f:v8→LV)(d:v8)(l:List v8)(i:Nat)(K:LV→Prop):Oj (l.map f) i K=(i<l.length∧K (f (l.getD i d))):=by
 unfold Oj;by_cases h:i<l.length
 ·simp[h]
 ·simp[h]
def Y5(l:List UInt64)(i:Nat)(K:LV→Prop):Oj (l.map .u) i K=(i<l.length∧K (.u (l.getD i 0))):=zly _ _ _ _ _
def Yf(l:List UInt8)(i:Nat)(K:LV→Prop):Oj (l.map .b) i K=(i<l.length∧K (.b (l.getD i 0))):=zly _ _ _ _ _
def zn9(l:List LV)(m i:Nat)(K:LV→Prop):Oj (l.take m) i K=(i<m∧Oj l i K):=by
 unfold Oj;by_cases h:i<m
 ·simp[h,I4 h]
 ·simp[h,List.getElem?_take]
def W9(o:Option LObj)(K:List LV→Nat→Prop):Prop:=match o with
 |some (.cells l st)=>K l st
 |_=>False
def Pz(o:Option LObj)(K:List LV→Nat→Nat→Nat→Nat→Prop):Prop:=match o with
 |some (.dyn l len esz j st)=>K l len esz j st
 |_=>False
def sh(o:Option (List LV))(K:List LV→Prop):Prop:=match o with
 |some l=>K l
 |none=>False
def ju(c a b:LV)(K:LV→Prop):Prop:=match c with
 |.bool t=>match a,b with
  |.bool x,.bool y=>K (.bool (match t with|true=>x|false=>y))
  |x,y=>Sr t (K x) (K y)
 |_=>False
def jn(x:LV)(K:LV→Prop):Prop:=match x with
 |.ptr p i=>K (.ptr p i)
 |.dptr p k i=>K (.dptr p k i)
 |.cptr l i=>K (.cptr l i)
 |.fn (.func f) a b=>K (.fn (.func f) a b)
 |_=>False
def W4(x:LV)(K:List UInt8→Prop):Prop:=match x with
 |.str l=>K l
 |_=>False
def zy8(x y:LV)(K:Nat→Prop):Prop:=match x,y with
 |.i l,.i c=>l=c∧0≤l∧l≤1048576∧K l.toNat
 |_,_=>False
def Yt(x:LV)(K:Nat→Prop):Prop:=match x with
 |.i n=>0≤n∧K n.toNat
 |.u n=>K n.toNat
 |_=>False
def Zq(G:M4)(size:Nat)(x:LV)(lo:(Nat→Prop)→Prop)(hi:Nat→(Nat→Prop)→Prop)(K:LV→Prop):Prop:=match x with
 |.nilSl=>lo λa=>hi 0 λb=>a=0∧b=0∧K .nilSl
 |.dy p k=>Pz G[p]? λ_ len esz j _=>k=j∧esz=size∧lo λa=>hi len λb=>a≤b∧b≤len∧K (.vw p k a (b-a))
 |.vw p k C len=>Pz G[p]? λ_ _ esz j _=>k=j∧esz=size∧lo λa=>hi len λb=>a≤b∧b≤len∧K (.vw p k (C+a) (b-a))
 |.lst l len esz=>esz=size∧lo λa=>hi len λb=>a≤b∧b≤len∧K (.lst ((l.drop (a*esz)).take ((b-a)*esz)) (b-a) esz)
 |_=>False
def Z3(G:M4)(size:Nat)(x:LV)(lo:(Nat→Prop)→Prop)(hi:Nat→(Nat→Prop)→Prop)(C:(Nat→Prop)→Prop)(K:LV→Prop):Prop:=match x with
 |.dy p k=>Pz G[p]? λ_ len esz j _=>k=j∧esz=size∧lo λa=>hi len λb=>C λm=>0<len∧a≤b∧b≤m∧m≤len∧K (i1 p k a b m)
 |.lst l len esz=>esz=size∧lo λa=>hi len λb=>C λm=>0<len∧a≤b∧b≤m∧m≤len∧K (.lst ((l.drop (a*esz)).take ((b-a)*esz)) (b-a) esz)
 |_=>False
def Uq(off:Nat)(x:LV)(K:LV→Prop):Prop:=match x with
 |.ptr p i=>K (.ptr p (i+off))
 |.dptr p k i=>K (.dptr p k (i+off))
 |.cptr l i=>K (.cptr l (i+off))
 |_=>False
def fh(g:Bool)(n off:Nat)(x:LV)(K:LV→Prop):Prop:=match x with
 |.agg l=>match g with
  |true=>off+n≤l.length∧K (.agg ((l.drop off).take n))
  |false=>Oj l off K
 |_=>False
def Wh(G:M4)(size:Nat)(x:LV)(n:Int)(K:LV→Prop):Prop:=match x with
 |.dy p k=>Pz G[p]? λ_ len esz j _=>k=j∧esz=size∧0≤n∧n<len∧K (.dptr p k (n.toNat*size))
 |.vw p k lo len=>Pz G[p]? λ_ _ esz j _=>k=j∧esz=size∧0≤n∧n<len∧K (.dptr p k ((lo+n.toNat)*size))
 |.lst l len esz=>esz=size∧0≤n∧n<len∧K (.cptr l (n.toNat*size))
 |_=>False
def ixL(G:M4)(size:Nat)(x i:LV)(K:LV→Prop):Prop:=match i with
 |.i n=>Wh G size x n K
 |.u n=>Wh G size x (n.toNat:Int) K
 |_=>False
def ks(x i:LV)(K:LV→Prop):Prop:=match x,i with
 |.str l,.i n=>0≤n∧n<l.length∧K (.b (l.getD n.toNat 0))
 |.str l,.u n=>n.toNat<l.length∧K (.b (l.getD n.toNat 0))
 |.str l,.b n=>n.toNat<l.length∧K (.b (l.getD n.toNat 0))
 |_,_=>False
def jb(i:Nat)(x:LV)(K:LV→Prop):Prop:=match x with
 |.tup l=>Oj l i K
 |_=>False
def cp(j:Bool)(x y:LV)(K:LV→Prop):Prop:=match x,y with
 |.i a,.i b=>K (.i (match j with|true=>max a b|false=>min a b))
 |.u a,.u b=>K (.u (match j with|true=>if a<b then b else a|false=>if b<a then b else a))
 |_,_=>False
def ii(x:LV)(K:Nat→Prop):Prop:=match x with
 |.i n=>0≤n∧n≤1048576∧K n.toNat
 |_=>False
def xu(G:M4)(size:Nat)(d:LV)(n:Nat)(l:List LV)(K:LV→M4→Prop):Prop:=match d with
 |.dy p k=>Pz G[p]? λr len esz j st=>k=j∧esz=size∧K (.i (min n len:Nat)) (G.set p (.dyn (Nu r 0 (l.take (min n len*size))) len esz j (st+1)))
 |.vw p k lo len=>Pz G[p]? λr C esz j st=>k=j∧esz=size∧(lo+len)*size≤r.length∧K (.i (min n len:Nat)) (G.set p (.dyn (Nu r (lo*size) (l.take (min n len*size))) C esz j (st+1)))
 |_=>False
def zmg(G:M4)(size:Nat)(z:List LV)(x:LV)(K:M4→Prop):Prop:=match x with
 |.vw p k lo len=>Pz G[p]? λr j esz C st=>k=C∧esz=size∧z.length=size∧(lo+len)*size≤r.length∧K (G.set p (.dyn (Nu r (lo*size) (Ni z len)) j esz C (st+1)))
 |_=>False
def goL(P:Program)(f:LV)(j:List LV)(G:M4)(K:LV→M4→Prop):Prop:=match f with
 |.fn (.func g) a b=>Qa P (.fn g) (a++j++b) G K
 |.fn (.yield p) [] _=>Qa P (.yield p) j G K
 |_=>False
section byOps
variable {P : Program} {ρ : M7} {G : M4} {K : LV → M4 → Prop} {x y c a b s d i f : Lx} {l cs z : List LV} {ps : List (Nat × Nat × Lx)} {n size len off : Nat} {lo hi : Option Lx}
def OpL_move:Nq P ρ G (.move x) K=K (x.ev ρ) G:=(rfl)
def OpL_pick:Nq P ρ G (.pick c a b) K=ju (c.ev ρ) (a.ev ρ) (b.ev ρ) (Ug K G):=(rfl)
def OpL_alloc:Nq P ρ G (.alloc l) K=K (.ptr G.length 0) (G++[.cells l 0]):=(rfl)
def OpL_box:Nq P ρ G (.box x) K=sh (x.ev ρ).cells λl=>K (.ptr G.length 0) (G++[.cells l 0]):=(rfl)
def OpL_build:Nq P ρ G (.build cs ps) K=sh (fv ρ cs ps) λl=>K (.agg l) G:=(rfl)
def OpL_buildSl:Nq P ρ G (.buildSl size len cs ps) K=sh (fv ρ cs ps) λl=>l.length=len*size∧K (.dy G.length 0) (G++[.dyn l len size 0 0]):=(rfl)
def OpL_load1:Nq P ρ G (.load1 x) K=Vn G (x.ev ρ) (Ug K G):=(rfl)
def OpL_loadN:Nq P ρ G (.loadN n x) K=Va G (x.ev ρ) n λl=>K (.agg l) G:=(rfl)
def OpL_store:Nq P ρ G (.store n x y) K=sh (y.ev ρ).cells λl=>l.length=n∧Uk G (x.ev ρ) l λG'=>K (.tup []) G':=(rfl)
def OpL_nilChk:Nq P ρ G (.nilChk x) K=jn (x.ev ρ) (Ug K G):=(rfl)
def jo{op:BinOp}{g:Bool}{t:TypeId}:Nq P ρ G (.bin op g t x y) K=Qt P op g t (x.ev ρ) (y.ev ρ) (Ug K G):=(rfl)
def tk{op:UnOp}:Nq P ρ G (.un op x) K=su op (x.ev ρ) (Ug K G):=(rfl)
def zx3{k:IntKind}:Nq P ρ G (.cvInt k x) K=ai k (x.ev ρ) (Ug K G):=(rfl)
def OpL_cvStr:Nq P ρ G (.cvStr x) K=U2 G (x.ev ρ) λl=>∃j:List UInt8,l=j.map LV.b∧K (.str j) G:=(rfl)
def OpL_cvBytes:Nq P ρ G (.cvBytes x) K=W4 (x.ev ρ) λl=>K (.dy G.length 0) (G++[.dyn (l.map LV.b) l.length 1 0 0]):=(rfl)
def zu9{g:Nat}{j gs:List Lx}:Nq P ρ G (.mkFunc g j gs) K=K (.fn (.func g) (j.map (·.ev ρ)) (gs.map (·.ev ρ))) G:=(rfl)
def OpL_mkSl:Nq P ρ G (.mkSl size z a b) K=zy8 (a.ev ρ) (b.ev ρ) λn=>z.length=size∧K (.dy G.length 0) (G++[.dyn (Ni z n) n size 0 0]):=by
 simp only[Nq,zy8];cases a.ev ρ<;>cases b.ev ρ<;>rfl
def zy3{x:Lx}{d:Nat}{K:Nat→Prop}:Ok ρ d (some x) K=Yt (x.ev ρ) K:=(rfl)
def zw2{d:Nat}{K:Nat→Prop}:Ok ρ d none K=K d:=(rfl)
def OpL_slStr:Nq P ρ G (.slStr x lo hi) K=W4 (x.ev ρ) λl=>Ok ρ 0 lo λa=>Ok ρ l.length hi λb=>a≤b∧b≤l.length∧K (.str ((l.drop a).take (b-a))) G:=(rfl)
def OpL_slSl:Nq P ρ G (.slSl size x lo hi) K=Zq G size (x.ev ρ) (λk=>Ok ρ 0 lo k) (λd k=>Ok ρ d hi k) (Ug K G):=by
 simp only[Nq,Zq,Pz];cases x.ev ρ<;>try rfl
 all_goals (cases G[_]?<;>try rfl)
def OpL_slSl3:Nq P ρ G (.slSl3 size x lo hi y) K=Z3 G size (x.ev ρ) (λk=>Ok ρ 0 lo k) (λd k=>Ok ρ d hi k) (λk=>Ok ρ 0 (some y) k) (Ug K G):=by
 simp only[Nq,Z3,Pz];cases x.ev ρ<;>try rfl
 all_goals (cases G[_]?<;>try rfl)
def Vy(j:Bool)(x y z:LV)(K:LV→Prop):Prop:=match x with
 |.i a=>match y with
  |.i b=>match z with
   |.i d=>K (.i (match j with|true=>max (max a b) d|false=>min (min a b) d))
   |_=>False
  |_=>False
 |_=>False
def lw(len size:Nat)(x i:LV)(K:LV→Prop):Prop:=match i with
 |.i n=>0≤n∧n<len∧Uq (n.toNat*size) x K
 |_=>False
def gk(g:Bool)(len size:Nat)(x i:LV)(K:LV→Prop):Prop:=match i with
 |.i n=>0≤n∧n<len∧fh g size (n.toNat*size) x K
 |_=>False
def Yn{g:Bool}{x y z:Lx}:Nq P ρ G (.max3 g x y z) K=Vy g (x.ev ρ) (y.ev ρ) (z.ev ρ) (Ug K G):=(rfl)
def zlq{len size:Nat}{x i:Lx}:Nq P ρ G (.ixAddrArr len size x i) K=lw len size (x.ev ρ) (i.ev ρ) (Ug K G):=(rfl)
def zxp{g:Bool}{len size:Nat}{x i:Lx}:Nq P ρ G (.ixArr g len size x i) K=gk g len size (x.ev ρ) (i.ev ρ) (Ug K G):=(rfl)
def OpL_fieldAddr:Nq P ρ G (.fieldAddr off x) K=Uq off (x.ev ρ) (Ug K G):=(rfl)
def OpL_ixAddr:Nq P ρ G (.ixAddr size x i) K=ixL G size (x.ev ρ) (i.ev ρ) (Ug K G):=by
 simp only[Nq,ixL,Wh,ixO,Pz];cases i.ev ρ<;>try rfl
def OpL_ixStr:Nq P ρ G (.ixStr x i) K=ks (x.ev ρ) (i.ev ρ) (Ug K G):=(rfl)
def OpL_extract:Nq P ρ G (.extract n x) K=jb n (x.ev ρ) (Ug K G):=(rfl)
def OpL_lenStr:Nq P ρ G (.lenStr x) K=W4 (x.ev ρ) λl=>K (.i l.length) G:=(rfl)
def OpL_lenSl:Nq P ρ G (.lenSl x) K=lenL G (x.ev ρ) λn=>K (.i n) G:=(rfl)
def Zi{g:Bool}:Nq P ρ G (.maxi g x y) K=cp g (x.ev ρ) (y.ev ρ) (Ug K G):=(rfl)
def OpL_appZ:Nq P ρ G (.appZ size z s x) K=ii (x.ev ρ) λn=>z.length=size∧O2 G size (s.ev ρ) n (Ni z n) K:=(rfl)
def OpL_appG:Nq P ρ G (.appG size s x) K=R3 G size (x.ev ρ) λn l=>n≤1048576∧O2 G size (s.ev ρ) n l K:=(rfl)
def OpL_copy:Nq P ρ G (.copy size d x) K=R3 G size (x.ev ρ) λn l=>xu G size (d.ev ρ) n l K:=by
 simp only[Nq,xu,Pz]
 congr 1
def OpL_clear:Nq P ρ G (.clear size z x) K=zmg G size z (x.ev ρ) λG'=>K .any G':=by
 simp only[Nq,zmg,Pz]
 congr 1
def zye{j:List Lx}:Nq P ρ G (.callV f j) K=goL P (f.ev ρ) (j.map (·.ev ρ)) G K:=(rfl)
end byOps
section opened
variable {P : Program} {G : M4} {p k i n size lo len off esz : Nat} {l r new : List LV} {K : List LV → Prop} {K1 : LV → Prop} {KG : M4 → Prop} {KN : Nat → Prop} {KR : Nat → List LV → Prop} {KV : LV → M4 → Prop} {KS : List UInt8 → Prop} {lof mxf : (Nat → Prop) → Prop} {hif : Nat → (Nat → Prop) → Prop}
def zrf{l:List LV}{st:Nat}{K:List LV→Nat→Prop}:W9 (some (.cells l st)) K=K l st:=(rfl)
def ze3{l:List LV}{len esz st:Nat}{K:List LV→Nat→Nat→Nat→Nat→Prop}:Pz (some (.dyn l len esz j st)) K=K l len esz j st:=(rfl)
def cellsL_some:sh (some l) K=K l:=(rfl)
def zk7{a b:LV}:ju (.bool true) a b K1=K1 a:=by cases a<;>cases b<;>simp[ju,Sr]
def zh3{a b:LV}:ju (.bool false) a b K1=K1 b:=by cases a<;>cases b<;>simp[ju,Sr]
def zmz{t x:Bool}:ju (.bool t) (.bool x) (.bool false) K1=K1 (.bool (t&&x)):=by cases t<;>rfl
def zr3{t x:Bool}:ju (.bool t) (.bool true) (.bool x) K1=K1 (.bool (t || x)):=by cases t<;>rfl
def chkL_ptr:jn (.ptr p i) K1=K1 (.ptr p i):=(rfl)
def zs4{l:List UInt8}:W4 (.str l) KS=KS l:=(rfl)
def zw7{a b:Int}:zy8 (.i a) (.i b) KN=(a=b∧0≤a∧a≤1048576∧KN a.toNat):=(rfl)
def Yl{a:Int}:Yt (.i a) KN=(0≤a∧KN a.toNat):=(rfl)
def Z6{a:UInt64}:Yt (.u a) KN=KN a.toNat:=(rfl)
def slL_nil:Zq G size .nilSl lof hif K1=(lof λa=>hif 0 λb=>a=0∧b=0∧K1 .nilSl):=(rfl)
def slL_dy:Zq G size (.dy p k) lof hif K1=(Pz G[p]? λ_ len esz j _=>k=j∧esz=size∧lof λa=>hif len λb=>a≤b∧b≤len∧K1 (.vw p k a (b-a))):=(rfl)
def slL_vw:Zq G size (.vw p k lo len) lof hif K1=(Pz G[p]? λ_ _ esz j _=>k=j∧esz=size∧lof λa=>hif len λb=>a≤b∧b≤len∧K1 (.vw p k (lo+a) (b-a))):=(rfl)
def slL_lst:Zq G size (.lst l len esz) lof hif K1=(esz=size∧lof λa=>hif len λb=>a≤b∧b≤len∧K1 (.lst ((l.drop (a*esz)).take ((b-a)*esz)) (b-a) esz)):=(rfl)
def sl3L_dy:Z3 G size (.dy p k) lof hif mxf K1=(Pz G[p]? λ_ len esz j _=>k=j∧esz=size∧lof λa=>hif len λb=>mxf λm=>0<len∧a≤b∧b≤m∧m≤len∧K1 (i1 p k a b m)):=(rfl)
def offL_ptr:Uq off (.ptr p i) K1=K1 (.ptr p (i+off)):=(rfl)
def offL_dptr:Uq off (.dptr p k i) K1=K1 (.dptr p k (i+off)):=(rfl)
def offL_cptr:Uq off (.cptr l i) K1=K1 (.cptr l (i+off)):=(rfl)
def fldL_true:fh true n off (.agg l) K1=(off+n≤l.length∧K1 (.agg ((l.drop off).take n))):=(rfl)
def fldL_false:fh false n off (.agg l) K1=Oj l off K1:=(rfl)
def po{x:LV}{n:Int}:ixL G size x (.i n) K1=Wh G size x n K1:=(rfl)
def zoj{n:Int}:Wh G size (.dy p k) n K1=(Pz G[p]? λ_ len esz j _=>k=j∧esz=size∧0≤n∧n<len∧K1 (.dptr p k (n.toNat*size))):=(rfl)
def zqx{n:Int}:Wh G size (.vw p k lo len) n K1=(Pz G[p]? λ_ _ esz j _=>k=j∧esz=size∧0≤n∧n<len∧K1 (.dptr p k ((lo+n.toNat)*size))):=(rfl)
def zpb{n:Int}:Wh G size (.lst l len esz) n K1=(esz=size∧0≤n∧n<len∧K1 (.cptr l (n.toNat*size))):=(rfl)
def Yd{l:List UInt8}{n:Int}:ks (.str l) (.i n) K1=(0≤n∧n<l.length∧K1 (.b (l.getD n.toNat 0))):=(rfl)
def tupL_tup:jb i (.tup l) K1=Oj l i K1:=(rfl)
def zw5{a b d:Int}:Vy true (.i a) (.i b) (.i d) K1=K1 (.i (max (max a b) d)):=(rfl)
def Ze{len size:Nat}{x:LV}{n:Int}:lw len size x (.i n) K1=(0≤n∧n<len∧Uq (n.toNat*size) x K1):=(rfl)
def Zs{g:Bool}{len size:Nat}{x:LV}{n:Int}:gk g len size x (.i n) K1=(0≤n∧n<len∧fh g size (n.toNat*size) x K1):=(rfl)
def zux{a b:Int}:U3 .and a b K1=(0≤a∧a<9223372036854775808∧0≤b∧b<9223372036854775808∧K1 (.i (a.toNat &&& b.toNat:Nat))):=(rfl)
def zxa{a b:Int}:cp true (.i a) (.i b) K1=K1 (.i (max a b)):=(rfl)
def zwz{a b:Int}:cp false (.i a) (.i b) K1=K1 (.i (min a b)):=(rfl)
def Yg{n:Int}:ii (.i n) KN=(0≤n∧n≤1048576∧KN n.toNat):=(rfl)
def zrg{n:Nat}:xu G size (.dy p k) n l KV=(Pz G[p]? λr len esz j st=>k=j∧esz=size∧KV (.i (min n len:Nat)) (G.set p (.dyn (Nu r 0 (l.take (min n len*size))) len esz j (st+1)))):=(rfl)
def zrm{n:Nat}:xu G size (.vw p k lo len) n l KV=(Pz G[p]? λr j esz C st=>k=C∧esz=size∧(lo+len)*size≤r.length∧KV (.i (min n len:Nat)) (G.set p (.dyn (Nu r (lo*size) (l.take (min n len*size))) j esz C (st+1)))):=(rfl)
def zob{z:List LV}{KH:M4→Prop}:zmg G size z (.vw p k lo len) KH=(Pz G[p]? λr j esz C st=>k=C∧esz=size∧z.length=size∧(lo+len)*size≤r.length∧KH (G.set p (.dyn (Nu r (lo*size) (Ni z len)) j esz C (st+1)))):=(rfl)
def Xz{g:Nat}{a b:List LV}:goL P (.fn (.func g) a b) U G KV=Qa P (.fn g) (a++U++b) G KV:=(rfl)
def zo2{b:List LV}:goL P (.fn (.yield p) [] b) U G KV=Qa P (.yield p) U G KV:=(rfl)
def readL_ptr:Va G (.ptr p i) n K=W9 G[p]? λl _=>i+n≤l.length∧K ((l.drop i).take n):=by
 simp only[Va,W9];cases G[p]?<;>try rfl
def readL_dptr:Va G (.dptr p k i) n K=Pz G[p]? λl _ _ j _=>k=j∧i+n≤l.length∧K ((l.drop i).take n):=by
 simp only[Va,Pz];cases G[p]?<;>try rfl
def readL_cptr:Va G (.cptr l i) n K=(i+n≤l.length∧K ((l.drop i).take n)):=(rfl)
def read1_ptr:Vn G (.ptr p i) K1=W9 G[p]? λl _=>Oj l i K1:=by
 simp only[Vn,W9];cases G[p]?<;>try rfl
def read1_dptr:Vn G (.dptr p k i) K1=Pz G[p]? λl _ _ j _=>k=j∧Oj l i K1:=by
 simp only[Vn,Pz];cases G[p]?<;>try rfl
def read1_cptr:Vn G (.cptr l i) K1=Oj l i K1:=(rfl)
def writeL_ptr:Uk G (.ptr p i) r KG=W9 G[p]? λl st=>i+r.length≤l.length∧KG (G.set p (.cells (Nu l i r) (st+1))):=by
 simp only[Uk,W9];cases G[p]?<;>try rfl
def writeL_dptr:Uk G (.dptr p k i) r KG=Pz G[p]? λl len esz j st=>k=j∧i+r.length≤l.length∧KG (G.set p (.dyn (Nu l i r) len esz j (st+1))):=by
 simp only[Uk,Pz];cases G[p]?<;>try rfl
def rowL_dy:R3 G size (.dy p k) KR=Pz G[p]? λl len esz j _=>k=j∧esz=size∧KR len l:=by
 simp only[R3,Pz];cases G[p]?<;>try rfl
def rowL_vw:R3 G size (.vw p k lo len) KR=Pz G[p]? λl _ esz j _=>k=j∧esz=size∧lo*esz+len*esz≤l.length∧KR len ((l.drop (lo*esz)).take (len*esz)):=by
 simp only[R3,Pz];cases G[p]?<;>try rfl
def rowL_lst:R3 G size (.lst l len esz) KR=(esz=size∧KR len l):=(rfl)
def lenL_nil:lenL G .nilSl KN=KN 0:=(rfl)
def lenL_dy:lenL G (.dy p k) KN=Pz G[p]? λ_ len _ j _=>k=j∧KN len:=by
 simp only[lenL,Pz];cases G[p]?<;>try rfl
def lenL_vw:lenL G (.vw p k lo len) KN=Pz G[p]? λ_ _ _ j _=>k=j∧KN len:=by
 simp only[lenL,Pz];cases G[p]?<;>try rfl
def lenL_lst:lenL G (.lst l len esz) KN=KN len:=(rfl)
def appL_nil:O2 G size .nilSl n new KV=KV (.dy G.length 0) (G++[.dyn new n size 0 0]):=(rfl)
def appL_dy:O2 G size (.dy p k) n new KV=Pz G[p]? λl len esz j st=>k=j∧(esz=size∧0<esz)∧len≤1000000000∧KV (.dy p (j+1)) (G.set p (.dyn (l++new) (len+n) esz (j+1) (st+1))):=by
 simp only[O2,Pz];cases G[p]?<;>try rfl
def i3{a b m:Nat}(h:a=0∧b=m∧0<b):i1 p k a b m=.vf p k b:=by unfold i1;rw[J4 h]
def jx{a b m:Nat}(h:¬(a=0∧b=m∧0<b)):i1 p k a b m=.vw p k a (b-a):=by unfold i1;rw[Md h]
def appL_vw:O2 G size (.vw p k lo len) n new KV=Pz G[p]? λl C esz j st=>k=j∧(esz=size∧lo=0∧0<n)∧len≤1000000000∧if (len+n)*esz≤l.length then KV (.vw p k 0 (len+n)) (G.set p (.dyn (Nu l (len*esz) new) C esz j (st+1)))∧KV (.dy G.length 0) (G++[.dyn (l.take (len*esz)++new) (len+n) size 0 0]) else len=C∧0<esz∧KV (.dy p (j+1)) (G.set p (.dyn (l++new) (len+n) esz (j+1) (st+1)))∧KV (.dy G.length 0) (G++[.dyn (l++new) (len+n) size 0 0]):=by
 simp only[O2,Pz];cases G[p]?<;>try rfl
variable {op : BinOp} {g : Bool} {t : TypeId}
def zvx{a b:UInt64}:Qt P op g t (.u a) (.u b) K1=Vb op a b K1:=(rfl)
def zwv{a b:Int}:Qt P op g t (.i a) (.i b) K1=U3 op a b K1:=(rfl)
def zuy{a b:List UInt8}:Qt P op g t (.str a) (.str b) K1=zr op a b K1:=(rfl)
def zsi{a:UInt64}{s:Int}:Qt P .shl g t (.u a) (.i s) K1=(0≤s∧K1 (.u (S4 a s.toNat))):=(rfl)
def zr9{a:UInt64}{s:Int}:Qt P .shr g t (.u a) (.i s) K1=(0≤s∧K1 (.u (Py a s.toNat))):=(rfl)
def zmi{a:Int}{s:UInt64}:Qt P .shl g t (.i a) (.u s) K1=(0≤a∧s.toNat≤64∧Ry (a*2^s.toNat)∧K1 (.i (a*2^s.toNat))):=(rfl)
def zng{a:Int}{s:UInt64}:Qt P .shr g t (.i a) (.u s) K1=(0≤a∧s.toNat≤64∧K1 (.i (a/2^s.toNat))):=(rfl)
def zse{a b:Bool}:Qt P .eql g t (.bool a) (.bool b) K1=(Q9 P g t (.bool a) (.bool b)=some (a==b)∧K1 (.bool (a==b))):=(rfl)
def zrl{a b:Bool}:Qt P .neq g t (.bool a) (.bool b) K1=(Q9 P g t (.bool a) (.bool b)=some (a==b)∧K1 (.bool (!(a==b)))):=(rfl)
def zy2{b:Bool}:su .not (.bool b) K1=K1 (.bool (!b)):=(rfl)
def bu{a:Int}:ai .u64 (.i a) K1=K1 (.u (iU a)):=(rfl)
def X0{a:UInt8}:ai .u64 (.b a) K1=K1 (.u (bU a)):=(rfl)
def cz{a:UInt64}:ai .i64 (.u a) K1=(a.toNat<9223372036854775808∧K1 (.i a.toNat)):=(rfl)
def Zj{a:UInt64}:ai .u8 (.u a) K1=K1 (.b (uB a)):=(rfl)
def zqv{l:List LV}{len esz:Nat}:Qt P .eql g t (.lst l len esz) .nilSl K1=(Q9 P g t .nilSl .nilSl=some true∧K1 (.bool false)∧(len=0→K1 (.bool true))):=(rfl)
def zyj{op:BinOp}{g:Bool}{t:TypeId}{l r:List LV}:Qt P op g t (.agg l) (.agg r) K1=jl P op g t l r K1:=(rfl)
end opened
section code
variable {P : Program} {f n : Nat} {ro : Option Nat} {ρ ρ' : M7} {D : List Nat} {G G' : M4} {Q : Pm} {a b c : LC} {x : Lx} {id i t d : Nat} {l : List LI} {ds : List (LI × List (LI × Bool))} {cs : List (LI × Bool)} {K : M7 → M4 → Prop} {KV : LV → M4 → Prop} {KL : List LV → Prop} {KG : M4 → Prop} {Nx : M7 → List Nat → M4 → Prop} {rs : List RRes} {o : LOp} {od : Option Nat} {v w : LV} {vs : List LV} {it : LI}
def wp_skip:wp P f n ro .skip ρ D G Q=Q .normal ρ D G:=(rfl)
def wp_ops:wp P f n ro (.ops l) ρ D G Q=Tf P l ρ G (rk Q D):=(rfl)
def wp_seq:wp P f n ro (.seq a b) ρ D G Q=wp P f n ro a ρ D G (fe P f n ro b Q):=(rfl)
def wp_cond:wp P f n ro (.cond x a b) ρ D G Q=xz (x.ev ρ) (wp P f n ro a ρ D G Q) (wp P f n ro b ρ D G Q):=(rfl)
def wp_block:wp P f n ro (.block id c) ρ D G Q=wp P f n ro c ρ D G (kh id Q):=(rfl)
def wp_draw:wp P f n ro (.draw ds) ρ D G Q=Xc P ds ρ G (rk Q D):=(rfl)
def wp_exit:wp P f n ro (.exit id) ρ D G Q=Q (.exit id) ρ D G:=(rfl)
def wp_ret:wp P f n ro .ret ρ D G Q=Q .ret ρ D G:=(rfl)
def wp_loop:wp P f n ro (.loop c) ρ D G Q=W P f n (.loop c) ro ρ D G Q:=(rfl)
def zrn{ps:List Nat}:wp P f n ro (.rangeF x ps a b) ρ D G Q=W P f n (.rangeF x ps a b) ro ρ D G Q:=(rfl)
def seqQ_n:fe P f n ro b Q .normal ρ D G=wp P f n ro b ρ D G Q:=(rfl)
def seqQ_e:fe P f n ro b Q (.exit i) ρ D G=Q (.exit i) ρ D G:=(rfl)
def seqQ_r:fe P f n ro b Q .ret ρ D G=Q .ret ρ D G:=(rfl)
def blkQ_n:kh id Q .normal ρ D G=Q .normal ρ D G:=(rfl)
def blkQ_e:kh id Q (.exit i) ρ D G=if i=id then Q .normal ρ D G else Q (.exit i) ρ D G:=(rfl)
def blkQ_r:kh id Q .ret ρ D G=Q .ret ρ D G:=(rfl)
def nxQ_n:nxQ Nx Q .normal ρ D G=Nx ρ D G:=(rfl)
def nxQ_e:nxQ Nx Q (.exit i) ρ D G=Q (.exit i) ρ D G:=(rfl)
def nxQ_r:nxQ Nx Q .ret ρ D G=Q .ret ρ D G:=(rfl)
def endQ_n:tp rs KV .normal ρ D G=d9 D G (ko ρ rs KV):=(rfl)
def endQ_r:tp rs KV .ret ρ D G=d9 D G (ko ρ rs KV):=(rfl)
def norQ_app:rk Q D ρ G=Q .normal ρ D G:=(rfl)
def takeL_nil:d9 [] G KG=KG G:=(rfl)
def takeL_cons:d9 (d::D) G KG=takM G[d]? (d9 D (G.set d (.defd false)) KG):=(rfl)
def zn4{A:Prop}:takM (some (.defd true)) A=A:=(rfl)
def takK_app:ko ρ rs KV G=Q5 ρ G rs (vg KV G):=(rfl)
def endK_app:vg KV G vs=KV (Uw vs) G:=(rfl)
def resL_nil:Q5 ρ G [] KL=KL []:=(rfl)
def resL_tmp:Q5 ρ G (.tmp t::rs) KL=Q5 ρ G rs (tmpK ρ t KL):=(rfl)
def resL_cN:Q5 ρ G (.cellN t n::rs) KL=Va G (lk ρ t) n (cnK ρ G rs KL):=(rfl)
def tmpK_app:tmpK ρ t KL vs=KL (lk ρ t::vs):=(rfl)
def conK_app:vd v KL vs=KL (v::vs):=(rfl)
def cnK_app:cnK ρ G rs KL vs=Q5 ρ G rs (vd (.agg vs) KL):=(rfl)
def oneL_1:Uw [v]=v:=(rfl)
def oneL_0:Uw []=.tup []:=(rfl)
def oneL_2:Uw (v::w::vs)=.tup (v::w::vs):=(rfl)
def OpsL_nil:Tf P [] ρ G K=K ρ G:=(rfl)
def OpsL_cons:Tf P (it::l) ρ G K=Wq P it ρ G (zm P l K):=(rfl)
def opsK_app:zm P l K ρ G=Tf P l ρ G K:=(rfl)
def ItL_n:Wq P ⟨od,none,o⟩ ρ G K=Nq P ρ G o (ie ρ od K):=(rfl)
def ItL_t:Wq P ⟨od,some (t,true),o⟩ ρ G K=de (lk ρ t) (Nq P (setL t (.bool true) ρ) G o (ie (setL t (.bool true) ρ) od K)) (ie (setL t (.bool false) ρ) od K (.tup []) G) (ie ρ od K (.tup []) G):=(rfl)
def ItL_f:Wq P ⟨od,some (t,false),o⟩ ρ G K=de (lk ρ t) (ie (setL t (.bool true) ρ) od K (.tup []) G) (Nq P (setL t (.bool false) ρ) G o (ie (setL t (.bool false) ρ) od K)) (ie ρ od K (.tup []) G):=(rfl)
def itK_some:ie ρ (some d) K v G=K ((d,v)::ρ) G:=(rfl)
def itK_none:ie ρ none K v G=K ρ G:=(rfl)
def atG_app:Ug KV G v=KV v G:=(rfl)
def DrL_nil:Xc P [] ρ G K=K ρ G:=(rfl)
def DrL_cons:Xc P ((it,cs)::ds) ρ G K=Wq P it ρ G (drK P cs ds ρ G K):=(rfl)
def drK_app:drK P cs ds ρ G K ρ' G'=(U4 ρ G G' cs∧Xc P ds ρ' G' K):=(rfl)
def ev_t:(Lx.t i).ev ρ=lk ρ i:=(rfl)
def ev_c:(Lx.c v).ev ρ=v:=(rfl)
def argsL_nil:dt [] i=[]:=(rfl)
def argsL_cons:dt (v::vs) i=(i,v)::dt vs (i+1):=(rfl)
def setL_cons:setL t v ((d,w)::ρ)=if t=d then (d,v)::ρ else (d,w)::setL t v ρ:=(rfl)
end code
section nums
variable {K : LV → Prop}
def zuk{a b:UInt64}:Vb .add a b K=K (.u (Sg a b)):=(rfl)
def zw6{a b:UInt64}:Vb .mul a b K=K (.u (Qz a b)):=(rfl)
def zyi{a b:UInt64}:Vb .shl a b K=K (.u (S4 a b.toNat)):=(rfl)
def zwf{a b:UInt64}:Vb .shr a b K=K (.u (Py a b.toNat)):=(rfl)
def zxr{a b:UInt64}:Vb .and a b K=K (.u (Rt a b)):=(rfl)
def X1{a b:UInt64}:Vb .or a b K=K (.u (orU a b)):=(rfl)
def zwu{a b:UInt64}:Vb .eql a b K=K (.bool (decide (a=b))):=(rfl)
def zwj{a b:UInt64}:Vb .neq a b K=K (.bool (decide (a≠b))):=(rfl)
def zxi{a b:UInt64}:Vb .lss a b K=K (.bool (decide (a<b))):=(rfl)
def zy9{a b:UInt64}:Vb .leq a b K=K (.bool (decide (a≤b))):=(rfl)
def zwo{a b:UInt64}:Vb .gtr a b K=K (.bool (decide (b<a))):=(rfl)
def zwl{a b:UInt64}:Vb .geq a b K=K (.bool (decide (b≤a))):=(rfl)
def zw1{a b:Int}:U3 .add a b K=(Ry (a+b)∧K (.i (a+b))):=(rfl)
def zvz{a b:Int}:U3 .sub a b K=(Ry (a-b)∧K (.i (a-b))):=(rfl)
def zxx{a b:Int}:U3 .mul a b K=(Ry (a*b)∧K (.i (a*b))):=(rfl)
def zx4{a b:Int}:U3 .quo a b K=(b≠0∧Ry (a.tdiv b)∧K (.i (a.tdiv b))):=(rfl)
def zum{a b:Int}:U3 .rem a b K=(b≠0∧K (.i (a.tmod b))):=(rfl)
def zvv{a b:Int}:U3 .shr a b K=(0≤a∧0≤b∧b≤64∧K (.i (a/2^b.toNat))):=(rfl)
def zuw{a b:Int}:U3 .eql a b K=K (.bool (decide (a=b))):=(rfl)
def zuv{a b:Int}:U3 .neq a b K=K (.bool (decide (a≠b))):=(rfl)
def zv4{a b:Int}:U3 .lss a b K=K (.bool (decide (a<b))):=(rfl)
def zvn{a b:Int}:U3 .leq a b K=K (.bool (decide (a≤b))):=(rfl)
def zxn{a b:Int}:U3 .gtr a b K=K (.bool (decide (b<a))):=(rfl)
def zv0{a b:Int}:U3 .geq a b K=K (.bool (decide (b≤a))):=(rfl)
def zwm{a b:List UInt8}:zr .neq a b K=K (.bool (decide (a≠b))):=(rfl)
end nums
section congr2
variable {P : Program} {G G' : M4} {x x' y y' z z' : LV} {K : LV → M4 → Prop} {Kv : LV → Prop} {n n' size : Nat}
@[congr] theorem xx {o j:Option LObj} {K:List LV→Nat→Prop} (h:o=j):W9 o K=W9 j K:=Fi
@[congr] theorem xb {o j:Option LObj} {K:List LV→Nat→Nat→Nat→Nat→Prop} (h:o=j):Pz o K=Pz j K:=Fi
@[congr] theorem gt {o j:Option (List LV)} {K:List LV→Prop} (h:o=j):sh o K=sh j K:=Fi
@[congr] theorem mr (j:x=x') (C:y=y') (E:z=z'):ju x y z Kv=ju x' y' z' Kv:=Dm
@[congr] theorem tv (j:x=x'):jn x Kv=jn x' Kv:=Fh
@[congr] theorem ux {K:List UInt8→Prop} (j:x=x'):W4 x K=W4 x' K:=Fh
@[congr] theorem l8 {K:Nat→Prop} (j:x=x') (C:y=y'):zy8 x y K=zy8 x' y' K:=Cb
@[congr] theorem qo {K:Nat→Prop} (j:x=x'):Yt x K=Yt x' K:=Fh
@[congr] theorem xo {lo:(Nat→Prop)→Prop} {hi:Nat→(Nat→Prop)→Prop} (j:G=G') (C:x=x'):Zq G size x lo hi Kv=Zq G' size x' lo hi Kv:=Cb
@[congr] theorem vr {lo j:(Nat→Prop)→Prop} {hi:Nat→(Nat→Prop)→Prop} (C:G=G') (E:x=x'):Z3 G size x lo hi j Kv=Z3 G' size x' lo hi j Kv:=by rw[C,E]
@[congr] theorem qt (j:x=x'):Uq n x Kv=Uq n x' Kv:=Fh
@[congr] theorem w9 (j:G=G') (C:x=x') (E:y=y'):ixL G size x y Kv=ixL G' size x' y' Kv:=Dm
@[congr] theorem wx {i:Int} (j:G=G') (C:x=x') (E:i=T):Wh G size x i Kv=Wh G' size x' T Kv:=Dm
@[congr] theorem uu (j:x=x') (C:y=y'):ks x y Kv=ks x' y' Kv:=Cb
@[congr] theorem tr (j:x=x'):jb n x Kv=jb n x' Kv:=Fh
@[congr] theorem me {g:Bool} {z z':LV} (j:x=x') (C:y=y') (E:z=z'):Vy g x y z Kv=Vy g x' y' z' Kv:=Dm
@[congr] theorem sw {len size:Nat} (j:x=x') (C:y=y'):lw len size x y Kv=lw len size x' y' Kv:=Cb
@[congr] theorem tt {g:Bool} {len size:Nat} (j:x=x') (C:y=y'):gk g len size x y Kv=gk g len size x' y' Kv:=Cb
@[congr] theorem sa {g:Bool} (j:x=x') (C:y=y'):cp g x y Kv=cp g x' y' Kv:=Cb
@[congr] theorem uz {K:Nat→Prop} (j:x=x'):ii x K=ii x' K:=Fh
@[congr] theorem ip {z z':List LV} {KH:M4→Prop} (j:G=G') (C:x=x') (E:z=z'):zmg G size z x KH=zmg G' size z' x' KH:=Dm
@[congr] theorem lz {l:List LV} (j:G=G') (C:x=x') (E:n=n') (F:l=U):xu G size x n l K=xu G' size x' n' U K:=by rw[j,C,E,F]
@[congr] theorem xl {l:List LV} (j:x=x') (C:l=U) (E:G=G'):goL P x l G K=goL P x' U G' K:=Dm
end congr2
def LU(a:List UInt64):LV:=.lst (a.map .u) a.length 1
def vk(a:List UInt64):dats (a.map LV.u)=true:=Un (λ_=>rfl) a
def vj(a:List UInt8):dats (a.map LV.b)=true:=Un (λ_=>rfl) a
def zu0(l r:List LV):Nu l 0 r=r++l.drop r.length:=by simp[Nu]
def zsu(v:LV)(l r:List LV)(i:Nat):Nu (v::l) (i+1) r=v::Nu l i r:=by
 unfold Nu;rw[show i+1+r.length=(i+r.length)+1 from J];simp
attribute [simp] zn9 U4 ckL qm oo lh LObj.stp LObj.st zmr zm6 Y5 Yf bf zhp fv LV.cells subV subVs Wt notP shV shVs frV frVs bor bors LV.dat dats LV.scal LV.sim sims vk vj zu0 zsu LU Ry
attribute [simp] zox zsb zw0 zko zgt jf zy4
attribute [simp ↓] zox zsb zw0 zko zgt zy4 zn9 zmr zm6 Y5 Yf
attribute [simp ↓] OpL_move OpL_pick OpL_alloc OpL_box OpL_build OpL_buildSl OpL_load1 OpL_loadN OpL_store OpL_nilChk jo tk zx3 OpL_cvStr OpL_cvBytes zu9 OpL_mkSl zy3 zw2 OpL_slStr OpL_slSl OpL_slSl3 OpL_fieldAddr OpL_ixAddr OpL_ixStr OpL_extract OpL_lenStr OpL_lenSl Zi OpL_appZ OpL_appG OpL_copy zye
attribute [simp] zrf ze3 cellsL_some zk7 zh3 zmz zr3 chkL_ptr zs4 zw7 Yl Z6 slL_nil slL_dy slL_vw slL_lst sl3L_dy offL_ptr offL_dptr offL_cptr fldL_true fldL_false po zoj zqx zpb Yd tupL_tup zxa zwz Yg zrg zrm Xz zo2 readL_ptr readL_dptr readL_cptr read1_ptr read1_dptr read1_cptr writeL_ptr writeL_dptr rowL_dy rowL_vw rowL_lst lenL_nil lenL_dy lenL_vw lenL_lst appL_nil appL_dy appL_vw zvx zwv zuy zsi zr9 zmi zng zse zrl zqv zy2 bu X0 cz Zj
attribute [simp ↓] zrf ze3 cellsL_some zk7 zh3 zmz zr3 chkL_ptr zs4 zw7 Yl Z6 slL_nil slL_dy slL_vw slL_lst sl3L_dy offL_ptr offL_dptr offL_cptr fldL_true fldL_false po zoj zqx zpb Yd tupL_tup zxa zwz Yg zrg zrm Xz zo2 readL_ptr readL_dptr readL_cptr read1_ptr read1_dptr read1_cptr writeL_ptr writeL_dptr rowL_dy rowL_vw rowL_lst lenL_nil lenL_dy lenL_vw lenL_lst appL_nil appL_dy appL_vw zvx zwv zuy zsi zr9 zmi zng zse zrl zqv zy2 bu X0 cz Zj
attribute [simp] wp_skip wp_ops wp_seq wp_cond wp_block wp_draw wp_exit wp_ret wp_loop zrn seqQ_n seqQ_e seqQ_r blkQ_n blkQ_e blkQ_r nxQ_n nxQ_e nxQ_r endQ_n endQ_r norQ_app takeL_nil takeL_cons zn4 takK_app endK_app resL_nil resL_tmp resL_cN tmpK_app conK_app cnK_app oneL_1 oneL_0 oneL_2 OpsL_nil OpsL_cons opsK_app ItL_n ItL_t ItL_f itK_some itK_none atG_app DrL_nil DrL_cons drK_app ev_t ev_c argsL_nil argsL_cons setL_cons zuk zw6 zyi zwf zxr X1 zwu zwj zxi zy9 zwo zwl zw1 zvz zxx zx4 zum zvv zuw zuv zv4 zvn zxn zv0 zwm
attribute [simp ↓] wp_skip wp_ops wp_seq wp_cond wp_block wp_draw wp_exit wp_ret wp_loop zrn seqQ_n seqQ_e seqQ_r blkQ_n blkQ_e blkQ_r nxQ_n nxQ_e nxQ_r endQ_n endQ_r norQ_app takeL_nil takeL_cons zn4 takK_app endK_app resL_nil resL_tmp resL_cN tmpK_app conK_app cnK_app oneL_1 oneL_0 oneL_2 OpsL_nil OpsL_cons opsK_app ItL_n ItL_t ItL_f itK_some itK_none atG_app DrL_nil DrL_cons drK_app ev_t ev_c argsL_nil argsL_cons setL_cons zuk zw6 zyi zwf zxr X1 zwu zwj zxi zy9 zwo zwl zw1 zvz zxx zx4 zum zvv zuw zuv zv4 zvn zxn zv0 zwm
attribute [simp] zyj
attribute [simp ↓] zyj
attribute [simp] zw5 Ze Zs zux
attribute [simp] zob
attribute [simp ↓] OpL_clear zob Yn zlq zxp zw5 Ze Zs zux
def Y2(o:Option Bool)(A B:Prop):Prop:=match o with
 |some b=>Sr b A B
 |none=>False
def tl(o:Option LObj)(K:List (LV×LV×Nat)→Nat→Nat→Prop):Prop:=match o with
 |some (.map es ck st)=>K es ck st
 |_=>False
def ol(d:TypeDesc)(k z:LV)(ok:Bool)(K:LV→Prop):List (LV×LV×Nat)→Prop:=λes=>jp d k (zuz z ok K) es
def zo(x:LV×LV×Nat)(K:List (LV×LV×Nat)→Bool→Prop):List (LV×LV×Nat)→Bool→Prop:=λr new=>K (x::r) new
def qu(G:M4)(n size:Nat)(x:LV)(lo:(Nat→Prop)→Prop)(hi:Nat→(Nat→Prop)→Prop)(K:LV→M4→Prop):Prop:=match x with
 |.ptr p i=>W9 G[p]? λl st=>i+n*size≤l.length∧lo λa=>hi n λb=>a≤b∧b≤n∧K (.lst ((l.drop (i+a*size)).take ((b-a)*size)) (b-a) size) (G.set p (.dead (st+1)))
 |_=>False
section maps
variable {P : Program} {ρ : M7} {G G' : M4} {K : LV → M4 → Prop} {K1 : LV → Prop} {x i m k v z x' k' : LV} {X I M V : Lx} {d : TypeDesc} {ok : Bool} {es es' : List (LV × LV × Nat)} {KE : List (LV × LV × Nat) → Prop} {KB : List (LV × LV × Nat) → Bool → Prop} {KH : M4 → Prop} {p ck st n size : Nat} {lo hi : Option Lx} {A B : Prop} {lof : (Nat → Prop) → Prop} {hif : Nat → (Nat → Prop) → Prop}
def OpL_mkMap0:Nq P ρ G .mkMap0 K=K (.map G.length) (G++[.map [] 0 0]):=(rfl)
def OpL_lookup:Nq P ρ G (.lookup d z ok X I) K=Vo G (X.ev ρ) (ol d (I.ev ρ) z ok (Ug K G)):=(rfl)
def OpL_mapUpd:Nq P ρ G (.mapUpd d M I V) K=om G d (M.ev ρ) (I.ev ρ) (V.ev ρ) λG'=>K .any G':=(rfl)
def OpL_slArr:Nq P ρ G (.slArr n size X lo hi) K=qu G n size (X.ev ρ) (λk=>Ok ρ 0 lo k) (λd k=>Ok ρ d hi k) K:=by
 simp only[Nq,qu,W9];cases X.ev ρ<;>try rfl
 all_goals (cases G[_]?<;>try rfl)
def zsl{K:List (LV×LV×Nat)→Nat→Nat→Prop}:tl (some (.map es ck st)) K=K es ck st:=(rfl)
def mapL_map:Vo G (.map p) KE=tl G[p]? λes _ _=>KE es:=by
 simp only[Vo,tl];cases G[p]?<;>try rfl
def lookM_app:ol d k z ok K1 es=jp d k (zuz z ok K1) es:=(rfl)
def zmb{j:Option LV→Prop}:jp d k j []=j none:=(rfl)
def zk9{j:Option LV→Prop}:jp d k j ((k',v,n)::es)=Y2 (Vh d k k') (j (some v)) (jp d k j es):=(rfl)
def lookK_st:zuz z true K1 (some v)=K1 (.tup [v,.bool true]):=(rfl)
def lookK_nt:zuz z true K1 none=K1 (.tup [z,.bool false]):=(rfl)
def updL'_map:om G d (.map p) k v KH=tl G[p]? λes ck st=>Uu d k v ck (ql G p ck st KH) es:=by
 simp only[om,tl];cases G[p]?<;>try rfl
def putL_nil:Uu d k v ck KB []=KB [(k,v,ck)] true:=(rfl)
def zo0{w:LV}:Uu d k v ck KB ((k',w,n)::es)=Y2 (Vh d k k') (KB ((k,v,n)::es) false) (Uu d k v ck (zo (k',w,n) KB) es):=(rfl)
def zrk{y:LV×LV×Nat}{b:Bool}:zo y KB es b=KB (y::es) b:=(rfl)
def setK_t:ql G p ck st KH es true=KH (G.set p (.map es (ck+1) (st+1))):=(rfl)
def zog{b:Bool}:Y2 (some b) A B=Sr b A B:=(rfl)
def Ye{j:IntKind}{a b:Int}:Vh (.int j) (.i a) (.i b)=some (decide (a=b)):=(rfl)
def zsg:qu G n size (.ptr p j) lof hif K=W9 G[p]? λl st=>j+n*size≤l.length∧lof λa=>hif n λb=>a≤b∧b≤n∧K (.lst ((l.drop (j+a*size)).take ((b-a)*size)) (b-a) size) (G.set p (.dead (st+1))):=(rfl)
@[congr] theorem yk {o j:Option LObj} {K:List (LV×LV×Nat)→Nat→Nat→Prop} (h:o=j):tl o K=tl j K:=Fi
@[congr] theorem pg {j C:LV} (E:G=G') (F:m=C) (H:k=k') (L:v=j):om G d m k v KH=om G' d C k' j KH:=by rw[E,F,H,L]
@[congr] theorem vz {o j:Option Bool} (h:o=j):Y2 o A B=Y2 j A B:=Fi
end maps
attribute [simp] zsl mapL_map lookM_app zmb zk9 lookK_st lookK_nt updL'_map putL_nil zo0 zrk setK_t zog Ye zsg
attribute [simp ↓] OpL_mkMap0 OpL_lookup OpL_mapUpd OpL_slArr zsl mapL_map lookM_app zmb zk9 lookK_st lookK_nt updL'_map putL_nil zo0 zrk setK_t zog Ye zsg
end
end
section
noncomputable section
open Go.RowKit (Below)
mutual
inductive Sh where
 |bool
 |u
 |b
 |i
 |k (k:IntKind)
 |str
 |sl (s:Sh)
 |st (l:ShL)
inductive ShL where
 |nil
 |cons (s:Sh) (l:ShL)
end
mutual
def Sh.n:Sh→Nat
 |.st l=>l.n
 |_=>1
def ShL.n:ShL→Nat
 |.nil=>0
 |.cons s l=>s.n+l.n
end
mutual
def Sh.T:Sh→Type
 |.bool=>Bool
 |.u=>UInt64
 |.b=>UInt8
 |.i=>{ n:Int // Ry n }
 |.k _=>Int
 |.str=>{ l:List UInt8 // l.length≤maxLen }
 |.sl s=>{ l:List s.T // l.length≤maxLen }
 |.st l=>l.T
def ShL.T:ShL→Type
 |.nil=>Unit
 |.cons s l=>s.T×l.T
end
mutual
def Sh.enc:(s:Sh)→s.T→List LV
 |.bool,x=>[.bool x]
 |.u,x=>[.u x]
 |.b,x=>[.b x]
 |.i,x=>[.i x.1]
 |.k k,x=>[.int k x]
 |.str,x=>[.str x.1]
 |.sl s,x=>[.lst (x.1.flatMap s.enc) x.1.length s.n]
 |.st l,x=>l.enc x
def ShL.enc:(l:ShL)→l.T→List LV
 |.nil,_=>[]
 |.cons s l,x=>s.enc x.1++l.enc x.2
end
mutual
def Sh.enc_length:∀(s:Sh) (x:s.T),(s.enc x).length=s.n
 |.bool,_=>rfl
 |.u,_=>rfl
 |.b,_=>rfl
 |.i,_=>rfl
 |.k _,_=>rfl
 |.str,_=>rfl
 |.sl _,_=>rfl
 |.st l,x=>by simp only[Sh.enc,Sh.n];exact ShL.enc_length l x
def ShL.enc_length:∀(l:ShL) (x:l.T),(l.enc x).length=l.n
 |.nil,_=>rfl
 |.cons s l,x=>by simp only[ShL.enc,ShL.n,Im,Sh.enc_length s x.1,ShL.enc_length l x.2]
end
def Yh(P:Program)(f:TypeId→Option Sh)(j:Nat):List Field→Nat→Option ShL
 |[],g=>if g=j then some .nil else none
 |fd::l,g=>match f fd.type with
  |none=>none
  |some s=>if fd.offset=g∧P.cellsOf fd.type=s.n then match Yh P f j l (g+s.n) with
   |none=>none
   |some r=>some (.cons s r)
   else none
def zl:Nat→Sh→ShL
 |0,_=>.nil
 |n+1,s=>.cons s (zl n s)
def Uz(P:Program):Nat→TypeId→Option Sh
 |0,_=>none
 |d+1,t=>match P.underlying t with
  |some .bool=>some .bool
  |some (.int k)=>match k with
   |.u64=>some .u
   |.u8=>some .b
   |.i64=>some .i
   |k=>some (.k k)
  |some .string=>some .str
  |some (.slice e)=>match Uz P d e with
   |none=>none
   |some s=>if P.cellsOf e=s.n∧0<s.n then some (.sl s) else none
  |some (.struct g)=>match Yh P (Uz P d) (P.cellsOf t) g.toList 0 with
   |none=>none
   |some l=>some (.st l)
  |some (.array n e)=>match Uz P d e with
   |none=>none
   |some s=>if P.cellsOf e=s.n∧P.cellsOf t=n*s.n then some (.st (zl n s)) else none
  |_=>none
def yy(P:Program)(d:Nat):List TypeId→Option ShL
 |[]=>some .nil
 |t::l=>match Uz P d t with
  |none=>none
  |some s=>if P.cellsOf t=s.n then match yy P d l with
   |none=>none
   |some r=>some (.cons s r)
   else none
def Rel.ro{W:World}{gj:CM}{H:Heap}(h:Rel W gj H W){L:Loc}(hL:L.b<W.heap.size){l:List AV}(gB:gj.le (gj.ext H.next 0 L)→Po W.heap.size (gj.ext H.next 0 L) W H.next (.cells (Pp l 0 .e) l.length 0 true)) :
  Rel W (gj.ext H.next 0 L) (H.push (.cells (Pp l 0 .e) l.length 0 true)) W∧gj.le (gj.ext H.next 0 L):=by
 have hle:gj.le (gj.ext H.next 0 L):=CM.le_ext _ (h.next_none 0) (.inr (Lu h.nx));refine⟨⟨by show max gj.nx (H.next+1)=H.next+1;rw[h.nx];exact Nat.max_eq_right (K4 _),h.low,?_,?_,?_,?_,?_⟩,hle⟩
 ·intro o v L' C;show o<H.next+1;by_cases e:o=H.next∧v=0
  ·omega
  ·rw[CM.ext_ne _ _ e]at C;have:=h.fresh _ _ _ C;omega
 ·intro o v L' C;by_cases e:o=H.next∧v=0
  ·obtain⟨rfl,rfl⟩:=e;rw[CM.ext_same]at C;cases C;exact hL
  ·rw[CM.ext_ne _ _ e]at C;exact h.lt _ _ _ C
 ·intro o v L1 o' v' L2 h1 h2 hb hB;by_cases e:o=H.next∧v=0
  ·obtain⟨rfl,rfl⟩:=e;rw[CM.ext_same]at h1;cases h1;omega
  ·by_cases e':o'=H.next∧v'=0
   ·obtain⟨rfl,rfl⟩:=e';rw[CM.ext_same]at h2;cases h2;omega
   ·rw[CM.ext_ne _ _ e]at h1;rw[CM.ext_ne _ _ e']at h2;exact h.excl _ _ _ _ _ _ h1 h2 hb hB
 ·intro o ob ho hg;by_cases e:o=H.next
  ·subst e;rw[Heap.get_push_same]at hg;cases hg;exact gB hle
  ·have gg:o<H.next:=B2
   rw[Heap.get_push_ne _ _ gg]at hg;refine (h.obj _ _ gg hg).frame hle (λv L' C=>?_) (λ_ _ _=>rfl)
   rwa [CM.ext_ne _ _ J]at C
 ·intro o c len gC ro ho hg v L' C;by_cases e:o=H.next
  ·subst e;by_cases ev:v=0
   ·omega
   ·rw[CM.ext_ne _ _ J]at C;have:=h.fresh _ _ _ C;omega
  ·have gg:o<H.next:=B2
   rw[Heap.get_push_ne _ _ gg]at hg;rw[CM.ext_ne _ _ J]at C;exact h.top _ _ _ _ _ gg hg _ _ C
def Tj(H:Heap):Cx:=⟨[],λo=>o<H.next,H⟩
def Sd(H g:Heap):Prop:=H.next≤g.next∧∀o,o<H.next→g.get o=H.get o
def Sd.refl(H:Heap):Sd H H:=⟨If _,λ_ _=>rfl⟩
def Sd.trans{A B C:Heap}(h:Sd A B)(k:Sd B C):Sd A C:=⟨I1 h.1 k.1,λo ho=>by rw[k.2 o (Ix ho h.1),h.2 o ho]⟩
def Sd.le{H H':Heap}(h:Sd H H'):CxLe (Tj H) (Tj H') :=
 ⟨λp k x e=>by simp[Tj]at e,λo ho=>⟨Ix ho h.1,h.2 o ho⟩⟩
section imp
variable {HH : Type} {enc : TypeId × Value → HH} {P : Program} {W : World}
def Got(W:World)(A:CM)(H:Heap)(z:List Value)(s:Nat)(T:Type)(e:T→List LV):Prop :=
 ∃g j as,∃y:T,A.le g∧Rel W g j W∧Sd H j∧VRs g as z∧(∀a∈as,a.one=true)∧ARs (Tj j) (e y) as∧as.length=s
def n8{H:Heap}(g:Rel W I H W){v:Value}{T:Type}{e:T→List LV}(y:T)(a:AV)(l:LV)(j:e y=[l])(z:VR I a v)(A:a.one=true)(B:AR (Tj H) l a):Got W I H [v] 1 T e :=
 ⟨I,H,[a],y,CM.le_refl I,g,.refl H,.cons z .nil,Bh,by rw[j];exact .cons B .nil,rfl⟩
def zjd{j:List MemPlace}(z:W.noneFrozen j){b n:Nat}(h:∀x∈MemPlace.row ⟨b,g,none⟩ n,x∈j){i:Nat}(hi:i<n):W.frozen? ⟨b,g+i,none⟩=false :=
 z b (g+i) (h _ (Kh.2 ⟨i,Ji.2 hi,rfl⟩))
def got_cells:∀(M:Nat) (d:Nat) (t:TypeId) (s:Sh) (cs:List Value) (x:DataW HH×List MemPlace) (U:CM) (H:Heap),Uz P d t=some s→DataW.trod enc P W 0 (λ_=>true) true M t cs=some x→W.noneFrozen x.2→Rel W U H W →
  Got W U H cs s.n s.T s.enc:=by
 intro M
 induction M with
 |zero=>intro d t s cs x U H _ h;simp[DataW.trod]at h
 |succ M ih =>
  intro d t s cs x U H z h hz C;cases d with
  |zero=>cases z
  |succ d =>
   simp only[Uz]at z;split at z
   ·rename_i hu;cases z;obtain⟨b,rfl,_⟩:=DataW.trod_bool hu h;exact n8 C (T:=Bool) b (.bool b) (.bool b) rfl (.bool b) rfl (.bool b)
   ·rename_i k hu;obtain⟨n,rfl,_,hw⟩:=DataW.trod_int hu h;split at z
    ·cases z;have hb:=bounds_u64 hw;refine n8 C (T:=UInt64) (UInt64.ofNat n.toNat) (.int .u64 n) (.u (UInt64.ofNat n.toNat)) rfl (.int _ _) rfl (.u' ?_);rw[Js];simp only[Iw];omega
    ·cases z;have hb:=bounds_u8 hw;refine n8 C (T:=UInt8) (UInt8.ofNat n.toNat) (.int .u8 n) (.b (UInt8.ofNat n.toNat)) rfl (.int _ _) rfl (.b' ?_);rw[UInt8.toNat_ofNat'];simp only[Iw];omega
    ·cases z;have hb:=bounds_i64 hw;exact n8 C (T:={ n:Int // Ry n }) ⟨n,by unfold Ry;omega⟩ (.int .i64 n) (.i n) rfl (.int _ _) rfl (.i n)
    ·cases z;exact n8 C (T:=Int) n (.int k n) (.int k n) rfl (.int _ _) rfl (.int k n)
   ·rename_i hu;cases z;obtain⟨b,rfl,_,hm⟩:=DataW.trod_string hu h;exact n8 C (T:={ l:List UInt8 // l.length≤maxLen }) ⟨b.data.toList,by simpa using hm⟩ (.str b.data.toList.length (Oy b.data.toList)) (.str b.data.toList) rfl (.str rfl rfl) rfl (.str _)
   ·rename_i e hu;split at z
    ·cases z
    ·rename_i j gC;by_cases S:P.cellsOf e=j.n∧0<j.n
     ·rw[Ij S]at z;cases z;obtain⟨gD,O⟩:=S;rcases DataW.trod_slice hu h with ⟨rfl,_⟩|⟨a,len,cap,G,gM,n,hn,rfl,hx,_,gO,jM,gP,gj,gQ,_⟩
      ·exact n8 C (T:={ l:List j.T // l.length≤maxLen }) ⟨[],N⟩ .nilSl (.lst [] 0 j.n) rfl .nilSl rfl .lstNil
      ·cases hn;by_cases h0:len=0
       ·subst h0;exact n8 C (T:={ l:List j.T // l.length≤maxLen }) ⟨[],N⟩ .emp (.lst [] 0 j.n) rfl .emp rfl .lstEmp
       ·
        obtain⟨b,g,Q⟩:=a;have I:∀i,i<cap→∃D,W.cells? 0 ((⟨b,g,Q⟩:Addr).add (i*P.cellsOf e)) (P.cellsOf e)=some D:=by
         intro i hi;by_cases g9:i<len
         ·have:=gj i g9;rw[Ib J]at this;cases hq:W.cells? 0 ((⟨b,g,Q⟩:Addr).add (i*P.cellsOf e)) (P.cellsOf e) with
          |none=>rw[hq]at this;cases this
          |some D=>exact⟨D,rfl⟩
         ·obtain⟨jQ,jg⟩:=gQ rfl;have:=jg (i-len) J;rw[show len+(i-len)=i from J,Ib J]at this;cases hq:W.cells? 0 ((⟨b,g,Q⟩:Addr).add (i*P.cellsOf e)) (P.cellsOf e) with
          |none=>rw[hq]at this;cases this
          |some D=>exact⟨D,rfl⟩
        have gE:Q=none:=by
         obtain⟨D,he⟩:=I 0 J;obtain⟨_,E,A⟩:=World.cells?_some he;have:=A 0 J;rw[Ib J]at this;simpa [Addr.add] using World.cell?_spot this
        subst gE;have R:∀i V,i<cap→V<j.n→∃v,W.cell? ⟨b,g+(i*j.n+V),none⟩=some v:=by
         intro i V hi hj;obtain⟨D,he⟩:=I i hi;obtain⟨_,E,A⟩:=World.cells?_some he;have:=A V J;rw[Ib J]at this;rw[gD]at this;rw[WideShapes.add_plain,WideShapes.add_plain]at this;rw[←Je];exact⟨_,this⟩
        obtain⟨v0,gB⟩:=R 0 0 J O;obtain⟨vs,ty,lo,hi,B⟩:∃vs ty lo hi,W.heap[b]?=some (.cells vs ty (lo,hi)):=by
         unfold World.cell? at gB;dsimp only at gB;split at gB
         ·rename_i vs ty fz B;exact⟨vs,ty,fz.1,fz.2,B⟩
         ·cases gB
        have jz:∀q,q<cap*j.n→∃v,vs[g+q]?=some v:=by
         intro q hq;obtain⟨v,hv⟩:=R (q/j.n) (q%j.n) (by rw[Nat.div_lt_iff_lt_mul O];exact hq) (Nat.mod_lt _ O);have:q/j.n*j.n+q%j.n=q:=by rw[L9];exact Nat.div_add_mod q j.n
         rw[this,fi B]at hv;exact⟨v,hv⟩
        have gR:g+cap*j.n≤vs.size:=by
         have jA:0<cap*j.n:=Nat.mul_pos J O;obtain⟨v,hv⟩:=jz (cap*j.n-1) J;have:=(L7.1 hv).1;omega
        have gS:∀x',x'∈MemPlace.row ⟨b,g,none⟩ (cap*j.n)→x'∈x.2:=by
         intro x' gF;rw[hx];have:(G.length+gM.length)*P.cellsOf e=cap*j.n:=by rw[gP,(gQ rfl).1,gD];congr 1;omega
         rw[this];exact Kl _ gF
        have loop:∀m,m≤len→∃C' H' as,∃ys:List j.T,U.le C'∧Rel W C' H' W∧Sd H H'∧(∀a∈as,a.one=true)∧ARs (Tj H') (ys.flatMap j.enc) as∧ys.length=m∧as.length=m*j.n∧∀q,q<m*j.n→∃a v,as[q]?=some a∧vs[g+q]?=some v∧VR C' a v:=by
         intro m
         induction m with
         |zero=>intro _;exact⟨U,H,[],[],CM.le_refl U,C,.refl H,N,.nil,rfl,N,λq hq=>J⟩
         |succ m jB =>
          intro hm;obtain⟨C1,X,Y,jC,a1,a2,a3,a4,a5,a6,a7,a8⟩:=jB J;obtain⟨D,he⟩:=I m J;have gT:=gj m J;rw[he,Ib J]at gT;obtain⟨_,E,A⟩:=World.cells?_some he;have jD : W.noneFrozen (G[m]' J).2 := λb' F Z => hz b' F (by
           rw[hx];exact Ke _ (List.mem_flatMap.2 ⟨G[m]' J, N, Z⟩))
          obtain⟨C2,H2,gg,y,b1,b2,b3,b4,b5,b6,b7⟩:=ih d e j D _ C1 X gC gT jD a2;refine⟨C2,H2,Y++gg,jC++[y],CM.le_trans a1 b1,b2,a3.trans b3,?_,?_,by simp[a6],?_,?_⟩
          ·intro gY hz;rcases I2.1 hz with h|h
           ·exact a4 gY h
           ·exact b5 gY h
          ·rw[List.flatMap_append];refine (a5.mono b3.le).append ?_;simpa using b6
          ·rw[Im,a7,b7,I5,L6]
          ·intro q hq;by_cases jE:q<m*j.n
           ·obtain⟨a,v,c1,c2,c3⟩:=a8 q jE;exact⟨a,v,by rw[Ic J];exact c1,c2,c3.mono b1⟩
           ·have jR:q-m*j.n<j.n:=by rw[I5,L6]at hq;omega
            obtain⟨a,v,c1,c2,c3⟩:=b4.get' (i:=q-m*j.n) J;refine⟨a,v,by rw[Iq J,a7];exact c1,?_,c3⟩;have:=A (q-m*j.n) J;rw[gD,WideShapes.add_plain,WideShapes.add_plain,fi B,c2]at this;rw[←this]
            congr 1
            omega
        obtain⟨C1,X,as,ys,a1,a2,a3,a4,a5,a6,a7,a8⟩:=loop len (If _);have jF:b<W.heap.size:=by
         have:=(L7.1 B).1;exact this
        have jO:len*j.n≤cap*j.n:=Ip _ gO;have jG:∀q,g≤q→q<g+cap*j.n→¬(lo≤q∧q<hi):=by
         intro q h1 h2;have:=zjd hz (λx' gF=>gS x' gF) (i:=q-g) (n:=cap*j.n) J;rw[show g+(q-g)=q from J]at this;unfold World.frozen? at this;dsimp only at this;rw[B]at this;simp at this;omega
        obtain⟨c1,c2⟩:=a2.ro (L:=⟨b,g,len*j.n,g+cap*j.n⟩) jF (l:=as) (λgU L hL=>by
         rw[CM.ext_same]at hL;cases hL;refine⟨by rw[a7],λe=>Aq,by show g+as.length≤g+cap*j.n;omega,vs,ty,lo,hi,B,gR,jG,?_⟩;intro q hq;rw[get_ofList,Ij J];obtain⟨a,v,d1,d2,d3⟩:=a8 q J;exact⟨a,by simpa using d1,a4 a (Jd d1),v,d2,d3.mono gU⟩)
        have hg:Sd X (X.push (.cells (Pp as 0 .e) as.length 0 true)):=⟨K4 _,λo ho=>Heap.get_push_ne _ _ ho⟩;refine⟨_,_,[.sl X.next 0 0 len j.n none],(⟨ys,J⟩:{ l:List j.T // l.length≤maxLen }),CM.le_trans a1 c2,c1,a3.trans hg,.cons ?_ .nil,by simp[AV.one],?_,rfl⟩
        ·exact VR.sl (L:=⟨b,g,len*j.n,g+cap*j.n⟩) (i:=0) (CM.ext_same _ _ _ _) An An gO (λr e=>Aq) (λ_=>rfl)
        ·show ARs _ [LV.lst (ys.flatMap j.enc) ys.length j.n] _;rw[a6];refine .cons (.lst (I9 X.next) (λr e=>Aq) ?_ ?_ (a5.mono hg.le)) .nil
         ·have:=a5.length;omega
         ·have hr:=Tz (H:=X.push (.cells (Pp as 0 .e) as.length 0 true)) (i:=0) (n:=len*j.n) (Heap.get_push_same _ _) (nr as) (If _) J;rw[Jv,Io J]at hr;exact hr
     ·rw[Ii S]at z;cases z
   ·rename_i fs hu;split at z
    ·cases z
    ·rename_i l E;cases z;obtain⟨xs,n,hn,hx,gG,gV,jH⟩:=DataW.trod_struct hu h;cases hn;have gH:∀(fl:List Field) (V g:Nat) (l:ShL) (U:CM) (H:Heap),fs.toList.drop V=fl→Yh P (Uz P d) (P.cellsOf t) fl g=some l→Rel W U H W→Got W U H (cs.drop g) l.n l.T l.enc:=by
      intro fl
      induction fl with
      |nil =>
       intro V g l U H hj E C;simp only[Yh]at E;split at E
       ·rename_i he;cases E;refine⟨U,H,[],(():Unit),CM.le_refl U,C,.refl H,?_,N,.nil,rfl⟩;rw[he,←gG,List.drop_length];exact .nil
       ·cases E
      |cons fd fl jI =>
       intro V g l U H hj E C;simp only[Yh]at E;split at E
       ·cases E
       ·rename_i s z;by_cases S:fd.offset=g∧P.cellsOf fd.type=s.n
        ·rw[Ij S]at E;split at E
         ·cases E
         ·rename_i r hr;cases E;have gI:V<fs.toList.length:=by
           rcases Le V fs.toList.length with h|h
           ·exact h
           ·rw[List.drop_eq_nil_of_le h]at hj;cases hj
          have jK:fs[V]?=some fd:=by
           rw[Iz gI]at hj;injection hj with h1 h2
           rw[←h1];simp
          have K:=jH V fd jK;rw[S.1,S.2]at K;have gK:V<xs.length:=by rw[gV];simpa using gI
          rw[Ib gK]at K;obtain⟨C1,X,Y,y,a1,a2,a3,a4,a5,a6,a7⟩:=ih d fd.type s _ _ U H z K (λb' F Z=>hz b' F Gh) C;obtain⟨C2,H2,gg,ys,b1,b2,b3,b4,b5,b6,b7⟩:=jI (V+1) (g+s.n) r C1 X (by rw[Iz gI]at hj;injection hj) hr a2;refine⟨C2,H2,Y++gg,(y,ys),CM.le_trans a1 b1,b2,a3.trans b3,?_,?_,(a6.mono b3.le).append b6,by rw[Im,a7,b7];rfl⟩
          ·have:=(a4.mono b1).append b4
           rwa [←J6,Jr]at this
          ·intro gY hz;rcases I2.1 hz with h|h
           ·exact a5 gY h
           ·exact b5 gY h
        ·rw[Ii S]at E;cases E
     have:=gH fs.toList 0 0 l U H N E C;rw[Jv]at this;exact this
   ·rename_i n e hu;split at z
    ·cases z
    ·rename_i j gC;by_cases S:P.cellsOf e=j.n∧P.cellsOf t=n*j.n
     case neg=>rw[Ii S]at z;cases z
     rw[Ij S]at z;cases z;obtain⟨xs,m,hm,hx,gG,gV,gj⟩:=DataW.trod_array hu h;cases hm;have gH:∀(k V:Nat) (U:CM) (H:Heap),V+k=n→Rel W U H W→Got W U H (cs.drop (V*j.n)) (zl k j).n (zl k j).T (zl k j).enc:=by
      intro k
      induction k with
      |zero =>
       intro V U H hj C;refine⟨U,H,[],(():Unit),CM.le_refl U,C,.refl H,?_,N,.nil,rfl⟩;rw[(J:V=n),←S.2,←gG,List.drop_length];exact .nil
      |succ k jL =>
       intro V U H hj C;have K:=gj V J;rw[S.1]at K;have gK:V<xs.length:=J
       rw[Ib gK]at K;obtain⟨C1,X,Y,y,a1,a2,a3,a4,a5,a6,a7⟩:=ih d e j _ _ U H gC K (λb' F Z=>hz b' F Gh) C;obtain⟨C2,H2,gg,ys,b1,b2,b3,b4,b5,b6,b7⟩:=jL (V+1) C1 X J a2;refine⟨C2,H2,Y++gg,(y,ys),CM.le_trans a1 b1,b2,a3.trans b3,?_,?_,(a6.mono b3.le).append b6,by rw[Im,a7,b7];rfl⟩
       ·have:=(a4.mono b1).append b4
        rwa [Nat.succ_mul,←J6,Jr]at this
       ·intro gY hz;rcases I2.1 hz with h|h
        ·exact a5 gY h
        ·exact b5 gY h
     have:=gH n 0 U H J C;rw[Kz,Jv]at this;exact this
   ·cases z
end imp
end
end
section
open Go.RowKit Go.ChangeShapes Go.WideShapes Go.ChangeAt
def Sh.arg:(s:Sh)→s.T→LV
 |.st l,x=>.agg (l.enc x)
 |.bool,x=>.bool x
 |.u,x=>.u x
 |.b,x=>.b x
 |.i,x=>.i x.1
 |.k kk,x=>.int kk x
 |.str,x=>.str x.1
 |.sl s,x=>.lst (x.1.flatMap s.enc) x.1.length s.n
def ShL.args:(l:ShL)→l.T→List LV
 |.nil,_=>[]
 |.cons s l,x=>s.arg x.1::l.args x.2
section law
variable {H : Type} {enc : TypeId × Value → H} {P : Program}
def zs8{W:World}{d F:Nat}:∀{O:List TypeId} {l:ShL} {z:List Value} {T:List (DataW H)} {Q:List MemPlace} {C:CM} {Hp:Heap},yy P d O=some l→DataW.TrodAll enc P W 0 (λ_=>true) true O z T Q→W.noneFrozen Q →
  (∀(gC:Nat) (t:TypeId) (v:Value),O[gC]?=some t→z[gC]?=some v→Value.okWide P W .any F t v)→Rel W C Hp W→∃U V as,∃y:l.T,C.le U∧Rel W U V W∧Sd Hp V∧VRs U as z∧ARs (Tj V) (l.args y) as
 |[],l,z,T,Q,C,Hp,B,X,_,_,Y=>by
  cases B;obtain⟨rfl,_,_⟩:=trodAll_nil X;exact⟨C,Hp,[],(():Unit),CM.le_refl C,Y,.refl Hp,.nil,.nil⟩
 |t::O,l,z,T,Q,C,Hp,B,X,hz,hv,Y=>by
  simp only[yy]at B;split at B
  ·cases B
  ·rename_i s g;by_cases hc:P.cellsOf t=s.n
   ·rw[Ij hc]at B;split at B
    ·cases B
    ·rename_i r hr;cases B;obtain⟨v,vs,dd,gD,p,q,rfl,rfl,rfl,⟨G,hd⟩,E⟩:=trodAll_cons X;obtain⟨Z,H1,I,y,a1,a2,a3,R,a5,S,a7⟩:=got_cells G d t s _ _ C Hp g hd (λb o hb=>hz b o (Kl _ hb)) Y;obtain⟨C2,H2,gg,ys,b1,b2,b3,b4,b5⟩:=zs8 (C:=Z) (Hp:=H1) hr E (λb o hb=>hz b o (Ke _ hb)) (λgC t' v' K h2=>hv (gC+1) t' v' Dr (by simpa using h2)) a2;have A:=hv 0 t v rfl rfl;have gj:∃a,VR Z a v∧AR (Tj H1) (s.arg y) a:=by
      cases d with
      |zero=>cases g
      |succ d =>
       have j:∀{gE:LV},s.enc y=[gE]→s.arg y=gE→v.cells.toList=[v]→∃a,VR Z a v∧AR (Tj H1) (s.arg y) a:=by
        intro gE e1 e2 e3;rw[e3]at R;rw[e1]at S;cases R with
        |cons K h2 =>
         cases S with
         |cons h3 h4=>exact⟨_,K,by rw[e2];exact h3⟩
       simp only[Uz]at g;split at g
       ·rename_i hu;cases g;obtain⟨b,rfl⟩:=okWide_bool hu A;exact j rfl rfl rfl
       ·rename_i k hu;obtain⟨n,rfl⟩:=okWide_int hu A;split at g<;>cases g<;>exact j rfl rfl rfl
       ·rename_i hu;cases g;obtain⟨b,rfl⟩:=okWide_string hu A;exact j rfl rfl rfl
       ·rename_i e hu;obtain⟨a,len,cap,rfl⟩:=okWide_slice hu A;split at g
        ·cases g
        ·rename_i L gB;by_cases D:P.cellsOf e=L.n∧0<L.n
         ·rw[Ij D]at g;cases g;exact j rfl rfl rfl
         ·rw[Ii D]at g;cases g
       ·rename_i fs hu;obtain⟨M,rfl,_⟩:=okWide_struct hu A;split at g
        ·cases g
        ·rename_i l hl;cases g;exact⟨.agg I,.agg R a5,.agg S⟩
       ·rename_i n e hu;obtain⟨M,rfl⟩:∃M,v=.agg M:=by
         simp only[Value.okWide,hu]at A;obtain⟨M,K,_⟩:=A;exact⟨M,K⟩
        split at g
        ·cases g
        ·rename_i L gB;by_cases D:P.cellsOf e=L.n∧P.cellsOf t=n*L.n
         ·rw[Ij D]at g;cases g;exact⟨.agg I,.agg R a5,.agg S⟩
         ·rw[Ii D]at g;cases g
       ·cases g
     obtain⟨a,o1,o2⟩:=gj;exact⟨C2,H2,a::gg,(y,ys),CM.le_trans a1 b1,b2,a3.trans b3,.cons (o1.mono b1) b4,.cons (o2.mono b3.le) b5⟩
   ·rw[Ii hc]at B;cases B
def kt{f d:Nat}{j:List TypeId}{l:ShL}(hm:P.follows .mixedOrders=true)(z:yy P d j=some l)(h:∀y:l.T,Qa P (.fn f) (l.args y) [] λv _=>v=.bool true){W:World}{D:List (DataW H)}{C:List MemPlace}
  (E:DataW.TrodAll enc P W 0 (λ_=>true) true j v6.toList D C) (F:W.noneFrozen C) (G:∀(gg:Nat) (t:TypeId) (v:Value),j[gg]?=some t→v6.toList[gg]?=some v→Value.okWide P W .any g t v) :
  Calls P f v6 W λe A=>e=.returned (.bool true)∧Below W.heap.size W A:=by
 obtain⟨gj,I,as,y,_,K,_,L,B⟩:=zs8 z E F G (Rel.start W);obtain⟨m,v1,H',M,c',v,G',q2,q3,q4,O,Q⟩:=(h y).2 (Tj I) (.fn f) as (HSim.empty (λo R=>R)) rfl B;subst Q;cases O;intro S;obtain⟨C',A,v',T,h1,U,V,X,Y,Z⟩:=zd2 hm (aj P) m W _ _ W (.fn f) as _ _ _ K L M S;cases V;exact⟨.returned (.bool true),A,T,⟨rfl,U.low⟩,X,Y,Z⟩
def zn5(F:laidOutB P=true){W G:World}(I:Below W.heap.size W G){K:Nat→Bool}:∀{A:List TypeId} {C:List Value} {D:List (DataW H)} {B:List MemPlace},(∀t∈A,P.readableRec t=true∧t<P.types.size)→DataW.TrodAll enc P W 0 (λ_=>true) true A C D B →
  (∀x∈B,x.block<W.heap.size)→(∀x∈B,K x.block=true)→DataW.TrodAll enc P G 0 K true A C D B
 |[],[],[],_,_,h,_,_=>h
 |t::A,v::C,d::D,_,E,⟨p,q,L,M,e⟩,j,z=>by
  subst e;exact⟨p,q,WideElems.Trod_stays F (E t N).1 (E t N).2 L (λx g=>I.same (j x (Kl _ g))) (λx g=>z x (Kl _ g)),
   zn5 F I (λO Q=>E O Bq) M (λx g=>j x (Ke _ g)) (λx g=>z x (Ke _ g)),rfl⟩
 |[],[],_::_,_,_,h,_,_=>h.elim
 |[],_::_,_,_,_,h,_,_=>h.elim
 |_::_,[],_,_,_,h,_,_=>h.elim
 |_::_,_::_,[],_,_,h,_,_=>h.elim
def ax{f:Func}{s:ChangeSpec}{g C:Bool}{W:World}{args:Array Value}{I gs:List (DataW H)}{A:List MemPlace}(T:DataW.Whole enc P f.params.toList s.vars O W args.toList I gs A)(j:s.vars=[])
  (D:∀F:List (DataW H),F.length=f.params.toList.length→s.fn H F={ results:=[.lit (.bool true)],args:=F }) (U:Below W.heap.size W E) (Z:laidOutB P=true) (hr:∀t∈f.params.toList,P.readableRec t=true∧t<P.types.size)
  (B:f.resultTypes=#[S]) (z:P.underlying S=some .bool):s.post enc P f O vI g C W args (.bool true) E:=by
 have K:=T;obtain⟨p,q,V,X,rfl,gg,gj⟩:=T;rw[j]at X;obtain⟨rfl,rfl⟩:=trodVars_none X;have L:I.length=f.params.toList.length:=(trodAll_length V).2;have hs:=D I L;have G:s.fn H (I++[])={ results:=[.lit (.bool true)],args:=I }:=by rw[Jf];exact hs
 have M:=K.lt;refine zti (pa:=p) (pv:=[]) K (λb Y hd=>?_) (λY Q=>?_) (λY _=>?_) rfl U ?_
 ·rw[G,B];exact trodAll_cons_mk (shut_bool z _) trodAll_mk0
 ·rw[G];exact zn5 Z U hr V (λx R=>M x (by simp[R])) (λx R=>Q x (by simp[R]))
 ·rw[G,j];rfl
 ·exact ok_one B rfl (okWide_bool_mk z _)
end law
end
section
def O1(G:M4)(v d:LV):Prop:=match v with
 |.tup l=>∃r,d=.tup r∧bors G l r
 |v=>bor G v d
def Sf(P:Program)(f:Nat)(z:List LV)(E:LV):Prop :=
 jh P (.fn f)∧E.dat=true∧∀(B:Nat→Prop) (C:Heap) (g:List AV),(∀o,B o→o<C.next)→ARs ⟨[],B,C⟩ z g →
  ∃(m:Nat) (F:AV) (j:Nat→Prop) (A:Heap),Q6 P (OL P) m (.fn f) g C=.ok F A∧C.next≤A.next∧(∀o,B o→j o)∧(∀o,j o→o<A.next∧(B o∨C.next≤o))∧(∀o,o<C.next→A.get o=C.get o)∧AR ⟨[],j,A⟩ E F
section calls
variable {P : Program}
def zxq{c:Cx}{G:M4}(j:HSim c G)(v d:LV)(a:AV)(g:O1 G v d)(h:AR c v a):AR ⟨[],λo=>c.Fz o∨O9 c G o,c.H⟩ d a:=by
 unfold O1 at g;split at g
 ·obtain⟨r,rfl,g⟩:=g;cases h with
  |tup h=>exact .tup (bors_ok j _ _ _ g h)
 ·exact bor_ok j _ _ _ g h
def Sf.mk{f:Nat}{args:List LV}{v0:LV}(hd:v0.dat=true)(h:Qa P (.fn f) args [] λv G=>O1 G v v0):Sf P f args v0:=by
 refine⟨h.1,hd,λFz H gg gB ha=>?_⟩;obtain⟨m,v1,H',q1,c1,v,G,rfl,q3,q4,q5,q6⟩:=h.2 ⟨[],Fz,H⟩ (.fn f) gg (.empty gB) rfl ha;have gj:∀o,¬O9 ⟨[],Fz,H⟩ [] o:=λo ⟨p,_,_,_,e,_⟩=>B7
 refine⟨m,v1,_,c1.H,q1,q4.nx,λo ho=>.inl (q4.le.fz o ho).1,λo ho=>⟨ho.elim (q3.fz o) (q3.lt o),?_⟩,λo ho=>q4.frame o ho (gj o),zxq q3 v v0 v1 q6 q5⟩;rcases ho with ho|ho
 ·rcases q4.fznew o ho with h|h|h
  ·exact .inl h
  ·exact absurd h (gj o)
  ·exact .inr h
 ·rcases q4.new o ho with h|h
  ·exact absurd h (gj o)
  ·exact .inr h
def zoo{c:Cx}{G:M4}(F:HSim c G){z:Nat→Prop}(T:c.H.next≤C.next)(V:∀o,c.Fz o→z o)(R:∀o,z o→o<C.next∧(c.Fz o∨c.H.next≤o))(M:∀o,o<c.H.next→C.get o=c.H.get o) :
  HSim ⟨c.hd,z,C⟩ G∧Step c G ⟨c.hd,z,C⟩ G:=by
 have I:CxLe c ⟨c.hd,z,C⟩:=⟨λp k h e=>⟨k,h,e,If _,λ_=>rfl,λ_=>rfl⟩,λo g=>⟨V o g,M o (F.fz o g)⟩⟩;have j:∀o,O9 ⟨c.hd,z,C⟩ G o→O9 c G o:=λo ⟨p,A,k,h,E,B,K,L⟩=>⟨p,A,k,h,E,B,K,L⟩
 refine⟨⟨F.len,λo g=>(R o g).1,λo g=>Ix (F.lt o (j o g)) T,λo g X=>?_,λp A k h E B=>?_,λp q A H k h Y Z o E B K L S U e7 e8=>F.excl p q A H k h Y Z o E B K L S U e7 e8⟩,?_⟩
 ·rcases (R o X).2 with h|h
  ·exact F.sep o (j o g) h
  ·have:=F.lt o (j o g);omega
 ·by_cases O:A.live=true
  ·exact (F.obj p A k h E B).mono I (λo g=>M o (F.lt o ⟨p,A,k,h,E,O,B,g⟩))
  ·cases A<;>first|exact absurd rfl O|trivial
 ·refine⟨I,T,λo g _=>M o g,λo g=>.inl (j o g),λo g=>(R o g).2.elim .inl (λh=>.inr (.inr h)),λp A H E B=>?_,λp A H k h o E B K L S U=>?_⟩
  ·rw[E]at B;cases B;exact If _
  ·rw[E]at B;cases B;have O:A.live=true:=by cases A<;>first|rfl|cases S
   exact⟨rfl,M o (F.lt o ⟨p,A,k,h,E,O,K,L⟩),rfl⟩
def Qo{f:Nat}{G:M4}{gg:LV→M4→Prop}(H:Sf P f U K)(I:dats U=true)(k:gg K G):Qa P (.fn f) U G gg:=by
 obtain⟨L,hd,z⟩:=H;refine⟨L,λc M g E A O=>?_⟩;cases M with
 |yield o=>exact A.elim
 |fn gj =>
  obtain rfl:f=gj:=A;obtain⟨m,F,j,B,R,S,T,V,X,Y⟩:=z c.Fz c.H g E.fz (ARs.dat (c:=c) (c':=⟨[],c.Fz,c.H⟩) (λo C=>⟨C,rfl⟩) U g I O);obtain⟨Z,r2⟩:=zoo E S T V X;exact⟨m,F,B,R,⟨c.hd,j,B⟩,K,G,rfl,Z,r2,AR.dat (c:=⟨[],j,B⟩) (c':=⟨c.hd,j,B⟩) (λo C=>⟨C,rfl⟩) K F hd Y,k⟩
mutual
def LV.flat:LV→Bool
 |.bool _ |.u _ |.b _ |.i _ |.int _ _ |.str _ |.nilPtr |.nilSl |.nilMap |.nilFn |.nilIf=>true
 |.agg l=>flats l
 |.tup l=>flats l
 |_=>false
def flats:List LV→Bool
 |[]=>true
 |v::l=>v.flat&&flats l
end
mutual
def AR.flat{c c':Cx}(v:LV)(a:AV)(hd:v.flat=true)(h:AR c v a):AR c' v a:=by
 cases v with
 |agg l =>
  simp only[LV.flat]at hd;cases h with
  |agg h=>exact .agg (ARs.flat l _ hd h)
 |tup l =>
  simp only[LV.flat]at hd;cases h with
  |tup h=>exact .tup (ARs.flat l _ hd h)
 |_=>first|(simp only[LV.flat]at hd;cases hd;done)|(cases h;constructor)
termination_by SizeOf.sizeOf v
def ARs.flat{c c':Cx}(l:List LV)(r:List AV)(hd:flats l=true)(h:ARs c l r):ARs c' l r:=by
 cases l with
 |nil=>cases h;exact .nil
 |cons v l =>
  simp only[flats,H9]at hd;cases h with
  |cons e es=>exact .cons (AR.flat v _ hd.1 e) (ARs.flat l _ hd.2 es)
termination_by SizeOf.sizeOf l
end
end calls
def Np.lives{P:Program}{f:Nat}(ht:io P f=true∧ym P f=false)(hl:yi P f=true)(hr:zbg P f):Np P f [] (.bool true) []:=by
 refine⟨ht,rfl,λgj ob e=>B7,λFz H j gg ha=>?_⟩;cases ha;refine⟨1,.bool true,[],H,?_,.empty gg,.bool true,If _,λ_ _=>rfl,λo ⟨p,_,_,_,e,_⟩=>B7⟩;unfold Q6;dsimp only;rw[sg hl hr]
section cuts
variable {P : Program} {f n : Nat} {ro : Option Nat} {ρ : M7} {D : List Nat} {G : M4} {Q : Pm}
end cuts
attribute [simp] O1 LV.flat flats
end

section
def Rb(b:Nat)(G:M4)(v:LV)(esz n:Nat)(l:List LV):Prop :=
 (v=.nilSl∧n=0∧l=[])∨∃(p k:Nat) (g:List LV) (m st:Nat),b≤p∧G[p]?=some (.dyn g m esz k st)∧g.length=m*esz∧n≤m∧l=g.take (n*esz)∧((v=.dy p k∧n=m)∨v=.vw p k 0 n)
section stk
variable {b : Nat} {G G' : M4} {v : LV} {esz n : Nat} {l x : List LV}
def Rb.nil:Rb b G .nilSl esz 0 []:=.inl ⟨rfl,rfl,rfl⟩
def Rb.dy{p k st:Nat}(hb:b≤p)(hp:G[p]?=some (.dyn l n esz k st))(hl:l.length=n*esz):Rb b G (.dy p k) esz n l :=
 .inr ⟨p,k,l,n,st,hb,hp,hl,If _,by rw[Io J],.inl ⟨rfl,rfl⟩⟩
def Rb.length(h:Rb b G v esz n l):l.length=n*esz:=by
 rcases h with ⟨_,rfl,rfl⟩|⟨p,k,R,m,st,_,_,h2,h3,rfl,_⟩
 ·simp
 ·have:=Ip esz h3;rw[Iu];omega
def Rb.frame(h:Rb b G v esz n l)(hf:∀q,b≤q→G'[q]?=G[q]?):Rb b G' v esz n l:=by
 rcases h with h|⟨p,k,R,m,st,h1,h2,h3⟩
 ·exact .inl h
 ·exact .inr ⟨p,k,R,m,st,h1,by rw[hf p h1];exact h2,h3⟩
def Rb.set_lt(h:Rb b G v esz n l){q:Nat}{ob:LObj}(hq:q<b):Rb b (G.set q ob) v esz n l :=
 h.frame λr hr=>H8 J
def Rb.push_end(h:Rb b G v esz n l){ob:List LObj}:Rb b (G++ob) v esz n l:=by
 rcases h with h|⟨p,k,R,m,st,h1,h2,h3⟩
 ·exact .inl h
 ·exact .inr ⟨p,k,R,m,st,h1,by rw[Ic (H7.1 h2).1];exact h2,h3⟩
def Rb.lenL(h:Rb b G v esz n l){K:Nat→Prop}(k:K n):lenL G v K:=by
 rcases h with ⟨rfl,rfl,_⟩|⟨p,gg,R,m,st,_,h1,_,_,_,⟨rfl,rfl⟩|rfl⟩
 ·exact k
 ·rw[lenL_dy,h1];exact⟨rfl,k⟩
 ·rw[lenL_vw,h1];exact⟨rfl,k⟩
def Rb.push(h:Rb b G v esz n l)(hz:0<esz)(hb:b≤G.length)(hn:n≤1000000000)(hx:x.length=esz){K:LV→M4→Prop}
  (k:∀v' G',Rb b G' v' esz (n+1) (l++x)→(∀q,q<b→G'[q]?=G[q]?)→b≤G'.length→K v' G'):O2 G esz v 1 x K:=by
 have gj:=h.length;have fresh:∀l',l'=l++x→K (.dy G.length 0) (G++[.dyn l' (n+1) esz 0 0]):=by
  rintro l' rfl;refine k _ _ (.dy hb (st:=0) Ja (by rw[Im,gj,hx,I5];omega)) (λq hq=>Ic J) Ab
 rcases h with ⟨rfl,rfl,rfl⟩|⟨p,gB,R,m,st,h0,h1,h2,h3,rfl,⟨rfl,rfl⟩|rfl⟩
 ·rw[appL_nil];exact fresh _ rfl
 ·have hp:p<G.length:=(H7.1 h1).1;rw[Io J]at k;rw[appL_dy,h1];refine⟨rfl,⟨rfl,hz⟩,hn,k _ _ (.dy h0 (Ia hp) Dd) (λq hq=>H8 J) Eb⟩
 ·have hp:p<G.length:=(H7.1 h1).1;have hm:=Ip esz h3;have ha:(n+1)*esz=n*esz+esz:=Ey
  rw[appL_vw,h1];refine⟨rfl,⟨rfl,rfl,J⟩,hn,?_⟩;by_cases hf:(n+1)*esz≤R.length
  ·rw[Ij hf];have gg:n+1≤m:=by
    rw[h2]at hf;exact M0 hf hz
   refine⟨k _ _ (.inr ⟨p,gB,_,m,_,h0,Ia hp,?_,gg,?_,.inr rfl⟩) (λq hq=>H8 J) Eb,fresh _ rfl⟩
   ·unfold Nu;simp;omega
   ·unfold Nu;have e1:(R.take (n*esz)++x).length=(n+1)*esz:=by rw[Im,gj,hx,ha]
    rw[Li e1]
  ·rw[Ii hf];have gg:n=m:=by
    rw[h2]at hf;have:¬n+1≤m:=λq=>hf (Ip _ q)
    omega
   subst gg;have ht:R.take (n*esz)=R:=Io J;rw[ht]at k fresh;exact⟨rfl,hz,k _ _ (.dy h0 (Ia hp) Dd) (λq hq=>H8 J) Eb,fresh _ rfl⟩
def Rb.cut(h:Rb b G v esz n l){m:Nat}(hm:m≤n){lo:(Nat→Prop)→Prop}{hi:Nat→(Nat→Prop)→Prop}(gg:∀K':Nat→Prop,K' 0→lo K')(gj:∀(d:Nat) (K':Nat→Prop),K' m→hi d K'){K:LV→Prop}
  (k:∀v',Rb b G v' esz m (l.take (m*esz))→K v'):Zq G esz v lo hi K:=by
 rcases h with ⟨rfl,rfl,rfl⟩|⟨p,gB,R,m',st,h0,h1,h2,h3,rfl,⟨rfl,rfl⟩|rfl⟩
 ·have:m=0:=J
  subst this;rw[slL_nil];exact gg _ (gj _ _ ⟨rfl,rfl,k _ (.inl ⟨rfl,rfl,N⟩)⟩)
 ·rw[slL_dy,h1];refine⟨rfl,rfl,gg _ (gj _ _ ⟨J,hm,k _ (.inr ⟨p,gB,R,n,st,h0,h1,h2,hm,?_,.inr rfl⟩)⟩)⟩;rw[Lr,Jt (Ip _ hm)]
 ·rw[slL_vw,h1];refine⟨rfl,rfl,gg _ (gj _ _ ⟨J,hm,k _ (.inr ⟨p,gB,R,m',st,h0,h1,h2,J,?_,.inr rfl⟩)⟩)⟩;rw[Lr,Jt (Ip _ hm)]
def Rb.ix(h:Rb b G v esz n l){i:Int}(h0:0≤i)(hi:i<n){K:LV→Prop}
  (k:∀(p j:Nat) (R:List LV) (m st:Nat),b≤p→G[p]?=some (.dyn R m esz j st)→(∀gg,gg<n*esz→R[gg]?=l[gg]?)→n*esz≤R.length→K (.dptr p j (i.toNat*esz))):Wh G esz v i K:=by
 rcases h with ⟨rfl,rfl,rfl⟩|⟨p,j,R,m',st,h1,h2,h3,h4,rfl,⟨rfl,rfl⟩|rfl⟩
 ·omega
 ·rw[zoj,h2];exact⟨rfl,rfl,h0,hi,k _ _ _ _ _ h1 h2 (λgg hj=>by rw[I4 hj]) J⟩
 ·rw[zqx,h2];have:=Ip esz h4;refine⟨rfl,rfl,h0,hi,?_⟩;rw[Jc];exact k _ _ _ _ _ h1 h2 (λgg hj=>by rw[I4 hj]) J
def Rw(b:Nat)(G:M4)(v:LV)(esz n:Nat)(l:List LV):Prop :=
 (v=.nilSl∧n=0∧l=[])∨∃(p k st:Nat),b≤p∧v=.dy p k∧G[p]?=some (.dyn l n esz k st)∧l.length=n*esz
def Rw.nil:Rw b G .nilSl esz 0 []:=.inl ⟨rfl,rfl,rfl⟩
def Rw.frame(h:Rw b G v esz n l)(hf:∀q,b≤q→G'[q]?=G[q]?):Rw b G' v esz n l:=by
 rcases h with h|⟨p,k,st,h1,h2,h3,h4⟩
 ·exact .inl h
 ·exact .inr ⟨p,k,st,h1,h2,by rw[hf p h1];exact h3,h4⟩
def Rw.set_lt(h:Rw b G v esz n l){q:Nat}{ob:LObj}(hq:q<b):Rw b (G.set q ob) v esz n l :=
 h.frame λr hr=>H8 J
def Rw.set_cells(h:Rw b G v esz n l){q st:Nat}{c:List LV}{ob:LObj}(hq:G[q]?=some (.cells c st)):Rw b (G.set q ob) v esz n l:=by
 rcases h with h|⟨p,k,s,h1,h2,h3,h4⟩
 ·exact .inl h
 ·refine .inr ⟨p,k,s,h1,h2,?_,h4⟩;rw[H8 (λe=>by rw[e,h3]at hq;cases hq)];exact h3
def Rw.push_end(h:Rw b G v esz n l){ob:List LObj}:Rw b (G++ob) v esz n l:=by
 rcases h with h|⟨p,k,st,h1,h2,h3,h4⟩
 ·exact .inl h
 ·exact .inr ⟨p,k,st,h1,h2,by rw[Ic (H7.1 h3).1];exact h3,h4⟩
def Rw.push(h:Rw b G v esz n l)(hz:0<esz)(hb:b≤G.length)(hn:n≤1000000000){m:Nat}(hx:x.length=m*esz){K:LV→M4→Prop}
  (k:∀v' G',Rw b G' v' esz (n+m) (l++x)→(∀q,q<b→G'[q]?=G[q]?)→b≤G'.length→K v' G'):O2 G esz v m x K:=by
 rcases h with ⟨rfl,rfl,rfl⟩|⟨p,gg,st,h1,rfl,h2,h3⟩
 ·rw[appL_nil];refine k _ _ (.inr ⟨_,0,0,hb,rfl,?_,by simpa using hx⟩) (λq hq=>Ic J) Ab;rw[Jc];exact Ja
 ·have hp:p<G.length:=(H7.1 h2).1;rw[appL_dy,h2];exact⟨rfl,⟨rfl,hz⟩,hn,k _ _ (.inr ⟨p,gg+1,st+1,h1,rfl,Ia hp,by rw[Im,h3,hx,I5]⟩) (λq hq=>H8 J) Eb⟩
def Rw.cells(h:Rw b G v esz n l):v.cells=some [v]:=by
 rcases h with ⟨rfl,_⟩|⟨_,_,_,_,rfl,_⟩<;>rfl
def Rw.bor(h:Rw b G v esz n l)(hd:dats l=true):Go.Sv.bor G v (.lst l n esz):=by
 rcases h with ⟨rfl,rfl,rfl⟩|⟨p,k,st,_,rfl,h2,_⟩
 ·exact .inr ⟨_,rfl⟩
 ·exact⟨_,_,_,_,rfl,h2,hd⟩
def Rb.cells(h:Rb b G v esz n l):v.cells=some [v]:=by
 rcases h with ⟨rfl,_⟩|⟨_,_,_,_,_,_,_,_,_,_,⟨rfl,_⟩|rfl⟩<;>rfl
end stk
end
def HSim.freeze'{c:Cx}{G:M4}(hs:HSim c G){p k st:Nat}{x:AV}{ob:LObj}(hG:G[p]?=some ob)(hl:ob.live=true)(gD:ob.st<st)(hp:c.hd[p]?=some (k,x)) :
  HSim ⟨c.hd,λq=>c.Fz q∨Nv x=some q,c.H⟩ (G.set p (.dead st))∧Step c G ⟨c.hd,λq=>c.Fz q∨Nv x=some q,c.H⟩ (G.set p (.dead st)):=by
 have gE:p<G.length:=(H7.1 hG).1;have hle:CxLe c ⟨c.hd,λq=>c.Fz q∨Nv x=some q,c.H⟩:=⟨λp k h e=>⟨k,h,e,If _,λ_=>rfl,λ_=>rfl⟩,λq hq=>⟨.inl hq,rfl⟩⟩;have gB:∀q,Nv x=some q→O9 c G q:=λq hq=>⟨p,ob,k,x,hG,hl,hp,hq⟩
 have hinv:∀{q:Nat} {gg:LObj},(G.set p (.dead st))[q]?=some gg→(q=p∧gg=.dead st)∨(q≠p∧G[q]?=some gg):=by
  intro q gg e;by_cases hq:q=p
  ·subst hq;rw[Ia gE]at e;cases e;exact .inl ⟨rfl,rfl⟩
  ·rw[H8 (Ne.symm hq)]at e;exact .inr ⟨hq,e⟩
 have gj:∀q,O9 ⟨c.hd,λq=>c.Fz q∨Nv x=some q,c.H⟩ (G.set p (.dead st)) q→O9 c G q∧Nv x≠some q:=by
  rintro q ⟨p1,gg,k1,h1,e1,e2,e3,e4⟩;rcases hinv e1 with ⟨_,rfl⟩|⟨gF,e1⟩
  ·cases e2
  ·exact⟨⟨p1,gg,k1,h1,e1,e2,e3,e4⟩,λhq=>gF (hs.excl p1 p gg ob k1 h1 k x q e1 hG e2 hl e3 hp e4 hq)⟩
 refine⟨⟨D9,λq hq=>hq.elim (hs.fz q) (λe=>hs.lt q (gB q e)),λq hq=>hs.lt q (gj q hq).1,λq hq hf=>hf.elim (hs.sep q (gj q hq).1) (gj q hq).2,λq gg k1 h1 e1 e2=>?_,?_⟩,⟨hle,If _,λ_ _ _=>rfl,λq hq=>.inl (gj q hq).1,λq hq=>hq.elim .inl (λe=>.inr (.inl (gB q e))),λq gg gC e1 e2=>?_,λq gg gC k1 h1 o1 e1 e2 e3 e4 e5 e6=>?_⟩⟩
 ·rcases hinv e1 with ⟨_,rfl⟩|⟨_,e1⟩
  ·trivial
  ·by_cases gG:gg.live=true
   ·exact (hs.obj q gg k1 h1 e1 e2).mono hle (λ_ _=>rfl)
   ·cases gg<;>first|exact absurd rfl gG|trivial
 ·intro q r gg gC k1 h1 k2 h2 o1 e1 e2 e3 e4 e5 e6 e7 e8;rcases hinv e1 with ⟨_,rfl⟩|⟨_,e1⟩
  ·cases e3
  ·rcases hinv e2 with ⟨_,rfl⟩|⟨_,e2⟩
   ·cases e4
   ·exact hs.excl q r gg gC k1 h1 k2 h2 o1 e1 e2 e3 e4 e5 e6 e7 e8
 ·rcases hinv e2 with ⟨rfl,rfl⟩|⟨_,e2⟩
  ·rw[hG]at e1;cases e1;exact Mv gD
  ·rw[e1]at e2;cases e2;exact If _
 ·rcases hinv e2 with ⟨rfl,rfl⟩|⟨_,e2⟩
  ·rw[hG]at e1;cases e1;have:ob.st=st:=e6;omega
  ·rw[e1]at e2;cases e2;exact⟨rfl,rfl,rfl⟩
def ARs.parts{c:Cx}:∀{a b:List LV} {v:LV} {r:List AV},ARs c (a++v::b) r→∃ra x rb,r=ra++x::rb∧ARs c a ra∧AR c v x∧ARs c b rb
 |[],b,v,r,h=>by
  cases h with
  |cons e es=>exact⟨[],_,_,rfl,.nil,e,es⟩
 |w::a,b,v,r,h=>by
  cases h with
  |cons e es =>
   obtain⟨ra,x,rb,rfl,h1,h2,h3⟩:=ARs.parts (a:=a) es;exact⟨_::ra,x,rb,rfl,.cons e h1,h2,h3⟩
def ARs.join{c:Cx}:∀{a b:List LV} {v:LV} {ra rb:List AV} {x:AV},ARs c a ra→AR c v x→ARs c b rb→ARs c (a++v::b) (ra++x::rb)
 |[],_,_,_,_,_,h1,h2,h3=>by cases h1;exact .cons h2 h3
 |_::a,_,_,_,_,_,h1,h2,h3=>by
  cases h1 with
  |cons e es=>exact .cons e (ARs.join es h2 h3)
def Zv{t:LTgt}{a b:List LV}{p k len st:Nat}{l:List LV}(M:F[p]?=some (.dyn l len g k st))(h:Qa z t (a++.lst l len g::b) (F.set p (.dead (st+1))) P) :
  Qa z t (a++.dy p k::b) F P:=by
 refine⟨h.1,λc C D E G V=>?_⟩;obtain⟨ra,x,rb,rfl,X,Y,Z⟩:=V.parts;cases Y with
 | @dy _ _ k' O _ e hk H gg =>
  obtain⟨r0,I,j⟩:=E.obj p _ _ _ M e;have K:=H J;obtain⟨Q,B⟩:=E.freeze' (st:=st+1) M rfl (I9 _) e;have hx:AR ⟨c.hd,λq=>c.Fz q∨Nv O=some q,c.H⟩ (.lst l len g) x:=by
   rw[K];rcases j with ⟨j,L⟩|⟨o,v,R,t,S,l',j,L,r4,r5,T,r7,r8⟩
   ·subst L;have hl:l=[]:=Is (by simpa using I);subst hl;rw[j];exact .lstNil
   ·have gj:l'.length=len*g:=by rw[←T.length];exact I
    have U:=Tz (i:=0) (n:=len*g) L r5 r4 J;rw[Jv,Io J]at U;rw[j];exact .lst (.inr rfl) (λr e=>(r7 r e).2) I U (T.mono (j ▸ B.le))
  have A:uv ⟨c.hd,λq=>c.Fz q∨Nv O=some q,c.H⟩ t C:=by
   cases t<;>cases C<;>exact G
  obtain⟨m,v1,H',q1,c1,v,G1,q2,q3,q4,q5,q6⟩:=h.2 _ C _ Q A (.join (X.mono B.le) hx (Z.mono B.le));exact⟨m,v1,H',q1,c1,v,G1,q2,q3,B.trans E Q q4,q5,q6⟩
section
def HSim.sub{c:Cx}{G:M4}(hs:HSim c G){p len esz ver st:Nat}{l l':List LV}(hG:G[p]?=some (.dyn l len esz ver st))(hl:∀r,ARs c l r→ARs c l' r) :
  HSim c (G.set p (.dyn l' len esz ver (st+1)))∧Step c G c (G.set p (.dyn l' len esz ver (st+1))):=by
 have gE:p<G.length:=(H7.1 hG).1;have hle:CxLe c c:=⟨λp k h e=>⟨k,h,e,If _,λ_=>rfl,λ_=>rfl⟩,λq hq=>⟨hq,rfl⟩⟩;have hinv:∀{q:Nat} {gg:LObj},(G.set p (.dyn l' len esz ver (st+1)))[q]?=some gg→(q=p∧gg=.dyn l' len esz ver (st+1))∨(q≠p∧G[q]?=some gg):=by
  intro q gg e;by_cases hq:q=p
  ·subst hq;rw[Ia gE]at e;cases e;exact .inl ⟨rfl,rfl⟩
  ·rw[H8 (Ne.symm hq)]at e;exact .inr ⟨hq,e⟩
 have gj:∀{q:Nat} {gg:LObj},(G.set p (.dyn l' len esz ver (st+1)))[q]?=some gg→gg.live=true→∃gB,G[q]?=some gB∧gB.live=true:=by
  intro q gg e gF;rcases hinv e with ⟨rfl,rfl⟩|⟨_,e⟩
  ·exact⟨_,hG,rfl⟩
  ·exact⟨_,e,gF⟩
 have gC:∀q,O9 c (G.set p (.dyn l' len esz ver (st+1))) q→O9 c G q:=by
  rintro q ⟨p1,gg,k1,h1,e1,e2,e3,e4⟩;obtain⟨gB,f1,f2⟩:=gj e1 e2;exact⟨p1,gB,k1,h1,f1,f2,e3,e4⟩
 refine⟨⟨D9,hs.fz,λq hq=>hs.lt q (gC q hq),λq hq=>hs.sep q (gC q hq),λq gg k1 h1 e1 e2=>?_,?_⟩,⟨hle,If _,λ_ _ _=>rfl,λq hq=>.inl (gC q hq),λq hq=>.inl hq,λq gg gB e1 e2=>?_,λq gg gB k1 h1 o1 e1 e2 e3 e4 e5 e6=>?_⟩⟩
 ·rcases hinv e1 with ⟨rfl,rfl⟩|⟨_,e1⟩
  ·obtain⟨a1,a2,a3⟩:=hs.obj q _ k1 h1 hG e2;rcases a3 with ⟨b1,b2⟩|⟨o,v,room,t,gD,lr,b1,b2,b3,b4,b5,b6,b7⟩
   ·have gG:l=[]:=Is (by rw[a2,b2];simp);subst gG;have h9:=hl [] .nil;cases h9;exact⟨a1,a2,.inl ⟨b1,b2⟩⟩
   ·have h9:=hl _ b5;exact⟨a1,by rw[h9.length,←b5.length];exact a2,.inr ⟨o,v,room,t,gD,lr,b1,b2,b3,b4,h9,b6,b7⟩⟩
  ·exact hs.obj q gg k1 h1 e1 e2
 ·intro q r gg gB k1 h1 k2 h2 o1 e1 e2 e3 e4 e5 e6 e7 e8;obtain⟨gH,f1,f2⟩:=gj e1 e3;obtain⟨gI,f3,f4⟩:=gj e2 e4;exact hs.excl q r gH gI k1 h1 k2 h2 o1 f1 f3 f2 f4 e5 e6 e7 e8
 ·rcases hinv e2 with ⟨rfl,rfl⟩|⟨_,e2⟩
  ·rw[hG]at e1;cases e1;exact K4 _
  ·rw[e1]at e2;cases e2;exact If _
 ·rcases hinv e2 with ⟨rfl,rfl⟩|⟨_,e2⟩
  ·rw[hG]at e1;cases e1;have:st=st+1:=e6;omega
  ·rw[e1]at e2;cases e2;exact⟨rfl,rfl,rfl⟩
section sub
variable {P : Program} {G : M4} {p len esz ver st : Nat} {l l' : List LV}
def fk{f n:Nat}{s:LC}{ρ:M7}{gg:Pm}(C:G[p]?=some (.dyn l len esz ver st))(D:∀c r,ARs c l r→ARs c l' r)(k:W P f n s Y ρ Z (G.set p (.dyn l' len esz ver (st+1))) gg):W P f n s Y ρ Z G gg:=by
 intro g c gj E j F H A I K L;obtain⟨B,M⟩:=A.sub C (D c);obtain⟨m,x,O,z,Q,R,S,T,U,V,X,q4,q5,q6⟩:=k g c gj E j F H B I K L;exact⟨m,x,O,z,Q,R,S,T,U,V,Step.trans A B M X,q4,q5,q6⟩
def ztw{t:LTgt}{args':List LV}{C:LV→M4→Prop}(h:∀c r,ARs c D r→ARs c args' r)(k:Qa P t args' G C):Qa P t D G C :=
 ⟨k.1,λc j g z A B=>k.2 c j g z A (h c _ B)⟩
end sub
def ln{c:Cx}{a:AV}(h:AR c .nilSl a):AR c (.lst [] 0 1) a:=by cases h;exact .lstNil
def zs3{c:Cx}:∀(n:Nat) (r:List AV),ARs c (Ni [.nilSl] n) r→ARs c (List.replicate n (.lst [] 0 1)) r
 |0,_,h=>h
 |n+1,_,h=>by
  cases h with
  |cons e g=>exact .cons (ln e) (zs3 n _ g)
end


section
def zqf{l:List LV}(h:∀v∈l,v.dat=true):dats l=true:=by
 induction l with
 |nil=>rfl
 |cons v l g=>rw[dats,h v (Kj ..),g λw hw=>h w (Jg _ hw)];rfl
def zgh{l:List LV}(h:dats l=true):∀v∈l,v.dat=true:=by
 induction l with
 |nil=>intro v g;cases g
 |cons w l j =>
  rw[dats,H9]at h;intro v g;rcases Ik.1 g with rfl|g
  ·exact h.1
  ·exact j h.2 v g
def zjy{l:List LV}(n:Nat)(h:dats l=true):dats (l.take n)=true:=zqf λv g=>zgh h v (Lm g)
def zu6{l:List LV}(n:Nat)(h:dats l=true):dats (l.drop n)=true:=zqf λv g=>zgh h v (J5 g)
def xj{a b:List LV}(h:dats a=true)(k:dats b=true):dats (a++b)=true:=zqf λv g=>(I2.1 g).elim (zgh h v) (zgh k v)
def zga{l r:List LV}{i:Nat}(h:dats l=true)(k:dats r=true):dats (Nu l i r)=true:=by
 unfold Nu;exact xj (xj (zjy _ h) k) (zu6 _ h)
def M5{G x:M4}{i:Nat}(h:i<G.length):(G++x)[i]?=G[i]?:=Ic h
def N7(b:Nat)(G:M4)(v:LV)(esz n:Nat)(l:List LV):Prop :=
 (v=.nilSl∧n=0∧l=[])∨∃(p k:Nat) (g:List LV) (m st:Nat),b≤p∧G[p]?=some (.dyn g m esz k st)∧g.length=m*esz∧n≤m∧l=g.take (n*esz)∧dats g=true∧((v=.dy p k∧n=m)∨v=.vw p k 0 n)
section std
variable {b : Nat} {G G' : M4} {v : LV} {esz n : Nat} {l x : List LV}
def N7.nil:N7 b G .nilSl esz 0 []:=.inl ⟨rfl,rfl,rfl⟩
def N7.stk(h:N7 b G v esz n l):Rb b G v esz n l:=by
 rcases h with h|⟨p,k,R,m,st,h1,h2,h3,h4,h5,_,h6⟩
 ·exact .inl h
 ·exact .inr ⟨p,k,R,m,st,h1,h2,h3,h4,h5,h6⟩
def N7.dy{p k st:Nat}(hb:b≤p)(hp:G[p]?=some (.dyn l n esz k st))(hl:l.length=n*esz)(hd:dats l=true):N7 b G (.dy p k) esz n l :=
 .inr ⟨p,k,l,n,st,hb,hp,hl,If _,by rw[Io J],hd,.inl ⟨rfl,rfl⟩⟩
def N7.frame(h:N7 b G v esz n l)(hf:∀q,b≤q→q<G.length→G'[q]?=G[q]?):N7 b G' v esz n l:=by
 rcases h with h|⟨p,k,R,m,st,h1,h2,h3⟩
 ·exact .inl h
 ·exact .inr ⟨p,k,R,m,st,h1,by rw[hf p h1 (H7.1 h2).1];exact h2,h3⟩
def N7.set_lt(h:N7 b G v esz n l){q:Nat}{ob:LObj}(hq:q<b):N7 b (G.set q ob) v esz n l :=
 h.frame λr hr _=>H8 J
def N7.push_end(h:N7 b G v esz n l){ob:List LObj}:N7 b (G++ob) v esz n l :=
 h.frame λ_ _ hr=>Ic hr
def N7.bor(h:N7 b G v esz n l):Go.Sv.bor G v (.lst l n esz):=by
 rcases h with ⟨rfl,rfl,rfl⟩|⟨p,k,R,m,st,h1,h2,h3,h4,rfl,hd,⟨rfl,rfl⟩|rfl⟩
 ·exact .inr ⟨_,rfl⟩
 ·exact⟨R,_,_,_,by rw[Io J],h2,hd⟩
 ·have:=Ip esz h4;exact⟨R,_,_,_,by rw[Kz,Jv],h2,J,hd⟩
def N7.lenL(h:N7 b G v esz n l){K:Nat→Prop}(k:K n):Go.Sv.lenL G v K:=h.stk.lenL k
def N7.cells(h:N7 b G v esz n l):v.cells=some [v]:=h.stk.cells
def N7.at1(h:N7 b G v 1 n l){i:Int}(h0:0≤i)(hi:i<n){K:LV→Prop}(k:∀a,(∀K':LV→Prop,Oj l i.toNat K'→Vn G a K')→K a):Wh G 1 v i K:=by
 refine h.stk.ix h0 hi λp gg R m st h1 h2 h3 h4=>k _ λK' hk=>?_
 rw[read1_dptr,h2];obtain⟨w,hw,hk⟩:=hk;refine⟨rfl,w,?_,hk⟩;rw[K0]at h3 ⊢;rw[h3 _ J];exact hw
def Rs:LV→Option Nat
 |.dy p _=>some p
 |.vw p _ _ _=>some p
 |_=>none
def N7.frame2(h:N7 b G v esz n l)(hf:∀q,Rs v=some q→G'[q]?=G[q]?):N7 b G' v esz n l:=by
 rcases h with h|⟨p,k,R,m,st,h1,h2,h3,h4,h5,h6,h7⟩
 ·exact .inl h
 ·refine .inr ⟨p,k,R,m,st,h1,?_,h3,h4,h5,h6,h7⟩;rw[hf p (by rcases h7 with ⟨rfl,_⟩|rfl<;>rfl)];exact h2
def N7.row(h:N7 b G v esz n l){q:Nat}(hq:Rs v=some q):b≤q∧q<G.length∧∃R m k st,G[q]?=some (.dyn R m esz k st):=by
 rcases h with ⟨rfl,_⟩|⟨p,k,R,m,st,h1,h2,h3,h4,h5,h6,⟨rfl,_⟩|rfl⟩
 ·cases hq
 ·cases hq;exact⟨h1,(H7.1 h2).1,_,_,_,_,h2⟩
 ·cases hq;exact⟨h1,(H7.1 h2).1,_,_,_,_,h2⟩
def N7.cut2(h:N7 b G v esz n l){m:Nat}(hm:m≤n){lo:(Nat→Prop)→Prop}{hi:Nat→(Nat→Prop)→Prop}(gg:∀K':Nat→Prop,K' 0→lo K')(gj:∀(d:Nat) (K':Nat→Prop),K' m→hi d K'){K:LV→Prop}
  (k:∀v',N7 b G v' esz m (l.take (m*esz))→Rs v'=Rs v→K v'):Zq G esz v lo hi K:=by
 rcases h with ⟨rfl,rfl,rfl⟩|⟨p,gB,R,m',st,h0,h1,h2,h3,rfl,hd,⟨rfl,rfl⟩|rfl⟩
 ·have:m=0:=J
  subst this;rw[slL_nil];exact gg _ (gj _ _ ⟨rfl,rfl,k _ (.inl ⟨rfl,rfl,N⟩) rfl⟩)
 ·rw[slL_dy,h1];refine⟨rfl,rfl,gg _ (gj _ _ ⟨J,hm,k _ (.inr ⟨p,gB,R,n,st,h0,h1,h2,hm,?_,hd,.inr rfl⟩) rfl⟩)⟩;rw[Lr,Jt (Ip _ hm)]
 ·rw[slL_vw,h1];refine⟨rfl,rfl,gg _ (gj _ _ ⟨J,hm,k _ (.inr ⟨p,gB,R,m',st,h0,h1,h2,J,?_,hd,.inr rfl⟩) rfl⟩)⟩;rw[Lr,Jt (Ip _ hm)]
def N7.push2(h:N7 b G v esz n l)(hz:0<esz)(hb:b≤G.length)(hn:n≤1000000000)(hx:x.length=esz)(gg:dats x=true){K:LV→M4→Prop}
  (k:∀(v':LV) (G':M4),N7 b G' v' esz (n+1) (l++x)→(∀q,q<G.length→Rs v≠some q→G'[q]?=G[q]?)→G.length≤G'.length→(Rs v'=Rs v∨Rs v'=some G.length)→K v' G'):O2 G esz v 1 x K:=by
 have gB:=h.stk.length;have fresh:∀l',l'=l++x→dats l'=true→K (.dy G.length 0) (G++[.dyn l' (n+1) esz 0 0]):=by
  rintro l' rfl hd;refine k _ _ (.dy hb (st:=0) Ja (by rw[Im,gB,hx,I5];omega) hd) (λq hq _=>Ic hq) N (.inr rfl)
 rcases h with ⟨rfl,rfl,rfl⟩|⟨p,gC,R,m,st,h0,h1,h2,h3,rfl,hd,⟨rfl,rfl⟩|rfl⟩
 ·rw[appL_nil];exact fresh _ rfl gg
 ·have hp:p<G.length:=(H7.1 h1).1;rw[Io J]at k;rw[appL_dy,h1];refine⟨rfl,⟨rfl,hz⟩,hn,k _ _ (.dy h0 (Ia hp) Dd (xj hd gg)) (λq _ hq=>H8 (λe=>hq (by rw[←e];rfl))) N (.inl rfl)⟩
 ·have hp:p<G.length:=(H7.1 h1).1;have hm:=Ip esz h3;have ha:(n+1)*esz=n*esz+esz:=Ey
  rw[appL_vw,h1];refine⟨rfl,⟨rfl,rfl,J⟩,hn,?_⟩;by_cases hf:(n+1)*esz≤R.length
  ·rw[Ij hf];have gj:n+1≤m:=by
    rw[h2]at hf;exact M0 hf hz
   refine⟨k _ _ (.inr ⟨p,gC,_,m,_,h0,Ia hp,?_,gj,?_,zga hd gg,.inr rfl⟩) (λq _ hq=>H8 (λe=>hq (by rw[←e];rfl))) N (.inl rfl),fresh _ rfl (xj (zjy _ hd) gg)⟩
   ·unfold Nu;simp;omega
   ·unfold Nu;have e1:(R.take (n*esz)++x).length=(n+1)*esz:=by rw[Im,gB,hx,ha]
    rw[Li e1]
  ·rw[Ii hf];have gj:n=m:=by
    rw[h2]at hf;have:¬n+1≤m:=λq=>hf (Ip _ q)
    omega
   subst gj;have ht:R.take (n*esz)=R:=Io J;rw[ht]at k fresh;refine⟨rfl,hz,k _ _ (.dy h0 (Ia hp) Dd (xj hd gg)) (λq _ hq=>H8 (λe=>hq (by rw[←e];rfl))) N (.inl rfl),fresh _ rfl (xj hd gg)⟩
end std
end
section
section deep
variable {P : Program}
end deep
end
section
def Rg(b:Nat)(G:M4)(v:LV)(esz n:Nat)(l:List LV):Prop :=
 dats l=true∧l.length=n*esz∧((v=.nilSl∧n=0∧l=[])∨∃(p k st:Nat),b≤p∧v=.dy p k∧G[p]?=some (.dyn l n esz k st))
section dys
variable {b : Nat} {G G' : M4} {v : LV} {esz n : Nat} {l x : List LV}
def Rg.nil:Rg b G .nilSl esz 0 []:=⟨rfl,N,.inl ⟨rfl,rfl,rfl⟩⟩
def Rg.frame(h:Rg b G v esz n l)(hf:∀q,b≤q→q<G.length→G'[q]?=G[q]?):Rg b G' v esz n l:=by
 obtain⟨h1,h2,h|⟨p,k,st,a,e,c⟩⟩:=h
 ·exact⟨h1,h2,.inl h⟩
 ·exact⟨h1,h2,.inr ⟨p,k,st,a,e,by rw[hf p a (H7.1 c).1];exact c⟩⟩
def Rg.push_end(h:Rg b G v esz n l){ob:List LObj}:Rg b (G++ob) v esz n l :=
 h.frame λ_ _ hr=>Ic hr
def Rg.push{c:Nat}(h:Rg b G v esz n l)(hz:0<esz)(hb:b≤G.length)(hn:n≤1000000000)(hx:x.length=c*esz)(gg:dats x=true){K:LV→M4→Prop}
  (k:∀(v':LV) (G':M4),Rg b G' v' esz (n+c) (l++x)→(∀q,q<b→G'[q]?=G[q]?)→G.length≤G'.length→K v' G'):O2 G esz v c x K:=by
 obtain⟨h1,h2,h⟩:=h;have hl:(l++x).length=(n+c)*esz:=by rw[Im,h2,hx,I5]
 rcases h with ⟨rfl,rfl,rfl⟩|⟨p,gj,st,a,rfl,e⟩
 ·rw[appL_nil];refine k _ _ ⟨by simpa using gg,hl,.inr ⟨G.length,0,0,hb,rfl,?_⟩⟩ (λq hq=>Ic J) N;rw[Ja];simp
 ·have hp:=(H7.1 e).1;rw[appL_dy,e];exact⟨rfl,⟨rfl,hz⟩,hn,k _ _ ⟨dats_app h1 gg,hl,.inr ⟨p,gj+1,st+1,a,rfl,Ia hp⟩⟩ (λq hq=>H8 J) N⟩
end dys
end
section
section dys
variable {b : Nat} {G G' : M4} {v : LV} {esz n : Nat} {l x : List LV}
end dys
end
section
def spl:Nat→LC→LC×LC
 |0,.seq a b=>(a,b)
 |n+1,.seq a b=>(.seq a (spl n b).1,(spl n b).2)
 |_,s=>(s,.skip)
section spl
variable {P : Program} {f n : Nat} {ro : Option Nat}
end spl
end
section
set_option linter.unusedSimpArgs false
section lib
variable {P : Program} {f : Nat} {G : M4} {K : LV → M4 → Prop}
def zp2:Ti 1 g C M=Vf g C M:=rfl
def lib_del:Ti 2 g C M=cw g C M:=rfl
def zdc{k:Nat}(A:S3 P f=g)(z:Qy P f=k)(B:k≠0)(C:ox P f)(D:Heap)(j:List AV){v:AV}{H':Heap}(h:Ti k g D j=.ok v H'):Q6 P (OL P) 1 (.fn f) j D=.ok v H':=by
 unfold Q6;dsimp only;rw[uw (by rw[z];exact B) C,z,A,h]
def zqu{c:Cx}(F:HSim c G){p st len:Nat}{o v z:_}{t:Tr AV}(H:G[p]?=some (.dyn D len B g st))(e:c.hd[p]?=some (g,.sl o v 0 len B z))(Y:c.H.get o=some (.cells t Q v false))
  (T:ARs c U M) (V:U.length=j*B) (k:K (.dy p (g+1)) (G.set p (.dyn U j B (g+1) (st+1)))) :
  ∃X H',rowTo c.H o v j B M=.ok X H'∧∃E w I,E.H=H'∧HSim E I∧Step c G E I∧AR E w X∧K w I:=by
 have L:p<c.hd.length:=by rw[F.len];exact (H7.1 H).1
 have O:o<c.H.next:=F.lt o ⟨p,_,_,_,H,rfl,e,rfl⟩;have A:M.length=j*B:=by rw[←T.length];exact V
 have C:rowTo c.H o v j B M=.ok (.sl o (v+1) 0 j B none) (c.H.put o (.cells (Pp M 0 .e) M.length (v+1) false)):=by
  unfold rowTo;rw[Y];dsimp only;rw[I3]
 refine⟨_,_,C,?_⟩;obtain⟨Z,q2,_⟩:=F.upd (k':=g+1) (x':=.sl o (v+1) 0 j B none) (ob':=.dyn U j B (g+1) (st+1)) (H':=c.H.put o (.cells (Pp M 0 .e) M.length (v+1) false)) H rfl e (If _) (λo' _ R=>Heap.get_put_ne _ _ (λq=>R C5))
  (λo' e'=>by cases e';exact⟨.inl rfl,O⟩) (K4 _) (λq=>J) (λq=>Dl) (.inl (I9 _))
  (λS=>⟨rfl,V,.inr ⟨o,v+1,none,_,_,M,rfl,Heap.get_put_same _ _ _,J,by rw[←A];exact nr M,T.mono S,λr q=>Dl,λ_=>A⟩⟩)
 exact⟨_,.dy p (g+1),_,rfl,Z,q2,.dy (k':=g+1) (h:=.sl o (v+1) 0 j B none) (by dsimp only;rw[Ia L]) (If _) (λ_=>rfl) rfl,k⟩
def zxo(ht:jh P (.fn f))(hk:Qy P f=1)(hr:ox P f){p st len q i:Nat}(hz:S3 P f=j){x:List LV}(I:G[p]?=some (.dyn D len j g st))(hq:G[q]?=some (.dyn x 1 j B Q))(V:p≠q)(hi:i≤len)(he:1≤j)(hl:len≤1000000000)
  (k:K (.dy p (g+1)) (G.set p (.dyn (D.take (i*j)++x++D.drop (i*j)) (len+1) j (g+1) (st+1)))):Qa P (.fn f) [.dy p g,.i i,.dy q B] G K:=by
 refine⟨ht,λc t1 X H L E=>?_⟩;cases t1 with
 |yield o=>exact L.elim
 |fn gQ =>
  obtain rfl:f=gQ:=L;cases E with
  |cons h1 E =>
   cases E with
   |cons h2 E =>
    cases E with
    |cons h3 E =>
     cases E;cases h2;cases h1 with
     | @dy _ _ S hh a1 T gI Y gK =>
      cases h3 with
      | @dy _ _ k2 hx a3 e2 gL Z gM =>
       obtain⟨rfl,r1,r2⟩:=H.obj p _ _ _ I T;obtain⟨rfl,x1,x2⟩:=H.obj q _ _ _ hq e2;obtain rfl:=Y rfl;obtain rfl:=Z rfl;rcases x2 with ⟨_,x2⟩|⟨M,v2,z,t2,gg,F,rfl,y3,y4,y5,y6,y7,y8⟩
       ·cases x2
       have rx:=Tz (i:=0) (n:=j) y3 y5 y4 J;have gj:F.length=j:=by rw[←y6.length,x1,L6]
       rw[Jv,Io J]at rx;have A:(D.take (i*j)++x++D.drop (i*j)).length=(len+1)*j:=by
        have O:i*j≤len*j:=Ip _ hi;simp only[Im,Iu,Jk,r1,x1,I5,L6];omega
       rcases r2 with ⟨rfl,U⟩|⟨o,v,R,t,gH,l',rfl,U,r4,r5,r6,r7,r8⟩
       ·
        subst U;have gB:D=[]:=Is Cw;have gC:i=0:=J
        subst gB gC;simp only[Kz,List.take_nil,K9,List.drop_nil,Jf,Jc]at k A;have C:Ti 1 j c.H [.nilSl,.int .i64 (Int.ofNat 0),.sl M v2 0 1 j z]=.ok (.sl c.H.next 0 0 1 j none) (c.H.push (.cells (Pp F 0 .e) F.length 0 false)):=by
         rw[zp2];unfold Vf;dsimp only;rw[(Fq:(Nat.beq 0 0&&(Nat.beq 1 1&&(Nat.beq j j&&Nat.ble 1 j)))=true)];dsimp only;rw[rx]
        refine⟨1,_,_,zdc hz hk Ad hr c.H _ C,?_⟩;have gD:p<c.hd.length:=by rw[H.len];exact (H7.1 I).1
        obtain⟨q1,q2,_⟩:=H.upd (k':=S+1) (x':=.sl c.H.next 0 0 1 j none) (ob':=.dyn x 1 j (S+1) (st+1)) (H':=c.H.push (.cells (Pp F 0 .e) F.length 0 false)) I rfl T (K4 _) (λo' gE _=>Heap.get_push_ne _ _ gE)
         (λo' e'=>by cases e';exact⟨.inr (If _),I9 _⟩) (K4 _) (λq=>J) (λq=>Dl) (.inl (I9 _))
         (λO=>⟨rfl,x1,.inr ⟨c.H.next,0,none,_,_,F,rfl,Heap.get_push_same _ _,J,by rw[L6,←gj];exact nr F,y6.mono O,λr q=>Dl,λ_=>J⟩⟩)
        exact⟨_,.dy p (S+1),_,rfl,q1,q2,.dy (k':=S+1) (h:=.sl c.H.next 0 0 1 j none) (by dsimp only;rw[Ia gD]) (If _) (λ_=>rfl) rfl,k⟩
       ·have gP:l'.length=len*j:=Cn
        have rr:=Tz (i:=0) (n:=len*j) U r5 r4 J;rw[Jv,Io J]at rr;obtain⟨v1,H',w1,w2⟩:=zqu (K:=K) H I T U (((r6.take (i*j)).append y6).append (r6.drop (i*j))) A k;have C:Ti 1 j c.H [.sl o v 0 len j R,.int .i64 (Int.ofNat i),.sl M v2 0 1 j z]=.ok v1 H':=by
         rw[zp2];unfold Vf;have gF:Nat.beq o M=false:=by
          cases gG:Nat.beq o M with
          |false=>rfl
          |true=>exact absurd (H.excl p q _ _ _ _ _ _ o I hq rfl rfl T e2 rfl (by rw[Ig gG];rfl)) V
         have hb:(!(Nat.beq o M)&&(Nat.beq 0 0&&(Nat.beq 1 1&&(Nat.beq j j&&(Nat.beq j j&&(Nat.ble i len&&(Nat.ble 1 j&&Nat.ble len Nm)))))))=true:=by
          simp only[gF,Mj,I3,Ih hi,Ih he,show Nat.ble len Nm=true from Ih hl,Bool.and_self]
         dsimp only;rw[hb];dsimp only;rw[show Nat.mul len j=len*j from rfl,rr,rx];exact w1
        exact⟨1,_,_,zdc hz hk Ad hr c.H _ C,w2⟩
def zmq(V:jh P (.fn f))(X:Qy P f=1)(Y:ox P f){q:Nat}{x:List LV}(Z:S3 P f=g)(hq:G[q]?=some (.dyn x 1 g j B))(he:1≤g)
  (k:K (.dy G.length 0) (G++[.dyn x 1 g 0 0])):Qa P (.fn f) [.nilSl,.i (0:Int),.dy q j] G K:=by
 refine⟨V,λc t1 I F D A=>?_⟩;cases t1 with
 |yield o=>exact D.elim
 |fn gB =>
  obtain rfl:f=gB:=D;cases A with
  |cons h1 A =>
   cases A with
   |cons h2 A =>
    cases A with
    |cons h3 A =>
     cases A;cases h2;cases h1 with
     |nilSl =>
      cases h3 with
      | @dy _ _ k2 hx a3 e2 gg L gj =>
       obtain⟨rfl,S,M⟩:=F.obj q _ _ _ hq e2;obtain rfl:=L rfl;rcases M with ⟨_,M⟩|⟨o2,v2,C,t2,O,z,rfl,y3,y4,y5,T,y7,y8⟩
       ·cases M
       have U:=Tz (i:=0) (n:=g) y3 y5 y4 J;have Q:z.length=g:=by rw[←T.length,S,L6]
       rw[Jv,Io J]at U;have E:Ti 1 g c.H [.nilSl,.int .i64 (Int.ofNat 0),.sl o2 v2 0 1 g C]=.ok (.sl c.H.next 0 0 1 g none) (c.H.push (.cells (Pp z 0 .e) z.length 0 false)):=by
        rw[zp2];unfold Vf;dsimp only;rw[(Fq:(Nat.beq 0 0&&(Nat.beq 1 1&&(Nat.beq g g&&Nat.ble 1 g)))=true)];dsimp only;rw[U]
       refine⟨1,_,_,zdc Z X Ad Y c.H _ E,?_⟩;have R:CxLe c ⟨c.hd++[(0,.sl c.H.next 0 0 1 g none)],c.Fz,c.H.push (.cells (Pp z 0 .e) z.length 0 false)⟩:=⟨λp k h e=>⟨k,h,Ec,If _,λ_=>rfl,λ_=>rfl⟩,λo H=>⟨H,Heap.get_push_ne _ _ (F.fz o H)⟩⟩;obtain⟨q1,q2,q3⟩:=F.push (H':=c.H.push (.cells (Pp z 0 .e) z.length 0 false)) (x:=.sl c.H.next 0 0 1 g none) (ob:=.dyn x 1 g 0 0) (K4 _) (λo H=>Heap.get_push_ne _ _ H) (λo e=>Eu)
        ⟨rfl,S,.inr ⟨c.H.next,0,none,_,_,z,rfl,Heap.get_push_same _ _,J,by rw[L6,←Q];exact nr z,T.mono R,λr e=>Aq,λ_=>J⟩⟩
       exact⟨_,.dy G.length 0,_,rfl,q1,q2,.dy (k':=0) (h:=.sl c.H.next 0 0 1 g none) (by dsimp only;rw[←F.len];simp) (If _) (λ_=>rfl) rfl,k⟩
def zmk(X:jh P (.fn f))(Y:Qy P f=2)(Z:ox P f){p st len i:Nat}(hz:S3 P f=j)(O:G[p]?=some (.dyn D len j g st))(hi:i<len)(he:1≤j)(hl:len≤1000000000)
  (k:K (.dy p (g+1)) (G.set p (.dyn (D.take (i*j)++D.drop ((i+1)*j)) (len-1) j (g+1) (st+1)))):Qa P (.fn f) [.dy p g,.i i,.i ((i+1:Nat):Int)] G K:=by
 refine⟨X,λc t1 F Q B z=>?_⟩;cases t1 with
 |yield o=>exact B.elim
 |fn gC =>
  obtain rfl:f=gC:=B;cases z with
  |cons R z =>
   cases z with
   |cons H z =>
    cases z with
    |cons h3 z =>
     cases z;cases H;cases h3;cases R with
     | @dy _ _ k1 hh a1 S gg I gj =>
      obtain⟨rfl,T,r2⟩:=Q.obj p _ _ _ O S;obtain rfl:=I rfl;rcases r2 with ⟨rfl,L⟩|⟨o,v,C,t,U,l',rfl,L,r4,r5,M,r7,r8⟩
      ·omega
      have gB:l'.length=len*j:=by rw[←M.length];exact T
      have V:=Tz (i:=0) (n:=len*j) L r5 r4 J;rw[Jv,Io J]at V;have A:(D.take (i*j)++D.drop ((i+1)*j)).length=(len-1)*j:=by
       have R:i*j≤len*j:=Ip _ J;have H:(i+1)*j≤len*j:=Ip _ J;simp only[Im,Iu,Jk,T,I5,L6,Nat.sub_mul]at H ⊢;omega
      obtain⟨v1,H',w1,w2⟩:=zqu (K:=K) Q O S L ((M.take (i*j)).append (M.drop ((i+1)*j))) A k;have E:Ti 2 j c.H [.sl o v 0 len j C,.int .i64 (Int.ofNat i),.int .i64 (Int.ofNat (i+1))]=.ok v1 H':=by
       rw[lib_del];unfold cw;have hb:(Nat.beq 0 0&&(Nat.beq (i+1) (Nat.add i 1)&&(Nat.beq j j&&(Nat.ble (i+1) len&&(Nat.ble 1 j&&Nat.ble len Nm)))))=true:=by
        simp only[I3,show Nat.beq (i+1) (Nat.add i 1)=true from I3 _,Ih (J:i+1≤len),Ih he,show Nat.ble len Nm=true from Ih hl,Bool.and_self]
       dsimp only;rw[hb];dsimp only;rw[show Nat.mul len j=len*j from rfl,V];exact w1
      exact⟨1,_,_,zdc hz Y Ad Z c.H _ E,w2⟩
end lib
end
section
def FnW(P:Program)(f:Nat)(z:List LV)(F:LV→Prop):Prop :=
 jh P (.fn f)∧∀(B:Nat→Prop) (C:Heap) (g:List AV),(∀o,B o→o<C.next)→ARs ⟨[],B,C⟩ z g →
  ∃(D:LV) (m:Nat) (E:AV) (j:Nat→Prop) (A:Heap),F D∧D.dat=true∧Q6 P (OL P) m (.fn f) g C=.ok E A∧C.next≤A.next∧(∀o,B o→j o)∧(∀o,j o→o<A.next∧(B o∨C.next≤o))∧(∀o,o<C.next→A.get o=C.get o)∧AR ⟨[],j,A⟩ D E
section calls
variable {P : Program}
def FnW.mk{f:Nat}{args:List LV}{S:LV→Prop}(h:Qa P (.fn f) args [] λv G=>∃v0,S v0∧v0.dat=true∧O1 G v v0):FnW P f args S:=by
 refine⟨h.1,λFz H gg gB ha=>?_⟩;obtain⟨m,v1,H',q1,c1,v,G,rfl,q3,q4,q5,v0,hS,hd,q6⟩:=h.2 ⟨[],Fz,H⟩ (.fn f) gg (.empty gB) rfl ha;have gj:∀o,¬O9 ⟨[],Fz,H⟩ [] o:=λo ⟨p,_,_,_,e,_⟩=>B7
 refine⟨v0,m,v1,_,c1.H,hS,hd,q1,q4.nx,λo ho=>.inl (q4.le.fz o ho).1,λo ho=>⟨ho.elim (q3.fz o) (q3.lt o),?_⟩,λo ho=>q4.frame o ho (gj o),zxq q3 v v0 v1 q6 q5⟩;rcases ho with ho|ho
 ·rcases q4.fznew o ho with h|h|h
  ·exact .inl h
  ·exact absurd h (gj o)
  ·exact .inr h
 ·rcases q4.new o ho with h|h
  ·exact absurd h (gj o)
  ·exact .inr h
def zws{f:Nat}{gg:LV→M4→Prop}(I:FnW P f D vE)(K:dats D=true)(k:∀j,vE j→j.dat=true→gg j F):Qa P (.fn f) D F gg:=by
 obtain⟨L,A⟩:=I;refine⟨L,λc M g G B O=>?_⟩;cases M with
 |yield o=>exact B.elim
 |fn gj =>
  obtain rfl:f=gj:=B;obtain⟨j,m,H,z,C,Q,hd,R,S,T,U,V,X⟩:=A c.Fz c.H g G.fz (ARs.dat (c:=c) (c':=⟨[],c.Fz,c.H⟩) (λo E=>⟨E,rfl⟩) D g K O);obtain⟨Y,Z⟩:=zoo G S T U V;exact⟨m,H,C,R,⟨c.hd,z,C⟩,j,F,rfl,Y,Z,AR.dat (c:=⟨[],z,C⟩) (c':=⟨c.hd,z,C⟩) (λo E=>⟨E,rfl⟩) j H hd X,k j Q hd⟩
end calls
end
def Zx{t:LTgt}{a b:List LV}{p k n len st:Nat}{l:List LV}(L:F[p]?=some (.dyn l len g k st))(hn:n≤len)(h:Qa z t (a++.vw p k 0 n::b) F P) :
  Qa z t (a++.vf p k n::b) F P:=by
 refine⟨h.1,λc Q C D E R=>?_⟩;obtain⟨ra,x,rb,rfl,S,T,U⟩:=R.parts;cases T with
 | @vf _ _ _ k' hh _ e V G H =>
  have X:=(D.obj p _ _ _ L e).1;obtain⟨o,v,j,A,B,I,M⟩:=G J;have O:=e;rw[I]at O;obtain⟨_,_,q2,q3,_⟩:=Xq D L O;have Y:AR c (.vw p k 0 n) x:=by
   refine .vw e V (λK=>.inr ⟨o,v,j,A,B,some n,I,Dy,λr Z=>by cases Z;exact If _⟩) H λK=>?_
   rw[I,M];intro _;exact .inr ⟨n,rfl,J⟩
  exact h.2 c Q _ D E (.join S Y U)
section
set_option linter.unusedVariables false
def Rf(G:M4)(v d:LV):Prop:=∀(c:Cx) (a:AV),HSim c G→AR c v a→AR ⟨[],λo=>c.Fz o∨O9 c G o,c.H⟩ d a
section told
variable {P : Program} {G : M4}
def Rf.bor{v d:LV}(h:Go.Sv.bor G v d):Rf G v d:=λc a hs ha=>bor_ok hs v d a h ha
def Rf.row{p k len esz st:Nat}{l:List LV}(hg:G[p]?=some (.dyn l len esz k st))(hb:bors G l U):Rf G (.dy p k) (.lst U len esz):=λc a hs h=>by
 cases h with
 | @dy _ _ k' hh _ e hk ha _ =>
  obtain⟨r0,r1,r2⟩:=hs.obj p _ _ _ hg e;have gg:=ha J;rcases r2 with ⟨r2,r3⟩|⟨o,v,room,t,gj,l',r2,r3,r4,r5,r6,r7,r8⟩
  ·subst r3;have:l=[]:=Is Cw;subst this;obtain rfl:U=[]:=hb;rw[gg,r2];exact .lstNil
  ·have gB:l'.length=len*esz:=Cn
   have hr:=Tz (i:=0) (n:=len*esz) r3 r5 r4 J;rw[Jv,Io J]at hr;have h2:=bors_ok hs l U l' hb r6;rw[gg,r2];exact .lst (.inr ⟨p,_,_,_,hg,rfl,e,by rw[r2];rfl⟩) (λr e=>(r7 r e).2) (by rw[h2.length,←r6.length];exact r1) hr h2
def Rf.tup2{v d w e:LV}(h1:Rf G v d)(h2:Rf G w e):Rf G (.tup [v,w]) (.tup [d,e]):=λc a hs h=>by
 cases h with
 |tup h =>
  cases h with
  |cons e1 es =>
   cases es with
   |cons e2 es =>
    cases es;exact .tup (.cons (h1 c _ hs e1) (.cons (h2 c _ hs e2) .nil))
def Sf.mkT{f:Nat}{args:List LV}{v0:LV}(hd:v0.dat=true)(h:Qa P (.fn f) args [] λv G=>Rf G v v0):Sf P f args v0:=by
 refine⟨h.1,hd,λFz H gg gB ha=>?_⟩;obtain⟨m,v1,H',q1,c1,v,G,rfl,q3,q4,q5,q6⟩:=h.2 ⟨[],Fz,H⟩ (.fn f) gg (.empty gB) rfl ha;have gj:∀o,¬O9 ⟨[],Fz,H⟩ [] o:=λo ⟨p,_,_,_,e,_⟩=>B7
 refine⟨m,v1,_,c1.H,q1,q4.nx,λo ho=>.inl (q4.le.fz o ho).1,λo ho=>⟨ho.elim (q3.fz o) (q3.lt o),?_⟩,λo ho=>q4.frame o ho (gj o),q6 c1 v1 q3 q5⟩;rcases ho with ho|ho
 ·rcases q4.fznew o ho with h|h|h
  ·exact .inl h
  ·exact absurd h (gj o)
  ·exact .inr h
 ·rcases q4.new o ho with h|h
  ·exact absurd h (gj o)
  ·exact .inr h
end told
end
def pp{n:Nat}(h:n<18446744073709551616):(iU (n:Int)).toNat=n:=by
 rw[pe,UInt64.ofInt,Js];omega
def val:List UInt64→Nat
 |[]=>0
 |x::l=>x.toNat+18446744073709551616*val l
def zey(n:Nat):2^(64*(n+1))=18446744073709551616*2^(64*n):=by
 rw[Nat.mul_add,Nat.pow_add,L9]
def val_append:∀a b:List UInt64,val (a++b)=val a+2^(64*a.length)*val b
 |[],b=>by simp[val]
 |x::a,b=>by
  rw[Jl,val,val,val_append a b,Iy,zey,Nat.mul_add,Nat.mul_assoc];omega
def val_lt:∀a:List UInt64,val a<2^(64*a.length)
 |[]=>by simp[val]
 |x::a=>by
  have g:=x.toNat_lt;have j:=val_lt a;rw[val,Iy,zey];omega
def zk3(x:UInt64):val [x]=x.toNat:=by simp[val]
def Yk(a:List UInt64)(x:UInt64):val (a++[x])=val a+2^(64*a.length)*x.toNat:=by
 rw[val_append,zk3]
def z5t{a:List UInt64}{n:Nat}(h:n<a.length):a.take (n+1)=a.take n++[a.getD n 0]:=by
 rw[J3 h];simp[h]
def z8v{a:List UInt64}{n:Nat}(h:n<a.length):val (a.take (n+1))=val (a.take n)+2^(64*n)*(a.getD n 0).toNat:=by
 rw[z5t h,Yk,Iu,Jt J]
def U0:Nat→Nat→List UInt64
 |0,_=>[]
 |f+1,n=>if n=0 then [] else UInt64.ofNat n::U0 f (n/18446744073709551616)
def Oe(n:Nat):List UInt64:=U0 n n
def toLf_more:∀(f j n:Nat),n≤f→n≤j→U0 f n=U0 j n
 |0,0,_,_,_=>rfl
 |0,j+1,n,h,_=>by
  have:n=0:=J
  subst this;simp[U0]
 |f+1,0,n,_,h=>by
  have:n=0:=J
  subst this;simp[U0]
 |f+1,j+1,n,z,A=>by
  simp only[U0];by_cases g:n=0
  ·simp[g]
  ·rw[Ii g,Ii g,toLf_more f j (n/18446744073709551616) J J]
def toL_zero:Oe 0=[]:=rfl
def zqp{n:Nat}(h:n≠0):Oe n=UInt64.ofNat n::Oe (n/18446744073709551616):=by
 unfold Oe;cases n with
 |zero=>exact absurd rfl h
 |succ n =>
  rw[U0,Ii h,toLf_more n ((n+1)/18446744073709551616) _ J (If _)]
def ky(n:Nat):val (Oe n)=n:=by
 induction n using Nat.strongRecOn with
 |_ n g =>
  by_cases h:n=0
  ·subst h;rfl
  ·rw[zqp h,val,g _ J,Js];omega
def Trm(l:List UInt64):Prop:=l=[]∨l.getLast?.getD 0≠0
def zrx{x:UInt64}{l:List UInt64}(h:Trm (x::l)):Trm l:=by
 cases l with
 |nil=>exact .inl rfl
 |cons y l =>
  rcases h with h|h
  ·cases h
  ·exact .inr (by simpa [List.getLast?_cons_cons] using h)
def val_pos_of_Trm:∀{l:List UInt64},l≠[]→Trm l→val l≠0
 |[],h,_=>absurd rfl h
 |[x],_,h=>by
  rcases h with h|h
  ·cases h
  ·simp at h;rw[zk3];intro e;exact h (Jj.1 e)
 |x::y::l,_,h=>by
  have:=val_pos_of_Trm (l:=y::l) N (zrx h);rw[val];omega
def toL_val:∀{l:List UInt64},Trm l→Oe (val l)=l
 |[],_=>rfl
 |x::l,h=>by
  have g:=val_pos_of_Trm N h;rw[zqp g];have A:=x.toNat_lt;have j:UInt64.ofNat (val (x::l))=x:=by
   apply Jj.1;rw[Js,val];omega
  have z:val (x::l)/18446744073709551616=val l:=by rw[val];omega
  rw[j,z,toL_val (zrx h)]
def zsd{l:List UInt64}{x:UInt64}(h:x≠0):Trm (l++[x]):=.inr Bb
def ze4{n k:Nat}(h:n<2^(64*k)):(Oe n).length≤k:=by
 induction k generalizing n with
 | zero => have : n = 0 := by simpa using h
           subst this;simp[toL_zero]
 |succ k j =>
  by_cases g:n=0
  ·subst g;simp[toL_zero]
  ·rw[zqp g,Iy];have:=j (n:=n/18446744073709551616) (by rw[zey]at h;exact Nat.div_lt_of_lt_mul h);omega
def en(a:List UInt64):(Oe (val a)).length≤a.length:=ze4 (val_lt a)
def zg6{n k:Nat}(h:(Oe n).length≤k):n<2^(64*k):=by
 have:=val_lt (Oe n);rw[ky]at this;exact Ix this (Ll J J)
def zpn(n k:Nat):(Oe n).length≤k↔n<2^(64*k):=⟨zg6,ze4⟩
def RU(l:List UInt64):LObj:=.dyn (l.map .u) l.length 1 0 0
def Rj(g:M4)(v:LV)(l:List UInt64):Prop:=(v=.nilSl∧l=[])∨∃p k st,v=.dy p k∧g[p]?=some (.dyn (l.map .u) l.length 1 k st)
def Rj.sel{G:M4}{v:LV}{l:List UInt64}(h:Rj G v l):Wt G [v] [RU l]:=by
 rcases h with ⟨rfl,rfl⟩|⟨p,k,st,rfl,hg⟩
 ·simp[RU]
 ·simp[RU,hg]
def o8{l:List UInt64}:∀(z:Nat) (g:LObj),[RU l][z]?=some g→∃c len j,g=.dyn c len j 0 0∧c.all LV.scal=true:=by
 intro z g e;cases z with
 |zero=>simp at e;subst e;exact⟨_,_,_,rfl,N⟩
 |succ z=>simp at e
def Np.row{P:Program}{f:Nat}{args:List LV}{l:List UInt64}(h:Qa P (.fn f) args [] λv G=>Rj G v l):Np P f args (.dy 0 0) [RU l] :=
 Np.mk rfl (h.mono λv G e=>⟨[v],N,rfl,e.sel⟩) o8
def Np.rowE{P:Program}{f:Nat}{args:List LV}{l:List UInt64}{e:Int}(h:Qa P (.fn f) args [] λv G=>∃w,v=.tup [w,.i e]∧Rj G w l):Np P f args (.tup [.dy 0 0,.i e]) [RU l] :=
 Np.mk rfl (h.mono λv G ⟨w,e1,e2⟩=>⟨[w],by simp[e1],rfl,e2.sel⟩) o8
def zb(a b:UInt64):Bool→UInt64×Bool
 |false=>(a+b,decide (a+b<a))
 |true=>(a+b+1,decide (a+b<a) || decide (a+b+1=0))
def subC(a b:UInt64):Bool→UInt64×Bool
 |false=>(a-b,decide (a<b))
 |true=>(a-b-1,decide (a<b) || decide (a-b=0))
def zjh(x:UInt64):x=0↔x.toNat=0:=⟨λh=>by rw[h];rfl,λh=>Jj.1 (by rw[h];rfl)⟩
def Rl{p:Nat}{g:LObj}(h:F[p]?=some g)(x:M4):(F++x)[p]?=some g:=by
 rw[Ic (H7.1 h).1];exact h
def Wz{p:Nat}{j:LObj}(h:F[p]?=some j)(g:LObj):(F.set p g)[p]?=some g:=Ia (H7.1 h).1
def Sk{p q:Nat}(h:q≠p)(g:LObj):(F.set p g)[q]?=F[q]?:=H8 (Ne.symm h)
def Rj.app{G:M4}{v:LV}{l:List UInt64}(h:Rj G v l)(x:M4):Rj (G++x) v l:=by
 rcases h with h|⟨p,k,st,h1,h2⟩
 ·exact .inl h
 ·exact .inr ⟨p,k,st,h1,Rl h2 x⟩
def Yv(l:List UInt64):l.flatMap (λx=>[LV.u x])=l.map .u:=by
 induction l with
 |nil=>rfl
 |cons x l g=>simp[g]
def Rj.cells{G:M4}{v:LV}{l:List UInt64}(h:Rj G v l):v.cells=some [v]:=by
 rcases h with ⟨rfl,rfl⟩|⟨p,k,st,rfl,h2⟩<;>rfl
def zsk{v:LV}{l xs:List UInt64}{n:Nat}(h:Rj F v l)(I:n=xs.length)(g:D=xs.map .u)(K:l.length≤1000000000)
  (k:∀C E,Rj E C (l++xs)→(∀(q:Nat) (A:LObj),F[q]?=some A→(∀k,v≠.dy q k)→E[q]?=some A∧∀k,C≠.dy q k)→P C E):O2 F 1 v n D P:=by
 subst I g;rcases h with ⟨rfl,rfl⟩|⟨p,j,st,rfl,H⟩
 ·refine k _ _ (.inr ⟨F.length,0,0,rfl,N⟩) (λq A B _=>⟨Rl B _,λk e=>?_⟩);cases e;have:=(H7.1 B).1;omega
 ·simp only[O2,H];refine⟨N,⟨N,N⟩,Dr,k _ _ (.inr ⟨p,j+1,st+1,rfl,by rw[Wz H];simp⟩) (λq A B G=>?_)⟩;have z:q≠p:=λe=>G j Co
  exact⟨by rw[Sk z];exact B,λk e=>by cases e;exact z rfl⟩
def Rj.bor{G:M4}{v:LV}{l:List UInt64}(h:Rj G v l):bor G v (LU l):=by
 rcases h with ⟨rfl,rfl⟩|⟨p,k,st,rfl,hg⟩
 ·exact .inr ⟨1,N⟩
 ·exact⟨_,_,_,st,rfl,hg,N⟩
def zy1{v d:LV}(h:Go.Sv.bor F v d):bors F [v] [d]:=⟨d,[],rfl,h,rfl⟩
def Xw{v d g:LV}(h:Go.Sv.bor F v d)(j:Go.Sv.bor F K g):bors F [v,K] [d,g]:=⟨d,_,rfl,h,zy1 j⟩
def zdl{f:Nat}{l:List UInt64}(g:Np z f U (.dy 0 0) [RU l])(j:bors F D U)(k:P (.dy F.length 0) (F++[RU l])):Qa z (.fn f) D F P :=
 ij g j (by simpa using k)
def zf8{a:List UInt64}{n:Nat}(h:a.length≤n):val (a.take n)=val a:=by rw[Io h]
def ze9(a:List UInt64)(n:Nat):val (a.take (n+1))=val (a.take n)+2^(64*n)*(a.getD n 0).toNat:=by
 by_cases h:n<a.length
 ·exact z8v h
 ·rw[Io J,Io J];have:a.getD n 0=0:=by simp;rw[Kf J];rfl
  rw[this];simp
def val_getD:∀{a b:List UInt64},val a=val b→∀i,a.getD i 0=b.getD i 0
 |[],[],_,_=>rfl
 |[],y::b,h,i=>by
  simp only[val]at h;have j:y=0:=(zjh y).2 J;have z:val []=val b:=by simp only[val];omega
  have g:=val_getD z;cases i with
  |zero=>simp[j]
  |succ i=>simpa using g i
 |x::a,[],h,i=>by
  simp only[val]at h;have A:x=0:=(zjh x).2 J;have B:val a=val []:=by simp only[val];omega
  have g:=val_getD B;cases i with
  |zero=>simp[A]
  |succ i=>simpa using g i
 |x::a,y::b,h,i=>by
  simp only[val]at h;have C:=x.toNat_lt;have D:=y.toNat_lt;have e:x.toNat=y.toNat:=J
  have g:=val_getD (a:=a) (b:=b) J;cases i with
  |zero=>simpa using Jj.1 e
  |succ i=>simpa using g i
def opened:(∀a b,Sg a b=a+b)∧(∀a b,cq a b=a-b)∧(∀a b,Qz a b=a*b):=⟨zi6,zqh,yj⟩
noncomputable section
def Qw(bs:List UInt8):Nat→UInt64
 |0=>0
 |i+1=>orU (Qw bs i) (S4 (bU (bs.getD i 0)) (8*i))
def Xh(n:UInt64):Nat→List UInt8
 |0=>[]
 |i+1=>Xh n i++[uB (Py n (8*i))]
def T3:List UInt64→List UInt8
 |[]=>[]
 |x::l=>Xh x 8++T3 l
def Wk(bs:List UInt8):Nat→List UInt64
 |0=>[]
 |i+1=>Wk bs i++[Qw ((bs.drop (8*i)).take 8) 8]
def z6k(n:UInt64):∀i,(Xh n i).length=i
 |0=>rfl
 |i+1=>by simp[Xh,z6k n i]
def bytesUs_length:∀l:List UInt64,(T3 l).length=8*l.length
 |[]=>rfl
 |x::l=>by simp[T3,z6k,bytesUs_length l];omega
def bytesUs_append:∀a b:List UInt64,T3 (a++b)=T3 a++T3 b
 |[],b=>rfl
 |x::a,b=>by simp[T3,bytesUs_append a b]
def o9(bs:List UInt8):∀i,(Wk bs i).length=i
 |0=>rfl
 |i+1=>by simp[Wk,o9 bs i]
def zfp{a:List UInt64}{i:Nat}(h:i<a.length):T3 (a.take (i+1))=T3 (a.take i)++Xh (a.getD i 0) 8:=by
 rw[z5t h,bytesUs_append];simp[T3]
def zjl(g:List UInt8)(k:Nat)(h:k<8)(A:(Qw g k).toNat<2^(8*k)):(Qw g (k+1)).toNat=(Qw g k).toNat+2^(8*k)*(g.getD k 0).toNat:=by
 have z:=(g.getD k 0).toNat_lt;generalize j:g.getD k 0=b at z;have B:b.toNat*2^(8*k)<2^64:=by
  have:2^(8*k)≤2^56:=Ll Ad J
  calc b.toNat*2^(8*k)≤255*2^56:=K3 J this
   _<2^64:=Ad
 have C:(UInt64.ofNat b.toNat).toNat=b.toNat:=Ma (Ix z Ad);rw[Qw,j,af,zqc,bt,UInt64.toNat_or,C,Ma B,L9 b.toNat,Nat.or_comm,Nat.add_comm];exact (Nat.two_pow_add_eq_or_of_lt A _).symm
def zsf(g:List UInt8):∀k,k≤8→(Qw g k).toNat<2^(8*k)
 |0,_=>by simp[Qw]
 |k+1,h=>by
  have j:=zsf g k J;rw[zjl g k J j];have z:=(g.getD k 0).toNat_lt;have:2^(8*k)*(g.getD k 0).toNat≤2^(8*k)*255:=Nat.mul_le_mul_left _ J;rw[show 8*(k+1)=8*k+8 from rfl,Nat.pow_add];omega
def LB(l:List UInt8):LV:=.lst (l.map .b) l.length 1
attribute [simp] LB
def Qd(g:M4)(v:LV)(l:List UInt8):Prop:=(v=.nilSl∧l=[])∨∃p k st,v=.dy p k∧g[p]?=some (.dyn (l.map .b) l.length 1 k st)
def Qd.app{G:M4}{v:LV}{l:List UInt8}(h:Qd G v l)(x:M4):Qd (G++x) v l:=by
 rcases h with h|⟨p,k,st,h1,h2⟩
 ·exact .inl h
 ·exact .inr ⟨p,k,st,h1,Rl h2 x⟩
def Qd.bor{G:M4}{v:LV}{l:List UInt8}(h:Qd G v l):bor G v (LB l):=by
 rcases h with ⟨rfl,rfl⟩|⟨p,k,st,rfl,hg⟩
 ·exact .inr ⟨1,N⟩
 ·exact⟨_,_,_,st,rfl,hg,N⟩
def zk6{v:LV}{l xs:List UInt8}{n:Nat}(h:Qd F v l)(I:n=xs.length)(g:D=xs.map .b)(K:l.length≤1000000000)
  (k:∀C E,Qd E C (l++xs)→(∀(q:Nat) (A:LObj),F[q]?=some A→(∀k,v≠.dy q k)→E[q]?=some A∧∀k,C≠.dy q k)→P C E):O2 F 1 v n D P:=by
 subst I g;rcases h with ⟨rfl,rfl⟩|⟨p,j,st,rfl,H⟩
 ·refine k _ _ (.inr ⟨F.length,0,0,rfl,N⟩) (λq A B _=>⟨Rl B _,λk e=>?_⟩);cases e;have:=(H7.1 B).1;omega
 ·simp only[O2,H];refine⟨N,⟨N,N⟩,Dr,k _ _ (.inr ⟨p,j+1,st+1,rfl,by rw[Wz H];simp⟩) (λq A B G=>?_)⟩;have z:q≠p:=λe=>G j Co
  exact⟨by rw[Sk z];exact B,λk e=>by cases e;exact z rfl⟩
def Qd.str{G:M4}{v:LV}{l:List UInt8}{K:List LV→Prop}(h:Qd G v l)(k:K (l.map .b)):U2 G v K:=by
 rcases h with ⟨rfl,rfl⟩|⟨p,gg,st,rfl,hg⟩
 ·exact k
 ·simp only[U2,hg];exact⟨N,N,by simpa using k⟩
def Og(a:List UInt64)(n:Int):Int:=if n<0∨512<n then 2 else if n<(Oe (val a)).length then 3 else 0
def N4(a:List UInt64)(n:Int):List UInt64:=if Og a n=0 then Oe (val a)++List.replicate (n.toNat-(Oe (val a)).length) 0 else []
def zcl{a:List UInt64}{n:Int}(h:Og a n=0):((N4 a n).length:Int)=n∧0≤n∧n≤512:=by
 unfold N4;rw[Ij h];unfold Og at h;by_cases g:n<0∨512<n
 ·rw[Ij g]at h;simp at h
 ·rw[Ii g]at h;by_cases j:n<(Oe (val a)).length
  ·rw[Ij j]at h;simp at h
  ·simp;omega
def repU(n:Nat):Ni [LV.u 0] n=(List.replicate n (0:UInt64)).map .u:=by
 induction n with
 |zero=>rfl
 |succ n g=>simp[Ni,g,Kb]
def LN(l:List (List UInt64)):LV:=.lst (l.map LU) l.length 1
attribute [simp] LN
def Ya(l:List (List UInt64))(i:Nat)(g:LV→Prop):Oj (l.map LU) i g=(i<l.length∧g (LU (l.getD i []))):=zly _ _ _ _ _
def sm(l:List (List UInt64)):dats (l.map LU)=true:=Un (λx=>N) l
attribute [simp] Ya sm
attribute [simp ↓] Ya
def Z5(l:List { l:List UInt64 // l.length≤maxLen }):l.flatMap (λx=>[LV.lst (x.1.flatMap λx=>[LV.u x]) x.1.length 1])=(l.map (·.1)).map LU:=by
 induction l with
 |nil=>rfl
 |cons x l g =>
  rw[Kc,g,Yv];simp only[Kn,Jl,K9,LU]
def ik{a b:List (List UInt64)}{i k:Nat}(h:(a.getD i []).getD k 0≠(b.getD i []).getD k 0):a.map val≠b.map val:=by
 intro e;refine h (val_getD ?_ k);have g:∀l:List (List UInt64),val (l.getD i [])=(l.map val).getD i 0:=by
  intro l;by_cases hi:i<l.length
  ·simp[hi]
  ·have:l[i]?=none:=Ab
   simp[this,val]
 rw[g,g,e]
def i5{a b:List (List UInt64)}(j:a.length=b.length)(h:∀i,i<a.length→val (a.getD i [])=val (b.getD i [])):a.map val=b.map val:=by
 apply List.ext_getElem
 ·simpa using j
 ·intro i g C;have z:=h i B3;have A:i<a.length:=B3
  have B:i<b.length:=J
  simpa [A,B] using z
def Sy(j:M4)(v:LV)(g:List LV):Prop:=(v=.nilSl∧g=[])∨∃p k st,v=.dy p k∧j[p]?=some (.dyn g g.length 1 k st)
def Sy.app{G:M4}{v:LV}{l:List LV}(h:Sy G v l)(x:M4):Sy (G++x) v l:=by
 rcases h with h|⟨p,k,st,h1,h2⟩
 ·exact .inl h
 ·exact .inr ⟨p,k,st,h1,Rl h2 x⟩
def Sy.bor{G:M4}{v:LV}{l:List LV}(h:Sy G v l)(hd:dats l=true):Go.Sv.bor G v (.lst l l.length 1):=by
 rcases h with ⟨rfl,rfl⟩|⟨p,k,st,rfl,hg⟩
 ·exact .inr ⟨1,N⟩
 ·exact⟨_,_,_,st,rfl,hg,hd⟩
def zm5{v:LV}{l new:List LV}{n:Nat}(h:Sy F v l)(G:n=new.length)(H:l.length≤1000000000)
  (k:∀B C,Sy C B (l++new)→(∀(q:Nat) (z:LObj),F[q]?=some z→(∀k,v≠.dy q k)→C[q]?=some z∧∀k,B≠.dy q k)→P B C):O2 F 1 v n new P:=by
 subst G;rcases h with ⟨rfl,rfl⟩|⟨p,g,st,rfl,E⟩
 ·refine k _ _ (.inr ⟨F.length,0,0,rfl,N⟩) (λq z A _=>⟨Rl A _,λk e=>?_⟩);cases e;have:=(H7.1 A).1;omega
 ·simp only[O2,E];refine⟨N,⟨N,N⟩,Cv,k _ _ (.inr ⟨p,g+1,st+1,rfl,by rw[Wz E];simp⟩) (λq z A D=>?_)⟩;have j:q≠p:=λe=>D g Co
  exact⟨by rw[Sk j];exact A,λk e=>by cases e;exact j rfl⟩
end
def lg(a b:UInt64):UInt64:=UInt64.ofNat (a.toNat*b.toNat/18446744073709551616)
def jr(x:UInt64):(x &&& 4294967295).toNat=x.toNat%4294967296:=by
 rw[UInt64.toNat_and];exact Nat.and_two_pow_sub_one_eq_mod x.toNat 32
def uf(a b:UInt64) :
  Sg (Sg (Qz (Py a 32) (Py b 32)) (Py (Sg (Qz (Py a 32) (Rt b 4294967295)) (Py (Qz (Rt a 4294967295) (Rt b 4294967295)) 32)) 32)) (Py (Sg (Qz (Rt a 4294967295) (Py b 32)) (Rt (Sg (Qz (Py a 32) (Rt b 4294967295)) (Py (Qz (Rt a 4294967295) (Rt b 4294967295)) 32)) 4294967295)) 32)=lg a b:=by
 simp only[zi6,yj,zq2,zxl];apply Jj.1;have B:=a.toNat_lt;have C:=b.toNat_lt;simp only[lg,UInt64.toNat_add,L8,Js,jr,Nat.reducePow];generalize a.toNat=x at *;generalize b.toNat=y at *;have g:x=x/4294967296*4294967296+x%4294967296:=J
 have j:y=y/4294967296*4294967296+y%4294967296:=J
 have D:x/4294967296<4294967296:=J
 have E:x%4294967296<4294967296:=J
 have F:y/4294967296<4294967296:=J
 have G:y%4294967296<4294967296:=J
 have m1:x/4294967296%18446744073709551616=x/4294967296:=J
 have z:y/4294967296%18446744073709551616=y/4294967296:=J
 rw[m1,z];have A:x*y=(x/4294967296*(y/4294967296))*18446744073709551616+(x/4294967296*(y%4294967296))*4294967296+(x%4294967296*(y/4294967296))*4294967296+x%4294967296*(y%4294967296):=by
  generalize x/4294967296=p at *;generalize x%4294967296=q at *;generalize y/4294967296=r at *;generalize y%4294967296=s at *;subst g j
  grind
 rw[A];generalize x/4294967296=p at *;generalize x%4294967296=q at *;generalize y/4294967296=r at *;generalize y%4294967296=s at *;have H:p*r≤4294967295*4294967295:=K3 J J;have I:p*s≤4294967295*4294967295:=K3 J J;have K:q*r≤4294967295*4294967295:=K3 J J;have L:q*s≤4294967295*4294967295:=K3 J J;generalize p*r=M at *;generalize p*s=O at *;generalize q*r=P at *;generalize q*s=Q at *;clear g j m1 z D E F G B C A;omega
def gc(v:UInt64)(s:Nat):(Py v s).toNat=v.toNat/2^s:=by
 have h:=v.toNat_lt;have:v.toNat/2^s≤v.toNat:=Nat.div_le_self _ _;rw[zq2,Js,J8 J]


abbrev Tm:=List UInt8×Int
def M9{l:List LV}{i:Nat}{v:LV}(h:l[i]?=some v):Oj l i vE=vE v:=by simp[Oj,h]
def So{f:v8→LV}{l:List v8}{i:Nat}{a:v8}(h:l[i]?=some a):(l.map f)[i]?=some (f a):=Eg
mutual
def bor_self{G:M4}(v:LV)(h:v.dat=true):bor G v v:=by
 cases v with
 |agg l=>simp only[LV.dat]at h;exact⟨l,rfl,bors_self l h⟩
 |nilSl=>exact .inl rfl
 |dy p k=>simp[LV.dat]at h
 |vw p k lo len=>simp[LV.dat]at h
 |_=>exact⟨rfl,h⟩
termination_by SizeOf.sizeOf v
def bors_self{G:M4}(l:List LV)(h:dats l=true):bors G l l:=by
 cases l with
 |nil=>rfl
 |cons v l =>
  simp only[dats,H9]at h;exact⟨v,l,rfl,bor_self v h.1,bors_self l h.2⟩
termination_by SizeOf.sizeOf l
end
def Vv(p:v8→Bool)(l:List v8):Int:=if l.findIdx p<l.length then (l.findIdx p:Int) else -1
def zs0{p:v8→Bool}{l:List v8}{i:Nat}{a:v8}(h:l[i]?=some a)(j:p a=true)(z:∀g b,g<i→l[g]?=some b→p b=false):Vv p l=i:=by
 obtain⟨hi,rfl⟩:=H7.1 h;have:l.findIdx p=i:=(List.findIdx_eq hi).2 ⟨j,λg A=>z g _ A (Ib _)⟩;rw[Vv,this,Ij hi]
def zge{p:v8→Bool}{l:List v8}{i:Nat}(hi:l.length≤i)(j:∀g b,g<i→l[g]?=some b→p b=false):Vv p l=-1:=by
 have:l.findIdx p=l.length:=List.findIdx_eq_length.2 λa z=>by
  obtain⟨g,A,rfl⟩:=K5.1 z;exact j g _ J (Ib _)
 rw[Vv,this,Ii J]
def zkl(p:v8→Bool)(l:List v8):decide (0≤Vv p l)=l.any p:=by
 unfold Vv;by_cases h:l.findIdx p<l.length
 ·rw[Ij h,J4 J];exact (Mm.2 ⟨_,Km h,List.findIdx_getElem⟩).symm
 ·rw[Ii h,Md J];have g:=List.findIdx_eq_length.1 (Dq:l.findIdx p=l.length);exact (M2.2 λx j=>by simp[g x j]).symm
def tmOk(t:Tm):Bool:=decide (t.1.length≤20)&&decide (t.2≤1048576)&&decide (-1048576≤t.2)
def wt(c:Int)(l:List Tm):Bool:=l.all tmOk&&(decide (l.length≤6)&&decide (c≤1048576)&&decide (-1048576≤c))
def zu(l:List Int)(j:Nat)(x:Int)(h:j<l.length):Nu (l.map .i) j [.i x]=(l.set j x).map .i:=by
 unfold Nu;rw[J1,Ij h];simp[L0,List.map_drop]
def gd(l:List Int)(u:Nat):Int:=l.getD u 0
def zuq(l:List Int)(g u:Nat)(x:Int)(h:g<l.length):gd (l.set g x) u=if u=g then x else gd l u:=by
 simp only[gd,Ie,L4];by_cases e:g=u
 ·subst e;simp[h]
 ·simp[e,Ne.symm e]
def U7{l:List Int}{u:Nat}(h:u<l.length):l[u]?=some (gd l u):=by simp[gd,Ie,h]
def xr(l:List Int)(g:Nat):List Int:=(l.set g (gd l (g-1))).set (g-1) (gd l g)
def zli{l:List Int}{u:Nat}(j:0<g)(h:g<l.length):gd (xr l g) u=if u=g then gd l (g-1) else if u=g-1 then gd l g else gd l u:=by
 unfold xr;rw[zuq _ _ _ _ Ab,zuq _ _ _ _ h];by_cases e:u=g
 ·subst e;rw[Ii J];simp
 ·simp[e]
def qg(l:List Int)(m:Nat):Prop:=∀u v,u<v→v<m→gd l u<gd l v
structure Cmp (l0 l:List Int) (m d:Nat):Prop where
 len:l.length=l0.length
 m1:1≤m
 md:m≤d
 st:qg l m
 mem:∀x,(∃u,u<m∧gd l u=x)↔∃u,u<d∧gd l0 u=x
 last:gd l (m-1)=gd l0 (d-1)
 rest:∀u,d-1≤u→gd l u=gd l0 u∨u<m
def Y7{a r:List LV}{m:Nat}(h:m≤a.length):(Nu a m r).take m=a.take m:=by
 unfold Nu;rw[I0,Lt Cc,Lr,Nat.min_self]
def ztu{a r:List LV}{m:Nat}(h:m+r.length=a.length):(Nu a m r).length=a.length:=by
 unfold Nu;simp;omega
def zrt{v:LV}(h:v.dat=true):∀n,dats (Ni [v] n)=true
 |0=>rfl
 |n+1=>by simp[Ni,dats,h,zrt h n]
end Go.Sv
