/- Texts of the evaluator, of the logic over it, of plain arithmetic. -/
import Derived.Test.YtmnciecehjcjhaaGreatSvG1
import Derived.OpenShut
import Derived.Carry
import Derived.WalkKit
import Derived.ProofKit
import Derived.WideKeyArgs
import Derived.ChangeCalls
set_option linter.unusedSimpArgs false
set_option linter.defProp false
namespace Go.Sv
variable{g j A D U:Nat}{vT:Int}{C:Program}{K:World}{M:Bool}{T:UInt64}{vZ:List UInt64}{vY:TypeId}{vM:Type}{vH:Array Value}{vG:Option Nat}{uY:List Nat}{uH:Code}{F vU:Heap}{uO:AV}{Q uV:Tr AV}{O:CM}{E vV:List LV}{I:Pd}{P:LV}{Z:LV→Pd→Prop}{uQ:Cx}
section
section res
variable {P : Program} {c : Cx} {G : Pd} {K : LV → Pd → Prop}
def zpa(l h m o v i j:Nat)(A:l≤h)(B:h≤m):(h-l=0∧vx l h m o v i j=.emp∧l≠0)∨∃g,vx l h m o v i j=.sl o v (i+l*j) (h-l) j g∧∀r,g=some r→h-l≤r:=by
 unfold vx;cases C:Nat.beq l m with
 |true =>
  have E:=Kd C;cases z:Nat.beq l 0 with
  |true =>
   have D:=Kd z;have:h-l=0:=J
   refine .inr ⟨some 0,?_,λr _=>J⟩;rw[this,D];simp
  |false=>exact .inl ⟨J,rfl,λe=>by subst e;cases z⟩
 |false=>exact .inr ⟨_,rfl,λr e=>by cases e;show h-l≤m-l;omega⟩
def zaj{lo hi:Option Nat}{o v i len esz:Nat}{room:Option Nat}(j:lo.getD 0≤hi.getD len)(B:hi.getD len≤len)(C:∀r,room=some r→len≤r) :
  ∃a,Yk esz lo hi none o v i len esz room=some a∧zn2 a=true∧((hi.getD len-lo.getD 0=0∧a=.emp∧lo.getD 0≠0)∨∃g,a=.sl o v (i+lo.getD 0*esz) (hi.getD len-lo.getD 0) esz g∧∀r,g=some r→hi.getD len-lo.getD 0≤r):=by
 generalize F:lo.getD 0=l at j;generalize H:hi.getD len=h at j B;have z:∀a,((h-l=0∧a=.emp∧l≠0)∨∃g,a=AV.sl o v (i+l*esz) (h-l) esz g∧∀r,g=some r→h-l≤r)→zn2 a=true:=by
  rintro a (⟨_,rfl,_⟩|⟨_,rfl,_⟩)<;>rfl
 unfold Yk;rw[K5,F,H];dsimp only;unfold z8h;have D:Nat.ble l h=true:=Kc j;cases room with
 |some r =>
  have A:Nat.ble h ((some r).getD len)=true:=Kc (by have:=C r rfl;show h≤r;omega);rw[D,A];dsimp only;have:=zpa l h r o v i esz j (by have:=C r rfl;omega);exact⟨_,rfl,z _ this,this⟩
 |none =>
  have A:Nat.ble h ((none:Option Nat).getD len)=true:=Kc B;rw[D,A];dsimp only;cases E:Nat.beq l 0 with
  |true =>
   have I:=Kd E;have:(h-l=0∧(AV.sl o v i h esz none)=.emp∧l≠0)∨∃g,AV.sl o v i h esz none=AV.sl o v (i+l*esz) (h-l) esz g∧∀r,g=some r→h-l≤r:=.inr ⟨none,by rw[I];simp,λr e=>Ar⟩;exact⟨_,rfl,z _ this,this⟩
  |false =>
   cases L:Nat.beq l h with
   |true =>
    have M:=Kd L;exact⟨_,rfl,rfl,.inl ⟨J,rfl,λe=>by subst e;cases E⟩⟩
   |false=>exact⟨_,rfl,rfl,.inr ⟨none,rfl,λr e=>Ar⟩⟩
def zgq{lo hi:Option Nat}{o v i len esz m:Nat}{room:Option Nat}(z:lo.getD 0≤hi.getD len)(A:hi.getD len≤m)(hm:m≤len)(C:∀r,room=some r→len≤r) :
  ∃a,Yk esz lo hi (some m) o v i len esz room=some a∧zn2 a=true∧((hi.getD len-lo.getD 0=0∧a=.emp∧lo.getD 0≠0)∨∃g,a=.sl o v (i+lo.getD 0*esz) (hi.getD len-lo.getD 0) esz g∧∀r,g=some r→hi.getD len-lo.getD 0≤r):=by
 generalize D:lo.getD 0=l at z;generalize E:hi.getD len=h at z A;have B:∀a,((h-l=0∧a=.emp∧l≠0)∨∃g,a=AV.sl o v (i+l*esz) (h-l) esz g∧∀r,g=some r→h-l≤r)→zn2 a=true:=by
  rintro a (⟨_,rfl,_⟩|⟨_,rfl,_⟩)<;>rfl
 unfold Yk;rw[K5,D,E];dsimp only;unfold z8h;have j:m≤room.getD len:=by
  cases room with
  |none=>exact hm
  |some r=>have:=C r rfl;show m≤r;omega
 rw[show Nat.ble l h=true from Kc z,show Nat.ble h (room.getD len)=true from Kc (K8 A j)];dsimp only;rw[show Nat.ble h m=true from Kc A,show Nat.ble m (room.getD len)=true from Kc j];dsimp only;have:=zpa l h m o v i esz z A;exact⟨_,rfl,B _ this,this⟩
def zgh{hi:Option Nat}{o v i len:Nat}{z:Option Nat}{a:AV}(h:Yk g vG hi none o v i len j z=some a)(A:vG.getD 0=0):∃B n,a=.sl o v B n j z:=by
 unfold Yk at h;split at h
 ·cases h
 rw[A]at h;unfold z8h at h;split at h
 ·cases h
 split at h
 ·cases h
 dsimp only at h;cases z with
 |some r =>
  dsimp only at h;cases h;unfold vx;split
  ·rename_i C;have:=Kd C;subst this;exact⟨_,_,rfl⟩
  ·exact⟨_,_,rfl⟩
 |none =>
  dsimp only at h;cases h;exact⟨_,_,rfl⟩
def zri{lo hi:Option Nat}{o v i len esz:Nat}{room:Option Nat}{a:AV}(h:Yk g lo hi none o v i len esz room=some a)(z:j=0→lo.getD 0=0)(A:uO=.sl o v 0 len esz room):io j uO a:=by
 intro hn;obtain⟨B,n,rfl⟩:=zgh h (z hn);subst A;exact .inl rfl
def zmw{lo hi:Option Nat}{o v i len esz:Nat}{a:AV}(h:Yk g lo hi none o v i len esz vG=some a)(z:j=0→lo.getD 0=0∧A=0)(B:io A uO (.sl o v D U esz vG)):io j uO a:=by
 intro hn;obtain⟨C,n,rfl⟩:=zgh h (z hn).1;exact B (z hn).2
def znb{lo hi:Option Nat}{o v i len esz m:Nat}{room:Option Nat}{a:AV}(h:Yk g lo hi (some m) o v i len esz room=some a)(z:j=0→lo.getD 0=0)(hm:m≤len)(B:uO=.sl o v 0 len esz room):io j uO a:=by
 intro hn;have z:=z hn;subst B;unfold Yk at h;split at h
 ·cases h
 rw[z]at h;unfold z8h at h;split at h
 ·cases h
 split at h
 ·cases h
 dsimp only at h;split at h
 ·cases h
 split at h
 ·cases h
 cases h;have hc:∃(A n r:Nat),vx 0 (hi.getD len) m o v i esz=.sl o v A n esz (some r)∧r≤m:=by
  unfold vx;cases Nat.beq 0 m with
  |true=>exact⟨_,_,0,rfl,Nh _⟩
  |false=>exact⟨_,_,m-0,rfl,Nat.sub_le _ _⟩
 obtain⟨A,n,r,e,C⟩:=hc;rw[e];exact .inr ⟨r,rfl,J⟩
def zpe{lo hi:Option Nat}{o v i len esz m:Nat}{room:Option Nat}{a:AV}(h:Yk g lo hi (some m) o v i len esz room=some a)(j:lo.getD 0=0)(z:hi.getD len=m)(hm:0<m):a=.sl o v i m esz (some m):=by
 unfold Yk at h;split at h
 ·cases h
 rw[j,z]at h;unfold z8h at h;split at h
 ·cases h
 split at h
 ·cases h
 dsimp only at h;split at h
 ·cases h
 split at h
 ·cases h
 cases h;unfold vx;have hb:Nat.beq 0 m=false:=by
  cases hb:Nat.beq 0 m with
  |false=>rfl
  |true=>have:=Kd hb;omega
 rw[hb];dsimp only;rw[show Nat.add i (Nat.mul 0 esz)=i by show i+0*esz=i;omega,show Nat.sub m 0=m from rfl]
def AR.lst'{l:List LV}{len esz:Nat}{a:AV}{o v i n:Nat}{l':List AV}(hf:c.Fz o)(hr:Tn c.H o v i n=some l')(hl:ARs c l l')(hle:j*esz+len*esz≤n)
  (ha:(len=0∧a=.emp)∨∃room,a=.sl o v (i+j*esz) len esz room∧∀r,room=some r→len≤r):AR c (.lst ((l.drop (j*esz)).take (len*esz)) len esz) a:=by
 have hn:=zen hr;have gD:=hl.length;rcases ha with ⟨rfl,rfl⟩|⟨room,rfl,gg⟩
 ·simp only[M0,Ow];exact .lstEmp
 ·exact .lst hf gg Ab (zlu hr hle) ((hl.drop _).take _)
def zpl(g:Bool)(a b:Int):lu g (.int .i64 a) [.int .i64 b]=some (.int .i64 (match g with|true=>max a b|false=>min a b)):=by
 have hk:bv .i64 .i64=true:=rfl;simp only[lu,Z0,hk];cases g with
 |true =>
  simp only[Xp];by_cases h:a<b
  ·rw[L3 h];simp only;congr 2;omega
  ·rw[Nv h];simp only;congr 2;omega
 |false =>
  simp only[Xp];by_cases h:b<a
  ·rw[L3 h];simp only;congr 2;omega
  ·rw[Nv h];simp only;congr 2;omega
def maxi_i3(z:Bool)(a b d:Int):lu z (.int .i64 a) [.int .i64 b,.int .i64 d]=some (.int .i64 (match z with|true=>max (max a b) d|false=>min (min a b) d)):=by
 cases z with
 |true =>
  have g:=zpl true a b;have j:=zpl true (max a b) d;simp only[lu]at g j ⊢;cases hm:Z0 true (.int .i64 a) (.int .i64 b) with
  |none=>rw[hm]at g;cases g
  |some r =>
   rw[hm]at g;simp only[Option.some.injEq]at g;subst g;exact j
 |false =>
  have g:=zpl false a b;have j:=zpl false (min a b) d;simp only[lu]at g j ⊢;cases hm:Z0 false (.int .i64 a) (.int .i64 b) with
  |none=>rw[hm]at g;cases g
  |some r =>
   rw[hm]at g;simp only[Option.some.injEq]at g;subst g;exact j
def maxi_u(g:Bool)(a b:UInt64):lu g (.int .u64 (Int.ofNat a.toNat)) [.int .u64 (Int.ofNat b.toNat)]=some (.int .u64 (Int.ofNat (match g with|true=>if a<b then b else a|false=>if b<a then b else a:UInt64).toNat)):=by
 have hk:bv .u64 .u64=true:=rfl;simp only[lu,Z0,hk];cases g with
 |true =>
  simp only[Xp,zhj];by_cases h:a<b
  ·rw[L3 h,J6 h]
  ·rw[Nv h,J1 h]
 |false =>
  simp only[Xp,zhj];by_cases h:b<a
  ·rw[L3 h,J6 h]
  ·rw[Nv h,J1 h]
def bytesA_map:∀l:List UInt8,Y6.bytesA (l.map λb=>AV.int .u8 (Int.ofNat b.toNat))=some (Ro l)
 |[]=>rfl
 |b::l=>by
  have hb:=b.toNat_lt;have h:Nat.blt b.toNat 256=true:=by unfold Nat.blt;exact Kc hb
  simp only[Mt,Y6.bytesA,h,Lj,bytesA_map l,Ro]
def ARs_b:∀{j:List UInt8} {g:List AV},ARs c (j.map LV.b) g→g=j.map λb=>AV.int .u8 (Int.ofNat b.toNat)
 |[],g,h=>Ci
 |b::j,g,h=>by
  cases h with
  |cons h z=>cases h;rw[ARs_b z];rfl
def bytL_ok(O:HSim c G){x:LV}{a:AV}{K:List LV→Prop}(D:AR c x a)(h:bytL G x K):∃l j,ARs c l j∧K l∧((a=.nilSl∧j=[])∨∃o v i room,a=.sl o v i j.length 1 room∧Tn c.H o v i j.length=some j):=by
 unfold bytL at h;split at h
 ·cases D;exact⟨[],[],.nil,h,.inl ⟨rfl,rfl⟩⟩
 ·rename_i p k;split at h
  ·rename_i l len E Q st R;obtain⟨T,rfl,h⟩:=h;cases D with
   | @dy _ _ Z hh _ e hk ha _ =>
    obtain⟨r0,H,A⟩:=O.obj p _ _ _ R e;have B:=ha J;rcases A with ⟨A,F⟩|⟨o,v,room,t,I,j,A,F,U,V,L,_⟩
    ·subst F;have:l=[]:=Kn (by simpa using H);subst this;exact⟨[],[],.nil,h,.inl ⟨B.trans A,rfl⟩⟩
    ·have g:j.length=len*1:=by rw[←L.length];exact H
     have z:=Zj (i:=0) (n:=len*1) F V U J;rw[Oe]at g z;refine⟨l,j,L,h,.inr ⟨o,v,0,room,by rw[B,A,g],?_⟩⟩;rw[g,z,Mu,Kk J]
  ·exact h.elim
 ·rename_i l len E;obtain⟨rfl,C,h⟩:=h;cases D with
  |lst hf X M z Y =>
   have g:=zen z;rw[Oe]at g z;refine⟨l,_,Y,h,.inr ⟨_,_,_,_,by rw[g],by rw[g];exact z⟩⟩
  |lstNil=>exact absurd rfl C
  |lstEmp=>exact absurd rfl C
 ·exact h.elim
def OpL_ok(z:HSim c G){ρ:Pf}(B:Qo c ρ Q){o:LOp}(g:o.ok=true)(h:Qb P ρ G o K):Ur P c G K (Rg P (ρA Q) c.H o.r):=by
 cases o with
 |move x=>exact .same z (Rd B g) h
 |pick cc a b =>
  simp only[LOp.ok,J2]at g;have hc:=Rd B g.1.1;have ha:=Rd B g.1.2;have hb:=Rd B g.2;simp only[Qb]at h;simp only[LOp.r,Rg];generalize cc.ev ρ=cv at h hc;generalize cc.r.ev (ρA Q)=ca at hc ⊢;cases cv<;>first|exact h.elim|skip
  rename_i t;cases hc;dsimp only at h;split at h
  ·rename_i x y j hy;rw[j]at ha;rw[hy]at hb;cases t with
   |true=>exact .same z ha h
   |false=>exact .same z hb h
  ·cases t with
   |true=>exact .same z ha (h.1 rfl)
   |false=>exact .same z hb (h.2 rfl)
 |alloc l=>exact zln z (z8w c g) h
 |box x =>
  have j:=Rd B g;simp only[Qb]at h;simp only[LOp.r,Rg];split at h
  ·rename_i l Y;obtain⟨l',E,C⟩:=j.cells Y;rw[E];exact zln z C h
  ·exact h.elim
 |build cs ps =>
  simp only[LOp.ok,J2]at g;simp only[Qb]at h;simp only[LOp.r,Rg];split at h
  ·rename_i l Y;obtain⟨l',E,C⟩:=zno B g.2 (z8w c g.1) Y;rw[E];exact .same z (.agg C) h
  ·exact h.elim
 |buildSl A len cs ps =>
  simp only[LOp.ok,J2]at g;simp only[Qb]at h;simp only[LOp.r,Rg];split at h
  ·rename_i l Y;obtain⟨l',E,C⟩:=zno B g.2 (z8w c g.1) Y;rw[E];exact z5c z C h.1 (λr e=>by cases e;rfl) h.2
  ·exact h.elim
 |load1 x =>
  have j:=Rd B g;simp only[Qb]at h;simp only[LOp.r,Rg];obtain⟨o,v,i,w,b,E,C,M,H⟩:=zuf z j h;rw[E];dsimp only;rw[C];exact .same z M H
 |loadN n x =>
  have j:=Rd B g;simp only[Qb]at h;simp only[LOp.r,Rg];obtain⟨o,v,i,l',l,E,C,M,H⟩:=zmx z j h;rw[E];dsimp only;rw[C];exact .same z (.agg M) H
 |store n x y =>
  simp only[LOp.ok,J2]at g;have j:=Rd B g.1;have hy:=Rd B g.2;simp only[Qb]at h;simp only[LOp.r,Rg];split at h
  ·rename_i l Y;obtain⟨l',p1,p2⟩:=hy.cells Y;obtain⟨o,v,i,H',c',G',E,C,M,H,O,q6⟩:=zc1 z j p2 h.2;rw[E];dsimp only;rw[p1];dsimp only;have hb:Nat.beq l'.length n=true:=by rw[←p2.length,h.1];exact K5 _
   rw[hb];dsimp only;rw[C];exact⟨c',.tup [],G',M,H,O,.tup .nil,q6⟩
  ·exact h.elim
 |nilChk x =>
  have j:=Rd B g;simp only[Qb]at h;simp only[LOp.r,Rg];generalize x.ev ρ=v at h j;generalize x.r.ev (ρA Q)=a at j ⊢;split at h
  ·have h0:=j;cases j;exact .same z h0 h
  ·have h0:=j;cases j;exact .same z h0 h
  ·have h0:=j;cases j;exact .same z h0 h
  ·have h0:=j;cases j;exact .same z h0 h
  ·exact h.elim
 |bin op jP t x y =>
  simp only[LOp.ok,J2]at g;exact .ret z (binL_ok (Rd B g.1) (Rd B g.2) h)
 |un op x=>exact .ret z (unL_ok (Rd B g) h)
 |cvInt k x =>
  obtain⟨k',n,E,v,C,M⟩:=cvL_ok (Rd B g) (show x5 k (x.ev ρ) (λv=>K v G) from h);simp only[LOp.r,Rg];rw[E];exact .same z C M
 |cvStr x =>
  have j:=Rd B g;simp only[Qb]at h;simp only[LOp.r,Rg];obtain⟨l,l',E,⟨bs,rfl,C⟩,M⟩:=bytL_ok z j h;have jD:=ARs_b E;rcases M with ⟨M,H⟩|⟨o,v,i,room,M,H⟩
  ·rw[M];rw[H]at jD;have:bs=[]:=by cases bs with
    |nil=>rfl
    |cons _ _=>cases jD
   subst this;exact .same z (.str []) C
  ·rw[M];show Ur P c G K (match Tn c.H o v i l'.length with
    |some r=>match Y6.bytesA r with
     |some n=>OR.val (.str l'.length n) c.H
     |none=>.no
    |none=>.no)
   rw[H];dsimp only;rw[jD,bytesA_map];dsimp only;exact .same z (.str' N rfl) C
 |cvSame x =>
  have j:=Rd B g;simp only[Qb]at h;simp only[LOp.r,Rg];generalize x.ev ρ=v at h j;generalize x.r.ev (ρA Q)=a at j ⊢;split at h
  ·cases j;exact .same z (.str _) h
  ·exact h.elim
 |cvBytes x =>
  have j:=Rd B g;simp only[Qb]at h;simp only[LOp.r,Rg];generalize x.ev ρ=v at h j;generalize x.r.ev (ρA Q)=a at j ⊢;split at h
  ·rename_i l;cases j;exact z5c z (zof l c) N (λr e=>Ar) h
  ·exact h.elim
 |mkFunc f a b =>
  simp only[LOp.ok,J2]at g;exact .same z (.fn (zuw B g.1) (zuw B g.2)) h
 |mkSl A jQ l cc =>
  simp only[LOp.ok,J2]at g;have Y:=Rd B g.1.2;have hc:=Rd B g.2;simp only[Qb]at h;simp only[LOp.r,Rg];generalize l.ev ρ=lv at h Y;generalize l.r.ev (ρA Q)=la at Y ⊢;generalize cc.ev ρ=cv at h hc;generalize cc.r.ev (ρA Q)=ca at hc ⊢;split at h
  ·rename_i n m;obtain⟨rfl,F,U,L,h4⟩:=h;cases Y;cases hc;obtain⟨k,rfl⟩:=J5 F;have b1:Nat.ble k k=true:=Kc (J8 _);have b2:Nat.ble k 1048576=true:=Kc J;show Ur P c G K (match Nat.ble k k with
    |true=>match Nat.ble k 1048576 with
     |true=>match newObj c.H (Wb (toAs jQ) k) with
      |some (o,H')=>OR.val (.sl o 0 0 k A (some k)) H'
      |none=>.no
     |false=>.no
    |false=>.no)
   rw[b1,b2];exact z5c z ((z8w c g.1.1).rep k) (by rw[z62,L]) (λr e=>by cases e;rfl) h4
  ·exact h.elim
 |slStr x lo hi =>
  simp only[LOp.ok,J2]at g;have j:=Rd B g.1.1;simp only[Qb]at h;simp only[LOp.r,Rg];generalize x.ev ρ=v at h j;generalize x.r.ev (ρA Q)=a at j ⊢;split at h
  ·rename_i l;cases j;obtain⟨gg,V,E,C,M⟩:=Yd B g.1.2 h;obtain⟨R,T,H,O,F,U,L⟩:=Yd B g.2 M;rw[E,H];dsimp only;rw[C,O];have b1:Nat.ble V T=true:=Kc F;have b2:Nat.ble T l.length=true:=Kc U;rw[b1,b2];dsimp only;refine .same z (.str' Ab ?_) L;rw[packL_take,packL_drop];rfl
  ·exact h.elim
 |slSl A x lo hi =>
  simp only[LOp.ok,J2]at g;have j:=Rd B g.1.1;simp only[Qb]at h;simp only[LOp.r,Rg];have gR:R9 (ρA Q) none=some none:=rfl;rw[gR];split at h
  ·rename_i hv;rw[hv]at j;generalize x.r.ev (ρA Q)=a at j ⊢;cases j;obtain⟨gg,V,E,C,M⟩:=Yd B g.1.2 h;obtain⟨R,T,H,O,F,U,L⟩:=Yd B g.2 M;rw[E,H];dsimp only;rw[C,O,F,U];exact .same z .nilSl L
  ·rename_i p k hv;rw[hv]at j;generalize x.r.ev (ρA Q)=a at j ⊢;split at h
   ·rename_i l len esz gD st Z;obtain⟨gF,rfl,h⟩:=h;obtain⟨gg,V,E,C,M⟩:=Yd B g.1.2 h;obtain⟨R,T,H,O,F,U,L⟩:=Yd B g.2 M;rw[E,H];cases j with
    | @dy _ _ k' hh _ e hk ha _ =>
     obtain⟨r0,r1,X⟩:=z.obj p _ _ _ Z e;have gH:=ha J;rcases X with ⟨X,r3⟩|⟨o,v,room,t,gT,l',X,r3,r4,r5,r6,r7,r8⟩
     ·subst r3;have e1:V=0:=J
      have e2:T=0:=J
      subst e1 e2;rw[gH,X];dsimp only;rw[C,show R.getD 0=0 from O];exact .same z (.vw e hk (λ_=>.inl ⟨rfl,.inl rfl⟩) rfl (λ_ _=>trivial)) L
     ·obtain⟨a2,p1,p2,p3⟩:=zaj (lo:=gg) (hi:=R) (o:=o) (v:=v) (i:=0) (esz:=esz) (len:=len) (room:=room) Db Dk (λr e'=>(r7 r e').2);rw[gH,X];dsimp only;rw[p1];rw[C,O,Kw]at p3;refine .same z (.vw e hk (λ_=>?_) p2 (λ_=>zri p1 (λh0=>by rw[C];exact h0) X)) L;rcases p3 with ⟨p3,p4,p5⟩|⟨I,p4⟩
      ·exact .inl ⟨p3,.inr ⟨p4,p5⟩⟩
      ·exact .inr ⟨o,v,len,esz,room,I,X,p4⟩
   ·exact h.elim
  ·rename_i p k l0 len hv;rw[hv]at j;generalize x.r.ev (ρA Q)=a at j ⊢;split at h
   ·rename_i l gK esz gD st Z;obtain⟨gF,rfl,h⟩:=h;obtain⟨gg,V,E,C,M⟩:=Yd B g.1.2 h;obtain⟨R,T,H,O,F,U,L⟩:=Yd B g.2 M;rw[E,H];cases j with
    | @vw _ _ _ _ k' hh _ e hk ha _ hz =>
     have jR:=(z.obj p _ _ _ Z e).1;rcases ha J with ⟨r3,r4⟩|⟨o,v,gG,D,room,I,r3,r4,r9⟩
     ·subst r3;have e1:V=0:=J
      have e2:T=0:=J
      subst e1 e2;rcases r4 with rfl|⟨rfl,r5⟩
      ·dsimp only;rw[C,show R.getD 0=0 from O];exact .same z (.vw e hk (λ_=>.inl ⟨rfl,.inl rfl⟩) rfl (λ_ _=>trivial)) L
      ·dsimp only;rw[C,show R.getD 0=0 from O];exact .same z (.vw e hk (λ_=>.inl ⟨rfl,.inr ⟨rfl,r5⟩⟩) rfl (λ_ _=>trivial)) L
     ·subst r3;obtain⟨_,w1,w2,w3,_⟩:=oy z Z e;subst w2 w3;obtain⟨a2,p1,p2,p3⟩:=zaj (lo:=gg) (hi:=R) (o:=o) (v:=v) (i:=l0*D) (esz:=D) (len:=len) (room:=I) Db Dk r9;rw[r4];dsimp only;rw[p1];rw[C,O]at p3;refine .same z (.vw e hk (λ_=>?_) p2 (λq=>zmw p1 (λh0=>⟨by rw[C];omega,J⟩) (r4 ▸ hz q))) L;rcases p3 with ⟨p3,p4,p6⟩|⟨jE,p4,p5⟩
      ·exact .inl ⟨p3,.inr ⟨p4,J⟩⟩
      ·exact .inr ⟨o,v,_,D,room,jE,rfl,by rw[p4,Ky],p5⟩
   ·exact h.elim
  ·rename_i l len esz hv;rw[hv]at j;generalize x.r.ev (ρA Q)=a at j ⊢;obtain⟨rfl,h⟩:=h;obtain⟨gg,V,E,C,M⟩:=Yd B g.1.2 h;obtain⟨R,T,H,O,F,U,L⟩:=Yd B g.2 M;rw[E,H];have jA:len=0→l=[]→K (.lst [] 0 esz) G:=λe1 e2=>by
    have e3:V=0:=J
    have e4:T=0:=J
    subst e2 e3 e4;simpa using L
   cases j with
   |lst hf gO gL hr Y =>
    obtain⟨a2,p1,p2,p3⟩:=zaj (lo:=gg) (hi:=R) Db Dk gO;dsimp only;rw[p1];rw[C,O]at p3;refine .same z (.lst' hf hr Y ?_ (p3.imp (λh=>⟨h.1,h.2.1⟩) id)) L;rw[←Ky];exact Kq _ J
   |lstNil =>
    have e3:V=0:=J
    have e4:T=0:=J
    dsimp only;rw[C,show R.getD 0=T from O,e3,e4];exact .same z .lstNil (jA rfl rfl)
   |lstEmp =>
    have e3:V=0:=J
    have e4:T=0:=J
    dsimp only;rw[C,show R.getD 0=T from O,e3,e4];exact .same z .lstEmp (jA rfl rfl)
  ·exact h.elim
 |slSl3 A x lo hi mx =>
  simp only[LOp.ok,J2]at g;have j:=Rd B g.1.1.1;have jK:yx (some mx)=true:=g.2;simp only[Qb]at h;simp only[LOp.r,Rg];split at h
  ·rename_i p k hv;rw[hv]at j;generalize x.r.ev (ρA Q)=a at j ⊢;split at h
   ·rename_i l len esz gD st Z;obtain⟨gF,rfl,h⟩:=h;obtain⟨gg,V,E,C,M⟩:=Yd B g.1.1.2 h;obtain⟨R,T,H,O,q6⟩:=Yd B g.1.2 M;obtain⟨gU,gV,q7,q8,h0,F,U,L,h4⟩:=Yd B jK q6;simp only[Mg]at q7;rw[E,H,q7];cases j with
    | @dy _ _ k' hh _ e hk ha _ =>
     obtain⟨r0,r1,X⟩:=z.obj p _ _ _ Z e;have gH:=ha J;have gR:gU=some gV:=by
      cases gU with
      |none=>unfold R9 at q7;dsimp only at q7;split at q7<;>cases q7
      |some m=>simp at q8;rw[q8]
     rcases X with ⟨X,r3⟩|⟨o,v,room,t,gT,l',X,r3,r4,r5,r6,r7,r8⟩
     ·omega
     ·obtain⟨a2,p1,p2,p3⟩:=zgq (lo:=gg) (hi:=R) (o:=o) (v:=v) (i:=0) (esz:=esz) (len:=len) (room:=room) (m:=gV) Db Dk L (λr e'=>(r7 r e').2);rw[gH,X,gR];dsimp only;rw[p1];rw[C,O,Kw]at p3;unfold fullV at h4;split at h4
      ·rename_i jL;obtain⟨f1,f2,f3⟩:=Mn jL;have hc:=zpe p1 (by rw[C];exact f1) (by rw[O];exact f2) J;exact .same z (.vf e hk (λ_=>⟨o,v,len,esz,room,X,by rw[hc,f2]⟩) p2) h4
      refine .same z (.vw e hk (λ_=>?_) p2 (λ_=>znb p1 (λh0=>by rw[C];exact h0) L X)) h4;rcases p3 with ⟨p3,p4,p5⟩|⟨I,p4⟩
      ·exact .inl ⟨p3,.inr ⟨p4,p5⟩⟩
      ·exact .inr ⟨o,v,len,esz,room,I,X,p4⟩
   ·exact h.elim
  ·rename_i l len esz hv;rw[hv]at j;generalize x.r.ev (ρA Q)=a at j ⊢;obtain⟨rfl,h⟩:=h;obtain⟨gg,V,E,C,M⟩:=Yd B g.1.1.2 h;obtain⟨R,T,H,O,q6⟩:=Yd B g.1.2 M;obtain⟨gU,gV,q7,q8,h0,F,U,L,h4⟩:=Yd B jK q6;simp only[Mg]at q7;rw[E,H,q7];have gR:gU=some gV:=by
    cases gU with
    |none=>unfold R9 at q7;dsimp only at q7;split at q7<;>cases q7
    |some m=>simp at q8;rw[q8]
   cases j with
   |lst hf gO gL hr Y =>
    obtain⟨a2,p1,p2,p3⟩:=zgq (lo:=gg) (hi:=R) (m:=gV) Db Dk L gO;rw[gR];dsimp only;rw[p1];rw[C,O]at p3;refine .same z (.lst' hf hr Y ?_ (p3.imp (λh=>⟨h.1,h.2.1⟩) id)) h4;rw[←Ky];exact Kq _ J
   |lstNil=>omega
   |lstEmp=>omega
  ·exact h.elim
 |fieldAddr jz x =>
  have j:=Rd B g;simp only[Qb]at h;simp only[LOp.r,Rg];generalize x.ev ρ=v at h j;generalize x.r.ev (ρA Q)=a at j ⊢;split at h
  ·cases j with
   |ptr e=>exact .same z (.ptr e) h
  ·cases j with
   |dptr e hk ha=>exact .same z (.dptr e hk (λq=>⟨by rw[(ha q).1];rfl,(ha q).2⟩)) h
  ·cases j with
   |cptr hf hr Y =>
    dsimp only;rw[show ∀a b c:Nat,Nat.add (a+b) c=a+(b+c) from λa b c=>L7 a b c];exact .same z (.cptr hf hr Y) h
  ·exact h.elim
 |field jP n jz x =>
  have j:=Rd B g;simp only[Qb]at h;simp only[LOp.r,Rg];generalize x.ev ρ=v at h j;generalize x.r.ev (ρA Q)=a at j ⊢;split at h
  ·rename_i l;cases j with
   |agg Y =>
    dsimp only;cases jP with
    |true =>
     obtain⟨F,U⟩:=h;have jF:=Y.length;rename_i l';have b1:Nat.ble (Nat.add jz n) l'.length=true:=Kc (show jz+n≤l'.length by rw[←jF];exact F);refine .ret z ?_;simp only[rz,iw,b1];exact .mk (.agg ((Y.drop jz).take n)) U
    |false =>
     obtain⟨v,hv,h⟩:=h;obtain⟨a,E,C⟩:=Y.get hv;refine .ret z ?_;simp only[rz];rw[E];exact .mk C h
  ·exact h.elim
 |ixAddr A x i =>
  simp only[LOp.ok,J2]at g;have j:=Rd B g.1;have hi:=Rd B g.2;simp only[Qb]at h;simp only[LOp.r,Rg];generalize i.ev ρ=iv at h hi;generalize i.r.ev (ρA Q)=ia at hi ⊢;generalize x.ev ρ=v at h j;generalize x.r.ev (ρA Q)=a at j ⊢
  have jB : ∀ {kk : IntKind} {n : Int} (v : LV) (a : AV), AR c v a → ixO G A v n (fun v => K v G) → Ur P c G K (match a, AV.int kk n with
     |.sl o v i len esz _,.int _ (.ofNat n)=>match Nat.blt n len with
      |true=>match Nat.beq esz A with
       |true=>.val (.ptr o v (Nat.add i (Nat.mul n esz))) c.H
       |false=>.no
      |false=>.no
     |_,_=>.no):=by
   clear h j;intro kk n v a j h;unfold ixO at h;have gI:∀{o v jV len esz:Nat} {room:Option Nat} {m:Nat} {y:LV},m<len→esz=A→AR c y (.ptr o v (jV+m*esz))→K y G→Ur P c G K (match AV.sl o v jV len esz room,AV.int kk (Int.ofNat m) with
     |.sl o v i len esz _,.int _ (.ofNat n)=>match Nat.blt n len with
      |true=>match Nat.beq esz A with
       |true=>.val (.ptr o v (Nat.add i (Nat.mul n esz))) c.H
       |false=>.no
      |false=>.no
     |_,_=>.no):=by
    intro o v jV len esz room m y F U L h4;subst U;have b1:Nat.blt m len=true:=by unfold Nat.blt;exact Kc F
    dsimp only;rw[b1,K5];exact .same z L h4
   split at h
   ·rename_i p k;split at h
    ·rename_i l len esz gD st Z;obtain⟨gF,rfl,F,U,L⟩:=h;obtain⟨m,rfl⟩:=J5 F;cases j with
     | @dy _ _ k' hh _ e hk ha _ =>
      obtain⟨r0,r1,X⟩:=z.obj p _ _ _ Z e;have gH:=ha J;rcases X with ⟨X,r3⟩|⟨o,v,room,t,gT,l',X,_⟩
      ·omega
      ·rw[gH,X];refine gI (room:=room) (y:=.dptr p k (m*esz)) J rfl (.dptr e hk (λ_=>⟨by rw[Kw],len,esz,room,X⟩)) L
    ·exact h.elim
   ·rename_i p k lo len;split at h
    ·rename_i l gK esz gD st Z;obtain⟨gF,rfl,F,U,L⟩:=h;obtain⟨m,rfl⟩:=J5 F;cases j with
     | @vw _ _ _ _ k' hh _ e hk ha _ _ =>
      have jR:=(z.obj p _ _ _ Z e).1;rcases ha J with ⟨r3,r4⟩|⟨o,v,gG,D,room,I,r3,r4,r9⟩
      ·omega
      ·have e2:=e;rw[r3]at e2;obtain⟨_,w1,w2,w3,_⟩:=oy z Z e2;subst w2 w3;rw[r4];refine gI (room:=I) (y:=.dptr p k ((lo+m)*D)) J rfl (.dptr e hk (λ_=>⟨by rw[Ky],gG,D,room,r3⟩)) L
    ·exact h.elim
   ·rename_i l len esz;obtain⟨rfl,F,U,L⟩:=h;obtain⟨m,rfl⟩:=J5 F;cases j with
    | @lst _ _ _ _ _ _ rm _ hf gO gL hr Y =>
     refine gI (room:=rm) (y:=.cptr l (m*esz)) J rfl ?_ L;rw[←gL]at hr;exact .cptr hf hr Y
    |lstNil=>omega
    |lstEmp=>omega
   ·exact h.elim
  split at h
  ·cases hi;exact jB v a j h
  ·cases hi;exact jB v a j h
  ·exact h.elim
 |ixStr x i =>
  simp only[LOp.ok,J2]at g;have j:=Rd B g.1;have hi:=Rd B g.2;simp only[Qb]at h;simp only[LOp.r,Rg];generalize i.ev ρ=iv at h hi;generalize i.r.ev (ρA Q)=ia at hi ⊢;generalize x.ev ρ=v at h j;generalize x.r.ev (ρA Q)=a at j ⊢;have gI:∀{l:List UInt8} {k:IntKind} {m:Nat},m<l.length→K (.b (l.getD m 0)) G→Ur P c G K (match AV.str l.length (Ro l),AV.int k (Int.ofNat m) with
    |.str len n,.int _ (.ofNat i)=>match Nat.blt i len with
     |true=>.val (.int .u8 (Int.ofNat (Nat.mod (Nat.div n (Nat.pow 256 i)) 256))) c.H
     |false=>.no
    |_,_=>.no):=by
   intro l k m F U;have b1:Nat.blt m l.length=true:=by unfold Nat.blt;exact Kc F
   dsimp only;rw[b1];refine .same z (.b' ?_) U;have:=zix (J7 F);show Int.ofNat (Ro l/256^m%256)=_;rw[this,J0,J7 F];rfl
  split at h
  ·rename_i l n;obtain⟨F,U,L⟩:=h;obtain⟨m,rfl⟩:=J5 F;cases j;cases hi;exact gI (k:=.i64) J L
  ·rename_i l n;obtain⟨U,L⟩:=h;cases j;cases hi;exact gI (k:=.u64) U L
  ·rename_i l n;obtain⟨U,L⟩:=h;cases j;cases hi;exact gI (k:=.u8) U L
  ·exact h.elim
 |extract i x =>
  have j:=Rd B g;simp only[Qb]at h;simp only[LOp.r,Rg];generalize x.ev ρ=v at h j;generalize x.r.ev (ρA Q)=a at j ⊢;split at h
  ·rename_i l;cases j with
   |tup Y =>
    dsimp only;obtain⟨v,hv,h⟩:=h;obtain⟨a,E,C⟩:=Y.get hv;refine .ret z ?_;rw[E];exact .mk C h
  ·exact h.elim
 |lenStr x =>
  have j:=Rd B g;simp only[Qb]at h;simp only[LOp.r,Rg];generalize x.ev ρ=v at h j;generalize x.r.ev (ρA Q)=a at j ⊢;split at h
  ·cases j;exact .same z (.i _) h
  ·exact h.elim
 |lenSl x =>
  obtain⟨n,E,C⟩:=lenL_ok z (Rd B g) (show lenL G (x.ev ρ) (λn=>K (.i n) G) from h);simp only[LOp.r,Rg];rcases C with ⟨C,rfl⟩|⟨C,rfl⟩|⟨o,v,i,esz,room,C⟩
  ·rw[C];exact .same z (.i 0) E
  ·rw[C];exact .same z (.i 0) E
  ·rw[C];exact .same z (.i n) E
 |maxi mx x y =>
  simp only[LOp.ok,J2]at g;have j:=Rd B g.1;have hy:=Rd B g.2;simp only[Qb]at h;simp only[LOp.r,Rg,Mt,List.map_nil];generalize y.ev ρ=yv at h hy;generalize y.r.ev (ρA Q)=ya at hy ⊢;generalize x.ev ρ=v at h j;generalize x.r.ev (ρA Q)=a at j ⊢;split at h
  ·cases j;cases hy;dsimp only;rw[zpl];exact .same z (.i _) h
  ·cases j;cases hy;dsimp only;rw[maxi_u];exact .same z (.u _) h
  ·exact h.elim
 |max3 mx x y jQ =>
  simp only[LOp.ok,J2]at g;have j:=Rd B g.1.1;have hy:=Rd B g.1.2;have hz:=Rd B g.2;simp only[Qb]at h;simp only[LOp.r,Rg,Mt,List.map_nil];generalize jQ.ev ρ=zv at h hz;generalize jQ.r.ev (ρA Q)=za at hz ⊢;generalize y.ev ρ=yv at h hy;generalize y.r.ev (ρA Q)=ya at hy ⊢;generalize x.ev ρ=v at h j;generalize x.r.ev (ρA Q)=a at j ⊢;cases v<;>first|exact h.elim|skip
  cases yv<;>first|exact h.elim|skip
  cases zv<;>first|exact h.elim|skip
  cases j;cases hy;cases hz;dsimp only;rw[maxi_i3];exact .same z (.i _) h
 |ixAddrArr len A x i =>
  simp only[LOp.ok,J2]at g;have j:=Rd B g.1;have hi:=Rd B g.2;simp only[Qb]at h;simp only[LOp.r,Rg];generalize i.ev ρ=iv at h hi;generalize i.r.ev (ρA Q)=ia at hi ⊢;generalize x.ev ρ=v at h j;generalize x.r.ev (ρA Q)=a at j ⊢;cases iv<;>first|exact h.elim|skip
  cases hi;obtain⟨F,U,h⟩:=h;rename_i n;obtain⟨m,rfl⟩:=J5 F;have b1:Nat.blt m len=true:=by unfold Nat.blt;exact Kc J
  cases v<;>first|exact h.elim|skip
  ·cases j with
   |ptr e =>
    show Ur P c G K (match Nat.blt m len with|true=>_|false=>_);rw[b1];refine .same z ?_ h;have e0:=AR.ptr (i:=0) e;rename_i p jV o;show AR c (.ptr p (jV+m*A)) (.ptr o 0 (jV+m*A));exact .ptr e
  ·cases j with
   |dptr e hk ha =>
    show Ur P c G K (match Nat.blt m len with|true=>_|false=>_);rw[b1];exact .same z (.dptr e hk (λq=>⟨by rw[(ha q).1];rfl,(ha q).2⟩)) h
  ·cases j with
   |cptr hf hr Y =>
    show Ur P c G K (match Nat.blt m len with|true=>_|false=>_);rw[b1];refine .same z ?_ h;rename_i o vv jj ll;rw[show Nat.add (jj+_) (Nat.mul m A)=jj+(_+m*A) from L7 _ _ _];exact .cptr hf hr Y
 |ixArr jP len A x i =>
  simp only[LOp.ok,J2]at g;have j:=Rd B g.1;have hi:=Rd B g.2;simp only[Qb]at h;simp only[LOp.r,Rg];generalize i.ev ρ=iv at h hi;generalize i.r.ev (ρA Q)=ia at hi ⊢;generalize x.ev ρ=v at h j;generalize x.r.ev (ρA Q)=a at j ⊢;cases iv<;>first|exact h.elim|skip
  cases hi;obtain⟨F,U,h⟩:=h;rename_i n;obtain⟨m,rfl⟩:=J5 F;have b1:Nat.blt m len=true:=by unfold Nat.blt;exact Kc J
  cases v<;>first|exact h.elim|skip
  cases j with
  |agg Y =>
   show Ur P c G K (match Nat.blt m len with|true=>_|false=>_);rw[b1];simp only[Kr]at h;cases jP with
   |true =>
    obtain⟨F,U⟩:=h;have jF:=Y.length;rename_i l';have b2:Nat.ble (Nat.add (Nat.mul m A) A) l'.length=true:=Kc (show m*A+A≤l'.length by rw[←jF];exact F);refine .ret z ?_;simp only[rz,iw,b2];exact .mk (.agg ((Y.drop _).take _)) U
   |false =>
    obtain⟨v,hv,h⟩:=h;obtain⟨a,E,C⟩:=Y.get hv;refine .ret z ?_;simp only[rz];show Uk c _ (_);rw[show Nat.mul m A=m*A from rfl,E];exact .mk C h
 |lenArr n x =>
  simp only[Qb]at h;simp only[LOp.r,Rg];exact .same z (.i _) h
 |appZ A jQ s x =>
  simp only[LOp.ok,J2]at g;have hz:=z8w c g.1.1;have jG:=Rd B g.1.2;have j:=Rd B g.2;simp only[Qb]at h;simp only[LOp.r,Rg];generalize x.ev ρ=v at h j;generalize x.r.ev (ρA Q)=a at j ⊢;split at h
  ·rename_i n;obtain⟨F,U,L,h4⟩:=h;obtain⟨m,rfl⟩:=J5 F;cases j;have b1:Nat.ble m 1048576=true:=Kc J;show Ur P c G K (match Nat.ble m 1048576 with
    |true=>Zk c.H A (s.r.ev (ρA Q)) m (Wb (toAs jQ) m)
    |false=>.no)
   rw[b1];exact fw z jG (hz.rep m) (by rw[z62,L]) h4
  ·exact h.elim
 |appG A s x =>
  simp only[LOp.ok,J2]at g;have jG:=Rd B g.1;have j:=Rd B g.2;simp only[Qb]at h;simp only[LOp.r,Rg];obtain⟨n,l,l',E,C,M,H,O⟩:=zza z j h;rw[E];have b1:Nat.ble n 1048576=true:=Kc H;dsimp only;rw[b1];exact fw z jG C M O
 |copy A d x =>
  simp only[LOp.ok,J2]at g;have hd:=Rd B g.1;have j:=Rd B g.2;simp only[Qb]at h;simp only[LOp.r,Rg];obtain⟨n,l,l',E,C,M,H⟩:=zza z j h;rw[E];dsimp only;have jC:∀a b:Nat,Sx a b=min a b:=λa b=>by
   unfold Sx;cases hb:Nat.ble a b with
   |true=>have:=Ki hb;simp only;omega
   |false =>
    have:¬a≤b:=λq=>by rw[Kc q]at hb;cases hb
    simp only;omega
  generalize d.ev ρ=v at H hd;generalize d.r.ev (ρA Q)=a at hd ⊢;split at H
  ·rename_i p k;split at H
   ·rename_i r len esz gD st Z;obtain⟨gF,rfl,h⟩:=H;cases hd with
    | @dy _ _ k' hh _ e hk ha _ =>
     obtain⟨r0,r1,X⟩:=z.obj p _ _ _ Z e;have gH:=ha J;rcases X with ⟨X,r3⟩|⟨o,v,room,t,gT,r',X,r3⟩
     ·subst r3;have:r=[]:=Kn Ec;subst this;rw[gH,X];dsimp only;have hm:min n 0=0:=J
      rw[hm]at h;simp only[M0,Ow]at h;obtain⟨p1,p2,_⟩:=z.upd (k':=k') (x':=hh) (ob':=.dyn (Qj [] 0 []) 0 esz gD (st+1)) (H':=c.H) Z rfl e (J8 _) (λ_ _ _=>rfl) (λo e'=>⟨.inl e',z.lt o ⟨p,_,_,_,Z,rfl,e,e'⟩⟩) (J8 _) (λ_=>rfl) (λ_=>rfl) (.inl (Lp _))
       (λ_=>⟨r0,by simp[Qj],.inl ⟨X,rfl⟩⟩)
      exact⟨⟨c.hd.set p (k',hh),c.Fz,c.H⟩,.i (0:Nat),_,rfl,p1,p2,.i _,h⟩
     ·have hw:Yo G (.dptr p k 0) (l.take (min n len*esz)) (λG'=>K (.i (min n len:Nat)) G'):=by
       unfold Yo;dsimp only;rw[Z];refine⟨gF,?_,h⟩;rw[r1,Mc,Kw];exact K8 (Nat.min_le_left _ _) (Kq _ (Nat.min_le_right _ _))
      obtain⟨o2,v2,i2,H',c',G',w1,w2,w3,w4,w5,w6⟩:=zc1 z (a:=.ptr o v 0) (.dptr e hk (λ_=>⟨rfl,len,esz,room,X⟩)) (C.take (min n len*esz)) hw;cases w1;rw[gH,X];dsimp only;rw[K5,jC];dsimp only;rw[show Nat.mul (min n len) esz=min n len*esz from rfl,w2];exact⟨c',_,G',w3,w4,w5,.i _,w6⟩
   ·exact H.elim
  ·rename_i p k lo len;split at H
   ·rename_i r gK esz gD st Z;obtain⟨gF,rfl,jH,h⟩:=H;cases hd with
    | @vw _ _ _ _ k' hh _ e hk ha _ _ =>
     obtain⟨r0,r1,X⟩:=z.obj p _ _ _ Z e;have gY:len=0→(a=.nilSl∨a=.emp∧lo≠0)→Ur P c G K (.val (.int .i64 0) c.H):=by
      intro jI _;subst jI;have hm:min n 0=0:=J
      rw[hm]at h;simp only[M0,Ow]at h;have gZ:Qj r (lo*esz) []=r:=by unfold Qj;simp
      rw[gZ]at h;obtain⟨p1,p2,_⟩:=z.upd (k':=k') (x':=hh) (ob':=.dyn r gK esz gD (st+1)) (H':=c.H) Z rfl e (J8 _) (λ_ _ _=>rfl) (λo e'=>⟨.inl e',z.lt o ⟨p,_,_,_,Z,rfl,e,e'⟩⟩) (J8 _) (λ_=>rfl) (λ_=>rfl) (.inl (Lp _))
       (λjg=>(z.obj p _ _ _ Z e).mono jg (λ_ _=>rfl))
      exact⟨⟨c.hd.set p (k',hh),c.Fz,c.H⟩,.i (0:Nat),_,rfl,p1,p2,.i _,h⟩
     rcases ha J with ⟨r3,r4⟩|⟨o,v,gG,D,room,I,r3,r4,r9⟩
     ·have:=gY r3 r4;rcases r4 with rfl|⟨rfl,_⟩
      ·exact this
      ·exact this
     ·have e2:=e;rw[r3]at e2;obtain⟨_,w1,w2,w3,_⟩:=oy z Z e2;subst w2 w3;have hw:Yo G (.dptr p k (lo*D)) (l.take (min n len*D)) (λG'=>K (.i (min n len:Nat)) G'):=by
       unfold Yo;dsimp only;rw[Z];refine⟨gF,?_,h⟩;rw[Mc];have F:min (min n len*D) l.length≤len*D:=K8 (Nat.min_le_left _ _) (Kq _ (Nat.min_le_right _ _));rw[Ky]at jH;omega
      obtain⟨o2,v2,i2,H',c',G',u1,u2,u3,u4,u5,u6⟩:=zc1 z (a:=.ptr o v (lo*D)) (.dptr e hk (λ_=>⟨rfl,gG,D,room,r3⟩)) (C.take (min n len*D)) hw;cases u1;rw[r4];dsimp only;rw[K5,jC];dsimp only;rw[show Nat.mul (min n len) D=min n len*D from rfl,u2];exact⟨c',_,G',u3,u4,u5,.i _,u6⟩
   ·exact H.elim
  ·exact H.elim
 |clear A jQ x =>
  simp only[LOp.ok,J2]at g;have hz:=z8w c g.1;have j:=Rd B g.2;simp only[Qb]at h;simp only[LOp.r,Rg];generalize x.ev ρ=v at h j;generalize x.r.ev (ρA Q)=a at j ⊢;split at h
  ·rename_i p k lo len;split at h
   ·rename_i r gK esz gD st Z;obtain⟨gF,rfl,jT,jH,h⟩:=h;cases j with
    | @vw _ _ _ _ k' hh _ e hk ha _ _ =>
     obtain⟨r0,r1,X⟩:=z.obj p _ _ _ Z e;have gY:len=0→Ur P c G K (.val Um c.H):=by
      intro jI;subst jI;have gZ:Qj r (lo*esz) (Rl jQ 0)=r:=by unfold Qj;simp[Rl]
      rw[gZ]at h;obtain⟨p1,p2,_⟩:=z.upd (k':=k') (x':=hh) (ob':=.dyn r gK esz gD (st+1)) (H':=c.H) Z rfl e (J8 _) (λ_ _ _=>rfl) (λo e'=>⟨.inl e',z.lt o ⟨p,_,_,_,Z,rfl,e,e'⟩⟩) (J8 _) (λ_=>rfl) (λ_=>rfl) (.inl (Lp _))
       (λjg=>(z.obj p _ _ _ Z e).mono jg (λ_ _=>rfl))
      exact⟨⟨c.hd.set p (k',hh),c.Fz,c.H⟩,.any,_,rfl,p1,p2,.any _,h⟩
     rcases ha J with ⟨r3,r4⟩|⟨o,v,gG,D,room,I,r3,r4,r9⟩
     ·have:=gY r3;rcases r4 with rfl|⟨rfl,_⟩
      ·exact this
      ·exact this
     ·have e2:=e;rw[r3]at e2;obtain⟨_,w1,w2,w3,_⟩:=oy z Z e2;subst w2 w3;have hw:Yo G (.dptr p k (lo*D)) (Rl jQ len) (λG'=>K .any G'):=by
       unfold Yo;dsimp only;rw[Z];refine⟨gF,?_,h⟩;rw[z62,jT,←Ky];exact jH
      obtain⟨o2,v2,i2,H',c',G',u1,u2,u3,u4,u5,u6⟩:=zc1 z (a:=.ptr o v (lo*D)) (.dptr e hk (λ_=>⟨rfl,gG,D,room,r3⟩)) (hz.rep len) hw;cases u1;rw[r4];dsimp only;rw[K5];dsimp only;rw[u2];exact⟨c',.any,G',u3,u4,u5,.any _,u6⟩
   ·exact h.elim
  ·exact h.elim
 |mkMap0=>exact zjp z h
 |mkMap1 x =>
  have j:=Rd B g;simp only[Qb]at h;simp only[LOp.r,Rg];generalize x.ev ρ=v at h j;generalize x.r.ev (ρA Q)=a at j ⊢;split at h
  ·cases j;exact zjp z h
  ·exact h.elim
 |lookup d jQ ok x i =>
  simp only[LOp.ok,J2]at g;have hz:=wm c g.1.1;have j:=Rd B g.1.2;have hi:=Rd B g.2;simp only[Qb]at h;simp only[LOp.r,Rg];obtain⟨es,jU,E,C,M,_⟩:=zyf z j h;rw[E];dsimp only;rcases zu2 hi C M with ⟨f1,f2⟩|⟨v,b,f1,f2,f3⟩
  ·rw[f1];dsimp only;cases ok with
   |true=>exact .same z (.tup (.cons hz (.cons (.bool _) .nil))) f2
   |false=>exact .same z hz f2
  ·rw[f1];dsimp only;cases ok with
   |true=>exact .same z (.tup (.cons f2 (.cons (.bool _) .nil))) f3
   |false=>exact .same z f2 f3
 |mapUpd d m k v =>
  simp only[LOp.ok,J2]at g;simp only[Qb]at h;simp only[LOp.r,Rg];exact zzd z (Rd B g.1.1) (Rd B g.1.2) (Rd B g.2) h
 |lenMap x =>
  have j:=Rd B g;simp only[Qb]at h;simp only[LOp.r,Rg];obtain⟨es,jU,E,C,M,H⟩:=zyf z j h;have gL:∀{l:List (LV×LV×Nat)} {r:List (AV×AV×Nat)},MRs c l r→l.length=r.length:=by
   intro l r hr
   induction hr with
   |nil=>rfl
   |cons _ _ _ ih=>simp[ih]
  rcases H with ⟨e1,rfl⟩|⟨o,ck,e1,e2⟩
  ·rw[e1];cases C;exact .same z (.i 0) M
  ·rw[e1];dsimp only;rw[e2];dsimp only;rw[←gL C];exact .same z (.i _) M
 |slArr n A x lo hi =>
  simp only[LOp.ok,J2]at g;have j:=Rd B g.1.1;simp only[Qb]at h;simp only[LOp.r,Rg];generalize x.ev ρ=v at h j;generalize x.r.ev (ρA Q)=a at j ⊢;split at h
  ·rename_i p i;split at h
   ·rename_i l st Z;obtain⟨h0,h⟩:=h;obtain⟨gg,V,E,C,M⟩:=Yd B g.1.2 h;obtain⟨R,T,H,O,q6⟩:=Yd B g.2 M;rw[E,H];obtain⟨F,U,L⟩:=q6;cases j with
    | @ptr _ _ o e =>
     obtain⟨t,l',X,r3,r4⟩:=zmr z Z e;obtain⟨a2,p1,p2,p3⟩:=zaj (lo:=gg) (hi:=R) (o:=o) (v:=0) (i:=i) (len:=n) (esz:=A) (room:=some n) Db Dk (λr e=>by cases e;exact J8 _);have b1:Nat.ble (Nat.add i (Nat.mul n A)) l.length=true:=Kc h0;simp only[R9,X,b1];rw[p1];rw[C,O]at p3;obtain⟨u1,u2⟩:=z.freeze (st:=st+1) Z rfl (Lp _) e (rfl:Qf (.ptr o 0 0)=some o);have jM:i+V*A+(T-V)*A≤l.length:=by
      rw[L7,←Ky];have:(V+(T-V))*A≤n*A:=Kq _ J;omega
     refine⟨⟨c.hd,λq=>c.Fz q∨q=o,c.H⟩,_,_,rfl,u1,u2,?_,L⟩;rcases p3 with ⟨e1,rfl,_⟩|⟨room,rfl,gO⟩
     ·rw[e1];simp only[M0,Ow];exact .lstEmp
     ·refine .lst (.inr rfl) gO Ab (Zj X r3 (J8 _) jM) (ARs.mono u2.le ((r4.drop _).take _))
   ·exact h.elim
  ·exact h.elim
 |callV f gM =>
  simp only[LOp.ok,J2]at g;have hf:=Rd B g.1;have ha:=zuw B g.2;simp only[Qb]at h;simp only[LOp.r,Rg];generalize f.ev ρ=v at h hf;generalize f.r.ev (ρA Q)=a at hf ⊢;split at h
  ·rename_i jP l r;have jO:=h.1;cases hf with
   |fn Y hr =>
    rename_i l' r';have gI:zjy P c.H (.fn (.func jP) l' r') ((rxs gM).map (·.ev (ρA Q)))=.call (.fn jP) (l'++(rxs gM).map (·.ev (ρA Q))++r'):=by
     have k2:zd5 P (.fn (.func jP) l' r') ((rxs gM).map (·.ev (ρA Q)))=.call (.fn jP) (l'++(rxs gM).map (·.ev (ρA Q))++r'):=by
      unfold zd5;dsimp only;rw[J6 jO.1]
     unfold zjy;split
     ·rename_i g' e;cases e;rw[jO.2];exact k2
     ·exact k2
    rw[gI];exact⟨.fn jP,_,rfl,(Y.append ha).append hr,h⟩
  ·rename_i p r;cases hf with
   |yield e=>exact⟨.yield p,_,e,ha,h⟩
  ·exact h.elim
end res
end
section
noncomputable section
structure RI where
 d:Option Nat
 g:Option (Nat×Bool)
 o:ROp
def dstOk(n:Nat):Option Nat→Bool
 |none=>true
 |some d=>Nat.blt d n
def zap(P:Program)(n:Nat)(ops:Array Oper)(o:Oper):Option RI :=
 match dstOk n o.dst with
 |false=>none
 |true=>match Vd P o.op with
  |none=>none
  |some r=>match o.guard with
   |none=>some ⟨o.dst,none,r⟩
   |some (g,w)=>match (ops[g]?).bind (·.dst) with
    |none=>none
    |some t=>match Nat.ble t S4 with
     |true=>some ⟨o.dst,some (t,w),r⟩
     |false=>none
def zcm(P:Program)(n:Nat)(ops:Array Oper):List Oper→Option (List RI)
 |[]=>some []
 |o::l=>match zap P n ops o with
  |none=>none
  |some r=>match zcm P n ops l with
   |none=>none
   |some g=>some (r::g)
structure LI where
 d:Option Nat
 g:Option (Nat×Bool)
 o:LOp
def LI.r(x:LI):RI:=⟨x.d,x.g,x.o.r⟩
def lis:List LI→List RI
 |[]=>[]
 |x::l=>x.r::lis l
def ly(g:Option (Nat×Bool))(j:Tr AV):Bool:=match g with
 |none=>true
 |some (t,w)=>match Pg (Pz t) j with
  |some (.bool b)=>match b with
   |true=>w
   |false=>!w
  |_=>false
def yo(P:Program)(x:RI)(k:Ti)(z:Tr AV)(A:Heap):OE:=match ly x.g z with
 |false=>.ok (Rs x.d Um z) A
 |true=>match Rg P (ρA z) A x.o with
  |.no=>.no
  |.val v j=>.ok (Rs x.d v z) j
  |.call t g=>match k t g A with
   |.no=>.no
   |.ok v j=>.ok (Rs x.d v z) j
def zgt{P:Program}{n:Nat}{ops:Array Oper}{o:Oper}{x:RI}(h:zap P n ops o=some x)(k:Ti)(z:Tr AV)(I:Heap):(Ts P n ops o).run k z I=yo P x k z I:=by
 unfold zap at h;cases hd:dstOk n o.dst with
 |false=>rw[hd]at h;cases h
 |true =>
  rw[hd]at h;dsimp only at h;cases B:Vd P o.op with
  |none=>rw[B]at h;cases h
  |some r =>
   rw[B]at h;dsimp only at h;have K:∃p,Tq n o.dst=some p∧∀a z,p.run a z=Rs o.dst a z:=by
    cases C:o.dst with
    |none=>exact⟨_,rfl,λ_ _=>rfl⟩
    |some d =>
     rw[C]at hd;have D:d<n:=Ki hd;unfold Tq;dsimp only;rw[J6 D];exact⟨_,rfl,λ_ _=>rfl⟩
   obtain⟨p,E,g⟩:=K;have L:x.d=o.dst∧x.o=r∧(Vh ops o).run z=ly x.g z:=by
    cases A:o.guard with
    |none =>
     rw[A]at h;cases h;refine⟨rfl,rfl,?_⟩;unfold Vh;rw[A];rfl
    |some M =>
     obtain⟨U,w⟩:=M;rw[A]at h;dsimp only at h;cases F:(ops[U]?).bind (·.dst) with
     |none=>rw[F]at h;cases h
     |some t =>
      rw[F]at h;dsimp only at h;cases H:Nat.ble t S4 with
      |false=>rw[H]at h;cases h
      |true =>
       rw[H]at h;cases h;refine⟨rfl,rfl,?_⟩;unfold Vh;rw[A];dsimp only;rw[F];dsimp only;rw[J6 (Ki H)];rfl
   obtain⟨O,Q,R⟩:=L;unfold Ts yo;rw[E];dsimp only;rw[R,O,Q,zti (zst z) B I];cases ly x.g z with
   |false=>simp only[g]
   |true =>
    dsimp only;cases Rg P (ρA z) I r with
    |no=>rfl
    |val v T=>simp only[g]
    |call t j =>
     dsimp only;cases k t j I with
     |no=>rfl
     |ok v T=>simp only[g]
def zwh{P:Program}{x:RI}{k z:Ti}(hk:k.le z)(h:yo P x k Q F=.ok uV vU):yo P x z Q F=.ok uV vU:=by
 unfold yo at h ⊢;cases A:ly x.g Q with
 |false=>rw[A]at h;exact h
 |true =>
  rw[A]at h;dsimp only at h ⊢;cases j:Rg P (ρA Q) F x.o with
  |no=>rw[j]at h;cases h
  |val v B=>rw[j]at h;exact h
  |call t g =>
   rw[j]at h;dsimp only at h ⊢;cases hc:k t g F with
   |no=>rw[hc]at h;cases h
   |ok v B=>rw[hc]at h;rw[hk _ _ _ _ _ hc];exact h
def U0(g:Pf)(d:Option Nat)(v:LV):Pf:=match d with
 |none=>g
 |some d=>(d,v)::g
def setL(t:Nat)(v:LV):Pf→Pf
 |[]=>[]
 |(d,x)::l=>if t=d then (d,v)::l else (d,x)::setL t v l
def brG(v:LV)(g j z:Prop):Prop:=match v with
 |.bool t=>V9 t g j
 |.tup []=>z
 |_=>False
def gh(P:Program)(x:LI)(g:Pf)(G:Pd)(z:Pf→Pd→Prop):Prop:=match x.g with
 |none=>Qb P g G x.o λv j=>z (U0 g x.d v) j
 |some (t,true)=>brG (lk g t) (Qb P (setL t (.bool true) g) G x.o λv j=>z (U0 (setL t (.bool true) g) x.d v) j) (z (U0 (setL t (.bool false) g) x.d (.tup [])) G) (z (U0 g x.d (.tup [])) G)
 |some (t,false)=>brG (lk g t) (z (U0 (setL t (.bool true) g) x.d (.tup [])) G) (Qb P (setL t (.bool false) g) G x.o λv j=>z (U0 (setL t (.bool false) g) x.d v) j) (z (U0 g x.d (.tup [])) G)
def uc{v:LV}{g j:Prop}(h:brV v g j):∃b,v=.bool b∧(b=true→g)∧(b=false→j):=by
 cases v with
 |bool b=>exact⟨b,rfl,h⟩
 |_=>exact h.elim
def zqj{v:LV}{g j z:Prop}(h:brG v g j z):(∃b,v=.bool b∧(b=true→g)∧(b=false→j))∨v=.tup []∧z:=by
 unfold brG at h;split at h
 ·exact .inl ⟨_,rfl,h⟩
 ·exact .inr ⟨rfl,h⟩
 ·exact h.elim
def ja{P:Program}{x:LI}{t:Nat}{w:Bool}(z:x.g=some (t,w)){g:Pf}{G:Pd}{j:Pf→Pd→Prop}(h:gh P x g G j) :
  (∃b,lk g t=.bool b∧(b=w→Qb P (setL t (.bool w) g) G x.o λv A=>j (U0 (setL t (.bool w) g) x.d v) A)∧(b=!w→j (U0 (setL t (.bool (!w)) g) x.d (.tup [])) G))∨lk g t=.tup []∧j (U0 g x.d (.tup [])) G:=by
 unfold gh at h;rw[z]at h;cases w with
 |true=>exact zqj h
 |false =>
  rcases zqj h with ⟨b,e,B,C⟩|h
  ·exact .inl ⟨b,e,C,B⟩
  ·exact .inr h
def Xa(P:Program):List LI→Pf→Pd→(Pf→Pd→Prop)→Prop
 |[],g,G,j=>j g G
 |x::l,g,G,j=>gh P x g G λz A=>Xa P l z A j
def Qo.put{c:Cx}{ρ:Pf}{E:Tr AV}(h:Qo c ρ E){v:LV}{a:AV}(ha:AR c v a)(d:Option Nat):Qo c (U0 ρ d v) (Rs d a E):=by
 cases d with
 |none=>exact h
 |some d =>
  intro t;show AR c (lk ((d,v)::ρ) t) ((Pg (Pz t) (Rf a (Pz d) E)).getD Um);rw[zjm,zjs];by_cases e:t=d
  ·rw[J6 e,J6 e];exact ha
  ·rw[J1 e,J1 e];exact h t
def fg(t:Nat)(v:LV):∀(z:Pf) (g:Nat),lk (setL t v z) g=lk z g∨(g=t∧lk (setL t v z) g=v)
 |[],_=>.inl rfl
 |(d,x)::l,g=>by
  simp only[setL];by_cases h:t=d
  ·rw[J6 h];simp only[zjs];by_cases j:g=d
   ·rw[J6 j];exact .inr ⟨J,rfl⟩
   ·rw[J1 j,J1 j];exact .inl rfl
  ·rw[J1 h];simp only[zjs];by_cases j:g=d
   ·rw[J6 j,J6 j];exact .inl rfl
   ·rw[J1 j,J1 j];exact fg t v l g
def Qo.setL{c:Cx}{ρ:Pf}{E:Tr AV}(h:Qo c ρ E){t:Nat}{v:LV}(ha:AR c v ((Pg (Pz t) E).getD Um)):Qo c (Sv.setL t v ρ) E:=by
 intro t';rcases fg t v ρ t' with e|⟨rfl,e⟩
 ·rw[e];exact h t'
 ·rw[e];exact ha
section run
variable {P : Program} {c : Cx} {G : Pd}
def rn(M:HSim c G){T:Pf}(A:Qo c T Q){x:LI}(U:x.o.ok=true){gg:Pf→Pd→Prop}(h:gh P x T G gg) :
  ∃m I j K z,yo P x.r (U6 P (OL P) m) Q c.H=.ok I j.H∧HSim j z∧Step c G j z∧Qo j K I∧gg K z:=by
 have D:∀T,Qo c T Q→(Qb P T G x.o λv z=>gg (U0 T x.d v) z)→ly x.g Q=true→∃m I j K z,yo P x.r (U6 P (OL P) m) Q c.H=.ok I j.H∧HSim j z∧Step c G j z∧Qo j K I∧gg K z:=by
  intro T A h L;have E:=OpL_ok M A U h;unfold Ur at E;unfold yo;rw[show x.r.g=x.g from rfl,L];dsimp only[LI.r];cases he:Rg P (ρA Q) c.H x.o.r with
  |no=>rw[he]at E;exact E.elim
  |val v1 H' =>
   rw[he]at E;obtain⟨j,v,z,rfl,V,O,q4,q5⟩:=E;exact⟨0,_,j,_,z,rfl,V,O,(A.mono O.le).put q4 x.d,q5⟩
  |call t1 F =>
   rw[he]at E;obtain⟨t,Y,q1,V,_,O⟩:=E;obtain⟨m,v1,H',r1,j,v,z,rfl,r3,Z,r5,r6⟩:=O c t1 F M q1 V;refine⟨m,_,j,_,z,?_,r3,Z,(A.mono Z.le).put r5 x.d,r6⟩;dsimp only;rw[r1]
 cases B:x.g with
 |none =>
  unfold gh at h;rw[B]at h;exact D T A h (by rw[B];rfl)
 |some tw =>
  obtain⟨t,w⟩:=tw;have L:=B;rcases ja B h with ⟨b,hb,h⟩|⟨hb,h⟩
  rotate_left
  ·have C:=A t;rw[hb]at C;have H:ly x.g Q=false:=by
    rw[L];unfold ly;dsimp only;cases R:Pg (Pz t) Q with
    |none=>rfl
    |some a=>rw[R]at C;cases C;rfl
   refine⟨0,_,c,_,G,?_,M,.refl c G,A.put (.tup .nil) x.d,h⟩;unfold yo;rw[show x.r.g=x.g from rfl,H];rfl
  ·have C:=A t;rw[hb]at C;have g:Pg (Pz t) Q=some (.bool b):=by
    cases R:Pg (Pz t) Q with
    |none=>rw[R]at C;cases C
    |some a=>rw[R]at C;cases C;rfl
   by_cases e:b=w
   ·refine D _ (A.setL (by rw[g,←e];exact .bool b)) (h.1 e) ?_;rw[L];unfold ly;dsimp only;rw[g,e];cases w<;>rfl
   ·have X:b=!w:=by cases b<;>cases w<;>simp_all
    refine⟨0,_,c,_,G,?_,M,.refl c G,(A.setL (by rw[g,←X];exact .bool b)).put (.tup .nil) x.d,h.2 X⟩;have H:ly x.g Q=false:=by
     rw[L];unfold ly;dsimp only;rw[g,X];cases w<;>rfl
    unfold yo;rw[show x.r.g=x.g from rfl,H];rfl
def zxv{n:Nat}{ops:Array Oper}:∀{l:List LI} {j:List Oper} {c:Cx} {G:Pd} {L:Pf} {M:Tr AV} {O:Pf→Pd→Prop},zcm P n ops j=some (lis l)→l.all (·.o.ok)=true→HSim c G→Qo c L M→Xa P l L G O →
  ∃m Q B C A,(zd P n ops j).run (U6 P (OL P) m) M c.H=.ok Q B.H∧HSim B A∧Step c G B A∧Qo B C Q∧O C A
 |[],j,c,G,L,M,O,g,_,D,E,h=>by
  cases j with
  |nil=>exact⟨0,M,c,L,G,rfl,D,.refl c G,E,h⟩
  |cons o j =>
   simp only[zcm]at g;split at g
   ·cases g
   ·split at g<;>cases g
 |x::l,j,c,G,L,M,O,g,z,D,E,h=>by
  cases j with
  |nil=>cases g
  |cons o j =>
   simp only[zcm]at g;split at g
   ·cases g
   ·rename_i r F;split at g
    ·cases g
    ·rename_i rs H;simp only[lis,Option.some.injEq,List.cons.injEq]at g;obtain⟨rfl,rfl⟩:=g;simp only[Mq,J2]at z;obtain⟨I,E1,c1,ρ1,G1,T,R,U,V,X⟩:=rn D E z.1 (show gh P x L G λC A=>Xa P l C A O from h);obtain⟨K,Y,Z,ρ2,G2,q1,q2,q3,q4,q5⟩:=zxv H z.2 R V X;refine⟨max I K,Y,Z,ρ2,G2,?_,q2,.trans D R U q3,q4,q5⟩;simp only[zd];rw[zgt F,zwh (yz (Mi I K)) T];dsimp only;exact zcb (yz (Mv I K)) q1
end run
end
end
section
noncomputable section
inductive RC where
 |skip
 |ops (l:List RI)
 |draw (l:List (RI×List (RI×Bool)))
 |seq (a b:RC)
 |cond (c:Ox) (a b:RC)
 |block (id:Nat) (c:RC)
 |loop (c:RC)
 |rangeF (g:Ox) (ps:List Nat) (a b:RC)
 |exit (id:Nat)
 |scope (c:RC)
 |label
 |ret
 |stuck
inductive LC where
 |skip
 |ops (l:List LI)
 |draw (l:List (LI×List (LI×Bool)))
 |seq (a b:LC)
 |cond (c:Lx) (a b:LC)
 |block (id:Nat) (c:LC)
 |loop (c:LC)
 |rangeF (g:Lx) (ps:List Nat) (a b:LC)
 |exit (id:Nat)
 |scope (c:LC)
 |label
 |ret
 |stuck
def Yw(t:Nat):List Nat→Bool
 |[]=>false
 |a::l=>match Nat.beq t a with
  |true=>true
  |false=>Yw t l
def bi(ops:Array Oper)(d:Option Nat)(x:DOp):Bool:=match d with
 |none=>true
 |some d=>match Yw d (Xo ops x.o) with
  |true=>false
  |false=>match x.o.dst with
   |none=>true
   |some e=>!(Nat.beq d e)
def X3(x:DOp):Bool:=match x.c with
 |.al=>true
 |_=>false
def zlr(P:Program)(n:Nat)(ops:Array Oper):List DOp→Option (List (RI×Bool))
 |[]=>some []
 |x::l=>match zap P n ops x.o with
  |none=>none
  |some r=>match zlr P n ops l with
   |none=>none
   |some g=>some ((r,X3 x)::g)
def eqCls:Cls→Cls→Bool
 |.quiet,.quiet=>true
 |.rd,.rd=>true
 |.al,.al=>true
 |.ch,.ch=>true
 |_,_=>false
def zkc(ops:Array Oper)(x:DOp):Bool:=match x.o.dst with
 |none=>false
 |some d=>!(Yw d (Xo ops x.o))
def zp6(P:Program)(n:Nat)(ops:Array Oper):List DOp→List DOp→Option (List (RI×List (RI×Bool)))
 |[],_=>some []
 |x::l,g=>match Yz (bi ops x.o.dst) g&&eqCls x.c (cls P x.o.op) with
  |false=>none
  |true=>match zap P n ops x.o with
   |none=>none
   |some r=>match x.c with
    |.quiet=>match zp6 P n ops l g with
     |none=>none
     |some j=>some ((r,[])::j)
    |.rd=>match zkc ops x with
     |false=>none
     |true=>match zp6 P n ops l (x::g) with
      |none=>none
      |some j=>some ((r,[])::j)
    |.al=>match zkc ops x with
     |false=>none
     |true=>match zlr P n ops g with
      |none=>none
      |some z=>match zp6 P n ops l (x::g) with
       |none=>none
       |some j=>some ((r,z)::j)
    |.ch=>match zlr P n ops (Qi (λy=>!(Nat.testBit x.m y.i)) g) with
     |none=>none
     |some z=>match zp6 P n ops l (Qi (λy=>!(Nat.testBit x.m y.i)) g) with
      |none=>none
      |some j=>some ((r,z)::j)
def zt6(P:Program)(n:Nat)(ops:Array Oper):Option (List (RI×List (RI×Bool))) :=
 let z:=S9 P ops ops.toList [] 0;let g:=Qi Pp z;let j:=zy7 z g
 match ac ops.size z j with
 |true=>zp6 P n ops j []
 |false=>none
def Qg(P:Program)(n:Nat):Code→Option RC
 |.skip=>some .skip
 |.region _ ops draw=>match draw with
  |true=>match zt6 P n ops with
   |none=>some .stuck
   |some l=>some (.draw l)
  |false=>match zcm P n ops ops.toList with
   |none=>some .stuck
   |some l=>some (.ops l)
 |.seq a b=>match Qg P n a with
  |none=>none
  |some a=>match Qg P n b with
   |none=>none
   |some b=>some (.seq a b)
 |.cond c a b=>match Qu c with
  |none=>none
  |some c=>match Qg P n a with
   |none=>none
   |some a=>match Qg P n b with
    |none=>none
    |some b=>some (.cond c a b)
 |.block id c=>match Qg P n c with
  |none=>none
  |some c=>some (.block id c)
 |.loop c=>match Qg P n c with
  |none=>none
  |some c=>some (.loop c)
 |.rangeFunc g j a b=>match Qu g with
  |none=>none
  |some g=>match Qg P n a with
   |none=>none
   |some a=>match Qg P n b with
    |none=>none
    |some b=>some (.rangeF g j.toList a b)
 |.exit id=>some (.exit id)
 |.scope c=>match Qg P n c with
  |none=>none
  |some c=>some (.scope c)
 |.label _=>some .label
 |.ret=>some .ret
 |_=>some .stuck
def rck:List (LI×Bool)→List (RI×Bool)
 |[]=>[]
 |(x,b)::l=>(x.r,b)::rck l
def rdr:List (LI×List (LI×Bool))→List (RI×List (RI×Bool))
 |[]=>[]
 |(x,c)::l=>(x.r,rck c)::rdr l
def LC.r:LC→RC
 |.skip=>.skip
 |.ops l=>.ops (lis l)
 |.draw l=>.draw (rdr l)
 |.seq a b=>.seq a.r b.r
 |.cond c a b=>.cond c.r a.r b.r
 |.block id c=>.block id c.r
 |.loop c=>.loop c.r
 |.rangeF g ps a b=>.rangeF g.r ps a.r b.r
 |.exit id=>.exit id
 |.scope c=>.scope c.r
 |.label=>.label
 |.ret=>.ret
 |.stuck=>.stuck
def LC.ok:LC→Bool
 |.ops l=>l.all (·.o.ok)
 |.draw l=>l.all λx=>x.1.o.ok&&x.2.all (·.1.o.ok)
 |.seq a b=>a.ok&&b.ok
 |.cond c a b=>c.ok&&a.ok&&b.ok
 |.block _ c=>c.ok
 |.loop c=>c.ok
 |.rangeF g _ a b=>g.ok&&a.ok&&b.ok
 |.scope c=>c.ok
 |_=>true
abbrev R8:=Ex→Pf→List Nat→Pd→Prop
inductive DRs (c:Cx):List Nat→List Nat→Prop where
 |nil:DRs c [] []
 |cons {p o:Nat} {l r:List Nat} (h:c.hd[p]?=some (0,.ptr o 0 0)) (hs:DRs c l r):DRs c (p::l) (o::r)
def DRs.mono{c c':Cx}(h:CxLe c c'):∀{l r:List Nat},DRs c l r→DRs c' l r
 |_,_,.nil=>.nil
 |_,_,.cons e es=>.cons (h.fix e rfl) (DRs.mono h es)
def ROr(c:Cx):Option Nat→Option Nat→Prop
 |none,none=>True
 |some p,some o=>c.hd[p]?=some (0,.ptr o 0 0)
 |_,_=>False
def ROr.mono{c:Cx}(h:CxLe c uQ){a b:Option Nat}(k:ROr c a b):ROr uQ a b:=by
 cases a<;>cases b<;>first|exact k|exact h.fix k rfl
def W(P:Program)(f n:Nat)(s:LC)(ro:Option Nat)(ρ:Pf)(D:List Nat)(G:Pd)(Q:R8):Prop :=
 ∀(g:Code) (c:Cx) (I:Tr AV) (C:List Nat) (j:Option Nat),Qg P n g=some s.r→s.ok=true→HSim c G→Qo c ρ I→DRs c D C→ROr c ro j →
  ∃m x E z A F H B,(Sk P f n g).run (U6 P (OL P) m) m j I C c.H=.ok x E z A.H∧HSim A B∧Step c G A B∧Qo A F E∧DRs A H z∧Q x F H B
section rules
variable {P : Program} {f n : Nat} {ro : Option Nat} {ρ : Pf} {D : List Nat} {G : Pd} {Q : R8}
def W.post{s:LC}{Q':R8}(h:W P f n s ro ρ D G Q)(hq:∀x ρ D G,Q x ρ D G→Q' x ρ D G):W P f n s ro ρ D G Q':=by
 intro code c E D1 gg h1 h2 h3 h4 h5 h6;obtain⟨m,x,E',gD,c',ρ',D',G',q1,q2,q3,q4,q5,q6⟩:=h code c E D1 gg h1 h2 h3 h4 h5 h6;exact⟨m,x,E',gD,c',ρ',D',G',q1,q2,q3,q4,q5,hq _ _ _ _ q6⟩
def tz(h:Qg P n uH=some .skip):uH=.skip:=by
 cases uH<;>simp only[Qg]at h<;>first|rfl|(repeat' split at h)<;>cases h
def inv_ops{l:List RI}(h:Qg P n uH=some (.ops l)):∃id ops,uH=.region id ops false∧zcm P n ops ops.toList=some l:=by
 cases uH<;>simp only[Qg]at h<;>(repeat' split at h)<;>cases h;exact⟨_,_,rfl,‹_›⟩
def sb{l:List (RI×List (RI×Bool))}(h:Qg P n uH=some (.draw l)):∃id ops,uH=.region id ops true∧zt6 P n ops=some l:=by
 cases uH<;>simp only[Qg]at h<;>(repeat' split at h)<;>cases h;exact⟨_,_,rfl,‹_›⟩
def inv_seq{a b:RC}(h:Qg P n uH=some (.seq a b)):∃g j,uH=.seq g j∧Qg P n g=some a∧Qg P n j=some b:=by
 cases uH<;>simp only[Qg]at h<;>(repeat' split at h)<;>cases h;exact⟨_,_,rfl,‹_›,‹_›⟩
def xe{x:Ox}{a b:RC}(h:Qg P n uH=some (.cond x a b)):∃g j z,uH=.cond g j z∧Qu g=some x∧Qg P n j=some a∧Qg P n z=some b:=by
 cases uH<;>simp only[Qg]at h<;>(repeat' split at h)<;>cases h;exact⟨_,_,_,rfl,‹_›,‹_›,‹_›⟩
def zyx{id:Nat}{a:RC}(h:Qg P n uH=some (.block id a)):∃g,uH=.block id g∧Qg P n g=some a:=by
 cases uH<;>simp only[Qg]at h<;>(repeat' split at h)<;>cases h;exact⟨_,rfl,‹_›⟩
def sy{a:RC}(h:Qg P n uH=some (.loop a)):∃g,uH=.loop g∧Qg P n g=some a:=by
 cases uH<;>simp only[Qg]at h<;>(repeat' split at h)<;>cases h;exact⟨_,rfl,‹_›⟩
def pg{id:Nat}(h:Qg P n uH=some (.exit id)):uH=.exit id:=by
 cases uH<;>simp only[Qg]at h<;>(repeat' split at h)<;>cases h;rfl
def jk{a:RC}(h:Qg P n uH=some (.scope a)):∃g,uH=.scope g∧Qg P n g=some a:=by
 cases uH<;>simp only[Qg]at h<;>(repeat' split at h)<;>cases h;exact⟨_,rfl,‹_›⟩
def jv(h:Qg P n uH=some .label):∃s,uH=.label s:=by
 cases uH<;>simp only[Qg]at h<;>(repeat' split at h)<;>cases h;exact⟨_,rfl⟩
def inv_ret(h:Qg P n uH=some .ret):uH=.ret:=by
 cases uH<;>simp only[Qg]at h<;>first|rfl|(repeat' split at h)<;>cases h
def W_skip(h:Q .normal ρ D G):W P f n .skip ro ρ D G Q:=by
 intro g c F j z A H B C E I;obtain rfl:=tz A;exact⟨0,.normal,F,j,c,ρ,D,G,rfl,B,.refl c G,C,E,h⟩
def W_label(h:Q .normal ρ D G):W P f n .label ro ρ D G Q:=by
 intro g c F j z A H B C E I;obtain⟨s,rfl⟩:=jv A;exact⟨0,.normal,F,j,c,ρ,D,G,rfl,B,.refl c G,C,E,h⟩
def W_exit{id:Nat}(h:Q (.exit id) ρ D G):W P f n (.exit id) ro ρ D G Q:=by
 intro g c F j z A H B C E I;obtain rfl:=pg A;exact⟨0,.exit id,F,j,c,ρ,D,G,rfl,B,.refl c G,C,E,h⟩
def W_ret(h:Q .ret ρ D G):W P f n .ret ro ρ D G Q:=by
 intro g c F j z A H B C E I;obtain rfl:=inv_ret A;exact⟨0,.ret,F,j,c,ρ,D,G,rfl,B,.refl c G,C,E,h⟩
def W_scope{s:LC}(h:W P f n s ro ρ D G Q):W P f n (.scope s) ro ρ D G Q:=by
 intro z c L A g B C E F H I;obtain⟨K,rfl,j⟩:=jk B;exact h K c L A g j C E F H I
def W_ops{l:List LI}(h:Xa P l ρ G λg j=>Q .normal g D j):W P f n (.ops l) ro ρ D G Q:=by
 intro z c Y B C E F H I K X;obtain⟨id,ops,rfl,L⟩:=inv_ops E;obtain⟨m,M,O,g,j,R,T,A,U,V⟩:=zxv L F H I h;refine⟨m,.normal,M,B,O,g,D,j,?_,T,A,U,K.mono A.le,V⟩;simp only[Sk];rw[R]
def yb{a b:LC}(h:W P f n a ro ρ D G λx j z A=>match x with
  |.normal=>W P f n b ro j z A Q
  |x=>Q x j z A):W P f n (.seq a b) ro ρ D G Q:=by
 intro U c gg Y B Z H V h4 h5 X;obtain⟨ca,cb,rfl,ha,hb⟩:=inv_seq Z;simp only[LC.ok,J2]at H;obtain⟨m,x,I,g,K,j,z,A,L,E,F,M,O,R⟩:=h ca c gg Y B ha H.1 V h4 h5 X;cases x with
 |normal =>
  obtain⟨C,x,E2,D2,c2,ρ2,T,G2,r1,r2,r3,r4,r5,r6⟩:=R cb K I g B hb H.2 E M O (X.mono F.le);refine⟨max m C,x,E2,D2,c2,ρ2,T,G2,?_,r2,.trans V E F r3,r4,r5,r6⟩;simp only[Sk];rw[z2i (yz (Mi m C)) (Mi m C) _ L];exact z2i (yz (Mv m C)) (Mv m C) _ r1
 |exit id =>
  refine⟨m,.exit id,I,g,K,j,z,A,?_,E,F,M,O,R⟩;simp only[Sk];rw[L]
 |ret =>
  refine⟨m,.ret,I,g,K,j,z,A,?_,E,F,M,O,R⟩;simp only[Sk];rw[L]
def W_cond{x:Lx}{a b:LC}{t:Bool}(hx:x.ev ρ=.bool t)(ha:t=true→W P f n a ro ρ D G Q)(hb:t=false→W P f n b ro ρ D G Q):W P f n (.cond x a b) ro ρ D G Q:=by
 intro T c U V j h1 z X A Y Z;obtain⟨cx,ca,cb,rfl,B,C,E⟩:=xe h1;simp only[LC.ok,J2]at z;have hv:=Rd A z.1.1;have F:=Ww B (zst U);have H:x.r.ev (ρA U)=.bool t:=by
  rw[hx]at hv;generalize x.r.ev (ρA U)=w at hv;cases hv;rfl
 rw[H]at F;cases t with
 |true =>
  obtain⟨m,x,I,g,K,L,M,O,R,q⟩:=ha rfl ca c U V j C z.1.2 X A Y Z;refine⟨m,x,I,g,K,L,M,O,?_,q⟩;simp only[Sk];rw[F];exact R
 |false =>
  obtain⟨m,x,I,g,K,L,M,O,R,q⟩:=hb rfl cb c U V j E z.2 X A Y Z;refine⟨m,x,I,g,K,L,M,O,?_,q⟩;simp only[Sk];rw[F];exact R
def W_block{id:Nat}{s:LC}(h:W P f n s ro ρ D G λx j z A=>match x with
  |.exit i=>if i=id then Q .normal j z A else Q (.exit i) j z A
  |x=>Q x j z A):W P f n (.block id s) ro ρ D G Q:=by
 intro R c gg T M U V X Y Z h6;obtain⟨ca,rfl,O⟩:=zyx U;obtain⟨m,x,C,g,E,j,z,A,F,H,I,K,L,B⟩:=h ca c gg T M O V X Y Z h6;cases x with
 |normal =>
  refine⟨m,.normal,C,g,E,j,z,A,?_,H,I,K,L,B⟩;simp only[Sk];rw[F]
 |exit i =>
  dsimp only at B;by_cases e:i=id
  ·rw[J6 e]at B;refine⟨m,.normal,C,g,E,j,z,A,?_,H,I,K,L,B⟩;simp only[Sk];rw[F,e];dsimp only;rw[K5]
  ·rw[J1 e]at B;refine⟨m,.exit i,C,g,E,j,z,A,?_,H,I,K,L,B⟩;simp only[Sk];rw[F];dsimp only;cases hb:Nat.beq i id with
   |true=>exact absurd (Kd hb) e
   |false=>rfl
 |ret =>
  refine⟨m,.ret,C,g,E,j,z,A,?_,H,I,K,L,B⟩;simp only[Sk];rw[F]
def wq{s:LC}(gI:Pf→List Nat→Pd→Nat→Prop)(h0:gI ρ D G g)
  (h:∀g ρ D G,gI ρ D G g→W P f n s ro ρ D G λx A B z=>match x with
   |.normal=>∃M,M<g∧gI A B z M
   |x=>Q x A B z):W P f n (.loop s) ro ρ D G Q:=by
 intro gH c gG H F h1 h2 O V X R;obtain⟨ca,rfl,Y⟩:=sy h1;have Z:∀g,∀(c:Cx) (gG:Tr AV) (H:List Nat) (ρ:Pf) (D:List Nat) (G:Pd),gI ρ D G g→HSim c G→Qo c ρ gG→DRs c D H→ROr c ro F →
   ∃m I x E j C A B z,tv ((Sk P f n ca).run (U6 P (OL P) m) m F) I gG H c.H=.ok x E j C.H∧HSim C z∧Step c G C z∧Qo C A E∧DRs C B j∧Q x A B z:=by
  intro g
  induction g using Nat.strongRecOn with
  |_ g ih =>
   intro c gG H ρ D G hI O V X R;obtain⟨m,x,E,j,C,A,B,z,K,T,U,q4,q5,q6⟩:=h g ρ D G hI ca c gG H F Y h2 O V X R;cases x with
   |normal =>
    obtain⟨M,hN,gg⟩:=q6;obtain⟨L,gD,x,E2,D2,c2,ρ2,gF,G2,r1,r2,r3,r4,r5,r6⟩:=ih M hN C E j A B z gg T q4 q5 (R.mono U.le);refine⟨max m L,gD+1,x,E2,D2,c2,ρ2,gF,G2,?_,r2,.trans O T U r3,r4,r5,r6⟩;simp only[tv];rw[z2i (yz (Mi m L)) (Mi m L) _ K];exact zcs (λ_ _ _ _ _ _ _ e=>z2i (yz (Mv m L)) (Mv m L) _ e) (J8 _) r1
   |exit id =>
    refine⟨m,1,.exit id,E,j,C,A,B,z,?_,T,U,q4,q5,q6⟩;simp only[tv];rw[K]
   |ret =>
    refine⟨m,1,.ret,E,j,C,A,B,z,?_,T,U,q4,q5,q6⟩;simp only[tv];rw[K]
 obtain⟨m,I,x,E,j,C,A,B,z,K,q⟩:=Z g c gG H ρ D G h0 O V X R;refine⟨max m I,x,E,j,C,A,B,z,?_,q⟩;simp only[Sk];exact zcs (λ_ _ _ _ _ _ _ e=>z2i (yz (Mi m I)) (Mi m I) _ e) (Mv m I) K
end rules
inductive RRes where
 |tmp (t:Nat)
 |cell1 (t:Nat)
 |cellN (t n:Nat)
def resR(P:Program):ResultVar→Option RRes
 |.tmp t=>match Nat.ble t S4 with
  |true=>some (.tmp t)
  |false=>none
 |.cell a t=>match Nat.ble a S4 with
  |true=>match Vv P t,Rt P t with
   |some true,some n=>some (.cellN a n)
   |some false,some _=>some (.cell1 a)
   |_,_=>none
  |false=>none
def br(P:Program):List ResultVar→Option (List RRes)
 |[]=>some []
 |r::l=>match resR P r with
  |none=>none
  |some a=>match br P l with
   |none=>none
   |some b=>some (a::b)
structure RF where
 n:Nat
 c:RC
 rs:List RRes
def Pk(P:Program)(f:Nat):Option RF :=
 match z7j P f && !(zg6 P f) && !(zr1 P f) with
 |false=>none
 |true=>match P.funcs[f]? with
  |none=>none
  |some fn=>match fn.body with
   |none=>none
   |some b=>match Nat.ble fn.ntmps S4 with
    |false=>none
    |true=>match Qg P fn.ntmps b with
     |none=>none
     |some c=>match br P fn.results.toList with
      |none=>none
      |some g=>some ⟨fn.ntmps,c,g⟩
def T4(ρ:Pf)(G:Pd):List RRes→(List LV→Prop)→Prop
 |[],j=>j []
 |r::l,j=>match r with
  |.tmp t=>T4 ρ G l λg=>j (lk ρ t::g)
  |.cell1 t=>du G (lk ρ t) λv=>T4 ρ G l λg=>j (v::g)
  |.cellN t n=>Zo G (lk ρ t) n λz=>T4 ρ G l λg=>j (.agg z::g)
def Yy:List LV→LV
 |[v]=>v
 |l=>.tup l
def rj:List LV→Nat→Pf
 |[],_=>[]
 |v::l,i=>(i,v)::rj l (i+1)
def zpc:List Nat→Pd→(Pd→Prop)→Prop
 |[],G,g=>g G
 |d::l,G,g=>match G[d]? with
  |some (.defd true)=>zpc l (G.set d (.defd false)) g
  |_=>False
section fns
variable {P : Program}
def znr{c:Cx}{G:Pd}{ρ:Pf}{H:Tr AV}(A:HSim c G)(z:Qo c ρ H):∀{l:List ResultVar} {F:List RRes} {I:List LV→Prop},br P l=some F→T4 ρ G F I→∃g as,(zqt P l).run H c.H=some as∧ARs c g as∧I g
 |[],F,I,h,k=>by cases h;exact⟨[],[],rfl,.nil,k⟩
 |r::l,F,I,h,k=>by
  simp only[br]at h;split at h
  ·cases h
  ·rename_i a ha;split at h
   ·cases h
   ·rename_i b hb;cases h;simp only[zqt];cases r with
    |tmp t =>
     simp only[resR]at ha;split at ha
     ·rename_i K;cases ha;obtain⟨g,as,B,C,E⟩:=znr A z hb (show T4 ρ G b (λg=>I (lk ρ t::g)) from k);have j:(P3 (.tmp t)).run H=some ((Pg (Pz t) H).getD Um):=by
       unfold P3;dsimp only;rw[K];dsimp only;cases Pg (Pz t) H<;>rfl
      refine⟨_,_,?_,.cons (z t) C,E⟩;simp only[resF];rw[j,B]
     ·cases ha
    |cell t X =>
     simp only[resR]at ha;split at ha
     ·rename_i K;have j:(P3 (.tmp t)).run H=some ((Pg (Pz t) H).getD Um):=by
       unfold P3;dsimp only;rw[K];dsimp only;cases Pg (Pz t) H<;>rfl
      split at ha
      ·rename_i m L M;cases ha;obtain⟨o,v,i,Y,V,O,R,T,U⟩:=zmx A (z t) (show Zo G (lk ρ t) m (λV=>T4 ρ G b λg=>I (.agg V::g)) from k);obtain⟨g,as,B,C,E⟩:=znr A z hb U;refine⟨_,_,?_,.cons (.agg T) C,E⟩;simp only[Sv.resF,L,M];rw[j,O];dsimp only;rw[R,B]
      ·rename_i m L M;cases ha;obtain⟨o,v,i,w,Z,O,R,T,U⟩:=zuf A (z t) (show du G (lk ρ t) (λv=>T4 ρ G b λg=>I (v::g)) from k);obtain⟨g,as,B,C,E⟩:=znr A z hb U;refine⟨_,_,?_,.cons T C,E⟩;simp only[Sv.resF,L,M];rw[j,O];dsimp only;rw[R];dsimp only;rw[B]
      ·cases ha
     ·cases ha
end fns
end
end
section
section fns
variable {P : Program}
def lk_argsL:∀(l:List LV) (i t:Nat),lk (rj l i) t=if i≤t∧t<i+l.length then l.getD (t-i) .any else .any
 |[],i,t=>by simp only[rj,qu,Kz];rw[J1 J]
 |v::l,i,t=>by
  simp only[rj,zjs,Kh];rw[lk_argsL l (i+1) t];by_cases h:t=i
  ·subst h;rw[J6 rfl,J6 J];simp
  ·rw[J1 h];by_cases g:i+1≤t∧t<i+1+l.length
   ·rw[J6 g,J6 J,show t-i=(t-(i+1))+1 from J];simp
   ·rw[J1 g,J1 J]
def Qo.start{c:Cx}{args:List LV}{gg:List AV}(h:ARs c args gg):Qo c (rj args 0) (T9 gg 0 .e):=by
 intro t;rw[lk_argsL,get_ofList,cy];have hl:=h.length;by_cases ht:t<args.length
 ·rw[J6 J,J6 J];obtain⟨a,q1,q2⟩:=h.get (J7 ht);rw[Oo,q1,J0,J7 ht];exact q2
 ·rw[J1 J];exact .any _
def zv2{U:Pd→Prop}:∀{H:List Nat} {E:List Nat} {c:Cx} {B:Pd},DRs c H E→HSim c B→zpc H B U→∃j z,za8 E c.H=some j.H∧HSim j z∧Step c B j z∧U z
 |[],_,c,B,.nil,g,h=>⟨c,B,rfl,g,.refl c B,h⟩
 |d::H,_,c,B,.cons (o:=o) e I,g,h=>by
  simp only[zpc]at h;split at h
  ·rename_i C;obtain⟨_,F,he,A⟩:=g.obj d _ _ _ C e;injection he with he
   subst he;obtain⟨G,K,L⟩:=g.upd (k':=0) (x':=.ptr o 0 0) (ob':=.defd false) (H':=c.H.put o (.defd false)) C rfl e (J8 _) (λF _ D=>Heap.get_put_ne _ _ (λq=>D Hd))
    (λF M=>by cases M;exact⟨.inl rfl,g.lt o ⟨d,_,_,_,C,rfl,e,rfl⟩⟩) (J8 _) (λ_=>rfl) (λ_=>rfl) (.inr ⟨rfl,J8 _⟩) (λ_=>⟨rfl,o,rfl,Heap.get_put_same _ _ _⟩)
   obtain⟨j,z,O,Q,R,T⟩:=zv2 (I.mono L) G h;refine⟨j,z,?_,Q,.trans g G K R,T⟩;simp only[za8];rw[A];exact O
  ·exact h.elim
def oneA:List AV→AV
 |[v]=>v
 |l=>.tup l
def zlm{f:Nat}{s:LC}{n:Nat}{Q:List RRes}(g:Pk P f=some ⟨n,s.r,Q⟩)(F:s.ok=true)(hn:E.length≤n)
  (h:W P f n s none (rj E 0) [] I λx ρ gF R=>(match x with | .exit _=>False|_=>True)∧zpc gF R λC=>T4 ρ C Q λD=>Z (Yy D) C):Tw P (.fn f) E I Z:=by
 unfold Pk at g;split at g
 ·cases g
 ·rename_i j;simp only[J2,L9]at j;refine⟨j.1,λc t1 z T U ha=>?_⟩;cases t1 with
  |yield o=>exact U.elim
  |fn gG =>
   obtain rfl:f=gG:=U;split at g
   ·cases g
   ·rename_i fn G;split at g
    ·cases g
    ·rename_i b hb;split at g
     ·cases g
     ·rename_i A;split at g
      ·cases g
      ·rename_i rc H;split at g
       ·cases g
       ·rename_i gg K;cases g;obtain⟨m,x,E',gD,c',ρ',D',R,q1,V,q3,q4,q5,q6,q7⟩:=h b c _ [] none H F T (Qo.start ha) .nil trivial;obtain⟨L,C,X,Y,r3,r4⟩:=zv2 q5 V q7;obtain⟨D,as,s1,s2,s3⟩:=znr Y (q4.mono r3.le) K r4;have B:AR L (Yy D) (oneA as):=by
         cases s2 with
         |nil=>exact .tup .nil
         |cons e es =>
          cases es with
          |nil=>exact e
          |cons e2 M=>exact .tup (.cons e (.cons e2 M))
        refine⟨m+1,oneA as,L.H,?_,L,Yy D,C,rfl,Y,.trans T V q3 r3,B,s3⟩;unfold U6;dsimp only;rw[OL_no j.2];dsimp only;unfold zic;rw[G];dsimp only;rw[hb];dsimp only;rw[J6 (Ki A)];dsimp only;have O:Nat.ble z.length fn.ntmps=true:=Kc (by rw[←ha.length];exact hn);rw[O];dsimp only;rw[q1];dsimp only;cases x with
        |exit id=>exact q6.elim
        |normal =>
         dsimp only;rw[X];dsimp only;rw[s1];rcases as with _|⟨a,_|⟨a2,as⟩⟩<;>rfl
        |ret =>
         dsimp only;rw[X];dsimp only;rw[s1];rcases as with _|⟨a,_|⟨a2,as⟩⟩<;>rfl
def Tw.mono{t:LTgt}{args:List LV}{G:Pd}{K K':LV→Pd→Prop}(h:Tw P t args G K)(hk:∀v G,K v G→K' v G):Tw P t args G K' :=
 ⟨h.1,λc t1 gg h1 h2 h3=>by
  obtain⟨m,v1,H',q1,c',v,G',q2,q3,q4,q5,q6⟩:=h.2 c t1 gg h1 h2 h3;exact⟨m,v1,H',q1,c',v,G',q2,q3,q4,q5,hk _ _ q6⟩⟩
mutual
def LV.sim(m:Nat):LV→Bool
 |.bool _ |.u _ |.b _ |.i _ |.int _ _ |.str _ |.nilPtr |.nilSl |.nilMap |.nilFn |.nilIf=>true
 |.dy j k=>k==0&&decide (j<m)
 |.agg l=>sims m l
 |.tup l=>sims m l
 |_=>false
def sims(m:Nat):List LV→Bool
 |[]=>true
 |v::l=>v.sim m&&sims m l
end
mutual
def subV(sel:List LV):LV→LV
 |.dy j _=>sel.getD j .any
 |.agg l=>.agg (subVs sel l)
 |.tup l=>.tup (subVs sel l)
 |v=>v
def subVs(sel:List LV):List LV→List LV
 |[]=>[]
 |v::l=>subV sel v::subVs sel l
end
def notP(p:Nat):LV→Prop
 |.dy q _=>q≠p
 |_=>True
def X8(A:Pd):List LV→Pd→Prop
 |[],[]=>True
 |.dy p k::s,.dyn l len j g st::B=>g=0∧l.all LV.scal=true∧(∃z,A[p]?=some (.dyn l len j k z))∧st=0∧(∀x∈s,notP p x)∧X8 A s B
 |.nilSl::s,.dyn l len _ g st::B=>g=0∧st=0∧l=[]∧len=0∧X8 A s B
 |_,_=>False
def P4(P:Program)(f:Nat)(A:List LV)(F:LV)(C:Pd):Prop :=
 sj P (.fn f)∧F.sim C.length=true∧(∀(I:Nat) (G:LObj),C[I]?=some G→∃l len D,G=.dyn l len D 0 0∧l.all LV.scal=true)∧∀(B:Nat→Prop) (E:Heap) (g:List AV),(∀o,B o→o<E.next)→ARs ⟨[],B,E⟩ A g →
  ∃m H j z,U6 P (OL P) m (.fn f) g E=.ok H z∧HSim ⟨j,B,z⟩ C∧AR ⟨j,B,z⟩ F H∧E.next≤z.next∧(∀o,o<E.next→z.get o=E.get o)∧∀o,Ru ⟨j,B,z⟩ C o→E.next≤o
def zf5{c g:Cx}:∀{l:List LV} {r:List AV},l.all LV.scal=true→ARs c l r→ARs g l r
 |[],_,_,.nil=>.nil
 |v::l,_,h,.cons e j=>by
  simp only[Mq,J2]at h;refine .cons ?_ (zf5 h.2 j);cases v<;>first|(cases h.1;done)|(cases e;constructor)
def HSim.empty{Fz:Nat→Prop}{H:Heap}(h:∀o,Fz o→o<H.next):HSim ⟨[],Fz,H⟩ [] :=
 ⟨rfl,h,λo ⟨p,_,_,_,e,_⟩=>Cd,λo ⟨p,_,_,_,e,_⟩=>Cd,λp _ _ _ e=>Cd,λp _ _ _ _ _ _ _ _ e=>Cd⟩
def zk3{c:Cx}{gF:Pd}(Q:HSim c gF):∀{g:List LV} {R:Pd},X8 gF g R→∃C:List (Nat×AV),C.length=R.length ∧
  (∀(j:Nat) (E:LObj) (k:Nat) (h:AV),R[j]?=some E→C[j]?=some (k,h)→k=0∧(∀T:Cx,T.H=c.H→ObR T 0 h E)∧(∃l len F,E=.dyn l len F 0 0∧l.all LV.scal=true) ∧
   ((g[j]?=some .nilSl∧h=.nilSl)∨∃p D,g[j]?=some (.dy p D)∧c.hd[p]?=some (D,h)∧(∀o,Qf h=some o→Ru c gF o)∧∃G,gF[p]?=some G∧G.live=true)) ∧
  (∀(i j p k q D:Nat),g[i]?=some (.dy p k)→g[j]?=some (.dy q D)→p=q→i=j)
 |[],[],_=>⟨[],rfl,λj E k h e=>Cd,λi j p k q D e=>Cd⟩
 |[],_::_,h=>h.elim
 |s::g,[],h=>by cases s<;>exact h.elim
 |s::g,E::R,h=>by
  cases s<;>cases E<;>first|exact h.elim|skip
  ·rename_i l len F V st;obtain⟨rfl,rfl,rfl,rfl,h⟩:=h;obtain⟨C,X,Y,Z⟩:=zk3 Q h;refine⟨(0,.nilSl)::C,by simp[X],λj E k h z A=>?_,λi j p k q D z A H=>?_⟩
   ·cases j with
    |zero =>
     simp only[Ks,Option.some.injEq]at z A;cases z;cases A;exact⟨rfl,λT _=>⟨rfl,N,.inl ⟨rfl,rfl⟩⟩,⟨_,_,_,rfl,rfl⟩,.inl ⟨rfl,rfl⟩⟩
    |succ j=>exact Y j E k h Dh Cv
   ·cases i with
    |zero=>simp at z
    |succ i=>cases j with
     |zero=>simp at A
     |succ j=>have:=Z i j p k q D Dh Cv H;omega
  ·rename_i p k l len F V st;obtain⟨rfl,I,⟨gG,U⟩,rfl,gg,h⟩:=h;obtain⟨C,X,Y,Z⟩:=zk3 Q h;have hp:p<c.hd.length:=by rw[Q.len];exact (Jy.1 U).1
   obtain⟨k0,h0,e0⟩:∃k h,c.hd[p]?=some (k,h):=⟨_,_,J7 hp⟩;have K:=Q.obj p _ _ _ U e0;have hk:=K.1;subst hk;have B:∀(j q D:Nat),g[j]?=some (.dy q D)→q≠p:=λj q D e=>gg _ (Kj e)
   refine⟨(0,h0)::C,by simp[X],λj E k h z A=>?_,λi j p' k q D z A H=>?_⟩
   ·cases j with
    |zero =>
     simp only[Ks,Option.some.injEq]at z A;cases z;cases A;refine⟨rfl,λT gD=>?_,⟨_,_,_,rfl,I⟩,.inr ⟨p,_,rfl,e0,λo ho=>⟨p,_,_,_,U,rfl,e0,ho⟩,_,U,rfl⟩⟩;obtain⟨_,r1,L⟩:=K;refine⟨rfl,r1,?_⟩;rcases L with L|⟨o,v,M,t,O,l',L,r3,r4,r5,r6,r7⟩
     ·exact .inl L
     ·exact .inr ⟨o,v,M,t,O,l',L,by rw[gD];exact r3,r4,r5,zf5 I r6,r7⟩
    |succ j=>exact Y j E k h Dh Cv
   ·cases i with
    |zero =>
     simp only[Ks,Option.some.injEq]at z;cases z;cases j with
     |zero=>rfl
     |succ j=>exact absurd H.symm (B j q D Cv)
    |succ i=>cases j with
     |zero =>
      simp only[Ks,Option.some.injEq]at A;cases A;exact absurd H (B i p' k Dh)
     |succ j=>have:=Z i j p' k q D Dh Cv H;omega
mutual
def sub_AR{c c':Cx}{sel:List LV}(gg:∀(gF:Nat) (v:LV) (a:AV),sel[gF]?=some v→AR c v a→AR c' (.dy gF 0) a)(v:LV)(a:AV)(j:v.sim sel.length=true)(h:AR c (subV sel v) a):AR c' v a:=by
 cases v with
 |dy gF k =>
  simp only[LV.sim,J2,Oa,Kb]at j;obtain⟨rfl,gD⟩:=j;refine gg gF _ a (J7 gD) ?_;unfold subV at h
  rwa [J0,J7 gD]at h
 |agg l =>
  simp only[LV.sim]at j;simp only[subV]at h;cases h with
  |agg h=>exact .agg (sub_ARs gg l _ j h)
 |tup l =>
  simp only[LV.sim]at j;simp only[subV]at h;cases h with
  |tup h=>exact .tup (sub_ARs gg l _ j h)
 |_=>first|(simp only[LV.sim]at j;cases j;done)|(simp only[subV]at h;cases h;constructor)
termination_by SizeOf.sizeOf v
def sub_ARs{c c':Cx}{sel:List LV}(gg:∀(gF:Nat) (v:LV) (a:AV),sel[gF]?=some v→AR c v a→AR c' (.dy gF 0) a)(l:List LV)(r:List AV)(j:sims sel.length l=true)(h:ARs c (subVs sel l) r):ARs c' l r:=by
 cases l with
 |nil=>simp only[subVs]at h;cases h;exact .nil
 |cons v l =>
  simp only[sims,J2]at j;simp only[subVs]at h;cases h with
  |cons e es=>exact .cons (sub_AR gg v _ j.1 e) (sub_ARs gg l _ j.2 es)
termination_by SizeOf.sizeOf l
end
def P4.mk{f:Nat}{args:List LV}{v0:LV}(gD:v0.sim I.length=true)(h:Tw P (.fn f) args [] λv G=>∃sel,v=subV sel v0∧sel.length=I.length∧X8 G sel I)(hG:∀(gH:Nat) (ob:LObj),I[gH]?=some ob→∃l len esz,ob=.dyn l len esz 0 0∧l.all LV.scal=true):P4 P f args v0 I:=by
 refine⟨h.1,gD,hG,λFz H gI gK ha=>?_⟩;obtain⟨m,v1,H',q1,c1,v,G,rfl,q3,q4,q5,sel,rfl,hlen,hr⟩:=h.2 ⟨[],Fz,H⟩ (.fn f) gI (.empty gK) rfl ha;obtain⟨gg,r1,r2,r3⟩:=zk3 q3 hr;have gL:∀(gH:Nat) (ob:LObj),I[gH]?=some ob→∃k h,gg[gH]?=some (k,h):=λgH ob e=>⟨_,_,J7 (by rw[r1];exact (Jy.1 e).1)⟩
 have gF:∀o,Ru ⟨gg,Fz,c1.H⟩ I o→Ru c1 G o:=by
  rintro o ⟨gH,ob,k,h,e1,e2,e3,e4⟩;obtain⟨_,_,_,j⟩:=r2 gH ob k h e1 e3;rcases j with ⟨_,j⟩|⟨p,k',_,_,s6,_⟩
  ·rw[j]at e4;cases e4
  ·exact s6 o e4
 have gG:∀o,Ru ⟨gg,Fz,c1.H⟩ I o→H.next≤o:=λo ho=>by
  rcases q4.new o (gF o ho) with ⟨p,_,_,_,e,_⟩|h
  ·simp at e
  ·exact h
 have gM:∀o,¬Ru ⟨[],Fz,H⟩ [] o:=λo ⟨p,_,_,_,e,_⟩=>Cd
 have gO:HSim ⟨gg,Fz,c1.H⟩ I:=by
  refine⟨r1,λo ho=>Kt (gK o ho) q4.nx,λo ho=>q3.lt o (gF o ho),λo ho hf=>?_,λgH ob k h e1 e2=>?_,λi gH ob gR k h k' h' o e1 e2 e3 e4 e5 e6 e7 e8=>?_⟩
  ·have:=gG o ho;have:=gK o hf;omega
  ·obtain⟨s1,s2,_⟩:=r2 gH ob k h e1 e2;rw[s1];exact s2 _ rfl
  ·obtain⟨_,_,_,j⟩:=r2 i ob k h e1 e5;obtain⟨_,_,_,t4⟩:=r2 gH gR k' h' e2 e6;rcases j with ⟨_,j⟩|⟨p,kp,s5,s6,_,o1,g1,g2⟩
   ·rw[j]at e7;cases e7
   ·rcases t4 with ⟨_,t4⟩|⟨q,kq,t5,t6,_,o2,g3,g4⟩
    ·rw[t4]at e8;cases e8
    ·refine r3 i gH p kp q kq s5 t5 ?_;exact q3.excl p q o1 o2 kp h kq h' o g1 g3 g2 g4 s6 t6 e7 e8
 refine⟨m,v1,gg,c1.H,q1,gO,?_,q4.nx,λo ho=>q4.frame o ho (gM o),gG⟩;refine sub_AR (c:=c1) (λgH v a e1 e2=>?_) v0 v1 (by rw[hlen];exact gD) q5;have hj:gH<I.length:=by rw[←hlen];exact (Jy.1 e1).1
 obtain⟨k,h,e3⟩:=gL gH _ (J7 hj);obtain⟨rfl,_,_,j⟩:=r2 gH _ k h (J7 hj) e3;rcases j with ⟨j,s5⟩|⟨p,k',j,s5,_⟩
 ·rw[e1]at j;cases j;cases e2;exact .dy e3 (J8 _) (λ_=>s5.symm) rfl
 ·rw[e1]at j;cases j;cases e2 with
  |dy f1 f2 f3 f4 =>
   rw[s5]at f1;cases f1;exact .dy e3 (J8 _) (λ_=>f3 rfl) f4
end fns
end
section
noncomputable section
def tgtL(ρ:Pf)(G:Pd):LOp→Option (Option Nat)
 |.load1 x |.loadN _ x=>match x.ev ρ with
  |.ptr p _=>some (some p)
  |.dptr p k _=>match G[p]? with
   |some (.dyn _ _ _ g _)=>if k=g then some (some p) else none
   |_=>none
  |.cptr _ _=>some none
  |_=>none
 |.cvStr x=>match x.ev ρ with
  |.nilSl=>some none
  |.lst _ _ _=>some none
  |.dy p k=>match G[p]? with
   |some (.dyn _ _ _ g _)=>if k=g then some (some p) else none
   |_=>none
  |_=>none
 |_=>none
def zpp(G g:Pd)(p:Nat):Prop:=match G[p]?,g[p]? with
 |some a,some b=>a.stp=true∧a.st=b.st
 |_,_=>False
def ckC(ρ:Pf)(G g:Pd)(x:LI×Bool):Prop:=match x.2 with
 |false=>match tgtL ρ G x.1.o with
  |some none=>True
  |some (some p)=>zpp G g p
  |none=>False
 |true=>match x.1.d with
  |none=>False
  |some d=>match lk ρ d with
   |.ptr p _=>zpp G g p
   |.dy p k=>(match G[p]? with
    |some (.dyn _ _ _ j _)=>k=j
    |_=>False)∧zpp G g p
   |_=>False
def ckL(ρ:Pf)(G g:Pd)(x:LI×Bool):Prop:=match x.1.g with
 |none=>ckC ρ G g x
 |some (t,w)=>match lk ρ t with
  |.bool b=>b=w→ckC ρ G g x
  |_=>ckC ρ G g x
def Zc(ρ:Pf)(G g:Pd):List (LI×Bool)→Prop
 |[]=>True
 |x::l=>ckL ρ G g x∧Zc ρ G g l
def m8(P:Program):List (LI×List (LI×Bool))→Pf→Pd→(Pf→Pd→Prop)→Prop
 |[],ρ,G,j=>j ρ G
 |(x,z)::l,ρ,G,j=>gh P x ρ G λA g=>Zc ρ G g z∧m8 P l A g j
section al
variable {P : Program}
def ke{v:AV}{id n:Nat}(h:Qf v=some id):S6 id (S6 n v)=v:=by
 cases v<;>first|(cases h;done)|(cases h;rfl)
def zlk{l:List AV}{v:AV}(h:Zx F l=.val v vU):∃j,vU=F.push j∧Qf v=some F.next∧∀g,Zx g l=.val (S6 g.next v) (g.push j):=by
 unfold Zx newObj at h;cases h;exact⟨_,rfl,rfl,λg=>rfl⟩
def zr0{l:List AV}{a b:Nat}{r:Option Nat}{v:AV}(h:(match newObj F l with
  |some (o,j)=>OR.val (.sl o 0 0 a b r) j
  |none=>.no)=.val v vU):∃z,vU=F.push z∧Qf v=some F.next∧∀g,(match newObj g l with
  |some (o,j)=>OR.val (.sl o 0 0 a b r) j
  |none=>.no)=.val (S6 g.next v) (g.push z):=by
 unfold newObj at h;cases h;exact⟨_,rfl,rfl,λg=>rfl⟩
def al_any{o:Op}(hc:cls P o=.al){v:AV}(h:(Qq P o).run uV F=.val v vU):∃j,vU=F.push j∧Qf v=some F.next∧∀g,(Qq P o).run uV g=.val (S6 g.next v) (g.push j):=by
 cases o with
 |alloc t =>
  simp only[Qq]at h ⊢;split at h
  ·exact zlk h
  ·cases h
 |box t x =>
  simp only[Qq,So]at h ⊢;cases z:(P3 x).run uV with
  |none=>rw[z]at h;cases h
  |some a =>
   rw[z]at h;dsimp only at h ⊢;cases A:a.cells with
   |none=>rw[A]at h;cases h
   |some l=>rw[A]at h;exact zlk h
 |buildSlice t len C =>
  simp only[Qq,z3u]at h ⊢;split at h
  ·split at h
   ·cases h
   ·split at h
    ·cases h
    ·rename_i L K;by_cases hb:len * ‹Nat›≤2^20∧0 < ‹Nat›
     ·rw[J6 hb]at h ⊢;split at h
      ·cases h
      ·dsimp only at h ⊢;split at h
       ·exact zr0 h
       ·cases h
     ·rw[J1 hb]at h;cases h
  ·cases h
 |makeSlice t l c =>
  simp only[Qq,z8o]at h ⊢;split at h
  ·split at h
   ·cases h
   ·split at h
    ·cases h
    ·split at h
     ·rename_i i hi L K hb;simp only[J6 hb];simp only[We]at h ⊢;cases A:(P3 l).run uV with
      |none=>rw[A]at h;cases h
      |some a =>
       rw[A]at h;cases B:(P3 c).run uV with
       |none=>rw[B]at h;cases h
       |some b =>
        rw[B]at h;dsimp only at h ⊢;split at h
        ·rename_i n m;cases E:Nat.ble n m with
         |false=>rw[E]at h;cases h
         |true =>
          rw[E]at h;cases H:Nat.ble m 1048576 with
          |false=>rw[H]at h;cases h
          |true=>rw[H]at h;exact zr0 h
        ·cases h
     ·cases h
  ·cases h
 |makeMap t r =>
  have I:∀{v:AV} {vU:Heap},gc F=.val v vU→∃j,vU=F.push j∧Qf v=some F.next∧∀g,gc g=.val (S6 g.next v) (g.push j):=λh=>by
   unfold gc at h;cases h;exact⟨_,rfl,rfl,λg=>rfl⟩
  simp only[Qq,zgf]at h ⊢;split at h
  ·exact I h
  ·rename_i x;split at h
   ·simp only[So]at h ⊢;cases z:(P3 x).run uV with
    |none=>rw[z]at h;cases h
    |some a =>
     rw[z]at h;dsimp only at h ⊢;split at h
     ·exact I h
     ·cases h
   ·cases h
 |_ =>
  exfalso;simp only[cls]at hc
  first
   |(cases hc;done)
   |(split at hc<;>first|(cases hc;done)|(split at hc<;>cases hc))
   |(simp only[zgc]at hc;split at hc<;>first|(cases hc;done)|(split at hc<;>first|(cases hc;done)|(split at hc<;>cases hc)))
end al
section draw
variable {P : Program} {n : Nat} {ops : Array Oper}
def Xs(P:Program)(ops:Array Oper)(x:DOp)(j:Tr AV)(A:Heap):Prop:=match x.c with
 |.rd=>(Vh ops x.o).run j=true→∃d v,x.o.dst=some d∧Pg (Pz d) j=some v∧(Qq P x.o.op).run j A=.val v A
 |.al=>(Vh ops x.o).run j=true→∃d v id z,x.o.dst=some d∧Pg (Pz d) j=some v∧Qf v=some id∧A.get id=some z∧∀g,(Qq P x.o.op).run j g=.val (S6 g.next v) (g.push z)
 |_=>True
def zar{x:DOp}(h:Xs P ops x uV F)(hc:x.c=.rd∨x.c=.al)(hd:zkc ops x=true):(nm P ops x).run uV F=true:=by
 unfold nm;cases g:x.o.dst with
 |none=>unfold zkc at hd;rw[g]at hd;cases hd
 |some d =>
  dsimp only;cases B:(Vh ops x.o).run uV with
  |false=>rfl
  |true =>
   dsimp only;unfold Xs at h;rcases hc with hc|hc
   ·rw[hc]at h;obtain⟨C,v,j,A,z⟩:=h B;rw[g]at j;cases j;rw[A,z,hc];dsimp only;unfold bm;split
    ·rfl
    ·exact @L3 _ (Classical.propDecidable _) rfl
   ·rw[hc]at h;obtain⟨C,v,id,K,j,A,z,E,H⟩:=h B;rw[g]at j;cases j;rw[A,H F,hc];dsimp only;unfold Z9;rw[z];dsimp only;have I:bm (T5 30 v (S6 id (S6 F.next v))) v (S6 id (S6 F.next v))=true:=by
     unfold bm;split
     ·rfl
     ·exact @L3 _ (Classical.propDecidable _) (ke z).symm
    rw[I,E,Heap.get_push_same];dsimp only;unfold bm;split
    ·rfl
    ·exact @L3 _ (Classical.propDecidable _) rfl
def zf8{t:Nat}:∀{l:List Nat},Yw t l=false→t ∉ l
 |[],_=>N
 |a::l,h=>by
  simp only[Yw]at h;cases hb:Nat.beq t a with
  |true=>rw[hb]at h;cases h
  |false =>
   rw[hb]at h;intro hm;rcases Ka.1 hm with rfl|hm
   ·rw[K5]at hb;cases hb
   ·exact zf8 h hm
def sc{x:DOp}{d:Option Nat}(h:bi ops d x=true)(v:AV)(g:Tr AV):Uu (Xo ops x.o) (Rs d v g) g∧∀e,x.o.dst=some e→Pg (Pz e) (Rs d v g)=Pg (Pz e) g:=by
 cases d with
 |none=>exact⟨λt _ _=>rfl,λe _=>rfl⟩
 |some d =>
  unfold bi at h;dsimp only at h;cases hm:Yw d (Xo ops x.o) with
  |true=>rw[hm]at h;cases h
  |false =>
   rw[hm]at h;dsimp only at h;refine⟨λt j _=>?_,λe he=>?_⟩
   ·show Pg (Pz t) (Rf v (Pz d) g)=_;rw[z5p (λq=>zf8 hm (by rw[←q];exact j))]
   ·rw[he]at h;dsimp only at h;show Pg (Pz e) (Rf v (Pz d) g)=_;rw[z5p (λq=>by rw[q,K5]at h;cases h)]
def Xs.put{x:DOp}{E:Tr AV}{H:Heap}(h:Xs P ops x E H){d:Option Nat}(ho:bi ops d x=true)(v:AV):Xs P ops x (Rs d v E) H:=by
 obtain⟨h1,h2⟩:=sc ho v E;have hg:=z3q (o:=x.o) h1;have hc:∀H2,(Qq P x.o.op).run (Rs d v E) H2=(Qq P x.o.op).run E H2:=λH2=>z8m h1
 unfold Xs at h ⊢;cases hx:x.c with
 |rd =>
  rw[hx]at h;intro g;obtain⟨d',w,k1,k2,k3⟩:=h (by rw[←hg];exact g);exact⟨d',w,k1,by rw[h2 d' k1];exact k2,by rw[hc];exact k3⟩
 |al =>
  rw[hx]at h;intro g;obtain⟨d',w,id,ob,k1,k2,k3,k4,k5⟩:=h (by rw[←hg];exact g);exact⟨d',w,id,ob,k1,by rw[h2 d' k1];exact k2,k3,k4,λH2=>by rw[hc];exact k5 H2⟩
 |quiet=>trivial
 |ch=>trivial
def i5{x:DOp}{r:RI}(g:zap P n ops x.o=some r)(C:Tr AV):(Vh ops x.o).run C=ly r.g C∧Vd P x.o.op=some r.o∧r.d=x.o.dst:=by
 unfold zap at g;split at g
 ·cases g
 ·split at g
  ·cases g
  ·rename_i ro j;split at g
   ·rename_i z;cases g;refine⟨?_,j,rfl⟩;unfold Vh;rw[z];rfl
   ·rename_i E w z;split at g
    ·cases g
    ·rename_i t A;split at g
     ·rename_i B;cases g;refine⟨?_,j,rfl⟩;unfold Vh;rw[z];dsimp only;rw[A];dsimp only;rw[J6 (Ki B)];rfl
     ·cases g
def Xs.keep{x:DOp}{li:LI}(hr:zap P n ops x.o=some li.r)(gD:li.o.ok=true){c:Cx}{G G1:Pd}{ρ:Pf}{E:Tr AV}(hs:HSim c G)(hE:Qo c ρ E)(st:Step c G uQ G1)(gg:ckL ρ G G1 (li,X3 x))
  (h:Xs P ops x E c.H):Xs P ops x E uQ.H:=by
 have gG:∀{p k:Nat} {a:AV} {o:Nat},zpp G G1 p→c.hd[p]?=some (k,a)→Qf a=some o→uQ.H.get o=c.H.get o:=by
  intro p k a o hk e1 e2;unfold zpp at hk;split at hk
  ·rename_i a1 b1 g1 g2;exact (st.st p a1 b1 k a o g1 g2 e1 e2 hk.1 hk.2).2.1
  ·exact hk.elim
 obtain⟨g1,g2,g3⟩:=i5 hr E;have gH:(Vh ops x.o).run E=true→ckC ρ G G1 (li,X3 x):=by
  intro g;rw[g1]at g;unfold ckL at gg;dsimp only at gg;split at gg
  ·exact gg
  ·rename_i t w hg;split at gg
   ·rename_i b hb;refine gg ?_;have ht:=hE t;rw[hb]at ht;rw[show li.r.g=li.g from rfl,hg]at g;unfold ly at g;dsimp only at g;cases hq:Pg (Pz t) E with
    |none=>rw[hq]at g;cases g
    |some a =>
     rw[hq]at g ht;cases ht;cases b<;>cases w<;>first|rfl|cases g
   ·exact gg
 unfold Xs at h ⊢;cases hx:x.c with
 |quiet=>trivial
 |ch=>trivial
 |rd =>
  rw[hx]at h;intro g;have hc:=gH g;obtain⟨d,v,k1,k2,k3⟩:=h g;refine⟨d,v,k1,k2,?_⟩;rw[zti (zst E) g2]at k3 ⊢;have gM:X3 x=false:=by unfold X3;rw[hx]
  unfold ckC at hc;rw[gM]at hc;dsimp only at hc;have gL:∀{y:Lx},y.ok=true→∀m,(match y.ev ρ with
    |.ptr p _=>some (some p)
    |.dptr p k _=>(match G[p]? with
     |some (.dyn _ _ _ gF _)=>if k=gF then some (some p) else none
     |_=>none)
    |.cptr _ _=>some none
    |_=>(none:Option (Option Nat)))=some m→(∀p,m=some p→zpp G G1 p)→∃o v i,y.r.ev (ρA E)=.ptr o v i∧uQ.H.get o=c.H.get o:=by
   intro y hy m hm hk;have hv:=Rd hE hy;generalize y.ev ρ=w at hm hv;generalize y.r.ev (ρA E)=b at hv ⊢;split at hm
   ·rename_i p i;cases hm;cases hv with
    |ptr e=>exact⟨_,_,_,rfl,gG (hk p rfl) e rfl⟩
   ·rename_i p k i;split at hm
    ·rename_i l len gI gF stp hg;by_cases gK:k=gF
     ·rw[J6 gK]at hm;cases hm;cases hv with
      | @dptr _ _ _ k' o v jA hh e gR ha =>
       have:=(hs.obj p _ _ _ hg e).1;obtain⟨_,gZ,jg,room,rfl⟩:=ha J;exact⟨o,v,jA,rfl,gG (hk p rfl) e rfl⟩
     ·rw[J1 gK]at hm;cases hm
    ·cases hm
   ·cases hm;cases hv with
    |cptr hf hr hl=>exact⟨_,_,_,rfl,(st.le.fz _ hf).2⟩
   ·cases hm
  have fin:∀m,tgtL ρ G li.o=some m→(∀p,m=some p→zpp G G1 p)→Rg P (ρA E) uQ.H li.r.o=.val v uQ.H:=by
   intro m hm hk;have j:Rg P (ρA E) c.H li.o.r=.val v c.H:=k3;show Rg P (ρA E) uQ.H li.o.r=_;unfold tgtL at hm;split at hm
   ·rename_i y ho;rw[ho]at j gD ⊢;obtain⟨o,w,i,q1,q2⟩:=gL gD m hm hk;simp only[LOp.r,Rg]at j ⊢;rw[q1]at j ⊢;dsimp only at j ⊢;rw[z3r q2];split at j
    ·cases j;rfl
    ·cases j
   ·rename_i nn y ho;rw[ho]at j gD ⊢;obtain⟨o,w,i,q1,q2⟩:=gL gD m hm hk;simp only[LOp.r,Rg]at j ⊢;rw[q1]at j ⊢;dsimp only at j ⊢;rw[z3r q2];split at j
    ·cases j;rfl
    ·cases j
   ·rename_i y ho;rw[ho]at j gD ⊢;have hv:=Rd hE gD;simp only[LOp.r,Rg]at j ⊢;generalize y.ev ρ=w at hm hv;generalize y.r.ev (ρA E)=b at hv j ⊢;have done:(∀o v i len gI room,b=.sl o v i len gI room→uQ.H.get o=c.H.get o)→(match b with
      |.nilSl=>OR.val (.str 0 0) uQ.H
      |.sl o v i len 1 _=>match Tn uQ.H o v i len with
       |some l=>match Y6.bytesA l with
        |some n=>.val (.str len n) uQ.H
        |none=>.no
       |none=>.no
      |_=>.no)=.val v uQ.H:=by
     intro hh;split at j
     ·cases j;rfl
     ·rename_i o v2 i len room;have e:=hh o v2 i len 1 room rfl;show (match Tn uQ.H o v2 i len with
       |some l=>match Y6.bytesA l with
        |some n=>OR.val (.str len n) uQ.H
        |none=>.no
       |none=>.no)=.val v uQ.H
      rw[z3r e];split at j
      ·rename_i gU;split at j
       ·rename_i hb;cases j;rw[gU];dsimp only;rw[hb]
       ·cases j
      ·cases j
     ·cases j
    split at hm
    ·cases hv;exact done (λ_ _ _ _ _ _ e=>Ar)
    ·cases hm;cases hv with
     |lst hf jz hlen hr hl=>exact done (λ_ _ _ _ _ _ e=>by cases e;exact (st.le.fz _ hf).2)
     |lstNil=>exact done (λ_ _ _ _ _ _ e=>Ar)
     |lstEmp=>exact done (λ_ _ _ _ _ _ e=>Ar)
    ·rename_i p k;split at hm
     ·rename_i l len gI gF stp hg;by_cases gK:k=gF
      ·rw[J6 gK]at hm;cases hm;cases hv with
       | @dy _ _ k' hh _ e gR ha gV =>
        have:=(hs.obj p _ _ _ hg e).1;have gO:=ha J;exact done (λo v i len gI room eb=>gG (hk p rfl) e (by rw[←gO,eb];rfl))
      ·rw[J1 gK]at hm;cases hm
     ·cases hm
    ·cases hm
   ·cases hm
  split at hc
  ·rename_i hm;exact fin none hm (λp e=>Ar)
  ·rename_i p hm;exact fin (some p) hm (λp' e=>by cases e;exact hc)
  ·exact hc.elim
 |al =>
  rw[hx]at h;intro g;have hc:=gH g;obtain⟨d,v,id,ob,k1,k2,k3,k4,k5⟩:=h g;refine⟨d,v,id,ob,k1,k2,k3,?_,k5⟩;have gM:X3 x=true:=by unfold X3;rw[hx]
  unfold ckC at hc;rw[gM]at hc;dsimp only at hc;have hd:li.d=some d:=by rw[←k1];exact g3
  rw[hd]at hc;dsimp only at hc;have hv:=hE d;rw[k2]at hv;split at hc
  ·rename_i p i hl;rw[hl]at hv;cases hv with
   |ptr e=>cases k3;rw[gG hc e rfl];exact k4
  ·rename_i p k hl;rw[hl]at hv;obtain⟨gT,gY⟩:=hc;split at gT
   ·rename_i l len gI gF stp hg;cases hv with
    | @dy _ _ k' hh _ e gR ha gV =>
     have:=(hs.obj p _ _ _ hg e).1;have gO:v=hh:=ha J;rw[gG gY e (by rw[←gO];exact k3)];exact k4
   ·exact gT.elim
  ·exact hc.elim
def cks_mem:∀{g:List DOp} {B:List (LI×Bool)},zlr P n ops g=some (rck B)→∀{ρ:Pf} {G C:Pd},Zc ρ G C B→∀x∈g,∃z,zap P n ops x.o=some z.r∧(z,X3 x)∈B∧ckL ρ G C (z,X3 x)
 |[],_,_,_,_,_,_,x,j=>by simp at j
 |y::g,[],h,_,_,_,_,x,j=>by
  simp only[zlr]at h;split at h
  ·cases h
  ·split at h<;>cases h
 |y::g,(z,b)::B,h,ρ,G,C,k,x,j=>by
  simp only[zlr]at h;split at h
  ·cases h
  ·rename_i r F;split at h
   ·cases h
   ·rename_i M A;simp only[rck,Option.some.injEq,List.cons.injEq,Prod.mk.injEq]at h;obtain⟨⟨rfl,rfl⟩,H⟩:=h;rw[H]at A;rcases Ka.1 j with rfl|j
    ·exact⟨z,F,N,k.1⟩
    ·obtain⟨E,I,K,L⟩:=cks_mem A k.2 x j;exact⟨E,I,Bi,L⟩
def zdx{g:Type}{f:g→Bool}:∀{l:List g} {x:g},x∈Qi f l→x∈l
 |[],_,h=>h
 |a::l,x,h=>by
  simp only[Qi]at h;split at h
  ·rcases Ka.1 h with rfl|h
   ·simp
   ·exact Kf _ (zdx h)
  ·exact Kf _ (zdx h)
def zhh{j:Type}{f:j→Bool}:∀{l:List j},Yz f l=true→∀x∈l,f x=true
 |[],_,x,g=>by simp at g
 |a::l,h,x,g=>by
  simp only[Yz]at h;split at h
  ·rename_i ha;rcases Ka.1 g with rfl|g
   ·exact ha
   ·exact zhh h x g
  ·cases h
def zdp{j:Tr AV}{z:Heap}:∀{l:List DOp},(∀x∈l,(nm P ops x).run j z=true)→(z7l P ops l).run j z=true
 |[],_=>rfl
 |x::l,h=>by
  simp only[z7l];rw[h x N];exact zdp (λy g=>h y As)
structure Pend (P:Program) (n:Nat) (ops:Array Oper) (x:DOp):Prop where
 cls:x.c=.rd∨x.c=.al
 own:zkc ops x=true
def drawGo_ok:∀{l z:List DOp} {g:List (LI×List (LI×Bool))} {c:Cx} {G:Pd} {ρ:Pf} {gH:Tr AV} {gU:Pf→Pd→Prop},zp6 P n ops l z=some (rdr g)→(g.all λx=>x.1.o.ok&&x.2.all (·.1.o.ok))=true →
  HSim c G→Qo c ρ gH→(∀x∈z,Pend P n ops x∧Xs P ops x gH c.H)→m8 P g ρ G gU →
  ∃m Y R U O,(X1 P n ops l z).run (U6 P (OL P) m) gH c.H=.ok Y R.H∧HSim R O∧Step c G R O∧Qo R U Y∧gU U O
 |[],z,g,c,G,ρ,gH,gU,h,_,hs,hE,_,k=>by
  cases g with
  |nil=>exact⟨0,gH,c,ρ,G,rfl,hs,.refl c G,hE,k⟩
  |cons _ _=>cases h
 |x::l,z,g,c,G,ρ,gH,gU,h,I,hs,hE,hp,k=>by
  simp only[zp6]at h;split at h
  ·cases h
  ·rename_i gO;rw[J2]at gO;obtain⟨gI,C⟩:=gO;split at h
   ·cases h
   ·rename_i r hr;have gG:∀{li:LI} {cs:List (LI×Bool)} {H:List (LI×List (LI×Bool))},r=li.r→g=(li,cs)::H →
      ∃m M K ρ1 Z v,(Ts P n ops x.o).run (U6 P (OL P) m) gH c.H=.ok M K.H∧M=Rs x.o.dst v gH∧HSim K Z∧Step c G K Z∧Qo K ρ1 M∧Zc ρ G Z cs∧m8 P H ρ1 Z gU:=by
     intro li cs H e1 e2;subst e2;simp only[Mq,J2]at I;obtain⟨m,M,K,ρ1,Z,q1,q2,q3,q4,q5,q6⟩:=rn hs hE I.1.1 (show gh P li ρ G (λU O=>Zc ρ G O cs∧m8 P H U O gU) from k);rw[←e1,←zgt hr]at q1;obtain⟨v,w1,_⟩:=z6a q1;exact⟨m,M,K,ρ1,Z,v,q1,w1,q2,q3,q4,q5,q6⟩
    have gK:∀{v:AV},∀y∈z,Xs P ops y gH c.H→Xs P ops y (Rs x.o.dst v gH) c.H:=λy B hv=>hv.put (zhh gI y B) _
    have go:∀{pend':List DOp} {H:List (LI×List (LI×Bool))} {m:Nat} {M:Tr AV} {K:Cx} {ρ1:Pf} {Z:Pd},zp6 P n ops l pend'=some (rdr H)→(H.all λx=>x.1.o.ok&&x.2.all (·.1.o.ok))=true→HSim K Z→Step c G K Z→Qo K ρ1 M →
      (∀y∈pend',Pend P n ops y∧Xs P ops y M K.H)→m8 P H ρ1 Z gU→(Ts P n ops x.o).run (U6 P (OL P) m) gH c.H=.ok M K.H →
      ∃m' Y R U O,(Ts P n ops x.o).run (U6 P (OL P) m') gH c.H=.ok M K.H∧(X1 P n ops l pend').run (U6 P (OL P) m') M K.H=.ok Y R.H∧HSim R O∧Step c G R O∧Qo R U Y∧gU U O:=by
     intro pend' H m M K ρ1 Z a1 a2 a3 a4 a5 a6 a7 a8;obtain⟨m2,Y,R,U,O,b1,b2,b3,b4,b5⟩:=drawGo_ok a1 a2 a3 a5 a6 a7;exact⟨max m m2,Y,R,U,O,z44 (yz (Mi m m2)) a8,z5w (yz (Mv m m2)) b1,b2,.trans hs a3 a4 b3,b4,b5⟩
    cases X:x.c with
    |quiet =>
     rw[X]at h;dsimp only at h;split at h
     ·cases h
     ·rename_i rs gg;cases g with
      |nil=>cases h
      |cons it H =>
       obtain⟨li,cs⟩:=it;simp only[rdr,Option.some.injEq,List.cons.injEq,Prod.mk.injEq]at h;obtain⟨⟨h1,h2⟩,h3⟩:=h;obtain⟨m,M,K,ρ1,Z,v,q1,q2,q3,q4,q5,q6,q7⟩:=gG h1 rfl;simp only[Mq,J2]at I;have hH:K.H=c.H:=by
        have hc:cls P x.o.op=.quiet:=by
         rw[X]at C;cases E:cls P x.o.op<;>rw[E]at C<;>first|rfl|cases C
        exact z67 (zcv.1 hc).reads q1
       obtain⟨m',Y,R,U,O,b1,b2,b3,b4,b5,b6⟩:=go (pend':=z) Ft I.2 q3 q4 q5 (λy B=>⟨(hp y B).1,by rw[hH,q2];exact gK y B (hp y B).2⟩) q7 q1;refine⟨m',Y,R,U,O,?_,b3,b4,b5,b6⟩;simp only[X1];rw[X];dsimp only;rw[b1];exact b2
    |rd =>
     rw[X]at h;dsimp only at h;split at h
     ·cases h
     ·rename_i j;split at h
      ·cases h
      ·rename_i rs gg;cases g with
       |nil=>cases h
       |cons it H =>
        obtain⟨li,cs⟩:=it;simp only[rdr,Option.some.injEq,List.cons.injEq,Prod.mk.injEq]at h;obtain⟨⟨h1,h2⟩,h3⟩:=h;obtain⟨m,M,K,ρ1,Z,v,q1,q2,q3,q4,q5,q6,q7⟩:=gG h1 rfl;simp only[Mq,J2]at I;have hc:cls P x.o.op=.rd:=by
         rw[X]at C;cases E:cls P x.o.op<;>rw[E]at C<;>first|rfl|cases C
        have hH:K.H=c.H:=z67 (zcv.2 hc) q1;have T:Xs P ops x M K.H:=by
         unfold Xs;rw[X];intro gY;unfold zkc at j;cases A:x.o.dst with
         |none=>rw[A]at j;cases j
         |some d =>
          rw[A]at j;have hm:Yw d (Xo ops x.o)=false:=By
          have L:Uu (Xo ops x.o) M gH:=λt ht _=>by
           rw[q2,A];show Pg (Pz t) (Rf v (Pz d) gH)=_;rw[z5p (λq=>zf8 hm (by rw[←q];exact ht))]
          rw[z3q L]at gY;refine⟨d,v,rfl,by rw[q2,A];exact z64 _ _ _,?_⟩;rw[z8m L,hH];have E:=q1;unfold Ts at E;cases gD:Tq n x.o.dst with
          |none=>rw[gD]at E;cases E
          |some pf =>
           rw[gD]at E;dsimp only at E;rw[gY]at E;dsimp only at E;have gM:=(zcv.2 hc) gH c.H;cases V:(Qq P x.o.op).run gH c.H with
           |no=>rw[V]at E;cases E
           |call t a=>rw[V]at gM;cases gM
           |val w H2 =>
            rw[V]at E gM;cases gM;injection E with e1 e2
            have:=congrArg (λgH=>Pg (Pz d) gH) e1;rw[q2,(zc0 gD).1,A,z64,z64]at this;cases this;rfl
        obtain⟨m',Y,R,U,O,b1,b2,b3,b4,b5,b6⟩:=go (pend':=x::z) Ft I.2 q3 q4 q5 (λy B=>by
         rcases Ka.1 B with rfl|B
         ·exact⟨⟨.inl X,j⟩,T⟩
         ·exact⟨(hp y B).1,by rw[hH,q2];exact gK y B (hp y B).2⟩) q7 q1
        refine⟨m',Y,R,U,O,?_,b3,b4,b5,b6⟩;simp only[X1];rw[X];dsimp only;rw[b1];exact b2
    |al =>
     rw[X]at h;dsimp only at h;split at h
     ·cases h
     ·rename_i j;split at h
      ·cases h
      ·rename_i gV gL;split at h
       ·cases h
       ·rename_i rs gg;cases g with
        |nil=>cases h
        |cons it H =>
         obtain⟨li,cs⟩:=it;simp only[rdr,Option.some.injEq,List.cons.injEq,Prod.mk.injEq]at h;obtain⟨⟨h1,h2⟩,h3⟩:=h;obtain⟨m,M,K,ρ1,Z,v,q1,q2,q3,q4,q5,q6,q7⟩:=gG h1 rfl;simp only[Mq,J2]at I;have hc:cls P x.o.op=.al:=by
          rw[X]at C;cases E:cls P x.o.op<;>rw[E]at C<;>first|rfl|cases C
         rw[h2]at gL;have F:∀y∈z,Pend P n ops y∧Xs P ops y M K.H:=λy B=>by
          obtain⟨gR,w1,w2,w3⟩:=cks_mem gL q6 y B;have gF:gR.o.ok=true:=Li.1 I.1.2 _ w2;refine⟨(hp y B).1,?_⟩;rw[q2];exact ((hp y B).2.keep w1 gF hs hE q4 w3).put (zhh gI y B) _
         have T:Xs P ops x M K.H:=by
          unfold Xs;rw[X];intro gY;unfold zkc at j;cases A:x.o.dst with
          |none=>rw[A]at j;cases j
          |some d =>
           rw[A]at j;have hm:Yw d (Xo ops x.o)=false:=By
           have L:Uu (Xo ops x.o) M gH:=λt ht _=>by
            rw[q2,A];show Pg (Pz t) (Rf v (Pz d) gH)=_;rw[z5p (λq=>zf8 hm (by rw[←q];exact ht))]
           rw[z3q L]at gY;have E:=q1;unfold Ts at E;cases gD:Tq n x.o.dst with
           |none=>rw[gD]at E;cases E
           |some pf =>
            rw[gD]at E;dsimp only at E;rw[gY]at E;dsimp only at E;cases V:(Qq P x.o.op).run gH c.H with
            |no=>rw[V]at E;cases E
            |call t a =>
             exfalso;have:=ztl (o:=x.o) hc gH c.H;rw[V]at this;exact this
            |val w H2 =>
             rw[V]at E;injection E with e1 e2
             have:=congrArg (λgH=>Pg (Pz d) gH) e1;rw[q2,(zc0 gD).1,A,z64,z64]at this;cases this;obtain⟨ob,u1,u2,u3⟩:=al_any hc V;refine⟨d,_,c.H.next,ob,rfl,by rw[q2,A];exact z64 _ _ _,u2,?_,λH3=>by rw[z8m L];exact u3 H3⟩;rw[←e2,u1];exact Heap.get_push_same _ _
         obtain⟨m',Y,R,U,O,b1,b2,b3,b4,b5,b6⟩:=go (pend':=x::z) Ft I.2 q3 q4 q5 (λy B=>by
          rcases Ka.1 B with rfl|B
          ·exact⟨⟨.inr X,j⟩,T⟩
          ·exact F y B) q7 q1
         refine⟨m',Y,R,U,O,?_,b3,b4,b5,b6⟩;simp only[X1];rw[X];dsimp only;rw[b1];dsimp only;rw[zdp (λy B=>by
          rcases Ka.1 B with rfl|B
          ·exact zar T (.inr X) j
          ·exact zar (F y B).2 (F y B).1.cls (F y B).1.own)]
         exact b2
    |ch =>
     rw[X]at h;dsimp only at h;split at h
     ·cases h
     ·rename_i gV gL;split at h
      ·cases h
      ·rename_i rs gg;cases g with
       |nil=>cases h
       |cons it H =>
        obtain⟨li,cs⟩:=it;simp only[rdr,Option.some.injEq,List.cons.injEq,Prod.mk.injEq]at h;obtain⟨⟨h1,h2⟩,h3⟩:=h;obtain⟨m,M,K,ρ1,Z,v,q1,q2,q3,q4,q5,q6,q7⟩:=gG h1 rfl;simp only[Mq,J2]at I;rw[h2]at gL;have F:∀y∈Qi (λy=>!(Nat.testBit x.m y.i)) z,Pend P n ops y∧Xs P ops y M K.H:=λy B=>by
         have gT:=zdx B;obtain⟨gR,w1,w2,w3⟩:=cks_mem gL q6 y B;have gF:gR.o.ok=true:=Li.1 I.1.2 _ w2;refine⟨(hp y gT).1,?_⟩;rw[q2];exact ((hp y gT).2.keep w1 gF hs hE q4 w3).put (zhh gI y gT) _
        obtain⟨m',Y,R,U,O,b1,b2,b3,b4,b5,b6⟩:=go (pend':=Qi (λy=>!(Nat.testBit x.m y.i)) z) Ft I.2 q3 q4 q5 F q7 q1;refine⟨m',Y,R,U,O,?_,b3,b4,b5,b6⟩;simp only[X1];rw[X];dsimp only;rw[b1];dsimp only;rw[zdp (λy B=>zar (F y B).2 (F y B).1.cls (F y B).1.own)];exact b2
end draw
section rule
variable {P : Program} {f n : Nat} {ro : Option Nat} {ρ : Pf} {D : List Nat} {G : Pd} {Q : R8}
def W_draw{l:List (LI×List (LI×Bool))}(h:m8 P l ρ G λj z=>Q .normal j D z):W P f n (.draw l) ro ρ D G Q:=by
 intro A c Z C E F H I K L Y;obtain⟨id,ops,rfl,g⟩:=sb F;unfold zt6 at g;dsimp only at g;split at g
 ·rename_i hd;obtain⟨m,M,O,j,z,R,T,B,U,V⟩:=drawGo_ok g H I K (λx X=>by simp at X) h;refine⟨m,.normal,M,C,O,j,D,z,?_,T,B,U,L.mono B.le,V⟩;simp only[Sk,zab];rw[hd];dsimp only;rw[R]
 ·cases g
end rule
end
end
section
mutual
def LV.dat:LV→Bool
 |.any=>true
 |.bool _ |.u _ |.b _ |.i _ |.int _ _ |.str _ |.nilPtr |.nilSl |.nilMap |.nilFn |.nilIf=>true
 |.cptr l _=>dats l
 |.lst l _ _=>dats l
 |.fn (.func _) l r=>dats l&&dats r
 |.iface _ v=>v.dat
 |.agg l=>dats l
 |.tup l=>dats l
 |_=>false
def dats:List LV→Bool
 |[]=>true
 |v::l=>v.dat&&dats l
end
mutual
def AR.dat{c c':Cx}(gg:∀o,c.Fz o→c'.Fz o∧c'.H.get o=c.H.get o)(v:LV)(a:AV)(hd:v.dat=true)(h:AR c v a):AR c' v a:=by
 cases v with
 |cptr l i =>
  simp only[LV.dat]at hd;cases h with
  |cptr hf hr hl=>exact .cptr (gg _ hf).1 (by rw[z3r (gg _ hf).2];exact hr) (ARs.dat gg l _ hd hl)
 |lst l len gF =>
  simp only[LV.dat]at hd;cases h with
  |lst hf gD hlen hr hl=>exact .lst (gg _ hf).1 gD hlen (by rw[z3r (gg _ hf).2];exact hr) (ARs.dat gg l _ hd hl)
  |lstNil=>exact .lstNil
  |lstEmp=>exact .lstEmp
 |fn f l r =>
  cases f with
  |func f =>
   simp only[LV.dat,J2]at hd;cases h with
   |fn hl hr=>exact .fn (ARs.dat gg l _ hd.1 hl) (ARs.dat gg r _ hd.2 hr)
  |_=>simp[LV.dat]at hd
 |iface t w =>
  simp only[LV.dat]at hd;cases h with
  |iface h=>exact .iface (AR.dat gg w _ hd h)
 |agg l =>
  simp only[LV.dat]at hd;cases h with
  |agg h=>exact .agg (ARs.dat gg l _ hd h)
 |tup l =>
  simp only[LV.dat]at hd;cases h with
  |tup h=>exact .tup (ARs.dat gg l _ hd h)
 |any=>exact .any a
 |_=>first|(simp only[LV.dat]at hd;cases hd;done)|(cases h;constructor)
termination_by SizeOf.sizeOf v
def ARs.dat{c c':Cx}(gg:∀o,c.Fz o→c'.Fz o∧c'.H.get o=c.H.get o)(l:List LV)(r:List AV)(hd:dats l=true)(h:ARs c l r):ARs c' l r:=by
 cases l with
 |nil=>cases h;exact .nil
 |cons v l =>
  simp only[dats,J2]at hd;cases h with
  |cons e es=>exact .cons (AR.dat gg v _ hd.1 e) (ARs.dat gg l _ hd.2 es)
termination_by SizeOf.sizeOf l
end
def dats_app:∀{l r:List LV},dats l=true→dats r=true→dats (l++r)=true
 |[],_,_,h=>h
 |v::l,r,h,k=>by
  simp only[dats,J2]at h;simp only[K6,dats,J2];exact⟨h.1,dats_app h.2 k⟩
def dats_take:∀{l:List LV} (n:Nat),dats l=true→dats (l.take n)=true
 |_,0,_=>by simp[dats]
 |[],n+1,_=>by simp[dats]
 |v::l,n+1,h=>by
  simp only[dats,J2]at h;simp only[List.take_succ_cons,dats,J2];exact⟨h.1,dats_take n h.2⟩
def dats_drop:∀{l:List LV} (n:Nat),dats l=true→dats (l.drop n)=true
 |_,0,h=>h
 |[],n+1,_=>by simp[dats]
 |v::l,n+1,h=>by
  simp only[dats,J2]at h;simp only[List.drop_succ_cons];exact dats_drop n h.2
def yp{g:Type}{f:g→LV}(h:∀a,(f a).dat=true):∀l:List g,dats (l.map f)=true
 |[]=>rfl
 |a::l=>by simp only[Mt,dats,J2];exact⟨h a,yp h l⟩
mutual
def bor(G:Pd):LV→LV→Prop
 |.dy p k,d=>∃l len gg st,d=.lst l len gg∧G[p]?=some (.dyn l len gg k st)∧dats l=true
 |.vw p k lo len,d=>∃l gD gg st,d=.lst ((l.drop (lo*gg)).take (len*gg)) len gg∧G[p]?=some (.dyn l gD gg k st)∧lo*gg+len*gg≤l.length∧dats l=true
 |.nilSl,d=>d=.nilSl∨∃gg,d=.lst [] 0 gg
 |.agg l,d=>∃r,d=.agg r∧bors G l r
 |v,d=>d=v∧v.dat=true
def bors(G:Pd):List LV→List LV→Prop
 |[],r=>r=[]
 |v::l,r=>∃d r',r=d::r'∧bor G v d∧bors G l r'
end
section calls
variable {P : Program} {c : Cx} {G : Pd}
def bor_dat{v d:LV}{a:AV}(hb:d=v∧v.dat=true)(h:AR c v a):AR ⟨[],λo=>c.Fz o∨Ru c G o,c.H⟩ d a:=by
 obtain⟨rfl,hd⟩:=hb;exact AR.dat (c':=⟨[],λo=>c.Fz o∨Ru c G o,c.H⟩) (λo ho=>⟨Or.inl ho,rfl⟩) d a hd h
mutual
def bor_ok(hs:HSim c G)(v d:LV)(a:AV)(hb:bor G v d)(h:AR c v a):AR ⟨[],λo=>c.Fz o∨Ru c G o,c.H⟩ d a:=by
 cases v with
 |dy p k =>
  simp only[bor]at hb;obtain⟨l,len,gg,st,rfl,hg,hd⟩:=hb;cases h with
  | @dy _ _ k' hh _ e hk ha _ =>
   have gH:=hs.obj p _ _ _ hg e;obtain⟨r0,r1,r2⟩:=gH;have gF:=ha J;rcases r2 with ⟨r2,r3⟩|⟨o,v,room,t,gG,l',r2,r3,r4,r5,r6,r7,r8⟩
   ·subst r3;have:l=[]:=Kn Ec;subst this;rw[gF,r2];exact .lstNil
   ·have gR:l'.length=len*gg:=Du
    have hr:=Zj (i:=0) (n:=len*gg) r3 r5 r4 J;rw[Mu,Kk J]at hr;rw[gF,r2];exact .lst (.inr ⟨p,_,_,_,hg,rfl,e,by rw[r2];rfl⟩) (λr e=>(r7 r e).2) r1 hr (ARs.dat (c':=⟨[],λo=>c.Fz o∨Ru c G o,c.H⟩) (λo ho=>⟨Or.inl ho,rfl⟩) l l' hd r6)
 |vw p k lo len =>
  simp only[bor]at hb;obtain⟨l,gM,gg,st,rfl,hg,hle,hd⟩:=hb;cases h with
  | @vw _ _ _ _ k' hh _ e hk ha _ _ =>
   have gT:=(hs.obj p _ _ _ hg e).1;rcases ha J with ⟨r3,r4⟩|⟨o,v,gO,gD,room,gI,r3,r4,r9⟩
   ·subst r3;simp only[M0,Ow];rcases r4 with rfl|⟨rfl,_⟩
    ·exact .lstNil
    ·exact .lstEmp
   ·have e2:=e;rw[r3]at e2;obtain⟨_,q1,q2,q3,t,gG,l',q4,q5,q6,q7,_⟩:=oy hs hg e2;subst q2 q3;have hr:=Zj (i:=lo*gD) (n:=len*gD) q4 q6 q5 J;rw[r4];refine .lst (.inr ⟨p,_,_,_,hg,rfl,e,by rw[r3];rfl⟩) r9 Ab hr ?_;exact ((ARs.dat (c':=⟨[],λo=>c.Fz o∨Ru c G o,c.H⟩) (λo ho=>⟨Or.inl ho,rfl⟩) l l' hd q7).drop _).take _
 |nilSl =>
  simp only[bor]at hb;cases h;rcases hb with rfl|⟨gg,rfl⟩
  ·exact .nilSl
  ·exact .lstNil
 |agg l =>
  simp only[bor]at hb;obtain⟨r,rfl,hb⟩:=hb;cases h with
  |agg h=>exact .agg (bors_ok hs l r _ hb h)
 |_=>exact bor_dat (by simpa only[bor] using hb) h
termination_by SizeOf.sizeOf v
def bors_ok(hs:HSim c G)(l r:List LV)(as:List AV)(hb:bors G l r)(h:ARs c l as):ARs ⟨[],λo=>c.Fz o∨Ru c G o,c.H⟩ r as:=by
 cases l with
 |nil=>simp only[bors]at hb;subst hb;cases h;exact .nil
 |cons v l =>
  simp only[bors]at hb;obtain⟨d,r',rfl,gK,gL⟩:=hb;cases h with
  |cons e es=>exact .cons (bor_ok hs v d _ gK e) (bors_ok hs l r' _ gL es)
termination_by SizeOf.sizeOf l
end
mutual
def shV(n:Nat):LV→LV
 |.dy j k=>.dy (n+j) k
 |.agg l=>.agg (shVs n l)
 |.tup l=>.tup (shVs n l)
 |v=>v
def shVs(n:Nat):List LV→List LV
 |[]=>[]
 |v::l=>shV n v::shVs n l
end
mutual
def frV(j:Pd):LV→LV
 |.dy gD _=>match j[gD]? with
  |some (.dyn l len gg _ _)=>.lst l len gg
  |_=>.any
 |.agg l=>.agg (frVs j l)
 |.tup l=>.tup (frVs j l)
 |v=>v
def frVs(j:Pd):List LV→List LV
 |[]=>[]
 |v::l=>frV j v::frVs j l
end
mutual
def sh_AR{c0 c':Cx}{n m:Nat}(h:∀gg a,gg<m→AR c0 (.dy gg 0) a→AR c' (.dy (n+gg) 0) a)(v:LV)(a:AV)(j:v.sim m=true)(ha:AR c0 v a):AR c' (shV n v) a:=by
 cases v with
 |dy gg k =>
  simp only[LV.sim,J2,Oa,Kb]at j;obtain⟨rfl,hj⟩:=j;exact h gg a hj ha
 |agg l =>
  simp only[LV.sim]at j;cases ha with
  |agg ha=>simp only[shV];exact .agg (sh_ARs h l _ j ha)
 |tup l =>
  simp only[LV.sim]at j;cases ha with
  |tup ha=>simp only[shV];exact .tup (sh_ARs h l _ j ha)
 |_=>first|(simp only[LV.sim]at j;cases j;done)|(simp only[shV];cases ha;constructor)
termination_by SizeOf.sizeOf v
def sh_ARs{c0 c':Cx}{n m:Nat}(h:∀gg a,gg<m→AR c0 (.dy gg 0) a→AR c' (.dy (n+gg) 0) a)(l:List LV)(r:List AV)(j:sims m l=true)(ha:ARs c0 l r):ARs c' (shVs n l) r:=by
 cases l with
 |nil=>cases ha;simp only[shVs];exact .nil
 |cons v l =>
  simp only[sims,J2]at j;cases ha with
  |cons e es=>simp only[shVs];exact .cons (sh_AR h v _ j.1 e) (sh_ARs h l _ j.2 es)
termination_by SizeOf.sizeOf l
end
mutual
def fr_AR{c0 c':Cx}{G0:Pd}(h:∀gg a,gg<G0.length→AR c0 (.dy gg 0) a→AR c' (frV G0 (.dy gg 0)) a)(v:LV)(a:AV)(j:v.sim G0.length=true)(ha:AR c0 v a):AR c' (frV G0 v) a:=by
 cases v with
 |dy gg k =>
  simp only[LV.sim,J2,Oa,Kb]at j;obtain⟨rfl,hj⟩:=j;exact h gg a hj ha
 |agg l =>
  simp only[LV.sim]at j;cases ha with
  |agg ha=>simp only[frV];exact .agg (fr_ARs h l _ j ha)
 |tup l =>
  simp only[LV.sim]at j;cases ha with
  |tup ha=>simp only[frV];exact .tup (fr_ARs h l _ j ha)
 |_=>first|(simp only[LV.sim]at j;cases j;done)|(simp only[frV];cases ha;constructor)
termination_by SizeOf.sizeOf v
def fr_ARs{c0 c':Cx}{G0:Pd}(h:∀gg a,gg<G0.length→AR c0 (.dy gg 0) a→AR c' (frV G0 (.dy gg 0)) a)(l:List LV)(r:List AV)(j:sims G0.length l=true)(ha:ARs c0 l r):ARs c' (frVs G0 l) r:=by
 cases l with
 |nil=>cases ha;simp only[frVs];exact .nil
 |cons v l =>
  simp only[sims,J2]at j;cases ha with
  |cons e es=>simp only[frVs];exact .cons (fr_AR h v _ j.1 e) (fr_ARs h l _ j.2 es)
termination_by SizeOf.sizeOf l
end
def Pr{f:Nat}{Y:LV}(hc:P4 P f vV Y I)(hb:bors G E vV)(k:Z (frV I Y) G):Tw P (.fn f) E G Z:=by
 obtain⟨ht,M,hG,O⟩:=hc;refine⟨ht,λc t1 B j Q ha=>?_⟩;cases t1 with
 |yield o=>exact Q.elim
 |fn gK =>
  obtain rfl:f=gK:=Q;obtain⟨m,v1,D,F,q1,q2,q3,q4,q5,q6⟩:=O (λo=>c.Fz o∨Ru c G o) c.H B (λo ho=>ho.elim (j.fz o) (j.lt o)) (bors_ok j E vV B hb ha);have R:CxLe c ⟨c.hd,λo=>c.Fz o∨Ru ⟨D,λo=>c.Fz o∨Ru c G o,F⟩ I o,F⟩:=⟨λp k h e=>⟨k,h,e,J8 _,λ_=>rfl,λ_=>rfl⟩,λo ho=>⟨.inl ho,q5 o (j.fz o ho)⟩⟩;have g:∀o,Ru ⟨c.hd,λo=>c.Fz o∨Ru ⟨D,λo=>c.Fz o∨Ru c G o,F⟩ I o,F⟩ G o→Ru c G o:=λo ⟨p,z,k,h,C,A,T,U⟩=>⟨p,z,k,h,C,A,T,U⟩
  refine⟨m,v1,F,q1,⟨c.hd,λo=>c.Fz o∨Ru ⟨D,λo=>c.Fz o∨Ru c G o,F⟩ I o,F⟩,frV I Y,G,rfl,?_,?_,?_,k⟩
  ·refine⟨j.len,λo ho=>?_,λo ho=>Kt (j.lt o (g o ho)) q4,λo ho V=>?_,λp z k h C A=>?_,λp q z H k h k' h' o C A T U e5 e6 e7 e8=>j.excl p q z H k h k' h' o C A T U e5 e6 e7 e8⟩
   ·rcases ho with ho|ho
    ·exact Kt (j.fz o ho) q4
    ·exact q2.lt o ho
   ·rcases V with V|V
    ·exact j.sep o (g o ho) V
    ·have:=q6 o V;have:=j.lt o (g o ho);omega
   ·by_cases hl:z.live=true
    ·exact (j.obj p z k h C A).mono R (λo ho=>q5 o (j.lt o ⟨p,z,k,h,C,hl,A,ho⟩))
    ·cases z<;>first|exact absurd rfl hl|trivial
  ·refine⟨R,q4,λo ho _=>q5 o ho,λo ho=>.inl (g o ho),λo ho=>ho.elim .inl (λh=>.inr (.inr (q6 o h))),λp z H C A=>?_,λp z H k h o C A T U e5 e6=>?_⟩
   ·rw[C]at A;cases A;exact J8 _
   ·rw[C]at A;cases A;have hl:z.live=true:=by cases z<;>first|rfl|cases e5
    exact⟨rfl,q5 o (j.lt o ⟨p,z,k,h,C,hl,T,U⟩),rfl⟩
  ·refine fr_AR (λgH a hj h=>?_) Y v1 M q3;obtain⟨l,len,K,gg,gD⟩:=hG gH _ (J7 hj);have hg:I[gH]?=some (.dyn l len K 0 0):=by rw[J7 hj,gg]
   simp only[frV];rw[hg];dsimp only;cases h with
   | @dy _ _ k' hh _ e hk ha _ =>
    obtain⟨r0,r1,L⟩:=q2.obj gH _ _ _ hg e;have X:=ha J;rcases L with ⟨L,r3⟩|⟨o,v,gF,t,gG,l',L,r3,r4,r5,r6,r7,r8⟩
    ·subst r3;have:l=[]:=Kn Ec;subst this;rw[X,L];exact .lstNil
    ·have gI:l'.length=len*K:=Du
     have hr:=Zj (i:=0) (n:=len*K) r3 r5 r4 J;rw[Mu,Kk J]at hr;rw[X,L];exact .lst (.inr ⟨gH,_,_,_,hg,rfl,e,by rw[L];rfl⟩) (λr e=>(r7 r e).2) r1 hr (zf5 gD r6)
def X7{f:Nat}{v0:LV}(hc:P4 P f vV v0 I)(hb:bors G E vV)(k:Z (shV G.length v0) (G++I)):Tw P (.fn f) E G Z:=by
 obtain⟨ht,X,hG,Y⟩:=hc;refine⟨ht,λc t1 M j gg ha=>?_⟩;cases t1 with
 |yield o=>exact gg.elim
 |fn gM =>
  obtain rfl:f=gM:=gg;obtain⟨m,v1,A,T,q1,U,q3,q4,q5,q6⟩:=Y (λo=>c.Fz o∨Ru c G o) c.H M (λo ho=>ho.elim (j.fz o) (j.lt o)) (bors_ok j E vV M hb ha);have gD:∀(p k:Nat) (h:AV),c.hd[p]?=some (k,h)→(c.hd++A)[p]?=some (k,h):=λp k h e=>by
   rw[J4 (Jy.1 e).1];exact e
  have gF:CxLe c ⟨c.hd++A,c.Fz,T⟩:=⟨λp k h e=>⟨k,h,gD p k h e,J8 _,λ_=>rfl,λ_=>rfl⟩,λo ho=>⟨ho,q5 o (j.fz o ho)⟩⟩;have R:A.length=I.length:=U.len;have F:∀(p:Nat) (k:Nat) (h:AV) (g:LObj),(c.hd++A)[p]?=some (k,h)→(G++I)[p]?=some g→(c.hd[p]?=some (k,h)∧G[p]?=some g)∨(G.length≤p∧A[p-G.length]?=some (k,h)∧I[p-G.length]?=some g):=by
   intro p k h g B C;by_cases hp:p<G.length
   ·rw[J4 hp]at C;rw[J4 (by rw[j.len];exact hp)]at B;exact .inl ⟨B,C⟩
   ·rw[Kl J]at C;rw[Kl (by rw[j.len];omega),j.len]at B;exact .inr ⟨J,B,C⟩
  have D:∀(p k:Nat) (h:AV) (z:LObj) (o:Nat),A[p]?=some (k,h)→I[p]?=some z→z.live=true→Qf h=some o→Ru ⟨A,λo=>c.Fz o∨Ru c G o,T⟩ I o:=λp k h z o B C K O=>⟨p,z,k,h,C,K,B,O⟩
  have Q:∀o,Ru ⟨c.hd++A,c.Fz,T⟩ (G++I) o→Ru c G o∨(c.H.next≤o∧o<T.next):=by
   rintro o ⟨p,g,k,h,B,C,K,O⟩;rcases F p k h g K B with ⟨q1,U⟩|⟨_,L,H⟩
   ·exact .inl ⟨p,g,k,h,U,C,q1,O⟩
   ·have:=D _ k h g o L H C O;exact .inr ⟨q6 o this,U.lt o this⟩
  refine⟨m,v1,T,q1,⟨c.hd++A,c.Fz,T⟩,shV G.length v0,G++I,rfl,?_,?_,?_,k⟩
  ·refine⟨by simp[j.len,R],λo ho=>Kt (j.fz o ho) q4,λo ho=>?_,λo ho hf=>?_,λp z k h B C=>?_,λp q z g k h V h' o B C K O e5 e6 e7 e8=>?_⟩
   ·rcases Q o ho with h|h
    ·exact Kt (j.lt o h) q4
    ·exact h.2
   ·rcases Q o ho with h|h
    ·exact j.sep o h hf
    ·have:=j.fz o hf;omega
   ·rcases F p k h z C B with ⟨L,H⟩|⟨_,L,H⟩
    ·by_cases hl:z.live=true
     ·exact (j.obj p z k h H L).mono gF (λo ho=>q5 o (j.lt o ⟨p,z,k,h,H,hl,L,ho⟩))
     ·cases z<;>first|exact absurd rfl hl|trivial
    ·obtain⟨l,len,gL,rfl,gI⟩:=hG _ _ H;obtain⟨s0,s1,s2⟩:=U.obj _ _ _ _ H L;refine⟨s0,s1,?_⟩;rcases s2 with s2|⟨o,v,gG,t,gH,l',s2,s3,s4,s5,s6,s7⟩
     ·exact .inl s2
     ·exact .inr ⟨o,v,gG,t,gH,l',s2,s3,s4,s5,zf5 gI s6,s7⟩
   ·rcases F p k h z e5 B with ⟨L,H⟩|⟨hp,L,H⟩<;>rcases F q V h' g e6 C with ⟨r3,r4⟩|⟨hq,r3,r4⟩
    ·exact j.excl p q z g k h V h' o H r4 K O L r3 e7 e8
    ·have:=j.lt o ⟨p,z,k,h,H,K,L,e7⟩;have:=q6 o (D _ _ _ _ o r3 r4 O e8);omega
    ·have:=j.lt o ⟨q,g,V,h',r4,O,r3,e8⟩;have:=q6 o (D _ _ _ _ o L H K e7);omega
    ·have:=U.excl _ _ z g k h V h' o H r4 K O L r3 e7 e8;omega
  ·refine⟨gF,q4,λo ho _=>q5 o ho,λo ho=>(Q o ho).elim .inl (λh=>.inr h.1),λo ho=>.inl ho,λp z g B C=>?_,λp z g k h o B C K O e5 e6=>?_⟩
   ·rw[J4 (Jy.1 B).1,B]at C;cases C;exact J8 _
   ·rw[J4 (Jy.1 B).1,B]at C;cases C;have hl:z.live=true:=by cases z<;>first|rfl|cases e5
    exact⟨rfl,q5 o (j.lt o ⟨p,z,k,h,B,hl,K,O⟩),by rw[gD p k h K,K]⟩
  ·refine sh_AR (λgO a hj h=>?_) v0 v1 X q3;cases h with
   | @dy _ _ V hh _ e hk ha gK =>
    exact .dy (k':=V) (h:=hh) (by dsimp only;rw[Kl (by rw[j.len];omega),j.len,Nat.add_sub_cancel_left];exact e) hk ha gK
end calls
end
section
section rules
variable {P : Program} {f n : Nat} {ρ : Pf} {D : List Nat} {G : Pd} {Q : R8}
end rules
end
section
noncomputable section
def wp(P:Program)(f n:Nat)(ro:Option Nat):LC→Pf→List Nat→Pd→R8→Prop
 |.skip,ρ,D,G,Q=>Q .normal ρ D G
 |.ops l,ρ,D,G,Q=>Xa P l ρ G λρ' G'=>Q .normal ρ' D G'
 |.seq a b,ρ,D,G,Q=>wp P f n ro a ρ D G λx ρ' j G'=>match x with
  |.normal=>wp P f n ro b ρ' j G' Q
  |x=>Q x ρ' j G'
 |.cond x a b,ρ,D,G,Q=>brV (x.ev ρ) (wp P f n ro a ρ D G Q) (wp P f n ro b ρ D G Q)
 |.block id c,ρ,D,G,Q=>wp P f n ro c ρ D G λx ρ' j G'=>match x with
  |.exit i=>if i=id then Q .normal ρ' j G' else Q (.exit i) ρ' j G'
  |x=>Q x ρ' j G'
 |.draw l,ρ,D,G,Q=>m8 P l ρ G λρ' G'=>Q .normal ρ' D G'
 |.exit id,ρ,D,G,Q=>Q (.exit id) ρ D G
 |.scope c,ρ,D,G,Q=>wp P f n ro c ρ D G Q
 |.label,ρ,D,G,Q=>Q .normal ρ D G
 |.ret,ρ,D,G,Q=>Q .ret ρ D G
 |.stuck,_,_,_,_=>False
 |s,ρ,D,G,Q=>W P f n s ro ρ D G Q
def Z5(P:Program)(f n:Nat)(ro:Option Nat)(b:LC)(Q:R8):R8:=λx ρ' j G'=>match x with
  |.normal=>wp P f n ro b ρ' j G' Q
  |x=>Q x ρ' j G'
def blkQ(id:Nat)(Q:R8):R8:=λx ρ' j G'=>match x with
  |.exit i=>if i=id then Q .normal ρ' j G' else Q (.exit i) ρ' j G'
  |x=>Q x ρ' j G'
def nxQ(Nx:Pf→List Nat→Pd→Prop)(Q:R8):R8:=λx ρ' j G'=>match x with
  |.normal=>Nx ρ' j G'
  |x=>Q x ρ' j G'
def endK(K:LV→Pd→Prop)(G:Pd):List LV→Prop:=λvs=>K (Yy vs) G
def takK(ρ:Pf)(rs:List RRes)(K:LV→Pd→Prop):Pd→Prop:=λj=>T4 ρ j rs (endK K j)
def endQ (rs : List RRes) (K : LV → Pd → Prop) : R8 := fun x ρ D G' => match x with
   |.exit _=>False
   |_=>zpc D G' (takK ρ rs K)
def norQ(Q:R8)(D:List Nat):Pf→Pd→Prop:=λρ G=>Q .normal ρ D G
def opsK(P:Program)(l:List LI)(K:Pf→Pd→Prop):Pf→Pd→Prop:=λρ' G'=>Xa P l ρ' G' K
def itK(ρ:Pf)(d:Option Nat)(K:Pf→Pd→Prop):LV→Pd→Prop:=λv G'=>K (U0 ρ d v) G'
def Zt(K:LV→Pd→Prop)(G:Pd):LV→Prop:=λv=>K v G
def drK(P:Program)(cs:List (LI×Bool))(l:List (LI×List (LI×Bool)))(ρ:Pf)(G:Pd)(K:Pf→Pd→Prop):Pf→Pd→Prop:=λρ' G'=>Zc ρ G G' cs∧m8 P l ρ' G' K
def tmpK(ρ:Pf)(t:Nat)(K:List LV→Prop):List LV→Prop:=λvs=>K (lk ρ t::vs)
def conK(v:LV)(K:List LV→Prop):List LV→Prop:=λvs=>K (v::vs)
def cnK(ρ:Pf)(G:Pd)(l:List RRes)(K:List LV→Prop):List LV→Prop:=λcs=>T4 ρ G l (conK (.agg cs) K)
def Vc{P:Program}{f n:Nat}{ro:Option Nat}:∀(s:LC) {ρ:Pf} {D:List Nat} {G:Pd} {Q:R8},wp P f n ro s ρ D G Q→W P f n s ro ρ D G Q
 |.skip,_,_,_,_,h=>W_skip h
 |.ops l,_,_,_,_,h=>W_ops h
 |.seq a b,_,_,_,_,h=>yb ((Vc a h).post λx ρ D G k=>by
  cases x with
  |normal=>exact Vc b k
  |exit i=>exact k
  |ret=>exact k)
 |.cond x a b,ρ,_,_,_,h=>by
  simp only[wp]at h;obtain⟨t,j,h⟩:=uc h;exact W_cond j (λe=>Vc a (h.1 e)) (λe=>Vc b (h.2 e))
 |.block id c,_,_,_,_,h=>W_block (Vc c h)
 |.exit id,_,_,_,_,h=>W_exit h
 |.scope c,_,_,_,_,h=>W_scope (Vc c h)
 |.label,_,_,_,_,h=>W_label h
 |.ret,_,_,_,_,h=>W_ret h
 |.stuck,_,_,_,_,h=>h.elim
 |.draw l,_,_,_,_,h=>W_draw h
 |.loop c,_,_,_,_,h=>h
 |.rangeF g ps a b,_,_,_,_,h=>h
section rules
variable {P : Program}
def Pj{f:Nat}{s:LC}{n:Nat}{rs:List RRes}(C:Pk P f=some ⟨n,s.r,rs⟩)(j:s.ok=true){G:Pd}{K:LV→Pd→Prop}(hn:E.length≤n)
  (h:wp P f n none s (rj E 0) [] G (endQ rs K)):Tw P (.fn f) E G K :=
 zlm C j hn ((Vc s h).post λx ρ D G' k=>by
  cases x with
  |normal=>exact⟨trivial,k⟩
  |exit i=>exact k.elim
  |ret=>exact⟨trivial,k⟩)
def P4.val{f:Nat}{args:List LV}{v0:LV}(j:v0.sim 0=true)(h:Tw P (.fn f) args [] λv _=>v=subV [] v0):P4 P f args v0 [] :=
 .mk j (h.mono λv G e=>⟨[],e,rfl,trivial⟩) (λgg ob e=>Cd)
def loop_wp{f n:Nat}{ro:Option Nat}{ρ:Pf}{D:List Nat}{G:Pd}{Q:R8}{s:LC}(I:Pf→List Nat→Pd→Nat→Prop){N:Nat}(C:I ρ D G N)
  (h:∀N ρ D G,I ρ D G N→wp P f n ro s ρ D G (nxQ (λρ' E G'=>∃j,j<N∧I ρ' E G' j) Q)):W P f n (.loop s) ro ρ D G Q :=
 wq I C λN ρ D G k=>Vc s (h N ρ D G k)
def Qt{f n:Nat}{ro:Option Nat}{ρ:Pf}{D:List Nat}{G:Pd}{Q:R8}{s:LC}(I:Pf→List Nat→Pd→Nat→Prop){N:Nat}(E:I ρ D G N)
  (h:∀(N:Nat) (ρ:Pf) (D:List Nat) (G:Pd),I ρ D G N→∀Nx:Pf→List Nat→Pd→Prop,(∀(ρ':Pf) (C:List Nat) (G':Pd),(∃j,j<N∧I ρ' C G' j)→Nx ρ' C G')→wp P f n ro s ρ D G (nxQ Nx Q)):W P f n (.loop s) ro ρ D G Q :=
 wq I E λN ρ D G k=>Vc s (h N ρ D G k (λρ' C G'=>∃j,j<N∧I ρ' C G' j) λ_ _ _ e=>e)
end rules
section congr
variable {P : Program} {ρ ρ' : Pf} {G G' : Pd} {x x' y y' : LV} {K : LV → Pd → Prop} {Kv : LV → Prop}
@[congr] theorem W_congr {f n:Nat} {s:LC} {ro:Option Nat} {D:List Nat} {Q:R8} (j:ρ=ρ') (C:G=G'):W P f n s ro ρ D G Q=W P f n s ro ρ' D G' Q:=Co
@[congr] theorem wp_congr {f n:Nat} {s:LC} {ro:Option Nat} {D:List Nat} {Q:R8} (j:ρ=ρ') (C:G=G'):wp P f n ro s ρ D G Q=wp P f n ro s ρ' D G' Q:=Co
@[congr] theorem CallL_congr {t:LTgt} {a:List LV} (j:a=E) (C:G=G'):Tw P t a G K=Tw P t E G' K:=Co
@[congr] theorem binL_congr {op:BinOp} {g:Bool} {t:TypeId} (j:x=x') (C:y=y'):Vq P op g t x y Kv=Vq P op g t x' y' Kv:=Co
@[congr] theorem unL_congr {op:UnOp} (j:x=x'):unL op x Kv=unL op x' Kv:=Hr
@[congr] theorem cvL_congr {k:IntKind} (j:x=x'):x5 k x Kv=x5 k x' Kv:=Hr
@[congr] theorem readL_congr {n:Nat} {K:List LV→Prop} (j:G=G') (C:x=x'):Zo G x n K=Zo G' x' n K:=Co
@[congr] theorem read1_congr (j:G=G') (C:x=x'):du G x Kv=du G' x' Kv:=Co
@[congr] theorem nthL_congr {l:List LV} {i:Nat} (C:l=E) (F:i=j):Rp l i Kv=Rp E j Kv:=by rw[C,F]
@[congr] theorem writeL_congr {r:List LV} {K:Pd→Prop} (j:G=G') (C:x=x') (F:r=E):Yo G x r K=Yo G' x' E K:=by rw[j,C,F]
@[congr] theorem rowL_congr {n:Nat} {K:Nat→List LV→Prop} (j:G=G') (C:x=x'):Wf G n x K=Wf G' n x' K:=Co
@[congr] theorem lenL_congr {K:Nat→Prop} (j:G=G') (C:x=x'):lenL G x K=lenL G' x' K:=Co
@[congr] theorem appL_congr {size n n':Nat} {l:List LV} (j:G=G') (C:x=x') (F:n=n') (H:l=E):Rq G size x n l K=Rq G' size x' n' E K:=by rw[j,C,F,H]
@[congr] theorem brL_congr {t j:Bool} {A B:Prop} (h:t=j):V9 t A B=V9 j A B:=Gq
@[congr] theorem brG_congr {A B j:Prop} (h:x=x'):brG x A B j=brG x' A B j:=Gq
@[congr] theorem brV_congr {A B:Prop} (h:x=x'):brV x A B=brV x' A B:=Gq
end congr
def zqw{t:Bool}{A B:Prop}:brV (.bool t) A B=V9 t A B:=(rfl)
def zuo{t:Bool}{A B j:Prop}:brG (.bool t) A B j=V9 t A B:=(rfl)
def dx{A B j:Prop}:brG (.tup []) A B j=j:=(rfl)
def zmu{A B:Prop}:V9 true A B=A:=by simp[V9]
def zkm{A B:Prop}:V9 false A B=B:=by simp[V9]
def brL_dec{p:Prop}[Decidable p]{A B:Prop}:V9 (decide p) A B=((p→A)∧(¬p→B)):=by simp[V9]
def zz8{b:Bool}{A B:Prop}:V9 (!b) A B=V9 b B A:=by cases b<;>simp[V9]
def zq3(v:LV)(l:List LV)(K:LV→Prop):Rp (v::l) 0 K=K v:=by simp[Rp]
def zr6(v:LV)(l:List LV)(i:Nat)(K:LV→Prop):Rp (v::l) (i+1) K=Rp l i K:=by simp[Rp]
def zto(f:vM→LV)(d:vM)(l:List vM)(i:Nat)(K:LV→Prop):Rp (l.map f) i K=(i<l.length∧K (f (l.getD i d))):=by
 unfold Rp;by_cases h:i<l.length
 ·simp[h]
 ·simp[h]
def sr(l:List UInt64)(i:Nat)(K:LV→Prop):Rp (l.map .u) i K=(i<l.length∧K (.u (l.getD i 0))):=zto _ _ _ _ _
def ln(o:Option LObj)(K:List LV→Nat→Prop):Prop:=match o with
 |some (.cells l st)=>K l st
 |_=>False
def Th(o:Option LObj)(K:List LV→Nat→Nat→Nat→Nat→Prop):Prop:=match o with
 |some (.dyn l len esz j st)=>K l len esz j st
 |_=>False
def zkg(o:Option (List LV))(K:List LV→Prop):Prop:=match o with
 |some l=>K l
 |none=>False
def znh(c a b:LV)(K:LV→Prop):Prop:=match c with
 |.bool t=>match a,b with
  |.bool x,.bool y=>K (.bool (match t with|true=>x|false=>y))
  |x,y=>V9 t (K x) (K y)
 |_=>False
def chkL(x:LV)(K:LV→Prop):Prop:=match x with
 |.ptr p i=>K (.ptr p i)
 |.dptr p k i=>K (.dptr p k i)
 |.cptr l i=>K (.cptr l i)
 |.fn (.func f) a b=>K (.fn (.func f) a b)
 |_=>False
def Zb(x y:LV)(K:Nat→Prop):Prop:=match x,y with
 |.i l,.i c=>l=c∧0≤l∧l≤1048576∧K l.toNat
 |_,_=>False
def bndV(x:LV)(K:Nat→Prop):Prop:=match x with
 |.i n=>0≤n∧K n.toNat
 |.u n=>K n.toNat
 |_=>False
def zq(G:Pd)(size:Nat)(x:LV)(lo:(Nat→Prop)→Prop)(hi:Nat→(Nat→Prop)→Prop)(K:LV→Prop):Prop:=match x with
 |.nilSl=>lo λa=>hi 0 λb=>a=0∧b=0∧K .nilSl
 |.dy p k=>Th G[p]? λ_ len esz j _=>k=j∧esz=size∧lo λa=>hi len λb=>a≤b∧b≤len∧K (.vw p k a (b-a))
 |.vw p k C len=>Th G[p]? λ_ _ esz j _=>k=j∧esz=size∧lo λa=>hi len λb=>a≤b∧b≤len∧K (.vw p k (C+a) (b-a))
 |.lst l len esz=>esz=size∧lo λa=>hi len λb=>a≤b∧b≤len∧K (.lst ((l.drop (a*esz)).take ((b-a)*esz)) (b-a) esz)
 |_=>False
def Ys(off:Nat)(x:LV)(K:LV→Prop):Prop:=match x with
 |.ptr p i=>K (.ptr p (i+off))
 |.dptr p k i=>K (.dptr p k (i+off))
 |.cptr l i=>K (.cptr l (i+off))
 |_=>False
def fldL(g:Bool)(n off:Nat)(x:LV)(K:LV→Prop):Prop:=match x with
 |.agg l=>match g with
  |true=>off+n≤l.length∧K (.agg ((l.drop off).take n))
  |false=>Rp l off K
 |_=>False
def m7(G:Pd)(size:Nat)(x:LV)(n:Int)(K:LV→Prop):Prop:=match x with
 |.dy p k=>Th G[p]? λ_ len esz j _=>k=j∧esz=size∧0≤n∧n<len∧K (.dptr p k (n.toNat*size))
 |.vw p k lo len=>Th G[p]? λ_ _ esz j _=>k=j∧esz=size∧0≤n∧n<len∧K (.dptr p k ((lo+n.toNat)*size))
 |.lst l len esz=>esz=size∧0≤n∧n<len∧K (.cptr l (n.toNat*size))
 |_=>False
def ixL(G:Pd)(size:Nat)(x i:LV)(K:LV→Prop):Prop:=match i with
 |.i n=>m7 G size x n K
 |.u n=>m7 G size x (n.toNat:Int) K
 |_=>False
def ixSL(x i:LV)(K:LV→Prop):Prop:=match x,i with
 |.str l,.i n=>0≤n∧n<l.length∧K (.b (l.getD n.toNat 0))
 |.str l,.u n=>n.toNat<l.length∧K (.b (l.getD n.toNat 0))
 |.str l,.b n=>n.toNat<l.length∧K (.b (l.getD n.toNat 0))
 |_,_=>False
def tupL(i:Nat)(x:LV)(K:LV→Prop):Prop:=match x with
 |.tup l=>Rp l i K
 |_=>False
def ua(j:Bool)(x y:LV)(K:LV→Prop):Prop:=match x,y with
 |.i a,.i b=>K (.i (match j with|true=>max a b|false=>min a b))
 |.u a,.u b=>K (.u (match j with|true=>if a<b then b else a|false=>if b<a then b else a))
 |_,_=>False
def lenZ(x:LV)(K:Nat→Prop):Prop:=match x with
 |.i n=>0≤n∧n≤1048576∧K n.toNat
 |_=>False
def Y4(G:Pd)(size:Nat)(d:LV)(n:Nat)(l:List LV)(K:LV→Pd→Prop):Prop:=match d with
 |.dy p k=>Th G[p]? λr len esz j st=>k=j∧esz=size∧K (.i (min n len:Nat)) (G.set p (.dyn (Qj r 0 (l.take (min n len*size))) len esz j (st+1)))
 |.vw p k lo len=>Th G[p]? λr C esz j st=>k=j∧esz=size∧(lo+len)*size≤r.length∧K (.i (min n len:Nat)) (G.set p (.dyn (Qj r (lo*size) (l.take (min n len*size))) C esz j (st+1)))
 |_=>False
def zp4(G:Pd)(size:Nat)(z:List LV)(x:LV)(K:Pd→Prop):Prop:=match x with
 |.vw p k lo len=>Th G[p]? λr j esz C st=>k=C∧esz=size∧z.length=size∧(lo+len)*size≤r.length∧K (G.set p (.dyn (Qj r (lo*size) (Rl z len)) j esz C (st+1)))
 |_=>False
def goL(P:Program)(f:LV)(j:List LV)(G:Pd)(K:LV→Pd→Prop):Prop:=match f with
 |.fn (.func g) a b=>Tw P (.fn g) (a++j++b) G K
 |.fn (.yield p) [] _=>Tw P (.yield p) j G K
 |_=>False
section byOps
variable {P : Program} {ρ : Pf} {G : Pd} {K : LV → Pd → Prop} {x y c a b s d i f : Lx} {l cs z : List LV} {ps : List (Nat × Nat × Lx)} {n size len off : Nat} {lo hi : Option Lx}
def OpL_move:Qb P ρ G (.move x) K=K (x.ev ρ) G:=(rfl)
def OpL_pick:Qb P ρ G (.pick c a b) K=znh (c.ev ρ) (a.ev ρ) (b.ev ρ) (Zt K G):=(rfl)
def OpL_alloc:Qb P ρ G (.alloc l) K=K (.ptr G.length 0) (G++[.cells l 0]):=(rfl)
def OpL_box:Qb P ρ G (.box x) K=zkg (x.ev ρ).cells λl=>K (.ptr G.length 0) (G++[.cells l 0]):=(rfl)
def OpL_build:Qb P ρ G (.build cs ps) K=zkg (zo0 ρ cs ps) λl=>K (.agg l) G:=(rfl)
def OpL_buildSl:Qb P ρ G (.buildSl size len cs ps) K=zkg (zo0 ρ cs ps) λl=>l.length=len*size∧K (.dy G.length 0) (G++[.dyn l len size 0 0]):=(rfl)
def OpL_load1:Qb P ρ G (.load1 x) K=du G (x.ev ρ) (Zt K G):=(rfl)
def OpL_loadN:Qb P ρ G (.loadN n x) K=Zo G (x.ev ρ) n λl=>K (.agg l) G:=(rfl)
def OpL_store:Qb P ρ G (.store n x y) K=zkg (y.ev ρ).cells λl=>l.length=n∧Yo G (x.ev ρ) l λG'=>K (.tup []) G':=(rfl)
def OpL_nilChk:Qb P ρ G (.nilChk x) K=chkL (x.ev ρ) (Zt K G):=(rfl)
def OpL_bin{op:BinOp}{g:Bool}{t:TypeId}:Qb P ρ G (.bin op g t x y) K=Vq P op g t (x.ev ρ) (y.ev ρ) (Zt K G):=(rfl)
def OpL_un{op:UnOp}:Qb P ρ G (.un op x) K=unL op (x.ev ρ) (Zt K G):=(rfl)
def zzy{k:IntKind}:Qb P ρ G (.cvInt k x) K=x5 k (x.ev ρ) (Zt K G):=(rfl)
def zw2{g:Nat}{j gs:List Lx}:Qb P ρ G (.mkFunc g j gs) K=K (.fn (.func g) (j.map (·.ev ρ)) (gs.map (·.ev ρ))) G:=(rfl)
def OpL_mkSl:Qb P ρ G (.mkSl size z a b) K=Zb (a.ev ρ) (b.ev ρ) λn=>z.length=size∧K (.dy G.length 0) (G++[.dyn (Rl z n) n size 0 0]):=by
 simp only[Qb,Zb];cases a.ev ρ<;>cases b.ev ρ<;>rfl
def zyj{x:Lx}{d:Nat}{K:Nat→Prop}:Rx ρ d (some x) K=bndV (x.ev ρ) K:=(rfl)
def zyr{d:Nat}{K:Nat→Prop}:Rx ρ d none K=K d:=(rfl)
def OpL_slSl:Qb P ρ G (.slSl size x lo hi) K=zq G size (x.ev ρ) (λk=>Rx ρ 0 lo k) (λd k=>Rx ρ d hi k) (Zt K G):=by
 simp only[Qb,zq,Th];cases x.ev ρ<;>try rfl
 all_goals (cases G[_]?<;>try rfl)
def ixPL(len size:Nat)(x i:LV)(K:LV→Prop):Prop:=match i with
 |.i n=>0≤n∧n<len∧Ys (n.toNat*size) x K
 |_=>False
def ixAL(g:Bool)(len size:Nat)(x i:LV)(K:LV→Prop):Prop:=match i with
 |.i n=>0≤n∧n<len∧fldL g size (n.toNat*size) x K
 |_=>False
def znp{len size:Nat}{x i:Lx}:Qb P ρ G (.ixAddrArr len size x i) K=ixPL len size (x.ev ρ) (i.ev ρ) (Zt K G):=(rfl)
def zzf{g:Bool}{len size:Nat}{x i:Lx}:Qb P ρ G (.ixArr g len size x i) K=ixAL g len size (x.ev ρ) (i.ev ρ) (Zt K G):=(rfl)
def OpL_fieldAddr:Qb P ρ G (.fieldAddr off x) K=Ys off (x.ev ρ) (Zt K G):=(rfl)
def OpL_ixAddr:Qb P ρ G (.ixAddr size x i) K=ixL G size (x.ev ρ) (i.ev ρ) (Zt K G):=by
 simp only[Qb,ixL,m7,ixO,Th];cases i.ev ρ<;>try rfl
def OpL_ixStr:Qb P ρ G (.ixStr x i) K=ixSL (x.ev ρ) (i.ev ρ) (Zt K G):=(rfl)
def OpL_extract:Qb P ρ G (.extract n x) K=tupL n (x.ev ρ) (Zt K G):=(rfl)
def OpL_lenSl:Qb P ρ G (.lenSl x) K=lenL G (x.ev ρ) λn=>K (.i n) G:=(rfl)
def wn{g:Bool}:Qb P ρ G (.maxi g x y) K=ua g (x.ev ρ) (y.ev ρ) (Zt K G):=(rfl)
def OpL_appZ:Qb P ρ G (.appZ size z s x) K=lenZ (x.ev ρ) λn=>z.length=size∧Rq G size (s.ev ρ) n (Rl z n) K:=(rfl)
def OpL_appG:Qb P ρ G (.appG size s x) K=Wf G size (x.ev ρ) λn l=>n≤1048576∧Rq G size (s.ev ρ) n l K:=(rfl)
def OpL_copy:Qb P ρ G (.copy size d x) K=Wf G size (x.ev ρ) λn l=>Y4 G size (d.ev ρ) n l K:=by
 simp only[Qb,Y4,Th]
 congr 1
def OpL_clear:Qb P ρ G (.clear size z x) K=zp4 G size z (x.ev ρ) λG'=>K .any G':=by
 simp only[Qb,zp4,Th]
 congr 1
def zyp{j:List Lx}:Qb P ρ G (.callV f j) K=goL P (f.ev ρ) (j.map (·.ev ρ)) G K:=(rfl)
end byOps
section opened
variable {P : Program} {G : Pd} {p k i n size lo len off esz : Nat} {l r new : List LV} {K : List LV → Prop} {K1 : LV → Prop} {KG : Pd → Prop} {KN : Nat → Prop} {KR : Nat → List LV → Prop} {KV : LV → Pd → Prop} {KS : List UInt8 → Prop} {lof mxf : (Nat → Prop) → Prop} {hif : Nat → (Nat → Prop) → Prop}
def zvn{l:List LV}{st:Nat}{K:List LV→Nat→Prop}:ln (some (.cells l st)) K=K l st:=(rfl)
def zub{l:List LV}{len esz st:Nat}{K:List LV→Nat→Nat→Nat→Nat→Prop}:Th (some (.dyn l len esz j st)) K=K l len esz j st:=(rfl)
def cellsL_some:zkg (some l) K=K l:=(rfl)
def zmf{a b:LV}:znh (.bool true) a b K1=K1 a:=by cases a<;>cases b<;>simp[znh,V9]
def zjx{a b:LV}:znh (.bool false) a b K1=K1 b:=by cases a<;>cases b<;>simp[znh,V9]
def zp0{t x:Bool}:znh (.bool t) (.bool x) (.bool false) K1=K1 (.bool (t&&x)):=by cases t<;>rfl
def zu5{t x:Bool}:znh (.bool t) (.bool true) (.bool x) K1=K1 (.bool (t || x)):=by cases t<;>rfl
def chkL_ptr:chkL (.ptr p i) K1=K1 (.ptr p i):=(rfl)
def dq{a b:Int}:Zb (.i a) (.i b) KN=(a=b∧0≤a∧a≤1048576∧KN a.toNat):=(rfl)
def ui{a:Int}:bndV (.i a) KN=(0≤a∧KN a.toNat):=(rfl)
def slL_nil:zq G size .nilSl lof hif K1=(lof λa=>hif 0 λb=>a=0∧b=0∧K1 .nilSl):=(rfl)
def slL_dy:zq G size (.dy p k) lof hif K1=(Th G[p]? λ_ len esz j _=>k=j∧esz=size∧lof λa=>hif len λb=>a≤b∧b≤len∧K1 (.vw p k a (b-a))):=(rfl)
def slL_vw:zq G size (.vw p k lo len) lof hif K1=(Th G[p]? λ_ _ esz j _=>k=j∧esz=size∧lof λa=>hif len λb=>a≤b∧b≤len∧K1 (.vw p k (lo+a) (b-a))):=(rfl)
def slL_lst:zq G size (.lst l len esz) lof hif K1=(esz=size∧lof λa=>hif len λb=>a≤b∧b≤len∧K1 (.lst ((l.drop (a*esz)).take ((b-a)*esz)) (b-a) esz)):=(rfl)
def offL_ptr:Ys off (.ptr p i) K1=K1 (.ptr p (i+off)):=(rfl)
def offL_dptr:Ys off (.dptr p k i) K1=K1 (.dptr p k (i+off)):=(rfl)
def offL_cptr:Ys off (.cptr l i) K1=K1 (.cptr l (i+off)):=(rfl)
def fldL_true:fldL true n off (.agg l) K1=(off+n≤l.length∧K1 (.agg ((l.drop off).take n))):=(rfl)
def fldL_false:fldL false n off (.agg l) K1=Rp l off K1:=(rfl)
def ixL_i{x:LV}{n:Int}:ixL G size x (.i n) K1=m7 G size x n K1:=(rfl)
def ixL_u{x:LV}{n:UInt64}:ixL G size x (.u n) K1=m7 G size x (n.toNat:Int) K1:=(rfl)
def zxi{n:Int}:m7 G size (.dy p k) n K1=(Th G[p]? λ_ len esz j _=>k=j∧esz=size∧0≤n∧n<len∧K1 (.dptr p k (n.toNat*size))):=(rfl)
def au{n:Int}:m7 G size (.vw p k lo len) n K1=(Th G[p]? λ_ _ esz j _=>k=j∧esz=size∧0≤n∧n<len∧K1 (.dptr p k ((lo+n.toNat)*size))):=(rfl)
def ct{n:Int}:m7 G size (.lst l len esz) n K1=(esz=size∧0≤n∧n<len∧K1 (.cptr l (n.toNat*size))):=(rfl)
def xh{l:List UInt8}{n:UInt8}:ixSL (.str l) (.b n) K1=(n.toNat<l.length∧K1 (.b (l.getD n.toNat 0))):=(rfl)
def tupL_tup:tupL i (.tup l) K1=Rp l i K1:=(rfl)
def vq{len size:Nat}{x:LV}{n:Int}:ixPL len size x (.i n) K1=(0≤n∧n<len∧Ys (n.toNat*size) x K1):=(rfl)
def qo{g:Bool}{len size:Nat}{x:LV}{n:Int}:ixAL g len size x (.i n) K1=(0≤n∧n<len∧fldL g size (n.toNat*size) x K1):=(rfl)
def fa{a b:Int}:Yu .and a b K1=(0≤a∧a<9223372036854775808∧0≤b∧b<9223372036854775808∧K1 (.i (a.toNat &&& b.toNat:Nat))):=(rfl)
def ci{a b:Int}:ua true (.i a) (.i b) K1=K1 (.i (max a b)):=(rfl)
def fh{a b:Int}:ua false (.i a) (.i b) K1=K1 (.i (min a b)):=(rfl)
def xl{n:Int}:lenZ (.i n) KN=(0≤n∧n≤1048576∧KN n.toNat):=(rfl)
def zv7{n:Nat}:Y4 G size (.dy p k) n l KV=(Th G[p]? λr len esz j st=>k=j∧esz=size∧KV (.i (min n len:Nat)) (G.set p (.dyn (Qj r 0 (l.take (min n len*size))) len esz j (st+1)))):=(rfl)
def zqy{z:List LV}{KH:Pd→Prop}:zp4 G size z (.vw p k lo len) KH=(Th G[p]? λr j esz C st=>k=C∧esz=size∧z.length=size∧(lo+len)*size≤r.length∧KH (G.set p (.dyn (Qj r (lo*size) (Rl z len)) j esz C (st+1)))):=(rfl)
def uz{g:Nat}{a b:List LV}:goL P (.fn (.func g) a b) E G KV=Tw P (.fn g) (a++E++b) G KV:=(rfl)
def readL_ptr:Zo G (.ptr p i) n K=ln G[p]? λl _=>i+n≤l.length∧K ((l.drop i).take n):=by
 simp only[Zo,ln];cases G[p]?<;>try rfl
def readL_dptr:Zo G (.dptr p k i) n K=Th G[p]? λl _ _ j _=>k=j∧i+n≤l.length∧K ((l.drop i).take n):=by
 simp only[Zo,Th];cases G[p]?<;>try rfl
def readL_cptr:Zo G (.cptr l i) n K=(i+n≤l.length∧K ((l.drop i).take n)):=(rfl)
def read1_ptr:du G (.ptr p i) K1=ln G[p]? λl _=>Rp l i K1:=by
 simp only[du,ln];cases G[p]?<;>try rfl
def read1_dptr:du G (.dptr p k i) K1=Th G[p]? λl _ _ j _=>k=j∧Rp l i K1:=by
 simp only[du,Th];cases G[p]?<;>try rfl
def read1_cptr:du G (.cptr l i) K1=Rp l i K1:=(rfl)
def writeL_ptr:Yo G (.ptr p i) r KG=ln G[p]? λl st=>i+r.length≤l.length∧KG (G.set p (.cells (Qj l i r) (st+1))):=by
 simp only[Yo,ln];cases G[p]?<;>try rfl
def writeL_dptr:Yo G (.dptr p k i) r KG=Th G[p]? λl len esz j st=>k=j∧i+r.length≤l.length∧KG (G.set p (.dyn (Qj l i r) len esz j (st+1))):=by
 simp only[Yo,Th];cases G[p]?<;>try rfl
def rowL_dy:Wf G size (.dy p k) KR=Th G[p]? λl len esz j _=>k=j∧esz=size∧KR len l:=by
 simp only[Wf,Th];cases G[p]?<;>try rfl
def rowL_lst:Wf G size (.lst l len esz) KR=(esz=size∧KR len l):=(rfl)
def lenL_nil:lenL G .nilSl KN=KN 0:=(rfl)
def lenL_dy:lenL G (.dy p k) KN=Th G[p]? λ_ len _ j _=>k=j∧KN len:=by
 simp only[lenL,Th];cases G[p]?<;>try rfl
def lenL_vw:lenL G (.vw p k lo len) KN=Th G[p]? λ_ _ _ j _=>k=j∧KN len:=by
 simp only[lenL,Th];cases G[p]?<;>try rfl
def lenL_lst:lenL G (.lst l len esz) KN=KN len:=(rfl)
def appL_nil:Rq G size .nilSl n new KV=KV (.dy G.length 0) (G++[.dyn new n size 0 0]):=(rfl)
def appL_dy:Rq G size (.dy p k) n new KV=Th G[p]? λl len esz j st=>k=j∧(esz=size∧0<esz)∧len≤1000000000∧KV (.dy p (j+1)) (G.set p (.dyn (l++new) (len+n) esz (j+1) (st+1))):=by
 simp only[Rq,Th];cases G[p]?<;>try rfl
def appL_vw:Rq G size (.vw p k lo len) n new KV=Th G[p]? λl C esz j st=>k=j∧(esz=size∧lo=0∧0<n)∧len≤1000000000∧if (len+n)*esz≤l.length then KV (.vw p k 0 (len+n)) (G.set p (.dyn (Qj l (len*esz) new) C esz j (st+1)))∧KV (.dy G.length 0) (G++[.dyn (l.take (len*esz)++new) (len+n) size 0 0]) else len=C∧0<esz∧KV (.dy p (j+1)) (G.set p (.dyn (l++new) (len+n) esz (j+1) (st+1)))∧KV (.dy G.length 0) (G++[.dyn (l++new) (len+n) size 0 0]):=by
 simp only[Rq,Th];cases G[p]?<;>try rfl
variable {op : BinOp} {g : Bool} {t : TypeId}
def cq{a b:UInt64}:Vq P op g t (.u a) (.u b) K1=Xx op a b K1:=(rfl)
def zxz{a b:Int}:Vq P op g t (.i a) (.i b) K1=Yu op a b K1:=(rfl)
def zrf{a:Int}{s:UInt64}:Vq P .shr g t (.i a) (.u s) K1=(0≤a∧s.toNat≤64∧K1 (.i (a/2^s.toNat))):=(rfl)
def zth{a b:Bool}:Vq P .neq g t (.bool a) (.bool b) K1=(Uh P g t (.bool a) (.bool b)=some (a==b)∧K1 (.bool (!(a==b)))):=(rfl)
def zyh{b:Bool}:unL .not (.bool b) K1=K1 (.bool (!b)):=(rfl)
def ss{a:Int}:x5 .u64 (.i a) K1=K1 (.u (iU a)):=(rfl)
def xf{a:UInt64}:x5 .i64 (.u a) K1=(a.toNat<9223372036854775808∧K1 (.i a.toNat)):=(rfl)
def ns{a:UInt8}:x5 .i64 (.b a) K1=K1 (.i a.toNat):=(rfl)
def oo{a:UInt64}:x5 .u8 (.u a) K1=K1 (.b (uB a)):=(rfl)
def zvg{l:List LV}{len esz:Nat}:Vq P .eql g t (.lst l len esz) .nilSl K1=(Uh P g t .nilSl .nilSl=some true∧K1 (.bool false)∧(len=0→K1 (.bool true))):=(rfl)
def zxr{op:BinOp}{g:Bool}{t:TypeId}{l r:List LV}:Vq P op g t (.agg l) (.agg r) K1=aggL P op g t l r K1:=(rfl)
end opened
section code
variable {P : Program} {f n : Nat} {ro : Option Nat} {ρ ρ' : Pf} {D : List Nat} {G G' : Pd} {Q : R8} {a b c : LC} {x : Lx} {id i t d : Nat} {l : List LI} {ds : List (LI × List (LI × Bool))} {cs : List (LI × Bool)} {K : Pf → Pd → Prop} {KV : LV → Pd → Prop} {KL : List LV → Prop} {KG : Pd → Prop} {Nx : Pf → List Nat → Pd → Prop} {rs : List RRes} {o : LOp} {od : Option Nat} {v w : LV} {vs : List LV} {it : LI}
def wp_skip:wp P f n ro .skip ρ D G Q=Q .normal ρ D G:=(rfl)
def wp_ops:wp P f n ro (.ops l) ρ D G Q=Xa P l ρ G (norQ Q D):=(rfl)
def wp_seq:wp P f n ro (.seq a b) ρ D G Q=wp P f n ro a ρ D G (Z5 P f n ro b Q):=(rfl)
def wp_cond:wp P f n ro (.cond x a b) ρ D G Q=brV (x.ev ρ) (wp P f n ro a ρ D G Q) (wp P f n ro b ρ D G Q):=(rfl)
def wp_block:wp P f n ro (.block id c) ρ D G Q=wp P f n ro c ρ D G (blkQ id Q):=(rfl)
def wp_draw:wp P f n ro (.draw ds) ρ D G Q=m8 P ds ρ G (norQ Q D):=(rfl)
def wp_exit:wp P f n ro (.exit id) ρ D G Q=Q (.exit id) ρ D G:=(rfl)
def wp_ret:wp P f n ro .ret ρ D G Q=Q .ret ρ D G:=(rfl)
def wp_loop:wp P f n ro (.loop c) ρ D G Q=W P f n (.loop c) ro ρ D G Q:=(rfl)
def seqQ_n:Z5 P f n ro b Q .normal ρ D G=wp P f n ro b ρ D G Q:=(rfl)
def seqQ_e:Z5 P f n ro b Q (.exit i) ρ D G=Q (.exit i) ρ D G:=(rfl)
def seqQ_r:Z5 P f n ro b Q .ret ρ D G=Q .ret ρ D G:=(rfl)
def blkQ_n:blkQ id Q .normal ρ D G=Q .normal ρ D G:=(rfl)
def blkQ_e:blkQ id Q (.exit i) ρ D G=if i=id then Q .normal ρ D G else Q (.exit i) ρ D G:=(rfl)
def blkQ_r:blkQ id Q .ret ρ D G=Q .ret ρ D G:=(rfl)
def nxQ_n:nxQ Nx Q .normal ρ D G=Nx ρ D G:=(rfl)
def nxQ_e:nxQ Nx Q (.exit i) ρ D G=Q (.exit i) ρ D G:=(rfl)
def nxQ_r:nxQ Nx Q .ret ρ D G=Q .ret ρ D G:=(rfl)
def endQ_n:endQ rs KV .normal ρ D G=zpc D G (takK ρ rs KV):=(rfl)
def endQ_r:endQ rs KV .ret ρ D G=zpc D G (takK ρ rs KV):=(rfl)
def norQ_app:norQ Q D ρ G=Q .normal ρ D G:=(rfl)
def takeL_nil:zpc [] G KG=KG G:=(rfl)
def takK_app:takK ρ rs KV G=T4 ρ G rs (endK KV G):=(rfl)
def endK_app:endK KV G vs=KV (Yy vs) G:=(rfl)
def resL_nil:T4 ρ G [] KL=KL []:=(rfl)
def resL_tmp:T4 ρ G (.tmp t::rs) KL=T4 ρ G rs (tmpK ρ t KL):=(rfl)
def resL_cN:T4 ρ G (.cellN t n::rs) KL=Zo G (lk ρ t) n (cnK ρ G rs KL):=(rfl)
def tmpK_app:tmpK ρ t KL vs=KL (lk ρ t::vs):=(rfl)
def conK_app:conK v KL vs=KL (v::vs):=(rfl)
def cnK_app:cnK ρ G rs KL vs=T4 ρ G rs (conK (.agg vs) KL):=(rfl)
def oneL_1:Yy [v]=v:=(rfl)
def oneL_0:Yy []=.tup []:=(rfl)
def oneL_2:Yy (v::w::vs)=.tup (v::w::vs):=(rfl)
def OpsL_nil:Xa P [] ρ G K=K ρ G:=(rfl)
def OpsL_cons:Xa P (it::l) ρ G K=gh P it ρ G (opsK P l K):=(rfl)
def opsK_app:opsK P l K ρ G=Xa P l ρ G K:=(rfl)
def ItL_n:gh P ⟨od,none,o⟩ ρ G K=Qb P ρ G o (itK ρ od K):=(rfl)
def ItL_t:gh P ⟨od,some (t,true),o⟩ ρ G K=brG (lk ρ t) (Qb P (setL t (.bool true) ρ) G o (itK (setL t (.bool true) ρ) od K)) (itK (setL t (.bool false) ρ) od K (.tup []) G) (itK ρ od K (.tup []) G):=(rfl)
def ItL_f:gh P ⟨od,some (t,false),o⟩ ρ G K=brG (lk ρ t) (itK (setL t (.bool true) ρ) od K (.tup []) G) (Qb P (setL t (.bool false) ρ) G o (itK (setL t (.bool false) ρ) od K)) (itK ρ od K (.tup []) G):=(rfl)
def itK_some:itK ρ (some d) K v G=K ((d,v)::ρ) G:=(rfl)
def itK_none:itK ρ none K v G=K ρ G:=(rfl)
def atG_app:Zt KV G v=KV v G:=(rfl)
def DrL_nil:m8 P [] ρ G K=K ρ G:=(rfl)
def DrL_cons:m8 P ((it,cs)::ds) ρ G K=gh P it ρ G (drK P cs ds ρ G K):=(rfl)
def drK_app:drK P cs ds ρ G K ρ' G'=(Zc ρ G G' cs∧m8 P ds ρ' G' K):=(rfl)
def ev_t:(Lx.t i).ev ρ=lk ρ i:=(rfl)
def ev_c:(Lx.c v).ev ρ=v:=(rfl)
def argsL_nil:rj [] i=[]:=(rfl)
def argsL_cons:rj (v::vs) i=(i,v)::rj vs (i+1):=(rfl)
def setL_cons:setL t v ((d,w)::ρ)=if t=d then (d,v)::ρ else (d,w)::setL t v ρ:=(rfl)
end code
section nums
variable {K : LV → Prop}
def zyc{a b:UInt64}:Xx .add a b K=K (.u (W5 a b)):=(rfl)
def zzq{a b:UInt64}:Xx .sub a b K=K (.u (f8 a b)):=(rfl)
def zyk{a b:UInt64}:Xx .mul a b K=K (.u (U7 a b)):=(rfl)
def zzv{a b:UInt64}:Xx .rem a b K=(b≠0∧K (.u (modU a b))):=(rfl)
def zyz{a b:UInt64}:Xx .shl a b K=K (.u (Ui a b.toNat)):=(rfl)
def di{a b:UInt64}:Xx .shr a b K=K (.u (Ta a b.toNat)):=(rfl)
def fk{a b:UInt64}:Xx .and a b K=K (.u (T3 a b)):=(rfl)
def si{a b:UInt64}:Xx .or a b K=K (.u (iq a b)):=(rfl)
def et{a b:UInt64}:Xx .xor a b K=K (.u (xorU a b)):=(rfl)
def dm{a b:UInt64}:Xx .eql a b K=K (.bool (decide (a=b))):=(rfl)
def zy8{a b:UInt64}:Xx .neq a b K=K (.bool (decide (a≠b))):=(rfl)
def zyt{a b:UInt64}:Xx .lss a b K=K (.bool (decide (a<b))):=(rfl)
def ef{a b:UInt64}:Xx .leq a b K=K (.bool (decide (a≤b))):=(rfl)
def zz4{a b:UInt64}:Xx .gtr a b K=K (.bool (decide (b<a))):=(rfl)
def fq{a b:UInt64}:Xx .geq a b K=K (.bool (decide (b≤a))):=(rfl)
def zz2{a b:Int}:Yu .add a b K=(Xc (a+b)∧K (.i (a+b))):=(rfl)
def cw{a b:Int}:Yu .sub a b K=(Xc (a-b)∧K (.i (a-b))):=(rfl)
def de{a b:Int}:Yu .mul a b K=(Xc (a*b)∧K (.i (a*b))):=(rfl)
def zxq{a b:Int}:Yu .quo a b K=(b≠0∧Xc (a.tdiv b)∧K (.i (a.tdiv b))):=(rfl)
def zxm{a b:Int}:Yu .rem a b K=(b≠0∧K (.i (a.tmod b))):=(rfl)
def ep{a b:Int}:Yu .shr a b K=(0≤a∧0≤b∧b≤64∧K (.i (a/2^b.toNat))):=(rfl)
def zy0{a b:Int}:Yu .eql a b K=K (.bool (decide (a=b))):=(rfl)
def zxy{a b:Int}:Yu .neq a b K=K (.bool (decide (a≠b))):=(rfl)
def zy4{a b:Int}:Yu .lss a b K=K (.bool (decide (a<b))):=(rfl)
def zzc{a b:Int}:Yu .leq a b K=K (.bool (decide (a≤b))):=(rfl)
def fo{a b:Int}:Yu .gtr a b K=K (.bool (decide (b<a))):=(rfl)
def dc{a b:Int}:Yu .geq a b K=K (.bool (decide (b≤a))):=(rfl)
end nums
section congr2
variable {P : Program} {G G' : Pd} {x x' y y' z z' : LV} {K : LV → Pd → Prop} {Kv : LV → Prop} {n n' size : Nat}
@[congr] theorem atC_congr {o j:Option LObj} {K:List LV→Nat→Prop} (h:o=j):ln o K=ln j K:=Gq
@[congr] theorem atD_congr {o j:Option LObj} {K:List LV→Nat→Nat→Nat→Nat→Prop} (h:o=j):Th o K=Th j K:=Gq
@[congr] theorem cellsL_congr {o j:Option (List LV)} {K:List LV→Prop} (h:o=j):zkg o K=zkg j K:=Gq
@[congr] theorem pickL_congr (j:x=x') (C:y=y') (E:z=z'):znh x y z Kv=znh x' y' z' Kv:=by rw[j,C,E]
@[congr] theorem chkL_congr (j:x=x'):chkL x Kv=chkL x' Kv:=Hr
@[congr] theorem mkSlL_congr {K:Nat→Prop} (j:x=x') (C:y=y'):Zb x y K=Zb x' y' K:=Co
@[congr] theorem bndV_congr {K:Nat→Prop} (j:x=x'):bndV x K=bndV x' K:=Hr
@[congr] theorem slL_congr {lo:(Nat→Prop)→Prop} {hi:Nat→(Nat→Prop)→Prop} (j:G=G') (C:x=x'):zq G size x lo hi Kv=zq G' size x' lo hi Kv:=Co
@[congr] theorem offL_congr (j:x=x'):Ys n x Kv=Ys n x' Kv:=Hr
@[congr] theorem ixL_congr (j:G=G') (C:x=x') (E:y=y'):ixL G size x y Kv=ixL G' size x' y' Kv:=by rw[j,C,E]
@[congr] theorem ixV_congr {i:Int} (j:G=G') (C:x=x') (E:i=vT):m7 G size x i Kv=m7 G' size x' vT Kv:=by rw[j,C,E]
@[congr] theorem ixSL_congr (j:x=x') (C:y=y'):ixSL x y Kv=ixSL x' y' Kv:=Co
@[congr] theorem tupL_congr (j:x=x'):tupL n x Kv=tupL n x' Kv:=Hr
@[congr] theorem ixPL_congr {len size:Nat} (j:x=x') (C:y=y'):ixPL len size x y Kv=ixPL len size x' y' Kv:=Co
@[congr] theorem ixAL_congr {g:Bool} {len size:Nat} (j:x=x') (C:y=y'):ixAL g len size x y Kv=ixAL g len size x' y' Kv:=Co
@[congr] theorem maxL_congr {g:Bool} (j:x=x') (C:y=y'):ua g x y Kv=ua g x' y' Kv:=Co
@[congr] theorem lenZ_congr {K:Nat→Prop} (j:x=x'):lenZ x K=lenZ x' K:=Hr
@[congr] theorem clearL_congr {z z':List LV} {KH:Pd→Prop} (j:G=G') (C:x=x') (E:z=z'):zp4 G size z x KH=zp4 G' size z' x' KH:=by rw[j,C,E]
@[congr] theorem copyL_congr {l:List LV} (j:G=G') (C:x=x') (F:n=n') (H:l=E):Y4 G size x n l K=Y4 G' size x' n' E K:=by rw[j,C,F,H]
@[congr] theorem goL_congr {l:List LV} (j:x=x') (C:l=E) (F:G=G'):goL P x l G K=goL P x' E G' K:=by rw[j,C,F]
end congr2
def LU(a:List UInt64):LV:=.lst (a.map .u) a.length 1
def zeu(a:List UInt64):dats (a.map LV.u)=true:=yp (λ_=>rfl) a
def zsm(a:List UInt64)(n:Nat):dats ((a.map LV.u).take n)=true:=dats_take n (zeu a)
def dat_app(a b:List LV):dats (a++b)=(dats a&&dats b):=by
 induction a with
 |nil=>simp[dats]
 |cons x a j=>simp[dats,j,Bool.and_assoc]
def zm6(l r:List LV):Qj l 0 r=r++l.drop r.length:=by simp[Qj]
def zw4(v:LV)(l r:List LV)(i:Nat):Qj (v::l) (i+1) r=v::Qj l i r:=by
 unfold Qj;rw[show i+1+r.length=(i+r.length)+1 from J];simp
attribute [simp] zsm dat_app Zc ckL ckC zpp tgtL LObj.stp LObj.st zq3 zr6 sr qu zjs zo0 LV.cells subV subVs X8 notP shV shVs frV frVs bor bors LV.dat dats LV.scal LV.sim sims zeu zm6 zw4 LU Xc
attribute [simp] zqw zuo dx zmu zkm brL_dec zz8
attribute [simp ↓] zqw zuo dx zmu zkm zz8 zq3 zr6 sr
attribute [simp ↓] OpL_move OpL_pick OpL_alloc OpL_box OpL_build OpL_buildSl OpL_load1 OpL_loadN OpL_store OpL_nilChk OpL_bin OpL_un zzy zw2 OpL_mkSl zyj zyr OpL_slSl OpL_fieldAddr OpL_ixAddr OpL_ixStr OpL_extract OpL_lenSl wn OpL_appZ OpL_appG OpL_copy zyp
attribute [simp] zvn zub cellsL_some zmf zjx zp0 zu5 chkL_ptr dq ui slL_nil slL_dy slL_vw slL_lst offL_ptr offL_dptr offL_cptr fldL_true fldL_false ixL_i ixL_u zxi au ct xh tupL_tup ci fh xl zv7 uz readL_ptr readL_dptr readL_cptr read1_ptr read1_dptr read1_cptr writeL_ptr writeL_dptr rowL_dy rowL_lst lenL_nil lenL_dy lenL_vw lenL_lst appL_nil appL_dy appL_vw cq zxz zrf zth zvg zyh ss xf ns oo
attribute [simp ↓] zvn zub cellsL_some zmf zjx zp0 zu5 chkL_ptr dq ui slL_nil slL_dy slL_vw slL_lst offL_ptr offL_dptr offL_cptr fldL_true fldL_false ixL_i ixL_u zxi au ct xh tupL_tup ci fh xl zv7 uz readL_ptr readL_dptr readL_cptr read1_ptr read1_dptr read1_cptr writeL_ptr writeL_dptr rowL_dy rowL_lst lenL_nil lenL_dy lenL_vw lenL_lst appL_nil appL_dy appL_vw cq zxz zrf zth zvg zyh ss xf ns oo
attribute [simp] wp_skip wp_ops wp_seq wp_cond wp_block wp_draw wp_exit wp_ret wp_loop seqQ_n seqQ_e seqQ_r blkQ_n blkQ_e blkQ_r nxQ_n nxQ_e nxQ_r endQ_n endQ_r norQ_app takeL_nil takK_app endK_app resL_nil resL_tmp resL_cN tmpK_app conK_app cnK_app oneL_1 oneL_0 oneL_2 OpsL_nil OpsL_cons opsK_app ItL_n ItL_t ItL_f itK_some itK_none atG_app DrL_nil DrL_cons drK_app ev_t ev_c argsL_nil argsL_cons setL_cons zyc zzq zyk zzv zyz di fk si et dm zy8 zyt ef zz4 fq zz2 cw de zxq zxm ep zy0 zxy zy4 zzc fo dc
attribute [simp ↓] wp_skip wp_ops wp_seq wp_cond wp_block wp_draw wp_exit wp_ret wp_loop seqQ_n seqQ_e seqQ_r blkQ_n blkQ_e blkQ_r nxQ_n nxQ_e nxQ_r endQ_n endQ_r norQ_app takeL_nil takK_app endK_app resL_nil resL_tmp resL_cN tmpK_app conK_app cnK_app oneL_1 oneL_0 oneL_2 OpsL_nil OpsL_cons opsK_app ItL_n ItL_t ItL_f itK_some itK_none atG_app DrL_nil DrL_cons drK_app ev_t ev_c argsL_nil argsL_cons setL_cons zyc zzq zyk zzv zyz di fk si et dm zy8 zyt ef zz4 fq zz2 cw de zxq zxm ep zy0 zxy zy4 zzc fo dc
attribute [simp] zxr
attribute [simp ↓] zxr
attribute [simp] vq qo fa
attribute [simp] zqy
attribute [simp ↓] OpL_clear zqy znp zzf vq qo fa
def oi(o:Option Bool)(A B:Prop):Prop:=match o with
 |some b=>V9 b A B
 |none=>False
def atM(o:Option LObj)(K:List (LV×LV×Nat)→Nat→Nat→Prop):Prop:=match o with
 |some (.map es ck st)=>K es ck st
 |_=>False
def lookM(d:TypeDesc)(k z:LV)(ok:Bool)(K:LV→Prop):List (LV×LV×Nat)→Prop:=λes=>zne d k (Zg z ok K) es
def conM(x:LV×LV×Nat)(K:List (LV×LV×Nat)→Bool→Prop):List (LV×LV×Nat)→Bool→Prop:=λr new=>K (x::r) new
def slAL(G:Pd)(n size:Nat)(x:LV)(lo:(Nat→Prop)→Prop)(hi:Nat→(Nat→Prop)→Prop)(K:LV→Pd→Prop):Prop:=match x with
 |.ptr p i=>ln G[p]? λl st=>i+n*size≤l.length∧lo λa=>hi n λb=>a≤b∧b≤n∧K (.lst ((l.drop (i+a*size)).take ((b-a)*size)) (b-a) size) (G.set p (.dead (st+1)))
 |_=>False
section maps
variable {P : Program} {ρ : Pf} {G G' : Pd} {K : LV → Pd → Prop} {K1 : LV → Prop} {x i m k v z x' k' : LV} {X I M V : Lx} {d : TypeDesc} {ok : Bool} {es es' : List (LV × LV × Nat)} {KE : List (LV × LV × Nat) → Prop} {KB : List (LV × LV × Nat) → Bool → Prop} {KH : Pd → Prop} {p ck st n size : Nat} {lo hi : Option Lx} {A B : Prop} {lof : (Nat → Prop) → Prop} {hif : Nat → (Nat → Prop) → Prop}
def OpL_mkMap0:Qb P ρ G .mkMap0 K=K (.map G.length) (G++[.map [] 0 0]):=(rfl)
def OpL_lookup:Qb P ρ G (.lookup d z ok X I) K=Z1 G (X.ev ρ) (lookM d (I.ev ρ) z ok (Zt K G)):=(rfl)
def OpL_mapUpd:Qb P ρ G (.mapUpd d M I V) K=zqp G d (M.ev ρ) (I.ev ρ) (V.ev ρ) λG'=>K .any G':=(rfl)
def OpL_slArr:Qb P ρ G (.slArr n size X lo hi) K=slAL G n size (X.ev ρ) (λk=>Rx ρ 0 lo k) (λd k=>Rx ρ d hi k) K:=by
 simp only[Qb,slAL,ln];cases X.ev ρ<;>try rfl
 all_goals (cases G[_]?<;>try rfl)
def zv5{K:List (LV×LV×Nat)→Nat→Nat→Prop}:atM (some (.map es ck st)) K=K es ck st:=(rfl)
def mapL_map:Z1 G (.map p) KE=atM G[p]? λes _ _=>KE es:=by
 simp only[Z1,atM];cases G[p]?<;>try rfl
def lookM_app:lookM d k z ok K1 es=zne d k (Zg z ok K1) es:=(rfl)
def zq5{j:Option LV→Prop}:zne d k j []=j none:=(rfl)
def zm0{j:Option LV→Prop}:zne d k j ((k',v,n)::es)=oi (Z4 d k k') (j (some v)) (zne d k j es):=(rfl)
def lookK_st:Zg z true K1 (some v)=K1 (.tup [v,.bool true]):=(rfl)
def lookK_nt:Zg z true K1 none=K1 (.tup [z,.bool false]):=(rfl)
def updL'_map:zqp G d (.map p) k v KH=atM G[p]? λes ck st=>Zf d k v ck (setK G p ck st KH) es:=by
 simp only[zqp,atM];cases G[p]?<;>try rfl
def putL_nil:Zf d k v ck KB []=KB [(k,v,ck)] true:=(rfl)
def zoa{w:LV}:Zf d k v ck KB ((k',w,n)::es)=oi (Z4 d k k') (KB ((k,v,n)::es) false) (Zf d k v ck (conM (k',w,n) KB) es):=(rfl)
def ztn{y:LV×LV×Nat}{b:Bool}:conM y KB es b=KB (y::es) b:=(rfl)
def setK_t:setK G p ck st KH es true=KH (G.set p (.map es (ck+1) (st+1))):=(rfl)
def zra{b:Bool}:oi (some b) A B=V9 b A B:=(rfl)
def ut{j:IntKind}{a b:Int}:Z4 (.int j) (.i a) (.i b)=some (decide (a=b)):=(rfl)
def zvl:slAL G n size (.ptr p j) lof hif K=ln G[p]? λl st=>j+n*size≤l.length∧lof λa=>hif n λb=>a≤b∧b≤n∧K (.lst ((l.drop (j+a*size)).take ((b-a)*size)) (b-a) size) (G.set p (.dead (st+1))):=(rfl)
@[congr] theorem atM_congr {o j:Option LObj} {K:List (LV×LV×Nat)→Nat→Nat→Prop} (h:o=j):atM o K=atM j K:=Gq
@[congr] theorem updL'_congr {j C:LV} (E:G=G') (F:m=C) (H:k=k') (L:v=j):zqp G d m k v KH=zqp G' d C k' j KH:=by rw[E,F,H,L]
@[congr] theorem keyB_congr {o j:Option Bool} (h:o=j):oi o A B=oi j A B:=Gq
end maps
attribute [simp] zv5 mapL_map lookM_app zq5 zm0 lookK_st lookK_nt updL'_map putL_nil zoa ztn setK_t zra ut zvl
attribute [simp ↓] OpL_mkMap0 OpL_lookup OpL_mapUpd OpL_slArr zv5 mapL_map lookM_app zq5 zm0 lookK_st lookK_nt updL'_map putL_nil zoa ztn setK_t zra ut zvl
end
end
section
noncomputable section
open Go.RowKit (Below)
mutual
inductive Sh where
 |bool
 |u
 |b
 |i
 |k (k:IntKind)
 |str
 |sl (s:Sh)
 |st (l:ShL)
inductive ShL where
 |nil
 |cons (s:Sh) (l:ShL)
end
mutual
def Sh.n:Sh→Nat
 |.st l=>l.n
 |_=>1
def ShL.n:ShL→Nat
 |.nil=>0
 |.cons s l=>s.n+l.n
end
mutual
def Sh.T:Sh→Type
 |.bool=>Bool
 |.u=>UInt64
 |.b=>UInt8
 |.i=>{ n:Int // Xc n }
 |.k _=>Int
 |.str=>{ l:List UInt8 // l.length≤maxLen }
 |.sl s=>{ l:List s.T // l.length≤maxLen }
 |.st l=>l.T
def ShL.T:ShL→Type
 |.nil=>Unit
 |.cons s l=>s.T×l.T
end
mutual
def Sh.enc:(s:Sh)→s.T→List LV
 |.bool,x=>[.bool x]
 |.u,x=>[.u x]
 |.b,x=>[.b x]
 |.i,x=>[.i x.1]
 |.k k,x=>[.int k x]
 |.str,x=>[.str x.1]
 |.sl s,x=>[.lst (x.1.flatMap s.enc) x.1.length s.n]
 |.st l,x=>l.enc x
def ShL.enc:(l:ShL)→l.T→List LV
 |.nil,_=>[]
 |.cons s l,x=>s.enc x.1++l.enc x.2
end
mutual
def Sh.enc_length:∀(s:Sh) (x:s.T),(s.enc x).length=s.n
 |.bool,_=>rfl
 |.u,_=>rfl
 |.b,_=>rfl
 |.i,_=>rfl
 |.k _,_=>rfl
 |.str,_=>rfl
 |.sl _,_=>rfl
 |.st l,x=>by simp only[Sh.enc,Sh.n];exact ShL.enc_length l x
def ShL.enc_length:∀(l:ShL) (x:l.T),(l.enc x).length=l.n
 |.nil,_=>rfl
 |.cons s l,x=>by simp only[ShL.enc,ShL.n,J9,Sh.enc_length s x.1,ShL.enc_length l x.2]
end
def qr(P:Program)(f:TypeId→Option Sh)(j:Nat):List Field→Nat→Option ShL
 |[],g=>if g=j then some .nil else none
 |fd::l,g=>match f fd.type with
  |none=>none
  |some s=>if fd.offset=g∧P.cellsOf fd.type=s.n then match qr P f j l (g+s.n) with
   |none=>none
   |some r=>some (.cons s r)
   else none
def Za:Nat→Sh→ShL
 |0,_=>.nil
 |n+1,s=>.cons s (Za n s)
def Yx(P:Program):Nat→TypeId→Option Sh
 |0,_=>none
 |d+1,t=>match P.underlying t with
  |some .bool=>some .bool
  |some (.int k)=>match k with
   |.u64=>some .u
   |.u8=>some .b
   |.i64=>some .i
   |k=>some (.k k)
  |some .string=>some .str
  |some (.slice e)=>match Yx P d e with
   |none=>none
   |some s=>if P.cellsOf e=s.n∧0<s.n then some (.sl s) else none
  |some (.struct g)=>match qr P (Yx P d) (P.cellsOf t) g.toList 0 with
   |none=>none
   |some l=>some (.st l)
  |some (.array n e)=>match Yx P d e with
   |none=>none
   |some s=>if P.cellsOf e=s.n∧P.cellsOf t=n*s.n then some (.st (Za n s)) else none
  |_=>none
def zzl(P:Program)(d:Nat):List TypeId→Option ShL
 |[]=>some .nil
 |t::l=>match Yx P d t with
  |none=>none
  |some s=>if P.cellsOf t=s.n then match zzl P d l with
   |none=>none
   |some r=>some (.cons s r)
   else none
def Rel.ro{W:World}{gD:CM}{H:Heap}(h:Rel W gD H W){L:Loc}(hL:L.b<W.heap.size){l:List AV}(gF:gD.le (gD.ext H.next 0 L)→Sl W.heap.size (gD.ext H.next 0 L) W H.next (.cells (T9 l 0 .e) l.length 0 true)) :
  Rel W (gD.ext H.next 0 L) (H.push (.cells (T9 l 0 .e) l.length 0 true)) W∧gD.le (gD.ext H.next 0 L):=by
 have hle:gD.le (gD.ext H.next 0 L):=CM.le_ext _ (h.next_none 0) (.inr (Ni h.nx));refine⟨⟨by show max gD.nx (H.next+1)=H.next+1;rw[h.nx];exact Nat.max_eq_right (Of _),h.low,?_,?_,?_,?_,?_⟩,hle⟩
 ·intro o v L' C;show o<H.next+1;by_cases e:o=H.next∧v=0
  ·omega
  ·rw[CM.ext_ne _ _ e]at C;have:=h.fresh _ _ _ C;omega
 ·intro o v L' C;by_cases e:o=H.next∧v=0
  ·obtain⟨rfl,rfl⟩:=e;rw[CM.ext_same]at C;cases C;exact hL
  ·rw[CM.ext_ne _ _ e]at C;exact h.lt _ _ _ C
 ·intro o v L1 o' v' L2 h1 h2 hb hB;by_cases e:o=H.next∧v=0
  ·obtain⟨rfl,rfl⟩:=e;rw[CM.ext_same]at h1;cases h1;omega
  ·by_cases e':o'=H.next∧v'=0
   ·obtain⟨rfl,rfl⟩:=e';rw[CM.ext_same]at h2;cases h2;omega
   ·rw[CM.ext_ne _ _ e]at h1;rw[CM.ext_ne _ _ e']at h2;exact h.excl _ _ _ _ _ _ h1 h2 hb hB
 ·intro o ob ho hg;by_cases e:o=H.next
  ·subst e;rw[Heap.get_push_same]at hg;cases hg;exact gF hle
  ·have gg:o<H.next:=Bv
   rw[Heap.get_push_ne _ _ gg]at hg;refine (h.obj _ _ gg hg).frame hle (λv L' C=>?_) (λ_ _ _=>rfl)
   rwa [CM.ext_ne _ _ J]at C
 ·intro o c len gG ro ho hg v L' C;by_cases e:o=H.next
  ·subst e;by_cases ev:v=0
   ·omega
   ·rw[CM.ext_ne _ _ J]at C;have:=h.fresh _ _ _ C;omega
  ·have gg:o<H.next:=Bv
   rw[Heap.get_push_ne _ _ gg]at hg;rw[CM.ext_ne _ _ J]at C;exact h.top _ _ _ _ _ gg hg _ _ C
def Wv(H:Heap):Cx:=⟨[],λo=>o<H.next,H⟩
def Vs(H g:Heap):Prop:=H.next≤g.next∧∀o,o<H.next→g.get o=H.get o
def Vs.refl(H:Heap):Vs H H:=⟨J8 _,λ_ _=>rfl⟩
def Vs.trans{A B C:Heap}(h:Vs A B)(k:Vs B C):Vs A C:=⟨K8 h.1 k.1,λo ho=>by rw[k.2 o (Kt ho h.1),h.2 o ho]⟩
def Vs.le{H H':Heap}(h:Vs H H'):CxLe (Wv H) (Wv H') :=
 ⟨λp k x e=>by simp[Wv]at e,λo ho=>⟨Kt ho h.1,h.2 o ho⟩⟩
section imp
variable {HH : Type} {enc : TypeId × Value → HH} {P : Program} {W : World}
def Got(W:World)(A:CM)(H:Heap)(z:List Value)(s:Nat)(T:Type)(e:T→List LV):Prop :=
 ∃g j as,∃y:T,A.le g∧Rel W g j W∧Vs H j∧VRs g as z∧(∀a∈as,a.one=true)∧ARs (Wv j) (e y) as∧as.length=s
def zbv{H:Heap}(g:Rel W O H W){v:Value}{T:Type}{e:T→List LV}(y:T)(a:AV)(l:LV)(he:e y=[l])(hv:VR O a v)(j:a.one=true)(z:AR (Wv H) l a):Got W O H [v] 1 T e :=
 ⟨O,H,[a],y,CM.le_refl O,g,.refl H,.cons hv .nil,By,by rw[he];exact .cons z .nil,rfl⟩
def zkx{j:List MemPlace}(z:W.noneFrozen j){b n:Nat}(h:∀x∈MemPlace.row ⟨b,g,none⟩ n,x∈j){i:Nat}(hi:i<n):W.frozen? ⟨b,g+i,none⟩=false :=
 z b (g+i) (h _ (N0.2 ⟨i,Mf.2 hi,rfl⟩))
def got_cells:∀(M:Nat) (d:Nat) (t:TypeId) (s:Sh) (cs:List Value) (x:DataW HH×List MemPlace) (U:CM) (H:Heap),Yx P d t=some s→DataW.trod enc P W 0 (λ_=>true) true M t cs=some x→W.noneFrozen x.2→Rel W U H W →
  Got W U H cs s.n s.T s.enc:=by
 intro M
 induction M with
 |zero=>intro d t s cs x U H _ h;simp[DataW.trod]at h
 |succ M ih =>
  intro d t s cs x U H z h hz C;cases d with
  |zero=>cases z
  |succ d =>
   simp only[Yx]at z;split at z
   ·rename_i hu;cases z;obtain⟨b,rfl,_⟩:=DataW.trod_bool hu h;exact zbv C (T:=Bool) b (.bool b) (.bool b) rfl (.bool b) rfl (.bool b)
   ·rename_i k hu;obtain⟨n,rfl,_,hw⟩:=DataW.trod_int hu h;split at z
    ·cases z;have hb:=bounds_u64 hw;refine zbv C (T:=UInt64) (UInt64.ofNat n.toNat) (.int .u64 n) (.u (UInt64.ofNat n.toNat)) rfl (.int _ _) rfl (.u' ?_);rw[Lh];simp only[Ku];omega
    ·cases z;have hb:=bounds_u8 hw;refine zbv C (T:=UInt8) (UInt8.ofNat n.toNat) (.int .u8 n) (.b (UInt8.ofNat n.toNat)) rfl (.int _ _) rfl (.b' ?_);rw[UInt8.toNat_ofNat'];simp only[Ku];omega
    ·cases z;have hb:=bounds_i64 hw;exact zbv C (T:={ n:Int // Xc n }) ⟨n,by unfold Xc;omega⟩ (.int .i64 n) (.i n) rfl (.int _ _) rfl (.i n)
    ·cases z;exact zbv C (T:=Int) n (.int k n) (.int k n) rfl (.int _ _) rfl (.int k n)
   ·rename_i hu;cases z;obtain⟨b,rfl,_,hm⟩:=DataW.trod_string hu h;exact zbv C (T:={ l:List UInt8 // l.length≤maxLen }) ⟨b.data.toList,Gw⟩ (.str b.data.toList.length (Ro b.data.toList)) (.str b.data.toList) rfl (.str rfl rfl) rfl (.str _)
   ·rename_i e hu;split at z
    ·cases z
    ·rename_i j gG;by_cases hc:P.cellsOf e=j.n∧0<j.n
     ·rw[J6 hc]at z;cases z;obtain⟨gH,O⟩:=hc;rcases DataW.trod_slice hu h with ⟨rfl,_⟩|⟨a,len,cap,G,gU,n,hn,rfl,hx,_,gV,jZ,gY,gD,gZ,_⟩
      ·exact zbv C (T:={ l:List j.T // l.length≤maxLen }) ⟨[],N⟩ .nilSl (.lst [] 0 j.n) rfl .nilSl rfl .lstNil
      ·cases hn;by_cases h0:len=0
       ·subst h0;exact zbv C (T:={ l:List j.T // l.length≤maxLen }) ⟨[],N⟩ .emp (.lst [] 0 j.n) rfl .emp rfl .lstEmp
       ·
        obtain⟨b,g,Q⟩:=a;have I:∀i,i<cap→∃D,W.cells? 0 ((⟨b,g,Q⟩:Addr).add (i*P.cellsOf e)) (P.cellsOf e)=some D:=by
         intro i hi;by_cases jH:i<len
         ·have:=gD i jH;rw[J7 J]at this;cases hq:W.cells? 0 ((⟨b,g,Q⟩:Addr).add (i*P.cellsOf e)) (P.cellsOf e) with
          |none=>rw[hq]at this;cases this
          |some D=>exact⟨D,rfl⟩
         ·obtain⟨j6,jI⟩:=gZ rfl;have:=jI (i-len) J;rw[show len+(i-len)=i from J,J7 J]at this;cases hq:W.cells? 0 ((⟨b,g,Q⟩:Addr).add (i*P.cellsOf e)) (P.cellsOf e) with
          |none=>rw[hq]at this;cases this
          |some D=>exact⟨D,rfl⟩
        have gI:Q=none:=by
         obtain⟨D,he⟩:=I 0 J;obtain⟨_,E,A⟩:=World.cells?_some he;have:=A 0 J;rw[J7 J]at this;simpa [Addr.add] using World.cell?_spot this
        subst gI;have R:∀i V,i<cap→V<j.n→∃v,W.cell? ⟨b,g+(i*j.n+V),none⟩=some v:=by
         intro i V hi hj;obtain⟨D,he⟩:=I i hi;obtain⟨_,E,A⟩:=World.cells?_some he;have:=A V J;rw[J7 J]at this;rw[gH]at this;rw[WideShapes.add_plain,WideShapes.add_plain]at this;rw[←L7];exact⟨_,this⟩
        obtain⟨v0,gF⟩:=R 0 0 J O;obtain⟨vs,ty,lo,hi,B⟩:∃vs ty lo hi,W.heap[b]?=some (.cells vs ty (lo,hi)):=by
         unfold World.cell? at gF;dsimp only at gF;split at gF
         ·rename_i vs ty fz B;exact⟨vs,ty,fz.1,fz.2,B⟩
         ·cases gF
        have jK:∀q,q<cap*j.n→∃v,vs[g+q]?=some v:=by
         intro q hq;obtain⟨v,hv⟩:=R (q/j.n) (q%j.n) (by rw[Nat.div_lt_iff_lt_mul O];exact hq) (L8 _ O);have:q/j.n*j.n+q%j.n=q:=by rw[M3];exact Nat.div_add_mod q j.n
         rw[this,zko B]at hv;exact⟨v,hv⟩
        have jg:g+cap*j.n≤vs.size:=by
         have jL:0<cap*j.n:=Nat.mul_pos J O;obtain⟨v,hv⟩:=jK (cap*j.n-1) J;have:=(Array.getElem?_eq_some_iff.1 hv).1;omega
        have jz:∀x',x'∈MemPlace.row ⟨b,g,none⟩ (cap*j.n)→x'∈x.2:=by
         intro x' gK;rw[hx];have:(G.length+gU.length)*P.cellsOf e=cap*j.n:=by rw[gY,(gZ rfl).1,gH];congr 1;omega
         rw[this];exact Nq _ gK
        have loop:∀m,m≤len→∃C' H' as,∃ys:List j.T,U.le C'∧Rel W C' H' W∧Vs H H'∧(∀a∈as,a.one=true)∧ARs (Wv H') (ys.flatMap j.enc) as∧ys.length=m∧as.length=m*j.n∧∀q,q<m*j.n→∃a v,as[q]?=some a∧vs[g+q]?=some v∧VR C' a v:=by
         intro m
         induction m with
         |zero=>intro _;exact⟨U,H,[],[],CM.le_refl U,C,.refl H,N,.nil,rfl,N,λq hq=>J⟩
         |succ m jM =>
          intro hm;obtain⟨C1,X,Y,jO,a1,a2,a3,a4,a5,a6,a7,a8⟩:=jM J;obtain⟨D,he⟩:=I m J;have jA:=gD m J;rw[he,J7 J]at jA;obtain⟨_,E,A⟩:=World.cells?_some he;have jP : W.noneFrozen (G[m]' J).2 := λb' F Z => hz b' F (by
           rw[hx];exact Ln _ (List.mem_flatMap.2 ⟨G[m]' J, N, Z⟩))
          obtain⟨C2,H2,gg,y,b1,b2,b3,b4,b5,b6,b7⟩:=ih d e j D _ C1 X gG jA jP a2;refine⟨C2,H2,Y++gg,jO++[y],CM.le_trans a1 b1,b2,a3.trans b3,?_,?_,by simp[a6],?_,?_⟩
          ·intro jE hz;rcases Kx.1 hz with h|h
           ·exact a4 jE h
           ·exact b5 jE h
          ·rw[List.flatMap_append];refine (a5.mono b3.le).append ?_;simpa using b6
          ·rw[J9,a7,b7,Ky,O5]
          ·intro q hq;by_cases jQ:q<m*j.n
           ·obtain⟨a,v,c1,c2,c3⟩:=a8 q jQ;exact⟨a,v,by rw[J4 J];exact c1,c2,c3.mono b1⟩
           ·have j7:q-m*j.n<j.n:=by rw[Ky,O5]at hq;omega
            obtain⟨a,v,c1,c2,c3⟩:=b4.get' (i:=q-m*j.n) J;refine⟨a,v,by rw[Kl J,a7];exact c1,?_,c3⟩;have:=A (q-m*j.n) J;rw[gH,WideShapes.add_plain,WideShapes.add_plain,zko B,c2]at this;rw[←this]
            congr 1
            omega
        obtain⟨C1,X,as,ys,a1,a2,a3,a4,a5,a6,a7,a8⟩:=loop len (J8 _);have jR:b<W.heap.size:=by
         have:=(Array.getElem?_eq_some_iff.1 B).1;exact this
        have j4:len*j.n≤cap*j.n:=Kq _ gV;have jT:∀q,g≤q→q<g+cap*j.n→¬(lo≤q∧q<hi):=by
         intro q h1 h2;have:=zkx hz (λx' gK=>jz x' gK) (i:=q-g) (n:=cap*j.n) J;rw[show g+(q-g)=q from J]at this;unfold World.frozen? at this;dsimp only at this;rw[B]at this;simp at this;omega
        obtain⟨c1,c2⟩:=a2.ro (L:=⟨b,g,len*j.n,g+cap*j.n⟩) jR (l:=as) (λjB L hL=>by
         rw[CM.ext_same]at hL;cases hL;refine⟨by rw[a7],λe=>Ar,by show g+as.length≤g+cap*j.n;omega,vs,ty,lo,hi,B,jg,jT,?_⟩;intro q hq;rw[get_ofList,J6 J];obtain⟨a,v,d1,d2,d3⟩:=a8 q J;exact⟨a,by simpa using d1,a4 a (Kj d1),v,d2,d3.mono jB⟩)
        have hg:Vs X (X.push (.cells (T9 as 0 .e) as.length 0 true)):=⟨Of _,λo ho=>Heap.get_push_ne _ _ ho⟩;refine⟨_,_,[.sl X.next 0 0 len j.n none],(⟨ys,J⟩:{ l:List j.T // l.length≤maxLen }),CM.le_trans a1 c2,c1,a3.trans hg,.cons ?_ .nil,by simp[AV.one],?_,rfl⟩
        ·exact VR.sl (L:=⟨b,g,len*j.n,g+cap*j.n⟩) (i:=0) (CM.ext_same _ _ _ _) Ba Ba gV (λr e=>Ar) (λ_=>rfl)
        ·show ARs _ [LV.lst (ys.flatMap j.enc) ys.length j.n] _;rw[a6];refine .cons (.lst (Lp X.next) (λr e=>Ar) ?_ ?_ (a5.mono hg.le)) .nil
         ·have:=a5.length;omega
         ·have hr:=Zj (H:=X.push (.cells (T9 as 0 .e) as.length 0 true)) (i:=0) (n:=len*j.n) (Heap.get_push_same _ _) (z70 as) (J8 _) J;rw[Mu,Kk J]at hr;exact hr
     ·rw[J1 hc]at z;cases z
   ·rename_i fs hu;split at z
    ·cases z
    ·rename_i l E;cases z;obtain⟨xs,n,hn,hx,gL,jC,jU⟩:=DataW.trod_struct hu h;cases hn;have gM:∀(fl:List Field) (V g:Nat) (l:ShL) (U:CM) (H:Heap),fs.toList.drop V=fl→qr P (Yx P d) (P.cellsOf t) fl g=some l→Rel W U H W→Got W U H (cs.drop g) l.n l.T l.enc:=by
      intro fl
      induction fl with
      |nil =>
       intro V g l U H hj E C;simp only[qr]at E;split at E
       ·rename_i he;cases E;refine⟨U,H,[],(():Unit),CM.le_refl U,C,.refl H,?_,N,.nil,rfl⟩;rw[he,←gL,List.drop_length];exact .nil
       ·cases E
      |cons fd fl jV =>
       intro V g l U H hj E C;simp only[qr]at E;split at E
       ·cases E
       ·rename_i s z;by_cases hc:fd.offset=g∧P.cellsOf fd.type=s.n
        ·rw[J6 hc]at E;split at E
         ·cases E
         ·rename_i r hr;cases E;have gO:V<fs.toList.length:=by
           rcases M5 V fs.toList.length with h|h
           ·exact h
           ·rw[List.drop_eq_nil_of_le h]at hj;cases hj
          have jX:fs[V]?=some fd:=by
           rw[Lt gO]at hj;injection hj with h1 h2
           rw[←h1];simp
          have K:=jU V fd jX;rw[hc.1,hc.2]at K;have gR:V<xs.length:=by rw[jC];simpa using gO
          rw[J7 gR]at K;obtain⟨C1,X,Y,y,a1,a2,a3,a4,a5,a6,a7⟩:=ih d fd.type s _ _ U H z K (λb' F Z=>hz b' F Iw) C;obtain⟨C2,H2,gg,ys,b1,b2,b3,b4,b5,b6,b7⟩:=jV (V+1) (g+s.n) r C1 X (by rw[Lt gO]at hj;injection hj) hr a2;refine⟨C2,H2,Y++gg,(y,ys),CM.le_trans a1 b1,b2,a3.trans b3,?_,?_,(a6.mono b3.le).append b6,by rw[J9,a7,b7];rfl⟩
          ·have:=(a4.mono b1).append b4
           rwa [←List.drop_drop,N9]at this
          ·intro jE hz;rcases Kx.1 hz with h|h
           ·exact a5 jE h
           ·exact b5 jE h
        ·rw[J1 hc]at E;cases E
     have:=gM fs.toList 0 0 l U H N E C;rw[Mu]at this;exact this
   ·rename_i n e hu;split at z
    ·cases z
    ·rename_i j gG;by_cases hc:P.cellsOf e=j.n∧P.cellsOf t=n*j.n
     case neg=>rw[J1 hc]at z;cases z
     rw[J6 hc]at z;cases z;obtain⟨xs,m,hm,hx,gL,jC,gD⟩:=DataW.trod_array hu h;cases hm;have gM:∀(k V:Nat) (U:CM) (H:Heap),V+k=n→Rel W U H W→Got W U H (cs.drop (V*j.n)) (Za k j).n (Za k j).T (Za k j).enc:=by
      intro k
      induction k with
      |zero =>
       intro V U H hj C;refine⟨U,H,[],(():Unit),CM.le_refl U,C,.refl H,?_,N,.nil,rfl⟩;rw[(J:V=n),←hc.2,←gL,List.drop_length];exact .nil
      |succ k jY =>
       intro V U H hj C;have K:=gD V J;rw[hc.1]at K;have gR:V<xs.length:=J
       rw[J7 gR]at K;obtain⟨C1,X,Y,y,a1,a2,a3,a4,a5,a6,a7⟩:=ih d e j _ _ U H gG K (λb' F Z=>hz b' F Iw) C;obtain⟨C2,H2,gg,ys,b1,b2,b3,b4,b5,b6,b7⟩:=jY (V+1) C1 X J a2;refine⟨C2,H2,Y++gg,(y,ys),CM.le_trans a1 b1,b2,a3.trans b3,?_,?_,(a6.mono b3.le).append b6,by rw[J9,a7,b7];rfl⟩
       ·have:=(a4.mono b1).append b4
        rwa [On,←List.drop_drop,N9]at this
       ·intro jE hz;rcases Kx.1 hz with h|h
        ·exact a5 jE h
        ·exact b5 jE h
     have:=gM n 0 U H J C;rw[M0,Mu]at this;exact this
   ·cases z
end imp
end
end
section
open Go.RowKit Go.ChangeShapes Go.WideShapes Go.ChangeAt
def Sh.arg:(s:Sh)→s.T→LV
 |.st l,x=>.agg (l.enc x)
 |.bool,x=>.bool x
 |.u,x=>.u x
 |.b,x=>.b x
 |.i,x=>.i x.1
 |.k kk,x=>.int kk x
 |.str,x=>.str x.1
 |.sl s,x=>.lst (x.1.flatMap s.enc) x.1.length s.n
def ShL.args:(l:ShL)→l.T→List LV
 |.nil,_=>[]
 |.cons s l,x=>s.arg x.1::l.args x.2
section law
variable {H : Type} {enc : TypeId × Value → H} {P : Program}
def zvo{W:World}{d F:Nat}:∀{O:List TypeId} {l:ShL} {z:List Value} {U:List (DataW H)} {Q:List MemPlace} {C:CM} {Hp:Heap},zzl P d O=some l→DataW.TrodAll enc P W 0 (λ_=>true) true O z U Q→W.noneFrozen Q →
  (∀(gG:Nat) (t:TypeId) (v:Value),O[gG]?=some t→z[gG]?=some v→Value.okWide P W .any F t v)→Rel W C Hp W→∃V X as,∃y:l.T,C.le V∧Rel W V X W∧Vs Hp X∧VRs V as z∧ARs (Wv X) (l.args y) as
 |[],l,z,U,Q,C,Hp,B,Y,_,_,Z=>by
  cases B;obtain⟨rfl,_,_⟩:=trodAll_nil Y;exact⟨C,Hp,[],(():Unit),CM.le_refl C,Z,.refl Hp,.nil,.nil⟩
 |t::O,l,z,U,Q,C,Hp,B,Y,hz,hv,Z=>by
  simp only[zzl]at B;split at B
  ·cases B
  ·rename_i s g;by_cases hc:P.cellsOf t=s.n
   ·rw[J6 hc]at B;split at B
    ·cases B
    ·rename_i r hr;cases B;obtain⟨v,vs,dd,gH,p,q,rfl,rfl,rfl,⟨G,hd⟩,E⟩:=trodAll_cons Y;obtain⟨C1,H1,I,y,a1,a2,a3,R,a5,T,a7⟩:=got_cells G d t s _ _ C Hp g hd (λb o hb=>hz b o (Nq _ hb)) Z;obtain⟨C2,H2,gg,ys,b1,b2,b3,b4,b5⟩:=zvo (C:=C1) (Hp:=H1) hr E (λb o hb=>hz b o (Ln _ hb)) (λgG t' v' K h2=>hv (gG+1) t' v' (by simpa using K) (by simpa using h2)) a2;have A:=hv 0 t v rfl rfl;have gD:∃a,VR C1 a v∧AR (Wv H1) (s.arg y) a:=by
      cases d with
      |zero=>cases g
      |succ d =>
       have j:∀{gI:LV},s.enc y=[gI]→s.arg y=gI→v.cells.toList=[v]→∃a,VR C1 a v∧AR (Wv H1) (s.arg y) a:=by
        intro gI e1 e2 e3;rw[e3]at R;rw[e1]at T;cases R with
        |cons K h2 =>
         cases T with
         |cons h3 h4=>exact⟨_,K,by rw[e2];exact h3⟩
       simp only[Yx]at g;split at g
       ·rename_i hu;cases g;obtain⟨b,rfl⟩:=okWide_bool hu A;exact j rfl rfl rfl
       ·rename_i k hu;obtain⟨n,rfl⟩:=okWide_int hu A;split at g<;>cases g<;>exact j rfl rfl rfl
       ·rename_i hu;cases g;obtain⟨b,rfl⟩:=okWide_string hu A;exact j rfl rfl rfl
       ·rename_i e hu;obtain⟨a,len,cap,rfl⟩:=okWide_slice hu A;split at g
        ·cases g
        ·rename_i L gF;by_cases D:P.cellsOf e=L.n∧0<L.n
         ·rw[J6 D]at g;cases g;exact j rfl rfl rfl
         ·rw[J1 D]at g;cases g
       ·rename_i fs hu;obtain⟨M,rfl,_⟩:=okWide_struct hu A;split at g
        ·cases g
        ·rename_i l hl;cases g;exact⟨.agg I,.agg R a5,.agg T⟩
       ·rename_i n e hu;obtain⟨M,rfl⟩:∃M,v=.agg M:=by
         simp only[Value.okWide,hu]at A;obtain⟨M,K,_⟩:=A;exact⟨M,K⟩
        split at g
        ·cases g
        ·rename_i L gF;by_cases D:P.cellsOf e=L.n∧P.cellsOf t=n*L.n
         ·rw[J6 D]at g;cases g;exact⟨.agg I,.agg R a5,.agg T⟩
         ·rw[J1 D]at g;cases g
       ·cases g
     obtain⟨a,o1,o2⟩:=gD;exact⟨C2,H2,a::gg,(y,ys),CM.le_trans a1 b1,b2,a3.trans b3,.cons (o1.mono b1) b4,.cons (o2.mono b3.le) b5⟩
   ·rw[J1 hc]at B;cases B
def walk_of{f d:Nat}{j:List TypeId}{l:ShL}(hm:P.follows .mixedOrders=true)(z:zzl P d j=some l)(h:∀y:l.T,Tw P (.fn f) (l.args y) [] λv _=>v=.bool true){W:World}{D:List (DataW H)}{C:List MemPlace}
  (E:DataW.TrodAll enc P W 0 (λ_=>true) true j vH.toList D C) (F:W.noneFrozen C) (hv:∀(Z:Nat) (t:TypeId) (v:Value),j[Z]?=some t→vH.toList[Z]?=some v→Value.okWide P W .any g t v) :
  Calls P f vH W λe A=>e=.returned (.bool true)∧Below W.heap.size W A:=by
 obtain⟨gg,G,as,y,_,I,_,K,B⟩:=zvo z E F hv (Rel.start W);obtain⟨m,v1,H',L,c',v,G',q2,q3,q4,M,O⟩:=(h y).2 (Wv G) (.fn f) as (HSim.empty (λo ho=>ho)) rfl B;subst O;cases M;intro Q;obtain⟨C',A,v',R,h1,T,U,V,X,Y⟩:=zdv hm (xa P) m W _ _ W (.fn f) as _ _ _ I K L Q;cases U;exact⟨.returned (.bool true),A,R,⟨rfl,T.low⟩,V,X,Y⟩
def zqc(F:laidOutB P=true){W G:World}(hb:Below W.heap.size W G){I:Nat→Bool}:∀{A:List TypeId} {C:List Value} {D:List (DataW H)} {B:List MemPlace},(∀t∈A,P.readableRec t=true∧t<P.types.size)→DataW.TrodAll enc P W 0 (λ_=>true) true A C D B →
  (∀x∈B,x.block<W.heap.size)→(∀x∈B,I x.block=true)→DataW.TrodAll enc P G 0 I true A C D B
 |[],[],[],_,_,h,_,_=>h
 |t::A,v::C,d::D,_,E,⟨p,q,K,L,e⟩,j,z=>by
  subst e;exact⟨p,q,WideElems.Trod_stays F (E t N).1 (E t N).2 K (λx g=>hb.same (j x (Nq _ g))) (λx g=>z x (Nq _ g)),
   zqc F hb (λM O=>E M Br) L (λx g=>j x (Ln _ g)) (λx g=>z x (Ln _ g)),rfl⟩
 |[],[],_::_,_,_,h,_,_=>h.elim
 |[],_::_,_,_,_,h,_,_=>h.elim
 |_::_,[],_,_,_,h,_,_=>h.elim
 |_::_,_::_,[],_,_,h,_,_=>h.elim
def wy{f:Func}{s:ChangeSpec}{C g D:Bool}{W:World}{args:Array Value}{I gs:List (DataW H)}{A:List MemPlace}(U:DataW.Whole enc P f.params.toList s.vars M W args.toList I gs A)(j:s.vars=[])
  (E:∀F:List (DataW H),F.length=f.params.toList.length→s.fn H F={ results:=[.lit (.bool true)],args:=F }) (hb:Below W.heap.size W K) (Z:laidOutB P=true) (hr:∀t∈f.params.toList,P.readableRec t=true∧t<P.types.size)
  (B:f.resultTypes=#[vY]) (z:P.underlying vY=some .bool):s.post enc P f M C g D W args (.bool true) K:=by
 have L:=U;obtain⟨p,q,V,X,rfl,gg,gD⟩:=U;rw[j]at X;obtain⟨rfl,rfl⟩:=trodVars_none X;have O:I.length=f.params.toList.length:=(trodAll_length V).2;have hs:=E I O;have G:s.fn H (I++[])={ results:=[.lit (.bool true)],args:=I }:=by rw[Ls];exact hs
 have Q:=L.lt;refine zw8 (pa:=p) (pv:=[]) L (λb Y hd=>?_) (λY R=>?_) (λY _=>?_) rfl hb ?_
 ·rw[G,B];exact trodAll_cons_mk (shut_bool z _) trodAll_mk0
 ·rw[G];exact zqc Z hb hr V (λx T=>Q x Ho) (λx T=>R x Ho)
 ·rw[G,j];rfl
 ·exact ok_one B rfl (okWide_bool_mk z _)
end law
end
section
def P9(G:Pd)(v d:LV):Prop:=match v with
 |.tup l=>∃r,d=.tup r∧bors G l r
 |v=>bor G v d
def Uy(P:Program)(f:Nat)(z:List LV)(E:LV):Prop :=
 sj P (.fn f)∧E.dat=true∧∀(B:Nat→Prop) (C:Heap) (g:List AV),(∀o,B o→o<C.next)→ARs ⟨[],B,C⟩ z g →
  ∃(m:Nat) (F:AV) (j:Nat→Prop) (A:Heap),U6 P (OL P) m (.fn f) g C=.ok F A∧C.next≤A.next∧(∀o,B o→j o)∧(∀o,j o→o<A.next∧(B o∨C.next≤o))∧(∀o,o<C.next→A.get o=C.get o)∧AR ⟨[],j,A⟩ E F
section calls
variable {P : Program}
def borR_ok{c:Cx}{G:Pd}(g:HSim c G)(v d:LV)(a:AV)(hb:P9 G v d)(h:AR c v a):AR ⟨[],λo=>c.Fz o∨Ru c G o,c.H⟩ d a:=by
 unfold P9 at hb;split at hb
 ·obtain⟨r,rfl,hb⟩:=hb;cases h with
  |tup h=>exact .tup (bors_ok g _ _ _ hb h)
 ·exact bor_ok g _ _ _ hb h
def Uy.mk{f:Nat}{args:List LV}{v0:LV}(hd:v0.dat=true)(h:Tw P (.fn f) args [] λv G=>P9 G v v0):Uy P f args v0:=by
 refine⟨h.1,hd,λFz H gg gF ha=>?_⟩;obtain⟨m,v1,H',q1,c1,v,G,rfl,q3,q4,q5,q6⟩:=h.2 ⟨[],Fz,H⟩ (.fn f) gg (.empty gF) rfl ha;have gD:∀o,¬Ru ⟨[],Fz,H⟩ [] o:=λo ⟨p,_,_,_,e,_⟩=>Cd
 refine⟨m,v1,_,c1.H,q1,q4.nx,λo ho=>.inl (q4.le.fz o ho).1,λo ho=>⟨ho.elim (q3.fz o) (q3.lt o),?_⟩,λo ho=>q4.frame o ho (gD o),borR_ok q3 v v0 v1 q6 q5⟩;rcases ho with ho|ho
 ·rcases q4.fznew o ho with h|h|h
  ·exact .inl h
  ·exact absurd h (gD o)
  ·exact .inr h
 ·rcases q4.new o ho with h|h
  ·exact absurd h (gD o)
  ·exact .inr h
def zrd{c:Cx}{G:Pd}(B:HSim c G){Fz':Nat→Prop}(R:c.H.next≤F.next)(U:∀o,c.Fz o→Fz' o)(M:∀o,Fz' o→o<F.next∧(c.Fz o∨c.H.next≤o))(K:∀o,o<c.H.next→F.get o=c.H.get o) :
  HSim ⟨c.hd,Fz',F⟩ G∧Step c G ⟨c.hd,Fz',F⟩ G:=by
 have E:CxLe c ⟨c.hd,Fz',F⟩:=⟨λp k h e=>⟨k,h,e,J8 _,λ_=>rfl,λ_=>rfl⟩,λo ho=>⟨U o ho,K o (B.fz o ho)⟩⟩;have g:∀o,Ru ⟨c.hd,Fz',F⟩ G o→Ru c G o:=λo ⟨p,j,k,h,A,z,H,I⟩=>⟨p,j,k,h,A,z,H,I⟩
 refine⟨⟨B.len,λo ho=>(M o ho).1,λo ho=>Kt (B.lt o (g o ho)) R,λo ho V=>?_,λp j k h A z=>?_,λp q j C k h X Y o A z H I O T Z e8=>B.excl p q j C k h X Y o A z H I O T Z e8⟩,?_⟩
 ·rcases (M o V).2 with h|h
  ·exact B.sep o (g o ho) h
  ·have:=B.lt o (g o ho);omega
 ·by_cases L:j.live=true
  ·exact (B.obj p j k h A z).mono E (λo ho=>K o (B.lt o ⟨p,j,k,h,A,L,z,ho⟩))
  ·cases j<;>first|exact absurd rfl L|trivial
 ·refine⟨E,R,λo ho _=>K o ho,λo ho=>.inl (g o ho),λo ho=>(M o ho).2.elim .inl (λh=>.inr (.inr h)),λp j C A z=>?_,λp j C k h o A z H I O T=>?_⟩
  ·rw[A]at z;cases z;exact J8 _
  ·rw[A]at z;cases z;have L:j.live=true:=by cases j<;>first|rfl|cases O
   exact⟨rfl,K o (B.lt o ⟨p,j,k,h,A,L,H,I⟩),rfl⟩
def Ux{f:Nat}{B:LV}{G:Pd}(hc:Uy P f E B)(hb:dats E=true)(k:Z B G):Tw P (.fn f) E G Z:=by
 obtain⟨I,hd,z⟩:=hc;refine⟨I,λc K g F A ha=>?_⟩;cases K with
 |yield o=>exact A.elim
 |fn Y =>
  obtain rfl:f=Y:=A;obtain⟨m,H,j,C,L,M,O,R,T,U⟩:=z c.Fz c.H g F.fz (ARs.dat (c:=c) (c':=⟨[],c.Fz,c.H⟩) (λo ho=>⟨ho,rfl⟩) E g hb ha);obtain⟨V,X⟩:=zrd F M O R T;exact⟨m,H,C,L,⟨c.hd,j,C⟩,B,G,rfl,V,X,AR.dat (c:=⟨[],j,C⟩) (c':=⟨c.hd,j,C⟩) (λo ho=>⟨ho,rfl⟩) B H hd U,k⟩
mutual
def LV.flat:LV→Bool
 |.bool _ |.u _ |.b _ |.i _ |.int _ _ |.str _ |.nilPtr |.nilSl |.nilMap |.nilFn |.nilIf=>true
 |.agg l=>flats l
 |.tup l=>flats l
 |_=>false
def flats:List LV→Bool
 |[]=>true
 |v::l=>v.flat&&flats l
end
mutual
def AR.flat{c c':Cx}(v:LV)(a:AV)(hd:v.flat=true)(h:AR c v a):AR c' v a:=by
 cases v with
 |agg l =>
  simp only[LV.flat]at hd;cases h with
  |agg h=>exact .agg (ARs.flat l _ hd h)
 |tup l =>
  simp only[LV.flat]at hd;cases h with
  |tup h=>exact .tup (ARs.flat l _ hd h)
 |_=>first|(simp only[LV.flat]at hd;cases hd;done)|(cases h;constructor)
termination_by SizeOf.sizeOf v
def ARs.flat{c c':Cx}(l:List LV)(r:List AV)(hd:flats l=true)(h:ARs c l r):ARs c' l r:=by
 cases l with
 |nil=>cases h;exact .nil
 |cons v l =>
  simp only[flats,J2]at hd;cases h with
  |cons e es=>exact .cons (AR.flat v _ hd.1 e) (ARs.flat l _ hd.2 es)
termination_by SizeOf.sizeOf l
end
def CallL_B{f:Nat}{j:LV}{G:Pd}(hc:Uy P f vV j)(hb:bors G E vV)(hv:j.flat=true)(k:Z j G):Tw P (.fn f) E G Z:=by
 obtain⟨I,hd,z⟩:=hc;refine⟨I,λc K g A B ha=>?_⟩;cases K with
 |yield o=>exact B.elim
 |fn V =>
  obtain rfl:f=V:=B;obtain⟨m,C,L,F,M,H,X,Y,O,R⟩:=z (λo=>c.Fz o∨Ru c G o) c.H g (λo ho=>ho.elim (A.fz o) (A.lt o)) (bors_ok A E vV g hb ha);obtain⟨T,U⟩:=zrd A (Fz':=c.Fz) H (λ_ h=>h) (λo ho=>⟨Kt (A.fz o ho) H,.inl ho⟩) O;exact⟨m,C,F,M,⟨c.hd,c.Fz,F⟩,j,G,rfl,T,U,AR.flat j C hv R,k⟩
end calls
def P4.lives{P:Program}{f:Nat}(ht:z7j P f=true∧zg6 P f=false)(hl:zr1 P f=true)(hr:zci P f):P4 P f [] (.bool true) []:=by
 refine⟨ht,rfl,λgD ob e=>Cd,λFz H j gg ha=>?_⟩;cases ha;refine⟨1,.bool true,[],H,?_,.empty gg,.bool true,J8 _,λ_ _=>rfl,λo ⟨p,_,_,_,e,_⟩=>Cd⟩;unfold U6;dsimp only;rw[OL_yes hl hr]
section cuts
variable {P : Program} {f n : Nat} {ro : Option Nat} {ρ : Pf} {D : List Nat} {G : Pd} {Q : R8}
def zvu{b c:LC}:Z5 P f n ro (.seq b c) Q=Z5 P f n ro b (Z5 P f n ro c Q):=by
 funext x ρ D G
 cases x<;>rfl
def zew{a b c:LC}:wp P f n ro (.seq a (.seq b c)) ρ D G Q=wp P f n ro (.seq (.seq a b) c) ρ D G Q:=by
 rw[wp_seq,wp_seq,wp_seq,zvu]
def ax{a b:LC}(E:Pf→List Nat→Pd→Prop)(B:∀A:Pf→List Nat→Pd→Prop,(∀(g:Pf) (j:List Nat) (z:Pd),E g j z→A g j z)→wp P f n ro a ρ D G (nxQ A Q))
  (C:∀(g:Pf) (j:List Nat) (z:Pd),E g j z→wp P f n ro b g j z Q):wp P f n ro (.seq a b) ρ D G Q:=by
 rw[wp_seq];exact B (λg j z=>wp P f n ro b g j z Q) C
end cuts
attribute [simp] P9 LV.flat flats
end

section
def Stk(b:Nat)(G:Pd)(v:LV)(esz n:Nat)(l:List LV):Prop :=
 (v=.nilSl∧n=0∧l=[])∨∃(p k:Nat) (g:List LV) (m st:Nat),b≤p∧G[p]?=some (.dyn g m esz k st)∧g.length=m*esz∧n≤m∧l=g.take (n*esz)∧((v=.dy p k∧n=m)∨v=.vw p k 0 n)
section stk
variable {b : Nat} {G G' : Pd} {v : LV} {esz n : Nat} {l x : List LV}
def Stk.length(h:Stk b G v esz n l):l.length=n*esz:=by
 rcases h with ⟨_,rfl,rfl⟩|⟨p,k,R,m,st,_,_,h2,h3,rfl,_⟩
 ·simp
 ·have:=Kq esz h3;rw[Mc];omega
def Stk.lenL(h:Stk b G v esz n l){K:Nat→Prop}(k:K n):lenL G v K:=by
 rcases h with ⟨rfl,rfl,_⟩|⟨p,gg,R,m,st,_,h1,_,_,_,⟨rfl,rfl⟩|rfl⟩
 ·exact k
 ·rw[lenL_dy,h1];exact⟨rfl,k⟩
 ·rw[lenL_vw,h1];exact⟨rfl,k⟩
def Stk.ix(h:Stk b G v esz n l){i:Int}(h0:0≤i)(hi:i<n){K:LV→Prop}
  (k:∀(p j:Nat) (R:List LV) (m st:Nat),b≤p→G[p]?=some (.dyn R m esz j st)→(∀gg,gg<n*esz→R[gg]?=l[gg]?)→n*esz≤R.length→K (.dptr p j (i.toNat*esz))):m7 G esz v i K:=by
 rcases h with ⟨rfl,rfl,rfl⟩|⟨p,j,R,m',st,h1,h2,h3,h4,rfl,⟨rfl,rfl⟩|rfl⟩
 ·omega
 ·rw[zxi,h2];exact⟨rfl,rfl,h0,hi,k _ _ _ _ _ h1 h2 (λgg hj=>by rw[Lu hj]) J⟩
 ·rw[au,h2];have:=Kq esz h4;refine⟨rfl,rfl,h0,hi,?_⟩;rw[Kw];exact k _ _ _ _ _ h1 h2 (λgg hj=>by rw[Lu hj]) J
def Rw(b:Nat)(G:Pd)(v:LV)(esz n:Nat)(l:List LV):Prop :=
 (v=.nilSl∧n=0∧l=[])∨∃(p k st:Nat),b≤p∧v=.dy p k∧G[p]?=some (.dyn l n esz k st)∧l.length=n*esz
def Rw.nil:Rw b G .nilSl esz 0 []:=.inl ⟨rfl,rfl,rfl⟩
def Rw.frame(h:Rw b G v esz n l)(hf:∀q,b≤q→G'[q]?=G[q]?):Rw b G' v esz n l:=by
 rcases h with h|⟨p,k,st,h1,h2,h3,h4⟩
 ·exact .inl h
 ·exact .inr ⟨p,k,st,h1,h2,by rw[hf p h1];exact h3,h4⟩
def Rw.set_lt(h:Rw b G v esz n l){q:Nat}{ob:LObj}(hq:q<b):Rw b (G.set q ob) v esz n l :=
 h.frame λr hr=>Jz J
def Rw.push_end(h:Rw b G v esz n l){ob:List LObj}:Rw b (G++ob) v esz n l:=by
 rcases h with h|⟨p,k,st,h1,h2,h3,h4⟩
 ·exact .inl h
 ·exact .inr ⟨p,k,st,h1,h2,by rw[J4 (Jy.1 h3).1];exact h3,h4⟩
def Rw.push(h:Rw b G v esz n l)(hz:0<esz)(hb:b≤G.length)(hn:n≤1000000000){m:Nat}(hx:x.length=m*esz){K:LV→Pd→Prop}
  (k:∀v' G',Rw b G' v' esz (n+m) (l++x)→(∀q,q<b→G'[q]?=G[q]?)→b≤G'.length→K v' G'):Rq G esz v m x K:=by
 rcases h with ⟨rfl,rfl,rfl⟩|⟨p,gg,st,h1,rfl,h2,h3⟩
 ·rw[appL_nil];refine k _ _ (.inr ⟨_,0,0,hb,rfl,?_,by simpa using hx⟩) (λq hq=>J4 J) Ab;rw[Kw];exact Kg
 ·have hp:p<G.length:=(Jy.1 h2).1;rw[appL_dy,h2];exact⟨rfl,⟨rfl,hz⟩,hn,k _ _ (.inr ⟨p,gg+1,st+1,h1,rfl,J3 hp,by rw[J9,h3,hx,Ky]⟩) (λq hq=>Jz J) (by rw[Mj];exact hb)⟩
def Rw.cells(h:Rw b G v esz n l):v.cells=some [v]:=by
 rcases h with ⟨rfl,_⟩|⟨_,_,_,_,rfl,_⟩<;>rfl
def Rw.bor(h:Rw b G v esz n l)(hd:dats l=true):Go.Sv.bor G v (.lst l n esz):=by
 rcases h with ⟨rfl,rfl,rfl⟩|⟨p,k,st,_,rfl,h2,_⟩
 ·exact .inr ⟨_,rfl⟩
 ·exact⟨_,_,_,_,rfl,h2,hd⟩
def Stk.cells(h:Stk b G v esz n l):v.cells=some [v]:=by
 rcases h with ⟨rfl,_⟩|⟨_,_,_,_,_,_,_,_,_,_,⟨rfl,_⟩|rfl⟩<;>rfl
end stk
end
def HSim.freeze'{c:Cx}{G:Pd}(hs:HSim c G){p k st:Nat}{x:AV}{ob:LObj}(hG:G[p]?=some ob)(hl:ob.live=true)(gH:ob.st<st)(hp:c.hd[p]?=some (k,x)) :
  HSim ⟨c.hd,λq=>c.Fz q∨Qf x=some q,c.H⟩ (G.set p (.dead st))∧Step c G ⟨c.hd,λq=>c.Fz q∨Qf x=some q,c.H⟩ (G.set p (.dead st)):=by
 have gI:p<G.length:=(Jy.1 hG).1;have hle:CxLe c ⟨c.hd,λq=>c.Fz q∨Qf x=some q,c.H⟩:=⟨λp k h e=>⟨k,h,e,J8 _,λ_=>rfl,λ_=>rfl⟩,λq hq=>⟨.inl hq,rfl⟩⟩;have gF:∀q,Qf x=some q→Ru c G q:=λq hq=>⟨p,ob,k,x,hG,hl,hp,hq⟩
 have hinv:∀{q:Nat} {gg:LObj},(G.set p (.dead st))[q]?=some gg→(q=p∧gg=.dead st)∨(q≠p∧G[q]?=some gg):=by
  intro q gg e;by_cases hq:q=p
  ·subst hq;rw[J3 gI]at e;cases e;exact .inl ⟨rfl,rfl⟩
  ·rw[Jz (Ne.symm hq)]at e;exact .inr ⟨hq,e⟩
 have gD:∀q,Ru ⟨c.hd,λq=>c.Fz q∨Qf x=some q,c.H⟩ (G.set p (.dead st)) q→Ru c G q∧Qf x≠some q:=by
  rintro q ⟨p1,gg,k1,h1,e1,e2,e3,e4⟩;rcases hinv e1 with ⟨_,rfl⟩|⟨gK,e1⟩
  ·cases e2
  ·exact⟨⟨p1,gg,k1,h1,e1,e2,e3,e4⟩,λhq=>gK (hs.excl p1 p gg ob k1 h1 k x q e1 hG e2 hl e3 hp e4 hq)⟩
 refine⟨⟨Fu,λq hq=>hq.elim (hs.fz q) (λe=>hs.lt q (gF q e)),λq hq=>hs.lt q (gD q hq).1,λq hq hf=>hf.elim (hs.sep q (gD q hq).1) (gD q hq).2,λq gg k1 h1 e1 e2=>?_,?_⟩,⟨hle,J8 _,λ_ _ _=>rfl,λq hq=>.inl (gD q hq).1,λq hq=>hq.elim .inl (λe=>.inr (.inl (gF q e))),λq gg gG e1 e2=>?_,λq gg gG k1 h1 o1 e1 e2 e3 e4 e5 e6=>?_⟩⟩
 ·rcases hinv e1 with ⟨_,rfl⟩|⟨_,e1⟩
  ·trivial
  ·by_cases gL:gg.live=true
   ·exact (hs.obj q gg k1 h1 e1 e2).mono hle (λ_ _=>rfl)
   ·cases gg<;>first|exact absurd rfl gL|trivial
 ·intro q r gg gG k1 h1 k2 h2 o1 e1 e2 e3 e4 e5 e6 e7 e8;rcases hinv e1 with ⟨_,rfl⟩|⟨_,e1⟩
  ·cases e3
  ·rcases hinv e2 with ⟨_,rfl⟩|⟨_,e2⟩
   ·cases e4
   ·exact hs.excl q r gg gG k1 h1 k2 h2 o1 e1 e2 e3 e4 e5 e6 e7 e8
 ·rcases hinv e2 with ⟨rfl,rfl⟩|⟨_,e2⟩
  ·rw[hG]at e1;cases e1;exact Oq gH
  ·rw[e1]at e2;cases e2;exact J8 _
 ·rcases hinv e2 with ⟨rfl,rfl⟩|⟨_,e2⟩
  ·rw[hG]at e1;cases e1;have:ob.st=st:=e6;omega
  ·rw[e1]at e2;cases e2;exact⟨rfl,rfl,rfl⟩
def ARs.parts{c:Cx}:∀{a b:List LV} {v:LV} {r:List AV},ARs c (a++v::b) r→∃ra x rb,r=ra++x::rb∧ARs c a ra∧AR c v x∧ARs c b rb
 |[],b,v,r,h=>by
  cases h with
  |cons e es=>exact⟨[],_,_,rfl,.nil,e,es⟩
 |w::a,b,v,r,h=>by
  cases h with
  |cons e es =>
   obtain⟨ra,x,rb,rfl,h1,h2,h3⟩:=ARs.parts (a:=a) es;exact⟨_::ra,x,rb,rfl,.cons e h1,h2,h3⟩
def ARs.join{c:Cx}:∀{a b:List LV} {v:LV} {ra rb:List AV} {x:AV},ARs c a ra→AR c v x→ARs c b rb→ARs c (a++v::b) (ra++x::rb)
 |[],_,_,_,_,_,h1,h2,h3=>by cases h1;exact .cons h2 h3
 |_::a,_,_,_,_,_,h1,h2,h3=>by
  cases h1 with
  |cons e es=>exact .cons e (ARs.join es h2 h3)
def ztm{P:Program}{t:LTgt}{a b:List LV}{p k len st:Nat}{l:List LV}(L:I[p]?=some (.dyn l len g k st))(h:Tw P t (a++.lst l len g::b) (I.set p (.dead (st+1))) Z) :
  Tw P t (a++.dy p k::b) I Z:=by
 refine⟨h.1,λc B C D E ha=>?_⟩;obtain⟨ra,x,rb,rfl,V,X,Y⟩:=ha.parts;cases X with
 | @dy _ _ k' M _ e hk F gg =>
  obtain⟨r0,G,j⟩:=D.obj p _ _ _ L e;have H:=F J;obtain⟨O,A⟩:=D.freeze' (st:=st+1) L rfl (Lp _) e;have hx:AR ⟨c.hd,λq=>c.Fz q∨Qf M=some q,c.H⟩ (.lst l len g) x:=by
   rw[H];rcases j with ⟨j,K⟩|⟨o,v,Q,t,R,l',j,K,r4,r5,T,r7,r8⟩
   ·subst K;have hl:l=[]:=Kn Ev;subst hl;rw[j];exact .lstNil
   ·have gD:l'.length=len*g:=by rw[←T.length];exact G
    have U:=Zj (i:=0) (n:=len*g) K r5 r4 J;rw[Mu,Kk J]at U;rw[j];exact .lst (.inr rfl) (λr e=>(r7 r e).2) G U (T.mono (j ▸ A.le))
  have z:TgtR ⟨c.hd,λq=>c.Fz q∨Qf M=some q,c.H⟩ t B:=by
   cases t<;>cases B<;>exact E
  obtain⟨m,v1,H',q1,c1,v,G1,q2,q3,q4,q5,q6⟩:=h.2 _ B _ O z (.join (V.mono A.le) hx (Y.mono A.le));exact⟨m,v1,H',q1,c1,v,G1,q2,q3,A.trans D O q4,q5,q6⟩
section
def HSim.sub{c:Cx}{G:Pd}(hs:HSim c G){p len esz ver st:Nat}{l l':List LV}(hG:G[p]?=some (.dyn l len esz ver st))(hl:∀r,ARs c l r→ARs c l' r) :
  HSim c (G.set p (.dyn l' len esz ver (st+1)))∧Step c G c (G.set p (.dyn l' len esz ver (st+1))):=by
 have gI:p<G.length:=(Jy.1 hG).1;have hle:CxLe c c:=⟨λp k h e=>⟨k,h,e,J8 _,λ_=>rfl,λ_=>rfl⟩,λq hq=>⟨hq,rfl⟩⟩;have hinv:∀{q:Nat} {gg:LObj},(G.set p (.dyn l' len esz ver (st+1)))[q]?=some gg→(q=p∧gg=.dyn l' len esz ver (st+1))∨(q≠p∧G[q]?=some gg):=by
  intro q gg e;by_cases hq:q=p
  ·subst hq;rw[J3 gI]at e;cases e;exact .inl ⟨rfl,rfl⟩
  ·rw[Jz (Ne.symm hq)]at e;exact .inr ⟨hq,e⟩
 have gD:∀{q:Nat} {gg:LObj},(G.set p (.dyn l' len esz ver (st+1)))[q]?=some gg→gg.live=true→∃gF,G[q]?=some gF∧gF.live=true:=by
  intro q gg e gK;rcases hinv e with ⟨rfl,rfl⟩|⟨_,e⟩
  ·exact⟨_,hG,rfl⟩
  ·exact⟨_,e,gK⟩
 have gG:∀q,Ru c (G.set p (.dyn l' len esz ver (st+1))) q→Ru c G q:=by
  rintro q ⟨p1,gg,k1,h1,e1,e2,e3,e4⟩;obtain⟨gF,f1,f2⟩:=gD e1 e2;exact⟨p1,gF,k1,h1,f1,f2,e3,e4⟩
 refine⟨⟨Fu,hs.fz,λq hq=>hs.lt q (gG q hq),λq hq=>hs.sep q (gG q hq),λq gg k1 h1 e1 e2=>?_,?_⟩,⟨hle,J8 _,λ_ _ _=>rfl,λq hq=>.inl (gG q hq),λq hq=>.inl hq,λq gg gF e1 e2=>?_,λq gg gF k1 h1 o1 e1 e2 e3 e4 e5 e6=>?_⟩⟩
 ·rcases hinv e1 with ⟨rfl,rfl⟩|⟨_,e1⟩
  ·obtain⟨a1,a2,a3⟩:=hs.obj q _ k1 h1 hG e2;rcases a3 with ⟨b1,b2⟩|⟨o,v,room,t,gH,lr,b1,b2,b3,b4,b5,b6,b7⟩
   ·have gL:l=[]:=Kn (by rw[a2,b2];simp);subst gL;have h9:=hl [] .nil;cases h9;exact⟨a1,a2,.inl ⟨b1,b2⟩⟩
   ·have h9:=hl _ b5;exact⟨a1,by rw[h9.length,←b5.length];exact a2,.inr ⟨o,v,room,t,gH,lr,b1,b2,b3,b4,h9,b6,b7⟩⟩
  ·exact hs.obj q gg k1 h1 e1 e2
 ·intro q r gg gF k1 h1 k2 h2 o1 e1 e2 e3 e4 e5 e6 e7 e8;obtain⟨gM,f1,f2⟩:=gD e1 e3;obtain⟨gO,f3,f4⟩:=gD e2 e4;exact hs.excl q r gM gO k1 h1 k2 h2 o1 f1 f3 f2 f4 e5 e6 e7 e8
 ·rcases hinv e2 with ⟨rfl,rfl⟩|⟨_,e2⟩
  ·rw[hG]at e1;cases e1;exact Of _
  ·rw[e1]at e2;cases e2;exact J8 _
 ·rcases hinv e2 with ⟨rfl,rfl⟩|⟨_,e2⟩
  ·rw[hG]at e1;cases e1;have:st=st+1:=e6;omega
  ·rw[e1]at e2;cases e2;exact⟨rfl,rfl,rfl⟩
section sub
variable {P : Program} {G : Pd} {p len esz ver st : Nat} {l l' : List LV}
def zll{t:LTgt}{args':List LV}(h:∀c r,ARs c E r→ARs c args' r)(k:Tw P t args' G Z):Tw P t E G Z :=
 ⟨k.1,λc j g z A ha=>k.2 c j g z A (h c _ ha)⟩
end sub
def nil_lst{c:Cx}{a:AV}(h:AR c .nilSl a):AR c (.lst [] 0 1) a:=by cases h;exact .lstNil
end

def HSim.froze{c:Cx}{G:Pd}(hs:HSim c G){p k len esz st:Nat}{l:List LV}(hg:G[p]?=some (.dyn l len esz k st)) :
  ∃c',HSim c' (G.set p (.dead (st+1)))∧Step c G c' (G.set p (.dead (st+1)))∧CxLe c c'∧c'.hd=c.hd∧c'.H=c.H∧(∀x,AR c (.dy p k) x→AR c' (.lst l len esz) x)∧∀x,AR c' (.dy p k) x→AR c' (.lst l len esz) x:=by
 have hp:p<c.hd.length:=by rw[hs.len];exact (Jy.1 hg).1
 obtain⟨⟨k1,hh⟩,e⟩:∃y,c.hd[p]?=some y:=⟨_,J7 hp⟩;obtain⟨r0,r1,r2⟩:=hs.obj p _ _ _ hg e;obtain⟨u1,u2⟩:=hs.freeze' (st:=st+1) hg rfl (Lp _) e;have key:AR ⟨c.hd,λq=>c.Fz q∨Qf hh=some q,c.H⟩ (.lst l len esz) hh:=by
  rcases r2 with ⟨r2,r3⟩|⟨o,v,room,t,gF,l',r2,r3,r4,r5,r6,r7,r8⟩
  ·subst r3;have hl:l=[]:=Kn Ec;subst hl;rw[r2];exact .lstNil
  ·have gG:l'.length=len*esz:=Du
   have hr:=Zj (i:=0) (n:=len*esz) r3 r5 r4 J;rw[Mu,Kk J]at hr;rw[r2];exact .lst (.inr rfl) (λr e=>(r7 r e).2) r1 hr (r6.mono (r2 ▸ u2.le))
 refine⟨_,u1,u2,u2.le,rfl,rfl,λx hx=>?_,λx hx=>?_⟩
 ·cases hx with
  | @dy _ _ k' h2 _ e2 hk gg gD =>
   rw[e]at e2;cases e2;rw[gg r0.symm];exact key
 ·cases hx with
  | @dy _ _ k' h2 _ e2 hk gg gD =>
   have e2:c.hd[p]?=some (k',h2):=e2;rw[e]at e2;cases e2;rw[gg r0.symm];exact key
def ARs.put{c:Cx}{v w:LV}(hle:CxLe c uQ)(h:∀x,AR c v x→AR uQ w x){a b:List LV}{r:List AV}(ha:ARs c (a++v::b) r):ARs uQ (a++w::b) r:=by
 obtain⟨ra,x,rb,rfl,h1,h2,h3⟩:=ha.parts;exact .join (h1.mono hle) (h x h2) (h3.mono hle)
section
def ztf{l:List LV}(h:∀v∈l,v.dat=true):dats l=true:=by
 induction l with
 |nil=>rfl
 |cons v l g=>rw[dats,h v (K2 ..),g λw hw=>h w (Kf _ hw)];rfl
def zhk{l:List LV}(h:dats l=true):∀v∈l,v.dat=true:=by
 induction l with
 |nil=>intro v hv;cases hv
 |cons w l g =>
  rw[dats,J2]at h;intro v hv;rcases Ka.1 hv with rfl|hv
  ·exact h.1
  ·exact g h.2 v hv
def zfp{l:List LV}(n:Nat)(h:dats l=true):dats (l.take n)=true:=ztf λv hv=>zhk h v (Oh hv)
def zx1{l:List LV}(n:Nat)(h:dats l=true):dats (l.drop n)=true:=ztf λv hv=>zhk h v (List.mem_of_mem_drop hv)
def zn{a b:List LV}(h:dats a=true)(k:dats b=true):dats (a++b)=true:=ztf λv hv=>(Kx.1 hv).elim (zhk h v) (zhk k v)
def zux{l r:List LV}{i:Nat}(h:dats l=true)(k:dats r=true):dats (Qj l i r)=true:=by
 unfold Qj;exact zn (zn (zfp _ h) k) (zx1 _ h)
def Ph{G x:Pd}{i:Nat}(h:i<G.length):(G++x)[i]?=G[i]?:=J4 h
def Ra(b:Nat)(G:Pd)(v:LV)(esz n:Nat)(l:List LV):Prop :=
 (v=.nilSl∧n=0∧l=[])∨∃(p k:Nat) (g:List LV) (m st:Nat),b≤p∧G[p]?=some (.dyn g m esz k st)∧g.length=m*esz∧n≤m∧l=g.take (n*esz)∧dats g=true∧((v=.dy p k∧n=m)∨v=.vw p k 0 n)
section std
variable {b : Nat} {G G' : Pd} {v : LV} {esz n : Nat} {l x : List LV}
def Ra.nil:Ra b G .nilSl esz 0 []:=.inl ⟨rfl,rfl,rfl⟩
def Ra.stk(h:Ra b G v esz n l):Stk b G v esz n l:=by
 rcases h with h|⟨p,k,R,m,st,h1,h2,h3,h4,h5,_,h6⟩
 ·exact .inl h
 ·exact .inr ⟨p,k,R,m,st,h1,h2,h3,h4,h5,h6⟩
def Ra.dy{p k st:Nat}(hb:b≤p)(hp:G[p]?=some (.dyn l n esz k st))(hl:l.length=n*esz)(hd:dats l=true):Ra b G (.dy p k) esz n l :=
 .inr ⟨p,k,l,n,st,hb,hp,hl,J8 _,by rw[Kk J],hd,.inl ⟨rfl,rfl⟩⟩
def Ra.frame(h:Ra b G v esz n l)(hf:∀q,b≤q→q<G.length→G'[q]?=G[q]?):Ra b G' v esz n l:=by
 rcases h with h|⟨p,k,R,m,st,h1,h2,h3⟩
 ·exact .inl h
 ·exact .inr ⟨p,k,R,m,st,h1,by rw[hf p h1 (Jy.1 h2).1];exact h2,h3⟩
def Ra.set_lt(h:Ra b G v esz n l){q:Nat}{ob:LObj}(hq:q<b):Ra b (G.set q ob) v esz n l :=
 h.frame λr hr _=>Jz J
def Ra.push_end(h:Ra b G v esz n l){ob:List LObj}:Ra b (G++ob) v esz n l :=
 h.frame λ_ _ hr=>J4 hr
def Ra.push(h:Ra b G v esz n l)(hz:0<esz)(hb:b≤G.length)(hn:n≤1000000000)(hx:x.length=esz)(gg:dats x=true){K:LV→Pd→Prop}
  (k:∀(v':LV) (G':Pd),Ra b G' v' esz (n+1) (l++x)→(∀q,q<b→G'[q]?=G[q]?)→G.length≤G'.length→(∀(q:Nat) (ob:LObj),(∀R m k st,ob≠LObj.dyn R m esz k st)→G[q]?=some ob→G'[q]?=some ob)→K v' G'):Rq G esz v 1 x K:=by
 have gF:=h.stk.length;have fresh:∀l',l'=l++x→dats l'=true→K (.dy G.length 0) (G++[.dyn l' (n+1) esz 0 0]):=by
  rintro l' rfl hd;refine k _ _ (.dy hb (st:=0) Kg (by rw[J9,gF,hx,Ky];omega) hd) (λq hq=>J4 J) N (λq ob _ e=>Fx)
 rcases h with ⟨rfl,rfl,rfl⟩|⟨p,gG,R,m,st,h0,h1,h2,h3,rfl,hd,⟨rfl,rfl⟩|rfl⟩
 ·rw[appL_nil];exact fresh _ rfl gg
 ·have hp:p<G.length:=(Jy.1 h1).1;rw[Kk J]at k;rw[appL_dy,h1];refine⟨rfl,⟨rfl,hz⟩,hn,k _ _ (.dy h0 (J3 hp) Dv (zn hd gg)) (λq hq=>Jz J) N (λq ob ho e=>?_)⟩;rw[Jz (λq'=>Ca)];exact e
 ·have hp:p<G.length:=(Jy.1 h1).1;have hm:=Kq esz h3;have ha:(n+1)*esz=n*esz+esz:=by rw[Ky];omega
  rw[appL_vw,h1];refine⟨rfl,⟨rfl,rfl,J⟩,hn,?_⟩;by_cases hf:(n+1)*esz≤R.length
  ·rw[J6 hf];have gD:n+1≤m:=by
    rw[h2]at hf;exact Ov hf hz
   refine⟨k _ _ (.inr ⟨p,gG,_,m,_,h0,J3 hp,?_,gD,?_,zux hd gg,.inr rfl⟩) (λq hq=>Jz J) N (λq ob ho e=>?_),fresh _ rfl (zn (zfp _ hd) gg)⟩
   ·unfold Qj;simp;omega
   ·unfold Qj;have e1:(R.take (n*esz)++x).length=(n+1)*esz:=by rw[J9,gF,hx,ha]
    rw[M9 e1]
   ·rw[Jz (λq'=>Ca)];exact e
  ·rw[J1 hf];have gD:n=m:=by
    rw[h2]at hf;have:¬n+1≤m:=λq=>hf (Kq _ q)
    omega
   subst gD;have ht:R.take (n*esz)=R:=Kk J;rw[ht]at k fresh;refine⟨rfl,hz,k _ _ (.dy h0 (J3 hp) Dv (zn hd gg)) (λq hq=>Jz J) N (λq ob ho e=>?_),fresh _ rfl (zn hd gg)⟩;rw[Jz (λq'=>Ca)];exact e
def Ra.cut(h:Ra b G v esz n l){m:Nat}(hm:m≤n){lo:(Nat→Prop)→Prop}{hi:Nat→(Nat→Prop)→Prop}(gg:∀K':Nat→Prop,K' 0→lo K')(gD:∀(d:Nat) (K':Nat→Prop),K' m→hi d K'){K:LV→Prop}
  (k:∀v',Ra b G v' esz m (l.take (m*esz))→K v'):zq G esz v lo hi K:=by
 rcases h with ⟨rfl,rfl,rfl⟩|⟨p,gF,R,m',st,h0,h1,h2,h3,rfl,hd,⟨rfl,rfl⟩|rfl⟩
 ·have:m=0:=J
  subst this;rw[slL_nil];exact gg _ (gD _ _ ⟨rfl,rfl,k _ (.inl ⟨rfl,rfl,N⟩)⟩)
 ·rw[slL_dy,h1];refine⟨rfl,rfl,gg _ (gD _ _ ⟨J,hm,k _ (.inr ⟨p,gF,R,n,st,h0,h1,h2,hm,?_,hd,.inr rfl⟩)⟩)⟩;rw[Oy,Mh (Kq _ hm)]
 ·rw[slL_vw,h1];refine⟨rfl,rfl,gg _ (gD _ _ ⟨J,hm,k _ (.inr ⟨p,gF,R,m',st,h0,h1,h2,J,?_,hd,.inr rfl⟩)⟩)⟩;rw[Oy,Mh (Kq _ hm)]
def Ra.bor(h:Ra b G v esz n l):Go.Sv.bor G v (.lst l n esz):=by
 rcases h with ⟨rfl,rfl,rfl⟩|⟨p,k,R,m,st,h1,h2,h3,h4,rfl,hd,⟨rfl,rfl⟩|rfl⟩
 ·exact .inr ⟨_,rfl⟩
 ·exact⟨R,_,_,_,by rw[Kk J],h2,hd⟩
 ·have:=Kq esz h4;exact⟨R,_,_,_,by rw[M0,Mu],h2,J,hd⟩
def Ra.lenL(h:Ra b G v esz n l){K:Nat→Prop}(k:K n):Go.Sv.lenL G v K:=h.stk.lenL k
def Ra.cells(h:Ra b G v esz n l):v.cells=some [v]:=h.stk.cells
def Ra.at1(h:Ra b G v 1 n l){i:Int}(h0:0≤i)(hi:i<n){K:LV→Prop}(k:∀a,(∀K':LV→Prop,Rp l i.toNat K'→du G a K')→K a):m7 G 1 v i K:=by
 refine h.stk.ix h0 hi λp gg R m st h1 h2 h3 h4=>k _ λK' hk=>?_
 rw[read1_dptr,h2];obtain⟨w,hw,hk⟩:=hk;refine⟨rfl,w,?_,hk⟩;rw[Oe]at h3 ⊢;rw[h3 _ J];exact hw
def ku:LV→Option Nat
 |.dy p _=>some p
 |.vw p _ _ _=>some p
 |_=>none
def Ra.frame2(h:Ra b G v esz n l)(hf:∀q,ku v=some q→G'[q]?=G[q]?):Ra b G' v esz n l:=by
 rcases h with h|⟨p,k,R,m,st,h1,h2,h3,h4,h5,h6,h7⟩
 ·exact .inl h
 ·refine .inr ⟨p,k,R,m,st,h1,?_,h3,h4,h5,h6,h7⟩;rw[hf p (by rcases h7 with ⟨rfl,_⟩|rfl<;>rfl)];exact h2
def Ra.row(h:Ra b G v esz n l){q:Nat}(hq:ku v=some q):b≤q∧q<G.length∧∃R m k st,G[q]?=some (.dyn R m esz k st):=by
 rcases h with ⟨rfl,_⟩|⟨p,k,R,m,st,h1,h2,h3,h4,h5,h6,⟨rfl,_⟩|rfl⟩
 ·cases hq
 ·cases hq;exact⟨h1,(Jy.1 h2).1,_,_,_,_,h2⟩
 ·cases hq;exact⟨h1,(Jy.1 h2).1,_,_,_,_,h2⟩
def Ra.cut2(h:Ra b G v esz n l){m:Nat}(hm:m≤n){lo:(Nat→Prop)→Prop}{hi:Nat→(Nat→Prop)→Prop}(gg:∀K':Nat→Prop,K' 0→lo K')(gD:∀(d:Nat) (K':Nat→Prop),K' m→hi d K'){K:LV→Prop}
  (k:∀v',Ra b G v' esz m (l.take (m*esz))→ku v'=ku v→K v'):zq G esz v lo hi K:=by
 rcases h with ⟨rfl,rfl,rfl⟩|⟨p,gF,R,m',st,h0,h1,h2,h3,rfl,hd,⟨rfl,rfl⟩|rfl⟩
 ·have:m=0:=J
  subst this;rw[slL_nil];exact gg _ (gD _ _ ⟨rfl,rfl,k _ (.inl ⟨rfl,rfl,N⟩) rfl⟩)
 ·rw[slL_dy,h1];refine⟨rfl,rfl,gg _ (gD _ _ ⟨J,hm,k _ (.inr ⟨p,gF,R,n,st,h0,h1,h2,hm,?_,hd,.inr rfl⟩) rfl⟩)⟩;rw[Oy,Mh (Kq _ hm)]
 ·rw[slL_vw,h1];refine⟨rfl,rfl,gg _ (gD _ _ ⟨J,hm,k _ (.inr ⟨p,gF,R,m',st,h0,h1,h2,J,?_,hd,.inr rfl⟩) rfl⟩)⟩;rw[Oy,Mh (Kq _ hm)]
def Ra.push2(h:Ra b G v esz n l)(hz:0<esz)(hb:b≤G.length)(hn:n≤1000000000)(hx:x.length=esz)(gg:dats x=true){K:LV→Pd→Prop}
  (k:∀(v':LV) (G':Pd),Ra b G' v' esz (n+1) (l++x)→(∀q,q<G.length→ku v≠some q→G'[q]?=G[q]?)→G.length≤G'.length→(ku v'=ku v∨ku v'=some G.length)→K v' G'):Rq G esz v 1 x K:=by
 have gF:=h.stk.length;have fresh:∀l',l'=l++x→dats l'=true→K (.dy G.length 0) (G++[.dyn l' (n+1) esz 0 0]):=by
  rintro l' rfl hd;refine k _ _ (.dy hb (st:=0) Kg (by rw[J9,gF,hx,Ky];omega) hd) (λq hq _=>J4 hq) N (.inr rfl)
 rcases h with ⟨rfl,rfl,rfl⟩|⟨p,gG,R,m,st,h0,h1,h2,h3,rfl,hd,⟨rfl,rfl⟩|rfl⟩
 ·rw[appL_nil];exact fresh _ rfl gg
 ·have hp:p<G.length:=(Jy.1 h1).1;rw[Kk J]at k;rw[appL_dy,h1];refine⟨rfl,⟨rfl,hz⟩,hn,k _ _ (.dy h0 (J3 hp) Dv (zn hd gg)) (λq _ hq=>Jz (λe=>hq (by rw[←e];rfl))) N (.inl rfl)⟩
 ·have hp:p<G.length:=(Jy.1 h1).1;have hm:=Kq esz h3;have ha:(n+1)*esz=n*esz+esz:=by rw[Ky];omega
  rw[appL_vw,h1];refine⟨rfl,⟨rfl,rfl,J⟩,hn,?_⟩;by_cases hf:(n+1)*esz≤R.length
  ·rw[J6 hf];have gD:n+1≤m:=by
    rw[h2]at hf;exact Ov hf hz
   refine⟨k _ _ (.inr ⟨p,gG,_,m,_,h0,J3 hp,?_,gD,?_,zux hd gg,.inr rfl⟩) (λq _ hq=>Jz (λe=>hq (by rw[←e];rfl))) N (.inl rfl),fresh _ rfl (zn (zfp _ hd) gg)⟩
   ·unfold Qj;simp;omega
   ·unfold Qj;have e1:(R.take (n*esz)++x).length=(n+1)*esz:=by rw[J9,gF,hx,ha]
    rw[M9 e1]
  ·rw[J1 hf];have gD:n=m:=by
    rw[h2]at hf;have:¬n+1≤m:=λq=>hf (Kq _ q)
    omega
   subst gD;have ht:R.take (n*esz)=R:=Kk J;rw[ht]at k fresh;refine⟨rfl,hz,k _ _ (.dy h0 (J3 hp) Dv (zn hd gg)) (λq _ hq=>Jz (λe=>hq (by rw[←e];rfl))) N (.inl rfl),fresh _ rfl (zn hd gg)⟩
end std
end
section
section deep
variable {P : Program}
def Uy.mkS{f:Nat}{args:List LV}{v0:LV}(hd:v0.dat=true)(h:Tw P (.fn f) args [] λv G=>∀(c:Cx) (a:AV),HSim c G→AR c v a→AR ⟨[],λo=>c.Fz o∨Ru c G o,c.H⟩ v0 a):Uy P f args v0:=by
 refine⟨h.1,hd,λFz H gg gF ha=>?_⟩;obtain⟨m,v1,H',q1,c1,v,G,rfl,q3,q4,q5,q6⟩:=h.2 ⟨[],Fz,H⟩ (.fn f) gg (.empty gF) rfl ha;have gD:∀o,¬Ru ⟨[],Fz,H⟩ [] o:=λo ⟨p,_,_,_,e,_⟩=>Cd
 refine⟨m,v1,_,c1.H,q1,q4.nx,λo ho=>.inl (q4.le.fz o ho).1,λo ho=>⟨ho.elim (q3.fz o) (q3.lt o),?_⟩,λo ho=>q4.frame o ho (gD o),q6 c1 v1 q3 q5⟩;rcases ho with ho|ho
 ·rcases q4.fznew o ho with h|h|h
  ·exact .inl h
  ·exact absurd h (gD o)
  ·exact .inr h
 ·rcases q4.new o ho with h|h
  ·exact absurd h (gD o)
  ·exact .inr h
def row_ok{c:Cx}(D:HSim c I){p k len st:Nat}{l r:List LV}{a:AV}(E:I[p]?=some (.dyn l len g k st))(hb:bors I l r)(h:AR c (.dy p k) a):AR ⟨[],λo=>c.Fz o∨Ru c I o,c.H⟩ (.lst r len g) a:=by
 cases h with
 | @dy _ _ T U _ e hk ha _ =>
  obtain⟨V,F,z⟩:=D.obj p _ _ _ E e;have A:=ha J;rcases z with ⟨z,B⟩|⟨o,v,G,t,H,K,z,B,O,Q,L,r7,X⟩
  ·subst B;have R:l=[]:=Kn (by simpa using F);subst R;simp only[bors]at hb;subst hb;rw[A,z];exact .lstNil
  ·have C:K.length=len*g:=by rw[←L.length];exact F
   have M:=Zj (i:=0) (n:=len*g) B Q O J;rw[Mu,Kk J]at M;rw[A,z];have j:=bors_ok D l r K hb L;refine .lst (.inr ⟨p,_,_,_,E,rfl,e,by rw[z];rfl⟩) (λr e=>(r7 r e).2) (by rw[j.length,C]) M j
def tup3_ok{c:Cx}(z:HSim c I){p k len st:Nat}{l r:List LV}{v d:LV}{x:LV}{a:AV}(A:I[p]?=some (.dyn l len g k st))(hb:bors I l r)(hv:bor I v d)(B:bor I x x)(h:AR c (.tup [.dy p k,v,x]) a):AR ⟨[],λo=>c.Fz o∨Ru c I o,c.H⟩ (.tup [.lst r len g,d,x]) a:=by
 cases h with
 |tup h=>cases h with
  |cons e j=>cases j with
   |cons C j=>cases j with
    |cons D j =>
     cases j;exact .tup (.cons (row_ok z A hb e) (.cons (bor_ok z v d _ hv C) (.cons (bor_ok z x x _ B D) .nil)))
end deep
end
section
def R5(b:Nat)(G:Pd)(v:LV)(esz n:Nat)(l:List LV):Prop :=
 dats l=true∧l.length=n*esz∧((v=.nilSl∧n=0∧l=[])∨∃(p k st:Nat),b≤p∧v=.dy p k∧G[p]?=some (.dyn l n esz k st))
section dys
variable {b : Nat} {G G' : Pd} {v : LV} {esz n : Nat} {l x : List LV}
def R5.nil:R5 b G .nilSl esz 0 []:=⟨rfl,N,.inl ⟨rfl,rfl,rfl⟩⟩
def R5.frame(h:R5 b G v esz n l)(hf:∀q,b≤q→q<G.length→G'[q]?=G[q]?):R5 b G' v esz n l:=by
 obtain⟨h1,h2,h|⟨p,k,st,a,e,c⟩⟩:=h
 ·exact⟨h1,h2,.inl h⟩
 ·exact⟨h1,h2,.inr ⟨p,k,st,a,e,by rw[hf p a (Jy.1 c).1];exact c⟩⟩
def R5.set_lt(h:R5 b G v esz n l){q:Nat}{ob:LObj}(hq:q<b):R5 b (G.set q ob) v esz n l :=
 h.frame λr hr _=>Jz J
def R5.push_end(h:R5 b G v esz n l){ob:List LObj}:R5 b (G++ob) v esz n l :=
 h.frame λ_ _ hr=>J4 hr
def R5.cells(h:R5 b G v esz n l):v.cells=some [v]:=by
 obtain⟨_,_,⟨rfl,_⟩|⟨p,k,st,_,rfl,_⟩⟩:=h<;>rfl
def R5.push{c:Nat}(h:R5 b G v esz n l)(hz:0<esz)(hb:b≤G.length)(hn:n≤1000000000)(hx:x.length=c*esz)(gg:dats x=true){K:LV→Pd→Prop}
  (k:∀(v':LV) (G':Pd),R5 b G' v' esz (n+c) (l++x)→(∀q,q<b→G'[q]?=G[q]?)→G.length≤G'.length→K v' G'):Rq G esz v c x K:=by
 obtain⟨h1,h2,h⟩:=h;have hl:(l++x).length=(n+c)*esz:=by rw[J9,h2,hx,Ky]
 rcases h with ⟨rfl,rfl,rfl⟩|⟨p,gD,st,a,rfl,e⟩
 ·rw[appL_nil];refine k _ _ ⟨by simpa using gg,hl,.inr ⟨G.length,0,0,hb,rfl,?_⟩⟩ (λq hq=>J4 J) N;rw[Kg];simp
 ·have hp:=(Jy.1 e).1;rw[appL_dy,e];exact⟨rfl,⟨rfl,hz⟩,hn,k _ _ ⟨dats_app h1 gg,hl,.inr ⟨p,gD+1,st+1,a,rfl,J3 hp⟩⟩ (λq hq=>Jz J) N⟩
def R5.bor(h:R5 b G v esz n l):Go.Sv.bor G v (.lst l n esz):=by
 obtain⟨h1,h2,⟨rfl,rfl,rfl⟩|⟨p,k,st,a,rfl,e⟩⟩:=h
 ·exact .inr ⟨_,rfl⟩
 ·exact⟨l,n,esz,st,rfl,e,h1⟩
end dys
end
section
section dys
variable {b : Nat} {G G' : Pd} {v : LV} {esz n : Nat} {l x : List LV}
def R5.push2{c:Nat}(h:R5 b G v esz n l)(hz:0<esz)(hb:b≤G.length)(hn:n≤1000000000)(hx:x.length=c*esz)(j:dats x=true){K:LV→Pd→Prop}
  (k:∀(v':LV) (G':Pd),R5 b G' v' esz (n+c) (l++x)→(∀q,q<G.length→(∀gD,v≠.dy q gD)→G'[q]?=G[q]?)→G.length≤G'.length→(∀q gD,v'=.dy q gD→q=G.length∨∃j',v=.dy q j')→(∀q gD,v'=.dy q gD→q<G'.length)→K v' G'):Rq G esz v c x K:=by
 obtain⟨h1,h2,h⟩:=h;have hl:(l++x).length=(n+c)*esz:=by rw[J9,h2,hx,Ky]
 rcases h with ⟨rfl,rfl,rfl⟩|⟨p,gg,st,a,rfl,e⟩
 ·rw[appL_nil];refine k _ _ ⟨By,hl,.inr ⟨G.length,0,0,hb,rfl,?_⟩⟩ (λq hq _=>J4 J) N (λq gD e=>by cases e;exact .inl rfl) (λq gD e=>by cases e;simp);rw[Kg];simp
 ·have hp:=(Jy.1 e).1;rw[appL_dy,e];exact⟨rfl,⟨rfl,hz⟩,hn,k _ _ ⟨dats_app h1 j,hl,.inr ⟨p,gg+1,st+1,a,rfl,J3 hp⟩⟩ (λq hq hv=>Jz (λq'=>hv gg (by rw[q']))) N (λq gD e=>by cases e;exact .inr ⟨_,rfl⟩) (λq gD e=>by cases e;simpa using hp)⟩
def R5.keep(h:R5 b G v esz n l)(hf:∀q j,v=.dy q j→G'[q]?=G[q]?):R5 b G' v esz n l:=by
 obtain⟨h1,h2,h|⟨p,k,st,a,e,c⟩⟩:=h
 ·exact⟨h1,h2,.inl h⟩
 ·exact⟨h1,h2,.inr ⟨p,k,st,a,e,by rw[hf p k e];exact c⟩⟩
def R5.lt(h:R5 b G v esz n l){q:Nat}(e:v=.dy q j):b≤q∧q<G.length:=by
 obtain⟨_,_,⟨h,_⟩|⟨p,k,st,a,e2,c⟩⟩:=h
 ·rw[h]at e;cases e
 ·rw[e2]at e;cases e;exact⟨a,(Jy.1 c).1⟩
end dys
end
section
def Zs:Nat→LC→LC×LC
 |0,.seq a b=>(a,b)
 |n+1,.seq a b=>(.seq a (Zs n b).1,(Zs n b).2)
 |_,s=>(s,.skip)
def ur:Nat→LC→Bool
 |0,.seq _ _=>true
 |n+1,.seq _ b=>ur n b
 |_,_=>false
section Zs
variable {P : Program} {f n : Nat} {ro : Option Nat}
def zy2{D:R8}{Φ:Pf→List Nat→Pd→Prop}:∀(k:Nat) (s:LC) {A:Pf} {B:List Nat} {C:Pd},ur k s=true →
  (E:∀F:Pf→List Nat→Pd→Prop,(∀(g:Pf) (j:List Nat) (z:Pd),Φ g j z→F g j z)→wp P f n ro (Zs k s).1 A B C (nxQ F D)) →
  (G:∀(g:Pf) (j:List Nat) (z:Pd),Φ g j z→W P f n (Zs k s).2 ro g j z D)→W P f n s ro A B C D:=by
 suffices I:∀(k:Nat) (s:LC) {A:Pf} {B:List Nat} {C:Pd},ur k s=true→wp P f n ro (Zs k s).1 A B C (nxQ (λg j z=>W P f n (Zs k s).2 ro g j z D) D)→W P f n s ro A B C D from
  λk s A B C hk E G=>I k s hk (E _ G)
 intro k
 induction k with
 |zero =>
  intro s A B C hk h;cases s with
  |seq a b =>
   refine yb ((Vc a h).post λx g j z q=>?_);cases x<;>exact q
  |_=>simp[ur]at hk
 |succ k H =>
  intro s A B C hk h;cases s with
  |seq a b =>
   simp only[Zs]at h;rw[wp_seq]at h;refine yb ((Vc a h).post λx g j z q=>?_);cases x with
   |normal=>exact H b hk q
   |_=>exact q
  |_=>simp[ur]at hk
def W_fz{s:LC}{G:Pf}{gg:R8}{t p k len st:Nat}{l:List LV}(H:I[p]?=some (.dyn l len g k st))(K:lk G t=.dy p k)(h:W P f n s ro ((t,.lst l len g)::G) uY (I.set p (.dead (st+1))) gg):W P f n s ro G uY I gg:=by
 intro j c gD L z M O C D Q R;obtain⟨E,F,T,A,u4,U,V,u6⟩:=C.froze H;have X:Qo E ((t,.lst l len g)::G) gD:=λx=>by
  by_cases e:x=t
  ·subst e;have:=D x;rw[K]at this;simpa using V _ this
  ·have:=(D x).mono A;simpa [e] using this
 obtain⟨m,x,Y,B,Z,ρ',D',G',q1,q2,q3,q4,q5,q6⟩:=h j E gD L z M O F X (Q.mono A) (R.mono A);exact⟨m,x,Y,B,Z,ρ',D',G',U ▸ q1,q2,T.trans C F q3,q4,q5,q6⟩
def ztq{s:LC}{j:List RRes}(z:Pk P f=some ⟨n,s.r,j⟩)(g:s.ok=true)(hn:E.length≤n)(h:W P f n s none (rj E 0) [] I (endQ j Z)):Tw P (.fn f) E I Z :=
 zlm z g hn (h.post λx B C A k=>by
  cases x with
  |normal=>exact⟨trivial,k⟩
  |exit i=>exact k.elim
  |ret=>exact⟨trivial,k⟩)
end Zs
end
section
def Yt(b:Nat)(G:Pd)(v:LV)(esz n:Nat)(l:List LV):Prop :=
 l.length=n*esz∧((v=.nilSl∧n=0∧l=[])∨∃(p k st:Nat),b≤p∧v=.dy p k∧G[p]?=some (.dyn l n esz k st))
section dys
variable {b : Nat} {G G' : Pd} {v : LV} {esz n : Nat} {l x : List LV}
def Yt.nil:Yt b G .nilSl esz 0 []:=⟨N,.inl ⟨rfl,rfl,rfl⟩⟩
def Yt.keep(h:Yt b G v esz n l)(hf:∀q j,v=.dy q j→G'[q]?=G[q]?):Yt b G' v esz n l:=by
 obtain⟨h2,h|⟨p,k,st,a,e,c⟩⟩:=h
 ·exact⟨h2,.inl h⟩
 ·exact⟨h2,.inr ⟨p,k,st,a,e,by rw[hf p k e];exact c⟩⟩
def Yt.lt(h:Yt b G v esz n l){q:Nat}(e:v=.dy q j):b≤q∧q<G.length:=by
 obtain⟨_,⟨h,_⟩|⟨p,k,st,a,e2,c⟩⟩:=h
 ·rw[h]at e;cases e
 ·rw[e2]at e;cases e;exact⟨a,(Jy.1 c).1⟩
def Yt.push_end(h:Yt b G v esz n l){ob:List LObj}:Yt b (G++ob) v esz n l :=
 h.keep λ_ _ e=>J4 (h.lt e).2
def Yt.push{c:Nat}(h:Yt b G v esz n l)(hz:0<esz)(hb:b≤G.length)(hn:n≤1000000000)(hx:x.length=c*esz){K:LV→Pd→Prop}
  (k:∀(v':LV) (G':Pd),Yt b G' v' esz (n+c) (l++x)→(∀q,q<G.length→(∀gg,v≠.dy q gg)→G'[q]?=G[q]?)→G.length≤G'.length→(∀q gg,v'=.dy q gg→q=G.length∨∃j',v=.dy q j')→K v' G'):Rq G esz v c x K:=by
 obtain⟨h2,h⟩:=h;have hl:(l++x).length=(n+c)*esz:=by rw[J9,h2,hx,Ky]
 rcases h with ⟨rfl,rfl,rfl⟩|⟨p,j,st,a,rfl,e⟩
 ·rw[appL_nil];refine k _ _ ⟨hl,.inr ⟨G.length,0,0,hb,rfl,?_⟩⟩ (λq hq _=>J4 J) N (λq gg e=>by cases e;exact .inl rfl);rw[Kg];simp
 ·have hp:=(Jy.1 e).1;rw[appL_dy,e];exact⟨rfl,⟨rfl,hz⟩,hn,k _ _ ⟨hl,.inr ⟨p,j+1,st+1,a,rfl,J3 hp⟩⟩ (λq hq hv=>Jz (λq'=>hv j (by rw[q']))) N (λq gg e=>by cases e;exact .inr ⟨_,rfl⟩)⟩
end dys
section fz
variable {P : Program} {f n : Nat} {ro : Option Nat}
def W_fzD{s:LC}{O:Pf}{G:Pd}{gg:R8}{a b:List LV}{p q k len esz st:Nat}{l:List LV}(Q:G[p]?=some (.dyn l len esz k st))(B:G[q]?=some (.dyn (a++.dy p k::b) j A D g))(C:p≠q)
  (h:W P f n s ro O uY ((G.set p (.dead (st+1))).set q (.dyn (a++.lst l len esz::b) j A D (g+1))) gg):W P f n s ro O uY G gg:=by
 intro z c gD R E T U F V X Y;obtain⟨K,L,Z,H,u4,u7,u5,u6⟩:=F.froze Q;obtain⟨M,w2⟩:=L.sub (p:=q) (st:=g) (l:=a++.dy p k::b) (l':=a++.lst l len esz::b) (len:=j) (esz:=A) (ver:=D) (by rw[Jz C];exact B) λr hr=>ARs.put ⟨λp k h e=>⟨k,h,e,J8 _,λ_=>rfl,λ_=>rfl⟩,λq B=>⟨B,rfl⟩⟩ u6 hr
 have e4:Qo K O gD:=λx=>(V x).mono H
 obtain⟨m,x,E',I,c',ρ',D',G',q1,q2,q3,q4,q5,q6⟩:=h z K gD R E T U M e4 (X.mono H) (Y.mono H);exact⟨m,x,E',I,c',ρ',D',G',u7 ▸ q1,q2,(Z.trans F L w2).trans F M q3,q4,q5,q6⟩
end fz
end
def Zr{n:Nat}(h:n<18446744073709551616):(iU (n:Int)).toNat=n:=by
 rw[qi,UInt64.ofInt,Lh];omega
def val:List UInt64→Nat
 |[]=>0
 |x::l=>x.toNat+18446744073709551616*val l
def z61(n:Nat):2^(64*(n+1))=18446744073709551616*2^(64*n):=by
 rw[Np,Nc,M3]
def val_append:∀a b:List UInt64,val (a++b)=val a+2^(64*a.length)*val b
 |[],b=>Ht
 |x::a,b=>by
  rw[K6,val,val,val_append a b,Kh,z61,Np,M4];omega
def val_lt:∀a:List UInt64,val a<2^(64*a.length)
 |[]=>Ht
 |x::a=>by
  have g:=x.toNat_lt;have j:=val_lt a;rw[val,Kh,z61];omega
def zcf(x:UInt64):val [x]=x.toNat:=Ht
def ztw(a:List UInt64)(x:UInt64):val (a++[x])=val a+2^(64*a.length)*x.toNat:=by
 rw[val_append,zcf]
def val_rep0:∀n,val (List.replicate n 0)=0
 |0=>rfl
 |n+1=>by rw[Na,val,val_rep0 n];rfl
def zdn{a:List UInt64}{n:Nat}(h:n<a.length):a.take (n+1)=a.take n++[a.getD n 0]:=by
 rw[K9 h];simp[h]
def zaa{a:List UInt64}{n:Nat}(h:n<a.length):val (a.take (n+1))=val (a.take n)+2^(64*n)*(a.getD n 0).toNat:=by
 rw[zdn h,ztw,Mc,Mh J]
def Y8:Nat→Nat→List UInt64
 |0,_=>[]
 |f+1,n=>if n=0 then [] else UInt64.ofNat n::Y8 f (n/18446744073709551616)
def P1(n:Nat):List UInt64:=Y8 n n
def toLf_more:∀(f j n:Nat),n≤f→n≤j→Y8 f n=Y8 j n
 |0,0,_,_,_=>rfl
 |0,j+1,n,h,_=>by
  have:n=0:=J
  subst this;simp[Y8]
 |f+1,0,n,_,h=>by
  have:n=0:=J
  subst this;simp[Y8]
 |f+1,j+1,n,z,A=>by
  simp only[Y8];by_cases g:n=0
  ·simp[g]
  ·rw[J1 g,J1 g,toLf_more f j (n/18446744073709551616) J J]
def toL_zero:P1 0=[]:=rfl
def zfz{n:Nat}(h:n≠0):P1 n=UInt64.ofNat n::P1 (n/18446744073709551616):=by
 unfold P1;cases n with
 |zero=>exact absurd rfl h
 |succ n =>
  rw[Y8,J1 h,toLf_more n ((n+1)/18446744073709551616) _ J (J8 _)]
def Uv(n:Nat):val (P1 n)=n:=by
 induction n using Nat.strongRecOn with
 |_ n g =>
  by_cases h:n=0
  ·subst h;rfl
  ·rw[zfz h,val,g _ J,Lh];omega
def Trm(l:List UInt64):Prop:=l=[]∨l.getLast?.getD 0≠0
def zv8{x:UInt64}{l:List UInt64}(h:Trm (x::l)):Trm l:=by
 cases l with
 |nil=>exact .inl rfl
 |cons y l =>
  rcases h with h|h
  ·cases h
  ·exact .inr (by simpa [List.getLast?_cons_cons] using h)
def val_pos_of_Trm:∀{l:List UInt64},l≠[]→Trm l→val l≠0
 |[],h,_=>absurd rfl h
 |[x],_,h=>by
  rcases h with h|h
  ·cases h
  ·simp at h;rw[zcf];intro e;exact h (Le.1 e)
 |x::y::l,_,h=>by
  have:=val_pos_of_Trm (l:=y::l) N (zv8 h);rw[val];omega
def toL_val:∀{l:List UInt64},Trm l→P1 (val l)=l
 |[],_=>rfl
 |x::l,h=>by
  have g:=val_pos_of_Trm N h;rw[zfz g];have A:=x.toNat_lt;have j:UInt64.ofNat (val (x::l))=x:=by
   apply Le.1;rw[Lh,val];omega
  have z:val (x::l)/18446744073709551616=val l:=by rw[val];omega
  rw[j,z,toL_val (zv8 h)]
def vj{l:List UInt64}{x:UInt64}(h:x≠0):Trm (l++[x]):=.inr Aw
def Trm_toL(n:Nat):Trm (P1 n):=by
 induction n using Nat.strongRecOn with
 |_ n j =>
  by_cases h:n=0
  ·subst h;exact .inl rfl
  ·rw[zfz h];have:=j (n/18446744073709551616) J;by_cases g:n/18446744073709551616=0
   ·rw[g,toL_zero];refine .inr ?_;simp;intro e;have:=congrArg UInt64.toNat e;rw[Lh]at this;simp at this;omega
   ·rw[zfz g]at this ⊢;rcases this with e|e
    ·cases e
    ·exact .inr (by simpa [List.getLast?_cons_cons] using e)
def Y1{n k:Nat}(h:n<2^(64*k)):(P1 n).length≤k:=by
 induction k generalizing n with
 | zero => have : n = 0 := by simpa using h
           subst this;simp[toL_zero]
 |succ k j =>
  by_cases g:n=0
  ·subst g;simp[toL_zero]
  ·rw[zfz g,Kh];have:=j (n:=n/18446744073709551616) (by rw[z61]at h;exact Nat.div_lt_of_lt_mul h);omega
def z68(a:List UInt64):(P1 (val a)).length≤a.length:=Y1 (val_lt a)
def z4m{n k:Nat}(h:(P1 n).length≤k):n<2^(64*k):=by
 have:=val_lt (P1 n);rw[Uv]at this;exact Kt this (Lr J J)
def zxa{n:Nat}:P1 n=[]↔n=0:=⟨λh=>by rw[←Uv n,h];rfl,λh=>by rw[h];rfl⟩
def RU(l:List UInt64):LObj:=.dyn (l.map .u) l.length 1 0 0
def Uc(g:Pd)(v:LV)(l:List UInt64):Prop:=(v=.nilSl∧l=[])∨∃p k st,v=.dy p k∧g[p]?=some (.dyn (l.map .u) l.length 1 k st)
def Uc.sel{G:Pd}{v:LV}{l:List UInt64}(h:Uc G v l):X8 G [v] [RU l]:=by
 rcases h with ⟨rfl,rfl⟩|⟨p,k,st,rfl,hg⟩
 ·simp[RU]
 ·simp[RU,hg]
def RU_ok{l:List UInt64}:∀(z:Nat) (g:LObj),[RU l][z]?=some g→∃c len j,g=.dyn c len j 0 0∧c.all LV.scal=true:=by
 intro z g e;cases z with
 |zero=>simp at e;subst e;exact⟨_,_,_,rfl,N⟩
 |succ z=>simp at e
def RU_ok2{l r:List UInt64}:∀(z:Nat) (g:LObj),[RU l,RU r][z]?=some g→∃c len j,g=.dyn c len j 0 0∧c.all LV.scal=true:=by
 intro z g e
 match z with
 |0=>simp at e;subst e;exact⟨_,_,_,rfl,N⟩
 |1=>simp at e;subst e;exact⟨_,_,_,rfl,N⟩
 |z+2=>simp at e
def P4.row{P:Program}{f:Nat}{args:List LV}{l:List UInt64}(h:Tw P (.fn f) args [] λv G=>Uc G v l):P4 P f args (.dy 0 0) [RU l] :=
 P4.mk rfl (h.mono λv G e=>⟨[v],N,rfl,e.sel⟩) RU_ok
def P4.rowE{P:Program}{f:Nat}{args:List LV}{l:List UInt64}{e:Int}(h:Tw P (.fn f) args [] λv G=>∃w,v=.tup [w,.i e]∧Uc G w l):P4 P f args (.tup [.dy 0 0,.i e]) [RU l] :=
 P4.mk rfl (h.mono λv G ⟨w,e1,e2⟩=>⟨[w],by simp[e1],rfl,e2.sel⟩) RU_ok
def P4.row2E{P:Program}{f:Nat}{args:List LV}{l r:List UInt64}{e:Int}(h:Tw P (.fn f) args [] λv G=>∃w w',v=.tup [w,w',.i e]∧Uc G w l∧Uc G w' r∧∀p k,w=.dy p k→notP p w'):P4 P f args (.tup [.dy 0 0,.dy 1 0,.i e]) [RU l,RU r] :=
 P4.mk rfl (h.mono λv G ⟨w,w',e1,e2,e3,e4⟩=>⟨[w,w'],by simp[e1],rfl,by
  have h3:=e3.sel;rcases e2 with ⟨rfl,rfl⟩|⟨p,k,st,rfl,hg⟩
  ·simp only[X8,RU]at h3 ⊢;exact⟨N,N,N,N,h3⟩
  ·have h4:=e4 p k rfl;simp only[X8,RU,O1,forall_eq]at h3 ⊢;exact⟨N,N,⟨st,hg⟩,N,h4,h3⟩⟩) RU_ok2
def Pq(a b:UInt64):Bool→UInt64×Bool
 |false=>(a+b,decide (a+b<a))
 |true=>(a+b+1,decide (a+b<a) || decide (a+b+1=0))
def Rh(a b:UInt64):Bool→UInt64×Bool
 |false=>(a-b,decide (a<b))
 |true=>(a-b-1,decide (a<b) || decide (a-b=0))
def zch(x:UInt64):x=0↔x.toNat=0:=⟨λh=>by rw[h];rfl,λh=>Le.1 (by rw[h];rfl)⟩
def zqq(b:Bool):b.toNat=if b=true then 1 else 0:=by cases b<;>rfl
def z8v(a b:UInt64)(c:Bool):(Pq a b c).1.toNat+18446744073709551616*(Pq a b c).2.toNat=a.toNat+b.toNat+c.toNat:=by
 have g:=a.toNat_lt;have j:=b.toNat_lt;cases c with
 |false =>
  simp only[Pq,zqq,Kb,Lq,Mr];split<;>simp<;>omega
 |true =>
  simp only[Pq,zqq,Lf,Kb,Lq,zch,Mr,UInt64.toNat_one];split<;>simp<;>omega
def zvm(a b:UInt64)(c:Bool):(Rh a b c).1.toNat+b.toNat+c.toNat=a.toNat+18446744073709551616*(Rh a b c).2.toNat:=by
 have j:=a.toNat_lt;have z:=b.toNat_lt;cases c with
 |false =>
  have e:(Rh a b false).2=decide (a.toNat<b.toNat):=by simp[Rh,Lq]
  rw[e];simp only[Rh,Ob];by_cases h:a.toNat<b.toNat<;>simp[h]<;>omega
 |true =>
  have e:(Rh a b true).2=decide (a.toNat≤b.toNat):=by
   simp only[Rh,Lq,zch,Ob];by_cases h:a.toNat≤b.toNat
   ·by_cases g:a.toNat<b.toNat
    ·simp[h,g]
    ·have:a.toNat=b.toNat:=J
     simp[this];omega
   ·simp[h];omega
  rw[e];simp only[Rh,Ob,UInt64.toNat_one];by_cases h:a.toNat≤b.toNat<;>simp[h]<;>omega
def gapp{p:Nat}{g:LObj}(h:I[p]?=some g)(x:Pd):(I++x)[p]?=some g:=by
 rw[J4 (Jy.1 h).1];exact h
def gset{p:Nat}{j:LObj}(h:I[p]?=some j)(g:LObj):(I.set p g)[p]?=some g:=J3 (Jy.1 h).1
def gset_ne{p q:Nat}(h:q≠p)(g:LObj):(I.set p g)[q]?=I[q]?:=Jz (Ne.symm h)
def Uc.app{G:Pd}{v:LV}{l:List UInt64}(h:Uc G v l)(x:Pd):Uc (G++x) v l:=by
 rcases h with h|⟨p,k,st,h1,h2⟩
 ·exact .inl h
 ·exact .inr ⟨p,k,st,h1,gapp h2 x⟩
@[simp] theorem dats_rep (n:Nat) (x:UInt64):dats (List.replicate n (LV.u x))=true:=by
 rw[(N:List.replicate n (LV.u x)=(List.replicate n x).map LV.u)];exact zeu _
def flat_u(l:List UInt64):l.flatMap (λx=>[LV.u x])=l.map .u:=by
 induction l with
 |nil=>rfl
 |cons x l g=>simp[g]
def ztv{v:LV}{l xs:List UInt64}{n:Nat}(h:Uc I v l)(hn:n=xs.length)(g:E=xs.map .u)(H:l.length≤1000000000)
  (k:∀C D,Uc D C (l++xs)→(∀(q:Nat) (A:LObj),I[q]?=some A→(∀k,v≠.dy q k)→D[q]?=some A∧∀k,C≠.dy q k)→Z C D):Rq I 1 v n E Z:=by
 subst hn g;rcases h with ⟨rfl,rfl⟩|⟨p,j,st,rfl,G⟩
 ·refine k _ _ (.inr ⟨I.length,0,0,rfl,N⟩) (λq A B _=>⟨gapp B _,λk e=>?_⟩);cases e;have:=(Jy.1 B).1;omega
 ·simp only[Rq,G];refine⟨N,⟨N,N⟩,by simpa using H,k _ _ (.inr ⟨p,j+1,st+1,rfl,by rw[gset G];simp⟩) (λq A B F=>?_)⟩;have z:q≠p:=λe=>F j Gi
  exact⟨by rw[gset_ne z];exact B,λk e=>by cases e;exact z rfl⟩
def Uc.bor{G:Pd}{v:LV}{l:List UInt64}(h:Uc G v l):bor G v (LU l):=by
 rcases h with ⟨rfl,rfl⟩|⟨p,k,st,rfl,hg⟩
 ·exact .inr ⟨1,N⟩
 ·exact⟨_,_,_,st,rfl,hg,N⟩
def zwv{v d:LV}(h:Go.Sv.bor I v d):bors I [v] [d]:=⟨d,[],rfl,h,rfl⟩
def uv{v d g:LV}(h:Go.Sv.bor I v d)(j:Go.Sv.bor I P g):bors I [v,P] [d,g]:=⟨d,_,rfl,h,zwv j⟩
def Uc.new{G:Pd}{l:List UInt64}:Uc (G++[RU l]) (.dy G.length 0) l:=.inr ⟨G.length,0,0,rfl,Fp⟩
def z9a{f:Nat}{l:List UInt64}(hc:P4 C f vV (.dy 0 0) [RU l])(hb:bors I E vV)(k:Z (.dy I.length 0) (I++[RU l])):Tw C (.fn f) E I Z :=
 X7 hc hb (by simpa using k)
def z4z{a:List UInt64}{n:Nat}(h:a.length≤n):val (a.take n)=val a:=by rw[Kk h]
def nh{a:List UInt64}{n:Nat}(h:a.length≤n):val a<2^(64*n):=Kt (val_lt a) (Lr J J)
def zx8(m:Nat):2^(64*(m+1))=2^(64*m)*18446744073709551616:=by
 rw[Nat.pow_mul,Nat.pow_mul,Ly]
def z2l(a:List UInt64)(n:Nat):val (a.take (n+1))=val (a.take n)+2^(64*n)*(a.getD n 0).toNat:=by
 by_cases h:n<a.length
 ·exact zaa h
 ·rw[Kk J,Kk J];have:a.getD n 0=0:=by simp;rw[Me J];rfl
  rw[this];simp
def ztg(x:UInt64):val [x]=x.toNat:=Ht
def pi{x y:Nat}{c:Bool}(z:2≤A)(hv:x+j*A*c.toNat=y+g)(B:y<j)(C:g<j):x=y+g:=by
 cases c
 ·simpa using hv
 ·have:j*2≤j*A:=Om _ z;simp at hv;omega
def add_end{a b:List UInt64}{c:Bool}{n m:Nat}(h:n=m+1)(ha:a.length≤m)(hb:b.length≤m)(hv:val vZ+2^(64*n)*c.toNat=val a+val b):val vZ=val a+val b:=by
 subst h;rw[zx8]at hv;exact pi Ac hv (nh ha) (nh hb)
def addn{o s x y c:Nat}(hv:o+A*c=g+j)(h:s+D*U=x+y+c):o+A*s+A*D*U=g+A*x+(j+A*y):=by
 have:A*(s+D*U)=A*(x+y+c):=Gq
 simp only[Np,←M4]at this;omega
def vk{a b:List UInt64}{c:Bool}{i:Nat}(g:vZ.length=i)(hv:val vZ+2^(64*i)*c.toNat=val (a.take i)+val (b.take i)) :
  val (vZ++[(Pq (a.getD i 0) (b.getD i 0) c).1])+2^(64*(i+1))*(Pq (a.getD i 0) (b.getD i 0) c).2.toNat=val (a.take (i+1))+val (b.take (i+1)):=by
 rw[z2l,z2l,zx8,val_append,g,ztg];exact addn hv (z8v _ _ _)
def opened:(∀a b,W5 a b=a+b)∧(∀a b,f8 a b=a-b)∧(∀a b,U7 a b=a*b):=⟨Xf,dh,zke⟩
def Vb(a:List UInt64)(n:Int):Int:=if n<0∨512<n then 2 else if n<(P1 (val a)).length then 3 else 0
def Y2(a:List UInt64)(n:Int):List UInt64:=if Vb a n=0 then P1 (val a)++List.replicate (n.toNat-(P1 (val a)).length) 0 else []
def zrw{a:List UInt64}{n:Int}(h:Vb a n=0):((Y2 a n).length:Int)=n∧0≤n∧n≤512:=by
 unfold Y2;rw[J6 h];unfold Vb at h;by_cases g:n<0∨512<n
 ·rw[J6 g]at h;simp at h
 ·rw[J1 g]at h;by_cases j:n<(P1 (val a)).length
  ·rw[J6 j]at h;simp at h
  ·simp;omega
def repU(n:Nat):Rl [LV.u 0] n=(List.replicate n (0:UInt64)).map .u:=by
 induction n with
 |zero=>rfl
 |succ n g=>simp[Rl,g,Na]
def LN(l:List (List UInt64)):LV:=.lst (l.map LU) l.length 1
attribute [simp] LN
def xu(l:List (List UInt64))(i:Nat)(g:LV→Prop):Rp (l.map LU) i g=(i<l.length∧g (LU (l.getD i []))):=zto _ _ _ _ _
def zxh(l:List (List UInt64)):dats (l.map LU)=true:=yp (λx=>N) l
attribute [simp] xu zxh
attribute [simp ↓] xu
def V2(a b:UInt64):UInt64:=UInt64.ofNat (a.toNat*b.toNat/18446744073709551616)
def zop(a b:UInt64):(V2 a b).toNat*18446744073709551616+(a*b).toNat=a.toNat*b.toNat:=by
 have g:=a.toNat_lt;have j:=b.toNat_lt;have z:a.toNat*b.toNat≤18446744073709551615*18446744073709551615:=Mb J J;rw[V2,Lh,UInt64.toNat_mul];omega
def and_low(x:UInt64):(x &&& 4294967295).toNat=x.toNat%4294967296:=by
 rw[UInt64.toNat_and];exact Nat.and_two_pow_sub_one_eq_mod x.toNat 32
def mul_hi(a b:UInt64) :
  W5 (W5 (U7 (Ta a 32) (Ta b 32)) (Ta (W5 (U7 (Ta a 32) (T3 b 4294967295)) (Ta (U7 (T3 a 4294967295) (T3 b 4294967295)) 32)) 32)) (Ta (W5 (U7 (T3 a 4294967295) (Ta b 32)) (T3 (W5 (U7 (Ta a 32) (T3 b 4294967295)) (Ta (U7 (T3 a 4294967295) (T3 b 4294967295)) 32)) 4294967295)) 32)=V2 a b:=by
 simp only[Xf,zke,lj,ng];apply Le.1;have C:=a.toNat_lt;have D:=b.toNat_lt;simp only[V2,Mr,UInt64.toNat_mul,Lh,and_low,Nat.reducePow];generalize a.toNat=x at *;generalize b.toNat=y at *;have g:x=x/4294967296*4294967296+x%4294967296:=J
 have j:y=y/4294967296*4294967296+y%4294967296:=J
 have E:x/4294967296<4294967296:=J
 have F:x%4294967296<4294967296:=J
 have G:y/4294967296<4294967296:=J
 have H:y%4294967296<4294967296:=J
 have z:x/4294967296%18446744073709551616=x/4294967296:=J
 have A:y/4294967296%18446744073709551616=y/4294967296:=J
 rw[z,A];have B:x*y=(x/4294967296*(y/4294967296))*18446744073709551616+(x/4294967296*(y%4294967296))*4294967296+(x%4294967296*(y/4294967296))*4294967296+x%4294967296*(y%4294967296):=by
  generalize x/4294967296=p at *;generalize x%4294967296=q at *;generalize y/4294967296=r at *;generalize y%4294967296=s at *;subst g j
  grind
 rw[B];generalize x/4294967296=p at *;generalize x%4294967296=q at *;generalize y/4294967296=r at *;generalize y%4294967296=s at *;have I:p*r≤4294967295*4294967295:=Mb J J;have K:p*s≤4294967295*4294967295:=Mb J J;have L:q*r≤4294967295*4294967295:=Mb J J;have M:q*s≤4294967295*4294967295:=Mb J J;generalize p*r=O at *;generalize p*s=P at *;generalize q*r=Q at *;generalize q*s=R at *;clear g j z A E F G H C D B;omega
def R2(n:Nat):Nat:=if n=0 then 0 else n.log2+1
def blen_zero:R2 0=0:=rfl
def zpm{n:Nat}(h:n≠0):R2 n=R2 (n/2)+1:=by
 unfold R2;rw[J1 h];by_cases g:n/2=0
 ·have:n=1:=J
  subst this;decide
 ·rw[J1 g,Nat.log2_def n,J6 J]
def blen_lt(n:Nat):n<2^R2 n:=by
 unfold R2;by_cases h:n=0
 ·subst h;decide
 ·rw[J1 h];exact (Nat.log2_lt h).1 (Lp _)
def zs6{n k:Nat}(h:n<2^k):R2 n≤k:=by
 unfold R2;by_cases g:n=0
 ·subst g;simp
 ·rw[J1 g];exact (Nat.log2_lt g).2 h
def zm7{n:Nat}:∀s:Nat,n/2^s≠0→R2 n=s+R2 (n/2^s)
 |0,_=>N
 |s+1,h=>by
  have j:n/2^s/2≠0:=by rw[Nm,←Ly];exact h
  have g:n/2^s≠0:=λe=>j Gi
  rw[zm7 s g,zpm g,Nm,show 2^s*2=2^(s+1) from rfl];omega
def fe(v:UInt64)(s:Nat):(Ta v s).toNat=v.toNat/2^s:=by
 have h:=v.toNat_lt;have:v.toNat/2^s≤v.toNat:=Oj _ _;rw[lj,Lh,Ke J]
def and_one(v:UInt64):(T3 v 1).toNat=v.toNat%2:=by
 rw[ng,UInt64.toNat_and];exact Nat.and_two_pow_sub_one_eq_mod v.toNat 1
def bit_u'(v:UInt64)(s:Nat):T3 (Ta v s) 1=if v.toNat.testBit s=true then 1 else 0:=by
 apply Le.1;rw[and_one,fe,Nz];by_cases h:v.toNat/2^s%2=1
 ·simp[h]
 ·have:v.toNat/2^s%2=0:=J
  simp[this]
def one_shl{i:Nat}(h:i<64):(Ui 1 i).toNat=2^i:=by
 rw[wo,Lh];have:2^i<2^64:=Nat.pow_lt_pow_right J h;simp;omega
def limb_at:∀(a:List UInt64) (i:Nat),(a.getD i 0).toNat=val a/2^(64*i)%18446744073709551616
 |[],i=>Ht
 |x::a,0=>by
  have:=x.toNat_lt;simp[val]
 |x::a,i+1=>by
  have h:=x.toNat_lt;have g:=limb_at a i;rw[z61,←Nm,val,(J:(x.toNat+18446744073709551616*val a)/18446744073709551616=val a),←g];simp
def bit_at(a:List UInt64)(i:Nat):(a.getD (i/64) 0).toNat.testBit (i%64)=(val a).testBit i:=by
 rw[limb_at,show (18446744073709551616:Nat)=2^64 from rfl,Nat.testBit_mod_two_pow,Nat.testBit_div_two_pow];have:i%64+64*(i/64)=i:=J
 simp[this];intro;omega
def val_set:∀(a:List UInt64) (i:Nat) (x:UInt64),i<a.length→val (a.set i x)+2^(64*i)*(a.getD i 0).toNat=val a+2^(64*i)*x.toNat
 |[],i,x,h=>Cc
 |y::a,0,x,_=>by simp[val];omega
 |y::a,i+1,x,h=>by
  have g:=val_set a i x Aw;rw[z61];simp only[O0,val,List.getD_cons_succ,M4];omega
def wj{a:List UInt64}{i:Nat}{x:UInt64}(h:i<a.length)(g:a.getD i 0=0):val (a.set i x)=val a+2^(64*i)*x.toNat:=by
 have:=val_set a i x h;rw[g]at this;simpa using this
def zvp(a:List UInt64)(i g:Nat)(x:UInt64)(h:i≠g):(a.set i x).getD g 0=a.getD g 0:=by simp[Jz h]
def w8(a:List UInt64)(i:Nat)(x:UInt64)(h:i<a.length):Qj (a.map .u) i [.u x]=(a.set i x).map .u:=by
 unfold Qj;rw[K3,J6 h];simp
def wg{l:List UInt64}{n:Nat}(h:Trm l)(g:l.length=n+1):R2 (val l)=64*n+R2 (l.getD n 0).toNat:=by
 have z:val l=val (l.take n)+2^(64*n)*(l.getD n 0).toNat:=by rw[←zaa J,Kk J]
 have A:=nh (a:=l.take n) (n:=n) Ab;have j:val l/2^(64*n)=(l.getD n 0).toNat:=by
  rw[z,Nat.add_mul_div_left _ _ (Nat.two_pow_pos _),Nl A,Kw]
 have B:(l.getD n 0).toNat≠0:=by
  rcases h with h|h
  ·rw[h]at g;simp at g
  ·intro e;refine h ?_;have:l.getLast?.getD 0=l.getD n 0:=by
    rw[List.getLast?_eq_getElem?,g];simp
   rw[this];exact (zch _).2 e
 rw[zm7 (64*n) (by rw[j];exact B),j]
def Sn(a b:Nat):Int:=if a<b then -1 else if b<a then 1 else 0
def zor(a:Nat):Sn a a=0:=by simp[Sn]
def ko{v w k x y:Nat}(hv:v<k)(hw:w<k):Sn (v+k*x) (w+k*y)=if x<y then -1 else if y<x then 1 else Sn v w:=by
 have e:∀B,k*(B+1)=k*B+k:=λB=>by rw[Np,Oe]
 by_cases g:x<y
 ·have:=Om k (show x+1≤y from g);rw[e]at this;rw[J6 g,Sn,J6 J]
 ·rw[J1 g];by_cases j:y<x
  ·have:=Om k (show y+1≤x from j);rw[e]at this;rw[J6 j,Sn,J1 J,J6 J]
  ·rw[J1 j];have:x=y:=J
   subst this;unfold Sn;by_cases z:v<w
   ·rw[J6 z,J6 J]
   ·rw[J1 z,J1 J];by_cases A:w<v
    ·rw[J6 A,J6 J]
    ·rw[J1 A,J1 J]
def zjk(a:List UInt64)(i:Nat):val (a.take i)<2^(64*i):=nh Ab
def ta(a b:List UInt64)(i:Nat):Sn (val (a.take (i+1))) (val (b.take (i+1)))=if a.getD i 0<b.getD i 0 then -1 else if b.getD i 0<a.getD i 0 then 1 else Sn (val (a.take i)) (val (b.take i)):=by
 rw[z2l,z2l,ko (zjk a i) (zjk b i)];simp only[Lq]
def zfr{a b:Nat}:Sn a b<0↔a<b:=by
 unfold Sn;split
 ·simp;assumption
 ·split<;>simp<;>omega
def zxn{a b:Nat}:Sn a b=0↔a=b:=by
 unfold Sn;split
 ·simp;omega
 ·split<;>simp<;>omega
def zi9{a b:Nat}:0≤Sn a b↔b≤a:=by
 have:=@zfr a b;omega
def qt{a b:List UInt64}{i:Nat}{c:Bool}(g:vZ.length=i)(hv:val vZ+val (b.take i)=val (a.take i)+2^(64*i)*c.toNat) :
  val (vZ++[(Rh (a.getD i 0) (b.getD i 0) c).1])+val (b.take (i+1))=val (a.take (i+1))+2^(64*(i+1))*(Rh (a.getD i 0) (b.getD i 0) c).2.toNat:=by
 have j:=zvm (a.getD i 0) (b.getD i 0) c;rw[ztw,g,z2l,z2l,zx8];generalize (Rh (a.getD i 0) (b.getD i 0) c).1.toNat=s at *;generalize (Rh (a.getD i 0) (b.getD i 0) c).2.toNat=d at *;generalize (a.getD i 0).toNat=x at *;generalize (b.getD i 0).toNat=y at *;generalize 2^(64*i)=k at *;have e:k*(s+y+c.toNat)=k*(x+18446744073709551616*d):=Hr
 simp only[Np]at e;have z:k*(18446744073709551616*d)=k*18446744073709551616*d:=by rw[M4]
 omega
def sub_end{a b:List UInt64}{m:Nat}{c:Bool}(ha:a.length≤m)(hb:b.length≤m)(g:vZ.length=m)(hv:val vZ+val (b.take m)=val (a.take m)+2^(64*m)*c.toNat) :
  (c=true↔val a<val b)∧(c=false→val vZ=val a-val b):=by
 rw[z4z ha,z4z hb]at hv;have j:=nh (a:=vZ) (n:=m) J;have z:=nh hb;cases c with
 |true=>simp at hv ⊢;omega
 |false=>simp at hv ⊢;omega
def V4(o x y m:UInt64):UInt64×UInt64:=((Pq (Pq o (x*y) false).1 m false).1,(Pq (Pq (V2 x y) 0 (Pq o (x*y) false).2).1 0 (Pq (Pq o (x*y) false).1 m false).2).1)
def vr(o x y m:UInt64):(V4 o x y m).1.toNat+18446744073709551616*(V4 o x y m).2.toNat=o.toNat+x.toNat*y.toNat+m.toNat:=by
 have g:=z8v o (x*y) false;have j:=z8v (Pq o (x*y) false).1 m false;have z:=z8v (V2 x y) 0 (Pq o (x*y) false).2;have A:=z8v (Pq (V2 x y) 0 (Pq o (x*y) false).2).1 0 (Pq (Pq o (x*y) false).1 m false).2;have F:=zop x y;have G:=o.toNat_lt;have H:=m.toNat_lt;have I:=x.toNat_lt;have K:=y.toNat_lt;have L:x.toNat*y.toNat≤18446744073709551615*18446744073709551615:=Mb J J;have M:=(Pq (V2 x y) 0 (Pq o (x*y) false).2).1.toNat_lt;have O:=(Pq (Pq (V2 x y) 0 (Pq o (x*y) false).2).1 0 (Pq (Pq o (x*y) false).1 m false).2).1.toNat_lt;unfold V4;dsimp only;generalize (Pq (Pq (V2 x y) 0 (Pq o (x*y) false).2).1 0 (Pq (Pq o (x*y) false).1 m false).2)=B at *;generalize (Pq (V2 x y) 0 (Pq o (x*y) false).2)=C at *;generalize (Pq (Pq o (x*y) false).1 m false)=D at *;generalize (Pq o (x*y) false)=E at *;have P:(0:UInt64).toNat=0:=rfl;rw[P]at z A;simp at g j;have Q:E.2.toNat≤1:=Pa _;have R:D.2.toNat≤1:=Pa _;have T:C.2.toNat≤1:=Pa _;have U:B.2.toNat≤1:=Pa _;have V:=(x*y).toNat_lt;generalize (x*y).toNat=X at *;generalize (V2 x y).toNat=hi at *;generalize x.toNat*y.toNat=p at *;omega
def zfl(a b:List UInt64)(i k:Nat)(g:List UInt64)(j:UInt64):Prop :=
 g.length=a.length+b.length∧val g+2^(64*(i+k))*j.toNat=val (a.take i)*val b+2^(64*i)*((a.getD i 0).toNat*val (b.take k))∧∀z,i+b.length≤z→g.getD z 0=0
def ig(a b:List UInt64):zfl a b 0 0 (List.replicate (a.length+b.length) 0) 0:=by
 refine⟨N,by simp[val,val_rep0],λj g=>?_⟩;simp only[J0,List.getElem?_replicate];split<;>rfl
def ik{a b:List UInt64}{i k:Nat}(hi:i<a.length)(hk:k<b.length)(h:zfl a b i k vZ T) :
  zfl a b i (k+1) (vZ.set (i+k) (V4 (vZ.getD (i+k) 0) (a.getD i 0) (b.getD k 0) T).1) (V4 (vZ.getD (i+k) 0) (a.getD i 0) (b.getD k 0) T).2:=by
 obtain⟨j,C,z⟩:=h;have hm:=vr (vZ.getD (i+k) 0) (a.getD i 0) (b.getD k 0) T;have D:=val_set vZ (i+k) (V4 (vZ.getD (i+k) 0) (a.getD i 0) (b.getD k 0) T).1 J;refine⟨Am,?_,λE A=>by rw[zvp _ _ _ _ J];exact z E A⟩;rw[z2l b k,(J:i+(k+1)=(i+k)+1),zx8];generalize (V4 (vZ.getD (i+k) 0) (a.getD i 0) (b.getD k 0) T).2.toNat=F at *;generalize B:(V4 (vZ.getD (i+k) 0) (a.getD i 0) (b.getD k 0) T).1=g at *;generalize (vZ.getD (i+k) 0).toNat=o at *;generalize (a.getD i 0).toNat=x at *;generalize (b.getD k 0).toNat=y at *;rw[(J:64*(i+k)=64*i+64*k),Nc]at *;generalize 2^(64*i)=p at *;generalize 2^(64*k)=q at *;generalize g.toNat=s at *;generalize val (a.take i)*val b=G at *;generalize val (b.take k)=H at *;generalize val (vZ.set (i+k) g)=I at *;generalize val vZ=K at *;generalize T.toNat=m at *
 grind
def i7{a b:List UInt64}{i:Nat}(hi:i<a.length)(h:zfl a b i b.length vZ T):zfl a b (i+1) 0 (vZ.set (i+b.length) T) 0:=by
 obtain⟨z,g,j⟩:=h;have A:=wj (a:=vZ) (i:=i+b.length) (x:=T) J (j _ (J8 _));refine⟨Aq,?_,λB C=>by rw[zvp _ _ _ _ J];exact j B J⟩;rw[A,z2l a i];rw[Mw]at g;generalize (a.getD i 0).toNat=x at *;simp[val,Ky];rw[←M4]at g;rw[g]
def zzz{a b:List UInt64}{i:Nat}(h:zfl a b i 0 vZ 0):val vZ=val (a.take i)*val b:=by
 have:=h.2.1;simpa [val] using this
def py{a b:List UInt64}(h:zfl a b a.length 0 vZ 0):val vZ=val a*val b:=by
 have:=zzz h
 rwa [Mw]at this
def zgk(g j N:Nat)(q:List UInt64)(r:Nat):Prop:=r=g/2^N%j∧val q=g/2^N/j*2^N
def zqk{r:Nat}(C:0<j)(B:r=g/2^(A+1)%j):(2*r+(g.testBit A).toNat<j→g/2^A%j=2*r+(g.testBit A).toNat∧g/2^A/j=2*(g/2^(A+1)/j)) ∧
  (j≤2*r+(g.testBit A).toNat→g/2^A%j=2*r+(g.testBit A).toNat-j∧g/2^A/j=2*(g/2^(A+1)/j)+1):=by
 have E:g/2^(A+1)=g/2^A/2:=by rw[Nm];rfl
 have F:(g.testBit A).toNat=g/2^A%2:=by
  rw[Nz];by_cases h:g/2^A%2=1
  ·simp[h]
  ·have:g/2^A%2=0:=J
   simp[this]
 rw[E]at B ⊢;rw[F];generalize g/2^A=x at *;have D:=Nat.div_add_mod (x/2) j;have I:r<j:=by rw[B];exact L8 _ C
 rw[←B]at D;have G:x=2*(x/2)+x%2:=J
 have K:x%2<2:=J
 generalize x/2/j=c at *;generalize x/2=y at *;generalize x%2=d at *;subst D;have z:∀H w,w<j→x=j*H+w→x%j=w∧x/j=H:=λH w hw e=>by
  subst e;exact⟨by rw[Nat.mul_add_mod,Ke hw],by rw[Nat.mul_add_div C,Nl hw,M6]⟩
 refine⟨λh=>z _ _ h ?_,λh=>z _ _ J ?_⟩
 ·rw[G,Nat.mul_left_comm];grind
 ·have:j*(2*c+1)=2*(j*c)+j:=by grind
  omega
def setbit{q:List UInt64}(z:g/64<q.length)(h:2^(g+1) ∣ val q):val (q.set (g/64) (iq (q.getD (g/64) 0) (Ui 1 (g%64))))=val q+2^g:=by
 have A:=val_set q (g/64) (iq (q.getD (g/64) 0) (Ui 1 (g%64))) z;have B:=limb_at q (g/64);have j:g%64<64:=J
 have C:2^(g%64+1) ∣ (q.getD (g/64) 0).toNat:=by
  obtain⟨c,hc⟩:=h;rw[B,hc,(Hc:(2:Nat)^(g+1)=2^(64*(g/64))*2^(g%64+1)),M4,Nat.mul_div_cancel_left _ (Nat.two_pow_pos _)];refine (Nat.dvd_mod_iff ?_).2 (Nat.dvd_mul_right _ _);rw[show (18446744073709551616:Nat)=2^64 from rfl];exact Nat.pow_dvd_pow 2 J
 obtain⟨c,hc⟩:=C;have D:(iq (q.getD (g/64) 0) (Ui 1 (g%64))).toNat=(q.getD (g/64) 0).toNat+2^(g%64):=by
  rw[sn,UInt64.toNat_or,one_shl j];have:=Nat.two_pow_add_eq_or_of_lt (i:=g%64+1) (b:=2^(g%64)) (Nat.pow_lt_pow_right J J) c;rw[←hc]at this;exact this.symm
 rw[D,Np,←Nc,(J:64*(g/64)+g%64=g)]at A;omega
def zv9{N:Nat}{q:List UInt64}{r:Nat}(A:0<j)(h:zgk g j (N+1) q r)(z:2*r+(g.testBit N).toNat<j):zgk g j N q (2*r+(g.testBit N).toNat):=by
 obtain⟨B,C⟩:=h;obtain⟨D,E⟩:=(zqk A B).1 z;refine⟨D.symm,?_⟩;rw[E,C,Ly]
 grind
def zu0{N:Nat}{q:List UInt64}{r:Nat}(B:0<j)(C:N/64<q.length)(h:zgk g j (N+1) q r)(z:j≤2*r+(g.testBit N).toNat):zgk g j N (q.set (N/64) (iq (q.getD (N/64) 0) (Ui 1 (N%64)))) (2*r+(g.testBit N).toNat-j):=by
 obtain⟨D,A⟩:=h;obtain⟨E,F⟩:=(zqk B D).2 z;refine⟨E.symm,?_⟩;rw[setbit C (by rw[A];exact Nat.dvd_mul_left _ _),F,A,Ly]
 grind
def iy{n:Nat}:zgk g j (R2 g) (List.replicate n 0) 0:=by
 have h:g/2^R2 g=0:=Nl (blen_lt g);refine⟨by rw[h];simp,by rw[h,val_rep0];simp⟩
def div_end{q:List UInt64}{r:Nat}(h:zgk g j 0 q r):val q=g/j∧r=g%j:=by
 obtain⟨z,A⟩:=h;simp at z A;exact⟨A,z⟩
def mE(n:Nat):Int:=if n=0 then 2 else 0
def mR(n r:Nat):List UInt64:=if n=0 then [] else P1 r
def mE_p{n:Nat}(h:n≠0):mE n=0:=by simp[mE,h]
def tf{n r:Nat}(h:n≠0):mR n r=P1 r:=by simp[mR,h]
def Z6(a b n:Nat):Nat:=(a%n+n-b%n)%n
noncomputable def invN(a n:Nat):Nat:=by
 classical exact if h:∃x,x<n∧a*x%n=1%n then h.choose else 0
def zlg{n:Nat}{b:List UInt64}(h:n<val b):(P1 n).length≤b.length:=Y1 (Nat.lt_trans h (val_lt b))
def zvw{n:Nat}{b:List UInt64}(h:n≤val b):(P1 n).length≤b.length:=Y1 (Nat.lt_of_le_of_lt h (val_lt b))
def oddL(n:List UInt64):Bool:=decide (n.getD 0 0%2=1)
noncomputable def reR(t n:List UInt64)(l:Int):List UInt64:=if oddL n=true∧0≤l∧l≤512 then P1 (val t*invN (2^(64*l.toNat)%val n) (val n)%val n) else []
def jr(l:Nat):val (List.replicate l 0++[1])=2^(64*l):=by
 rw[val_append,val_rep0,ztg];simp
def Pe{l:List LV}{i:Nat}{v:LV}{g:LV→Prop}(h:l[i]?=some v):Rp l i g=g v:=by simp[Rp,h]
def W4{f:vM→LV}{l:List vM}{i:Nat}{a:vM}(h:l[i]?=some a):(l.map f)[i]?=some (f a):=by simp[h]
mutual
def bor_self{G:Pd}(v:LV)(h:v.dat=true):bor G v v:=by
 cases v with
 |agg l=>simp only[LV.dat]at h;exact⟨l,rfl,bors_self l h⟩
 |nilSl=>exact .inl rfl
 |dy p k=>simp[LV.dat]at h
 |vw p k lo len=>simp[LV.dat]at h
 |_=>exact⟨rfl,h⟩
termination_by SizeOf.sizeOf v
def bors_self{G:Pd}(l:List LV)(h:dats l=true):bors G l l:=by
 cases l with
 |nil=>rfl
 |cons v l =>
  simp only[dats,J2]at h;exact⟨v,l,rfl,bor_self v h.1,bors_self l h.2⟩
termination_by SizeOf.sizeOf l
end
def nj(p:vM→Bool)(l:List vM):Int:=if l.findIdx p<l.length then (l.findIdx p:Int) else -1
def sx{p:vM→Bool}{l:List vM}{i:Nat}{a:vM}(h:l[i]?=some a)(j:p a=true)(hn:∀g b,g<i→l[g]?=some b→p b=false):nj p l=i:=by
 obtain⟨hi,rfl⟩:=Jy.1 h;have:l.findIdx p=i:=(List.findIdx_eq hi).2 ⟨j,λg z=>hn g _ z (J7 _)⟩;rw[nj,this,J6 hi]
def zv4{p:vM→Bool}{l:List vM}{i:Nat}(hi:l.length≤i)(hn:∀g b,g<i→l[g]?=some b→p b=false):nj p l=-1:=by
 have:l.findIdx p=l.length:=List.findIdx_eq_length.2 λa ha=>by
  obtain⟨g,j,rfl⟩:=L5.1 ha;exact hn g _ J (J7 _)
 rw[nj,this,J1 J]
def fb(p:vM→Bool)(l:List vM):decide (0≤nj p l)=l.any p:=by
 unfold nj;by_cases h:l.findIdx p<l.length
 ·rw[J6 h,L3 J];exact (La.2 ⟨_,Mm h,List.findIdx_getElem⟩).symm
 ·rw[J1 h,Nv J];have g:=List.findIdx_eq_length.1 (Et:l.findIdx p=l.length);exact (Nk.2 λx j=>by simp[g x j]).symm
def zt1(l:List Int)(j:Nat)(x:Int)(h:j<l.length):Qj (l.map .i) j [.i x]=(l.set j x).map .i:=by
 unfold Qj;rw[K3,J6 h];simp[Nt,List.map_drop]
def gd(l:List Int)(u:Nat):Int:=l.getD u 0
def zxo(l:List Int)(g u:Nat)(x:Int)(h:g<l.length):gd (l.set g x) u=if u=g then x else gd l u:=by
 simp only[gd,J0,N1];by_cases e:g=u
 ·subst e;simp[h]
 ·simp[e,Ne.symm e]
def zuv{l:List Int}{x:Int}:x∈l↔∃u,u<l.length∧gd l u=x:=by
 rw[L5];constructor
 ·rintro⟨u,hu,e⟩;exact⟨u,hu,by simp[gd,J0,hu,e]⟩
 ·rintro⟨u,hu,e⟩;exact⟨u,hu,by simpa [gd,J0,hu] using e⟩
def Xl{l:List Int}{u:Nat}(h:u<l.length):l[u]?=some (gd l u):=by simp[gd,J0,h]
def sTo(l:List Int)(i:Nat):Prop:=∀u v,u<v→v<i→gd l u≤gd l v
def tn(l:List Int)(i g:Nat):Prop:=∀u v,u<v→v≤i→v≠g→gd l u≤gd l v
def swp(l:List Int)(g:Nat):List Int:=(l.set g (gd l (g-1))).set (g-1) (gd l g)
def zmd(l:List Int)(g:Nat):(swp l g).length=l.length:=by simp[swp]
def zce{l:List Int}{u:Nat}(j:0<g)(h:g<l.length):gd (swp l g) u=if u=g then gd l (g-1) else if u=g-1 then gd l g else gd l u:=by
 unfold swp;rw[zxo _ _ _ _ Ab,zxo _ _ _ _ h];by_cases e:u=g
 ·subst e;rw[J1 J];simp
 ·simp[e]
def swp_mem{l:List Int}(j:0<g)(h:g<l.length){x:Int}:x∈swp l g↔x∈l:=by
 rw[zuv,zuv,zmd];constructor
 ·rintro⟨u,hu,e⟩;rw[zce j h]at e;split at e
  ·exact⟨_,J,e⟩
  ·split at e
   ·exact⟨_,h,e⟩
   ·exact⟨_,hu,e⟩
 ·rintro⟨u,hu,e⟩;by_cases z:u=g
  ·exact⟨g-1,J,by rw[zce j h,J1 J,J6 rfl,←z,e]⟩
  ·by_cases A:u=g-1
   ·exact⟨g,h,by rw[zce j h,J6 rfl,←A,e]⟩
   ·exact⟨u,hu,by rw[zce j h,J1 z,J1 A,e]⟩
def swp_but{l:List Int}{i:Nat}(D:0<g)(G:g≤i)(hi:i<l.length)(A:tn l i g)(F:gd l g<gd l (g-1)):tn (swp l g) i (g-1):=by
 intro u v B hv C;rw[zce D J,zce D J];by_cases j:v=g
 ·rw[J6 j];by_cases z:u=g-1
  ·rw[J1 J,J6 z];omega
  ·rw[J1 J,J1 z];exact A u (g-1) J J J
 ·rw[J1 j,J1 C];by_cases E:u=g
  ·rw[J6 E];exact A (g-1) v J hv j
  ·rw[J1 E];by_cases z:u=g-1
   ·rw[J6 z];exact A g v J hv j
   ·rw[J1 z];exact A u v B hv j
def oq{l:List Int}{i:Nat}(A:g≤i)(z:tn l i g)(h:g=0∨gd l (g-1)≤gd l g):sTo l (i+1):=by
 intro u v j hv;by_cases e:v=g
 ·subst e;rcases h with h|h
  ·omega
  ·by_cases e:u=v-1
   ·rw[e];exact h
   ·exact Ot (z u (v-1) J J J) h
 ·exact z u v j J e
def zzn{l:List Int}{i:Nat}(h:sTo l i):tn l i i:=λu v g hv j=>h u v g J
def strict(l:List Int)(m:Nat):Prop:=∀u v,u<v→v<m→gd l u<gd l v
structure Cmp (l0 l:List Int) (m d:Nat):Prop where
 len:l.length=l0.length
 m1:1≤m
 md:m≤d
 st:strict l m
 mem:∀x,(∃u,u<m∧gd l u=x)↔∃u,u<d∧gd l0 u=x
 last:gd l (m-1)=gd l0 (d-1)
 rest:∀u,d-1≤u→gd l u=gd l0 u∨u<m
def rise_eq:∀{a b:List Int},a.Pairwise (· < ·)→b.Pairwise (· < ·)→(∀x,x∈a↔x∈b)→a=b
 |[],[],_,_,_=>rfl
 |[],y::b,_,_,h=>by have:=(h y).2 (K2 ..);simp at this
 |x::a,[],_,_,h=>by have:=(h x).1 (K2 ..);simp at this
 |x::a,y::b,ha,hb,h=>by
  rw[Nw]at ha hb;have z:x=y:=by
   have A:=(h x).1 (K2 ..);have g:=(h y).2 (K2 ..);rcases Ka.1 A with e|A
   ·exact e
   ·rcases Ka.1 g with e|g
    ·exact e.symm
    ·have:=hb.1 x A;have:=ha.1 y g;omega
  subst z;rw[rise_eq ha.2 hb.2 λB=>?_];constructor
  ·intro j;rcases Ka.1 ((h B).1 (Kf _ j)) with e|g
   ·have:=ha.1 B j;omega
   ·exact g
  ·intro j;rcases Ka.1 ((h B).2 (Kf _ j)) with e|g
   ·have:=hb.1 B j;omega
   ·exact g
def rp{a r:List LV}{m:Nat}(h:m≤a.length):(Qj a m r).take m=a.take m:=by
 unfold Qj;rw[K0,Og (by rw[Mc];omega),Oy,Nat.min_self]
def zwj{a r:List LV}{m:Nat}(h:m+r.length=a.length):(Qj a m r).length=a.length:=by
 unfold Qj;simp;omega
def zu4{v:LV}(h:v.dat=true):∀n,dats (Rl [v] n)=true
 |0=>rfl
 |n+1=>by simp[Rl,dats,h,zu4 h n]
end Go.Sv
