/- Texts of the evaluator, of the logic over it, of plain arithmetic. -/
import Derived.Test.YtodjkjimaheggaaGreatSvG1
import Derived.OpenShut
import Derived.Carry
import Derived.WalkKit
import Derived.ProofKit
import Derived.WideKeyArgs
import Derived.ChangeCalls
set_option linter.unusedSimpArgs false
set_option linter.defProp false
namespace Go.Sv
variable{g j A E R:Nat}{C:Int}{B:Program}{K:World}{Q:Bool}{U:List UInt64}{V:UInt64}{Z:TypeId}{vU:Type}{vR:Array Value}{vO:Option Nat}{vD:List Nat}{uV:Code}{F vY:Heap}{I:AV}{vG:Tr AV}{M:CM}{D v7:List LV}{G:Mp}{O uU:LV}{Y:LV→Mp→Prop}{vC:Cx}
section
section res
variable {P : Program} {c : Cx} {G : Mp} {K : LV → Mp → Prop}
def zp7(l h m o v i j:Nat)(A:l≤h)(B:h≤m):(h-l=0∧eq l h m o v i j=.emp∧l≠0)∨∃g,eq l h m o v i j=.sl o v (i+l*j) (h-l) j g∧∀r,g=some r→h-l≤r:=by
 unfold eq;cases C:Nat.beq l m with
 |true =>
  have E:=H0 C;cases z:Nat.beq l 0 with
  |true =>
   have D:=H0 z;have:h-l=0:=J
   refine .inr ⟨some 0,?_,λr _=>J⟩;rw[this,D];simp
  |false=>exact .inl ⟨J,rfl,λe=>by subst e;cases z⟩
 |false=>exact .inr ⟨_,rfl,λr e=>by cases e;show h-l≤m-l;omega⟩
def z96{lo hi:Option Nat}{o v i len esz:Nat}{room:Option Nat}(j:lo.getD 0≤hi.getD len)(B:hi.getD len≤len)(C:∀r,room=some r→len≤r) :
  ∃a,U4 esz lo hi none o v i len esz room=some a∧ow a=true∧((hi.getD len-lo.getD 0=0∧a=.emp∧lo.getD 0≠0)∨∃g,a=.sl o v (i+lo.getD 0*esz) (hi.getD len-lo.getD 0) esz g∧∀r,g=some r→hi.getD len-lo.getD 0≤r):=by
 generalize F:lo.getD 0=l at j;generalize H:hi.getD len=h at j B;have z:∀a,((h-l=0∧a=.emp∧l≠0)∨∃g,a=AV.sl o v (i+l*esz) (h-l) esz g∧∀r,g=some r→h-l≤r)→ow a=true:=by
  rintro a (⟨_,rfl,_⟩|⟨_,rfl,_⟩)<;>rfl
 unfold U4;rw[It,F,H];dsimp only;unfold yz;have D:Nat.ble l h=true:=Hy j;cases room with
 |some r =>
  have A:Nat.ble h ((some r).getD len)=true:=Hy (by have:=C r rfl;show h≤r;omega);rw[D,A];dsimp only;have:=zp7 l h r o v i esz j (by have:=C r rfl;omega);exact⟨_,rfl,z _ this,this⟩
 |none =>
  have A:Nat.ble h ((none:Option Nat).getD len)=true:=Hy B;rw[D,A];dsimp only;cases E:Nat.beq l 0 with
  |true =>
   have I:=H0 E;have:(h-l=0∧(AV.sl o v i h esz none)=.emp∧l≠0)∨∃g,AV.sl o v i h esz none=AV.sl o v (i+l*esz) (h-l) esz g∧∀r,g=some r→h-l≤r:=.inr ⟨none,by rw[I];simp,λr e=>Aq⟩;exact⟨_,rfl,z _ this,this⟩
  |false =>
   cases L:Nat.beq l h with
   |true =>
    have M:=H0 L;exact⟨_,rfl,rfl,.inl ⟨J,rfl,λe=>by subst e;cases E⟩⟩
   |false=>exact⟨_,rfl,rfl,.inr ⟨none,rfl,λr e=>Aq⟩⟩
def zfx{lo hi:Option Nat}{o v i len esz m:Nat}{room:Option Nat}(z:lo.getD 0≤hi.getD len)(A:hi.getD len≤m)(hm:m≤len)(C:∀r,room=some r→len≤r) :
  ∃a,U4 esz lo hi (some m) o v i len esz room=some a∧ow a=true∧((hi.getD len-lo.getD 0=0∧a=.emp∧lo.getD 0≠0)∨∃g,a=.sl o v (i+lo.getD 0*esz) (hi.getD len-lo.getD 0) esz g∧∀r,g=some r→hi.getD len-lo.getD 0≤r):=by
 generalize D:lo.getD 0=l at z;generalize E:hi.getD len=h at z A;have B:∀a,((h-l=0∧a=.emp∧l≠0)∨∃g,a=AV.sl o v (i+l*esz) (h-l) esz g∧∀r,g=some r→h-l≤r)→ow a=true:=by
  rintro a (⟨_,rfl,_⟩|⟨_,rfl,_⟩)<;>rfl
 unfold U4;rw[It,D,E];dsimp only;unfold yz;have j:m≤room.getD len:=by
  cases room with
  |none=>exact hm
  |some r=>have:=C r rfl;show m≤r;omega
 rw[show Nat.ble l h=true from Hy z,show Nat.ble h (room.getD len)=true from Hy (Is A j)];dsimp only;rw[show Nat.ble h m=true from Hy A,show Nat.ble m (room.getD len)=true from Hy j];dsimp only;have:=zp7 l h m o v i esz z A;exact⟨_,rfl,B _ this,this⟩
def zft{hi:Option Nat}{o v i len:Nat}{z:Option Nat}{a:AV}(h:U4 g vO hi none o v i len j z=some a)(A:vO.getD 0=0):∃B n,a=.sl o v B n j z:=by
 unfold U4 at h;split at h
 ·cases h
 rw[A]at h;unfold yz at h;split at h
 ·cases h
 split at h
 ·cases h
 dsimp only at h;cases z with
 |some r =>
  dsimp only at h;cases h;unfold eq;split
  ·rename_i C;have:=H0 C;subst this;exact⟨_,_,rfl⟩
  ·exact⟨_,_,rfl⟩
 |none =>
  dsimp only at h;cases h;exact⟨_,_,rfl⟩
def zqb{lo hi:Option Nat}{o v i len esz:Nat}{room:Option Nat}{a:AV}(h:U4 g lo hi none o v i len esz room=some a)(z:j=0→lo.getD 0=0)(A:I=.sl o v 0 len esz room):Y4 j I a:=by
 intro B;obtain⟨C,n,rfl⟩:=zft h (z B);subst A;exact .inl rfl
def zmp{lo hi:Option Nat}{o v i len esz:Nat}{a:AV}(h:U4 g lo hi none o v i len esz vO=some a)(z:j=0→lo.getD 0=0∧A=0)(C:Y4 A I (.sl o v E R esz vO)):Y4 j I a:=by
 intro B;obtain⟨D,n,rfl⟩:=zft h (z B).1;exact C (z B).2
def zmo{lo hi:Option Nat}{o v i len esz m:Nat}{room:Option Nat}{a:AV}(h:U4 g lo hi (some m) o v i len esz room=some a)(z:j=0→lo.getD 0=0)(hm:m≤len)(B:I=.sl o v 0 len esz room):Y4 j I a:=by
 intro C;have z:=z C;subst B;unfold U4 at h;split at h
 ·cases h
 rw[z]at h;unfold yz at h;split at h
 ·cases h
 split at h
 ·cases h
 dsimp only at h;split at h
 ·cases h
 split at h
 ·cases h
 cases h;have D:∃(A n r:Nat),eq 0 (hi.getD len) m o v i esz=.sl o v A n esz (some r)∧r≤m:=by
  unfold eq;cases Nat.beq 0 m with
  |true=>exact⟨_,_,0,rfl,Kn _⟩
  |false=>exact⟨_,_,m-0,rfl,Nat.sub_le _ _⟩
 obtain⟨A,n,r,e,E⟩:=D;rw[e];exact .inr ⟨r,rfl,J⟩
def zoq{lo hi:Option Nat}{o v i len esz m:Nat}{room:Option Nat}{a:AV}(h:U4 g lo hi (some m) o v i len esz room=some a)(z:lo.getD 0=0)(A:hi.getD len=m)(hm:0<m):a=.sl o v i m esz (some m):=by
 unfold U4 at h;split at h
 ·cases h
 rw[z,A]at h;unfold yz at h;split at h
 ·cases h
 split at h
 ·cases h
 dsimp only at h;split at h
 ·cases h
 split at h
 ·cases h
 cases h;unfold eq;have j:Nat.beq 0 m=false:=by
  cases j:Nat.beq 0 m with
  |false=>rfl
  |true=>have:=H0 j;omega
 rw[j];dsimp only;rw[show Nat.add i (Nat.mul 0 esz)=i by show i+0*esz=i;omega,show Nat.sub m 0=m from rfl]
def AR.lst'{l:List LV}{len esz:Nat}{a:AV}{o v i n:Nat}{l':List AV}(hf:c.Fz o)(hr:Qi c.H o v i n=some l')(hl:ARs c l l')(hle:j*esz+len*esz≤n)
  (ha:(len=0∧a=.emp)∨∃room,a=.sl o v (i+j*esz) len esz room∧∀r,room=some r→len≤r):AR c (.lst ((l.drop (j*esz)).take (len*esz)) len esz) a:=by
 have hn:=zdm hr;have gz:=hl.length;rcases ha with ⟨rfl,rfl⟩|⟨room,rfl,gg⟩
 ·simp only[Kh,Md];exact .lstEmp
 ·exact .lst hf gg Ab (zlt hr hle) ((hl.drop _).take _)
def zpk(g:Bool)(a b:Int):bj g (.int .i64 a) [.int .i64 b]=some (.int .i64 (match g with|true=>max a b|false=>min a b)):=by
 have j:Yd .i64 .i64=true:=rfl;simp only[bj,Wp,j];cases g with
 |true =>
  simp only[Uf];by_cases h:a<b
  ·rw[I7 h];simp only;congr 2;omega
  ·rw[Li h];simp only;congr 2;omega
 |false =>
  simp only[Uf];by_cases h:b<a
  ·rw[I7 h];simp only;congr 2;omega
  ·rw[Li h];simp only;congr 2;omega
def te(z:Bool)(a b d:Int):bj z (.int .i64 a) [.int .i64 b,.int .i64 d]=some (.int .i64 (match z with|true=>max (max a b) d|false=>min (min a b) d)):=by
 cases z with
 |true =>
  have g:=zpk true a b;have j:=zpk true (max a b) d;simp only[bj]at g j ⊢;cases hm:Wp true (.int .i64 a) (.int .i64 b) with
  |none=>rw[hm]at g;cases g
  |some r =>
   rw[hm]at g;simp only[Option.some.injEq]at g;subst g;exact j
 |false =>
  have g:=zpk false a b;have j:=zpk false (min a b) d;simp only[bj]at g j ⊢;cases hm:Wp false (.int .i64 a) (.int .i64 b) with
  |none=>rw[hm]at g;cases g
  |some r =>
   rw[hm]at g;simp only[Option.some.injEq]at g;subst g;exact j
def maxi_u(g:Bool)(a b:UInt64):bj g (.int .u64 (Int.ofNat a.toNat)) [.int .u64 (Int.ofNat b.toNat)]=some (.int .u64 (Int.ofNat (match g with|true=>if a<b then b else a|false=>if b<a then b else a:UInt64).toNat)):=by
 have j:Yd .u64 .u64=true:=rfl;simp only[bj,Wp,j];cases g with
 |true =>
  simp only[Uf,zgq];by_cases h:a<b
  ·rw[I7 h,Hv h]
  ·rw[Li h,Hs h]
 |false =>
  simp only[Uf,zgq];by_cases h:b<a
  ·rw[I7 h,Hv h]
  ·rw[Li h,Hs h]
def bytesA_map:∀l:List UInt8,Vy.bytesA (l.map λb=>AV.int .u8 (Int.ofNat b.toNat))=some (On l)
 |[]=>rfl
 |b::l=>by
  have g:=b.toNat_lt;have h:Nat.blt b.toNat 256=true:=by unfold Nat.blt;exact Hy g
  simp only[J3,Vy.bytesA,h,Ky,bytesA_map l,On]
def ARs_b:∀{j:List UInt8} {g:List AV},ARs c (j.map LV.b) g→g=j.map λb=>AV.int .u8 (Int.ofNat b.toNat)
 |[],g,h=>Br
 |b::j,g,h=>by
  cases h with
  |cons h z=>cases h;rw[ARs_b z];rfl
def ss(O:HSim c G){x:LV}{a:AV}{K:List LV→Prop}(D:AR c x a)(h:bytL G x K):∃l j,ARs c l j∧K l∧((a=.nilSl∧j=[])∨∃o v i room,a=.sl o v i j.length 1 room∧Qi c.H o v i j.length=some j):=by
 unfold bytL at h;split at h
 ·cases D;exact⟨[],[],.nil,h,.inl ⟨rfl,rfl⟩⟩
 ·rename_i p k;split at h
  ·rename_i l len E Q st R;obtain⟨T,rfl,h⟩:=h;cases D with
   | @dy _ _ k' hh _ e hk U _ =>
    obtain⟨r0,H,A⟩:=O.obj p _ _ _ R e;have B:=U J;rcases A with ⟨A,F⟩|⟨o,v,room,t,I,j,A,F,V,X,L,_⟩
    ·subst F;have:l=[]:=Ic D4;subst this;exact⟨[],[],.nil,h,.inl ⟨B.trans A,rfl⟩⟩
    ·have g:j.length=len*1:=by rw[←L.length];exact H
     have z:=Vn (i:=0) (n:=len*1) F X V J;rw[K2]at g z;refine⟨l,j,L,h,.inr ⟨o,v,0,room,by rw[B,A,g],?_⟩⟩;rw[g,z,J6,H7 J]
  ·exact h.elim
 ·rename_i l len E;obtain⟨rfl,C,h⟩:=h;cases D with
  |lst hf Y M z Z =>
   have g:=zdm z;rw[K2]at g z;refine⟨l,_,Z,h,.inr ⟨_,_,_,_,by rw[g],by rw[g];exact z⟩⟩
  |lstNil=>exact absurd rfl C
  |lstEmp=>exact absurd rfl C
 ·exact h.elim
def OpL_ok(z:HSim c G){ρ:Mq}(B:Nv c ρ vG){o:LOp}(g:o.ok=true)(h:Nm P ρ G o K):Rj P c G K (Oi P (ρA vG) c.H o.r):=by
 cases o with
 |move x=>exact .same z (Oe B g) h
 |pick cc a b =>
  simp only[LOp.ok,Hq]at g;have hc:=Oe B g.1.1;have Z:=Oe B g.1.2;have hb:=Oe B g.2;simp only[Nm]at h;simp only[LOp.r,Oi];generalize cc.ev ρ=cv at h hc;generalize cc.r.ev (ρA vG)=ca at hc ⊢;cases cv<;>first|exact h.elim|skip
  rename_i t;cases hc;dsimp only at h;split at h
  ·rename_i x y j hy;rw[j]at Z;rw[hy]at hb;cases t with
   |true=>exact .same z Z h
   |false=>exact .same z hb h
  ·cases t with
   |true=>exact .same z Z (h.1 rfl)
   |false=>exact .same z hb (h.2 rfl)
 |alloc l=>exact zl0 z (zh c g) h
 |box x =>
  have j:=Oe B g;simp only[Nm]at h;simp only[LOp.r,Oi];split at h
  ·rename_i l X;obtain⟨l',E,C⟩:=j.cells X;rw[E];exact zl0 z C h
  ·exact h.elim
 |build cs ps =>
  simp only[LOp.ok,Hq]at g;simp only[Nm]at h;simp only[LOp.r,Oi];split at h
  ·rename_i l X;obtain⟨l',E,C⟩:=zmz B g.2 (zh c g.1) X;rw[E];exact .same z (.agg C) h
  ·exact h.elim
 |buildSl A len cs ps =>
  simp only[LOp.ok,Hq]at g;simp only[Nm]at h;simp only[LOp.r,Oi];split at h
  ·rename_i l X;obtain⟨l',E,C⟩:=zmz B g.2 (zh c g.1) X;rw[E];exact rj z C h.1 (λr e=>by cases e;rfl) h.2
  ·exact h.elim
 |load1 x =>
  have j:=Oe B g;simp only[Nm]at h;simp only[LOp.r,Oi];obtain⟨o,v,i,w,b,E,C,M,H⟩:=zuv z j h;rw[E];dsimp only;rw[C];exact .same z M H
 |loadN n x =>
  have j:=Oe B g;simp only[Nm]at h;simp only[LOp.r,Oi];obtain⟨o,v,i,l',l,E,C,M,H⟩:=zm9 z j h;rw[E];dsimp only;rw[C];exact .same z (.agg M) H
 |store n x y =>
  simp only[LOp.ok,Hq]at g;have j:=Oe B g.1;have hy:=Oe B g.2;simp only[Nm]at h;simp only[LOp.r,Oi];split at h
  ·rename_i l X;obtain⟨l',p1,p2⟩:=hy.cells X;obtain⟨o,v,i,H',c',G',E,C,M,H,O,q6⟩:=zal z j p2 h.2;rw[E];dsimp only;rw[p1];dsimp only;have hb:Nat.beq l'.length n=true:=by rw[←p2.length,h.1];exact It _
   rw[hb];dsimp only;rw[C];exact⟨c',.tup [],G',M,H,O,.tup .nil,q6⟩
  ·exact h.elim
 |nilChk x =>
  have j:=Oe B g;simp only[Nm]at h;simp only[LOp.r,Oi];generalize x.ev ρ=v at h j;generalize x.r.ev (ρA vG)=a at j ⊢;split at h
  ·have h0:=j;cases j;exact .same z h0 h
  ·have h0:=j;cases j;exact .same z h0 h
  ·have h0:=j;cases j;exact .same z h0 h
  ·have h0:=j;cases j;exact .same z h0 h
  ·exact h.elim
 |bin op jF t x y =>
  simp only[LOp.ok,Hq]at g;exact .ret z (s8 (Oe B g.1) (Oe B g.2) h)
 |un op x=>exact .ret z (unL_ok (Oe B g) h)
 |cvInt k x =>
  obtain⟨k',n,E,v,C,M⟩:=cvL_ok (Oe B g) (show t7 k (x.ev ρ) (λv=>K v G) from h);simp only[LOp.r,Oi];rw[E];exact .same z C M
 |cvStr x =>
  have j:=Oe B g;simp only[Nm]at h;simp only[LOp.r,Oi];obtain⟨l,l',E,⟨bs,rfl,C⟩,M⟩:=ss z j h;have gZ:=ARs_b E;rcases M with ⟨M,H⟩|⟨o,v,i,room,M,H⟩
  ·rw[M];rw[H]at gZ;have:bs=[]:=by cases bs with
    |nil=>rfl
    |cons _ _=>cases gZ
   subst this;exact .same z (.str []) C
  ·rw[M];show Rj P c G K (match Qi c.H o v i l'.length with
    |some r=>match Vy.bytesA r with
     |some n=>OR.val (.str l'.length n) c.H
     |none=>.no
    |none=>.no)
   rw[H];dsimp only;rw[gZ,bytesA_map];dsimp only;exact .same z (.str' N rfl) C
 |cvSame x =>
  have j:=Oe B g;simp only[Nm]at h;simp only[LOp.r,Oi];generalize x.ev ρ=v at h j;generalize x.r.ev (ρA vG)=a at j ⊢;split at h
  ·cases j;exact .same z (.str _) h
  ·exact h.elim
 |cvBytes x =>
  have j:=Oe B g;simp only[Nm]at h;simp only[LOp.r,Oi];generalize x.ev ρ=v at h j;generalize x.r.ev (ρA vG)=a at j ⊢;split at h
  ·rename_i l;cases j;exact rj z (zoj l c) N (λr e=>Aq) h
  ·exact h.elim
 |mkFunc f a b =>
  simp only[LOp.ok,Hq]at g;exact .same z (.fn (zu7 B g.1) (zu7 B g.2)) h
 |mkSl A jG l cc =>
  simp only[LOp.ok,Hq]at g;have X:=Oe B g.1.2;have hc:=Oe B g.2;simp only[Nm]at h;simp only[LOp.r,Oi];generalize l.ev ρ=lv at h X;generalize l.r.ev (ρA vG)=la at X ⊢;generalize cc.ev ρ=cv at h hc;generalize cc.r.ev (ρA vG)=ca at hc ⊢;split at h
  ·rename_i n m;obtain⟨rfl,F,T,L,h4⟩:=h;cases X;cases hc;obtain⟨k,rfl⟩:=Hr F;have b1:Nat.ble k k=true:=Hy (Hw _);have b2:Nat.ble k 1048576=true:=Hy J;show Rj P c G K (match Nat.ble k k with
    |true=>match Nat.ble k 1048576 with
     |true=>match newObj c.H (S8 (toAs jG) k) with
      |some (o,H')=>OR.val (.sl o 0 0 k A (some k)) H'
      |none=>.no
     |false=>.no
    |false=>.no)
   rw[b1,b2];exact rj z ((zh c g.1.1).rep k) (by rw[z5f,L]) (λr e=>by cases e;rfl) h4
  ·exact h.elim
 |slStr x lo hi =>
  simp only[LOp.ok,Hq]at g;have j:=Oe B g.1.1;simp only[Nm]at h;simp only[LOp.r,Oi];generalize x.ev ρ=v at h j;generalize x.r.ev (ρA vG)=a at j ⊢;split at h
  ·rename_i l;cases j;obtain⟨gg,U,E,C,M⟩:=U7 B g.1.2 h;obtain⟨Q,R,H,O,F,T,L⟩:=U7 B g.2 M;rw[E,H];dsimp only;rw[C,O];have b1:Nat.ble U R=true:=Hy F;have b2:Nat.ble R l.length=true:=Hy T;rw[b1,b2];dsimp only;refine .same z (.str' Ab ?_) L;rw[packL_take,packL_drop];rfl
  ·exact h.elim
 |slSl A x lo hi =>
  simp only[LOp.ok,Hq]at g;have j:=Oe B g.1.1;simp only[Nm]at h;simp only[LOp.r,Oi];have gK:Pf (ρA vG) none=some none:=rfl;rw[gK];split at h
  ·rename_i hv;rw[hv]at j;generalize x.r.ev (ρA vG)=a at j ⊢;cases j;obtain⟨gg,U,E,C,M⟩:=U7 B g.1.2 h;obtain⟨Q,R,H,O,F,T,L⟩:=U7 B g.2 M;rw[E,H];dsimp only;rw[C,O,F,T];exact .same z .nilSl L
  ·rename_i p k hv;rw[hv]at j;generalize x.r.ev (ρA vG)=a at j ⊢;split at h
   ·rename_i l len esz gz st Y;obtain⟨gA,rfl,h⟩:=h;obtain⟨gg,U,E,C,M⟩:=U7 B g.1.2 h;obtain⟨Q,R,H,O,F,T,L⟩:=U7 B g.2 M;rw[E,H];cases j with
    | @dy _ _ k' hh _ e hk Z _ =>
     obtain⟨r0,r1,V⟩:=z.obj p _ _ _ Y e;have gD:=Z J;rcases V with ⟨V,r3⟩|⟨o,v,room,t,gL,l',V,r3,r4,r5,r6,r7,r8⟩
     ·subst r3;have e1:U=0:=J
      have e2:R=0:=J
      subst e1 e2;rw[gD,V];dsimp only;rw[C,show Q.getD 0=0 from O];exact .same z (.vw e hk (λ_=>.inl ⟨rfl,.inl rfl⟩) rfl (λ_ _=>trivial)) L
     ·obtain⟨a2,p1,p2,p3⟩:=z96 (lo:=gg) (hi:=Q) (o:=o) (v:=v) (i:=0) (esz:=esz) (len:=len) (room:=room) B4 B8 (λr e'=>(r7 r e').2);rw[gD,V];dsimp only;rw[p1];rw[C,O,Iq]at p3;refine .same z (.vw e hk (λ_=>?_) p2 (λ_=>zqb p1 (λh0=>by rw[C];exact h0) V)) L;rcases p3 with ⟨p3,p4,p5⟩|⟨I,p4⟩
      ·exact .inl ⟨p3,.inr ⟨p4,p5⟩⟩
      ·exact .inr ⟨o,v,len,esz,room,I,V,p4⟩
   ·exact h.elim
  ·rename_i p k l0 len hv;rw[hv]at j;generalize x.r.ev (ρA vG)=a at j ⊢;split at h
   ·rename_i l gF esz gz st Y;obtain⟨gA,rfl,h⟩:=h;obtain⟨gg,U,E,C,M⟩:=U7 B g.1.2 h;obtain⟨Q,R,H,O,F,T,L⟩:=U7 B g.2 M;rw[E,H];cases j with
    | @vw _ _ _ _ k' hh _ e hk Z _ hz =>
     have jH:=(z.obj p _ _ _ Y e).1;rcases Z J with ⟨r3,r4⟩|⟨o,v,gC,D,room,I,r3,r4,r9⟩
     ·subst r3;have e1:U=0:=J
      have e2:R=0:=J
      subst e1 e2;rcases r4 with rfl|⟨rfl,r5⟩
      ·dsimp only;rw[C,show Q.getD 0=0 from O];exact .same z (.vw e hk (λ_=>.inl ⟨rfl,.inl rfl⟩) rfl (λ_ _=>trivial)) L
      ·dsimp only;rw[C,show Q.getD 0=0 from O];exact .same z (.vw e hk (λ_=>.inl ⟨rfl,.inr ⟨rfl,r5⟩⟩) rfl (λ_ _=>trivial)) L
     ·subst r3;obtain⟨_,w1,w2,w3,_⟩:=c7 z Y e;subst w2 w3;obtain⟨a2,p1,p2,p3⟩:=z96 (lo:=gg) (hi:=Q) (o:=o) (v:=v) (i:=l0*D) (esz:=D) (len:=len) (room:=I) B4 B8 r9;rw[r4];dsimp only;rw[p1];rw[C,O]at p3;refine .same z (.vw e hk (λ_=>?_) p2 (λq=>zmp p1 (λh0=>⟨by rw[C];omega,J⟩) (r4 ▸ hz q))) L;rcases p3 with ⟨p3,p4,p6⟩|⟨g8,p4,p5⟩
      ·exact .inl ⟨p3,.inr ⟨p4,J⟩⟩
      ·exact .inr ⟨o,v,_,D,room,g8,rfl,by rw[p4,Im],p5⟩
   ·exact h.elim
  ·rename_i l len esz hv;rw[hv]at j;generalize x.r.ev (ρA vG)=a at j ⊢;obtain⟨rfl,h⟩:=h;obtain⟨gg,U,E,C,M⟩:=U7 B g.1.2 h;obtain⟨Q,R,H,O,F,T,L⟩:=U7 B g.2 M;rw[E,H];have gU:len=0→l=[]→K (.lst [] 0 esz) G:=λe1 e2=>by
    have e3:U=0:=J
    have e4:R=0:=J
    subst e2 e3 e4;simpa using L
   cases j with
   |lst hf gI gG hr X =>
    obtain⟨a2,p1,p2,p3⟩:=z96 (lo:=gg) (hi:=Q) B4 B8 gI;dsimp only;rw[p1];rw[C,O]at p3;refine .same z (.lst' hf hr X ?_ (p3.imp (λh=>⟨h.1,h.2.1⟩) id)) L;rw[←Im];exact H8 _ J
   |lstNil =>
    have e3:U=0:=J
    have e4:R=0:=J
    dsimp only;rw[C,show Q.getD 0=R from O,e3,e4];exact .same z .lstNil (gU rfl rfl)
   |lstEmp =>
    have e3:U=0:=J
    have e4:R=0:=J
    dsimp only;rw[C,show Q.getD 0=R from O,e3,e4];exact .same z .lstEmp (gU rfl rfl)
  ·exact h.elim
 |slSl3 A x lo hi mx =>
  simp only[LOp.ok,Hq]at g;have j:=Oe B g.1.1.1;have jB:n9 (some mx)=true:=g.2;simp only[Nm]at h;simp only[LOp.r,Oi];split at h
  ·rename_i p k hv;rw[hv]at j;generalize x.r.ev (ρA vG)=a at j ⊢;split at h
   ·rename_i l len esz gz st Y;obtain⟨gA,rfl,h⟩:=h;obtain⟨gg,U,E,C,M⟩:=U7 B g.1.1.2 h;obtain⟨Q,R,H,O,q6⟩:=U7 B g.1.2 M;obtain⟨gM,gO,q7,q8,h0,F,T,L,h4⟩:=U7 B jB q6;simp only[Jt]at q7;rw[E,H,q7];cases j with
    | @dy _ _ k' hh _ e hk Z _ =>
     obtain⟨r0,r1,V⟩:=z.obj p _ _ _ Y e;have gD:=Z J;have gK:gM=some gO:=by
      cases gM with
      |none=>unfold Pf at q7;dsimp only at q7;split at q7<;>cases q7
      |some m=>simp at q8;rw[q8]
     rcases V with ⟨V,r3⟩|⟨o,v,room,t,gL,l',V,r3,r4,r5,r6,r7,r8⟩
     ·omega
     ·obtain⟨a2,p1,p2,p3⟩:=zfx (lo:=gg) (hi:=Q) (o:=o) (v:=v) (i:=0) (esz:=esz) (len:=len) (room:=room) (m:=gO) B4 B8 L (λr e'=>(r7 r e').2);rw[gD,V,gK];dsimp only;rw[p1];rw[C,O,Iq]at p3;unfold zf at h4;split at h4
      ·rename_i jC;obtain⟨f1,f2,f3⟩:=J4 jC;have hc:=zoq p1 (by rw[C];exact f1) (by rw[O];exact f2) J;exact .same z (.vf e hk (λ_=>⟨o,v,len,esz,room,V,by rw[hc,f2]⟩) p2) h4
      refine .same z (.vw e hk (λ_=>?_) p2 (λ_=>zmo p1 (λh0=>by rw[C];exact h0) L V)) h4;rcases p3 with ⟨p3,p4,p5⟩|⟨I,p4⟩
      ·exact .inl ⟨p3,.inr ⟨p4,p5⟩⟩
      ·exact .inr ⟨o,v,len,esz,room,I,V,p4⟩
   ·exact h.elim
  ·rename_i l len esz hv;rw[hv]at j;generalize x.r.ev (ρA vG)=a at j ⊢;obtain⟨rfl,h⟩:=h;obtain⟨gg,U,E,C,M⟩:=U7 B g.1.1.2 h;obtain⟨Q,R,H,O,q6⟩:=U7 B g.1.2 M;obtain⟨gM,gO,q7,q8,h0,F,T,L,h4⟩:=U7 B jB q6;simp only[Jt]at q7;rw[E,H,q7];have gK:gM=some gO:=by
    cases gM with
    |none=>unfold Pf at q7;dsimp only at q7;split at q7<;>cases q7
    |some m=>simp at q8;rw[q8]
   cases j with
   |lst hf gI gG hr X =>
    obtain⟨a2,p1,p2,p3⟩:=zfx (lo:=gg) (hi:=Q) (m:=gO) B4 B8 L gI;rw[gK];dsimp only;rw[p1];rw[C,O]at p3;refine .same z (.lst' hf hr X ?_ (p3.imp (λh=>⟨h.1,h.2.1⟩) id)) h4;rw[←Im];exact H8 _ J
   |lstNil=>omega
   |lstEmp=>omega
  ·exact h.elim
 |fieldAddr gT x =>
  have j:=Oe B g;simp only[Nm]at h;simp only[LOp.r,Oi];generalize x.ev ρ=v at h j;generalize x.r.ev (ρA vG)=a at j ⊢;split at h
  ·cases j with
   |ptr e=>exact .same z (.ptr e) h
  ·cases j with
   |dptr e hk Z=>exact .same z (.dptr e hk (λq=>⟨by rw[(Z q).1];rfl,(Z q).2⟩)) h
  ·cases j with
   |cptr hf hr X =>
    dsimp only;rw[show ∀a b c:Nat,Nat.add (a+b) c=a+(b+c) from λa b c=>J2 a b c];exact .same z (.cptr hf hr X) h
  ·exact h.elim
 |field jF n gT x =>
  have j:=Oe B g;simp only[Nm]at h;simp only[LOp.r,Oi];generalize x.ev ρ=v at h j;generalize x.r.ev (ρA vG)=a at j ⊢;split at h
  ·rename_i l;cases j with
   |agg X =>
    dsimp only;cases jF with
    |true =>
     obtain⟨F,T⟩:=h;have g9:=X.length;rename_i l';have b1:Nat.ble (Nat.add gT n) l'.length=true:=Hy (show gT+n≤l'.length by rw[←g9];exact F);refine .ret z ?_;simp only[dh,Yx,b1];exact .mk (.agg ((X.drop gT).take n)) T
    |false =>
     obtain⟨v,hv,h⟩:=h;obtain⟨a,E,C⟩:=X.get hv;refine .ret z ?_;simp only[dh];rw[E];exact .mk C h
  ·exact h.elim
 |ixAddr A x i =>
  simp only[LOp.ok,Hq]at g;have j:=Oe B g.1;have hi:=Oe B g.2;simp only[Nm]at h;simp only[LOp.r,Oi];generalize i.ev ρ=iv at h hi;generalize i.r.ev (ρA vG)=ia at hi ⊢;generalize x.ev ρ=v at h j;generalize x.r.ev (ρA vG)=a at j ⊢
  have gV : ∀ {kk : IntKind} {n : Int} (v : LV) (a : AV), AR c v a → ixO G A v n (fun v => K v G) → Rj P c G K (match a, AV.int kk n with
     |.sl o v i len esz _,.int _ (.ofNat n)=>match Nat.blt n len with
      |true=>match Nat.beq esz A with
       |true=>.val (.ptr o v (Nat.add i (Nat.mul n esz))) c.H
       |false=>.no
      |false=>.no
     |_,_=>.no):=by
   clear h j;intro kk n v a j h;unfold ixO at h;have gE:∀{o v jL len esz:Nat} {room:Option Nat} {m:Nat} {y:LV},m<len→esz=A→AR c y (.ptr o v (jL+m*esz))→K y G→Rj P c G K (match AV.sl o v jL len esz room,AV.int kk (Int.ofNat m) with
     |.sl o v i len esz _,.int _ (.ofNat n)=>match Nat.blt n len with
      |true=>match Nat.beq esz A with
       |true=>.val (.ptr o v (Nat.add i (Nat.mul n esz))) c.H
       |false=>.no
      |false=>.no
     |_,_=>.no):=by
    intro o v jL len esz room m y F T L h4;subst T;have b1:Nat.blt m len=true:=by unfold Nat.blt;exact Hy F
    dsimp only;rw[b1,It];exact .same z L h4
   split at h
   ·rename_i p k;split at h
    ·rename_i l len esz gz st Y;obtain⟨gA,rfl,F,T,L⟩:=h;obtain⟨m,rfl⟩:=Hr F;cases j with
     | @dy _ _ k' hh _ e hk Z _ =>
      obtain⟨r0,r1,V⟩:=z.obj p _ _ _ Y e;have gD:=Z J;rcases V with ⟨V,r3⟩|⟨o,v,room,t,gL,l',V,_⟩
      ·omega
      ·rw[gD,V];refine gE (room:=room) (y:=.dptr p k (m*esz)) J rfl (.dptr e hk (λ_=>⟨by rw[Iq],len,esz,room,V⟩)) L
    ·exact h.elim
   ·rename_i p k lo len;split at h
    ·rename_i l gF esz gz st Y;obtain⟨gA,rfl,F,T,L⟩:=h;obtain⟨m,rfl⟩:=Hr F;cases j with
     | @vw _ _ _ _ k' hh _ e hk Z _ _ =>
      have jH:=(z.obj p _ _ _ Y e).1;rcases Z J with ⟨r3,r4⟩|⟨o,v,gC,D,room,I,r3,r4,r9⟩
      ·omega
      ·have e2:=e;rw[r3]at e2;obtain⟨_,w1,w2,w3,_⟩:=c7 z Y e2;subst w2 w3;rw[r4];refine gE (room:=I) (y:=.dptr p k ((lo+m)*D)) J rfl (.dptr e hk (λ_=>⟨by rw[Im],gC,D,room,r3⟩)) L
    ·exact h.elim
   ·rename_i l len esz;obtain⟨rfl,F,T,L⟩:=h;obtain⟨m,rfl⟩:=Hr F;cases j with
    | @lst _ _ _ _ _ _ rm _ hf gI gG hr X =>
     refine gE (room:=rm) (y:=.cptr l (m*esz)) J rfl ?_ L;rw[←gG]at hr;exact .cptr hf hr X
    |lstNil=>omega
    |lstEmp=>omega
   ·exact h.elim
  split at h
  ·cases hi;exact gV v a j h
  ·cases hi;exact gV v a j h
  ·exact h.elim
 |ixStr x i =>
  simp only[LOp.ok,Hq]at g;have j:=Oe B g.1;have hi:=Oe B g.2;simp only[Nm]at h;simp only[LOp.r,Oi];generalize i.ev ρ=iv at h hi;generalize i.r.ev (ρA vG)=ia at hi ⊢;generalize x.ev ρ=v at h j;generalize x.r.ev (ρA vG)=a at j ⊢;have gE:∀{l:List UInt8} {k:IntKind} {m:Nat},m<l.length→K (.b (l.getD m 0)) G→Rj P c G K (match AV.str l.length (On l),AV.int k (Int.ofNat m) with
    |.str len n,.int _ (.ofNat i)=>match Nat.blt i len with
     |true=>.val (.int .u8 (Int.ofNat (Nat.mod (Nat.div n (Nat.pow 256 i)) 256))) c.H
     |false=>.no
    |_,_=>.no):=by
   intro l k m F T;have b1:Nat.blt m l.length=true:=by unfold Nat.blt;exact Hy F
   dsimp only;rw[b1];refine .same z (.b' ?_) T;have:=zhm (Ht F);show Int.ofNat (On l/256^m%256)=_;rw[this,Hn,Ht F];rfl
  split at h
  ·rename_i l n;obtain⟨F,T,L⟩:=h;obtain⟨m,rfl⟩:=Hr F;cases j;cases hi;exact gE (k:=.i64) J L
  ·rename_i l n;obtain⟨T,L⟩:=h;cases j;cases hi;exact gE (k:=.u64) T L
  ·rename_i l n;obtain⟨T,L⟩:=h;cases j;cases hi;exact gE (k:=.u8) T L
  ·exact h.elim
 |extract i x =>
  have j:=Oe B g;simp only[Nm]at h;simp only[LOp.r,Oi];generalize x.ev ρ=v at h j;generalize x.r.ev (ρA vG)=a at j ⊢;split at h
  ·rename_i l;cases j with
   |tup X =>
    dsimp only;obtain⟨v,hv,h⟩:=h;obtain⟨a,E,C⟩:=X.get hv;refine .ret z ?_;rw[E];exact .mk C h
  ·exact h.elim
 |lenStr x =>
  have j:=Oe B g;simp only[Nm]at h;simp only[LOp.r,Oi];generalize x.ev ρ=v at h j;generalize x.r.ev (ρA vG)=a at j ⊢;split at h
  ·cases j;exact .same z (.i _) h
  ·exact h.elim
 |lenSl x =>
  obtain⟨n,E,C⟩:=o7 z (Oe B g) (show lenL G (x.ev ρ) (λn=>K (.i n) G) from h);simp only[LOp.r,Oi];rcases C with ⟨C,rfl⟩|⟨C,rfl⟩|⟨o,v,i,esz,room,C⟩
  ·rw[C];exact .same z (.i 0) E
  ·rw[C];exact .same z (.i 0) E
  ·rw[C];exact .same z (.i n) E
 |maxi mx x y =>
  simp only[LOp.ok,Hq]at g;have j:=Oe B g.1;have hy:=Oe B g.2;simp only[Nm]at h;simp only[LOp.r,Oi,J3,List.map_nil];generalize y.ev ρ=yv at h hy;generalize y.r.ev (ρA vG)=ya at hy ⊢;generalize x.ev ρ=v at h j;generalize x.r.ev (ρA vG)=a at j ⊢;split at h
  ·cases j;cases hy;dsimp only;rw[zpk];exact .same z (.i _) h
  ·cases j;cases hy;dsimp only;rw[maxi_u];exact .same z (.u _) h
  ·exact h.elim
 |max3 mx x y jG =>
  simp only[LOp.ok,Hq]at g;have j:=Oe B g.1.1;have hy:=Oe B g.1.2;have hz:=Oe B g.2;simp only[Nm]at h;simp only[LOp.r,Oi,J3,List.map_nil];generalize jG.ev ρ=zv at h hz;generalize jG.r.ev (ρA vG)=za at hz ⊢;generalize y.ev ρ=yv at h hy;generalize y.r.ev (ρA vG)=ya at hy ⊢;generalize x.ev ρ=v at h j;generalize x.r.ev (ρA vG)=a at j ⊢;cases v<;>first|exact h.elim|skip
  cases yv<;>first|exact h.elim|skip
  cases zv<;>first|exact h.elim|skip
  cases j;cases hy;cases hz;dsimp only;rw[te];exact .same z (.i _) h
 |ixAddrArr len A x i =>
  simp only[LOp.ok,Hq]at g;have j:=Oe B g.1;have hi:=Oe B g.2;simp only[Nm]at h;simp only[LOp.r,Oi];generalize i.ev ρ=iv at h hi;generalize i.r.ev (ρA vG)=ia at hi ⊢;generalize x.ev ρ=v at h j;generalize x.r.ev (ρA vG)=a at j ⊢;cases iv<;>first|exact h.elim|skip
  cases hi;obtain⟨F,T,h⟩:=h;rename_i n;obtain⟨m,rfl⟩:=Hr F;have b1:Nat.blt m len=true:=by unfold Nat.blt;exact Hy J
  cases v<;>first|exact h.elim|skip
  ·cases j with
   |ptr e =>
    show Rj P c G K (match Nat.blt m len with|true=>_|false=>_);rw[b1];refine .same z ?_ h;have e0:=AR.ptr (i:=0) e;rename_i p jL o;show AR c (.ptr p (jL+m*A)) (.ptr o 0 (jL+m*A));exact .ptr e
  ·cases j with
   |dptr e hk Z =>
    show Rj P c G K (match Nat.blt m len with|true=>_|false=>_);rw[b1];exact .same z (.dptr e hk (λq=>⟨by rw[(Z q).1];rfl,(Z q).2⟩)) h
  ·cases j with
   |cptr hf hr X =>
    show Rj P c G K (match Nat.blt m len with|true=>_|false=>_);rw[b1];refine .same z ?_ h;rename_i o vv jj ll;rw[show Nat.add (jj+_) (Nat.mul m A)=jj+(_+m*A) from J2 _ _ _];exact .cptr hf hr X
 |ixArr jF len A x i =>
  simp only[LOp.ok,Hq]at g;have j:=Oe B g.1;have hi:=Oe B g.2;simp only[Nm]at h;simp only[LOp.r,Oi];generalize i.ev ρ=iv at h hi;generalize i.r.ev (ρA vG)=ia at hi ⊢;generalize x.ev ρ=v at h j;generalize x.r.ev (ρA vG)=a at j ⊢;cases iv<;>first|exact h.elim|skip
  cases hi;obtain⟨F,T,h⟩:=h;rename_i n;obtain⟨m,rfl⟩:=Hr F;have b1:Nat.blt m len=true:=by unfold Nat.blt;exact Hy J
  cases v<;>first|exact h.elim|skip
  cases j with
  |agg X =>
   show Rj P c G K (match Nat.blt m len with|true=>_|false=>_);rw[b1];simp only[If]at h;cases jF with
   |true =>
    obtain⟨F,T⟩:=h;have g9:=X.length;rename_i l';have b2:Nat.ble (Nat.add (Nat.mul m A) A) l'.length=true:=Hy (show m*A+A≤l'.length by rw[←g9];exact F);refine .ret z ?_;simp only[dh,Yx,b2];exact .mk (.agg ((X.drop _).take _)) T
   |false =>
    obtain⟨v,hv,h⟩:=h;obtain⟨a,E,C⟩:=X.get hv;refine .ret z ?_;simp only[dh];show Q4 c _ (_);rw[show Nat.mul m A=m*A from rfl,E];exact .mk C h
 |lenArr n x =>
  simp only[Nm]at h;simp only[LOp.r,Oi];exact .same z (.i _) h
 |appZ A jG s x =>
  simp only[LOp.ok,Hq]at g;have hz:=zh c g.1.1;have jg:=Oe B g.1.2;have j:=Oe B g.2;simp only[Nm]at h;simp only[LOp.r,Oi];generalize x.ev ρ=v at h j;generalize x.r.ev (ρA vG)=a at j ⊢;split at h
  ·rename_i n;obtain⟨F,T,L,h4⟩:=h;obtain⟨m,rfl⟩:=Hr F;cases j;have b1:Nat.ble m 1048576=true:=Hy J;show Rj P c G K (match Nat.ble m 1048576 with
    |true=>V5 c.H A (s.r.ev (ρA vG)) m (S8 (toAs jG) m)
    |false=>.no)
   rw[b1];exact zyv z jg (hz.rep m) (by rw[z5f,L]) h4
  ·exact h.elim
 |appG A s x =>
  simp only[LOp.ok,Hq]at g;have jg:=Oe B g.1;have j:=Oe B g.2;simp only[Nm]at h;simp only[LOp.r,Oi];obtain⟨n,l,l',E,C,M,H,O⟩:=zxo z j h;rw[E];have b1:Nat.ble n 1048576=true:=Hy H;dsimp only;rw[b1];exact zyv z jg C M O
 |copy A d x =>
  simp only[LOp.ok,Hq]at g;have hd:=Oe B g.1;have j:=Oe B g.2;simp only[Nm]at h;simp only[LOp.r,Oi];obtain⟨n,l,l',E,C,M,H⟩:=zxo z j h;rw[E];dsimp only;have gY:∀a b:Nat,Py a b=min a b:=λa b=>by
   unfold Py;cases hb:Nat.ble a b with
   |true=>have:=H6 hb;simp only;omega
   |false =>
    have:¬a≤b:=λq=>by rw[Hy q]at hb;cases hb
    simp only;omega
  generalize d.ev ρ=v at H hd;generalize d.r.ev (ρA vG)=a at hd ⊢;split at H
  ·rename_i p k;split at H
   ·rename_i r len esz gz st Y;obtain⟨gA,rfl,h⟩:=H;cases hd with
    | @dy _ _ k' hh _ e hk Z _ =>
     obtain⟨r0,r1,V⟩:=z.obj p _ _ _ Y e;have gD:=Z J;rcases V with ⟨V,r3⟩|⟨o,v,room,t,gL,r',V,r3⟩
     ·subst r3;have:r=[]:=Ic Cl;subst this;rw[gD,V];dsimp only;have hm:min n 0=0:=J
      rw[hm]at h;simp only[Kh,Md]at h;obtain⟨p1,p2,_⟩:=z.upd (k':=k') (x':=hh) (ob':=.dyn (Ns [] 0 []) 0 esz gz (st+1)) (H':=c.H) Y rfl e (Hw _) (λ_ _ _=>rfl) (λo e'=>⟨.inl e',z.lt o ⟨p,_,_,_,Y,rfl,e,e'⟩⟩) (Hw _) (λ_=>rfl) (λ_=>rfl) (.inl (I4 _))
       (λ_=>⟨r0,by simp[Ns],.inl ⟨V,rfl⟩⟩)
      exact⟨⟨c.hd.set p (k',hh),c.Fz,c.H⟩,.i (0:Nat),_,rfl,p1,p2,.i _,h⟩
     ·have hw:U1 G (.dptr p k 0) (l.take (min n len*esz)) (λG'=>K (.i (min n len:Nat)) G'):=by
       unfold U1;dsimp only;rw[Y];refine⟨gA,?_,h⟩;rw[r1,Jp,Iq];exact Is (Nat.min_le_left _ _) (H8 _ (Nat.min_le_right _ _))
      obtain⟨o2,v2,i2,H',c',G',w1,w2,w3,w4,w5,w6⟩:=zal z (a:=.ptr o v 0) (.dptr e hk (λ_=>⟨rfl,len,esz,room,V⟩)) (C.take (min n len*esz)) hw;cases w1;rw[gD,V];dsimp only;rw[It,gY];dsimp only;rw[show Nat.mul (min n len) esz=min n len*esz from rfl,w2];exact⟨c',_,G',w3,w4,w5,.i _,w6⟩
   ·exact H.elim
  ·rename_i p k lo len;split at H
   ·rename_i r gF esz gz st Y;obtain⟨gA,rfl,jz,h⟩:=H;cases hd with
    | @vw _ _ _ _ k' hh _ e hk Z _ _ =>
     obtain⟨r0,r1,V⟩:=z.obj p _ _ _ Y e;have gP:len=0→(a=.nilSl∨a=.emp∧lo≠0)→Rj P c G K (.val (.int .i64 0) c.H):=by
      intro jA _;subst jA;have hm:min n 0=0:=J
      rw[hm]at h;simp only[Kh,Md]at h;have gQ:Ns r (lo*esz) []=r:=by unfold Ns;simp
      rw[gQ]at h;obtain⟨p1,p2,_⟩:=z.upd (k':=k') (x':=hh) (ob':=.dyn r gF esz gz (st+1)) (H':=c.H) Y rfl e (Hw _) (λ_ _ _=>rfl) (λo e'=>⟨.inl e',z.lt o ⟨p,_,_,_,Y,rfl,e,e'⟩⟩) (Hw _) (λ_=>rfl) (λ_=>rfl) (.inl (I4 _))
       (λgR=>(z.obj p _ _ _ Y e).mono gR (λ_ _=>rfl))
      exact⟨⟨c.hd.set p (k',hh),c.Fz,c.H⟩,.i (0:Nat),_,rfl,p1,p2,.i _,h⟩
     rcases Z J with ⟨r3,r4⟩|⟨o,v,gC,D,room,I,r3,r4,r9⟩
     ·have:=gP r3 r4;rcases r4 with rfl|⟨rfl,_⟩
      ·exact this
      ·exact this
     ·have e2:=e;rw[r3]at e2;obtain⟨_,w1,w2,w3,_⟩:=c7 z Y e2;subst w2 w3;have hw:U1 G (.dptr p k (lo*D)) (l.take (min n len*D)) (λG'=>K (.i (min n len:Nat)) G'):=by
       unfold U1;dsimp only;rw[Y];refine⟨gA,?_,h⟩;rw[Jp];have F:min (min n len*D) l.length≤len*D:=Is (Nat.min_le_left _ _) (H8 _ (Nat.min_le_right _ _));rw[Im]at jz;omega
      obtain⟨o2,v2,i2,H',c',G',u1,u2,u3,u4,u5,u6⟩:=zal z (a:=.ptr o v (lo*D)) (.dptr e hk (λ_=>⟨rfl,gC,D,room,r3⟩)) (C.take (min n len*D)) hw;cases u1;rw[r4];dsimp only;rw[It,gY];dsimp only;rw[show Nat.mul (min n len) D=min n len*D from rfl,u2];exact⟨c',_,G',u3,u4,u5,.i _,u6⟩
   ·exact H.elim
  ·exact H.elim
 |clear A jG x =>
  simp only[LOp.ok,Hq]at g;have hz:=zh c g.1;have j:=Oe B g.2;simp only[Nm]at h;simp only[LOp.r,Oi];generalize x.ev ρ=v at h j;generalize x.r.ev (ρA vG)=a at j ⊢;split at h
  ·rename_i p k lo len;split at h
   ·rename_i r gF esz gz st Y;obtain⟨gA,rfl,jI,jz,h⟩:=h;cases j with
    | @vw _ _ _ _ k' hh _ e hk Z _ _ =>
     obtain⟨r0,r1,V⟩:=z.obj p _ _ _ Y e;have gP:len=0→Rj P c G K (.val Rh c.H):=by
      intro jA;subst jA;have gQ:Ns r (lo*esz) (Oj jG 0)=r:=by unfold Ns;simp[Oj]
      rw[gQ]at h;obtain⟨p1,p2,_⟩:=z.upd (k':=k') (x':=hh) (ob':=.dyn r gF esz gz (st+1)) (H':=c.H) Y rfl e (Hw _) (λ_ _ _=>rfl) (λo e'=>⟨.inl e',z.lt o ⟨p,_,_,_,Y,rfl,e,e'⟩⟩) (Hw _) (λ_=>rfl) (λ_=>rfl) (.inl (I4 _))
       (λgR=>(z.obj p _ _ _ Y e).mono gR (λ_ _=>rfl))
      exact⟨⟨c.hd.set p (k',hh),c.Fz,c.H⟩,.any,_,rfl,p1,p2,.any _,h⟩
     rcases Z J with ⟨r3,r4⟩|⟨o,v,gC,D,room,I,r3,r4,r9⟩
     ·have:=gP r3;rcases r4 with rfl|⟨rfl,_⟩
      ·exact this
      ·exact this
     ·have e2:=e;rw[r3]at e2;obtain⟨_,w1,w2,w3,_⟩:=c7 z Y e2;subst w2 w3;have hw:U1 G (.dptr p k (lo*D)) (Oj jG len) (λG'=>K .any G'):=by
       unfold U1;dsimp only;rw[Y];refine⟨gA,?_,h⟩;rw[z5f,jI,←Im];exact jz
      obtain⟨o2,v2,i2,H',c',G',u1,u2,u3,u4,u5,u6⟩:=zal z (a:=.ptr o v (lo*D)) (.dptr e hk (λ_=>⟨rfl,gC,D,room,r3⟩)) (hz.rep len) hw;cases u1;rw[r4];dsimp only;rw[It];dsimp only;rw[u2];exact⟨c',.any,G',u3,u4,u5,.any _,u6⟩
   ·exact h.elim
  ·exact h.elim
 |mkMap0=>exact zjn z h
 |mkMap1 x =>
  have j:=Oe B g;simp only[Nm]at h;simp only[LOp.r,Oi];generalize x.ev ρ=v at h j;generalize x.r.ev (ρA vG)=a at j ⊢;split at h
  ·cases j;exact zjn z h
  ·exact h.elim
 |lookup d jG ok x i =>
  simp only[LOp.ok,Hq]at g;have hz:=d5 c g.1.1;have j:=Oe B g.1.2;have hi:=Oe B g.2;simp only[Nm]at h;simp only[LOp.r,Oi];obtain⟨es,jK,E,C,M,_⟩:=zxe z j h;rw[E];dsimp only;rcases zv5 hi C M with ⟨f1,f2⟩|⟨v,b,f1,f2,f3⟩
  ·rw[f1];dsimp only;cases ok with
   |true=>exact .same z (.tup (.cons hz (.cons (.bool _) .nil))) f2
   |false=>exact .same z hz f2
  ·rw[f1];dsimp only;cases ok with
   |true=>exact .same z (.tup (.cons f2 (.cons (.bool _) .nil))) f3
   |false=>exact .same z f2 f3
 |mapUpd d m k v =>
  simp only[LOp.ok,Hq]at g;simp only[Nm]at h;simp only[LOp.r,Oi];exact Zu z (Oe B g.1.1) (Oe B g.1.2) (Oe B g.2) h
 |lenMap x =>
  have j:=Oe B g;simp only[Nm]at h;simp only[LOp.r,Oi];obtain⟨es,jK,E,C,M,H⟩:=zxe z j h;have gG:∀{l:List (LV×LV×Nat)} {r:List (AV×AV×Nat)},MRs c l r→l.length=r.length:=by
   intro l r hr
   induction hr with
   |nil=>rfl
   |cons _ _ _ ih=>simp[ih]
  rcases H with ⟨e1,rfl⟩|⟨o,ck,e1,e2⟩
  ·rw[e1];cases C;exact .same z (.i 0) M
  ·rw[e1];dsimp only;rw[e2];dsimp only;rw[←gG C];exact .same z (.i _) M
 |slArr n A x lo hi =>
  simp only[LOp.ok,Hq]at g;have j:=Oe B g.1.1;simp only[Nm]at h;simp only[LOp.r,Oi];generalize x.ev ρ=v at h j;generalize x.r.ev (ρA vG)=a at j ⊢;split at h
  ·rename_i p i;split at h
   ·rename_i l st Y;obtain⟨h0,h⟩:=h;obtain⟨gg,U,E,C,M⟩:=U7 B g.1.2 h;obtain⟨Q,R,H,O,q6⟩:=U7 B g.2 M;rw[E,H];obtain⟨F,T,L⟩:=q6;cases j with
    | @ptr _ _ o e =>
     obtain⟨t,l',V,r3,r4⟩:=zm0 z Y e;obtain⟨a2,p1,p2,p3⟩:=z96 (lo:=gg) (hi:=Q) (o:=o) (v:=0) (i:=i) (len:=n) (esz:=A) (room:=some n) B4 B8 (λr e=>by cases e;exact Hw _);have b1:Nat.ble (Nat.add i (Nat.mul n A)) l.length=true:=Hy h0;simp only[Pf,V,b1];rw[p1];rw[C,O]at p3;obtain⟨u1,u2⟩:=z.freeze (st:=st+1) Y rfl (I4 _) e (rfl:Nl (.ptr o 0 0)=some o);have jD:i+U*A+(R-U)*A≤l.length:=by
      rw[J2,←Im];have:(U+(R-U))*A≤n*A:=H8 _ J;omega
     refine⟨⟨c.hd,λq=>c.Fz q∨q=o,c.H⟩,_,_,rfl,u1,u2,?_,L⟩;rcases p3 with ⟨e1,rfl,_⟩|⟨room,rfl,gI⟩
     ·rw[e1];simp only[Kh,Md];exact .lstEmp
     ·refine .lst (.inr rfl) gI Ab (Vn V r3 (Hw _) jD) (ARs.mono u2.le ((r4.drop _).take _))
   ·exact h.elim
  ·exact h.elim
 |callV f gH =>
  simp only[LOp.ok,Hq]at g;have hf:=Oe B g.1;have Z:=zu7 B g.2;simp only[Nm]at h;simp only[LOp.r,Oi];generalize f.ev ρ=v at h hf;generalize f.r.ev (ρA vG)=a at hf ⊢;split at h
  ·rename_i jF l r;have jE:=h.1;cases hf with
   |fn X hr =>
    rename_i l' r';have gE:zj2 P c.H (.fn (.func jF) l' r') ((tj gH).map (·.ev (ρA vG)))=.call (.fn jF) (l'++(tj gH).map (·.ev (ρA vG))++r'):=by
     have k2:na P (.fn (.func jF) l' r') ((tj gH).map (·.ev (ρA vG)))=.call (.fn jF) (l'++(tj gH).map (·.ev (ρA vG))++r'):=by
      unfold na;dsimp only;rw[Hv jE.1]
     unfold zj2;split
     ·rename_i g' e;cases e;rw[jE.2];exact k2
     ·exact k2
    rw[gE];exact⟨.fn jF,_,rfl,(X.append Z).append hr,h⟩
  ·rename_i p r;cases hf with
   |yield e=>exact⟨.yield p,_,e,Z,h⟩
  ·exact h.elim
end res
end
section
noncomputable section
structure RI where
 d:Option Nat
 g:Option (Nat×Bool)
 o:ROp
def xg(n:Nat):Option Nat→Bool
 |none=>true
 |some d=>Nat.blt d n
def om(P:Program)(n:Nat)(ops:Array Oper)(o:Oper):Option RI :=
 match xg n o.dst with
 |false=>none
 |true=>match Sa P o.op with
  |none=>none
  |some r=>match o.guard with
   |none=>some ⟨o.dst,none,r⟩
   |some (g,w)=>match (ops[g]?).bind (·.dst) with
    |none=>none
    |some t=>match Nat.ble t P0 with
     |true=>some ⟨o.dst,some (t,w),r⟩
     |false=>none
def zbf(P:Program)(n:Nat)(ops:Array Oper):List Oper→Option (List RI)
 |[]=>some []
 |o::l=>match om P n ops o with
  |none=>none
  |some r=>match zbf P n ops l with
   |none=>none
   |some g=>some (r::g)
structure LI where
 d:Option Nat
 g:Option (Nat×Bool)
 o:LOp
def LI.r(x:LI):RI:=⟨x.d,x.g,x.o.r⟩
def lis:List LI→List RI
 |[]=>[]
 |x::l=>x.r::lis l
def ar(g:Option (Nat×Bool))(j:Tr AV):Bool:=match g with
 |none=>true
 |some (t,w)=>match Mt (M9 t) j with
  |some (.bool b)=>match b with
   |true=>w
   |false=>!w
  |_=>false
def mf(P:Program)(x:RI)(k:Qe)(z:Tr AV)(A:Heap):OE:=match ar x.g z with
 |false=>.ok (Oo x.d Rh z) A
 |true=>match Oi P (ρA z) A x.o with
  |.no=>.no
  |.val v j=>.ok (Oo x.d v z) j
  |.call t g=>match k t g A with
   |.no=>.no
   |.ok v j=>.ok (Oo x.d v z) j
def zfz{P:Program}{n:Nat}{ops:Array Oper}{o:Oper}{x:RI}(h:om P n ops o=some x)(k:Qe)(z:Tr AV)(I:Heap):(Qj P n ops o).run k z I=mf P x k z I:=by
 unfold om at h;cases hd:xg n o.dst with
 |false=>rw[hd]at h;cases h
 |true =>
  rw[hd]at h;dsimp only at h;cases B:Sa P o.op with
  |none=>rw[B]at h;cases h
  |some r =>
   rw[B]at h;dsimp only at h;have K:∃p,Qk n o.dst=some p∧∀a z,p.run a z=Oo o.dst a z:=by
    cases C:o.dst with
    |none=>exact⟨_,rfl,λ_ _=>rfl⟩
    |some d =>
     rw[C]at hd;have D:d<n:=H6 hd;unfold Qk;dsimp only;rw[Hv D];exact⟨_,rfl,λ_ _=>rfl⟩
   obtain⟨p,E,g⟩:=K;have L:x.d=o.dst∧x.o=r∧(R3 ops o).run z=ar x.g z:=by
    cases A:o.guard with
    |none =>
     rw[A]at h;cases h;refine⟨rfl,rfl,?_⟩;unfold R3;rw[A];rfl
    |some M =>
     obtain⟨U,w⟩:=M;rw[A]at h;dsimp only at h;cases F:(ops[U]?).bind (·.dst) with
     |none=>rw[F]at h;cases h
     |some t =>
      rw[F]at h;dsimp only at h;cases H:Nat.ble t P0 with
      |false=>rw[H]at h;cases h
      |true =>
       rw[H]at h;cases h;refine⟨rfl,rfl,?_⟩;unfold R3;rw[A];dsimp only;rw[F];dsimp only;rw[Hv (H6 H)];rfl
   obtain⟨O,Q,R⟩:=L;unfold Qj mf;rw[E];dsimp only;rw[R,O,Q,zto (zs3 z) B I];cases ar x.g z with
   |false=>simp only[g]
   |true =>
    dsimp only;cases Oi P (ρA z) I r with
    |no=>rfl
    |val v T=>simp only[g]
    |call t j =>
     dsimp only;cases k t j I with
     |no=>rfl
     |ok v T=>simp only[g]
def zwn{P:Program}{x:RI}{k A:Qe}(D:k.le A){B:Tr AV}(h:mf P x k vG F=.ok B vY):mf P x A vG F=.ok B vY:=by
 unfold mf at h ⊢;cases C:ar x.g vG with
 |false=>rw[C]at h;exact h
 |true =>
  rw[C]at h;dsimp only at h ⊢;cases j:Oi P (ρA vG) F x.o with
  |no=>rw[j]at h;cases h
  |val v E=>rw[j]at h;exact h
  |call t g =>
   rw[j]at h;dsimp only at h ⊢;cases z:k t g F with
   |no=>rw[z]at h;cases h
   |ok v E=>rw[z]at h;rw[D _ _ _ _ _ z];exact h
def Rt(g:Mq)(d:Option Nat)(v:LV):Mq:=match d with
 |none=>g
 |some d=>(d,v)::g
def setL(t:Nat)(v:LV):Mq→Mq
 |[]=>[]
 |(d,x)::l=>if t=d then (d,v)::l else (d,x)::setL t v l
def mv(v:LV)(g j z:Prop):Prop:=match v with
 |.bool t=>Tc t g j
 |.tup []=>z
 |_=>False
def Z5(P:Program)(x:LI)(g:Mq)(G:Mp)(z:Mq→Mp→Prop):Prop:=match x.g with
 |none=>Nm P g G x.o λv j=>z (Rt g x.d v) j
 |some (t,true)=>mv (lk g t) (Nm P (setL t (.bool true) g) G x.o λv j=>z (Rt (setL t (.bool true) g) x.d v) j) (z (Rt (setL t (.bool false) g) x.d (.tup [])) G) (z (Rt g x.d (.tup [])) G)
 |some (t,false)=>mv (lk g t) (z (Rt (setL t (.bool true) g) x.d (.tup [])) G) (Nm P (setL t (.bool false) g) G x.o λv j=>z (Rt (setL t (.bool false) g) x.d v) j) (z (Rt g x.d (.tup [])) G)
def d8{v:LV}{g j:Prop}(h:brV v g j):∃b,v=.bool b∧(b=true→g)∧(b=false→j):=by
 cases v with
 |bool b=>exact⟨b,rfl,h⟩
 |_=>exact h.elim
def zpg{v:LV}{g j z:Prop}(h:mv v g j z):(∃b,v=.bool b∧(b=true→g)∧(b=false→j))∨v=.tup []∧z:=by
 unfold mv at h;split at h
 ·exact .inl ⟨_,rfl,h⟩
 ·exact .inr ⟨rfl,h⟩
 ·exact h.elim
def Zn{P:Program}{x:LI}{t:Nat}{w:Bool}(z:x.g=some (t,w)){g:Mq}{G:Mp}{j:Mq→Mp→Prop}(h:Z5 P x g G j) :
  (∃b,lk g t=.bool b∧(b=w→Nm P (setL t (.bool w) g) G x.o λv A=>j (Rt (setL t (.bool w) g) x.d v) A)∧(b=!w→j (Rt (setL t (.bool (!w)) g) x.d (.tup [])) G))∨lk g t=.tup []∧j (Rt g x.d (.tup [])) G:=by
 unfold Z5 at h;rw[z]at h;cases w with
 |true=>exact zpg h
 |false =>
  rcases zpg h with ⟨b,e,B,C⟩|h
  ·exact .inl ⟨b,e,C,B⟩
  ·exact .inr h
def Ts(P:Program):List LI→Mq→Mp→(Mq→Mp→Prop)→Prop
 |[],g,G,j=>j g G
 |x::l,g,G,j=>Z5 P x g G λz A=>Ts P l z A j
def Nv.put{c:Cx}{ρ:Mq}{E:Tr AV}(h:Nv c ρ E){v:LV}{a:AV}(ha:AR c v a)(d:Option Nat):Nv c (Rt ρ d v) (Oo d a E):=by
 cases d with
 |none=>exact h
 |some d =>
  intro t;show AR c (lk ((d,v)::ρ) t) ((Mt (M9 t) (Oh a (M9 d) E)).getD Rh);rw[zjh,zj0];by_cases e:t=d
  ·rw[Hv e,Hv e];exact ha
  ·rw[Hs e,Hs e];exact h t
def zz2(t:Nat)(v:LV):∀(z:Mq) (g:Nat),lk (setL t v z) g=lk z g∨(g=t∧lk (setL t v z) g=v)
 |[],_=>.inl rfl
 |(d,x)::l,g=>by
  simp only[setL];by_cases h:t=d
  ·rw[Hv h];simp only[zj0];by_cases j:g=d
   ·rw[Hv j];exact .inr ⟨J,rfl⟩
   ·rw[Hs j,Hs j];exact .inl rfl
  ·rw[Hs h];simp only[zj0];by_cases j:g=d
   ·rw[Hv j,Hv j];exact .inl rfl
   ·rw[Hs j,Hs j];exact zz2 t v l g
def Nv.setL{c:Cx}{ρ:Mq}{E:Tr AV}(h:Nv c ρ E){t:Nat}{v:LV}(ha:AR c v ((Mt (M9 t) E).getD Rh)):Nv c (Sv.setL t v ρ) E:=by
 intro t';rcases zz2 t v ρ t' with e|⟨rfl,e⟩
 ·rw[e];exact h t'
 ·rw[e];exact ha
section run
variable {P : Program} {c : Cx} {G : Mp}
def jm(M:HSim c G){R:Mq}(A:Nv c R vG){x:LI}(T:x.o.ok=true){gg:Mq→Mp→Prop}(h:Z5 P x R G gg) :
  ∃m I j K z,mf P x.r (Rs P (OL P) m) vG c.H=.ok I j.H∧HSim j z∧Step c G j z∧Nv j K I∧gg K z:=by
 have D:∀R,Nv c R vG→(Nm P R G x.o λv z=>gg (Rt R x.d v) z)→ar x.g vG=true→∃m I j K z,mf P x.r (Rs P (OL P) m) vG c.H=.ok I j.H∧HSim j z∧Step c G j z∧Nv j K I∧gg K z:=by
  intro R A h L;have E:=OpL_ok M A T h;unfold Rj at E;unfold mf;rw[show x.r.g=x.g from rfl,L];dsimp only[LI.r];cases he:Oi P (ρA vG) c.H x.o.r with
  |no=>rw[he]at E;exact E.elim
  |val v1 H' =>
   rw[he]at E;obtain⟨j,v,z,rfl,U,O,q4,q5⟩:=E;exact⟨0,_,j,_,z,rfl,U,O,(A.mono O.le).put q4 x.d,q5⟩
  |call t1 F =>
   rw[he]at E;obtain⟨t,Y,q1,U,_,O⟩:=E;obtain⟨m,v1,H',r1,j,v,z,rfl,r3,Z,r5,r6⟩:=O c t1 F M q1 U;refine⟨m,_,j,_,z,?_,r3,Z,(A.mono Z.le).put r5 x.d,r6⟩;dsimp only;rw[r1]
 cases B:x.g with
 |none =>
  unfold Z5 at h;rw[B]at h;exact D R A h (by rw[B];rfl)
 |some tw =>
  obtain⟨t,w⟩:=tw;have L:=B;rcases Zn B h with ⟨b,V,h⟩|⟨V,h⟩
  rotate_left
  ·have C:=A t;rw[V]at C;have H:ar x.g vG=false:=by
    rw[L];unfold ar;dsimp only;cases Q:Mt (M9 t) vG with
    |none=>rfl
    |some a=>rw[Q]at C;cases C;rfl
   refine⟨0,_,c,_,G,?_,M,.refl c G,A.put (.tup .nil) x.d,h⟩;unfold mf;rw[show x.r.g=x.g from rfl,H];rfl
  ·have C:=A t;rw[V]at C;have g:Mt (M9 t) vG=some (.bool b):=by
    cases Q:Mt (M9 t) vG with
    |none=>rw[Q]at C;cases C
    |some a=>rw[Q]at C;cases C;rfl
   by_cases e:b=w
   ·refine D _ (A.setL (by rw[g,←e];exact .bool b)) (h.1 e) ?_;rw[L];unfold ar;dsimp only;rw[g,e];cases w<;>rfl
   ·have X:b=!w:=by cases b<;>cases w<;>simp_all
    refine⟨0,_,c,_,G,?_,M,.refl c G,(A.setL (by rw[g,←X];exact .bool b)).put (.tup .nil) x.d,h.2 X⟩;have H:ar x.g vG=false:=by
     rw[L];unfold ar;dsimp only;rw[g,X];cases w<;>rfl
    unfold mf;rw[show x.r.g=x.g from rfl,H];rfl
def X3{n:Nat}{ops:Array Oper}:∀{l:List LI} {j:List Oper} {c:Cx} {G:Mp} {L:Mq} {M:Tr AV} {O:Mq→Mp→Prop},zbf P n ops j=some (lis l)→l.all (·.o.ok)=true→HSim c G→Nv c L M→Ts P l L G O →
  ∃m Q B C A,(mw P n ops j).run (Rs P (OL P) m) M c.H=.ok Q B.H∧HSim B A∧Step c G B A∧Nv B C Q∧O C A
 |[],j,c,G,L,M,O,g,_,D,E,h=>by
  cases j with
  |nil=>exact⟨0,M,c,L,G,rfl,D,.refl c G,E,h⟩
  |cons o j =>
   simp only[zbf]at g;split at g
   ·cases g
   ·split at g<;>cases g
 |x::l,j,c,G,L,M,O,g,z,D,E,h=>by
  cases j with
  |nil=>cases g
  |cons o j =>
   simp only[zbf]at g;split at g
   ·cases g
   ·rename_i r F;split at g
    ·cases g
    ·rename_i rs H;simp only[lis,Option.some.injEq,List.cons.injEq]at g;obtain⟨rfl,rfl⟩:=g;simp only[J1,Hq]at z;obtain⟨I,E1,c1,ρ1,G1,T,R,U,V,X⟩:=jm D E z.1 (show Z5 P x L G λC A=>Ts P l C A O from h);obtain⟨K,Y,Z,ρ2,G2,q1,q2,q3,q4,q5⟩:=X3 H z.2 R V X;refine⟨max I K,Y,Z,ρ2,G2,?_,q2,.trans D R U q3,q4,q5⟩;simp only[mw];rw[zfz F,zwn (oc (J7 I K)) T];dsimp only;exact za6 (oc (Ks I K)) q1
end run
end
end
section
noncomputable section
inductive RC where
 |skip
 |ops (l:List RI)
 |draw (l:List (RI×List (RI×Bool)))
 |seq (a b:RC)
 |cond (c:Ox) (a b:RC)
 |block (id:Nat) (c:RC)
 |loop (c:RC)
 |rangeF (g:Ox) (ps:List Nat) (a b:RC)
 |exit (id:Nat)
 |scope (c:RC)
 |label
 |ret
 |stuck
inductive LC where
 |skip
 |ops (l:List LI)
 |draw (l:List (LI×List (LI×Bool)))
 |seq (a b:LC)
 |cond (c:Lx) (a b:LC)
 |block (id:Nat) (c:LC)
 |loop (c:LC)
 |rangeF (g:Lx) (ps:List Nat) (a b:LC)
 |exit (id:Nat)
 |scope (c:LC)
 |label
 |ret
 |stuck
def Vq(t:Nat):List Nat→Bool
 |[]=>false
 |a::l=>match Nat.beq t a with
  |true=>true
  |false=>Vq t l
def Xc(ops:Array Oper)(d:Option Nat)(x:DOp):Bool:=match d with
 |none=>true
 |some d=>match Vq d (Ue ops x.o) with
  |true=>false
  |false=>match x.o.dst with
   |none=>true
   |some e=>!(Nat.beq d e)
def Uu(x:DOp):Bool:=match x.c with
 |.al=>true
 |_=>false
def zln(P:Program)(n:Nat)(ops:Array Oper):List DOp→Option (List (RI×Bool))
 |[]=>some []
 |x::l=>match om P n ops x.o with
  |none=>none
  |some r=>match zln P n ops l with
   |none=>none
   |some g=>some ((r,Uu x)::g)
def eqCls:Cls→Cls→Bool
 |.quiet,.quiet=>true
 |.rd,.rd=>true
 |.al,.al=>true
 |.ch,.ch=>true
 |_,_=>false
def zt(ops:Array Oper)(x:DOp):Bool:=match x.o.dst with
 |none=>false
 |some d=>!(Vq d (Ue ops x.o))
def ye(P:Program)(n:Nat)(ops:Array Oper):List DOp→List DOp→Option (List (RI×List (RI×Bool)))
 |[],_=>some []
 |x::l,g=>match Vf (Xc ops x.o.dst) g&&eqCls x.c (cls P x.o.op) with
  |false=>none
  |true=>match om P n ops x.o with
   |none=>none
   |some r=>match x.c with
    |.quiet=>match ye P n ops l g with
     |none=>none
     |some j=>some ((r,[])::j)
    |.rd=>match zt ops x with
     |false=>none
     |true=>match ye P n ops l (x::g) with
      |none=>none
      |some j=>some ((r,[])::j)
    |.al=>match zt ops x with
     |false=>none
     |true=>match zln P n ops g with
      |none=>none
      |some z=>match ye P n ops l (x::g) with
       |none=>none
       |some j=>some ((r,z)::j)
    |.ch=>match zln P n ops (Nr (λy=>!(Nat.testBit x.m y.i)) g) with
     |none=>none
     |some z=>match ye P n ops l (Nr (λy=>!(Nat.testBit x.m y.i)) g) with
      |none=>none
      |some j=>some ((r,z)::j)
def zrh(P:Program)(n:Nat)(ops:Array Oper):Option (List (RI×List (RI×Bool))) :=
 let z:=P6 P ops ops.toList [] 0;let g:=Nr M0 z;let j:=zzf z g
 match Wx ops.size z j with
 |true=>ye P n ops j []
 |false=>none
def Nq(P:Program)(n:Nat):Code→Option RC
 |.skip=>some .skip
 |.region _ ops draw=>match draw with
  |true=>match zrh P n ops with
   |none=>some .stuck
   |some l=>some (.draw l)
  |false=>match zbf P n ops ops.toList with
   |none=>some .stuck
   |some l=>some (.ops l)
 |.seq a b=>match Nq P n a with
  |none=>none
  |some a=>match Nq P n b with
   |none=>none
   |some b=>some (.seq a b)
 |.cond c a b=>match N5 c with
  |none=>none
  |some c=>match Nq P n a with
   |none=>none
   |some a=>match Nq P n b with
    |none=>none
    |some b=>some (.cond c a b)
 |.block id c=>match Nq P n c with
  |none=>none
  |some c=>some (.block id c)
 |.loop c=>match Nq P n c with
  |none=>none
  |some c=>some (.loop c)
 |.rangeFunc g j a b=>match N5 g with
  |none=>none
  |some g=>match Nq P n a with
   |none=>none
   |some a=>match Nq P n b with
    |none=>none
    |some b=>some (.rangeF g j.toList a b)
 |.exit id=>some (.exit id)
 |.scope c=>match Nq P n c with
  |none=>none
  |some c=>some (.scope c)
 |.label _=>some .label
 |.ret=>some .ret
 |_=>some .stuck
def rck:List (LI×Bool)→List (RI×Bool)
 |[]=>[]
 |(x,b)::l=>(x.r,b)::rck l
def v4:List (LI×List (LI×Bool))→List (RI×List (RI×Bool))
 |[]=>[]
 |(x,c)::l=>(x.r,rck c)::v4 l
def LC.r:LC→RC
 |.skip=>.skip
 |.ops l=>.ops (lis l)
 |.draw l=>.draw (v4 l)
 |.seq a b=>.seq a.r b.r
 |.cond c a b=>.cond c.r a.r b.r
 |.block id c=>.block id c.r
 |.loop c=>.loop c.r
 |.rangeF g ps a b=>.rangeF g.r ps a.r b.r
 |.exit id=>.exit id
 |.scope c=>.scope c.r
 |.label=>.label
 |.ret=>.ret
 |.stuck=>.stuck
def LC.ok:LC→Bool
 |.ops l=>l.all (·.o.ok)
 |.draw l=>l.all λx=>x.1.o.ok&&x.2.all (·.1.o.ok)
 |.seq a b=>a.ok&&b.ok
 |.cond c a b=>c.ok&&a.ok&&b.ok
 |.block _ c=>c.ok
 |.loop c=>c.ok
 |.rangeF g _ a b=>g.ok&&a.ok&&b.ok
 |.scope c=>c.ok
 |_=>true
abbrev Pe:=Ex→Mq→List Nat→Mp→Prop
inductive DRs (c:Cx):List Nat→List Nat→Prop where
 |nil:DRs c [] []
 |cons {p o:Nat} {l r:List Nat} (h:c.hd[p]?=some (0,.ptr o 0 0)) (hs:DRs c l r):DRs c (p::l) (o::r)
def DRs.mono{c c':Cx}(h:CxLe c c'):∀{l r:List Nat},DRs c l r→DRs c' l r
 |_,_,.nil=>.nil
 |_,_,.cons e es=>.cons (h.fix e rfl) (DRs.mono h es)
def ROr(c:Cx):Option Nat→Option Nat→Prop
 |none,none=>True
 |some p,some o=>c.hd[p]?=some (0,.ptr o 0 0)
 |_,_=>False
def ROr.mono{c:Cx}(h:CxLe c vC){a b:Option Nat}(k:ROr c a b):ROr vC a b:=by
 cases a<;>cases b<;>first|exact k|exact h.fix k rfl
def W(P:Program)(f n:Nat)(s:LC)(ro:Option Nat)(ρ:Mq)(D:List Nat)(G:Mp)(Q:Pe):Prop :=
 ∀(g:Code) (c:Cx) (I:Tr AV) (C:List Nat) (j:Option Nat),Nq P n g=some s.r→s.ok=true→HSim c G→Nv c ρ I→DRs c D C→ROr c ro j →
  ∃m x E z A F H B,(Pq P f n g).run (Rs P (OL P) m) m j I C c.H=.ok x E z A.H∧HSim A B∧Step c G A B∧Nv A F E∧DRs A H z∧Q x F H B
section rules
variable {P : Program} {f n : Nat} {ro : Option Nat} {ρ : Mq} {D : List Nat} {G : Mp} {Q : Pe}
def W.post{s:LC}{Q':Pe}(h:W P f n s ro ρ D G Q)(hq:∀x ρ D G,Q x ρ D G→Q' x ρ D G):W P f n s ro ρ D G Q':=by
 intro code c E D1 gg h1 h2 h3 h4 h5 h6;obtain⟨m,x,E',gz,c',ρ',D',G',q1,q2,q3,q4,q5,q6⟩:=h code c E D1 gg h1 h2 h3 h4 h5 h6;exact⟨m,x,E',gz,c',ρ',D',G',q1,q2,q3,q4,q5,hq _ _ _ _ q6⟩
def kj(h:Nq P n uV=some .skip):uV=.skip:=by
 cases uV<;>simp only[Nq]at h<;>first|rfl|(repeat' split at h)<;>cases h
def qo{l:List RI}(h:Nq P n uV=some (.ops l)):∃id ops,uV=.region id ops false∧zbf P n ops ops.toList=some l:=by
 cases uV<;>simp only[Nq]at h<;>(repeat' split at h)<;>cases h;exact⟨_,_,rfl,‹_›⟩
def cp{l:List (RI×List (RI×Bool))}(h:Nq P n uV=some (.draw l)):∃id ops,uV=.region id ops true∧zrh P n ops=some l:=by
 cases uV<;>simp only[Nq]at h<;>(repeat' split at h)<;>cases h;exact⟨_,_,rfl,‹_›⟩
def sx{a b:RC}(h:Nq P n uV=some (.seq a b)):∃g j,uV=.seq g j∧Nq P n g=some a∧Nq P n j=some b:=by
 cases uV<;>simp only[Nq]at h<;>(repeat' split at h)<;>cases h;exact⟨_,_,rfl,‹_›,‹_›⟩
def fy{x:Ox}{a b:RC}(h:Nq P n uV=some (.cond x a b)):∃g j z,uV=.cond g j z∧N5 g=some x∧Nq P n j=some a∧Nq P n z=some b:=by
 cases uV<;>simp only[Nq]at h<;>(repeat' split at h)<;>cases h;exact⟨_,_,_,rfl,‹_›,‹_›,‹_›⟩
def zz4{id:Nat}{a:RC}(h:Nq P n uV=some (.block id a)):∃g,uV=.block id g∧Nq P n g=some a:=by
 cases uV<;>simp only[Nq]at h<;>(repeat' split at h)<;>cases h;exact⟨_,rfl,‹_›⟩
def ke{a:RC}(h:Nq P n uV=some (.loop a)):∃g,uV=.loop g∧Nq P n g=some a:=by
 cases uV<;>simp only[Nq]at h<;>(repeat' split at h)<;>cases h;exact⟨_,rfl,‹_›⟩
def fg{id:Nat}(h:Nq P n uV=some (.exit id)):uV=.exit id:=by
 cases uV<;>simp only[Nq]at h<;>(repeat' split at h)<;>cases h;rfl
def zx9{a:RC}(h:Nq P n uV=some (.scope a)):∃g,uV=.scope g∧Nq P n g=some a:=by
 cases uV<;>simp only[Nq]at h<;>(repeat' split at h)<;>cases h;exact⟨_,rfl,‹_›⟩
def zy1(h:Nq P n uV=some .label):∃s,uV=.label s:=by
 cases uV<;>simp only[Nq]at h<;>(repeat' split at h)<;>cases h;exact⟨_,rfl⟩
def vm(h:Nq P n uV=some .ret):uV=.ret:=by
 cases uV<;>simp only[Nq]at h<;>first|rfl|(repeat' split at h)<;>cases h
def W_skip(h:Q .normal ρ D G):W P f n .skip ro ρ D G Q:=by
 intro g c F j z A H B C E I;obtain rfl:=kj A;exact⟨0,.normal,F,j,c,ρ,D,G,rfl,B,.refl c G,C,E,h⟩
def uq(h:Q .normal ρ D G):W P f n .label ro ρ D G Q:=by
 intro g c F j z A H B C E I;obtain⟨s,rfl⟩:=zy1 A;exact⟨0,.normal,F,j,c,ρ,D,G,rfl,B,.refl c G,C,E,h⟩
def W_exit{id:Nat}(h:Q (.exit id) ρ D G):W P f n (.exit id) ro ρ D G Q:=by
 intro g c F j z A H B C E I;obtain rfl:=fg A;exact⟨0,.exit id,F,j,c,ρ,D,G,rfl,B,.refl c G,C,E,h⟩
def W_ret(h:Q .ret ρ D G):W P f n .ret ro ρ D G Q:=by
 intro g c F j z A H B C E I;obtain rfl:=vm A;exact⟨0,.ret,F,j,c,ρ,D,G,rfl,B,.refl c G,C,E,h⟩
def qf{s:LC}(h:W P f n s ro ρ D G Q):W P f n (.scope s) ro ρ D G Q:=by
 intro z c L A g B C E F H I;obtain⟨K,rfl,j⟩:=zx9 B;exact h K c L A g j C E F H I
def W_ops{l:List LI}(h:Ts P l ρ G λg j=>Q .normal g D j):W P f n (.ops l) ro ρ D G Q:=by
 intro z c Y B C E F H I K X;obtain⟨id,ops,rfl,L⟩:=qo E;obtain⟨m,M,O,g,j,R,T,A,U,V⟩:=X3 L F H I h;refine⟨m,.normal,M,B,O,g,D,j,?_,T,A,U,K.mono A.le,V⟩;simp only[Pq];rw[R]
def lh{a b:LC}(h:W P f n a ro ρ D G λx j z A=>match x with
  |.normal=>W P f n b ro j z A Q
  |x=>Q x j z A):W P f n (.seq a b) ro ρ D G Q:=by
 intro U c gg Y B Z H V h4 h5 X;obtain⟨ca,cb,rfl,ha,hb⟩:=sx Z;simp only[LC.ok,Hq]at H;obtain⟨m,x,I,g,K,j,z,A,L,E,F,M,O,R⟩:=h ca c gg Y B ha H.1 V h4 h5 X;cases x with
 |normal =>
  obtain⟨C,x,E2,D2,c2,ρ2,T,G2,r1,r2,r3,r4,r5,r6⟩:=R cb K I g B hb H.2 E M O (X.mono F.le);refine⟨max m C,x,E2,D2,c2,ρ2,T,G2,?_,r2,.trans V E F r3,r4,r5,r6⟩;simp only[Pq];rw[wt (oc (J7 m C)) (J7 m C) _ L];exact wt (oc (Ks m C)) (Ks m C) _ r1
 |exit id =>
  refine⟨m,.exit id,I,g,K,j,z,A,?_,E,F,M,O,R⟩;simp only[Pq];rw[L]
 |ret =>
  refine⟨m,.ret,I,g,K,j,z,A,?_,E,F,M,O,R⟩;simp only[Pq];rw[L]
def W_cond{x:Lx}{a b:LC}{t:Bool}(hx:x.ev ρ=.bool t)(ha:t=true→W P f n a ro ρ D G Q)(hb:t=false→W P f n b ro ρ D G Q):W P f n (.cond x a b) ro ρ D G Q:=by
 intro T c U V j h1 z X A Y Z;obtain⟨cx,ca,cb,rfl,B,C,E⟩:=fy h1;simp only[LC.ok,Hq]at z;have hv:=Oe A z.1.1;have F:=Tv B (zs3 U);have H:x.r.ev (ρA U)=.bool t:=by
  rw[hx]at hv;generalize x.r.ev (ρA U)=w at hv;cases hv;rfl
 rw[H]at F;cases t with
 |true =>
  obtain⟨m,x,I,g,K,L,M,O,R,q⟩:=ha rfl ca c U V j C z.1.2 X A Y Z;refine⟨m,x,I,g,K,L,M,O,?_,q⟩;simp only[Pq];rw[F];exact R
 |false =>
  obtain⟨m,x,I,g,K,L,M,O,R,q⟩:=hb rfl cb c U V j E z.2 X A Y Z;refine⟨m,x,I,g,K,L,M,O,?_,q⟩;simp only[Pq];rw[F];exact R
def oh{id:Nat}{s:LC}(h:W P f n s ro ρ D G λx j z A=>match x with
  |.exit i=>if i=id then Q .normal j z A else Q (.exit i) j z A
  |x=>Q x j z A):W P f n (.block id s) ro ρ D G Q:=by
 intro R c gg T M U V X Y Z h6;obtain⟨ca,rfl,O⟩:=zz4 U;obtain⟨m,x,C,g,E,j,z,A,F,H,I,K,L,B⟩:=h ca c gg T M O V X Y Z h6;cases x with
 |normal =>
  refine⟨m,.normal,C,g,E,j,z,A,?_,H,I,K,L,B⟩;simp only[Pq];rw[F]
 |exit i =>
  dsimp only at B;by_cases e:i=id
  ·rw[Hv e]at B;refine⟨m,.normal,C,g,E,j,z,A,?_,H,I,K,L,B⟩;simp only[Pq];rw[F,e];dsimp only;rw[It]
  ·rw[Hs e]at B;refine⟨m,.exit i,C,g,E,j,z,A,?_,H,I,K,L,B⟩;simp only[Pq];rw[F];dsimp only;cases hb:Nat.beq i id with
   |true=>exact absurd (H0 hb) e
   |false=>rfl
 |ret =>
  refine⟨m,.ret,C,g,E,j,z,A,?_,H,I,K,L,B⟩;simp only[Pq];rw[F]
def iy{s:LC}(gE:Mq→List Nat→Mp→Nat→Prop)(h0:gE ρ D G g)
  (h:∀g ρ D G,gE ρ D G g→W P f n s ro ρ D G λx A B z=>match x with
   |.normal=>∃M,M<g∧gE A B z M
   |x=>Q x A B z):W P f n (.loop s) ro ρ D G Q:=by
 intro gD c gC H F h1 h2 O V X R;obtain⟨ca,rfl,Y⟩:=ke h1;have Z:∀g,∀(c:Cx) (gC:Tr AV) (H:List Nat) (ρ:Mq) (D:List Nat) (G:Mp),gE ρ D G g→HSim c G→Nv c ρ gC→DRs c D H→ROr c ro F →
   ∃m I x E j C A B z,lz ((Pq P f n ca).run (Rs P (OL P) m) m F) I gC H c.H=.ok x E j C.H∧HSim C z∧Step c G C z∧Nv C A E∧DRs C B j∧Q x A B z:=by
  intro g
  induction g using Nat.strongRecOn with
  |_ g ih =>
   intro c gC H ρ D G hI O V X R;obtain⟨m,x,E,j,C,A,B,z,K,T,U,q4,q5,q6⟩:=h g ρ D G hI ca c gC H F Y h2 O V X R;cases x with
   |normal =>
    obtain⟨M,hN,gg⟩:=q6;obtain⟨L,gz,x,E2,D2,c2,ρ2,gA,G2,r1,r2,r3,r4,r5,r6⟩:=ih M hN C E j A B z gg T q4 q5 (R.mono U.le);refine⟨max m L,gz+1,x,E2,D2,c2,ρ2,gA,G2,?_,r2,.trans O T U r3,r4,r5,r6⟩;simp only[lz];rw[wt (oc (J7 m L)) (J7 m L) _ K];exact zbu (λ_ _ _ _ _ _ _ e=>wt (oc (Ks m L)) (Ks m L) _ e) (Hw _) r1
   |exit id =>
    refine⟨m,1,.exit id,E,j,C,A,B,z,?_,T,U,q4,q5,q6⟩;simp only[lz];rw[K]
   |ret =>
    refine⟨m,1,.ret,E,j,C,A,B,z,?_,T,U,q4,q5,q6⟩;simp only[lz];rw[K]
 obtain⟨m,I,x,E,j,C,A,B,z,K,q⟩:=Z g c gC H ρ D G h0 O V X R;refine⟨max m I,x,E,j,C,A,B,z,?_,q⟩;simp only[Pq];exact zbu (λ_ _ _ _ _ _ _ e=>wt (oc (J7 m I)) (J7 m I) _ e) (Ks m I) K
end rules
inductive RRes where
 |tmp (t:Nat)
 |cell1 (t:Nat)
 |cellN (t n:Nat)
def resR(P:Program):ResultVar→Option RRes
 |.tmp t=>match Nat.ble t P0 with
  |true=>some (.tmp t)
  |false=>none
 |.cell a t=>match Nat.ble a P0 with
  |true=>match Sm P t,Ot P t with
   |some true,some n=>some (.cellN a n)
   |some false,some _=>some (.cell1 a)
   |_,_=>none
  |false=>none
def Xk(P:Program):List ResultVar→Option (List RRes)
 |[]=>some []
 |r::l=>match resR P r with
  |none=>none
  |some a=>match Xk P l with
   |none=>none
   |some b=>some (a::b)
structure RF where
 n:Nat
 c:RC
 rs:List RRes
def My(P:Program)(f:Nat):Option RF :=
 match uk P f && !(zez P f) && !(zo2 P f) with
 |false=>none
 |true=>match P.funcs[f]? with
  |none=>none
  |some fn=>match fn.body with
   |none=>none
   |some b=>match Nat.ble fn.ntmps P0 with
    |false=>none
    |true=>match Nq P fn.ntmps b with
     |none=>none
     |some c=>match Xk P fn.results.toList with
      |none=>none
      |some g=>some ⟨fn.ntmps,c,g⟩
def Qy(ρ:Mq)(G:Mp):List RRes→(List LV→Prop)→Prop
 |[],j=>j []
 |r::l,j=>match r with
  |.tmp t=>Qy ρ G l λg=>j (lk ρ t::g)
  |.cell1 t=>Xa G (lk ρ t) λv=>Qy ρ G l λg=>j (v::g)
  |.cellN t n=>Wa G (lk ρ t) n λz=>Qy ρ G l λg=>j (.agg z::g)
def Vb:List LV→LV
 |[v]=>v
 |l=>.tup l
def i4:List LV→Nat→Mq
 |[],_=>[]
 |v::l,i=>(i,v)::i4 l (i+1)
def xf:List Nat→Mp→(Mp→Prop)→Prop
 |[],G,g=>g G
 |d::l,G,g=>match G[d]? with
  |some (.defd true)=>xf l (G.set d (.defd false)) g
  |_=>False
section fns
variable {P : Program}
def zm5{c:Cx}{G:Mp}{ρ:Mq}{I:Tr AV}(B:HSim c G)(A:Nv c ρ I):∀{l:List ResultVar} {H:List RRes} {K:List LV→Prop},Xk P l=some H→Qy ρ G H K→∃g as,(xm P l).run I c.H=some as∧ARs c g as∧K g
 |[],H,K,h,k=>by cases h;exact⟨[],[],rfl,.nil,k⟩
 |r::l,H,K,h,k=>by
  simp only[Xk]at h;split at h
  ·cases h
  ·rename_i a j;split at h
   ·cases h
   ·rename_i b L;cases h;simp only[xm];cases r with
    |tmp t =>
     simp only[resR]at j;split at j
     ·rename_i M;cases j;obtain⟨g,as,C,E,F⟩:=zm5 B A L (show Qy ρ G b (λg=>K (lk ρ t::g)) from k);have z:(Na (.tmp t)).run I=some ((Mt (M9 t) I).getD Rh):=by
       unfold Na;dsimp only;rw[M];dsimp only;cases Mt (M9 t) I<;>rfl
      refine⟨_,_,?_,.cons (A t) E,F⟩;simp only[resF];rw[z,C]
     ·cases j
    |cell t Z =>
     simp only[resR]at j;split at j
     ·rename_i M;have z:(Na (.tmp t)).run I=some ((Mt (M9 t) I).getD Rh):=by
       unfold Na;dsimp only;rw[M];dsimp only;cases Mt (M9 t) I<;>rfl
      split at j
      ·rename_i m O R;cases j;obtain⟨o,v,i,l',Y,T,U,V,X⟩:=zm9 B (A t) (show Wa G (lk ρ t) m (λY=>Qy ρ G b λg=>K (.agg Y::g)) from k);obtain⟨g,as,C,E,F⟩:=zm5 B A L X;refine⟨_,_,?_,.cons (.agg V) E,F⟩;simp only[Sv.resF,O,R];rw[z,T];dsimp only;rw[U,C]
      ·rename_i m O R;cases j;obtain⟨o,v,i,w,bb,T,U,V,X⟩:=zuv B (A t) (show Xa G (lk ρ t) (λv=>Qy ρ G b λg=>K (v::g)) from k);obtain⟨g,as,C,E,F⟩:=zm5 B A L X;refine⟨_,_,?_,.cons V E,F⟩;simp only[Sv.resF,O,R];rw[z,T];dsimp only;rw[U];dsimp only;rw[C]
      ·cases j
     ·cases j
end fns
end
end
section
section fns
variable {P : Program}
def lk_argsL:∀(l:List LV) (i t:Nat),lk (i4 l i) t=if i≤t∧t<i+l.length then l.getD (t-i) .any else .any
 |[],i,t=>by simp only[i4,eh,Jo];rw[Hs J]
 |v::l,i,t=>by
  simp only[i4,zj0,Ig];rw[lk_argsL l (i+1) t];by_cases h:t=i
  ·subst h;rw[Hv rfl,Hv J];simp
  ·rw[Hs h];by_cases g:i+1≤t∧t<i+1+l.length
   ·rw[Hv g,Hv J,show t-i=(t-(i+1))+1 from J];simp
   ·rw[Hs g,Hs J]
def Nv.start{c:Cx}{args:List LV}{gg:List AV}(h:ARs c args gg):Nv c (i4 args 0) (Qz gg 0 .e):=by
 intro t;rw[lk_argsL,get_ofList,Xd];have hl:=h.length;by_cases ht:t<args.length
 ·rw[Hv J,Hv J];obtain⟨a,q1,q2⟩:=h.get (Ht ht);rw[Nat.sub_zero,q1,Hn,Ht ht];exact q2
 ·rw[Hs J];exact .any _
def zub{U:Mp→Prop}:∀{H:List Nat} {E:List Nat} {c:Cx} {B:Mp},DRs c H E→HSim c B→xf H B U→∃j z,z9l E c.H=some j.H∧HSim j z∧Step c B j z∧U z
 |[],_,c,B,.nil,g,h=>⟨c,B,rfl,g,.refl c B,h⟩
 |d::H,_,c,B,.cons (o:=o) e I,g,h=>by
  simp only[xf]at h;split at h
  ·rename_i C;obtain⟨_,F,he,A⟩:=g.obj d _ _ _ C e;injection he with he
   subst he;obtain⟨G,K,L⟩:=g.upd (k':=0) (x':=.ptr o 0 0) (ob':=.defd false) (H':=c.H.put o (.defd false)) C rfl e (Hw _) (λF _ D=>Heap.get_put_ne _ _ (λq=>D Ea))
    (λF M=>by cases M;exact⟨.inl rfl,g.lt o ⟨d,_,_,_,C,rfl,e,rfl⟩⟩) (Hw _) (λ_=>rfl) (λ_=>rfl) (.inr ⟨rfl,Hw _⟩) (λ_=>⟨rfl,o,rfl,Heap.get_put_same _ _ _⟩)
   obtain⟨j,z,O,Q,R,T⟩:=zub (I.mono L) G h;refine⟨j,z,?_,Q,.trans g G K R,T⟩;simp only[z9l];rw[A];exact O
  ·exact h.elim
def oneA:List AV→AV
 |[v]=>v
 |l=>.tup l
def zlb{f:Nat}{s:LC}{n:Nat}{Q:List RRes}(g:My P f=some ⟨n,s.r,Q⟩)(F:s.ok=true)(hn:D.length≤n)
  (h:W P f n s none (i4 D 0) [] G λx ρ gA R=>(match x with | .exit _=>False|_=>True)∧xf gA R λC=>Qy ρ C Q λE=>Y (Vb E) C):Qn P (.fn f) D G Y:=by
 unfold My at g;split at g
 ·cases g
 ·rename_i j;simp only[Hq,Jl]at j;refine⟨j.1,λc t1 z T U V=>?_⟩;cases t1 with
  |yield o=>exact U.elim
  |fn gC =>
   obtain rfl:f=gC:=U;split at g
   ·cases g
   ·rename_i fn H;split at g
    ·cases g
    ·rename_i b hb;split at g
     ·cases g
     ·rename_i A;split at g
      ·cases g
      ·rename_i rc I;split at g
       ·cases g
       ·rename_i gg K;cases g;obtain⟨m,x,E',gz,c',ρ',D',R,q1,X,q3,q4,q5,q6,q7⟩:=h b c _ [] none I F T (Nv.start V) .nil trivial;obtain⟨L,C,Z,r2,r3,r4⟩:=zub q5 X q7;obtain⟨E,as,s1,s2,s3⟩:=zm5 r2 (q4.mono r3.le) K r4;have B:AR L (Vb E) (oneA as):=by
         cases s2 with
         |nil=>exact .tup .nil
         |cons e es =>
          cases es with
          |nil=>exact e
          |cons e2 M=>exact .tup (.cons e (.cons e2 M))
        refine⟨m+1,oneA as,L.H,?_,L,Vb E,C,rfl,r2,.trans T X q3 r3,B,s3⟩;unfold Rs;dsimp only;rw[OL_no j.2];dsimp only;unfold zjl;rw[H];dsimp only;rw[hb];dsimp only;rw[Hv (H6 A)];dsimp only;have O:Nat.ble z.length fn.ntmps=true:=Hy (by rw[←V.length];exact hn);rw[O];dsimp only;rw[q1];dsimp only;cases x with
        |exit id=>exact q6.elim
        |normal =>
         dsimp only;rw[Z];dsimp only;rw[s1];rcases as with _|⟨a,_|⟨a2,as⟩⟩<;>rfl
        |ret =>
         dsimp only;rw[Z];dsimp only;rw[s1];rcases as with _|⟨a,_|⟨a2,as⟩⟩<;>rfl
def Qn.mono{t:LTgt}{args:List LV}{G:Mp}{K K':LV→Mp→Prop}(h:Qn P t args G K)(hk:∀v G,K v G→K' v G):Qn P t args G K' :=
 ⟨h.1,λc t1 gg h1 h2 h3=>by
  obtain⟨m,v1,H',q1,c',v,G',q2,q3,q4,q5,q6⟩:=h.2 c t1 gg h1 h2 h3;exact⟨m,v1,H',q1,c',v,G',q2,q3,q4,q5,hk _ _ q6⟩⟩
mutual
def LV.sim(m:Nat):LV→Bool
 |.bool _ |.u _ |.b _ |.i _ |.int _ _ |.str _ |.nilPtr |.nilSl |.nilMap |.nilFn |.nilIf=>true
 |.dy j k=>k==0&&decide (j<m)
 |.agg l=>sims m l
 |.tup l=>sims m l
 |_=>false
def sims(m:Nat):List LV→Bool
 |[]=>true
 |v::l=>v.sim m&&sims m l
end
mutual
def subV(sel:List LV):LV→LV
 |.dy j _=>sel.getD j .any
 |.agg l=>.agg (subVs sel l)
 |.tup l=>.tup (subVs sel l)
 |v=>v
def subVs(sel:List LV):List LV→List LV
 |[]=>[]
 |v::l=>subV sel v::subVs sel l
end
def notP(p:Nat):LV→Prop
 |.dy q _=>q≠p
 |_=>True
def Ui(A:Mp):List LV→Mp→Prop
 |[],[]=>True
 |.dy p k::s,.dyn l len j g st::B=>g=0∧l.all LV.scal=true∧(∃z,A[p]?=some (.dyn l len j k z))∧st=0∧(∀x∈s,notP p x)∧Ui A s B
 |.nilSl::s,.dyn l len _ g st::B=>g=0∧st=0∧l=[]∧len=0∧Ui A s B
 |_,_=>False
def Ng(P:Program)(f:Nat)(A:List LV)(F:LV)(C:Mp):Prop :=
 cz P (.fn f)∧F.sim C.length=true∧(∀(I:Nat) (G:LObj),C[I]?=some G→∃l len D,G=.dyn l len D 0 0∧l.all LV.scal=true)∧∀(B:Nat→Prop) (E:Heap) (g:List AV),(∀o,B o→o<E.next)→ARs ⟨[],B,E⟩ A g →
  ∃m H j z,Rs P (OL P) m (.fn f) g E=.ok H z∧HSim ⟨j,B,z⟩ C∧AR ⟨j,B,z⟩ F H∧E.next≤z.next∧(∀o,o<E.next→z.get o=E.get o)∧∀o,Oq ⟨j,B,z⟩ C o→E.next≤o
def ze3{c g:Cx}:∀{l:List LV} {r:List AV},l.all LV.scal=true→ARs c l r→ARs g l r
 |[],_,_,.nil=>.nil
 |v::l,_,h,.cons e j=>by
  simp only[J1,Hq]at h;refine .cons ?_ (ze3 h.2 j);cases v<;>first|(cases h.1;done)|(cases e;constructor)
def HSim.empty{Fz:Nat→Prop}{H:Heap}(h:∀o,Fz o→o<H.next):HSim ⟨[],Fz,H⟩ [] :=
 ⟨rfl,h,λo ⟨p,_,_,_,e,_⟩=>Bo,λo ⟨p,_,_,_,e,_⟩=>Bo,λp _ _ _ e=>Bo,λp _ _ _ _ _ _ _ _ e=>Bo⟩
def zij{c:Cx}{gA:Mp}(Q:HSim c gA):∀{g:List LV} {R:Mp},Ui gA g R→∃C:List (Nat×AV),C.length=R.length ∧
  (∀(j:Nat) (E:LObj) (k:Nat) (h:AV),R[j]?=some E→C[j]?=some (k,h)→k=0∧(∀T:Cx,T.H=c.H→yx T 0 h E)∧(∃l len F,E=.dyn l len F 0 0∧l.all LV.scal=true) ∧
   ((g[j]?=some .nilSl∧h=.nilSl)∨∃p D,g[j]?=some (.dy p D)∧c.hd[p]?=some (D,h)∧(∀o,Nl h=some o→Oq c gA o)∧∃G,gA[p]?=some G∧G.live=true)) ∧
  (∀(i j p k q D:Nat),g[i]?=some (.dy p k)→g[j]?=some (.dy q D)→p=q→i=j)
 |[],[],_=>⟨[],rfl,λj E k h e=>Bo,λi j p k q D e=>Bo⟩
 |[],_::_,h=>h.elim
 |s::g,[],h=>by cases s<;>exact h.elim
 |s::g,E::R,h=>by
  cases s<;>cases E<;>first|exact h.elim|skip
  ·rename_i l len F V st;obtain⟨rfl,rfl,rfl,rfl,h⟩:=h;obtain⟨C,X,Y,Z⟩:=zij Q h;refine⟨(0,.nilSl)::C,by simp[X],λj E k h z A=>?_,λi j p k q D z A H=>?_⟩
   ·cases j with
    |zero =>
     simp only[Ii,Option.some.injEq]at z A;cases z;cases A;exact⟨rfl,λT _=>⟨rfl,N,.inl ⟨rfl,rfl⟩⟩,⟨_,_,_,rfl,rfl⟩,.inl ⟨rfl,rfl⟩⟩
    |succ j=>exact Y j E k h B7 B2
   ·cases i with
    |zero=>simp at z
    |succ i=>cases j with
     |zero=>simp at A
     |succ j=>have:=Z i j p k q D B7 B2 H;omega
  ·rename_i p k l len F V st;obtain⟨rfl,I,⟨gC,U⟩,rfl,gg,h⟩:=h;obtain⟨C,X,Y,Z⟩:=zij Q h;have hp:p<c.hd.length:=by rw[Q.len];exact (Hm.1 U).1
   obtain⟨k0,h0,e0⟩:∃k h,c.hd[p]?=some (k,h):=⟨_,_,Ht hp⟩;have K:=Q.obj p _ _ _ U e0;have hk:=K.1;subst hk;have B:∀(j q D:Nat),g[j]?=some (.dy q D)→q≠p:=λj q D e=>gg _ (Ia e)
   refine⟨(0,h0)::C,by simp[X],λj E k h z A=>?_,λi j p' k q D z A H=>?_⟩
   ·cases j with
    |zero =>
     simp only[Ii,Option.some.injEq]at z A;cases z;cases A;refine⟨rfl,λT gz=>?_,⟨_,_,_,rfl,I⟩,.inr ⟨p,_,rfl,e0,λo ho=>⟨p,_,_,_,U,rfl,e0,ho⟩,_,U,rfl⟩⟩;obtain⟨_,r1,L⟩:=K;refine⟨rfl,r1,?_⟩;rcases L with L|⟨o,v,M,t,O,l',L,r3,r4,r5,r6,r7⟩
     ·exact .inl L
     ·exact .inr ⟨o,v,M,t,O,l',L,by rw[gz];exact r3,r4,r5,ze3 I r6,r7⟩
    |succ j=>exact Y j E k h B7 B2
   ·cases i with
    |zero =>
     simp only[Ii,Option.some.injEq]at z;cases z;cases j with
     |zero=>rfl
     |succ j=>exact absurd H.symm (B j q D B2)
    |succ i=>cases j with
     |zero =>
      simp only[Ii,Option.some.injEq]at A;cases A;exact absurd H (B i p' k B7)
     |succ j=>have:=Z i j p' k q D B7 B2 H;omega
mutual
def sub_AR{c c':Cx}{sel:List LV}(gg:∀(gA:Nat) (v:LV) (a:AV),sel[gA]?=some v→AR c v a→AR c' (.dy gA 0) a)(v:LV)(a:AV)(j:v.sim sel.length=true)(h:AR c (subV sel v) a):AR c' v a:=by
 cases v with
 |dy gA k =>
  simp only[LV.sim,Hq,Lt,Hz]at j;obtain⟨rfl,gz⟩:=j;refine gg gA _ a (Ht gz) ?_;unfold subV at h
  rwa [Hn,Ht gz]at h
 |agg l =>
  simp only[LV.sim]at j;simp only[subV]at h;cases h with
  |agg h=>exact .agg (sub_ARs gg l _ j h)
 |tup l =>
  simp only[LV.sim]at j;simp only[subV]at h;cases h with
  |tup h=>exact .tup (sub_ARs gg l _ j h)
 |_=>first|(simp only[LV.sim]at j;cases j;done)|(simp only[subV]at h;cases h;constructor)
termination_by SizeOf.sizeOf v
def sub_ARs{c c':Cx}{sel:List LV}(gg:∀(gA:Nat) (v:LV) (a:AV),sel[gA]?=some v→AR c v a→AR c' (.dy gA 0) a)(l:List LV)(r:List AV)(j:sims sel.length l=true)(h:ARs c (subVs sel l) r):ARs c' l r:=by
 cases l with
 |nil=>simp only[subVs]at h;cases h;exact .nil
 |cons v l =>
  simp only[sims,Hq]at j;simp only[subVs]at h;cases h with
  |cons e es=>exact .cons (sub_AR gg v _ j.1 e) (sub_ARs gg l _ j.2 es)
termination_by SizeOf.sizeOf l
end
def Ng.mk{f:Nat}{args:List LV}{G0:Mp}(gz:uU.sim G0.length=true)(h:Qn P (.fn f) args [] λv G=>∃sel,v=subV sel uU∧sel.length=G0.length∧Ui G sel G0)(hG:∀(gD:Nat) (ob:LObj),G0[gD]?=some ob→∃l len esz,ob=.dyn l len esz 0 0∧l.all LV.scal=true):Ng P f args uU G0:=by
 refine⟨h.1,gz,hG,λFz H gE gF ha=>?_⟩;obtain⟨m,v1,H',q1,c1,v,G,rfl,q3,q4,q5,sel,rfl,hlen,hr⟩:=h.2 ⟨[],Fz,H⟩ (.fn f) gE (.empty gF) rfl ha;obtain⟨gg,r1,r2,r3⟩:=zij q3 hr;have gG:∀(gD:Nat) (ob:LObj),G0[gD]?=some ob→∃k h,gg[gD]?=some (k,h):=λgD ob e=>⟨_,_,Ht (by rw[r1];exact (Hm.1 e).1)⟩
 have gA:∀o,Oq ⟨gg,Fz,c1.H⟩ G0 o→Oq c1 G o:=by
  rintro o ⟨gD,ob,k,h,e1,e2,e3,e4⟩;obtain⟨_,_,_,j⟩:=r2 gD ob k h e1 e3;rcases j with ⟨_,j⟩|⟨p,k',_,_,s6,_⟩
  ·rw[j]at e4;cases e4
  ·exact s6 o e4
 have gC:∀o,Oq ⟨gg,Fz,c1.H⟩ G0 o→H.next≤o:=λo ho=>by
  rcases q4.new o (gA o ho) with ⟨p,_,_,_,e,_⟩|h
  ·simp at e
  ·exact h
 have gH:∀o,¬Oq ⟨[],Fz,H⟩ [] o:=λo ⟨p,_,_,_,e,_⟩=>Bo
 have gI:HSim ⟨gg,Fz,c1.H⟩ G0:=by
  refine⟨r1,λo ho=>Il (gF o ho) q4.nx,λo ho=>q3.lt o (gA o ho),λo ho hf=>?_,λgD ob k h e1 e2=>?_,λi gD ob gK k h k' h' o e1 e2 e3 e4 e5 e6 e7 e8=>?_⟩
  ·have:=gC o ho;have:=gF o hf;omega
  ·obtain⟨s1,s2,_⟩:=r2 gD ob k h e1 e2;rw[s1];exact s2 _ rfl
  ·obtain⟨_,_,_,j⟩:=r2 i ob k h e1 e5;obtain⟨_,_,_,t4⟩:=r2 gD gK k' h' e2 e6;rcases j with ⟨_,j⟩|⟨p,kp,s5,s6,_,o1,g1,g2⟩
   ·rw[j]at e7;cases e7
   ·rcases t4 with ⟨_,t4⟩|⟨q,kq,t5,t6,_,o2,g3,g4⟩
    ·rw[t4]at e8;cases e8
    ·refine r3 i gD p kp q kq s5 t5 ?_;exact q3.excl p q o1 o2 kp h kq h' o g1 g3 g2 g4 s6 t6 e7 e8
 refine⟨m,v1,gg,c1.H,q1,gI,?_,q4.nx,λo ho=>q4.frame o ho (gH o),gC⟩;refine sub_AR (c:=c1) (λgD v a e1 e2=>?_) uU v1 (by rw[hlen];exact gz) q5;have hj:gD<G0.length:=by rw[←hlen];exact (Hm.1 e1).1
 obtain⟨k,h,e3⟩:=gG gD _ (Ht hj);obtain⟨rfl,_,_,j⟩:=r2 gD _ k h (Ht hj) e3;rcases j with ⟨j,s5⟩|⟨p,k',j,s5,_⟩
 ·rw[e1]at j;cases j;cases e2;exact .dy e3 (Hw _) (λ_=>s5.symm) rfl
 ·rw[e1]at j;cases j;cases e2 with
  |dy f1 f2 f3 f4 =>
   rw[s5]at f1;cases f1;exact .dy e3 (Hw _) (λ_=>f3 rfl) f4
end fns
end
section
noncomputable section
def qy(ρ:Mq)(G:Mp):LOp→Option (Option Nat)
 |.load1 x |.loadN _ x=>match x.ev ρ with
  |.ptr p _=>some (some p)
  |.dptr p k _=>match G[p]? with
   |some (.dyn _ _ _ g _)=>if k=g then some (some p) else none
   |_=>none
  |.cptr _ _=>some none
  |_=>none
 |.cvStr x=>match x.ev ρ with
  |.nilSl=>some none
  |.lst _ _ _=>some none
  |.dy p k=>match G[p]? with
   |some (.dyn _ _ _ g _)=>if k=g then some (some p) else none
   |_=>none
  |_=>none
 |_=>none
def yu(G g:Mp)(p:Nat):Prop:=match G[p]?,g[p]? with
 |some a,some b=>a.stp=true∧a.st=b.st
 |_,_=>False
def ckC(ρ:Mq)(G g:Mp)(x:LI×Bool):Prop:=match x.2 with
 |false=>match qy ρ G x.1.o with
  |some none=>True
  |some (some p)=>yu G g p
  |none=>False
 |true=>match x.1.d with
  |none=>False
  |some d=>match lk ρ d with
   |.ptr p _=>yu G g p
   |.dy p k=>(match G[p]? with
    |some (.dyn _ _ _ j _)=>k=j
    |_=>False)∧yu G g p
   |_=>False
def ckL(ρ:Mq)(G g:Mp)(x:LI×Bool):Prop:=match x.1.g with
 |none=>ckC ρ G g x
 |some (t,w)=>match lk ρ t with
  |.bool b=>b=w→ckC ρ G g x
  |_=>ckC ρ G g x
def Vl(ρ:Mq)(G g:Mp):List (LI×Bool)→Prop
 |[]=>True
 |x::l=>ckL ρ G g x∧Vl ρ G g l
def aq(P:Program):List (LI×List (LI×Bool))→Mq→Mp→(Mq→Mp→Prop)→Prop
 |[],ρ,G,j=>j ρ G
 |(x,z)::l,ρ,G,j=>Z5 P x ρ G λA g=>Vl ρ G g z∧aq P l A g j
section al
variable {P : Program}
def Zk{v:AV}{id n:Nat}(h:Nl v=some id):P2 id (P2 n v)=v:=by
 cases v<;>first|(cases h;done)|(cases h;rfl)
def zlu{l:List AV}{v:AV}(h:Wm F l=.val v vY):∃j,vY=F.push j∧Nl v=some F.next∧∀g,Wm g l=.val (P2 g.next v) (g.push j):=by
 unfold Wm newObj at h;cases h;exact⟨_,rfl,rfl,λg=>rfl⟩
def zot{l:List AV}{a b:Nat}{r:Option Nat}{v:AV}(h:(match newObj F l with
  |some (o,j)=>OR.val (.sl o 0 0 a b r) j
  |none=>.no)=.val v vY):∃z,vY=F.push z∧Nl v=some F.next∧∀g,(match newObj g l with
  |some (o,j)=>OR.val (.sl o 0 0 a b r) j
  |none=>.no)=.val (P2 g.next v) (g.push z):=by
 unfold newObj at h;cases h;exact⟨_,rfl,rfl,λg=>rfl⟩
def al_any{o:Op}(g:cls P o=.al){v:AV}(h:(Ny P o).run vG F=.val v vY):∃z,vY=F.push z∧Nl v=some F.next∧∀j,(Ny P o).run vG j=.val (P2 j.next v) (j.push z):=by
 cases o with
 |alloc t =>
  simp only[Ny]at h ⊢;split at h
  ·exact zlu h
  ·cases h
 |box t x =>
  simp only[Ny,Ps]at h ⊢;cases A:(Na x).run vG with
  |none=>rw[A]at h;cases h
  |some a =>
   rw[A]at h;dsimp only at h ⊢;cases B:a.cells with
   |none=>rw[B]at h;cases h
   |some l=>rw[B]at h;exact zlu h
 |buildSlice t len H =>
  simp only[Ny,xd]at h ⊢;split at h
  ·split at h
   ·cases h
   ·split at h
    ·cases h
    ·rename_i O M;by_cases E:len * ‹Nat›≤2^20∧0 < ‹Nat›
     ·rw[Hv E]at h ⊢;split at h
      ·cases h
      ·dsimp only at h ⊢;split at h
       ·exact zot h
       ·cases h
     ·rw[Hs E]at h;cases h
  ·cases h
 |makeSlice t l c =>
  simp only[Ny,yr]at h ⊢;split at h
  ·split at h
   ·cases h
   ·split at h
    ·cases h
    ·split at h
     ·rename_i i hi O M E;simp only[Hv E];simp only[S9]at h ⊢;cases B:(Na l).run vG with
      |none=>rw[B]at h;cases h
      |some a =>
       rw[B]at h;cases C:(Na c).run vG with
       |none=>rw[C]at h;cases h
       |some b =>
        rw[C]at h;dsimp only at h ⊢;split at h
        ·rename_i n m;cases I:Nat.ble n m with
         |false=>rw[I]at h;cases h
         |true =>
          rw[I]at h;cases K:Nat.ble m 1048576 with
          |false=>rw[K]at h;cases h
          |true=>rw[K]at h;exact zot h
        ·cases h
     ·cases h
  ·cases h
 |makeMap t r =>
  have L:∀{v:AV} {vY:Heap},Zv F=.val v vY→∃z,vY=F.push z∧Nl v=some F.next∧∀j,Zv j=.val (P2 j.next v) (j.push z):=λh=>by
   unfold Zv at h;cases h;exact⟨_,rfl,rfl,λj=>rfl⟩
  simp only[Ny,xh]at h ⊢;split at h
  ·exact L h
  ·rename_i x;split at h
   ·simp only[Ps]at h ⊢;cases A:(Na x).run vG with
    |none=>rw[A]at h;cases h
    |some a =>
     rw[A]at h;dsimp only at h ⊢;split at h
     ·exact L h
     ·cases h
   ·cases h
 |_ =>
  exfalso;simp only[cls]at g
  first
   |(cases g;done)
   |(split at g<;>first|(cases g;done)|(split at g<;>cases g))
   |(simp only[zff]at g;split at g<;>first|(cases g;done)|(split at g<;>first|(cases g;done)|(split at g<;>cases g)))
end al
section draw
variable {P : Program} {n : Nat} {ops : Array Oper}
def Ua(P:Program)(ops:Array Oper)(x:DOp)(j:Tr AV)(A:Heap):Prop:=match x.c with
 |.rd=>(R3 ops x.o).run j=true→∃d v,x.o.dst=some d∧Mt (M9 d) j=some v∧(Ny P x.o.op).run j A=.val v A
 |.al=>(R3 ops x.o).run j=true→∃d v id z,x.o.dst=some d∧Mt (M9 d) j=some v∧Nl v=some id∧A.get id=some z∧∀g,(Ny P x.o.op).run j g=.val (P2 g.next v) (g.push z)
 |_=>True
def z9k{x:DOp}(h:Ua P ops x vG F)(j:x.c=.rd∨x.c=.al)(hd:zt ops x=true):(bv P ops x).run vG F=true:=by
 unfold bv;cases g:x.o.dst with
 |none=>unfold zt at hd;rw[g]at hd;cases hd
 |some d =>
  dsimp only;cases C:(R3 ops x.o).run vG with
  |false=>rfl
  |true =>
   dsimp only;unfold Ua at h;rcases j with j|j
   ·rw[j]at h;obtain⟨E,v,z,B,A⟩:=h C;rw[g]at z;cases z;rw[B,A,j];dsimp only;unfold Xo;split
    ·rfl
    ·exact @I7 _ (Classical.propDecidable _) rfl
   ·rw[j]at h;obtain⟨E,v,id,L,z,B,A,H,I⟩:=h C;rw[g]at z;cases z;rw[B,I F,j];dsimp only;unfold Wv;rw[A];dsimp only;have K:Xo (Qw 30 v (P2 id (P2 F.next v))) v (P2 id (P2 F.next v))=true:=by
     unfold Xo;split
     ·rfl
     ·exact @I7 _ (Classical.propDecidable _) (Zk A).symm
    rw[K,H,Heap.get_push_same];dsimp only;unfold Xo;split
    ·rfl
    ·exact @I7 _ (Classical.propDecidable _) rfl
def zdn{t:Nat}:∀{l:List Nat},Vq t l=false→t ∉ l
 |[],_=>N
 |a::l,h=>by
  simp only[Vq]at h;cases g:Nat.beq t a with
  |true=>rw[g]at h;cases h
  |false =>
   rw[g]at h;intro hm;rcases H5.1 hm with rfl|hm
   ·rw[It]at g;cases g
   ·exact zdn h hm
def kh{x:DOp}{d:Option Nat}(h:Xc ops d x=true)(v:AV)(g:Tr AV):Ri (Ue ops x.o) (Oo d v g) g∧∀e,x.o.dst=some e→Mt (M9 e) (Oo d v g)=Mt (M9 e) g:=by
 cases d with
 |none=>exact⟨λt _ _=>rfl,λe _=>rfl⟩
 |some d =>
  unfold Xc at h;dsimp only at h;cases hm:Vq d (Ue ops x.o) with
  |true=>rw[hm]at h;cases h
  |false =>
   rw[hm]at h;dsimp only at h;refine⟨λt j _=>?_,λe he=>?_⟩
   ·show Mt (M9 t) (Oh v (M9 d) g)=_;rw[z5b (λq=>zdn hm (by rw[←q];exact j))]
   ·rw[he]at h;dsimp only at h;show Mt (M9 e) (Oh v (M9 d) g)=_;rw[z5b (λq=>by rw[q,It]at h;cases h)]
def Ua.put{x:DOp}{E:Tr AV}{H:Heap}(h:Ua P ops x E H){d:Option Nat}(ho:Xc ops d x=true)(v:AV):Ua P ops x (Oo d v E) H:=by
 obtain⟨h1,h2⟩:=kh ho v E;have hg:=xq (o:=x.o) h1;have hc:∀H2,(Ny P x.o.op).run (Oo d v E) H2=(Ny P x.o.op).run E H2:=λH2=>z7n h1
 unfold Ua at h ⊢;cases hx:x.c with
 |rd =>
  rw[hx]at h;intro g;obtain⟨d',w,k1,k2,k3⟩:=h (by rw[←hg];exact g);exact⟨d',w,k1,by rw[h2 d' k1];exact k2,by rw[hc];exact k3⟩
 |al =>
  rw[hx]at h;intro g;obtain⟨d',w,id,ob,k1,k2,k3,k4,k5⟩:=h (by rw[←hg];exact g);exact⟨d',w,id,ob,k1,by rw[h2 d' k1];exact k2,k3,k4,λH2=>by rw[hc];exact k5 H2⟩
 |quiet=>trivial
 |ch=>trivial
def Z2{x:DOp}{r:RI}(g:om P n ops x.o=some r)(C:Tr AV):(R3 ops x.o).run C=ar r.g C∧Sa P x.o.op=some r.o∧r.d=x.o.dst:=by
 unfold om at g;split at g
 ·cases g
 ·split at g
  ·cases g
  ·rename_i ro j;split at g
   ·rename_i z;cases g;refine⟨?_,j,rfl⟩;unfold R3;rw[z];rfl
   ·rename_i E w z;split at g
    ·cases g
    ·rename_i t A;split at g
     ·rename_i B;cases g;refine⟨?_,j,rfl⟩;unfold R3;rw[z];dsimp only;rw[A];dsimp only;rw[Hv (H6 B)];rfl
     ·cases g
def Ua.keep{x:DOp}{li:LI}(hr:om P n ops x.o=some li.r)(gz:li.o.ok=true){c:Cx}{G G1:Mp}{ρ:Mq}{E:Tr AV}(hs:HSim c G)(hE:Nv c ρ E)(st:Step c G vC G1)(gg:ckL ρ G G1 (li,Uu x))
  (h:Ua P ops x E c.H):Ua P ops x E vC.H:=by
 have gC:∀{p k:Nat} {a:AV} {o:Nat},yu G G1 p→c.hd[p]?=some (k,a)→Nl a=some o→vC.H.get o=c.H.get o:=by
  intro p k a o hk e1 e2;unfold yu at hk;split at hk
  ·rename_i a1 b1 g1 g2;exact (st.st p a1 b1 k a o g1 g2 e1 e2 hk.1 hk.2).2.1
  ·exact hk.elim
 obtain⟨g1,g2,g3⟩:=Z2 hr E;have gD:(R3 ops x.o).run E=true→ckC ρ G G1 (li,Uu x):=by
  intro g;rw[g1]at g;unfold ckL at gg;dsimp only at gg;split at gg
  ·exact gg
  ·rename_i t w hg;split at gg
   ·rename_i b hb;refine gg ?_;have ht:=hE t;rw[hb]at ht;rw[show li.r.g=li.g from rfl,hg]at g;unfold ar at g;dsimp only at g;cases hq:Mt (M9 t) E with
    |none=>rw[hq]at g;cases g
    |some a =>
     rw[hq]at g ht;cases ht;cases b<;>cases w<;>first|rfl|cases g
   ·exact gg
 unfold Ua at h ⊢;cases hx:x.c with
 |quiet=>trivial
 |ch=>trivial
 |rd =>
  rw[hx]at h;intro g;have hc:=gD g;obtain⟨d,v,k1,k2,k3⟩:=h g;refine⟨d,v,k1,k2,?_⟩;rw[zto (zs3 E) g2]at k3 ⊢;have gH:Uu x=false:=by unfold Uu;rw[hx]
  unfold ckC at hc;rw[gH]at hc;dsimp only at hc;have gG:∀{y:Lx},y.ok=true→∀m,(match y.ev ρ with
    |.ptr p _=>some (some p)
    |.dptr p k _=>(match G[p]? with
     |some (.dyn _ _ _ gA _)=>if k=gA then some (some p) else none
     |_=>none)
    |.cptr _ _=>some none
    |_=>(none:Option (Option Nat)))=some m→(∀p,m=some p→yu G G1 p)→∃o v i,y.r.ev (ρA E)=.ptr o v i∧vC.H.get o=c.H.get o:=by
   intro y hy m hm hk;have hv:=Oe hE hy;generalize y.ev ρ=w at hm hv;generalize y.r.ev (ρA E)=b at hv ⊢;split at hm
   ·rename_i p i;cases hm;cases hv with
    |ptr e=>exact⟨_,_,_,rfl,gC (hk p rfl) e rfl⟩
   ·rename_i p k i;split at hm
    ·rename_i l len gE gA stp hg;by_cases gF:k=gA
     ·rw[Hv gF]at hm;cases hm;cases hv with
      | @dptr _ _ _ k' o v gU hh e gK ha =>
       have:=(hs.obj p _ _ _ hg e).1;obtain⟨_,gQ,gR,room,rfl⟩:=ha J;exact⟨o,v,gU,rfl,gC (hk p rfl) e rfl⟩
     ·rw[Hs gF]at hm;cases hm
    ·cases hm
   ·cases hm;cases hv with
    |cptr hf hr hl=>exact⟨_,_,_,rfl,(st.le.fz _ hf).2⟩
   ·cases hm
  have fin:∀m,qy ρ G li.o=some m→(∀p,m=some p→yu G G1 p)→Oi P (ρA E) vC.H li.r.o=.val v vC.H:=by
   intro m hm hk;have j:Oi P (ρA E) c.H li.o.r=.val v c.H:=k3;show Oi P (ρA E) vC.H li.o.r=_;unfold qy at hm;split at hm
   ·rename_i y ho;rw[ho]at j gz ⊢;obtain⟨o,w,i,q1,q2⟩:=gG gz m hm hk;simp only[LOp.r,Oi]at j ⊢;rw[q1]at j ⊢;dsimp only at j ⊢;rw[zx q2];split at j
    ·cases j;rfl
    ·cases j
   ·rename_i nn y ho;rw[ho]at j gz ⊢;obtain⟨o,w,i,q1,q2⟩:=gG gz m hm hk;simp only[LOp.r,Oi]at j ⊢;rw[q1]at j ⊢;dsimp only at j ⊢;rw[zx q2];split at j
    ·cases j;rfl
    ·cases j
   ·rename_i y ho;rw[ho]at j gz ⊢;have hv:=Oe hE gz;simp only[LOp.r,Oi]at j ⊢;generalize y.ev ρ=w at hm hv;generalize y.r.ev (ρA E)=b at hv j ⊢;have done:(∀o v i len gE room,b=.sl o v i len gE room→vC.H.get o=c.H.get o)→(match b with
      |.nilSl=>OR.val (.str 0 0) vC.H
      |.sl o v i len 1 _=>match Qi vC.H o v i len with
       |some l=>match Vy.bytesA l with
        |some n=>.val (.str len n) vC.H
        |none=>.no
       |none=>.no
      |_=>.no)=.val v vC.H:=by
     intro hh;split at j
     ·cases j;rfl
     ·rename_i o v2 i len room;have e:=hh o v2 i len 1 room rfl;show (match Qi vC.H o v2 i len with
       |some l=>match Vy.bytesA l with
        |some n=>OR.val (.str len n) vC.H
        |none=>.no
       |none=>.no)=.val v vC.H
      rw[zx e];split at j
      ·rename_i gM;split at j
       ·rename_i hb;cases j;rw[gM];dsimp only;rw[hb]
       ·cases j
      ·cases j
     ·cases j
    split at hm
    ·cases hv;exact done (λ_ _ _ _ _ _ e=>Aq)
    ·cases hm;cases hv with
     |lst hf gT hlen hr hl=>exact done (λ_ _ _ _ _ _ e=>by cases e;exact (st.le.fz _ hf).2)
     |lstNil=>exact done (λ_ _ _ _ _ _ e=>Aq)
     |lstEmp=>exact done (λ_ _ _ _ _ _ e=>Aq)
    ·rename_i p k;split at hm
     ·rename_i l len gE gA stp hg;by_cases gF:k=gA
      ·rw[Hv gF]at hm;cases hm;cases hv with
       | @dy _ _ k' hh _ e gK ha gO =>
        have:=(hs.obj p _ _ _ hg e).1;have gI:=ha J;exact done (λo v i len gE room eb=>gC (hk p rfl) e (by rw[←gI,eb];rfl))
      ·rw[Hs gF]at hm;cases hm
     ·cases hm
    ·cases hm
   ·cases hm
  split at hc
  ·rename_i hm;exact fin none hm (λp e=>Aq)
  ·rename_i p hm;exact fin (some p) hm (λp' e=>by cases e;exact hc)
  ·exact hc.elim
 |al =>
  rw[hx]at h;intro g;have hc:=gD g;obtain⟨d,v,id,ob,k1,k2,k3,k4,k5⟩:=h g;refine⟨d,v,id,ob,k1,k2,k3,?_,k5⟩;have gH:Uu x=true:=by unfold Uu;rw[hx]
  unfold ckC at hc;rw[gH]at hc;dsimp only at hc;have hd:li.d=some d:=by rw[←k1];exact g3
  rw[hd]at hc;dsimp only at hc;have hv:=hE d;rw[k2]at hv;split at hc
  ·rename_i p i hl;rw[hl]at hv;cases hv with
   |ptr e=>cases k3;rw[gC hc e rfl];exact k4
  ·rename_i p k hl;rw[hl]at hv;obtain⟨gL,gP⟩:=hc;split at gL
   ·rename_i l len gE gA stp hg;cases hv with
    | @dy _ _ k' hh _ e gK ha gO =>
     have:=(hs.obj p _ _ _ hg e).1;have gI:v=hh:=ha J;rw[gC gP e (by rw[←gI];exact k3)];exact k4
   ·exact gL.elim
  ·exact hc.elim
def cks_mem:∀{g:List DOp} {B:List (LI×Bool)},zln P n ops g=some (rck B)→∀{ρ:Mq} {G C:Mp},Vl ρ G C B→∀x∈g,∃z,om P n ops x.o=some z.r∧(z,Uu x)∈B∧ckL ρ G C (z,Uu x)
 |[],_,_,_,_,_,_,x,j=>by simp at j
 |y::g,[],h,_,_,_,_,x,j=>by
  simp only[zln]at h;split at h
  ·cases h
  ·split at h<;>cases h
 |y::g,(z,b)::B,h,ρ,G,C,k,x,j=>by
  simp only[zln]at h;split at h
  ·cases h
  ·rename_i r F;split at h
   ·cases h
   ·rename_i M A;simp only[rck,Option.some.injEq,List.cons.injEq,Prod.mk.injEq]at h;obtain⟨⟨rfl,rfl⟩,H⟩:=h;rw[H]at A;rcases H5.1 j with rfl|j
    ·exact⟨z,F,N,k.1⟩
    ·obtain⟨E,I,K,L⟩:=cks_mem A k.2 x j;exact⟨E,I,A9,L⟩
def zd3{g:Type}{f:g→Bool}:∀{l:List g} {x:g},x∈Nr f l→x∈l
 |[],_,h=>h
 |a::l,x,h=>by
  simp only[Nr]at h;split at h
  ·rcases H5.1 h with rfl|h
   ·simp
   ·exact Ij _ (zd3 h)
  ·exact Ij _ (zd3 h)
def zh8{z:Type}{f:z→Bool}:∀{l:List z},Vf f l=true→∀x∈l,f x=true
 |[],_,x,g=>by simp at g
 |a::l,h,x,g=>by
  simp only[Vf]at h;split at h
  ·rename_i j;rcases H5.1 g with rfl|g
   ·exact j
   ·exact zh8 h x g
  ·cases h
def zd5{j:Tr AV}{z:Heap}:∀{l:List DOp},(∀x∈l,(bv P ops x).run j z=true)→(q9 P ops l).run j z=true
 |[],_=>rfl
 |x::l,h=>by
  simp only[q9];rw[h x N];exact zd5 (λy g=>h y At)
structure Pend (P:Program) (n:Nat) (ops:Array Oper) (x:DOp):Prop where
 cls:x.c=.rd∨x.c=.al
 own:zt ops x=true
def drawGo_ok:∀{l z:List DOp} {g:List (LI×List (LI×Bool))} {c:Cx} {G:Mp} {ρ:Mq} {gD:Tr AV} {gM:Mq→Mp→Prop},ye P n ops l z=some (v4 g)→(g.all λx=>x.1.o.ok&&x.2.all (·.1.o.ok))=true →
  HSim c G→Nv c ρ gD→(∀x∈z,Pend P n ops x∧Ua P ops x gD c.H)→aq P g ρ G gM →
  ∃m Y R U O,(Uo P n ops l z).run (Rs P (OL P) m) gD c.H=.ok Y R.H∧HSim R O∧Step c G R O∧Nv R U Y∧gM U O
 |[],z,g,c,G,ρ,gD,gM,h,_,hs,hE,_,k=>by
  cases g with
  |nil=>exact⟨0,gD,c,ρ,G,rfl,hs,.refl c G,hE,k⟩
  |cons _ _=>cases h
 |x::l,z,g,c,G,ρ,gD,gM,h,I,hs,hE,hp,k=>by
  simp only[ye]at h;split at h
  ·cases h
  ·rename_i gI;rw[Hq]at gI;obtain⟨gE,C⟩:=gI;split at h
   ·cases h
   ·rename_i r hr;have gC:∀{li:LI} {cs:List (LI×Bool)} {H:List (LI×List (LI×Bool))},r=li.r→g=(li,cs)::H →
      ∃m M K ρ1 Z v,(Qj P n ops x.o).run (Rs P (OL P) m) gD c.H=.ok M K.H∧M=Oo x.o.dst v gD∧HSim K Z∧Step c G K Z∧Nv K ρ1 M∧Vl ρ G Z cs∧aq P H ρ1 Z gM:=by
     intro li cs H e1 e2;subst e2;simp only[J1,Hq]at I;obtain⟨m,M,K,ρ1,Z,q1,q2,q3,q4,q5,q6⟩:=jm hs hE I.1.1 (show Z5 P li ρ G (λU O=>Vl ρ G O cs∧aq P H U O gM) from k);rw[←e1,←zfz hr]at q1;obtain⟨v,w1,_⟩:=z5x q1;exact⟨m,M,K,ρ1,Z,v,q1,w1,q2,q3,q4,q5,q6⟩
    have gF:∀{v:AV},∀y∈z,Ua P ops y gD c.H→Ua P ops y (Oo x.o.dst v gD) c.H:=λy B hv=>hv.put (zh8 gE y B) _
    have go:∀{pend':List DOp} {H:List (LI×List (LI×Bool))} {m:Nat} {M:Tr AV} {K:Cx} {ρ1:Mq} {Z:Mp},ye P n ops l pend'=some (v4 H)→(H.all λx=>x.1.o.ok&&x.2.all (·.1.o.ok))=true→HSim K Z→Step c G K Z→Nv K ρ1 M →
      (∀y∈pend',Pend P n ops y∧Ua P ops y M K.H)→aq P H ρ1 Z gM→(Qj P n ops x.o).run (Rs P (OL P) m) gD c.H=.ok M K.H →
      ∃m' Y R U O,(Qj P n ops x.o).run (Rs P (OL P) m') gD c.H=.ok M K.H∧(Uo P n ops l pend').run (Rs P (OL P) m') M K.H=.ok Y R.H∧HSim R O∧Step c G R O∧Nv R U Y∧gM U O:=by
     intro pend' H m M K ρ1 Z a1 a2 a3 a4 a5 a6 a7 a8;obtain⟨m2,Y,R,U,O,b1,b2,b3,b4,b5⟩:=drawGo_ok a1 a2 a3 a5 a6 a7;exact⟨max m m2,Y,R,U,O,z42 (oc (J7 m m2)) a8,z5j (oc (Ks m m2)) b1,b2,.trans hs a3 a4 b3,b4,b5⟩
    cases X:x.c with
    |quiet =>
     rw[X]at h;dsimp only at h;split at h
     ·cases h
     ·rename_i rs gg;cases g with
      |nil=>cases h
      |cons it H =>
       obtain⟨li,cs⟩:=it;simp only[v4,Option.some.injEq,List.cons.injEq,Prod.mk.injEq]at h;obtain⟨⟨h1,h2⟩,h3⟩:=h;obtain⟨m,M,K,ρ1,Z,v,q1,q2,q3,q4,q5,q6,q7⟩:=gC h1 rfl;simp only[J1,Hq]at I;have hH:K.H=c.H:=by
        have hc:cls P x.o.op=.quiet:=by
         rw[X]at C;cases E:cls P x.o.op<;>rw[E]at C<;>first|rfl|cases C
        exact z5s (zbt.1 hc).reads q1
       obtain⟨m',Y,R,U,O,b1,b2,b3,b4,b5,b6⟩:=go (pend':=z) Df I.2 q3 q4 q5 (λy B=>⟨(hp y B).1,by rw[hH,q2];exact gF y B (hp y B).2⟩) q7 q1;refine⟨m',Y,R,U,O,?_,b3,b4,b5,b6⟩;simp only[Uo];rw[X];dsimp only;rw[b1];exact b2
    |rd =>
     rw[X]at h;dsimp only at h;split at h
     ·cases h
     ·rename_i j;split at h
      ·cases h
      ·rename_i rs gg;cases g with
       |nil=>cases h
       |cons it H =>
        obtain⟨li,cs⟩:=it;simp only[v4,Option.some.injEq,List.cons.injEq,Prod.mk.injEq]at h;obtain⟨⟨h1,h2⟩,h3⟩:=h;obtain⟨m,M,K,ρ1,Z,v,q1,q2,q3,q4,q5,q6,q7⟩:=gC h1 rfl;simp only[J1,Hq]at I;have hc:cls P x.o.op=.rd:=by
         rw[X]at C;cases E:cls P x.o.op<;>rw[E]at C<;>first|rfl|cases C
        have hH:K.H=c.H:=z5s (zbt.2 hc) q1;have T:Ua P ops x M K.H:=by
         unfold Ua;rw[X];intro gP;unfold zt at j;cases A:x.o.dst with
         |none=>rw[A]at j;cases j
         |some d =>
          rw[A]at j;have hm:Vq d (Ue ops x.o)=false:=Bg
          have L:Ri (Ue ops x.o) M gD:=λt ht _=>by
           rw[q2,A];show Mt (M9 t) (Oh v (M9 d) gD)=_;rw[z5b (λq=>zdn hm (by rw[←q];exact ht))]
          rw[xq L]at gP;refine⟨d,v,rfl,by rw[q2,A];exact nj _ _ _,?_⟩;rw[z7n L,hH];have E:=q1;unfold Qj at E;cases gz:Qk n x.o.dst with
          |none=>rw[gz]at E;cases E
          |some pf =>
           rw[gz]at E;dsimp only at E;rw[gP]at E;dsimp only at E;have gH:=(zbt.2 hc) gD c.H;cases V:(Ny P x.o.op).run gD c.H with
           |no=>rw[V]at E;cases E
           |call t a=>rw[V]at gH;cases gH
           |val w H2 =>
            rw[V]at E gH;cases gH;injection E with e1 e2
            have:=congrArg (λgD=>Mt (M9 d) gD) e1;rw[q2,(zb5 gz).1,A,nj,nj]at this;cases this;rfl
        obtain⟨m',Y,R,U,O,b1,b2,b3,b4,b5,b6⟩:=go (pend':=x::z) Df I.2 q3 q4 q5 (λy B=>by
         rcases H5.1 B with rfl|B
         ·exact⟨⟨.inl X,j⟩,T⟩
         ·exact⟨(hp y B).1,by rw[hH,q2];exact gF y B (hp y B).2⟩) q7 q1
        refine⟨m',Y,R,U,O,?_,b3,b4,b5,b6⟩;simp only[Uo];rw[X];dsimp only;rw[b1];exact b2
    |al =>
     rw[X]at h;dsimp only at h;split at h
     ·cases h
     ·rename_i j;split at h
      ·cases h
      ·rename_i gO gG;split at h
       ·cases h
       ·rename_i rs gg;cases g with
        |nil=>cases h
        |cons it H =>
         obtain⟨li,cs⟩:=it;simp only[v4,Option.some.injEq,List.cons.injEq,Prod.mk.injEq]at h;obtain⟨⟨h1,h2⟩,h3⟩:=h;obtain⟨m,M,K,ρ1,Z,v,q1,q2,q3,q4,q5,q6,q7⟩:=gC h1 rfl;simp only[J1,Hq]at I;have hc:cls P x.o.op=.al:=by
          rw[X]at C;cases E:cls P x.o.op<;>rw[E]at C<;>first|rfl|cases C
         rw[h2]at gG;have F:∀y∈z,Pend P n ops y∧Ua P ops y M K.H:=λy B=>by
          obtain⟨gK,w1,w2,w3⟩:=cks_mem gG q6 y B;have gA:gK.o.ok=true:=Jh.1 I.1.2 _ w2;refine⟨(hp y B).1,?_⟩;rw[q2];exact ((hp y B).2.keep w1 gA hs hE q4 w3).put (zh8 gE y B) _
         have T:Ua P ops x M K.H:=by
          unfold Ua;rw[X];intro gP;unfold zt at j;cases A:x.o.dst with
          |none=>rw[A]at j;cases j
          |some d =>
           rw[A]at j;have hm:Vq d (Ue ops x.o)=false:=Bg
           have L:Ri (Ue ops x.o) M gD:=λt ht _=>by
            rw[q2,A];show Mt (M9 t) (Oh v (M9 d) gD)=_;rw[z5b (λq=>zdn hm (by rw[←q];exact ht))]
           rw[xq L]at gP;have E:=q1;unfold Qj at E;cases gz:Qk n x.o.dst with
           |none=>rw[gz]at E;cases E
           |some pf =>
            rw[gz]at E;dsimp only at E;rw[gP]at E;dsimp only at E;cases V:(Ny P x.o.op).run gD c.H with
            |no=>rw[V]at E;cases E
            |call t a =>
             exfalso;have:=ztz (o:=x.o) hc gD c.H;rw[V]at this;exact this
            |val w H2 =>
             rw[V]at E;injection E with e1 e2
             have:=congrArg (λgD=>Mt (M9 d) gD) e1;rw[q2,(zb5 gz).1,A,nj,nj]at this;cases this;obtain⟨ob,u1,u2,u3⟩:=al_any hc V;refine⟨d,_,c.H.next,ob,rfl,by rw[q2,A];exact nj _ _ _,u2,?_,λH3=>by rw[z7n L];exact u3 H3⟩;rw[←e2,u1];exact Heap.get_push_same _ _
         obtain⟨m',Y,R,U,O,b1,b2,b3,b4,b5,b6⟩:=go (pend':=x::z) Df I.2 q3 q4 q5 (λy B=>by
          rcases H5.1 B with rfl|B
          ·exact⟨⟨.inr X,j⟩,T⟩
          ·exact F y B) q7 q1
         refine⟨m',Y,R,U,O,?_,b3,b4,b5,b6⟩;simp only[Uo];rw[X];dsimp only;rw[b1];dsimp only;rw[zd5 (λy B=>by
          rcases H5.1 B with rfl|B
          ·exact z9k T (.inr X) j
          ·exact z9k (F y B).2 (F y B).1.cls (F y B).1.own)]
         exact b2
    |ch =>
     rw[X]at h;dsimp only at h;split at h
     ·cases h
     ·rename_i gO gG;split at h
      ·cases h
      ·rename_i rs gg;cases g with
       |nil=>cases h
       |cons it H =>
        obtain⟨li,cs⟩:=it;simp only[v4,Option.some.injEq,List.cons.injEq,Prod.mk.injEq]at h;obtain⟨⟨h1,h2⟩,h3⟩:=h;obtain⟨m,M,K,ρ1,Z,v,q1,q2,q3,q4,q5,q6,q7⟩:=gC h1 rfl;simp only[J1,Hq]at I;rw[h2]at gG;have F:∀y∈Nr (λy=>!(Nat.testBit x.m y.i)) z,Pend P n ops y∧Ua P ops y M K.H:=λy B=>by
         have gL:=zd3 B;obtain⟨gK,w1,w2,w3⟩:=cks_mem gG q6 y B;have gA:gK.o.ok=true:=Jh.1 I.1.2 _ w2;refine⟨(hp y gL).1,?_⟩;rw[q2];exact ((hp y gL).2.keep w1 gA hs hE q4 w3).put (zh8 gE y gL) _
        obtain⟨m',Y,R,U,O,b1,b2,b3,b4,b5,b6⟩:=go (pend':=Nr (λy=>!(Nat.testBit x.m y.i)) z) Df I.2 q3 q4 q5 F q7 q1;refine⟨m',Y,R,U,O,?_,b3,b4,b5,b6⟩;simp only[Uo];rw[X];dsimp only;rw[b1];dsimp only;rw[zd5 (λy B=>z9k (F y B).2 (F y B).1.cls (F y B).1.own)];exact b2
end draw
section rule
variable {P : Program} {f n : Nat} {ro : Option Nat} {ρ : Mq} {D : List Nat} {G : Mp} {Q : Pe}
def W_draw{l:List (LI×List (LI×Bool))}(h:aq P l ρ G λj z=>Q .normal j D z):W P f n (.draw l) ro ρ D G Q:=by
 intro A c Z C E F H I K L Y;obtain⟨id,ops,rfl,g⟩:=cp F;unfold zrh at g;dsimp only at g;split at g
 ·rename_i hd;obtain⟨m,M,O,j,z,R,T,B,U,V⟩:=drawGo_ok g H I K (λx X=>by simp at X) h;refine⟨m,.normal,M,C,O,j,D,z,?_,T,B,U,L.mono B.le,V⟩;simp only[Pq,z95];rw[hd];dsimp only;rw[R]
 ·cases g
end rule
end
end
section
mutual
def LV.dat:LV→Bool
 |.any=>true
 |.bool _ |.u _ |.b _ |.i _ |.int _ _ |.str _ |.nilPtr |.nilSl |.nilMap |.nilFn |.nilIf=>true
 |.cptr l _=>dats l
 |.lst l _ _=>dats l
 |.fn (.func _) l r=>dats l&&dats r
 |.iface _ v=>v.dat
 |.agg l=>dats l
 |.tup l=>dats l
 |_=>false
def dats:List LV→Bool
 |[]=>true
 |v::l=>v.dat&&dats l
end
mutual
def AR.dat{c c':Cx}(gg:∀o,c.Fz o→c'.Fz o∧c'.H.get o=c.H.get o)(v:LV)(a:AV)(hd:v.dat=true)(h:AR c v a):AR c' v a:=by
 cases v with
 |cptr l i =>
  simp only[LV.dat]at hd;cases h with
  |cptr hf hr hl=>exact .cptr (gg _ hf).1 (by rw[zx (gg _ hf).2];exact hr) (ARs.dat gg l _ hd hl)
 |lst l len gA =>
  simp only[LV.dat]at hd;cases h with
  |lst hf gz hlen hr hl=>exact .lst (gg _ hf).1 gz hlen (by rw[zx (gg _ hf).2];exact hr) (ARs.dat gg l _ hd hl)
  |lstNil=>exact .lstNil
  |lstEmp=>exact .lstEmp
 |fn f l r =>
  cases f with
  |func f =>
   simp only[LV.dat,Hq]at hd;cases h with
   |fn hl hr=>exact .fn (ARs.dat gg l _ hd.1 hl) (ARs.dat gg r _ hd.2 hr)
  |_=>simp[LV.dat]at hd
 |iface t w =>
  simp only[LV.dat]at hd;cases h with
  |iface h=>exact .iface (AR.dat gg w _ hd h)
 |agg l =>
  simp only[LV.dat]at hd;cases h with
  |agg h=>exact .agg (ARs.dat gg l _ hd h)
 |tup l =>
  simp only[LV.dat]at hd;cases h with
  |tup h=>exact .tup (ARs.dat gg l _ hd h)
 |any=>exact .any a
 |_=>first|(simp only[LV.dat]at hd;cases hd;done)|(cases h;constructor)
termination_by SizeOf.sizeOf v
def ARs.dat{c c':Cx}(gg:∀o,c.Fz o→c'.Fz o∧c'.H.get o=c.H.get o)(l:List LV)(r:List AV)(hd:dats l=true)(h:ARs c l r):ARs c' l r:=by
 cases l with
 |nil=>cases h;exact .nil
 |cons v l =>
  simp only[dats,Hq]at hd;cases h with
  |cons e es=>exact .cons (AR.dat gg v _ hd.1 e) (ARs.dat gg l _ hd.2 es)
termination_by SizeOf.sizeOf l
end
def dats_app:∀{l r:List LV},dats l=true→dats r=true→dats (l++r)=true
 |[],_,_,h=>h
 |v::l,r,h,k=>by
  simp only[dats,Hq]at h;simp only[Ip,dats,Hq];exact⟨h.1,dats_app h.2 k⟩
def dats_take:∀{l:List LV} (n:Nat),dats l=true→dats (l.take n)=true
 |_,0,_=>by simp[dats]
 |[],n+1,_=>by simp[dats]
 |v::l,n+1,h=>by
  simp only[dats,Hq]at h;simp only[List.take_succ_cons,dats,Hq];exact⟨h.1,dats_take n h.2⟩
def dats_drop:∀{l:List LV} (n:Nat),dats l=true→dats (l.drop n)=true
 |_,0,h=>h
 |[],n+1,_=>by simp[dats]
 |v::l,n+1,h=>by
  simp only[dats,Hq]at h;simp only[List.drop_succ_cons];exact dats_drop n h.2
def nz{g:Type}{f:g→LV}(h:∀a,(f a).dat=true):∀l:List g,dats (l.map f)=true
 |[]=>rfl
 |a::l=>by simp only[J3,dats,Hq];exact⟨h a,nz h l⟩
mutual
def bor(G:Mp):LV→LV→Prop
 |.dy p k,d=>∃l len gg st,d=.lst l len gg∧G[p]?=some (.dyn l len gg k st)∧dats l=true
 |.vw p k lo len,d=>∃l gz gg st,d=.lst ((l.drop (lo*gg)).take (len*gg)) len gg∧G[p]?=some (.dyn l gz gg k st)∧lo*gg+len*gg≤l.length∧dats l=true
 |.nilSl,d=>d=.nilSl∨∃gg,d=.lst [] 0 gg
 |.agg l,d=>∃r,d=.agg r∧bors G l r
 |v,d=>d=v∧v.dat=true
def bors(G:Mp):List LV→List LV→Prop
 |[],r=>r=[]
 |v::l,r=>∃d r',r=d::r'∧bor G v d∧bors G l r'
end
section calls
variable {P : Program} {c : Cx} {G : Mp}
def qu{v d:LV}{a:AV}(g:d=v∧v.dat=true)(h:AR c v a):AR ⟨[],λo=>c.Fz o∨Oq c G o,c.H⟩ d a:=by
 obtain⟨rfl,hd⟩:=g;exact AR.dat (c':=⟨[],λo=>c.Fz o∨Oq c G o,c.H⟩) (λo ho=>⟨Or.inl ho,rfl⟩) d a hd h
mutual
def bor_ok(hs:HSim c G)(v d:LV)(a:AV)(hb:bor G v d)(h:AR c v a):AR ⟨[],λo=>c.Fz o∨Oq c G o,c.H⟩ d a:=by
 cases v with
 |dy p k =>
  simp only[bor]at hb;obtain⟨l,len,gg,st,rfl,hg,hd⟩:=hb;cases h with
  | @dy _ _ k' hh _ e hk ha _ =>
   have gD:=hs.obj p _ _ _ hg e;obtain⟨r0,r1,r2⟩:=gD;have gA:=ha J;rcases r2 with ⟨r2,r3⟩|⟨o,v,room,t,gC,l',r2,r3,r4,r5,r6,r7,r8⟩
   ·subst r3;have:l=[]:=Ic Cl;subst this;rw[gA,r2];exact .lstNil
   ·have gK:l'.length=len*gg:=Ce
    have hr:=Vn (i:=0) (n:=len*gg) r3 r5 r4 J;rw[J6,H7 J]at hr;rw[gA,r2];exact .lst (.inr ⟨p,_,_,_,hg,rfl,e,by rw[r2];rfl⟩) (λr e=>(r7 r e).2) r1 hr (ARs.dat (c':=⟨[],λo=>c.Fz o∨Oq c G o,c.H⟩) (λo ho=>⟨Or.inl ho,rfl⟩) l l' hd r6)
 |vw p k lo len =>
  simp only[bor]at hb;obtain⟨l,gH,gg,st,rfl,hg,hle,hd⟩:=hb;cases h with
  | @vw _ _ _ _ k' hh _ e hk ha _ _ =>
   have gL:=(hs.obj p _ _ _ hg e).1;rcases ha J with ⟨r3,r4⟩|⟨o,v,gI,gz,room,gE,r3,r4,r9⟩
   ·subst r3;simp only[Kh,Md];rcases r4 with rfl|⟨rfl,_⟩
    ·exact .lstNil
    ·exact .lstEmp
   ·have e2:=e;rw[r3]at e2;obtain⟨_,q1,q2,q3,t,gC,l',q4,q5,q6,q7,_⟩:=c7 hs hg e2;subst q2 q3;have hr:=Vn (i:=lo*gz) (n:=len*gz) q4 q6 q5 J;rw[r4];refine .lst (.inr ⟨p,_,_,_,hg,rfl,e,by rw[r3];rfl⟩) r9 Ab hr ?_;exact ((ARs.dat (c':=⟨[],λo=>c.Fz o∨Oq c G o,c.H⟩) (λo ho=>⟨Or.inl ho,rfl⟩) l l' hd q7).drop _).take _
 |nilSl =>
  simp only[bor]at hb;cases h;rcases hb with rfl|⟨gg,rfl⟩
  ·exact .nilSl
  ·exact .lstNil
 |agg l =>
  simp only[bor]at hb;obtain⟨r,rfl,hb⟩:=hb;cases h with
  |agg h=>exact .agg (bors_ok hs l r _ hb h)
 |_=>exact qu (by simpa only[bor] using hb) h
termination_by SizeOf.sizeOf v
def bors_ok(hs:HSim c G)(l r:List LV)(as:List AV)(hb:bors G l r)(h:ARs c l as):ARs ⟨[],λo=>c.Fz o∨Oq c G o,c.H⟩ r as:=by
 cases l with
 |nil=>simp only[bors]at hb;subst hb;cases h;exact .nil
 |cons v l =>
  simp only[bors]at hb;obtain⟨d,r',rfl,gF,gG⟩:=hb;cases h with
  |cons e es=>exact .cons (bor_ok hs v d _ gF e) (bors_ok hs l r' _ gG es)
termination_by SizeOf.sizeOf l
end
mutual
def shV(n:Nat):LV→LV
 |.dy j k=>.dy (n+j) k
 |.agg l=>.agg (shVs n l)
 |.tup l=>.tup (shVs n l)
 |v=>v
def shVs(n:Nat):List LV→List LV
 |[]=>[]
 |v::l=>shV n v::shVs n l
end
mutual
def frV(j:Mp):LV→LV
 |.dy gz _=>match j[gz]? with
  |some (.dyn l len gg _ _)=>.lst l len gg
  |_=>.any
 |.agg l=>.agg (frVs j l)
 |.tup l=>.tup (frVs j l)
 |v=>v
def frVs(j:Mp):List LV→List LV
 |[]=>[]
 |v::l=>frV j v::frVs j l
end
mutual
def sh_AR{c0 c':Cx}{n m:Nat}(h:∀gg a,gg<m→AR c0 (.dy gg 0) a→AR c' (.dy (n+gg) 0) a)(v:LV)(a:AV)(j:v.sim m=true)(ha:AR c0 v a):AR c' (shV n v) a:=by
 cases v with
 |dy gg k =>
  simp only[LV.sim,Hq,Lt,Hz]at j;obtain⟨rfl,hj⟩:=j;exact h gg a hj ha
 |agg l =>
  simp only[LV.sim]at j;cases ha with
  |agg ha=>simp only[shV];exact .agg (sh_ARs h l _ j ha)
 |tup l =>
  simp only[LV.sim]at j;cases ha with
  |tup ha=>simp only[shV];exact .tup (sh_ARs h l _ j ha)
 |_=>first|(simp only[LV.sim]at j;cases j;done)|(simp only[shV];cases ha;constructor)
termination_by SizeOf.sizeOf v
def sh_ARs{c0 c':Cx}{n m:Nat}(h:∀gg a,gg<m→AR c0 (.dy gg 0) a→AR c' (.dy (n+gg) 0) a)(l:List LV)(r:List AV)(j:sims m l=true)(ha:ARs c0 l r):ARs c' (shVs n l) r:=by
 cases l with
 |nil=>cases ha;simp only[shVs];exact .nil
 |cons v l =>
  simp only[sims,Hq]at j;cases ha with
  |cons e es=>simp only[shVs];exact .cons (sh_AR h v _ j.1 e) (sh_ARs h l _ j.2 es)
termination_by SizeOf.sizeOf l
end
mutual
def fr_AR{c0 c':Cx}{G0:Mp}(h:∀gg a,gg<G0.length→AR c0 (.dy gg 0) a→AR c' (frV G0 (.dy gg 0)) a)(v:LV)(a:AV)(j:v.sim G0.length=true)(ha:AR c0 v a):AR c' (frV G0 v) a:=by
 cases v with
 |dy gg k =>
  simp only[LV.sim,Hq,Lt,Hz]at j;obtain⟨rfl,hj⟩:=j;exact h gg a hj ha
 |agg l =>
  simp only[LV.sim]at j;cases ha with
  |agg ha=>simp only[frV];exact .agg (fr_ARs h l _ j ha)
 |tup l =>
  simp only[LV.sim]at j;cases ha with
  |tup ha=>simp only[frV];exact .tup (fr_ARs h l _ j ha)
 |_=>first|(simp only[LV.sim]at j;cases j;done)|(simp only[frV];cases ha;constructor)
termination_by SizeOf.sizeOf v
def fr_ARs{c0 c':Cx}{G0:Mp}(h:∀gg a,gg<G0.length→AR c0 (.dy gg 0) a→AR c' (frV G0 (.dy gg 0)) a)(l:List LV)(r:List AV)(j:sims G0.length l=true)(ha:ARs c0 l r):ARs c' (frVs G0 l) r:=by
 cases l with
 |nil=>cases ha;simp only[frVs];exact .nil
 |cons v l =>
  simp only[sims,Hq]at j;cases ha with
  |cons e es=>simp only[frVs];exact .cons (fr_AR h v _ j.1 e) (fr_ARs h l _ j.2 es)
termination_by SizeOf.sizeOf l
end
def M2{f:Nat}{E:Mp}(hc:Ng P f v7 O E)(hb:bors G D v7)(k:Y (frV E O) G):Qn P (.fn f) D G Y:=by
 obtain⟨ht,M,hG,Q⟩:=hc;refine⟨ht,λc t1 B j R ha=>?_⟩;cases t1 with
 |yield o=>exact R.elim
 |fn gF =>
  obtain rfl:f=gF:=R;obtain⟨m,v1,F,H,q1,q2,q3,q4,q5,q6⟩:=Q (λo=>c.Fz o∨Oq c G o) c.H B (λo ho=>ho.elim (j.fz o) (j.lt o)) (bors_ok j D v7 B hb ha);have T:CxLe c ⟨c.hd,λo=>c.Fz o∨Oq ⟨F,λo=>c.Fz o∨Oq c G o,H⟩ E o,H⟩:=⟨λp k h e=>⟨k,h,e,Hw _,λ_=>rfl,λ_=>rfl⟩,λo ho=>⟨.inl ho,q5 o (j.fz o ho)⟩⟩;have g:∀o,Oq ⟨c.hd,λo=>c.Fz o∨Oq ⟨F,λo=>c.Fz o∨Oq c G o,H⟩ E o,H⟩ G o→Oq c G o:=λo ⟨p,z,k,h,C,A,U,V⟩=>⟨p,z,k,h,C,A,U,V⟩
  refine⟨m,v1,H,q1,⟨c.hd,λo=>c.Fz o∨Oq ⟨F,λo=>c.Fz o∨Oq c G o,H⟩ E o,H⟩,frV E O,G,rfl,?_,?_,?_,k⟩
  ·refine⟨j.len,λo ho=>?_,λo ho=>Il (j.lt o (g o ho)) q4,λo ho X=>?_,λp z k h C A=>?_,λp q z I k h k' h' o C A U V e5 e6 e7 e8=>j.excl p q z I k h k' h' o C A U V e5 e6 e7 e8⟩
   ·rcases ho with ho|ho
    ·exact Il (j.fz o ho) q4
    ·exact q2.lt o ho
   ·rcases X with X|X
    ·exact j.sep o (g o ho) X
    ·have:=q6 o X;have:=j.lt o (g o ho);omega
   ·by_cases hl:z.live=true
    ·exact (j.obj p z k h C A).mono T (λo ho=>q5 o (j.lt o ⟨p,z,k,h,C,hl,A,ho⟩))
    ·cases z<;>first|exact absurd rfl hl|trivial
  ·refine⟨T,q4,λo ho _=>q5 o ho,λo ho=>.inl (g o ho),λo ho=>ho.elim .inl (λh=>.inr (.inr (q6 o h))),λp z I C A=>?_,λp z I k h o C A U V e5 e6=>?_⟩
   ·rw[C]at A;cases A;exact Hw _
   ·rw[C]at A;cases A;have hl:z.live=true:=by cases z<;>first|rfl|cases e5
    exact⟨rfl,q5 o (j.lt o ⟨p,z,k,h,C,hl,U,V⟩),rfl⟩
  ·refine fr_AR (λgD a hj h=>?_) O v1 M q3;obtain⟨l,len,K,gg,gz⟩:=hG gD _ (Ht hj);have hg:E[gD]?=some (.dyn l len K 0 0):=by rw[Ht hj,gg]
   simp only[frV];rw[hg];dsimp only;cases h with
   | @dy _ _ k' hh _ e hk ha _ =>
    obtain⟨r0,r1,L⟩:=q2.obj gD _ _ _ hg e;have Z:=ha J;rcases L with ⟨L,r3⟩|⟨o,v,gA,t,gC,l',L,r3,r4,r5,r6,r7,r8⟩
    ·subst r3;have:l=[]:=Ic Cl;subst this;rw[Z,L];exact .lstNil
    ·have gE:l'.length=len*K:=Ce
     have hr:=Vn (i:=0) (n:=len*K) r3 r5 r4 J;rw[J6,H7 J]at hr;rw[Z,L];exact .lst (.inr ⟨gD,_,_,_,hg,rfl,e,by rw[L];rfl⟩) (λr e=>(r7 r e).2) r1 hr (ze3 gz r6)
def mo{f:Nat}{R:Mp}(hc:Ng P f v7 O R)(hb:bors G D v7)(k:Y (shV G.length O) (G++R)):Qn P (.fn f) D G Y:=by
 obtain⟨ht,Z,hG,gg⟩:=hc;refine⟨ht,λc t1 L j gz ha=>?_⟩;cases t1 with
 |yield o=>exact gz.elim
 |fn gI =>
  obtain rfl:f=gI:=gz;obtain⟨m,v1,A,U,q1,V,q3,q4,q5,q6⟩:=gg (λo=>c.Fz o∨Oq c G o) c.H L (λo ho=>ho.elim (j.fz o) (j.lt o)) (bors_ok j D v7 L hb ha);have gA:∀(p k:Nat) (h:AV),c.hd[p]?=some (k,h)→(c.hd++A)[p]?=some (k,h):=λp k h e=>by
   rw[Hx (Hm.1 e).1];exact e
  have gC:CxLe c ⟨c.hd++A,c.Fz,U⟩:=⟨λp k h e=>⟨k,h,gA p k h e,Hw _,λ_=>rfl,λ_=>rfl⟩,λo ho=>⟨ho,q5 o (j.fz o ho)⟩⟩;have T:A.length=R.length:=V.len;have F:∀(p:Nat) (k:Nat) (h:AV) (g:LObj),(c.hd++A)[p]?=some (k,h)→(G++R)[p]?=some g→(c.hd[p]?=some (k,h)∧G[p]?=some g)∨(G.length≤p∧A[p-G.length]?=some (k,h)∧R[p-G.length]?=some g):=by
   intro p k h g B C;by_cases hp:p<G.length
   ·rw[Hx hp]at C;rw[Hx (by rw[j.len];exact hp)]at B;exact .inl ⟨B,C⟩
   ·rw[H9 J]at C;rw[H9 (by rw[j.len];omega),j.len]at B;exact .inr ⟨J,B,C⟩
  have E:∀(p k:Nat) (h:AV) (z:LObj) (o:Nat),A[p]?=some (k,h)→R[p]?=some z→z.live=true→Nl h=some o→Oq ⟨A,λo=>c.Fz o∨Oq c G o,U⟩ R o:=λp k h z o B C I M=>⟨p,z,k,h,C,I,B,M⟩
  have Q:∀o,Oq ⟨c.hd++A,c.Fz,U⟩ (G++R) o→Oq c G o∨(c.H.next≤o∧o<U.next):=by
   rintro o ⟨p,g,k,h,B,C,I,M⟩;rcases F p k h g I B with ⟨q1,V⟩|⟨_,K,H⟩
   ·exact .inl ⟨p,g,k,h,V,C,q1,M⟩
   ·have:=E _ k h g o K H C M;exact .inr ⟨q6 o this,V.lt o this⟩
  refine⟨m,v1,U,q1,⟨c.hd++A,c.Fz,U⟩,shV G.length O,G++R,rfl,?_,?_,?_,k⟩
  ·refine⟨by simp[j.len,T],λo ho=>Il (j.fz o ho) q4,λo ho=>?_,λo ho hf=>?_,λp z k h B C=>?_,λp q z g k h X h' o B C I M e5 e6 e7 e8=>?_⟩
   ·rcases Q o ho with h|h
    ·exact Il (j.lt o h) q4
    ·exact h.2
   ·rcases Q o ho with h|h
    ·exact j.sep o h hf
    ·have:=j.fz o hf;omega
   ·rcases F p k h z C B with ⟨K,H⟩|⟨_,K,H⟩
    ·by_cases hl:z.live=true
     ·exact (j.obj p z k h H K).mono gC (λo ho=>q5 o (j.lt o ⟨p,z,k,h,H,hl,K,ho⟩))
     ·cases z<;>first|exact absurd rfl hl|trivial
    ·obtain⟨l,len,gH,rfl,gF⟩:=hG _ _ H;obtain⟨s0,s1,s2⟩:=V.obj _ _ _ _ H K;refine⟨s0,s1,?_⟩;rcases s2 with s2|⟨o,v,gD,t,gE,l',s2,s3,s4,s5,s6,s7⟩
     ·exact .inl s2
     ·exact .inr ⟨o,v,gD,t,gE,l',s2,s3,s4,s5,ze3 gF s6,s7⟩
   ·rcases F p k h z e5 B with ⟨K,H⟩|⟨hp,K,H⟩<;>rcases F q X h' g e6 C with ⟨r3,r4⟩|⟨hq,r3,r4⟩
    ·exact j.excl p q z g k h X h' o H r4 I M K r3 e7 e8
    ·have:=j.lt o ⟨p,z,k,h,H,I,K,e7⟩;have:=q6 o (E _ _ _ _ o r3 r4 M e8);omega
    ·have:=j.lt o ⟨q,g,X,h',r4,M,r3,e8⟩;have:=q6 o (E _ _ _ _ o K H I e7);omega
    ·have:=V.excl _ _ z g k h X h' o H r4 I M K r3 e7 e8;omega
  ·refine⟨gC,q4,λo ho _=>q5 o ho,λo ho=>(Q o ho).elim .inl (λh=>.inr h.1),λo ho=>.inl ho,λp z g B C=>?_,λp z g k h o B C I M e5 e6=>?_⟩
   ·rw[Hx (Hm.1 B).1,B]at C;cases C;exact Hw _
   ·rw[Hx (Hm.1 B).1,B]at C;cases C;have hl:z.live=true:=by cases z<;>first|rfl|cases e5
    exact⟨rfl,q5 o (j.lt o ⟨p,z,k,h,B,hl,I,M⟩),by rw[gA p k h I,I]⟩
  ·refine sh_AR (λgK a hj h=>?_) O v1 Z q3;cases h with
   | @dy _ _ X hh _ e hk ha gG =>
    exact .dy (k':=X) (h:=hh) (by dsimp only;rw[H9 (by rw[j.len];omega),j.len,Nat.add_sub_cancel_left];exact e) hk ha gG
end calls
end
section
section rules
variable {P : Program} {f n : Nat} {ρ : Mq} {D : List Nat} {G : Mp} {Q : Pe}
end rules
end
section
noncomputable section
def wp(P:Program)(f n:Nat)(ro:Option Nat):LC→Mq→List Nat→Mp→Pe→Prop
 |.skip,ρ,D,G,Q=>Q .normal ρ D G
 |.ops l,ρ,D,G,Q=>Ts P l ρ G λρ' G'=>Q .normal ρ' D G'
 |.seq a b,ρ,D,G,Q=>wp P f n ro a ρ D G λx ρ' j G'=>match x with
  |.normal=>wp P f n ro b ρ' j G' Q
  |x=>Q x ρ' j G'
 |.cond x a b,ρ,D,G,Q=>brV (x.ev ρ) (wp P f n ro a ρ D G Q) (wp P f n ro b ρ D G Q)
 |.block id c,ρ,D,G,Q=>wp P f n ro c ρ D G λx ρ' j G'=>match x with
  |.exit i=>if i=id then Q .normal ρ' j G' else Q (.exit i) ρ' j G'
  |x=>Q x ρ' j G'
 |.draw l,ρ,D,G,Q=>aq P l ρ G λρ' G'=>Q .normal ρ' D G'
 |.exit id,ρ,D,G,Q=>Q (.exit id) ρ D G
 |.scope c,ρ,D,G,Q=>wp P f n ro c ρ D G Q
 |.label,ρ,D,G,Q=>Q .normal ρ D G
 |.ret,ρ,D,G,Q=>Q .ret ρ D G
 |.stuck,_,_,_,_=>False
 |s,ρ,D,G,Q=>W P f n s ro ρ D G Q
def W0(P:Program)(f n:Nat)(ro:Option Nat)(b:LC)(Q:Pe):Pe:=λx ρ' j G'=>match x with
  |.normal=>wp P f n ro b ρ' j G' Q
  |x=>Q x ρ' j G'
def uf(id:Nat)(Q:Pe):Pe:=λx ρ' j G'=>match x with
  |.exit i=>if i=id then Q .normal ρ' j G' else Q (.exit i) ρ' j G'
  |x=>Q x ρ' j G'
def we(Nx:Mq→List Nat→Mp→Prop)(Q:Pe):Pe:=λx ρ' j G'=>match x with
  |.normal=>Nx ρ' j G'
  |x=>Q x ρ' j G'
def endK(K:LV→Mp→Prop)(G:Mp):List LV→Prop:=λvs=>K (Vb vs) G
def sg(ρ:Mq)(rs:List RRes)(K:LV→Mp→Prop):Mp→Prop:=λj=>Qy ρ j rs (endK K j)
def tp (rs : List RRes) (K : LV → Mp → Prop) : Pe := fun x ρ D G' => match x with
   |.exit _=>False
   |_=>xf D G' (sg ρ rs K)
def norQ(Q:Pe)(D:List Nat):Mq→Mp→Prop:=λρ G=>Q .normal ρ D G
def opsK(P:Program)(l:List LI)(K:Mq→Mp→Prop):Mq→Mp→Prop:=λρ' G'=>Ts P l ρ' G' K
def oi(ρ:Mq)(d:Option Nat)(K:Mq→Mp→Prop):LV→Mp→Prop:=λv G'=>K (Rt ρ d v) G'
def Wy(K:LV→Mp→Prop)(G:Mp):LV→Prop:=λv=>K v G
def drK(P:Program)(cs:List (LI×Bool))(l:List (LI×List (LI×Bool)))(ρ:Mq)(G:Mp)(K:Mq→Mp→Prop):Mq→Mp→Prop:=λρ' G'=>Vl ρ G G' cs∧aq P l ρ' G' K
def tmpK(ρ:Mq)(t:Nat)(K:List LV→Prop):List LV→Prop:=λvs=>K (lk ρ t::vs)
def conK(v:LV)(K:List LV→Prop):List LV→Prop:=λvs=>K (v::vs)
def cnK(ρ:Mq)(G:Mp)(l:List RRes)(K:List LV→Prop):List LV→Prop:=λcs=>Qy ρ G l (conK (.agg cs) K)
def Ru{P:Program}{f n:Nat}{ro:Option Nat}:∀(s:LC) {ρ:Mq} {D:List Nat} {G:Mp} {Q:Pe},wp P f n ro s ρ D G Q→W P f n s ro ρ D G Q
 |.skip,_,_,_,_,h=>W_skip h
 |.ops l,_,_,_,_,h=>W_ops h
 |.seq a b,_,_,_,_,h=>lh ((Ru a h).post λx ρ D G k=>by
  cases x with
  |normal=>exact Ru b k
  |exit i=>exact k
  |ret=>exact k)
 |.cond x a b,ρ,_,_,_,h=>by
  simp only[wp]at h;obtain⟨t,j,h⟩:=d8 h;exact W_cond j (λe=>Ru a (h.1 e)) (λe=>Ru b (h.2 e))
 |.block id c,_,_,_,_,h=>oh (Ru c h)
 |.exit id,_,_,_,_,h=>W_exit h
 |.scope c,_,_,_,_,h=>qf (Ru c h)
 |.label,_,_,_,_,h=>uq h
 |.ret,_,_,_,_,h=>W_ret h
 |.stuck,_,_,_,_,h=>h.elim
 |.draw l,_,_,_,_,h=>W_draw h
 |.loop c,_,_,_,_,h=>h
 |.rangeF g ps a b,_,_,_,_,h=>h
section rules
variable {P : Program}
def Mz{f:Nat}{s:LC}{n:Nat}{rs:List RRes}(C:My P f=some ⟨n,s.r,rs⟩)(j:s.ok=true){G:Mp}{K:LV→Mp→Prop}(E:v7.length≤n)
  (h:wp P f n none s (i4 v7 0) [] G (tp rs K)):Qn P (.fn f) v7 G K :=
 zlb C j E ((Ru s h).post λx ρ D G' k=>by
  cases x with
  |normal=>exact⟨trivial,k⟩
  |exit i=>exact k.elim
  |ret=>exact⟨trivial,k⟩)
def Ng.val{f:Nat}{args:List LV}(j:uU.sim 0=true)(h:Qn P (.fn f) args [] λv _=>v=subV [] uU):Ng P f args uU [] :=
 .mk j (h.mono λv G e=>⟨[],e,rfl,trivial⟩) (λgg ob e=>Bo)
def qp{f n:Nat}{ro:Option Nat}{ρ:Mq}{D:List Nat}{G:Mp}{Q:Pe}{s:LC}(I:Mq→List Nat→Mp→Nat→Prop){N:Nat}(C:I ρ D G N)
  (h:∀N ρ D G,I ρ D G N→wp P f n ro s ρ D G (we (λρ' E G'=>∃j,j<N∧I ρ' E G' j) Q)):W P f n (.loop s) ro ρ D G Q :=
 iy I C λN ρ D G k=>Ru s (h N ρ D G k)
def Oc{f n:Nat}{ro:Option Nat}{ρ:Mq}{D:List Nat}{G:Mp}{Q:Pe}{s:LC}(I:Mq→List Nat→Mp→Nat→Prop){N:Nat}(E:I ρ D G N)
  (h:∀(N:Nat) (ρ:Mq) (D:List Nat) (G:Mp),I ρ D G N→∀Nx:Mq→List Nat→Mp→Prop,(∀(ρ':Mq) (C:List Nat) (G':Mp),(∃j,j<N∧I ρ' C G' j)→Nx ρ' C G')→wp P f n ro s ρ D G (we Nx Q)):W P f n (.loop s) ro ρ D G Q :=
 iy I E λN ρ D G k=>Ru s (h N ρ D G k (λρ' C G'=>∃j,j<N∧I ρ' C G' j) λ_ _ _ e=>e)
end rules
section congr
variable {P : Program} {ρ ρ' : Mq} {G G' : Mp} {x x' y y' : LV} {K : LV → Mp → Prop} {Kv : LV → Prop}
@[congr] theorem W_congr {f n:Nat} {s:LC} {ro:Option Nat} {D:List Nat} {Q:Pe} (j:ρ=ρ') (C:G=G'):W P f n s ro ρ D G Q=W P f n s ro ρ' D G' Q:=B0
@[congr] theorem wp_congr {f n:Nat} {s:LC} {ro:Option Nat} {D:List Nat} {Q:Pe} (j:ρ=ρ') (C:G=G'):wp P f n ro s ρ D G Q=wp P f n ro s ρ' D G' Q:=B0
@[congr] theorem wq {t:LTgt} {a:List LV} (j:a=v7) (C:G=G'):Qn P t a G K=Qn P t v7 G' K:=B0
@[congr] theorem binL_congr {op:BinOp} {g:Bool} {t:TypeId} (j:x=x') (C:y=y'):Sj P op g t x y Kv=Sj P op g t x' y' Kv:=B0
@[congr] theorem unL_congr {op:UnOp} (j:x=x'):unL op x Kv=unL op x' Kv:=Ek
@[congr] theorem cvL_congr {k:IntKind} (j:x=x'):t7 k x Kv=t7 k x' Kv:=Ek
@[congr] theorem zd {n:Nat} {K:List LV→Prop} (j:G=G') (C:x=x'):Wa G x n K=Wa G' x' n K:=B0
@[congr] theorem yo (j:G=G') (C:x=x'):Xa G x Kv=Xa G' x' Kv:=B0
@[congr] theorem nthL_congr {l:List LV} {i:Nat} (C:l=v7) (E:i=j):Oz l i Kv=Oz v7 j Kv:=by rw[C,E]
@[congr] theorem us {r:List LV} {K:Mp→Prop} (j:G=G') (C:x=x') (E:r=v7):U1 G x r K=U1 G' x' v7 K:=Ep
@[congr] theorem rowL_congr {n:Nat} {K:Nat→List LV→Prop} (j:G=G') (C:x=x'):S7 G n x K=S7 G' n x' K:=B0
@[congr] theorem lenL_congr {K:Nat→Prop} (j:G=G') (C:x=x'):lenL G x K=lenL G' x' K:=B0
@[congr] theorem zo {size n n':Nat} {l:List LV} (j:G=G') (C:x=x') (E:n=n') (F:l=v7):Ow G size x n l K=Ow G' size x' n' v7 K:=by rw[j,C,E,F]
@[congr] theorem brL_congr {t j:Bool} {A B:Prop} (h:t=j):Tc t A B=Tc j A B:=Dx
@[congr] theorem brG_congr {A B j:Prop} (h:x=x'):mv x A B j=mv x' A B j:=Dx
@[congr] theorem brV_congr {A B:Prop} (h:x=x'):brV x A B=brV x' A B:=Dx
end congr
def zpm{t:Bool}{A B:Prop}:brV (.bool t) A B=Tc t A B:=(rfl)
def zt5{t:Bool}{A B j:Prop}:mv (.bool t) A B j=Tc t A B:=(rfl)
def zxd{A B j:Prop}:mv (.tup []) A B j=j:=(rfl)
def zme{A B:Prop}:Tc true A B=A:=by simp[Tc]
def zje{A B:Prop}:Tc false A B=B:=by simp[Tc]
def ry{p:Prop}[Decidable p]{A B:Prop}:Tc (decide p) A B=((p→A)∧(¬p→B)):=by simp[Tc]
def Xs{b:Bool}{A B:Prop}:Tc (!b) A B=Tc b B A:=by cases b<;>simp[Tc]
def zp8(v:LV)(l:List LV)(K:LV→Prop):Oz (v::l) 0 K=K v:=by simp[Oz]
def zq8(v:LV)(l:List LV)(i:Nat)(K:LV→Prop):Oz (v::l) (i+1) K=Oz l i K:=by simp[Oz]
def zu8(f:vU→LV)(d:vU)(l:List vU)(i:Nat)(K:LV→Prop):Oz (l.map f) i K=(i<l.length∧K (f (l.getD i d))):=by
 unfold Oz;by_cases h:i<l.length
 ·simp[h]
 ·simp[h]
def lw(l:List UInt64)(i:Nat)(K:LV→Prop):Oz (l.map .u) i K=(i<l.length∧K (.u (l.getD i 0))):=zu8 _ _ _ _ _
def ay(o:Option LObj)(K:List LV→Nat→Prop):Prop:=match o with
 |some (.cells l st)=>K l st
 |_=>False
def Qf(o:Option LObj)(K:List LV→Nat→Nat→Nat→Nat→Prop):Prop:=match o with
 |some (.dyn l len esz j st)=>K l len esz j st
 |_=>False
def zhl(o:Option (List LV))(K:List LV→Prop):Prop:=match o with
 |some l=>K l
 |none=>False
def ur(c a b:LV)(K:LV→Prop):Prop:=match c with
 |.bool t=>match a,b with
  |.bool x,.bool y=>K (.bool (match t with|true=>x|false=>y))
  |x,y=>Tc t (K x) (K y)
 |_=>False
def og(x:LV)(K:LV→Prop):Prop:=match x with
 |.ptr p i=>K (.ptr p i)
 |.dptr p k i=>K (.dptr p k i)
 |.cptr l i=>K (.cptr l i)
 |.fn (.func f) a b=>K (.fn (.func f) a b)
 |_=>False
def zzg(x y:LV)(K:Nat→Prop):Prop:=match x,y with
 |.i l,.i c=>l=c∧0≤l∧l≤1048576∧K l.toNat
 |_,_=>False
def pk(x:LV)(K:Nat→Prop):Prop:=match x with
 |.i n=>0≤n∧K n.toNat
 |.u n=>K n.toNat
 |_=>False
def mi(G:Mp)(size:Nat)(x:LV)(lo:(Nat→Prop)→Prop)(hi:Nat→(Nat→Prop)→Prop)(K:LV→Prop):Prop:=match x with
 |.nilSl=>lo λa=>hi 0 λb=>a=0∧b=0∧K .nilSl
 |.dy p k=>Qf G[p]? λ_ len esz j _=>k=j∧esz=size∧lo λa=>hi len λb=>a≤b∧b≤len∧K (.vw p k a (b-a))
 |.vw p k C len=>Qf G[p]? λ_ _ esz j _=>k=j∧esz=size∧lo λa=>hi len λb=>a≤b∧b≤len∧K (.vw p k (C+a) (b-a))
 |.lst l len esz=>esz=size∧lo λa=>hi len λb=>a≤b∧b≤len∧K (.lst ((l.drop (a*esz)).take ((b-a)*esz)) (b-a) esz)
 |_=>False
def Ve(off:Nat)(x:LV)(K:LV→Prop):Prop:=match x with
 |.ptr p i=>K (.ptr p (i+off))
 |.dptr p k i=>K (.dptr p k (i+off))
 |.cptr l i=>K (.cptr l (i+off))
 |_=>False
def qr(g:Bool)(n off:Nat)(x:LV)(K:LV→Prop):Prop:=match x with
 |.agg l=>match g with
  |true=>off+n≤l.length∧K (.agg ((l.drop off).take n))
  |false=>Oz l off K
 |_=>False
def b9(G:Mp)(size:Nat)(x:LV)(n:Int)(K:LV→Prop):Prop:=match x with
 |.dy p k=>Qf G[p]? λ_ len esz j _=>k=j∧esz=size∧0≤n∧n<len∧K (.dptr p k (n.toNat*size))
 |.vw p k lo len=>Qf G[p]? λ_ _ esz j _=>k=j∧esz=size∧0≤n∧n<len∧K (.dptr p k ((lo+n.toNat)*size))
 |.lst l len esz=>esz=size∧0≤n∧n<len∧K (.cptr l (n.toNat*size))
 |_=>False
def ixL(G:Mp)(size:Nat)(x i:LV)(K:LV→Prop):Prop:=match i with
 |.i n=>b9 G size x n K
 |.u n=>b9 G size x (n.toNat:Int) K
 |_=>False
def t8(i:Nat)(x:LV)(K:LV→Prop):Prop:=match x with
 |.tup l=>Oz l i K
 |_=>False
def di(j:Bool)(x y:LV)(K:LV→Prop):Prop:=match x,y with
 |.i a,.i b=>K (.i (match j with|true=>max a b|false=>min a b))
 |.u a,.u b=>K (.u (match j with|true=>if a<b then b else a|false=>if b<a then b else a))
 |_,_=>False
def pq(x:LV)(K:Nat→Prop):Prop:=match x with
 |.i n=>0≤n∧n≤1048576∧K n.toNat
 |_=>False
def zyw(G:Mp)(size:Nat)(d:LV)(n:Nat)(l:List LV)(K:LV→Mp→Prop):Prop:=match d with
 |.dy p k=>Qf G[p]? λr len esz j st=>k=j∧esz=size∧K (.i (min n len:Nat)) (G.set p (.dyn (Ns r 0 (l.take (min n len*size))) len esz j (st+1)))
 |.vw p k lo len=>Qf G[p]? λr C esz j st=>k=j∧esz=size∧(lo+len)*size≤r.length∧K (.i (min n len:Nat)) (G.set p (.dyn (Ns r (lo*size) (l.take (min n len*size))) C esz j (st+1)))
 |_=>False
def zpr(G:Mp)(size:Nat)(z:List LV)(x:LV)(K:Mp→Prop):Prop:=match x with
 |.vw p k lo len=>Qf G[p]? λr j esz C st=>k=C∧esz=size∧z.length=size∧(lo+len)*size≤r.length∧K (G.set p (.dyn (Ns r (lo*size) (Oj z len)) j esz C (st+1)))
 |_=>False
def goL(P:Program)(f:LV)(j:List LV)(G:Mp)(K:LV→Mp→Prop):Prop:=match f with
 |.fn (.func g) a b=>Qn P (.fn g) (a++j++b) G K
 |.fn (.yield p) [] _=>Qn P (.yield p) j G K
 |_=>False
section byOps
variable {P : Program} {ρ : Mq} {G : Mp} {K : LV → Mp → Prop} {x y c a b s d i f : Lx} {l cs z : List LV} {ps : List (Nat × Nat × Lx)} {n size len off : Nat} {lo hi : Option Lx}
def OpL_move:Nm P ρ G (.move x) K=K (x.ev ρ) G:=(rfl)
def OpL_pick:Nm P ρ G (.pick c a b) K=ur (c.ev ρ) (a.ev ρ) (b.ev ρ) (Wy K G):=(rfl)
def OpL_alloc:Nm P ρ G (.alloc l) K=K (.ptr G.length 0) (G++[.cells l 0]):=(rfl)
def OpL_box:Nm P ρ G (.box x) K=zhl (x.ev ρ).cells λl=>K (.ptr G.length 0) (G++[.cells l 0]):=(rfl)
def OpL_build:Nm P ρ G (.build cs ps) K=zhl (sy ρ cs ps) λl=>K (.agg l) G:=(rfl)
def OpL_buildSl:Nm P ρ G (.buildSl size len cs ps) K=zhl (sy ρ cs ps) λl=>l.length=len*size∧K (.dy G.length 0) (G++[.dyn l len size 0 0]):=(rfl)
def OpL_load1:Nm P ρ G (.load1 x) K=Xa G (x.ev ρ) (Wy K G):=(rfl)
def OpL_loadN:Nm P ρ G (.loadN n x) K=Wa G (x.ev ρ) n λl=>K (.agg l) G:=(rfl)
def OpL_store:Nm P ρ G (.store n x y) K=zhl (y.ev ρ).cells λl=>l.length=n∧U1 G (x.ev ρ) l λG'=>K (.tup []) G':=(rfl)
def OpL_nilChk:Nm P ρ G (.nilChk x) K=og (x.ev ρ) (Wy K G):=(rfl)
def pg{op:BinOp}{g:Bool}{t:TypeId}:Nm P ρ G (.bin op g t x y) K=Sj P op g t (x.ev ρ) (y.ev ρ) (Wy K G):=(rfl)
def OpL_un{op:UnOp}:Nm P ρ G (.un op x) K=unL op (x.ev ρ) (Wy K G):=(rfl)
def Zh{k:IntKind}:Nm P ρ G (.cvInt k x) K=t7 k (x.ev ρ) (Wy K G):=(rfl)
def zva{g:Nat}{j gs:List Lx}:Nm P ρ G (.mkFunc g j gs) K=K (.fn (.func g) (j.map (·.ev ρ)) (gs.map (·.ev ρ))) G:=(rfl)
def OpL_mkSl:Nm P ρ G (.mkSl size z a b) K=zzg (a.ev ρ) (b.ev ρ) λn=>z.length=size∧K (.dy G.length 0) (G++[.dyn (Oj z n) n size 0 0]):=by
 simp only[Nm,zzg];cases a.ev ρ<;>cases b.ev ρ<;>rfl
def zzm{x:Lx}{d:Nat}{K:Nat→Prop}:O3 ρ d (some x) K=pk (x.ev ρ) K:=(rfl)
def zx5{d:Nat}{K:Nat→Prop}:O3 ρ d none K=K d:=(rfl)
def OpL_slSl:Nm P ρ G (.slSl size x lo hi) K=mi G size (x.ev ρ) (λk=>O3 ρ 0 lo k) (λd k=>O3 ρ d hi k) (Wy K G):=by
 simp only[Nm,mi,Qf];cases x.ev ρ<;>try rfl
 all_goals (cases G[_]?<;>try rfl)
def ui(len size:Nat)(x i:LV)(K:LV→Prop):Prop:=match i with
 |.i n=>0≤n∧n<len∧Ve (n.toNat*size) x K
 |_=>False
def oq(g:Bool)(len size:Nat)(x i:LV)(K:LV→Prop):Prop:=match i with
 |.i n=>0≤n∧n<len∧qr g size (n.toNat*size) x K
 |_=>False
def zmu{len size:Nat}{x i:Lx}:Nm P ρ G (.ixAddrArr len size x i) K=ui len size (x.ev ρ) (i.ev ρ) (Wy K G):=(rfl)
def zwp{g:Bool}{len size:Nat}{x i:Lx}:Nm P ρ G (.ixArr g len size x i) K=oq g len size (x.ev ρ) (i.ev ρ) (Wy K G):=(rfl)
def OpL_fieldAddr:Nm P ρ G (.fieldAddr off x) K=Ve off (x.ev ρ) (Wy K G):=(rfl)
def OpL_ixAddr:Nm P ρ G (.ixAddr size x i) K=ixL G size (x.ev ρ) (i.ev ρ) (Wy K G):=by
 simp only[Nm,ixL,b9,ixO,Qf];cases i.ev ρ<;>try rfl
def OpL_extract:Nm P ρ G (.extract n x) K=t8 n (x.ev ρ) (Wy K G):=(rfl)
def OpL_lenSl:Nm P ρ G (.lenSl x) K=lenL G (x.ev ρ) λn=>K (.i n) G:=(rfl)
def dc{g:Bool}:Nm P ρ G (.maxi g x y) K=di g (x.ev ρ) (y.ev ρ) (Wy K G):=(rfl)
def OpL_appZ:Nm P ρ G (.appZ size z s x) K=pq (x.ev ρ) λn=>z.length=size∧Ow G size (s.ev ρ) n (Oj z n) K:=(rfl)
def OpL_appG:Nm P ρ G (.appG size s x) K=S7 G size (x.ev ρ) λn l=>n≤1048576∧Ow G size (s.ev ρ) n l K:=(rfl)
def OpL_copy:Nm P ρ G (.copy size d x) K=S7 G size (x.ev ρ) λn l=>zyw G size (d.ev ρ) n l K:=by
 simp only[Nm,zyw,Qf]
 congr 1
def OpL_clear:Nm P ρ G (.clear size z x) K=zpr G size z (x.ev ρ) λG'=>K .any G':=by
 simp only[Nm,zpr,Qf]
 congr 1
def zz9{j:List Lx}:Nm P ρ G (.callV f j) K=goL P (f.ev ρ) (j.map (·.ev ρ)) G K:=(rfl)
end byOps
section opened
variable {P : Program} {G : Mp} {p k i n size lo len off esz : Nat} {l r new : List LV} {K : List LV → Prop} {K1 : LV → Prop} {KG : Mp → Prop} {KN : Nat → Prop} {KR : Nat → List LV → Prop} {KV : LV → Mp → Prop} {KS : List UInt8 → Prop} {lof mxf : (Nat → Prop) → Prop} {hif : Nat → (Nat → Prop) → Prop}
def zuc{l:List LV}{st:Nat}{K:List LV→Nat→Prop}:ay (some (.cells l st)) K=K l st:=(rfl)
def ztl{l:List LV}{len esz st:Nat}{K:List LV→Nat→Nat→Nat→Nat→Prop}:Qf (some (.dyn l len esz j st)) K=K l len esz j st:=(rfl)
def cellsL_some:zhl (some l) K=K l:=(rfl)
def zli{a b:LV}:ur (.bool true) a b K1=K1 a:=by cases a<;>cases b<;>simp[ur,Tc]
def zjv{a b:LV}:ur (.bool false) a b K1=K1 b:=by cases a<;>cases b<;>simp[ur,Tc]
def zq3{t x:Bool}:ur (.bool t) (.bool x) (.bool false) K1=K1 (.bool (t&&x)):=by cases t<;>rfl
def ztp{t x:Bool}:ur (.bool t) (.bool true) (.bool x) K1=K1 (.bool (t || x)):=by cases t<;>rfl
def chkL_ptr:og (.ptr p i) K1=K1 (.ptr p i):=(rfl)
def zzs{a b:Int}:zzg (.i a) (.i b) KN=(a=b∧0≤a∧a≤1048576∧KN a.toNat):=(rfl)
def dz{a:Int}:pk (.i a) KN=(0≤a∧KN a.toNat):=(rfl)
def slL_nil:mi G size .nilSl lof hif K1=(lof λa=>hif 0 λb=>a=0∧b=0∧K1 .nilSl):=(rfl)
def slL_dy:mi G size (.dy p k) lof hif K1=(Qf G[p]? λ_ len esz j _=>k=j∧esz=size∧lof λa=>hif len λb=>a≤b∧b≤len∧K1 (.vw p k a (b-a))):=(rfl)
def slL_vw:mi G size (.vw p k lo len) lof hif K1=(Qf G[p]? λ_ _ esz j _=>k=j∧esz=size∧lof λa=>hif len λb=>a≤b∧b≤len∧K1 (.vw p k (lo+a) (b-a))):=(rfl)
def slL_lst:mi G size (.lst l len esz) lof hif K1=(esz=size∧lof λa=>hif len λb=>a≤b∧b≤len∧K1 (.lst ((l.drop (a*esz)).take ((b-a)*esz)) (b-a) esz)):=(rfl)
def offL_ptr:Ve off (.ptr p i) K1=K1 (.ptr p (i+off)):=(rfl)
def offL_dptr:Ve off (.dptr p k i) K1=K1 (.dptr p k (i+off)):=(rfl)
def offL_cptr:Ve off (.cptr l i) K1=K1 (.cptr l (i+off)):=(rfl)
def fldL_true:qr true n off (.agg l) K1=(off+n≤l.length∧K1 (.agg ((l.drop off).take n))):=(rfl)
def fldL_false:qr false n off (.agg l) K1=Oz l off K1:=(rfl)
def xy{x:LV}{n:Int}:ixL G size x (.i n) K1=b9 G size x n K1:=(rfl)
def zc{x:LV}{n:UInt64}:ixL G size x (.u n) K1=b9 G size x (n.toNat:Int) K1:=(rfl)
def zyq{n:Int}:b9 G size (.dy p k) n K1=(Qf G[p]? λ_ len esz j _=>k=j∧esz=size∧0≤n∧n<len∧K1 (.dptr p k (n.toNat*size))):=(rfl)
def zyf{n:Int}:b9 G size (.vw p k lo len) n K1=(Qf G[p]? λ_ _ esz j _=>k=j∧esz=size∧0≤n∧n<len∧K1 (.dptr p k ((lo+n.toNat)*size))):=(rfl)
def zxp{n:Int}:b9 G size (.lst l len esz) n K1=(esz=size∧0≤n∧n<len∧K1 (.cptr l (n.toNat*size))):=(rfl)
def tupL_tup:t8 i (.tup l) K1=Oz l i K1:=(rfl)
def cn{len size:Nat}{x:LV}{n:Int}:ui len size x (.i n) K1=(0≤n∧n<len∧Ve (n.toNat*size) x K1):=(rfl)
def ji{g:Bool}{len size:Nat}{x:LV}{n:Int}:oq g len size x (.i n) K1=(0≤n∧n<len∧qr g size (n.toNat*size) x K1):=(rfl)
def Xq{a b:Int}:Vv .and a b K1=(0≤a∧a<9223372036854775808∧0≤b∧b<9223372036854775808∧K1 (.i (a.toNat &&& b.toNat:Nat))):=(rfl)
def zww{a b:Int}:di true (.i a) (.i b) K1=K1 (.i (max a b)):=(rfl)
def Yf{a b:Int}:di false (.i a) (.i b) K1=K1 (.i (min a b)):=(rfl)
def ly{n:Int}:pq (.i n) KN=(0≤n∧n≤1048576∧KN n.toNat):=(rfl)
def ztt{n:Nat}:zyw G size (.dy p k) n l KV=(Qf G[p]? λr len esz j st=>k=j∧esz=size∧KV (.i (min n len:Nat)) (G.set p (.dyn (Ns r 0 (l.take (min n len*size))) len esz j (st+1)))):=(rfl)
def zpa{z:List LV}{KH:Mp→Prop}:zpr G size z (.vw p k lo len) KH=(Qf G[p]? λr j esz C st=>k=C∧esz=size∧z.length=size∧(lo+len)*size≤r.length∧KH (G.set p (.dyn (Ns r (lo*size) (Oj z len)) j esz C (st+1)))):=(rfl)
def da{g:Nat}{a b:List LV}:goL P (.fn (.func g) a b) v7 G KV=Qn P (.fn g) (a++v7++b) G KV:=(rfl)
def readL_ptr:Wa G (.ptr p i) n K=ay G[p]? λl _=>i+n≤l.length∧K ((l.drop i).take n):=by
 simp only[Wa,ay];cases G[p]?<;>try rfl
def readL_dptr:Wa G (.dptr p k i) n K=Qf G[p]? λl _ _ j _=>k=j∧i+n≤l.length∧K ((l.drop i).take n):=by
 simp only[Wa,Qf];cases G[p]?<;>try rfl
def readL_cptr:Wa G (.cptr l i) n K=(i+n≤l.length∧K ((l.drop i).take n)):=(rfl)
def read1_ptr:Xa G (.ptr p i) K1=ay G[p]? λl _=>Oz l i K1:=by
 simp only[Xa,ay];cases G[p]?<;>try rfl
def read1_dptr:Xa G (.dptr p k i) K1=Qf G[p]? λl _ _ j _=>k=j∧Oz l i K1:=by
 simp only[Xa,Qf];cases G[p]?<;>try rfl
def read1_cptr:Xa G (.cptr l i) K1=Oz l i K1:=(rfl)
def writeL_ptr:U1 G (.ptr p i) r KG=ay G[p]? λl st=>i+r.length≤l.length∧KG (G.set p (.cells (Ns l i r) (st+1))):=by
 simp only[U1,ay];cases G[p]?<;>try rfl
def writeL_dptr:U1 G (.dptr p k i) r KG=Qf G[p]? λl len esz j st=>k=j∧i+r.length≤l.length∧KG (G.set p (.dyn (Ns l i r) len esz j (st+1))):=by
 simp only[U1,Qf];cases G[p]?<;>try rfl
def rowL_dy:S7 G size (.dy p k) KR=Qf G[p]? λl len esz j _=>k=j∧esz=size∧KR len l:=by
 simp only[S7,Qf];cases G[p]?<;>try rfl
def rowL_lst:S7 G size (.lst l len esz) KR=(esz=size∧KR len l):=(rfl)
def lenL_nil:lenL G .nilSl KN=KN 0:=(rfl)
def lenL_dy:lenL G (.dy p k) KN=Qf G[p]? λ_ len _ j _=>k=j∧KN len:=by
 simp only[lenL,Qf];cases G[p]?<;>try rfl
def lenL_vw:lenL G (.vw p k lo len) KN=Qf G[p]? λ_ _ _ j _=>k=j∧KN len:=by
 simp only[lenL,Qf];cases G[p]?<;>try rfl
def lenL_lst:lenL G (.lst l len esz) KN=KN len:=(rfl)
def appL_nil:Ow G size .nilSl n new KV=KV (.dy G.length 0) (G++[.dyn new n size 0 0]):=(rfl)
def appL_dy:Ow G size (.dy p k) n new KV=Qf G[p]? λl len esz j st=>k=j∧(esz=size∧0<esz)∧len≤1000000000∧KV (.dy p (j+1)) (G.set p (.dyn (l++new) (len+n) esz (j+1) (st+1))):=by
 simp only[Ow,Qf];cases G[p]?<;>try rfl
def appL_vw:Ow G size (.vw p k lo len) n new KV=Qf G[p]? λl C esz j st=>k=j∧(esz=size∧lo=0∧0<n)∧len≤1000000000∧if (len+n)*esz≤l.length then KV (.vw p k 0 (len+n)) (G.set p (.dyn (Ns l (len*esz) new) C esz j (st+1)))∧KV (.dy G.length 0) (G++[.dyn (l.take (len*esz)++new) (len+n) size 0 0]) else len=C∧0<esz∧KV (.dy p (j+1)) (G.set p (.dyn (l++new) (len+n) esz (j+1) (st+1)))∧KV (.dy G.length 0) (G++[.dyn (l++new) (len+n) size 0 0]):=by
 simp only[Ow,Qf];cases G[p]?<;>try rfl
variable {op : BinOp} {g : Bool} {t : TypeId}
def Ym{a b:UInt64}:Sj P op g t (.u a) (.u b) K1=Ut op a b K1:=(rfl)
def Yo{a b:Int}:Sj P op g t (.i a) (.i b) K1=Vv op a b K1:=(rfl)
def zou{a:Int}{s:UInt64}:Sj P .shr g t (.i a) (.u s) K1=(0≤a∧s.toNat≤64∧K1 (.i (a/2^s.toNat))):=(rfl)
def zuu{a b:Bool}:Sj P .neq g t (.bool a) (.bool b) K1=(Q9 P g t (.bool a) (.bool b)=some (a==b)∧K1 (.bool (!(a==b)))):=(rfl)
def zws{b:Bool}:unL .not (.bool b) K1=K1 (.bool (!b)):=(rfl)
def gy{a:Int}:t7 .u64 (.i a) K1=K1 (.u (iU a)):=(rfl)
def gf{a:UInt64}:t7 .i64 (.u a) K1=(a.toNat<9223372036854775808∧K1 (.i a.toNat)):=(rfl)
def zuq{l:List LV}{len esz:Nat}:Sj P .eql g t (.lst l len esz) .nilSl K1=(Q9 P g t .nilSl .nilSl=some true∧K1 (.bool false)∧(len=0→K1 (.bool true))):=(rfl)
def zy8{op:BinOp}{g:Bool}{t:TypeId}{l r:List LV}:Sj P op g t (.agg l) (.agg r) K1=aggL P op g t l r K1:=(rfl)
end opened
section code
variable {P : Program} {f n : Nat} {ro : Option Nat} {ρ ρ' : Mq} {D : List Nat} {G G' : Mp} {Q : Pe} {a b c : LC} {x : Lx} {id i t d : Nat} {l : List LI} {ds : List (LI × List (LI × Bool))} {cs : List (LI × Bool)} {K : Mq → Mp → Prop} {KV : LV → Mp → Prop} {KL : List LV → Prop} {KG : Mp → Prop} {Nx : Mq → List Nat → Mp → Prop} {rs : List RRes} {o : LOp} {od : Option Nat} {v w : LV} {vs : List LV} {it : LI}
def wp_skip:wp P f n ro .skip ρ D G Q=Q .normal ρ D G:=(rfl)
def wp_ops:wp P f n ro (.ops l) ρ D G Q=Ts P l ρ G (norQ Q D):=(rfl)
def wp_seq:wp P f n ro (.seq a b) ρ D G Q=wp P f n ro a ρ D G (W0 P f n ro b Q):=(rfl)
def wp_cond:wp P f n ro (.cond x a b) ρ D G Q=brV (x.ev ρ) (wp P f n ro a ρ D G Q) (wp P f n ro b ρ D G Q):=(rfl)
def wp_block:wp P f n ro (.block id c) ρ D G Q=wp P f n ro c ρ D G (uf id Q):=(rfl)
def wp_draw:wp P f n ro (.draw ds) ρ D G Q=aq P ds ρ G (norQ Q D):=(rfl)
def wp_exit:wp P f n ro (.exit id) ρ D G Q=Q (.exit id) ρ D G:=(rfl)
def wp_ret:wp P f n ro .ret ρ D G Q=Q .ret ρ D G:=(rfl)
def wp_loop:wp P f n ro (.loop c) ρ D G Q=W P f n (.loop c) ro ρ D G Q:=(rfl)
def seqQ_n:W0 P f n ro b Q .normal ρ D G=wp P f n ro b ρ D G Q:=(rfl)
def seqQ_e:W0 P f n ro b Q (.exit i) ρ D G=Q (.exit i) ρ D G:=(rfl)
def seqQ_r:W0 P f n ro b Q .ret ρ D G=Q .ret ρ D G:=(rfl)
def blkQ_n:uf id Q .normal ρ D G=Q .normal ρ D G:=(rfl)
def blkQ_e:uf id Q (.exit i) ρ D G=if i=id then Q .normal ρ D G else Q (.exit i) ρ D G:=(rfl)
def blkQ_r:uf id Q .ret ρ D G=Q .ret ρ D G:=(rfl)
def nxQ_n:we Nx Q .normal ρ D G=Nx ρ D G:=(rfl)
def nxQ_e:we Nx Q (.exit i) ρ D G=Q (.exit i) ρ D G:=(rfl)
def nxQ_r:we Nx Q .ret ρ D G=Q .ret ρ D G:=(rfl)
def endQ_n:tp rs KV .normal ρ D G=xf D G (sg ρ rs KV):=(rfl)
def endQ_r:tp rs KV .ret ρ D G=xf D G (sg ρ rs KV):=(rfl)
def norQ_app:norQ Q D ρ G=Q .normal ρ D G:=(rfl)
def takeL_nil:xf [] G KG=KG G:=(rfl)
def takK_app:sg ρ rs KV G=Qy ρ G rs (endK KV G):=(rfl)
def endK_app:endK KV G vs=KV (Vb vs) G:=(rfl)
def resL_nil:Qy ρ G [] KL=KL []:=(rfl)
def resL_tmp:Qy ρ G (.tmp t::rs) KL=Qy ρ G rs (tmpK ρ t KL):=(rfl)
def resL_cN:Qy ρ G (.cellN t n::rs) KL=Wa G (lk ρ t) n (cnK ρ G rs KL):=(rfl)
def tmpK_app:tmpK ρ t KL vs=KL (lk ρ t::vs):=(rfl)
def conK_app:conK v KL vs=KL (v::vs):=(rfl)
def cnK_app:cnK ρ G rs KL vs=Qy ρ G rs (conK (.agg vs) KL):=(rfl)
def oneL_1:Vb [v]=v:=(rfl)
def oneL_0:Vb []=.tup []:=(rfl)
def oneL_2:Vb (v::w::vs)=.tup (v::w::vs):=(rfl)
def OpsL_nil:Ts P [] ρ G K=K ρ G:=(rfl)
def OpsL_cons:Ts P (it::l) ρ G K=Z5 P it ρ G (opsK P l K):=(rfl)
def opsK_app:opsK P l K ρ G=Ts P l ρ G K:=(rfl)
def ItL_n:Z5 P ⟨od,none,o⟩ ρ G K=Nm P ρ G o (oi ρ od K):=(rfl)
def ItL_t:Z5 P ⟨od,some (t,true),o⟩ ρ G K=mv (lk ρ t) (Nm P (setL t (.bool true) ρ) G o (oi (setL t (.bool true) ρ) od K)) (oi (setL t (.bool false) ρ) od K (.tup []) G) (oi ρ od K (.tup []) G):=(rfl)
def ItL_f:Z5 P ⟨od,some (t,false),o⟩ ρ G K=mv (lk ρ t) (oi (setL t (.bool true) ρ) od K (.tup []) G) (Nm P (setL t (.bool false) ρ) G o (oi (setL t (.bool false) ρ) od K)) (oi ρ od K (.tup []) G):=(rfl)
def itK_some:oi ρ (some d) K v G=K ((d,v)::ρ) G:=(rfl)
def itK_none:oi ρ none K v G=K ρ G:=(rfl)
def atG_app:Wy KV G v=KV v G:=(rfl)
def DrL_nil:aq P [] ρ G K=K ρ G:=(rfl)
def DrL_cons:aq P ((it,cs)::ds) ρ G K=Z5 P it ρ G (drK P cs ds ρ G K):=(rfl)
def drK_app:drK P cs ds ρ G K ρ' G'=(Vl ρ G G' cs∧aq P ds ρ' G' K):=(rfl)
def ev_t:(Lx.t i).ev ρ=lk ρ i:=(rfl)
def ev_c:(Lx.c v).ev ρ=v:=(rfl)
def argsL_nil:i4 [] i=[]:=(rfl)
def argsL_cons:i4 (v::vs) i=(i,v)::i4 vs (i+1):=(rfl)
def setL_cons:setL t v ((d,w)::ρ)=if t=d then (d,v)::ρ else (d,w)::setL t v ρ:=(rfl)
end code
section nums
variable {K : LV → Prop}
def zyc{a b:UInt64}:Ut .add a b K=K (.u (T6 a b)):=(rfl)
def zze{a b:UInt64}:Ut .sub a b K=K (.u (Zi a b)):=(rfl)
def zxt{a b:UInt64}:Ut .mul a b K=K (.u (Ro a b)):=(rfl)
def Xz{a b:UInt64}:Ut .rem a b K=(b≠0∧K (.u (su a b))):=(rfl)
def zzc{a b:UInt64}:Ut .shl a b K=K (.u (Q3 a b.toNat)):=(rfl)
def Ye{a b:UInt64}:Ut .shr a b K=K (.u (P8 a b.toNat)):=(rfl)
def Yg{a b:UInt64}:Ut .and a b K=K (.u (Qx a b)):=(rfl)
def ma{a b:UInt64}:Ut .or a b K=K (.u (Yp a b)):=(rfl)
def zxx{a b:UInt64}:Ut .xor a b K=K (.u (vj a b)):=(rfl)
def zy0{a b:UInt64}:Ut .eql a b K=K (.bool (decide (a=b))):=(rfl)
def zza{a b:UInt64}:Ut .neq a b K=K (.bool (decide (a≠b))):=(rfl)
def X9{a b:UInt64}:Ut .lss a b K=K (.bool (decide (a<b))):=(rfl)
def zzl{a b:UInt64}:Ut .leq a b K=K (.bool (decide (a≤b))):=(rfl)
def zyd{a b:UInt64}:Ut .gtr a b K=K (.bool (decide (b<a))):=(rfl)
def zzr{a b:UInt64}:Ut .geq a b K=K (.bool (decide (b≤a))):=(rfl)
def X4{a b:Int}:Vv .add a b K=(Tk (a+b)∧K (.i (a+b))):=(rfl)
def zzd{a b:Int}:Vv .sub a b K=(Tk (a-b)∧K (.i (a-b))):=(rfl)
def X1{a b:Int}:Vv .mul a b K=(Tk (a*b)∧K (.i (a*b))):=(rfl)
def zzp{a b:Int}:Vv .quo a b K=(b≠0∧Tk (a.tdiv b)∧K (.i (a.tdiv b))):=(rfl)
def Yb{a b:Int}:Vv .rem a b K=(b≠0∧K (.i (a.tmod b))):=(rfl)
def Xr{a b:Int}:Vv .shr a b K=(0≤a∧0≤b∧b≤64∧K (.i (a/2^b.toNat))):=(rfl)
def zzi{a b:Int}:Vv .eql a b K=K (.bool (decide (a=b))):=(rfl)
def zyn{a b:Int}:Vv .neq a b K=K (.bool (decide (a≠b))):=(rfl)
def zx1{a b:Int}:Vv .lss a b K=K (.bool (decide (a<b))):=(rfl)
def Xt{a b:Int}:Vv .leq a b K=K (.bool (decide (a≤b))):=(rfl)
def zzn{a b:Int}:Vv .gtr a b K=K (.bool (decide (b<a))):=(rfl)
def zyk{a b:Int}:Vv .geq a b K=K (.bool (decide (b≤a))):=(rfl)
end nums
section congr2
variable {P : Program} {G G' : Mp} {x x' y y' z z' : LV} {K : LV → Mp → Prop} {Kv : LV → Prop} {n n' size : Nat}
@[congr] theorem atC_congr {o j:Option LObj} {K:List LV→Nat→Prop} (h:o=j):ay o K=ay j K:=Dx
@[congr] theorem atD_congr {o j:Option LObj} {K:List LV→Nat→Nat→Nat→Nat→Prop} (h:o=j):Qf o K=Qf j K:=Dx
@[congr] theorem qw {o j:Option (List LV)} {K:List LV→Prop} (h:o=j):zhl o K=zhl j K:=Dx
@[congr] theorem yw (j:x=x') (C:y=y') (E:z=z'):ur x y z Kv=ur x' y' z' Kv:=Ep
@[congr] theorem chkL_congr (j:x=x'):og x Kv=og x' Kv:=Ek
@[congr] theorem yp {K:Nat→Prop} (j:x=x') (C:y=y'):zzg x y K=zzg x' y' K:=B0
@[congr] theorem bndV_congr {K:Nat→Prop} (j:x=x'):pk x K=pk x' K:=Ek
@[congr] theorem slL_congr {lo:(Nat→Prop)→Prop} {hi:Nat→(Nat→Prop)→Prop} (j:G=G') (C:x=x'):mi G size x lo hi Kv=mi G' size x' lo hi Kv:=B0
@[congr] theorem offL_congr (j:x=x'):Ve n x Kv=Ve n x' Kv:=Ek
@[congr] theorem ixL_congr (j:G=G') (C:x=x') (E:y=y'):ixL G size x y Kv=ixL G' size x' y' Kv:=Ep
@[congr] theorem ixV_congr {i:Int} (j:G=G') (E:x=x') (F:i=C):b9 G size x i Kv=b9 G' size x' C Kv:=by rw[j,E,F]
@[congr] theorem tupL_congr (j:x=x'):t8 n x Kv=t8 n x' Kv:=Ek
@[congr] theorem ixPL_congr {len size:Nat} (j:x=x') (C:y=y'):ui len size x y Kv=ui len size x' y' Kv:=B0
@[congr] theorem ixAL_congr {g:Bool} {len size:Nat} (j:x=x') (C:y=y'):oq g len size x y Kv=oq g len size x' y' Kv:=B0
@[congr] theorem maxL_congr {g:Bool} (j:x=x') (C:y=y'):di g x y Kv=di g x' y' Kv:=B0
@[congr] theorem lenZ_congr {K:Nat→Prop} (j:x=x'):pq x K=pq x' K:=Ek
@[congr] theorem qg {z z':List LV} {KH:Mp→Prop} (j:G=G') (C:x=x') (E:z=z'):zpr G size z x KH=zpr G' size z' x' KH:=Ep
@[congr] theorem x6 {l:List LV} (j:G=G') (C:x=x') (E:n=n') (F:l=v7):zyw G size x n l K=zyw G' size x' n' v7 K:=by rw[j,C,E,F]
@[congr] theorem goL_congr {l:List LV} (j:x=x') (C:l=v7) (E:G=G'):goL P x l G K=goL P x' v7 G' K:=Ep
end congr2
def LU(a:List UInt64):LV:=.lst (a.map .u) a.length 1
def vp(a:List UInt64):dats (a.map LV.u)=true:=nz (λ_=>rfl) a
def zr4(a:List UInt64)(n:Nat):dats ((a.map LV.u).take n)=true:=dats_take n (vp a)
def tl(a b:List LV):dats (a++b)=(dats a&&dats b):=by
 induction a with
 |nil=>simp[dats]
 |cons x a j=>simp[dats,j,Bool.and_assoc]
def zla(l r:List LV):Ns l 0 r=r++l.drop r.length:=by simp[Ns]
def zwf(v:LV)(l r:List LV)(i:Nat):Ns (v::l) (i+1) r=v::Ns l i r:=by
 unfold Ns;rw[show i+1+r.length=(i+r.length)+1 from J];simp
attribute [simp] zr4 tl Vl ckL ckC yu qy LObj.stp LObj.st zp8 zq8 lw eh zj0 sy LV.cells subV subVs Ui notP shV shVs frV frVs bor bors LV.dat dats LV.scal LV.sim sims vp zla zwf LU Tk
attribute [simp] zpm zt5 zxd zme zje ry Xs
attribute [simp ↓] zpm zt5 zxd zme zje Xs zp8 zq8 lw
attribute [simp ↓] OpL_move OpL_pick OpL_alloc OpL_box OpL_build OpL_buildSl OpL_load1 OpL_loadN OpL_store OpL_nilChk pg OpL_un Zh zva OpL_mkSl zzm zx5 OpL_slSl OpL_fieldAddr OpL_ixAddr OpL_extract OpL_lenSl dc OpL_appZ OpL_appG OpL_copy zz9
attribute [simp] zuc ztl cellsL_some zli zjv zq3 ztp chkL_ptr zzs dz slL_nil slL_dy slL_vw slL_lst offL_ptr offL_dptr offL_cptr fldL_true fldL_false xy zc zyq zyf zxp tupL_tup zww Yf ly ztt da readL_ptr readL_dptr readL_cptr read1_ptr read1_dptr read1_cptr writeL_ptr writeL_dptr rowL_dy rowL_lst lenL_nil lenL_dy lenL_vw lenL_lst appL_nil appL_dy appL_vw Ym Yo zou zuu zuq zws gy gf
attribute [simp ↓] zuc ztl cellsL_some zli zjv zq3 ztp chkL_ptr zzs dz slL_nil slL_dy slL_vw slL_lst offL_ptr offL_dptr offL_cptr fldL_true fldL_false xy zc zyq zyf zxp tupL_tup zww Yf ly ztt da readL_ptr readL_dptr readL_cptr read1_ptr read1_dptr read1_cptr writeL_ptr writeL_dptr rowL_dy rowL_lst lenL_nil lenL_dy lenL_vw lenL_lst appL_nil appL_dy appL_vw Ym Yo zou zuu zuq zws gy gf
attribute [simp] wp_skip wp_ops wp_seq wp_cond wp_block wp_draw wp_exit wp_ret wp_loop seqQ_n seqQ_e seqQ_r blkQ_n blkQ_e blkQ_r nxQ_n nxQ_e nxQ_r endQ_n endQ_r norQ_app takeL_nil takK_app endK_app resL_nil resL_tmp resL_cN tmpK_app conK_app cnK_app oneL_1 oneL_0 oneL_2 OpsL_nil OpsL_cons opsK_app ItL_n ItL_t ItL_f itK_some itK_none atG_app DrL_nil DrL_cons drK_app ev_t ev_c argsL_nil argsL_cons setL_cons zyc zze zxt Xz zzc Ye Yg ma zxx zy0 zza X9 zzl zyd zzr X4 zzd X1 zzp Yb Xr zzi zyn zx1 Xt zzn zyk
attribute [simp ↓] wp_skip wp_ops wp_seq wp_cond wp_block wp_draw wp_exit wp_ret wp_loop seqQ_n seqQ_e seqQ_r blkQ_n blkQ_e blkQ_r nxQ_n nxQ_e nxQ_r endQ_n endQ_r norQ_app takeL_nil takK_app endK_app resL_nil resL_tmp resL_cN tmpK_app conK_app cnK_app oneL_1 oneL_0 oneL_2 OpsL_nil OpsL_cons opsK_app ItL_n ItL_t ItL_f itK_some itK_none atG_app DrL_nil DrL_cons drK_app ev_t ev_c argsL_nil argsL_cons setL_cons zyc zze zxt Xz zzc Ye Yg ma zxx zy0 zza X9 zzl zyd zzr X4 zzd X1 zzp Yb Xr zzi zyn zx1 Xt zzn zyk
attribute [simp] zy8
attribute [simp ↓] zy8
attribute [simp] cn ji Xq
attribute [simp] zpa
attribute [simp ↓] OpL_clear zpa zmu zwp cn ji Xq
def ij(o:Option Bool)(A B:Prop):Prop:=match o with
 |some b=>Tc b A B
 |none=>False
def atM(o:Option LObj)(K:List (LV×LV×Nat)→Nat→Nat→Prop):Prop:=match o with
 |some (.map es ck st)=>K es ck st
 |_=>False
def yc(d:TypeDesc)(k z:LV)(ok:Bool)(K:LV→Prop):List (LV×LV×Nat)→Prop:=λes=>qz d k (zwq z ok K) es
def conM(x:LV×LV×Nat)(K:List (LV×LV×Nat)→Bool→Prop):List (LV×LV×Nat)→Bool→Prop:=λr new=>K (x::r) new
def slAL(G:Mp)(n size:Nat)(x:LV)(lo:(Nat→Prop)→Prop)(hi:Nat→(Nat→Prop)→Prop)(K:LV→Mp→Prop):Prop:=match x with
 |.ptr p i=>ay G[p]? λl st=>i+n*size≤l.length∧lo λa=>hi n λb=>a≤b∧b≤n∧K (.lst ((l.drop (i+a*size)).take ((b-a)*size)) (b-a) size) (G.set p (.dead (st+1)))
 |_=>False
section maps
variable {P : Program} {ρ : Mq} {G G' : Mp} {K : LV → Mp → Prop} {K1 : LV → Prop} {x i m k v z x' k' : LV} {X I M V : Lx} {d : TypeDesc} {ok : Bool} {es es' : List (LV × LV × Nat)} {KE : List (LV × LV × Nat) → Prop} {KB : List (LV × LV × Nat) → Bool → Prop} {KH : Mp → Prop} {p ck st n size : Nat} {lo hi : Option Lx} {A B : Prop} {lof : (Nat → Prop) → Prop} {hif : Nat → (Nat → Prop) → Prop}
def OpL_mkMap0:Nm P ρ G .mkMap0 K=K (.map G.length) (G++[.map [] 0 0]):=(rfl)
def OpL_lookup:Nm P ρ G (.lookup d z ok X I) K=Wk G (X.ev ρ) (yc d (I.ev ρ) z ok (Wy K G)):=(rfl)
def OpL_mapUpd:Nm P ρ G (.mapUpd d M I V) K=ze G d (M.ev ρ) (I.ev ρ) (V.ev ρ) λG'=>K .any G':=(rfl)
def OpL_slArr:Nm P ρ G (.slArr n size X lo hi) K=slAL G n size (X.ev ρ) (λk=>O3 ρ 0 lo k) (λd k=>O3 ρ d hi k) K:=by
 simp only[Nm,slAL,ay];cases X.ev ρ<;>try rfl
 all_goals (cases G[_]?<;>try rfl)
def zu6{K:List (LV×LV×Nat)→Nat→Nat→Prop}:atM (some (.map es ck st)) K=K es ck st:=(rfl)
def mapL_map:Wk G (.map p) KE=atM G[p]? λes _ _=>KE es:=by
 simp only[Wk,atM];cases G[p]?<;>try rfl
def lookM_app:yc d k z ok K1 es=qz d k (zwq z ok K1) es:=(rfl)
def zpl{j:Option LV→Prop}:qz d k j []=j none:=(rfl)
def zkv{j:Option LV→Prop}:qz d k j ((k',v,n)::es)=ij (W3 d k k') (j (some v)) (qz d k j es):=(rfl)
def lookK_st:zwq z true K1 (some v)=K1 (.tup [v,.bool true]):=(rfl)
def lookK_nt:zwq z true K1 none=K1 (.tup [z,.bool false]):=(rfl)
def updL'_map:ze G d (.map p) k v KH=atM G[p]? λes ck st=>V0 d k v ck (setK G p ck st KH) es:=by
 simp only[ze,atM];cases G[p]?<;>try rfl
def putL_nil:V0 d k v ck KB []=KB [(k,v,ck)] true:=(rfl)
def zpw{w:LV}:V0 d k v ck KB ((k',w,n)::es)=ij (W3 d k k') (KB ((k,v,n)::es) false) (V0 d k v ck (conM (k',w,n) KB) es):=(rfl)
def zts{y:LV×LV×Nat}{b:Bool}:conM y KB es b=KB (y::es) b:=(rfl)
def setK_t:setK G p ck st KH es true=KH (G.set p (.map es (ck+1) (st+1))):=(rfl)
def zoe{b:Bool}:ij (some b) A B=Tc b A B:=(rfl)
def jp{j:IntKind}{a b:Int}:W3 (.int j) (.i a) (.i b)=some (decide (a=b)):=(rfl)
def zux:slAL G n size (.ptr p j) lof hif K=ay G[p]? λl st=>j+n*size≤l.length∧lof λa=>hif n λb=>a≤b∧b≤n∧K (.lst ((l.drop (j+a*size)).take ((b-a)*size)) (b-a) size) (G.set p (.dead (st+1))):=(rfl)
@[congr] theorem atM_congr {o j:Option LObj} {K:List (LV×LV×Nat)→Nat→Nat→Prop} (h:o=j):atM o K=atM j K:=Dx
@[congr] theorem xj (j:G=G') (C:m=uU) (E:k=k') (F:v=O):ze G d m k v KH=ze G' d uU k' O KH:=by rw[j,C,E,F]
@[congr] theorem keyB_congr {o j:Option Bool} (h:o=j):ij o A B=ij j A B:=Dx
end maps
attribute [simp] zu6 mapL_map lookM_app zpl zkv lookK_st lookK_nt updL'_map putL_nil zpw zts setK_t zoe jp zux
attribute [simp ↓] OpL_mkMap0 OpL_lookup OpL_mapUpd OpL_slArr zu6 mapL_map lookM_app zpl zkv lookK_st lookK_nt updL'_map putL_nil zpw zts setK_t zoe jp zux
end
end
section
noncomputable section
open Go.RowKit (Below)
mutual
inductive Sh where
 |bool
 |u
 |b
 |i
 |k (k:IntKind)
 |str
 |sl (s:Sh)
 |st (l:ShL)
inductive ShL where
 |nil
 |cons (s:Sh) (l:ShL)
end
mutual
def Sh.n:Sh→Nat
 |.st l=>l.n
 |_=>1
def ShL.n:ShL→Nat
 |.nil=>0
 |.cons s l=>s.n+l.n
end
mutual
def Sh.T:Sh→Type
 |.bool=>Bool
 |.u=>UInt64
 |.b=>UInt8
 |.i=>{ n:Int // Tk n }
 |.k _=>Int
 |.str=>{ l:List UInt8 // l.length≤maxLen }
 |.sl s=>{ l:List s.T // l.length≤maxLen }
 |.st l=>l.T
def ShL.T:ShL→Type
 |.nil=>Unit
 |.cons s l=>s.T×l.T
end
mutual
def Sh.enc:(s:Sh)→s.T→List LV
 |.bool,x=>[.bool x]
 |.u,x=>[.u x]
 |.b,x=>[.b x]
 |.i,x=>[.i x.1]
 |.k k,x=>[.int k x]
 |.str,x=>[.str x.1]
 |.sl s,x=>[.lst (x.1.flatMap s.enc) x.1.length s.n]
 |.st l,x=>l.enc x
def ShL.enc:(l:ShL)→l.T→List LV
 |.nil,_=>[]
 |.cons s l,x=>s.enc x.1++l.enc x.2
end
mutual
def Sh.enc_length:∀(s:Sh) (x:s.T),(s.enc x).length=s.n
 |.bool,_=>rfl
 |.u,_=>rfl
 |.b,_=>rfl
 |.i,_=>rfl
 |.k _,_=>rfl
 |.str,_=>rfl
 |.sl _,_=>rfl
 |.st l,x=>by simp only[Sh.enc,Sh.n];exact ShL.enc_length l x
def ShL.enc_length:∀(l:ShL) (x:l.T),(l.enc x).length=l.n
 |.nil,_=>rfl
 |.cons s l,x=>by simp only[ShL.enc,ShL.n,H4,Sh.enc_length s x.1,ShL.enc_length l x.2]
end
def ga(P:Program)(f:TypeId→Option Sh)(j:Nat):List Field→Nat→Option ShL
 |[],g=>if g=j then some .nil else none
 |fd::l,g=>match f fd.type with
  |none=>none
  |some s=>if fd.offset=g∧P.cellsOf fd.type=s.n then match ga P f j l (g+s.n) with
   |none=>none
   |some r=>some (.cons s r)
   else none
def Vp:Nat→Sh→ShL
 |0,_=>.nil
 |n+1,s=>.cons s (Vp n s)
def Vh(P:Program):Nat→TypeId→Option Sh
 |0,_=>none
 |d+1,t=>match P.underlying t with
  |some .bool=>some .bool
  |some (.int k)=>match k with
   |.u64=>some .u
   |.u8=>some .b
   |.i64=>some .i
   |k=>some (.k k)
  |some .string=>some .str
  |some (.slice e)=>match Vh P d e with
   |none=>none
   |some s=>if P.cellsOf e=s.n∧0<s.n then some (.sl s) else none
  |some (.struct g)=>match ga P (Vh P d) (P.cellsOf t) g.toList 0 with
   |none=>none
   |some l=>some (.st l)
  |some (.array n e)=>match Vh P d e with
   |none=>none
   |some s=>if P.cellsOf e=s.n∧P.cellsOf t=n*s.n then some (.st (Vp n s)) else none
  |_=>none
def Vu(P:Program)(d:Nat):List TypeId→Option ShL
 |[]=>some .nil
 |t::l=>match Vh P d t with
  |none=>none
  |some s=>if P.cellsOf t=s.n then match Vu P d l with
   |none=>none
   |some r=>some (.cons s r)
   else none
def Rel.ro{W:World}{gz:CM}{H:Heap}(h:Rel W gz H W){L:Loc}(hL:L.b<W.heap.size){l:List AV}(gA:gz.le (gz.ext H.next 0 L)→Pr W.heap.size (gz.ext H.next 0 L) W H.next (.cells (Qz l 0 .e) l.length 0 true)) :
  Rel W (gz.ext H.next 0 L) (H.push (.cells (Qz l 0 .e) l.length 0 true)) W∧gz.le (gz.ext H.next 0 L):=by
 have hle:gz.le (gz.ext H.next 0 L):=CM.le_ext _ (h.next_none 0) (.inr (Kq h.nx));refine⟨⟨by show max gz.nx (H.next+1)=H.next+1;rw[h.nx];exact Nat.max_eq_right (Ly _),h.low,?_,?_,?_,?_,?_⟩,hle⟩
 ·intro o v L' C;show o<H.next+1;by_cases e:o=H.next∧v=0
  ·omega
  ·rw[CM.ext_ne _ _ e]at C;have:=h.fresh _ _ _ C;omega
 ·intro o v L' C;by_cases e:o=H.next∧v=0
  ·obtain⟨rfl,rfl⟩:=e;rw[CM.ext_same]at C;cases C;exact hL
  ·rw[CM.ext_ne _ _ e]at C;exact h.lt _ _ _ C
 ·intro o v L1 o' v' L2 h1 h2 hb hB;by_cases e:o=H.next∧v=0
  ·obtain⟨rfl,rfl⟩:=e;rw[CM.ext_same]at h1;cases h1;omega
  ·by_cases e':o'=H.next∧v'=0
   ·obtain⟨rfl,rfl⟩:=e';rw[CM.ext_same]at h2;cases h2;omega
   ·rw[CM.ext_ne _ _ e]at h1;rw[CM.ext_ne _ _ e']at h2;exact h.excl _ _ _ _ _ _ h1 h2 hb hB
 ·intro o ob ho hg;by_cases e:o=H.next
  ·subst e;rw[Heap.get_push_same]at hg;cases hg;exact gA hle
  ·have gg:o<H.next:=Be
   rw[Heap.get_push_ne _ _ gg]at hg;refine (h.obj _ _ gg hg).frame hle (λv L' C=>?_) (λ_ _ _=>rfl)
   rwa [CM.ext_ne _ _ J]at C
 ·intro o c len gC ro ho hg v L' C;by_cases e:o=H.next
  ·subst e;by_cases ev:v=0
   ·omega
   ·rw[CM.ext_ne _ _ J]at C;have:=h.fresh _ _ _ C;omega
  ·have gg:o<H.next:=Be
   rw[Heap.get_push_ne _ _ gg]at hg;rw[CM.ext_ne _ _ J]at C;exact h.top _ _ _ _ _ gg hg _ _ C
def T3(H:Heap):Cx:=⟨[],λo=>o<H.next,H⟩
def Sf(H g:Heap):Prop:=H.next≤g.next∧∀o,o<H.next→g.get o=H.get o
def Sf.refl(H:Heap):Sf H H:=⟨Hw _,λ_ _=>rfl⟩
def Sf.trans{A B C:Heap}(h:Sf A B)(k:Sf B C):Sf A C:=⟨Is h.1 k.1,λo ho=>by rw[k.2 o (Il ho h.1),h.2 o ho]⟩
def Sf.le{H H':Heap}(h:Sf H H'):CxLe (T3 H) (T3 H') :=
 ⟨λp k x e=>by simp[T3]at e,λo ho=>⟨Il ho h.1,h.2 o ho⟩⟩
section imp
variable {HH : Type} {enc : TypeId × Value → HH} {P : Program} {W : World}
def Got(W:World)(A:CM)(H:Heap)(z:List Value)(s:Nat)(T:Type)(e:T→List LV):Prop :=
 ∃g j as,∃y:T,A.le g∧Rel W g j W∧Sf H j∧VRs g as z∧(∀a∈as,a.one=true)∧ARs (T3 j) (e y) as∧as.length=s
def wu{H:Heap}(g:Rel W M H W){v:Value}{T:Type}{e:T→List LV}(y:T)(a:AV)(l:LV)(he:e y=[l])(hv:VR M a v)(j:a.one=true)(z:AR (T3 H) l a):Got W M H [v] 1 T e :=
 ⟨M,H,[a],y,CM.le_refl M,g,.refl H,.cons hv .nil,Bg,by rw[he];exact .cons z .nil,rfl⟩
def zkk{j:List MemPlace}(z:W.noneFrozen j){b n:Nat}(h:∀x∈MemPlace.row ⟨b,g,none⟩ n,x∈j){i:Nat}(hi:i<n):W.frozen? ⟨b,g+i,none⟩=false :=
 z b (g+i) (h _ (Mb.2 ⟨i,J0.2 hi,rfl⟩))
def got_cells:∀(M:Nat) (d:Nat) (t:TypeId) (s:Sh) (cs:List Value) (x:DataW HH×List MemPlace) (V:CM) (H:Heap),Vh P d t=some s→DataW.trod enc P W 0 (λ_=>true) true M t cs=some x→W.noneFrozen x.2→Rel W V H W →
  Got W V H cs s.n s.T s.enc:=by
 intro M
 induction M with
 |zero=>intro d t s cs x V H _ h;simp[DataW.trod]at h
 |succ M ih =>
  intro d t s cs x V H z h hz C;cases d with
  |zero=>cases z
  |succ d =>
   simp only[Vh]at z;split at z
   ·rename_i hu;cases z;obtain⟨b,rfl,_⟩:=DataW.trod_bool hu h;exact wu C (T:=Bool) b (.bool b) (.bool b) rfl (.bool b) rfl (.bool b)
   ·rename_i k hu;obtain⟨n,rfl,_,hw⟩:=DataW.trod_int hu h;split at z
    ·cases z;have hb:=bounds_u64 hw;refine wu C (T:=UInt64) (UInt64.ofNat n.toNat) (.int .u64 n) (.u (UInt64.ofNat n.toNat)) rfl (.int _ _) rfl (.u' ?_);rw[I5];simp only[Ik];omega
    ·cases z;have hb:=bounds_u8 hw;refine wu C (T:=UInt8) (UInt8.ofNat n.toNat) (.int .u8 n) (.b (UInt8.ofNat n.toNat)) rfl (.int _ _) rfl (.b' ?_);rw[UInt8.toNat_ofNat'];simp only[Ik];omega
    ·cases z;have hb:=bounds_i64 hw;exact wu C (T:={ n:Int // Tk n }) ⟨n,by unfold Tk;omega⟩ (.int .i64 n) (.i n) rfl (.int _ _) rfl (.i n)
    ·cases z;exact wu C (T:=Int) n (.int k n) (.int k n) rfl (.int _ _) rfl (.int k n)
   ·rename_i hu;cases z;obtain⟨b,rfl,_,hm⟩:=DataW.trod_string hu h;exact wu C (T:={ l:List UInt8 // l.length≤maxLen }) ⟨b.data.toList,D3⟩ (.str b.data.toList.length (On b.data.toList)) (.str b.data.toList) rfl (.str rfl rfl) rfl (.str _)
   ·rename_i e hu;split at z
    ·cases z
    ·rename_i j gD;by_cases U:P.cellsOf e=j.n∧0<j.n
     ·rw[Hv U]at z;cases z;obtain⟨gE,O⟩:=U;rcases DataW.trod_slice hu h with ⟨rfl,_⟩|⟨a,len,cap,G,gO,n,hn,rfl,hx,_,gP,jQ,gQ,gA,gR,_⟩
      ·exact wu C (T:={ l:List j.T // l.length≤maxLen }) ⟨[],N⟩ .nilSl (.lst [] 0 j.n) rfl .nilSl rfl .lstNil
      ·cases hn;by_cases h0:len=0
       ·subst h0;exact wu C (T:={ l:List j.T // l.length≤maxLen }) ⟨[],N⟩ .emp (.lst [] 0 j.n) rfl .emp rfl .lstEmp
       ·
        obtain⟨b,g,Q⟩:=a;have I:∀i,i<cap→∃D,W.cells? 0 ((⟨b,g,Q⟩:Addr).add (i*P.cellsOf e)) (P.cellsOf e)=some D:=by
         intro i hi;by_cases jA:i<len
         ·have:=gA i jA;rw[Ht J]at this;cases hq:W.cells? 0 ((⟨b,g,Q⟩:Addr).add (i*P.cellsOf e)) (P.cellsOf e) with
          |none=>rw[hq]at this;cases this
          |some D=>exact⟨D,rfl⟩
         ·obtain⟨jU,jB⟩:=gR rfl;have:=jB (i-len) J;rw[show len+(i-len)=i from J,Ht J]at this;cases hq:W.cells? 0 ((⟨b,g,Q⟩:Addr).add (i*P.cellsOf e)) (P.cellsOf e) with
          |none=>rw[hq]at this;cases this
          |some D=>exact⟨D,rfl⟩
        have gF:Q=none:=by
         obtain⟨D,he⟩:=I 0 J;obtain⟨_,E,A⟩:=World.cells?_some he;have:=A 0 J;rw[Ht J]at this;simpa [Addr.add] using World.cell?_spot this
        subst gF;have R:∀i X,i<cap→X<j.n→∃v,W.cell? ⟨b,g+(i*j.n+X),none⟩=some v:=by
         intro i X hi hj;obtain⟨D,he⟩:=I i hi;obtain⟨_,E,A⟩:=World.cells?_some he;have:=A X J;rw[Ht J]at this;rw[gE]at this;rw[WideShapes.add_plain,WideShapes.add_plain]at this;rw[←J2];exact⟨_,this⟩
        obtain⟨v0,gC⟩:=R 0 0 J O;obtain⟨vs,ty,lo,hi,B⟩:∃vs ty lo hi,W.heap[b]?=some (.cells vs ty (lo,hi)):=by
         unfold World.cell? at gC;dsimp only at gC;split at gC
         ·rename_i vs ty fz B;exact⟨vs,ty,fz.1,fz.2,B⟩
         ·cases gC
        have jC:∀q,q<cap*j.n→∃v,vs[g+q]?=some v:=by
         intro q hq;obtain⟨v,hv⟩:=R (q/j.n) (q%j.n) (by rw[Nat.div_lt_iff_lt_mul O];exact hq) (Ix _ O);have:q/j.n*j.n+q%j.n=q:=by rw[Ka];exact Nat.div_add_mod q j.n
         rw[this,zhr B]at hv;exact⟨v,hv⟩
        have gT:g+cap*j.n≤vs.size:=by
         have jD:0<cap*j.n:=Nat.mul_pos J O;obtain⟨v,hv⟩:=jC (cap*j.n-1) J;have:=(Array.getElem?_eq_some_iff.1 hv).1;omega
        have gU:∀x',x'∈MemPlace.row ⟨b,g,none⟩ (cap*j.n)→x'∈x.2:=by
         intro x' gG;rw[hx];have:(G.length+gO.length)*P.cellsOf e=cap*j.n:=by rw[gQ,(gR rfl).1,gE];congr 1;omega
         rw[this];exact K5 _ gG
        have loop:∀m,m≤len→∃C' H' as,∃ys:List j.T,V.le C'∧Rel W C' H' W∧Sf H H'∧(∀a∈as,a.one=true)∧ARs (T3 H') (ys.flatMap j.enc) as∧ys.length=m∧as.length=m*j.n∧∀q,q<m*j.n→∃a v,as[q]?=some a∧vs[g+q]?=some v∧VR C' a v:=by
         intro m
         induction m with
         |zero=>intro _;exact⟨V,H,[],[],CM.le_refl V,C,.refl H,N,.nil,rfl,N,λq hq=>J⟩
         |succ m jE =>
          intro hm;obtain⟨C1,Y,Z,jF,a1,a2,a3,a4,a5,a6,a7,a8⟩:=jE J;obtain⟨D,he⟩:=I m J;have gV:=gA m J;rw[he,Ht J]at gV;obtain⟨_,E,A⟩:=World.cells?_some he;have jG : W.noneFrozen (G[m]' J).2 := λb' F gg => hz b' F (by
           rw[hx];exact Iv _ (List.mem_flatMap.2 ⟨G[m]' J, N, gg⟩))
          obtain⟨C2,H2,gz,y,b1,b2,b3,b4,b5,b6,b7⟩:=ih d e j D _ C1 Y gD gV jG a2;refine⟨C2,H2,Z++gz,jF++[y],CM.le_trans a1 b1,b2,a3.trans b3,?_,?_,by simp[a6],?_,?_⟩
          ·intro g9 hz;rcases Ih.1 hz with h|h
           ·exact a4 g9 h
           ·exact b5 g9 h
          ·rw[List.flatMap_append];refine (a5.mono b3.le).append ?_;simpa using b6
          ·rw[H4,a7,b7,Im,Nat.one_mul]
          ·intro q hq;by_cases jH:q<m*j.n
           ·obtain⟨a,v,c1,c2,c3⟩:=a8 q jH;exact⟨a,v,by rw[Hx J];exact c1,c2,c3.mono b1⟩
           ·have jV:q-m*j.n<j.n:=by rw[Im,Nat.one_mul]at hq;omega
            obtain⟨a,v,c1,c2,c3⟩:=b4.get' (i:=q-m*j.n) J;refine⟨a,v,by rw[H9 J,a7];exact c1,?_,c3⟩;have:=A (q-m*j.n) J;rw[gE,WideShapes.add_plain,WideShapes.add_plain,zhr B,c2]at this;rw[←this]
            congr 1
            omega
        obtain⟨C1,Y,as,ys,a1,a2,a3,a4,a5,a6,a7,a8⟩:=loop len (Hw _);have jI:b<W.heap.size:=by
         have:=(Array.getElem?_eq_some_iff.1 B).1;exact this
        have jR:len*j.n≤cap*j.n:=H8 _ gP;have jK:∀q,g≤q→q<g+cap*j.n→¬(lo≤q∧q<hi):=by
         intro q h1 h2;have:=zkk hz (λx' gG=>gU x' gG) (i:=q-g) (n:=cap*j.n) J;rw[show g+(q-g)=q from J]at this;unfold World.frozen? at this;dsimp only at this;rw[B]at this;simp at this;omega
        obtain⟨c1,c2⟩:=a2.ro (L:=⟨b,g,len*j.n,g+cap*j.n⟩) jI (l:=as) (λgY L hL=>by
         rw[CM.ext_same]at hL;cases hL;refine⟨by rw[a7],λe=>Aq,by show g+as.length≤g+cap*j.n;omega,vs,ty,lo,hi,B,gT,jK,?_⟩;intro q hq;rw[get_ofList,Hv J];obtain⟨a,v,d1,d2,d3⟩:=a8 q J;exact⟨a,by simpa using d1,a4 a (Ia d1),v,d2,d3.mono gY⟩)
        have hg:Sf Y (Y.push (.cells (Qz as 0 .e) as.length 0 true)):=⟨Ly _,λo ho=>Heap.get_push_ne _ _ ho⟩;refine⟨_,_,[.sl Y.next 0 0 len j.n none],(⟨ys,J⟩:{ l:List j.T // l.length≤maxLen }),CM.le_trans a1 c2,c1,a3.trans hg,.cons ?_ .nil,by simp[AV.one],?_,rfl⟩
        ·exact VR.sl (L:=⟨b,g,len*j.n,g+cap*j.n⟩) (i:=0) (CM.ext_same _ _ _ _) Aw Aw gP (λr e=>Aq) (λ_=>rfl)
        ·show ARs _ [LV.lst (ys.flatMap j.enc) ys.length j.n] _;rw[a6];refine .cons (.lst (I4 Y.next) (λr e=>Aq) ?_ ?_ (a5.mono hg.le)) .nil
         ·have:=a5.length;omega
         ·have hr:=Vn (H:=Y.push (.cells (Qz as 0 .e) as.length 0 true)) (i:=0) (n:=len*j.n) (Heap.get_push_same _ _) (z67 as) (Hw _) J;rw[J6,H7 J]at hr;exact hr
     ·rw[Hs U]at z;cases z
   ·rename_i fs hu;split at z
    ·cases z
    ·rename_i l E;cases z;obtain⟨xs,n,hn,hx,gH,gZ,jL⟩:=DataW.trod_struct hu h;cases hn;have gI:∀(fl:List Field) (X g:Nat) (l:ShL) (V:CM) (H:Heap),fs.toList.drop X=fl→ga P (Vh P d) (P.cellsOf t) fl g=some l→Rel W V H W→Got W V H (cs.drop g) l.n l.T l.enc:=by
      intro fl
      induction fl with
      |nil =>
       intro X g l V H hj E C;simp only[ga]at E;split at E
       ·rename_i he;cases E;refine⟨V,H,[],(():Unit),CM.le_refl V,C,.refl H,?_,N,.nil,rfl⟩;rw[he,←gH,List.drop_length];exact .nil
       ·cases E
      |cons fd fl jM =>
       intro X g l V H hj E C;simp only[ga]at E;split at E
       ·cases E
       ·rename_i s z;by_cases U:fd.offset=g∧P.cellsOf fd.type=s.n
        ·rw[Hv U]at E;split at E
         ·cases E
         ·rename_i r hr;cases E;have gK:X<fs.toList.length:=by
           rcases Kb X fs.toList.length with h|h
           ·exact h
           ·rw[List.drop_eq_nil_of_le h]at hj;cases hj
          have jO:fs[X]?=some fd:=by
           rw[Jb gK]at hj;injection hj with h1 h2
           rw[←h1];simp
          have K:=jL X fd jO;rw[U.1,U.2]at K;have gL:X<xs.length:=by rw[gZ];simpa using gK
          rw[Ht gL]at K;obtain⟨C1,Y,Z,y,a1,a2,a3,a4,a5,a6,a7⟩:=ih d fd.type s _ _ V H z K (λb' F gg=>hz b' F Fj) C;obtain⟨C2,H2,gz,ys,b1,b2,b3,b4,b5,b6,b7⟩:=jM (X+1) (g+s.n) r C1 Y (by rw[Jb gK]at hj;injection hj) hr a2;refine⟨C2,H2,Z++gz,(y,ys),CM.le_trans a1 b1,b2,a3.trans b3,?_,?_,(a6.mono b3.le).append b6,by rw[H4,a7,b7];rfl⟩
          ·have:=(a4.mono b1).append b4
           rwa [←List.drop_drop,Ls]at this
          ·intro g9 hz;rcases Ih.1 hz with h|h
           ·exact a5 g9 h
           ·exact b5 g9 h
        ·rw[Hs U]at E;cases E
     have:=gI fs.toList 0 0 l V H N E C;rw[J6]at this;exact this
   ·rename_i n e hu;split at z
    ·cases z
    ·rename_i j gD;by_cases U:P.cellsOf e=j.n∧P.cellsOf t=n*j.n
     case neg=>rw[Hs U]at z;cases z
     rw[Hv U]at z;cases z;obtain⟨xs,m,hm,hx,gH,gZ,gA⟩:=DataW.trod_array hu h;cases hm;have gI:∀(k X:Nat) (V:CM) (H:Heap),X+k=n→Rel W V H W→Got W V H (cs.drop (X*j.n)) (Vp k j).n (Vp k j).T (Vp k j).enc:=by
      intro k
      induction k with
      |zero =>
       intro X V H hj C;refine⟨V,H,[],(():Unit),CM.le_refl V,C,.refl H,?_,N,.nil,rfl⟩;rw[(J:X=n),←U.2,←gH,List.drop_length];exact .nil
      |succ k jP =>
       intro X V H hj C;have K:=gA X J;rw[U.1]at K;have gL:X<xs.length:=J
       rw[Ht gL]at K;obtain⟨C1,Y,Z,y,a1,a2,a3,a4,a5,a6,a7⟩:=ih d e j _ _ V H gD K (λb' F gg=>hz b' F Fj) C;obtain⟨C2,H2,gz,ys,b1,b2,b3,b4,b5,b6,b7⟩:=jP (X+1) C1 Y J a2;refine⟨C2,H2,Z++gz,(y,ys),CM.le_trans a1 b1,b2,a3.trans b3,?_,?_,(a6.mono b3.le).append b6,by rw[H4,a7,b7];rfl⟩
       ·have:=(a4.mono b1).append b4
        rwa [Ll,←List.drop_drop,Ls]at this
       ·intro g9 hz;rcases Ih.1 hz with h|h
        ·exact a5 g9 h
        ·exact b5 g9 h
     have:=gI n 0 V H J C;rw[Kh,J6]at this;exact this
   ·cases z
end imp
end
end
section
open Go.RowKit Go.ChangeShapes Go.WideShapes Go.ChangeAt
def Sh.arg:(s:Sh)→s.T→LV
 |.st l,x=>.agg (l.enc x)
 |.bool,x=>.bool x
 |.u,x=>.u x
 |.b,x=>.b x
 |.i,x=>.i x.1
 |.k kk,x=>.int kk x
 |.str,x=>.str x.1
 |.sl s,x=>.lst (x.1.flatMap s.enc) x.1.length s.n
def ShL.args:(l:ShL)→l.T→List LV
 |.nil,_=>[]
 |.cons s l,x=>s.arg x.1::l.args x.2
section law
variable {H : Type} {enc : TypeId × Value → H} {P : Program}
def zu4{W:World}{d F:Nat}:∀{O:List TypeId} {l:ShL} {z:List Value} {U:List (DataW H)} {Q:List MemPlace} {C:CM} {Hp:Heap},Vu P d O=some l→DataW.TrodAll enc P W 0 (λ_=>true) true O z U Q→W.noneFrozen Q →
  (∀(gC:Nat) (t:TypeId) (v:Value),O[gC]?=some t→z[gC]?=some v→Value.okWide P W .any F t v)→Rel W C Hp W→∃V X as,∃y:l.T,C.le V∧Rel W V X W∧Sf Hp X∧VRs V as z∧ARs (T3 X) (l.args y) as
 |[],l,z,U,Q,C,Hp,B,Y,_,_,Z=>by
  cases B;obtain⟨rfl,_,_⟩:=trodAll_nil Y;exact⟨C,Hp,[],(():Unit),CM.le_refl C,Z,.refl Hp,.nil,.nil⟩
 |t::O,l,z,U,Q,C,Hp,B,Y,hz,hv,Z=>by
  simp only[Vu]at B;split at B
  ·cases B
  ·rename_i s g;by_cases hc:P.cellsOf t=s.n
   ·rw[Hv hc]at B;split at B
    ·cases B
    ·rename_i r hr;cases B;obtain⟨v,vs,dd,gD,p,q,rfl,rfl,rfl,⟨G,hd⟩,E⟩:=trodAll_cons Y;obtain⟨C1,H1,I,y,a1,a2,a3,R,a5,T,a7⟩:=got_cells G d t s _ _ C Hp g hd (λb o hb=>hz b o (K5 _ hb)) Z;obtain⟨C2,H2,gg,ys,b1,b2,b3,b4,b5⟩:=zu4 (C:=C1) (Hp:=H1) hr E (λb o hb=>hz b o (Iv _ hb)) (λgC t' v' K h2=>hv (gC+1) t' v' Cw (by simpa using h2)) a2;have A:=hv 0 t v rfl rfl;have gz:∃a,VR C1 a v∧AR (T3 H1) (s.arg y) a:=by
      cases d with
      |zero=>cases g
      |succ d =>
       have j:∀{gE:LV},s.enc y=[gE]→s.arg y=gE→v.cells.toList=[v]→∃a,VR C1 a v∧AR (T3 H1) (s.arg y) a:=by
        intro gE e1 e2 e3;rw[e3]at R;rw[e1]at T;cases R with
        |cons K h2 =>
         cases T with
         |cons h3 h4=>exact⟨_,K,by rw[e2];exact h3⟩
       simp only[Vh]at g;split at g
       ·rename_i hu;cases g;obtain⟨b,rfl⟩:=okWide_bool hu A;exact j rfl rfl rfl
       ·rename_i k hu;obtain⟨n,rfl⟩:=okWide_int hu A;split at g<;>cases g<;>exact j rfl rfl rfl
       ·rename_i hu;cases g;obtain⟨b,rfl⟩:=okWide_string hu A;exact j rfl rfl rfl
       ·rename_i e hu;obtain⟨a,len,cap,rfl⟩:=okWide_slice hu A;split at g
        ·cases g
        ·rename_i L gA;by_cases D:P.cellsOf e=L.n∧0<L.n
         ·rw[Hv D]at g;cases g;exact j rfl rfl rfl
         ·rw[Hs D]at g;cases g
       ·rename_i fs hu;obtain⟨M,rfl,_⟩:=okWide_struct hu A;split at g
        ·cases g
        ·rename_i l hl;cases g;exact⟨.agg I,.agg R a5,.agg T⟩
       ·rename_i n e hu;obtain⟨M,rfl⟩:∃M,v=.agg M:=by
         simp only[Value.okWide,hu]at A;obtain⟨M,K,_⟩:=A;exact⟨M,K⟩
        split at g
        ·cases g
        ·rename_i L gA;by_cases D:P.cellsOf e=L.n∧P.cellsOf t=n*L.n
         ·rw[Hv D]at g;cases g;exact⟨.agg I,.agg R a5,.agg T⟩
         ·rw[Hs D]at g;cases g
       ·cases g
     obtain⟨a,o1,o2⟩:=gz;exact⟨C2,H2,a::gg,(y,ys),CM.le_trans a1 b1,b2,a3.trans b3,.cons (o1.mono b1) b4,.cons (o2.mono b3.le) b5⟩
   ·rw[Hs hc]at B;cases B
def qk{f d:Nat}{j:List TypeId}{l:ShL}(hm:P.follows .mixedOrders=true)(z:Vu P d j=some l)(h:∀y:l.T,Qn P (.fn f) (l.args y) [] λv _=>v=.bool true){W:World}{D:List (DataW H)}{C:List MemPlace}
  (E:DataW.TrodAll enc P W 0 (λ_=>true) true j vR.toList D C) (F:W.noneFrozen C) (hv:∀(Z:Nat) (t:TypeId) (v:Value),j[Z]?=some t→vR.toList[Z]?=some v→Value.okWide P W .any g t v) :
  Calls P f vR W λe A=>e=.returned (.bool true)∧Below W.heap.size W A:=by
 obtain⟨gg,G,as,y,_,I,_,K,B⟩:=zu4 z E F hv (Rel.start W);obtain⟨m,v1,H',L,c',v,G',q2,q3,q4,M,O⟩:=(h y).2 (T3 G) (.fn f) as (HSim.empty (λo ho=>ho)) rfl B;subst O;cases M;intro Q;obtain⟨C',A,v',R,h1,T,U,V,X,Y⟩:=zcu hm (fx P) m W _ _ W (.fn f) as _ _ _ I K L Q;cases U;exact⟨.returned (.bool true),A,R,⟨rfl,T.low⟩,V,X,Y⟩
def zp1(F:laidOutB P=true){W G:World}(I:Below W.heap.size W G){K:Nat→Bool}:∀{A:List TypeId} {C:List Value} {D:List (DataW H)} {B:List MemPlace},(∀t∈A,P.readableRec t=true∧t<P.types.size)→DataW.TrodAll enc P W 0 (λ_=>true) true A C D B →
  (∀x∈B,x.block<W.heap.size)→(∀x∈B,K x.block=true)→DataW.TrodAll enc P G 0 K true A C D B
 |[],[],[],_,_,h,_,_=>h
 |t::A,v::C,d::D,_,E,⟨p,q,L,M,e⟩,j,z=>by
  subst e;exact⟨p,q,WideElems.Trod_stays F (E t N).1 (E t N).2 L (λx g=>I.same (j x (K5 _ g))) (λx g=>z x (K5 _ g)),
   zp1 F I (λO Q=>E O (by simp[Q])) M (λx g=>j x (Iv _ g)) (λx g=>z x (Iv _ g)),rfl⟩
 |[],[],_::_,_,_,h,_,_=>h.elim
 |[],_::_,_,_,_,h,_,_=>h.elim
 |_::_,[],_,_,_,h,_,_=>h.elim
 |_::_,_::_,[],_,_,h,_,_=>h.elim
def cu{f:Func}{s:ChangeSpec}{C g D:Bool}{W:World}{args:Array Value}{I gs:List (DataW H)}{A:List MemPlace}(U:DataW.Whole enc P f.params.toList s.vars Q W args.toList I gs A)(j:s.vars=[])
  (E:∀F:List (DataW H),F.length=f.params.toList.length→s.fn H F={ results:=[.lit (.bool true)],args:=F }) (V:Below W.heap.size W K) (hl:laidOutB P=true) (hr:∀t∈f.params.toList,P.readableRec t=true∧t<P.types.size)
  (B:f.resultTypes=#[Z]) (z:P.underlying Z=some .bool):s.post enc P f Q C g D W args (.bool true) K:=by
 have L:=U;obtain⟨p,q,X,Y,rfl,gg,gz⟩:=U;rw[j]at Y;obtain⟨rfl,rfl⟩:=trodVars_none Y;have M:I.length=f.params.toList.length:=(trodAll_length X).2;have hs:=E I M;have G:s.fn H (I++[])={ results:=[.lit (.bool true)],args:=I }:=by rw[I9];exact hs
 have O:=L.lt;refine zv8 (pa:=p) (pv:=[]) L (λb sp hd=>?_) (λsp R=>?_) (λsp _=>?_) rfl V ?_
 ·rw[G,B];exact trodAll_cons_mk (shut_bool z _) trodAll_mk0
 ·rw[G];exact zp1 hl V hr X (λx T=>O x Bc) (λx T=>R x Bc)
 ·rw[G,j];rfl
 ·exact ok_one B rfl (okWide_bool_mk z _)
end law
end
section
def Nh(G:Mp)(v d:LV):Prop:=match v with
 |.tup l=>∃r,d=.tup r∧bors G l r
 |v=>bor G v d
def Ra(P:Program)(f:Nat)(z:List LV)(E:LV):Prop :=
 cz P (.fn f)∧E.dat=true∧∀(B:Nat→Prop) (C:Heap) (g:List AV),(∀o,B o→o<C.next)→ARs ⟨[],B,C⟩ z g →
  ∃(m:Nat) (F:AV) (j:Nat→Prop) (A:Heap),Rs P (OL P) m (.fn f) g C=.ok F A∧C.next≤A.next∧(∀o,B o→j o)∧(∀o,j o→o<A.next∧(B o∨C.next≤o))∧(∀o,o<C.next→A.get o=C.get o)∧AR ⟨[],j,A⟩ E F
section calls
variable {P : Program}
def uv{c:Cx}{G:Mp}(j:HSim c G)(v d:LV)(a:AV)(g:Nh G v d)(h:AR c v a):AR ⟨[],λo=>c.Fz o∨Oq c G o,c.H⟩ d a:=by
 unfold Nh at g;split at g
 ·obtain⟨r,rfl,g⟩:=g;cases h with
  |tup h=>exact .tup (bors_ok j _ _ _ g h)
 ·exact bor_ok j _ _ _ g h
def Ra.mk{f:Nat}{args:List LV}(hd:uU.dat=true)(h:Qn P (.fn f) args [] λv G=>Nh G v uU):Ra P f args uU:=by
 refine⟨h.1,hd,λFz H gg gA ha=>?_⟩;obtain⟨m,v1,H',q1,c1,v,G,rfl,q3,q4,q5,q6⟩:=h.2 ⟨[],Fz,H⟩ (.fn f) gg (.empty gA) rfl ha;have gz:∀o,¬Oq ⟨[],Fz,H⟩ [] o:=λo ⟨p,_,_,_,e,_⟩=>Bo
 refine⟨m,v1,_,c1.H,q1,q4.nx,λo ho=>.inl (q4.le.fz o ho).1,λo ho=>⟨ho.elim (q3.fz o) (q3.lt o),?_⟩,λo ho=>q4.frame o ho (gz o),uv q3 v uU v1 q6 q5⟩;rcases ho with ho|ho
 ·rcases q4.fznew o ho with h|h|h
  ·exact .inl h
  ·exact absurd h (gz o)
  ·exact .inr h
 ·rcases q4.new o ho with h|h
  ·exact absurd h (gz o)
  ·exact .inr h
def zor{c:Cx}{G:Mp}(B:HSim c G){Fz':Nat→Prop}(R:c.H.next≤F.next)(U:∀o,c.Fz o→Fz' o)(M:∀o,Fz' o→o<F.next∧(c.Fz o∨c.H.next≤o))(K:∀o,o<c.H.next→F.get o=c.H.get o) :
  HSim ⟨c.hd,Fz',F⟩ G∧Step c G ⟨c.hd,Fz',F⟩ G:=by
 have E:CxLe c ⟨c.hd,Fz',F⟩:=⟨λp k h e=>⟨k,h,e,Hw _,λ_=>rfl,λ_=>rfl⟩,λo ho=>⟨U o ho,K o (B.fz o ho)⟩⟩;have g:∀o,Oq ⟨c.hd,Fz',F⟩ G o→Oq c G o:=λo ⟨p,j,k,h,A,z,H,I⟩=>⟨p,j,k,h,A,z,H,I⟩
 refine⟨⟨B.len,λo ho=>(M o ho).1,λo ho=>Il (B.lt o (g o ho)) R,λo ho V=>?_,λp j k h A z=>?_,λp q j C k h X Y o A z H I O T Z e8=>B.excl p q j C k h X Y o A z H I O T Z e8⟩,?_⟩
 ·rcases (M o V).2 with h|h
  ·exact B.sep o (g o ho) h
  ·have:=B.lt o (g o ho);omega
 ·by_cases L:j.live=true
  ·exact (B.obj p j k h A z).mono E (λo ho=>K o (B.lt o ⟨p,j,k,h,A,L,z,ho⟩))
  ·cases j<;>first|exact absurd rfl L|trivial
 ·refine⟨E,R,λo ho _=>K o ho,λo ho=>.inl (g o ho),λo ho=>(M o ho).2.elim .inl (λh=>.inr (.inr h)),λp j C A z=>?_,λp j C k h o A z H I O T=>?_⟩
  ·rw[A]at z;cases z;exact Hw _
  ·rw[A]at z;cases z;have L:j.live=true:=by cases j<;>first|rfl|cases O
   exact⟨rfl,K o (B.lt o ⟨p,j,k,h,A,L,H,I⟩),rfl⟩
def Q5{f:Nat}{G:Mp}(F:Ra P f v7 O)(H:dats v7=true)(k:Y O G):Qn P (.fn f) v7 G Y:=by
 obtain⟨I,hd,z⟩:=F;refine⟨I,λc K g C A L=>?_⟩;cases K with
 |yield o=>exact A.elim
 |fn gg =>
  obtain rfl:f=gg:=A;obtain⟨m,E,j,B,M,R,T,U,V,X⟩:=z c.Fz c.H g C.fz (ARs.dat (c:=c) (c':=⟨[],c.Fz,c.H⟩) (λo ho=>⟨ho,rfl⟩) v7 g H L);obtain⟨Z,r2⟩:=zor C R T U V;exact⟨m,E,B,M,⟨c.hd,j,B⟩,O,G,rfl,Z,r2,AR.dat (c:=⟨[],j,B⟩) (c':=⟨c.hd,j,B⟩) (λo ho=>⟨ho,rfl⟩) O E hd X,k⟩
mutual
def LV.flat:LV→Bool
 |.bool _ |.u _ |.b _ |.i _ |.int _ _ |.str _ |.nilPtr |.nilSl |.nilMap |.nilFn |.nilIf=>true
 |.agg l=>flats l
 |.tup l=>flats l
 |_=>false
def flats:List LV→Bool
 |[]=>true
 |v::l=>v.flat&&flats l
end
mutual
def AR.flat{c c':Cx}(v:LV)(a:AV)(hd:v.flat=true)(h:AR c v a):AR c' v a:=by
 cases v with
 |agg l =>
  simp only[LV.flat]at hd;cases h with
  |agg h=>exact .agg (ARs.flat l _ hd h)
 |tup l =>
  simp only[LV.flat]at hd;cases h with
  |tup h=>exact .tup (ARs.flat l _ hd h)
 |_=>first|(simp only[LV.flat]at hd;cases hd;done)|(cases h;constructor)
termination_by SizeOf.sizeOf v
def ARs.flat{c c':Cx}(l:List LV)(r:List AV)(hd:flats l=true)(h:ARs c l r):ARs c' l r:=by
 cases l with
 |nil=>cases h;exact .nil
 |cons v l =>
  simp only[flats,Hq]at hd;cases h with
  |cons e es=>exact .cons (AR.flat v _ hd.1 e) (ARs.flat l _ hd.2 es)
termination_by SizeOf.sizeOf l
end
def sn{f:Nat}{g:List LV}{G:Mp}(H:Ra P f g O)(I:bors G v7 g)(hv:O.flat=true)(k:Y O G):Qn P (.fn f) v7 G Y:=by
 obtain⟨K,hd,z⟩:=H;refine⟨K,λc L j A B M=>?_⟩;cases L with
 |yield o=>exact B.elim
 |fn gg =>
  obtain rfl:f=gg:=B;obtain⟨m,C,R,E,T,F,q3,q4,U,V⟩:=z (λo=>c.Fz o∨Oq c G o) c.H j (λo ho=>ho.elim (A.fz o) (A.lt o)) (bors_ok A v7 g j I M);obtain⟨X,Z⟩:=zor A (Fz':=c.Fz) F (λ_ h=>h) (λo ho=>⟨Il (A.fz o ho) F,.inl ho⟩) U;exact⟨m,C,E,T,⟨c.hd,c.Fz,E⟩,O,G,rfl,X,Z,AR.flat O C hv V,k⟩
end calls
def Ng.lives{P:Program}{f:Nat}(ht:uk P f=true∧zez P f=false)(hl:zo2 P f=true)(hr:zbr P f):Ng P f [] (.bool true) []:=by
 refine⟨ht,rfl,λgz ob e=>Bo,λFz H j gg ha=>?_⟩;cases ha;refine⟨1,.bool true,[],H,?_,.empty gg,.bool true,Hw _,λ_ _=>rfl,λo ⟨p,_,_,_,e,_⟩=>Bo⟩;unfold Rs;dsimp only;rw[OL_yes hl hr]
section cuts
variable {P : Program} {f n : Nat} {ro : Option Nat} {ρ : Mq} {D : List Nat} {G : Mp} {Q : Pe}
def zvo{b c:LC}:W0 P f n ro (.seq b c) Q=W0 P f n ro b (W0 P f n ro c Q):=by
 funext x ρ D G
 cases x<;>rfl
def zeb{a b c:LC}:wp P f n ro (.seq a (.seq b c)) ρ D G Q=wp P f n ro (.seq (.seq a b) c) ρ D G Q:=by
 rw[wp_seq,wp_seq,wp_seq,zvo]
def zy2{a b:LC}(E:Mq→List Nat→Mp→Prop)(B:∀A:Mq→List Nat→Mp→Prop,(∀(g:Mq) (j:List Nat) (z:Mp),E g j z→A g j z)→wp P f n ro a ρ D G (we A Q))
  (C:∀(g:Mq) (j:List Nat) (z:Mp),E g j z→wp P f n ro b g j z Q):wp P f n ro (.seq a b) ρ D G Q:=by
 rw[wp_seq];exact B (λg j z=>wp P f n ro b g j z Q) C
end cuts
attribute [simp] Nh LV.flat flats
end

section
def py(b:Nat)(G:Mp)(v:LV)(esz n:Nat)(l:List LV):Prop :=
 (v=.nilSl∧n=0∧l=[])∨∃(p k:Nat) (g:List LV) (m st:Nat),b≤p∧G[p]?=some (.dyn g m esz k st)∧g.length=m*esz∧n≤m∧l=g.take (n*esz)∧((v=.dy p k∧n=m)∨v=.vw p k 0 n)
section stk
variable {b : Nat} {G G' : Mp} {v : LV} {esz n : Nat} {l x : List LV}
def py.length(h:py b G v esz n l):l.length=n*esz:=by
 rcases h with ⟨_,rfl,rfl⟩|⟨p,k,R,m,st,_,_,h2,h3,rfl,_⟩
 ·simp
 ·have:=H8 esz h3;rw[Jp];omega
def py.lenL(h:py b G v esz n l){K:Nat→Prop}(k:K n):lenL G v K:=by
 rcases h with ⟨rfl,rfl,_⟩|⟨p,gg,R,m,st,_,h1,_,_,_,⟨rfl,rfl⟩|rfl⟩
 ·exact k
 ·rw[lenL_dy,h1];exact⟨rfl,k⟩
 ·rw[lenL_vw,h1];exact⟨rfl,k⟩
def py.ix(h:py b G v esz n l){i:Int}(h0:0≤i)(hi:i<n){K:LV→Prop}
  (k:∀(p j:Nat) (R:List LV) (m st:Nat),b≤p→G[p]?=some (.dyn R m esz j st)→(∀gg,gg<n*esz→R[gg]?=l[gg]?)→n*esz≤R.length→K (.dptr p j (i.toNat*esz))):b9 G esz v i K:=by
 rcases h with ⟨rfl,rfl,rfl⟩|⟨p,j,R,m',st,h1,h2,h3,h4,rfl,⟨rfl,rfl⟩|rfl⟩
 ·omega
 ·rw[zyq,h2];exact⟨rfl,rfl,h0,hi,k _ _ _ _ _ h1 h2 (λgg hj=>by rw[Jc hj]) J⟩
 ·rw[zyf,h2];have:=H8 esz h4;refine⟨rfl,rfl,h0,hi,?_⟩;rw[Iq];exact k _ _ _ _ _ h1 h2 (λgg hj=>by rw[Jc hj]) J
def Rw(b:Nat)(G:Mp)(v:LV)(esz n:Nat)(l:List LV):Prop :=
 (v=.nilSl∧n=0∧l=[])∨∃(p k st:Nat),b≤p∧v=.dy p k∧G[p]?=some (.dyn l n esz k st)∧l.length=n*esz
def Rw.nil:Rw b G .nilSl esz 0 []:=.inl ⟨rfl,rfl,rfl⟩
def Rw.frame(h:Rw b G v esz n l)(hf:∀q,b≤q→G'[q]?=G[q]?):Rw b G' v esz n l:=by
 rcases h with h|⟨p,k,st,h1,h2,h3,h4⟩
 ·exact .inl h
 ·exact .inr ⟨p,k,st,h1,h2,by rw[hf p h1];exact h3,h4⟩
def Rw.set_lt(h:Rw b G v esz n l){q:Nat}{ob:LObj}(hq:q<b):Rw b (G.set q ob) v esz n l :=
 h.frame λr hr=>Ho J
def Rw.push_end(h:Rw b G v esz n l){ob:List LObj}:Rw b (G++ob) v esz n l:=by
 rcases h with h|⟨p,k,st,h1,h2,h3,h4⟩
 ·exact .inl h
 ·exact .inr ⟨p,k,st,h1,h2,by rw[Hx (Hm.1 h3).1];exact h3,h4⟩
def Rw.push(h:Rw b G v esz n l)(hz:0<esz)(hb:b≤G.length)(hn:n≤1000000000){m:Nat}(hx:x.length=m*esz){K:LV→Mp→Prop}
  (k:∀v' G',Rw b G' v' esz (n+m) (l++x)→(∀q,q<b→G'[q]?=G[q]?)→b≤G'.length→K v' G'):Ow G esz v m x K:=by
 rcases h with ⟨rfl,rfl,rfl⟩|⟨p,gg,st,h1,rfl,h2,h3⟩
 ·rw[appL_nil];refine k _ _ (.inr ⟨_,0,0,hb,rfl,?_,by simpa using hx⟩) (λq hq=>Hx J) Ab;rw[Iq];exact Ie
 ·have hp:p<G.length:=(Hm.1 h2).1;rw[appL_dy,h2];exact⟨rfl,⟨rfl,hz⟩,hn,k _ _ (.inr ⟨p,gg+1,st+1,h1,rfl,Hu hp,by rw[H4,h3,hx,Im]⟩) (λq hq=>Ho J) (by rw[Jv];exact hb)⟩
def Rw.cells(h:Rw b G v esz n l):v.cells=some [v]:=by
 rcases h with ⟨rfl,_⟩|⟨_,_,_,_,rfl,_⟩<;>rfl
def Rw.bor(h:Rw b G v esz n l)(hd:dats l=true):Go.Sv.bor G v (.lst l n esz):=by
 rcases h with ⟨rfl,rfl,rfl⟩|⟨p,k,st,_,rfl,h2,_⟩
 ·exact .inr ⟨_,rfl⟩
 ·exact⟨_,_,_,_,rfl,h2,hd⟩
def py.cells(h:py b G v esz n l):v.cells=some [v]:=by
 rcases h with ⟨rfl,_⟩|⟨_,_,_,_,_,_,_,_,_,_,⟨rfl,_⟩|rfl⟩<;>rfl
end stk
end
def HSim.freeze'{c:Cx}{G:Mp}(hs:HSim c G){p k st:Nat}{x:AV}{ob:LObj}(hG:G[p]?=some ob)(hl:ob.live=true)(gD:ob.st<st)(hp:c.hd[p]?=some (k,x)) :
  HSim ⟨c.hd,λq=>c.Fz q∨Nl x=some q,c.H⟩ (G.set p (.dead st))∧Step c G ⟨c.hd,λq=>c.Fz q∨Nl x=some q,c.H⟩ (G.set p (.dead st)):=by
 have gE:p<G.length:=(Hm.1 hG).1;have hle:CxLe c ⟨c.hd,λq=>c.Fz q∨Nl x=some q,c.H⟩:=⟨λp k h e=>⟨k,h,e,Hw _,λ_=>rfl,λ_=>rfl⟩,λq hq=>⟨.inl hq,rfl⟩⟩;have gA:∀q,Nl x=some q→Oq c G q:=λq hq=>⟨p,ob,k,x,hG,hl,hp,hq⟩
 have hinv:∀{q:Nat} {gg:LObj},(G.set p (.dead st))[q]?=some gg→(q=p∧gg=.dead st)∨(q≠p∧G[q]?=some gg):=by
  intro q gg e;by_cases hq:q=p
  ·subst hq;rw[Hu gE]at e;cases e;exact .inl ⟨rfl,rfl⟩
  ·rw[Ho (Ne.symm hq)]at e;exact .inr ⟨hq,e⟩
 have gz:∀q,Oq ⟨c.hd,λq=>c.Fz q∨Nl x=some q,c.H⟩ (G.set p (.dead st)) q→Oq c G q∧Nl x≠some q:=by
  rintro q ⟨p1,gg,k1,h1,e1,e2,e3,e4⟩;rcases hinv e1 with ⟨_,rfl⟩|⟨gF,e1⟩
  ·cases e2
  ·exact⟨⟨p1,gg,k1,h1,e1,e2,e3,e4⟩,λhq=>gF (hs.excl p1 p gg ob k1 h1 k x q e1 hG e2 hl e3 hp e4 hq)⟩
 refine⟨⟨Dg,λq hq=>hq.elim (hs.fz q) (λe=>hs.lt q (gA q e)),λq hq=>hs.lt q (gz q hq).1,λq hq hf=>hf.elim (hs.sep q (gz q hq).1) (gz q hq).2,λq gg k1 h1 e1 e2=>?_,?_⟩,⟨hle,Hw _,λ_ _ _=>rfl,λq hq=>.inl (gz q hq).1,λq hq=>hq.elim .inl (λe=>.inr (.inl (gA q e))),λq gg gC e1 e2=>?_,λq gg gC k1 h1 o1 e1 e2 e3 e4 e5 e6=>?_⟩⟩
 ·rcases hinv e1 with ⟨_,rfl⟩|⟨_,e1⟩
  ·trivial
  ·by_cases gG:gg.live=true
   ·exact (hs.obj q gg k1 h1 e1 e2).mono hle (λ_ _=>rfl)
   ·cases gg<;>first|exact absurd rfl gG|trivial
 ·intro q r gg gC k1 h1 k2 h2 o1 e1 e2 e3 e4 e5 e6 e7 e8;rcases hinv e1 with ⟨_,rfl⟩|⟨_,e1⟩
  ·cases e3
  ·rcases hinv e2 with ⟨_,rfl⟩|⟨_,e2⟩
   ·cases e4
   ·exact hs.excl q r gg gC k1 h1 k2 h2 o1 e1 e2 e3 e4 e5 e6 e7 e8
 ·rcases hinv e2 with ⟨rfl,rfl⟩|⟨_,e2⟩
  ·rw[hG]at e1;cases e1;exact Ma gD
  ·rw[e1]at e2;cases e2;exact Hw _
 ·rcases hinv e2 with ⟨rfl,rfl⟩|⟨_,e2⟩
  ·rw[hG]at e1;cases e1;have:ob.st=st:=e6;omega
  ·rw[e1]at e2;cases e2;exact⟨rfl,rfl,rfl⟩
def ARs.parts{c:Cx}:∀{a b:List LV} {v:LV} {r:List AV},ARs c (a++v::b) r→∃ra x rb,r=ra++x::rb∧ARs c a ra∧AR c v x∧ARs c b rb
 |[],b,v,r,h=>by
  cases h with
  |cons e es=>exact⟨[],_,_,rfl,.nil,e,es⟩
 |w::a,b,v,r,h=>by
  cases h with
  |cons e es =>
   obtain⟨ra,x,rb,rfl,h1,h2,h3⟩:=ARs.parts (a:=a) es;exact⟨_::ra,x,rb,rfl,.cons e h1,h2,h3⟩
def ARs.join{c:Cx}:∀{a b:List LV} {v:LV} {ra rb:List AV} {x:AV},ARs c a ra→AR c v x→ARs c b rb→ARs c (a++v::b) (ra++x::rb)
 |[],_,_,_,_,_,h1,h2,h3=>by cases h1;exact .cons h2 h3
 |_::a,_,_,_,_,_,h1,h2,h3=>by
  cases h1 with
  |cons e es=>exact .cons e (ARs.join es h2 h3)
def ztq{P:Program}{t:LTgt}{a b:List LV}{p k len st:Nat}{l:List LV}(L:G[p]?=some (.dyn l len g k st))(h:Qn P t (a++.lst l len g::b) (G.set p (.dead (st+1))) Y) :
  Qn P t (a++.dy p k::b) G Y:=by
 refine⟨h.1,λc B C D E V=>?_⟩;obtain⟨ra,x,rb,rfl,X,Z,h3⟩:=V.parts;cases Z with
 | @dy _ _ k' M _ e hk F gg =>
  obtain⟨r0,H,j⟩:=D.obj p _ _ _ L e;have I:=F J;obtain⟨O,A⟩:=D.freeze' (st:=st+1) L rfl (I4 _) e;have hx:AR ⟨c.hd,λq=>c.Fz q∨Nl M=some q,c.H⟩ (.lst l len g) x:=by
   rw[I];rcases j with ⟨j,K⟩|⟨o,v,Q,t,R,l',j,K,r4,r5,T,r7,r8⟩
   ·subst K;have hl:l=[]:=Ic D4;subst hl;rw[j];exact .lstNil
   ·have gz:l'.length=len*g:=by rw[←T.length];exact H
    have U:=Vn (i:=0) (n:=len*g) K r5 r4 J;rw[J6,H7 J]at U;rw[j];exact .lst (.inr rfl) (λr e=>(r7 r e).2) H U (T.mono (j ▸ A.le))
  have z:TgtR ⟨c.hd,λq=>c.Fz q∨Nl M=some q,c.H⟩ t B:=by
   cases t<;>cases B<;>exact E
  obtain⟨m,v1,H',q1,c1,v,G1,q2,q3,q4,q5,q6⟩:=h.2 _ B _ O z (.join (X.mono A.le) hx (h3.mono A.le));exact⟨m,v1,H',q1,c1,v,G1,q2,q3,A.trans D O q4,q5,q6⟩
section
def HSim.sub{c:Cx}{G:Mp}(hs:HSim c G){p len esz ver st:Nat}{l l':List LV}(hG:G[p]?=some (.dyn l len esz ver st))(hl:∀r,ARs c l r→ARs c l' r) :
  HSim c (G.set p (.dyn l' len esz ver (st+1)))∧Step c G c (G.set p (.dyn l' len esz ver (st+1))):=by
 have gE:p<G.length:=(Hm.1 hG).1;have hle:CxLe c c:=⟨λp k h e=>⟨k,h,e,Hw _,λ_=>rfl,λ_=>rfl⟩,λq hq=>⟨hq,rfl⟩⟩;have hinv:∀{q:Nat} {gg:LObj},(G.set p (.dyn l' len esz ver (st+1)))[q]?=some gg→(q=p∧gg=.dyn l' len esz ver (st+1))∨(q≠p∧G[q]?=some gg):=by
  intro q gg e;by_cases hq:q=p
  ·subst hq;rw[Hu gE]at e;cases e;exact .inl ⟨rfl,rfl⟩
  ·rw[Ho (Ne.symm hq)]at e;exact .inr ⟨hq,e⟩
 have gz:∀{q:Nat} {gg:LObj},(G.set p (.dyn l' len esz ver (st+1)))[q]?=some gg→gg.live=true→∃gA,G[q]?=some gA∧gA.live=true:=by
  intro q gg e gF;rcases hinv e with ⟨rfl,rfl⟩|⟨_,e⟩
  ·exact⟨_,hG,rfl⟩
  ·exact⟨_,e,gF⟩
 have gC:∀q,Oq c (G.set p (.dyn l' len esz ver (st+1))) q→Oq c G q:=by
  rintro q ⟨p1,gg,k1,h1,e1,e2,e3,e4⟩;obtain⟨gA,f1,f2⟩:=gz e1 e2;exact⟨p1,gA,k1,h1,f1,f2,e3,e4⟩
 refine⟨⟨Dg,hs.fz,λq hq=>hs.lt q (gC q hq),λq hq=>hs.sep q (gC q hq),λq gg k1 h1 e1 e2=>?_,?_⟩,⟨hle,Hw _,λ_ _ _=>rfl,λq hq=>.inl (gC q hq),λq hq=>.inl hq,λq gg gA e1 e2=>?_,λq gg gA k1 h1 o1 e1 e2 e3 e4 e5 e6=>?_⟩⟩
 ·rcases hinv e1 with ⟨rfl,rfl⟩|⟨_,e1⟩
  ·obtain⟨a1,a2,a3⟩:=hs.obj q _ k1 h1 hG e2;rcases a3 with ⟨b1,b2⟩|⟨o,v,room,t,gD,lr,b1,b2,b3,b4,b5,b6,b7⟩
   ·have gG:l=[]:=Ic (by rw[a2,b2];simp);subst gG;have h9:=hl [] .nil;cases h9;exact⟨a1,a2,.inl ⟨b1,b2⟩⟩
   ·have h9:=hl _ b5;exact⟨a1,by rw[h9.length,←b5.length];exact a2,.inr ⟨o,v,room,t,gD,lr,b1,b2,b3,b4,h9,b6,b7⟩⟩
  ·exact hs.obj q gg k1 h1 e1 e2
 ·intro q r gg gA k1 h1 k2 h2 o1 e1 e2 e3 e4 e5 e6 e7 e8;obtain⟨gH,f1,f2⟩:=gz e1 e3;obtain⟨gI,f3,f4⟩:=gz e2 e4;exact hs.excl q r gH gI k1 h1 k2 h2 o1 f1 f3 f2 f4 e5 e6 e7 e8
 ·rcases hinv e2 with ⟨rfl,rfl⟩|⟨_,e2⟩
  ·rw[hG]at e1;cases e1;exact Ly _
  ·rw[e1]at e2;cases e2;exact Hw _
 ·rcases hinv e2 with ⟨rfl,rfl⟩|⟨_,e2⟩
  ·rw[hG]at e1;cases e1;have:st=st+1:=e6;omega
  ·rw[e1]at e2;cases e2;exact⟨rfl,rfl,rfl⟩
section sub
variable {P : Program} {G : Mp} {p len esz ver st : Nat} {l l' : List LV}
def zlf{t:LTgt}{args':List LV}(h:∀c r,ARs c D r→ARs c args' r)(k:Qn P t args' G Y):Qn P t D G Y :=
 ⟨k.1,λc j g z A B=>k.2 c j g z A (h c _ B)⟩
end sub
def qh{c:Cx}{a:AV}(h:AR c .nilSl a):AR c (.lst [] 0 1) a:=by cases h;exact .lstNil
end

def HSim.froze{c:Cx}{G:Mp}(hs:HSim c G){p k len esz st:Nat}{l:List LV}(hg:G[p]?=some (.dyn l len esz k st)) :
  ∃c',HSim c' (G.set p (.dead (st+1)))∧Step c G c' (G.set p (.dead (st+1)))∧CxLe c c'∧c'.hd=c.hd∧c'.H=c.H∧(∀x,AR c (.dy p k) x→AR c' (.lst l len esz) x)∧∀x,AR c' (.dy p k) x→AR c' (.lst l len esz) x:=by
 have hp:p<c.hd.length:=by rw[hs.len];exact (Hm.1 hg).1
 obtain⟨⟨k1,hh⟩,e⟩:∃y,c.hd[p]?=some y:=⟨_,Ht hp⟩;obtain⟨r0,r1,r2⟩:=hs.obj p _ _ _ hg e;obtain⟨u1,u2⟩:=hs.freeze' (st:=st+1) hg rfl (I4 _) e;have key:AR ⟨c.hd,λq=>c.Fz q∨Nl hh=some q,c.H⟩ (.lst l len esz) hh:=by
  rcases r2 with ⟨r2,r3⟩|⟨o,v,room,t,gA,l',r2,r3,r4,r5,r6,r7,r8⟩
  ·subst r3;have hl:l=[]:=Ic Cl;subst hl;rw[r2];exact .lstNil
  ·have gC:l'.length=len*esz:=Ce
   have hr:=Vn (i:=0) (n:=len*esz) r3 r5 r4 J;rw[J6,H7 J]at hr;rw[r2];exact .lst (.inr rfl) (λr e=>(r7 r e).2) r1 hr (r6.mono (r2 ▸ u2.le))
 refine⟨_,u1,u2,u2.le,rfl,rfl,λx hx=>?_,λx hx=>?_⟩
 ·cases hx with
  | @dy _ _ k' h2 _ e2 hk gg gz =>
   rw[e]at e2;cases e2;rw[gg r0.symm];exact key
 ·cases hx with
  | @dy _ _ k' h2 _ e2 hk gg gz =>
   have e2:c.hd[p]?=some (k',h2):=e2;rw[e]at e2;cases e2;rw[gg r0.symm];exact key
def ARs.put{c:Cx}{v w:LV}(hle:CxLe c vC)(h:∀x,AR c v x→AR vC w x){a b:List LV}{r:List AV}(ha:ARs c (a++v::b) r):ARs vC (a++w::b) r:=by
 obtain⟨ra,x,rb,rfl,h1,h2,h3⟩:=ha.parts;exact .join (h1.mono hle) (h x h2) (h3.mono hle)
section
section top
variable {P : Program}
end top
end
section
def zrx{l:List LV}(h:∀v∈l,v.dat=true):dats l=true:=by
 induction l with
 |nil=>rfl
 |cons v l g=>rw[dats,h v (Ir ..),g λw hw=>h w (Ij _ hw)];rfl
def zgs{l:List LV}(h:dats l=true):∀v∈l,v.dat=true:=by
 induction l with
 |nil=>intro v hv;cases hv
 |cons w l g =>
  rw[dats,Hq]at h;intro v hv;rcases H5.1 hv with rfl|hv
  ·exact h.1
  ·exact g h.2 v hv
def zfb{l:List LV}(n:Nat)(h:dats l=true):dats (l.take n)=true:=zrx λv hv=>zgs h v (L5 hv)
def zvi{l:List LV}(n:Nat)(h:dats l=true):dats (l.drop n)=true:=zrx λv hv=>zgs h v (List.mem_of_mem_drop hv)
def n8{a b:List LV}(h:dats a=true)(k:dats b=true):dats (a++b)=true:=zrx λv hv=>(Ih.1 hv).elim (zgs h v) (zgs k v)
def zt7{l r:List LV}{i:Nat}(h:dats l=true)(k:dats r=true):dats (Ns l i r)=true:=by
 unfold Ns;exact n8 (n8 (zfb _ h) k) (zvi _ h)
def M6{G x:Mp}{i:Nat}(h:i<G.length):(G++x)[i]?=G[i]?:=Hx h
def N9(b:Nat)(G:Mp)(v:LV)(esz n:Nat)(l:List LV):Prop :=
 (v=.nilSl∧n=0∧l=[])∨∃(p k:Nat) (g:List LV) (m st:Nat),b≤p∧G[p]?=some (.dyn g m esz k st)∧g.length=m*esz∧n≤m∧l=g.take (n*esz)∧dats g=true∧((v=.dy p k∧n=m)∨v=.vw p k 0 n)
section std
variable {b : Nat} {G G' : Mp} {v : LV} {esz n : Nat} {l x : List LV}
def N9.nil:N9 b G .nilSl esz 0 []:=.inl ⟨rfl,rfl,rfl⟩
def N9.stk(h:N9 b G v esz n l):py b G v esz n l:=by
 rcases h with h|⟨p,k,R,m,st,h1,h2,h3,h4,h5,_,h6⟩
 ·exact .inl h
 ·exact .inr ⟨p,k,R,m,st,h1,h2,h3,h4,h5,h6⟩
def N9.dy{p k st:Nat}(hb:b≤p)(hp:G[p]?=some (.dyn l n esz k st))(hl:l.length=n*esz)(hd:dats l=true):N9 b G (.dy p k) esz n l :=
 .inr ⟨p,k,l,n,st,hb,hp,hl,Hw _,by rw[H7 J],hd,.inl ⟨rfl,rfl⟩⟩
def N9.frame(h:N9 b G v esz n l)(hf:∀q,b≤q→q<G.length→G'[q]?=G[q]?):N9 b G' v esz n l:=by
 rcases h with h|⟨p,k,R,m,st,h1,h2,h3⟩
 ·exact .inl h
 ·exact .inr ⟨p,k,R,m,st,h1,by rw[hf p h1 (Hm.1 h2).1];exact h2,h3⟩
def N9.set_lt(h:N9 b G v esz n l){q:Nat}{ob:LObj}(hq:q<b):N9 b (G.set q ob) v esz n l :=
 h.frame λr hr _=>Ho J
def N9.push_end(h:N9 b G v esz n l){ob:List LObj}:N9 b (G++ob) v esz n l :=
 h.frame λ_ _ hr=>Hx hr
def N9.push(h:N9 b G v esz n l)(hz:0<esz)(hb:b≤G.length)(hn:n≤1000000000)(hx:x.length=esz)(gg:dats x=true){K:LV→Mp→Prop}
  (k:∀(v':LV) (G':Mp),N9 b G' v' esz (n+1) (l++x)→(∀q,q<b→G'[q]?=G[q]?)→G.length≤G'.length→(∀(q:Nat) (ob:LObj),(∀R m k st,ob≠LObj.dyn R m esz k st)→G[q]?=some ob→G'[q]?=some ob)→K v' G'):Ow G esz v 1 x K:=by
 have gA:=h.stk.length;have fresh:∀l',l'=l++x→dats l'=true→K (.dy G.length 0) (G++[.dyn l' (n+1) esz 0 0]):=by
  rintro l' rfl hd;refine k _ _ (.dy hb (st:=0) Ie (by rw[H4,gA,hx,Im];omega) hd) (λq hq=>Hx J) N (λq ob _ e=>Di)
 rcases h with ⟨rfl,rfl,rfl⟩|⟨p,gC,R,m,st,h0,h1,h2,h3,rfl,hd,⟨rfl,rfl⟩|rfl⟩
 ·rw[appL_nil];exact fresh _ rfl gg
 ·have hp:p<G.length:=(Hm.1 h1).1;rw[H7 J]at k;rw[appL_dy,h1];refine⟨rfl,⟨rfl,hz⟩,hn,k _ _ (.dy h0 (Hu hp) Cg (n8 hd gg)) (λq hq=>Ho J) N (λq ob ho e=>?_)⟩;rw[Ho (λq'=>Bl)];exact e
 ·have hp:p<G.length:=(Hm.1 h1).1;have hm:=H8 esz h3;have ha:(n+1)*esz=n*esz+esz:=by rw[Im];omega
  rw[appL_vw,h1];refine⟨rfl,⟨rfl,rfl,J⟩,hn,?_⟩;by_cases hf:(n+1)*esz≤R.length
  ·rw[Hv hf];have gz:n+1≤m:=by
    rw[h2]at hf;exact Mc hf hz
   refine⟨k _ _ (.inr ⟨p,gC,_,m,_,h0,Hu hp,?_,gz,?_,zt7 hd gg,.inr rfl⟩) (λq hq=>Ho J) N (λq ob ho e=>?_),fresh _ rfl (n8 (zfb _ hd) gg)⟩
   ·unfold Ns;simp;omega
   ·unfold Ns;have e1:(R.take (n*esz)++x).length=(n+1)*esz:=by rw[H4,gA,hx,ha]
    rw[Kf e1]
   ·rw[Ho (λq'=>Bl)];exact e
  ·rw[Hs hf];have gz:n=m:=by
    rw[h2]at hf;have:¬n+1≤m:=λq=>hf (H8 _ q)
    omega
   subst gz;have ht:R.take (n*esz)=R:=H7 J;rw[ht]at k fresh;refine⟨rfl,hz,k _ _ (.dy h0 (Hu hp) Cg (n8 hd gg)) (λq hq=>Ho J) N (λq ob ho e=>?_),fresh _ rfl (n8 hd gg)⟩;rw[Ho (λq'=>Bl)];exact e
def N9.cut(h:N9 b G v esz n l){m:Nat}(hm:m≤n){lo:(Nat→Prop)→Prop}{hi:Nat→(Nat→Prop)→Prop}(gg:∀K':Nat→Prop,K' 0→lo K')(gz:∀(d:Nat) (K':Nat→Prop),K' m→hi d K'){K:LV→Prop}
  (k:∀v',N9 b G v' esz m (l.take (m*esz))→K v'):mi G esz v lo hi K:=by
 rcases h with ⟨rfl,rfl,rfl⟩|⟨p,gA,R,m',st,h0,h1,h2,h3,rfl,hd,⟨rfl,rfl⟩|rfl⟩
 ·have:m=0:=J
  subst this;rw[slL_nil];exact gg _ (gz _ _ ⟨rfl,rfl,k _ (.inl ⟨rfl,rfl,N⟩)⟩)
 ·rw[slL_dy,h1];refine⟨rfl,rfl,gg _ (gz _ _ ⟨J,hm,k _ (.inr ⟨p,gA,R,n,st,h0,h1,h2,hm,?_,hd,.inr rfl⟩)⟩)⟩;rw[Me,Ju (H8 _ hm)]
 ·rw[slL_vw,h1];refine⟨rfl,rfl,gg _ (gz _ _ ⟨J,hm,k _ (.inr ⟨p,gA,R,m',st,h0,h1,h2,J,?_,hd,.inr rfl⟩)⟩)⟩;rw[Me,Ju (H8 _ hm)]
def N9.bor(h:N9 b G v esz n l):Go.Sv.bor G v (.lst l n esz):=by
 rcases h with ⟨rfl,rfl,rfl⟩|⟨p,k,R,m,st,h1,h2,h3,h4,rfl,hd,⟨rfl,rfl⟩|rfl⟩
 ·exact .inr ⟨_,rfl⟩
 ·exact⟨R,_,_,_,by rw[H7 J],h2,hd⟩
 ·have:=H8 esz h4;exact⟨R,_,_,_,by rw[Kh,J6],h2,J,hd⟩
def N9.lenL(h:N9 b G v esz n l){K:Nat→Prop}(k:K n):Go.Sv.lenL G v K:=h.stk.lenL k
def N9.cells(h:N9 b G v esz n l):v.cells=some [v]:=h.stk.cells
def N9.at1(h:N9 b G v 1 n l){i:Int}(h0:0≤i)(hi:i<n){K:LV→Prop}(k:∀a,(∀K':LV→Prop,Oz l i.toNat K'→Xa G a K')→K a):b9 G 1 v i K:=by
 refine h.stk.ix h0 hi λp gg R m st h1 h2 h3 h4=>k _ λK' hk=>?_
 rw[read1_dptr,h2];obtain⟨w,hw,hk⟩:=hk;refine⟨rfl,w,?_,hk⟩;rw[K2]at h3 ⊢;rw[h3 _ J];exact hw
def Yw:LV→Option Nat
 |.dy p _=>some p
 |.vw p _ _ _=>some p
 |_=>none
def N9.frame2(h:N9 b G v esz n l)(hf:∀q,Yw v=some q→G'[q]?=G[q]?):N9 b G' v esz n l:=by
 rcases h with h|⟨p,k,R,m,st,h1,h2,h3,h4,h5,h6,h7⟩
 ·exact .inl h
 ·refine .inr ⟨p,k,R,m,st,h1,?_,h3,h4,h5,h6,h7⟩;rw[hf p (by rcases h7 with ⟨rfl,_⟩|rfl<;>rfl)];exact h2
def N9.row(h:N9 b G v esz n l){q:Nat}(hq:Yw v=some q):b≤q∧q<G.length∧∃R m k st,G[q]?=some (.dyn R m esz k st):=by
 rcases h with ⟨rfl,_⟩|⟨p,k,R,m,st,h1,h2,h3,h4,h5,h6,⟨rfl,_⟩|rfl⟩
 ·cases hq
 ·cases hq;exact⟨h1,(Hm.1 h2).1,_,_,_,_,h2⟩
 ·cases hq;exact⟨h1,(Hm.1 h2).1,_,_,_,_,h2⟩
def N9.cut2(h:N9 b G v esz n l){m:Nat}(hm:m≤n){lo:(Nat→Prop)→Prop}{hi:Nat→(Nat→Prop)→Prop}(gg:∀K':Nat→Prop,K' 0→lo K')(gz:∀(d:Nat) (K':Nat→Prop),K' m→hi d K'){K:LV→Prop}
  (k:∀v',N9 b G v' esz m (l.take (m*esz))→Yw v'=Yw v→K v'):mi G esz v lo hi K:=by
 rcases h with ⟨rfl,rfl,rfl⟩|⟨p,gA,R,m',st,h0,h1,h2,h3,rfl,hd,⟨rfl,rfl⟩|rfl⟩
 ·have:m=0:=J
  subst this;rw[slL_nil];exact gg _ (gz _ _ ⟨rfl,rfl,k _ (.inl ⟨rfl,rfl,N⟩) rfl⟩)
 ·rw[slL_dy,h1];refine⟨rfl,rfl,gg _ (gz _ _ ⟨J,hm,k _ (.inr ⟨p,gA,R,n,st,h0,h1,h2,hm,?_,hd,.inr rfl⟩) rfl⟩)⟩;rw[Me,Ju (H8 _ hm)]
 ·rw[slL_vw,h1];refine⟨rfl,rfl,gg _ (gz _ _ ⟨J,hm,k _ (.inr ⟨p,gA,R,m',st,h0,h1,h2,J,?_,hd,.inr rfl⟩) rfl⟩)⟩;rw[Me,Ju (H8 _ hm)]
def N9.push2(h:N9 b G v esz n l)(hz:0<esz)(hb:b≤G.length)(hn:n≤1000000000)(hx:x.length=esz)(gg:dats x=true){K:LV→Mp→Prop}
  (k:∀(v':LV) (G':Mp),N9 b G' v' esz (n+1) (l++x)→(∀q,q<G.length→Yw v≠some q→G'[q]?=G[q]?)→G.length≤G'.length→(Yw v'=Yw v∨Yw v'=some G.length)→K v' G'):Ow G esz v 1 x K:=by
 have gA:=h.stk.length;have fresh:∀l',l'=l++x→dats l'=true→K (.dy G.length 0) (G++[.dyn l' (n+1) esz 0 0]):=by
  rintro l' rfl hd;refine k _ _ (.dy hb (st:=0) Ie (by rw[H4,gA,hx,Im];omega) hd) (λq hq _=>Hx hq) N (.inr rfl)
 rcases h with ⟨rfl,rfl,rfl⟩|⟨p,gC,R,m,st,h0,h1,h2,h3,rfl,hd,⟨rfl,rfl⟩|rfl⟩
 ·rw[appL_nil];exact fresh _ rfl gg
 ·have hp:p<G.length:=(Hm.1 h1).1;rw[H7 J]at k;rw[appL_dy,h1];refine⟨rfl,⟨rfl,hz⟩,hn,k _ _ (.dy h0 (Hu hp) Cg (n8 hd gg)) (λq _ hq=>Ho (λe=>hq (by rw[←e];rfl))) N (.inl rfl)⟩
 ·have hp:p<G.length:=(Hm.1 h1).1;have hm:=H8 esz h3;have ha:(n+1)*esz=n*esz+esz:=by rw[Im];omega
  rw[appL_vw,h1];refine⟨rfl,⟨rfl,rfl,J⟩,hn,?_⟩;by_cases hf:(n+1)*esz≤R.length
  ·rw[Hv hf];have gz:n+1≤m:=by
    rw[h2]at hf;exact Mc hf hz
   refine⟨k _ _ (.inr ⟨p,gC,_,m,_,h0,Hu hp,?_,gz,?_,zt7 hd gg,.inr rfl⟩) (λq _ hq=>Ho (λe=>hq (by rw[←e];rfl))) N (.inl rfl),fresh _ rfl (n8 (zfb _ hd) gg)⟩
   ·unfold Ns;simp;omega
   ·unfold Ns;have e1:(R.take (n*esz)++x).length=(n+1)*esz:=by rw[H4,gA,hx,ha]
    rw[Kf e1]
  ·rw[Hs hf];have gz:n=m:=by
    rw[h2]at hf;have:¬n+1≤m:=λq=>hf (H8 _ q)
    omega
   subst gz;have ht:R.take (n*esz)=R:=H7 J;rw[ht]at k fresh;refine⟨rfl,hz,k _ _ (.dy h0 (Hu hp) Cg (n8 hd gg)) (λq _ hq=>Ho (λe=>hq (by rw[←e];rfl))) N (.inl rfl),fresh _ rfl (n8 hd gg)⟩
end std
end
section
section deep
variable {P : Program}
def Ra.mkS{f:Nat}{args:List LV}(hd:uU.dat=true)(h:Qn P (.fn f) args [] λv G=>∀(c:Cx) (a:AV),HSim c G→AR c v a→AR ⟨[],λo=>c.Fz o∨Oq c G o,c.H⟩ uU a):Ra P f args uU:=by
 refine⟨h.1,hd,λFz H gg gA ha=>?_⟩;obtain⟨m,v1,H',q1,c1,v,G,rfl,q3,q4,q5,q6⟩:=h.2 ⟨[],Fz,H⟩ (.fn f) gg (.empty gA) rfl ha;have gz:∀o,¬Oq ⟨[],Fz,H⟩ [] o:=λo ⟨p,_,_,_,e,_⟩=>Bo
 refine⟨m,v1,_,c1.H,q1,q4.nx,λo ho=>.inl (q4.le.fz o ho).1,λo ho=>⟨ho.elim (q3.fz o) (q3.lt o),?_⟩,λo ho=>q4.frame o ho (gz o),q6 c1 v1 q3 q5⟩;rcases ho with ho|ho
 ·rcases q4.fznew o ho with h|h|h
  ·exact .inl h
  ·exact absurd h (gz o)
  ·exact .inr h
 ·rcases q4.new o ho with h|h
  ·exact absurd h (gz o)
  ·exact .inr h
def row_ok{c:Cx}(E:HSim c G){p k len st:Nat}{l r:List LV}{a:AV}(F:G[p]?=some (.dyn l len g k st))(B:bors G l r)(h:AR c (.dy p k) a):AR ⟨[],λo=>c.Fz o∨Oq c G o,c.H⟩ (.lst r len g) a:=by
 cases h with
 | @dy _ _ X Y _ e Z Q _ =>
  obtain⟨r0,H,z⟩:=E.obj p _ _ _ F e;have A:=Q J;rcases z with ⟨z,C⟩|⟨o,v,I,t,K,L,z,C,R,T,M,U,r8⟩
  ·subst C;have V:l=[]:=Ic D4;subst V;simp only[bors]at B;subst B;rw[A,z];exact .lstNil
  ·have D:L.length=len*g:=by rw[←M.length];exact H
   have O:=Vn (i:=0) (n:=len*g) C T R J;rw[J6,H7 J]at O;rw[A,z];have j:=bors_ok E l r L B M;refine .lst (.inr ⟨p,_,_,_,F,rfl,e,by rw[z];rfl⟩) (λr e=>(U r e).2) (by rw[j.length,D]) O j
def o9{c:Cx}(z:HSim c G){p k len st:Nat}{l r:List LV}{v d:LV}{x:LV}{a:AV}(A:G[p]?=some (.dyn l len g k st))(B:bors G l r)(hv:bor G v d)(C:bor G x x)(h:AR c (.tup [.dy p k,v,x]) a):AR ⟨[],λo=>c.Fz o∨Oq c G o,c.H⟩ (.tup [.lst r len g,d,x]) a:=by
 cases h with
 |tup h=>cases h with
  |cons e j=>cases j with
   |cons D j=>cases j with
    |cons E j =>
     cases j;exact .tup (.cons (row_ok z A B e) (.cons (bor_ok z v d _ hv D) (.cons (bor_ok z x x _ C E) .nil)))
end deep
end
section
def Pl(b:Nat)(G:Mp)(v:LV)(esz n:Nat)(l:List LV):Prop :=
 dats l=true∧l.length=n*esz∧((v=.nilSl∧n=0∧l=[])∨∃(p k st:Nat),b≤p∧v=.dy p k∧G[p]?=some (.dyn l n esz k st))
section dys
variable {b : Nat} {G G' : Mp} {v : LV} {esz n : Nat} {l x : List LV}
def Pl.nil:Pl b G .nilSl esz 0 []:=⟨rfl,N,.inl ⟨rfl,rfl,rfl⟩⟩
def Pl.frame(h:Pl b G v esz n l)(hf:∀q,b≤q→q<G.length→G'[q]?=G[q]?):Pl b G' v esz n l:=by
 obtain⟨h1,h2,h|⟨p,k,st,a,e,c⟩⟩:=h
 ·exact⟨h1,h2,.inl h⟩
 ·exact⟨h1,h2,.inr ⟨p,k,st,a,e,by rw[hf p a (Hm.1 c).1];exact c⟩⟩
def Pl.set_lt(h:Pl b G v esz n l){q:Nat}{ob:LObj}(hq:q<b):Pl b (G.set q ob) v esz n l :=
 h.frame λr hr _=>Ho J
def Pl.push_end(h:Pl b G v esz n l){ob:List LObj}:Pl b (G++ob) v esz n l :=
 h.frame λ_ _ hr=>Hx hr
def Pl.cells(h:Pl b G v esz n l):v.cells=some [v]:=by
 obtain⟨_,_,⟨rfl,_⟩|⟨p,k,st,_,rfl,_⟩⟩:=h<;>rfl
def Pl.push{c:Nat}(h:Pl b G v esz n l)(hz:0<esz)(hb:b≤G.length)(hn:n≤1000000000)(hx:x.length=c*esz)(gg:dats x=true){K:LV→Mp→Prop}
  (k:∀(v':LV) (G':Mp),Pl b G' v' esz (n+c) (l++x)→(∀q,q<b→G'[q]?=G[q]?)→G.length≤G'.length→K v' G'):Ow G esz v c x K:=by
 obtain⟨h1,h2,h⟩:=h;have hl:(l++x).length=(n+c)*esz:=by rw[H4,h2,hx,Im]
 rcases h with ⟨rfl,rfl,rfl⟩|⟨p,gz,st,a,rfl,e⟩
 ·rw[appL_nil];refine k _ _ ⟨by simpa using gg,hl,.inr ⟨G.length,0,0,hb,rfl,?_⟩⟩ (λq hq=>Hx J) N;rw[Ie];simp
 ·have hp:=(Hm.1 e).1;rw[appL_dy,e];exact⟨rfl,⟨rfl,hz⟩,hn,k _ _ ⟨dats_app h1 gg,hl,.inr ⟨p,gz+1,st+1,a,rfl,Hu hp⟩⟩ (λq hq=>Ho J) N⟩
def Pl.bor(h:Pl b G v esz n l):Go.Sv.bor G v (.lst l n esz):=by
 obtain⟨h1,h2,⟨rfl,rfl,rfl⟩|⟨p,k,st,a,rfl,e⟩⟩:=h
 ·exact .inr ⟨_,rfl⟩
 ·exact⟨l,n,esz,st,rfl,e,h1⟩
end dys
end
section
section dys
variable {b : Nat} {G G' : Mp} {v : LV} {esz n : Nat} {l x : List LV}
def Pl.push2{c:Nat}(h:Pl b G v esz n l)(hz:0<esz)(hb:b≤G.length)(hn:n≤1000000000)(hx:x.length=c*esz)(j:dats x=true){K:LV→Mp→Prop}
  (k:∀(v':LV) (G':Mp),Pl b G' v' esz (n+c) (l++x)→(∀q,q<G.length→(∀gz,v≠.dy q gz)→G'[q]?=G[q]?)→G.length≤G'.length→(∀q gz,v'=.dy q gz→q=G.length∨∃j',v=.dy q j')→(∀q gz,v'=.dy q gz→q<G'.length)→K v' G'):Ow G esz v c x K:=by
 obtain⟨h1,h2,h⟩:=h;have hl:(l++x).length=(n+c)*esz:=by rw[H4,h2,hx,Im]
 rcases h with ⟨rfl,rfl,rfl⟩|⟨p,gg,st,a,rfl,e⟩
 ·rw[appL_nil];refine k _ _ ⟨Bg,hl,.inr ⟨G.length,0,0,hb,rfl,?_⟩⟩ (λq hq _=>Hx J) N (λq gz e=>by cases e;exact .inl rfl) (λq gz e=>by cases e;simp);rw[Ie];simp
 ·have hp:=(Hm.1 e).1;rw[appL_dy,e];exact⟨rfl,⟨rfl,hz⟩,hn,k _ _ ⟨dats_app h1 j,hl,.inr ⟨p,gg+1,st+1,a,rfl,Hu hp⟩⟩ (λq hq hv=>Ho (λq'=>hv gg (by rw[q']))) N (λq gz e=>by cases e;exact .inr ⟨_,rfl⟩) (λq gz e=>by cases e;simpa using hp)⟩
def Pl.keep(h:Pl b G v esz n l)(hf:∀q gg,v=.dy q gg→G'[q]?=G[q]?):Pl b G' v esz n l:=by
 obtain⟨j,h2,h|⟨p,k,st,a,e,c⟩⟩:=h
 ·exact⟨j,h2,.inl h⟩
 ·exact⟨j,h2,.inr ⟨p,k,st,a,e,by rw[hf p k e];exact c⟩⟩
def Pl.lt(h:Pl b G v esz n l){q:Nat}(e:v=.dy q j):b≤q∧q<G.length:=by
 obtain⟨_,_,⟨h,_⟩|⟨p,k,st,a,e2,c⟩⟩:=h
 ·rw[h]at e;cases e
 ·rw[e2]at e;cases e;exact⟨a,(Hm.1 c).1⟩
end dys
end
section
def Wl:Nat→LC→LC×LC
 |0,.seq a b=>(a,b)
 |n+1,.seq a b=>(.seq a (Wl n b).1,(Wl n b).2)
 |_,s=>(s,.skip)
def cd:Nat→LC→Bool
 |0,.seq _ _=>true
 |n+1,.seq _ b=>cd n b
 |_,_=>false
section Wl
variable {P : Program} {f n : Nat} {ro : Option Nat}
def Yi{E:Pe}{Φ:Mq→List Nat→Mp→Prop}:∀(k:Nat) (s:LC) {B:Mq} {C:List Nat} {D:Mp},cd k s=true →
  (F:∀G:Mq→List Nat→Mp→Prop,(∀(g:Mq) (j:List Nat) (z:Mp),Φ g j z→G g j z)→wp P f n ro (Wl k s).1 B C D (we G E)) →
  (H:∀(g:Mq) (j:List Nat) (z:Mp),Φ g j z→W P f n (Wl k s).2 ro g j z E)→W P f n s ro B C D E:=by
 suffices K:∀(k:Nat) (s:LC) {B:Mq} {C:List Nat} {D:Mp},cd k s=true→wp P f n ro (Wl k s).1 B C D (we (λg j z=>W P f n (Wl k s).2 ro g j z E) E)→W P f n s ro B C D E from
  λk s B C D A F H=>K k s A (F _ H)
 intro k
 induction k with
 |zero =>
  intro s B C D A h;cases s with
  |seq a b =>
   refine lh ((Ru a h).post λx g j z q=>?_);cases x<;>exact q
  |_=>simp[cd]at A
 |succ k I =>
  intro s B C D A h;cases s with
  |seq a b =>
   simp only[Wl]at h;rw[wp_seq]at h;refine lh ((Ru a h).post λx g j z q=>?_);cases x with
   |normal=>exact I b A q
   |_=>exact q
  |_=>simp[cd]at A
def W_fz{s:LC}{H:Mq}{gg:Pe}{t p k len st:Nat}{l:List LV}(I:G[p]?=some (.dyn l len g k st))(K:lk H t=.dy p k)(h:W P f n s ro ((t,.lst l len g)::H) vD (G.set p (.dead (st+1))) gg):W P f n s ro H vD G gg:=by
 intro j c gz L z M O C D Q R;obtain⟨E,F,T,A,u4,U,V,u6⟩:=C.froze I;have X:Nv E ((t,.lst l len g)::H) gz:=λx=>by
  by_cases e:x=t
  ·subst e;have:=D x;rw[K]at this;simpa using V _ this
  ·have:=(D x).mono A;simpa [e] using this
 obtain⟨m,x,Y,B,Z,ρ',D',G',q1,q2,q3,q4,q5,q6⟩:=h j E gz L z M O F X (Q.mono A) (R.mono A);exact⟨m,x,Y,B,Z,ρ',D',G',U ▸ q1,q2,T.trans C F q3,q4,q5,q6⟩
def zuy{s:LC}{j:List RRes}(z:My P f=some ⟨n,s.r,j⟩)(g:s.ok=true)(A:D.length≤n)(h:W P f n s none (i4 D 0) [] G (tp j Y)):Qn P (.fn f) D G Y :=
 zlb z g A (h.post λx C E B k=>by
  cases x with
  |normal=>exact⟨trivial,k⟩
  |exit i=>exact k.elim
  |ret=>exact⟨trivial,k⟩)
end Wl
end
section
def Vj(b:Nat)(G:Mp)(v:LV)(esz n:Nat)(l:List LV):Prop :=
 l.length=n*esz∧((v=.nilSl∧n=0∧l=[])∨∃(p k st:Nat),b≤p∧v=.dy p k∧G[p]?=some (.dyn l n esz k st))
section dys
variable {b : Nat} {G G' : Mp} {v : LV} {esz n : Nat} {l x : List LV}
def Vj.nil:Vj b G .nilSl esz 0 []:=⟨N,.inl ⟨rfl,rfl,rfl⟩⟩
def Vj.keep(h:Vj b G v esz n l)(hf:∀q gg,v=.dy q gg→G'[q]?=G[q]?):Vj b G' v esz n l:=by
 obtain⟨j,h|⟨p,k,st,a,e,c⟩⟩:=h
 ·exact⟨j,.inl h⟩
 ·exact⟨j,.inr ⟨p,k,st,a,e,by rw[hf p k e];exact c⟩⟩
def Vj.lt(h:Vj b G v esz n l){q:Nat}(e:v=.dy q j):b≤q∧q<G.length:=by
 obtain⟨_,⟨h,_⟩|⟨p,k,st,a,e2,c⟩⟩:=h
 ·rw[h]at e;cases e
 ·rw[e2]at e;cases e;exact⟨a,(Hm.1 c).1⟩
def Vj.push_end(h:Vj b G v esz n l){ob:List LObj}:Vj b (G++ob) v esz n l :=
 h.keep λ_ _ e=>Hx (h.lt e).2
def Vj.push{c:Nat}(h:Vj b G v esz n l)(hz:0<esz)(hb:b≤G.length)(hn:n≤1000000000)(hx:x.length=c*esz){K:LV→Mp→Prop}
  (k:∀(v':LV) (G':Mp),Vj b G' v' esz (n+c) (l++x)→(∀q,q<G.length→(∀gg,v≠.dy q gg)→G'[q]?=G[q]?)→G.length≤G'.length→(∀q gg,v'=.dy q gg→q=G.length∨∃j',v=.dy q j')→K v' G'):Ow G esz v c x K:=by
 obtain⟨h2,h⟩:=h;have hl:(l++x).length=(n+c)*esz:=by rw[H4,h2,hx,Im]
 rcases h with ⟨rfl,rfl,rfl⟩|⟨p,j,st,a,rfl,e⟩
 ·rw[appL_nil];refine k _ _ ⟨hl,.inr ⟨G.length,0,0,hb,rfl,?_⟩⟩ (λq hq _=>Hx J) N (λq gg e=>by cases e;exact .inl rfl);rw[Ie];simp
 ·have hp:=(Hm.1 e).1;rw[appL_dy,e];exact⟨rfl,⟨rfl,hz⟩,hn,k _ _ ⟨hl,.inr ⟨p,j+1,st+1,a,rfl,Hu hp⟩⟩ (λq hq hv=>Ho (λq'=>hv j (by rw[q']))) N (λq gg e=>by cases e;exact .inr ⟨_,rfl⟩)⟩
end dys
section fz
variable {P : Program} {f n : Nat} {ro : Option Nat}
def W_fzD{s:LC}{O:Mq}{G:Mp}{gg:Pe}{a b:List LV}{p q k len esz st:Nat}{l:List LV}(Q:G[p]?=some (.dyn l len esz k st))(B:G[q]?=some (.dyn (a++.dy p k::b) j A E g))(C:p≠q)
  (h:W P f n s ro O vD ((G.set p (.dead (st+1))).set q (.dyn (a++.lst l len esz::b) j A E (g+1))) gg):W P f n s ro O vD G gg:=by
 intro z c gz R D T U F V X Y;obtain⟨K,L,Z,H,u4,u7,u5,u6⟩:=F.froze Q;obtain⟨M,w2⟩:=L.sub (p:=q) (st:=g) (l:=a++.dy p k::b) (l':=a++.lst l len esz::b) (len:=j) (esz:=A) (ver:=E) (by rw[Ho C];exact B) λr hr=>ARs.put ⟨λp k h e=>⟨k,h,e,Hw _,λ_=>rfl,λ_=>rfl⟩,λq B=>⟨B,rfl⟩⟩ u6 hr
 have e4:Nv K O gz:=λx=>(V x).mono H
 obtain⟨m,x,E',I,c',ρ',D',G',q1,q2,q3,q4,q5,q6⟩:=h z K gz R D T U M e4 (X.mono H) (Y.mono H);exact⟨m,x,E',I,c',ρ',D',G',u7 ▸ q1,q2,(Z.trans F L w2).trans F M q3,q4,q5,q6⟩
end fz
end
def ax{n:Nat}(h:n<18446744073709551616):(iU (n:Int)).toNat=n:=by
 rw[jy,UInt64.ofInt,I5];omega
def val:List UInt64→Nat
 |[]=>0
 |x::l=>x.toNat+18446744073709551616*val l
def z8m(n:Nat):2^(64*(n+1))=18446744073709551616*2^(64*n):=by
 rw[K3,Lw,Ka]
def val_append:∀a b:List UInt64,val (a++b)=val a+2^(64*a.length)*val b
 |[],b=>Em
 |x::a,b=>by
  rw[Ip,val,val,val_append a b,Ig,z8m,K3,Kx];omega
def val_lt:∀a:List UInt64,val a<2^(64*a.length)
 |[]=>Em
 |x::a=>by
  have g:=x.toNat_lt;have j:=val_lt a;rw[val,Ig,z8m];omega
def zl4(x:UInt64):val [x]=x.toNat:=Em
def zum(a:List UInt64)(x:UInt64):val (a++[x])=val a+2^(64*a.length)*x.toNat:=by
 rw[val_append,zl4]
def val_rep0:∀n,val (List.replicate n 0)=0
 |0=>rfl
 |n+1=>by rw[Kg,val,val_rep0 n];rfl
def zce{a:List UInt64}{n:Nat}(h:n<a.length):a.take (n+1)=a.take n++[a.getD n 0]:=by
 rw[I0 h];simp[h]
def z94{a:List UInt64}{n:Nat}(h:n<a.length):val (a.take (n+1))=val (a.take n)+2^(64*n)*(a.getD n 0).toNat:=by
 rw[zce h,zum,Jp,Ju J]
def Vd:Nat→Nat→List UInt64
 |0,_=>[]
 |f+1,n=>if n=0 then [] else UInt64.ofNat n::Vd f (n/18446744073709551616)
def M5(n:Nat):List UInt64:=Vd n n
def toLf_more:∀(f j n:Nat),n≤f→n≤j→Vd f n=Vd j n
 |0,0,_,_,_=>rfl
 |0,j+1,n,h,_=>by
  have:n=0:=J
  subst this;simp[Vd]
 |f+1,0,n,_,h=>by
  have:n=0:=J
  subst this;simp[Vd]
 |f+1,j+1,n,z,A=>by
  simp only[Vd];by_cases g:n=0
  ·simp[g]
  ·rw[Hs g,Hs g,toLf_more f j (n/18446744073709551616) J J]
def toL_zero:M5 0=[]:=rfl
def zes{n:Nat}(h:n≠0):M5 n=UInt64.ofNat n::M5 (n/18446744073709551616):=by
 unfold M5;cases n with
 |zero=>exact absurd rfl h
 |succ n =>
  rw[Vd,Hs h,toLf_more n ((n+1)/18446744073709551616) _ J (Hw _)]
def Q1(n:Nat):val (M5 n)=n:=by
 induction n using Nat.strongRecOn with
 |_ n g =>
  by_cases h:n=0
  ·subst h;rfl
  ·rw[zes h,val,g _ J,I5];omega
def Trm(l:List UInt64):Prop:=l=[]∨l.getLast?.getD 0≠0
def ztw{x:UInt64}{l:List UInt64}(h:Trm (x::l)):Trm l:=by
 cases l with
 |nil=>exact .inl rfl
 |cons y l =>
  rcases h with h|h
  ·cases h
  ·exact .inr (by simpa [List.getLast?_cons_cons] using h)
def val_pos_of_Trm:∀{l:List UInt64},l≠[]→Trm l→val l≠0
 |[],h,_=>absurd rfl h
 |[x],_,h=>by
  rcases h with h|h
  ·cases h
  ·simp at h;rw[zl4];intro e;exact h (Jd.1 e)
 |x::y::l,_,h=>by
  have:=val_pos_of_Trm (l:=y::l) N (ztw h);rw[val];omega
def toL_val:∀{l:List UInt64},Trm l→M5 (val l)=l
 |[],_=>rfl
 |x::l,h=>by
  have g:=val_pos_of_Trm N h;rw[zes g];have A:=x.toNat_lt;have j:UInt64.ofNat (val (x::l))=x:=by
   apply Jd.1;rw[I5,val];omega
  have z:val (x::l)/18446744073709551616=val l:=by rw[val];omega
  rw[j,z,toL_val (ztw h)]
def f5{l:List UInt64}{x:UInt64}(h:x≠0):Trm (l++[x]):=.inr Av
def tt(n:Nat):Trm (M5 n):=by
 induction n using Nat.strongRecOn with
 |_ n j =>
  by_cases h:n=0
  ·subst h;exact .inl rfl
  ·rw[zes h];have:=j (n/18446744073709551616) J;by_cases g:n/18446744073709551616=0
   ·rw[g,toL_zero];refine .inr ?_;simp;intro e;have:=congrArg UInt64.toNat e;rw[I5]at this;simp at this;omega
   ·rw[zes g]at this ⊢;rcases this with e|e
    ·cases e
    ·exact .inr (by simpa [List.getLast?_cons_cons] using e)
def ai{n k:Nat}(h:n<2^(64*k)):(M5 n).length≤k:=by
 induction k generalizing n with
 | zero => have : n = 0 := by simpa using h
           subst this;simp[toL_zero]
 |succ k j =>
  by_cases g:n=0
  ·subst g;simp[toL_zero]
  ·rw[zes g,Ig];have:=j (n:=n/18446744073709551616) (by rw[z8m]at h;exact Nat.div_lt_of_lt_mul h);omega
def z2k(a:List UInt64):(M5 (val a)).length≤a.length:=ai (val_lt a)
def zew{n:Nat}:M5 n=[]↔n=0:=⟨λh=>by rw[←Q1 n,h];rfl,λh=>by rw[h];rfl⟩
def RU(l:List UInt64):LObj:=.dyn (l.map .u) l.length 1 0 0
def Qd(g:Mp)(v:LV)(l:List UInt64):Prop:=(v=.nilSl∧l=[])∨∃p k st,v=.dy p k∧g[p]?=some (.dyn (l.map .u) l.length 1 k st)
def Qd.sel{G:Mp}{v:LV}{l:List UInt64}(h:Qd G v l):Ui G [v] [RU l]:=by
 rcases h with ⟨rfl,rfl⟩|⟨p,k,st,rfl,hg⟩
 ·simp[RU]
 ·simp[RU,hg]
def xi{l:List UInt64}:∀(z:Nat) (g:LObj),[RU l][z]?=some g→∃c len j,g=.dyn c len j 0 0∧c.all LV.scal=true:=by
 intro z g e;cases z with
 |zero=>simp at e;subst e;exact⟨_,_,_,rfl,N⟩
 |succ z=>simp at e
def RU_ok2{l r:List UInt64}:∀(z:Nat) (g:LObj),[RU l,RU r][z]?=some g→∃c len j,g=.dyn c len j 0 0∧c.all LV.scal=true:=by
 intro z g e
 match z with
 |0=>simp at e;subst e;exact⟨_,_,_,rfl,N⟩
 |1=>simp at e;subst e;exact⟨_,_,_,rfl,N⟩
 |z+2=>simp at e
def Ng.row{P:Program}{f:Nat}{args:List LV}{l:List UInt64}(h:Qn P (.fn f) args [] λv G=>Qd G v l):Ng P f args (.dy 0 0) [RU l] :=
 Ng.mk rfl (h.mono λv G e=>⟨[v],N,rfl,e.sel⟩) xi
def Ng.rowE{P:Program}{f:Nat}{args:List LV}{l:List UInt64}{e:Int}(h:Qn P (.fn f) args [] λv G=>∃w,v=.tup [w,.i e]∧Qd G w l):Ng P f args (.tup [.dy 0 0,.i e]) [RU l] :=
 Ng.mk rfl (h.mono λv G ⟨w,e1,e2⟩=>⟨[w],by simp[e1],rfl,e2.sel⟩) xi
def Ng.row2E{P:Program}{f:Nat}{args:List LV}{l r:List UInt64}{e:Int}(h:Qn P (.fn f) args [] λv G=>∃w w',v=.tup [w,w',.i e]∧Qd G w l∧Qd G w' r∧∀p k,w=.dy p k→notP p w'):Ng P f args (.tup [.dy 0 0,.dy 1 0,.i e]) [RU l,RU r] :=
 Ng.mk rfl (h.mono λv G ⟨w,w',e1,e2,e3,e4⟩=>⟨[w,w'],by simp[e1],rfl,by
  have h3:=e3.sel;rcases e2 with ⟨rfl,rfl⟩|⟨p,k,st,rfl,hg⟩
  ·simp only[Ui,RU]at h3 ⊢;exact⟨N,N,N,N,h3⟩
  ·have h4:=e4 p k rfl;simp only[Ui,RU,Mh,forall_eq]at h3 ⊢;exact⟨N,N,⟨st,hg⟩,N,h4,h3⟩⟩) RU_ok2
def M1(a b:UInt64):Bool→UInt64×Bool
 |false=>(a+b,decide (a+b<a))
 |true=>(a+b+1,decide (a+b<a) || decide (a+b+1=0))
def Og(a b:UInt64):Bool→UInt64×Bool
 |false=>(a-b,decide (a<b))
 |true=>(a-b-1,decide (a<b) || decide (a-b=0))
def zbm(x:UInt64):x=0↔x.toNat=0:=⟨λh=>by rw[h];rfl,λh=>Jd.1 (by rw[h];rfl)⟩
def zqa(b:Bool):b.toNat=if b=true then 1 else 0:=by cases b<;>rfl
def xo(a b:UInt64)(c:Bool):(M1 a b c).1.toNat+18446744073709551616*(M1 a b c).2.toNat=a.toNat+b.toNat+c.toNat:=by
 have g:=a.toNat_lt;have j:=b.toNat_lt;cases c with
 |false =>
  simp only[M1,zqa,Hz,I6,Jm];split<;>simp<;>omega
 |true =>
  simp only[M1,zqa,Iy,Hz,I6,zbm,Jm,UInt64.toNat_one];split<;>simp<;>omega
def zmg(a b:UInt64)(c:Bool):(Og a b c).1.toNat+b.toNat+c.toNat=a.toNat+18446744073709551616*(Og a b c).2.toNat:=by
 have j:=a.toNat_lt;have z:=b.toNat_lt;cases c with
 |false =>
  have e:(Og a b false).2=decide (a.toNat<b.toNat):=by simp[Og,I6]
  rw[e];simp only[Og,K6];by_cases h:a.toNat<b.toNat<;>simp[h]<;>omega
 |true =>
  have e:(Og a b true).2=decide (a.toNat≤b.toNat):=by
   simp only[Og,I6,zbm,K6];by_cases h:a.toNat≤b.toNat
   ·by_cases g:a.toNat<b.toNat
    ·simp[h,g]
    ·have:a.toNat=b.toNat:=J
     simp[this];omega
   ·simp[h];omega
  rw[e];simp only[Og,K6,UInt64.toNat_one];by_cases h:a.toNat≤b.toNat<;>simp[h]<;>omega
def vk{p:Nat}{g:LObj}(h:G[p]?=some g)(x:Mp):(G++x)[p]?=some g:=by
 rw[Hx (Hm.1 h).1];exact h
def gset{p:Nat}{j:LObj}(h:G[p]?=some j)(g:LObj):(G.set p g)[p]?=some g:=Hu (Hm.1 h).1
def oo{p q:Nat}(h:q≠p)(g:LObj):(G.set p g)[q]?=G[q]?:=Ho (Ne.symm h)
def Qd.app{G:Mp}{v:LV}{l:List UInt64}(h:Qd G v l)(x:Mp):Qd (G++x) v l:=by
 rcases h with h|⟨p,k,st,h1,h2⟩
 ·exact .inl h
 ·exact .inr ⟨p,k,st,h1,vk h2 x⟩
@[simp] theorem dats_rep (n:Nat) (x:UInt64):dats (List.replicate n (LV.u x))=true:=by
 rw[(N:List.replicate n (LV.u x)=(List.replicate n x).map LV.u)];exact vp _
def flat_u(l:List UInt64):l.flatMap (λx=>[LV.u x])=l.map .u:=by
 induction l with
 |nil=>rfl
 |cons x l g=>simp[g]
def ztn{v:LV}{l xs:List UInt64}{n:Nat}(h:Qd G v l)(I:n=xs.length)(g:D=xs.map .u)(K:l.length≤1000000000)
  (k:∀C E,Qd E C (l++xs)→(∀(q:Nat) (A:LObj),G[q]?=some A→(∀k,v≠.dy q k)→E[q]?=some A∧∀k,C≠.dy q k)→Y C E):Ow G 1 v n D Y:=by
 subst I g;rcases h with ⟨rfl,rfl⟩|⟨p,j,st,rfl,H⟩
 ·refine k _ _ (.inr ⟨G.length,0,0,rfl,N⟩) (λq A B _=>⟨vk B _,λk e=>?_⟩);cases e;have:=(Hm.1 B).1;omega
 ·simp only[Ow,H];refine⟨N,⟨N,N⟩,Cw,k _ _ (.inr ⟨p,j+1,st+1,rfl,by rw[gset H];simp⟩) (λq A B F=>?_)⟩;have z:q≠p:=λe=>F j Dp
  exact⟨by rw[oo z];exact B,λk e=>by cases e;exact z rfl⟩
def Qd.bor{G:Mp}{v:LV}{l:List UInt64}(h:Qd G v l):bor G v (LU l):=by
 rcases h with ⟨rfl,rfl⟩|⟨p,k,st,rfl,hg⟩
 ·exact .inr ⟨1,N⟩
 ·exact⟨_,_,_,st,rfl,hg,N⟩
def zw4{v d:LV}(h:Go.Sv.bor G v d):bors G [v] [d]:=⟨d,[],rfl,h,rfl⟩
def zr2{v d:LV}(h:Go.Sv.bor G v d)(g:Go.Sv.bor G O uU):bors G [v,O] [d,uU]:=⟨d,_,rfl,h,zw4 g⟩
def fw{v d g j:LV}(h:Go.Sv.bor G v d)(A:Go.Sv.bor G O uU)(z:Go.Sv.bor G g j):bors G [v,O,g] [d,uU,j]:=⟨d,_,rfl,h,zr2 A z⟩
def Qd.new{G:Mp}{l:List UInt64}:Qd (G++[RU l]) (.dy G.length 0) l:=.inr ⟨G.length,0,0,rfl,Cc⟩
def z8z{f:Nat}{l:List UInt64}(g:Ng B f v7 (.dy 0 0) [RU l])(j:bors G D v7)(k:Y (.dy G.length 0) (G++[RU l])):Qn B (.fn f) D G Y :=
 mo g j (by simpa using k)
def z4o{a:List UInt64}{n:Nat}(h:a.length≤n):val (a.take n)=val a:=by rw[H7 h]
def Zt{a:List UInt64}{n:Nat}(h:a.length≤n):val a<2^(64*n):=Il (val_lt a) (K0 J J)
def zvb(m:Nat):2^(64*(m+1))=2^(64*m)*18446744073709551616:=by
 rw[Nat.pow_mul,Nat.pow_mul,Ji]
def xa(a:List UInt64)(n:Nat):val (a.take (n+1))=val (a.take n)+2^(64*n)*(a.getD n 0).toNat:=by
 by_cases h:n<a.length
 ·exact z94 h
 ·rw[H7 J,H7 J];have:a.getD n 0=0:=by simp;rw[Jz J];rfl
  rw[this];simp
def zn4(x:UInt64):val [x]=x.toNat:=Em
def iq{x y:Nat}{c:Bool}(z:2≤A)(hv:x+j*A*c.toNat=y+g)(B:y<j)(C:g<j):x=y+g:=by
 cases c
 ·simpa using hv
 ·have:j*2≤j*A:=L9 _ z;simp at hv;omega
def uo{a b:List UInt64}{c:Bool}{n m:Nat}(h:n=m+1)(g:a.length≤m)(j:b.length≤m)(hv:val U+2^(64*n)*c.toNat=val a+val b):val U=val a+val b:=by
 subst h;rw[zvb]at hv;exact iq Ad hv (Zt g) (Zt j)
def addn{o s x y c:Nat}(hv:o+A*c=g+j)(h:s+E*R=x+y+c):o+A*s+A*E*R=g+A*x+(j+A*y):=by
 have:A*(s+E*R)=A*(x+y+c):=Dx
 simp only[K3,←Kx]at this;omega
def im{a b:List UInt64}{c:Bool}{i:Nat}(g:U.length=i)(hv:val U+2^(64*i)*c.toNat=val (a.take i)+val (b.take i)) :
  val (U++[(M1 (a.getD i 0) (b.getD i 0) c).1])+2^(64*(i+1))*(M1 (a.getD i 0) (b.getD i 0) c).2.toNat=val (a.take (i+1))+val (b.take (i+1)):=by
 rw[xa,xa,zvb,val_append,g,zn4];exact addn hv (xo _ _ _)
def opened:(∀a b,T6 a b=a+b)∧(∀a b,Zi a b=a-b)∧(∀a b,Ro a b=a*b):=⟨T5,Xg,zhb⟩
def Rx(a:List UInt64)(n:Int):Int:=if n<0∨512<n then 2 else if n<(M5 (val a)).length then 3 else 0
def Uv(a:List UInt64)(n:Int):List UInt64:=if Rx a n=0 then M5 (val a)++List.replicate (n.toNat-(M5 (val a)).length) 0 else []
def zhx{a:List UInt64}{n:Int}(h:Rx a n=0):((Uv a n).length:Int)=n∧0≤n∧n≤512:=by
 unfold Uv;rw[Hv h];unfold Rx at h;by_cases g:n<0∨512<n
 ·rw[Hv g]at h;simp at h
 ·rw[Hs g]at h;by_cases j:n<(M5 (val a)).length
  ·rw[Hv j]at h;simp at h
  ·simp;omega
def uy(n:Nat):Oj [LV.u 0] n=(List.replicate n (0:UInt64)).map .u:=by
 induction n with
 |zero=>rfl
 |succ n g=>simp[Oj,g,Kg]
def LN(l:List (List UInt64)):LV:=.lst (l.map LU) l.length 1
attribute [simp] LN
def jb(l:List (List UInt64))(i:Nat)(g:LV→Prop):Oz (l.map LU) i g=(i<l.length∧g (LU (l.getD i []))):=zu8 _ _ _ _ _
def Wu(l:List (List UInt64)):dats (l.map LU)=true:=nz (λx=>N) l
attribute [simp] jb Wu
attribute [simp ↓] jb
def Ss(a b:UInt64):UInt64:=UInt64.ofNat (a.toNat*b.toNat/18446744073709551616)
def zq5(a b:UInt64):(Ss a b).toNat*18446744073709551616+(a*b).toNat=a.toNat*b.toNat:=by
 have g:=a.toNat_lt;have j:=b.toNat_lt;have z:a.toNat*b.toNat≤18446744073709551615*18446744073709551615:=Jr J J;rw[Ss,I5,Lu];omega
def tv(x:UInt64):(x &&& 4294967295).toNat=x.toNat%4294967296:=by
 rw[UInt64.toNat_and];exact Nat.and_two_pow_sub_one_eq_mod x.toNat 32
def mul_hi(a b:UInt64) :
  T6 (T6 (Ro (P8 a 32) (P8 b 32)) (P8 (T6 (Ro (P8 a 32) (Qx b 4294967295)) (P8 (Ro (Qx a 4294967295) (Qx b 4294967295)) 32)) 32)) (P8 (T6 (Ro (Qx a 4294967295) (P8 b 32)) (Qx (T6 (Ro (P8 a 32) (Qx b 4294967295)) (P8 (Ro (Qx a 4294967295) (Qx b 4294967295)) 32)) 4294967295)) 32)=Ss a b:=by
 simp only[T5,zhb,bi,bm];apply Jd.1;have C:=a.toNat_lt;have D:=b.toNat_lt;simp only[Ss,Jm,Lu,I5,tv,Nat.reducePow];generalize a.toNat=x at *;generalize b.toNat=y at *;have g:x=x/4294967296*4294967296+x%4294967296:=J
 have j:y=y/4294967296*4294967296+y%4294967296:=J
 have E:x/4294967296<4294967296:=J
 have F:x%4294967296<4294967296:=J
 have G:y/4294967296<4294967296:=J
 have H:y%4294967296<4294967296:=J
 have z:x/4294967296%18446744073709551616=x/4294967296:=J
 have A:y/4294967296%18446744073709551616=y/4294967296:=J
 rw[z,A];have B:x*y=(x/4294967296*(y/4294967296))*18446744073709551616+(x/4294967296*(y%4294967296))*4294967296+(x%4294967296*(y/4294967296))*4294967296+x%4294967296*(y%4294967296):=by
  generalize x/4294967296=p at *;generalize x%4294967296=q at *;generalize y/4294967296=r at *;generalize y%4294967296=s at *;subst g j
  grind
 rw[B];generalize x/4294967296=p at *;generalize x%4294967296=q at *;generalize y/4294967296=r at *;generalize y%4294967296=s at *;have I:p*r≤4294967295*4294967295:=Jr J J;have K:p*s≤4294967295*4294967295:=Jr J J;have L:q*r≤4294967295*4294967295:=Jr J J;have M:q*s≤4294967295*4294967295:=Jr J J;generalize p*r=O at *;generalize p*s=P at *;generalize q*r=Q at *;generalize q*s=R at *;clear g j z A E F G H C D B;omega
def O9(n:Nat):Nat:=if n=0 then 0 else n.log2+1
def blen_zero:O9 0=0:=rfl
def zox{n:Nat}(h:n≠0):O9 n=O9 (n/2)+1:=by
 unfold O9;rw[Hs h];by_cases g:n/2=0
 ·have:n=1:=J
  subst this;decide
 ·rw[Hs g,Nat.log2_def n,Hv J]
def o8(n:Nat):n<2^O9 n:=by
 unfold O9;by_cases h:n=0
 ·subst h;decide
 ·rw[Hs h];exact (Nat.log2_lt h).1 (I4 _)
def zsx{n k:Nat}(h:n<2^k):O9 n≤k:=by
 unfold O9;by_cases g:n=0
 ·subst g;simp
 ·rw[Hs g];exact (Nat.log2_lt g).2 h
def zkw{n:Nat}:∀s:Nat,n/2^s≠0→O9 n=s+O9 (n/2^s)
 |0,_=>N
 |s+1,h=>by
  have j:n/2^s/2≠0:=by rw[Ku,←Ji];exact h
  have g:n/2^s≠0:=λe=>j Dp
  rw[zkw s g,zox g,Ku,show 2^s*2=2^(s+1) from rfl];omega
def Yc(v:UInt64)(s:Nat):(P8 v s).toNat=v.toNat/2^s:=by
 have h:=v.toNat_lt;have:v.toNat/2^s≤v.toNat:=L7 _ _;rw[bi,I5,In J]
def u9(v:UInt64):(Qx v 1).toNat=v.toNat%2:=by
 rw[bm,UInt64.toNat_and];exact Nat.and_two_pow_sub_one_eq_mod v.toNat 1
def bit_u'(v:UInt64)(s:Nat):Qx (P8 v s) 1=if v.toNat.testBit s=true then 1 else 0:=by
 apply Jd.1;rw[u9,Yc,Lk];by_cases h:v.toNat/2^s%2=1
 ·simp[h]
 ·have:v.toNat/2^s%2=0:=J
  simp[this]
def rn{i:Nat}(h:i<64):(Q3 1 i).toNat=2^i:=by
 rw[ew,I5];have:2^i<2^64:=Nat.pow_lt_pow_right J h;simp;omega
def limb_at:∀(a:List UInt64) (i:Nat),(a.getD i 0).toNat=val a/2^(64*i)%18446744073709551616
 |[],i=>Em
 |x::a,0=>by
  have:=x.toNat_lt;simp[val]
 |x::a,i+1=>by
  have h:=x.toNat_lt;have g:=limb_at a i;rw[z8m,←Ku,val,(J:(x.toNat+18446744073709551616*val a)/18446744073709551616=val a),←g];simp
def zq(a:List UInt64)(i:Nat):(a.getD (i/64) 0).toNat.testBit (i%64)=(val a).testBit i:=by
 rw[limb_at,show (18446744073709551616:Nat)=2^64 from rfl,Nat.testBit_mod_two_pow,Nat.testBit_div_two_pow];have:i%64+64*(i/64)=i:=J
 simp[this];intro;omega
def val_set:∀(a:List UInt64) (i:Nat) (x:UInt64),i<a.length→val (a.set i x)+2^(64*i)*(a.getD i 0).toNat=val a+2^(64*i)*x.toNat
 |[],i,x,h=>Bn
 |y::a,0,x,_=>by simp[val];omega
 |y::a,i+1,x,h=>by
  have g:=val_set a i x Av;rw[z8m];simp only[Mg,val,List.getD_cons_succ,Kx];omega
def dg{a:List UInt64}{i:Nat}{x:UInt64}(h:i<a.length)(g:a.getD i 0=0):val (a.set i x)=val a+2^(64*i)*x.toNat:=by
 have:=val_set a i x h;rw[g]at this;simpa using this
def zti(a:List UInt64)(i g:Nat)(x:UInt64)(h:i≠g):(a.set i x).getD g 0=a.getD g 0:=by simp[Ho h]
def jr(a:List UInt64)(i:Nat)(x:UInt64)(h:i<a.length):Ns (a.map .u) i [.u x]=(a.set i x).map .u:=by
 unfold Ns;rw[Io,Hv h];simp
def eu{l:List UInt64}{n:Nat}(h:Trm l)(g:l.length=n+1):O9 (val l)=64*n+O9 (l.getD n 0).toNat:=by
 have z:val l=val (l.take n)+2^(64*n)*(l.getD n 0).toNat:=by rw[←z94 J,H7 J]
 have A:=Zt (a:=l.take n) (n:=n) Ab;have j:val l/2^(64*n)=(l.getD n 0).toNat:=by
  rw[z,Nat.add_mul_div_left _ _ (Nat.two_pow_pos _),K8 A,Iq]
 have B:(l.getD n 0).toNat≠0:=by
  rcases h with h|h
  ·rw[h]at g;simp at g
  ·intro e;refine h ?_;have:l.getLast?.getD 0=l.getD n 0:=by
    rw[List.getLast?_eq_getElem?,g];simp
   rw[this];exact (zbm _).2 e
 rw[zkw (64*n) (by rw[j];exact B),j]
def Pp(a b:Nat):Int:=if a<b then -1 else if b<a then 1 else 0
def zz6(a:Nat):Pp a a=0:=by simp[Pp]
def zy4{v w k x y:Nat}(hv:v<k)(hw:w<k):Pp (v+k*x) (w+k*y)=if x<y then -1 else if y<x then 1 else Pp v w:=by
 have e:∀B,k*(B+1)=k*B+k:=λB=>by rw[K3,K2]
 by_cases g:x<y
 ·have:=L9 k (show x+1≤y from g);rw[e]at this;rw[Hv g,Pp,Hv J]
 ·rw[Hs g];by_cases j:y<x
  ·have:=L9 k (show y+1≤x from j);rw[e]at this;rw[Hv j,Pp,Hs J,Hv J]
  ·rw[Hs j];have:x=y:=J
   subst this;unfold Pp;by_cases z:v<w
   ·rw[Hv z,Hv J]
   ·rw[Hs z,Hs J];by_cases A:w<v
    ·rw[Hv A,Hv J]
    ·rw[Hs A,Hs J]
def zjd(a:List UInt64)(i:Nat):val (a.take i)<2^(64*i):=Zt Ab
def ip(a b:List UInt64)(i:Nat):Pp (val (a.take (i+1))) (val (b.take (i+1)))=if a.getD i 0<b.getD i 0 then -1 else if b.getD i 0<a.getD i 0 then 1 else Pp (val (a.take i)) (val (b.take i)):=by
 rw[xa,xa,zy4 (zjd a i) (zjd b i)];simp only[I6]
def zlz{a b:Nat}:Pp a b<0↔a<b:=by
 unfold Pp;split
 ·simp;assumption
 ·split<;>simp<;>omega
def zst{a b:Nat}:Pp a b=0↔a=b:=by
 unfold Pp;split
 ·simp;omega
 ·split<;>simp<;>omega
def zhy{a b:Nat}:0≤Pp a b↔b≤a:=by
 have:=@zlz a b;omega
def ir{a b:List UInt64}{i:Nat}{c:Bool}(g:U.length=i)(hv:val U+val (b.take i)=val (a.take i)+2^(64*i)*c.toNat) :
  val (U++[(Og (a.getD i 0) (b.getD i 0) c).1])+val (b.take (i+1))=val (a.take (i+1))+2^(64*(i+1))*(Og (a.getD i 0) (b.getD i 0) c).2.toNat:=by
 have j:=zmg (a.getD i 0) (b.getD i 0) c;rw[zum,g,xa,xa,zvb];generalize (Og (a.getD i 0) (b.getD i 0) c).1.toNat=s at *;generalize (Og (a.getD i 0) (b.getD i 0) c).2.toNat=d at *;generalize (a.getD i 0).toNat=x at *;generalize (b.getD i 0).toNat=y at *;generalize 2^(64*i)=k at *;have e:k*(s+y+c.toNat)=k*(x+18446744073709551616*d):=Ek
 simp only[K3]at e;have z:k*(18446744073709551616*d)=k*18446744073709551616*d:=by rw[Kx]
 omega
def um{a b:List UInt64}{m:Nat}{c:Bool}(j:a.length≤m)(g:b.length≤m)(z:U.length=m)(hv:val U+val (b.take m)=val (a.take m)+2^(64*m)*c.toNat) :
  (c=true↔val a<val b)∧(c=false→val U=val a-val b):=by
 rw[z4o j,z4o g]at hv;have A:=Zt (a:=U) (n:=m) J;have B:=Zt g;cases c with
 |true=>simp at hv ⊢;omega
 |false=>simp at hv ⊢;omega
def Ta(o x y m:UInt64):UInt64×UInt64:=((M1 (M1 o (x*y) false).1 m false).1,(M1 (M1 (Ss x y) 0 (M1 o (x*y) false).2).1 0 (M1 (M1 o (x*y) false).1 m false).2).1)
def jf(o x y m:UInt64):(Ta o x y m).1.toNat+18446744073709551616*(Ta o x y m).2.toNat=o.toNat+x.toNat*y.toNat+m.toNat:=by
 have g:=xo o (x*y) false;have j:=xo (M1 o (x*y) false).1 m false;have z:=xo (Ss x y) 0 (M1 o (x*y) false).2;have A:=xo (M1 (Ss x y) 0 (M1 o (x*y) false).2).1 0 (M1 (M1 o (x*y) false).1 m false).2;have F:=zq5 x y;have G:=o.toNat_lt;have H:=m.toNat_lt;have I:=x.toNat_lt;have K:=y.toNat_lt;have L:x.toNat*y.toNat≤18446744073709551615*18446744073709551615:=Jr J J;have M:=(M1 (Ss x y) 0 (M1 o (x*y) false).2).1.toNat_lt;have O:=(M1 (M1 (Ss x y) 0 (M1 o (x*y) false).2).1 0 (M1 (M1 o (x*y) false).1 m false).2).1.toNat_lt;unfold Ta;dsimp only;generalize (M1 (M1 (Ss x y) 0 (M1 o (x*y) false).2).1 0 (M1 (M1 o (x*y) false).1 m false).2)=B at *;generalize (M1 (Ss x y) 0 (M1 o (x*y) false).2)=C at *;generalize (M1 (M1 o (x*y) false).1 m false)=D at *;generalize (M1 o (x*y) false)=E at *;have P:(0:UInt64).toNat=0:=rfl;rw[P]at z A;simp at g j;have Q:E.2.toNat≤1:=Mo _;have R:D.2.toNat≤1:=Mo _;have T:C.2.toNat≤1:=Mo _;have U:B.2.toNat≤1:=Mo _;have V:=(x*y).toNat_lt;generalize (x*y).toNat=X at *;generalize (Ss x y).toNat=hi at *;generalize x.toNat*y.toNat=p at *;omega
def sk(a b:List UInt64)(i k:Nat)(g:List UInt64)(j:UInt64):Prop :=
 g.length=a.length+b.length∧val g+2^(64*(i+k))*j.toNat=val (a.take i)*val b+2^(64*i)*((a.getD i 0).toNat*val (b.take k))∧∀z,i+b.length≤z→g.getD z 0=0
def Zm(a b:List UInt64):sk a b 0 0 (List.replicate (a.length+b.length) 0) 0:=by
 refine⟨N,by simp[val,val_rep0],λj g=>?_⟩;simp only[Hn,List.getElem?_replicate];split<;>rfl
def zxq{a b:List UInt64}{i k:Nat}(hi:i<a.length)(C:k<b.length)(h:sk a b i k U V) :
  sk a b i (k+1) (U.set (i+k) (Ta (U.getD (i+k) 0) (a.getD i 0) (b.getD k 0) V).1) (Ta (U.getD (i+k) 0) (a.getD i 0) (b.getD k 0) V).2:=by
 obtain⟨j,D,z⟩:=h;have hm:=jf (U.getD (i+k) 0) (a.getD i 0) (b.getD k 0) V;have E:=val_set U (i+k) (Ta (U.getD (i+k) 0) (a.getD i 0) (b.getD k 0) V).1 J;refine⟨Af,?_,λF A=>by rw[zti _ _ _ _ J];exact z F A⟩;rw[xa b k,(J:i+(k+1)=(i+k)+1),zvb];generalize (Ta (U.getD (i+k) 0) (a.getD i 0) (b.getD k 0) V).2.toNat=G at *;generalize B:(Ta (U.getD (i+k) 0) (a.getD i 0) (b.getD k 0) V).1=g at *;generalize (U.getD (i+k) 0).toNat=o at *;generalize (a.getD i 0).toNat=x at *;generalize (b.getD k 0).toNat=y at *;rw[(J:64*(i+k)=64*i+64*k),Lw]at *;generalize 2^(64*i)=p at *;generalize 2^(64*k)=q at *;generalize g.toNat=s at *;generalize val (a.take i)*val b=H at *;generalize val (b.take k)=I at *;generalize val (U.set (i+k) g)=K at *;generalize val U=L at *;generalize V.toNat=m at *
 grind
def Ze{a b:List UInt64}{i:Nat}(hi:i<a.length)(h:sk a b i b.length U V):sk a b (i+1) 0 (U.set (i+b.length) V) 0:=by
 obtain⟨z,g,j⟩:=h;have A:=dg (a:=U) (i:=i+b.length) (x:=V) J (j _ (Hw _));refine⟨Ae,?_,λB C=>by rw[zti _ _ _ _ J];exact j B J⟩;rw[A,xa a i];rw[Ki]at g;generalize (a.getD i 0).toNat=x at *;simp[val,Im];rw[←Kx]at g;rw[g]
def Zb{a b:List UInt64}{i:Nat}(h:sk a b i 0 U 0):val U=val (a.take i)*val b:=by
 have:=h.2.1;simpa [val] using this
def ci{a b:List UInt64}(h:sk a b a.length 0 U 0):val U=val a*val b:=by
 have:=Zb h
 rwa [Ki]at this
def y7(g j N:Nat)(q:List UInt64)(r:Nat):Prop:=r=g/2^N%j∧val q=g/2^N/j*2^N
def zpo{r:Nat}(C:0<j)(B:r=g/2^(A+1)%j):(2*r+(g.testBit A).toNat<j→g/2^A%j=2*r+(g.testBit A).toNat∧g/2^A/j=2*(g/2^(A+1)/j)) ∧
  (j≤2*r+(g.testBit A).toNat→g/2^A%j=2*r+(g.testBit A).toNat-j∧g/2^A/j=2*(g/2^(A+1)/j)+1):=by
 have E:g/2^(A+1)=g/2^A/2:=by rw[Ku];rfl
 have F:(g.testBit A).toNat=g/2^A%2:=by
  rw[Lk];by_cases h:g/2^A%2=1
  ·simp[h]
  ·have:g/2^A%2=0:=J
   simp[this]
 rw[E]at B ⊢;rw[F];generalize g/2^A=x at *;have D:=Nat.div_add_mod (x/2) j;have I:r<j:=by rw[B];exact Ix _ C
 rw[←B]at D;have G:x=2*(x/2)+x%2:=J
 have K:x%2<2:=J
 generalize x/2/j=c at *;generalize x/2=y at *;generalize x%2=d at *;subst D;have z:∀H w,w<j→x=j*H+w→x%j=w∧x/j=H:=λH w hw e=>by
  subst e;exact⟨by rw[Nat.mul_add_mod,In hw],by rw[Nat.mul_add_div C,K8 hw,Kr]⟩
 refine⟨λh=>z _ _ h ?_,λh=>z _ _ J ?_⟩
 ·rw[G,Ml];grind
 ·have:j*(2*c+1)=2*(j*c)+j:=Dd
  omega
def setbit{q:List UInt64}(A:g/64<q.length)(h:2^(g+1) ∣ val q):val (q.set (g/64) (Yp (q.getD (g/64) 0) (Q3 1 (g%64))))=val q+2^g:=by
 have B:=val_set q (g/64) (Yp (q.getD (g/64) 0) (Q3 1 (g%64))) A;have C:=limb_at q (g/64);have j:g%64<64:=J
 have D:2^(g%64+1) ∣ (q.getD (g/64) 0).toNat:=by
  obtain⟨c,z⟩:=h;rw[C,z,show (2:Nat)^(g+1)=2^(64*(g/64))*2^(g%64+1) by rw[←Lw];congr 1;omega,Kx,Nat.mul_div_cancel_left _ (Nat.two_pow_pos _)];refine (Nat.dvd_mod_iff ?_).2 (Nat.dvd_mul_right _ _);rw[show (18446744073709551616:Nat)=2^64 from rfl];exact Nat.pow_dvd_pow 2 J
 obtain⟨c,z⟩:=D;have E:(Yp (q.getD (g/64) 0) (Q3 1 (g%64))).toNat=(q.getD (g/64) 0).toNat+2^(g%64):=by
  rw[gl,UInt64.toNat_or,rn j];have:=Nat.two_pow_add_eq_or_of_lt (i:=g%64+1) (b:=2^(g%64)) (Nat.pow_lt_pow_right J J) c;rw[←z]at this;exact this.symm
 rw[E,K3,←Lw,(J:64*(g/64)+g%64=g)]at B;omega
def zt4{N:Nat}{q:List UInt64}{r:Nat}(A:0<j)(h:y7 g j (N+1) q r)(z:2*r+(g.testBit N).toNat<j):y7 g j N q (2*r+(g.testBit N).toNat):=by
 obtain⟨B,C⟩:=h;obtain⟨D,E⟩:=(zpo A B).1 z;refine⟨D.symm,?_⟩;rw[E,C,Ji]
 grind
def zv3{N:Nat}{q:List UInt64}{r:Nat}(B:0<j)(C:N/64<q.length)(h:y7 g j (N+1) q r)(z:j≤2*r+(g.testBit N).toNat):y7 g j N (q.set (N/64) (Yp (q.getD (N/64) 0) (Q3 1 (N%64)))) (2*r+(g.testBit N).toNat-j):=by
 obtain⟨D,A⟩:=h;obtain⟨E,F⟩:=(zpo B D).2 z;refine⟨E.symm,?_⟩;rw[setbit C (by rw[A];exact Nat.dvd_mul_left _ _),F,A,Ji]
 grind
def zyi{n:Nat}:y7 g j (O9 g) (List.replicate n 0) 0:=by
 have h:g/2^O9 g=0:=K8 (o8 g);refine⟨by rw[h];simp,by rw[h,val_rep0];simp⟩
def sj{q:List UInt64}{r:Nat}(h:y7 g j 0 q r):val q=g/j∧r=g%j:=by
 obtain⟨z,A⟩:=h;simp at z A;exact⟨A,z⟩
noncomputable section
def mE(n:Nat):Int:=if n=0 then 2 else 0
def mR(n r:Nat):List UInt64:=if n=0 then [] else M5 r
def mE_0{n:Nat}(h:n=0):mE n=2:=by simp[mE,h]
def Ux{n:Nat}(h:n≠0):mE n=0:=by simp[mE,h]
def Ur{n r:Nat}(h:n≠0):mR n r=M5 r:=by simp[mR,h]
def mR_0{n r:Nat}(h:n=0):mR n r=[]:=by simp[mR,h]
def Wg(a b n:Nat):Nat:=(a%n+n-b%n)%n
def Q7(a n:Nat):∃k:Int,((a%n:Nat):Int)=a+n*k:=⟨-(a/n:Nat),by
 have:=Nat.div_add_mod a n;have h:(a:Int)=n*(a/n:Nat)+(a%n:Nat):=by exact_mod_cast this.symm
 rw[h];generalize ((a%n:Nat):Int)=x;generalize ((a/n:Nat):Int)=y
 grind⟩
def zyu{a b n:Nat}(E:n≠0):∃k:Int,((Wg a b n:Nat):Int)=a-b+n*k:=by
 obtain⟨g,j⟩:=Q7 (a%n+n-b%n) n;obtain⟨z,A⟩:=Q7 a n;obtain⟨B,C⟩:=Q7 b n;have F:b%n<n:=Ix _ J;have D:((a%n+n-b%n:Nat):Int)=(a%n:Nat)+n-(b%n:Nat):=J
 refine⟨g+z-B+1,?_⟩;unfold Wg;rw[j,D,A,C]
 grind
def zfg{a b n:Nat}(z:a<n)(A:b<n){k:Int}(h:(a:Int)=b+n*k):a=b:=by
 have j:k=0:=by
  rcases Int.lt_trichotomy k 0 with g|g|g
  ·have:(n:Int)*k≤n*(-1):=Int.mul_le_mul_of_nonneg_left J J;omega
  ·exact g
  ·have:(n:Int)*1≤n*k:=Int.mul_le_mul_of_nonneg_left J J;omega
 subst j;omega
def oy{a b n:Nat}(g:n≠0):Wg a b n<n:=Ix _ J
def Q8(a n:Nat):Nat:=by
 classical exact if h:∃x,x<n∧a*x%n=1%n then h.choose else 0
def zrb{a n x:Nat}(j:x<n)(z:a*x%n=1%n):Q8 a n=x:=by
 unfold Q8;have g:∃x,x<n∧a*x%n=1%n:=⟨x,j,z⟩;rw[dif_pos g];obtain⟨B,C⟩:=g.choose_spec;generalize g.choose=y at *;have A:y*(a*x)%n=y%n:=by rw[Kc,z,←Kc,K2]
 have D:x*(a*y)%n=x%n:=by rw[Kc,C,←Kc,K2]
 have E:y*(a*x)=x*(a*y):=Dd
 rw[E,D,In j,In B]at A;exact A.symm
def EU(n x u v s t:Nat):Prop:=(∃c:Int,(s:Int)*x-u=n*c)∧(∃c:Int,(t:Int)*x-v=n*c)∧Nat.gcd u v=Nat.gcd x n
def ztm(n x:Nat):EU n x n x 0 1:=⟨⟨-1,Dd⟩,⟨0,Dd⟩,K7 _ _⟩
def zwr{n x u v s t:Nat}(z:n≠0)(h:EU n x u v s t):EU n x v (u%v) t (Wg s (u/v*t%n) n):=by
 obtain⟨⟨A,F⟩,j,B⟩:=h;refine⟨j,?_,?_⟩
 ·obtain⟨C,j⟩:=j;obtain⟨k,D⟩:=zyu (a:=s) (b:=u/v*t%n) z;obtain⟨E,g⟩:=Q7 (u/v*t) n;have hu:(u:Int)=v*(u/v:Nat)+(u%v:Nat):=by exact_mod_cast (Nat.div_add_mod u v).symm
  have hm:((u/v*t:Nat):Int)=(u/v:Nat)*(t:Int):=Int.natCast_mul _ _;rw[hm]at g;refine⟨A-(u/v:Nat)*C+k*x-E*x,?_⟩;rw[D,g];generalize ((u/v:Nat):Int)=q at *;generalize ((u%v:Nat):Int)=r at *
  grind
 ·rw[←B,K7 u v,Mm v u,K7]
def gt{n x u s t:Nat}(h:EU n x u 0 s t):u=Nat.gcd x n:=by
 have:=h.2.2;simpa using this
def iu{n x s t:Nat}(D:n≠0)(h:EU n x 1 0 s t):Q8 x n=s%n:=by
 obtain⟨⟨c,E⟩,_,_⟩:=h;refine zrb (Ix _ J) ?_;obtain⟨j,g⟩:=Q7 (x*(s%n)) n;obtain⟨z,A⟩:=Q7 s n;obtain⟨B,C⟩:=Q7 1 n;rw[Int.natCast_mul,A]at g;refine zfg (Ix _ J) (Ix _ J) (k:=c+x*z+j-B) ?_;rw[g,C]
 push_cast
 grind
def zh9{a n:Nat}(H:n≠0)(K:Nat.gcd a n=1):Q8 a n<n∧a*Q8 a n%n=1%n:=by
 have z:∀v u s t,EU n (a%n) u v s t→∃L M,EU n (a%n) (Nat.gcd (a%n) n) 0 L M:=by
  intro v
  induction v using Nat.strongRecOn with
  |_ v O =>
   intro u s t h;by_cases hv:v=0
   ·subst hv;rw[←gt h];exact⟨s,t,h⟩
   ·exact O (u%v) (Ix _ J) v t _ (zwr H h)
 obtain⟨s,t,h⟩:=z _ _ _ _ (ztm n (a%n));rw[←Mm,K7,K]at h;have e:=iu H h;have I:Q8 a n=s%n:=by
  refine zrb (Ix _ J) ?_;obtain⟨⟨c,g⟩,_,_⟩:=h;obtain⟨A,B⟩:=Q7 a n;obtain⟨C,j⟩:=Q7 (a*(s%n)) n;obtain⟨D,E⟩:=Q7 s n;obtain⟨F,G⟩:=Q7 1 n;rw[Int.natCast_mul,E]at j;rw[B]at g;refine zfg (Ix _ J) (Ix _ J) (k:=c-s*A+a*D+C-F) ?_;rw[j,G]
  push_cast at g ⊢
  grind
 refine⟨by rw[I];exact Ix _ J,?_⟩;rw[I];obtain⟨⟨c,g⟩,_,_⟩:=h;obtain⟨A,B⟩:=Q7 a n;obtain⟨C,j⟩:=Q7 (a*(s%n)) n;obtain⟨D,E⟩:=Q7 s n;obtain⟨F,G⟩:=Q7 1 n;rw[Int.natCast_mul,E]at j;rw[B]at g;refine zfg (Ix _ J) (Ix _ J) (k:=c-s*A+a*D+C-F) ?_;rw[j,G]
 push_cast at g ⊢
 grind
def l9{a n:Nat}(g:n≠0)(j:Nat.gcd a n=1):Q8 (a%n) n=Q8 a n:=by
 obtain⟨z,A⟩:=zh9 g j;exact zrb z (by rw[←A];simp[Kc])
def ua(a n:Nat):Int:=if n=0 then 2 else if Nat.gcd a n=1 then 0 else 5
def uw(a n:Nat):List UInt64:=if n≠0∧Nat.gcd a n=1 then M5 (Q8 a n) else []
def m8{n:Nat}{b:List UInt64}(h:n<val b):(M5 n).length≤b.length:=ai (Nat.lt_trans h (val_lt b))
def zfc{n:Nat}{b:List UInt64}(h:n≤val b):(M5 n).length≤b.length:=ai (Nat.lt_of_le_of_lt h (val_lt b))
def Qh(n:List UInt64):Bool:=decide (n.getD 0 0%2=1)
def zn3(n:List UInt64):Qh n=(val n).testBit 0:=by
 have h:=limb_at n 0;have e:(n.getD 0 0%2=1)↔(n.getD 0 0).toNat%2=1:=by
  constructor
  ·intro h;simpa using congrArg UInt64.toNat h
  ·intro h;apply Jd.1;simpa using h
 unfold Qh;rw[Nat.testBit_zero];simp only[e,h];simp
def zmq{n:List UInt64}(h:Qh n=true):val n%2=1:=by
 rw[zn3,Nat.testBit_zero]at h;simpa using h
def zrw{n:List UInt64}(h:Qh n=true):val n≠0:=by
 have:=zmq h;omega
def rdE(l:Int)(n:Nat):Int:=if l<0∨512<l then 2 else mE n
def rdR(l:Int)(n:Nat):List UInt64:=if l<0∨512<l then [] else mR n (2^(64*l.toNat)%n)
def reE(n:List UInt64)(l:Int):Int:=if Qh n=true∧0≤l∧l≤512 then 0 else 2
def U9(t n:List UInt64)(l:Int):List UInt64:=if Qh n=true∧0≤l∧l≤512 then M5 (val t*Q8 (2^(64*l.toNat)%val n) (val n)%val n) else []
def zmn{n:Nat}(h:n%2=1)(k:Nat):Nat.gcd (2^k) n=1:=by
 have g:Nat.Coprime 2 n:=by
  unfold Nat.Coprime;rw[Mm,h];decide
 exact g.pow_left k
def zcg{n:Nat}(h:n%2=1)(k:Nat):Nat.gcd (2^k%n) n=1:=by
 rw[←Mm,K7];exact zmn h k
def zxs(l:Nat):val (List.replicate l 0++[1])=2^(64*l):=by
 rw[val_append,val_rep0,zn4];simp
def Xp(a n:Nat):Nat.gcd (a%n) n=Nat.gcd a n:=by rw[←Mm,K7]
def ot{a n:Nat}:ua (a%n) n=ua a n:=by
 have e:(Nat.gcd (a%n) n=1)=(Nat.gcd a n=1):=by rw[Xp]
 unfold ua;simp only[e]
def o6{a n:Nat}:uw (a%n) n=uw a n:=by
 have e:(Nat.gcd (a%n) n=1)=(Nat.gcd a n=1):=by rw[Xp]
 unfold uw;simp only[e];by_cases h:n≠0∧Nat.gcd a n=1
 ·rw[Hv h,Hv h,l9 h.1 h.2]
 ·rw[Hs h,Hs h]
end
def Mr{l:List LV}{i:Nat}{v:LV}{g:LV→Prop}(h:l[i]?=some v):Oz l i g=g v:=by simp[Oz,h]
def Vs{f:vU→LV}{l:List vU}{i:Nat}{a:vU}(h:l[i]?=some a):(l.map f)[i]?=some (f a):=by simp[h]
mutual
def bor_self{G:Mp}(v:LV)(h:v.dat=true):bor G v v:=by
 cases v with
 |agg l=>simp only[LV.dat]at h;exact⟨l,rfl,bors_self l h⟩
 |nilSl=>exact .inl rfl
 |dy p k=>simp[LV.dat]at h
 |vw p k lo len=>simp[LV.dat]at h
 |_=>exact⟨rfl,h⟩
termination_by SizeOf.sizeOf v
def bors_self{G:Mp}(l:List LV)(h:dats l=true):bors G l l:=by
 cases l with
 |nil=>rfl
 |cons v l =>
  simp only[dats,Hq]at h;exact⟨v,l,rfl,bor_self v h.1,bors_self l h.2⟩
termination_by SizeOf.sizeOf l
end
def ac(p:vU→Bool)(l:List vU):Int:=if l.findIdx p<l.length then (l.findIdx p:Int) else -1
def lf{p:vU→Bool}{l:List vU}{i:Nat}{a:vU}(h:l[i]?=some a)(j:p a=true)(z:∀g b,g<i→l[g]?=some b→p b=false):ac p l=i:=by
 obtain⟨hi,rfl⟩:=Hm.1 h;have:l.findIdx p=i:=(List.findIdx_eq hi).2 ⟨j,λg A=>z g _ A (Ht _)⟩;rw[ac,this,Hv hi]
def zuk{p:vU→Bool}{l:List vU}{i:Nat}(hi:l.length≤i)(j:∀g b,g<i→l[g]?=some b→p b=false):ac p l=-1:=by
 have:l.findIdx p=l.length:=List.findIdx_eq_length.2 λa z=>by
  obtain⟨g,A,rfl⟩:=Js.1 z;exact j g _ J (Ht _)
 rw[ac,this,Hs J]
def Xx(p:vU→Bool)(l:List vU):decide (0≤ac p l)=l.any p:=by
 unfold ac;by_cases h:l.findIdx p<l.length
 ·rw[Hv h,I7 J];exact (Iw.2 ⟨_,Kj h,List.findIdx_getElem⟩).symm
 ·rw[Hs h,Li J];have g:=List.findIdx_eq_length.1 (Cv:l.findIdx p=l.length);exact (Kz.2 λx j=>by simp[g x j]).symm
def se(l:List Int)(j:Nat)(x:Int)(h:j<l.length):Ns (l.map .i) j [.i x]=(l.set j x).map .i:=by
 unfold Ns;rw[Io,Hv h];simp[Lf,List.map_drop]
def gd(l:List Int)(u:Nat):Int:=l.getD u 0
def gd_set(l:List Int)(g u:Nat)(x:Int)(h:g<l.length):gd (l.set g x) u=if u=g then x else gd l u:=by
 simp only[gd,Hn,Lm];by_cases e:g=u
 ·subst e;simp[h]
 ·simp[e,Ne.symm e]
def Wb{l:List Int}{u:Nat}(h:u<l.length):l[u]?=some (gd l u):=by simp[gd,Hn,h]
def strict(l:List Int)(m:Nat):Prop:=∀u v,u<v→v<m→gd l u<gd l v
structure Cmp (l0 l:List Int) (m d:Nat):Prop where
 len:l.length=l0.length
 m1:1≤m
 md:m≤d
 st:strict l m
 mem:∀x,(∃u,u<m∧gd l u=x)↔∃u,u<d∧gd l0 u=x
 last:gd l (m-1)=gd l0 (d-1)
 rest:∀u,d-1≤u→gd l u=gd l0 u∨u<m
def ce{a r:List LV}{m:Nat}(h:m≤a.length):(Ns a m r).take m=a.take m:=by
 unfold Ns;rw[I8,Lz (by rw[Jp];omega),Me,Nat.min_self]
def zw5{a r:List LV}{m:Nat}(h:m+r.length=a.length):(Ns a m r).length=a.length:=by
 unfold Ns;simp;omega
def ztk{v:LV}(h:v.dat=true):∀n,dats (Oj [v] n)=true
 |0=>rfl
 |n+1=>by simp[Oj,dats,h,ztk h n]
end Go.Sv
