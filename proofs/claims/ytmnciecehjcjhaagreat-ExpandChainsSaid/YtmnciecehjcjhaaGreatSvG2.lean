/- Texts of the evaluator, of the logic over it, of plain arithmetic. -/
import Derived.Test.YtmnciecehjcjhaaGreatSvG1
import Derived.OpenShut
import Derived.Carry
import Derived.WalkKit
import Derived.ProofKit
import Derived.WideKeyArgs
import Derived.ChangeCalls
set_option linter.unusedSimpArgs false
set_option linter.defProp false
namespace Go.Sv
variable{g j A M Z:Nat}{vY:Int}{C:Program}{G:World}{K:Bool}{U:UInt64}{V:TypeId}{vT:Type}{vR:Array Value}{vQ:Option Nat}{vF:List UInt64}{vA:List Nat}{uX:Code}{D vX:Heap}{E:AV}{O vC:Tr AV}{I:CM}{F vV:List LV}{P:Ok}{Q:LV}{vZ:LV→Ok→Prop}{u9:Cx}
section
section res
variable {P : Program} {c : Cx} {G : Ok} {K : LV → Ok → Prop}
def zme(l h m o v i j:Nat)(A:l≤h)(B:h≤m):(h-l=0∧fq l h m o v i j=.emp∧l≠0)∨∃g,fq l h m o v i j=.sl o v (i+l*j) (h-l) j g∧∀r,g=some r→h-l≤r:=by
 unfold fq;cases C:Nat.beq l m with
 |true =>
  have E:=Kc C;cases z:Nat.beq l 0 with
  |true =>
   have D:=Kc z;have:h-l=0:=J
   refine .inr ⟨some 0,?_,λr _=>J⟩;rw[this,D];simp
  |false=>exact .inl ⟨J,rfl,λe=>by subst e;cases z⟩
 |false=>exact .inr ⟨_,rfl,λr e=>by cases e;show h-l≤m-l;omega⟩
def z89{lo hi:Option Nat}{o v i len esz:Nat}{room:Option Nat}(j:lo.getD 0≤hi.getD len)(B:hi.getD len≤len)(C:∀r,room=some r→len≤r) :
  ∃a,Wf esz lo hi none o v i len esz room=some a∧ql a=true∧((hi.getD len-lo.getD 0=0∧a=.emp∧lo.getD 0≠0)∨∃g,a=.sl o v (i+lo.getD 0*esz) (hi.getD len-lo.getD 0) esz g∧∀r,g=some r→hi.getD len-lo.getD 0≤r):=by
 generalize F:lo.getD 0=l at j;generalize H:hi.getD len=h at j B;have z:∀a,((h-l=0∧a=.emp∧l≠0)∨∃g,a=AV.sl o v (i+l*esz) (h-l) esz g∧∀r,g=some r→h-l≤r)→ql a=true:=by
  rintro a (⟨_,rfl,_⟩|⟨_,rfl,_⟩)<;>rfl
 unfold Wf;rw[K0,F,H];dsimp only;unfold tz;have D:Nat.ble l h=true:=Ka j;cases room with
 |some r =>
  have A:Nat.ble h ((some r).getD len)=true:=Ka (by have:=C r rfl;show h≤r;omega);rw[D,A];dsimp only;have:=zme l h r o v i esz j (by have:=C r rfl;omega);exact⟨_,rfl,z _ this,this⟩
 |none =>
  have A:Nat.ble h ((none:Option Nat).getD len)=true:=Ka B;rw[D,A];dsimp only;cases E:Nat.beq l 0 with
  |true =>
   have I:=Kc E;have:(h-l=0∧(AV.sl o v i h esz none)=.emp∧l≠0)∨∃g,AV.sl o v i h esz none=AV.sl o v (i+l*esz) (h-l) esz g∧∀r,g=some r→h-l≤r:=.inr ⟨none,by rw[I];simp,λr e=>An⟩;exact⟨_,rfl,z _ this,this⟩
  |false =>
   cases L:Nat.beq l h with
   |true =>
    have M:=Kc L;exact⟨_,rfl,rfl,.inl ⟨J,rfl,λe=>by subst e;cases E⟩⟩
   |false=>exact⟨_,rfl,rfl,.inr ⟨none,rfl,λr e=>An⟩⟩
def zdk{lo hi:Option Nat}{o v i len esz m:Nat}{room:Option Nat}(z:lo.getD 0≤hi.getD len)(A:hi.getD len≤m)(hm:m≤len)(C:∀r,room=some r→len≤r) :
  ∃a,Wf esz lo hi (some m) o v i len esz room=some a∧ql a=true∧((hi.getD len-lo.getD 0=0∧a=.emp∧lo.getD 0≠0)∨∃g,a=.sl o v (i+lo.getD 0*esz) (hi.getD len-lo.getD 0) esz g∧∀r,g=some r→hi.getD len-lo.getD 0≤r):=by
 generalize D:lo.getD 0=l at z;generalize E:hi.getD len=h at z A;have B:∀a,((h-l=0∧a=.emp∧l≠0)∨∃g,a=AV.sl o v (i+l*esz) (h-l) esz g∧∀r,g=some r→h-l≤r)→ql a=true:=by
  rintro a (⟨_,rfl,_⟩|⟨_,rfl,_⟩)<;>rfl
 unfold Wf;rw[K0,D,E];dsimp only;unfold tz;have j:m≤room.getD len:=by
  cases room with
  |none=>exact hm
  |some r=>have:=C r rfl;show m≤r;omega
 rw[show Nat.ble l h=true from Ka z,show Nat.ble h (room.getD len)=true from Ka (K4 A j)];dsimp only;rw[show Nat.ble h m=true from Ka A,show Nat.ble m (room.getD len)=true from Ka j];dsimp only;have:=zme l h m o v i esz z A;exact⟨_,rfl,B _ this,this⟩
def ze0{hi:Option Nat}{o v i len:Nat}{z:Option Nat}{a:AV}(h:Wf g vQ hi none o v i len j z=some a)(A:vQ.getD 0=0):∃B n,a=.sl o v B n j z:=by
 unfold Wf at h;split at h
 ·cases h
 rw[A]at h;unfold tz at h;split at h
 ·cases h
 split at h
 ·cases h
 dsimp only at h;cases z with
 |some r =>
  dsimp only at h;cases h;unfold fq;split
  ·rename_i C;have:=Kc C;subst this;exact⟨_,_,rfl⟩
  ·exact⟨_,_,rfl⟩
 |none =>
  dsimp only at h;cases h;exact⟨_,_,rfl⟩
def zkk{lo hi:Option Nat}{o v i len esz:Nat}{room:Option Nat}{a:AV}(h:Wf g lo hi none o v i len esz room=some a)(z:j=0→lo.getD 0=0)(A:E=.sl o v 0 len esz room):Zn j E a:=by
 intro B;obtain⟨C,n,rfl⟩:=ze0 h (z B);subst A;exact .inl rfl
def zjt{lo hi:Option Nat}{o v i len esz:Nat}{a:AV}(h:Wf g lo hi none o v i len esz vQ=some a)(z:j=0→lo.getD 0=0∧A=0)(C:Zn A E (.sl o v M Z esz vQ)):Zn j E a:=by
 intro B;obtain⟨D,n,rfl⟩:=ze0 h (z B).1;exact C (z B).2
def zk3{lo hi:Option Nat}{o v i len esz m:Nat}{room:Option Nat}{a:AV}(h:Wf g lo hi (some m) o v i len esz room=some a)(z:j=0→lo.getD 0=0)(hm:m≤len)(B:E=.sl o v 0 len esz room):Zn j E a:=by
 intro C;have z:=z C;subst B;unfold Wf at h;split at h
 ·cases h
 rw[z]at h;unfold tz at h;split at h
 ·cases h
 split at h
 ·cases h
 dsimp only at h;split at h
 ·cases h
 split at h
 ·cases h
 cases h;have D:∃(A n r:Nat),fq 0 (hi.getD len) m o v i esz=.sl o v A n esz (some r)∧r≤m:=by
  unfold fq;cases Nat.beq 0 m with
  |true=>exact⟨_,_,0,rfl,M6 _⟩
  |false=>exact⟨_,_,m-0,rfl,Nat.sub_le _ _⟩
 obtain⟨A,n,r,e,F⟩:=D;rw[e];exact .inr ⟨r,rfl,J⟩
def zkx{lo hi:Option Nat}{o v i len esz m:Nat}{room:Option Nat}{a:AV}(h:Wf g lo hi (some m) o v i len esz room=some a)(z:lo.getD 0=0)(A:hi.getD len=m)(hm:0<m):a=.sl o v i m esz (some m):=by
 unfold Wf at h;split at h
 ·cases h
 rw[z,A]at h;unfold tz at h;split at h
 ·cases h
 split at h
 ·cases h
 dsimp only at h;split at h
 ·cases h
 split at h
 ·cases h
 cases h;unfold fq;have j:Nat.beq 0 m=false:=by
  cases j:Nat.beq 0 m with
  |false=>rfl
  |true=>have:=Kc j;omega
 rw[j];dsimp only;rw[show Nat.add i (Nat.mul 0 esz)=i by show i+0*esz=i;omega,show Nat.sub m 0=m from rfl]
def AR.lst'{l:List LV}{len esz:Nat}{a:AV}{o v i n:Nat}{l':List AV}(hf:c.Fz o)(hr:Sd c.H o v i n=some l')(hl:ARs c l l')(hle:j*esz+len*esz≤n)
  (ha:(len=0∧a=.emp)∨∃room,a=.sl o v (i+j*esz) len esz room∧∀r,room=some r→len≤r):AR c (.lst ((l.drop (j*esz)).take (len*esz)) len esz) a:=by
 have hn:=zcu hr;have gA:=hl.length;rcases ha with ⟨rfl,rfl⟩|⟨room,rfl,gg⟩
 ·simp only[Mn,N9];exact .lstEmp
 ·exact .lst hf gg Ab (zih hr hle) ((hl.drop _).take _)
def zlx(g:Bool)(a b:Int):Zs g (.int .i64 a) [.int .i64 b]=some (.int .i64 (match g with|true=>max a b|false=>min a b)):=by
 have j:Yw .i64 .i64=true:=rfl;simp only[Zs,X6,j];cases g with
 |true =>
  simp only[Vv];by_cases h:a<b
  ·rw[Ll h];simp only;congr 2;omega
  ·rw[Nh h];simp only;congr 2;omega
 |false =>
  simp only[Vv];by_cases h:b<a
  ·rw[Ll h];simp only;congr 2;omega
  ·rw[Nh h];simp only;congr 2;omega
def mc(z:Bool)(a b d:Int):Zs z (.int .i64 a) [.int .i64 b,.int .i64 d]=some (.int .i64 (match z with|true=>max (max a b) d|false=>min (min a b) d)):=by
 cases z with
 |true =>
  have g:=zlx true a b;have j:=zlx true (max a b) d;simp only[Zs]at g j ⊢;cases hm:X6 true (.int .i64 a) (.int .i64 b) with
  |none=>rw[hm]at g;cases g
  |some r =>
   rw[hm]at g;simp only[Option.some.injEq]at g;subst g;exact j
 |false =>
  have g:=zlx false a b;have j:=zlx false (min a b) d;simp only[Zs]at g j ⊢;cases hm:X6 false (.int .i64 a) (.int .i64 b) with
  |none=>rw[hm]at g;cases g
  |some r =>
   rw[hm]at g;simp only[Option.some.injEq]at g;subst g;exact j
def maxi_u(g:Bool)(a b:UInt64):Zs g (.int .u64 (Int.ofNat a.toNat)) [.int .u64 (Int.ofNat b.toNat)]=some (.int .u64 (Int.ofNat (match g with|true=>if a<b then b else a|false=>if b<a then b else a:UInt64).toNat)):=by
 have j:Yw .u64 .u64=true:=rfl;simp only[Zs,X6,j];cases g with
 |true =>
  simp only[Vv,zey];by_cases h:a<b
  ·rw[Ll h,J8 h]
  ·rw[Nh h,J2 h]
 |false =>
  simp only[Vv,zey];by_cases h:b<a
  ·rw[Ll h,J8 h]
  ·rw[Nh h,J2 h]
def bytesA_map:∀l:List UInt8,W6.bytesA (l.map λb=>AV.int .u8 (Int.ofNat b.toNat))=some (Qe l)
 |[]=>rfl
 |b::l=>by
  have g:=b.toNat_lt;have h:Nat.blt b.toNat 256=true:=by unfold Nat.blt;exact Ka g
  simp only[Mp,W6.bytesA,h,M5,bytesA_map l,Qe]
def ARs_b:∀{j:List UInt8} {g:List AV},ARs c (j.map LV.b) g→g=j.map λb=>AV.int .u8 (Int.ofNat b.toNat)
 |[],g,h=>Cb
 |b::j,g,h=>by
  cases h with
  |cons h z=>cases h;rw[ARs_b z];rfl
def qj(O:HSim c G){x:LV}{a:AV}{K:List LV→Prop}(D:AR c x a)(h:ze G x K):∃l j,ARs c l j∧K l∧((a=.nilSl∧j=[])∨∃o v i room,a=.sl o v i j.length 1 room∧Sd c.H o v i j.length=some j):=by
 unfold ze at h;split at h
 ·cases D;exact⟨[],[],.nil,h,.inl ⟨rfl,rfl⟩⟩
 ·rename_i p k;split at h
  ·rename_i l len E Q st R;obtain⟨T,rfl,h⟩:=h;cases D with
   | @dy _ _ k' hh _ e hk U _ =>
    obtain⟨r0,H,A⟩:=O.obj p _ _ _ R e;have B:=U J;rcases A with ⟨A,F⟩|⟨o,v,room,t,I,j,A,F,V,X,L,_⟩
    ·subst F;have:l=[]:=Kk Gb;subst this;exact⟨[],[],.nil,h,.inl ⟨B.trans A,rfl⟩⟩
    ·have g:j.length=len*1:=by rw[←L.length];exact H
     have z:=W1 (i:=0) (n:=len*1) F X V J;rw[Nl]at g z;refine⟨l,j,L,h,.inr ⟨o,v,0,room,by rw[B,A,g],?_⟩⟩;rw[g,z,Mg,Kf J]
  ·exact h.elim
 ·rename_i l len E;obtain⟨rfl,C,h⟩:=h;cases D with
  |lst hf Y M z Z =>
   have g:=zcu z;rw[Nl]at g z;refine⟨l,_,Z,h,.inr ⟨_,_,_,_,by rw[g],by rw[g];exact z⟩⟩
  |lstNil=>exact absurd rfl C
  |lstEmp=>exact absurd rfl C
 ·exact h.elim
def yz(z:HSim c G){ρ:Om}(B:Pt c ρ O){o:LOp}(g:o.ok=true)(h:Pb P ρ G o K):Tf P c G K (P6 P (ρA O) c.H o.r):=by
 cases o with
 |move x=>exact .same z (P5 B g) h
 |pick cc a b =>
  simp only[LOp.ok,Jz]at g;have hc:=P5 B g.1.1;have ha:=P5 B g.1.2;have hb:=P5 B g.2;simp only[Pb]at h;simp only[LOp.r,P6];generalize cc.ev ρ=cv at h hc;generalize cc.r.ev (ρA O)=ca at hc ⊢;cases cv<;>first|exact h.elim|skip
  rename_i t;cases hc;dsimp only at h;split at h
  ·rename_i x y j hy;rw[j]at ha;rw[hy]at hb;cases t with
   |true=>exact .same z ha h
   |false=>exact .same z hb h
  ·cases t with
   |true=>exact .same z ha (h.1 rfl)
   |false=>exact .same z hb (h.2 rfl)
 |alloc l=>exact zie z (uk c g) h
 |box x =>
  have j:=P5 B g;simp only[Pb]at h;simp only[LOp.r,P6];split at h
  ·rename_i l Y;obtain⟨l',E,C⟩:=j.cells Y;rw[E];exact zie z C h
  ·exact h.elim
 |build cs ps =>
  simp only[LOp.ok,Jz]at g;simp only[Pb]at h;simp only[LOp.r,P6];split at h
  ·rename_i l Y;obtain⟨l',E,C⟩:=zja B g.2 (uk c g.1) Y;rw[E];exact .same z (.agg C) h
  ·exact h.elim
 |buildSl A len cs ps =>
  simp only[LOp.ok,Jz]at g;simp only[Pb]at h;simp only[LOp.r,P6];split at h
  ·rename_i l Y;obtain⟨l',E,C⟩:=zja B g.2 (uk c g.1) Y;rw[E];exact n9 z C h.1 (λr e=>by cases e;rfl) h.2
  ·exact h.elim
 |load1 x =>
  have j:=P5 B g;simp only[Pb]at h;simp only[LOp.r,P6];obtain⟨o,v,i,w,b,E,C,M,H⟩:=zpc z j h;rw[E];dsimp only;rw[C];exact .same z M H
 |loadN n x =>
  have j:=P5 B g;simp only[Pb]at h;simp only[LOp.r,P6];obtain⟨o,v,i,l',l,E,C,M,H⟩:=zjc z j h;rw[E];dsimp only;rw[C];exact .same z (.agg M) H
 |store n x y =>
  simp only[LOp.ok,Jz]at g;have j:=P5 B g.1;have hy:=P5 B g.2;simp only[Pb]at h;simp only[LOp.r,P6];split at h
  ·rename_i l Y;obtain⟨l',p1,p2⟩:=hy.cells Y;obtain⟨o,v,i,H',c',G',E,C,M,H,Q,q6⟩:=z9s z j p2 h.2;rw[E];dsimp only;rw[p1];dsimp only;have hb:Nat.beq l'.length n=true:=by rw[←p2.length,h.1];exact K0 _
   rw[hb];dsimp only;rw[C];exact⟨c',.tup [],G',M,H,Q,.tup .nil,q6⟩
  ·exact h.elim
 |nilChk x =>
  have j:=P5 B g;simp only[Pb]at h;simp only[LOp.r,P6];generalize x.ev ρ=v at h j;generalize x.r.ev (ρA O)=a at j ⊢;split at h
  ·have h0:=j;cases j;exact .same z h0 h
  ·have h0:=j;cases j;exact .same z h0 h
  ·have h0:=j;cases j;exact .same z h0 h
  ·have h0:=j;cases j;exact .same z h0 h
  ·exact h.elim
 |bin op jK t x y =>
  simp only[LOp.ok,Jz]at g;exact .ret z (mr (P5 B g.1) (P5 B g.2) h)
 |un op x=>exact .ret z (unL_ok (P5 B g) h)
 |cvInt k x =>
  obtain⟨k',n,E,v,C,M⟩:=yn (P5 B g) (show en k (x.ev ρ) (λv=>K v G) from h);simp only[LOp.r,P6];rw[E];exact .same z C M
 |cvStr x =>
  have j:=P5 B g;simp only[Pb]at h;simp only[LOp.r,P6];obtain⟨l,l',E,⟨bs,rfl,C⟩,M⟩:=qj z j h;have jz:=ARs_b E;rcases M with ⟨M,H⟩|⟨o,v,i,room,M,H⟩
  ·rw[M];rw[H]at jz;have:bs=[]:=by cases bs with
    |nil=>rfl
    |cons _ _=>cases jz
   subst this;exact .same z (.str []) C
  ·rw[M];show Tf P c G K (match Sd c.H o v i l'.length with
    |some r=>match W6.bytesA r with
     |some n=>OR.val (.str l'.length n) c.H
     |none=>.no
    |none=>.no)
   rw[H];dsimp only;rw[jz,bytesA_map];dsimp only;exact .same z (.str' N rfl) C
 |cvSame x =>
  have j:=P5 B g;simp only[Pb]at h;simp only[LOp.r,P6];generalize x.ev ρ=v at h j;generalize x.r.ev (ρA O)=a at j ⊢;split at h
  ·cases j;exact .same z (.str _) h
  ·exact h.elim
 |cvBytes x =>
  have j:=P5 B g;simp only[Pb]at h;simp only[LOp.r,P6];generalize x.ev ρ=v at h j;generalize x.r.ev (ρA O)=a at j ⊢;split at h
  ·rename_i l;cases j;exact n9 z (zmp l c) N (λr e=>An) h
  ·exact h.elim
 |mkFunc f a b =>
  simp only[LOp.ok,Jz]at g;exact .same z (.fn (zra B g.1) (zra B g.2)) h
 |mkSl A jL l cc =>
  simp only[LOp.ok,Jz]at g;have Y:=P5 B g.1.2;have hc:=P5 B g.2;simp only[Pb]at h;simp only[LOp.r,P6];generalize l.ev ρ=lv at h Y;generalize l.r.ev (ρA O)=la at Y ⊢;generalize cc.ev ρ=cv at h hc;generalize cc.r.ev (ρA O)=ca at hc ⊢;split at h
  ·rename_i n m;obtain⟨rfl,F,U,L,h4⟩:=h;cases Y;cases hc;obtain⟨k,rfl⟩:=J3 F;have b1:Nat.ble k k=true:=Ka (J4 _);have b2:Nat.ble k 1048576=true:=Ka J;show Tf P c G K (match Nat.ble k k with
    |true=>match Nat.ble k 1048576 with
     |true=>match newObj c.H (Up (toAs jL) k) with
      |some (o,H')=>OR.val (.sl o 0 0 k A (some k)) H'
      |none=>.no
     |false=>.no
    |false=>.no)
   rw[b1,b2];exact n9 z ((uk c g.1.1).rep k) (by rw[z66,L]) (λr e=>by cases e;rfl) h4
  ·exact h.elim
 |slStr x lo hi =>
  simp only[LOp.ok,Jz]at g;have j:=P5 B g.1.1;simp only[Pb]at h;simp only[LOp.r,P6];generalize x.ev ρ=v at h j;generalize x.r.ev (ρA O)=a at j ⊢;split at h
  ·rename_i l;cases j;obtain⟨gg,V,E,C,M⟩:=Wg B g.1.2 h;obtain⟨R,T,H,Q,F,U,L⟩:=Wg B g.2 M;rw[E,H];dsimp only;rw[C,Q];have b1:Nat.ble V T=true:=Ka F;have b2:Nat.ble T l.length=true:=Ka U;rw[b1,b2];dsimp only;refine .same z (.str' Ab ?_) L;rw[packL_take,packL_drop];rfl
  ·exact h.elim
 |slSl A x lo hi =>
  simp only[LOp.ok,Jz]at g;have j:=P5 B g.1.1;simp only[Pb]at h;simp only[LOp.r,P6];have gL:Qz (ρA O) none=some none:=rfl;rw[gL];split at h
  ·rename_i hv;rw[hv]at j;generalize x.r.ev (ρA O)=a at j ⊢;cases j;obtain⟨gg,V,E,C,M⟩:=Wg B g.1.2 h;obtain⟨R,T,H,Q,F,U,L⟩:=Wg B g.2 M;rw[E,H];dsimp only;rw[C,Q,F,U];exact .same z .nilSl L
  ·rename_i p k hv;rw[hv]at j;generalize x.r.ev (ρA O)=a at j ⊢;split at h
   ·rename_i l len esz gA st Z;obtain⟨gB,rfl,h⟩:=h;obtain⟨gg,V,E,C,M⟩:=Wg B g.1.2 h;obtain⟨R,T,H,Q,F,U,L⟩:=Wg B g.2 M;rw[E,H];cases j with
    | @dy _ _ k' hh _ e hk ha _ =>
     obtain⟨r0,r1,X⟩:=z.obj p _ _ _ Z e;have gD:=ha J;rcases X with ⟨X,r3⟩|⟨o,v,room,t,gM,l',X,r3,r4,r5,r6,r7,r8⟩
     ·subst r3;have e1:V=0:=J
      have e2:T=0:=J
      subst e1 e2;rw[gD,X];dsimp only;rw[C,show R.getD 0=0 from Q];exact .same z (.vw e hk (λ_=>.inl ⟨rfl,.inl rfl⟩) rfl (λ_ _=>trivial)) L
     ·obtain⟨a2,p1,p2,p3⟩:=z89 (lo:=gg) (hi:=R) (o:=o) (v:=v) (i:=0) (esz:=esz) (len:=len) (room:=room) Cq Cy (λr e'=>(r7 r e').2);rw[gD,X];dsimp only;rw[p1];rw[C,Q,Kw]at p3;refine .same z (.vw e hk (λ_=>?_) p2 (λ_=>zkk p1 (λh0=>by rw[C];exact h0) X)) L;rcases p3 with ⟨p3,p4,p5⟩|⟨I,p4⟩
      ·exact .inl ⟨p3,.inr ⟨p4,p5⟩⟩
      ·exact .inr ⟨o,v,len,esz,room,I,X,p4⟩
   ·exact h.elim
  ·rename_i p k l0 len hv;rw[hv]at j;generalize x.r.ev (ρA O)=a at j ⊢;split at h
   ·rename_i l gG esz gA st Z;obtain⟨gB,rfl,h⟩:=h;obtain⟨gg,V,E,C,M⟩:=Wg B g.1.2 h;obtain⟨R,T,H,Q,F,U,L⟩:=Wg B g.2 M;rw[E,H];cases j with
    | @vw _ _ _ _ k' hh _ e hk ha _ hz =>
     have jM:=(z.obj p _ _ _ Z e).1;rcases ha J with ⟨r3,r4⟩|⟨o,v,gC,D,room,I,r3,r4,r9⟩
     ·subst r3;have e1:V=0:=J
      have e2:T=0:=J
      subst e1 e2;rcases r4 with rfl|⟨rfl,r5⟩
      ·dsimp only;rw[C,show R.getD 0=0 from Q];exact .same z (.vw e hk (λ_=>.inl ⟨rfl,.inl rfl⟩) rfl (λ_ _=>trivial)) L
      ·dsimp only;rw[C,show R.getD 0=0 from Q];exact .same z (.vw e hk (λ_=>.inl ⟨rfl,.inr ⟨rfl,r5⟩⟩) rfl (λ_ _=>trivial)) L
     ·subst r3;obtain⟨_,w1,w2,w3,_⟩:=ai z Z e;subst w2 w3;obtain⟨a2,p1,p2,p3⟩:=z89 (lo:=gg) (hi:=R) (o:=o) (v:=v) (i:=l0*D) (esz:=D) (len:=len) (room:=I) Cq Cy r9;rw[r4];dsimp only;rw[p1];rw[C,Q]at p3;refine .same z (.vw e hk (λ_=>?_) p2 (λq=>zjt p1 (λh0=>⟨by rw[C];omega,J⟩) (r4 ▸ hz q))) L;rcases p3 with ⟨p3,p4,p6⟩|⟨jA,p4,p5⟩
      ·exact .inl ⟨p3,.inr ⟨p4,J⟩⟩
      ·exact .inr ⟨o,v,_,D,room,jA,rfl,by rw[p4,Ku],p5⟩
   ·exact h.elim
  ·rename_i l len esz hv;rw[hv]at j;generalize x.r.ev (ρA O)=a at j ⊢;obtain⟨rfl,h⟩:=h;obtain⟨gg,V,E,C,M⟩:=Wg B g.1.2 h;obtain⟨R,T,H,Q,F,U,L⟩:=Wg B g.2 M;rw[E,H];have gY:len=0→l=[]→K (.lst [] 0 esz) G:=λe1 e2=>by
    have e3:V=0:=J
    have e4:T=0:=J
    subst e2 e3 e4;simpa using L
   cases j with
   |lst hf gK gH hr Y =>
    obtain⟨a2,p1,p2,p3⟩:=z89 (lo:=gg) (hi:=R) Cq Cy gK;dsimp only;rw[p1];rw[C,Q]at p3;refine .same z (.lst' hf hr Y ?_ (p3.imp (λh=>⟨h.1,h.2.1⟩) id)) L;rw[←Ku];exact Ki _ J
   |lstNil =>
    have e3:V=0:=J
    have e4:T=0:=J
    dsimp only;rw[C,show R.getD 0=T from Q,e3,e4];exact .same z .lstNil (gY rfl rfl)
   |lstEmp =>
    have e3:V=0:=J
    have e4:T=0:=J
    dsimp only;rw[C,show R.getD 0=T from Q,e3,e4];exact .same z .lstEmp (gY rfl rfl)
  ·exact h.elim
 |slSl3 A x lo hi mx =>
  simp only[LOp.ok,Jz]at g;have j:=P5 B g.1.1.1;have jF:ko (some mx)=true:=g.2;simp only[Pb]at h;simp only[LOp.r,P6];split at h
  ·rename_i p k hv;rw[hv]at j;generalize x.r.ev (ρA O)=a at j ⊢;split at h
   ·rename_i l len esz gA st Z;obtain⟨gB,rfl,h⟩:=h;obtain⟨gg,V,E,C,M⟩:=Wg B g.1.1.2 h;obtain⟨R,T,H,Q,q6⟩:=Wg B g.1.2 M;obtain⟨gO,gR,q7,q8,h0,F,U,L,h4⟩:=Wg B jF q6;simp only[L6]at q7;rw[E,H,q7];cases j with
    | @dy _ _ k' hh _ e hk ha _ =>
     obtain⟨r0,r1,X⟩:=z.obj p _ _ _ Z e;have gD:=ha J;have gL:gO=some gR:=by
      cases gO with
      |none=>unfold Qz at q7;dsimp only at q7;split at q7<;>cases q7
      |some m=>simp at q8;rw[q8]
     rcases X with ⟨X,r3⟩|⟨o,v,room,t,gM,l',X,r3,r4,r5,r6,r7,r8⟩
     ·omega
     ·obtain⟨a2,p1,p2,p3⟩:=zdk (lo:=gg) (hi:=R) (o:=o) (v:=v) (i:=0) (esz:=esz) (len:=len) (room:=room) (m:=gR) Cq Cy L (λr e'=>(r7 r e').2);rw[gD,X,gL];dsimp only;rw[p1];rw[C,Q,Kw]at p3;unfold ul at h4;split at h4
      ·rename_i jG;obtain⟨f1,f2,f3⟩:=M4 jG;have hc:=zkx p1 (by rw[C];exact f1) (by rw[Q];exact f2) J;exact .same z (.vf e hk (λ_=>⟨o,v,len,esz,room,X,by rw[hc,f2]⟩) p2) h4
      refine .same z (.vw e hk (λ_=>?_) p2 (λ_=>zk3 p1 (λh0=>by rw[C];exact h0) L X)) h4;rcases p3 with ⟨p3,p4,p5⟩|⟨I,p4⟩
      ·exact .inl ⟨p3,.inr ⟨p4,p5⟩⟩
      ·exact .inr ⟨o,v,len,esz,room,I,X,p4⟩
   ·exact h.elim
  ·rename_i l len esz hv;rw[hv]at j;generalize x.r.ev (ρA O)=a at j ⊢;obtain⟨rfl,h⟩:=h;obtain⟨gg,V,E,C,M⟩:=Wg B g.1.1.2 h;obtain⟨R,T,H,Q,q6⟩:=Wg B g.1.2 M;obtain⟨gO,gR,q7,q8,h0,F,U,L,h4⟩:=Wg B jF q6;simp only[L6]at q7;rw[E,H,q7];have gL:gO=some gR:=by
    cases gO with
    |none=>unfold Qz at q7;dsimp only at q7;split at q7<;>cases q7
    |some m=>simp at q8;rw[q8]
   cases j with
   |lst hf gK gH hr Y =>
    obtain⟨a2,p1,p2,p3⟩:=zdk (lo:=gg) (hi:=R) (m:=gR) Cq Cy L gK;rw[gL];dsimp only;rw[p1];rw[C,Q]at p3;refine .same z (.lst' hf hr Y ?_ (p3.imp (λh=>⟨h.1,h.2.1⟩) id)) h4;rw[←Ku];exact Ki _ J
   |lstNil=>omega
   |lstEmp=>omega
  ·exact h.elim
 |fieldAddr gX x =>
  have j:=P5 B g;simp only[Pb]at h;simp only[LOp.r,P6];generalize x.ev ρ=v at h j;generalize x.r.ev (ρA O)=a at j ⊢;split at h
  ·cases j with
   |ptr e=>exact .same z (.ptr e) h
  ·cases j with
   |dptr e hk ha=>exact .same z (.dptr e hk (λq=>⟨by rw[(ha q).1];rfl,(ha q).2⟩)) h
  ·cases j with
   |cptr hf hr Y =>
    dsimp only;rw[show ∀a b c:Nat,Nat.add (a+b) c=a+(b+c) from λa b c=>Ly a b c];exact .same z (.cptr hf hr Y) h
  ·exact h.elim
 |field jK n gX x =>
  have j:=P5 B g;simp only[Pb]at h;simp only[LOp.r,P6];generalize x.ev ρ=v at h j;generalize x.r.ev (ρA O)=a at j ⊢;split at h
  ·rename_i l;cases j with
   |agg Y =>
    dsimp only;cases jK with
    |true =>
     obtain⟨F,U⟩:=h;have jB:=Y.length;rename_i l';have b1:Nat.ble (Nat.add gX n) l'.length=true:=Ka (show gX+n≤l'.length by rw[←jB];exact F);refine .ret z ?_;simp only[fk,Zf,b1];exact .mk (.agg ((Y.drop gX).take n)) U
    |false =>
     obtain⟨v,hv,h⟩:=h;obtain⟨a,E,C⟩:=Y.get hv;refine .ret z ?_;simp only[fk];rw[E];exact .mk C h
  ·exact h.elim
 |ixAddr A x i =>
  simp only[LOp.ok,Jz]at g;have j:=P5 B g.1;have hi:=P5 B g.2;simp only[Pb]at h;simp only[LOp.r,P6];generalize i.ev ρ=iv at h hi;generalize i.r.ev (ρA O)=ia at hi ⊢;generalize x.ev ρ=v at h j;generalize x.r.ev (ρA O)=a at j ⊢
  have gZ : ∀ {kk : IntKind} {n : Int} (v : LV) (a : AV), AR c v a → ixO G A v n (fun v => K v G) → Tf P c G K (match a, AV.int kk n with
     |.sl o v i len esz _,.int _ (.ofNat n)=>match Nat.blt n len with
      |true=>match Nat.beq esz A with
       |true=>.val (.ptr o v (Nat.add i (Nat.mul n esz))) c.H
       |false=>.no
      |false=>.no
     |_,_=>.no):=by
   clear h j;intro kk n v a j h;unfold ixO at h;have gF:∀{o v jQ len esz:Nat} {room:Option Nat} {m:Nat} {y:LV},m<len→esz=A→AR c y (.ptr o v (jQ+m*esz))→K y G→Tf P c G K (match AV.sl o v jQ len esz room,AV.int kk (Int.ofNat m) with
     |.sl o v i len esz _,.int _ (.ofNat n)=>match Nat.blt n len with
      |true=>match Nat.beq esz A with
       |true=>.val (.ptr o v (Nat.add i (Nat.mul n esz))) c.H
       |false=>.no
      |false=>.no
     |_,_=>.no):=by
    intro o v jQ len esz room m y F U L h4;subst U;have b1:Nat.blt m len=true:=by unfold Nat.blt;exact Ka F
    dsimp only;rw[b1,K0];exact .same z L h4
   split at h
   ·rename_i p k;split at h
    ·rename_i l len esz gA st Z;obtain⟨gB,rfl,F,U,L⟩:=h;obtain⟨m,rfl⟩:=J3 F;cases j with
     | @dy _ _ k' hh _ e hk ha _ =>
      obtain⟨r0,r1,X⟩:=z.obj p _ _ _ Z e;have gD:=ha J;rcases X with ⟨X,r3⟩|⟨o,v,room,t,gM,l',X,_⟩
      ·omega
      ·rw[gD,X];refine gF (room:=room) (y:=.dptr p k (m*esz)) J rfl (.dptr e hk (λ_=>⟨by rw[Kw],len,esz,room,X⟩)) L
    ·exact h.elim
   ·rename_i p k lo len;split at h
    ·rename_i l gG esz gA st Z;obtain⟨gB,rfl,F,U,L⟩:=h;obtain⟨m,rfl⟩:=J3 F;cases j with
     | @vw _ _ _ _ k' hh _ e hk ha _ _ =>
      have jM:=(z.obj p _ _ _ Z e).1;rcases ha J with ⟨r3,r4⟩|⟨o,v,gC,D,room,I,r3,r4,r9⟩
      ·omega
      ·have e2:=e;rw[r3]at e2;obtain⟨_,w1,w2,w3,_⟩:=ai z Z e2;subst w2 w3;rw[r4];refine gF (room:=I) (y:=.dptr p k ((lo+m)*D)) J rfl (.dptr e hk (λ_=>⟨by rw[Ku],gC,D,room,r3⟩)) L
    ·exact h.elim
   ·rename_i l len esz;obtain⟨rfl,F,U,L⟩:=h;obtain⟨m,rfl⟩:=J3 F;cases j with
    | @lst _ _ _ _ _ _ rm _ hf gK gH hr Y =>
     refine gF (room:=rm) (y:=.cptr l (m*esz)) J rfl ?_ L;rw[←gH]at hr;exact .cptr hf hr Y
    |lstNil=>omega
    |lstEmp=>omega
   ·exact h.elim
  split at h
  ·cases hi;exact gZ v a j h
  ·cases hi;exact gZ v a j h
  ·exact h.elim
 |ixStr x i =>
  simp only[LOp.ok,Jz]at g;have j:=P5 B g.1;have hi:=P5 B g.2;simp only[Pb]at h;simp only[LOp.r,P6];generalize i.ev ρ=iv at h hi;generalize i.r.ev (ρA O)=ia at hi ⊢;generalize x.ev ρ=v at h j;generalize x.r.ev (ρA O)=a at j ⊢;have gF:∀{l:List UInt8} {k:IntKind} {m:Nat},m<l.length→K (.b (l.getD m 0)) G→Tf P c G K (match AV.str l.length (Qe l),AV.int k (Int.ofNat m) with
    |.str len n,.int _ (.ofNat i)=>match Nat.blt i len with
     |true=>.val (.int .u8 (Int.ofNat (Nat.mod (Nat.div n (Nat.pow 256 i)) 256))) c.H
     |false=>.no
    |_,_=>.no):=by
   intro l k m F U;have b1:Nat.blt m l.length=true:=by unfold Nat.blt;exact Ka F
   dsimp only;rw[b1];refine .same z (.b' ?_) U;have:=zha (J5 F);show Int.ofNat (Qe l/256^m%256)=_;rw[this,J0,J5 F];rfl
  split at h
  ·rename_i l n;obtain⟨F,U,L⟩:=h;obtain⟨m,rfl⟩:=J3 F;cases j;cases hi;exact gF (k:=.i64) J L
  ·rename_i l n;obtain⟨U,L⟩:=h;cases j;cases hi;exact gF (k:=.u64) U L
  ·rename_i l n;obtain⟨U,L⟩:=h;cases j;cases hi;exact gF (k:=.u8) U L
  ·exact h.elim
 |extract i x =>
  have j:=P5 B g;simp only[Pb]at h;simp only[LOp.r,P6];generalize x.ev ρ=v at h j;generalize x.r.ev (ρA O)=a at j ⊢;split at h
  ·rename_i l;cases j with
   |tup Y =>
    dsimp only;obtain⟨v,hv,h⟩:=h;obtain⟨a,E,C⟩:=Y.get hv;refine .ret z ?_;rw[E];exact .mk C h
  ·exact h.elim
 |lenStr x =>
  have j:=P5 B g;simp only[Pb]at h;simp only[LOp.r,P6];generalize x.ev ρ=v at h j;generalize x.r.ev (ρA O)=a at j ⊢;split at h
  ·cases j;exact .same z (.i _) h
  ·exact h.elim
 |lenSl x =>
  obtain⟨n,E,C⟩:=lw z (P5 B g) (show lenL G (x.ev ρ) (λn=>K (.i n) G) from h);simp only[LOp.r,P6];rcases C with ⟨C,rfl⟩|⟨C,rfl⟩|⟨o,v,i,esz,room,C⟩
  ·rw[C];exact .same z (.i 0) E
  ·rw[C];exact .same z (.i 0) E
  ·rw[C];exact .same z (.i n) E
 |maxi mx x y =>
  simp only[LOp.ok,Jz]at g;have j:=P5 B g.1;have hy:=P5 B g.2;simp only[Pb]at h;simp only[LOp.r,P6,Mp,List.map_nil];generalize y.ev ρ=yv at h hy;generalize y.r.ev (ρA O)=ya at hy ⊢;generalize x.ev ρ=v at h j;generalize x.r.ev (ρA O)=a at j ⊢;split at h
  ·cases j;cases hy;dsimp only;rw[zlx];exact .same z (.i _) h
  ·cases j;cases hy;dsimp only;rw[maxi_u];exact .same z (.u _) h
  ·exact h.elim
 |max3 mx x y jL =>
  simp only[LOp.ok,Jz]at g;have j:=P5 B g.1.1;have hy:=P5 B g.1.2;have hz:=P5 B g.2;simp only[Pb]at h;simp only[LOp.r,P6,Mp,List.map_nil];generalize jL.ev ρ=zv at h hz;generalize jL.r.ev (ρA O)=za at hz ⊢;generalize y.ev ρ=yv at h hy;generalize y.r.ev (ρA O)=ya at hy ⊢;generalize x.ev ρ=v at h j;generalize x.r.ev (ρA O)=a at j ⊢;cases v<;>first|exact h.elim|skip
  cases yv<;>first|exact h.elim|skip
  cases zv<;>first|exact h.elim|skip
  cases j;cases hy;cases hz;dsimp only;rw[mc];exact .same z (.i _) h
 |ixAddrArr len A x i =>
  simp only[LOp.ok,Jz]at g;have j:=P5 B g.1;have hi:=P5 B g.2;simp only[Pb]at h;simp only[LOp.r,P6];generalize i.ev ρ=iv at h hi;generalize i.r.ev (ρA O)=ia at hi ⊢;generalize x.ev ρ=v at h j;generalize x.r.ev (ρA O)=a at j ⊢;cases iv<;>first|exact h.elim|skip
  cases hi;obtain⟨F,U,h⟩:=h;rename_i n;obtain⟨m,rfl⟩:=J3 F;have b1:Nat.blt m len=true:=by unfold Nat.blt;exact Ka J
  cases v<;>first|exact h.elim|skip
  ·cases j with
   |ptr e =>
    show Tf P c G K (match Nat.blt m len with|true=>_|false=>_);rw[b1];refine .same z ?_ h;have e0:=AR.ptr (i:=0) e;rename_i p jQ o;show AR c (.ptr p (jQ+m*A)) (.ptr o 0 (jQ+m*A));exact .ptr e
  ·cases j with
   |dptr e hk ha =>
    show Tf P c G K (match Nat.blt m len with|true=>_|false=>_);rw[b1];exact .same z (.dptr e hk (λq=>⟨by rw[(ha q).1];rfl,(ha q).2⟩)) h
  ·cases j with
   |cptr hf hr Y =>
    show Tf P c G K (match Nat.blt m len with|true=>_|false=>_);rw[b1];refine .same z ?_ h;rename_i o vv jj ll;rw[show Nat.add (jj+_) (Nat.mul m A)=jj+(_+m*A) from Ly _ _ _];exact .cptr hf hr Y
 |ixArr jK len A x i =>
  simp only[LOp.ok,Jz]at g;have j:=P5 B g.1;have hi:=P5 B g.2;simp only[Pb]at h;simp only[LOp.r,P6];generalize i.ev ρ=iv at h hi;generalize i.r.ev (ρA O)=ia at hi ⊢;generalize x.ev ρ=v at h j;generalize x.r.ev (ρA O)=a at j ⊢;cases iv<;>first|exact h.elim|skip
  cases hi;obtain⟨F,U,h⟩:=h;rename_i n;obtain⟨m,rfl⟩:=J3 F;have b1:Nat.blt m len=true:=by unfold Nat.blt;exact Ka J
  cases v<;>first|exact h.elim|skip
  cases j with
  |agg Y =>
   show Tf P c G K (match Nat.blt m len with|true=>_|false=>_);rw[b1];simp only[Ky]at h;cases jK with
   |true =>
    obtain⟨F,U⟩:=h;have jB:=Y.length;rename_i l';have b2:Nat.ble (Nat.add (Nat.mul m A) A) l'.length=true:=Ka (show m*A+A≤l'.length by rw[←jB];exact F);refine .ret z ?_;simp only[fk,Zf,b2];exact .mk (.agg ((Y.drop _).take _)) U
   |false =>
    obtain⟨v,hv,h⟩:=h;obtain⟨a,E,C⟩:=Y.get hv;refine .ret z ?_;simp only[fk];show Sz c _ (_);rw[show Nat.mul m A=m*A from rfl,E];exact .mk C h
 |lenArr n x =>
  simp only[Pb]at h;simp only[LOp.r,P6];exact .same z (.i _) h
 |appZ A jL s x =>
  simp only[LOp.ok,Jz]at g;have hz:=uk c g.1.1;have jC:=P5 B g.1.2;have j:=P5 B g.2;simp only[Pb]at h;simp only[LOp.r,P6];generalize x.ev ρ=v at h j;generalize x.r.ev (ρA O)=a at j ⊢;split at h
  ·rename_i n;obtain⟨F,U,L,h4⟩:=h;obtain⟨m,rfl⟩:=J3 F;cases j;have b1:Nat.ble m 1048576=true:=Ka J;show Tf P c G K (match Nat.ble m 1048576 with
    |true=>Xh c.H A (s.r.ev (ρA O)) m (Up (toAs jL) m)
    |false=>.no)
   rw[b1];exact zv1 z jC (hz.rep m) (by rw[z66,L]) h4
  ·exact h.elim
 |appG A s x =>
  simp only[LOp.ok,Jz]at g;have jC:=P5 B g.1;have j:=P5 B g.2;simp only[Pb]at h;simp only[LOp.r,P6];obtain⟨n,l,l',E,C,M,H,Q⟩:=zty z j h;rw[E];have b1:Nat.ble n 1048576=true:=Ka H;dsimp only;rw[b1];exact zv1 z jC C M Q
 |copy A d x =>
  simp only[LOp.ok,Jz]at g;have hd:=P5 B g.1;have j:=P5 B g.2;simp only[Pb]at h;simp only[LOp.r,P6];obtain⟨n,l,l',E,C,M,H⟩:=zty z j h;rw[E];dsimp only;have jg:∀a b:Nat,Rv a b=min a b:=λa b=>by
   unfold Rv;cases hb:Nat.ble a b with
   |true=>have:=Kd hb;simp only;omega
   |false =>
    have:¬a≤b:=λq=>by rw[Ka q]at hb;cases hb
    simp only;omega
  generalize d.ev ρ=v at H hd;generalize d.r.ev (ρA O)=a at hd ⊢;split at H
  ·rename_i p k;split at H
   ·rename_i r len esz gA st Z;obtain⟨gB,rfl,h⟩:=H;cases hd with
    | @dy _ _ k' hh _ e hk ha _ =>
     obtain⟨r0,r1,X⟩:=z.obj p _ _ _ Z e;have gD:=ha J;rcases X with ⟨X,r3⟩|⟨o,v,room,t,gM,r',X,r3⟩
     ·subst r3;have:r=[]:=Kk Ds;subst this;rw[gD,X];dsimp only;have hm:min n 0=0:=J
      rw[hm]at h;simp only[Mn,N9]at h;obtain⟨p1,p2,_⟩:=z.upd (k':=k') (x':=hh) (ob':=.dyn (Po [] 0 []) 0 esz gA (st+1)) (H':=c.H) Z rfl e (J4 _) (λ_ _ _=>rfl) (λo e'=>⟨.inl e',z.lt o ⟨p,_,_,_,Z,rfl,e,e'⟩⟩) (J4 _) (λ_=>rfl) (λ_=>rfl) (.inl (K7 _))
       (λ_=>⟨r0,by simp[Po],.inl ⟨X,rfl⟩⟩)
      exact⟨⟨c.hd.set p (k',hh),c.Fz,c.H⟩,.i (0:Nat),_,rfl,p1,p2,.i _,h⟩
     ·have hw:Wn G (.dptr p k 0) (l.take (min n len*esz)) (λG'=>K (.i (min n len:Nat)) G'):=by
       unfold Wn;dsimp only;rw[Z];refine⟨gB,?_,h⟩;rw[r1,Me,Kw];exact K4 (Nat.min_le_left _ _) (Ki _ (Nat.min_le_right _ _))
      obtain⟨o2,v2,i2,H',c',G',w1,w2,w3,w4,w5,w6⟩:=z9s z (a:=.ptr o v 0) (.dptr e hk (λ_=>⟨rfl,len,esz,room,X⟩)) (C.take (min n len*esz)) hw;cases w1;rw[gD,X];dsimp only;rw[K0,jg];dsimp only;rw[show Nat.mul (min n len) esz=min n len*esz from rfl,w2];exact⟨c',_,G',w3,w4,w5,.i _,w6⟩
   ·exact H.elim
  ·rename_i p k lo len;split at H
   ·rename_i r gG esz gA st Z;obtain⟨gB,rfl,jD,h⟩:=H;cases hd with
    | @vw _ _ _ _ k' hh _ e hk ha _ _ =>
     obtain⟨r0,r1,X⟩:=z.obj p _ _ _ Z e;have gT:len=0→(a=.nilSl∨a=.emp∧lo≠0)→Tf P c G K (.val (.int .i64 0) c.H):=by
      intro jE _;subst jE;have hm:min n 0=0:=J
      rw[hm]at h;simp only[Mn,N9]at h;have gU:Po r (lo*esz) []=r:=by unfold Po;simp
      rw[gU]at h;obtain⟨p1,p2,_⟩:=z.upd (k':=k') (x':=hh) (ob':=.dyn r gG esz gA (st+1)) (H':=c.H) Z rfl e (J4 _) (λ_ _ _=>rfl) (λo e'=>⟨.inl e',z.lt o ⟨p,_,_,_,Z,rfl,e,e'⟩⟩) (J4 _) (λ_=>rfl) (λ_=>rfl) (.inl (K7 _))
       (λgV=>(z.obj p _ _ _ Z e).mono gV (λ_ _=>rfl))
      exact⟨⟨c.hd.set p (k',hh),c.Fz,c.H⟩,.i (0:Nat),_,rfl,p1,p2,.i _,h⟩
     rcases ha J with ⟨r3,r4⟩|⟨o,v,gC,D,room,I,r3,r4,r9⟩
     ·have:=gT r3 r4;rcases r4 with rfl|⟨rfl,_⟩
      ·exact this
      ·exact this
     ·have e2:=e;rw[r3]at e2;obtain⟨_,w1,w2,w3,_⟩:=ai z Z e2;subst w2 w3;have hw:Wn G (.dptr p k (lo*D)) (l.take (min n len*D)) (λG'=>K (.i (min n len:Nat)) G'):=by
       unfold Wn;dsimp only;rw[Z];refine⟨gB,?_,h⟩;rw[Me];have F:min (min n len*D) l.length≤len*D:=K4 (Nat.min_le_left _ _) (Ki _ (Nat.min_le_right _ _));rw[Ku]at jD;omega
      obtain⟨o2,v2,i2,H',c',G',u1,u2,u3,u4,u5,u6⟩:=z9s z (a:=.ptr o v (lo*D)) (.dptr e hk (λ_=>⟨rfl,gC,D,room,r3⟩)) (C.take (min n len*D)) hw;cases u1;rw[r4];dsimp only;rw[K0,jg];dsimp only;rw[show Nat.mul (min n len) D=min n len*D from rfl,u2];exact⟨c',_,G',u3,u4,u5,.i _,u6⟩
   ·exact H.elim
  ·exact H.elim
 |clear A jL x =>
  simp only[LOp.ok,Jz]at g;have hz:=uk c g.1;have j:=P5 B g.2;simp only[Pb]at h;simp only[LOp.r,P6];generalize x.ev ρ=v at h j;generalize x.r.ev (ρA O)=a at j ⊢;split at h
  ·rename_i p k lo len;split at h
   ·rename_i r gG esz gA st Z;obtain⟨gB,rfl,jO,jD,h⟩:=h;cases j with
    | @vw _ _ _ _ k' hh _ e hk ha _ _ =>
     obtain⟨r0,r1,X⟩:=z.obj p _ _ _ Z e;have gT:len=0→Tf P c G K (.val Tc c.H):=by
      intro jE;subst jE;have gU:Po r (lo*esz) (Qo jL 0)=r:=by unfold Po;simp[Qo]
      rw[gU]at h;obtain⟨p1,p2,_⟩:=z.upd (k':=k') (x':=hh) (ob':=.dyn r gG esz gA (st+1)) (H':=c.H) Z rfl e (J4 _) (λ_ _ _=>rfl) (λo e'=>⟨.inl e',z.lt o ⟨p,_,_,_,Z,rfl,e,e'⟩⟩) (J4 _) (λ_=>rfl) (λ_=>rfl) (.inl (K7 _))
       (λgV=>(z.obj p _ _ _ Z e).mono gV (λ_ _=>rfl))
      exact⟨⟨c.hd.set p (k',hh),c.Fz,c.H⟩,.any,_,rfl,p1,p2,.any _,h⟩
     rcases ha J with ⟨r3,r4⟩|⟨o,v,gC,D,room,I,r3,r4,r9⟩
     ·have:=gT r3;rcases r4 with rfl|⟨rfl,_⟩
      ·exact this
      ·exact this
     ·have e2:=e;rw[r3]at e2;obtain⟨_,w1,w2,w3,_⟩:=ai z Z e2;subst w2 w3;have hw:Wn G (.dptr p k (lo*D)) (Qo jL len) (λG'=>K .any G'):=by
       unfold Wn;dsimp only;rw[Z];refine⟨gB,?_,h⟩;rw[z66,jO,←Ku];exact jD
      obtain⟨o2,v2,i2,H',c',G',u1,u2,u3,u4,u5,u6⟩:=z9s z (a:=.ptr o v (lo*D)) (.dptr e hk (λ_=>⟨rfl,gC,D,room,r3⟩)) (hz.rep len) hw;cases u1;rw[r4];dsimp only;rw[K0];dsimp only;rw[u2];exact⟨c',.any,G',u3,u4,u5,.any _,u6⟩
   ·exact h.elim
  ·exact h.elim
 |mkMap0=>exact zg4 z h
 |mkMap1 x =>
  have j:=P5 B g;simp only[Pb]at h;simp only[LOp.r,P6];generalize x.ev ρ=v at h j;generalize x.r.ev (ρA O)=a at j ⊢;split at h
  ·cases j;exact zg4 z h
  ·exact h.elim
 |lookup d jL ok x i =>
  simp only[LOp.ok,Jz]at g;have hz:=co c g.1.1;have j:=P5 B g.1.2;have hi:=P5 B g.2;simp only[Pb]at h;simp only[LOp.r,P6];obtain⟨es,jP,E,C,M,_⟩:=zu1 z j h;rw[E];dsimp only;rcases zq5 hi C M with ⟨f1,f2⟩|⟨v,b,f1,f2,f3⟩
  ·rw[f1];dsimp only;cases ok with
   |true=>exact .same z (.tup (.cons hz (.cons (.bool _) .nil))) f2
   |false=>exact .same z hz f2
  ·rw[f1];dsimp only;cases ok with
   |true=>exact .same z (.tup (.cons f2 (.cons (.bool _) .nil))) f3
   |false=>exact .same z f2 f3
 |mapUpd d m k v =>
  simp only[LOp.ok,Jz]at g;simp only[Pb]at h;simp only[LOp.r,P6];exact ztv z (P5 B g.1.1) (P5 B g.1.2) (P5 B g.2) h
 |lenMap x =>
  have j:=P5 B g;simp only[Pb]at h;simp only[LOp.r,P6];obtain⟨es,jP,E,C,M,H⟩:=zu1 z j h;have gH:∀{l:List (LV×LV×Nat)} {r:List (AV×AV×Nat)},MRs c l r→l.length=r.length:=by
   intro l r hr
   induction hr with
   |nil=>rfl
   |cons _ _ _ ih=>simp[ih]
  rcases H with ⟨e1,rfl⟩|⟨o,ck,e1,e2⟩
  ·rw[e1];cases C;exact .same z (.i 0) M
  ·rw[e1];dsimp only;rw[e2];dsimp only;rw[←gH C];exact .same z (.i _) M
 |slArr n A x lo hi =>
  simp only[LOp.ok,Jz]at g;have j:=P5 B g.1.1;simp only[Pb]at h;simp only[LOp.r,P6];generalize x.ev ρ=v at h j;generalize x.r.ev (ρA O)=a at j ⊢;split at h
  ·rename_i p i;split at h
   ·rename_i l st Z;obtain⟨h0,h⟩:=h;obtain⟨gg,V,E,C,M⟩:=Wg B g.1.2 h;obtain⟨R,T,H,Q,q6⟩:=Wg B g.2 M;rw[E,H];obtain⟨F,U,L⟩:=q6;cases j with
    | @ptr _ _ o e =>
     obtain⟨t,l',X,r3,r4⟩:=zkf z Z e;obtain⟨a2,p1,p2,p3⟩:=z89 (lo:=gg) (hi:=R) (o:=o) (v:=0) (i:=i) (len:=n) (esz:=A) (room:=some n) Cq Cy (λr e=>by cases e;exact J4 _);have b1:Nat.ble (Nat.add i (Nat.mul n A)) l.length=true:=Ka h0;simp only[Qz,X,b1];rw[p1];rw[C,Q]at p3;obtain⟨u1,u2⟩:=z.freeze (st:=st+1) Z rfl (K7 _) e (rfl:Pg (.ptr o 0 0)=some o);have jH:i+V*A+(T-V)*A≤l.length:=by
      rw[Ly,←Ku];have:(V+(T-V))*A≤n*A:=Ki _ J;omega
     refine⟨⟨c.hd,λq=>c.Fz q∨q=o,c.H⟩,_,_,rfl,u1,u2,?_,L⟩;rcases p3 with ⟨e1,rfl,_⟩|⟨room,rfl,gK⟩
     ·rw[e1];simp only[Mn,N9];exact .lstEmp
     ·refine .lst (.inr rfl) gK Ab (W1 X r3 (J4 _) jH) (ARs.mono u2.le ((r4.drop _).take _))
   ·exact h.elim
  ·exact h.elim
 |callV f gI =>
  simp only[LOp.ok,Jz]at g;have hf:=P5 B g.1;have ha:=zra B g.2;simp only[Pb]at h;simp only[LOp.r,P6];generalize f.ev ρ=v at h hf;generalize f.r.ev (ρA O)=a at hf ⊢;split at h
  ·rename_i jK l r;have jI:=h.1;cases hf with
   |fn Y hr =>
    rename_i l' r';have gF:zg1 P c.H (.fn (.func jK) l' r') ((mf gI).map (·.ev (ρA O)))=.call (.fn jK) (l'++(mf gI).map (·.ev (ρA O))++r'):=by
     have k2:kh P (.fn (.func jK) l' r') ((mf gI).map (·.ev (ρA O)))=.call (.fn jK) (l'++(mf gI).map (·.ev (ρA O))++r'):=by
      unfold kh;dsimp only;rw[J8 jI.1]
     unfold zg1;split
     ·rename_i g' e;cases e;rw[jI.2];exact k2
     ·exact k2
    rw[gF];exact⟨.fn jK,_,rfl,(Y.append ha).append hr,h⟩
  ·rename_i p r;cases hf with
   |yield e=>exact⟨.yield p,_,e,ha,h⟩
  ·exact h.elim
end res
end
section
noncomputable section
structure RI where
 d:Option Nat
 g:Option (Nat×Bool)
 o:ROp
def tf(n:Nat):Option Nat→Bool
 |none=>true
 |some d=>Nat.blt d n
def rx(P:Program)(n:Nat)(ops:Array Oper)(o:Oper):Option RI :=
 match tf n o.dst with
 |false=>none
 |true=>match T3 P o.op with
  |none=>none
  |some r=>match o.guard with
   |none=>some ⟨o.dst,none,r⟩
   |some (g,w)=>match (ops[g]?).bind (·.dst) with
    |none=>none
    |some t=>match Nat.ble t Ry with
     |true=>some ⟨o.dst,some (t,w),r⟩
     |false=>none
def za2(P:Program)(n:Nat)(ops:Array Oper):List Oper→Option (List RI)
 |[]=>some []
 |o::l=>match rx P n ops o with
  |none=>none
  |some r=>match za2 P n ops l with
   |none=>none
   |some g=>some (r::g)
structure LI where
 d:Option Nat
 g:Option (Nat×Bool)
 o:LOp
def LI.r(x:LI):RI:=⟨x.d,x.g,x.o.r⟩
def lis:List LI→List RI
 |[]=>[]
 |x::l=>x.r::lis l
def Zy(g:Option (Nat×Bool))(j:Tr AV):Bool:=match g with
 |none=>true
 |some (t,w)=>match On (O1 t) j with
  |some (.bool b)=>match b with
   |true=>w
   |false=>!w
  |_=>false
def jx(P:Program)(x:RI)(k:R9)(z:Tr AV)(A:Heap):OE:=match Zy x.g z with
 |false=>.ok (Qf x.d Tc z) A
 |true=>match P6 P (ρA z) A x.o with
  |.no=>.no
  |.val v j=>.ok (Qf x.d v z) j
  |.call t g=>match k t g A with
   |.no=>.no
   |.ok v j=>.ok (Qf x.d v z) j
def zdp{P:Program}{n:Nat}{ops:Array Oper}{o:Oper}{x:RI}(h:rx P n ops o=some x)(k:R9)(z:Tr AV)(I:Heap):(Sg P n ops o).run k z I=jx P x k z I:=by
 unfold rx at h;cases hd:tf n o.dst with
 |false=>rw[hd]at h;cases h
 |true =>
  rw[hd]at h;dsimp only at h;cases B:T3 P o.op with
  |none=>rw[B]at h;cases h
  |some r =>
   rw[B]at h;dsimp only at h;have K:∃p,Sf n o.dst=some p∧∀a z,p.run a z=Qf o.dst a z:=by
    cases C:o.dst with
    |none=>exact⟨_,rfl,λ_ _=>rfl⟩
    |some d =>
     rw[C]at hd;have D:d<n:=Kd hd;unfold Sf;dsimp only;rw[J8 D];exact⟨_,rfl,λ_ _=>rfl⟩
   obtain⟨p,E,g⟩:=K;have L:x.d=o.dst∧x.o=r∧(Tw ops o).run z=Zy x.g z:=by
    cases A:o.guard with
    |none =>
     rw[A]at h;cases h;refine⟨rfl,rfl,?_⟩;unfold Tw;rw[A];rfl
    |some M =>
     obtain⟨U,w⟩:=M;rw[A]at h;dsimp only at h;cases F:(ops[U]?).bind (·.dst) with
     |none=>rw[F]at h;cases h
     |some t =>
      rw[F]at h;dsimp only at h;cases H:Nat.ble t Ry with
      |false=>rw[H]at h;cases h
      |true =>
       rw[H]at h;cases h;refine⟨rfl,rfl,?_⟩;unfold Tw;rw[A];dsimp only;rw[F];dsimp only;rw[J8 (Kd H)];rfl
   obtain⟨O,Q,R⟩:=L;unfold Sg jx;rw[E];dsimp only;rw[R,O,Q,zq3 (zow z) B I];cases Zy x.g z with
   |false=>simp only[g]
   |true =>
    dsimp only;cases P6 P (ρA z) I r with
    |no=>rfl
    |val v T=>simp only[g]
    |call t j =>
     dsimp only;cases k t j I with
     |no=>rfl
     |ok v T=>simp only[g]
def zrg{P:Program}{x:RI}{k A:R9}(C:k.le A)(h:jx P x k O D=.ok vC vX):jx P x A O D=.ok vC vX:=by
 unfold jx at h ⊢;cases B:Zy x.g O with
 |false=>rw[B]at h;exact h
 |true =>
  rw[B]at h;dsimp only at h ⊢;cases j:P6 P (ρA O) D x.o with
  |no=>rw[j]at h;cases h
  |val v E=>rw[j]at h;exact h
  |call t g =>
   rw[j]at h;dsimp only at h ⊢;cases z:k t g D with
   |no=>rw[z]at h;cases h
   |ok v E=>rw[z]at h;rw[C _ _ _ _ _ z];exact h
def Tl(g:Om)(d:Option Nat)(v:LV):Om:=match d with
 |none=>g
 |some d=>(d,v)::g
def setL(t:Nat)(v:LV):Om→Om
 |[]=>[]
 |(d,x)::l=>if t=d then (d,v)::l else (d,x)::setL t v l
def kx(v:LV)(g j z:Prop):Prop:=match v with
 |.bool t=>Ut t g j
 |.tup []=>z
 |_=>False
def Y7(P:Program)(x:LI)(g:Om)(G:Ok)(z:Om→Ok→Prop):Prop:=match x.g with
 |none=>Pb P g G x.o λv j=>z (Tl g x.d v) j
 |some (t,true)=>kx (lk g t) (Pb P (setL t (.bool true) g) G x.o λv j=>z (Tl (setL t (.bool true) g) x.d v) j) (z (Tl (setL t (.bool false) g) x.d (.tup [])) G) (z (Tl g x.d (.tup [])) G)
 |some (t,false)=>kx (lk g t) (z (Tl (setL t (.bool true) g) x.d (.tup [])) G) (Pb P (setL t (.bool false) g) G x.o λv j=>z (Tl (setL t (.bool false) g) x.d v) j) (z (Tl g x.d (.tup [])) G)
def de{v:LV}{g j:Prop}(h:brV v g j):∃b,v=.bool b∧(b=true→g)∧(b=false→j):=by
 cases v with
 |bool b=>exact⟨b,rfl,h⟩
 |_=>exact h.elim
def zkp{v:LV}{g j z:Prop}(h:kx v g j z):(∃b,v=.bool b∧(b=true→g)∧(b=false→j))∨v=.tup []∧z:=by
 unfold kx at h;split at h
 ·exact .inl ⟨_,rfl,h⟩
 ·exact .inr ⟨rfl,h⟩
 ·exact h.elim
def zuf{P:Program}{x:LI}{t:Nat}{w:Bool}(z:x.g=some (t,w)){g:Om}{G:Ok}{j:Om→Ok→Prop}(h:Y7 P x g G j) :
  (∃b,lk g t=.bool b∧(b=w→Pb P (setL t (.bool w) g) G x.o λv A=>j (Tl (setL t (.bool w) g) x.d v) A)∧(b=!w→j (Tl (setL t (.bool (!w)) g) x.d (.tup [])) G))∨lk g t=.tup []∧j (Tl g x.d (.tup [])) G:=by
 unfold Y7 at h;rw[z]at h;cases w with
 |true=>exact zkp h
 |false =>
  rcases zkp h with ⟨b,e,B,C⟩|h
  ·exact .inl ⟨b,e,C,B⟩
  ·exact .inr h
def Vj(P:Program):List LI→Om→Ok→(Om→Ok→Prop)→Prop
 |[],g,G,j=>j g G
 |x::l,g,G,j=>Y7 P x g G λz A=>Vj P l z A j
def Pt.put{c:Cx}{ρ:Om}{E:Tr AV}(h:Pt c ρ E){v:LV}{a:AV}(ha:AR c v a)(d:Option Nat):Pt c (Tl ρ d v) (Qf d a E):=by
 cases d with
 |none=>exact h
 |some d =>
  intro t;show AR c (lk ((d,v)::ρ) t) ((On (O1 t) (P7 a (O1 d) E)).getD Tc);rw[zgq,zf0];by_cases e:t=d
  ·rw[J8 e,J8 e];exact ha
  ·rw[J2 e,J2 e];exact h t
def ztj(t:Nat)(v:LV):∀(z:Om) (g:Nat),lk (setL t v z) g=lk z g∨(g=t∧lk (setL t v z) g=v)
 |[],_=>.inl rfl
 |(d,x)::l,g=>by
  simp only[setL];by_cases h:t=d
  ·rw[J8 h];simp only[zf0];by_cases j:g=d
   ·rw[J8 j];exact .inr ⟨J,rfl⟩
   ·rw[J2 j,J2 j];exact .inl rfl
  ·rw[J2 h];simp only[zf0];by_cases j:g=d
   ·rw[J8 j,J8 j];exact .inl rfl
   ·rw[J2 j,J2 j];exact ztj t v l g
def Pt.setL{c:Cx}{ρ:Om}{E:Tr AV}(h:Pt c ρ E){t:Nat}{v:LV}(ha:AR c v ((On (O1 t) E).getD Tc)):Pt c (Sv.setL t v ρ) E:=by
 intro t';rcases ztj t v ρ t' with e|⟨rfl,e⟩
 ·rw[e];exact h t'
 ·rw[e];exact ha
section run
variable {P : Program} {c : Cx} {G : Ok}
def ft(M:HSim c G){T:Om}(A:Pt c T O){x:LI}(U:x.o.ok=true){gg:Om→Ok→Prop}(h:Y7 P x T G gg) :
  ∃m I j K z,jx P x.r (Tp P (OL P) m) O c.H=.ok I j.H∧HSim j z∧Step c G j z∧Pt j K I∧gg K z:=by
 have D:∀T,Pt c T O→(Pb P T G x.o λv z=>gg (Tl T x.d v) z)→Zy x.g O=true→∃m I j K z,jx P x.r (Tp P (OL P) m) O c.H=.ok I j.H∧HSim j z∧Step c G j z∧Pt j K I∧gg K z:=by
  intro T A h L;have E:=yz M A U h;unfold Tf at E;unfold jx;rw[show x.r.g=x.g from rfl,L];dsimp only[LI.r];cases he:P6 P (ρA O) c.H x.o.r with
  |no=>rw[he]at E;exact E.elim
  |val v1 H' =>
   rw[he]at E;obtain⟨j,v,z,rfl,V,Q,q4,q5⟩:=E;exact⟨0,_,j,_,z,rfl,V,Q,(A.mono Q.le).put q4 x.d,q5⟩
  |call t1 F =>
   rw[he]at E;obtain⟨t,Z,q1,V,_,Q⟩:=E;obtain⟨m,v1,H',r1,j,v,z,rfl,r3,r4,r5,r6⟩:=Q c t1 F M q1 V;refine⟨m,_,j,_,z,?_,r3,r4,(A.mono r4.le).put r5 x.d,r6⟩;dsimp only;rw[r1]
 cases B:x.g with
 |none =>
  unfold Y7 at h;rw[B]at h;exact D T A h (by rw[B];rfl)
 |some tw =>
  obtain⟨t,w⟩:=tw;have L:=B;rcases zuf B h with ⟨b,X,h⟩|⟨X,h⟩
  rotate_left
  ·have C:=A t;rw[X]at C;have H:Zy x.g O=false:=by
    rw[L];unfold Zy;dsimp only;cases R:On (O1 t) O with
    |none=>rfl
    |some a=>rw[R]at C;cases C;rfl
   refine⟨0,_,c,_,G,?_,M,.refl c G,A.put (.tup .nil) x.d,h⟩;unfold jx;rw[show x.r.g=x.g from rfl,H];rfl
  ·have C:=A t;rw[X]at C;have g:On (O1 t) O=some (.bool b):=by
    cases R:On (O1 t) O with
    |none=>rw[R]at C;cases C
    |some a=>rw[R]at C;cases C;rfl
   by_cases e:b=w
   ·refine D _ (A.setL (by rw[g,←e];exact .bool b)) (h.1 e) ?_;rw[L];unfold Zy;dsimp only;rw[g,e];cases w<;>rfl
   ·have Y:b=!w:=by cases b<;>cases w<;>simp_all
    refine⟨0,_,c,_,G,?_,M,.refl c G,(A.setL (by rw[g,←Y];exact .bool b)).put (.tup .nil) x.d,h.2 Y⟩;have H:Zy x.g O=false:=by
     rw[L];unfold Zy;dsimp only;rw[g,Y];cases w<;>rfl
    unfold jx;rw[show x.r.g=x.g from rfl,H];rfl
def zuy{n:Nat}{ops:Array Oper}:∀{l:List LI} {j:List Oper} {c:Cx} {G:Ok} {L:Om} {M:Tr AV} {O:Om→Ok→Prop},za2 P n ops j=some (lis l)→l.all (·.o.ok)=true→HSim c G→Pt c L M→Vj P l L G O →
  ∃m Q B C A,(js P n ops j).run (Tp P (OL P) m) M c.H=.ok Q B.H∧HSim B A∧Step c G B A∧Pt B C Q∧O C A
 |[],j,c,G,L,M,O,g,_,D,E,h=>by
  cases j with
  |nil=>exact⟨0,M,c,L,G,rfl,D,.refl c G,E,h⟩
  |cons o j =>
   simp only[za2]at g;split at g
   ·cases g
   ·split at g<;>cases g
 |x::l,j,c,G,L,M,O,g,z,D,E,h=>by
  cases j with
  |nil=>cases g
  |cons o j =>
   simp only[za2]at g;split at g
   ·cases g
   ·rename_i r F;split at g
    ·cases g
    ·rename_i rs H;simp only[lis,Option.some.injEq,List.cons.injEq]at g;obtain⟨rfl,rfl⟩:=g;simp only[Mf,Jz]at z;obtain⟨I,E1,c1,ρ1,G1,T,R,U,V,X⟩:=ft D E z.1 (show Y7 P x L G λC A=>Vj P l C A O from h);obtain⟨K,Y,Z,ρ2,G2,q1,q2,q3,q4,q5⟩:=zuy H z.2 R V X;refine⟨max I K,Y,Z,ρ2,G2,?_,q2,.trans D R U q3,q4,q5⟩;simp only[js];rw[zdp F,zrg (lc (Mi I K)) T];dsimp only;exact z9m (lc (M9 I K)) q1
end run
end
end
section
noncomputable section
inductive RC where
 |skip
 |ops (l:List RI)
 |draw (l:List (RI×List (RI×Bool)))
 |seq (a b:RC)
 |cond (c:Ox) (a b:RC)
 |block (id:Nat) (c:RC)
 |loop (c:RC)
 |rangeF (g:Ox) (ps:List Nat) (a b:RC)
 |exit (id:Nat)
 |scope (c:RC)
 |label
 |ret
 |stuck
inductive LC where
 |skip
 |ops (l:List LI)
 |draw (l:List (LI×List (LI×Bool)))
 |seq (a b:LC)
 |cond (c:Lx) (a b:LC)
 |block (id:Nat) (c:LC)
 |loop (c:LC)
 |rangeF (g:Lx) (ps:List Nat) (a b:LC)
 |exit (id:Nat)
 |scope (c:LC)
 |label
 |ret
 |stuck
def Ws(t:Nat):List Nat→Bool
 |[]=>false
 |a::l=>match Nat.beq t a with
  |true=>true
  |false=>Ws t l
def Yk(ops:Array Oper)(d:Option Nat)(x:DOp):Bool:=match d with
 |none=>true
 |some d=>match Ws d (Vq ops x.o) with
  |true=>false
  |false=>match x.o.dst with
   |none=>true
   |some e=>!(Nat.beq d e)
def V3(x:DOp):Bool:=match x.c with
 |.al=>true
 |_=>false
def zi3(P:Program)(n:Nat)(ops:Array Oper):List DOp→Option (List (RI×Bool))
 |[]=>some []
 |x::l=>match rx P n ops x.o with
  |none=>none
  |some r=>match zi3 P n ops l with
   |none=>none
   |some g=>some ((r,V3 x)::g)
def eqCls:Cls→Cls→Bool
 |.quiet,.quiet=>true
 |.rd,.rd=>true
 |.al,.al=>true
 |.ch,.ch=>true
 |_,_=>false
def zfi(ops:Array Oper)(x:DOp):Bool:=match x.o.dst with
 |none=>false
 |some d=>!(Ws d (Vq ops x.o))
def wt(P:Program)(n:Nat)(ops:Array Oper):List DOp→List DOp→Option (List (RI×List (RI×Bool)))
 |[],_=>some []
 |x::l,g=>match Ww (Yk ops x.o.dst) g&&eqCls x.c (cls P x.o.op) with
  |false=>none
  |true=>match rx P n ops x.o with
   |none=>none
   |some r=>match x.c with
    |.quiet=>match wt P n ops l g with
     |none=>none
     |some j=>some ((r,[])::j)
    |.rd=>match zfi ops x with
     |false=>none
     |true=>match wt P n ops l (x::g) with
      |none=>none
      |some j=>some ((r,[])::j)
    |.al=>match zfi ops x with
     |false=>none
     |true=>match zi3 P n ops g with
      |none=>none
      |some z=>match wt P n ops l (x::g) with
       |none=>none
       |some j=>some ((r,z)::j)
    |.ch=>match zi3 P n ops (Pl (λy=>!(Nat.testBit x.m y.i)) g) with
     |none=>none
     |some z=>match wt P n ops l (Pl (λy=>!(Nat.testBit x.m y.i)) g) with
      |none=>none
      |some j=>some ((r,z)::j)
def zny(P:Program)(n:Nat)(ops:Array Oper):Option (List (RI×List (RI×Bool))) :=
 let z:=R3 P ops ops.toList [] 0;let g:=Pl Ou z;let j:=zv5 z g
 match zw5 ops.size z j with
 |true=>wt P n ops j []
 |false=>none
def Pj(P:Program)(n:Nat):Code→Option RC
 |.skip=>some .skip
 |.region _ ops draw=>match draw with
  |true=>match zny P n ops with
   |none=>some .stuck
   |some l=>some (.draw l)
  |false=>match za2 P n ops ops.toList with
   |none=>some .stuck
   |some l=>some (.ops l)
 |.seq a b=>match Pj P n a with
  |none=>none
  |some a=>match Pj P n b with
   |none=>none
   |some b=>some (.seq a b)
 |.cond c a b=>match Pu c with
  |none=>none
  |some c=>match Pj P n a with
   |none=>none
   |some a=>match Pj P n b with
    |none=>none
    |some b=>some (.cond c a b)
 |.block id c=>match Pj P n c with
  |none=>none
  |some c=>some (.block id c)
 |.loop c=>match Pj P n c with
  |none=>none
  |some c=>some (.loop c)
 |.rangeFunc g j a b=>match Pu g with
  |none=>none
  |some g=>match Pj P n a with
   |none=>none
   |some a=>match Pj P n b with
    |none=>none
    |some b=>some (.rangeF g j.toList a b)
 |.exit id=>some (.exit id)
 |.scope c=>match Pj P n c with
  |none=>none
  |some c=>some (.scope c)
 |.label _=>some .label
 |.ret=>some .ret
 |_=>some .stuck
def rck:List (LI×Bool)→List (RI×Bool)
 |[]=>[]
 |(x,b)::l=>(x.r,b)::rck l
def ua:List (LI×List (LI×Bool))→List (RI×List (RI×Bool))
 |[]=>[]
 |(x,c)::l=>(x.r,rck c)::ua l
def LC.r:LC→RC
 |.skip=>.skip
 |.ops l=>.ops (lis l)
 |.draw l=>.draw (ua l)
 |.seq a b=>.seq a.r b.r
 |.cond c a b=>.cond c.r a.r b.r
 |.block id c=>.block id c.r
 |.loop c=>.loop c.r
 |.rangeF g ps a b=>.rangeF g.r ps a.r b.r
 |.exit id=>.exit id
 |.scope c=>.scope c.r
 |.label=>.label
 |.ret=>.ret
 |.stuck=>.stuck
def LC.ok:LC→Bool
 |.ops l=>l.all (·.o.ok)
 |.draw l=>l.all λx=>x.1.o.ok&&x.2.all (·.1.o.ok)
 |.seq a b=>a.ok&&b.ok
 |.cond c a b=>c.ok&&a.ok&&b.ok
 |.block _ c=>c.ok
 |.loop c=>c.ok
 |.rangeF g _ a b=>g.ok&&a.ok&&b.ok
 |.scope c=>c.ok
 |_=>true
abbrev Ri:=Ex→Om→List Nat→Ok→Prop
inductive DRs (c:Cx):List Nat→List Nat→Prop where
 |nil:DRs c [] []
 |cons {p o:Nat} {l r:List Nat} (h:c.hd[p]?=some (0,.ptr o 0 0)) (hs:DRs c l r):DRs c (p::l) (o::r)
def DRs.mono{c c':Cx}(h:CxLe c c'):∀{l r:List Nat},DRs c l r→DRs c' l r
 |_,_,.nil=>.nil
 |_,_,.cons e es=>.cons (h.fix e rfl) (DRs.mono h es)
def ROr(c:Cx):Option Nat→Option Nat→Prop
 |none,none=>True
 |some p,some o=>c.hd[p]?=some (0,.ptr o 0 0)
 |_,_=>False
def ROr.mono{c:Cx}(h:CxLe c u9){a b:Option Nat}(k:ROr c a b):ROr u9 a b:=by
 cases a<;>cases b<;>first|exact k|exact h.fix k rfl
def W(P:Program)(f n:Nat)(s:LC)(ro:Option Nat)(ρ:Om)(D:List Nat)(G:Ok)(Q:Ri):Prop :=
 ∀(g:Code) (c:Cx) (I:Tr AV) (C:List Nat) (j:Option Nat),Pj P n g=some s.r→s.ok=true→HSim c G→Pt c ρ I→DRs c D C→ROr c ro j →
  ∃m x E z A F H B,(Rn P f n g).run (Tp P (OL P) m) m j I C c.H=.ok x E z A.H∧HSim A B∧Step c G A B∧Pt A F E∧DRs A H z∧Q x F H B
section rules
variable {P : Program} {f n : Nat} {ro : Option Nat} {ρ : Om} {D : List Nat} {G : Ok} {Q : Ri}
def W.post{s:LC}{Q':Ri}(h:W P f n s ro ρ D G Q)(hq:∀x ρ D G,Q x ρ D G→Q' x ρ D G):W P f n s ro ρ D G Q':=by
 intro code c E D1 gg h1 h2 h3 h4 h5 h6;obtain⟨m,x,E',gA,c',ρ',D',G',q1,q2,q3,q4,q5,q6⟩:=h code c E D1 gg h1 h2 h3 h4 h5 h6;exact⟨m,x,E',gA,c',ρ',D',G',q1,q2,q3,q4,q5,hq _ _ _ _ q6⟩
def ig(h:Pj P n uX=some .skip):uX=.skip:=by
 cases uX<;>simp only[Pj]at h<;>first|rfl|(repeat' split at h)<;>cases h
def qo{l:List RI}(h:Pj P n uX=some (.ops l)):∃id ops,uX=.region id ops false∧za2 P n ops ops.toList=some l:=by
 cases uX<;>simp only[Pj]at h<;>(repeat' split at h)<;>cases h;exact⟨_,_,rfl,‹_›⟩
def br{l:List (RI×List (RI×Bool))}(h:Pj P n uX=some (.draw l)):∃id ops,uX=.region id ops true∧zny P n ops=some l:=by
 cases uX<;>simp only[Pj]at h<;>(repeat' split at h)<;>cases h;exact⟨_,_,rfl,‹_›⟩
def p8{a b:RC}(h:Pj P n uX=some (.seq a b)):∃g j,uX=.seq g j∧Pj P n g=some a∧Pj P n j=some b:=by
 cases uX<;>simp only[Pj]at h<;>(repeat' split at h)<;>cases h;exact⟨_,_,rfl,‹_›,‹_›⟩
def gw{x:Ox}{a b:RC}(h:Pj P n uX=some (.cond x a b)):∃g j z,uX=.cond g j z∧Pu g=some x∧Pj P n j=some a∧Pj P n z=some b:=by
 cases uX<;>simp only[Pj]at h<;>(repeat' split at h)<;>cases h;exact⟨_,_,_,rfl,‹_›,‹_›,‹_›⟩
def zvj{id:Nat}{a:RC}(h:Pj P n uX=some (.block id a)):∃g,uX=.block id g∧Pj P n g=some a:=by
 cases uX<;>simp only[Pj]at h<;>(repeat' split at h)<;>cases h;exact⟨_,rfl,‹_›⟩
def ja{a:RC}(h:Pj P n uX=some (.loop a)):∃g,uX=.loop g∧Pj P n g=some a:=by
 cases uX<;>simp only[Pj]at h<;>(repeat' split at h)<;>cases h;exact⟨_,rfl,‹_›⟩
def bt{id:Nat}(h:Pj P n uX=some (.exit id)):uX=.exit id:=by
 cases uX<;>simp only[Pj]at h<;>(repeat' split at h)<;>cases h;rfl
def zx4{a:RC}(h:Pj P n uX=some (.scope a)):∃g,uX=.scope g∧Pj P n g=some a:=by
 cases uX<;>simp only[Pj]at h<;>(repeat' split at h)<;>cases h;exact⟨_,rfl,‹_›⟩
def zuz(h:Pj P n uX=some .label):∃s,uX=.label s:=by
 cases uX<;>simp only[Pj]at h<;>(repeat' split at h)<;>cases h;exact⟨_,rfl⟩
def ry(h:Pj P n uX=some .ret):uX=.ret:=by
 cases uX<;>simp only[Pj]at h<;>first|rfl|(repeat' split at h)<;>cases h
def W_skip(h:Q .normal ρ D G):W P f n .skip ro ρ D G Q:=by
 intro g c F j z A H B C E I;obtain rfl:=ig A;exact⟨0,.normal,F,j,c,ρ,D,G,rfl,B,.refl c G,C,E,h⟩
def mw(h:Q .normal ρ D G):W P f n .label ro ρ D G Q:=by
 intro g c F j z A H B C E I;obtain⟨s,rfl⟩:=zuz A;exact⟨0,.normal,F,j,c,ρ,D,G,rfl,B,.refl c G,C,E,h⟩
def x5{id:Nat}(h:Q (.exit id) ρ D G):W P f n (.exit id) ro ρ D G Q:=by
 intro g c F j z A H B C E I;obtain rfl:=bt A;exact⟨0,.exit id,F,j,c,ρ,D,G,rfl,B,.refl c G,C,E,h⟩
def W_ret(h:Q .ret ρ D G):W P f n .ret ro ρ D G Q:=by
 intro g c F j z A H B C E I;obtain rfl:=ry A;exact⟨0,.ret,F,j,c,ρ,D,G,rfl,B,.refl c G,C,E,h⟩
def q9{s:LC}(h:W P f n s ro ρ D G Q):W P f n (.scope s) ro ρ D G Q:=by
 intro z c L A g B C E F H I;obtain⟨K,rfl,j⟩:=zx4 B;exact h K c L A g j C E F H I
def W_ops{l:List LI}(h:Vj P l ρ G λg j=>Q .normal g D j):W P f n (.ops l) ro ρ D G Q:=by
 intro z c Y B C E F H I K X;obtain⟨id,ops,rfl,L⟩:=qo E;obtain⟨m,M,O,g,j,R,T,A,U,V⟩:=zuy L F H I h;refine⟨m,.normal,M,B,O,g,D,j,?_,T,A,U,K.mono A.le,V⟩;simp only[Rn];rw[R]
def gj{a b:LC}(h:W P f n a ro ρ D G λx j z A=>match x with
  |.normal=>W P f n b ro j z A Q
  |x=>Q x j z A):W P f n (.seq a b) ro ρ D G Q:=by
 intro U c gg Y B Z H V h4 h5 X;obtain⟨ca,cb,rfl,ha,hb⟩:=p8 Z;simp only[LC.ok,Jz]at H;obtain⟨m,x,I,g,K,j,z,A,L,E,F,M,O,R⟩:=h ca c gg Y B ha H.1 V h4 h5 X;cases x with
 |normal =>
  obtain⟨C,x,E2,D2,c2,ρ2,T,G2,r1,r2,r3,r4,r5,r6⟩:=R cb K I g B hb H.2 E M O (X.mono F.le);refine⟨max m C,x,E2,D2,c2,ρ2,T,G2,?_,r2,.trans V E F r3,r4,r5,r6⟩;simp only[Rn];rw[tt (lc (Mi m C)) (Mi m C) _ L];exact tt (lc (M9 m C)) (M9 m C) _ r1
 |exit id =>
  refine⟨m,.exit id,I,g,K,j,z,A,?_,E,F,M,O,R⟩;simp only[Rn];rw[L]
 |ret =>
  refine⟨m,.ret,I,g,K,j,z,A,?_,E,F,M,O,R⟩;simp only[Rn];rw[L]
def xx{x:Lx}{a b:LC}{t:Bool}(hx:x.ev ρ=.bool t)(ha:t=true→W P f n a ro ρ D G Q)(hb:t=false→W P f n b ro ρ D G Q):W P f n (.cond x a b) ro ρ D G Q:=by
 intro U c V X j h1 z Y A Z h6;obtain⟨cx,ca,cb,rfl,B,C,E⟩:=gw h1;simp only[LC.ok,Jz]at z;have F:=P5 A z.1.1;have H:=U3 B (zow V);have I:x.r.ev (ρA V)=.bool t:=by
  rw[hx]at F;generalize x.r.ev (ρA V)=w at F;cases F;rfl
 rw[I]at H;cases t with
 |true =>
  obtain⟨m,x,K,g,L,M,O,R,T,q⟩:=ha rfl ca c V X j C z.1.2 Y A Z h6;refine⟨m,x,K,g,L,M,O,R,?_,q⟩;simp only[Rn];rw[H];exact T
 |false =>
  obtain⟨m,x,K,g,L,M,O,R,T,q⟩:=hb rfl cb c V X j E z.2 Y A Z h6;refine⟨m,x,K,g,L,M,O,R,?_,q⟩;simp only[Rn];rw[H];exact T
def mp{id:Nat}{s:LC}(h:W P f n s ro ρ D G λx j z A=>match x with
  |.exit i=>if i=id then Q .normal j z A else Q (.exit i) j z A
  |x=>Q x j z A):W P f n (.block id s) ro ρ D G Q:=by
 intro R c gg T M U V X Y Z h6;obtain⟨ca,rfl,O⟩:=zvj U;obtain⟨m,x,C,g,E,j,z,A,F,H,I,K,L,B⟩:=h ca c gg T M O V X Y Z h6;cases x with
 |normal =>
  refine⟨m,.normal,C,g,E,j,z,A,?_,H,I,K,L,B⟩;simp only[Rn];rw[F]
 |exit i =>
  dsimp only at B;by_cases e:i=id
  ·rw[J8 e]at B;refine⟨m,.normal,C,g,E,j,z,A,?_,H,I,K,L,B⟩;simp only[Rn];rw[F,e];dsimp only;rw[K0]
  ·rw[J2 e]at B;refine⟨m,.exit i,C,g,E,j,z,A,?_,H,I,K,L,B⟩;simp only[Rn];rw[F];dsimp only;cases hb:Nat.beq i id with
   |true=>exact absurd (Kc hb) e
   |false=>rfl
 |ret =>
  refine⟨m,.ret,C,g,E,j,z,A,?_,H,I,K,L,B⟩;simp only[Rn];rw[F]
def er{s:LC}(gF:Om→List Nat→Ok→Nat→Prop)(h0:gF ρ D G g)
  (h:∀g ρ D G,gF ρ D G g→W P f n s ro ρ D G λx A B z=>match x with
   |.normal=>∃M,M<g∧gF A B z M
   |x=>Q x A B z):W P f n (.loop s) ro ρ D G Q:=by
 intro gD c gC H F h1 h2 O V X R;obtain⟨ca,rfl,Y⟩:=ja h1;have Z:∀g,∀(c:Cx) (gC:Tr AV) (H:List Nat) (ρ:Om) (D:List Nat) (G:Ok),gF ρ D G g→HSim c G→Pt c ρ gC→DRs c D H→ROr c ro F →
   ∃m I x E j C A B z,bi ((Rn P f n ca).run (Tp P (OL P) m) m F) I gC H c.H=.ok x E j C.H∧HSim C z∧Step c G C z∧Pt C A E∧DRs C B j∧Q x A B z:=by
  intro g
  induction g using Nat.strongRecOn with
  |_ g ih =>
   intro c gC H ρ D G hI O V X R;obtain⟨m,x,E,j,C,A,B,z,K,T,U,q4,q5,q6⟩:=h g ρ D G hI ca c gC H F Y h2 O V X R;cases x with
   |normal =>
    obtain⟨M,hN,gg⟩:=q6;obtain⟨L,gA,x,E2,D2,c2,ρ2,gB,G2,r1,r2,r3,r4,r5,r6⟩:=ih M hN C E j A B z gg T q4 q5 (R.mono U.le);refine⟨max m L,gA+1,x,E2,D2,c2,ρ2,gB,G2,?_,r2,.trans O T U r3,r4,r5,r6⟩;simp only[bi];rw[tt (lc (Mi m L)) (Mi m L) _ K];exact zad (λ_ _ _ _ _ _ _ e=>tt (lc (M9 m L)) (M9 m L) _ e) (J4 _) r1
   |exit id =>
    refine⟨m,1,.exit id,E,j,C,A,B,z,?_,T,U,q4,q5,q6⟩;simp only[bi];rw[K]
   |ret =>
    refine⟨m,1,.ret,E,j,C,A,B,z,?_,T,U,q4,q5,q6⟩;simp only[bi];rw[K]
 obtain⟨m,I,x,E,j,C,A,B,z,K,q⟩:=Z g c gC H ρ D G h0 O V X R;refine⟨max m I,x,E,j,C,A,B,z,?_,q⟩;simp only[Rn];exact zad (λ_ _ _ _ _ _ _ e=>tt (lc (Mi m I)) (Mi m I) _ e) (M9 m I) K
end rules
inductive RRes where
 |tmp (t:Nat)
 |cell1 (t:Nat)
 |cellN (t n:Nat)
def x3(P:Program):ResultVar→Option RRes
 |.tmp t=>match Nat.ble t Ry with
  |true=>some (.tmp t)
  |false=>none
 |.cell a t=>match Nat.ble a Ry with
  |true=>match Ua P t,Qg P t with
   |some true,some n=>some (.cellN a n)
   |some false,some _=>some (.cell1 a)
   |_,_=>none
  |false=>none
def Ya(P:Program):List ResultVar→Option (List RRes)
 |[]=>some []
 |r::l=>match x3 P r with
  |none=>none
  |some a=>match Ya P l with
   |none=>none
   |some b=>some (a::b)
structure RF where
 n:Nat
 c:RC
 rs:List RRes
def Oz(P:Program)(f:Nat):Option RF :=
 match pg P f && !(zd9 P f) && !(zmh P f) with
 |false=>none
 |true=>match P.funcs[f]? with
  |none=>none
  |some fn=>match fn.body with
   |none=>none
   |some b=>match Nat.ble fn.ntmps Ry with
    |false=>none
    |true=>match Pj P fn.ntmps b with
     |none=>none
     |some c=>match Ya P fn.results.toList with
      |none=>none
      |some g=>some ⟨fn.ntmps,c,g⟩
def Sn(ρ:Om)(G:Ok):List RRes→(List LV→Prop)→Prop
 |[],j=>j []
 |r::l,j=>match r with
  |.tmp t=>Sn ρ G l λg=>j (lk ρ t::g)
  |.cell1 t=>Yv G (lk ρ t) λv=>Sn ρ G l λg=>j (v::g)
  |.cellN t n=>Xl G (lk ρ t) n λz=>Sn ρ G l λg=>j (.agg z::g)
def W4:List LV→LV
 |[v]=>v
 |l=>.tup l
def iq:List LV→Nat→Om
 |[],_=>[]
 |v::l,i=>(i,v)::iq l (i+1)
def vo:List Nat→Ok→(Ok→Prop)→Prop
 |[],G,g=>g G
 |d::l,G,g=>match G[d]? with
  |some (.defd true)=>vo l (G.set d (.defd false)) g
  |_=>False
section fns
variable {P : Program}
def zkd{c:Cx}{G:Ok}{ρ:Om}{I:Tr AV}(B:HSim c G)(A:Pt c ρ I):∀{l:List ResultVar} {H:List RRes} {K:List LV→Prop},Ya P l=some H→Sn ρ G H K→∃g as,(wr P l).run I c.H=some as∧ARs c g as∧K g
 |[],H,K,h,k=>by cases h;exact⟨[],[],rfl,.nil,k⟩
 |r::l,H,K,h,k=>by
  simp only[Ya]at h;split at h
  ·cases h
  ·rename_i a j;split at h
   ·cases h
   ·rename_i b L;cases h;simp only[wr];cases r with
    |tmp t =>
     simp only[x3]at j;split at j
     ·rename_i M;cases j;obtain⟨g,as,C,E,F⟩:=zkd B A L (show Sn ρ G b (λg=>K (lk ρ t::g)) from k);have z:(O8 (.tmp t)).run I=some ((On (O1 t) I).getD Tc):=by
       unfold O8;dsimp only;rw[M];dsimp only;cases On (O1 t) I<;>rfl
      refine⟨_,_,?_,.cons (A t) E,F⟩;simp only[resF];rw[z,C]
     ·cases j
    |cell t Z =>
     simp only[x3]at j;split at j
     ·rename_i M;have z:(O8 (.tmp t)).run I=some ((On (O1 t) I).getD Tc):=by
       unfold O8;dsimp only;rw[M];dsimp only;cases On (O1 t) I<;>rfl
      split at j
      ·rename_i m O R;cases j;obtain⟨o,v,i,l',Y,T,U,V,X⟩:=zjc B (A t) (show Xl G (lk ρ t) m (λY=>Sn ρ G b λg=>K (.agg Y::g)) from k);obtain⟨g,as,C,E,F⟩:=zkd B A L X;refine⟨_,_,?_,.cons (.agg V) E,F⟩;simp only[Sv.resF,O,R];rw[z,T];dsimp only;rw[U,C]
      ·rename_i m O R;cases j;obtain⟨o,v,i,w,bb,T,U,V,X⟩:=zpc B (A t) (show Yv G (lk ρ t) (λv=>Sn ρ G b λg=>K (v::g)) from k);obtain⟨g,as,C,E,F⟩:=zkd B A L X;refine⟨_,_,?_,.cons V E,F⟩;simp only[Sv.resF,O,R];rw[z,T];dsimp only;rw[U];dsimp only;rw[C]
      ·cases j
     ·cases j
end fns
end
end
section
section fns
variable {P : Program}
def lk_argsL:∀(l:List LV) (i t:Nat),lk (iq l i) t=if i≤t∧t<i+l.length then l.getD (t-i) .any else .any
 |[],i,t=>by simp only[iq,gy,Mb];rw[J2 J]
 |v::l,i,t=>by
  simp only[iq,zf0,Kn];rw[lk_argsL l (i+1) t];by_cases h:t=i
  ·subst h;rw[J8 rfl,J8 J];simp
  ·rw[J2 h];by_cases g:i+1≤t∧t<i+1+l.length
   ·rw[J8 g,J8 J,show t-i=(t-(i+1))+1 from J];simp
   ·rw[J2 g,J2 J]
def Pt.start{c:Cx}{args:List LV}{gg:List AV}(h:ARs c args gg):Pt c (iq args 0) (Su gg 0 .e):=by
 intro t;rw[lk_argsL,get_ofList,Yn];have hl:=h.length;by_cases ht:t<args.length
 ·rw[J8 J,J8 J];obtain⟨a,q1,q2⟩:=h.get (J5 ht);rw[Nat.sub_zero,q1,J0,J5 ht];exact q2
 ·rw[J2 J];exact .any _
def zr3{U:Ok→Prop}:∀{H:List Nat} {E:List Nat} {c:Cx} {B:Ok},DRs c H E→HSim c B→vo H B U→∃j z,z88 E c.H=some j.H∧HSim j z∧Step c B j z∧U z
 |[],_,c,B,.nil,g,h=>⟨c,B,rfl,g,.refl c B,h⟩
 |d::H,_,c,B,.cons (o:=o) e I,g,h=>by
  simp only[vo]at h;split at h
  ·rename_i C;obtain⟨_,F,he,A⟩:=g.obj d _ _ _ C e;injection he with he
   subst he;obtain⟨G,K,L⟩:=g.upd (k':=0) (x':=.ptr o 0 0) (ob':=.defd false) (H':=c.H.put o (.defd false)) C rfl e (J4 _) (λF _ D=>Heap.get_put_ne _ _ (λq=>D Ga))
    (λF M=>by cases M;exact⟨.inl rfl,g.lt o ⟨d,_,_,_,C,rfl,e,rfl⟩⟩) (J4 _) (λ_=>rfl) (λ_=>rfl) (.inr ⟨rfl,J4 _⟩) (λ_=>⟨rfl,o,rfl,Heap.get_put_same _ _ _⟩)
   obtain⟨j,z,O,Q,R,T⟩:=zr3 (I.mono L) G h;refine⟨j,z,?_,Q,.trans g G K R,T⟩;simp only[z88];rw[A];exact O
  ·exact h.elim
def oneA:List AV→AV
 |[v]=>v
 |l=>.tup l
def zi8{f:Nat}{s:LC}{n:Nat}{O:List RRes}(g:Oz P f=some ⟨n,s.r,O⟩)(E:s.ok=true)(hn:F.length≤n){gB:Ok}
  (h:W P f n s none (iq F 0) [] gB λx ρ gC Q=>(match x with | .exit _=>False|_=>True)∧vo gC Q λC=>Sn ρ C O λD=>vZ (W4 D) C):Sw P (.fn f) F gB vZ:=by
 unfold Oz at g;split at g
 ·cases g
 ·rename_i j;simp only[Jz,L9]at j;refine⟨j.1,λc t1 z R T U=>?_⟩;cases t1 with
  |yield o=>exact T.elim
  |fn gD =>
   obtain rfl:f=gD:=T;split at g
   ·cases g
   ·rename_i fn G;split at g
    ·cases g
    ·rename_i b hb;split at g
     ·cases g
     ·rename_i A;split at g
      ·cases g
      ·rename_i rc H;split at g
       ·cases g
       ·rename_i gg I;cases g;obtain⟨m,x,E',gA,c',ρ',D',Q,q1,V,q3,q4,q5,q6,q7⟩:=h b c _ [] none H E R (Pt.start U) .nil trivial;obtain⟨K,C,X,Y,Z,r4⟩:=zr3 q5 V q7;obtain⟨D,as,s1,s2,s3⟩:=zkd Y (q4.mono Z.le) I r4;have B:AR K (W4 D) (oneA as):=by
         cases s2 with
         |nil=>exact .tup .nil
         |cons e es =>
          cases es with
          |nil=>exact e
          |cons e2 L=>exact .tup (.cons e (.cons e2 L))
        refine⟨m+1,oneA as,K.H,?_,K,W4 D,C,rfl,Y,.trans R V q3 Z,B,s3⟩;unfold Tp;dsimp only;rw[OL_no j.2];dsimp only;unfold zfk;rw[G];dsimp only;rw[hb];dsimp only;rw[J8 (Kd A)];dsimp only;have M:Nat.ble z.length fn.ntmps=true:=Ka (by rw[←U.length];exact hn);rw[M];dsimp only;rw[q1];dsimp only;cases x with
        |exit id=>exact q6.elim
        |normal =>
         dsimp only;rw[X];dsimp only;rw[s1];rcases as with _|⟨a,_|⟨a2,as⟩⟩<;>rfl
        |ret =>
         dsimp only;rw[X];dsimp only;rw[s1];rcases as with _|⟨a,_|⟨a2,as⟩⟩<;>rfl
def Sw.mono{t:LTgt}{args:List LV}{G:Ok}{K:LV→Ok→Prop}(h:Sw P t args G K)(hk:∀v G,K v G→vZ v G):Sw P t args G vZ :=
 ⟨h.1,λc t1 gg h1 h2 h3=>by
  obtain⟨m,v1,H',q1,c',v,G',q2,q3,q4,q5,q6⟩:=h.2 c t1 gg h1 h2 h3;exact⟨m,v1,H',q1,c',v,G',q2,q3,q4,q5,hk _ _ q6⟩⟩
mutual
def LV.sim(m:Nat):LV→Bool
 |.bool _ |.u _ |.b _ |.i _ |.int _ _ |.str _ |.nilPtr |.nilSl |.nilMap |.nilFn |.nilIf=>true
 |.dy j k=>k==0&&decide (j<m)
 |.agg l=>sims m l
 |.tup l=>sims m l
 |_=>false
def sims(m:Nat):List LV→Bool
 |[]=>true
 |v::l=>v.sim m&&sims m l
end
mutual
def subV(sel:List LV):LV→LV
 |.dy j _=>sel.getD j .any
 |.agg l=>.agg (subVs sel l)
 |.tup l=>.tup (subVs sel l)
 |v=>v
def subVs(sel:List LV):List LV→List LV
 |[]=>[]
 |v::l=>subV sel v::subVs sel l
end
def notP(p:Nat):LV→Prop
 |.dy q _=>q≠p
 |_=>True
def Zd(A:Ok):List LV→Ok→Prop
 |[],[]=>True
 |.dy p k::s,.dyn l len j g st::B=>g=0∧l.all LV.scal=true∧(∃z,A[p]?=some (.dyn l len j k z))∧st=0∧(∀x∈s,notP p x)∧Zd A s B
 |.nilSl::s,.dyn l len _ g st::B=>g=0∧st=0∧l=[]∧len=0∧Zd A s B
 |_,_=>False
def P4(P:Program)(f:Nat)(A:List LV)(F:LV)(C:Ok):Prop :=
 gf P (.fn f)∧F.sim C.length=true∧(∀(I:Nat) (G:LObj),C[I]?=some G→∃l len D,G=.dyn l len D 0 0∧l.all LV.scal=true)∧∀(B:Nat→Prop) (E:Heap) (g:List AV),(∀o,B o→o<E.next)→ARs ⟨[],B,E⟩ A g →
  ∃m H j z,Tp P (OL P) m (.fn f) g E=.ok H z∧HSim ⟨j,B,z⟩ C∧AR ⟨j,B,z⟩ F H∧E.next≤z.next∧(∀o,o<E.next→z.get o=E.get o)∧∀o,Qq ⟨j,B,z⟩ C o→E.next≤o
def zbs{c g:Cx}:∀{l:List LV} {r:List AV},l.all LV.scal=true→ARs c l r→ARs g l r
 |[],_,_,.nil=>.nil
 |v::l,_,h,.cons e j=>by
  simp only[Mf,Jz]at h;refine .cons ?_ (zbs h.2 j);cases v<;>first|(cases h.1;done)|(cases e;constructor)
def HSim.empty{Fz:Nat→Prop}{H:Heap}(h:∀o,Fz o→o<H.next):HSim ⟨[],Fz,H⟩ [] :=
 ⟨rfl,h,λo ⟨p,_,_,_,e,_⟩=>B1,λo ⟨p,_,_,_,e,_⟩=>B1,λp _ _ _ e=>B1,λp _ _ _ _ _ _ _ _ e=>B1⟩
def zhb{c:Cx}{gB:Ok}(Q:HSim c gB):∀{g:List LV} {R:Ok},Zd gB g R→∃C:List (Nat×AV),C.length=R.length ∧
  (∀(j:Nat) (E:LObj) (k:Nat) (h:AV),R[j]?=some E→C[j]?=some (k,h)→k=0∧(∀T:Cx,T.H=c.H→tr T 0 h E)∧(∃l len F,E=.dyn l len F 0 0∧l.all LV.scal=true) ∧
   ((g[j]?=some .nilSl∧h=.nilSl)∨∃p D,g[j]?=some (.dy p D)∧c.hd[p]?=some (D,h)∧(∀o,Pg h=some o→Qq c gB o)∧∃G,gB[p]?=some G∧G.live=true)) ∧
  (∀(i j p k q D:Nat),g[i]?=some (.dy p k)→g[j]?=some (.dy q D)→p=q→i=j)
 |[],[],_=>⟨[],rfl,λj E k h e=>B1,λi j p k q D e=>B1⟩
 |[],_::_,h=>h.elim
 |s::g,[],h=>by cases s<;>exact h.elim
 |s::g,E::R,h=>by
  cases s<;>cases E<;>first|exact h.elim|skip
  ·rename_i l len F V st;obtain⟨rfl,rfl,rfl,rfl,h⟩:=h;obtain⟨C,X,Y,Z⟩:=zhb Q h;refine⟨(0,.nilSl)::C,by simp[X],λj E k h z A=>?_,λi j p k q D z A H=>?_⟩
   ·cases j with
    |zero =>
     simp only[Km,Option.some.injEq]at z A;cases z;cases A;exact⟨rfl,λT _=>⟨rfl,N,.inl ⟨rfl,rfl⟩⟩,⟨_,_,_,rfl,rfl⟩,.inl ⟨rfl,rfl⟩⟩
    |succ j=>exact Y j E k h Cn Da
   ·cases i with
    |zero=>simp at z
    |succ i=>cases j with
     |zero=>simp at A
     |succ j=>have:=Z i j p k q D Cn Da H;omega
  ·rename_i p k l len F V st;obtain⟨rfl,I,⟨gC,U⟩,rfl,gg,h⟩:=h;obtain⟨C,X,Y,Z⟩:=zhb Q h;have hp:p<c.hd.length:=by rw[Q.len];exact (Jx.1 U).1
   obtain⟨k0,h0,e0⟩:∃k h,c.hd[p]?=some (k,h):=⟨_,_,J5 hp⟩;have K:=Q.obj p _ _ _ U e0;have hk:=K.1;subst hk;have B:∀(j q D:Nat),g[j]?=some (.dy q D)→q≠p:=λj q D e=>gg _ (Kg e)
   refine⟨(0,h0)::C,by simp[X],λj E k h z A=>?_,λi j p' k q D z A H=>?_⟩
   ·cases j with
    |zero =>
     simp only[Km,Option.some.injEq]at z A;cases z;cases A;refine⟨rfl,λT gA=>?_,⟨_,_,_,rfl,I⟩,.inr ⟨p,_,rfl,e0,λo ho=>⟨p,_,_,_,U,rfl,e0,ho⟩,_,U,rfl⟩⟩;obtain⟨_,r1,L⟩:=K;refine⟨rfl,r1,?_⟩;rcases L with L|⟨o,v,M,t,O,l',L,r3,r4,r5,r6,r7⟩
     ·exact .inl L
     ·exact .inr ⟨o,v,M,t,O,l',L,by rw[gA];exact r3,r4,r5,zbs I r6,r7⟩
    |succ j=>exact Y j E k h Cn Da
   ·cases i with
    |zero =>
     simp only[Km,Option.some.injEq]at z;cases z;cases j with
     |zero=>rfl
     |succ j=>exact absurd H.symm (B j q D Da)
    |succ i=>cases j with
     |zero =>
      simp only[Km,Option.some.injEq]at A;cases A;exact absurd H (B i p' k Cn)
     |succ j=>have:=Z i j p' k q D Cn Da H;omega
mutual
def sub_AR{c c':Cx}{sel:List LV}(gg:∀(gB:Nat) (v:LV) (a:AV),sel[gB]?=some v→AR c v a→AR c' (.dy gB 0) a)(v:LV)(a:AV)(j:v.sim sel.length=true)(h:AR c (subV sel v) a):AR c' v a:=by
 cases v with
 |dy gB k =>
  simp only[LV.sim,Jz,Ns,Kb]at j;obtain⟨rfl,gA⟩:=j;refine gg gB _ a (J5 gA) ?_;unfold subV at h
  rwa [J0,J5 gA]at h
 |agg l =>
  simp only[LV.sim]at j;simp only[subV]at h;cases h with
  |agg h=>exact .agg (sub_ARs gg l _ j h)
 |tup l =>
  simp only[LV.sim]at j;simp only[subV]at h;cases h with
  |tup h=>exact .tup (sub_ARs gg l _ j h)
 |_=>first|(simp only[LV.sim]at j;cases j;done)|(simp only[subV]at h;cases h;constructor)
termination_by SizeOf.sizeOf v
def sub_ARs{c c':Cx}{sel:List LV}(gg:∀(gB:Nat) (v:LV) (a:AV),sel[gB]?=some v→AR c v a→AR c' (.dy gB 0) a)(l:List LV)(r:List AV)(j:sims sel.length l=true)(h:ARs c (subVs sel l) r):ARs c' l r:=by
 cases l with
 |nil=>simp only[subVs]at h;cases h;exact .nil
 |cons v l =>
  simp only[sims,Jz]at j;simp only[subVs]at h;cases h with
  |cons e es=>exact .cons (sub_AR gg v _ j.1 e) (sub_ARs gg l _ j.2 es)
termination_by SizeOf.sizeOf l
end
def P4.mk{f:Nat}{args:List LV}{v0:LV}{G0:Ok}(gA:v0.sim G0.length=true)(h:Sw P (.fn f) args [] λv G=>∃sel,v=subV sel v0∧sel.length=G0.length∧Zd G sel G0)(hG:∀(gD:Nat) (ob:LObj),G0[gD]?=some ob→∃l len esz,ob=.dyn l len esz 0 0∧l.all LV.scal=true):P4 P f args v0 G0:=by
 refine⟨h.1,gA,hG,λFz H gF gG ha=>?_⟩;obtain⟨m,v1,H',q1,c1,v,G,rfl,q3,q4,q5,sel,rfl,hlen,hr⟩:=h.2 ⟨[],Fz,H⟩ (.fn f) gF (.empty gG) rfl ha;obtain⟨gg,r1,r2,r3⟩:=zhb q3 hr;have gH:∀(gD:Nat) (ob:LObj),G0[gD]?=some ob→∃k h,gg[gD]?=some (k,h):=λgD ob e=>⟨_,_,J5 (by rw[r1];exact (Jx.1 e).1)⟩
 have gB:∀o,Qq ⟨gg,Fz,c1.H⟩ G0 o→Qq c1 G o:=by
  rintro o ⟨gD,ob,k,h,e1,e2,e3,e4⟩;obtain⟨_,_,_,j⟩:=r2 gD ob k h e1 e3;rcases j with ⟨_,j⟩|⟨p,k',_,_,s6,_⟩
  ·rw[j]at e4;cases e4
  ·exact s6 o e4
 have gC:∀o,Qq ⟨gg,Fz,c1.H⟩ G0 o→H.next≤o:=λo ho=>by
  rcases q4.new o (gB o ho) with ⟨p,_,_,_,e,_⟩|h
  ·simp at e
  ·exact h
 have gI:∀o,¬Qq ⟨[],Fz,H⟩ [] o:=λo ⟨p,_,_,_,e,_⟩=>B1
 have gK:HSim ⟨gg,Fz,c1.H⟩ G0:=by
  refine⟨r1,λo ho=>Kr (gG o ho) q4.nx,λo ho=>q3.lt o (gB o ho),λo ho hf=>?_,λgD ob k h e1 e2=>?_,λi gD ob gL k h k' h' o e1 e2 e3 e4 e5 e6 e7 e8=>?_⟩
  ·have:=gC o ho;have:=gG o hf;omega
  ·obtain⟨s1,s2,_⟩:=r2 gD ob k h e1 e2;rw[s1];exact s2 _ rfl
  ·obtain⟨_,_,_,j⟩:=r2 i ob k h e1 e5;obtain⟨_,_,_,t4⟩:=r2 gD gL k' h' e2 e6;rcases j with ⟨_,j⟩|⟨p,kp,s5,s6,_,o1,g1,g2⟩
   ·rw[j]at e7;cases e7
   ·rcases t4 with ⟨_,t4⟩|⟨q,kq,t5,t6,_,o2,g3,g4⟩
    ·rw[t4]at e8;cases e8
    ·refine r3 i gD p kp q kq s5 t5 ?_;exact q3.excl p q o1 o2 kp h kq h' o g1 g3 g2 g4 s6 t6 e7 e8
 refine⟨m,v1,gg,c1.H,q1,gK,?_,q4.nx,λo ho=>q4.frame o ho (gI o),gC⟩;refine sub_AR (c:=c1) (λgD v a e1 e2=>?_) v0 v1 (by rw[hlen];exact gA) q5;have hj:gD<G0.length:=by rw[←hlen];exact (Jx.1 e1).1
 obtain⟨k,h,e3⟩:=gH gD _ (J5 hj);obtain⟨rfl,_,_,j⟩:=r2 gD _ k h (J5 hj) e3;rcases j with ⟨j,s5⟩|⟨p,k',j,s5,_⟩
 ·rw[e1]at j;cases j;cases e2;exact .dy e3 (J4 _) (λ_=>s5.symm) rfl
 ·rw[e1]at j;cases j;cases e2 with
  |dy f1 f2 f3 f4 =>
   rw[s5]at f1;cases f1;exact .dy e3 (J4 _) (λ_=>f3 rfl) f4
end fns
end
section
noncomputable section
def mg(ρ:Om)(G:Ok):LOp→Option (Option Nat)
 |.load1 x |.loadN _ x=>match x.ev ρ with
  |.ptr p _=>some (some p)
  |.dptr p k _=>match G[p]? with
   |some (.dyn _ _ _ g _)=>if k=g then some (some p) else none
   |_=>none
  |.cptr _ _=>some none
  |_=>none
 |.cvStr x=>match x.ev ρ with
  |.nilSl=>some none
  |.lst _ _ _=>some none
  |.dy p k=>match G[p]? with
   |some (.dyn _ _ _ g _)=>if k=g then some (some p) else none
   |_=>none
  |_=>none
 |_=>none
def t7(G g:Ok)(p:Nat):Prop:=match G[p]?,g[p]? with
 |some a,some b=>a.stp=true∧a.st=b.st
 |_,_=>False
def yb(ρ:Om)(G g:Ok)(x:LI×Bool):Prop:=match x.2 with
 |false=>match mg ρ G x.1.o with
  |some none=>True
  |some (some p)=>t7 G g p
  |none=>False
 |true=>match x.1.d with
  |none=>False
  |some d=>match lk ρ d with
   |.ptr p _=>t7 G g p
   |.dy p k=>(match G[p]? with
    |some (.dyn _ _ _ j _)=>k=j
    |_=>False)∧t7 G g p
   |_=>False
def ckL(ρ:Om)(G g:Ok)(x:LI×Bool):Prop:=match x.1.g with
 |none=>yb ρ G g x
 |some (t,w)=>match lk ρ t with
  |.bool b=>b=w→yb ρ G g x
  |_=>yb ρ G g x
def W2(ρ:Om)(G g:Ok):List (LI×Bool)→Prop
 |[]=>True
 |x::l=>ckL ρ G g x∧W2 ρ G g l
def Z3(P:Program):List (LI×List (LI×Bool))→Om→Ok→(Om→Ok→Prop)→Prop
 |[],ρ,G,j=>j ρ G
 |(x,z)::l,ρ,G,j=>Y7 P x ρ G λA g=>W2 ρ G g z∧Z3 P l A g j
section al
variable {P : Program}
def zu5{v:AV}{id n:Nat}(h:Pg v=some id):Rz id (Rz n v)=v:=by
 cases v<;>first|(cases h;done)|(cases h;rfl)
def zil{j:Heap}{l:List AV}{v:AV}(h:X7 vX l=.val v j):∃z,j=vX.push z∧Pg v=some vX.next∧∀g,X7 g l=.val (Rz g.next v) (g.push z):=by
 unfold X7 newObj at h;cases h;exact⟨_,rfl,rfl,λg=>rfl⟩
def zkn{z:Heap}{l:List AV}{a b:Nat}{r:Option Nat}{v:AV}(h:(match newObj vX l with
  |some (o,j)=>OR.val (.sl o 0 0 a b r) j
  |none=>.no)=.val v z):∃A,z=vX.push A∧Pg v=some vX.next∧∀g,(match newObj g l with
  |some (o,j)=>OR.val (.sl o 0 0 a b r) j
  |none=>.no)=.val (Rz g.next v) (g.push A):=by
 unfold newObj at h;cases h;exact⟨_,rfl,rfl,λg=>rfl⟩
def al_any{o:Op}(g:cls P o=.al){z:Heap}{v:AV}(h:(Pp P o).run O vX=.val v z):∃A,z=vX.push A∧Pg v=some vX.next∧∀j,(Pp P o).run O j=.val (Rz j.next v) (j.push A):=by
 cases o with
 |alloc t =>
  simp only[Pp]at h ⊢;split at h
  ·exact zil h
  ·cases h
 |box t x =>
  simp only[Pp,Ro]at h ⊢;cases B:(O8 x).run O with
  |none=>rw[B]at h;cases h
  |some a =>
   rw[B]at h;dsimp only at h ⊢;cases C:a.cells with
   |none=>rw[C]at h;cases h
   |some l=>rw[C]at h;exact zil h
 |buildSlice t len H =>
  simp only[Pp,uq]at h ⊢;split at h
  ·split at h
   ·cases h
   ·split at h
    ·cases h
    ·rename_i R M;by_cases F:len * ‹Nat›≤2^20∧0 < ‹Nat›
     ·rw[J8 F]at h ⊢;split at h
      ·cases h
      ·dsimp only at h ⊢;split at h
       ·exact zkn h
       ·cases h
     ·rw[J2 F]at h;cases h
  ·cases h
 |makeSlice t l c =>
  simp only[Pp,vy]at h ⊢;split at h
  ·split at h
   ·cases h
   ·split at h
    ·cases h
    ·split at h
     ·rename_i i hi R M F;simp only[J8 F];simp only[Uq]at h ⊢;cases C:(O8 l).run O with
      |none=>rw[C]at h;cases h
      |some a =>
       rw[C]at h;cases E:(O8 c).run O with
       |none=>rw[E]at h;cases h
       |some b =>
        rw[E]at h;dsimp only at h ⊢;split at h
        ·rename_i n m;cases I:Nat.ble n m with
         |false=>rw[I]at h;cases h
         |true =>
          rw[I]at h;cases K:Nat.ble m 1048576 with
          |false=>rw[K]at h;cases h
          |true=>rw[K]at h;exact zkn h
        ·cases h
     ·cases h
  ·cases h
 |makeMap t r =>
  have L:∀{v:AV} {z:Heap},Y1 vX=.val v z→∃A,z=vX.push A∧Pg v=some vX.next∧∀j,Y1 j=.val (Rz j.next v) (j.push A):=λh=>by
   unfold Y1 at h;cases h;exact⟨_,rfl,rfl,λj=>rfl⟩
  simp only[Pp,te]at h ⊢;split at h
  ·exact L h
  ·rename_i x;split at h
   ·simp only[Ro]at h ⊢;cases B:(O8 x).run O with
    |none=>rw[B]at h;cases h
    |some a =>
     rw[B]at h;dsimp only at h ⊢;split at h
     ·exact L h
     ·cases h
   ·cases h
 |_ =>
  exfalso;simp only[cls]at g
  first
   |(cases g;done)
   |(split at g<;>first|(cases g;done)|(split at g<;>cases g))
   |(simp only[zd1]at g;split at g<;>first|(cases g;done)|(split at g<;>first|(cases g;done)|(split at g<;>cases g)))
end al
section draw
variable {P : Program} {n : Nat} {ops : Array Oper}
def Vw(P:Program)(ops:Array Oper)(x:DOp)(j:Tr AV)(A:Heap):Prop:=match x.c with
 |.rd=>(Tw ops x.o).run j=true→∃d v,x.o.dst=some d∧On (O1 d) j=some v∧(Pp P x.o.op).run j A=.val v A
 |.al=>(Tw ops x.o).run j=true→∃d v id z,x.o.dst=some d∧On (O1 d) j=some v∧Pg v=some id∧A.get id=some z∧∀g,(Pp P x.o.op).run j g=.val (Rz g.next v) (g.push z)
 |_=>True
def z87{x:DOp}(h:Vw P ops x O vX)(j:x.c=.rd∨x.c=.al)(hd:zfi ops x=true):(Zt P ops x).run O vX=true:=by
 unfold Zt;cases g:x.o.dst with
 |none=>unfold zfi at hd;rw[g]at hd;cases hd
 |some d =>
  dsimp only;cases C:(Tw ops x.o).run O with
  |false=>rfl
  |true =>
   dsimp only;unfold Vw at h;rcases j with j|j
   ·rw[j]at h;obtain⟨E,v,z,B,A⟩:=h C;rw[g]at z;cases z;rw[B,A,j];dsimp only;unfold Yq;split
    ·rfl
    ·exact @Ll _ (Classical.propDecidable _) rfl
   ·rw[j]at h;obtain⟨E,v,id,K,z,B,A,F,H⟩:=h C;rw[g]at z;cases z;rw[B,H vX,j];dsimp only;unfold zte;rw[A];dsimp only;have I:Yq (Sl 30 v (Rz id (Rz vX.next v))) v (Rz id (Rz vX.next v))=true:=by
     unfold Yq;split
     ·rfl
     ·exact @Ll _ (Classical.propDecidable _) (zu5 A).symm
    rw[I,F,Heap.get_push_same];dsimp only;unfold Yq;split
    ·rfl
    ·exact @Ll _ (Classical.propDecidable _) rfl
def zcm{t:Nat}:∀{l:List Nat},Ws t l=false→t ∉ l
 |[],_=>N
 |a::l,h=>by
  simp only[Ws]at h;cases g:Nat.beq t a with
  |true=>rw[g]at h;cases h
  |false =>
   rw[g]at h;intro hm;rcases J9.1 hm with rfl|hm
   ·rw[K0]at g;cases g
   ·exact zcm h hm
def cg{x:DOp}{d:Option Nat}(h:Yk ops d x=true)(v:AV)(g:Tr AV):Td (Vq ops x.o) (Qf d v g) g∧∀e,x.o.dst=some e→On (O1 e) (Qf d v g)=On (O1 e) g:=by
 cases d with
 |none=>exact⟨λt _ _=>rfl,λe _=>rfl⟩
 |some d =>
  unfold Yk at h;dsimp only at h;cases hm:Ws d (Vq ops x.o) with
  |true=>rw[hm]at h;cases h
  |false =>
   rw[hm]at h;dsimp only at h;refine⟨λt j _=>?_,λe he=>?_⟩
   ·show On (O1 t) (P7 v (O1 d) g)=_;rw[zm (λq=>zcm hm (by rw[←q];exact j))]
   ·rw[he]at h;dsimp only at h;show On (O1 e) (P7 v (O1 d) g)=_;rw[zm (λq=>by rw[q,K0]at h;cases h)]
def Vw.put{x:DOp}{E:Tr AV}{H:Heap}(h:Vw P ops x E H){d:Option Nat}(ho:Yk ops d x=true)(v:AV):Vw P ops x (Qf d v E) H:=by
 obtain⟨h1,h2⟩:=cg ho v E;have hg:=us (o:=x.o) h1;have hc:∀H2,(Pp P x.o.op).run (Qf d v E) H2=(Pp P x.o.op).run E H2:=λH2=>z6z h1
 unfold Vw at h ⊢;cases hx:x.c with
 |rd =>
  rw[hx]at h;intro g;obtain⟨d',w,k1,k2,k3⟩:=h (by rw[←hg];exact g);exact⟨d',w,k1,by rw[h2 d' k1];exact k2,by rw[hc];exact k3⟩
 |al =>
  rw[hx]at h;intro g;obtain⟨d',w,id,ob,k1,k2,k3,k4,k5⟩:=h (by rw[←hg];exact g);exact⟨d',w,id,ob,k1,by rw[h2 d' k1];exact k2,k3,k4,λH2=>by rw[hc];exact k5 H2⟩
 |quiet=>trivial
 |ch=>trivial
def zww{x:DOp}{r:RI}(g:rx P n ops x.o=some r)(C:Tr AV):(Tw ops x.o).run C=Zy r.g C∧T3 P x.o.op=some r.o∧r.d=x.o.dst:=by
 unfold rx at g;split at g
 ·cases g
 ·split at g
  ·cases g
  ·rename_i ro j;split at g
   ·rename_i z;cases g;refine⟨?_,j,rfl⟩;unfold Tw;rw[z];rfl
   ·rename_i E w z;split at g
    ·cases g
    ·rename_i t A;split at g
     ·rename_i B;cases g;refine⟨?_,j,rfl⟩;unfold Tw;rw[z];dsimp only;rw[A];dsimp only;rw[J8 (Kd B)];rfl
     ·cases g
def Vw.keep{x:DOp}{li:LI}(hr:rx P n ops x.o=some li.r)(gA:li.o.ok=true){c:Cx}{G G1:Ok}{ρ:Om}{E:Tr AV}(hs:HSim c G)(hE:Pt c ρ E)(st:Step c G u9 G1)(gg:ckL ρ G G1 (li,V3 x))
  (h:Vw P ops x E c.H):Vw P ops x E u9.H:=by
 have gC:∀{p k:Nat} {a:AV} {o:Nat},t7 G G1 p→c.hd[p]?=some (k,a)→Pg a=some o→u9.H.get o=c.H.get o:=by
  intro p k a o hk e1 e2;unfold t7 at hk;split at hk
  ·rename_i a1 b1 g1 g2;exact (st.st p a1 b1 k a o g1 g2 e1 e2 hk.1 hk.2).2.1
  ·exact hk.elim
 obtain⟨g1,g2,g3⟩:=zww hr E;have gD:(Tw ops x.o).run E=true→yb ρ G G1 (li,V3 x):=by
  intro g;rw[g1]at g;unfold ckL at gg;dsimp only at gg;split at gg
  ·exact gg
  ·rename_i t w hg;split at gg
   ·rename_i b hb;refine gg ?_;have ht:=hE t;rw[hb]at ht;rw[show li.r.g=li.g from rfl,hg]at g;unfold Zy at g;dsimp only at g;cases hq:On (O1 t) E with
    |none=>rw[hq]at g;cases g
    |some a =>
     rw[hq]at g ht;cases ht;cases b<;>cases w<;>first|rfl|cases g
   ·exact gg
 unfold Vw at h ⊢;cases hx:x.c with
 |quiet=>trivial
 |ch=>trivial
 |rd =>
  rw[hx]at h;intro g;have hc:=gD g;obtain⟨d,v,k1,k2,k3⟩:=h g;refine⟨d,v,k1,k2,?_⟩;rw[zq3 (zow E) g2]at k3 ⊢;have gI:V3 x=false:=by unfold V3;rw[hx]
  unfold yb at hc;rw[gI]at hc;dsimp only at hc;have gH:∀{y:Lx},y.ok=true→∀m,(match y.ev ρ with
    |.ptr p _=>some (some p)
    |.dptr p k _=>(match G[p]? with
     |some (.dyn _ _ _ gB _)=>if k=gB then some (some p) else none
     |_=>none)
    |.cptr _ _=>some none
    |_=>(none:Option (Option Nat)))=some m→(∀p,m=some p→t7 G G1 p)→∃o v i,y.r.ev (ρA E)=.ptr o v i∧u9.H.get o=c.H.get o:=by
   intro y hy m hm hk;have hv:=P5 hE hy;generalize y.ev ρ=w at hm hv;generalize y.r.ev (ρA E)=b at hv ⊢;split at hm
   ·rename_i p i;cases hm;cases hv with
    |ptr e=>exact⟨_,_,_,rfl,gC (hk p rfl) e rfl⟩
   ·rename_i p k i;split at hm
    ·rename_i l len gF gB stp hg;by_cases gG:k=gB
     ·rw[J8 gG]at hm;cases hm;cases hv with
      | @dptr _ _ _ k' o v gY hh e gL ha =>
       have:=(hs.obj p _ _ _ hg e).1;obtain⟨_,gU,gV,room,rfl⟩:=ha J;exact⟨o,v,gY,rfl,gC (hk p rfl) e rfl⟩
     ·rw[J2 gG]at hm;cases hm
    ·cases hm
   ·cases hm;cases hv with
    |cptr hf hr hl=>exact⟨_,_,_,rfl,(st.le.fz _ hf).2⟩
   ·cases hm
  have fin:∀m,mg ρ G li.o=some m→(∀p,m=some p→t7 G G1 p)→P6 P (ρA E) u9.H li.r.o=.val v u9.H:=by
   intro m hm hk;have j:P6 P (ρA E) c.H li.o.r=.val v c.H:=k3;show P6 P (ρA E) u9.H li.o.r=_;unfold mg at hm;split at hm
   ·rename_i y ho;rw[ho]at j gA ⊢;obtain⟨o,w,i,q1,q2⟩:=gH gA m hm hk;simp only[LOp.r,P6]at j ⊢;rw[q1]at j ⊢;dsimp only at j ⊢;rw[z31 q2];split at j
    ·cases j;rfl
    ·cases j
   ·rename_i nn y ho;rw[ho]at j gA ⊢;obtain⟨o,w,i,q1,q2⟩:=gH gA m hm hk;simp only[LOp.r,P6]at j ⊢;rw[q1]at j ⊢;dsimp only at j ⊢;rw[z31 q2];split at j
    ·cases j;rfl
    ·cases j
   ·rename_i y ho;rw[ho]at j gA ⊢;have hv:=P5 hE gA;simp only[LOp.r,P6]at j ⊢;generalize y.ev ρ=w at hm hv;generalize y.r.ev (ρA E)=b at hv j ⊢;have done:(∀o v i len gF room,b=.sl o v i len gF room→u9.H.get o=c.H.get o)→(match b with
      |.nilSl=>OR.val (.str 0 0) u9.H
      |.sl o v i len 1 _=>match Sd u9.H o v i len with
       |some l=>match W6.bytesA l with
        |some n=>.val (.str len n) u9.H
        |none=>.no
       |none=>.no
      |_=>.no)=.val v u9.H:=by
     intro hh;split at j
     ·cases j;rfl
     ·rename_i o v2 i len room;have e:=hh o v2 i len 1 room rfl;show (match Sd u9.H o v2 i len with
       |some l=>match W6.bytesA l with
        |some n=>OR.val (.str len n) u9.H
        |none=>.no
       |none=>.no)=.val v u9.H
      rw[z31 e];split at j
      ·rename_i gO;split at j
       ·rename_i hb;cases j;rw[gO];dsimp only;rw[hb]
       ·cases j
      ·cases j
     ·cases j
    split at hm
    ·cases hv;exact done (λ_ _ _ _ _ _ e=>An)
    ·cases hm;cases hv with
     |lst hf gX hlen hr hl=>exact done (λ_ _ _ _ _ _ e=>by cases e;exact (st.le.fz _ hf).2)
     |lstNil=>exact done (λ_ _ _ _ _ _ e=>An)
     |lstEmp=>exact done (λ_ _ _ _ _ _ e=>An)
    ·rename_i p k;split at hm
     ·rename_i l len gF gB stp hg;by_cases gG:k=gB
      ·rw[J8 gG]at hm;cases hm;cases hv with
       | @dy _ _ k' hh _ e gL ha gR =>
        have:=(hs.obj p _ _ _ hg e).1;have gK:=ha J;exact done (λo v i len gF room eb=>gC (hk p rfl) e (by rw[←gK,eb];rfl))
      ·rw[J2 gG]at hm;cases hm
     ·cases hm
    ·cases hm
   ·cases hm
  split at hc
  ·rename_i hm;exact fin none hm (λp e=>An)
  ·rename_i p hm;exact fin (some p) hm (λp' e=>by cases e;exact hc)
  ·exact hc.elim
 |al =>
  rw[hx]at h;intro g;have hc:=gD g;obtain⟨d,v,id,ob,k1,k2,k3,k4,k5⟩:=h g;refine⟨d,v,id,ob,k1,k2,k3,?_,k5⟩;have gI:V3 x=true:=by unfold V3;rw[hx]
  unfold yb at hc;rw[gI]at hc;dsimp only at hc;have hd:li.d=some d:=by rw[←k1];exact g3
  rw[hd]at hc;dsimp only at hc;have hv:=hE d;rw[k2]at hv;split at hc
  ·rename_i p i hl;rw[hl]at hv;cases hv with
   |ptr e=>cases k3;rw[gC hc e rfl];exact k4
  ·rename_i p k hl;rw[hl]at hv;obtain⟨gM,gT⟩:=hc;split at gM
   ·rename_i l len gF gB stp hg;cases hv with
    | @dy _ _ k' hh _ e gL ha gR =>
     have:=(hs.obj p _ _ _ hg e).1;have gK:v=hh:=ha J;rw[gC gT e (by rw[←gK];exact k3)];exact k4
   ·exact gM.elim
  ·exact hc.elim
def cks_mem:∀{g:List DOp} {B:List (LI×Bool)},zi3 P n ops g=some (rck B)→∀{ρ:Om} {G C:Ok},W2 ρ G C B→∀x∈g,∃z,rx P n ops x.o=some z.r∧(z,V3 x)∈B∧ckL ρ G C (z,V3 x)
 |[],_,_,_,_,_,_,x,j=>by simp at j
 |y::g,[],h,_,_,_,_,x,j=>by
  simp only[zi3]at h;split at h
  ·cases h
  ·split at h<;>cases h
 |y::g,(z,b)::B,h,ρ,G,C,k,x,j=>by
  simp only[zi3]at h;split at h
  ·cases h
  ·rename_i r F;split at h
   ·cases h
   ·rename_i M A;simp only[rck,Option.some.injEq,List.cons.injEq,Prod.mk.injEq]at h;obtain⟨⟨rfl,rfl⟩,H⟩:=h;rw[H]at A;rcases J9.1 j with rfl|j
    ·exact⟨z,F,N,k.1⟩
    ·obtain⟨E,I,K,L⟩:=cks_mem A k.2 x j;exact⟨E,I,Bm,L⟩
def zbb{g:Type}{f:g→Bool}:∀{l:List g} {x:g},x∈Pl f l→x∈l
 |[],_,h=>h
 |a::l,x,h=>by
  simp only[Pl]at h;split at h
  ·rcases J9.1 h with rfl|h
   ·simp
   ·exact Kl _ (zbb h)
  ·exact Kl _ (zbb h)
def zex{z:Type}{f:z→Bool}:∀{l:List z},Ww f l=true→∀x∈l,f x=true
 |[],_,x,g=>by simp at g
 |a::l,h,x,g=>by
  simp only[Ww]at h;split at h
  ·rename_i j;rcases J9.1 g with rfl|g
   ·exact j
   ·exact zex h x g
  ·cases h
def zbq{j:Tr AV}{z:Heap}:∀{l:List DOp},(∀x∈l,(Zt P ops x).run j z=true)→(pz P ops l).run j z=true
 |[],_=>rfl
 |x::l,h=>by
  simp only[pz];rw[h x N];exact zbq (λy g=>h y A1)
structure Pend (P:Program) (n:Nat) (ops:Array Oper) (x:DOp):Prop where
 cls:x.c=.rd∨x.c=.al
 own:zfi ops x=true
def drawGo_ok:∀{l z:List DOp} {g:List (LI×List (LI×Bool))} {c:Cx} {G:Ok} {ρ:Om} {gD:Tr AV} {gO:Om→Ok→Prop},wt P n ops l z=some (ua g)→(g.all λx=>x.1.o.ok&&x.2.all (·.1.o.ok))=true →
  HSim c G→Pt c ρ gD→(∀x∈z,Pend P n ops x∧Vw P ops x gD c.H)→Z3 P g ρ G gO →
  ∃m Y R U O,(V5 P n ops l z).run (Tp P (OL P) m) gD c.H=.ok Y R.H∧HSim R O∧Step c G R O∧Pt R U Y∧gO U O
 |[],z,g,c,G,ρ,gD,gO,h,_,hs,hE,_,k=>by
  cases g with
  |nil=>exact⟨0,gD,c,ρ,G,rfl,hs,.refl c G,hE,k⟩
  |cons _ _=>cases h
 |x::l,z,g,c,G,ρ,gD,gO,h,I,hs,hE,hp,k=>by
  simp only[wt]at h;split at h
  ·cases h
  ·rename_i gK;rw[Jz]at gK;obtain⟨gF,C⟩:=gK;split at h
   ·cases h
   ·rename_i r hr;have gC:∀{li:LI} {cs:List (LI×Bool)} {H:List (LI×List (LI×Bool))},r=li.r→g=(li,cs)::H →
      ∃m M K ρ1 Z v,(Sg P n ops x.o).run (Tp P (OL P) m) gD c.H=.ok M K.H∧M=Qf x.o.dst v gD∧HSim K Z∧Step c G K Z∧Pt K ρ1 M∧W2 ρ G Z cs∧Z3 P H ρ1 Z gO:=by
     intro li cs H e1 e2;subst e2;simp only[Mf,Jz]at I;obtain⟨m,M,K,ρ1,Z,q1,q2,q3,q4,q5,q6⟩:=ft hs hE I.1.1 (show Y7 P li ρ G (λU O=>W2 ρ G O cs∧Z3 P H U O gO) from k);rw[←e1,←zdp hr]at q1;obtain⟨v,w1,_⟩:=z4x q1;exact⟨m,M,K,ρ1,Z,v,q1,w1,q2,q3,q4,q5,q6⟩
    have gG:∀{v:AV},∀y∈z,Vw P ops y gD c.H→Vw P ops y (Qf x.o.dst v gD) c.H:=λy B hv=>hv.put (zex gF y B) _
    have go:∀{pend':List DOp} {H:List (LI×List (LI×Bool))} {m:Nat} {M:Tr AV} {K:Cx} {ρ1:Om} {Z:Ok},wt P n ops l pend'=some (ua H)→(H.all λx=>x.1.o.ok&&x.2.all (·.1.o.ok))=true→HSim K Z→Step c G K Z→Pt K ρ1 M →
      (∀y∈pend',Pend P n ops y∧Vw P ops y M K.H)→Z3 P H ρ1 Z gO→(Sg P n ops x.o).run (Tp P (OL P) m) gD c.H=.ok M K.H →
      ∃m' Y R U O,(Sg P n ops x.o).run (Tp P (OL P) m') gD c.H=.ok M K.H∧(V5 P n ops l pend').run (Tp P (OL P) m') M K.H=.ok Y R.H∧HSim R O∧Step c G R O∧Pt R U Y∧gO U O:=by
     intro pend' H m M K ρ1 Z a1 a2 a3 a4 a5 a6 a7 a8;obtain⟨m2,Y,R,U,O,b1,b2,b3,b4,b5⟩:=drawGo_ok a1 a2 a3 a5 a6 a7;exact⟨max m m2,Y,R,U,O,z3a (lc (Mi m m2)) a8,z4b (lc (M9 m m2)) b1,b2,.trans hs a3 a4 b3,b4,b5⟩
    cases X:x.c with
    |quiet =>
     rw[X]at h;dsimp only at h;split at h
     ·cases h
     ·rename_i rs gg;cases g with
      |nil=>cases h
      |cons it H =>
       obtain⟨li,cs⟩:=it;simp only[ua,Option.some.injEq,List.cons.injEq,Prod.mk.injEq]at h;obtain⟨⟨h1,h2⟩,h3⟩:=h;obtain⟨m,M,K,ρ1,Z,v,q1,q2,q3,q4,q5,q6,q7⟩:=gC h1 rfl;simp only[Mf,Jz]at I;have hH:K.H=c.H:=by
        have hc:cls P x.o.op=.quiet:=by
         rw[X]at C;cases E:cls P x.o.op<;>rw[E]at C<;>first|rfl|cases C
        exact z4t (zaj.1 hc).reads q1
       obtain⟨m',Y,R,U,O,b1,b2,b3,b4,b5,b6⟩:=go (pend':=z) Ev I.2 q3 q4 q5 (λy B=>⟨(hp y B).1,by rw[hH,q2];exact gG y B (hp y B).2⟩) q7 q1;refine⟨m',Y,R,U,O,?_,b3,b4,b5,b6⟩;simp only[V5];rw[X];dsimp only;rw[b1];exact b2
    |rd =>
     rw[X]at h;dsimp only at h;split at h
     ·cases h
     ·rename_i j;split at h
      ·cases h
      ·rename_i rs gg;cases g with
       |nil=>cases h
       |cons it H =>
        obtain⟨li,cs⟩:=it;simp only[ua,Option.some.injEq,List.cons.injEq,Prod.mk.injEq]at h;obtain⟨⟨h1,h2⟩,h3⟩:=h;obtain⟨m,M,K,ρ1,Z,v,q1,q2,q3,q4,q5,q6,q7⟩:=gC h1 rfl;simp only[Mf,Jz]at I;have hc:cls P x.o.op=.rd:=by
         rw[X]at C;cases E:cls P x.o.op<;>rw[E]at C<;>first|rfl|cases C
        have hH:K.H=c.H:=z4t (zaj.2 hc) q1;have T:Vw P ops x M K.H:=by
         unfold Vw;rw[X];intro gT;unfold zfi at j;cases A:x.o.dst with
         |none=>rw[A]at j;cases j
         |some d =>
          rw[A]at j;have hm:Ws d (Vq ops x.o)=false:=Bv
          have L:Td (Vq ops x.o) M gD:=λt ht _=>by
           rw[q2,A];show On (O1 t) (P7 v (O1 d) gD)=_;rw[zm (λq=>zcm hm (by rw[←q];exact ht))]
          rw[us L]at gT;refine⟨d,v,rfl,by rw[q2,A];exact kv _ _ _,?_⟩;rw[z6z L,hH];have E:=q1;unfold Sg at E;cases gA:Sf n x.o.dst with
          |none=>rw[gA]at E;cases E
          |some pf =>
           rw[gA]at E;dsimp only at E;rw[gT]at E;dsimp only at E;have gI:=(zaj.2 hc) gD c.H;cases V:(Pp P x.o.op).run gD c.H with
           |no=>rw[V]at E;cases E
           |call t a=>rw[V]at gI;cases gI
           |val w H2 =>
            rw[V]at E gI;cases gI;injection E with e1 e2
            have:=congrArg (λgD=>On (O1 d) gD) e1;rw[q2,(z9o gA).1,A,kv,kv]at this;cases this;rfl
        obtain⟨m',Y,R,U,O,b1,b2,b3,b4,b5,b6⟩:=go (pend':=x::z) Ev I.2 q3 q4 q5 (λy B=>by
         rcases J9.1 B with rfl|B
         ·exact⟨⟨.inl X,j⟩,T⟩
         ·exact⟨(hp y B).1,by rw[hH,q2];exact gG y B (hp y B).2⟩) q7 q1
        refine⟨m',Y,R,U,O,?_,b3,b4,b5,b6⟩;simp only[V5];rw[X];dsimp only;rw[b1];exact b2
    |al =>
     rw[X]at h;dsimp only at h;split at h
     ·cases h
     ·rename_i j;split at h
      ·cases h
      ·rename_i gR gH;split at h
       ·cases h
       ·rename_i rs gg;cases g with
        |nil=>cases h
        |cons it H =>
         obtain⟨li,cs⟩:=it;simp only[ua,Option.some.injEq,List.cons.injEq,Prod.mk.injEq]at h;obtain⟨⟨h1,h2⟩,h3⟩:=h;obtain⟨m,M,K,ρ1,Z,v,q1,q2,q3,q4,q5,q6,q7⟩:=gC h1 rfl;simp only[Mf,Jz]at I;have hc:cls P x.o.op=.al:=by
          rw[X]at C;cases E:cls P x.o.op<;>rw[E]at C<;>first|rfl|cases C
         rw[h2]at gH;have F:∀y∈z,Pend P n ops y∧Vw P ops y M K.H:=λy B=>by
          obtain⟨gL,w1,w2,w3⟩:=cks_mem gH q6 y B;have gB:gL.o.ok=true:=Lq.1 I.1.2 _ w2;refine⟨(hp y B).1,?_⟩;rw[q2];exact ((hp y B).2.keep w1 gB hs hE q4 w3).put (zex gF y B) _
         have T:Vw P ops x M K.H:=by
          unfold Vw;rw[X];intro gT;unfold zfi at j;cases A:x.o.dst with
          |none=>rw[A]at j;cases j
          |some d =>
           rw[A]at j;have hm:Ws d (Vq ops x.o)=false:=Bv
           have L:Td (Vq ops x.o) M gD:=λt ht _=>by
            rw[q2,A];show On (O1 t) (P7 v (O1 d) gD)=_;rw[zm (λq=>zcm hm (by rw[←q];exact ht))]
           rw[us L]at gT;have E:=q1;unfold Sg at E;cases gA:Sf n x.o.dst with
           |none=>rw[gA]at E;cases E
           |some pf =>
            rw[gA]at E;dsimp only at E;rw[gT]at E;dsimp only at E;cases V:(Pp P x.o.op).run gD c.H with
            |no=>rw[V]at E;cases E
            |call t a =>
             exfalso;have:=zpt (o:=x.o) hc gD c.H;rw[V]at this;exact this
            |val w H2 =>
             rw[V]at E;injection E with e1 e2
             have:=congrArg (λgD=>On (O1 d) gD) e1;rw[q2,(z9o gA).1,A,kv,kv]at this;cases this;obtain⟨ob,u1,u2,u3⟩:=al_any hc V;refine⟨d,_,c.H.next,ob,rfl,by rw[q2,A];exact kv _ _ _,u2,?_,λH3=>by rw[z6z L];exact u3 H3⟩;rw[←e2,u1];exact Heap.get_push_same _ _
         obtain⟨m',Y,R,U,O,b1,b2,b3,b4,b5,b6⟩:=go (pend':=x::z) Ev I.2 q3 q4 q5 (λy B=>by
          rcases J9.1 B with rfl|B
          ·exact⟨⟨.inr X,j⟩,T⟩
          ·exact F y B) q7 q1
         refine⟨m',Y,R,U,O,?_,b3,b4,b5,b6⟩;simp only[V5];rw[X];dsimp only;rw[b1];dsimp only;rw[zbq (λy B=>by
          rcases J9.1 B with rfl|B
          ·exact z87 T (.inr X) j
          ·exact z87 (F y B).2 (F y B).1.cls (F y B).1.own)]
         exact b2
    |ch =>
     rw[X]at h;dsimp only at h;split at h
     ·cases h
     ·rename_i gR gH;split at h
      ·cases h
      ·rename_i rs gg;cases g with
       |nil=>cases h
       |cons it H =>
        obtain⟨li,cs⟩:=it;simp only[ua,Option.some.injEq,List.cons.injEq,Prod.mk.injEq]at h;obtain⟨⟨h1,h2⟩,h3⟩:=h;obtain⟨m,M,K,ρ1,Z,v,q1,q2,q3,q4,q5,q6,q7⟩:=gC h1 rfl;simp only[Mf,Jz]at I;rw[h2]at gH;have F:∀y∈Pl (λy=>!(Nat.testBit x.m y.i)) z,Pend P n ops y∧Vw P ops y M K.H:=λy B=>by
         have gM:=zbb B;obtain⟨gL,w1,w2,w3⟩:=cks_mem gH q6 y B;have gB:gL.o.ok=true:=Lq.1 I.1.2 _ w2;refine⟨(hp y gM).1,?_⟩;rw[q2];exact ((hp y gM).2.keep w1 gB hs hE q4 w3).put (zex gF y gM) _
        obtain⟨m',Y,R,U,O,b1,b2,b3,b4,b5,b6⟩:=go (pend':=Pl (λy=>!(Nat.testBit x.m y.i)) z) Ev I.2 q3 q4 q5 F q7 q1;refine⟨m',Y,R,U,O,?_,b3,b4,b5,b6⟩;simp only[V5];rw[X];dsimp only;rw[b1];dsimp only;rw[zbq (λy B=>z87 (F y B).2 (F y B).1.cls (F y B).1.own)];exact b2
end draw
section rule
variable {P : Program} {f n : Nat} {ro : Option Nat} {ρ : Om} {D : List Nat} {G : Ok} {Q : Ri}
def W_draw{l:List (LI×List (LI×Bool))}(h:Z3 P l ρ G λj z=>Q .normal j D z):W P f n (.draw l) ro ρ D G Q:=by
 intro A c Z C E F H I K L Y;obtain⟨id,ops,rfl,g⟩:=br F;unfold zny at g;dsimp only at g;split at g
 ·rename_i hd;obtain⟨m,M,O,j,z,R,T,B,U,V⟩:=drawGo_ok g H I K (λx X=>by simp at X) h;refine⟨m,.normal,M,C,O,j,D,z,?_,T,B,U,L.mono B.le,V⟩;simp only[Rn,zo];rw[hd];dsimp only;rw[R]
 ·cases g
end rule
end
end
section
mutual
def LV.dat:LV→Bool
 |.any=>true
 |.bool _ |.u _ |.b _ |.i _ |.int _ _ |.str _ |.nilPtr |.nilSl |.nilMap |.nilFn |.nilIf=>true
 |.cptr l _=>dats l
 |.lst l _ _=>dats l
 |.fn (.func _) l r=>dats l&&dats r
 |.iface _ v=>v.dat
 |.agg l=>dats l
 |.tup l=>dats l
 |_=>false
def dats:List LV→Bool
 |[]=>true
 |v::l=>v.dat&&dats l
end
mutual
def AR.dat{c c':Cx}(gg:∀o,c.Fz o→c'.Fz o∧c'.H.get o=c.H.get o)(v:LV)(a:AV)(hd:v.dat=true)(h:AR c v a):AR c' v a:=by
 cases v with
 |cptr l i =>
  simp only[LV.dat]at hd;cases h with
  |cptr hf hr hl=>exact .cptr (gg _ hf).1 (by rw[z31 (gg _ hf).2];exact hr) (ARs.dat gg l _ hd hl)
 |lst l len gB =>
  simp only[LV.dat]at hd;cases h with
  |lst hf gA hlen hr hl=>exact .lst (gg _ hf).1 gA hlen (by rw[z31 (gg _ hf).2];exact hr) (ARs.dat gg l _ hd hl)
  |lstNil=>exact .lstNil
  |lstEmp=>exact .lstEmp
 |fn f l r =>
  cases f with
  |func f =>
   simp only[LV.dat,Jz]at hd;cases h with
   |fn hl hr=>exact .fn (ARs.dat gg l _ hd.1 hl) (ARs.dat gg r _ hd.2 hr)
  |_=>simp[LV.dat]at hd
 |iface t w =>
  simp only[LV.dat]at hd;cases h with
  |iface h=>exact .iface (AR.dat gg w _ hd h)
 |agg l =>
  simp only[LV.dat]at hd;cases h with
  |agg h=>exact .agg (ARs.dat gg l _ hd h)
 |tup l =>
  simp only[LV.dat]at hd;cases h with
  |tup h=>exact .tup (ARs.dat gg l _ hd h)
 |any=>exact .any a
 |_=>first|(simp only[LV.dat]at hd;cases hd;done)|(cases h;constructor)
termination_by SizeOf.sizeOf v
def ARs.dat{c c':Cx}(gg:∀o,c.Fz o→c'.Fz o∧c'.H.get o=c.H.get o)(l:List LV)(r:List AV)(hd:dats l=true)(h:ARs c l r):ARs c' l r:=by
 cases l with
 |nil=>cases h;exact .nil
 |cons v l =>
  simp only[dats,Jz]at hd;cases h with
  |cons e es=>exact .cons (AR.dat gg v _ hd.1 e) (ARs.dat gg l _ hd.2 es)
termination_by SizeOf.sizeOf l
end
def dats_app:∀{l r:List LV},dats l=true→dats r=true→dats (l++r)=true
 |[],_,_,h=>h
 |v::l,r,h,k=>by
  simp only[dats,Jz]at h;simp only[K2,dats,Jz];exact⟨h.1,dats_app h.2 k⟩
def dats_take:∀{l:List LV} (n:Nat),dats l=true→dats (l.take n)=true
 |_,0,_=>by simp[dats]
 |[],n+1,_=>by simp[dats]
 |v::l,n+1,h=>by
  simp only[dats,Jz]at h;simp only[List.take_succ_cons,dats,Jz];exact⟨h.1,dats_take n h.2⟩
def dats_drop:∀{l:List LV} (n:Nat),dats l=true→dats (l.drop n)=true
 |_,0,h=>h
 |[],n+1,_=>by simp[dats]
 |v::l,n+1,h=>by
  simp only[dats,Jz]at h;simp only[List.drop_succ_cons];exact dats_drop n h.2
def ug{g:Type}{f:g→LV}(h:∀a,(f a).dat=true):∀l:List g,dats (l.map f)=true
 |[]=>rfl
 |a::l=>by simp only[Mp,dats,Jz];exact⟨h a,ug h l⟩
mutual
def bor(G:Ok):LV→LV→Prop
 |.dy p k,d=>∃l len gg st,d=.lst l len gg∧G[p]?=some (.dyn l len gg k st)∧dats l=true
 |.vw p k lo len,d=>∃l gA gg st,d=.lst ((l.drop (lo*gg)).take (len*gg)) len gg∧G[p]?=some (.dyn l gA gg k st)∧lo*gg+len*gg≤l.length∧dats l=true
 |.nilSl,d=>d=.nilSl∨∃gg,d=.lst [] 0 gg
 |.agg l,d=>∃r,d=.agg r∧bors G l r
 |v,d=>d=v∧v.dat=true
def bors(G:Ok):List LV→List LV→Prop
 |[],r=>r=[]
 |v::l,r=>∃d r',r=d::r'∧bor G v d∧bors G l r'
end
section calls
variable {P : Program} {c : Cx} {G : Ok}
def ma{v d:LV}{a:AV}(g:d=v∧v.dat=true)(h:AR c v a):AR ⟨[],λo=>c.Fz o∨Qq c G o,c.H⟩ d a:=by
 obtain⟨rfl,hd⟩:=g;exact AR.dat (c':=⟨[],λo=>c.Fz o∨Qq c G o,c.H⟩) (λo j=>⟨Or.inl j,rfl⟩) d a hd h
mutual
def bor_ok(hs:HSim c G)(v d:LV)(a:AV)(hb:bor G v d)(h:AR c v a):AR ⟨[],λo=>c.Fz o∨Qq c G o,c.H⟩ d a:=by
 cases v with
 |dy p k =>
  simp only[bor]at hb;obtain⟨l,len,gg,st,rfl,hg,hd⟩:=hb;cases h with
  | @dy _ _ k' hh _ e hk ha _ =>
   have gD:=hs.obj p _ _ _ hg e;obtain⟨r0,r1,r2⟩:=gD;have gB:=ha J;rcases r2 with ⟨r2,r3⟩|⟨o,v,room,t,gC,l',r2,r3,r4,r5,r6,r7,r8⟩
   ·subst r3;have:l=[]:=Kk Ds;subst this;rw[gB,r2];exact .lstNil
   ·have gL:l'.length=len*gg:=Dk
    have hr:=W1 (i:=0) (n:=len*gg) r3 r5 r4 J;rw[Mg,Kf J]at hr;rw[gB,r2];exact .lst (.inr ⟨p,_,_,_,hg,rfl,e,by rw[r2];rfl⟩) (λr e=>(r7 r e).2) r1 hr (ARs.dat (c':=⟨[],λo=>c.Fz o∨Qq c G o,c.H⟩) (λo ho=>⟨Or.inl ho,rfl⟩) l l' hd r6)
 |vw p k lo len =>
  simp only[bor]at hb;obtain⟨l,gI,gg,st,rfl,hg,hle,hd⟩:=hb;cases h with
  | @vw _ _ _ _ k' hh _ e hk ha _ _ =>
   have gM:=(hs.obj p _ _ _ hg e).1;rcases ha J with ⟨r3,r4⟩|⟨o,v,gK,gA,room,gF,r3,r4,r9⟩
   ·subst r3;simp only[Mn,N9];rcases r4 with rfl|⟨rfl,_⟩
    ·exact .lstNil
    ·exact .lstEmp
   ·have e2:=e;rw[r3]at e2;obtain⟨_,q1,q2,q3,t,gC,l',q4,q5,q6,q7,_⟩:=ai hs hg e2;subst q2 q3;have hr:=W1 (i:=lo*gA) (n:=len*gA) q4 q6 q5 J;rw[r4];refine .lst (.inr ⟨p,_,_,_,hg,rfl,e,by rw[r3];rfl⟩) r9 Ab hr ?_;exact ((ARs.dat (c':=⟨[],λo=>c.Fz o∨Qq c G o,c.H⟩) (λo ho=>⟨Or.inl ho,rfl⟩) l l' hd q7).drop _).take _
 |nilSl =>
  simp only[bor]at hb;cases h;rcases hb with rfl|⟨gg,rfl⟩
  ·exact .nilSl
  ·exact .lstNil
 |agg l =>
  simp only[bor]at hb;obtain⟨r,rfl,hb⟩:=hb;cases h with
  |agg h=>exact .agg (bors_ok hs l r _ hb h)
 |_=>exact ma (by simpa only[bor] using hb) h
termination_by SizeOf.sizeOf v
def bors_ok(hs:HSim c G)(l r:List LV)(as:List AV)(hb:bors G l r)(h:ARs c l as):ARs ⟨[],λo=>c.Fz o∨Qq c G o,c.H⟩ r as:=by
 cases l with
 |nil=>simp only[bors]at hb;subst hb;cases h;exact .nil
 |cons v l =>
  simp only[bors]at hb;obtain⟨d,r',rfl,gG,gH⟩:=hb;cases h with
  |cons e es=>exact .cons (bor_ok hs v d _ gG e) (bors_ok hs l r' _ gH es)
termination_by SizeOf.sizeOf l
end
mutual
def shV(n:Nat):LV→LV
 |.dy j k=>.dy (n+j) k
 |.agg l=>.agg (shVs n l)
 |.tup l=>.tup (shVs n l)
 |v=>v
def shVs(n:Nat):List LV→List LV
 |[]=>[]
 |v::l=>shV n v::shVs n l
end
mutual
def frV(j:Ok):LV→LV
 |.dy gA _=>match j[gA]? with
  |some (.dyn l len gg _ _)=>.lst l len gg
  |_=>.any
 |.agg l=>.agg (frVs j l)
 |.tup l=>.tup (frVs j l)
 |v=>v
def frVs(j:Ok):List LV→List LV
 |[]=>[]
 |v::l=>frV j v::frVs j l
end
mutual
def sh_AR{c0 c':Cx}{n m:Nat}(h:∀gg a,gg<m→AR c0 (.dy gg 0) a→AR c' (.dy (n+gg) 0) a)(v:LV)(a:AV)(j:v.sim m=true)(ha:AR c0 v a):AR c' (shV n v) a:=by
 cases v with
 |dy gg k =>
  simp only[LV.sim,Jz,Ns,Kb]at j;obtain⟨rfl,hj⟩:=j;exact h gg a hj ha
 |agg l =>
  simp only[LV.sim]at j;cases ha with
  |agg ha=>simp only[shV];exact .agg (sh_ARs h l _ j ha)
 |tup l =>
  simp only[LV.sim]at j;cases ha with
  |tup ha=>simp only[shV];exact .tup (sh_ARs h l _ j ha)
 |_=>first|(simp only[LV.sim]at j;cases j;done)|(simp only[shV];cases ha;constructor)
termination_by SizeOf.sizeOf v
def sh_ARs{c0 c':Cx}{n m:Nat}(h:∀gg a,gg<m→AR c0 (.dy gg 0) a→AR c' (.dy (n+gg) 0) a)(l:List LV)(r:List AV)(j:sims m l=true)(ha:ARs c0 l r):ARs c' (shVs n l) r:=by
 cases l with
 |nil=>cases ha;simp only[shVs];exact .nil
 |cons v l =>
  simp only[sims,Jz]at j;cases ha with
  |cons e es=>simp only[shVs];exact .cons (sh_AR h v _ j.1 e) (sh_ARs h l _ j.2 es)
termination_by SizeOf.sizeOf l
end
mutual
def fr_AR{c0 c':Cx}{G0:Ok}(h:∀gg a,gg<G0.length→AR c0 (.dy gg 0) a→AR c' (frV G0 (.dy gg 0)) a)(v:LV)(a:AV)(j:v.sim G0.length=true)(ha:AR c0 v a):AR c' (frV G0 v) a:=by
 cases v with
 |dy gg k =>
  simp only[LV.sim,Jz,Ns,Kb]at j;obtain⟨rfl,hj⟩:=j;exact h gg a hj ha
 |agg l =>
  simp only[LV.sim]at j;cases ha with
  |agg ha=>simp only[frV];exact .agg (fr_ARs h l _ j ha)
 |tup l =>
  simp only[LV.sim]at j;cases ha with
  |tup ha=>simp only[frV];exact .tup (fr_ARs h l _ j ha)
 |_=>first|(simp only[LV.sim]at j;cases j;done)|(simp only[frV];cases ha;constructor)
termination_by SizeOf.sizeOf v
def fr_ARs{c0 c':Cx}{G0:Ok}(h:∀gg a,gg<G0.length→AR c0 (.dy gg 0) a→AR c' (frV G0 (.dy gg 0)) a)(l:List LV)(r:List AV)(j:sims G0.length l=true)(ha:ARs c0 l r):ARs c' (frVs G0 l) r:=by
 cases l with
 |nil=>cases ha;simp only[frVs];exact .nil
 |cons v l =>
  simp only[sims,Jz]at j;cases ha with
  |cons e es=>simp only[frVs];exact .cons (fr_AR h v _ j.1 e) (fr_ARs h l _ j.2 es)
termination_by SizeOf.sizeOf l
end
def Pm{f:Nat}{E:Ok}(hc:P4 P f vV Q E)(hb:bors G F vV)(k:vZ (frV E Q) G):Sw P (.fn f) F G vZ:=by
 obtain⟨ht,O,hG,R⟩:=hc;refine⟨ht,λc t1 C z T ha=>?_⟩;cases t1 with
 |yield o=>exact T.elim
 |fn gG =>
  obtain rfl:f=gG:=T;obtain⟨m,v1,H,I,q1,q2,q3,q4,q5,q6⟩:=R (λo=>c.Fz o∨Qq c G o) c.H C (λo g=>g.elim (z.fz o) (z.lt o)) (bors_ok z F vV C hb ha);have U:CxLe c ⟨c.hd,λo=>c.Fz o∨Qq ⟨H,λo=>c.Fz o∨Qq c G o,I⟩ E o,I⟩:=⟨λp k h e=>⟨k,h,e,J4 _,λ_=>rfl,λ_=>rfl⟩,λo g=>⟨.inl g,q5 o (z.fz o g)⟩⟩;have j:∀o,Qq ⟨c.hd,λo=>c.Fz o∨Qq ⟨H,λo=>c.Fz o∨Qq c G o,I⟩ E o,I⟩ G o→Qq c G o:=λo ⟨p,A,k,h,D,B,V,X⟩=>⟨p,A,k,h,D,B,V,X⟩
  refine⟨m,v1,I,q1,⟨c.hd,λo=>c.Fz o∨Qq ⟨H,λo=>c.Fz o∨Qq c G o,I⟩ E o,I⟩,frV E Q,G,rfl,?_,?_,?_,k⟩
  ·refine⟨z.len,λo g=>?_,λo g=>Kr (z.lt o (j o g)) q4,λo g Y=>?_,λp A k h D B=>?_,λp q A K k h k' h' o D B V X e5 e6 e7 e8=>z.excl p q A K k h k' h' o D B V X e5 e6 e7 e8⟩
   ·rcases g with g|g
    ·exact Kr (z.fz o g) q4
    ·exact q2.lt o g
   ·rcases Y with Y|Y
    ·exact z.sep o (j o g) Y
    ·have:=q6 o Y;have:=z.lt o (j o g);omega
   ·by_cases hl:A.live=true
    ·exact (z.obj p A k h D B).mono U (λo g=>q5 o (z.lt o ⟨p,A,k,h,D,hl,B,g⟩))
    ·cases A<;>first|exact absurd rfl hl|trivial
  ·refine⟨U,q4,λo g _=>q5 o g,λo g=>.inl (j o g),λo g=>g.elim .inl (λh=>.inr (.inr (q6 o h))),λp A K D B=>?_,λp A K k h o D B V X e5 e6=>?_⟩
   ·rw[D]at B;cases B;exact J4 _
   ·rw[D]at B;cases B;have hl:A.live=true:=by cases A<;>first|rfl|cases e5
    exact⟨rfl,q5 o (z.lt o ⟨p,A,k,h,D,hl,V,X⟩),rfl⟩
  ·refine fr_AR (λgD a hj h=>?_) Q v1 O q3;obtain⟨l,len,L,gg,gA⟩:=hG gD _ (J5 hj);have hg:E[gD]?=some (.dyn l len L 0 0):=by rw[J5 hj,gg]
   simp only[frV];rw[hg];dsimp only;cases h with
   | @dy _ _ k' hh _ e hk ha _ =>
    obtain⟨r0,r1,M⟩:=q2.obj gD _ _ _ hg e;have Z:=ha J;rcases M with ⟨M,r3⟩|⟨o,v,gB,t,gC,l',M,r3,r4,r5,r6,r7,r8⟩
    ·subst r3;have:l=[]:=Kk Ds;subst this;rw[Z,M];exact .lstNil
    ·have gF:l'.length=len*L:=Dk
     have hr:=W1 (i:=0) (n:=len*L) r3 r5 r4 J;rw[Mg,Kf J]at hr;rw[Z,M];exact .lst (.inr ⟨gD,_,_,_,hg,rfl,e,by rw[M];rfl⟩) (λr e=>(r7 r e).2) r1 hr (zbs gA r6)
def zp9{f:Nat}{T:Ok}(hc:P4 P f vV Q T)(hb:bors G F vV)(k:vZ (shV G.length Q) (G++T)):Sw P (.fn f) F G vZ:=by
 obtain⟨ht,Z,hG,gg⟩:=hc;refine⟨ht,λc t1 M j gA ha=>?_⟩;cases t1 with
 |yield o=>exact gA.elim
 |fn gK =>
  obtain rfl:f=gK:=gA;obtain⟨m,v1,A,V,q1,X,q3,q4,q5,q6⟩:=gg (λo=>c.Fz o∨Qq c G o) c.H M (λo D=>D.elim (j.fz o) (j.lt o)) (bors_ok j F vV M hb ha);have gB:∀(p k:Nat) (h:AV),c.hd[p]?=some (k,h)→(c.hd++A)[p]?=some (k,h):=λp k h e=>by
   rw[J6 (Jx.1 e).1];exact e
  have gC:CxLe c ⟨c.hd++A,c.Fz,V⟩:=⟨λp k h e=>⟨k,h,gB p k h e,J4 _,λ_=>rfl,λ_=>rfl⟩,λo D=>⟨D,q5 o (j.fz o D)⟩⟩;have U:A.length=T.length:=X.len;have H:∀(p:Nat) (k:Nat) (h:AV) (g:LObj),(c.hd++A)[p]?=some (k,h)→(G++T)[p]?=some g→(c.hd[p]?=some (k,h)∧G[p]?=some g)∨(G.length≤p∧A[p-G.length]?=some (k,h)∧T[p-G.length]?=some g):=by
   intro p k h g B C;by_cases hp:p<G.length
   ·rw[J6 hp]at C;rw[J6 (by rw[j.len];exact hp)]at B;exact .inl ⟨B,C⟩
   ·rw[Kj J]at C;rw[Kj (by rw[j.len];omega),j.len]at B;exact .inr ⟨J,B,C⟩
  have E:∀(p k:Nat) (h:AV) (z:LObj) (o:Nat),A[p]?=some (k,h)→T[p]?=some z→z.live=true→Pg h=some o→Qq ⟨A,λo=>c.Fz o∨Qq c G o,V⟩ T o:=λp k h z o B C K O=>⟨p,z,k,h,C,K,B,O⟩
  have R:∀o,Qq ⟨c.hd++A,c.Fz,V⟩ (G++T) o→Qq c G o∨(c.H.next≤o∧o<V.next):=by
   rintro o ⟨p,g,k,h,B,C,K,O⟩;rcases H p k h g K B with ⟨q1,X⟩|⟨_,L,I⟩
   ·exact .inl ⟨p,g,k,h,X,C,q1,O⟩
   ·have:=E _ k h g o L I C O;exact .inr ⟨q6 o this,X.lt o this⟩
  refine⟨m,v1,V,q1,⟨c.hd++A,c.Fz,V⟩,shV G.length Q,G++T,rfl,?_,?_,?_,k⟩
  ·refine⟨by simp[j.len,U],λo D=>Kr (j.fz o D) q4,λo D=>?_,λo D hf=>?_,λp z k h B C=>?_,λp q z g k h Y h' o B C K O e5 e6 e7 e8=>?_⟩
   ·rcases R o D with h|h
    ·exact Kr (j.lt o h) q4
    ·exact h.2
   ·rcases R o D with h|h
    ·exact j.sep o h hf
    ·have:=j.fz o hf;omega
   ·rcases H p k h z C B with ⟨L,I⟩|⟨_,L,I⟩
    ·by_cases hl:z.live=true
     ·exact (j.obj p z k h I L).mono gC (λo D=>q5 o (j.lt o ⟨p,z,k,h,I,hl,L,D⟩))
     ·cases z<;>first|exact absurd rfl hl|trivial
    ·obtain⟨l,len,gI,rfl,gG⟩:=hG _ _ I;obtain⟨s0,s1,s2⟩:=X.obj _ _ _ _ I L;refine⟨s0,s1,?_⟩;rcases s2 with s2|⟨o,v,gD,t,gF,l',s2,s3,s4,s5,s6,s7⟩
     ·exact .inl s2
     ·exact .inr ⟨o,v,gD,t,gF,l',s2,s3,s4,s5,zbs gG s6,s7⟩
   ·rcases H p k h z e5 B with ⟨L,I⟩|⟨hp,L,I⟩<;>rcases H q Y h' g e6 C with ⟨r3,r4⟩|⟨hq,r3,r4⟩
    ·exact j.excl p q z g k h Y h' o I r4 K O L r3 e7 e8
    ·have:=j.lt o ⟨p,z,k,h,I,K,L,e7⟩;have:=q6 o (E _ _ _ _ o r3 r4 O e8);omega
    ·have:=j.lt o ⟨q,g,Y,h',r4,O,r3,e8⟩;have:=q6 o (E _ _ _ _ o L I K e7);omega
    ·have:=X.excl _ _ z g k h Y h' o I r4 K O L r3 e7 e8;omega
  ·refine⟨gC,q4,λo D _=>q5 o D,λo D=>(R o D).elim .inl (λh=>.inr h.1),λo D=>.inl D,λp z g B C=>?_,λp z g k h o B C K O e5 e6=>?_⟩
   ·rw[J6 (Jx.1 B).1,B]at C;cases C;exact J4 _
   ·rw[J6 (Jx.1 B).1,B]at C;cases C;have hl:z.live=true:=by cases z<;>first|rfl|cases e5
    exact⟨rfl,q5 o (j.lt o ⟨p,z,k,h,B,hl,K,O⟩),by rw[gB p k h K,K]⟩
  ·refine sh_AR (λgL a hj h=>?_) Q v1 Z q3;cases h with
   | @dy _ _ Y hh _ e hk ha gH =>
    exact .dy (k':=Y) (h:=hh) (by dsimp only;rw[Kj (by rw[j.len];omega),j.len,Nat.add_sub_cancel_left];exact e) hk ha gH
end calls
end
section
section rules
variable {P : Program} {f n : Nat} {ρ : Om} {D : List Nat} {G : Ok} {Q : Ri}
end rules
end
section
noncomputable section
def wp(P:Program)(f n:Nat)(ro:Option Nat):LC→Om→List Nat→Ok→Ri→Prop
 |.skip,ρ,D,G,Q=>Q .normal ρ D G
 |.ops l,ρ,D,G,Q=>Vj P l ρ G λρ' G'=>Q .normal ρ' D G'
 |.seq a b,ρ,D,G,Q=>wp P f n ro a ρ D G λx ρ' j G'=>match x with
  |.normal=>wp P f n ro b ρ' j G' Q
  |x=>Q x ρ' j G'
 |.cond x a b,ρ,D,G,Q=>brV (x.ev ρ) (wp P f n ro a ρ D G Q) (wp P f n ro b ρ D G Q)
 |.block id c,ρ,D,G,Q=>wp P f n ro c ρ D G λx ρ' j G'=>match x with
  |.exit i=>if i=id then Q .normal ρ' j G' else Q (.exit i) ρ' j G'
  |x=>Q x ρ' j G'
 |.draw l,ρ,D,G,Q=>Z3 P l ρ G λρ' G'=>Q .normal ρ' D G'
 |.exit id,ρ,D,G,Q=>Q (.exit id) ρ D G
 |.scope c,ρ,D,G,Q=>wp P f n ro c ρ D G Q
 |.label,ρ,D,G,Q=>Q .normal ρ D G
 |.ret,ρ,D,G,Q=>Q .ret ρ D G
 |.stuck,_,_,_,_=>False
 |s,ρ,D,G,Q=>W P f n s ro ρ D G Q
def Xp(P:Program)(f n:Nat)(ro:Option Nat)(b:LC)(Q:Ri):Ri:=λx ρ' j G'=>match x with
  |.normal=>wp P f n ro b ρ' j G' Q
  |x=>Q x ρ' j G'
def me(id:Nat)(Q:Ri):Ri:=λx ρ' j G'=>match x with
  |.exit i=>if i=id then Q .normal ρ' j G' else Q (.exit i) ρ' j G'
  |x=>Q x ρ' j G'
def vp(Nx:Om→List Nat→Ok→Prop)(Q:Ri):Ri:=λx ρ' j G'=>match x with
  |.normal=>Nx ρ' j G'
  |x=>Q x ρ' j G'
def endK(K:LV→Ok→Prop)(G:Ok):List LV→Prop:=λvs=>K (W4 vs) G
def nm(ρ:Om)(rs:List RRes)(K:LV→Ok→Prop):Ok→Prop:=λj=>Sn ρ j rs (endK K j)
def rk (rs : List RRes) (K : LV → Ok → Prop) : Ri := fun x ρ D G' => match x with
   |.exit _=>False
   |_=>vo D G' (nm ρ rs K)
def norQ(Q:Ri)(D:List Nat):Om→Ok→Prop:=λρ G=>Q .normal ρ D G
def opsK(P:Program)(l:List LI)(K:Om→Ok→Prop):Om→Ok→Prop:=λρ' G'=>Vj P l ρ' G' K
def oo(ρ:Om)(d:Option Nat)(K:Om→Ok→Prop):LV→Ok→Prop:=λv G'=>K (Tl ρ d v) G'
def Xb(K:LV→Ok→Prop)(G:Ok):LV→Prop:=λv=>K v G
def drK(P:Program)(cs:List (LI×Bool))(l:List (LI×List (LI×Bool)))(ρ:Om)(G:Ok)(K:Om→Ok→Prop):Om→Ok→Prop:=λρ' G'=>W2 ρ G G' cs∧Z3 P l ρ' G' K
def tmpK(ρ:Om)(t:Nat)(K:List LV→Prop):List LV→Prop:=λvs=>K (lk ρ t::vs)
def conK(v:LV)(K:List LV→Prop):List LV→Prop:=λvs=>K (v::vs)
def cnK(ρ:Om)(G:Ok)(l:List RRes)(K:List LV→Prop):List LV→Prop:=λcs=>Sn ρ G l (conK (.agg cs) K)
def T7{P:Program}{f n:Nat}{ro:Option Nat}:∀(s:LC) {ρ:Om} {D:List Nat} {G:Ok} {Q:Ri},wp P f n ro s ρ D G Q→W P f n s ro ρ D G Q
 |.skip,_,_,_,_,h=>W_skip h
 |.ops l,_,_,_,_,h=>W_ops h
 |.seq a b,_,_,_,_,h=>gj ((T7 a h).post λx ρ D G k=>by
  cases x with
  |normal=>exact T7 b k
  |exit i=>exact k
  |ret=>exact k)
 |.cond x a b,ρ,_,_,_,h=>by
  simp only[wp]at h;obtain⟨t,j,h⟩:=de h;exact xx j (λe=>T7 a (h.1 e)) (λe=>T7 b (h.2 e))
 |.block id c,_,_,_,_,h=>mp (T7 c h)
 |.exit id,_,_,_,_,h=>x5 h
 |.scope c,_,_,_,_,h=>q9 (T7 c h)
 |.label,_,_,_,_,h=>mw h
 |.ret,_,_,_,_,h=>W_ret h
 |.stuck,_,_,_,_,h=>h.elim
 |.draw l,_,_,_,_,h=>W_draw h
 |.loop c,_,_,_,_,h=>h
 |.rangeF g ps a b,_,_,_,_,h=>h
section rules
variable {P : Program}
def O0{f:Nat}{s:LC}{n:Nat}{rs:List RRes}(C:Oz P f=some ⟨n,s.r,rs⟩)(j:s.ok=true){G:Ok}{K:LV→Ok→Prop}(E:F.length≤n)
  (h:wp P f n none s (iq F 0) [] G (rk rs K)):Sw P (.fn f) F G K :=
 zi8 C j E ((T7 s h).post λx ρ D G' k=>by
  cases x with
  |normal=>exact⟨trivial,k⟩
  |exit i=>exact k.elim
  |ret=>exact⟨trivial,k⟩)
def P4.val{f:Nat}{args:List LV}{v0:LV}(j:v0.sim 0=true)(h:Sw P (.fn f) args [] λv _=>v=subV [] v0):P4 P f args v0 [] :=
 .mk j (h.mono λv G e=>⟨[],e,rfl,trivial⟩) (λgg ob e=>B1)
def pt{f n:Nat}{ro:Option Nat}{ρ:Om}{D:List Nat}{G:Ok}{Q:Ri}{s:LC}(I:Om→List Nat→Ok→Nat→Prop){N:Nat}(C:I ρ D G N)
  (h:∀N ρ D G,I ρ D G N→wp P f n ro s ρ D G (vp (λρ' E G'=>∃j,j<N∧I ρ' E G' j) Q)):W P f n (.loop s) ro ρ D G Q :=
 er I C λN ρ D G k=>T7 s (h N ρ D G k)
def Ql{f n:Nat}{ro:Option Nat}{ρ:Om}{D:List Nat}{G:Ok}{Q:Ri}{s:LC}(I:Om→List Nat→Ok→Nat→Prop){N:Nat}(E:I ρ D G N)
  (h:∀(N:Nat) (ρ:Om) (D:List Nat) (G:Ok),I ρ D G N→∀Nx:Om→List Nat→Ok→Prop,(∀(ρ':Om) (C:List Nat) (G':Ok),(∃j,j<N∧I ρ' C G' j)→Nx ρ' C G')→wp P f n ro s ρ D G (vp Nx Q)):W P f n (.loop s) ro ρ D G Q :=
 er I E λN ρ D G k=>T7 s (h N ρ D G k (λρ' C G'=>∃j,j<N∧I ρ' C G' j) λ_ _ _ e=>e)
end rules
section congr
variable {P : Program} {ρ ρ' : Om} {G G' : Ok} {x x' y y' : LV} {K : LV → Ok → Prop} {Kv : LV → Prop}
@[congr] theorem W_congr {f n:Nat} {s:LC} {ro:Option Nat} {D:List Nat} {Q:Ri} (j:ρ=ρ') (C:G=G'):W P f n s ro ρ D G Q=W P f n s ro ρ' D G' Q:=Ck
@[congr] theorem wp_congr {f n:Nat} {s:LC} {ro:Option Nat} {D:List Nat} {Q:Ri} (j:ρ=ρ') (C:G=G'):wp P f n ro s ρ D G Q=wp P f n ro s ρ' D G' Q:=Ck
@[congr] theorem vi {t:LTgt} {a:List LV} (j:a=F) (C:G=G'):Sw P t a G K=Sw P t F G' K:=Ck
@[congr] theorem binL_congr {op:BinOp} {g:Bool} {t:TypeId} (j:x=x') (C:y=y'):U9 P op g t x y Kv=U9 P op g t x' y' Kv:=Ck
@[congr] theorem unL_congr {op:UnOp} (j:x=x'):unL op x Kv=unL op x' Kv:=by rw[j]
@[congr] theorem cvL_congr {k:IntKind} (j:x=x'):en k x Kv=en k x' Kv:=by rw[j]
@[congr] theorem vm {n:Nat} {K:List LV→Prop} (j:G=G') (C:x=x'):Xl G x n K=Xl G' x' n K:=Ck
@[congr] theorem tg (j:G=G') (C:x=x'):Yv G x Kv=Yv G' x' Kv:=Ck
@[congr] theorem nthL_congr {l:List LV} {i:Nat} (C:l=F) (E:i=j):Qj l i Kv=Qj F j Kv:=by rw[C,E]
@[congr] theorem qf {r:List LV} {K:Ok→Prop} (j:G=G') (C:x=x') (E:r=F):Wn G x r K=Wn G' x' F K:=Ff
@[congr] theorem rowL_congr {n:Nat} {K:Nat→List LV→Prop} (j:G=G') (C:x=x'):Ur G n x K=Ur G' n x' K:=Ck
@[congr] theorem zu {K:Nat→Prop} (j:G=G') (C:x=x'):lenL G x K=lenL G' x' K:=Ck
@[congr] theorem zh {size n n':Nat} {l:List LV} (j:G=G') (C:x=x') (E:n=n') (H:l=F):Rh G size x n l K=Rh G' size x' n' F K:=by rw[j,C,E,H]
@[congr] theorem brL_congr {t j:Bool} {A B:Prop} (h:t=j):Ut t A B=Ut j A B:=Gs
@[congr] theorem brG_congr {A B j:Prop} (h:x=x'):kx x A B j=kx x' A B j:=Gs
@[congr] theorem brV_congr {A B:Prop} (h:x=x'):brV x A B=brV x' A B:=Gs
end congr
def zly{t:Bool}{A B:Prop}:brV (.bool t) A B=Ut t A B:=(rfl)
def zpr{t:Bool}{A B j:Prop}:kx (.bool t) A B j=Ut t A B:=(rfl)
def ztk{A B j:Prop}:kx (.tup []) A B j=j:=(rfl)
def zkc{A B:Prop}:Ut true A B=A:=by simp[Ut]
def zh5{A B:Prop}:Ut false A B=B:=by simp[Ut]
def pn{p:Prop}[Decidable p]{A B:Prop}:Ut (decide p) A B=((p→A)∧(¬p→B)):=by simp[Ut]
def zuq{b:Bool}{A B:Prop}:Ut (!b) A B=Ut b B A:=by cases b<;>simp[Ut]
def zlm(v:LV)(l:List LV)(K:LV→Prop):Qj (v::l) 0 K=K v:=by simp[Qj]
def znb(v:LV)(l:List LV)(i:Nat)(K:LV→Prop):Qj (v::l) (i+1) K=Qj l i K:=by simp[Qj]
def zpw(f:vT→LV)(d:vT)(l:List vT)(i:Nat)(K:LV→Prop):Qj (l.map f) i K=(i<l.length∧K (f (l.getD i d))):=by
 unfold Qj;by_cases h:i<l.length
 ·simp[h]
 ·simp[h]
def dm(l:List UInt64)(i:Nat)(K:LV→Prop):Qj (l.map .u) i K=(i<l.length∧K (.u (l.getD i 0))):=zpw _ _ _ _ _
def Z2(o:Option LObj)(K:List LV→Nat→Prop):Prop:=match o with
 |some (.cells l st)=>K l st
 |_=>False
def Sc(o:Option LObj)(K:List LV→Nat→Nat→Nat→Nat→Prop):Prop:=match o with
 |some (.dyn l len esz j st)=>K l len esz j st
 |_=>False
def zgc(o:Option (List LV))(K:List LV→Prop):Prop:=match o with
 |some l=>K l
 |none=>False
def sb(c a b:LV)(K:LV→Prop):Prop:=match c with
 |.bool t=>match a,b with
  |.bool x,.bool y=>K (.bool (match t with|true=>x|false=>y))
  |x,y=>Ut t (K x) (K y)
 |_=>False
def rn(x:LV)(K:LV→Prop):Prop:=match x with
 |.ptr p i=>K (.ptr p i)
 |.dptr p k i=>K (.dptr p k i)
 |.cptr l i=>K (.cptr l i)
 |.fn (.func f) a b=>K (.fn (.func f) a b)
 |_=>False
def zu6(x y:LV)(K:Nat→Prop):Prop:=match x,y with
 |.i l,.i c=>l=c∧0≤l∧l≤1048576∧K l.toNat
 |_,_=>False
def nr(x:LV)(K:Nat→Prop):Prop:=match x with
 |.i n=>0≤n∧K n.toNat
 |.u n=>K n.toNat
 |_=>False
def lj(G:Ok)(size:Nat)(x:LV)(lo:(Nat→Prop)→Prop)(hi:Nat→(Nat→Prop)→Prop)(K:LV→Prop):Prop:=match x with
 |.nilSl=>lo λa=>hi 0 λb=>a=0∧b=0∧K .nilSl
 |.dy p k=>Sc G[p]? λ_ len esz j _=>k=j∧esz=size∧lo λa=>hi len λb=>a≤b∧b≤len∧K (.vw p k a (b-a))
 |.vw p k C len=>Sc G[p]? λ_ _ esz j _=>k=j∧esz=size∧lo λa=>hi len λb=>a≤b∧b≤len∧K (.vw p k (C+a) (b-a))
 |.lst l len esz=>esz=size∧lo λa=>hi len λb=>a≤b∧b≤len∧K (.lst ((l.drop (a*esz)).take ((b-a)*esz)) (b-a) esz)
 |_=>False
def W7(off:Nat)(x:LV)(K:LV→Prop):Prop:=match x with
 |.ptr p i=>K (.ptr p (i+off))
 |.dptr p k i=>K (.dptr p k (i+off))
 |.cptr l i=>K (.cptr l (i+off))
 |_=>False
def pk(g:Bool)(n off:Nat)(x:LV)(K:LV→Prop):Prop:=match x with
 |.agg l=>match g with
  |true=>off+n≤l.length∧K (.agg ((l.drop off).take n))
  |false=>Qj l off K
 |_=>False
def Zr(G:Ok)(size:Nat)(x:LV)(n:Int)(K:LV→Prop):Prop:=match x with
 |.dy p k=>Sc G[p]? λ_ len esz j _=>k=j∧esz=size∧0≤n∧n<len∧K (.dptr p k (n.toNat*size))
 |.vw p k lo len=>Sc G[p]? λ_ _ esz j _=>k=j∧esz=size∧0≤n∧n<len∧K (.dptr p k ((lo+n.toNat)*size))
 |.lst l len esz=>esz=size∧0≤n∧n<len∧K (.cptr l (n.toNat*size))
 |_=>False
def ixL(G:Ok)(size:Nat)(x i:LV)(K:LV→Prop):Prop:=match i with
 |.i n=>Zr G size x n K
 |.u n=>Zr G size x (n.toNat:Int) K
 |_=>False
def ou(x i:LV)(K:LV→Prop):Prop:=match x,i with
 |.str l,.i n=>0≤n∧n<l.length∧K (.b (l.getD n.toNat 0))
 |.str l,.u n=>n.toNat<l.length∧K (.b (l.getD n.toNat 0))
 |.str l,.b n=>n.toNat<l.length∧K (.b (l.getD n.toNat 0))
 |_,_=>False
def p9(i:Nat)(x:LV)(K:LV→Prop):Prop:=match x with
 |.tup l=>Qj l i K
 |_=>False
def i7(j:Bool)(x y:LV)(K:LV→Prop):Prop:=match x,y with
 |.i a,.i b=>K (.i (match j with|true=>max a b|false=>min a b))
 |.u a,.u b=>K (.u (match j with|true=>if a<b then b else a|false=>if b<a then b else a))
 |_,_=>False
def zvn(G:Ok)(size:Nat)(d:LV)(n:Nat)(l:List LV)(K:LV→Ok→Prop):Prop:=match d with
 |.dy p k=>Sc G[p]? λr len esz j st=>k=j∧esz=size∧K (.i (min n len:Nat)) (G.set p (.dyn (Po r 0 (l.take (min n len*size))) len esz j (st+1)))
 |.vw p k lo len=>Sc G[p]? λr C esz j st=>k=j∧esz=size∧(lo+len)*size≤r.length∧K (.i (min n len:Nat)) (G.set p (.dyn (Po r (lo*size) (l.take (min n len*size))) C esz j (st+1)))
 |_=>False
def zmn(G:Ok)(size:Nat)(z:List LV)(x:LV)(K:Ok→Prop):Prop:=match x with
 |.vw p k lo len=>Sc G[p]? λr j esz C st=>k=C∧esz=size∧z.length=size∧(lo+len)*size≤r.length∧K (G.set p (.dyn (Po r (lo*size) (Qo z len)) j esz C (st+1)))
 |_=>False
def goL(P:Program)(f:LV)(j:List LV)(G:Ok)(K:LV→Ok→Prop):Prop:=match f with
 |.fn (.func g) a b=>Sw P (.fn g) (a++j++b) G K
 |.fn (.yield p) [] _=>Sw P (.yield p) j G K
 |_=>False
section byOps
variable {P : Program} {ρ : Om} {G : Ok} {K : LV → Ok → Prop} {x y c a b s d i f : Lx} {l cs z : List LV} {ps : List (Nat × Nat × Lx)} {n size len off : Nat} {lo hi : Option Lx}
def OpL_move:Pb P ρ G (.move x) K=K (x.ev ρ) G:=(rfl)
def OpL_pick:Pb P ρ G (.pick c a b) K=sb (c.ev ρ) (a.ev ρ) (b.ev ρ) (Xb K G):=(rfl)
def OpL_alloc:Pb P ρ G (.alloc l) K=K (.ptr G.length 0) (G++[.cells l 0]):=(rfl)
def OpL_box:Pb P ρ G (.box x) K=zgc (x.ev ρ).cells λl=>K (.ptr G.length 0) (G++[.cells l 0]):=(rfl)
def OpL_build:Pb P ρ G (.build cs ps) K=zgc (rq ρ cs ps) λl=>K (.agg l) G:=(rfl)
def OpL_buildSl:Pb P ρ G (.buildSl size len cs ps) K=zgc (rq ρ cs ps) λl=>l.length=len*size∧K (.dy G.length 0) (G++[.dyn l len size 0 0]):=(rfl)
def OpL_load1:Pb P ρ G (.load1 x) K=Yv G (x.ev ρ) (Xb K G):=(rfl)
def OpL_loadN:Pb P ρ G (.loadN n x) K=Xl G (x.ev ρ) n λl=>K (.agg l) G:=(rfl)
def OpL_store:Pb P ρ G (.store n x y) K=zgc (y.ev ρ).cells λl=>l.length=n∧Wn G (x.ev ρ) l λG'=>K (.tup []) G':=(rfl)
def OpL_nilChk:Pb P ρ G (.nilChk x) K=rn (x.ev ρ) (Xb K G):=(rfl)
def py{op:BinOp}{g:Bool}{t:TypeId}:Pb P ρ G (.bin op g t x y) K=U9 P op g t (x.ev ρ) (y.ev ρ) (Xb K G):=(rfl)
def xu{op:UnOp}:Pb P ρ G (.un op x) K=unL op (x.ev ρ) (Xb K G):=(rfl)
def zt6{k:IntKind}:Pb P ρ G (.cvInt k x) K=en k (x.ev ρ) (Xb K G):=(rfl)
def zss{g:Nat}{j gs:List Lx}:Pb P ρ G (.mkFunc g j gs) K=K (.fn (.func g) (j.map (·.ev ρ)) (gs.map (·.ev ρ))) G:=(rfl)
def OpL_mkSl:Pb P ρ G (.mkSl size z a b) K=zu6 (a.ev ρ) (b.ev ρ) λn=>z.length=size∧K (.dy G.length 0) (G++[.dyn (Qo z n) n size 0 0]):=by
 simp only[Pb,zu6];cases a.ev ρ<;>cases b.ev ρ<;>rfl
def zuu{x:Lx}{d:Nat}{K:Nat→Prop}:Qp ρ d (some x) K=nr (x.ev ρ) K:=(rfl)
def zv4{d:Nat}{K:Nat→Prop}:Qp ρ d none K=K d:=(rfl)
def OpL_slSl:Pb P ρ G (.slSl size x lo hi) K=lj G size (x.ev ρ) (λk=>Qp ρ 0 lo k) (λd k=>Qp ρ d hi k) (Xb K G):=by
 simp only[Pb,lj,Sc];cases x.ev ρ<;>try rfl
 all_goals (cases G[_]?<;>try rfl)
def nj(len size:Nat)(x i:LV)(K:LV→Prop):Prop:=match i with
 |.i n=>0≤n∧n<len∧W7 (n.toNat*size) x K
 |_=>False
def oc(g:Bool)(len size:Nat)(x i:LV)(K:LV→Prop):Prop:=match i with
 |.i n=>0≤n∧n<len∧pk g size (n.toNat*size) x K
 |_=>False
def zji{len size:Nat}{x i:Lx}:Pb P ρ G (.ixAddrArr len size x i) K=nj len size (x.ev ρ) (i.ev ρ) (Xb K G):=(rfl)
def zuj{g:Bool}{len size:Nat}{x i:Lx}:Pb P ρ G (.ixArr g len size x i) K=oc g len size (x.ev ρ) (i.ev ρ) (Xb K G):=(rfl)
def OpL_fieldAddr:Pb P ρ G (.fieldAddr off x) K=W7 off (x.ev ρ) (Xb K G):=(rfl)
def OpL_ixAddr:Pb P ρ G (.ixAddr size x i) K=ixL G size (x.ev ρ) (i.ev ρ) (Xb K G):=by
 simp only[Pb,ixL,Zr,ixO,Sc];cases i.ev ρ<;>try rfl
def OpL_ixStr:Pb P ρ G (.ixStr x i) K=ou (x.ev ρ) (i.ev ρ) (Xb K G):=(rfl)
def OpL_extract:Pb P ρ G (.extract n x) K=p9 n (x.ev ρ) (Xb K G):=(rfl)
def OpL_lenSl:Pb P ρ G (.lenSl x) K=lenL G (x.ev ρ) λn=>K (.i n) G:=(rfl)
def ip{g:Bool}:Pb P ρ G (.maxi g x y) K=i7 g (x.ev ρ) (y.ev ρ) (Xb K G):=(rfl)
def OpL_appG:Pb P ρ G (.appG size s x) K=Ur G size (x.ev ρ) λn l=>n≤1048576∧Rh G size (s.ev ρ) n l K:=(rfl)
def OpL_copy:Pb P ρ G (.copy size d x) K=Ur G size (x.ev ρ) λn l=>zvn G size (d.ev ρ) n l K:=by
 simp only[Pb,zvn,Sc]
 congr 1
def OpL_clear:Pb P ρ G (.clear size z x) K=zmn G size z (x.ev ρ) λG'=>K .any G':=by
 simp only[Pb,zmn,Sc]
 congr 1
def zut{j:List Lx}:Pb P ρ G (.callV f j) K=goL P (f.ev ρ) (j.map (·.ev ρ)) G K:=(rfl)
end byOps
section opened
variable {P : Program} {G : Ok} {p k i n size lo len off esz : Nat} {l r new : List LV} {K : List LV → Prop} {K1 : LV → Prop} {KG : Ok → Prop} {KN : Nat → Prop} {KR : Nat → List LV → Prop} {KV : LV → Ok → Prop} {KS : List UInt8 → Prop} {lof mxf : (Nat → Prop) → Prop} {hif : Nat → (Nat → Prop) → Prop}
def zpq{l:List LV}{st:Nat}{K:List LV→Nat→Prop}:Z2 (some (.cells l st)) K=K l st:=(rfl)
def zr6{l:List LV}{len esz st:Nat}{K:List LV→Nat→Nat→Nat→Nat→Prop}:Sc (some (.dyn l len esz j st)) K=K l len esz j st:=(rfl)
def cellsL_some:zgc (some l) K=K l:=(rfl)
def zij{a b:LV}:sb (.bool true) a b K1=K1 a:=by cases a<;>cases b<;>simp[sb,Ut]
def zf3{a b:LV}:sb (.bool false) a b K1=K1 b:=by cases a<;>cases b<;>simp[sb,Ut]
def zl5{t x:Bool}:sb (.bool t) (.bool x) (.bool false) K1=K1 (.bool (t&&x)):=by cases t<;>rfl
def zqb{t x:Bool}:sb (.bool t) (.bool true) (.bool x) K1=K1 (.bool (t || x)):=by cases t<;>rfl
def chkL_ptr:rn (.ptr p i) K1=K1 (.ptr p i):=(rfl)
def zvs{a b:Int}:zu6 (.i a) (.i b) KN=(a=b∧0≤a∧a≤1048576∧KN a.toNat):=(rfl)
def ec{a:Int}:nr (.i a) KN=(0≤a∧KN a.toNat):=(rfl)
def slL_nil:lj G size .nilSl lof hif K1=(lof λa=>hif 0 λb=>a=0∧b=0∧K1 .nilSl):=(rfl)
def slL_dy:lj G size (.dy p k) lof hif K1=(Sc G[p]? λ_ len esz j _=>k=j∧esz=size∧lof λa=>hif len λb=>a≤b∧b≤len∧K1 (.vw p k a (b-a))):=(rfl)
def slL_vw:lj G size (.vw p k lo len) lof hif K1=(Sc G[p]? λ_ _ esz j _=>k=j∧esz=size∧lof λa=>hif len λb=>a≤b∧b≤len∧K1 (.vw p k (lo+a) (b-a))):=(rfl)
def slL_lst:lj G size (.lst l len esz) lof hif K1=(esz=size∧lof λa=>hif len λb=>a≤b∧b≤len∧K1 (.lst ((l.drop (a*esz)).take ((b-a)*esz)) (b-a) esz)):=(rfl)
def offL_ptr:W7 off (.ptr p i) K1=K1 (.ptr p (i+off)):=(rfl)
def offL_dptr:W7 off (.dptr p k i) K1=K1 (.dptr p k (i+off)):=(rfl)
def offL_cptr:W7 off (.cptr l i) K1=K1 (.cptr l (i+off)):=(rfl)
def fldL_true:pk true n off (.agg l) K1=(off+n≤l.length∧K1 (.agg ((l.drop off).take n))):=(rfl)
def fldL_false:pk false n off (.agg l) K1=Qj l off K1:=(rfl)
def uz{x:LV}{n:Int}:ixL G size x (.i n) K1=Zr G size x n K1:=(rfl)
def ut{x:LV}{n:UInt64}:ixL G size x (.u n) K1=Zr G size x (n.toNat:Int) K1:=(rfl)
def zwn{n:Int}:Zr G size (.dy p k) n K1=(Sc G[p]? λ_ len esz j _=>k=j∧esz=size∧0≤n∧n<len∧K1 (.dptr p k (n.toNat*size))):=(rfl)
def zxa{n:Int}:Zr G size (.vw p k lo len) n K1=(Sc G[p]? λ_ _ esz j _=>k=j∧esz=size∧0≤n∧n<len∧K1 (.dptr p k ((lo+n.toNat)*size))):=(rfl)
def zwo{n:Int}:Zr G size (.lst l len esz) n K1=(esz=size∧0≤n∧n<len∧K1 (.cptr l (n.toNat*size))):=(rfl)
def ed{l:List UInt8}{n:UInt8}:ou (.str l) (.b n) K1=(n.toNat<l.length∧K1 (.b (l.getD n.toNat 0))):=(rfl)
def tupL_tup:p9 i (.tup l) K1=Qj l i K1:=(rfl)
def cj{len size:Nat}{x:LV}{n:Int}:nj len size x (.i n) K1=(0≤n∧n<len∧W7 (n.toNat*size) x K1):=(rfl)
def bf{g:Bool}{len size:Nat}{x:LV}{n:Int}:oc g len size x (.i n) K1=(0≤n∧n<len∧pk g size (n.toNat*size) x K1):=(rfl)
def zwk{a b:Int}:Wv .and a b K1=(0≤a∧a<9223372036854775808∧0≤b∧b<9223372036854775808∧K1 (.i (a.toNat &&& b.toNat:Nat))):=(rfl)
def zu2{a b:Int}:i7 true (.i a) (.i b) K1=K1 (.i (max a b)):=(rfl)
def zxd{a b:Int}:i7 false (.i a) (.i b) K1=K1 (.i (min a b)):=(rfl)
def zr7{n:Nat}:zvn G size (.dy p k) n l KV=(Sc G[p]? λr len esz j st=>k=j∧esz=size∧KV (.i (min n len:Nat)) (G.set p (.dyn (Po r 0 (l.take (min n len*size))) len esz j (st+1)))):=(rfl)
def zmm{z:List LV}{KH:Ok→Prop}:zmn G size z (.vw p k lo len) KH=(Sc G[p]? λr j esz C st=>k=C∧esz=size∧z.length=size∧(lo+len)*size≤r.length∧KH (G.set p (.dyn (Po r (lo*size) (Qo z len)) j esz C (st+1)))):=(rfl)
def fu{g:Nat}{a b:List LV}:goL P (.fn (.func g) a b) F G KV=Sw P (.fn g) (a++F++b) G KV:=(rfl)
def readL_ptr:Xl G (.ptr p i) n K=Z2 G[p]? λl _=>i+n≤l.length∧K ((l.drop i).take n):=by
 simp only[Xl,Z2];cases G[p]?<;>try rfl
def readL_dptr:Xl G (.dptr p k i) n K=Sc G[p]? λl _ _ j _=>k=j∧i+n≤l.length∧K ((l.drop i).take n):=by
 simp only[Xl,Sc];cases G[p]?<;>try rfl
def readL_cptr:Xl G (.cptr l i) n K=(i+n≤l.length∧K ((l.drop i).take n)):=(rfl)
def read1_ptr:Yv G (.ptr p i) K1=Z2 G[p]? λl _=>Qj l i K1:=by
 simp only[Yv,Z2];cases G[p]?<;>try rfl
def read1_dptr:Yv G (.dptr p k i) K1=Sc G[p]? λl _ _ j _=>k=j∧Qj l i K1:=by
 simp only[Yv,Sc];cases G[p]?<;>try rfl
def read1_cptr:Yv G (.cptr l i) K1=Qj l i K1:=(rfl)
def writeL_ptr:Wn G (.ptr p i) r KG=Z2 G[p]? λl st=>i+r.length≤l.length∧KG (G.set p (.cells (Po l i r) (st+1))):=by
 simp only[Wn,Z2];cases G[p]?<;>try rfl
def writeL_dptr:Wn G (.dptr p k i) r KG=Sc G[p]? λl len esz j st=>k=j∧i+r.length≤l.length∧KG (G.set p (.dyn (Po l i r) len esz j (st+1))):=by
 simp only[Wn,Sc];cases G[p]?<;>try rfl
def rowL_dy:Ur G size (.dy p k) KR=Sc G[p]? λl len esz j _=>k=j∧esz=size∧KR len l:=by
 simp only[Ur,Sc];cases G[p]?<;>try rfl
def rowL_lst:Ur G size (.lst l len esz) KR=(esz=size∧KR len l):=(rfl)
def lenL_nil:lenL G .nilSl KN=KN 0:=(rfl)
def lenL_dy:lenL G (.dy p k) KN=Sc G[p]? λ_ len _ j _=>k=j∧KN len:=by
 simp only[lenL,Sc];cases G[p]?<;>try rfl
def lenL_vw:lenL G (.vw p k lo len) KN=Sc G[p]? λ_ _ _ j _=>k=j∧KN len:=by
 simp only[lenL,Sc];cases G[p]?<;>try rfl
def lenL_lst:lenL G (.lst l len esz) KN=KN len:=(rfl)
def appL_nil:Rh G size .nilSl n new KV=KV (.dy G.length 0) (G++[.dyn new n size 0 0]):=(rfl)
def appL_dy:Rh G size (.dy p k) n new KV=Sc G[p]? λl len esz j st=>k=j∧(esz=size∧0<esz)∧len≤1000000000∧KV (.dy p (j+1)) (G.set p (.dyn (l++new) (len+n) esz (j+1) (st+1))):=by
 simp only[Rh,Sc];cases G[p]?<;>try rfl
def appL_vw:Rh G size (.vw p k lo len) n new KV=Sc G[p]? λl C esz j st=>k=j∧(esz=size∧lo=0∧0<n)∧len≤1000000000∧if (len+n)*esz≤l.length then KV (.vw p k 0 (len+n)) (G.set p (.dyn (Po l (len*esz) new) C esz j (st+1)))∧KV (.dy G.length 0) (G++[.dyn (l.take (len*esz)++new) (len+n) size 0 0]) else len=C∧0<esz∧KV (.dy p (j+1)) (G.set p (.dyn (l++new) (len+n) esz (j+1) (st+1)))∧KV (.dy G.length 0) (G++[.dyn (l++new) (len+n) size 0 0]):=by
 simp only[Rh,Sc];cases G[p]?<;>try rfl
variable {op : BinOp} {g : Bool} {t : TypeId}
def ztc{a b:UInt64}:U9 P op g t (.u a) (.u b) K1=V9 op a b K1:=(rfl)
def zws{a b:Int}:U9 P op g t (.i a) (.i b) K1=Wv op a b K1:=(rfl)
def zpo{a b:Bool}:U9 P .neq g t (.bool a) (.bool b) K1=(Tg P g t (.bool a) (.bool b)=some (a==b)∧K1 (.bool (!(a==b)))):=(rfl)
def zxb{b:Bool}:unL .not (.bool b) K1=K1 (.bool (!b)):=(rfl)
def ic{a:Int}:en .u64 (.i a) K1=K1 (.u (iU a)):=(rfl)
def eh{a:UInt64}:en .i64 (.u a) K1=(a.toNat<9223372036854775808∧K1 (.i a.toNat)):=(rfl)
def fi{a:UInt8}:en .i64 (.b a) K1=K1 (.i a.toNat):=(rfl)
def fg{a:UInt64}:en .u8 (.u a) K1=K1 (.b (uB a)):=(rfl)
def zqk{l:List LV}{len esz:Nat}:U9 P .eql g t (.lst l len esz) .nilSl K1=(Tg P g t .nilSl .nilSl=some true∧K1 (.bool false)∧(len=0→K1 (.bool true))):=(rfl)
end opened
section code
variable {P : Program} {f n : Nat} {ro : Option Nat} {ρ ρ' : Om} {D : List Nat} {G G' : Ok} {Q : Ri} {a b c : LC} {x : Lx} {id i t d : Nat} {l : List LI} {ds : List (LI × List (LI × Bool))} {cs : List (LI × Bool)} {K : Om → Ok → Prop} {KV : LV → Ok → Prop} {KL : List LV → Prop} {KG : Ok → Prop} {Nx : Om → List Nat → Ok → Prop} {rs : List RRes} {o : LOp} {od : Option Nat} {v w : LV} {vs : List LV} {it : LI}
def wp_skip:wp P f n ro .skip ρ D G Q=Q .normal ρ D G:=(rfl)
def wp_ops:wp P f n ro (.ops l) ρ D G Q=Vj P l ρ G (norQ Q D):=(rfl)
def wp_seq:wp P f n ro (.seq a b) ρ D G Q=wp P f n ro a ρ D G (Xp P f n ro b Q):=(rfl)
def wp_cond:wp P f n ro (.cond x a b) ρ D G Q=brV (x.ev ρ) (wp P f n ro a ρ D G Q) (wp P f n ro b ρ D G Q):=(rfl)
def wp_block:wp P f n ro (.block id c) ρ D G Q=wp P f n ro c ρ D G (me id Q):=(rfl)
def wp_draw:wp P f n ro (.draw ds) ρ D G Q=Z3 P ds ρ G (norQ Q D):=(rfl)
def wp_exit:wp P f n ro (.exit id) ρ D G Q=Q (.exit id) ρ D G:=(rfl)
def wp_ret:wp P f n ro .ret ρ D G Q=Q .ret ρ D G:=(rfl)
def wp_loop:wp P f n ro (.loop c) ρ D G Q=W P f n (.loop c) ro ρ D G Q:=(rfl)
def seqQ_n:Xp P f n ro b Q .normal ρ D G=wp P f n ro b ρ D G Q:=(rfl)
def seqQ_e:Xp P f n ro b Q (.exit i) ρ D G=Q (.exit i) ρ D G:=(rfl)
def seqQ_r:Xp P f n ro b Q .ret ρ D G=Q .ret ρ D G:=(rfl)
def blkQ_n:me id Q .normal ρ D G=Q .normal ρ D G:=(rfl)
def blkQ_e:me id Q (.exit i) ρ D G=if i=id then Q .normal ρ D G else Q (.exit i) ρ D G:=(rfl)
def blkQ_r:me id Q .ret ρ D G=Q .ret ρ D G:=(rfl)
def nxQ_n:vp Nx Q .normal ρ D G=Nx ρ D G:=(rfl)
def nxQ_e:vp Nx Q (.exit i) ρ D G=Q (.exit i) ρ D G:=(rfl)
def nxQ_r:vp Nx Q .ret ρ D G=Q .ret ρ D G:=(rfl)
def endQ_n:rk rs KV .normal ρ D G=vo D G (nm ρ rs KV):=(rfl)
def endQ_r:rk rs KV .ret ρ D G=vo D G (nm ρ rs KV):=(rfl)
def norQ_app:norQ Q D ρ G=Q .normal ρ D G:=(rfl)
def takeL_nil:vo [] G KG=KG G:=(rfl)
def takK_app:nm ρ rs KV G=Sn ρ G rs (endK KV G):=(rfl)
def endK_app:endK KV G vs=KV (W4 vs) G:=(rfl)
def resL_nil:Sn ρ G [] KL=KL []:=(rfl)
def resL_tmp:Sn ρ G (.tmp t::rs) KL=Sn ρ G rs (tmpK ρ t KL):=(rfl)
def resL_cN:Sn ρ G (.cellN t n::rs) KL=Xl G (lk ρ t) n (cnK ρ G rs KL):=(rfl)
def tmpK_app:tmpK ρ t KL vs=KL (lk ρ t::vs):=(rfl)
def conK_app:conK v KL vs=KL (v::vs):=(rfl)
def cnK_app:cnK ρ G rs KL vs=Sn ρ G rs (conK (.agg vs) KL):=(rfl)
def oneL_1:W4 [v]=v:=(rfl)
def oneL_0:W4 []=.tup []:=(rfl)
def oneL_2:W4 (v::w::vs)=.tup (v::w::vs):=(rfl)
def OpsL_nil:Vj P [] ρ G K=K ρ G:=(rfl)
def OpsL_cons:Vj P (it::l) ρ G K=Y7 P it ρ G (opsK P l K):=(rfl)
def opsK_app:opsK P l K ρ G=Vj P l ρ G K:=(rfl)
def ItL_n:Y7 P ⟨od,none,o⟩ ρ G K=Pb P ρ G o (oo ρ od K):=(rfl)
def ItL_t:Y7 P ⟨od,some (t,true),o⟩ ρ G K=kx (lk ρ t) (Pb P (setL t (.bool true) ρ) G o (oo (setL t (.bool true) ρ) od K)) (oo (setL t (.bool false) ρ) od K (.tup []) G) (oo ρ od K (.tup []) G):=(rfl)
def ItL_f:Y7 P ⟨od,some (t,false),o⟩ ρ G K=kx (lk ρ t) (oo (setL t (.bool true) ρ) od K (.tup []) G) (Pb P (setL t (.bool false) ρ) G o (oo (setL t (.bool false) ρ) od K)) (oo ρ od K (.tup []) G):=(rfl)
def itK_some:oo ρ (some d) K v G=K ((d,v)::ρ) G:=(rfl)
def itK_none:oo ρ none K v G=K ρ G:=(rfl)
def atG_app:Xb KV G v=KV v G:=(rfl)
def DrL_nil:Z3 P [] ρ G K=K ρ G:=(rfl)
def DrL_cons:Z3 P ((it,cs)::ds) ρ G K=Y7 P it ρ G (drK P cs ds ρ G K):=(rfl)
def drK_app:drK P cs ds ρ G K ρ' G'=(W2 ρ G G' cs∧Z3 P ds ρ' G' K):=(rfl)
def ev_t:(Lx.t i).ev ρ=lk ρ i:=(rfl)
def ev_c:(Lx.c v).ev ρ=v:=(rfl)
def argsL_nil:iq [] i=[]:=(rfl)
def argsL_cons:iq (v::vs) i=(i,v)::iq vs (i+1):=(rfl)
def setL_cons:setL t v ((d,w)::ρ)=if t=d then (d,v)::ρ else (d,w)::setL t v ρ:=(rfl)
end code
section nums
variable {K : LV → Prop}
def ztm{a b:UInt64}:V9 .add a b K=K (.u (Vh a b)):=(rfl)
def ztn{a b:UInt64}:V9 .sub a b K=K (.u (Zg a b)):=(rfl)
def zvd{a b:UInt64}:V9 .mul a b K=K (.u (T8 a b)):=(rfl)
def zwx{a b:UInt64}:V9 .rem a b K=(b≠0∧K (.u (sf a b))):=(rfl)
def zvm{a b:UInt64}:V9 .shl a b K=K (.u (Ze a b.toNat)):=(rfl)
def zth{a b:UInt64}:V9 .shr a b K=K (.u (Sy a b.toNat)):=(rfl)
def zum{a b:UInt64}:V9 .and a b K=K (.u (Tt a b)):=(rfl)
def fo{a b:UInt64}:V9 .or a b K=K (.u (orU a b)):=(rfl)
def zu8{a b:UInt64}:V9 .xor a b K=K (.u (ow a b)):=(rfl)
def zue{a b:UInt64}:V9 .eql a b K=K (.bool (decide (a=b))):=(rfl)
def ztq{a b:UInt64}:V9 .neq a b K=K (.bool (decide (a≠b))):=(rfl)
def ztb{a b:UInt64}:V9 .lss a b K=K (.bool (decide (a<b))):=(rfl)
def zvz{a b:UInt64}:V9 .leq a b K=K (.bool (decide (a≤b))):=(rfl)
def zw3{a b:UInt64}:V9 .gtr a b K=K (.bool (decide (b<a))):=(rfl)
def zx2{a b:UInt64}:V9 .geq a b K=K (.bool (decide (b≤a))):=(rfl)
def zun{a b:Int}:Wv .add a b K=(V1 (a+b)∧K (.i (a+b))):=(rfl)
def zt9{a b:Int}:Wv .sub a b K=(V1 (a-b)∧K (.i (a-b))):=(rfl)
def zw7{a b:Int}:Wv .mul a b K=(V1 (a*b)∧K (.i (a*b))):=(rfl)
def zwj{a b:Int}:Wv .quo a b K=(b≠0∧V1 (a.tdiv b)∧K (.i (a.tdiv b))):=(rfl)
def zvl{a b:Int}:Wv .rem a b K=(b≠0∧K (.i (a.tmod b))):=(rfl)
def zve{a b:Int}:Wv .shr a b K=(0≤a∧0≤b∧b≤64∧K (.i (a/2^b.toNat))):=(rfl)
def zvt{a b:Int}:Wv .eql a b K=K (.bool (decide (a=b))):=(rfl)
def zud{a b:Int}:Wv .neq a b K=K (.bool (decide (a≠b))):=(rfl)
def zuw{a b:Int}:Wv .lss a b K=K (.bool (decide (a<b))):=(rfl)
def zxe{a b:Int}:Wv .leq a b K=K (.bool (decide (a≤b))):=(rfl)
def zuv{a b:Int}:Wv .gtr a b K=K (.bool (decide (b<a))):=(rfl)
def zwb{a b:Int}:Wv .geq a b K=K (.bool (decide (b≤a))):=(rfl)
end nums
section congr2
variable {P : Program} {G G' : Ok} {x x' y y' z z' : LV} {K : LV → Ok → Prop} {Kv : LV → Prop} {n n' size : Nat}
@[congr] theorem atC_congr {o j:Option LObj} {K:List LV→Nat→Prop} (h:o=j):Z2 o K=Z2 j K:=Gs
@[congr] theorem atD_congr {o j:Option LObj} {K:List LV→Nat→Nat→Nat→Nat→Prop} (h:o=j):Sc o K=Sc j K:=Gs
@[congr] theorem rj {o j:Option (List LV)} {K:List LV→Prop} (h:o=j):zgc o K=zgc j K:=Gs
@[congr] theorem uj (j:x=x') (C:y=y') (E:z=z'):sb x y z Kv=sb x' y' z' Kv:=Ff
@[congr] theorem chkL_congr (j:x=x'):rn x Kv=rn x' Kv:=by rw[j]
@[congr] theorem tv {K:Nat→Prop} (j:x=x') (C:y=y'):zu6 x y K=zu6 x' y' K:=Ck
@[congr] theorem xo {K:Nat→Prop} (j:x=x'):nr x K=nr x' K:=by rw[j]
@[congr] theorem slL_congr {lo:(Nat→Prop)→Prop} {hi:Nat→(Nat→Prop)→Prop} (j:G=G') (C:x=x'):lj G size x lo hi Kv=lj G' size x' lo hi Kv:=Ck
@[congr] theorem offL_congr (j:x=x'):W7 n x Kv=W7 n x' Kv:=by rw[j]
@[congr] theorem ixL_congr (j:G=G') (C:x=x') (E:y=y'):ixL G size x y Kv=ixL G' size x' y' Kv:=Ff
@[congr] theorem ixV_congr {i:Int} (j:G=G') (C:x=x') (E:i=vY):Zr G size x i Kv=Zr G' size x' vY Kv:=Ff
@[congr] theorem xw (j:x=x') (C:y=y'):ou x y Kv=ou x' y' Kv:=Ck
@[congr] theorem tupL_congr (j:x=x'):p9 n x Kv=p9 n x' Kv:=by rw[j]
@[congr] theorem yp {len size:Nat} (j:x=x') (C:y=y'):nj len size x y Kv=nj len size x' y' Kv:=Ck
@[congr] theorem zc {g:Bool} {len size:Nat} (j:x=x') (C:y=y'):oc g len size x y Kv=oc g len size x' y' Kv:=Ck
@[congr] theorem maxL_congr {g:Bool} (j:x=x') (C:y=y'):i7 g x y Kv=i7 g x' y' Kv:=Ck
@[congr] theorem mm {z z':List LV} {KH:Ok→Prop} (j:G=G') (C:x=x') (E:z=z'):zmn G size z x KH=zmn G' size z' x' KH:=Ff
@[congr] theorem tl {l:List LV} (j:G=G') (C:x=x') (E:n=n') (H:l=F):zvn G size x n l K=zvn G' size x' n' F K:=by rw[j,C,E,H]
@[congr] theorem goL_congr {l:List LV} (j:x=x') (C:l=F) (E:G=G'):goL P x l G K=goL P x' F G' K:=Ff
end congr2
def LU(a:List UInt64):LV:=.lst (a.map .u) a.length 1
def Xd(a:List UInt64):dats (a.map LV.u)=true:=ug (λ_=>rfl) a
def zix(l r:List LV):Po l 0 r=r++l.drop r.length:=by simp[Po]
def zs4(v:LV)(l r:List LV)(i:Nat):Po (v::l) (i+1) r=v::Po l i r:=by
 unfold Po;rw[show i+1+r.length=(i+r.length)+1 from J];simp
attribute [simp] W2 ckL yb t7 mg LObj.stp LObj.st zlm znb dm gy zf0 rq LV.cells subV subVs Zd notP shV shVs frV frVs bor bors LV.dat dats LV.scal LV.sim sims Xd zix zs4 LU V1
attribute [simp] zly zpr ztk zkc zh5 pn zuq
attribute [simp ↓] zly zpr ztk zkc zh5 zuq zlm znb dm
attribute [simp ↓] OpL_move OpL_pick OpL_alloc OpL_box OpL_build OpL_buildSl OpL_load1 OpL_loadN OpL_store OpL_nilChk py xu zt6 zss OpL_mkSl zuu zv4 OpL_slSl OpL_fieldAddr OpL_ixAddr OpL_ixStr OpL_extract OpL_lenSl ip OpL_appG OpL_copy zut
attribute [simp] zpq zr6 cellsL_some zij zf3 zl5 zqb chkL_ptr zvs ec slL_nil slL_dy slL_vw slL_lst offL_ptr offL_dptr offL_cptr fldL_true fldL_false uz ut zwn zxa zwo ed tupL_tup zu2 zxd zr7 fu readL_ptr readL_dptr readL_cptr read1_ptr read1_dptr read1_cptr writeL_ptr writeL_dptr rowL_dy rowL_lst lenL_nil lenL_dy lenL_vw lenL_lst appL_nil appL_dy appL_vw ztc zws zpo zqk zxb ic eh fi fg
attribute [simp ↓] zpq zr6 cellsL_some zij zf3 zl5 zqb chkL_ptr zvs ec slL_nil slL_dy slL_vw slL_lst offL_ptr offL_dptr offL_cptr fldL_true fldL_false uz ut zwn zxa zwo ed tupL_tup zu2 zxd zr7 fu readL_ptr readL_dptr readL_cptr read1_ptr read1_dptr read1_cptr writeL_ptr writeL_dptr rowL_dy rowL_lst lenL_nil lenL_dy lenL_vw lenL_lst appL_nil appL_dy appL_vw ztc zws zpo zqk zxb ic eh fi fg
attribute [simp] wp_skip wp_ops wp_seq wp_cond wp_block wp_draw wp_exit wp_ret wp_loop seqQ_n seqQ_e seqQ_r blkQ_n blkQ_e blkQ_r nxQ_n nxQ_e nxQ_r endQ_n endQ_r norQ_app takeL_nil takK_app endK_app resL_nil resL_tmp resL_cN tmpK_app conK_app cnK_app oneL_1 oneL_0 oneL_2 OpsL_nil OpsL_cons opsK_app ItL_n ItL_t ItL_f itK_some itK_none atG_app DrL_nil DrL_cons drK_app ev_t ev_c argsL_nil argsL_cons setL_cons ztm ztn zvd zwx zvm zth zum fo zu8 zue ztq ztb zvz zw3 zx2 zun zt9 zw7 zwj zvl zve zvt zud zuw zxe zuv zwb
attribute [simp ↓] wp_skip wp_ops wp_seq wp_cond wp_block wp_draw wp_exit wp_ret wp_loop seqQ_n seqQ_e seqQ_r blkQ_n blkQ_e blkQ_r nxQ_n nxQ_e nxQ_r endQ_n endQ_r norQ_app takeL_nil takK_app endK_app resL_nil resL_tmp resL_cN tmpK_app conK_app cnK_app oneL_1 oneL_0 oneL_2 OpsL_nil OpsL_cons opsK_app ItL_n ItL_t ItL_f itK_some itK_none atG_app DrL_nil DrL_cons drK_app ev_t ev_c argsL_nil argsL_cons setL_cons ztm ztn zvd zwx zvm zth zum fo zu8 zue ztq ztb zvz zw3 zx2 zun zt9 zw7 zwj zvl zve zvt zud zuw zxe zuv zwb
attribute [simp] cj bf zwk
attribute [simp] zmm
attribute [simp ↓] OpL_clear zmm zji zuj cj bf zwk
def ib(o:Option Bool)(A B:Prop):Prop:=match o with
 |some b=>Ut b A B
 |none=>False
def atM(o:Option LObj)(K:List (LV×LV×Nat)→Nat→Nat→Prop):Prop:=match o with
 |some (.map es ck st)=>K es ck st
 |_=>False
def vn(d:TypeDesc)(k z:LV)(ok:Bool)(K:LV→Prop):List (LV×LV×Nat)→Prop:=λes=>oy d k (zwu z ok K) es
def conM(x:LV×LV×Nat)(K:List (LV×LV×Nat)→Bool→Prop):List (LV×LV×Nat)→Bool→Prop:=λr new=>K (x::r) new
def zs(G:Ok)(n size:Nat)(x:LV)(lo:(Nat→Prop)→Prop)(hi:Nat→(Nat→Prop)→Prop)(K:LV→Ok→Prop):Prop:=match x with
 |.ptr p i=>Z2 G[p]? λl st=>i+n*size≤l.length∧lo λa=>hi n λb=>a≤b∧b≤n∧K (.lst ((l.drop (i+a*size)).take ((b-a)*size)) (b-a) size) (G.set p (.dead (st+1)))
 |_=>False
section maps
variable {P : Program} {ρ : Om} {G G' : Ok} {K : LV → Ok → Prop} {K1 : LV → Prop} {x i m k v z x' k' : LV} {X I M V : Lx} {d : TypeDesc} {ok : Bool} {es es' : List (LV × LV × Nat)} {KE : List (LV × LV × Nat) → Prop} {KB : List (LV × LV × Nat) → Bool → Prop} {KH : Ok → Prop} {p ck st n size : Nat} {lo hi : Option Lx} {A B : Prop} {lof : (Nat → Prop) → Prop} {hif : Nat → (Nat → Prop) → Prop}
def OpL_mkMap0:Pb P ρ G .mkMap0 K=K (.map G.length) (G++[.map [] 0 0]):=(rfl)
def OpL_lookup:Pb P ρ G (.lookup d z ok X I) K=Xz G (X.ev ρ) (vn d (I.ev ρ) z ok (Xb K G)):=(rfl)
def OpL_mapUpd:Pb P ρ G (.mapUpd d M I V) K=wj G d (M.ev ρ) (I.ev ρ) (V.ev ρ) λG'=>K .any G':=(rfl)
def OpL_slArr:Pb P ρ G (.slArr n size X lo hi) K=zs G n size (X.ev ρ) (λk=>Qp ρ 0 lo k) (λd k=>Qp ρ d hi k) K:=by
 simp only[Pb,zs,Z2];cases X.ev ρ<;>try rfl
 all_goals (cases G[_]?<;>try rfl)
def zqw{K:List (LV×LV×Nat)→Nat→Nat→Prop}:atM (some (.map es ck st)) K=K es ck st:=(rfl)
def mapL_map:Xz G (.map p) KE=atM G[p]? λes _ _=>KE es:=by
 simp only[Xz,atM];cases G[p]?<;>try rfl
def lookM_app:vn d k z ok K1 es=oy d k (zwu z ok K1) es:=(rfl)
def zlz{j:Option LV→Prop}:oy d k j []=j none:=(rfl)
def zic{j:Option LV→Prop}:oy d k j ((k',v,n)::es)=ib (Xn d k k') (j (some v)) (oy d k j es):=(rfl)
def lookK_st:zwu z true K1 (some v)=K1 (.tup [v,.bool true]):=(rfl)
def lookK_nt:zwu z true K1 none=K1 (.tup [z,.bool false]):=(rfl)
def updL'_map:wj G d (.map p) k v KH=atM G[p]? λes ck st=>Wo d k v ck (zx G p ck st KH) es:=by
 simp only[wj,atM];cases G[p]?<;>try rfl
def putL_nil:Wo d k v ck KB []=KB [(k,v,ck)] true:=(rfl)
def zmy{w:LV}:Wo d k v ck KB ((k',w,n)::es)=ib (Xn d k k') (KB ((k,v,n)::es) false) (Wo d k v ck (conM (k',w,n) KB) es):=(rfl)
def zqu{y:LV×LV×Nat}{b:Bool}:conM y KB es b=KB (y::es) b:=(rfl)
def setK_t:zx G p ck st KH es true=KH (G.set p (.map es (ck+1) (st+1))):=(rfl)
def zlb{b:Bool}:ib (some b) A B=Ut b A B:=(rfl)
def im{j:IntKind}{a b:Int}:Xn (.int j) (.i a) (.i b)=some (decide (a=b)):=(rfl)
def zqa:zs G n size (.ptr p j) lof hif K=Z2 G[p]? λl st=>j+n*size≤l.length∧lof λa=>hif n λb=>a≤b∧b≤n∧K (.lst ((l.drop (j+a*size)).take ((b-a)*size)) (b-a) size) (G.set p (.dead (st+1))):=(rfl)
@[congr] theorem atM_congr {o j:Option LObj} {K:List (LV×LV×Nat)→Nat→Nat→Prop} (h:o=j):atM o K=atM j K:=Gs
@[congr] theorem uh {j C:LV} (E:G=G') (F:m=C) (H:k=k') (L:v=j):wj G d m k v KH=wj G' d C k' j KH:=by rw[E,F,H,L]
@[congr] theorem keyB_congr {o j:Option Bool} (h:o=j):ib o A B=ib j A B:=Gs
end maps
attribute [simp] zqw mapL_map lookM_app zlz zic lookK_st lookK_nt updL'_map putL_nil zmy zqu setK_t zlb im zqa
attribute [simp ↓] OpL_mkMap0 OpL_lookup OpL_mapUpd OpL_slArr zqw mapL_map lookM_app zlz zic lookK_st lookK_nt updL'_map putL_nil zmy zqu setK_t zlb im zqa
end
end
section
noncomputable section
open Go.RowKit (Below)
mutual
inductive Sh where
 |bool
 |u
 |b
 |i
 |k (k:IntKind)
 |str
 |sl (s:Sh)
 |st (l:ShL)
inductive ShL where
 |nil
 |cons (s:Sh) (l:ShL)
end
mutual
def Sh.n:Sh→Nat
 |.st l=>l.n
 |_=>1
def ShL.n:ShL→Nat
 |.nil=>0
 |.cons s l=>s.n+l.n
end
mutual
def Sh.T:Sh→Type
 |.bool=>Bool
 |.u=>UInt64
 |.b=>UInt8
 |.i=>{ n:Int // V1 n }
 |.k _=>Int
 |.str=>{ l:List UInt8 // l.length≤maxLen }
 |.sl s=>{ l:List s.T // l.length≤maxLen }
 |.st l=>l.T
def ShL.T:ShL→Type
 |.nil=>Unit
 |.cons s l=>s.T×l.T
end
mutual
def Sh.enc:(s:Sh)→s.T→List LV
 |.bool,x=>[.bool x]
 |.u,x=>[.u x]
 |.b,x=>[.b x]
 |.i,x=>[.i x.1]
 |.k k,x=>[.int k x]
 |.str,x=>[.str x.1]
 |.sl s,x=>[.lst (x.1.flatMap s.enc) x.1.length s.n]
 |.st l,x=>l.enc x
def ShL.enc:(l:ShL)→l.T→List LV
 |.nil,_=>[]
 |.cons s l,x=>s.enc x.1++l.enc x.2
end
mutual
def Sh.enc_length:∀(s:Sh) (x:s.T),(s.enc x).length=s.n
 |.bool,_=>rfl
 |.u,_=>rfl
 |.b,_=>rfl
 |.i,_=>rfl
 |.k _,_=>rfl
 |.str,_=>rfl
 |.sl _,_=>rfl
 |.st l,x=>by simp only[Sh.enc,Sh.n];exact ShL.enc_length l x
def ShL.enc_length:∀(l:ShL) (x:l.T),(l.enc x).length=l.n
 |.nil,_=>rfl
 |.cons s l,x=>by simp only[ShL.enc,ShL.n,J7,Sh.enc_length s x.1,ShL.enc_length l x.2]
end
def ik(P:Program)(f:TypeId→Option Sh)(j:Nat):List Field→Nat→Option ShL
 |[],g=>if g=j then some .nil else none
 |fd::l,g=>match f fd.type with
  |none=>none
  |some s=>if fd.offset=g∧P.cellsOf fd.type=s.n then match ik P f j l (g+s.n) with
   |none=>none
   |some r=>some (.cons s r)
   else none
def zvx:Nat→Sh→ShL
 |0,_=>.nil
 |n+1,s=>.cons s (zvx n s)
def Wy(P:Program):Nat→TypeId→Option Sh
 |0,_=>none
 |d+1,t=>match P.underlying t with
  |some .bool=>some .bool
  |some (.int k)=>match k with
   |.u64=>some .u
   |.u8=>some .b
   |.i64=>some .i
   |k=>some (.k k)
  |some .string=>some .str
  |some (.slice e)=>match Wy P d e with
   |none=>none
   |some s=>if P.cellsOf e=s.n∧0<s.n then some (.sl s) else none
  |some (.struct g)=>match ik P (Wy P d) (P.cellsOf t) g.toList 0 with
   |none=>none
   |some l=>some (.st l)
  |some (.array n e)=>match Wy P d e with
   |none=>none
   |some s=>if P.cellsOf e=s.n∧P.cellsOf t=n*s.n then some (.st (zvx n s)) else none
  |_=>none
def zw8(P:Program)(d:Nat):List TypeId→Option ShL
 |[]=>some .nil
 |t::l=>match Wy P d t with
  |none=>none
  |some s=>if P.cellsOf t=s.n then match zw8 P d l with
   |none=>none
   |some r=>some (.cons s r)
   else none
def Rel.ro{W:World}{gA:CM}{H:Heap}(h:Rel W gA H W){L:Loc}(hL:L.b<W.heap.size){l:List AV}(gB:gA.le (gA.ext H.next 0 L)→Rk W.heap.size (gA.ext H.next 0 L) W H.next (.cells (Su l 0 .e) l.length 0 true)) :
  Rel W (gA.ext H.next 0 L) (H.push (.cells (Su l 0 .e) l.length 0 true)) W∧gA.le (gA.ext H.next 0 L):=by
 have hle:gA.le (gA.ext H.next 0 L):=CM.le_ext _ (h.next_none 0) (.inr (M7 h.nx));refine⟨⟨by show max gA.nx (H.next+1)=H.next+1;rw[h.nx];exact Nat.max_eq_right (Of _),h.low,?_,?_,?_,?_,?_⟩,hle⟩
 ·intro o v L' C;show o<H.next+1;by_cases e:o=H.next∧v=0
  ·omega
  ·rw[CM.ext_ne _ _ e]at C;have:=h.fresh _ _ _ C;omega
 ·intro o v L' C;by_cases e:o=H.next∧v=0
  ·obtain⟨rfl,rfl⟩:=e;rw[CM.ext_same]at C;cases C;exact hL
  ·rw[CM.ext_ne _ _ e]at C;exact h.lt _ _ _ C
 ·intro o v L1 o' v' L2 h1 h2 hb hB;by_cases e:o=H.next∧v=0
  ·obtain⟨rfl,rfl⟩:=e;rw[CM.ext_same]at h1;cases h1;omega
  ·by_cases e':o'=H.next∧v'=0
   ·obtain⟨rfl,rfl⟩:=e';rw[CM.ext_same]at h2;cases h2;omega
   ·rw[CM.ext_ne _ _ e]at h1;rw[CM.ext_ne _ _ e']at h2;exact h.excl _ _ _ _ _ _ h1 h2 hb hB
 ·intro o ob ho hg;by_cases e:o=H.next
  ·subst e;rw[Heap.get_push_same]at hg;cases hg;exact gB hle
  ·have gg:o<H.next:=Bs
   rw[Heap.get_push_ne _ _ gg]at hg;refine (h.obj _ _ gg hg).frame hle (λv L' C=>?_) (λ_ _ _=>rfl)
   rwa [CM.ext_ne _ _ J]at C
 ·intro o c len gC ro ho hg v L' C;by_cases e:o=H.next
  ·subst e;by_cases ev:v=0
   ·omega
   ·rw[CM.ext_ne _ _ J]at C;have:=h.fresh _ _ _ C;omega
  ·have gg:o<H.next:=Bs
   rw[Heap.get_push_ne _ _ gg]at hg;rw[CM.ext_ne _ _ J]at C;exact h.top _ _ _ _ _ gg hg _ _ C
def Vl(H:Heap):Cx:=⟨[],λo=>o<H.next,H⟩
def Ud(H g:Heap):Prop:=H.next≤g.next∧∀o,o<H.next→g.get o=H.get o
def Ud.refl(H:Heap):Ud H H:=⟨J4 _,λ_ _=>rfl⟩
def Ud.trans{A B C:Heap}(h:Ud A B)(k:Ud B C):Ud A C:=⟨K4 h.1 k.1,λo ho=>by rw[k.2 o (Kr ho h.1),h.2 o ho]⟩
def Ud.le{H H':Heap}(h:Ud H H'):CxLe (Vl H) (Vl H') :=
 ⟨λp k x e=>by simp[Vl]at e,λo ho=>⟨Kr ho h.1,h.2 o ho⟩⟩
section imp
variable {HH : Type} {enc : TypeId × Value → HH} {P : Program} {W : World}
def Got(W:World)(A:CM)(H:Heap)(z:List Value)(s:Nat)(T:Type)(e:T→List LV):Prop :=
 ∃g j as,∃y:T,A.le g∧Rel W g j W∧Ud H j∧VRs g as z∧(∀a∈as,a.one=true)∧ARs (Vl j) (e y) as∧as.length=s
def uf{H:Heap}(g:Rel W I H W){v:Value}{T:Type}{e:T→List LV}(y:T)(a:AV)(l:LV)(he:e y=[l])(j:VR I a v)(z:a.one=true)(A:AR (Vl H) l a):Got W I H [v] 1 T e :=
 ⟨I,H,[a],y,CM.le_refl I,g,.refl H,.cons j .nil,Cn,by rw[he];exact .cons A .nil,rfl⟩
def zhk{j:List MemPlace}(z:W.noneFrozen j){b n:Nat}(h:∀x∈MemPlace.row ⟨b,g,none⟩ n,x∈j){i:Nat}(hi:i<n):W.frozen? ⟨b,g+i,none⟩=false :=
 z b (g+i) (h _ (Nm.2 ⟨i,L4.2 hi,rfl⟩))
def got_cells:∀(M:Nat) (d:Nat) (t:TypeId) (s:Sh) (cs:List Value) (x:DataW HH×List MemPlace) (V:CM) (H:Heap),Wy P d t=some s→DataW.trod enc P W 0 (λ_=>true) true M t cs=some x→W.noneFrozen x.2→Rel W V H W →
  Got W V H cs s.n s.T s.enc:=by
 intro M
 induction M with
 |zero=>intro d t s cs x V H _ h;simp[DataW.trod]at h
 |succ M ih =>
  intro d t s cs x V H z h hz C;cases d with
  |zero=>cases z
  |succ d =>
   simp only[Wy]at z;split at z
   ·rename_i hu;cases z;obtain⟨b,rfl,_⟩:=DataW.trod_bool hu h;exact uf C (T:=Bool) b (.bool b) (.bool b) rfl (.bool b) rfl (.bool b)
   ·rename_i k hu;obtain⟨n,rfl,_,hw⟩:=DataW.trod_int hu h;split at z
    ·cases z;have hb:=bounds_u64 hw;refine uf C (T:=UInt64) (UInt64.ofNat n.toNat) (.int .u64 n) (.u (UInt64.ofNat n.toNat)) rfl (.int _ _) rfl (.u' ?_);rw[L3];simp only[Kq];omega
    ·cases z;have hb:=bounds_u8 hw;refine uf C (T:=UInt8) (UInt8.ofNat n.toNat) (.int .u8 n) (.b (UInt8.ofNat n.toNat)) rfl (.int _ _) rfl (.b' ?_);rw[UInt8.toNat_ofNat'];simp only[Kq];omega
    ·cases z;have hb:=bounds_i64 hw;exact uf C (T:={ n:Int // V1 n }) ⟨n,by unfold V1;omega⟩ (.int .i64 n) (.i n) rfl (.int _ _) rfl (.i n)
    ·cases z;exact uf C (T:=Int) n (.int k n) (.int k n) rfl (.int _ _) rfl (.int k n)
   ·rename_i hu;cases z;obtain⟨b,rfl,_,hm⟩:=DataW.trod_string hu h;exact uf C (T:={ l:List UInt8 // l.length≤maxLen }) ⟨b.data.toList,Fu⟩ (.str b.data.toList.length (Qe b.data.toList)) (.str b.data.toList) rfl (.str rfl rfl) rfl (.str _)
   ·rename_i e hu;split at z
    ·cases z
    ·rename_i j gD;by_cases U:P.cellsOf e=j.n∧0<j.n
     ·rw[J8 U]at z;cases z;obtain⟨gF,O⟩:=U;rcases DataW.trod_slice hu h with ⟨rfl,_⟩|⟨a,len,cap,G,gR,n,hn,rfl,hx,_,gT,jV,gU,gB,gV,_⟩
      ·exact uf C (T:={ l:List j.T // l.length≤maxLen }) ⟨[],N⟩ .nilSl (.lst [] 0 j.n) rfl .nilSl rfl .lstNil
      ·cases hn;by_cases h0:len=0
       ·subst h0;exact uf C (T:={ l:List j.T // l.length≤maxLen }) ⟨[],N⟩ .emp (.lst [] 0 j.n) rfl .emp rfl .lstEmp
       ·
        obtain⟨b,g,Q⟩:=a;have I:∀i,i<cap→∃D,W.cells? 0 ((⟨b,g,Q⟩:Addr).add (i*P.cellsOf e)) (P.cellsOf e)=some D:=by
         intro i hi;by_cases jE:i<len
         ·have:=gB i jE;rw[J5 J]at this;cases hq:W.cells? 0 ((⟨b,g,Q⟩:Addr).add (i*P.cellsOf e)) (P.cellsOf e) with
          |none=>rw[hq]at this;cases this
          |some D=>exact⟨D,rfl⟩
         ·obtain⟨jZ,jF⟩:=gV rfl;have:=jF (i-len) J;rw[show len+(i-len)=i from J,J5 J]at this;cases hq:W.cells? 0 ((⟨b,g,Q⟩:Addr).add (i*P.cellsOf e)) (P.cellsOf e) with
          |none=>rw[hq]at this;cases this
          |some D=>exact⟨D,rfl⟩
        have gG:Q=none:=by
         obtain⟨D,he⟩:=I 0 J;obtain⟨_,E,A⟩:=World.cells?_some he;have:=A 0 J;rw[J5 J]at this;simpa [Addr.add] using World.cell?_spot this
        subst gG;have R:∀i X,i<cap→X<j.n→∃v,W.cell? ⟨b,g+(i*j.n+X),none⟩=some v:=by
         intro i X hi hj;obtain⟨D,he⟩:=I i hi;obtain⟨_,E,A⟩:=World.cells?_some he;have:=A X J;rw[J5 J]at this;rw[gF]at this;rw[WideShapes.add_plain,WideShapes.add_plain]at this;rw[←Ly];exact⟨_,this⟩
        obtain⟨v0,gC⟩:=R 0 0 J O;obtain⟨vs,ty,lo,hi,B⟩:∃vs ty lo hi,W.heap[b]?=some (.cells vs ty (lo,hi)):=by
         unfold World.cell? at gC;dsimp only at gC;split at gC
         ·rename_i vs ty fz B;exact⟨vs,ty,fz.1,fz.2,B⟩
         ·cases gC
        have jG:∀q,q<cap*j.n→∃v,vs[g+q]?=some v:=by
         intro q hq;obtain⟨v,hv⟩:=R (q/j.n) (q%j.n) (by rw[Nat.div_lt_iff_lt_mul O];exact hq) (Nat.mod_lt _ O);have:q/j.n*j.n+q%j.n=q:=by rw[Mo];exact Nat.div_add_mod q j.n
         rw[this,zfz B]at hv;exact⟨v,hv⟩
        have gX:g+cap*j.n≤vs.size:=by
         have jH:0<cap*j.n:=Nat.mul_pos J O;obtain⟨v,hv⟩:=jG (cap*j.n-1) J;have:=(Array.getElem?_eq_some_iff.1 hv).1;omega
        have gY:∀x',x'∈MemPlace.row ⟨b,g,none⟩ (cap*j.n)→x'∈x.2:=by
         intro x' gH;rw[hx];have:(G.length+gR.length)*P.cellsOf e=cap*j.n:=by rw[gU,(gV rfl).1,gF];congr 1;omega
         rw[this];exact Ny _ gH
        have loop:∀m,m≤len→∃C' H' as,∃ys:List j.T,V.le C'∧Rel W C' H' W∧Ud H H'∧(∀a∈as,a.one=true)∧ARs (Vl H') (ys.flatMap j.enc) as∧ys.length=m∧as.length=m*j.n∧∀q,q<m*j.n→∃a v,as[q]?=some a∧vs[g+q]?=some v∧VR C' a v:=by
         intro m
         induction m with
         |zero=>intro _;exact⟨V,H,[],[],CM.le_refl V,C,.refl H,N,.nil,rfl,N,λq hq=>J⟩
         |succ m jI =>
          intro hm;obtain⟨C1,Y,Z,jK,a1,a2,a3,a4,a5,a6,a7,a8⟩:=jI J;obtain⟨D,he⟩:=I m J;have gZ:=gB m J;rw[he,J5 J]at gZ;obtain⟨_,E,A⟩:=World.cells?_some he;have jL : W.noneFrozen (G[m]' J).2 := λb' F gg => hz b' F (by
           rw[hx];exact Mj _ (List.mem_flatMap.2 ⟨G[m]' J, N, gg⟩))
          obtain⟨C2,H2,gA,y,b1,b2,b3,b4,b5,b6,b7⟩:=ih d e j D _ C1 Y gD gZ jL a2;refine⟨C2,H2,Z++gA,jK++[y],CM.le_trans a1 b1,b2,a3.trans b3,?_,?_,by simp[a6],?_,?_⟩
          ·intro jB hz;rcases Ks.1 hz with h|h
           ·exact a4 jB h
           ·exact b5 jB h
          ·rw[List.flatMap_append];refine (a5.mono b3.le).append ?_;simpa using b6
          ·rw[J7,a7,b7,Ku,Oe]
          ·intro q hq;by_cases jM:q<m*j.n
           ·obtain⟨a,v,c1,c2,c3⟩:=a8 q jM;exact⟨a,v,by rw[J6 J];exact c1,c2,c3.mono b1⟩
           ·have j0:q-m*j.n<j.n:=by rw[Ku,Oe]at hq;omega
            obtain⟨a,v,c1,c2,c3⟩:=b4.get' (i:=q-m*j.n) J;refine⟨a,v,by rw[Kj J,a7];exact c1,?_,c3⟩;have:=A (q-m*j.n) J;rw[gF,WideShapes.add_plain,WideShapes.add_plain,zfz B,c2]at this;rw[←this]
            congr 1
            omega
        obtain⟨C1,Y,as,ys,a1,a2,a3,a4,a5,a6,a7,a8⟩:=loop len (J4 _);have jO:b<W.heap.size:=by
         have:=(Array.getElem?_eq_some_iff.1 B).1;exact this
        have jX:len*j.n≤cap*j.n:=Ki _ gT;have jP:∀q,g≤q→q<g+cap*j.n→¬(lo≤q∧q<hi):=by
         intro q h1 h2;have:=zhk hz (λx' gH=>gY x' gH) (i:=q-g) (n:=cap*j.n) J;rw[show g+(q-g)=q from J]at this;unfold World.frozen? at this;dsimp only at this;rw[B]at this;simp at this;omega
        obtain⟨c1,c2⟩:=a2.ro (L:=⟨b,g,len*j.n,g+cap*j.n⟩) jO (l:=as) (λjg L hL=>by
         rw[CM.ext_same]at hL;cases hL;refine⟨by rw[a7],λe=>An,by show g+as.length≤g+cap*j.n;omega,vs,ty,lo,hi,B,gX,jP,?_⟩;intro q hq;rw[get_ofList,J8 J];obtain⟨a,v,d1,d2,d3⟩:=a8 q J;exact⟨a,by simpa using d1,a4 a (Kg d1),v,d2,d3.mono jg⟩)
        have hg:Ud Y (Y.push (.cells (Su as 0 .e) as.length 0 true)):=⟨Of _,λo ho=>Heap.get_push_ne _ _ ho⟩;refine⟨_,_,[.sl Y.next 0 0 len j.n none],(⟨ys,J⟩:{ l:List j.T // l.length≤maxLen }),CM.le_trans a1 c2,c1,a3.trans hg,.cons ?_ .nil,by simp[AV.one],?_,rfl⟩
        ·exact VR.sl (L:=⟨b,g,len*j.n,g+cap*j.n⟩) (i:=0) (CM.ext_same _ _ _ _) Av Av gT (λr e=>An) (λ_=>rfl)
        ·show ARs _ [LV.lst (ys.flatMap j.enc) ys.length j.n] _;rw[a6];refine .cons (.lst (K7 Y.next) (λr e=>An) ?_ ?_ (a5.mono hg.le)) .nil
         ·have:=a5.length;omega
         ·have hr:=W1 (H:=Y.push (.cells (Su as 0 .e) as.length 0 true)) (i:=0) (n:=len*j.n) (Heap.get_push_same _ _) (z53 as) (J4 _) J;rw[Mg,Kf J]at hr;exact hr
     ·rw[J2 U]at z;cases z
   ·rename_i fs hu;split at z
    ·cases z
    ·rename_i l E;cases z;obtain⟨xs,n,hn,hx,gI,jz,jQ⟩:=DataW.trod_struct hu h;cases hn;have gK:∀(fl:List Field) (X g:Nat) (l:ShL) (V:CM) (H:Heap),fs.toList.drop X=fl→ik P (Wy P d) (P.cellsOf t) fl g=some l→Rel W V H W→Got W V H (cs.drop g) l.n l.T l.enc:=by
      intro fl
      induction fl with
      |nil =>
       intro X g l V H hj E C;simp only[ik]at E;split at E
       ·rename_i he;cases E;refine⟨V,H,[],(():Unit),CM.le_refl V,C,.refl H,?_,N,.nil,rfl⟩;rw[he,←gI,List.drop_length];exact .nil
       ·cases E
      |cons fd fl jR =>
       intro X g l V H hj E C;simp only[ik]at E;split at E
       ·cases E
       ·rename_i s z;by_cases U:fd.offset=g∧P.cellsOf fd.type=s.n
        ·rw[J8 U]at E;split at E
         ·cases E
         ·rename_i r hr;cases E;have gL:X<fs.toList.length:=by
           rcases Mw X fs.toList.length with h|h
           ·exact h
           ·rw[List.drop_eq_nil_of_le h]at hj;cases hj
          have jT:fs[X]?=some fd:=by
           rw[Lh gL]at hj;injection hj with h1 h2
           rw[←h1];simp
          have K:=jQ X fd jT;rw[U.1,U.2]at K;have gM:X<xs.length:=by rw[jz];simpa using gL
          rw[J5 gM]at K;obtain⟨C1,Y,Z,y,a1,a2,a3,a4,a5,a6,a7⟩:=ih d fd.type s _ _ V H z K (λb' F gg=>hz b' F Ht) C;obtain⟨C2,H2,gA,ys,b1,b2,b3,b4,b5,b6,b7⟩:=jR (X+1) (g+s.n) r C1 Y (by rw[Lh gL]at hj;injection hj) hr a2;refine⟨C2,H2,Z++gA,(y,ys),CM.le_trans a1 b1,b2,a3.trans b3,?_,?_,(a6.mono b3.le).append b6,by rw[J7,a7,b7];rfl⟩
          ·have:=(a4.mono b1).append b4
           rwa [←List.drop_drop,List.take_append_drop]at this
          ·intro jB hz;rcases Ks.1 hz with h|h
           ·exact a5 jB h
           ·exact b5 jB h
        ·rw[J2 U]at E;cases E
     have:=gK fs.toList 0 0 l V H N E C;rw[Mg]at this;exact this
   ·rename_i n e hu;split at z
    ·cases z
    ·rename_i j gD;by_cases U:P.cellsOf e=j.n∧P.cellsOf t=n*j.n
     case neg=>rw[J2 U]at z;cases z
     rw[J8 U]at z;cases z;obtain⟨xs,m,hm,hx,gI,jz,gB⟩:=DataW.trod_array hu h;cases hm;have gK:∀(k X:Nat) (V:CM) (H:Heap),X+k=n→Rel W V H W→Got W V H (cs.drop (X*j.n)) (zvx k j).n (zvx k j).T (zvx k j).enc:=by
      intro k
      induction k with
      |zero =>
       intro X V H hj C;refine⟨V,H,[],(():Unit),CM.le_refl V,C,.refl H,?_,N,.nil,rfl⟩;rw[(J:X=n),←U.2,←gI,List.drop_length];exact .nil
      |succ k jU =>
       intro X V H hj C;have K:=gB X J;rw[U.1]at K;have gM:X<xs.length:=J
       rw[J5 gM]at K;obtain⟨C1,Y,Z,y,a1,a2,a3,a4,a5,a6,a7⟩:=ih d e j _ _ V H gD K (λb' F gg=>hz b' F Ht) C;obtain⟨C2,H2,gA,ys,b1,b2,b3,b4,b5,b6,b7⟩:=jU (X+1) C1 Y J a2;refine⟨C2,H2,Z++gA,(y,ys),CM.le_trans a1 b1,b2,a3.trans b3,?_,?_,(a6.mono b3.le).append b6,by rw[J7,a7,b7];rfl⟩
       ·have:=(a4.mono b1).append b4
        rwa [N1,←List.drop_drop,List.take_append_drop]at this
       ·intro jB hz;rcases Ks.1 hz with h|h
        ·exact a5 jB h
        ·exact b5 jB h
     have:=gK n 0 V H J C;rw[Mn,Mg]at this;exact this
   ·cases z
end imp
end
end
section
open Go.RowKit Go.ChangeShapes Go.WideShapes Go.ChangeAt
def Sh.arg:(s:Sh)→s.T→LV
 |.st l,x=>.agg (l.enc x)
 |.bool,x=>.bool x
 |.u,x=>.u x
 |.b,x=>.b x
 |.i,x=>.i x.1
 |.k kk,x=>.int kk x
 |.str,x=>.str x.1
 |.sl s,x=>.lst (x.1.flatMap s.enc) x.1.length s.n
def ShL.args:(l:ShL)→l.T→List LV
 |.nil,_=>[]
 |.cons s l,x=>s.arg x.1::l.args x.2
section law
variable {H : Type} {enc : TypeId × Value → H} {P : Program}
def zqi{W:World}{d F:Nat}:∀{O:List TypeId} {l:ShL} {z:List Value} {U:List (DataW H)} {Q:List MemPlace} {C:CM} {Hp:Heap},zw8 P d O=some l→DataW.TrodAll enc P W 0 (λ_=>true) true O z U Q→W.noneFrozen Q →
  (∀(gC:Nat) (t:TypeId) (v:Value),O[gC]?=some t→z[gC]?=some v→Value.okWide P W .any F t v)→Rel W C Hp W→∃V X as,∃y:l.T,C.le V∧Rel W V X W∧Ud Hp X∧VRs V as z∧ARs (Vl X) (l.args y) as
 |[],l,z,U,Q,C,Hp,B,Y,_,_,Z=>by
  cases B;obtain⟨rfl,_,_⟩:=trodAll_nil Y;exact⟨C,Hp,[],(():Unit),CM.le_refl C,Z,.refl Hp,.nil,.nil⟩
 |t::O,l,z,U,Q,C,Hp,B,Y,hz,hv,Z=>by
  simp only[zw8]at B;split at B
  ·cases B
  ·rename_i s g;by_cases hc:P.cellsOf t=s.n
   ·rw[J8 hc]at B;split at B
    ·cases B
    ·rename_i r hr;cases B;obtain⟨v,vs,dd,gD,p,q,rfl,rfl,rfl,⟨G,hd⟩,E⟩:=trodAll_cons Y;obtain⟨C1,H1,I,y,a1,a2,a3,R,a5,T,a7⟩:=got_cells G d t s _ _ C Hp g hd (λb o hb=>hz b o (Ny _ hb)) Z;obtain⟨C2,H2,gg,ys,b1,b2,b3,b4,b5⟩:=zqi (C:=C1) (Hp:=H1) hr E (λb o hb=>hz b o (Mj _ hb)) (λgC t' v' K h2=>hv (gC+1) t' v' (by simpa using K) (by simpa using h2)) a2;have A:=hv 0 t v rfl rfl;have gA:∃a,VR C1 a v∧AR (Vl H1) (s.arg y) a:=by
      cases d with
      |zero=>cases g
      |succ d =>
       have j:∀{gF:LV},s.enc y=[gF]→s.arg y=gF→v.cells.toList=[v]→∃a,VR C1 a v∧AR (Vl H1) (s.arg y) a:=by
        intro gF e1 e2 e3;rw[e3]at R;rw[e1]at T;cases R with
        |cons K h2 =>
         cases T with
         |cons h3 h4=>exact⟨_,K,by rw[e2];exact h3⟩
       simp only[Wy]at g;split at g
       ·rename_i hu;cases g;obtain⟨b,rfl⟩:=okWide_bool hu A;exact j rfl rfl rfl
       ·rename_i k hu;obtain⟨n,rfl⟩:=okWide_int hu A;split at g<;>cases g<;>exact j rfl rfl rfl
       ·rename_i hu;cases g;obtain⟨b,rfl⟩:=okWide_string hu A;exact j rfl rfl rfl
       ·rename_i e hu;obtain⟨a,len,cap,rfl⟩:=okWide_slice hu A;split at g
        ·cases g
        ·rename_i L gB;by_cases D:P.cellsOf e=L.n∧0<L.n
         ·rw[J8 D]at g;cases g;exact j rfl rfl rfl
         ·rw[J2 D]at g;cases g
       ·rename_i fs hu;obtain⟨M,rfl,_⟩:=okWide_struct hu A;split at g
        ·cases g
        ·rename_i l hl;cases g;exact⟨.agg I,.agg R a5,.agg T⟩
       ·rename_i n e hu;obtain⟨M,rfl⟩:∃M,v=.agg M:=by
         simp only[Value.okWide,hu]at A;obtain⟨M,K,_⟩:=A;exact⟨M,K⟩
        split at g
        ·cases g
        ·rename_i L gB;by_cases D:P.cellsOf e=L.n∧P.cellsOf t=n*L.n
         ·rw[J8 D]at g;cases g;exact⟨.agg I,.agg R a5,.agg T⟩
         ·rw[J2 D]at g;cases g
       ·cases g
     obtain⟨a,o1,o2⟩:=gA;exact⟨C2,H2,a::gg,(y,ys),CM.le_trans a1 b1,b2,a3.trans b3,.cons (o1.mono b1) b4,.cons (o2.mono b3.le) b5⟩
   ·rw[J2 hc]at B;cases B
def na{f d:Nat}{j:List TypeId}{l:ShL}(hm:P.follows .mixedOrders=true)(z:zw8 P d j=some l)(h:∀y:l.T,Sw P (.fn f) (l.args y) [] λv _=>v=.bool true){W:World}{D:List (DataW H)}{C:List MemPlace}
  (E:DataW.TrodAll enc P W 0 (λ_=>true) true j vR.toList D C) (F:W.noneFrozen C) (G:∀(gg:Nat) (t:TypeId) (v:Value),j[gg]?=some t→vR.toList[gg]?=some v→Value.okWide P W .any g t v) :
  Calls P f vR W λe A=>e=.returned (.bool true)∧Below W.heap.size W A:=by
 obtain⟨gA,I,as,y,_,K,_,L,B⟩:=zqi z E F G (Rel.start W);obtain⟨m,v1,H',M,c',v,G',q2,q3,q4,O,Q⟩:=(h y).2 (Vl I) (.fn f) as (HSim.empty (λo R=>R)) rfl B;subst Q;cases O;intro T;obtain⟨C',A,v',U,h1,V,X,Y,Z,h6⟩:=zbr hm (i3 P) m W _ _ W (.fn f) as _ _ _ K L M T;cases X;exact⟨.returned (.bool true),A,U,⟨rfl,V.low⟩,Y,Z,h6⟩
def zmk(F:laidOutB P=true){W G:World}(I:Below W.heap.size W G){K:Nat→Bool}:∀{A:List TypeId} {C:List Value} {D:List (DataW H)} {B:List MemPlace},(∀t∈A,P.readableRec t=true∧t<P.types.size)→DataW.TrodAll enc P W 0 (λ_=>true) true A C D B →
  (∀x∈B,x.block<W.heap.size)→(∀x∈B,K x.block=true)→DataW.TrodAll enc P G 0 K true A C D B
 |[],[],[],_,_,h,_,_=>h
 |t::A,v::C,d::D,_,E,⟨p,q,L,M,e⟩,j,z=>by
  subst e;exact⟨p,q,WideElems.Trod_stays F (E t N).1 (E t N).2 L (λx g=>I.same (j x (Ny _ g))) (λx g=>z x (Ny _ g)),
   zmk F I (λO Q=>E O Ee) M (λx g=>j x (Mj _ g)) (λx g=>z x (Mj _ g)),rfl⟩
 |[],[],_::_,_,_,h,_,_=>h.elim
 |[],_::_,_,_,_,h,_,_=>h.elim
 |_::_,[],_,_,_,h,_,_=>h.elim
 |_::_,_::_,[],_,_,h,_,_=>h.elim
def ij{f:Func}{s:ChangeSpec}{C g D:Bool}{W:World}{args:Array Value}{L gs:List (DataW H)}{A:List MemPlace}(U:DataW.Whole enc P f.params.toList s.vars K W args.toList L gs A)(j:s.vars=[])
  (E:∀F:List (DataW H),F.length=f.params.toList.length→s.fn H F={ results:=[.lit (.bool true)],args:=F }) (X:Below W.heap.size W G) (hl:laidOutB P=true) (hr:∀t∈f.params.toList,P.readableRec t=true∧t<P.types.size)
  (B:f.resultTypes=#[V]) (z:P.underlying V=some .bool):s.post enc P f K C g D W args (.bool true) G:=by
 have M:=U;obtain⟨p,q,Y,Z,rfl,gg,gA⟩:=U;rw[j]at Z;obtain⟨rfl,rfl⟩:=trodVars_none Z;have O:L.length=f.params.toList.length:=(trodAll_length Y).2;have hs:=E L O;have I:s.fn H (L++[])={ results:=[.lit (.bool true)],args:=L }:=by rw[Lf];exact hs
 have Q:=M.lt;refine zrk (pa:=p) (pv:=[]) M (λb sp hd=>?_) (λsp R=>?_) (λsp _=>?_) rfl X ?_
 ·rw[I,B];exact trodAll_cons_mk (shut_bool z _) trodAll_mk0
 ·rw[I];exact zmk hl X hr Y (λx T=>Q x Gr) (λx T=>R x Gr)
 ·rw[I,j];rfl
 ·exact ok_one B rfl (okWide_bool_mk z _)
end law
end
section
def Ra(G:Ok)(v d:LV):Prop:=match v with
 |.tup l=>∃r,d=.tup r∧bors G l r
 |v=>bor G v d
def T2(P:Program)(f:Nat)(z:List LV)(E:LV):Prop :=
 gf P (.fn f)∧E.dat=true∧∀(B:Nat→Prop) (C:Heap) (g:List AV),(∀o,B o→o<C.next)→ARs ⟨[],B,C⟩ z g →
  ∃(m:Nat) (F:AV) (j:Nat→Prop) (A:Heap),Tp P (OL P) m (.fn f) g C=.ok F A∧C.next≤A.next∧(∀o,B o→j o)∧(∀o,j o→o<A.next∧(B o∨C.next≤o))∧(∀o,o<C.next→A.get o=C.get o)∧AR ⟨[],j,A⟩ E F
section calls
variable {P : Program}
def pe{c:Cx}{G:Ok}(j:HSim c G)(v d:LV)(a:AV)(g:Ra G v d)(h:AR c v a):AR ⟨[],λo=>c.Fz o∨Qq c G o,c.H⟩ d a:=by
 unfold Ra at g;split at g
 ·obtain⟨r,rfl,g⟩:=g;cases h with
  |tup h=>exact .tup (bors_ok j _ _ _ g h)
 ·exact bor_ok j _ _ _ g h
def T2.mk{f:Nat}{args:List LV}{v0:LV}(hd:v0.dat=true)(h:Sw P (.fn f) args [] λv G=>Ra G v v0):T2 P f args v0:=by
 refine⟨h.1,hd,λFz H gg gB ha=>?_⟩;obtain⟨m,v1,H',q1,c1,v,G,rfl,q3,q4,q5,q6⟩:=h.2 ⟨[],Fz,H⟩ (.fn f) gg (.empty gB) rfl ha;have gA:∀o,¬Qq ⟨[],Fz,H⟩ [] o:=λo ⟨p,_,_,_,e,_⟩=>B1
 refine⟨m,v1,_,c1.H,q1,q4.nx,λo ho=>.inl (q4.le.fz o ho).1,λo ho=>⟨ho.elim (q3.fz o) (q3.lt o),?_⟩,λo ho=>q4.frame o ho (gA o),pe q3 v v0 v1 q6 q5⟩;rcases ho with ho|ho
 ·rcases q4.fznew o ho with h|h|h
  ·exact .inl h
  ·exact absurd h (gA o)
  ·exact .inr h
 ·rcases q4.new o ho with h|h
  ·exact absurd h (gA o)
  ·exact .inr h
def zml{c:Cx}{G:Ok}(C:HSim c G){Fz':Nat→Prop}(R:c.H.next≤vX.next)(U:∀o,c.Fz o→Fz' o)(M:∀o,Fz' o→o<vX.next∧(c.Fz o∨c.H.next≤o))(K:∀o,o<c.H.next→vX.get o=c.H.get o) :
  HSim ⟨c.hd,Fz',vX⟩ G∧Step c G ⟨c.hd,Fz',vX⟩ G:=by
 have F:CxLe c ⟨c.hd,Fz',vX⟩:=⟨λp k h e=>⟨k,h,e,J4 _,λ_=>rfl,λ_=>rfl⟩,λo g=>⟨U o g,K o (C.fz o g)⟩⟩;have j:∀o,Qq ⟨c.hd,Fz',vX⟩ G o→Qq c G o:=λo ⟨p,z,k,h,B,A,H,I⟩=>⟨p,z,k,h,B,A,H,I⟩
 refine⟨⟨C.len,λo g=>(M o g).1,λo g=>Kr (C.lt o (j o g)) R,λo g V=>?_,λp z k h B A=>?_,λp q z E k h X Y o B A H I O T Z e8=>C.excl p q z E k h X Y o B A H I O T Z e8⟩,?_⟩
 ·rcases (M o V).2 with h|h
  ·exact C.sep o (j o g) h
  ·have:=C.lt o (j o g);omega
 ·by_cases L:z.live=true
  ·exact (C.obj p z k h B A).mono F (λo g=>K o (C.lt o ⟨p,z,k,h,B,L,A,g⟩))
  ·cases z<;>first|exact absurd rfl L|trivial
 ·refine⟨F,R,λo g _=>K o g,λo g=>.inl (j o g),λo g=>(M o g).2.elim .inl (λh=>.inr (.inr h)),λp z E B A=>?_,λp z E k h o B A H I O T=>?_⟩
  ·rw[B]at A;cases A;exact J4 _
  ·rw[B]at A;cases A;have L:z.live=true:=by cases z<;>first|rfl|cases O
   exact⟨rfl,K o (C.lt o ⟨p,z,k,h,B,L,H,I⟩),rfl⟩
def Sx{f:Nat}{B:LV}{G:Ok}(K:T2 P f F B)(L:dats F=true)(k:vZ B G):Sw P (.fn f) F G vZ:=by
 obtain⟨M,hd,z⟩:=K;refine⟨M,λc O g H A R=>?_⟩;cases O with
 |yield o=>exact A.elim
 |fn gg =>
  obtain rfl:f=gg:=A;obtain⟨m,I,j,C,T,U,V,X,Y,Z⟩:=z c.Fz c.H g H.fz (ARs.dat (c:=c) (c':=⟨[],c.Fz,c.H⟩) (λo E=>⟨E,rfl⟩) F g L R);obtain⟨r1,r2⟩:=zml H U V X Y;exact⟨m,I,C,T,⟨c.hd,j,C⟩,B,G,rfl,r1,r2,AR.dat (c:=⟨[],j,C⟩) (c':=⟨c.hd,j,C⟩) (λo E=>⟨E,rfl⟩) B I hd Z,k⟩
mutual
def LV.flat:LV→Bool
 |.bool _ |.u _ |.b _ |.i _ |.int _ _ |.str _ |.nilPtr |.nilSl |.nilMap |.nilFn |.nilIf=>true
 |.agg l=>flats l
 |.tup l=>flats l
 |_=>false
def flats:List LV→Bool
 |[]=>true
 |v::l=>v.flat&&flats l
end
mutual
def AR.flat{c c':Cx}(v:LV)(a:AV)(hd:v.flat=true)(h:AR c v a):AR c' v a:=by
 cases v with
 |agg l =>
  simp only[LV.flat]at hd;cases h with
  |agg h=>exact .agg (ARs.flat l _ hd h)
 |tup l =>
  simp only[LV.flat]at hd;cases h with
  |tup h=>exact .tup (ARs.flat l _ hd h)
 |_=>first|(simp only[LV.flat]at hd;cases hd;done)|(cases h;constructor)
termination_by SizeOf.sizeOf v
def ARs.flat{c c':Cx}(l:List LV)(r:List AV)(hd:flats l=true)(h:ARs c l r):ARs c' l r:=by
 cases l with
 |nil=>cases h;exact .nil
 |cons v l =>
  simp only[flats,Jz]at hd;cases h with
  |cons e es=>exact .cons (AR.flat v _ hd.1 e) (ARs.flat l _ hd.2 es)
termination_by SizeOf.sizeOf l
end
def po{f:Nat}{j:LV}{G:Ok}(K:T2 P f vV j)(L:bors G F vV)(M:j.flat=true)(k:vZ j G):Sw P (.fn f) F G vZ:=by
 obtain⟨O,hd,z⟩:=K;refine⟨O,λc R g A B T=>?_⟩;cases R with
 |yield o=>exact B.elim
 |fn gg =>
  obtain rfl:f=gg:=B;obtain⟨m,E,U,H,V,I,q3,q4,X,Y⟩:=z (λo=>c.Fz o∨Qq c G o) c.H g (λo C=>C.elim (A.fz o) (A.lt o)) (bors_ok A F vV g L T);obtain⟨Z,r2⟩:=zml A (Fz':=c.Fz) I (λ_ h=>h) (λo C=>⟨Kr (A.fz o C) I,.inl C⟩) X;exact⟨m,E,H,V,⟨c.hd,c.Fz,H⟩,j,G,rfl,Z,r2,AR.flat j E M Y,k⟩
end calls
def P4.lives{P:Program}{f:Nat}(ht:pg P f=true∧zd9 P f=false)(hl:zmh P f=true)(hr:zaa P f):P4 P f [] (.bool true) []:=by
 refine⟨ht,rfl,λgA ob e=>B1,λFz H j gg ha=>?_⟩;cases ha;refine⟨1,.bool true,[],H,?_,.empty gg,.bool true,J4 _,λ_ _=>rfl,λo ⟨p,_,_,_,e,_⟩=>B1⟩;unfold Tp;dsimp only;rw[OL_yes hl hr]
section cuts
variable {P : Program} {f n : Nat} {ro : Option Nat} {ρ : Om} {D : List Nat} {G : Ok} {Q : Ri}
def zsi{b c:LC}:Xp P f n ro (.seq b c) Q=Xp P f n ro b (Xp P f n ro c Q):=by
 funext x ρ D G
 cases x<;>rfl
def zcb{a b c:LC}:wp P f n ro (.seq a (.seq b c)) ρ D G Q=wp P f n ro (.seq (.seq a b) c) ρ D G Q:=by
 rw[wp_seq,wp_seq,wp_seq,zsi]
def zx9{a b:LC}(E:Om→List Nat→Ok→Prop)(B:∀A:Om→List Nat→Ok→Prop,(∀(g:Om) (j:List Nat) (z:Ok),E g j z→A g j z)→wp P f n ro a ρ D G (vp A Q))
  (C:∀(g:Om) (j:List Nat) (z:Ok),E g j z→wp P f n ro b g j z Q):wp P f n ro (.seq a b) ρ D G Q:=by
 rw[wp_seq];exact B (λg j z=>wp P f n ro b g j z Q) C
end cuts
attribute [simp] Ra LV.flat flats
end

section
def qv(b:Nat)(G:Ok)(v:LV)(esz n:Nat)(l:List LV):Prop :=
 (v=.nilSl∧n=0∧l=[])∨∃(p k:Nat) (g:List LV) (m st:Nat),b≤p∧G[p]?=some (.dyn g m esz k st)∧g.length=m*esz∧n≤m∧l=g.take (n*esz)∧((v=.dy p k∧n=m)∨v=.vw p k 0 n)
section stk
variable {b : Nat} {G G' : Ok} {v : LV} {esz n : Nat} {l x : List LV}
def qv.length(h:qv b G v esz n l):l.length=n*esz:=by
 rcases h with ⟨_,rfl,rfl⟩|⟨p,k,R,m,st,_,_,h2,h3,rfl,_⟩
 ·simp
 ·have:=Ki esz h3;rw[Me];omega
def qv.lenL(h:qv b G v esz n l){K:Nat→Prop}(k:K n):lenL G v K:=by
 rcases h with ⟨rfl,rfl,_⟩|⟨p,gg,R,m,st,_,h1,_,_,_,⟨rfl,rfl⟩|rfl⟩
 ·exact k
 ·rw[lenL_dy,h1];exact⟨rfl,k⟩
 ·rw[lenL_vw,h1];exact⟨rfl,k⟩
def qv.ix(h:qv b G v esz n l){i:Int}(h0:0≤i)(hi:i<n){K:LV→Prop}
  (k:∀(p j:Nat) (R:List LV) (m st:Nat),b≤p→G[p]?=some (.dyn R m esz j st)→(∀gg,gg<n*esz→R[gg]?=l[gg]?)→n*esz≤R.length→K (.dptr p j (i.toNat*esz))):Zr G esz v i K:=by
 rcases h with ⟨rfl,rfl,rfl⟩|⟨p,j,R,m',st,h1,h2,h3,h4,rfl,⟨rfl,rfl⟩|rfl⟩
 ·omega
 ·rw[zwn,h2];exact⟨rfl,rfl,h0,hi,k _ _ _ _ _ h1 h2 (λgg hj=>by rw[Lz hj]) J⟩
 ·rw[zxa,h2];have:=Ki esz h4;refine⟨rfl,rfl,h0,hi,?_⟩;rw[Kw];exact k _ _ _ _ _ h1 h2 (λgg hj=>by rw[Lz hj]) J
def Rw(b:Nat)(G:Ok)(v:LV)(esz n:Nat)(l:List LV):Prop :=
 (v=.nilSl∧n=0∧l=[])∨∃(p k st:Nat),b≤p∧v=.dy p k∧G[p]?=some (.dyn l n esz k st)∧l.length=n*esz
def Rw.nil:Rw b G .nilSl esz 0 []:=.inl ⟨rfl,rfl,rfl⟩
def Rw.frame(h:Rw b G v esz n l)(hf:∀q,b≤q→G'[q]?=G[q]?):Rw b G' v esz n l:=by
 rcases h with h|⟨p,k,st,h1,h2,h3,h4⟩
 ·exact .inl h
 ·exact .inr ⟨p,k,st,h1,h2,by rw[hf p h1];exact h3,h4⟩
def Rw.set_lt(h:Rw b G v esz n l){q:Nat}{ob:LObj}(hq:q<b):Rw b (G.set q ob) v esz n l :=
 h.frame λr hr=>Jy J
def Rw.push_end(h:Rw b G v esz n l){ob:List LObj}:Rw b (G++ob) v esz n l:=by
 rcases h with h|⟨p,k,st,h1,h2,h3,h4⟩
 ·exact .inl h
 ·exact .inr ⟨p,k,st,h1,h2,by rw[J6 (Jx.1 h3).1];exact h3,h4⟩
def Rw.push(h:Rw b G v esz n l)(hz:0<esz)(hb:b≤G.length)(hn:n≤1000000000){m:Nat}(hx:x.length=m*esz){K:LV→Ok→Prop}
  (k:∀v' G',Rw b G' v' esz (n+m) (l++x)→(∀q,q<b→G'[q]?=G[q]?)→b≤G'.length→K v' G'):Rh G esz v m x K:=by
 rcases h with ⟨rfl,rfl,rfl⟩|⟨p,gg,st,h1,rfl,h2,h3⟩
 ·rw[appL_nil];refine k _ _ (.inr ⟨_,0,0,hb,rfl,?_,by simpa using hx⟩) (λq hq=>J6 J) Ab;rw[Kw];exact Ke
 ·have hp:p<G.length:=(Jx.1 h2).1;rw[appL_dy,h2];exact⟨rfl,⟨rfl,hz⟩,hn,k _ _ (.inr ⟨p,gg+1,st+1,h1,rfl,J1 hp,by rw[J7,h3,hx,Ku]⟩) (λq hq=>Jy J) (by rw[L7];exact hb)⟩
def Rw.cells(h:Rw b G v esz n l):v.cells=some [v]:=by
 rcases h with ⟨rfl,_⟩|⟨_,_,_,_,rfl,_⟩<;>rfl
def Rw.bor(h:Rw b G v esz n l)(hd:dats l=true):Go.Sv.bor G v (.lst l n esz):=by
 rcases h with ⟨rfl,rfl,rfl⟩|⟨p,k,st,_,rfl,h2,_⟩
 ·exact .inr ⟨_,rfl⟩
 ·exact⟨_,_,_,_,rfl,h2,hd⟩
def qv.cells(h:qv b G v esz n l):v.cells=some [v]:=by
 rcases h with ⟨rfl,_⟩|⟨_,_,_,_,_,_,_,_,_,_,⟨rfl,_⟩|rfl⟩<;>rfl
end stk
end
def HSim.freeze'{c:Cx}{G:Ok}(hs:HSim c G){p k st:Nat}{x:AV}{ob:LObj}(hG:G[p]?=some ob)(hl:ob.live=true)(gD:ob.st<st)(hp:c.hd[p]?=some (k,x)) :
  HSim ⟨c.hd,λq=>c.Fz q∨Pg x=some q,c.H⟩ (G.set p (.dead st))∧Step c G ⟨c.hd,λq=>c.Fz q∨Pg x=some q,c.H⟩ (G.set p (.dead st)):=by
 have gF:p<G.length:=(Jx.1 hG).1;have hle:CxLe c ⟨c.hd,λq=>c.Fz q∨Pg x=some q,c.H⟩:=⟨λp k h e=>⟨k,h,e,J4 _,λ_=>rfl,λ_=>rfl⟩,λq hq=>⟨.inl hq,rfl⟩⟩;have gB:∀q,Pg x=some q→Qq c G q:=λq hq=>⟨p,ob,k,x,hG,hl,hp,hq⟩
 have hinv:∀{q:Nat} {gg:LObj},(G.set p (.dead st))[q]?=some gg→(q=p∧gg=.dead st)∨(q≠p∧G[q]?=some gg):=by
  intro q gg e;by_cases hq:q=p
  ·subst hq;rw[J1 gF]at e;cases e;exact .inl ⟨rfl,rfl⟩
  ·rw[Jy (Ne.symm hq)]at e;exact .inr ⟨hq,e⟩
 have gA:∀q,Qq ⟨c.hd,λq=>c.Fz q∨Pg x=some q,c.H⟩ (G.set p (.dead st)) q→Qq c G q∧Pg x≠some q:=by
  rintro q ⟨p1,gg,k1,h1,e1,e2,e3,e4⟩;rcases hinv e1 with ⟨_,rfl⟩|⟨gG,e1⟩
  ·cases e2
  ·exact⟨⟨p1,gg,k1,h1,e1,e2,e3,e4⟩,λhq=>gG (hs.excl p1 p gg ob k1 h1 k x q e1 hG e2 hl e3 hp e4 hq)⟩
 refine⟨⟨Gx,λq hq=>hq.elim (hs.fz q) (λe=>hs.lt q (gB q e)),λq hq=>hs.lt q (gA q hq).1,λq hq hf=>hf.elim (hs.sep q (gA q hq).1) (gA q hq).2,λq gg k1 h1 e1 e2=>?_,?_⟩,⟨hle,J4 _,λ_ _ _=>rfl,λq hq=>.inl (gA q hq).1,λq hq=>hq.elim .inl (λe=>.inr (.inl (gB q e))),λq gg gC e1 e2=>?_,λq gg gC k1 h1 o1 e1 e2 e3 e4 e5 e6=>?_⟩⟩
 ·rcases hinv e1 with ⟨_,rfl⟩|⟨_,e1⟩
  ·trivial
  ·by_cases gH:gg.live=true
   ·exact (hs.obj q gg k1 h1 e1 e2).mono hle (λ_ _=>rfl)
   ·cases gg<;>first|exact absurd rfl gH|trivial
 ·intro q r gg gC k1 h1 k2 h2 o1 e1 e2 e3 e4 e5 e6 e7 e8;rcases hinv e1 with ⟨_,rfl⟩|⟨_,e1⟩
  ·cases e3
  ·rcases hinv e2 with ⟨_,rfl⟩|⟨_,e2⟩
   ·cases e4
   ·exact hs.excl q r gg gC k1 h1 k2 h2 o1 e1 e2 e3 e4 e5 e6 e7 e8
 ·rcases hinv e2 with ⟨rfl,rfl⟩|⟨_,e2⟩
  ·rw[hG]at e1;cases e1;exact N6 gD
  ·rw[e1]at e2;cases e2;exact J4 _
 ·rcases hinv e2 with ⟨rfl,rfl⟩|⟨_,e2⟩
  ·rw[hG]at e1;cases e1;have:ob.st=st:=e6;omega
  ·rw[e1]at e2;cases e2;exact⟨rfl,rfl,rfl⟩
def ARs.parts{c:Cx}:∀{a b:List LV} {v:LV} {r:List AV},ARs c (a++v::b) r→∃ra x rb,r=ra++x::rb∧ARs c a ra∧AR c v x∧ARs c b rb
 |[],b,v,r,h=>by
  cases h with
  |cons e es=>exact⟨[],_,_,rfl,.nil,e,es⟩
 |w::a,b,v,r,h=>by
  cases h with
  |cons e es =>
   obtain⟨ra,x,rb,rfl,h1,h2,h3⟩:=ARs.parts (a:=a) es;exact⟨_::ra,x,rb,rfl,.cons e h1,h2,h3⟩
def ARs.join{c:Cx}:∀{a b:List LV} {v:LV} {ra rb:List AV} {x:AV},ARs c a ra→AR c v x→ARs c b rb→ARs c (a++v::b) (ra++x::rb)
 |[],_,_,_,_,_,h1,h2,h3=>by cases h1;exact .cons h2 h3
 |_::a,_,_,_,_,_,h1,h2,h3=>by
  cases h1 with
  |cons e es=>exact .cons e (ARs.join es h2 h3)
def bj{t:LTgt}{a b:List LV}{p k len st:Nat}{l:List LV}(L:P[p]?=some (.dyn l len g k st))(h:Sw C t (a++.lst l len g::b) (P.set p (.dead (st+1))) vZ) :
  Sw C t (a++.dy p k::b) P vZ:=by
 refine⟨h.1,λc B D E F V=>?_⟩;obtain⟨ra,x,rb,rfl,X,Y,Z⟩:=V.parts;cases Y with
 | @dy _ _ k' M _ e hk G gg =>
  obtain⟨r0,H,j⟩:=E.obj p _ _ _ L e;have I:=G J;obtain⟨O,A⟩:=E.freeze' (st:=st+1) L rfl (K7 _) e;have hx:AR ⟨c.hd,λq=>c.Fz q∨Pg M=some q,c.H⟩ (.lst l len g) x:=by
   rw[I];rcases j with ⟨j,K⟩|⟨o,v,Q,t,R,l',j,K,r4,r5,T,r7,r8⟩
   ·subst K;have hl:l=[]:=Kk Gb;subst hl;rw[j];exact .lstNil
   ·have gA:l'.length=len*g:=by rw[←T.length];exact H
    have U:=W1 (i:=0) (n:=len*g) K r5 r4 J;rw[Mg,Kf J]at U;rw[j];exact .lst (.inr rfl) (λr e=>(r7 r e).2) H U (T.mono (j ▸ A.le))
  have z:TgtR ⟨c.hd,λq=>c.Fz q∨Pg M=some q,c.H⟩ t B:=by
   cases t<;>cases B<;>exact F
  obtain⟨m,v1,H',q1,c1,v,G1,q2,q3,q4,q5,q6⟩:=h.2 _ B _ O z (.join (X.mono A.le) hx (Z.mono A.le));exact⟨m,v1,H',q1,c1,v,G1,q2,q3,A.trans E O q4,q5,q6⟩
section
section sub
variable {P : Program} {G : Ok} {p len esz ver st : Nat} {l l' : List LV}
def zse{t:LTgt}{args':List LV}(h:∀c r,ARs c F r→ARs c args' r)(k:Sw P t args' G vZ):Sw P t F G vZ :=
 ⟨k.1,λc j g z A B=>k.2 c j g z A (h c _ B)⟩
end sub
end

def HSim.froze{c:Cx}{G:Ok}(hs:HSim c G){p k len st:Nat}{l:List LV}(hg:G[p]?=some (.dyn l len j k st)) :
  ∃c',HSim c' (G.set p (.dead (st+1)))∧Step c G c' (G.set p (.dead (st+1)))∧CxLe c c'∧c'.hd=c.hd∧c'.H=c.H∧(∀x,AR c (.dy p k) x→AR c' (.lst l len j) x)∧∀x,AR c' (.dy p k) x→AR c' (.lst l len j) x:=by
 have hp:p<c.hd.length:=by rw[hs.len];exact (Jx.1 hg).1
 obtain⟨⟨k1,hh⟩,e⟩:∃y,c.hd[p]?=some y:=⟨_,J5 hp⟩;obtain⟨r0,r1,r2⟩:=hs.obj p _ _ _ hg e;obtain⟨u1,u2⟩:=hs.freeze' (st:=st+1) hg rfl (K7 _) e;have key:AR ⟨c.hd,λq=>c.Fz q∨Pg hh=some q,c.H⟩ (.lst l len j) hh:=by
  rcases r2 with ⟨r2,r3⟩|⟨o,v,room,t,gB,l',r2,r3,r4,r5,r6,r7,r8⟩
  ·subst r3;have hl:l=[]:=Kk Ds;subst hl;rw[r2];exact .lstNil
  ·have gC:l'.length=len*j:=Dk
   have hr:=W1 (i:=0) (n:=len*j) r3 r5 r4 J;rw[Mg,Kf J]at hr;rw[r2];exact .lst (.inr rfl) (λr e=>(r7 r e).2) r1 hr (r6.mono (r2 ▸ u2.le))
 refine⟨_,u1,u2,u2.le,rfl,rfl,λx hx=>?_,λx hx=>?_⟩
 ·cases hx with
  | @dy _ _ k' h2 _ e2 hk gg gA =>
   rw[e]at e2;cases e2;rw[gg r0.symm];exact key
 ·cases hx with
  | @dy _ _ k' h2 _ e2 hk gg gA =>
   have e2:c.hd[p]?=some (k',h2):=e2;rw[e]at e2;cases e2;rw[gg r0.symm];exact key
section
def zp1{l:List LV}(h:∀v∈l,v.dat=true):dats l=true:=by
 induction l with
 |nil=>rfl
 |cons v l g=>rw[dats,h v (Kx ..),g λw hw=>h w (Kl _ hw)];rfl
def zer{l:List LV}(h:dats l=true):∀v∈l,v.dat=true:=by
 induction l with
 |nil=>intro v g;cases g
 |cons w l j =>
  rw[dats,Jz]at h;intro v g;rcases J9.1 g with rfl|g
  ·exact h.1
  ·exact j h.2 v g
def zdh{l:List LV}(n:Nat)(h:dats l=true):dats (l.take n)=true:=zp1 λv g=>zer h v (List.mem_of_mem_take g)
def zsm{l:List LV}(n:Nat)(h:dats l=true):dats (l.drop n)=true:=zp1 λv g=>zer h v (List.mem_of_mem_drop g)
def kf{a b:List LV}(h:dats a=true)(k:dats b=true):dats (a++b)=true:=zp1 λv g=>(Ks.1 g).elim (zer h v) (zer k v)
def zpu{l r:List LV}{i:Nat}(h:dats l=true)(k:dats r=true):dats (Po l i r)=true:=by
 unfold Po;exact kf (kf (zdh _ h) k) (zsm _ h)
def Oo{G x:Ok}{i:Nat}(h:i<G.length):(G++x)[i]?=G[i]?:=J6 h
def Pz(b:Nat)(G:Ok)(v:LV)(esz n:Nat)(l:List LV):Prop :=
 (v=.nilSl∧n=0∧l=[])∨∃(p k:Nat) (g:List LV) (m st:Nat),b≤p∧G[p]?=some (.dyn g m esz k st)∧g.length=m*esz∧n≤m∧l=g.take (n*esz)∧dats g=true∧((v=.dy p k∧n=m)∨v=.vw p k 0 n)
section std
variable {b : Nat} {G G' : Ok} {v : LV} {esz n : Nat} {l x : List LV}
def Pz.nil:Pz b G .nilSl esz 0 []:=.inl ⟨rfl,rfl,rfl⟩
def Pz.stk(h:Pz b G v esz n l):qv b G v esz n l:=by
 rcases h with h|⟨p,k,R,m,st,h1,h2,h3,h4,h5,_,h6⟩
 ·exact .inl h
 ·exact .inr ⟨p,k,R,m,st,h1,h2,h3,h4,h5,h6⟩
def Pz.dy{p k st:Nat}(hb:b≤p)(hp:G[p]?=some (.dyn l n esz k st))(hl:l.length=n*esz)(hd:dats l=true):Pz b G (.dy p k) esz n l :=
 .inr ⟨p,k,l,n,st,hb,hp,hl,J4 _,by rw[Kf J],hd,.inl ⟨rfl,rfl⟩⟩
def Pz.frame(h:Pz b G v esz n l)(hf:∀q,b≤q→q<G.length→G'[q]?=G[q]?):Pz b G' v esz n l:=by
 rcases h with h|⟨p,k,R,m,st,h1,h2,h3⟩
 ·exact .inl h
 ·exact .inr ⟨p,k,R,m,st,h1,by rw[hf p h1 (Jx.1 h2).1];exact h2,h3⟩
def Pz.set_lt(h:Pz b G v esz n l){q:Nat}{ob:LObj}(hq:q<b):Pz b (G.set q ob) v esz n l :=
 h.frame λr hr _=>Jy J
def Pz.push_end(h:Pz b G v esz n l){ob:List LObj}:Pz b (G++ob) v esz n l :=
 h.frame λ_ _ hr=>J6 hr
def Pz.push(h:Pz b G v esz n l)(hz:0<esz)(hb:b≤G.length)(hn:n≤1000000000)(hx:x.length=esz)(gg:dats x=true){K:LV→Ok→Prop}
  (k:∀(v':LV) (G':Ok),Pz b G' v' esz (n+1) (l++x)→(∀q,q<b→G'[q]?=G[q]?)→G.length≤G'.length→(∀(q:Nat) (ob:LObj),(∀R m k st,ob≠LObj.dyn R m esz k st)→G[q]?=some ob→G'[q]?=some ob)→K v' G'):Rh G esz v 1 x K:=by
 have gB:=h.stk.length;have fresh:∀l',l'=l++x→dats l'=true→K (.dy G.length 0) (G++[.dyn l' (n+1) esz 0 0]):=by
  rintro l' rfl hd;refine k _ _ (.dy hb (st:=0) Ke (by rw[J7,gB,hx,Ku];omega) hd) (λq hq=>J6 J) N (λq ob _ e=>Ey)
 rcases h with ⟨rfl,rfl,rfl⟩|⟨p,gC,R,m,st,h0,h1,h2,h3,rfl,hd,⟨rfl,rfl⟩|rfl⟩
 ·rw[appL_nil];exact fresh _ rfl gg
 ·have hp:p<G.length:=(Jx.1 h1).1;rw[Kf J]at k;rw[appL_dy,h1];refine⟨rfl,⟨rfl,hz⟩,hn,k _ _ (.dy h0 (J1 hp) Dl (kf hd gg)) (λq hq=>Jy J) N (λq ob ho e=>?_)⟩;rw[Jy (λq'=>By)];exact e
 ·have hp:p<G.length:=(Jx.1 h1).1;have hm:=Ki esz h3;have ha:(n+1)*esz=n*esz+esz:=by rw[Ku];omega
  rw[appL_vw,h1];refine⟨rfl,⟨rfl,rfl,J⟩,hn,?_⟩;by_cases hf:(n+1)*esz≤R.length
  ·rw[J8 hf];have gA:n+1≤m:=by
    rw[h2]at hf;exact N8 hf hz
   refine⟨k _ _ (.inr ⟨p,gC,_,m,_,h0,J1 hp,?_,gA,?_,zpu hd gg,.inr rfl⟩) (λq hq=>Jy J) N (λq ob ho e=>?_),fresh _ rfl (kf (zdh _ hd) gg)⟩
   ·unfold Po;simp;omega
   ·unfold Po;have e1:(R.take (n*esz)++x).length=(n+1)*esz:=by rw[J7,gB,hx,ha]
    rw[Mr e1]
   ·rw[Jy (λq'=>By)];exact e
  ·rw[J2 hf];have gA:n=m:=by
    rw[h2]at hf;have:¬n+1≤m:=λq=>hf (Ki _ q)
    omega
   subst gA;have ht:R.take (n*esz)=R:=Kf J;rw[ht]at k fresh;refine⟨rfl,hz,k _ _ (.dy h0 (J1 hp) Dl (kf hd gg)) (λq hq=>Jy J) N (λq ob ho e=>?_),fresh _ rfl (kf hd gg)⟩;rw[Jy (λq'=>By)];exact e
def Pz.cut(h:Pz b G v esz n l){m:Nat}(hm:m≤n){lo:(Nat→Prop)→Prop}{hi:Nat→(Nat→Prop)→Prop}(gg:∀K':Nat→Prop,K' 0→lo K')(gA:∀(d:Nat) (K':Nat→Prop),K' m→hi d K'){K:LV→Prop}
  (k:∀v',Pz b G v' esz m (l.take (m*esz))→K v'):lj G esz v lo hi K:=by
 rcases h with ⟨rfl,rfl,rfl⟩|⟨p,gB,R,m',st,h0,h1,h2,h3,rfl,hd,⟨rfl,rfl⟩|rfl⟩
 ·have:m=0:=J
  subst this;rw[slL_nil];exact gg _ (gA _ _ ⟨rfl,rfl,k _ (.inl ⟨rfl,rfl,N⟩)⟩)
 ·rw[slL_dy,h1];refine⟨rfl,rfl,gg _ (gA _ _ ⟨J,hm,k _ (.inr ⟨p,gB,R,n,st,h0,h1,h2,hm,?_,hd,.inr rfl⟩)⟩)⟩;rw[Oa,Mh (Ki _ hm)]
 ·rw[slL_vw,h1];refine⟨rfl,rfl,gg _ (gA _ _ ⟨J,hm,k _ (.inr ⟨p,gB,R,m',st,h0,h1,h2,J,?_,hd,.inr rfl⟩)⟩)⟩;rw[Oa,Mh (Ki _ hm)]
def Pz.bor(h:Pz b G v esz n l):Go.Sv.bor G v (.lst l n esz):=by
 rcases h with ⟨rfl,rfl,rfl⟩|⟨p,k,R,m,st,h1,h2,h3,h4,rfl,hd,⟨rfl,rfl⟩|rfl⟩
 ·exact .inr ⟨_,rfl⟩
 ·exact⟨R,_,_,_,by rw[Kf J],h2,hd⟩
 ·have:=Ki esz h4;exact⟨R,_,_,_,by rw[Mn,Mg],h2,J,hd⟩
def Pz.lenL(h:Pz b G v esz n l){K:Nat→Prop}(k:K n):Go.Sv.lenL G v K:=h.stk.lenL k
def Pz.cells(h:Pz b G v esz n l):v.cells=some [v]:=h.stk.cells
def Pz.at1(h:Pz b G v 1 n l){i:Int}(h0:0≤i)(hi:i<n){K:LV→Prop}(k:∀a,(∀K':LV→Prop,Qj l i.toNat K'→Yv G a K')→K a):Zr G 1 v i K:=by
 refine h.stk.ix h0 hi λp gg R m st h1 h2 h3 h4=>k _ λK' hk=>?_
 rw[read1_dptr,h2];obtain⟨w,hw,hk⟩:=hk;refine⟨rfl,w,?_,hk⟩;rw[Nl]at h3 ⊢;rw[h3 _ J];exact hw
def Zl:LV→Option Nat
 |.dy p _=>some p
 |.vw p _ _ _=>some p
 |_=>none
def Pz.frame2(h:Pz b G v esz n l)(hf:∀q,Zl v=some q→G'[q]?=G[q]?):Pz b G' v esz n l:=by
 rcases h with h|⟨p,k,R,m,st,h1,h2,h3,h4,h5,h6,h7⟩
 ·exact .inl h
 ·refine .inr ⟨p,k,R,m,st,h1,?_,h3,h4,h5,h6,h7⟩;rw[hf p (by rcases h7 with ⟨rfl,_⟩|rfl<;>rfl)];exact h2
def Pz.row(h:Pz b G v esz n l){q:Nat}(hq:Zl v=some q):b≤q∧q<G.length∧∃R m k st,G[q]?=some (.dyn R m esz k st):=by
 rcases h with ⟨rfl,_⟩|⟨p,k,R,m,st,h1,h2,h3,h4,h5,h6,⟨rfl,_⟩|rfl⟩
 ·cases hq
 ·cases hq;exact⟨h1,(Jx.1 h2).1,_,_,_,_,h2⟩
 ·cases hq;exact⟨h1,(Jx.1 h2).1,_,_,_,_,h2⟩
def Pz.cut2(h:Pz b G v esz n l){m:Nat}(hm:m≤n){lo:(Nat→Prop)→Prop}{hi:Nat→(Nat→Prop)→Prop}(gg:∀K':Nat→Prop,K' 0→lo K')(gA:∀(d:Nat) (K':Nat→Prop),K' m→hi d K'){K:LV→Prop}
  (k:∀v',Pz b G v' esz m (l.take (m*esz))→Zl v'=Zl v→K v'):lj G esz v lo hi K:=by
 rcases h with ⟨rfl,rfl,rfl⟩|⟨p,gB,R,m',st,h0,h1,h2,h3,rfl,hd,⟨rfl,rfl⟩|rfl⟩
 ·have:m=0:=J
  subst this;rw[slL_nil];exact gg _ (gA _ _ ⟨rfl,rfl,k _ (.inl ⟨rfl,rfl,N⟩) rfl⟩)
 ·rw[slL_dy,h1];refine⟨rfl,rfl,gg _ (gA _ _ ⟨J,hm,k _ (.inr ⟨p,gB,R,n,st,h0,h1,h2,hm,?_,hd,.inr rfl⟩) rfl⟩)⟩;rw[Oa,Mh (Ki _ hm)]
 ·rw[slL_vw,h1];refine⟨rfl,rfl,gg _ (gA _ _ ⟨J,hm,k _ (.inr ⟨p,gB,R,m',st,h0,h1,h2,J,?_,hd,.inr rfl⟩) rfl⟩)⟩;rw[Oa,Mh (Ki _ hm)]
def Pz.push2(h:Pz b G v esz n l)(hz:0<esz)(hb:b≤G.length)(hn:n≤1000000000)(hx:x.length=esz)(gg:dats x=true){K:LV→Ok→Prop}
  (k:∀(v':LV) (G':Ok),Pz b G' v' esz (n+1) (l++x)→(∀q,q<G.length→Zl v≠some q→G'[q]?=G[q]?)→G.length≤G'.length→(Zl v'=Zl v∨Zl v'=some G.length)→K v' G'):Rh G esz v 1 x K:=by
 have gB:=h.stk.length;have fresh:∀l',l'=l++x→dats l'=true→K (.dy G.length 0) (G++[.dyn l' (n+1) esz 0 0]):=by
  rintro l' rfl hd;refine k _ _ (.dy hb (st:=0) Ke (by rw[J7,gB,hx,Ku];omega) hd) (λq hq _=>J6 hq) N (.inr rfl)
 rcases h with ⟨rfl,rfl,rfl⟩|⟨p,gC,R,m,st,h0,h1,h2,h3,rfl,hd,⟨rfl,rfl⟩|rfl⟩
 ·rw[appL_nil];exact fresh _ rfl gg
 ·have hp:p<G.length:=(Jx.1 h1).1;rw[Kf J]at k;rw[appL_dy,h1];refine⟨rfl,⟨rfl,hz⟩,hn,k _ _ (.dy h0 (J1 hp) Dl (kf hd gg)) (λq _ hq=>Jy (λe=>hq (by rw[←e];rfl))) N (.inl rfl)⟩
 ·have hp:p<G.length:=(Jx.1 h1).1;have hm:=Ki esz h3;have ha:(n+1)*esz=n*esz+esz:=by rw[Ku];omega
  rw[appL_vw,h1];refine⟨rfl,⟨rfl,rfl,J⟩,hn,?_⟩;by_cases hf:(n+1)*esz≤R.length
  ·rw[J8 hf];have gA:n+1≤m:=by
    rw[h2]at hf;exact N8 hf hz
   refine⟨k _ _ (.inr ⟨p,gC,_,m,_,h0,J1 hp,?_,gA,?_,zpu hd gg,.inr rfl⟩) (λq _ hq=>Jy (λe=>hq (by rw[←e];rfl))) N (.inl rfl),fresh _ rfl (kf (zdh _ hd) gg)⟩
   ·unfold Po;simp;omega
   ·unfold Po;have e1:(R.take (n*esz)++x).length=(n+1)*esz:=by rw[J7,gB,hx,ha]
    rw[Mr e1]
  ·rw[J2 hf];have gA:n=m:=by
    rw[h2]at hf;have:¬n+1≤m:=λq=>hf (Ki _ q)
    omega
   subst gA;have ht:R.take (n*esz)=R:=Kf J;rw[ht]at k fresh;refine⟨rfl,hz,k _ _ (.dy h0 (J1 hp) Dl (kf hd gg)) (λq _ hq=>Jy (λe=>hq (by rw[←e];rfl))) N (.inl rfl),fresh _ rfl (kf hd gg)⟩
end std
end
section
section deep
variable {P : Program}
def T2.mkS{f:Nat}{args:List LV}{v0:LV}(hd:v0.dat=true)(h:Sw P (.fn f) args [] λv G=>∀(c:Cx) (a:AV),HSim c G→AR c v a→AR ⟨[],λo=>c.Fz o∨Qq c G o,c.H⟩ v0 a):T2 P f args v0:=by
 refine⟨h.1,hd,λFz H gg gB ha=>?_⟩;obtain⟨m,v1,H',q1,c1,v,G,rfl,q3,q4,q5,q6⟩:=h.2 ⟨[],Fz,H⟩ (.fn f) gg (.empty gB) rfl ha;have gA:∀o,¬Qq ⟨[],Fz,H⟩ [] o:=λo ⟨p,_,_,_,e,_⟩=>B1
 refine⟨m,v1,_,c1.H,q1,q4.nx,λo ho=>.inl (q4.le.fz o ho).1,λo ho=>⟨ho.elim (q3.fz o) (q3.lt o),?_⟩,λo ho=>q4.frame o ho (gA o),q6 c1 v1 q3 q5⟩;rcases ho with ho|ho
 ·rcases q4.fznew o ho with h|h|h
  ·exact .inl h
  ·exact absurd h (gA o)
  ·exact .inr h
 ·rcases q4.new o ho with h|h
  ·exact absurd h (gA o)
  ·exact .inr h
def yh{c:Cx}{O:Ok}(E:HSim c O){p k len st:Nat}{l r:List LV}{a:AV}(F:O[p]?=some (.dyn l len g k st))(B:bors O l r)(h:AR c (.dy p k) a):AR ⟨[],λo=>c.Fz o∨Qq c O o,c.H⟩ (.lst r len g) a:=by
 cases h with
 | @dy _ _ V X _ e Y Q _ =>
  obtain⟨Z,G,z⟩:=E.obj p _ _ _ F e;have A:=Q J;rcases z with ⟨z,C⟩|⟨o,v,H,t,I,K,z,C,R,T,L,r7,r8⟩
  ·subst C;have U:l=[]:=Kk Cr;subst U;simp only[bors]at B;subst B;rw[A,z];exact .lstNil
  ·have D:K.length=len*g:=by rw[←L.length];exact G
   have M:=W1 (i:=0) (n:=len*g) C T R J;rw[Mg,Kf J]at M;rw[A,z];have j:=bors_ok E l r K B L;refine .lst (.inr ⟨p,_,_,_,F,rfl,e,by rw[z];rfl⟩) (λr e=>(r7 r e).2) (by rw[j.length,D]) M j
def nq{c:Cx}{A:Ok}(z:HSim c A){p k len st:Nat}{l r:List LV}{v d:LV}{x:LV}{a:AV}(B:A[p]?=some (.dyn l len g k st))(C:bors A l r)(D:bor A v d)(E:bor A x x)(h:AR c (.tup [.dy p k,v,x]) a):AR ⟨[],λo=>c.Fz o∨Qq c A o,c.H⟩ (.tup [.lst r len g,d,x]) a:=by
 cases h with
 |tup h=>cases h with
  |cons e j=>cases j with
   |cons F j=>cases j with
    |cons G j =>
     cases j;exact .tup (.cons (yh z B C e) (.cons (bor_ok z v d _ D F) (.cons (bor_ok z x x _ E G) .nil)))
end deep
end
section
def Qt(b:Nat)(G:Ok)(v:LV)(esz n:Nat)(l:List LV):Prop :=
 dats l=true∧l.length=n*esz∧((v=.nilSl∧n=0∧l=[])∨∃(p k st:Nat),b≤p∧v=.dy p k∧G[p]?=some (.dyn l n esz k st))
section dys
variable {b : Nat} {G G' : Ok} {v : LV} {esz n : Nat} {l x : List LV}
def Qt.nil:Qt b G .nilSl esz 0 []:=⟨rfl,N,.inl ⟨rfl,rfl,rfl⟩⟩
def Qt.frame(h:Qt b G v esz n l)(hf:∀q,b≤q→q<G.length→G'[q]?=G[q]?):Qt b G' v esz n l:=by
 obtain⟨h1,h2,h|⟨p,k,st,a,e,c⟩⟩:=h
 ·exact⟨h1,h2,.inl h⟩
 ·exact⟨h1,h2,.inr ⟨p,k,st,a,e,by rw[hf p a (Jx.1 c).1];exact c⟩⟩
def Qt.set_lt(h:Qt b G v esz n l){q:Nat}{ob:LObj}(hq:q<b):Qt b (G.set q ob) v esz n l :=
 h.frame λr hr _=>Jy J
def Qt.push_end(h:Qt b G v esz n l){ob:List LObj}:Qt b (G++ob) v esz n l :=
 h.frame λ_ _ hr=>J6 hr
def Qt.cells(h:Qt b G v esz n l):v.cells=some [v]:=by
 obtain⟨_,_,⟨rfl,_⟩|⟨p,k,st,_,rfl,_⟩⟩:=h<;>rfl
def Qt.push{c:Nat}(h:Qt b G v esz n l)(hz:0<esz)(hb:b≤G.length)(hn:n≤1000000000)(hx:x.length=c*esz)(gg:dats x=true){K:LV→Ok→Prop}
  (k:∀(v':LV) (G':Ok),Qt b G' v' esz (n+c) (l++x)→(∀q,q<b→G'[q]?=G[q]?)→G.length≤G'.length→K v' G'):Rh G esz v c x K:=by
 obtain⟨h1,h2,h⟩:=h;have hl:(l++x).length=(n+c)*esz:=by rw[J7,h2,hx,Ku]
 rcases h with ⟨rfl,rfl,rfl⟩|⟨p,gA,st,a,rfl,e⟩
 ·rw[appL_nil];refine k _ _ ⟨by simpa using gg,hl,.inr ⟨G.length,0,0,hb,rfl,?_⟩⟩ (λq hq=>J6 J) N;rw[Ke];simp
 ·have hp:=(Jx.1 e).1;rw[appL_dy,e];exact⟨rfl,⟨rfl,hz⟩,hn,k _ _ ⟨dats_app h1 gg,hl,.inr ⟨p,gA+1,st+1,a,rfl,J1 hp⟩⟩ (λq hq=>Jy J) N⟩
def Qt.bor(h:Qt b G v esz n l):Go.Sv.bor G v (.lst l n esz):=by
 obtain⟨h1,h2,⟨rfl,rfl,rfl⟩|⟨p,k,st,a,rfl,e⟩⟩:=h
 ·exact .inr ⟨_,rfl⟩
 ·exact⟨l,n,esz,st,rfl,e,h1⟩
end dys
end
section
section dys
variable {b : Nat} {G G' : Ok} {v : LV} {esz n : Nat} {l x : List LV}
def Qt.push2{c:Nat}(h:Qt b G v esz n l)(hz:0<esz)(hb:b≤G.length)(hn:n≤1000000000)(hx:x.length=c*esz)(j:dats x=true){K:LV→Ok→Prop}
  (k:∀(v':LV) (G':Ok),Qt b G' v' esz (n+c) (l++x)→(∀q,q<G.length→(∀gA,v≠.dy q gA)→G'[q]?=G[q]?)→G.length≤G'.length→(∀q gA,v'=.dy q gA→q=G.length∨∃j',v=.dy q j')→(∀q gA,v'=.dy q gA→q<G'.length)→K v' G'):Rh G esz v c x K:=by
 obtain⟨h1,h2,h⟩:=h;have hl:(l++x).length=(n+c)*esz:=by rw[J7,h2,hx,Ku]
 rcases h with ⟨rfl,rfl,rfl⟩|⟨p,gg,st,a,rfl,e⟩
 ·rw[appL_nil];refine k _ _ ⟨Bv,hl,.inr ⟨G.length,0,0,hb,rfl,?_⟩⟩ (λq hq _=>J6 J) N (λq gA e=>by cases e;exact .inl rfl) (λq gA e=>by cases e;simp);rw[Ke];simp
 ·have hp:=(Jx.1 e).1;rw[appL_dy,e];exact⟨rfl,⟨rfl,hz⟩,hn,k _ _ ⟨dats_app h1 j,hl,.inr ⟨p,gg+1,st+1,a,rfl,J1 hp⟩⟩ (λq hq hv=>Jy (λq'=>hv gg (by rw[q']))) N (λq gA e=>by cases e;exact .inr ⟨_,rfl⟩) (λq gA e=>by cases e;simpa using hp)⟩
def Qt.keep(h:Qt b G v esz n l)(hf:∀q j,v=.dy q j→G'[q]?=G[q]?):Qt b G' v esz n l:=by
 obtain⟨h1,h2,h|⟨p,k,st,a,e,c⟩⟩:=h
 ·exact⟨h1,h2,.inl h⟩
 ·exact⟨h1,h2,.inr ⟨p,k,st,a,e,by rw[hf p k e];exact c⟩⟩
def Qt.lt(h:Qt b G v esz n l){q:Nat}(e:v=.dy q j):b≤q∧q<G.length:=by
 obtain⟨_,_,⟨h,_⟩|⟨p,k,st,a,e2,c⟩⟩:=h
 ·rw[h]at e;cases e
 ·rw[e2]at e;cases e;exact⟨a,(Jx.1 c).1⟩
end dys
end
section
def Yr:Nat→LC→LC×LC
 |0,.seq a b=>(a,b)
 |n+1,.seq a b=>(.seq a (Yr n b).1,(Yr n b).2)
 |_,s=>(s,.skip)
def ap:Nat→LC→Bool
 |0,.seq _ _=>true
 |n+1,.seq _ b=>ap n b
 |_,_=>false
section Yr
variable {P : Program} {f n : Nat} {ro : Option Nat}
def Yj{E:Ri}{Φ:Om→List Nat→Ok→Prop}:∀(k:Nat) (s:LC) {B:Om} {C:List Nat} {D:Ok},ap k s=true →
  (F:∀G:Om→List Nat→Ok→Prop,(∀(g:Om) (j:List Nat) (z:Ok),Φ g j z→G g j z)→wp P f n ro (Yr k s).1 B C D (vp G E)) →
  (H:∀(g:Om) (j:List Nat) (z:Ok),Φ g j z→W P f n (Yr k s).2 ro g j z E)→W P f n s ro B C D E:=by
 suffices K:∀(k:Nat) (s:LC) {B:Om} {C:List Nat} {D:Ok},ap k s=true→wp P f n ro (Yr k s).1 B C D (vp (λg j z=>W P f n (Yr k s).2 ro g j z E) E)→W P f n s ro B C D E from
  λk s B C D A F H=>K k s A (F _ H)
 intro k
 induction k with
 |zero =>
  intro s B C D A h;cases s with
  |seq a b =>
   refine gj ((T7 a h).post λx g j z q=>?_);cases x<;>exact q
  |_=>simp[ap]at A
 |succ k I =>
  intro s B C D A h;cases s with
  |seq a b =>
   simp only[Yr]at h;rw[wp_seq]at h;refine gj ((T7 a h).post λx g j z q=>?_);cases x with
   |normal=>exact I b A q
   |_=>exact q
  |_=>simp[ap]at A
def ni{s:LC}{G:Om}{H:Ok}{gg:Ri}{t p k len st:Nat}{l:List LV}(I:H[p]?=some (.dyn l len g k st))(K:lk G t=.dy p k)(h:W P f n s ro ((t,.lst l len g)::G) vA (H.set p (.dead (st+1))) gg):W P f n s ro G vA H gg:=by
 intro j c gA L z M O C D Q R;obtain⟨E,F,T,A,u4,U,V,u6⟩:=C.froze I;have X:Pt E ((t,.lst l len g)::G) gA:=λx=>by
  by_cases e:x=t
  ·subst e;have:=D x;rw[K]at this;simpa using V _ this
  ·have:=(D x).mono A;simpa [e] using this
 obtain⟨m,x,Y,B,Z,ρ',D',G',q1,q2,q3,q4,q5,q6⟩:=h j E gA L z M O F X (Q.mono A) (R.mono A);exact⟨m,x,Y,B,Z,ρ',D',G',U ▸ q1,q2,T.trans C F q3,q4,q5,q6⟩
def cq{s:LC}{j:List RRes}{B:Ok}(z:Oz P f=some ⟨n,s.r,j⟩)(g:s.ok=true)(A:F.length≤n)(h:W P f n s none (iq F 0) [] B (rk j vZ)):Sw P (.fn f) F B vZ :=
 zi8 z g A (h.post λx D E C k=>by
  cases x with
  |normal=>exact⟨trivial,k⟩
  |exit i=>exact k.elim
  |ret=>exact⟨trivial,k⟩)
end Yr
end
section
section dys
variable {b : Nat} {G G' : Ok} {v : LV} {esz n : Nat} {l x : List LV}
end dys
section fz
variable {P : Program} {f n : Nat} {ro : Option Nat}
end fz
end
def qx{n:Nat}(h:n<18446744073709551616):(iU (n:Int)).toNat=n:=by
 rw[vk,UInt64.ofInt,L3];omega
def val:List UInt64→Nat
 |[]=>0
 |x::l=>x.toNat+18446744073709551616*val l
def za9(n:Nat):2^(64*(n+1))=18446744073709551616*2^(64*n):=by
 rw[Nf,Nk,Mo]
def val_append:∀a b:List UInt64,val (a++b)=val a+2^(64*a.length)*val b
 |[],b=>by simp[val]
 |x::a,b=>by
  rw[K2,val,val,val_append a b,Kn,za9,Nf,Oj];omega
def val_lt:∀a:List UInt64,val a<2^(64*a.length)
 |[]=>by simp[val]
 |x::a=>by
  have g:=x.toNat_lt;have j:=val_lt a;rw[val,Kn,za9];omega
def zi2(x:UInt64):val [x]=x.toNat:=by simp[val]
def ji(a:List UInt64)(x:UInt64):val (a++[x])=val a+2^(64*a.length)*x.toNat:=by
 rw[val_append,zi2]
def val_rep0:∀n,val (List.replicate n 0)=0
 |0=>rfl
 |n+1=>by rw[Mt,val,val_rep0 n];rfl
def zas{a:List UInt64}{n:Nat}(h:n<a.length):a.take (n+1)=a.take n++[a.getD n 0]:=by
 rw[K6 h];simp[h]
def zby{a:List UInt64}{n:Nat}(h:n<a.length):val (a.take (n+1))=val (a.take n)+2^(64*n)*(a.getD n 0).toNat:=by
 rw[zas h,ji,Me,Mh J]
def W9:Nat→Nat→List UInt64
 |0,_=>[]
 |f+1,n=>if n=0 then [] else UInt64.ofNat n::W9 f (n/18446744073709551616)
def Xm(n:Nat):List UInt64:=W9 n n
def toLf_more:∀(f j n:Nat),n≤f→n≤j→W9 f n=W9 j n
 |0,0,_,_,_=>rfl
 |0,j+1,n,h,_=>by
  have:n=0:=J
  subst this;simp[W9]
 |f+1,0,n,_,h=>by
  have:n=0:=J
  subst this;simp[W9]
 |f+1,j+1,n,z,A=>by
  simp only[W9];by_cases g:n=0
  ·simp[g]
  ·rw[J2 g,J2 g,toLf_more f j (n/18446744073709551616) J J]
def toL_zero:Xm 0=[]:=rfl
def zoe{n:Nat}(h:n≠0):Xm n=UInt64.ofNat n::Xm (n/18446744073709551616):=by
 unfold Xm;cases n with
 |zero=>exact absurd rfl h
 |succ n =>
  rw[W9,J2 h,toLf_more n ((n+1)/18446744073709551616) _ J (J4 _)]
def zkb(n:Nat):val (Xm n)=n:=by
 induction n using Nat.strongRecOn with
 |_ n g =>
  by_cases h:n=0
  ·subst h;rfl
  ·rw[zoe h,val,g _ J,L3];omega
def Trm(l:List UInt64):Prop:=l=[]∨l.getLast?.getD 0≠0
def zqr{x:UInt64}{l:List UInt64}(h:Trm (x::l)):Trm l:=by
 cases l with
 |nil=>exact .inl rfl
 |cons y l =>
  rcases h with h|h
  ·cases h
  ·exact .inr (by simpa [List.getLast?_cons_cons] using h)
def val_pos_of_Trm:∀{l:List UInt64},l≠[]→Trm l→val l≠0
 |[],h,_=>absurd rfl h
 |[x],_,h=>by
  rcases h with h|h
  ·cases h
  ·simp at h;rw[zi2];intro e;exact h (Mc.1 e)
 |x::y::l,_,h=>by
  have:=val_pos_of_Trm (l:=y::l) N (zqr h);rw[val];omega
def toL_val:∀{l:List UInt64},Trm l→Xm (val l)=l
 |[],_=>rfl
 |x::l,h=>by
  have g:=val_pos_of_Trm N h;rw[zoe g];have A:=x.toNat_lt;have j:UInt64.ofNat (val (x::l))=x:=by
   apply Mc.1;rw[L3,val];omega
  have z:val (x::l)/18446744073709551616=val l:=by rw[val];omega
  rw[j,z,toL_val (zqr h)]
def eu{l:List UInt64}{x:UInt64}(h:x≠0):Trm (l++[x]):=.inr Ar
def zke{n k:Nat}(h:n<2^(64*k)):(Xm n).length≤k:=by
 induction k generalizing n with
 | zero => have : n = 0 := by simpa using h
           subst this;simp[toL_zero]
 |succ k j =>
  by_cases g:n=0
  ·subst g;simp[toL_zero]
  ·rw[zoe g,Kn];have:=j (n:=n/18446744073709551616) (by rw[za9]at h;exact Nat.div_lt_of_lt_mul h);omega
def z74(a:List UInt64):(Xm (val a)).length≤a.length:=zke (val_lt a)
def val_inj_length:∀{a b:List UInt64},a.length=b.length→val a=val b→a=b
 |[],[],_,_=>rfl
 |[],_::_,h,_=>Bu
 |_::_,[],h,_=>Bu
 |x::a,y::b,h,e=>by
  have z:=x.toNat_lt;have A:=y.toNat_lt;rw[val,val]at e;have g:x.toNat=y.toNat:=J
  have j:val a=val b:=J
  rw[Mc.1 g,val_inj_length Ar j]
def RU(l:List UInt64):LObj:=.dyn (l.map .u) l.length 1 0 0
def znp(g:Ok)(v:LV)(l:List UInt64):Prop:=(v=.nilSl∧l=[])∨∃p k st,v=.dy p k∧g[p]?=some (.dyn (l.map .u) l.length 1 k st)
def znp.sel{G:Ok}{v:LV}{l:List UInt64}(h:znp G v l):Zd G [v] [RU l]:=by
 rcases h with ⟨rfl,rfl⟩|⟨p,k,st,rfl,hg⟩
 ·simp[RU]
 ·simp[RU,hg]
def RU_ok{l:List UInt64}:∀(z:Nat) (g:LObj),[RU l][z]?=some g→∃c len j,g=.dyn c len j 0 0∧c.all LV.scal=true:=by
 intro z g e;cases z with
 |zero=>simp at e;subst e;exact⟨_,_,_,rfl,N⟩
 |succ z=>simp at e
def P4.row{P:Program}{f:Nat}{args:List LV}{l:List UInt64}(h:Sw P (.fn f) args [] λv G=>znp G v l):P4 P f args (.dy 0 0) [RU l] :=
 P4.mk rfl (h.mono λv G e=>⟨[v],N,rfl,e.sel⟩) RU_ok
def Ow(a b:UInt64):Bool→UInt64×Bool
 |false=>(a+b,decide (a+b<a))
 |true=>(a+b+1,decide (a+b<a) || decide (a+b+1=0))
def Rc(a b:UInt64):Bool→UInt64×Bool
 |false=>(a-b,decide (a<b))
 |true=>(a-b-1,decide (a<b) || decide (a-b=0))
def za5(x:UInt64):x=0↔x.toNat=0:=⟨λh=>by rw[h];rfl,λh=>Mc.1 (by rw[h];rfl)⟩
def zkl(b:Bool):b.toNat=if b=true then 1 else 0:=by cases b<;>rfl
def yi(a b:UInt64)(c:Bool):(Ow a b c).1.toNat+18446744073709551616*(Ow a b c).2.toNat=a.toNat+b.toNat+c.toNat:=by
 have g:=a.toNat_lt;have j:=b.toNat_lt;cases c with
 |false =>
  simp only[Ow,zkl,Kb,Lu,Md];split<;>simp<;>omega
 |true =>
  simp only[Ow,zkl,K8,Kb,Lu,za5,Md,UInt64.toNat_one];split<;>simp<;>omega
def il(a b:UInt64)(c:Bool):(Rc a b c).1.toNat+b.toNat+c.toNat=a.toNat+18446744073709551616*(Rc a b c).2.toNat:=by
 have j:=a.toNat_lt;have z:=b.toNat_lt;cases c with
 |false =>
  have e:(Rc a b false).2=decide (a.toNat<b.toNat):=by simp[Rc,Lu]
  rw[e];simp only[Rc,Nt];by_cases h:a.toNat<b.toNat<;>simp[h]<;>omega
 |true =>
  have e:(Rc a b true).2=decide (a.toNat≤b.toNat):=by
   simp only[Rc,Lu,za5,Nt];by_cases h:a.toNat≤b.toNat
   ·by_cases g:a.toNat<b.toNat
    ·simp[h,g]
    ·have:a.toNat=b.toNat:=J
     simp[this];omega
   ·simp[h];omega
  rw[e];simp only[Rc,Nt,UInt64.toNat_one];by_cases h:a.toNat≤b.toNat<;>simp[h]<;>omega
def flat_u(l:List UInt64):l.flatMap (λx=>[LV.u x])=l.map .u:=by
 induction l with
 |nil=>rfl
 |cons x l g=>simp[g]
def znp.bor{G:Ok}{v:LV}{l:List UInt64}(h:znp G v l):bor G v (LU l):=by
 rcases h with ⟨rfl,rfl⟩|⟨p,k,st,rfl,hg⟩
 ·exact .inr ⟨1,N⟩
 ·exact⟨_,_,_,st,rfl,hg,N⟩
def bors1{v d:LV}(h:Go.Sv.bor P v d):bors P [v] [d]:=⟨d,[],rfl,h,rfl⟩
def zwt{f:Nat}{l:List UInt64}(g:P4 C f vV (.dy 0 0) [RU l])(j:bors P F vV)(k:vZ (.dy P.length 0) (P++[RU l])):Sw C (.fn f) F P vZ :=
 zp9 g j (by simpa using k)
def z6u{a:List UInt64}{n:Nat}(h:a.length≤n):val (a.take n)=val a:=by rw[Kf h]
def zwv{a:List UInt64}{n:Nat}(h:a.length≤n):val a<2^(64*n):=Kr (val_lt a) (Ls J J)
def pow64(m:Nat):2^(64*(m+1))=2^(64*m)*18446744073709551616:=by
 rw[Nat.pow_mul,Nat.pow_mul,Mv]
def z3c(a:List UInt64)(n:Nat):val (a.take (n+1))=val (a.take n)+2^(64*n)*(a.getD n 0).toNat:=by
 by_cases h:n<a.length
 ·exact zby h
 ·rw[Kf J,Kf J];have:a.getD n 0=0:=by simp;rw[M3 J];rfl
  rw[this];simp
def val_getD:∀{a b:List UInt64},val a=val b→∀i,a.getD i 0=b.getD i 0
 |[],[],_,_=>rfl
 |[],y::b,h,i=>by
  simp only[val]at h;have j:y=0:=(za5 y).2 J;have z:val []=val b:=by simp only[val];omega
  have g:=val_getD z;cases i with
  |zero=>simp[j]
  |succ i=>simpa using g i
 |x::a,[],h,i=>by
  simp only[val]at h;have A:x=0:=(za5 x).2 J;have B:val a=val []:=by simp only[val];omega
  have g:=val_getD B;cases i with
  |zero=>simp[A]
  |succ i=>simpa using g i
 |x::a,y::b,h,i=>by
  simp only[val]at h;have C:=x.toNat_lt;have D:=y.toNat_lt;have e:x.toNat=y.toNat:=J
  have g:=val_getD (a:=a) (b:=b) J;cases i with
  |zero=>simpa using Mc.1 e
  |succ i=>simpa using g i
def opened:(∀a b,Vh a b=a+b)∧(∀a b,Zg a b=a-b)∧(∀a b,T8 a b=a*b):=⟨U2,Yo,zgb⟩
def repU(n:Nat):Qo [LV.u 0] n=(List.replicate n (0:UInt64)).map .u:=by
 induction n with
 |zero=>rfl
 |succ n g=>simp[Qo,g,Mt]
def LN(l:List (List UInt64)):LV:=.lst (l.map LU) l.length 1
attribute [simp] LN
def iz(l:List (List UInt64))(i:Nat)(g:LV→Prop):Qj (l.map LU) i g=(i<l.length∧g (LU (l.getD i []))):=zpw _ _ _ _ _
def zx5(l:List (List UInt64)):dats (l.map LU)=true:=ug (λx=>N) l
attribute [simp] iz zx5
attribute [simp ↓] iz
def Uf(a b:UInt64):UInt64:=UInt64.ofNat (a.toNat*b.toNat/18446744073709551616)
def zmb(a b:UInt64):(Uf a b).toNat*18446744073709551616+(a*b).toNat=a.toNat*b.toNat:=by
 have g:=a.toNat_lt;have j:=b.toNat_lt;have z:a.toNat*b.toNat≤18446744073709551615*18446744073709551615:=Lw J J;rw[Uf,L3,UInt64.toNat_mul];omega
def oi(x:UInt64):(x &&& 4294967295).toNat=x.toNat%4294967296:=by
 rw[UInt64.toNat_and];exact Nat.and_two_pow_sub_one_eq_mod x.toNat 32
def mul_hi(a b:UInt64) :
  Vh (Vh (T8 (Sy a 32) (Sy b 32)) (Sy (Vh (T8 (Sy a 32) (Tt b 4294967295)) (Sy (T8 (Tt a 4294967295) (Tt b 4294967295)) 32)) 32)) (Sy (Vh (T8 (Tt a 4294967295) (Sy b 32)) (Tt (Vh (T8 (Sy a 32) (Tt b 4294967295)) (Sy (T8 (Tt a 4294967295) (Tt b 4294967295)) 32)) 4294967295)) 32)=Uf a b:=by
 simp only[U2,zgb,bv,bc];apply Mc.1;have C:=a.toNat_lt;have D:=b.toNat_lt;simp only[Uf,Md,UInt64.toNat_mul,L3,oi,Nat.reducePow];generalize a.toNat=x at *;generalize b.toNat=y at *;have g:x=x/4294967296*4294967296+x%4294967296:=J
 have j:y=y/4294967296*4294967296+y%4294967296:=J
 have E:x/4294967296<4294967296:=J
 have F:x%4294967296<4294967296:=J
 have G:y/4294967296<4294967296:=J
 have H:y%4294967296<4294967296:=J
 have z:x/4294967296%18446744073709551616=x/4294967296:=J
 have A:y/4294967296%18446744073709551616=y/4294967296:=J
 rw[z,A];have B:x*y=(x/4294967296*(y/4294967296))*18446744073709551616+(x/4294967296*(y%4294967296))*4294967296+(x%4294967296*(y/4294967296))*4294967296+x%4294967296*(y%4294967296):=by
  generalize x/4294967296=p at *;generalize x%4294967296=q at *;generalize y/4294967296=r at *;generalize y%4294967296=s at *;subst g j
  grind
 rw[B];generalize x/4294967296=p at *;generalize x%4294967296=q at *;generalize y/4294967296=r at *;generalize y%4294967296=s at *;have I:p*r≤4294967295*4294967295:=Lw J J;have K:p*s≤4294967295*4294967295:=Lw J J;have L:q*r≤4294967295*4294967295:=Lw J J;have M:q*s≤4294967295*4294967295:=Lw J J;generalize p*r=O at *;generalize p*s=P at *;generalize q*r=Q at *;generalize q*s=R at *;clear g j z A E F G H C D B;omega
def val_set:∀(a:List UInt64) (i:Nat) (x:UInt64),i<a.length→val (a.set i x)+2^(64*i)*(a.getD i 0).toNat=val a+2^(64*i)*x.toNat
 |[],i,x,h=>Bu
 |y::a,0,x,_=>by simp[val];omega
 |y::a,i+1,x,h=>by
  have g:=val_set a i x Ar;rw[za9];simp only[List.set_cons_succ,val,List.getD_cons_succ,Oj];omega
def gt{a:List UInt64}{i:Nat}{x:UInt64}(h:i<a.length)(g:a.getD i 0=0):val (a.set i x)=val a+2^(64*i)*x.toNat:=by
 have:=val_set a i x h;rw[g]at this;simpa using this
def zqm(a:List UInt64)(i g:Nat)(x:UInt64)(h:i≠g):(a.set i x).getD g 0=a.getD g 0:=by simp[Jy h]
def layU(a:List UInt64)(i:Nat)(x:UInt64)(h:i<a.length):Po (a.map .u) i [.u x]=(a.set i x).map .u:=by
 unfold Po;rw[La,J8 h];simp
def Tk(a b:Nat):Int:=if a<b then -1 else if b<a then 1 else 0
def zv3{v w k x y:Nat}(C:v<k)(hw:w<k):Tk (v+k*x) (w+k*y)=if x<y then -1 else if y<x then 1 else Tk v w:=by
 have e:∀B,k*(B+1)=k*B+k:=λB=>by rw[Nf,Nl]
 by_cases g:x<y
 ·have:=Nat.mul_le_mul_left k (show x+1≤y from g);rw[e]at this;rw[J8 g,Tk,J8 J]
 ·rw[J2 g];by_cases j:y<x
  ·have:=Nat.mul_le_mul_left k (show y+1≤x from j);rw[e]at this;rw[J8 j,Tk,J2 J,J8 J]
  ·rw[J2 j];have:x=y:=J
   subst this;unfold Tk;by_cases z:v<w
   ·rw[J8 z,J8 J]
   ·rw[J2 z,J2 J];by_cases A:w<v
    ·rw[J8 A,J8 J]
    ·rw[J2 A,J2 J]
def zg6(a:List UInt64)(i:Nat):val (a.take i)<2^(64*i):=zwv Ab
def ew(a b:List UInt64)(i:Nat):Tk (val (a.take (i+1))) (val (b.take (i+1)))=if a.getD i 0<b.getD i 0 then -1 else if b.getD i 0<a.getD i 0 then 1 else Tk (val (a.take i)) (val (b.take i)):=by
 rw[z3c,z3c,zv3 (zg6 a i) (zg6 b i)];simp only[Lu]
def Uj(o x y m:UInt64):UInt64×UInt64:=((Ow (Ow o (x*y) false).1 m false).1,(Ow (Ow (Uf x y) 0 (Ow o (x*y) false).2).1 0 (Ow (Ow o (x*y) false).1 m false).2).1)
def gh(o x y m:UInt64):(Uj o x y m).1.toNat+18446744073709551616*(Uj o x y m).2.toNat=o.toNat+x.toNat*y.toNat+m.toNat:=by
 have g:=yi o (x*y) false;have j:=yi (Ow o (x*y) false).1 m false;have z:=yi (Uf x y) 0 (Ow o (x*y) false).2;have A:=yi (Ow (Uf x y) 0 (Ow o (x*y) false).2).1 0 (Ow (Ow o (x*y) false).1 m false).2;have F:=zmb x y;have G:=o.toNat_lt;have H:=m.toNat_lt;have I:=x.toNat_lt;have K:=y.toNat_lt;have L:x.toNat*y.toNat≤18446744073709551615*18446744073709551615:=Lw J J;have M:=(Ow (Uf x y) 0 (Ow o (x*y) false).2).1.toNat_lt;have O:=(Ow (Ow (Uf x y) 0 (Ow o (x*y) false).2).1 0 (Ow (Ow o (x*y) false).1 m false).2).1.toNat_lt;unfold Uj;dsimp only;generalize (Ow (Ow (Uf x y) 0 (Ow o (x*y) false).2).1 0 (Ow (Ow o (x*y) false).1 m false).2)=B at *;generalize (Ow (Uf x y) 0 (Ow o (x*y) false).2)=C at *;generalize (Ow (Ow o (x*y) false).1 m false)=D at *;generalize (Ow o (x*y) false)=E at *;have P:(0:UInt64).toNat=0:=rfl;rw[P]at z A;simp at g j;have Q:E.2.toNat≤1:=Bool.toNat_le _;have R:D.2.toNat≤1:=Bool.toNat_le _;have T:C.2.toNat≤1:=Bool.toNat_le _;have U:B.2.toNat≤1:=Bool.toNat_le _;have V:=(x*y).toNat_lt;generalize (x*y).toNat=X at *;generalize (Uf x y).toNat=hi at *;generalize x.toNat*y.toNat=p at *;omega
def mz(a b:List UInt64)(i k:Nat)(g:List UInt64)(j:UInt64):Prop :=
 g.length=a.length+b.length∧val g+2^(64*(i+k))*j.toNat=val (a.take i)*val b+2^(64*i)*((a.getD i 0).toNat*val (b.take k))∧∀z,i+b.length≤z→g.getD z 0=0
def ztp(a b:List UInt64):mz a b 0 0 (List.replicate (a.length+b.length) 0) 0:=by
 refine⟨N,by simp[val,val_rep0],λj g=>?_⟩;simp only[J0,List.getElem?_replicate];split<;>rfl
def zwf{a b:List UInt64}{i k:Nat}(hi:i<a.length)(C:k<b.length)(h:mz a b i k vF U) :
  mz a b i (k+1) (vF.set (i+k) (Uj (vF.getD (i+k) 0) (a.getD i 0) (b.getD k 0) U).1) (Uj (vF.getD (i+k) 0) (a.getD i 0) (b.getD k 0) U).2:=by
 obtain⟨j,D,z⟩:=h;have hm:=gh (vF.getD (i+k) 0) (a.getD i 0) (b.getD k 0) U;have E:=val_set vF (i+k) (Uj (vF.getD (i+k) 0) (a.getD i 0) (b.getD k 0) U).1 J;refine⟨Ay,?_,λF A=>by rw[zqm _ _ _ _ J];exact z F A⟩;rw[z3c b k,(J:i+(k+1)=(i+k)+1),pow64];generalize (Uj (vF.getD (i+k) 0) (a.getD i 0) (b.getD k 0) U).2.toNat=G at *;generalize B:(Uj (vF.getD (i+k) 0) (a.getD i 0) (b.getD k 0) U).1=g at *;generalize (vF.getD (i+k) 0).toNat=o at *;generalize (a.getD i 0).toNat=x at *;generalize (b.getD k 0).toNat=y at *;rw[(J:64*(i+k)=64*i+64*k),Nk]at *;generalize 2^(64*i)=p at *;generalize 2^(64*k)=q at *;generalize g.toNat=s at *;generalize val (a.take i)*val b=H at *;generalize val (b.take k)=I at *;generalize val (vF.set (i+k) g)=K at *;generalize val vF=L at *;generalize U.toNat=m at *
 grind
def ztf{a b:List UInt64}{i:Nat}(hi:i<a.length)(h:mz a b i b.length vF U):mz a b (i+1) 0 (vF.set (i+b.length) U) 0:=by
 obtain⟨z,g,j⟩:=h;have A:=gt (a:=vF) (i:=i+b.length) (x:=U) J (j _ (J4 _));refine⟨Al,?_,λB C=>by rw[zqm _ _ _ _ J];exact j B J⟩;rw[A,z3c a i];rw[My]at g;generalize (a.getD i 0).toNat=x at *;simp[val,Ku];rw[←Oj]at g;rw[g]
def zvv{a b:List UInt64}{i:Nat}(h:mz a b i 0 vF 0):val vF=val (a.take i)*val b:=by
 have:=h.2.1;simpa [val] using this
def ea{a b:List UInt64}(h:mz a b a.length 0 vF 0):val vF=val a*val b:=by
 have:=zvv h
 rwa [My]at this
def mR(n r:Nat):List UInt64:=if n=0 then [] else Xm r
def Ov{l:List LV}{i:Nat}{v:LV}{g:LV→Prop}(h:l[i]?=some v):Qj l i g=g v:=by simp[Qj,h]
def Wz{f:vT→LV}{l:List vT}{i:Nat}{a:vT}(h:l[i]?=some a):(l.map f)[i]?=some (f a):=by simp[h]
mutual
def bor_self{G:Ok}(v:LV)(h:v.dat=true):bor G v v:=by
 cases v with
 |agg l=>simp only[LV.dat]at h;exact⟨l,rfl,bors_self l h⟩
 |nilSl=>exact .inl rfl
 |dy p k=>simp[LV.dat]at h
 |vw p k lo len=>simp[LV.dat]at h
 |_=>exact⟨rfl,h⟩
termination_by SizeOf.sizeOf v
def bors_self{G:Ok}(l:List LV)(h:dats l=true):bors G l l:=by
 cases l with
 |nil=>rfl
 |cons v l =>
  simp only[dats,Jz]at h;exact⟨v,l,rfl,bor_self v h.1,bors_self l h.2⟩
termination_by SizeOf.sizeOf l
end
def Zp(p:vT→Bool)(l:List vT):Int:=if l.findIdx p<l.length then (l.findIdx p:Int) else -1
def ii{p:vT→Bool}{l:List vT}{i:Nat}{a:vT}(h:l[i]?=some a)(j:p a=true)(z:∀g b,g<i→l[g]?=some b→p b=false):Zp p l=i:=by
 obtain⟨hi,rfl⟩:=Jx.1 h;have:l.findIdx p=i:=(List.findIdx_eq hi).2 ⟨j,λg A=>z g _ A (J5 _)⟩;rw[Zp,this,J8 hi]
def zpj{p:vT→Bool}{l:List vT}{i:Nat}(hi:l.length≤i)(j:∀g b,g<i→l[g]?=some b→p b=false):Zp p l=-1:=by
 have:l.findIdx p=l.length:=List.findIdx_eq_length.2 λa z=>by
  obtain⟨g,A,rfl⟩:=L5.1 z;exact j g _ J (J5 _)
 rw[Zp,this,J2 J]
def zvc(p:vT→Bool)(l:List vT):decide (0≤Zp p l)=l.any p:=by
 unfold Zp;by_cases h:l.findIdx p<l.length
 ·rw[J8 h,Ll J];exact (K5.2 ⟨_,Na h,List.findIdx_getElem⟩).symm
 ·rw[J2 h,Nh J];have g:=List.findIdx_eq_length.1 (Ec:l.findIdx p=l.length);exact (Np.2 λx j=>by simp[g x j]).symm
def zov(l:List Int)(j:Nat)(x:Int)(h:j<l.length):Po (l.map .i) j [.i x]=(l.set j x).map .i:=by
 unfold Po;rw[La,J8 h];simp[List.map_take,List.map_drop]
def gd(l:List Int)(u:Nat):Int:=l.getD u 0
def zw4(l:List Int)(g u:Nat)(x:Int)(h:g<l.length):gd (l.set g x) u=if u=g then x else gd l u:=by
 simp only[gd,J0,Og];by_cases e:g=u
 ·subst e;simp[h]
 ·simp[e,Ne.symm e]
def zq1{l:List Int}{x:Int}:x∈l↔∃u,u<l.length∧gd l u=x:=by
 rw[L5];constructor
 ·rintro⟨u,hu,e⟩;exact⟨u,hu,by simp[gd,J0,hu,e]⟩
 ·rintro⟨u,hu,e⟩;exact⟨u,hu,by simpa [gd,J0,hu] using e⟩
def Ys{l:List Int}{u:Nat}(h:u<l.length):l[u]?=some (gd l u):=by simp[gd,J0,h]
def tb(l:List Int)(i:Nat):Prop:=∀u v,u<v→v<i→gd l u≤gd l v
def fa(l:List Int)(i g:Nat):Prop:=∀u v,u<v→v≤i→v≠g→gd l u≤gd l v
def yw(l:List Int)(g:Nat):List Int:=(l.set g (gd l (g-1))).set (g-1) (gd l g)
def ziq(l:List Int)(g:Nat):(yw l g).length=l.length:=by simp[yw]
def za3{l:List Int}{u:Nat}(j:0<g)(h:g<l.length):gd (yw l g) u=if u=g then gd l (g-1) else if u=g-1 then gd l g else gd l u:=by
 unfold yw;rw[zw4 _ _ _ _ Ab,zw4 _ _ _ _ h];by_cases e:u=g
 ·subst e;rw[J2 J];simp
 ·simp[e]
def oh{l:List Int}(j:0<g)(h:g<l.length){x:Int}:x∈yw l g↔x∈l:=by
 rw[zq1,zq1,ziq];constructor
 ·rintro⟨u,hu,e⟩;rw[za3 j h]at e;split at e
  ·exact⟨_,J,e⟩
  ·split at e
   ·exact⟨_,h,e⟩
   ·exact⟨_,hu,e⟩
 ·rintro⟨u,hu,e⟩;by_cases z:u=g
  ·exact⟨g-1,J,by rw[za3 j h,J2 J,J8 rfl,←z,e]⟩
  ·by_cases A:u=g-1
   ·exact⟨g,h,by rw[za3 j h,J8 rfl,←A,e]⟩
   ·exact⟨u,hu,by rw[za3 j h,J2 z,J2 A,e]⟩
def qy{l:List Int}{i:Nat}(E:0<g)(H:g≤i)(hi:i<l.length)(A:fa l i g)(G:gd l g<gd l (g-1)):fa (yw l g) i (g-1):=by
 intro u v B C D;rw[za3 E J,za3 E J];by_cases j:v=g
 ·rw[J8 j];by_cases z:u=g-1
  ·rw[J2 J,J8 z];omega
  ·rw[J2 J,J2 z];exact A u (g-1) J J J
 ·rw[J2 j,J2 D];by_cases F:u=g
  ·rw[J8 F];exact A (g-1) v J C j
  ·rw[J2 F];by_cases z:u=g-1
   ·rw[J8 z];exact A g v J C j
   ·rw[J2 z];exact A u v B C j
def et{l:List Int}{i:Nat}(A:g≤i)(z:fa l i g)(h:g=0∨gd l (g-1)≤gd l g):tb l (i+1):=by
 intro u v j B;by_cases e:v=g
 ·subst e;rcases h with h|h
  ·omega
  ·by_cases e:u=v-1
   ·rw[e];exact h
   ·exact N7 (z u (v-1) J J J) h
 ·exact z u v j J e
def ztu{l:List Int}{i:Nat}(h:tb l i):fa l i i:=λu v g z j=>h u v g J
def strict(l:List Int)(m:Nat):Prop:=∀u v,u<v→v<m→gd l u<gd l v
structure Cmp (l0 l:List Int) (m d:Nat):Prop where
 len:l.length=l0.length
 m1:1≤m
 md:m≤d
 st:strict l m
 mem:∀x,(∃u,u<m∧gd l u=x)↔∃u,u<d∧gd l0 u=x
 last:gd l (m-1)=gd l0 (d-1)
 rest:∀u,d-1≤u→gd l u=gd l0 u∨u<m
def rise_eq:∀{a b:List Int},a.Pairwise (· < ·)→b.Pairwise (· < ·)→(∀x,x∈a↔x∈b)→a=b
 |[],[],_,_,_=>rfl
 |[],y::b,_,_,h=>by have:=(h y).2 (Kx ..);simp at this
 |x::a,[],_,_,h=>by have:=(h x).1 (Kx ..);simp at this
 |x::a,y::b,z,A,h=>by
  rw[Nj]at z A;have B:x=y:=by
   have C:=(h x).1 (Kx ..);have g:=(h y).2 (Kx ..);rcases J9.1 C with e|C
   ·exact e
   ·rcases J9.1 g with e|g
    ·exact e.symm
    ·have:=A.1 x C;have:=z.1 y g;omega
  subst B;rw[rise_eq z.2 A.2 λD=>?_];constructor
  ·intro j;rcases J9.1 ((h D).1 (Kl _ j)) with e|g
   ·have:=z.1 D j;omega
   ·exact g
  ·intro j;rcases J9.1 ((h D).2 (Kl _ j)) with e|g
   ·have:=A.1 D j;omega
   ·exact g
def fc{a r:List LV}{m:Nat}(h:m≤a.length):(Po a m r).take m=a.take m:=by
 unfold Po;rw[Kz,Nw (by rw[Me];omega),Oa,Nat.min_self]
def zsx{a r:List LV}{m:Nat}(h:m+r.length=a.length):(Po a m r).length=a.length:=by
 unfold Po;simp;omega
def zql{v:LV}(h:v.dat=true):∀n,dats (Qo [v] n)=true
 |0=>rfl
 |n+1=>by simp[Qo,dats,h,zql h n]
def zph{j:Type}{f:j→List LV}{k:Nat}(g:∀a,(f a).length=k):∀l:List j,(l.flatMap f).length=l.length*k
 |[]=>N
 |a::l=>by rw[Nn,J7,zph g l,g,Kn,Ku];omega
def zva{j:Type}{f:j→List LV}{k:Nat}(g:∀a,(f a).length=k):∀(l:List j) (i:Nat),(l.flatMap f).drop (i*k)=(l.drop i).flatMap f
 |_,0=>N
 |[],i+1=>N
 |a::l,i+1=>by
  rw[Nn,List.drop_append,g,show (i+1)*k-k=i*k by rw[Ku];omega,zva g l i];rw[Lv (by rw[g,Ku];omega)];rfl
def zbj{f:vT→List LV}{k:Nat}(g:∀a,(f a).length=k){l:List vT}{i:Nat}{a:vT}(h:l[i]?=some a):((l.flatMap f).drop (i*k)).take k=f a:=by
 rw[zva g];obtain⟨hi,rfl⟩:=Jx.1 h;rw[Lh hi,Nn,Nw (by rw[g];exact J4 _),Kf (by rw[g];exact J4 _)]
def zr{f:vT→List LV}{k:Nat}(g:∀a,(f a).length=k){l:List vT}{i:Nat}{a:vT}(h:l[i]?=some a){j:Nat}(z:j<k):(l.flatMap f)[i*k+j]?=(f a)[j]?:=by
 rw[←Oc,←zbj g h,Lz z]
def uv{j:Type}{f:j→List LV}(g:∀a,dats (f a)=true):∀l:List j,dats (l.flatMap f)=true
 |[]=>rfl
 |a::l=>by rw[Nn];exact dats_app (g a) (uv g l)
def zsh{f:vT→List LV}{k:Nat}(g:∀a,(f a).length=k){l:List vT}{i:Nat}(h:i<l.length):i*k+k≤(l.flatMap f).length:=by
 rw[zph g,←N1];exact Ki _ h
structure Vr where
 limbs:Int
 sec:Bool
 mode:Int
structure Ko where
 kind:Int
 d:Int
 e:Int
 a:Int
 b:Int
 c:Int
 imm:UInt64
def Vr.f(v:Vr):List LV:=[.i v.limbs,.bool v.sec,.i v.mode]
def Ko.f(o:Ko):List LV:=[.i o.kind,.i o.d,.i o.e,.i o.a,.i o.b,.i o.c,.u o.imm]
def Qx(l:List Vr):List LV:=l.flatMap Vr.f
def Rm(l:List Ko):List LV:=l.flatMap Ko.f
def Vr.f_len(v:Vr):v.f.length=3:=rfl
def Ko.f_len(o:Ko):o.f.length=7:=rfl
def sh(l:List Ko):(Rm l).length=l.length*7:=zph Ko.f_len l
def Tb(l:List Vr):dats (Qx l)=true:=uv (λ_=>rfl) l
def za1(l:List Ko):dats (Rm l)=true:=uv (λ_=>rfl) l
def zcp{l:List Vr}{i:Nat}{v:Vr}(h:l[i]?=some v):((Qx l).drop (i*3)).take 3=v.f:=zbj Vr.f_len h
def zqz{l:List Ko}{i:Nat}{v:Ko}(h:l[i]?=some v):((Rm l).drop (i*7)).take 7=v.f:=zbj Ko.f_len h
def zqp{l:List Vr}{i:Nat}{v:Vr}(h:l[i]?=some v):(Qx l)[i*3]?=some (.i v.limbs):=by have:=zr Vr.f_len h (j:=0) J;simpa [Qx,Vr.f] using this
def zq2{l:List Vr}{i:Nat}{v:Vr}(h:l[i]?=some v):(Qx l)[i*3+1]?=some (.bool v.sec):=by have:=zr Vr.f_len h (j:=1) J;simpa [Qx,Vr.f] using this
def vs_at2{l:List Vr}{i:Nat}{v:Vr}(h:l[i]?=some v):(Qx l)[i*3+2]?=some (.i v.mode):=by have:=zr Vr.f_len h (j:=2) J;simpa [Qx,Vr.f] using this
def zoa{l:List Vr}{i:Nat}(h:i<l.length):i*3+3≤(Qx l).length:=zsh Vr.f_len h
def ve{l:List Ko}{i:Nat}(h:i<l.length):i*7+7≤(Rm l).length:=zsh Ko.f_len h
def gv(l:List Vr)(n:Nat):Vr:=l.getD n ⟨0,false,0⟩
def go(l:List Ko)(n:Nat):Ko:=l.getD n ⟨0,0,0,0,0,0,0⟩
def gb(l:List Bool)(n:Nat):Bool:=l.getD n false
def Wm{l:List Vr}{n:Nat}(h:n<l.length):l[n]?=some (gv l n):=by simp[gv,J0,h]
def zxf{l:List Ko}{n:Nat}(h:n<l.length):l[n]?=some (go l n):=by simp[go,J0,h]
def wi{l:List Bool}{n:Nat}(h:n<l.length):l[n]?=some (gb l n):=by simp[gb,J0,h]
def znt{l:List Vr}{n:Nat}(h:n<l.length):l.drop n=gv l n::l.drop (n+1):=by
 rw[Lh h];congr 1;have:=Wm h;rw[J5 h]at this;exact Option.some.inj this
def ox{l:List Ko}{n:Nat}(h:n<l.length):l.drop n=go l n::l.drop (n+1):=by
 rw[Lh h];congr 1;have:=zxf h;rw[J5 h]at this;exact Option.some.inj this
def Ti(v:Vr):Bool:=decide (v.mode=1) || decide (v.mode=2)
def Zo(v:Vr):Bool:=decide (v.limbs<1) || (decide (512<v.limbs) || (decide (v.mode<0) || decide (3<v.mode)))
def V6:Nat→Nat→List Vr→Option Nat
 |_,p,[]=>some p
 |i,p,v::l=>if Zo v=true then none else if v.mode=0 then V6 (i+1) p l else if p<i∨v.sec=decide (v.mode=1) then none else V6 (i+1) (p+1) l
def To(l:List Vr):Bool:=match V6 0 0 l with
 |none=>false
 |some p=>decide (1≤l.length)&&(decide (l.length≤256)&&decide (p≤12))
def Yc(n:Nat)(v:Int):Bool:=decide (0≤v)&&decide (v<n)
def Xi(n:Nat)(o:Ko):Bool :=
 decide (o.d=-1)&&(decide (o.e=-1)&&(decide (o.c=-1)&&(Yc n o.a&&(if o.imm=2 then Yc n o.b else (decide (o.imm=1) || decide (o.imm=3))&&decide (o.b=-1)))))
def R5(k:Int):Option Nat :=
 if k=1 then some 1 else if k=2 then some 5 else if k=3∨k=4∨k=5∨k=6∨k=7 then some 13 else if k=8∨k=10∨k=11∨k=12∨k=13 then some 29 else if k=9 then some 21 else if k=14 then some 19 else if k=15∨k=16 then some 0 else none
def Um(o:Ko):Bool:=if o.kind=1 then true else if o.kind=13 then decide (1≤o.imm)&&decide (o.imm≤6) else if o.kind=15 then decide (1≤o.imm)&&decide (o.imm≤4096) else decide (o.imm=0)
def Ub(n s i:Nat)(v:Int):Bool:=if s.testBit i=true then Yc n v else decide (v=-1)
def Vt(n s:Nat)(o:Ko):Bool:=Ub n s 0 o.d&&(Ub n s 1 o.e&&(Ub n s 2 o.a&&(Ub n s 3 o.b&&Ub n s 4 o.c)))
def U1(o:Ko):List Int:=[o.a,o.b,o.c].filter (λv=>!decide (v<0))++if o.kind=14 then [o.d,o.e] else []
def S4(g:List Vr)(o:Ko):Bool:=(U1 o).any λv=>(gv g v.toNat).sec
def Wu(j:List Vr)(g:Bool)(v:Int):Bool:=decide (v<0) || !(Ti (gv j v.toNat) || (g && !(gv j v.toNat).sec))
def Ta(o:Ko):List Int :=
 if o.kind=6 then [o.a,o.b] else if o.kind=14 then [o.d,o.e] else if o.kind=8 then [o.d,o.a,o.b] else if o.kind=9 then [o.d,o.c] else if o.kind=10∨o.kind=11∨o.kind=12 then [o.d,o.a,o.b,o.c] else if o.kind=13 then [o.d,o.a,o.c] else []
def Te(vs:List Vr)(v:Int):Int:=(gv vs v.toNat).limbs
def qh(g:List Vr)(o:Ko):Bool:=(Ta o).all λv=>decide (Te g v=Te g ((Ta o).headD 0))
def Rg(g:List Vr)(o:Ko):Bool :=
 if o.kind=17 then Xi g.length o else match R5 o.kind with
 |none=>false
 |some s=>Um o&&(Vt g.length s o&&(Wu g (S4 g o) o.d&&(Wu g (S4 g o) o.e&&((decide (o.e<0) || !decide (o.d=o.e))&&qh g o))))
def dl(k:Int):Int:=if k=15 then 1 else if k=16 then -1 else 0
def Xq(m:List Bool)(o:Ko):List Bool:=if 0≤o.d then m.set o.d.toNat true else m
def uw(m:List Bool)(o:Ko):Bool:=(U1 o).all λv=>gb m v.toNat
def Vf(j:List Vr):List Bool→Int→List Ko→Option (List Bool×Int)
 |m,g,[]=>some (m,g)
 |m,g,o::l=>if (Rg j o&&(uw m o&&(decide (0≤g+dl o.kind)&&decide (g+dl o.kind≤4))))=true then Vf j (Xq m o) (g+dl o.kind) l else none
def Vc(g:List Vr)(v:Int):Bool:=decide (0≤v)&&decide ((gv g v.toNat).mode=3)
def T6(g:List Vr)(o:Ko):Bool:=decide (o.kind=17)&&(Xi g.length o&&(!Vc g o.a && !Vc g o.b))
def lb(g:List Vr)(m:List Bool):Bool:=(List.range g.length).all λi=>!decide ((gv g i).mode=3) || gb m i
def Y4(g:List Vr):List Bool:=g.map Ti
def Tu(g:List Vr)(j z:List Ko):Bool :=
 To g&&(decide (j.length≤4096)&&(decide (z.length≤4096)&&(z.all (T6 g)&&(match Vf g (Y4 g) 0 j with
  |none=>false
  |some (m,A)=>lb g m&&decide (A=0)))))
def U4(g:List Vr)(j z:List Ko):Int:=if Tu g j z=true then 0 else 2
def zko{p:Int→Bool}{l:List Int}{j:Nat}(h:j<l.length):(l.take (j+1)).filter (λv=>!p v)=(l.take j).filter (λv=>!p v)++if p (gd l j)=true then [] else [gd l j]:=by
 have e:l[j]=gd l j:=by simp[gd,J0,h]
 rw[K6 h,List.filter_append,e]
 congr 1
 cases g:p (gd l j)<;>simp[g]
def zuc(p:Int→Bool)(l:List Int):(Zp p l=-1∧l.filter (λv=>!p v)=l)∨∃i:Nat,Zp p l=i∧i<l.length∧(l.take (i+1)).filter (λv=>!p v)=l.take i:=by
 unfold Zp;by_cases h:l.findIdx p<l.length
 ·rw[J8 h];refine .inr ⟨_,rfl,h,?_⟩;have j:p l[l.findIdx p]=true:=List.findIdx_getElem;have e:l[l.findIdx p]=gd l (l.findIdx p):=by simp[gd,J0,h]
  rw[zko h,←e,J8 j,Lf,List.filter_eq_self];intro a g;obtain⟨B,z,rfl⟩:=L5.1 g;rw[List.getElem_take];rw[Me]at z;have:=List.not_of_lt_findIdx (p:=p) (xs:=l) (i:=B) J;simpa using this
 ·rw[J2 h];refine .inl ⟨rfl,?_⟩;rw[List.filter_eq_self];intro a g;have A:=List.findIdx_eq_length.1 (Ec:l.findIdx p=l.length);simp[A a g]
def znz{c:List Int}{i j:Nat}{x:Int}(h:i<c.length)(g:i<j)(u:Nat)(hu:j≤u):gd (c.set i x) u=gd c u:=by
 rw[zw4 _ _ _ _ h,J2 J]
def zj8{c:List Int}{i:Nat}{x:Int}(h:i<c.length):(c.set i x).take (i+1)=c.take i++[x]:=by
 rw[K6 Ar,List.getElem_set_self,List.take_set_of_le (J4 _)]
def z4k{n:Nat}{v:Int}:Yc n v=true↔0≤v∧v<n:=by simp[Yc]
def z7h{n s i:Nat}{v:Int}(h:Ub n s i v=true):v=-1∨(0≤v∧v<n):=by
 unfold Ub at h;split at h
 ·exact .inr (z4k.1 h)
 ·exact .inl (M4 h)
def Un{n s i:Nat}{v:Int}(h:Ub n s i v=true)(g:s.testBit i=true):0≤v∧v<n:=by
 rw[Ub,J8 g]at h;exact z4k.1 h
def zm6{n s i:Nat}{v:Int}(h:Ub n s i v=true)(g:s.testBit i=false):v=-1:=by
 rw[Ub,J2 A1]at h;exact M4 h
def zh0{k:Int}{s:Nat}(h:R5 k=some s):(k=1∧s=1)∨(k=2∧s=5)∨((k=3∨k=4∨k=5∨k=6∨k=7)∧s=13)∨((k=8∨k=10∨k=11∨k=12∨k=13)∧s=29)∨(k=9∧s=21)∨(k=14∧s=19)∨((k=15∨k=16)∧s=0):=by
 unfold R5 at h
 repeat' split at h
 all_goals first|(cases h;done)|(cases h;simp_all)
structure PartsIn (n:Nat) (o:Ko):Prop where
 d:o.d=-1∨(0≤o.d∧o.d<n)
 e:o.e=-1∨(0≤o.e∧o.e<n)
 takes:∀v∈U1 o,0≤v∧v<n
 alike:∀v∈Ta o,0≤v∧v<n
 swap:o.kind=14→o.a=-1∧o.b=-1
def zr1{n s:Nat}{o:Ko}(F:R5 o.kind=some s)(h:Vt n s o=true):PartsIn n o:=by
 simp only[Vt,Jz]at h;obtain⟨hd,he,B,C,D⟩:=h;have A:∀v∈[o.a,o.b,o.c].filter (λv=>!decide (v<0)),0≤v∧v<n:=by
  intro v g;obtain⟨z,G⟩:=List.mem_filter.1 g;simp at G;simp only[J9,Lp,Nd]at z;rcases z with rfl|rfl|rfl
  ·rcases z7h B with e|e<;>omega
  ·rcases z7h C with e|e<;>omega
  ·rcases z7h D with e|e<;>omega
 have H:=zh0 F;refine⟨z7h hd,z7h he,λv g=>?_,λv g=>?_,λE=>?_⟩
 ·rcases Ks.1 g with z|z
  ·exact A v z
  ·split at z
   ·rename_i E;have j:s=19:=J
    subst j;simp only[J9,Lp,Nd]at z;rcases z with rfl|rfl
    ·exact Un hd Ac
    ·exact Un he Ac
   ·cases z
 ·unfold Ta at g;split at g
  ·have j:s=13:=J
   subst j;simp only[J9,Lp,Nd]at g;rcases g with rfl|rfl
   ·exact Un B Ac
   ·exact Un C Ac
  split at g
  ·have j:s=19:=J
   subst j;simp only[J9,Lp,Nd]at g;rcases g with rfl|rfl
   ·exact Un hd Ac
   ·exact Un he Ac
  split at g
  ·have j:s=29:=J
   subst j;simp only[J9,Lp,Nd]at g;rcases g with rfl|rfl|rfl
   ·exact Un hd Ac
   ·exact Un B Ac
   ·exact Un C Ac
  split at g
  ·have j:s=21:=J
   subst j;simp only[J9,Lp,Nd]at g;rcases g with rfl|rfl
   ·exact Un hd Ac
   ·exact Un D Ac
  split at g
  ·have j:s=29:=J
   subst j;simp only[J9,Lp,Nd]at g;rcases g with rfl|rfl|rfl|rfl
   ·exact Un hd Ac
   ·exact Un B Ac
   ·exact Un C Ac
   ·exact Un D Ac
  split at g
  ·have j:s=29:=J
   subst j;simp only[J9,Lp,Nd]at g;rcases g with rfl|rfl|rfl
   ·exact Un hd Ac
   ·exact Un B Ac
   ·exact Un D Ac
  ·cases g
 ·have j:s=19:=J
  subst j;exact⟨zm6 B Ac,zm6 C Ac⟩
def ztd{n:Nat}{o:Ko}(D:o.kind=17)(h:Xi n o=true):PartsIn n o:=by
 simp only[Xi,Jz,Kb]at h;obtain⟨hd,he,E,z,j⟩:=h;have z:=z4k.1 z;have j:o.b=-1∨(0≤o.b∧o.b<n):=by
  split at j
  ·exact .inr (z4k.1 j)
  ·simp only[Jz,Kb]at j;exact .inl j.2
 refine⟨.inl hd,.inl he,λv g=>?_,λv g=>?_,λB=>J⟩
 ·unfold U1 at g;rw[J2 J,Lf]at g;obtain⟨A,C⟩:=List.mem_filter.1 g;simp at C;simp only[J9,Lp,Nd]at A;rcases A with rfl|rfl|rfl
  ·omega
  ·rcases j with e|e<;>omega
  ·omega
 ·unfold Ta at g;rw[J2 J,J2 J,J2 J,J2 J,J2 J,J2 J]at g;cases g
def fx{g:List Vr}{o:Ko}(h:Rg g o=true):PartsIn g.length o:=by
 unfold Rg at h;split at h
 ·rename_i j;exact ztd j h
 ·split at h
  ·cases h
  ·rename_i s z;simp only[Jz]at h;exact zr1 z h.2.1
def Xs(o:Ko):List Int:=[o.d,o.e,o.a,o.b,o.c]
def zrt{n s:Nat}{o:Ko}(h:∀g<5,Ub n s g (gd (Xs o) g)=true):Vt n s o=true:=by
 simp only[Vt,Jz];exact⟨h 0 J,h 1 J,h 2 J,h 3 J,h 4 J⟩
def zul{n s:Nat}{o:Ko}(z:g<5)(h:Ub n s g (gd (Xs o) g)=false):Vt n s o=false:=by
 cases j:Vt n s o with
 |false=>rfl
 |true =>
  simp only[Vt,Jz]at j;have:g=0∨g=1∨g=2∨g=3∨g=4:=J
  rcases this with rfl|rfl|rfl|rfl|rfl
  ·exact absurd j.1 (by rw[show o.d=gd (Xs o) 0 from rfl,h];simp)
  ·exact absurd j.2.1 (by rw[show o.e=gd (Xs o) 1 from rfl,h];simp)
  ·exact absurd j.2.2.1 (by rw[show o.a=gd (Xs o) 2 from rfl,h];simp)
  ·exact absurd j.2.2.2.1 (by rw[show o.b=gd (Xs o) 3 from rfl,h];simp)
  ·exact absurd j.2.2.2.2 (by rw[show o.c=gd (Xs o) 4 from rfl,h];simp)
def zu9{k:Int}{s:Nat}(h:R5 k=some s):s<32:=by rcases zh0 h with h|h|h|h|h|h|h<;>omega
def ie(s i:Nat):((s:Int)/2^i%2=1)↔s.testBit i=true:=by
 rw[Nat.testBit_eq_decide_div_mod_eq,Kb];constructor
 ·intro h;have:((s/2^i%2:Nat):Int)=1:=by push_cast;exact h
  omega
 ·intro h;have:((s/2^i%2:Nat):Int)=1:=J
  push_cast at this;exact this
variable{vE:List Vr}
section
inductive Fr (α:Type) where
 |nil
 |op (o:α) (r:Fr α)
 |loop (o:α) (b:Fr α) (e:α) (r:Fr α)
section tree
variable {α : Type}
def Fr.flat:Fr α→List α
 |.nil=>[]
 |.op o r=>o::r.flat
 |.loop o b e r=>o::(b.flat++e::r.flat)
def Fr.size:Fr α→Nat
 |.nil=>0
 |.op _ r=>r.size+1
 |.loop _ b _ r=>b.size+r.size+2
def Fr.flat_len:∀f:Fr α,f.flat.length=f.size
 |.nil=>rfl
 |.op _ r=>by simp[flat,size,flat_len r]
 |.loop _ b _ r=>by simp[flat,size,flat_len b,flat_len r];omega
def Fr.wf(kd:α→Nat):Fr α→Prop
 |.nil=>True
 |.op o r=>kd o=0∧r.wf kd
 |.loop o b e r=>kd o=1∧kd e=2∧b.wf kd∧r.wf kd
def Wq(g:α→Nat):Nat→List α→Prop
 |d,[]=>d=0
 |d,o::l=>if g o=1 then Wq g (d+1) l else if g o=2 then 0<d∧Wq g (d-1) l else g o=0∧Wq g d l
def Fr.ends:Nat→Fr α→List Int
 |_,.nil=>[]
 |i,.op _ r=>-1::r.ends (i+1)
 |i,.loop _ b _ r=>((i+b.size+1:Nat):Int)::(b.ends (i+1)++(i:Int)::r.ends (i+b.size+2))
def Fr.ends_len:∀(f:Fr α) (i:Nat),(f.ends i).length=f.size
 |.nil,_=>rfl
 |.op _ r,i=>by simp[ends,size,ends_len r]
 |.loop _ b _ r,i=>by simp[ends,size,ends_len b,ends_len r];omega
end tree
def kdK(o:Ko):Nat:=if o.kind=15 then 1 else if o.kind=16 then 2 else 0
end
abbrev Sp:=Int×Int
def Fr.tops{α:Type}:Nat→Fr α→List Sp
 |_,.nil=>[]
 |i,.op _ r=>r.tops (i+1)
 |i,.loop _ b _ r=>((i:Int),((i+b.size+1:Nat):Int))::r.tops (i+b.size+2)
def gs(l:List Sp)(n:Nat):Sp:=l.getD n (0,0)
structure Left (os:List Ko) (es:List Int) (T0:List Sp) (i:Nat) (r:Fr Ko) (T:List Sp):Prop where
 os:os.drop i=r.flat
 es:es.drop i=r.ends i
 wf:r.wf kdK
 tops:T0=T++r.tops i
def X9(k d:Int):Ko:=⟨k,d,-1,-1,-1,-1,0⟩
def Vp:Nat→List Vr→List Ko
 |_,[]=>[]
 |i,v::l=>if Ti v=true then Vp (i+1) l else X9 1 i::Vp (i+1) l
def startOs_len:∀(l:List Vr) (i:Nat),(Vp i l).length≤l.length
 |[],_=>by simp[Vp]
 |v::l,i=>by
  have:=startOs_len l (i+1);unfold Vp;split<;>simp<;>omega
def tp(k:Int):Bool:=decide (k=15) || decide (k=16)
def Ul(g:List Vr)(o:Ko):Bool:=!tp o.kind&&Tu g (Vp 0 g++[o]) []
def zua(A:List Vr):∀(B g:List Ko) (m j:List Bool) (d z:Int),Vf A m d B=some (j,z)→Vf A m d (B++g)=Vf A j z g
 |[],g,m,j,d,z,h=>Cb
 |o::B,g,m,j,d,z,h=>by
  unfold Vf at h;split at h
  ·rename_i C;rw[K2,Vf,J8 C];exact zua A B g _ j _ z h
  ·cases h
def ztx{i:Nat}(h:i<vE.length)(g:Ti (gv vE i)=false):Rg vE (X9 1 i)=true:=by
 have e:Yc vE.length (i:Int)=true:=z4k.2 ⟨J,J⟩;have j:Nat.testBit 1 1=false:=Ac
 have z:Nat.testBit 1 2=false:=Ac
 have A:Nat.testBit 1 3=false:=Ac
 have B:Nat.testBit 1 4=false:=Ac
 simp[Rg,X9,R5,Um,Vt,Ub,e,Wu,g,S4,U1,qh,Ta,j,z,A,B]
def zwh(m:List Bool)(i g:Nat)(hi:i<m.length):gb (m.set i true) g=if g=i then true else gb m g:=by
 unfold gb;rw[J0,J0,Og];by_cases h:i=g
 ·subst h;simp[hi]
 ·rw[J2 h,J2 (λq=>h q.symm)]
def zci{g:List Vr}:∀(l:List Vr) (i:Nat) (m:List Bool),g.drop i=l→m.length=g.length→(∀j,j<i→gb m j=true)→(∀j,i≤j→j<g.length→gb m j=Ti (gv g j)) →
  ∃A,Vf g m 0 (Vp i l)=some (A,0)∧A.length=g.length∧∀j,j<g.length→gb A j=true
 |[],i,m,hd,C,D,E=>by
  have:g.length≤i:=Fh
  exact⟨m,rfl,C,λj F=>D j J⟩
 |v::l,i,m,hd,C,D,E=>by
  have hi:i<g.length:=Fh
  have I:=znt hi;rw[hd]at I;obtain⟨rfl,rfl⟩:=List.cons.inj I;unfold Vp;by_cases G:Ti (gv g i)=true
  ·rw[J8 G];refine zci _ (i+1) m rfl C (λj F=>?_) (λj F z=>E j J z);by_cases e:j=i
   ·subst e;rw[E j (J4 _) hi,G]
   ·exact D j J
  ·rw[J2 G];have H:Ti (gv g i)=false:=Cr
   have B:=ztx hi H;have K:uw m (X9 1 i)=true:=by simp[uw,U1,X9]
   obtain⟨A,L,M⟩:=zci (g.drop (i+1)) (i+1) (m.set i true) rfl Gc (λj F=>by
    rw[zwh _ _ _ J];split
    ·rfl
    ·exact D j J) (λj F z=>by rw[zwh _ _ _ J,J2 J];exact E j J z)
   refine⟨A,?_,M⟩;rw[Vf,J8 (by rw[B,K];simp[dl,X9])];have O:Xq m (X9 1 i)=m.set i true:=by simp[Xq,X9]
   rw[O];simpa [dl,X9] using L
def zh6(h:To vE=true):1≤vE.length∧vE.length≤256:=by
 unfold To at h;split at h
 ·cases h
 ·simp only[Jz,Kb]at h;omega
def vgo_limbs:∀(l:List Vr) (i p r:Nat),V6 i p l=some r→∀v∈l,1≤v.limbs∧v.limbs≤512∧0≤v.mode∧v.mode≤3
 |[],_,_,_,_,v,g=>Fi
 |w::l,i,p,r,h,v,g=>by
  unfold V6 at h;split at h
  ·cases h
  ·rename_i A;have hw:1≤w.limbs∧w.limbs≤512∧0≤w.mode∧w.mode≤3:=by
    simp[Zo]at A;omega
   have j:∀z,V6 (i+1) z l=some r→1≤v.limbs∧v.limbs≤512∧0≤v.mode∧v.mode≤3:=λz B=>by
    rcases J9.1 g with rfl|g
    ·exact hw
    ·exact vgo_limbs l _ _ r B v g
   split at h
   ·exact j _ h
   ·split at h
    ·cases h
    ·exact j _ h
def zo0{vs:List Vr}(h:To vs=true):∀v∈vs,1≤v.limbs∧v.limbs≤512∧0≤v.mode∧v.mode≤3:=by
 unfold To at h;split at h
 ·cases h
 ·rename_i p g;exact vgo_limbs vs 0 0 p g
def xg{vs:List Vr}{i:Nat}(h:i<vs.length):gv vs i∈vs:=Kg (Wm h)
def zpf{vs:List Vr}(h:To vs=true){v:Int}(g:0≤v)(j:v<vs.length):1≤Te vs v∧Te vs v≤512:=by
 have:=zo0 h _ (xg (vs:=vs) (i:=v.toNat) J);exact⟨this.1,this.2.1⟩
def fe(g:List Vr)(o:Ko):Ul g o=(!tp o.kind&&(To g&&Rg g o)):=by
 unfold Ul;cases z:tp o.kind with
 |true=>rfl
 |false =>
  simp only[Bool.not_false,Nv];unfold Tu;cases A:To g with
  |false=>rfl
  |true =>
   have K:=zh6 A;have F:=startOs_len g 0;obtain⟨m,G,L,B⟩:=zci g 0 (Y4 g) rfl (by simp[Y4]) (λM E=>J) (λM _ E=>by
    unfold gb Y4;rw[J0,Lr,Wm E];rfl)
   rw[zua g _ _ _ _ _ _ G];have H:decide ((Vp 0 g++[o]).length≤4096)=true:=Ll Ab;rw[H];simp only[Nv,Mb,List.all_nil,show decide (0≤4096)=true from rfl];have C:dl o.kind=0:=by simp[tp]at z;simp[dl,z.1,z.2]
   cases D:Rg g o with
   |false=>simp[Vf,D]
   |true =>
    have j:=fx D;have I:uw m o=true:=by
     unfold uw;rw[Lq];intro v A;have:=j.takes v A;exact B _ J
    have hm:lb g (Xq m o)=true:=by
     unfold lb;rw[Lq];intro i hi;have hi:=L4.1 hi;have:gb (Xq m o) i=true:=by
      unfold Xq;split
      ·have:=j.d;rw[zwh _ _ _ J];split
       ·rfl
       ·exact B i hi
      ·exact B i hi
     simp[this]
    simp[Vf,D,I,C,hm]
def Sr(k:Int):Bool:=(decide (1≤k)&&decide (k≤11)) || decide (k=14)
def O9(n:Int):Int:=2*n+4*(n-n/2+1)
def Tn(g:List Vr)(o:Ko):Int :=
 if (Sr o.kind&&Ul g o)=true then
  (if o.kind=5 then Te g o.a+Te g o.b else if o.kind=6 then O9 (Te g o.a) else if o.kind=9∨o.kind=10∨o.kind=11 then 2*(Te g o.c+1) else 1)
 else 0
def ztt{o:Ko}{s:Nat}(h:Rg vE o=true)(g:R5 o.kind=some s):Vt vE.length s o=true∧Um o=true∧qh vE o=true:=by
 unfold Rg at h;split at h
 ·rename_i j;rw[j]at g;simp[R5]at g
 ·rw[g]at h;simp only[Jz]at h;exact⟨h.2.1,h.1,h.2.2.2.2.2⟩
def z7m{o:Ko}{s:Nat}(h:Ul vE o=true)(g:R5 o.kind=some s):To vE=true∧Vt vE.length s o=true∧Um o=true∧qh vE o=true:=by
 rw[fe]at h;simp only[Jz]at h;exact⟨h.2.1,ztt h.2.2 g⟩
def zv2{n s:Nat}{o:Ko}(h:Vt n s o=true)(g:s.testBit 2=true):0≤o.a∧o.a<n:=by
 simp only[Vt,Jz]at h;exact Un h.2.2.1 g
def mh{n s:Nat}{o:Ko}(h:Vt n s o=true)(g:s.testBit 3=true):0≤o.b∧o.b<n:=by
 simp only[Vt,Jz]at h;exact Un h.2.2.2.1 g
def zp3{n s:Nat}{o:Ko}(h:Vt n s o=true)(g:s.testBit 4=true):0≤o.c∧o.c<n:=by
 simp only[Vt,Jz]at h;exact Un h.2.2.2.2 g
def z64(j:To vE=true){v:Int}(h:0≤v∧v<vE.length):∃k:Nat,v=k∧k<vE.length∧(Qx vE)[k*3]?=some (.i (Te vE v))∧1≤Te vE v∧Te vE v≤512:=by
 obtain⟨k,rfl⟩:=J3 h.1;have g:k<vE.length:=J
 have:=zpf j h.1 h.2;exact⟨k,rfl,g,zqp (Wm g),this⟩

def kd_1{o:Ko}:kdK o=1↔o.kind=15:=by unfold kdK;split<;>(try split)<;>simp_all





def Fr.map{α:Type}(g:α→α):Fr α→Fr α
 |.nil=>.nil
 |.op o r=>.op (g o) (r.map g)
 |.loop o b e r=>.loop (g o) (b.map g) (g e) (r.map g)
def su(g:List Vr):List Nat:=(List.range g.length).filter λi=>Ti (gv g i)

abbrev Hl:=Int×Int
def zvk(x y:Hl):Prop:=x.2≤y.1∨y.2≤x.1
def Ap(g:Int)(l:List Hl):Prop:=l.Pairwise zvk∧∀h∈l,0≤h.1∧h.1<h.2∧h.2≤g
structure St where
 holes:List Hl
 size:Int
def ivs(z:Nat→Hl)(j:Nat→Bool)(s:Bool)(g:List Nat):List Hl:=(g.filter λv=>j v==s).map z
def x4(A:Bool→Int)(B:Nat→Hl)(j:Nat→Bool)(g:List Nat)(z:Bool→St):Prop :=
 ∀s,0≤(z s).size∧Ap (z s).size ((0,A s)::(ivs B j s g++(z s).holes))
structure Plan0 (wk:Bool→Int) (a b Ry:Nat→Int) (sec:Nat→Bool) (done busy:List Nat) (iv:Nat→Hl) (ps:Bool→St) (cur:Int):Prop where
 ok:x4 wk iv sec busy ps
 wide:∀v∈done,(iv v).2=(iv v).1+Ry v
 nd:busy.Nodup
 sub:∀v∈busy,v∈done
 over:∀v∈done,v ∉ busy→b v<cur
 pairs:∀v∈done,∀w∈done,v≠w→sec v=sec w→zvk (iv v) (iv w)∨b v<a w∨b w<a v
 inn:∀v∈done,0≤(iv v).1∧(iv v).2≤(ps (sec v)).size∧zvk (0,wk (sec v)) (iv v)
 sz:(ps false).size+(ps true).size≤wk false+wk true+(done.map Ry).sum
end Go.Sv
