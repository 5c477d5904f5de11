/- Texts of the evaluator, of the logic over it, of plain arithmetic. -/
import Derived.Test.YtodjkjimaheggaaGreatSvG1
import Derived.OpenShut
import Derived.Carry
import Derived.WalkKit
import Derived.ProofKit
import Derived.WideKeyArgs
import Derived.ChangeCalls
set_option linter.unusedSimpArgs false
set_option linter.defProp false
namespace Go.Sv
variable{g j A D T:Nat}{vV:Int}{C:Program}{K:World}{Q:Bool}{v9:TypeId}{vZ:List UInt64}{vQ:Type}{vP:Array Value}{vI:Option Nat}{vg:List Nat}{uU:Code}{uT:Prop}{vT:Heap}{I:AV}{vD:Tr AV}{M:CM}{E v8:List LV}{F:M0}{R:LV}{X:LV→M0→Prop}{vB:Cx}
section
section res
variable {P : Program} {c : Cx} {G : M0} {K : LV → M0 → Prop}
def zpp(l h m o v i j:Nat)(A:l≤h)(B:h≤m):(h-l=0∧gw l h m o v i j=.emp∧l≠0)∨∃g,gw l h m o v i j=.sl o v (i+l*j) (h-l) j g∧∀r,g=some r→h-l≤r:=by
 unfold gw;cases C:Nat.beq l m with
 |true =>
  have E:=Ic C;cases z:Nat.beq l 0 with
  |true =>
   have D:=Ic z;have:h-l=0:=J
   refine .inr ⟨some 0,?_,λr _=>J⟩;rw[this,D];simp
  |false=>exact .inl ⟨J,rfl,λe=>by subst e;cases z⟩
 |false=>exact .inr ⟨_,rfl,λr e=>by cases e;show h-l≤m-l;omega⟩
def z9v{lo hi:Option Nat}{o v i len esz:Nat}{room:Option Nat}(j:lo.getD 0≤hi.getD len)(B:hi.getD len≤len)(C:∀r,room=some r→len≤r) :
  ∃a,Wb esz lo hi none o v i len esz room=some a∧yq a=true∧((hi.getD len-lo.getD 0=0∧a=.emp∧lo.getD 0≠0)∨∃g,a=.sl o v (i+lo.getD 0*esz) (hi.getD len-lo.getD 0) esz g∧∀r,g=some r→hi.getD len-lo.getD 0≤r):=by
 generalize F:lo.getD 0=l at j;generalize H:hi.getD len=h at j B;have z:∀a,((h-l=0∧a=.emp∧l≠0)∨∃g,a=AV.sl o v (i+l*esz) (h-l) esz g∧∀r,g=some r→h-l≤r)→yq a=true:=by
  rintro a (⟨_,rfl,_⟩|⟨_,rfl,_⟩)<;>rfl
 unfold Wb;rw[I6,F,H];dsimp only;unfold z88;have D:Nat.ble l h=true:=Ia j;cases room with
 |some r =>
  have A:Nat.ble h ((some r).getD len)=true:=Ia (by have:=C r rfl;show h≤r;omega);rw[D,A];dsimp only;have:=zpp l h r o v i esz j (by have:=C r rfl;omega);exact⟨_,rfl,z _ this,this⟩
 |none =>
  have A:Nat.ble h ((none:Option Nat).getD len)=true:=Ia B;rw[D,A];dsimp only;cases E:Nat.beq l 0 with
  |true =>
   have I:=Ic E;have:(h-l=0∧(AV.sl o v i h esz none)=.emp∧l≠0)∨∃g,AV.sl o v i h esz none=AV.sl o v (i+l*esz) (h-l) esz g∧∀r,g=some r→h-l≤r:=.inr ⟨none,by rw[I];simp,λr e=>Am⟩;exact⟨_,rfl,z _ this,this⟩
  |false =>
   cases L:Nat.beq l h with
   |true =>
    have M:=Ic L;exact⟨_,rfl,rfl,.inl ⟨J,rfl,λe=>by subst e;cases E⟩⟩
   |false=>exact⟨_,rfl,rfl,.inr ⟨none,rfl,λr e=>Am⟩⟩
def zgq{lo hi:Option Nat}{o v i len esz m:Nat}{room:Option Nat}(z:lo.getD 0≤hi.getD len)(A:hi.getD len≤m)(hm:m≤len)(C:∀r,room=some r→len≤r) :
  ∃a,Wb esz lo hi (some m) o v i len esz room=some a∧yq a=true∧((hi.getD len-lo.getD 0=0∧a=.emp∧lo.getD 0≠0)∨∃g,a=.sl o v (i+lo.getD 0*esz) (hi.getD len-lo.getD 0) esz g∧∀r,g=some r→hi.getD len-lo.getD 0≤r):=by
 generalize D:lo.getD 0=l at z;generalize E:hi.getD len=h at z A;have B:∀a,((h-l=0∧a=.emp∧l≠0)∨∃g,a=AV.sl o v (i+l*esz) (h-l) esz g∧∀r,g=some r→h-l≤r)→yq a=true:=by
  rintro a (⟨_,rfl,_⟩|⟨_,rfl,_⟩)<;>rfl
 unfold Wb;rw[I6,D,E];dsimp only;unfold z88;have j:m≤room.getD len:=by
  cases room with
  |none=>exact hm
  |some r=>have:=C r rfl;show m≤r;omega
 rw[show Nat.ble l h=true from Ia z,show Nat.ble h (room.getD len)=true from Ia (Ja A j)];dsimp only;rw[show Nat.ble h m=true from Ia A,show Nat.ble m (room.getD len)=true from Ia j];dsimp only;have:=zpp l h m o v i esz z A;exact⟨_,rfl,B _ this,this⟩
def zgx{hi:Option Nat}{o v i len:Nat}{z:Option Nat}{a:AV}(h:Wb g vI hi none o v i len j z=some a)(A:vI.getD 0=0):∃B n,a=.sl o v B n j z:=by
 unfold Wb at h;split at h
 ·cases h
 rw[A]at h;unfold z88 at h;split at h
 ·cases h
 split at h
 ·cases h
 dsimp only at h;cases z with
 |some r =>
  dsimp only at h;cases h;unfold gw;split
  ·rename_i C;have:=Ic C;subst this;exact⟨_,_,rfl⟩
  ·exact⟨_,_,rfl⟩
 |none =>
  dsimp only at h;cases h;exact⟨_,_,rfl⟩
def zr1{lo hi:Option Nat}{o v i len esz:Nat}{room:Option Nat}{a:AV}(h:Wb g lo hi none o v i len esz room=some a)(z:j=0→lo.getD 0=0)(A:I=.sl o v 0 len esz room):co j I a:=by
 intro B;obtain⟨C,n,rfl⟩:=zgx h (z B);subst A;exact .inl rfl
def zmk{lo hi:Option Nat}{o v i len esz:Nat}{a:AV}(h:Wb g lo hi none o v i len esz vI=some a)(z:j=0→lo.getD 0=0∧A=0)(C:co A I (.sl o v D T esz vI)):co j I a:=by
 intro B;obtain⟨E,n,rfl⟩:=zgx h (z B).1;exact C (z B).2
def znp{lo hi:Option Nat}{o v i len esz m:Nat}{room:Option Nat}{a:AV}(h:Wb g lo hi (some m) o v i len esz room=some a)(z:j=0→lo.getD 0=0)(hm:m≤len)(B:I=.sl o v 0 len esz room):co j I a:=by
 intro C;have z:=z C;subst B;unfold Wb at h;split at h
 ·cases h
 rw[z]at h;unfold z88 at h;split at h
 ·cases h
 split at h
 ·cases h
 dsimp only at h;split at h
 ·cases h
 split at h
 ·cases h
 cases h;have D:∃(A n r:Nat),gw 0 (hi.getD len) m o v i esz=.sl o v A n esz (some r)∧r≤m:=by
  unfold gw;cases Nat.beq 0 m with
  |true=>exact⟨_,_,0,rfl,Kx _⟩
  |false=>exact⟨_,_,m-0,rfl,Nat.sub_le _ _⟩
 obtain⟨A,n,r,e,E⟩:=D;rw[e];exact .inr ⟨r,rfl,J⟩
def zrk{lo hi:Option Nat}{o v i len esz m:Nat}{room:Option Nat}{a:AV}(h:Wb g lo hi (some m) o v i len esz room=some a)(z:lo.getD 0=0)(A:hi.getD len=m)(hm:0<m):a=.sl o v i m esz (some m):=by
 unfold Wb at h;split at h
 ·cases h
 rw[z,A]at h;unfold z88 at h;split at h
 ·cases h
 split at h
 ·cases h
 dsimp only at h;split at h
 ·cases h
 split at h
 ·cases h
 cases h;unfold gw;have j:Nat.beq 0 m=false:=by
  cases j:Nat.beq 0 m with
  |false=>rfl
  |true=>have:=Ic j;omega
 rw[j];dsimp only;rw[show Nat.add i (Nat.mul 0 esz)=i by show i+0*esz=i;omega,show Nat.sub m 0=m from rfl]
def AR.lst'{l:List LV}{len esz:Nat}{a:AV}{o v i n:Nat}{l':List AV}(hf:c.Fz o)(hr:Rb c.H o v i n=some l')(hl:ARs c l l')(hle:j*esz+len*esz≤n)
  (ha:(len=0∧a=.emp)∨∃room,a=.sl o v (i+j*esz) len esz room∧∀r,room=some r→len≤r):AR c (.lst ((l.drop (j*esz)).take (len*esz)) len esz) a:=by
 have hn:=zes hr;have gz:=hl.length;rcases ha with ⟨rfl,rfl⟩|⟨room,rfl,gg⟩
 ·simp only[Kw,Mp];exact .lstEmp
 ·exact .lst hf gg Ab (zlt hr hle) ((hl.drop _).take _)
def zoo(g:Bool)(a b:Int):fh g (.int .i64 a) [.int .i64 b]=some (.int .i64 (match g with|true=>max a b|false=>min a b)):=by
 have j:Z0 .i64 .i64=true:=rfl;simp only[fh,X5,j];cases g with
 |true =>
  simp only[Vg];by_cases h:a<b
  ·rw[Jp h];simp only;congr 2;omega
  ·rw[Lv h];simp only;congr 2;omega
 |false =>
  simp only[Vg];by_cases h:b<a
  ·rw[Jp h];simp only;congr 2;omega
  ·rw[Lv h];simp only;congr 2;omega
def ux(z:Bool)(a b d:Int):fh z (.int .i64 a) [.int .i64 b,.int .i64 d]=some (.int .i64 (match z with|true=>max (max a b) d|false=>min (min a b) d)):=by
 cases z with
 |true =>
  have g:=zoo true a b;have j:=zoo true (max a b) d;simp only[fh]at g j ⊢;cases hm:X5 true (.int .i64 a) (.int .i64 b) with
  |none=>rw[hm]at g;cases g
  |some r =>
   rw[hm]at g;simp only[Option.some.injEq]at g;subst g;exact j
 |false =>
  have g:=zoo false a b;have j:=zoo false (min a b) d;simp only[fh]at g j ⊢;cases hm:X5 false (.int .i64 a) (.int .i64 b) with
  |none=>rw[hm]at g;cases g
  |some r =>
   rw[hm]at g;simp only[Option.some.injEq]at g;subst g;exact j
def maxi_u(g:Bool)(a b:UInt64):fh g (.int .u64 (Int.ofNat a.toNat)) [.int .u64 (Int.ofNat b.toNat)]=some (.int .u64 (Int.ofNat (match g with|true=>if a<b then b else a|false=>if b<a then b else a:UInt64).toNat)):=by
 have j:Z0 .u64 .u64=true:=rfl;simp only[fh,X5,j];cases g with
 |true =>
  simp only[Vg,zhx];by_cases h:a<b
  ·rw[Jp h,H7 h]
  ·rw[Lv h,Hv h]
 |false =>
  simp only[Vg,zhx];by_cases h:b<a
  ·rw[Jp h,H7 h]
  ·rw[Lv h,Hv h]
def bytesA_map:∀l:List UInt8,W5.bytesA (l.map λb=>AV.int .u8 (Int.ofNat b.toNat))=some (O8 l)
 |[]=>rfl
 |b::l=>by
  have g:=b.toNat_lt;have h:Nat.blt b.toNat 256=true:=by unfold Nat.blt;exact Ia g
  simp only[Kn,W5.bytesA,h,Jl,bytesA_map l,O8]
def ARs_b:∀{j:List UInt8} {g:List AV},ARs c (j.map LV.b) g→g=j.map λb=>AV.int .u8 (Int.ofNat b.toNat)
 |[],g,h=>Bz
 |b::j,g,h=>by
  cases h with
  |cons h z=>cases h;rw[ARs_b z];rfl
def yh(O:HSim c G){x:LV}{a:AV}{K:List LV→Prop}(D:AR c x a)(h:bytL G x K):∃l j,ARs c l j∧K l∧((a=.nilSl∧j=[])∨∃o v i room,a=.sl o v i j.length 1 room∧Rb c.H o v i j.length=some j):=by
 unfold bytL at h;split at h
 ·cases D;exact⟨[],[],.nil,h,.inl ⟨rfl,rfl⟩⟩
 ·rename_i p k;split at h
  ·rename_i l len E Q st R;obtain⟨T,rfl,h⟩:=h;cases D with
   | @dy _ _ k' hh _ e hk U _ =>
    obtain⟨r0,H,A⟩:=O.obj p _ _ _ R e;have B:=U J;rcases A with ⟨A,F⟩|⟨o,v,room,t,I,j,A,F,V,X,L,_⟩
    ·subst F;have:l=[]:=In Bn;subst this;exact⟨[],[],.nil,h,.inl ⟨B.trans A,rfl⟩⟩
    ·have g:j.length=len*1:=by rw[←L.length];exact H
     have z:=V7 (i:=0) (n:=len*1) F X V J;rw[Kq]at g z;refine⟨l,j,L,h,.inr ⟨o,v,0,room,by rw[B,A,g],?_⟩⟩;rw[g,z,Ka,Ij J]
  ·exact h.elim
 ·rename_i l len E;obtain⟨rfl,C,h⟩:=h;cases D with
  |lst hf Y M z Z =>
   have g:=zes z;rw[Kq]at g z;refine⟨l,_,Z,h,.inr ⟨_,_,_,_,by rw[g],by rw[g];exact z⟩⟩
  |lstNil=>exact absurd rfl C
  |lstEmp=>exact absurd rfl C
 ·exact h.elim
def OpL_ok(z:HSim c G){ρ:M2}(B:Oe c ρ vD){o:LOp}(g:o.ok=true)(h:N7 P ρ G o K):R8 P c G K (Oy P (ρA vD) c.H o.r):=by
 cases o with
 |move x=>exact .same z (Ov B g) h
 |pick cc a b =>
  simp only[LOp.ok,Hw]at g;have hc:=Ov B g.1.1;have Z:=Ov B g.1.2;have hb:=Ov B g.2;simp only[N7]at h;simp only[LOp.r,Oy];generalize cc.ev ρ=cv at h hc;generalize cc.r.ev (ρA vD)=ca at hc ⊢;cases cv<;>first|exact h.elim|skip
  rename_i t;cases hc;dsimp only at h;split at h
  ·rename_i x y j hy;rw[j]at Z;rw[hy]at hb;cases t with
   |true=>exact .same z Z h
   |false=>exact .same z hb h
  ·cases t with
   |true=>exact .same z Z (h.1 rfl)
   |false=>exact .same z hb (h.2 rfl)
 |alloc l=>exact zll z (z8d c g) h
 |box x =>
  have j:=Ov B g;simp only[N7]at h;simp only[LOp.r,Oy];split at h
  ·rename_i l X;obtain⟨l',E,C⟩:=j.cells X;rw[E];exact zll z C h
  ·exact h.elim
 |build cs ps =>
  simp only[LOp.ok,Hw]at g;simp only[N7]at h;simp only[LOp.r,Oy];split at h
  ·rename_i l X;obtain⟨l',E,C⟩:=znh B g.2 (z8d c g.1) X;rw[E];exact .same z (.agg C) h
  ·exact h.elim
 |buildSl A len cs ps =>
  simp only[LOp.ok,Hw]at g;simp only[N7]at h;simp only[LOp.r,Oy];split at h
  ·rename_i l X;obtain⟨l',E,C⟩:=znh B g.2 (z8d c g.1) X;rw[E];exact uw z C h.1 (λr e=>by cases e;rfl) h.2
  ·exact h.elim
 |load1 x =>
  have j:=Ov B g;simp only[N7]at h;simp only[LOp.r,Oy];obtain⟨o,v,i,w,b,E,C,M,H⟩:=zun z j h;rw[E];dsimp only;rw[C];exact .same z M H
 |loadN n x =>
  have j:=Ov B g;simp only[N7]at h;simp only[LOp.r,Oy];obtain⟨o,v,i,l',l,E,C,M,H⟩:=znx z j h;rw[E];dsimp only;rw[C];exact .same z (.agg M) H
 |store n x y =>
  simp only[LOp.ok,Hw]at g;have j:=Ov B g.1;have hy:=Ov B g.2;simp only[N7]at h;simp only[LOp.r,Oy];split at h
  ·rename_i l X;obtain⟨l',p1,p2⟩:=hy.cells X;obtain⟨o,v,i,H',c',G',E,C,M,H,O,q6⟩:=zbc z j p2 h.2;rw[E];dsimp only;rw[p1];dsimp only;have hb:Nat.beq l'.length n=true:=by rw[←p2.length,h.1];exact I6 _
   rw[hb];dsimp only;rw[C];exact⟨c',.tup [],G',M,H,O,.tup .nil,q6⟩
  ·exact h.elim
 |nilChk x =>
  have j:=Ov B g;simp only[N7]at h;simp only[LOp.r,Oy];generalize x.ev ρ=v at h j;generalize x.r.ev (ρA vD)=a at j ⊢;split at h
  ·have h0:=j;cases j;exact .same z h0 h
  ·have h0:=j;cases j;exact .same z h0 h
  ·have h0:=j;cases j;exact .same z h0 h
  ·have h0:=j;cases j;exact .same z h0 h
  ·exact h.elim
 |bin op jE t x y =>
  simp only[LOp.ok,Hw]at g;exact .ret z (yo (Ov B g.1) (Ov B g.2) h)
 |un op x=>exact .ret z (unL_ok (Ov B g) h)
 |cvInt k x =>
  obtain⟨k',n,E,v,C,M⟩:=cvL_ok (Ov B g) (show wm k (x.ev ρ) (λv=>K v G) from h);simp only[LOp.r,Oy];rw[E];exact .same z C M
 |cvStr x =>
  have j:=Ov B g;simp only[N7]at h;simp only[LOp.r,Oy];obtain⟨l,l',E,⟨bs,rfl,C⟩,M⟩:=yh z j h;have gX:=ARs_b E;rcases M with ⟨M,H⟩|⟨o,v,i,room,M,H⟩
  ·rw[M];rw[H]at gX;have:bs=[]:=by cases bs with
    |nil=>rfl
    |cons _ _=>cases gX
   subst this;exact .same z (.str []) C
  ·rw[M];show R8 P c G K (match Rb c.H o v i l'.length with
    |some r=>match W5.bytesA r with
     |some n=>OR.val (.str l'.length n) c.H
     |none=>.no
    |none=>.no)
   rw[H];dsimp only;rw[gX,bytesA_map];dsimp only;exact .same z (.str' N rfl) C
 |cvSame x =>
  have j:=Ov B g;simp only[N7]at h;simp only[LOp.r,Oy];generalize x.ev ρ=v at h j;generalize x.r.ev (ρA vD)=a at j ⊢;split at h
  ·cases j;exact .same z (.str _) h
  ·exact h.elim
 |cvBytes x =>
  have j:=Ov B g;simp only[N7]at h;simp only[LOp.r,Oy];generalize x.ev ρ=v at h j;generalize x.r.ev (ρA vD)=a at j ⊢;split at h
  ·rename_i l;cases j;exact uw z (zp2 l c) N (λr e=>Am) h
  ·exact h.elim
 |mkFunc f a b =>
  simp only[LOp.ok,Hw]at g;exact .same z (.fn (zvc B g.1) (zvc B g.2)) h
 |mkSl A jF l cc =>
  simp only[LOp.ok,Hw]at g;have X:=Ov B g.1.2;have hc:=Ov B g.2;simp only[N7]at h;simp only[LOp.r,Oy];generalize l.ev ρ=lv at h X;generalize l.r.ev (ρA vD)=la at X ⊢;generalize cc.ev ρ=cv at h hc;generalize cc.r.ev (ρA vD)=ca at hc ⊢;split at h
  ·rename_i n m;obtain⟨rfl,F,T,L,h4⟩:=h;cases X;cases hc;obtain⟨k,rfl⟩:=Hz F;have b1:Nat.ble k k=true:=Ia (H9 _);have b2:Nat.ble k 1048576=true:=Ia J;show R8 P c G K (match Nat.ble k k with
    |true=>match Nat.ble k 1048576 with
     |true=>match newObj c.H (Uc (toAs jF) k) with
      |some (o,H')=>OR.val (.sl o 0 0 k A (some k)) H'
      |none=>.no
     |false=>.no
    |false=>.no)
   rw[b1,b2];exact uw z ((z8d c g.1.1).rep k) (by rw[z7j,L]) (λr e=>by cases e;rfl) h4
  ·exact h.elim
 |slStr x lo hi =>
  simp only[LOp.ok,Hw]at g;have j:=Ov B g.1.1;simp only[N7]at h;simp only[LOp.r,Oy];generalize x.ev ρ=v at h j;generalize x.r.ev (ρA vD)=a at j ⊢;split at h
  ·rename_i l;cases j;obtain⟨gg,U,E,C,M⟩:=Wf B g.1.2 h;obtain⟨Q,R,H,O,F,T,L⟩:=Wf B g.2 M;rw[E,H];dsimp only;rw[C,O];have b1:Nat.ble U R=true:=Ia F;have b2:Nat.ble R l.length=true:=Ia T;rw[b1,b2];dsimp only;refine .same z (.str' Ab ?_) L;rw[packL_take,packL_drop];rfl
  ·exact h.elim
 |slSl A x lo hi =>
  simp only[LOp.ok,Hw]at g;have j:=Ov B g.1.1;simp only[N7]at h;simp only[LOp.r,Oy];have gI:Pu (ρA vD) none=some none:=rfl;rw[gI];split at h
  ·rename_i hv;rw[hv]at j;generalize x.r.ev (ρA vD)=a at j ⊢;cases j;obtain⟨gg,U,E,C,M⟩:=Wf B g.1.2 h;obtain⟨Q,R,H,O,F,T,L⟩:=Wf B g.2 M;rw[E,H];dsimp only;rw[C,O,F,T];exact .same z .nilSl L
  ·rename_i p k hv;rw[hv]at j;generalize x.r.ev (ρA vD)=a at j ⊢;split at h
   ·rename_i l len esz gz st Y;obtain⟨gA,rfl,h⟩:=h;obtain⟨gg,U,E,C,M⟩:=Wf B g.1.2 h;obtain⟨Q,R,H,O,F,T,L⟩:=Wf B g.2 M;rw[E,H];cases j with
    | @dy _ _ k' hh _ e hk Z _ =>
     obtain⟨r0,r1,V⟩:=z.obj p _ _ _ Y e;have gC:=Z J;rcases V with ⟨V,r3⟩|⟨o,v,room,t,gK,l',V,r3,r4,r5,r6,r7,r8⟩
     ·subst r3;have e1:U=0:=J
      have e2:R=0:=J
      subst e1 e2;rw[gC,V];dsimp only;rw[C,show Q.getD 0=0 from O];exact .same z (.vw e hk (λ_=>.inl ⟨rfl,.inl rfl⟩) rfl (λ_ _=>trivial)) L
     ·obtain⟨a2,p1,p2,p3⟩:=z9v (lo:=gg) (hi:=Q) (o:=o) (v:=v) (i:=0) (esz:=esz) (len:=len) (room:=room) Cj Cr (λr e'=>(r7 r e').2);rw[gC,V];dsimp only;rw[p1];rw[C,O,Ix]at p3;refine .same z (.vw e hk (λ_=>?_) p2 (λ_=>zr1 p1 (λh0=>by rw[C];exact h0) V)) L;rcases p3 with ⟨p3,p4,p5⟩|⟨I,p4⟩
      ·exact .inl ⟨p3,.inr ⟨p4,p5⟩⟩
      ·exact .inr ⟨o,v,len,esz,room,I,V,p4⟩
   ·exact h.elim
  ·rename_i p k l0 len hv;rw[hv]at j;generalize x.r.ev (ρA vD)=a at j ⊢;split at h
   ·rename_i l gE esz gz st Y;obtain⟨gA,rfl,h⟩:=h;obtain⟨gg,U,E,C,M⟩:=Wf B g.1.2 h;obtain⟨Q,R,H,O,F,T,L⟩:=Wf B g.2 M;rw[E,H];cases j with
    | @vw _ _ _ _ k' hh _ e hk Z _ hz =>
     have jG:=(z.obj p _ _ _ Y e).1;rcases Z J with ⟨r3,r4⟩|⟨o,v,gB,D,room,I,r3,r4,r9⟩
     ·subst r3;have e1:U=0:=J
      have e2:R=0:=J
      subst e1 e2;rcases r4 with rfl|⟨rfl,r5⟩
      ·dsimp only;rw[C,show Q.getD 0=0 from O];exact .same z (.vw e hk (λ_=>.inl ⟨rfl,.inl rfl⟩) rfl (λ_ _=>trivial)) L
      ·dsimp only;rw[C,show Q.getD 0=0 from O];exact .same z (.vw e hk (λ_=>.inl ⟨rfl,.inr ⟨rfl,r5⟩⟩) rfl (λ_ _=>trivial)) L
     ·subst r3;obtain⟨_,w1,w2,w3,_⟩:=pu z Y e;subst w2 w3;obtain⟨a2,p1,p2,p3⟩:=z9v (lo:=gg) (hi:=Q) (o:=o) (v:=v) (i:=l0*D) (esz:=D) (len:=len) (room:=I) Cj Cr r9;rw[r4];dsimp only;rw[p1];rw[C,O]at p3;refine .same z (.vw e hk (λ_=>?_) p2 (λq=>zmk p1 (λh0=>⟨Gp,J⟩) (r4 ▸ hz q))) L;rcases p3 with ⟨p3,p4,p6⟩|⟨gY,p4,p5⟩
      ·exact .inl ⟨p3,.inr ⟨p4,J⟩⟩
      ·exact .inr ⟨o,v,_,D,room,gY,rfl,by rw[p4,Iv],p5⟩
   ·exact h.elim
  ·rename_i l len esz hv;rw[hv]at j;generalize x.r.ev (ρA vD)=a at j ⊢;obtain⟨rfl,h⟩:=h;obtain⟨gg,U,E,C,M⟩:=Wf B g.1.2 h;obtain⟨Q,R,H,O,F,T,L⟩:=Wf B g.2 M;rw[E,H];have gT:len=0→l=[]→K (.lst [] 0 esz) G:=λe1 e2=>by
    have e3:U=0:=J
    have e4:R=0:=J
    subst e2 e3 e4;simpa using L
   cases j with
   |lst hf gH gF hr X =>
    obtain⟨a2,p1,p2,p3⟩:=z9v (lo:=gg) (hi:=Q) Cj Cr gH;dsimp only;rw[p1];rw[C,O]at p3;refine .same z (.lst' hf hr X ?_ (p3.imp (λh=>⟨h.1,h.2.1⟩) id)) L;rw[←Iv];exact Ii _ J
   |lstNil =>
    have e3:U=0:=J
    have e4:R=0:=J
    dsimp only;rw[C,show Q.getD 0=R from O,e3,e4];exact .same z .lstNil (gT rfl rfl)
   |lstEmp =>
    have e3:U=0:=J
    have e4:R=0:=J
    dsimp only;rw[C,show Q.getD 0=R from O,e3,e4];exact .same z .lstEmp (gT rfl rfl)
  ·exact h.elim
 |slSl3 A x lo hi mx =>
  simp only[LOp.ok,Hw]at g;have j:=Ov B g.1.1.1;have jA:rz (some mx)=true:=g.2;simp only[N7]at h;simp only[LOp.r,Oy];split at h
  ·rename_i p k hv;rw[hv]at j;generalize x.r.ev (ρA vD)=a at j ⊢;split at h
   ·rename_i l len esz gz st Y;obtain⟨gA,rfl,h⟩:=h;obtain⟨gg,U,E,C,M⟩:=Wf B g.1.1.2 h;obtain⟨Q,R,H,O,q6⟩:=Wf B g.1.2 M;obtain⟨gL,gM,q7,q8,h0,F,T,L,h4⟩:=Wf B jA q6;simp only[J6]at q7;rw[E,H,q7];cases j with
    | @dy _ _ k' hh _ e hk Z _ =>
     obtain⟨r0,r1,V⟩:=z.obj p _ _ _ Y e;have gC:=Z J;have gI:gL=some gM:=by
      cases gL with
      |none=>unfold Pu at q7;dsimp only at q7;split at q7<;>cases q7
      |some m=>simp at q8;rw[q8]
     rcases V with ⟨V,r3⟩|⟨o,v,room,t,gK,l',V,r3,r4,r5,r6,r7,r8⟩
     ·omega
     ·obtain⟨a2,p1,p2,p3⟩:=zgq (lo:=gg) (hi:=Q) (o:=o) (v:=v) (i:=0) (esz:=esz) (len:=len) (room:=room) (m:=gM) Cj Cr L (λr e'=>(r7 r e').2);rw[gC,V,gI];dsimp only;rw[p1];rw[C,O,Ix]at p3;unfold fullV at h4;split at h4
      ·rename_i jB;obtain⟨f1,f2,f3⟩:=Kr jB;have hc:=zrk p1 (by rw[C];exact f1) (by rw[O];exact f2) J;exact .same z (.vf e hk (λ_=>⟨o,v,len,esz,room,V,by rw[hc,f2]⟩) p2) h4
      refine .same z (.vw e hk (λ_=>?_) p2 (λ_=>znp p1 (λh0=>by rw[C];exact h0) L V)) h4;rcases p3 with ⟨p3,p4,p5⟩|⟨I,p4⟩
      ·exact .inl ⟨p3,.inr ⟨p4,p5⟩⟩
      ·exact .inr ⟨o,v,len,esz,room,I,V,p4⟩
   ·exact h.elim
  ·rename_i l len esz hv;rw[hv]at j;generalize x.r.ev (ρA vD)=a at j ⊢;obtain⟨rfl,h⟩:=h;obtain⟨gg,U,E,C,M⟩:=Wf B g.1.1.2 h;obtain⟨Q,R,H,O,q6⟩:=Wf B g.1.2 M;obtain⟨gL,gM,q7,q8,h0,F,T,L,h4⟩:=Wf B jA q6;simp only[J6]at q7;rw[E,H,q7];have gI:gL=some gM:=by
    cases gL with
    |none=>unfold Pu at q7;dsimp only at q7;split at q7<;>cases q7
    |some m=>simp at q8;rw[q8]
   cases j with
   |lst hf gH gF hr X =>
    obtain⟨a2,p1,p2,p3⟩:=zgq (lo:=gg) (hi:=Q) (m:=gM) Cj Cr L gH;rw[gI];dsimp only;rw[p1];rw[C,O]at p3;refine .same z (.lst' hf hr X ?_ (p3.imp (λh=>⟨h.1,h.2.1⟩) id)) h4;rw[←Iv];exact Ii _ J
   |lstNil=>omega
   |lstEmp=>omega
  ·exact h.elim
 |fieldAddr gR x =>
  have j:=Ov B g;simp only[N7]at h;simp only[LOp.r,Oy];generalize x.ev ρ=v at h j;generalize x.r.ev (ρA vD)=a at j ⊢;split at h
  ·cases j with
   |ptr e=>exact .same z (.ptr e) h
  ·cases j with
   |dptr e hk Z=>exact .same z (.dptr e hk (λq=>⟨by rw[(Z q).1];rfl,(Z q).2⟩)) h
  ·cases j with
   |cptr hf hr X =>
    dsimp only;rw[show ∀a b c:Nat,Nat.add (a+b) c=a+(b+c) from λa b c=>Ke a b c];exact .same z (.cptr hf hr X) h
  ·exact h.elim
 |field jE n gR x =>
  have j:=Ov B g;simp only[N7]at h;simp only[LOp.r,Oy];generalize x.ev ρ=v at h j;generalize x.r.ev (ρA vD)=a at j ⊢;split at h
  ·rename_i l;cases j with
   |agg X =>
    dsimp only;cases jE with
    |true =>
     obtain⟨F,T⟩:=h;have gZ:=X.length;rename_i l';have b1:Nat.ble (Nat.add gR n) l'.length=true:=Ia (show gR+n≤l'.length by rw[←gZ];exact F);refine .ret z ?_;simp only[np,ce,b1];exact .mk (.agg ((X.drop gR).take n)) T
    |false =>
     obtain⟨v,hv,h⟩:=h;obtain⟨a,E,C⟩:=X.get hv;refine .ret z ?_;simp only[np];rw[E];exact .mk C h
  ·exact h.elim
 |ixAddr A x i =>
  simp only[LOp.ok,Hw]at g;have j:=Ov B g.1;have hi:=Ov B g.2;simp only[N7]at h;simp only[LOp.r,Oy];generalize i.ev ρ=iv at h hi;generalize i.r.ev (ρA vD)=ia at hi ⊢;generalize x.ev ρ=v at h j;generalize x.r.ev (ρA vD)=a at j ⊢
  have gU : ∀ {kk : IntKind} {n : Int} (v : LV) (a : AV), AR c v a → ixO G A v n (fun v => K v G) → R8 P c G K (match a, AV.int kk n with
     |.sl o v i len esz _,.int _ (.ofNat n)=>match Nat.blt n len with
      |true=>match Nat.beq esz A with
       |true=>.val (.ptr o v (Nat.add i (Nat.mul n esz))) c.H
       |false=>.no
      |false=>.no
     |_,_=>.no):=by
   clear h j;intro kk n v a j h;unfold ixO at h;have gD:∀{o v jK len esz:Nat} {room:Option Nat} {m:Nat} {y:LV},m<len→esz=A→AR c y (.ptr o v (jK+m*esz))→K y G→R8 P c G K (match AV.sl o v jK len esz room,AV.int kk (Int.ofNat m) with
     |.sl o v i len esz _,.int _ (.ofNat n)=>match Nat.blt n len with
      |true=>match Nat.beq esz A with
       |true=>.val (.ptr o v (Nat.add i (Nat.mul n esz))) c.H
       |false=>.no
      |false=>.no
     |_,_=>.no):=by
    intro o v jK len esz room m y F T L h4;subst T;have b1:Nat.blt m len=true:=by unfold Nat.blt;exact Ia F
    dsimp only;rw[b1,I6];exact .same z L h4
   split at h
   ·rename_i p k;split at h
    ·rename_i l len esz gz st Y;obtain⟨gA,rfl,F,T,L⟩:=h;obtain⟨m,rfl⟩:=Hz F;cases j with
     | @dy _ _ k' hh _ e hk Z _ =>
      obtain⟨r0,r1,V⟩:=z.obj p _ _ _ Y e;have gC:=Z J;rcases V with ⟨V,r3⟩|⟨o,v,room,t,gK,l',V,_⟩
      ·omega
      ·rw[gC,V];refine gD (room:=room) (y:=.dptr p k (m*esz)) J rfl (.dptr e hk (λ_=>⟨by rw[Ix],len,esz,room,V⟩)) L
    ·exact h.elim
   ·rename_i p k lo len;split at h
    ·rename_i l gE esz gz st Y;obtain⟨gA,rfl,F,T,L⟩:=h;obtain⟨m,rfl⟩:=Hz F;cases j with
     | @vw _ _ _ _ k' hh _ e hk Z _ _ =>
      have jG:=(z.obj p _ _ _ Y e).1;rcases Z J with ⟨r3,r4⟩|⟨o,v,gB,D,room,I,r3,r4,r9⟩
      ·omega
      ·have e2:=e;rw[r3]at e2;obtain⟨_,w1,w2,w3,_⟩:=pu z Y e2;subst w2 w3;rw[r4];refine gD (room:=I) (y:=.dptr p k ((lo+m)*D)) J rfl (.dptr e hk (λ_=>⟨by rw[Iv],gB,D,room,r3⟩)) L
    ·exact h.elim
   ·rename_i l len esz;obtain⟨rfl,F,T,L⟩:=h;obtain⟨m,rfl⟩:=Hz F;cases j with
    | @lst _ _ _ _ _ _ rm _ hf gH gF hr X =>
     refine gD (room:=rm) (y:=.cptr l (m*esz)) J rfl ?_ L;rw[←gF]at hr;exact .cptr hf hr X
    |lstNil=>omega
    |lstEmp=>omega
   ·exact h.elim
  split at h
  ·cases hi;exact gU v a j h
  ·cases hi;exact gU v a j h
  ·exact h.elim
 |ixStr x i =>
  simp only[LOp.ok,Hw]at g;have j:=Ov B g.1;have hi:=Ov B g.2;simp only[N7]at h;simp only[LOp.r,Oy];generalize i.ev ρ=iv at h hi;generalize i.r.ev (ρA vD)=ia at hi ⊢;generalize x.ev ρ=v at h j;generalize x.r.ev (ρA vD)=a at j ⊢;have gD:∀{l:List UInt8} {k:IntKind} {m:Nat},m<l.length→K (.b (l.getD m 0)) G→R8 P c G K (match AV.str l.length (O8 l),AV.int k (Int.ofNat m) with
    |.str len n,.int _ (.ofNat i)=>match Nat.blt i len with
     |true=>.val (.int .u8 (Int.ofNat (Nat.mod (Nat.div n (Nat.pow 256 i)) 256))) c.H
     |false=>.no
    |_,_=>.no):=by
   intro l k m F T;have b1:Nat.blt m l.length=true:=by unfold Nat.blt;exact Ia F
   dsimp only;rw[b1];refine .same z (.b' ?_) T;have:=zkd (H6 F);show Int.ofNat (O8 l/256^m%256)=_;rw[this,Hy,H6 F];rfl
  split at h
  ·rename_i l n;obtain⟨F,T,L⟩:=h;obtain⟨m,rfl⟩:=Hz F;cases j;cases hi;exact gD (k:=.i64) J L
  ·rename_i l n;obtain⟨T,L⟩:=h;cases j;cases hi;exact gD (k:=.u64) T L
  ·rename_i l n;obtain⟨T,L⟩:=h;cases j;cases hi;exact gD (k:=.u8) T L
  ·exact h.elim
 |extract i x =>
  have j:=Ov B g;simp only[N7]at h;simp only[LOp.r,Oy];generalize x.ev ρ=v at h j;generalize x.r.ev (ρA vD)=a at j ⊢;split at h
  ·rename_i l;cases j with
   |tup X =>
    dsimp only;obtain⟨v,hv,h⟩:=h;obtain⟨a,E,C⟩:=X.get hv;refine .ret z ?_;rw[E];exact .mk C h
  ·exact h.elim
 |lenStr x =>
  have j:=Ov B g;simp only[N7]at h;simp only[LOp.r,Oy];generalize x.ev ρ=v at h j;generalize x.r.ev (ρA vD)=a at j ⊢;split at h
  ·cases j;exact .same z (.i _) h
  ·exact h.elim
 |lenSl x =>
  obtain⟨n,E,C⟩:=wg z (Ov B g) (show lenL G (x.ev ρ) (λn=>K (.i n) G) from h);simp only[LOp.r,Oy];rcases C with ⟨C,rfl⟩|⟨C,rfl⟩|⟨o,v,i,esz,room,C⟩
  ·rw[C];exact .same z (.i 0) E
  ·rw[C];exact .same z (.i 0) E
  ·rw[C];exact .same z (.i n) E
 |maxi mx x y =>
  simp only[LOp.ok,Hw]at g;have j:=Ov B g.1;have hy:=Ov B g.2;simp only[N7]at h;simp only[LOp.r,Oy,Kn,List.map_nil];generalize y.ev ρ=yv at h hy;generalize y.r.ev (ρA vD)=ya at hy ⊢;generalize x.ev ρ=v at h j;generalize x.r.ev (ρA vD)=a at j ⊢;split at h
  ·cases j;cases hy;dsimp only;rw[zoo];exact .same z (.i _) h
  ·cases j;cases hy;dsimp only;rw[maxi_u];exact .same z (.u _) h
  ·exact h.elim
 |max3 mx x y jF =>
  simp only[LOp.ok,Hw]at g;have j:=Ov B g.1.1;have hy:=Ov B g.1.2;have hz:=Ov B g.2;simp only[N7]at h;simp only[LOp.r,Oy,Kn,List.map_nil];generalize jF.ev ρ=zv at h hz;generalize jF.r.ev (ρA vD)=za at hz ⊢;generalize y.ev ρ=yv at h hy;generalize y.r.ev (ρA vD)=ya at hy ⊢;generalize x.ev ρ=v at h j;generalize x.r.ev (ρA vD)=a at j ⊢;cases v<;>first|exact h.elim|skip
  cases yv<;>first|exact h.elim|skip
  cases zv<;>first|exact h.elim|skip
  cases j;cases hy;cases hz;dsimp only;rw[ux];exact .same z (.i _) h
 |ixAddrArr len A x i =>
  simp only[LOp.ok,Hw]at g;have j:=Ov B g.1;have hi:=Ov B g.2;simp only[N7]at h;simp only[LOp.r,Oy];generalize i.ev ρ=iv at h hi;generalize i.r.ev (ρA vD)=ia at hi ⊢;generalize x.ev ρ=v at h j;generalize x.r.ev (ρA vD)=a at j ⊢;cases iv<;>first|exact h.elim|skip
  cases hi;obtain⟨F,T,h⟩:=h;rename_i n;obtain⟨m,rfl⟩:=Hz F;have b1:Nat.blt m len=true:=by unfold Nat.blt;exact Ia J
  cases v<;>first|exact h.elim|skip
  ·cases j with
   |ptr e =>
    show R8 P c G K (match Nat.blt m len with|true=>_|false=>_);rw[b1];refine .same z ?_ h;have e0:=AR.ptr (i:=0) e;rename_i p jK o;show AR c (.ptr p (jK+m*A)) (.ptr o 0 (jK+m*A));exact .ptr e
  ·cases j with
   |dptr e hk Z =>
    show R8 P c G K (match Nat.blt m len with|true=>_|false=>_);rw[b1];exact .same z (.dptr e hk (λq=>⟨by rw[(Z q).1];rfl,(Z q).2⟩)) h
  ·cases j with
   |cptr hf hr X =>
    show R8 P c G K (match Nat.blt m len with|true=>_|false=>_);rw[b1];refine .same z ?_ h;rename_i o vv jj ll;rw[show Nat.add (jj+_) (Nat.mul m A)=jj+(_+m*A) from Ke _ _ _];exact .cptr hf hr X
 |ixArr jE len A x i =>
  simp only[LOp.ok,Hw]at g;have j:=Ov B g.1;have hi:=Ov B g.2;simp only[N7]at h;simp only[LOp.r,Oy];generalize i.ev ρ=iv at h hi;generalize i.r.ev (ρA vD)=ia at hi ⊢;generalize x.ev ρ=v at h j;generalize x.r.ev (ρA vD)=a at j ⊢;cases iv<;>first|exact h.elim|skip
  cases hi;obtain⟨F,T,h⟩:=h;rename_i n;obtain⟨m,rfl⟩:=Hz F;have b1:Nat.blt m len=true:=by unfold Nat.blt;exact Ia J
  cases v<;>first|exact h.elim|skip
  cases j with
  |agg X =>
   show R8 P c G K (match Nat.blt m len with|true=>_|false=>_);rw[b1];simp only[Is]at h;cases jE with
   |true =>
    obtain⟨F,T⟩:=h;have gZ:=X.length;rename_i l';have b2:Nat.ble (Nat.add (Nat.mul m A) A) l'.length=true:=Ia (show m*A+A≤l'.length by rw[←gZ];exact F);refine .ret z ?_;simp only[np,ce,b2];exact .mk (.agg ((X.drop _).take _)) T
   |false =>
    obtain⟨v,hv,h⟩:=h;obtain⟨a,E,C⟩:=X.get hv;refine .ret z ?_;simp only[np];show Ry c _ (_);rw[show Nat.mul m A=m*A from rfl,E];exact .mk C h
 |lenArr n x =>
  simp only[N7]at h;simp only[LOp.r,Oy];exact .same z (.i _) h
 |appZ A jF s x =>
  simp only[LOp.ok,Hw]at g;have hz:=z8d c g.1.1;have g9:=Ov B g.1.2;have j:=Ov B g.2;simp only[N7]at h;simp only[LOp.r,Oy];generalize x.ev ρ=v at h j;generalize x.r.ev (ρA vD)=a at j ⊢;split at h
  ·rename_i n;obtain⟨F,T,L,h4⟩:=h;obtain⟨m,rfl⟩:=Hz F;cases j;have b1:Nat.ble m 1048576=true:=Ia J;show R8 P c G K (match Nat.ble m 1048576 with
    |true=>Xa c.H A (s.r.ev (ρA vD)) m (Uc (toAs jF) m)
    |false=>.no)
   rw[b1];exact Z6 z g9 (hz.rep m) (by rw[z7j,L]) h4
  ·exact h.elim
 |appG A s x =>
  simp only[LOp.ok,Hw]at g;have g9:=Ov B g.1;have j:=Ov B g.2;simp only[N7]at h;simp only[LOp.r,Oy];obtain⟨n,l,l',E,C,M,H,O⟩:=Yv z j h;rw[E];have b1:Nat.ble n 1048576=true:=Ia H;dsimp only;rw[b1];exact Z6 z g9 C M O
 |copy A d x =>
  simp only[LOp.ok,Hw]at g;have hd:=Ov B g.1;have j:=Ov B g.2;simp only[N7]at h;simp only[LOp.r,Oy];obtain⟨n,l,l',E,C,M,H⟩:=Yv z j h;rw[E];dsimp only;have gV:∀a b:Nat,Qo a b=min a b:=λa b=>by
   unfold Qo;cases hb:Nat.ble a b with
   |true=>have:=Ih hb;simp only;omega
   |false =>
    have:¬a≤b:=λq=>by rw[Ia q]at hb;cases hb
    simp only;omega
  generalize d.ev ρ=v at H hd;generalize d.r.ev (ρA vD)=a at hd ⊢;split at H
  ·rename_i p k;split at H
   ·rename_i r len esz gz st Y;obtain⟨gA,rfl,h⟩:=H;cases hd with
    | @dy _ _ k' hh _ e hk Z _ =>
     obtain⟨r0,r1,V⟩:=z.obj p _ _ _ Y e;have gC:=Z J;rcases V with ⟨V,r3⟩|⟨o,v,room,t,gK,r',V,r3⟩
     ·subst r3;have:r=[]:=In Dc;subst this;rw[gC,V];dsimp only;have hm:min n 0=0:=J
      rw[hm]at h;simp only[Kw,Mp]at h;obtain⟨p1,p2,_⟩:=z.upd (k':=k') (x':=hh) (ob':=.dyn (Oa [] 0 []) 0 esz gz (st+1)) (H':=c.H) Y rfl e (H9 _) (λ_ _ _=>rfl) (λo e'=>⟨.inl e',z.lt o ⟨p,_,_,_,Y,rfl,e,e'⟩⟩) (H9 _) (λ_=>rfl) (λ_=>rfl) (.inl (Jf _))
       (λ_=>⟨r0,by simp[Oa],.inl ⟨V,rfl⟩⟩)
      exact⟨⟨c.hd.set p (k',hh),c.Fz,c.H⟩,.i (0:Nat),_,rfl,p1,p2,.i _,h⟩
     ·have hw:Wa G (.dptr p k 0) (l.take (min n len*esz)) (λG'=>K (.i (min n len:Nat)) G'):=by
       unfold Wa;dsimp only;rw[Y];refine⟨gA,?_,h⟩;rw[r1,Kc,Ix];exact Ja (Nat.min_le_left _ _) (Ii _ (Nat.min_le_right _ _))
      obtain⟨o2,v2,i2,H',c',G',w1,w2,w3,w4,w5,w6⟩:=zbc z (a:=.ptr o v 0) (.dptr e hk (λ_=>⟨rfl,len,esz,room,V⟩)) (C.take (min n len*esz)) hw;cases w1;rw[gC,V];dsimp only;rw[I6,gV];dsimp only;rw[show Nat.mul (min n len) esz=min n len*esz from rfl,w2];exact⟨c',_,G',w3,w4,w5,.i _,w6⟩
   ·exact H.elim
  ·rename_i p k lo len;split at H
   ·rename_i r gE esz gz st Y;obtain⟨gA,rfl,jg,h⟩:=H;cases hd with
    | @vw _ _ _ _ k' hh _ e hk Z _ _ =>
     obtain⟨r0,r1,V⟩:=z.obj p _ _ _ Y e;have gO:len=0→(a=.nilSl∨a=.emp∧lo≠0)→R8 P c G K (.val (.int .i64 0) c.H):=by
      intro jz _;subst jz;have hm:min n 0=0:=J
      rw[hm]at h;simp only[Kw,Mp]at h;have gP:Oa r (lo*esz) []=r:=by unfold Oa;simp
      rw[gP]at h;obtain⟨p1,p2,_⟩:=z.upd (k':=k') (x':=hh) (ob':=.dyn r gE esz gz (st+1)) (H':=c.H) Y rfl e (H9 _) (λ_ _ _=>rfl) (λo e'=>⟨.inl e',z.lt o ⟨p,_,_,_,Y,rfl,e,e'⟩⟩) (H9 _) (λ_=>rfl) (λ_=>rfl) (.inl (Jf _))
       (λgQ=>(z.obj p _ _ _ Y e).mono gQ (λ_ _=>rfl))
      exact⟨⟨c.hd.set p (k',hh),c.Fz,c.H⟩,.i (0:Nat),_,rfl,p1,p2,.i _,h⟩
     rcases Z J with ⟨r3,r4⟩|⟨o,v,gB,D,room,I,r3,r4,r9⟩
     ·have:=gO r3 r4;rcases r4 with rfl|⟨rfl,_⟩
      ·exact this
      ·exact this
     ·have e2:=e;rw[r3]at e2;obtain⟨_,w1,w2,w3,_⟩:=pu z Y e2;subst w2 w3;have hw:Wa G (.dptr p k (lo*D)) (l.take (min n len*D)) (λG'=>K (.i (min n len:Nat)) G'):=by
       unfold Wa;dsimp only;rw[Y];refine⟨gA,?_,h⟩;rw[Kc];have F:min (min n len*D) l.length≤len*D:=Ja (Nat.min_le_left _ _) (Ii _ (Nat.min_le_right _ _));rw[Iv]at jg;omega
      obtain⟨o2,v2,i2,H',c',G',u1,u2,u3,u4,u5,u6⟩:=zbc z (a:=.ptr o v (lo*D)) (.dptr e hk (λ_=>⟨rfl,gB,D,room,r3⟩)) (C.take (min n len*D)) hw;cases u1;rw[r4];dsimp only;rw[I6,gV];dsimp only;rw[show Nat.mul (min n len) D=min n len*D from rfl,u2];exact⟨c',_,G',u3,u4,u5,.i _,u6⟩
   ·exact H.elim
  ·exact H.elim
 |clear A jF x =>
  simp only[LOp.ok,Hw]at g;have hz:=z8d c g.1;have j:=Ov B g.2;simp only[N7]at h;simp only[LOp.r,Oy];generalize x.ev ρ=v at h j;generalize x.r.ev (ρA vD)=a at j ⊢;split at h
  ·rename_i p k lo len;split at h
   ·rename_i r gE esz gz st Y;obtain⟨gA,rfl,jH,jg,h⟩:=h;cases j with
    | @vw _ _ _ _ k' hh _ e hk Z _ _ =>
     obtain⟨r0,r1,V⟩:=z.obj p _ _ _ Y e;have gO:len=0→R8 P c G K (.val R4 c.H):=by
      intro jz;subst jz;have gP:Oa r (lo*esz) (O6 jF 0)=r:=by unfold Oa;simp[O6]
      rw[gP]at h;obtain⟨p1,p2,_⟩:=z.upd (k':=k') (x':=hh) (ob':=.dyn r gE esz gz (st+1)) (H':=c.H) Y rfl e (H9 _) (λ_ _ _=>rfl) (λo e'=>⟨.inl e',z.lt o ⟨p,_,_,_,Y,rfl,e,e'⟩⟩) (H9 _) (λ_=>rfl) (λ_=>rfl) (.inl (Jf _))
       (λgQ=>(z.obj p _ _ _ Y e).mono gQ (λ_ _=>rfl))
      exact⟨⟨c.hd.set p (k',hh),c.Fz,c.H⟩,.any,_,rfl,p1,p2,.any _,h⟩
     rcases Z J with ⟨r3,r4⟩|⟨o,v,gB,D,room,I,r3,r4,r9⟩
     ·have:=gO r3;rcases r4 with rfl|⟨rfl,_⟩
      ·exact this
      ·exact this
     ·have e2:=e;rw[r3]at e2;obtain⟨_,w1,w2,w3,_⟩:=pu z Y e2;subst w2 w3;have hw:Wa G (.dptr p k (lo*D)) (O6 jF len) (λG'=>K .any G'):=by
       unfold Wa;dsimp only;rw[Y];refine⟨gA,?_,h⟩;rw[z7j,jH,←Iv];exact jg
      obtain⟨o2,v2,i2,H',c',G',u1,u2,u3,u4,u5,u6⟩:=zbc z (a:=.ptr o v (lo*D)) (.dptr e hk (λ_=>⟨rfl,gB,D,room,r3⟩)) (hz.rep len) hw;cases u1;rw[r4];dsimp only;rw[I6];dsimp only;rw[u2];exact⟨c',.any,G',u3,u4,u5,.any _,u6⟩
   ·exact h.elim
  ·exact h.elim
 |mkMap0=>exact ziw z h
 |mkMap1 x =>
  have j:=Ov B g;simp only[N7]at h;simp only[LOp.r,Oy];generalize x.ev ρ=v at h j;generalize x.r.ev (ρA vD)=a at j ⊢;split at h
  ·cases j;exact ziw z h
  ·exact h.elim
 |lookup d jF ok x i =>
  simp only[LOp.ok,Hw]at g;have hz:=kx c g.1.1;have j:=Ov B g.1.2;have hi:=Ov B g.2;simp only[N7]at h;simp only[LOp.r,Oy];obtain⟨es,jI,E,C,M,_⟩:=zxy z j h;rw[E];dsimp only;rcases zu6 hi C M with ⟨f1,f2⟩|⟨v,b,f1,f2,f3⟩
  ·rw[f1];dsimp only;cases ok with
   |true=>exact .same z (.tup (.cons hz (.cons (.bool _) .nil))) f2
   |false=>exact .same z hz f2
  ·rw[f1];dsimp only;cases ok with
   |true=>exact .same z (.tup (.cons f2 (.cons (.bool _) .nil))) f3
   |false=>exact .same z f2 f3
 |mapUpd d m k v =>
  simp only[LOp.ok,Hw]at g;simp only[N7]at h;simp only[LOp.r,Oy];exact dw z (Ov B g.1.1) (Ov B g.1.2) (Ov B g.2) h
 |lenMap x =>
  have j:=Ov B g;simp only[N7]at h;simp only[LOp.r,Oy];obtain⟨es,jI,E,C,M,H⟩:=zxy z j h;have gF:∀{l:List (LV×LV×Nat)} {r:List (AV×AV×Nat)},MRs c l r→l.length=r.length:=by
   intro l r hr
   induction hr with
   |nil=>rfl
   |cons _ _ _ ih=>simp[ih]
  rcases H with ⟨e1,rfl⟩|⟨o,ck,e1,e2⟩
  ·rw[e1];cases C;exact .same z (.i 0) M
  ·rw[e1];dsimp only;rw[e2];dsimp only;rw[←gF C];exact .same z (.i _) M
 |slArr n A x lo hi =>
  simp only[LOp.ok,Hw]at g;have j:=Ov B g.1.1;simp only[N7]at h;simp only[LOp.r,Oy];generalize x.ev ρ=v at h j;generalize x.r.ev (ρA vD)=a at j ⊢;split at h
  ·rename_i p i;split at h
   ·rename_i l st Y;obtain⟨h0,h⟩:=h;obtain⟨gg,U,E,C,M⟩:=Wf B g.1.2 h;obtain⟨Q,R,H,O,q6⟩:=Wf B g.2 M;rw[E,H];obtain⟨F,T,L⟩:=q6;cases j with
    | @ptr _ _ o e =>
     obtain⟨t,l',V,r3,r4⟩:=znw z Y e;obtain⟨a2,p1,p2,p3⟩:=z9v (lo:=gg) (hi:=Q) (o:=o) (v:=0) (i:=i) (len:=n) (esz:=A) (room:=some n) Cj Cr (λr e=>by cases e;exact H9 _);have b1:Nat.ble (Nat.add i (Nat.mul n A)) l.length=true:=Ia h0;simp only[Pu,V,b1];rw[p1];rw[C,O]at p3;obtain⟨u1,u2⟩:=z.freeze (st:=st+1) Y rfl (Jf _) e (rfl:Ny (.ptr o 0 0)=some o);have jC:i+U*A+(R-U)*A≤l.length:=by
      rw[Ke,←Iv];have:(U+(R-U))*A≤n*A:=Ii _ J;omega
     refine⟨⟨c.hd,λq=>c.Fz q∨q=o,c.H⟩,_,_,rfl,u1,u2,?_,L⟩;rcases p3 with ⟨e1,rfl,_⟩|⟨room,rfl,gH⟩
     ·rw[e1];simp only[Kw,Mp];exact .lstEmp
     ·refine .lst (.inr rfl) gH Ab (V7 V r3 (H9 _) jC) (ARs.mono u2.le ((r4.drop _).take _))
   ·exact h.elim
  ·exact h.elim
 |callV f gG =>
  simp only[LOp.ok,Hw]at g;have hf:=Ov B g.1;have Z:=zvc B g.2;simp only[N7]at h;simp only[LOp.r,Oy];generalize f.ev ρ=v at h hf;generalize f.r.ev (ρA vD)=a at hf ⊢;split at h
  ·rename_i jE l r;have jD:=h.1;cases hf with
   |fn X hr =>
    rename_i l' r';have gD:zj3 P c.H (.fn (.func jE) l' r') ((xa gG).map (·.ev (ρA vD)))=.call (.fn jE) (l'++(xa gG).map (·.ev (ρA vD))++r'):=by
     have k2:qj P (.fn (.func jE) l' r') ((xa gG).map (·.ev (ρA vD)))=.call (.fn jE) (l'++(xa gG).map (·.ev (ρA vD))++r'):=by
      unfold qj;dsimp only;rw[H7 jD.1]
     unfold zj3;split
     ·rename_i g' e;cases e;rw[jD.2];exact k2
     ·exact k2
    rw[gD];exact⟨.fn jE,_,rfl,(X.append Z).append hr,h⟩
  ·rename_i p r;cases hf with
   |yield e=>exact⟨.yield p,_,e,Z,h⟩
  ·exact h.elim
end res
end
section
noncomputable section
structure RI where
 d:Option Nat
 g:Option (Nat×Bool)
 o:ROp
def dstOk(n:Nat):Option Nat→Bool
 |none=>true
 |some d=>Nat.blt d n
def zc(P:Program)(n:Nat)(ops:Array Oper)(o:Oper):Option RI :=
 match dstOk n o.dst with
 |false=>none
 |true=>match S5 P o.op with
  |none=>none
  |some r=>match o.guard with
   |none=>some ⟨o.dst,none,r⟩
   |some (g,w)=>match (ops[g]?).bind (·.dst) with
    |none=>none
    |some t=>match Nat.ble t Qp with
     |true=>some ⟨o.dst,some (t,w),r⟩
     |false=>none
def zcw(P:Program)(n:Nat)(ops:Array Oper):List Oper→Option (List RI)
 |[]=>some []
 |o::l=>match zc P n ops o with
  |none=>none
  |some r=>match zcw P n ops l with
   |none=>none
   |some g=>some (r::g)
structure LI where
 d:Option Nat
 g:Option (Nat×Bool)
 o:LOp
def LI.r(x:LI):RI:=⟨x.d,x.g,x.o.r⟩
def lis:List LI→List RI
 |[]=>[]
 |x::l=>x.r::lis l
def ff(g:Option (Nat×Bool))(j:Tr AV):Bool:=match g with
 |none=>true
 |some (t,w)=>match M4 (Nm t) j with
  |some (.bool b)=>match b with
   |true=>w
   |false=>!w
  |_=>false
def qg(P:Program)(x:RI)(k:Ri)(z:Tr AV)(A:Heap):OE:=match ff x.g z with
 |false=>.ok (Pd x.d R4 z) A
 |true=>match Oy P (ρA z) A x.o with
  |.no=>.no
  |.val v j=>.ok (Pd x.d v z) j
  |.call t g=>match k t g A with
   |.no=>.no
   |.ok v j=>.ok (Pd x.d v z) j
def zh4{P:Program}{n:Nat}{ops:Array Oper}{o:Oper}{x:RI}(h:zc P n ops o=some x)(k:Ri)(z:Tr AV)(I:Heap):(Rf P n ops o).run k z I=qg P x k z I:=by
 unfold zc at h;cases hd:dstOk n o.dst with
 |false=>rw[hd]at h;cases h
 |true =>
  rw[hd]at h;dsimp only at h;cases B:S5 P o.op with
  |none=>rw[B]at h;cases h
  |some r =>
   rw[B]at h;dsimp only at h;have K:∃p,Re n o.dst=some p∧∀a z,p.run a z=Pd o.dst a z:=by
    cases C:o.dst with
    |none=>exact⟨_,rfl,λ_ _=>rfl⟩
    |some d =>
     rw[C]at hd;have D:d<n:=Ih hd;unfold Re;dsimp only;rw[H7 D];exact⟨_,rfl,λ_ _=>rfl⟩
   obtain⟨p,E,g⟩:=K;have L:x.d=o.dst∧x.o=r∧(Sx ops o).run z=ff x.g z:=by
    cases A:o.guard with
    |none =>
     rw[A]at h;cases h;refine⟨rfl,rfl,?_⟩;unfold Sx;rw[A];rfl
    |some M =>
     obtain⟨U,w⟩:=M;rw[A]at h;dsimp only at h;cases F:(ops[U]?).bind (·.dst) with
     |none=>rw[F]at h;cases h
     |some t =>
      rw[F]at h;dsimp only at h;cases H:Nat.ble t Qp with
      |false=>rw[H]at h;cases h
      |true =>
       rw[H]at h;cases h;refine⟨rfl,rfl,?_⟩;unfold Sx;rw[A];dsimp only;rw[F];dsimp only;rw[H7 (Ih H)];rfl
   obtain⟨O,Q,R⟩:=L;unfold Rf qg;rw[E];dsimp only;rw[R,O,Q,ztr (zsz z) B I];cases ff x.g z with
   |false=>simp only[g]
   |true =>
    dsimp only;cases Oy P (ρA z) I r with
    |no=>rfl
    |val v T=>simp only[g]
    |call t j =>
     dsimp only;cases k t j I with
     |no=>rfl
     |ok v T=>simp only[g]
def zw9{P:Program}{x:RI}{k A:Ri}(E:k.le A){B:Tr AV}{C:Heap}(h:qg P x k vD vT=.ok B C):qg P x A vD vT=.ok B C:=by
 unfold qg at h ⊢;cases D:ff x.g vD with
 |false=>rw[D]at h;exact h
 |true =>
  rw[D]at h;dsimp only at h ⊢;cases j:Oy P (ρA vD) vT x.o with
  |no=>rw[j]at h;cases h
  |val v F=>rw[j]at h;exact h
  |call t g =>
   rw[j]at h;dsimp only at h ⊢;cases z:k t g vT with
   |no=>rw[z]at h;cases h
   |ok v F=>rw[z]at h;rw[E _ _ _ _ _ z];exact h
def Sq(g:M2)(d:Option Nat)(v:LV):M2:=match d with
 |none=>g
 |some d=>(d,v)::g
def setL(t:Nat)(v:LV):M2→M2
 |[]=>[]
 |(d,x)::l=>if t=d then (d,v)::l else (d,x)::setL t v l
def sg(v:LV)(g j z:Prop):Prop:=match v with
 |.bool t=>Tv t g j
 |.tup []=>z
 |_=>False
def cq(P:Program)(x:LI)(g:M2)(G:M0)(z:M2→M0→Prop):Prop:=match x.g with
 |none=>N7 P g G x.o λv j=>z (Sq g x.d v) j
 |some (t,true)=>sg (lk g t) (N7 P (setL t (.bool true) g) G x.o λv j=>z (Sq (setL t (.bool true) g) x.d v) j) (z (Sq (setL t (.bool false) g) x.d (.tup [])) G) (z (Sq g x.d (.tup [])) G)
 |some (t,false)=>sg (lk g t) (z (Sq (setL t (.bool true) g) x.d (.tup [])) G) (N7 P (setL t (.bool false) g) G x.o λv j=>z (Sq (setL t (.bool false) g) x.d v) j) (z (Sq g x.d (.tup [])) G)
def mj{v:LV}{g:Prop}(h:brV v uT g):∃b,v=.bool b∧(b=true→uT)∧(b=false→g):=by
 cases v with
 |bool b=>exact⟨b,rfl,h⟩
 |_=>exact h.elim
def zrf{v:LV}{g j:Prop}(h:sg v uT g j):(∃b,v=.bool b∧(b=true→uT)∧(b=false→g))∨v=.tup []∧j:=by
 unfold sg at h;split at h
 ·exact .inl ⟨_,rfl,h⟩
 ·exact .inr ⟨rfl,h⟩
 ·exact h.elim
def zxz{P:Program}{x:LI}{t:Nat}{w:Bool}(z:x.g=some (t,w)){g:M2}{G:M0}{j:M2→M0→Prop}(h:cq P x g G j) :
  (∃b,lk g t=.bool b∧(b=w→N7 P (setL t (.bool w) g) G x.o λv A=>j (Sq (setL t (.bool w) g) x.d v) A)∧(b=!w→j (Sq (setL t (.bool (!w)) g) x.d (.tup [])) G))∨lk g t=.tup []∧j (Sq g x.d (.tup [])) G:=by
 unfold cq at h;rw[z]at h;cases w with
 |true=>exact zrf h
 |false =>
  rcases zrf h with ⟨b,e,B,C⟩|h
  ·exact .inl ⟨b,e,C,B⟩
  ·exact .inr h
def Us(P:Program):List LI→M2→M0→(M2→M0→Prop)→Prop
 |[],g,G,j=>j g G
 |x::l,g,G,j=>cq P x g G λz A=>Us P l z A j
def Oe.put{c:Cx}{ρ:M2}{E:Tr AV}(h:Oe c ρ E){v:LV}{a:AV}(ha:AR c v a)(d:Option Nat):Oe c (Sq ρ d v) (Pd d a E):=by
 cases d with
 |none=>exact h
 |some d =>
  intro t;show AR c (lk ((d,v)::ρ) t) ((M4 (Nm t) (Ow a (Nm d) E)).getD R4);rw[zj6,zil];by_cases e:t=d
  ·rw[H7 e,H7 e];exact ha
  ·rw[Hv e,Hv e];exact h t
def zxh(t:Nat)(v:LV):∀(z:M2) (g:Nat),lk (setL t v z) g=lk z g∨(g=t∧lk (setL t v z) g=v)
 |[],_=>.inl rfl
 |(d,x)::l,g=>by
  simp only[setL];by_cases h:t=d
  ·rw[H7 h];simp only[zil];by_cases j:g=d
   ·rw[H7 j];exact .inr ⟨J,rfl⟩
   ·rw[Hv j,Hv j];exact .inl rfl
  ·rw[Hv h];simp only[zil];by_cases j:g=d
   ·rw[H7 j,H7 j];exact .inl rfl
   ·rw[Hv j,Hv j];exact zxh t v l g
def Oe.setL{c:Cx}{ρ:M2}{E:Tr AV}(h:Oe c ρ E){t:Nat}{v:LV}(ha:AR c v ((M4 (Nm t) E).getD R4)):Oe c (Sv.setL t v ρ) E:=by
 intro t';rcases zxh t v ρ t' with e|⟨rfl,e⟩
 ·rw[e];exact h t'
 ·rw[e];exact ha
section run
variable {P : Program} {c : Cx} {G : M0}
def m8(M:HSim c G){R:M2}(A:Oe c R vD){x:LI}(T:x.o.ok=true){gg:M2→M0→Prop}(h:cq P x R G gg) :
  ∃m I j K z,qg P x.r (So P (OL P) m) vD c.H=.ok I j.H∧HSim j z∧Step c G j z∧Oe j K I∧gg K z:=by
 have D:∀R,Oe c R vD→(N7 P R G x.o λv z=>gg (Sq R x.d v) z)→ff x.g vD=true→∃m I j K z,qg P x.r (So P (OL P) m) vD c.H=.ok I j.H∧HSim j z∧Step c G j z∧Oe j K I∧gg K z:=by
  intro R A h L;have E:=OpL_ok M A T h;unfold R8 at E;unfold qg;rw[show x.r.g=x.g from rfl,L];dsimp only[LI.r];cases he:Oy P (ρA vD) c.H x.o.r with
  |no=>rw[he]at E;exact E.elim
  |val v1 H' =>
   rw[he]at E;obtain⟨j,v,z,rfl,U,O,q4,q5⟩:=E;exact⟨0,_,j,_,z,rfl,U,O,(A.mono O.le).put q4 x.d,q5⟩
  |call t1 F =>
   rw[he]at E;obtain⟨t,Y,q1,U,_,O⟩:=E;obtain⟨m,v1,H',r1,j,v,z,rfl,r3,Z,r5,r6⟩:=O c t1 F M q1 U;refine⟨m,_,j,_,z,?_,r3,Z,(A.mono Z.le).put r5 x.d,r6⟩;dsimp only;rw[r1]
 cases B:x.g with
 |none =>
  unfold cq at h;rw[B]at h;exact D R A h (by rw[B];rfl)
 |some tw =>
  obtain⟨t,w⟩:=tw;have L:=B;rcases zxz B h with ⟨b,V,h⟩|⟨V,h⟩
  rotate_left
  ·have C:=A t;rw[V]at C;have H:ff x.g vD=false:=by
    rw[L];unfold ff;dsimp only;cases Q:M4 (Nm t) vD with
    |none=>rfl
    |some a=>rw[Q]at C;cases C;rfl
   refine⟨0,_,c,_,G,?_,M,.refl c G,A.put (.tup .nil) x.d,h⟩;unfold qg;rw[show x.r.g=x.g from rfl,H];rfl
  ·have C:=A t;rw[V]at C;have g:M4 (Nm t) vD=some (.bool b):=by
    cases Q:M4 (Nm t) vD with
    |none=>rw[Q]at C;cases C
    |some a=>rw[Q]at C;cases C;rfl
   by_cases e:b=w
   ·refine D _ (A.setL (by rw[g,←e];exact .bool b)) (h.1 e) ?_;rw[L];unfold ff;dsimp only;rw[g,e];cases w<;>rfl
   ·have X:b=!w:=by cases b<;>cases w<;>simp_all
    refine⟨0,_,c,_,G,?_,M,.refl c G,(A.setL (by rw[g,←X];exact .bool b)).put (.tup .nil) x.d,h.2 X⟩;have H:ff x.g vD=false:=by
     rw[L];unfold ff;dsimp only;rw[g,X];cases w<;>rfl
    unfold qg;rw[show x.r.g=x.g from rfl,H];rfl
def zy1{n:Nat}{ops:Array Oper}:∀{l:List LI} {j:List Oper} {c:Cx} {G:M0} {K:M2} {L:Tr AV} {M:M2→M0→Prop},zcw P n ops j=some (lis l)→l.all (·.o.ok)=true→HSim c G→Oe c K L→Us P l K G M →
  ∃m O B C A,(qx P n ops j).run (So P (OL P) m) L c.H=.ok O B.H∧HSim B A∧Step c G B A∧Oe B C O∧M C A
 |[],j,c,G,K,L,M,g,_,D,E,h=>by
  cases j with
  |nil=>exact⟨0,L,c,K,G,rfl,D,.refl c G,E,h⟩
  |cons o j =>
   simp only[zcw]at g;split at g
   ·cases g
   ·split at g<;>cases g
 |x::l,j,c,G,K,L,M,g,z,D,E,h=>by
  cases j with
  |nil=>cases g
  |cons o j =>
   simp only[zcw]at g;split at g
   ·cases g
   ·rename_i r F;split at g
    ·cases g
    ·rename_i rs H;simp only[lis,Option.some.injEq,List.cons.injEq]at g;obtain⟨rfl,rfl⟩:=g;simp only[Kf,Hw]at z;obtain⟨m1,E1,c1,ρ1,G1,R,Q,T,U,V⟩:=m8 D E z.1 (show cq P x K G λC A=>Us P l C A M from h);obtain⟨I,X,Y,Z,G2,q1,q2,q3,q4,q5⟩:=zy1 H z.2 Q U V;refine⟨max m1 I,X,Y,Z,G2,?_,q2,.trans D Q T q3,q4,q5⟩;simp only[qx];rw[zh4 F,zw9 (qr (Kj m1 I)) R];dsimp only;exact zb7 (qr (K5 m1 I)) q1
end run
end
end
section
noncomputable section
inductive RC where
 |skip
 |ops (l:List RI)
 |draw (l:List (RI×List (RI×Bool)))
 |seq (a b:RC)
 |cond (c:Ox) (a b:RC)
 |block (id:Nat) (c:RC)
 |loop (c:RC)
 |rangeF (g:Ox) (ps:List Nat) (a b:RC)
 |exit (id:Nat)
 |scope (c:RC)
 |label
 |ret
 |stuck
inductive LC where
 |skip
 |ops (l:List LI)
 |draw (l:List (LI×List (LI×Bool)))
 |seq (a b:LC)
 |cond (c:Lx) (a b:LC)
 |block (id:Nat) (c:LC)
 |loop (c:LC)
 |rangeF (g:Lx) (ps:List Nat) (a b:LC)
 |exit (id:Nat)
 |scope (c:LC)
 |label
 |ret
 |stuck
def Wt(t:Nat):List Nat→Bool
 |[]=>false
 |a::l=>match Nat.beq t a with
  |true=>true
  |false=>Wt t l
def Zr(ops:Array Oper)(d:Option Nat)(x:DOp):Bool:=match d with
 |none=>true
 |some d=>match Wt d (U9 ops x.o) with
  |true=>false
  |false=>match x.o.dst with
   |none=>true
   |some e=>!(Nat.beq d e)
def Vu(x:DOp):Bool:=match x.c with
 |.al=>true
 |_=>false
def zm6(P:Program)(n:Nat)(ops:Array Oper):List DOp→Option (List (RI×Bool))
 |[]=>some []
 |x::l=>match zc P n ops x.o with
  |none=>none
  |some r=>match zm6 P n ops l with
   |none=>none
   |some g=>some ((r,Vu x)::g)
def eqCls:Cls→Cls→Bool
 |.quiet,.quiet=>true
 |.rd,.rd=>true
 |.al,.al=>true
 |.ch,.ch=>true
 |_,_=>false
def zk6(ops:Array Oper)(x:DOp):Bool:=match x.o.dst with
 |none=>false
 |some d=>!(Wt d (U9 ops x.o))
def zk(P:Program)(n:Nat)(ops:Array Oper):List DOp→List DOp→Option (List (RI×List (RI×Bool)))
 |[],_=>some []
 |x::l,g=>match Wr (Zr ops x.o.dst) g&&eqCls x.c (cls P x.o.op) with
  |false=>none
  |true=>match zc P n ops x.o with
   |none=>none
   |some r=>match x.c with
    |.quiet=>match zk P n ops l g with
     |none=>none
     |some j=>some ((r,[])::j)
    |.rd=>match zk6 ops x with
     |false=>none
     |true=>match zk P n ops l (x::g) with
      |none=>none
      |some j=>some ((r,[])::j)
    |.al=>match zk6 ops x with
     |false=>none
     |true=>match zm6 P n ops g with
      |none=>none
      |some z=>match zk P n ops l (x::g) with
       |none=>none
       |some j=>some ((r,z)::j)
    |.ch=>match zm6 P n ops (N9 (λy=>!(Nat.testBit x.m y.i)) g) with
     |none=>none
     |some z=>match zk P n ops l (N9 (λy=>!(Nat.testBit x.m y.i)) g) with
      |none=>none
      |some j=>some ((r,z)::j)
def zsx(P:Program)(n:Nat)(ops:Array Oper):Option (List (RI×List (RI×Bool))) :=
 let z:=Q1 P ops ops.toList [] 0;let g:=N9 Nf z;let j:=W6 z g
 match X7 ops.size z j with
 |true=>zk P n ops j []
 |false=>none
def N6(P:Program)(n:Nat):Code→Option RC
 |.skip=>some .skip
 |.region _ ops draw=>match draw with
  |true=>match zsx P n ops with
   |none=>some .stuck
   |some l=>some (.draw l)
  |false=>match zcw P n ops ops.toList with
   |none=>some .stuck
   |some l=>some (.ops l)
 |.seq a b=>match N6 P n a with
  |none=>none
  |some a=>match N6 P n b with
   |none=>none
   |some b=>some (.seq a b)
 |.cond c a b=>match Oi c with
  |none=>none
  |some c=>match N6 P n a with
   |none=>none
   |some a=>match N6 P n b with
    |none=>none
    |some b=>some (.cond c a b)
 |.block id c=>match N6 P n c with
  |none=>none
  |some c=>some (.block id c)
 |.loop c=>match N6 P n c with
  |none=>none
  |some c=>some (.loop c)
 |.rangeFunc g j a b=>match Oi g with
  |none=>none
  |some g=>match N6 P n a with
   |none=>none
   |some a=>match N6 P n b with
    |none=>none
    |some b=>some (.rangeF g j.toList a b)
 |.exit id=>some (.exit id)
 |.scope c=>match N6 P n c with
  |none=>none
  |some c=>some (.scope c)
 |.label _=>some .label
 |.ret=>some .ret
 |_=>some .stuck
def rck:List (LI×Bool)→List (RI×Bool)
 |[]=>[]
 |(x,b)::l=>(x.r,b)::rck l
def rdr:List (LI×List (LI×Bool))→List (RI×List (RI×Bool))
 |[]=>[]
 |(x,c)::l=>(x.r,rck c)::rdr l
def LC.r:LC→RC
 |.skip=>.skip
 |.ops l=>.ops (lis l)
 |.draw l=>.draw (rdr l)
 |.seq a b=>.seq a.r b.r
 |.cond c a b=>.cond c.r a.r b.r
 |.block id c=>.block id c.r
 |.loop c=>.loop c.r
 |.rangeF g ps a b=>.rangeF g.r ps a.r b.r
 |.exit id=>.exit id
 |.scope c=>.scope c.r
 |.label=>.label
 |.ret=>.ret
 |.stuck=>.stuck
def LC.ok:LC→Bool
 |.ops l=>l.all (·.o.ok)
 |.draw l=>l.all λx=>x.1.o.ok&&x.2.all (·.1.o.ok)
 |.seq a b=>a.ok&&b.ok
 |.cond c a b=>c.ok&&a.ok&&b.ok
 |.block _ c=>c.ok
 |.loop c=>c.ok
 |.rangeF g _ a b=>g.ok&&a.ok&&b.ok
 |.scope c=>c.ok
 |_=>true
abbrev Qd:=Ex→M2→List Nat→M0→Prop
inductive DRs (c:Cx):List Nat→List Nat→Prop where
 |nil:DRs c [] []
 |cons {p o:Nat} {l r:List Nat} (h:c.hd[p]?=some (0,.ptr o 0 0)) (hs:DRs c l r):DRs c (p::l) (o::r)
def DRs.mono{c c':Cx}(h:CxLe c c'):∀{l r:List Nat},DRs c l r→DRs c' l r
 |_,_,.nil=>.nil
 |_,_,.cons e es=>.cons (h.fix e rfl) (DRs.mono h es)
def ROr(c:Cx):Option Nat→Option Nat→Prop
 |none,none=>True
 |some p,some o=>c.hd[p]?=some (0,.ptr o 0 0)
 |_,_=>False
def ROr.mono{c:Cx}(h:CxLe c vB){a b:Option Nat}(k:ROr c a b):ROr vB a b:=by
 cases a<;>cases b<;>first|exact k|exact h.fix k rfl
def W(P:Program)(f n:Nat)(s:LC)(ro:Option Nat)(ρ:M2)(D:List Nat)(G:M0)(Q:Qd):Prop :=
 ∀(g:Code) (c:Cx) (I:Tr AV) (C:List Nat) (j:Option Nat),N6 P n g=some s.r→s.ok=true→HSim c G→Oe c ρ I→DRs c D C→ROr c ro j →
  ∃m x E z A F H B,(Qf P f n g).run (So P (OL P) m) m j I C c.H=.ok x E z A.H∧HSim A B∧Step c G A B∧Oe A F E∧DRs A H z∧Q x F H B
section rules
variable {P : Program} {f n : Nat} {ro : Option Nat} {ρ : M2} {D : List Nat} {G : M0} {Q : Qd}
def W.post{s:LC}{Q':Qd}(h:W P f n s ro ρ D G Q)(hq:∀x ρ D G,Q x ρ D G→Q' x ρ D G):W P f n s ro ρ D G Q':=by
 intro code c E D1 gg h1 h2 h3 h4 h5 h6;obtain⟨m,x,E',gz,c',ρ',D',G',q1,q2,q3,q4,q5,q6⟩:=h code c E D1 gg h1 h2 h3 h4 h5 h6;exact⟨m,x,E',gz,c',ρ',D',G',q1,q2,q3,q4,q5,hq _ _ _ _ q6⟩
def nm(h:N6 P n uU=some .skip):uU=.skip:=by
 cases uU<;>simp only[N6]at h<;>first|rfl|(repeat' split at h)<;>cases h
def ve{l:List RI}(h:N6 P n uU=some (.ops l)):∃id ops,uU=.region id ops false∧zcw P n ops ops.toList=some l:=by
 cases uU<;>simp only[N6]at h<;>(repeat' split at h)<;>cases h;exact⟨_,_,rfl,‹_›⟩
def ki{l:List (RI×List (RI×Bool))}(h:N6 P n uU=some (.draw l)):∃id ops,uU=.region id ops true∧zsx P n ops=some l:=by
 cases uU<;>simp only[N6]at h<;>(repeat' split at h)<;>cases h;exact⟨_,_,rfl,‹_›⟩
def vt{a b:RC}(h:N6 P n uU=some (.seq a b)):∃g j,uU=.seq g j∧N6 P n g=some a∧N6 P n j=some b:=by
 cases uU<;>simp only[N6]at h<;>(repeat' split at h)<;>cases h;exact⟨_,_,rfl,‹_›,‹_›⟩
def gu{x:Ox}{a b:RC}(h:N6 P n uU=some (.cond x a b)):∃g j z,uU=.cond g j z∧Oi g=some x∧N6 P n j=some a∧N6 P n z=some b:=by
 cases uU<;>simp only[N6]at h<;>(repeat' split at h)<;>cases h;exact⟨_,_,_,rfl,‹_›,‹_›,‹_›⟩
def bi{id:Nat}{a:RC}(h:N6 P n uU=some (.block id a)):∃g,uU=.block id g∧N6 P n g=some a:=by
 cases uU<;>simp only[N6]at h<;>(repeat' split at h)<;>cases h;exact⟨_,rfl,‹_›⟩
def pk{a:RC}(h:N6 P n uU=some (.loop a)):∃g,uU=.loop g∧N6 P n g=some a:=by
 cases uU<;>simp only[N6]at h<;>(repeat' split at h)<;>cases h;exact⟨_,rfl,‹_›⟩
def i0{id:Nat}(h:N6 P n uU=some (.exit id)):uU=.exit id:=by
 cases uU<;>simp only[N6]at h<;>(repeat' split at h)<;>cases h;rfl
def zyi{a:RC}(h:N6 P n uU=some (.scope a)):∃g,uU=.scope g∧N6 P n g=some a:=by
 cases uU<;>simp only[N6]at h<;>(repeat' split at h)<;>cases h;exact⟨_,rfl,‹_›⟩
def zyn(h:N6 P n uU=some .label):∃s,uU=.label s:=by
 cases uU<;>simp only[N6]at h<;>(repeat' split at h)<;>cases h;exact⟨_,rfl⟩
def yn(h:N6 P n uU=some .ret):uU=.ret:=by
 cases uU<;>simp only[N6]at h<;>first|rfl|(repeat' split at h)<;>cases h
def W_skip(h:Q .normal ρ D G):W P f n .skip ro ρ D G Q:=by
 intro g c F j z A H B C E I;obtain rfl:=nm A;exact⟨0,.normal,F,j,c,ρ,D,G,rfl,B,.refl c G,C,E,h⟩
def vm(h:Q .normal ρ D G):W P f n .label ro ρ D G Q:=by
 intro g c F j z A H B C E I;obtain⟨s,rfl⟩:=zyn A;exact⟨0,.normal,F,j,c,ρ,D,G,rfl,B,.refl c G,C,E,h⟩
def W_exit{id:Nat}(h:Q (.exit id) ρ D G):W P f n (.exit id) ro ρ D G Q:=by
 intro g c F j z A H B C E I;obtain rfl:=i0 A;exact⟨0,.exit id,F,j,c,ρ,D,G,rfl,B,.refl c G,C,E,h⟩
def W_ret(h:Q .ret ρ D G):W P f n .ret ro ρ D G Q:=by
 intro g c F j z A H B C E I;obtain rfl:=yn A;exact⟨0,.ret,F,j,c,ρ,D,G,rfl,B,.refl c G,C,E,h⟩
def ul{s:LC}(h:W P f n s ro ρ D G Q):W P f n (.scope s) ro ρ D G Q:=by
 intro z c L A g B C E F H I;obtain⟨K,rfl,j⟩:=zyi B;exact h K c L A g j C E F H I
def W_ops{l:List LI}(h:Us P l ρ G λg j=>Q .normal g D j):W P f n (.ops l) ro ρ D G Q:=by
 intro z c Y B C E F H I K X;obtain⟨id,ops,rfl,L⟩:=ve E;obtain⟨m,M,O,g,j,R,T,A,U,V⟩:=zy1 L F H I h;refine⟨m,.normal,M,B,O,g,D,j,?_,T,A,U,K.mono A.le,V⟩;simp only[Qf];rw[R]
def ip{a b:LC}(h:W P f n a ro ρ D G λx j z A=>match x with
  |.normal=>W P f n b ro j z A Q
  |x=>Q x j z A):W P f n (.seq a b) ro ρ D G Q:=by
 intro U c gg Y B Z H V h4 h5 X;obtain⟨ca,cb,rfl,ha,hb⟩:=vt Z;simp only[LC.ok,Hw]at H;obtain⟨m,x,I,g,K,j,z,A,L,E,F,M,O,R⟩:=h ca c gg Y B ha H.1 V h4 h5 X;cases x with
 |normal =>
  obtain⟨C,x,E2,D2,c2,ρ2,T,G2,r1,r2,r3,r4,r5,r6⟩:=R cb K I g B hb H.2 E M O (X.mono F.le);refine⟨max m C,x,E2,D2,c2,ρ2,T,G2,?_,r2,.trans V E F r3,r4,r5,r6⟩;simp only[Qf];rw[z2e (qr (Kj m C)) (Kj m C) _ L];exact z2e (qr (K5 m C)) (K5 m C) _ r1
 |exit id =>
  refine⟨m,.exit id,I,g,K,j,z,A,?_,E,F,M,O,R⟩;simp only[Qf];rw[L]
 |ret =>
  refine⟨m,.ret,I,g,K,j,z,A,?_,E,F,M,O,R⟩;simp only[Qf];rw[L]
def W_cond{x:Lx}{a b:LC}{t:Bool}(hx:x.ev ρ=.bool t)(ha:t=true→W P f n a ro ρ D G Q)(hb:t=false→W P f n b ro ρ D G Q):W P f n (.cond x a b) ro ρ D G Q:=by
 intro T c U V j h1 z X A Y Z;obtain⟨cx,ca,cb,rfl,B,C,E⟩:=gu h1;simp only[LC.ok,Hw]at z;have hv:=Ov A z.1.1;have F:=Ut B (zsz U);have H:x.r.ev (ρA U)=.bool t:=by
  rw[hx]at hv;generalize x.r.ev (ρA U)=w at hv;cases hv;rfl
 rw[H]at F;cases t with
 |true =>
  obtain⟨m,x,I,g,K,L,M,O,R,q⟩:=ha rfl ca c U V j C z.1.2 X A Y Z;refine⟨m,x,I,g,K,L,M,O,?_,q⟩;simp only[Qf];rw[F];exact R
 |false =>
  obtain⟨m,x,I,g,K,L,M,O,R,q⟩:=hb rfl cb c U V j E z.2 X A Y Z;refine⟨m,x,I,g,K,L,M,O,?_,q⟩;simp only[Qf];rw[F];exact R
def us{id:Nat}{s:LC}(h:W P f n s ro ρ D G λx j z A=>match x with
  |.exit i=>if i=id then Q .normal j z A else Q (.exit i) j z A
  |x=>Q x j z A):W P f n (.block id s) ro ρ D G Q:=by
 intro R c gg T M U V X Y Z h6;obtain⟨ca,rfl,O⟩:=bi U;obtain⟨m,x,C,g,E,j,z,A,F,H,I,K,L,B⟩:=h ca c gg T M O V X Y Z h6;cases x with
 |normal =>
  refine⟨m,.normal,C,g,E,j,z,A,?_,H,I,K,L,B⟩;simp only[Qf];rw[F]
 |exit i =>
  dsimp only at B;by_cases e:i=id
  ·rw[H7 e]at B;refine⟨m,.normal,C,g,E,j,z,A,?_,H,I,K,L,B⟩;simp only[Qf];rw[F,e];dsimp only;rw[I6]
  ·rw[Hv e]at B;refine⟨m,.exit i,C,g,E,j,z,A,?_,H,I,K,L,B⟩;simp only[Qf];rw[F];dsimp only;cases hb:Nat.beq i id with
   |true=>exact absurd (Ic hb) e
   |false=>rfl
 |ret =>
  refine⟨m,.ret,C,g,E,j,z,A,?_,H,I,K,L,B⟩;simp only[Qf];rw[F]
def ii{s:LC}(gD:M2→List Nat→M0→Nat→Prop)(h0:gD ρ D G g)
  (h:∀g ρ D G,gD ρ D G g→W P f n s ro ρ D G λx A B z=>match x with
   |.normal=>∃M,M<g∧gD A B z M
   |x=>Q x A B z):W P f n (.loop s) ro ρ D G Q:=by
 intro gC c gB H F h1 h2 O V X R;obtain⟨ca,rfl,Y⟩:=pk h1;have Z:∀g,∀(c:Cx) (gB:Tr AV) (H:List Nat) (ρ:M2) (D:List Nat) (G:M0),gD ρ D G g→HSim c G→Oe c ρ gB→DRs c D H→ROr c ro F →
   ∃m I x E j C A B z,gy ((Qf P f n ca).run (So P (OL P) m) m F) I gB H c.H=.ok x E j C.H∧HSim C z∧Step c G C z∧Oe C A E∧DRs C B j∧Q x A B z:=by
  intro g
  induction g using Nat.strongRecOn with
  |_ g ih =>
   intro c gB H ρ D G hI O V X R;obtain⟨m,x,E,j,C,A,B,z,K,T,U,q4,q5,q6⟩:=h g ρ D G hI ca c gB H F Y h2 O V X R;cases x with
   |normal =>
    obtain⟨M,hN,gg⟩:=q6;obtain⟨L,gz,x,E2,D2,c2,ρ2,gA,G2,r1,r2,r3,r4,r5,r6⟩:=ih M hN C E j A B z gg T q4 q5 (R.mono U.le);refine⟨max m L,gz+1,x,E2,D2,c2,ρ2,gA,G2,?_,r2,.trans O T U r3,r4,r5,r6⟩;simp only[gy];rw[z2e (qr (Kj m L)) (Kj m L) _ K];exact zcc (λ_ _ _ _ _ _ _ e=>z2e (qr (K5 m L)) (K5 m L) _ e) (H9 _) r1
   |exit id =>
    refine⟨m,1,.exit id,E,j,C,A,B,z,?_,T,U,q4,q5,q6⟩;simp only[gy];rw[K]
   |ret =>
    refine⟨m,1,.ret,E,j,C,A,B,z,?_,T,U,q4,q5,q6⟩;simp only[gy];rw[K]
 obtain⟨m,I,x,E,j,C,A,B,z,K,q⟩:=Z g c gB H ρ D G h0 O V X R;refine⟨max m I,x,E,j,C,A,B,z,?_,q⟩;simp only[Qf];exact zcc (λ_ _ _ _ _ _ _ e=>z2e (qr (Kj m I)) (Kj m I) _ e) (K5 m I) K
end rules
inductive RRes where
 |tmp (t:Nat)
 |cell1 (t:Nat)
 |cellN (t n:Nat)
def resR(P:Program):ResultVar→Option RRes
 |.tmp t=>match Nat.ble t Qp with
  |true=>some (.tmp t)
  |false=>none
 |.cell a t=>match Nat.ble a Qp with
  |true=>match Ta P t,Pe P t with
   |some true,some n=>some (.cellN a n)
   |some false,some _=>some (.cell1 a)
   |_,_=>none
  |false=>none
def zxw(P:Program):List ResultVar→Option (List RRes)
 |[]=>some []
 |r::l=>match resR P r with
  |none=>none
  |some a=>match zxw P l with
   |none=>none
   |some b=>some (a::b)
structure RF where
 n:Nat
 c:RC
 rs:List RRes
def Na(P:Program)(f:Nat):Option RF :=
 match xx P f && !(zg3 P f) && !(zls P f) with
 |false=>none
 |true=>match P.funcs[f]? with
  |none=>none
  |some fn=>match fn.body with
   |none=>none
   |some b=>match Nat.ble fn.ntmps Qp with
    |false=>none
    |true=>match N6 P fn.ntmps b with
     |none=>none
     |some c=>match zxw P fn.results.toList with
      |none=>none
      |some g=>some ⟨fn.ntmps,c,g⟩
def Rc(ρ:M2)(G:M0):List RRes→(List LV→Prop)→Prop
 |[],j=>j []
 |r::l,j=>match r with
  |.tmp t=>Rc ρ G l λg=>j (lk ρ t::g)
  |.cell1 t=>Yq G (lk ρ t) λv=>Rc ρ G l λg=>j (v::g)
  |.cellN t n=>Y5 G (lk ρ t) n λz=>Rc ρ G l λg=>j (.agg z::g)
def Ua:List LV→LV
 |[v]=>v
 |l=>.tup l
def fg:List LV→Nat→M2
 |[],_=>[]
 |v::l,i=>(i,v)::fg l (i+1)
def ua:List Nat→M0→(M0→Prop)→Prop
 |[],G,g=>g G
 |d::l,G,g=>match G[d]? with
  |some (.defd true)=>ua l (G.set d (.defd false)) g
  |_=>False
section fns
variable {P : Program}
def zi7{c:Cx}{G:M0}{ρ:M2}{I:Tr AV}(B:HSim c G)(A:Oe c ρ I):∀{l:List ResultVar} {H:List RRes} {K:List LV→Prop},zxw P l=some H→Rc ρ G H K→∃g as,(zpv P l).run I c.H=some as∧ARs c g as∧K g
 |[],H,K,h,k=>by cases h;exact⟨[],[],rfl,.nil,k⟩
 |r::l,H,K,h,k=>by
  simp only[zxw]at h;split at h
  ·cases h
  ·rename_i a j;split at h
   ·cases h
   ·rename_i b L;cases h;simp only[zpv];cases r with
    |tmp t =>
     simp only[resR]at j;split at j
     ·rename_i M;cases j;obtain⟨g,as,C,E,F⟩:=zi7 B A L (show Rc ρ G b (λg=>K (lk ρ t::g)) from k);have z:(Nn (.tmp t)).run I=some ((M4 (Nm t) I).getD R4):=by
       unfold Nn;dsimp only;rw[M];dsimp only;cases M4 (Nm t) I<;>rfl
      refine⟨_,_,?_,.cons (A t) E,F⟩;simp only[resF];rw[z,C]
     ·cases j
    |cell t Z =>
     simp only[resR]at j;split at j
     ·rename_i M;have z:(Nn (.tmp t)).run I=some ((M4 (Nm t) I).getD R4):=by
       unfold Nn;dsimp only;rw[M];dsimp only;cases M4 (Nm t) I<;>rfl
      split at j
      ·rename_i m O R;cases j;obtain⟨o,v,i,l',Y,T,U,V,X⟩:=znx B (A t) (show Y5 G (lk ρ t) m (λY=>Rc ρ G b λg=>K (.agg Y::g)) from k);obtain⟨g,as,C,E,F⟩:=zi7 B A L X;refine⟨_,_,?_,.cons (.agg V) E,F⟩;simp only[Sv.resF,O,R];rw[z,T];dsimp only;rw[U,C]
      ·rename_i m O R;cases j;obtain⟨o,v,i,w,bb,T,U,V,X⟩:=zun B (A t) (show Yq G (lk ρ t) (λv=>Rc ρ G b λg=>K (v::g)) from k);obtain⟨g,as,C,E,F⟩:=zi7 B A L X;refine⟨_,_,?_,.cons V E,F⟩;simp only[Sv.resF,O,R];rw[z,T];dsimp only;rw[U];dsimp only;rw[C]
      ·cases j
     ·cases j
end fns
end
end
section
section fns
variable {P : Program}
def lk_argsL:∀(l:List LV) (i t:Nat),lk (fg l i) t=if i≤t∧t<i+l.length then l.getD (t-i) .any else .any
 |[],i,t=>by simp only[fg,ox,Iw];rw[Hv J]
 |v::l,i,t=>by
  simp only[fg,zil,Ig];rw[lk_argsL l (i+1) t];by_cases h:t=i
  ·subst h;rw[H7 rfl,H7 J];simp
  ·rw[Hv h];by_cases g:i+1≤t∧t<i+1+l.length
   ·rw[H7 g,H7 J,show t-i=(t-(i+1))+1 from J];simp
   ·rw[Hv g,Hv J]
def Oe.start{c:Cx}{args:List LV}{gg:List AV}(h:ARs c args gg):Oe c (fg args 0) (Rr gg 0 .e):=by
 intro t;rw[lk_argsL,get_ofList,Yj];have hl:=h.length;by_cases ht:t<args.length
 ·rw[H7 J,H7 J];obtain⟨a,q1,q2⟩:=h.get (H6 ht);rw[Nat.sub_zero,q1,Hy,H6 ht];exact q2
 ·rw[Hv J];exact .any _
def zn6{U:M0→Prop}:∀{H:List Nat} {E:List Nat} {c:Cx} {B:M0},DRs c H E→HSim c B→ua H B U→∃j z,za4 E c.H=some j.H∧HSim j z∧Step c B j z∧U z
 |[],_,c,B,.nil,g,h=>⟨c,B,rfl,g,.refl c B,h⟩
 |d::H,_,c,B,.cons (o:=o) e I,g,h=>by
  simp only[ua]at h;split at h
  ·rename_i C;obtain⟨_,F,he,A⟩:=g.obj d _ _ _ C e;injection he with he
   subst he;obtain⟨G,K,L⟩:=g.upd (k':=0) (x':=.ptr o 0 0) (ob':=.defd false) (H':=c.H.put o (.defd false)) C rfl e (H9 _) (λF _ D=>Heap.get_put_ne _ _ (λq=>D Fp))
    (λF M=>by cases M;exact⟨.inl rfl,g.lt o ⟨d,_,_,_,C,rfl,e,rfl⟩⟩) (H9 _) (λ_=>rfl) (λ_=>rfl) (.inr ⟨rfl,H9 _⟩) (λ_=>⟨rfl,o,rfl,Heap.get_put_same _ _ _⟩)
   obtain⟨j,z,O,Q,R,T⟩:=zn6 (I.mono L) G h;refine⟨j,z,?_,Q,.trans g G K R,T⟩;simp only[za4];rw[A];exact O
  ·exact h.elim
def wc:List AV→AV
 |[v]=>v
 |l=>.tup l
def zmb{f:Nat}{s:LC}{n:Nat}{Q:List RRes}(g:Na P f=some ⟨n,s.r,Q⟩)(G:s.ok=true)(hn:E.length≤n)
  (h:W P f n s none (fg E 0) [] F λx ρ gA R=>(match x with | .exit _=>False|_=>True)∧ua gA R λC=>Rc ρ C Q λD=>X (Ua D) C):Qh P (.fn f) E F X:=by
 unfold Na at g;split at g
 ·cases g
 ·rename_i j;simp only[Hw,Jd]at j;refine⟨j.1,λc t1 z T U V=>?_⟩;cases t1 with
  |yield o=>exact U.elim
  |fn gB =>
   obtain rfl:f=gB:=U;split at g
   ·cases g
   ·rename_i fn H;split at g
    ·cases g
    ·rename_i b hb;split at g
     ·cases g
     ·rename_i A;split at g
      ·cases g
      ·rename_i rc I;split at g
       ·cases g
       ·rename_i gg K;cases g;obtain⟨m,x,E',gz,c',ρ',D',R,q1,Y,q3,q4,q5,q6,q7⟩:=h b c _ [] none I G T (Oe.start V) .nil trivial;obtain⟨L,C,Z,r2,r3,r4⟩:=zn6 q5 Y q7;obtain⟨D,as,s1,s2,s3⟩:=zi7 r2 (q4.mono r3.le) K r4;have B:AR L (Ua D) (wc as):=by
         cases s2 with
         |nil=>exact .tup .nil
         |cons e es =>
          cases es with
          |nil=>exact e
          |cons e2 M=>exact .tup (.cons e (.cons e2 M))
        refine⟨m+1,wc as,L.H,?_,L,Ua D,C,rfl,r2,.trans T Y q3 r3,B,s3⟩;unfold So;dsimp only;rw[OL_no j.2];dsimp only;unfold zh0;rw[H];dsimp only;rw[hb];dsimp only;rw[H7 (Ih A)];dsimp only;have O:Nat.ble z.length fn.ntmps=true:=Ia (by rw[←V.length];exact hn);rw[O];dsimp only;rw[q1];dsimp only;cases x with
        |exit id=>exact q6.elim
        |normal =>
         dsimp only;rw[Z];dsimp only;rw[s1];rcases as with _|⟨a,_|⟨a2,as⟩⟩<;>rfl
        |ret =>
         dsimp only;rw[Z];dsimp only;rw[s1];rcases as with _|⟨a,_|⟨a2,as⟩⟩<;>rfl
def Qh.mono{t:LTgt}{args:List LV}{G:M0}{K K':LV→M0→Prop}(h:Qh P t args G K)(hk:∀v G,K v G→K' v G):Qh P t args G K' :=
 ⟨h.1,λc t1 gg h1 h2 h3=>by
  obtain⟨m,v1,H',q1,c',v,G',q2,q3,q4,q5,q6⟩:=h.2 c t1 gg h1 h2 h3;exact⟨m,v1,H',q1,c',v,G',q2,q3,q4,q5,hk _ _ q6⟩⟩
mutual
def LV.sim(m:Nat):LV→Bool
 |.bool _ |.u _ |.b _ |.i _ |.int _ _ |.str _ |.nilPtr |.nilSl |.nilMap |.nilFn |.nilIf=>true
 |.dy j k=>k==0&&decide (j<m)
 |.agg l=>sims m l
 |.tup l=>sims m l
 |_=>false
def sims(m:Nat):List LV→Bool
 |[]=>true
 |v::l=>v.sim m&&sims m l
end
mutual
def subV(sel:List LV):LV→LV
 |.dy j _=>sel.getD j .any
 |.agg l=>.agg (subVs sel l)
 |.tup l=>.tup (subVs sel l)
 |v=>v
def subVs(sel:List LV):List LV→List LV
 |[]=>[]
 |v::l=>subV sel v::subVs sel l
end
def notP(p:Nat):LV→Prop
 |.dy q _=>q≠p
 |_=>True
def Wj(A:M0):List LV→M0→Prop
 |[],[]=>True
 |.dy p k::s,.dyn l len j g st::B=>g=0∧l.all LV.scal=true∧(∃z,A[p]?=some (.dyn l len j k z))∧st=0∧(∀x∈s,notP p x)∧Wj A s B
 |.nilSl::s,.dyn l len _ g st::B=>g=0∧st=0∧l=[]∧len=0∧Wj A s B
 |_,_=>False
def Oj(P:Program)(f:Nat)(A:List LV)(F:LV)(C:M0):Prop :=
 zyc P (.fn f)∧F.sim C.length=true∧(∀(I:Nat) (G:LObj),C[I]?=some G→∃l len D,G=.dyn l len D 0 0∧l.all LV.scal=true)∧∀(B:Nat→Prop) (E:Heap) (g:List AV),(∀o,B o→o<E.next)→ARs ⟨[],B,E⟩ A g →
  ∃m H j z,So P (OL P) m (.fn f) g E=.ok H z∧HSim ⟨j,B,z⟩ C∧AR ⟨j,B,z⟩ F H∧E.next≤z.next∧(∀o,o<E.next→z.get o=E.get o)∧∀o,O4 ⟨j,B,z⟩ C o→E.next≤o
def zem{c g:Cx}:∀{l:List LV} {r:List AV},l.all LV.scal=true→ARs c l r→ARs g l r
 |[],_,_,.nil=>.nil
 |v::l,_,h,.cons e j=>by
  simp only[Kf,Hw]at h;refine .cons ?_ (zem h.2 j);cases v<;>first|(cases h.1;done)|(cases e;constructor)
def HSim.empty{Fz:Nat→Prop}{H:Heap}(h:∀o,Fz o→o<H.next):HSim ⟨[],Fz,H⟩ [] :=
 ⟨rfl,h,λo ⟨p,_,_,_,e,_⟩=>Cg,λo ⟨p,_,_,_,e,_⟩=>Cg,λp _ _ _ e=>Cg,λp _ _ _ _ _ _ _ _ e=>Cg⟩
def zje{c:Cx}{gA:M0}(Q:HSim c gA):∀{g:List LV} {R:M0},Wj gA g R→∃C:List (Nat×AV),C.length=R.length ∧
  (∀(j:Nat) (E:LObj) (k:Nat) (h:AV),R[j]?=some E→C[j]?=some (k,h)→k=0∧(∀T:Cx,T.H=c.H→ObR T 0 h E)∧(∃l len F,E=.dyn l len F 0 0∧l.all LV.scal=true) ∧
   ((g[j]?=some .nilSl∧h=.nilSl)∨∃p D,g[j]?=some (.dy p D)∧c.hd[p]?=some (D,h)∧(∀o,Ny h=some o→O4 c gA o)∧∃G,gA[p]?=some G∧G.live=true)) ∧
  (∀(i j p k q D:Nat),g[i]?=some (.dy p k)→g[j]?=some (.dy q D)→p=q→i=j)
 |[],[],_=>⟨[],rfl,λj E k h e=>Cg,λi j p k q D e=>Cg⟩
 |[],_::_,h=>h.elim
 |s::g,[],h=>by cases s<;>exact h.elim
 |s::g,E::R,h=>by
  cases s<;>cases E<;>first|exact h.elim|skip
  ·rename_i l len F V st;obtain⟨rfl,rfl,rfl,rfl,h⟩:=h;obtain⟨C,X,Y,Z⟩:=zje Q h;refine⟨(0,.nilSl)::C,by simp[X],λj E k h z A=>?_,λi j p k q D z A H=>?_⟩
   ·cases j with
    |zero =>
     simp only[Ir,Option.some.injEq]at z A;cases z;cases A;exact⟨rfl,λT _=>⟨rfl,N,.inl ⟨rfl,rfl⟩⟩,⟨_,_,_,rfl,rfl⟩,.inl ⟨rfl,rfl⟩⟩
    |succ j=>exact Y j E k h Co Cd
   ·cases i with
    |zero=>simp at z
    |succ i=>cases j with
     |zero=>simp at A
     |succ j=>have:=Z i j p k q D Co Cd H;omega
  ·rename_i p k l len F V st;obtain⟨rfl,I,⟨gB,U⟩,rfl,gg,h⟩:=h;obtain⟨C,X,Y,Z⟩:=zje Q h;have hp:p<c.hd.length:=by rw[Q.len];exact (Hu.1 U).1
   obtain⟨k0,h0,e0⟩:∃k h,c.hd[p]?=some (k,h):=⟨_,_,H6 hp⟩;have K:=Q.obj p _ _ _ U e0;have hk:=K.1;subst hk;have B:∀(j q D:Nat),g[j]?=some (.dy q D)→q≠p:=λj q D e=>gg _ (Iq e)
   refine⟨(0,h0)::C,by simp[X],λj E k h z A=>?_,λi j p' k q D z A H=>?_⟩
   ·cases j with
    |zero =>
     simp only[Ir,Option.some.injEq]at z A;cases z;cases A;refine⟨rfl,λT gz=>?_,⟨_,_,_,rfl,I⟩,.inr ⟨p,_,rfl,e0,λo ho=>⟨p,_,_,_,U,rfl,e0,ho⟩,_,U,rfl⟩⟩;obtain⟨_,r1,L⟩:=K;refine⟨rfl,r1,?_⟩;rcases L with L|⟨o,v,M,t,O,l',L,r3,r4,r5,r6,r7⟩
     ·exact .inl L
     ·exact .inr ⟨o,v,M,t,O,l',L,by rw[gz];exact r3,r4,r5,zem I r6,r7⟩
    |succ j=>exact Y j E k h Co Cd
   ·cases i with
    |zero =>
     simp only[Ir,Option.some.injEq]at z;cases z;cases j with
     |zero=>rfl
     |succ j=>exact absurd H.symm (B j q D Cd)
    |succ i=>cases j with
     |zero =>
      simp only[Ir,Option.some.injEq]at A;cases A;exact absurd H (B i p' k Co)
     |succ j=>have:=Z i j p' k q D Co Cd H;omega
mutual
def sub_AR{c c':Cx}{sel:List LV}(gg:∀(gA:Nat) (v:LV) (a:AV),sel[gA]?=some v→AR c v a→AR c' (.dy gA 0) a)(v:LV)(a:AV)(j:v.sim sel.length=true)(h:AR c (subV sel v) a):AR c' v a:=by
 cases v with
 |dy gA k =>
  simp only[LV.sim,Hw,Lk,Ib]at j;obtain⟨rfl,gz⟩:=j;refine gg gA _ a (H6 gz) ?_;unfold subV at h
  rwa [Hy,H6 gz]at h
 |agg l =>
  simp only[LV.sim]at j;simp only[subV]at h;cases h with
  |agg h=>exact .agg (sub_ARs gg l _ j h)
 |tup l =>
  simp only[LV.sim]at j;simp only[subV]at h;cases h with
  |tup h=>exact .tup (sub_ARs gg l _ j h)
 |_=>first|(simp only[LV.sim]at j;cases j;done)|(simp only[subV]at h;cases h;constructor)
termination_by SizeOf.sizeOf v
def sub_ARs{c c':Cx}{sel:List LV}(gg:∀(gA:Nat) (v:LV) (a:AV),sel[gA]?=some v→AR c v a→AR c' (.dy gA 0) a)(l:List LV)(r:List AV)(j:sims sel.length l=true)(h:ARs c (subVs sel l) r):ARs c' l r:=by
 cases l with
 |nil=>simp only[subVs]at h;cases h;exact .nil
 |cons v l =>
  simp only[sims,Hw]at j;simp only[subVs]at h;cases h with
  |cons e es=>exact .cons (sub_AR gg v _ j.1 e) (sub_ARs gg l _ j.2 es)
termination_by SizeOf.sizeOf l
end
def Oj.mk{f:Nat}{args:List LV}{v0:LV}{G0:M0}(gz:v0.sim G0.length=true)(h:Qh P (.fn f) args [] λv G=>∃sel,v=subV sel v0∧sel.length=G0.length∧Wj G sel G0)(hG:∀(gC:Nat) (ob:LObj),G0[gC]?=some ob→∃l len esz,ob=.dyn l len esz 0 0∧l.all LV.scal=true):Oj P f args v0 G0:=by
 refine⟨h.1,gz,hG,λFz H gD gE ha=>?_⟩;obtain⟨m,v1,H',q1,c1,v,G,rfl,q3,q4,q5,sel,rfl,hlen,hr⟩:=h.2 ⟨[],Fz,H⟩ (.fn f) gD (.empty gE) rfl ha;obtain⟨gg,r1,r2,r3⟩:=zje q3 hr;have gF:∀(gC:Nat) (ob:LObj),G0[gC]?=some ob→∃k h,gg[gC]?=some (k,h):=λgC ob e=>⟨_,_,H6 (by rw[r1];exact (Hu.1 e).1)⟩
 have gA:∀o,O4 ⟨gg,Fz,c1.H⟩ G0 o→O4 c1 G o:=by
  rintro o ⟨gC,ob,k,h,e1,e2,e3,e4⟩;obtain⟨_,_,_,j⟩:=r2 gC ob k h e1 e3;rcases j with ⟨_,j⟩|⟨p,k',_,_,s6,_⟩
  ·rw[j]at e4;cases e4
  ·exact s6 o e4
 have gB:∀o,O4 ⟨gg,Fz,c1.H⟩ G0 o→H.next≤o:=λo ho=>by
  rcases q4.new o (gA o ho) with ⟨p,_,_,_,e,_⟩|h
  ·simp at e
  ·exact h
 have gG:∀o,¬O4 ⟨[],Fz,H⟩ [] o:=λo ⟨p,_,_,_,e,_⟩=>Cg
 have gH:HSim ⟨gg,Fz,c1.H⟩ G0:=by
  refine⟨r1,λo ho=>Iz (gE o ho) q4.nx,λo ho=>q3.lt o (gA o ho),λo ho hf=>?_,λgC ob k h e1 e2=>?_,λi gC ob gI k h k' h' o e1 e2 e3 e4 e5 e6 e7 e8=>?_⟩
  ·have:=gB o ho;have:=gE o hf;omega
  ·obtain⟨s1,s2,_⟩:=r2 gC ob k h e1 e2;rw[s1];exact s2 _ rfl
  ·obtain⟨_,_,_,j⟩:=r2 i ob k h e1 e5;obtain⟨_,_,_,t4⟩:=r2 gC gI k' h' e2 e6;rcases j with ⟨_,j⟩|⟨p,kp,s5,s6,_,o1,g1,g2⟩
   ·rw[j]at e7;cases e7
   ·rcases t4 with ⟨_,t4⟩|⟨q,kq,t5,t6,_,o2,g3,g4⟩
    ·rw[t4]at e8;cases e8
    ·refine r3 i gC p kp q kq s5 t5 ?_;exact q3.excl p q o1 o2 kp h kq h' o g1 g3 g2 g4 s6 t6 e7 e8
 refine⟨m,v1,gg,c1.H,q1,gH,?_,q4.nx,λo ho=>q4.frame o ho (gG o),gB⟩;refine sub_AR (c:=c1) (λgC v a e1 e2=>?_) v0 v1 (by rw[hlen];exact gz) q5;have hj:gC<G0.length:=by rw[←hlen];exact (Hu.1 e1).1
 obtain⟨k,h,e3⟩:=gF gC _ (H6 hj);obtain⟨rfl,_,_,j⟩:=r2 gC _ k h (H6 hj) e3;rcases j with ⟨j,s5⟩|⟨p,k',j,s5,_⟩
 ·rw[e1]at j;cases j;cases e2;exact .dy e3 (H9 _) (λ_=>s5.symm) rfl
 ·rw[e1]at j;cases j;cases e2 with
  |dy f1 f2 f3 f4 =>
   rw[s5]at f1;cases f1;exact .dy e3 (H9 _) (λ_=>f3 rfl) f4
end fns
end
section
noncomputable section
def zd(ρ:M2)(G:M0):LOp→Option (Option Nat)
 |.load1 x |.loadN _ x=>match x.ev ρ with
  |.ptr p _=>some (some p)
  |.dptr p k _=>match G[p]? with
   |some (.dyn _ _ _ g _)=>if k=g then some (some p) else none
   |_=>none
  |.cptr _ _=>some none
  |_=>none
 |.cvStr x=>match x.ev ρ with
  |.nilSl=>some none
  |.lst _ _ _=>some none
  |.dy p k=>match G[p]? with
   |some (.dyn _ _ _ g _)=>if k=g then some (some p) else none
   |_=>none
  |_=>none
 |_=>none
def zoc(G g:M0)(p:Nat):Prop:=match G[p]?,g[p]? with
 |some a,some b=>a.stp=true∧a.st=b.st
 |_,_=>False
def ckC(ρ:M2)(G g:M0)(x:LI×Bool):Prop:=match x.2 with
 |false=>match zd ρ G x.1.o with
  |some none=>True
  |some (some p)=>zoc G g p
  |none=>False
 |true=>match x.1.d with
  |none=>False
  |some d=>match lk ρ d with
   |.ptr p _=>zoc G g p
   |.dy p k=>(match G[p]? with
    |some (.dyn _ _ _ j _)=>k=j
    |_=>False)∧zoc G g p
   |_=>False
def ckL(ρ:M2)(G g:M0)(x:LI×Bool):Prop:=match x.1.g with
 |none=>ckC ρ G g x
 |some (t,w)=>match lk ρ t with
  |.bool b=>b=w→ckC ρ G g x
  |_=>ckC ρ G g x
def Wz(ρ:M2)(G g:M0):List (LI×Bool)→Prop
 |[]=>True
 |x::l=>ckL ρ G g x∧Wz ρ G g l
def ef(P:Program):List (LI×List (LI×Bool))→M2→M0→(M2→M0→Prop)→Prop
 |[],ρ,G,j=>j ρ G
 |(x,z)::l,ρ,G,j=>cq P x ρ G λA g=>Wz ρ G g z∧ef P l A g j
section al
variable {P : Program}
def b9{v:AV}{id n:Nat}(h:Ny v=some id):Qv id (Qv n v)=v:=by
 cases v<;>first|(cases h;done)|(cases h;rfl)
def zm5{j:Heap}{l:List AV}{v:AV}(h:Yd vT l=.val v j):∃z,j=vT.push z∧Ny v=some vT.next∧∀g,Yd g l=.val (Qv g.next v) (g.push z):=by
 unfold Yd newObj at h;cases h;exact⟨_,rfl,rfl,λg=>rfl⟩
def zr0{z:Heap}{l:List AV}{a b:Nat}{r:Option Nat}{v:AV}(h:(match newObj vT l with
  |some (o,j)=>OR.val (.sl o 0 0 a b r) j
  |none=>.no)=.val v z):∃A,z=vT.push A∧Ny v=some vT.next∧∀g,(match newObj g l with
  |some (o,j)=>OR.val (.sl o 0 0 a b r) j
  |none=>.no)=.val (Qv g.next v) (g.push A):=by
 unfold newObj at h;cases h;exact⟨_,rfl,rfl,λg=>rfl⟩
def al_any{o:Op}(g:cls P o=.al){z:Heap}{v:AV}(h:(Oc P o).run vD vT=.val v z):∃A,z=vT.push A∧Ny v=some vT.next∧∀j,(Oc P o).run vD j=.val (Qv j.next v) (j.push A):=by
 cases o with
 |alloc t =>
  simp only[Oc]at h ⊢;split at h
  ·exact zm5 h
  ·cases h
 |box t x =>
  simp only[Oc,Ql]at h ⊢;cases B:(Nn x).run vD with
  |none=>rw[B]at h;cases h
  |some a =>
   rw[B]at h;dsimp only at h ⊢;cases C:a.cells with
   |none=>rw[C]at h;cases h
   |some l=>rw[C]at h;exact zm5 h
 |buildSlice t len H =>
  simp only[Oc,z3g]at h ⊢;split at h
  ·split at h
   ·cases h
   ·split at h
    ·cases h
    ·rename_i O M;by_cases F:len * ‹Nat›≤2^20∧0 < ‹Nat›
     ·rw[H7 F]at h ⊢;split at h
      ·cases h
      ·dsimp only at h ⊢;split at h
       ·exact zr0 h
       ·cases h
     ·rw[Hv F]at h;cases h
  ·cases h
 |makeSlice t l c =>
  simp only[Oc,z86]at h ⊢;split at h
  ·split at h
   ·cases h
   ·split at h
    ·cases h
    ·split at h
     ·rename_i i hi O M F;simp only[H7 F];simp only[Ud]at h ⊢;cases C:(Nn l).run vD with
      |none=>rw[C]at h;cases h
      |some a =>
       rw[C]at h;cases E:(Nn c).run vD with
       |none=>rw[E]at h;cases h
       |some b =>
        rw[E]at h;dsimp only at h ⊢;split at h
        ·rename_i n m;cases I:Nat.ble n m with
         |false=>rw[I]at h;cases h
         |true =>
          rw[I]at h;cases K:Nat.ble m 1048576 with
          |false=>rw[K]at h;cases h
          |true=>rw[K]at h;exact zr0 h
        ·cases h
     ·cases h
  ·cases h
 |makeMap t r =>
  have L:∀{v:AV} {z:Heap},dx vT=.val v z→∃A,z=vT.push A∧Ny v=some vT.next∧∀j,dx j=.val (Qv j.next v) (j.push A):=λh=>by
   unfold dx at h;cases h;exact⟨_,rfl,rfl,λj=>rfl⟩
  simp only[Oc,zg7]at h ⊢;split at h
  ·exact L h
  ·rename_i x;split at h
   ·simp only[Ql]at h ⊢;cases B:(Nn x).run vD with
    |none=>rw[B]at h;cases h
    |some a =>
     rw[B]at h;dsimp only at h ⊢;split at h
     ·exact L h
     ·cases h
   ·cases h
 |_ =>
  exfalso;simp only[cls]at g
  first
   |(cases g;done)
   |(split at g<;>first|(cases g;done)|(split at g<;>cases g))
   |(simp only[zfs]at g;split at g<;>first|(cases g;done)|(split at g<;>first|(cases g;done)|(split at g<;>cases g)))
end al
section draw
variable {P : Program} {n : Nat} {ops : Array Oper}
def Va(P:Program)(ops:Array Oper)(x:DOp)(j:Tr AV)(A:Heap):Prop:=match x.c with
 |.rd=>(Sx ops x.o).run j=true→∃d v,x.o.dst=some d∧M4 (Nm d) j=some v∧(Oc P x.o.op).run j A=.val v A
 |.al=>(Sx ops x.o).run j=true→∃d v id z,x.o.dst=some d∧M4 (Nm d) j=some v∧Ny v=some id∧A.get id=some z∧∀g,(Oc P x.o.op).run j g=.val (Qv g.next v) (g.push z)
 |_=>True
def zag{x:DOp}(h:Va P ops x vD vT)(j:x.c=.rd∨x.c=.al)(hd:zk6 ops x=true):(d8 P ops x).run vD vT=true:=by
 unfold d8;cases g:x.o.dst with
 |none=>unfold zk6 at hd;rw[g]at hd;cases hd
 |some d =>
  dsimp only;cases C:(Sx ops x.o).run vD with
  |false=>rfl
  |true =>
   dsimp only;unfold Va at h;rcases j with j|j
   ·rw[j]at h;obtain⟨E,v,z,B,A⟩:=h C;rw[g]at z;cases z;rw[B,A,j];dsimp only;unfold Yn;split
    ·rfl
    ·exact @Jp _ (Classical.propDecidable _) rfl
   ·rw[j]at h;obtain⟨E,v,id,K,z,B,A,F,H⟩:=h C;rw[g]at z;cases z;rw[B,H vT,j];dsimp only;unfold Yb;rw[A];dsimp only;have I:Yn (Rn 30 v (Qv id (Qv vT.next v))) v (Qv id (Qv vT.next v))=true:=by
     unfold Yn;split
     ·rfl
     ·exact @Jp _ (Classical.propDecidable _) (b9 A).symm
    rw[I,F,Heap.get_push_same];dsimp only;unfold Yn;split
    ·rfl
    ·exact @Jp _ (Classical.propDecidable _) rfl
def zej{t:Nat}:∀{l:List Nat},Wt t l=false→t ∉ l
 |[],_=>N
 |a::l,h=>by
  simp only[Wt]at h;cases g:Nat.beq t a with
  |true=>rw[g]at h;cases h
  |false =>
   rw[g]at h;intro hm;rcases If.1 hm with rfl|hm
   ·rw[I6]at g;cases g
   ·exact zej h hm
def oc{x:DOp}{d:Option Nat}(h:Zr ops d x=true)(v:AV)(g:Tr AV):R7 (U9 ops x.o) (Pd d v g) g∧∀e,x.o.dst=some e→M4 (Nm e) (Pd d v g)=M4 (Nm e) g:=by
 cases d with
 |none=>exact⟨λt _ _=>rfl,λe _=>rfl⟩
 |some d =>
  unfold Zr at h;dsimp only at h;cases hm:Wt d (U9 ops x.o) with
  |true=>rw[hm]at h;cases h
  |false =>
   rw[hm]at h;dsimp only at h;refine⟨λt j _=>?_,λe he=>?_⟩
   ·show M4 (Nm t) (Ow v (Nm d) g)=_;rw[z5t (λq=>zej hm (by rw[←q];exact j))]
   ·rw[he]at h;dsimp only at h;show M4 (Nm e) (Ow v (Nm d) g)=_;rw[z5t (λq=>by rw[q,I6]at h;cases h)]
def Va.put{x:DOp}{E:Tr AV}{H:Heap}(h:Va P ops x E H){d:Option Nat}(ho:Zr ops d x=true)(v:AV):Va P ops x (Pd d v E) H:=by
 obtain⟨h1,h2⟩:=oc ho v E;have hg:=zh (o:=x.o) h1;have hc:∀H2,(Oc P x.o.op).run (Pd d v E) H2=(Oc P x.o.op).run E H2:=λH2=>z8i h1
 unfold Va at h ⊢;cases hx:x.c with
 |rd =>
  rw[hx]at h;intro g;obtain⟨d',w,k1,k2,k3⟩:=h (by rw[←hg];exact g);exact⟨d',w,k1,by rw[h2 d' k1];exact k2,by rw[hc];exact k3⟩
 |al =>
  rw[hx]at h;intro g;obtain⟨d',w,id,ob,k1,k2,k3,k4,k5⟩:=h (by rw[←hg];exact g);exact⟨d',w,id,ob,k1,by rw[h2 d' k1];exact k2,k3,k4,λH2=>by rw[hc];exact k5 H2⟩
 |quiet=>trivial
 |ch=>trivial
def zzu{x:DOp}{r:RI}(g:zc P n ops x.o=some r)(C:Tr AV):(Sx ops x.o).run C=ff r.g C∧S5 P x.o.op=some r.o∧r.d=x.o.dst:=by
 unfold zc at g;split at g
 ·cases g
 ·split at g
  ·cases g
  ·rename_i ro j;split at g
   ·rename_i z;cases g;refine⟨?_,j,rfl⟩;unfold Sx;rw[z];rfl
   ·rename_i E w z;split at g
    ·cases g
    ·rename_i t A;split at g
     ·rename_i B;cases g;refine⟨?_,j,rfl⟩;unfold Sx;rw[z];dsimp only;rw[A];dsimp only;rw[H7 (Ih B)];rfl
     ·cases g
def Va.keep{x:DOp}{li:LI}(hr:zc P n ops x.o=some li.r)(gz:li.o.ok=true){c:Cx}{G G1:M0}{ρ:M2}{E:Tr AV}(hs:HSim c G)(hE:Oe c ρ E)(st:Step c G vB G1)(gg:ckL ρ G G1 (li,Vu x))
  (h:Va P ops x E c.H):Va P ops x E vB.H:=by
 have gB:∀{p k:Nat} {a:AV} {o:Nat},zoc G G1 p→c.hd[p]?=some (k,a)→Ny a=some o→vB.H.get o=c.H.get o:=by
  intro p k a o hk e1 e2;unfold zoc at hk;split at hk
  ·rename_i a1 b1 g1 g2;exact (st.st p a1 b1 k a o g1 g2 e1 e2 hk.1 hk.2).2.1
  ·exact hk.elim
 obtain⟨g1,g2,g3⟩:=zzu hr E;have gC:(Sx ops x.o).run E=true→ckC ρ G G1 (li,Vu x):=by
  intro g;rw[g1]at g;unfold ckL at gg;dsimp only at gg;split at gg
  ·exact gg
  ·rename_i t w hg;split at gg
   ·rename_i b hb;refine gg ?_;have ht:=hE t;rw[hb]at ht;rw[show li.r.g=li.g from rfl,hg]at g;unfold ff at g;dsimp only at g;cases hq:M4 (Nm t) E with
    |none=>rw[hq]at g;cases g
    |some a =>
     rw[hq]at g ht;cases ht;cases b<;>cases w<;>first|rfl|cases g
   ·exact gg
 unfold Va at h ⊢;cases hx:x.c with
 |quiet=>trivial
 |ch=>trivial
 |rd =>
  rw[hx]at h;intro g;have hc:=gC g;obtain⟨d,v,k1,k2,k3⟩:=h g;refine⟨d,v,k1,k2,?_⟩;rw[ztr (zsz E) g2]at k3 ⊢;have gG:Vu x=false:=by unfold Vu;rw[hx]
  unfold ckC at hc;rw[gG]at hc;dsimp only at hc;have gF:∀{y:Lx},y.ok=true→∀m,(match y.ev ρ with
    |.ptr p _=>some (some p)
    |.dptr p k _=>(match G[p]? with
     |some (.dyn _ _ _ gA _)=>if k=gA then some (some p) else none
     |_=>none)
    |.cptr _ _=>some none
    |_=>(none:Option (Option Nat)))=some m→(∀p,m=some p→zoc G G1 p)→∃o v i,y.r.ev (ρA E)=.ptr o v i∧vB.H.get o=c.H.get o:=by
   intro y hy m hm hk;have hv:=Ov hE hy;generalize y.ev ρ=w at hm hv;generalize y.r.ev (ρA E)=b at hv ⊢;split at hm
   ·rename_i p i;cases hm;cases hv with
    |ptr e=>exact⟨_,_,_,rfl,gB (hk p rfl) e rfl⟩
   ·rename_i p k i;split at hm
    ·rename_i l len gD gA stp hg;by_cases gE:k=gA
     ·rw[H7 gE]at hm;cases hm;cases hv with
      | @dptr _ _ _ k' o v gT hh e gI ha =>
       have:=(hs.obj p _ _ _ hg e).1;obtain⟨_,gP,gQ,room,rfl⟩:=ha J;exact⟨o,v,gT,rfl,gB (hk p rfl) e rfl⟩
     ·rw[Hv gE]at hm;cases hm
    ·cases hm
   ·cases hm;cases hv with
    |cptr hf hr hl=>exact⟨_,_,_,rfl,(st.le.fz _ hf).2⟩
   ·cases hm
  have fin:∀m,zd ρ G li.o=some m→(∀p,m=some p→zoc G G1 p)→Oy P (ρA E) vB.H li.r.o=.val v vB.H:=by
   intro m hm hk;have j:Oy P (ρA E) c.H li.o.r=.val v c.H:=k3;show Oy P (ρA E) vB.H li.o.r=_;unfold zd at hm;split at hm
   ·rename_i y ho;rw[ho]at j gz ⊢;obtain⟨o,w,i,q1,q2⟩:=gF gz m hm hk;simp only[LOp.r,Oy]at j ⊢;rw[q1]at j ⊢;dsimp only at j ⊢;rw[z3i q2];split at j
    ·cases j;rfl
    ·cases j
   ·rename_i nn y ho;rw[ho]at j gz ⊢;obtain⟨o,w,i,q1,q2⟩:=gF gz m hm hk;simp only[LOp.r,Oy]at j ⊢;rw[q1]at j ⊢;dsimp only at j ⊢;rw[z3i q2];split at j
    ·cases j;rfl
    ·cases j
   ·rename_i y ho;rw[ho]at j gz ⊢;have hv:=Ov hE gz;simp only[LOp.r,Oy]at j ⊢;generalize y.ev ρ=w at hm hv;generalize y.r.ev (ρA E)=b at hv j ⊢;have done:(∀o v i len gD room,b=.sl o v i len gD room→vB.H.get o=c.H.get o)→(match b with
      |.nilSl=>OR.val (.str 0 0) vB.H
      |.sl o v i len 1 _=>match Rb vB.H o v i len with
       |some l=>match W5.bytesA l with
        |some n=>.val (.str len n) vB.H
        |none=>.no
       |none=>.no
      |_=>.no)=.val v vB.H:=by
     intro hh;split at j
     ·cases j;rfl
     ·rename_i o v2 i len room;have e:=hh o v2 i len 1 room rfl;show (match Rb vB.H o v2 i len with
       |some l=>match W5.bytesA l with
        |some n=>OR.val (.str len n) vB.H
        |none=>.no
       |none=>.no)=.val v vB.H
      rw[z3i e];split at j
      ·rename_i gL;split at j
       ·rename_i hb;cases j;rw[gL];dsimp only;rw[hb]
       ·cases j
      ·cases j
     ·cases j
    split at hm
    ·cases hv;exact done (λ_ _ _ _ _ _ e=>Am)
    ·cases hm;cases hv with
     |lst hf gR hlen hr hl=>exact done (λ_ _ _ _ _ _ e=>by cases e;exact (st.le.fz _ hf).2)
     |lstNil=>exact done (λ_ _ _ _ _ _ e=>Am)
     |lstEmp=>exact done (λ_ _ _ _ _ _ e=>Am)
    ·rename_i p k;split at hm
     ·rename_i l len gD gA stp hg;by_cases gE:k=gA
      ·rw[H7 gE]at hm;cases hm;cases hv with
       | @dy _ _ k' hh _ e gI ha gM =>
        have:=(hs.obj p _ _ _ hg e).1;have gH:=ha J;exact done (λo v i len gD room eb=>gB (hk p rfl) e (by rw[←gH,eb];rfl))
      ·rw[Hv gE]at hm;cases hm
     ·cases hm
    ·cases hm
   ·cases hm
  split at hc
  ·rename_i hm;exact fin none hm (λp e=>Am)
  ·rename_i p hm;exact fin (some p) hm (λp' e=>by cases e;exact hc)
  ·exact hc.elim
 |al =>
  rw[hx]at h;intro g;have hc:=gC g;obtain⟨d,v,id,ob,k1,k2,k3,k4,k5⟩:=h g;refine⟨d,v,id,ob,k1,k2,k3,?_,k5⟩;have gG:Vu x=true:=by unfold Vu;rw[hx]
  unfold ckC at hc;rw[gG]at hc;dsimp only at hc;have hd:li.d=some d:=by rw[←k1];exact g3
  rw[hd]at hc;dsimp only at hc;have hv:=hE d;rw[k2]at hv;split at hc
  ·rename_i p i hl;rw[hl]at hv;cases hv with
   |ptr e=>cases k3;rw[gB hc e rfl];exact k4
  ·rename_i p k hl;rw[hl]at hv;obtain⟨gK,gO⟩:=hc;split at gK
   ·rename_i l len gD gA stp hg;cases hv with
    | @dy _ _ k' hh _ e gI ha gM =>
     have:=(hs.obj p _ _ _ hg e).1;have gH:v=hh:=ha J;rw[gB gO e (by rw[←gH];exact k3)];exact k4
   ·exact gK.elim
  ·exact hc.elim
def cks_mem:∀{g:List DOp} {B:List (LI×Bool)},zm6 P n ops g=some (rck B)→∀{ρ:M2} {G C:M0},Wz ρ G C B→∀x∈g,∃z,zc P n ops x.o=some z.r∧(z,Vu x)∈B∧ckL ρ G C (z,Vu x)
 |[],_,_,_,_,_,_,x,j=>by simp at j
 |y::g,[],h,_,_,_,_,x,j=>by
  simp only[zm6]at h;split at h
  ·cases h
  ·split at h<;>cases h
 |y::g,(z,b)::B,h,ρ,G,C,k,x,j=>by
  simp only[zm6]at h;split at h
  ·cases h
  ·rename_i r F;split at h
   ·cases h
   ·rename_i M A;simp only[rck,Option.some.injEq,List.cons.injEq,Prod.mk.injEq]at h;obtain⟨⟨rfl,rfl⟩,H⟩:=h;rw[H]at A;rcases If.1 j with rfl|j
    ·exact⟨z,F,N,k.1⟩
    ·obtain⟨E,I,K,L⟩:=cks_mem A k.2 x j;exact⟨E,I,A0,L⟩
def ze2{g:Type}{f:g→Bool}:∀{l:List g} {x:g},x∈N9 f l→x∈l
 |[],_,h=>h
 |a::l,x,h=>by
  simp only[N9]at h;split at h
  ·rcases If.1 h with rfl|h
   ·simp
   ·exact Ik _ (ze2 h)
  ·exact Ik _ (ze2 h)
def zhw{z:Type}{f:z→Bool}:∀{l:List z},Wr f l=true→∀x∈l,f x=true
 |[],_,x,g=>by simp at g
 |a::l,h,x,g=>by
  simp only[Wr]at h;split at h
  ·rename_i j;rcases If.1 g with rfl|g
   ·exact j
   ·exact zhw h x g
  ·cases h
def ze5{j:Tr AV}{z:Heap}:∀{l:List DOp},(∀x∈l,(d8 P ops x).run j z=true)→(xg P ops l).run j z=true
 |[],_=>rfl
 |x::l,h=>by
  simp only[xg];rw[h x N];exact ze5 (λy g=>h y Ba)
structure Pend (P:Program) (n:Nat) (ops:Array Oper) (x:DOp):Prop where
 cls:x.c=.rd∨x.c=.al
 own:zk6 ops x=true
def drawGo_ok:∀{l z:List DOp} {g:List (LI×List (LI×Bool))} {c:Cx} {G:M0} {ρ:M2} {gC:Tr AV} {gL:M2→M0→Prop},zk P n ops l z=some (rdr g)→(g.all λx=>x.1.o.ok&&x.2.all (·.1.o.ok))=true →
  HSim c G→Oe c ρ gC→(∀x∈z,Pend P n ops x∧Va P ops x gC c.H)→ef P g ρ G gL →
  ∃m Y R U O,(Vs P n ops l z).run (So P (OL P) m) gC c.H=.ok Y R.H∧HSim R O∧Step c G R O∧Oe R U Y∧gL U O
 |[],z,g,c,G,ρ,gC,gL,h,_,hs,hE,_,k=>by
  cases g with
  |nil=>exact⟨0,gC,c,ρ,G,rfl,hs,.refl c G,hE,k⟩
  |cons _ _=>cases h
 |x::l,z,g,c,G,ρ,gC,gL,h,I,hs,hE,hp,k=>by
  simp only[zk]at h;split at h
  ·cases h
  ·rename_i gH;rw[Hw]at gH;obtain⟨gD,C⟩:=gH;split at h
   ·cases h
   ·rename_i r hr;have gB:∀{li:LI} {cs:List (LI×Bool)} {H:List (LI×List (LI×Bool))},r=li.r→g=(li,cs)::H →
      ∃m M K ρ1 Z v,(Rf P n ops x.o).run (So P (OL P) m) gC c.H=.ok M K.H∧M=Pd x.o.dst v gC∧HSim K Z∧Step c G K Z∧Oe K ρ1 M∧Wz ρ G Z cs∧ef P H ρ1 Z gL:=by
     intro li cs H e1 e2;subst e2;simp only[Kf,Hw]at I;obtain⟨m,M,K,ρ1,Z,q1,q2,q3,q4,q5,q6⟩:=m8 hs hE I.1.1 (show cq P li ρ G (λU O=>Wz ρ G O cs∧ef P H U O gL) from k);rw[←e1,←zh4 hr]at q1;obtain⟨v,w1,_⟩:=z60 q1;exact⟨m,M,K,ρ1,Z,v,q1,w1,q2,q3,q4,q5,q6⟩
    have gE:∀{v:AV},∀y∈z,Va P ops y gC c.H→Va P ops y (Pd x.o.dst v gC) c.H:=λy B hv=>hv.put (zhw gD y B) _
    have go:∀{pend':List DOp} {H:List (LI×List (LI×Bool))} {m:Nat} {M:Tr AV} {K:Cx} {ρ1:M2} {Z:M0},zk P n ops l pend'=some (rdr H)→(H.all λx=>x.1.o.ok&&x.2.all (·.1.o.ok))=true→HSim K Z→Step c G K Z→Oe K ρ1 M →
      (∀y∈pend',Pend P n ops y∧Va P ops y M K.H)→ef P H ρ1 Z gL→(Rf P n ops x.o).run (So P (OL P) m) gC c.H=.ok M K.H →
      ∃m' Y R U O,(Rf P n ops x.o).run (So P (OL P) m') gC c.H=.ok M K.H∧(Vs P n ops l pend').run (So P (OL P) m') M K.H=.ok Y R.H∧HSim R O∧Step c G R O∧Oe R U Y∧gL U O:=by
     intro pend' H m M K ρ1 Z a1 a2 a3 a4 a5 a6 a7 a8;obtain⟨m2,Y,R,U,O,b1,b2,b3,b4,b5⟩:=drawGo_ok a1 a2 a3 a5 a6 a7;exact⟨max m m2,Y,R,U,O,z3x (qr (Kj m m2)) a8,z5r (qr (K5 m m2)) b1,b2,.trans hs a3 a4 b3,b4,b5⟩
    cases X:x.c with
    |quiet =>
     rw[X]at h;dsimp only at h;split at h
     ·cases h
     ·rename_i rs gg;cases g with
      |nil=>cases h
      |cons it H =>
       obtain⟨li,cs⟩:=it;simp only[rdr,Option.some.injEq,List.cons.injEq,Prod.mk.injEq]at h;obtain⟨⟨h1,h2⟩,h3⟩:=h;obtain⟨m,M,K,ρ1,Z,v,q1,q2,q3,q4,q5,q6,q7⟩:=gB h1 rfl;simp only[Kf,Hw]at I;have hH:K.H=c.H:=by
        have hc:cls P x.o.op=.quiet:=by
         rw[X]at C;cases E:cls P x.o.op<;>rw[E]at C<;>first|rfl|cases C
        exact z5y (zct.1 hc).reads q1
       obtain⟨m',Y,R,U,O,b1,b2,b3,b4,b5,b6⟩:=go (pend':=z) Ek I.2 q3 q4 q5 (λy B=>⟨(hp y B).1,by rw[hH,q2];exact gE y B (hp y B).2⟩) q7 q1;refine⟨m',Y,R,U,O,?_,b3,b4,b5,b6⟩;simp only[Vs];rw[X];dsimp only;rw[b1];exact b2
    |rd =>
     rw[X]at h;dsimp only at h;split at h
     ·cases h
     ·rename_i j;split at h
      ·cases h
      ·rename_i rs gg;cases g with
       |nil=>cases h
       |cons it H =>
        obtain⟨li,cs⟩:=it;simp only[rdr,Option.some.injEq,List.cons.injEq,Prod.mk.injEq]at h;obtain⟨⟨h1,h2⟩,h3⟩:=h;obtain⟨m,M,K,ρ1,Z,v,q1,q2,q3,q4,q5,q6,q7⟩:=gB h1 rfl;simp only[Kf,Hw]at I;have hc:cls P x.o.op=.rd:=by
         rw[X]at C;cases E:cls P x.o.op<;>rw[E]at C<;>first|rfl|cases C
        have hH:K.H=c.H:=z5y (zct.2 hc) q1;have T:Va P ops x M K.H:=by
         unfold Va;rw[X];intro gO;unfold zk6 at j;cases A:x.o.dst with
         |none=>rw[A]at j;cases j
         |some d =>
          rw[A]at j;have hm:Wt d (U9 ops x.o)=false:=Bm
          have L:R7 (U9 ops x.o) M gC:=λt ht _=>by
           rw[q2,A];show M4 (Nm t) (Ow v (Nm d) gC)=_;rw[z5t (λq=>zej hm (by rw[←q];exact ht))]
          rw[zh L]at gO;refine⟨d,v,rfl,by rw[q2,A];exact qu _ _ _,?_⟩;rw[z8i L,hH];have E:=q1;unfold Rf at E;cases gz:Re n x.o.dst with
          |none=>rw[gz]at E;cases E
          |some pf =>
           rw[gz]at E;dsimp only at E;rw[gO]at E;dsimp only at E;have gG:=(zct.2 hc) gC c.H;cases V:(Oc P x.o.op).run gC c.H with
           |no=>rw[V]at E;cases E
           |call t a=>rw[V]at gG;cases gG
           |val w H2 =>
            rw[V]at E gG;cases gG;injection E with e1 e2
            have:=congrArg (λgC=>M4 (Nm d) gC) e1;rw[q2,(zbd gz).1,A,qu,qu]at this;cases this;rfl
        obtain⟨m',Y,R,U,O,b1,b2,b3,b4,b5,b6⟩:=go (pend':=x::z) Ek I.2 q3 q4 q5 (λy B=>by
         rcases If.1 B with rfl|B
         ·exact⟨⟨.inl X,j⟩,T⟩
         ·exact⟨(hp y B).1,by rw[hH,q2];exact gE y B (hp y B).2⟩) q7 q1
        refine⟨m',Y,R,U,O,?_,b3,b4,b5,b6⟩;simp only[Vs];rw[X];dsimp only;rw[b1];exact b2
    |al =>
     rw[X]at h;dsimp only at h;split at h
     ·cases h
     ·rename_i j;split at h
      ·cases h
      ·rename_i gM gF;split at h
       ·cases h
       ·rename_i rs gg;cases g with
        |nil=>cases h
        |cons it H =>
         obtain⟨li,cs⟩:=it;simp only[rdr,Option.some.injEq,List.cons.injEq,Prod.mk.injEq]at h;obtain⟨⟨h1,h2⟩,h3⟩:=h;obtain⟨m,M,K,ρ1,Z,v,q1,q2,q3,q4,q5,q6,q7⟩:=gB h1 rfl;simp only[Kf,Hw]at I;have hc:cls P x.o.op=.al:=by
          rw[X]at C;cases E:cls P x.o.op<;>rw[E]at C<;>first|rfl|cases C
         rw[h2]at gF;have F:∀y∈z,Pend P n ops y∧Va P ops y M K.H:=λy B=>by
          obtain⟨gI,w1,w2,w3⟩:=cks_mem gF q6 y B;have gA:gI.o.ok=true:=Jx.1 I.1.2 _ w2;refine⟨(hp y B).1,?_⟩;rw[q2];exact ((hp y B).2.keep w1 gA hs hE q4 w3).put (zhw gD y B) _
         have T:Va P ops x M K.H:=by
          unfold Va;rw[X];intro gO;unfold zk6 at j;cases A:x.o.dst with
          |none=>rw[A]at j;cases j
          |some d =>
           rw[A]at j;have hm:Wt d (U9 ops x.o)=false:=Bm
           have L:R7 (U9 ops x.o) M gC:=λt ht _=>by
            rw[q2,A];show M4 (Nm t) (Ow v (Nm d) gC)=_;rw[z5t (λq=>zej hm (by rw[←q];exact ht))]
           rw[zh L]at gO;have E:=q1;unfold Rf at E;cases gz:Re n x.o.dst with
           |none=>rw[gz]at E;cases E
           |some pf =>
            rw[gz]at E;dsimp only at E;rw[gO]at E;dsimp only at E;cases V:(Oc P x.o.op).run gC c.H with
            |no=>rw[V]at E;cases E
            |call t a =>
             exfalso;have:=zu9 (o:=x.o) hc gC c.H;rw[V]at this;exact this
            |val w H2 =>
             rw[V]at E;injection E with e1 e2
             have:=congrArg (λgC=>M4 (Nm d) gC) e1;rw[q2,(zbd gz).1,A,qu,qu]at this;cases this;obtain⟨ob,u1,u2,u3⟩:=al_any hc V;refine⟨d,_,c.H.next,ob,rfl,by rw[q2,A];exact qu _ _ _,u2,?_,λH3=>by rw[z8i L];exact u3 H3⟩;rw[←e2,u1];exact Heap.get_push_same _ _
         obtain⟨m',Y,R,U,O,b1,b2,b3,b4,b5,b6⟩:=go (pend':=x::z) Ek I.2 q3 q4 q5 (λy B=>by
          rcases If.1 B with rfl|B
          ·exact⟨⟨.inr X,j⟩,T⟩
          ·exact F y B) q7 q1
         refine⟨m',Y,R,U,O,?_,b3,b4,b5,b6⟩;simp only[Vs];rw[X];dsimp only;rw[b1];dsimp only;rw[ze5 (λy B=>by
          rcases If.1 B with rfl|B
          ·exact zag T (.inr X) j
          ·exact zag (F y B).2 (F y B).1.cls (F y B).1.own)]
         exact b2
    |ch =>
     rw[X]at h;dsimp only at h;split at h
     ·cases h
     ·rename_i gM gF;split at h
      ·cases h
      ·rename_i rs gg;cases g with
       |nil=>cases h
       |cons it H =>
        obtain⟨li,cs⟩:=it;simp only[rdr,Option.some.injEq,List.cons.injEq,Prod.mk.injEq]at h;obtain⟨⟨h1,h2⟩,h3⟩:=h;obtain⟨m,M,K,ρ1,Z,v,q1,q2,q3,q4,q5,q6,q7⟩:=gB h1 rfl;simp only[Kf,Hw]at I;rw[h2]at gF;have F:∀y∈N9 (λy=>!(Nat.testBit x.m y.i)) z,Pend P n ops y∧Va P ops y M K.H:=λy B=>by
         have gK:=ze2 B;obtain⟨gI,w1,w2,w3⟩:=cks_mem gF q6 y B;have gA:gI.o.ok=true:=Jx.1 I.1.2 _ w2;refine⟨(hp y gK).1,?_⟩;rw[q2];exact ((hp y gK).2.keep w1 gA hs hE q4 w3).put (zhw gD y gK) _
        obtain⟨m',Y,R,U,O,b1,b2,b3,b4,b5,b6⟩:=go (pend':=N9 (λy=>!(Nat.testBit x.m y.i)) z) Ek I.2 q3 q4 q5 F q7 q1;refine⟨m',Y,R,U,O,?_,b3,b4,b5,b6⟩;simp only[Vs];rw[X];dsimp only;rw[b1];dsimp only;rw[ze5 (λy B=>zag (F y B).2 (F y B).1.cls (F y B).1.own)];exact b2
end draw
section rule
variable {P : Program} {f n : Nat} {ro : Option Nat} {ρ : M2} {D : List Nat} {G : M0} {Q : Qd}
def W_draw{l:List (LI×List (LI×Bool))}(h:ef P l ρ G λj z=>Q .normal j D z):W P f n (.draw l) ro ρ D G Q:=by
 intro A c Z C E F H I K L Y;obtain⟨id,ops,rfl,g⟩:=ki F;unfold zsx at g;dsimp only at g;split at g
 ·rename_i hd;obtain⟨m,M,O,j,z,R,T,B,U,V⟩:=drawGo_ok g H I K (λx X=>by simp at X) h;refine⟨m,.normal,M,C,O,j,D,z,?_,T,B,U,L.mono B.le,V⟩;simp only[Qf,za9];rw[hd];dsimp only;rw[R]
 ·cases g
end rule
end
end
section
mutual
def LV.dat:LV→Bool
 |.any=>true
 |.bool _ |.u _ |.b _ |.i _ |.int _ _ |.str _ |.nilPtr |.nilSl |.nilMap |.nilFn |.nilIf=>true
 |.cptr l _=>dats l
 |.lst l _ _=>dats l
 |.fn (.func _) l r=>dats l&&dats r
 |.iface _ v=>v.dat
 |.agg l=>dats l
 |.tup l=>dats l
 |_=>false
def dats:List LV→Bool
 |[]=>true
 |v::l=>v.dat&&dats l
end
mutual
def AR.dat{c c':Cx}(gg:∀o,c.Fz o→c'.Fz o∧c'.H.get o=c.H.get o)(v:LV)(a:AV)(hd:v.dat=true)(h:AR c v a):AR c' v a:=by
 cases v with
 |cptr l i =>
  simp only[LV.dat]at hd;cases h with
  |cptr hf hr hl=>exact .cptr (gg _ hf).1 (by rw[z3i (gg _ hf).2];exact hr) (ARs.dat gg l _ hd hl)
 |lst l len gA =>
  simp only[LV.dat]at hd;cases h with
  |lst hf gz hlen hr hl=>exact .lst (gg _ hf).1 gz hlen (by rw[z3i (gg _ hf).2];exact hr) (ARs.dat gg l _ hd hl)
  |lstNil=>exact .lstNil
  |lstEmp=>exact .lstEmp
 |fn f l r =>
  cases f with
  |func f =>
   simp only[LV.dat,Hw]at hd;cases h with
   |fn hl hr=>exact .fn (ARs.dat gg l _ hd.1 hl) (ARs.dat gg r _ hd.2 hr)
  |_=>simp[LV.dat]at hd
 |iface t w =>
  simp only[LV.dat]at hd;cases h with
  |iface h=>exact .iface (AR.dat gg w _ hd h)
 |agg l =>
  simp only[LV.dat]at hd;cases h with
  |agg h=>exact .agg (ARs.dat gg l _ hd h)
 |tup l =>
  simp only[LV.dat]at hd;cases h with
  |tup h=>exact .tup (ARs.dat gg l _ hd h)
 |any=>exact .any a
 |_=>first|(simp only[LV.dat]at hd;cases hd;done)|(cases h;constructor)
termination_by SizeOf.sizeOf v
def ARs.dat{c c':Cx}(gg:∀o,c.Fz o→c'.Fz o∧c'.H.get o=c.H.get o)(l:List LV)(r:List AV)(hd:dats l=true)(h:ARs c l r):ARs c' l r:=by
 cases l with
 |nil=>cases h;exact .nil
 |cons v l =>
  simp only[dats,Hw]at hd;cases h with
  |cons e es=>exact .cons (AR.dat gg v _ hd.1 e) (ARs.dat gg l _ hd.2 es)
termination_by SizeOf.sizeOf l
end
def dats_app:∀{l r:List LV},dats l=true→dats r=true→dats (l++r)=true
 |[],_,_,h=>h
 |v::l,r,h,k=>by
  simp only[dats,Hw]at h;simp only[I4,dats,Hw];exact⟨h.1,dats_app h.2 k⟩
def dats_take:∀{l:List LV} (n:Nat),dats l=true→dats (l.take n)=true
 |_,0,_=>by simp[dats]
 |[],n+1,_=>by simp[dats]
 |v::l,n+1,h=>by
  simp only[dats,Hw]at h;simp only[List.take_succ_cons,dats,Hw];exact⟨h.1,dats_take n h.2⟩
def dats_drop:∀{l:List LV} (n:Nat),dats l=true→dats (l.drop n)=true
 |_,0,h=>h
 |[],n+1,_=>by simp[dats]
 |v::l,n+1,h=>by
  simp only[dats,Hw]at h;simp only[List.drop_succ_cons];exact dats_drop n h.2
def zcg{g:Type}{f:g→LV}(h:∀a,(f a).dat=true):∀l:List g,dats (l.map f)=true
 |[]=>rfl
 |a::l=>by simp only[Kn,dats,Hw];exact⟨h a,zcg h l⟩
mutual
def bor(G:M0):LV→LV→Prop
 |.dy p k,d=>∃l len gg st,d=.lst l len gg∧G[p]?=some (.dyn l len gg k st)∧dats l=true
 |.vw p k lo len,d=>∃l gz gg st,d=.lst ((l.drop (lo*gg)).take (len*gg)) len gg∧G[p]?=some (.dyn l gz gg k st)∧lo*gg+len*gg≤l.length∧dats l=true
 |.nilSl,d=>d=.nilSl∨∃gg,d=.lst [] 0 gg
 |.agg l,d=>∃r,d=.agg r∧bors G l r
 |v,d=>d=v∧v.dat=true
def bors(G:M0):List LV→List LV→Prop
 |[],r=>r=[]
 |v::l,r=>∃d r',r=d::r'∧bor G v d∧bors G l r'
end
section calls
variable {P : Program} {c : Cx} {G : M0}
def uq{v d:LV}{a:AV}(g:d=v∧v.dat=true)(h:AR c v a):AR ⟨[],λo=>c.Fz o∨O4 c G o,c.H⟩ d a:=by
 obtain⟨rfl,hd⟩:=g;exact AR.dat (c':=⟨[],λo=>c.Fz o∨O4 c G o,c.H⟩) (λo ho=>⟨Or.inl ho,rfl⟩) d a hd h
mutual
def bor_ok(hs:HSim c G)(v d:LV)(a:AV)(hb:bor G v d)(h:AR c v a):AR ⟨[],λo=>c.Fz o∨O4 c G o,c.H⟩ d a:=by
 cases v with
 |dy p k =>
  simp only[bor]at hb;obtain⟨l,len,gg,st,rfl,hg,hd⟩:=hb;cases h with
  | @dy _ _ k' hh _ e hk ha _ =>
   have gC:=hs.obj p _ _ _ hg e;obtain⟨r0,r1,r2⟩:=gC;have gA:=ha J;rcases r2 with ⟨r2,r3⟩|⟨o,v,room,t,gB,l',r2,r3,r4,r5,r6,r7,r8⟩
   ·subst r3;have:l=[]:=In Dc;subst this;rw[gA,r2];exact .lstNil
   ·have gI:l'.length=len*gg:=C4
    have hr:=V7 (i:=0) (n:=len*gg) r3 r5 r4 J;rw[Ka,Ij J]at hr;rw[gA,r2];exact .lst (.inr ⟨p,_,_,_,hg,rfl,e,by rw[r2];rfl⟩) (λr e=>(r7 r e).2) r1 hr (ARs.dat (c':=⟨[],λo=>c.Fz o∨O4 c G o,c.H⟩) (λo ho=>⟨Or.inl ho,rfl⟩) l l' hd r6)
 |vw p k lo len =>
  simp only[bor]at hb;obtain⟨l,gG,gg,st,rfl,hg,hle,hd⟩:=hb;cases h with
  | @vw _ _ _ _ k' hh _ e hk ha _ _ =>
   have gK:=(hs.obj p _ _ _ hg e).1;rcases ha J with ⟨r3,r4⟩|⟨o,v,gH,gz,room,gD,r3,r4,r9⟩
   ·subst r3;simp only[Kw,Mp];rcases r4 with rfl|⟨rfl,_⟩
    ·exact .lstNil
    ·exact .lstEmp
   ·have e2:=e;rw[r3]at e2;obtain⟨_,q1,q2,q3,t,gB,l',q4,q5,q6,q7,_⟩:=pu hs hg e2;subst q2 q3;have hr:=V7 (i:=lo*gz) (n:=len*gz) q4 q6 q5 J;rw[r4];refine .lst (.inr ⟨p,_,_,_,hg,rfl,e,by rw[r3];rfl⟩) r9 Ab hr ?_;exact ((ARs.dat (c':=⟨[],λo=>c.Fz o∨O4 c G o,c.H⟩) (λo ho=>⟨Or.inl ho,rfl⟩) l l' hd q7).drop _).take _
 |nilSl =>
  simp only[bor]at hb;cases h;rcases hb with rfl|⟨gg,rfl⟩
  ·exact .nilSl
  ·exact .lstNil
 |agg l =>
  simp only[bor]at hb;obtain⟨r,rfl,hb⟩:=hb;cases h with
  |agg h=>exact .agg (bors_ok hs l r _ hb h)
 |_=>exact uq (by simpa only[bor] using hb) h
termination_by SizeOf.sizeOf v
def bors_ok(hs:HSim c G)(l r:List LV)(as:List AV)(hb:bors G l r)(h:ARs c l as):ARs ⟨[],λo=>c.Fz o∨O4 c G o,c.H⟩ r as:=by
 cases l with
 |nil=>simp only[bors]at hb;subst hb;cases h;exact .nil
 |cons v l =>
  simp only[bors]at hb;obtain⟨d,r',rfl,gE,gF⟩:=hb;cases h with
  |cons e es=>exact .cons (bor_ok hs v d _ gE e) (bors_ok hs l r' _ gF es)
termination_by SizeOf.sizeOf l
end
mutual
def shV(n:Nat):LV→LV
 |.dy j k=>.dy (n+j) k
 |.agg l=>.agg (shVs n l)
 |.tup l=>.tup (shVs n l)
 |v=>v
def shVs(n:Nat):List LV→List LV
 |[]=>[]
 |v::l=>shV n v::shVs n l
end
mutual
def frV(j:M0):LV→LV
 |.dy gz _=>match j[gz]? with
  |some (.dyn l len gg _ _)=>.lst l len gg
  |_=>.any
 |.agg l=>.agg (frVs j l)
 |.tup l=>.tup (frVs j l)
 |v=>v
def frVs(j:M0):List LV→List LV
 |[]=>[]
 |v::l=>frV j v::frVs j l
end
mutual
def sh_AR{c0 c':Cx}{n m:Nat}(h:∀gg a,gg<m→AR c0 (.dy gg 0) a→AR c' (.dy (n+gg) 0) a)(v:LV)(a:AV)(j:v.sim m=true)(ha:AR c0 v a):AR c' (shV n v) a:=by
 cases v with
 |dy gg k =>
  simp only[LV.sim,Hw,Lk,Ib]at j;obtain⟨rfl,hj⟩:=j;exact h gg a hj ha
 |agg l =>
  simp only[LV.sim]at j;cases ha with
  |agg ha=>simp only[shV];exact .agg (sh_ARs h l _ j ha)
 |tup l =>
  simp only[LV.sim]at j;cases ha with
  |tup ha=>simp only[shV];exact .tup (sh_ARs h l _ j ha)
 |_=>first|(simp only[LV.sim]at j;cases j;done)|(simp only[shV];cases ha;constructor)
termination_by SizeOf.sizeOf v
def sh_ARs{c0 c':Cx}{n m:Nat}(h:∀gg a,gg<m→AR c0 (.dy gg 0) a→AR c' (.dy (n+gg) 0) a)(l:List LV)(r:List AV)(j:sims m l=true)(ha:ARs c0 l r):ARs c' (shVs n l) r:=by
 cases l with
 |nil=>cases ha;simp only[shVs];exact .nil
 |cons v l =>
  simp only[sims,Hw]at j;cases ha with
  |cons e es=>simp only[shVs];exact .cons (sh_AR h v _ j.1 e) (sh_ARs h l _ j.2 es)
termination_by SizeOf.sizeOf l
end
mutual
def fr_AR{c0 c':Cx}{G0:M0}(h:∀gg a,gg<G0.length→AR c0 (.dy gg 0) a→AR c' (frV G0 (.dy gg 0)) a)(v:LV)(a:AV)(j:v.sim G0.length=true)(ha:AR c0 v a):AR c' (frV G0 v) a:=by
 cases v with
 |dy gg k =>
  simp only[LV.sim,Hw,Lk,Ib]at j;obtain⟨rfl,hj⟩:=j;exact h gg a hj ha
 |agg l =>
  simp only[LV.sim]at j;cases ha with
  |agg ha=>simp only[frV];exact .agg (fr_ARs h l _ j ha)
 |tup l =>
  simp only[LV.sim]at j;cases ha with
  |tup ha=>simp only[frV];exact .tup (fr_ARs h l _ j ha)
 |_=>first|(simp only[LV.sim]at j;cases j;done)|(simp only[frV];cases ha;constructor)
termination_by SizeOf.sizeOf v
def fr_ARs{c0 c':Cx}{G0:M0}(h:∀gg a,gg<G0.length→AR c0 (.dy gg 0) a→AR c' (frV G0 (.dy gg 0)) a)(l:List LV)(r:List AV)(j:sims G0.length l=true)(ha:ARs c0 l r):ARs c' (frVs G0 l) r:=by
 cases l with
 |nil=>cases ha;simp only[frVs];exact .nil
 |cons v l =>
  simp only[sims,Hw]at j;cases ha with
  |cons e es=>simp only[frVs];exact .cons (fr_AR h v _ j.1 e) (fr_ARs h l _ j.2 es)
termination_by SizeOf.sizeOf l
end
def Nw{f:Nat}(hc:Oj P f v8 R F)(hb:bors G E v8)(k:X (frV F R) G):Qh P (.fn f) E G X:=by
 obtain⟨ht,M,hG,O⟩:=hc;refine⟨ht,λc t1 B j Q ha=>?_⟩;cases t1 with
 |yield o=>exact Q.elim
 |fn gE =>
  obtain rfl:f=gE:=Q;obtain⟨m,v1,D,H,q1,q2,q3,q4,q5,q6⟩:=O (λo=>c.Fz o∨O4 c G o) c.H B (λo ho=>ho.elim (j.fz o) (j.lt o)) (bors_ok j E v8 B hb ha);have T:CxLe c ⟨c.hd,λo=>c.Fz o∨O4 ⟨D,λo=>c.Fz o∨O4 c G o,H⟩ F o,H⟩:=⟨λp k h e=>⟨k,h,e,H9 _,λ_=>rfl,λ_=>rfl⟩,λo ho=>⟨.inl ho,q5 o (j.fz o ho)⟩⟩;have g:∀o,O4 ⟨c.hd,λo=>c.Fz o∨O4 ⟨D,λo=>c.Fz o∨O4 c G o,H⟩ F o,H⟩ G o→O4 c G o:=λo ⟨p,z,k,h,C,A,U,V⟩=>⟨p,z,k,h,C,A,U,V⟩
  refine⟨m,v1,H,q1,⟨c.hd,λo=>c.Fz o∨O4 ⟨D,λo=>c.Fz o∨O4 c G o,H⟩ F o,H⟩,frV F R,G,rfl,?_,?_,?_,k⟩
  ·refine⟨j.len,λo ho=>?_,λo ho=>Iz (j.lt o (g o ho)) q4,λo ho Y=>?_,λp z k h C A=>?_,λp q z I k h k' h' o C A U V e5 e6 e7 e8=>j.excl p q z I k h k' h' o C A U V e5 e6 e7 e8⟩
   ·rcases ho with ho|ho
    ·exact Iz (j.fz o ho) q4
    ·exact q2.lt o ho
   ·rcases Y with Y|Y
    ·exact j.sep o (g o ho) Y
    ·have:=q6 o Y;have:=j.lt o (g o ho);omega
   ·by_cases hl:z.live=true
    ·exact (j.obj p z k h C A).mono T (λo ho=>q5 o (j.lt o ⟨p,z,k,h,C,hl,A,ho⟩))
    ·cases z<;>first|exact absurd rfl hl|trivial
  ·refine⟨T,q4,λo ho _=>q5 o ho,λo ho=>.inl (g o ho),λo ho=>ho.elim .inl (λh=>.inr (.inr (q6 o h))),λp z I C A=>?_,λp z I k h o C A U V e5 e6=>?_⟩
   ·rw[C]at A;cases A;exact H9 _
   ·rw[C]at A;cases A;have hl:z.live=true:=by cases z<;>first|rfl|cases e5
    exact⟨rfl,q5 o (j.lt o ⟨p,z,k,h,C,hl,U,V⟩),rfl⟩
  ·refine fr_AR (λgC a hj h=>?_) R v1 M q3;obtain⟨l,len,K,gg,gz⟩:=hG gC _ (H6 hj);have hg:F[gC]?=some (.dyn l len K 0 0):=by rw[H6 hj,gg]
   simp only[frV];rw[hg];dsimp only;cases h with
   | @dy _ _ k' hh _ e hk ha _ =>
    obtain⟨r0,r1,L⟩:=q2.obj gC _ _ _ hg e;have Z:=ha J;rcases L with ⟨L,r3⟩|⟨o,v,gA,t,gB,l',L,r3,r4,r5,r6,r7,r8⟩
    ·subst r3;have:l=[]:=In Dc;subst this;rw[Z,L];exact .lstNil
    ·have gD:l'.length=len*K:=C4
     have hr:=V7 (i:=0) (n:=len*K) r3 r5 r4 J;rw[Ka,Ij J]at hr;rw[Z,L];exact .lst (.inr ⟨gC,_,_,_,hg,rfl,e,by rw[L];rfl⟩) (λr e=>(r7 r e).2) r1 hr (zem gz r6)
def zt7{f:Nat}(hc:Oj P f v8 R F)(hb:bors G E v8)(k:X (shV G.length R) (G++F)):Qh P (.fn f) E G X:=by
 obtain⟨ht,Z,hG,gg⟩:=hc;refine⟨ht,λc t1 M j gz ha=>?_⟩;cases t1 with
 |yield o=>exact gz.elim
 |fn gH =>
  obtain rfl:f=gH:=gz;obtain⟨m,v1,A,U,q1,V,q3,q4,q5,q6⟩:=gg (λo=>c.Fz o∨O4 c G o) c.H M (λo ho=>ho.elim (j.fz o) (j.lt o)) (bors_ok j E v8 M hb ha);have gA:∀(p k:Nat) (h:AV),c.hd[p]?=some (k,h)→(c.hd++A)[p]?=some (k,h):=λp k h e=>by
   rw[Ie (Hu.1 e).1];exact e
  have gB:CxLe c ⟨c.hd++A,c.Fz,U⟩:=⟨λp k h e=>⟨k,h,gA p k h e,H9 _,λ_=>rfl,λ_=>rfl⟩,λo ho=>⟨ho,q5 o (j.fz o ho)⟩⟩;have T:A.length=F.length:=V.len;have H:∀(p:Nat) (k:Nat) (h:AV) (g:LObj),(c.hd++A)[p]?=some (k,h)→(G++F)[p]?=some g→(c.hd[p]?=some (k,h)∧G[p]?=some g)∨(G.length≤p∧A[p-G.length]?=some (k,h)∧F[p-G.length]?=some g):=by
   intro p k h g B C;by_cases hp:p<G.length
   ·rw[Ie hp]at C;rw[Ie (by rw[j.len];exact hp)]at B;exact .inl ⟨B,C⟩
   ·rw[Il J]at C;rw[Il (by rw[j.len];omega),j.len]at B;exact .inr ⟨J,B,C⟩
  have D:∀(p k:Nat) (h:AV) (z:LObj) (o:Nat),A[p]?=some (k,h)→F[p]?=some z→z.live=true→Ny h=some o→O4 ⟨A,λo=>c.Fz o∨O4 c G o,U⟩ F o:=λp k h z o B C K O=>⟨p,z,k,h,C,K,B,O⟩
  have Q:∀o,O4 ⟨c.hd++A,c.Fz,U⟩ (G++F) o→O4 c G o∨(c.H.next≤o∧o<U.next):=by
   rintro o ⟨p,g,k,h,B,C,K,O⟩;rcases H p k h g K B with ⟨q1,V⟩|⟨_,L,I⟩
   ·exact .inl ⟨p,g,k,h,V,C,q1,O⟩
   ·have:=D _ k h g o L I C O;exact .inr ⟨q6 o this,V.lt o this⟩
  refine⟨m,v1,U,q1,⟨c.hd++A,c.Fz,U⟩,shV G.length R,G++F,rfl,?_,?_,?_,k⟩
  ·refine⟨by simp[j.len,T],λo ho=>Iz (j.fz o ho) q4,λo ho=>?_,λo ho hf=>?_,λp z k h B C=>?_,λp q z g k h Y h' o B C K O e5 e6 e7 e8=>?_⟩
   ·rcases Q o ho with h|h
    ·exact Iz (j.lt o h) q4
    ·exact h.2
   ·rcases Q o ho with h|h
    ·exact j.sep o h hf
    ·have:=j.fz o hf;omega
   ·rcases H p k h z C B with ⟨L,I⟩|⟨_,L,I⟩
    ·by_cases hl:z.live=true
     ·exact (j.obj p z k h I L).mono gB (λo ho=>q5 o (j.lt o ⟨p,z,k,h,I,hl,L,ho⟩))
     ·cases z<;>first|exact absurd rfl hl|trivial
    ·obtain⟨l,len,gG,rfl,gE⟩:=hG _ _ I;obtain⟨s0,s1,s2⟩:=V.obj _ _ _ _ I L;refine⟨s0,s1,?_⟩;rcases s2 with s2|⟨o,v,gC,t,gD,l',s2,s3,s4,s5,s6,s7⟩
     ·exact .inl s2
     ·exact .inr ⟨o,v,gC,t,gD,l',s2,s3,s4,s5,zem gE s6,s7⟩
   ·rcases H p k h z e5 B with ⟨L,I⟩|⟨hp,L,I⟩<;>rcases H q Y h' g e6 C with ⟨r3,r4⟩|⟨hq,r3,r4⟩
    ·exact j.excl p q z g k h Y h' o I r4 K O L r3 e7 e8
    ·have:=j.lt o ⟨p,z,k,h,I,K,L,e7⟩;have:=q6 o (D _ _ _ _ o r3 r4 O e8);omega
    ·have:=j.lt o ⟨q,g,Y,h',r4,O,r3,e8⟩;have:=q6 o (D _ _ _ _ o L I K e7);omega
    ·have:=V.excl _ _ z g k h Y h' o I r4 K O L r3 e7 e8;omega
  ·refine⟨gB,q4,λo ho _=>q5 o ho,λo ho=>(Q o ho).elim .inl (λh=>.inr h.1),λo ho=>.inl ho,λp z g B C=>?_,λp z g k h o B C K O e5 e6=>?_⟩
   ·rw[Ie (Hu.1 B).1,B]at C;cases C;exact H9 _
   ·rw[Ie (Hu.1 B).1,B]at C;cases C;have hl:z.live=true:=by cases z<;>first|rfl|cases e5
    exact⟨rfl,q5 o (j.lt o ⟨p,z,k,h,B,hl,K,O⟩),by rw[gA p k h K,K]⟩
  ·refine sh_AR (λgI a hj h=>?_) R v1 Z q3;cases h with
   | @dy _ _ Y hh _ e hk ha gF =>
    exact .dy (k':=Y) (h:=hh) (by dsimp only;rw[Il (by rw[j.len];omega),j.len,Nat.add_sub_cancel_left];exact e) hk ha gF
end calls
end
section
section rules
variable {P : Program} {f n : Nat} {ρ : M2} {D : List Nat} {G : M0} {Q : Qd}
end rules
end
section
noncomputable section
def wp(P:Program)(f n:Nat)(ro:Option Nat):LC→M2→List Nat→M0→Qd→Prop
 |.skip,ρ,D,G,Q=>Q .normal ρ D G
 |.ops l,ρ,D,G,Q=>Us P l ρ G λρ' G'=>Q .normal ρ' D G'
 |.seq a b,ρ,D,G,Q=>wp P f n ro a ρ D G λx ρ' j G'=>match x with
  |.normal=>wp P f n ro b ρ' j G' Q
  |x=>Q x ρ' j G'
 |.cond x a b,ρ,D,G,Q=>brV (x.ev ρ) (wp P f n ro a ρ D G Q) (wp P f n ro b ρ D G Q)
 |.block id c,ρ,D,G,Q=>wp P f n ro c ρ D G λx ρ' j G'=>match x with
  |.exit i=>if i=id then Q .normal ρ' j G' else Q (.exit i) ρ' j G'
  |x=>Q x ρ' j G'
 |.draw l,ρ,D,G,Q=>ef P l ρ G λρ' G'=>Q .normal ρ' D G'
 |.exit id,ρ,D,G,Q=>Q (.exit id) ρ D G
 |.scope c,ρ,D,G,Q=>wp P f n ro c ρ D G Q
 |.label,ρ,D,G,Q=>Q .normal ρ D G
 |.ret,ρ,D,G,Q=>Q .ret ρ D G
 |.stuck,_,_,_,_=>False
 |s,ρ,D,G,Q=>W P f n s ro ρ D G Q
def Xk(P:Program)(f n:Nat)(ro:Option Nat)(b:LC)(Q:Qd):Qd:=λx ρ' j G'=>match x with
  |.normal=>wp P f n ro b ρ' j G' Q
  |x=>Q x ρ' j G'
def ui(id:Nat)(Q:Qd):Qd:=λx ρ' j G'=>match x with
  |.exit i=>if i=id then Q .normal ρ' j G' else Q (.exit i) ρ' j G'
  |x=>Q x ρ' j G'
def zr(Nx:M2→List Nat→M0→Prop)(Q:Qd):Qd:=λx ρ' j G'=>match x with
  |.normal=>Nx ρ' j G'
  |x=>Q x ρ' j G'
def endK(K:LV→M0→Prop)(G:M0):List LV→Prop:=λvs=>K (Ua vs) G
def yi(ρ:M2)(rs:List RRes)(K:LV→M0→Prop):M0→Prop:=λj=>Rc ρ j rs (endK K j)
def gt (rs : List RRes) (K : LV → M0 → Prop) : Qd := fun x ρ D G' => match x with
   |.exit _=>False
   |_=>ua D G' (yi ρ rs K)
def norQ(Q:Qd)(D:List Nat):M2→M0→Prop:=λρ G=>Q .normal ρ D G
def opsK(P:Program)(l:List LI)(K:M2→M0→Prop):M2→M0→Prop:=λρ' G'=>Us P l ρ' G' K
def ze(ρ:M2)(d:Option Nat)(K:M2→M0→Prop):LV→M0→Prop:=λv G'=>K (Sq ρ d v) G'
def Xs(K:LV→M0→Prop)(G:M0):LV→Prop:=λv=>K v G
def drK(P:Program)(cs:List (LI×Bool))(l:List (LI×List (LI×Bool)))(ρ:M2)(G:M0)(K:M2→M0→Prop):M2→M0→Prop:=λρ' G'=>Wz ρ G G' cs∧ef P l ρ' G' K
def tmpK(ρ:M2)(t:Nat)(K:List LV→Prop):List LV→Prop:=λvs=>K (lk ρ t::vs)
def conK(v:LV)(K:List LV→Prop):List LV→Prop:=λvs=>K (v::vs)
def cnK(ρ:M2)(G:M0)(l:List RRes)(K:List LV→Prop):List LV→Prop:=λcs=>Rc ρ G l (conK (.agg cs) K)
def Sj{P:Program}{f n:Nat}{ro:Option Nat}:∀(s:LC) {ρ:M2} {D:List Nat} {G:M0} {Q:Qd},wp P f n ro s ρ D G Q→W P f n s ro ρ D G Q
 |.skip,_,_,_,_,h=>W_skip h
 |.ops l,_,_,_,_,h=>W_ops h
 |.seq a b,_,_,_,_,h=>ip ((Sj a h).post λx ρ D G k=>by
  cases x with
  |normal=>exact Sj b k
  |exit i=>exact k
  |ret=>exact k)
 |.cond x a b,ρ,_,_,_,h=>by
  simp only[wp]at h;obtain⟨t,j,h⟩:=mj h;exact W_cond j (λe=>Sj a (h.1 e)) (λe=>Sj b (h.2 e))
 |.block id c,_,_,_,_,h=>us (Sj c h)
 |.exit id,_,_,_,_,h=>W_exit h
 |.scope c,_,_,_,_,h=>ul (Sj c h)
 |.label,_,_,_,_,h=>vm h
 |.ret,_,_,_,_,h=>W_ret h
 |.stuck,_,_,_,_,h=>h.elim
 |.draw l,_,_,_,_,h=>W_draw h
 |.loop c,_,_,_,_,h=>h
 |.rangeF g ps a b,_,_,_,_,h=>h
section rules
variable {P : Program}
def Nb{f:Nat}{s:LC}{n:Nat}{rs:List RRes}(C:Na P f=some ⟨n,s.r,rs⟩)(j:s.ok=true){G:M0}{K:LV→M0→Prop}(F:E.length≤n)
  (h:wp P f n none s (fg E 0) [] G (gt rs K)):Qh P (.fn f) E G K :=
 zmb C j F ((Sj s h).post λx ρ D G' k=>by
  cases x with
  |normal=>exact⟨trivial,k⟩
  |exit i=>exact k.elim
  |ret=>exact⟨trivial,k⟩)
def Oj.val{f:Nat}{args:List LV}{v0:LV}(j:v0.sim 0=true)(h:Qh P (.fn f) args [] λv _=>v=subV [] v0):Oj P f args v0 [] :=
 .mk j (h.mono λv G e=>⟨[],e,rfl,trivial⟩) (λgg ob e=>Cg)
def uc{f n:Nat}{ro:Option Nat}{ρ:M2}{D:List Nat}{G:M0}{Q:Qd}{s:LC}(I:M2→List Nat→M0→Nat→Prop){N:Nat}(C:I ρ D G N)
  (h:∀N ρ D G,I ρ D G N→wp P f n ro s ρ D G (zr (λρ' E G'=>∃j,j<N∧I ρ' E G' j) Q)):W P f n (.loop s) ro ρ D G Q :=
 ii I C λN ρ D G k=>Sj s (h N ρ D G k)
def Po{f n:Nat}{ro:Option Nat}{ρ:M2}{D:List Nat}{G:M0}{Q:Qd}{s:LC}(I:M2→List Nat→M0→Nat→Prop){N:Nat}(E:I ρ D G N)
  (h:∀(N:Nat) (ρ:M2) (D:List Nat) (G:M0),I ρ D G N→∀Nx:M2→List Nat→M0→Prop,(∀(ρ':M2) (C:List Nat) (G':M0),(∃j,j<N∧I ρ' C G' j)→Nx ρ' C G')→wp P f n ro s ρ D G (zr Nx Q)):W P f n (.loop s) ro ρ D G Q :=
 ii I E λN ρ D G k=>Sj s (h N ρ D G k (λρ' C G'=>∃j,j<N∧I ρ' C G' j) λ_ _ _ e=>e)
end rules
section congr
variable {P : Program} {ρ ρ' : M2} {G G' : M0} {x x' y y' : LV} {K : LV → M0 → Prop} {Kv : LV → Prop}
@[congr] theorem W_congr {f n:Nat} {s:LC} {ro:Option Nat} {D:List Nat} {Q:Qd} (j:ρ=ρ') (C:G=G'):W P f n s ro ρ D G Q=W P f n s ro ρ' D G' Q:=B7
@[congr] theorem wp_congr {f n:Nat} {s:LC} {ro:Option Nat} {D:List Nat} {Q:Qd} (j:ρ=ρ') (C:G=G'):wp P f n ro s ρ D G Q=wp P f n ro s ρ' D G' Q:=B7
@[congr] theorem CallL_congr {t:LTgt} {a:List LV} (j:a=E) (C:G=G'):Qh P t a G K=Qh P t E G' K:=B7
@[congr] theorem binL_congr {op:BinOp} {g:Bool} {t:TypeId} (j:x=x') (C:y=y'):T2 P op g t x y Kv=T2 P op g t x' y' Kv:=B7
@[congr] theorem unL_congr {op:UnOp} (j:x=x'):unL op x Kv=unL op x' Kv:=F4
@[congr] theorem cvL_congr {k:IntKind} (j:x=x'):wm k x Kv=wm k x' Kv:=F4
@[congr] theorem readL_congr {n:Nat} {K:List LV→Prop} (j:G=G') (C:x=x'):Y5 G x n K=Y5 G' x' n K:=B7
@[congr] theorem read1_congr (j:G=G') (C:x=x'):Yq G x Kv=Yq G' x' Kv:=B7
@[congr] theorem nthL_congr {l:List LV} {i:Nat} (C:l=E) (F:i=j):O9 l i Kv=O9 E j Kv:=by rw[C,F]
@[congr] theorem xb {r:List LV} {K:M0→Prop} (j:G=G') (C:x=x') (F:r=E):Wa G x r K=Wa G' x' E K:=by rw[j,C,F]
@[congr] theorem rowL_congr {n:Nat} {K:Nat→List LV→Prop} (j:G=G') (C:x=x'):T1 G n x K=T1 G' n x' K:=B7
@[congr] theorem lenL_congr {K:Nat→Prop} (j:G=G') (C:x=x'):lenL G x K=lenL G' x' K:=B7
@[congr] theorem appL_congr {size n n':Nat} {l:List LV} (j:G=G') (C:x=x') (F:n=n') (H:l=E):Pf G size x n l K=Pf G' size x' n' E K:=by rw[j,C,F,H]
@[congr] theorem brL_congr {t j:Bool} {A B:Prop} (h:t=j):Tv t A B=Tv j A B:=E8
@[congr] theorem brG_congr {A B:Prop} (h:x=x'):sg x A B uT=sg x' A B uT:=E8
@[congr] theorem brV_congr {A B:Prop} (h:x=x'):brV x A B=brV x' A B:=E8
end congr
def zqs{t:Bool}{A B:Prop}:brV (.bool t) A B=Tv t A B:=(rfl)
def zum{t:Bool}{A B:Prop}:sg (.bool t) A B uT=Tv t A B:=(rfl)
def Zn{A B:Prop}:sg (.tup []) A B uT=uT:=(rfl)
def zmh{A B:Prop}:Tv true A B=A:=by simp[Tv]
def ziq{A B:Prop}:Tv false A B=B:=by simp[Tv]
def uk{p:Prop}[Decidable p]{A B:Prop}:Tv (decide p) A B=((p→A)∧(¬p→B)):=by simp[Tv]
def zy6{b:Bool}{A B:Prop}:Tv (!b) A B=Tv b B A:=by cases b<;>simp[Tv]
def zqx(v:LV)(l:List LV)(K:LV→Prop):O9 (v::l) 0 K=K v:=by simp[O9]
def zq8(v:LV)(l:List LV)(i:Nat)(K:LV→Prop):O9 (v::l) (i+1) K=O9 l i K:=by simp[O9]
def zv5(f:vQ→LV)(d:vQ)(l:List vQ)(i:Nat)(K:LV→Prop):O9 (l.map f) i K=(i<l.length∧K (f (l.getD i d))):=by
 unfold O9;by_cases h:i<l.length
 ·simp[h]
 ·simp[h]
def pj(l:List UInt64)(i:Nat)(K:LV→Prop):O9 (l.map .u) i K=(i<l.length∧K (.u (l.getD i 0))):=zv5 _ _ _ _ _
def eq(o:Option LObj)(K:List LV→Nat→Prop):Prop:=match o with
 |some (.cells l st)=>K l st
 |_=>False
def Rj(o:Option LObj)(K:List LV→Nat→Nat→Nat→Nat→Prop):Prop:=match o with
 |some (.dyn l len esz j st)=>K l len esz j st
 |_=>False
def zjg(o:Option (List LV))(K:List LV→Prop):Prop:=match o with
 |some l=>K l
 |none=>False
def vr(c a b:LV)(K:LV→Prop):Prop:=match c with
 |.bool t=>match a,b with
  |.bool x,.bool y=>K (.bool (match t with|true=>x|false=>y))
  |x,y=>Tv t (K x) (K y)
 |_=>False
def wu(x:LV)(K:LV→Prop):Prop:=match x with
 |.ptr p i=>K (.ptr p i)
 |.dptr p k i=>K (.dptr p k i)
 |.cptr l i=>K (.cptr l i)
 |.fn (.func f) a b=>K (.fn (.func f) a b)
 |_=>False
def Wm(x y:LV)(K:Nat→Prop):Prop:=match x,y with
 |.i l,.i c=>l=c∧0≤l∧l≤1048576∧K l.toNat
 |_,_=>False
def vu(x:LV)(K:Nat→Prop):Prop:=match x with
 |.i n=>0≤n∧K n.toNat
 |.u n=>K n.toNat
 |_=>False
def qy(G:M0)(size:Nat)(x:LV)(lo:(Nat→Prop)→Prop)(hi:Nat→(Nat→Prop)→Prop)(K:LV→Prop):Prop:=match x with
 |.nilSl=>lo λa=>hi 0 λb=>a=0∧b=0∧K .nilSl
 |.dy p k=>Rj G[p]? λ_ len esz j _=>k=j∧esz=size∧lo λa=>hi len λb=>a≤b∧b≤len∧K (.vw p k a (b-a))
 |.vw p k C len=>Rj G[p]? λ_ _ esz j _=>k=j∧esz=size∧lo λa=>hi len λb=>a≤b∧b≤len∧K (.vw p k (C+a) (b-a))
 |.lst l len esz=>esz=size∧lo λa=>hi len λb=>a≤b∧b≤len∧K (.lst ((l.drop (a*esz)).take ((b-a)*esz)) (b-a) esz)
 |_=>False
def Xq(off:Nat)(x:LV)(K:LV→Prop):Prop:=match x with
 |.ptr p i=>K (.ptr p (i+off))
 |.dptr p k i=>K (.dptr p k (i+off))
 |.cptr l i=>K (.cptr l (i+off))
 |_=>False
def xi(g:Bool)(n off:Nat)(x:LV)(K:LV→Prop):Prop:=match x with
 |.agg l=>match g with
  |true=>off+n≤l.length∧K (.agg ((l.drop off).take n))
  |false=>O9 l off K
 |_=>False
def fu(G:M0)(size:Nat)(x:LV)(n:Int)(K:LV→Prop):Prop:=match x with
 |.dy p k=>Rj G[p]? λ_ len esz j _=>k=j∧esz=size∧0≤n∧n<len∧K (.dptr p k (n.toNat*size))
 |.vw p k lo len=>Rj G[p]? λ_ _ esz j _=>k=j∧esz=size∧0≤n∧n<len∧K (.dptr p k ((lo+n.toNat)*size))
 |.lst l len esz=>esz=size∧0≤n∧n<len∧K (.cptr l (n.toNat*size))
 |_=>False
def ixL(G:M0)(size:Nat)(x i:LV)(K:LV→Prop):Prop:=match i with
 |.i n=>fu G size x n K
 |.u n=>fu G size x (n.toNat:Int) K
 |_=>False
def xp(i:Nat)(x:LV)(K:LV→Prop):Prop:=match x with
 |.tup l=>O9 l i K
 |_=>False
def mm(j:Bool)(x y:LV)(K:LV→Prop):Prop:=match x,y with
 |.i a,.i b=>K (.i (match j with|true=>max a b|false=>min a b))
 |.u a,.u b=>K (.u (match j with|true=>if a<b then b else a|false=>if b<a then b else a))
 |_,_=>False
def xf(x:LV)(K:Nat→Prop):Prop:=match x with
 |.i n=>0≤n∧n≤1048576∧K n.toNat
 |_=>False
def Wx(G:M0)(size:Nat)(d:LV)(n:Nat)(l:List LV)(K:LV→M0→Prop):Prop:=match d with
 |.dy p k=>Rj G[p]? λr len esz j st=>k=j∧esz=size∧K (.i (min n len:Nat)) (G.set p (.dyn (Oa r 0 (l.take (min n len*size))) len esz j (st+1)))
 |.vw p k lo len=>Rj G[p]? λr C esz j st=>k=j∧esz=size∧(lo+len)*size≤r.length∧K (.i (min n len:Nat)) (G.set p (.dyn (Oa r (lo*size) (l.take (min n len*size))) C esz j (st+1)))
 |_=>False
def zod(G:M0)(size:Nat)(z:List LV)(x:LV)(K:M0→Prop):Prop:=match x with
 |.vw p k lo len=>Rj G[p]? λr j esz C st=>k=C∧esz=size∧z.length=size∧(lo+len)*size≤r.length∧K (G.set p (.dyn (Oa r (lo*size) (O6 z len)) j esz C (st+1)))
 |_=>False
def goL(P:Program)(f:LV)(j:List LV)(G:M0)(K:LV→M0→Prop):Prop:=match f with
 |.fn (.func g) a b=>Qh P (.fn g) (a++j++b) G K
 |.fn (.yield p) [] _=>Qh P (.yield p) j G K
 |_=>False
section byOps
variable {P : Program} {ρ : M2} {G : M0} {K : LV → M0 → Prop} {x y c a b s d i f : Lx} {l cs z : List LV} {ps : List (Nat × Nat × Lx)} {n size len off : Nat} {lo hi : Option Lx}
def OpL_move:N7 P ρ G (.move x) K=K (x.ev ρ) G:=(rfl)
def OpL_pick:N7 P ρ G (.pick c a b) K=vr (c.ev ρ) (a.ev ρ) (b.ev ρ) (Xs K G):=(rfl)
def OpL_alloc:N7 P ρ G (.alloc l) K=K (.ptr G.length 0) (G++[.cells l 0]):=(rfl)
def OpL_box:N7 P ρ G (.box x) K=zjg (x.ev ρ).cells λl=>K (.ptr G.length 0) (G++[.cells l 0]):=(rfl)
def OpL_build:N7 P ρ G (.build cs ps) K=zjg (xu ρ cs ps) λl=>K (.agg l) G:=(rfl)
def OpL_buildSl:N7 P ρ G (.buildSl size len cs ps) K=zjg (xu ρ cs ps) λl=>l.length=len*size∧K (.dy G.length 0) (G++[.dyn l len size 0 0]):=(rfl)
def OpL_load1:N7 P ρ G (.load1 x) K=Yq G (x.ev ρ) (Xs K G):=(rfl)
def OpL_loadN:N7 P ρ G (.loadN n x) K=Y5 G (x.ev ρ) n λl=>K (.agg l) G:=(rfl)
def OpL_store:N7 P ρ G (.store n x y) K=zjg (y.ev ρ).cells λl=>l.length=n∧Wa G (x.ev ρ) l λG'=>K (.tup []) G':=(rfl)
def OpL_nilChk:N7 P ρ G (.nilChk x) K=wu (x.ev ρ) (Xs K G):=(rfl)
def ub{op:BinOp}{g:Bool}{t:TypeId}:N7 P ρ G (.bin op g t x y) K=T2 P op g t (x.ev ρ) (y.ev ρ) (Xs K G):=(rfl)
def OpL_un{op:UnOp}:N7 P ρ G (.un op x) K=unL op (x.ev ρ) (Xs K G):=(rfl)
def ct{k:IntKind}:N7 P ρ G (.cvInt k x) K=wm k (x.ev ρ) (Xs K G):=(rfl)
def zwh{g:Nat}{j gs:List Lx}:N7 P ρ G (.mkFunc g j gs) K=K (.fn (.func g) (j.map (·.ev ρ)) (gs.map (·.ev ρ))) G:=(rfl)
def OpL_mkSl:N7 P ρ G (.mkSl size z a b) K=Wm (a.ev ρ) (b.ev ρ) λn=>z.length=size∧K (.dy G.length 0) (G++[.dyn (O6 z n) n size 0 0]):=by
 simp only[N7,Wm];cases a.ev ρ<;>cases b.ev ρ<;>rfl
def cr{x:Lx}{d:Nat}{K:Nat→Prop}:Pj ρ d (some x) K=vu (x.ev ρ) K:=(rfl)
def cf{d:Nat}{K:Nat→Prop}:Pj ρ d none K=K d:=(rfl)
def OpL_slSl:N7 P ρ G (.slSl size x lo hi) K=qy G size (x.ev ρ) (λk=>Pj ρ 0 lo k) (λd k=>Pj ρ d hi k) (Xs K G):=by
 simp only[N7,qy,Rj];cases x.ev ρ<;>try rfl
 all_goals (cases G[_]?<;>try rfl)
def s8(len size:Nat)(x i:LV)(K:LV→Prop):Prop:=match i with
 |.i n=>0≤n∧n<len∧Xq (n.toNat*size) x K
 |_=>False
def xw(g:Bool)(len size:Nat)(x i:LV)(K:LV→Prop):Prop:=match i with
 |.i n=>0≤n∧n<len∧xi g size (n.toNat*size) x K
 |_=>False
def zn4{len size:Nat}{x i:Lx}:N7 P ρ G (.ixAddrArr len size x i) K=s8 len size (x.ev ρ) (i.ev ρ) (Xs K G):=(rfl)
def zzd{g:Bool}{len size:Nat}{x i:Lx}:N7 P ρ G (.ixArr g len size x i) K=xw g len size (x.ev ρ) (i.ev ρ) (Xs K G):=(rfl)
def OpL_fieldAddr:N7 P ρ G (.fieldAddr off x) K=Xq off (x.ev ρ) (Xs K G):=(rfl)
def OpL_ixAddr:N7 P ρ G (.ixAddr size x i) K=ixL G size (x.ev ρ) (i.ev ρ) (Xs K G):=by
 simp only[N7,ixL,fu,ixO,Rj];cases i.ev ρ<;>try rfl
def OpL_extract:N7 P ρ G (.extract n x) K=xp n (x.ev ρ) (Xs K G):=(rfl)
def OpL_lenSl:N7 P ρ G (.lenSl x) K=lenL G (x.ev ρ) λn=>K (.i n) G:=(rfl)
def g8{g:Bool}:N7 P ρ G (.maxi g x y) K=mm g (x.ev ρ) (y.ev ρ) (Xs K G):=(rfl)
def OpL_appZ:N7 P ρ G (.appZ size z s x) K=xf (x.ev ρ) λn=>z.length=size∧Pf G size (s.ev ρ) n (O6 z n) K:=(rfl)
def OpL_appG:N7 P ρ G (.appG size s x) K=T1 G size (x.ev ρ) λn l=>n≤1048576∧Pf G size (s.ev ρ) n l K:=(rfl)
def OpL_copy:N7 P ρ G (.copy size d x) K=T1 G size (x.ev ρ) λn l=>Wx G size (d.ev ρ) n l K:=by
 simp only[N7,Wx,Rj]
 congr 1
def OpL_clear:N7 P ρ G (.clear size z x) K=zod G size z (x.ev ρ) λG'=>K .any G':=by
 simp only[N7,zod,Rj]
 congr 1
def zzk{j:List Lx}:N7 P ρ G (.callV f j) K=goL P (f.ev ρ) (j.map (·.ev ρ)) G K:=(rfl)
end byOps
section opened
variable {P : Program} {G : M0} {p k i n size lo len off esz : Nat} {l r new : List LV} {K : List LV → Prop} {K1 : LV → Prop} {KG : M0 → Prop} {KN : Nat → Prop} {KR : Nat → List LV → Prop} {KV : LV → M0 → Prop} {KS : List UInt8 → Prop} {lof mxf : (Nat → Prop) → Prop} {hif : Nat → (Nat → Prop) → Prop}
def zus{l:List LV}{st:Nat}{K:List LV→Nat→Prop}:eq (some (.cells l st)) K=K l st:=(rfl)
def zvb{l:List LV}{len esz st:Nat}{K:List LV→Nat→Nat→Nat→Nat→Prop}:Rj (some (.dyn l len esz j st)) K=K l len esz j st:=(rfl)
def cellsL_some:zjg (some l) K=K l:=(rfl)
def zlr{a b:LV}:vr (.bool true) a b K1=K1 a:=by cases a<;>cases b<;>simp[vr,Tv]
def zia{a b:LV}:vr (.bool false) a b K1=K1 b:=by cases a<;>cases b<;>simp[vr,Tv]
def zok{t x:Bool}:vr (.bool t) (.bool x) (.bool false) K1=K1 (.bool (t&&x)):=by cases t<;>rfl
def zuh{t x:Bool}:vr (.bool t) (.bool true) (.bool x) K1=K1 (.bool (t || x)):=by cases t<;>rfl
def chkL_ptr:wu (.ptr p i) K1=K1 (.ptr p i):=(rfl)
def Zq{a b:Int}:Wm (.i a) (.i b) KN=(a=b∧0≤a∧a≤1048576∧KN a.toNat):=(rfl)
def ja{a:Int}:vu (.i a) KN=(0≤a∧KN a.toNat):=(rfl)
def slL_nil:qy G size .nilSl lof hif K1=(lof λa=>hif 0 λb=>a=0∧b=0∧K1 .nilSl):=(rfl)
def slL_dy:qy G size (.dy p k) lof hif K1=(Rj G[p]? λ_ len esz j _=>k=j∧esz=size∧lof λa=>hif len λb=>a≤b∧b≤len∧K1 (.vw p k a (b-a))):=(rfl)
def slL_vw:qy G size (.vw p k lo len) lof hif K1=(Rj G[p]? λ_ _ esz j _=>k=j∧esz=size∧lof λa=>hif len λb=>a≤b∧b≤len∧K1 (.vw p k (lo+a) (b-a))):=(rfl)
def slL_lst:qy G size (.lst l len esz) lof hif K1=(esz=size∧lof λa=>hif len λb=>a≤b∧b≤len∧K1 (.lst ((l.drop (a*esz)).take ((b-a)*esz)) (b-a) esz)):=(rfl)
def offL_ptr:Xq off (.ptr p i) K1=K1 (.ptr p (i+off)):=(rfl)
def offL_cptr:Xq off (.cptr l i) K1=K1 (.cptr l (i+off)):=(rfl)
def fldL_true:xi true n off (.agg l) K1=(off+n≤l.length∧K1 (.agg ((l.drop off).take n))):=(rfl)
def fldL_false:xi false n off (.agg l) K1=O9 l off K1:=(rfl)
def ixL_i{x:LV}{n:Int}:ixL G size x (.i n) K1=fu G size x n K1:=(rfl)
def ixL_u{x:LV}{n:UInt64}:ixL G size x (.u n) K1=fu G size x (n.toNat:Int) K1:=(rfl)
def Ya{n:Int}:fu G size (.dy p k) n K1=(Rj G[p]? λ_ len esz j _=>k=j∧esz=size∧0≤n∧n<len∧K1 (.dptr p k (n.toNat*size))):=(rfl)
def zzc{n:Int}:fu G size (.vw p k lo len) n K1=(Rj G[p]? λ_ _ esz j _=>k=j∧esz=size∧0≤n∧n<len∧K1 (.dptr p k ((lo+n.toNat)*size))):=(rfl)
def Zi{n:Int}:fu G size (.lst l len esz) n K1=(esz=size∧0≤n∧n<len∧K1 (.cptr l (n.toNat*size))):=(rfl)
def tupL_tup:xp i (.tup l) K1=O9 l i K1:=(rfl)
def ig{len size:Nat}{x:LV}{n:Int}:s8 len size x (.i n) K1=(0≤n∧n<len∧Xq (n.toNat*size) x K1):=(rfl)
def oo{g:Bool}{len size:Nat}{x:LV}{n:Int}:xw g len size x (.i n) K1=(0≤n∧n<len∧xi g size (n.toNat*size) x K1):=(rfl)
def zyr{a b:Int}:V3 .and a b K1=(0≤a∧a<9223372036854775808∧0≤b∧b<9223372036854775808∧K1 (.i (a.toNat &&& b.toNat:Nat))):=(rfl)
def zzz{a b:Int}:mm true (.i a) (.i b) K1=K1 (.i (max a b)):=(rfl)
def zzx{a b:Int}:mm false (.i a) (.i b) K1=K1 (.i (min a b)):=(rfl)
def jm{n:Int}:xf (.i n) KN=(0≤n∧n≤1048576∧KN n.toNat):=(rfl)
def zub{n:Nat}:Wx G size (.dy p k) n l KV=(Rj G[p]? λr len esz j st=>k=j∧esz=size∧KV (.i (min n len:Nat)) (G.set p (.dyn (Oa r 0 (l.take (min n len*size))) len esz j (st+1)))):=(rfl)
def zpo{z:List LV}{KH:M0→Prop}:zod G size z (.vw p k lo len) KH=(Rj G[p]? λr j esz C st=>k=C∧esz=size∧z.length=size∧(lo+len)*size≤r.length∧KH (G.set p (.dyn (Oa r (lo*size) (O6 z len)) j esz C (st+1)))):=(rfl)
def o7{g:Nat}{a b:List LV}:goL P (.fn (.func g) a b) E G KV=Qh P (.fn g) (a++E++b) G KV:=(rfl)
def readL_ptr:Y5 G (.ptr p i) n K=eq G[p]? λl _=>i+n≤l.length∧K ((l.drop i).take n):=by
 simp only[Y5,eq];cases G[p]?<;>try rfl
def readL_cptr:Y5 G (.cptr l i) n K=(i+n≤l.length∧K ((l.drop i).take n)):=(rfl)
def read1_ptr:Yq G (.ptr p i) K1=eq G[p]? λl _=>O9 l i K1:=by
 simp only[Yq,eq];cases G[p]?<;>try rfl
def read1_dptr:Yq G (.dptr p k i) K1=Rj G[p]? λl _ _ j _=>k=j∧O9 l i K1:=by
 simp only[Yq,Rj];cases G[p]?<;>try rfl
def read1_cptr:Yq G (.cptr l i) K1=O9 l i K1:=(rfl)
def writeL_ptr:Wa G (.ptr p i) r KG=eq G[p]? λl st=>i+r.length≤l.length∧KG (G.set p (.cells (Oa l i r) (st+1))):=by
 simp only[Wa,eq];cases G[p]?<;>try rfl
def writeL_dptr:Wa G (.dptr p k i) r KG=Rj G[p]? λl len esz j st=>k=j∧i+r.length≤l.length∧KG (G.set p (.dyn (Oa l i r) len esz j (st+1))):=by
 simp only[Wa,Rj];cases G[p]?<;>try rfl
def rowL_dy:T1 G size (.dy p k) KR=Rj G[p]? λl len esz j _=>k=j∧esz=size∧KR len l:=by
 simp only[T1,Rj];cases G[p]?<;>try rfl
def rowL_lst:T1 G size (.lst l len esz) KR=(esz=size∧KR len l):=(rfl)
def lenL_nil:lenL G .nilSl KN=KN 0:=(rfl)
def lenL_dy:lenL G (.dy p k) KN=Rj G[p]? λ_ len _ j _=>k=j∧KN len:=by
 simp only[lenL,Rj];cases G[p]?<;>try rfl
def lenL_vw:lenL G (.vw p k lo len) KN=Rj G[p]? λ_ _ _ j _=>k=j∧KN len:=by
 simp only[lenL,Rj];cases G[p]?<;>try rfl
def lenL_lst:lenL G (.lst l len esz) KN=KN len:=(rfl)
def appL_nil:Pf G size .nilSl n new KV=KV (.dy G.length 0) (G++[.dyn new n size 0 0]):=(rfl)
def appL_dy:Pf G size (.dy p k) n new KV=Rj G[p]? λl len esz j st=>k=j∧(esz=size∧0<esz)∧len≤1000000000∧KV (.dy p (j+1)) (G.set p (.dyn (l++new) (len+n) esz (j+1) (st+1))):=by
 simp only[Pf,Rj];cases G[p]?<;>try rfl
def appL_vw:Pf G size (.vw p k lo len) n new KV=Rj G[p]? λl C esz j st=>k=j∧(esz=size∧lo=0∧0<n)∧len≤1000000000∧if (len+n)*esz≤l.length then KV (.vw p k 0 (len+n)) (G.set p (.dyn (Oa l (len*esz) new) C esz j (st+1)))∧KV (.dy G.length 0) (G++[.dyn (l.take (len*esz)++new) (len+n) size 0 0]) else len=C∧0<esz∧KV (.dy p (j+1)) (G.set p (.dyn (l++new) (len+n) esz (j+1) (st+1)))∧KV (.dy G.length 0) (G++[.dyn (l++new) (len+n) size 0 0]):=by
 simp only[Pf,Rj];cases G[p]?<;>try rfl
variable {op : BinOp} {g : Bool} {t : TypeId}
def zyk{a b:UInt64}:T2 P op g t (.u a) (.u b) K1=Vm op a b K1:=(rfl)
def Y9{a b:Int}:T2 P op g t (.i a) (.i b) K1=V3 op a b K1:=(rfl)
def zr7{a:Int}{s:UInt64}:T2 P .shl g t (.i a) (.u s) K1=(0≤a∧s.toNat≤64∧Tl (a*2^s.toNat)∧K1 (.i (a*2^s.toNat))):=(rfl)
def zv1{a b:Bool}:T2 P .neq g t (.bool a) (.bool b) K1=(R6 P g t (.bool a) (.bool b)=some (a==b)∧K1 (.bool (!(a==b)))):=(rfl)
def zym{b:Bool}:unL .not (.bool b) K1=K1 (.bool (!b)):=(rfl)
def oh{a:Int}:wm .u64 (.i a) K1=K1 (.u (iU a)):=(rfl)
def ib{a:UInt64}:wm .i64 (.u a) K1=(a.toNat<9223372036854775808∧K1 (.i a.toNat)):=(rfl)
def zux{l:List LV}{len esz:Nat}:T2 P .eql g t (.lst l len esz) .nilSl K1=(R6 P g t .nilSl .nilSl=some true∧K1 (.bool false)∧(len=0→K1 (.bool true))):=(rfl)
end opened
section code
variable {P : Program} {f n : Nat} {ro : Option Nat} {ρ ρ' : M2} {D : List Nat} {G G' : M0} {Q : Qd} {a b c : LC} {x : Lx} {id i t d : Nat} {l : List LI} {ds : List (LI × List (LI × Bool))} {cs : List (LI × Bool)} {K : M2 → M0 → Prop} {KV : LV → M0 → Prop} {KL : List LV → Prop} {KG : M0 → Prop} {Nx : M2 → List Nat → M0 → Prop} {rs : List RRes} {o : LOp} {od : Option Nat} {v w : LV} {vs : List LV} {it : LI}
def wp_skip:wp P f n ro .skip ρ D G Q=Q .normal ρ D G:=(rfl)
def wp_ops:wp P f n ro (.ops l) ρ D G Q=Us P l ρ G (norQ Q D):=(rfl)
def wp_seq:wp P f n ro (.seq a b) ρ D G Q=wp P f n ro a ρ D G (Xk P f n ro b Q):=(rfl)
def wp_cond:wp P f n ro (.cond x a b) ρ D G Q=brV (x.ev ρ) (wp P f n ro a ρ D G Q) (wp P f n ro b ρ D G Q):=(rfl)
def wp_block:wp P f n ro (.block id c) ρ D G Q=wp P f n ro c ρ D G (ui id Q):=(rfl)
def wp_draw:wp P f n ro (.draw ds) ρ D G Q=ef P ds ρ G (norQ Q D):=(rfl)
def wp_exit:wp P f n ro (.exit id) ρ D G Q=Q (.exit id) ρ D G:=(rfl)
def wp_ret:wp P f n ro .ret ρ D G Q=Q .ret ρ D G:=(rfl)
def wp_loop:wp P f n ro (.loop c) ρ D G Q=W P f n (.loop c) ro ρ D G Q:=(rfl)
def seqQ_n:Xk P f n ro b Q .normal ρ D G=wp P f n ro b ρ D G Q:=(rfl)
def seqQ_e:Xk P f n ro b Q (.exit i) ρ D G=Q (.exit i) ρ D G:=(rfl)
def seqQ_r:Xk P f n ro b Q .ret ρ D G=Q .ret ρ D G:=(rfl)
def blkQ_n:ui id Q .normal ρ D G=Q .normal ρ D G:=(rfl)
def blkQ_e:ui id Q (.exit i) ρ D G=if i=id then Q .normal ρ D G else Q (.exit i) ρ D G:=(rfl)
def blkQ_r:ui id Q .ret ρ D G=Q .ret ρ D G:=(rfl)
def nxQ_n:zr Nx Q .normal ρ D G=Nx ρ D G:=(rfl)
def nxQ_e:zr Nx Q (.exit i) ρ D G=Q (.exit i) ρ D G:=(rfl)
def nxQ_r:zr Nx Q .ret ρ D G=Q .ret ρ D G:=(rfl)
def endQ_n:gt rs KV .normal ρ D G=ua D G (yi ρ rs KV):=(rfl)
def endQ_r:gt rs KV .ret ρ D G=ua D G (yi ρ rs KV):=(rfl)
def norQ_app:norQ Q D ρ G=Q .normal ρ D G:=(rfl)
def takeL_nil:ua [] G KG=KG G:=(rfl)
def takK_app:yi ρ rs KV G=Rc ρ G rs (endK KV G):=(rfl)
def endK_app:endK KV G vs=KV (Ua vs) G:=(rfl)
def resL_nil:Rc ρ G [] KL=KL []:=(rfl)
def resL_tmp:Rc ρ G (.tmp t::rs) KL=Rc ρ G rs (tmpK ρ t KL):=(rfl)
def resL_cN:Rc ρ G (.cellN t n::rs) KL=Y5 G (lk ρ t) n (cnK ρ G rs KL):=(rfl)
def tmpK_app:tmpK ρ t KL vs=KL (lk ρ t::vs):=(rfl)
def conK_app:conK v KL vs=KL (v::vs):=(rfl)
def cnK_app:cnK ρ G rs KL vs=Rc ρ G rs (conK (.agg vs) KL):=(rfl)
def oneL_1:Ua [v]=v:=(rfl)
def oneL_0:Ua []=.tup []:=(rfl)
def oneL_2:Ua (v::w::vs)=.tup (v::w::vs):=(rfl)
def OpsL_nil:Us P [] ρ G K=K ρ G:=(rfl)
def OpsL_cons:Us P (it::l) ρ G K=cq P it ρ G (opsK P l K):=(rfl)
def opsK_app:opsK P l K ρ G=Us P l ρ G K:=(rfl)
def ItL_n:cq P ⟨od,none,o⟩ ρ G K=N7 P ρ G o (ze ρ od K):=(rfl)
def ItL_t:cq P ⟨od,some (t,true),o⟩ ρ G K=sg (lk ρ t) (N7 P (setL t (.bool true) ρ) G o (ze (setL t (.bool true) ρ) od K)) (ze (setL t (.bool false) ρ) od K (.tup []) G) (ze ρ od K (.tup []) G):=(rfl)
def ItL_f:cq P ⟨od,some (t,false),o⟩ ρ G K=sg (lk ρ t) (ze (setL t (.bool true) ρ) od K (.tup []) G) (N7 P (setL t (.bool false) ρ) G o (ze (setL t (.bool false) ρ) od K)) (ze ρ od K (.tup []) G):=(rfl)
def itK_some:ze ρ (some d) K v G=K ((d,v)::ρ) G:=(rfl)
def itK_none:ze ρ none K v G=K ρ G:=(rfl)
def atG_app:Xs KV G v=KV v G:=(rfl)
def DrL_nil:ef P [] ρ G K=K ρ G:=(rfl)
def DrL_cons:ef P ((it,cs)::ds) ρ G K=cq P it ρ G (drK P cs ds ρ G K):=(rfl)
def drK_app:drK P cs ds ρ G K ρ' G'=(Wz ρ G G' cs∧ef P ds ρ' G' K):=(rfl)
def ev_t:(Lx.t i).ev ρ=lk ρ i:=(rfl)
def ev_c:(Lx.c v).ev ρ=v:=(rfl)
def argsL_nil:fg [] i=[]:=(rfl)
def argsL_cons:fg (v::vs) i=(i,v)::fg vs (i+1):=(rfl)
def setL_cons:setL t v ((d,w)::ρ)=if t=d then (d,v)::ρ else (d,w)::setL t v ρ:=(rfl)
end code
section nums
variable {K : LV → Prop}
def Z1{a b:UInt64}:Vm .add a b K=K (.u (Ur a b)):=(rfl)
def Y7{a b:UInt64}:Vm .sub a b K=K (.u (ap a b)):=(rfl)
def Zd{a b:UInt64}:Vm .mul a b K=K (.u (Tc a b)):=(rfl)
def zyf{a b:UInt64}:Vm .rem a b K=(b≠0∧K (.u (s9 a b))):=(rfl)
def ae{a b:UInt64}:Vm .shl a b K=K (.u (Qx a b.toNat)):=(rfl)
def Y6{a b:UInt64}:Vm .shr a b K=K (.u (Q2 a b.toNat)):=(rfl)
def zyl{a b:UInt64}:Vm .and a b K=K (.u (Rt a b)):=(rfl)
def ol{a b:UInt64}:Vm .or a b K=K (.u (ax a b)):=(rfl)
def zzb{a b:UInt64}:Vm .xor a b K=K (.u (yz a b)):=(rfl)
def Zv{a b:UInt64}:Vm .eql a b K=K (.bool (decide (a=b))):=(rfl)
def zxr{a b:UInt64}:Vm .neq a b K=K (.bool (decide (a≠b))):=(rfl)
def Y8{a b:UInt64}:Vm .lss a b K=K (.bool (decide (a<b))):=(rfl)
def Zf{a b:UInt64}:Vm .leq a b K=K (.bool (decide (a≤b))):=(rfl)
def zxv{a b:UInt64}:Vm .gtr a b K=K (.bool (decide (b<a))):=(rfl)
def zz7{a b:UInt64}:Vm .geq a b K=K (.bool (decide (b≤a))):=(rfl)
def Yr{a b:Int}:V3 .add a b K=(Tl (a+b)∧K (.i (a+b))):=(rfl)
def Zy{a b:Int}:V3 .sub a b K=(Tl (a-b)∧K (.i (a-b))):=(rfl)
def zz9{a b:Int}:V3 .mul a b K=(Tl (a*b)∧K (.i (a*b))):=(rfl)
def zyo{a b:Int}:V3 .quo a b K=(b≠0∧Tl (a.tdiv b)∧K (.i (a.tdiv b))):=(rfl)
def Ys{a b:Int}:V3 .rem a b K=(b≠0∧K (.i (a.tmod b))):=(rfl)
def aa{a b:Int}:V3 .shl a b K=(0≤a∧0≤b∧b≤64∧Tl (a*2^b.toNat)∧K (.i (a*2^b.toNat))):=(rfl)
def Zh{a b:Int}:V3 .shr a b K=(0≤a∧0≤b∧b≤64∧K (.i (a/2^b.toNat))):=(rfl)
def Zj{a b:Int}:V3 .eql a b K=K (.bool (decide (a=b))):=(rfl)
def zxn{a b:Int}:V3 .neq a b K=K (.bool (decide (a≠b))):=(rfl)
def Zc{a b:Int}:V3 .lss a b K=K (.bool (decide (a<b))):=(rfl)
def Y2{a b:Int}:V3 .leq a b K=K (.bool (decide (a≤b))):=(rfl)
def zyh{a b:Int}:V3 .gtr a b K=K (.bool (decide (b<a))):=(rfl)
def zyq{a b:Int}:V3 .geq a b K=K (.bool (decide (b≤a))):=(rfl)
end nums
section congr2
variable {P : Program} {G G' : M0} {x x' y y' z z' : LV} {K : LV → M0 → Prop} {Kv : LV → Prop} {n n' size : Nat}
@[congr] theorem atC_congr {o j:Option LObj} {K:List LV→Nat→Prop} (h:o=j):eq o K=eq j K:=E8
@[congr] theorem atD_congr {o j:Option LObj} {K:List LV→Nat→Nat→Nat→Nat→Prop} (h:o=j):Rj o K=Rj j K:=E8
@[congr] theorem sx {o j:Option (List LV)} {K:List LV→Prop} (h:o=j):zjg o K=zjg j K:=E8
@[congr] theorem pickL_congr (j:x=x') (C:y=y') (E:z=z'):vr x y z Kv=vr x' y' z' Kv:=by rw[j,C,E]
@[congr] theorem chkL_congr (j:x=x'):wu x Kv=wu x' Kv:=F4
@[congr] theorem mkSlL_congr {K:Nat→Prop} (j:x=x') (C:y=y'):Wm x y K=Wm x' y' K:=B7
@[congr] theorem bndV_congr {K:Nat→Prop} (j:x=x'):vu x K=vu x' K:=F4
@[congr] theorem slL_congr {lo:(Nat→Prop)→Prop} {hi:Nat→(Nat→Prop)→Prop} (j:G=G') (C:x=x'):qy G size x lo hi Kv=qy G' size x' lo hi Kv:=B7
@[congr] theorem offL_congr (j:x=x'):Xq n x Kv=Xq n x' Kv:=F4
@[congr] theorem ixL_congr (j:G=G') (C:x=x') (E:y=y'):ixL G size x y Kv=ixL G' size x' y' Kv:=by rw[j,C,E]
@[congr] theorem ixV_congr {i:Int} (j:G=G') (C:x=x') (E:i=vV):fu G size x i Kv=fu G' size x' vV Kv:=by rw[j,C,E]
@[congr] theorem tupL_congr (j:x=x'):xp n x Kv=xp n x' Kv:=F4
@[congr] theorem ixPL_congr {len size:Nat} (j:x=x') (C:y=y'):s8 len size x y Kv=s8 len size x' y' Kv:=B7
@[congr] theorem ixAL_congr {g:Bool} {len size:Nat} (j:x=x') (C:y=y'):xw g len size x y Kv=xw g len size x' y' Kv:=B7
@[congr] theorem maxL_congr {g:Bool} (j:x=x') (C:y=y'):mm g x y Kv=mm g x' y' Kv:=B7
@[congr] theorem lenZ_congr {K:Nat→Prop} (j:x=x'):xf x K=xf x' K:=F4
@[congr] theorem xj {z z':List LV} {KH:M0→Prop} (j:G=G') (C:x=x') (E:z=z'):zod G size z x KH=zod G' size z' x' KH:=by rw[j,C,E]
@[congr] theorem zy {l:List LV} (j:G=G') (C:x=x') (F:n=n') (H:l=E):Wx G size x n l K=Wx G' size x' n' E K:=by rw[j,C,F,H]
@[congr] theorem goL_congr {l:List LV} (j:x=x') (C:l=E) (F:G=G'):goL P x l G K=goL P x' E G' K:=by rw[j,C,F]
end congr2
def LU(a:List UInt64):LV:=.lst (a.map .u) a.length 1
def Yl(a:List UInt64):dats (a.map LV.u)=true:=zcg (λ_=>rfl) a
def zt0(a:List UInt64)(n:Nat):dats ((a.map LV.u).take n)=true:=dats_take n (Yl a)
def zsl(a:List UInt64)(n:Nat):dats ((a.map LV.u).drop n)=true:=dats_drop n (Yl a)
def zmd(l r:List LV):Oa l 0 r=r++l.drop r.length:=by simp[Oa]
def zx7(v:LV)(l r:List LV)(i:Nat):Oa (v::l) (i+1) r=v::Oa l i r:=by
 unfold Oa;rw[show i+1+r.length=(i+r.length)+1 from J];simp
attribute [simp] zt0 zsl Wz ckL ckC zoc zd LObj.stp LObj.st zqx zq8 pj ox zil xu LV.cells subV subVs Wj notP shV shVs frV frVs bor bors LV.dat dats LV.scal LV.sim sims Yl zmd zx7 LU Tl
attribute [simp] zqs zum Zn zmh ziq uk zy6
attribute [simp ↓] zqs zum Zn zmh ziq zy6 zqx zq8 pj
attribute [simp ↓] OpL_move OpL_pick OpL_alloc OpL_box OpL_build OpL_buildSl OpL_load1 OpL_loadN OpL_store OpL_nilChk ub OpL_un ct zwh OpL_mkSl cr cf OpL_slSl OpL_fieldAddr OpL_ixAddr OpL_extract OpL_lenSl g8 OpL_appZ OpL_appG OpL_copy zzk
attribute [simp] zus zvb cellsL_some zlr zia zok zuh chkL_ptr Zq ja slL_nil slL_dy slL_vw slL_lst offL_ptr offL_cptr fldL_true fldL_false ixL_i ixL_u Ya zzc Zi tupL_tup zzz zzx jm zub o7 readL_ptr readL_cptr read1_ptr read1_dptr read1_cptr writeL_ptr writeL_dptr rowL_dy rowL_lst lenL_nil lenL_dy lenL_vw lenL_lst appL_nil appL_dy appL_vw zyk Y9 zr7 zv1 zux zym oh ib
attribute [simp ↓] zus zvb cellsL_some zlr zia zok zuh chkL_ptr Zq ja slL_nil slL_dy slL_vw slL_lst offL_ptr offL_cptr fldL_true fldL_false ixL_i ixL_u Ya zzc Zi tupL_tup zzz zzx jm zub o7 readL_ptr readL_cptr read1_ptr read1_dptr read1_cptr writeL_ptr writeL_dptr rowL_dy rowL_lst lenL_nil lenL_dy lenL_vw lenL_lst appL_nil appL_dy appL_vw zyk Y9 zr7 zv1 zux zym oh ib
attribute [simp] wp_skip wp_ops wp_seq wp_cond wp_block wp_draw wp_exit wp_ret wp_loop seqQ_n seqQ_e seqQ_r blkQ_n blkQ_e blkQ_r nxQ_n nxQ_e nxQ_r endQ_n endQ_r norQ_app takeL_nil takK_app endK_app resL_nil resL_tmp resL_cN tmpK_app conK_app cnK_app oneL_1 oneL_0 oneL_2 OpsL_nil OpsL_cons opsK_app ItL_n ItL_t ItL_f itK_some itK_none atG_app DrL_nil DrL_cons drK_app ev_t ev_c argsL_nil argsL_cons setL_cons Z1 Y7 Zd zyf ae Y6 zyl ol zzb Zv zxr Y8 Zf zxv zz7 Yr Zy zz9 zyo Ys aa Zh Zj zxn Zc Y2 zyh zyq
attribute [simp ↓] wp_skip wp_ops wp_seq wp_cond wp_block wp_draw wp_exit wp_ret wp_loop seqQ_n seqQ_e seqQ_r blkQ_n blkQ_e blkQ_r nxQ_n nxQ_e nxQ_r endQ_n endQ_r norQ_app takeL_nil takK_app endK_app resL_nil resL_tmp resL_cN tmpK_app conK_app cnK_app oneL_1 oneL_0 oneL_2 OpsL_nil OpsL_cons opsK_app ItL_n ItL_t ItL_f itK_some itK_none atG_app DrL_nil DrL_cons drK_app ev_t ev_c argsL_nil argsL_cons setL_cons Z1 Y7 Zd zyf ae Y6 zyl ol zzb Zv zxr Y8 Zf zxv zz7 Yr Zy zz9 zyo Ys aa Zh Zj zxn Zc Y2 zyh zyq
attribute [simp] ig oo zyr
attribute [simp] zpo
attribute [simp ↓] OpL_clear zpo zn4 zzd ig oo zyr
def i3(o:Option Bool)(A B:Prop):Prop:=match o with
 |some b=>Tv b A B
 |none=>False
def atM(o:Option LObj)(K:List (LV×LV×Nat)→Nat→Nat→Prop):Prop:=match o with
 |some (.map es ck st)=>K es ck st
 |_=>False
def lookM(d:TypeDesc)(k z:LV)(ok:Bool)(K:LV→Prop):List (LV×LV×Nat)→Prop:=λes=>wn d k (Wu z ok K) es
def conM(x:LV×LV×Nat)(K:List (LV×LV×Nat)→Bool→Prop):List (LV×LV×Nat)→Bool→Prop:=λr new=>K (x::r) new
def slAL(G:M0)(n size:Nat)(x:LV)(lo:(Nat→Prop)→Prop)(hi:Nat→(Nat→Prop)→Prop)(K:LV→M0→Prop):Prop:=match x with
 |.ptr p i=>eq G[p]? λl st=>i+n*size≤l.length∧lo λa=>hi n λb=>a≤b∧b≤n∧K (.lst ((l.drop (i+a*size)).take ((b-a)*size)) (b-a) size) (G.set p (.dead (st+1)))
 |_=>False
section maps
variable {P : Program} {ρ : M2} {G G' : M0} {K : LV → M0 → Prop} {K1 : LV → Prop} {x i m k v z x' k' : LV} {X I M V : Lx} {d : TypeDesc} {ok : Bool} {es es' : List (LV × LV × Nat)} {KE : List (LV × LV × Nat) → Prop} {KB : List (LV × LV × Nat) → Bool → Prop} {KH : M0 → Prop} {p ck st n size : Nat} {lo hi : Option Lx} {A B : Prop} {lof : (Nat → Prop) → Prop} {hif : Nat → (Nat → Prop) → Prop}
def OpL_mkMap0:N7 P ρ G .mkMap0 K=K (.map G.length) (G++[.map [] 0 0]):=(rfl)
def OpL_lookup:N7 P ρ G (.lookup d z ok X I) K=X8 G (X.ev ρ) (lookM d (I.ev ρ) z ok (Xs K G)):=(rfl)
def OpL_mapUpd:N7 P ρ G (.mapUpd d M I V) K=zp7 G d (M.ev ρ) (I.ev ρ) (V.ev ρ) λG'=>K .any G':=(rfl)
def OpL_slArr:N7 P ρ G (.slArr n size X lo hi) K=slAL G n size (X.ev ρ) (λk=>Pj ρ 0 lo k) (λd k=>Pj ρ d hi k) K:=by
 simp only[N7,slAL,eq];cases X.ev ρ<;>try rfl
 all_goals (cases G[_]?<;>try rfl)
def zvf{K:List (LV×LV×Nat)→Nat→Nat→Prop}:atM (some (.map es ck st)) K=K es ck st:=(rfl)
def mapL_map:X8 G (.map p) KE=atM G[p]? λes _ _=>KE es:=by
 simp only[X8,atM];cases G[p]?<;>try rfl
def lookM_app:lookM d k z ok K1 es=wn d k (Wu z ok K1) es:=(rfl)
def zpc{j:Option LV→Prop}:wn d k j []=j none:=(rfl)
def zm1{j:Option LV→Prop}:wn d k j ((k',v,n)::es)=i3 (X1 d k k') (j (some v)) (wn d k j es):=(rfl)
def lookK_st:Wu z true K1 (some v)=K1 (.tup [v,.bool true]):=(rfl)
def lookK_nt:Wu z true K1 none=K1 (.tup [z,.bool false]):=(rfl)
def updL'_map:zp7 G d (.map p) k v KH=atM G[p]? λes ck st=>Wi d k v ck (setK G p ck st KH) es:=by
 simp only[zp7,atM];cases G[p]?<;>try rfl
def putL_nil:Wi d k v ck KB []=KB [(k,v,ck)] true:=(rfl)
def zqw{w:LV}:Wi d k v ck KB ((k',w,n)::es)=i3 (X1 d k k') (KB ((k,v,n)::es) false) (Wi d k v ck (conM (k',w,n) KB) es):=(rfl)
def zuk{y:LV×LV×Nat}{b:Bool}:conM y KB es b=KB (y::es) b:=(rfl)
def setK_t:setK G p ck st KH es true=KH (G.set p (.map es (ck+1) (st+1))):=(rfl)
def zr3{b:Bool}:i3 (some b) A B=Tv b A B:=(rfl)
def gr{j:IntKind}{a b:Int}:X1 (.int j) (.i a) (.i b)=some (decide (a=b)):=(rfl)
def zvl:slAL G n size (.ptr p j) lof hif K=eq G[p]? λl st=>j+n*size≤l.length∧lof λa=>hif n λb=>a≤b∧b≤n∧K (.lst ((l.drop (j+a*size)).take ((b-a)*size)) (b-a) size) (G.set p (.dead (st+1))):=(rfl)
@[congr] theorem atM_congr {o j:Option LObj} {K:List (LV×LV×Nat)→Nat→Nat→Prop} (h:o=j):atM o K=atM j K:=E8
@[congr] theorem zp {j:LV} (C:G=G') (E:m=j) (F:k=k') (H:v=R):zp7 G d m k v KH=zp7 G' d j k' R KH:=by rw[C,E,F,H]
@[congr] theorem keyB_congr {o j:Option Bool} (h:o=j):i3 o A B=i3 j A B:=E8
end maps
attribute [simp] zvf mapL_map lookM_app zpc zm1 lookK_st lookK_nt updL'_map putL_nil zqw zuk setK_t zr3 gr zvl
attribute [simp ↓] OpL_mkMap0 OpL_lookup OpL_mapUpd OpL_slArr zvf mapL_map lookM_app zpc zm1 lookK_st lookK_nt updL'_map putL_nil zqw zuk setK_t zr3 gr zvl
end
end
section
noncomputable section
open Go.RowKit (Below)
mutual
inductive Sh where
 |bool
 |u
 |b
 |i
 |k (k:IntKind)
 |str
 |sl (s:Sh)
 |st (l:ShL)
inductive ShL where
 |nil
 |cons (s:Sh) (l:ShL)
end
mutual
def Sh.n:Sh→Nat
 |.st l=>l.n
 |_=>1
def ShL.n:ShL→Nat
 |.nil=>0
 |.cons s l=>s.n+l.n
end
mutual
def Sh.T:Sh→Type
 |.bool=>Bool
 |.u=>UInt64
 |.b=>UInt8
 |.i=>{ n:Int // Tl n }
 |.k _=>Int
 |.str=>{ l:List UInt8 // l.length≤maxLen }
 |.sl s=>{ l:List s.T // l.length≤maxLen }
 |.st l=>l.T
def ShL.T:ShL→Type
 |.nil=>Unit
 |.cons s l=>s.T×l.T
end
mutual
def Sh.enc:(s:Sh)→s.T→List LV
 |.bool,x=>[.bool x]
 |.u,x=>[.u x]
 |.b,x=>[.b x]
 |.i,x=>[.i x.1]
 |.k k,x=>[.int k x]
 |.str,x=>[.str x.1]
 |.sl s,x=>[.lst (x.1.flatMap s.enc) x.1.length s.n]
 |.st l,x=>l.enc x
def ShL.enc:(l:ShL)→l.T→List LV
 |.nil,_=>[]
 |.cons s l,x=>s.enc x.1++l.enc x.2
end
mutual
def Sh.enc_length:∀(s:Sh) (x:s.T),(s.enc x).length=s.n
 |.bool,_=>rfl
 |.u,_=>rfl
 |.b,_=>rfl
 |.i,_=>rfl
 |.k _,_=>rfl
 |.str,_=>rfl
 |.sl _,_=>rfl
 |.st l,x=>by simp only[Sh.enc,Sh.n];exact ShL.enc_length l x
def ShL.enc_length:∀(l:ShL) (x:l.T),(l.enc x).length=l.n
 |.nil,_=>rfl
 |.cons s l,x=>by simp only[ShL.enc,ShL.n,H8,Sh.enc_length s x.1,ShL.enc_length l x.2]
end
def ky(P:Program)(f:TypeId→Option Sh)(j:Nat):List Field→Nat→Option ShL
 |[],g=>if g=j then some .nil else none
 |fd::l,g=>match f fd.type with
  |none=>none
  |some s=>if fd.offset=g∧P.cellsOf fd.type=s.n then match ky P f j l (g+s.n) with
   |none=>none
   |some r=>some (.cons s r)
   else none
def Wn:Nat→Sh→ShL
 |0,_=>.nil
 |n+1,s=>.cons s (Wn n s)
def Wo(P:Program):Nat→TypeId→Option Sh
 |0,_=>none
 |d+1,t=>match P.underlying t with
  |some .bool=>some .bool
  |some (.int k)=>match k with
   |.u64=>some .u
   |.u8=>some .b
   |.i64=>some .i
   |k=>some (.k k)
  |some .string=>some .str
  |some (.slice e)=>match Wo P d e with
   |none=>none
   |some s=>if P.cellsOf e=s.n∧0<s.n then some (.sl s) else none
  |some (.struct g)=>match ky P (Wo P d) (P.cellsOf t) g.toList 0 with
   |none=>none
   |some l=>some (.st l)
  |some (.array n e)=>match Wo P d e with
   |none=>none
   |some s=>if P.cellsOf e=s.n∧P.cellsOf t=n*s.n then some (.st (Wn n s)) else none
  |_=>none
def Wl(P:Program)(d:Nat):List TypeId→Option ShL
 |[]=>some .nil
 |t::l=>match Wo P d t with
  |none=>none
  |some s=>if P.cellsOf t=s.n then match Wl P d l with
   |none=>none
   |some r=>some (.cons s r)
   else none
def Rel.ro{W:World}{gz:CM}{H:Heap}(h:Rel W gz H W){L:Loc}(hL:L.b<W.heap.size){l:List AV}(gA:gz.le (gz.ext H.next 0 L)→Qe W.heap.size (gz.ext H.next 0 L) W H.next (.cells (Rr l 0 .e) l.length 0 true)) :
  Rel W (gz.ext H.next 0 L) (H.push (.cells (Rr l 0 .e) l.length 0 true)) W∧gz.le (gz.ext H.next 0 L):=by
 have hle:gz.le (gz.ext H.next 0 L):=CM.le_ext _ (h.next_none 0) (.inr (K2 h.nx));refine⟨⟨by show max gz.nx (H.next+1)=H.next+1;rw[h.nx];exact Nat.max_eq_right (Lp _),h.low,?_,?_,?_,?_,?_⟩,hle⟩
 ·intro o v L' C;show o<H.next+1;by_cases e:o=H.next∧v=0
  ·omega
  ·rw[CM.ext_ne _ _ e]at C;have:=h.fresh _ _ _ C;omega
 ·intro o v L' C;by_cases e:o=H.next∧v=0
  ·obtain⟨rfl,rfl⟩:=e;rw[CM.ext_same]at C;cases C;exact hL
  ·rw[CM.ext_ne _ _ e]at C;exact h.lt _ _ _ C
 ·intro o v L1 o' v' L2 h1 h2 hb hB;by_cases e:o=H.next∧v=0
  ·obtain⟨rfl,rfl⟩:=e;rw[CM.ext_same]at h1;cases h1;omega
  ·by_cases e':o'=H.next∧v'=0
   ·obtain⟨rfl,rfl⟩:=e';rw[CM.ext_same]at h2;cases h2;omega
   ·rw[CM.ext_ne _ _ e]at h1;rw[CM.ext_ne _ _ e']at h2;exact h.excl _ _ _ _ _ _ h1 h2 hb hB
 ·intro o ob ho hg;by_cases e:o=H.next
  ·subst e;rw[Heap.get_push_same]at hg;cases hg;exact gA hle
  ·have gg:o<H.next:=Bl
   rw[Heap.get_push_ne _ _ gg]at hg;refine (h.obj _ _ gg hg).frame hle (λv L' C=>?_) (λ_ _ _=>rfl)
   rwa [CM.ext_ne _ _ J]at C
 ·intro o c len gB ro ho hg v L' C;by_cases e:o=H.next
  ·subst e;by_cases ev:v=0
   ·omega
   ·rw[CM.ext_ne _ _ J]at C;have:=h.fresh _ _ _ C;omega
  ·have gg:o<H.next:=Bl
   rw[Heap.get_push_ne _ _ gg]at hg;rw[CM.ext_ne _ _ J]at C;exact h.top _ _ _ _ _ gg hg _ _ C
def U7(H:Heap):Cx:=⟨[],λo=>o<H.next,H⟩
def Te(H g:Heap):Prop:=H.next≤g.next∧∀o,o<H.next→g.get o=H.get o
def Te.refl(H:Heap):Te H H:=⟨H9 _,λ_ _=>rfl⟩
def Te.trans{A B C:Heap}(h:Te A B)(k:Te B C):Te A C:=⟨Ja h.1 k.1,λo ho=>by rw[k.2 o (Iz ho h.1),h.2 o ho]⟩
def Te.le{H H':Heap}(h:Te H H'):CxLe (U7 H) (U7 H') :=
 ⟨λp k x e=>by simp[U7]at e,λo ho=>⟨Iz ho h.1,h.2 o ho⟩⟩
section imp
variable {HH : Type} {enc : TypeId × Value → HH} {P : Program} {W : World}
def Got(W:World)(A:CM)(H:Heap)(z:List Value)(s:Nat)(T:Type)(e:T→List LV):Prop :=
 ∃g j as,∃y:T,A.le g∧Rel W g j W∧Te H j∧VRs g as z∧(∀a∈as,a.one=true)∧ARs (U7 j) (e y) as∧as.length=s
def zbh{H:Heap}(g:Rel W M H W){v:Value}{T:Type}{e:T→List LV}(y:T)(a:AV)(l:LV)(he:e y=[l])(hv:VR M a v)(j:a.one=true)(z:AR (U7 H) l a):Got W M H [v] 1 T e :=
 ⟨M,H,[a],y,CM.le_refl M,g,.refl H,.cons hv .nil,Bm,by rw[he];exact .cons z .nil,rfl⟩
def zl5{j:List MemPlace}(z:W.noneFrozen j){b n:Nat}(h:∀x∈MemPlace.row ⟨b,g,none⟩ n,x∈j){i:Nat}(hi:i<n):W.frozen? ⟨b,g+i,none⟩=false :=
 z b (g+i) (h _ (Mn.2 ⟨i,J9.2 hi,rfl⟩))
def got_cells:∀(M:Nat) (d:Nat) (t:TypeId) (s:Sh) (cs:List Value) (x:DataW HH×List MemPlace) (V:CM) (H:Heap),Wo P d t=some s→DataW.trod enc P W 0 (λ_=>true) true M t cs=some x→W.noneFrozen x.2→Rel W V H W →
  Got W V H cs s.n s.T s.enc:=by
 intro M
 induction M with
 |zero=>intro d t s cs x V H _ h;simp[DataW.trod]at h
 |succ M ih =>
  intro d t s cs x V H z h hz C;cases d with
  |zero=>cases z
  |succ d =>
   simp only[Wo]at z;split at z
   ·rename_i hu;cases z;obtain⟨b,rfl,_⟩:=DataW.trod_bool hu h;exact zbh C (T:=Bool) b (.bool b) (.bool b) rfl (.bool b) rfl (.bool b)
   ·rename_i k hu;obtain⟨n,rfl,_,hw⟩:=DataW.trod_int hu h;split at z
    ·cases z;have hb:=bounds_u64 hw;refine zbh C (T:=UInt64) (UInt64.ofNat n.toNat) (.int .u64 n) (.u (UInt64.ofNat n.toNat)) rfl (.int _ _) rfl (.u' ?_);rw[Jc];simp only[It];omega
    ·cases z;have hb:=bounds_u8 hw;refine zbh C (T:=UInt8) (UInt8.ofNat n.toNat) (.int .u8 n) (.b (UInt8.ofNat n.toNat)) rfl (.int _ _) rfl (.b' ?_);rw[UInt8.toNat_ofNat'];simp only[It];omega
    ·cases z;have hb:=bounds_i64 hw;exact zbh C (T:={ n:Int // Tl n }) ⟨n,by unfold Tl;omega⟩ (.int .i64 n) (.i n) rfl (.int _ _) rfl (.i n)
    ·cases z;exact zbh C (T:=Int) n (.int k n) (.int k n) rfl (.int _ _) rfl (.int k n)
   ·rename_i hu;cases z;obtain⟨b,rfl,_,hm⟩:=DataW.trod_string hu h;exact zbh C (T:={ l:List UInt8 // l.length≤maxLen }) ⟨b.data.toList,Fe⟩ (.str b.data.toList.length (O8 b.data.toList)) (.str b.data.toList) rfl (.str rfl rfl) rfl (.str _)
   ·rename_i e hu;split at z
    ·cases z
    ·rename_i j gC;by_cases U:P.cellsOf e=j.n∧0<j.n
     ·rw[H7 U]at z;cases z;obtain⟨gD,O⟩:=U;rcases DataW.trod_slice hu h with ⟨rfl,_⟩|⟨a,len,cap,G,gM,n,hn,rfl,hx,_,gO,jP,gP,gA,gQ,_⟩
      ·exact zbh C (T:={ l:List j.T // l.length≤maxLen }) ⟨[],N⟩ .nilSl (.lst [] 0 j.n) rfl .nilSl rfl .lstNil
      ·cases hn;by_cases h0:len=0
       ·subst h0;exact zbh C (T:={ l:List j.T // l.length≤maxLen }) ⟨[],N⟩ .emp (.lst [] 0 j.n) rfl .emp rfl .lstEmp
       ·
        obtain⟨b,g,Q⟩:=a;have I:∀i,i<cap→∃D,W.cells? 0 ((⟨b,g,Q⟩:Addr).add (i*P.cellsOf e)) (P.cellsOf e)=some D:=by
         intro i hi;by_cases jz:i<len
         ·have:=gA i jz;rw[H6 J]at this;cases hq:W.cells? 0 ((⟨b,g,Q⟩:Addr).add (i*P.cellsOf e)) (P.cellsOf e) with
          |none=>rw[hq]at this;cases this
          |some D=>exact⟨D,rfl⟩
         ·obtain⟨jT,jA⟩:=gQ rfl;have:=jA (i-len) J;rw[show len+(i-len)=i from J,H6 J]at this;cases hq:W.cells? 0 ((⟨b,g,Q⟩:Addr).add (i*P.cellsOf e)) (P.cellsOf e) with
          |none=>rw[hq]at this;cases this
          |some D=>exact⟨D,rfl⟩
        have gE:Q=none:=by
         obtain⟨D,he⟩:=I 0 J;obtain⟨_,E,A⟩:=World.cells?_some he;have:=A 0 J;rw[H6 J]at this;simpa [Addr.add] using World.cell?_spot this
        subst gE;have R:∀i X,i<cap→X<j.n→∃v,W.cell? ⟨b,g+(i*j.n+X),none⟩=some v:=by
         intro i X hi hj;obtain⟨D,he⟩:=I i hi;obtain⟨_,E,A⟩:=World.cells?_some he;have:=A X J;rw[H6 J]at this;rw[gD]at this;rw[WideShapes.add_plain,WideShapes.add_plain]at this;rw[←Ke];exact⟨_,this⟩
        obtain⟨v0,gB⟩:=R 0 0 J O;obtain⟨vs,ty,lo,hi,B⟩:∃vs ty lo hi,W.heap[b]?=some (.cells vs ty (lo,hi)):=by
         unfold World.cell? at gB;dsimp only at gB;split at gB
         ·rename_i vs ty fz B;exact⟨vs,ty,fz.1,fz.2,B⟩
         ·cases gB
        have jB:∀q,q<cap*j.n→∃v,vs[g+q]?=some v:=by
         intro q hq;obtain⟨v,hv⟩:=R (q/j.n) (q%j.n) (by rw[Nat.div_lt_iff_lt_mul O];exact hq) (Kg _ O);have:q/j.n*j.n+q%j.n=q:=by rw[Jq];exact Nat.div_add_mod q j.n
         rw[this,zi3 B]at hv;exact⟨v,hv⟩
        have gR:g+cap*j.n≤vs.size:=by
         have jC:0<cap*j.n:=Nat.mul_pos J O;obtain⟨v,hv⟩:=jB (cap*j.n-1) J;have:=(Array.getElem?_eq_some_iff.1 hv).1;omega
        have gT:∀x',x'∈MemPlace.row ⟨b,g,none⟩ (cap*j.n)→x'∈x.2:=by
         intro x' gF;rw[hx];have:(G.length+gM.length)*P.cellsOf e=cap*j.n:=by rw[gP,(gQ rfl).1,gD];congr 1;omega
         rw[this];exact K3 _ gF
        have loop:∀m,m≤len→∃C' H' as,∃ys:List j.T,V.le C'∧Rel W C' H' W∧Te H H'∧(∀a∈as,a.one=true)∧ARs (U7 H') (ys.flatMap j.enc) as∧ys.length=m∧as.length=m*j.n∧∀q,q<m*j.n→∃a v,as[q]?=some a∧vs[g+q]?=some v∧VR C' a v:=by
         intro m
         induction m with
         |zero=>intro _;exact⟨V,H,[],[],CM.le_refl V,C,.refl H,N,.nil,rfl,N,λq hq=>J⟩
         |succ m jD =>
          intro hm;obtain⟨C1,Y,Z,jE,a1,a2,a3,a4,a5,a6,a7,a8⟩:=jD J;obtain⟨D,he⟩:=I m J;have gU:=gA m J;rw[he,H6 J]at gU;obtain⟨_,E,A⟩:=World.cells?_some he;have jF : W.noneFrozen (G[m]' J).2 := λb' F gg => hz b' F (by
           rw[hx];exact Iu _ (List.mem_flatMap.2 ⟨G[m]' J, N, gg⟩))
          obtain⟨C2,H2,gz,y,b1,b2,b3,b4,b5,b6,b7⟩:=ih d e j D _ C1 Y gC gU jF a2;refine⟨C2,H2,Z++gz,jE++[y],CM.le_trans a1 b1,b2,a3.trans b3,?_,?_,by simp[a6],?_,?_⟩
          ·intro gZ hz;rcases Ip.1 hz with h|h
           ·exact a4 gZ h
           ·exact b5 gZ h
          ·rw[List.flatMap_append];refine (a5.mono b3.le).append ?_;simpa using b6
          ·rw[H8,a7,b7,Iv,J5]
          ·intro q hq;by_cases jG:q<m*j.n
           ·obtain⟨a,v,c1,c2,c3⟩:=a8 q jG;exact⟨a,v,by rw[Ie J];exact c1,c2,c3.mono b1⟩
           ·have jU:q-m*j.n<j.n:=by rw[Iv,J5]at hq;omega
            obtain⟨a,v,c1,c2,c3⟩:=b4.get' (i:=q-m*j.n) J;refine⟨a,v,by rw[Il J,a7];exact c1,?_,c3⟩;have:=A (q-m*j.n) J;rw[gD,WideShapes.add_plain,WideShapes.add_plain,zi3 B,c2]at this;rw[←this]
            congr 1
            omega
        obtain⟨C1,Y,as,ys,a1,a2,a3,a4,a5,a6,a7,a8⟩:=loop len (H9 _);have jH:b<W.heap.size:=by
         have:=(Array.getElem?_eq_some_iff.1 B).1;exact this
        have jQ:len*j.n≤cap*j.n:=Ii _ gO;have jI:∀q,g≤q→q<g+cap*j.n→¬(lo≤q∧q<hi):=by
         intro q h1 h2;have:=zl5 hz (λx' gF=>gT x' gF) (i:=q-g) (n:=cap*j.n) J;rw[show g+(q-g)=q from J]at this;unfold World.frozen? at this;dsimp only at this;rw[B]at this;simp at this;omega
        obtain⟨c1,c2⟩:=a2.ro (L:=⟨b,g,len*j.n,g+cap*j.n⟩) jH (l:=as) (λgV L hL=>by
         rw[CM.ext_same]at hL;cases hL;refine⟨by rw[a7],λe=>Am,by show g+as.length≤g+cap*j.n;omega,vs,ty,lo,hi,B,gR,jI,?_⟩;intro q hq;rw[get_ofList,H7 J];obtain⟨a,v,d1,d2,d3⟩:=a8 q J;exact⟨a,by simpa using d1,a4 a (Iq d1),v,d2,d3.mono gV⟩)
        have hg:Te Y (Y.push (.cells (Rr as 0 .e) as.length 0 true)):=⟨Lp _,λo ho=>Heap.get_push_ne _ _ ho⟩;refine⟨_,_,[.sl Y.next 0 0 len j.n none],(⟨ys,J⟩:{ l:List j.T // l.length≤maxLen }),CM.le_trans a1 c2,c1,a3.trans hg,.cons ?_ .nil,by simp[AV.one],?_,rfl⟩
        ·exact VR.sl (L:=⟨b,g,len*j.n,g+cap*j.n⟩) (i:=0) (CM.ext_same _ _ _ _) Ar Ar gO (λr e=>Am) (λ_=>rfl)
        ·show ARs _ [LV.lst (ys.flatMap j.enc) ys.length j.n] _;rw[a6];refine .cons (.lst (Jf Y.next) (λr e=>Am) ?_ ?_ (a5.mono hg.le)) .nil
         ·have:=a5.length;omega
         ·have hr:=V7 (H:=Y.push (.cells (Rr as 0 .e) as.length 0 true)) (i:=0) (n:=len*j.n) (Heap.get_push_same _ _) (z64 as) (H9 _) J;rw[Ka,Ij J]at hr;exact hr
     ·rw[Hv U]at z;cases z
   ·rename_i fs hu;split at z
    ·cases z
    ·rename_i l E;cases z;obtain⟨xs,n,hn,hx,gG,gX,jK⟩:=DataW.trod_struct hu h;cases hn;have gH:∀(fl:List Field) (X g:Nat) (l:ShL) (V:CM) (H:Heap),fs.toList.drop X=fl→ky P (Wo P d) (P.cellsOf t) fl g=some l→Rel W V H W→Got W V H (cs.drop g) l.n l.T l.enc:=by
      intro fl
      induction fl with
      |nil =>
       intro X g l V H hj E C;simp only[ky]at E;split at E
       ·rename_i he;cases E;refine⟨V,H,[],(():Unit),CM.le_refl V,C,.refl H,?_,N,.nil,rfl⟩;rw[he,←gG,List.drop_length];exact .nil
       ·cases E
      |cons fd fl jL =>
       intro X g l V H hj E C;simp only[ky]at E;split at E
       ·cases E
       ·rename_i s z;by_cases U:fd.offset=g∧P.cellsOf fd.type=s.n
        ·rw[H7 U]at E;split at E
         ·cases E
         ·rename_i r hr;cases E;have gI:X<fs.toList.length:=by
           rcases Km X fs.toList.length with h|h
           ·exact h
           ·rw[List.drop_eq_nil_of_le h]at hj;cases hj
          have jM:fs[X]?=some fd:=by
           rw[Jo gI]at hj;injection hj with h1 h2
           rw[←h1];simp
          have K:=jK X fd jM;rw[U.1,U.2]at K;have gK:X<xs.length:=by rw[gX];simpa using gI
          rw[H6 gK]at K;obtain⟨C1,Y,Z,y,a1,a2,a3,a4,a5,a6,a7⟩:=ih d fd.type s _ _ V H z K (λb' F gg=>hz b' F Gz) C;obtain⟨C2,H2,gz,ys,b1,b2,b3,b4,b5,b6,b7⟩:=jL (X+1) (g+s.n) r C1 Y (by rw[Jo gI]at hj;injection hj) hr a2;refine⟨C2,H2,Z++gz,(y,ys),CM.le_trans a1 b1,b2,a3.trans b3,?_,?_,(a6.mono b3.le).append b6,by rw[H8,a7,b7];rfl⟩
          ·have:=(a4.mono b1).append b4
           rwa [←List.drop_drop,List.take_append_drop]at this
          ·intro gZ hz;rcases Ip.1 hz with h|h
           ·exact a5 gZ h
           ·exact b5 gZ h
        ·rw[Hv U]at E;cases E
     have:=gH fs.toList 0 0 l V H N E C;rw[Ka]at this;exact this
   ·rename_i n e hu;split at z
    ·cases z
    ·rename_i j gC;by_cases U:P.cellsOf e=j.n∧P.cellsOf t=n*j.n
     case neg=>rw[Hv U]at z;cases z
     rw[H7 U]at z;cases z;obtain⟨xs,m,hm,hx,gG,gX,gA⟩:=DataW.trod_array hu h;cases hm;have gH:∀(k X:Nat) (V:CM) (H:Heap),X+k=n→Rel W V H W→Got W V H (cs.drop (X*j.n)) (Wn k j).n (Wn k j).T (Wn k j).enc:=by
      intro k
      induction k with
      |zero =>
       intro X V H hj C;refine⟨V,H,[],(():Unit),CM.le_refl V,C,.refl H,?_,N,.nil,rfl⟩;rw[(J:X=n),←U.2,←gG,List.drop_length];exact .nil
      |succ k jO =>
       intro X V H hj C;have K:=gA X J;rw[U.1]at K;have gK:X<xs.length:=J
       rw[H6 gK]at K;obtain⟨C1,Y,Z,y,a1,a2,a3,a4,a5,a6,a7⟩:=ih d e j _ _ V H gC K (λb' F gg=>hz b' F Gz) C;obtain⟨C2,H2,gz,ys,b1,b2,b3,b4,b5,b6,b7⟩:=jO (X+1) C1 Y J a2;refine⟨C2,H2,Z++gz,(y,ys),CM.le_trans a1 b1,b2,a3.trans b3,?_,?_,(a6.mono b3.le).append b6,by rw[H8,a7,b7];rfl⟩
       ·have:=(a4.mono b1).append b4
        rwa [Lz,←List.drop_drop,List.take_append_drop]at this
       ·intro gZ hz;rcases Ip.1 hz with h|h
        ·exact a5 gZ h
        ·exact b5 gZ h
     have:=gH n 0 V H J C;rw[Kw,Ka]at this;exact this
   ·cases z
end imp
end
end
section
open Go.RowKit Go.ChangeShapes Go.WideShapes Go.ChangeAt
def Sh.arg:(s:Sh)→s.T→LV
 |.st l,x=>.agg (l.enc x)
 |.bool,x=>.bool x
 |.u,x=>.u x
 |.b,x=>.b x
 |.i,x=>.i x.1
 |.k kk,x=>.int kk x
 |.str,x=>.str x.1
 |.sl s,x=>.lst (x.1.flatMap s.enc) x.1.length s.n
def ShL.args:(l:ShL)→l.T→List LV
 |.nil,_=>[]
 |.cons s l,x=>s.arg x.1::l.args x.2
section law
variable {H : Type} {enc : TypeId × Value → H} {P : Program}
def zvj{W:World}{d F:Nat}:∀{O:List TypeId} {l:ShL} {z:List Value} {U:List (DataW H)} {Q:List MemPlace} {C:CM} {Hp:Heap},Wl P d O=some l→DataW.TrodAll enc P W 0 (λ_=>true) true O z U Q→W.noneFrozen Q →
  (∀(gB:Nat) (t:TypeId) (v:Value),O[gB]?=some t→z[gB]?=some v→Value.okWide P W .any F t v)→Rel W C Hp W→∃V X as,∃y:l.T,C.le V∧Rel W V X W∧Te Hp X∧VRs V as z∧ARs (U7 X) (l.args y) as
 |[],l,z,U,Q,C,Hp,B,Y,_,_,Z=>by
  cases B;obtain⟨rfl,_,_⟩:=trodAll_nil Y;exact⟨C,Hp,[],(():Unit),CM.le_refl C,Z,.refl Hp,.nil,.nil⟩
 |t::O,l,z,U,Q,C,Hp,B,Y,hz,hv,Z=>by
  simp only[Wl]at B;split at B
  ·cases B
  ·rename_i s g;by_cases hc:P.cellsOf t=s.n
   ·rw[H7 hc]at B;split at B
    ·cases B
    ·rename_i r hr;cases B;obtain⟨v,vs,dd,gC,p,q,rfl,rfl,rfl,⟨G,hd⟩,E⟩:=trodAll_cons Y;obtain⟨C1,H1,I,y,a1,a2,a3,R,a5,T,a7⟩:=got_cells G d t s _ _ C Hp g hd (λb o hb=>hz b o (K3 _ hb)) Z;obtain⟨C2,H2,gg,ys,b1,b2,b3,b4,b5⟩:=zvj (C:=C1) (Hp:=H1) hr E (λb o hb=>hz b o (Iu _ hb)) (λgB t' v' K h2=>hv (gB+1) t' v' Dy (by simpa using h2)) a2;have A:=hv 0 t v rfl rfl;have gz:∃a,VR C1 a v∧AR (U7 H1) (s.arg y) a:=by
      cases d with
      |zero=>cases g
      |succ d =>
       have j:∀{gD:LV},s.enc y=[gD]→s.arg y=gD→v.cells.toList=[v]→∃a,VR C1 a v∧AR (U7 H1) (s.arg y) a:=by
        intro gD e1 e2 e3;rw[e3]at R;rw[e1]at T;cases R with
        |cons K h2 =>
         cases T with
         |cons h3 h4=>exact⟨_,K,by rw[e2];exact h3⟩
       simp only[Wo]at g;split at g
       ·rename_i hu;cases g;obtain⟨b,rfl⟩:=okWide_bool hu A;exact j rfl rfl rfl
       ·rename_i k hu;obtain⟨n,rfl⟩:=okWide_int hu A;split at g<;>cases g<;>exact j rfl rfl rfl
       ·rename_i hu;cases g;obtain⟨b,rfl⟩:=okWide_string hu A;exact j rfl rfl rfl
       ·rename_i e hu;obtain⟨a,len,cap,rfl⟩:=okWide_slice hu A;split at g
        ·cases g
        ·rename_i L gA;by_cases D:P.cellsOf e=L.n∧0<L.n
         ·rw[H7 D]at g;cases g;exact j rfl rfl rfl
         ·rw[Hv D]at g;cases g
       ·rename_i fs hu;obtain⟨M,rfl,_⟩:=okWide_struct hu A;split at g
        ·cases g
        ·rename_i l hl;cases g;exact⟨.agg I,.agg R a5,.agg T⟩
       ·rename_i n e hu;obtain⟨M,rfl⟩:∃M,v=.agg M:=by
         simp only[Value.okWide,hu]at A;obtain⟨M,K,_⟩:=A;exact⟨M,K⟩
        split at g
        ·cases g
        ·rename_i L gA;by_cases D:P.cellsOf e=L.n∧P.cellsOf t=n*L.n
         ·rw[H7 D]at g;cases g;exact⟨.agg I,.agg R a5,.agg T⟩
         ·rw[Hv D]at g;cases g
       ·cases g
     obtain⟨a,o1,o2⟩:=gz;exact⟨C2,H2,a::gg,(y,ys),CM.le_trans a1 b1,b2,a3.trans b3,.cons (o1.mono b1) b4,.cons (o2.mono b3.le) b5⟩
   ·rw[Hv hc]at B;cases B
def wv{f d:Nat}{j:List TypeId}{l:ShL}(hm:P.follows .mixedOrders=true)(z:Wl P d j=some l)(h:∀y:l.T,Qh P (.fn f) (l.args y) [] λv _=>v=.bool true){W:World}{D:List (DataW H)}{C:List MemPlace}
  (E:DataW.TrodAll enc P W 0 (λ_=>true) true j vP.toList D C) (F:W.noneFrozen C) (hv:∀(Z:Nat) (t:TypeId) (v:Value),j[Z]?=some t→vP.toList[Z]?=some v→Value.okWide P W .any g t v) :
  Calls P f vP W λe A=>e=.returned (.bool true)∧Below W.heap.size W A:=by
 obtain⟨gg,G,as,y,_,I,_,K,B⟩:=zvj z E F hv (Rel.start W);obtain⟨m,v1,H',L,c',v,G',q2,q3,q4,M,O⟩:=(h y).2 (U7 G) (.fn f) as (HSim.empty (λo ho=>ho)) rfl B;subst O;cases M;intro Q;obtain⟨C',A,v',R,h1,T,U,V,X,Y⟩:=zk9 hm (pq P) m W _ _ W (.fn f) as _ _ _ I K L Q;cases U;exact⟨.returned (.bool true),A,R,⟨rfl,T.low⟩,V,X,Y⟩
def zqt(F:laidOutB P=true){W G:World}(I:Below W.heap.size W G){K:Nat→Bool}:∀{A:List TypeId} {C:List Value} {D:List (DataW H)} {B:List MemPlace},(∀t∈A,P.readableRec t=true∧t<P.types.size)→DataW.TrodAll enc P W 0 (λ_=>true) true A C D B →
  (∀x∈B,x.block<W.heap.size)→(∀x∈B,K x.block=true)→DataW.TrodAll enc P G 0 K true A C D B
 |[],[],[],_,_,h,_,_=>h
 |t::A,v::C,d::D,_,E,⟨p,q,L,M,e⟩,j,z=>by
  subst e;exact⟨p,q,WideElems.Trod_stays F (E t N).1 (E t N).2 L (λx g=>I.same (j x (K3 _ g))) (λx g=>z x (K3 _ g)),
   zqt F I (λO Q=>E O Cp) M (λx g=>j x (Iu _ g)) (λx g=>z x (Iu _ g)),rfl⟩
 |[],[],_::_,_,_,h,_,_=>h.elim
 |[],_::_,_,_,_,h,_,_=>h.elim
 |_::_,[],_,_,_,h,_,_=>h.elim
 |_::_,_::_,[],_,_,h,_,_=>h.elim
def je{f:Func}{s:ChangeSpec}{C g D:Bool}{W:World}{args:Array Value}{I gs:List (DataW H)}{A:List MemPlace}(U:DataW.Whole enc P f.params.toList s.vars Q W args.toList I gs A)(j:s.vars=[])
  (E:∀F:List (DataW H),F.length=f.params.toList.length→s.fn H F={ results:=[.lit (.bool true)],args:=F }) (V:Below W.heap.size W K) (hl:laidOutB P=true) (hr:∀t∈f.params.toList,P.readableRec t=true∧t<P.types.size)
  (B:f.resultTypes=#[v9]) (z:P.underlying v9=some .bool):s.post enc P f Q C g D W args (.bool true) K:=by
 have L:=U;obtain⟨p,q,X,Y,rfl,gg,gz⟩:=U;rw[j]at Y;obtain⟨rfl,rfl⟩:=trodVars_none Y;have M:I.length=f.params.toList.length:=(trodAll_length X).2;have hs:=E I M;have G:s.fn H (I++[])={ results:=[.lit (.bool true)],args:=I }:=by rw[Ji];exact hs
 have O:=L.lt;refine zxc (pa:=p) (pv:=[]) L (λb Z hd=>?_) (λZ R=>?_) (λZ _=>?_) rfl V ?_
 ·rw[G,B];exact trodAll_cons_mk (shut_bool z _) trodAll_mk0
 ·rw[G];exact zqt hl V hr X (λx T=>O x Ew) (λx T=>R x Ew)
 ·rw[G,j];rfl
 ·exact ok_one B rfl (okWide_bool_mk z _)
end law
end
section
def O5(G:M0)(v d:LV):Prop:=match v with
 |.tup l=>∃r,d=.tup r∧bors G l r
 |v=>bor G v d
def Sa(P:Program)(f:Nat)(z:List LV)(E:LV):Prop :=
 zyc P (.fn f)∧E.dat=true∧∀(B:Nat→Prop) (C:Heap) (g:List AV),(∀o,B o→o<C.next)→ARs ⟨[],B,C⟩ z g →
  ∃(m:Nat) (F:AV) (j:Nat→Prop) (A:Heap),So P (OL P) m (.fn f) g C=.ok F A∧C.next≤A.next∧(∀o,B o→j o)∧(∀o,j o→o<A.next∧(B o∨C.next≤o))∧(∀o,o<C.next→A.get o=C.get o)∧AR ⟨[],j,A⟩ E F
section calls
variable {P : Program}
def yp{c:Cx}{G:M0}(j:HSim c G)(v d:LV)(a:AV)(g:O5 G v d)(h:AR c v a):AR ⟨[],λo=>c.Fz o∨O4 c G o,c.H⟩ d a:=by
 unfold O5 at g;split at g
 ·obtain⟨r,rfl,g⟩:=g;cases h with
  |tup h=>exact .tup (bors_ok j _ _ _ g h)
 ·exact bor_ok j _ _ _ g h
def Sa.mk{f:Nat}{args:List LV}{v0:LV}(hd:v0.dat=true)(h:Qh P (.fn f) args [] λv G=>O5 G v v0):Sa P f args v0:=by
 refine⟨h.1,hd,λFz H gg gA ha=>?_⟩;obtain⟨m,v1,H',q1,c1,v,G,rfl,q3,q4,q5,q6⟩:=h.2 ⟨[],Fz,H⟩ (.fn f) gg (.empty gA) rfl ha;have gz:∀o,¬O4 ⟨[],Fz,H⟩ [] o:=λo ⟨p,_,_,_,e,_⟩=>Cg
 refine⟨m,v1,_,c1.H,q1,q4.nx,λo ho=>.inl (q4.le.fz o ho).1,λo ho=>⟨ho.elim (q3.fz o) (q3.lt o),?_⟩,λo ho=>q4.frame o ho (gz o),yp q3 v v0 v1 q6 q5⟩;rcases ho with ho|ho
 ·rcases q4.fznew o ho with h|h|h
  ·exact .inl h
  ·exact absurd h (gz o)
  ·exact .inr h
 ·rcases q4.new o ho with h|h
  ·exact absurd h (gz o)
  ·exact .inr h
def zqz{c:Cx}{G:M0}(B:HSim c G){Fz':Nat→Prop}(O:c.H.next≤vT.next)(T:∀o,c.Fz o→Fz' o)(L:∀o,Fz' o→o<vT.next∧(c.Fz o∨c.H.next≤o))(I:∀o,o<c.H.next→vT.get o=c.H.get o) :
  HSim ⟨c.hd,Fz',vT⟩ G∧Step c G ⟨c.hd,Fz',vT⟩ G:=by
 have E:CxLe c ⟨c.hd,Fz',vT⟩:=⟨λp k h e=>⟨k,h,e,H9 _,λ_=>rfl,λ_=>rfl⟩,λo ho=>⟨T o ho,I o (B.fz o ho)⟩⟩;have g:∀o,O4 ⟨c.hd,Fz',vT⟩ G o→O4 c G o:=λo ⟨p,j,k,h,A,z,F,H⟩=>⟨p,j,k,h,A,z,F,H⟩
 refine⟨⟨B.len,λo ho=>(L o ho).1,λo ho=>Iz (B.lt o (g o ho)) O,λo ho U=>?_,λp j k h A z=>?_,λp q j C k h V X o A z F H M R Y Z=>B.excl p q j C k h V X o A z F H M R Y Z⟩,?_⟩
 ·rcases (L o U).2 with h|h
  ·exact B.sep o (g o ho) h
  ·have:=B.lt o (g o ho);omega
 ·by_cases K:j.live=true
  ·exact (B.obj p j k h A z).mono E (λo ho=>I o (B.lt o ⟨p,j,k,h,A,K,z,ho⟩))
  ·cases j<;>first|exact absurd rfl K|trivial
 ·refine⟨E,O,λo ho _=>I o ho,λo ho=>.inl (g o ho),λo ho=>(L o ho).2.elim .inl (λh=>.inr (.inr h)),λp j C A z=>?_,λp j C k h o A z F H M R=>?_⟩
  ·rw[A]at z;cases z;exact H9 _
  ·rw[A]at z;cases z;have K:j.live=true:=by cases j<;>first|rfl|cases M
   exact⟨rfl,I o (B.lt o ⟨p,j,k,h,A,K,F,H⟩),rfl⟩
def R0{f:Nat}{G:M0}(H:Sa P f E R)(I:dats E=true)(k:X R G):Qh P (.fn f) E G X:=by
 obtain⟨K,hd,z⟩:=H;refine⟨K,λc L g C A M=>?_⟩;cases L with
 |yield o=>exact A.elim
 |fn gg =>
  obtain rfl:f=gg:=A;obtain⟨m,F,j,B,O,T,U,V,Y,Z⟩:=z c.Fz c.H g C.fz (ARs.dat (c:=c) (c':=⟨[],c.Fz,c.H⟩) (λo ho=>⟨ho,rfl⟩) E g I M);obtain⟨r1,r2⟩:=zqz C T U V Y;exact⟨m,F,B,O,⟨c.hd,j,B⟩,R,G,rfl,r1,r2,AR.dat (c:=⟨[],j,B⟩) (c':=⟨c.hd,j,B⟩) (λo ho=>⟨ho,rfl⟩) R F hd Z,k⟩
mutual
def LV.flat:LV→Bool
 |.bool _ |.u _ |.b _ |.i _ |.int _ _ |.str _ |.nilPtr |.nilSl |.nilMap |.nilFn |.nilIf=>true
 |.agg l=>flats l
 |.tup l=>flats l
 |_=>false
def flats:List LV→Bool
 |[]=>true
 |v::l=>v.flat&&flats l
end
mutual
def AR.flat{c c':Cx}(v:LV)(a:AV)(hd:v.flat=true)(h:AR c v a):AR c' v a:=by
 cases v with
 |agg l =>
  simp only[LV.flat]at hd;cases h with
  |agg h=>exact .agg (ARs.flat l _ hd h)
 |tup l =>
  simp only[LV.flat]at hd;cases h with
  |tup h=>exact .tup (ARs.flat l _ hd h)
 |_=>first|(simp only[LV.flat]at hd;cases hd;done)|(cases h;constructor)
termination_by SizeOf.sizeOf v
def ARs.flat{c c':Cx}(l:List LV)(r:List AV)(hd:flats l=true)(h:ARs c l r):ARs c' l r:=by
 cases l with
 |nil=>cases h;exact .nil
 |cons v l =>
  simp only[flats,Hw]at hd;cases h with
  |cons e es=>exact .cons (AR.flat v _ hd.1 e) (ARs.flat l _ hd.2 es)
termination_by SizeOf.sizeOf l
end
def yc{f:Nat}{G:M0}(H:Sa P f v8 R)(I:bors G E v8)(hv:R.flat=true)(k:X R G):Qh P (.fn f) E G X:=by
 obtain⟨K,hd,j⟩:=H;refine⟨K,λc L g z A M=>?_⟩;cases L with
 |yield o=>exact A.elim
 |fn gg =>
  obtain rfl:f=gg:=A;obtain⟨m,B,O,C,T,F,q3,q4,U,V⟩:=j (λo=>c.Fz o∨O4 c G o) c.H g (λo ho=>ho.elim (z.fz o) (z.lt o)) (bors_ok z E v8 g I M);obtain⟨Y,Z⟩:=zqz z (Fz':=c.Fz) F (λ_ h=>h) (λo ho=>⟨Iz (z.fz o ho) F,.inl ho⟩) U;exact⟨m,B,C,T,⟨c.hd,c.Fz,C⟩,R,G,rfl,Y,Z,AR.flat R B hv V,k⟩
end calls
def zrs{P:Program}{f:Nat}{G:M0}(z:zyc P (.fn f))(A:zls P f=true)(B:z9o P f)(k:X (.bool true) G):Qh P (.fn f) [] G X:=by
 refine⟨z,λc C j E g F=>?_⟩;cases C with
 |yield o=>exact g.elim
 |fn H =>
  obtain rfl:f=H:=g;cases F;refine⟨1,.bool true,c.H,?_,c,.bool true,G,rfl,E,.refl c G,.bool true,k⟩;unfold So;dsimp only;rw[OL_yes A B]
section cuts
variable {P : Program} {f n : Nat} {ro : Option Nat} {ρ : M2} {D : List Nat} {G : M0} {Q : Qd}
def zwg{b c:LC}:Xk P f n ro (.seq b c) Q=Xk P f n ro b (Xk P f n ro c Q):=by
 funext x ρ D G
 cases x<;>rfl
def zf7{a b c:LC}:wp P f n ro (.seq a (.seq b c)) ρ D G Q=wp P f n ro (.seq (.seq a b) c) ρ D G Q:=by
 rw[wp_seq,wp_seq,wp_seq,zwg]
def Yc{a b:LC}(E:M2→List Nat→M0→Prop)(B:∀A:M2→List Nat→M0→Prop,(∀(g:M2) (j:List Nat) (z:M0),E g j z→A g j z)→wp P f n ro a ρ D G (zr A Q))
  (C:∀(g:M2) (j:List Nat) (z:M0),E g j z→wp P f n ro b g j z Q):wp P f n ro (.seq a b) ρ D G Q:=by
 rw[wp_seq];exact B (λg j z=>wp P f n ro b g j z Q) C
end cuts
attribute [simp] O5 LV.flat flats
end

section
def yx(b:Nat)(G:M0)(v:LV)(esz n:Nat)(l:List LV):Prop :=
 (v=.nilSl∧n=0∧l=[])∨∃(p k:Nat) (g:List LV) (m st:Nat),b≤p∧G[p]?=some (.dyn g m esz k st)∧g.length=m*esz∧n≤m∧l=g.take (n*esz)∧((v=.dy p k∧n=m)∨v=.vw p k 0 n)
section stk
variable {b : Nat} {G G' : M0} {v : LV} {esz n : Nat} {l x : List LV}
def yx.length(h:yx b G v esz n l):l.length=n*esz:=by
 rcases h with ⟨_,rfl,rfl⟩|⟨p,k,R,m,st,_,_,h2,h3,rfl,_⟩
 ·simp
 ·have:=Ii esz h3;rw[Kc];omega
def yx.lenL(h:yx b G v esz n l){K:Nat→Prop}(k:K n):lenL G v K:=by
 rcases h with ⟨rfl,rfl,_⟩|⟨p,gg,R,m,st,_,h1,_,_,_,⟨rfl,rfl⟩|rfl⟩
 ·exact k
 ·rw[lenL_dy,h1];exact⟨rfl,k⟩
 ·rw[lenL_vw,h1];exact⟨rfl,k⟩
def yx.ix(h:yx b G v esz n l){i:Int}(h0:0≤i)(hi:i<n){K:LV→Prop}
  (k:∀(p j:Nat) (R:List LV) (m st:Nat),b≤p→G[p]?=some (.dyn R m esz j st)→(∀gg,gg<n*esz→R[gg]?=l[gg]?)→n*esz≤R.length→K (.dptr p j (i.toNat*esz))):fu G esz v i K:=by
 rcases h with ⟨rfl,rfl,rfl⟩|⟨p,j,R,m',st,h1,h2,h3,h4,rfl,⟨rfl,rfl⟩|rfl⟩
 ·omega
 ·rw[Ya,h2];exact⟨rfl,rfl,h0,hi,k _ _ _ _ _ h1 h2 (λgg hj=>by rw[J3 hj]) J⟩
 ·rw[zzc,h2];have:=Ii esz h4;refine⟨rfl,rfl,h0,hi,?_⟩;rw[Ix];exact k _ _ _ _ _ h1 h2 (λgg hj=>by rw[J3 hj]) J
def Rw(b:Nat)(G:M0)(v:LV)(esz n:Nat)(l:List LV):Prop :=
 (v=.nilSl∧n=0∧l=[])∨∃(p k st:Nat),b≤p∧v=.dy p k∧G[p]?=some (.dyn l n esz k st)∧l.length=n*esz
def Rw.nil:Rw b G .nilSl esz 0 []:=.inl ⟨rfl,rfl,rfl⟩
def Rw.frame(h:Rw b G v esz n l)(hf:∀q,b≤q→G'[q]?=G[q]?):Rw b G' v esz n l:=by
 rcases h with h|⟨p,k,st,h1,h2,h3,h4⟩
 ·exact .inl h
 ·exact .inr ⟨p,k,st,h1,h2,by rw[hf p h1];exact h3,h4⟩
def Rw.set_lt(h:Rw b G v esz n l){q:Nat}{ob:LObj}(hq:q<b):Rw b (G.set q ob) v esz n l :=
 h.frame λr hr=>Hx J
def Rw.push_end(h:Rw b G v esz n l){ob:List LObj}:Rw b (G++ob) v esz n l:=by
 rcases h with h|⟨p,k,st,h1,h2,h3,h4⟩
 ·exact .inl h
 ·exact .inr ⟨p,k,st,h1,h2,by rw[Ie (Hu.1 h3).1];exact h3,h4⟩
def Rw.push(h:Rw b G v esz n l)(hz:0<esz)(hb:b≤G.length)(hn:n≤1000000000){m:Nat}(hx:x.length=m*esz){K:LV→M0→Prop}
  (k:∀v' G',Rw b G' v' esz (n+m) (l++x)→(∀q,q<b→G'[q]?=G[q]?)→b≤G'.length→K v' G'):Pf G esz v m x K:=by
 rcases h with ⟨rfl,rfl,rfl⟩|⟨p,gg,st,h1,rfl,h2,h3⟩
 ·rw[appL_nil];refine k _ _ (.inr ⟨_,0,0,hb,rfl,?_,by simpa using hx⟩) (λq hq=>Ie J) Ab;rw[Ix];exact Im
 ·have hp:p<G.length:=(Hu.1 h2).1;rw[appL_dy,h2];exact⟨rfl,⟨rfl,hz⟩,hn,k _ _ (.inr ⟨p,gg+1,st+1,h1,rfl,H0 hp,by rw[H8,h3,hx,Iv]⟩) (λq hq=>Hx J) (by rw[J1];exact hb)⟩
def Rw.cells(h:Rw b G v esz n l):v.cells=some [v]:=by
 rcases h with ⟨rfl,_⟩|⟨_,_,_,_,rfl,_⟩<;>rfl
def Rw.bor(h:Rw b G v esz n l)(hd:dats l=true):Go.Sv.bor G v (.lst l n esz):=by
 rcases h with ⟨rfl,rfl,rfl⟩|⟨p,k,st,_,rfl,h2,_⟩
 ·exact .inr ⟨_,rfl⟩
 ·exact⟨_,_,_,_,rfl,h2,hd⟩
def yx.cells(h:yx b G v esz n l):v.cells=some [v]:=by
 rcases h with ⟨rfl,_⟩|⟨_,_,_,_,_,_,_,_,_,_,⟨rfl,_⟩|rfl⟩<;>rfl
end stk
end
def HSim.freeze'{c:Cx}{G:M0}(hs:HSim c G){p k st:Nat}{x:AV}{ob:LObj}(hG:G[p]?=some ob)(hl:ob.live=true)(gC:ob.st<st)(hp:c.hd[p]?=some (k,x)) :
  HSim ⟨c.hd,λq=>c.Fz q∨Ny x=some q,c.H⟩ (G.set p (.dead st))∧Step c G ⟨c.hd,λq=>c.Fz q∨Ny x=some q,c.H⟩ (G.set p (.dead st)):=by
 have gD:p<G.length:=(Hu.1 hG).1;have hle:CxLe c ⟨c.hd,λq=>c.Fz q∨Ny x=some q,c.H⟩:=⟨λp k h e=>⟨k,h,e,H9 _,λ_=>rfl,λ_=>rfl⟩,λq hq=>⟨.inl hq,rfl⟩⟩;have gA:∀q,Ny x=some q→O4 c G q:=λq hq=>⟨p,ob,k,x,hG,hl,hp,hq⟩
 have hinv:∀{q:Nat} {gg:LObj},(G.set p (.dead st))[q]?=some gg→(q=p∧gg=.dead st)∨(q≠p∧G[q]?=some gg):=by
  intro q gg e;by_cases hq:q=p
  ·subst hq;rw[H0 gD]at e;cases e;exact .inl ⟨rfl,rfl⟩
  ·rw[Hx (Ne.symm hq)]at e;exact .inr ⟨hq,e⟩
 have gz:∀q,O4 ⟨c.hd,λq=>c.Fz q∨Ny x=some q,c.H⟩ (G.set p (.dead st)) q→O4 c G q∧Ny x≠some q:=by
  rintro q ⟨p1,gg,k1,h1,e1,e2,e3,e4⟩;rcases hinv e1 with ⟨_,rfl⟩|⟨gE,e1⟩
  ·cases e2
  ·exact⟨⟨p1,gg,k1,h1,e1,e2,e3,e4⟩,λhq=>gE (hs.excl p1 p gg ob k1 h1 k x q e1 hG e2 hl e3 hp e4 hq)⟩
 refine⟨⟨De,λq hq=>hq.elim (hs.fz q) (λe=>hs.lt q (gA q e)),λq hq=>hs.lt q (gz q hq).1,λq hq hf=>hf.elim (hs.sep q (gz q hq).1) (gz q hq).2,λq gg k1 h1 e1 e2=>?_,?_⟩,⟨hle,H9 _,λ_ _ _=>rfl,λq hq=>.inl (gz q hq).1,λq hq=>hq.elim .inl (λe=>.inr (.inl (gA q e))),λq gg gB e1 e2=>?_,λq gg gB k1 h1 o1 e1 e2 e3 e4 e5 e6=>?_⟩⟩
 ·rcases hinv e1 with ⟨_,rfl⟩|⟨_,e1⟩
  ·trivial
  ·by_cases gF:gg.live=true
   ·exact (hs.obj q gg k1 h1 e1 e2).mono hle (λ_ _=>rfl)
   ·cases gg<;>first|exact absurd rfl gF|trivial
 ·intro q r gg gB k1 h1 k2 h2 o1 e1 e2 e3 e4 e5 e6 e7 e8;rcases hinv e1 with ⟨_,rfl⟩|⟨_,e1⟩
  ·cases e3
  ·rcases hinv e2 with ⟨_,rfl⟩|⟨_,e2⟩
   ·cases e4
   ·exact hs.excl q r gg gB k1 h1 k2 h2 o1 e1 e2 e3 e4 e5 e6 e7 e8
 ·rcases hinv e2 with ⟨rfl,rfl⟩|⟨_,e2⟩
  ·rw[hG]at e1;cases e1;exact Mm gC
  ·rw[e1]at e2;cases e2;exact H9 _
 ·rcases hinv e2 with ⟨rfl,rfl⟩|⟨_,e2⟩
  ·rw[hG]at e1;cases e1;have:ob.st=st:=e6;omega
  ·rw[e1]at e2;cases e2;exact⟨rfl,rfl,rfl⟩
def ARs.parts{c:Cx}:∀{a b:List LV} {v:LV} {r:List AV},ARs c (a++v::b) r→∃ra x rb,r=ra++x::rb∧ARs c a ra∧AR c v x∧ARs c b rb
 |[],b,v,r,h=>by
  cases h with
  |cons e es=>exact⟨[],_,_,rfl,.nil,e,es⟩
 |w::a,b,v,r,h=>by
  cases h with
  |cons e es =>
   obtain⟨ra,x,rb,rfl,h1,h2,h3⟩:=ARs.parts (a:=a) es;exact⟨_::ra,x,rb,rfl,.cons e h1,h2,h3⟩
def ARs.join{c:Cx}:∀{a b:List LV} {v:LV} {ra rb:List AV} {x:AV},ARs c a ra→AR c v x→ARs c b rb→ARs c (a++v::b) (ra++x::rb)
 |[],_,_,_,_,_,h1,h2,h3=>by cases h1;exact .cons h2 h3
 |_::a,_,_,_,_,_,h1,h2,h3=>by
  cases h1 with
  |cons e es=>exact .cons e (ARs.join es h2 h3)
def z9u{P:Program}{t:LTgt}{a b:List LV}{p k len st:Nat}{l:List LV}(L:F[p]?=some (.dyn l len g k st))(h:Qh P t (a++.lst l len g::b) (F.set p (.dead (st+1))) X) :
  Qh P t (a++.dy p k::b) F X:=by
 refine⟨h.1,λc B C D E V=>?_⟩;obtain⟨ra,x,rb,rfl,Y,Z,h3⟩:=V.parts;cases Z with
 | @dy _ _ k' M _ e hk G gg =>
  obtain⟨r0,H,j⟩:=D.obj p _ _ _ L e;have I:=G J;obtain⟨O,A⟩:=D.freeze' (st:=st+1) L rfl (Jf _) e;have hx:AR ⟨c.hd,λq=>c.Fz q∨Ny M=some q,c.H⟩ (.lst l len g) x:=by
   rw[I];rcases j with ⟨j,K⟩|⟨o,v,Q,t,R,l',j,K,r4,r5,T,r7,r8⟩
   ·subst K;have hl:l=[]:=In Bn;subst hl;rw[j];exact .lstNil
   ·have gz:l'.length=len*g:=by rw[←T.length];exact H
    have U:=V7 (i:=0) (n:=len*g) K r5 r4 J;rw[Ka,Ij J]at U;rw[j];exact .lst (.inr rfl) (λr e=>(r7 r e).2) H U (T.mono (j ▸ A.le))
  have z:Wg ⟨c.hd,λq=>c.Fz q∨Ny M=some q,c.H⟩ t B:=by
   cases t<;>cases B<;>exact E
  obtain⟨m,v1,H',q1,c1,v,G1,q2,q3,q4,q5,q6⟩:=h.2 _ B _ O z (.join (Y.mono A.le) hx (h3.mono A.le));exact⟨m,v1,H',q1,c1,v,G1,q2,q3,A.trans D O q4,q5,q6⟩
section
def HSim.sub{c:Cx}{G:M0}(hs:HSim c G){p len esz ver st:Nat}{l l':List LV}(hG:G[p]?=some (.dyn l len esz ver st))(hl:∀r,ARs c l r→ARs c l' r) :
  HSim c (G.set p (.dyn l' len esz ver (st+1)))∧Step c G c (G.set p (.dyn l' len esz ver (st+1))):=by
 have gD:p<G.length:=(Hu.1 hG).1;have hle:CxLe c c:=⟨λp k h e=>⟨k,h,e,H9 _,λ_=>rfl,λ_=>rfl⟩,λq hq=>⟨hq,rfl⟩⟩;have hinv:∀{q:Nat} {gg:LObj},(G.set p (.dyn l' len esz ver (st+1)))[q]?=some gg→(q=p∧gg=.dyn l' len esz ver (st+1))∨(q≠p∧G[q]?=some gg):=by
  intro q gg e;by_cases hq:q=p
  ·subst hq;rw[H0 gD]at e;cases e;exact .inl ⟨rfl,rfl⟩
  ·rw[Hx (Ne.symm hq)]at e;exact .inr ⟨hq,e⟩
 have gz:∀{q:Nat} {gg:LObj},(G.set p (.dyn l' len esz ver (st+1)))[q]?=some gg→gg.live=true→∃gA,G[q]?=some gA∧gA.live=true:=by
  intro q gg e gE;rcases hinv e with ⟨rfl,rfl⟩|⟨_,e⟩
  ·exact⟨_,hG,rfl⟩
  ·exact⟨_,e,gE⟩
 have gB:∀q,O4 c (G.set p (.dyn l' len esz ver (st+1))) q→O4 c G q:=by
  rintro q ⟨p1,gg,k1,h1,e1,e2,e3,e4⟩;obtain⟨gA,f1,f2⟩:=gz e1 e2;exact⟨p1,gA,k1,h1,f1,f2,e3,e4⟩
 refine⟨⟨De,hs.fz,λq hq=>hs.lt q (gB q hq),λq hq=>hs.sep q (gB q hq),λq gg k1 h1 e1 e2=>?_,?_⟩,⟨hle,H9 _,λ_ _ _=>rfl,λq hq=>.inl (gB q hq),λq hq=>.inl hq,λq gg gA e1 e2=>?_,λq gg gA k1 h1 o1 e1 e2 e3 e4 e5 e6=>?_⟩⟩
 ·rcases hinv e1 with ⟨rfl,rfl⟩|⟨_,e1⟩
  ·obtain⟨a1,a2,a3⟩:=hs.obj q _ k1 h1 hG e2;rcases a3 with ⟨b1,b2⟩|⟨o,v,room,t,gC,lr,b1,b2,b3,b4,b5,b6,b7⟩
   ·have gF:l=[]:=In (by rw[a2,b2];simp);subst gF;have h9:=hl [] .nil;cases h9;exact⟨a1,a2,.inl ⟨b1,b2⟩⟩
   ·have h9:=hl _ b5;exact⟨a1,by rw[h9.length,←b5.length];exact a2,.inr ⟨o,v,room,t,gC,lr,b1,b2,b3,b4,h9,b6,b7⟩⟩
  ·exact hs.obj q gg k1 h1 e1 e2
 ·intro q r gg gA k1 h1 k2 h2 o1 e1 e2 e3 e4 e5 e6 e7 e8;obtain⟨gG,f1,f2⟩:=gz e1 e3;obtain⟨gH,f3,f4⟩:=gz e2 e4;exact hs.excl q r gG gH k1 h1 k2 h2 o1 f1 f3 f2 f4 e5 e6 e7 e8
 ·rcases hinv e2 with ⟨rfl,rfl⟩|⟨_,e2⟩
  ·rw[hG]at e1;cases e1;exact Lp _
  ·rw[e1]at e2;cases e2;exact H9 _
 ·rcases hinv e2 with ⟨rfl,rfl⟩|⟨_,e2⟩
  ·rw[hG]at e1;cases e1;have:st=st+1:=e6;omega
  ·rw[e1]at e2;cases e2;exact⟨rfl,rfl,rfl⟩
section sub
variable {P : Program} {G : M0} {p len esz ver st : Nat} {l l' : List LV}
def zs5{t:LTgt}(A:G[p]?=some (.dyn l len esz ver st))(B:∀c r,ARs c l r→ARs c l' r)(k:Qh P t E (G.set p (.dyn l' len esz ver (st+1))) X):Qh P t E G X:=by
 refine⟨k.1,λc C g j D F=>?_⟩;obtain⟨z,H⟩:=j.sub A (B c);obtain⟨m,I,U,K,L,v,M,rfl,O,Q,R,T⟩:=k.2 c C g z D F;exact⟨m,I,_,K,L,v,M,rfl,O,Step.trans j z H Q,R,T⟩
def zlg{t:LTgt}{args':List LV}(h:∀c r,ARs c E r→ARs c args' r)(k:Qh P t args' G X):Qh P t E G X :=
 ⟨k.1,λc j g z A B=>k.2 c j g z A (h c _ B)⟩
end sub
def zy2{c:Cx}{a:AV}(h:AR c .nilSl a):AR c (.lst [] 0 1) a:=by cases h;exact .lstNil
end
def zxi{P:Program}{t:LTgt}{args':List LV}{p k len esz st:Nat}{l:List LV}(B:F[p]?=some (.dyn l len esz k st))
  (g:∀(c C:Cx) (r:List AV),CxLe c C→(∀x,AR c (.dy p k) x→AR C (.lst l len esz) x)→ARs c E r→ARs C args' r) (h:Qh P t args' (F.set p (.dead (st+1))) X):Qh P t E F X:=by
 refine⟨h.1,λc D G A H ha=>?_⟩;have hp:p<c.hd.length:=by rw[A.len];exact (Hu.1 B).1
 obtain⟨⟨k1,R⟩,e⟩:∃y,c.hd[p]?=some y:=⟨_,H6 hp⟩;obtain⟨r0,I,j⟩:=A.obj p _ _ _ B e;obtain⟨T,K⟩:=A.freeze' (st:=st+1) B rfl (Jf _) e;have L:∀x,AR c (.dy p k) x→AR ⟨c.hd,λq=>c.Fz q∨Ny R=some q,c.H⟩ (.lst l len esz) x:=by
  intro x L;cases L with
  | @dy _ _ k' h2 _ U hk M gg =>
   rw[e]at U;cases U;have O:=M r0.symm;rw[O];rcases j with ⟨j,Q⟩|⟨o,v,V,t,Y,l',j,Q,r4,r5,Z,r7,r8⟩
   ·subst Q;have hl:l=[]:=In (by simpa using I);subst hl;rw[j];exact .lstNil
   ·have gz:l'.length=len*esz:=by rw[←Z.length];exact I
    have hr:=V7 (i:=0) (n:=len*esz) Q r5 r4 J;rw[Ka,Ij J]at hr;rw[j];exact .lst (.inr rfl) (λr e=>(r7 r e).2) I hr (Z.mono (j ▸ K.le))
 have z:Wg ⟨c.hd,λq=>c.Fz q∨Ny R=some q,c.H⟩ t D:=by
  cases t<;>cases D<;>exact H
 obtain⟨m,v1,H',q1,c1,v,G1,q2,q3,q4,q5,q6⟩:=h.2 _ D _ T z (g _ _ _ K.le L ha);exact⟨m,v1,H',q1,c1,v,G1,q2,q3,K.trans A T q4,q5,q6⟩
def HSim.subC{c:Cx}{G:M0}(hs:HSim c G){p st:Nat}{l l':List LV}(hG:G[p]?=some (.cells l st))(hl:∀r,ARs c l r→ARs c l' r) :
  HSim c (G.set p (.cells l' (st+1)))∧Step c G c (G.set p (.cells l' (st+1))):=by
 have gC:p<G.length:=(Hu.1 hG).1;have hle:CxLe c c:=⟨λp k h e=>⟨k,h,e,H9 _,λ_=>rfl,λ_=>rfl⟩,λq hq=>⟨hq,rfl⟩⟩;have hinv:∀{q:Nat} {gg:LObj},(G.set p (.cells l' (st+1)))[q]?=some gg→(q=p∧gg=.cells l' (st+1))∨(q≠p∧G[q]?=some gg):=by
  intro q gg e;by_cases hq:q=p
  ·subst hq;rw[H0 gC]at e;cases e;exact .inl ⟨rfl,rfl⟩
  ·rw[Hx (Ne.symm hq)]at e;exact .inr ⟨hq,e⟩
 have gz:∀{q:Nat} {gg:LObj},(G.set p (.cells l' (st+1)))[q]?=some gg→gg.live=true→∃gA,G[q]?=some gA∧gA.live=true:=by
  intro q gg e gD;rcases hinv e with ⟨rfl,rfl⟩|⟨_,e⟩
  ·exact⟨_,hG,rfl⟩
  ·exact⟨_,e,gD⟩
 have gB:∀q,O4 c (G.set p (.cells l' (st+1))) q→O4 c G q:=by
  rintro q ⟨p1,gg,k1,h1,e1,e2,e3,e4⟩;obtain⟨gA,f1,f2⟩:=gz e1 e2;exact⟨p1,gA,k1,h1,f1,f2,e3,e4⟩
 refine⟨⟨De,hs.fz,λq hq=>hs.lt q (gB q hq),λq hq=>hs.sep q (gB q hq),λq gg k1 h1 e1 e2=>?_,?_⟩,⟨hle,H9 _,λ_ _ _=>rfl,λq hq=>.inl (gB q hq),λq hq=>.inl hq,λq gg gA e1 e2=>?_,λq gg gA k1 h1 o1 e1 e2 e3 e4 e5 e6=>?_⟩⟩
 ·rcases hinv e1 with ⟨rfl,rfl⟩|⟨_,e1⟩
  ·obtain⟨a1,o,t,lr,b1,b2,b3,b4⟩:=hs.obj q _ k1 h1 hG e2;have h9:=hl _ b4;have hlen:l'.length=l.length:=by rw[h9.length,←b4.length]
   exact⟨a1,o,t,lr,b1,by rw[hlen];exact b2,by rw[hlen];exact b3,h9⟩
  ·exact hs.obj q gg k1 h1 e1 e2
 ·intro q r gg gA k1 h1 k2 h2 o1 e1 e2 e3 e4 e5 e6 e7 e8;obtain⟨gE,f1,f2⟩:=gz e1 e3;obtain⟨gF,f3,f4⟩:=gz e2 e4;exact hs.excl q r gE gF k1 h1 k2 h2 o1 f1 f3 f2 f4 e5 e6 e7 e8
 ·rcases hinv e2 with ⟨rfl,rfl⟩|⟨_,e2⟩
  ·rw[hG]at e1;cases e1;exact Lp _
  ·rw[e1]at e2;cases e2;exact H9 _
 ·rcases hinv e2 with ⟨rfl,rfl⟩|⟨_,e2⟩
  ·rw[hG]at e1;cases e1;have:st=st+1:=e6;omega
  ·rw[e1]at e2;cases e2;exact⟨rfl,rfl,rfl⟩
def HSim.froze{c:Cx}{G:M0}(hs:HSim c G){p k len esz st:Nat}{l:List LV}(hg:G[p]?=some (.dyn l len esz k st)) :
  ∃c',HSim c' (G.set p (.dead (st+1)))∧Step c G c' (G.set p (.dead (st+1)))∧CxLe c c'∧c'.hd=c.hd∧c'.H=c.H∧(∀x,AR c (.dy p k) x→AR c' (.lst l len esz) x)∧∀x,AR c' (.dy p k) x→AR c' (.lst l len esz) x:=by
 have hp:p<c.hd.length:=by rw[hs.len];exact (Hu.1 hg).1
 obtain⟨⟨k1,hh⟩,e⟩:∃y,c.hd[p]?=some y:=⟨_,H6 hp⟩;obtain⟨r0,r1,r2⟩:=hs.obj p _ _ _ hg e;obtain⟨u1,u2⟩:=hs.freeze' (st:=st+1) hg rfl (Jf _) e;have key:AR ⟨c.hd,λq=>c.Fz q∨Ny hh=some q,c.H⟩ (.lst l len esz) hh:=by
  rcases r2 with ⟨r2,r3⟩|⟨o,v,room,t,gA,l',r2,r3,r4,r5,r6,r7,r8⟩
  ·subst r3;have hl:l=[]:=In Dc;subst hl;rw[r2];exact .lstNil
  ·have gB:l'.length=len*esz:=C4
   have hr:=V7 (i:=0) (n:=len*esz) r3 r5 r4 J;rw[Ka,Ij J]at hr;rw[r2];exact .lst (.inr rfl) (λr e=>(r7 r e).2) r1 hr (r6.mono (r2 ▸ u2.le))
 refine⟨_,u1,u2,u2.le,rfl,rfl,λx hx=>?_,λx hx=>?_⟩
 ·cases hx with
  | @dy _ _ k' h2 _ e2 hk gg gz =>
   rw[e]at e2;cases e2;rw[gg r0.symm];exact key
 ·cases hx with
  | @dy _ _ k' h2 _ e2 hk gg gz =>
   have e2:c.hd[p]?=some (k',h2):=e2;rw[e]at e2;cases e2;rw[gg r0.symm];exact key
def ARs.put{c:Cx}{v w:LV}(hle:CxLe c vB)(h:∀x,AR c v x→AR vB w x){a b:List LV}{r:List AV}(ha:ARs c (a++v::b) r):ARs vB (a++w::b) r:=by
 obtain⟨ra,x,rb,rfl,h1,h2,h3⟩:=ha.parts;exact .join (h1.mono hle) (h x h2) (h3.mono hle)
def Wg.hd{c c':Cx}{t:LTgt}{t1:Tgt}(h:Wg c t t1)(e:c'.hd=c.hd):Wg c' t t1:=by
 cases t<;>cases t1<;>simp only[Wg]at h ⊢<;>first|exact h|(rw[e];exact h)
def zzh{P:Program}{t:LTgt}{args' a b:List LV}{p q k len esz st:Nat}{l:List LV}(A:F[p]?=some (.dyn l len esz k st))(z:F[q]?=some (.cells (a++.dy p k::b) g))
  (j:∀(c B:Cx) (r:List AV),CxLe c B→(∀x,AR c (.dy p k) x→AR B (.lst l len esz) x)→ARs c E r→ARs B args' r) (h:Qh P t args' ((F.set p (.dead (st+1))).set q (.cells (a++.lst l len esz::b) (g+1))) X):Qh P t E F X:=by
 have C:p≠q:=λe=>by rw[e,z]at A;cases A
 refine⟨h.1,λc L D G H M=>?_⟩;obtain⟨c1,I,O,Q,R,T,U,V⟩:=G.froze A;obtain⟨K,Y⟩:=I.subC (p:=q) (st:=g) (l:=a++.dy p k::b) (l':=a++.lst l len esz::b) (by rw[Hx C];exact z) λr Z=>ARs.put ⟨λp k h e=>⟨k,h,e,H9 _,λ_=>rfl,λ_=>rfl⟩,λq z=>⟨z,rfl⟩⟩ V Z
 obtain⟨m,v1,H',q1,c2,v,G1,q2,q3,q4,q5,q6⟩:=h.2 _ L _ K (H.hd R) (j _ _ _ Q U M);exact⟨m,v1,H',T ▸ q1,c2,v,G1,q2,q3,(O.trans G I Y).trans G K q4,q5,q6⟩
def de{P:Program}{t:LTgt}{a b:List LV}{p q k len esz st n:Nat}{l:List LV}(K:F[p]?=some (.dyn l len esz k st))(z:F[q]?=some (.dyn (a++.dy p k::b) n j A g))(B:p≠q)
  (h:Qh P t E ((F.set p (.dead (st+1))).set q (.dyn (a++.lst l len esz::b) n j A (g+1))) X):Qh P t E F X:=by
 refine⟨h.1,λc L C D G M=>?_⟩;obtain⟨c1,H,O,Q,R,T,u5,U⟩:=D.froze K;obtain⟨I,V⟩:=H.sub (p:=q) (st:=g) (l:=a++.dy p k::b) (l':=a++.lst l len esz::b) (len:=n) (esz:=j) (ver:=A) (by rw[Hx B];exact z) λr Y=>ARs.put ⟨λp k h e=>⟨k,h,e,H9 _,λ_=>rfl,λ_=>rfl⟩,λq z=>⟨z,rfl⟩⟩ U Y
 obtain⟨m,Z,H',q1,c2,v,G1,q2,q3,q4,q5,q6⟩:=h.2 _ L _ I (G.hd R) (M.mono Q);exact⟨m,Z,H',T ▸ q1,c2,v,G1,q2,q3,(O.trans D H V).trans D I q4,q5,q6⟩
section
noncomputable def zu7(P:Program)(f:Nat):Option RF :=
 match xx P f && !(zg3 P f) with
 |false=>none
 |true=>match P.funcs[f]? with
  |none=>none
  |some fn=>match fn.body with
   |none=>none
   |some b=>match Nat.ble fn.ntmps Qp with
    |false=>none
    |true=>match N6 P fn.ntmps b with
     |none=>none
     |some c=>match zxw P fn.results.toList with
      |none=>none
      |some g=>some ⟨fn.ntmps,c,g⟩
def OL_not{P:Program}{f:Nat}(h:¬z9o P f)(g:List AV)(j:Heap):OL P (.fn f) g j=.no:=by
 unfold OL;split
 ·rename_i z e;cases e;rw[Hv (λx=>h x.2)]
 ·rfl
section top
variable {P : Program}
def zru{f:Nat}{s:LC}{n:Nat}{R:List RRes}(g:zu7 P f=some ⟨n,s.r,R⟩)(G:s.ok=true)(H:∀(a:List AV) (gA:Heap),OL P (.fn f) a gA=.no)(hn:E.length≤n)
  (h:W P f n s none (fg E 0) [] F λx ρ gB T=>(match x with | .exit _=>False|_=>True)∧ua gB T λC=>Rc ρ C R λD=>X (Ua D) C):Qh P (.fn f) E F X:=by
 unfold zu7 at g;split at g
 ·cases g
 ·rename_i z;simp only[Hw,Jd]at z;refine⟨z,λc t1 j U V Y=>?_⟩;cases t1 with
  |yield o=>exact V.elim
  |fn gC =>
   obtain rfl:f=gC:=V;split at g
   ·cases g
   ·rename_i fn I;split at g
    ·cases g
    ·rename_i b hb;split at g
     ·cases g
     ·rename_i A;split at g
      ·cases g
      ·rename_i rc K;split at g
       ·cases g
       ·rename_i gg L;cases g;obtain⟨m,x,E',gz,c',ρ',D',T,q1,Z,q3,q4,q5,q6,q7⟩:=h b c _ [] none K G U (Oe.start Y) .nil trivial;obtain⟨M,C,r1,r2,r3,r4⟩:=zn6 q5 Z q7;obtain⟨D,as,s1,s2,s3⟩:=zi7 r2 (q4.mono r3.le) L r4;have B:AR M (Ua D) (wc as):=by
         cases s2 with
         |nil=>exact .tup .nil
         |cons e es =>
          cases es with
          |nil=>exact e
          |cons e2 O=>exact .tup (.cons e (.cons e2 O))
        refine⟨m+1,wc as,M.H,?_,M,Ua D,C,rfl,r2,.trans U Z q3 r3,B,s3⟩;unfold So;dsimp only;rw[H];dsimp only;unfold zh0;rw[I];dsimp only;rw[hb];dsimp only;rw[H7 (Ih A)];dsimp only;have Q:Nat.ble j.length fn.ntmps=true:=Ia (by rw[←Y.length];exact hn);rw[Q];dsimp only;rw[q1];dsimp only;cases x with
        |exit id=>exact q6.elim
        |normal =>
         dsimp only;rw[r1];dsimp only;rw[s1];rcases as with _|⟨a,_|⟨a2,as⟩⟩<;>rfl
        |ret =>
         dsimp only;rw[r1];dsimp only;rw[s1];rcases as with _|⟨a,_|⟨a2,as⟩⟩<;>rfl
def jp{f:Nat}{s:LC}{n:Nat}{j:List RRes}(A:zu7 P f=some ⟨n,s.r,j⟩)(g:s.ok=true)(B:zls P f=true)(C:zyc P (.fn f))(k:X (.bool true) F)
  (h:wp P f n none s [] [] F (gt j X)):Qh P (.fn f) [] F X:=by
 by_cases z:z9o P f
 ·exact zrs C B z k
 ·exact zru A g (OL_not z) (Kx _) ((Sj s h).post λx E G D k=>by
   cases x with
   |normal=>exact⟨trivial,k⟩
   |exit i=>exact k.elim
   |ret=>exact⟨trivial,k⟩)
end top
end
section
def zrm{l:List LV}(h:∀v∈l,v.dat=true):dats l=true:=by
 induction l with
 |nil=>rfl
 |cons v l g=>rw[dats,h v (I5 ..),g λw hw=>h w (Ik _ hw)];rfl
def zhj{l:List LV}(h:dats l=true):∀v∈l,v.dat=true:=by
 induction l with
 |nil=>intro v hv;cases hv
 |cons w l g =>
  rw[dats,Hw]at h;intro v hv;rcases If.1 hv with rfl|hv
  ·exact h.1
  ·exact g h.2 v hv
def zg5{l:List LV}(n:Nat)(h:dats l=true):dats (l.take n)=true:=zrm λv hv=>zhj h v (List.mem_of_mem_take hv)
def zwl{l:List LV}(n:Nat)(h:dats l=true):dats (l.drop n)=true:=zrm λv hv=>zhj h v (List.mem_of_mem_drop hv)
def sh{a b:List LV}(h:dats a=true)(k:dats b=true):dats (a++b)=true:=zrm λv hv=>(Ip.1 hv).elim (zhj h v) (zhj k v)
def zvn{l r:List LV}{i:Nat}(h:dats l=true)(k:dats r=true):dats (Oa l i r)=true:=by
 unfold Oa;exact sh (sh (zg5 _ h) k) (zwl _ h)
def M6{G x:M0}{i:Nat}(h:i<G.length):(G++x)[i]?=G[i]?:=Ie h
def Oo(b:Nat)(G:M0)(v:LV)(esz n:Nat)(l:List LV):Prop :=
 (v=.nilSl∧n=0∧l=[])∨∃(p k:Nat) (g:List LV) (m st:Nat),b≤p∧G[p]?=some (.dyn g m esz k st)∧g.length=m*esz∧n≤m∧l=g.take (n*esz)∧dats g=true∧((v=.dy p k∧n=m)∨v=.vw p k 0 n)
section std
variable {b : Nat} {G G' : M0} {v : LV} {esz n : Nat} {l x : List LV}
def Oo.nil:Oo b G .nilSl esz 0 []:=.inl ⟨rfl,rfl,rfl⟩
def Oo.stk(h:Oo b G v esz n l):yx b G v esz n l:=by
 rcases h with h|⟨p,k,R,m,st,h1,h2,h3,h4,h5,_,h6⟩
 ·exact .inl h
 ·exact .inr ⟨p,k,R,m,st,h1,h2,h3,h4,h5,h6⟩
def Oo.dy{p k st:Nat}(hb:b≤p)(hp:G[p]?=some (.dyn l n esz k st))(hl:l.length=n*esz)(hd:dats l=true):Oo b G (.dy p k) esz n l :=
 .inr ⟨p,k,l,n,st,hb,hp,hl,H9 _,by rw[Ij J],hd,.inl ⟨rfl,rfl⟩⟩
def Oo.frame(h:Oo b G v esz n l)(hf:∀q,b≤q→q<G.length→G'[q]?=G[q]?):Oo b G' v esz n l:=by
 rcases h with h|⟨p,k,R,m,st,h1,h2,h3⟩
 ·exact .inl h
 ·exact .inr ⟨p,k,R,m,st,h1,by rw[hf p h1 (Hu.1 h2).1];exact h2,h3⟩
def Oo.set_lt(h:Oo b G v esz n l){q:Nat}{ob:LObj}(hq:q<b):Oo b (G.set q ob) v esz n l :=
 h.frame λr hr _=>Hx J
def Oo.push_end(h:Oo b G v esz n l){ob:List LObj}:Oo b (G++ob) v esz n l :=
 h.frame λ_ _ hr=>Ie hr
def Oo.push(h:Oo b G v esz n l)(hz:0<esz)(hb:b≤G.length)(hn:n≤1000000000)(hx:x.length=esz)(gg:dats x=true){K:LV→M0→Prop}
  (k:∀(v':LV) (G':M0),Oo b G' v' esz (n+1) (l++x)→(∀q,q<b→G'[q]?=G[q]?)→G.length≤G'.length→(∀(q:Nat) (ob:LObj),(∀R m k st,ob≠LObj.dyn R m esz k st)→G[q]?=some ob→G'[q]?=some ob)→K v' G'):Pf G esz v 1 x K:=by
 have gA:=h.stk.length;have fresh:∀l',l'=l++x→dats l'=true→K (.dy G.length 0) (G++[.dyn l' (n+1) esz 0 0]):=by
  rintro l' rfl hd;refine k _ _ (.dy hb (st:=0) Im (by rw[H8,gA,hx,Iv];omega) hd) (λq hq=>Ie J) N (λq ob _ e=>Eo)
 rcases h with ⟨rfl,rfl,rfl⟩|⟨p,gB,R,m,st,h0,h1,h2,h3,rfl,hd,⟨rfl,rfl⟩|rfl⟩
 ·rw[appL_nil];exact fresh _ rfl gg
 ·have hp:p<G.length:=(Hu.1 h1).1;rw[Ij J]at k;rw[appL_dy,h1];refine⟨rfl,⟨rfl,hz⟩,hn,k _ _ (.dy h0 (H0 hp) C5 (sh hd gg)) (λq hq=>Hx J) N (λq ob ho e=>?_)⟩;rw[Hx (λq'=>Bx)];exact e
 ·have hp:p<G.length:=(Hu.1 h1).1;have hm:=Ii esz h3;have ha:(n+1)*esz=n*esz+esz:=by rw[Iv];omega
  rw[appL_vw,h1];refine⟨rfl,⟨rfl,rfl,J⟩,hn,?_⟩;by_cases hf:(n+1)*esz≤R.length
  ·rw[H7 hf];have gz:n+1≤m:=by
    rw[h2]at hf;exact Mo hf hz
   refine⟨k _ _ (.inr ⟨p,gB,_,m,_,h0,H0 hp,?_,gz,?_,zvn hd gg,.inr rfl⟩) (λq hq=>Hx J) N (λq ob ho e=>?_),fresh _ rfl (sh (zg5 _ hd) gg)⟩
   ·unfold Oa;simp;omega
   ·unfold Oa;have e1:(R.take (n*esz)++x).length=(n+1)*esz:=by rw[H8,gA,hx,ha]
    rw[Kt e1]
   ·rw[Hx (λq'=>Bx)];exact e
  ·rw[Hv hf];have gz:n=m:=by
    rw[h2]at hf;have:¬n+1≤m:=λq=>hf (Ii _ q)
    omega
   subst gz;have ht:R.take (n*esz)=R:=Ij J;rw[ht]at k fresh;refine⟨rfl,hz,k _ _ (.dy h0 (H0 hp) C5 (sh hd gg)) (λq hq=>Hx J) N (λq ob ho e=>?_),fresh _ rfl (sh hd gg)⟩;rw[Hx (λq'=>Bx)];exact e
def Oo.cut(h:Oo b G v esz n l){m:Nat}(hm:m≤n){lo:(Nat→Prop)→Prop}{hi:Nat→(Nat→Prop)→Prop}(gg:∀K':Nat→Prop,K' 0→lo K')(gz:∀(d:Nat) (K':Nat→Prop),K' m→hi d K'){K:LV→Prop}
  (k:∀v',Oo b G v' esz m (l.take (m*esz))→K v'):qy G esz v lo hi K:=by
 rcases h with ⟨rfl,rfl,rfl⟩|⟨p,gA,R,m',st,h0,h1,h2,h3,rfl,hd,⟨rfl,rfl⟩|rfl⟩
 ·have:m=0:=J
  subst this;rw[slL_nil];exact gg _ (gz _ _ ⟨rfl,rfl,k _ (.inl ⟨rfl,rfl,N⟩)⟩)
 ·rw[slL_dy,h1];refine⟨rfl,rfl,gg _ (gz _ _ ⟨J,hm,k _ (.inr ⟨p,gA,R,n,st,h0,h1,h2,hm,?_,hd,.inr rfl⟩)⟩)⟩;rw[Mq,Ki (Ii _ hm)]
 ·rw[slL_vw,h1];refine⟨rfl,rfl,gg _ (gz _ _ ⟨J,hm,k _ (.inr ⟨p,gA,R,m',st,h0,h1,h2,J,?_,hd,.inr rfl⟩)⟩)⟩;rw[Mq,Ki (Ii _ hm)]
def Oo.bor(h:Oo b G v esz n l):Go.Sv.bor G v (.lst l n esz):=by
 rcases h with ⟨rfl,rfl,rfl⟩|⟨p,k,R,m,st,h1,h2,h3,h4,rfl,hd,⟨rfl,rfl⟩|rfl⟩
 ·exact .inr ⟨_,rfl⟩
 ·exact⟨R,_,_,_,by rw[Ij J],h2,hd⟩
 ·have:=Ii esz h4;exact⟨R,_,_,_,by rw[Kw,Ka],h2,J,hd⟩
def Oo.lenL(h:Oo b G v esz n l){K:Nat→Prop}(k:K n):Go.Sv.lenL G v K:=h.stk.lenL k
def Oo.cells(h:Oo b G v esz n l):v.cells=some [v]:=h.stk.cells
def Oo.at1(h:Oo b G v 1 n l){i:Int}(h0:0≤i)(hi:i<n){K:LV→Prop}(k:∀a,(∀K':LV→Prop,O9 l i.toNat K'→Yq G a K')→K a):fu G 1 v i K:=by
 refine h.stk.ix h0 hi λp gg R m st h1 h2 h3 h4=>k _ λK' hk=>?_
 rw[read1_dptr,h2];obtain⟨w,hw,hk⟩:=hk;refine⟨rfl,w,?_,hk⟩;rw[Kq]at h3 ⊢;rw[h3 _ J];exact hw
def ci:LV→Option Nat
 |.dy p _=>some p
 |.vw p _ _ _=>some p
 |_=>none
def Oo.frame2(h:Oo b G v esz n l)(hf:∀q,ci v=some q→G'[q]?=G[q]?):Oo b G' v esz n l:=by
 rcases h with h|⟨p,k,R,m,st,h1,h2,h3,h4,h5,h6,h7⟩
 ·exact .inl h
 ·refine .inr ⟨p,k,R,m,st,h1,?_,h3,h4,h5,h6,h7⟩;rw[hf p (by rcases h7 with ⟨rfl,_⟩|rfl<;>rfl)];exact h2
def Oo.row(h:Oo b G v esz n l){q:Nat}(hq:ci v=some q):b≤q∧q<G.length∧∃R m k st,G[q]?=some (.dyn R m esz k st):=by
 rcases h with ⟨rfl,_⟩|⟨p,k,R,m,st,h1,h2,h3,h4,h5,h6,⟨rfl,_⟩|rfl⟩
 ·cases hq
 ·cases hq;exact⟨h1,(Hu.1 h2).1,_,_,_,_,h2⟩
 ·cases hq;exact⟨h1,(Hu.1 h2).1,_,_,_,_,h2⟩
def Oo.cut2(h:Oo b G v esz n l){m:Nat}(hm:m≤n){lo:(Nat→Prop)→Prop}{hi:Nat→(Nat→Prop)→Prop}(gg:∀K':Nat→Prop,K' 0→lo K')(gz:∀(d:Nat) (K':Nat→Prop),K' m→hi d K'){K:LV→Prop}
  (k:∀v',Oo b G v' esz m (l.take (m*esz))→ci v'=ci v→K v'):qy G esz v lo hi K:=by
 rcases h with ⟨rfl,rfl,rfl⟩|⟨p,gA,R,m',st,h0,h1,h2,h3,rfl,hd,⟨rfl,rfl⟩|rfl⟩
 ·have:m=0:=J
  subst this;rw[slL_nil];exact gg _ (gz _ _ ⟨rfl,rfl,k _ (.inl ⟨rfl,rfl,N⟩) rfl⟩)
 ·rw[slL_dy,h1];refine⟨rfl,rfl,gg _ (gz _ _ ⟨J,hm,k _ (.inr ⟨p,gA,R,n,st,h0,h1,h2,hm,?_,hd,.inr rfl⟩) rfl⟩)⟩;rw[Mq,Ki (Ii _ hm)]
 ·rw[slL_vw,h1];refine⟨rfl,rfl,gg _ (gz _ _ ⟨J,hm,k _ (.inr ⟨p,gA,R,m',st,h0,h1,h2,J,?_,hd,.inr rfl⟩) rfl⟩)⟩;rw[Mq,Ki (Ii _ hm)]
def Oo.push2(h:Oo b G v esz n l)(hz:0<esz)(hb:b≤G.length)(hn:n≤1000000000)(hx:x.length=esz)(gg:dats x=true){K:LV→M0→Prop}
  (k:∀(v':LV) (G':M0),Oo b G' v' esz (n+1) (l++x)→(∀q,q<G.length→ci v≠some q→G'[q]?=G[q]?)→G.length≤G'.length→(ci v'=ci v∨ci v'=some G.length)→K v' G'):Pf G esz v 1 x K:=by
 have gA:=h.stk.length;have fresh:∀l',l'=l++x→dats l'=true→K (.dy G.length 0) (G++[.dyn l' (n+1) esz 0 0]):=by
  rintro l' rfl hd;refine k _ _ (.dy hb (st:=0) Im (by rw[H8,gA,hx,Iv];omega) hd) (λq hq _=>Ie hq) N (.inr rfl)
 rcases h with ⟨rfl,rfl,rfl⟩|⟨p,gB,R,m,st,h0,h1,h2,h3,rfl,hd,⟨rfl,rfl⟩|rfl⟩
 ·rw[appL_nil];exact fresh _ rfl gg
 ·have hp:p<G.length:=(Hu.1 h1).1;rw[Ij J]at k;rw[appL_dy,h1];refine⟨rfl,⟨rfl,hz⟩,hn,k _ _ (.dy h0 (H0 hp) C5 (sh hd gg)) (λq _ hq=>Hx (λe=>hq (by rw[←e];rfl))) N (.inl rfl)⟩
 ·have hp:p<G.length:=(Hu.1 h1).1;have hm:=Ii esz h3;have ha:(n+1)*esz=n*esz+esz:=by rw[Iv];omega
  rw[appL_vw,h1];refine⟨rfl,⟨rfl,rfl,J⟩,hn,?_⟩;by_cases hf:(n+1)*esz≤R.length
  ·rw[H7 hf];have gz:n+1≤m:=by
    rw[h2]at hf;exact Mo hf hz
   refine⟨k _ _ (.inr ⟨p,gB,_,m,_,h0,H0 hp,?_,gz,?_,zvn hd gg,.inr rfl⟩) (λq _ hq=>Hx (λe=>hq (by rw[←e];rfl))) N (.inl rfl),fresh _ rfl (sh (zg5 _ hd) gg)⟩
   ·unfold Oa;simp;omega
   ·unfold Oa;have e1:(R.take (n*esz)++x).length=(n+1)*esz:=by rw[H8,gA,hx,ha]
    rw[Kt e1]
  ·rw[Hv hf];have gz:n=m:=by
    rw[h2]at hf;have:¬n+1≤m:=λq=>hf (Ii _ q)
    omega
   subst gz;have ht:R.take (n*esz)=R:=Ij J;rw[ht]at k fresh;refine⟨rfl,hz,k _ _ (.dy h0 (H0 hp) C5 (sh hd gg)) (λq _ hq=>Hx (λe=>hq (by rw[←e];rfl))) N (.inl rfl),fresh _ rfl (sh hd gg)⟩
end std
end
section
section deep
variable {P : Program}
def Sa.mkS{f:Nat}{args:List LV}{v0:LV}(hd:v0.dat=true)(h:Qh P (.fn f) args [] λv G=>∀(c:Cx) (a:AV),HSim c G→AR c v a→AR ⟨[],λo=>c.Fz o∨O4 c G o,c.H⟩ v0 a):Sa P f args v0:=by
 refine⟨h.1,hd,λFz H gg gA ha=>?_⟩;obtain⟨m,v1,H',q1,c1,v,G,rfl,q3,q4,q5,q6⟩:=h.2 ⟨[],Fz,H⟩ (.fn f) gg (.empty gA) rfl ha;have gz:∀o,¬O4 ⟨[],Fz,H⟩ [] o:=λo ⟨p,_,_,_,e,_⟩=>Cg
 refine⟨m,v1,_,c1.H,q1,q4.nx,λo ho=>.inl (q4.le.fz o ho).1,λo ho=>⟨ho.elim (q3.fz o) (q3.lt o),?_⟩,λo ho=>q4.frame o ho (gz o),q6 c1 v1 q3 q5⟩;rcases ho with ho|ho
 ·rcases q4.fznew o ho with h|h|h
  ·exact .inl h
  ·exact absurd h (gz o)
  ·exact .inr h
 ·rcases q4.new o ho with h|h
  ·exact absurd h (gz o)
  ·exact .inr h
def row_ok{c:Cx}(E:HSim c F){p k len st:Nat}{l r:List LV}{a:AV}(G:F[p]?=some (.dyn l len g k st))(B:bors F l r)(h:AR c (.dy p k) a):AR ⟨[],λo=>c.Fz o∨O4 c F o,c.H⟩ (.lst r len g) a:=by
 cases h with
 | @dy _ _ X Y _ e Z Q _ =>
  obtain⟨r0,H,z⟩:=E.obj p _ _ _ G e;have A:=Q J;rcases z with ⟨z,C⟩|⟨o,v,I,t,K,L,z,C,R,T,M,U,r8⟩
  ·subst C;have V:l=[]:=In Bn;subst V;simp only[bors]at B;subst B;rw[A,z];exact .lstNil
  ·have D:L.length=len*g:=by rw[←M.length];exact H
   have O:=V7 (i:=0) (n:=len*g) C T R J;rw[Ka,Ij J]at O;rw[A,z];have j:=bors_ok E l r L B M;refine .lst (.inr ⟨p,_,_,_,G,rfl,e,by rw[z];rfl⟩) (λr e=>(U r e).2) (by rw[j.length,D]) O j
def vj{c:Cx}(z:HSim c F){p k len st:Nat}{l r:List LV}{v d:LV}{x:LV}{a:AV}(A:F[p]?=some (.dyn l len g k st))(B:bors F l r)(hv:bor F v d)(C:bor F x x)(h:AR c (.tup [.dy p k,v,x]) a):AR ⟨[],λo=>c.Fz o∨O4 c F o,c.H⟩ (.tup [.lst r len g,d,x]) a:=by
 cases h with
 |tup h=>cases h with
  |cons e j=>cases j with
   |cons D j=>cases j with
    |cons E j =>
     cases j;exact .tup (.cons (row_ok z A B e) (.cons (bor_ok z v d _ hv D) (.cons (bor_ok z x x _ C E) .nil)))
end deep
end
section
def Py(b:Nat)(G:M0)(v:LV)(esz n:Nat)(l:List LV):Prop :=
 dats l=true∧l.length=n*esz∧((v=.nilSl∧n=0∧l=[])∨∃(p k st:Nat),b≤p∧v=.dy p k∧G[p]?=some (.dyn l n esz k st))
section dys
variable {b : Nat} {G G' : M0} {v : LV} {esz n : Nat} {l x : List LV}
def Py.nil:Py b G .nilSl esz 0 []:=⟨rfl,N,.inl ⟨rfl,rfl,rfl⟩⟩
def Py.frame(h:Py b G v esz n l)(hf:∀q,b≤q→q<G.length→G'[q]?=G[q]?):Py b G' v esz n l:=by
 obtain⟨h1,h2,h|⟨p,k,st,a,e,c⟩⟩:=h
 ·exact⟨h1,h2,.inl h⟩
 ·exact⟨h1,h2,.inr ⟨p,k,st,a,e,by rw[hf p a (Hu.1 c).1];exact c⟩⟩
def Py.set_lt(h:Py b G v esz n l){q:Nat}{ob:LObj}(hq:q<b):Py b (G.set q ob) v esz n l :=
 h.frame λr hr _=>Hx J
def Py.push_end(h:Py b G v esz n l){ob:List LObj}:Py b (G++ob) v esz n l :=
 h.frame λ_ _ hr=>Ie hr
def Py.cells(h:Py b G v esz n l):v.cells=some [v]:=by
 obtain⟨_,_,⟨rfl,_⟩|⟨p,k,st,_,rfl,_⟩⟩:=h<;>rfl
def Py.push{c:Nat}(h:Py b G v esz n l)(hz:0<esz)(hb:b≤G.length)(hn:n≤1000000000)(hx:x.length=c*esz)(gg:dats x=true){K:LV→M0→Prop}
  (k:∀(v':LV) (G':M0),Py b G' v' esz (n+c) (l++x)→(∀q,q<b→G'[q]?=G[q]?)→G.length≤G'.length→K v' G'):Pf G esz v c x K:=by
 obtain⟨h1,h2,h⟩:=h;have hl:(l++x).length=(n+c)*esz:=by rw[H8,h2,hx,Iv]
 rcases h with ⟨rfl,rfl,rfl⟩|⟨p,gz,st,a,rfl,e⟩
 ·rw[appL_nil];refine k _ _ ⟨by simpa using gg,hl,.inr ⟨G.length,0,0,hb,rfl,?_⟩⟩ (λq hq=>Ie J) N;rw[Im];simp
 ·have hp:=(Hu.1 e).1;rw[appL_dy,e];exact⟨rfl,⟨rfl,hz⟩,hn,k _ _ ⟨dats_app h1 gg,hl,.inr ⟨p,gz+1,st+1,a,rfl,H0 hp⟩⟩ (λq hq=>Hx J) N⟩
def Py.bor(h:Py b G v esz n l):Go.Sv.bor G v (.lst l n esz):=by
 obtain⟨h1,h2,⟨rfl,rfl,rfl⟩|⟨p,k,st,a,rfl,e⟩⟩:=h
 ·exact .inr ⟨_,rfl⟩
 ·exact⟨l,n,esz,st,rfl,e,h1⟩
end dys
end
section
section dys
variable {b : Nat} {G G' : M0} {v : LV} {esz n : Nat} {l x : List LV}
def Py.push2{c:Nat}(h:Py b G v esz n l)(hz:0<esz)(hb:b≤G.length)(hn:n≤1000000000)(hx:x.length=c*esz)(j:dats x=true){K:LV→M0→Prop}
  (k:∀(v':LV) (G':M0),Py b G' v' esz (n+c) (l++x)→(∀q,q<G.length→(∀gz,v≠.dy q gz)→G'[q]?=G[q]?)→G.length≤G'.length→(∀q gz,v'=.dy q gz→q=G.length∨∃j',v=.dy q j')→(∀q gz,v'=.dy q gz→q<G'.length)→K v' G'):Pf G esz v c x K:=by
 obtain⟨h1,h2,h⟩:=h;have hl:(l++x).length=(n+c)*esz:=by rw[H8,h2,hx,Iv]
 rcases h with ⟨rfl,rfl,rfl⟩|⟨p,gg,st,a,rfl,e⟩
 ·rw[appL_nil];refine k _ _ ⟨Bm,hl,.inr ⟨G.length,0,0,hb,rfl,?_⟩⟩ (λq hq _=>Ie J) N (λq gz e=>by cases e;exact .inl rfl) (λq gz e=>by cases e;simp);rw[Im];simp
 ·have hp:=(Hu.1 e).1;rw[appL_dy,e];exact⟨rfl,⟨rfl,hz⟩,hn,k _ _ ⟨dats_app h1 j,hl,.inr ⟨p,gg+1,st+1,a,rfl,H0 hp⟩⟩ (λq hq hv=>Hx (λq'=>hv gg (by rw[q']))) N (λq gz e=>by cases e;exact .inr ⟨_,rfl⟩) (λq gz e=>by cases e;simpa using hp)⟩
def Py.keep(h:Py b G v esz n l)(hf:∀q gg,v=.dy q gg→G'[q]?=G[q]?):Py b G' v esz n l:=by
 obtain⟨j,h2,h|⟨p,k,st,a,e,c⟩⟩:=h
 ·exact⟨j,h2,.inl h⟩
 ·exact⟨j,h2,.inr ⟨p,k,st,a,e,by rw[hf p k e];exact c⟩⟩
def Py.lt(h:Py b G v esz n l){q:Nat}(e:v=.dy q j):b≤q∧q<G.length:=by
 obtain⟨_,_,⟨h,_⟩|⟨p,k,st,a,e2,c⟩⟩:=h
 ·rw[h]at e;cases e
 ·rw[e2]at e;cases e;exact⟨a,(Hu.1 c).1⟩
end dys
end
section
def bc:Nat→LC→LC×LC
 |0,.seq a b=>(a,b)
 |n+1,.seq a b=>(.seq a (bc n b).1,(bc n b).2)
 |_,s=>(s,.skip)
def jy:Nat→LC→Bool
 |0,.seq _ _=>true
 |n+1,.seq _ b=>jy n b
 |_,_=>false
section bc
variable {P : Program} {f n : Nat} {ro : Option Nat}
def lh{E:Qd}{Φ:M2→List Nat→M0→Prop}:∀(k:Nat) (s:LC) {B:M2} {C:List Nat} {D:M0},jy k s=true →
  (F:∀G:M2→List Nat→M0→Prop,(∀(g:M2) (j:List Nat) (z:M0),Φ g j z→G g j z)→wp P f n ro (bc k s).1 B C D (zr G E)) →
  (H:∀(g:M2) (j:List Nat) (z:M0),Φ g j z→W P f n (bc k s).2 ro g j z E)→W P f n s ro B C D E:=by
 suffices K:∀(k:Nat) (s:LC) {B:M2} {C:List Nat} {D:M0},jy k s=true→wp P f n ro (bc k s).1 B C D (zr (λg j z=>W P f n (bc k s).2 ro g j z E) E)→W P f n s ro B C D E from
  λk s B C D A F H=>K k s A (F _ H)
 intro k
 induction k with
 |zero =>
  intro s B C D A h;cases s with
  |seq a b =>
   refine ip ((Sj a h).post λx g j z q=>?_);cases x<;>exact q
  |_=>simp[jy]at A
 |succ k I =>
  intro s B C D A h;cases s with
  |seq a b =>
   simp only[bc]at h;rw[wp_seq]at h;refine ip ((Sj a h).post λx g j z q=>?_);cases x with
   |normal=>exact I b A q
   |_=>exact q
  |_=>simp[jy]at A
def W_fz{s:LC}{G:M2}{gg:Qd}{t p k len esz st:Nat}{l:List LV}(H:F[p]?=some (.dyn l len esz k st))(I:lk G t=.dy p k)(h:W P f n s ro ((t,.lst l len esz)::G) vg (F.set p (.dead (st+1))) gg):W P f n s ro G vg F gg:=by
 intro g c gz K j L M B C O Q;obtain⟨D,E,R,z,u4,T,U,u6⟩:=B.froze H;have V:Oe D ((t,.lst l len esz)::G) gz:=λx=>by
  by_cases e:x=t
  ·subst e;have:=C x;rw[I]at this;simpa using U _ this
  ·have:=(C x).mono z;simpa [e] using this
 obtain⟨m,x,X,A,Y,Z,D',G',q1,q2,q3,q4,q5,q6⟩:=h g D gz K j L M E V (O.mono z) (Q.mono z);exact⟨m,x,X,A,Y,Z,D',G',T ▸ q1,q2,R.trans B E q3,q4,q5,q6⟩
def jh{s:LC}{j:List RRes}(z:Na P f=some ⟨n,s.r,j⟩)(g:s.ok=true)(A:E.length≤n)(h:W P f n s none (fg E 0) [] F (gt j X)):Qh P (.fn f) E F X :=
 zmb z g A (h.post λx C D B k=>by
  cases x with
  |normal=>exact⟨trivial,k⟩
  |exit i=>exact k.elim
  |ret=>exact⟨trivial,k⟩)
end bc
end
def Vp{n:Nat}(h:n<18446744073709551616):(iU (n:Int)).toNat=n:=by
 rw[mr,UInt64.ofInt,Jc];omega
def val:List UInt64→Nat
 |[]=>0
 |x::l=>x.toNat+18446744073709551616*val l
def z9e(n:Nat):2^(64*(n+1))=18446744073709551616*2^(64*n):=by
 rw[Ln,K7,Jq]
def val_append:∀a b:List UInt64,val (a++b)=val a+2^(64*a.length)*val b
 |[],b=>B9
 |x::a,b=>by
  rw[I4,val,val,val_append a b,Ig,z9e,Ln,Kd];omega
def val_lt:∀a:List UInt64,val a<2^(64*a.length)
 |[]=>B9
 |x::a=>by
  have g:=x.toNat_lt;have j:=val_lt a;rw[val,Ig,z9e];omega
def zm9(x:UInt64):val [x]=x.toNat:=B9
def ztq(a:List UInt64)(x:UInt64):val (a++[x])=val a+2^(64*a.length)*x.toNat:=by
 rw[val_append,zm9]
def val_rep0:∀n,val (List.replicate n 0)=0
 |0=>rfl
 |n+1=>by rw[Ku,val,val_rep0 n];rfl
def zdf{a:List UInt64}{n:Nat}(h:n<a.length):a.take (n+1)=a.take n++[a.getD n 0]:=by
 rw[Jm h];simp[h]
def za3{a:List UInt64}{n:Nat}(h:n<a.length):val (a.take (n+1))=val (a.take n)+2^(64*n)*(a.getD n 0).toNat:=by
 rw[zdf h,ztq,Kc,Ki J]
def Wy:Nat→Nat→List UInt64
 |0,_=>[]
 |f+1,n=>if n=0 then [] else UInt64.ofNat n::Wy f (n/18446744073709551616)
def Qa(n:Nat):List UInt64:=Wy n n
def toLf_more:∀(f j n:Nat),n≤f→n≤j→Wy f n=Wy j n
 |0,0,_,_,_=>rfl
 |0,j+1,n,h,_=>by
  have:n=0:=J
  subst this;simp[Wy]
 |f+1,0,n,_,h=>by
  have:n=0:=J
  subst this;simp[Wy]
 |f+1,j+1,n,z,A=>by
  simp only[Wy];by_cases g:n=0
  ·simp[g]
  ·rw[Hv g,Hv g,toLf_more f j (n/18446744073709551616) J J]
def toL_zero:Qa 0=[]:=rfl
def zjj{n:Nat}(h:n≠0):Qa n=UInt64.ofNat n::Qa (n/18446744073709551616):=by
 unfold Qa;cases n with
 |zero=>exact absurd rfl h
 |succ n =>
  rw[Wy,Hv h,toLf_more n ((n+1)/18446744073709551616) _ J (H9 _)]
def zbw(n:Nat):val (Qa n)=n:=by
 induction n using Nat.strongRecOn with
 |_ n g =>
  by_cases h:n=0
  ·subst h;rfl
  ·rw[zjj h,val,g _ J,Jc];omega
def Trm(l:List UInt64):Prop:=l=[]∨l.getLast?.getD 0≠0
def zvp{x:UInt64}{l:List UInt64}(h:Trm (x::l)):Trm l:=by
 cases l with
 |nil=>exact .inl rfl
 |cons y l =>
  rcases h with h|h
  ·cases h
  ·exact .inr (by simpa [List.getLast?_cons_cons] using h)
def val_pos_of_Trm:∀{l:List UInt64},l≠[]→Trm l→val l≠0
 |[],h,_=>absurd rfl h
 |[x],_,h=>by
  rcases h with h|h
  ·cases h
  ·simp at h;rw[zm9];intro e;exact h (I8.1 e)
 |x::y::l,_,h=>by
  have:=val_pos_of_Trm (l:=y::l) N (zvp h);rw[val];omega
def toL_val:∀{l:List UInt64},Trm l→Qa (val l)=l
 |[],_=>rfl
 |x::l,h=>by
  have g:=val_pos_of_Trm N h;rw[zjj g];have A:=x.toNat_lt;have j:UInt64.ofNat (val (x::l))=x:=by
   apply I8.1;rw[Jc,val];omega
  have z:val (x::l)/18446744073709551616=val l:=by rw[val];omega
  rw[j,z,toL_val (zvp h)]
def ns{l:List UInt64}{x:UInt64}(h:x≠0):Trm (l++[x]):=.inr At
def ut(n:Nat):Trm (Qa n):=by
 induction n using Nat.strongRecOn with
 |_ n j =>
  by_cases h:n=0
  ·subst h;exact .inl rfl
  ·rw[zjj h];have:=j (n/18446744073709551616) J;by_cases g:n/18446744073709551616=0
   ·rw[g,toL_zero];refine .inr ?_;simp;intro e;have:=congrArg UInt64.toNat e;rw[Jc]at this;simp at this;omega
   ·rw[zjj g]at this ⊢;rcases this with e|e
    ·cases e
    ·exact .inr (by simpa [List.getLast?_cons_cons] using e)
def z33{n k:Nat}(h:n<2^(64*k)):(Qa n).length≤k:=by
 induction k generalizing n with
 | zero => have : n = 0 := by simpa using h
           subst this;simp[toL_zero]
 |succ k j =>
  by_cases g:n=0
  ·subst g;simp[toL_zero]
  ·rw[zjj g,Ig];have:=j (n:=n/18446744073709551616) (by rw[z9e]at h;exact Nat.div_lt_of_lt_mul h);omega
def zd2(a:List UInt64):(Qa (val a)).length≤a.length:=z33 (val_lt a)
def zx5{n:Nat}:Qa n=[]↔n=0:=⟨λh=>by rw[←zbw n,h];rfl,λh=>by rw[h];rfl⟩
def val_inj_length:∀{a b:List UInt64},a.length=b.length→val a=val b→a=b
 |[],[],_,_=>rfl
 |[],_::_,h,_=>Bq
 |_::_,[],h,_=>Bq
 |x::a,y::b,h,e=>by
  have z:=x.toNat_lt;have A:=y.toNat_lt;rw[val,val]at e;have g:x.toNat=y.toNat:=J
  have j:val a=val b:=J
  rw[I8.1 g,val_inj_length At j]
def RU(l:List UInt64):LObj:=.dyn (l.map .u) l.length 1 0 0
def Se(g:M0)(v:LV)(l:List UInt64):Prop:=(v=.nilSl∧l=[])∨∃p k st,v=.dy p k∧g[p]?=some (.dyn (l.map .u) l.length 1 k st)
def Se.sel{G:M0}{v:LV}{l:List UInt64}(h:Se G v l):Wj G [v] [RU l]:=by
 rcases h with ⟨rfl,rfl⟩|⟨p,k,st,rfl,hg⟩
 ·simp[RU]
 ·simp[RU,hg]
def RU_ok{l:List UInt64}:∀(z:Nat) (g:LObj),[RU l][z]?=some g→∃c len j,g=.dyn c len j 0 0∧c.all LV.scal=true:=by
 intro z g e;cases z with
 |zero=>simp at e;subst e;exact⟨_,_,_,rfl,N⟩
 |succ z=>simp at e
def RU_ok2{l r:List UInt64}:∀(z:Nat) (g:LObj),[RU l,RU r][z]?=some g→∃c len j,g=.dyn c len j 0 0∧c.all LV.scal=true:=by
 intro z g e
 match z with
 |0=>simp at e;subst e;exact⟨_,_,_,rfl,N⟩
 |1=>simp at e;subst e;exact⟨_,_,_,rfl,N⟩
 |z+2=>simp at e
def Oj.row{P:Program}{f:Nat}{args:List LV}{l:List UInt64}(h:Qh P (.fn f) args [] λv G=>Se G v l):Oj P f args (.dy 0 0) [RU l] :=
 Oj.mk rfl (h.mono λv G e=>⟨[v],N,rfl,e.sel⟩) RU_ok
def Oj.rowE{P:Program}{f:Nat}{args:List LV}{l:List UInt64}{e:Int}(h:Qh P (.fn f) args [] λv G=>∃w,v=.tup [w,.i e]∧Se G w l):Oj P f args (.tup [.dy 0 0,.i e]) [RU l] :=
 Oj.mk rfl (h.mono λv G ⟨w,e1,e2⟩=>⟨[w],by simp[e1],rfl,e2.sel⟩) RU_ok
def Oj.row2E{P:Program}{f:Nat}{args:List LV}{l r:List UInt64}{e:Int}(h:Qh P (.fn f) args [] λv G=>∃w w',v=.tup [w,w',.i e]∧Se G w l∧Se G w' r∧∀p k,w=.dy p k→notP p w'):Oj P f args (.tup [.dy 0 0,.dy 1 0,.i e]) [RU l,RU r] :=
 Oj.mk rfl (h.mono λv G ⟨w,w',e1,e2,e3,e4⟩=>⟨[w,w'],by simp[e1],rfl,by
  have h3:=e3.sel;rcases e2 with ⟨rfl,rfl⟩|⟨p,k,st,rfl,hg⟩
  ·simp only[Wj,RU]at h3 ⊢;exact⟨N,N,N,N,h3⟩
  ·have h4:=e4 p k rfl;simp only[Wj,RU,List.mem_singleton,forall_eq]at h3 ⊢;exact⟨N,N,⟨st,hg⟩,N,h4,h3⟩⟩) RU_ok2
def Qc(a b:UInt64):Bool→UInt64×Bool
 |false=>(a+b,decide (a+b<a))
 |true=>(a+b+1,decide (a+b<a) || decide (a+b+1=0))
def subC(a b:UInt64):Bool→UInt64×Bool
 |false=>(a-b,decide (a<b))
 |true=>(a-b-1,decide (a<b) || decide (a-b=0))
def z7c(x:UInt64):x=0↔x.toNat=0:=⟨λh=>by rw[h];rfl,λh=>I8.1 (by rw[h];rfl)⟩
def zq7(b:Bool):b.toNat=if b=true then 1 else 0:=by cases b<;>rfl
def zhl(a b:UInt64)(c:Bool):(Qc a b c).1.toNat+18446744073709551616*(Qc a b c).2.toNat=a.toNat+b.toNat+c.toNat:=by
 have g:=a.toNat_lt;have j:=b.toNat_lt;cases c with
 |false =>
  simp only[Qc,zq7,Ib,Jv,Jh];split<;>simp<;>omega
 |true =>
  simp only[Qc,zq7,Jb,Ib,Jv,z7c,Jh,UInt64.toNat_one];split<;>simp<;>omega
def zcp(a b:UInt64)(c:Bool):(subC a b c).1.toNat+b.toNat+c.toNat=a.toNat+18446744073709551616*(subC a b c).2.toNat:=by
 have j:=a.toNat_lt;have z:=b.toNat_lt;cases c with
 |false =>
  have e:(subC a b false).2=decide (a.toNat<b.toNat):=by simp[subC,Jv]
  rw[e];simp only[subC,Lr];by_cases h:a.toNat<b.toNat<;>simp[h]<;>omega
 |true =>
  have e:(subC a b true).2=decide (a.toNat≤b.toNat):=by
   simp only[subC,Jv,z7c,Lr];by_cases h:a.toNat≤b.toNat
   ·by_cases g:a.toNat<b.toNat
    ·simp[h,g]
    ·have:a.toNat=b.toNat:=J
     simp[this];omega
   ·simp[h];omega
  rw[e];simp only[subC,Lr,UInt64.toNat_one];by_cases h:a.toNat≤b.toNat<;>simp[h]<;>omega
def y9{p:Nat}{g:LObj}(h:F[p]?=some g)(x:M0):(F++x)[p]?=some g:=by
 rw[Ie (Hu.1 h).1];exact h
def gset{p:Nat}{j:LObj}(h:F[p]?=some j)(g:LObj):(F.set p g)[p]?=some g:=H0 (Hu.1 h).1
def tx{p q:Nat}(h:q≠p)(g:LObj):(F.set p g)[q]?=F[q]?:=Hx (Ne.symm h)
def Se.app{G:M0}{v:LV}{l:List UInt64}(h:Se G v l)(x:M0):Se (G++x) v l:=by
 rcases h with h|⟨p,k,st,h1,h2⟩
 ·exact .inl h
 ·exact .inr ⟨p,k,st,h1,y9 h2 x⟩
def flat_u(l:List UInt64):l.flatMap (λx=>[LV.u x])=l.map .u:=by
 induction l with
 |nil=>rfl
 |cons x l g=>simp[g]
def zvi{v:LV}{l xs:List UInt64}{n:Nat}(h:Se F v l)(I:n=xs.length)(g:E=xs.map .u)(K:l.length≤1000000000)
  (k:∀C D,Se D C (l++xs)→(∀(q:Nat) (A:LObj),F[q]?=some A→(∀k,v≠.dy q k)→D[q]?=some A∧∀k,C≠.dy q k)→X C D):Pf F 1 v n E X:=by
 subst I g;rcases h with ⟨rfl,rfl⟩|⟨p,j,st,rfl,H⟩
 ·refine k _ _ (.inr ⟨F.length,0,0,rfl,N⟩) (λq A B _=>⟨y9 B _,λk e=>?_⟩);cases e;have:=(Hu.1 B).1;omega
 ·simp only[Pf,H];refine⟨N,⟨N,N⟩,Dy,k _ _ (.inr ⟨p,j+1,st+1,rfl,by rw[gset H];simp⟩) (λq A B G=>?_)⟩;have z:q≠p:=λe=>G j F1
  exact⟨by rw[tx z];exact B,λk e=>by cases e;exact z rfl⟩
def Se.bor{G:M0}{v:LV}{l:List UInt64}(h:Se G v l):bor G v (LU l):=by
 rcases h with ⟨rfl,rfl⟩|⟨p,k,st,rfl,hg⟩
 ·exact .inr ⟨1,N⟩
 ·exact⟨_,_,_,st,rfl,hg,N⟩
def Ws{v d:LV}(h:Go.Sv.bor F v d):bors F [v] [d]:=⟨d,[],rfl,h,rfl⟩
def oi{v d g:LV}(h:Go.Sv.bor F v d)(j:Go.Sv.bor F R g):bors F [v,R] [d,g]:=⟨d,_,rfl,h,Ws j⟩
def Se.new{G:M0}{l:List UInt64}:Se (G++[RU l]) (.dy G.length 0) l:=.inr ⟨G.length,0,0,rfl,by simp[RU]⟩
def zbr{f:Nat}{l:List UInt64}(g:Oj C f v8 (.dy 0 0) [RU l])(j:bors F E v8)(k:X (.dy F.length 0) (F++[RU l])):Qh C (.fn f) E F X :=
 zt7 g j (by simpa using k)
def z2w{a:List UInt64}{n:Nat}(h:a.length≤n):val (a.take n)=val a:=by rw[Ij h]
def z7t{a:List UInt64}{n:Nat}(h:a.length≤n):val a<2^(64*n):=Iz (val_lt a) (Ll J J)
def Zt(m:Nat):2^(64*(m+1))=2^(64*m)*18446744073709551616:=by
 rw[Nat.pow_mul,Nat.pow_mul,I0]
def z2c(a:List UInt64)(n:Nat):val (a.take (n+1))=val (a.take n)+2^(64*n)*(a.getD n 0).toNat:=by
 by_cases h:n<a.length
 ·exact za3 h
 ·rw[Ij J,Ij J];have:a.getD n 0=0:=by simp;rw[Kz J];rfl
  rw[this];simp
def Z2(x:UInt64):val [x]=x.toNat:=B9
def val_getD:∀{a b:List UInt64},val a=val b→∀i,a.getD i 0=b.getD i 0
 |[],[],_,_=>rfl
 |[],y::b,h,i=>by
  simp only[val]at h;have j:y=0:=(z7c y).2 J;have z:val []=val b:=by simp only[val];omega
  have g:=val_getD z;cases i with
  |zero=>simp[j]
  |succ i=>simpa using g i
 |x::a,[],h,i=>by
  simp only[val]at h;have A:x=0:=(z7c x).2 J;have B:val a=val []:=by simp only[val];omega
  have g:=val_getD B;cases i with
  |zero=>simp[A]
  |succ i=>simpa using g i
 |x::a,y::b,h,i=>by
  simp only[val]at h;have C:=x.toNat_lt;have D:=y.toNat_lt;have e:x.toNat=y.toNat:=J
  have g:=val_getD (a:=a) (b:=b) J;cases i with
  |zero=>simpa using I8.1 e
  |succ i=>simpa using g i
def jv{x y:Nat}{c:Bool}(z:2≤A)(hv:x+j*A*c.toNat=y+g)(B:y<j)(C:g<j):x=y+g:=by
 cases c
 ·simpa using hv
 ·have:j*2≤j*A:=Mi _ z;simp at hv;omega
def uy{a b:List UInt64}{c:Bool}{n m:Nat}(h:n=m+1)(g:a.length≤m)(j:b.length≤m)(hv:val vZ+2^(64*n)*c.toNat=val a+val b):val vZ=val a+val b:=by
 subst h;rw[Zt]at hv;exact jv Ac hv (z7t g) (z7t j)
def addn{o s x y c:Nat}(hv:o+A*c=g+j)(h:s+D*T=x+y+c):o+A*s+A*D*T=g+A*x+(j+A*y):=by
 have:A*(s+D*T)=A*(x+y+c):=E8
 simp only[Ln,←Kd]at this;omega
def nw{a b:List UInt64}{c:Bool}{i:Nat}(g:vZ.length=i)(hv:val vZ+2^(64*i)*c.toNat=val (a.take i)+val (b.take i)) :
  val (vZ++[(Qc (a.getD i 0) (b.getD i 0) c).1])+2^(64*(i+1))*(Qc (a.getD i 0) (b.getD i 0) c).2.toNat=val (a.take (i+1))+val (b.take (i+1)):=by
 rw[z2c,z2c,Zt,val_append,g,Z2];exact addn hv (zhl _ _ _)
def opened:(∀a b,Ur a b=a+b)∧(∀a b,ap a b=a-b)∧(∀a b,Tc a b=a*b):=⟨Uz,Yx,zjz⟩
def Sd(a:List UInt64)(n:Int):Int:=if n<0∨512<n then 2 else if n<(Qa (val a)).length then 3 else 0
def Tb(a:List UInt64)(n:Int):List UInt64:=if Sd a n=0 then Qa (val a)++List.replicate (n.toNat-(Qa (val a)).length) 0 else []
def zrt{a:List UInt64}{n:Int}(h:Sd a n=0):((Tb a n).length:Int)=n∧0≤n∧n≤512:=by
 unfold Tb;rw[H7 h];unfold Sd at h;by_cases g:n<0∨512<n
 ·rw[H7 g]at h;simp at h
 ·rw[Hv g]at h;by_cases j:n<(Qa (val a)).length
  ·rw[H7 j]at h;simp at h
  ·simp;omega
def repU(n:Nat):O6 [LV.u 0] n=(List.replicate n (0:UInt64)).map .u:=by
 induction n with
 |zero=>rfl
 |succ n g=>simp[O6,g,Ku]
def LN(l:List (List UInt64)):LV:=.lst (l.map LU) l.length 1
attribute [simp] LN
def X0(l:List (List UInt64))(i:Nat)(g:LV→Prop):O9 (l.map LU) i g=(i<l.length∧g (LU (l.getD i []))):=zv5 _ _ _ _ _
def zys(l:List (List UInt64)):dats (l.map LU)=true:=zcg (λx=>N) l
attribute [simp] X0 zys
attribute [simp ↓] X0
def df(a b:UInt64):UInt64:=UInt64.ofNat (a.toNat*b.toNat/18446744073709551616)
def zz2(a b:UInt64):(df a b).toNat*18446744073709551616+(a*b).toNat=a.toNat*b.toNat:=by
 have g:=a.toNat_lt;have j:=b.toNat_lt;have z:a.toNat*b.toNat≤18446744073709551615*18446744073709551615:=Jw J J;rw[df,Jc,L9];omega
def w8(x:UInt64):(x &&& 4294967295).toNat=x.toNat%4294967296:=by
 rw[UInt64.toNat_and];exact Nat.and_two_pow_sub_one_eq_mod x.toNat 32
def mul_hi(a b:UInt64) :
  Ur (Ur (Tc (Q2 a 32) (Q2 b 32)) (Q2 (Ur (Tc (Q2 a 32) (Rt b 4294967295)) (Q2 (Tc (Rt a 4294967295) (Rt b 4294967295)) 32)) 32)) (Q2 (Ur (Tc (Rt a 4294967295) (Q2 b 32)) (Rt (Ur (Tc (Q2 a 32) (Rt b 4294967295)) (Q2 (Tc (Rt a 4294967295) (Rt b 4294967295)) 32)) 4294967295)) 32)=df a b:=by
 simp only[Uz,zjz,eh,et];apply I8.1;have B:=a.toNat_lt;have C:=b.toNat_lt;simp only[df,Jh,L9,Jc,w8,Nat.reducePow];generalize a.toNat=x at *;generalize b.toNat=y at *;have g:x=x/4294967296*4294967296+x%4294967296:=J
 have j:y=y/4294967296*4294967296+y%4294967296:=J
 have D:x/4294967296<4294967296:=J
 have E:x%4294967296<4294967296:=J
 have F:y/4294967296<4294967296:=J
 have G:y%4294967296<4294967296:=J
 have m1:x/4294967296%18446744073709551616=x/4294967296:=J
 have z:y/4294967296%18446744073709551616=y/4294967296:=J
 rw[m1,z];have A:x*y=(x/4294967296*(y/4294967296))*18446744073709551616+(x/4294967296*(y%4294967296))*4294967296+(x%4294967296*(y/4294967296))*4294967296+x%4294967296*(y%4294967296):=by
  generalize x/4294967296=p at *;generalize x%4294967296=q at *;generalize y/4294967296=r at *;generalize y%4294967296=s at *;subst g j
  grind
 rw[A];generalize x/4294967296=p at *;generalize x%4294967296=q at *;generalize y/4294967296=r at *;generalize y%4294967296=s at *;have H:p*r≤4294967295*4294967295:=Jw J J;have I:p*s≤4294967295*4294967295:=Jw J J;have K:q*r≤4294967295*4294967295:=Jw J J;have L:q*s≤4294967295*4294967295:=Jw J J;generalize p*r=M at *;generalize p*s=O at *;generalize q*r=P at *;generalize q*s=Q at *;clear g j m1 z D E F G B C A;omega
def Pp(n:Nat):Nat:=if n=0 then 0 else n.log2+1
def blen_zero:Pp 0=0:=rfl
def zpg{n:Nat}(h:n≠0):Pp n=Pp (n/2)+1:=by
 unfold Pp;rw[Hv h];by_cases g:n/2=0
 ·have:n=1:=J
  subst this;decide
 ·rw[Hv g,Nat.log2_def n,H7 J]
def th(n:Nat):n<2^Pp n:=by
 unfold Pp;by_cases h:n=0
 ·subst h;decide
 ·rw[Hv h];exact (Nat.log2_lt h).1 (Jf _)
def ztm{n k:Nat}(h:n<2^k):Pp n≤k:=by
 unfold Pp;by_cases g:n=0
 ·subst g;simp
 ·rw[Hv g];exact (Nat.log2_lt g).2 h
def zlk{n:Nat}:∀s:Nat,n/2^s≠0→Pp n=s+Pp (n/2^s)
 |0,_=>N
 |s+1,h=>by
  have j:n/2^s/2≠0:=by rw[K8,←I0];exact h
  have g:n/2^s≠0:=λe=>j F1
  rw[zlk s g,zpg g,K8,show 2^s*2=2^(s+1) from rfl];omega
def af(v:UInt64)(s:Nat):(Q2 v s).toNat=v.toNat/2^s:=by
 have h:=v.toNat_lt;have:v.toNat/2^s≤v.toNat:=Mh _ _;rw[eh,Jc,Iy J]
def wo(v:UInt64):(Rt v 1).toNat=v.toNat%2:=by
 rw[et,UInt64.toNat_and];exact Nat.and_two_pow_sub_one_eq_mod v.toNat 1
def bit_u'(v:UInt64)(s:Nat):Rt (Q2 v s) 1=if v.toNat.testBit s=true then 1 else 0:=by
 apply I8.1;rw[wo,af,Ly];by_cases h:v.toNat/2^s%2=1
 ·simp[h]
 ·have:v.toNat/2^s%2=0:=J
  simp[this]
def yy{i:Nat}(h:i<64):(Qx 1 i).toNat=2^i:=by
 rw[ln,Jc];have:2^i<2^64:=Nat.pow_lt_pow_right J h;simp;omega
def limb_at:∀(a:List UInt64) (i:Nat),(a.getD i 0).toNat=val a/2^(64*i)%18446744073709551616
 |[],i=>B9
 |x::a,0=>by
  have:=x.toNat_lt;simp[val]
 |x::a,i+1=>by
  have h:=x.toNat_lt;have g:=limb_at a i;rw[z9e,←K8,val,(J:(x.toNat+18446744073709551616*val a)/18446744073709551616=val a),←g];simp
def bit_at(a:List UInt64)(i:Nat):(a.getD (i/64) 0).toNat.testBit (i%64)=(val a).testBit i:=by
 rw[limb_at,show (18446744073709551616:Nat)=2^64 from rfl,Nat.testBit_mod_two_pow,Nat.testBit_div_two_pow];have:i%64+64*(i/64)=i:=J
 simp[this];intro;omega
def val_set:∀(a:List UInt64) (i:Nat) (x:UInt64),i<a.length→val (a.set i x)+2^(64*i)*(a.getD i 0).toNat=val a+2^(64*i)*x.toNat
 |[],i,x,h=>Bq
 |y::a,0,x,_=>by simp[val];omega
 |y::a,i+1,x,h=>by
  have g:=val_set a i x At;rw[z9e];simp only[List.set_cons_succ,val,List.getD_cons_succ,Kd];omega
def layU(a:List UInt64)(i:Nat)(x:UInt64)(h:i<a.length):Oa (a.map .u) i [.u x]=(a.set i x).map .u:=by
 unfold Oa;rw[Jk,H7 h];simp
def mg{l:List UInt64}{n:Nat}(h:Trm l)(g:l.length=n+1):Pp (val l)=64*n+Pp (l.getD n 0).toNat:=by
 have z:val l=val (l.take n)+2^(64*n)*(l.getD n 0).toNat:=by rw[←za3 J,Ij J]
 have A:=z7t (a:=l.take n) (n:=n) Ab;have j:val l/2^(64*n)=(l.getD n 0).toNat:=by
  rw[z,Nat.add_mul_div_left _ _ (K0 _),K6 A,Ix]
 have B:(l.getD n 0).toNat≠0:=by
  rcases h with h|h
  ·rw[h]at g;simp at g
  ·intro e;refine h ?_;have:l.getLast?.getD 0=l.getD n 0:=by
    rw[List.getLast?_eq_getElem?,g];simp
   rw[this];exact (z7c _).2 e
 rw[zlk (64*n) (by rw[j];exact B),j]
def Qy(a b:Nat):Int:=if a<b then -1 else if b<a then 1 else 0
def zy9{v w k x y:Nat}(hv:v<k)(hw:w<k):Qy (v+k*x) (w+k*y)=if x<y then -1 else if y<x then 1 else Qy v w:=by
 have e:∀B,k*(B+1)=k*B+k:=λB=>by rw[Ln,Kq]
 by_cases g:x<y
 ·have:=Mi k (show x+1≤y from g);rw[e]at this;rw[H7 g,Qy,H7 J]
 ·rw[Hv g];by_cases j:y<x
  ·have:=Mi k (show y+1≤x from j);rw[e]at this;rw[H7 j,Qy,Hv J,H7 J]
  ·rw[Hv j];have:x=y:=J
   subst this;unfold Qy;by_cases z:v<w
   ·rw[H7 z,H7 J]
   ·rw[Hv z,Hv J];by_cases A:w<v
    ·rw[H7 A,H7 J]
    ·rw[Hv A,Hv J]
def zj1(a:List UInt64)(i:Nat):val (a.take i)<2^(64*i):=z7t Ab
def ik(a b:List UInt64)(i:Nat):Qy (val (a.take (i+1))) (val (b.take (i+1)))=if a.getD i 0<b.getD i 0 then -1 else if b.getD i 0<a.getD i 0 then 1 else Qy (val (a.take i)) (val (b.take i)):=by
 rw[z2c,z2c,zy9 (zj1 a i) (zj1 b i)];simp only[Jv]
def ztl{a b:Nat}:Qy a b<0↔a<b:=by
 unfold Qy;split
 ·simp;assumption
 ·split<;>simp<;>omega
def zze{a b:Nat}:Qy a b=0↔a=b:=by
 unfold Qy;split
 ·simp;omega
 ·split<;>simp<;>omega
def zjo{a b:Nat}:0≤Qy a b↔b≤a:=by
 have:=@ztl a b;omega
def py{a b:List UInt64}{i:Nat}{c:Bool}(g:vZ.length=i)(hv:val vZ+val (b.take i)=val (a.take i)+2^(64*i)*c.toNat) :
  val (vZ++[(subC (a.getD i 0) (b.getD i 0) c).1])+val (b.take (i+1))=val (a.take (i+1))+2^(64*(i+1))*(subC (a.getD i 0) (b.getD i 0) c).2.toNat:=by
 have j:=zcp (a.getD i 0) (b.getD i 0) c;rw[ztq,g,z2c,z2c,Zt];generalize (subC (a.getD i 0) (b.getD i 0) c).1.toNat=s at *;generalize (subC (a.getD i 0) (b.getD i 0) c).2.toNat=d at *;generalize (a.getD i 0).toNat=x at *;generalize (b.getD i 0).toNat=y at *;generalize 2^(64*i)=k at *;have e:k*(s+y+c.toNat)=k*(x+18446744073709551616*d):=F4
 simp only[Ln]at e;have z:k*(18446744073709551616*d)=k*18446744073709551616*d:=by rw[Kd]
 omega
def wx{a b:List UInt64}{m:Nat}{c:Bool}(j:a.length≤m)(g:b.length≤m)(z:vZ.length=m)(hv:val vZ+val (b.take m)=val (a.take m)+2^(64*m)*c.toNat) :
  (c=true↔val a<val b)∧(c=false→val vZ=val a-val b):=by
 rw[z2w j,z2w g]at hv;have A:=z7t (a:=vZ) (n:=m) J;have B:=z7t g;cases c with
 |true=>simp at hv ⊢;omega
 |false=>simp at hv ⊢;omega
def zf(g j N:Nat)(q:List UInt64)(r:Nat):Prop:=r=g/2^N%j∧val q=g/2^N/j*2^N
def zps{r:Nat}(C:0<j)(B:r=g/2^(A+1)%j):(2*r+(g.testBit A).toNat<j→g/2^A%j=2*r+(g.testBit A).toNat∧g/2^A/j=2*(g/2^(A+1)/j)) ∧
  (j≤2*r+(g.testBit A).toNat→g/2^A%j=2*r+(g.testBit A).toNat-j∧g/2^A/j=2*(g/2^(A+1)/j)+1):=by
 have E:g/2^(A+1)=g/2^A/2:=by rw[K8];rfl
 have F:(g.testBit A).toNat=g/2^A%2:=by
  rw[Ly];by_cases h:g/2^A%2=1
  ·simp[h]
  ·have:g/2^A%2=0:=J
   simp[this]
 rw[E]at B ⊢;rw[F];generalize g/2^A=x at *;have D:=Nat.div_add_mod (x/2) j;have I:r<j:=by rw[B];exact Kg _ C
 rw[←B]at D;have G:x=2*(x/2)+x%2:=J
 have K:x%2<2:=J
 generalize x/2/j=c at *;generalize x/2=y at *;generalize x%2=d at *;subst D;have z:∀H w,w<j→x=j*H+w→x%j=w∧x/j=H:=λH w hw e=>by
  subst e;exact⟨by rw[Nat.mul_add_mod,Iy hw],by rw[Nat.mul_add_div C,K6 hw,Kh]⟩
 refine⟨λh=>z _ _ h ?_,λh=>z _ _ J ?_⟩
 ·rw[G,Mv];grind
 ·have:j*(2*c+1)=2*(j*c)+j:=Eg
  omega
def i5{q:List UInt64}{N:Nat}(z:N/64<q.length)(h:2^(N+1) ∣ val q):val (q.set (N/64) (ax (q.getD (N/64) 0) (Qx 1 (N%64))))=val q+2^N:=by
 have A:=val_set q (N/64) (ax (q.getD (N/64) 0) (Qx 1 (N%64))) z;have B:=limb_at q (N/64);have g:N%64<64:=J
 have C:2^(N%64+1) ∣ (q.getD (N/64) 0).toNat:=by
  obtain⟨c,j⟩:=h;rw[B,j,show (2:Nat)^(N+1)=2^(64*(N/64))*2^(N%64+1) by rw[←K7];congr 1;omega,Kd,Nat.mul_div_cancel_left _ (K0 _)];refine (Nat.dvd_mod_iff ?_).2 (Nat.dvd_mul_right _ _);rw[show (18446744073709551616:Nat)=2^64 from rfl];exact Nat.pow_dvd_pow 2 J
 obtain⟨c,j⟩:=C;have D:(ax (q.getD (N/64) 0) (Qx 1 (N%64))).toNat=(q.getD (N/64) 0).toNat+2^(N%64):=by
  rw[ee,Mf,yy g];have:=Mj (i:=N%64+1) (b:=2^(N%64)) (Nat.pow_lt_pow_right J J) c;rw[←j]at this;exact this.symm
 rw[D,Ln,←K7,(J:64*(N/64)+N%64=N)]at A;omega
def zv8{N:Nat}{q:List UInt64}{r:Nat}(A:0<j)(h:zf g j (N+1) q r)(z:2*r+(g.testBit N).toNat<j):zf g j N q (2*r+(g.testBit N).toNat):=by
 obtain⟨B,C⟩:=h;obtain⟨D,E⟩:=(zps A B).1 z;refine⟨D.symm,?_⟩;rw[E,C,I0]
 grind
def zui{N:Nat}{q:List UInt64}{r:Nat}(B:0<j)(C:N/64<q.length)(h:zf g j (N+1) q r)(z:j≤2*r+(g.testBit N).toNat):zf g j N (q.set (N/64) (ax (q.getD (N/64) 0) (Qx 1 (N%64)))) (2*r+(g.testBit N).toNat-j):=by
 obtain⟨D,A⟩:=h;obtain⟨E,F⟩:=(zps B D).2 z;refine⟨E.symm,?_⟩;rw[i5 C (by rw[A];exact Nat.dvd_mul_left _ _),F,A,I0]
 grind
def cj{n:Nat}:zf g j (Pp g) (List.replicate n 0) 0:=by
 have h:g/2^Pp g=0:=K6 (th g);refine⟨by rw[h];simp,by rw[h,val_rep0];simp⟩
def xl{q:List UInt64}{r:Nat}(h:zf g j 0 q r):val q=g/j∧r=g%j:=by
 obtain⟨z,A⟩:=h;simp at z A;exact⟨A,z⟩
def zx2{n:Nat}{b:List UInt64}(h:n<val b):(Qa n).length≤b.length:=z33 (Nat.lt_trans h (val_lt b))
def te(n:List UInt64):Bool:=decide (n.getD 0 0%2=1)
def ic(n:List UInt64):te n=(val n).testBit 0:=by
 have h:=limb_at n 0;have e:(n.getD 0 0%2=1)↔(n.getD 0 0).toNat%2=1:=by
  constructor
  ·intro h;simpa using congrArg UInt64.toNat h
  ·intro h;apply I8.1;simpa using h
 unfold te;rw[Nat.testBit_zero];simp only[e,h];simp
def Nh{l:List LV}{i:Nat}{v:LV}{g:LV→Prop}(h:l[i]?=some v):O9 l i g=g v:=by simp[O9,h]
def bm{f:vQ→LV}{l:List vQ}{i:Nat}{a:vQ}(h:l[i]?=some a):(l.map f)[i]?=some (f a):=by simp[h]
mutual
def bor_self{G:M0}(v:LV)(h:v.dat=true):bor G v v:=by
 cases v with
 |agg l=>simp only[LV.dat]at h;exact⟨l,rfl,bors_self l h⟩
 |nilSl=>exact .inl rfl
 |dy p k=>simp[LV.dat]at h
 |vw p k lo len=>simp[LV.dat]at h
 |_=>exact⟨rfl,h⟩
termination_by SizeOf.sizeOf v
def bors_self{G:M0}(l:List LV)(h:dats l=true):bors G l l:=by
 cases l with
 |nil=>rfl
 |cons v l =>
  simp only[dats,Hw]at h;exact⟨v,l,rfl,bor_self v h.1,bors_self l h.2⟩
termination_by SizeOf.sizeOf l
end
def gc(p:vQ→Bool)(l:List vQ):Int:=if l.findIdx p<l.length then (l.findIdx p:Int) else -1
def mh{p:vQ→Bool}{l:List vQ}{i:Nat}{a:vQ}(h:l[i]?=some a)(j:p a=true)(z:∀g b,g<i→l[g]?=some b→p b=false):gc p l=i:=by
 obtain⟨hi,rfl⟩:=Hu.1 h;have:l.findIdx p=i:=(List.findIdx_eq hi).2 ⟨j,λg A=>z g _ A (H6 _)⟩;rw[gc,this,H7 hi]
def zvh{p:vQ→Bool}{l:List vQ}{i:Nat}(hi:l.length≤i)(j:∀g b,g<i→l[g]?=some b→p b=false):gc p l=-1:=by
 have:l.findIdx p=l.length:=List.findIdx_eq_length.2 λa z=>by
  obtain⟨g,A,rfl⟩:=Kb.1 z;exact j g _ J (H6 _)
 rw[gc,this,Hv J]
def Y3(p:vQ→Bool)(l:List vQ):decide (0≤gc p l)=l.any p:=by
 unfold gc;by_cases h:l.findIdx p<l.length
 ·rw[H7 h,Jp J];exact (I9.2 ⟨_,Ls h,List.findIdx_getElem⟩).symm
 ·rw[Hv h,Lv J];have g:=List.findIdx_eq_length.1 (Dx:l.findIdx p=l.length);exact (Li.2 λx j=>by simp[g x j]).symm
def y7(l:List Int)(j:Nat)(x:Int)(h:j<l.length):Oa (l.map .i) j [.i x]=(l.set j x).map .i:=by
 unfold Oa;rw[Jk,H7 h];simp[Mz,List.map_drop]
def gd(l:List Int)(u:Nat):Int:=l.getD u 0
def gd_set(l:List Int)(g u:Nat)(x:Int)(h:g<l.length):gd (l.set g x) u=if u=g then x else gd l u:=by
 simp only[gd,Hy,Mw];by_cases e:g=u
 ·subst e;simp[h]
 ·simp[e,Ne.symm e]
def rf{l:List Int}{u:Nat}(h:u<l.length):l[u]?=some (gd l u):=by simp[gd,Hy,h]
def strict(l:List Int)(m:Nat):Prop:=∀u v,u<v→v<m→gd l u<gd l v
structure Cmp (l0 l:List Int) (m d:Nat):Prop where
 len:l.length=l0.length
 m1:1≤m
 md:m≤d
 st:strict l m
 mem:∀x,(∃u,u<m∧gd l u=x)↔∃u,u<d∧gd l0 u=x
 last:gd l (m-1)=gd l0 (d-1)
 rest:∀u,d-1≤u→gd l u=gd l0 u∨u<m
def o9{a r:List LV}{m:Nat}(h:m≤a.length):(Oa a m r).take m=a.take m:=by
 unfold Oa;rw[Jg,Md (by rw[Kc];omega),Mq,Nat.min_self]
def zwa{a r:List LV}{m:Nat}(h:m+r.length=a.length):(Oa a m r).length=a.length:=by
 unfold Oa;simp;omega
def zvs{v:LV}(h:v.dat=true):∀n,dats (O6 [v] n)=true
 |0=>rfl
 |n+1=>by simp[O6,dats,h,zvs h n]
end Go.Sv
