/- Texts of the evaluator, of the logic over it, of plain arithmetic. -/
import Derived.Test.YtodjkjimaheggaaGreatSvG1
import Derived.OpenShut
import Derived.Carry
import Derived.WalkKit
import Derived.ProofKit
import Derived.WideKeyArgs
import Derived.ChangeCalls
set_option linter.unusedSimpArgs false
set_option linter.defProp false
namespace Go.Sv
variable{g j A D Q:Nat}{vV:Int}{C:Program}{K:World}{R:Bool}{U:UInt64}{v9:List UInt64}{v8:TypeId}{vQ:Type}{vM:Array Value}{vH:Option Nat}{uP:Code}{uO:Prop}{vT:Heap}{I:AV}{T vC:Tr AV}{M:CM}{E vY:List LV}{F:M7}{O:LV}{Y:LV→M7→Prop}{vg:Cx}
section
section res
variable {P : Program} {c : Cx} {G : M7} {K : LV → M7 → Prop}
def zrw(l h m o v i j:Nat)(A:l≤h)(B:h≤m):(h-l=0∧rq l h m o v i j=.emp∧l≠0)∨∃g,rq l h m o v i j=.sl o v (i+l*j) (h-l) j g∧∀r,g=some r→h-l≤r:=by
 unfold rq;cases C:Nat.beq l m with
 |true =>
  have E:=Ie C;cases z:Nat.beq l 0 with
  |true =>
   have D:=Ie z;have:h-l=0:=J
   refine .inr ⟨some 0,?_,λr _=>J⟩;rw[this,D];simp
  |false=>exact .inl ⟨J,rfl,λe=>by subst e;cases z⟩
 |false=>exact .inr ⟨_,rfl,λr e=>by cases e;show h-l≤m-l;omega⟩
def zaw{lo hi:Option Nat}{o v i len esz:Nat}{room:Option Nat}(j:lo.getD 0≤hi.getD len)(B:hi.getD len≤len)(C:∀r,room=some r→len≤r) :
  ∃a,Wq esz lo hi none o v i len esz room=some a∧zu a=true∧((hi.getD len-lo.getD 0=0∧a=.emp∧lo.getD 0≠0)∨∃g,a=.sl o v (i+lo.getD 0*esz) (hi.getD len-lo.getD 0) esz g∧∀r,g=some r→hi.getD len-lo.getD 0≤r):=by
 generalize F:lo.getD 0=l at j;generalize H:hi.getD len=h at j B;have z:∀a,((h-l=0∧a=.emp∧l≠0)∨∃g,a=AV.sl o v (i+l*esz) (h-l) esz g∧∀r,g=some r→h-l≤r)→zu a=true:=by
  rintro a (⟨_,rfl,_⟩|⟨_,rfl,_⟩)<;>rfl
 unfold Wq;rw[I8,F,H];dsimp only;unfold z8u;have D:Nat.ble l h=true:=Ib j;cases room with
 |some r =>
  have A:Nat.ble h ((some r).getD len)=true:=Ib (by have:=C r rfl;show h≤r;omega);rw[D,A];dsimp only;have:=zrw l h r o v i esz j (by have:=C r rfl;omega);exact⟨_,rfl,z _ this,this⟩
 |none =>
  have A:Nat.ble h ((none:Option Nat).getD len)=true:=Ib B;rw[D,A];dsimp only;cases E:Nat.beq l 0 with
  |true =>
   have I:=Ie E;have:(h-l=0∧(AV.sl o v i h esz none)=.emp∧l≠0)∨∃g,AV.sl o v i h esz none=AV.sl o v (i+l*esz) (h-l) esz g∧∀r,g=some r→h-l≤r:=.inr ⟨none,by rw[I];simp,λr e=>Ar⟩;exact⟨_,rfl,z _ this,this⟩
  |false =>
   cases L:Nat.beq l h with
   |true =>
    have M:=Ie L;exact⟨_,rfl,rfl,.inl ⟨J,rfl,λe=>by subst e;cases E⟩⟩
   |false=>exact⟨_,rfl,rfl,.inr ⟨none,rfl,λr e=>Ar⟩⟩
def zhg{lo hi:Option Nat}{o v i len esz m:Nat}{room:Option Nat}(z:lo.getD 0≤hi.getD len)(A:hi.getD len≤m)(hm:m≤len)(C:∀r,room=some r→len≤r) :
  ∃a,Wq esz lo hi (some m) o v i len esz room=some a∧zu a=true∧((hi.getD len-lo.getD 0=0∧a=.emp∧lo.getD 0≠0)∨∃g,a=.sl o v (i+lo.getD 0*esz) (hi.getD len-lo.getD 0) esz g∧∀r,g=some r→hi.getD len-lo.getD 0≤r):=by
 generalize D:lo.getD 0=l at z;generalize E:hi.getD len=h at z A;have B:∀a,((h-l=0∧a=.emp∧l≠0)∨∃g,a=AV.sl o v (i+l*esz) (h-l) esz g∧∀r,g=some r→h-l≤r)→zu a=true:=by
  rintro a (⟨_,rfl,_⟩|⟨_,rfl,_⟩)<;>rfl
 unfold Wq;rw[I8,D,E];dsimp only;unfold z8u;have j:m≤room.getD len:=by
  cases room with
  |none=>exact hm
  |some r=>have:=C r rfl;show m≤r;omega
 rw[show Nat.ble l h=true from Ib z,show Nat.ble h (room.getD len)=true from Ib (Ja A j)];dsimp only;rw[show Nat.ble h m=true from Ib A,show Nat.ble m (room.getD len)=true from Ib j];dsimp only;have:=zrw l h m o v i esz z A;exact⟨_,rfl,B _ this,this⟩
def zhk{hi:Option Nat}{o v i len:Nat}{z:Option Nat}{a:AV}(h:Wq g vH hi none o v i len j z=some a)(A:vH.getD 0=0):∃B n,a=.sl o v B n j z:=by
 unfold Wq at h;split at h
 ·cases h
 rw[A]at h;unfold z8u at h;split at h
 ·cases h
 split at h
 ·cases h
 dsimp only at h;cases z with
 |some r =>
  dsimp only at h;cases h;unfold rq;split
  ·rename_i C;have:=Ie C;subst this;exact⟨_,_,rfl⟩
  ·exact⟨_,_,rfl⟩
 |none =>
  dsimp only at h;cases h;exact⟨_,_,rfl⟩
def zrb{lo hi:Option Nat}{o v i len esz:Nat}{room:Option Nat}{a:AV}(h:Wq g lo hi none o v i len esz room=some a)(z:j=0→lo.getD 0=0)(A:I=.sl o v 0 len esz room):jy j I a:=by
 intro B;obtain⟨C,n,rfl⟩:=zhk h (z B);subst A;exact .inl rfl
def zpo{lo hi:Option Nat}{o v i len esz:Nat}{a:AV}(h:Wq g lo hi none o v i len esz vH=some a)(z:j=0→lo.getD 0=0∧A=0)(C:jy A I (.sl o v D Q esz vH)):jy j I a:=by
 intro B;obtain⟨E,n,rfl⟩:=zhk h (z B).1;exact C (z B).2
def zok{lo hi:Option Nat}{o v i len esz m:Nat}{room:Option Nat}{a:AV}(h:Wq g lo hi (some m) o v i len esz room=some a)(z:j=0→lo.getD 0=0)(hm:m≤len)(B:I=.sl o v 0 len esz room):jy j I a:=by
 intro C;have z:=z C;subst B;unfold Wq at h;split at h
 ·cases h
 rw[z]at h;unfold z8u at h;split at h
 ·cases h
 split at h
 ·cases h
 dsimp only at h;split at h
 ·cases h
 split at h
 ·cases h
 cases h;have D:∃(A n r:Nat),rq 0 (hi.getD len) m o v i esz=.sl o v A n esz (some r)∧r≤m:=by
  unfold rq;cases Nat.beq 0 m with
  |true=>exact⟨_,_,0,rfl,K5 _⟩
  |false=>exact⟨_,_,m-0,rfl,Nat.sub_le _ _⟩
 obtain⟨A,n,r,e,E⟩:=D;rw[e];exact .inr ⟨r,rfl,J⟩
def zrv{lo hi:Option Nat}{o v i len esz m:Nat}{room:Option Nat}{a:AV}(h:Wq g lo hi (some m) o v i len esz room=some a)(z:lo.getD 0=0)(A:hi.getD len=m)(hm:0<m):a=.sl o v i m esz (some m):=by
 unfold Wq at h;split at h
 ·cases h
 rw[z,A]at h;unfold z8u at h;split at h
 ·cases h
 split at h
 ·cases h
 dsimp only at h;split at h
 ·cases h
 split at h
 ·cases h
 cases h;unfold rq;have j:Nat.beq 0 m=false:=by
  cases j:Nat.beq 0 m with
  |false=>rfl
  |true=>have:=Ie j;omega
 rw[j];dsimp only;rw[show Nat.add i (Nat.mul 0 esz)=i by show i+0*esz=i;omega,show Nat.sub m 0=m from rfl]
def AR.lst'{l:List LV}{len esz:Nat}{a:AV}{o v i n:Nat}{l':List AV}(hf:c.Fz o)(hr:Rs c.H o v i n=some l')(hl:ARs c l l')(hle:j*esz+len*esz≤n)
  (ha:(len=0∧a=.emp)∨∃room,a=.sl o v (i+j*esz) len esz room∧∀r,room=some r→len≤r):AR c (.lst ((l.drop (j*esz)).take (len*esz)) len esz) a:=by
 have hn:=zfw hr;have gz:=hl.length;rcases ha with ⟨rfl,rfl⟩|⟨room,rfl,gg⟩
 ·simp only[K2,Mw];exact .lstEmp
 ·exact .lst hf gg Ab (zmw hr hle) ((hl.drop _).take _)
def zsv(g:Bool)(a b:Int):l9 g (.int .i64 a) [.int .i64 b]=some (.int .i64 (match g with|true=>max a b|false=>min a b)):=by
 have j:ap .i64 .i64=true:=rfl;simp only[l9,Zg,j];cases g with
 |true =>
  simp only[Vw];by_cases h:a<b
  ·rw[Js h];simp only;congr 2;omega
  ·rw[Ly h];simp only;congr 2;omega
 |false =>
  simp only[Vw];by_cases h:b<a
  ·rw[Js h];simp only;congr 2;omega
  ·rw[Ly h];simp only;congr 2;omega
def yw(z:Bool)(a b d:Int):l9 z (.int .i64 a) [.int .i64 b,.int .i64 d]=some (.int .i64 (match z with|true=>max (max a b) d|false=>min (min a b) d)):=by
 cases z with
 |true =>
  have g:=zsv true a b;have j:=zsv true (max a b) d;simp only[l9]at g j ⊢;cases hm:Zg true (.int .i64 a) (.int .i64 b) with
  |none=>rw[hm]at g;cases g
  |some r =>
   rw[hm]at g;simp only[Option.some.injEq]at g;subst g;exact j
 |false =>
  have g:=zsv false a b;have j:=zsv false (min a b) d;simp only[l9]at g j ⊢;cases hm:Zg false (.int .i64 a) (.int .i64 b) with
  |none=>rw[hm]at g;cases g
  |some r =>
   rw[hm]at g;simp only[Option.some.injEq]at g;subst g;exact j
def maxi_u(g:Bool)(a b:UInt64):l9 g (.int .u64 (Int.ofNat a.toNat)) [.int .u64 (Int.ofNat b.toNat)]=some (.int .u64 (Int.ofNat (match g with|true=>if a<b then b else a|false=>if b<a then b else a:UInt64).toNat)):=by
 have j:ap .u64 .u64=true:=rfl;simp only[l9,Zg,j];cases g with
 |true =>
  simp only[Vw,ziy];by_cases h:a<b
  ·rw[Js h,H7 h]
  ·rw[Ly h,Hx h]
 |false =>
  simp only[Vw,ziy];by_cases h:b<a
  ·rw[Js h,H7 h]
  ·rw[Ly h,Hx h]
def bytesA_map:∀l:List UInt8,W2.bytesA (l.map λb=>AV.int .u8 (Int.ofNat b.toNat))=some (Po l)
 |[]=>rfl
 |b::l=>by
  have g:=b.toNat_lt;have h:Nat.blt b.toNat 256=true:=by unfold Nat.blt;exact Ib g
  simp only[Kk,W2.bytesA,h,Jo,bytesA_map l,Po]
def ARs_b:∀{j:List UInt8} {g:List AV},ARs c (j.map LV.b) g→g=j.map λb=>AV.int .u8 (Int.ofNat b.toNat)
 |[],g,h=>B5
 |b::j,g,h=>by
  cases h with
  |cons h z=>cases h;rw[ARs_b z];rfl
def bytL_ok(O:HSim c G){x:LV}{a:AV}{K:List LV→Prop}(D:AR c x a)(h:bytL G x K):∃l j,ARs c l j∧K l∧((a=.nilSl∧j=[])∨∃o v i room,a=.sl o v i j.length 1 room∧Rs c.H o v i j.length=some j):=by
 unfold bytL at h;split at h
 ·cases D;exact⟨[],[],.nil,h,.inl ⟨rfl,rfl⟩⟩
 ·rename_i p k;split at h
  ·rename_i l len E Q st R;obtain⟨T,rfl,h⟩:=h;cases D with
   | @dy _ _ k' hh _ e hk U _ =>
    obtain⟨r0,H,A⟩:=O.obj p _ _ _ R e;have B:=U J;rcases A with ⟨A,F⟩|⟨o,v,room,t,I,j,A,F,V,X,L,_⟩
    ·subst F;have:l=[]:=Ip Bt;subst this;exact⟨[],[],.nil,h,.inl ⟨B.trans A,rfl⟩⟩
    ·have g:j.length=len*1:=by rw[←L.length];exact H
     have z:=W3 (i:=0) (n:=len*1) F X V J;rw[Kw]at g z;refine⟨l,j,L,h,.inr ⟨o,v,0,room,by rw[B,A,g],?_⟩⟩;rw[g,z,Km,Im J]
  ·exact h.elim
 ·rename_i l len E;obtain⟨rfl,C,h⟩:=h;cases D with
  |lst hf Y M z Z =>
   have g:=zfw z;rw[Kw]at g z;refine⟨l,_,Z,h,.inr ⟨_,_,_,_,by rw[g],by rw[g];exact z⟩⟩
  |lstNil=>exact absurd rfl C
  |lstEmp=>exact absurd rfl C
 ·exact h.elim
def OpL_ok(z:HSim c G){ρ:M9}(B:Ou c ρ T){o:LOp}(g:o.ok=true)(h:Oj P ρ G o K):Sy P c G K (Pe P (ρA T) c.H o.r):=by
 cases o with
 |move x=>exact .same z (Pd B g) h
 |pick cc a b =>
  simp only[LOp.ok,Hy]at g;have hc:=Pd B g.1.1;have ha:=Pd B g.1.2;have hb:=Pd B g.2;simp only[Oj]at h;simp only[LOp.r,Pe];generalize cc.ev ρ=cv at h hc;generalize cc.r.ev (ρA T)=ca at hc ⊢;cases cv<;>first|exact h.elim|skip
  rename_i t;cases hc;dsimp only at h;split at h
  ·rename_i x y j hy;rw[j]at ha;rw[hy]at hb;cases t with
   |true=>exact .same z ha h
   |false=>exact .same z hb h
  ·cases t with
   |true=>exact .same z ha (h.1 rfl)
   |false=>exact .same z hb (h.2 rfl)
 |alloc l=>exact znw z (z8t c g) h
 |box x =>
  have j:=Pd B g;simp only[Oj]at h;simp only[LOp.r,Pe];split at h
  ·rename_i l Y;obtain⟨l',E,C⟩:=j.cells Y;rw[E];exact znw z C h
  ·exact h.elim
 |build cs ps =>
  simp only[LOp.ok,Hy]at g;simp only[Oj]at h;simp only[LOp.r,Pe];split at h
  ·rename_i l Y;obtain⟨l',E,C⟩:=zpp B g.2 (z8t c g.1) Y;rw[E];exact .same z (.agg C) h
  ·exact h.elim
 |buildSl A len cs ps =>
  simp only[LOp.ok,Hy]at g;simp only[Oj]at h;simp only[LOp.r,Pe];split at h
  ·rename_i l Y;obtain⟨l',E,C⟩:=zpp B g.2 (z8t c g.1) Y;rw[E];exact yu z C h.1 (λr e=>by cases e;rfl) h.2
  ·exact h.elim
 |load1 x =>
  have j:=Pd B g;simp only[Oj]at h;simp only[LOp.r,Pe];obtain⟨o,v,i,w,b,E,C,M,H⟩:=zwp z j h;rw[E];dsimp only;rw[C];exact .same z M H
 |loadN n x =>
  have j:=Pd B g;simp only[Oj]at h;simp only[LOp.r,Pe];obtain⟨o,v,i,l',l,E,C,M,H⟩:=zo8 z j h;rw[E];dsimp only;rw[C];exact .same z (.agg M) H
 |store n x y =>
  simp only[LOp.ok,Hy]at g;have j:=Pd B g.1;have hy:=Pd B g.2;simp only[Oj]at h;simp only[LOp.r,Pe];split at h
  ·rename_i l Y;obtain⟨l',p1,p2⟩:=hy.cells Y;obtain⟨o,v,i,H',c',G',E,C,M,H,O,q6⟩:=zcq z j p2 h.2;rw[E];dsimp only;rw[p1];dsimp only;have hb:Nat.beq l'.length n=true:=by rw[←p2.length,h.1];exact I8 _
   rw[hb];dsimp only;rw[C];exact⟨c',.tup [],G',M,H,O,.tup .nil,q6⟩
  ·exact h.elim
 |nilChk x =>
  have j:=Pd B g;simp only[Oj]at h;simp only[LOp.r,Pe];generalize x.ev ρ=v at h j;generalize x.r.ev (ρA T)=a at j ⊢;split at h
  ·have h0:=j;cases j;exact .same z h0 h
  ·have h0:=j;cases j;exact .same z h0 h
  ·have h0:=j;cases j;exact .same z h0 h
  ·have h0:=j;cases j;exact .same z h0 h
  ·exact h.elim
 |bin op jG t x y =>
  simp only[LOp.ok,Hy]at g;exact .ret z (binL_ok (Pd B g.1) (Pd B g.2) h)
 |un op x=>exact .ret z (unL_ok (Pd B g) h)
 |cvInt k x =>
  obtain⟨k',n,E,v,C,M⟩:=cvL_ok (Pd B g) (show cvL k (x.ev ρ) (λv=>K v G) from h);simp only[LOp.r,Pe];rw[E];exact .same z C M
 |cvStr x =>
  have j:=Pd B g;simp only[Oj]at h;simp only[LOp.r,Pe];obtain⟨l,l',E,⟨bs,rfl,C⟩,M⟩:=bytL_ok z j h;have gZ:=ARs_b E;rcases M with ⟨M,H⟩|⟨o,v,i,room,M,H⟩
  ·rw[M];rw[H]at gZ;have:bs=[]:=by cases bs with
    |nil=>rfl
    |cons _ _=>cases gZ
   subst this;exact .same z (.str []) C
  ·rw[M];show Sy P c G K (match Rs c.H o v i l'.length with
    |some r=>match W2.bytesA r with
     |some n=>OR.val (.str l'.length n) c.H
     |none=>.no
    |none=>.no)
   rw[H];dsimp only;rw[gZ,bytesA_map];dsimp only;exact .same z (.str' N rfl) C
 |cvSame x =>
  have j:=Pd B g;simp only[Oj]at h;simp only[LOp.r,Pe];generalize x.ev ρ=v at h j;generalize x.r.ev (ρA T)=a at j ⊢;split at h
  ·cases j;exact .same z (.str _) h
  ·exact h.elim
 |cvBytes x =>
  have j:=Pd B g;simp only[Oj]at h;simp only[LOp.r,Pe];generalize x.ev ρ=v at h j;generalize x.r.ev (ρA T)=a at j ⊢;split at h
  ·rename_i l;cases j;exact yu z (zrk l c) N (λr e=>Ar) h
  ·exact h.elim
 |mkFunc f a b =>
  simp only[LOp.ok,Hy]at g;exact .same z (.fn (zws B g.1) (zws B g.2)) h
 |mkSl A jH l cc =>
  simp only[LOp.ok,Hy]at g;have Y:=Pd B g.1.2;have hc:=Pd B g.2;simp only[Oj]at h;simp only[LOp.r,Pe];generalize l.ev ρ=lv at h Y;generalize l.r.ev (ρA T)=la at Y ⊢;generalize cc.ev ρ=cv at h hc;generalize cc.r.ev (ρA T)=ca at hc ⊢;split at h
  ·rename_i n m;obtain⟨rfl,F,U,L,h4⟩:=h;cases Y;cases hc;obtain⟨k,rfl⟩:=Hz F;have b1:Nat.ble k k=true:=Ib (Ia _);have b2:Nat.ble k 1048576=true:=Ib J;show Sy P c G K (match Nat.ble k k with
    |true=>match Nat.ble k 1048576 with
     |true=>match newObj c.H (Uj (toAs jH) k) with
      |some (o,H')=>OR.val (.sl o 0 0 k A (some k)) H'
      |none=>.no
     |false=>.no
    |false=>.no)
   rw[b1,b2];exact yu z ((z8t c g.1.1).rep k) (by rw[z5x,L]) (λr e=>by cases e;rfl) h4
  ·exact h.elim
 |slStr x lo hi =>
  simp only[LOp.ok,Hy]at g;have j:=Pd B g.1.1;simp only[Oj]at h;simp only[LOp.r,Pe];generalize x.ev ρ=v at h j;generalize x.r.ev (ρA T)=a at j ⊢;split at h
  ·rename_i l;cases j;obtain⟨gg,V,E,C,M⟩:=Wt B g.1.2 h;obtain⟨Q,R,H,O,F,U,L⟩:=Wt B g.2 M;rw[E,H];dsimp only;rw[C,O];have b1:Nat.ble V R=true:=Ib F;have b2:Nat.ble R l.length=true:=Ib U;rw[b1,b2];dsimp only;refine .same z (.str' Ab ?_) L;rw[packL_take,packL_drop];rfl
  ·exact h.elim
 |slSl A x lo hi =>
  simp only[LOp.ok,Hy]at g;have j:=Pd B g.1.1;simp only[Oj]at h;simp only[LOp.r,Pe];have gK:Ql (ρA T) none=some none:=rfl;rw[gK];split at h
  ·rename_i hv;rw[hv]at j;generalize x.r.ev (ρA T)=a at j ⊢;cases j;obtain⟨gg,V,E,C,M⟩:=Wt B g.1.2 h;obtain⟨Q,R,H,O,F,U,L⟩:=Wt B g.2 M;rw[E,H];dsimp only;rw[C,O,F,U];exact .same z .nilSl L
  ·rename_i p k hv;rw[hv]at j;generalize x.r.ev (ρA T)=a at j ⊢;split at h
   ·rename_i l len esz gz st Z;obtain⟨gA,rfl,h⟩:=h;obtain⟨gg,V,E,C,M⟩:=Wt B g.1.2 h;obtain⟨Q,R,H,O,F,U,L⟩:=Wt B g.2 M;rw[E,H];cases j with
    | @dy _ _ k' hh _ e hk ha _ =>
     obtain⟨r0,r1,X⟩:=z.obj p _ _ _ Z e;have gD:=ha J;rcases X with ⟨X,r3⟩|⟨o,v,room,t,gL,l',X,r3,r4,r5,r6,r7,r8⟩
     ·subst r3;have e1:V=0:=J
      have e2:R=0:=J
      subst e1 e2;rw[gD,X];dsimp only;rw[C,show Q.getD 0=0 from O];exact .same z (.vw e hk (λ_=>.inl ⟨rfl,.inl rfl⟩) rfl (λ_ _=>trivial)) L
     ·obtain⟨a2,p1,p2,p3⟩:=zaw (lo:=gg) (hi:=Q) (o:=o) (v:=v) (i:=0) (esz:=esz) (len:=len) (room:=room) Cn Cv (λr e'=>(r7 r e').2);rw[gD,X];dsimp only;rw[p1];rw[C,O,Iy]at p3;refine .same z (.vw e hk (λ_=>?_) p2 (λ_=>zrb p1 (λh0=>by rw[C];exact h0) X)) L;rcases p3 with ⟨p3,p4,p5⟩|⟨I,p4⟩
      ·exact .inl ⟨p3,.inr ⟨p4,p5⟩⟩
      ·exact .inr ⟨o,v,len,esz,room,I,X,p4⟩
   ·exact h.elim
  ·rename_i p k l0 len hv;rw[hv]at j;generalize x.r.ev (ρA T)=a at j ⊢;split at h
   ·rename_i l gF esz gz st Z;obtain⟨gA,rfl,h⟩:=h;obtain⟨gg,V,E,C,M⟩:=Wt B g.1.2 h;obtain⟨Q,R,H,O,F,U,L⟩:=Wt B g.2 M;rw[E,H];cases j with
    | @vw _ _ _ _ k' hh _ e hk ha _ hz =>
     have jI:=(z.obj p _ _ _ Z e).1;rcases ha J with ⟨r3,r4⟩|⟨o,v,gC,D,room,I,r3,r4,r9⟩
     ·subst r3;have e1:V=0:=J
      have e2:R=0:=J
      subst e1 e2;rcases r4 with rfl|⟨rfl,r5⟩
      ·dsimp only;rw[C,show Q.getD 0=0 from O];exact .same z (.vw e hk (λ_=>.inl ⟨rfl,.inl rfl⟩) rfl (λ_ _=>trivial)) L
      ·dsimp only;rw[C,show Q.getD 0=0 from O];exact .same z (.vw e hk (λ_=>.inl ⟨rfl,.inr ⟨rfl,r5⟩⟩) rfl (λ_ _=>trivial)) L
     ·subst r3;obtain⟨_,w1,w2,w3,_⟩:=pi z Z e;subst w2 w3;obtain⟨a2,p1,p2,p3⟩:=zaw (lo:=gg) (hi:=Q) (o:=o) (v:=v) (i:=l0*D) (esz:=D) (len:=len) (room:=I) Cn Cv r9;rw[r4];dsimp only;rw[p1];rw[C,O]at p3;refine .same z (.vw e hk (λ_=>?_) p2 (λq=>zpo p1 (λh0=>⟨Gq,J⟩) (r4 ▸ hz q))) L;rcases p3 with ⟨p3,p4,p6⟩|⟨g9,p4,p5⟩
      ·exact .inl ⟨p3,.inr ⟨p4,J⟩⟩
      ·exact .inr ⟨o,v,_,D,room,g9,rfl,by rw[p4,Iu],p5⟩
   ·exact h.elim
  ·rename_i l len esz hv;rw[hv]at j;generalize x.r.ev (ρA T)=a at j ⊢;obtain⟨rfl,h⟩:=h;obtain⟨gg,V,E,C,M⟩:=Wt B g.1.2 h;obtain⟨Q,R,H,O,F,U,L⟩:=Wt B g.2 M;rw[E,H];have gU:len=0→l=[]→K (.lst [] 0 esz) G:=λe1 e2=>by
    have e3:V=0:=J
    have e4:R=0:=J
    subst e2 e3 e4;simpa using L
   cases j with
   |lst hf gI gG hr Y =>
    obtain⟨a2,p1,p2,p3⟩:=zaw (lo:=gg) (hi:=Q) Cn Cv gI;dsimp only;rw[p1];rw[C,O]at p3;refine .same z (.lst' hf hr Y ?_ (p3.imp (λh=>⟨h.1,h.2.1⟩) id)) L;rw[←Iu];exact Ii _ J
   |lstNil =>
    have e3:V=0:=J
    have e4:R=0:=J
    dsimp only;rw[C,show Q.getD 0=R from O,e3,e4];exact .same z .lstNil (gU rfl rfl)
   |lstEmp =>
    have e3:V=0:=J
    have e4:R=0:=J
    dsimp only;rw[C,show Q.getD 0=R from O,e3,e4];exact .same z .lstEmp (gU rfl rfl)
  ·exact h.elim
 |slSl3 A x lo hi mx =>
  simp only[LOp.ok,Hy]at g;have j:=Pd B g.1.1.1;have jC:yd (some mx)=true:=g.2;simp only[Oj]at h;simp only[LOp.r,Pe];split at h
  ·rename_i p k hv;rw[hv]at j;generalize x.r.ev (ρA T)=a at j ⊢;split at h
   ·rename_i l len esz gz st Z;obtain⟨gA,rfl,h⟩:=h;obtain⟨gg,V,E,C,M⟩:=Wt B g.1.1.2 h;obtain⟨Q,R,H,O,q6⟩:=Wt B g.1.2 M;obtain⟨gM,gO,q7,q8,h0,F,U,L,h4⟩:=Wt B jC q6;simp only[J7]at q7;rw[E,H,q7];cases j with
    | @dy _ _ k' hh _ e hk ha _ =>
     obtain⟨r0,r1,X⟩:=z.obj p _ _ _ Z e;have gD:=ha J;have gK:gM=some gO:=by
      cases gM with
      |none=>unfold Ql at q7;dsimp only at q7;split at q7<;>cases q7
      |some m=>simp at q8;rw[q8]
     rcases X with ⟨X,r3⟩|⟨o,v,room,t,gL,l',X,r3,r4,r5,r6,r7,r8⟩
     ·omega
     ·obtain⟨a2,p1,p2,p3⟩:=zhg (lo:=gg) (hi:=Q) (o:=o) (v:=v) (i:=0) (esz:=esz) (len:=len) (room:=room) (m:=gO) Cn Cv L (λr e'=>(r7 r e').2);rw[gD,X,gK];dsimp only;rw[p1];rw[C,O,Iy]at p3;unfold fullV at h4;split at h4
      ·rename_i jD;obtain⟨f1,f2,f3⟩:=Ka jD;have hc:=zrv p1 (by rw[C];exact f1) (by rw[O];exact f2) J;exact .same z (.vf e hk (λ_=>⟨o,v,len,esz,room,X,by rw[hc,f2]⟩) p2) h4
      refine .same z (.vw e hk (λ_=>?_) p2 (λ_=>zok p1 (λh0=>by rw[C];exact h0) L X)) h4;rcases p3 with ⟨p3,p4,p5⟩|⟨I,p4⟩
      ·exact .inl ⟨p3,.inr ⟨p4,p5⟩⟩
      ·exact .inr ⟨o,v,len,esz,room,I,X,p4⟩
   ·exact h.elim
  ·rename_i l len esz hv;rw[hv]at j;generalize x.r.ev (ρA T)=a at j ⊢;obtain⟨rfl,h⟩:=h;obtain⟨gg,V,E,C,M⟩:=Wt B g.1.1.2 h;obtain⟨Q,R,H,O,q6⟩:=Wt B g.1.2 M;obtain⟨gM,gO,q7,q8,h0,F,U,L,h4⟩:=Wt B jC q6;simp only[J7]at q7;rw[E,H,q7];have gK:gM=some gO:=by
    cases gM with
    |none=>unfold Ql at q7;dsimp only at q7;split at q7<;>cases q7
    |some m=>simp at q8;rw[q8]
   cases j with
   |lst hf gI gG hr Y =>
    obtain⟨a2,p1,p2,p3⟩:=zhg (lo:=gg) (hi:=Q) (m:=gO) Cn Cv L gI;rw[gK];dsimp only;rw[p1];rw[C,O]at p3;refine .same z (.lst' hf hr Y ?_ (p3.imp (λh=>⟨h.1,h.2.1⟩) id)) h4;rw[←Iu];exact Ii _ J
   |lstNil=>omega
   |lstEmp=>omega
  ·exact h.elim
 |fieldAddr gT x =>
  have j:=Pd B g;simp only[Oj]at h;simp only[LOp.r,Pe];generalize x.ev ρ=v at h j;generalize x.r.ev (ρA T)=a at j ⊢;split at h
  ·cases j with
   |ptr e=>exact .same z (.ptr e) h
  ·cases j with
   |dptr e hk ha=>exact .same z (.dptr e hk (λq=>⟨by rw[(ha q).1];rfl,(ha q).2⟩)) h
  ·cases j with
   |cptr hf hr Y =>
    dsimp only;rw[show ∀a b c:Nat,Nat.add (a+b) c=a+(b+c) from λa b c=>Kg a b c];exact .same z (.cptr hf hr Y) h
  ·exact h.elim
 |field jG n gT x =>
  have j:=Pd B g;simp only[Oj]at h;simp only[LOp.r,Pe];generalize x.ev ρ=v at h j;generalize x.r.ev (ρA T)=a at j ⊢;split at h
  ·rename_i l;cases j with
   |agg Y =>
    dsimp only;cases jG with
    |true =>
     obtain⟨F,U⟩:=h;have jg:=Y.length;rename_i l';have b1:Nat.ble (Nat.add gT n) l'.length=true:=Ib (show gT+n≤l'.length by rw[←jg];exact F);refine .ret z ?_;simp only[ny,fk,b1];exact .mk (.agg ((Y.drop gT).take n)) U
    |false =>
     obtain⟨v,hv,h⟩:=h;obtain⟨a,E,C⟩:=Y.get hv;refine .ret z ?_;simp only[ny];rw[E];exact .mk C h
  ·exact h.elim
 |ixAddr A x i =>
  simp only[LOp.ok,Hy]at g;have j:=Pd B g.1;have hi:=Pd B g.2;simp only[Oj]at h;simp only[LOp.r,Pe];generalize i.ev ρ=iv at h hi;generalize i.r.ev (ρA T)=ia at hi ⊢;generalize x.ev ρ=v at h j;generalize x.r.ev (ρA T)=a at j ⊢
  have gV : ∀ {kk : IntKind} {n : Int} (v : LV) (a : AV), AR c v a → ixO G A v n (fun v => K v G) → Sy P c G K (match a, AV.int kk n with
     |.sl o v i len esz _,.int _ (.ofNat n)=>match Nat.blt n len with
      |true=>match Nat.beq esz A with
       |true=>.val (.ptr o v (Nat.add i (Nat.mul n esz))) c.H
       |false=>.no
      |false=>.no
     |_,_=>.no):=by
   clear h j;intro kk n v a j h;unfold ixO at h;have gE:∀{o v jM len esz:Nat} {room:Option Nat} {m:Nat} {y:LV},m<len→esz=A→AR c y (.ptr o v (jM+m*esz))→K y G→Sy P c G K (match AV.sl o v jM len esz room,AV.int kk (Int.ofNat m) with
     |.sl o v i len esz _,.int _ (.ofNat n)=>match Nat.blt n len with
      |true=>match Nat.beq esz A with
       |true=>.val (.ptr o v (Nat.add i (Nat.mul n esz))) c.H
       |false=>.no
      |false=>.no
     |_,_=>.no):=by
    intro o v jM len esz room m y F U L h4;subst U;have b1:Nat.blt m len=true:=by unfold Nat.blt;exact Ib F
    dsimp only;rw[b1,I8];exact .same z L h4
   split at h
   ·rename_i p k;split at h
    ·rename_i l len esz gz st Z;obtain⟨gA,rfl,F,U,L⟩:=h;obtain⟨m,rfl⟩:=Hz F;cases j with
     | @dy _ _ k' hh _ e hk ha _ =>
      obtain⟨r0,r1,X⟩:=z.obj p _ _ _ Z e;have gD:=ha J;rcases X with ⟨X,r3⟩|⟨o,v,room,t,gL,l',X,_⟩
      ·omega
      ·rw[gD,X];refine gE (room:=room) (y:=.dptr p k (m*esz)) J rfl (.dptr e hk (λ_=>⟨by rw[Iy],len,esz,room,X⟩)) L
    ·exact h.elim
   ·rename_i p k lo len;split at h
    ·rename_i l gF esz gz st Z;obtain⟨gA,rfl,F,U,L⟩:=h;obtain⟨m,rfl⟩:=Hz F;cases j with
     | @vw _ _ _ _ k' hh _ e hk ha _ _ =>
      have jI:=(z.obj p _ _ _ Z e).1;rcases ha J with ⟨r3,r4⟩|⟨o,v,gC,D,room,I,r3,r4,r9⟩
      ·omega
      ·have e2:=e;rw[r3]at e2;obtain⟨_,w1,w2,w3,_⟩:=pi z Z e2;subst w2 w3;rw[r4];refine gE (room:=I) (y:=.dptr p k ((lo+m)*D)) J rfl (.dptr e hk (λ_=>⟨by rw[Iu],gC,D,room,r3⟩)) L
    ·exact h.elim
   ·rename_i l len esz;obtain⟨rfl,F,U,L⟩:=h;obtain⟨m,rfl⟩:=Hz F;cases j with
    | @lst _ _ _ _ _ _ rm _ hf gI gG hr Y =>
     refine gE (room:=rm) (y:=.cptr l (m*esz)) J rfl ?_ L;rw[←gG]at hr;exact .cptr hf hr Y
    |lstNil=>omega
    |lstEmp=>omega
   ·exact h.elim
  split at h
  ·cases hi;exact gV v a j h
  ·cases hi;exact gV v a j h
  ·exact h.elim
 |ixStr x i =>
  simp only[LOp.ok,Hy]at g;have j:=Pd B g.1;have hi:=Pd B g.2;simp only[Oj]at h;simp only[LOp.r,Pe];generalize i.ev ρ=iv at h hi;generalize i.r.ev (ρA T)=ia at hi ⊢;generalize x.ev ρ=v at h j;generalize x.r.ev (ρA T)=a at j ⊢;have gE:∀{l:List UInt8} {k:IntKind} {m:Nat},m<l.length→K (.b (l.getD m 0)) G→Sy P c G K (match AV.str l.length (Po l),AV.int k (Int.ofNat m) with
    |.str len n,.int _ (.ofNat i)=>match Nat.blt i len with
     |true=>.val (.int .u8 (Int.ofNat (Nat.mod (Nat.div n (Nat.pow 256 i)) 256))) c.H
     |false=>.no
    |_,_=>.no):=by
   intro l k m F U;have b1:Nat.blt m l.length=true:=by unfold Nat.blt;exact Ib F
   dsimp only;rw[b1];refine .same z (.b' ?_) U;have:=zjz (H6 F);show Int.ofNat (Po l/256^m%256)=_;rw[this,Hv,H6 F];rfl
  split at h
  ·rename_i l n;obtain⟨F,U,L⟩:=h;obtain⟨m,rfl⟩:=Hz F;cases j;cases hi;exact gE (k:=.i64) J L
  ·rename_i l n;obtain⟨U,L⟩:=h;cases j;cases hi;exact gE (k:=.u64) U L
  ·rename_i l n;obtain⟨U,L⟩:=h;cases j;cases hi;exact gE (k:=.u8) U L
  ·exact h.elim
 |extract i x =>
  have j:=Pd B g;simp only[Oj]at h;simp only[LOp.r,Pe];generalize x.ev ρ=v at h j;generalize x.r.ev (ρA T)=a at j ⊢;split at h
  ·rename_i l;cases j with
   |tup Y =>
    dsimp only;obtain⟨v,hv,h⟩:=h;obtain⟨a,E,C⟩:=Y.get hv;refine .ret z ?_;rw[E];exact .mk C h
  ·exact h.elim
 |lenStr x =>
  have j:=Pd B g;simp only[Oj]at h;simp only[LOp.r,Pe];generalize x.ev ρ=v at h j;generalize x.r.ev (ρA T)=a at j ⊢;split at h
  ·cases j;exact .same z (.i _) h
  ·exact h.elim
 |lenSl x =>
  obtain⟨n,E,C⟩:=y7 z (Pd B g) (show lenL G (x.ev ρ) (λn=>K (.i n) G) from h);simp only[LOp.r,Pe];rcases C with ⟨C,rfl⟩|⟨C,rfl⟩|⟨o,v,i,esz,room,C⟩
  ·rw[C];exact .same z (.i 0) E
  ·rw[C];exact .same z (.i 0) E
  ·rw[C];exact .same z (.i n) E
 |maxi mx x y =>
  simp only[LOp.ok,Hy]at g;have j:=Pd B g.1;have hy:=Pd B g.2;simp only[Oj]at h;simp only[LOp.r,Pe,Kk,List.map_nil];generalize y.ev ρ=yv at h hy;generalize y.r.ev (ρA T)=ya at hy ⊢;generalize x.ev ρ=v at h j;generalize x.r.ev (ρA T)=a at j ⊢;split at h
  ·cases j;cases hy;dsimp only;rw[zsv];exact .same z (.i _) h
  ·cases j;cases hy;dsimp only;rw[maxi_u];exact .same z (.u _) h
  ·exact h.elim
 |max3 mx x y jH =>
  simp only[LOp.ok,Hy]at g;have j:=Pd B g.1.1;have hy:=Pd B g.1.2;have hz:=Pd B g.2;simp only[Oj]at h;simp only[LOp.r,Pe,Kk,List.map_nil];generalize jH.ev ρ=zv at h hz;generalize jH.r.ev (ρA T)=za at hz ⊢;generalize y.ev ρ=yv at h hy;generalize y.r.ev (ρA T)=ya at hy ⊢;generalize x.ev ρ=v at h j;generalize x.r.ev (ρA T)=a at j ⊢;cases v<;>first|exact h.elim|skip
  cases yv<;>first|exact h.elim|skip
  cases zv<;>first|exact h.elim|skip
  cases j;cases hy;cases hz;dsimp only;rw[yw];exact .same z (.i _) h
 |ixAddrArr len A x i =>
  simp only[LOp.ok,Hy]at g;have j:=Pd B g.1;have hi:=Pd B g.2;simp only[Oj]at h;simp only[LOp.r,Pe];generalize i.ev ρ=iv at h hi;generalize i.r.ev (ρA T)=ia at hi ⊢;generalize x.ev ρ=v at h j;generalize x.r.ev (ρA T)=a at j ⊢;cases iv<;>first|exact h.elim|skip
  cases hi;obtain⟨F,U,h⟩:=h;rename_i n;obtain⟨m,rfl⟩:=Hz F;have b1:Nat.blt m len=true:=by unfold Nat.blt;exact Ib J
  cases v<;>first|exact h.elim|skip
  ·cases j with
   |ptr e =>
    show Sy P c G K (match Nat.blt m len with|true=>_|false=>_);rw[b1];refine .same z ?_ h;have e0:=AR.ptr (i:=0) e;rename_i p jM o;show AR c (.ptr p (jM+m*A)) (.ptr o 0 (jM+m*A));exact .ptr e
  ·cases j with
   |dptr e hk ha =>
    show Sy P c G K (match Nat.blt m len with|true=>_|false=>_);rw[b1];exact .same z (.dptr e hk (λq=>⟨by rw[(ha q).1];rfl,(ha q).2⟩)) h
  ·cases j with
   |cptr hf hr Y =>
    show Sy P c G K (match Nat.blt m len with|true=>_|false=>_);rw[b1];refine .same z ?_ h;rename_i o vv jj ll;rw[show Nat.add (jj+_) (Nat.mul m A)=jj+(_+m*A) from Kg _ _ _];exact .cptr hf hr Y
 |ixArr jG len A x i =>
  simp only[LOp.ok,Hy]at g;have j:=Pd B g.1;have hi:=Pd B g.2;simp only[Oj]at h;simp only[LOp.r,Pe];generalize i.ev ρ=iv at h hi;generalize i.r.ev (ρA T)=ia at hi ⊢;generalize x.ev ρ=v at h j;generalize x.r.ev (ρA T)=a at j ⊢;cases iv<;>first|exact h.elim|skip
  cases hi;obtain⟨F,U,h⟩:=h;rename_i n;obtain⟨m,rfl⟩:=Hz F;have b1:Nat.blt m len=true:=by unfold Nat.blt;exact Ib J
  cases v<;>first|exact h.elim|skip
  cases j with
  |agg Y =>
   show Sy P c G K (match Nat.blt m len with|true=>_|false=>_);rw[b1];simp only[In]at h;cases jG with
   |true =>
    obtain⟨F,U⟩:=h;have jg:=Y.length;rename_i l';have b2:Nat.ble (Nat.add (Nat.mul m A) A) l'.length=true:=Ib (show m*A+A≤l'.length by rw[←jg];exact F);refine .ret z ?_;simp only[ny,fk,b2];exact .mk (.agg ((Y.drop _).take _)) U
   |false =>
    obtain⟨v,hv,h⟩:=h;obtain⟨a,E,C⟩:=Y.get hv;refine .ret z ?_;simp only[ny];show Sf c _ (_);rw[show Nat.mul m A=m*A from rfl,E];exact .mk C h
 |lenArr n x =>
  simp only[Oj]at h;simp only[LOp.r,Pe];exact .same z (.i _) h
 |appZ A jH s x =>
  simp only[LOp.ok,Hy]at g;have hz:=z8t c g.1.1;have jz:=Pd B g.1.2;have j:=Pd B g.2;simp only[Oj]at h;simp only[LOp.r,Pe];generalize x.ev ρ=v at h j;generalize x.r.ev (ρA T)=a at j ⊢;split at h
  ·rename_i n;obtain⟨F,U,L,h4⟩:=h;obtain⟨m,rfl⟩:=Hz F;cases j;have b1:Nat.ble m 1048576=true:=Ib J;show Sy P c G K (match Nat.ble m 1048576 with
    |true=>X1 c.H A (s.r.ev (ρA T)) m (Uj (toAs jH) m)
    |false=>.no)
   rw[b1];exact zz6 z jz (hz.rep m) (by rw[z5x,L]) h4
  ·exact h.elim
 |appG A s x =>
  simp only[LOp.ok,Hy]at g;have jz:=Pd B g.1;have j:=Pd B g.2;simp only[Oj]at h;simp only[LOp.r,Pe];obtain⟨n,l,l',E,C,M,H,O⟩:=zz5 z j h;rw[E];have b1:Nat.ble n 1048576=true:=Ib H;dsimp only;rw[b1];exact zz6 z jz C M O
 |copy A d x =>
  simp only[LOp.ok,Hy]at g;have hd:=Pd B g.1;have j:=Pd B g.2;simp only[Oj]at h;simp only[LOp.r,Pe];obtain⟨n,l,l',E,C,M,H⟩:=zz5 z j h;rw[E];dsimp only;have gY:∀a b:Nat,Qy a b=min a b:=λa b=>by
   unfold Qy;cases hb:Nat.ble a b with
   |true=>have:=Ih hb;simp only;omega
   |false =>
    have:¬a≤b:=λq=>by rw[Ib q]at hb;cases hb
    simp only;omega
  generalize d.ev ρ=v at H hd;generalize d.r.ev (ρA T)=a at hd ⊢;split at H
  ·rename_i p k;split at H
   ·rename_i r len esz gz st Z;obtain⟨gA,rfl,h⟩:=H;cases hd with
    | @dy _ _ k' hh _ e hk ha _ =>
     obtain⟨r0,r1,X⟩:=z.obj p _ _ _ Z e;have gD:=ha J;rcases X with ⟨X,r3⟩|⟨o,v,room,t,gL,r',X,r3⟩
     ·subst r3;have:r=[]:=Ip Dg;subst this;rw[gD,X];dsimp only;have hm:min n 0=0:=J
      rw[hm]at h;simp only[K2,Mw]at h;obtain⟨p1,p2,_⟩:=z.upd (k':=k') (x':=hh) (ob':=.dyn (Oq [] 0 []) 0 esz gz (st+1)) (H':=c.H) Z rfl e (Ia _) (λ_ _ _=>rfl) (λo e'=>⟨.inl e',z.lt o ⟨p,_,_,_,Z,rfl,e,e'⟩⟩) (Ia _) (λ_=>rfl) (λ_=>rfl) (.inl (Jl _))
       (λ_=>⟨r0,by simp[Oq],.inl ⟨X,rfl⟩⟩)
      exact⟨⟨c.hd.set p (k',hh),c.Fz,c.H⟩,.i (0:Nat),_,rfl,p1,p2,.i _,h⟩
     ·have hw:Wn G (.dptr p k 0) (l.take (min n len*esz)) (λG'=>K (.i (min n len:Nat)) G'):=by
       unfold Wn;dsimp only;rw[Z];refine⟨gA,?_,h⟩;rw[r1,J4,Iy];exact Ja (Nat.min_le_left _ _) (Ii _ (Nat.min_le_right _ _))
      obtain⟨o2,v2,i2,H',c',G',w1,w2,w3,w4,w5,w6⟩:=zcq z (a:=.ptr o v 0) (.dptr e hk (λ_=>⟨rfl,len,esz,room,X⟩)) (C.take (min n len*esz)) hw;cases w1;rw[gD,X];dsimp only;rw[I8,gY];dsimp only;rw[show Nat.mul (min n len) esz=min n len*esz from rfl,w2];exact⟨c',_,G',w3,w4,w5,.i _,w6⟩
   ·exact H.elim
  ·rename_i p k lo len;split at H
   ·rename_i r gF esz gz st Z;obtain⟨gA,rfl,jA,h⟩:=H;cases hd with
    | @vw _ _ _ _ k' hh _ e hk ha _ _ =>
     obtain⟨r0,r1,X⟩:=z.obj p _ _ _ Z e;have gP:len=0→(a=.nilSl∨a=.emp∧lo≠0)→Sy P c G K (.val (.int .i64 0) c.H):=by
      intro jB _;subst jB;have hm:min n 0=0:=J
      rw[hm]at h;simp only[K2,Mw]at h;have gQ:Oq r (lo*esz) []=r:=by unfold Oq;simp
      rw[gQ]at h;obtain⟨p1,p2,_⟩:=z.upd (k':=k') (x':=hh) (ob':=.dyn r gF esz gz (st+1)) (H':=c.H) Z rfl e (Ia _) (λ_ _ _=>rfl) (λo e'=>⟨.inl e',z.lt o ⟨p,_,_,_,Z,rfl,e,e'⟩⟩) (Ia _) (λ_=>rfl) (λ_=>rfl) (.inl (Jl _))
       (λgR=>(z.obj p _ _ _ Z e).mono gR (λ_ _=>rfl))
      exact⟨⟨c.hd.set p (k',hh),c.Fz,c.H⟩,.i (0:Nat),_,rfl,p1,p2,.i _,h⟩
     rcases ha J with ⟨r3,r4⟩|⟨o,v,gC,D,room,I,r3,r4,r9⟩
     ·have:=gP r3 r4;rcases r4 with rfl|⟨rfl,_⟩
      ·exact this
      ·exact this
     ·have e2:=e;rw[r3]at e2;obtain⟨_,w1,w2,w3,_⟩:=pi z Z e2;subst w2 w3;have hw:Wn G (.dptr p k (lo*D)) (l.take (min n len*D)) (λG'=>K (.i (min n len:Nat)) G'):=by
       unfold Wn;dsimp only;rw[Z];refine⟨gA,?_,h⟩;rw[J4];have F:min (min n len*D) l.length≤len*D:=Ja (Nat.min_le_left _ _) (Ii _ (Nat.min_le_right _ _));rw[Iu]at jA;omega
      obtain⟨o2,v2,i2,H',c',G',u1,u2,u3,u4,u5,u6⟩:=zcq z (a:=.ptr o v (lo*D)) (.dptr e hk (λ_=>⟨rfl,gC,D,room,r3⟩)) (C.take (min n len*D)) hw;cases u1;rw[r4];dsimp only;rw[I8,gY];dsimp only;rw[show Nat.mul (min n len) D=min n len*D from rfl,u2];exact⟨c',_,G',u3,u4,u5,.i _,u6⟩
   ·exact H.elim
  ·exact H.elim
 |clear A jH x =>
  simp only[LOp.ok,Hy]at g;have hz:=z8t c g.1;have j:=Pd B g.2;simp only[Oj]at h;simp only[LOp.r,Pe];generalize x.ev ρ=v at h j;generalize x.r.ev (ρA T)=a at j ⊢;split at h
  ·rename_i p k lo len;split at h
   ·rename_i r gF esz gz st Z;obtain⟨gA,rfl,jK,jA,h⟩:=h;cases j with
    | @vw _ _ _ _ k' hh _ e hk ha _ _ =>
     obtain⟨r0,r1,X⟩:=z.obj p _ _ _ Z e;have gP:len=0→Sy P c G K (.val Sq c.H):=by
      intro jB;subst jB;have gQ:Oq r (lo*esz) (Pl jH 0)=r:=by unfold Oq;simp[Pl]
      rw[gQ]at h;obtain⟨p1,p2,_⟩:=z.upd (k':=k') (x':=hh) (ob':=.dyn r gF esz gz (st+1)) (H':=c.H) Z rfl e (Ia _) (λ_ _ _=>rfl) (λo e'=>⟨.inl e',z.lt o ⟨p,_,_,_,Z,rfl,e,e'⟩⟩) (Ia _) (λ_=>rfl) (λ_=>rfl) (.inl (Jl _))
       (λgR=>(z.obj p _ _ _ Z e).mono gR (λ_ _=>rfl))
      exact⟨⟨c.hd.set p (k',hh),c.Fz,c.H⟩,.any,_,rfl,p1,p2,.any _,h⟩
     rcases ha J with ⟨r3,r4⟩|⟨o,v,gC,D,room,I,r3,r4,r9⟩
     ·have:=gP r3;rcases r4 with rfl|⟨rfl,_⟩
      ·exact this
      ·exact this
     ·have e2:=e;rw[r3]at e2;obtain⟨_,w1,w2,w3,_⟩:=pi z Z e2;subst w2 w3;have hw:Wn G (.dptr p k (lo*D)) (Pl jH len) (λG'=>K .any G'):=by
       unfold Wn;dsimp only;rw[Z];refine⟨gA,?_,h⟩;rw[z5x,jK,←Iu];exact jA
      obtain⟨o2,v2,i2,H',c',G',u1,u2,u3,u4,u5,u6⟩:=zcq z (a:=.ptr o v (lo*D)) (.dptr e hk (λ_=>⟨rfl,gC,D,room,r3⟩)) (hz.rep len) hw;cases u1;rw[r4];dsimp only;rw[I8];dsimp only;rw[u2];exact⟨c',.any,G',u3,u4,u5,.any _,u6⟩
   ·exact h.elim
  ·exact h.elim
 |mkMap0=>exact zkt z h
 |mkMap1 x =>
  have j:=Pd B g;simp only[Oj]at h;simp only[LOp.r,Pe];generalize x.ev ρ=v at h j;generalize x.r.ev (ρA T)=a at j ⊢;split at h
  ·cases j;exact zkt z h
  ·exact h.elim
 |lookup d jH ok x i =>
  simp only[LOp.ok,Hy]at g;have hz:=oo c g.1.1;have j:=Pd B g.1.2;have hi:=Pd B g.2;simp only[Oj]at h;simp only[LOp.r,Pe];obtain⟨es,jL,E,C,M,_⟩:=au z j h;rw[E];dsimp only;rcases zvv hi C M with ⟨f1,f2⟩|⟨v,b,f1,f2,f3⟩
  ·rw[f1];dsimp only;cases ok with
   |true=>exact .same z (.tup (.cons hz (.cons (.bool _) .nil))) f2
   |false=>exact .same z hz f2
  ·rw[f1];dsimp only;cases ok with
   |true=>exact .same z (.tup (.cons f2 (.cons (.bool _) .nil))) f3
   |false=>exact .same z f2 f3
 |mapUpd d m k v =>
  simp only[LOp.ok,Hy]at g;simp only[Oj]at h;simp only[LOp.r,Pe];exact i9 z (Pd B g.1.1) (Pd B g.1.2) (Pd B g.2) h
 |lenMap x =>
  have j:=Pd B g;simp only[Oj]at h;simp only[LOp.r,Pe];obtain⟨es,jL,E,C,M,H⟩:=au z j h;have gG:∀{l:List (LV×LV×Nat)} {r:List (AV×AV×Nat)},MRs c l r→l.length=r.length:=by
   intro l r hr
   induction hr with
   |nil=>rfl
   |cons _ _ _ ih=>simp[ih]
  rcases H with ⟨e1,rfl⟩|⟨o,ck,e1,e2⟩
  ·rw[e1];cases C;exact .same z (.i 0) M
  ·rw[e1];dsimp only;rw[e2];dsimp only;rw[←gG C];exact .same z (.i _) M
 |slArr n A x lo hi =>
  simp only[LOp.ok,Hy]at g;have j:=Pd B g.1.1;simp only[Oj]at h;simp only[LOp.r,Pe];generalize x.ev ρ=v at h j;generalize x.r.ev (ρA T)=a at j ⊢;split at h
  ·rename_i p i;split at h
   ·rename_i l st Z;obtain⟨h0,h⟩:=h;obtain⟨gg,V,E,C,M⟩:=Wt B g.1.2 h;obtain⟨Q,R,H,O,q6⟩:=Wt B g.2 M;rw[E,H];obtain⟨F,U,L⟩:=q6;cases j with
    | @ptr _ _ o e =>
     obtain⟨t,l',X,r3,r4⟩:=zov z Z e;obtain⟨a2,p1,p2,p3⟩:=zaw (lo:=gg) (hi:=Q) (o:=o) (v:=0) (i:=i) (len:=n) (esz:=A) (room:=some n) Cn Cv (λr e=>by cases e;exact Ia _);have b1:Nat.ble (Nat.add i (Nat.mul n A)) l.length=true:=Ib h0;simp only[Ql,X,b1];rw[p1];rw[C,O]at p3;obtain⟨u1,u2⟩:=z.freeze (st:=st+1) Z rfl (Jl _) e (rfl:Ok (.ptr o 0 0)=some o);have jE:i+V*A+(R-V)*A≤l.length:=by
      rw[Kg,←Iu];have:(V+(R-V))*A≤n*A:=Ii _ J;omega
     refine⟨⟨c.hd,λq=>c.Fz q∨q=o,c.H⟩,_,_,rfl,u1,u2,?_,L⟩;rcases p3 with ⟨e1,rfl,_⟩|⟨room,rfl,gI⟩
     ·rw[e1];simp only[K2,Mw];exact .lstEmp
     ·refine .lst (.inr rfl) gI Ab (W3 X r3 (Ia _) jE) (ARs.mono u2.le ((r4.drop _).take _))
   ·exact h.elim
  ·exact h.elim
 |callV f gH =>
  simp only[LOp.ok,Hy]at g;have hf:=Pd B g.1;have ha:=zws B g.2;simp only[Oj]at h;simp only[LOp.r,Pe];generalize f.ev ρ=v at h hf;generalize f.r.ev (ρA T)=a at hf ⊢;split at h
  ·rename_i jG l r;have jF:=h.1;cases hf with
   |fn Y hr =>
    rename_i l' r';have gE:zje P c.H (.fn (.func jG) l' r') ((rxs gH).map (·.ev (ρA T)))=.call (.fn jG) (l'++(rxs gH).map (·.ev (ρA T))++r'):=by
     have k2:wm P (.fn (.func jG) l' r') ((rxs gH).map (·.ev (ρA T)))=.call (.fn jG) (l'++(rxs gH).map (·.ev (ρA T))++r'):=by
      unfold wm;dsimp only;rw[H7 jF.1]
     unfold zje;split
     ·rename_i g' e;cases e;rw[jF.2];exact k2
     ·exact k2
    rw[gE];exact⟨.fn jG,_,rfl,(Y.append ha).append hr,h⟩
  ·rename_i p r;cases hf with
   |yield e=>exact⟨.yield p,_,e,ha,h⟩
  ·exact h.elim
end res
end
section
noncomputable section
structure RI where
 d:Option Nat
 g:Option (Nat×Bool)
 o:ROp
def dstOk(n:Nat):Option Nat→Bool
 |none=>true
 |some d=>Nat.blt d n
def zau(P:Program)(n:Nat)(ops:Array Oper)(o:Oper):Option RI :=
 match dstOk n o.dst with
 |false=>none
 |true=>match Ti P o.op with
  |none=>none
  |some r=>match o.guard with
   |none=>some ⟨o.dst,none,r⟩
   |some (g,w)=>match (ops[g]?).bind (·.dst) with
    |none=>none
    |some t=>match Nat.ble t Q1 with
     |true=>some ⟨o.dst,some (t,w),r⟩
     |false=>none
def zd6(P:Program)(n:Nat)(ops:Array Oper):List Oper→Option (List RI)
 |[]=>some []
 |o::l=>match zau P n ops o with
  |none=>none
  |some r=>match zd6 P n ops l with
   |none=>none
   |some g=>some (r::g)
structure LI where
 d:Option Nat
 g:Option (Nat×Bool)
 o:LOp
def LI.r(x:LI):RI:=⟨x.d,x.g,x.o.r⟩
def lis:List LI→List RI
 |[]=>[]
 |x::l=>x.r::lis l
def mf(g:Option (Nat×Bool))(j:Tr AV):Bool:=match g with
 |none=>true
 |some (t,w)=>match Nc (Nz t) j with
  |some (.bool b)=>match b with
   |true=>w
   |false=>!w
  |_=>false
def xw(P:Program)(x:RI)(k:Ry)(z:Tr AV)(A:Heap):OE:=match mf x.g z with
 |false=>.ok (Pp x.d Sq z) A
 |true=>match Pe P (ρA z) A x.o with
  |.no=>.no
  |.val v j=>.ok (Pp x.d v z) j
  |.call t g=>match k t g A with
   |.no=>.no
   |.ok v j=>.ok (Pp x.d v z) j
def zi0{P:Program}{n:Nat}{ops:Array Oper}{o:Oper}{x:RI}(h:zau P n ops o=some x)(k:Ry)(z:Tr AV)(I:Heap):(Rt P n ops o).run k z I=xw P x k z I:=by
 unfold zau at h;cases hd:dstOk n o.dst with
 |false=>rw[hd]at h;cases h
 |true =>
  rw[hd]at h;dsimp only at h;cases B:Ti P o.op with
  |none=>rw[B]at h;cases h
  |some r =>
   rw[B]at h;dsimp only at h;have K:∃p,Rp n o.dst=some p∧∀a z,p.run a z=Pp o.dst a z:=by
    cases C:o.dst with
    |none=>exact⟨_,rfl,λ_ _=>rfl⟩
    |some d =>
     rw[C]at hd;have D:d<n:=Ih hd;unfold Rp;dsimp only;rw[H7 D];exact⟨_,rfl,λ_ _=>rfl⟩
   obtain⟨p,E,g⟩:=K;have L:x.d=o.dst∧x.o=r∧(Tf ops o).run z=mf x.g z:=by
    cases A:o.guard with
    |none =>
     rw[A]at h;cases h;refine⟨rfl,rfl,?_⟩;unfold Tf;rw[A];rfl
    |some M =>
     obtain⟨U,w⟩:=M;rw[A]at h;dsimp only at h;cases F:(ops[U]?).bind (·.dst) with
     |none=>rw[F]at h;cases h
     |some t =>
      rw[F]at h;dsimp only at h;cases H:Nat.ble t Q1 with
      |false=>rw[H]at h;cases h
      |true =>
       rw[H]at h;cases h;refine⟨rfl,rfl,?_⟩;unfold Tf;rw[A];dsimp only;rw[F];dsimp only;rw[H7 (Ih H)];rfl
   obtain⟨O,Q,R⟩:=L;unfold Rt xw;rw[E];dsimp only;rw[R,O,Q,zwo (zv9 z) B I];cases mf x.g z with
   |false=>simp only[g]
   |true =>
    dsimp only;cases Pe P (ρA z) I r with
    |no=>rfl
    |val v T=>simp only[g]
    |call t j =>
     dsimp only;cases k t j I with
     |no=>rfl
     |ok v T=>simp only[g]
def zyg{P:Program}{x:RI}{k A:Ry}(D:k.le A){B:Heap}(h:xw P x k T vT=.ok vC B):xw P x A T vT=.ok vC B:=by
 unfold xw at h ⊢;cases C:mf x.g T with
 |false=>rw[C]at h;exact h
 |true =>
  rw[C]at h;dsimp only at h ⊢;cases j:Pe P (ρA T) vT x.o with
  |no=>rw[j]at h;cases h
  |val v E=>rw[j]at h;exact h
  |call t g =>
   rw[j]at h;dsimp only at h ⊢;cases z:k t g vT with
   |no=>rw[z]at h;cases h
   |ok v E=>rw[z]at h;rw[D _ _ _ _ _ z];exact h
def Td(g:M9)(d:Option Nat)(v:LV):M9:=match d with
 |none=>g
 |some d=>(d,v)::g
def setL(t:Nat)(v:LV):M9→M9
 |[]=>[]
 |(d,x)::l=>if t=d then (d,v)::l else (d,x)::setL t v l
def wo(v:LV)(g j z:Prop):Prop:=match v with
 |.bool t=>Uk t g j
 |.tup []=>z
 |_=>False
def kg(P:Program)(x:LI)(g:M9)(G:M7)(z:M9→M7→Prop):Prop:=match x.g with
 |none=>Oj P g G x.o λv j=>z (Td g x.d v) j
 |some (t,true)=>wo (lk g t) (Oj P (setL t (.bool true) g) G x.o λv j=>z (Td (setL t (.bool true) g) x.d v) j) (z (Td (setL t (.bool false) g) x.d (.tup [])) G) (z (Td g x.d (.tup [])) G)
 |some (t,false)=>wo (lk g t) (z (Td (setL t (.bool true) g) x.d (.tup [])) G) (Oj P (setL t (.bool false) g) G x.o λv j=>z (Td (setL t (.bool false) g) x.d v) j) (z (Td g x.d (.tup [])) G)
def sj{v:LV}{g:Prop}(h:brV v uO g):∃b,v=.bool b∧(b=true→uO)∧(b=false→g):=by
 cases v with
 |bool b=>exact⟨b,rfl,h⟩
 |_=>exact h.elim
def zqd{v:LV}{g j:Prop}(h:wo v uO g j):(∃b,v=.bool b∧(b=true→uO)∧(b=false→g))∨v=.tup []∧j:=by
 unfold wo at h;split at h
 ·exact .inl ⟨_,rfl,h⟩
 ·exact .inr ⟨rfl,h⟩
 ·exact h.elim
def jb{P:Program}{x:LI}{t:Nat}{w:Bool}(z:x.g=some (t,w)){g:M9}{G:M7}{j:M9→M7→Prop}(h:kg P x g G j) :
  (∃b,lk g t=.bool b∧(b=w→Oj P (setL t (.bool w) g) G x.o λv A=>j (Td (setL t (.bool w) g) x.d v) A)∧(b=!w→j (Td (setL t (.bool (!w)) g) x.d (.tup [])) G))∨lk g t=.tup []∧j (Td g x.d (.tup [])) G:=by
 unfold kg at h;rw[z]at h;cases w with
 |true=>exact zqd h
 |false =>
  rcases zqd h with ⟨b,e,B,C⟩|h
  ·exact .inl ⟨b,e,C,B⟩
  ·exact .inr h
def U5(P:Program):List LI→M9→M7→(M9→M7→Prop)→Prop
 |[],g,G,j=>j g G
 |x::l,g,G,j=>kg P x g G λz A=>U5 P l z A j
def Ou.put{c:Cx}{ρ:M9}{E:Tr AV}(h:Ou c ρ E){v:LV}{a:AV}(ha:AR c v a)(d:Option Nat):Ou c (Td ρ d v) (Pp d a E):=by
 cases d with
 |none=>exact h
 |some d =>
  intro t;show AR c (lk ((d,v)::ρ) t) ((Nc (Nz t) (Pg a (Nz d) E)).getD Sq);rw[zla,zlh];by_cases e:t=d
  ·rw[H7 e,H7 e];exact ha
  ·rw[Hx e,Hx e];exact h t
def zzw(t:Nat)(v:LV):∀(z:M9) (g:Nat),lk (setL t v z) g=lk z g∨(g=t∧lk (setL t v z) g=v)
 |[],_=>.inl rfl
 |(d,x)::l,g=>by
  simp only[setL];by_cases h:t=d
  ·rw[H7 h];simp only[zlh];by_cases j:g=d
   ·rw[H7 j];exact .inr ⟨J,rfl⟩
   ·rw[Hx j,Hx j];exact .inl rfl
  ·rw[Hx h];simp only[zlh];by_cases j:g=d
   ·rw[H7 j,H7 j];exact .inl rfl
   ·rw[Hx j,Hx j];exact zzw t v l g
def Ou.setL{c:Cx}{ρ:M9}{E:Tr AV}(h:Ou c ρ E){t:Nat}{v:LV}(ha:AR c v ((Nc (Nz t) E).getD Sq)):Ou c (Sv.setL t v ρ) E:=by
 intro t';rcases zzw t v ρ t' with e|⟨rfl,e⟩
 ·rw[e];exact h t'
 ·rw[e];exact ha
section run
variable {P : Program} {c : Cx} {G : M7}
def m9(M:HSim c G){R:M9}(A:Ou c R T){x:LI}(U:x.o.ok=true){gg:M9→M7→Prop}(h:kg P x R G gg) :
  ∃m I j K z,xw P x.r (S8 P (OL P) m) T c.H=.ok I j.H∧HSim j z∧Step c G j z∧Ou j K I∧gg K z:=by
 have D:∀R,Ou c R T→(Oj P R G x.o λv z=>gg (Td R x.d v) z)→mf x.g T=true→∃m I j K z,xw P x.r (S8 P (OL P) m) T c.H=.ok I j.H∧HSim j z∧Step c G j z∧Ou j K I∧gg K z:=by
  intro R A h L;have E:=OpL_ok M A U h;unfold Sy at E;unfold xw;rw[show x.r.g=x.g from rfl,L];dsimp only[LI.r];cases he:Pe P (ρA T) c.H x.o.r with
  |no=>rw[he]at E;exact E.elim
  |val v1 H' =>
   rw[he]at E;obtain⟨j,v,z,rfl,V,O,q4,q5⟩:=E;exact⟨0,_,j,_,z,rfl,V,O,(A.mono O.le).put q4 x.d,q5⟩
  |call t1 F =>
   rw[he]at E;obtain⟨t,Z,q1,V,_,O⟩:=E;obtain⟨m,v1,H',r1,j,v,z,rfl,r3,r4,r5,r6⟩:=O c t1 F M q1 V;refine⟨m,_,j,_,z,?_,r3,r4,(A.mono r4.le).put r5 x.d,r6⟩;dsimp only;rw[r1]
 cases B:x.g with
 |none =>
  unfold kg at h;rw[B]at h;exact D R A h (by rw[B];rfl)
 |some tw =>
  obtain⟨t,w⟩:=tw;have L:=B;rcases jb B h with ⟨b,X,h⟩|⟨X,h⟩
  rotate_left
  ·have C:=A t;rw[X]at C;have H:mf x.g T=false:=by
    rw[L];unfold mf;dsimp only;cases Q:Nc (Nz t) T with
    |none=>rfl
    |some a=>rw[Q]at C;cases C;rfl
   refine⟨0,_,c,_,G,?_,M,.refl c G,A.put (.tup .nil) x.d,h⟩;unfold xw;rw[show x.r.g=x.g from rfl,H];rfl
  ·have C:=A t;rw[X]at C;have g:Nc (Nz t) T=some (.bool b):=by
    cases Q:Nc (Nz t) T with
    |none=>rw[Q]at C;cases C
    |some a=>rw[Q]at C;cases C;rfl
   by_cases e:b=w
   ·refine D _ (A.setL (by rw[g,←e];exact .bool b)) (h.1 e) ?_;rw[L];unfold mf;dsimp only;rw[g,e];cases w<;>rfl
   ·have Y:b=!w:=by cases b<;>cases w<;>simp_all
    refine⟨0,_,c,_,G,?_,M,.refl c G,(A.setL (by rw[g,←Y];exact .bool b)).put (.tup .nil) x.d,h.2 Y⟩;have H:mf x.g T=false:=by
     rw[L];unfold mf;dsimp only;rw[g,Y];cases w<;>rfl
    unfold xw;rw[show x.r.g=x.g from rfl,H];rfl
def du{n:Nat}{ops:Array Oper}:∀{l:List LI} {j:List Oper} {c:Cx} {G:M7} {K:M9} {L:Tr AV} {M:M9→M7→Prop},zd6 P n ops j=some (lis l)→l.all (·.o.ok)=true→HSim c G→Ou c K L→U5 P l K G M →
  ∃m O B C A,(wu P n ops j).run (S8 P (OL P) m) L c.H=.ok O B.H∧HSim B A∧Step c G B A∧Ou B C O∧M C A
 |[],j,c,G,K,L,M,g,_,D,E,h=>by
  cases j with
  |nil=>exact⟨0,L,c,K,G,rfl,D,.refl c G,E,h⟩
  |cons o j =>
   simp only[zd6]at g;split at g
   ·cases g
   ·split at g<;>cases g
 |x::l,j,c,G,K,L,M,g,z,D,E,h=>by
  cases j with
  |nil=>cases g
  |cons o j =>
   simp only[zd6]at g;split at g
   ·cases g
   ·rename_i r F;split at g
    ·cases g
    ·rename_i rs H;simp only[lis,Option.some.injEq,List.cons.injEq]at g;obtain⟨rfl,rfl⟩:=g;simp only[Ki,Hy]at z;obtain⟨m1,E1,c1,ρ1,G1,R,Q,T,U,V⟩:=m9 D E z.1 (show kg P x K G λC A=>U5 P l C A M from h);obtain⟨I,X,Y,Z,G2,q1,q2,q3,q4,q5⟩:=du H z.2 Q U V;refine⟨max m1 I,X,Y,Z,G2,?_,q2,.trans D Q T q3,q4,q5⟩;simp only[wu];rw[zi0 F,zyg (yc (Kr m1 I)) R];dsimp only;exact zc1 (yc (Lj m1 I)) q1
end run
end
end
section
noncomputable section
inductive RC where
 |skip
 |ops (l:List RI)
 |draw (l:List (RI×List (RI×Bool)))
 |seq (a b:RC)
 |cond (c:Ox) (a b:RC)
 |block (id:Nat) (c:RC)
 |loop (c:RC)
 |rangeF (g:Ox) (ps:List Nat) (a b:RC)
 |exit (id:Nat)
 |scope (c:RC)
 |label
 |ret
 |stuck
inductive LC where
 |skip
 |ops (l:List LI)
 |draw (l:List (LI×List (LI×Bool)))
 |seq (a b:LC)
 |cond (c:Lx) (a b:LC)
 |block (id:Nat) (c:LC)
 |loop (c:LC)
 |rangeF (g:Lx) (ps:List Nat) (a b:LC)
 |exit (id:Nat)
 |scope (c:LC)
 |label
 |ret
 |stuck
def Xb(t:Nat):List Nat→Bool
 |[]=>false
 |a::l=>match Nat.beq t a with
  |true=>true
  |false=>Xb t l
def de(ops:Array Oper)(d:Option Nat)(x:DOp):Bool:=match d with
 |none=>true
 |some d=>match Xb d (Vq ops x.o) with
  |true=>false
  |false=>match x.o.dst with
   |none=>true
   |some e=>!(Nat.beq d e)
def Vz(x:DOp):Bool:=match x.c with
 |.al=>true
 |_=>false
def zn2(P:Program)(n:Nat)(ops:Array Oper):List DOp→Option (List (RI×Bool))
 |[]=>some []
 |x::l=>match zau P n ops x.o with
  |none=>none
  |some r=>match zn2 P n ops l with
   |none=>none
   |some g=>some ((r,Vz x)::g)
def eqCls:Cls→Cls→Bool
 |.quiet,.quiet=>true
 |.rd,.rd=>true
 |.al,.al=>true
 |.ch,.ch=>true
 |_,_=>false
def zks(ops:Array Oper)(x:DOp):Bool:=match x.o.dst with
 |none=>false
 |some d=>!(Xb d (Vq ops x.o))
def zpw(P:Program)(n:Nat)(ops:Array Oper):List DOp→List DOp→Option (List (RI×List (RI×Bool)))
 |[],_=>some []
 |x::l,g=>match W0 (de ops x.o.dst) g&&eqCls x.c (cls P x.o.op) with
  |false=>none
  |true=>match zau P n ops x.o with
   |none=>none
   |some r=>match x.c with
    |.quiet=>match zpw P n ops l g with
     |none=>none
     |some j=>some ((r,[])::j)
    |.rd=>match zks ops x with
     |false=>none
     |true=>match zpw P n ops l (x::g) with
      |none=>none
      |some j=>some ((r,[])::j)
    |.al=>match zks ops x with
     |false=>none
     |true=>match zn2 P n ops g with
      |none=>none
      |some z=>match zpw P n ops l (x::g) with
       |none=>none
       |some j=>some ((r,z)::j)
    |.ch=>match zn2 P n ops (Oo (λy=>!(Nat.testBit x.m y.i)) g) with
     |none=>none
     |some z=>match zpw P n ops l (Oo (λy=>!(Nat.testBit x.m y.i)) g) with
      |none=>none
      |some j=>some ((r,z)::j)
def zus(P:Program)(n:Nat)(ops:Array Oper):Option (List (RI×List (RI×Bool))) :=
 let z:=Q9 P ops ops.toList [] 0;let g:=Oo Np z;let j:=Xx z g
 match Yq ops.size z j with
 |true=>zpw P n ops j []
 |false=>none
def Ol(P:Program)(n:Nat):Code→Option RC
 |.skip=>some .skip
 |.region _ ops draw=>match draw with
  |true=>match zus P n ops with
   |none=>some .stuck
   |some l=>some (.draw l)
  |false=>match zd6 P n ops ops.toList with
   |none=>some .stuck
   |some l=>some (.ops l)
 |.seq a b=>match Ol P n a with
  |none=>none
  |some a=>match Ol P n b with
   |none=>none
   |some b=>some (.seq a b)
 |.cond c a b=>match O3 c with
  |none=>none
  |some c=>match Ol P n a with
   |none=>none
   |some a=>match Ol P n b with
    |none=>none
    |some b=>some (.cond c a b)
 |.block id c=>match Ol P n c with
  |none=>none
  |some c=>some (.block id c)
 |.loop c=>match Ol P n c with
  |none=>none
  |some c=>some (.loop c)
 |.rangeFunc g j a b=>match O3 g with
  |none=>none
  |some g=>match Ol P n a with
   |none=>none
   |some a=>match Ol P n b with
    |none=>none
    |some b=>some (.rangeF g j.toList a b)
 |.exit id=>some (.exit id)
 |.scope c=>match Ol P n c with
  |none=>none
  |some c=>some (.scope c)
 |.label _=>some .label
 |.ret=>some .ret
 |_=>some .stuck
def rck:List (LI×Bool)→List (RI×Bool)
 |[]=>[]
 |(x,b)::l=>(x.r,b)::rck l
def rdr:List (LI×List (LI×Bool))→List (RI×List (RI×Bool))
 |[]=>[]
 |(x,c)::l=>(x.r,rck c)::rdr l
def LC.r:LC→RC
 |.skip=>.skip
 |.ops l=>.ops (lis l)
 |.draw l=>.draw (rdr l)
 |.seq a b=>.seq a.r b.r
 |.cond c a b=>.cond c.r a.r b.r
 |.block id c=>.block id c.r
 |.loop c=>.loop c.r
 |.rangeF g ps a b=>.rangeF g.r ps a.r b.r
 |.exit id=>.exit id
 |.scope c=>.scope c.r
 |.label=>.label
 |.ret=>.ret
 |.stuck=>.stuck
def LC.ok:LC→Bool
 |.ops l=>l.all (·.o.ok)
 |.draw l=>l.all λx=>x.1.o.ok&&x.2.all (·.1.o.ok)
 |.seq a b=>a.ok&&b.ok
 |.cond c a b=>c.ok&&a.ok&&b.ok
 |.block _ c=>c.ok
 |.loop c=>c.ok
 |.rangeF g _ a b=>g.ok&&a.ok&&b.ok
 |.scope c=>c.ok
 |_=>true
abbrev Qi:=Ex→M9→List Nat→M7→Prop
inductive DRs (c:Cx):List Nat→List Nat→Prop where
 |nil:DRs c [] []
 |cons {p o:Nat} {l r:List Nat} (h:c.hd[p]?=some (0,.ptr o 0 0)) (hs:DRs c l r):DRs c (p::l) (o::r)
def DRs.mono{c c':Cx}(h:CxLe c c'):∀{l r:List Nat},DRs c l r→DRs c' l r
 |_,_,.nil=>.nil
 |_,_,.cons e es=>.cons (h.fix e rfl) (DRs.mono h es)
def ROr(c:Cx):Option Nat→Option Nat→Prop
 |none,none=>True
 |some p,some o=>c.hd[p]?=some (0,.ptr o 0 0)
 |_,_=>False
def ROr.mono{c:Cx}(h:CxLe c vg){a b:Option Nat}(k:ROr c a b):ROr vg a b:=by
 cases a<;>cases b<;>first|exact k|exact h.fix k rfl
def W(P:Program)(f n:Nat)(s:LC)(ro:Option Nat)(ρ:M9)(D:List Nat)(G:M7)(Q:Qi):Prop :=
 ∀(g:Code) (c:Cx) (I:Tr AV) (C:List Nat) (j:Option Nat),Ol P n g=some s.r→s.ok=true→HSim c G→Ou c ρ I→DRs c D C→ROr c ro j →
  ∃m x E z A F H B,(Qt P f n g).run (S8 P (OL P) m) m j I C c.H=.ok x E z A.H∧HSim A B∧Step c G A B∧Ou A F E∧DRs A H z∧Q x F H B
section rules
variable {P : Program} {f n : Nat} {ro : Option Nat} {ρ : M9} {D : List Nat} {G : M7} {Q : Qi}
def W.post{s:LC}{Q':Qi}(h:W P f n s ro ρ D G Q)(hq:∀x ρ D G,Q x ρ D G→Q' x ρ D G):W P f n s ro ρ D G Q':=by
 intro code c E D1 gg h1 h2 h3 h4 h5 h6;obtain⟨m,x,E',gz,c',ρ',D',G',q1,q2,q3,q4,q5,q6⟩:=h code c E D1 gg h1 h2 h3 h4 h5 h6;exact⟨m,x,E',gz,c',ρ',D',G',q1,q2,q3,q4,q5,hq _ _ _ _ q6⟩
def ub(h:Ol P n uP=some .skip):uP=.skip:=by
 cases uP<;>simp only[Ol]at h<;>first|rfl|(repeat' split at h)<;>cases h
def yn{l:List RI}(h:Ol P n uP=some (.ops l)):∃id ops,uP=.region id ops false∧zd6 P n ops ops.toList=some l:=by
 cases uP<;>simp only[Ol]at h<;>(repeat' split at h)<;>cases h;exact⟨_,_,rfl,‹_›⟩
def u9{l:List (RI×List (RI×Bool))}(h:Ol P n uP=some (.draw l)):∃id ops,uP=.region id ops true∧zus P n ops=some l:=by
 cases uP<;>simp only[Ol]at h<;>(repeat' split at h)<;>cases h;exact⟨_,_,rfl,‹_›⟩
def zq{a b:RC}(h:Ol P n uP=some (.seq a b)):∃g j,uP=.seq g j∧Ol P n g=some a∧Ol P n j=some b:=by
 cases uP<;>simp only[Ol]at h<;>(repeat' split at h)<;>cases h;exact⟨_,_,rfl,‹_›,‹_›⟩
def uz{x:Ox}{a b:RC}(h:Ol P n uP=some (.cond x a b)):∃g j z,uP=.cond g j z∧O3 g=some x∧Ol P n j=some a∧Ol P n z=some b:=by
 cases uP<;>simp only[Ol]at h<;>(repeat' split at h)<;>cases h;exact⟨_,_,_,rfl,‹_›,‹_›,‹_›⟩
def gf{id:Nat}{a:RC}(h:Ol P n uP=some (.block id a)):∃g,uP=.block id g∧Ol P n g=some a:=by
 cases uP<;>simp only[Ol]at h<;>(repeat' split at h)<;>cases h;exact⟨_,rfl,‹_›⟩
def vm{a:RC}(h:Ol P n uP=some (.loop a)):∃g,uP=.loop g∧Ol P n g=some a:=by
 cases uP<;>simp only[Ol]at h<;>(repeat' split at h)<;>cases h;exact⟨_,rfl,‹_›⟩
def pz{id:Nat}(h:Ol P n uP=some (.exit id)):uP=.exit id:=by
 cases uP<;>simp only[Ol]at h<;>(repeat' split at h)<;>cases h;rfl
def gw{a:RC}(h:Ol P n uP=some (.scope a)):∃g,uP=.scope g∧Ol P n g=some a:=by
 cases uP<;>simp only[Ol]at h<;>(repeat' split at h)<;>cases h;exact⟨_,rfl,‹_›⟩
def iy(h:Ol P n uP=some .label):∃s,uP=.label s:=by
 cases uP<;>simp only[Ol]at h<;>(repeat' split at h)<;>cases h;exact⟨_,rfl⟩
def zp(h:Ol P n uP=some .ret):uP=.ret:=by
 cases uP<;>simp only[Ol]at h<;>first|rfl|(repeat' split at h)<;>cases h
def W_skip(h:Q .normal ρ D G):W P f n .skip ro ρ D G Q:=by
 intro g c F j z A H B C E I;obtain rfl:=ub A;exact⟨0,.normal,F,j,c,ρ,D,G,rfl,B,.refl c G,C,E,h⟩
def W_label(h:Q .normal ρ D G):W P f n .label ro ρ D G Q:=by
 intro g c F j z A H B C E I;obtain⟨s,rfl⟩:=iy A;exact⟨0,.normal,F,j,c,ρ,D,G,rfl,B,.refl c G,C,E,h⟩
def W_exit{id:Nat}(h:Q (.exit id) ρ D G):W P f n (.exit id) ro ρ D G Q:=by
 intro g c F j z A H B C E I;obtain rfl:=pz A;exact⟨0,.exit id,F,j,c,ρ,D,G,rfl,B,.refl c G,C,E,h⟩
def W_ret(h:Q .ret ρ D G):W P f n .ret ro ρ D G Q:=by
 intro g c F j z A H B C E I;obtain rfl:=zp A;exact⟨0,.ret,F,j,c,ρ,D,G,rfl,B,.refl c G,C,E,h⟩
def W_scope{s:LC}(h:W P f n s ro ρ D G Q):W P f n (.scope s) ro ρ D G Q:=by
 intro z c L A g B C E F H I;obtain⟨K,rfl,j⟩:=gw B;exact h K c L A g j C E F H I
def W_ops{l:List LI}(h:U5 P l ρ G λg j=>Q .normal g D j):W P f n (.ops l) ro ρ D G Q:=by
 intro z c Y B C E F H I K X;obtain⟨id,ops,rfl,L⟩:=yn E;obtain⟨m,M,O,g,j,R,T,A,U,V⟩:=du L F H I h;refine⟨m,.normal,M,B,O,g,D,j,?_,T,A,U,K.mono A.le,V⟩;simp only[Qt];rw[R]
def py{a b:LC}(h:W P f n a ro ρ D G λx j z A=>match x with
  |.normal=>W P f n b ro j z A Q
  |x=>Q x j z A):W P f n (.seq a b) ro ρ D G Q:=by
 intro U c gg Y B Z H V h4 h5 X;obtain⟨ca,cb,rfl,ha,hb⟩:=zq Z;simp only[LC.ok,Hy]at H;obtain⟨m,x,I,g,K,j,z,A,L,E,F,M,O,R⟩:=h ca c gg Y B ha H.1 V h4 h5 X;cases x with
 |normal =>
  obtain⟨C,x,E2,D2,c2,ρ2,T,G2,r1,r2,r3,r4,r5,r6⟩:=R cb K I g B hb H.2 E M O (X.mono F.le);refine⟨max m C,x,E2,D2,c2,ρ2,T,G2,?_,r2,.trans V E F r3,r4,r5,r6⟩;simp only[Qt];rw[z2u (yc (Kr m C)) (Kr m C) _ L];exact z2u (yc (Lj m C)) (Lj m C) _ r1
 |exit id =>
  refine⟨m,.exit id,I,g,K,j,z,A,?_,E,F,M,O,R⟩;simp only[Qt];rw[L]
 |ret =>
  refine⟨m,.ret,I,g,K,j,z,A,?_,E,F,M,O,R⟩;simp only[Qt];rw[L]
def W_cond{x:Lx}{a b:LC}{t:Bool}(hx:x.ev ρ=.bool t)(ha:t=true→W P f n a ro ρ D G Q)(hb:t=false→W P f n b ro ρ D G Q):W P f n (.cond x a b) ro ρ D G Q:=by
 intro T c U V j h1 z X A Y Z;obtain⟨cx,ca,cb,rfl,B,C,E⟩:=uz h1;simp only[LC.ok,Hy]at z;have hv:=Pd A z.1.1;have F:=U7 B (zv9 U);have H:x.r.ev (ρA U)=.bool t:=by
  rw[hx]at hv;generalize x.r.ev (ρA U)=w at hv;cases hv;rfl
 rw[H]at F;cases t with
 |true =>
  obtain⟨m,x,I,g,K,L,M,O,R,q⟩:=ha rfl ca c U V j C z.1.2 X A Y Z;refine⟨m,x,I,g,K,L,M,O,?_,q⟩;simp only[Qt];rw[F];exact R
 |false =>
  obtain⟨m,x,I,g,K,L,M,O,R,q⟩:=hb rfl cb c U V j E z.2 X A Y Z;refine⟨m,x,I,g,K,L,M,O,?_,q⟩;simp only[Qt];rw[F];exact R
def zl{id:Nat}{s:LC}(h:W P f n s ro ρ D G λx j z A=>match x with
  |.exit i=>if i=id then Q .normal j z A else Q (.exit i) j z A
  |x=>Q x j z A):W P f n (.block id s) ro ρ D G Q:=by
 intro R c gg T M U V X Y Z h6;obtain⟨ca,rfl,O⟩:=gf U;obtain⟨m,x,C,g,E,j,z,A,F,H,I,K,L,B⟩:=h ca c gg T M O V X Y Z h6;cases x with
 |normal =>
  refine⟨m,.normal,C,g,E,j,z,A,?_,H,I,K,L,B⟩;simp only[Qt];rw[F]
 |exit i =>
  dsimp only at B;by_cases e:i=id
  ·rw[H7 e]at B;refine⟨m,.normal,C,g,E,j,z,A,?_,H,I,K,L,B⟩;simp only[Qt];rw[F,e];dsimp only;rw[I8]
  ·rw[Hx e]at B;refine⟨m,.exit i,C,g,E,j,z,A,?_,H,I,K,L,B⟩;simp only[Qt];rw[F];dsimp only;cases hb:Nat.beq i id with
   |true=>exact absurd (Ie hb) e
   |false=>rfl
 |ret =>
  refine⟨m,.ret,C,g,E,j,z,A,?_,H,I,K,L,B⟩;simp only[Qt];rw[F]
def uj{s:LC}(gE:M9→List Nat→M7→Nat→Prop)(h0:gE ρ D G g)
  (h:∀g ρ D G,gE ρ D G g→W P f n s ro ρ D G λx A B z=>match x with
   |.normal=>∃M,M<g∧gE A B z M
   |x=>Q x A B z):W P f n (.loop s) ro ρ D G Q:=by
 intro gD c gC H F h1 h2 O V X R;obtain⟨ca,rfl,Y⟩:=vm h1;have Z:∀g,∀(c:Cx) (gC:Tr AV) (H:List Nat) (ρ:M9) (D:List Nat) (G:M7),gE ρ D G g→HSim c G→Ou c ρ gC→DRs c D H→ROr c ro F →
   ∃m I x E j C A B z,om ((Qt P f n ca).run (S8 P (OL P) m) m F) I gC H c.H=.ok x E j C.H∧HSim C z∧Step c G C z∧Ou C A E∧DRs C B j∧Q x A B z:=by
  intro g
  induction g using Nat.strongRecOn with
  |_ g ih =>
   intro c gC H ρ D G hI O V X R;obtain⟨m,x,E,j,C,A,B,z,K,T,U,q4,q5,q6⟩:=h g ρ D G hI ca c gC H F Y h2 O V X R;cases x with
   |normal =>
    obtain⟨M,hN,gg⟩:=q6;obtain⟨L,gz,x,E2,D2,c2,ρ2,gA,G2,r1,r2,r3,r4,r5,r6⟩:=ih M hN C E j A B z gg T q4 q5 (R.mono U.le);refine⟨max m L,gz+1,x,E2,D2,c2,ρ2,gA,G2,?_,r2,.trans O T U r3,r4,r5,r6⟩;simp only[om];rw[z2u (yc (Kr m L)) (Kr m L) _ K];exact zdl (λ_ _ _ _ _ _ _ e=>z2u (yc (Lj m L)) (Lj m L) _ e) (Ia _) r1
   |exit id =>
    refine⟨m,1,.exit id,E,j,C,A,B,z,?_,T,U,q4,q5,q6⟩;simp only[om];rw[K]
   |ret =>
    refine⟨m,1,.ret,E,j,C,A,B,z,?_,T,U,q4,q5,q6⟩;simp only[om];rw[K]
 obtain⟨m,I,x,E,j,C,A,B,z,K,q⟩:=Z g c gC H ρ D G h0 O V X R;refine⟨max m I,x,E,j,C,A,B,z,?_,q⟩;simp only[Qt];exact zdl (λ_ _ _ _ _ _ _ e=>z2u (yc (Kr m I)) (Kr m I) _ e) (Lj m I) K
end rules
inductive RRes where
 |tmp (t:Nat)
 |cell1 (t:Nat)
 |cellN (t n:Nat)
def resR(P:Program):ResultVar→Option RRes
 |.tmp t=>match Nat.ble t Q1 with
  |true=>some (.tmp t)
  |false=>none
 |.cell a t=>match Nat.ble a Q1 with
  |true=>match To P t,Px P t with
   |some true,some n=>some (.cellN a n)
   |some false,some _=>some (.cell1 a)
   |_,_=>none
  |false=>none
def Xf(P:Program):List ResultVar→Option (List RRes)
 |[]=>some []
 |r::l=>match resR P r with
  |none=>none
  |some a=>match Xf P l with
   |none=>none
   |some b=>some (a::b)
structure RF where
 n:Nat
 c:RC
 rs:List RRes
def Ng(P:Program)(f:Nat):Option RF :=
 match zb P f && !(zgt P f) && !(zmx P f) with
 |false=>none
 |true=>match P.funcs[f]? with
  |none=>none
  |some fn=>match fn.body with
   |none=>none
   |some b=>match Nat.ble fn.ntmps Q1 with
    |false=>none
    |true=>match Ol P fn.ntmps b with
     |none=>none
     |some c=>match Xf P fn.results.toList with
      |none=>none
      |some g=>some ⟨fn.ntmps,c,g⟩
def Rr(ρ:M9)(G:M7):List RRes→(List LV→Prop)→Prop
 |[],j=>j []
 |r::l,j=>match r with
  |.tmp t=>Rr ρ G l λg=>j (lk ρ t::g)
  |.cell1 t=>cu G (lk ρ t) λv=>Rr ρ G l λg=>j (v::g)
  |.cellN t n=>Yb G (lk ρ t) n λz=>Rr ρ G l λg=>j (.agg z::g)
def Uq:List LV→LV
 |[v]=>v
 |l=>.tup l
def ma:List LV→Nat→M9
 |[],_=>[]
 |v::l,i=>(i,v)::ma l (i+1)
def yj:List Nat→M7→(M7→Prop)→Prop
 |[],G,g=>g G
 |d::l,G,g=>match G[d]? with
  |some (.defd true)=>yj l (G.set d (.defd false)) g
  |_=>False
section fns
variable {P : Program}
def zkr{c:Cx}{G:M7}{ρ:M9}{I:Tr AV}(B:HSim c G)(A:Ou c ρ I):∀{l:List ResultVar} {H:List RRes} {K:List LV→Prop},Xf P l=some H→Rr ρ G H K→∃g as,(zri P l).run I c.H=some as∧ARs c g as∧K g
 |[],H,K,h,k=>by cases h;exact⟨[],[],rfl,.nil,k⟩
 |r::l,H,K,h,k=>by
  simp only[Xf]at h;split at h
  ·cases h
  ·rename_i a j;split at h
   ·cases h
   ·rename_i b L;cases h;simp only[zri];cases r with
    |tmp t =>
     simp only[resR]at j;split at j
     ·rename_i M;cases j;obtain⟨g,as,C,E,F⟩:=zkr B A L (show Rr ρ G b (λg=>K (lk ρ t::g)) from k);have z:(N6 (.tmp t)).run I=some ((Nc (Nz t) I).getD Sq):=by
       unfold N6;dsimp only;rw[M];dsimp only;cases Nc (Nz t) I<;>rfl
      refine⟨_,_,?_,.cons (A t) E,F⟩;simp only[resF];rw[z,C]
     ·cases j
    |cell t Z =>
     simp only[resR]at j;split at j
     ·rename_i M;have z:(N6 (.tmp t)).run I=some ((Nc (Nz t) I).getD Sq):=by
       unfold N6;dsimp only;rw[M];dsimp only;cases Nc (Nz t) I<;>rfl
      split at j
      ·rename_i m O R;cases j;obtain⟨o,v,i,l',Y,T,U,V,X⟩:=zo8 B (A t) (show Yb G (lk ρ t) m (λY=>Rr ρ G b λg=>K (.agg Y::g)) from k);obtain⟨g,as,C,E,F⟩:=zkr B A L X;refine⟨_,_,?_,.cons (.agg V) E,F⟩;simp only[Sv.resF,O,R];rw[z,T];dsimp only;rw[U,C]
      ·rename_i m O R;cases j;obtain⟨o,v,i,w,bb,T,U,V,X⟩:=zwp B (A t) (show cu G (lk ρ t) (λv=>Rr ρ G b λg=>K (v::g)) from k);obtain⟨g,as,C,E,F⟩:=zkr B A L X;refine⟨_,_,?_,.cons V E,F⟩;simp only[Sv.resF,O,R];rw[z,T];dsimp only;rw[U];dsimp only;rw[C]
      ·cases j
     ·cases j
end fns
end
end
section
section fns
variable {P : Program}
def lk_argsL:∀(l:List LV) (i t:Nat),lk (ma l i) t=if i≤t∧t<i+l.length then l.getD (t-i) .any else .any
 |[],i,t=>by simp only[ma,qj,Ix];rw[Hx J]
 |v::l,i,t=>by
  simp only[ma,zlh,Ig];rw[lk_argsL l (i+1) t];by_cases h:t=i
  ·subst h;rw[H7 rfl,H7 J];simp
  ·rw[Hx h];by_cases g:i+1≤t∧t<i+1+l.length
   ·rw[H7 g,H7 J,show t-i=(t-(i+1))+1 from J];simp
   ·rw[Hx g,Hx J]
def Ou.start{c:Cx}{args:List LV}{gg:List AV}(h:ARs c args gg):Ou c (ma args 0) (Sa gg 0 .e):=by
 intro t;rw[lk_argsL,get_ofList,ee];have hl:=h.length;by_cases ht:t<args.length
 ·rw[H7 J,H7 J];obtain⟨a,q1,q2⟩:=h.get (H6 ht);rw[Nat.sub_zero,q1,Hv,H6 ht];exact q2
 ·rw[Hx J];exact .any _
def zol{U:M7→Prop}:∀{H:List Nat} {E:List Nat} {c:Cx} {B:M7},DRs c H E→HSim c B→yj H B U→∃j z,zas E c.H=some j.H∧HSim j z∧Step c B j z∧U z
 |[],_,c,B,.nil,g,h=>⟨c,B,rfl,g,.refl c B,h⟩
 |d::H,_,c,B,.cons (o:=o) e I,g,h=>by
  simp only[yj]at h;split at h
  ·rename_i C;obtain⟨_,F,he,A⟩:=g.obj d _ _ _ C e;injection he with he
   subst he;obtain⟨G,K,L⟩:=g.upd (k':=0) (x':=.ptr o 0 0) (ob':=.defd false) (H':=c.H.put o (.defd false)) C rfl e (Ia _) (λF _ D=>Heap.get_put_ne _ _ (λq=>D Fu))
    (λF M=>by cases M;exact⟨.inl rfl,g.lt o ⟨d,_,_,_,C,rfl,e,rfl⟩⟩) (Ia _) (λ_=>rfl) (λ_=>rfl) (.inr ⟨rfl,Ia _⟩) (λ_=>⟨rfl,o,rfl,Heap.get_put_same _ _ _⟩)
   obtain⟨j,z,O,Q,R,T⟩:=zol (I.mono L) G h;refine⟨j,z,?_,Q,.trans g G K R,T⟩;simp only[zas];rw[A];exact O
  ·exact h.elim
def yp:List AV→AV
 |[v]=>v
 |l=>.tup l
def zn7{f:Nat}{s:LC}{n:Nat}{Q:List RRes}(g:Ng P f=some ⟨n,s.r,Q⟩)(G:s.ok=true)(hn:E.length≤n)
  (h:W P f n s none (ma E 0) [] F λx ρ gA R=>(match x with | .exit _=>False|_=>True)∧yj gA R λC=>Rr ρ C Q λD=>Y (Uq D) C):Rl P (.fn f) E F Y:=by
 unfold Ng at g;split at g
 ·cases g
 ·rename_i j;simp only[Hy,Jf]at j;refine⟨j.1,λc t1 z T U V=>?_⟩;cases t1 with
  |yield o=>exact U.elim
  |fn gC =>
   obtain rfl:f=gC:=U;split at g
   ·cases g
   ·rename_i fn H;split at g
    ·cases g
    ·rename_i b hb;split at g
     ·cases g
     ·rename_i A;split at g
      ·cases g
      ·rename_i rc I;split at g
       ·cases g
       ·rename_i gg K;cases g;obtain⟨m,x,E',gz,c',ρ',D',R,q1,X,q3,q4,q5,q6,q7⟩:=h b c _ [] none I G T (Ou.start V) .nil trivial;obtain⟨L,C,Z,r2,r3,r4⟩:=zol q5 X q7;obtain⟨D,as,s1,s2,s3⟩:=zkr r2 (q4.mono r3.le) K r4;have B:AR L (Uq D) (yp as):=by
         cases s2 with
         |nil=>exact .tup .nil
         |cons e es =>
          cases es with
          |nil=>exact e
          |cons e2 M=>exact .tup (.cons e (.cons e2 M))
        refine⟨m+1,yp as,L.H,?_,L,Uq D,C,rfl,r2,.trans T X q3 r3,B,s3⟩;unfold S8;dsimp only;rw[OL_no j.2];dsimp only;unfold zhr;rw[H];dsimp only;rw[hb];dsimp only;rw[H7 (Ih A)];dsimp only;have O:Nat.ble z.length fn.ntmps=true:=Ib (by rw[←V.length];exact hn);rw[O];dsimp only;rw[q1];dsimp only;cases x with
        |exit id=>exact q6.elim
        |normal =>
         dsimp only;rw[Z];dsimp only;rw[s1];rcases as with _|⟨a,_|⟨a2,as⟩⟩<;>rfl
        |ret =>
         dsimp only;rw[Z];dsimp only;rw[s1];rcases as with _|⟨a,_|⟨a2,as⟩⟩<;>rfl
def Rl.mono{t:LTgt}{args:List LV}{G:M7}{K K':LV→M7→Prop}(h:Rl P t args G K)(hk:∀v G,K v G→K' v G):Rl P t args G K' :=
 ⟨h.1,λc t1 gg h1 h2 h3=>by
  obtain⟨m,v1,H',q1,c',v,G',q2,q3,q4,q5,q6⟩:=h.2 c t1 gg h1 h2 h3;exact⟨m,v1,H',q1,c',v,G',q2,q3,q4,q5,hk _ _ q6⟩⟩
mutual
def LV.sim(m:Nat):LV→Bool
 |.bool _ |.u _ |.b _ |.i _ |.int _ _ |.str _ |.nilPtr |.nilSl |.nilMap |.nilFn |.nilIf=>true
 |.dy j k=>k==0&&decide (j<m)
 |.agg l=>sims m l
 |.tup l=>sims m l
 |_=>false
def sims(m:Nat):List LV→Bool
 |[]=>true
 |v::l=>v.sim m&&sims m l
end
mutual
def subV(sel:List LV):LV→LV
 |.dy j _=>sel.getD j .any
 |.agg l=>.agg (subVs sel l)
 |.tup l=>.tup (subVs sel l)
 |v=>v
def subVs(sel:List LV):List LV→List LV
 |[]=>[]
 |v::l=>subV sel v::subVs sel l
end
def notP(p:Nat):LV→Prop
 |.dy q _=>q≠p
 |_=>True
def V5(A:M7):List LV→M7→Prop
 |[],[]=>True
 |.dy p k::s,.dyn l len j g st::B=>g=0∧l.all LV.scal=true∧(∃z,A[p]?=some (.dyn l len j k z))∧st=0∧(∀x∈s,notP p x)∧V5 A s B
 |.nilSl::s,.dyn l len _ g st::B=>g=0∧st=0∧l=[]∧len=0∧V5 A s B
 |_,_=>False
def Of(P:Program)(f:Nat)(A:List LV)(F:LV)(C:M7):Prop :=
 Xq P (.fn f)∧F.sim C.length=true∧(∀(I:Nat) (G:LObj),C[I]?=some G→∃l len D,G=.dyn l len D 0 0∧l.all LV.scal=true)∧∀(B:Nat→Prop) (E:Heap) (g:List AV),(∀o,B o→o<E.next)→ARs ⟨[],B,E⟩ A g →
  ∃m H j z,S8 P (OL P) m (.fn f) g E=.ok H z∧HSim ⟨j,B,z⟩ C∧AR ⟨j,B,z⟩ F H∧E.next≤z.next∧(∀o,o<E.next→z.get o=E.get o)∧∀o,Pv ⟨j,B,z⟩ C o→E.next≤o
def zgc{c g:Cx}:∀{l:List LV} {r:List AV},l.all LV.scal=true→ARs c l r→ARs g l r
 |[],_,_,.nil=>.nil
 |v::l,_,h,.cons e j=>by
  simp only[Ki,Hy]at h;refine .cons ?_ (zgc h.2 j);cases v<;>first|(cases h.1;done)|(cases e;constructor)
def HSim.empty{Fz:Nat→Prop}{H:Heap}(h:∀o,Fz o→o<H.next):HSim ⟨[],Fz,H⟩ [] :=
 ⟨rfl,h,λo ⟨p,_,_,_,e,_⟩=>Cl,λo ⟨p,_,_,_,e,_⟩=>Cl,λp _ _ _ e=>Cl,λp _ _ _ _ _ _ _ _ e=>Cl⟩
def zkg{c:Cx}{gA:M7}(Q:HSim c gA):∀{g:List LV} {R:M7},V5 gA g R→∃C:List (Nat×AV),C.length=R.length ∧
  (∀(j:Nat) (E:LObj) (k:Nat) (h:AV),R[j]?=some E→C[j]?=some (k,h)→k=0∧(∀T:Cx,T.H=c.H→ObR T 0 h E)∧(∃l len F,E=.dyn l len F 0 0∧l.all LV.scal=true) ∧
   ((g[j]?=some .nilSl∧h=.nilSl)∨∃p D,g[j]?=some (.dy p D)∧c.hd[p]?=some (D,h)∧(∀o,Ok h=some o→Pv c gA o)∧∃G,gA[p]?=some G∧G.live=true)) ∧
  (∀(i j p k q D:Nat),g[i]?=some (.dy p k)→g[j]?=some (.dy q D)→p=q→i=j)
 |[],[],_=>⟨[],rfl,λj E k h e=>Cl,λi j p k q D e=>Cl⟩
 |[],_::_,h=>h.elim
 |s::g,[],h=>by cases s<;>exact h.elim
 |s::g,E::R,h=>by
  cases s<;>cases E<;>first|exact h.elim|skip
  ·rename_i l len F V st;obtain⟨rfl,rfl,rfl,rfl,h⟩:=h;obtain⟨C,X,Y,Z⟩:=zkg Q h;refine⟨(0,.nilSl)::C,by simp[X],λj E k h z A=>?_,λi j p k q D z A H=>?_⟩
   ·cases j with
    |zero =>
     simp only[Is,Option.some.injEq]at z A;cases z;cases A;exact⟨rfl,λT _=>⟨rfl,N,.inl ⟨rfl,rfl⟩⟩,⟨_,_,_,rfl,rfl⟩,.inl ⟨rfl,rfl⟩⟩
    |succ j=>exact Y j E k h Ct Cj
   ·cases i with
    |zero=>simp at z
    |succ i=>cases j with
     |zero=>simp at A
     |succ j=>have:=Z i j p k q D Ct Cj H;omega
  ·rename_i p k l len F V st;obtain⟨rfl,I,⟨gC,U⟩,rfl,gg,h⟩:=h;obtain⟨C,X,Y,Z⟩:=zkg Q h;have hp:p<c.hd.length:=by rw[Q.len];exact (Hu.1 U).1
   obtain⟨k0,h0,e0⟩:∃k h,c.hd[p]?=some (k,h):=⟨_,_,H6 hp⟩;have K:=Q.obj p _ _ _ U e0;have hk:=K.1;subst hk;have B:∀(j q D:Nat),g[j]?=some (.dy q D)→q≠p:=λj q D e=>gg _ (Iq e)
   refine⟨(0,h0)::C,by simp[X],λj E k h z A=>?_,λi j p' k q D z A H=>?_⟩
   ·cases j with
    |zero =>
     simp only[Is,Option.some.injEq]at z A;cases z;cases A;refine⟨rfl,λT gz=>?_,⟨_,_,_,rfl,I⟩,.inr ⟨p,_,rfl,e0,λo ho=>⟨p,_,_,_,U,rfl,e0,ho⟩,_,U,rfl⟩⟩;obtain⟨_,r1,L⟩:=K;refine⟨rfl,r1,?_⟩;rcases L with L|⟨o,v,M,t,O,l',L,r3,r4,r5,r6,r7⟩
     ·exact .inl L
     ·exact .inr ⟨o,v,M,t,O,l',L,by rw[gz];exact r3,r4,r5,zgc I r6,r7⟩
    |succ j=>exact Y j E k h Ct Cj
   ·cases i with
    |zero =>
     simp only[Is,Option.some.injEq]at z;cases z;cases j with
     |zero=>rfl
     |succ j=>exact absurd H.symm (B j q D Cj)
    |succ i=>cases j with
     |zero =>
      simp only[Is,Option.some.injEq]at A;cases A;exact absurd H (B i p' k Ct)
     |succ j=>have:=Z i j p' k q D Ct Cj H;omega
mutual
def sub_AR{c c':Cx}{sel:List LV}(gg:∀(gA:Nat) (v:LV) (a:AV),sel[gA]?=some v→AR c v a→AR c' (.dy gA 0) a)(v:LV)(a:AV)(j:v.sim sel.length=true)(h:AR c (subV sel v) a):AR c' v a:=by
 cases v with
 |dy gA k =>
  simp only[LV.sim,Hy,Ls,Ic]at j;obtain⟨rfl,gz⟩:=j;refine gg gA _ a (H6 gz) ?_;unfold subV at h
  rwa [Hv,H6 gz]at h
 |agg l =>
  simp only[LV.sim]at j;simp only[subV]at h;cases h with
  |agg h=>exact .agg (sub_ARs gg l _ j h)
 |tup l =>
  simp only[LV.sim]at j;simp only[subV]at h;cases h with
  |tup h=>exact .tup (sub_ARs gg l _ j h)
 |_=>first|(simp only[LV.sim]at j;cases j;done)|(simp only[subV]at h;cases h;constructor)
termination_by SizeOf.sizeOf v
def sub_ARs{c c':Cx}{sel:List LV}(gg:∀(gA:Nat) (v:LV) (a:AV),sel[gA]?=some v→AR c v a→AR c' (.dy gA 0) a)(l:List LV)(r:List AV)(j:sims sel.length l=true)(h:ARs c (subVs sel l) r):ARs c' l r:=by
 cases l with
 |nil=>simp only[subVs]at h;cases h;exact .nil
 |cons v l =>
  simp only[sims,Hy]at j;simp only[subVs]at h;cases h with
  |cons e es=>exact .cons (sub_AR gg v _ j.1 e) (sub_ARs gg l _ j.2 es)
termination_by SizeOf.sizeOf l
end
def Of.mk{f:Nat}{args:List LV}{v0:LV}{G0:M7}(gz:v0.sim G0.length=true)(h:Rl P (.fn f) args [] λv G=>∃sel,v=subV sel v0∧sel.length=G0.length∧V5 G sel G0)(hG:∀(gD:Nat) (ob:LObj),G0[gD]?=some ob→∃l len esz,ob=.dyn l len esz 0 0∧l.all LV.scal=true):Of P f args v0 G0:=by
 refine⟨h.1,gz,hG,λFz H gE gF ha=>?_⟩;obtain⟨m,v1,H',q1,c1,v,G,rfl,q3,q4,q5,sel,rfl,hlen,hr⟩:=h.2 ⟨[],Fz,H⟩ (.fn f) gE (.empty gF) rfl ha;obtain⟨gg,r1,r2,r3⟩:=zkg q3 hr;have gG:∀(gD:Nat) (ob:LObj),G0[gD]?=some ob→∃k h,gg[gD]?=some (k,h):=λgD ob e=>⟨_,_,H6 (by rw[r1];exact (Hu.1 e).1)⟩
 have gA:∀o,Pv ⟨gg,Fz,c1.H⟩ G0 o→Pv c1 G o:=by
  rintro o ⟨gD,ob,k,h,e1,e2,e3,e4⟩;obtain⟨_,_,_,j⟩:=r2 gD ob k h e1 e3;rcases j with ⟨_,j⟩|⟨p,k',_,_,s6,_⟩
  ·rw[j]at e4;cases e4
  ·exact s6 o e4
 have gC:∀o,Pv ⟨gg,Fz,c1.H⟩ G0 o→H.next≤o:=λo ho=>by
  rcases q4.new o (gA o ho) with ⟨p,_,_,_,e,_⟩|h
  ·simp at e
  ·exact h
 have gH:∀o,¬Pv ⟨[],Fz,H⟩ [] o:=λo ⟨p,_,_,_,e,_⟩=>Cl
 have gI:HSim ⟨gg,Fz,c1.H⟩ G0:=by
  refine⟨r1,λo ho=>I0 (gF o ho) q4.nx,λo ho=>q3.lt o (gA o ho),λo ho hf=>?_,λgD ob k h e1 e2=>?_,λi gD ob gK k h k' h' o e1 e2 e3 e4 e5 e6 e7 e8=>?_⟩
  ·have:=gC o ho;have:=gF o hf;omega
  ·obtain⟨s1,s2,_⟩:=r2 gD ob k h e1 e2;rw[s1];exact s2 _ rfl
  ·obtain⟨_,_,_,j⟩:=r2 i ob k h e1 e5;obtain⟨_,_,_,t4⟩:=r2 gD gK k' h' e2 e6;rcases j with ⟨_,j⟩|⟨p,kp,s5,s6,_,o1,g1,g2⟩
   ·rw[j]at e7;cases e7
   ·rcases t4 with ⟨_,t4⟩|⟨q,kq,t5,t6,_,o2,g3,g4⟩
    ·rw[t4]at e8;cases e8
    ·refine r3 i gD p kp q kq s5 t5 ?_;exact q3.excl p q o1 o2 kp h kq h' o g1 g3 g2 g4 s6 t6 e7 e8
 refine⟨m,v1,gg,c1.H,q1,gI,?_,q4.nx,λo ho=>q4.frame o ho (gH o),gC⟩;refine sub_AR (c:=c1) (λgD v a e1 e2=>?_) v0 v1 (by rw[hlen];exact gz) q5;have hj:gD<G0.length:=by rw[←hlen];exact (Hu.1 e1).1
 obtain⟨k,h,e3⟩:=gG gD _ (H6 hj);obtain⟨rfl,_,_,j⟩:=r2 gD _ k h (H6 hj) e3;rcases j with ⟨j,s5⟩|⟨p,k',j,s5,_⟩
 ·rw[e1]at j;cases j;cases e2;exact .dy e3 (Ia _) (λ_=>s5.symm) rfl
 ·rw[e1]at j;cases j;cases e2 with
  |dy f1 f2 f3 f4 =>
   rw[s5]at f1;cases f1;exact .dy e3 (Ia _) (λ_=>f3 rfl) f4
end fns
end
section
noncomputable section
def tgtL(ρ:M9)(G:M7):LOp→Option (Option Nat)
 |.load1 x |.loadN _ x=>match x.ev ρ with
  |.ptr p _=>some (some p)
  |.dptr p k _=>match G[p]? with
   |some (.dyn _ _ _ g _)=>if k=g then some (some p) else none
   |_=>none
  |.cptr _ _=>some none
  |_=>none
 |.cvStr x=>match x.ev ρ with
  |.nilSl=>some none
  |.lst _ _ _=>some none
  |.dy p k=>match G[p]? with
   |some (.dyn _ _ _ g _)=>if k=g then some (some p) else none
   |_=>none
  |_=>none
 |_=>none
def zq9(G g:M7)(p:Nat):Prop:=match G[p]?,g[p]? with
 |some a,some b=>a.stp=true∧a.st=b.st
 |_,_=>False
def ckC(ρ:M9)(G g:M7)(x:LI×Bool):Prop:=match x.2 with
 |false=>match tgtL ρ G x.1.o with
  |some none=>True
  |some (some p)=>zq9 G g p
  |none=>False
 |true=>match x.1.d with
  |none=>False
  |some d=>match lk ρ d with
   |.ptr p _=>zq9 G g p
   |.dy p k=>(match G[p]? with
    |some (.dyn _ _ _ j _)=>k=j
    |_=>False)∧zq9 G g p
   |_=>False
def ckL(ρ:M9)(G g:M7)(x:LI×Bool):Prop:=match x.1.g with
 |none=>ckC ρ G g x
 |some (t,w)=>match lk ρ t with
  |.bool b=>b=w→ckC ρ G g x
  |_=>ckC ρ G g x
def Xw(ρ:M9)(G g:M7):List (LI×Bool)→Prop
 |[]=>True
 |x::l=>ckL ρ G g x∧Xw ρ G g l
def mh(P:Program):List (LI×List (LI×Bool))→M9→M7→(M9→M7→Prop)→Prop
 |[],ρ,G,j=>j ρ G
 |(x,z)::l,ρ,G,j=>kg P x ρ G λA g=>Xw ρ G g z∧mh P l A g j
section al
variable {P : Program}
def et{v:AV}{id n:Nat}(h:Ok v=some id):Q7 id (Q7 n v)=v:=by
 cases v<;>first|(cases h;done)|(cases h;rfl)
def znq{j:Heap}{l:List AV}{v:AV}(h:Yh vT l=.val v j):∃z,j=vT.push z∧Ok v=some vT.next∧∀g,Yh g l=.val (Q7 g.next v) (g.push z):=by
 unfold Yh newObj at h;cases h;exact⟨_,rfl,rfl,λg=>rfl⟩
def zrj{z:Heap}{l:List AV}{a b:Nat}{r:Option Nat}{v:AV}(h:(match newObj vT l with
  |some (o,j)=>OR.val (.sl o 0 0 a b r) j
  |none=>.no)=.val v z):∃A,z=vT.push A∧Ok v=some vT.next∧∀g,(match newObj g l with
  |some (o,j)=>OR.val (.sl o 0 0 a b r) j
  |none=>.no)=.val (Q7 g.next v) (g.push A):=by
 unfold newObj at h;cases h;exact⟨_,rfl,rfl,λg=>rfl⟩
def al_any{o:Op}(g:cls P o=.al){z:Heap}{v:AV}(h:(Ow P o).run T vT=.val v z):∃A,z=vT.push A∧Ok v=some vT.next∧∀j,(Ow P o).run T j=.val (Q7 j.next v) (j.push A):=by
 cases o with
 |alloc t =>
  simp only[Ow]at h ⊢;split at h
  ·exact znq h
  ·cases h
 |box t x =>
  simp only[Ow,Qw]at h ⊢;cases B:(N6 x).run T with
  |none=>rw[B]at h;cases h
  |some a =>
   rw[B]at h;dsimp only at h ⊢;cases C:a.cells with
   |none=>rw[C]at h;cases h
   |some l=>rw[C]at h;exact znq h
 |buildSlice t len H =>
  simp only[Ow,z3x]at h ⊢;split at h
  ·split at h
   ·cases h
   ·split at h
    ·cases h
    ·rename_i O M;by_cases F:len * ‹Nat›≤2^20∧0 < ‹Nat›
     ·rw[H7 F]at h ⊢;split at h
      ·cases h
      ·dsimp only at h ⊢;split at h
       ·exact zrj h
       ·cases h
     ·rw[Hx F]at h;cases h
  ·cases h
 |makeSlice t l c =>
  simp only[Ow,z8z]at h ⊢;split at h
  ·split at h
   ·cases h
   ·split at h
    ·cases h
    ·split at h
     ·rename_i i hi O M F;simp only[H7 F];simp only[Ui]at h ⊢;cases C:(N6 l).run T with
      |none=>rw[C]at h;cases h
      |some a =>
       rw[C]at h;cases E:(N6 c).run T with
       |none=>rw[E]at h;cases h
       |some b =>
        rw[E]at h;dsimp only at h ⊢;split at h
        ·rename_i n m;cases I:Nat.ble n m with
         |false=>rw[I]at h;cases h
         |true =>
          rw[I]at h;cases K:Nat.ble m 1048576 with
          |false=>rw[K]at h;cases h
          |true=>rw[K]at h;exact zrj h
        ·cases h
     ·cases h
  ·cases h
 |makeMap t r =>
  have L:∀{v:AV} {z:Heap},jp vT=.val v z→∃A,z=vT.push A∧Ok v=some vT.next∧∀j,jp j=.val (Q7 j.next v) (j.push A):=λh=>by
   unfold jp at h;cases h;exact⟨_,rfl,rfl,λj=>rfl⟩
  simp only[Ow,zhu]at h ⊢;split at h
  ·exact L h
  ·rename_i x;split at h
   ·simp only[Qw]at h ⊢;cases B:(N6 x).run T with
    |none=>rw[B]at h;cases h
    |some a =>
     rw[B]at h;dsimp only at h ⊢;split at h
     ·exact L h
     ·cases h
   ·cases h
 |_ =>
  exfalso;simp only[cls]at g
  first
   |(cases g;done)
   |(split at g<;>first|(cases g;done)|(split at g<;>cases g))
   |(simp only[zh4]at g;split at g<;>first|(cases g;done)|(split at g<;>first|(cases g;done)|(split at g<;>cases g)))
end al
section draw
variable {P : Program} {n : Nat} {ops : Array Oper}
def Vo(P:Program)(ops:Array Oper)(x:DOp)(j:Tr AV)(A:Heap):Prop:=match x.c with
 |.rd=>(Tf ops x.o).run j=true→∃d v,x.o.dst=some d∧Nc (Nz d) j=some v∧(Ow P x.o.op).run j A=.val v A
 |.al=>(Tf ops x.o).run j=true→∃d v id z,x.o.dst=some d∧Nc (Nz d) j=some v∧Ok v=some id∧A.get id=some z∧∀g,(Ow P x.o.op).run j g=.val (Q7 g.next v) (g.push z)
 |_=>True
def zb7{x:DOp}(h:Vo P ops x T vT)(j:x.c=.rd∨x.c=.al)(hd:zks ops x=true):(kx P ops x).run T vT=true:=by
 unfold kx;cases g:x.o.dst with
 |none=>unfold zks at hd;rw[g]at hd;cases hd
 |some d =>
  dsimp only;cases C:(Tf ops x.o).run T with
  |false=>rfl
  |true =>
   dsimp only;unfold Vo at h;rcases j with j|j
   ·rw[j]at h;obtain⟨E,v,z,B,A⟩:=h C;rw[g]at z;cases z;rw[B,A,j];dsimp only;unfold dm;split
    ·rfl
    ·exact @Js _ (Classical.propDecidable _) rfl
   ·rw[j]at h;obtain⟨E,v,id,K,z,B,A,F,H⟩:=h C;rw[g]at z;cases z;rw[B,H vT,j];dsimp only;unfold Y8;rw[A];dsimp only;have I:dm (R4 30 v (Q7 id (Q7 vT.next v))) v (Q7 id (Q7 vT.next v))=true:=by
     unfold dm;split
     ·rfl
     ·exact @Js _ (Classical.propDecidable _) (et A).symm
    rw[I,F,Heap.get_push_same];dsimp only;unfold dm;split
    ·rfl
    ·exact @Js _ (Classical.propDecidable _) rfl
def zfy{t:Nat}:∀{l:List Nat},Xb t l=false→t ∉ l
 |[],_=>N
 |a::l,h=>by
  simp only[Xb]at h;cases g:Nat.beq t a with
  |true=>rw[g]at h;cases h
  |false =>
   rw[g]at h;intro hm;rcases If.1 hm with rfl|hm
   ·rw[I8]at g;cases g
   ·exact zfy h hm
def uy{x:DOp}{d:Option Nat}(h:de ops d x=true)(v:AV)(g:Tr AV):Sz (Vq ops x.o) (Pp d v g) g∧∀e,x.o.dst=some e→Nc (Nz e) (Pp d v g)=Nc (Nz e) g:=by
 cases d with
 |none=>exact⟨λt _ _=>rfl,λe _=>rfl⟩
 |some d =>
  unfold de at h;dsimp only at h;cases hm:Xb d (Vq ops x.o) with
  |true=>rw[hm]at h;cases h
  |false =>
   rw[hm]at h;dsimp only at h;refine⟨λt j _=>?_,λe he=>?_⟩
   ·show Nc (Nz t) (Pg v (Nz d) g)=_;rw[z6b (λq=>zfy hm (by rw[←q];exact j))]
   ·rw[he]at h;dsimp only at h;show Nc (Nz e) (Pg v (Nz d) g)=_;rw[z6b (λq=>by rw[q,I8]at h;cases h)]
def Vo.put{x:DOp}{E:Tr AV}{H:Heap}(h:Vo P ops x E H){d:Option Nat}(ho:de ops d x=true)(v:AV):Vo P ops x (Pp d v E) H:=by
 obtain⟨h1,h2⟩:=uy ho v E;have hg:=z3w (o:=x.o) h1;have hc:∀H2,(Ow P x.o.op).run (Pp d v E) H2=(Ow P x.o.op).run E H2:=λH2=>z93 h1
 unfold Vo at h ⊢;cases hx:x.c with
 |rd =>
  rw[hx]at h;intro g;obtain⟨d',w,k1,k2,k3⟩:=h (by rw[←hg];exact g);exact⟨d',w,k1,by rw[h2 d' k1];exact k2,by rw[hc];exact k3⟩
 |al =>
  rw[hx]at h;intro g;obtain⟨d',w,id,ob,k1,k2,k3,k4,k5⟩:=h (by rw[←hg];exact g);exact⟨d',w,id,ob,k1,by rw[h2 d' k1];exact k2,k3,k4,λH2=>by rw[hc];exact k5 H2⟩
 |quiet=>trivial
 |ch=>trivial
def kc{x:DOp}{r:RI}(g:zau P n ops x.o=some r)(C:Tr AV):(Tf ops x.o).run C=mf r.g C∧Ti P x.o.op=some r.o∧r.d=x.o.dst:=by
 unfold zau at g;split at g
 ·cases g
 ·split at g
  ·cases g
  ·rename_i ro j;split at g
   ·rename_i z;cases g;refine⟨?_,j,rfl⟩;unfold Tf;rw[z];rfl
   ·rename_i E w z;split at g
    ·cases g
    ·rename_i t A;split at g
     ·rename_i B;cases g;refine⟨?_,j,rfl⟩;unfold Tf;rw[z];dsimp only;rw[A];dsimp only;rw[H7 (Ih B)];rfl
     ·cases g
def Vo.keep{x:DOp}{li:LI}(hr:zau P n ops x.o=some li.r)(gz:li.o.ok=true){c:Cx}{G G1:M7}{ρ:M9}{E:Tr AV}(hs:HSim c G)(hE:Ou c ρ E)(st:Step c G vg G1)(gg:ckL ρ G G1 (li,Vz x))
  (h:Vo P ops x E c.H):Vo P ops x E vg.H:=by
 have gC:∀{p k:Nat} {a:AV} {o:Nat},zq9 G G1 p→c.hd[p]?=some (k,a)→Ok a=some o→vg.H.get o=c.H.get o:=by
  intro p k a o hk e1 e2;unfold zq9 at hk;split at hk
  ·rename_i a1 b1 g1 g2;exact (st.st p a1 b1 k a o g1 g2 e1 e2 hk.1 hk.2).2.1
  ·exact hk.elim
 obtain⟨g1,g2,g3⟩:=kc hr E;have gD:(Tf ops x.o).run E=true→ckC ρ G G1 (li,Vz x):=by
  intro g;rw[g1]at g;unfold ckL at gg;dsimp only at gg;split at gg
  ·exact gg
  ·rename_i t w hg;split at gg
   ·rename_i b hb;refine gg ?_;have ht:=hE t;rw[hb]at ht;rw[show li.r.g=li.g from rfl,hg]at g;unfold mf at g;dsimp only at g;cases hq:Nc (Nz t) E with
    |none=>rw[hq]at g;cases g
    |some a =>
     rw[hq]at g ht;cases ht;cases b<;>cases w<;>first|rfl|cases g
   ·exact gg
 unfold Vo at h ⊢;cases hx:x.c with
 |quiet=>trivial
 |ch=>trivial
 |rd =>
  rw[hx]at h;intro g;have hc:=gD g;obtain⟨d,v,k1,k2,k3⟩:=h g;refine⟨d,v,k1,k2,?_⟩;rw[zwo (zv9 E) g2]at k3 ⊢;have gH:Vz x=false:=by unfold Vz;rw[hx]
  unfold ckC at hc;rw[gH]at hc;dsimp only at hc;have gG:∀{y:Lx},y.ok=true→∀m,(match y.ev ρ with
    |.ptr p _=>some (some p)
    |.dptr p k _=>(match G[p]? with
     |some (.dyn _ _ _ gA _)=>if k=gA then some (some p) else none
     |_=>none)
    |.cptr _ _=>some none
    |_=>(none:Option (Option Nat)))=some m→(∀p,m=some p→zq9 G G1 p)→∃o v i,y.r.ev (ρA E)=.ptr o v i∧vg.H.get o=c.H.get o:=by
   intro y hy m hm hk;have hv:=Pd hE hy;generalize y.ev ρ=w at hm hv;generalize y.r.ev (ρA E)=b at hv ⊢;split at hm
   ·rename_i p i;cases hm;cases hv with
    |ptr e=>exact⟨_,_,_,rfl,gC (hk p rfl) e rfl⟩
   ·rename_i p k i;split at hm
    ·rename_i l len gE gA stp hg;by_cases gF:k=gA
     ·rw[H7 gF]at hm;cases hm;cases hv with
      | @dptr _ _ _ k' o v gU hh e gK ha =>
       have:=(hs.obj p _ _ _ hg e).1;obtain⟨_,gQ,gR,room,rfl⟩:=ha J;exact⟨o,v,gU,rfl,gC (hk p rfl) e rfl⟩
     ·rw[Hx gF]at hm;cases hm
    ·cases hm
   ·cases hm;cases hv with
    |cptr hf hr hl=>exact⟨_,_,_,rfl,(st.le.fz _ hf).2⟩
   ·cases hm
  have fin:∀m,tgtL ρ G li.o=some m→(∀p,m=some p→zq9 G G1 p)→Pe P (ρA E) vg.H li.r.o=.val v vg.H:=by
   intro m hm hk;have j:Pe P (ρA E) c.H li.o.r=.val v c.H:=k3;show Pe P (ρA E) vg.H li.o.r=_;unfold tgtL at hm;split at hm
   ·rename_i y ho;rw[ho]at j gz ⊢;obtain⟨o,w,i,q1,q2⟩:=gG gz m hm hk;simp only[LOp.r,Pe]at j ⊢;rw[q1]at j ⊢;dsimp only at j ⊢;rw[z40 q2];split at j
    ·cases j;rfl
    ·cases j
   ·rename_i nn y ho;rw[ho]at j gz ⊢;obtain⟨o,w,i,q1,q2⟩:=gG gz m hm hk;simp only[LOp.r,Pe]at j ⊢;rw[q1]at j ⊢;dsimp only at j ⊢;rw[z40 q2];split at j
    ·cases j;rfl
    ·cases j
   ·rename_i y ho;rw[ho]at j gz ⊢;have hv:=Pd hE gz;simp only[LOp.r,Pe]at j ⊢;generalize y.ev ρ=w at hm hv;generalize y.r.ev (ρA E)=b at hv j ⊢;have done:(∀o v i len gE room,b=.sl o v i len gE room→vg.H.get o=c.H.get o)→(match b with
      |.nilSl=>OR.val (.str 0 0) vg.H
      |.sl o v i len 1 _=>match Rs vg.H o v i len with
       |some l=>match W2.bytesA l with
        |some n=>.val (.str len n) vg.H
        |none=>.no
       |none=>.no
      |_=>.no)=.val v vg.H:=by
     intro hh;split at j
     ·cases j;rfl
     ·rename_i o v2 i len room;have e:=hh o v2 i len 1 room rfl;show (match Rs vg.H o v2 i len with
       |some l=>match W2.bytesA l with
        |some n=>OR.val (.str len n) vg.H
        |none=>.no
       |none=>.no)=.val v vg.H
      rw[z40 e];split at j
      ·rename_i gM;split at j
       ·rename_i hb;cases j;rw[gM];dsimp only;rw[hb]
       ·cases j
      ·cases j
     ·cases j
    split at hm
    ·cases hv;exact done (λ_ _ _ _ _ _ e=>Ar)
    ·cases hm;cases hv with
     |lst hf gT hlen hr hl=>exact done (λ_ _ _ _ _ _ e=>by cases e;exact (st.le.fz _ hf).2)
     |lstNil=>exact done (λ_ _ _ _ _ _ e=>Ar)
     |lstEmp=>exact done (λ_ _ _ _ _ _ e=>Ar)
    ·rename_i p k;split at hm
     ·rename_i l len gE gA stp hg;by_cases gF:k=gA
      ·rw[H7 gF]at hm;cases hm;cases hv with
       | @dy _ _ k' hh _ e gK ha gO =>
        have:=(hs.obj p _ _ _ hg e).1;have gI:=ha J;exact done (λo v i len gE room eb=>gC (hk p rfl) e (by rw[←gI,eb];rfl))
      ·rw[Hx gF]at hm;cases hm
     ·cases hm
    ·cases hm
   ·cases hm
  split at hc
  ·rename_i hm;exact fin none hm (λp e=>Ar)
  ·rename_i p hm;exact fin (some p) hm (λp' e=>by cases e;exact hc)
  ·exact hc.elim
 |al =>
  rw[hx]at h;intro g;have hc:=gD g;obtain⟨d,v,id,ob,k1,k2,k3,k4,k5⟩:=h g;refine⟨d,v,id,ob,k1,k2,k3,?_,k5⟩;have gH:Vz x=true:=by unfold Vz;rw[hx]
  unfold ckC at hc;rw[gH]at hc;dsimp only at hc;have hd:li.d=some d:=by rw[←k1];exact g3
  rw[hd]at hc;dsimp only at hc;have hv:=hE d;rw[k2]at hv;split at hc
  ·rename_i p i hl;rw[hl]at hv;cases hv with
   |ptr e=>cases k3;rw[gC hc e rfl];exact k4
  ·rename_i p k hl;rw[hl]at hv;obtain⟨gL,gP⟩:=hc;split at gL
   ·rename_i l len gE gA stp hg;cases hv with
    | @dy _ _ k' hh _ e gK ha gO =>
     have:=(hs.obj p _ _ _ hg e).1;have gI:v=hh:=ha J;rw[gC gP e (by rw[←gI];exact k3)];exact k4
   ·exact gL.elim
  ·exact hc.elim
def cks_mem:∀{g:List DOp} {B:List (LI×Bool)},zn2 P n ops g=some (rck B)→∀{ρ:M9} {G C:M7},Xw ρ G C B→∀x∈g,∃z,zau P n ops x.o=some z.r∧(z,Vz x)∈B∧ckL ρ G C (z,Vz x)
 |[],_,_,_,_,_,_,x,j=>by simp at j
 |y::g,[],h,_,_,_,_,x,j=>by
  simp only[zn2]at h;split at h
  ·cases h
  ·split at h<;>cases h
 |y::g,(z,b)::B,h,ρ,G,C,k,x,j=>by
  simp only[zn2]at h;split at h
  ·cases h
  ·rename_i r F;split at h
   ·cases h
   ·rename_i M A;simp only[rck,Option.some.injEq,List.cons.injEq,Prod.mk.injEq]at h;obtain⟨⟨rfl,rfl⟩,H⟩:=h;rw[H]at A;rcases If.1 j with rfl|j
    ·exact⟨z,F,N,k.1⟩
    ·obtain⟨E,I,K,L⟩:=cks_mem A k.2 x j;exact⟨E,I,Bj,L⟩
def zey{g:Type}{f:g→Bool}:∀{l:List g} {x:g},x∈Oo f l→x∈l
 |[],_,h=>h
 |a::l,x,h=>by
  simp only[Oo]at h;split at h
  ·rcases If.1 h with rfl|h
   ·simp
   ·exact Ik _ (zey h)
  ·exact Ik _ (zey h)
def zj2{z:Type}{f:z→Bool}:∀{l:List z},W0 f l=true→∀x∈l,f x=true
 |[],_,x,g=>by simp at g
 |a::l,h,x,g=>by
  simp only[W0]at h;split at h
  ·rename_i j;rcases If.1 g with rfl|g
   ·exact j
   ·exact zj2 h x g
  ·cases h
def zf4{j:Tr AV}{z:Heap}:∀{l:List DOp},(∀x∈l,(kx P ops x).run j z=true)→(z7r P ops l).run j z=true
 |[],_=>rfl
 |x::l,h=>by
  simp only[z7r];rw[h x N];exact zf4 (λy g=>h y Av)
structure Pend (P:Program) (n:Nat) (ops:Array Oper) (x:DOp):Prop where
 cls:x.c=.rd∨x.c=.al
 own:zks ops x=true
def drawGo_ok:∀{l z:List DOp} {g:List (LI×List (LI×Bool))} {c:Cx} {G:M7} {ρ:M9} {gD:Tr AV} {gM:M9→M7→Prop},zpw P n ops l z=some (rdr g)→(g.all λx=>x.1.o.ok&&x.2.all (·.1.o.ok))=true →
  HSim c G→Ou c ρ gD→(∀x∈z,Pend P n ops x∧Vo P ops x gD c.H)→mh P g ρ G gM →
  ∃m Y R U O,(Wb P n ops l z).run (S8 P (OL P) m) gD c.H=.ok Y R.H∧HSim R O∧Step c G R O∧Ou R U Y∧gM U O
 |[],z,g,c,G,ρ,gD,gM,h,_,hs,hE,_,k=>by
  cases g with
  |nil=>exact⟨0,gD,c,ρ,G,rfl,hs,.refl c G,hE,k⟩
  |cons _ _=>cases h
 |x::l,z,g,c,G,ρ,gD,gM,h,I,hs,hE,hp,k=>by
  simp only[zpw]at h;split at h
  ·cases h
  ·rename_i gI;rw[Hy]at gI;obtain⟨gE,C⟩:=gI;split at h
   ·cases h
   ·rename_i r hr;have gC:∀{li:LI} {cs:List (LI×Bool)} {H:List (LI×List (LI×Bool))},r=li.r→g=(li,cs)::H →
      ∃m M K ρ1 Z v,(Rt P n ops x.o).run (S8 P (OL P) m) gD c.H=.ok M K.H∧M=Pp x.o.dst v gD∧HSim K Z∧Step c G K Z∧Ou K ρ1 M∧Xw ρ G Z cs∧mh P H ρ1 Z gM:=by
     intro li cs H e1 e2;subst e2;simp only[Ki,Hy]at I;obtain⟨m,M,K,ρ1,Z,q1,q2,q3,q4,q5,q6⟩:=m9 hs hE I.1.1 (show kg P li ρ G (λU O=>Xw ρ G O cs∧mh P H U O gM) from k);rw[←e1,←zi0 hr]at q1;obtain⟨v,w1,_⟩:=z6e q1;exact⟨m,M,K,ρ1,Z,v,q1,w1,q2,q3,q4,q5,q6⟩
    have gF:∀{v:AV},∀y∈z,Vo P ops y gD c.H→Vo P ops y (Pp x.o.dst v gD) c.H:=λy B hv=>hv.put (zj2 gE y B) _
    have go:∀{pend':List DOp} {H:List (LI×List (LI×Bool))} {m:Nat} {M:Tr AV} {K:Cx} {ρ1:M9} {Z:M7},zpw P n ops l pend'=some (rdr H)→(H.all λx=>x.1.o.ok&&x.2.all (·.1.o.ok))=true→HSim K Z→Step c G K Z→Ou K ρ1 M →
      (∀y∈pend',Pend P n ops y∧Vo P ops y M K.H)→mh P H ρ1 Z gM→(Rt P n ops x.o).run (S8 P (OL P) m) gD c.H=.ok M K.H →
      ∃m' Y R U O,(Rt P n ops x.o).run (S8 P (OL P) m') gD c.H=.ok M K.H∧(Wb P n ops l pend').run (S8 P (OL P) m') M K.H=.ok Y R.H∧HSim R O∧Step c G R O∧Ou R U Y∧gM U O:=by
     intro pend' H m M K ρ1 Z a1 a2 a3 a4 a5 a6 a7 a8;obtain⟨m2,Y,R,U,O,b1,b2,b3,b4,b5⟩:=drawGo_ok a1 a2 a3 a5 a6 a7;exact⟨max m m2,Y,R,U,O,z47 (yc (Kr m m2)) a8,z65 (yc (Lj m m2)) b1,b2,.trans hs a3 a4 b3,b4,b5⟩
    cases X:x.c with
    |quiet =>
     rw[X]at h;dsimp only at h;split at h
     ·cases h
     ·rename_i rs gg;cases g with
      |nil=>cases h
      |cons it H =>
       obtain⟨li,cs⟩:=it;simp only[rdr,Option.some.injEq,List.cons.injEq,Prod.mk.injEq]at h;obtain⟨⟨h1,h2⟩,h3⟩:=h;obtain⟨m,M,K,ρ1,Z,v,q1,q2,q3,q4,q5,q6,q7⟩:=gC h1 rfl;simp only[Ki,Hy]at I;have hH:K.H=c.H:=by
        have hc:cls P x.o.op=.quiet:=by
         rw[X]at C;cases E:cls P x.o.op<;>rw[E]at C<;>first|rfl|cases C
        exact z6g (zd7.1 hc).reads q1
       obtain⟨m',Y,R,U,O,b1,b2,b3,b4,b5,b6⟩:=go (pend':=z) El I.2 q3 q4 q5 (λy B=>⟨(hp y B).1,by rw[hH,q2];exact gF y B (hp y B).2⟩) q7 q1;refine⟨m',Y,R,U,O,?_,b3,b4,b5,b6⟩;simp only[Wb];rw[X];dsimp only;rw[b1];exact b2
    |rd =>
     rw[X]at h;dsimp only at h;split at h
     ·cases h
     ·rename_i j;split at h
      ·cases h
      ·rename_i rs gg;cases g with
       |nil=>cases h
       |cons it H =>
        obtain⟨li,cs⟩:=it;simp only[rdr,Option.some.injEq,List.cons.injEq,Prod.mk.injEq]at h;obtain⟨⟨h1,h2⟩,h3⟩:=h;obtain⟨m,M,K,ρ1,Z,v,q1,q2,q3,q4,q5,q6,q7⟩:=gC h1 rfl;simp only[Ki,Hy]at I;have hc:cls P x.o.op=.rd:=by
         rw[X]at C;cases E:cls P x.o.op<;>rw[E]at C<;>first|rfl|cases C
        have hH:K.H=c.H:=z6g (zd7.2 hc) q1;have T:Vo P ops x M K.H:=by
         unfold Vo;rw[X];intro gP;unfold zks at j;cases A:x.o.dst with
         |none=>rw[A]at j;cases j
         |some d =>
          rw[A]at j;have hm:Xb d (Vq ops x.o)=false:=Bs
          have L:Sz (Vq ops x.o) M gD:=λt ht _=>by
           rw[q2,A];show Nc (Nz t) (Pg v (Nz d) gD)=_;rw[z6b (λq=>zfy hm (by rw[←q];exact ht))]
          rw[z3w L]at gP;refine⟨d,v,rfl,by rw[q2,A];exact xp _ _ _,?_⟩;rw[z93 L,hH];have E:=q1;unfold Rt at E;cases gz:Rp n x.o.dst with
          |none=>rw[gz]at E;cases E
          |some pf =>
           rw[gz]at E;dsimp only at E;rw[gP]at E;dsimp only at E;have gH:=(zd7.2 hc) gD c.H;cases V:(Ow P x.o.op).run gD c.H with
           |no=>rw[V]at E;cases E
           |call t a=>rw[V]at gH;cases gH
           |val w H2 =>
            rw[V]at E gH;cases gH;injection E with e1 e2
            have:=congrArg (λgD=>Nc (Nz d) gD) e1;rw[q2,(zcd gz).1,A,xp,xp]at this;cases this;rfl
        obtain⟨m',Y,R,U,O,b1,b2,b3,b4,b5,b6⟩:=go (pend':=x::z) El I.2 q3 q4 q5 (λy B=>by
         rcases If.1 B with rfl|B
         ·exact⟨⟨.inl X,j⟩,T⟩
         ·exact⟨(hp y B).1,by rw[hH,q2];exact gF y B (hp y B).2⟩) q7 q1
        refine⟨m',Y,R,U,O,?_,b3,b4,b5,b6⟩;simp only[Wb];rw[X];dsimp only;rw[b1];exact b2
    |al =>
     rw[X]at h;dsimp only at h;split at h
     ·cases h
     ·rename_i j;split at h
      ·cases h
      ·rename_i gO gG;split at h
       ·cases h
       ·rename_i rs gg;cases g with
        |nil=>cases h
        |cons it H =>
         obtain⟨li,cs⟩:=it;simp only[rdr,Option.some.injEq,List.cons.injEq,Prod.mk.injEq]at h;obtain⟨⟨h1,h2⟩,h3⟩:=h;obtain⟨m,M,K,ρ1,Z,v,q1,q2,q3,q4,q5,q6,q7⟩:=gC h1 rfl;simp only[Ki,Hy]at I;have hc:cls P x.o.op=.al:=by
          rw[X]at C;cases E:cls P x.o.op<;>rw[E]at C<;>first|rfl|cases C
         rw[h2]at gG;have F:∀y∈z,Pend P n ops y∧Vo P ops y M K.H:=λy B=>by
          obtain⟨gK,w1,w2,w3⟩:=cks_mem gG q6 y B;have gA:gK.o.ok=true:=Jv.1 I.1.2 _ w2;refine⟨(hp y B).1,?_⟩;rw[q2];exact ((hp y B).2.keep w1 gA hs hE q4 w3).put (zj2 gE y B) _
         have T:Vo P ops x M K.H:=by
          unfold Vo;rw[X];intro gP;unfold zks at j;cases A:x.o.dst with
          |none=>rw[A]at j;cases j
          |some d =>
           rw[A]at j;have hm:Xb d (Vq ops x.o)=false:=Bs
           have L:Sz (Vq ops x.o) M gD:=λt ht _=>by
            rw[q2,A];show Nc (Nz t) (Pg v (Nz d) gD)=_;rw[z6b (λq=>zfy hm (by rw[←q];exact ht))]
           rw[z3w L]at gP;have E:=q1;unfold Rt at E;cases gz:Rp n x.o.dst with
           |none=>rw[gz]at E;cases E
           |some pf =>
            rw[gz]at E;dsimp only at E;rw[gP]at E;dsimp only at E;cases V:(Ow P x.o.op).run gD c.H with
            |no=>rw[V]at E;cases E
            |call t a =>
             exfalso;have:=zw8 (o:=x.o) hc gD c.H;rw[V]at this;exact this
            |val w H2 =>
             rw[V]at E;injection E with e1 e2
             have:=congrArg (λgD=>Nc (Nz d) gD) e1;rw[q2,(zcd gz).1,A,xp,xp]at this;cases this;obtain⟨ob,u1,u2,u3⟩:=al_any hc V;refine⟨d,_,c.H.next,ob,rfl,by rw[q2,A];exact xp _ _ _,u2,?_,λH3=>by rw[z93 L];exact u3 H3⟩;rw[←e2,u1];exact Heap.get_push_same _ _
         obtain⟨m',Y,R,U,O,b1,b2,b3,b4,b5,b6⟩:=go (pend':=x::z) El I.2 q3 q4 q5 (λy B=>by
          rcases If.1 B with rfl|B
          ·exact⟨⟨.inr X,j⟩,T⟩
          ·exact F y B) q7 q1
         refine⟨m',Y,R,U,O,?_,b3,b4,b5,b6⟩;simp only[Wb];rw[X];dsimp only;rw[b1];dsimp only;rw[zf4 (λy B=>by
          rcases If.1 B with rfl|B
          ·exact zb7 T (.inr X) j
          ·exact zb7 (F y B).2 (F y B).1.cls (F y B).1.own)]
         exact b2
    |ch =>
     rw[X]at h;dsimp only at h;split at h
     ·cases h
     ·rename_i gO gG;split at h
      ·cases h
      ·rename_i rs gg;cases g with
       |nil=>cases h
       |cons it H =>
        obtain⟨li,cs⟩:=it;simp only[rdr,Option.some.injEq,List.cons.injEq,Prod.mk.injEq]at h;obtain⟨⟨h1,h2⟩,h3⟩:=h;obtain⟨m,M,K,ρ1,Z,v,q1,q2,q3,q4,q5,q6,q7⟩:=gC h1 rfl;simp only[Ki,Hy]at I;rw[h2]at gG;have F:∀y∈Oo (λy=>!(Nat.testBit x.m y.i)) z,Pend P n ops y∧Vo P ops y M K.H:=λy B=>by
         have gL:=zey B;obtain⟨gK,w1,w2,w3⟩:=cks_mem gG q6 y B;have gA:gK.o.ok=true:=Jv.1 I.1.2 _ w2;refine⟨(hp y gL).1,?_⟩;rw[q2];exact ((hp y gL).2.keep w1 gA hs hE q4 w3).put (zj2 gE y gL) _
        obtain⟨m',Y,R,U,O,b1,b2,b3,b4,b5,b6⟩:=go (pend':=Oo (λy=>!(Nat.testBit x.m y.i)) z) El I.2 q3 q4 q5 F q7 q1;refine⟨m',Y,R,U,O,?_,b3,b4,b5,b6⟩;simp only[Wb];rw[X];dsimp only;rw[b1];dsimp only;rw[zf4 (λy B=>zb7 (F y B).2 (F y B).1.cls (F y B).1.own)];exact b2
end draw
section rule
variable {P : Program} {f n : Nat} {ro : Option Nat} {ρ : M9} {D : List Nat} {G : M7} {Q : Qi}
def W_draw{l:List (LI×List (LI×Bool))}(h:mh P l ρ G λj z=>Q .normal j D z):W P f n (.draw l) ro ρ D G Q:=by
 intro A c Z C E F H I K L Y;obtain⟨id,ops,rfl,g⟩:=u9 F;unfold zus at g;dsimp only at g;split at g
 ·rename_i hd;obtain⟨m,M,O,j,z,R,T,B,U,V⟩:=drawGo_ok g H I K (λx X=>by simp at X) h;refine⟨m,.normal,M,C,O,j,D,z,?_,T,B,U,L.mono B.le,V⟩;simp only[Qt,zb2];rw[hd];dsimp only;rw[R]
 ·cases g
end rule
end
end
section
mutual
def LV.dat:LV→Bool
 |.any=>true
 |.bool _ |.u _ |.b _ |.i _ |.int _ _ |.str _ |.nilPtr |.nilSl |.nilMap |.nilFn |.nilIf=>true
 |.cptr l _=>dats l
 |.lst l _ _=>dats l
 |.fn (.func _) l r=>dats l&&dats r
 |.iface _ v=>v.dat
 |.agg l=>dats l
 |.tup l=>dats l
 |_=>false
def dats:List LV→Bool
 |[]=>true
 |v::l=>v.dat&&dats l
end
mutual
def AR.dat{c c':Cx}(gg:∀o,c.Fz o→c'.Fz o∧c'.H.get o=c.H.get o)(v:LV)(a:AV)(hd:v.dat=true)(h:AR c v a):AR c' v a:=by
 cases v with
 |cptr l i =>
  simp only[LV.dat]at hd;cases h with
  |cptr hf hr hl=>exact .cptr (gg _ hf).1 (by rw[z40 (gg _ hf).2];exact hr) (ARs.dat gg l _ hd hl)
 |lst l len gA =>
  simp only[LV.dat]at hd;cases h with
  |lst hf gz hlen hr hl=>exact .lst (gg _ hf).1 gz hlen (by rw[z40 (gg _ hf).2];exact hr) (ARs.dat gg l _ hd hl)
  |lstNil=>exact .lstNil
  |lstEmp=>exact .lstEmp
 |fn f l r =>
  cases f with
  |func f =>
   simp only[LV.dat,Hy]at hd;cases h with
   |fn hl hr=>exact .fn (ARs.dat gg l _ hd.1 hl) (ARs.dat gg r _ hd.2 hr)
  |_=>simp[LV.dat]at hd
 |iface t w =>
  simp only[LV.dat]at hd;cases h with
  |iface h=>exact .iface (AR.dat gg w _ hd h)
 |agg l =>
  simp only[LV.dat]at hd;cases h with
  |agg h=>exact .agg (ARs.dat gg l _ hd h)
 |tup l =>
  simp only[LV.dat]at hd;cases h with
  |tup h=>exact .tup (ARs.dat gg l _ hd h)
 |any=>exact .any a
 |_=>first|(simp only[LV.dat]at hd;cases hd;done)|(cases h;constructor)
termination_by SizeOf.sizeOf v
def ARs.dat{c c':Cx}(gg:∀o,c.Fz o→c'.Fz o∧c'.H.get o=c.H.get o)(l:List LV)(r:List AV)(hd:dats l=true)(h:ARs c l r):ARs c' l r:=by
 cases l with
 |nil=>cases h;exact .nil
 |cons v l =>
  simp only[dats,Hy]at hd;cases h with
  |cons e es=>exact .cons (AR.dat gg v _ hd.1 e) (ARs.dat gg l _ hd.2 es)
termination_by SizeOf.sizeOf l
end
def dats_app:∀{l r:List LV},dats l=true→dats r=true→dats (l++r)=true
 |[],_,_,h=>h
 |v::l,r,h,k=>by
  simp only[dats,Hy]at h;simp only[I6,dats,Hy];exact⟨h.1,dats_app h.2 k⟩
def dats_take:∀{l:List LV} (n:Nat),dats l=true→dats (l.take n)=true
 |_,0,_=>by simp[dats]
 |[],n+1,_=>by simp[dats]
 |v::l,n+1,h=>by
  simp only[dats,Hy]at h;simp only[List.take_succ_cons,dats,Hy];exact⟨h.1,dats_take n h.2⟩
def dats_drop:∀{l:List LV} (n:Nat),dats l=true→dats (l.drop n)=true
 |_,0,h=>h
 |[],n+1,_=>by simp[dats]
 |v::l,n+1,h=>by
  simp only[dats,Hy]at h;simp only[List.drop_succ_cons];exact dats_drop n h.2
def xa{g:Type}{f:g→LV}(h:∀a,(f a).dat=true):∀l:List g,dats (l.map f)=true
 |[]=>rfl
 |a::l=>by simp only[Kk,dats,Hy];exact⟨h a,xa h l⟩
mutual
def bor(G:M7):LV→LV→Prop
 |.dy p k,d=>∃l len gg st,d=.lst l len gg∧G[p]?=some (.dyn l len gg k st)∧dats l=true
 |.vw p k lo len,d=>∃l gz gg st,d=.lst ((l.drop (lo*gg)).take (len*gg)) len gg∧G[p]?=some (.dyn l gz gg k st)∧lo*gg+len*gg≤l.length∧dats l=true
 |.nilSl,d=>d=.nilSl∨∃gg,d=.lst [] 0 gg
 |.agg l,d=>∃r,d=.agg r∧bors G l r
 |v,d=>d=v∧v.dat=true
def bors(G:M7):List LV→List LV→Prop
 |[],r=>r=[]
 |v::l,r=>∃d r',r=d::r'∧bor G v d∧bors G l r'
end
section calls
variable {P : Program} {c : Cx} {G : M7}
def bor_dat{v d:LV}{a:AV}(g:d=v∧v.dat=true)(h:AR c v a):AR ⟨[],λo=>c.Fz o∨Pv c G o,c.H⟩ d a:=by
 obtain⟨rfl,hd⟩:=g;exact AR.dat (c':=⟨[],λo=>c.Fz o∨Pv c G o,c.H⟩) (λo ho=>⟨Or.inl ho,rfl⟩) d a hd h
mutual
def bor_ok(hs:HSim c G)(v d:LV)(a:AV)(hb:bor G v d)(h:AR c v a):AR ⟨[],λo=>c.Fz o∨Pv c G o,c.H⟩ d a:=by
 cases v with
 |dy p k =>
  simp only[bor]at hb;obtain⟨l,len,gg,st,rfl,hg,hd⟩:=hb;cases h with
  | @dy _ _ k' hh _ e hk ha _ =>
   have gD:=hs.obj p _ _ _ hg e;obtain⟨r0,r1,r2⟩:=gD;have gA:=ha J;rcases r2 with ⟨r2,r3⟩|⟨o,v,room,t,gC,l',r2,r3,r4,r5,r6,r7,r8⟩
   ·subst r3;have:l=[]:=Ip Dg;subst this;rw[gA,r2];exact .lstNil
   ·have gK:l'.length=len*gg:=C9
    have hr:=W3 (i:=0) (n:=len*gg) r3 r5 r4 J;rw[Km,Im J]at hr;rw[gA,r2];exact .lst (.inr ⟨p,_,_,_,hg,rfl,e,by rw[r2];rfl⟩) (λr e=>(r7 r e).2) r1 hr (ARs.dat (c':=⟨[],λo=>c.Fz o∨Pv c G o,c.H⟩) (λo ho=>⟨Or.inl ho,rfl⟩) l l' hd r6)
 |vw p k lo len =>
  simp only[bor]at hb;obtain⟨l,gH,gg,st,rfl,hg,hle,hd⟩:=hb;cases h with
  | @vw _ _ _ _ k' hh _ e hk ha _ _ =>
   have gL:=(hs.obj p _ _ _ hg e).1;rcases ha J with ⟨r3,r4⟩|⟨o,v,gI,gz,room,gE,r3,r4,r9⟩
   ·subst r3;simp only[K2,Mw];rcases r4 with rfl|⟨rfl,_⟩
    ·exact .lstNil
    ·exact .lstEmp
   ·have e2:=e;rw[r3]at e2;obtain⟨_,q1,q2,q3,t,gC,l',q4,q5,q6,q7,_⟩:=pi hs hg e2;subst q2 q3;have hr:=W3 (i:=lo*gz) (n:=len*gz) q4 q6 q5 J;rw[r4];refine .lst (.inr ⟨p,_,_,_,hg,rfl,e,by rw[r3];rfl⟩) r9 Ab hr ?_;exact ((ARs.dat (c':=⟨[],λo=>c.Fz o∨Pv c G o,c.H⟩) (λo ho=>⟨Or.inl ho,rfl⟩) l l' hd q7).drop _).take _
 |nilSl =>
  simp only[bor]at hb;cases h;rcases hb with rfl|⟨gg,rfl⟩
  ·exact .nilSl
  ·exact .lstNil
 |agg l =>
  simp only[bor]at hb;obtain⟨r,rfl,hb⟩:=hb;cases h with
  |agg h=>exact .agg (bors_ok hs l r _ hb h)
 |_=>exact bor_dat (by simpa only[bor] using hb) h
termination_by SizeOf.sizeOf v
def bors_ok(hs:HSim c G)(l r:List LV)(as:List AV)(hb:bors G l r)(h:ARs c l as):ARs ⟨[],λo=>c.Fz o∨Pv c G o,c.H⟩ r as:=by
 cases l with
 |nil=>simp only[bors]at hb;subst hb;cases h;exact .nil
 |cons v l =>
  simp only[bors]at hb;obtain⟨d,r',rfl,gF,gG⟩:=hb;cases h with
  |cons e es=>exact .cons (bor_ok hs v d _ gF e) (bors_ok hs l r' _ gG es)
termination_by SizeOf.sizeOf l
end
mutual
def shV(n:Nat):LV→LV
 |.dy j k=>.dy (n+j) k
 |.agg l=>.agg (shVs n l)
 |.tup l=>.tup (shVs n l)
 |v=>v
def shVs(n:Nat):List LV→List LV
 |[]=>[]
 |v::l=>shV n v::shVs n l
end
mutual
def frV(j:M7):LV→LV
 |.dy gz _=>match j[gz]? with
  |some (.dyn l len gg _ _)=>.lst l len gg
  |_=>.any
 |.agg l=>.agg (frVs j l)
 |.tup l=>.tup (frVs j l)
 |v=>v
def frVs(j:M7):List LV→List LV
 |[]=>[]
 |v::l=>frV j v::frVs j l
end
mutual
def sh_AR{c0 c':Cx}{n m:Nat}(h:∀gg a,gg<m→AR c0 (.dy gg 0) a→AR c' (.dy (n+gg) 0) a)(v:LV)(a:AV)(j:v.sim m=true)(ha:AR c0 v a):AR c' (shV n v) a:=by
 cases v with
 |dy gg k =>
  simp only[LV.sim,Hy,Ls,Ic]at j;obtain⟨rfl,hj⟩:=j;exact h gg a hj ha
 |agg l =>
  simp only[LV.sim]at j;cases ha with
  |agg ha=>simp only[shV];exact .agg (sh_ARs h l _ j ha)
 |tup l =>
  simp only[LV.sim]at j;cases ha with
  |tup ha=>simp only[shV];exact .tup (sh_ARs h l _ j ha)
 |_=>first|(simp only[LV.sim]at j;cases j;done)|(simp only[shV];cases ha;constructor)
termination_by SizeOf.sizeOf v
def sh_ARs{c0 c':Cx}{n m:Nat}(h:∀gg a,gg<m→AR c0 (.dy gg 0) a→AR c' (.dy (n+gg) 0) a)(l:List LV)(r:List AV)(j:sims m l=true)(ha:ARs c0 l r):ARs c' (shVs n l) r:=by
 cases l with
 |nil=>cases ha;simp only[shVs];exact .nil
 |cons v l =>
  simp only[sims,Hy]at j;cases ha with
  |cons e es=>simp only[shVs];exact .cons (sh_AR h v _ j.1 e) (sh_ARs h l _ j.2 es)
termination_by SizeOf.sizeOf l
end
mutual
def fr_AR{c0 c':Cx}{G0:M7}(h:∀gg a,gg<G0.length→AR c0 (.dy gg 0) a→AR c' (frV G0 (.dy gg 0)) a)(v:LV)(a:AV)(j:v.sim G0.length=true)(ha:AR c0 v a):AR c' (frV G0 v) a:=by
 cases v with
 |dy gg k =>
  simp only[LV.sim,Hy,Ls,Ic]at j;obtain⟨rfl,hj⟩:=j;exact h gg a hj ha
 |agg l =>
  simp only[LV.sim]at j;cases ha with
  |agg ha=>simp only[frV];exact .agg (fr_ARs h l _ j ha)
 |tup l =>
  simp only[LV.sim]at j;cases ha with
  |tup ha=>simp only[frV];exact .tup (fr_ARs h l _ j ha)
 |_=>first|(simp only[LV.sim]at j;cases j;done)|(simp only[frV];cases ha;constructor)
termination_by SizeOf.sizeOf v
def fr_ARs{c0 c':Cx}{G0:M7}(h:∀gg a,gg<G0.length→AR c0 (.dy gg 0) a→AR c' (frV G0 (.dy gg 0)) a)(l:List LV)(r:List AV)(j:sims G0.length l=true)(ha:ARs c0 l r):ARs c' (frVs G0 l) r:=by
 cases l with
 |nil=>cases ha;simp only[frVs];exact .nil
 |cons v l =>
  simp only[sims,Hy]at j;cases ha with
  |cons e es=>simp only[frVs];exact .cons (fr_AR h v _ j.1 e) (fr_ARs h l _ j.2 es)
termination_by SizeOf.sizeOf l
end
def Nt{f:Nat}(hc:Of P f vY O F)(hb:bors G E vY)(k:Y (frV F O) G):Rl P (.fn f) E G Y:=by
 obtain⟨ht,M,hG,Q⟩:=hc;refine⟨ht,λc t1 B j R ha=>?_⟩;cases t1 with
 |yield o=>exact R.elim
 |fn gF =>
  obtain rfl:f=gF:=R;obtain⟨m,v1,D,H,q1,q2,q3,q4,q5,q6⟩:=Q (λo=>c.Fz o∨Pv c G o) c.H B (λo ho=>ho.elim (j.fz o) (j.lt o)) (bors_ok j E vY B hb ha);have T:CxLe c ⟨c.hd,λo=>c.Fz o∨Pv ⟨D,λo=>c.Fz o∨Pv c G o,H⟩ F o,H⟩:=⟨λp k h e=>⟨k,h,e,Ia _,λ_=>rfl,λ_=>rfl⟩,λo ho=>⟨.inl ho,q5 o (j.fz o ho)⟩⟩;have g:∀o,Pv ⟨c.hd,λo=>c.Fz o∨Pv ⟨D,λo=>c.Fz o∨Pv c G o,H⟩ F o,H⟩ G o→Pv c G o:=λo ⟨p,z,k,h,C,A,U,V⟩=>⟨p,z,k,h,C,A,U,V⟩
  refine⟨m,v1,H,q1,⟨c.hd,λo=>c.Fz o∨Pv ⟨D,λo=>c.Fz o∨Pv c G o,H⟩ F o,H⟩,frV F O,G,rfl,?_,?_,?_,k⟩
  ·refine⟨j.len,λo ho=>?_,λo ho=>I0 (j.lt o (g o ho)) q4,λo ho X=>?_,λp z k h C A=>?_,λp q z I k h k' h' o C A U V e5 e6 e7 e8=>j.excl p q z I k h k' h' o C A U V e5 e6 e7 e8⟩
   ·rcases ho with ho|ho
    ·exact I0 (j.fz o ho) q4
    ·exact q2.lt o ho
   ·rcases X with X|X
    ·exact j.sep o (g o ho) X
    ·have:=q6 o X;have:=j.lt o (g o ho);omega
   ·by_cases hl:z.live=true
    ·exact (j.obj p z k h C A).mono T (λo ho=>q5 o (j.lt o ⟨p,z,k,h,C,hl,A,ho⟩))
    ·cases z<;>first|exact absurd rfl hl|trivial
  ·refine⟨T,q4,λo ho _=>q5 o ho,λo ho=>.inl (g o ho),λo ho=>ho.elim .inl (λh=>.inr (.inr (q6 o h))),λp z I C A=>?_,λp z I k h o C A U V e5 e6=>?_⟩
   ·rw[C]at A;cases A;exact Ia _
   ·rw[C]at A;cases A;have hl:z.live=true:=by cases z<;>first|rfl|cases e5
    exact⟨rfl,q5 o (j.lt o ⟨p,z,k,h,C,hl,U,V⟩),rfl⟩
  ·refine fr_AR (λgD a hj h=>?_) O v1 M q3;obtain⟨l,len,K,gg,gz⟩:=hG gD _ (H6 hj);have hg:F[gD]?=some (.dyn l len K 0 0):=by rw[H6 hj,gg]
   simp only[frV];rw[hg];dsimp only;cases h with
   | @dy _ _ k' hh _ e hk ha _ =>
    obtain⟨r0,r1,L⟩:=q2.obj gD _ _ _ hg e;have Z:=ha J;rcases L with ⟨L,r3⟩|⟨o,v,gA,t,gC,l',L,r3,r4,r5,r6,r7,r8⟩
    ·subst r3;have:l=[]:=Ip Dg;subst this;rw[Z,L];exact .lstNil
    ·have gE:l'.length=len*K:=C9
     have hr:=W3 (i:=0) (n:=len*K) r3 r5 r4 J;rw[Km,Im J]at hr;rw[Z,L];exact .lst (.inr ⟨gD,_,_,_,hg,rfl,e,by rw[L];rfl⟩) (λr e=>(r7 r e).2) r1 hr (zgc gz r6)
def zf9{f:Nat}(hc:Of P f vY O F)(hb:bors G E vY)(k:Y (shV G.length O) (G++F)):Rl P (.fn f) E G Y:=by
 obtain⟨ht,Z,hG,gg⟩:=hc;refine⟨ht,λc t1 M j gz ha=>?_⟩;cases t1 with
 |yield o=>exact gz.elim
 |fn gI =>
  obtain rfl:f=gI:=gz;obtain⟨m,v1,A,U,q1,V,q3,q4,q5,q6⟩:=gg (λo=>c.Fz o∨Pv c G o) c.H M (λo ho=>ho.elim (j.fz o) (j.lt o)) (bors_ok j E vY M hb ha);have gA:∀(p k:Nat) (h:AV),c.hd[p]?=some (k,h)→(c.hd++A)[p]?=some (k,h):=λp k h e=>by
   rw[H8 (Hu.1 e).1];exact e
  have gC:CxLe c ⟨c.hd++A,c.Fz,U⟩:=⟨λp k h e=>⟨k,h,gA p k h e,Ia _,λ_=>rfl,λ_=>rfl⟩,λo ho=>⟨ho,q5 o (j.fz o ho)⟩⟩;have T:A.length=F.length:=V.len;have H:∀(p:Nat) (k:Nat) (h:AV) (g:LObj),(c.hd++A)[p]?=some (k,h)→(G++F)[p]?=some g→(c.hd[p]?=some (k,h)∧G[p]?=some g)∨(G.length≤p∧A[p-G.length]?=some (k,h)∧F[p-G.length]?=some g):=by
   intro p k h g B C;by_cases hp:p<G.length
   ·rw[H8 hp]at C;rw[H8 (by rw[j.len];exact hp)]at B;exact .inl ⟨B,C⟩
   ·rw[Ij J]at C;rw[Ij (by rw[j.len];omega),j.len]at B;exact .inr ⟨J,B,C⟩
  have D:∀(p k:Nat) (h:AV) (z:LObj) (o:Nat),A[p]?=some (k,h)→F[p]?=some z→z.live=true→Ok h=some o→Pv ⟨A,λo=>c.Fz o∨Pv c G o,U⟩ F o:=λp k h z o B C K Q=>⟨p,z,k,h,C,K,B,Q⟩
  have R:∀o,Pv ⟨c.hd++A,c.Fz,U⟩ (G++F) o→Pv c G o∨(c.H.next≤o∧o<U.next):=by
   rintro o ⟨p,g,k,h,B,C,K,Q⟩;rcases H p k h g K B with ⟨q1,V⟩|⟨_,L,I⟩
   ·exact .inl ⟨p,g,k,h,V,C,q1,Q⟩
   ·have:=D _ k h g o L I C Q;exact .inr ⟨q6 o this,V.lt o this⟩
  refine⟨m,v1,U,q1,⟨c.hd++A,c.Fz,U⟩,shV G.length O,G++F,rfl,?_,?_,?_,k⟩
  ·refine⟨by simp[j.len,T],λo ho=>I0 (j.fz o ho) q4,λo ho=>?_,λo ho hf=>?_,λp z k h B C=>?_,λp q z g k h X h' o B C K Q e5 e6 e7 e8=>?_⟩
   ·rcases R o ho with h|h
    ·exact I0 (j.lt o h) q4
    ·exact h.2
   ·rcases R o ho with h|h
    ·exact j.sep o h hf
    ·have:=j.fz o hf;omega
   ·rcases H p k h z C B with ⟨L,I⟩|⟨_,L,I⟩
    ·by_cases hl:z.live=true
     ·exact (j.obj p z k h I L).mono gC (λo ho=>q5 o (j.lt o ⟨p,z,k,h,I,hl,L,ho⟩))
     ·cases z<;>first|exact absurd rfl hl|trivial
    ·obtain⟨l,len,gH,rfl,gF⟩:=hG _ _ I;obtain⟨s0,s1,s2⟩:=V.obj _ _ _ _ I L;refine⟨s0,s1,?_⟩;rcases s2 with s2|⟨o,v,gD,t,gE,l',s2,s3,s4,s5,s6,s7⟩
     ·exact .inl s2
     ·exact .inr ⟨o,v,gD,t,gE,l',s2,s3,s4,s5,zgc gF s6,s7⟩
   ·rcases H p k h z e5 B with ⟨L,I⟩|⟨hp,L,I⟩<;>rcases H q X h' g e6 C with ⟨r3,r4⟩|⟨hq,r3,r4⟩
    ·exact j.excl p q z g k h X h' o I r4 K Q L r3 e7 e8
    ·have:=j.lt o ⟨p,z,k,h,I,K,L,e7⟩;have:=q6 o (D _ _ _ _ o r3 r4 Q e8);omega
    ·have:=j.lt o ⟨q,g,X,h',r4,Q,r3,e8⟩;have:=q6 o (D _ _ _ _ o L I K e7);omega
    ·have:=V.excl _ _ z g k h X h' o I r4 K Q L r3 e7 e8;omega
  ·refine⟨gC,q4,λo ho _=>q5 o ho,λo ho=>(R o ho).elim .inl (λh=>.inr h.1),λo ho=>.inl ho,λp z g B C=>?_,λp z g k h o B C K Q e5 e6=>?_⟩
   ·rw[H8 (Hu.1 B).1,B]at C;cases C;exact Ia _
   ·rw[H8 (Hu.1 B).1,B]at C;cases C;have hl:z.live=true:=by cases z<;>first|rfl|cases e5
    exact⟨rfl,q5 o (j.lt o ⟨p,z,k,h,B,hl,K,Q⟩),by rw[gA p k h K,K]⟩
  ·refine sh_AR (λgK a hj h=>?_) O v1 Z q3;cases h with
   | @dy _ _ X hh _ e hk ha gG =>
    exact .dy (k':=X) (h:=hh) (by dsimp only;rw[Ij (by rw[j.len];omega),j.len,Nat.add_sub_cancel_left];exact e) hk ha gG
end calls
end
section
section rules
variable {P : Program} {f n : Nat} {ρ : M9} {D : List Nat} {G : M7} {Q : Qi}
end rules
end
section
noncomputable section
def wp(P:Program)(f n:Nat)(ro:Option Nat):LC→M9→List Nat→M7→Qi→Prop
 |.skip,ρ,D,G,Q=>Q .normal ρ D G
 |.ops l,ρ,D,G,Q=>U5 P l ρ G λρ' G'=>Q .normal ρ' D G'
 |.seq a b,ρ,D,G,Q=>wp P f n ro a ρ D G λx ρ' j G'=>match x with
  |.normal=>wp P f n ro b ρ' j G' Q
  |x=>Q x ρ' j G'
 |.cond x a b,ρ,D,G,Q=>brV (x.ev ρ) (wp P f n ro a ρ D G Q) (wp P f n ro b ρ D G Q)
 |.block id c,ρ,D,G,Q=>wp P f n ro c ρ D G λx ρ' j G'=>match x with
  |.exit i=>if i=id then Q .normal ρ' j G' else Q (.exit i) ρ' j G'
  |x=>Q x ρ' j G'
 |.draw l,ρ,D,G,Q=>mh P l ρ G λρ' G'=>Q .normal ρ' D G'
 |.exit id,ρ,D,G,Q=>Q (.exit id) ρ D G
 |.scope c,ρ,D,G,Q=>wp P f n ro c ρ D G Q
 |.label,ρ,D,G,Q=>Q .normal ρ D G
 |.ret,ρ,D,G,Q=>Q .ret ρ D G
 |.stuck,_,_,_,_=>False
 |s,ρ,D,G,Q=>W P f n s ro ρ D G Q
def Y9(P:Program)(f n:Nat)(ro:Option Nat)(b:LC)(Q:Qi):Qi:=λx ρ' j G'=>match x with
  |.normal=>wp P f n ro b ρ' j G' Q
  |x=>Q x ρ' j G'
def zc(id:Nat)(Q:Qi):Qi:=λx ρ' j G'=>match x with
  |.exit i=>if i=id then Q .normal ρ' j G' else Q (.exit i) ρ' j G'
  |x=>Q x ρ' j G'
def nxQ(Nx:M9→List Nat→M7→Prop)(Q:Qi):Qi:=λx ρ' j G'=>match x with
  |.normal=>Nx ρ' j G'
  |x=>Q x ρ' j G'
def endK(K:LV→M7→Prop)(G:M7):List LV→Prop:=λvs=>K (Uq vs) G
def takK(ρ:M9)(rs:List RRes)(K:LV→M7→Prop):M7→Prop:=λj=>Rr ρ j rs (endK K j)
def rk (rs : List RRes) (K : LV → M7 → Prop) : Qi := fun x ρ D G' => match x with
   |.exit _=>False
   |_=>yj D G' (takK ρ rs K)
def norQ(Q:Qi)(D:List Nat):M9→M7→Prop:=λρ G=>Q .normal ρ D G
def opsK(P:Program)(l:List LI)(K:M9→M7→Prop):M9→M7→Prop:=λρ' G'=>U5 P l ρ' G' K
def ym(ρ:M9)(d:Option Nat)(K:M9→M7→Prop):LV→M7→Prop:=λv G'=>K (Td ρ d v) G'
def Ze(K:LV→M7→Prop)(G:M7):LV→Prop:=λv=>K v G
def drK(P:Program)(cs:List (LI×Bool))(l:List (LI×List (LI×Bool)))(ρ:M9)(G:M7)(K:M9→M7→Prop):M9→M7→Prop:=λρ' G'=>Xw ρ G G' cs∧mh P l ρ' G' K
def tmpK(ρ:M9)(t:Nat)(K:List LV→Prop):List LV→Prop:=λvs=>K (lk ρ t::vs)
def conK(v:LV)(K:List LV→Prop):List LV→Prop:=λvs=>K (v::vs)
def cnK(ρ:M9)(G:M7)(l:List RRes)(K:List LV→Prop):List LV→Prop:=λcs=>Rr ρ G l (conK (.agg cs) K)
def S1{P:Program}{f n:Nat}{ro:Option Nat}:∀(s:LC) {ρ:M9} {D:List Nat} {G:M7} {Q:Qi},wp P f n ro s ρ D G Q→W P f n s ro ρ D G Q
 |.skip,_,_,_,_,h=>W_skip h
 |.ops l,_,_,_,_,h=>W_ops h
 |.seq a b,_,_,_,_,h=>py ((S1 a h).post λx ρ D G k=>by
  cases x with
  |normal=>exact S1 b k
  |exit i=>exact k
  |ret=>exact k)
 |.cond x a b,ρ,_,_,_,h=>by
  simp only[wp]at h;obtain⟨t,j,h⟩:=sj h;exact W_cond j (λe=>S1 a (h.1 e)) (λe=>S1 b (h.2 e))
 |.block id c,_,_,_,_,h=>zl (S1 c h)
 |.exit id,_,_,_,_,h=>W_exit h
 |.scope c,_,_,_,_,h=>W_scope (S1 c h)
 |.label,_,_,_,_,h=>W_label h
 |.ret,_,_,_,_,h=>W_ret h
 |.stuck,_,_,_,_,h=>h.elim
 |.draw l,_,_,_,_,h=>W_draw h
 |.loop c,_,_,_,_,h=>h
 |.rangeF g ps a b,_,_,_,_,h=>h
section rules
variable {P : Program}
def Ni{f:Nat}{s:LC}{n:Nat}{rs:List RRes}(C:Ng P f=some ⟨n,s.r,rs⟩)(j:s.ok=true){G:M7}{K:LV→M7→Prop}(F:E.length≤n)
  (h:wp P f n none s (ma E 0) [] G (rk rs K)):Rl P (.fn f) E G K :=
 zn7 C j F ((S1 s h).post λx ρ D G' k=>by
  cases x with
  |normal=>exact⟨trivial,k⟩
  |exit i=>exact k.elim
  |ret=>exact⟨trivial,k⟩)
def Of.val{f:Nat}{args:List LV}{v0:LV}(j:v0.sim 0=true)(h:Rl P (.fn f) args [] λv _=>v=subV [] v0):Of P f args v0 [] :=
 .mk j (h.mono λv G e=>⟨[],e,rfl,trivial⟩) (λgg ob e=>Cl)
def loop_wp{f n:Nat}{ro:Option Nat}{ρ:M9}{D:List Nat}{G:M7}{Q:Qi}{s:LC}(I:M9→List Nat→M7→Nat→Prop){N:Nat}(C:I ρ D G N)
  (h:∀N ρ D G,I ρ D G N→wp P f n ro s ρ D G (nxQ (λρ' E G'=>∃j,j<N∧I ρ' E G' j) Q)):W P f n (.loop s) ro ρ D G Q :=
 uj I C λN ρ D G k=>S1 s (h N ρ D G k)
def O5{f n:Nat}{ro:Option Nat}{ρ:M9}{D:List Nat}{G:M7}{Q:Qi}{s:LC}(I:M9→List Nat→M7→Nat→Prop){N:Nat}(E:I ρ D G N)
  (h:∀(N:Nat) (ρ:M9) (D:List Nat) (G:M7),I ρ D G N→∀Nx:M9→List Nat→M7→Prop,(∀(ρ':M9) (C:List Nat) (G':M7),(∃j,j<N∧I ρ' C G' j)→Nx ρ' C G')→wp P f n ro s ρ D G (nxQ Nx Q)):W P f n (.loop s) ro ρ D G Q :=
 uj I E λN ρ D G k=>S1 s (h N ρ D G k (λρ' C G'=>∃j,j<N∧I ρ' C G' j) λ_ _ _ e=>e)
end rules
section congr
variable {P : Program} {ρ ρ' : M9} {G G' : M7} {x x' y y' : LV} {K : LV → M7 → Prop} {Kv : LV → Prop}
@[congr] theorem W_congr {f n:Nat} {s:LC} {ro:Option Nat} {D:List Nat} {Q:Qi} (j:ρ=ρ') (C:G=G'):W P f n s ro ρ D G Q=W P f n s ro ρ' D G' Q:=Cd
@[congr] theorem wp_congr {f n:Nat} {s:LC} {ro:Option Nat} {D:List Nat} {Q:Qi} (j:ρ=ρ') (C:G=G'):wp P f n ro s ρ D G Q=wp P f n ro s ρ' D G' Q:=Cd
@[congr] theorem CallL_congr {t:LTgt} {a:List LV} (j:a=E) (C:G=G'):Rl P t a G K=Rl P t E G' K:=Cd
@[congr] theorem binL_congr {op:BinOp} {g:Bool} {t:TypeId} (j:x=x') (C:y=y'):Ta P op g t x y Kv=Ta P op g t x' y' Kv:=Cd
@[congr] theorem unL_congr {op:UnOp} (j:x=x'):unL op x Kv=unL op x' Kv:=F5
@[congr] theorem cvL_congr {k:IntKind} (j:x=x'):cvL k x Kv=cvL k x' Kv:=F5
@[congr] theorem readL_congr {n:Nat} {K:List LV→Prop} (j:G=G') (C:x=x'):Yb G x n K=Yb G' x' n K:=Cd
@[congr] theorem read1_congr (j:G=G') (C:x=x'):cu G x Kv=cu G' x' Kv:=Cd
@[congr] theorem nthL_congr {l:List LV} {i:Nat} (C:l=E) (F:i=j):Py l i Kv=Py E j Kv:=by rw[C,F]
@[congr] theorem writeL_congr {r:List LV} {K:M7→Prop} (j:G=G') (C:x=x') (F:r=E):Wn G x r K=Wn G' x' E K:=by rw[j,C,F]
@[congr] theorem rowL_congr {n:Nat} {K:Nat→List LV→Prop} (j:G=G') (C:x=x'):Uf G n x K=Uf G' n x' K:=Cd
@[congr] theorem lenL_congr {K:Nat→Prop} (j:G=G') (C:x=x'):lenL G x K=lenL G' x' K:=Cd
@[congr] theorem appL_congr {size n n':Nat} {l:List LV} (j:G=G') (C:x=x') (F:n=n') (H:l=E):Ps G size x n l K=Ps G' size x' n' E K:=by rw[j,C,F,H]
@[congr] theorem brL_congr {t:Bool} {A B:Prop} (h:t=R):Uk t A B=Uk R A B:=E9
@[congr] theorem brG_congr {A B:Prop} (h:x=x'):wo x A B uO=wo x' A B uO:=E9
@[congr] theorem brV_congr {A B:Prop} (h:x=x'):brV x A B=brV x' A B:=E9
end congr
def zsg{t:Bool}{A B:Prop}:brV (.bool t) A B=Uk t A B:=(rfl)
def zw6{t:Bool}{A B:Prop}:wo (.bool t) A B uO=Uk t A B:=(rfl)
def Zu{A B:Prop}:wo (.tup []) A B uO=uO:=(rfl)
def zod{A B:Prop}:Uk true A B=A:=by simp[Uk]
def zly{A B:Prop}:Uk false A B=B:=by simp[Uk]
def brL_dec{p:Prop}[Decidable p]{A B:Prop}:Uk (decide p) A B=((p→A)∧(¬p→B)):=by simp[Uk]
def zzh{b:Bool}{A B:Prop}:Uk (!b) A B=Uk b B A:=by cases b<;>simp[Uk]
def zs0(v:LV)(l:List LV)(K:LV→Prop):Py (v::l) 0 K=K v:=by simp[Py]
def zrq(v:LV)(l:List LV)(i:Nat)(K:LV→Prop):Py (v::l) (i+1) K=Py l i K:=by simp[Py]
def zwq(f:vQ→LV)(d:vQ)(l:List vQ)(i:Nat)(K:LV→Prop):Py (l.map f) i K=(i<l.length∧K (f (l.getD i d))):=by
 unfold Py;by_cases h:i<l.length
 ·simp[h]
 ·simp[h]
def qe(l:List UInt64)(i:Nat)(K:LV→Prop):Py (l.map .u) i K=(i<l.length∧K (.u (l.getD i 0))):=zwq _ _ _ _ _
def ly(o:Option LObj)(K:List LV→Nat→Prop):Prop:=match o with
 |some (.cells l st)=>K l st
 |_=>False
def Ro(o:Option LObj)(K:List LV→Nat→Nat→Nat→Nat→Prop):Prop:=match o with
 |some (.dyn l len esz j st)=>K l len esz j st
 |_=>False
def zl6(o:Option (List LV))(K:List LV→Prop):Prop:=match o with
 |some l=>K l
 |none=>False
def zpv(c a b:LV)(K:LV→Prop):Prop:=match c with
 |.bool t=>match a,b with
  |.bool x,.bool y=>K (.bool (match t with|true=>x|false=>y))
  |x,y=>Uk t (K x) (K y)
 |_=>False
def chkL(x:LV)(K:LV→Prop):Prop:=match x with
 |.ptr p i=>K (.ptr p i)
 |.dptr p k i=>K (.dptr p k i)
 |.cptr l i=>K (.cptr l i)
 |.fn (.func f) a b=>K (.fn (.func f) a b)
 |_=>False
def Xu(x y:LV)(K:Nat→Prop):Prop:=match x,y with
 |.i l,.i c=>l=c∧0≤l∧l≤1048576∧K l.toNat
 |_,_=>False
def bndV(x:LV)(K:Nat→Prop):Prop:=match x with
 |.i n=>0≤n∧K n.toNat
 |.u n=>K n.toNat
 |_=>False
def wx(G:M7)(size:Nat)(x:LV)(lo:(Nat→Prop)→Prop)(hi:Nat→(Nat→Prop)→Prop)(K:LV→Prop):Prop:=match x with
 |.nilSl=>lo λa=>hi 0 λb=>a=0∧b=0∧K .nilSl
 |.dy p k=>Ro G[p]? λ_ len esz j _=>k=j∧esz=size∧lo λa=>hi len λb=>a≤b∧b≤len∧K (.vw p k a (b-a))
 |.vw p k C len=>Ro G[p]? λ_ _ esz j _=>k=j∧esz=size∧lo λa=>hi len λb=>a≤b∧b≤len∧K (.vw p k (C+a) (b-a))
 |.lst l len esz=>esz=size∧lo λa=>hi len λb=>a≤b∧b≤len∧K (.lst ((l.drop (a*esz)).take ((b-a)*esz)) (b-a) esz)
 |_=>False
def W9(off:Nat)(x:LV)(K:LV→Prop):Prop:=match x with
 |.ptr p i=>K (.ptr p (i+off))
 |.dptr p k i=>K (.dptr p k (i+off))
 |.cptr l i=>K (.cptr l (i+off))
 |_=>False
def fldL(g:Bool)(n off:Nat)(x:LV)(K:LV→Prop):Prop:=match x with
 |.agg l=>match g with
  |true=>off+n≤l.length∧K (.agg ((l.drop off).take n))
  |false=>Py l off K
 |_=>False
def l7(G:M7)(size:Nat)(x:LV)(n:Int)(K:LV→Prop):Prop:=match x with
 |.dy p k=>Ro G[p]? λ_ len esz j _=>k=j∧esz=size∧0≤n∧n<len∧K (.dptr p k (n.toNat*size))
 |.vw p k lo len=>Ro G[p]? λ_ _ esz j _=>k=j∧esz=size∧0≤n∧n<len∧K (.dptr p k ((lo+n.toNat)*size))
 |.lst l len esz=>esz=size∧0≤n∧n<len∧K (.cptr l (n.toNat*size))
 |_=>False
def ixL(G:M7)(size:Nat)(x i:LV)(K:LV→Prop):Prop:=match i with
 |.i n=>l7 G size x n K
 |.u n=>l7 G size x (n.toNat:Int) K
 |_=>False
def tupL(i:Nat)(x:LV)(K:LV→Prop):Prop:=match x with
 |.tup l=>Py l i K
 |_=>False
def tf(j:Bool)(x y:LV)(K:LV→Prop):Prop:=match x,y with
 |.i a,.i b=>K (.i (match j with|true=>max a b|false=>min a b))
 |.u a,.u b=>K (.u (match j with|true=>if a<b then b else a|false=>if b<a then b else a))
 |_,_=>False
def y9(x:LV)(K:Nat→Prop):Prop:=match x with
 |.i n=>0≤n∧n≤1048576∧K n.toNat
 |_=>False
def Xr(G:M7)(size:Nat)(d:LV)(n:Nat)(l:List LV)(K:LV→M7→Prop):Prop:=match d with
 |.dy p k=>Ro G[p]? λr len esz j st=>k=j∧esz=size∧K (.i (min n len:Nat)) (G.set p (.dyn (Oq r 0 (l.take (min n len*size))) len esz j (st+1)))
 |.vw p k lo len=>Ro G[p]? λr C esz j st=>k=j∧esz=size∧(lo+len)*size≤r.length∧K (.i (min n len:Nat)) (G.set p (.dyn (Oq r (lo*size) (l.take (min n len*size))) C esz j (st+1)))
 |_=>False
def zs8(G:M7)(size:Nat)(z:List LV)(x:LV)(K:M7→Prop):Prop:=match x with
 |.vw p k lo len=>Ro G[p]? λr j esz C st=>k=C∧esz=size∧z.length=size∧(lo+len)*size≤r.length∧K (G.set p (.dyn (Oq r (lo*size) (Pl z len)) j esz C (st+1)))
 |_=>False
def goL(P:Program)(f:LV)(j:List LV)(G:M7)(K:LV→M7→Prop):Prop:=match f with
 |.fn (.func g) a b=>Rl P (.fn g) (a++j++b) G K
 |.fn (.yield p) [] _=>Rl P (.yield p) j G K
 |_=>False
section byOps
variable {P : Program} {ρ : M9} {G : M7} {K : LV → M7 → Prop} {x y c a b s d i f : Lx} {l cs z : List LV} {ps : List (Nat × Nat × Lx)} {n size len off : Nat} {lo hi : Option Lx}
def OpL_move:Oj P ρ G (.move x) K=K (x.ev ρ) G:=(rfl)
def OpL_pick:Oj P ρ G (.pick c a b) K=zpv (c.ev ρ) (a.ev ρ) (b.ev ρ) (Ze K G):=(rfl)
def OpL_alloc:Oj P ρ G (.alloc l) K=K (.ptr G.length 0) (G++[.cells l 0]):=(rfl)
def OpL_box:Oj P ρ G (.box x) K=zl6 (x.ev ρ).cells λl=>K (.ptr G.length 0) (G++[.cells l 0]):=(rfl)
def OpL_build:Oj P ρ G (.build cs ps) K=zl6 (zpk ρ cs ps) λl=>K (.agg l) G:=(rfl)
def OpL_buildSl:Oj P ρ G (.buildSl size len cs ps) K=zl6 (zpk ρ cs ps) λl=>l.length=len*size∧K (.dy G.length 0) (G++[.dyn l len size 0 0]):=(rfl)
def OpL_load1:Oj P ρ G (.load1 x) K=cu G (x.ev ρ) (Ze K G):=(rfl)
def OpL_loadN:Oj P ρ G (.loadN n x) K=Yb G (x.ev ρ) n λl=>K (.agg l) G:=(rfl)
def OpL_store:Oj P ρ G (.store n x y) K=zl6 (y.ev ρ).cells λl=>l.length=n∧Wn G (x.ev ρ) l λG'=>K (.tup []) G':=(rfl)
def OpL_nilChk:Oj P ρ G (.nilChk x) K=chkL (x.ev ρ) (Ze K G):=(rfl)
def zo{op:BinOp}{g:Bool}{t:TypeId}:Oj P ρ G (.bin op g t x y) K=Ta P op g t (x.ev ρ) (y.ev ρ) (Ze K G):=(rfl)
def OpL_un{op:UnOp}:Oj P ρ G (.un op x) K=unL op (x.ev ρ) (Ze K G):=(rfl)
def i1{k:IntKind}:Oj P ρ G (.cvInt k x) K=cvL k (x.ev ρ) (Ze K G):=(rfl)
def zy0{g:Nat}{j gs:List Lx}:Oj P ρ G (.mkFunc g j gs) K=K (.fn (.func g) (j.map (·.ev ρ)) (gs.map (·.ev ρ))) G:=(rfl)
def OpL_mkSl:Oj P ρ G (.mkSl size z a b) K=Xu (a.ev ρ) (b.ev ρ) λn=>z.length=size∧K (.dy G.length 0) (G++[.dyn (Pl z n) n size 0 0]):=by
 simp only[Oj,Xu];cases a.ev ρ<;>cases b.ev ρ<;>rfl
def jr{x:Lx}{d:Nat}{K:Nat→Prop}:Qa ρ d (some x) K=bndV (x.ev ρ) K:=(rfl)
def i4{d:Nat}{K:Nat→Prop}:Qa ρ d none K=K d:=(rfl)
def OpL_slSl:Oj P ρ G (.slSl size x lo hi) K=wx G size (x.ev ρ) (λk=>Qa ρ 0 lo k) (λd k=>Qa ρ d hi k) (Ze K G):=by
 simp only[Oj,wx,Ro];cases x.ev ρ<;>try rfl
 all_goals (cases G[_]?<;>try rfl)
def yx(len size:Nat)(x i:LV)(K:LV→Prop):Prop:=match i with
 |.i n=>0≤n∧n<len∧W9 (n.toNat*size) x K
 |_=>False
def ixAL(g:Bool)(len size:Nat)(x i:LV)(K:LV→Prop):Prop:=match i with
 |.i n=>0≤n∧n<len∧fldL g size (n.toNat*size) x K
 |_=>False
def zoh{len size:Nat}{x i:Lx}:Oj P ρ G (.ixAddrArr len size x i) K=yx len size (x.ev ρ) (i.ev ρ) (Ze K G):=(rfl)
def gt{g:Bool}{len size:Nat}{x i:Lx}:Oj P ρ G (.ixArr g len size x i) K=ixAL g len size (x.ev ρ) (i.ev ρ) (Ze K G):=(rfl)
def OpL_fieldAddr:Oj P ρ G (.fieldAddr off x) K=W9 off (x.ev ρ) (Ze K G):=(rfl)
def OpL_ixAddr:Oj P ρ G (.ixAddr size x i) K=ixL G size (x.ev ρ) (i.ev ρ) (Ze K G):=by
 simp only[Oj,ixL,l7,ixO,Ro];cases i.ev ρ<;>try rfl
def OpL_extract:Oj P ρ G (.extract n x) K=tupL n (x.ev ρ) (Ze K G):=(rfl)
def OpL_lenSl:Oj P ρ G (.lenSl x) K=lenL G (x.ev ρ) λn=>K (.i n) G:=(rfl)
def ot{g:Bool}:Oj P ρ G (.maxi g x y) K=tf g (x.ev ρ) (y.ev ρ) (Ze K G):=(rfl)
def OpL_appZ:Oj P ρ G (.appZ size z s x) K=y9 (x.ev ρ) λn=>z.length=size∧Ps G size (s.ev ρ) n (Pl z n) K:=(rfl)
def OpL_appG:Oj P ρ G (.appG size s x) K=Uf G size (x.ev ρ) λn l=>n≤1048576∧Ps G size (s.ev ρ) n l K:=(rfl)
def OpL_copy:Oj P ρ G (.copy size d x) K=Uf G size (x.ev ρ) λn l=>Xr G size (d.ev ρ) n l K:=by
 simp only[Oj,Xr,Ro]
 congr 1
def OpL_clear:Oj P ρ G (.clear size z x) K=zs8 G size z (x.ev ρ) λG'=>K .any G':=by
 simp only[Oj,zs8,Ro]
 congr 1
def fx{j:List Lx}:Oj P ρ G (.callV f j) K=goL P (f.ev ρ) (j.map (·.ev ρ)) G K:=(rfl)
end byOps
section opened
variable {P : Program} {G : M7} {p k i n size lo len off esz : Nat} {l r new : List LV} {K : List LV → Prop} {K1 : LV → Prop} {KG : M7 → Prop} {KN : Nat → Prop} {KR : Nat → List LV → Prop} {KV : LV → M7 → Prop} {KS : List UInt8 → Prop} {lof mxf : (Nat → Prop) → Prop} {hif : Nat → (Nat → Prop) → Prop}
def zvn{l:List LV}{st:Nat}{K:List LV→Nat→Prop}:ly (some (.cells l st)) K=K l st:=(rfl)
def zw1{l:List LV}{len esz st:Nat}{K:List LV→Nat→Nat→Nat→Nat→Prop}:Ro (some (.dyn l len esz j st)) K=K l len esz j st:=(rfl)
def cellsL_some:zl6 (some l) K=K l:=(rfl)
def zmz{a b:LV}:zpv (.bool true) a b K1=K1 a:=by cases a<;>cases b<;>simp[zpv,Uk]
def zli{a b:LV}:zpv (.bool false) a b K1=K1 b:=by cases a<;>cases b<;>simp[zpv,Uk]
def zr5{t x:Bool}:zpv (.bool t) (.bool x) (.bool false) K1=K1 (.bool (t&&x)):=by cases t<;>rfl
def zvs{t x:Bool}:zpv (.bool t) (.bool true) (.bool x) K1=K1 (.bool (t || x)):=by cases t<;>rfl
def chkL_ptr:chkL (.ptr p i) K1=K1 (.ptr p i):=(rfl)
def bv{a b:Int}:Xu (.i a) (.i b) KN=(a=b∧0≤a∧a≤1048576∧KN a.toNat):=(rfl)
def sr{a:Int}:bndV (.i a) KN=(0≤a∧KN a.toNat):=(rfl)
def slL_nil:wx G size .nilSl lof hif K1=(lof λa=>hif 0 λb=>a=0∧b=0∧K1 .nilSl):=(rfl)
def slL_dy:wx G size (.dy p k) lof hif K1=(Ro G[p]? λ_ len esz j _=>k=j∧esz=size∧lof λa=>hif len λb=>a≤b∧b≤len∧K1 (.vw p k a (b-a))):=(rfl)
def slL_vw:wx G size (.vw p k lo len) lof hif K1=(Ro G[p]? λ_ _ esz j _=>k=j∧esz=size∧lof λa=>hif len λb=>a≤b∧b≤len∧K1 (.vw p k (lo+a) (b-a))):=(rfl)
def slL_lst:wx G size (.lst l len esz) lof hif K1=(esz=size∧lof λa=>hif len λb=>a≤b∧b≤len∧K1 (.lst ((l.drop (a*esz)).take ((b-a)*esz)) (b-a) esz)):=(rfl)
def offL_ptr:W9 off (.ptr p i) K1=K1 (.ptr p (i+off)):=(rfl)
def offL_dptr:W9 off (.dptr p k i) K1=K1 (.dptr p k (i+off)):=(rfl)
def offL_cptr:W9 off (.cptr l i) K1=K1 (.cptr l (i+off)):=(rfl)
def fldL_true:fldL true n off (.agg l) K1=(off+n≤l.length∧K1 (.agg ((l.drop off).take n))):=(rfl)
def fldL_false:fldL false n off (.agg l) K1=Py l off K1:=(rfl)
def ixL_i{x:LV}{n:Int}:ixL G size x (.i n) K1=l7 G size x n K1:=(rfl)
def ixL_u{x:LV}{n:UInt64}:ixL G size x (.u n) K1=l7 G size x (n.toNat:Int) K1:=(rfl)
def Y7{n:Int}:l7 G size (.dy p k) n K1=(Ro G[p]? λ_ len esz j _=>k=j∧esz=size∧0≤n∧n<len∧K1 (.dptr p k (n.toNat*size))):=(rfl)
def Y2{n:Int}:l7 G size (.vw p k lo len) n K1=(Ro G[p]? λ_ _ esz j _=>k=j∧esz=size∧0≤n∧n<len∧K1 (.dptr p k ((lo+n.toNat)*size))):=(rfl)
def c9{n:Int}:l7 G size (.lst l len esz) n K1=(esz=size∧0≤n∧n<len∧K1 (.cptr l (n.toNat*size))):=(rfl)
def tupL_tup:tupL i (.tup l) K1=Py l i K1:=(rfl)
def rj{len size:Nat}{x:LV}{n:Int}:yx len size x (.i n) K1=(0≤n∧n<len∧W9 (n.toNat*size) x K1):=(rfl)
def tx{g:Bool}{len size:Nat}{x:LV}{n:Int}:ixAL g len size x (.i n) K1=(0≤n∧n<len∧fldL g size (n.toNat*size) x K1):=(rfl)
def Z3{a b:Int}:Wo .and a b K1=(0≤a∧a<9223372036854775808∧0≤b∧b<9223372036854775808∧K1 (.i (a.toNat &&& b.toNat:Nat))):=(rfl)
def d6{a b:Int}:tf true (.i a) (.i b) K1=K1 (.i (max a b)):=(rfl)
def Zy{a b:Int}:tf false (.i a) (.i b) K1=K1 (.i (min a b)):=(rfl)
def uu{n:Int}:y9 (.i n) KN=(0≤n∧n≤1048576∧KN n.toNat):=(rfl)
def zwa{n:Nat}:Xr G size (.dy p k) n l KV=(Ro G[p]? λr len esz j st=>k=j∧esz=size∧KV (.i (min n len:Nat)) (G.set p (.dyn (Oq r 0 (l.take (min n len*size))) len esz j (st+1)))):=(rfl)
def zsr{z:List LV}{KH:M7→Prop}:zs8 G size z (.vw p k lo len) KH=(Ro G[p]? λr j esz C st=>k=C∧esz=size∧z.length=size∧(lo+len)*size≤r.length∧KH (G.set p (.dyn (Oq r (lo*size) (Pl z len)) j esz C (st+1)))):=(rfl)
def ut{g:Nat}{a b:List LV}:goL P (.fn (.func g) a b) E G KV=Rl P (.fn g) (a++E++b) G KV:=(rfl)
def readL_ptr:Yb G (.ptr p i) n K=ly G[p]? λl _=>i+n≤l.length∧K ((l.drop i).take n):=by
 simp only[Yb,ly];cases G[p]?<;>try rfl
def readL_dptr:Yb G (.dptr p k i) n K=Ro G[p]? λl _ _ j _=>k=j∧i+n≤l.length∧K ((l.drop i).take n):=by
 simp only[Yb,Ro];cases G[p]?<;>try rfl
def readL_cptr:Yb G (.cptr l i) n K=(i+n≤l.length∧K ((l.drop i).take n)):=(rfl)
def read1_ptr:cu G (.ptr p i) K1=ly G[p]? λl _=>Py l i K1:=by
 simp only[cu,ly];cases G[p]?<;>try rfl
def read1_dptr:cu G (.dptr p k i) K1=Ro G[p]? λl _ _ j _=>k=j∧Py l i K1:=by
 simp only[cu,Ro];cases G[p]?<;>try rfl
def read1_cptr:cu G (.cptr l i) K1=Py l i K1:=(rfl)
def writeL_ptr:Wn G (.ptr p i) r KG=ly G[p]? λl st=>i+r.length≤l.length∧KG (G.set p (.cells (Oq l i r) (st+1))):=by
 simp only[Wn,ly];cases G[p]?<;>try rfl
def writeL_dptr:Wn G (.dptr p k i) r KG=Ro G[p]? λl len esz j st=>k=j∧i+r.length≤l.length∧KG (G.set p (.dyn (Oq l i r) len esz j (st+1))):=by
 simp only[Wn,Ro];cases G[p]?<;>try rfl
def rowL_dy:Uf G size (.dy p k) KR=Ro G[p]? λl len esz j _=>k=j∧esz=size∧KR len l:=by
 simp only[Uf,Ro];cases G[p]?<;>try rfl
def rowL_lst:Uf G size (.lst l len esz) KR=(esz=size∧KR len l):=(rfl)
def lenL_nil:lenL G .nilSl KN=KN 0:=(rfl)
def lenL_dy:lenL G (.dy p k) KN=Ro G[p]? λ_ len _ j _=>k=j∧KN len:=by
 simp only[lenL,Ro];cases G[p]?<;>try rfl
def lenL_vw:lenL G (.vw p k lo len) KN=Ro G[p]? λ_ _ _ j _=>k=j∧KN len:=by
 simp only[lenL,Ro];cases G[p]?<;>try rfl
def lenL_lst:lenL G (.lst l len esz) KN=KN len:=(rfl)
def appL_nil:Ps G size .nilSl n new KV=KV (.dy G.length 0) (G++[.dyn new n size 0 0]):=(rfl)
def appL_dy:Ps G size (.dy p k) n new KV=Ro G[p]? λl len esz j st=>k=j∧(esz=size∧0<esz)∧len≤1000000000∧KV (.dy p (j+1)) (G.set p (.dyn (l++new) (len+n) esz (j+1) (st+1))):=by
 simp only[Ps,Ro];cases G[p]?<;>try rfl
def appL_vw:Ps G size (.vw p k lo len) n new KV=Ro G[p]? λl C esz j st=>k=j∧(esz=size∧lo=0∧0<n)∧len≤1000000000∧if (len+n)*esz≤l.length then KV (.vw p k 0 (len+n)) (G.set p (.dyn (Oq l (len*esz) new) C esz j (st+1)))∧KV (.dy G.length 0) (G++[.dyn (l.take (len*esz)++new) (len+n) size 0 0]) else len=C∧0<esz∧KV (.dy p (j+1)) (G.set p (.dyn (l++new) (len+n) esz (j+1) (st+1)))∧KV (.dy G.length 0) (G++[.dyn (l++new) (len+n) size 0 0]):=by
 simp only[Ps,Ro];cases G[p]?<;>try rfl
variable {op : BinOp} {g : Bool} {t : TypeId}
def Z6{a b:UInt64}:Ta P op g t (.u a) (.u b) K1=Vx op a b K1:=(rfl)
def df{a b:Int}:Ta P op g t (.i a) (.i b) K1=Wo op a b K1:=(rfl)
def zr0{a:Int}{s:UInt64}:Ta P .shl g t (.i a) (.u s) K1=(0≤a∧s.toNat≤64∧Ur (a*2^s.toNat)∧K1 (.i (a*2^s.toNat))):=(rfl)
def zqa{a:Int}{s:UInt64}:Ta P .shr g t (.i a) (.u s) K1=(0≤a∧s.toNat≤64∧K1 (.i (a/2^s.toNat))):=(rfl)
def zwu{a b:Bool}:Ta P .neq g t (.bool a) (.bool b) K1=(Sn P g t (.bool a) (.bool b)=some (a==b)∧K1 (.bool (!(a==b)))):=(rfl)
def Zq{b:Bool}:unL .not (.bool b) K1=K1 (.bool (!b)):=(rfl)
def vz{a:Int}:cvL .u64 (.i a) K1=K1 (.u (iU a)):=(rfl)
def sy{a:UInt64}:cvL .i64 (.u a) K1=(a.toNat<9223372036854775808∧K1 (.i a.toNat)):=(rfl)
def zw2{l:List LV}{len esz:Nat}:Ta P .eql g t (.lst l len esz) .nilSl K1=(Sn P g t .nilSl .nilSl=some true∧K1 (.bool false)∧(len=0→K1 (.bool true))):=(rfl)
def Z0{op:BinOp}{g:Bool}{t:TypeId}{l r:List LV}:Ta P op g t (.agg l) (.agg r) K1=aggL P op g t l r K1:=(rfl)
end opened
section code
variable {P : Program} {f n : Nat} {ro : Option Nat} {ρ ρ' : M9} {D : List Nat} {G G' : M7} {Q : Qi} {a b c : LC} {x : Lx} {id i t d : Nat} {l : List LI} {ds : List (LI × List (LI × Bool))} {cs : List (LI × Bool)} {K : M9 → M7 → Prop} {KV : LV → M7 → Prop} {KL : List LV → Prop} {KG : M7 → Prop} {Nx : M9 → List Nat → M7 → Prop} {rs : List RRes} {o : LOp} {od : Option Nat} {v w : LV} {vs : List LV} {it : LI}
def wp_skip:wp P f n ro .skip ρ D G Q=Q .normal ρ D G:=(rfl)
def wp_ops:wp P f n ro (.ops l) ρ D G Q=U5 P l ρ G (norQ Q D):=(rfl)
def wp_seq:wp P f n ro (.seq a b) ρ D G Q=wp P f n ro a ρ D G (Y9 P f n ro b Q):=(rfl)
def wp_cond:wp P f n ro (.cond x a b) ρ D G Q=brV (x.ev ρ) (wp P f n ro a ρ D G Q) (wp P f n ro b ρ D G Q):=(rfl)
def wp_block:wp P f n ro (.block id c) ρ D G Q=wp P f n ro c ρ D G (zc id Q):=(rfl)
def wp_draw:wp P f n ro (.draw ds) ρ D G Q=mh P ds ρ G (norQ Q D):=(rfl)
def wp_exit:wp P f n ro (.exit id) ρ D G Q=Q (.exit id) ρ D G:=(rfl)
def wp_ret:wp P f n ro .ret ρ D G Q=Q .ret ρ D G:=(rfl)
def wp_loop:wp P f n ro (.loop c) ρ D G Q=W P f n (.loop c) ro ρ D G Q:=(rfl)
def seqQ_n:Y9 P f n ro b Q .normal ρ D G=wp P f n ro b ρ D G Q:=(rfl)
def seqQ_e:Y9 P f n ro b Q (.exit i) ρ D G=Q (.exit i) ρ D G:=(rfl)
def seqQ_r:Y9 P f n ro b Q .ret ρ D G=Q .ret ρ D G:=(rfl)
def blkQ_n:zc id Q .normal ρ D G=Q .normal ρ D G:=(rfl)
def blkQ_e:zc id Q (.exit i) ρ D G=if i=id then Q .normal ρ D G else Q (.exit i) ρ D G:=(rfl)
def blkQ_r:zc id Q .ret ρ D G=Q .ret ρ D G:=(rfl)
def nxQ_n:nxQ Nx Q .normal ρ D G=Nx ρ D G:=(rfl)
def nxQ_e:nxQ Nx Q (.exit i) ρ D G=Q (.exit i) ρ D G:=(rfl)
def nxQ_r:nxQ Nx Q .ret ρ D G=Q .ret ρ D G:=(rfl)
def endQ_n:rk rs KV .normal ρ D G=yj D G (takK ρ rs KV):=(rfl)
def endQ_r:rk rs KV .ret ρ D G=yj D G (takK ρ rs KV):=(rfl)
def norQ_app:norQ Q D ρ G=Q .normal ρ D G:=(rfl)
def takeL_nil:yj [] G KG=KG G:=(rfl)
def takK_app:takK ρ rs KV G=Rr ρ G rs (endK KV G):=(rfl)
def endK_app:endK KV G vs=KV (Uq vs) G:=(rfl)
def resL_nil:Rr ρ G [] KL=KL []:=(rfl)
def resL_tmp:Rr ρ G (.tmp t::rs) KL=Rr ρ G rs (tmpK ρ t KL):=(rfl)
def resL_cN:Rr ρ G (.cellN t n::rs) KL=Yb G (lk ρ t) n (cnK ρ G rs KL):=(rfl)
def tmpK_app:tmpK ρ t KL vs=KL (lk ρ t::vs):=(rfl)
def conK_app:conK v KL vs=KL (v::vs):=(rfl)
def cnK_app:cnK ρ G rs KL vs=Rr ρ G rs (conK (.agg vs) KL):=(rfl)
def oneL_1:Uq [v]=v:=(rfl)
def oneL_0:Uq []=.tup []:=(rfl)
def oneL_2:Uq (v::w::vs)=.tup (v::w::vs):=(rfl)
def OpsL_nil:U5 P [] ρ G K=K ρ G:=(rfl)
def OpsL_cons:U5 P (it::l) ρ G K=kg P it ρ G (opsK P l K):=(rfl)
def opsK_app:opsK P l K ρ G=U5 P l ρ G K:=(rfl)
def ItL_n:kg P ⟨od,none,o⟩ ρ G K=Oj P ρ G o (ym ρ od K):=(rfl)
def ItL_t:kg P ⟨od,some (t,true),o⟩ ρ G K=wo (lk ρ t) (Oj P (setL t (.bool true) ρ) G o (ym (setL t (.bool true) ρ) od K)) (ym (setL t (.bool false) ρ) od K (.tup []) G) (ym ρ od K (.tup []) G):=(rfl)
def ItL_f:kg P ⟨od,some (t,false),o⟩ ρ G K=wo (lk ρ t) (ym (setL t (.bool true) ρ) od K (.tup []) G) (Oj P (setL t (.bool false) ρ) G o (ym (setL t (.bool false) ρ) od K)) (ym ρ od K (.tup []) G):=(rfl)
def itK_some:ym ρ (some d) K v G=K ((d,v)::ρ) G:=(rfl)
def itK_none:ym ρ none K v G=K ρ G:=(rfl)
def atG_app:Ze KV G v=KV v G:=(rfl)
def DrL_nil:mh P [] ρ G K=K ρ G:=(rfl)
def DrL_cons:mh P ((it,cs)::ds) ρ G K=kg P it ρ G (drK P cs ds ρ G K):=(rfl)
def drK_app:drK P cs ds ρ G K ρ' G'=(Xw ρ G G' cs∧mh P ds ρ' G' K):=(rfl)
def ev_t:(Lx.t i).ev ρ=lk ρ i:=(rfl)
def ev_c:(Lx.c v).ev ρ=v:=(rfl)
def argsL_nil:ma [] i=[]:=(rfl)
def argsL_cons:ma (v::vs) i=(i,v)::ma vs (i+1):=(rfl)
def setL_cons:setL t v ((d,w)::ρ)=if t=d then (d,v)::ρ else (d,w)::setL t v ρ:=(rfl)
end code
section nums
variable {K : LV → Prop}
def bh{a b:UInt64}:Vx .add a b K=K (.u (U4 a b)):=(rfl)
def Zp{a b:UInt64}:Vx .sub a b K=K (.u (js a b)):=(rfl)
def Zv{a b:UInt64}:Vx .mul a b K=K (.u (Tc a b)):=(rfl)
def dc{a b:UInt64}:Vx .rem a b K=(b≠0∧K (.u (modU a b))):=(rfl)
def br{a b:UInt64}:Vx .shl a b K=K (.u (Sk a b.toNat)):=(rfl)
def ai{a b:UInt64}:Vx .shr a b K=K (.u (Rd a b.toNat)):=(rfl)
def ac{a b:UInt64}:Vx .and a b K=K (.u (R6 a b)):=(rfl)
def ur{a b:UInt64}:Vx .or a b K=K (.u (ke a b)):=(rfl)
def cd{a b:UInt64}:Vx .xor a b K=K (.u (zm a b)):=(rfl)
def dh{a b:UInt64}:Vx .eql a b K=K (.bool (decide (a=b))):=(rfl)
def dw{a b:UInt64}:Vx .neq a b K=K (.bool (decide (a≠b))):=(rfl)
def Z5{a b:UInt64}:Vx .lss a b K=K (.bool (decide (a<b))):=(rfl)
def ay{a b:UInt64}:Vx .leq a b K=K (.bool (decide (a≤b))):=(rfl)
def cq{a b:UInt64}:Vx .gtr a b K=K (.bool (decide (b<a))):=(rfl)
def zzo{a b:UInt64}:Vx .geq a b K=K (.bool (decide (b≤a))):=(rfl)
def Zj{a b:Int}:Wo .add a b K=(Ur (a+b)∧K (.i (a+b))):=(rfl)
def aq{a b:Int}:Wo .sub a b K=(Ur (a-b)∧K (.i (a-b))):=(rfl)
def b9{a b:Int}:Wo .mul a b K=(Ur (a*b)∧K (.i (a*b))):=(rfl)
def ba{a b:Int}:Wo .quo a b K=(b≠0∧Ur (a.tdiv b)∧K (.i (a.tdiv b))):=(rfl)
def ct{a b:Int}:Wo .rem a b K=(b≠0∧K (.i (a.tmod b))):=(rfl)
def am{a b:Int}:Wo .shl a b K=(0≤a∧0≤b∧b≤64∧Ur (a*2^b.toNat)∧K (.i (a*2^b.toNat))):=(rfl)
def af{a b:Int}:Wo .shr a b K=(0≤a∧0≤b∧b≤64∧K (.i (a/2^b.toNat))):=(rfl)
def bi{a b:Int}:Wo .eql a b K=K (.bool (decide (a=b))):=(rfl)
def ci{a b:Int}:Wo .neq a b K=K (.bool (decide (a≠b))):=(rfl)
def d9{a b:Int}:Wo .lss a b K=K (.bool (decide (a<b))):=(rfl)
def bc{a b:Int}:Wo .leq a b K=K (.bool (decide (a≤b))):=(rfl)
def zzy{a b:Int}:Wo .gtr a b K=K (.bool (decide (b<a))):=(rfl)
def ax{a b:Int}:Wo .geq a b K=K (.bool (decide (b≤a))):=(rfl)
end nums
section congr2
variable {P : Program} {G G' : M7} {x x' y y' z z' : LV} {K : LV → M7 → Prop} {Kv : LV → Prop} {n n' size : Nat}
@[congr] theorem atC_congr {o j:Option LObj} {K:List LV→Nat→Prop} (h:o=j):ly o K=ly j K:=E9
@[congr] theorem atD_congr {o j:Option LObj} {K:List LV→Nat→Nat→Nat→Nat→Prop} (h:o=j):Ro o K=Ro j K:=E9
@[congr] theorem cellsL_congr {o j:Option (List LV)} {K:List LV→Prop} (h:o=j):zl6 o K=zl6 j K:=E9
@[congr] theorem pickL_congr (j:x=x') (C:y=y') (E:z=z'):zpv x y z Kv=zpv x' y' z' Kv:=by rw[j,C,E]
@[congr] theorem chkL_congr (j:x=x'):chkL x Kv=chkL x' Kv:=F5
@[congr] theorem mkSlL_congr {K:Nat→Prop} (j:x=x') (C:y=y'):Xu x y K=Xu x' y' K:=Cd
@[congr] theorem bndV_congr {K:Nat→Prop} (j:x=x'):bndV x K=bndV x' K:=F5
@[congr] theorem slL_congr {lo:(Nat→Prop)→Prop} {hi:Nat→(Nat→Prop)→Prop} (j:G=G') (C:x=x'):wx G size x lo hi Kv=wx G' size x' lo hi Kv:=Cd
@[congr] theorem offL_congr (j:x=x'):W9 n x Kv=W9 n x' Kv:=F5
@[congr] theorem ixL_congr (j:G=G') (C:x=x') (E:y=y'):ixL G size x y Kv=ixL G' size x' y' Kv:=by rw[j,C,E]
@[congr] theorem ixV_congr {i:Int} (j:G=G') (C:x=x') (E:i=vV):l7 G size x i Kv=l7 G' size x' vV Kv:=by rw[j,C,E]
@[congr] theorem tupL_congr (j:x=x'):tupL n x Kv=tupL n x' Kv:=F5
@[congr] theorem ixPL_congr {len size:Nat} (j:x=x') (C:y=y'):yx len size x y Kv=yx len size x' y' Kv:=Cd
@[congr] theorem ixAL_congr {g:Bool} {len size:Nat} (j:x=x') (C:y=y'):ixAL g len size x y Kv=ixAL g len size x' y' Kv:=Cd
@[congr] theorem maxL_congr {g:Bool} (j:x=x') (C:y=y'):tf g x y Kv=tf g x' y' Kv:=Cd
@[congr] theorem lenZ_congr {K:Nat→Prop} (j:x=x'):y9 x K=y9 x' K:=F5
@[congr] theorem clearL_congr {z z':List LV} {KH:M7→Prop} (j:G=G') (C:x=x') (E:z=z'):zs8 G size z x KH=zs8 G' size z' x' KH:=by rw[j,C,E]
@[congr] theorem copyL_congr {l:List LV} (j:G=G') (C:x=x') (F:n=n') (H:l=E):Xr G size x n l K=Xr G' size x' n' E K:=by rw[j,C,F,H]
@[congr] theorem goL_congr {l:List LV} (j:x=x') (C:l=E) (F:G=G'):goL P x l G K=goL P x' E G' K:=by rw[j,C,F]
end congr2
def LU(a:List UInt64):LV:=.lst (a.map .u) a.length 1
def mj(a:List UInt64):dats (a.map LV.u)=true:=xa (λ_=>rfl) a
def zue(a:List UInt64)(n:Nat):dats ((a.map LV.u).take n)=true:=dats_take n (mj a)
def zni(l r:List LV):Oq l 0 r=r++l.drop r.length:=by simp[Oq]
def zy5(v:LV)(l r:List LV)(i:Nat):Oq (v::l) (i+1) r=v::Oq l i r:=by
 unfold Oq;rw[show i+1+r.length=(i+r.length)+1 from J];simp
attribute [simp] zue Xw ckL ckC zq9 tgtL LObj.stp LObj.st zs0 zrq qe qj zlh zpk LV.cells subV subVs V5 notP shV shVs frV frVs bor bors LV.dat dats LV.scal LV.sim sims mj zni zy5 LU Ur
attribute [simp] zsg zw6 Zu zod zly brL_dec zzh
attribute [simp ↓] zsg zw6 Zu zod zly zzh zs0 zrq qe
attribute [simp ↓] OpL_move OpL_pick OpL_alloc OpL_box OpL_build OpL_buildSl OpL_load1 OpL_loadN OpL_store OpL_nilChk zo OpL_un i1 zy0 OpL_mkSl jr i4 OpL_slSl OpL_fieldAddr OpL_ixAddr OpL_extract OpL_lenSl ot OpL_appZ OpL_appG OpL_copy fx
attribute [simp] zvn zw1 cellsL_some zmz zli zr5 zvs chkL_ptr bv sr slL_nil slL_dy slL_vw slL_lst offL_ptr offL_dptr offL_cptr fldL_true fldL_false ixL_i ixL_u Y7 Y2 c9 tupL_tup d6 Zy uu zwa ut readL_ptr readL_dptr readL_cptr read1_ptr read1_dptr read1_cptr writeL_ptr writeL_dptr rowL_dy rowL_lst lenL_nil lenL_dy lenL_vw lenL_lst appL_nil appL_dy appL_vw Z6 df zr0 zqa zwu zw2 Zq vz sy
attribute [simp ↓] zvn zw1 cellsL_some zmz zli zr5 zvs chkL_ptr bv sr slL_nil slL_dy slL_vw slL_lst offL_ptr offL_dptr offL_cptr fldL_true fldL_false ixL_i ixL_u Y7 Y2 c9 tupL_tup d6 Zy uu zwa ut readL_ptr readL_dptr readL_cptr read1_ptr read1_dptr read1_cptr writeL_ptr writeL_dptr rowL_dy rowL_lst lenL_nil lenL_dy lenL_vw lenL_lst appL_nil appL_dy appL_vw Z6 df zr0 zqa zwu zw2 Zq vz sy
attribute [simp] wp_skip wp_ops wp_seq wp_cond wp_block wp_draw wp_exit wp_ret wp_loop seqQ_n seqQ_e seqQ_r blkQ_n blkQ_e blkQ_r nxQ_n nxQ_e nxQ_r endQ_n endQ_r norQ_app takeL_nil takK_app endK_app resL_nil resL_tmp resL_cN tmpK_app conK_app cnK_app oneL_1 oneL_0 oneL_2 OpsL_nil OpsL_cons opsK_app ItL_n ItL_t ItL_f itK_some itK_none atG_app DrL_nil DrL_cons drK_app ev_t ev_c argsL_nil argsL_cons setL_cons bh Zp Zv dc br ai ac ur cd dh dw Z5 ay cq zzo Zj aq b9 ba ct am af bi ci d9 bc zzy ax
attribute [simp ↓] wp_skip wp_ops wp_seq wp_cond wp_block wp_draw wp_exit wp_ret wp_loop seqQ_n seqQ_e seqQ_r blkQ_n blkQ_e blkQ_r nxQ_n nxQ_e nxQ_r endQ_n endQ_r norQ_app takeL_nil takK_app endK_app resL_nil resL_tmp resL_cN tmpK_app conK_app cnK_app oneL_1 oneL_0 oneL_2 OpsL_nil OpsL_cons opsK_app ItL_n ItL_t ItL_f itK_some itK_none atG_app DrL_nil DrL_cons drK_app ev_t ev_c argsL_nil argsL_cons setL_cons bh Zp Zv dc br ai ac ur cd dh dw Z5 ay cq zzo Zj aq b9 ba ct am af bi ci d9 bc zzy ax
attribute [simp] Z0
attribute [simp ↓] Z0
attribute [simp] rj tx Z3
attribute [simp] zsr
attribute [simp ↓] OpL_clear zsr zoh gt rj tx Z3
def nm(o:Option Bool)(A B:Prop):Prop:=match o with
 |some b=>Uk b A B
 |none=>False
def atM(o:Option LObj)(K:List (LV×LV×Nat)→Nat→Nat→Prop):Prop:=match o with
 |some (.map es ck st)=>K es ck st
 |_=>False
def lookM(d:TypeDesc)(k z:LV)(ok:Bool)(K:LV→Prop):List (LV×LV×Nat)→Prop:=λes=>zpq d k (zzk z ok K) es
def conM(x:LV×LV×Nat)(K:List (LV×LV×Nat)→Bool→Prop):List (LV×LV×Nat)→Bool→Prop:=λr new=>K (x::r) new
def slAL(G:M7)(n size:Nat)(x:LV)(lo:(Nat→Prop)→Prop)(hi:Nat→(Nat→Prop)→Prop)(K:LV→M7→Prop):Prop:=match x with
 |.ptr p i=>ly G[p]? λl st=>i+n*size≤l.length∧lo λa=>hi n λb=>a≤b∧b≤n∧K (.lst ((l.drop (i+a*size)).take ((b-a)*size)) (b-a) size) (G.set p (.dead (st+1)))
 |_=>False
section maps
variable {P : Program} {ρ : M9} {G G' : M7} {K : LV → M7 → Prop} {K1 : LV → Prop} {x i m k v z x' k' : LV} {X I M V : Lx} {d : TypeDesc} {ok : Bool} {es es' : List (LV × LV × Nat)} {KE : List (LV × LV × Nat) → Prop} {KB : List (LV × LV × Nat) → Bool → Prop} {KH : M7 → Prop} {p ck st n size : Nat} {lo hi : Option Lx} {A B : Prop} {lof : (Nat → Prop) → Prop} {hif : Nat → (Nat → Prop) → Prop}
def OpL_mkMap0:Oj P ρ G .mkMap0 K=K (.map G.length) (G++[.map [] 0 0]):=(rfl)
def OpL_lookup:Oj P ρ G (.lookup d z ok X I) K=Y3 G (X.ev ρ) (lookM d (I.ev ρ) z ok (Ze K G)):=(rfl)
def OpL_mapUpd:Oj P ρ G (.mapUpd d M I V) K=zro G d (M.ev ρ) (I.ev ρ) (V.ev ρ) λG'=>K .any G':=(rfl)
def OpL_slArr:Oj P ρ G (.slArr n size X lo hi) K=slAL G n size (X.ev ρ) (λk=>Qa ρ 0 lo k) (λd k=>Qa ρ d hi k) K:=by
 simp only[Oj,slAL,ly];cases X.ev ρ<;>try rfl
 all_goals (cases G[_]?<;>try rfl)
def zw3{K:List (LV×LV×Nat)→Nat→Nat→Prop}:atM (some (.map es ck st)) K=K es ck st:=(rfl)
def mapL_map:Y3 G (.map p) KE=atM G[p]? λes _ _=>KE es:=by
 simp only[Y3,atM];cases G[p]?<;>try rfl
def lookM_app:lookM d k z ok K1 es=zpq d k (zzk z ok K1) es:=(rfl)
def zt5{j:Option LV→Prop}:zpq d k j []=j none:=(rfl)
def znu{j:Option LV→Prop}:zpq d k j ((k',v,n)::es)=nm (Yu d k k') (j (some v)) (zpq d k j es):=(rfl)
def lookK_st:zzk z true K1 (some v)=K1 (.tup [v,.bool true]):=(rfl)
def lookK_nt:zzk z true K1 none=K1 (.tup [z,.bool false]):=(rfl)
def updL'_map:zro G d (.map p) k v KH=atM G[p]? λes ck st=>Xp d k v ck (setK G p ck st KH) es:=by
 simp only[zro,atM];cases G[p]?<;>try rfl
def putL_nil:Xp d k v ck KB []=KB [(k,v,ck)] true:=(rfl)
def zry{w:LV}:Xp d k v ck KB ((k',w,n)::es)=nm (Yu d k k') (KB ((k,v,n)::es) false) (Xp d k v ck (conM (k',w,n) KB) es):=(rfl)
def zvr{y:LV×LV×Nat}{b:Bool}:conM y KB es b=KB (y::es) b:=(rfl)
def setK_t:setK G p ck st KH es true=KH (G.set p (.map es (ck+1) (st+1))):=(rfl)
def zsm{b:Bool}:nm (some b) A B=Uk b A B:=(rfl)
def t7{j:IntKind}{a b:Int}:Yu (.int j) (.i a) (.i b)=some (decide (a=b)):=(rfl)
def zvl:slAL G n size (.ptr p j) lof hif K=ly G[p]? λl st=>j+n*size≤l.length∧lof λa=>hif n λb=>a≤b∧b≤n∧K (.lst ((l.drop (j+a*size)).take ((b-a)*size)) (b-a) size) (G.set p (.dead (st+1))):=(rfl)
@[congr] theorem atM_congr {o j:Option LObj} {K:List (LV×LV×Nat)→Nat→Nat→Prop} (h:o=j):atM o K=atM j K:=E9
@[congr] theorem updL'_congr {j:LV} (C:G=G') (E:m=j) (F:k=k') (H:v=O):zro G d m k v KH=zro G' d j k' O KH:=by rw[C,E,F,H]
@[congr] theorem keyB_congr {o j:Option Bool} (h:o=j):nm o A B=nm j A B:=E9
end maps
attribute [simp] zw3 mapL_map lookM_app zt5 znu lookK_st lookK_nt updL'_map putL_nil zry zvr setK_t zsm t7 zvl
attribute [simp ↓] OpL_mkMap0 OpL_lookup OpL_mapUpd OpL_slArr zw3 mapL_map lookM_app zt5 znu lookK_st lookK_nt updL'_map putL_nil zry zvr setK_t zsm t7 zvl
end
end
section
noncomputable section
open Go.RowKit (Below)
mutual
inductive Sh where
 |bool
 |u
 |b
 |i
 |k (k:IntKind)
 |str
 |sl (s:Sh)
 |st (l:ShL)
inductive ShL where
 |nil
 |cons (s:Sh) (l:ShL)
end
mutual
def Sh.n:Sh→Nat
 |.st l=>l.n
 |_=>1
def ShL.n:ShL→Nat
 |.nil=>0
 |.cons s l=>s.n+l.n
end
mutual
def Sh.T:Sh→Type
 |.bool=>Bool
 |.u=>UInt64
 |.b=>UInt8
 |.i=>{ n:Int // Ur n }
 |.k _=>Int
 |.str=>{ l:List UInt8 // l.length≤maxLen }
 |.sl s=>{ l:List s.T // l.length≤maxLen }
 |.st l=>l.T
def ShL.T:ShL→Type
 |.nil=>Unit
 |.cons s l=>s.T×l.T
end
mutual
def Sh.enc:(s:Sh)→s.T→List LV
 |.bool,x=>[.bool x]
 |.u,x=>[.u x]
 |.b,x=>[.b x]
 |.i,x=>[.i x.1]
 |.k k,x=>[.int k x]
 |.str,x=>[.str x.1]
 |.sl s,x=>[.lst (x.1.flatMap s.enc) x.1.length s.n]
 |.st l,x=>l.enc x
def ShL.enc:(l:ShL)→l.T→List LV
 |.nil,_=>[]
 |.cons s l,x=>s.enc x.1++l.enc x.2
end
mutual
def Sh.enc_length:∀(s:Sh) (x:s.T),(s.enc x).length=s.n
 |.bool,_=>rfl
 |.u,_=>rfl
 |.b,_=>rfl
 |.i,_=>rfl
 |.k _,_=>rfl
 |.str,_=>rfl
 |.sl _,_=>rfl
 |.st l,x=>by simp only[Sh.enc,Sh.n];exact ShL.enc_length l x
def ShL.enc_length:∀(l:ShL) (x:l.T),(l.enc x).length=l.n
 |.nil,_=>rfl
 |.cons s l,x=>by simp only[ShL.enc,ShL.n,H9,Sh.enc_length s x.1,ShL.enc_length l x.2]
end
def qf(P:Program)(f:TypeId→Option Sh)(j:Nat):List Field→Nat→Option ShL
 |[],g=>if g=j then some .nil else none
 |fd::l,g=>match f fd.type with
  |none=>none
  |some s=>if fd.offset=g∧P.cellsOf fd.type=s.n then match qf P f j l (g+s.n) with
   |none=>none
   |some r=>some (.cons s r)
   else none
def Xk:Nat→Sh→ShL
 |0,_=>.nil
 |n+1,s=>.cons s (Xk n s)
def Xo(P:Program):Nat→TypeId→Option Sh
 |0,_=>none
 |d+1,t=>match P.underlying t with
  |some .bool=>some .bool
  |some (.int k)=>match k with
   |.u64=>some .u
   |.u8=>some .b
   |.i64=>some .i
   |k=>some (.k k)
  |some .string=>some .str
  |some (.slice e)=>match Xo P d e with
   |none=>none
   |some s=>if P.cellsOf e=s.n∧0<s.n then some (.sl s) else none
  |some (.struct g)=>match qf P (Xo P d) (P.cellsOf t) g.toList 0 with
   |none=>none
   |some l=>some (.st l)
  |some (.array n e)=>match Xo P d e with
   |none=>none
   |some s=>if P.cellsOf e=s.n∧P.cellsOf t=n*s.n then some (.st (Xk n s)) else none
  |_=>none
def Xa(P:Program)(d:Nat):List TypeId→Option ShL
 |[]=>some .nil
 |t::l=>match Xo P d t with
  |none=>none
  |some s=>if P.cellsOf t=s.n then match Xa P d l with
   |none=>none
   |some r=>some (.cons s r)
   else none
def Rel.ro{W:World}{gz:CM}{H:Heap}(h:Rel W gz H W){L:Loc}(hL:L.b<W.heap.size){l:List AV}(gA:gz.le (gz.ext H.next 0 L)→Qr W.heap.size (gz.ext H.next 0 L) W H.next (.cells (Sa l 0 .e) l.length 0 true)) :
  Rel W (gz.ext H.next 0 L) (H.push (.cells (Sa l 0 .e) l.length 0 true)) W∧gz.le (gz.ext H.next 0 L):=by
 have hle:gz.le (gz.ext H.next 0 L):=CM.le_ext _ (h.next_none 0) (.inr (Lh h.nx));refine⟨⟨by show max gz.nx (H.next+1)=H.next+1;rw[h.nx];exact Nat.max_eq_right (L5 _),h.low,?_,?_,?_,?_,?_⟩,hle⟩
 ·intro o v L' C;show o<H.next+1;by_cases e:o=H.next∧v=0
  ·omega
  ·rw[CM.ext_ne _ _ e]at C;have:=h.fresh _ _ _ C;omega
 ·intro o v L' C;by_cases e:o=H.next∧v=0
  ·obtain⟨rfl,rfl⟩:=e;rw[CM.ext_same]at C;cases C;exact hL
  ·rw[CM.ext_ne _ _ e]at C;exact h.lt _ _ _ C
 ·intro o v L1 o' v' L2 h1 h2 hb hB;by_cases e:o=H.next∧v=0
  ·obtain⟨rfl,rfl⟩:=e;rw[CM.ext_same]at h1;cases h1;omega
  ·by_cases e':o'=H.next∧v'=0
   ·obtain⟨rfl,rfl⟩:=e';rw[CM.ext_same]at h2;cases h2;omega
   ·rw[CM.ext_ne _ _ e]at h1;rw[CM.ext_ne _ _ e']at h2;exact h.excl _ _ _ _ _ _ h1 h2 hb hB
 ·intro o ob ho hg;by_cases e:o=H.next
  ·subst e;rw[Heap.get_push_same]at hg;cases hg;exact gA hle
  ·have gg:o<H.next:=Br
   rw[Heap.get_push_ne _ _ gg]at hg;refine (h.obj _ _ gg hg).frame hle (λv L' C=>?_) (λ_ _ _=>rfl)
   rwa [CM.ext_ne _ _ J]at C
 ·intro o c len gC ro ho hg v L' C;by_cases e:o=H.next
  ·subst e;by_cases ev:v=0
   ·omega
   ·rw[CM.ext_ne _ _ J]at C;have:=h.fresh _ _ _ C;omega
  ·have gg:o<H.next:=Br
   rw[Heap.get_push_ne _ _ gg]at hg;rw[CM.ext_ne _ _ J]at C;exact h.top _ _ _ _ _ gg hg _ _ C
def Ve(H:Heap):Cx:=⟨[],λo=>o<H.next,H⟩
def Tp(H g:Heap):Prop:=H.next≤g.next∧∀o,o<H.next→g.get o=H.get o
def Tp.refl(H:Heap):Tp H H:=⟨Ia _,λ_ _=>rfl⟩
def Tp.trans{A B C:Heap}(h:Tp A B)(k:Tp B C):Tp A C:=⟨Ja h.1 k.1,λo ho=>by rw[k.2 o (I0 ho h.1),h.2 o ho]⟩
def Tp.le{H H':Heap}(h:Tp H H'):CxLe (Ve H) (Ve H') :=
 ⟨λp k x e=>by simp[Ve]at e,λo ho=>⟨I0 ho h.1,h.2 o ho⟩⟩
section imp
variable {HH : Type} {enc : TypeId × Value → HH} {P : Program} {W : World}
def Got(W:World)(A:CM)(H:Heap)(z:List Value)(s:Nat)(T:Type)(e:T→List LV):Prop :=
 ∃g j as,∃y:T,A.le g∧Rel W g j W∧Tp H j∧VRs g as z∧(∀a∈as,a.one=true)∧ARs (Ve j) (e y) as∧as.length=s
def zct{H:Heap}(g:Rel W M H W){v:Value}{T:Type}{e:T→List LV}(y:T)(a:AV)(l:LV)(he:e y=[l])(hv:VR M a v)(j:a.one=true)(z:AR (Ve H) l a):Got W M H [v] 1 T e :=
 ⟨M,H,[a],y,CM.le_refl M,g,.refl H,.cons hv .nil,Bs,by rw[he];exact .cons z .nil,rfl⟩
def zme{j:List MemPlace}(z:W.noneFrozen j){b n:Nat}(h:∀x∈MemPlace.row ⟨b,g,none⟩ n,x∈j){i:Nat}(hi:i<n):W.frozen? ⟨b,g+i,none⟩=false :=
 z b (g+i) (h _ (Mu.2 ⟨i,Kh.2 hi,rfl⟩))
def got_cells:∀(M:Nat) (d:Nat) (t:TypeId) (s:Sh) (cs:List Value) (x:DataW HH×List MemPlace) (V:CM) (H:Heap),Xo P d t=some s→DataW.trod enc P W 0 (λ_=>true) true M t cs=some x→W.noneFrozen x.2→Rel W V H W →
  Got W V H cs s.n s.T s.enc:=by
 intro M
 induction M with
 |zero=>intro d t s cs x V H _ h;simp[DataW.trod]at h
 |succ M ih =>
  intro d t s cs x V H z h hz C;cases d with
  |zero=>cases z
  |succ d =>
   simp only[Xo]at z;split at z
   ·rename_i hu;cases z;obtain⟨b,rfl,_⟩:=DataW.trod_bool hu h;exact zct C (T:=Bool) b (.bool b) (.bool b) rfl (.bool b) rfl (.bool b)
   ·rename_i k hu;obtain⟨n,rfl,_,hw⟩:=DataW.trod_int hu h;split at z
    ·cases z;have hb:=bounds_u64 hw;refine zct C (T:=UInt64) (UInt64.ofNat n.toNat) (.int .u64 n) (.u (UInt64.ofNat n.toNat)) rfl (.int _ _) rfl (.u' ?_);rw[Je];simp only[It];omega
    ·cases z;have hb:=bounds_u8 hw;refine zct C (T:=UInt8) (UInt8.ofNat n.toNat) (.int .u8 n) (.b (UInt8.ofNat n.toNat)) rfl (.int _ _) rfl (.b' ?_);rw[UInt8.toNat_ofNat'];simp only[It];omega
    ·cases z;have hb:=bounds_i64 hw;exact zct C (T:={ n:Int // Ur n }) ⟨n,by unfold Ur;omega⟩ (.int .i64 n) (.i n) rfl (.int _ _) rfl (.i n)
    ·cases z;exact zct C (T:=Int) n (.int k n) (.int k n) rfl (.int _ _) rfl (.int k n)
   ·rename_i hu;cases z;obtain⟨b,rfl,_,hm⟩:=DataW.trod_string hu h;exact zct C (T:={ l:List UInt8 // l.length≤maxLen }) ⟨b.data.toList,Ff⟩ (.str b.data.toList.length (Po b.data.toList)) (.str b.data.toList) rfl (.str rfl rfl) rfl (.str _)
   ·rename_i e hu;split at z
    ·cases z
    ·rename_i j gD;by_cases U:P.cellsOf e=j.n∧0<j.n
     ·rw[H7 U]at z;cases z;obtain⟨gE,O⟩:=U;rcases DataW.trod_slice hu h with ⟨rfl,_⟩|⟨a,len,cap,G,gO,n,hn,rfl,hx,_,gP,jR,gQ,gA,gR,_⟩
      ·exact zct C (T:={ l:List j.T // l.length≤maxLen }) ⟨[],N⟩ .nilSl (.lst [] 0 j.n) rfl .nilSl rfl .lstNil
      ·cases hn;by_cases h0:len=0
       ·subst h0;exact zct C (T:={ l:List j.T // l.length≤maxLen }) ⟨[],N⟩ .emp (.lst [] 0 j.n) rfl .emp rfl .lstEmp
       ·
        obtain⟨b,g,Q⟩:=a;have I:∀i,i<cap→∃D,W.cells? 0 ((⟨b,g,Q⟩:Addr).add (i*P.cellsOf e)) (P.cellsOf e)=some D:=by
         intro i hi;by_cases jB:i<len
         ·have:=gA i jB;rw[H6 J]at this;cases hq:W.cells? 0 ((⟨b,g,Q⟩:Addr).add (i*P.cellsOf e)) (P.cellsOf e) with
          |none=>rw[hq]at this;cases this
          |some D=>exact⟨D,rfl⟩
         ·obtain⟨jV,jC⟩:=gR rfl;have:=jC (i-len) J;rw[show len+(i-len)=i from J,H6 J]at this;cases hq:W.cells? 0 ((⟨b,g,Q⟩:Addr).add (i*P.cellsOf e)) (P.cellsOf e) with
          |none=>rw[hq]at this;cases this
          |some D=>exact⟨D,rfl⟩
        have gF:Q=none:=by
         obtain⟨D,he⟩:=I 0 J;obtain⟨_,E,A⟩:=World.cells?_some he;have:=A 0 J;rw[H6 J]at this;simpa [Addr.add] using World.cell?_spot this
        subst gF;have R:∀i X,i<cap→X<j.n→∃v,W.cell? ⟨b,g+(i*j.n+X),none⟩=some v:=by
         intro i X hi hj;obtain⟨D,he⟩:=I i hi;obtain⟨_,E,A⟩:=World.cells?_some he;have:=A X J;rw[H6 J]at this;rw[gE]at this;rw[WideShapes.add_plain,WideShapes.add_plain]at this;rw[←Kg];exact⟨_,this⟩
        obtain⟨v0,gC⟩:=R 0 0 J O;obtain⟨vs,ty,lo,hi,B⟩:∃vs ty lo hi,W.heap[b]?=some (.cells vs ty (lo,hi)):=by
         unfold World.cell? at gC;dsimp only at gC;split at gC
         ·rename_i vs ty fz B;exact⟨vs,ty,fz.1,fz.2,B⟩
         ·cases gC
        have jD:∀q,q<cap*j.n→∃v,vs[g+q]?=some v:=by
         intro q hq;obtain⟨v,hv⟩:=R (q/j.n) (q%j.n) (by rw[Nat.div_lt_iff_lt_mul O];exact hq) (J1 _ O);have:q/j.n*j.n+q%j.n=q:=by rw[Jt];exact Nat.div_add_mod q j.n
         rw[this,zkj B]at hv;exact⟨v,hv⟩
        have gT:g+cap*j.n≤vs.size:=by
         have jE:0<cap*j.n:=Nat.mul_pos J O;obtain⟨v,hv⟩:=jD (cap*j.n-1) J;have:=(Array.getElem?_eq_some_iff.1 hv).1;omega
        have gU:∀x',x'∈MemPlace.row ⟨b,g,none⟩ (cap*j.n)→x'∈x.2:=by
         intro x' gG;rw[hx];have:(G.length+gO.length)*P.cellsOf e=cap*j.n:=by rw[gQ,(gR rfl).1,gE];congr 1;omega
         rw[this];exact Li _ gG
        have loop:∀m,m≤len→∃C' H' as,∃ys:List j.T,V.le C'∧Rel W C' H' W∧Tp H H'∧(∀a∈as,a.one=true)∧ARs (Ve H') (ys.flatMap j.enc) as∧ys.length=m∧as.length=m*j.n∧∀q,q<m*j.n→∃a v,as[q]?=some a∧vs[g+q]?=some v∧VR C' a v:=by
         intro m
         induction m with
         |zero=>intro _;exact⟨V,H,[],[],CM.le_refl V,C,.refl H,N,.nil,rfl,N,λq hq=>J⟩
         |succ m jF =>
          intro hm;obtain⟨C1,Y,Z,jG,a1,a2,a3,a4,a5,a6,a7,a8⟩:=jF J;obtain⟨D,he⟩:=I m J;have gV:=gA m J;rw[he,H6 J]at gV;obtain⟨_,E,A⟩:=World.cells?_some he;have jH : W.noneFrozen (G[m]' J).2 := λb' F gg => hz b' F (by
           rw[hx];exact Iw _ (List.mem_flatMap.2 ⟨G[m]' J, N, gg⟩))
          obtain⟨C2,H2,gz,y,b1,b2,b3,b4,b5,b6,b7⟩:=ih d e j D _ C1 Y gD gV jH a2;refine⟨C2,H2,Z++gz,jG++[y],CM.le_trans a1 b1,b2,a3.trans b3,?_,?_,by simp[a6],?_,?_⟩
          ·intro jg hz;rcases Ir.1 hz with h|h
           ·exact a4 jg h
           ·exact b5 jg h
          ·rw[List.flatMap_append];refine (a5.mono b3.le).append ?_;simpa using b6
          ·rw[H9,a7,b7,Iu,Kb]
          ·intro q hq;by_cases jI:q<m*j.n
           ·obtain⟨a,v,c1,c2,c3⟩:=a8 q jI;exact⟨a,v,by rw[H8 J];exact c1,c2,c3.mono b1⟩
           ·have jX:q-m*j.n<j.n:=by rw[Iu,Kb]at hq;omega
            obtain⟨a,v,c1,c2,c3⟩:=b4.get' (i:=q-m*j.n) J;refine⟨a,v,by rw[Ij J,a7];exact c1,?_,c3⟩;have:=A (q-m*j.n) J;rw[gE,WideShapes.add_plain,WideShapes.add_plain,zkj B,c2]at this;rw[←this]
            congr 1
            omega
        obtain⟨C1,Y,as,ys,a1,a2,a3,a4,a5,a6,a7,a8⟩:=loop len (Ia _);have jK:b<W.heap.size:=by
         have:=(Array.getElem?_eq_some_iff.1 B).1;exact this
        have jT:len*j.n≤cap*j.n:=Ii _ gP;have jL:∀q,g≤q→q<g+cap*j.n→¬(lo≤q∧q<hi):=by
         intro q h1 h2;have:=zme hz (λx' gG=>gU x' gG) (i:=q-g) (n:=cap*j.n) J;rw[show g+(q-g)=q from J]at this;unfold World.frozen? at this;dsimp only at this;rw[B]at this;simp at this;omega
        obtain⟨c1,c2⟩:=a2.ro (L:=⟨b,g,len*j.n,g+cap*j.n⟩) jK (l:=as) (λgY L hL=>by
         rw[CM.ext_same]at hL;cases hL;refine⟨by rw[a7],λe=>Ar,by show g+as.length≤g+cap*j.n;omega,vs,ty,lo,hi,B,gT,jL,?_⟩;intro q hq;rw[get_ofList,H7 J];obtain⟨a,v,d1,d2,d3⟩:=a8 q J;exact⟨a,by simpa using d1,a4 a (Iq d1),v,d2,d3.mono gY⟩)
        have hg:Tp Y (Y.push (.cells (Sa as 0 .e) as.length 0 true)):=⟨L5 _,λo ho=>Heap.get_push_ne _ _ ho⟩;refine⟨_,_,[.sl Y.next 0 0 len j.n none],(⟨ys,J⟩:{ l:List j.T // l.length≤maxLen }),CM.le_trans a1 c2,c1,a3.trans hg,.cons ?_ .nil,by simp[AV.one],?_,rfl⟩
        ·exact VR.sl (L:=⟨b,g,len*j.n,g+cap*j.n⟩) (i:=0) (CM.ext_same _ _ _ _) Ay Ay gP (λr e=>Ar) (λ_=>rfl)
        ·show ARs _ [LV.lst (ys.flatMap j.enc) ys.length j.n] _;rw[a6];refine .cons (.lst (Jl Y.next) (λr e=>Ar) ?_ ?_ (a5.mono hg.le)) .nil
         ·have:=a5.length;omega
         ·have hr:=W3 (H:=Y.push (.cells (Sa as 0 .e) as.length 0 true)) (i:=0) (n:=len*j.n) (Heap.get_push_same _ _) (z6p as) (Ia _) J;rw[Km,Im J]at hr;exact hr
     ·rw[Hx U]at z;cases z
   ·rename_i fs hu;split at z
    ·cases z
    ·rename_i l E;cases z;obtain⟨xs,n,hn,hx,gH,gZ,jM⟩:=DataW.trod_struct hu h;cases hn;have gI:∀(fl:List Field) (X g:Nat) (l:ShL) (V:CM) (H:Heap),fs.toList.drop X=fl→qf P (Xo P d) (P.cellsOf t) fl g=some l→Rel W V H W→Got W V H (cs.drop g) l.n l.T l.enc:=by
      intro fl
      induction fl with
      |nil =>
       intro X g l V H hj E C;simp only[qf]at E;split at E
       ·rename_i he;cases E;refine⟨V,H,[],(():Unit),CM.le_refl V,C,.refl H,?_,N,.nil,rfl⟩;rw[he,←gH,List.drop_length];exact .nil
       ·cases E
      |cons fd fl jO =>
       intro X g l V H hj E C;simp only[qf]at E;split at E
       ·cases E
       ·rename_i s z;by_cases U:fd.offset=g∧P.cellsOf fd.type=s.n
        ·rw[H7 U]at E;split at E
         ·cases E
         ·rename_i r hr;cases E;have gK:X<fs.toList.length:=by
           rcases Ku X fs.toList.length with h|h
           ·exact h
           ·rw[List.drop_eq_nil_of_le h]at hj;cases hj
          have jP:fs[X]?=some fd:=by
           rw[Jr gK]at hj;injection hj with h1 h2
           rw[←h1];simp
          have K:=jM X fd jP;rw[U.1,U.2]at K;have gL:X<xs.length:=by rw[gZ];simpa using gK
          rw[H6 gL]at K;obtain⟨C1,Y,Z,y,a1,a2,a3,a4,a5,a6,a7⟩:=ih d fd.type s _ _ V H z K (λb' F gg=>hz b' F Ha) C;obtain⟨C2,H2,gz,ys,b1,b2,b3,b4,b5,b6,b7⟩:=jO (X+1) (g+s.n) r C1 Y (by rw[Jr gK]at hj;injection hj) hr a2;refine⟨C2,H2,Z++gz,(y,ys),CM.le_trans a1 b1,b2,a3.trans b3,?_,?_,(a6.mono b3.le).append b6,by rw[H9,a7,b7];rfl⟩
          ·have:=(a4.mono b1).append b4
           rwa [←List.drop_drop,Me]at this
          ·intro jg hz;rcases Ir.1 hz with h|h
           ·exact a5 jg h
           ·exact b5 jg h
        ·rw[Hx U]at E;cases E
     have:=gI fs.toList 0 0 l V H N E C;rw[Km]at this;exact this
   ·rename_i n e hu;split at z
    ·cases z
    ·rename_i j gD;by_cases U:P.cellsOf e=j.n∧P.cellsOf t=n*j.n
     case neg=>rw[Hx U]at z;cases z
     rw[H7 U]at z;cases z;obtain⟨xs,m,hm,hx,gH,gZ,gA⟩:=DataW.trod_array hu h;cases hm;have gI:∀(k X:Nat) (V:CM) (H:Heap),X+k=n→Rel W V H W→Got W V H (cs.drop (X*j.n)) (Xk k j).n (Xk k j).T (Xk k j).enc:=by
      intro k
      induction k with
      |zero =>
       intro X V H hj C;refine⟨V,H,[],(():Unit),CM.le_refl V,C,.refl H,?_,N,.nil,rfl⟩;rw[(J:X=n),←U.2,←gH,List.drop_length];exact .nil
      |succ k jQ =>
       intro X V H hj C;have K:=gA X J;rw[U.1]at K;have gL:X<xs.length:=J
       rw[H6 gL]at K;obtain⟨C1,Y,Z,y,a1,a2,a3,a4,a5,a6,a7⟩:=ih d e j _ _ V H gD K (λb' F gg=>hz b' F Ha) C;obtain⟨C2,H2,gz,ys,b1,b2,b3,b4,b5,b6,b7⟩:=jQ (X+1) C1 Y J a2;refine⟨C2,H2,Z++gz,(y,ys),CM.le_trans a1 b1,b2,a3.trans b3,?_,?_,(a6.mono b3.le).append b6,by rw[H9,a7,b7];rfl⟩
       ·have:=(a4.mono b1).append b4
        rwa [L7,←List.drop_drop,Me]at this
       ·intro jg hz;rcases Ir.1 hz with h|h
        ·exact a5 jg h
        ·exact b5 jg h
     have:=gI n 0 V H J C;rw[K2,Km]at this;exact this
   ·cases z
end imp
end
end
section
open Go.RowKit Go.ChangeShapes Go.WideShapes Go.ChangeAt
def Sh.arg:(s:Sh)→s.T→LV
 |.st l,x=>.agg (l.enc x)
 |.bool,x=>.bool x
 |.u,x=>.u x
 |.b,x=>.b x
 |.i,x=>.i x.1
 |.k kk,x=>.int kk x
 |.str,x=>.str x.1
 |.sl s,x=>.lst (x.1.flatMap s.enc) x.1.length s.n
def ShL.args:(l:ShL)→l.T→List LV
 |.nil,_=>[]
 |.cons s l,x=>s.arg x.1::l.args x.2
section law
variable {H : Type} {enc : TypeId × Value → H} {P : Program}
def zve{W:World}{d F:Nat}:∀{O:List TypeId} {l:ShL} {z:List Value} {U:List (DataW H)} {Q:List MemPlace} {C:CM} {Hp:Heap},Xa P d O=some l→DataW.TrodAll enc P W 0 (λ_=>true) true O z U Q→W.noneFrozen Q →
  (∀(gC:Nat) (t:TypeId) (v:Value),O[gC]?=some t→z[gC]?=some v→Value.okWide P W .any F t v)→Rel W C Hp W→∃V X as,∃y:l.T,C.le V∧Rel W V X W∧Tp Hp X∧VRs V as z∧ARs (Ve X) (l.args y) as
 |[],l,z,U,Q,C,Hp,B,Y,_,_,Z=>by
  cases B;obtain⟨rfl,_,_⟩:=trodAll_nil Y;exact⟨C,Hp,[],(():Unit),CM.le_refl C,Z,.refl Hp,.nil,.nil⟩
 |t::O,l,z,U,Q,C,Hp,B,Y,hz,hv,Z=>by
  simp only[Xa]at B;split at B
  ·cases B
  ·rename_i s g;by_cases hc:P.cellsOf t=s.n
   ·rw[H7 hc]at B;split at B
    ·cases B
    ·rename_i r hr;cases B;obtain⟨v,vs,dd,gD,p,q,rfl,rfl,rfl,⟨G,hd⟩,E⟩:=trodAll_cons Y;obtain⟨C1,H1,I,y,a1,a2,a3,R,a5,T,a7⟩:=got_cells G d t s _ _ C Hp g hd (λb o hb=>hz b o (Li _ hb)) Z;obtain⟨C2,H2,gg,ys,b1,b2,b3,b4,b5⟩:=zve (C:=C1) (Hp:=H1) hr E (λb o hb=>hz b o (Iw _ hb)) (λgC t' v' K h2=>hv (gC+1) t' v' D0 (by simpa using h2)) a2;have A:=hv 0 t v rfl rfl;have gz:∃a,VR C1 a v∧AR (Ve H1) (s.arg y) a:=by
      cases d with
      |zero=>cases g
      |succ d =>
       have j:∀{gE:LV},s.enc y=[gE]→s.arg y=gE→v.cells.toList=[v]→∃a,VR C1 a v∧AR (Ve H1) (s.arg y) a:=by
        intro gE e1 e2 e3;rw[e3]at R;rw[e1]at T;cases R with
        |cons K h2 =>
         cases T with
         |cons h3 h4=>exact⟨_,K,by rw[e2];exact h3⟩
       simp only[Xo]at g;split at g
       ·rename_i hu;cases g;obtain⟨b,rfl⟩:=okWide_bool hu A;exact j rfl rfl rfl
       ·rename_i k hu;obtain⟨n,rfl⟩:=okWide_int hu A;split at g<;>cases g<;>exact j rfl rfl rfl
       ·rename_i hu;cases g;obtain⟨b,rfl⟩:=okWide_string hu A;exact j rfl rfl rfl
       ·rename_i e hu;obtain⟨a,len,cap,rfl⟩:=okWide_slice hu A;split at g
        ·cases g
        ·rename_i L gA;by_cases D:P.cellsOf e=L.n∧0<L.n
         ·rw[H7 D]at g;cases g;exact j rfl rfl rfl
         ·rw[Hx D]at g;cases g
       ·rename_i fs hu;obtain⟨M,rfl,_⟩:=okWide_struct hu A;split at g
        ·cases g
        ·rename_i l hl;cases g;exact⟨.agg I,.agg R a5,.agg T⟩
       ·rename_i n e hu;obtain⟨M,rfl⟩:∃M,v=.agg M:=by
         simp only[Value.okWide,hu]at A;obtain⟨M,K,_⟩:=A;exact⟨M,K⟩
        split at g
        ·cases g
        ·rename_i L gA;by_cases D:P.cellsOf e=L.n∧P.cellsOf t=n*L.n
         ·rw[H7 D]at g;cases g;exact⟨.agg I,.agg R a5,.agg T⟩
         ·rw[Hx D]at g;cases g
       ·cases g
     obtain⟨a,o1,o2⟩:=gz;exact⟨C2,H2,a::gg,(y,ys),CM.le_trans a1 b1,b2,a3.trans b3,.cons (o1.mono b1) b4,.cons (o2.mono b3.le) b5⟩
   ·rw[Hx hc]at B;cases B
def walk_of{f d:Nat}{j:List TypeId}{l:ShL}(hm:P.follows .mixedOrders=true)(z:Xa P d j=some l)(h:∀y:l.T,Rl P (.fn f) (l.args y) [] λv _=>v=.bool true){W:World}{D:List (DataW H)}{C:List MemPlace}
  (E:DataW.TrodAll enc P W 0 (λ_=>true) true j vM.toList D C) (F:W.noneFrozen C) (hv:∀(Z:Nat) (t:TypeId) (v:Value),j[Z]?=some t→vM.toList[Z]?=some v→Value.okWide P W .any g t v) :
  Calls P f vM W λe A=>e=.returned (.bool true)∧Below W.heap.size W A:=by
 obtain⟨gg,G,as,y,_,I,_,K,B⟩:=zve z E F hv (Rel.start W);obtain⟨m,v1,H',L,c',v,G',q2,q3,q4,M,O⟩:=(h y).2 (Ve G) (.fn f) as (HSim.empty (λo ho=>ho)) rfl B;subst O;cases M;intro Q;obtain⟨C',A,v',R,h1,T,U,V,X,Y⟩:=zm1 hm (us P) m W _ _ W (.fn f) as _ _ _ I K L Q;cases U;exact⟨.returned (.bool true),A,R,⟨rfl,T.low⟩,V,X,Y⟩
def zsq(F:laidOutB P=true){W G:World}(I:Below W.heap.size W G){K:Nat→Bool}:∀{A:List TypeId} {C:List Value} {D:List (DataW H)} {B:List MemPlace},(∀t∈A,P.readableRec t=true∧t<P.types.size)→DataW.TrodAll enc P W 0 (λ_=>true) true A C D B →
  (∀x∈B,x.block<W.heap.size)→(∀x∈B,K x.block=true)→DataW.TrodAll enc P G 0 K true A C D B
 |[],[],[],_,_,h,_,_=>h
 |t::A,v::C,d::D,_,E,⟨p,q,L,M,e⟩,j,z=>by
  subst e;exact⟨p,q,WideElems.Trod_stays F (E t N).1 (E t N).2 L (λx g=>I.same (j x (Li _ g))) (λx g=>z x (Li _ g)),
   zsq F I (λO Q=>E O F6) M (λx g=>j x (Iw _ g)) (λx g=>z x (Iw _ g)),rfl⟩
 |[],[],_::_,_,_,h,_,_=>h.elim
 |[],_::_,_,_,_,h,_,_=>h.elim
 |_::_,[],_,_,_,h,_,_=>h.elim
 |_::_,_::_,[],_,_,h,_,_=>h.elim
def vt{f:Func}{s:ChangeSpec}{C g D:Bool}{W:World}{args:Array Value}{I gs:List (DataW H)}{A:List MemPlace}(U:DataW.Whole enc P f.params.toList s.vars R W args.toList I gs A)(j:s.vars=[])
  (E:∀F:List (DataW H),F.length=f.params.toList.length→s.fn H F={ results:=[.lit (.bool true)],args:=F }) (V:Below W.heap.size W K) (hl:laidOutB P=true) (hr:∀t∈f.params.toList,P.readableRec t=true∧t<P.types.size)
  (B:f.resultTypes=#[v8]) (z:P.underlying v8=some .bool):s.post enc P f R C g D W args (.bool true) K:=by
 have L:=U;obtain⟨p,q,X,Y,rfl,gg,gz⟩:=U;rw[j]at Y;obtain⟨rfl,rfl⟩:=trodVars_none Y;have M:I.length=f.params.toList.length:=(trodAll_length X).2;have hs:=E I M;have G:s.fn H (I++[])={ results:=[.lit (.bool true)],args:=I }:=by rw[Jp];exact hs
 have O:=L.lt;refine zxp (pa:=p) (pv:=[]) L (λb Z hd=>?_) (λZ Q=>?_) (λZ _=>?_) rfl V ?_
 ·rw[G,B];exact trodAll_cons_mk (shut_bool z _) trodAll_mk0
 ·rw[G];exact zsq hl V hr X (λx T=>O x Bn) (λx T=>Q x Bn)
 ·rw[G,j];rfl
 ·exact ok_one B rfl (okWide_bool_mk z _)
end law
end
section
def N9(G:M7)(v d:LV):Prop:=match v with
 |.tup l=>∃r,d=.tup r∧bors G l r
 |v=>bor G v d
def R7(P:Program)(f:Nat)(z:List LV)(E:LV):Prop :=
 Xq P (.fn f)∧E.dat=true∧∀(B:Nat→Prop) (C:Heap) (g:List AV),(∀o,B o→o<C.next)→ARs ⟨[],B,C⟩ z g →
  ∃(m:Nat) (F:AV) (j:Nat→Prop) (A:Heap),S8 P (OL P) m (.fn f) g C=.ok F A∧C.next≤A.next∧(∀o,B o→j o)∧(∀o,j o→o<A.next∧(B o∨C.next≤o))∧(∀o,o<C.next→A.get o=C.get o)∧AR ⟨[],j,A⟩ E F
section calls
variable {P : Program}
def borR_ok{c:Cx}{G:M7}(j:HSim c G)(v d:LV)(a:AV)(g:N9 G v d)(h:AR c v a):AR ⟨[],λo=>c.Fz o∨Pv c G o,c.H⟩ d a:=by
 unfold N9 at g;split at g
 ·obtain⟨r,rfl,g⟩:=g;cases h with
  |tup h=>exact .tup (bors_ok j _ _ _ g h)
 ·exact bor_ok j _ _ _ g h
def R7.mk{f:Nat}{args:List LV}{v0:LV}(hd:v0.dat=true)(h:Rl P (.fn f) args [] λv G=>N9 G v v0):R7 P f args v0:=by
 refine⟨h.1,hd,λFz H gg gA ha=>?_⟩;obtain⟨m,v1,H',q1,c1,v,G,rfl,q3,q4,q5,q6⟩:=h.2 ⟨[],Fz,H⟩ (.fn f) gg (.empty gA) rfl ha;have gz:∀o,¬Pv ⟨[],Fz,H⟩ [] o:=λo ⟨p,_,_,_,e,_⟩=>Cl
 refine⟨m,v1,_,c1.H,q1,q4.nx,λo ho=>.inl (q4.le.fz o ho).1,λo ho=>⟨ho.elim (q3.fz o) (q3.lt o),?_⟩,λo ho=>q4.frame o ho (gz o),borR_ok q3 v v0 v1 q6 q5⟩;rcases ho with ho|ho
 ·rcases q4.fznew o ho with h|h|h
  ·exact .inl h
  ·exact absurd h (gz o)
  ·exact .inr h
 ·rcases q4.new o ho with h|h
  ·exact absurd h (gz o)
  ·exact .inr h
def zqk{c:Cx}{G:M7}(B:HSim c G){Fz':Nat→Prop}(O:c.H.next≤vT.next)(T:∀o,c.Fz o→Fz' o)(L:∀o,Fz' o→o<vT.next∧(c.Fz o∨c.H.next≤o))(I:∀o,o<c.H.next→vT.get o=c.H.get o) :
  HSim ⟨c.hd,Fz',vT⟩ G∧Step c G ⟨c.hd,Fz',vT⟩ G:=by
 have E:CxLe c ⟨c.hd,Fz',vT⟩:=⟨λp k h e=>⟨k,h,e,Ia _,λ_=>rfl,λ_=>rfl⟩,λo ho=>⟨T o ho,I o (B.fz o ho)⟩⟩;have g:∀o,Pv ⟨c.hd,Fz',vT⟩ G o→Pv c G o:=λo ⟨p,j,k,h,A,z,F,H⟩=>⟨p,j,k,h,A,z,F,H⟩
 refine⟨⟨B.len,λo ho=>(L o ho).1,λo ho=>I0 (B.lt o (g o ho)) O,λo ho U=>?_,λp j k h A z=>?_,λp q j C k h V X o A z F H M R Y Z=>B.excl p q j C k h V X o A z F H M R Y Z⟩,?_⟩
 ·rcases (L o U).2 with h|h
  ·exact B.sep o (g o ho) h
  ·have:=B.lt o (g o ho);omega
 ·by_cases K:j.live=true
  ·exact (B.obj p j k h A z).mono E (λo ho=>I o (B.lt o ⟨p,j,k,h,A,K,z,ho⟩))
  ·cases j<;>first|exact absurd rfl K|trivial
 ·refine⟨E,O,λo ho _=>I o ho,λo ho=>.inl (g o ho),λo ho=>(L o ho).2.elim .inl (λh=>.inr (.inr h)),λp j C A z=>?_,λp j C k h o A z F H M R=>?_⟩
  ·rw[A]at z;cases z;exact Ia _
  ·rw[A]at z;cases z;have K:j.live=true:=by cases j<;>first|rfl|cases M
   exact⟨rfl,I o (B.lt o ⟨p,j,k,h,A,K,F,H⟩),rfl⟩
def Rm{f:Nat}{G:M7}(H:R7 P f E O)(I:dats E=true)(k:Y O G):Rl P (.fn f) E G Y:=by
 obtain⟨K,hd,z⟩:=H;refine⟨K,λc L g C A M=>?_⟩;cases L with
 |yield o=>exact A.elim
 |fn gg =>
  obtain rfl:f=gg:=A;obtain⟨m,F,j,B,R,T,U,V,X,Z⟩:=z c.Fz c.H g C.fz (ARs.dat (c:=c) (c':=⟨[],c.Fz,c.H⟩) (λo ho=>⟨ho,rfl⟩) E g I M);obtain⟨r1,r2⟩:=zqk C T U V X;exact⟨m,F,B,R,⟨c.hd,j,B⟩,O,G,rfl,r1,r2,AR.dat (c:=⟨[],j,B⟩) (c':=⟨c.hd,j,B⟩) (λo ho=>⟨ho,rfl⟩) O F hd Z,k⟩
mutual
def LV.flat:LV→Bool
 |.bool _ |.u _ |.b _ |.i _ |.int _ _ |.str _ |.nilPtr |.nilSl |.nilMap |.nilFn |.nilIf=>true
 |.agg l=>flats l
 |.tup l=>flats l
 |_=>false
def flats:List LV→Bool
 |[]=>true
 |v::l=>v.flat&&flats l
end
mutual
def AR.flat{c c':Cx}(v:LV)(a:AV)(hd:v.flat=true)(h:AR c v a):AR c' v a:=by
 cases v with
 |agg l =>
  simp only[LV.flat]at hd;cases h with
  |agg h=>exact .agg (ARs.flat l _ hd h)
 |tup l =>
  simp only[LV.flat]at hd;cases h with
  |tup h=>exact .tup (ARs.flat l _ hd h)
 |_=>first|(simp only[LV.flat]at hd;cases hd;done)|(cases h;constructor)
termination_by SizeOf.sizeOf v
def ARs.flat{c c':Cx}(l:List LV)(r:List AV)(hd:flats l=true)(h:ARs c l r):ARs c' l r:=by
 cases l with
 |nil=>cases h;exact .nil
 |cons v l =>
  simp only[flats,Hy]at hd;cases h with
  |cons e es=>exact .cons (AR.flat v _ hd.1 e) (ARs.flat l _ hd.2 es)
termination_by SizeOf.sizeOf l
end
def CallL_B{f:Nat}{G:M7}(H:R7 P f vY O)(I:bors G E vY)(hv:O.flat=true)(k:Y O G):Rl P (.fn f) E G Y:=by
 obtain⟨K,hd,j⟩:=H;refine⟨K,λc L g z A M=>?_⟩;cases L with
 |yield o=>exact A.elim
 |fn gg =>
  obtain rfl:f=gg:=A;obtain⟨m,B,R,C,T,F,q3,q4,U,V⟩:=j (λo=>c.Fz o∨Pv c G o) c.H g (λo ho=>ho.elim (z.fz o) (z.lt o)) (bors_ok z E vY g I M);obtain⟨X,Z⟩:=zqk z (Fz':=c.Fz) F (λ_ h=>h) (λo ho=>⟨I0 (z.fz o ho) F,.inl ho⟩) U;exact⟨m,B,C,T,⟨c.hd,c.Fz,C⟩,O,G,rfl,X,Z,AR.flat O B hv V,k⟩
end calls
def zul{P:Program}{f:Nat}{G:M7}(z:Xq P (.fn f))(A:zmx P f=true)(B:z9z P f)(k:Y (.bool true) G):Rl P (.fn f) [] G Y:=by
 refine⟨z,λc C j E g F=>?_⟩;cases C with
 |yield o=>exact g.elim
 |fn H =>
  obtain rfl:f=H:=g;cases F;refine⟨1,.bool true,c.H,?_,c,.bool true,G,rfl,E,.refl c G,.bool true,k⟩;unfold S8;dsimp only;rw[OL_yes A B]
section cuts
variable {P : Program} {f n : Nat} {ro : Option Nat} {ρ : M9} {D : List Nat} {G : M7} {Q : Qi}
def zyc{b c:LC}:Y9 P f n ro (.seq b c) Q=Y9 P f n ro b (Y9 P f n ro c Q):=by
 funext x ρ D G
 cases x<;>rfl
def zg4{a b c:LC}:wp P f n ro (.seq a (.seq b c)) ρ D G Q=wp P f n ro (.seq (.seq a b) c) ρ D G Q:=by
 rw[wp_seq,wp_seq,wp_seq,zyc]
def Yi{a b:LC}(E:M9→List Nat→M7→Prop)(B:∀A:M9→List Nat→M7→Prop,(∀(g:M9) (j:List Nat) (z:M7),E g j z→A g j z)→wp P f n ro a ρ D G (nxQ A Q))
  (C:∀(g:M9) (j:List Nat) (z:M7),E g j z→wp P f n ro b g j z Q):wp P f n ro (.seq a b) ρ D G Q:=by
 rw[wp_seq];exact B (λg j z=>wp P f n ro b g j z Q) C
end cuts
attribute [simp] N9 LV.flat flats
end

section
def Stk(b:Nat)(G:M7)(v:LV)(esz n:Nat)(l:List LV):Prop :=
 (v=.nilSl∧n=0∧l=[])∨∃(p k:Nat) (g:List LV) (m st:Nat),b≤p∧G[p]?=some (.dyn g m esz k st)∧g.length=m*esz∧n≤m∧l=g.take (n*esz)∧((v=.dy p k∧n=m)∨v=.vw p k 0 n)
section stk
variable {b : Nat} {G G' : M7} {v : LV} {esz n : Nat} {l x : List LV}
def Stk.length(h:Stk b G v esz n l):l.length=n*esz:=by
 rcases h with ⟨_,rfl,rfl⟩|⟨p,k,R,m,st,_,_,h2,h3,rfl,_⟩
 ·simp
 ·have:=Ii esz h3;rw[J4];omega
def Stk.lenL(h:Stk b G v esz n l){K:Nat→Prop}(k:K n):lenL G v K:=by
 rcases h with ⟨rfl,rfl,_⟩|⟨p,gg,R,m,st,_,h1,_,_,_,⟨rfl,rfl⟩|rfl⟩
 ·exact k
 ·rw[lenL_dy,h1];exact⟨rfl,k⟩
 ·rw[lenL_vw,h1];exact⟨rfl,k⟩
def Stk.ix(h:Stk b G v esz n l){i:Int}(h0:0≤i)(hi:i<n){K:LV→Prop}
  (k:∀(p j:Nat) (R:List LV) (m st:Nat),b≤p→G[p]?=some (.dyn R m esz j st)→(∀gg,gg<n*esz→R[gg]?=l[gg]?)→n*esz≤R.length→K (.dptr p j (i.toNat*esz))):l7 G esz v i K:=by
 rcases h with ⟨rfl,rfl,rfl⟩|⟨p,j,R,m',st,h1,h2,h3,h4,rfl,⟨rfl,rfl⟩|rfl⟩
 ·omega
 ·rw[Y7,h2];exact⟨rfl,rfl,h0,hi,k _ _ _ _ _ h1 h2 (λgg hj=>by rw[Ju hj]) J⟩
 ·rw[Y2,h2];have:=Ii esz h4;refine⟨rfl,rfl,h0,hi,?_⟩;rw[Iy];exact k _ _ _ _ _ h1 h2 (λgg hj=>by rw[Ju hj]) J
def Rw(b:Nat)(G:M7)(v:LV)(esz n:Nat)(l:List LV):Prop :=
 (v=.nilSl∧n=0∧l=[])∨∃(p k st:Nat),b≤p∧v=.dy p k∧G[p]?=some (.dyn l n esz k st)∧l.length=n*esz
def Rw.nil:Rw b G .nilSl esz 0 []:=.inl ⟨rfl,rfl,rfl⟩
def Rw.frame(h:Rw b G v esz n l)(hf:∀q,b≤q→G'[q]?=G[q]?):Rw b G' v esz n l:=by
 rcases h with h|⟨p,k,st,h1,h2,h3,h4⟩
 ·exact .inl h
 ·exact .inr ⟨p,k,st,h1,h2,by rw[hf p h1];exact h3,h4⟩
def Rw.set_lt(h:Rw b G v esz n l){q:Nat}{ob:LObj}(hq:q<b):Rw b (G.set q ob) v esz n l :=
 h.frame λr hr=>Hw J
def Rw.push_end(h:Rw b G v esz n l){ob:List LObj}:Rw b (G++ob) v esz n l:=by
 rcases h with h|⟨p,k,st,h1,h2,h3,h4⟩
 ·exact .inl h
 ·exact .inr ⟨p,k,st,h1,h2,by rw[H8 (Hu.1 h3).1];exact h3,h4⟩
def Rw.push(h:Rw b G v esz n l)(hz:0<esz)(hb:b≤G.length)(hn:n≤1000000000){m:Nat}(hx:x.length=m*esz){K:LV→M7→Prop}
  (k:∀v' G',Rw b G' v' esz (n+m) (l++x)→(∀q,q<b→G'[q]?=G[q]?)→b≤G'.length→K v' G'):Ps G esz v m x K:=by
 rcases h with ⟨rfl,rfl,rfl⟩|⟨p,gg,st,h1,rfl,h2,h3⟩
 ·rw[appL_nil];refine k _ _ (.inr ⟨_,0,0,hb,rfl,?_,by simpa using hx⟩) (λq hq=>H8 J) Ab;rw[Iy];exact Il
 ·have hp:p<G.length:=(Hu.1 h2).1;rw[appL_dy,h2];exact⟨rfl,⟨rfl,hz⟩,hn,k _ _ (.inr ⟨p,gg+1,st+1,h1,rfl,H0 hp,by rw[H9,h3,hx,Iu]⟩) (λq hq=>Hw J) (by rw[J3];exact hb)⟩
def Rw.cells(h:Rw b G v esz n l):v.cells=some [v]:=by
 rcases h with ⟨rfl,_⟩|⟨_,_,_,_,rfl,_⟩<;>rfl
def Rw.bor(h:Rw b G v esz n l)(hd:dats l=true):Go.Sv.bor G v (.lst l n esz):=by
 rcases h with ⟨rfl,rfl,rfl⟩|⟨p,k,st,_,rfl,h2,_⟩
 ·exact .inr ⟨_,rfl⟩
 ·exact⟨_,_,_,_,rfl,h2,hd⟩
def Stk.cells(h:Stk b G v esz n l):v.cells=some [v]:=by
 rcases h with ⟨rfl,_⟩|⟨_,_,_,_,_,_,_,_,_,_,⟨rfl,_⟩|rfl⟩<;>rfl
end stk
end
def HSim.freeze'{c:Cx}{G:M7}(hs:HSim c G){p k st:Nat}{x:AV}{ob:LObj}(hG:G[p]?=some ob)(hl:ob.live=true)(gD:ob.st<st)(hp:c.hd[p]?=some (k,x)) :
  HSim ⟨c.hd,λq=>c.Fz q∨Ok x=some q,c.H⟩ (G.set p (.dead st))∧Step c G ⟨c.hd,λq=>c.Fz q∨Ok x=some q,c.H⟩ (G.set p (.dead st)):=by
 have gE:p<G.length:=(Hu.1 hG).1;have hle:CxLe c ⟨c.hd,λq=>c.Fz q∨Ok x=some q,c.H⟩:=⟨λp k h e=>⟨k,h,e,Ia _,λ_=>rfl,λ_=>rfl⟩,λq hq=>⟨.inl hq,rfl⟩⟩;have gA:∀q,Ok x=some q→Pv c G q:=λq hq=>⟨p,ob,k,x,hG,hl,hp,hq⟩
 have hinv:∀{q:Nat} {gg:LObj},(G.set p (.dead st))[q]?=some gg→(q=p∧gg=.dead st)∨(q≠p∧G[q]?=some gg):=by
  intro q gg e;by_cases hq:q=p
  ·subst hq;rw[H0 gE]at e;cases e;exact .inl ⟨rfl,rfl⟩
  ·rw[Hw (Ne.symm hq)]at e;exact .inr ⟨hq,e⟩
 have gz:∀q,Pv ⟨c.hd,λq=>c.Fz q∨Ok x=some q,c.H⟩ (G.set p (.dead st)) q→Pv c G q∧Ok x≠some q:=by
  rintro q ⟨p1,gg,k1,h1,e1,e2,e3,e4⟩;rcases hinv e1 with ⟨_,rfl⟩|⟨gF,e1⟩
  ·cases e2
  ·exact⟨⟨p1,gg,k1,h1,e1,e2,e3,e4⟩,λhq=>gF (hs.excl p1 p gg ob k1 h1 k x q e1 hG e2 hl e3 hp e4 hq)⟩
 refine⟨⟨En,λq hq=>hq.elim (hs.fz q) (λe=>hs.lt q (gA q e)),λq hq=>hs.lt q (gz q hq).1,λq hq hf=>hf.elim (hs.sep q (gz q hq).1) (gz q hq).2,λq gg k1 h1 e1 e2=>?_,?_⟩,⟨hle,Ia _,λ_ _ _=>rfl,λq hq=>.inl (gz q hq).1,λq hq=>hq.elim .inl (λe=>.inr (.inl (gA q e))),λq gg gC e1 e2=>?_,λq gg gC k1 h1 o1 e1 e2 e3 e4 e5 e6=>?_⟩⟩
 ·rcases hinv e1 with ⟨_,rfl⟩|⟨_,e1⟩
  ·trivial
  ·by_cases gG:gg.live=true
   ·exact (hs.obj q gg k1 h1 e1 e2).mono hle (λ_ _=>rfl)
   ·cases gg<;>first|exact absurd rfl gG|trivial
 ·intro q r gg gC k1 h1 k2 h2 o1 e1 e2 e3 e4 e5 e6 e7 e8;rcases hinv e1 with ⟨_,rfl⟩|⟨_,e1⟩
  ·cases e3
  ·rcases hinv e2 with ⟨_,rfl⟩|⟨_,e2⟩
   ·cases e4
   ·exact hs.excl q r gg gC k1 h1 k2 h2 o1 e1 e2 e3 e4 e5 e6 e7 e8
 ·rcases hinv e2 with ⟨rfl,rfl⟩|⟨_,e2⟩
  ·rw[hG]at e1;cases e1;exact Mt gD
  ·rw[e1]at e2;cases e2;exact Ia _
 ·rcases hinv e2 with ⟨rfl,rfl⟩|⟨_,e2⟩
  ·rw[hG]at e1;cases e1;have:ob.st=st:=e6;omega
  ·rw[e1]at e2;cases e2;exact⟨rfl,rfl,rfl⟩
def ARs.parts{c:Cx}:∀{a b:List LV} {v:LV} {r:List AV},ARs c (a++v::b) r→∃ra x rb,r=ra++x::rb∧ARs c a ra∧AR c v x∧ARs c b rb
 |[],b,v,r,h=>by
  cases h with
  |cons e es=>exact⟨[],_,_,rfl,.nil,e,es⟩
 |w::a,b,v,r,h=>by
  cases h with
  |cons e es =>
   obtain⟨ra,x,rb,rfl,h1,h2,h3⟩:=ARs.parts (a:=a) es;exact⟨_::ra,x,rb,rfl,.cons e h1,h2,h3⟩
def ARs.join{c:Cx}:∀{a b:List LV} {v:LV} {ra rb:List AV} {x:AV},ARs c a ra→AR c v x→ARs c b rb→ARs c (a++v::b) (ra++x::rb)
 |[],_,_,_,_,_,h1,h2,h3=>by cases h1;exact .cons h2 h3
 |_::a,_,_,_,_,_,h1,h2,h3=>by
  cases h1 with
  |cons e es=>exact .cons e (ARs.join es h2 h3)
def z8v{P:Program}{t:LTgt}{a b:List LV}{p k len st:Nat}{l:List LV}(L:F[p]?=some (.dyn l len g k st))(h:Rl P t (a++.lst l len g::b) (F.set p (.dead (st+1))) Y) :
  Rl P t (a++.dy p k::b) F Y:=by
 refine⟨h.1,λc B C D E V=>?_⟩;obtain⟨ra,x,rb,rfl,X,Z,h3⟩:=V.parts;cases Z with
 | @dy _ _ k' M _ e hk G gg =>
  obtain⟨r0,H,j⟩:=D.obj p _ _ _ L e;have I:=G J;obtain⟨O,A⟩:=D.freeze' (st:=st+1) L rfl (Jl _) e;have hx:AR ⟨c.hd,λq=>c.Fz q∨Ok M=some q,c.H⟩ (.lst l len g) x:=by
   rw[I];rcases j with ⟨j,K⟩|⟨o,v,Q,t,R,l',j,K,r4,r5,T,r7,r8⟩
   ·subst K;have hl:l=[]:=Ip Bt;subst hl;rw[j];exact .lstNil
   ·have gz:l'.length=len*g:=by rw[←T.length];exact H
    have U:=W3 (i:=0) (n:=len*g) K r5 r4 J;rw[Km,Im J]at U;rw[j];exact .lst (.inr rfl) (λr e=>(r7 r e).2) H U (T.mono (j ▸ A.le))
  have z:TgtR ⟨c.hd,λq=>c.Fz q∨Ok M=some q,c.H⟩ t B:=by
   cases t<;>cases B<;>exact E
  obtain⟨m,v1,H',q1,c1,v,G1,q2,q3,q4,q5,q6⟩:=h.2 _ B _ O z (.join (X.mono A.le) hx (h3.mono A.le));exact⟨m,v1,H',q1,c1,v,G1,q2,q3,A.trans D O q4,q5,q6⟩
section
def HSim.sub{c:Cx}{G:M7}(hs:HSim c G){p len esz ver st:Nat}{l l':List LV}(hG:G[p]?=some (.dyn l len esz ver st))(hl:∀r,ARs c l r→ARs c l' r) :
  HSim c (G.set p (.dyn l' len esz ver (st+1)))∧Step c G c (G.set p (.dyn l' len esz ver (st+1))):=by
 have gE:p<G.length:=(Hu.1 hG).1;have hle:CxLe c c:=⟨λp k h e=>⟨k,h,e,Ia _,λ_=>rfl,λ_=>rfl⟩,λq hq=>⟨hq,rfl⟩⟩;have hinv:∀{q:Nat} {gg:LObj},(G.set p (.dyn l' len esz ver (st+1)))[q]?=some gg→(q=p∧gg=.dyn l' len esz ver (st+1))∨(q≠p∧G[q]?=some gg):=by
  intro q gg e;by_cases hq:q=p
  ·subst hq;rw[H0 gE]at e;cases e;exact .inl ⟨rfl,rfl⟩
  ·rw[Hw (Ne.symm hq)]at e;exact .inr ⟨hq,e⟩
 have gz:∀{q:Nat} {gg:LObj},(G.set p (.dyn l' len esz ver (st+1)))[q]?=some gg→gg.live=true→∃gA,G[q]?=some gA∧gA.live=true:=by
  intro q gg e gF;rcases hinv e with ⟨rfl,rfl⟩|⟨_,e⟩
  ·exact⟨_,hG,rfl⟩
  ·exact⟨_,e,gF⟩
 have gC:∀q,Pv c (G.set p (.dyn l' len esz ver (st+1))) q→Pv c G q:=by
  rintro q ⟨p1,gg,k1,h1,e1,e2,e3,e4⟩;obtain⟨gA,f1,f2⟩:=gz e1 e2;exact⟨p1,gA,k1,h1,f1,f2,e3,e4⟩
 refine⟨⟨En,hs.fz,λq hq=>hs.lt q (gC q hq),λq hq=>hs.sep q (gC q hq),λq gg k1 h1 e1 e2=>?_,?_⟩,⟨hle,Ia _,λ_ _ _=>rfl,λq hq=>.inl (gC q hq),λq hq=>.inl hq,λq gg gA e1 e2=>?_,λq gg gA k1 h1 o1 e1 e2 e3 e4 e5 e6=>?_⟩⟩
 ·rcases hinv e1 with ⟨rfl,rfl⟩|⟨_,e1⟩
  ·obtain⟨a1,a2,a3⟩:=hs.obj q _ k1 h1 hG e2;rcases a3 with ⟨b1,b2⟩|⟨o,v,room,t,gD,lr,b1,b2,b3,b4,b5,b6,b7⟩
   ·have gG:l=[]:=Ip (by rw[a2,b2];simp);subst gG;have h9:=hl [] .nil;cases h9;exact⟨a1,a2,.inl ⟨b1,b2⟩⟩
   ·have h9:=hl _ b5;exact⟨a1,by rw[h9.length,←b5.length];exact a2,.inr ⟨o,v,room,t,gD,lr,b1,b2,b3,b4,h9,b6,b7⟩⟩
  ·exact hs.obj q gg k1 h1 e1 e2
 ·intro q r gg gA k1 h1 k2 h2 o1 e1 e2 e3 e4 e5 e6 e7 e8;obtain⟨gH,f1,f2⟩:=gz e1 e3;obtain⟨gI,f3,f4⟩:=gz e2 e4;exact hs.excl q r gH gI k1 h1 k2 h2 o1 f1 f3 f2 f4 e5 e6 e7 e8
 ·rcases hinv e2 with ⟨rfl,rfl⟩|⟨_,e2⟩
  ·rw[hG]at e1;cases e1;exact L5 _
  ·rw[e1]at e2;cases e2;exact Ia _
 ·rcases hinv e2 with ⟨rfl,rfl⟩|⟨_,e2⟩
  ·rw[hG]at e1;cases e1;have:st=st+1:=e6;omega
  ·rw[e1]at e2;cases e2;exact⟨rfl,rfl,rfl⟩
section sub
variable {P : Program} {G : M7} {p len esz ver st : Nat} {l l' : List LV}
def zn9{t:LTgt}{args':List LV}(h:∀c r,ARs c E r→ARs c args' r)(k:Rl P t args' G Y):Rl P t E G Y :=
 ⟨k.1,λc j g z A B=>k.2 c j g z A (h c _ B)⟩
end sub
def nil_lst{c:Cx}{a:AV}(h:AR c .nilSl a):AR c (.lst [] 0 1) a:=by cases h;exact .lstNil
end

def HSim.froze{c:Cx}{G:M7}(hs:HSim c G){p k len esz st:Nat}{l:List LV}(hg:G[p]?=some (.dyn l len esz k st)) :
  ∃c',HSim c' (G.set p (.dead (st+1)))∧Step c G c' (G.set p (.dead (st+1)))∧CxLe c c'∧c'.hd=c.hd∧c'.H=c.H∧(∀x,AR c (.dy p k) x→AR c' (.lst l len esz) x)∧∀x,AR c' (.dy p k) x→AR c' (.lst l len esz) x:=by
 have hp:p<c.hd.length:=by rw[hs.len];exact (Hu.1 hg).1
 obtain⟨⟨k1,hh⟩,e⟩:∃y,c.hd[p]?=some y:=⟨_,H6 hp⟩;obtain⟨r0,r1,r2⟩:=hs.obj p _ _ _ hg e;obtain⟨u1,u2⟩:=hs.freeze' (st:=st+1) hg rfl (Jl _) e;have key:AR ⟨c.hd,λq=>c.Fz q∨Ok hh=some q,c.H⟩ (.lst l len esz) hh:=by
  rcases r2 with ⟨r2,r3⟩|⟨o,v,room,t,gA,l',r2,r3,r4,r5,r6,r7,r8⟩
  ·subst r3;have hl:l=[]:=Ip Dg;subst hl;rw[r2];exact .lstNil
  ·have gC:l'.length=len*esz:=C9
   have hr:=W3 (i:=0) (n:=len*esz) r3 r5 r4 J;rw[Km,Im J]at hr;rw[r2];exact .lst (.inr rfl) (λr e=>(r7 r e).2) r1 hr (r6.mono (r2 ▸ u2.le))
 refine⟨_,u1,u2,u2.le,rfl,rfl,λx hx=>?_,λx hx=>?_⟩
 ·cases hx with
  | @dy _ _ k' h2 _ e2 hk gg gz =>
   rw[e]at e2;cases e2;rw[gg r0.symm];exact key
 ·cases hx with
  | @dy _ _ k' h2 _ e2 hk gg gz =>
   have e2:c.hd[p]?=some (k',h2):=e2;rw[e]at e2;cases e2;rw[gg r0.symm];exact key
def ARs.put{c:Cx}{v w:LV}(hle:CxLe c vg)(h:∀x,AR c v x→AR vg w x){a b:List LV}{r:List AV}(ha:ARs c (a++v::b) r):ARs vg (a++w::b) r:=by
 obtain⟨ra,x,rb,rfl,h1,h2,h3⟩:=ha.parts;exact .join (h1.mono hle) (h x h2) (h3.mono hle)
section
noncomputable def zvj(P:Program)(f:Nat):Option RF :=
 match zb P f && !(zgt P f) with
 |false=>none
 |true=>match P.funcs[f]? with
  |none=>none
  |some fn=>match fn.body with
   |none=>none
   |some b=>match Nat.ble fn.ntmps Q1 with
    |false=>none
    |true=>match Ol P fn.ntmps b with
     |none=>none
     |some c=>match Xf P fn.results.toList with
      |none=>none
      |some g=>some ⟨fn.ntmps,c,g⟩
def OL_not{P:Program}{f:Nat}(h:¬z9z P f)(g:List AV)(j:Heap):OL P (.fn f) g j=.no:=by
 unfold OL;split
 ·rename_i z e;cases e;rw[Hx (λx=>h x.2)]
 ·rfl
section top
variable {P : Program}
def zu6{f:Nat}{s:LC}{n:Nat}{R:List RRes}(g:zvj P f=some ⟨n,s.r,R⟩)(G:s.ok=true)(H:∀(a:List AV) (gA:Heap),OL P (.fn f) a gA=.no)(hn:E.length≤n)
  (h:W P f n s none (ma E 0) [] F λx ρ gC T=>(match x with | .exit _=>False|_=>True)∧yj gC T λC=>Rr ρ C R λD=>Y (Uq D) C):Rl P (.fn f) E F Y:=by
 unfold zvj at g;split at g
 ·cases g
 ·rename_i z;simp only[Hy,Jf]at z;refine⟨z,λc t1 j U V X=>?_⟩;cases t1 with
  |yield o=>exact V.elim
  |fn gD =>
   obtain rfl:f=gD:=V;split at g
   ·cases g
   ·rename_i fn I;split at g
    ·cases g
    ·rename_i b hb;split at g
     ·cases g
     ·rename_i A;split at g
      ·cases g
      ·rename_i rc K;split at g
       ·cases g
       ·rename_i gg L;cases g;obtain⟨m,x,E',gz,c',ρ',D',T,q1,Z,q3,q4,q5,q6,q7⟩:=h b c _ [] none K G U (Ou.start X) .nil trivial;obtain⟨M,C,r1,r2,r3,r4⟩:=zol q5 Z q7;obtain⟨D,as,s1,s2,s3⟩:=zkr r2 (q4.mono r3.le) L r4;have B:AR M (Uq D) (yp as):=by
         cases s2 with
         |nil=>exact .tup .nil
         |cons e es =>
          cases es with
          |nil=>exact e
          |cons e2 O=>exact .tup (.cons e (.cons e2 O))
        refine⟨m+1,yp as,M.H,?_,M,Uq D,C,rfl,r2,.trans U Z q3 r3,B,s3⟩;unfold S8;dsimp only;rw[H];dsimp only;unfold zhr;rw[I];dsimp only;rw[hb];dsimp only;rw[H7 (Ih A)];dsimp only;have Q:Nat.ble j.length fn.ntmps=true:=Ib (by rw[←X.length];exact hn);rw[Q];dsimp only;rw[q1];dsimp only;cases x with
        |exit id=>exact q6.elim
        |normal =>
         dsimp only;rw[r1];dsimp only;rw[s1];rcases as with _|⟨a,_|⟨a2,as⟩⟩<;>rfl
        |ret =>
         dsimp only;rw[r1];dsimp only;rw[s1];rcases as with _|⟨a,_|⟨a2,as⟩⟩<;>rfl
def vy{f:Nat}{s:LC}{n:Nat}{j:List RRes}(A:zvj P f=some ⟨n,s.r,j⟩)(g:s.ok=true)(B:zmx P f=true)(C:Xq P (.fn f))(k:Y (.bool true) F)
  (h:wp P f n none s [] [] F (rk j Y)):Rl P (.fn f) [] F Y:=by
 by_cases z:z9z P f
 ·exact zul C B z k
 ·exact zu6 A g (OL_not z) (K5 _) ((S1 s h).post λx E G D k=>by
   cases x with
   |normal=>exact⟨trivial,k⟩
   |exit i=>exact k.elim
   |ret=>exact⟨trivial,k⟩)
end top
end
section
def zud{l:List LV}(h:∀v∈l,v.dat=true):dats l=true:=by
 induction l with
 |nil=>rfl
 |cons v l g=>rw[dats,h v (I7 ..),g λw hw=>h w (Ik _ hw)];rfl
def ziq{l:List LV}(h:dats l=true):∀v∈l,v.dat=true:=by
 induction l with
 |nil=>intro v hv;cases hv
 |cons w l g =>
  rw[dats,Hy]at h;intro v hv;rcases If.1 hv with rfl|hv
  ·exact h.1
  ·exact g h.2 v hv
def zh9{l:List LV}(n:Nat)(h:dats l=true):dats (l.take n)=true:=zud λv hv=>ziq h v (Mj hv)
def zxn{l:List LV}(n:Nat)(h:dats l=true):dats (l.drop n)=true:=zud λv hv=>ziq h v (List.mem_of_mem_drop hv)
def ye{a b:List LV}(h:dats a=true)(k:dats b=true):dats (a++b)=true:=zud λv hv=>(Ir.1 hv).elim (ziq h v) (ziq k v)
def zw4{l r:List LV}{i:Nat}(h:dats l=true)(k:dats r=true):dats (Oq l i r)=true:=by
 unfold Oq;exact ye (ye (zh9 _ h) k) (zxn _ h)
def Nh{G x:M7}{i:Nat}(h:i<G.length):(G++x)[i]?=G[i]?:=H8 h
def O8(b:Nat)(G:M7)(v:LV)(esz n:Nat)(l:List LV):Prop :=
 (v=.nilSl∧n=0∧l=[])∨∃(p k:Nat) (g:List LV) (m st:Nat),b≤p∧G[p]?=some (.dyn g m esz k st)∧g.length=m*esz∧n≤m∧l=g.take (n*esz)∧dats g=true∧((v=.dy p k∧n=m)∨v=.vw p k 0 n)
section std
variable {b : Nat} {G G' : M7} {v : LV} {esz n : Nat} {l x : List LV}
def O8.nil:O8 b G .nilSl esz 0 []:=.inl ⟨rfl,rfl,rfl⟩
def O8.stk(h:O8 b G v esz n l):Stk b G v esz n l:=by
 rcases h with h|⟨p,k,R,m,st,h1,h2,h3,h4,h5,_,h6⟩
 ·exact .inl h
 ·exact .inr ⟨p,k,R,m,st,h1,h2,h3,h4,h5,h6⟩
def O8.dy{p k st:Nat}(hb:b≤p)(hp:G[p]?=some (.dyn l n esz k st))(hl:l.length=n*esz)(hd:dats l=true):O8 b G (.dy p k) esz n l :=
 .inr ⟨p,k,l,n,st,hb,hp,hl,Ia _,by rw[Im J],hd,.inl ⟨rfl,rfl⟩⟩
def O8.frame(h:O8 b G v esz n l)(hf:∀q,b≤q→q<G.length→G'[q]?=G[q]?):O8 b G' v esz n l:=by
 rcases h with h|⟨p,k,R,m,st,h1,h2,h3⟩
 ·exact .inl h
 ·exact .inr ⟨p,k,R,m,st,h1,by rw[hf p h1 (Hu.1 h2).1];exact h2,h3⟩
def O8.set_lt(h:O8 b G v esz n l){q:Nat}{ob:LObj}(hq:q<b):O8 b (G.set q ob) v esz n l :=
 h.frame λr hr _=>Hw J
def O8.push_end(h:O8 b G v esz n l){ob:List LObj}:O8 b (G++ob) v esz n l :=
 h.frame λ_ _ hr=>H8 hr
def O8.push(h:O8 b G v esz n l)(hz:0<esz)(hb:b≤G.length)(hn:n≤1000000000)(hx:x.length=esz)(gg:dats x=true){K:LV→M7→Prop}
  (k:∀(v':LV) (G':M7),O8 b G' v' esz (n+1) (l++x)→(∀q,q<b→G'[q]?=G[q]?)→G.length≤G'.length→(∀(q:Nat) (ob:LObj),(∀R m k st,ob≠LObj.dyn R m esz k st)→G[q]?=some ob→G'[q]?=some ob)→K v' G'):Ps G esz v 1 x K:=by
 have gA:=h.stk.length;have fresh:∀l',l'=l++x→dats l'=true→K (.dy G.length 0) (G++[.dyn l' (n+1) esz 0 0]):=by
  rintro l' rfl hd;refine k _ _ (.dy hb (st:=0) Il (by rw[H9,gA,hx,Iu];omega) hd) (λq hq=>H8 J) N (λq ob _ e=>Er)
 rcases h with ⟨rfl,rfl,rfl⟩|⟨p,gC,R,m,st,h0,h1,h2,h3,rfl,hd,⟨rfl,rfl⟩|rfl⟩
 ·rw[appL_nil];exact fresh _ rfl gg
 ·have hp:p<G.length:=(Hu.1 h1).1;rw[Im J]at k;rw[appL_dy,h1];refine⟨rfl,⟨rfl,hz⟩,hn,k _ _ (.dy h0 (H0 hp) Da (ye hd gg)) (λq hq=>Hw J) N (λq ob ho e=>?_)⟩;rw[Hw (λq'=>B3)];exact e
 ·have hp:p<G.length:=(Hu.1 h1).1;have hm:=Ii esz h3;have ha:(n+1)*esz=n*esz+esz:=by rw[Iu];omega
  rw[appL_vw,h1];refine⟨rfl,⟨rfl,rfl,J⟩,hn,?_⟩;by_cases hf:(n+1)*esz≤R.length
  ·rw[H7 hf];have gz:n+1≤m:=by
    rw[h2]at hf;exact Mv hf hz
   refine⟨k _ _ (.inr ⟨p,gC,_,m,_,h0,H0 hp,?_,gz,?_,zw4 hd gg,.inr rfl⟩) (λq hq=>Hw J) N (λq ob ho e=>?_),fresh _ rfl (ye (zh9 _ hd) gg)⟩
   ·unfold Oq;simp;omega
   ·unfold Oq;have e1:(R.take (n*esz)++x).length=(n+1)*esz:=by rw[H9,gA,hx,ha]
    rw[Kz e1]
   ·rw[Hw (λq'=>B3)];exact e
  ·rw[Hx hf];have gz:n=m:=by
    rw[h2]at hf;have:¬n+1≤m:=λq=>hf (Ii _ q)
    omega
   subst gz;have ht:R.take (n*esz)=R:=Im J;rw[ht]at k fresh;refine⟨rfl,hz,k _ _ (.dy h0 (H0 hp) Da (ye hd gg)) (λq hq=>Hw J) N (λq ob ho e=>?_),fresh _ rfl (ye hd gg)⟩;rw[Hw (λq'=>B3)];exact e
def O8.cut(h:O8 b G v esz n l){m:Nat}(hm:m≤n){lo:(Nat→Prop)→Prop}{hi:Nat→(Nat→Prop)→Prop}(gg:∀K':Nat→Prop,K' 0→lo K')(gz:∀(d:Nat) (K':Nat→Prop),K' m→hi d K'){K:LV→Prop}
  (k:∀v',O8 b G v' esz m (l.take (m*esz))→K v'):wx G esz v lo hi K:=by
 rcases h with ⟨rfl,rfl,rfl⟩|⟨p,gA,R,m',st,h0,h1,h2,h3,rfl,hd,⟨rfl,rfl⟩|rfl⟩
 ·have:m=0:=J
  subst this;rw[slL_nil];exact gg _ (gz _ _ ⟨rfl,rfl,k _ (.inl ⟨rfl,rfl,N⟩)⟩)
 ·rw[slL_dy,h1];refine⟨rfl,rfl,gg _ (gz _ _ ⟨J,hm,k _ (.inr ⟨p,gA,R,n,st,h0,h1,h2,hm,?_,hd,.inr rfl⟩)⟩)⟩;rw[My,J8 (Ii _ hm)]
 ·rw[slL_vw,h1];refine⟨rfl,rfl,gg _ (gz _ _ ⟨J,hm,k _ (.inr ⟨p,gA,R,m',st,h0,h1,h2,J,?_,hd,.inr rfl⟩)⟩)⟩;rw[My,J8 (Ii _ hm)]
def O8.bor(h:O8 b G v esz n l):Go.Sv.bor G v (.lst l n esz):=by
 rcases h with ⟨rfl,rfl,rfl⟩|⟨p,k,R,m,st,h1,h2,h3,h4,rfl,hd,⟨rfl,rfl⟩|rfl⟩
 ·exact .inr ⟨_,rfl⟩
 ·exact⟨R,_,_,_,by rw[Im J],h2,hd⟩
 ·have:=Ii esz h4;exact⟨R,_,_,_,by rw[K2,Km],h2,J,hd⟩
def O8.lenL(h:O8 b G v esz n l){K:Nat→Prop}(k:K n):Go.Sv.lenL G v K:=h.stk.lenL k
def O8.cells(h:O8 b G v esz n l):v.cells=some [v]:=h.stk.cells
def O8.at1(h:O8 b G v 1 n l){i:Int}(h0:0≤i)(hi:i<n){K:LV→Prop}(k:∀a,(∀K':LV→Prop,Py l i.toNat K'→cu G a K')→K a):l7 G 1 v i K:=by
 refine h.stk.ix h0 hi λp gg R m st h1 h2 h3 h4=>k _ λK' hk=>?_
 rw[read1_dptr,h2];obtain⟨w,hw,hk⟩:=hk;refine⟨rfl,w,?_,hk⟩;rw[Kw]at h3 ⊢;rw[h3 _ J];exact hw
def i7:LV→Option Nat
 |.dy p _=>some p
 |.vw p _ _ _=>some p
 |_=>none
def O8.frame2(h:O8 b G v esz n l)(hf:∀q,i7 v=some q→G'[q]?=G[q]?):O8 b G' v esz n l:=by
 rcases h with h|⟨p,k,R,m,st,h1,h2,h3,h4,h5,h6,h7⟩
 ·exact .inl h
 ·refine .inr ⟨p,k,R,m,st,h1,?_,h3,h4,h5,h6,h7⟩;rw[hf p (by rcases h7 with ⟨rfl,_⟩|rfl<;>rfl)];exact h2
def O8.row(h:O8 b G v esz n l){q:Nat}(hq:i7 v=some q):b≤q∧q<G.length∧∃R m k st,G[q]?=some (.dyn R m esz k st):=by
 rcases h with ⟨rfl,_⟩|⟨p,k,R,m,st,h1,h2,h3,h4,h5,h6,⟨rfl,_⟩|rfl⟩
 ·cases hq
 ·cases hq;exact⟨h1,(Hu.1 h2).1,_,_,_,_,h2⟩
 ·cases hq;exact⟨h1,(Hu.1 h2).1,_,_,_,_,h2⟩
def O8.cut2(h:O8 b G v esz n l){m:Nat}(hm:m≤n){lo:(Nat→Prop)→Prop}{hi:Nat→(Nat→Prop)→Prop}(gg:∀K':Nat→Prop,K' 0→lo K')(gz:∀(d:Nat) (K':Nat→Prop),K' m→hi d K'){K:LV→Prop}
  (k:∀v',O8 b G v' esz m (l.take (m*esz))→i7 v'=i7 v→K v'):wx G esz v lo hi K:=by
 rcases h with ⟨rfl,rfl,rfl⟩|⟨p,gA,R,m',st,h0,h1,h2,h3,rfl,hd,⟨rfl,rfl⟩|rfl⟩
 ·have:m=0:=J
  subst this;rw[slL_nil];exact gg _ (gz _ _ ⟨rfl,rfl,k _ (.inl ⟨rfl,rfl,N⟩) rfl⟩)
 ·rw[slL_dy,h1];refine⟨rfl,rfl,gg _ (gz _ _ ⟨J,hm,k _ (.inr ⟨p,gA,R,n,st,h0,h1,h2,hm,?_,hd,.inr rfl⟩) rfl⟩)⟩;rw[My,J8 (Ii _ hm)]
 ·rw[slL_vw,h1];refine⟨rfl,rfl,gg _ (gz _ _ ⟨J,hm,k _ (.inr ⟨p,gA,R,m',st,h0,h1,h2,J,?_,hd,.inr rfl⟩) rfl⟩)⟩;rw[My,J8 (Ii _ hm)]
def O8.push2(h:O8 b G v esz n l)(hz:0<esz)(hb:b≤G.length)(hn:n≤1000000000)(hx:x.length=esz)(gg:dats x=true){K:LV→M7→Prop}
  (k:∀(v':LV) (G':M7),O8 b G' v' esz (n+1) (l++x)→(∀q,q<G.length→i7 v≠some q→G'[q]?=G[q]?)→G.length≤G'.length→(i7 v'=i7 v∨i7 v'=some G.length)→K v' G'):Ps G esz v 1 x K:=by
 have gA:=h.stk.length;have fresh:∀l',l'=l++x→dats l'=true→K (.dy G.length 0) (G++[.dyn l' (n+1) esz 0 0]):=by
  rintro l' rfl hd;refine k _ _ (.dy hb (st:=0) Il (by rw[H9,gA,hx,Iu];omega) hd) (λq hq _=>H8 hq) N (.inr rfl)
 rcases h with ⟨rfl,rfl,rfl⟩|⟨p,gC,R,m,st,h0,h1,h2,h3,rfl,hd,⟨rfl,rfl⟩|rfl⟩
 ·rw[appL_nil];exact fresh _ rfl gg
 ·have hp:p<G.length:=(Hu.1 h1).1;rw[Im J]at k;rw[appL_dy,h1];refine⟨rfl,⟨rfl,hz⟩,hn,k _ _ (.dy h0 (H0 hp) Da (ye hd gg)) (λq _ hq=>Hw (λe=>hq (by rw[←e];rfl))) N (.inl rfl)⟩
 ·have hp:p<G.length:=(Hu.1 h1).1;have hm:=Ii esz h3;have ha:(n+1)*esz=n*esz+esz:=by rw[Iu];omega
  rw[appL_vw,h1];refine⟨rfl,⟨rfl,rfl,J⟩,hn,?_⟩;by_cases hf:(n+1)*esz≤R.length
  ·rw[H7 hf];have gz:n+1≤m:=by
    rw[h2]at hf;exact Mv hf hz
   refine⟨k _ _ (.inr ⟨p,gC,_,m,_,h0,H0 hp,?_,gz,?_,zw4 hd gg,.inr rfl⟩) (λq _ hq=>Hw (λe=>hq (by rw[←e];rfl))) N (.inl rfl),fresh _ rfl (ye (zh9 _ hd) gg)⟩
   ·unfold Oq;simp;omega
   ·unfold Oq;have e1:(R.take (n*esz)++x).length=(n+1)*esz:=by rw[H9,gA,hx,ha]
    rw[Kz e1]
  ·rw[Hx hf];have gz:n=m:=by
    rw[h2]at hf;have:¬n+1≤m:=λq=>hf (Ii _ q)
    omega
   subst gz;have ht:R.take (n*esz)=R:=Im J;rw[ht]at k fresh;refine⟨rfl,hz,k _ _ (.dy h0 (H0 hp) Da (ye hd gg)) (λq _ hq=>Hw (λe=>hq (by rw[←e];rfl))) N (.inl rfl),fresh _ rfl (ye hd gg)⟩
end std
end
section
section deep
variable {P : Program}
def R7.mkS{f:Nat}{args:List LV}{v0:LV}(hd:v0.dat=true)(h:Rl P (.fn f) args [] λv G=>∀(c:Cx) (a:AV),HSim c G→AR c v a→AR ⟨[],λo=>c.Fz o∨Pv c G o,c.H⟩ v0 a):R7 P f args v0:=by
 refine⟨h.1,hd,λFz H gg gA ha=>?_⟩;obtain⟨m,v1,H',q1,c1,v,G,rfl,q3,q4,q5,q6⟩:=h.2 ⟨[],Fz,H⟩ (.fn f) gg (.empty gA) rfl ha;have gz:∀o,¬Pv ⟨[],Fz,H⟩ [] o:=λo ⟨p,_,_,_,e,_⟩=>Cl
 refine⟨m,v1,_,c1.H,q1,q4.nx,λo ho=>.inl (q4.le.fz o ho).1,λo ho=>⟨ho.elim (q3.fz o) (q3.lt o),?_⟩,λo ho=>q4.frame o ho (gz o),q6 c1 v1 q3 q5⟩;rcases ho with ho|ho
 ·rcases q4.fznew o ho with h|h|h
  ·exact .inl h
  ·exact absurd h (gz o)
  ·exact .inr h
 ·rcases q4.new o ho with h|h
  ·exact absurd h (gz o)
  ·exact .inr h
def row_ok{c:Cx}(E:HSim c F){p k len st:Nat}{l r:List LV}{a:AV}(G:F[p]?=some (.dyn l len g k st))(B:bors F l r)(h:AR c (.dy p k) a):AR ⟨[],λo=>c.Fz o∨Pv c F o,c.H⟩ (.lst r len g) a:=by
 cases h with
 | @dy _ _ X Y _ e Z Q _ =>
  obtain⟨r0,H,z⟩:=E.obj p _ _ _ G e;have A:=Q J;rcases z with ⟨z,C⟩|⟨o,v,I,t,K,L,z,C,R,T,M,U,r8⟩
  ·subst C;have V:l=[]:=Ip Bt;subst V;simp only[bors]at B;subst B;rw[A,z];exact .lstNil
  ·have D:L.length=len*g:=by rw[←M.length];exact H
   have O:=W3 (i:=0) (n:=len*g) C T R J;rw[Km,Im J]at O;rw[A,z];have j:=bors_ok E l r L B M;refine .lst (.inr ⟨p,_,_,_,G,rfl,e,by rw[z];rfl⟩) (λr e=>(U r e).2) (by rw[j.length,D]) O j
def tup3_ok{c:Cx}(z:HSim c F){p k len st:Nat}{l r:List LV}{v d:LV}{x:LV}{a:AV}(A:F[p]?=some (.dyn l len g k st))(B:bors F l r)(hv:bor F v d)(C:bor F x x)(h:AR c (.tup [.dy p k,v,x]) a):AR ⟨[],λo=>c.Fz o∨Pv c F o,c.H⟩ (.tup [.lst r len g,d,x]) a:=by
 cases h with
 |tup h=>cases h with
  |cons e j=>cases j with
   |cons D j=>cases j with
    |cons E j =>
     cases j;exact .tup (.cons (row_ok z A B e) (.cons (bor_ok z v d _ hv D) (.cons (bor_ok z x x _ C E) .nil)))
end deep
end
section
def Qn(b:Nat)(G:M7)(v:LV)(esz n:Nat)(l:List LV):Prop :=
 dats l=true∧l.length=n*esz∧((v=.nilSl∧n=0∧l=[])∨∃(p k st:Nat),b≤p∧v=.dy p k∧G[p]?=some (.dyn l n esz k st))
section dys
variable {b : Nat} {G G' : M7} {v : LV} {esz n : Nat} {l x : List LV}
def Qn.nil:Qn b G .nilSl esz 0 []:=⟨rfl,N,.inl ⟨rfl,rfl,rfl⟩⟩
def Qn.frame(h:Qn b G v esz n l)(hf:∀q,b≤q→q<G.length→G'[q]?=G[q]?):Qn b G' v esz n l:=by
 obtain⟨h1,h2,h|⟨p,k,st,a,e,c⟩⟩:=h
 ·exact⟨h1,h2,.inl h⟩
 ·exact⟨h1,h2,.inr ⟨p,k,st,a,e,by rw[hf p a (Hu.1 c).1];exact c⟩⟩
def Qn.set_lt(h:Qn b G v esz n l){q:Nat}{ob:LObj}(hq:q<b):Qn b (G.set q ob) v esz n l :=
 h.frame λr hr _=>Hw J
def Qn.push_end(h:Qn b G v esz n l){ob:List LObj}:Qn b (G++ob) v esz n l :=
 h.frame λ_ _ hr=>H8 hr
def Qn.cells(h:Qn b G v esz n l):v.cells=some [v]:=by
 obtain⟨_,_,⟨rfl,_⟩|⟨p,k,st,_,rfl,_⟩⟩:=h<;>rfl
def Qn.push{c:Nat}(h:Qn b G v esz n l)(hz:0<esz)(hb:b≤G.length)(hn:n≤1000000000)(hx:x.length=c*esz)(gg:dats x=true){K:LV→M7→Prop}
  (k:∀(v':LV) (G':M7),Qn b G' v' esz (n+c) (l++x)→(∀q,q<b→G'[q]?=G[q]?)→G.length≤G'.length→K v' G'):Ps G esz v c x K:=by
 obtain⟨h1,h2,h⟩:=h;have hl:(l++x).length=(n+c)*esz:=by rw[H9,h2,hx,Iu]
 rcases h with ⟨rfl,rfl,rfl⟩|⟨p,gz,st,a,rfl,e⟩
 ·rw[appL_nil];refine k _ _ ⟨by simpa using gg,hl,.inr ⟨G.length,0,0,hb,rfl,?_⟩⟩ (λq hq=>H8 J) N;rw[Il];simp
 ·have hp:=(Hu.1 e).1;rw[appL_dy,e];exact⟨rfl,⟨rfl,hz⟩,hn,k _ _ ⟨dats_app h1 gg,hl,.inr ⟨p,gz+1,st+1,a,rfl,H0 hp⟩⟩ (λq hq=>Hw J) N⟩
def Qn.bor(h:Qn b G v esz n l):Go.Sv.bor G v (.lst l n esz):=by
 obtain⟨h1,h2,⟨rfl,rfl,rfl⟩|⟨p,k,st,a,rfl,e⟩⟩:=h
 ·exact .inr ⟨_,rfl⟩
 ·exact⟨l,n,esz,st,rfl,e,h1⟩
end dys
end
section
section dys
variable {b : Nat} {G G' : M7} {v : LV} {esz n : Nat} {l x : List LV}
def Qn.push2{c:Nat}(h:Qn b G v esz n l)(hz:0<esz)(hb:b≤G.length)(hn:n≤1000000000)(hx:x.length=c*esz)(j:dats x=true){K:LV→M7→Prop}
  (k:∀(v':LV) (G':M7),Qn b G' v' esz (n+c) (l++x)→(∀q,q<G.length→(∀gz,v≠.dy q gz)→G'[q]?=G[q]?)→G.length≤G'.length→(∀q gz,v'=.dy q gz→q=G.length∨∃j',v=.dy q j')→(∀q gz,v'=.dy q gz→q<G'.length)→K v' G'):Ps G esz v c x K:=by
 obtain⟨h1,h2,h⟩:=h;have hl:(l++x).length=(n+c)*esz:=by rw[H9,h2,hx,Iu]
 rcases h with ⟨rfl,rfl,rfl⟩|⟨p,gg,st,a,rfl,e⟩
 ·rw[appL_nil];refine k _ _ ⟨Bs,hl,.inr ⟨G.length,0,0,hb,rfl,?_⟩⟩ (λq hq _=>H8 J) N (λq gz e=>by cases e;exact .inl rfl) (λq gz e=>by cases e;simp);rw[Il];simp
 ·have hp:=(Hu.1 e).1;rw[appL_dy,e];exact⟨rfl,⟨rfl,hz⟩,hn,k _ _ ⟨dats_app h1 j,hl,.inr ⟨p,gg+1,st+1,a,rfl,H0 hp⟩⟩ (λq hq hv=>Hw (λq'=>hv gg (by rw[q']))) N (λq gz e=>by cases e;exact .inr ⟨_,rfl⟩) (λq gz e=>by cases e;simpa using hp)⟩
def Qn.keep(h:Qn b G v esz n l)(hf:∀q gg,v=.dy q gg→G'[q]?=G[q]?):Qn b G' v esz n l:=by
 obtain⟨j,h2,h|⟨p,k,st,a,e,c⟩⟩:=h
 ·exact⟨j,h2,.inl h⟩
 ·exact⟨j,h2,.inr ⟨p,k,st,a,e,by rw[hf p k e];exact c⟩⟩
def Qn.lt(h:Qn b G v esz n l){q:Nat}(e:v=.dy q j):b≤q∧q<G.length:=by
 obtain⟨_,_,⟨h,_⟩|⟨p,k,st,a,e2,c⟩⟩:=h
 ·rw[h]at e;cases e
 ·rw[e2]at e;cases e;exact⟨a,(Hu.1 c).1⟩
end dys
end
section
def Yo:Nat→LC→LC×LC
 |0,.seq a b=>(a,b)
 |n+1,.seq a b=>(.seq a (Yo n b).1,(Yo n b).2)
 |_,s=>(s,.skip)
def qx:Nat→LC→Bool
 |0,.seq _ _=>true
 |n+1,.seq _ b=>qx n b
 |_,_=>false
section Yo
variable {P : Program} {f n : Nat} {ro : Option Nat}
def d8{E:Qi}{Φ:M9→List Nat→M7→Prop}:∀(k:Nat) (s:LC) {B:M9} {D:List Nat} {C:M7},qx k s=true →
  (F:∀G:M9→List Nat→M7→Prop,(∀(g:M9) (j:List Nat) (z:M7),Φ g j z→G g j z)→wp P f n ro (Yo k s).1 B D C (nxQ G E)) →
  (H:∀(g:M9) (j:List Nat) (z:M7),Φ g j z→W P f n (Yo k s).2 ro g j z E)→W P f n s ro B D C E:=by
 suffices K:∀(k:Nat) (s:LC) {B:M9} {D:List Nat} {C:M7},qx k s=true→wp P f n ro (Yo k s).1 B D C (nxQ (λg j z=>W P f n (Yo k s).2 ro g j z E) E)→W P f n s ro B D C E from
  λk s B D C A F H=>K k s A (F _ H)
 intro k
 induction k with
 |zero =>
  intro s B D C A h;cases s with
  |seq a b =>
   refine py ((S1 a h).post λx g j z q=>?_);cases x<;>exact q
  |_=>simp[qx]at A
 |succ k I =>
  intro s B D C A h;cases s with
  |seq a b =>
   simp only[Yo]at h;rw[wp_seq]at h;refine py ((S1 a h).post λx g j z q=>?_);cases x with
   |normal=>exact I b A q
   |_=>exact q
  |_=>simp[qx]at A
def W_fz{s:LC}{I:M9}{D:List Nat}{gg:Qi}{t p k len st:Nat}{l:List LV}(K:F[p]?=some (.dyn l len g k st))(L:lk I t=.dy p k)(h:W P f n s ro ((t,.lst l len g)::I) D (F.set p (.dead (st+1))) gg):W P f n s ro I D F gg:=by
 intro j c gz M z O Q C E R T;obtain⟨G,H,U,A,u4,V,X,u6⟩:=C.froze K;have Y:Ou G ((t,.lst l len g)::I) gz:=λx=>by
  by_cases e:x=t
  ·subst e;have:=E x;rw[L]at this;simpa using X _ this
  ·have:=(E x).mono A;simpa [e] using this
 obtain⟨m,x,Z,B,c',ρ',D',G',q1,q2,q3,q4,q5,q6⟩:=h j G gz M z O Q H Y (R.mono A) (T.mono A);exact⟨m,x,Z,B,c',ρ',D',G',V ▸ q1,q2,U.trans C H q3,q4,q5,q6⟩
def zx6{s:LC}{j:List RRes}(z:Ng P f=some ⟨n,s.r,j⟩)(g:s.ok=true)(A:E.length≤n)(h:W P f n s none (ma E 0) [] F (rk j Y)):Rl P (.fn f) E F Y :=
 zn7 z g A (h.post λx C D B k=>by
  cases x with
  |normal=>exact⟨trivial,k⟩
  |exit i=>exact k.elim
  |ret=>exact⟨trivial,k⟩)
end Yo
end
section
def Xt(b:Nat)(G:M7)(v:LV)(esz n:Nat)(l:List LV):Prop :=
 l.length=n*esz∧((v=.nilSl∧n=0∧l=[])∨∃(p k st:Nat),b≤p∧v=.dy p k∧G[p]?=some (.dyn l n esz k st))
section dys
variable {b : Nat} {G G' : M7} {v : LV} {esz n : Nat} {l x : List LV}
def Xt.nil:Xt b G .nilSl esz 0 []:=⟨N,.inl ⟨rfl,rfl,rfl⟩⟩
def Xt.keep(h:Xt b G v esz n l)(hf:∀q gg,v=.dy q gg→G'[q]?=G[q]?):Xt b G' v esz n l:=by
 obtain⟨j,h|⟨p,k,st,a,e,c⟩⟩:=h
 ·exact⟨j,.inl h⟩
 ·exact⟨j,.inr ⟨p,k,st,a,e,by rw[hf p k e];exact c⟩⟩
def Xt.lt(h:Xt b G v esz n l){q:Nat}(e:v=.dy q j):b≤q∧q<G.length:=by
 obtain⟨_,⟨h,_⟩|⟨p,k,st,a,e2,c⟩⟩:=h
 ·rw[h]at e;cases e
 ·rw[e2]at e;cases e;exact⟨a,(Hu.1 c).1⟩
def Xt.push_end(h:Xt b G v esz n l){ob:List LObj}:Xt b (G++ob) v esz n l :=
 h.keep λ_ _ e=>H8 (h.lt e).2
def Xt.push{c:Nat}(h:Xt b G v esz n l)(hz:0<esz)(hb:b≤G.length)(hn:n≤1000000000)(hx:x.length=c*esz){K:LV→M7→Prop}
  (k:∀(v':LV) (G':M7),Xt b G' v' esz (n+c) (l++x)→(∀q,q<G.length→(∀gg,v≠.dy q gg)→G'[q]?=G[q]?)→G.length≤G'.length→(∀q gg,v'=.dy q gg→q=G.length∨∃j',v=.dy q j')→K v' G'):Ps G esz v c x K:=by
 obtain⟨h2,h⟩:=h;have hl:(l++x).length=(n+c)*esz:=by rw[H9,h2,hx,Iu]
 rcases h with ⟨rfl,rfl,rfl⟩|⟨p,j,st,a,rfl,e⟩
 ·rw[appL_nil];refine k _ _ ⟨hl,.inr ⟨G.length,0,0,hb,rfl,?_⟩⟩ (λq hq _=>H8 J) N (λq gg e=>by cases e;exact .inl rfl);rw[Il];simp
 ·have hp:=(Hu.1 e).1;rw[appL_dy,e];exact⟨rfl,⟨rfl,hz⟩,hn,k _ _ ⟨hl,.inr ⟨p,j+1,st+1,a,rfl,H0 hp⟩⟩ (λq hq hv=>Hw (λq'=>hv j (by rw[q']))) N (λq gg e=>by cases e;exact .inr ⟨_,rfl⟩)⟩
end dys
section fz
variable {P : Program} {f n : Nat} {ro : Option Nat}
def W_fzD{s:LC}{O:M9}{D:List Nat}{G:M7}{gg:Qi}{a b:List LV}{p q k len esz st:Nat}{l:List LV}(R:G[p]?=some (.dyn l len esz k st))(B:G[q]?=some (.dyn (a++.dy p k::b) j A Q g))(C:p≠q)
  (h:W P f n s ro O D ((G.set p (.dead (st+1))).set q (.dyn (a++.lst l len esz::b) j A Q (g+1))) gg):W P f n s ro O D G gg:=by
 intro z c gz T E U V F X Y Z;obtain⟨K,L,u2,H,u4,u7,u5,u6⟩:=F.froze R;obtain⟨M,w2⟩:=L.sub (p:=q) (st:=g) (l:=a++.dy p k::b) (l':=a++.lst l len esz::b) (len:=j) (esz:=A) (ver:=Q) (by rw[Hw C];exact B) λr hr=>ARs.put ⟨λp k h e=>⟨k,h,e,Ia _,λ_=>rfl,λ_=>rfl⟩,λq B=>⟨B,rfl⟩⟩ u6 hr
 have e4:Ou K O gz:=λx=>(X x).mono H
 obtain⟨m,x,E',I,c',ρ',D',G',q1,q2,q3,q4,q5,q6⟩:=h z K gz T E U V M e4 (Y.mono H) (Z.mono H);exact⟨m,x,E',I,c',ρ',D',G',u7 ▸ q1,q2,(u2.trans F L w2).trans F M q3,q4,q5,q6⟩
end fz
end
def V4{n:Nat}(h:n<18446744073709551616):(iU (n:Int)).toNat=n:=by
 rw[wh,UInt64.ofInt,Je];omega
def val:List UInt64→Nat
 |[]=>0
 |x::l=>x.toNat+18446744073709551616*val l
def z9k(n:Nat):2^(64*(n+1))=18446744073709551616*2^(64*n):=by
 rw[Lk,Kq,Jt]
def val_append:∀a b:List UInt64,val (a++b)=val a+2^(64*a.length)*val b
 |[],b=>Cg
 |x::a,b=>by
  rw[I6,val,val,val_append a b,Ig,z9k,Lk,Kf];omega
def val_lt:∀a:List UInt64,val a<2^(64*a.length)
 |[]=>Cg
 |x::a=>by
  have g:=x.toNat_lt;have j:=val_lt a;rw[val,Ig,z9k];omega
def znm(x:UInt64):val [x]=x.toNat:=Cg
def zvy(a:List UInt64)(x:UInt64):val (a++[x])=val a+2^(64*a.length)*x.toNat:=by
 rw[val_append,znm]
def val_rep0:∀n,val (List.replicate n 0)=0
 |0=>rfl
 |n+1=>by rw[K0,val,val_rep0 n];rfl
def zdw{a:List UInt64}{n:Nat}(h:n<a.length):a.take (n+1)=a.take n++[a.getD n 0]:=by
 rw[Jg h];simp[h]
def zan{a:List UInt64}{n:Nat}(h:n<a.length):val (a.take (n+1))=val (a.take n)+2^(64*n)*(a.getD n 0).toNat:=by
 rw[zdw h,zvy,J4,J8 J]
def Xc:Nat→Nat→List UInt64
 |0,_=>[]
 |f+1,n=>if n=0 then [] else UInt64.ofNat n::Xc f (n/18446744073709551616)
def O4(n:Nat):List UInt64:=Xc n n
def toLf_more:∀(f j n:Nat),n≤f→n≤j→Xc f n=Xc j n
 |0,0,_,_,_=>rfl
 |0,j+1,n,h,_=>by
  have:n=0:=J
  subst this;simp[Xc]
 |f+1,0,n,_,h=>by
  have:n=0:=J
  subst this;simp[Xc]
 |f+1,j+1,n,z,A=>by
  simp only[Xc];by_cases g:n=0
  ·simp[g]
  ·rw[Hx g,Hx g,toLf_more f j (n/18446744073709551616) J J]
def toL_zero:O4 0=[]:=rfl
def zgx{n:Nat}(h:n≠0):O4 n=UInt64.ofNat n::O4 (n/18446744073709551616):=by
 unfold O4;cases n with
 |zero=>exact absurd rfl h
 |succ n =>
  rw[Xc,Hx h,toLf_more n ((n+1)/18446744073709551616) _ J (Ia _)]
def X5(n:Nat):val (O4 n)=n:=by
 induction n using Nat.strongRecOn with
 |_ n g =>
  by_cases h:n=0
  ·subst h;rfl
  ·rw[zgx h,val,g _ J,Je];omega
def Trm(l:List UInt64):Prop:=l=[]∨l.getLast?.getD 0≠0
def zwc{x:UInt64}{l:List UInt64}(h:Trm (x::l)):Trm l:=by
 cases l with
 |nil=>exact .inl rfl
 |cons y l =>
  rcases h with h|h
  ·cases h
  ·exact .inr (by simpa [List.getLast?_cons_cons] using h)
def val_pos_of_Trm:∀{l:List UInt64},l≠[]→Trm l→val l≠0
 |[],h,_=>absurd rfl h
 |[x],_,h=>by
  rcases h with h|h
  ·cases h
  ·simp at h;rw[znm];intro e;exact h (I3.1 e)
 |x::y::l,_,h=>by
  have:=val_pos_of_Trm (l:=y::l) N (zwc h);rw[val];omega
def toL_val:∀{l:List UInt64},Trm l→O4 (val l)=l
 |[],_=>rfl
 |x::l,h=>by
  have g:=val_pos_of_Trm N h;rw[zgx g];have A:=x.toNat_lt;have j:UInt64.ofNat (val (x::l))=x:=by
   apply I3.1;rw[Je,val];omega
  have z:val (x::l)/18446744073709551616=val l:=by rw[val];omega
  rw[j,z,toL_val (zwc h)]
def ui{l:List UInt64}{x:UInt64}(h:x≠0):Trm (l++[x]):=.inr Ax
def zs(n:Nat):Trm (O4 n):=by
 induction n using Nat.strongRecOn with
 |_ n j =>
  by_cases h:n=0
  ·subst h;exact .inl rfl
  ·rw[zgx h];have:=j (n/18446744073709551616) J;by_cases g:n/18446744073709551616=0
   ·rw[g,toL_zero];refine .inr ?_;simp;intro e;have:=congrArg UInt64.toNat e;rw[Je]at this;simp at this;omega
   ·rw[zgx g]at this ⊢;rcases this with e|e
    ·cases e
    ·exact .inr (by simpa [List.getLast?_cons_cons] using e)
def z2c{n k:Nat}(h:n<2^(64*k)):(O4 n).length≤k:=by
 induction k generalizing n with
 | zero => have : n = 0 := by simpa using h
           subst this;simp[toL_zero]
 |succ k j =>
  by_cases g:n=0
  ·subst g;simp[toL_zero]
  ·rw[zgx g,Ig];have:=j (n:=n/18446744073709551616) (by rw[z9k]at h;exact Nat.div_lt_of_lt_mul h);omega
def z6k(a:List UInt64):(O4 (val a)).length≤a.length:=z2c (val_lt a)
def zyl{n:Nat}:O4 n=[]↔n=0:=⟨λh=>by rw[←X5 n,h];rfl,λh=>by rw[h];rfl⟩
def val_inj_length:∀{a b:List UInt64},a.length=b.length→val a=val b→a=b
 |[],[],_,_=>rfl
 |[],_::_,h,_=>Bq
 |_::_,[],h,_=>Bq
 |x::a,y::b,h,e=>by
  have z:=x.toNat_lt;have A:=y.toNat_lt;rw[val,val]at e;have g:x.toNat=y.toNat:=J
  have j:val a=val b:=J
  rw[I3.1 g,val_inj_length Ax j]
def RU(l:List UInt64):LObj:=.dyn (l.map .u) l.length 1 0 0
def Se(g:M7)(v:LV)(l:List UInt64):Prop:=(v=.nilSl∧l=[])∨∃p k st,v=.dy p k∧g[p]?=some (.dyn (l.map .u) l.length 1 k st)
def Se.sel{G:M7}{v:LV}{l:List UInt64}(h:Se G v l):V5 G [v] [RU l]:=by
 rcases h with ⟨rfl,rfl⟩|⟨p,k,st,rfl,hg⟩
 ·simp[RU]
 ·simp[RU,hg]
def RU_ok{l:List UInt64}:∀(z:Nat) (g:LObj),[RU l][z]?=some g→∃c len j,g=.dyn c len j 0 0∧c.all LV.scal=true:=by
 intro z g e;cases z with
 |zero=>simp at e;subst e;exact⟨_,_,_,rfl,N⟩
 |succ z=>simp at e
def RU_ok2{l r:List UInt64}:∀(z:Nat) (g:LObj),[RU l,RU r][z]?=some g→∃c len j,g=.dyn c len j 0 0∧c.all LV.scal=true:=by
 intro z g e
 match z with
 |0=>simp at e;subst e;exact⟨_,_,_,rfl,N⟩
 |1=>simp at e;subst e;exact⟨_,_,_,rfl,N⟩
 |z+2=>simp at e
def Of.row{P:Program}{f:Nat}{args:List LV}{l:List UInt64}(h:Rl P (.fn f) args [] λv G=>Se G v l):Of P f args (.dy 0 0) [RU l] :=
 Of.mk rfl (h.mono λv G e=>⟨[v],N,rfl,e.sel⟩) RU_ok
def Of.rowE{P:Program}{f:Nat}{args:List LV}{l:List UInt64}{e:Int}(h:Rl P (.fn f) args [] λv G=>∃w,v=.tup [w,.i e]∧Se G w l):Of P f args (.tup [.dy 0 0,.i e]) [RU l] :=
 Of.mk rfl (h.mono λv G ⟨w,e1,e2⟩=>⟨[w],by simp[e1],rfl,e2.sel⟩) RU_ok
def Of.row2E{P:Program}{f:Nat}{args:List LV}{l r:List UInt64}{e:Int}(h:Rl P (.fn f) args [] λv G=>∃w w',v=.tup [w,w',.i e]∧Se G w l∧Se G w' r∧∀p k,w=.dy p k→notP p w'):Of P f args (.tup [.dy 0 0,.dy 1 0,.i e]) [RU l,RU r] :=
 Of.mk rfl (h.mono λv G ⟨w,w',e1,e2,e3,e4⟩=>⟨[w,w'],by simp[e1],rfl,by
  have h3:=e3.sel;rcases e2 with ⟨rfl,rfl⟩|⟨p,k,st,rfl,hg⟩
  ·simp only[V5,RU]at h3 ⊢;exact⟨N,N,N,N,h3⟩
  ·have h4:=e4 p k rfl;simp only[V5,RU,M1,forall_eq]at h3 ⊢;exact⟨N,N,⟨st,hg⟩,N,h4,h3⟩⟩) RU_ok2
def Nr(a b:UInt64):Bool→UInt64×Bool
 |false=>(a+b,decide (a+b<a))
 |true=>(a+b+1,decide (a+b<a) || decide (a+b+1=0))
def Ov(a b:UInt64):Bool→UInt64×Bool
 |false=>(a-b,decide (a<b))
 |true=>(a-b-1,decide (a<b) || decide (a-b=0))
def z82(x:UInt64):x=0↔x.toNat=0:=⟨λh=>by rw[h];rfl,λh=>I3.1 (by rw[h];rfl)⟩
def zqt(b:Bool):b.toNat=if b=true then 1 else 0:=by cases b<;>rfl
def z99(a b:UInt64)(c:Bool):(Nr a b c).1.toNat+18446744073709551616*(Nr a b c).2.toNat=a.toNat+b.toNat+c.toNat:=by
 have g:=a.toNat_lt;have j:=b.toNat_lt;cases c with
 |false =>
  simp only[Nr,zqt,Ic,Jm,Jk];split<;>simp<;>omega
 |true =>
  simp only[Nr,zqt,Jd,Ic,Jm,z82,Jk,UInt64.toNat_one];split<;>simp<;>omega
def zdi(a b:UInt64)(c:Bool):(Ov a b c).1.toNat+b.toNat+c.toNat=a.toNat+18446744073709551616*(Ov a b c).2.toNat:=by
 have j:=a.toNat_lt;have z:=b.toNat_lt;cases c with
 |false =>
  have e:(Ov a b false).2=decide (a.toNat<b.toNat):=by simp[Ov,Jm]
  rw[e];simp only[Ov,Lt];by_cases h:a.toNat<b.toNat<;>simp[h]<;>omega
 |true =>
  have e:(Ov a b true).2=decide (a.toNat≤b.toNat):=by
   simp only[Ov,Jm,z82,Lt];by_cases h:a.toNat≤b.toNat
   ·by_cases g:a.toNat<b.toNat
    ·simp[h,g]
    ·have:a.toNat=b.toNat:=J
     simp[this];omega
   ·simp[h];omega
  rw[e];simp only[Ov,Lt,UInt64.toNat_one];by_cases h:a.toNat≤b.toNat<;>simp[h]<;>omega
def gapp{p:Nat}{g:LObj}(h:F[p]?=some g)(x:M7):(F++x)[p]?=some g:=by
 rw[H8 (Hu.1 h).1];exact h
def gset{p:Nat}{j:LObj}(h:F[p]?=some j)(g:LObj):(F.set p g)[p]?=some g:=H0 (Hu.1 h).1
def zx{p q:Nat}(h:q≠p)(g:LObj):(F.set p g)[q]?=F[q]?:=Hw (Ne.symm h)
def Se.app{G:M7}{v:LV}{l:List UInt64}(h:Se G v l)(x:M7):Se (G++x) v l:=by
 rcases h with h|⟨p,k,st,h1,h2⟩
 ·exact .inl h
 ·exact .inr ⟨p,k,st,h1,gapp h2 x⟩
def flat_u(l:List UInt64):l.flatMap (λx=>[LV.u x])=l.map .u:=by
 induction l with
 |nil=>rfl
 |cons x l g=>simp[g]
def zw0{v:LV}{l xs:List UInt64}{n:Nat}(h:Se F v l)(I:n=xs.length)(g:E=xs.map .u)(K:l.length≤1000000000)
  (k:∀C D,Se D C (l++xs)→(∀(q:Nat) (A:LObj),F[q]?=some A→(∀k,v≠.dy q k)→D[q]?=some A∧∀k,C≠.dy q k)→Y C D):Ps F 1 v n E Y:=by
 subst I g;rcases h with ⟨rfl,rfl⟩|⟨p,j,st,rfl,H⟩
 ·refine k _ _ (.inr ⟨F.length,0,0,rfl,N⟩) (λq A B _=>⟨gapp B _,λk e=>?_⟩);cases e;have:=(Hu.1 B).1;omega
 ·simp only[Ps,H];refine⟨N,⟨N,N⟩,D0,k _ _ (.inr ⟨p,j+1,st+1,rfl,by rw[gset H];simp⟩) (λq A B G=>?_)⟩;have z:q≠p:=λe=>G j Ez
  exact⟨by rw[zx z];exact B,λk e=>by cases e;exact z rfl⟩
def Se.bor{G:M7}{v:LV}{l:List UInt64}(h:Se G v l):bor G v (LU l):=by
 rcases h with ⟨rfl,rfl⟩|⟨p,k,st,rfl,hg⟩
 ·exact .inr ⟨1,N⟩
 ·exact⟨_,_,_,st,rfl,hg,N⟩
def zyd{v d:LV}(h:Go.Sv.bor F v d):bors F [v] [d]:=⟨d,[],rfl,h,rfl⟩
def cw{v d g:LV}(h:Go.Sv.bor F v d)(j:Go.Sv.bor F O g):bors F [v,O] [d,g]:=⟨d,_,rfl,h,zyd j⟩
def Se.new{G:M7}{l:List UInt64}:Se (G++[RU l]) (.dy G.length 0) l:=.inr ⟨G.length,0,0,rfl,Eh⟩
def z9x{f:Nat}{l:List UInt64}(g:Of C f vY (.dy 0 0) [RU l])(j:bors F E vY)(k:Y (.dy F.length 0) (F++[RU l])):Rl C (.fn f) E F Y :=
 zf9 g j (by simpa using k)
def z38{a:List UInt64}{n:Nat}(h:a.length≤n):val (a.take n)=val a:=by rw[Im h]
def z5c{a:List UInt64}{n:Nat}(h:a.length≤n):val a<2^(64*n):=I0 (val_lt a) (Kj J J)
def Xy(m:Nat):2^(64*(m+1))=2^(64*m)*18446744073709551616:=by
 rw[Nat.pow_mul,Nat.pow_mul,Iz]
def wv(a:List UInt64)(n:Nat):val (a.take (n+1))=val (a.take n)+2^(64*n)*(a.getD n 0).toNat:=by
 by_cases h:n<a.length
 ·exact zan h
 ·rw[Im J,Im J];have:a.getD n 0=0:=by simp;rw[Ke J];rfl
  rw[this];simp
def ztj(x:UInt64):val [x]=x.toNat:=Cg
def val_getD:∀{a b:List UInt64},val a=val b→∀i,a.getD i 0=b.getD i 0
 |[],[],_,_=>rfl
 |[],y::b,h,i=>by
  simp only[val]at h;have j:y=0:=(z82 y).2 J;have z:val []=val b:=by simp only[val];omega
  have g:=val_getD z;cases i with
  |zero=>simp[j]
  |succ i=>simpa using g i
 |x::a,[],h,i=>by
  simp only[val]at h;have A:x=0:=(z82 x).2 J;have B:val a=val []:=by simp only[val];omega
  have g:=val_getD B;cases i with
  |zero=>simp[A]
  |succ i=>simpa using g i
 |x::a,y::b,h,i=>by
  simp only[val]at h;have C:=x.toNat_lt;have D:=y.toNat_lt;have e:x.toNat=y.toNat:=J
  have g:=val_getD (a:=a) (b:=b) J;cases i with
  |zero=>simpa using I3.1 e
  |succ i=>simpa using g i
def um{x y:Nat}{c:Bool}(z:2≤A)(hv:x+j*A*c.toNat=y+g)(B:y<j)(C:g<j):x=y+g:=by
 cases c
 ·simpa using hv
 ·have:j*2≤j*A:=Mo _ z;simp at hv;omega
def add_end{a b:List UInt64}{c:Bool}{n m:Nat}(h:n=m+1)(g:a.length≤m)(j:b.length≤m)(hv:val v9+2^(64*n)*c.toNat=val a+val b):val v9=val a+val b:=by
 subst h;rw[Xy]at hv;exact um Ac hv (z5c g) (z5c j)
def addn{o s x y c:Nat}(hv:o+A*c=g+j)(h:s+D*Q=x+y+c):o+A*s+A*D*Q=g+A*x+(j+A*y):=by
 have:A*(s+D*Q)=A*(x+y+c):=E9
 simp only[Lk,←Kf]at this;omega
def vd{a b:List UInt64}{c:Bool}{i:Nat}(g:v9.length=i)(hv:val v9+2^(64*i)*c.toNat=val (a.take i)+val (b.take i)) :
  val (v9++[(Nr (a.getD i 0) (b.getD i 0) c).1])+2^(64*(i+1))*(Nr (a.getD i 0) (b.getD i 0) c).2.toNat=val (a.take (i+1))+val (b.take (i+1)):=by
 rw[wv,wv,Xy,val_append,g,ztj];exact addn hv (z99 _ _ _)
def opened:(∀a b,U4 a b=a+b)∧(∀a b,js a b=a-b)∧(∀a b,Tc a b=a*b):=⟨Vc,Zh,zlj⟩
def Sm(a:List UInt64)(n:Int):Int:=if n<0∨512<n then 2 else if n<(O4 (val a)).length then 3 else 0
def S0(a:List UInt64)(n:Int):List UInt64:=if Sm a n=0 then O4 (val a)++List.replicate (n.toNat-(O4 (val a)).length) 0 else []
def zf6{a:List UInt64}{n:Int}(h:Sm a n=0):((S0 a n).length:Int)=n∧0≤n∧n≤512:=by
 unfold S0;rw[H7 h];unfold Sm at h;by_cases g:n<0∨512<n
 ·rw[H7 g]at h;simp at h
 ·rw[Hx g]at h;by_cases j:n<(O4 (val a)).length
  ·rw[H7 j]at h;simp at h
  ·simp;omega
def repU(n:Nat):Pl [LV.u 0] n=(List.replicate n (0:UInt64)).map .u:=by
 induction n with
 |zero=>rfl
 |succ n g=>simp[Pl,g,K0]
def LN(l:List (List UInt64)):LV:=.lst (l.map LU) l.length 1
attribute [simp] LN
def Y5(l:List (List UInt64))(i:Nat)(g:LV→Prop):Py (l.map LU) i g=(i<l.length∧g (LU (l.getD i []))):=zwq _ _ _ _ _
def Yr(l:List (List UInt64)):dats (l.map LU)=true:=xa (λx=>N) l
attribute [simp] Y5 Yr
attribute [simp ↓] Y5
def T2(a b:UInt64):UInt64:=UInt64.ofNat (a.toNat*b.toNat/18446744073709551616)
def zsf(a b:UInt64):(T2 a b).toNat*18446744073709551616+(a*b).toNat=a.toNat*b.toNat:=by
 have g:=a.toNat_lt;have j:=b.toNat_lt;have z:a.toNat*b.toNat≤18446744073709551615*18446744073709551615:=Jn J J;rw[T2,Je,Mg];omega
def and_low(x:UInt64):(x &&& 4294967295).toNat=x.toNat%4294967296:=by
 rw[UInt64.toNat_and];exact Nat.and_two_pow_sub_one_eq_mod x.toNat 32
def mul_hi(a b:UInt64) :
  U4 (U4 (Tc (Rd a 32) (Rd b 32)) (Rd (U4 (Tc (Rd a 32) (R6 b 4294967295)) (Rd (Tc (R6 a 4294967295) (R6 b 4294967295)) 32)) 32)) (Rd (U4 (Tc (R6 a 4294967295) (Rd b 32)) (R6 (U4 (Tc (Rd a 32) (R6 b 4294967295)) (Rd (Tc (R6 a 4294967295) (R6 b 4294967295)) 32)) 4294967295)) 32)=T2 a b:=by
 simp only[Vc,zlj,lh,kz];apply I3.1;have B:=a.toNat_lt;have C:=b.toNat_lt;simp only[T2,Jk,Mg,Je,and_low,Nat.reducePow];generalize a.toNat=x at *;generalize b.toNat=y at *;have g:x=x/4294967296*4294967296+x%4294967296:=J
 have j:y=y/4294967296*4294967296+y%4294967296:=J
 have D:x/4294967296<4294967296:=J
 have E:x%4294967296<4294967296:=J
 have F:y/4294967296<4294967296:=J
 have G:y%4294967296<4294967296:=J
 have m1:x/4294967296%18446744073709551616=x/4294967296:=J
 have z:y/4294967296%18446744073709551616=y/4294967296:=J
 rw[m1,z];have A:x*y=(x/4294967296*(y/4294967296))*18446744073709551616+(x/4294967296*(y%4294967296))*4294967296+(x%4294967296*(y/4294967296))*4294967296+x%4294967296*(y%4294967296):=by
  generalize x/4294967296=p at *;generalize x%4294967296=q at *;generalize y/4294967296=r at *;generalize y%4294967296=s at *;subst g j
  grind
 rw[A];generalize x/4294967296=p at *;generalize x%4294967296=q at *;generalize y/4294967296=r at *;generalize y%4294967296=s at *;have H:p*r≤4294967295*4294967295:=Jn J J;have I:p*s≤4294967295*4294967295:=Jn J J;have K:q*r≤4294967295*4294967295:=Jn J J;have L:q*s≤4294967295*4294967295:=Jn J J;generalize p*r=M at *;generalize p*s=O at *;generalize q*r=P at *;generalize q*s=Q at *;clear g j m1 z D E F G B C A;omega
def Pu(n:Nat):Nat:=if n=0 then 0 else n.log2+1
def blen_zero:Pu 0=0:=rfl
def zrg{n:Nat}(h:n≠0):Pu n=Pu (n/2)+1:=by
 unfold Pu;rw[Hx h];by_cases g:n/2=0
 ·have:n=1:=J
  subst this;decide
 ·rw[Hx g,Nat.log2_def n,H7 J]
def zz7(n:Nat):n<2^Pu n:=by
 unfold Pu;by_cases h:n=0
 ·subst h;decide
 ·rw[Hx h];exact (Nat.log2_lt h).1 (Jl _)
def zpn{n k:Nat}(h:n<2^k):Pu n≤k:=by
 unfold Pu;by_cases g:n=0
 ·subst g;simp
 ·rw[Hx g];exact (Nat.log2_lt g).2 h
def znl{n:Nat}:∀s:Nat,n/2^s≠0→Pu n=s+Pu (n/2^s)
 |0,_=>N
 |s+1,h=>by
  have j:n/2^s/2≠0:=by rw[K3,←Iz];exact h
  have g:n/2^s≠0:=λe=>j Ez
  rw[znl s g,zrg g,K3,show 2^s*2=2^(s+1) from rfl];omega
def zzf(v:UInt64)(s:Nat):(Rd v s).toNat=v.toNat/2^s:=by
 have h:=v.toNat_lt;have:v.toNat/2^s≤v.toNat:=Mn _ _;rw[lh,Je,Iv J]
def and_one(v:UInt64):(R6 v 1).toNat=v.toNat%2:=by
 rw[kz,UInt64.toNat_and];exact Nat.and_two_pow_sub_one_eq_mod v.toNat 1
def bit_u'(v:UInt64)(s:Nat):R6 (Rd v s) 1=if v.toNat.testBit s=true then 1 else 0:=by
 apply I3.1;rw[and_one,zzf,Lf];by_cases h:v.toNat/2^s%2=1
 ·simp[h]
 ·have:v.toNat/2^s%2=0:=J
  simp[this]
def one_shl{i:Nat}(h:i<64):(Sk 1 i).toNat=2^i:=by
 rw[qg,Je];have:2^i<2^64:=Nat.pow_lt_pow_right J h;simp;omega
def limb_at:∀(a:List UInt64) (i:Nat),(a.getD i 0).toNat=val a/2^(64*i)%18446744073709551616
 |[],i=>Cg
 |x::a,0=>by
  have:=x.toNat_lt;simp[val]
 |x::a,i+1=>by
  have h:=x.toNat_lt;have g:=limb_at a i;rw[z9k,←K3,val,(J:(x.toNat+18446744073709551616*val a)/18446744073709551616=val a),←g];simp
def bit_at(a:List UInt64)(i:Nat):(a.getD (i/64) 0).toNat.testBit (i%64)=(val a).testBit i:=by
 rw[limb_at,show (18446744073709551616:Nat)=2^64 from rfl,Nat.testBit_mod_two_pow,Nat.testBit_div_two_pow];have:i%64+64*(i/64)=i:=J
 simp[this];intro;omega
def val_set:∀(a:List UInt64) (i:Nat) (x:UInt64),i<a.length→val (a.set i x)+2^(64*i)*(a.getD i 0).toNat=val a+2^(64*i)*x.toNat
 |[],i,x,h=>Bq
 |y::a,0,x,_=>by simp[val];omega
 |y::a,i+1,x,h=>by
  have g:=val_set a i x Ax;rw[z9k];simp only[M0,val,List.getD_cons_succ,Kf];omega
def nr{a:List UInt64}{i:Nat}{x:UInt64}(h:i<a.length)(g:a.getD i 0=0):val (a.set i x)=val a+2^(64*i)*x.toNat:=by
 have:=val_set a i x h;rw[g]at this;simpa using this
def zwg(a:List UInt64)(i g:Nat)(x:UInt64)(h:i≠g):(a.set i x).getD g 0=a.getD g 0:=by simp[Hw h]
def layU(a:List UInt64)(i:Nat)(x:UInt64)(h:i<a.length):Oq (a.map .u) i [.u x]=(a.set i x).map .u:=by
 unfold Oq;rw[I5,H7 h];simp
def ss{l:List UInt64}{n:Nat}(h:Trm l)(g:l.length=n+1):Pu (val l)=64*n+Pu (l.getD n 0).toNat:=by
 have z:val l=val (l.take n)+2^(64*n)*(l.getD n 0).toNat:=by rw[←zan J,Im J]
 have A:=z5c (a:=l.take n) (n:=n) Ab;have j:val l/2^(64*n)=(l.getD n 0).toNat:=by
  rw[z,Nat.add_mul_div_left _ _ (Kn _),K6 A,Iy]
 have B:(l.getD n 0).toNat≠0:=by
  rcases h with h|h
  ·rw[h]at g;simp at g
  ·intro e;refine h ?_;have:l.getLast?.getD 0=l.getD n 0:=by
    rw[List.getLast?_eq_getElem?,g];simp
   rw[this];exact (z82 _).2 e
 rw[znl (64*n) (by rw[j];exact B),j]
def Qs(a b:Nat):Int:=if a<b then -1 else if b<a then 1 else 0
def i5(a:Nat):Qs a a=0:=by simp[Qs]
def jo{v w k x y:Nat}(hv:v<k)(hw:w<k):Qs (v+k*x) (w+k*y)=if x<y then -1 else if y<x then 1 else Qs v w:=by
 have e:∀B,k*(B+1)=k*B+k:=λB=>by rw[Lk,Kw]
 by_cases g:x<y
 ·have:=Mo k (show x+1≤y from g);rw[e]at this;rw[H7 g,Qs,H7 J]
 ·rw[Hx g];by_cases j:y<x
  ·have:=Mo k (show y+1≤x from j);rw[e]at this;rw[H7 j,Qs,Hx J,H7 J]
  ·rw[Hx j];have:x=y:=J
   subst this;unfold Qs;by_cases z:v<w
   ·rw[H7 z,H7 J]
   ·rw[Hx z,Hx J];by_cases A:w<v
    ·rw[H7 A,H7 J]
    ·rw[Hx A,Hx J]
def zlo(a:List UInt64)(i:Nat):val (a.take i)<2^(64*i):=z5c Ab
def qv(a b:List UInt64)(i:Nat):Qs (val (a.take (i+1))) (val (b.take (i+1)))=if a.getD i 0<b.getD i 0 then -1 else if b.getD i 0<a.getD i 0 then 1 else Qs (val (a.take i)) (val (b.take i)):=by
 rw[wv,wv,jo (zlo a i) (zlo b i)];simp only[Jm]
def zoe{a b:Nat}:Qs a b<0↔a<b:=by
 unfold Qs;split
 ·simp;assumption
 ·split<;>simp<;>omega
def Zk{a b:Nat}:Qs a b=0↔a=b:=by
 unfold Qs;split
 ·simp;omega
 ·split<;>simp<;>omega
def zkx{a b:Nat}:0≤Qs a b↔b≤a:=by
 have:=@zoe a b;omega
def pt{a b:List UInt64}{i:Nat}{c:Bool}(g:v9.length=i)(hv:val v9+val (b.take i)=val (a.take i)+2^(64*i)*c.toNat) :
  val (v9++[(Ov (a.getD i 0) (b.getD i 0) c).1])+val (b.take (i+1))=val (a.take (i+1))+2^(64*(i+1))*(Ov (a.getD i 0) (b.getD i 0) c).2.toNat:=by
 have j:=zdi (a.getD i 0) (b.getD i 0) c;rw[zvy,g,wv,wv,Xy];generalize (Ov (a.getD i 0) (b.getD i 0) c).1.toNat=s at *;generalize (Ov (a.getD i 0) (b.getD i 0) c).2.toNat=d at *;generalize (a.getD i 0).toNat=x at *;generalize (b.getD i 0).toNat=y at *;generalize 2^(64*i)=k at *;have e:k*(s+y+c.toNat)=k*(x+18446744073709551616*d):=F5
 simp only[Lk]at e;have z:k*(18446744073709551616*d)=k*18446744073709551616*d:=by rw[Kf]
 omega
def y5{a b:List UInt64}{m:Nat}{c:Bool}(j:a.length≤m)(g:b.length≤m)(z:v9.length=m)(hv:val v9+val (b.take m)=val (a.take m)+2^(64*m)*c.toNat) :
  (c=true↔val a<val b)∧(c=false→val v9=val a-val b):=by
 rw[z38 j,z38 g]at hv;have A:=z5c (a:=v9) (n:=m) J;have B:=z5c g;cases c with
 |true=>simp at hv ⊢;omega
 |false=>simp at hv ⊢;omega
def Ut(o x y m:UInt64):UInt64×UInt64:=((Nr (Nr o (x*y) false).1 m false).1,(Nr (Nr (T2 x y) 0 (Nr o (x*y) false).2).1 0 (Nr (Nr o (x*y) false).1 m false).2).1)
def ou(o x y m:UInt64):(Ut o x y m).1.toNat+18446744073709551616*(Ut o x y m).2.toNat=o.toNat+x.toNat*y.toNat+m.toNat:=by
 have g:=z99 o (x*y) false;have j:=z99 (Nr o (x*y) false).1 m false;have z:=z99 (T2 x y) 0 (Nr o (x*y) false).2;have A:=z99 (Nr (T2 x y) 0 (Nr o (x*y) false).2).1 0 (Nr (Nr o (x*y) false).1 m false).2;have F:=zsf x y;have G:=o.toNat_lt;have H:=m.toNat_lt;have I:=x.toNat_lt;have K:=y.toNat_lt;have L:x.toNat*y.toNat≤18446744073709551615*18446744073709551615:=Jn J J;have M:=(Nr (T2 x y) 0 (Nr o (x*y) false).2).1.toNat_lt;have O:=(Nr (Nr (T2 x y) 0 (Nr o (x*y) false).2).1 0 (Nr (Nr o (x*y) false).1 m false).2).1.toNat_lt;unfold Ut;dsimp only;generalize (Nr (Nr (T2 x y) 0 (Nr o (x*y) false).2).1 0 (Nr (Nr o (x*y) false).1 m false).2)=B at *;generalize (Nr (T2 x y) 0 (Nr o (x*y) false).2)=C at *;generalize (Nr (Nr o (x*y) false).1 m false)=D at *;generalize (Nr o (x*y) false)=E at *;have P:(0:UInt64).toNat=0:=rfl;rw[P]at z A;simp at g j;have Q:E.2.toNat≤1:=M6 _;have R:D.2.toNat≤1:=M6 _;have T:C.2.toNat≤1:=M6 _;have U:B.2.toNat≤1:=M6 _;have V:=(x*y).toNat_lt;generalize (x*y).toNat=X at *;generalize (T2 x y).toNat=hi at *;generalize x.toNat*y.toNat=p at *;omega
def zfj(a b:List UInt64)(i k:Nat)(g:List UInt64)(j:UInt64):Prop :=
 g.length=a.length+b.length∧val g+2^(64*(i+k))*j.toNat=val (a.take i)*val b+2^(64*i)*((a.getD i 0).toNat*val (b.take k))∧∀z,i+b.length≤z→g.getD z 0=0
def fu(a b:List UInt64):zfj a b 0 0 (List.replicate (a.length+b.length) 0) 0:=by
 refine⟨N,by simp[val,val_rep0],λj g=>?_⟩;simp only[Hv,List.getElem?_replicate];split<;>rfl
def gr{a b:List UInt64}{i k:Nat}(hi:i<a.length)(C:k<b.length)(h:zfj a b i k v9 U) :
  zfj a b i (k+1) (v9.set (i+k) (Ut (v9.getD (i+k) 0) (a.getD i 0) (b.getD k 0) U).1) (Ut (v9.getD (i+k) 0) (a.getD i 0) (b.getD k 0) U).2:=by
 obtain⟨j,D,z⟩:=h;have hm:=ou (v9.getD (i+k) 0) (a.getD i 0) (b.getD k 0) U;have E:=val_set v9 (i+k) (Ut (v9.getD (i+k) 0) (a.getD i 0) (b.getD k 0) U).1 J;refine⟨Af,?_,λF A=>by rw[zwg _ _ _ _ J];exact z F A⟩;rw[wv b k,(J:i+(k+1)=(i+k)+1),Xy];generalize (Ut (v9.getD (i+k) 0) (a.getD i 0) (b.getD k 0) U).2.toNat=G at *;generalize B:(Ut (v9.getD (i+k) 0) (a.getD i 0) (b.getD k 0) U).1=g at *;generalize (v9.getD (i+k) 0).toNat=o at *;generalize (a.getD i 0).toNat=x at *;generalize (b.getD k 0).toNat=y at *;rw[(J:64*(i+k)=64*i+64*k),Kq]at *;generalize 2^(64*i)=p at *;generalize 2^(64*k)=q at *;generalize g.toNat=s at *;generalize val (a.take i)*val b=H at *;generalize val (b.take k)=I at *;generalize val (v9.set (i+k) g)=K at *;generalize val v9=L at *;generalize U.toNat=m at *
 grind
def fj{a b:List UInt64}{i:Nat}(hi:i<a.length)(h:zfj a b i b.length v9 U):zfj a b (i+1) 0 (v9.set (i+b.length) U) 0:=by
 obtain⟨z,g,j⟩:=h;have A:=nr (a:=v9) (i:=i+b.length) (x:=U) J (j _ (Ia _));refine⟨Ae,?_,λB C=>by rw[zwg _ _ _ _ J];exact j B J⟩;rw[A,wv a i];rw[K7]at g;generalize (a.getD i 0).toNat=x at *;simp[val,Iu];rw[←Kf]at g;rw[g]
def iu{a b:List UInt64}{i:Nat}(h:zfj a b i 0 v9 0):val v9=val (a.take i)*val b:=by
 have:=h.2.1;simpa [val] using this
def uv{a b:List UInt64}(h:zfj a b a.length 0 v9 0):val v9=val a*val b:=by
 have:=iu h
 rwa [K7]at this
def zia(g j N:Nat)(q:List UInt64)(r:Nat):Prop:=r=g/2^N%j∧val q=g/2^N/j*2^N
def zr9{r:Nat}(C:0<j)(B:r=g/2^(A+1)%j):(2*r+(g.testBit A).toNat<j→g/2^A%j=2*r+(g.testBit A).toNat∧g/2^A/j=2*(g/2^(A+1)/j)) ∧
  (j≤2*r+(g.testBit A).toNat→g/2^A%j=2*r+(g.testBit A).toNat-j∧g/2^A/j=2*(g/2^(A+1)/j)+1):=by
 have E:g/2^(A+1)=g/2^A/2:=by rw[K3];rfl
 have F:(g.testBit A).toNat=g/2^A%2:=by
  rw[Lf];by_cases h:g/2^A%2=1
  ·simp[h]
  ·have:g/2^A%2=0:=J
   simp[this]
 rw[E]at B ⊢;rw[F];generalize g/2^A=x at *;have D:=Nat.div_add_mod (x/2) j;have I:r<j:=by rw[B];exact J1 _ C
 rw[←B]at D;have G:x=2*(x/2)+x%2:=J
 have K:x%2<2:=J
 generalize x/2/j=c at *;generalize x/2=y at *;generalize x%2=d at *;subst D;have z:∀H w,w<j→x=j*H+w→x%j=w∧x/j=H:=λH w hw e=>by
  subst e;exact⟨by rw[Nat.mul_add_mod,Iv hw],by rw[Nat.mul_add_div C,K6 hw,Kl]⟩
 refine⟨λh=>z _ _ h ?_,λh=>z _ _ J ?_⟩
 ·rw[G,M4];grind
 ·have:j*(2*c+1)=2*(j*c)+j:=Ei
  omega
def setbit{q:List UInt64}(A:g/64<q.length)(h:2^(g+1) ∣ val q):val (q.set (g/64) (ke (q.getD (g/64) 0) (Sk 1 (g%64))))=val q+2^g:=by
 have B:=val_set q (g/64) (ke (q.getD (g/64) 0) (Sk 1 (g%64))) A;have C:=limb_at q (g/64);have j:g%64<64:=J
 have D:2^(g%64+1) ∣ (q.getD (g/64) 0).toNat:=by
  obtain⟨c,z⟩:=h;rw[C,z,show (2:Nat)^(g+1)=2^(64*(g/64))*2^(g%64+1) by rw[←Kq];congr 1;omega,Kf,Nat.mul_div_cancel_left _ (Kn _)];refine (Nat.dvd_mod_iff ?_).2 (Nat.dvd_mul_right _ _);rw[show (18446744073709551616:Nat)=2^64 from rfl];exact Nat.pow_dvd_pow 2 J
 obtain⟨c,z⟩:=D;have E:(ke (q.getD (g/64) 0) (Sk 1 (g%64))).toNat=(q.getD (g/64) 0).toNat+2^(g%64):=by
  rw[tr,Ml,one_shl j];have:=Mq (i:=g%64+1) (b:=2^(g%64)) (Nat.pow_lt_pow_right J J) c;rw[←z]at this;exact this.symm
 rw[E,Lk,←Kq,(J:64*(g/64)+g%64=g)]at B;omega
def zwd{N:Nat}{q:List UInt64}{r:Nat}(A:0<j)(h:zia g j (N+1) q r)(z:2*r+(g.testBit N).toNat<j):zia g j N q (2*r+(g.testBit N).toNat):=by
 obtain⟨B,C⟩:=h;obtain⟨D,E⟩:=(zr9 A B).1 z;refine⟨D.symm,?_⟩;rw[E,C,Iz]
 grind
def zvw{N:Nat}{q:List UInt64}{r:Nat}(B:0<j)(C:N/64<q.length)(h:zia g j (N+1) q r)(z:j≤2*r+(g.testBit N).toNat):zia g j N (q.set (N/64) (ke (q.getD (N/64) 0) (Sk 1 (N%64)))) (2*r+(g.testBit N).toNat-j):=by
 obtain⟨D,A⟩:=h;obtain⟨E,F⟩:=(zr9 B D).2 z;refine⟨E.symm,?_⟩;rw[setbit C (by rw[A];exact Nat.dvd_mul_left _ _),F,A,Iz]
 grind
def zzr{n:Nat}:zia g j (Pu g) (List.replicate n 0) 0:=by
 have h:g/2^Pu g=0:=K6 (zz7 g);refine⟨by rw[h];simp,by rw[h,val_rep0];simp⟩
def div_end{q:List UInt64}{r:Nat}(h:zia g j 0 q r):val q=g/j∧r=g%j:=by
 obtain⟨z,A⟩:=h;simp at z A;exact⟨A,z⟩
def mE(n:Nat):Int:=if n=0 then 2 else 0
def mR(n r:Nat):List UInt64:=if n=0 then [] else O4 r
def mE_p{n:Nat}(h:n≠0):mE n=0:=by simp[mE,h]
def mR_p{n r:Nat}(h:n≠0):mR n r=O4 r:=by simp[mR,h]
def cf(e n:Nat):e/2^n=2*(e/2^(n+1))+(e.testBit n).toNat:=by
 rw[Lf,Iz,←K3];by_cases h:e/2^n%2=1
 ·simp[h];omega
 ·simp[h];omega
def pow_sq{a m e N r:Nat}(h:r=a^(e/2^(N+1))%m)(g:e.testBit N=false):r*r%m=a^(e/2^N)%m:=by
 rw[cf e N,g,h,←Jh,←Kq];simp[Nat.two_mul]
def pow_sqm{a m e N r:Nat}(h:r=a^(e/2^(N+1))%m)(g:e.testBit N=true):(r*r%m)*a%m=a^(e/2^N)%m:=by
 rw[cf e N,g,h,←Jh,←Kq];rw[Jh,Nat.mod_mod,←Jh,←Iz];simp[Nat.two_mul]
def zzj(a m e:Nat):1%m=a^(e/2^Pu e)%m:=by
 rw[K6 (zz7 e),Nat.pow_zero]
def zdo{n:Nat}{b:List UInt64}(h:n<val b):(O4 n).length≤b.length:=z2c (Mr h (val_lt b))
def i0(n:List UInt64):Bool:=decide (n.getD 0 0%2=1)
def zx5(n:List UInt64):i0 n=(val n).testBit 0:=by
 have h:=limb_at n 0;have e:(n.getD 0 0%2=1)↔(n.getD 0 0).toNat%2=1:=by
  constructor
  ·intro h;simpa using congrArg UInt64.toNat h
  ·intro h;apply I3.1;simpa using h
 unfold i0;rw[Nat.testBit_zero];simp only[e,h];simp
def Nb{l:List LV}{i:Nat}{v:LV}{g:LV→Prop}(h:l[i]?=some v):Py l i g=g v:=by simp[Py,h]
def Xd{f:vQ→LV}{l:List vQ}{i:Nat}{a:vQ}(h:l[i]?=some a):(l.map f)[i]?=some (f a):=by simp[h]
mutual
def bor_self{G:M7}(v:LV)(h:v.dat=true):bor G v v:=by
 cases v with
 |agg l=>simp only[LV.dat]at h;exact⟨l,rfl,bors_self l h⟩
 |nilSl=>exact .inl rfl
 |dy p k=>simp[LV.dat]at h
 |vw p k lo len=>simp[LV.dat]at h
 |_=>exact⟨rfl,h⟩
termination_by SizeOf.sizeOf v
def bors_self{G:M7}(l:List LV)(h:dats l=true):bors G l l:=by
 cases l with
 |nil=>rfl
 |cons v l =>
  simp only[dats,Hy]at h;exact⟨v,l,rfl,bor_self v h.1,bors_self l h.2⟩
termination_by SizeOf.sizeOf l
end
def mb(p:vQ→Bool)(l:List vQ):Int:=if l.findIdx p<l.length then (l.findIdx p:Int) else -1
def uc{p:vQ→Bool}{l:List vQ}{i:Nat}{a:vQ}(h:l[i]?=some a)(j:p a=true)(z:∀g b,g<i→l[g]?=some b→p b=false):mb p l=i:=by
 obtain⟨hi,rfl⟩:=Hu.1 h;have:l.findIdx p=i:=(List.findIdx_eq hi).2 ⟨j,λg A=>z g _ A (H6 _)⟩;rw[mb,this,H7 hi]
def zvf{p:vQ→Bool}{l:List vQ}{i:Nat}(hi:l.length≤i)(j:∀g b,g<i→l[g]?=some b→p b=false):mb p l=-1:=by
 have:l.findIdx p=l.length:=List.findIdx_eq_length.2 λa z=>by
  obtain⟨g,A,rfl⟩:=J6.1 z;exact j g _ J (H6 _)
 rw[mb,this,Hx J]
def dz(p:vQ→Bool)(l:List vQ):decide (0≤mb p l)=l.any p:=by
 unfold mb;by_cases h:l.findIdx p<l.length
 ·rw[H7 h,Js J];exact (Jb.2 ⟨_,K8 h,List.findIdx_getElem⟩).symm
 ·rw[Hx h,Ly J];have g:=List.findIdx_eq_length.1 (Dz:l.findIdx p=l.length);exact (Lq.2 λx j=>by simp[g x j]).symm
def lay_set(l:List Int)(j:Nat)(x:Int)(h:j<l.length):Oq (l.map .i) j [.i x]=(l.set j x).map .i:=by
 unfold Oq;rw[I5,H7 h];simp[Lv,List.map_drop]
def gd(l:List Int)(u:Nat):Int:=l.getD u 0
def gd_set(l:List Int)(g u:Nat)(x:Int)(h:g<l.length):gd (l.set g x) u=if u=g then x else gd l u:=by
 simp only[gd,Hv,L9];by_cases e:g=u
 ·subst e;simp[h]
 ·simp[e,Ne.symm e]
def X6{l:List Int}{u:Nat}(h:u<l.length):l[u]?=some (gd l u):=by simp[gd,Hv,h]
def strict(l:List Int)(m:Nat):Prop:=∀u v,u<v→v<m→gd l u<gd l v
structure Cmp (l0 l:List Int) (m d:Nat):Prop where
 len:l.length=l0.length
 m1:1≤m
 md:m≤d
 st:strict l m
 mem:∀x,(∃u,u<m∧gd l u=x)↔∃u,u<d∧gd l0 u=x
 last:gd l (m-1)=gd l0 (d-1)
 rest:∀u,d-1≤u→gd l u=gd l0 u∨u<m
def uw{a r:List LV}{m:Nat}(h:m≤a.length):(Oq a m r).take m=a.take m:=by
 unfold Oq;rw[Jj,Mi (by rw[J4];omega),My,Nat.min_self]
def zxy{a r:List LV}{m:Nat}(h:m+r.length=a.length):(Oq a m r).length=a.length:=by
 unfold Oq;simp;omega
def zwr{v:LV}(h:v.dat=true):∀n,dats (Pl [v] n)=true
 |0=>rfl
 |n+1=>by simp[Pl,dats,h,zwr h n]
end Go.Sv
