/- Texts of the evaluator, of the logic over it, of plain arithmetic. -/
import Derived.Test.YtgjbfhmmgeplmaaGreatSvG1
import Derived.OpenShut
import Derived.Carry
import Derived.WalkKit
import Derived.ProofKit
import Derived.WideKeyArgs
import Derived.ChangeCalls
set_option linter.unusedSimpArgs false
set_option linter.defProp false
namespace Go.Sv
variable{g j C N v6:Nat}{p:Program}{B:World}{I vN:Bool}{O:TypeId}{T:Option Nat}{X:Array Value}{v9:Type}{vM:Code}{vL:Prop}{A S:Heap}{D:AV}{F vY:Tr AV}{H:List AV}{E:CM}{G Z:List LV}{K:LV}{L:Mh}{Q:LV→Mh→Prop}{vP:LV→Prop}
section
section res
variable {P : Program} {c : Cx} {G : Mh} {K : LV → Mh → Prop}
def zm6(l h m o v i j:Nat)(z:l≤h)(A:h≤m):(h-l=0∧Xq l h m o v i j=.emp∧l≠0)∨∃g,Xq l h m o v i j=.sl o v (i+l*j) (h-l) j g∧∀r,g=some r→h-l≤r:=by
 unfold Xq;cases B:Nat.beq l m with
 |true =>
  have D:=Hn B;cases p:Nat.beq l 0 with
  |true =>
   have C:=Hn p;have:h-l=0:=J
   refine .inr ⟨some 0,?_,λr _=>J⟩;rw[this,C];simp
  |false=>exact .inl ⟨J,rfl,λe=>by subst e;cases p⟩
 |false=>exact .inr ⟨_,rfl,λr e=>by cases e;show h-l≤m-l;omega⟩
def z8u{lo hi:Option Nat}{o v i len esz:Nat}{room:Option Nat}(j:lo.getD 0≤hi.getD len)(A:hi.getD len≤len)(B:∀r,room=some r→len≤r) :
  ∃a,Tu esz lo hi none o v i len esz room=some a∧ce a=true∧((hi.getD len-lo.getD 0=0∧a=.emp∧lo.getD 0≠0)∨∃g,a=.sl o v (i+lo.getD 0*esz) (hi.getD len-lo.getD 0) esz g∧∀r,g=some r→hi.getD len-lo.getD 0≤r):=by
 generalize E:lo.getD 0=l at j;generalize F:hi.getD len=h at j A;have p:∀a,((h-l=0∧a=.emp∧l≠0)∨∃g,a=AV.sl o v (i+l*esz) (h-l) esz g∧∀r,g=some r→h-l≤r)→ce a=true:=by
  rintro a (⟨_,rfl,_⟩|⟨_,rfl,_⟩)<;>rfl
 unfold Tu;rw[Ii,E,F];dsimp only;unfold im;have C:Nat.ble l h=true:=Ho j;cases room with
 |some r =>
  have z:Nat.ble h ((some r).getD len)=true:=Ho (by have:=B r rfl;show h≤r;omega);rw[C,z];dsimp only;have:=zm6 l h r o v i esz j (by have:=B r rfl;omega);exact⟨_,rfl,p _ this,this⟩
 |none =>
  have z:Nat.ble h ((none:Option Nat).getD len)=true:=Ho A;rw[C,z];dsimp only;cases D:Nat.beq l 0 with
  |true =>
   have H:=Hn D;have:(h-l=0∧(AV.sl o v i h esz none)=.emp∧l≠0)∨∃g,AV.sl o v i h esz none=AV.sl o v (i+l*esz) (h-l) esz g∧∀r,g=some r→h-l≤r:=.inr ⟨none,by rw[H];simp,λr e=>Ar⟩;exact⟨_,rfl,p _ this,this⟩
  |false =>
   cases I:Nat.beq l h with
   |true =>
    have L:=Hn I;exact⟨_,rfl,rfl,.inl ⟨J,rfl,λe=>by subst e;cases D⟩⟩
   |false=>exact⟨_,rfl,rfl,.inr ⟨none,rfl,λr e=>Ar⟩⟩
def zek{lo hi:Option Nat}{o v i len esz m:Nat}{room:Option Nat}(p:lo.getD 0≤hi.getD len)(z:hi.getD len≤m)(hm:m≤len)(B:∀r,room=some r→len≤r) :
  ∃a,Tu esz lo hi (some m) o v i len esz room=some a∧ce a=true∧((hi.getD len-lo.getD 0=0∧a=.emp∧lo.getD 0≠0)∨∃g,a=.sl o v (i+lo.getD 0*esz) (hi.getD len-lo.getD 0) esz g∧∀r,g=some r→hi.getD len-lo.getD 0≤r):=by
 generalize C:lo.getD 0=l at p;generalize D:hi.getD len=h at p z;have A:∀a,((h-l=0∧a=.emp∧l≠0)∨∃g,a=AV.sl o v (i+l*esz) (h-l) esz g∧∀r,g=some r→h-l≤r)→ce a=true:=by
  rintro a (⟨_,rfl,_⟩|⟨_,rfl,_⟩)<;>rfl
 unfold Tu;rw[Ii,C,D];dsimp only;unfold im;have j:m≤room.getD len:=by
  cases room with
  |none=>exact hm
  |some r=>have:=B r rfl;show m≤r;omega
 rw[show Nat.ble l h=true from Ho p,show Nat.ble h (room.getD len)=true from Ho (Ix z j)];dsimp only;rw[show Nat.ble h m=true from Ho z,show Nat.ble m (room.getD len)=true from Ho j];dsimp only;have:=zm6 l h m o v i esz p z;exact⟨_,rfl,A _ this,this⟩
def ze6{z:Option Nat}{o v i len:Nat}{p:Option Nat}{a:AV}(h:Tu g T z none o v i len j p=some a)(A:T.getD 0=0):∃B n,a=.sl o v B n j p:=by
 unfold Tu at h;split at h
 ·cases h
 rw[A]at h;unfold im at h;split at h
 ·cases h
 split at h
 ·cases h
 dsimp only at h;cases p with
 |some r =>
  dsimp only at h;cases h;unfold Xq;split
  ·rename_i C;have:=Hn C;subst this;exact⟨_,_,rfl⟩
  ·exact⟨_,_,rfl⟩
 |none =>
  dsimp only at h;cases h;exact⟨_,_,rfl⟩
def zl4{lo hi:Option Nat}{o v i len esz:Nat}{room:Option Nat}{a:AV}(h:Tu g lo hi none o v i len esz room=some a)(p:j=0→lo.getD 0=0)(z:D=.sl o v 0 len esz room):Vn j D a:=by
 intro A;obtain⟨B,n,rfl⟩:=ze6 h (p A);subst z;exact .inl rfl
def zja{lo hi:Option Nat}{o v i len esz:Nat}{a:AV}(h:Tu g lo hi none o v i len esz T=some a)(p:j=0→lo.getD 0=0∧C=0)(A:Vn C D (.sl o v N v6 esz T)):Vn j D a:=by
 intro z;obtain⟨B,n,rfl⟩:=ze6 h (p z).1;exact A (p z).2
def zk2{lo hi:Option Nat}{o v i len esz m:Nat}{room:Option Nat}{a:AV}(h:Tu g lo hi (some m) o v i len esz room=some a)(p:j=0→lo.getD 0=0)(hm:m≤len)(A:D=.sl o v 0 len esz room):Vn j D a:=by
 intro B;have p:=p B;subst A;unfold Tu at h;split at h
 ·cases h
 rw[p]at h;unfold im at h;split at h
 ·cases h
 split at h
 ·cases h
 dsimp only at h;split at h
 ·cases h
 split at h
 ·cases h
 cases h;have C:∃(z n r:Nat),Xq 0 (hi.getD len) m o v i esz=.sl o v z n esz (some r)∧r≤m:=by
  unfold Xq;cases Nat.beq 0 m with
  |true=>exact⟨_,_,0,rfl,Kn _⟩
  |false=>exact⟨_,_,m-0,rfl,Nat.sub_le _ _⟩
 obtain⟨z,n,r,e,E⟩:=C;rw[e];exact .inr ⟨r,rfl,J⟩
def zn4{lo hi:Option Nat}{o v i len esz m:Nat}{room:Option Nat}{a:AV}(h:Tu g lo hi (some m) o v i len esz room=some a)(p:lo.getD 0=0)(z:hi.getD len=m)(hm:0<m):a=.sl o v i m esz (some m):=by
 unfold Tu at h;split at h
 ·cases h
 rw[p,z]at h;unfold im at h;split at h
 ·cases h
 split at h
 ·cases h
 dsimp only at h;split at h
 ·cases h
 split at h
 ·cases h
 cases h;unfold Xq;have j:Nat.beq 0 m=false:=by
  cases j:Nat.beq 0 m with
  |false=>rfl
  |true=>have:=Hn j;omega
 rw[j];dsimp only;rw[show Nat.add i (Nat.mul 0 esz)=i by show i+0*esz=i;omega,show Nat.sub m 0=m from rfl]
def AR.lst'{l:List LV}{len esz:Nat}{a:AV}{o v i n:Nat}{l':List AV}(hf:c.Fz o)(hr:Pa c.H o v i n=some l')(hl:ARs c l l')(hle:j*esz+len*esz≤n)
  (ha:(len=0∧a=.emp)∨∃room,a=.sl o v (i+j*esz) len esz room∧∀r,room=some r→len≤r):AR c (.lst ((l.drop (j*esz)).take (len*esz)) len esz) a:=by
 have hn:=zd3 hr;have gA:=hl.length;rcases ha with ⟨rfl,rfl⟩|⟨room,rfl,gg⟩
 ·simp only[Kc,Mb];exact .lstEmp
 ·exact .lst hf gg Ab (zio hr hle) ((hl.drop _).take _)
def wq(g:Bool)(a b:Int):Wj g (.int .i64 a) [.int .i64 b]=some (.int .i64 (match g with|true=>max a b|false=>min a b)):=by
 have j:Vj .i64 .i64=true:=rfl;simp only[Wj,Uz,j];cases g with
 |true =>
  simp only[S7];by_cases h:a<b
  ·rw[Ke h];simp only;congr 2;omega
  ·rw[Ly h];simp only;congr 2;omega
 |false =>
  simp only[S7];by_cases h:b<a
  ·rw[Ke h];simp only;congr 2;omega
  ·rw[Ly h];simp only;congr 2;omega
def c8(p:Bool)(a b d:Int):Wj p (.int .i64 a) [.int .i64 b,.int .i64 d]=some (.int .i64 (match p with|true=>max (max a b) d|false=>min (min a b) d)):=by
 cases p with
 |true =>
  have g:=wq true a b;have j:=wq true (max a b) d;simp only[Wj]at g j ⊢;cases hm:Uz true (.int .i64 a) (.int .i64 b) with
  |none=>rw[hm]at g;cases g
  |some r =>
   rw[hm]at g;simp only[Option.some.injEq]at g;subst g;exact j
 |false =>
  have g:=wq false a b;have j:=wq false (min a b) d;simp only[Wj]at g j ⊢;cases hm:Uz false (.int .i64 a) (.int .i64 b) with
  |none=>rw[hm]at g;cases g
  |some r =>
   rw[hm]at g;simp only[Option.some.injEq]at g;subst g;exact j
def n5(g:Bool)(a b:UInt64):Wj g (.int .u64 (Int.ofNat a.toNat)) [.int .u64 (Int.ofNat b.toNat)]=some (.int .u64 (Int.ofNat (match g with|true=>if a<b then b else a|false=>if b<a then b else a:UInt64).toNat)):=by
 have j:Vj .u64 .u64=true:=rfl;simp only[Wj,Uz,j];cases g with
 |true =>
  simp only[S7,zf6];by_cases h:a<b
  ·rw[Ke h,Hs h]
  ·rw[Ly h,Hq h]
 |false =>
  simp only[S7,zf6];by_cases h:b<a
  ·rw[Ke h,Hs h]
  ·rw[Ly h,Hq h]
def bytesA_map:∀l:List UInt8,T7.bytesA (l.map λb=>AV.int .u8 (Int.ofNat b.toNat))=some (N8 l)
 |[]=>rfl
 |b::l=>by
  have g:=b.toNat_lt;have h:Nat.blt b.toNat 256=true:=by unfold Nat.blt;exact Ho g
  simp only[Kd,T7.bytesA,h,Kh,bytesA_map l,N8]
def ARs_b:∀{j:List UInt8} {g:List AV},ARs c (j.map LV.b) g→g=j.map λb=>AV.int .u8 (Int.ofNat b.toNat)
 |[],g,h=>Bw
 |b::j,g,h=>by
  cases h with
  |cons h p=>cases h;rw[ARs_b p];rfl
def ed(M:HSim c G){x:LV}{a:AV}{K:List LV→Prop}(C:AR c x a)(h:re G x K):∃l j,ARs c l j∧K l∧((a=.nilSl∧j=[])∨∃o v i room,a=.sl o v i j.length 1 room∧Pa c.H o v i j.length=some j):=by
 unfold re at h;split at h
 ·cases C;exact⟨[],[],.nil,h,.inl ⟨rfl,rfl⟩⟩
 ·rename_i Y k;split at h
  ·rename_i l len D N st O;obtain⟨Q,rfl,h⟩:=h;cases C with
   | @dy _ _ Z hh _ e hk R _ =>
    obtain⟨r0,F,z⟩:=M.obj Y _ _ _ O e;have A:=R J;rcases z with ⟨z,E⟩|⟨o,v,room,t,H,j,z,E,S,T,I,_⟩
    ·subst E;have:l=[]:=Ig Cl;subst this;exact⟨[],[],.nil,h,.inl ⟨A.trans z,rfl⟩⟩
    ·have g:j.length=len*1:=by rw[←I.length];exact F
     have p:=Tb (i:=0) (n:=len*1) E T S J;rw[Kk]at g p;refine⟨l,j,I,h,.inr ⟨o,v,0,room,by rw[A,z,g],?_⟩⟩;rw[g,p,Jd,Hz J]
  ·exact h.elim
 ·rename_i l len D;obtain⟨rfl,B,h⟩:=h;cases C with
  |lst hf V L p X =>
   have g:=zd3 p;rw[Kk]at g p;refine⟨l,_,X,h,.inr ⟨_,_,_,_,by rw[g],by rw[g];exact p⟩⟩
  |lstNil=>exact absurd rfl B
  |lstEmp=>exact absurd rfl B
 ·exact h.elim
def m6(p:HSim c G){ρ:Ml}(A:Nl c ρ F){o:LOp}(g:o.ok=true)(h:M8 P ρ G o K):Qy P c G K (Nu P (ρA F) c.H o.r):=by
 cases o with
 |move x=>exact .same p (Nt A g) h
 |pick cc a b =>
  simp only[LOp.ok,Hh]at g;have hc:=Nt A g.1.1;have Y:=Nt A g.1.2;have hb:=Nt A g.2;simp only[M8]at h;simp only[LOp.r,Nu];generalize cc.ev ρ=cv at h hc;generalize cc.r.ev (ρA F)=ca at hc ⊢;cases cv<;>first|exact h.elim|skip
  rename_i t;cases hc;dsimp only at h;split at h
  ·rename_i x y j hy;rw[j]at Y;rw[hy]at hb;cases t with
   |true=>exact .same p Y h
   |false=>exact .same p hb h
  ·cases t with
   |true=>exact .same p Y (h.1 rfl)
   |false=>exact .same p hb (h.2 rfl)
 |alloc l=>exact zit p (iw c g) h
 |box x =>
  have j:=Nt A g;simp only[M8]at h;simp only[LOp.r,Nu];split at h
  ·rename_i l V;obtain⟨l',D,B⟩:=j.cells V;rw[D];exact zit p B h
  ·exact h.elim
 |build cs ps =>
  simp only[LOp.ok,Hh]at g;simp only[M8]at h;simp only[LOp.r,Nu];split at h
  ·rename_i l V;obtain⟨l',D,B⟩:=zjw A g.2 (iw c g.1) V;rw[D];exact .same p (.agg B) h
  ·exact h.elim
 |buildSl z len cs ps =>
  simp only[LOp.ok,Hh]at g;simp only[M8]at h;simp only[LOp.r,Nu];split at h
  ·rename_i l V;obtain⟨l',D,B⟩:=zjw A g.2 (iw c g.1) V;rw[D];exact cy p B h.1 (λr e=>by cases e;rfl) h.2
  ·exact h.elim
 |load1 x =>
  have j:=Nt A g;simp only[M8]at h;simp only[LOp.r,Nu];obtain⟨o,v,i,w,b,D,B,M,H⟩:=zq4 p j h;rw[D];dsimp only;rw[B];exact .same p M H
 |loadN n x =>
  have j:=Nt A g;simp only[M8]at h;simp only[LOp.r,Nu];obtain⟨o,v,i,l',l,D,B,M,H⟩:=zkq p j h;rw[D];dsimp only;rw[B];exact .same p (.agg M) H
 |store n x y =>
  simp only[LOp.ok,Hh]at g;have j:=Nt A g.1;have hy:=Nt A g.2;simp only[M8]at h;simp only[LOp.r,Nu];split at h
  ·rename_i l V;obtain⟨l',p1,p2⟩:=hy.cells V;obtain⟨o,v,i,H',c',G',D,B,M,H,N,q6⟩:=wl p j p2 h.2;rw[D];dsimp only;rw[p1];dsimp only;have hb:Nat.beq l'.length n=true:=by rw[←p2.length,h.1];exact Ii _
   rw[hb];dsimp only;rw[B];exact⟨c',.tup [],G',M,H,N,.tup .nil,q6⟩
  ·exact h.elim
 |nilChk x =>
  have j:=Nt A g;simp only[M8]at h;simp only[LOp.r,Nu];generalize x.ev ρ=v at h j;generalize x.r.ev (ρA F)=a at j ⊢;split at h
  ·have h0:=j;cases j;exact .same p h0 h
  ·have h0:=j;cases j;exact .same p h0 h
  ·have h0:=j;cases j;exact .same p h0 h
  ·have h0:=j;cases j;exact .same p h0 h
  ·exact h.elim
 |bin op jG t x y =>
  simp only[LOp.ok,Hh]at g;exact .ret p (cg (Nt A g.1) (Nt A g.2) h)
 |un op x=>exact .ret p (ly (Nt A g) h)
 |cvInt k x =>
  obtain⟨k',n,D,v,B,M⟩:=lz (Nt A g) (show ff k (x.ev ρ) (λv=>K v G) from h);simp only[LOp.r,Nu];rw[D];exact .same p B M
 |cvStr x =>
  have j:=Nt A g;simp only[M8]at h;simp only[LOp.r,Nu];obtain⟨l,l',D,⟨bs,rfl,B⟩,M⟩:=ed p j h;have g9:=ARs_b D;rcases M with ⟨M,H⟩|⟨o,v,i,room,M,H⟩
  ·rw[M];rw[H]at g9;have:bs=[]:=by cases bs with
    |nil=>rfl
    |cons _ _=>cases g9
   subst this;exact .same p (.str []) B
  ·rw[M];show Qy P c G K (match Pa c.H o v i l'.length with
    |some r=>match T7.bytesA r with
     |some n=>OR.val (.str l'.length n) c.H
     |none=>.no
    |none=>.no)
   rw[H];dsimp only;rw[g9,bytesA_map];dsimp only;exact .same p (.str' U rfl) B
 |cvSame x =>
  have j:=Nt A g;simp only[M8]at h;simp only[LOp.r,Nu];generalize x.ev ρ=v at h j;generalize x.r.ev (ρA F)=a at j ⊢;split at h
  ·cases j;exact .same p (.str _) h
  ·exact h.elim
 |cvBytes x =>
  have j:=Nt A g;simp only[M8]at h;simp only[LOp.r,Nu];generalize x.ev ρ=v at h j;generalize x.r.ev (ρA F)=a at j ⊢;split at h
  ·rename_i l;cases j;exact cy p (znb l c) U (λr e=>Ar) h
  ·exact h.elim
 |mkFunc f a b =>
  simp only[LOp.ok,Hh]at g;exact .same p (.fn (zqr A g.1) (zqr A g.2)) h
 |mkSl z jH l cc =>
  simp only[LOp.ok,Hh]at g;have V:=Nt A g.1.2;have hc:=Nt A g.2;simp only[M8]at h;simp only[LOp.r,Nu];generalize l.ev ρ=lv at h V;generalize l.r.ev (ρA F)=la at V ⊢;generalize cc.ev ρ=cv at h hc;generalize cc.r.ev (ρA F)=ca at hc ⊢;split at h
  ·rename_i n m;obtain⟨rfl,E,R,L,h4⟩:=h;cases V;cases hc;obtain⟨k,rfl⟩:=Hx E;have b1:Nat.ble k k=true:=Ho (Hm _);have b2:Nat.ble k 1048576=true:=Ho J;show Qy P c G K (match Nat.ble k k with
    |true=>match Nat.ble k 1048576 with
     |true=>match newObj c.H (R4 (toAs jH) k) with
      |some (o,H')=>OR.val (.sl o 0 0 k z (some k)) H'
      |none=>.no
     |false=>.no
    |false=>.no)
   rw[b1,b2];exact cy p ((iw c g.1.1).rep k) (by rw[u9,L]) (λr e=>by cases e;rfl) h4
  ·exact h.elim
 |slStr x lo hi =>
  simp only[LOp.ok,Hh]at g;have j:=Nt A g.1.1;simp only[M8]at h;simp only[LOp.r,Nu];generalize x.ev ρ=v at h j;generalize x.r.ev (ρA F)=a at j ⊢;split at h
  ·rename_i l;cases j;obtain⟨gg,S,D,B,M⟩:=Tt A g.1.2 h;obtain⟨O,Q,H,N,E,R,L⟩:=Tt A g.2 M;rw[D,H];dsimp only;rw[B,N];have b1:Nat.ble S Q=true:=Ho E;have b2:Nat.ble Q l.length=true:=Ho R;rw[b1,b2];dsimp only;refine .same p (.str' Ab ?_) L;rw[packL_take,packL_drop];rfl
  ·exact h.elim
 |slSl z x lo hi =>
  simp only[LOp.ok,Hh]at g;have j:=Nt A g.1.1;simp only[M8]at h;simp only[LOp.r,Nu];have gL:Oj (ρA F) none=some none:=rfl;rw[gL];split at h
  ·rename_i hv;rw[hv]at j;generalize x.r.ev (ρA F)=a at j ⊢;cases j;obtain⟨gg,S,D,B,M⟩:=Tt A g.1.2 h;obtain⟨O,Q,H,N,E,R,L⟩:=Tt A g.2 M;rw[D,H];dsimp only;rw[B,N,E,R];exact .same p .nilSl L
  ·rename_i gH k hv;rw[hv]at j;generalize x.r.ev (ρA F)=a at j ⊢;split at h
   ·rename_i l len esz gA st X;obtain⟨gB,rfl,h⟩:=h;obtain⟨gg,S,D,B,M⟩:=Tt A g.1.2 h;obtain⟨O,Q,H,N,E,R,L⟩:=Tt A g.2 M;rw[D,H];cases j with
    | @dy _ _ k' hh _ e hk Y _ =>
     obtain⟨r0,r1,T⟩:=p.obj gH _ _ _ X e;have gD:=Y J;rcases T with ⟨T,Z⟩|⟨o,v,room,t,gM,l',T,Z,r4,r5,r6,r7,r8⟩
     ·subst Z;have e1:S=0:=J
      have e2:Q=0:=J
      subst e1 e2;rw[gD,T];dsimp only;rw[B,show O.getD 0=0 from N];exact .same p (.vw e hk (λ_=>.inl ⟨rfl,.inl rfl⟩) rfl (λ_ _=>trivial)) L
     ·obtain⟨a2,p1,p2,p3⟩:=z8u (lo:=gg) (hi:=O) (o:=o) (v:=v) (i:=0) (esz:=esz) (len:=len) (room:=room) Ca Cf (λr e'=>(r7 r e').2);rw[gD,T];dsimp only;rw[p1];rw[B,N,Is]at p3;refine .same p (.vw e hk (λ_=>?_) p2 (λ_=>zl4 p1 (λh0=>by rw[B];exact h0) T)) L;rcases p3 with ⟨p3,p4,p5⟩|⟨I,p4⟩
      ·exact .inl ⟨p3,.inr ⟨p4,p5⟩⟩
      ·exact .inr ⟨o,v,len,esz,room,I,T,p4⟩
   ·exact h.elim
  ·rename_i gH k l0 len hv;rw[hv]at j;generalize x.r.ev (ρA F)=a at j ⊢;split at h
   ·rename_i l gF esz gA st X;obtain⟨gB,rfl,h⟩:=h;obtain⟨gg,S,D,B,M⟩:=Tt A g.1.2 h;obtain⟨O,Q,H,N,E,R,L⟩:=Tt A g.2 M;rw[D,H];cases j with
    | @vw _ _ _ _ k' hh _ e hk Y _ hz =>
     have jI:=(p.obj gH _ _ _ X e).1;rcases Y J with ⟨Z,r4⟩|⟨o,v,gC,C,room,I,Z,r4,r9⟩
     ·subst Z;have e1:S=0:=J
      have e2:Q=0:=J
      subst e1 e2;rcases r4 with rfl|⟨rfl,r5⟩
      ·dsimp only;rw[B,show O.getD 0=0 from N];exact .same p (.vw e hk (λ_=>.inl ⟨rfl,.inl rfl⟩) rfl (λ_ _=>trivial)) L
      ·dsimp only;rw[B,show O.getD 0=0 from N];exact .same p (.vw e hk (λ_=>.inl ⟨rfl,.inr ⟨rfl,r5⟩⟩) rfl (λ_ _=>trivial)) L
     ·subst Z;obtain⟨_,w1,w2,w3,_⟩:=Z4 p X e;subst w2 w3;obtain⟨a2,p1,p2,p3⟩:=z8u (lo:=gg) (hi:=O) (o:=o) (v:=v) (i:=l0*C) (esz:=C) (len:=len) (room:=I) Ca Cf r9;rw[r4];dsimp only;rw[p1];rw[B,N]at p3;refine .same p (.vw e hk (λ_=>?_) p2 (λq=>zja p1 (λh0=>⟨by rw[B];omega,J⟩) (r4 ▸ hz q))) L;rcases p3 with ⟨p3,p4,p6⟩|⟨jg,p4,p5⟩
      ·exact .inl ⟨p3,.inr ⟨p4,J⟩⟩
      ·exact .inr ⟨o,v,_,C,room,jg,rfl,by rw[p4,Ih],p5⟩
   ·exact h.elim
  ·rename_i l len esz hv;rw[hv]at j;generalize x.r.ev (ρA F)=a at j ⊢;obtain⟨rfl,h⟩:=h;obtain⟨gg,S,D,B,M⟩:=Tt A g.1.2 h;obtain⟨O,Q,H,N,E,R,L⟩:=Tt A g.2 M;rw[D,H];have gV:len=0→l=[]→K (.lst [] 0 esz) G:=λe1 e2=>by
    have e3:S=0:=J
    have e4:Q=0:=J
    subst e2 e3 e4;simpa using L
   cases j with
   |lst hf gK gG hr V =>
    obtain⟨a2,p1,p2,p3⟩:=z8u (lo:=gg) (hi:=O) Ca Cf gK;dsimp only;rw[p1];rw[B,N]at p3;refine .same p (.lst' hf hr V ?_ (p3.imp (λh=>⟨h.1,h.2.1⟩) id)) L;rw[←Ih];exact Hy _ J
   |lstNil =>
    have e3:S=0:=J
    have e4:Q=0:=J
    dsimp only;rw[B,show O.getD 0=Q from N,e3,e4];exact .same p .lstNil (gV rfl rfl)
   |lstEmp =>
    have e3:S=0:=J
    have e4:Q=0:=J
    dsimp only;rw[B,show O.getD 0=Q from N,e3,e4];exact .same p .lstEmp (gV rfl rfl)
  ·exact h.elim
 |slSl3 z x lo hi mx =>
  simp only[LOp.ok,Hh]at g;have j:=Nt A g.1.1.1;have jC:ax (some mx)=true:=g.2;simp only[M8]at h;simp only[LOp.r,Nu];split at h
  ·rename_i gH k hv;rw[hv]at j;generalize x.r.ev (ρA F)=a at j ⊢;split at h
   ·rename_i l len esz gA st X;obtain⟨gB,rfl,h⟩:=h;obtain⟨gg,S,D,B,M⟩:=Tt A g.1.1.2 h;obtain⟨O,Q,H,N,q6⟩:=Tt A g.1.2 M;obtain⟨gO,gP,q7,q8,h0,E,R,L,h4⟩:=Tt A jC q6;simp only[Jg]at q7;rw[D,H,q7];cases j with
    | @dy _ _ k' hh _ e hk Y _ =>
     obtain⟨r0,r1,T⟩:=p.obj gH _ _ _ X e;have gD:=Y J;have gL:gO=some gP:=by
      cases gO with
      |none=>unfold Oj at q7;dsimp only at q7;split at q7<;>cases q7
      |some m=>simp at q8;rw[q8]
     rcases T with ⟨T,Z⟩|⟨o,v,room,t,gM,l',T,Z,r4,r5,r6,r7,r8⟩
     ·omega
     ·obtain⟨a2,p1,p2,p3⟩:=zek (lo:=gg) (hi:=O) (o:=o) (v:=v) (i:=0) (esz:=esz) (len:=len) (room:=room) (m:=gP) Ca Cf L (λr e'=>(r7 r e').2);rw[gD,T,gL];dsimp only;rw[p1];rw[B,N,Is]at p3;unfold lx at h4;split at h4
      ·rename_i jD;obtain⟨f1,f2,f3⟩:=K9 jD;have hc:=zn4 p1 (by rw[B];exact f1) (by rw[N];exact f2) J;exact .same p (.vf e hk (λ_=>⟨o,v,len,esz,room,T,by rw[hc,f2]⟩) p2) h4
      refine .same p (.vw e hk (λ_=>?_) p2 (λ_=>zk2 p1 (λh0=>by rw[B];exact h0) L T)) h4;rcases p3 with ⟨p3,p4,p5⟩|⟨I,p4⟩
      ·exact .inl ⟨p3,.inr ⟨p4,p5⟩⟩
      ·exact .inr ⟨o,v,len,esz,room,I,T,p4⟩
   ·exact h.elim
  ·rename_i l len esz hv;rw[hv]at j;generalize x.r.ev (ρA F)=a at j ⊢;obtain⟨rfl,h⟩:=h;obtain⟨gg,S,D,B,M⟩:=Tt A g.1.1.2 h;obtain⟨O,Q,H,N,q6⟩:=Tt A g.1.2 M;obtain⟨gO,gP,q7,q8,h0,E,R,L,h4⟩:=Tt A jC q6;simp only[Jg]at q7;rw[D,H,q7];have gL:gO=some gP:=by
    cases gO with
    |none=>unfold Oj at q7;dsimp only at q7;split at q7<;>cases q7
    |some m=>simp at q8;rw[q8]
   cases j with
   |lst hf gK gG hr V =>
    obtain⟨a2,p1,p2,p3⟩:=zek (lo:=gg) (hi:=O) (m:=gP) Ca Cf L gK;rw[gL];dsimp only;rw[p1];rw[B,N]at p3;refine .same p (.lst' hf hr V ?_ (p3.imp (λh=>⟨h.1,h.2.1⟩) id)) h4;rw[←Ih];exact Hy _ J
   |lstNil=>omega
   |lstEmp=>omega
  ·exact h.elim
 |fieldAddr gT x =>
  have j:=Nt A g;simp only[M8]at h;simp only[LOp.r,Nu];generalize x.ev ρ=v at h j;generalize x.r.ev (ρA F)=a at j ⊢;split at h
  ·cases j with
   |ptr e=>exact .same p (.ptr e) h
  ·cases j with
   |dptr e hk Y=>exact .same p (.dptr e hk (λq=>⟨by rw[(Y q).1];rfl,(Y q).2⟩)) h
  ·cases j with
   |cptr hf hr V =>
    dsimp only;rw[show ∀a b c:Nat,Nat.add (a+b) c=a+(b+c) from λa b c=>Iu a b c];exact .same p (.cptr hf hr V) h
  ·exact h.elim
 |field jG n gT x =>
  have j:=Nt A g;simp only[M8]at h;simp only[LOp.r,Nu];generalize x.ev ρ=v at h j;generalize x.r.ev (ρA F)=a at j ⊢;split at h
  ·rename_i l;cases j with
   |agg V =>
    dsimp only;cases jG with
    |true =>
     obtain⟨E,R⟩:=h;have jp:=V.length;rename_i l';have b1:Nat.ble (Nat.add gT n) l'.length=true:=Ho (show gT+n≤l'.length by rw[←jp];exact E);refine .ret p ?_;simp only[W5,V6,b1];exact .mk (.agg ((V.drop gT).take n)) R
    |false =>
     obtain⟨v,hv,h⟩:=h;obtain⟨a,D,B⟩:=V.get hv;refine .ret p ?_;simp only[W5];rw[D];exact .mk B h
  ·exact h.elim
 |ixAddr z x i =>
  simp only[LOp.ok,Hh]at g;have j:=Nt A g.1;have hi:=Nt A g.2;simp only[M8]at h;simp only[LOp.r,Nu];generalize i.ev ρ=iv at h hi;generalize i.r.ev (ρA F)=ia at hi ⊢;generalize x.ev ρ=v at h j;generalize x.r.ev (ρA F)=a at j ⊢
  have gZ : ∀ {kk : IntKind} {n : Int} (v : LV) (a : AV), AR c v a → yy G z v n (fun v => K v G) → Qy P c G K (match a, AV.int kk n with
     |.sl o v i len esz _,.int _ (.ofNat n)=>match Nat.blt n len with
      |true=>match Nat.beq esz z with
       |true=>.val (.ptr o v (Nat.add i (Nat.mul n esz))) c.H
       |false=>.no
      |false=>.no
     |_,_=>.no):=by
   clear h j;intro kk n v a j h;unfold yy at h;have gE:∀{o v jM len esz:Nat} {room:Option Nat} {m:Nat} {y:LV},m<len→esz=z→AR c y (.ptr o v (jM+m*esz))→K y G→Qy P c G K (match AV.sl o v jM len esz room,AV.int kk (Int.ofNat m) with
     |.sl o v i len esz _,.int _ (.ofNat n)=>match Nat.blt n len with
      |true=>match Nat.beq esz z with
       |true=>.val (.ptr o v (Nat.add i (Nat.mul n esz))) c.H
       |false=>.no
      |false=>.no
     |_,_=>.no):=by
    intro o v jM len esz room m y E R L h4;subst R;have b1:Nat.blt m len=true:=by unfold Nat.blt;exact Ho E
    dsimp only;rw[b1,Ii];exact .same p L h4
   split at h
   ·rename_i gH k;split at h
    ·rename_i l len esz gA st X;obtain⟨gB,rfl,E,R,L⟩:=h;obtain⟨m,rfl⟩:=Hx E;cases j with
     | @dy _ _ k' hh _ e hk Y _ =>
      obtain⟨r0,r1,T⟩:=p.obj gH _ _ _ X e;have gD:=Y J;rcases T with ⟨T,Z⟩|⟨o,v,room,t,gM,l',T,_⟩
      ·omega
      ·rw[gD,T];refine gE (room:=room) (y:=.dptr gH k (m*esz)) J rfl (.dptr e hk (λ_=>⟨by rw[Is],len,esz,room,T⟩)) L
    ·exact h.elim
   ·rename_i gH k lo len;split at h
    ·rename_i l gF esz gA st X;obtain⟨gB,rfl,E,R,L⟩:=h;obtain⟨m,rfl⟩:=Hx E;cases j with
     | @vw _ _ _ _ k' hh _ e hk Y _ _ =>
      have jI:=(p.obj gH _ _ _ X e).1;rcases Y J with ⟨Z,r4⟩|⟨o,v,gC,C,room,I,Z,r4,r9⟩
      ·omega
      ·have e2:=e;rw[Z]at e2;obtain⟨_,w1,w2,w3,_⟩:=Z4 p X e2;subst w2 w3;rw[r4];refine gE (room:=I) (y:=.dptr gH k ((lo+m)*C)) J rfl (.dptr e hk (λ_=>⟨by rw[Ih],gC,C,room,Z⟩)) L
    ·exact h.elim
   ·rename_i l len esz;obtain⟨rfl,E,R,L⟩:=h;obtain⟨m,rfl⟩:=Hx E;cases j with
    | @lst _ _ _ _ _ _ rm _ hf gK gG hr V =>
     refine gE (room:=rm) (y:=.cptr l (m*esz)) J rfl ?_ L;rw[←gG]at hr;exact .cptr hf hr V
    |lstNil=>omega
    |lstEmp=>omega
   ·exact h.elim
  split at h
  ·cases hi;exact gZ v a j h
  ·cases hi;exact gZ v a j h
  ·exact h.elim
 |ixStr x i =>
  simp only[LOp.ok,Hh]at g;have j:=Nt A g.1;have hi:=Nt A g.2;simp only[M8]at h;simp only[LOp.r,Nu];generalize i.ev ρ=iv at h hi;generalize i.r.ev (ρA F)=ia at hi ⊢;generalize x.ev ρ=v at h j;generalize x.r.ev (ρA F)=a at j ⊢;have gE:∀{l:List UInt8} {k:IntKind} {m:Nat},m<l.length→K (.b (l.getD m 0)) G→Qy P c G K (match AV.str l.length (N8 l),AV.int k (Int.ofNat m) with
    |.str len n,.int _ (.ofNat i)=>match Nat.blt i len with
     |true=>.val (.int .u8 (Int.ofNat (Nat.mod (Nat.div n (Nat.pow 256 i)) 256))) c.H
     |false=>.no
    |_,_=>.no):=by
   intro l k m E R;have b1:Nat.blt m l.length=true:=by unfold Nat.blt;exact Ho E
   dsimp only;rw[b1];refine .same p (.b' ?_) R;have:=zg4 (Hj E);show Int.ofNat (N8 l/256^m%256)=_;rw[this,Hr,Hj E];rfl
  split at h
  ·rename_i l n;obtain⟨E,R,L⟩:=h;obtain⟨m,rfl⟩:=Hx E;cases j;cases hi;exact gE (k:=.i64) J L
  ·rename_i l n;obtain⟨R,L⟩:=h;cases j;cases hi;exact gE (k:=.u64) R L
  ·rename_i l n;obtain⟨R,L⟩:=h;cases j;cases hi;exact gE (k:=.u8) R L
  ·exact h.elim
 |extract i x =>
  have j:=Nt A g;simp only[M8]at h;simp only[LOp.r,Nu];generalize x.ev ρ=v at h j;generalize x.r.ev (ρA F)=a at j ⊢;split at h
  ·rename_i l;cases j with
   |tup V =>
    dsimp only;obtain⟨v,hv,h⟩:=h;obtain⟨a,D,B⟩:=V.get hv;refine .ret p ?_;rw[D];exact .mk B h
  ·exact h.elim
 |lenStr x =>
  have j:=Nt A g;simp only[M8]at h;simp only[LOp.r,Nu];generalize x.ev ρ=v at h j;generalize x.r.ev (ρA F)=a at j ⊢;split at h
  ·cases j;exact .same p (.i _) h
  ·exact h.elim
 |lenSl x =>
  obtain⟨n,D,B⟩:=fb p (Nt A g) (show lenL G (x.ev ρ) (λn=>K (.i n) G) from h);simp only[LOp.r,Nu];rcases B with ⟨B,rfl⟩|⟨B,rfl⟩|⟨o,v,i,esz,room,B⟩
  ·rw[B];exact .same p (.i 0) D
  ·rw[B];exact .same p (.i 0) D
  ·rw[B];exact .same p (.i n) D
 |maxi mx x y =>
  simp only[LOp.ok,Hh]at g;have j:=Nt A g.1;have hy:=Nt A g.2;simp only[M8]at h;simp only[LOp.r,Nu,Kd,L7];generalize y.ev ρ=yv at h hy;generalize y.r.ev (ρA F)=ya at hy ⊢;generalize x.ev ρ=v at h j;generalize x.r.ev (ρA F)=a at j ⊢;split at h
  ·cases j;cases hy;dsimp only;rw[wq];exact .same p (.i _) h
  ·cases j;cases hy;dsimp only;rw[n5];exact .same p (.u _) h
  ·exact h.elim
 |max3 mx x y jH =>
  simp only[LOp.ok,Hh]at g;have j:=Nt A g.1.1;have hy:=Nt A g.1.2;have hz:=Nt A g.2;simp only[M8]at h;simp only[LOp.r,Nu,Kd,L7];generalize jH.ev ρ=zv at h hz;generalize jH.r.ev (ρA F)=za at hz ⊢;generalize y.ev ρ=yv at h hy;generalize y.r.ev (ρA F)=ya at hy ⊢;generalize x.ev ρ=v at h j;generalize x.r.ev (ρA F)=a at j ⊢;cases v<;>first|exact h.elim|skip
  cases yv<;>first|exact h.elim|skip
  cases zv<;>first|exact h.elim|skip
  cases j;cases hy;cases hz;dsimp only;rw[c8];exact .same p (.i _) h
 |ixAddrArr len z x i =>
  simp only[LOp.ok,Hh]at g;have j:=Nt A g.1;have hi:=Nt A g.2;simp only[M8]at h;simp only[LOp.r,Nu];generalize i.ev ρ=iv at h hi;generalize i.r.ev (ρA F)=ia at hi ⊢;generalize x.ev ρ=v at h j;generalize x.r.ev (ρA F)=a at j ⊢;cases iv<;>first|exact h.elim|skip
  cases hi;obtain⟨E,R,h⟩:=h;rename_i n;obtain⟨m,rfl⟩:=Hx E;have b1:Nat.blt m len=true:=by unfold Nat.blt;exact Ho J
  cases v<;>first|exact h.elim|skip
  ·cases j with
   |ptr e =>
    show Qy P c G K (match Nat.blt m len with|true=>_|false=>_);rw[b1];refine .same p ?_ h;have e0:=AR.ptr (i:=0) e;rename_i gH jM o;show AR c (.ptr gH (jM+m*z)) (.ptr o 0 (jM+m*z));exact .ptr e
  ·cases j with
   |dptr e hk Y =>
    show Qy P c G K (match Nat.blt m len with|true=>_|false=>_);rw[b1];exact .same p (.dptr e hk (λq=>⟨by rw[(Y q).1];rfl,(Y q).2⟩)) h
  ·cases j with
   |cptr hf hr V =>
    show Qy P c G K (match Nat.blt m len with|true=>_|false=>_);rw[b1];refine .same p ?_ h;rename_i o vv jj ll;rw[show Nat.add (jj+_) (Nat.mul m z)=jj+(_+m*z) from Iu _ _ _];exact .cptr hf hr V
 |ixArr jG len z x i =>
  simp only[LOp.ok,Hh]at g;have j:=Nt A g.1;have hi:=Nt A g.2;simp only[M8]at h;simp only[LOp.r,Nu];generalize i.ev ρ=iv at h hi;generalize i.r.ev (ρA F)=ia at hi ⊢;generalize x.ev ρ=v at h j;generalize x.r.ev (ρA F)=a at j ⊢;cases iv<;>first|exact h.elim|skip
  cases hi;obtain⟨E,R,h⟩:=h;rename_i n;obtain⟨m,rfl⟩:=Hx E;have b1:Nat.blt m len=true:=by unfold Nat.blt;exact Ho J
  cases v<;>first|exact h.elim|skip
  cases j with
  |agg V =>
   show Qy P c G K (match Nat.blt m len with|true=>_|false=>_);rw[b1];simp only[Io]at h;cases jG with
   |true =>
    obtain⟨E,R⟩:=h;have jp:=V.length;rename_i l';have b2:Nat.ble (Nat.add (Nat.mul m z) z) l'.length=true:=Ho (show m*z+z≤l'.length by rw[←jp];exact E);refine .ret p ?_;simp only[W5,V6,b2];exact .mk (.agg ((V.drop _).take _)) R
   |false =>
    obtain⟨v,hv,h⟩:=h;obtain⟨a,D,B⟩:=V.get hv;refine .ret p ?_;simp only[W5];show Qo c _ (_);rw[show Nat.mul m z=m*z from rfl,D];exact .mk B h
 |lenArr n x =>
  simp only[M8]at h;simp only[LOp.r,Nu];exact .same p (.i _) h
 |appZ z jH s x =>
  simp only[LOp.ok,Hh]at g;have hz:=iw c g.1.1;have jz:=Nt A g.1.2;have j:=Nt A g.2;simp only[M8]at h;simp only[LOp.r,Nu];generalize x.ev ρ=v at h j;generalize x.r.ev (ρA F)=a at j ⊢;split at h
  ·rename_i n;obtain⟨E,R,L,h4⟩:=h;obtain⟨m,rfl⟩:=Hx E;cases j;have b1:Nat.ble m 1048576=true:=Ho J;show Qy P c G K (match Nat.ble m 1048576 with
    |true=>Ub c.H z (s.r.ev (ρA F)) m (R4 (toAs jH) m)
    |false=>.no)
   rw[b1];exact zuv p jz (hz.rep m) (by rw[u9,L]) h4
  ·exact h.elim
 |appG z s x =>
  simp only[LOp.ok,Hh]at g;have jz:=Nt A g.1;have j:=Nt A g.2;simp only[M8]at h;simp only[LOp.r,Nu];obtain⟨n,l,l',D,B,M,H,N⟩:=zui p j h;rw[D];have b1:Nat.ble n 1048576=true:=Ho H;dsimp only;rw[b1];exact zuv p jz B M N
 |copy z d x =>
  simp only[LOp.ok,Hh]at g;have hd:=Nt A g.1;have j:=Nt A g.2;simp only[M8]at h;simp only[LOp.r,Nu];obtain⟨n,l,l',D,B,M,H⟩:=zui p j h;rw[D];dsimp only;have g8:∀a b:Nat,O0 a b=min a b:=λa b=>by
   unfold O0;cases hb:Nat.ble a b with
   |true=>have:=Hw hb;simp only;omega
   |false =>
    have:¬a≤b:=λq=>by rw[Ho q]at hb;cases hb
    simp only;omega
  generalize d.ev ρ=v at H hd;generalize d.r.ev (ρA F)=a at hd ⊢;split at H
  ·rename_i gH k;split at H
   ·rename_i r len esz gA st X;obtain⟨gB,rfl,h⟩:=H;cases hd with
    | @dy _ _ k' hh _ e hk Y _ =>
     obtain⟨r0,r1,T⟩:=p.obj gH _ _ _ X e;have gD:=Y J;rcases T with ⟨T,Z⟩|⟨o,v,room,t,gM,r',T,Z⟩
     ·subst Z;have:r=[]:=Ig Dm;subst this;rw[gD,T];dsimp only;have hm:min n 0=0:=J
      rw[hm]at h;simp only[Kc,Mb]at h;obtain⟨p1,p2,_⟩:=p.upd (k':=k') (x':=hh) (ob':=.dyn (M5 [] 0 []) 0 esz gA (st+1)) (H':=c.H) X rfl e (Hm _) (λ_ _ _=>rfl) (λo e'=>⟨.inl e',p.lt o ⟨gH,_,_,_,X,rfl,e,e'⟩⟩) (Hm _) (λ_=>rfl) (λ_=>rfl) (.inl (Iv _))
       (λ_=>⟨r0,by simp[M5],.inl ⟨T,rfl⟩⟩)
      exact⟨⟨c.hd.set gH (k',hh),c.Fz,c.H⟩,.i (0:Nat),_,rfl,p1,p2,.i _,h⟩
     ·have hw:Tv G (.dptr gH k 0) (l.take (min n len*esz)) (λG'=>K (.i (min n len:Nat)) G'):=by
       unfold Tv;dsimp only;rw[X];refine⟨gB,?_,h⟩;rw[r1,H4,Is];exact Ix (Nat.min_le_left _ _) (Hy _ (Nat.min_le_right _ _))
      obtain⟨o2,v2,i2,H',c',G',w1,w2,w3,w4,w5,w6⟩:=wl p (a:=.ptr o v 0) (.dptr e hk (λ_=>⟨rfl,len,esz,room,T⟩)) (B.take (min n len*esz)) hw;cases w1;rw[gD,T];dsimp only;rw[Ii,g8];dsimp only;rw[show Nat.mul (min n len) esz=min n len*esz from rfl,w2];exact⟨c',_,G',w3,w4,w5,.i _,w6⟩
   ·exact H.elim
  ·rename_i gH k lo len;split at H
   ·rename_i r gF esz gA st X;obtain⟨gB,rfl,jA,h⟩:=H;cases hd with
    | @vw _ _ _ _ k' hh _ e hk Y _ _ =>
     obtain⟨r0,r1,T⟩:=p.obj gH _ _ _ X e;have gQ:len=0→(a=.nilSl∨a=.emp∧lo≠0)→Qy P c G K (.val (.int .i64 0) c.H):=by
      intro jB _;subst jB;have hm:min n 0=0:=J
      rw[hm]at h;simp only[Kc,Mb]at h;have gR:M5 r (lo*esz) []=r:=by unfold M5;simp
      rw[gR]at h;obtain⟨p1,p2,_⟩:=p.upd (k':=k') (x':=hh) (ob':=.dyn r gF esz gA (st+1)) (H':=c.H) X rfl e (Hm _) (λ_ _ _=>rfl) (λo e'=>⟨.inl e',p.lt o ⟨gH,_,_,_,X,rfl,e,e'⟩⟩) (Hm _) (λ_=>rfl) (λ_=>rfl) (.inl (Iv _))
       (λgS=>(p.obj gH _ _ _ X e).mono gS (λ_ _=>rfl))
      exact⟨⟨c.hd.set gH (k',hh),c.Fz,c.H⟩,.i (0:Nat),_,rfl,p1,p2,.i _,h⟩
     rcases Y J with ⟨Z,r4⟩|⟨o,v,gC,C,room,I,Z,r4,r9⟩
     ·have:=gQ Z r4;rcases r4 with rfl|⟨rfl,_⟩
      ·exact this
      ·exact this
     ·have e2:=e;rw[Z]at e2;obtain⟨_,w1,w2,w3,_⟩:=Z4 p X e2;subst w2 w3;have hw:Tv G (.dptr gH k (lo*C)) (l.take (min n len*C)) (λG'=>K (.i (min n len:Nat)) G'):=by
       unfold Tv;dsimp only;rw[X];refine⟨gB,?_,h⟩;rw[H4];have E:min (min n len*C) l.length≤len*C:=Ix (Nat.min_le_left _ _) (Hy _ (Nat.min_le_right _ _));rw[Ih]at jA;omega
      obtain⟨o2,v2,i2,H',c',G',u1,u2,u3,u4,u5,u6⟩:=wl p (a:=.ptr o v (lo*C)) (.dptr e hk (λ_=>⟨rfl,gC,C,room,Z⟩)) (B.take (min n len*C)) hw;cases u1;rw[r4];dsimp only;rw[Ii,g8];dsimp only;rw[show Nat.mul (min n len) C=min n len*C from rfl,u2];exact⟨c',_,G',u3,u4,u5,.i _,u6⟩
   ·exact H.elim
  ·exact H.elim
 |clear z jH x =>
  simp only[LOp.ok,Hh]at g;have hz:=iw c g.1;have j:=Nt A g.2;simp only[M8]at h;simp only[LOp.r,Nu];generalize x.ev ρ=v at h j;generalize x.r.ev (ρA F)=a at j ⊢;split at h
  ·rename_i gH k lo len;split at h
   ·rename_i r gF esz gA st X;obtain⟨gB,rfl,jK,jA,h⟩:=h;cases j with
    | @vw _ _ _ _ k' hh _ e hk Y _ _ =>
     obtain⟨r0,r1,T⟩:=p.obj gH _ _ _ X e;have gQ:len=0→Qy P c G K (.val Qv c.H):=by
      intro jB;subst jB;have gR:M5 r (lo*esz) (M7 jH 0)=r:=by unfold M5;simp[M7]
      rw[gR]at h;obtain⟨p1,p2,_⟩:=p.upd (k':=k') (x':=hh) (ob':=.dyn r gF esz gA (st+1)) (H':=c.H) X rfl e (Hm _) (λ_ _ _=>rfl) (λo e'=>⟨.inl e',p.lt o ⟨gH,_,_,_,X,rfl,e,e'⟩⟩) (Hm _) (λ_=>rfl) (λ_=>rfl) (.inl (Iv _))
       (λgS=>(p.obj gH _ _ _ X e).mono gS (λ_ _=>rfl))
      exact⟨⟨c.hd.set gH (k',hh),c.Fz,c.H⟩,.any,_,rfl,p1,p2,.any _,h⟩
     rcases Y J with ⟨Z,r4⟩|⟨o,v,gC,C,room,I,Z,r4,r9⟩
     ·have:=gQ Z;rcases r4 with rfl|⟨rfl,_⟩
      ·exact this
      ·exact this
     ·have e2:=e;rw[Z]at e2;obtain⟨_,w1,w2,w3,_⟩:=Z4 p X e2;subst w2 w3;have hw:Tv G (.dptr gH k (lo*C)) (M7 jH len) (λG'=>K .any G'):=by
       unfold Tv;dsimp only;rw[X];refine⟨gB,?_,h⟩;rw[u9,jK,←Ih];exact jA
      obtain⟨o2,v2,i2,H',c',G',u1,u2,u3,u4,u5,u6⟩:=wl p (a:=.ptr o v (lo*C)) (.dptr e hk (λ_=>⟨rfl,gC,C,room,Z⟩)) (hz.rep len) hw;cases u1;rw[r4];dsimp only;rw[Ii];dsimp only;rw[u2];exact⟨c',.any,G',u3,u4,u5,.any _,u6⟩
   ·exact h.elim
  ·exact h.elim
 |mkMap0=>exact zg3 p h
 |mkMap1 x =>
  have j:=Nt A g;simp only[M8]at h;simp only[LOp.r,Nu];generalize x.ev ρ=v at h j;generalize x.r.ev (ρA F)=a at j ⊢;split at h
  ·cases j;exact zg3 p h
  ·exact h.elim
 |lookup d jH ok x i =>
  simp only[LOp.ok,Hh]at g;have hz:=Yy c g.1.1;have j:=Nt A g.1.2;have hi:=Nt A g.2;simp only[M8]at h;simp only[LOp.r,Nu];obtain⟨es,jL,D,B,M,_⟩:=zsp p j h;rw[D];dsimp only;rcases zpw hi B M with ⟨f1,f2⟩|⟨v,b,f1,f2,f3⟩
  ·rw[f1];dsimp only;cases ok with
   |true=>exact .same p (.tup (.cons hz (.cons (.bool _) .nil))) f2
   |false=>exact .same p hz f2
  ·rw[f1];dsimp only;cases ok with
   |true=>exact .same p (.tup (.cons f2 (.cons (.bool _) .nil))) f3
   |false=>exact .same p f2 f3
 |mapUpd d m k v =>
  simp only[LOp.ok,Hh]at g;simp only[M8]at h;simp only[LOp.r,Nu];exact zty p (Nt A g.1.1) (Nt A g.1.2) (Nt A g.2) h
 |lenMap x =>
  have j:=Nt A g;simp only[M8]at h;simp only[LOp.r,Nu];obtain⟨es,jL,D,B,M,H⟩:=zsp p j h;have gG:∀{l:List (LV×LV×Nat)} {r:List (AV×AV×Nat)},MRs c l r→l.length=r.length:=by
   intro l r hr
   induction hr with
   |nil=>rfl
   |cons _ _ _ ih=>simp[ih]
  rcases H with ⟨e1,rfl⟩|⟨o,ck,e1,e2⟩
  ·rw[e1];cases B;exact .same p (.i 0) M
  ·rw[e1];dsimp only;rw[e2];dsimp only;rw[←gG B];exact .same p (.i _) M
 |slArr n z x lo hi =>
  simp only[LOp.ok,Hh]at g;have j:=Nt A g.1.1;simp only[M8]at h;simp only[LOp.r,Nu];generalize x.ev ρ=v at h j;generalize x.r.ev (ρA F)=a at j ⊢;split at h
  ·rename_i gH i;split at h
   ·rename_i l st X;obtain⟨h0,h⟩:=h;obtain⟨gg,S,D,B,M⟩:=Tt A g.1.2 h;obtain⟨O,Q,H,N,q6⟩:=Tt A g.2 M;rw[D,H];obtain⟨E,R,L⟩:=q6;cases j with
    | @ptr _ _ o e =>
     obtain⟨t,l',T,Z,r4⟩:=zjr p X e;obtain⟨a2,p1,p2,p3⟩:=z8u (lo:=gg) (hi:=O) (o:=o) (v:=0) (i:=i) (len:=n) (esz:=z) (room:=some n) Ca Cf (λr e=>by cases e;exact Hm _);have b1:Nat.ble (Nat.add i (Nat.mul n z)) l.length=true:=Ho h0;simp only[Oj,T,b1];rw[p1];rw[B,N]at p3;obtain⟨u1,u2⟩:=p.freeze (st:=st+1) X rfl (Iv _) e (rfl:Nf (.ptr o 0 0)=some o);have jE:i+S*z+(Q-S)*z≤l.length:=by
      rw[Iu,←Ih];have:(S+(Q-S))*z≤n*z:=Hy _ J;omega
     refine⟨⟨c.hd,λq=>c.Fz q∨q=o,c.H⟩,_,_,rfl,u1,u2,?_,L⟩;rcases p3 with ⟨e1,rfl,_⟩|⟨room,rfl,gK⟩
     ·rw[e1];simp only[Kc,Mb];exact .lstEmp
     ·refine .lst (.inr rfl) gK Ab (Tb T Z (Hm _) jE) (ARs.mono u2.le ((r4.drop _).take _))
   ·exact h.elim
  ·exact h.elim
 |callV f gI =>
  simp only[LOp.ok,Hh]at g;have hf:=Nt A g.1;have Y:=zqr A g.2;simp only[M8]at h;simp only[LOp.r,Nu];generalize f.ev ρ=v at h hf;generalize f.r.ev (ρA F)=a at hf ⊢;split at h
  ·rename_i jG l r;have jF:=h.1;cases hf with
   |fn V hr =>
    rename_i l' r';have gE:wm P c.H (.fn (.func jG) l' r') ((c9 gI).map (·.ev (ρA F)))=.call (.fn jG) (l'++(c9 gI).map (·.ev (ρA F))++r'):=by
     have k2:bk P (.fn (.func jG) l' r') ((c9 gI).map (·.ev (ρA F)))=.call (.fn jG) (l'++(c9 gI).map (·.ev (ρA F))++r'):=by
      unfold bk;dsimp only;rw[Hs jF.1]
     unfold wm;split
     ·rename_i g' e;cases e;rw[jF.2];exact k2
     ·exact k2
    rw[gE];exact⟨.fn jG,_,rfl,(V.append Y).append hr,h⟩
  ·rename_i gH r;cases hf with
   |yield e=>exact⟨.yield gH,_,e,Y,h⟩
  ·exact h.elim
end res
end
section
noncomputable section
structure RI where
 d:Option Nat
 g:Option (Nat×Bool)
 o:ROp
def jf(n:Nat):Option Nat→Bool
 |none=>true
 |some d=>Nat.blt d n
def fh(P:Program)(n:Nat)(ops:Array Oper)(o:Oper):Option RI :=
 match jf n o.dst with
 |false=>none
 |true=>match Rg P o.op with
  |none=>none
  |some r=>match o.guard with
   |none=>some ⟨o.dst,none,r⟩
   |some (g,w)=>match (ops[g]?).bind (·.dst) with
    |none=>none
    |some t=>match Nat.ble t M1 with
     |true=>some ⟨o.dst,some (t,w),r⟩
     |false=>none
def ue(P:Program)(n:Nat)(ops:Array Oper):List Oper→Option (List RI)
 |[]=>some []
 |o::l=>match fh P n ops o with
  |none=>none
  |some r=>match ue P n ops l with
   |none=>none
   |some g=>some (r::g)
structure LI where
 d:Option Nat
 g:Option (Nat×Bool)
 o:LOp
def LI.r(x:LI):RI:=⟨x.d,x.g,x.o.r⟩
def lis:List LI→List RI
 |[]=>[]
 |x::l=>x.r::lis l
def Ws(g:Option (Nat×Bool))(j:Tr AV):Bool:=match g with
 |none=>true
 |some (t,w)=>match Mm (Mx t) j with
  |some (.bool b)=>match b with
   |true=>w
   |false=>!w
  |_=>false
def au(P:Program)(x:RI)(k:Pw)(p:Tr AV)(z:Heap):OE:=match Ws x.g p with
 |false=>.ok (N9 x.d Qv p) z
 |true=>match Nu P (ρA p) z x.o with
  |.no=>.no
  |.val v j=>.ok (N9 x.d v p) j
  |.call t g=>match k t g z with
   |.no=>.no
   |.ok v j=>.ok (N9 x.d v p) j
def ze4{P:Program}{n:Nat}{ops:Array Oper}{o:Oper}{x:RI}(h:fh P n ops o=some x)(k:Pw)(p:Tr AV)(H:Heap):(Py P n ops o).run k p H=au P x k p H:=by
 unfold fh at h;cases hd:jf n o.dst with
 |false=>rw[hd]at h;cases h
 |true =>
  rw[hd]at h;dsimp only at h;cases A:Rg P o.op with
  |none=>rw[A]at h;cases h
  |some r =>
   rw[A]at h;dsimp only at h;have I:∃K,P7 n o.dst=some K∧∀a p,K.run a p=N9 o.dst a p:=by
    cases B:o.dst with
    |none=>exact⟨_,rfl,λ_ _=>rfl⟩
    |some d =>
     rw[B]at hd;have C:d<n:=Hw hd;unfold P7;dsimp only;rw[Hs C];exact⟨_,rfl,λ_ _=>rfl⟩
   obtain⟨K,D,g⟩:=I;have L:x.d=o.dst∧x.o=r∧(Rh ops o).run p=Ws x.g p:=by
    cases z:o.guard with
    |none =>
     rw[z]at h;cases h;refine⟨rfl,rfl,?_⟩;unfold Rh;rw[z];rfl
    |some M =>
     obtain⟨S,w⟩:=M;rw[z]at h;dsimp only at h;cases E:(ops[S]?).bind (·.dst) with
     |none=>rw[E]at h;cases h
     |some t =>
      rw[E]at h;dsimp only at h;cases F:Nat.ble t M1 with
      |false=>rw[F]at h;cases h
      |true =>
       rw[F]at h;cases h;refine⟨rfl,rfl,?_⟩;unfold Rh;rw[z];dsimp only;rw[E];dsimp only;rw[Hs (Hw F)];rfl
   obtain⟨N,O,Q⟩:=L;unfold Py au;rw[D];dsimp only;rw[Q,N,O,zqp (zo6 p) A H];cases Ws x.g p with
   |false=>simp only[g]
   |true =>
    dsimp only;cases Nu P (ρA p) H r with
    |no=>rfl
    |val v R=>simp only[g]
    |call t j =>
     dsimp only;cases k t j H with
     |no=>rfl
     |ok v R=>simp only[g]
def zrh{P:Program}{x:RI}{k z:Pw}(C:k.le z)(h:au P x k F A=.ok vY S):au P x z F A=.ok vY S:=by
 unfold au at h ⊢;cases B:Ws x.g F with
 |false=>rw[B]at h;exact h
 |true =>
  rw[B]at h;dsimp only at h ⊢;cases j:Nu P (ρA F) A x.o with
  |no=>rw[j]at h;cases h
  |val v D=>rw[j]at h;exact h
  |call t g =>
   rw[j]at h;dsimp only at h ⊢;cases p:k t g A with
   |no=>rw[p]at h;cases h
   |ok v D=>rw[p]at h;rw[C _ _ _ _ _ p];exact h
def Rb(g:Ml)(d:Option Nat)(v:LV):Ml:=match d with
 |none=>g
 |some d=>(d,v)::g
def setL(t:Nat)(v:LV):Ml→Ml
 |[]=>[]
 |(d,x)::l=>if t=d then (d,v)::l else (d,x)::setL t v l
def aa(v:LV)(g j p:Prop):Prop:=match v with
 |.bool t=>R0 t g j
 |.tup []=>p
 |_=>False
def Vx(P:Program)(x:LI)(g:Ml)(G:Mh)(p:Ml→Mh→Prop):Prop:=match x.g with
 |none=>M8 P g G x.o λv j=>p (Rb g x.d v) j
 |some (t,true)=>aa (lk g t) (M8 P (setL t (.bool true) g) G x.o λv j=>p (Rb (setL t (.bool true) g) x.d v) j) (p (Rb (setL t (.bool false) g) x.d (.tup [])) G) (p (Rb g x.d (.tup [])) G)
 |some (t,false)=>aa (lk g t) (p (Rb (setL t (.bool true) g) x.d (.tup [])) G) (M8 P (setL t (.bool false) g) G x.o λv j=>p (Rb (setL t (.bool false) g) x.d v) j) (p (Rb g x.d (.tup [])) G)
def Xu{v:LV}{g:Prop}(h:uh v vL g):∃b,v=.bool b∧(b=true→vL)∧(b=false→g):=by
 cases v with
 |bool b=>exact⟨b,rfl,h⟩
 |_=>exact h.elim
def zmd{v:LV}{g j:Prop}(h:aa v vL g j):(∃b,v=.bool b∧(b=true→vL)∧(b=false→g))∨v=.tup []∧j:=by
 unfold aa at h;split at h
 ·exact .inl ⟨_,rfl,h⟩
 ·exact .inr ⟨rfl,h⟩
 ·exact h.elim
def ztb{P:Program}{x:LI}{t:Nat}{w:Bool}(p:x.g=some (t,w)){g:Ml}{G:Mh}{j:Ml→Mh→Prop}(h:Vx P x g G j) :
  (∃b,lk g t=.bool b∧(b=w→M8 P (setL t (.bool w) g) G x.o λv z=>j (Rb (setL t (.bool w) g) x.d v) z)∧(b=!w→j (Rb (setL t (.bool (!w)) g) x.d (.tup [])) G))∨lk g t=.tup []∧j (Rb g x.d (.tup [])) G:=by
 unfold Vx at h;rw[p]at h;cases w with
 |true=>exact zmd h
 |false =>
  rcases zmd h with ⟨b,e,A,B⟩|h
  ·exact .inl ⟨b,e,B,A⟩
  ·exact .inr h
def Sm(P:Program):List LI→Ml→Mh→(Ml→Mh→Prop)→Prop
 |[],g,G,j=>j g G
 |x::l,g,G,j=>Vx P x g G λp z=>Sm P l p z j
def Nl.put{c:Cx}{ρ:Ml}{E:Tr AV}(h:Nl c ρ E){v:LV}{a:AV}(ha:AR c v a)(d:Option Nat):Nl c (Rb ρ d v) (N9 d a E):=by
 cases d with
 |none=>exact h
 |some d =>
  intro t;show AR c (lk ((d,v)::ρ) t) ((Mm (Mx t) (Nv a (Mx d) E)).getD Qv);rw[x5,yg];by_cases e:t=d
  ·rw[Hs e,Hs e];exact ha
  ·rw[Hq e,Hq e];exact h t
def zt9(t:Nat)(v:LV):∀(p:Ml) (g:Nat),lk (setL t v p) g=lk p g∨(g=t∧lk (setL t v p) g=v)
 |[],_=>.inl rfl
 |(d,x)::l,g=>by
  simp only[setL];by_cases h:t=d
  ·rw[Hs h];simp only[yg];by_cases j:g=d
   ·rw[Hs j];exact .inr ⟨J,rfl⟩
   ·rw[Hq j,Hq j];exact .inl rfl
  ·rw[Hq h];simp only[yg];by_cases j:g=d
   ·rw[Hs j,Hs j];exact .inl rfl
   ·rw[Hq j,Hq j];exact zt9 t v l g
def Nl.setL{c:Cx}{ρ:Ml}{E:Tr AV}(h:Nl c ρ E){t:Nat}{v:LV}(ha:AR c v ((Mm (Mx t) E).getD Qv)):Nl c (Sv.setL t v ρ) E:=by
 intro t';rcases zt9 t v ρ t' with e|⟨rfl,e⟩
 ·rw[e];exact h t'
 ·rw[e];exact ha
section run
variable {P : Program} {c : Cx} {G : Mh}
def Xd(M:HSim c G){Q:Ml}(z:Nl c Q F){x:LI}(R:x.o.ok=true){gg:Ml→Mh→Prop}(h:Vx P x Q G gg) :
  ∃m I j K p,au P x.r (Qt P (OL P) m) F c.H=.ok I j.H∧HSim j p∧Step c G j p∧Nl j K I∧gg K p:=by
 have C:∀Q,Nl c Q F→(M8 P Q G x.o λv p=>gg (Rb Q x.d v) p)→Ws x.g F=true→∃m I j K p,au P x.r (Qt P (OL P) m) F c.H=.ok I j.H∧HSim j p∧Step c G j p∧Nl j K I∧gg K p:=by
  intro Q z h L;have D:=m6 M z R h;unfold Qy at D;unfold au;rw[show x.r.g=x.g from rfl,L];dsimp only[LI.r];cases S:Nu P (ρA F) c.H x.o.r with
  |no=>rw[S]at D;exact D.elim
  |val v1 H' =>
   rw[S]at D;obtain⟨j,v,p,rfl,T,N,q4,q5⟩:=D;exact⟨0,_,j,_,p,rfl,T,N,(z.mono N.le).put q4 x.d,q5⟩
  |call t1 E =>
   rw[S]at D;obtain⟨t,Y,q1,T,_,N⟩:=D;obtain⟨m,v1,H',r1,j,v,p,rfl,r3,Z,r5,r6⟩:=N c t1 E M q1 T;refine⟨m,_,j,_,p,?_,r3,Z,(z.mono Z.le).put r5 x.d,r6⟩;dsimp only;rw[r1]
 cases A:x.g with
 |none =>
  unfold Vx at h;rw[A]at h;exact C Q z h Eg
 |some tw =>
  obtain⟨t,w⟩:=tw;have L:=A;rcases ztb A h with ⟨b,V,h⟩|⟨V,h⟩
  rotate_left
  ·have B:=z t;rw[V]at B;have H:Ws x.g F=false:=by
    rw[L];unfold Ws;dsimp only;cases O:Mm (Mx t) F with
    |none=>rfl
    |some a=>rw[O]at B;cases B;rfl
   refine⟨0,_,c,_,G,?_,M,.refl c G,z.put (.tup .nil) x.d,h⟩;unfold au;rw[show x.r.g=x.g from rfl,H];rfl
  ·have B:=z t;rw[V]at B;have g:Mm (Mx t) F=some (.bool b):=by
    cases O:Mm (Mx t) F with
    |none=>rw[O]at B;cases B
    |some a=>rw[O]at B;cases B;rfl
   by_cases e:b=w
   ·refine C _ (z.setL (by rw[g,←e];exact .bool b)) (h.1 e) ?_;rw[L];unfold Ws;dsimp only;rw[g,e];cases w<;>rfl
   ·have X:b=!w:=by cases b<;>cases w<;>simp_all
    refine⟨0,_,c,_,G,?_,M,.refl c G,(z.setL (by rw[g,←X];exact .bool b)).put (.tup .nil) x.d,h.2 X⟩;have H:Ws x.g F=false:=by
     rw[L];unfold Ws;dsimp only;rw[g,X];cases w<;>rfl
    unfold au;rw[show x.r.g=x.g from rfl,H];rfl
def ztp{n:Nat}{ops:Array Oper}:∀{l:List LI} {j:List Oper} {c:Cx} {G:Mh} {K:Ml} {L:Tr AV} {M:Ml→Mh→Prop},ue P n ops j=some (lis l)→l.all (·.o.ok)=true→HSim c G→Nl c K L→Sm P l K G M →
  ∃m N A B z,(ac P n ops j).run (Qt P (OL P) m) L c.H=.ok N A.H∧HSim A z∧Step c G A z∧Nl A B N∧M B z
 |[],j,c,G,K,L,M,g,_,C,D,h=>by
  cases j with
  |nil=>exact⟨0,L,c,K,G,rfl,C,.refl c G,D,h⟩
  |cons o j =>
   simp only[ue]at g;split at g
   ·cases g
   ·split at g<;>cases g
 |x::l,j,c,G,K,L,M,g,p,C,D,h=>by
  cases j with
  |nil=>cases g
  |cons o j =>
   simp only[ue]at g;split at g
   ·cases g
   ·rename_i r E;split at g
    ·cases g
    ·rename_i rs F;simp only[lis,Option.some.injEq,List.cons.injEq]at g;obtain⟨rfl,rfl⟩:=g;simp only[Jx,Hh]at p;obtain⟨H,E1,c1,ρ1,G1,Q,O,R,S,T⟩:=Xd C D p.1 (show Vx P x K G λB z=>Sm P l B z M from h);obtain⟨I,V,X,Y,Z,q1,q2,q3,q4,q5⟩:=ztp F p.2 O S T;refine⟨max H I,V,X,Y,Z,?_,q2,.trans C O R q3,q4,q5⟩;simp only[ac];rw[ze4 E,zrh (ai (J0 H I)) Q];dsimp only;exact zas (ai (Kx H I)) q1
end run
end
end
section
noncomputable section
inductive RC where
 |skip
 |ops (l:List RI)
 |draw (l:List (RI×List (RI×Bool)))
 |seq (a b:RC)
 |cond (c:Ox) (a b:RC)
 |block (id:Nat) (c:RC)
 |loop (c:RC)
 |rangeF (g:Ox) (ps:List Nat) (a b:RC)
 |exit (id:Nat)
 |scope (c:RC)
 |label
 |ret
 |stuck
inductive LC where
 |skip
 |ops (l:List LI)
 |draw (l:List (LI×List (LI×Bool)))
 |seq (a b:LC)
 |cond (c:Lx) (a b:LC)
 |block (id:Nat) (c:LC)
 |loop (c:LC)
 |rangeF (g:Lx) (ps:List Nat) (a b:LC)
 |exit (id:Nat)
 |scope (c:LC)
 |label
 |ret
 |stuck
def T1(t:Nat):List Nat→Bool
 |[]=>false
 |a::l=>match Nat.beq t a with
  |true=>true
  |false=>T1 t l
def Ve(ops:Array Oper)(d:Option Nat)(x:DOp):Bool:=match d with
 |none=>true
 |some d=>match T1 d (S8 ops x.o) with
  |true=>false
  |false=>match x.o.dst with
   |none=>true
   |some e=>!(Nat.beq d e)
def S9(x:DOp):Bool:=match x.c with
 |.al=>true
 |_=>false
def ua(P:Program)(n:Nat)(ops:Array Oper):List DOp→Option (List (RI×Bool))
 |[]=>some []
 |x::l=>match fh P n ops x.o with
  |none=>none
  |some r=>match ua P n ops l with
   |none=>none
   |some g=>some ((r,S9 x)::g)
def xb:Cls→Cls→Bool
 |.quiet,.quiet=>true
 |.rd,.rd=>true
 |.al,.al=>true
 |.ch,.ch=>true
 |_,_=>false
def nu(ops:Array Oper)(x:DOp):Bool:=match x.o.dst with
 |none=>false
 |some d=>!(T1 d (S8 ops x.o))
def io(P:Program)(n:Nat)(ops:Array Oper):List DOp→List DOp→Option (List (RI×List (RI×Bool)))
 |[],_=>some []
 |x::l,g=>match Tz (Ve ops x.o.dst) g&&xb x.c (cls P x.o.op) with
  |false=>none
  |true=>match fh P n ops x.o with
   |none=>none
   |some r=>match x.c with
    |.quiet=>match io P n ops l g with
     |none=>none
     |some j=>some ((r,[])::j)
    |.rd=>match nu ops x with
     |false=>none
     |true=>match io P n ops l (x::g) with
      |none=>none
      |some j=>some ((r,[])::j)
    |.al=>match nu ops x with
     |false=>none
     |true=>match ua P n ops g with
      |none=>none
      |some p=>match io P n ops l (x::g) with
       |none=>none
       |some j=>some ((r,p)::j)
    |.ch=>match ua P n ops (Nd (λy=>!(Nat.testBit x.m y.i)) g) with
     |none=>none
     |some p=>match io P n ops l (Nd (λy=>!(Nat.testBit x.m y.i)) g) with
      |none=>none
      |some j=>some ((r,p)::j)
def zox(P:Program)(n:Nat)(ops:Array Oper):Option (List (RI×List (RI×Bool))) :=
 let p:=Pl P ops ops.toList [] 0;let g:=Nd Mp p;let j:=vm p g
 match zt4 ops.size p j with
 |true=>io P n ops j []
 |false=>none
def Na(P:Program)(n:Nat):Code→Option RC
 |.skip=>some .skip
 |.region _ ops draw=>match draw with
  |true=>match zox P n ops with
   |none=>some .stuck
   |some l=>some (.draw l)
  |false=>match ue P n ops ops.toList with
   |none=>some .stuck
   |some l=>some (.ops l)
 |.seq a b=>match Na P n a with
  |none=>none
  |some a=>match Na P n b with
   |none=>none
   |some b=>some (.seq a b)
 |.cond c a b=>match Nn c with
  |none=>none
  |some c=>match Na P n a with
   |none=>none
   |some a=>match Na P n b with
    |none=>none
    |some b=>some (.cond c a b)
 |.block id c=>match Na P n c with
  |none=>none
  |some c=>some (.block id c)
 |.loop c=>match Na P n c with
  |none=>none
  |some c=>some (.loop c)
 |.rangeFunc g j a b=>match Nn g with
  |none=>none
  |some g=>match Na P n a with
   |none=>none
   |some a=>match Na P n b with
    |none=>none
    |some b=>some (.rangeF g j.toList a b)
 |.exit id=>some (.exit id)
 |.scope c=>match Na P n c with
  |none=>none
  |some c=>some (.scope c)
 |.label _=>some .label
 |.ret=>some .ret
 |_=>some .stuck
def rck:List (LI×Bool)→List (RI×Bool)
 |[]=>[]
 |(x,b)::l=>(x.r,b)::rck l
def i7:List (LI×List (LI×Bool))→List (RI×List (RI×Bool))
 |[]=>[]
 |(x,c)::l=>(x.r,rck c)::i7 l
def LC.r:LC→RC
 |.skip=>.skip
 |.ops l=>.ops (lis l)
 |.draw l=>.draw (i7 l)
 |.seq a b=>.seq a.r b.r
 |.cond c a b=>.cond c.r a.r b.r
 |.block id c=>.block id c.r
 |.loop c=>.loop c.r
 |.rangeF g ps a b=>.rangeF g.r ps a.r b.r
 |.exit id=>.exit id
 |.scope c=>.scope c.r
 |.label=>.label
 |.ret=>.ret
 |.stuck=>.stuck
def LC.ok:LC→Bool
 |.ops l=>l.all (·.o.ok)
 |.draw l=>l.all λx=>x.1.o.ok&&x.2.all (·.1.o.ok)
 |.seq a b=>a.ok&&b.ok
 |.cond c a b=>c.ok&&a.ok&&b.ok
 |.block _ c=>c.ok
 |.loop c=>c.ok
 |.rangeF g _ a b=>g.ok&&a.ok&&b.ok
 |.scope c=>c.ok
 |_=>true
abbrev O7:=Ex→Ml→List Nat→Mh→Prop
inductive DRs (c:Cx):List Nat→List Nat→Prop where
 |nil:DRs c [] []
 |cons {p o:Nat} {l r:List Nat} (h:c.hd[p]?=some (0,.ptr o 0 0)) (hs:DRs c l r):DRs c (p::l) (o::r)
def DRs.mono{c c':Cx}(h:CxLe c c'):∀{l r:List Nat},DRs c l r→DRs c' l r
 |_,_,.nil=>.nil
 |_,_,.cons e es=>.cons (h.fix e rfl) (DRs.mono h es)
def yx(c:Cx):Option Nat→Option Nat→Prop
 |none,none=>True
 |some g,some o=>c.hd[g]?=some (0,.ptr o 0 0)
 |_,_=>False
def yx.mono{c c':Cx}(h:CxLe c c'){a b:Option Nat}(k:yx c a b):yx c' a b:=by
 cases a<;>cases b<;>first|exact k|exact h.fix k rfl
def W(P:Program)(f n:Nat)(s:LC)(ro:Option Nat)(ρ:Ml)(D:List Nat)(G:Mh)(Q:O7):Prop :=
 ∀(g:Code) (c:Cx) (H:Tr AV) (B:List Nat) (j:Option Nat),Na P n g=some s.r→s.ok=true→HSim c G→Nl c ρ H→DRs c D B→yx c ro j →
  ∃m x C p z E F A,(Ot P f n g).run (Qt P (OL P) m) m j H B c.H=.ok x C p z.H∧HSim z A∧Step c G z A∧Nl z E C∧DRs z F p∧Q x E F A
section rules
variable {P : Program} {f n : Nat} {ro : Option Nat} {ρ : Ml} {D : List Nat} {G : Mh} {Q : O7}
def W.post{s:LC}{Q':O7}(h:W P f n s ro ρ D G Q)(hq:∀x ρ D G,Q x ρ D G→Q' x ρ D G):W P f n s ro ρ D G Q':=by
 intro code c E D1 gg h1 h2 h3 h4 h5 h6;obtain⟨m,x,E',gA,c',ρ',D',G',q1,q2,q3,q4,q5,q6⟩:=h code c E D1 gg h1 h2 h3 h4 h5 h6;exact⟨m,x,E',gA,c',ρ',D',G',q1,q2,q3,q4,q5,hq _ _ _ _ q6⟩
def Z8(h:Na P n vM=some .skip):vM=.skip:=by
 cases vM<;>simp only[Na]at h<;>first|rfl|(repeat' split at h)<;>cases h
def d5{l:List RI}(h:Na P n vM=some (.ops l)):∃id ops,vM=.region id ops false∧ue P n ops ops.toList=some l:=by
 cases vM<;>simp only[Na]at h<;>(repeat' split at h)<;>cases h;exact⟨_,_,rfl,‹_›⟩
def Yp{l:List (RI×List (RI×Bool))}(h:Na P n vM=some (.draw l)):∃id ops,vM=.region id ops true∧zox P n ops=some l:=by
 cases vM<;>simp only[Na]at h<;>(repeat' split at h)<;>cases h;exact⟨_,_,rfl,‹_›⟩
def ig{a b:RC}(h:Na P n vM=some (.seq a b)):∃g j,vM=.seq g j∧Na P n g=some a∧Na P n j=some b:=by
 cases vM<;>simp only[Na]at h<;>(repeat' split at h)<;>cases h;exact⟨_,_,rfl,‹_›,‹_›⟩
def X8{x:Ox}{a b:RC}(h:Na P n vM=some (.cond x a b)):∃g j p,vM=.cond g j p∧Nn g=some x∧Na P n j=some a∧Na P n p=some b:=by
 cases vM<;>simp only[Na]at h<;>(repeat' split at h)<;>cases h;exact⟨_,_,_,rfl,‹_›,‹_›,‹_›⟩
def zvh{id:Nat}{a:RC}(h:Na P n vM=some (.block id a)):∃g,vM=.block id g∧Na P n g=some a:=by
 cases vM<;>simp only[Na]at h<;>(repeat' split at h)<;>cases h;exact⟨_,rfl,‹_›⟩
def Zo{a:RC}(h:Na P n vM=some (.loop a)):∃g,vM=.loop g∧Na P n g=some a:=by
 cases vM<;>simp only[Na]at h<;>(repeat' split at h)<;>cases h;exact⟨_,rfl,‹_›⟩
def Yg{id:Nat}(h:Na P n vM=some (.exit id)):vM=.exit id:=by
 cases vM<;>simp only[Na]at h<;>(repeat' split at h)<;>cases h;rfl
def zwa{a:RC}(h:Na P n vM=some (.scope a)):∃g,vM=.scope g∧Na P n g=some a:=by
 cases vM<;>simp only[Na]at h<;>(repeat' split at h)<;>cases h;exact⟨_,rfl,‹_›⟩
def zvm(h:Na P n vM=some .label):∃s,vM=.label s:=by
 cases vM<;>simp only[Na]at h<;>(repeat' split at h)<;>cases h;exact⟨_,rfl⟩
def fx(h:Na P n vM=some .ret):vM=.ret:=by
 cases vM<;>simp only[Na]at h<;>first|rfl|(repeat' split at h)<;>cases h
def n7(h:Q .normal ρ D G):W P f n .skip ro ρ D G Q:=by
 intro g c E j p z F A B C H;obtain rfl:=Z8 z;exact⟨0,.normal,E,j,c,ρ,D,G,rfl,A,.refl c G,B,C,h⟩
def dx(h:Q .normal ρ D G):W P f n .label ro ρ D G Q:=by
 intro g c E j p z F A B C H;obtain⟨s,rfl⟩:=zvm z;exact⟨0,.normal,E,j,c,ρ,D,G,rfl,A,.refl c G,B,C,h⟩
def ow{id:Nat}(h:Q (.exit id) ρ D G):W P f n (.exit id) ro ρ D G Q:=by
 intro g c E j p z F A B C H;obtain rfl:=Yg z;exact⟨0,.exit id,E,j,c,ρ,D,G,rfl,A,.refl c G,B,C,h⟩
def zi(h:Q .ret ρ D G):W P f n .ret ro ρ D G Q:=by
 intro g c E j p z F A B C H;obtain rfl:=fx z;exact⟨0,.ret,E,j,c,ρ,D,G,rfl,A,.refl c G,B,C,h⟩
def d8{s:LC}(h:W P f n s ro ρ D G Q):W P f n (.scope s) ro ρ D G Q:=by
 intro p c K z g A B C E F H;obtain⟨I,rfl,j⟩:=zwa A;exact h I c K z g j B C E F H
def wj{l:List LI}(h:Sm P l ρ G λg j=>Q .normal g D j):W P f n (.ops l) ro ρ D G Q:=by
 intro p c V A B C E F H I T;obtain⟨id,ops,rfl,K⟩:=d5 C;obtain⟨m,L,M,g,j,N,O,z,R,S⟩:=ztp K E F H h;refine⟨m,.normal,L,A,M,g,D,j,?_,O,z,R,I.mono z.le,S⟩;simp only[Ot];rw[N]
def y9{a b:LC}(h:W P f n a ro ρ D G λx j p z=>match x with
  |.normal=>W P f n b ro j p z Q
  |x=>Q x j p z):W P f n (.seq a b) ro ρ D G Q:=by
 intro R c gg V A X F S Y Z T;obtain⟨ca,cb,rfl,ha,hb⟩:=ig X;simp only[LC.ok,Hh]at F;obtain⟨m,x,H,g,I,j,p,z,K,C,E,L,M,N⟩:=h ca c gg V A ha F.1 S Y Z T;cases x with
 |normal =>
  obtain⟨B,x,E2,D2,c2,ρ2,O,G2,r1,r2,r3,r4,r5,r6⟩:=N cb I H g A hb F.2 C L M (T.mono E.le);refine⟨max m B,x,E2,D2,c2,ρ2,O,G2,?_,r2,.trans S C E r3,r4,r5,r6⟩;simp only[Ot];rw[jt (ai (J0 m B)) (J0 m B) _ K];exact jt (ai (Kx m B)) (Kx m B) _ r1
 |exit id =>
  refine⟨m,.exit id,H,g,I,j,p,z,?_,C,E,L,M,N⟩;simp only[Ot];rw[K]
 |ret =>
  refine⟨m,.ret,H,g,I,j,p,z,?_,C,E,L,M,N⟩;simp only[Ot];rw[K]
def pr{x:Lx}{a b:LC}{t:Bool}(Z:x.ev ρ=.bool t)(ha:t=true→W P f n a ro ρ D G Q)(hb:t=false→W P f n b ro ρ D G Q):W P f n (.cond x a b) ro ρ D G Q:=by
 intro R c S T j h1 p V z X Y;obtain⟨cx,ca,cb,rfl,A,B,C⟩:=X8 h1;simp only[LC.ok,Hh]at p;have E:=Nt z p.1.1;have F:=Se A (zo6 S);have H:x.r.ev (ρA S)=.bool t:=by
  rw[Z]at E;generalize x.r.ev (ρA S)=w at E;cases E;rfl
 rw[H]at F;cases t with
 |true =>
  obtain⟨m,x,I,g,K,L,M,N,O,q⟩:=ha rfl ca c S T j B p.1.2 V z X Y;refine⟨m,x,I,g,K,L,M,N,?_,q⟩;simp only[Ot];rw[F];exact O
 |false =>
  obtain⟨m,x,I,g,K,L,M,N,O,q⟩:=hb rfl cb c S T j C p.2 V z X Y;refine⟨m,x,I,g,K,L,M,N,?_,q⟩;simp only[Ot];rw[F];exact O
def fv{id:Nat}{s:LC}(h:W P f n s ro ρ D G λx j p z=>match x with
  |.exit i=>if i=id then Q .normal j p z else Q (.exit i) j p z
  |x=>Q x j p z):W P f n (.block id s) ro ρ D G Q:=by
 intro N c gg O L R S T V X Y;obtain⟨Z,rfl,M⟩:=zvh R;obtain⟨m,x,B,g,C,j,p,z,E,F,H,I,K,A⟩:=h Z c gg O L M S T V X Y;cases x with
 |normal =>
  refine⟨m,.normal,B,g,C,j,p,z,?_,F,H,I,K,A⟩;simp only[Ot];rw[E]
 |exit i =>
  dsimp only at A;by_cases e:i=id
  ·rw[Hs e]at A;refine⟨m,.normal,B,g,C,j,p,z,?_,F,H,I,K,A⟩;simp only[Ot];rw[E,e];dsimp only;rw[Ii]
  ·rw[Hq e]at A;refine⟨m,.exit i,B,g,C,j,p,z,?_,F,H,I,K,A⟩;simp only[Ot];rw[E];dsimp only;cases hb:Nat.beq i id with
   |true=>exact absurd (Hn hb) e
   |false=>rfl
 |ret =>
  refine⟨m,.ret,B,g,C,j,p,z,?_,F,H,I,K,A⟩;simp only[Ot];rw[E]
def sk{s:LC}(gE:Ml→List Nat→Mh→Nat→Prop)(h0:gE ρ D G g)
  (h:∀g ρ D G,gE ρ D G g→W P f n s ro ρ D G λx z A p=>match x with
   |.normal=>∃L,L<g∧gE z A p L
   |x=>Q x z A p):W P f n (.loop s) ro ρ D G Q:=by
 intro gD c gC F E h1 h2 M S T N;obtain⟨ca,rfl,V⟩:=Zo h1;have X:∀g,∀(c:Cx) (gC:Tr AV) (F:List Nat) (ρ:Ml) (D:List Nat) (G:Mh),gE ρ D G g→HSim c G→Nl c ρ gC→DRs c D F→yx c ro E →
   ∃m H x C j B z A p,Xx ((Ot P f n ca).run (Qt P (OL P) m) m E) H gC F c.H=.ok x C j B.H∧HSim B p∧Step c G B p∧Nl B z C∧DRs B A j∧Q x z A p:=by
  intro g
  induction g using Nat.strongRecOn with
  |_ g ih =>
   intro c gC F ρ D G hI M S T N;obtain⟨m,x,C,j,B,z,A,p,I,O,R,Y,Z,q6⟩:=h g ρ D G hI ca c gC F E V h2 M S T N;cases x with
   |normal =>
    obtain⟨L,hN,gg⟩:=q6;obtain⟨K,gA,x,E2,D2,c2,ρ2,gB,G2,r1,r2,r3,r4,r5,r6⟩:=ih L hN B C j z A p gg O Y Z (N.mono R.le);refine⟨max m K,gA+1,x,E2,D2,c2,ρ2,gB,G2,?_,r2,.trans M O R r3,r4,r5,r6⟩;simp only[Xx];rw[jt (ai (J0 m K)) (J0 m K) _ I];exact zb6 (λ_ _ _ _ _ _ _ e=>jt (ai (Kx m K)) (Kx m K) _ e) (Hm _) r1
   |exit id =>
    refine⟨m,1,.exit id,C,j,B,z,A,p,?_,O,R,Y,Z,q6⟩;simp only[Xx];rw[I]
   |ret =>
    refine⟨m,1,.ret,C,j,B,z,A,p,?_,O,R,Y,Z,q6⟩;simp only[Xx];rw[I]
 obtain⟨m,H,x,C,j,B,z,A,p,I,q⟩:=X g c gC F ρ D G h0 M S T N;refine⟨max m H,x,C,j,B,z,A,p,?_,q⟩;simp only[Ot];exact zb6 (λ_ _ _ _ _ _ _ e=>jt (ai (J0 m H)) (J0 m H) _ e) (Kx m H) I
end rules
inductive RRes where
 |tmp (t:Nat)
 |cell1 (t:Nat)
 |cellN (t n:Nat)
def om(P:Program):ResultVar→Option RRes
 |.tmp t=>match Nat.ble t M1 with
  |true=>some (.tmp t)
  |false=>none
 |.cell a t=>match Nat.ble a M1 with
  |true=>match Ro P t,N7 P t with
   |some true,some n=>some (.cellN a n)
   |some false,some _=>some (.cell1 a)
   |_,_=>none
  |false=>none
def U6(P:Program):List ResultVar→Option (List RRes)
 |[]=>some []
 |r::l=>match om P r with
  |none=>none
  |some a=>match U6 P l with
   |none=>none
   |some b=>some (a::b)
structure RF where
 n:Nat
 c:RC
 rs:List RRes
def Mt(P:Program)(f:Nat):Option RF :=
 match gt P f && !(s9 P f) && !(zsq P f) with
 |false=>none
 |true=>match P.funcs[f]? with
  |none=>none
  |some fn=>match fn.body with
   |none=>none
   |some b=>match Nat.ble fn.ntmps M1 with
    |false=>none
    |true=>match Na P fn.ntmps b with
     |none=>none
     |some c=>match U6 P fn.results.toList with
      |none=>none
      |some g=>some ⟨fn.ntmps,c,g⟩
def Qi(ρ:Ml)(G:Mh):List RRes→(List LV→Prop)→Prop
 |[],j=>j []
 |r::l,j=>match r with
  |.tmp t=>Qi ρ G l λg=>j (lk ρ t::g)
  |.cell1 t=>Vc G (lk ρ t) λv=>Qi ρ G l λg=>j (v::g)
  |.cellN t n=>Ui G (lk ρ t) n λp=>Qi ρ G l λg=>j (.agg p::g)
def T4:List LV→LV
 |[v]=>v
 |l=>.tup l
def aw:List LV→Nat→Ml
 |[],_=>[]
 |v::l,i=>(i,v)::aw l (i+1)
def iu:List Nat→Mh→(Mh→Prop)→Prop
 |[],G,g=>g G
 |d::l,G,g=>match G[d]? with
  |some (.defd true)=>iu l (G.set d (.defd false)) g
  |_=>False
section fns
variable {P : Program}
def zy{c:Cx}{G:Mh}{ρ:Ml}{H:Tr AV}(A:HSim c G)(z:Nl c ρ H):∀{l:List ResultVar} {F:List RRes} {I:List LV→Prop},U6 P l=some F→Qi ρ G F I→∃g as,(kg P l).run H c.H=some as∧ARs c g as∧I g
 |[],F,I,h,k=>by cases h;exact⟨[],[],rfl,.nil,k⟩
 |r::l,F,I,h,k=>by
  simp only[U6]at h;split at h
  ·cases h
  ·rename_i a j;split at h
   ·cases h
   ·rename_i b K;cases h;simp only[kg];cases r with
    |tmp t =>
     simp only[om]at j;split at j
     ·rename_i L;cases j;obtain⟨g,as,B,C,E⟩:=zy A z K (show Qi ρ G b (λg=>I (lk ρ t::g)) from k);have p:(M0 (.tmp t)).run H=some ((Mm (Mx t) H).getD Qv):=by
       unfold M0;dsimp only;rw[L];dsimp only;cases Mm (Mx t) H<;>rfl
      refine⟨_,_,?_,.cons (z t) C,E⟩;simp only[resF];rw[p,B]
     ·cases j
    |cell t X =>
     simp only[om]at j;split at j
     ·rename_i L;have p:(M0 (.tmp t)).run H=some ((Mm (Mx t) H).getD Qv):=by
       unfold M0;dsimp only;rw[L];dsimp only;cases Mm (Mx t) H<;>rfl
      split at j
      ·rename_i m M N;cases j;obtain⟨o,v,i,Y,V,O,R,S,T⟩:=zkq A (z t) (show Ui G (lk ρ t) m (λV=>Qi ρ G b λg=>I (.agg V::g)) from k);obtain⟨g,as,B,C,E⟩:=zy A z K T;refine⟨_,_,?_,.cons (.agg S) C,E⟩;simp only[Sv.resF,M,N];rw[p,O];dsimp only;rw[R,B]
      ·rename_i m M N;cases j;obtain⟨o,v,i,w,Z,O,R,S,T⟩:=zq4 A (z t) (show Vc G (lk ρ t) (λv=>Qi ρ G b λg=>I (v::g)) from k);obtain⟨g,as,B,C,E⟩:=zy A z K T;refine⟨_,_,?_,.cons S C,E⟩;simp only[Sv.resF,M,N];rw[p,O];dsimp only;rw[R];dsimp only;rw[B]
      ·cases j
     ·cases j
end fns
end
end
section
section fns
variable {P : Program}
def lk_argsL:∀(l:List LV) (i t:Nat),lk (aw l i) t=if i≤t∧t<i+l.length then l.getD (t-i) .any else .any
 |[],i,t=>by simp only[aw,Zh,List.length_nil];rw[Hq J]
 |v::l,i,t=>by
  simp only[aw,yg,Ie];rw[lk_argsL l (i+1) t];by_cases h:t=i
  ·subst h;rw[Hs rfl,Hs J];simp
  ·rw[Hq h];by_cases g:i+1≤t∧t<i+1+l.length
   ·rw[Hs g,Hs J,show t-i=(t-(i+1))+1 from J];simp
   ·rw[Hq g,Hq J]
def Nl.start{c:Cx}{args:List LV}{gg:List AV}(h:ARs c args gg):Nl c (aw args 0) (Ou gg 0 .e):=by
 intro t;rw[lk_argsL,get_ofList,Vf];have hl:=h.length;by_cases ht:t<args.length
 ·rw[Hs J,Hs J];obtain⟨a,q1,q2⟩:=h.get (Hj ht);rw[Nat.sub_zero,q1,Hr,Hj ht];exact q2
 ·rw[Hq J];exact .any _
def zpy{S:Mh→Prop}:∀{H:List Nat} {E:List Nat} {c:Cx} {A:Mh},DRs c H E→HSim c A→iu H A S→∃j p,sa E c.H=some j.H∧HSim j p∧Step c A j p∧S p
 |[],_,c,A,.nil,g,h=>⟨c,A,rfl,g,.refl c A,h⟩
 |d::H,_,c,A,.cons (o:=o) e I,g,h=>by
  simp only[iu]at h;split at h
  ·rename_i B;obtain⟨_,F,C,z⟩:=g.obj d _ _ _ B e;injection C with C
   subst C;obtain⟨G,K,L⟩:=g.upd (k':=0) (x':=.ptr o 0 0) (ob':=.defd false) (H':=c.H.put o (.defd false)) B rfl e (Hm _) (λF _ D=>Heap.get_put_ne _ _ (λq=>D D0))
    (λF M=>by cases M;exact⟨.inl rfl,g.lt o ⟨d,_,_,_,B,rfl,e,rfl⟩⟩) (Hm _) (λ_=>rfl) (λ_=>rfl) (.inr ⟨rfl,Hm _⟩) (λ_=>⟨rfl,o,rfl,Heap.get_put_same _ _ _⟩)
   obtain⟨j,p,N,O,Q,R⟩:=zpy (I.mono L) G h;refine⟨j,p,?_,O,.trans g G K Q,R⟩;simp only[sa];rw[z];exact N
  ·exact h.elim
def yh:List AV→AV
 |[v]=>v
 |l=>.tup l
def zsk{f:Nat}{s:LC}{n:Nat}{N:List RRes}(g:Mt P f=some ⟨n,s.r,N⟩)(D:s.ok=true)(hn:G.length≤n)
  (h:W P f n s none (aw G 0) [] L λx ρ gB O=>(match x with | .exit _=>False|_=>True)∧iu gB O λB=>Qi ρ B N λC=>Q (T4 C) B):Qq P (.fn f) G L Q:=by
 unfold Mt at g;split at g
 ·cases g
 ·rename_i j;simp only[Hh,Ki]at j;refine⟨j.1,λc t1 p R S T=>?_⟩;cases t1 with
  |yield o=>exact S.elim
  |fn gC =>
   obtain rfl:f=gC:=S;split at g
   ·cases g
   ·rename_i fn E;split at g
    ·cases g
    ·rename_i b hb;split at g
     ·cases g
     ·rename_i z;split at g
      ·cases g
      ·rename_i rc F;split at g
       ·cases g
       ·rename_i gg H;cases g;obtain⟨m,x,E',gA,c',ρ',D',O,q1,V,q3,q4,q5,q6,q7⟩:=h b c _ [] none F D R (Nl.start T) .nil trivial;obtain⟨I,B,X,Y,Z,r4⟩:=zpy q5 V q7;obtain⟨C,as,s1,s2,s3⟩:=zy Y (q4.mono Z.le) H r4;have A:AR I (T4 C) (yh as):=by
         cases s2 with
         |nil=>exact .tup .nil
         |cons e es =>
          cases es with
          |nil=>exact e
          |cons e2 K=>exact .tup (.cons e (.cons e2 K))
        refine⟨m+1,yh as,I.H,?_,I,T4 C,B,rfl,Y,.trans R V q3 Z,A,s3⟩;unfold Qt;dsimp only;rw[v8 j.2];dsimp only;unfold o9;rw[E];dsimp only;rw[hb];dsimp only;rw[Hs (Hw z)];dsimp only;have M:Nat.ble p.length fn.ntmps=true:=Ho (by rw[←T.length];exact hn);rw[M];dsimp only;rw[q1];dsimp only;cases x with
        |exit id=>exact q6.elim
        |normal =>
         dsimp only;rw[X];dsimp only;rw[s1];rcases as with _|⟨a,_|⟨a2,as⟩⟩<;>rfl
        |ret =>
         dsimp only;rw[X];dsimp only;rw[s1];rcases as with _|⟨a,_|⟨a2,as⟩⟩<;>rfl
def Qq.mono{t:LTgt}{args:List LV}{G:Mh}{K K':LV→Mh→Prop}(h:Qq P t args G K)(hk:∀v G,K v G→K' v G):Qq P t args G K' :=
 ⟨h.1,λc t1 gg h1 h2 h3=>by
  obtain⟨m,v1,H',q1,c',v,G',q2,q3,q4,q5,q6⟩:=h.2 c t1 gg h1 h2 h3;exact⟨m,v1,H',q1,c',v,G',q2,q3,q4,q5,hk _ _ q6⟩⟩
mutual
def LV.sim(m:Nat):LV→Bool
 |.bool _ |.u _ |.b _ |.i _ |.int _ _ |.str _ |.nilPtr |.nilSl |.nilMap |.nilFn |.nilIf=>true
 |.dy j k=>k==0&&decide (j<m)
 |.agg l=>sims m l
 |.tup l=>sims m l
 |_=>false
def sims(m:Nat):List LV→Bool
 |[]=>true
 |v::l=>v.sim m&&sims m l
end
mutual
def subV(sel:List LV):LV→LV
 |.dy j _=>sel.getD j .any
 |.agg l=>.agg (subVs sel l)
 |.tup l=>.tup (subVs sel l)
 |v=>v
def subVs(sel:List LV):List LV→List LV
 |[]=>[]
 |v::l=>subV sel v::subVs sel l
end
def xk(g:Nat):LV→Prop
 |.dy q _=>q≠g
 |_=>True
def Zd(z:Mh):List LV→Mh→Prop
 |[],[]=>True
 |.dy B k::s,.dyn l len j g st::A=>g=0∧l.all LV.scal=true∧(∃p,z[B]?=some (.dyn l len j k p))∧st=0∧(∀x∈s,xk B x)∧Zd z s A
 |.nilSl::s,.dyn l len _ g st::A=>g=0∧st=0∧l=[]∧len=0∧Zd z s A
 |_,_=>False
def Ni(P:Program)(f:Nat)(z:List LV)(E:LV)(B:Mh):Prop :=
 ef P (.fn f)∧E.sim B.length=true∧(∀(H:Nat) (F:LObj),B[H]?=some F→∃l len C,F=.dyn l len C 0 0∧l.all LV.scal=true)∧∀(A:Nat→Prop) (D:Heap) (g:List AV),(∀o,A o→o<D.next)→ARs ⟨[],A,D⟩ z g →
  ∃m G j p,Qt P (OL P) m (.fn f) g D=.ok G p∧HSim ⟨j,A,p⟩ B∧AR ⟨j,A,p⟩ E G∧D.next≤p.next∧(∀o,o<D.next→p.get o=D.get o)∧∀o,Ow ⟨j,A,p⟩ B o→D.next≤o
def zha{c g:Cx}:∀{l:List LV} {r:List AV},l.all LV.scal=true→ARs c l r→ARs g l r
 |[],_,_,.nil=>.nil
 |v::l,_,h,.cons e j=>by
  simp only[Jx,Hh]at h;refine .cons ?_ (zha h.2 j);cases v<;>first|(cases h.1;done)|(cases e;constructor)
def HSim.empty{Fz:Nat→Prop}{H:Heap}(h:∀o,Fz o→o<H.next):HSim ⟨[],Fz,H⟩ [] :=
 ⟨rfl,h,λo ⟨p,_,_,_,e,_⟩=>Bt,λo ⟨p,_,_,_,e,_⟩=>Bt,λp _ _ _ e=>Bt,λp _ _ _ _ _ _ _ _ e=>Bt⟩
def zfp{c:Cx}{gA:Mh}(O:HSim c gA):∀{g:List LV} {Q:Mh},Zd gA g Q→∃B:List (Nat×AV),B.length=Q.length ∧
  (∀(j:Nat) (D:LObj) (k:Nat) (h:AV),Q[j]?=some D→B[j]?=some (k,h)→k=0∧(∀R:Cx,R.H=c.H→kr R 0 h D)∧(∃l len F,D=.dyn l len F 0 0∧l.all LV.scal=true) ∧
   ((g[j]?=some .nilSl∧h=.nilSl)∨∃E C,g[j]?=some (.dy E C)∧c.hd[E]?=some (C,h)∧(∀o,Nf h=some o→Ow c gA o)∧∃G,gA[E]?=some G∧G.live=true)) ∧
  (∀(i j E k q C:Nat),g[i]?=some (.dy E k)→g[j]?=some (.dy q C)→E=q→i=j)
 |[],[],_=>⟨[],rfl,λj D k h e=>Bt,λi j E k q C e=>Bt⟩
 |[],_::_,h=>h.elim
 |s::g,[],h=>by cases s<;>exact h.elim
 |s::g,D::Q,h=>by
  cases s<;>cases D<;>first|exact h.elim|skip
  ·rename_i l len F T st;obtain⟨rfl,rfl,rfl,rfl,h⟩:=h;obtain⟨B,V,X,Y⟩:=zfp O h;refine⟨(0,.nilSl)::B,by simp[V],λj D k h p z=>?_,λi j E k q C p z H=>?_⟩
   ·cases j with
    |zero =>
     simp only[H6,Option.some.injEq]at p z;cases p;cases z;exact⟨rfl,λR _=>⟨rfl,U,.inl ⟨rfl,rfl⟩⟩,⟨_,_,_,rfl,rfl⟩,.inl ⟨rfl,rfl⟩⟩
    |succ j=>exact X j D k h B5 A4
   ·cases i with
    |zero=>simp at p
    |succ i=>cases j with
     |zero=>simp at z
     |succ j=>have:=Y i j E k q C B5 A4 H;omega
  ·rename_i E k l len F T st;obtain⟨rfl,I,⟨gB,S⟩,rfl,Z,h⟩:=h;obtain⟨B,V,X,Y⟩:=zfp O h;have hp:E<c.hd.length:=by rw[O.len];exact (Hf.1 S).1
   obtain⟨k0,h0,e0⟩:∃k h,c.hd[E]?=some (k,h):=⟨_,_,Hj hp⟩;have K:=O.obj E _ _ _ S e0;have hk:=K.1;subst hk;have A:∀(j q C:Nat),g[j]?=some (.dy q C)→q≠E:=λj q C e=>Z _ (Im e)
   refine⟨(0,h0)::B,by simp[V],λj D k h p z=>?_,λi j p' k q C p z H=>?_⟩
   ·cases j with
    |zero =>
     simp only[H6,Option.some.injEq]at p z;cases p;cases z;refine⟨rfl,λR gg=>?_,⟨_,_,_,rfl,I⟩,.inr ⟨E,_,rfl,e0,λo ho=>⟨E,_,_,_,S,rfl,e0,ho⟩,_,S,rfl⟩⟩;obtain⟨_,r1,L⟩:=K;refine⟨rfl,r1,?_⟩;rcases L with L|⟨o,v,M,t,N,l',L,r3,r4,r5,r6,r7⟩
     ·exact .inl L
     ·exact .inr ⟨o,v,M,t,N,l',L,by rw[gg];exact r3,r4,r5,zha I r6,r7⟩
    |succ j=>exact X j D k h B5 A4
   ·cases i with
    |zero =>
     simp only[H6,Option.some.injEq]at p;cases p;cases j with
     |zero=>rfl
     |succ j=>exact absurd H.symm (A j q C A4)
    |succ i=>cases j with
     |zero =>
      simp only[H6,Option.some.injEq]at z;cases z;exact absurd H (A i p' k B5)
     |succ j=>have:=Y i j p' k q C B5 A4 H;omega
mutual
def sub_AR{c c':Cx}{sel:List LV}(gg:∀(gB:Nat) (v:LV) (a:AV),sel[gB]?=some v→AR c v a→AR c' (.dy gB 0) a)(v:LV)(a:AV)(j:v.sim sel.length=true)(h:AR c (subV sel v) a):AR c' v a:=by
 cases v with
 |dy gB k =>
  simp only[LV.sim,Hh,Lu,Ht]at j;obtain⟨rfl,gA⟩:=j;refine gg gB _ a (Hj gA) ?_;unfold subV at h
  rwa [Hr,Hj gA]at h
 |agg l =>
  simp only[LV.sim]at j;simp only[subV]at h;cases h with
  |agg h=>exact .agg (sub_ARs gg l _ j h)
 |tup l =>
  simp only[LV.sim]at j;simp only[subV]at h;cases h with
  |tup h=>exact .tup (sub_ARs gg l _ j h)
 |_=>first|(simp only[LV.sim]at j;cases j;done)|(simp only[subV]at h;cases h;constructor)
termination_by SizeOf.sizeOf v
def sub_ARs{c c':Cx}{sel:List LV}(gg:∀(gB:Nat) (v:LV) (a:AV),sel[gB]?=some v→AR c v a→AR c' (.dy gB 0) a)(l:List LV)(r:List AV)(j:sims sel.length l=true)(h:ARs c (subVs sel l) r):ARs c' l r:=by
 cases l with
 |nil=>simp only[subVs]at h;cases h;exact .nil
 |cons v l =>
  simp only[sims,Hh]at j;simp only[subVs]at h;cases h with
  |cons e es=>exact .cons (sub_AR gg v _ j.1 e) (sub_ARs gg l _ j.2 es)
termination_by SizeOf.sizeOf l
end
def Ni.mk{f:Nat}{args:List LV}{v0:LV}{G0:Mh}(gA:v0.sim G0.length=true)(h:Qq P (.fn f) args [] λv G=>∃sel,v=subV sel v0∧sel.length=G0.length∧Zd G sel G0)(hG:∀(j:Nat) (ob:LObj),G0[j]?=some ob→∃l len esz,ob=.dyn l len esz 0 0∧l.all LV.scal=true):Ni P f args v0 G0:=by
 refine⟨h.1,gA,hG,λFz H gD gE ha=>?_⟩;obtain⟨m,v1,H',q1,c1,v,G,rfl,q3,q4,q5,sel,rfl,hlen,hr⟩:=h.2 ⟨[],Fz,H⟩ (.fn f) gD (.empty gE) rfl ha;obtain⟨gg,r1,r2,r3⟩:=zfp q3 hr;have gF:∀(j:Nat) (ob:LObj),G0[j]?=some ob→∃k h,gg[j]?=some (k,h):=λj ob e=>⟨_,_,Hj (by rw[r1];exact (Hf.1 e).1)⟩
 have gB:∀o,Ow ⟨gg,Fz,c1.H⟩ G0 o→Ow c1 G o:=by
  rintro o ⟨j,ob,k,h,e1,e2,e3,e4⟩;obtain⟨_,_,_,p⟩:=r2 j ob k h e1 e3;rcases p with ⟨_,p⟩|⟨gK,k',_,_,s6,_⟩
  ·rw[p]at e4;cases e4
  ·exact s6 o e4
 have gC:∀o,Ow ⟨gg,Fz,c1.H⟩ G0 o→H.next≤o:=λo ho=>by
  rcases q4.new o (gB o ho) with ⟨gK,_,_,_,e,_⟩|h
  ·simp at e
  ·exact h
 have gG:∀o,¬Ow ⟨[],Fz,H⟩ [] o:=λo ⟨gK,_,_,_,e,_⟩=>Bt
 have gH:HSim ⟨gg,Fz,c1.H⟩ G0:=by
  refine⟨r1,λo ho=>Ik (gE o ho) q4.nx,λo ho=>q3.lt o (gB o ho),λo ho hf=>?_,λj ob k h e1 e2=>?_,λi j ob gI k h k' h' o e1 e2 e3 e4 e5 e6 e7 e8=>?_⟩
  ·have:=gC o ho;have:=gE o hf;omega
  ·obtain⟨s1,s2,_⟩:=r2 j ob k h e1 e2;rw[s1];exact s2 _ rfl
  ·obtain⟨_,_,_,p⟩:=r2 i ob k h e1 e5;obtain⟨_,_,_,t4⟩:=r2 j gI k' h' e2 e6;rcases p with ⟨_,p⟩|⟨gK,kp,s5,s6,_,o1,g1,g2⟩
   ·rw[p]at e7;cases e7
   ·rcases t4 with ⟨_,t4⟩|⟨q,kq,t5,t6,_,o2,g3,g4⟩
    ·rw[t4]at e8;cases e8
    ·refine r3 i j gK kp q kq s5 t5 ?_;exact q3.excl gK q o1 o2 kp h kq h' o g1 g3 g2 g4 s6 t6 e7 e8
 refine⟨m,v1,gg,c1.H,q1,gH,?_,q4.nx,λo ho=>q4.frame o ho (gG o),gC⟩;refine sub_AR (c:=c1) (λj v a e1 e2=>?_) v0 v1 (by rw[hlen];exact gA) q5;have hj:j<G0.length:=by rw[←hlen];exact (Hf.1 e1).1
 obtain⟨k,h,e3⟩:=gF j _ (Hj hj);obtain⟨rfl,_,_,p⟩:=r2 j _ k h (Hj hj) e3;rcases p with ⟨p,s5⟩|⟨gK,k',p,s5,_⟩
 ·rw[e1]at p;cases p;cases e2;exact .dy e3 (Hm _) (λ_=>s5.symm) rfl
 ·rw[e1]at p;cases p;cases e2 with
  |dy f1 f2 f3 f4 =>
   rw[s5]at f1;cases f1;exact .dy e3 (Hm _) (λ_=>f3 rfl) f4
end fns
end
section
noncomputable section
def ii(ρ:Ml)(G:Mh):LOp→Option (Option Nat)
 |.load1 x |.loadN _ x=>match x.ev ρ with
  |.ptr j _=>some (some j)
  |.dptr j k _=>match G[j]? with
   |some (.dyn _ _ _ g _)=>if k=g then some (some j) else none
   |_=>none
  |.cptr _ _=>some none
  |_=>none
 |.cvStr x=>match x.ev ρ with
  |.nilSl=>some none
  |.lst _ _ _=>some none
  |.dy j k=>match G[j]? with
   |some (.dyn _ _ _ g _)=>if k=g then some (some j) else none
   |_=>none
  |_=>none
 |_=>none
def jd(G g:Mh)(j:Nat):Prop:=match G[j]?,g[j]? with
 |some a,some b=>a.stp=true∧a.st=b.st
 |_,_=>False
def mg(ρ:Ml)(G g:Mh)(x:LI×Bool):Prop:=match x.2 with
 |false=>match ii ρ G x.1.o with
  |some none=>True
  |some (some p)=>jd G g p
  |none=>False
 |true=>match x.1.d with
  |none=>False
  |some d=>match lk ρ d with
   |.ptr p _=>jd G g p
   |.dy p k=>(match G[p]? with
    |some (.dyn _ _ _ j _)=>k=j
    |_=>False)∧jd G g p
   |_=>False
def yz(ρ:Ml)(G g:Mh)(x:LI×Bool):Prop:=match x.1.g with
 |none=>mg ρ G g x
 |some (t,w)=>match lk ρ t with
  |.bool b=>b=w→mg ρ G g x
  |_=>mg ρ G g x
def T8(ρ:Ml)(G g:Mh):List (LI×Bool)→Prop
 |[]=>True
 |x::l=>yz ρ G g x∧T8 ρ G g l
def Wg(P:Program):List (LI×List (LI×Bool))→Ml→Mh→(Ml→Mh→Prop)→Prop
 |[],ρ,G,j=>j ρ G
 |(x,p)::l,ρ,G,j=>Vx P x ρ G λz g=>T8 ρ G g p∧Wg P l z g j
section al
variable {P : Program}
def zue{v:AV}{id n:Nat}(h:Nf v=some id):Ph id (Ph n v)=v:=by
 cases v<;>first|(cases h;done)|(cases h;rfl)
def zj3{l:List AV}{v:AV}(h:Us A l=.val v S):∃j,S=A.push j∧Nf v=some A.next∧∀g,Us g l=.val (Ph g.next v) (g.push j):=by
 unfold Us newObj at h;cases h;exact⟨_,rfl,rfl,λg=>rfl⟩
def zl3{l:List AV}{a b:Nat}{r:Option Nat}{v:AV}(h:(match newObj A l with
  |some (o,j)=>OR.val (.sl o 0 0 a b r) j
  |none=>.no)=.val v S):∃p,S=A.push p∧Nf v=some A.next∧∀g,(match newObj g l with
  |some (o,j)=>OR.val (.sl o 0 0 a b r) j
  |none=>.no)=.val (Ph g.next v) (g.push p):=by
 unfold newObj at h;cases h;exact⟨_,rfl,rfl,λg=>rfl⟩
def mv{o:Op}(g:cls P o=.al){v:AV}(h:(Nj P o).run F A=.val v S):∃p,S=A.push p∧Nf v=some A.next∧∀j,(Nj P o).run F j=.val (Ph j.next v) (j.push p):=by
 cases o with
 |alloc t =>
  simp only[Nj]at h ⊢;split at h
  ·exact zj3 h
  ·cases h
 |box t x =>
  simp only[Nj,Oy]at h ⊢;cases z:(M0 x).run F with
  |none=>rw[z]at h;cases h
  |some a =>
   rw[z]at h;dsimp only at h ⊢;cases B:a.cells with
   |none=>rw[B]at h;cases h
   |some l=>rw[B]at h;exact zj3 h
 |buildSlice t len H =>
  simp only[Nj,lh]at h ⊢;split at h
  ·split at h
   ·cases h
   ·split at h
    ·cases h
    ·rename_i N M;by_cases E:len * ‹Nat›≤2^20∧0 < ‹Nat›
     ·rw[Hs E]at h ⊢;split at h
      ·cases h
      ·dsimp only at h ⊢;split at h
       ·exact zl3 h
       ·cases h
     ·rw[Hq E]at h;cases h
  ·cases h
 |makeSlice t l c =>
  simp only[Nj,ir]at h ⊢;split at h
  ·split at h
   ·cases h
   ·split at h
    ·cases h
    ·split at h
     ·rename_i i O N M E;simp only[Hs E];simp only[R5]at h ⊢;cases B:(M0 l).run F with
      |none=>rw[B]at h;cases h
      |some a =>
       rw[B]at h;cases C:(M0 c).run F with
       |none=>rw[C]at h;cases h
       |some b =>
        rw[C]at h;dsimp only at h ⊢;split at h
        ·rename_i n m;cases I:Nat.ble n m with
         |false=>rw[I]at h;cases h
         |true =>
          rw[I]at h;cases K:Nat.ble m 1048576 with
          |false=>rw[K]at h;cases h
          |true=>rw[K]at h;exact zl3 h
        ·cases h
     ·cases h
  ·cases h
 |makeMap t r =>
  have L:∀{v:AV} {S:Heap},V2 A=.val v S→∃p,S=A.push p∧Nf v=some A.next∧∀j,V2 j=.val (Ph j.next v) (j.push p):=λh=>by
   unfold V2 at h;cases h;exact⟨_,rfl,rfl,λj=>rfl⟩
  simp only[Nj,jo]at h ⊢;split at h
  ·exact L h
  ·rename_i x;split at h
   ·simp only[Oy]at h ⊢;cases z:(M0 x).run F with
    |none=>rw[z]at h;cases h
    |some a =>
     rw[z]at h;dsimp only at h ⊢;split at h
     ·exact L h
     ·cases h
   ·cases h
 |_ =>
  exfalso;simp only[cls]at g
  first
   |(cases g;done)
   |(split at g<;>first|(cases g;done)|(split at g<;>cases g))
   |(simp only[tz]at g;split at g<;>first|(cases g;done)|(split at g<;>first|(cases g;done)|(split at g<;>cases g)))
end al
section draw
variable {P : Program} {n : Nat} {ops : Array Oper}
def S4(P:Program)(ops:Array Oper)(x:DOp)(j:Tr AV)(z:Heap):Prop:=match x.c with
 |.rd=>(Rh ops x.o).run j=true→∃d v,x.o.dst=some d∧Mm (Mx d) j=some v∧(Nj P x.o.op).run j z=.val v z
 |.al=>(Rh ops x.o).run j=true→∃d v id p,x.o.dst=some d∧Mm (Mx d) j=some v∧Nf v=some id∧z.get id=some p∧∀g,(Nj P x.o.op).run j g=.val (Ph g.next v) (g.push p)
 |_=>True
def z8z{x:DOp}(h:S4 P ops x F A)(j:x.c=.rd∨x.c=.al)(hd:nu ops x=true):(Wy P ops x).run F A=true:=by
 unfold Wy;cases g:x.o.dst with
 |none=>unfold nu at hd;rw[g]at hd;cases hd
 |some d =>
  dsimp only;cases C:(Rh ops x.o).run F with
  |false=>rfl
  |true =>
   dsimp only;unfold S4 at h;rcases j with j|j
   ·rw[j]at h;obtain⟨E,v,p,B,z⟩:=h C;rw[g]at p;cases p;rw[B,z,j];dsimp only;unfold U2;split
    ·rfl
    ·exact @Ke _ (Classical.propDecidable _) rfl
   ·rw[j]at h;obtain⟨E,v,id,L,p,B,z,H,I⟩:=h C;rw[g]at p;cases p;rw[B,I A,j];dsimp only;unfold ztd;rw[z];dsimp only;have K:U2 (Qf 30 v (Ph id (Ph A.next v))) v (Ph id (Ph A.next v))=true:=by
     unfold U2;split
     ·rfl
     ·exact @Ke _ (Classical.propDecidable _) (zue z).symm
    rw[K,H,Heap.get_push_same];dsimp only;unfold U2;split
    ·rfl
    ·exact @Ke _ (Classical.propDecidable _) rfl
def zcv{t:Nat}:∀{l:List Nat},T1 t l=false→t ∉ l
 |[],_=>U
 |a::l,h=>by
  simp only[T1]at h;cases g:Nat.beq t a with
  |true=>rw[g]at h;cases h
  |false =>
   rw[g]at h;intro hm;rcases Hu.1 hm with rfl|hm
   ·rw[Ii]at g;cases g
   ·exact zcv h hm
def W7{x:DOp}{d:Option Nat}(h:Ve ops d x=true)(v:AV)(g:Tr AV):Qx (S8 ops x.o) (N9 d v g) g∧∀e,x.o.dst=some e→Mm (Mx e) (N9 d v g)=Mm (Mx e) g:=by
 cases d with
 |none=>exact⟨λt _ _=>rfl,λe _=>rfl⟩
 |some d =>
  unfold Ve at h;dsimp only at h;cases hm:T1 d (S8 ops x.o) with
  |true=>rw[hm]at h;cases h
  |false =>
   rw[hm]at h;dsimp only at h;refine⟨λt j _=>?_,λe p=>?_⟩
   ·show Mm (Mx t) (Nv v (Mx d) g)=_;rw[ou (λq=>zcv hm (by rw[←q];exact j))]
   ·rw[p]at h;dsimp only at h;show Mm (Mx e) (Nv v (Mx d) g)=_;rw[ou (λq=>by rw[q,Ii]at h;cases h)]
def S4.put{x:DOp}{E:Tr AV}{H:Heap}(h:S4 P ops x E H){d:Option Nat}(ho:Ve ops d x=true)(v:AV):S4 P ops x (N9 d v E) H:=by
 obtain⟨h1,h2⟩:=W7 ho v E;have hg:=iq (o:=x.o) h1;have hc:∀H2,(Nj P x.o.op).run (N9 d v E) H2=(Nj P x.o.op).run E H2:=λH2=>z7c h1
 unfold S4 at h ⊢;cases hx:x.c with
 |rd =>
  rw[hx]at h;intro g;obtain⟨d',w,k1,k2,k3⟩:=h (by rw[←hg];exact g);exact⟨d',w,k1,by rw[h2 d' k1];exact k2,by rw[hc];exact k3⟩
 |al =>
  rw[hx]at h;intro g;obtain⟨d',w,id,ob,k1,k2,k3,k4,k5⟩:=h (by rw[←hg];exact g);exact⟨d',w,id,ob,k1,by rw[h2 d' k1];exact k2,k3,k4,λH2=>by rw[hc];exact k5 H2⟩
 |quiet=>trivial
 |ch=>trivial
def zsu{x:DOp}{r:RI}(g:fh P n ops x.o=some r)(B:Tr AV):(Rh ops x.o).run B=Ws r.g B∧Rg P x.o.op=some r.o∧r.d=x.o.dst:=by
 unfold fh at g;split at g
 ·cases g
 ·split at g
  ·cases g
  ·rename_i ro j;split at g
   ·rename_i p;cases g;refine⟨?_,j,rfl⟩;unfold Rh;rw[p];rfl
   ·rename_i C w p;split at g
    ·cases g
    ·rename_i t z;split at g
     ·rename_i A;cases g;refine⟨?_,j,rfl⟩;unfold Rh;rw[p];dsimp only;rw[z];dsimp only;rw[Hs (Hw A)];rfl
     ·cases g
def S4.keep{x:DOp}{li:LI}(hr:fh P n ops x.o=some li.r)(gB:li.o.ok=true){c c1:Cx}{G G1:Mh}{ρ:Ml}{E:Tr AV}(hs:HSim c G)(hE:Nl c ρ E)(st:Step c G c1 G1)(gg:yz ρ G G1 (li,S9 x))
  (h:S4 P ops x E c.H):S4 P ops x E c1.H:=by
 have gD:∀{gA k:Nat} {a:AV} {o:Nat},jd G G1 gA→c.hd[gA]?=some (k,a)→Nf a=some o→c1.H.get o=c.H.get o:=by
  intro gA k a o hk e1 e2;unfold jd at hk;split at hk
  ·rename_i a1 b1 g1 g2;exact (st.st gA a1 b1 k a o g1 g2 e1 e2 hk.1 hk.2).2.1
  ·exact hk.elim
 obtain⟨g1,g2,g3⟩:=zsu hr E;have gE:(Rh ops x.o).run E=true→mg ρ G G1 (li,S9 x):=by
  intro g;rw[g1]at g;unfold yz at gg;dsimp only at gg;split at gg
  ·exact gg
  ·rename_i t w hg;split at gg
   ·rename_i b hb;refine gg ?_;have ht:=hE t;rw[hb]at ht;rw[show li.r.g=li.g from rfl,hg]at g;unfold Ws at g;dsimp only at g;cases hq:Mm (Mx t) E with
    |none=>rw[hq]at g;cases g
    |some a =>
     rw[hq]at g ht;cases ht;cases b<;>cases w<;>first|rfl|cases g
   ·exact gg
 unfold S4 at h ⊢;cases hx:x.c with
 |quiet=>trivial
 |ch=>trivial
 |rd =>
  rw[hx]at h;intro g;have hc:=gE g;obtain⟨d,v,k1,k2,k3⟩:=h g;refine⟨d,v,k1,k2,?_⟩;rw[zqp (zo6 E) g2]at k3 ⊢;have gI:S9 x=false:=by unfold S9;rw[hx]
  unfold mg at hc;rw[gI]at hc;dsimp only at hc;have gH:∀{y:Lx},y.ok=true→∀m,(match y.ev ρ with
    |.ptr gA _=>some (some gA)
    |.dptr gA k _=>(match G[gA]? with
     |some (.dyn _ _ _ gC _)=>if k=gC then some (some gA) else none
     |_=>none)
    |.cptr _ _=>some none
    |_=>(none:Option (Option Nat)))=some m→(∀gA,m=some gA→jd G G1 gA)→∃o v i,y.r.ev (ρA E)=.ptr o v i∧c1.H.get o=c.H.get o:=by
   intro y hy m hm hk;have p:=Nt hE hy;generalize y.ev ρ=w at hm p;generalize y.r.ev (ρA E)=b at p ⊢;split at hm
   ·rename_i gA i;cases hm;cases p with
    |ptr e=>exact⟨_,_,_,rfl,gD (hk gA rfl) e rfl⟩
   ·rename_i gA k i;split at hm
    ·rename_i l len gF gC stp hg;by_cases gG:k=gC
     ·rw[Hs gG]at hm;cases hm;cases p with
      | @dptr _ _ _ k' o v gV hh e gL ha =>
       have:=(hs.obj gA _ _ _ hg e).1;obtain⟨_,gR,gS,room,rfl⟩:=ha J;exact⟨o,v,gV,rfl,gD (hk gA rfl) e rfl⟩
     ·rw[Hq gG]at hm;cases hm
    ·cases hm
   ·cases hm;cases p with
    |cptr hf hr hl=>exact⟨_,_,_,rfl,(st.le.fz _ hf).2⟩
   ·cases hm
  have fin:∀m,ii ρ G li.o=some m→(∀gA,m=some gA→jd G G1 gA)→Nu P (ρA E) c1.H li.r.o=.val v c1.H:=by
   intro m hm hk;have j:Nu P (ρA E) c.H li.o.r=.val v c.H:=k3;show Nu P (ρA E) c1.H li.o.r=_;unfold ii at hm;split at hm
   ·rename_i y ho;rw[ho]at j gB ⊢;obtain⟨o,w,i,q1,q2⟩:=gH gB m hm hk;simp only[LOp.r,Nu]at j ⊢;rw[q1]at j ⊢;dsimp only at j ⊢;rw[qp q2];split at j
    ·cases j;rfl
    ·cases j
   ·rename_i nn y ho;rw[ho]at j gB ⊢;obtain⟨o,w,i,q1,q2⟩:=gH gB m hm hk;simp only[LOp.r,Nu]at j ⊢;rw[q1]at j ⊢;dsimp only at j ⊢;rw[qp q2];split at j
    ·cases j;rfl
    ·cases j
   ·rename_i y ho;rw[ho]at j gB ⊢;have p:=Nt hE gB;simp only[LOp.r,Nu]at j ⊢;generalize y.ev ρ=w at hm p;generalize y.r.ev (ρA E)=b at p j ⊢;have done:(∀o v i len gF room,b=.sl o v i len gF room→c1.H.get o=c.H.get o)→(match b with
      |.nilSl=>OR.val (.str 0 0) c1.H
      |.sl o v i len 1 _=>match Pa c1.H o v i len with
       |some l=>match T7.bytesA l with
        |some n=>.val (.str len n) c1.H
        |none=>.no
       |none=>.no
      |_=>.no)=.val v c1.H:=by
     intro hh;split at j
     ·cases j;rfl
     ·rename_i o v2 i len room;have e:=hh o v2 i len 1 room rfl;show (match Pa c1.H o v2 i len with
       |some l=>match T7.bytesA l with
        |some n=>OR.val (.str len n) c1.H
        |none=>.no
       |none=>.no)=.val v c1.H
      rw[qp e];split at j
      ·rename_i gO;split at j
       ·rename_i hb;cases j;rw[gO];dsimp only;rw[hb]
       ·cases j
      ·cases j
     ·cases j
    split at hm
    ·cases p;exact done (λ_ _ _ _ _ _ e=>Ar)
    ·cases hm;cases p with
     |lst hf gT hlen hr hl=>exact done (λ_ _ _ _ _ _ e=>by cases e;exact (st.le.fz _ hf).2)
     |lstNil=>exact done (λ_ _ _ _ _ _ e=>Ar)
     |lstEmp=>exact done (λ_ _ _ _ _ _ e=>Ar)
    ·rename_i gA k;split at hm
     ·rename_i l len gF gC stp hg;by_cases gG:k=gC
      ·rw[Hs gG]at hm;cases hm;cases p with
       | @dy _ _ k' hh _ e gL ha gP =>
        have:=(hs.obj gA _ _ _ hg e).1;have gK:=ha J;exact done (λo v i len gF room eb=>gD (hk gA rfl) e (by rw[←gK,eb];rfl))
      ·rw[Hq gG]at hm;cases hm
     ·cases hm
    ·cases hm
   ·cases hm
  split at hc
  ·rename_i hm;exact fin none hm (λgA e=>Ar)
  ·rename_i gA hm;exact fin (some gA) hm (λp' e=>by cases e;exact hc)
  ·exact hc.elim
 |al =>
  rw[hx]at h;intro g;have hc:=gE g;obtain⟨d,v,id,ob,k1,k2,k3,k4,k5⟩:=h g;refine⟨d,v,id,ob,k1,k2,k3,?_,k5⟩;have gI:S9 x=true:=by unfold S9;rw[hx]
  unfold mg at hc;rw[gI]at hc;dsimp only at hc;have hd:li.d=some d:=by rw[←k1];exact g3
  rw[hd]at hc;dsimp only at hc;have p:=hE d;rw[k2]at p;split at hc
  ·rename_i gA i hl;rw[hl]at p;cases p with
   |ptr e=>cases k3;rw[gD hc e rfl];exact k4
  ·rename_i gA k hl;rw[hl]at p;obtain⟨gM,gQ⟩:=hc;split at gM
   ·rename_i l len gF gC stp hg;cases p with
    | @dy _ _ k' hh _ e gL ha gP =>
     have:=(hs.obj gA _ _ _ hg e).1;have gK:v=hh:=ha J;rw[gD gQ e (by rw[←gK];exact k3)];exact k4
   ·exact gM.elim
  ·exact hc.elim
def cks_mem:∀{g:List DOp} {A:List (LI×Bool)},ua P n ops g=some (rck A)→∀{ρ:Ml} {G B:Mh},T8 ρ G B A→∀x∈g,∃p,fh P n ops x.o=some p.r∧(p,S9 x)∈A∧yz ρ G B (p,S9 x)
 |[],_,_,_,_,_,_,x,j=>by simp at j
 |y::g,[],h,_,_,_,_,x,j=>by
  simp only[ua]at h;split at h
  ·cases h
  ·split at h<;>cases h
 |y::g,(p,b)::A,h,ρ,G,B,k,x,j=>by
  simp only[ua]at h;split at h
  ·cases h
  ·rename_i r E;split at h
   ·cases h
   ·rename_i L z;simp only[rck,Option.some.injEq,List.cons.injEq,Prod.mk.injEq]at h;obtain⟨⟨rfl,rfl⟩,F⟩:=h;rw[F]at z;rcases Hu.1 j with rfl|j
    ·exact⟨p,E,U,k.1⟩
    ·obtain⟨C,H,I,K⟩:=cks_mem z k.2 x j;exact⟨C,H,Ax,K⟩
def zc9{g:Type}{f:g→Bool}:∀{l:List g} {x:g},x∈Nd f l→x∈l
 |[],_,h=>h
 |a::l,x,h=>by
  simp only[Nd]at h;split at h
  ·rcases Hu.1 h with rfl|h
   ·simp
   ·exact In _ (zc9 h)
  ·exact In _ (zc9 h)
def zf2{p:Type}{f:p→Bool}:∀{l:List p},Tz f l=true→∀x∈l,f x=true
 |[],_,x,g=>by simp at g
 |a::l,h,x,g=>by
  simp only[Tz]at h;split at h
  ·rename_i j;rcases Hu.1 g with rfl|g
   ·exact j
   ·exact zf2 h x g
  ·cases h
def zcf{j:Tr AV}{p:Heap}:∀{l:List DOp},(∀x∈l,(Wy P ops x).run j p=true)→(gr P ops l).run j p=true
 |[],_=>rfl
 |x::l,h=>by
  simp only[gr];rw[h x U];exact zcf (λy g=>h y A2)
structure Pend (P:Program) (n:Nat) (ops:Array Oper) (x:DOp):Prop where
 cls:x.c=.rd∨x.c=.al
 own:nu ops x=true
def drawGo_ok:∀{l p:List DOp} {g:List (LI×List (LI×Bool))} {c:Cx} {G:Mh} {ρ:Ml} {gD:Tr AV} {gM:Ml→Mh→Prop},io P n ops l p=some (i7 g)→(g.all λx=>x.1.o.ok&&x.2.all (·.1.o.ok))=true →
  HSim c G→Nl c ρ gD→(∀x∈p,Pend P n ops x∧S4 P ops x gD c.H)→Wg P g ρ G gM →
  ∃m V N R M,(Tc P n ops l p).run (Qt P (OL P) m) gD c.H=.ok V N.H∧HSim N M∧Step c G N M∧Nl N R V∧gM R M
 |[],p,g,c,G,ρ,gD,gM,h,_,hs,hE,_,k=>by
  cases g with
  |nil=>exact⟨0,gD,c,ρ,G,rfl,hs,.refl c G,hE,k⟩
  |cons _ _=>cases h
 |x::l,p,g,c,G,ρ,gD,gM,h,H,hs,hE,hp,k=>by
  simp only[io]at h;split at h
  ·cases h
  ·rename_i gI;rw[Hh]at gI;obtain⟨gE,B⟩:=gI;split at h
   ·cases h
   ·rename_i r hr;have gC:∀{li:LI} {cs:List (LI×Bool)} {F:List (LI×List (LI×Bool))},r=li.r→g=(li,cs)::F →
      ∃m L I ρ1 X v,(Py P n ops x.o).run (Qt P (OL P) m) gD c.H=.ok L I.H∧L=N9 x.o.dst v gD∧HSim I X∧Step c G I X∧Nl I ρ1 L∧T8 ρ G X cs∧Wg P F ρ1 X gM:=by
     intro li cs F e1 e2;subst e2;simp only[Jx,Hh]at H;obtain⟨m,L,I,ρ1,X,Y,Z,q3,q4,q5,q6⟩:=Xd hs hE H.1.1 (show Vx P li ρ G (λR M=>T8 ρ G M cs∧Wg P F R M gM) from k);rw[←e1,←ze4 hr]at Y;obtain⟨v,w1,_⟩:=z5l Y;exact⟨m,L,I,ρ1,X,v,Y,w1,Z,q3,q4,q5,q6⟩
    have gF:∀{v:AV},∀y∈p,S4 P ops y gD c.H→S4 P ops y (N9 x.o.dst v gD) c.H:=λy A hv=>hv.put (zf2 gE y A) _
    have go:∀{pend':List DOp} {F:List (LI×List (LI×Bool))} {m:Nat} {L:Tr AV} {I:Cx} {ρ1:Ml} {X:Mh},io P n ops l pend'=some (i7 F)→(F.all λx=>x.1.o.ok&&x.2.all (·.1.o.ok))=true→HSim I X→Step c G I X→Nl I ρ1 L →
      (∀y∈pend',Pend P n ops y∧S4 P ops y L I.H)→Wg P F ρ1 X gM→(Py P n ops x.o).run (Qt P (OL P) m) gD c.H=.ok L I.H →
      ∃m' V N R M,(Py P n ops x.o).run (Qt P (OL P) m') gD c.H=.ok L I.H∧(Tc P n ops l pend').run (Qt P (OL P) m') L I.H=.ok V N.H∧HSim N M∧Step c G N M∧Nl N R V∧gM R M:=by
     intro pend' F m L I ρ1 X a1 a2 a3 a4 a5 a6 a7 a8;obtain⟨m2,V,N,R,M,b1,b2,b3,b4,b5⟩:=drawGo_ok a1 a2 a3 a5 a6 a7;exact⟨max m m2,V,N,R,M,um (ai (J0 m m2)) a8,tq (ai (Kx m m2)) b1,b2,.trans hs a3 a4 b3,b4,b5⟩
    cases T:x.c with
    |quiet =>
     rw[T]at h;dsimp only at h;split at h
     ·cases h
     ·rename_i rs gg;cases g with
      |nil=>cases h
      |cons it F =>
       obtain⟨li,cs⟩:=it;simp only[i7,Option.some.injEq,List.cons.injEq,Prod.mk.injEq]at h;obtain⟨⟨h1,h2⟩,h3⟩:=h;obtain⟨m,L,I,ρ1,X,v,Y,Z,q3,q4,q5,q6,q7⟩:=gC h1 rfl;simp only[Jx,Hh]at H;have hH:I.H=c.H:=by
        have hc:cls P x.o.op=.quiet:=by
         rw[T]at B;cases C:cls P x.o.op<;>rw[C]at B<;>first|rfl|cases B
        exact z5t (tr.1 hc).reads Y
       obtain⟨m',V,N,R,M,b1,b2,b3,b4,b5,b6⟩:=go (pend':=p) Dh H.2 q3 q4 q5 (λy A=>⟨(hp y A).1,by rw[hH,Z];exact gF y A (hp y A).2⟩) q7 Y;refine⟨m',V,N,R,M,?_,b3,b4,b5,b6⟩;simp only[Tc];rw[T];dsimp only;rw[b1];exact b2
    |rd =>
     rw[T]at h;dsimp only at h;split at h
     ·cases h
     ·rename_i j;split at h
      ·cases h
      ·rename_i rs gg;cases g with
       |nil=>cases h
       |cons it F =>
        obtain⟨li,cs⟩:=it;simp only[i7,Option.some.injEq,List.cons.injEq,Prod.mk.injEq]at h;obtain⟨⟨h1,h2⟩,h3⟩:=h;obtain⟨m,L,I,ρ1,X,v,Y,Z,q3,q4,q5,q6,q7⟩:=gC h1 rfl;simp only[Jx,Hh]at H;have hc:cls P x.o.op=.rd:=by
         rw[T]at B;cases C:cls P x.o.op<;>rw[C]at B<;>first|rfl|cases B
        have hH:I.H=c.H:=z5t (tr.2 hc) Y;have O:S4 P ops x L I.H:=by
         unfold S4;rw[T];intro gP;unfold nu at j;cases z:x.o.dst with
         |none=>rw[z]at j;cases j
         |some d =>
          rw[z]at j;have hm:T1 d (S8 ops x.o)=false:=Bd
          have K:Qx (S8 ops x.o) L gD:=λt ht _=>by
           rw[Z,z];show Mm (Mx t) (Nv v (Mx d) gD)=_;rw[ou (λq=>zcv hm (by rw[←q];exact ht))]
          rw[iq K]at gP;refine⟨d,v,rfl,by rw[Z,z];exact br _ _ _,?_⟩;rw[z7c K,hH];have C:=Y;unfold Py at C;cases gA:P7 n x.o.dst with
          |none=>rw[gA]at C;cases C
          |some pf =>
           rw[gA]at C;dsimp only at C;rw[gP]at C;dsimp only at C;have gH:=(tr.2 hc) gD c.H;cases S:(Nj P x.o.op).run gD c.H with
           |no=>rw[S]at C;cases C
           |call t a=>rw[S]at gH;cases gH
           |val w H2 =>
            rw[S]at C gH;cases gH;injection C with e1 e2
            have:=congrArg (λgD=>Mm (Mx d) gD) e1;rw[Z,(vu gA).1,z,br,br]at this;cases this;rfl
        obtain⟨m',V,N,R,M,b1,b2,b3,b4,b5,b6⟩:=go (pend':=x::p) Dh H.2 q3 q4 q5 (λy A=>by
         rcases Hu.1 A with rfl|A
         ·exact⟨⟨.inl T,j⟩,O⟩
         ·exact⟨(hp y A).1,by rw[hH,Z];exact gF y A (hp y A).2⟩) q7 Y
        refine⟨m',V,N,R,M,?_,b3,b4,b5,b6⟩;simp only[Tc];rw[T];dsimp only;rw[b1];exact b2
    |al =>
     rw[T]at h;dsimp only at h;split at h
     ·cases h
     ·rename_i j;split at h
      ·cases h
      ·rename_i gO gG;split at h
       ·cases h
       ·rename_i rs gg;cases g with
        |nil=>cases h
        |cons it F =>
         obtain⟨li,cs⟩:=it;simp only[i7,Option.some.injEq,List.cons.injEq,Prod.mk.injEq]at h;obtain⟨⟨h1,h2⟩,h3⟩:=h;obtain⟨m,L,I,ρ1,X,v,Y,Z,q3,q4,q5,q6,q7⟩:=gC h1 rfl;simp only[Jx,Hh]at H;have hc:cls P x.o.op=.al:=by
          rw[T]at B;cases C:cls P x.o.op<;>rw[C]at B<;>first|rfl|cases B
         rw[h2]at gG;have E:∀y∈p,Pend P n ops y∧S4 P ops y L I.H:=λy A=>by
          obtain⟨gK,w1,w2,w3⟩:=cks_mem gG q6 y A;have gB:gK.o.ok=true:=I7.1 H.1.2 _ w2;refine⟨(hp y A).1,?_⟩;rw[Z];exact ((hp y A).2.keep w1 gB hs hE q4 w3).put (zf2 gE y A) _
         have O:S4 P ops x L I.H:=by
          unfold S4;rw[T];intro gP;unfold nu at j;cases z:x.o.dst with
          |none=>rw[z]at j;cases j
          |some d =>
           rw[z]at j;have hm:T1 d (S8 ops x.o)=false:=Bd
           have K:Qx (S8 ops x.o) L gD:=λt ht _=>by
            rw[Z,z];show Mm (Mx t) (Nv v (Mx d) gD)=_;rw[ou (λq=>zcv hm (by rw[←q];exact ht))]
           rw[iq K]at gP;have C:=Y;unfold Py at C;cases gA:P7 n x.o.dst with
           |none=>rw[gA]at C;cases C
           |some pf =>
            rw[gA]at C;dsimp only at C;rw[gP]at C;dsimp only at C;cases S:(Nj P x.o.op).run gD c.H with
            |no=>rw[S]at C;cases C
            |call t a =>
             exfalso;have:=zpm (o:=x.o) hc gD c.H;rw[S]at this;exact this
            |val w H2 =>
             rw[S]at C;injection C with e1 e2
             have:=congrArg (λgD=>Mm (Mx d) gD) e1;rw[Z,(vu gA).1,z,br,br]at this;cases this;obtain⟨ob,u1,u2,u3⟩:=mv hc S;refine⟨d,_,c.H.next,ob,rfl,by rw[Z,z];exact br _ _ _,u2,?_,λH3=>by rw[z7c K];exact u3 H3⟩;rw[←e2,u1];exact Heap.get_push_same _ _
         obtain⟨m',V,N,R,M,b1,b2,b3,b4,b5,b6⟩:=go (pend':=x::p) Dh H.2 q3 q4 q5 (λy A=>by
          rcases Hu.1 A with rfl|A
          ·exact⟨⟨.inr T,j⟩,O⟩
          ·exact E y A) q7 Y
         refine⟨m',V,N,R,M,?_,b3,b4,b5,b6⟩;simp only[Tc];rw[T];dsimp only;rw[b1];dsimp only;rw[zcf (λy A=>by
          rcases Hu.1 A with rfl|A
          ·exact z8z O (.inr T) j
          ·exact z8z (E y A).2 (E y A).1.cls (E y A).1.own)]
         exact b2
    |ch =>
     rw[T]at h;dsimp only at h;split at h
     ·cases h
     ·rename_i gO gG;split at h
      ·cases h
      ·rename_i rs gg;cases g with
       |nil=>cases h
       |cons it F =>
        obtain⟨li,cs⟩:=it;simp only[i7,Option.some.injEq,List.cons.injEq,Prod.mk.injEq]at h;obtain⟨⟨h1,h2⟩,h3⟩:=h;obtain⟨m,L,I,ρ1,X,v,Y,Z,q3,q4,q5,q6,q7⟩:=gC h1 rfl;simp only[Jx,Hh]at H;rw[h2]at gG;have E:∀y∈Nd (λy=>!(Nat.testBit x.m y.i)) p,Pend P n ops y∧S4 P ops y L I.H:=λy A=>by
         have gL:=zc9 A;obtain⟨gK,w1,w2,w3⟩:=cks_mem gG q6 y A;have gB:gK.o.ok=true:=I7.1 H.1.2 _ w2;refine⟨(hp y gL).1,?_⟩;rw[Z];exact ((hp y gL).2.keep w1 gB hs hE q4 w3).put (zf2 gE y gL) _
        obtain⟨m',V,N,R,M,b1,b2,b3,b4,b5,b6⟩:=go (pend':=Nd (λy=>!(Nat.testBit x.m y.i)) p) Dh H.2 q3 q4 q5 E q7 Y;refine⟨m',V,N,R,M,?_,b3,b4,b5,b6⟩;simp only[Tc];rw[T];dsimp only;rw[b1];dsimp only;rw[zcf (λy A=>z8z (E y A).2 (E y A).1.cls (E y A).1.own)];exact b2
end draw
section rule
variable {P : Program} {f n : Nat} {ro : Option Nat} {ρ : Ml} {D : List Nat} {G : Mh} {Q : O7}
def pu{l:List (LI×List (LI×Bool))}(h:Wg P l ρ G λj p=>Q .normal j D p):W P f n (.draw l) ro ρ D G Q:=by
 intro z c X B C E F H I K V;obtain⟨id,ops,rfl,g⟩:=Yp E;unfold zox at g;dsimp only at g;split at g
 ·rename_i hd;obtain⟨m,L,M,j,p,N,O,A,R,S⟩:=drawGo_ok g F H I (λx T=>by simp at T) h;refine⟨m,.normal,L,B,M,j,D,p,?_,O,A,R,K.mono A.le,S⟩;simp only[Ot,n9];rw[hd];dsimp only;rw[N]
 ·cases g
end rule
end
end
section
mutual
def LV.dat:LV→Bool
 |.any=>true
 |.bool _ |.u _ |.b _ |.i _ |.int _ _ |.str _ |.nilPtr |.nilSl |.nilMap |.nilFn |.nilIf=>true
 |.cptr l _=>dats l
 |.lst l _ _=>dats l
 |.fn (.func _) l r=>dats l&&dats r
 |.iface _ v=>v.dat
 |.agg l=>dats l
 |.tup l=>dats l
 |_=>false
def dats:List LV→Bool
 |[]=>true
 |v::l=>v.dat&&dats l
end
mutual
def AR.dat{c c':Cx}(gg:∀o,c.Fz o→c'.Fz o∧c'.H.get o=c.H.get o)(v:LV)(a:AV)(hd:v.dat=true)(h:AR c v a):AR c' v a:=by
 cases v with
 |cptr l i =>
  simp only[LV.dat]at hd;cases h with
  |cptr hf hr hl=>exact .cptr (gg _ hf).1 (by rw[qp (gg _ hf).2];exact hr) (ARs.dat gg l _ hd hl)
 |lst l len gB =>
  simp only[LV.dat]at hd;cases h with
  |lst hf gA hlen hr hl=>exact .lst (gg _ hf).1 gA hlen (by rw[qp (gg _ hf).2];exact hr) (ARs.dat gg l _ hd hl)
  |lstNil=>exact .lstNil
  |lstEmp=>exact .lstEmp
 |fn f l r =>
  cases f with
  |func f =>
   simp only[LV.dat,Hh]at hd;cases h with
   |fn hl hr=>exact .fn (ARs.dat gg l _ hd.1 hl) (ARs.dat gg r _ hd.2 hr)
  |_=>simp[LV.dat]at hd
 |iface t w =>
  simp only[LV.dat]at hd;cases h with
  |iface h=>exact .iface (AR.dat gg w _ hd h)
 |agg l =>
  simp only[LV.dat]at hd;cases h with
  |agg h=>exact .agg (ARs.dat gg l _ hd h)
 |tup l =>
  simp only[LV.dat]at hd;cases h with
  |tup h=>exact .tup (ARs.dat gg l _ hd h)
 |any=>exact .any a
 |_=>first|(simp only[LV.dat]at hd;cases hd;done)|(cases h;constructor)
termination_by SizeOf.sizeOf v
def ARs.dat{c c':Cx}(gg:∀o,c.Fz o→c'.Fz o∧c'.H.get o=c.H.get o)(l:List LV)(r:List AV)(hd:dats l=true)(h:ARs c l r):ARs c' l r:=by
 cases l with
 |nil=>cases h;exact .nil
 |cons v l =>
  simp only[dats,Hh]at hd;cases h with
  |cons e es=>exact .cons (AR.dat gg v _ hd.1 e) (ARs.dat gg l _ hd.2 es)
termination_by SizeOf.sizeOf l
end
def dats_app:∀{l r:List LV},dats l=true→dats r=true→dats (l++r)=true
 |[],_,_,h=>h
 |v::l,r,h,k=>by
  simp only[dats,Hh]at h;simp only[I6,dats,Hh];exact⟨h.1,dats_app h.2 k⟩
def dats_take:∀{l:List LV} (n:Nat),dats l=true→dats (l.take n)=true
 |_,0,_=>by simp[dats]
 |[],n+1,_=>by simp[dats]
 |v::l,n+1,h=>by
  simp only[dats,Hh]at h;simp only[List.take_succ_cons,dats,Hh];exact⟨h.1,dats_take n h.2⟩
def dats_drop:∀{l:List LV} (n:Nat),dats l=true→dats (l.drop n)=true
 |_,0,h=>h
 |[],n+1,_=>by simp[dats]
 |v::l,n+1,h=>by
  simp only[dats,Hh]at h;simp only[Ku];exact dats_drop n h.2
def Ze{g:Type}{f:g→LV}(h:∀a,(f a).dat=true):∀l:List g,dats (l.map f)=true
 |[]=>rfl
 |a::l=>by simp only[Kd,dats,Hh];exact⟨h a,Ze h l⟩
mutual
def bor(G:Mh):LV→LV→Prop
 |.dy gA k,d=>∃l len p st,d=.lst l len p∧G[gA]?=some (.dyn l len p k st)∧dats l=true
 |.vw gA k lo len,d=>∃l gg p st,d=.lst ((l.drop (lo*p)).take (len*p)) len p∧G[gA]?=some (.dyn l gg p k st)∧lo*p+len*p≤l.length∧dats l=true
 |.nilSl,d=>d=.nilSl∨∃p,d=.lst [] 0 p
 |.agg l,d=>∃r,d=.agg r∧bors G l r
 |v,d=>d=v∧v.dat=true
def bors(G:Mh):List LV→List LV→Prop
 |[],r=>r=[]
 |v::l,r=>∃d r',r=d::r'∧bor G v d∧bors G l r'
end
section calls
variable {P : Program} {c : Cx} {G : Mh}
def cm{v d:LV}{a:AV}(g:d=v∧v.dat=true)(h:AR c v a):AR ⟨[],λo=>c.Fz o∨Ow c G o,c.H⟩ d a:=by
 obtain⟨rfl,hd⟩:=g;exact AR.dat (c':=⟨[],λo=>c.Fz o∨Ow c G o,c.H⟩) (λo j=>⟨Or.inl j,rfl⟩) d a hd h
mutual
def bor_ok(hs:HSim c G)(v d:LV)(a:AV)(p:bor G v d)(h:AR c v a):AR ⟨[],λo=>c.Fz o∨Ow c G o,c.H⟩ d a:=by
 cases v with
 |dy gH k =>
  simp only[bor]at p;obtain⟨l,len,gg,st,rfl,hg,hd⟩:=p;cases h with
  | @dy _ _ k' hh _ e hk ha _ =>
   have gD:=hs.obj gH _ _ _ hg e;obtain⟨r0,r1,r2⟩:=gD;have gB:=ha J;rcases r2 with ⟨r2,r3⟩|⟨o,v,room,t,gC,l',r2,r3,r4,r5,r6,r7,r8⟩
   ·subst r3;have:l=[]:=Ig Dm;subst this;rw[gB,r2];exact .lstNil
   ·have gL:l'.length=len*gg:=Dx
    have hr:=Tb (i:=0) (n:=len*gg) r3 r5 r4 J;rw[Jd,Hz J]at hr;rw[gB,r2];exact .lst (.inr ⟨gH,_,_,_,hg,rfl,e,by rw[r2];rfl⟩) (λr e=>(r7 r e).2) r1 hr (ARs.dat (c':=⟨[],λo=>c.Fz o∨Ow c G o,c.H⟩) (λo ho=>⟨Or.inl ho,rfl⟩) l l' hd r6)
 |vw gH k lo len =>
  simp only[bor]at p;obtain⟨l,gI,gg,st,rfl,hg,hle,hd⟩:=p;cases h with
  | @vw _ _ _ _ k' hh _ e hk ha _ _ =>
   have gM:=(hs.obj gH _ _ _ hg e).1;rcases ha J with ⟨r3,r4⟩|⟨o,v,gK,gA,room,gE,r3,r4,r9⟩
   ·subst r3;simp only[Kc,Mb];rcases r4 with rfl|⟨rfl,_⟩
    ·exact .lstNil
    ·exact .lstEmp
   ·have e2:=e;rw[r3]at e2;obtain⟨_,q1,q2,q3,t,gC,l',q4,q5,q6,q7,_⟩:=Z4 hs hg e2;subst q2 q3;have hr:=Tb (i:=lo*gA) (n:=len*gA) q4 q6 q5 J;rw[r4];refine .lst (.inr ⟨gH,_,_,_,hg,rfl,e,by rw[r3];rfl⟩) r9 Ab hr ?_;exact ((ARs.dat (c':=⟨[],λo=>c.Fz o∨Ow c G o,c.H⟩) (λo ho=>⟨Or.inl ho,rfl⟩) l l' hd q7).drop _).take _
 |nilSl =>
  simp only[bor]at p;cases h;rcases p with rfl|⟨gg,rfl⟩
  ·exact .nilSl
  ·exact .lstNil
 |agg l =>
  simp only[bor]at p;obtain⟨r,rfl,p⟩:=p;cases h with
  |agg h=>exact .agg (bors_ok hs l r _ p h)
 |_=>exact cm (by simpa only[bor] using p) h
termination_by SizeOf.sizeOf v
def bors_ok(hs:HSim c G)(l r:List LV)(as:List AV)(p:bors G l r)(h:ARs c l as):ARs ⟨[],λo=>c.Fz o∨Ow c G o,c.H⟩ r as:=by
 cases l with
 |nil=>simp only[bors]at p;subst p;cases h;exact .nil
 |cons v l =>
  simp only[bors]at p;obtain⟨d,r',rfl,gF,gG⟩:=p;cases h with
  |cons e es=>exact .cons (bor_ok hs v d _ gF e) (bors_ok hs l r' _ gG es)
termination_by SizeOf.sizeOf l
end
mutual
def shV(n:Nat):LV→LV
 |.dy j k=>.dy (n+j) k
 |.agg l=>.agg (shVs n l)
 |.tup l=>.tup (shVs n l)
 |v=>v
def shVs(n:Nat):List LV→List LV
 |[]=>[]
 |v::l=>shV n v::shVs n l
end
mutual
def frV(j:Mh):LV→LV
 |.dy gA _=>match j[gA]? with
  |some (.dyn l len gg _ _)=>.lst l len gg
  |_=>.any
 |.agg l=>.agg (frVs j l)
 |.tup l=>.tup (frVs j l)
 |v=>v
def frVs(j:Mh):List LV→List LV
 |[]=>[]
 |v::l=>frV j v::frVs j l
end
mutual
def sh_AR{c0 c':Cx}{n m:Nat}(h:∀gg a,gg<m→AR c0 (.dy gg 0) a→AR c' (.dy (n+gg) 0) a)(v:LV)(a:AV)(j:v.sim m=true)(ha:AR c0 v a):AR c' (shV n v) a:=by
 cases v with
 |dy gg k =>
  simp only[LV.sim,Hh,Lu,Ht]at j;obtain⟨rfl,hj⟩:=j;exact h gg a hj ha
 |agg l =>
  simp only[LV.sim]at j;cases ha with
  |agg ha=>simp only[shV];exact .agg (sh_ARs h l _ j ha)
 |tup l =>
  simp only[LV.sim]at j;cases ha with
  |tup ha=>simp only[shV];exact .tup (sh_ARs h l _ j ha)
 |_=>first|(simp only[LV.sim]at j;cases j;done)|(simp only[shV];cases ha;constructor)
termination_by SizeOf.sizeOf v
def sh_ARs{c0 c':Cx}{n m:Nat}(h:∀gg a,gg<m→AR c0 (.dy gg 0) a→AR c' (.dy (n+gg) 0) a)(l:List LV)(r:List AV)(j:sims m l=true)(ha:ARs c0 l r):ARs c' (shVs n l) r:=by
 cases l with
 |nil=>cases ha;simp only[shVs];exact .nil
 |cons v l =>
  simp only[sims,Hh]at j;cases ha with
  |cons e es=>simp only[shVs];exact .cons (sh_AR h v _ j.1 e) (sh_ARs h l _ j.2 es)
termination_by SizeOf.sizeOf l
end
mutual
def fr_AR{c0 c':Cx}{G0:Mh}(h:∀gg a,gg<G0.length→AR c0 (.dy gg 0) a→AR c' (frV G0 (.dy gg 0)) a)(v:LV)(a:AV)(j:v.sim G0.length=true)(ha:AR c0 v a):AR c' (frV G0 v) a:=by
 cases v with
 |dy gg k =>
  simp only[LV.sim,Hh,Lu,Ht]at j;obtain⟨rfl,hj⟩:=j;exact h gg a hj ha
 |agg l =>
  simp only[LV.sim]at j;cases ha with
  |agg ha=>simp only[frV];exact .agg (fr_ARs h l _ j ha)
 |tup l =>
  simp only[LV.sim]at j;cases ha with
  |tup ha=>simp only[frV];exact .tup (fr_ARs h l _ j ha)
 |_=>first|(simp only[LV.sim]at j;cases j;done)|(simp only[frV];cases ha;constructor)
termination_by SizeOf.sizeOf v
def fr_ARs{c0 c':Cx}{G0:Mh}(h:∀gg a,gg<G0.length→AR c0 (.dy gg 0) a→AR c' (frV G0 (.dy gg 0)) a)(l:List LV)(r:List AV)(j:sims G0.length l=true)(ha:ARs c0 l r):ARs c' (frVs G0 l) r:=by
 cases l with
 |nil=>cases ha;simp only[frVs];exact .nil
 |cons v l =>
  simp only[sims,Hh]at j;cases ha with
  |cons e es=>simp only[frVs];exact .cons (fr_AR h v _ j.1 e) (fr_ARs h l _ j.2 es)
termination_by SizeOf.sizeOf l
end
def Mv{f:Nat}{j:List LV}(hc:Ni P f j K L)(hb:bors G Z j)(k:Q (frV L K) G):Qq P (.fn f) Z G Q:=by
 obtain⟨ht,N,hG,O⟩:=hc;refine⟨ht,λc t1 C z R ha=>?_⟩;cases t1 with
 |yield o=>exact R.elim
 |fn gG =>
  obtain rfl:f=gG:=R;obtain⟨m,v1,E,F,q1,q2,q3,q4,q5,q6⟩:=O (λo=>c.Fz o∨Ow c G o) c.H C (λo g=>g.elim (z.fz o) (z.lt o)) (bors_ok z Z j C hb ha);have S:CxLe c ⟨c.hd,λo=>c.Fz o∨Ow ⟨E,λo=>c.Fz o∨Ow c G o,F⟩ L o,F⟩:=⟨λgg k h e=>⟨k,h,e,Hm _,λ_=>rfl,λ_=>rfl⟩,λo g=>⟨.inl g,q5 o (z.fz o g)⟩⟩;have p:∀o,Ow ⟨c.hd,λo=>c.Fz o∨Ow ⟨E,λo=>c.Fz o∨Ow c G o,F⟩ L o,F⟩ G o→Ow c G o:=λo ⟨gg,A,k,h,D,B,T,V⟩=>⟨gg,A,k,h,D,B,T,V⟩
  refine⟨m,v1,F,q1,⟨c.hd,λo=>c.Fz o∨Ow ⟨E,λo=>c.Fz o∨Ow c G o,F⟩ L o,F⟩,frV L K,G,rfl,?_,?_,?_,k⟩
  ·refine⟨z.len,λo g=>?_,λo g=>Ik (z.lt o (p o g)) q4,λo g X=>?_,λgg A k h D B=>?_,λgg q A H k h k' h' o D B T V e5 e6 e7 e8=>z.excl gg q A H k h k' h' o D B T V e5 e6 e7 e8⟩
   ·rcases g with g|g
    ·exact Ik (z.fz o g) q4
    ·exact q2.lt o g
   ·rcases X with X|X
    ·exact z.sep o (p o g) X
    ·have:=q6 o X;have:=z.lt o (p o g);omega
   ·by_cases hl:A.live=true
    ·exact (z.obj gg A k h D B).mono S (λo g=>q5 o (z.lt o ⟨gg,A,k,h,D,hl,B,g⟩))
    ·cases A<;>first|exact absurd rfl hl|trivial
  ·refine⟨S,q4,λo g _=>q5 o g,λo g=>.inl (p o g),λo g=>g.elim .inl (λh=>.inr (.inr (q6 o h))),λgg A H D B=>?_,λgg A H k h o D B T V e5 e6=>?_⟩
   ·rw[D]at B;cases B;exact Hm _
   ·rw[D]at B;cases B;have hl:A.live=true:=by cases A<;>first|rfl|cases e5
    exact⟨rfl,q5 o (z.lt o ⟨gg,A,k,h,D,hl,T,V⟩),rfl⟩
  ·refine fr_AR (λgE a hj h=>?_) K v1 N q3;obtain⟨l,len,I,gA,gB⟩:=hG gE _ (Hj hj);have hg:L[gE]?=some (.dyn l len I 0 0):=by rw[Hj hj,gA]
   simp only[frV];rw[hg];dsimp only;cases h with
   | @dy _ _ k' hh _ e hk ha _ =>
    obtain⟨r0,r1,M⟩:=q2.obj gE _ _ _ hg e;have Y:=ha J;rcases M with ⟨M,r3⟩|⟨o,v,gC,t,gD,l',M,r3,r4,r5,r6,r7,r8⟩
    ·subst r3;have:l=[]:=Ig Dm;subst this;rw[Y,M];exact .lstNil
    ·have gF:l'.length=len*I:=Dx
     have hr:=Tb (i:=0) (n:=len*I) r3 r5 r4 J;rw[Jd,Hz J]at hr;rw[Y,M];exact .lst (.inr ⟨gE,_,_,_,hg,rfl,e,by rw[M];rfl⟩) (λr e=>(r7 r e).2) r1 hr (zha gB r6)
end calls
end
section
section rules
variable {P : Program} {f n : Nat} {ρ : Ml} {D : List Nat} {G : Mh} {Q : O7}
end rules
end
section
noncomputable section
def wp(P:Program)(f n:Nat)(ro:Option Nat):LC→Ml→List Nat→Mh→O7→Prop
 |.skip,ρ,D,G,Q=>Q .normal ρ D G
 |.ops l,ρ,D,G,Q=>Sm P l ρ G λρ' G'=>Q .normal ρ' D G'
 |.seq a b,ρ,D,G,Q=>wp P f n ro a ρ D G λx ρ' j G'=>match x with
  |.normal=>wp P f n ro b ρ' j G' Q
  |x=>Q x ρ' j G'
 |.cond x a b,ρ,D,G,Q=>uh (x.ev ρ) (wp P f n ro a ρ D G Q) (wp P f n ro b ρ D G Q)
 |.block id c,ρ,D,G,Q=>wp P f n ro c ρ D G λx ρ' j G'=>match x with
  |.exit i=>if i=id then Q .normal ρ' j G' else Q (.exit i) ρ' j G'
  |x=>Q x ρ' j G'
 |.draw l,ρ,D,G,Q=>Wg P l ρ G λρ' G'=>Q .normal ρ' D G'
 |.exit id,ρ,D,G,Q=>Q (.exit id) ρ D G
 |.scope c,ρ,D,G,Q=>wp P f n ro c ρ D G Q
 |.label,ρ,D,G,Q=>Q .normal ρ D G
 |.ret,ρ,D,G,Q=>Q .ret ρ D G
 |.stuck,_,_,_,_=>False
 |s,ρ,D,G,Q=>W P f n s ro ρ D G Q
def bw(P:Program)(f n:Nat)(ro:Option Nat)(b:LC)(Q:O7):O7:=λx ρ' j G'=>match x with
  |.normal=>wp P f n ro b ρ' j G' Q
  |x=>Q x ρ' j G'
def f9(id:Nat)(Q:O7):O7:=λx ρ' j G'=>match x with
  |.exit i=>if i=id then Q .normal ρ' j G' else Q (.exit i) ρ' j G'
  |x=>Q x ρ' j G'
def nxQ(Nx:Ml→List Nat→Mh→Prop)(Q:O7):O7:=λx ρ' j G'=>match x with
  |.normal=>Nx ρ' j G'
  |x=>Q x ρ' j G'
def rq(K:LV→Mh→Prop)(G:Mh):List LV→Prop:=λvs=>K (T4 vs) G
def gn(ρ:Ml)(rs:List RRes)(K:LV→Mh→Prop):Mh→Prop:=λj=>Qi ρ j rs (rq K j)
def Rr (rs : List RRes) (K : LV → Mh → Prop) : O7 := fun x ρ D G' => match x with
   |.exit _=>False
   |_=>iu D G' (gn ρ rs K)
def ng(Q:O7)(D:List Nat):Ml→Mh→Prop:=λρ G=>Q .normal ρ D G
def vo(P:Program)(l:List LI)(K:Ml→Mh→Prop):Ml→Mh→Prop:=λρ' G'=>Sm P l ρ' G' K
def df(ρ:Ml)(d:Option Nat)(K:Ml→Mh→Prop):LV→Mh→Prop:=λv G'=>K (Rb ρ d v) G'
def Uc(K:LV→Mh→Prop)(G:Mh):LV→Prop:=λv=>K v G
def drK(P:Program)(cs:List (LI×Bool))(l:List (LI×List (LI×Bool)))(ρ:Ml)(G:Mh)(K:Ml→Mh→Prop):Ml→Mh→Prop:=λρ' G'=>T8 ρ G G' cs∧Wg P l ρ' G' K
def w8(ρ:Ml)(t:Nat)(K:List LV→Prop):List LV→Prop:=λvs=>K (lk ρ t::vs)
def rk(v:LV)(K:List LV→Prop):List LV→Prop:=λvs=>K (v::vs)
def cnK(ρ:Ml)(G:Mh)(l:List RRes)(K:List LV→Prop):List LV→Prop:=λcs=>Qi ρ G l (rk (.agg cs) K)
def T3{P:Program}{f n:Nat}{ro:Option Nat}:∀(s:LC) {ρ:Ml} {D:List Nat} {G:Mh} {Q:O7},wp P f n ro s ρ D G Q→W P f n s ro ρ D G Q
 |.skip,_,_,_,_,h=>n7 h
 |.ops l,_,_,_,_,h=>wj h
 |.seq a b,_,_,_,_,h=>y9 ((T3 a h).post λx ρ D G k=>by
  cases x with
  |normal=>exact T3 b k
  |exit i=>exact k
  |ret=>exact k)
 |.cond x a b,ρ,_,_,_,h=>by
  simp only[wp]at h;obtain⟨t,j,h⟩:=Xu h;exact pr j (λe=>T3 a (h.1 e)) (λe=>T3 b (h.2 e))
 |.block id c,_,_,_,_,h=>fv (T3 c h)
 |.exit id,_,_,_,_,h=>ow h
 |.scope c,_,_,_,_,h=>d8 (T3 c h)
 |.label,_,_,_,_,h=>dx h
 |.ret,_,_,_,_,h=>zi h
 |.stuck,_,_,_,_,h=>h.elim
 |.draw l,_,_,_,_,h=>pu h
 |.loop c,_,_,_,_,h=>h
 |.rangeF g ps a b,_,_,_,_,h=>h
section rules
variable {P : Program}
def Mq{f:Nat}{s:LC}{n:Nat}{rs:List RRes}(C:Mt P f=some ⟨n,s.r,rs⟩)(j:s.ok=true){G:Mh}{K:LV→Mh→Prop}(E:Z.length≤n)
  (h:wp P f n none s (aw Z 0) [] G (Rr rs K)):Qq P (.fn f) Z G K :=
 zsk C j E ((T3 s h).post λx ρ D G' k=>by
  cases x with
  |normal=>exact⟨trivial,k⟩
  |exit i=>exact k.elim
  |ret=>exact⟨trivial,k⟩)
def Ni.val{f:Nat}{args:List LV}{v0:LV}(j:v0.sim 0=true)(h:Qq P (.fn f) args [] λv _=>v=subV [] v0):Ni P f args v0 [] :=
 .mk j (h.mono λv G e=>⟨[],e,rfl,trivial⟩) (λgg ob e=>Bt)
def M2{f n:Nat}{ro:Option Nat}{ρ:Ml}{D:List Nat}{G:Mh}{Q:O7}{s:LC}(I:Ml→List Nat→Mh→Nat→Prop){N:Nat}(E:I ρ D G N)
  (h:∀(N:Nat) (ρ:Ml) (D:List Nat) (G:Mh),I ρ D G N→∀Nx:Ml→List Nat→Mh→Prop,(∀(ρ':Ml) (C:List Nat) (G':Mh),(∃j,j<N∧I ρ' C G' j)→Nx ρ' C G')→wp P f n ro s ρ D G (nxQ Nx Q)):W P f n (.loop s) ro ρ D G Q :=
 sk I E λN ρ D G k=>T3 s (h N ρ D G k (λρ' C G'=>∃j,j<N∧I ρ' C G' j) λ_ _ _ e=>e)
end rules
section congr
variable {P : Program} {ρ ρ' : Ml} {G G' : Mh} {x x' y y' : LV} {K : LV → Mh → Prop} {Kv : LV → Prop}
@[congr] theorem W_congr {f n:Nat} {s:LC} {ro:Option Nat} {D:List Nat} {Q:O7} (j:ρ=ρ') (C:G=G'):W P f n s ro ρ D G Q=W P f n s ro ρ' D G' Q:=B2
@[congr] theorem wg {f n:Nat} {s:LC} {ro:Option Nat} {D:List Nat} {Q:O7} (j:ρ=ρ') (C:G=G'):wp P f n ro s ρ D G Q=wp P f n ro s ρ' D G' Q:=B2
@[congr] theorem i6 {t:LTgt} {a:List LV} (j:a=Z) (C:G=G'):Qq P t a G K=Qq P t Z G' K:=B2
@[congr] theorem oy {op:BinOp} {g:Bool} {t:TypeId} (j:x=x') (C:y=y'):Ra P op g t x y Kv=Ra P op g t x' y' Kv:=B2
@[congr] theorem ut {op:UnOp} (j:x=x'):og op x Kv=og op x' Kv:=by rw[j]
@[congr] theorem ub {k:IntKind} (j:x=x'):ff k x Kv=ff k x' Kv:=by rw[j]
@[congr] theorem i5 {n:Nat} {K:List LV→Prop} (j:G=G') (C:x=x'):Ui G x n K=Ui G' x' n K:=B2
@[congr] theorem ko (j:G=G') (C:x=x'):Vc G x Kv=Vc G' x' Kv:=B2
@[congr] theorem n4 {l:List LV} {i:Nat} (C:l=Z) (E:i=j):Om l i Kv=Om Z j Kv:=by rw[C,E]
@[congr] theorem cr {r:List LV} {K:Mh→Prop} (j:G=G') (C:x=x') (E:r=Z):Tv G x r K=Tv G' x' Z K:=Dk
@[congr] theorem mz {n:Nat} {K:Nat→List LV→Prop} (j:G=G') (C:x=x'):Re G n x K=Re G' n x' K:=B2
@[congr] theorem qv {K:Nat→Prop} (j:G=G') (C:x=x'):lenL G x K=lenL G' x' K:=B2
@[congr] theorem qu {size n n':Nat} {l:List LV} (j:G=G') (C:x=x') (E:n=n') (F:l=Z):O9 G size x n l K=O9 G' size x' n' Z K:=by rw[j,C,E,F]
@[congr] theorem tb {t:Bool} {A B:Prop} (h:t=vN):R0 t A B=R0 vN A B:=Ee
@[congr] theorem s8 {A B:Prop} (h:x=x'):aa x A B vL=aa x' A B vL:=Ee
@[congr] theorem tv {A B:Prop} (h:x=x'):uh x A B=uh x' A B:=Ee
end congr
def znm{t:Bool}{A B:Prop}:uh (.bool t) A B=R0 t A B:=(rfl)
def zqm{t:Bool}{A B:Prop}:aa (.bool t) A B vL=R0 t A B:=(rfl)
def zu4{A B:Prop}:aa (.tup []) A B vL=vL:=(rfl)
def zjh{A B:Prop}:R0 true A B=A:=by simp[R0]
def zfn{A B:Prop}:R0 false A B=B:=by simp[R0]
def eu{p:Prop}[Decidable p]{A B:Prop}:R0 (decide p) A B=((p→A)∧(¬p→B)):=by simp[R0]
def zw2{b:Bool}{A B:Prop}:R0 (!b) A B=R0 b B A:=by cases b<;>simp[R0]
def zli(v:LV)(l:List LV)(K:LV→Prop):Om (v::l) 0 K=K v:=by simp[Om]
def zkz(v:LV)(l:List LV)(i:Nat)(K:LV→Prop):Om (v::l) (i+1) K=Om l i K:=by simp[Om]
def Wd(o:Option LObj)(K:List LV→Nat→Prop):Prop:=match o with
 |some (.cells l st)=>K l st
 |_=>False
def Pp(o:Option LObj)(K:List LV→Nat→Nat→Nat→Nat→Prop):Prop:=match o with
 |some (.dyn l len esz j st)=>K l len esz j st
 |_=>False
def ny(o:Option (List LV))(K:List LV→Prop):Prop:=match o with
 |some l=>K l
 |none=>False
def d7(c a b:LV)(K:LV→Prop):Prop:=match c with
 |.bool t=>match a,b with
  |.bool x,.bool y=>K (.bool (match t with|true=>x|false=>y))
  |x,y=>R0 t (K x) (K y)
 |_=>False
def fc(x:LV)(K:LV→Prop):Prop:=match x with
 |.ptr p i=>K (.ptr p i)
 |.dptr p k i=>K (.dptr p k i)
 |.cptr l i=>K (.cptr l i)
 |.fn (.func f) a b=>K (.fn (.func f) a b)
 |_=>False
def yw(x y:LV)(K:Nat→Prop):Prop:=match x,y with
 |.i l,.i c=>l=c∧0≤l∧l≤1048576∧K l.toNat
 |_,_=>False
def cq(x:LV)(K:Nat→Prop):Prop:=match x with
 |.i n=>0≤n∧K n.toNat
 |.u n=>K n.toNat
 |_=>False
def Wn(G:Mh)(size:Nat)(x:LV)(lo:(Nat→Prop)→Prop)(hi:Nat→(Nat→Prop)→Prop)(K:LV→Prop):Prop:=match x with
 |.nilSl=>lo λa=>hi 0 λb=>a=0∧b=0∧K .nilSl
 |.dy p k=>Pp G[p]? λ_ len esz j _=>k=j∧esz=size∧lo λa=>hi len λb=>a≤b∧b≤len∧K (.vw p k a (b-a))
 |.vw p k C len=>Pp G[p]? λ_ _ esz j _=>k=j∧esz=size∧lo λa=>hi len λb=>a≤b∧b≤len∧K (.vw p k (C+a) (b-a))
 |.lst l len esz=>esz=size∧lo λa=>hi len λb=>a≤b∧b≤len∧K (.lst ((l.drop (a*esz)).take ((b-a)*esz)) (b-a) esz)
 |_=>False
def Tx(off:Nat)(x:LV)(K:LV→Prop):Prop:=match x with
 |.ptr p i=>K (.ptr p (i+off))
 |.dptr p k i=>K (.dptr p k (i+off))
 |.cptr l i=>K (.cptr l (i+off))
 |_=>False
def bz(g:Bool)(n off:Nat)(x:LV)(K:LV→Prop):Prop:=match x with
 |.agg l=>match g with
  |true=>off+n≤l.length∧K (.agg ((l.drop off).take n))
  |false=>Om l off K
 |_=>False
def Wh(G:Mh)(size:Nat)(x:LV)(n:Int)(K:LV→Prop):Prop:=match x with
 |.dy p k=>Pp G[p]? λ_ len esz j _=>k=j∧esz=size∧0≤n∧n<len∧K (.dptr p k (n.toNat*size))
 |.vw p k lo len=>Pp G[p]? λ_ _ esz j _=>k=j∧esz=size∧0≤n∧n<len∧K (.dptr p k ((lo+n.toNat)*size))
 |.lst l len esz=>esz=size∧0≤n∧n<len∧K (.cptr l (n.toNat*size))
 |_=>False
def xx(G:Mh)(size:Nat)(x i:LV)(K:LV→Prop):Prop:=match i with
 |.i n=>Wh G size x n K
 |.u n=>Wh G size x (n.toNat:Int) K
 |_=>False
def ee(i:Nat)(x:LV)(K:LV→Prop):Prop:=match x with
 |.tup l=>Om l i K
 |_=>False
def Zy(j:Bool)(x y:LV)(K:LV→Prop):Prop:=match x,y with
 |.i a,.i b=>K (.i (match j with|true=>max a b|false=>min a b))
 |.u a,.u b=>K (.u (match j with|true=>if a<b then b else a|false=>if b<a then b else a))
 |_,_=>False
def ui(G:Mh)(size:Nat)(d:LV)(n:Nat)(l:List LV)(K:LV→Mh→Prop):Prop:=match d with
 |.dy p k=>Pp G[p]? λr len esz j st=>k=j∧esz=size∧K (.i (min n len:Nat)) (G.set p (.dyn (M5 r 0 (l.take (min n len*size))) len esz j (st+1)))
 |.vw p k lo len=>Pp G[p]? λr C esz j st=>k=j∧esz=size∧(lo+len)*size≤r.length∧K (.i (min n len:Nat)) (G.set p (.dyn (M5 r (lo*size) (l.take (min n len*size))) C esz j (st+1)))
 |_=>False
def wt(G:Mh)(size:Nat)(z:List LV)(x:LV)(K:Mh→Prop):Prop:=match x with
 |.vw p k lo len=>Pp G[p]? λr j esz C st=>k=C∧esz=size∧z.length=size∧(lo+len)*size≤r.length∧K (G.set p (.dyn (M5 r (lo*size) (M7 z len)) j esz C (st+1)))
 |_=>False
def goL(P:Program)(f:LV)(j:List LV)(G:Mh)(K:LV→Mh→Prop):Prop:=match f with
 |.fn (.func g) a b=>Qq P (.fn g) (a++j++b) G K
 |.fn (.yield p) [] _=>Qq P (.yield p) j G K
 |_=>False
section byOps
variable {P : Program} {ρ : Ml} {G : Mh} {K : LV → Mh → Prop} {x y c a b s d i f : Lx} {l cs z : List LV} {ps : List (Nat × Nat × Lx)} {n size len off : Nat} {lo hi : Option Lx}
def OpL_move:M8 P ρ G (.move x) K=K (x.ev ρ) G:=(rfl)
def OpL_pick:M8 P ρ G (.pick c a b) K=d7 (c.ev ρ) (a.ev ρ) (b.ev ρ) (Uc K G):=(rfl)
def OpL_alloc:M8 P ρ G (.alloc l) K=K (.ptr G.length 0) (G++[.cells l 0]):=(rfl)
def OpL_box:M8 P ρ G (.box x) K=ny (x.ev ρ).cells λl=>K (.ptr G.length 0) (G++[.cells l 0]):=(rfl)
def OpL_build:M8 P ρ G (.build cs ps) K=ny (cz ρ cs ps) λl=>K (.agg l) G:=(rfl)
def OpL_buildSl:M8 P ρ G (.buildSl size len cs ps) K=ny (cz ρ cs ps) λl=>l.length=len*size∧K (.dy G.length 0) (G++[.dyn l len size 0 0]):=(rfl)
def OpL_load1:M8 P ρ G (.load1 x) K=Vc G (x.ev ρ) (Uc K G):=(rfl)
def OpL_loadN:M8 P ρ G (.loadN n x) K=Ui G (x.ev ρ) n λl=>K (.agg l) G:=(rfl)
def OpL_store:M8 P ρ G (.store n x y) K=ny (y.ev ρ).cells λl=>l.length=n∧Tv G (x.ev ρ) l λG'=>K (.tup []) G':=(rfl)
def OpL_nilChk:M8 P ρ G (.nilChk x) K=fc (x.ev ρ) (Uc K G):=(rfl)
def fe{op:BinOp}{g:Bool}{t:TypeId}:M8 P ρ G (.bin op g t x y) K=Ra P op g t (x.ev ρ) (y.ev ρ) (Uc K G):=(rfl)
def o8{op:UnOp}:M8 P ρ G (.un op x) K=og op (x.ev ρ) (Uc K G):=(rfl)
def zv1{k:IntKind}:M8 P ρ G (.cvInt k x) K=ff k (x.ev ρ) (Uc K G):=(rfl)
def zsj{g:Nat}{j gs:List Lx}:M8 P ρ G (.mkFunc g j gs) K=K (.fn (.func g) (j.map (·.ev ρ)) (gs.map (·.ev ρ))) G:=(rfl)
def OpL_mkSl:M8 P ρ G (.mkSl size z a b) K=yw (a.ev ρ) (b.ev ρ) λn=>z.length=size∧K (.dy G.length 0) (G++[.dyn (M7 z n) n size 0 0]):=by
 simp only[M8,yw];cases a.ev ρ<;>cases b.ev ρ<;>rfl
def zw1{x:Lx}{d:Nat}{K:Nat→Prop}:Oe ρ d (some x) K=cq (x.ev ρ) K:=(rfl)
def zu6{d:Nat}{K:Nat→Prop}:Oe ρ d none K=K d:=(rfl)
def OpL_slSl:M8 P ρ G (.slSl size x lo hi) K=Wn G size (x.ev ρ) (λk=>Oe ρ 0 lo k) (λd k=>Oe ρ d hi k) (Uc K G):=by
 simp only[M8,Wn,Pp];cases x.ev ρ<;>try rfl
 all_goals (cases G[_]?<;>try rfl)
def U4(j:Bool)(x y z:LV)(K:LV→Prop):Prop:=match x with
 |.i a=>match y with
  |.i b=>match z with
   |.i d=>K (.i (match j with|true=>max (max a b) d|false=>min (min a b) d))
   |_=>False
  |_=>False
 |_=>False
def ik(len size:Nat)(x i:LV)(K:LV→Prop):Prop:=match i with
 |.i n=>0≤n∧n<len∧Tx (n.toNat*size) x K
 |_=>False
def ct(g:Bool)(len size:Nat)(x i:LV)(K:LV→Prop):Prop:=match i with
 |.i n=>0≤n∧n<len∧bz g size (n.toNat*size) x K
 |_=>False
def Xl{g:Bool}{x y z:Lx}:M8 P ρ G (.max3 g x y z) K=U4 g (x.ev ρ) (y.ev ρ) (z.ev ρ) (Uc K G):=(rfl)
def zkk{len size:Nat}{x i:Lx}:M8 P ρ G (.ixAddrArr len size x i) K=ik len size (x.ev ρ) (i.ev ρ) (Uc K G):=(rfl)
def zvp{g:Bool}{len size:Nat}{x i:Lx}:M8 P ρ G (.ixArr g len size x i) K=ct g len size (x.ev ρ) (i.ev ρ) (Uc K G):=(rfl)
def OpL_fieldAddr:M8 P ρ G (.fieldAddr off x) K=Tx off (x.ev ρ) (Uc K G):=(rfl)
def OpL_ixAddr:M8 P ρ G (.ixAddr size x i) K=xx G size (x.ev ρ) (i.ev ρ) (Uc K G):=by
 simp only[M8,xx,Wh,yy,Pp];cases i.ev ρ<;>try rfl
def OpL_extract:M8 P ρ G (.extract n x) K=ee n (x.ev ρ) (Uc K G):=(rfl)
def OpL_lenSl:M8 P ρ G (.lenSl x) K=lenL G (x.ev ρ) λn=>K (.i n) G:=(rfl)
def Yc{g:Bool}:M8 P ρ G (.maxi g x y) K=Zy g (x.ev ρ) (y.ev ρ) (Uc K G):=(rfl)
def OpL_appG:M8 P ρ G (.appG size s x) K=Re G size (x.ev ρ) λn l=>n≤1048576∧O9 G size (s.ev ρ) n l K:=(rfl)
def OpL_copy:M8 P ρ G (.copy size d x) K=Re G size (x.ev ρ) λn l=>ui G size (d.ev ρ) n l K:=by
 simp only[M8,ui,Pp]
 congr 1
def OpL_clear:M8 P ρ G (.clear size z x) K=wt G size z (x.ev ρ) λG'=>K .any G':=by
 simp only[M8,wt,Pp]
 congr 1
def zwb{j:List Lx}:M8 P ρ G (.callV f j) K=goL P (f.ev ρ) (j.map (·.ev ρ)) G K:=(rfl)
end byOps
section opened
variable {P : Program} {G : Mh} {p k i n size lo len off esz : Nat} {l r new : List LV} {K : List LV → Prop} {K1 : LV → Prop} {KG : Mh → Prop} {KN : Nat → Prop} {KR : Nat → List LV → Prop} {KV : LV → Mh → Prop} {KS : List UInt8 → Prop} {lof mxf : (Nat → Prop) → Prop} {hif : Nat → (Nat → Prop) → Prop}
def zpu{l:List LV}{st:Nat}{K:List LV→Nat→Prop}:Wd (some (.cells l st)) K=K l st:=(rfl)
def zkj{l:List LV}{len esz st:Nat}{K:List LV→Nat→Nat→Nat→Nat→Prop}:Pp (some (.dyn l len esz j st)) K=K l len esz j st:=(rfl)
def cellsL_some:ny (some l) K=K l:=(rfl)
def ziy{a b:LV}:d7 (.bool true) a b K1=K1 a:=by cases a<;>cases b<;>simp[d7,R0]
def zfy{a b:LV}:d7 (.bool false) a b K1=K1 b:=by cases a<;>cases b<;>simp[d7,R0]
def zls{t x:Bool}:d7 (.bool t) (.bool x) (.bool false) K1=K1 (.bool (t&&x)):=by cases t<;>rfl
def zpl{t x:Bool}:d7 (.bool t) (.bool true) (.bool x) K1=K1 (.bool (t || x)):=by cases t<;>rfl
def chkL_ptr:fc (.ptr p i) K1=K1 (.ptr p i):=(rfl)
def zua{a b:Int}:yw (.i a) (.i b) KN=(a=b∧0≤a∧a≤1048576∧KN a.toNat):=(rfl)
def Xi{a:Int}:cq (.i a) KN=(0≤a∧KN a.toNat):=(rfl)
def slL_nil:Wn G size .nilSl lof hif K1=(lof λa=>hif 0 λb=>a=0∧b=0∧K1 .nilSl):=(rfl)
def slL_dy:Wn G size (.dy p k) lof hif K1=(Pp G[p]? λ_ len esz j _=>k=j∧esz=size∧lof λa=>hif len λb=>a≤b∧b≤len∧K1 (.vw p k a (b-a))):=(rfl)
def slL_vw:Wn G size (.vw p k lo len) lof hif K1=(Pp G[p]? λ_ _ esz j _=>k=j∧esz=size∧lof λa=>hif len λb=>a≤b∧b≤len∧K1 (.vw p k (lo+a) (b-a))):=(rfl)
def slL_lst:Wn G size (.lst l len esz) lof hif K1=(esz=size∧lof λa=>hif len λb=>a≤b∧b≤len∧K1 (.lst ((l.drop (a*esz)).take ((b-a)*esz)) (b-a) esz)):=(rfl)
def offL_ptr:Tx off (.ptr p i) K1=K1 (.ptr p (i+off)):=(rfl)
def offL_dptr:Tx off (.dptr p k i) K1=K1 (.dptr p k (i+off)):=(rfl)
def offL_cptr:Tx off (.cptr l i) K1=K1 (.cptr l (i+off)):=(rfl)
def fldL_true:bz true n off (.agg l) K1=(off+n≤l.length∧K1 (.agg ((l.drop off).take n))):=(rfl)
def fldL_false:bz false n off (.agg l) K1=Om l off K1:=(rfl)
def lw{x:LV}{n:Int}:xx G size x (.i n) K1=Wh G size x n K1:=(rfl)
def zqq{n:Int}:Wh G size (.dy p k) n K1=(Pp G[p]? λ_ len esz j _=>k=j∧esz=size∧0≤n∧n<len∧K1 (.dptr p k (n.toNat*size))):=(rfl)
def zq{n:Int}:Wh G size (.vw p k lo len) n K1=(Pp G[p]? λ_ _ esz j _=>k=j∧esz=size∧0≤n∧n<len∧K1 (.dptr p k ((lo+n.toNat)*size))):=(rfl)
def ztq{n:Int}:Wh G size (.lst l len esz) n K1=(esz=size∧0≤n∧n<len∧K1 (.cptr l (n.toNat*size))):=(rfl)
def tupL_tup:ee i (.tup l) K1=Om l i K1:=(rfl)
def zu8{a b d:Int}:U4 true (.i a) (.i b) (.i d) K1=K1 (.i (max (max a b) d)):=(rfl)
def Ya{len size:Nat}{x:LV}{n:Int}:ik len size x (.i n) K1=(0≤n∧n<len∧Tx (n.toNat*size) x K1):=(rfl)
def Yo{g:Bool}{len size:Nat}{x:LV}{n:Int}:ct g len size x (.i n) K1=(0≤n∧n<len∧bz g size (n.toNat*size) x K1):=(rfl)
def zt1{a b:Int}:Uj .and a b K1=(0≤a∧a<9223372036854775808∧0≤b∧b<9223372036854775808∧K1 (.i (a.toNat &&& b.toNat:Nat))):=(rfl)
def zv8{a b:Int}:Zy true (.i a) (.i b) K1=K1 (.i (max a b)):=(rfl)
def zux{a b:Int}:Zy false (.i a) (.i b) K1=K1 (.i (min a b)):=(rfl)
def zpv{n:Nat}:ui G size (.dy p k) n l KV=(Pp G[p]? λr len esz j st=>k=j∧esz=size∧KV (.i (min n len:Nat)) (G.set p (.dyn (M5 r 0 (l.take (min n len*size))) len esz j (st+1)))):=(rfl)
def zq2{n:Nat}:ui G size (.vw p k lo len) n l KV=(Pp G[p]? λr j esz C st=>k=C∧esz=size∧(lo+len)*size≤r.length∧KV (.i (min n len:Nat)) (G.set p (.dyn (M5 r (lo*size) (l.take (min n len*size))) j esz C (st+1)))):=(rfl)
def zn1{z:List LV}{KH:Mh→Prop}:wt G size z (.vw p k lo len) KH=(Pp G[p]? λr j esz C st=>k=C∧esz=size∧z.length=size∧(lo+len)*size≤r.length∧KH (G.set p (.dyn (M5 r (lo*size) (M7 z len)) j esz C (st+1)))):=(rfl)
def W4{g:Nat}{a b:List LV}:goL P (.fn (.func g) a b) Z G KV=Qq P (.fn g) (a++Z++b) G KV:=(rfl)
def readL_ptr:Ui G (.ptr p i) n K=Wd G[p]? λl _=>i+n≤l.length∧K ((l.drop i).take n):=by
 simp only[Ui,Wd];cases G[p]?<;>try rfl
def readL_dptr:Ui G (.dptr p k i) n K=Pp G[p]? λl _ _ j _=>k=j∧i+n≤l.length∧K ((l.drop i).take n):=by
 simp only[Ui,Pp];cases G[p]?<;>try rfl
def readL_cptr:Ui G (.cptr l i) n K=(i+n≤l.length∧K ((l.drop i).take n)):=(rfl)
def read1_ptr:Vc G (.ptr p i) K1=Wd G[p]? λl _=>Om l i K1:=by
 simp only[Vc,Wd];cases G[p]?<;>try rfl
def read1_dptr:Vc G (.dptr p k i) K1=Pp G[p]? λl _ _ j _=>k=j∧Om l i K1:=by
 simp only[Vc,Pp];cases G[p]?<;>try rfl
def read1_cptr:Vc G (.cptr l i) K1=Om l i K1:=(rfl)
def writeL_ptr:Tv G (.ptr p i) r KG=Wd G[p]? λl st=>i+r.length≤l.length∧KG (G.set p (.cells (M5 l i r) (st+1))):=by
 simp only[Tv,Wd];cases G[p]?<;>try rfl
def writeL_dptr:Tv G (.dptr p k i) r KG=Pp G[p]? λl len esz j st=>k=j∧i+r.length≤l.length∧KG (G.set p (.dyn (M5 l i r) len esz j (st+1))):=by
 simp only[Tv,Pp];cases G[p]?<;>try rfl
def rowL_dy:Re G size (.dy p k) KR=Pp G[p]? λl len esz j _=>k=j∧esz=size∧KR len l:=by
 simp only[Re,Pp];cases G[p]?<;>try rfl
def rowL_vw:Re G size (.vw p k lo len) KR=Pp G[p]? λl _ esz j _=>k=j∧esz=size∧lo*esz+len*esz≤l.length∧KR len ((l.drop (lo*esz)).take (len*esz)):=by
 simp only[Re,Pp];cases G[p]?<;>try rfl
def rowL_lst:Re G size (.lst l len esz) KR=(esz=size∧KR len l):=(rfl)
def lenL_nil:lenL G .nilSl KN=KN 0:=(rfl)
def lenL_dy:lenL G (.dy p k) KN=Pp G[p]? λ_ len _ j _=>k=j∧KN len:=by
 simp only[lenL,Pp];cases G[p]?<;>try rfl
def lenL_vw:lenL G (.vw p k lo len) KN=Pp G[p]? λ_ _ _ j _=>k=j∧KN len:=by
 simp only[lenL,Pp];cases G[p]?<;>try rfl
def lenL_lst:lenL G (.lst l len esz) KN=KN len:=(rfl)
def appL_nil:O9 G size .nilSl n new KV=KV (.dy G.length 0) (G++[.dyn new n size 0 0]):=(rfl)
def appL_dy:O9 G size (.dy p k) n new KV=Pp G[p]? λl len esz j st=>k=j∧(esz=size∧0<esz)∧len≤1000000000∧KV (.dy p (j+1)) (G.set p (.dyn (l++new) (len+n) esz (j+1) (st+1))):=by
 simp only[O9,Pp];cases G[p]?<;>try rfl
def appL_vw:O9 G size (.vw p k lo len) n new KV=Pp G[p]? λl C esz j st=>k=j∧(esz=size∧lo=0∧0<n)∧len≤1000000000∧if (len+n)*esz≤l.length then KV (.vw p k 0 (len+n)) (G.set p (.dyn (M5 l (len*esz) new) C esz j (st+1)))∧KV (.dy G.length 0) (G++[.dyn (l.take (len*esz)++new) (len+n) size 0 0]) else len=C∧0<esz∧KV (.dy p (j+1)) (G.set p (.dyn (l++new) (len+n) esz (j+1) (st+1)))∧KV (.dy G.length 0) (G++[.dyn (l++new) (len+n) size 0 0]):=by
 simp only[O9,Pp];cases G[p]?<;>try rfl
variable {op : BinOp} {g : Bool} {t : TypeId}
def zu1{a b:UInt64}:Ra P op g t (.u a) (.u b) K1=V9 op a b K1:=(rfl)
def zut{a b:Int}:Ra P op g t (.i a) (.i b) K1=Uj op a b K1:=(rfl)
def zl8{a:Int}{s:UInt64}:Ra P .shl g t (.i a) (.u s) K1=(0≤a∧s.toNat≤64∧Q9 (a*2^s.toNat)∧K1 (.i (a*2^s.toNat))):=(rfl)
def zm9{a:Int}{s:UInt64}:Ra P .shr g t (.i a) (.u s) K1=(0≤a∧s.toNat≤64∧K1 (.i (a/2^s.toNat))):=(rfl)
def zq1{a b:Bool}:Ra P .neq g t (.bool a) (.bool b) K1=(Qn P g t (.bool a) (.bool b)=some (a==b)∧K1 (.bool (!(a==b)))):=(rfl)
def zw0{b:Bool}:og .not (.bool b) K1=K1 (.bool (!b)):=(rfl)
def Zm{a:Int}:ff .u64 (.i a) K1=K1 (.u (iU a)):=(rfl)
def Z7{a:UInt64}:ff .i64 (.u a) K1=(a.toNat<9223372036854775808∧K1 (.i a.toNat)):=(rfl)
def zpd{l:List LV}{len esz:Nat}:Ra P .eql g t (.lst l len esz) .nilSl K1=(Qn P g t .nilSl .nilSl=some true∧K1 (.bool false)∧(len=0→K1 (.bool true))):=(rfl)
def zwg{op:BinOp}{g:Bool}{t:TypeId}{l r:List LV}:Ra P op g t (.agg l) (.agg r) K1=fa P op g t l r K1:=(rfl)
end opened
section code
variable {P : Program} {f n : Nat} {ro : Option Nat} {ρ ρ' : Ml} {D : List Nat} {G G' : Mh} {Q : O7} {a b c : LC} {x : Lx} {id i t d : Nat} {l : List LI} {ds : List (LI × List (LI × Bool))} {cs : List (LI × Bool)} {K : Ml → Mh → Prop} {KV : LV → Mh → Prop} {KL : List LV → Prop} {KG : Mh → Prop} {Nx : Ml → List Nat → Mh → Prop} {rs : List RRes} {o : LOp} {od : Option Nat} {v w : LV} {vs : List LV} {it : LI}
def wp_skip:wp P f n ro .skip ρ D G Q=Q .normal ρ D G:=(rfl)
def wp_ops:wp P f n ro (.ops l) ρ D G Q=Sm P l ρ G (ng Q D):=(rfl)
def wp_seq:wp P f n ro (.seq a b) ρ D G Q=wp P f n ro a ρ D G (bw P f n ro b Q):=(rfl)
def wp_cond:wp P f n ro (.cond x a b) ρ D G Q=uh (x.ev ρ) (wp P f n ro a ρ D G Q) (wp P f n ro b ρ D G Q):=(rfl)
def wp_block:wp P f n ro (.block id c) ρ D G Q=wp P f n ro c ρ D G (f9 id Q):=(rfl)
def wp_draw:wp P f n ro (.draw ds) ρ D G Q=Wg P ds ρ G (ng Q D):=(rfl)
def wp_exit:wp P f n ro (.exit id) ρ D G Q=Q (.exit id) ρ D G:=(rfl)
def wp_ret:wp P f n ro .ret ρ D G Q=Q .ret ρ D G:=(rfl)
def wp_loop:wp P f n ro (.loop c) ρ D G Q=W P f n (.loop c) ro ρ D G Q:=(rfl)
def seqQ_n:bw P f n ro b Q .normal ρ D G=wp P f n ro b ρ D G Q:=(rfl)
def seqQ_e:bw P f n ro b Q (.exit i) ρ D G=Q (.exit i) ρ D G:=(rfl)
def seqQ_r:bw P f n ro b Q .ret ρ D G=Q .ret ρ D G:=(rfl)
def blkQ_n:f9 id Q .normal ρ D G=Q .normal ρ D G:=(rfl)
def blkQ_e:f9 id Q (.exit i) ρ D G=if i=id then Q .normal ρ D G else Q (.exit i) ρ D G:=(rfl)
def blkQ_r:f9 id Q .ret ρ D G=Q .ret ρ D G:=(rfl)
def nxQ_n:nxQ Nx Q .normal ρ D G=Nx ρ D G:=(rfl)
def nxQ_e:nxQ Nx Q (.exit i) ρ D G=Q (.exit i) ρ D G:=(rfl)
def nxQ_r:nxQ Nx Q .ret ρ D G=Q .ret ρ D G:=(rfl)
def endQ_n:Rr rs KV .normal ρ D G=iu D G (gn ρ rs KV):=(rfl)
def endQ_r:Rr rs KV .ret ρ D G=iu D G (gn ρ rs KV):=(rfl)
def norQ_app:ng Q D ρ G=Q .normal ρ D G:=(rfl)
def takeL_nil:iu [] G KG=KG G:=(rfl)
def takK_app:gn ρ rs KV G=Qi ρ G rs (rq KV G):=(rfl)
def endK_app:rq KV G vs=KV (T4 vs) G:=(rfl)
def resL_nil:Qi ρ G [] KL=KL []:=(rfl)
def resL_tmp:Qi ρ G (.tmp t::rs) KL=Qi ρ G rs (w8 ρ t KL):=(rfl)
def resL_cN:Qi ρ G (.cellN t n::rs) KL=Ui G (lk ρ t) n (cnK ρ G rs KL):=(rfl)
def tmpK_app:w8 ρ t KL vs=KL (lk ρ t::vs):=(rfl)
def conK_app:rk v KL vs=KL (v::vs):=(rfl)
def cnK_app:cnK ρ G rs KL vs=Qi ρ G rs (rk (.agg vs) KL):=(rfl)
def oneL_1:T4 [v]=v:=(rfl)
def oneL_0:T4 []=.tup []:=(rfl)
def oneL_2:T4 (v::w::vs)=.tup (v::w::vs):=(rfl)
def OpsL_nil:Sm P [] ρ G K=K ρ G:=(rfl)
def OpsL_cons:Sm P (it::l) ρ G K=Vx P it ρ G (vo P l K):=(rfl)
def opsK_app:vo P l K ρ G=Sm P l ρ G K:=(rfl)
def ItL_n:Vx P ⟨od,none,o⟩ ρ G K=M8 P ρ G o (df ρ od K):=(rfl)
def ItL_t:Vx P ⟨od,some (t,true),o⟩ ρ G K=aa (lk ρ t) (M8 P (setL t (.bool true) ρ) G o (df (setL t (.bool true) ρ) od K)) (df (setL t (.bool false) ρ) od K (.tup []) G) (df ρ od K (.tup []) G):=(rfl)
def ItL_f:Vx P ⟨od,some (t,false),o⟩ ρ G K=aa (lk ρ t) (df (setL t (.bool true) ρ) od K (.tup []) G) (M8 P (setL t (.bool false) ρ) G o (df (setL t (.bool false) ρ) od K)) (df ρ od K (.tup []) G):=(rfl)
def itK_some:df ρ (some d) K v G=K ((d,v)::ρ) G:=(rfl)
def itK_none:df ρ none K v G=K ρ G:=(rfl)
def atG_app:Uc KV G v=KV v G:=(rfl)
def DrL_nil:Wg P [] ρ G K=K ρ G:=(rfl)
def DrL_cons:Wg P ((it,cs)::ds) ρ G K=Vx P it ρ G (drK P cs ds ρ G K):=(rfl)
def drK_app:drK P cs ds ρ G K ρ' G'=(T8 ρ G G' cs∧Wg P ds ρ' G' K):=(rfl)
def ev_t:(Lx.t i).ev ρ=lk ρ i:=(rfl)
def ev_c:(Lx.c v).ev ρ=v:=(rfl)
def argsL_nil:aw [] i=[]:=(rfl)
def argsL_cons:aw (v::vs) i=(i,v)::aw vs (i+1):=(rfl)
def setL_cons:setL t v ((d,w)::ρ)=if t=d then (d,v)::ρ else (d,w)::setL t v ρ:=(rfl)
end code
section nums
variable {K : LV → Prop}
def zss{a b:UInt64}:V9 .add a b K=K (.u (S1 a b)):=(rfl)
def zu9{a b:UInt64}:V9 .mul a b K=K (.u (R3 a b)):=(rfl)
def zug{a b:UInt64}:V9 .shr a b K=K (.u (Pb a b.toNat)):=(rfl)
def zvr{a b:UInt64}:V9 .and a b K=K (.u (Q6 a b)):=(rfl)
def zus{a b:UInt64}:V9 .eql a b K=K (.bool (decide (a=b))):=(rfl)
def zvi{a b:UInt64}:V9 .lss a b K=K (.bool (decide (a<b))):=(rfl)
def zw7{a b:UInt64}:V9 .leq a b K=K (.bool (decide (a≤b))):=(rfl)
def zun{a b:UInt64}:V9 .gtr a b K=K (.bool (decide (b<a))):=(rfl)
def zul{a b:UInt64}:V9 .geq a b K=K (.bool (decide (b≤a))):=(rfl)
def zu5{a b:Int}:Uj .add a b K=(Q9 (a+b)∧K (.i (a+b))):=(rfl)
def zu3{a b:Int}:Uj .sub a b K=(Q9 (a-b)∧K (.i (a-b))):=(rfl)
def zvw{a b:Int}:Uj .mul a b K=(Q9 (a*b)∧K (.i (a*b))):=(rfl)
def zv2{a b:Int}:Uj .quo a b K=(b≠0∧Q9 (a.tdiv b)∧K (.i (a.tdiv b))):=(rfl)
def ztz{a b:Int}:Uj .shr a b K=(0≤a∧0≤b∧b≤64∧K (.i (a/2^b.toNat))):=(rfl)
def zt0{a b:Int}:Uj .eql a b K=K (.bool (decide (a=b))):=(rfl)
def zsz{a b:Int}:Uj .neq a b K=K (.bool (decide (a≠b))):=(rfl)
def zt8{a b:Int}:Uj .lss a b K=K (.bool (decide (a<b))):=(rfl)
def zts{a b:Int}:Uj .leq a b K=K (.bool (decide (a≤b))):=(rfl)
def zvn{a b:Int}:Uj .gtr a b K=K (.bool (decide (b<a))):=(rfl)
def zt3{a b:Int}:Uj .geq a b K=K (.bool (decide (b≤a))):=(rfl)
end nums
section congr2
variable {P : Program} {G G' : Mh} {x x' y y' z z' : LV} {K : LV → Mh → Prop} {Kv : LV → Prop} {n n' size : Nat}
@[congr] theorem ug {o j:Option LObj} {K:List LV→Nat→Prop} (h:o=j):Wd o K=Wd j K:=Ee
@[congr] theorem tp {o j:Option LObj} {K:List LV→Nat→Nat→Nat→Nat→Prop} (h:o=j):Pp o K=Pp j K:=Ee
@[congr] theorem c6 {o j:Option (List LV)} {K:List LV→Prop} (h:o=j):ny o K=ny j K:=Ee
@[congr] theorem ji (j:x=x') (C:y=y') (E:z=z'):d7 x y z Kv=d7 x' y' z' Kv:=Dk
@[congr] theorem pq (j:x=x'):fc x Kv=fc x' Kv:=by rw[j]
@[congr] theorem ip {K:Nat→Prop} (j:x=x') (C:y=y'):yw x y K=yw x' y' K:=B2
@[congr] theorem mm {K:Nat→Prop} (j:x=x'):cq x K=cq x' K:=by rw[j]
@[congr] theorem t9 {lo:(Nat→Prop)→Prop} {hi:Nat→(Nat→Prop)→Prop} (j:G=G') (C:x=x'):Wn G size x lo hi Kv=Wn G' size x' lo hi Kv:=B2
@[congr] theorem mp (j:x=x'):Tx n x Kv=Tx n x' Kv:=by rw[j]
@[congr] theorem th (j:G=G') (C:x=x') (E:y=y'):xx G size x y Kv=xx G' size x' y' Kv:=Dk
@[congr] theorem tf {i j:Int} (C:G=G') (E:x=x') (F:i=j):Wh G size x i Kv=Wh G' size x' j Kv:=by rw[C,E,F]
@[congr] theorem pn (j:x=x'):ee n x Kv=ee n x' Kv:=by rw[j]
@[congr] theorem iz {g:Bool} {z z':LV} (j:x=x') (C:y=y') (E:z=z'):U4 g x y z Kv=U4 g x' y' z' Kv:=Dk
@[congr] theorem oh {len size:Nat} (j:x=x') (C:y=y'):ik len size x y Kv=ik len size x' y' Kv:=B2
@[congr] theorem po {g:Bool} {len size:Nat} (j:x=x') (C:y=y'):ct g len size x y Kv=ct g len size x' y' Kv:=B2
@[congr] theorem nr {g:Bool} (j:x=x') (C:y=y'):Zy g x y Kv=Zy g x' y' Kv:=B2
@[congr] theorem dm {z z':List LV} {KH:Mh→Prop} (j:G=G') (C:x=x') (E:z=z'):wt G size z x KH=wt G' size z' x' KH:=Dk
@[congr] theorem il {l:List LV} (j:G=G') (C:x=x') (E:n=n') (F:l=Z):ui G size x n l K=ui G' size x' n' Z K:=by rw[j,C,E,F]
@[congr] theorem t7 {l:List LV} (j:x=x') (C:l=Z) (E:G=G'):goL P x l G K=goL P x' Z G' K:=Dk
end congr2
def zs9(l r:List LV):M5 l 0 r=r++l.drop r.length:=by simp[M5]
def zr2(v:LV)(l r:List LV)(i:Nat):M5 (v::l) (i+1) r=v::M5 l i r:=by
 unfold M5;rw[show i+1+r.length=(i+r.length)+1 from J];simp
attribute [simp] T8 yz mg jd ii LObj.stp LObj.st zli zkz Zh yg cz LV.cells subV subVs Zd xk shV shVs frV frVs bor bors LV.dat dats LV.scal LV.sim sims zs9 zr2 Q9
attribute [simp] znm zqm zu4 zjh zfn eu zw2
attribute [simp ↓] znm zqm zu4 zjh zfn zw2 zli zkz
attribute [simp ↓] OpL_move OpL_pick OpL_alloc OpL_box OpL_build OpL_buildSl OpL_load1 OpL_loadN OpL_store OpL_nilChk fe o8 zv1 zsj OpL_mkSl zw1 zu6 OpL_slSl OpL_fieldAddr OpL_ixAddr OpL_extract OpL_lenSl Yc OpL_appG OpL_copy zwb
attribute [simp] zpu zkj cellsL_some ziy zfy zls zpl chkL_ptr zua Xi slL_nil slL_dy slL_vw slL_lst offL_ptr offL_dptr offL_cptr fldL_true fldL_false lw zqq zq ztq tupL_tup zv8 zux zpv zq2 W4 readL_ptr readL_dptr readL_cptr read1_ptr read1_dptr read1_cptr writeL_ptr writeL_dptr rowL_dy rowL_vw rowL_lst lenL_nil lenL_dy lenL_vw lenL_lst appL_nil appL_dy appL_vw zu1 zut zl8 zm9 zq1 zpd zw0 Zm Z7
attribute [simp ↓] zpu zkj cellsL_some ziy zfy zls zpl chkL_ptr zua Xi slL_nil slL_dy slL_vw slL_lst offL_ptr offL_dptr offL_cptr fldL_true fldL_false lw zqq zq ztq tupL_tup zv8 zux zpv zq2 W4 readL_ptr readL_dptr readL_cptr read1_ptr read1_dptr read1_cptr writeL_ptr writeL_dptr rowL_dy rowL_vw rowL_lst lenL_nil lenL_dy lenL_vw lenL_lst appL_nil appL_dy appL_vw zu1 zut zl8 zm9 zq1 zpd zw0 Zm Z7
attribute [simp] wp_skip wp_ops wp_seq wp_cond wp_block wp_draw wp_exit wp_ret wp_loop seqQ_n seqQ_e seqQ_r blkQ_n blkQ_e blkQ_r nxQ_n nxQ_e nxQ_r endQ_n endQ_r norQ_app takeL_nil takK_app endK_app resL_nil resL_tmp resL_cN tmpK_app conK_app cnK_app oneL_1 oneL_0 oneL_2 OpsL_nil OpsL_cons opsK_app ItL_n ItL_t ItL_f itK_some itK_none atG_app DrL_nil DrL_cons drK_app ev_t ev_c argsL_nil argsL_cons setL_cons zss zu9 zug zvr zus zvi zw7 zun zul zu5 zu3 zvw zv2 ztz zt0 zsz zt8 zts zvn zt3
attribute [simp ↓] wp_skip wp_ops wp_seq wp_cond wp_block wp_draw wp_exit wp_ret wp_loop seqQ_n seqQ_e seqQ_r blkQ_n blkQ_e blkQ_r nxQ_n nxQ_e nxQ_r endQ_n endQ_r norQ_app takeL_nil takK_app endK_app resL_nil resL_tmp resL_cN tmpK_app conK_app cnK_app oneL_1 oneL_0 oneL_2 OpsL_nil OpsL_cons opsK_app ItL_n ItL_t ItL_f itK_some itK_none atG_app DrL_nil DrL_cons drK_app ev_t ev_c argsL_nil argsL_cons setL_cons zss zu9 zug zvr zus zvi zw7 zun zul zu5 zu3 zvw zv2 ztz zt0 zsz zt8 zts zvn zt3
attribute [simp] zwg
attribute [simp ↓] zwg
attribute [simp] zu8 Ya Yo zt1
attribute [simp] zn1
attribute [simp ↓] OpL_clear zn1 Xl zkk zvp zu8 Ya Yo zt1
def Xy(o:Option Bool)(A B:Prop):Prop:=match o with
 |some b=>R0 b A B
 |none=>False
def pe(o:Option LObj)(K:List (LV×LV×Nat)→Nat→Nat→Prop):Prop:=match o with
 |some (.map es ck st)=>K es ck st
 |_=>False
def kl(d:TypeDesc)(k z:LV)(ok:Bool)(K:LV→Prop):List (LV×LV×Nat)→Prop:=λes=>fi d k (yr z ok K) es
def vp(x:LV×LV×Nat)(K:List (LV×LV×Nat)→Bool→Prop):List (LV×LV×Nat)→Bool→Prop:=λr new=>K (x::r) new
def mq(G:Mh)(n size:Nat)(x:LV)(lo:(Nat→Prop)→Prop)(hi:Nat→(Nat→Prop)→Prop)(K:LV→Mh→Prop):Prop:=match x with
 |.ptr p i=>Wd G[p]? λl st=>i+n*size≤l.length∧lo λa=>hi n λb=>a≤b∧b≤n∧K (.lst ((l.drop (i+a*size)).take ((b-a)*size)) (b-a) size) (G.set p (.dead (st+1)))
 |_=>False
section maps
variable {P : Program} {ρ : Ml} {G G' : Mh} {K : LV → Mh → Prop} {K1 : LV → Prop} {x i m k v z x' k' : LV} {X I M V : Lx} {d : TypeDesc} {ok : Bool} {es es' : List (LV × LV × Nat)} {KE : List (LV × LV × Nat) → Prop} {KB : List (LV × LV × Nat) → Bool → Prop} {KH : Mh → Prop} {p ck st n size : Nat} {lo hi : Option Lx} {A B : Prop} {lof : (Nat → Prop) → Prop} {hif : Nat → (Nat → Prop) → Prop}
def OpL_mkMap0:M8 P ρ G .mkMap0 K=K (.map G.length) (G++[.map [] 0 0]):=(rfl)
def OpL_lookup:M8 P ρ G (.lookup d z ok X I) K=Uw G (X.ev ρ) (kl d (I.ev ρ) z ok (Uc K G)):=(rfl)
def OpL_mapUpd:M8 P ρ G (.mapUpd d M I V) K=kz G d (M.ev ρ) (I.ev ρ) (V.ev ρ) λG'=>K .any G':=(rfl)
def OpL_slArr:M8 P ρ G (.slArr n size X lo hi) K=mq G n size (X.ev ρ) (λk=>Oe ρ 0 lo k) (λd k=>Oe ρ d hi k) K:=by
 simp only[M8,mq,Wd];cases X.ev ρ<;>try rfl
 all_goals (cases G[_]?<;>try rfl)
def zqs{K:List (LV×LV×Nat)→Nat→Nat→Prop}:pe (some (.map es ck st)) K=K es ck st:=(rfl)
def mapL_map:Uw G (.map p) KE=pe G[p]? λes _ _=>KE es:=by
 simp only[Uw,pe];cases G[p]?<;>try rfl
def lookM_app:kl d k z ok K1 es=fi d k (yr z ok K1) es:=(rfl)
def zl2{j:Option LV→Prop}:fi d k j []=j none:=(rfl)
def zj2{j:Option LV→Prop}:fi d k j ((k',v,n)::es)=Xy (Un d k k') (j (some v)) (fi d k j es):=(rfl)
def lookK_st:yr z true K1 (some v)=K1 (.tup [v,.bool true]):=(rfl)
def lookK_nt:yr z true K1 none=K1 (.tup [z,.bool false]):=(rfl)
def updL'_map:kz G d (.map p) k v KH=pe G[p]? λes ck st=>T2 d k v ck (mf G p ck st KH) es:=by
 simp only[kz,pe];cases G[p]?<;>try rfl
def putL_nil:T2 d k v ck KB []=KB [(k,v,ck)] true:=(rfl)
def zmu{w:LV}:T2 d k v ck KB ((k',w,n)::es)=Xy (Un d k k') (KB ((k,v,n)::es) false) (T2 d k v ck (vp (k',w,n) KB) es):=(rfl)
def zpz{y:LV×LV×Nat}{b:Bool}:vp y KB es b=KB (y::es) b:=(rfl)
def setK_t:mf G p ck st KH es true=KH (G.set p (.map es (ck+1) (st+1))):=(rfl)
def zn7{b:Bool}:Xy (some b) A B=R0 b A B:=(rfl)
def Xe{j:IntKind}{a b:Int}:Un (.int j) (.i a) (.i b)=some (decide (a=b)):=(rfl)
def zqo:mq G n size (.ptr p j) lof hif K=Wd G[p]? λl st=>j+n*size≤l.length∧lof λa=>hif n λb=>a≤b∧b≤n∧K (.lst ((l.drop (j+a*size)).take ((b-a)*size)) (b-a) size) (G.set p (.dead (st+1))):=(rfl)
@[congr] theorem ur {o j:Option LObj} {K:List (LV×LV×Nat)→Nat→Nat→Prop} (h:o=j):pe o K=pe j K:=Ee
@[congr] theorem lg {j C:LV} (E:G=G') (F:m=C) (H:k=k') (L:v=j):kz G d m k v KH=kz G' d C k' j KH:=by rw[E,F,H,L]
@[congr] theorem sg {o j:Option Bool} (h:o=j):Xy o A B=Xy j A B:=Ee
end maps
attribute [simp] zqs mapL_map lookM_app zl2 zj2 lookK_st lookK_nt updL'_map putL_nil zmu zpz setK_t zn7 Xe zqo
attribute [simp ↓] OpL_mkMap0 OpL_lookup OpL_mapUpd OpL_slArr zqs mapL_map lookM_app zl2 zj2 lookK_st lookK_nt updL'_map putL_nil zmu zpz setK_t zn7 Xe zqo
end
end
section
noncomputable section
open Go.RowKit (Below)
mutual
inductive Sh where
 |bool
 |u
 |b
 |i
 |k (k:IntKind)
 |str
 |sl (s:Sh)
 |st (l:ShL)
inductive ShL where
 |nil
 |cons (s:Sh) (l:ShL)
end
mutual
def Sh.n:Sh→Nat
 |.st l=>l.n
 |_=>1
def ShL.n:ShL→Nat
 |.nil=>0
 |.cons s l=>s.n+l.n
end
mutual
def Sh.T:Sh→Type
 |.bool=>Bool
 |.u=>UInt64
 |.b=>UInt8
 |.i=>{ n:Int // Q9 n }
 |.k _=>Int
 |.str=>{ l:List UInt8 // l.length≤maxLen }
 |.sl s=>{ l:List s.T // l.length≤maxLen }
 |.st l=>l.T
def ShL.T:ShL→Type
 |.nil=>Unit
 |.cons s l=>s.T×l.T
end
mutual
def Sh.enc:(s:Sh)→s.T→List LV
 |.bool,x=>[.bool x]
 |.u,x=>[.u x]
 |.b,x=>[.b x]
 |.i,x=>[.i x.1]
 |.k k,x=>[.int k x]
 |.str,x=>[.str x.1]
 |.sl s,x=>[.lst (x.1.flatMap s.enc) x.1.length s.n]
 |.st l,x=>l.enc x
def ShL.enc:(l:ShL)→l.T→List LV
 |.nil,_=>[]
 |.cons s l,x=>s.enc x.1++l.enc x.2
end
mutual
def Sh.enc_length:∀(s:Sh) (x:s.T),(s.enc x).length=s.n
 |.bool,_=>rfl
 |.u,_=>rfl
 |.b,_=>rfl
 |.i,_=>rfl
 |.k _,_=>rfl
 |.str,_=>rfl
 |.sl _,_=>rfl
 |.st l,x=>by simp only[Sh.enc,Sh.n];exact ShL.enc_length l x
def ShL.enc_length:∀(l:ShL) (x:l.T),(l.enc x).length=l.n
 |.nil,_=>rfl
 |.cons s l,x=>by simp only[ShL.enc,ShL.n,Hv,Sh.enc_length s x.1,ShL.enc_length l x.2]
end
def Xf(P:Program)(f:TypeId→Option Sh)(j:Nat):List Field→Nat→Option ShL
 |[],g=>if g=j then some .nil else none
 |fd::l,g=>match f fd.type with
  |none=>none
  |some s=>if fd.offset=g∧P.cellsOf fd.type=s.n then match Xf P f j l (g+s.n) with
   |none=>none
   |some r=>some (.cons s r)
   else none
def uz:Nat→Sh→ShL
 |0,_=>.nil
 |n+1,s=>.cons s (uz n s)
def T6(P:Program):Nat→TypeId→Option Sh
 |0,_=>none
 |d+1,t=>match P.underlying t with
  |some .bool=>some .bool
  |some (.int k)=>match k with
   |.u64=>some .u
   |.u8=>some .b
   |.i64=>some .i
   |k=>some (.k k)
  |some .string=>some .str
  |some (.slice e)=>match T6 P d e with
   |none=>none
   |some s=>if P.cellsOf e=s.n∧0<s.n then some (.sl s) else none
  |some (.struct g)=>match Xf P (T6 P d) (P.cellsOf t) g.toList 0 with
   |none=>none
   |some l=>some (.st l)
  |some (.array n e)=>match T6 P d e with
   |none=>none
   |some s=>if P.cellsOf e=s.n∧P.cellsOf t=n*s.n then some (.st (uz n s)) else none
  |_=>none
def xq(P:Program)(d:Nat):List TypeId→Option ShL
 |[]=>some .nil
 |t::l=>match T6 P d t with
  |none=>none
  |some s=>if P.cellsOf t=s.n then match xq P d l with
   |none=>none
   |some r=>some (.cons s r)
   else none
def Rel.ro{W:World}{gA:CM}{H:Heap}(h:Rel W gA H W){L:Loc}(hL:L.b<W.heap.size){l:List AV}(gB:gA.le (gA.ext H.next 0 L)→Oq W.heap.size (gA.ext H.next 0 L) W H.next (.cells (Ou l 0 .e) l.length 0 true)) :
  Rel W (gA.ext H.next 0 L) (H.push (.cells (Ou l 0 .e) l.length 0 true)) W∧gA.le (gA.ext H.next 0 L):=by
 have hle:gA.le (gA.ext H.next 0 L):=CM.le_ext _ (h.next_none 0) (.inr (K3 h.nx));refine⟨⟨by show max gA.nx (H.next+1)=H.next+1;rw[h.nx];exact Nat.max_eq_right (Kz _),h.low,?_,?_,?_,?_,?_⟩,hle⟩
 ·intro o v L' C;show o<H.next+1;by_cases e:o=H.next∧v=0
  ·omega
  ·rw[CM.ext_ne _ _ e]at C;have:=h.fresh _ _ _ C;omega
 ·intro o v L' C;by_cases e:o=H.next∧v=0
  ·obtain⟨rfl,rfl⟩:=e;rw[CM.ext_same]at C;cases C;exact hL
  ·rw[CM.ext_ne _ _ e]at C;exact h.lt _ _ _ C
 ·intro o v L1 o' v' L2 h1 h2 hb hB;by_cases e:o=H.next∧v=0
  ·obtain⟨rfl,rfl⟩:=e;rw[CM.ext_same]at h1;cases h1;omega
  ·by_cases e':o'=H.next∧v'=0
   ·obtain⟨rfl,rfl⟩:=e';rw[CM.ext_same]at h2;cases h2;omega
   ·rw[CM.ext_ne _ _ e]at h1;rw[CM.ext_ne _ _ e']at h2;exact h.excl _ _ _ _ _ _ h1 h2 hb hB
 ·intro o ob ho hg;by_cases e:o=H.next
  ·subst e;rw[Heap.get_push_same]at hg;cases hg;exact gB hle
  ·have gg:o<H.next:=Bj
   rw[Heap.get_push_ne _ _ gg]at hg;refine (h.obj _ _ gg hg).frame hle (λv L' C=>?_) (λ_ _ _=>rfl)
   rwa [CM.ext_ne _ _ J]at C
 ·intro o c len gC ro ho hg v L' C;by_cases e:o=H.next
  ·subst e;by_cases ev:v=0
   ·omega
   ·rw[CM.ext_ne _ _ J]at C;have:=h.fresh _ _ _ C;omega
  ·have gg:o<H.next:=Bj
   rw[Heap.get_push_ne _ _ gg]at hg;rw[CM.ext_ne _ _ J]at C;exact h.top _ _ _ _ _ gg hg _ _ C
def Sr(H:Heap):Cx:=⟨[],λo=>o<H.next,H⟩
def Rs(H g:Heap):Prop:=H.next≤g.next∧∀o,o<H.next→g.get o=H.get o
def Rs.refl(H:Heap):Rs H H:=⟨Hm _,λ_ _=>rfl⟩
def Rs.trans{A B C:Heap}(h:Rs A B)(k:Rs B C):Rs A C:=⟨Ix h.1 k.1,λo ho=>by rw[k.2 o (Ik ho h.1),h.2 o ho]⟩
def Rs.le{H H':Heap}(h:Rs H H'):CxLe (Sr H) (Sr H') :=
 ⟨λgg k x e=>by simp[Sr]at e,λo p=>⟨Ik p h.1,h.2 o p⟩⟩
section imp
variable {HH : Type} {enc : TypeId × Value → HH} {P : Program} {W : World}
def Got(W:World)(z:CM)(H:Heap)(p:List Value)(s:Nat)(T:Type)(e:T→List LV):Prop :=
 ∃g j as,∃y:T,z.le g∧Rel W g j W∧Rs H j∧VRs g as p∧(∀a∈as,a.one=true)∧ARs (Sr j) (e y) as∧as.length=s
def lp{H:Heap}(g:Rel W E H W){v:Value}{T:Type}{e:T→List LV}(y:T)(a:AV)(l:LV)(j:e y=[l])(p:VR E a v)(z:a.one=true)(A:AR (Sr H) l a):Got W E H [v] 1 T e :=
 ⟨E,H,[a],y,CM.le_refl E,g,.refl H,.cons p .nil,A4,by rw[j];exact .cons A .nil,rfl⟩
def zi5{j:List MemPlace}(p:W.noneFrozen j){b n:Nat}(h:∀x∈MemPlace.row ⟨b,g,none⟩ n,x∈j){i:Nat}(z:i<n):W.frozen? ⟨b,g+i,none⟩=false :=
 p b (g+i) (h _ (Li.2 ⟨i,I9.2 z,rfl⟩))
def got_cells:∀(K:Nat) (d:Nat) (t:TypeId) (s:Sh) (cs:List Value) (x:DataW HH×List MemPlace) (R:CM) (H:Heap),T6 P d t=some s→DataW.trod enc P W 0 (λ_=>true) true K t cs=some x→W.noneFrozen x.2→Rel W R H W →
  Got W R H cs s.n s.T s.enc:=by
 intro K
 induction K with
 |zero=>intro d t s cs x R H _ h;simp[DataW.trod]at h
 |succ K ih =>
  intro d t s cs x R H p h hz B;cases d with
  |zero=>cases p
  |succ d =>
   simp only[T6]at p;split at p
   ·rename_i hu;cases p;obtain⟨b,rfl,_⟩:=DataW.trod_bool hu h;exact lp B (T:=Bool) b (.bool b) (.bool b) rfl (.bool b) rfl (.bool b)
   ·rename_i k hu;obtain⟨n,rfl,_,hw⟩:=DataW.trod_int hu h;split at p
    ·cases p;have hb:=bounds_u64 hw;refine lp B (T:=UInt64) (UInt64.ofNat n.toNat) (.int .u64 n) (.u (UInt64.ofNat n.toNat)) rfl (.int _ _) rfl (.u' ?_);rw[Jn];simp only[Ia];omega
    ·cases p;have hb:=bounds_u8 hw;refine lp B (T:=UInt8) (UInt8.ofNat n.toNat) (.int .u8 n) (.b (UInt8.ofNat n.toNat)) rfl (.int _ _) rfl (.b' ?_);rw[UInt8.toNat_ofNat'];simp only[Ia];omega
    ·cases p;have hb:=bounds_i64 hw;exact lp B (T:={ n:Int // Q9 n }) ⟨n,by unfold Q9;omega⟩ (.int .i64 n) (.i n) rfl (.int _ _) rfl (.i n)
    ·cases p;exact lp B (T:=Int) n (.int k n) (.int k n) rfl (.int _ _) rfl (.int k n)
   ·rename_i hu;cases p;obtain⟨b,rfl,_,hm⟩:=DataW.trod_string hu h;exact lp B (T:={ l:List UInt8 // l.length≤maxLen }) ⟨b.data.toList,Dq⟩ (.str b.data.toList.length (N8 b.data.toList)) (.str b.data.toList) rfl (.str rfl rfl) rfl (.str _)
   ·rename_i e hu;split at p
    ·cases p
    ·rename_i j gB;by_cases Q:P.cellsOf e=j.n∧0<j.n
     ·rw[Hs Q]at p;cases p;obtain⟨gC,M⟩:=Q;rcases DataW.trod_slice hu h with ⟨rfl,_⟩|⟨a,len,cap,F,gL,n,hn,rfl,hx,_,gM,jN,gO,gg,gP,_⟩
      ·exact lp B (T:={ l:List j.T // l.length≤maxLen }) ⟨[],U⟩ .nilSl (.lst [] 0 j.n) rfl .nilSl rfl .lstNil
      ·cases hn;by_cases h0:len=0
       ·subst h0;exact lp B (T:={ l:List j.T // l.length≤maxLen }) ⟨[],U⟩ .emp (.lst [] 0 j.n) rfl .emp rfl .lstEmp
       ·
        obtain⟨b,g,N⟩:=a;have G:∀i,i<cap→∃C,W.cells? 0 ((⟨b,g,N⟩:Addr).add (i*P.cellsOf e)) (P.cellsOf e)=some C:=by
         intro i hi;by_cases jp:i<len
         ·have:=gg i jp;rw[Hj J]at this;cases hq:W.cells? 0 ((⟨b,g,N⟩:Addr).add (i*P.cellsOf e)) (P.cellsOf e) with
          |none=>rw[hq]at this;cases this
          |some C=>exact⟨C,rfl⟩
         ·obtain⟨jQ,jz⟩:=gP rfl;have:=jz (i-len) J;rw[show len+(i-len)=i from J,Hj J]at this;cases hq:W.cells? 0 ((⟨b,g,N⟩:Addr).add (i*P.cellsOf e)) (P.cellsOf e) with
          |none=>rw[hq]at this;cases this
          |some C=>exact⟨C,rfl⟩
        have gD:N=none:=by
         obtain⟨C,he⟩:=G 0 J;obtain⟨_,D,z⟩:=World.cells?_some he;have:=z 0 J;rw[Hj J]at this;simpa [Addr.add] using World.cell?_spot this
        subst gD;have O:∀i S,i<cap→S<j.n→∃v,W.cell? ⟨b,g+(i*j.n+S),none⟩=some v:=by
         intro i S hi hj;obtain⟨C,he⟩:=G i hi;obtain⟨_,D,z⟩:=World.cells?_some he;have:=z S J;rw[Hj J]at this;rw[gC]at this;rw[WideShapes.add_plain,WideShapes.add_plain]at this;rw[←Iu];exact⟨_,this⟩
        obtain⟨v0,gA⟩:=O 0 0 J M;obtain⟨vs,ty,lo,hi,A⟩:∃vs ty lo hi,W.heap[b]?=some (.cells vs ty (lo,hi)):=by
         unfold World.cell? at gA;dsimp only at gA;split at gA
         ·rename_i vs ty fz A;exact⟨vs,ty,fz.1,fz.2,A⟩
         ·cases gA
        have jA:∀q,q<cap*j.n→∃v,vs[g+q]?=some v:=by
         intro q hq;obtain⟨v,hv⟩:=O (q/j.n) (q%j.n) (by rw[Nat.div_lt_iff_lt_mul M];exact hq) (Nat.mod_lt _ M);have:q/j.n*j.n+q%j.n=q:=by rw[Nat.mul_comm];exact Nat.div_add_mod q j.n
         rw[this,fy A]at hv;exact⟨v,hv⟩
        have gQ:g+cap*j.n≤vs.size:=by
         have jB:0<cap*j.n:=Nat.mul_pos J M;obtain⟨v,hv⟩:=jA (cap*j.n-1) J;have:=(Le.1 hv).1;omega
        have gR:∀x',x'∈MemPlace.row ⟨b,g,none⟩ (cap*j.n)→x'∈x.2:=by
         intro x' gE;rw[hx];have:(F.length+gL.length)*P.cellsOf e=cap*j.n:=by rw[gO,(gP rfl).1,gC];congr 1;omega
         rw[this];exact Jw _ gE
        have loop:∀m,m≤len→∃C' H' as,∃ys:List j.T,R.le C'∧Rel W C' H' W∧Rs H H'∧(∀a∈as,a.one=true)∧ARs (Sr H') (ys.flatMap j.enc) as∧ys.length=m∧as.length=m*j.n∧∀q,q<m*j.n→∃a v,as[q]?=some a∧vs[g+q]?=some v∧VR C' a v:=by
         intro m
         induction m with
         |zero=>intro _;exact⟨R,H,[],[],CM.le_refl R,B,.refl H,U,.nil,rfl,U,λq hq=>J⟩
         |succ m jC =>
          intro hm;obtain⟨C1,V,X,jD,a1,a2,a3,a4,a5,a6,a7,a8⟩:=jC J;obtain⟨C,he⟩:=G m J;have gS:=gg m J;rw[he,Hj J]at gS;obtain⟨_,D,z⟩:=World.cells?_some he;have jE : W.noneFrozen (F[m]' J).2 := λb' E Y => hz b' E (by
           rw[hx];exact Jr _ (List.mem_flatMap.2 ⟨F[m]' J, U, Y⟩))
          obtain⟨C2,H2,Z,y,b1,b2,b3,b4,b5,b6,b7⟩:=ih d e j C _ C1 V gB gS jE a2;refine⟨C2,H2,X++Z,jD++[y],CM.le_trans a1 b1,b2,a3.trans b3,?_,?_,by simp[a6],?_,?_⟩
          ·intro g8 hz;rcases Ib.1 hz with h|h
           ·exact a4 g8 h
           ·exact b5 g8 h
          ·rw[List.flatMap_append];refine (a5.mono b3.le).append ?_;simpa using b6
          ·rw[Hv,a7,b7,Ih,La]
          ·intro q hq;by_cases jF:q<m*j.n
           ·obtain⟨a,v,c1,c2,c3⟩:=a8 q jF;exact⟨a,v,by rw[Hk J];exact c1,c2,c3.mono b1⟩
           ·have jR:q-m*j.n<j.n:=by rw[Ih,La]at hq;omega
            obtain⟨a,v,c1,c2,c3⟩:=b4.get' (i:=q-m*j.n) J;refine⟨a,v,by rw[H5 J,a7];exact c1,?_,c3⟩;have:=z (q-m*j.n) J;rw[gC,WideShapes.add_plain,WideShapes.add_plain,fy A,c2]at this;rw[←this]
            congr 1
            omega
        obtain⟨C1,V,as,ys,a1,a2,a3,a4,a5,a6,a7,a8⟩:=loop len (Hm _);have jG:b<W.heap.size:=by
         have:=(Le.1 A).1;exact this
        have jO:len*j.n≤cap*j.n:=Hy _ gM;have jH:∀q,g≤q→q<g+cap*j.n→¬(lo≤q∧q<hi):=by
         intro q h1 h2;have:=zi5 hz (λx' gE=>gR x' gE) (i:=q-g) (n:=cap*j.n) J;rw[show g+(q-g)=q from J]at this;unfold World.frozen? at this;dsimp only at this;rw[A]at this;simp at this;omega
        obtain⟨c1,c2⟩:=a2.ro (L:=⟨b,g,len*j.n,g+cap*j.n⟩) jG (l:=as) (λgT L hL=>by
         rw[CM.ext_same]at hL;cases hL;refine⟨by rw[a7],λe=>Ar,by show g+as.length≤g+cap*j.n;omega,vs,ty,lo,hi,A,gQ,jH,?_⟩;intro q hq;rw[get_ofList,Hs J];obtain⟨a,v,d1,d2,d3⟩:=a8 q J;exact⟨a,by simpa using d1,a4 a (Im d1),v,d2,d3.mono gT⟩)
        have hg:Rs V (V.push (.cells (Ou as 0 .e) as.length 0 true)):=⟨Kz _,λo ho=>Heap.get_push_ne _ _ ho⟩;refine⟨_,_,[.sl V.next 0 0 len j.n none],(⟨ys,J⟩:{ l:List j.T // l.length≤maxLen }),CM.le_trans a1 c2,c1,a3.trans hg,.cons ?_ .nil,by simp[AV.one],?_,rfl⟩
        ·exact VR.sl (L:=⟨b,g,len*j.n,g+cap*j.n⟩) (i:=0) (CM.ext_same _ _ _ _) Aq Aq gM (λr e=>Ar) (λ_=>rfl)
        ·show ARs _ [LV.lst (ys.flatMap j.enc) ys.length j.n] _;rw[a6];refine .cons (.lst (Iv V.next) (λr e=>Ar) ?_ ?_ (a5.mono hg.le)) .nil
         ·have:=a5.length;omega
         ·have hr:=Tb (H:=V.push (.cells (Ou as 0 .e) as.length 0 true)) (i:=0) (n:=len*j.n) (Heap.get_push_same _ _) (jm as) (Hm _) J;rw[Jd,Hz J]at hr;exact hr
     ·rw[Hq Q]at p;cases p
   ·rename_i fs hu;split at p
    ·cases p
    ·rename_i l D;cases p;obtain⟨xs,n,hn,hx,gF,gV,jI⟩:=DataW.trod_struct hu h;cases hn;have gG:∀(fl:List Field) (S g:Nat) (l:ShL) (R:CM) (H:Heap),fs.toList.drop S=fl→Xf P (T6 P d) (P.cellsOf t) fl g=some l→Rel W R H W→Got W R H (cs.drop g) l.n l.T l.enc:=by
      intro fl
      induction fl with
      |nil =>
       intro S g l R H hj D B;simp only[Xf]at D;split at D
       ·rename_i he;cases D;refine⟨R,H,[],(():Unit),CM.le_refl R,B,.refl H,?_,U,.nil,rfl⟩;rw[he,←gF,List.drop_length];exact .nil
       ·cases D
      |cons fd fl jK =>
       intro S g l R H hj D B;simp only[Xf]at D;split at D
       ·cases D
       ·rename_i s p;by_cases Q:fd.offset=g∧P.cellsOf fd.type=s.n
        ·rw[Hs Q]at D;split at D
         ·cases D
         ·rename_i r hr;cases D;have gH:S<fs.toList.length:=by
           rcases Kj S fs.toList.length with h|h
           ·exact h
           ·rw[K4 h]at hj;cases hj
          have jL:fs[S]?=some fd:=by
           rw[If gH]at hj;injection hj with h1 h2
           rw[←h1];simp
          have I:=jI S fd jL;rw[Q.1,Q.2]at I;have gI:S<xs.length:=by rw[gV];simpa using gH
          rw[Hj gI]at I;obtain⟨C1,V,X,y,a1,a2,a3,a4,a5,a6,a7⟩:=ih d fd.type s _ _ R H p I (λb' E Y=>hz b' E Fi) B;obtain⟨C2,H2,Z,ys,b1,b2,b3,b4,b5,b6,b7⟩:=jK (S+1) (g+s.n) r C1 V (by rw[If gH]at hj;injection hj) hr a2;refine⟨C2,H2,X++Z,(y,ys),CM.le_trans a1 b1,b2,a3.trans b3,?_,?_,(a6.mono b3.le).append b6,by rw[Hv,a7,b7];rfl⟩
          ·have:=(a4.mono b1).append b4
           rwa [←Kg,H9]at this
          ·intro g8 hz;rcases Ib.1 hz with h|h
           ·exact a5 g8 h
           ·exact b5 g8 h
        ·rw[Hq Q]at D;cases D
     have:=gG fs.toList 0 0 l R H U D B;rw[Jd]at this;exact this
   ·rename_i n e hu;split at p
    ·cases p
    ·rename_i j gB;by_cases Q:P.cellsOf e=j.n∧P.cellsOf t=n*j.n
     case neg=>rw[Hq Q]at p;cases p
     rw[Hs Q]at p;cases p;obtain⟨xs,m,hm,hx,gF,gV,gg⟩:=DataW.trod_array hu h;cases hm;have gG:∀(k S:Nat) (R:CM) (H:Heap),S+k=n→Rel W R H W→Got W R H (cs.drop (S*j.n)) (uz k j).n (uz k j).T (uz k j).enc:=by
      intro k
      induction k with
      |zero =>
       intro S R H hj B;refine⟨R,H,[],(():Unit),CM.le_refl R,B,.refl H,?_,U,.nil,rfl⟩;rw[(J:S=n),←Q.2,←gF,List.drop_length];exact .nil
      |succ k jM =>
       intro S R H hj B;have I:=gg S J;rw[Q.1]at I;have gI:S<xs.length:=J
       rw[Hj gI]at I;obtain⟨C1,V,X,y,a1,a2,a3,a4,a5,a6,a7⟩:=ih d e j _ _ R H gB I (λb' E Y=>hz b' E Fi) B;obtain⟨C2,H2,Z,ys,b1,b2,b3,b4,b5,b6,b7⟩:=jM (S+1) C1 V J a2;refine⟨C2,H2,X++Z,(y,ys),CM.le_trans a1 b1,b2,a3.trans b3,?_,?_,(a6.mono b3.le).append b6,by rw[Hv,a7,b7];rfl⟩
       ·have:=(a4.mono b1).append b4
        rwa [Nat.succ_mul,←Kg,H9]at this
       ·intro g8 hz;rcases Ib.1 hz with h|h
        ·exact a5 g8 h
        ·exact b5 g8 h
     have:=gG n 0 R H J B;rw[Kc,Jd]at this;exact this
   ·cases p
end imp
end
end
section
open Go.RowKit Go.ChangeShapes Go.WideShapes Go.ChangeAt
def Sh.arg:(s:Sh)→s.T→LV
 |.st l,x=>.agg (l.enc x)
 |.bool,x=>.bool x
 |.u,x=>.u x
 |.b,x=>.b x
 |.i,x=>.i x.1
 |.k kk,x=>.int kk x
 |.str,x=>.str x.1
 |.sl s,x=>.lst (x.1.flatMap s.enc) x.1.length s.n
def ShL.args:(l:ShL)→l.T→List LV
 |.nil,_=>[]
 |.cons s l,x=>s.arg x.1::l.args x.2
section law
variable {H : Type} {enc : TypeId × Value → H} {P : Program}
def zqi{W:World}{d E:Nat}:∀{M:List TypeId} {l:ShL} {p:List Value} {R:List (DataW H)} {N:List MemPlace} {C:CM} {Hp:Heap},xq P d M=some l→DataW.TrodAll enc P W 0 (λ_=>true) true M p R N→W.noneFrozen N →
  (∀(gC:Nat) (t:TypeId) (v:Value),M[gC]?=some t→p[gC]?=some v→Value.okWide P W .any E t v)→Rel W C Hp W→∃S T as,∃y:l.T,C.le S∧Rel W S T W∧Rs Hp T∧VRs S as p∧ARs (Sr T) (l.args y) as
 |[],l,p,R,N,C,Hp,A,V,_,_,X=>by
  cases A;obtain⟨rfl,_,_⟩:=trodAll_nil V;exact⟨C,Hp,[],(():Unit),CM.le_refl C,X,.refl Hp,.nil,.nil⟩
 |t::M,l,p,R,N,C,Hp,A,V,hz,hv,X=>by
  simp only[xq]at A;split at A
  ·cases A
  ·rename_i s g;by_cases hc:P.cellsOf t=s.n
   ·rw[Hs hc]at A;split at A
    ·cases A
    ·rename_i r hr;cases A;obtain⟨v,vs,dd,gD,gF,q,rfl,rfl,rfl,⟨F,hd⟩,D⟩:=trodAll_cons V;obtain⟨Y,Z,G,y,a1,a2,a3,O,a5,Q,a7⟩:=got_cells F d t s _ _ C Hp g hd (λb o hb=>hz b o (Jw _ hb)) X;obtain⟨C2,H2,gg,ys,b1,b2,b3,b4,b5⟩:=zqi (C:=Y) (Hp:=Z) hr D (λb o hb=>hz b o (Jr _ hb)) (λgC t' v' I h2=>hv (gC+1) t' v' (by simpa using I) (by simpa using h2)) a2;have z:=hv 0 t v rfl rfl;have gA:∃a,VR Y a v∧AR (Sr Z) (s.arg y) a:=by
      cases d with
      |zero=>cases g
      |succ d =>
       have j:∀{gE:LV},s.enc y=[gE]→s.arg y=gE→v.cells.toList=[v]→∃a,VR Y a v∧AR (Sr Z) (s.arg y) a:=by
        intro gE e1 e2 e3;rw[e3]at O;rw[e1]at Q;cases O with
        |cons I h2 =>
         cases Q with
         |cons h3 h4=>exact⟨_,I,by rw[e2];exact h3⟩
       simp only[T6]at g;split at g
       ·rename_i hu;cases g;obtain⟨b,rfl⟩:=okWide_bool hu z;exact j rfl rfl rfl
       ·rename_i k hu;obtain⟨n,rfl⟩:=okWide_int hu z;split at g<;>cases g<;>exact j rfl rfl rfl
       ·rename_i hu;cases g;obtain⟨b,rfl⟩:=okWide_string hu z;exact j rfl rfl rfl
       ·rename_i e hu;obtain⟨a,len,cap,rfl⟩:=okWide_slice hu z;split at g
        ·cases g
        ·rename_i K gB;by_cases B:P.cellsOf e=K.n∧0<K.n
         ·rw[Hs B]at g;cases g;exact j rfl rfl rfl
         ·rw[Hq B]at g;cases g
       ·rename_i fs hu;obtain⟨L,rfl,_⟩:=okWide_struct hu z;split at g
        ·cases g
        ·rename_i l hl;cases g;exact⟨.agg G,.agg O a5,.agg Q⟩
       ·rename_i n e hu;obtain⟨L,rfl⟩:∃L,v=.agg L:=by
         simp only[Value.okWide,hu]at z;obtain⟨L,I,_⟩:=z;exact⟨L,I⟩
        split at g
        ·cases g
        ·rename_i K gB;by_cases B:P.cellsOf e=K.n∧P.cellsOf t=n*K.n
         ·rw[Hs B]at g;cases g;exact⟨.agg G,.agg O a5,.agg Q⟩
         ·rw[Hq B]at g;cases g
       ·cases g
     obtain⟨a,o1,o2⟩:=gA;exact⟨C2,H2,a::gg,(y,ys),CM.le_trans a1 b1,b2,a3.trans b3,.cons (o1.mono b1) b4,.cons (o2.mono b3.le) b5⟩
   ·rw[Hq hc]at A;cases A
def gu{f d:Nat}{j:List TypeId}{l:ShL}(hm:P.follows .mixedOrders=true)(p:xq P d j=some l)(h:∀y:l.T,Qq P (.fn f) (l.args y) [] λv _=>v=.bool true){W:World}{C:List (DataW H)}{B:List MemPlace}
  (D:DataW.TrodAll enc P W 0 (λ_=>true) true j X.toList C B) (E:W.noneFrozen B) (F:∀(gg:Nat) (t:TypeId) (v:Value),j[gg]?=some t→X.toList[gg]?=some v→Value.okWide P W .any g t v) :
  Calls P f X W λe z=>e=.returned (.bool true)∧Below W.heap.size W z:=by
 obtain⟨gA,G,as,y,_,I,_,K,A⟩:=zqi p D E F (Rel.start W);obtain⟨m,v1,H',L,c',v,G',q2,q3,q4,M,N⟩:=(h y).2 (Sr G) (.fn f) as (HSim.empty (λo O=>O)) rfl A;subst N;cases M;intro Q;obtain⟨C',z,v',R,h1,S,T,V,Y,Z⟩:=zce hm (Y3 P) m W _ _ W (.fn f) as _ _ _ I K L Q;cases T;exact⟨.returned (.bool true),z,R,⟨rfl,S.low⟩,V,Y,Z⟩
def zly(E:laidOutB P=true){W F:World}(G:Below W.heap.size W F){I:Nat→Bool}:∀{z:List TypeId} {B:List Value} {C:List (DataW H)} {A:List MemPlace},(∀t∈z,P.readableRec t=true∧t<P.types.size)→DataW.TrodAll enc P W 0 (λ_=>true) true z B C A →
  (∀x∈A,x.block<W.heap.size)→(∀x∈A,I x.block=true)→DataW.TrodAll enc P F 0 I true z B C A
 |[],[],[],_,_,h,_,_=>h
 |t::z,v::B,d::C,_,D,⟨O,q,K,L,e⟩,j,p=>by
  subst e;exact⟨O,q,WideElems.Trod_stays E (D t U).1 (D t U).2 K (λx g=>G.same (j x (Jw _ g))) (λx g=>p x (Jw _ g)),
   zly E G (λM N=>D M Db) L (λx g=>j x (Jr _ g)) (λx g=>p x (Jr _ g)),rfl⟩
 |[],[],_::_,_,_,h,_,_=>h.elim
 |[],_::_,_,_,_,h,_,_=>h.elim
 |_::_,[],_,_,_,h,_,_=>h.elim
 |_::_,_::_,[],_,_,h,_,_=>h.elim
def Y8{f:Func}{s:ChangeSpec}{g C:Bool}{W:World}{args:Array Value}{G gs:List (DataW H)}{z:List MemPlace}(R:DataW.Whole enc P f.params.toList s.vars I W args.toList G gs z)(j:s.vars=[])
  (D:∀E:List (DataW H),E.length=f.params.toList.length→s.fn H E={ results:=[.lit (.bool true)],args:=E }) (S:Below W.heap.size W B) (Y:laidOutB P=true) (Z:∀t∈f.params.toList,P.readableRec t=true∧t<P.types.size)
  (A:f.resultTypes=#[O]) (p:P.underlying O=some .bool):s.post enc P f I vN g C W args (.bool true) B:=by
 have K:=R;obtain⟨gB,q,T,V,rfl,gg,gA⟩:=R;rw[j]at V;obtain⟨rfl,rfl⟩:=trodVars_none V;have L:G.length=f.params.toList.length:=(trodAll_length T).2;have hs:=D G L;have F:s.fn H (G++[])={ results:=[.lit (.bool true)],args:=G }:=by rw[Ip];exact hs
 have M:=K.lt;refine zrv (pa:=gB) (pv:=[]) K (λb X hd=>?_) (λX N=>?_) (λX _=>?_) rfl S ?_
 ·rw[F,A];exact trodAll_cons_mk (shut_bool p _) trodAll_mk0
 ·rw[F];exact zly Y S Z T (λx Q=>M x A9) (λx Q=>N x A9)
 ·rw[F,j];rfl
 ·exact ok_one A rfl (okWide_bool_mk p _)
end law
end
section
def Np(G:Mh)(v d:LV):Prop:=match v with
 |.tup l=>∃r,d=.tup r∧bors G l r
 |v=>bor G v d
def S0(P:Program)(f:Nat)(p:List LV)(C:LV):Prop :=
 ef P (.fn f)∧C.dat=true∧∀(A:Nat→Prop) (B:Heap) (g:List AV),(∀o,A o→o<B.next)→ARs ⟨[],A,B⟩ p g →
  ∃(m:Nat) (E:AV) (j:Nat→Prop) (z:Heap),Qt P (OL P) m (.fn f) g B=.ok E z∧B.next≤z.next∧(∀o,A o→j o)∧(∀o,j o→o<z.next∧(A o∨B.next≤o))∧(∀o,o<B.next→z.get o=B.get o)∧AR ⟨[],j,z⟩ C E
section calls
variable {P : Program}
def zvq{c:Cx}{G:Mh}(j:HSim c G)(v d:LV)(a:AV)(g:Np G v d)(h:AR c v a):AR ⟨[],λo=>c.Fz o∨Ow c G o,c.H⟩ d a:=by
 unfold Np at g;split at g
 ·obtain⟨r,rfl,g⟩:=g;cases h with
  |tup h=>exact .tup (bors_ok j _ _ _ g h)
 ·exact bor_ok j _ _ _ g h
def S0.mk{f:Nat}{args:List LV}{v0:LV}(hd:v0.dat=true)(h:Qq P (.fn f) args [] λv G=>Np G v v0):S0 P f args v0:=by
 refine⟨h.1,hd,λFz H gg gB ha=>?_⟩;obtain⟨m,v1,H',q1,c1,v,G,rfl,q3,q4,q5,q6⟩:=h.2 ⟨[],Fz,H⟩ (.fn f) gg (.empty gB) rfl ha;have gA:∀o,¬Ow ⟨[],Fz,H⟩ [] o:=λo ⟨gC,_,_,_,e,_⟩=>Bt
 refine⟨m,v1,_,c1.H,q1,q4.nx,λo p=>.inl (q4.le.fz o p).1,λo p=>⟨p.elim (q3.fz o) (q3.lt o),?_⟩,λo p=>q4.frame o p (gA o),zvq q3 v v0 v1 q6 q5⟩;rcases p with p|p
 ·rcases q4.fznew o p with h|h|h
  ·exact .inl h
  ·exact absurd h (gA o)
  ·exact .inr h
 ·rcases q4.new o p with h|h
  ·exact absurd h (gA o)
  ·exact .inr h
def zne{c:Cx}{G:Mh}(E:HSim c G){p:Nat→Prop}(S:c.H.next≤A.next)(V:∀o,c.Fz o→p o)(O:∀o,p o→o<A.next∧(c.Fz o∨c.H.next≤o))(M:∀o,o<c.H.next→A.get o=c.H.get o) :
  HSim ⟨c.hd,p,A⟩ G∧Step c G ⟨c.hd,p,A⟩ G:=by
 have H:CxLe c ⟨c.hd,p,A⟩:=⟨λL k h e=>⟨k,h,e,Hm _,λ_=>rfl,λ_=>rfl⟩,λo g=>⟨V o g,M o (E.fz o g)⟩⟩;have j:∀o,Ow ⟨c.hd,p,A⟩ G o→Ow c G o:=λo ⟨L,z,k,h,C,B,I,K⟩=>⟨L,z,k,h,C,B,I,K⟩
 refine⟨⟨E.len,λo g=>(O o g).1,λo g=>Ik (E.lt o (j o g)) S,λo g X=>?_,λL z k h C B=>?_,λL q z F k h Y Z o C B I K R T e7 e8=>E.excl L q z F k h Y Z o C B I K R T e7 e8⟩,?_⟩
 ·rcases (O o X).2 with h|h
  ·exact E.sep o (j o g) h
  ·have:=E.lt o (j o g);omega
 ·by_cases N:z.live=true
  ·exact (E.obj L z k h C B).mono H (λo g=>M o (E.lt o ⟨L,z,k,h,C,N,B,g⟩))
  ·cases z<;>first|exact absurd rfl N|trivial
 ·refine⟨H,S,λo g _=>M o g,λo g=>.inl (j o g),λo g=>(O o g).2.elim .inl (λh=>.inr (.inr h)),λL z F C B=>?_,λL z F k h o C B I K R T=>?_⟩
  ·rw[C]at B;cases B;exact Hm _
  ·rw[C]at B;cases B;have N:z.live=true:=by cases z<;>first|rfl|cases R
   exact⟨rfl,M o (E.lt o ⟨L,z,k,h,C,N,I,K⟩),rfl⟩
def R8{f:Nat}{G:Mh}{gg:LV→Mh→Prop}(F:S0 P f Z K)(H:dats Z=true)(k:gg K G):Qq P (.fn f) Z G gg:=by
 obtain⟨I,hd,p⟩:=F;refine⟨I,λc L g C z M=>?_⟩;cases L with
 |yield o=>exact z.elim
 |fn gA =>
  obtain rfl:f=gA:=z;obtain⟨m,E,j,A,N,O,R,S,T,V⟩:=p c.Fz c.H g C.fz (ARs.dat (c:=c) (c':=⟨[],c.Fz,c.H⟩) (λo B=>⟨B,rfl⟩) Z g H M);obtain⟨X,Y⟩:=zne C O R S T;exact⟨m,E,A,N,⟨c.hd,j,A⟩,K,G,rfl,X,Y,AR.dat (c:=⟨[],j,A⟩) (c':=⟨c.hd,j,A⟩) (λo B=>⟨B,rfl⟩) K E hd V,k⟩
mutual
def LV.flat:LV→Bool
 |.bool _ |.u _ |.b _ |.i _ |.int _ _ |.str _ |.nilPtr |.nilSl |.nilMap |.nilFn |.nilIf=>true
 |.agg l=>flats l
 |.tup l=>flats l
 |_=>false
def flats:List LV→Bool
 |[]=>true
 |v::l=>v.flat&&flats l
end
mutual
def AR.flat{c c':Cx}(v:LV)(a:AV)(hd:v.flat=true)(h:AR c v a):AR c' v a:=by
 cases v with
 |agg l =>
  simp only[LV.flat]at hd;cases h with
  |agg h=>exact .agg (ARs.flat l _ hd h)
 |tup l =>
  simp only[LV.flat]at hd;cases h with
  |tup h=>exact .tup (ARs.flat l _ hd h)
 |_=>first|(simp only[LV.flat]at hd;cases hd;done)|(cases h;constructor)
termination_by SizeOf.sizeOf v
def ARs.flat{c c':Cx}(l:List LV)(r:List AV)(hd:flats l=true)(h:ARs c l r):ARs c' l r:=by
 cases l with
 |nil=>cases h;exact .nil
 |cons v l =>
  simp only[flats,Hh]at hd;cases h with
  |cons e es=>exact .cons (AR.flat v _ hd.1 e) (ARs.flat l _ hd.2 es)
termination_by SizeOf.sizeOf l
end
end calls
def Ni.lives{P:Program}{f:Nat}(ht:gt P f=true∧s9 P f=false)(hl:tk P f=true)(hr:zax P f):Ni P f [] (.bool true) []:=by
 refine⟨ht,rfl,λgg ob e=>Bt,λFz H j p ha=>?_⟩;cases ha;refine⟨1,.bool true,[],H,?_,.empty p,.bool true,Hm _,λ_ _=>rfl,λo ⟨gA,_,_,_,e,_⟩=>Bt⟩;unfold Qt;dsimp only;rw[n8 hl hr]
section cuts
variable {P : Program} {f n : Nat} {ro : Option Nat} {ρ : Ml} {D : List Nat} {G : Mh} {Q : O7}
end cuts
attribute [simp] Np LV.flat flats
end

section
def Pz(b:Nat)(G:Mh)(v:LV)(esz n:Nat)(l:List LV):Prop :=
 (v=.nilSl∧n=0∧l=[])∨∃(g k:Nat) (j:List LV) (m st:Nat),b≤g∧G[g]?=some (.dyn j m esz k st)∧j.length=m*esz∧n≤m∧l=j.take (n*esz)∧((v=.dy g k∧n=m)∨v=.vw g k 0 n)
section stk
variable {b : Nat} {G G' : Mh} {v : LV} {esz n : Nat} {l x : List LV}
def Pz.nil:Pz b G .nilSl esz 0 []:=.inl ⟨rfl,rfl,rfl⟩
def Pz.dy{p k st:Nat}(hb:b≤p)(hp:G[p]?=some (.dyn l n esz k st))(hl:l.length=n*esz):Pz b G (.dy p k) esz n l :=
 .inr ⟨p,k,l,n,st,hb,hp,hl,Hm _,by rw[Hz J],.inl ⟨rfl,rfl⟩⟩
def Pz.length(h:Pz b G v esz n l):l.length=n*esz:=by
 rcases h with ⟨_,rfl,rfl⟩|⟨gg,k,gA,m,st,_,_,R,p,rfl,_⟩
 ·simp
 ·have:=Hy esz p;rw[H4];omega
def Pz.frame(h:Pz b G v esz n l)(R:∀q,b≤q→G'[q]?=G[q]?):Pz b G' v esz n l:=by
 rcases h with h|⟨gg,k,gA,m,st,p,h2,h3⟩
 ·exact .inl h
 ·exact .inr ⟨gg,k,gA,m,st,p,by rw[R gg p];exact h2,h3⟩
def Pz.set_lt(h:Pz b G v esz n l){q:Nat}{ob:LObj}(hq:q<b):Pz b (G.set q ob) v esz n l :=
 h.frame λr hr=>Hg J
def Pz.push_end(h:Pz b G v esz n l){ob:List LObj}:Pz b (G++ob) v esz n l:=by
 rcases h with h|⟨gg,k,gA,m,st,R,p,h3⟩
 ·exact .inl h
 ·exact .inr ⟨gg,k,gA,m,st,R,by rw[Hk (Hf.1 p).1];exact p,h3⟩
def Pz.lenL(h:Pz b G v esz n l){K:Nat→Prop}(k:K n):lenL G v K:=by
 rcases h with ⟨rfl,rfl,_⟩|⟨gg,R,gA,m,st,_,p,_,_,_,⟨rfl,rfl⟩|rfl⟩
 ·exact k
 ·rw[lenL_dy,p];exact⟨rfl,k⟩
 ·rw[lenL_vw,p];exact⟨rfl,k⟩
def Pz.push(h:Pz b G v esz n l)(hz:0<esz)(hb:b≤G.length)(hn:n≤1000000000)(hx:x.length=esz){K:LV→Mh→Prop}
  (k:∀v' G',Pz b G' v' esz (n+1) (l++x)→(∀q,q<b→G'[q]?=G[q]?)→b≤G'.length→K v' G'):O9 G esz v 1 x K:=by
 have gg:=h.length;have fresh:∀l',l'=l++x→K (.dy G.length 0) (G++[.dyn l' (n+1) esz 0 0]):=by
  rintro l' rfl;refine k _ _ (.dy hb (st:=0) Iq (by rw[Hv,gg,hx,Ih];omega)) (λq hq=>Hk J) Ab
 rcases h with ⟨rfl,rfl,rfl⟩|⟨gC,gA,gB,m,st,h0,h1,h2,h3,rfl,⟨rfl,rfl⟩|rfl⟩
 ·rw[appL_nil];exact fresh _ rfl
 ·have hp:gC<G.length:=(Hf.1 h1).1;rw[Hz J]at k;rw[appL_dy,h1];refine⟨rfl,⟨rfl,hz⟩,hn,k _ _ (.dy h0 (Hi hp) Bq) (λq hq=>Hg J) Dj⟩
 ·have hp:gC<G.length:=(Hf.1 h1).1;have hm:=Hy esz h3;have ha:(n+1)*esz=n*esz+esz:=C5
  rw[appL_vw,h1];refine⟨rfl,⟨rfl,rfl,J⟩,hn,?_⟩;by_cases R:(n+1)*esz≤gB.length
  ·rw[Hs R];have p:n+1≤m:=by
    rw[h2]at R;exact Lb R hz
   refine⟨k _ _ (.inr ⟨gC,gA,_,m,_,h0,Hi hp,?_,p,?_,.inr rfl⟩) (λq hq=>Hg J) Dj,fresh _ rfl⟩
   ·unfold M5;simp;omega
   ·unfold M5;have e1:(gB.take (n*esz)++x).length=(n+1)*esz:=by rw[Hv,gg,hx,ha]
    rw[J1 e1]
  ·rw[Hq R];have p:n=m:=by
    rw[h2]at R;have:¬n+1≤m:=λq=>R (Hy _ q)
    omega
   subst p;have ht:gB.take (n*esz)=gB:=Hz J;rw[ht]at k fresh;exact⟨rfl,hz,k _ _ (.dy h0 (Hi hp) Bq) (λq hq=>Hg J) Dj,fresh _ rfl⟩
def Pz.cut(h:Pz b G v esz n l){m:Nat}(hm:m≤n){lo:(Nat→Prop)→Prop}{hi:Nat→(Nat→Prop)→Prop}(p:∀K':Nat→Prop,K' 0→lo K')(R:∀(d:Nat) (K':Nat→Prop),K' m→hi d K'){K:LV→Prop}
  (k:∀v',Pz b G v' esz m (l.take (m*esz))→K v'):Wn G esz v lo hi K:=by
 rcases h with ⟨rfl,rfl,rfl⟩|⟨gA,gg,gB,m',st,h0,h1,h2,h3,rfl,⟨rfl,rfl⟩|rfl⟩
 ·have:m=0:=J
  subst this;rw[slL_nil];exact p _ (R _ _ ⟨rfl,rfl,k _ (.inl ⟨rfl,rfl,U⟩)⟩)
 ·rw[slL_dy,h1];refine⟨rfl,rfl,p _ (R _ _ ⟨J,hm,k _ (.inr ⟨gA,gg,gB,n,st,h0,h1,h2,hm,?_,.inr rfl⟩)⟩)⟩;rw[Km,I2 (Hy _ hm)]
 ·rw[slL_vw,h1];refine⟨rfl,rfl,p _ (R _ _ ⟨J,hm,k _ (.inr ⟨gA,gg,gB,m',st,h0,h1,h2,J,?_,.inr rfl⟩)⟩)⟩;rw[Km,I2 (Hy _ hm)]
def Pz.ix(h:Pz b G v esz n l){i:Int}(h0:0≤i)(hi:i<n){K:LV→Prop}
  (k:∀(gg p:Nat) (gA:List LV) (m st:Nat),b≤gg→G[gg]?=some (.dyn gA m esz p st)→(∀j,j<n*esz→gA[j]?=l[j]?)→n*esz≤gA.length→K (.dptr gg p (i.toNat*esz))):Wh G esz v i K:=by
 rcases h with ⟨rfl,rfl,rfl⟩|⟨gg,p,gA,m',st,h1,R,h3,h4,rfl,⟨rfl,rfl⟩|rfl⟩
 ·omega
 ·rw[zqq,R];exact⟨rfl,rfl,h0,hi,k _ _ _ _ _ h1 R (λj hj=>by rw[Ij hj]) J⟩
 ·rw[zq,R];have:=Hy esz h4;refine⟨rfl,rfl,h0,hi,?_⟩;rw[Is];exact k _ _ _ _ _ h1 R (λj hj=>by rw[Ij hj]) J
def Rw(b:Nat)(G:Mh)(v:LV)(esz n:Nat)(l:List LV):Prop :=
 (v=.nilSl∧n=0∧l=[])∨∃(g k st:Nat),b≤g∧v=.dy g k∧G[g]?=some (.dyn l n esz k st)∧l.length=n*esz
def Rw.nil:Rw b G .nilSl esz 0 []:=.inl ⟨rfl,rfl,rfl⟩
def Rw.frame(h:Rw b G v esz n l)(hf:∀q,b≤q→G'[q]?=G[q]?):Rw b G' v esz n l:=by
 rcases h with h|⟨gg,k,st,p,h2,h3,h4⟩
 ·exact .inl h
 ·exact .inr ⟨gg,k,st,p,h2,by rw[hf gg p];exact h3,h4⟩
def Rw.set_lt(h:Rw b G v esz n l){q:Nat}{ob:LObj}(hq:q<b):Rw b (G.set q ob) v esz n l :=
 h.frame λr hr=>Hg J
def Rw.set_cells(h:Rw b G v esz n l){q st:Nat}{c:List LV}{ob:LObj}(p:G[q]?=some (.cells c st)):Rw b (G.set q ob) v esz n l:=by
 rcases h with h|⟨gg,k,s,h1,h2,h3,h4⟩
 ·exact .inl h
 ·refine .inr ⟨gg,k,s,h1,h2,?_,h4⟩;rw[Hg (λe=>by rw[e,h3]at p;cases p)];exact h3
def Rw.push_end(h:Rw b G v esz n l){ob:List LObj}:Rw b (G++ob) v esz n l:=by
 rcases h with h|⟨gg,k,st,h1,h2,p,h4⟩
 ·exact .inl h
 ·exact .inr ⟨gg,k,st,h1,h2,by rw[Hk (Hf.1 p).1];exact p,h4⟩
def Rw.push(h:Rw b G v esz n l)(hz:0<esz)(hb:b≤G.length)(hn:n≤1000000000){m:Nat}(hx:x.length=m*esz){K:LV→Mh→Prop}
  (k:∀v' G',Rw b G' v' esz (n+m) (l++x)→(∀q,q<b→G'[q]?=G[q]?)→b≤G'.length→K v' G'):O9 G esz v m x K:=by
 rcases h with ⟨rfl,rfl,rfl⟩|⟨gg,p,st,h1,rfl,h2,h3⟩
 ·rw[appL_nil];refine k _ _ (.inr ⟨_,0,0,hb,rfl,?_,by simpa using hx⟩) (λq hq=>Hk J) Ab;rw[Is];exact Iq
 ·have hp:gg<G.length:=(Hf.1 h2).1;rw[appL_dy,h2];exact⟨rfl,⟨rfl,hz⟩,hn,k _ _ (.inr ⟨gg,p+1,st+1,h1,rfl,Hi hp,by rw[Hv,h3,hx,Ih]⟩) (λq hq=>Hg J) Dj⟩
def Rw.cells(h:Rw b G v esz n l):v.cells=some [v]:=by
 rcases h with ⟨rfl,_⟩|⟨_,_,_,_,rfl,_⟩<;>rfl
def Rw.bor(h:Rw b G v esz n l)(hd:dats l=true):Go.Sv.bor G v (.lst l n esz):=by
 rcases h with ⟨rfl,rfl,rfl⟩|⟨gg,k,st,_,rfl,p,_⟩
 ·exact .inr ⟨_,rfl⟩
 ·exact⟨_,_,_,_,rfl,p,hd⟩
def Pz.cells(h:Pz b G v esz n l):v.cells=some [v]:=by
 rcases h with ⟨rfl,_⟩|⟨_,_,_,_,_,_,_,_,_,_,⟨rfl,_⟩|rfl⟩<;>rfl
end stk
end
def HSim.freeze'{c:Cx}{G:Mh}(hs:HSim c G){k st:Nat}{x:AV}{ob:LObj}(hG:G[j]?=some ob)(hl:ob.live=true)(gC:ob.st<st)(hp:c.hd[j]?=some (k,x)) :
  HSim ⟨c.hd,λq=>c.Fz q∨Nf x=some q,c.H⟩ (G.set j (.dead st))∧Step c G ⟨c.hd,λq=>c.Fz q∨Nf x=some q,c.H⟩ (G.set j (.dead st)):=by
 have gD:j<G.length:=(Hf.1 hG).1;have hle:CxLe c ⟨c.hd,λq=>c.Fz q∨Nf x=some q,c.H⟩:=⟨λj k h e=>⟨k,h,e,Hm _,λ_=>rfl,λ_=>rfl⟩,λq hq=>⟨.inl hq,rfl⟩⟩;have gA:∀q,Nf x=some q→Ow c G q:=λq hq=>⟨j,ob,k,x,hG,hl,hp,hq⟩
 have hinv:∀{q:Nat} {p:LObj},(G.set j (.dead st))[q]?=some p→(q=j∧p=.dead st)∨(q≠j∧G[q]?=some p):=by
  intro q p e;by_cases hq:q=j
  ·subst hq;rw[Hi gD]at e;cases e;exact .inl ⟨rfl,rfl⟩
  ·rw[Hg (Ne.symm hq)]at e;exact .inr ⟨hq,e⟩
 have gg:∀q,Ow ⟨c.hd,λq=>c.Fz q∨Nf x=some q,c.H⟩ (G.set j (.dead st)) q→Ow c G q∧Nf x≠some q:=by
  rintro q ⟨p1,p,k1,h1,e1,e2,e3,e4⟩;rcases hinv e1 with ⟨_,rfl⟩|⟨gE,e1⟩
  ·cases e2
  ·exact⟨⟨p1,p,k1,h1,e1,e2,e3,e4⟩,λhq=>gE (hs.excl p1 j p ob k1 h1 k x q e1 hG e2 hl e3 hp e4 hq)⟩
 refine⟨⟨Eo,λq hq=>hq.elim (hs.fz q) (λe=>hs.lt q (gA q e)),λq hq=>hs.lt q (gg q hq).1,λq hq hf=>hf.elim (hs.sep q (gg q hq).1) (gg q hq).2,λq p k1 h1 e1 e2=>?_,?_⟩,⟨hle,Hm _,λ_ _ _=>rfl,λq hq=>.inl (gg q hq).1,λq hq=>hq.elim .inl (λe=>.inr (.inl (gA q e))),λq p gB e1 e2=>?_,λq p gB k1 h1 o1 e1 e2 e3 e4 e5 e6=>?_⟩⟩
 ·rcases hinv e1 with ⟨_,rfl⟩|⟨_,e1⟩
  ·trivial
  ·by_cases gF:p.live=true
   ·exact (hs.obj q p k1 h1 e1 e2).mono hle (λ_ _=>rfl)
   ·cases p<;>first|exact absurd rfl gF|trivial
 ·intro q r p gB k1 h1 k2 h2 o1 e1 e2 e3 e4 e5 e6 e7 e8;rcases hinv e1 with ⟨_,rfl⟩|⟨_,e1⟩
  ·cases e3
  ·rcases hinv e2 with ⟨_,rfl⟩|⟨_,e2⟩
   ·cases e4
   ·exact hs.excl q r p gB k1 h1 k2 h2 o1 e1 e2 e3 e4 e5 e6 e7 e8
 ·rcases hinv e2 with ⟨rfl,rfl⟩|⟨_,e2⟩
  ·rw[hG]at e1;cases e1;exact L6 gC
  ·rw[e1]at e2;cases e2;exact Hm _
 ·rcases hinv e2 with ⟨rfl,rfl⟩|⟨_,e2⟩
  ·rw[hG]at e1;cases e1;have:ob.st=st:=e6;omega
  ·rw[e1]at e2;cases e2;exact⟨rfl,rfl,rfl⟩
def ARs.parts{c:Cx}:∀{a b:List LV} {v:LV} {r:List AV},ARs c (a++v::b) r→∃ra x rb,r=ra++x::rb∧ARs c a ra∧AR c v x∧ARs c b rb
 |[],b,v,r,h=>by
  cases h with
  |cons e es=>exact⟨[],_,_,rfl,.nil,e,es⟩
 |w::a,b,v,r,h=>by
  cases h with
  |cons e es =>
   obtain⟨ra,x,rb,rfl,h1,h2,h3⟩:=ARs.parts (a:=a) es;exact⟨_::ra,x,rb,rfl,.cons e h1,h2,h3⟩
def ARs.join{c:Cx}:∀{a b:List LV} {v:LV} {ra rb:List AV} {x:AV},ARs c a ra→AR c v x→ARs c b rb→ARs c (a++v::b) (ra++x::rb)
 |[],_,_,_,_,_,h1,h2,h3=>by cases h1;exact .cons h2 h3
 |_::a,_,_,_,_,_,h1,h2,h3=>by
  cases h1 with
  |cons e es=>exact .cons e (ARs.join es h2 h3)
def Yr{t:LTgt}{a b:List LV}{k len st:Nat}{l:List LV}(M:L[g]?=some (.dyn l len j k st))(h:Qq p t (a++.lst l len j::b) (L.set g (.dead (st+1))) Q) :
  Qq p t (a++.dy g k::b) L Q:=by
 refine⟨h.1,λc C D E F V=>?_⟩;obtain⟨ra,x,rb,rfl,X,Y,Z⟩:=V.parts;cases Y with
 | @dy _ _ k' N _ e hk G gg =>
  obtain⟨r0,H,z⟩:=E.obj g _ _ _ M e;have I:=G J;obtain⟨O,B⟩:=E.freeze' (st:=st+1) M rfl (Iv _) e;have hx:AR ⟨c.hd,λq=>c.Fz q∨Nf N=some q,c.H⟩ (.lst l len j) x:=by
   rw[I];rcases z with ⟨z,K⟩|⟨o,v,P,t,R,l',z,K,r4,r5,S,r7,r8⟩
   ·subst K;have hl:l=[]:=Ig D4;subst hl;rw[z];exact .lstNil
   ·have gA:l'.length=len*j:=by rw[←S.length];exact H
    have T:=Tb (i:=0) (n:=len*j) K r5 r4 J;rw[Jd,Hz J]at T;rw[z];exact .lst (.inr rfl) (λr e=>(r7 r e).2) H T (S.mono (z ▸ B.le))
  have A:q9 ⟨c.hd,λq=>c.Fz q∨Nf N=some q,c.H⟩ t C:=by
   cases t<;>cases C<;>exact F
  obtain⟨m,v1,H',q1,c1,v,G1,q2,q3,q4,q5,q6⟩:=h.2 _ C _ O A (.join (X.mono B.le) hx (Z.mono B.le));exact⟨m,v1,H',q1,c1,v,G1,q2,q3,B.trans E O q4,q5,q6⟩
section
section sub
variable {P : Program} {G : Mh} {p len esz ver st : Nat} {l l' : List LV}
def zix{t:LTgt}{args':List LV}(h:∀c r,ARs c Z r→ARs c args' r)(k:Qq P t args' G Q):Qq P t Z G Q :=
 ⟨k.1,λc j g z A B=>k.2 c j g z A (h c _ B)⟩
end sub
end


section
def zp0{l:List LV}(h:∀v∈l,v.dat=true):dats l=true:=by
 induction l with
 |nil=>rfl
 |cons v l g=>rw[dats,h v (Jf ..),g λw hw=>h w (In _ hw)];rfl
def zf8{l:List LV}(h:dats l=true):∀v∈l,v.dat=true:=by
 induction l with
 |nil=>intro v g;cases g
 |cons w l j =>
  rw[dats,Hh]at h;intro v g;rcases Hu.1 g with rfl|g
  ·exact h.1
  ·exact j h.2 v g
def zdv{l:List LV}(n:Nat)(h:dats l=true):dats (l.take n)=true:=zp0 λv g=>zf8 h v (Kr g)
def zsg{l:List LV}(n:Nat)(h:dats l=true):dats (l.drop n)=true:=zp0 λv g=>zf8 h v (Jk g)
def bo{a b:List LV}(h:dats a=true)(k:dats b=true):dats (a++b)=true:=zp0 λv g=>(Ib.1 g).elim (zf8 h v) (zf8 k v)
def ux{l r:List LV}{i:Nat}(h:dats l=true)(k:dats r=true):dats (M5 l i r)=true:=by
 unfold M5;exact bo (bo (zdv _ h) k) (zsg _ h)
def Mn{G x:Mh}{i:Nat}(h:i<G.length):(G++x)[i]?=G[i]?:=Hk h
def M4(b:Nat)(G:Mh)(v:LV)(esz n:Nat)(l:List LV):Prop :=
 (v=.nilSl∧n=0∧l=[])∨∃(g k:Nat) (j:List LV) (m st:Nat),b≤g∧G[g]?=some (.dyn j m esz k st)∧j.length=m*esz∧n≤m∧l=j.take (n*esz)∧dats j=true∧((v=.dy g k∧n=m)∨v=.vw g k 0 n)
section std
variable {b : Nat} {G G' : Mh} {v : LV} {esz n : Nat} {l x : List LV}
def M4.nil:M4 b G .nilSl esz 0 []:=.inl ⟨rfl,rfl,rfl⟩
def M4.stk(h:M4 b G v esz n l):Pz b G v esz n l:=by
 rcases h with h|⟨gg,k,gA,m,st,p,R,h3,h4,h5,_,h6⟩
 ·exact .inl h
 ·exact .inr ⟨gg,k,gA,m,st,p,R,h3,h4,h5,h6⟩
def M4.dy{p k st:Nat}(hb:b≤p)(hp:G[p]?=some (.dyn l n esz k st))(hl:l.length=n*esz)(hd:dats l=true):M4 b G (.dy p k) esz n l :=
 .inr ⟨p,k,l,n,st,hb,hp,hl,Hm _,by rw[Hz J],hd,.inl ⟨rfl,rfl⟩⟩
def M4.frame(h:M4 b G v esz n l)(hf:∀q,b≤q→q<G.length→G'[q]?=G[q]?):M4 b G' v esz n l:=by
 rcases h with h|⟨gg,k,gA,m,st,p,R,h3⟩
 ·exact .inl h
 ·exact .inr ⟨gg,k,gA,m,st,p,by rw[hf gg p (Hf.1 R).1];exact R,h3⟩
def M4.set_lt(h:M4 b G v esz n l){q:Nat}{ob:LObj}(hq:q<b):M4 b (G.set q ob) v esz n l :=
 h.frame λr hr _=>Hg J
def M4.push_end(h:M4 b G v esz n l){ob:List LObj}:M4 b (G++ob) v esz n l :=
 h.frame λ_ _ hr=>Hk hr
def M4.push(h:M4 b G v esz n l)(hz:0<esz)(hb:b≤G.length)(hn:n≤1000000000)(hx:x.length=esz)(p:dats x=true){K:LV→Mh→Prop}
  (k:∀(v':LV) (G':Mh),M4 b G' v' esz (n+1) (l++x)→(∀q,q<b→G'[q]?=G[q]?)→G.length≤G'.length→(∀(q:Nat) (ob:LObj),(∀gC m k st,ob≠LObj.dyn gC m esz k st)→G[q]?=some ob→G'[q]?=some ob)→K v' G'):O9 G esz v 1 x K:=by
 have gA:=h.stk.length;have fresh:∀l',l'=l++x→dats l'=true→K (.dy G.length 0) (G++[.dyn l' (n+1) esz 0 0]):=by
  rintro l' rfl hd;refine k _ _ (.dy hb (st:=0) Iq (by rw[Hv,gA,hx,Ih];omega) hd) (λq hq=>Hk J) U (λq ob _ e=>Ce)
 rcases h with ⟨rfl,rfl,rfl⟩|⟨gD,gB,gC,m,st,h0,R,h2,h3,rfl,hd,⟨rfl,rfl⟩|rfl⟩
 ·rw[appL_nil];exact fresh _ rfl p
 ·have hp:gD<G.length:=(Hf.1 R).1;rw[Hz J]at k;rw[appL_dy,R];refine⟨rfl,⟨rfl,hz⟩,hn,k _ _ (.dy h0 (Hi hp) Bq (bo hd p)) (λq hq=>Hg J) U (λq ob ho e=>?_)⟩;rw[Hg (λq'=>Bu)];exact e
 ·have hp:gD<G.length:=(Hf.1 R).1;have hm:=Hy esz h3;have ha:(n+1)*esz=n*esz+esz:=C5
  rw[appL_vw,R];refine⟨rfl,⟨rfl,rfl,J⟩,hn,?_⟩;by_cases hf:(n+1)*esz≤gC.length
  ·rw[Hs hf];have gg:n+1≤m:=by
    rw[h2]at hf;exact Lb hf hz
   refine⟨k _ _ (.inr ⟨gD,gB,_,m,_,h0,Hi hp,?_,gg,?_,ux hd p,.inr rfl⟩) (λq hq=>Hg J) U (λq ob ho e=>?_),fresh _ rfl (bo (zdv _ hd) p)⟩
   ·unfold M5;simp;omega
   ·unfold M5;have e1:(gC.take (n*esz)++x).length=(n+1)*esz:=by rw[Hv,gA,hx,ha]
    rw[J1 e1]
   ·rw[Hg (λq'=>Bu)];exact e
  ·rw[Hq hf];have gg:n=m:=by
    rw[h2]at hf;have:¬n+1≤m:=λq=>hf (Hy _ q)
    omega
   subst gg;have ht:gC.take (n*esz)=gC:=Hz J;rw[ht]at k fresh;refine⟨rfl,hz,k _ _ (.dy h0 (Hi hp) Bq (bo hd p)) (λq hq=>Hg J) U (λq ob ho e=>?_),fresh _ rfl (bo hd p)⟩;rw[Hg (λq'=>Bu)];exact e
def M4.cut(h:M4 b G v esz n l){m:Nat}(hm:m≤n){lo:(Nat→Prop)→Prop}{hi:Nat→(Nat→Prop)→Prop}(p:∀K':Nat→Prop,K' 0→lo K')(R:∀(d:Nat) (K':Nat→Prop),K' m→hi d K'){K:LV→Prop}
  (k:∀v',M4 b G v' esz m (l.take (m*esz))→K v'):Wn G esz v lo hi K:=by
 rcases h with ⟨rfl,rfl,rfl⟩|⟨gA,gg,gB,m',st,h0,h1,h2,h3,rfl,hd,⟨rfl,rfl⟩|rfl⟩
 ·have:m=0:=J
  subst this;rw[slL_nil];exact p _ (R _ _ ⟨rfl,rfl,k _ (.inl ⟨rfl,rfl,U⟩)⟩)
 ·rw[slL_dy,h1];refine⟨rfl,rfl,p _ (R _ _ ⟨J,hm,k _ (.inr ⟨gA,gg,gB,n,st,h0,h1,h2,hm,?_,hd,.inr rfl⟩)⟩)⟩;rw[Km,I2 (Hy _ hm)]
 ·rw[slL_vw,h1];refine⟨rfl,rfl,p _ (R _ _ ⟨J,hm,k _ (.inr ⟨gA,gg,gB,m',st,h0,h1,h2,J,?_,hd,.inr rfl⟩)⟩)⟩;rw[Km,I2 (Hy _ hm)]
def M4.bor(h:M4 b G v esz n l):Go.Sv.bor G v (.lst l n esz):=by
 rcases h with ⟨rfl,rfl,rfl⟩|⟨gA,k,gg,m,st,h1,p,h3,R,rfl,hd,⟨rfl,rfl⟩|rfl⟩
 ·exact .inr ⟨_,rfl⟩
 ·exact⟨gg,_,_,_,by rw[Hz J],p,hd⟩
 ·have:=Hy esz R;exact⟨gg,_,_,_,by rw[Kc,Jd],p,J,hd⟩
def M4.lenL(h:M4 b G v esz n l){K:Nat→Prop}(k:K n):Go.Sv.lenL G v K:=h.stk.lenL k
def M4.cells(h:M4 b G v esz n l):v.cells=some [v]:=h.stk.cells
def M4.at1(h:M4 b G v 1 n l){i:Int}(h0:0≤i)(hi:i<n){K:LV→Prop}(k:∀a,(∀p:LV→Prop,Om l i.toNat p→Vc G a p)→K a):Wh G 1 v i K:=by
 refine h.stk.ix h0 hi λgA gg gB m st h1 h2 h3 h4=>k _ λp R=>?_
 rw[read1_dptr,h2];obtain⟨w,hw,R⟩:=R;refine⟨rfl,w,?_,R⟩;rw[Kk]at h3 ⊢;rw[h3 _ J];exact hw
def Q5:LV→Option Nat
 |.dy g _=>some g
 |.vw g _ _ _=>some g
 |_=>none
def M4.frame2(h:M4 b G v esz n l)(R:∀q,Q5 v=some q→G'[q]?=G[q]?):M4 b G' v esz n l:=by
 rcases h with h|⟨gg,k,gA,m,st,h1,h2,h3,h4,h5,h6,p⟩
 ·exact .inl h
 ·refine .inr ⟨gg,k,gA,m,st,h1,?_,h3,h4,h5,h6,p⟩;rw[R gg (by rcases p with ⟨rfl,_⟩|rfl<;>rfl)];exact h2
def M4.row(h:M4 b G v esz n l){q:Nat}(R:Q5 v=some q):b≤q∧q<G.length∧∃gg m k st,G[q]?=some (.dyn gg m esz k st):=by
 rcases h with ⟨rfl,_⟩|⟨gA,k,gg,m,st,h1,p,h3,h4,h5,h6,⟨rfl,_⟩|rfl⟩
 ·cases R
 ·cases R;exact⟨h1,(Hf.1 p).1,_,_,_,_,p⟩
 ·cases R;exact⟨h1,(Hf.1 p).1,_,_,_,_,p⟩
def M4.cut2(h:M4 b G v esz n l){m:Nat}(hm:m≤n){lo:(Nat→Prop)→Prop}{hi:Nat→(Nat→Prop)→Prop}(p:∀K':Nat→Prop,K' 0→lo K')(R:∀(d:Nat) (K':Nat→Prop),K' m→hi d K'){K:LV→Prop}
  (k:∀v',M4 b G v' esz m (l.take (m*esz))→Q5 v'=Q5 v→K v'):Wn G esz v lo hi K:=by
 rcases h with ⟨rfl,rfl,rfl⟩|⟨gA,gg,gB,m',st,h0,h1,h2,h3,rfl,hd,⟨rfl,rfl⟩|rfl⟩
 ·have:m=0:=J
  subst this;rw[slL_nil];exact p _ (R _ _ ⟨rfl,rfl,k _ (.inl ⟨rfl,rfl,U⟩) rfl⟩)
 ·rw[slL_dy,h1];refine⟨rfl,rfl,p _ (R _ _ ⟨J,hm,k _ (.inr ⟨gA,gg,gB,n,st,h0,h1,h2,hm,?_,hd,.inr rfl⟩) rfl⟩)⟩;rw[Km,I2 (Hy _ hm)]
 ·rw[slL_vw,h1];refine⟨rfl,rfl,p _ (R _ _ ⟨J,hm,k _ (.inr ⟨gA,gg,gB,m',st,h0,h1,h2,J,?_,hd,.inr rfl⟩) rfl⟩)⟩;rw[Km,I2 (Hy _ hm)]
def M4.push2(h:M4 b G v esz n l)(hz:0<esz)(hb:b≤G.length)(hn:n≤1000000000)(hx:x.length=esz)(p:dats x=true){K:LV→Mh→Prop}
  (k:∀(v':LV) (G':Mh),M4 b G' v' esz (n+1) (l++x)→(∀q,q<G.length→Q5 v≠some q→G'[q]?=G[q]?)→G.length≤G'.length→(Q5 v'=Q5 v∨Q5 v'=some G.length)→K v' G'):O9 G esz v 1 x K:=by
 have gA:=h.stk.length;have fresh:∀l',l'=l++x→dats l'=true→K (.dy G.length 0) (G++[.dyn l' (n+1) esz 0 0]):=by
  rintro l' rfl hd;refine k _ _ (.dy hb (st:=0) Iq (by rw[Hv,gA,hx,Ih];omega) hd) (λq R _=>Hk R) U (.inr rfl)
 rcases h with ⟨rfl,rfl,rfl⟩|⟨gD,gB,gC,m,st,h0,h1,h2,h3,rfl,hd,⟨rfl,rfl⟩|rfl⟩
 ·rw[appL_nil];exact fresh _ rfl p
 ·have hp:gD<G.length:=(Hf.1 h1).1;rw[Hz J]at k;rw[appL_dy,h1];refine⟨rfl,⟨rfl,hz⟩,hn,k _ _ (.dy h0 (Hi hp) Bq (bo hd p)) (λq _ R=>Hg (λe=>R (by rw[←e];rfl))) U (.inl rfl)⟩
 ·have hp:gD<G.length:=(Hf.1 h1).1;have hm:=Hy esz h3;have ha:(n+1)*esz=n*esz+esz:=C5
  rw[appL_vw,h1];refine⟨rfl,⟨rfl,rfl,J⟩,hn,?_⟩;by_cases hf:(n+1)*esz≤gC.length
  ·rw[Hs hf];have gg:n+1≤m:=by
    rw[h2]at hf;exact Lb hf hz
   refine⟨k _ _ (.inr ⟨gD,gB,_,m,_,h0,Hi hp,?_,gg,?_,ux hd p,.inr rfl⟩) (λq _ R=>Hg (λe=>R (by rw[←e];rfl))) U (.inl rfl),fresh _ rfl (bo (zdv _ hd) p)⟩
   ·unfold M5;simp;omega
   ·unfold M5;have e1:(gC.take (n*esz)++x).length=(n+1)*esz:=by rw[Hv,gA,hx,ha]
    rw[J1 e1]
  ·rw[Hq hf];have gg:n=m:=by
    rw[h2]at hf;have:¬n+1≤m:=λq=>hf (Hy _ q)
    omega
   subst gg;have ht:gC.take (n*esz)=gC:=Hz J;rw[ht]at k fresh;refine⟨rfl,hz,k _ _ (.dy h0 (Hi hp) Bq (bo hd p)) (λq _ R=>Hg (λe=>R (by rw[←e];rfl))) U (.inl rfl),fresh _ rfl (bo hd p)⟩
end std
end
section
section deep
variable {P : Program}
end deep
end
section
def Tn(b:Nat)(G:Mh)(v:LV)(esz n:Nat)(l:List LV):Prop :=
 dats l=true∧l.length=n*esz∧((v=.nilSl∧n=0∧l=[])∨∃(g k st:Nat),b≤g∧v=.dy g k∧G[g]?=some (.dyn l n esz k st))
section dys
variable {b : Nat} {G G' : Mh} {v : LV} {esz n : Nat} {l x : List LV}
def Tn.nil:Tn b G .nilSl esz 0 []:=⟨rfl,U,.inl ⟨rfl,rfl,rfl⟩⟩
def Tn.frame(h:Tn b G v esz n l)(hf:∀q,b≤q→q<G.length→G'[q]?=G[q]?):Tn b G' v esz n l:=by
 obtain⟨p,h2,h|⟨gg,k,st,a,e,c⟩⟩:=h
 ·exact⟨p,h2,.inl h⟩
 ·exact⟨p,h2,.inr ⟨gg,k,st,a,e,by rw[hf gg a (Hf.1 c).1];exact c⟩⟩
def Tn.push_end(h:Tn b G v esz n l){ob:List LObj}:Tn b (G++ob) v esz n l :=
 h.frame λ_ _ hr=>Hk hr
def Tn.push{c:Nat}(h:Tn b G v esz n l)(hz:0<esz)(hb:b≤G.length)(hn:n≤1000000000)(hx:x.length=c*esz)(p:dats x=true){K:LV→Mh→Prop}
  (k:∀(v':LV) (G':Mh),Tn b G' v' esz (n+c) (l++x)→(∀q,q<b→G'[q]?=G[q]?)→G.length≤G'.length→K v' G'):O9 G esz v c x K:=by
 obtain⟨h1,h2,h⟩:=h;have hl:(l++x).length=(n+c)*esz:=by rw[Hv,h2,hx,Ih]
 rcases h with ⟨rfl,rfl,rfl⟩|⟨gA,gg,st,a,rfl,e⟩
 ·rw[appL_nil];refine k _ _ ⟨B5,hl,.inr ⟨G.length,0,0,hb,rfl,?_⟩⟩ (λq hq=>Hk J) U;rw[Iq];simp
 ·have hp:=(Hf.1 e).1;rw[appL_dy,e];exact⟨rfl,⟨rfl,hz⟩,hn,k _ _ ⟨dats_app h1 p,hl,.inr ⟨gA,gg+1,st+1,a,rfl,Hi hp⟩⟩ (λq hq=>Hg J) U⟩
end dys
end
section
section dys
variable {b : Nat} {G G' : Mh} {v : LV} {esz n : Nat} {l x : List LV}
end dys
end
section
def spl:Nat→LC→LC×LC
 |0,.seq a b=>(a,b)
 |n+1,.seq a b=>(.seq a (spl n b).1,(spl n b).2)
 |_,s=>(s,.skip)
section spl
variable {P : Program} {f n : Nat} {ro : Option Nat}
end spl
end
section
set_option linter.unusedSimpArgs false
section lib
variable {P : Program} {f : Nat} {G : Mh} {K : LV → Mh → Prop}
def zns:Sq 1 g A H=Um g A H:=rfl
def lib_del:Sq 2 g A H=Z5 g A H:=rfl
def zck{k:Nat}(z:R7 P f=g)(p:Qc P f=k)(A:k≠0)(B:lf P f)(C:Heap)(j:List AV){v:AV}{H':Heap}(h:Sq k g C j=.ok v H'):Qt P (OL P) 1 (.fn f) j C=.ok v H':=by
 unfold Qt;dsimp only;rw[rf (by rw[p];exact A) B,p,z,h]
def zpc{c:Cx}(E:HSim c G){st len:Nat}{B:List LV}{o v p:_}{t:Tr AV}(F:G[g]?=some (.dyn Z len N j st))(e:c.hd[g]?=some (j,.sl o v 0 len N p))(V:c.H.get o=some (.cells t v6 v false))
  (R:ARs c B H) (S:B.length=C*N) (k:K (.dy g (j+1)) (G.set g (.dyn B C N (j+1) (st+1)))) :
  ∃T H',rowTo c.H o v C N H=.ok T H'∧∃D w I,D.H=H'∧HSim D I∧Step c G D I∧AR D w T∧K w I:=by
 have L:g<c.hd.length:=by rw[E.len];exact (Hf.1 F).1
 have M:o<c.H.next:=E.lt o ⟨g,_,_,_,F,rfl,e,rfl⟩;have z:H.length=C*N:=by rw[←R.length];exact S
 have A:rowTo c.H o v C N H=.ok (.sl o (v+1) 0 C N none) (c.H.put o (.cells (Ou H 0 .e) H.length (v+1) false)):=by
  unfold rowTo;rw[V];dsimp only;rw[Ii]
 refine⟨_,_,A,?_⟩;obtain⟨X,Y,_⟩:=E.upd (k':=j+1) (x':=.sl o (v+1) 0 C N none) (ob':=.dyn B C N (j+1) (st+1)) (H':=c.H.put o (.cells (Ou H 0 .e) H.length (v+1) false)) F rfl e (Hm _) (λo' _ O=>Heap.get_put_ne _ _ (λq=>O D0))
  (λo' e'=>by cases e';exact⟨.inl rfl,M⟩) (Kz _) (λq=>J) (λq=>Cv) (.inl (Iv _))
  (λQ=>⟨rfl,S,.inr ⟨o,v+1,none,_,_,H,rfl,Heap.get_put_same _ _ _,J,by rw[←z];exact jm H,R.mono Q,λr q=>Cv,λ_=>z⟩⟩)
 exact⟨_,.dy g (j+1),_,rfl,X,Y,.dy (k':=j+1) (h:=.sl o (v+1) 0 C N none) (by dsimp only;rw[Hi L]) (Hm _) (λ_=>rfl) rfl,k⟩
def zvo(ht:ef P (.fn f))(hk:Qc P f=1)(hr:lf P f){st len q i:Nat}(hz:R7 P f=C){x:List LV}(F:G[g]?=some (.dyn Z len C j st))(hq:G[q]?=some (.dyn x 1 C N v6))(S:g≠q)(hi:i≤len)(he:1≤C)(hl:len≤1000000000)
  (k:K (.dy g (j+1)) (G.set g (.dyn (Z.take (i*C)++x++Z.drop (i*C)) (len+1) C (j+1) (st+1)))):Qq P (.fn f) [.dy g j,.i i,.dy q N] G K:=by
 refine⟨ht,λc t1 T E H B=>?_⟩;cases t1 with
 |yield o=>exact H.elim
 |fn gQ =>
  obtain rfl:f=gQ:=H;cases B with
  |cons h1 B =>
   cases B with
   |cons h2 B =>
    cases B with
    |cons h3 B =>
     cases B;cases h2;cases h1 with
     | @dy _ _ O hh a1 Q gI V gK =>
      cases h3 with
      | @dy _ _ k2 hx a3 e2 gL X gM =>
       obtain⟨rfl,Y,r2⟩:=E.obj g _ _ _ F Q;obtain⟨rfl,x1,x2⟩:=E.obj q _ _ _ hq e2;obtain rfl:=V rfl;obtain rfl:=X rfl;rcases x2 with ⟨_,x2⟩|⟨I,v2,p,t2,gg,D,rfl,y3,y4,y5,y6,y7,y8⟩
       ·cases x2
       have rx:=Tb (i:=0) (n:=C) y3 y5 y4 J;have gA:D.length=C:=by rw[←y6.length,x1,La]
       rw[Jd,Hz J]at rx;have z:(Z.take (i*C)++x++Z.drop (i*C)).length=(len+1)*C:=by
        have L:i*C≤len*C:=Hy _ hi;simp only[Hv,H4,Iw,Y,x1,Ih,La];omega
       rcases r2 with ⟨rfl,R⟩|⟨o,v,M,t,gH,l',rfl,R,r4,r5,r6,r7,r8⟩
       ·
        subst R;have gB:Z=[]:=Ig (by simpa using Y);have gC:i=0:=J
        subst gB gC;simp only[Kc,List.take_nil,J2,List.drop_nil,Ip,Is]at k z;have A:Sq 1 C c.H [.nilSl,.int .i64 (Int.ofNat 0),.sl I v2 0 1 C p]=.ok (.sl c.H.next 0 0 1 C none) (c.H.push (.cells (Ou D 0 .e) D.length 0 false)):=by
         rw[zns];unfold Um;dsimp only;rw[(El:(Nat.beq 0 0&&(Nat.beq 1 1&&(Nat.beq C C&&Nat.ble 1 C)))=true)];dsimp only;rw[rx]
        refine⟨1,_,_,zck hz hk An hr c.H _ A,?_⟩;have gD:g<c.hd.length:=by rw[E.len];exact (Hf.1 F).1
        obtain⟨q1,q2,_⟩:=E.upd (k':=O+1) (x':=.sl c.H.next 0 0 1 C none) (ob':=.dyn x 1 C (O+1) (st+1)) (H':=c.H.push (.cells (Ou D 0 .e) D.length 0 false)) F rfl Q (Kz _) (λo' gE _=>Heap.get_push_ne _ _ gE)
         (λo' e'=>by cases e';exact⟨.inr (Hm _),Iv _⟩) (Kz _) (λq=>J) (λq=>Cv) (.inl (Iv _))
         (λL=>⟨rfl,x1,.inr ⟨c.H.next,0,none,_,_,D,rfl,Heap.get_push_same _ _,J,by rw[La,←gA];exact jm D,y6.mono L,λr q=>Cv,λ_=>J⟩⟩)
        exact⟨_,.dy g (O+1),_,rfl,q1,q2,.dy (k':=O+1) (h:=.sl c.H.next 0 0 1 C none) (by dsimp only;rw[Hi gD]) (Hm _) (λ_=>rfl) rfl,k⟩
       ·have gP:l'.length=len*C:=by rw[←r6.length];exact Y
        have rr:=Tb (i:=0) (n:=len*C) R r5 r4 J;rw[Jd,Hz J]at rr;obtain⟨v1,H',w1,w2⟩:=zpc (K:=K) E F Q R (((r6.take (i*C)).append y6).append (r6.drop (i*C))) z k;have A:Sq 1 C c.H [.sl o v 0 len C M,.int .i64 (Int.ofNat i),.sl I v2 0 1 C p]=.ok v1 H':=by
         rw[zns];unfold Um;have gF:Nat.beq o I=false:=by
          cases gG:Nat.beq o I with
          |false=>rfl
          |true=>exact absurd (E.excl g q _ _ _ _ _ _ o F hq rfl rfl Q e2 rfl (by rw[Hn gG];rfl)) S
         have hb:(!(Nat.beq o I)&&(Nat.beq 0 0&&(Nat.beq 1 1&&(Nat.beq C C&&(Nat.beq C C&&(Nat.ble i len&&(Nat.ble 1 C&&Nat.ble len M1)))))))=true:=by
          simp only[gF,Ls,Ii,Ho hi,Ho he,show Nat.ble len M1=true from Ho hl,Bool.and_self]
         dsimp only;rw[hb];dsimp only;rw[show Nat.mul len C=len*C from rfl,rr,rx];exact w1
        exact⟨1,_,_,zck hz hk An hr c.H _ A,w2⟩
def zlh(T:ef P (.fn f))(V:Qc P f=1)(X:lf P f){q:Nat}{x:List LV}(Y:R7 P f=g)(Z:G[q]?=some (.dyn x 1 g j C))(he:1≤g)
  (k:K (.dy G.length 0) (G++[.dyn x 1 g 0 0])):Qq P (.fn f) [.nilSl,.i (0:Int),.dy q j] G K:=by
 refine⟨T,λc t1 H E B z=>?_⟩;cases t1 with
 |yield o=>exact B.elim
 |fn gB =>
  obtain rfl:f=gB:=B;cases z with
  |cons h1 z =>
   cases z with
   |cons h2 z =>
    cases z with
    |cons h3 z =>
     cases z;cases h2;cases h1 with
     |nilSl =>
      cases h3 with
      | @dy _ _ k2 hx a3 e2 gg I gA =>
       obtain⟨rfl,Q,L⟩:=E.obj q _ _ _ Z e2;obtain rfl:=I rfl;rcases L with ⟨_,L⟩|⟨o2,v2,A,t2,M,p,rfl,y3,y4,y5,R,y7,y8⟩
       ·cases L
       have S:=Tb (i:=0) (n:=g) y3 y5 y4 J;have N:p.length=g:=by rw[←R.length,Q,La]
       rw[Jd,Hz J]at S;have D:Sq 1 g c.H [.nilSl,.int .i64 (Int.ofNat 0),.sl o2 v2 0 1 g A]=.ok (.sl c.H.next 0 0 1 g none) (c.H.push (.cells (Ou p 0 .e) p.length 0 false)):=by
        rw[zns];unfold Um;dsimp only;rw[(El:(Nat.beq 0 0&&(Nat.beq 1 1&&(Nat.beq g g&&Nat.ble 1 g)))=true)];dsimp only;rw[S]
       refine⟨1,_,_,zck Y V An X c.H _ D,?_⟩;have O:CxLe c ⟨c.hd++[(0,.sl c.H.next 0 0 1 g none)],c.Fz,c.H.push (.cells (Ou p 0 .e) p.length 0 false)⟩:=⟨λgC k h e=>⟨k,h,Ce,Hm _,λ_=>rfl,λ_=>rfl⟩,λo F=>⟨F,Heap.get_push_ne _ _ (E.fz o F)⟩⟩;obtain⟨q1,q2,q3⟩:=E.push (H':=c.H.push (.cells (Ou p 0 .e) p.length 0 false)) (x:=.sl c.H.next 0 0 1 g none) (ob:=.dyn x 1 g 0 0) (Kz _) (λo F=>Heap.get_push_ne _ _ F) (λo e=>by cases e;exact⟨Hm _,Iv _⟩)
        ⟨rfl,Q,.inr ⟨c.H.next,0,none,_,_,p,rfl,Heap.get_push_same _ _,J,by rw[La,←N];exact jm p,R.mono O,λr e=>Ar,λ_=>J⟩⟩
       exact⟨_,.dy G.length 0,_,rfl,q1,q2,.dy (k':=0) (h:=.sl c.H.next 0 0 1 g none) (by dsimp only;rw[←E.len];simp) (Hm _) (λ_=>rfl) rfl,k⟩
def zlc(V:ef P (.fn f))(X:Qc P f=2)(Y:lf P f){st len i:Nat}(hz:R7 P f=C)(M:G[g]?=some (.dyn Z len C j st))(hi:i<len)(he:1≤C)(hl:len≤1000000000)
  (k:K (.dy g (j+1)) (G.set g (.dyn (Z.take (i*C)++Z.drop ((i+1)*C)) (len-1) C (j+1) (st+1)))):Qq P (.fn f) [.dy g j,.i i,.i ((i+1:Nat):Int)] G K:=by
 refine⟨V,λc t1 E N A p=>?_⟩;cases t1 with
 |yield o=>exact A.elim
 |fn gC =>
  obtain rfl:f=gC:=A;cases p with
  |cons O p =>
   cases p with
   |cons F p =>
    cases p with
    |cons h3 p =>
     cases p;cases F;cases h3;cases O with
     | @dy _ _ k1 hh a1 Q gg H gA =>
      obtain⟨rfl,R,r2⟩:=N.obj g _ _ _ M Q;obtain rfl:=H rfl;rcases r2 with ⟨rfl,I⟩|⟨o,v,B,t,S,l',rfl,I,r4,r5,L,r7,r8⟩
      ·omega
      have gB:l'.length=len*C:=by rw[←L.length];exact R
      have T:=Tb (i:=0) (n:=len*C) I r5 r4 J;rw[Jd,Hz J]at T;have z:(Z.take (i*C)++Z.drop ((i+1)*C)).length=(len-1)*C:=by
       have O:i*C≤len*C:=Hy _ J;have F:(i+1)*C≤len*C:=Hy _ J;simp only[Hv,H4,Iw,R,Ih,La,Nat.sub_mul]at F ⊢;omega
      obtain⟨v1,H',w1,w2⟩:=zpc (K:=K) N M Q I ((L.take (i*C)).append (L.drop ((i+1)*C))) z k;have D:Sq 2 C c.H [.sl o v 0 len C B,.int .i64 (Int.ofNat i),.int .i64 (Int.ofNat (i+1))]=.ok v1 H':=by
       rw[lib_del];unfold Z5;have hb:(Nat.beq 0 0&&(Nat.beq (i+1) (Nat.add i 1)&&(Nat.beq C C&&(Nat.ble (i+1) len&&(Nat.ble 1 C&&Nat.ble len M1)))))=true:=by
        simp only[Ii,show Nat.beq (i+1) (Nat.add i 1)=true from Ii _,Ho (J:i+1≤len),Ho he,show Nat.ble len M1=true from Ho hl,Bool.and_self]
       dsimp only;rw[hb];dsimp only;rw[show Nat.mul len C=len*C from rfl,T];exact w1
      exact⟨1,_,_,zck hz X An Y c.H _ D,w2⟩
end lib
end
section
def xd(P:Program)(f:Nat)(p:List LV)(E:LV→Prop):Prop :=
 ef P (.fn f)∧∀(A:Nat→Prop) (B:Heap) (g:List AV),(∀o,A o→o<B.next)→ARs ⟨[],A,B⟩ p g →
  ∃(C:LV) (m:Nat) (D:AV) (j:Nat→Prop) (z:Heap),E C∧C.dat=true∧Qt P (OL P) m (.fn f) g B=.ok D z∧B.next≤z.next∧(∀o,A o→j o)∧(∀o,j o→o<z.next∧(A o∨B.next≤o))∧(∀o,o<B.next→z.get o=B.get o)∧AR ⟨[],j,z⟩ C D
section calls
variable {P : Program}
def xd.mk{f:Nat}{args:List LV}{S:LV→Prop}(h:Qq P (.fn f) args [] λv G=>∃v0,S v0∧v0.dat=true∧Np G v v0):xd P f args S:=by
 refine⟨h.1,λFz H gg gB ha=>?_⟩;obtain⟨m,v1,H',q1,c1,v,G,rfl,q3,q4,q5,v0,hS,hd,q6⟩:=h.2 ⟨[],Fz,H⟩ (.fn f) gg (.empty gB) rfl ha;have gA:∀o,¬Ow ⟨[],Fz,H⟩ [] o:=λo ⟨gC,_,_,_,e,_⟩=>Bt
 refine⟨v0,m,v1,_,c1.H,hS,hd,q1,q4.nx,λo p=>.inl (q4.le.fz o p).1,λo p=>⟨p.elim (q3.fz o) (q3.lt o),?_⟩,λo p=>q4.frame o p (gA o),zvq q3 v v0 v1 q6 q5⟩;rcases p with p|p
 ·rcases q4.fznew o p with h|h|h
  ·exact .inl h
  ·exact absurd h (gA o)
  ·exact .inr h
 ·rcases q4.new o p with h|h
  ·exact absurd h (gA o)
  ·exact .inr h
def dz{f:Nat}(F:xd P f G vP)(H:dats G=true)(k:∀j,vP j→j.dat=true→Q j L):Qq P (.fn f) G L Q:=by
 obtain⟨I,z⟩:=F;refine⟨I,λc K g D A M=>?_⟩;cases K with
 |yield o=>exact A.elim
 |fn gg =>
  obtain rfl:f=gg:=A;obtain⟨j,m,E,p,B,N,hd,O,R,S,T,V,X⟩:=z c.Fz c.H g D.fz (ARs.dat (c:=c) (c':=⟨[],c.Fz,c.H⟩) (λo C=>⟨C,rfl⟩) G g H M);obtain⟨Y,Z⟩:=zne D R S T V;exact⟨m,E,B,O,⟨c.hd,p,B⟩,j,L,rfl,Y,Z,AR.dat (c:=⟨[],p,B⟩) (c':=⟨c.hd,p,B⟩) (λo C=>⟨C,rfl⟩) j E hd X,k j N hd⟩
end calls
end
def lu{n:Nat}(h:n<18446744073709551616):(iU (n:Int)).toNat=n:=by
 rw[ky,UInt64.ofInt,Jn];omega
def val:List UInt64→Nat
 |[]=>0
 |x::l=>x.toNat+18446744073709551616*val l
def opened:(∀a b,S1 a b=a+b)∧(∀a b,Z2 a b=a-b)∧(∀a b,R3 a b=a*b):=⟨zki,zp2,zje⟩

def te(a b:UInt64):UInt64:=UInt64.ofNat (a.toNat*b.toNat/18446744073709551616)
def fk(x:UInt64):(x &&& 4294967295).toNat=x.toNat%4294967296:=by
 rw[UInt64.toNat_and];exact Nat.and_two_pow_sub_one_eq_mod x.toNat 32
def qg(a b:UInt64) :
  S1 (S1 (R3 (Pb a 32) (Pb b 32)) (Pb (S1 (R3 (Pb a 32) (Q6 b 4294967295)) (Pb (R3 (Q6 a 4294967295) (Q6 b 4294967295)) 32)) 32)) (Pb (S1 (R3 (Q6 a 4294967295) (Pb b 32)) (Q6 (S1 (R3 (Pb a 32) (Q6 b 4294967295)) (Pb (R3 (Q6 a 4294967295) (Q6 b 4294967295)) 32)) 4294967295)) 32)=te a b:=by
 simp only[zki,zje,zoo,zvl];apply J7.1;have C:=a.toNat_lt;have D:=b.toNat_lt;simp only[te,UInt64.toNat_add,UInt64.toNat_mul,Jn,fk,Nat.reducePow];generalize a.toNat=x at *;generalize b.toNat=y at *;have g:x=x/4294967296*4294967296+x%4294967296:=J
 have j:y=y/4294967296*4294967296+y%4294967296:=J
 have E:x/4294967296<4294967296:=J
 have F:x%4294967296<4294967296:=J
 have G:y/4294967296<4294967296:=J
 have H:y%4294967296<4294967296:=J
 have p:x/4294967296%18446744073709551616=x/4294967296:=J
 have z:y/4294967296%18446744073709551616=y/4294967296:=J
 rw[p,z];have A:x*y=(x/4294967296*(y/4294967296))*18446744073709551616+(x/4294967296*(y%4294967296))*4294967296+(x%4294967296*(y/4294967296))*4294967296+x%4294967296*(y%4294967296):=by
  generalize x/4294967296=B at *;generalize x%4294967296=q at *;generalize y/4294967296=r at *;generalize y%4294967296=s at *;subst g j
  grind
 rw[A];generalize x/4294967296=B at *;generalize x%4294967296=q at *;generalize y/4294967296=r at *;generalize y%4294967296=s at *;have I:B*r≤4294967295*4294967295:=Kl J J;have K:B*s≤4294967295*4294967295:=Kl J J;have L:q*r≤4294967295*4294967295:=Kl J J;have M:q*s≤4294967295*4294967295:=Kl J J;generalize B*r=N at *;generalize B*s=O at *;generalize q*r=P at *;generalize q*s=Q at *;clear g j p z E F G H C D A;omega
def wu(v:UInt64)(s:Nat):(Pb v s).toNat=v.toNat/2^s:=by
 have h:=v.toNat_lt;have:v.toNat/2^s≤v.toNat:=Nat.div_le_self _ _;rw[zoo,Jn,Ju J]


def Mi{l:List LV}{i:Nat}{v:LV}(h:l[i]?=some v):Om l i vP=vP v:=by simp[Om,h]
def Pf{f:v9→LV}{l:List v9}{i:Nat}{a:v9}(h:l[i]?=some a):(l.map f)[i]?=some (f a):=Cq
mutual
def bor_self{G:Mh}(v:LV)(h:v.dat=true):bor G v v:=by
 cases v with
 |agg l=>simp only[LV.dat]at h;exact⟨l,rfl,bors_self l h⟩
 |nilSl=>exact .inl rfl
 |dy p k=>simp[LV.dat]at h
 |vw p k lo len=>simp[LV.dat]at h
 |_=>exact⟨rfl,h⟩
termination_by SizeOf.sizeOf v
def bors_self{G:Mh}(l:List LV)(h:dats l=true):bors G l l:=by
 cases l with
 |nil=>rfl
 |cons v l =>
  simp only[dats,Hh]at h;exact⟨v,l,rfl,bor_self v h.1,bors_self l h.2⟩
termination_by SizeOf.sizeOf l
end
def Vm(p:v9→Bool)(l:List v9):Int:=if l.findIdx p<l.length then (l.findIdx p:Int) else -1
def zvb{j:v9→Bool}{l:List v9}{i:Nat}{a:v9}(h:l[i]?=some a)(z:j a=true)(A:∀p b,p<i→l[p]?=some b→j b=false):Vm j l=i:=by
 obtain⟨g,rfl⟩:=Hf.1 h;have:l.findIdx j=i:=(List.findIdx_eq g).2 ⟨z,λp B=>A p _ B (Hj _)⟩;rw[Vm,this,Hs g]
def zk0{j:v9→Bool}{l:List v9}{i:Nat}(A:l.length≤i)(p:∀g b,g<i→l[g]?=some b→j b=false):Vm j l=-1:=by
 have:l.findIdx j=l.length:=List.findIdx_eq_length.2 λa z=>by
  obtain⟨g,B,rfl⟩:=Jv.1 z;exact p g _ J (Hj _)
 rw[Vm,this,Hq J]
def znt(p:v9→Bool)(l:List v9):decide (0≤Vm p l)=l.any p:=by
 unfold Vm;by_cases h:l.findIdx p<l.length
 ·rw[Hs h,Ke J];exact (Jh.2 ⟨_,Ky h,List.findIdx_getElem⟩).symm
 ·rw[Hq h,Ly J];have g:=List.findIdx_eq_length.1 (Cz:l.findIdx p=l.length);exact (Md.2 λx j=>by simp[g x j]).symm
def U7(l:List Int)(j:Nat)(x:Int)(h:j<l.length):M5 (l.map .i) j [.i x]=(l.set j x).map .i:=by
 unfold M5;rw[I5,Hs h];simp[Me,List.map_drop]
def gd(l:List Int)(u:Nat):Int:=l.getD u 0
def ar(l:List Int)(j u:Nat)(x:Int)(h:j<l.length):gd (l.set j x) u=if u=j then x else gd l u:=by
 simp only[gd,Hr,Ks];by_cases e:j=u
 ·subst e;simp[h]
 ·simp[e,Ne.symm e]
def Po{l:List Int}{u:Nat}(h:u<l.length):l[u]?=some (gd l u):=by simp[gd,Hr,h]
def ay(l:List Int)(g:Nat):List Int:=(l.set g (gd l (g-1))).set (g-1) (gd l g)
def zk8{l:List Int}{u:Nat}(j:0<g)(h:g<l.length):gd (ay l g) u=if u=g then gd l (g-1) else if u=g-1 then gd l g else gd l u:=by
 unfold ay;rw[ar _ _ _ _ Ab,ar _ _ _ _ h];by_cases e:u=g
 ·subst e;rw[Hq J];simp
 ·simp[e]
def mb(l:List Int)(m:Nat):Prop:=∀u v,u<v→v<m→gd l u<gd l v
structure Cmp (l0 l:List Int) (m d:Nat):Prop where
 len:l.length=l0.length
 m1:1≤m
 md:m≤d
 st:mb l m
 mem:∀x,(∃u,u<m∧gd l u=x)↔∃u,u<d∧gd l0 u=x
 last:gd l (m-1)=gd l0 (d-1)
 rest:∀u,d-1≤u→gd l u=gd l0 u∨u<m
def X3{a r:List LV}{m:Nat}(h:m≤a.length):(M5 a m r).take m=a.take m:=by
 unfold M5;rw[H7,K0 Bb,Km,Nat.min_self]
def zs6{a r:List LV}{m:Nat}(h:m+r.length=a.length):(M5 a m r).length=a.length:=by
 unfold M5;simp;omega
def zq9{v:LV}(h:v.dat=true):∀n,dats (M7 [v] n)=true
 |0=>rfl
 |n+1=>by simp[M7,dats,h,zq9 h n]
def zqe{j:Type}{f:j→List LV}{k:Nat}(g:∀a,(f a).length=k):∀l:List j,(l.flatMap f).length=l.length*k
 |[]=>U
 |a::l=>by rw[Jy,Hv,zqe g l,g,Ie,Ih];omega
def sy{j:Type}{f:j→List LV}{k:Nat}(g:∀a,(f a).length=k):∀(l:List j) (i:Nat),(l.flatMap f).drop (i*k)=(l.drop i).flatMap f
 |_,0=>U
 |[],i+1=>U
 |a::l,i+1=>by
  rw[Jy,List.drop_append,g,(C5:(i+1)*k-k=i*k),sy g l i];rw[Il (by rw[g,Ih];omega)];rfl
def ld{f:v9→List LV}{k:Nat}(g:∀a,(f a).length=k){l:List v9}{i:Nat}{a:v9}(h:l[i]?=some a):((l.flatMap f).drop (i*k)).take k=f a:=by
 rw[sy g];obtain⟨j,rfl⟩:=Hf.1 h;rw[If j,Jy,K0 (by rw[g];exact Hm _),Hz (by rw[g];exact Hm _)]
def Sy{f:v9→List LV}{k:Nat}(g:∀a,(f a).length=k){l:List v9}{i:Nat}{a:v9}(h:l[i]?=some a){j:Nat}(p:j<k):(l.flatMap f)[i*k+j]?=(f a)[j]?:=by
 rw[←J9,←ld g h,Ij p]
def mh{j:Type}{f:j→List LV}(g:∀a,dats (f a)=true):∀l:List j,dats (l.flatMap f)=true
 |[]=>rfl
 |a::l=>by rw[Jy];exact dats_app (g a) (mh g l)
def uf{f:v9→List LV}{k:Nat}(g:∀a,(f a).length=k){l:List v9}{i:Nat}(h:i<l.length):i*k+k≤(l.flatMap f).length:=by
 rw[zqe g,←Nat.succ_mul];exact Hy _ h
structure Vr where
 limbs:Int
 sec:Bool
 mode:Int
structure Ko where
 kind:Int
 d:Int
 e:Int
 a:Int
 b:Int
 c:Int
 imm:UInt64
def Vr.f(v:Vr):List LV:=[.i v.limbs,.bool v.sec,.i v.mode]
def Ko.f(o:Ko):List LV:=[.i o.kind,.i o.d,.i o.e,.i o.a,.i o.b,.i o.c,.u o.imm]
def Mz(l:List Vr):List LV:=l.flatMap Vr.f
def M6(l:List Ko):List LV:=l.flatMap Ko.f
def Vr.f_len(v:Vr):v.f.length=3:=rfl
def Ko.f_len(o:Ko):o.f.length=7:=rfl
def ib(l:List Ko):(M6 l).length=l.length*7:=zqe Ko.f_len l
def On(l:List Vr):dats (Mz l)=true:=mh (λ_=>rfl) l
def Sk(l:List Ko):dats (M6 l)=true:=mh (λ_=>rfl) l
def U3{l:List Vr}{i:Nat}{v:Vr}(h:l[i]?=some v):((Mz l).drop (i*3)).take 3=v.f:=ld Vr.f_len h
def Wt{l:List Ko}{i:Nat}{v:Ko}(h:l[i]?=some v):((M6 l).drop (i*7)).take 7=v.f:=ld Ko.f_len h
def fg{l:List Vr}{i:Nat}{v:Vr}(h:l[i]?=some v):(Mz l)[i*3]?=some (.i v.limbs):=by have:=Sy Vr.f_len h (j:=0) J;simpa [Mz,Vr.f] using this
def nk{l:List Vr}{i:Nat}{v:Vr}(h:l[i]?=some v):(Mz l)[i*3+1]?=some (.bool v.sec):=by have:=Sy Vr.f_len h (j:=1) J;simpa [Mz,Vr.f] using this
def kt{l:List Vr}{i:Nat}{v:Vr}(h:l[i]?=some v):(Mz l)[i*3+2]?=some (.i v.mode):=by have:=Sy Vr.f_len h (j:=2) J;simpa [Mz,Vr.f] using this
def S2{l:List Vr}{i:Nat}(h:i<l.length):i*3+3≤(Mz l).length:=uf Vr.f_len h
def Wf{l:List Ko}{i:Nat}(h:i<l.length):i*7+7≤(M6 l).length:=uf Ko.f_len h
def gv(l:List Vr)(n:Nat):Vr:=l.getD n ⟨0,false,0⟩
def go(l:List Ko)(n:Nat):Ko:=l.getD n ⟨0,0,0,0,0,0,0⟩
def gb(l:List Bool)(n:Nat):Bool:=l.getD n false
def P8{l:List Vr}{n:Nat}(h:n<l.length):l[n]?=some (gv l n):=by simp[gv,Hr,h]
def Rl{l:List Ko}{n:Nat}(h:n<l.length):l[n]?=some (go l n):=by simp[go,Hr,h]
def u7{l:List Bool}{n:Nat}(h:n<l.length):l[n]?=some (gb l n):=by simp[gb,Hr,h]
def tl{l:List Vr}{n:Nat}(h:n<l.length):l.drop n=gv l n::l.drop (n+1):=by
 rw[If h];congr 1;have:=P8 h;rw[Hj h]at this;exact Option.some.inj this
def iy{l:List Ko}{n:Nat}(h:n<l.length):l.drop n=go l n::l.drop (n+1):=by
 rw[If h];congr 1;have:=Rl h;rw[Hj h]at this;exact Option.some.inj this
def Oo(v:Vr):Bool:=decide (v.mode=1) || decide (v.mode=2)
def Qw(v:Vr):Bool:=decide (v.limbs<1) || (decide (512<v.limbs) || (decide (v.mode<0) || decide (3<v.mode)))
def Oc:Nat→Nat→List Vr→Option Nat
 |_,g,[]=>some g
 |i,g,v::l=>if Qw v=true then none else if v.mode=0 then Oc (i+1) g l else if g<i∨v.sec=decide (v.mode=1) then none else Oc (i+1) (g+1) l
def O6(l:List Vr):Bool:=match Oc 0 0 l with
 |none=>false
 |some g=>decide (1≤l.length)&&(decide (l.length≤256)&&decide (g≤12))
def Q2(n:Nat)(v:Int):Bool:=decide (0≤v)&&decide (v<n)
def Qg(n:Nat)(o:Ko):Bool :=
 decide (o.d=-1)&&(decide (o.e=-1)&&(decide (o.c=-1)&&(Q2 n o.a&&(if o.imm=2 then Q2 n o.b else (decide (o.imm=1) || decide (o.imm=3))&&decide (o.b=-1)))))
def N6(k:Int):Option Nat :=
 if k=1 then some 1 else if k=2 then some 5 else if k=3∨k=4∨k=5∨k=6∨k=7 then some 13 else if k=8∨k=10∨k=11∨k=12∨k=13 then some 29 else if k=9 then some 21 else if k=14 then some 19 else if k=15∨k=16 then some 0 else none
def Pv(o:Ko):Bool:=if o.kind=1 then true else if o.kind=13 then decide (1≤o.imm)&&decide (o.imm≤6) else if o.kind=15 then decide (1≤o.imm)&&decide (o.imm≤4096) else decide (o.imm=0)
def P9(n s i:Nat)(v:Int):Bool:=if s.testBit i=true then Q2 n v else decide (v=-1)
def Ry(n s:Nat)(o:Ko):Bool:=P9 n s 0 o.d&&(P9 n s 1 o.e&&(P9 n s 2 o.a&&(P9 n s 3 o.b&&P9 n s 4 o.c)))
def Q4(o:Ko):List Int:=[o.a,o.b,o.c].filter (λv=>!decide (v<0))++if o.kind=14 then [o.d,o.e] else []
def Nw(g:List Vr)(o:Ko):Bool:=(Q4 o).any λv=>(gv g v.toNat).sec
def Q1(j:List Vr)(g:Bool)(v:Int):Bool:=decide (v<0) || !(Oo (gv j v.toNat) || (g && !(gv j v.toNat).sec))
def Pd(o:Ko):List Int :=
 if o.kind=6 then [o.a,o.b] else if o.kind=14 then [o.d,o.e] else if o.kind=8 then [o.d,o.a,o.b] else if o.kind=9 then [o.d,o.c] else if o.kind=10∨o.kind=11∨o.kind=12 then [o.d,o.a,o.b,o.c] else if o.kind=13 then [o.d,o.a,o.c] else []
def Pr(vs:List Vr)(v:Int):Int:=(gv vs v.toNat).limbs
def bf(g:List Vr)(o:Ko):Bool:=(Pd o).all λv=>decide (Pr g v=Pr g ((Pd o).headD 0))
def Nb(g:List Vr)(o:Ko):Bool :=
 if o.kind=17 then Qg g.length o else match N6 o.kind with
 |none=>false
 |some s=>Pv o&&(Ry g.length s o&&(Q1 g (Nw g o) o.d&&(Q1 g (Nw g o) o.e&&((decide (o.e<0) || !decide (o.d=o.e))&&bf g o))))
def dl(k:Int):Int:=if k=15 then 1 else if k=16 then -1 else 0
def Rv(m:List Bool)(o:Ko):List Bool:=if 0≤o.d then m.set o.d.toNat true else m
def Va(m:List Bool)(o:Ko):Bool:=(Q4 o).all λv=>gb m v.toNat
def Oz(vs:List Vr):List Bool→Int→List Ko→Option (List Bool×Int)
 |m,g,[]=>some (m,g)
 |m,g,o::l=>if (Nb vs o&&(Va m o&&(decide (0≤g+dl o.kind)&&decide (g+dl o.kind≤4))))=true then Oz vs (Rv m o) (g+dl o.kind) l else none
def Qa(g:List Vr)(v:Int):Bool:=decide (0≤v)&&decide ((gv g v.toNat).mode=3)
def Oi(g:List Vr)(o:Ko):Bool:=decide (o.kind=17)&&(Qg g.length o&&(!Qa g o.a && !Qa g o.b))
def Ue(g:List Vr)(m:List Bool):Bool:=(List.range g.length).all λi=>!decide ((gv g i).mode=3) || gb m i
def Rp(g:List Vr):List Bool:=g.map Oo
def Mw(g:List Vr)(j p:List Ko):Bool :=
 O6 g&&(decide (j.length≤4096)&&(decide (p.length≤4096)&&(p.all (Oi g)&&(match Oz g (Rp g) 0 j with
  |none=>false
  |some (m,z)=>Ue g m&&decide (z=0)))))
def Nr(g:List Vr)(j p:List Ko):Int:=if Mw g j p=true then 0 else 2
def znd{p:Int→Bool}{l:List Int}{j:Nat}(h:j<l.length):(l.take (j+1)).filter (λv=>!p v)=(l.take j).filter (λv=>!p v)++if p (gd l j)=true then [] else [gd l j]:=by
 have e:l[j]=gd l j:=by simp[gd,Hr,h]
 rw[I8 h,List.filter_append,e]
 congr 1
 cases g:p (gd l j)<;>simp[g]
def zvu(p:Int→Bool)(l:List Int):(Vm p l=-1∧l.filter (λv=>!p v)=l)∨∃i:Nat,Vm p l=i∧i<l.length∧(l.take (i+1)).filter (λv=>!p v)=l.take i:=by
 unfold Vm;by_cases h:l.findIdx p<l.length
 ·rw[Hs h];refine .inr ⟨_,rfl,h,?_⟩;have j:p l[l.findIdx p]=true:=List.findIdx_getElem;have e:l[l.findIdx p]=gd l (l.findIdx p):=by simp[gd,Hr,h]
  rw[znd h,←e,Hs j,Ip,List.filter_eq_self];intro a g;obtain⟨B,z,rfl⟩:=Jv.1 g;rw[List.getElem_take];rw[H4]at z;have:=List.not_of_lt_findIdx (p:=p) (xs:=l) (i:=B) J;simpa using this
 ·rw[Hq h];refine .inl ⟨rfl,?_⟩;rw[List.filter_eq_self];intro a g;have A:=List.findIdx_eq_length.1 (Cz:l.findIdx p=l.length);simp[A a g]
def znr{c:List Int}{i j:Nat}{x:Int}(h:i<c.length)(g:i<j)(u:Nat)(hu:j≤u):gd (c.set i x) u=gd c u:=by
 rw[ar _ _ _ _ h,Hq J]
def zjb{c:List Int}{i:Nat}{x:Int}(h:i<c.length):(c.set i x).take (i+1)=c.take i++[x]:=by
 rw[I8 Ay,List.getElem_set_self,L4 (Hm _)]
def bm{n:Nat}{v:Int}:Q2 n v=true↔0≤v∧v<n:=by simp[Q2]
def yc{n s i:Nat}{v:Int}(h:P9 n s i v=true):v=-1∨(0≤v∧v<n):=by
 unfold P9 at h;split at h
 ·exact .inr (bm.1 h)
 ·exact .inl (K9 h)
def Ru{n s i:Nat}{v:Int}(h:P9 n s i v=true)(g:s.testBit i=true):0≤v∧v<n:=by
 rw[P9,Hs g]at h;exact bm.1 h
def zld{n s i:Nat}{v:Int}(h:P9 n s i v=true)(g:s.testBit i=false):v=-1:=by
 rw[P9,Hq A2]at h;exact K9 h
def zt{k:Int}{s:Nat}(h:N6 k=some s):(k=1∧s=1)∨(k=2∧s=5)∨((k=3∨k=4∨k=5∨k=6∨k=7)∧s=13)∨((k=8∨k=10∨k=11∨k=12∨k=13)∧s=29)∨(k=9∧s=21)∨(k=14∧s=19)∨((k=15∨k=16)∧s=0):=by
 unfold N6 at h
 repeat' split at h
 all_goals first|(cases h;done)|(cases h;simp_all)
structure PartsIn (n:Nat) (o:Ko):Prop where
 d:o.d=-1∨(0≤o.d∧o.d<n)
 e:o.e=-1∨(0≤o.e∧o.e<n)
 takes:∀v∈Q4 o,0≤v∧v<n
 alike:∀v∈Pd o,0≤v∧v<n
 swap:o.kind=14→o.a=-1∧o.b=-1
def zkl{n s:Nat}{o:Ko}(F:N6 o.kind=some s)(h:Ry n s o=true):PartsIn n o:=by
 simp only[Ry,Hh]at h;obtain⟨hd,D,A,B,C⟩:=h;have z:∀v∈[o.a,o.b,o.c].filter (λv=>!decide (v<0)),0≤v∧v<n:=by
  intro v g;obtain⟨p,G⟩:=L0.1 g;simp at G;simp only[Hu,Jm,Ln]at p;rcases p with rfl|rfl|rfl
  ·rcases yc A with e|e<;>omega
  ·rcases yc B with e|e<;>omega
  ·rcases yc C with e|e<;>omega
 have H:=zt F;refine⟨yc hd,yc D,λv g=>?_,λv g=>?_,λE=>?_⟩
 ·rcases Ib.1 g with p|p
  ·exact z v p
  ·split at p
   ·rename_i E;have j:s=19:=J
    subst j;simp only[Hu,Jm,Ln]at p;rcases p with rfl|rfl
    ·exact Ru hd An
    ·exact Ru D An
   ·cases p
 ·unfold Pd at g;split at g
  ·have j:s=13:=J
   subst j;simp only[Hu,Jm,Ln]at g;rcases g with rfl|rfl
   ·exact Ru A An
   ·exact Ru B An
  split at g
  ·have j:s=19:=J
   subst j;simp only[Hu,Jm,Ln]at g;rcases g with rfl|rfl
   ·exact Ru hd An
   ·exact Ru D An
  split at g
  ·have j:s=29:=J
   subst j;simp only[Hu,Jm,Ln]at g;rcases g with rfl|rfl|rfl
   ·exact Ru hd An
   ·exact Ru A An
   ·exact Ru B An
  split at g
  ·have j:s=21:=J
   subst j;simp only[Hu,Jm,Ln]at g;rcases g with rfl|rfl
   ·exact Ru hd An
   ·exact Ru C An
  split at g
  ·have j:s=29:=J
   subst j;simp only[Hu,Jm,Ln]at g;rcases g with rfl|rfl|rfl|rfl
   ·exact Ru hd An
   ·exact Ru A An
   ·exact Ru B An
   ·exact Ru C An
  split at g
  ·have j:s=29:=J
   subst j;simp only[Hu,Jm,Ln]at g;rcases g with rfl|rfl|rfl
   ·exact Ru hd An
   ·exact Ru A An
   ·exact Ru C An
  ·cases g
 ·have j:s=19:=J
  subst j;exact⟨zld A An,zld B An⟩
def zp4{n:Nat}{o:Ko}(D:o.kind=17)(h:Qg n o=true):PartsIn n o:=by
 simp only[Qg,Hh,Ht]at h;obtain⟨hd,A,E,p,j⟩:=h;have p:=bm.1 p;have j:o.b=-1∨(0≤o.b∧o.b<n):=by
  split at j
  ·exact .inr (bm.1 j)
  ·simp only[Hh,Ht]at j;exact .inl j.2
 refine⟨.inl hd,.inl A,λv g=>?_,λv g=>?_,λB=>J⟩
 ·unfold Q4 at g;rw[Hq J,Ip]at g;obtain⟨z,C⟩:=L0.1 g;simp at C;simp only[Hu,Jm,Ln]at z;rcases z with rfl|rfl|rfl
  ·omega
  ·rcases j with e|e<;>omega
  ·omega
 ·unfold Pd at g;rw[Hq J,Hq J,Hq J,Hq J,Hq J,Hq J]at g;cases g
def zto{g:List Vr}{o:Ko}(h:Nb g o=true):PartsIn g.length o:=by
 unfold Nb at h;split at h
 ·rename_i j;exact zp4 j h
 ·split at h
  ·cases h
  ·rename_i s p;simp only[Hh]at h;exact zkl p h.2.1
def Ny(o:Ko):List Int:=[o.d,o.e,o.a,o.b,o.c]
def zib{n s:Nat}{o:Ko}(h:∀g<5,P9 n s g (gd (Ny o) g)=true):Ry n s o=true:=by
 simp only[Ry,Hh];exact⟨h 0 J,h 1 J,h 2 J,h 3 J,h 4 J⟩
def zlm{n s:Nat}{o:Ko}(p:g<5)(h:P9 n s g (gd (Ny o) g)=false):Ry n s o=false:=by
 cases j:Ry n s o with
 |false=>rfl
 |true =>
  simp only[Ry,Hh]at j;have:g=0∨g=1∨g=2∨g=3∨g=4:=J
  rcases this with rfl|rfl|rfl|rfl|rfl
  ·exact absurd j.1 (by rw[show o.d=gd (Ny o) 0 from rfl,h];simp)
  ·exact absurd j.2.1 (by rw[show o.e=gd (Ny o) 1 from rfl,h];simp)
  ·exact absurd j.2.2.1 (by rw[show o.a=gd (Ny o) 2 from rfl,h];simp)
  ·exact absurd j.2.2.2.1 (by rw[show o.b=gd (Ny o) 3 from rfl,h];simp)
  ·exact absurd j.2.2.2.2 (by rw[show o.c=gd (Ny o) 4 from rfl,h];simp)
def zm0{k:Int}{s:Nat}(h:N6 k=some s):s<32:=by rcases zt h with h|h|h|h|h|h|h<;>omega
def zqd(s i:Nat):((s:Int)/2^i%2=1)↔s.testBit i=true:=by
 rw[Nat.testBit_eq_decide_div_mod_eq,Ht];constructor
 ·intro h;have:((s/2^i%2:Nat):Int)=1:=by push_cast;exact h
  omega
 ·intro h;have:((s/2^i%2:Nat):Int)=1:=J
  push_cast at this;exact this
variable{V:List Vr}
section
inductive Fr (α:Type) where
 |nil
 |op (o:α) (r:Fr α)
 |loop (o:α) (b:Fr α) (e:α) (r:Fr α)
section tree
variable {α : Type}
def Fr.flat:Fr α→List α
 |.nil=>[]
 |.op o r=>o::r.flat
 |.loop o b e r=>o::(b.flat++e::r.flat)
def Fr.size:Fr α→Nat
 |.nil=>0
 |.op _ r=>r.size+1
 |.loop _ b _ r=>b.size+r.size+2
def Fr.flat_len:∀f:Fr α,f.flat.length=f.size
 |.nil=>rfl
 |.op _ r=>by simp[flat,size,flat_len r]
 |.loop _ b _ r=>by simp[flat,size,flat_len b,flat_len r];omega
def Fr.wf(kd:α→Nat):Fr α→Prop
 |.nil=>True
 |.op o r=>kd o=0∧r.wf kd
 |.loop o b e r=>kd o=1∧kd e=2∧b.wf kd∧r.wf kd
def Ul(g:α→Nat):Nat→List α→Prop
 |d,[]=>d=0
 |d,o::l=>if g o=1 then Ul g (d+1) l else if g o=2 then 0<d∧Ul g (d-1) l else g o=0∧Ul g d l
def Vh{z:α→Nat}:∀(n:Nat) (l:List α) (d:Nat),l.length≤n→Ul z d l→∃(f:Fr α) (g:List α),f.wf z∧l=f.flat++g∧((d=0∧g=[])∨∃(e:α) (j:List α) (A:Nat),d=A+1∧g=e::j∧z e=2∧Ul z A j)
 |_,[],d,_,h=>⟨.nil,[],trivial,rfl,.inl ⟨h,rfl⟩⟩
 |n+1,o::l,d,K,h=>by
  have p:l.length≤n:=Cj
  unfold Ul at h;by_cases C:z o=1
  ·rw[Hs C]at h;obtain⟨f1,H,D,B,E⟩:=Vh n l (d+1) p h;rcases E with ⟨q,_⟩|⟨e,I,A,hd,rfl,L,M⟩
   ·omega
   obtain rfl:d=A:=J
   have F:I.length≤n:=by rw[B]at p;simp at p;omega
   obtain⟨f2,N,O,P,Q⟩:=Vh n I d F M;refine⟨.loop o f1 e f2,N,⟨C,L,D,O⟩,by rw[B,P];simp[Fr.flat],Q⟩
  ·rw[Hq C]at h;by_cases G:z o=2
   ·rw[Hs G]at h;exact⟨.nil,o::l,trivial,rfl,.inr ⟨o,l,d-1,J,rfl,G,h.2⟩⟩
   ·rw[Hq G]at h;obtain⟨f1,H,D,B,E⟩:=Vh n l d p h.2;exact⟨.op o f1,H,⟨h.1,D⟩,by rw[B];rfl,E⟩
def fu{g:α→Nat}{l:List α}(h:Ul g 0 l):∃f:Fr α,f.wf g∧l=f.flat:=by
 obtain⟨f,r,w,e,q⟩:=Vh l.length l 0 (Hm _) h;rcases q with ⟨_,rfl⟩|⟨_,_,_,h,_⟩
 ·exact⟨f,w,C8⟩
 ·omega
def Fr.ends:Nat→Fr α→List Int
 |_,.nil=>[]
 |i,.op _ r=>-1::r.ends (i+1)
 |i,.loop _ b _ r=>((i+b.size+1:Nat):Int)::(b.ends (i+1)++(i:Int)::r.ends (i+b.size+2))
def Fr.ends_len:∀(f:Fr α) (i:Nat),(f.ends i).length=f.size
 |.nil,_=>rfl
 |.op _ r,i=>by simp[ends,size,ends_len r]
 |.loop _ b _ r,i=>by simp[ends,size,ends_len b,ends_len r];omega
def T9(j:α→Nat):Nat→List Nat→List Int→List α→List Int
 |_,_,g,[]=>g
 |i,st,g,o::l=>if j o=1 then T9 j (i+1) (i::st) g l
  else if j o=2 then (match st with
   |[]=>T9 j (i+1) [] g l
   |a::p=>T9 j (i+1) p ((g.set i a).set a i) l)
  else T9 j (i+1) st g l
def zb5{z:α→Nat}:∀(f:Fr α) (i:Nat) (st:List Nat) (j g:List Int) (p:List α),f.wf z→j.length=i →
  T9 z i st (j++List.replicate f.size (-1)++g) (f.flat++p)=T9 z (i+f.size) st (j++f.ends i++g) p
 |.nil,i,st,j,g,p,_,_=>by simp[Fr.flat,Fr.size,Fr.ends]
 |.op o r,i,st,j,g,p,w,B=>by
  have h:=zb5 r (i+1) st (j++[-1]) g p w.2 Ad;have E:¬z o=1:=by rw[w.1];decide
  have F:¬z o=2:=by rw[w.1];decide
  simp only[Fr.flat,Fr.size,Fr.ends,I6,T9,E,F,L9,Jo];simp only[H7,I6,J2]at h ⊢;rw[h]
  congr 1;omega
 |.loop o b e r,i,st,j,g,p,w,B=>by
  obtain⟨G,H,I,K⟩:=w;have C:=zb5 b (i+1) (i::st) (j++[-1]) ([-1]++List.replicate r.size (-1)++g) (e::(r.flat++p)) I Ad;have D:=zb5 r (i+b.size+2) st (j++[((i+b.size+1:Nat):Int)]++b.ends (i+1)++[(i:Int)]) g p K (by simp[B,Fr.ends_len];omega);have L:List.replicate (b.size+r.size+2) (-1:Int)=[-1]++List.replicate b.size (-1)++([-1]++List.replicate r.size (-1)):=by
   rw[(J:b.size+r.size+2=1+b.size+(1+r.size)),←Kt,←Kt,←Kt];rfl
  simp only[Fr.flat,Fr.size,I6,T9,G,Kh];rw[L];simp only[H7,I6,J2]at C D ⊢;rw[C];simp only[T9,H,Kh];have A:((j++(-1:Int)::(b.ends (i+1)++(-1:Int)::(List.replicate r.size (-1)++g))).set (i+1+b.size) (i:Int)).set i ((i+1+b.size:Nat):Int)
    = j++((i+b.size+1:Nat):Int)::(b.ends (i+1)++(i:Int)::(List.replicate r.size (-1)++g)):=by
   rw[Jb _ _ J,Jb _ _ J,(J:i+1+b.size-j.length=b.size+1),(J:i-j.length=0),List.set_cons_succ,Lm,
    Jb _ _ (by rw[Fr.ends_len];exact Hm _),Fr.ends_len,Lf,Lm,(J:i+1+b.size=i+b.size+1)]
  rw[A,(J:i+1+b.size+1=i+b.size+2),D];simp only[Fr.ends,I6,H7];rw[(J:i+(b.size+r.size+2)=i+b.size+2+r.size)];simp[Nat.add_comm]
def Y9(g:α→Nat)(l:List α):List Int:=T9 g 0 [] (List.replicate l.length (-1)) l
def zj0{g:α→Nat}{f:Fr α}(w:f.wf g):Y9 g f.flat=f.ends 0:=by
 have h:=zb5 f 0 [] [] [] [] w rfl;simp only[Ip,J2,T9]at h;rw[Y9,Fr.flat_len,h]
end tree
def Pe(o:Ko):Nat:=if o.kind=15 then 1 else if o.kind=16 then 2 else 0
def tn{vs:List Vr}:∀(l:List Ko) (m j:List Bool) (d:Nat),Oz vs m d l=some (j,0)→Ul Pe d l
 |[],m,j,d,h=>by
  unfold Oz at h;cases h;unfold Ul;rfl
 |o::l,m,j,d,h=>by
  unfold Oz at h;split at h
  ·rename_i z;simp only[Hh,Ht]at z;obtain⟨_,_,A,B⟩:=z;unfold Ul;by_cases g:o.kind=15
   ·rw[Hs (by simp[Pe,g])];rw[dl,Hs g]at h;exact tn l _ j (d+1) Ay
   ·rw[Hq (by simp[Pe,g];split<;>simp)];by_cases p:o.kind=16
    ·rw[Hs (by simp[Pe,p])];rw[dl,Hq g,Hs p]at h A;refine⟨J,tn (vs:=vs) l (Rv m o) j (d-1) ?_⟩;rw[(J:((d-1:Nat):Int)=(d:Int)+-1)];exact h
    ·rw[Hq (by simp[Pe,g,p])];rw[dl,Hq g,Hq p]at h;exact⟨by simp[Pe,g,p],tn l _ j d Ay⟩
  ·cases h
end
abbrev Sp:=Int×Int
def Rc(o:Ko)(v:Int):Bool:=[o.d,o.e,o.a,o.b,o.c].any λx=>decide (x=v)
def Vd(v:Int):Nat→Sp→List Ko→Sp
 |_,s,[]=>s
 |i,s,o::l=>Vd v (i+1) (if Rc o v=true then (if s.1<0 then (i:Int) else s.1,(i:Int)) else s) l
def Wb(g q:Sp):Bool:=decide (g.1≤q.2)&&decide (q.1≤g.2)
def Wx(g q:Sp):Sp:=(min g.1 q.1,max g.2 q.2)
def Tk(s g:Sp):Sp:=if (!decide (s.1<0)&&Wb s g)=true then Wx s g else s
def Sg(s:Sp)(g:List Sp):Sp:=g.foldl Tk s
def Fr.tops{α:Type}:Nat→Fr α→List Sp
 |_,.nil=>[]
 |i,.op _ r=>r.tops (i+1)
 |i,.loop _ b _ r=>((i:Int),((i+b.size+1:Nat):Int))::r.tops (i+b.size+2)
def ap(g:List Ko)(j:List Sp)(v:Nat)(x:Vr):Sp:=if 0<x.mode then (0,(g.length:Int)) else Sg (Vd v 0 (-1,-1) g) j
def Qs(g:List Ko)(j:List Sp):Nat→List Vr→List Sp
 |_,[]=>[]
 |v,x::l=>ap g j v x::Qs g j (v+1) l
def zia(g:List Ko)(j:List Sp):∀(l:List Vr) (v:Nat),(Qs g j v l).length=l.length
 |[],_=>rfl
 |_::l,v=>by simp[Qs,zia g j l]
def wideG_keep:∀(z:List Sp) (s:Sp),(0≤s.1→0≤(Sg s z).1∨∃j∈z,j.1<0)∧(Sg s z).1≤s.1∧s.2≤(Sg s z).2∧(s.1<0→Sg s z=s)
 |[],s=>⟨λh=>.inl h,Jl _,Jl _,λ_=>rfl⟩
 |j::z,s=>by
  have e:Sg s (j::z)=Sg (Tk s j) z:=rfl;rw[e];obtain⟨p,A,B,C⟩:=wideG_keep z (Tk s j);by_cases D:(!decide (s.1<0)&&Wb s j)=true
  ·have E:Tk s j=Wx s j:=by rw[Tk,Hs D]
   rw[E]at p A B C ⊢;simp only[Wx]at p A B C ⊢;simp only[Hh,Ki,Kw]at D;refine⟨λh=>?_,J,J,λh=>J⟩;by_cases H:j.1<0
   ·exact .inr ⟨j,Jf ..,H⟩
   ·rcases p J with F|⟨r,G,g⟩
    ·exact .inl F
    ·exact .inr ⟨r,In _ G,g⟩
  ·have E:Tk s j=s:=by rw[Tk,Hq D]
   rw[E]at p A B C ⊢;refine⟨λh=>?_,A,B,C⟩;rcases p h with F|⟨r,G,g⟩
   ·exact .inl F
   ·exact .inr ⟨r,In _ G,g⟩
def Ng(g:Sp):List LV:=[.i g.1,.i g.2]
def Mu(l:List Sp):List LV:=l.flatMap Ng
def se(l:List Sp):(Mu l).length=l.length*2:=zqe (f:=Ng) (k:=2) (λ_=>rfl) l
def ul(l:List Sp):dats (Mu l)=true:=mh (f:=Ng) (λ_=>rfl) l
def zoa(a b:List Sp):Mu (a++b)=Mu a++Mu b:=E7
def gs(l:List Sp)(n:Nat):Sp:=l.getD n (0,0)
def Uh{l:List Sp}{n:Nat}(h:n<l.length):l[n]?=some (gs l n):=by simp[gs,Hr,h]
def zur{l:List Sp}{i:Nat}{v:Sp}(h:l[i]?=some v):((Mu l).drop (i*2)).take 2=[.i v.1,.i v.2]:=ld (f:=Ng) (λ_=>rfl) h
def Yu{l:List Sp}{i:Nat}{v:Sp}(h:l[i]?=some v):(Mu l)[i*2]?=some (.i v.1):=by have:=Sy (f:=Ng) (k:=2) (λ_=>rfl) h (j:=0) J;simpa [Mu,Ng] using this
def X1{l:List Sp}{i:Nat}{v:Sp}(h:l[i]?=some v):(Mu l)[i*2+1]?=some (.i v.2):=by have:=Sy (f:=Ng) (k:=2) (λ_=>rfl) h (j:=1) J;simpa [Mu,Ng] using this
def zb{l:List Sp}{i:Nat}(h:i<l.length):i*2+2≤(Mu l).length:=uf (f:=Ng) (λ_=>rfl) h
def eh{l:List Sp}{n:Nat}(h:n<l.length):l.drop n=gs l n::l.drop (n+1):=by
 rw[If h];congr 1;have:=Uh h;rw[Hj h]at this;exact Option.some.inj this
structure Left (os:List Ko) (es:List Int) (T0:List Sp) (i:Nat) (r:Fr Ko) (T:List Sp):Prop where
 os:os.drop i=r.flat
 es:es.drop i=r.ends i
 wf:r.wf Pe
 tops:T0=T++r.tops i
def Left.len{os:List Ko}{es:List Int}{T0:List Sp}{i:Nat}{r:Fr Ko}{T:List Sp}(h:Left os es T0 i r T)(hi:i≤os.length):os.length=i+r.size:=by
 have:=congrArg List.length h.os;rw[Iw,Fr.flat_len]at this;omega
def Left.op{os:List Ko}{es:List Int}{T0:List Sp}{i:Nat}{o:Ko}{r:Fr Ko}{T:List Sp}(h:Left os es T0 i (.op o r) T):os[i]?=some o∧o.kind≠15∧Left os es T0 (i+1) r T:=by
 obtain⟨h1,h2,h3,h4⟩:=h;have e1:os[i]?=some o:=by
  have:=congrArg (λl:List Ko=>l[0]?) h1;simpa [Fr.flat] using this
 refine⟨e1,λhk=>?_,?_,?_,h3.2,h4⟩
 ·have:=h3.1;simp[Pe,hk]at this
 ·rw[←Kg,h1];rfl
 ·rw[←Kg,h2];rfl
def Left.loop{os:List Ko}{es:List Int}{T0:List Sp}{i:Nat}{o e:Ko}{b r:Fr Ko}{T:List Sp}(h:Left os es T0 i (.loop o b e r) T) :
  os[i]?=some o∧o.kind=15∧es[i]?=some ((i+b.size+1:Nat):Int)∧Left os es T0 (i+b.size+2) r (T++[((i:Int),((i+b.size+1:Nat):Int))]):=by
 obtain⟨h1,h2,h3,h4⟩:=h;have e1:os[i]?=some o:=by
  have:=congrArg (λl:List Ko=>l[0]?) h1;simpa [Fr.flat] using this
 have e2:es[i]?=some ((i+b.size+1:Nat):Int):=by
  have:=congrArg (λl:List Int=>l[0]?) h2;simpa [Fr.ends] using this
 refine⟨e1,?_,e2,?_,?_,h3.2.2.2,?_⟩
 ·have:=h3.1;unfold Pe at this;split at this
  ·assumption
  ·split at this<;>cases this
 ·rw[(J:i+b.size+2=i+(b.size+2)),←Kg,h1];simp only[Fr.flat];rw[(J:b.size+2=(b.size+1)+1),Ku,←Kg,←Fr.flat_len b,List.drop_left,Ku,Jd]
 ·rw[show es.drop (i+b.size+2)=(es.drop i).drop (b.size+2) by rw[Kg];congr 1,h2];simp only[Fr.ends];rw[show (b.size+2:Nat)=(b.size+1)+1 from rfl,Ku,←Kg];have:(b.ends (i+1)).length=b.size:=Fr.ends_len b (i+1);rw[List.drop_left' this,Ku,Jd,Iu]
 ·rw[h4];simp[Fr.tops]
def U5(k d:Int):Ko:=⟨k,d,-1,-1,-1,-1,0⟩
def S6:Nat→List Vr→List Ko
 |_,[]=>[]
 |i,v::l=>if Oo v=true then S6 (i+1) l else U5 1 i::S6 (i+1) l
def startOs_len:∀(l:List Vr) (i:Nat),(S6 i l).length≤l.length
 |[],_=>by simp[S6]
 |v::l,i=>by
  have:=startOs_len l (i+1);unfold S6;split<;>simp<;>omega
def mo(k:Int):Bool:=decide (k=15) || decide (k=16)
def Qm(g:List Vr)(o:Ko):Bool:=!mo o.kind&&Mw g (S6 0 g++[o]) []
def ztw(z:List Vr):∀(A g:List Ko) (m j:List Bool) (d p:Int),Oz z m d A=some (j,p)→Oz z m d (A++g)=Oz z j p g
 |[],g,m,j,d,p,h=>Bw
 |o::A,g,m,j,d,p,h=>by
  unfold Oz at h;split at h
  ·rename_i B;rw[I6,Oz,Hs B];exact ztw z A g _ j _ p h
  ·cases h
def zuc{i:Nat}(h:i<V.length)(g:Oo (gv V i)=false):Nb V (U5 1 i)=true:=by
 have e:Q2 V.length (i:Int)=true:=bm.2 ⟨J,J⟩;have j:Nat.testBit 1 1=false:=An
 have p:Nat.testBit 1 2=false:=An
 have z:Nat.testBit 1 3=false:=An
 have A:Nat.testBit 1 4=false:=An
 simp[Nb,U5,N6,Pv,Ry,P9,e,Q1,g,Nw,Q4,bf,Pd,j,p,z,A]
def zve(m:List Bool)(i g:Nat)(j:i<m.length):gb (m.set i true) g=if g=i then true else gb m g:=by
 unfold gb;rw[Hr,Hr,Ks];by_cases h:i=g
 ·subst h;simp[j]
 ·rw[Hq h,Hq (λq=>h q.symm)]
def zda{g:List Vr}:∀(l:List Vr) (i:Nat) (m:List Bool),g.drop i=l→m.length=g.length→(∀j,j<i→gb m j=true)→(∀j,i≤j→j<g.length→gb m j=Oo (gv g j)) →
  ∃z,Oz g m 0 (S6 i l)=some (z,0)∧z.length=g.length∧∀j,j<g.length→gb z j=true
 |[],i,m,hd,B,C,D=>by
  have:g.length≤i:=Dn
  exact⟨m,rfl,B,λj E=>C j J⟩
 |v::l,i,m,hd,B,C,D=>by
  have G:i<g.length:=Dn
  have I:=tl G;rw[hd]at I;obtain⟨rfl,rfl⟩:=List.cons.inj I;unfold S6;by_cases F:Oo (gv g i)=true
  ·rw[Hs F];refine zda _ (i+1) m rfl B (λj E=>?_) (λj E p=>D j J p);by_cases e:j=i
   ·subst e;rw[D j (Hm _) G,F]
   ·exact C j J
  ·rw[Hq F];have H:Oo (gv g i)=false:=Cl
   have A:=zuc G H;have K:Va m (U5 1 i)=true:=by simp[Va,Q4,U5]
   obtain⟨z,L,M⟩:=zda (g.drop (i+1)) (i+1) (m.set i true) rfl D6 (λj E=>by
    rw[zve _ _ _ J];split
    ·rfl
    ·exact C j J) (λj E p=>by rw[zve _ _ _ J,Hq J];exact D j J p)
   refine⟨z,?_,M⟩;rw[Oz,Hs (by rw[A,K];simp[dl,U5])];have N:Rv m (U5 1 i)=m.set i true:=by simp[Rv,U5]
   rw[N];simpa [dl,U5] using L
def uq{vs:List Vr}(h:O6 vs=true):1≤vs.length∧vs.length≤256:=by
 unfold O6 at h;split at h
 ·cases h
 ·simp only[Hh,Ht]at h;omega
def vgo_limbs:∀(l:List Vr) (i B r:Nat),Oc i B l=some r→∀v∈l,1≤v.limbs∧v.limbs≤512∧0≤v.mode∧v.mode≤3
 |[],_,_,_,_,v,g=>Do
 |w::l,i,B,r,h,v,g=>by
  unfold Oc at h;split at h
  ·cases h
  ·rename_i z;have hw:1≤w.limbs∧w.limbs≤512∧0≤w.mode∧w.mode≤3:=by
    simp[Qw]at z;omega
   have j:∀p,Oc (i+1) p l=some r→1≤v.limbs∧v.limbs≤512∧0≤v.mode∧v.mode≤3:=λp A=>by
    rcases Hu.1 g with rfl|g
    ·exact hw
    ·exact vgo_limbs l _ _ r A v g
   split at h
   ·exact j _ h
   ·split at h
    ·cases h
    ·exact j _ h
def oz{vs:List Vr}(h:O6 vs=true):∀v∈vs,1≤v.limbs∧v.limbs≤512∧0≤v.mode∧v.mode≤3:=by
 unfold O6 at h;split at h
 ·cases h
 ·rename_i j g;exact vgo_limbs vs 0 0 j g
def bx{vs:List Vr}{i:Nat}(h:i<vs.length):gv vs i∈vs:=Im (P8 h)
def Zx{vs:List Vr}(h:O6 vs=true){v:Int}(g:0≤v)(j:v<vs.length):1≤Pr vs v∧Pr vs v≤512:=by
 have:=oz h _ (bx (vs:=vs) (i:=v.toNat) J);exact⟨this.1,this.2.1⟩
def Zs(g:List Vr)(o:Ko):Qm g o=(!mo o.kind&&(O6 g&&Nb g o)):=by
 unfold Qm;cases z:mo o.kind with
 |true=>rfl
 |false =>
  simp only[Ls,K7];unfold Mw;cases A:O6 g with
  |false=>rfl
  |true =>
   have K:=uq A;have F:=startOs_len g 0;obtain⟨m,G,L,B⟩:=zda g 0 (Rp g) rfl (by simp[Rp]) (λM E=>J) (λM _ E=>by
    unfold gb Rp;rw[Hr,Jp,P8 E];rfl)
   rw[ztw g _ _ _ _ _ _ G];have H:decide ((S6 0 g++[o]).length≤4096)=true:=Ke Ab;rw[H];simp only[K7,List.length_nil,List.all_nil,show decide (0≤4096)=true from rfl];have C:dl o.kind=0:=by simp[mo]at z;simp[dl,z.1,z.2]
   cases D:Nb g o with
   |false=>simp[Oz,D]
   |true =>
    have j:=zto D;have I:Va m o=true:=by
     unfold Va;rw[I7];intro v A;have:=j.takes v A;exact B _ J
    have hm:Ue g (Rv m o)=true:=by
     unfold Ue;rw[I7];intro i p;have p:=I9.1 p;have:gb (Rv m o) i=true:=by
      unfold Rv;split
      ·have:=j.d;rw[zve _ _ _ J];split
       ·rfl
       ·exact B i p
      ·exact B i p
     simp[this]
    simp[Oz,D,I,C,hm]
def So(k:Int):Bool:=(decide (1≤k)&&decide (k≤11)) || decide (k=14)
def zp5(n:Int):Int:=2*n+4*(n-n/2+1)
def V4(g:List Vr)(o:Ko):Int :=
 if (So o.kind&&Qm g o)=true then
  (if o.kind=5 then Pr g o.a+Pr g o.b else if o.kind=6 then zp5 (Pr g o.a) else if o.kind=9∨o.kind=10∨o.kind=11 then 2*(Pr g o.c+1) else 1)
 else 0
def kw(g:List Vr)(o:Ko):Int:=if (decide (o.kind=12)&&Qm g o)=true then Pr g o.c+2 else 0
def jx(g:List Vr)(o:Ko):Int:=if (decide (o.kind=13)&&Qm g o)=true then (3+2^o.imm.toNat)*Pr g o.c+Pr g o.b+1+(Pr g o.c+2) else 0
def zlt{o:Ko}{s:Nat}(h:Nb V o=true)(g:N6 o.kind=some s):Ry V.length s o=true∧Pv o=true∧bf V o=true:=by
 unfold Nb at h;split at h
 ·rename_i j;rw[j]at g;simp[N6]at g
 ·rw[g]at h;simp only[Hh]at h;exact⟨h.2.1,h.1,h.2.2.2.2.2⟩
def nh{o:Ko}{s:Nat}(h:Qm V o=true)(g:N6 o.kind=some s):O6 V=true∧Ry V.length s o=true∧Pv o=true∧bf V o=true:=by
 rw[Zs]at h;simp only[Hh]at h;exact⟨h.2.1,zlt h.2.2 g⟩
def zvv{n s:Nat}{o:Ko}(h:Ry n s o=true)(g:s.testBit 2=true):0≤o.a∧o.a<n:=by
 simp only[Ry,Hh]at h;exact Ru h.2.2.1 g
def zw5{n s:Nat}{o:Ko}(h:Ry n s o=true)(g:s.testBit 3=true):0≤o.b∧o.b<n:=by
 simp only[Ry,Hh]at h;exact Ru h.2.2.2.1 g
def vk{n s:Nat}{o:Ko}(h:Ry n s o=true)(g:s.testBit 4=true):0≤o.c∧o.c<n:=by
 simp only[Ry,Hh]at h;exact Ru h.2.2.2.2 g
def dk{n s:Nat}{o:Ko}(h:Ry n s o=true)(g:s.testBit 0=true):0≤o.d∧o.d<n:=by
 simp only[Ry,Hh]at h;exact Ru h.1 g
def eo(j:O6 V=true){v:Int}(h:0≤v∧v<V.length):∃k:Nat,v=k∧k<V.length∧(Mz V)[k*3]?=some (.i (Pr V v))∧1≤Pr V v∧Pr V v≤512:=by
 obtain⟨k,rfl⟩:=Hx h.1;have g:k<V.length:=J
 have:=Zx j h.1 h.2;exact⟨k,rfl,g,fg (P8 g),this⟩
abbrev TVr:={ n:Int // Q9 n }×Bool×{ n:Int // Q9 n }×Unit
abbrev TKo:={ n:Int // Q9 n }×{ n:Int // Q9 n }×{ n:Int // Q9 n }×{ n:Int // Q9 n }×{ n:Int // Q9 n }×{ n:Int // Q9 n }×UInt64×Unit
def vrT(e:TVr):Vr:=⟨e.1.1,e.2.1,e.2.2.1.1⟩
def m7(e:TKo):Ko:=⟨e.1.1,e.2.1.1,e.2.2.1.1,e.2.2.2.1.1,e.2.2.2.2.1.1,e.2.2.2.2.2.1.1,e.2.2.2.2.2.2.1⟩
def flat_vr:∀l:List TVr,l.flatMap (λx=>[LV.i x.1.1,LV.bool x.2.1,LV.i x.2.2.1.1])=Mz (l.map vrT)
 |[]=>rfl
 |x::l=>by rw[Jy,flat_vr l];rfl
def flat_ko:∀l:List TKo,l.flatMap (λx=>[LV.i x.1.1,LV.i x.2.1.1,LV.i x.2.2.1.1,LV.i x.2.2.2.1.1,LV.i x.2.2.2.2.1.1,LV.i x.2.2.2.2.2.1.1,LV.u x.2.2.2.2.2.2.1])=M6 (l.map m7)
 |[]=>rfl
 |x::l=>by rw[Jy,flat_ko l];rfl
def S3(g:List Vr)(o:Ko)(s i:Nat):Bool:=(List.range i).any λj=>s.testBit j&&((decide (2≤j) || decide (o.kind=14))&&(gv g (gd (Ny o) j).toNat).sec)
def vr{n s i:Nat}{v:Int}(h:P9 n s i v=true):s.testBit i=!decide (v<0):=by
 unfold P9 at h;split at h
 ·rename_i g;have:=bm.1 h;rw[g];simp;omega
 ·rename_i g;have:v=-1:=K9 h;subst this;simpa using g
def zmr(g:List Vr)(o:Ko)(s i:Nat):S3 g o s (i+1)=(S3 g o s i || (s.testBit i&&((decide (2≤i) || decide (o.kind=14))&&(gv g (gd (Ny o) i).toNat).sec))):=by
 simp[S3,List.range_succ,List.any_append]
def qf{o:Ko}{n s:Nat}(z:N6 o.kind=some s)(j:Ry n s o=true):S3 V o s 5=Nw V o:=by
 simp only[Ry,Hh]at j;obtain⟨hd,p,A,B,C⟩:=j;have g:o.kind=14→s=19:=λh=>by have:=zt z;omega
 rw[show (5:Nat)=0+1+1+1+1+1 by rfl];simp only[zmr];rw[show S3 V o s 0=false from rfl];rw[vr hd,vr p,vr A,vr B,vr C];have D:gd (Ny o) 0=o.d:=rfl;have E:gd (Ny o) (0+1)=o.e:=rfl;have F:gd (Ny o) (0+1+1)=o.a:=rfl;have G:gd (Ny o) (0+1+1+1)=o.b:=rfl;have H:gd (Ny o) (0+1+1+1+1)=o.c:=rfl;rw[D,E,F,G,H];unfold Nw Q4;rw[List.any_append,List.any_filter];by_cases k:o.kind=14
 ·have:=g k;subst this;have L:=Ru hd An;have M:=Ru p An;have I:decide (o.d<0)=false:=Ab
  have K:decide (o.e<0)=false:=Ab
  simp[k,I,K,Bool.or_comm,Bool.or_assoc]
 ·simp[k,Bool.or_assoc]
def Su(m:List Bool)(o:Ko)(i:Nat):Bool:=(List.range i).all λg=>!(!decide (gd (Ny o) g<0)&&(decide (2≤g) || decide (o.kind=14))) || gb m (gd (Ny o) g).toNat
def zkv(m:List Bool)(o:Ko)(i:Nat):Su m o (i+1)=(Su m o i&&(!(!decide (gd (Ny o) i<0)&&(decide (2≤i) || decide (o.kind=14))) || gb m (gd (Ny o) i).toNat)):=by
 simp[Su,List.range_succ,List.all_append]
def Zb{n:Nat}{m:List Bool}{o:Ko}(g:PartsIn n o):Su m o 5=Va m o:=by
 rw[show (5:Nat)=0+1+1+1+1+1 by rfl];simp only[zkv];rw[show Su m o 0=true from rfl];have j:gd (Ny o) 0=o.d:=rfl;have p:gd (Ny o) (0+1)=o.e:=rfl;have z:gd (Ny o) (0+1+1)=o.a:=rfl;have A:gd (Ny o) (0+1+1+1)=o.b:=rfl;have B:gd (Ny o) (0+1+1+1+1)=o.c:=rfl;rw[j,p,z,A,B];unfold Va Q4;rw[List.all_append,List.all_filter];by_cases k:o.kind=14
 ·have hd:=g.takes o.d (by simp[Q4,k]);have E:=g.takes o.e (by simp[Q4,k]);have C:decide (o.d<0)=false:=Ab
  have D:decide (o.e<0)=false:=Ab
  simp[k,C,D,Bool.and_comm,Bool.and_assoc]
 ·simp[k,Bool.and_assoc]

def Fr.once:Fr Ko→Prop
 |.nil=>True
 |.op _ r=>r.once
 |.loop o b _ r=>1≤o.imm.toNat∧b.once∧r.once
def wc{o:Ko}:Pe o=1↔o.kind=15:=Eh
def kd_2{o:Ko}:Pe o=2↔o.kind=16:=by
 unfold Pe;by_cases h:o.kind=15
 ·simp[h]
 ·by_cases g:o.kind=16<;>simp[h,g]
def zub{j:List Vr}:∀(l:List Ko) (m:List Bool) (d:Int) (r:List Bool×Int),Oz j m d l=some r→∀o∈l,Nb j o=true
 |[],_,_,_,_,o,g=>Do
 |x::l,m,d,r,h,o,g=>by
  unfold Oz at h;split at h
  ·rename_i p;simp only[Hh]at p;rcases Hu.1 g with rfl|g
   ·exact p.1
   ·exact zub l _ _ r h o g
  ·cases h
def zjj{z:List Vr}:∀(f:Fr Ko),f.wf Pe→(∀o∈f.flat,Nb z o=true)→f.once
 |.nil,_,_=>trivial
 |.op _ r,w,h=>zjj r w.2 λo A=>h o (In _ A)
 |.loop o b e r,w,h=>by
  obtain⟨B,F,C,D⟩:=w;refine⟨?_,zjj b C λx j=>h x (by simp[Fr.flat,j]),zjj r D λx j=>h x (by simp[Fr.flat,j])⟩;have g:=wc.1 B;have E:=h o (by simp[Fr.flat]);obtain⟨_,p,_⟩:=zlt (s:=0) E (by simp[N6,g]);simp[Pv,g]at p;have:=p.1;rw[UInt64.le_iff_toNat_le]at this;exact this
def d_in{o:Ko}(h:Nb V o=true)(g:o.kind≠17)(j:o.kind≠15)(p:o.kind≠16):0≤o.d∧o.d<V.length:=by
 unfold Nb at h;rw[Hq g]at h;split at h
 ·cases h
 ·rename_i s z;simp only[Hh]at h;have A:=zt z;refine dk h.2.1 ?_;rcases A with ⟨_,rfl⟩|⟨_,rfl⟩|⟨_,rfl⟩|⟨_,rfl⟩|⟨_,rfl⟩|⟨_,rfl⟩|⟨h,_⟩
  all_goals first|decide|omega

def af:List Bool→List Ko→Option (List Bool)
 |m,[]=>some m
 |m,o::l=>if Va m o=true then af (Rv m o) l else none
def Fr.deep:Fr Ko→Nat
 |.nil=>0
 |.op _ r=>r.deep
 |.loop _ b _ r=>max (1+b.deep) r.deep
def mkO_app:∀(a b:List Ko) (m:List Bool),af m (a++b)=match af m a with
  |none=>none
  |some g=>af g b
 |[],_,_=>rfl
 |o::a,b,m=>by
  simp only[I6,af];split
  ·exact mkO_app a b _
  ·rfl
def zw{G:List Vr}:∀(f:Fr Ko) (m:List Bool) (d:Int) (g:List Ko) (r:List Bool×Int),f.wf Pe→0≤d→d≤4→Oz G m d (f.flat++g)=some r→d+f.deep≤4∧∃B,af m f.flat=some B∧Oz G B d g=some r
 |.nil,m,d,g,r,_,_,C,h=>⟨by simp[Fr.deep];omega,m,rfl,h⟩
 |.op o f,m,d,g,r,w,D,C,h=>by
  have I:o.kind≠15:=λh=>by have:=w.1;simp[Pe,h]at this
  have K:o.kind≠16:=λh=>by have:=w.1;simp[Pe,h]at this
  simp only[Fr.flat,I6]at h;unfold Oz at h;split at h
  ·rename_i p;simp only[Hh]at p;rw[dl,Hq I,Hq K,Int.add_zero]at h;obtain⟨H,B,E,j⟩:=zw f _ d g r w.2 D C h;exact⟨H,B,by simp only[Fr.flat,af,p.2.1,Kh];exact E,j⟩
  ·cases h
 |.loop o b e f,m,d,g,r,w,D,C,h=>by
  obtain⟨L,M,N,O⟩:=w;have z:=wc.1 L;have F:=kd_2.1 M;simp only[Fr.flat,I6,H7]at h;unfold Oz at h;split at h
  ·rename_i p;simp only[Hh,Ht]at p;rw[dl,Hs z]at h;have hd:=p.2.2.2;rw[dl,Hs z]at hd;obtain⟨H,S,E,j⟩:=zw b _ (d+1) _ r N J hd h;unfold Oz at j;split at j
   ·rename_i A;simp only[Hh,Ht]at A;rw[dl,Hq J,Hs F,(J:d+1+-1=d)]at j;obtain⟨T,P,Q,R⟩:=zw f _ d g r O D C j;refine⟨by simp only[Fr.deep];omega,P,?_,R⟩;simp only[Fr.flat,af,p.2.1,Kh];rw[mkO_app,E];simp only[af,A.2.1,Kh];exact Q
   ·cases j
  ·cases h
def Xg{p C:List Ko}(h:Mw V p C=true):∃f:Fr Ko,f.wf Pe∧p=f.flat∧f.once∧(∀o∈f.flat,Nb V o=true)∧f.deep≤4∧∃j,af (Rp V) f.flat=some j∧Ue V j=true:=by
 unfold Mw at h;simp only[Hh,Ht]at h;obtain⟨F,G,H,I,g⟩:=h;split at g
 ·cases g
 ·rename_i m K z;simp only[Hh,Ht]at g;obtain⟨g,rfl⟩:=g;obtain⟨f,w,D⟩:=fu (tn p _ m 0 A4);subst D;have A:=zub _ _ _ _ z;obtain⟨L,j,E,B⟩:=zw f (Rp V) 0 [] (m,0) w J J A4;have hm:j=m:=by
   unfold Oz at B;simpa using B
  subst hm;exact⟨f,w,rfl,zjj f w A,A,J,j,E,g⟩
def Fr.map{α:Type}(g:α→α):Fr α→Fr α
 |.nil=>.nil
 |.op o r=>.op (g o) (r.map g)
 |.loop o b e r=>.loop (g o) (b.map g) (g e) (r.map g)
def Vb(g:List Vr):List Nat:=(List.range g.length).filter λi=>Oo (gv g i)




def mj{j:Type}{f:j→List LV}{k:Nat}(g:∀a,(f a).length=k):∀(l:List j) (i:Nat),(l.flatMap f).take (i*k)=(l.take i).flatMap f
 |[],i=>U
 |a::l,0=>U
 |a::l,i+1=>by
  rw[Jy,List.take_succ_cons,Jy,Ih,La,List.take_append,Hz (by rw[g];omega),g,Ma,mj g l i]
end Go.Sv
