/- Texts of the evaluator, of the logic over it, of plain arithmetic. -/
import Derived.Test.YtmnciecehjcjhaaGreatSvG3
set_option linter.unusedSimpArgs false
set_option linter.defProp false
namespace Go.Sv
variable{g j A:Nat}
section
set_option linter.unusedSimpArgs false
set_option linter.unusedVariables false
section st
variable {kd : Int} {imm : UInt64} {d e a b c w : Pn} {R D : Nat}
def fx{q:Int}{R D:Int}(hd:d.k≤9):(Ut d q R D).stp≤100:=by
 have g:(Uo (Pb d 1 (d.k-1)).p R D).stp≤40*(1+1):=tb (by show ((d.k-1:Nat):Int)≤_;omega) Ac (by simp[Ym]);unfold Ut;simp only[stp_cat,Ym,Kh,Kz];omega
def exT_stp(p:ExP kd d e a b c w):(Zw kd imm d e a b c w R D).stp≤4000001:=by
 have P:=p.dk;have Q:=p.ak;have T:=p.bk;have U:=p.ck;have V:=p.wk;have z:∀q:Pn,0≤q.p.size:=λq=>K4 _
 have L:∀q:Pn,q.p.size=(q.k:Int):=λ_=>rfl
 unfold Zw zeF;rw[stp_cat,Ym];have:(V0 kd imm d e a b c w R D).stp≤4000000:=by
  unfold V0;by_cases B:kd=1
  ·rw[J6 B];have:=fx (q:=(R:Int)+2) (R:=R) (D:=D) p.dk.2;simp only[stp_cat,Ym,Kh,Kz];omega
  rw[J1 B];by_cases C:kd=2
  ·rw[J6 C];have:=zji (to:=d.p) (fr:=a.p) (R:=R) (D:=D) Hv (z _);omega
  rw[J1 C];by_cases E:kd=3
  ·rw[J6 E];have:=gw (kd:=11) (n:=(d.k:Nat)) (to:=d.p) (a:=a.p) (b:=b.p) (keep:=true) (R:=R) (D:=D) J (z _) (z _);omega
  rw[J1 E];by_cases F:kd=4
  ·rw[J6 F];have:=gw (kd:=12) (n:=(d.k:Nat)) (to:=d.p) (a:=a.p) (b:=b.p) (keep:=true) (R:=R) (D:=D) J (z _) (z _);omega
  rw[J1 F];by_cases G:kd=5
  ·rw[J6 G,stp_cat];have M:=zjz (to:=(Pb w 0 (a.k+b.k)).p) (a:=a.p) (b:=b.p) (R:=R) (D:=D) (by show ((a.k+b.k:Nat):Int)≤40;omega) Hv Hv;have O:=zji (to:=d.p) (fr:=(Pb w 0 (a.k+b.k)).p) (R:=R) (D:=D) Hv (z _);omega
  rw[J1 G];by_cases A:kd=6
  ·rw[J6 A];have:=hal_stp (d:=d) (a:=a) (b:=b) (w:=w) (n:=a.k) (R:=R) (D:=D) p.ak.2 rfl (p.k6 A) J;omega
  rw[J1 A];by_cases H:kd=7
  ·rw[J6 H,stp_cat];have M:=gw (kd:=12) (n:=(max a.k b.k:Nat)) (to:=d.p) (a:=a.p) (b:=b.p) (keep:=false) (R:=R) (D:=D) J (z _) (z _);have O:=fx (q:=(R:Int)+1) (R:=R) (D:=D) p.dk.2;omega
  rw[J1 H];by_cases I:kd=8
  ·rw[J6 I];have:=sel_stp (a:=a) (b:=b) (c:=c) (R:=R) (D:=D) (J:d.k≤40);omega
  rw[J1 I];by_cases K:kd=9
  ·rw[J6 K];exact rst_stp p.ck.2 J J
  rw[J1 K];by_cases g:kd=10
  ·rw[J6 g];have:=adm_stp (a:=a) (b:=b) (w:=w) (R:=R) (D:=D) p.ck.2 (J:d.k≤40);omega
  rw[J1 g];by_cases j:kd=11
  ·rw[J6 j];have:=sbm_stp (a:=a) (b:=b) (w:=w) (R:=R) (D:=D) p.ck.2 (J:d.k≤40);omega
  rw[J1 j];have:=swp_stp (e:=e) (c:=c) (R:=R) (D:=D) (J:d.k≤40);omega
 simp only[Kh,Kz];omega
def zzj{q R D:Int}:(Ut d q R D).flat.length≤4:=by
 have g:(Uo (Pb d 1 (d.k-1)).p R D).flat.length≤3:=Yb (m:=1) Bx;unfold Ut;simp only[R4,flat_frL,J9,Kh,Kz];omega
def exT_len:(Zw kd imm d e a b c w R D).flat.length≤401:=by
 unfold Zw zeF;rw[R4,flat_frL,J9];have:(V0 kd imm d e a b c w R D).flat.length≤400:=by
  unfold V0
  repeat' split
  ·have:=zzj (d:=d) (q:=(R:Int)+2) (R:=R) (D:=D);simp only[R4,flat_frL,J9,Kh,Kz];omega
  ·have:=zft (to:=d.p) (fr:=a.p) (R:=R) (D:=D);omega
  ·have:=Wm (kd:=11) (n:=(d.k:Nat)) (to:=d.p) (a:=a.p) (b:=b.p) (keep:=true) (R:=R) (D:=D);omega
  ·have:=Wm (kd:=12) (n:=(d.k:Nat)) (to:=d.p) (a:=a.p) (b:=b.p) (keep:=true) (R:=R) (D:=D);omega
  ·have g:=zbi (to:=(Pb w 0 (a.k+b.k)).p) (a:=a.p) (b:=b.p) (R:=R) (D:=D);have j:=zft (to:=d.p) (fr:=(Pb w 0 (a.k+b.k)).p) (R:=R) (D:=D);rw[R4,J9];omega
  ·exact hal_len
  ·have g:=Wm (kd:=12) (n:=(max a.k b.k:Nat)) (to:=d.p) (a:=a.p) (b:=b.p) (keep:=false) (R:=R) (D:=D);have j:=zzj (d:=d) (q:=(R:Int)+1) (R:=R) (D:=D);rw[R4,J9];omega
  ·have:=zg7 (q:=((R+7:Nat):Int)) (to:=d.p) (a:=a.p) (b:=b.p) (R:=R) (D:=D);unfold V6;simp only[R4,flat_frL,J9,Kh,Kz];omega
  ·have:=rst_len (d:=d) (a:=a) (c:=c) (w:=w) (R:=R) (D:=D);omega
  ·have:=adm_len (d:=d) (a:=a) (b:=b) (c:=c) (w:=w) (R:=R) (D:=D);omega
  ·have:=sbm_len (d:=d) (a:=a) (b:=b) (c:=c) (w:=w) (R:=R) (D:=D);omega
  ·have:(Ri (D:Int) (d.k:Nat) (P0 (Tp d.p e.p (R:Int) (D:Int)))).flat.length≤8:=Yb (m:=6) (by simp[flat_frL,Tp]);unfold Vm;simp only[R4,flat_frL,J9,Kh,Kz];omega
 simp only[Kh,Kz];omega
end st
def Us(kd:Int)(imm W g j z:Nat):Nat :=
 if kd=1 then imm else if kd=2 then g else if kd=3 then g+j else if kd=4 then g%W+W-j%W else if kd=5∨kd=6 then g*j
 else if kd=7 then (if g<j then 1 else 0) else if kd=8 then (if z%2=1 then g else j) else if kd=9 then g%z else if kd=10 then (g+j)%z else (g+(z-j))%z
section ex
variable {sz : Nat → Nat} {s : Fs}
def er{f:Nat→UInt64}{x:UInt64}(g:f 0=x):∀{k:Nat},1≤k→(∀i,1≤i→i<k→f i=0)→vl f k=x.toNat
 |1,_,_=>by rw[W6];simp[vl,g]
 |k+2,_,h=>by
  rw[W6,er g J (λi j z=>h i j J),h (k+1) J J];simp
def zyd{f:Nat→UInt64}:∀{k:Nat},1≤k→vl f k%2=(f 0).toNat%2
 |1,_=>by rw[W6];simp[vl]
 |k+2,_=>by
  rw[W6,O8,zyd (k:=k+1) J,O6,Ly,O6 (18446744073709551616^k)];simp
def eu{x:UInt64}:(x%2=1)↔x.toNat%2=1:=by
 rw[←Le,UInt64.toNat_mod];rfl
def p9{d:Pn}{q R D:Nat}(H:s.r R=0)(P:D<R)(hd:d.in_ sz)(hk:1≤d.k):Tx sz (Ut d q R D) s λC=>Qd d s.m C.m∧vl (pl C.m d) d.k=(s.r q).toNat:=by
 obtain⟨Q,E⟩:=hd;unfold Ut;refine .op (st_no (p:=d) (off:=0) (v:=q) J E) ?_;rw[show ∀O,Fr.cat (P0 []) O=O from λ_=>rfl];obtain⟨z,g⟩:∃z,s.sto d.b (d.a+0) (s.r q)=z:=⟨_,rfl⟩;have F:∀x y,z.m x y=if x=d.b∧y=d.a then s.r q else s.m x y:=λx y=>by rw[←g,d9];rfl
 have I:z.r R=0:=by rw[←g];exact H
 rw[g];refine (zsh (p:=Pb d 1 (d.k-1)) ⟨by show d.a+1+(d.k-1)≤sz d.b;omega,E⟩ (J:R≠D)).mono λj ⟨_,G,K⟩=>⟨λx y hn=>?_,?_⟩
 ·have e:=G x y λ⟨B,A,L⟩=>hn ⟨B,by have:d.a+1≤y:=A;omega,by have:y<d.a+1+(d.k-1):=L;omega⟩
  rw[e,F,J1 λ⟨B,A⟩=>hn ⟨B,J,J⟩]
 ·refine er (f:=pl j.m d) ?_ hk λi T U=>?_
  ·have e:=G d.b d.a λ⟨_,A,_⟩=>by have:d.a+1≤d.a:=A;omega
   show j.m d.b (d.a+0)=_;rw[M6,e,F,J6 ⟨rfl,rfl⟩]
  ·have e:=K (i-1) (by show i-1<d.k-1;omega);have M:pl j.m (Pb d 1 (d.k-1)) (i-1)=pl j.m d i:=by
    show j.m d.b (d.a+1+(i-1))=j.m d.b (d.a+i);rw[(J:d.a+1+(i-1)=d.a+i)]
   rw[←M,e,I]
def bf{p q:Pn}(g:p.a=0)(j:q.a=0):Yr p q:=by
 by_cases h:p.b=q.b
 ·exact .inr ⟨h,J⟩
 ·exact .inl (.inl h)
def dif_mod{v:Nat}{c:Bool}(z:v<A)(q:v+j%A=g%A+A*c.toNat):v=(g%A+A-j%A)%A:=by
 have B:0<A:=J
 have C:=L8 j B;have E:=L8 g B;cases c with
 |false =>
  simp at q;rw[(J:g%A+A-j%A=v+A),O7,Ke z]
 |true =>
  simp at q;rw[(J:g%A+A-j%A=v),Ke z]
def sum_mod{v:Nat}{c:Bool}(z:v<A)(q:v+A*c.toNat=g%A+j%A):v=(g+j)%A:=by
 rw[O8,←q,Nr,Ke z]
def exT_ex{kd:Int}{imm:UInt64}{d e a b c w:Pn}{R D:Nat}(hk:1≤kd)(p:ExP kd d e a b c w)(hD:D+2<8)(E:8<R)(hd:d.in_ sz)(he:e.in_ sz)(ha:a.in_ sz)(hb:b.in_ sz)(hc:c.in_ sz)(hw:w.in_ sz) :
  Tx sz (Zw kd imm d e a b c w R D) s λz =>
   (kd≤11→(kd=9→0<vl (pl s.m c) c.k)→(kd=10∨kd=11→vl (pl s.m a) a.k<vl (pl s.m c) c.k∧vl (pl s.m b) b.k<vl (pl s.m c) c.k) →
    vl (pl z.m d) d.k=Us kd imm.toNat (18446744073709551616^d.k) (vl (pl s.m a) a.k) (vl (pl s.m b) b.k) (vl (pl s.m c) c.k)%18446744073709551616^d.k) ∧
   (¬kd≤11→vl (pl z.m d) d.k=(if vl (pl s.m c) c.k%2=1 then vl (pl s.m e) e.k else vl (pl s.m d) d.k)∧vl (pl z.m e) e.k=(if vl (pl s.m c) c.k%2=1 then vl (pl s.m d) d.k else vl (pl s.m e) e.k)):=by
 have dk:=p.dk;have ck:=p.ck;have ak:=p.ak;have bk:=p.bk;obtain⟨T,we,U,wb,wc⟩:=p.wb;obtain⟨I,ze,za,zb,zc⟩:=p.z;have K:∀n:Nat,n≤100→n<18446744073709551616:=λn h=>J
 unfold Zw;refine z_ex ?_;have g:(s.put R 0).r R=0:=ry;have V:(s.put R 0).m=s.m:=rfl;generalize gF:s.put R 0=X at *;rw[←V];clear V gF;obtain⟨gH,C⟩:∃gH,vl (pl X.m a) a.k=gH:=⟨_,rfl⟩;obtain⟨gI,G⟩:∃gI,vl (pl X.m b) b.k=gI:=⟨_,rfl⟩;obtain⟨gG,L⟩:∃gG,vl (pl X.m c) c.k=gG:=⟨_,rfl⟩;have lA:gH<18446744073709551616^a.k:=C ▸ Vj _ _;have lB:gI<18446744073709551616^b.k:=G ▸ Vj _ _;have lC:gG<18446744073709551616^c.k:=L ▸ Vj _ _;rw[C,G,L];have P:∀z:Fs,vl (pl z.m d) d.k<18446744073709551616^d.k:=λ_=>Vj _ _
 have Y:¬(12:Int)=11:=Ac
 unfold V0 Us;by_cases g1:kd=1
 ·simp only[g1,Lj];refine .op (zya (d:=R+2) (v:=imm)) ?_;rw[show ∀gK,Fr.cat (P0 []) gK=gK from λ_=>rfl];refine (p9 (d:=d) (q:=R+2) (by rw[P8,J1 J];exact g) J hd dk.1).mono λz ⟨_,h2⟩=>⟨λ_ _ _=>?_,λh=>absurd Ac h⟩
  have:=P z;rw[P8,J6 rfl]at h2;rw[←h2,Ke this]
 rw[J1 g1];simp only[J1 g1];by_cases g2:kd=2
 ·simp only[g2,Lj];refine (zfh (to:=d) (fr:=a) g J hd ha (bf I za)).mono λz ⟨_,_,A⟩=>⟨λ_ _ _=>?_,λh=>absurd Ac h⟩
  rw[A,C]
 rw[J1 g2];simp only[J1 g2];by_cases Z:kd=3
 ·simp only[Z,Lj];refine (z7k (.inl rfl) (keep:=true) (n:=d.k) (to:=d) (a:=a) (b:=b) g J ha hb (K _ J) λ_=>⟨hd,J8 _,bf I za,bf I zb⟩).mono λz ⟨_,_,_,cb,v,lv,_,w2,q2⟩=>⟨λ_ _ _=>?_,λh=>absurd Ac h⟩
  rw[Tl,J6 rfl,Yc,Yc,C,G]at q2;rw[w2 rfl];exact sum_mod lv q2
 rw[J1 Z];simp only[J1 Z];by_cases g4:kd=4
 ·simp only[g4,Lj];refine (z7k (.inr rfl) (keep:=true) (n:=d.k) (to:=d) (a:=a) (b:=b) g J ha hb (K _ J) λ_=>⟨hd,J8 _,bf I za,bf I zb⟩).mono λz ⟨_,_,_,cb,v,lv,_,w2,q2⟩=>⟨λ_ _ _=>?_,λh=>absurd Ac h⟩
  rw[Tl,J1 Y,Yc,Yc,C,G]at q2;rw[w2 rfl];exact dif_mod lv q2
 rw[J1 g4];simp only[J1 g4];by_cases g5:kd=5
 ·have w5:=p.w5 g5;have gg:(Pb w 0 (a.k+b.k)).in_ sz:=⟨by have:=hw.1;show w.a+0+(a.k+b.k)≤sz w.b;omega,hw.2⟩;simp only[g5,Lj,true_or];refine .cat (zpq (to:=Pb w 0 (a.k+b.k)) (a:=a) (b:=b) g J E ha hb gg rfl (.inl U) (.inl wb)) λs3 ⟨Z,o3,v3⟩=>?_
  refine (zfh (to:=d) (fr:=Pb w 0 (a.k+b.k)) (by rw[Z R J J J J,g]) J hd gg (.inl (.inl (Ne.symm T)))).mono λs4 ⟨_,_,v4⟩=>⟨λ_ _ _=>?_,λh=>absurd Ac h⟩
  rw[v4,v3,C,G]
 rw[J1 g5];by_cases Q:kd=6
 ·simp only[Q,Lj,or_true];refine (hal_ex (d:=d) (a:=a) (b:=b) (w:=w) (n:=a.k) g J E ha hb hd hw rfl (p.k6 Q) ak.1 (p.w6 Q) U wb T).mono λs4 ⟨_,_,v4⟩=>⟨λ_ _ _=>?_,λh=>absurd Ac h⟩
  rw[v4,C,G]
 rw[J1 Q];simp only[(J:¬(kd=5∨kd=6)),M7];by_cases g7:kd=7
 ·simp only[g7,Lj];refine .cat (z7k (.inr rfl) (keep:=false) (n:=max a.k b.k) (to:=d) (a:=a) (b:=b) g J ha hb (K _ J) λh=>Ak) λs6 ⟨Q,m6,_,cb,v,lv,r6,_,q6⟩=>?_
  refine (p9 (d:=d) (q:=R+1) (by rw[Q R J J,g]) J hd dk.1).mono λz ⟨_,h2⟩=>⟨λ_ _ _=>?_,λh=>absurd Ac h⟩
  have gD:(cb=true)↔gH<gI:=by
   rw[Tl,J1 Y,zo1 (Mi _ _),zo1 (Mv _ _),C,G]at q6;have l1:gH<18446744073709551616^max a.k b.k:=Kt lA (Lr Ac (Mi _ _));have l2:gI<18446744073709551616^max a.k b.k:=Kt lB (Lr Ac (Mv _ _));generalize 18446744073709551616^max a.k b.k=gL at *;cases cb with
   |false=>simp at q6 ⊢;omega
   |true=>simp at q6 ⊢;omega
  have l1:=P z;rw[h2,r6]at l1 ⊢;cases cb with
  |true=>rw[J6 (gD.1 rfl)];exact (Ke l1).symm
  |false=>rw[J1 (λh=>by simpa using gD.2 h)];exact (Ke l1).symm
 rw[J1 g7];simp only[J1 g7];by_cases g8:kd=8
 ·obtain⟨M,k2⟩:=p.k8 g8;simp only[g8,Lj];refine (sel_ex (d:=d) (a:=a) (b:=b) (c:=c) J ha hb hc hd M k2 ck.1 (bf I za) (bf I zb)).mono λz ⟨_,_,A⟩=>⟨λ_ _ _=>?_,λh=>absurd Ac h⟩
  have B:=P z;rw[A,C,G]at B ⊢;have j:(pl X.m c 0%2=1)↔gG%2=1:=by rw[eu,←L,zyd ck.1]
  rw[Ke]
  ·simp only[j]
  ·simp only[j]at B ⊢;exact B
 rw[J1 g8];simp only[J1 g8];by_cases g9:kd=9
 ·have k9:=p.k9 g9;simp only[g9,Lj];refine (rst_ex (d:=d) (a:=a) (c:=c) (w:=w) g hD E ha hc hd hw k9.symm (p.w9 (.inl g9)) U wc T).mono λz ⟨_,_,A⟩=>⟨λ_ O _=>?_,λh=>absurd Ac h⟩
  have B:=P z;rw[C,L]at A;have A:=A (O trivial);rw[A]at B ⊢;exact (Ke B).symm
 rw[J1 g9];simp only[J1 g9];by_cases F:kd=10
 ·obtain⟨M,k2,k3⟩:=p.k10 (.inl F);simp only[F,Lj];refine (adm_ex (d:=d) (a:=a) (b:=b) (c:=c) (w:=w) g J E ha hb hc hd hw J J J (p.w9 (.inr (.inl F))) U wb wc T).mono λz ⟨_,_,A⟩=>⟨λ_ _ O=>?_,λh=>absurd Ac h⟩
  have B:=P z;rw[C,G,L]at A;have A:=A (O (.inl trivial)).1 (O (.inl trivial)).2;rw[A]at B ⊢;exact (Ke B).symm
 rw[J1 F];simp only[J1 F];by_cases H:kd=11
 ·obtain⟨M,k2,k3⟩:=p.k10 (.inr H);have w9:=p.w9 (.inr (.inr H));simp only[H,Lj];refine (sbm_ex (d:=d) (a:=a) (b:=b) (c:=c) (w:=w) g J E ha hb hc hd hw J J J J U wb wc T).mono λz ⟨_,_,A⟩=>⟨λ_ _ O=>?_,λh=>absurd Ac h⟩
  have B:=P z;rw[C,G,L]at A;have A:=A (O (.inr trivial)).1 (O (.inr trivial)).2;rw[A]at B ⊢;exact (Ke B).symm
 rw[J1 H];obtain⟨M,k2⟩:=p.k14 J;have j:(pl X.m c 0%2=1)↔gG%2=1:=by rw[eu,←L,zyd ck.1]
 refine (swp_ex (d:=d) (e:=e) (c:=c) J hc hd he M ck.1 k2).mono λz ⟨_,_,A,B⟩=>⟨λh=>J,λ_=>⟨?_,?_⟩⟩
 ·by_cases q:gG%2=1
  ·rw[J6 q,M];exact Vz λi hi=>by rw[A i hi,J6 (j.2 q)]
  ·rw[J1 q];exact Vz λi hi=>by rw[A i hi,J1 (λx=>q (j.1 x))]
 ·rw[M];by_cases q:gG%2=1
  ·rw[J6 q];exact Vz λi hi=>by rw[B i hi,J6 (j.2 q)]
  ·rw[J1 q];exact Vz λi hi=>by rw[B i hi,J1 (λx=>q (j.1 x))]
end ex
noncomputable def exG(kd:Int)(imm:UInt64)(d e a b c w:Pn)(R D:Nat):Fr Lo:=gn D 0 (Zw kd imm d e a b c w R D)
section wr
variable {kd : Int} {imm : UInt64} {d e a b c w : Pn} {R D : Nat}
def exG_flat:(exG kd imm d e a b c w R D).flat=R0 D 0++((Zw kd imm d e a b c w R D).flat++List.replicate D Vi):=wrap_flat D 0 _
def ue{g:Cf}(hk:1≤kd)(p:ExP kd d e a b c w)(l:ExL g kd d e a b c w)(j:g.R≤(R:Int)∧(R:Int)+11≤g.R+g.w)(z:g.pa≤8∧8≤g.pb)(B:g.lo=0)(A:(D:Int)+3≤g.hi)(hn:0<g.nb):(exG kd imm d e a b c w R D).AllH g 0:=by
 refine wrap_allH D 0 _ J J ?_;rw[Int.zero_add];exact zty hk p l ⟨j,z,J,hn⟩ A
def exG_gd{bs:List Bf}(hk:1≤kd)(p:ExP kd d e a b c w)(B:ExG bs kd d e a b c w)(j:D+2<8)(z:16≤R∧R≤50):Gd bs [] [] (exG kd imm d e a b c w R D) []:=by
 refine fy D 0 [] _ J J rfl N λC A g=>?_
 rw[Int.zero_add]at A g;exact exT_gd hk p B ⟨J,g⟩ j z
def exG_stp(p:ExP kd d e a b c w)(g:D≤6):(exG kd imm d e a b c w R D).stp≤16777216:=by
 unfold exG;rw[wrap_stp];have:=exT_stp (imm:=imm) (R:=R) (D:=D) p;omega
end wr
end
end Go.Sv
