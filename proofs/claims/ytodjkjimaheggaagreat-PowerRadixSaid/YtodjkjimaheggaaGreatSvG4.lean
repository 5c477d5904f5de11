/- Texts of the evaluator, of the logic over it, of plain arithmetic. -/
import Derived.Test.YtodjkjimaheggaaGreatSvG3
set_option linter.unusedSimpArgs false
set_option linter.defProp false
namespace Go.Sv
variable{g j A D:Nat}{z B:Int}{vZ:List UInt64}
section
set_option linter.unusedSimpArgs false
section ex
variable {sz : Nat → Nat} {s : Fs} {p : Pw}
def Pw.H(p:Pw)(m:Nat→Nat→UInt64):Prop:=pl m p.n 0%2=1∧vl (pl m p.a) p.k<vl (pl m p.n) p.k
def qk{m z:Nat→Nat→UInt64}(j:PwS sz p)(h:Fm [p.wk] m z):(p.H z↔p.H m)∧vl (pl z p.n) p.k=vl (pl m p.n) p.k∧vl (pl z p.a) p.k=vl (pl m p.a) p.k∧vl (pl z p.b) p.b.k=vl (pl m p.b) p.b.k:=by
 have I:=j.k;have D:=j.nk;have E:=j.ak;have A:∀q∈[p.wk],Dj q p.n:=λq g=>by simp at g;subst g;exact .inl j.nb.symm
 have F:∀q∈[p.wk],Dj q p.a:=λq g=>by simp at g;subst g;exact .inl j.ab.symm
 have G:∀q∈[p.wk],Dj q p.b:=λq g=>by simp at g;subst g;exact .inl j.bb.symm
 have B:=h.vl A (n:=p.k) J;have C:=h.vl F (n:=p.k) J;have H:=h.vl G (n:=p.b.k) J;refine⟨?_,B,C,H⟩;unfold Pw.H;rw[B,C,h.pl A J]
def W9{m:Nat→Nat→UInt64}(h:p.H m):0<vl (pl m p.n) p.k:=by have:=h.2;omega
def zzm{m:Nat→Nat→UInt64}(C:1≤p.k)(h:p.H m):∃g,18446744073709551616^p.k*g%vl (pl m p.n) p.k=1%vl (pl m p.n) p.k:=by
 have ho:vl (pl m p.n) p.k%2=1:=by
  obtain⟨k,j⟩:∃k,p.k=k+1:=⟨p.k-1,J⟩;rw[j,zoh];have z:=congrArg UInt64.toNat h.1;rw[UInt64.toNat_mod]at z;have A:((2:UInt64)).toNat=2:=rfl;have B:((1:UInt64)).toNat=1:=rfl;rw[A,B]at z;omega
 rw[powW];exact⟨_,tj ho _⟩
def pi{q:Pn}(g:q.b=p.wb)(j:p.wa≤q.a)(z:q.a+q.k≤p.wa+(4*p.k+p.b.k+3+p.k*2^p.w)):q.b=p.wk.b∧p.wk.a≤q.a∧q.a+q.k≤p.wk.a+p.wk.k:=⟨g,j,z⟩
def o6(z:PwS sz p){D:Nat}(hD:D+2<8)(hz:s.r p.B=0) :
  Tx sz (p.fill D) s λY=>Y.r p.B=0∧(p.H s.m→Fm [p.wk] s.m Y.m∧∀e,e<2^p.w→vl (pl Y.m (p.en e)) p.k=vl (pl s.m p.a) p.k^e*18446744073709551616^p.k%vl (pl s.m p.n) p.k):=by
 have hB:=z.B;have hk:=z.k;have gE:=z.nk;have Z:=z.ak;have gF:=ew z.w.2;have gG:=zq p;have gH:=z.wk;have gI:=z.kb;have gD:0<2^p.w:=K0 _;have iA:p.acc.in_ sz:=X6 z rfl Et;have iB:p.base.in_ sz:=X6 z rfl (by simp only[Pw.base];omega);have iC:p.cur.in_ sz:=X6 z rfl Bi;have iE:p.ent.in_ sz:=X6 z rfl Dg;have iR:p.r.in_ sz:=X6 z rfl (by simp only[Pw.r,Pw.t];omega);have e0:p.en 0=p.ent:=by simp[Pw.en,Pw.ent,Pw.tab]
 have B:∀{l:List Pn} {m m':Nat→Nat→UInt64},Fm l m m'→(∀q∈l,q.b=p.wb∧p.wa≤q.a∧q.a+q.k≤p.wa+(4*p.k+p.b.k+3+p.k*2^p.w))→Fm [p.wk] m m':=λh j=>h.inn λq h1=>pi (j q h1).1 (j q h1).2.1 (j q h1).2.2
 have e:p.fill D=(Ww p.ent.p p.n.p p.r.p p.k ((64*p.k:Nat):Int) ((p.B+10:Nat):Int) D).cat ((Ww p.cur.p p.n.p p.r.p p.k ((128*p.k:Nat):Int) ((p.B+10:Nat):Int) D).cat ((p.mont p.base p.a p.cur D).cat ((ay p.acc.p p.ent.p p.k ((p.B+3:Nat):Int) D).cat ((M5 [cK ((12:Nat):Int) (iU p.k)]).cat (Og D (2^p.w-1:Nat) ((p.mont p.acc p.acc p.base ((D+1:Nat):Int)).cat ((Og ((D+1:Nat):Int) p.k (M5 [M9 (p.B+3) p.acc.p ((D+1:Nat):Int) 0,M1 3 13 12 ((D+1:Nat):Int),Nd p.tab.p 13 0 (p.B+3)])).cat (M5 [cK 13 (iU p.k),M1 3 12 12 13]))))))))  := by
  unfold Pw.fill Pw.fillR Pw.radix Pw.copies;rw[(J:(64:Int)*(p.k:Int)=((64*p.k:Nat):Int)),(J:(128:Int)*(p.k:Int)=((128*p.k:Nat):Int))];rfl
 rw[e];refine (zn7 (R:=p.B+10) (k:=p.k) J iE z.n iR Cy J rfl (.inl z.nb.symm) (.inr (.inr (by simp only[Pw.ent,Pw.tab,Pw.r,Pw.t];omega))) J).cat λs1 ⟨g1,f1,v1⟩=>?_
 have w1:=B f1 (λq j=>by simp at j;rcases j with rfl|rfl<;>simp only[Pw.ent,Pw.tab,Pw.r,Pw.t,Lj]<;>omega);have z1:s1.r p.B=0:=by rw[g1 p.B J J J,hz]
 refine (zn7 (R:=p.B+10) (k:=p.k) J iC z.n iR (by simp[Pw.cur]) J rfl (.inl z.nb.symm) (.inr (.inl (by simp only[Pw.cur,Pw.r,Pw.t];omega))) J).cat λs2 ⟨g2,f2,v2⟩=>?_
 have w2:=B f2 (λq j=>by simp at j;rcases j with rfl|rfl<;>simp only[Pw.cur,Pw.r,Pw.t,Lj]<;>omega);have z2:s2.r p.B=0:=by rw[g2 p.B J J J,z1]
 obtain⟨H1,N1,A1,_⟩:=qk z w1;obtain⟨H2,N2,A2,_⟩:=qk z w2;refine (zfc z (E:=D) J iB z.a iC rfl Z rfl (.inl (.inl z.nb.symm)) (.inr (.inl (by simp only[Pw.base,Pw.t];omega))) (.inl z.ab.symm) (.inr (.inr Ds))).cat λL ⟨g3,v3⟩=>?_
 have z3:L.r p.B=0:=by rw[g3 p.B J J J,z2]
 refine (nr (to:=p.acc) (fr:=p.ent) (k:=p.k) (l:=p.B+3) (D:=D) iA iE Cz Cy J (.inr (.inl Cn))).cat λH ⟨g4,o4,v4⟩=>?_
 have w4:=B (o4.fm (l:=[p.acc]) N) (λq j=>Fo);have z4:H.r p.B=0:=by rw[g4 p.B J J,z3]
 refine .op Vl ?_;rw[Zu];have start:p.H s.m→Fm [p.wk] s.m H.m∧vl (pl H.m p.base) p.k=vl (pl s.m p.a) p.k*18446744073709551616^p.k%vl (pl s.m p.n) p.k∧vl (pl H.m p.acc) p.k=18446744073709551616^p.k%vl (pl s.m p.n) p.k∧vl (pl H.m p.ent) p.k=18446744073709551616^p.k%vl (pl s.m p.n) p.k:=λC=>by
  obtain⟨I,A⟩:=zzm hk C;have F:=W9 C;have q1:=v1 F;rw[N1]at v2;have q2:=v2 F;have M:=H2.2 (H1.2 C);obtain⟨f3,O⟩:=v3 M.1 M.2;rw[N2,N1,A2,A1]at O;have O:=O I A;have w3:=B f3 (λq j=>by simp at j;rcases j with rfl|rfl<;>simp only[Pw.base,Pw.t,Lj]<;>omega);have hP:(2:Nat)^(64*p.k)=18446744073709551616^p.k:=(powW _).symm;have gg:(2:Nat)^(128*p.k)=18446744073709551616^p.k*18446744073709551616^p.k:=by rw[←hP,←K7];congr 1;omega
  rw[hP]at q1;rw[gg]at q2;rw[q2,vd A]at O;have P:vl (pl s2.m p.ent) p.k=vl (pl s1.m p.ent) p.k:=f2.vl (λq j=>by simp at j;rcases j with rfl|rfl<;>exact .inr (.inl (by simp only[Pw.cur,Pw.r,Pw.t,Pw.ent,Pw.tab];omega))) Cy;have Q:vl (pl L.m p.ent) p.k=vl (pl s2.m p.ent) p.k:=f3.vl (λq j=>by simp at j;rcases j with rfl|rfl<;>exact .inr (.inl (by simp only[Pw.base,Pw.t,Pw.ent,Pw.tab];omega))) Cy;have gz:vl (pl H.m p.ent) p.k=vl (pl L.m p.ent) p.k:=o4.vl (.inr (.inl Cn)) Cy;have gA:vl (pl H.m p.base) p.k=vl (pl L.m p.base) p.k:=o4.vl (.inr (.inl (by simp only[Pw.acc,Pw.base];omega))) (by simp[Pw.base]);refine⟨(w1.trans w2).trans (w3.trans w4),by rw[gA,O],?_,by rw[gz,Q,P,q1]⟩;rw[Vd (g:=pl L.m p.ent) v4,Q,P,q1]
 refine (Tx.lp (λi G=>G.r p.B=0∧(G.r 12).toNat=(i+1)*p.k∧(p.H s.m→Fm [p.wk] s.m G.m∧vl (pl G.m p.base) p.k=vl (pl s.m p.a) p.k*18446744073709551616^p.k%vl (pl s.m p.n) p.k∧vl (pl G.m p.acc) p.k=vl (pl s.m p.a) p.k^i*18446744073709551616^p.k%vl (pl s.m p.n) p.k∧∀e,e≤i→vl (pl G.m (p.en e)) p.k=vl (pl s.m p.a) p.k^e*18446744073709551616^p.k%vl (pl s.m p.n) p.k))
  ⟨by rw[M3,Hv J,z4],by rw[M3,H7 rfl,Vp J];omega,λC=>?_⟩ J (λi G hi ⟨z5,r5,U⟩=>?_) λG ⟨z5,_,U⟩=>⟨z5,λC=>⟨(U C).1,λe he=>(U C).2.2.2 e J⟩⟩)
 ·obtain⟨a1,a2,a3,a4⟩:=start C;refine⟨a1,a2,by rw[Nat.pow_zero,J5];exact a3,λe he=>?_⟩;have:e=0:=J
  subst this;rw[e0,Nat.pow_zero,J5];exact a4
 ·refine (zfc z (E:=D+1) J iA iA iB rfl rfl rfl (.inl (.inl z.nb.symm)) (.inr (.inl A6)) (.inr (.inr A6)) (.inr (.inr (by simp only[Pw.base,Pw.t];omega)))).cat λV ⟨g6,v6⟩=>?_
  have z6:V.r p.B=0:=by rw[g6 p.B J J J,M3,Hv J,z5]
  have r6:(V.r 12).toNat=(i+1)*p.k:=by rw[g6 12 J J J,M3,Hv J,r5]
  refine (ko z (E:=D+1) (e:=i+1) J J r6).mono λs7 ⟨g7,X,r7,v7⟩=>⟨by rw[g7 p.B J J J J,z6],r7,λC=>?_⟩
  obtain⟨b1,b2,b3,b4⟩:=U C;obtain⟨H5,N5,A5,_⟩:=qk z b1;obtain⟨I,A⟩:=zzm hk C;have F:=W9 C;simp only[Ou]at v6;rw[N5]at v6;obtain⟨f6,K⟩:=v6 (H5.2 C).1 (by rw[b3];exact Kg _ F);have K:=K I A;rw[b2,b3]at K;have gB:=zmw (x:=vl (pl s.m p.a) p.k^i) (y:=vl (pl s.m p.a) p.k) A;rw[gB,←I0]at K;have w6:=B f6 (λq j=>by simp at j;rcases j with rfl|rfl<;>simp only[Pw.acc,Pw.t,Lj]<;>omega);have gK:=zss (p:=p) (e:=i+1) J;have w7:=B (X.fm (l:=[p.en (i+1)]) N) (λq j=>by simp at j;subst j;simp only[Pw.en,Lj];omega);have gC:∀e,e≤i→vl (pl V.m (p.en e)) p.k=vl (pl G.m (p.en e)) p.k:=λe he=>f6.vl (λq j=>by simp at j;rcases j with rfl|rfl<;>exact .inr (.inl Cs)) Ca
  have T:∀e,e≤i→e*p.k+p.k≤(i+1)*p.k:=λe he=>by
   have:=Ii p.k (J:e+1≤i+1);rw[Iv,J5]at this;exact this
  refine⟨(b1.trans w6).trans w7,?_,?_,λe he=>?_⟩
  ·rw[X.vl (.inr (.inr (by simp only[Pw.en,Pw.base];omega))) (by simp[Pw.base]),f6.vl (λq j=>by simp at j;rcases j with rfl|rfl<;>first|exact .inr (.inl (by simp only[Pw.acc,Pw.base];omega))|exact .inr (.inr (by simp only[Pw.t,Pw.base];omega))) (by simp[Pw.base])];exact b2
  ·rw[X.vl (.inr (.inr (by simp only[Pw.en,Pw.acc];omega))) Cz,K]
  ·by_cases q:e=i+1
   ·subst q;rw[Vd (g:=pl V.m p.acc) v7,K]
   ·rw[X.vl (.inr (.inr (by have:=T e J;simp only[Pw.en];omega))) Ca,gC e J];exact b4 e J
def vh{E h d v b:Nat}(z:E*D=(h*2^j+d)*g+v)(B:A+g*b=2*v):E*(D*2)=(h*2^(j+1)+(2*d+b))*g+A:=by
 rw[←Kd,z,I0];grind
def y8{o h v:Nat}(z:j*o*A=h*g+v)(C:o*A=g)(hv:v<g):h=j:=by
 have B:0<g:=J
 rw[Kd,C]at z;have D:j*g/g=j:=Nat.mul_div_cancel _ B;rw[z,Nat.add_comm,Nat.add_mul_div_right _ _ B,K6 hv]at D;omega
def run_ex{C:Prop}(B:PwS sz p)(T:C→p.H s.m){D A N Eb:Nat}(hD:D+3<8)(hz:s.r p.B=0)(hN:vl (pl s.m p.n) p.k=N)
  (gE:C→(∀e,e<2^p.w→vl (pl s.m (p.en e)) p.k=A^e*18446744073709551616^p.k%N)∧vl (pl s.m p.es) (p.b.k+1)=Eb*2^(64-p.over)) :
  Tx sz (p.run D) s λs'=>C→Fm [p.wk,p.d] s.m s'.m∧vl (pl s'.m p.d) p.k=A^Eb%N:=by
 have hB:=B.B;have hk:=B.k;have gK:=B.nk;have gL:=ew B.w.2;have gM:=zq p;have gg:0<2^p.w:=K0 _;have gF:=B.ti;have gO:=B.ov;have gP:p.b.k≤65536:=by have:=B.b.1;have:=B.b.2;omega
 have gQ:p.k≤65536:=by have:=B.wk.1;have:=B.wk.2;simp only[Pw.wk]at *;omega
 have gR:p.times≤p.times*p.w:=Nat.le_mul_of_pos_right _ B.w.1;have Z:p.acc.in_ sz:=X6 B rfl Et;have iC:p.cur.in_ sz:=X6 B rfl Bi;have iE:p.ent.in_ sz:=X6 B rfl Dg;have e0:p.en 0=p.ent:=by simp[Pw.en,Pw.ent,Pw.tab]
 have L:∀{l:List Pn} {m m':Nat→Nat→UInt64},Fm l m m'→(∀q∈l,q.b=p.wb∧p.wa≤q.a∧q.a+q.k≤p.wa+(4*p.k+p.b.k+3+p.k*2^p.w))→Fm [p.wk] m m':=λh j=>h.inn λq h1=>pi (j q h1).1 (j q h1).2.1 (j q h1).2.2
 have hT:(18446744073709551616:Nat)^(p.b.k+1)=2^(64*(p.b.k+1)):=powW _;have e:p.run D=(ay p.acc.p p.ent.p p.k ((p.B+3:Nat):Int) D).cat ((Og D p.times ((M5 [Qk ((p.B+1:Nat):Int) (p.B:Nat)]).cat ((Og ((D+1:Nat):Int) p.w ((p.mont p.acc p.acc p.acc ((D+2:Nat):Int)).cat (p.shift ((D+2:Nat):Int)))).cat ((p.scan ((D+1:Nat):Int)).cat (p.mont p.acc p.acc p.cur ((D+1:Nat):Int)))))).cat ((M5 [cK ((p.B+3:Nat):Int) 1]).cat ((Si p.cur.p p.B D).cat ((M5 [Nd p.cur.p (-1) ((0:Nat):Int) ((p.B+3:Nat):Int)]).cat (p.mont p.d p.acc p.cur D))))):=by
  unfold Pw.run Pw.runR Pw.runW Pw.copies;rw[(J:(D:Int)+1+1=((D+2:Nat):Int))];rfl
 rw[e];refine (nr (to:=p.acc) (fr:=p.ent) (k:=p.k) (l:=p.B+3) (D:=D) Z iE Cz Cy J (.inr (.inl Cn))).cat λs1 ⟨g1,o1,v1⟩=>?_
 have w1:=L (o1.fm (l:=[p.acc]) (by simp)) (λq j=>Fo);have z1:s1.r p.B=0:=by rw[g1 p.B J J,hz]
 refine Tx.cat (R:=λK=>K.r p.B=0∧(C→Fm [p.wk] s.m K.m∧vl (pl K.m p.acc) p.k=A^Eb*18446744073709551616^p.k%N)) ?_ λK ⟨z2,v2⟩=>?_
 ·refine .lp (λi K=>K.r p.B=0∧(C→Fm [p.wk] s.m K.m∧(∀e,e<2^p.w→vl (pl K.m (p.en e)) p.k=A^e*18446744073709551616^p.k%N)∧∃h,vl (pl K.m p.acc) p.k=A^h*18446744073709551616^p.k%N∧Eb*2^(64-p.over)*2^(i*p.w)=h*18446744073709551616^(p.b.k+1)+vl (pl K.m p.es) (p.b.k+1)))
   ⟨z1,λG=>?_⟩ J (λi K hi ⟨z2,v2⟩=>?_) λK ⟨z2,v2⟩=>⟨z2,λG=>?_⟩
  ·obtain⟨a1,a2⟩:=gE G;refine⟨w1,λe he=>?_,0,?_,?_⟩
   ·have gz:=zss (p:=p) he;rw[o1.vl (.inr (.inl (by simp only[Pw.acc,Pw.en];omega))) Ca];exact a1 e he
   ·rw[Vd (g:=pl s.m p.ent) v1,←e0];exact a1 0 gg
   ·rw[o1.vl (.inr (.inl Dq)) Ei,a2];simp
  ·refine .op zma ?_;rw[Zu];refine Tx.cat (R:=λF=>F.r p.B=0∧(F.r (p.B+1)).toNat<2^p.w∧(C→Fm [p.wk] s.m F.m∧(∀e,e<2^p.w→vl (pl F.m (p.en e)) p.k=A^e*18446744073709551616^p.k%N)∧∃h,vl (pl F.m p.acc) p.k=A^(h*2^p.w)*18446744073709551616^p.k%N∧Eb*2^(64-p.over)*2^(i*p.w+p.w)=(h*2^p.w+(F.r (p.B+1)).toNat)*18446744073709551616^(p.b.k+1)+vl (pl F.m p.es) (p.b.k+1))) ?_ λF ⟨z3,d3,v3⟩=>?_
   ·refine .lp (λgA F=>F.r p.B=0∧(F.r (p.B+1)).toNat<2^gA∧(C→Fm [p.wk] s.m F.m∧(∀e,e<2^p.w→vl (pl F.m (p.en e)) p.k=A^e*18446744073709551616^p.k%N)∧∃h,vl (pl F.m p.acc) p.k=A^(h*2^gA)*18446744073709551616^p.k%N∧Eb*2^(64-p.over)*2^(i*p.w+gA)=(h*2^gA+(F.r (p.B+1)).toNat)*18446744073709551616^(p.b.k+1)+vl (pl F.m p.es) (p.b.k+1)))
     ⟨by rw[M3,Hv J,M3,Hv J,z2],by rw[M3,H7 rfl,M3,Hv J,z2];decide,λG=>?_⟩ (by have:=B.w;omega) (λgA F hj ⟨z3,d3,v3⟩=>?_) λ_ h=>h
    ·obtain⟨P,U,h,Q,b4⟩:=v2 G;refine⟨P,U,h,by rw[Nat.pow_zero,Kq];exact Q,?_⟩;rw[M3,H7 rfl,M3,Hv J,z2,Kh,Nat.pow_zero,Kq];exact b4
    ·have gT:2^gA≤64:=ew (by have:=B.w;omega);refine (zfc B (E:=D+2) J Z Z Z rfl rfl rfl (.inl (.inl B.nb.symm)) (.inr (.inl A6)) (.inr (.inr A6)) (.inr (.inr A6))).cat λY ⟨g4,V⟩=>?_
     have z4:Y.r p.B=0:=by rw[g4 p.B J J J,M3,Hv J,z3]
     have d4:Y.r (p.B+1)=F.r (p.B+1):=by rw[g4 _ J J J,M3,Hv J]
     refine (nu B (D:=D+2) J z4 (by rw[d4];omega)).mono λs5 ⟨g5,o5,b,hb,d5,v5⟩=>?_
     rw[d4]at d5;refine⟨by rw[g5 p.B J J,z4],by rw[d5,I0];omega,λG=>?_⟩;obtain⟨P,U,h,Q,b4⟩:=v3 G;obtain⟨H3,N3,A3,_⟩:=qk B P;obtain⟨M,z⟩:=zzm hk (T G);have H:=W9 (T G);simp only[Ou]at V;rw[N3,hN]at V;rw[hN]at z H;obtain⟨f4,X⟩:=V (H3.2 (T G)).1 (by rw[Q];exact Kg _ H);have X:=X M z;rw[Q,zmw z,←K7,show h*2^gA+h*2^gA=h*2^(gA+1) by rw[I0,←Kd];omega]at X;have w4:=L f4 (λq j=>by simp at j;rcases j with rfl|rfl<;>simp only[Pw.acc,Pw.t,Lj]<;>omega);have w5:=L (o5.fm (l:=[p.es]) (by simp)) (λq j=>by simp at j;subst j;simp only[Pw.es,Lj];omega);have gG:vl (pl Y.m p.es) (p.b.k+1)=vl (pl F.m p.es) (p.b.k+1):=f4.vl (λq j=>by simp at j;rcases j with rfl|rfl<;>first|exact .inr (.inl Dq)|exact .inr (.inr (by simp only[Pw.t,Pw.es];omega))) Ei;rw[gG]at v5;refine⟨(P.trans w4).trans w5,λe he=>?_,h,?_,?_⟩
     ·have gz:=zss (p:=p) he;rw[o5.vl (.inr (.inl (by simp only[Pw.es,Pw.en];omega))) Ca,f4.vl (λq j=>by simp at j;rcases j with rfl|rfl<;>exact .inr (.inl Cs)) Ca];exact U e he
     ·rw[o5.vl (.inr (.inr (by simp only[Pw.es,Pw.acc];omega))) Cz];exact X
     ·rw[d5,(J:i*p.w+(gA+1)=i*p.w+gA+1),I0];exact vh b4 v5
   ·refine (t9 B (D:=D+1) J z3).cat λY ⟨g4,o4,V⟩=>?_
    have z4:Y.r p.B=0:=by rw[g4 p.B J J J J J,z3]
    refine (zfc B (E:=D+1) J Z Z iC rfl rfl rfl (.inl (.inl B.nb.symm)) (.inr (.inl A6)) (.inr (.inr A6)) (.inr (.inr Ds))).mono λs5 ⟨g5,v5⟩=>⟨by rw[g5 p.B J J J,z4],λG=>?_⟩
    obtain⟨P,U,h,Q,b4⟩:=v3 G;have w4:=L (o4.fm (l:=[p.cur]) (by simp)) (λq j=>Fl);have gB:=P.trans w4;obtain⟨H4,N4,A4,_⟩:=qk B gB;obtain⟨M,z⟩:=zzm hk (T G);have H:=W9 (T G);rw[N4,hN]at v5;rw[hN]at z H;have I:vl (pl Y.m p.acc) p.k=vl (pl F.m p.acc) p.k:=o4.vl (.inr (.inr (by simp only[Pw.cur,Pw.acc];omega))) Cz;have O:vl (pl Y.m p.cur) p.k=A^(F.r (p.B+1)).toNat*18446744073709551616^p.k%N:=by rw[Vd (g:=pl F.m (p.en (F.r (p.B+1)).toNat)) (V d3)];exact U _ d3
    obtain⟨f5,q5⟩:=v5 (H4.2 (T G)).1 (by rw[I,Q];exact Kg _ H);have q5:=q5 M z;rw[I,Q,O,zmw z,←K7]at q5;have w5:=L f5 (λq j=>by simp at j;rcases j with rfl|rfl<;>simp only[Pw.acc,Pw.t,Lj]<;>omega);refine⟨gB.trans w5,λe he=>?_,h*2^p.w+(F.r (p.B+1)).toNat,q5,?_⟩
    ·have gz:=zss (p:=p) he;rw[f5.vl (λq j=>by simp at j;rcases j with rfl|rfl<;>exact .inr (.inl Cs)) Ca,o4.vl (.inr (.inl (by simp only[Pw.cur,Pw.en];omega))) Ca];exact U e he
    ·rw[Iv i,J5,b4,f5.vl (λq j=>by simp at j;rcases j with rfl|rfl<;>first|exact .inr (.inl Dq)|exact .inr (.inr (by simp only[Pw.t,Pw.es];omega))) Ei,o4.vl (.inr (.inl (by simp only[Pw.cur,Pw.es];omega))) Ei]
  ·obtain⟨P,_,h,Q,b4⟩:=v2 G;have hv:=Wq (pl K.m p.es) (p.b.k+1);have hh:h=Eb:=y8 b4 (by rw[gF,hT,←K7];congr 1;omega) hv;rw[hh]at Q;exact⟨P,Q⟩
 ·refine .op Vl ?_;rw[Zu];refine (zs1 (a:=p.B) (D:=D) iC J).cat λF ⟨g3,o3,v3⟩=>?_
  have gH:=iC.1;simp only[Pw.cur]at gH;refine .op (zq1 (p:=p.cur) Bi iC.2) ?_;rw[Zu];refine (zfc B (E:=D) J B.d Z iC B.dk rfl rfl B.dn (.inl B.db) (.inr (.inr A6)) (.inr (.inr Ds))).mono λY ⟨g4,V⟩ G=>?_
  obtain⟨P,U⟩:=v2 G;simp only[M3,Ou]at o3 v3;rw[Hv J,z2]at v3;have r3:F.r (p.B+3)=1:=by rw[g3 _ J,M3,H7 rfl]
  rw[r3]at V;have gC:Nk p.cur K.m (F.sto p.cur.b (p.cur.a+0) 1).m:=o3.trans (We Bi);have w3:=L (gC.fm (l:=[p.cur]) (by simp)) (λq j=>Fl);have gD:=P.trans w3;obtain⟨H4,N4,A4,_⟩:=qk B gD;obtain⟨M,z⟩:=zzm hk (T G);have H:=W9 (T G);rw[N4,hN]at V;rw[hN]at z H;have I:vl (pl (F.sto p.cur.b (p.cur.a+0) 1).m p.acc) p.k=vl (pl K.m p.acc) p.k:=gC.vl (.inr (.inr (by simp only[Pw.cur,Pw.acc];omega))) Cz;have O:vl (pl (F.sto p.cur.b (p.cur.a+0) 1).m p.cur) p.k=1:=by
   obtain⟨k,gI⟩:∃k,p.k=k+1:=⟨p.k-1,J⟩;rw[gI,zoh,Q9,H7 rfl,zi5 λi hi=>by rw[Q9,Hv J];exact v3 (i+1) Bi];rfl
  obtain⟨f4,X⟩:=V (H4.2 (T G)).1 (by rw[I,U];exact Kg _ H);have X:=X M z;rw[I,U,O,ly z]at X;refine⟨(gD.mono (by simp)).trans λx y hn=>f4 x y λq j=>?_,X⟩;simp at j;rcases j with rfl|rfl
  ·exact hn _ (by simp)
  ·rintro⟨h1,h2,h3⟩;refine hn p.wk (by simp) ⟨h1,?_,?_⟩
   ·simp only[Pw.wk,Pw.t]at *;omega
   ·simp only[Pw.wk,Pw.t]at *;omega
def tg(g:PwS sz p){D:Nat}(hD:D+3<8) :
  Tx sz (p.code D) s λK=>p.H s.m→Fm [p.wk,p.d] s.m K.m∧vl (pl K.m p.d) p.k=vl (pl s.m p.a) p.k^vl (pl s.m p.b) p.b.k%vl (pl s.m p.n) p.k:=by
 have hB:=g.B;have X:=zq p;unfold Pw.code;refine .op Vl ?_;rw[Zu];refine (o6 g (D:=D) J (by rw[M3,H7 rfl])).cat λL ⟨M,B⟩=>?_
 rw[Ou]at B;refine (exp_ex g (D:=D) J M).cat λE ⟨Y,O,Z⟩=>?_
 have z2:E.r p.B=0:=by rw[Y p.B J J,M]
 have P:Fm [p.wk] L.m E.m:=(O.fm (l:=[p.es]) (by simp)).inn λq Q=>by
  simp at Q;subst Q;exact pi rfl Ay Ay
 obtain⟨H2,R,T,B2⟩:=qk g P;refine (run_ex (C:=p.H s.m) g (D:=D) (A:=vl (pl E.m p.a) p.k) (N:=vl (pl E.m p.n) p.k) (Eb:=vl (pl L.m p.b) p.b.k) (λj=>?_) J z2 rfl λj=>?_).mono λs3 h3 j=>?_
 ·obtain⟨z,F⟩:=B j;obtain⟨G,_⟩:=qk g z;exact H2.2 (G.2 j)
 ·obtain⟨z,F⟩:=B j;obtain⟨G,H,I,U⟩:=qk g z;refine⟨λe he=>?_,Z⟩;have gg:=zss (p:=p) he;rw[O.vl (.inr (.inl (by simp only[Pw.es,Pw.en];omega))) Ca,T,I,R,H];exact F e he
 ·obtain⟨z,F⟩:=B j;obtain⟨G,H,I,U⟩:=qk g z;obtain⟨f3,V⟩:=h3 j;rw[T,I,R,H,U]at V;exact⟨((z.trans P).mono (by simp)).trans f3,V⟩
end ex
end
section
set_option linter.unusedSimpArgs false
section stp
def Ue{d times:Int}{b:Fr Lo}{T M:Nat}(g:times≤T)(j:T≤1000000)(z:b.stp≤M):(Og d times b).stp≤T*(1+M) :=
 Ja (stp_lp d times b J) (Jw J J)
def ow{d a b n t:Pc}{k:Int}(D:k≤3)(E:t.size≤5):(W1 d a b n t k z B).stp≤500:=by
 unfold W1 Tj To Xr Vt Si;have j:∀z B g:Int,(M5 (Ts a t z g)).stp≤8:=λz B g=>by simp[R3,Ts,Nr]
 have A:∀z B g:Int,(M5 (Up n t z g)).stp≤8:=λz B g=>by simp[R3,Up,Nr]
 have F:=Ue (d:=B+1) (times:=k) (T:=3) J J (j z B (B+1));have G:=Ue (d:=B+1) (times:=k-1) (T:=3) J J (A z B (B+1));have H:=Ue (d:=B) (times:=k) (T:=3) (M:=100) (b:=((M5 [M9 (z+2) b B 0,cK (z+3) 0]).cat ((Og (B+1) k (M5 (Ts a t z (B+1)))).cat (M5 (Om t k z++[Nd t (-1) k (z+7),Nd t (-1) (k+1) (z+8)])))).cat ((M5 ([M9 (z+7) t (-1) 0,Np (z+5) (z+10) (z+7) (z+1),M9 (z+4) n (-1) 0,cK (z+3) 0]++Nr z (z+10) (z+4))).cat
  ((Og (B+1) (k-1) (M5 (Up n t z (B+1)))).cat (M5 (Om t k z++[Nd t (-1) (k-1) (z+7),M9 (z+7) t (-1) (k+1),M1 3 (z+7) (z+7) (z+8),Nd t (-1) k (z+7)]))))) J J (by
   simp only[stp_cat,R3,Nr,Om,H8,Ig,Iw];omega)
 have I:=Ue (d:=B) (times:=t.size) (T:=5) (M:=1) (b:=M5 [Nd t B 0 z]) J J Cw;have K:=Ue (d:=B) (times:=k) (T:=3) (M:=3) (b:=M5 (T7 n t z B++[])) J J (by simp[R3,T7]);have L:=Ue (d:=B) (times:=k) (T:=3) (M:=5) (b:=M5 (T7 n t z B++[Ns (z+6) (z+10) (z+7) (z+6),Nd d B 0 (z+6)])) J J (by simp[R3,T7]);have C:=zoa (z+10) (z+1);simp only[stp_cat,R3,H8,Ig,Iw,C]at *;omega
def zp8{d n r:Pc}{k bits:Int}(g:k≤3)(j:r.size≤4)(A:bits≤400):(Ww d n r k bits z B).stp≤40000:=by
 unfold Ww Si ay;have C:=Ue (d:=B) (times:=r.size) (T:=4) (M:=1) (b:=M5 [Nd r B 0 z]) J J Cw;have D:=Ue (d:=B) (times:=k) (T:=3) (M:=2) (b:=M5 [M9 (z+2) r B 0,Nd d B 0 (z+2)]) J J Cw;have E:=Ue (d:=B) (times:=bits+1) (T:=401) (M:=90) (b:=ga n r k z (B+1)) J J (by
  unfold ga V9 Zs;have F:=Ue (d:=B+1) (times:=k+1) (T:=4) (M:=6) (b:=M5 [M9 (z+2) r (B+1) 0,Qu 9 (z+3) (z+2) 63,Qu 8 (z+2) (z+2) 1,M1 6 (z+2) (z+2) (z+1),Nd r (B+1) 0 (z+2),Qk (z+1) (z+3)]) J J Cw;have G:=Ue (d:=B+1) (times:=k) (T:=3) (M:=3) (b:=M5 (Vh n r z (B+1)++[])) J J (by simp[R3,Vh]);have H:=Ue (d:=B+1) (times:=k) (T:=3) (M:=5) (b:=M5 (Vh n r z (B+1)++[Ns (z+4) (z+6) (z+2) (z+4),Nd r (B+1) 0 (z+4)])) J J (by simp[R3,Vh]);simp only[stp_cat,R3,Ig,Iw];omega)
 simp only[stp_cat,R3,Ig,Iw];omega
def Pw.stp{p:Pw}{D:Int}(hk:p.k≤3)(hw:p.w≤6)(ht:p.times≤64)(hb:p.b.k≤2):(p.code D).stp≤1000000:=by
 have gg:=ew hw;have mo:∀(d a b:Pn) (E:Int),(p.mont d a b E).stp≤500:=λd a b E=>ow J (by simp only[Pn.p,Pw.t];omega)
 have ra:∀(d:Pn) (bits:Int),bits≤400→(p.radix d bits D).stp≤40000:=λd bits h=>zp8 J (by simp only[Pn.p,Pw.r];omega) h
 have cp:∀(to fr:Pn),(p.copies to fr D).stp≤9:=λto fr=>by
  unfold Pw.copies ay;exact Ue (T:=3) (M:=2) J J Cw
 unfold Pw.code;have a1:(p.fill D).stp≤200000:=by
  unfold Pw.fill;have b1:=Ue (d:=D) (times:=(2^p.w-1:Nat)) (T:=64) (M:=600) (b:=p.fillR D) J J (by
   unfold Pw.fillR;have c1:=mo p.acc p.acc p.base (D+1);have c2:=Ue (d:=D+1) (times:=p.k) (T:=3) (M:=3) (b:=M5 [M9 (p.B+3) p.acc.p (D+1) 0,M1 3 13 12 (D+1),Nd p.tab.p 13 0 (p.B+3)]) J J Cw;simp only[stp_cat,R3,Ig,Iw];omega)
  have b2:=ra p.ent (64*p.k) J;have b3:=ra p.cur (128*p.k) J;have b4:=mo p.base p.a p.cur D;have b5:=cp p.acc p.ent;simp only[stp_cat,R3,Ig,Iw];omega
 have a2:(p.exp D).stp≤100:=by
  unfold Pw.exp;have b1:=Ue (d:=D) (times:=p.b.k) (T:=2) (M:=5) (b:=M5 (p.expB D)) J J (by unfold Pw.expB;split<;>simp[R3]);have b2:(M5 p.expE).stp≤1:=by unfold Pw.expE;split<;>simp[R3]
  simp only[stp_cat,R3,Ig,Iw]at *;omega
 have a3:(p.run D).stp≤500000:=by
  unfold Pw.run;have b0:∀E:Int,(p.shift E).stp≤30:=λE=>by
   unfold Pw.shift Zs;have:=Ue (d:=E) (times:=p.es.k) (T:=3) (M:=6) (b:=M5 [M9 (p.B+3) p.es.p E 0,Qu 9 (p.B+4) (p.B+3) 63,Qu 8 (p.B+3) (p.B+3) 1,M1 6 (p.B+3) (p.B+3) (p.B+2),Nd p.es.p E 0 (p.B+3),Qk (p.B+2) (p.B+4)]) Ay J Cw;simp only[stp_cat,R3,Ig,Iw];omega
  have b1:=Ue (d:=D) (times:=p.times) (T:=64) (M:=6500) (b:=p.runR (D+1)) J J (by
   unfold Pw.runR;have c1:=Ue (d:=D+1) (times:=p.w) (T:=6) (M:=600) (b:=p.runW (D+1+1)) J J (by
    unfold Pw.runW;have:=mo p.acc p.acc p.acc (D+1+1);have:=b0 (D+1+1);simp only[stp_cat];omega)
   have c2:(p.scan (D+1)).stp≤2000:=by
    unfold Pw.scan;have d1:=Ue (d:=D+1) (times:=(2^p.w:Nat)) (T:=64) (M:=25) (b:=p.scanR (D+1)) J J (by
     unfold Pw.scanR;have:=Ue (d:=D+1+1) (times:=p.k) (T:=3) (M:=5) (b:=M5 (p.scanB (D+1+1))) J J (by simp[R3,Pw.scanB]);simp only[stp_cat,R3,Ig,Iw];omega)
    simp only[stp_cat,R3,Ig,Iw];omega
   have c3:=mo p.acc p.acc p.cur (D+1);simp only[stp_cat,R3,Ig,Iw];omega)
  have b2:=cp p.acc p.ent;have b3:=mo p.d p.acc p.cur D;have b4:(Si p.cur.p p.B D).stp≤6:=by
   unfold Si;exact Ue (T:=3) (M:=1) (by simp only[Pn.p,Pw.cur];omega) J Cw
  simp only[stp_cat,R3,Ig,Iw];omega
 simp only[stp_cat,R3,Ig,Iw];omega
end stp
noncomputable def Pw.prog(p:Pw)(e:Nat):Fr Lo:=Z7 e 0 (p.code e)
section prog
variable {p : Pw} {e : Nat} {c : Cf} {bs : List Bf} {sz : Nat → Nat} {s0 : Fs}
def Pw.prog_all(h:PwC c p)(h0:c.lo=0)(h7:c.hi=7)(he:e≤4):(p.prog e).AllH c 0:=by
 refine wrap_allH e 0 _ J J ?_;rw[Int.zero_add];exact Pw.all h J
def Pw.prog_gd(h:PwG bs p)(he:e≤4):Gd bs [] [] (p.prog e) []:=by
 refine zsg e 0 [] _ J J rfl N λls h1 h2=>?_
 rw[Int.zero_add]at h1 h2;exact Pw.gd h ⟨J,h2⟩ J (λx hx=>by cases hx)
def Pw.prog_stp(he:e≤4)(hk:p.k≤3)(hw:p.w≤6)(ht:p.times≤64)(hb:p.b.k≤2):(p.prog e).stp≤16777216:=by
 unfold Pw.prog;rw[wrap_stp];have:=Pw.stp (p:=p) (D:=e) hk hw ht hb;omega
def Pw.prog_chk(h:PwG bs p)(he:e≤4)(h1:bs.length≤32)(h3:∀b∈bs,1≤b.size∧b.size≤65536∧1≤b.kind∧b.kind≤3)(hl:(p.prog e).flat.length≤65536):(Qw ((64:Nat):Int) bs (p.prog e).flat).2=0:=by
 have:=Yt (bs:=bs) (f:=p.prog e) (S':=[]) h1 hl h3 (Pw.prog_gd h he);rw[show (((64:Nat):Int))=64 from rfl,this]
def Pw.prog_ex(hp:PwS sz p)(he:e≤4):Tx sz (p.prog e) s0 λs'=>p.H s0.m→Fm [p.wk,p.d] s0.m s'.m∧vl (pl s'.m p.d) p.k=vl (pl s0.m p.a) p.k^vl (pl s0.m p.b) p.b.k%vl (pl s0.m p.n) p.k:=by
 refine zt1 e 0 _ _ λs hs=>?_
 have hh:=tg (sz:=sz) (s:=s) hp (D:=e) J;rw[hs]at hh;exact hh
end prog
end
section
set_option linter.unusedSimpArgs false
def Pl(k:Nat):List Bf:=[⟨2*((k:Int)+1),2,true⟩,⟨(k:Int)+2,3,true⟩]
def Q3(k i:Nat):Pn:=⟨0,i*(k+1),k+1⟩
def Sy(k:Nat):Pn:=⟨1,0,k+2⟩
noncomputable def Sn(k e r bits:Nat):Fr Lo:=Ww (Q3 k 0).p (Q3 k 1).p (Sy k).p ((k+1:Nat):Int) (bits:Nat) ((16+r:Nat):Int) (e:Nat)
noncomputable def Q7(k e r bits:Nat):Fr Lo:=Z7 e 0 (Sn k e r bits)
def Uh(r:Nat)(lo hi:Int):Cf:=⟨2,((16+r:Nat):Int),11,lo,hi,9,8,λm=>m<2,λm=>m<2⟩
section rx
variable {k e r bits : Nat} {lo hi : Int}
def ot(g:r≤34)(h:0≤lo∧hi<8):CfOk (Uh r lo hi):=⟨by simp only[Uh];omega,h,by simp[Uh]⟩
def zvv(g:k≤2)(j:bits≤300)(h:lo≤e∧(e:Int)+1≤hi):(Sn k e r bits).AllH (Uh r lo hi) e:=by
 unfold Sn;exact zlv ⟨Me _,Me _⟩ ⟨Gj,Gj⟩ ⟨Gj,Gj⟩ ⟨Gi,Gi⟩ ⟨Gi,Gi⟩ J J (by simp only[Sy];omega) h
def ud(B:k≤2)(z:bits≤300):∀o∈(Sn k e r bits).flat,∀x∈[o.d,o.e,o.a,o.b,o.c],x=-1∨(16+(r:Int)≤x∧x<16+r+14)∨((e:Int)≤x∧x≤e+1):=by
 intro o ho;have h:=allH_flat (zvv (lo:=e) (hi:=(e:Int)+1) (k:=k) (e:=e) (r:=r) (bits:=bits) B z ⟨Me _,Me _⟩) o ho;have g:∀{x:Int},Tf (Uh r e ((e:Int)+1)) x→x=-1∨(16+(r:Int)≤x∧x<16+r+14)∨((e:Int)≤x∧x≤e+1):=λh=>by
  simp only[Tf,Qz,T4,Uh]at h;omega
 rcases h with h|rfl|⟨C,⟨_,D,E,F,G,H,_⟩,I,K⟩
 ·have L:=g h.a;have z:=g h.b;have M:=g h.z;have A:(o.d=-1∨Qz (Uh r e ((e:Int)+1)) o.d)∧(o.e=-1∨Qz (Uh r e ((e:Int)+1)) o.e):=by
   rcases h.m with ⟨m1,O,_⟩|⟨_,m1,_⟩
   ·exact⟨m1,O⟩
   ·simp only[Uh]at m1;omega
  simp only[Qz,Uh]at A;intro x j;simp only[If,J2,Lu]at j;rcases j with rfl|rfl|rfl|rfl|rfl
  ·omega
  ·omega
  ·exact L
  ·exact z
  ·exact M
 ·intro x j;simp[Um]at j;omega
 ·intro x j;simp only[Uh]at I K;simp only[D,E,F,G,H,If,J2,Lu]at j;omega
def ztp(g:k≤2)(j:bits≤300)(he:e≤6):(Q7 k e r bits).AllH (Uh r 0 7) 0:=by
 refine wrap_allH e 0 _ (Me _) (by simp only[Uh];omega) ?_;rw[Int.zero_add];exact zvv g j ⟨J,J⟩
def bpQ(g:k≤2):Bp (Pl k) (Q3 k 0)∧Bp (Pl k) (Q3 k 1)∧Bp (Pl k) (Sy k)∧Bw (Pl k) (Q3 k 0)∧Bw (Pl k) (Sy k):=by
 refine⟨⟨by simp[Pl,Q3],Do,Do⟩,⟨by simp[Pl,Q3],Do,Do⟩,⟨by simp[Pl,Sy],by simp[Pl,Sy,Ng],by simp[Pl,Sy,Ng];omega⟩,by simp[Bw,Pl,Q3,Ng],by simp[Bw,Pl,Sy,Ng]⟩
def tq(j:k≤2)(G:bits≤300)(he:e≤6)(H:r≤34):Gd (Pl k) [] [] (Q7 k e r bits) []:=by
 obtain⟨z,A,B,C,D⟩:=bpQ j;refine zsg e 0 [] _ J J rfl N λI E g=>?_
 rw[Int.zero_add]at E g;exact zvq ⟨J,g⟩ J (λx F=>Gq) J z C A B D (by simp only[Sy];omega) J
def lq(g:k≤2)(j:bits≤300)(he:e≤6):(Q7 k e r bits).stp≤16777216:=by
 unfold Q7;rw[wrap_stp];have:(Sn k e r bits).stp≤40000:=zp8 J (by simp only[Sy,Pn.p];omega) J;omega
def sv{c:List UInt64}(M:k≤2)(O:bits≤300)(he:e≤6)(H:c.length=k+1)(E:0<val c) :
  Tx (Uy (On 64 (Pl k) [List.replicate (k+1) 0++c,[]])) (Q7 k e r bits) (Q0 (On 64 (Pl k) [List.replicate (k+1) 0++c,[]])) λt =>
   (∀i,i<k+1→t.m 0 (k+1+i)=c.getD i 0)∧vl (λi=>t.m 0 i) (k+1)=2^bits%val c:=by
 generalize z:List.replicate (k+1) 0++c=g;have F:g.length=2*(k+1):=by rw[←z];simp[H];omega
 have B:∀i,g.getD (k+1+i) 0=c.getD i 0:=λi=>by
  rw[←z,Hy,Il N,Hy];simp
 have A:(On 64 (Pl k) [g,[]]).bufs=[g,List.replicate (k+2) 0]:=by
  simp[On,R9,Pl,List.range_succ,T9,Ng,F];omega
 have j:Uy (On 64 (Pl k) [g,[]]) 0=2*(k+1):=by unfold Uy;rw[A];simpa using F
 have C:Uy (On 64 (Pl k) [g,[]]) 1=k+2:=by unfold Uy;rw[A];simp
 have hm:∀i,(Q0 (On 64 (Pl k) [g,[]])).m 0 i=g.getD i 0:=λi=>by simp[Q0,A]
 generalize On 64 (Pl k) [g,[]]=st at *;have I:vl (pl (Q0 st).m (Q3 k 1)) (k+1)=val c:=by
  refine vl_get J λi hi=>?_
  show (Q0 st).m 0 (1*(k+1)+i)=_;rw[J5,hm,B]
 refine zt1 e 0 _ _ λs K=>?_
 have G:=zn7 (sz:=Uy st) (s:=s) (R:=16+r) (D:=e) (k:=k+1) (bits:=bits) (d:=Q3 k 0) (n:=Q3 k 1) (r:=Sy k) J ⟨C9,C9⟩ ⟨C9,C9⟩ ⟨by simp only[Sy,C];omega,by simp only[Sy,C];omega⟩ (H9 _) (H9 _) rfl (.inl (by simp[Q3,Sy])) (.inl (by simp[Q3,Sy])) J;rw[K]at G;refine G.mono λt ⟨_,L,hv⟩=>⟨λi hi=>?_,?_⟩
 ·have:=L 0 (k+1+i) (λp E=>by
   simp only[If,J2,Lu]at E;rcases E with rfl|rfl
   ·simp only[Q3];omega
   ·simp[Sy])
  rw[this,hm,B]
 ·rw[I]at hv;rw[←hv E];exact Vd λi _=>by simp[pl,Q3]
def rx_out{c:List UInt64}{D:Ms}{t:Fs}(K:c.length=k+1)(I:vZ.length=2*(k+1))(j:Rep (Pl k).length (Uy (On 64 (Pl k) [vZ,[]])) D t)(L:∀i,i<k+1→t.m 0 (k+1+i)=c.getD i 0)(M:vl (λi=>t.m 0 i) (k+1)=2^bits%val c) :
  ∃o E,D.bufs=[o,E]∧o.length=2*(k+1)∧o.drop (k+1)=c∧val (o.take (k+1))=2^bits%val c:=by
 have F:(On 64 (Pl k) [vZ,[]]).bufs=[vZ,List.replicate (k+2) 0]:=by
  simp[On,R9,Pl,List.range_succ,T9,Ng,I];omega
 have A:Uy (On 64 (Pl k) [vZ,[]]) 0=2*(k+1):=by unfold Uy;rw[F];simpa using I
 have G:=j.bl;have g:=j.len 0 (by simp[Pl]);have z:=λn=>j.m 0 n (by simp[Pl])
 rw[A]at g;simp only[A]at z;generalize D.bufs=B at *
 match B,G with
 |[o,E],_ =>
  simp only[List.getD_cons_zero]at g z;refine⟨o,E,rfl,g,?_,?_⟩
  ·refine List.ext_getElem (by simp[g,K];omega) λi O H=>?_
   have hi:i<k+1:=J
   have C:=(z (k+1+i) J).trans (L i hi);simp only[Hy,H6 (J:k+1+i<o.length),H6 H,Ju]at C;simpa using C
  ·rw[←M];refine (vl_get (by simp[g];omega) λi hi=>?_).symm;have C:=z i J;rw[←C];simp[Hy,List.getElem?_take,hi]
end rx
end
section
def Vb(vs:List Vr):List Bf:=vs.map λv=>⟨v.limbs,2,v.sec⟩
def Uo(vs:List Vr):List Pc:=(List.range vs.length).map λi:Nat=>⟨(i:Int),0,(gv vs i).limbs⟩
def Qg(vs:List Vr)(W:Int):List Bf:=Vb vs++[⟨W,2,false⟩,⟨W,2,true⟩]
section pl
variable {vs : List Vr} {W : Int} {i : Nat}
def plB_len:(Qg vs W).length=vs.length+2:=by simp[Qg,Vb]
def plP_len:(Uo vs).length=vs.length:=by simp[Uo]
def xq(hi:i<vs.length):Ng (Qg vs W) i=⟨(gv vs i).limbs,2,(gv vs i).sec⟩:=by
 have h:=Vx hi;have e:vs[i]=gv vs i:=by rw[H6 hi]at h;exact Option.some.inj h
 unfold Ng Qg Vb;rw[Hy,Ie Dh,Jy,H6 hi,e];rfl
def plB_w0:Ng (Qg vs W) vs.length=⟨W,2,false⟩:=by
 unfold Ng Qg Vb;rw[Hy,Il N];simp
def plB_w1:Ng (Qg vs W) (vs.length+1)=⟨W,2,true⟩:=by
 unfold Ng Qg Vb;rw[Hy,Il N];simp
def zoy(hi:i<vs.length):Pz (Uo vs) i=⟨i,0,(gv vs i).limbs⟩:=by
 unfold Pz Uo;rw[Hy,Jy,List.getElem?_range hi];rfl
def fj(hv:Sm vs=true)(hi:i<vs.length):1≤(gv vs i).limbs∧(gv vs i).limbs≤512:=by
 obtain⟨k,e,_,_,g,j⟩:=zc5 hv (v:=(i:Int)) J;unfold Rq at g j;rw[Is]at g j;exact⟨g,j⟩
def mem_gv{v:Vr}(h:v∈vs):∃i,i<vs.length∧gv vs i=v:=by
 obtain⟨i,hi,e⟩:=Kb.1 h;have h:=Vx hi;rw[H6 hi,e]at h;exact⟨i,hi,(Option.some.inj h).symm⟩
def zrw(hv:Sm vs=true)(z:1≤W∧W≤32768):∀b∈Qg vs W,1≤b.size∧b.size≤65536∧1≤b.kind∧b.kind≤3:=by
 intro b g;unfold Qg Vb at g;rcases Ip.1 g with g|g
 ·obtain⟨v,j,rfl⟩:=Mn.1 g;obtain⟨i,hi,rfl⟩:=mem_gv j;have:=fj hv hi;simp only;omega
 ·simp at g;rcases g with rfl|rfl<;>simp only<;>omega
def zw3(hv:Sm vs=true)(hm:∀i,i<vs.length→(gv vs i).mode=0)(C:vs.length≤30)(B:1≤W∧W≤32768):Vj vs (Qg vs W) (Uo vs) ⟨vs.length,0,W⟩ ⟨(vs.length:Int)+1,0,W⟩=true:=by
 have g:=zrw hv B;have j:ft (Qg vs W)=0:=by
  unfold ft;rw[plB_len,Hv J,Hv,Hv]
  ·rw[I9];rintro⟨b,j,z⟩;have:=g b j;simp at z;omega
  ·rw[I9];rintro⟨b,j,z⟩;have:=g b j;simp at z;omega
 unfold Vj;rw[hv,j,plB_len,plP_len];simp only[Mc,decide_true,Hw,Ib];refine⟨J,?_,?_,?_⟩
 ·refine Jx.2 λi hi=>?_
  have hi:=J9.1 hi;have D:=fj hv hi;have A:=hm i hi;have e:((⟨i,0,(gv vs i).limbs⟩:Pc).buf.toNat)=i:=N
  unfold eo V5;rw[zoy hi,e,xq hi,plB_len];simp[Sc,A];omega
 ·have e:((⟨vs.length,0,W⟩:Pc).buf.toNat)=vs.length:=N
  unfold V2 V5;rw[e,plB_w0,plB_len];simp;omega
 ·have e:((⟨(vs.length:Int)+1,0,W⟩:Pc).buf.toNat)=vs.length+1:=A8
  unfold V2 V5;rw[e,plB_w1,plB_len];simp;omega
end pl
section st
variable {bs : List Bf} {X : List (List UInt64)} {i : Nat}
def zkn(h:((X.getD i []).length:Int)=(Ng bs i).size)(hi:i<bs.length):(On 64 bs X).bufs.getD i []=X.getD i []:=by
 show (R9 bs X bs.length).getD i []=_;unfold R9;rw[Hy,Jy,List.getElem?_range hi];simp only[J6,Ju];unfold T9;rw[(J:(Ng bs i).size.toNat-(X.getD i []).length=0)];simp
def znz(h:((X.getD i []).length:Int)=(Ng bs i).size)(hi:i<bs.length):Uy (On 64 bs X) i=(Ng bs i).size.toNat:=by
 unfold Uy;rw[zkn h hi];omega
def zzf(h:((X.getD i []).length:Int)=(Ng bs i).size)(hi:i<bs.length)(g:Nat):(Q0 (On 64 bs X)).m i g=(X.getD i []).getD g 0:=by
 show ((On 64 bs X).bufs.getD i []).getD g 0=_;rw[zkn h hi]
def iw{p:Pn}(h:((X.getD p.b []).length:Int)=(Ng bs p.b).size)(g:Bp bs p):p.in_ (Uy (On 64 bs X)):=by
 have z:=g.s;have A:=g.z;have j:=znz h g.b;unfold Pn.in_;rw[j];constructor
 ·omega
 ·exact_mod_cast (J:(Ng bs p.b).size.toNat≤65536)
def zms{p:Pn}{n:Nat}(h:((X.getD p.b []).length:Int)=(Ng bs p.b).size)(g:p.b<bs.length)(j:p.a=0)(z:(X.getD p.b []).length=n):vl (pl (Q0 (On 64 bs X)).m p) n=val (X.getD p.b []):=by
 refine vl_get (K2 z) λi hi=>?_
 show (Q0 (On 64 bs X)).m p.b (p.a+i)=_;rw[j,Ix,zzf h g]
end st
end
end Go.Sv
