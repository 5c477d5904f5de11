/- Texts of the evaluator, of the logic over it, of plain arithmetic. -/
import Derived.Test.YtodjkjimaheggaaGreatSvG3
set_option linter.unusedSimpArgs false
set_option linter.defProp false
namespace Go.Sv
variable{g j A D:Nat}{z B:Int}
section
set_option linter.unusedSimpArgs false
section ex
variable {sz : Nat → Nat} {s : Fs} {p : Pw}
def Pw.H(p:Pw)(m:Nat→Nat→UInt64):Prop:=pl m p.n 0%2=1∧vl (pl m p.a) p.k<vl (pl m p.n) p.k
def xq{m z:Nat→Nat→UInt64}(j:PwS sz p)(h:Fm [p.wk] m z):(p.H z↔p.H m)∧vl (pl z p.n) p.k=vl (pl m p.n) p.k∧vl (pl z p.a) p.k=vl (pl m p.a) p.k∧vl (pl z p.b) p.b.k=vl (pl m p.b) p.b.k:=by
 have I:=j.k;have D:=j.nk;have E:=j.ak;have A:∀q∈[p.wk],Dj q p.n:=λq g=>by simp at g;subst g;exact .inl j.nb.symm
 have F:∀q∈[p.wk],Dj q p.a:=λq g=>by simp at g;subst g;exact .inl j.ab.symm
 have G:∀q∈[p.wk],Dj q p.b:=λq g=>by simp at g;subst g;exact .inl j.bb.symm
 have B:=h.vl A (n:=p.k) J;have C:=h.vl F (n:=p.k) J;have H:=h.vl G (n:=p.b.k) J;refine⟨?_,B,C,H⟩;unfold Pw.H;rw[B,C,h.pl A J]
def Xv{m:Nat→Nat→UInt64}(h:p.H m):0<vl (pl m p.n) p.k:=by have:=h.2;omega
def Xi{m:Nat→Nat→UInt64}(C:1≤p.k)(h:p.H m):∃g,18446744073709551616^p.k*g%vl (pl m p.n) p.k=1%vl (pl m p.n) p.k:=by
 have ho:vl (pl m p.n) p.k%2=1:=by
  obtain⟨k,j⟩:∃k,p.k=k+1:=⟨p.k-1,J⟩;rw[j,zqj];have z:=congrArg UInt64.toNat h.1;rw[UInt64.toNat_mod]at z;have A:((2:UInt64)).toNat=2:=rfl;have B:((1:UInt64)).toNat=1:=rfl;rw[A,B]at z;omega
 rw[powW];exact⟨_,odd_inv ho _⟩
def pu{q:Pn}(g:q.b=p.wb)(j:p.wa≤q.a)(z:q.a+q.k≤p.wa+(4*p.k+p.b.k+3+p.k*2^p.w)):q.b=p.wk.b∧p.wk.a≤q.a∧q.a+q.k≤p.wk.a+p.wk.k:=⟨g,j,z⟩
def vu(z:PwS sz p){D:Nat}(hD:D+2<8)(hz:s.r p.B=0) :
  Tx sz (p.fill D) s λY=>Y.r p.B=0∧(p.H s.m→Fm [p.wk] s.m Y.m∧∀e,e<2^p.w→vl (pl Y.m (p.en e)) p.k=vl (pl s.m p.a) p.k^e*18446744073709551616^p.k%vl (pl s.m p.n) p.k):=by
 have hB:=z.B;have hk:=z.k;have gF:=z.nk;have Z:=z.ak;have gG:=ko z.w.2;have gH:=zi2 p;have gI:=z.wk;have gK:=z.kb;have gE:0<2^p.w:=Kn _;have iA:p.acc.in_ sz:=Yk z rfl Ev;have iB:p.base.in_ sz:=Yk z rfl (by simp only[Pw.base];omega);have iC:p.cur.in_ sz:=Yk z rfl Bk;have iE:p.ent.in_ sz:=Yk z rfl Dm;have iR:p.r.in_ sz:=Yk z rfl (by simp only[Pw.r,Pw.t];omega);have e0:p.en 0=p.ent:=by simp[Pw.en,Pw.ent,Pw.tab]
 have B:∀{l:List Pn} {m m':Nat→Nat→UInt64},Fm l m m'→(∀q∈l,q.b=p.wb∧p.wa≤q.a∧q.a+q.k≤p.wa+(4*p.k+p.b.k+3+p.k*2^p.w))→Fm [p.wk] m m':=λh j=>h.inn λq h1=>pu (j q h1).1 (j q h1).2.1 (j q h1).2.2
 have e:p.fill D=(Yt p.ent.p p.n.p p.r.p p.k ((64*p.k:Nat):Int) ((p.B+10:Nat):Int) D).cat ((Yt p.cur.p p.n.p p.r.p p.k ((128*p.k:Nat):Int) ((p.B+10:Nat):Int) D).cat ((p.mont p.base p.a p.cur D).cat ((ep p.acc.p p.ent.p p.k ((p.B+3:Nat):Int) D).cat ((Nd [cK ((12:Nat):Int) (iU p.k)]).cat (Oz D (2^p.w-1:Nat) ((p.mont p.acc p.acc p.base ((D+1:Nat):Int)).cat ((Oz ((D+1:Nat):Int) p.k (Nd [Nj (p.B+3) p.acc.p ((D+1:Nat):Int) 0,M8 3 13 12 ((D+1:Nat):Int),Nn p.tab.p 13 0 (p.B+3)])).cat (Nd [cK 13 (iU p.k),M8 3 12 12 13]))))))))  := by
  unfold Pw.fill Pw.fillR Pw.radix Pw.copies;rw[(J:(64:Int)*(p.k:Int)=((64*p.k:Nat):Int)),(J:(128:Int)*(p.k:Int)=((128*p.k:Nat):Int))];rfl
 rw[e];refine (zwv (R:=p.B+10) (k:=p.k) J iE z.n iR C6 J rfl (.inl z.nb.symm) (.inr (.inr (by simp only[Pw.ent,Pw.tab,Pw.r,Pw.t];omega))) J).cat λs1 ⟨g1,f1,v1⟩=>?_
 have w1:=B f1 (λq j=>by simp at j;rcases j with rfl|rfl<;>simp only[Pw.ent,Pw.tab,Pw.r,Pw.t,Lr]<;>omega);have z1:s1.r p.B=0:=by rw[g1 p.B J J J,hz]
 refine (zwv (R:=p.B+10) (k:=p.k) J iC z.n iR (by simp[Pw.cur]) J rfl (.inl z.nb.symm) (.inr (.inl (by simp only[Pw.cur,Pw.r,Pw.t];omega))) J).cat λs2 ⟨g2,f2,v2⟩=>?_
 have w2:=B f2 (λq j=>by simp at j;rcases j with rfl|rfl<;>simp only[Pw.cur,Pw.r,Pw.t,Lr]<;>omega);have z2:s2.r p.B=0:=by rw[g2 p.B J J J,z1]
 obtain⟨H1,N1,A1,_⟩:=xq z w1;obtain⟨H2,N2,A2,_⟩:=xq z w2;refine (zgm z (E:=D) J iB z.a iC rfl Z rfl (.inl (.inl z.nb.symm)) (.inr (.inl (by simp only[Pw.base,Pw.t];omega))) (.inl z.ab.symm) (.inr (.inr Dv))).cat λL ⟨g3,v3⟩=>?_
 have z3:L.r p.B=0:=by rw[g3 p.B J J J,z2]
 refine (oq (to:=p.acc) (fr:=p.ent) (k:=p.k) (l:=p.B+3) (D:=D) iA iE C7 C6 J (.inr (.inl Cs))).cat λH ⟨g4,o4,v4⟩=>?_
 have w4:=B (o4.fm (l:=[p.acc]) N) (λq j=>Ft);have z4:H.r p.B=0:=by rw[g4 p.B J J,z3]
 refine .op V9 ?_;rw[ao];have start:p.H s.m→Fm [p.wk] s.m H.m∧vl (pl H.m p.base) p.k=vl (pl s.m p.a) p.k*18446744073709551616^p.k%vl (pl s.m p.n) p.k∧vl (pl H.m p.acc) p.k=18446744073709551616^p.k%vl (pl s.m p.n) p.k∧vl (pl H.m p.ent) p.k=18446744073709551616^p.k%vl (pl s.m p.n) p.k:=λC=>by
  obtain⟨I,A⟩:=Xi hk C;have F:=Xv C;have q1:=v1 F;rw[N1]at v2;have q2:=v2 F;have M:=H2.2 (H1.2 C);obtain⟨f3,O⟩:=v3 M.1 M.2;rw[N2,N1,A2,A1]at O;have O:=O I A;have w3:=B f3 (λq j=>by simp at j;rcases j with rfl|rfl<;>simp only[Pw.base,Pw.t,Lr]<;>omega);have hP:(2:Nat)^(64*p.k)=18446744073709551616^p.k:=(powW _).symm;have gg:(2:Nat)^(128*p.k)=18446744073709551616^p.k*18446744073709551616^p.k:=by rw[←hP,←Kq];congr 1;omega
  rw[hP]at q1;rw[gg]at q2;rw[q2,mont_in A]at O;have P:vl (pl s2.m p.ent) p.k=vl (pl s1.m p.ent) p.k:=f2.vl (λq j=>by simp at j;rcases j with rfl|rfl<;>exact .inr (.inl (by simp only[Pw.cur,Pw.r,Pw.t,Pw.ent,Pw.tab];omega))) C6;have Q:vl (pl L.m p.ent) p.k=vl (pl s2.m p.ent) p.k:=f3.vl (λq j=>by simp at j;rcases j with rfl|rfl<;>exact .inr (.inl (by simp only[Pw.base,Pw.t,Pw.ent,Pw.tab];omega))) C6;have gz:vl (pl H.m p.ent) p.k=vl (pl L.m p.ent) p.k:=o4.vl (.inr (.inl Cs)) C6;have gA:vl (pl H.m p.base) p.k=vl (pl L.m p.base) p.k:=o4.vl (.inr (.inl (by simp only[Pw.acc,Pw.base];omega))) (by simp[Pw.base]);refine⟨(w1.trans w2).trans (w3.trans w4),by rw[gA,O],?_,by rw[gz,Q,P,q1]⟩;rw[V1 (g:=pl L.m p.ent) v4,Q,P,q1]
 refine (Tx.lp (λi G=>G.r p.B=0∧(G.r 12).toNat=(i+1)*p.k∧(p.H s.m→Fm [p.wk] s.m G.m∧vl (pl G.m p.base) p.k=vl (pl s.m p.a) p.k*18446744073709551616^p.k%vl (pl s.m p.n) p.k∧vl (pl G.m p.acc) p.k=vl (pl s.m p.a) p.k^i*18446744073709551616^p.k%vl (pl s.m p.n) p.k∧∀e,e≤i→vl (pl G.m (p.en e)) p.k=vl (pl s.m p.a) p.k^e*18446744073709551616^p.k%vl (pl s.m p.n) p.k))
  ⟨by rw[Na,Hx J,z4],by rw[Na,H7 rfl,V4 J];omega,λC=>?_⟩ J (λi G hi ⟨z5,r5,U⟩=>?_) λG ⟨z5,_,U⟩=>⟨z5,λC=>⟨(U C).1,λe he=>(U C).2.2.2 e J⟩⟩)
 ·obtain⟨a1,a2,a3,a4⟩:=start C;refine⟨a1,a2,by rw[Nat.pow_zero,Kb];exact a3,λe he=>?_⟩;have:e=0:=J
  subst this;rw[e0,Nat.pow_zero,Kb];exact a4
 ·refine (zgm z (E:=D+1) J iA iA iB rfl rfl rfl (.inl (.inl z.nb.symm)) (.inr (.inl A8)) (.inr (.inr A8)) (.inr (.inr (by simp only[Pw.base,Pw.t];omega)))).cat λV ⟨g6,v6⟩=>?_
  have z6:V.r p.B=0:=by rw[g6 p.B J J J,Na,Hx J,z5]
  have r6:(V.r 12).toNat=(i+1)*p.k:=by rw[g6 12 J J J,Na,Hx J,r5]
  refine (tq z (E:=D+1) (e:=i+1) J J r6).mono λs7 ⟨g7,X,r7,v7⟩=>⟨by rw[g7 p.B J J J J,z6],r7,λC=>?_⟩
  obtain⟨b1,b2,b3,b4⟩:=U C;obtain⟨H5,N5,A5,_⟩:=xq z b1;obtain⟨I,A⟩:=Xi hk C;have F:=Xv C;simp only[Pb]at v6;rw[N5]at v6;obtain⟨f6,K⟩:=v6 (H5.2 C).1 (by rw[b3];exact J1 _ F);have K:=K I A;rw[b2,b3]at K;have gC:=zpg (x:=vl (pl s.m p.a) p.k^i) (y:=vl (pl s.m p.a) p.k) A;rw[gC,←Iz]at K;have w6:=B f6 (λq j=>by simp at j;rcases j with rfl|rfl<;>simp only[Pw.acc,Pw.t,Lr]<;>omega);have gL:=zuo (p:=p) (e:=i+1) J;have w7:=B (X.fm (l:=[p.en (i+1)]) N) (λq j=>by simp at j;subst j;simp only[Pw.en,Lr];omega);have gD:∀e,e≤i→vl (pl V.m (p.en e)) p.k=vl (pl G.m (p.en e)) p.k:=λe he=>f6.vl (λq j=>by simp at j;rcases j with rfl|rfl<;>exact .inr (.inl Cy)) Ch
  have T:∀e,e≤i→e*p.k+p.k≤(i+1)*p.k:=λe he=>by
   have:=Ii p.k (J:e+1≤i+1);rw[Iu,Kb]at this;exact this
  refine⟨(b1.trans w6).trans w7,?_,?_,λe he=>?_⟩
  ·rw[X.vl (.inr (.inr (by simp only[Pw.en,Pw.base];omega))) (by simp[Pw.base]),f6.vl (λq j=>by simp at j;rcases j with rfl|rfl<;>first|exact .inr (.inl (by simp only[Pw.acc,Pw.base];omega))|exact .inr (.inr (by simp only[Pw.t,Pw.base];omega))) (by simp[Pw.base])];exact b2
  ·rw[X.vl (.inr (.inr (by simp only[Pw.en,Pw.acc];omega))) C7,K]
  ·by_cases q:e=i+1
   ·subst q;rw[V1 (g:=pl V.m p.acc) v7,K]
   ·rw[X.vl (.inr (.inr (by have:=T e J;simp only[Pw.en];omega))) Ch,gD e J];exact b4 e J
def ze{E h d v b:Nat}(z:E*D=(h*2^j+d)*g+v)(B:A+g*b=2*v):E*(D*2)=(h*2^(j+1)+(2*d+b))*g+A:=by
 rw[←Kf,z,Iz];grind
def all_law{o h v:Nat}(z:j*o*A=h*g+v)(C:o*A=g)(hv:v<g):h=j:=by
 have B:0<g:=J
 rw[Kf,C]at z;have D:j*g/g=j:=Nat.mul_div_cancel _ B;rw[z,Nat.add_comm,Nat.add_mul_div_right _ _ B,K6 hv]at D;omega
def run_ex{C:Prop}(B:PwS sz p)(T:C→p.H s.m){D A N Eb:Nat}(hD:D+3<8)(hz:s.r p.B=0)(hN:vl (pl s.m p.n) p.k=N)
  (gF:C→(∀e,e<2^p.w→vl (pl s.m (p.en e)) p.k=A^e*18446744073709551616^p.k%N)∧vl (pl s.m p.es) (p.b.k+1)=Eb*2^(64-p.over)) :
  Tx sz (p.run D) s λs'=>C→Fm [p.wk,p.d] s.m s'.m∧vl (pl s'.m p.d) p.k=A^Eb%N:=by
 have hB:=B.B;have hk:=B.k;have gL:=B.nk;have gM:=ko B.w.2;have gO:=zi2 p;have gg:0<2^p.w:=Kn _;have gG:=B.ti;have gP:=B.ov;have gQ:p.b.k≤65536:=by have:=B.b.1;have:=B.b.2;omega
 have gR:p.k≤65536:=by have:=B.wk.1;have:=B.wk.2;simp only[Pw.wk]at *;omega
 have gT:p.times≤p.times*p.w:=Nat.le_mul_of_pos_right _ B.w.1;have Z:p.acc.in_ sz:=Yk B rfl Ev;have iC:p.cur.in_ sz:=Yk B rfl Bk;have iE:p.ent.in_ sz:=Yk B rfl Dm;have e0:p.en 0=p.ent:=by simp[Pw.en,Pw.ent,Pw.tab]
 have L:∀{l:List Pn} {m m':Nat→Nat→UInt64},Fm l m m'→(∀q∈l,q.b=p.wb∧p.wa≤q.a∧q.a+q.k≤p.wa+(4*p.k+p.b.k+3+p.k*2^p.w))→Fm [p.wk] m m':=λh j=>h.inn λq h1=>pu (j q h1).1 (j q h1).2.1 (j q h1).2.2
 have hT:(18446744073709551616:Nat)^(p.b.k+1)=2^(64*(p.b.k+1)):=powW _;have e:p.run D=(ep p.acc.p p.ent.p p.k ((p.B+3:Nat):Int) D).cat ((Oz D p.times ((Nd [Qv ((p.B+1:Nat):Int) (p.B:Nat)]).cat ((Oz ((D+1:Nat):Int) p.w ((p.mont p.acc p.acc p.acc ((D+2:Nat):Int)).cat (p.shift ((D+2:Nat):Int)))).cat ((p.scan ((D+1:Nat):Int)).cat (p.mont p.acc p.acc p.cur ((D+1:Nat):Int)))))).cat ((Nd [cK ((p.B+3:Nat):Int) 1]).cat ((S5 p.cur.p p.B D).cat ((Nd [Nn p.cur.p (-1) ((0:Nat):Int) ((p.B+3:Nat):Int)]).cat (p.mont p.d p.acc p.cur D))))):=by
  unfold Pw.run Pw.runR Pw.runW Pw.copies;rw[(J:(D:Int)+1+1=((D+2:Nat):Int))];rfl
 rw[e];refine (oq (to:=p.acc) (fr:=p.ent) (k:=p.k) (l:=p.B+3) (D:=D) Z iE C7 C6 J (.inr (.inl Cs))).cat λs1 ⟨g1,o1,v1⟩=>?_
 have w1:=L (o1.fm (l:=[p.acc]) (by simp)) (λq j=>Ft);have z1:s1.r p.B=0:=by rw[g1 p.B J J,hz]
 refine Tx.cat (R:=λK=>K.r p.B=0∧(C→Fm [p.wk] s.m K.m∧vl (pl K.m p.acc) p.k=A^Eb*18446744073709551616^p.k%N)) ?_ λK ⟨z2,v2⟩=>?_
 ·refine .lp (λi K=>K.r p.B=0∧(C→Fm [p.wk] s.m K.m∧(∀e,e<2^p.w→vl (pl K.m (p.en e)) p.k=A^e*18446744073709551616^p.k%N)∧∃h,vl (pl K.m p.acc) p.k=A^h*18446744073709551616^p.k%N∧Eb*2^(64-p.over)*2^(i*p.w)=h*18446744073709551616^(p.b.k+1)+vl (pl K.m p.es) (p.b.k+1)))
   ⟨z1,λG=>?_⟩ J (λi K hi ⟨z2,v2⟩=>?_) λK ⟨z2,v2⟩=>⟨z2,λG=>?_⟩
  ·obtain⟨a1,a2⟩:=gF G;refine⟨w1,λe he=>?_,0,?_,?_⟩
   ·have gz:=zuo (p:=p) he;rw[o1.vl (.inr (.inl (by simp only[Pw.acc,Pw.en];omega))) Ch];exact a1 e he
   ·rw[V1 (g:=pl s.m p.ent) v1,←e0];exact a1 0 gg
   ·rw[o1.vl (.inr (.inl Ds)) Ek,a2];simp
  ·refine .op zn6 ?_;rw[ao];refine Tx.cat (R:=λF=>F.r p.B=0∧(F.r (p.B+1)).toNat<2^p.w∧(C→Fm [p.wk] s.m F.m∧(∀e,e<2^p.w→vl (pl F.m (p.en e)) p.k=A^e*18446744073709551616^p.k%N)∧∃h,vl (pl F.m p.acc) p.k=A^(h*2^p.w)*18446744073709551616^p.k%N∧Eb*2^(64-p.over)*2^(i*p.w+p.w)=(h*2^p.w+(F.r (p.B+1)).toNat)*18446744073709551616^(p.b.k+1)+vl (pl F.m p.es) (p.b.k+1))) ?_ λF ⟨z3,d3,v3⟩=>?_
   ·refine .lp (λgA F=>F.r p.B=0∧(F.r (p.B+1)).toNat<2^gA∧(C→Fm [p.wk] s.m F.m∧(∀e,e<2^p.w→vl (pl F.m (p.en e)) p.k=A^e*18446744073709551616^p.k%N)∧∃h,vl (pl F.m p.acc) p.k=A^(h*2^gA)*18446744073709551616^p.k%N∧Eb*2^(64-p.over)*2^(i*p.w+gA)=(h*2^gA+(F.r (p.B+1)).toNat)*18446744073709551616^(p.b.k+1)+vl (pl F.m p.es) (p.b.k+1)))
     ⟨by rw[Na,Hx J,Na,Hx J,z2],by rw[Na,H7 rfl,Na,Hx J,z2];decide,λG=>?_⟩ (by have:=B.w;omega) (λgA F hj ⟨z3,d3,v3⟩=>?_) λ_ h=>h
    ·obtain⟨P,U,h,Q,b4⟩:=v2 G;refine⟨P,U,h,by rw[Nat.pow_zero,Kw];exact Q,?_⟩;rw[Na,H7 rfl,Na,Hx J,z2,Kl,Nat.pow_zero,Kw];exact b4
    ·have gU:2^gA≤64:=ko (by have:=B.w;omega);refine (zgm B (E:=D+2) J Z Z Z rfl rfl rfl (.inl (.inl B.nb.symm)) (.inr (.inl A8)) (.inr (.inr A8)) (.inr (.inr A8))).cat λY ⟨g4,V⟩=>?_
     have z4:Y.r p.B=0:=by rw[g4 p.B J J J,Na,Hx J,z3]
     have d4:Y.r (p.B+1)=F.r (p.B+1):=by rw[g4 _ J J J,Na,Hx J]
     refine (rf B (D:=D+2) J z4 (by rw[d4];omega)).mono λs5 ⟨g5,o5,b,hb,d5,v5⟩=>?_
     rw[d4]at d5;refine⟨by rw[g5 p.B J J,z4],by rw[d5,Iz];omega,λG=>?_⟩;obtain⟨P,U,h,Q,b4⟩:=v3 G;obtain⟨H3,N3,A3,_⟩:=xq B P;obtain⟨M,z⟩:=Xi hk (T G);have H:=Xv (T G);simp only[Pb]at V;rw[N3,hN]at V;rw[hN]at z H;obtain⟨f4,X⟩:=V (H3.2 (T G)).1 (by rw[Q];exact J1 _ H);have X:=X M z;rw[Q,zpg z,←Kq,show h*2^gA+h*2^gA=h*2^(gA+1) by rw[Iz,←Kf];omega]at X;have w4:=L f4 (λq j=>by simp at j;rcases j with rfl|rfl<;>simp only[Pw.acc,Pw.t,Lr]<;>omega);have w5:=L (o5.fm (l:=[p.es]) (by simp)) (λq j=>by simp at j;subst j;simp only[Pw.es,Lr];omega);have gH:vl (pl Y.m p.es) (p.b.k+1)=vl (pl F.m p.es) (p.b.k+1):=f4.vl (λq j=>by simp at j;rcases j with rfl|rfl<;>first|exact .inr (.inl Ds)|exact .inr (.inr (by simp only[Pw.t,Pw.es];omega))) Ek;rw[gH]at v5;refine⟨(P.trans w4).trans w5,λe he=>?_,h,?_,?_⟩
     ·have gz:=zuo (p:=p) he;rw[o5.vl (.inr (.inl (by simp only[Pw.es,Pw.en];omega))) Ch,f4.vl (λq j=>by simp at j;rcases j with rfl|rfl<;>exact .inr (.inl Cy)) Ch];exact U e he
     ·rw[o5.vl (.inr (.inr (by simp only[Pw.es,Pw.acc];omega))) C7];exact X
     ·rw[d5,(J:i*p.w+(gA+1)=i*p.w+gA+1),Iz];exact ze b4 v5
   ·refine (scan_ex B (D:=D+1) J z3).cat λY ⟨g4,o4,V⟩=>?_
    have z4:Y.r p.B=0:=by rw[g4 p.B J J J J J,z3]
    refine (zgm B (E:=D+1) J Z Z iC rfl rfl rfl (.inl (.inl B.nb.symm)) (.inr (.inl A8)) (.inr (.inr A8)) (.inr (.inr Dv))).mono λs5 ⟨g5,v5⟩=>⟨by rw[g5 p.B J J J,z4],λG=>?_⟩
    obtain⟨P,U,h,Q,b4⟩:=v3 G;have w4:=L (o4.fm (l:=[p.cur]) (by simp)) (λq j=>Fq);have gC:=P.trans w4;obtain⟨H4,N4,A4,_⟩:=xq B gC;obtain⟨M,z⟩:=Xi hk (T G);have H:=Xv (T G);rw[N4,hN]at v5;rw[hN]at z H;have I:vl (pl Y.m p.acc) p.k=vl (pl F.m p.acc) p.k:=o4.vl (.inr (.inr (by simp only[Pw.cur,Pw.acc];omega))) C7;have O:vl (pl Y.m p.cur) p.k=A^(F.r (p.B+1)).toNat*18446744073709551616^p.k%N:=by rw[V1 (g:=pl F.m (p.en (F.r (p.B+1)).toNat)) (V d3)];exact U _ d3
    obtain⟨f5,q5⟩:=v5 (H4.2 (T G)).1 (by rw[I,Q];exact J1 _ H);have q5:=q5 M z;rw[I,Q,O,zpg z,←Kq]at q5;have w5:=L f5 (λq j=>by simp at j;rcases j with rfl|rfl<;>simp only[Pw.acc,Pw.t,Lr]<;>omega);refine⟨gC.trans w5,λe he=>?_,h*2^p.w+(F.r (p.B+1)).toNat,q5,?_⟩
    ·have gz:=zuo (p:=p) he;rw[f5.vl (λq j=>by simp at j;rcases j with rfl|rfl<;>exact .inr (.inl Cy)) Ch,o4.vl (.inr (.inl (by simp only[Pw.cur,Pw.en];omega))) Ch];exact U e he
    ·rw[Iu i,Kb,b4,f5.vl (λq j=>by simp at j;rcases j with rfl|rfl<;>first|exact .inr (.inl Ds)|exact .inr (.inr (by simp only[Pw.t,Pw.es];omega))) Ek,o4.vl (.inr (.inl (by simp only[Pw.cur,Pw.es];omega))) Ek]
  ·obtain⟨P,_,h,Q,b4⟩:=v2 G;have hv:=W5 (pl K.m p.es) (p.b.k+1);have hh:h=Eb:=all_law b4 (by rw[gG,hT,←Kq];congr 1;omega) hv;rw[hh]at Q;exact⟨P,Q⟩
 ·refine .op V9 ?_;rw[ao];refine (zub (a:=p.B) (D:=D) iC J).cat λF ⟨g3,o3,v3⟩=>?_
  have gI:=iC.1;simp only[Pw.cur]at gI;refine .op (zqn (p:=p.cur) Bk iC.2) ?_;rw[ao];refine (zgm B (E:=D) J B.d Z iC B.dk rfl rfl B.dn (.inl B.db) (.inr (.inr A8)) (.inr (.inr Dv))).mono λY ⟨g4,V⟩ G=>?_
  obtain⟨P,U⟩:=v2 G;simp only[Na,Pb]at o3 v3;rw[Hx J,z2]at v3;have r3:F.r (p.B+3)=1:=by rw[g3 _ J,Na,H7 rfl]
  rw[r3]at V;have gD:Nw p.cur K.m (F.sto p.cur.b (p.cur.a+0) 1).m:=o3.trans (Wy Bk);have w3:=L (gD.fm (l:=[p.cur]) (by simp)) (λq j=>Fq);have gE:=P.trans w3;obtain⟨H4,N4,A4,_⟩:=xq B gE;obtain⟨M,z⟩:=Xi hk (T G);have H:=Xv (T G);rw[N4,hN]at V;rw[hN]at z H;have I:vl (pl (F.sto p.cur.b (p.cur.a+0) 1).m p.acc) p.k=vl (pl K.m p.acc) p.k:=gD.vl (.inr (.inr (by simp only[Pw.cur,Pw.acc];omega))) C7;have O:vl (pl (F.sto p.cur.b (p.cur.a+0) 1).m p.cur) p.k=1:=by
   obtain⟨k,gK⟩:∃k,p.k=k+1:=⟨p.k-1,J⟩;rw[gK,zqj,Rn,H7 rfl,zkc λi hi=>by rw[Rn,Hx J];exact v3 (i+1) Bk];rfl
  obtain⟨f4,X⟩:=V (H4.2 (T G)).1 (by rw[I,U];exact J1 _ H);have X:=X M z;rw[I,U,O,sx z]at X;refine⟨(gE.mono (by simp)).trans λx y hn=>f4 x y λq j=>?_,X⟩;simp at j;rcases j with rfl|rfl
  ·exact hn _ (by simp)
  ·rintro⟨h1,h2,h3⟩;refine hn p.wk (by simp) ⟨h1,?_,?_⟩
   ·simp only[Pw.wk,Pw.t]at *;omega
   ·simp only[Pw.wk,Pw.t]at *;omega
def yo(g:PwS sz p){D:Nat}(hD:D+3<8) :
  Tx sz (p.code D) s λK=>p.H s.m→Fm [p.wk,p.d] s.m K.m∧vl (pl K.m p.d) p.k=vl (pl s.m p.a) p.k^vl (pl s.m p.b) p.b.k%vl (pl s.m p.n) p.k:=by
 have hB:=g.B;have X:=zi2 p;unfold Pw.code;refine .op V9 ?_;rw[ao];refine (vu g (D:=D) J (by rw[Na,H7 rfl])).cat λL ⟨M,B⟩=>?_
 rw[Pb]at B;refine (exp_ex g (D:=D) J M).cat λE ⟨Y,O,Z⟩=>?_
 have z2:E.r p.B=0:=by rw[Y p.B J J,M]
 have P:Fm [p.wk] L.m E.m:=(O.fm (l:=[p.es]) (by simp)).inn λq Q=>by
  simp at Q;subst Q;exact pu rfl A7 A7
 obtain⟨H2,R,T,B2⟩:=xq g P;refine (run_ex (C:=p.H s.m) g (D:=D) (A:=vl (pl E.m p.a) p.k) (N:=vl (pl E.m p.n) p.k) (Eb:=vl (pl L.m p.b) p.b.k) (λj=>?_) J z2 rfl λj=>?_).mono λs3 h3 j=>?_
 ·obtain⟨z,F⟩:=B j;obtain⟨G,_⟩:=xq g z;exact H2.2 (G.2 j)
 ·obtain⟨z,F⟩:=B j;obtain⟨G,H,I,U⟩:=xq g z;refine⟨λe he=>?_,Z⟩;have gg:=zuo (p:=p) he;rw[O.vl (.inr (.inl (by simp only[Pw.es,Pw.en];omega))) Ch,T,I,R,H];exact F e he
 ·obtain⟨z,F⟩:=B j;obtain⟨G,H,I,U⟩:=xq g z;obtain⟨f3,V⟩:=h3 j;rw[T,I,R,H,U]at V;exact⟨((z.trans P).mono (by simp)).trans f3,V⟩
end ex
end
section
set_option linter.unusedSimpArgs false
section stp
def Uy{d times:Int}{b:Fr Lo}{T M:Nat}(g:times≤T)(j:T≤1000000)(z:b.stp≤M):(Oz d times b).stp≤T*(1+M) :=
 Ja (stp_lp d times b J) (Jn J J)
def ue{d a b n t:Pc}{k:Int}(D:k≤3)(E:t.size≤5):(Xz d a b n t k z B).stp≤500:=by
 unfold Xz T9 Ul Yc Wf S5;have j:∀z B g:Int,(Nd (Ud a t z g)).stp≤8:=λz B g=>by simp[So,Ud,Oa]
 have A:∀z B g:Int,(Nd (Uv n t z g)).stp≤8:=λz B g=>by simp[So,Uv,Oa]
 have F:=Uy (d:=B+1) (times:=k) (T:=3) J J (j z B (B+1));have G:=Uy (d:=B+1) (times:=k-1) (T:=3) J J (A z B (B+1));have H:=Uy (d:=B) (times:=k) (T:=3) (M:=100) (b:=((Nd [Nj (z+2) b B 0,cK (z+3) 0]).cat ((Oz (B+1) k (Nd (Ud a t z (B+1)))).cat (Nd (O6 t k z++[Nn t (-1) k (z+7),Nn t (-1) (k+1) (z+8)])))).cat ((Nd ([Nj (z+7) t (-1) 0,N7 (z+5) (z+10) (z+7) (z+1),Nj (z+4) n (-1) 0,cK (z+3) 0]++Oa z (z+10) (z+4))).cat
  ((Oz (B+1) (k-1) (Nd (Uv n t z (B+1)))).cat (Nd (O6 t k z++[Nn t (-1) (k-1) (z+7),Nj (z+7) t (-1) (k+1),M8 3 (z+7) (z+7) (z+8),Nn t (-1) k (z+7)]))))) J J (by
   simp only[stp_cat,So,Oa,O6,H9,Ig,Ix];omega)
 have I:=Uy (d:=B) (times:=t.size) (T:=5) (M:=1) (b:=Nd [Nn t B 0 z]) J J C5;have K:=Uy (d:=B) (times:=k) (T:=3) (M:=3) (b:=Nd (Ub n t z B++[])) J J (by simp[So,Ub]);have L:=Uy (d:=B) (times:=k) (T:=3) (M:=5) (b:=Nd (Ub n t z B++[Oc (z+6) (z+10) (z+7) (z+6),Nn d B 0 (z+6)])) J J (by simp[So,Ub]);have C:=zq3 (z+10) (z+1);simp only[stp_cat,So,H9,Ig,Ix,C]at *;omega
def ju{d n r:Pc}{k bits:Int}(g:k≤3)(j:r.size≤4)(A:bits≤400):(Yt d n r k bits z B).stp≤40000:=by
 unfold Yt S5 ep;have C:=Uy (d:=B) (times:=r.size) (T:=4) (M:=1) (b:=Nd [Nn r B 0 z]) J J C5;have D:=Uy (d:=B) (times:=k) (T:=3) (M:=2) (b:=Nd [Nj (z+2) r B 0,Nn d B 0 (z+2)]) J J C5;have E:=Uy (d:=B) (times:=bits+1) (T:=401) (M:=90) (b:=m6 n r k z (B+1)) J J (by
  unfold m6 Ws cr;have F:=Uy (d:=B+1) (times:=k+1) (T:=4) (M:=6) (b:=Nd [Nj (z+2) r (B+1) 0,Q6 9 (z+3) (z+2) 63,Q6 8 (z+2) (z+2) 1,M8 6 (z+2) (z+2) (z+1),Nn r (B+1) 0 (z+2),Qv (z+1) (z+3)]) J J C5;have G:=Uy (d:=B+1) (times:=k) (T:=3) (M:=3) (b:=Nd (Wc n r z (B+1)++[])) J J (by simp[So,Wc]);have H:=Uy (d:=B+1) (times:=k) (T:=3) (M:=5) (b:=Nd (Wc n r z (B+1)++[Oc (z+4) (z+6) (z+2) (z+4),Nn r (B+1) 0 (z+4)])) J J (by simp[So,Wc]);simp only[stp_cat,So,Ig,Ix];omega)
 simp only[stp_cat,So,Ig,Ix];omega
def Pw.stp{p:Pw}{D:Int}(hk:p.k≤3)(hw:p.w≤6)(ht:p.times≤64)(hb:p.b.k≤2):(p.code D).stp≤1000000:=by
 have gg:=ko hw;have mo:∀(d a b:Pn) (E:Int),(p.mont d a b E).stp≤500:=λd a b E=>ue J (by simp only[Pn.p,Pw.t];omega)
 have ra:∀(d:Pn) (bits:Int),bits≤400→(p.radix d bits D).stp≤40000:=λd bits h=>ju J (by simp only[Pn.p,Pw.r];omega) h
 have cp:∀(to fr:Pn),(p.copies to fr D).stp≤9:=λto fr=>by
  unfold Pw.copies ep;exact Uy (T:=3) (M:=2) J J C5
 unfold Pw.code;have a1:(p.fill D).stp≤200000:=by
  unfold Pw.fill;have b1:=Uy (d:=D) (times:=(2^p.w-1:Nat)) (T:=64) (M:=600) (b:=p.fillR D) J J (by
   unfold Pw.fillR;have c1:=mo p.acc p.acc p.base (D+1);have c2:=Uy (d:=D+1) (times:=p.k) (T:=3) (M:=3) (b:=Nd [Nj (p.B+3) p.acc.p (D+1) 0,M8 3 13 12 (D+1),Nn p.tab.p 13 0 (p.B+3)]) J J C5;simp only[stp_cat,So,Ig,Ix];omega)
  have b2:=ra p.ent (64*p.k) J;have b3:=ra p.cur (128*p.k) J;have b4:=mo p.base p.a p.cur D;have b5:=cp p.acc p.ent;simp only[stp_cat,So,Ig,Ix];omega
 have a2:(p.exp D).stp≤100:=by
  unfold Pw.exp;have b1:=Uy (d:=D) (times:=p.b.k) (T:=2) (M:=5) (b:=Nd (p.expB D)) J J (by unfold Pw.expB;split<;>simp[So]);have b2:(Nd p.expE).stp≤1:=by unfold Pw.expE;split<;>simp[So]
  simp only[stp_cat,So,Ig,Ix]at *;omega
 have a3:(p.run D).stp≤500000:=by
  unfold Pw.run;have b0:∀E:Int,(p.shift E).stp≤30:=λE=>by
   unfold Pw.shift cr;have:=Uy (d:=E) (times:=p.es.k) (T:=3) (M:=6) (b:=Nd [Nj (p.B+3) p.es.p E 0,Q6 9 (p.B+4) (p.B+3) 63,Q6 8 (p.B+3) (p.B+3) 1,M8 6 (p.B+3) (p.B+3) (p.B+2),Nn p.es.p E 0 (p.B+3),Qv (p.B+2) (p.B+4)]) A7 J C5;simp only[stp_cat,So,Ig,Ix];omega
  have b1:=Uy (d:=D) (times:=p.times) (T:=64) (M:=6500) (b:=p.runR (D+1)) J J (by
   unfold Pw.runR;have c1:=Uy (d:=D+1) (times:=p.w) (T:=6) (M:=600) (b:=p.runW (D+1+1)) J J (by
    unfold Pw.runW;have:=mo p.acc p.acc p.acc (D+1+1);have:=b0 (D+1+1);simp only[stp_cat];omega)
   have c2:(p.scan (D+1)).stp≤2000:=by
    unfold Pw.scan;have d1:=Uy (d:=D+1) (times:=(2^p.w:Nat)) (T:=64) (M:=25) (b:=p.scanR (D+1)) J J (by
     unfold Pw.scanR;have:=Uy (d:=D+1+1) (times:=p.k) (T:=3) (M:=5) (b:=Nd (p.scanB (D+1+1))) J J (by simp[So,Pw.scanB]);simp only[stp_cat,So,Ig,Ix];omega)
    simp only[stp_cat,So,Ig,Ix];omega
   have c3:=mo p.acc p.acc p.cur (D+1);simp only[stp_cat,So,Ig,Ix];omega)
  have b2:=cp p.acc p.ent;have b3:=mo p.d p.acc p.cur D;have b4:(S5 p.cur.p p.B D).stp≤6:=by
   unfold S5;exact Uy (T:=3) (M:=1) (by simp only[Pn.p,Pw.cur];omega) J C5
  simp only[stp_cat,So,Ig,Ix];omega
 simp only[stp_cat,So,Ig,Ix];omega
end stp
noncomputable def Pw.prog(p:Pw)(e:Nat):Fr Lo:=kj e 0 (p.code e)
section prog
variable {p : Pw} {e : Nat} {c : Cf} {bs : List Bf} {sz : Nat → Nat} {s0 : Fs}
def Pw.prog_all(h:PwC c p)(h0:c.lo=0)(h7:c.hi=7)(he:e≤4):(p.prog e).AllH c 0:=by
 refine wrap_allH e 0 _ J J ?_;rw[Int.zero_add];exact Pw.all h J
def Pw.prog_gd(h:PwG bs p)(he:e≤4):Gd bs [] [] (p.prog e) []:=by
 refine az e 0 [] _ J J rfl N λls h1 h2=>?_
 rw[Int.zero_add]at h1 h2;exact Pw.gd h ⟨J,h2⟩ J (λx hx=>by cases hx)
def Pw.prog_stp(he:e≤4)(hk:p.k≤3)(hw:p.w≤6)(ht:p.times≤64)(hb:p.b.k≤2):(p.prog e).stp≤16777216:=by
 unfold Pw.prog;rw[wrap_stp];have:=Pw.stp (p:=p) (D:=e) hk hw ht hb;omega
def Pw.prog_chk(h:PwG bs p)(he:e≤4)(h1:bs.length≤32)(h3:∀b∈bs,1≤b.size∧b.size≤65536∧1≤b.kind∧b.kind≤3)(hl:(p.prog e).flat.length≤65536):(Ra ((64:Nat):Int) bs (p.prog e).flat).2=0:=by
 have:=chkR_Gd (bs:=bs) (f:=p.prog e) (S':=[]) h1 hl h3 (Pw.prog_gd h he);rw[show (((64:Nat):Int))=64 from rfl,this]
def Pw.prog_ex(hp:PwS sz p)(he:e≤4):Tx sz (p.prog e) s0 λs'=>p.H s0.m→Fm [p.wk,p.d] s0.m s'.m∧vl (pl s'.m p.d) p.k=vl (pl s0.m p.a) p.k^vl (pl s0.m p.b) p.b.k%vl (pl s0.m p.n) p.k:=by
 refine co e 0 _ _ λs hs=>?_
 have hh:=yo (sz:=sz) (s:=s) hp (D:=e) J;rw[hs]at hh;exact hh
end prog
end
section
def Uu(vs:List Vr):List Bf:=vs.map λv=>⟨v.limbs,2,v.sec⟩
def Re(vs:List Vr):List Pc:=(List.range vs.length).map λi:Nat=>⟨(i:Int),0,(gv vs i).limbs⟩
def On(vs:List Vr)(W:Int):List Bf:=Uu vs++[⟨W,2,false⟩,⟨W,2,true⟩]
section pl
variable {vs : List Vr} {W : Int} {i : Nat}
def plB_len:(On vs W).length=vs.length+2:=by simp[On,Uu]
def plP_len:(Re vs).length=vs.length:=by simp[Re]
def V0(hi:i<vs.length):Ns (On vs W) i=⟨(gv vs i).limbs,2,(gv vs i).sec⟩:=by
 have h:=Tw hi;have e:vs[i]=gv vs i:=by rw[H6 hi]at h;exact Option.some.inj h
 unfold Ns On Uu;rw[Hv,H8 Do,Jw,H6 hi,e];rfl
def plB_w0:Ns (On vs W) vs.length=⟨W,2,false⟩:=by
 unfold Ns On Uu;rw[Hv,Ij N];simp
def plB_w1:Ns (On vs W) (vs.length+1)=⟨W,2,true⟩:=by
 unfold Ns On Uu;rw[Hv,Ij N];simp
def zsw(hi:i<vs.length):Qm (Re vs) i=⟨i,0,(gv vs i).limbs⟩:=by
 unfold Qm Re;rw[Hv,Jw,List.getElem?_range hi];rfl
def We(hv:Rb vs=true)(hi:i<vs.length):1≤(gv vs i).limbs∧(gv vs i).limbs≤512:=by
 obtain⟨k,e,_,_,g,j⟩:=zcw hv (v:=(i:Int)) J;unfold Qd at g j;rw[In]at g j;exact⟨g,j⟩
def qi{v:Vr}(h:v∈vs):∃i,i<vs.length∧gv vs i=v:=by
 obtain⟨i,hi,e⟩:=J6.1 h;have h:=Tw hi;rw[H6 hi,e]at h;exact⟨i,hi,(Option.some.inj h).symm⟩
def zoo(hv:Rb vs=true)(z:1≤W∧W≤32768):∀b∈On vs W,1≤b.size∧b.size≤65536∧1≤b.kind∧b.kind≤3:=by
 intro b g;unfold On Uu at g;rcases Ir.1 g with g|g
 ·obtain⟨v,j,rfl⟩:=Mu.1 g;obtain⟨i,hi,rfl⟩:=qi j;have:=We hv hi;simp only;omega
 ·simp at g;rcases g with rfl|rfl<;>simp only<;>omega
def zyy(hv:Rb vs=true)(hm:∀i,i<vs.length→(gv vs i).mode=0)(C:vs.length≤30)(B:1≤W∧W≤32768):Wa vs (On vs W) (Re vs) ⟨vs.length,0,W⟩ ⟨(vs.length:Int)+1,0,W⟩=true:=by
 have g:=zoo hv B;have j:ku (On vs W)=0:=by
  unfold ku;rw[plB_len,Hx J,Hx,Hx]
  ·rw[Jb];rintro⟨b,j,z⟩;have:=g b j;simp at z;omega
  ·rw[Jb];rintro⟨b,j,z⟩;have:=g b j;simp at z;omega
 unfold Wa;rw[hv,j,plB_len,plP_len];simp only[Lw,decide_true,Hy,Ic];refine⟨J,?_,?_,?_⟩
 ·refine Jv.2 λi hi=>?_
  have hi:=Kh.1 hi;have D:=We hv hi;have A:=hm i hi;have e:((⟨i,0,(gv vs i).limbs⟩:Pc).buf.toNat)=i:=N
  unfold mc Wv;rw[zsw hi,e,V0 hi,plB_len];simp[Sd,A];omega
 ·have e:((⟨vs.length,0,W⟩:Pc).buf.toNat)=vs.length:=N
  unfold Wm Wv;rw[e,plB_w0,plB_len];simp;omega
 ·have e:((⟨(vs.length:Int)+1,0,W⟩:Pc).buf.toNat)=vs.length+1:=Bb
  unfold Wm Wv;rw[e,plB_w1,plB_len];simp;omega
end pl
section st
variable {bs : List Bf} {X : List (List UInt64)} {i : Nat}
def zld(h:((X.getD i []).length:Int)=(Ns bs i).size)(hi:i<bs.length):(Qf 64 bs X).bufs.getD i []=X.getD i []:=by
 show (Tt bs X bs.length).getD i []=_;unfold Tt;rw[Hv,Jw,List.getElem?_range hi];simp only[J7,Jz];unfold V7;rw[(J:(Ns bs i).size.toNat-(X.getD i []).length=0)];simp
def zoz(h:((X.getD i []).length:Int)=(Ns bs i).size)(hi:i<bs.length):yi (Qf 64 bs X) i=(Ns bs i).size.toNat:=by
 unfold yi;rw[zld h hi];omega
def bo(h:((X.getD i []).length:Int)=(Ns bs i).size)(hi:i<bs.length)(g:Nat):(S7 (Qf 64 bs X)).m i g=(X.getD i []).getD g 0:=by
 show ((Qf 64 bs X).bufs.getD i []).getD g 0=_;rw[zld h hi]
def nj{p:Pn}(h:((X.getD p.b []).length:Int)=(Ns bs p.b).size)(g:Bp bs p):p.in_ (yi (Qf 64 bs X)):=by
 have z:=g.s;have A:=g.z;have j:=zoz h g.b;unfold Pn.in_;rw[j];constructor
 ·omega
 ·exact_mod_cast (J:(Ns bs p.b).size.toNat≤65536)
def zot{p:Pn}{n:Nat}(h:((X.getD p.b []).length:Int)=(Ns bs p.b).size)(g:p.b<bs.length)(j:p.a=0)(z:(X.getD p.b []).length=n):vl (pl (S7 (Qf 64 bs X)).m p) n=val (X.getD p.b []):=by
 refine vl_get (Lh z) λi hi=>?_
 show (S7 (Qf 64 bs X)).m p.b (p.a+i)=_;rw[j,Iy,bo h g]
end st
end
end Go.Sv
