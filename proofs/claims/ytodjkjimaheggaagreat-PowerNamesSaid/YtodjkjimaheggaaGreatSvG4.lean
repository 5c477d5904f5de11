/- Texts of the evaluator, of the logic over it, of plain arithmetic. -/
import Derived.Test.YtodjkjimaheggaaGreatSvG3
set_option linter.unusedSimpArgs false
set_option linter.defProp false
namespace Go.Sv
set_option linter.unusedSimpArgs false
section ex
variable {sz : Nat → Nat} {s : Fs} {p : Pw}
def Pw.H (p:Pw)(m:Nat→Nat→UInt64):Prop:=pl m p.n 0%2=1∧vl (pl m p.a) p.k<vl (pl m p.n) p.k
def Yi {m f:Nat→Nat→UInt64}(d:PwS sz p)(h:Fm [p.wk] m f):(p.H f↔p.H m)∧vl (pl f p.n) p.k=vl (pl m p.n) p.k∧vl (pl f p.a) p.k=vl (pl m p.a) p.k∧vl (pl f p.b) p.b.k=vl (pl m p.b) p.b.k:=by
 have hk:=d.k;have l:=d.nk;have o:=d.ak;have dn:∀q∈[p.wk],Dj q p.n:=fun q a=>by simp at a;subst a;exact .inl d.nb.symm
 have r:∀q∈[p.wk],Dj q p.a:=fun q a=>by simp at a;subst a;exact .inl d.ab.symm
 have db:∀q∈[p.wk],Dj q p.b:=fun q a=>by simp at a;subst a;exact .inl d.bb.symm
 have g:=h.vl dn (n:=p.k) (by omega);have j:=h.vl r (n:=p.k) (by omega);have w:=h.vl db (n:=p.b.k) (by omega);refine⟨?_,g,j,w⟩;unfold Pw.H;rw[g,j,h.pl dn (by omega)]
def zvu {m:Nat→Nat→UInt64}(h:p.H m):0<vl (pl m p.n) p.k:=by have:=h.2;omega
def ze {m:Nat→Nat→UInt64}(hk:1≤p.k)(h:p.H m):∃inv,18446744073709551616^p.k*inv%vl (pl m p.n) p.k=1%vl (pl m p.n) p.k:=by
 have ho:vl (pl m p.n) p.k%2=1:=by
  obtain⟨k,a⟩:∃k,p.k=k+1:=⟨p.k - 1,by omega⟩;rw[a,xn];have d:=congrArg UInt64.toNat h.1;rw[UInt64.toNat_mod] at d;have f:((2:UInt64)).toNat=2:=rfl;have g:((1:UInt64)).toNat=1:=rfl;rw[f,g] at d;omega
 rw[rp];exact⟨_,cg ho _⟩
def Wj {q:Pn}(a:q.b=p.wb)(d:p.wa≤q.a)(f:q.a+q.k≤p.wa+(4*p.k+p.b.k+3+p.k*2^p.w)):q.b=p.wk.b∧p.wk.a≤q.a∧q.a+q.k≤p.wk.a+p.wk.k:=⟨a,d,f⟩
def Ww (d:PwS sz p){D:Nat}(hD:D+2<8)(hz:s.r p.B=0) :
  Tx sz (p.fill D) s fun I=>I.r p.B=0∧(p.H s.m→Fm [p.wk] s.m I.m∧∀e,e<2^p.w→vl (pl I.m (p.en e)) p.k=vl (pl s.m p.a) p.k^e*18446744073709551616^p.k%vl (pl s.m p.n) p.k):=by
 have hB:=d.B;have hk:=d.k;have aa:=d.nk;have J:=d.ak;have ad:=S5 d.w.2;have af:=jw p;have ag:=d.wk;have ah:=d.kb;have U:0<2^p.w:=Dz _;have K:p.acc.in_ sz:=Pz d rfl (by simp only[Pw.acc];omega);have iB:p.base.in_ sz:=Pz d rfl (by simp only[Pw.base];omega);have V:p.cur.in_ sz:=Pz d rfl (by simp only[Pw.cur];omega);have W:p.ent.in_ sz:=Pz d rfl (by simp only[Pw.ent,Pw.tab];omega);have X:p.r.in_ sz:=Pz d rfl (by simp only[Pw.r,Pw.t];omega);have e0:p.en 0=p.ent:=by simp[Pw.en,Pw.ent,Pw.tab]
 have f:∀{l:List Pn} {m Y:Nat→Nat→UInt64},Fm l m Y→(∀q∈l,q.b=p.wb∧p.wa≤q.a∧q.a+q.k≤p.wa+(4*p.k+p.b.k+3+p.k*2^p.w))→Fm [p.wk] m Y:=fun h a=>h.inn fun q L=>Wj (a q L).1 (a q L).2.1 (a q L).2.2
 have e:p.fill D=(Pf p.ent.p p.n.p p.r.p p.k ((64*p.k:Nat):Int) ((p.B+10:Nat):Int) D).cat ((Pf p.cur.p p.n.p p.r.p p.k ((128*p.k:Nat):Int) ((p.B+10:Nat):Int) D).cat ((p.mont p.base p.a p.cur D).cat ((Rr p.acc.p p.ent.p p.k ((p.B+3:Nat):Int) D).cat ((E4 [cK ((12:Nat):Int) (iU p.k)]).cat (Gk D (2^p.w - 1:Nat) ((p.mont p.acc p.acc p.base ((D+1:Nat):Int)).cat ((Gk ((D+1:Nat):Int) p.k (E4 [E7 (p.B+3) p.acc.p ((D+1:Nat):Int) 0,Ew 3 13 12 ((D+1:Nat):Int),Ff p.tab.p 13 0 (p.B+3)])).cat (E4 [cK 13 (iU p.k),Ew 3 12 12 13]))))))))  := by
  unfold Pw.fill Pw.fillR Pw.radix Pw.copies;rw[show (64:Int)*(p.k:Int)=((64*p.k:Nat):Int) by omega,show (128:Int)*(p.k:Int)=((128*p.k:Nat):Int) by omega];rfl
 rw[e];refine (zth (R:=p.B+10) (k:=p.k) (by omega) W d.n X (by simp[Pw.ent]) (by omega) rfl (.inl d.nb.symm) (.inr (.inr (by simp only[Pw.ent,Pw.tab,Pw.r,Pw.t];omega))) (by omega)).cat fun s1 ⟨g1,f1,v1⟩=>?_
 have Z:=f f1 (fun q a=>by simp at a;rcases a with rfl|rfl<;>simp only[Pw.ent,Pw.tab,Pw.r,Pw.t,Dt]<;>omega);have z1:s1.r p.B=0:=by rw[g1 p.B (by omega) (by omega) (by omega),hz]
 refine (zth (R:=p.B+10) (k:=p.k) (by omega) V d.n X (by simp[Pw.cur]) (by omega) rfl (.inl d.nb.symm) (.inr (.inl (by simp only[Pw.cur,Pw.r,Pw.t];omega))) (by omega)).cat fun s2 ⟨g2,f2,v2⟩=>?_
 have w2:=f f2 (fun q a=>by simp at a;rcases a with rfl|rfl<;>simp only[Pw.cur,Pw.r,Pw.t,Dt]<;>omega);have z2:s2.r p.B=0:=by rw[g2 p.B (by omega) (by omega) (by omega),z1]
 obtain⟨H1,N1,A1,_⟩:=Yi d Z;obtain⟨H2,N2,A2,_⟩:=Yi d w2;refine (zf d (E:=D) (by omega) iB d.a V rfl J rfl (.inl (.inl d.nb.symm)) (.inr (.inl (by simp only[Pw.base,Pw.t];omega))) (.inl d.ab.symm) (.inr (.inr (by simp only[Pw.cur,Pw.t];omega)))).cat fun z ⟨g3,v3⟩=>?_
 have z3:z.r p.B=0:=by rw[g3 p.B (by omega) (by omega) (by omega),z2]
 refine (Wp (to:=p.acc) (fr:=p.ent) (k:=p.k) (l:=p.B+3) (D:=D) K W (by simp[Pw.acc]) (by simp[Pw.ent]) (by omega) (.inr (.inl (by simp only[Pw.acc,Pw.ent,Pw.tab];omega)))).cat fun r ⟨g4,M,v4⟩=>?_
 have w4:=f (M.fm (l:=[p.acc]) (by simp)) (fun q a=>by simp at a;subst a;simp only[Pw.acc,Dt];omega);have z4:r.r p.B=0:=by rw[g4 p.B (by omega) (by omega),z3]
 refine .op N0 ?_;rw[Qm];have start:p.H s.m→Fm [p.wk] s.m r.m∧vl (pl r.m p.base) p.k=vl (pl s.m p.a) p.k*18446744073709551616^p.k%vl (pl s.m p.n) p.k∧vl (pl r.m p.acc) p.k=18446744073709551616^p.k%vl (pl s.m p.n) p.k∧vl (pl r.m p.ent) p.k=18446744073709551616^p.k%vl (pl s.m p.n) p.k:=fun j=>by
  obtain⟨inv,hinv⟩:=ze hk j;have o:=zvu j;have N:=v1 o;rw[N1] at v2;have q2:=v2 o;have A:=H2.2 (H1.2 j);obtain⟨f3,B⟩:=v3 A.1 A.2;rw[N2,N1,A2,A1] at B;have B:=B inv hinv;have w3:=f f3 (fun q a=>by simp at a;rcases a with rfl|rfl<;>simp only[Pw.base,Pw.t,Dt]<;>omega);have hP:(2:Nat)^(64*p.k)=18446744073709551616^p.k:=(rp _).symm;have O:(2:Nat)^(128*p.k)=18446744073709551616^p.k*18446744073709551616^p.k:=by rw[←hP,←D4];congr 1;omega
  rw[hP] at N;rw[O] at q2;rw[q2,c9 hinv] at B;have C:vl (pl s2.m p.ent) p.k=vl (pl s1.m p.ent) p.k:=f2.vl (fun q a=>by simp at a;rcases a with rfl|rfl<;>exact .inr (.inl (by simp only[Pw.cur,Pw.r,Pw.t,Pw.ent,Pw.tab];omega))) (by simp[Pw.ent]);have F:vl (pl z.m p.ent) p.k=vl (pl s2.m p.ent) p.k:=f3.vl (fun q a=>by simp at a;rcases a with rfl|rfl<;>exact .inr (.inl (by simp only[Pw.base,Pw.t,Pw.ent,Pw.tab];omega))) (by simp[Pw.ent]);have P:vl (pl r.m p.ent) p.k=vl (pl z.m p.ent) p.k:=M.vl (.inr (.inl (by simp only[Pw.acc,Pw.ent,Pw.tab];omega))) (by simp[Pw.ent]);have Q:vl (pl r.m p.base) p.k=vl (pl z.m p.base) p.k:=M.vl (.inr (.inl (by simp only[Pw.acc,Pw.base];omega))) (by simp[Pw.base]);refine⟨(Z.trans w2).trans (w3.trans w4),by rw[Q,B],?_,by rw[P,F,C,N]⟩;rw[Np (g:=pl z.m p.ent) v4,F,C,N]
 refine (Tx.lp (fun i s5=>s5.r p.B=0∧(s5.r 12).toNat=(i+1)*p.k∧(p.H s.m→Fm [p.wk] s.m s5.m∧vl (pl s5.m p.base) p.k=vl (pl s.m p.a) p.k*18446744073709551616^p.k%vl (pl s.m p.n) p.k∧vl (pl s5.m p.acc) p.k=vl (pl s.m p.a) p.k^i*18446744073709551616^p.k%vl (pl s.m p.n) p.k∧∀e,e≤i→vl (pl s5.m (p.en e)) p.k=vl (pl s.m p.a) p.k^e*18446744073709551616^p.k%vl (pl s.m p.n) p.k))
  ⟨by rw[Ez,Ab (by omega),z4],by rw[Ez,Ai rfl,O9 (by omega)];omega,fun j=>?_⟩ (by omega) (fun i s5 hi ⟨S,r5,G⟩=>?_) fun s5 ⟨S,_,G⟩=>⟨S,fun j=>⟨(G j).1,fun e he=>(G j).2.2.2 e (by omega)⟩⟩)
 ·obtain⟨a1,a2,a3,a4⟩:=start j;refine⟨a1,a2,by rw[Nat.pow_zero,Cm];exact a3,fun e he=>?_⟩;have:e=0:=by omega
  subst this;rw[e0,Nat.pow_zero,Cm];exact a4
 ·refine (zf d (E:=D+1) (by omega) K K iB rfl rfl rfl (.inl (.inl d.nb.symm)) (.inr (.inl (by simp only[Pw.acc,Pw.t];omega))) (.inr (.inr (by simp only[Pw.acc,Pw.t];omega))) (.inr (.inr (by simp only[Pw.base,Pw.t];omega)))).cat fun s6 ⟨g6,v6⟩=>?_
  have z6:s6.r p.B=0:=by rw[g6 p.B (by omega) (by omega) (by omega),Ez,Ab (by omega),S]
  have r6:(s6.r 12).toNat=(i+1)*p.k:=by rw[g6 12 (by omega) (by omega) (by omega),Ez,Ab (by omega),r5]
  refine (Wd d (E:=D+1) (e:=i+1) (by omega) (by omega) r6).mono fun s7 ⟨g7,H,r7,v7⟩=>⟨by rw[g7 p.B (by omega) (by omega) (by omega) (by omega),z6],r7,fun j=>?_⟩
  obtain⟨b1,b2,b3,b4⟩:=G j;obtain⟨H5,N5,A5,_⟩:=Yi d b1;obtain⟨inv,hinv⟩:=ze hk j;have o:=zvu j;simp only[Gy] at v6;rw[N5] at v6;obtain⟨f6,w⟩:=v6 (H5.2 j).1 (by rw[b3];exact Df _ o);have w:=w inv hinv;rw[b2,b3] at w;have T:=zmt (x:=vl (pl s.m p.a) p.k^i) (y:=vl (pl s.m p.a) p.k) hinv;rw[T,←Bh] at w;have w6:=f f6 (fun q a=>by simp at a;rcases a with rfl|rfl<;>simp only[Pw.acc,Pw.t,Dt]<;>omega);have hle:=pk (p:=p) (e:=i+1) (by omega);have w7:=f (H.fm (l:=[p.en (i+1)]) (by simp)) (fun q a=>by simp at a;subst a;simp only[Pw.en,Dt];omega);have ent:∀e,e≤i→vl (pl s6.m (p.en e)) p.k=vl (pl s5.m (p.en e)) p.k:=fun e he=>f6.vl (fun q a=>by simp at a;rcases a with rfl|rfl<;>exact .inr (.inl (by simp only[Pw.acc,Pw.t,Pw.en];omega))) (by simp[Pw.en])
  have hmul:∀e,e≤i→e*p.k+p.k≤(i+1)*p.k:=fun e he=>by
   have:=At p.k (show e+1≤i+1 by omega);rw[Bb,Cm] at this;exact this
  refine⟨(b1.trans w6).trans w7,?_,?_,fun e he=>?_⟩
  ·rw[H.vl (.inr (.inr (by simp only[Pw.en,Pw.base];omega))) (by simp[Pw.base]),f6.vl (fun q a=>by simp at a;rcases a with rfl|rfl<;>first|exact .inr (.inl (by simp only[Pw.acc,Pw.base];omega))|exact .inr (.inr (by simp only[Pw.t,Pw.base];omega))) (by simp[Pw.base])];exact b2
  ·rw[H.vl (.inr (.inr (by simp only[Pw.en,Pw.acc];omega))) (by simp[Pw.acc]),w]
  ·by_cases q:e=i+1
   ·subst q;rw[Np (g:=pl s6.m p.acc) v7,w]
   ·rw[H.vl (.inr (.inr (by have:=hmul e (by omega);simp only[Pw.en];omega))) (by simp[Pw.en]),ent e (by omega)];exact b4 e (by omega)
def au {E T h d j v a b P:Nat}(f:E*P=(h*2^j+d)*T+v)(g:a+T*b=2*v):E*(P*2)=(h*2^(j+1)+(2*d+b))*T+a:=by
 rw[←Dq,f,Bh];grind
def Zw {T Eb o h v P:Nat}(a:Eb*o*P=h*T+v)(f:o*P=T)(hv:v<T):h=Eb:=by
 have d:0<T:=by omega
 rw[Dq,f] at a;have g:Eb*T/T=Eb:=Nat.mul_div_cancel _ d;rw[a,Nat.add_comm,Nat.add_mul_div_right _ _ d,Nat.div_eq_of_lt hv] at g;omega
def s8 {C:Prop}(f:PwS sz p)(I:C→p.H s.m){D A N Eb:Nat}(hD:D+3<8)(hz:s.r p.B=0)(S:vl (pl s.m p.n) p.k=N)
  (aa:C→(∀e,e<2^p.w→vl (pl s.m (p.en e)) p.k=A^e*18446744073709551616^p.k%N)∧vl (pl s.m p.es) (p.b.k+1)=Eb*2^(64 - p.over)) :
  Tx sz (p.run D) s fun s'=>C→Fm [p.wk,p.d] s.m s'.m∧vl (pl s'.m p.d) p.k=A^Eb%N:=by
 have hB:=f.B;have hk:=f.k;have aj:=f.nk;have ao:=S5 f.w.2;have ap:=jw p;have T:0<2^p.w:=Dz _;have ad:=f.ti;have aq:=f.ov;have ar:p.b.k≤65536:=by have:=f.b.1;have:=f.b.2;omega
 have aw:p.k≤65536:=by have:=f.wk.1;have:=f.wk.2;simp only[Pw.wk] at *;omega
 have ax:p.times≤p.times*p.w:=Nat.le_mul_of_pos_right _ f.w.1;have M:p.acc.in_ sz:=Pz f rfl (by simp only[Pw.acc];omega);have U:p.cur.in_ sz:=Pz f rfl (by simp only[Pw.cur];omega);have iE:p.ent.in_ sz:=Pz f rfl (by simp only[Pw.ent,Pw.tab];omega);have e0:p.en 0=p.ent:=by simp[Pw.en,Pw.ent,Pw.tab]
 have B:∀{l:List Pn} {m m':Nat→Nat→UInt64},Fm l m m'→(∀q∈l,q.b=p.wb∧p.wa≤q.a∧q.a+q.k≤p.wa+(4*p.k+p.b.k+3+p.k*2^p.w))→Fm [p.wk] m m':=fun h d=>h.inn fun q V=>Wj (d q V).1 (d q V).2.1 (d q V).2.2
 have hT:(18446744073709551616:Nat)^(p.b.k+1)=2^(64*(p.b.k+1)):=rp _;have e:p.run D=(Rr p.acc.p p.ent.p p.k ((p.B+3:Nat):Int) D).cat ((Gk D p.times ((E4 [Ij ((p.B+1:Nat):Int) (p.B:Nat)]).cat ((Gk ((D+1:Nat):Int) p.w ((p.mont p.acc p.acc p.acc ((D+2:Nat):Int)).cat (p.shift ((D+2:Nat):Int)))).cat ((p.scan ((D+1:Nat):Int)).cat (p.mont p.acc p.acc p.cur ((D+1:Nat):Int)))))).cat ((E4 [cK ((p.B+3:Nat):Int) 1]).cat ((Ke p.cur.p p.B D).cat ((E4 [Ff p.cur.p (-1) ((0:Nat):Int) ((p.B+3:Nat):Int)]).cat (p.mont p.d p.acc p.cur D))))):=by
  unfold Pw.run Pw.runR Pw.runW Pw.copies;rw[show (D:Int)+1+1=((D+2:Nat):Int) by omega];rfl
 rw[e];refine (Wp (to:=p.acc) (fr:=p.ent) (k:=p.k) (l:=p.B+3) (D:=D) M iE (by simp[Pw.acc]) (by simp[Pw.ent]) (by omega) (.inr (.inl (by simp only[Pw.acc,Pw.ent,Pw.tab];omega)))).cat fun s1 ⟨g1,o1,v1⟩=>?_
 have w1:=B (o1.fm (l:=[p.acc]) (by simp)) (fun q d=>by simp at d;subst d;simp only[Pw.acc,Dt];omega);have z1:s1.r p.B=0:=by rw[g1 p.B (by omega) (by omega),hz]
 refine Tx.cat (R:=fun s2=>s2.r p.B=0∧(C→Fm [p.wk] s.m s2.m∧vl (pl s2.m p.acc) p.k=A^Eb*18446744073709551616^p.k%N)) ?_ fun s2 ⟨O,v2⟩=>?_
 ·refine .lp (fun i s2=>s2.r p.B=0∧(C→Fm [p.wk] s.m s2.m∧(∀e,e<2^p.w→vl (pl s2.m (p.en e)) p.k=A^e*18446744073709551616^p.k%N)∧∃h,vl (pl s2.m p.acc) p.k=A^h*18446744073709551616^p.k%N∧Eb*2^(64 - p.over)*2^(i*p.w)=h*18446744073709551616^(p.b.k+1)+vl (pl s2.m p.es) (p.b.k+1)))
   ⟨z1,fun r=>?_⟩ (by omega) (fun i s2 hi ⟨O,v2⟩=>?_) fun s2 ⟨O,v2⟩=>⟨O,fun r=>?_⟩
  ·obtain⟨a1,a2⟩:=aa r;refine⟨w1,fun e he=>?_,0,?_,?_⟩
   ·have hle:=pk (p:=p) he;rw[o1.vl (.inr (.inl (by simp only[Pw.acc,Pw.en];omega))) (by simp[Pw.en])];exact a1 e he
   ·rw[Np (g:=pl s.m p.ent) v1,←e0];exact a1 0 T
   ·rw[o1.vl (.inr (.inl (by simp only[Pw.acc,Pw.es];omega))) (by simp[Pw.es]),a2];simp
  ·refine .op ud ?_;rw[Qm];refine Tx.cat (R:=fun o=>o.r p.B=0∧(o.r (p.B+1)).toNat<2^p.w∧(C→Fm [p.wk] s.m o.m∧(∀e,e<2^p.w→vl (pl o.m (p.en e)) p.k=A^e*18446744073709551616^p.k%N)∧∃h,vl (pl o.m p.acc) p.k=A^(h*2^p.w)*18446744073709551616^p.k%N∧Eb*2^(64 - p.over)*2^(i*p.w+p.w)=(h*2^p.w+(o.r (p.B+1)).toNat)*18446744073709551616^(p.b.k+1)+vl (pl o.m p.es) (p.b.k+1))) ?_ fun o ⟨z3,d3,P⟩=>?_
   ·refine .lp (fun j o=>o.r p.B=0∧(o.r (p.B+1)).toNat<2^j∧(C→Fm [p.wk] s.m o.m∧(∀e,e<2^p.w→vl (pl o.m (p.en e)) p.k=A^e*18446744073709551616^p.k%N)∧∃h,vl (pl o.m p.acc) p.k=A^(h*2^j)*18446744073709551616^p.k%N∧Eb*2^(64 - p.over)*2^(i*p.w+j)=(h*2^j+(o.r (p.B+1)).toNat)*18446744073709551616^(p.b.k+1)+vl (pl o.m p.es) (p.b.k+1)))
     ⟨by rw[Ez,Ab (by omega),Ez,Ab (by omega),O],by rw[Ez,Ai rfl,Ez,Ab (by omega),O];decide,fun r=>?_⟩ (by have:=f.w;omega) (fun j o hj ⟨z3,d3,P⟩=>?_) fun _ h=>h
    ·obtain⟨G,J,h,H,Q⟩:=v2 r;refine⟨G,J,h,by rw[Nat.pow_zero,De];exact H,?_⟩;rw[Ez,Ai rfl,Ez,Ab (by omega),O,C5,Nat.pow_zero,De];exact Q
    ·have ay:2^j≤64:=S5 (by have:=f.w;omega);refine (zf f (E:=D+2) (by omega) M M M rfl rfl rfl (.inl (.inl f.nb.symm)) (.inr (.inl (by simp only[Pw.acc,Pw.t];omega))) (.inr (.inr (by simp only[Pw.acc,Pw.t];omega))) (.inr (.inr (by simp only[Pw.acc,Pw.t];omega)))).cat fun L ⟨g4,v4⟩=>?_
     have z4:L.r p.B=0:=by rw[g4 p.B (by omega) (by omega) (by omega),Ez,Ab (by omega),z3]
     have d4:L.r (p.B+1)=o.r (p.B+1):=by rw[g4 _ (by omega) (by omega) (by omega),Ez,Ab (by omega)]
     refine (Wo f (D:=D+2) (by omega) z4 (by rw[d4];omega)).mono fun s5 ⟨g5,o5,b,hb,d5,W⟩=>?_
     rw[d4] at d5;refine⟨by rw[g5 p.B (by omega) (by omega),z4],by rw[d5,Bh];omega,fun r=>?_⟩;obtain⟨G,J,h,H,Q⟩:=P r;obtain⟨H3,N3,A3,_⟩:=Yi f G;obtain⟨inv,hinv⟩:=ze hk (I r);have w:=zvu (I r);simp only[Gy] at v4;rw[N3,S] at v4;rw[S] at hinv w;obtain⟨f4,K⟩:=v4 (H3.2 (I r)).1 (by rw[H];exact Df _ w);have K:=K inv hinv;rw[H,zmt hinv,←D4,show h*2^j+h*2^j=h*2^(j+1) by rw[Bh,←Dq];omega] at K;have w4:=B f4 (fun q d=>by simp at d;rcases d with rfl|rfl<;>simp only[Pw.acc,Pw.t,Dt]<;>omega);have w5:=B (o5.fm (l:=[p.es]) (by simp)) (fun q d=>by simp at d;subst d;simp only[Pw.es,Dt];omega);have af:vl (pl L.m p.es) (p.b.k+1)=vl (pl o.m p.es) (p.b.k+1):=f4.vl (fun q d=>by simp at d;rcases d with rfl|rfl<;>first|exact .inr (.inl (by simp only[Pw.acc,Pw.es];omega))|exact .inr (.inr (by simp only[Pw.t,Pw.es];omega))) (by simp[Pw.es]);rw[af] at W;refine⟨(G.trans w4).trans w5,fun e he=>?_,h,?_,?_⟩
     ·have hle:=pk (p:=p) he;rw[o5.vl (.inr (.inl (by simp only[Pw.es,Pw.en];omega))) (by simp[Pw.en]),f4.vl (fun q d=>by simp at d;rcases d with rfl|rfl<;>exact .inr (.inl (by simp only[Pw.acc,Pw.t,Pw.en];omega))) (by simp[Pw.en])];exact J e he
     ·rw[o5.vl (.inr (.inr (by simp only[Pw.es,Pw.acc];omega))) (by simp[Pw.acc])];exact K
     ·rw[d5,show i*p.w+(j+1)=i*p.w+j+1 by omega,Bh];exact au Q W
   ·refine (bj f (D:=D+1) (by omega) z3).cat fun L ⟨g4,o4,v4⟩=>?_
    have z4:L.r p.B=0:=by rw[g4 p.B (by omega) (by omega) (by omega) (by omega) (by omega),z3]
    refine (zf f (E:=D+1) (by omega) M M U rfl rfl rfl (.inl (.inl f.nb.symm)) (.inr (.inl (by simp only[Pw.acc,Pw.t];omega))) (.inr (.inr (by simp only[Pw.acc,Pw.t];omega))) (.inr (.inr (by simp only[Pw.cur,Pw.t];omega)))).mono fun s5 ⟨g5,W⟩=>⟨by rw[g5 p.B (by omega) (by omega) (by omega),z4],fun r=>?_⟩
    obtain⟨G,J,h,H,Q⟩:=P r;have w4:=B (o4.fm (l:=[p.cur]) (by simp)) (fun q d=>by simp at d;subst d;simp only[Pw.cur,Dt];omega);have X:=G.trans w4;obtain⟨H4,N4,A4,_⟩:=Yi f X;obtain⟨inv,hinv⟩:=ze hk (I r);have w:=zvu (I r);rw[N4,S] at W;rw[S] at hinv w;have z:vl (pl L.m p.acc) p.k=vl (pl o.m p.acc) p.k:=o4.vl (.inr (.inr (by simp only[Pw.cur,Pw.acc];omega))) (by simp[Pw.acc]);have F:vl (pl L.m p.cur) p.k=A^(o.r (p.B+1)).toNat*18446744073709551616^p.k%N:=by rw[Np (g:=pl o.m (p.en (o.r (p.B+1)).toNat)) (v4 d3)];exact J _ d3
    obtain⟨f5,q5⟩:=W (H4.2 (I r)).1 (by rw[z,H];exact Df _ w);have q5:=q5 inv hinv;rw[z,H,F,zmt hinv,←D4] at q5;have w5:=B f5 (fun q d=>by simp at d;rcases d with rfl|rfl<;>simp only[Pw.acc,Pw.t,Dt]<;>omega);refine⟨X.trans w5,fun e he=>?_,h*2^p.w+(o.r (p.B+1)).toNat,q5,?_⟩
    ·have hle:=pk (p:=p) he;rw[f5.vl (fun q d=>by simp at d;rcases d with rfl|rfl<;>exact .inr (.inl (by simp only[Pw.acc,Pw.t,Pw.en];omega))) (by simp[Pw.en]),o4.vl (.inr (.inl (by simp only[Pw.cur,Pw.en];omega))) (by simp[Pw.en])];exact J e he
    ·rw[Bb i,Cm,Q,f5.vl (fun q d=>by simp at d;rcases d with rfl|rfl<;>first|exact .inr (.inl (by simp only[Pw.acc,Pw.es];omega))|exact .inr (.inr (by simp only[Pw.t,Pw.es];omega))) (by simp[Pw.es]),o4.vl (.inr (.inl (by simp only[Pw.cur,Pw.es];omega))) (by simp[Pw.es])]
  ·obtain⟨G,_,h,H,Q⟩:=v2 r;have hv:=zwm (pl s2.m p.es) (p.b.k+1);have hh:h=Eb:=Zw Q (by rw[ad,hT,←D4];congr 1;omega) hv;rw[hh] at H;exact⟨G,H⟩
 ·refine .op N0 ?_;rw[Qm];refine (zri (a:=p.B) (D:=D) U (by omega)).cat fun o ⟨g3,o3,P⟩=>?_
  have ag:=U.1;simp only[Pw.cur] at ag;refine .op (jr (p:=p.cur) (by simp only[Pw.cur];omega) U.2) ?_;rw[Qm];refine (zf f (E:=D) (by omega) f.d M U f.dk rfl rfl f.dn (.inl f.db) (.inr (.inr (by simp only[Pw.acc,Pw.t];omega))) (.inr (.inr (by simp only[Pw.cur,Pw.t];omega)))).mono fun L ⟨g4,v4⟩ r=>?_
  obtain⟨G,J⟩:=v2 r;simp only[Ez,Gy] at o3 P;rw[Ab (by omega),O] at P;have r3:o.r (p.B+3)=1:=by rw[g3 _ (by omega),Ez,Ai rfl]
  rw[r3] at v4;have Y:Fp p.cur s2.m (o.sto p.cur.b (p.cur.a+0) 1).m:=o3.trans (Oe (by simp only[Pw.cur];omega));have w3:=B (Y.fm (l:=[p.cur]) (by simp)) (fun q d=>by simp at d;subst d;simp only[Pw.cur,Dt];omega);have Z:=G.trans w3;obtain⟨H4,N4,A4,_⟩:=Yi f Z;obtain⟨inv,hinv⟩:=ze hk (I r);have w:=zvu (I r);rw[N4,S] at v4;rw[S] at hinv w;have z:vl (pl (o.sto p.cur.b (p.cur.a+0) 1).m p.acc) p.k=vl (pl s2.m p.acc) p.k:=Y.vl (.inr (.inr (by simp only[Pw.cur,Pw.acc];omega))) (by simp[Pw.acc]);have F:vl (pl (o.sto p.cur.b (p.cur.a+0) 1).m p.cur) p.k=1:=by
   obtain⟨k,ah⟩:∃k,p.k=k+1:=⟨p.k - 1,by omega⟩;rw[ah,xn,I4,Ai rfl,y8 fun i hi=>by rw[I4,Ab (by omega)];exact P (i+1) (by simp only[Pw.cur];omega)];rfl
  obtain⟨f4,K⟩:=v4 (H4.2 (I r)).1 (by rw[z,J];exact Df _ w);have K:=K inv hinv;rw[z,J,F,Vl hinv] at K;refine⟨(Z.mono (by simp)).trans fun x y hn=>f4 x y fun q d=>?_,K⟩;simp at d;rcases d with rfl|rfl
  ·exact hn _ (by simp)
  ·rintro⟨V,h2,h3⟩;refine hn p.wk (by simp) ⟨V,?_,?_⟩
   ·simp only[Pw.wk,Pw.t] at *;omega
   ·simp only[Pw.wk,Pw.t] at *;omega
def e9 (a:PwS sz p){D:Nat}(H:D+3<8) :
  Tx sz (p.code D) s fun h=>p.H s.m→Fm [p.wk,p.d] s.m h.m∧vl (pl h.m p.d) p.k=vl (pl s.m p.a) p.k^vl (pl s.m p.b) p.b.k%vl (pl s.m p.n) p.k:=by
 have I:=a.B;have B:=jw p;unfold Pw.code;refine .op N0 ?_;rw[Qm];refine (Ww a (D:=D) (by omega) (by rw[Ez,Ai rfl])).cat fun s1 ⟨j,v1⟩=>?_
 rw[Gy] at v1;refine (pq a (D:=D) (by omega) j).cat fun s2 ⟨g2,m,v2⟩=>?_
 have E:s2.r p.B=0:=by rw[g2 p.B (by omega) (by omega),j]
 have o:Fm [p.wk] s1.m s2.m:=(m.fm (l:=[p.es]) (by simp)).inn fun q r=>by
  simp at r;subst r;exact Wj rfl (by simp only[Pw.es];omega) (by simp only[Pw.es];omega)
 obtain⟨F,w,x,J⟩:=Yi a o;refine (s8 (C:=p.H s.m) a (D:=D) (A:=vl (pl s2.m p.a) p.k) (N:=vl (pl s2.m p.n) p.k) (Eb:=vl (pl s1.m p.b) p.b.k) (fun d=>?_) (by omega) E rfl fun d=>?_).mono fun K G d=>?_
 ·obtain⟨f1,t1⟩:=v1 d;obtain⟨H1,_⟩:=Yi a f1;exact F.2 (H1.2 d)
 ·obtain⟨f1,t1⟩:=v1 d;obtain⟨H1,f,g,y⟩:=Yi a f1;refine⟨fun e he=>?_,v2⟩;have hle:=pk (p:=p) he;rw[m.vl (.inr (.inl (by simp only[Pw.es,Pw.en];omega))) (by simp[Pw.en]),x,g,w,f];exact t1 e he
 ·obtain⟨f1,t1⟩:=v1 d;obtain⟨H1,f,g,y⟩:=Yi a f1;obtain⟨f3,z⟩:=G d;rw[x,g,w,f,y] at z;exact⟨((f1.trans o).mono (by simp)).trans f3,z⟩
end ex
end Go.Sv
namespace Go.Sv
set_option linter.unusedSimpArgs false
section stp
def Mj {d times:Int}{b:Fr Lo}{T M:Nat}(a:times≤T)(f:T≤1000000)(g:b.stp≤M):(Gk d times b).stp≤T*(1+M) :=
 Bo (rz d times b (by omega)) (Ca (by omega) (by omega))
def Wu {d a b n t:Pc}{k R D:Int}(hk:k≤3)(l:t.size≤5):(O2 d a b n t k R D).stp≤500:=by
 unfold O2 Lk Ly Qb Nn Ke;have f:∀R D j:Int,(E4 (Lr a t R j)).stp≤8:=fun R D j=>by simp[J4,Lr,Fw]
 have g:∀R D j:Int,(E4 (Mh n t R j)).stp≤8:=fun R D j=>by simp[J4,Mh,Fw]
 have m:=Mj (d:=D+1) (times:=k) (T:=3) (by omega) (by omega) (f R D (D+1));have o:=Mj (d:=D+1) (times:=k - 1) (T:=3) (by omega) (by omega) (g R D (D+1));have q:=Mj (d:=D) (times:=k) (T:=3) (M:=100) (b:=((E4 [E7 (R+2) b D 0,cK (R+3) 0]).cat ((Gk (D+1) k (E4 (Lr a t R (D+1)))).cat (E4 (Gt t k R++[Ff t (-1) k (R+7),Ff t (-1) (k+1) (R+8)])))).cat ((E4 ([E7 (R+7) t (-1) 0,Ft (R+5) (R+10) (R+7) (R+1),E7 (R+4) n (-1) 0,cK (R+3) 0]++Fw R (R+10) (R+4))).cat
  ((Gk (D+1) (k - 1) (E4 (Mh n t R (D+1)))).cat (E4 (Gt t k R++[Ff t (-1) (k - 1) (R+7),E7 (R+7) t (-1) (k+1),Ew 3 (R+7) (R+7) (R+8),Ff t (-1) k (R+7)]))))) (by omega) (by omega) (by
   simp only[stp_cat,J4,Fw,Gt,Aj,Ar,Bc];omega)
 have r:=Mj (d:=D) (times:=t.size) (T:=5) (M:=1) (b:=E4 [Ff t D 0 R]) (by omega) (by omega) (by simp[J4]);have s:=Mj (d:=D) (times:=k) (T:=3) (M:=3) (b:=E4 (Lz n t R D++[])) (by omega) (by omega) (by simp[J4,Lz]);have w:=Mj (d:=D) (times:=k) (T:=3) (M:=5) (b:=E4 (Lz n t R D++[Fx (R+6) (R+10) (R+7) (R+6),Ff d D 0 (R+6)])) (by omega) (by omega) (by simp[J4,Lz]);have h:=zp7 (R+10) (R+1);simp only[stp_cat,J4,Aj,Ar,Bc,h] at *;omega
def zxa {d n r:Pc}{k bits R D:Int}(hk:k≤3)(a:r.size≤4)(f:bits≤400):(Pf d n r k bits R D).stp≤40000:=by
 unfold Pf Ke Rr;have g:=Mj (d:=D) (times:=r.size) (T:=4) (M:=1) (b:=E4 [Ff r D 0 R]) (by omega) (by omega) (by simp[J4]);have h:=Mj (d:=D) (times:=k) (T:=3) (M:=2) (b:=E4 [E7 (R+2) r D 0,Ff d D 0 (R+2)]) (by omega) (by omega) (by simp[J4]);have j:=Mj (d:=D) (times:=bits+1) (T:=401) (M:=90) (b:=Tb n r k R (D+1)) (by omega) (by omega) (by
  unfold Tb Oa Qi;have l:=Mj (d:=D+1) (times:=k+1) (T:=4) (M:=6) (b:=E4 [E7 (R+2) r (D+1) 0,It 9 (R+3) (R+2) 63,It 8 (R+2) (R+2) 1,Ew 6 (R+2) (R+2) (R+1),Ff r (D+1) 0 (R+2),Ij (R+1) (R+3)]) (by omega) (by omega) (by simp[J4]);have m:=Mj (d:=D+1) (times:=k) (T:=3) (M:=3) (b:=E4 (Nu n r R (D+1)++[])) (by omega) (by omega) (by simp[J4,Nu]);have o:=Mj (d:=D+1) (times:=k) (T:=3) (M:=5) (b:=E4 (Nu n r R (D+1)++[Fx (R+4) (R+6) (R+2) (R+4),Ff r (D+1) 0 (R+4)])) (by omega) (by omega) (by simp[J4,Nu]);simp only[stp_cat,J4,Ar,Bc];omega)
 simp only[stp_cat,J4,Ar,Bc];omega
def Pw.stp {p:Pw}{D:Int}(hk:p.k≤3)(hw:p.w≤6)(ht:p.times≤64)(hb:p.b.k≤2):(p.code D).stp≤1000000:=by
 have aa:=S5 hw;have mo:∀(d a b:Pn) (E:Int),(p.mont d a b E).stp≤500:=fun d a b E=>Wu (by omega) (by simp only[Pn.p,Pw.t];omega)
 have ra:∀(d:Pn) (bits:Int),bits≤400→(p.radix d bits D).stp≤40000:=fun d bits h=>zxa (by omega) (by simp only[Pn.p,Pw.r];omega) h
 have cp:∀(to fr:Pn),(p.copies to fr D).stp≤9:=fun to fr=>by
  unfold Pw.copies Rr;exact Mj (T:=3) (M:=2) (by omega) (by omega) (by simp[J4])
 unfold Pw.code;have a1:(p.fill D).stp≤200000:=by
  unfold Pw.fill;have b1:=Mj (d:=D) (times:=(2^p.w - 1:Nat)) (T:=64) (M:=600) (b:=p.fillR D) (by omega) (by omega) (by
   unfold Pw.fillR;have c1:=mo p.acc p.acc p.base (D+1);have c2:=Mj (d:=D+1) (times:=p.k) (T:=3) (M:=3) (b:=E4 [E7 (p.B+3) p.acc.p (D+1) 0,Ew 3 13 12 (D+1),Ff p.tab.p 13 0 (p.B+3)]) (by omega) (by omega) (by simp[J4]);simp only[stp_cat,J4,Ar,Bc];omega)
  have b2:=ra p.ent (64*p.k) (by omega);have b3:=ra p.cur (128*p.k) (by omega);have b4:=mo p.base p.a p.cur D;have b5:=cp p.acc p.ent;simp only[stp_cat,J4,Ar,Bc];omega
 have a2:(p.exp D).stp≤100:=by
  unfold Pw.exp;have b1:=Mj (d:=D) (times:=p.b.k) (T:=2) (M:=5) (b:=E4 (p.expB D)) (by omega) (by omega) (by unfold Pw.expB;split<;>simp[J4]);have b2:(E4 p.expE).stp≤1:=by unfold Pw.expE;split<;>simp[J4]
  simp only[stp_cat,J4,Ar,Bc] at *;omega
 have a3:(p.run D).stp≤500000:=by
  unfold Pw.run;have b0:∀E:Int,(p.shift E).stp≤30:=fun E=>by
   unfold Pw.shift Qi;have:=Mj (d:=E) (times:=p.es.k) (T:=3) (M:=6) (b:=E4 [E7 (p.B+3) p.es.p E 0,It 9 (p.B+4) (p.B+3) 63,It 8 (p.B+3) (p.B+3) 1,Ew 6 (p.B+3) (p.B+3) (p.B+2),Ff p.es.p E 0 (p.B+3),Ij (p.B+2) (p.B+4)]) (by simp only[Pw.es];omega) (by omega) (by simp[J4]);simp only[stp_cat,J4,Ar,Bc];omega
  have b1:=Mj (d:=D) (times:=p.times) (T:=64) (M:=6500) (b:=p.runR (D+1)) (by omega) (by omega) (by
   unfold Pw.runR;have c1:=Mj (d:=D+1) (times:=p.w) (T:=6) (M:=600) (b:=p.runW (D+1+1)) (by omega) (by omega) (by
    unfold Pw.runW;have:=mo p.acc p.acc p.acc (D+1+1);have:=b0 (D+1+1);simp only[stp_cat];omega)
   have c2:(p.scan (D+1)).stp≤2000:=by
    unfold Pw.scan;have d1:=Mj (d:=D+1) (times:=(2^p.w:Nat)) (T:=64) (M:=25) (b:=p.scanR (D+1)) (by omega) (by omega) (by
     unfold Pw.scanR;have:=Mj (d:=D+1+1) (times:=p.k) (T:=3) (M:=5) (b:=E4 (p.scanB (D+1+1))) (by omega) (by omega) (by simp[J4,Pw.scanB]);simp only[stp_cat,J4,Ar,Bc];omega)
    simp only[stp_cat,J4,Ar,Bc];omega
   have c3:=mo p.acc p.acc p.cur (D+1);simp only[stp_cat,J4,Ar,Bc];omega)
  have b2:=cp p.acc p.ent;have b3:=mo p.d p.acc p.cur D;have b4:(Ke p.cur.p p.B D).stp≤6:=by
   unfold Ke;exact Mj (T:=3) (M:=1) (by simp only[Pn.p,Pw.cur];omega) (by omega) (by simp[J4])
  simp only[stp_cat,J4,Ar,Bc];omega
 simp only[stp_cat,J4,Ar,Bc];omega
end stp
noncomputable def Pw.prog (p:Pw)(e:Nat):Fr Lo:=R3 e 0 (p.code e)
section prog
variable {p : Pw} {e : Nat} {c : Cf} {bs : List Bf} {sz : Nat → Nat} {s0 : Fs}
def Pw.prog_all (h:PwC c p)(h0:c.lo=0)(h7:c.hi=7)(he:e≤4):(p.prog e).AllH c 0:=by
 refine wrap_allH e 0 _ (by omega) (by omega) ?_;rw[Int.zero_add];exact Pw.all h (by omega)
def Pw.prog_gd (h:PwG bs p)(he:e≤4):Gd bs [] [] (p.prog e) []:=by
 refine zwq e 0 [] _ (by omega) (by omega) rfl (by simp) fun ls h1 h2=>?_
 rw[Int.zero_add] at h1 h2;exact Pw.gd h ⟨by omega,h2⟩ (by omega) (fun x hx=>by cases hx)
def Pw.prog_stp (he:e≤4)(hk:p.k≤3)(hw:p.w≤6)(ht:p.times≤64)(hb:p.b.k≤2):(p.prog e).stp≤16777216:=by
 unfold Pw.prog;rw[wrap_stp];have:=Pw.stp (p:=p) (D:=e) hk hw ht hb;omega
def Pw.prog_chk (h:PwG bs p)(he:e≤4)(h1:bs.length≤32)(h3:∀b∈bs,1≤b.size∧b.size≤65536∧1≤b.kind∧b.kind≤3)(hl:(p.prog e).flat.length≤65536):(Jq ((64:Nat):Int) bs (p.prog e).flat).2=0:=by
 have:=bu (bs:=bs) (f:=p.prog e) (S':=[]) h1 hl h3 (Pw.prog_gd h he);rw[show (((64:Nat):Int))=64 from rfl,this]
def Pw.prog_ex (hp:PwS sz p)(he:e≤4):Tx sz (p.prog e) s0 fun s'=>p.H s0.m→Fm [p.wk,p.d] s0.m s'.m∧vl (pl s'.m p.d) p.k=vl (pl s0.m p.a) p.k^vl (pl s0.m p.b) p.b.k%vl (pl s0.m p.n) p.k:=by
 refine zw4 e 0 _ _ fun s hs=>?_
 have hh:=e9 (sz:=sz) (s:=s) hp (D:=e) (by omega);rw[hs] at hh;exact hh
end prog
end Go.Sv
namespace Go.Sv
def M1 (vs:List Vr):List Bf:=vs.map fun v=>⟨v.limbs,2,v.sec⟩
def J7 (vs:List Vr):List Pc:=(List.range vs.length).map fun i:Nat=>⟨(i:Int),0,(gv vs i).limbs⟩
def Iu (vs:List Vr)(W:Int):List Bf:=M1 vs++[⟨W,2,false⟩,⟨W,2,true⟩]
section pl
variable {vs : List Vr} {W : Int} {i : Nat}
def plB_len:(Iu vs W).length=vs.length+2:=by simp[Iu,M1]
def plP_len:(J7 vs).length=vs.length:=by simp[J7]
def Y5 (hi:i<vs.length):Fk (Iu vs W) i=⟨(gv vs i).limbs,2,(gv vs i).sec⟩:=by
 have h:=Nq hi;have e:vs[i]=gv vs i:=by rw[Ah hi] at h;exact Option.some.inj h
 unfold Fk Iu M1;rw[Ae,Aq (by simpa using hi),Cc,Ah hi,e];rfl
def plB_w0:Fk (Iu vs W) vs.length=⟨W,2,false⟩:=by
 unfold Fk Iu M1;rw[Ae,Au (by simp)];simp
def plB_w1:Fk (Iu vs W) (vs.length+1)=⟨W,2,true⟩:=by
 unfold Fk Iu M1;rw[Ae,Au (by simp)];simp
def yy (hi:i<vs.length):H7 (J7 vs) i=⟨i,0,(gv vs i).limbs⟩:=by
 unfold H7 J7;rw[Ae,Cc,List.getElem?_range hi];rfl
def Sy (hv:Kj vs=true)(hi:i<vs.length):1≤(gv vs i).limbs∧(gv vs i).limbs≤512:=by
 obtain⟨k,e,_,_,a,d⟩:=zb1 hv (v:=(i:Int)) (by omega);unfold Jw at a d;rw[A9] at a d;exact⟨a,d⟩
def mf {v:Vr}(h:v∈vs):∃i,i<vs.length∧gv vs i=v:=by
 obtain⟨i,hi,e⟩:=Cq.1 h;have h:=Nq hi;rw[Ah hi,e] at h;exact⟨i,hi,(Option.some.inj h).symm⟩
def zqs (hv:Kj vs=true)(f:1≤W∧W≤32768):∀b∈Iu vs W,1≤b.size∧b.size≤65536∧1≤b.kind∧b.kind≤3:=by
 intro b a;unfold Iu M1 at a;rcases Ay.1 a with a|a
 ·obtain⟨v,d,rfl⟩:=El.1 a;obtain⟨i,hi,rfl⟩:=mf d;have:=Sy hv hi;simp only;omega
 ·simp at a;rcases a with rfl|rfl<;>simp only<;>omega
def zuv (hv:Kj vs=true)(hm:∀i,i<vs.length→(gv vs i).mode=0)(h:vs.length≤30)(g:1≤W∧W≤32768):Nk vs (Iu vs W) (J7 vs) ⟨vs.length,0,W⟩ ⟨(vs.length:Int)+1,0,W⟩=true:=by
 have a:=zqs hv g;have d:Ta (Iu vs W)=0:=by
  unfold Ta;rw[plB_len,Ab (by omega),Ab,Ab]
  ·rw[Bv];rintro⟨b,d,hk⟩;have:=a b d;simp at hk;omega
  ·rw[Bv];rintro⟨b,d,hk⟩;have:=a b d;simp at hk;omega
 unfold Nk;rw[hv,d,plB_len,plP_len];simp only[Ed,decide_true,Ac,Ao];refine⟨by omega,?_,?_,?_⟩
 ·refine Cb.2 fun i hi=>?_
  have hi:=Cp.1 hi;have j:=Sy hv hi;have f:=hm i hi;have e:((⟨i,0,(gv vs i).limbs⟩:Pc).buf.toNat)=i:=by simp
  unfold Su Oc;rw[yy hi,e,Y5 hi,plB_len];simp[Kc,f];omega
 ·have e:((⟨vs.length,0,W⟩:Pc).buf.toNat)=vs.length:=by simp
  unfold Oh Oc;rw[e,plB_w0,plB_len];simp;omega
 ·have e:((⟨(vs.length:Int)+1,0,W⟩:Pc).buf.toNat)=vs.length+1:=by simp only;omega
  unfold Oh Oc;rw[e,plB_w1,plB_len];simp;omega
end pl
section st
variable {bs : List Bf} {X : List (List UInt64)} {i : Nat}
def zir (h:((X.getD i []).length:Int)=(Fk bs i).size)(hi:i<bs.length):(Hy 64 bs X).bufs.getD i []=X.getD i []:=by
 show (K6 bs X bs.length).getD i []=_;unfold K6;rw[Ae,Cc,List.getElem?_range hi];simp only[Ck,B9];unfold Nl;rw[show (Fk bs i).size.toNat - (X.getD i []).length=0 by omega];simp
def zl9 (h:((X.getD i []).length:Int)=(Fk bs i).size)(hi:i<bs.length):Yj (Hy 64 bs X) i=(Fk bs i).size.toNat:=by
 unfold Yj;rw[zir h hi];omega
def zwn (h:((X.getD i []).length:Int)=(Fk bs i).size)(hi:i<bs.length)(j:Nat):(Kh (Hy 64 bs X)).m i j=(X.getD i []).getD j 0:=by
 show ((Hy 64 bs X).bufs.getD i []).getD j 0=_;rw[zir h hi]
def W5 {p:Pn}(h:((X.getD p.b []).length:Int)=(Fk bs p.b).size)(a:Bp bs p):p.in_ (Yj (Hy 64 bs X)):=by
 have f:=a.s;have g:=a.z;have d:=zl9 h a.b;unfold Pn.in_;rw[d];constructor
 ·omega
 ·exact_mod_cast (by omega:(Fk bs p.b).size.toNat≤65536)
def zlr {p:Pn}{n:Nat}(h:((X.getD p.b []).length:Int)=(Fk bs p.b).size)(a:p.b<bs.length)(d:p.a=0)(f:(X.getD p.b []).length=n):vl (pl (Kh (Hy 64 bs X)).m p) n=val (X.getD p.b []):=by
 refine vl_get (Di f) fun i hi=>?_
 show (Kh (Hy 64 bs X)).m p.b (p.a+i)=_;rw[d,Bd,zwn h a]
end st
end Go.Sv
