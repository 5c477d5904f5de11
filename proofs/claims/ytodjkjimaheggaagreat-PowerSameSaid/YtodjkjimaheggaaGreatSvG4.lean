/- Texts of the evaluator, of the logic over it, of plain arithmetic. -/
import Derived.Test.YtodjkjimaheggaaGreatSvG3
set_option linter.unusedSimpArgs false
set_option linter.defProp false
namespace Go.Sv
set_option linter.unusedSimpArgs false
def zhk {c:Cf}{x:Nat}(d:¬Jp c x)(j:¬(c.pa≤x∧x≤c.pb)):∀{f:Fr Lo} {lev:Int},0≤lev→f.AllH c lev→((x:Int)<lev∨c.hi<x)→f.noW x=true
 |.nil,_,_,_,_=>rfl
 |.op o r,lev,m,h,w=>by
  obtain⟨g,h⟩:=h;have l:=zhk d j m h w;simp only[Fr.noW,Ac,Bu,Bl];rcases g.m with ⟨m1,a,_⟩|⟨_,m1,a,_⟩
  ·refine⟨fun q=>?_,fun q=>?_,l⟩
   ·rw[q] at m1;rcases m1 with m1|m1
    ·omega
    ·exact d m1
   ·rw[q] at a;rcases a with a|a
    ·omega
    ·exact d a
  ·exact⟨fun q=>j (by omega),fun q=>by omega,l⟩
 |.loop o b e r,lev,m,h,w=>by
  obtain⟨⟨g1,g2,_⟩,k,_,z,h⟩:=h;have l:=zhk d j m h w;have y:=zhk d j (lev:=lev+1) (by omega) z (by omega);simp only[Fr.noW,Ac,Bu,Bl];exact⟨by omega,y,l⟩
def j7 {N:Nat}(a:N%2=1)(m:Nat):2^m*((N+1)/2)^m%N=1%N:=by
 rw[←Nat.mul_pow,show 2*((N+1)/2)=N+1 by omega,Nat.pow_mod,Nat.add_mod_left,←Nat.pow_mod,Nat.one_pow]
def zmy {P N inv x y:Nat}(hi:P*inv%N=1%N):(x*P%N)*(y*P%N)*inv%N=x*y*P%N:=by
 have a:((x*P%N)*(y*P%N))%N=(x*P*(y*P))%N:=(B1 _ _ _).symm;rw[B1,a,←B1,show x*P*(y*P)*inv=x*y*P*(P*inv) by grind,B1,hi,←B1,Da]
def Xw {P N inv x:Nat}(hi:P*inv%N=1%N):(x*P%N)*1*inv%N=x%N:=by
 rw[Da,B1,Nat.mod_mod,←B1,Cq,B1,hi,←B1,Da]
def j3 {P N inv a:Nat}(hi:P*inv%N=1%N):a*(P*P%N)*inv%N=a*P%N:=by
 have d:(a*(P*P%N))%N=(a*(P*P))%N:=by rw[B1,Nat.mod_mod,←B1]
 rw[B1,d,←B1,show a*(P*P)*inv=a*P*(P*inv) by grind,B1,hi,←B1,Da]
def zw5 (x y:UInt64):(Gu 0 (x ^^^ y) false).2=decide (x≠y):=by
 have h:=zci 0 (x ^^^ y) false;have f:=(Gu 0 (x ^^^ y) false).1.toNat_lt;by_cases e:x=y
 ·subst e;have d:x ^^^ x=0:=UInt64.xor_self;rw[d] at h f ⊢;generalize Gu 0 0 false=r at *;cases a:r.2
  ·simp
  ·rw[a] at h;simp at h;omega
 ·have d:(x ^^^ y).toNat≠0:=fun q=>by
   have:x ^^^ y=0:=Bm.1 q;exact e (UInt64.xor_eq_zero_iff.1 this)
  generalize Gu 0 (x ^^^ y) false=r at *;have g:(0:UInt64).toNat=0:=rfl;cases a:r.2
  ·rw[a,g] at h;simp only[Bool.toNat_false] at h;omega
  ·simp[e]
section ex
variable {sz : Nat → Nat} {s : Fs} {p : Pw}
def Wb (m:Nat→Nat→UInt64)(p:Pw)(e j:Nat):pl m p.tab (e*p.k+j)=pl m (p.en e) j:=by
 unfold pl Pw.tab Pw.en;dsimp only;rw[Cu (p.wa+4*p.k+p.b.k+3)]
def zfa (f:PwS sz p){E:Nat}(O:E+1<8){d a b:Pn}(hd:d.in_ sz)(q:a.in_ sz)(r:b.in_ sz)(P:d.k=p.k)(S:a.k=p.k)(kb:b.k=p.k)(dn:tf d p.n)(C:Dj d p.t)(F:Dj p.t a)(G:Dj p.t b) :
  Tx sz (p.mont d a b E) s fun g=>(∀z,¬(p.B+10≤z∧z≤p.B+20)→z≠E→z≠E+1→g.r z=s.r z) ∧
   (pl s.m p.n 0%2=1→vl (pl s.m a) p.k<vl (pl s.m p.n) p.k→Fm [d,p.t] s.m g.m∧∀inv,18446744073709551616^p.k*inv%vl (pl s.m p.n) p.k=1%vl (pl s.m p.n) p.k→vl (pl g.m d) p.k=vl (pl s.m a) p.k*vl (pl s.m b) p.k*inv%vl (pl s.m p.n) p.k):=by
 obtain⟨k,hk⟩:∃k,p.k=k+1:=⟨p.k - 1,by have:=f.k;omega⟩;have T:=f.B;have l:p.t.in_ sz:=Re f rfl (by have:=m6 p;simp only[Pw.t];omega);have U:p.t.k=k+3:=by simp only[Pw.t];omega
 have H:Dj p.t p.n:=.inl f.nb.symm;have I:=f.nk;have e:p.mont d a b E=Qd d.p a.p b.p p.n.p p.t.p (k+1:Nat) ((p.B+10:Nat):Int) (E:Nat):=by unfold Pw.mont;rw[hk];rfl
 rw[e];by_cases m:pl s.m p.n 0%2=1∧vl (pl s.m a) p.k<vl (pl s.m p.n) p.k
 ·rw[hk] at m ⊢;refine (de (k:=k) (by omega) hd q r f.n l (by omega) (by omega) (by omega) (by omega) (by omega) dn C F G H m.1 m.2).mono fun g ⟨g1,J,K,Q,V,v1⟩=>⟨fun z o w A=>g1 z (by omega) w A,fun _ _=>⟨fun x y B=>J x y (B d (by simp)) (B p.t (by simp)),fun inv hi=>?_⟩⟩
  exact Wd hi v1 K
 ·have L:=f.wk;have W:p.t.k≤65536:=by have:=l.1;have:=l.2;omega
  have j:(Qd d.p a.p b.p p.n.p p.t.p (k+1:Nat) ((p.B+10:Nat):Int) (E:Nat)).AllH ⟨d.b+a.b+b.b+p.n.b+p.wb+1,(p.B:Int)+10,11,E,E+1,8,7,fun _=>True,fun _=>True⟩ E :=
   zpp (by constructor<;>(dsimp only;omega)) ⟨by dsimp only;omega,trivial⟩ ⟨by dsimp only;omega,trivial⟩ ⟨by dsimp only;omega,trivial⟩ ⟨by dsimp only;omega,trivial⟩ ⟨by dsimp only[Pw.t];omega,trivial⟩ ⟨by dsimp only[Pw.t];omega,trivial⟩ (by omega) (by omega) (by constructor<;>(dsimp only;omega))
  obtain⟨g,o,_⟩:=zez _ (fun _=>none) s (Tn (R:=p.B+10) (D:=E) (k:=k) (by omega) (by omega) hd q r f.n l (by omega) (by omega) (by omega) (by omega) (by omega) (by omega)) (fun _ _ _ h=>by cases h) (fun _ _ h=>by cases h);refine⟨g,o,fun z w A X=>Py _ s g (zhk ?_ ?_ (by omega) j ?_) o,fun M N=>absurd ⟨M,N⟩ m⟩
  ·unfold Jp;dsimp only;omega
  ·dsimp only;omega
  ·dsimp only;omega
def Yi (C:PwS sz p){E e:Nat}(X:E<8)(he:e<2^p.w)(g:(s.r 12).toNat=e*p.k) :
  Tx sz ((Ha (E:Nat) (p.k:Nat) (Fl [Fq (p.B+3) p.acc.p (E:Nat) 0,Fg 3 13 12 (E:Nat),Fx p.tab.p 13 0 (p.B+3)])).cat (Fl [cK 13 (iU p.k),Fg 3 12 12 13])) s fun r =>
   (∀z,z≠p.B+3→z≠12→z≠13→z≠E→r.r z=s.r z)∧F5 (p.en e) s.m r.m∧(r.r 12).toNat=(e+1)*p.k∧∀j,j<p.k→pl r.m (p.en e) j=pl s.m p.acc j:=by
 have Y:=C.B;have hle:=vg he;have l:p.acc.in_ sz:=Re C rfl (by have:=m6 p;simp only[Pw.acc];omega);have m:p.tab.in_ sz:=Re C rfl (by simp only[Pw.tab];omega);have L:p.acc.a+p.k≤sz p.acc.b:=l.1;have M:p.tab.a+p.k*2^p.w≤sz p.tab.b:=m.1;have D:=l.2;have F:=m.2;have N:Dj (p.en e) p.acc:=.inr (.inr (by simp only[Pw.en,Pw.acc];omega));have O:(Ha (E:Nat) (p.k:Nat) (Fl [Fq (p.B+3) p.acc.p (E:Nat) 0,Fg 3 13 12 (E:Nat),Fx p.tab.p 13 0 (p.B+3)]))=Ha (E:Nat) (p.k:Nat) (Fl [Fq ((p.B+3:Nat):Int) p.acc.p (E:Nat) ((0:Nat):Int),Fg 3 ((13:Nat):Int) ((12:Nat):Int) (E:Nat),Fx p.tab.p ((13:Nat):Int) ((0:Nat):Int) ((p.B+3:Nat):Int)]):=rfl;rw[O];refine .cat (R:=fun s1=>(∀z,z≠p.B+3→z≠13→z≠E→s1.r z=s.r z)∧F5 (p.en e) s.m s1.m∧∀i,i<p.k→pl s1.m (p.en e) i=pl s.m p.acc i) ?_ fun s1 ⟨g1,w,v1⟩=>?_
 ·refine .lp (fun j s1=>(∀z,z≠p.B+3→z≠13→z≠E→s1.r z=s.r z)∧F5 (p.en e) s.m s1.m∧∀i,i<j→pl s1.m (p.en e) i=pl s.m p.acc i) ⟨fun _ _ _ _=>rfl,fun _ _ _=>rfl,fun _ h=>absurd h (by omega)⟩ (by omega) (fun j s1 P ⟨g1,w,v1⟩=>?_) fun _ h=>h
  have f:(UInt64.ofNat j).toNat=j:=S4 (by omega);have G:¬E=p.B+3:=by omega
  have H:¬12=p.B+3:=by omega
  have I:¬12=E:=by omega
  have Q:¬p.B+3=13:=by omega
  have Z:¬E=13:=by omega
  have a:s1.r 12=s.r 12:=g1 12 (by omega) (by omega) (by omega);have d:(s.r 12+UInt64.ofNat j).toNat=e*p.k+j:=by
   rw[Bs,g,f,Bd (by omega)]
  have J:pl s1.m p.acc j=pl s.m p.acc j:=w.pl N P;refine .op (Qj (by simp only[Fh,Bv,f];omega) D) (.op sr (.op (Wj (by simp only[Fh,Bv,Ab G,Ab H,Ab I,a,d];omega) F) (.nil ⟨fun z A B o=>?_,?_,fun i hi=>?_⟩)))
  ·rw[K0,Fh,Ab B,Fh,Ab A,Fh,Ab o,g1 z A B o]
  ·refine w.trans fun x y S=>?_
   simp only[Fh,Ho,Bv,Ab G,Ab H,Ab I,a,d,Rt,Be];rw[Ab];rintro⟨T,K⟩;exact S ⟨by rw[T];rfl,by rw[K];simp only[Pw.en,Pw.tab];omega,by rw[K];simp only[Pw.en,Pw.tab];omega⟩
  ·rw[←Wb,Jo];simp only[Fh,Ho,Bv,Ab G,Ab H,Ab I,Ab Q,a,d,f,Be];split
   ·rename_i q;have:i=j:=by omega
    rw[this];exact J
   ·rw[Wb];exact v1 i (by omega)
 ·have U:iU (p.k:Int)=UInt64.ofNat p.k:=by
   apply Bm.1;rw[Ol (by omega),S4 (by omega)]
  have V:[cK 13 (iU p.k),Fg 3 12 12 13]=[cK ((13:Nat):Int) (iU p.k),Fg 3 ((12:Nat):Int) ((12:Nat):Int) ((13:Nat):Int)]:=rfl;rw[V];refine .op Oh (.op sr (.nil ⟨fun z A B o W=>?_,w,?_,v1⟩))
  ·rw[Fh,Ab B,Fh,Ab o,g1 z A o W]
  ·have a:s1.r 12=s.r 12:=g1 12 (by omega) (by omega) (by omega);simp only[Fh,Bv,show ¬(12:Nat)=13 by omega,Dv];rw[a,Bs,g,Ol (by omega),Bb,Cn,Bd (by omega)]
def iw (N:PwS sz p){D:Nat}(hD:D+1<8)(hz:s.r p.B=0) :
  Tx sz (p.scan D) s fun T=>(∀z,¬(p.B+3≤z∧z≤p.B+6)→z≠12→z≠13→z≠D→z≠D+1→T.r z=s.r z)∧F5 p.cur s.m T.m ∧
   ((s.r (p.B+1)).toNat<2^p.w→∀j,j<p.k→pl T.m p.cur j=pl s.m (p.en (s.r (p.B+1)).toNat) j):=by
 have hB:=N.B;have aa:=U6 N.w.2;have I:p.cur.in_ sz:=Re N rfl (by have:=m6 p;simp only[Pw.cur];omega);have J:p.tab.in_ sz:=Re N rfl (by simp only[Pw.tab];omega);have ad:p.cur.a+p.k≤sz p.cur.b:=I.1;have af:p.tab.a+p.k*2^p.w≤sz p.tab.b:=J.1;have K:=I.2;have U:=J.2;have ag:=m6 p;obtain⟨g,E⟩:∃g,(s.r (p.B+1)).toNat=g:=⟨_,rfl⟩;have e:p.scan D=(Fl [cK ((12:Nat):Int) 0]).cat (Ha (D:Nat) (2^p.w:Nat) ((Fl [Fg 7 ((p.B+5:Nat):Int) ((p.B+1:Nat):Int) (D:Nat),F3 12 ((p.B+4:Nat):Int) ((p.B+5:Nat):Int) (p.B:Nat) ((p.B+5:Nat):Int) (p.B:Nat)]).cat ((Ha ((D+1:Nat):Int) (p.k:Nat) (Fl [Fg 3 ((13:Nat):Int) ((12:Nat):Int) ((D+1:Nat):Int),Fq ((p.B+3:Nat):Int) p.tab.p ((13:Nat):Int) ((0:Nat):Int),Fq ((p.B+6:Nat):Int) p.cur.p ((D+1:Nat):Int) ((0:Nat):Int),Gg ((p.B+3:Nat):Int) ((p.B+5:Nat):Int) ((p.B+6:Nat):Int) ((p.B+3:Nat):Int),Fx p.cur.p ((D+1:Nat):Int) ((0:Nat):Int) ((p.B+3:Nat):Int)])).cat (Fl [cK ((13:Nat):Int) (iU p.k),Fg 3 ((12:Nat):Int) ((12:Nat):Int) ((13:Nat):Int)])))):=rfl;rw[e,E];refine .op Oh ?_;rw[Rn];refine .lp (fun f s1=>(∀z,¬(p.B+3≤z∧z≤p.B+6)→z≠12→z≠13→z≠D→z≠D+1→s1.r z=s.r z)∧F5 p.cur s.m s1.m∧(s1.r 12).toNat=f*p.k∧(g<f→∀j,j<p.k→pl s1.m p.cur j=pl s.m (p.en g) j)) ⟨fun z _ w _ _ _=>by rw[Fh,Ab w],fun _ _ _=>rfl,by rw[Fh,Ag rfl];simp,fun h=>absurd h (by omega)⟩ (by omega) (fun f s1 hf ⟨g1,o1,X,v1⟩=>?_) fun s1 ⟨a,b,_,d⟩=>⟨a,b,d⟩
 have hle:=vg (p:=p) hf;have L:(UInt64.ofNat f).toNat=f:=S4 (by omega);have dj:Dj p.cur (p.en f):=.inr (.inl (by simp only[Pw.en,Pw.cur];omega));refine .op zxz (.op zio ?_);rw[Rn];have b0:¬p.B=p.B+5:=by omega
 have b1:¬p.B=D:=by omega
 have b2:¬p.B+1=D:=by omega
 have b3:¬p.B+5=p.B+4:=by omega
 have z1:s1.r p.B=0:=by rw[g1 p.B (by omega) (by omega) (by omega) (by omega) (by omega),hz]
 have d1:s1.r (p.B+1)=s.r (p.B+1):=g1 _ (by omega) (by omega) (by omega) (by omega) (by omega);obtain⟨s2,m⟩:∃s2,s2=((((s1.put D (UInt64.ofNat f)).put (p.B+5) ((s1.put D (UInt64.ofNat f)).r (p.B+1) ^^^ (s1.put D (UInt64.ofNat f)).r D)).put (p.B+4) (Gu (((s1.put D (UInt64.ofNat f)).put (p.B+5) ((s1.put D (UInt64.ofNat f)).r (p.B+1) ^^^ (s1.put D (UInt64.ofNat f)).r D)).r p.B) (((s1.put D (UInt64.ofNat f)).put (p.B+5) ((s1.put D (UInt64.ofNat f)).r (p.B+1) ^^^ (s1.put D (UInt64.ofNat f)).r D)).r (p.B+5)) (decide (((s1.put D (UInt64.ofNat f)).put (p.B+5) ((s1.put D (UInt64.ofNat f)).r (p.B+1) ^^^ (s1.put D (UInt64.ofNat f)).r D)).r p.B%2=1))).1).put (p.B+5) (Gj (Gu (((s1.put D (UInt64.ofNat f)).put (p.B+5) ((s1.put D (UInt64.ofNat f)).r (p.B+1) ^^^ (s1.put D (UInt64.ofNat f)).r D)).r p.B) (((s1.put D (UInt64.ofNat f)).put (p.B+5) ((s1.put D (UInt64.ofNat f)).r (p.B+1) ^^^ (s1.put D (UInt64.ofNat f)).r D)).r (p.B+5)) (decide (((s1.put D (UInt64.ofNat f)).put (p.B+5) ((s1.put D (UInt64.ofNat f)).r (p.B+1) ^^^ (s1.put D (UInt64.ofNat f)).r D)).r p.B%2=1))).2)):=⟨_,rfl⟩;rw[←m];have Y:s2.m=s1.m:=by rw[m];rfl
 have g2:∀z,z≠p.B+4→z≠p.B+5→z≠D→s2.r z=s1.r z:=fun z H w B=>by rw[m];simp only[Fh,Ab H,Ab w,Ab B]
 have u2:s2.r (p.B+5)=Gj (decide (g≠f)):=by
  rw[m];simp only[Fh,Bv,Ab b0,Ab b1,Ab b2,z1,d1];rw[show decide ((0:UInt64)%2=1)=false by decide,zw5]
  congr 1
  refine decide_eq_decide.2 (not_congr ⟨fun q=>?_,fun q=>?_⟩)
  ·rw[←E,q,L]
  ·exact Bm.1 (by rw[E,L,q])
 clear m;refine .cat (R:=fun l=>(∀z,¬(p.B+3≤z∧z≤p.B+6)→z≠13→z≠D+1→l.r z=s2.r z)∧F5 p.cur s.m l.m∧∀i,i<p.k→pl l.m p.cur i=if g=f then pl s.m (p.en g) i else pl s1.m p.cur i) ?_ fun l ⟨g3,O,P⟩=>?_
 ·refine .lp (fun j l=>(∀z,¬(p.B+3≤z∧z≤p.B+6)→z≠13→z≠D+1→l.r z=s2.r z)∧l.r (p.B+5)=s2.r (p.B+5)∧F5 p.cur s.m l.m∧∀i,i<p.k→pl l.m p.cur i=if g=f∧i<j then pl s.m (p.en g) i else pl s1.m p.cur i) ⟨fun _ _ _ _=>rfl,rfl,fun x y hn=>by rw[Y,o1 x y hn],fun i _=>by rw[Y,Ab (by omega)]⟩ (by omega) (fun j l M ⟨g3,Z,O,P⟩=>?_) fun l ⟨a,_,b,d⟩=>⟨a,b,fun i hi=>by rw[d i hi];by_cases q:g=f<;>simp[q,hi]⟩
  have o:(UInt64.ofNat j).toNat=j:=S4 (by omega);have n1:¬12=D+1:=by omega
  have Q:¬D+1=13:=by omega
  have n3:¬13=p.B+3:=by omega
  have S:¬D+1=p.B+3:=by omega
  have V:¬D+1=p.B+6:=by omega
  have n6:¬p.B+5=p.B+6:=by omega
  have n7:¬p.B+5=p.B+3:=by omega
  have n8:¬p.B+5=13:=by omega
  have n9:¬p.B+5=D+1:=by omega
  have W:¬p.B+3=p.B+6:=by omega
  have A:l.r 12=s1.r 12:=by rw[g3 12 (by omega) (by omega) (by omega),g2 12 (by omega) (by omega) (by omega)]
  have C:(s1.r 12+UInt64.ofNat j).toNat=f*p.k+j:=by
   rw[Bs,X,o,Bd (by omega)]
  refine .op sr (.op (Qj (by simp only[Fh,Bv,Ab n1,A,C];omega) U) (.op (Qj (by simp only[Fh,Bv,Ab Q,Ab S,o];omega) K) (.op zms (.op (Wj (by simp only[Fh,Bv,Ab Q,Ab S,Ab V,o];omega) K) (.nil ⟨fun z H w B=>?_,?_,?_,fun i hi=>?_⟩)))))
  ·rw[K0,Fh,Ab (by omega),Fh,Ab (by omega),Fh,Ab (by omega),Fh,Ab w,Fh,Ab B,g3 z H w B]
  ·simp only[K0,Fh,Ab n6,Ab n7,Ab n8,Ab n9];exact Z
  ·refine O.trans (zpg rfl ?_);simp only[Fh,Bv,Ab Q,Ab S,Ab V,o,Pw.cur];omega
  ·rw[Jo];simp only[Fh,Ho,Bv,Ab n1,Ab Q,Ab S,Ab V,Ab n6,Ab n7,Ab n8,Ab n9,Ab W,A,C,o,Be,Z,u2];by_cases q:i=j
   ·rw[Ag q,q];have hb:=Wn (decide (g≠f));by_cases F:g=f
    ·have G:¬Gj (decide (g≠f))%2=1:=by simp[F,Gj]
     rw[Ab G,Ag ⟨F,by omega⟩,Wb,O.pl dj M,F]
    ·have G:Gj (decide (g≠f))%2=1:=by simp[F,Gj]
     rw[Ag G,Ab (by omega),P j M,Ab (by omega)]
   ·rw[Ab q,P i hi];by_cases F:g=f∧i<j
    ·rw[Ag F,Ag (by omega)]
    ·rw[Ab F,Ab (by omega)]
 ·refine .op Oh (.op sr (.nil ⟨fun z H w B h4 h5=>?_,O,?_,fun ah j M=>?_⟩))
  ·rw[Fh,Ab w,Fh,Ab B,g3 z H B h5,g2 z (by omega) (by omega) h4,g1 z H w B h4 h5]
  ·have A:l.r 12=s1.r 12:=by rw[g3 12 (by omega) (by omega) (by omega),g2 12 (by omega) (by omega) (by omega)]
   simp only[Fh,Bv,show ¬(12:Nat)=13 by omega,Dv];rw[A,Bs,X,Ol (by omega),Bb,Cn,Bd (by omega)]
  ·rw[Ho,Ho,P j M];split
   ·rfl
   ·exact v1 (by omega) j M
end ex
end Go.Sv
namespace Go.Sv
set_option linter.unusedSimpArgs false
section ex
variable {sz : Nat → Nat} {s : Fs} {p : Pw}
def Pw.H (p:Pw)(m:Nat→Nat→UInt64):Prop:=pl m p.n 0%2=1∧vl (pl m p.a) p.k<vl (pl m p.n) p.k
def Z9 {m f:Nat→Nat→UInt64}(d:PwS sz p)(h:Fm [p.wk] m f):(p.H f↔p.H m)∧vl (pl f p.n) p.k=vl (pl m p.n) p.k∧vl (pl f p.a) p.k=vl (pl m p.a) p.k∧vl (pl f p.b) p.b.k=vl (pl m p.b) p.b.k:=by
 have hk:=d.k;have l:=d.nk;have o:=d.ak;have dn:∀q∈[p.wk],Dj q p.n:=fun q a=>by simp at a;subst a;exact .inl d.nb.symm
 have r:∀q∈[p.wk],Dj q p.a:=fun q a=>by simp at a;subst a;exact .inl d.ab.symm
 have db:∀q∈[p.wk],Dj q p.b:=fun q a=>by simp at a;subst a;exact .inl d.bb.symm
 have g:=h.vl dn (n:=p.k) (by omega);have j:=h.vl r (n:=p.k) (by omega);have w:=h.vl db (n:=p.b.k) (by omega);refine⟨?_,g,j,w⟩;unfold Pw.H;rw[g,j,h.pl dn (by omega)]
def Qc {m:Nat→Nat→UInt64}(h:p.H m):0<vl (pl m p.n) p.k:=by have:=h.2;omega
def zzs {m:Nat→Nat→UInt64}(hk:1≤p.k)(h:p.H m):∃inv,18446744073709551616^p.k*inv%vl (pl m p.n) p.k=1%vl (pl m p.n) p.k:=by
 have ho:vl (pl m p.n) p.k%2=1:=by
  obtain⟨k,a⟩:∃k,p.k=k+1:=⟨p.k - 1,by omega⟩;rw[a,zop];have d:=congrArg UInt64.toNat h.1;rw[UInt64.toNat_mod] at d;have f:((2:UInt64)).toNat=2:=rfl;have g:((1:UInt64)).toNat=1:=rfl;rw[f,g] at d;omega
 rw[Qs];exact⟨_,j7 ho _⟩
def Xv {q:Pn}(a:q.b=p.wb)(d:p.wa≤q.a)(f:q.a+q.k≤p.wa+(4*p.k+p.b.k+3+p.k*2^p.w)):q.b=p.wk.b∧p.wk.a≤q.a∧q.a+q.k≤p.wk.a+p.wk.k:=⟨a,d,f⟩
def Yd (d:PwS sz p){D:Nat}(hD:D+2<8)(hz:s.r p.B=0) :
  Tx sz (p.fill D) s fun I=>I.r p.B=0∧(p.H s.m→Fm [p.wk] s.m I.m∧∀e,e<2^p.w→vl (pl I.m (p.en e)) p.k=vl (pl s.m p.a) p.k^e*18446744073709551616^p.k%vl (pl s.m p.n) p.k):=by
 have hB:=d.B;have hk:=d.k;have aa:=d.nk;have J:=d.ak;have ad:=U6 d.w.2;have af:=m6 p;have ag:=d.wk;have ah:=d.kb;have U:0<2^p.w:=Dl _;have K:p.acc.in_ sz:=Re d rfl (by simp only[Pw.acc];omega);have iB:p.base.in_ sz:=Re d rfl (by simp only[Pw.base];omega);have V:p.cur.in_ sz:=Re d rfl (by simp only[Pw.cur];omega);have W:p.ent.in_ sz:=Re d rfl (by simp only[Pw.ent,Pw.tab];omega);have X:p.r.in_ sz:=Re d rfl (by simp only[Pw.r,Pw.t];omega);have e0:p.en 0=p.ent:=by simp[Pw.en,Pw.ent,Pw.tab]
 have f:∀{l:List Pn} {m Y:Nat→Nat→UInt64},Fm l m Y→(∀q∈l,q.b=p.wb∧p.wa≤q.a∧q.a+q.k≤p.wa+(4*p.k+p.b.k+3+p.k*2^p.w))→Fm [p.wk] m Y:=fun h a=>h.inn fun q L=>Xv (a q L).1 (a q L).2.1 (a q L).2.2
 have e:p.fill D=(Qv p.ent.p p.n.p p.r.p p.k ((64*p.k:Nat):Int) ((p.B+10:Nat):Int) D).cat ((Qv p.cur.p p.n.p p.r.p p.k ((128*p.k:Nat):Int) ((p.B+10:Nat):Int) D).cat ((p.mont p.base p.a p.cur D).cat ((Ta p.acc.p p.ent.p p.k ((p.B+3:Nat):Int) D).cat ((Fl [cK ((12:Nat):Int) (iU p.k)]).cat (Ha D (2^p.w - 1:Nat) ((p.mont p.acc p.acc p.base ((D+1:Nat):Int)).cat ((Ha ((D+1:Nat):Int) p.k (Fl [Fq (p.B+3) p.acc.p ((D+1:Nat):Int) 0,Fg 3 13 12 ((D+1:Nat):Int),Fx p.tab.p 13 0 (p.B+3)])).cat (Fl [cK 13 (iU p.k),Fg 3 12 12 13]))))))))  := by
  unfold Pw.fill Pw.fillR Pw.radix Pw.copies;rw[show (64:Int)*(p.k:Int)=((64*p.k:Nat):Int) by omega,show (128:Int)*(p.k:Int)=((128*p.k:Nat):Int) by omega];rfl
 rw[e];refine (zug (R:=p.B+10) (k:=p.k) (by omega) W d.n X (by simp[Pw.ent]) (by omega) rfl (.inl d.nb.symm) (.inr (.inr (by simp only[Pw.ent,Pw.tab,Pw.r,Pw.t];omega))) (by omega)).cat fun s1 ⟨g1,f1,v1⟩=>?_
 have Z:=f f1 (fun q a=>by simp at a;rcases a with rfl|rfl<;>simp only[Pw.ent,Pw.tab,Pw.r,Pw.t,Dy]<;>omega);have z1:s1.r p.B=0:=by rw[g1 p.B (by omega) (by omega) (by omega),hz]
 refine (zug (R:=p.B+10) (k:=p.k) (by omega) V d.n X (by simp[Pw.cur]) (by omega) rfl (.inl d.nb.symm) (.inr (.inl (by simp only[Pw.cur,Pw.r,Pw.t];omega))) (by omega)).cat fun s2 ⟨g2,f2,v2⟩=>?_
 have w2:=f f2 (fun q a=>by simp at a;rcases a with rfl|rfl<;>simp only[Pw.cur,Pw.r,Pw.t,Dy]<;>omega);have z2:s2.r p.B=0:=by rw[g2 p.B (by omega) (by omega) (by omega),z1]
 obtain⟨H1,N1,A1,_⟩:=Z9 d Z;obtain⟨H2,N2,A2,_⟩:=Z9 d w2;refine (zfa d (E:=D) (by omega) iB d.a V rfl J rfl (.inl (.inl d.nb.symm)) (.inr (.inl (by simp only[Pw.base,Pw.t];omega))) (.inl d.ab.symm) (.inr (.inr (by simp only[Pw.cur,Pw.t];omega)))).cat fun z ⟨g3,v3⟩=>?_
 have z3:z.r p.B=0:=by rw[g3 p.B (by omega) (by omega) (by omega),z2]
 refine (Y0 (to:=p.acc) (fr:=p.ent) (k:=p.k) (l:=p.B+3) (D:=D) K W (by simp[Pw.acc]) (by simp[Pw.ent]) (by omega) (.inr (.inl (by simp only[Pw.acc,Pw.ent,Pw.tab];omega)))).cat fun r ⟨g4,M,v4⟩=>?_
 have w4:=f (M.fm (l:=[p.acc]) (by simp)) (fun q a=>by simp at a;subst a;simp only[Pw.acc,Dy];omega);have z4:r.r p.B=0:=by rw[g4 p.B (by omega) (by omega),z3]
 refine .op Oh ?_;rw[Rn];have start:p.H s.m→Fm [p.wk] s.m r.m∧vl (pl r.m p.base) p.k=vl (pl s.m p.a) p.k*18446744073709551616^p.k%vl (pl s.m p.n) p.k∧vl (pl r.m p.acc) p.k=18446744073709551616^p.k%vl (pl s.m p.n) p.k∧vl (pl r.m p.ent) p.k=18446744073709551616^p.k%vl (pl s.m p.n) p.k:=fun j=>by
  obtain⟨inv,hinv⟩:=zzs hk j;have o:=Qc j;have N:=v1 o;rw[N1] at v2;have q2:=v2 o;have A:=H2.2 (H1.2 j);obtain⟨f3,B⟩:=v3 A.1 A.2;rw[N2,N1,A2,A1] at B;have B:=B inv hinv;have w3:=f f3 (fun q a=>by simp at a;rcases a with rfl|rfl<;>simp only[Pw.base,Pw.t,Dy]<;>omega);have hP:(2:Nat)^(64*p.k)=18446744073709551616^p.k:=(Qs _).symm;have O:(2:Nat)^(128*p.k)=18446744073709551616^p.k*18446744073709551616^p.k:=by rw[←hP,←C9];congr 1;omega
  rw[hP] at N;rw[O] at q2;rw[q2,j3 hinv] at B;have C:vl (pl s2.m p.ent) p.k=vl (pl s1.m p.ent) p.k:=f2.vl (fun q a=>by simp at a;rcases a with rfl|rfl<;>exact .inr (.inl (by simp only[Pw.cur,Pw.r,Pw.t,Pw.ent,Pw.tab];omega))) (by simp[Pw.ent]);have F:vl (pl z.m p.ent) p.k=vl (pl s2.m p.ent) p.k:=f3.vl (fun q a=>by simp at a;rcases a with rfl|rfl<;>exact .inr (.inl (by simp only[Pw.base,Pw.t,Pw.ent,Pw.tab];omega))) (by simp[Pw.ent]);have P:vl (pl r.m p.ent) p.k=vl (pl z.m p.ent) p.k:=M.vl (.inr (.inl (by simp only[Pw.acc,Pw.ent,Pw.tab];omega))) (by simp[Pw.ent]);have Q:vl (pl r.m p.base) p.k=vl (pl z.m p.base) p.k:=M.vl (.inr (.inl (by simp only[Pw.acc,Pw.base];omega))) (by simp[Pw.base]);refine⟨(Z.trans w2).trans (w3.trans w4),by rw[Q,B],?_,by rw[P,F,C,N]⟩;rw[Om (g:=pl z.m p.ent) v4,F,C,N]
 refine (Tx.lp (fun i s5=>s5.r p.B=0∧(s5.r 12).toNat=(i+1)*p.k∧(p.H s.m→Fm [p.wk] s.m s5.m∧vl (pl s5.m p.base) p.k=vl (pl s.m p.a) p.k*18446744073709551616^p.k%vl (pl s.m p.n) p.k∧vl (pl s5.m p.acc) p.k=vl (pl s.m p.a) p.k^i*18446744073709551616^p.k%vl (pl s.m p.n) p.k∧∀e,e≤i→vl (pl s5.m (p.en e)) p.k=vl (pl s.m p.a) p.k^e*18446744073709551616^p.k%vl (pl s.m p.n) p.k))
  ⟨by rw[Fh,Ab (by omega),z4],by rw[Fh,Ag rfl,Ol (by omega)];omega,fun j=>?_⟩ (by omega) (fun i s5 hi ⟨S,r5,G⟩=>?_) fun s5 ⟨S,_,G⟩=>⟨S,fun j=>⟨(G j).1,fun e he=>(G j).2.2.2 e (by omega)⟩⟩)
 ·obtain⟨a1,a2,a3,a4⟩:=start j;refine⟨a1,a2,by rw[Nat.pow_zero,Cn];exact a3,fun e he=>?_⟩;have:e=0:=by omega
  subst this;rw[e0,Nat.pow_zero,Cn];exact a4
 ·refine (zfa d (E:=D+1) (by omega) K K iB rfl rfl rfl (.inl (.inl d.nb.symm)) (.inr (.inl (by simp only[Pw.acc,Pw.t];omega))) (.inr (.inr (by simp only[Pw.acc,Pw.t];omega))) (.inr (.inr (by simp only[Pw.base,Pw.t];omega)))).cat fun s6 ⟨g6,v6⟩=>?_
  have z6:s6.r p.B=0:=by rw[g6 p.B (by omega) (by omega) (by omega),Fh,Ab (by omega),S]
  have r6:(s6.r 12).toNat=(i+1)*p.k:=by rw[g6 12 (by omega) (by omega) (by omega),Fh,Ab (by omega),r5]
  refine (Yi d (E:=D+1) (e:=i+1) (by omega) (by omega) r6).mono fun s7 ⟨g7,H,r7,v7⟩=>⟨by rw[g7 p.B (by omega) (by omega) (by omega) (by omega),z6],r7,fun j=>?_⟩
  obtain⟨b1,b2,b3,b4⟩:=G j;obtain⟨H5,N5,A5,_⟩:=Z9 d b1;obtain⟨inv,hinv⟩:=zzs hk j;have o:=Qc j;simp only[Ho] at v6;rw[N5] at v6;obtain⟨f6,w⟩:=v6 (H5.2 j).1 (by rw[b3];exact Cm _ o);have w:=w inv hinv;rw[b2,b3] at w;have T:=zmy (x:=vl (pl s.m p.a) p.k^i) (y:=vl (pl s.m p.a) p.k) hinv;rw[T,←Bg] at w;have w6:=f f6 (fun q a=>by simp at a;rcases a with rfl|rfl<;>simp only[Pw.acc,Pw.t,Dy]<;>omega);have hle:=vg (p:=p) (e:=i+1) (by omega);have w7:=f (H.fm (l:=[p.en (i+1)]) (by simp)) (fun q a=>by simp at a;subst a;simp only[Pw.en,Dy];omega);have ent:∀e,e≤i→vl (pl s6.m (p.en e)) p.k=vl (pl s5.m (p.en e)) p.k:=fun e he=>f6.vl (fun q a=>by simp at a;rcases a with rfl|rfl<;>exact .inr (.inl (by simp only[Pw.acc,Pw.t,Pw.en];omega))) (by simp[Pw.en])
  have hmul:∀e,e≤i→e*p.k+p.k≤(i+1)*p.k:=fun e he=>by
   have:=At p.k (show e+1≤i+1 by omega);rw[Bb,Cn] at this;exact this
  refine⟨(b1.trans w6).trans w7,?_,?_,fun e he=>?_⟩
  ·rw[H.vl (.inr (.inr (by simp only[Pw.en,Pw.base];omega))) (by simp[Pw.base]),f6.vl (fun q a=>by simp at a;rcases a with rfl|rfl<;>first|exact .inr (.inl (by simp only[Pw.acc,Pw.base];omega))|exact .inr (.inr (by simp only[Pw.t,Pw.base];omega))) (by simp[Pw.base])];exact b2
  ·rw[H.vl (.inr (.inr (by simp only[Pw.en,Pw.acc];omega))) (by simp[Pw.acc]),w]
  ·by_cases q:e=i+1
   ·subst q;rw[Om (g:=pl s6.m p.acc) v7,w]
   ·rw[H.vl (.inr (.inr (by have:=hmul e (by omega);simp only[Pw.en];omega))) (by simp[Pw.en]),ent e (by omega)];exact b4 e (by omega)
def lq {E T h d j v a b P:Nat}(f:E*P=(h*2^j+d)*T+v)(g:a+T*b=2*v):E*(P*2)=(h*2^(j+1)+(2*d+b))*T+a:=by
 rw[←Cq,f,Bg];grind
def er {T Eb o h v P:Nat}(a:Eb*o*P=h*T+v)(f:o*P=T)(hv:v<T):h=Eb:=by
 have d:0<T:=by omega
 rw[Cq,f] at a;have g:Eb*T/T=Eb:=Nat.mul_div_cancel _ d;rw[a,Nat.add_comm,Nat.add_mul_div_right _ _ d,Dr hv] at g;omega
def ub {C:Prop}(f:PwS sz p)(I:C→p.H s.m){D A N Eb:Nat}(hD:D+3<8)(hz:s.r p.B=0)(S:vl (pl s.m p.n) p.k=N)
  (aa:C→(∀e,e<2^p.w→vl (pl s.m (p.en e)) p.k=A^e*18446744073709551616^p.k%N)∧vl (pl s.m p.es) (p.b.k+1)=Eb*2^(64 - p.over)) :
  Tx sz (p.run D) s fun s'=>C→Fm [p.wk,p.d] s.m s'.m∧vl (pl s'.m p.d) p.k=A^Eb%N:=by
 have hB:=f.B;have hk:=f.k;have aj:=f.nk;have ao:=U6 f.w.2;have ap:=m6 p;have T:0<2^p.w:=Dl _;have ad:=f.ti;have aq:=f.ov;have ar:p.b.k≤65536:=by have:=f.b.1;have:=f.b.2;omega
 have aw:p.k≤65536:=by have:=f.wk.1;have:=f.wk.2;simp only[Pw.wk] at *;omega
 have ax:p.times≤p.times*p.w:=Nat.le_mul_of_pos_right _ f.w.1;have M:p.acc.in_ sz:=Re f rfl (by simp only[Pw.acc];omega);have U:p.cur.in_ sz:=Re f rfl (by simp only[Pw.cur];omega);have iE:p.ent.in_ sz:=Re f rfl (by simp only[Pw.ent,Pw.tab];omega);have e0:p.en 0=p.ent:=by simp[Pw.en,Pw.ent,Pw.tab]
 have B:∀{l:List Pn} {m m':Nat→Nat→UInt64},Fm l m m'→(∀q∈l,q.b=p.wb∧p.wa≤q.a∧q.a+q.k≤p.wa+(4*p.k+p.b.k+3+p.k*2^p.w))→Fm [p.wk] m m':=fun h d=>h.inn fun q V=>Xv (d q V).1 (d q V).2.1 (d q V).2.2
 have hT:(18446744073709551616:Nat)^(p.b.k+1)=2^(64*(p.b.k+1)):=Qs _;have e:p.run D=(Ta p.acc.p p.ent.p p.k ((p.B+3:Nat):Int) D).cat ((Ha D p.times ((Fl [I4 ((p.B+1:Nat):Int) (p.B:Nat)]).cat ((Ha ((D+1:Nat):Int) p.w ((p.mont p.acc p.acc p.acc ((D+2:Nat):Int)).cat (p.shift ((D+2:Nat):Int)))).cat ((p.scan ((D+1:Nat):Int)).cat (p.mont p.acc p.acc p.cur ((D+1:Nat):Int)))))).cat ((Fl [cK ((p.B+3:Nat):Int) 1]).cat ((Ky p.cur.p p.B D).cat ((Fl [Fx p.cur.p (-1) ((0:Nat):Int) ((p.B+3:Nat):Int)]).cat (p.mont p.d p.acc p.cur D))))):=by
  unfold Pw.run Pw.runR Pw.runW Pw.copies;rw[show (D:Int)+1+1=((D+2:Nat):Int) by omega];rfl
 rw[e];refine (Y0 (to:=p.acc) (fr:=p.ent) (k:=p.k) (l:=p.B+3) (D:=D) M iE (by simp[Pw.acc]) (by simp[Pw.ent]) (by omega) (.inr (.inl (by simp only[Pw.acc,Pw.ent,Pw.tab];omega)))).cat fun s1 ⟨g1,o1,v1⟩=>?_
 have w1:=B (o1.fm (l:=[p.acc]) (by simp)) (fun q d=>by simp at d;subst d;simp only[Pw.acc,Dy];omega);have z1:s1.r p.B=0:=by rw[g1 p.B (by omega) (by omega),hz]
 refine Tx.cat (R:=fun s2=>s2.r p.B=0∧(C→Fm [p.wk] s.m s2.m∧vl (pl s2.m p.acc) p.k=A^Eb*18446744073709551616^p.k%N)) ?_ fun s2 ⟨O,v2⟩=>?_
 ·refine .lp (fun i s2=>s2.r p.B=0∧(C→Fm [p.wk] s.m s2.m∧(∀e,e<2^p.w→vl (pl s2.m (p.en e)) p.k=A^e*18446744073709551616^p.k%N)∧∃h,vl (pl s2.m p.acc) p.k=A^h*18446744073709551616^p.k%N∧Eb*2^(64 - p.over)*2^(i*p.w)=h*18446744073709551616^(p.b.k+1)+vl (pl s2.m p.es) (p.b.k+1)))
   ⟨z1,fun r=>?_⟩ (by omega) (fun i s2 hi ⟨O,v2⟩=>?_) fun s2 ⟨O,v2⟩=>⟨O,fun r=>?_⟩
  ·obtain⟨a1,a2⟩:=aa r;refine⟨w1,fun e he=>?_,0,?_,?_⟩
   ·have hle:=vg (p:=p) he;rw[o1.vl (.inr (.inl (by simp only[Pw.acc,Pw.en];omega))) (by simp[Pw.en])];exact a1 e he
   ·rw[Om (g:=pl s.m p.ent) v1,←e0];exact a1 0 T
   ·rw[o1.vl (.inr (.inl (by simp only[Pw.acc,Pw.es];omega))) (by simp[Pw.es]),a2];simp
  ·refine .op y5 ?_;rw[Rn];refine Tx.cat (R:=fun o=>o.r p.B=0∧(o.r (p.B+1)).toNat<2^p.w∧(C→Fm [p.wk] s.m o.m∧(∀e,e<2^p.w→vl (pl o.m (p.en e)) p.k=A^e*18446744073709551616^p.k%N)∧∃h,vl (pl o.m p.acc) p.k=A^(h*2^p.w)*18446744073709551616^p.k%N∧Eb*2^(64 - p.over)*2^(i*p.w+p.w)=(h*2^p.w+(o.r (p.B+1)).toNat)*18446744073709551616^(p.b.k+1)+vl (pl o.m p.es) (p.b.k+1))) ?_ fun o ⟨z3,d3,P⟩=>?_
   ·refine .lp (fun j o=>o.r p.B=0∧(o.r (p.B+1)).toNat<2^j∧(C→Fm [p.wk] s.m o.m∧(∀e,e<2^p.w→vl (pl o.m (p.en e)) p.k=A^e*18446744073709551616^p.k%N)∧∃h,vl (pl o.m p.acc) p.k=A^(h*2^j)*18446744073709551616^p.k%N∧Eb*2^(64 - p.over)*2^(i*p.w+j)=(h*2^j+(o.r (p.B+1)).toNat)*18446744073709551616^(p.b.k+1)+vl (pl o.m p.es) (p.b.k+1)))
     ⟨by rw[Fh,Ab (by omega),Fh,Ab (by omega),O],by rw[Fh,Ag rfl,Fh,Ab (by omega),O];decide,fun r=>?_⟩ (by have:=f.w;omega) (fun j o hj ⟨z3,d3,P⟩=>?_) fun _ h=>h
    ·obtain⟨G,J,h,H,Q⟩:=v2 r;refine⟨G,J,h,by rw[Nat.pow_zero,Da];exact H,?_⟩;rw[Fh,Ag rfl,Fh,Ab (by omega),O,Cw,Nat.pow_zero,Da];exact Q
    ·have ay:2^j≤64:=U6 (by have:=f.w;omega);refine (zfa f (E:=D+2) (by omega) M M M rfl rfl rfl (.inl (.inl f.nb.symm)) (.inr (.inl (by simp only[Pw.acc,Pw.t];omega))) (.inr (.inr (by simp only[Pw.acc,Pw.t];omega))) (.inr (.inr (by simp only[Pw.acc,Pw.t];omega)))).cat fun L ⟨g4,v4⟩=>?_
     have z4:L.r p.B=0:=by rw[g4 p.B (by omega) (by omega) (by omega),Fh,Ab (by omega),z3]
     have d4:L.r (p.B+1)=o.r (p.B+1):=by rw[g4 _ (by omega) (by omega) (by omega),Fh,Ab (by omega)]
     refine (Zs f (D:=D+2) (by omega) z4 (by rw[d4];omega)).mono fun s5 ⟨g5,o5,b,hb,d5,W⟩=>?_
     rw[d4] at d5;refine⟨by rw[g5 p.B (by omega) (by omega),z4],by rw[d5,Bg];omega,fun r=>?_⟩;obtain⟨G,J,h,H,Q⟩:=P r;obtain⟨H3,N3,A3,_⟩:=Z9 f G;obtain⟨inv,hinv⟩:=zzs hk (I r);have w:=Qc (I r);simp only[Ho] at v4;rw[N3,S] at v4;rw[S] at hinv w;obtain⟨f4,K⟩:=v4 (H3.2 (I r)).1 (by rw[H];exact Cm _ w);have K:=K inv hinv;rw[H,zmy hinv,←C9,show h*2^j+h*2^j=h*2^(j+1) by rw[Bg,←Cq];omega] at K;have w4:=B f4 (fun q d=>by simp at d;rcases d with rfl|rfl<;>simp only[Pw.acc,Pw.t,Dy]<;>omega);have w5:=B (o5.fm (l:=[p.es]) (by simp)) (fun q d=>by simp at d;subst d;simp only[Pw.es,Dy];omega);have af:vl (pl L.m p.es) (p.b.k+1)=vl (pl o.m p.es) (p.b.k+1):=f4.vl (fun q d=>by simp at d;rcases d with rfl|rfl<;>first|exact .inr (.inl (by simp only[Pw.acc,Pw.es];omega))|exact .inr (.inr (by simp only[Pw.t,Pw.es];omega))) (by simp[Pw.es]);rw[af] at W;refine⟨(G.trans w4).trans w5,fun e he=>?_,h,?_,?_⟩
     ·have hle:=vg (p:=p) he;rw[o5.vl (.inr (.inl (by simp only[Pw.es,Pw.en];omega))) (by simp[Pw.en]),f4.vl (fun q d=>by simp at d;rcases d with rfl|rfl<;>exact .inr (.inl (by simp only[Pw.acc,Pw.t,Pw.en];omega))) (by simp[Pw.en])];exact J e he
     ·rw[o5.vl (.inr (.inr (by simp only[Pw.es,Pw.acc];omega))) (by simp[Pw.acc])];exact K
     ·rw[d5,show i*p.w+(j+1)=i*p.w+j+1 by omega,Bg];exact lq Q W
   ·refine (iw f (D:=D+1) (by omega) z3).cat fun L ⟨g4,o4,v4⟩=>?_
    have z4:L.r p.B=0:=by rw[g4 p.B (by omega) (by omega) (by omega) (by omega) (by omega),z3]
    refine (zfa f (E:=D+1) (by omega) M M U rfl rfl rfl (.inl (.inl f.nb.symm)) (.inr (.inl (by simp only[Pw.acc,Pw.t];omega))) (.inr (.inr (by simp only[Pw.acc,Pw.t];omega))) (.inr (.inr (by simp only[Pw.cur,Pw.t];omega)))).mono fun s5 ⟨g5,W⟩=>⟨by rw[g5 p.B (by omega) (by omega) (by omega),z4],fun r=>?_⟩
    obtain⟨G,J,h,H,Q⟩:=P r;have w4:=B (o4.fm (l:=[p.cur]) (by simp)) (fun q d=>by simp at d;subst d;simp only[Pw.cur,Dy];omega);have X:=G.trans w4;obtain⟨H4,N4,A4,_⟩:=Z9 f X;obtain⟨inv,hinv⟩:=zzs hk (I r);have w:=Qc (I r);rw[N4,S] at W;rw[S] at hinv w;have z:vl (pl L.m p.acc) p.k=vl (pl o.m p.acc) p.k:=o4.vl (.inr (.inr (by simp only[Pw.cur,Pw.acc];omega))) (by simp[Pw.acc]);have F:vl (pl L.m p.cur) p.k=A^(o.r (p.B+1)).toNat*18446744073709551616^p.k%N:=by rw[Om (g:=pl o.m (p.en (o.r (p.B+1)).toNat)) (v4 d3)];exact J _ d3
    obtain⟨f5,q5⟩:=W (H4.2 (I r)).1 (by rw[z,H];exact Cm _ w);have q5:=q5 inv hinv;rw[z,H,F,zmy hinv,←C9] at q5;have w5:=B f5 (fun q d=>by simp at d;rcases d with rfl|rfl<;>simp only[Pw.acc,Pw.t,Dy]<;>omega);refine⟨X.trans w5,fun e he=>?_,h*2^p.w+(o.r (p.B+1)).toNat,q5,?_⟩
    ·have hle:=vg (p:=p) he;rw[f5.vl (fun q d=>by simp at d;rcases d with rfl|rfl<;>exact .inr (.inl (by simp only[Pw.acc,Pw.t,Pw.en];omega))) (by simp[Pw.en]),o4.vl (.inr (.inl (by simp only[Pw.cur,Pw.en];omega))) (by simp[Pw.en])];exact J e he
    ·rw[Bb i,Cn,Q,f5.vl (fun q d=>by simp at d;rcases d with rfl|rfl<;>first|exact .inr (.inl (by simp only[Pw.acc,Pw.es];omega))|exact .inr (.inr (by simp only[Pw.t,Pw.es];omega))) (by simp[Pw.es]),o4.vl (.inr (.inl (by simp only[Pw.cur,Pw.es];omega))) (by simp[Pw.es])]
  ·obtain⟨G,_,h,H,Q⟩:=v2 r;have hv:=Qe (pl s2.m p.es) (p.b.k+1);have hh:h=Eb:=er Q (by rw[ad,hT,←C9];congr 1;omega) hv;rw[hh] at H;exact⟨G,H⟩
 ·refine .op Oh ?_;rw[Rn];refine (zsv (a:=p.B) (D:=D) U (by omega)).cat fun o ⟨g3,o3,P⟩=>?_
  have ag:=U.1;simp only[Pw.cur] at ag;refine .op (qw (p:=p.cur) (by simp only[Pw.cur];omega) U.2) ?_;rw[Rn];refine (zfa f (E:=D) (by omega) f.d M U f.dk rfl rfl f.dn (.inl f.db) (.inr (.inr (by simp only[Pw.acc,Pw.t];omega))) (.inr (.inr (by simp only[Pw.cur,Pw.t];omega)))).mono fun L ⟨g4,v4⟩ r=>?_
  obtain⟨G,J⟩:=v2 r;simp only[Fh,Ho] at o3 P;rw[Ab (by omega),O] at P;have r3:o.r (p.B+3)=1:=by rw[g3 _ (by omega),Fh,Ag rfl]
  rw[r3] at v4;have Y:F5 p.cur s2.m (o.sto p.cur.b (p.cur.a+0) 1).m:=o3.trans (Pd (by simp only[Pw.cur];omega));have w3:=B (Y.fm (l:=[p.cur]) (by simp)) (fun q d=>by simp at d;subst d;simp only[Pw.cur,Dy];omega);have Z:=G.trans w3;obtain⟨H4,N4,A4,_⟩:=Z9 f Z;obtain⟨inv,hinv⟩:=zzs hk (I r);have w:=Qc (I r);rw[N4,S] at v4;rw[S] at hinv w;have z:vl (pl (o.sto p.cur.b (p.cur.a+0) 1).m p.acc) p.k=vl (pl s2.m p.acc) p.k:=Y.vl (.inr (.inr (by simp only[Pw.cur,Pw.acc];omega))) (by simp[Pw.acc]);have F:vl (pl (o.sto p.cur.b (p.cur.a+0) 1).m p.cur) p.k=1:=by
   obtain⟨k,ah⟩:∃k,p.k=k+1:=⟨p.k - 1,by omega⟩;rw[ah,zop,Jo,Ag rfl,zhn fun i hi=>by rw[Jo,Ab (by omega)];exact P (i+1) (by simp only[Pw.cur];omega)];rfl
  obtain⟨f4,K⟩:=v4 (H4.2 (I r)).1 (by rw[z,J];exact Cm _ w);have K:=K inv hinv;rw[z,J,F,Xw hinv] at K;refine⟨(Z.mono (by simp)).trans fun x y hn=>f4 x y fun q d=>?_,K⟩;simp at d;rcases d with rfl|rfl
  ·exact hn _ (by simp)
  ·rintro⟨V,h2,h3⟩;refine hn p.wk (by simp) ⟨V,?_,?_⟩
   ·simp only[Pw.wk,Pw.t] at *;omega
   ·simp only[Pw.wk,Pw.t] at *;omega
def fo (a:PwS sz p){D:Nat}(H:D+3<8) :
  Tx sz (p.code D) s fun h=>p.H s.m→Fm [p.wk,p.d] s.m h.m∧vl (pl h.m p.d) p.k=vl (pl s.m p.a) p.k^vl (pl s.m p.b) p.b.k%vl (pl s.m p.n) p.k:=by
 have I:=a.B;have B:=m6 p;unfold Pw.code;refine .op Oh ?_;rw[Rn];refine (Yd a (D:=D) (by omega) (by rw[Fh,Ag rfl])).cat fun s1 ⟨j,v1⟩=>?_
 rw[Ho] at v1;refine (xw a (D:=D) (by omega) j).cat fun s2 ⟨g2,m,v2⟩=>?_
 have E:s2.r p.B=0:=by rw[g2 p.B (by omega) (by omega),j]
 have o:Fm [p.wk] s1.m s2.m:=(m.fm (l:=[p.es]) (by simp)).inn fun q r=>by
  simp at r;subst r;exact Xv rfl (by simp only[Pw.es];omega) (by simp only[Pw.es];omega)
 obtain⟨F,w,x,J⟩:=Z9 a o;refine (ub (C:=p.H s.m) a (D:=D) (A:=vl (pl s2.m p.a) p.k) (N:=vl (pl s2.m p.n) p.k) (Eb:=vl (pl s1.m p.b) p.b.k) (fun d=>?_) (by omega) E rfl fun d=>?_).mono fun K G d=>?_
 ·obtain⟨f1,t1⟩:=v1 d;obtain⟨H1,_⟩:=Z9 a f1;exact F.2 (H1.2 d)
 ·obtain⟨f1,t1⟩:=v1 d;obtain⟨H1,f,g,y⟩:=Z9 a f1;refine⟨fun e he=>?_,v2⟩;have hle:=vg (p:=p) he;rw[m.vl (.inr (.inl (by simp only[Pw.es,Pw.en];omega))) (by simp[Pw.en]),x,g,w,f];exact t1 e he
 ·obtain⟨f1,t1⟩:=v1 d;obtain⟨H1,f,g,y⟩:=Z9 a f1;obtain⟨f3,z⟩:=G d;rw[x,g,w,f,y] at z;exact⟨((f1.trans o).mono (by simp)).trans f3,z⟩
end ex
end Go.Sv
namespace Go.Sv
set_option linter.unusedSimpArgs false
section stp
def M7 {d times:Int}{b:Fr Lo}{T M:Nat}(a:times≤T)(f:T≤1000000)(g:b.stp≤M):(Ha d times b).stp≤T*(1+M) :=
 Bq (yi d times b (by omega)) (Cb (by omega) (by omega))
def Y2 {d a b n t:Pc}{k R D:Int}(hk:k≤3)(l:t.size≤5):(Qd d a b n t k R D).stp≤500:=by
 unfold Qd L8 Mj Q8 Oq Ky;have f:∀R D j:Int,(Fl (Mz a t R j)).stp≤8:=fun R D j=>by simp[Kr,Mz,Gc]
 have g:∀R D j:Int,(Fl (Nc n t R j)).stp≤8:=fun R D j=>by simp[Kr,Nc,Gc]
 have m:=M7 (d:=D+1) (times:=k) (T:=3) (by omega) (by omega) (f R D (D+1));have o:=M7 (d:=D+1) (times:=k - 1) (T:=3) (by omega) (by omega) (g R D (D+1));have q:=M7 (d:=D) (times:=k) (T:=3) (M:=100) (b:=((Fl [Fq (R+2) b D 0,cK (R+3) 0]).cat ((Ha (D+1) k (Fl (Mz a t R (D+1)))).cat (Fl (Hi t k R++[Fx t (-1) k (R+7),Fx t (-1) (k+1) (R+8)])))).cat ((Fl ([Fq (R+7) t (-1) 0,F9 (R+5) (R+10) (R+7) (R+1),Fq (R+4) n (-1) 0,cK (R+3) 0]++Gc R (R+10) (R+4))).cat
  ((Ha (D+1) (k - 1) (Fl (Nc n t R (D+1)))).cat (Fl (Hi t k R++[Fx t (-1) (k - 1) (R+7),Fq (R+7) t (-1) (k+1),Fg 3 (R+7) (R+7) (R+8),Fx t (-1) k (R+7)]))))) (by omega) (by omega) (by
   simp only[stp_cat,Kr,Gc,Hi,Aj,Ar,Bc];omega)
 have r:=M7 (d:=D) (times:=t.size) (T:=5) (M:=1) (b:=Fl [Fx t D 0 R]) (by omega) (by omega) (by simp[Kr]);have s:=M7 (d:=D) (times:=k) (T:=3) (M:=3) (b:=Fl (Mr n t R D++[])) (by omega) (by omega) (by simp[Kr,Mr]);have w:=M7 (d:=D) (times:=k) (T:=3) (M:=5) (b:=Fl (Mr n t R D++[Gg (R+6) (R+10) (R+7) (R+6),Fx d D 0 (R+6)])) (by omega) (by omega) (by simp[Kr,Mr]);have h:=zq9 (R+10) (R+1);simp only[stp_cat,Kr,Aj,Ar,Bc,h] at *;omega
def zyc {d n r:Pc}{k bits R D:Int}(hk:k≤3)(a:r.size≤4)(f:bits≤400):(Qv d n r k bits R D).stp≤40000:=by
 unfold Qv Ky Ta;have g:=M7 (d:=D) (times:=r.size) (T:=4) (M:=1) (b:=Fl [Fx r D 0 R]) (by omega) (by omega) (by simp[Kr]);have h:=M7 (d:=D) (times:=k) (T:=3) (M:=2) (b:=Fl [Fq (R+2) r D 0,Fx d D 0 (R+2)]) (by omega) (by omega) (by simp[Kr]);have j:=M7 (d:=D) (times:=bits+1) (T:=401) (M:=90) (b:=Vk n r k R (D+1)) (by omega) (by omega) (by
  unfold Vk O0 Ro;have l:=M7 (d:=D+1) (times:=k+1) (T:=4) (M:=6) (b:=Fl [Fq (R+2) r (D+1) 0,Jd 9 (R+3) (R+2) 63,Jd 8 (R+2) (R+2) 1,Fg 6 (R+2) (R+2) (R+1),Fx r (D+1) 0 (R+2),I4 (R+1) (R+3)]) (by omega) (by omega) (by simp[Kr]);have m:=M7 (d:=D+1) (times:=k) (T:=3) (M:=3) (b:=Fl (Oy n r R (D+1)++[])) (by omega) (by omega) (by simp[Kr,Oy]);have o:=M7 (d:=D+1) (times:=k) (T:=3) (M:=5) (b:=Fl (Oy n r R (D+1)++[Gg (R+4) (R+6) (R+2) (R+4),Fx r (D+1) 0 (R+4)])) (by omega) (by omega) (by simp[Kr,Oy]);simp only[stp_cat,Kr,Ar,Bc];omega)
 simp only[stp_cat,Kr,Ar,Bc];omega
def Pw.stp {p:Pw}{D:Int}(hk:p.k≤3)(hw:p.w≤6)(ht:p.times≤64)(hb:p.b.k≤2):(p.code D).stp≤1000000:=by
 have aa:=U6 hw;have mo:∀(d a b:Pn) (E:Int),(p.mont d a b E).stp≤500:=fun d a b E=>Y2 (by omega) (by simp only[Pn.p,Pw.t];omega)
 have ra:∀(d:Pn) (bits:Int),bits≤400→(p.radix d bits D).stp≤40000:=fun d bits h=>zyc (by omega) (by simp only[Pn.p,Pw.r];omega) h
 have cp:∀(to fr:Pn),(p.copies to fr D).stp≤9:=fun to fr=>by
  unfold Pw.copies Ta;exact M7 (T:=3) (M:=2) (by omega) (by omega) (by simp[Kr])
 unfold Pw.code;have a1:(p.fill D).stp≤200000:=by
  unfold Pw.fill;have b1:=M7 (d:=D) (times:=(2^p.w - 1:Nat)) (T:=64) (M:=600) (b:=p.fillR D) (by omega) (by omega) (by
   unfold Pw.fillR;have c1:=mo p.acc p.acc p.base (D+1);have c2:=M7 (d:=D+1) (times:=p.k) (T:=3) (M:=3) (b:=Fl [Fq (p.B+3) p.acc.p (D+1) 0,Fg 3 13 12 (D+1),Fx p.tab.p 13 0 (p.B+3)]) (by omega) (by omega) (by simp[Kr]);simp only[stp_cat,Kr,Ar,Bc];omega)
  have b2:=ra p.ent (64*p.k) (by omega);have b3:=ra p.cur (128*p.k) (by omega);have b4:=mo p.base p.a p.cur D;have b5:=cp p.acc p.ent;simp only[stp_cat,Kr,Ar,Bc];omega
 have a2:(p.exp D).stp≤100:=by
  unfold Pw.exp;have b1:=M7 (d:=D) (times:=p.b.k) (T:=2) (M:=5) (b:=Fl (p.expB D)) (by omega) (by omega) (by unfold Pw.expB;split<;>simp[Kr]);have b2:(Fl p.expE).stp≤1:=by unfold Pw.expE;split<;>simp[Kr]
  simp only[stp_cat,Kr,Ar,Bc] at *;omega
 have a3:(p.run D).stp≤500000:=by
  unfold Pw.run;have b0:∀E:Int,(p.shift E).stp≤30:=fun E=>by
   unfold Pw.shift Ro;have:=M7 (d:=E) (times:=p.es.k) (T:=3) (M:=6) (b:=Fl [Fq (p.B+3) p.es.p E 0,Jd 9 (p.B+4) (p.B+3) 63,Jd 8 (p.B+3) (p.B+3) 1,Fg 6 (p.B+3) (p.B+3) (p.B+2),Fx p.es.p E 0 (p.B+3),I4 (p.B+2) (p.B+4)]) (by simp only[Pw.es];omega) (by omega) (by simp[Kr]);simp only[stp_cat,Kr,Ar,Bc];omega
  have b1:=M7 (d:=D) (times:=p.times) (T:=64) (M:=6500) (b:=p.runR (D+1)) (by omega) (by omega) (by
   unfold Pw.runR;have c1:=M7 (d:=D+1) (times:=p.w) (T:=6) (M:=600) (b:=p.runW (D+1+1)) (by omega) (by omega) (by
    unfold Pw.runW;have:=mo p.acc p.acc p.acc (D+1+1);have:=b0 (D+1+1);simp only[stp_cat];omega)
   have c2:(p.scan (D+1)).stp≤2000:=by
    unfold Pw.scan;have d1:=M7 (d:=D+1) (times:=(2^p.w:Nat)) (T:=64) (M:=25) (b:=p.scanR (D+1)) (by omega) (by omega) (by
     unfold Pw.scanR;have:=M7 (d:=D+1+1) (times:=p.k) (T:=3) (M:=5) (b:=Fl (p.scanB (D+1+1))) (by omega) (by omega) (by simp[Kr,Pw.scanB]);simp only[stp_cat,Kr,Ar,Bc];omega)
    simp only[stp_cat,Kr,Ar,Bc];omega
   have c3:=mo p.acc p.acc p.cur (D+1);simp only[stp_cat,Kr,Ar,Bc];omega)
  have b2:=cp p.acc p.ent;have b3:=mo p.d p.acc p.cur D;have b4:(Ky p.cur.p p.B D).stp≤6:=by
   unfold Ky;exact M7 (T:=3) (M:=1) (by simp only[Pn.p,Pw.cur];omega) (by omega) (by simp[Kr])
  simp only[stp_cat,Kr,Ar,Bc];omega
 simp only[stp_cat,Kr,Ar,Bc];omega
end stp
noncomputable def Pw.prog (p:Pw)(e:Nat):Fr Lo:=Tf e 0 (p.code e)
section prog
variable {p : Pw} {e : Nat} {c : Cf} {bs : List Bf} {sz : Nat → Nat} {s0 : Fs}
def Pw.prog_all (h:PwC c p)(h0:c.lo=0)(h7:c.hi=7)(he:e≤4):(p.prog e).AllH c 0:=by
 refine wrap_allH e 0 _ (by omega) (by omega) ?_;rw[Int.zero_add];exact Pw.all h (by omega)
def Pw.prog_gd (h:PwG bs p)(he:e≤4):Gd bs [] [] (p.prog e) []:=by
 refine Sm e 0 [] _ (by omega) (by omega) rfl (by simp) fun ls h1 h2=>?_
 rw[Int.zero_add] at h1 h2;exact Pw.gd h ⟨by omega,h2⟩ (by omega) (fun x hx=>by cases hx)
def Pw.prog_stp (he:e≤4)(hk:p.k≤3)(hw:p.w≤6)(ht:p.times≤64)(hb:p.b.k≤2):(p.prog e).stp≤16777216:=by
 unfold Pw.prog;rw[wrap_stp];have:=Pw.stp (p:=p) (D:=e) hk hw ht hb;omega
def Pw.prog_chk (h:PwG bs p)(he:e≤4)(h1:bs.length≤32)(h3:∀b∈bs,1≤b.size∧b.size≤65536∧1≤b.kind∧b.kind≤3)(hl:(p.prog e).flat.length≤65536):(J6 ((64:Nat):Int) bs (p.prog e).flat).2=0:=by
 have:=gn (bs:=bs) (f:=p.prog e) (S':=[]) h1 hl h3 (Pw.prog_gd h he);rw[show (((64:Nat):Int))=64 from rfl,this]
def Pw.prog_ex (hp:PwS sz p)(he:e≤4):Tx sz (p.prog e) s0 fun s'=>p.H s0.m→Fm [p.wk,p.d] s0.m s'.m∧vl (pl s'.m p.d) p.k=vl (pl s0.m p.a) p.k^vl (pl s0.m p.b) p.b.k%vl (pl s0.m p.n) p.k:=by
 refine Sj e 0 _ _ fun s hs=>?_
 have hh:=fo (sz:=sz) (s:=s) hp (D:=e) (by omega);rw[hs] at hh;exact hh
end prog
end Go.Sv
namespace Go.Sv
def N0 (vs:List Vr):List Bf:=vs.map fun v=>⟨v.limbs,2,v.sec⟩
def M6 (vs:List Vr):List Pc:=(List.range vs.length).map fun i:Nat=>⟨(i:Int),0,(gv vs i).limbs⟩
def Jf (vs:List Vr)(W:Int):List Bf:=N0 vs++[⟨W,2,false⟩,⟨W,2,true⟩]
section pl
variable {vs : List Vr} {W : Int} {i : Nat}
def plB_len:(Jf vs W).length=vs.length+2:=by simp[Jf,N0]
def plP_len:(M6 vs).length=vs.length:=by simp[M6]
def ib (hi:i<vs.length):F4 (Jf vs W) i=⟨(gv vs i).limbs,2,(gv vs i).sec⟩:=by
 have h:=Og hi;have e:vs[i]=gv vs i:=by rw[Ai hi] at h;exact Option.some.inj h
 unfold F4 Jf N0;rw[Ae,Aq (by simpa using hi),Ce,Ai hi,e];rfl
def plB_w0:F4 (Jf vs W) vs.length=⟨W,2,false⟩:=by
 unfold F4 Jf N0;rw[Ae,Au (by simp)];simp
def plB_w1:F4 (Jf vs W) (vs.length+1)=⟨W,2,true⟩:=by
 unfold F4 Jf N0;rw[Ae,Au (by simp)];simp
def zny (hi:i<vs.length):Ir (M6 vs) i=⟨i,0,(gv vs i).limbs⟩:=by
 unfold Ir M6;rw[Ae,Ce,List.getElem?_range hi];rfl
def Uw (hv:K3 vs=true)(hi:i<vs.length):1≤(gv vs i).limbs∧(gv vs i).limbs≤512:=by
 obtain⟨k,e,_,_,a,d⟩:=zbl hv (v:=(i:Int)) (by omega);unfold Kc at a d;rw[A8] at a d;exact⟨a,d⟩
def rf {v:Vr}(h:v∈vs):∃i,i<vs.length∧gv vs i=v:=by
 obtain⟨i,hi,e⟩:=Cs.1 h;have h:=Og hi;rw[Ai hi,e] at h;exact⟨i,hi,(Option.some.inj h).symm⟩
def zso (hv:K3 vs=true)(f:1≤W∧W≤32768):∀b∈Jf vs W,1≤b.size∧b.size≤65536∧1≤b.kind∧b.kind≤3:=by
 intro b a;unfold Jf N0 at a;rcases Az.1 a with a|a
 ·obtain⟨v,d,rfl⟩:=Ew.1 a;obtain⟨i,hi,rfl⟩:=rf d;have:=Uw hv hi;simp only;omega
 ·simp at a;rcases a with rfl|rfl<;>simp only<;>omega
def zwa (hv:K3 vs=true)(hm:∀i,i<vs.length→(gv vs i).mode=0)(h:vs.length≤30)(g:1≤W∧W≤32768):Od vs (Jf vs W) (M6 vs) ⟨vs.length,0,W⟩ ⟨(vs.length:Int)+1,0,W⟩=true:=by
 have a:=zso hv g;have d:U7 (Jf vs W)=0:=by
  unfold U7;rw[plB_len,Ab (by omega),Ab,Ab]
  ·rw[By];rintro⟨b,d,hk⟩;have:=a b d;simp at hk;omega
  ·rw[By];rintro⟨b,d,hk⟩;have:=a b d;simp at hk;omega
 unfold Od;rw[hv,d,plB_len,plP_len];simp only[El,decide_true,Ac,Ao];refine⟨by omega,?_,?_,?_⟩
 ·refine Cd.2 fun i hi=>?_
  have hi:=Cr.1 hi;have j:=Uw hv hi;have f:=hm i hi;have e:((⟨i,0,(gv vs i).limbs⟩:Pc).buf.toNat)=i:=by simp
  unfold Va O5;rw[zny hi,e,ib hi,plB_len];simp[Ku,f];omega
 ·have e:((⟨vs.length,0,W⟩:Pc).buf.toNat)=vs.length:=by simp
  unfold O1 O5;rw[e,plB_w0,plB_len];simp;omega
 ·have e:((⟨(vs.length:Int)+1,0,W⟩:Pc).buf.toNat)=vs.length+1:=by simp only;omega
  unfold O1 O5;rw[e,plB_w1,plB_len];simp;omega
end pl
section st
variable {bs : List Bf} {X : List (List UInt64)} {i : Nat}
def zis (h:((X.getD i []).length:Int)=(F4 bs i).size)(hi:i<bs.length):(Il 64 bs X).bufs.getD i []=X.getD i []:=by
 show (L5 bs X bs.length).getD i []=_;unfold L5;rw[Ae,Ce,List.getElem?_range hi];simp only[Cl,Cc];unfold Oi;rw[show (F4 bs i).size.toNat - (X.getD i []).length=0 by omega];simp
def znm (h:((X.getD i []).length:Int)=(F4 bs i).size)(hi:i<bs.length):Z4 (Il 64 bs X) i=(F4 bs i).size.toNat:=by
 unfold Z4;rw[zis h hi];omega
def zyd (h:((X.getD i []).length:Int)=(F4 bs i).size)(hi:i<bs.length)(j:Nat):(La (Il 64 bs X)).m i j=(X.getD i []).getD j 0:=by
 show ((Il 64 bs X).bufs.getD i []).getD j 0=_;rw[zis h hi]
def X4 {p:Pn}(h:((X.getD p.b []).length:Int)=(F4 bs p.b).size)(a:Bp bs p):p.in_ (Z4 (Il 64 bs X)):=by
 have f:=a.s;have g:=a.z;have d:=znm h a.b;unfold Pn.in_;rw[d];constructor
 ·omega
 ·exact_mod_cast (by omega:(F4 bs p.b).size.toNat≤65536)
def zm6 {p:Pn}{n:Nat}(h:((X.getD p.b []).length:Int)=(F4 bs p.b).size)(a:p.b<bs.length)(d:p.a=0)(f:(X.getD p.b []).length=n):vl (pl (La (Il 64 bs X)).m p) n=val (X.getD p.b []):=by
 refine vl_get (Dm f) fun i hi=>?_
 show (La (Il 64 bs X)).m p.b (p.a+i)=_;rw[d,Be,zyd h a]
end st
end Go.Sv
