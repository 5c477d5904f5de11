/- The templates: see the main text. -/
import Derived.Test.YtmnciecehjcjhaaGreatTg2
import Derived.Test.YtmnciecehjcjhaaGreatTg0
import Derived.Test.YtmnciecehjcjhaaGreatSvG2
import Derived.Test.YtmnciecehjcjhaaGreatSvG3
import Derived.Test.YtmnciecehjcjhaaGreatSvG4
set_option linter.defProp false
noncomputable section
namespace Go.Proofs.YtmnciecehjcjhaaGreat
open Go.Sv
set_option linter.unusedSimpArgs false
set_option maxRecDepth 10000
variable{g j A D U vO uR:Nat}{z B vT:Int}{M:Bool}{T:UInt64}{vZ uI:List UInt64}{uL:List (List UInt64)}{I:Pd}{P:LV}{Z:LV→Pd→Prop}{vQ:List Vr}{vL uF:Pc}
def zrh(g:List Vr)(o:Ko):Pl 27 [.lst (Py g) g.length 3,.agg o.f] (.bool (Qk g o)) []:=by
 refine P4.val rfl (Pj r_ref19_One Aa (by simp) ?_);have E:o.f=[.i o.kind,.i o.d,.i o.e,.i o.a,.i o.b,.i o.c,.u o.imm]:=rfl;by_cases D:o.kind=17
 ·simp[zdt,E,D];have hf:=zmv (Py g) g.length o;rw[E,D]at hf;refine Pr hf (bors_self _ Bk) ?_;simp[Qk,D]
 simp[zdt,E,D];refine Pr (zl2 o.kind) (by simp) ?_;simp[E];rw[←E];refine Pr (zi3 o) (bors_self _ rfl) ?_;cases U:Qm o.kind with
 |none=>simp[Xq,U,Qk,D]
 |some s =>
 have s0:¬((s:Int)<0):=J
 simp[Xq,U,E,s0];rw[←E];refine Pr (zj2 o) (bors_self _ rfl) ?_;cases hn:T1 o with
 |false=>simp[Qk,D,U,hn]
 |true =>
 have gO:=zpy U;simp[E];refine Qt (λρ gR gT N=>∃i:Nat,gR=[]∧gT=[.cells o.f 0,.cells ((S1 o).map .i) 1]∧N+i=5∧lk ρ 0=.lst (Py g) g.length 3∧lk ρ 3=.ptr 0 0∧lk ρ 5=.i s∧lk ρ 6=.ptr 1 0∧lk ρ 7=.bool (Wt g o s i)∧lk ρ 8=.i i∧∀Z,Z<i→To g.length s Z (gd (S1 o) Z)=true) (N:=5) ⟨0,by simp[S1,Wt,E]⟩ ?_;rintro N ρ gR gT ⟨i,rfl,rfl,hN,j,z,I,C,A,V,hp⟩ Nx X;by_cases hi:5≤i
 case neg =>
  have gI:(i:Int)<5:=J
  have g2:i<5:=J
  have K:=W4 (f:=LV.i) (Xl (l:=S1 o) (u:=i) g2);have P:To g.length s i (gd (S1 o) i)=true→∀Z,Z<i+1→To g.length s Z (gd (S1 o) Z)=true:=λh Z hj=>by
   by_cases e:Z=i
   ·rw[e];exact h
   ·exact hp Z J
  have G:To g.length s i (gd (S1 o) i)=false→Qk g o=false:=λh=>by
   simp[Qk,D,U,zpx g2 h]
  have Y:=zu9 s i;have F:=zq4 g o s i;generalize gd (S1 o) i=v at *;have L:0≤(s:Int)/2^i:=Int.ediv_nonneg J (Int.pow_nonneg J);have Q:(s:Int)/2^i<9223372036854775808:=Int.lt_of_le_of_lt (Int.ediv_le_self _ J) J;have em:max ((s:Int)/2^i) 0=(s:Int)/2^i:=J
  have hu:(iU (i:Int)).toNat=i:=Zr J;have B:i≤64:=J
  cases hb:s.testBit i with
  |false =>
   rw[hb]at Y F;simp only[Bool.false_and,Bool.or_false]at F;by_cases v1:v=-1
   ·simp[j,z,I,C,A,V,gI,Pe K,hu,B,em,L,Q,Y,v1]
    repeat (refine⟨J,?_⟩)
    exact X _ _ _ ⟨N-1,J,i+1,rfl,rfl,J,Am,Aq,Bn,Af,by simp[A,F],by simp,P (by simp[To,hb,v1])⟩
   ·simp[j,z,I,C,A,V,gI,Pe K,hu,B,em,L,Q,Y,v1]
    repeat (refine⟨J,?_⟩)
    exact G (by simp[To,hb,v1])
  |true =>
   rw[hb]at Y F;simp only[Nu]at F;by_cases v0:v<0
   ·simp[j,z,I,C,A,V,gI,Pe K,hu,B,em,L,Q,Y,v0]
    repeat (refine⟨J,?_⟩)
    exact G Cb
   by_cases v1:(g.length:Int)≤v
   ·simp[j,z,I,C,A,V,gI,Pe K,hu,B,em,L,Q,Y,v0,v1]
    repeat (refine⟨J,?_⟩)
    exact G Cb
   have hv:mw g v:=⟨J,J⟩;have ok:=P Cb;obtain⟨k,rfl,hk,ek⟩:=hv.at;have q1:=ziv ek;simp only[Kr]at q1 F;have v2:¬g.length≤k:=J
   have T:¬(k:Int)<0:=J
   have next:∀M b,Wt g o s (i+1)=b→lk M 0=.lst (Py g) g.length 3→lk M 3=.ptr 0 0→lk M 5=.i s→lk M 6=.ptr 1 0→lk M 7=.bool b→lk M 8=.i ((i:Int)+1)→Nx M [] [.cells o.f 0,.cells ((S1 o).map .i) 1]:=by
    rintro M b rfl a0 a3 a5 a6 a7 a8;exact X _ _ _ ⟨N-1,J,i+1,rfl,rfl,J,a0,a3,a5,a6,a7,by rw[a8];simp,ok⟩
   by_cases c2:(2:Int)≤(i:Int)
   ·have gg:2≤i:=J
    cases ha:Wt g o s i with
    |false =>
     rw[ha]at F A;simp[gg]at F;simp[j,z,I,C,A,V,gI,Pe K,Pe q1,hu,B,em,L,Q,Y,v2,hk,c2,T]
     repeat (refine⟨J,?_⟩)
     exact next _ _ F Am Aq Bn Af (by simp) (by simp)
    |true =>
     rw[ha]at F A;simp at F;simp[j,z,I,C,A,V,gI,Pe K,hu,B,em,L,Q,Y,v2,hk,c2,T]
     repeat (refine⟨J,?_⟩)
     exact next _ _ F Am Aq Bn Af (by simp) (by simp)
   have gg:¬2≤i:=J
   by_cases O:o.kind=14
   ·cases ha:Wt g o s i with
    |false =>
     rw[ha]at F A;simp[gg,O]at F;simp[j,z,I,C,A,V,gI,Pe K,Pe q1,hu,B,em,L,Q,Y,v2,hk,c2,T,E,O]
     repeat (refine⟨J,?_⟩)
     rw[←O,←E];exact next _ _ F Am Aq Bn Af (by simp) (by simp)
    |true =>
     rw[ha]at F A;simp at F;simp[j,z,I,C,A,V,gI,Pe K,hu,B,em,L,Q,Y,v2,hk,c2,T,E,O]
     repeat (refine⟨J,?_⟩)
     rw[←O,←E];exact next _ _ F Am Aq Bn Af (by simp) (by simp)
   ·simp[gg,O]at F;simp[j,z,I,C,A,V,gI,Pe K,Pe q1,hu,B,em,L,Q,Y,v2,hk,c2,T,E,O]
    repeat (refine⟨J,?_⟩)
    rw[←E];exact next _ _ F Am Aq Bn Af Al (by simp)
 have gD:Vp g.length s o=true:=zly λZ hj=>hp Z J
 have gF:=zn6 U gD;have ei:i=5:=J
 subst ei;rw[secU_5 U gD]at A;simp[j,z,I,C,A,V];refine Qt (λρ gR gT N=>∃i:Nat,gR=[]∧gT=[.cells o.f 0,.cells ((S1 o).map .i) 1]∧N+i=2∧lk ρ 0=.lst (Py g) g.length 3∧lk ρ 3=.ptr 0 0∧lk ρ 6=.ptr 1 0∧lk ρ 7=.bool (Qv g o)∧lk ρ 10=.i i∧∀Z,Z<i→Ug g (Qv g o) (gd (S1 o) Z)=true) (N:=2) ⟨0,by simp[j,z,C,A]⟩ ?_;clear j z I C A V hp X;rintro N ρ gR gT ⟨i,rfl,rfl,hN,j,z,C,A,H,hp⟩ Nx X;by_cases hi:2≤i
 case neg =>
  have gI:(i:Int)<2:=J
  have g5:(i:Int)<5:=J
  have g2:i<2:=J
  have K:=W4 (f:=LV.i) (Xl (l:=S1 o) (u:=i) (J:i<5));have P:Ug g (Qv g o) (gd (S1 o) i)=true→∀Z,Z<i+1→Ug g (Qv g o) (gd (S1 o) Z)=true:=λh Z hj=>by
   by_cases e:Z=i
   ·rw[e];exact h
   ·exact hp Z J
  have G:Ug g (Qv g o) (gd (S1 o) i)=false→Qk g o=false:=λh=>by
   have gK:i=0∨i=1:=J
   rcases gK with rfl|rfl
   ·have h:Ug g (Qv g o) o.d=false:=h;simp[Qk,D,U,h]
   ·have h:Ug g (Qv g o) o.e=false:=h;simp[Qk,D,U,h]
  have gL:gd (S1 o) i=-1∨mw g (gd (S1 o) i):=by
   have gK:i=0∨i=1:=J
   rcases gK with rfl|rfl
   ·exact gF.d
   ·exact gF.e
  have next:∀M,Ug g (Qv g o) (gd (S1 o) i)=true→lk M 0=.lst (Py g) g.length 3→lk M 3=.ptr 0 0→lk M 6=.ptr 1 0→lk M 7=.bool (Qv g o)→lk M 10=.i ((i:Int)+1)→Nx M [] [.cells o.f 0,.cells ((S1 o).map .i) 1]:=by
   intro M ok a0 a3 a6 a7 gM;exact X _ _ _ ⟨N-1,J,i+1,rfl,rfl,J,a0,a3,a6,a7,by rw[gM];simp,P ok⟩
  generalize gd (S1 o) i=v at *;rcases gL with rfl|hv
  ·simp[j,z,C,A,H,gI,g5,Pe K]
   repeat (refine⟨J,?_⟩)
   exact next _ (by simp[Ug]) Am Aq Af Al (by simp)
  ·obtain⟨k,rfl,hk,ek⟩:=hv.at;have q1:=ziv ek;have q2:=rx ek;simp only[Kr]at q1 q2;have R:Uq (gv g k)=(decide ((gv g k).mode=1) || decide ((gv g k).mode=2)):=rfl;have ho:Ug g (Qv g o) (k:Int)=!(Uq (gv g k) || (Qv g o && !(gv g k).sec)):=by
    have T:decide ((k:Int)<0)=false:=by simp
    simp[Ug,T]
   have T:(0:Int)≤(k:Int):=J
   by_cases m1:(gv g k).mode=1
   ·simp[j,z,C,A,H,gI,g5,Pe K,Pe q2,hk,T,m1]
    repeat (refine⟨J,?_⟩)
    exact G (by rw[ho,R];simp[m1])
   by_cases m2:(gv g k).mode=2
   ·simp[j,z,C,A,H,gI,g5,Pe K,Pe q2,hk,T,m1,m2]
    repeat (refine⟨J,?_⟩)
    exact G (by rw[ho,R];simp[m2])
   cases gH:Qv g o with
   |false =>
    rw[gH]at A ho G next
    simp[j,z,C,A,H,gI,g5,Pe K,Pe q2,hk,T,m1,m2]
    repeat (refine⟨J,?_⟩)
    exact next _ (by rw[ho,R];simp[m1,m2]) Am Aq Af Al (by simp)
   |true =>
    rw[gH]at A ho G next
    cases gG:(gv g k).sec with
    |false =>
     simp[j,z,C,A,H,gI,g5,Pe K,Pe q1,Pe q2,hk,T,m1,m2,gG]
     repeat (refine⟨J,?_⟩)
     exact G (by rw[ho,gG];simp)
    |true =>
     simp[j,z,C,A,H,gI,g5,Pe K,Pe q1,Pe q2,hk,T,m1,m2,gG]
     repeat (refine⟨J,?_⟩)
     exact next _ (by rw[ho,R,gG];simp[m1,m2]) Am Aq Af Al (by simp)
 have ei:i=2:=J
 subst ei;have od:Ug g (Qv g o) o.d=true:=hp 0 J;have oe:Ug g (Qv g o) o.e=true:=hp 1 J;have gU:o.f.length=7:=rfl;have gV:o.f.take 7=o.f:=rfl;by_cases L:o.e<0
 ·simp[j,z,H,E,L];rw[←E];refine Pr (zdf g o gF.alike) (bors_self _ (by simp[dats,LV.dat,Tt,E])) ?_;simp[Qk,D,U,hn,gD,od,oe,L]
 ·by_cases Q:o.d=o.e
  ·simp[j,z,H,E,L,Q];simp[Qk,D,U,L,Q]
  ·simp[j,z,H,E,L,Q];rw[←E];refine Pr (zdf g o gF.alike) (bors_self _ (by simp[dats,LV.dat,Tt,E])) ?_;simp[Qk,D,U,hn,gD,od,oe,L,Q]
def zf3:LC:=(.q [.x 3 1,.F 4] (.q [.m 5 0,.w 6 26 5,.m 7 6,.my 8 7 0,.y 9 7 (.loadN 7 (.t 3)),.y 10 7 (.w 27 [.t 8,.t 9]),.q 11 7 10,.m 4 11] .ret))
def r_ref22_Alone:Pk Tryz.prog 8=some ⟨12,zf3.r,[.tmp 4]⟩:=Aa
def zl5(g:List Vr)(o:Ko)(z:g.length≤9223372036854775807):Pl 8 [.lst (Py g) g.length 3,.agg o.f] (.bool (Tg g&&Qk g o)) []:=by
 refine P4.val rfl (Pj r_ref22_Alone Aa N ?_);have j:o.f=[.i o.kind,.i o.d,.i o.e,.i o.a,.i o.b,.i o.c,.u o.imm]:=rfl;simp[zf3,j];refine Pr (zh9 g z) (bors_self _ Bk) ?_;cases hv:Tg g with
 |false=>simp
 |true =>
  simp[j];rw[←j];refine Pr (zrh g o) (bors_self _ (by simp[dats,LV.dat,Tt,j])) ?_;simp
def Wa(g:Int)(j:Bool)(r:Int):Prop:=r=-1∨(8≤r∧r<16)∨(j=true∧16≤r∧r<40)∨(j=false∧40≤r∧r<64)∨(g≤r∧r<8)
def zkd:LC:=(.q [.e 4,.e 5,.K 6 0] (.seq (.q [.m 10 1,.z 11 (.w 20 [.t 10,(.c .nilSl)]),.b 12 .eql 3 11 0] (.cond (.t 12) (.q [.e 4,.e 5,.K 6 2] .ret) .skip)) (.q [.m 13 0,.s 14 13,.z 15 (.mkSl 1 [(.u 0)] (.t 14) (.t 14)),.z 16 (.buildSl 1 0 [] []),.m 7 15,.m 8 16] (.seq (.q [.m 17 0,.w 18 120 17,.b 19 .sub 3 18 1,.m 9 19] (.block 0 (.loop (.seq (.q [.m 20 9,.b 21 .geq 3 20 0] (.cond (.t 21) .skip (.exit 0))) (.seq (.block 1 (.q [.m 24 8,.m 25 8,.W 26 121 24 25,.m 8 26] (.seq (.q [.m 27 0,.m 28 9,.W 29 75 27 28] (.cond (.t 29) (.ops [.m 30 8,.z 31 (.buildSl 1 1 [(.u 0)] [(0,1,.c (.u 1))]),.W 32 121 30 31,.m 8 32]) .skip)) (.q [.m 33 8,.m 34 1,.W 35 20 33 34,.b 36 .geq 3 35 0] (.cond (.t 36) (.q [.m 38 8,.m 39 1,.W 40 122 38 39,.m 37 40,.X 41 0 37,.X 42 1 37,.m 8 41] (.ops [.m 43 7,.m 44 9,.b 45 .quo 3 44 64,.m 46 7,.m 47 9,.b 48 .quo 3 47 64,.I 49 1 46 48,.l 50 49,.m 51 9,.b 52 .rem 3 51 64,.z 53 (.cvInt .u64 (.t 52)),.z 54 (.bin .shl true 23 (.c (.u 1)) (.t 53)),.c 55 .or 23 50 54,.I 56 1 43 45,.S 1 56 55])) .skip))))) (.ops [.m 22 9,.b 23 .sub 3 22 1,.m 9 23])))))) (.q [.m 57 7,.w 58 47 57,.m 59 8,.w 60 47 59,.m 4 58,.m 5 60,.K 6 0] .ret)))))
def r_ref02_Div:Pk Tryz.prog 71=some ⟨61,zkd.r,[.tmp 4,.tmp 5,.tmp 6]⟩:=Aa
def t7(g:Pd)(v:LV)(r:List UInt64):Prop:=(v=.dy 1 0∧r=[]∧∃st,g[1]?=some (.dyn [] 0 1 0 st))∨v=LU r
def t7.bor{G:Pd}{v:LV}{r:List UInt64}(h:t7 G v r):bor G v (LU r):=by
 rcases h with ⟨rfl,rfl,st,hg⟩|rfl
 ·exact⟨_,_,_,st,rfl,hg,N⟩
 ·exact⟨rfl,N⟩
def zbe(a b:List UInt64)(ha:a.length≤10000)(hb:b.length≤10000):Pl 71 [LU a,LU b] (.tup [.dy 0 0,.dy 1 0,.i (if val b=0 then 2 else 0)]) [RU (if val b=0 then [] else P1 (val a/val b)),RU (if val b=0 then [] else P1 (val a%val b))]:=by
 refine P4.row2E (Pj r_ref02_Div Aa (by simp) ?_);simp[zkd];refine Pr (z1m b [] J (by simp)) (uv (by simp) (.inr ⟨1,by simp⟩)) ?_;by_cases h0:val b=0
 ·simp[h0,val,zxn,Uc];exact⟨_,_,⟨rfl,rfl⟩,rfl,rfl,by simp⟩
 simp[h0,val,zxn,repU];refine⟨J,?_⟩;refine Pr (zo6 a J) (by simp) ?_;have gF:=zs6 (val_lt a);simp;refine⟨J,?_⟩;refine Qt (λρ gV gG N=>∃(q r:List UInt64) (v:LV) (st:Nat),gV=[]∧N≤64*a.length∧lk ρ 0=LU a∧lk ρ 1=LU b∧lk ρ 7=.dy 0 0∧gG[0]?=some (.dyn (q.map .u) a.length 1 0 st)∧q.length=a.length∧lk ρ 8=v∧t7 gG v r∧lk ρ 9=.i ((N:Int)-1)∧r.length≤b.length∧zgk (val a) (val b) N q (val r)) (N:=R2 (val a)) ⟨List.replicate a.length 0,[],.dy 1 0,0,by simp[t7,val,gF];exact iy⟩ ?_;rintro N ρ gV gG ⟨q,r,v,st,rfl,hN,F,O,U,X,z,h8,hr,P,gH,Y⟩ Nx M;cases N with
 |zero =>
  obtain⟨e1,e2⟩:=div_end Y;simp[P,U];refine z9a (tk q J) (zwv (Uc.bor (l:=q) (.inr ⟨0,0,st,rfl,by rw[z];exact X⟩))) ?_;have gI:t7 (gG++[RU (P1 (val q))]) v r:=by
   rcases hr with ⟨x,y,s,gY⟩|x
   ·exact .inl ⟨x,y,s,gapp gY _⟩
   ·exact .inr x
  simp[h8];refine z9a (tk r J) (zwv gI.bor) ?_;rw[e1,e2];simp;exact⟨_,_,⟨rfl,rfl⟩,.inr ⟨_,0,0,rfl,Fp⟩,.inr ⟨_,0,0,rfl,Fp⟩,by simp⟩
 |succ n =>
  have e:((n+1:Nat):Int)-1=n:=J
  rw[e]at P;have Z:((n:Int)/64).toNat=n/64:=J
  have gg:(n:Int).tmod 64=(n%64:Nat):=by rw[O3 J];omega
  have gD:(iU ((n:Int)%64)).toNat=n%64:=by rw[(J:(n:Int)%64=(n%64:Nat))];exact Zr J
  have Q:n/64<a.length:=J
  have D:n/64<q.length:=J
  have hB:0<val b:=J
  have gL:val r<val b:=by rw[Y.1];exact L8 _ hB
  have gK:=nh gH;have gM:=val_lt b;have gO:2^(64*(b.length+1))=2^(64*b.length)*18446744073709551616:=zx8 _;obtain⟨s,C⟩:∃s,2*val r+((val a).testBit n).toNat=s:=⟨_,rfl⟩;have gR:((val a).testBit n).toNat≤1:=Pa _;have gT:(P1 s).length≤b.length+1:=Y1 J;have E:val (P1 s)=s:=Uv s;have gU:(P1 (val r+val r)).length≤b.length+1:=Y1 J;have hk:∀q':List UInt64,s<val b→zgk (val a) (val b) n q' s→(P1 s).length≤b.length:=λq' h _=>Y1 J
  have R:(P1 (s-val b)).length≤b.length:=Y1 J;have G:∀x,(gG++x)[0]?=some (.dyn (q.map .u) a.length 1 0 st):=λx=>gapp X x
  have T : ∀(x : Pd) (h : 0<(gG ++ x).length), (gG ++ x)[0]'h = .dyn (q.map .u) a.length 1 0 st := λx h => (Jy.1 (G x)).2
  simp[h8,P];refine Pr (z4t r r J J) (uv hr.bor hr.bor) ?_;simp[RU,F,P];refine Pr (z8d a n J) (by simp) ?_;cases g:(val a).testBit n
  ·rw[g]at C;have es:val r+val r=s:=by simp at C;omega
   simp[g,es,O];refine Pr (z1m (P1 s) b J J) (by simp) ?_;rw[E];by_cases A:val b≤s
   ·have j:0≤Sn s (val b):=zi9.2 A;have H:¬s<val b:=J
    have I:=zu0 (q:=q) hB D Y (by rw[g,C];exact A);rw[g,C]at I;have K:=w8 q (n/64) (iq (q.getD (n/64) 0) (Ui 1 (n%64))) D;have V:q[n/64]=q.getD (n/64) 0:=At
    generalize q.getD (n/64) 0=x at *;simp[j,O];refine Pr (z8q (P1 s) b J J) (by simp) ?_;rw[E];simp[RU,H,U,P,Z,gg,gD,X,G,T,Q,z,V,K];refine⟨J,J,J,J,J,J,J,M _ _ _ ⟨n,J,q.set (n/64) (iq x (Ui 1 (n%64))),P1 (s-val b),LU (P1 (s-val b)),st+1,rfl,J,Ae,Br,Cr,by rw[gset X];simp,Aq,by simp,.inr rfl,by simp,R,by rw[Uv];exact I⟩⟩
   ·have L:s<val b:=J
    have j:¬0≤Sn s (val b):=λh=>A (zi9.1 h)
    have B:=zv9 (q:=q) hB Y (by rw[g,C];exact L);rw[g,C]at B;simp[j,P];exact⟨J,M _ _ _ ⟨n,J,q,P1 s,LU (P1 s),st,rfl,J,Ae,Br,Cr,X,z,by simp,.inr rfl,by simp,hk q L (by rw[g,C]at *;exact B),by rw[E];exact B⟩⟩
  ·rw[g]at C;have es:val (P1 (val r+val r))+val [1]=s:=by rw[Uv,ztg];simp at C ⊢;omega
   simp[g];refine Pr (z4t (P1 (val r+val r)) [1] J (by simp)) (uv (by simp) (Uc.bor (l:=[1]) (.inr ⟨_,0,0,rfl,by simp⟩))) ?_;rw[es];simp[RU,O];refine Pr (z1m (P1 s) b J J) (by simp) ?_;rw[E];by_cases A:val b≤s
   ·have j:0≤Sn s (val b):=zi9.2 A;have H:¬s<val b:=J
    have I:=zu0 (q:=q) hB D Y (by rw[g,C];exact A);rw[g,C]at I;have K:=w8 q (n/64) (iq (q.getD (n/64) 0) (Ui 1 (n%64))) D;have V:q[n/64]=q.getD (n/64) 0:=At
    generalize q.getD (n/64) 0=x at *;simp[j,O];refine Pr (z8q (P1 s) b J J) (by simp) ?_;rw[E];simp[RU,H,U,P,Z,gg,gD,X,G,T,Q,z,V,K];refine⟨J,J,J,J,J,J,J,M _ _ _ ⟨n,J,q.set (n/64) (iq x (Ui 1 (n%64))),P1 (s-val b),LU (P1 (s-val b)),st+1,rfl,J,Ae,Br,Cr,by rw[gset (G _)];simp,Aq,by simp,.inr rfl,by simp,R,by rw[Uv];exact I⟩⟩
   ·have L:s<val b:=J
    have j:¬0≤Sn s (val b):=λh=>A (zi9.1 h)
    have B:=zv9 (q:=q) hB Y (by rw[g,C];exact L);rw[g,C]at B;simp[j,P];exact⟨J,M _ _ _ ⟨n,J,q,P1 s,LU (P1 s),st,rfl,J,Ae,Br,Cr,(G _),z,by simp,.inr rfl,by simp,hk q L (by rw[g,C]at *;exact B),by rw[E];exact B⟩⟩
def zgr:LC:=(.q [.e 4,.K 5 0] (.q [.m 10 0,.m 11 1,.W 12 71 10 11,.m 9 12,.X 13 0 9,.X 14 1 9,.X 15 2 9,.m 6 13,.m 7 14,.m 8 15] (.q [.m 16 7,.m 17 8,.m 4 16,.m 5 17] .ret)))
def r_ref03_rest:Pk Tryz.prog 148=some ⟨18,zgr.r,[.tmp 4,.tmp 5]⟩:=Aa
def zib:LC:=(.q [.e 6,.K 7 0] (.q [.m 8 0,.m 9 1,.W 10 121 8 9,.m 11 2,.W 12 148 10 11,.X 13 0 12,.X 14 1 12,.m 6 13,.m 7 14] .ret))
def r_ref03_Add:Pk Tryz.prog 125=some ⟨15,zib.r,[.tmp 6,.tmp 7]⟩:=Aa
def zkk:LC:=(.q [.e 6,.K 7 0] (.q [.m 15 0,.m 16 2,.W 17 148 15 16,.m 14 17,.X 18 0 14,.X 19 1 14,.m 8 18,.m 9 19] (.seq (.q [.m 20 9,.b 21 .neq 37 20 0] (.cond (.t 21) (.q [.m 22 9,.e 6,.m 7 22] .ret) .skip)) (.q [.m 24 1,.m 25 2,.W 26 148 24 25,.m 23 26,.X 27 0 23,.X 28 1 23,.m 10 27,.m 11 28] (.q [.m 30 8,.m 31 2,.W 32 121 30 31,.m 33 10,.W 34 122 32 33,.m 29 34,.X 35 0 29,.X 36 1 29,.m 12 35,.m 13 36] (.q [.m 37 12,.m 38 2,.W 39 148 37 38,.X 40 0 39,.X 41 1 39,.m 6 40,.m 7 41] .ret))))))
def r_ref03_Sub:Pk Tryz.prog 126=some ⟨42,zkk.r,[.tmp 6,.tmp 7]⟩:=Aa
def zk2(a b:List UInt64):(P1 (val a+val b)).length≤max a.length b.length+1:=by
 refine Y1 ?_;have g:=nh (a:=a) (n:=max a.length b.length) J;have j:=nh (a:=b) (n:=max a.length b.length) J;rw[zx8];omega
def pz(a n:List UInt64)(h:val n≠0):(P1 (val a%val n)).length≤n.length:=zlg (L8 _ J)
def z7h(a n:List UInt64)(ha:a.length≤10000)(hn:n.length≤10000):Pl 148 [LU a,LU n] (.tup [.dy 0 0,.i (mE (val n))]) [RU (mR (val n) (val a%val n))]:=by
 refine P4.rowE (Pj r_ref03_rest Aa N ?_);simp[zgr];refine X7 (zbe a n ha hn) N ?_;by_cases h:val n=0
 ·simp[h,mE,mR];exact .inr ⟨1,0,0,rfl,Fp⟩
 ·simp[h,mE,mR];exact .inr ⟨1,0,0,rfl,Fp⟩
def zoi(a b n:List UInt64)(ha:a.length≤4000)(hb:b.length≤4000)(hn:n.length≤4000):Pl 125 [LU a,LU b,LU n] (.tup [.dy 0 0,.i (mE (val n))]) [RU (mR (val n) ((val a+val b)%val n))]:=by
 refine P4.rowE (Pj r_ref03_Add Aa N ?_);have g:=zk2 a b;simp[zib];refine Pr (z4t a b J J) N ?_;simp[RU];refine X7 (z7h (P1 (val a+val b)) n J J) N ?_;simp[Uv];exact .inr ⟨0,0,0,rfl,Fp⟩
def zr8(a b n:List UInt64)(ha:a.length≤4000)(hb:b.length≤4000)(hn:n.length≤4000):Pl 126 [LU a,LU b,LU n] (.tup [.dy 0 0,.i (mE (val n))]) [RU (mR (val n) (Z6 (val a) (val b) (val n)))]:=by
 refine P4.rowE (Pj r_ref03_Sub Aa N ?_);simp[zkk];refine Pr (z7h a n J J) N ?_;by_cases h:val n=0
 ·simp[RU,h,mE,mR,Uc]
 have z:=pz a n h;have A:=pz b n h;simp[RU,mE_p h,tf h];refine Pr (z7h b n J J) N ?_;simp[RU,mE_p h,tf h];have j:=zk2 (P1 (val a%val n)) n;refine Pr (z4t (P1 (val a%val n)) n J J) N ?_;have g:¬val a%val n+val n<val b%val n:=by have:=L8 (val b) (J:0<val n);omega
 simp[RU];rw[Uv];rw[Uv]at j;refine Pr (z8q (P1 (val a%val n+val n)) (P1 (val b%val n)) J J) N ?_;have B:(P1 (val a%val n+val n-val b%val n)).length≤(P1 (val a%val n+val n)).length:=zvw (by rw[Uv];omega);simp[RU,Uv,g];refine X7 (z7h (P1 (val a%val n+val n-val b%val n)) n J J) N ?_;simp[Uv,mE_p h,tf h];exact .inr ⟨0,0,0,rfl,by simp[RU,Z6]⟩

def RV(g:Pd)(v:LV)(l:List UInt64):Prop:=v=LU l∨(v=.nilSl∧l=[])∨∃q st,v=.dy q 0∧g[q]?=some (.dyn (l.map .u) l.length 1 0 st)
def zam:LC:=(.q [.e 4,.K 5 0] (.seq (.q [.m 6 1,.b 7 .lss 3 6 0,.m 8 7,.mn 9 8 1,.nb 10 8 .gtr 3 9 512,.p 11 8 10] (.cond (.t 11) (.q [.e 4,.K 5 2] .ret) .skip)) (.q [.m 12 0,.w 13 47 12,.m 0 13] (.seq (.q [.m 14 0,.s 15 14,.m 16 1,.c 17 .gtr 3 15 16] (.cond (.t 17) (.q [.e 4,.K 5 3] .ret) .skip)) (.q [.m 18 0,.m 19 1,.m 20 0,.s 21 20,.c 22 .sub 3 19 21,.z 23 (.appZ 1 [(.u 0)] (.t 18) (.t 22)),.m 4 23,.K 5 0] .ret)))))
def r_ref02_Fit:Pk Tryz.prog 72=some ⟨24,zam.r,[.tmp 4,.tmp 5]⟩:=Aa
def zpb(a:List UInt64)(n:Int)(ha:a.length≤1000000):Pl 72 [LU a,.i n] (.tup [.dy 0 0,.i (Vb a n)]) [RU (Y2 a n)]:=by
 refine P4.rowE (Pj r_ref02_Fit Aa N ?_);have A:=z68 a;by_cases g:n<0
 ·have e:Vb a n=2:=J6 (.inl g);simp[zam,g,e,Y2,Uc]
 ·by_cases z:512<n
  ·have e:Vb a n=2:=J6 (.inr z);simp[zam,g,z,e,Y2,Uc]
  ·simp[zam,g,z];refine z9a (tk a J) N ?_;by_cases j:n<(P1 (val a)).length
   ·have e:Vb a n=3:=by unfold Vb;rw[J1 J,J6 j]
    simp[RU,j,e,Y2,Uc]
   ·have e:Vb a n=0:=by unfold Vb;rw[J1 J,J1 j]
    simp[RU,j,e,Y2];refine⟨J,λB=>⟨J,J,J,J,.inr ⟨0,1,1,rfl,?_⟩⟩⟩;rw[repU];simp
section
set_option linter.unusedVariables false
def z9g:LC:=(.q [.F 6] (.seq (.q [.K 7 0] (.block 0 (.loop (.seq (.q [.m 11 7,.m 12 0,.s 13 12,.c 14 .lss 3 11 13] (.cond (.t 14) .skip (.exit 0))) (.seq (.block 1 (.seq (.seq (.draw [(.m 17 0,[]),(.m 18 7,[]),(.I 19 8 17 18,[]),(.f 20 1 19,[]),(.l 21 20,[]),(.m 22 0,[]),(.m 23 7,[]),(.I 24 8 22 23,[]),(.f 25 2 24,[]),(.l 26 25,[]),(.m 27 0,[]),(.m 28 7,[]),(.I 29 8 27 28,[]),(.f 30 3 29,[]),(.l 31 30,[]),(.m 32 0,[]),(.m 33 7,[]),(.I 34 8 32 33,[]),(.f 35 4 34,[]),(.l 36 35,[]),(.m 37 0,[]),(.m 38 7,[]),(.I 39 8 37 38,[]),(.f 40 5 39,[]),(.l 41 40,[]),(.z 42 (.buildSl 1 5 [(.i 0),(.i 0),(.i 0),(.i 0),(.i 0)] [(0,1,.t 21),(1,1,.t 26),(2,1,.t 31),(3,1,.t 36),(4,1,.t 41)]),[(.l 41 40,false),(.l 36 35,false),(.l 31 30,false),(.l 26 25,false),(.l 21 20,false)]),(.s 43 42,[]),(.K 44 0,[])]) (.block 2 (.loop (.q [.c 45 .lss 3 44 43] (.seq (.cond (.t 45) .skip (.exit 2)) (.seq (.block 3 (.q [.I 46 1 42 44,.l 47 46,.m 9 47] (.q [.m 48 9,.b 49 .eql 3 48 (-1),.m 50 49,.mn 51 50 9,.nb 52 50 .geq 3 51 8,.mn 53 50 52,.my 54 53 9,.y 55 53 (.bin .lss true 3 (.t 54) (.k 16)),.n 56 50 (.pick (.t 53) (.t 55) .F),.p 57 50 56,.m 58 57,.mn 59 58 2,.mn 60 58 59,.my 61 60 9,.y 62 60 (.bin .geq true 3 (.t 61) (.k 16)),.n 63 58 (.pick (.t 60) (.t 62) .F),.mn 64 58 63,.my 65 64 9,.y 66 64 (.bin .lss true 3 (.t 65) (.k 40)),.n 67 58 (.pick (.t 64) (.t 66) .F),.p 68 58 67,.m 69 68,.mn 70 69 2,.n 71 69 (.un .not (.t 70)),.mn 72 69 71,.my 73 72 9,.y 74 72 (.bin .geq true 3 (.t 73) (.k 40)),.n 75 69 (.pick (.t 72) (.t 74) .F),.mn 76 69 75,.my 77 76 9,.y 78 76 (.bin .lss true 3 (.t 77) (.k 64)),.n 79 69 (.pick (.t 76) (.t 78) .F),.p 80 69 79,.m 81 80,.mn 82 81 9,.mn 83 81 1,.n 84 81 (.bin .geq false 3 (.t 82) (.t 83)),.mn 85 81 84,.my 86 85 9,.y 87 85 (.bin .lss true 3 (.t 86) (.k 8)),.n 88 81 (.pick (.t 85) (.t 87) .F),.p 89 81 88,.m 10 89] (.q [.m 90 10,.z 91 (.un .not (.t 90))] (.cond (.t 91) (.q [.F 6] .ret) .skip))))) (.ops [.b 92 .add 3 44 1,.m 44 92]))))))) (.seq (.draw [(.m 93 0,[]),(.m 94 7,[]),(.I 95 8 93 94,[]),(.f 96 1 95,[]),(.l 97 96,[]),(.b 98 .geq 3 97 0,[]),(.m 99 98,[]),(.my 100 99 0,[]),(.my 101 99 7,[]),(.y 102 99 (.ixAddr 8 (.t 100) (.t 101)),[]),(.yf 103 99 1 102,[]),(.yl 104 99 103,[]),(.y 105 99 (.bin .lss true 3 (.t 104) (.k 8)),[]),(.q 106 99 105,[]),(.m 107 0,[]),(.m 108 7,[]),(.I 109 8 107 108,[]),(.f 110 0 109,[]),(.l 111 110,[]),(.b 112 .eql 3 111 16,[]),(.c 113 .neq 4 106 112,[])]) (.cond (.t 113) (.q [.F 6] .ret) .skip)))) (.ops [.m 15 7,.b 16 .add 3 15 1,.m 7 16])))))) (.q [.z 6 (.move .T)] .ret)))
def r_law22_registers:Pk Tryz.prog 34=some ⟨114,z9g.r,[.tmp 6]⟩:=Aa
def z2s:LC:=(.q [.x 4 1] (.seq (.q [.f 11 5 4,.l 12 11,.b 13 .lss 3 12 0,.m 14 13,.nf 15 14 0 4,.nl 16 14 15,.nb 17 14 .eql 3 16 8,.p 18 14 17,.m 19 18,.nf 20 19 0 4,.nl 21 19 20,.nb 22 19 .eql 3 21 14,.p 23 19 22] (.cond (.t 23) .ret .skip)) (.q [.f 24 3 4,.l 25 24,.f 26 4 4,.l 27 26,.z 28 (.buildSl 1 2 [(.i 0),(.i 0)] [(0,1,.t 25),(1,1,.t 27)]),.s 29 28,.K 30 0] (.block 0 (.loop (.q [.c 31 .lss 3 30 29] (.seq (.cond (.t 31) .skip (.exit 0)) (.seq (.block 1 (.q [.I 32 1 28 30,.l 33 32,.m 7 33] (.q [.m 34 7,.b 35 .geq 3 34 0,.m 36 35,.my 37 36 7,.yf 38 36 5 4,.yl 39 36 38,.y 40 36 (.bin .neq false 3 (.t 37) (.t 39)),.q 41 36 40,.m 42 41,.yf 43 42 0 4,.yl 44 42 43,.y 45 42 (.bin .neq true 3 (.t 44) (.k 9)),.q 46 42 45,.m 47 46,.yf 48 47 0 4,.yl 49 47 48,.y 50 47 (.bin .eql true 3 (.t 49) (.k 13)),.my 51 47 50,.my 52 51 7,.yf 53 51 4 4,.yl 54 51 53,.y 55 51 (.bin .eql false 3 (.t 52) (.t 54)),.y 56 47 (.pick (.t 51) (.t 55) .F),.y 57 47 (.un .not (.t 56)),.q 58 47 57] (.cond (.t 58) (.seq (.draw [(.m 60 2,[]),(.m 61 7,[]),(.I 62 1 60 61,[]),(.l 63 62,[]),(.m 64 2,[]),(.f 65 5 4,[]),(.l 66 65,[]),(.I 67 1 64 66,[]),(.l 68 67,[]),(.W 69 71 63 68,[]),(.m 59 69,[]),(.X 70 0 59,[]),(.X 71 1 59,[]),(.X 72 2 59,[]),(.m 8 70,[]),(.m 9 71,[]),(.m 10 72,[])]) (.q [.m 73 10,.b 74 .eql 37 73 0] (.cond (.t 74) (.ops [.m 76 2,.m 77 7,.m 78 9,.m 79 0,.m 80 7,.I 81 3 79 80,.f 82 0 81,.l 83 82,.W 84 72 78 83,.m 75 84,.X 85 0 75,.X 86 1 75,.I 87 1 76 77,.S 1 87 85]) .skip))) .skip)))) (.ops [.b 88 .add 3 30 1,.m 30 88])))))))))
def r_law22_lessen:Pk Tryz.prog 36=some ⟨89,z2s.r,[]⟩:=Aa
def k_law22_lessen:z2s.ok=true:=Aa
def zep(L:List Lo)(deep:Int)(H:Bool)(hl:L.length≤9223372036854775807)(gT:0≤deep)(hr:∀o∈L,(∀r∈[o.d,o.e,o.a,o.b,o.c],Wa deep H r)∧((0≤o.d∧o.d<8)↔o.kind=16)) :
  Pl 34 [.lst (Tu L) L.length 8,.i deep,.bool H] (.bool true) []:=by
 refine P4.val rfl (Pj r_law22_registers Aa (by simp) ?_);simp[z9g];refine Qt (λT gR gg N=>∃i:Nat,gR=[]∧N+i=L.length∧lk T 0=.lst (Tu L) L.length 8∧lk T 1=.i deep∧lk T 2=.bool H∧lk T 7=.i i) (N:=L.length) ⟨0,by simp⟩ ?_;rintro N T gR gg ⟨i,rfl,hN,A,B,C,E⟩ Nx gD;by_cases gF:i<L.length
 ·have ho:=zgs gF;have hm:=hr _ (Kj ho);have o0:=zph ho (j:=0) J;have X:=zph ho (j:=1) J;have o2:=zph ho (j:=2) J;have o3:=zph ho (j:=3) J;have o4:=zph ho (j:=4) J;have o5:=zph ho (j:=5) J;have gU:=zn1 gF;generalize mh L i=o at *;simp[Lo.f]at o0 X o2 o3 o4 o5;obtain⟨gG,Y⟩:=hm;simp[A,B,C,E,gF,Pe X,Pe o2,Pe o3,Pe o4,Pe o5];have U:(gg++[LObj.dyn [.i o.d,.i o.e,.i o.a,.i o.b,.i o.c] 5 1 0 0])[gg.length]?=some (.dyn [.i o.d,.i o.e,.i o.a,.i o.b,.i o.c] 5 1 0 0):=Kg;generalize gg++[LObj.dyn [.i o.d,.i o.e,.i o.a,.i o.b,.i o.c] 5 1 0 0]=G2 at *;generalize gg.length=gY at *;refine Qt (λT gR gg N=>∃j:Nat,gR=[]∧N+j=5∧lk T 0=.lst (Tu L) L.length 8∧lk T 1=.i deep∧lk T 2=.bool H∧lk T 7=.i i∧lk T 42=.dy gY 0∧lk T 43=.i 5∧lk T 44=.i j∧gg=G2) (N:=5)
   ⟨0,rfl,rfl,Al,Ao,Af,Ax,by simp,by simp,by simp,rfl⟩ ?_
  clear A B C E;rintro N2 T gR G3 ⟨j,rfl,gV,A,B,C,E,z,g,F,rfl⟩ gH Z;by_cases O:j<5
  ·have D:(j:Int)<5:=J
   obtain⟨x,I,gI⟩:∃x,([LV.i o.d,.i o.e,.i o.a,.i o.b,.i o.c])[j]?=some (.i x)∧x∈[o.d,o.e,o.a,o.b,o.c]:=by
    have hj:j=0∨j=1∨j=2∨j=3∨j=4:=J
    rcases hj with rfl|rfl|rfl|rfl|rfl<;>exact⟨_,rfl,by simp⟩
   have hx:=gG x gI;have M:∀(G:Pf),lk G 0=.lst (Tu L) L.length 8→lk G 1=.i deep→lk G 2=.bool H→lk G 7=.i i→lk G 42=.dy gY 0→lk G 43=.i 5→lk G 44=.i ((j:Int)+1)→gH G [] G3:=λG a0 a1 a2 a7 gK gL gM=>Z _ _ _ ⟨N2-1,J,j+1,rfl,J,a0,a1,a2,a7,gK,gL,by rw[gM];simp,rfl⟩
   rcases hx with e|⟨P,Q⟩|⟨rfl,P,Q⟩|⟨rfl,P,Q⟩|⟨P,Q⟩
   ·subst e;simp[A,B,C,E,z,g,F,U,O,D,Pe I];exact⟨J,M _ Al Ao Af Ax Aq As (by simp)⟩
   ·have R:¬x=-1:=J
    simp[A,B,C,E,z,g,F,U,O,D,Pe I,R,P,Q];exact⟨J,M _ Al Ao Af Ax Aq As (by simp)⟩
   ·have R:¬x=-1:=J
    have V:8≤x:=J
    have n3:¬x<16:=J
    simp[A,B,C,E,z,g,F,U,O,D,Pe I,R,V,n3,P,Q];exact⟨J,M _ Al Ao Af Ax Aq As (by simp)⟩
   ·have R:¬x=-1:=J
    have V:8≤x:=J
    have n3:¬x<16:=J
    simp[A,B,C,E,z,g,F,U,O,D,Pe I,R,V,n3,P,Q];exact⟨J,M _ Al Ao Af Ax Aq As (by simp)⟩
   ·have R:¬x=-1:=J
    have V:¬8≤x:=J
    have n4:¬16≤x:=J
    have n5:¬40≤x:=J
    cases H with
    |true =>
     simp[A,B,C,E,z,g,F,U,O,D,Pe I,R,V,n4,n5,P,Q];exact⟨J,M _ Al Ao Af Ax Aq As (by simp)⟩
    |false =>
     simp[A,B,C,E,z,g,F,U,O,D,Pe I,R,V,n4,n5,P,Q];exact⟨J,M _ Al Ao Af Ax Aq As (by simp)⟩
  ·have D:¬(j:Int)<5:=J
   have M:∀(G:Pf) (G':Pd),lk G 0=.lst (Tu L) L.length 8→lk G 1=.i deep→lk G 2=.bool H→lk G 7=.i ((i:Int)+1)→Nx G [] G':=λG G' a0 a1 a2 a7=>gD _ _ _ ⟨N-1,J,i+1,rfl,J,a0,a1,a2,by rw[a7];simp⟩
   by_cases K:o.kind=16
   ·obtain⟨m1,m2⟩:=Y.2 K;simp[A,B,C,E,g,F,O,D,gF,Pe o0,Pe X,K,m1,m2,qm];exact⟨J,M _ _ Al Ao Af (by simp)⟩
   ·have gO:¬(0≤o.d∧o.d<8):=λq=>K (Y.1 q)
    by_cases m1:0≤o.d
    ·have m2:¬o.d<8:=λq=>gO ⟨m1,q⟩
     simp[A,B,C,E,g,F,O,D,gF,Pe o0,Pe X,K,m1,m2,qm];exact⟨J,M _ _ Al Ao Af (by simp)⟩
    ·simp[A,B,C,E,g,F,O,D,gF,Pe o0,Pe X,K,m1,qm];exact⟨J,M _ _ Al Ao Af (by simp)⟩
 ·simp[A,E,gF]
def own_all{c:Cf}{f:Fr Lo}(C:f.AllH c z)(T:0≤z)(F:c.lo=z)(G:c.hi=7)(U:8≤c.pa∧c.pb<16)(H:(M=true∧16≤c.R∧c.R+c.w≤40)∨(M=false∧40≤c.R∧c.R+c.w≤64)) :
  ∀o∈f.flat,(∀r∈[o.d,o.e,o.a,o.b,o.c],Wa z M r)∧((0≤o.d∧o.d<8)↔o.kind=16):=by
 intro o ho;have h:=allH_flat C o ho;have rg:∀{x:Int},S7 c x→Wa z M x∧16≤x:=λ{x} h=>by
  unfold S7 at h;unfold Wa;rcases H with ⟨e,q⟩|⟨e,q⟩
  ·exact⟨.inr (.inr (.inl ⟨e,J,J⟩)),J⟩
  ·exact⟨.inr (.inr (.inr (.inl ⟨e,J,J⟩))),J⟩
 have I:∀{x:Int},Wo c x→Wa z M x:=λ{x} h=>by
  unfold Wo at h;unfold Wa;rcases h with h|h
  ·exact .inr (.inr (.inr (.inr J)))
  ·exact .inr (.inl J)
 have j:∀{x:Int},Wk c x→Wa z M x:=λ{x} h=>by
  rcases h with h|h|h
  ·exact .inl h
  ·exact (rg h).1
  ·exact I h
 have B:Wa z M (-1):=.inl rfl;rcases h with h|rfl|⟨K,⟨L,E,O,P,Q,R,_⟩,V,X⟩
 ·have A:Wa z M o.d∧Wa z M o.e∧¬(0≤o.d∧o.d<8):=by
   rcases h.m with ⟨B,D,_⟩|⟨_,B,D,_⟩
   ·refine⟨?_,?_,?_⟩
    ·rcases B with e|e
     ·exact .inl e
     ·exact (rg e).1
    ·rcases D with e|e
     ·exact .inl e
     ·exact (rg e).1
    ·rcases B with e|e
     ·omega
     ·have:=(rg e).2;omega
   ·exact⟨.inr (.inl J),.inl D,J⟩
  refine⟨λx g=>?_,λq=>absurd q A.2.2,λq=>absurd q h.k.1⟩;simp only[Ka,Ml,Ny]at g;rcases g with rfl|rfl|rfl|rfl|rfl
  ·exact A.1
  ·exact A.2.1
  ·exact j h.a
  ·exact j h.b
  ·exact j h.z
 ·refine⟨λx g=>?_,by simp[Vi]⟩;simp[Vi]at g;subst g;exact B
 ·refine⟨λx g=>?_,?_⟩
  ·simp only[E,O,P,Q,R,Ka,Ml,Ny]at g;rcases g with rfl|rfl|rfl|rfl|rfl
   ·exact .inr (.inr (.inr (.inr J)))
   all_goals exact B
  ·rw[E];exact⟨λ_=>L,λ_=>J⟩
def Wd(c:Nat)(q:Nat)(i:Nat)(l:List LV):List LV:=if c<i then l.set c (.dy q 0) else l
def jq{c q i:Nat}{l:List LV}{x:LV}(j:l.length=i)(h:i≠c):Wd c q (i+1) (l++[x])=Wd c q i l++[x]:=by
 unfold Wd;by_cases g:c<i
 ·rw[J6 J,J6 g,List.set_append_left _ _ J]
 ·rw[J1 J,J1 g]
def rk{q i:Nat}{l:List LV}{x:LV}(g:l.length=i):Wd i q (i+1) (l++[x])=l++[.dy q 0]:=by
 unfold Wd;rw[J6 J,Nf _ _ J,g,Nb];rfl
def zwk{bs:List Bf}{w4 w5 w6:Int}{fill:List UInt64}(c:Nat)(hc:c<bs.length)(hs:∀b∈bs,0≤b.size∧b.size≤1000000)(hb:bs.length≤1000)(gM:fill.length≤1000)
  (kk:∀(X:List (List UInt64)) (p C st q sq:Nat) (L:Pd),X.length=bs.length→(∀i,i<bs.length→((X.getD i []).length:Int)=(Ps bs i).size)→(∀q,q<I.length→L[q]?=I[q]?)→I.length≤p→I.length≤q→p≠q→L[p]?=some (.dyn ((X.map LU).set c (.dy q 0)) X.length 1 C st)→L[q]?=some (.dyn ((X.getD c []).map .u) (X.getD c []).length 1 0 sq)→Z (.dy p C) L) :
  Ql (.fn 18) [.agg [.lst (Rz bs) bs.length 3,P,.i z,.i B,.i vT,.i w4,.i w5,.i w6],.lst (fill.map .u) fill.length 1] I Z:=by
 refine Pj r_law22_rows k_law22_rows (by simp) ?_;simp[z8l];refine Qt (λρ gT Y N=>∃(i s0 q sq:Nat) (v:LV) (X:List (List UInt64)),gT=[]∧N+i=bs.length∧lk ρ 1=.lst (fill.map .u) fill.length 1∧lk ρ 2=.ptr I.length 0∧lk ρ 5=v∧lk ρ 6=.i i∧I.length<Y.length∧(∀q,q<I.length→Y[q]?=I[q]?) ∧
   Y[I.length]?=some (.cells [.lst (Rz bs) bs.length 3,P,.i z,.i B,.i vT,.i w4,.i w5,.i w6] s0)∧X.length=i∧(∀j,j<i→((X.getD j []).length:Int)=(Ps bs j).size)∧Yt (I.length+1) Y v 1 i (Wd c q i (X.map LU)) ∧
   (c<i→I.length<q∧(∀j,v≠.dy q j)∧Y[q]?=some (.dyn ((X.getD c []).map .u) (X.getD c []).length 1 0 sq))) (N:=bs.length)
  ⟨0,0,0,0,.nilSl,[],rfl,J,by simp,by simp,by simp,by simp,by simp,λq G=>J4 G,by simp,rfl,λj h=>J,by simpa [Wd] using Yt.nil,λh=>J⟩ ?_
 rintro N ρ gT Y ⟨i,s0,q,sq,v,X,rfl,hN,h1,M,h5,h6,R,T,D,g,hX,hD,gg⟩ Nx gD;by_cases gL:i<bs.length
 ·have q0:=zel (T7 gL);have G:=znw gL;have hz:=hs _ (Kj (T7 gL));have pp:∀x:List LObj,(Y++x)[I.length]?=_:=λx=>(Ph R).trans D
  simp[h1,M,h5,h6,D,↓pp,gL,Pe q0];refine⟨J,J,?_⟩;obtain⟨gO,gF⟩:=J5 hz.1;rw[gF];generalize U7 (iU ↑i) 1234567891011=A;have o1:(Y++[LObj.dyn (fill.map .u++[.u A]) (fill.length+1) 1 2 2,LObj.dyn [.u A] 1 1 0 0])[Y.length]?=some (.dyn ((fill++[A]).map .u) (fill++[A]).length 1 2 2):=by
   rw[Kl (J8 _),Nb];simp
  have o2:=λq (G:q<Y.length)=>(Ph (x:=[LObj.dyn (fill.map .u++[.u A]) (fill.length+1) 1 2 2,LObj.dyn [.u A] 1 1 0 0]) G)
  have o3:=hD.push_end (ob:=[LObj.dyn (fill.map .u++[.u A]) (fill.length+1) 1 2 2,LObj.dyn [.u A] 1 1 0 0]);have o4:(Y++[LObj.dyn (fill.map .u++[.u A]) (fill.length+1) 1 2 2,LObj.dyn [.u A] 1 1 0 0]).length=Y.length+2:=by simp
  generalize Y++[LObj.dyn (fill.map .u++[.u A]) (fill.length+1) 1 2 2,LObj.dyn [.u A] 1 1 0 0]=H at *;have gI:=zin (fill++[A]) gO;have gG:=zis (fill++[A]) gO J Ab (by simp);generalize zt8 (fill++[A]) gO=gK at *;have gH:=λq j (e:v=.dy q j)=>(hD.lt e).2
  have O:∀j,j<i+1→(((X++[gK]).getD j []).length:Int)=(Ps bs j).size:=λj hj=>by
   by_cases e:j=i
   ·subst e;rw[J0,←g,Kg,g,gF];simp[gI]
   ·rw[J0,J4 J,←J0];exact hX j J
  have same:c<i→(X++[gK]).getD c []=X.getD c []:=λh=>by rw[J0,J4 J,←J0]
  by_cases ec:i=c
  ·refine X7 gG ⟨_,_,rfl,⟨_,_,_,_,rfl,o1,zeu _⟩,_,_,rfl,⟨rfl,rfl⟩,rfl⟩ ?_;simp[RU];refine Yt.push (c:=1) (x:=[LV.dy H.length 0]) (o3.push_end) J Ab J rfl λv' L E K U V=>?_
   simp at U;simp[h6];have nv:∀q j,v'=.dy q j→q=H.length+2∨∃j',v=.dy q j':=λq j e=>by simpa using V q j e
   have fr:∀q,q<H.length→(∀j,v≠.dy q j)→L[q]?=H[q]?:=λq h1 M=>by
    rw[K q Ab M];exact Ph J
   have F:∀q,q<I.length+1→∀j,v≠.dy q j:=λq G j e=>Gr
   refine⟨J,gD _ _ _ ⟨N-1,J,i+1,s0,H.length,0,v',X++[gK],rfl,J,by simp[h1],Bc,by simp,by simp,J,?_,?_,As,O,?_,λ_=>⟨J,λj e=>?_,?_⟩⟩⟩
   ·intro q G;rw[fr q J (F q J),o2 q J];exact T q G
   ·rw[fr _ J (F _ J),o2 _ R];exact D
   ·rw[Ng,List.map_singleton,←ec,rk As];rw[ec]at E ⊢;have e2:Wd c q c (X.map LU)=X.map LU:=by unfold Wd;rw[J1 J]
    rw[e2]at E;exact E
   ·rcases nv _ _ e with e|⟨j',e⟩
    ·omega
    ·have:=gH _ _ e;omega
   ·rw[K H.length (by simp) (λj e=>by have:=gH _ _ e;omega),Kl (J8 _),Nb,←ec,J0,←g,Kg];rfl
  ·refine Pr gG ⟨_,_,rfl,⟨_,_,_,_,rfl,o1,zeu _⟩,_,_,rfl,⟨rfl,rfl⟩,rfl⟩ ?_;simp[RU];refine Yt.push (c:=1) (x:=[LU gK]) (o3.push_end) J Ab J rfl λv' L E K U V=>?_
   simp at U;simp[h6];have fr:∀q,q<H.length→(∀j,v≠.dy q j)→L[q]?=H[q]?:=λq h1 M=>by
    rw[K q Ab M];exact Ph J
   have F:∀q,q<I.length+1→∀j,v≠.dy q j:=λq G j e=>Gr
   refine⟨J,gD _ _ _ ⟨N-1,J,i+1,s0,q,sq,v',X++[gK],rfl,J,by simp[h1],Bc,by simp,by simp,J,?_,?_,As,O,?_,λgR=>?_⟩⟩
   ·intro q G;rw[fr q J (F q J),o2 q J];exact T q G
   ·rw[fr _ J (F _ J),o2 _ R];exact D
   ·rw[Ng,List.map_singleton,jq As ec];exact E
   ·obtain⟨a1,a2,a3⟩:=gg J;have ql:=(Jy.1 a3).1;refine⟨a1,λj e=>?_,?_⟩
    ·have e':q=(H++[LObj.dyn [LU gK] 1 1 0 0]).length∨∃j',v=.dy q j':=V q j e;rcases e' with e'|⟨j',e'⟩
     ·simp at e';omega
     ·exact a2 j' e'
    ·rw[fr q J a2,o2 q ql,same J];exact a3
 ·have gi:i=bs.length:=J
  subst gi;obtain⟨a1,a2,a3⟩:=gg hc;obtain⟨_,⟨_,e0,_⟩|⟨p,C,st,hp,rfl,Q⟩⟩:=hD
  ·omega
  simp[M,h5,h6,D];have e2:Wd c q bs.length (X.map LU)=(X.map LU).set c (.dy q 0):=by unfold Wd;rw[J6 hc]
  rw[e2]at Q;exact kk X p C st q sq Y g (λi hi=>hX i hi) T J J (λe=>a2 C Gi) (by rw[g];exact Q) a3
def zie{l:List (List UInt64)}{i:Nat}(h:i<l.length):(l.map LU)[i]?=some (LU (l.getD i [])):=by
 rw[Lv,J7 h,J0,J7 h];rfl
def ou{a:List UInt64}{k:Nat}(h:val a<2^(64*(k+1)))(hk:k≤8):Vb a ((k:Int)+1)=0:=by
 have:=Y1 h;unfold Vb;rw[J1 J,J1 J]
def zpi{vs:List Vr}{o:Ko}{X:List (List UInt64)}{p st a b c:Nat}(hX:vs.length≤X.length)(ea:o.a=a)(eb:o.b=b)(ec:o.c=c)(la:a<vs.length)(lb:b<vs.length)(lc:c<vs.length)(hk:o.kind=10∨o.kind=11)
  (gT:(gv vs a).limbs=(gv vs c).limbs) (gU:o.kind=13∨(gv vs b).limbs=(gv vs c).limbs) (jQ:1≤(gv vs c).limbs∧(gv vs c).limbs≤9) (A:∀i,i<vs.length→((X.getD i []).length:Int)=(gv vs i).limbs) (hG:I[p]?=some (.dyn (X.map LU) X.length 1 g st))
  (kk:∀(G:List (List UInt64)) (B:Nat) (gg:Pd),G.length=X.length→(∀i,(G.getD i []).length=(X.getD i []).length)→gg[p]?=some (.dyn (G.map LU) X.length 1 g B)→(∀q,q<I.length→q≠p→gg[q]?=I[q]?)→I.length≤gg.length→Z (.tup []) gg) :
  Ql (.fn 36) [.lst (Py vs) vs.length 3,.agg o.f,.dy p g] I Z:=by
 have hf:o.f=[.i o.kind,.i o.d,.i o.e,.i o.a,.i o.b,.i o.c,.u o.imm]:=rfl;have gV:=(Jy.1 hG).1;refine Pj r_law22_lessen k_law22_lessen (by simp) ?_;have gY:¬o.kind=8:=J
 have gD:¬o.kind=14:=J
 have gZ:¬(c:Int)<0:=J
 simp[z2s,hf,ea,eb,ec,gY,gD,gZ];refine Qt (λρ jY gg N=>∃(gF st:Nat) (G:List (List UInt64)),jY=[]∧N+gF=2∧lk ρ 0=.lst (Py vs) vs.length 3∧lk ρ 2=.dy p g∧lk ρ 4=.ptr I.length 0∧lk ρ 28=.dy (I.length+1) 0∧lk ρ 29=.i 2∧lk ρ 30=.i gF∧gg[I.length]?=some (.cells o.f 0)∧gg[I.length+1]?=some (.dyn [.i a,.i b] 2 1 0 0)∧G.length=X.length∧(∀i,(G.getD i []).length=(X.getD i []).length)∧gg[p]?=some (.dyn (G.map LU) X.length 1 g st)∧(∀q,q<I.length→q≠p→gg[q]?=I[q]?)) (N:=2)
  ⟨0,st,X,rfl,rfl,by simp,by simp,by simp,by simp,by simp,by simp,by simp[hf,ea,eb,ec],by simp,rfl,λ_=>rfl,(J4 gV).trans hG,λq hq _=>J4 hq⟩ ?_
 rintro N ρ jY gg ⟨gF,st,G,rfl,hN,U,O,h4,C,j,D,g0,V,hY,z,E,H⟩ Nx jg;have jR:=(Jy.1 V).1;by_cases jT:gF<2
 ·obtain⟨i,li,gG,jz⟩:∃i:Nat,i<vs.length∧([LV.i a,.i b])[gF]?=some (.i i)∧(i≠b∨o.kind≠13∨i=b)∧((gv vs i).limbs=(gv vs c).limbs∨(i=b∧o.kind=13)):=by
   have hj:gF=0∨gF=1:=J
   rcases hj with rfl|rfl
   ·exact⟨a,la,rfl,J,.inl gT⟩
   ·exact⟨b,lb,rfl,J,gU.symm.imp id λe=>⟨rfl,e⟩⟩
  have nx:∀(K:Pf) (Y:Pd) (B:Nat) (Y':List (List UInt64)),lk K 0=.lst (Py vs) vs.length 3→lk K 2=.dy p g→lk K 4=.ptr I.length 0→lk K 28=.dy (I.length+1) 0→lk K 29=.i 2→lk K 30=.i ((gF:Int)+1)→Y[I.length]?=some (.cells o.f 0)→Y[I.length+1]?=some (.dyn [.i a,.i b] 2 1 0 0)→Y'.length=X.length→(∀i,(Y'.getD i []).length=(X.getD i []).length)→Y[p]?=some (.dyn (Y'.map LU) X.length 1 g B)→(∀q,q<I.length→q≠p→Y[q]?=I[q]?)→Nx K [] Y :=
   λK Y B Y' e0 e2 e4 jA jB jC f0 f1 y1 y2 f2 f3=>jg _ _ _ ⟨N-1,J,gF+1,B,Y',rfl,J,e0,e2,e4,jA,jB,by rw[jC];simp,f0,f1,y1,y2,f2,f3⟩
  have gj:(gF:Int)<2:=J
  have P:=g0;rw[hf,ea,eb,ec]at g0;have jD:¬o.kind=9:=J
  by_cases jU:i=c
  ·have F:(i:Int)=(c:Int):=J
   simp[U,O,h4,C,j,D,jT,gj,g0,V,Pe gG,F];exact⟨J,nx _ _ _ _ Cr Br (by simp[h4]) Af Am (by simp) P V hY z E H⟩
  have F:¬(i:Int)=(c:Int):=J
  have L:¬o.kind=13:=J
  have Q:(gv vs i).limbs=(gv vs c).limbs:=jz.2.resolve_right λq=>L q.2
  have gH:(G.map LU)[i]?=some (LU (G.getD i [])):=zie J;have gI:(G.map LU)[c]?=some (LU (G.getD c [])):=zie J;have gK:i<X.length:=J
  have jE:c<X.length:=J
  have R:(G.getD i []).length=(gv vs c).limbs:=by rw[z,A i li,Q]
  have T:(G.getD c []).length=(gv vs c).limbs:=by rw[z,A c lc]
  have jF:(Py vs)[i*3]?=some (.i (gv vs c).limbs):=by rw[←Q];exact zl (Vf li)
  obtain⟨gR,hA⟩:∃gR,G.getD i []=gR:=⟨_,rfl⟩;obtain⟨gL,hC⟩:∃gL,G.getD c []=gL:=⟨_,rfl⟩;have jG:G[i]?.getD []=gR:=by rw[←J0];exact hA
  have jH:G[c]?.getD []=gL:=by rw[←J0];exact hC
  rw[hA]at gH R;rw[hC]at gI T;have jI:(X.getD i []).length=(gv vs c).limbs:=by rw[A i li,Q]
  obtain⟨kn,jK,jL⟩:∃kn:Nat,(gv vs c).limbs=(kn:Int)+1∧kn≤8:=⟨(gv vs c).limbs.toNat-1,J,J⟩;have gM:∀jM:List UInt64,val jM<val gL→Vb jM (gv vs c).limbs=0:=λjM hR=>by
   rw[jK];exact ou (Nat.lt_trans hR (nh J)) jL
  have hD:=zbe gR gL J J
  ·simp[U,O,h4,C,j,D,jT,gj,g0,V,Pe gG,F,jD,L,E,Pe gH,Pe gI,gK,jE,jG,jH];refine⟨J,J,?_⟩;refine Pr hD (by simp) ?_;by_cases gO:val gL=0
   ·simp[gO,D,RU];exact⟨J,nx _ _ _ _ Cr Br (by simp[h4]) Af Am (by simp) P V hY z E H⟩
   have jO:val (P1 (val gR%val gL))<val gL:=by rw[Uv];exact L8 _ J
   have jV:(P1 (val gR%val gL)).length≤1000:=by have:=zlg (L8 (val gR) (J:0<val gL));omega
   simp[gO,RU];generalize P1 (val gR%val gL)=jM at *;simp[U,O,li,Pe jF];refine Pr (zpb jM (gv vs c).limbs J) (by simp) ?_;have jX:=(zrw (gM jM jO)).1;generalize Y2 jM (gv vs c).limbs=jZ at *;have M:=znx LU G i jZ J;simp only[LU]at M;simp[O,D,E,RU,gK,hY];refine⟨J,J,nx _ _ (st+1) (G.set i jZ) Cr Br (by simp[h4]) Af Am (by simp) ?_ ?_ (by simp[hY]) (λx=>?_) ?_ (λx hx jP=>?_)⟩
   ·rw[Jz J];exact P
   ·rw[Jz J];exact V
   ·rw[ay _ _ _ _ _ J];by_cases e:x=i
    ·rw[J6 e,e];omega
    ·rw[J1 e];exact z x
   ·rw[J3 J,M]
   ·rw[Jz J];exact H x hx jP
 ·have gj:¬(gF:Int)<2:=J
  simp[j,D,jT,gj];exact kk G st gg hY z E H J
def zmt{vs:List Vr}{o:Ko}(hk:o.c<0∨o.kind=8∨o.kind=14∨o.kind=9)
  (Q:∀(O:Pd),(∀q,q<I.length→O[q]?=I[q]?)→I.length≤O.length→Z (.tup []) O) :
  Ql (.fn 36) [.lst (Py vs) vs.length 3,.agg o.f,P] I Z:=by
 have C:o.f=[.i o.kind,.i o.d,.i o.e,.i o.a,.i o.b,.i o.c,.u o.imm]:=rfl;refine Pj r_law22_lessen k_law22_lessen (by simp) ?_;by_cases R:o.c<0
 ·simp[z2s,C,R];exact Q _ (λq A=>J4 A) (by simp)
 by_cases k8:o.kind=8
 ·simp[z2s,C,R,k8];exact Q _ (λq A=>J4 A) (by simp)
 by_cases T:o.kind=14
 ·simp[z2s,C,R,k8,T];exact Q _ (λq A=>J4 A) (by simp)
 have G:o.kind=9:=J
 simp[z2s,C,R,G];refine Qt (λρ gI O N=>∃(H:Nat),gI=[]∧N+H=2∧lk ρ 4=.ptr I.length 0∧lk ρ 28=.dy (I.length+1) 0∧lk ρ 29=.i 2∧lk ρ 30=.i H∧O[I.length]?=some (.cells o.f 0)∧O[I.length+1]?=some (.dyn [.i o.a,.i o.b] 2 1 0 0)∧(∀q,q<I.length→O[q]?=I[q]?)) (N:=2)
  ⟨0,rfl,rfl,by simp,by simp,by simp,by simp,by simp[C,G],by simp,λq A=>J4 A⟩ ?_
 rintro N ρ gI O ⟨H,rfl,hN,D,j,g,z,E,K,L⟩ Nx U;have gG:=(Jy.1 K).1;by_cases gF:H<2
 ·obtain⟨i,B⟩:∃i:Int,([LV.i o.a,.i o.b])[H]?=some (.i i):=by
   have hj:H=0∨H=1:=J
   rcases hj with rfl|rfl
   ·exact⟨_,rfl⟩
   ·exact⟨_,rfl⟩
  have V:∀(F:Pf),lk F 4=.ptr I.length 0→lk F 28=.dy (I.length+1) 0→lk F 29=.i 2→lk F 30=.i ((H:Int)+1)→Nx F [] O:=λF e4 X Y gg=>U _ _ _ ⟨N-1,J,H+1,rfl,J,e4,X,Y,by rw[gg];simp,E,K,L⟩
  have M:(H:Int)<2:=J
  have gH:=E;rw[C]at E;by_cases i0:0≤i
  ·by_cases ic:i=o.c
   ·have gD:0≤o.c:=J
    simp[D,j,g,z,gF,M,E,K,Pe B,i0,ic,G,gD];exact⟨J,V _ At Am As (by simp)⟩
   ·simp[D,j,g,z,gF,M,E,K,Pe B,i0,ic,G];exact⟨J,V _ At Am As (by simp)⟩
  ·simp[D,j,g,z,gF,M,E,K,Pe B,i0,G];exact⟨J,V _ At Am As (by simp)⟩
 ·have M:¬(H:Int)<2:=J
  simp[g,z,gF,M];exact Q O L J
end
def vo:LC:=(.q [.x 1 0,.e 2] (.q [.f 6 3 1,.l 7 6,.f 8 5 1,.l 9 8,.z 10 (.build [(.i 0),(.i 0),(.i 0)] [(0,1,.k 2),(1,1,.t 7),(2,1,.t 9)]),.f 11 4 1,.l 12 11,.f 13 5 1,.l 14 13,.z 15 (.build [(.i 0),(.i 0),(.i 0)] [(0,1,.k 2),(1,1,.t 12),(2,1,.t 14)]),.z 16 (.buildSl 3 2 [(.i 0),(.i 0),(.i 0),(.i 0),(.i 0),(.i 0)] [(0,3,.t 10),(3,3,.t 15)]),.m 3 16] (.q [.f 17 5 1,.l 18 17,.z 19 (.build [(.i 0),(.i 0),(.i 0)] [(0,1,.k 1),(1,1,.t 18),(2,1,.k (-1))]),.z 4 (.alloc [(.i 0),(.i 0),(.i 0)]),.S 3 4 19] (.seq (.q [.f 20 0 1,.l 21 20] (.block 0 (.q [.b 23 .eql 3 21 9,.m 22 23] (.cond (.t 22) (.q [.f 24 5 1,.l 25 24,.z 26 (.build [(.i 0),(.i 0),(.i 0)] [(0,1,.k 3),(1,1,.t 25),(2,1,.k (-1))]),.z 27 (.buildSl 3 1 [(.i 0),(.i 0),(.i 0)] [(0,3,.t 26)]),.m 2 27] .ret) (.seq (.q [.b 29 .eql 3 21 10,.m 28 29] (.cond (.t 28) .skip (.ops [.b 30 .eql 3 21 11,.m 28 30]))) (.cond (.t 28) (.q [.m 31 3,.m 2 31] .ret) (.q [.b 33 .eql 3 21 12,.m 32 33] (.cond (.t 32) (.seq (.draw [(.L 34 3 4,[]),(.m 35 3,[]),(.z 36 (.ixAddr 3 (.t 35) (.k 0)),[]),(.L 37 3 36,[]),(.m 38 3,[]),(.z 39 (.ixAddr 3 (.t 38) (.k 1)),[]),(.L 40 3 39,[]),(.z 41 (.buildSl 3 3 [(.i 0),(.i 0),(.i 0),(.i 0),(.i 0),(.i 0),(.i 0),(.i 0),(.i 0)] [(0,3,.t 34),(3,3,.t 37),(6,3,.t 40)]),[(.L 40 3 39,false),(.L 37 3 36,false),(.L 34 3 4,false)]),(.m 2 41,[])]) .ret) (.q [.b 43 .eql 3 21 13,.m 42 43] (.cond (.t 42) (.seq (.draw [(.L 44 3 4,[]),(.m 45 3,[]),(.z 46 (.ixAddr 3 (.t 45) (.k 0)),[]),(.L 47 3 46,[]),(.z 48 (.buildSl 3 2 [(.i 0),(.i 0),(.i 0),(.i 0),(.i 0),(.i 0)] [(0,3,.t 44),(3,3,.t 47)]),[(.L 47 3 46,false),(.L 44 3 4,false)]),(.m 2 48,[])]) .ret) (.q [.b 50 .eql 3 21 17,.m 49 50] (.cond (.t 49) (.q [.K 5 (-1)] (.seq (.q [.f 51 6 1,.l 52 51,.u 53 .eql 23 52 2] (.cond (.t 53) (.ops [.f 54 4 1,.l 55 54,.m 5 55]) .skip)) (.q [.f 56 6 1,.l 57 56,.u 58 .geq 23 57 1,.m 59 58,.yf 60 59 6 1,.yl 61 59 60,.y 62 59 (.bin .leq true 23 (.t 61) (.c (.u 3))),.q 63 59 62] (.cond (.t 63) (.q [.f 64 6 1,.l 65 64,.z 66 (.cvInt .i64 (.t 65)),.f 67 3 1,.l 68 67,.m 69 5,.z 70 (.build [(.i 0),(.i 0),(.i 0)] [(0,1,.t 66),(1,1,.t 68),(2,1,.t 69)]),.z 71 (.buildSl 3 1 [(.i 0),(.i 0),(.i 0)] [(0,3,.t 70)]),.m 2 71] .ret) .skip)))) .skip)))))))))))) (.q [.e 2] .ret)))))
def r_ref20_Needs:Pk Tryz.prog 73=some ⟨72,vo.r,[.tmp 2]⟩:=Aa
def z26:LC:=(.q [.x 2 0,.F 4] (.seq (.q [.f 5 1 2,.l 6 5,.b 7 .lss 3 6 0,.m 8 7,.nf 9 8 1 2,.nl 10 8 9,.mn 11 8 1,.n 12 8 (.lenSl (.t 11)),.n 13 8 (.bin .geq false 3 (.t 10) (.t 12)),.p 14 8 13,.m 15 14,.nf 16 15 0 2,.nl 17 15 16,.nb 18 15 .eql 3 17 2,.mn 19 15 18,.yf 20 19 2 2,.yl 21 19 20,.y 22 19 (.bin .lss true 3 (.t 21) (.k 0)),.my 23 19 22,.nf 24 23 2 2,.nl 25 23 24,.mn 26 23 1,.n 27 23 (.lenSl (.t 26)),.n 28 23 (.bin .geq false 3 (.t 25) (.t 27)),.y 29 19 (.pick (.t 23) .T (.t 28)),.n 30 15 (.pick (.t 19) (.t 29) .F),.p 31 15 30] (.cond (.t 31) (.q [.F 4] .ret) .skip)) (.seq (.q [.f 32 0 2,.l 33 32] (.block 0 (.q [.b 35 .eql 3 33 1,.m 34 35] (.cond (.t 34) (.q [.m 36 1,.f 37 1 2,.l 38 37,.I 39 1 36 38,.l 40 39,.z 41 (.w 75 [.t 40,.k 0]),.m 4 41] .ret) (.q [.b 43 .eql 3 33 3,.m 42 43] (.cond (.t 42) (.q [.m 44 1,.f 45 1 2,.l 46 45,.I 47 1 44 46,.l 48 47,.w 49 47 48,.s 50 49,.b 51 .gtr 3 50 0,.m 4 51] .ret) (.q [.b 53 .eql 3 33 2,.m 52 53] (.cond (.t 52) (.seq (.draw [(.m 54 1,[]),(.f 55 1 2,[]),(.l 56 55,[]),(.I 57 1 54 56,[]),(.l 58 57,[]),(.m 59 1,[]),(.f 60 2 2,[]),(.l 61 60,[]),(.I 62 1 59 61,[]),(.l 63 62,[]),(.W 64 20 58 63,[]),(.b 65 .lss 3 64 0,[]),(.m 4 65,[])]) .ret) .skip)))))))) (.q [.F 4] .ret))))
def r_ref20_Holds:Pk Tryz.prog 74=some ⟨66,z26.r,[.tmp 4]⟩:=Aa
def ud:LC:=(.q [.x 3 0,.x 4 1,.e 6] (.q [.e 7,.e 8,.e 9,.e 10] (.seq (.q [.f 13 3 4,.l 14 13,.b 15 .geq 3 14 0] (.cond (.t 15) (.ops [.m 16 2,.f 17 3 4,.l 18 17,.I 19 1 16 18,.l 20 19,.m 7 20]) .skip)) (.seq (.q [.f 21 4 4,.l 22 21,.b 23 .geq 3 22 0] (.cond (.t 23) (.ops [.m 24 2,.f 25 4 4,.l 26 25,.I 27 1 24 26,.l 28 27,.m 8 28]) .skip)) (.seq (.q [.f 29 5 4,.l 30 29,.b 31 .geq 3 30 0] (.cond (.t 31) (.ops [.m 32 2,.f 33 5 4,.l 34 33,.I 35 1 32 34,.l 36 35,.m 9 36]) .skip)) (.q [.f 37 0 3,.l 38 37,.f 39 1 4,.l 40 39,.I 41 3 38 40,.f 42 0 41,.l 43 42,.m 11 43] (.seq (.q [.f 44 0 4,.l 45 44] (.block 0 (.q [.b 47 .eql 3 45 1,.m 46 47] (.cond (.t 46) (.ops [.f 48 6 4,.l 49 48,.z 50 (.buildSl 1 1 [(.u 0)] [(0,1,.t 49)]),.m 10 50]) (.q [.b 52 .eql 3 45 2,.m 51 52] (.cond (.t 51) (.ops [.m 53 7,.m 10 53]) (.q [.b 55 .eql 3 45 3,.m 54 55] (.cond (.t 54) (.ops [.m 56 7,.m 57 8,.W 58 121 56 57,.m 10 58]) (.q [.b 60 .eql 3 45 4,.m 59 60] (.cond (.t 59) (.q [.m 61 7,.m 62 11,.W 63 123 61 62,.m 64 11,.w 65 124 64,.W 66 121 63 65,.m 12 66] (.ops [.m 68 12,.m 69 8,.m 70 11,.W 71 123 69 70,.W 72 122 68 71,.m 67 72,.X 73 0 67,.X 74 1 67,.m 10 73])) (.seq (.q [.b 76 .eql 3 45 5,.m 75 76] (.cond (.t 75) .skip (.ops [.b 77 .eql 3 45 6,.m 75 77]))) (.cond (.t 75) (.ops [.m 78 7,.m 79 8,.W 80 23 78 79,.m 10 80]) (.q [.b 82 .eql 3 45 7,.m 81 82] (.cond (.t 81) (.q [.m 83 7,.m 84 8,.W 85 20 83 84,.b 86 .lss 3 85 0] (.cond (.t 86) (.ops [.z 87 (.buildSl 1 1 [(.u 0)] [(0,1,.c (.u 1))]),.m 10 87]) .skip)) (.q [.b 89 .eql 3 45 8,.m 88 89] (.cond (.t 88) (.q [.m 90 8,.m 10 90] (.q [.m 91 9,.z 92 (.w 75 [.t 91,.k 0])] (.cond (.t 92) (.ops [.m 93 7,.m 10 93]) .skip))) (.q [.b 95 .eql 3 45 9,.m 94 95] (.cond (.t 94) (.ops [.m 97 7,.m 98 9,.W 99 71 97 98,.m 96 99,.X 100 0 96,.X 101 1 96,.X 102 2 96,.m 10 101]) (.q [.b 104 .eql 3 45 10,.m 103 104] (.cond (.t 103) (.ops [.m 106 7,.m 107 8,.m 108 9,.V 109 125 106 107 108,.m 105 109,.X 110 0 105,.X 111 1 105,.m 10 110]) (.q [.b 113 .eql 3 45 11,.m 112 113] (.cond (.t 112) (.ops [.m 115 7,.m 116 8,.m 117 9,.V 118 126 115 116 117,.m 114 118,.X 119 0 114,.X 120 1 114,.m 10 119]) (.q [.b 122 .eql 3 45 12,.m 121 122] (.cond (.t 121) (.draw [(.m 124 7,[]),(.m 125 8,[]),(.m 127 9,[]),(.f 128 0 3,[]),(.l 129 128,[]),(.f 130 5 4,[]),(.l 131 130,[]),(.I 132 3 129 131,[]),(.f 133 0 132,[]),(.l 134 133,[]),(.W 126 23 124 125,[(.l 134 133,false),(.l 131 130,false),(.l 129 128,false)]),(.V 135 127 126 127 134,[]),(.m 123 135,[]),(.X 136 0 123,[]),(.X 137 1 123,[]),(.m 10 136,[])]) (.q [.b 139 .eql 3 45 13,.m 138 139] (.cond (.t 138) (.ops [.m 141 7,.m 142 8,.m 143 9,.V 144 128 141 142 143,.m 140 144,.X 145 0 140,.X 146 1 140,.m 10 145]) .skip)))))))))))))))))))))))))) (.q [.m 147 10,.m 148 11,.W 149 123 147 148,.m 6 149] .ret))))))))
def r_ref20_Value:Pk Tryz.prog 76=some ⟨150,ud.r,[.tmp 6]⟩:=Aa
def zjr:LC:=(.q [.e 4] (.q [.m 5 0,.m 6 0,.s 7 6,.m 8 1,.z 9 (.maxi true (.k 0) (.t 8)),.z 10 (.maxi false (.t 7) (.t 9)),.z 11 (.slSl 1 (.t 5) none (some (.t 10))),.w 12 47 11,.m 4 12] .ret))
def r_ref02_Low:Pk Tryz.prog 123=some ⟨13,zjr.r,[.tmp 4]⟩:=Aa
def zgb{l:List (List UInt64)}{i:Nat}(h:i<l.length):(l.map LU)[i]?=some (LU (l.getD i [])):=by
 simp[J0,h]
def fc{l:List (List UInt64)}{i:Nat}:(l.map val).getD i 0=val (l.getD i []):=by
 by_cases h:i<l.length
 ·simp[J0,h]
 ·simp[J0,h,val]
def zu7{l:List (List UInt64)}{m:Nat}(hi:∀x∈l,x.length≤m)(i:Nat):(l.getD i []).length≤m:=by
 by_cases h:i<l.length
 ·rw[J0,J7 h];exact hi _ (Mm h)
 ·simp[J0,h]
def kv(o:Ko):Rk 73 [.agg o.f] (.lst (aa (Xm o)) (Xm o).length 3):=by
 refine Uy.mk (by simp[LV.dat,oh]) (Pj r_ref20_Needs Aa N ?_);by_cases G:o.kind=9
 ·simp[vo,Ko.f,G];simp[Xm,G,aa,Wq,P9,bor,dats,LV.dat]
 by_cases j:o.kind=10∨o.kind=11
 ·rcases j with k|k
  all_goals
   simp[vo,Ko.f,k];simp[Xm,k,aa,Wq,P9,bor,dats,LV.dat]
 by_cases z:o.kind=12
 ·simp[vo,Ko.f,z];simp[Xm,z,aa,Wq,P9,bor,dats,LV.dat]
 by_cases A:o.kind=13
 ·simp[vo,Ko.f,A];simp[Xm,A,aa,Wq,P9,bor,dats,LV.dat]
 have B:¬o.kind=10:=λh=>j (.inl h)
 have C:¬o.kind=11:=λh=>j (.inr h)
 by_cases g:o.kind=17
 ·by_cases D:o.imm=2
  ·simp[vo,Ko.f,g,D];simp[Xm,g,D,aa,Wq,P9,bor,dats,LV.dat]
  by_cases E:o.imm=1
  ·simp[vo,Ko.f,g,E];simp[Xm,g,E,aa,Wq,P9,bor,dats,LV.dat]
  by_cases F:o.imm=3
  ·simp[vo,Ko.f,g,F];simp[Xm,g,F,aa,Wq,P9,bor,dats,LV.dat]
  by_cases H:1≤o.imm
  ·have I:¬o.imm≤3:=λh=>by
    rw[L4]at H h;have K:o.imm.toNat≠1:=λe=>E (Le.1 e)
    have L:o.imm.toNat≠2:=λe=>D (Le.1 e)
    have M:o.imm.toNat≠3:=λe=>F (Le.1 e)
    have O:(1:UInt64).toNat=1:=rfl;have P:(3:UInt64).toNat=3:=rfl;omega
   simp[vo,Ko.f,g,E,D,F,H,I,Xm,aa,P9,bor]
  ·simp[vo,Ko.f,g,E,D,F,H,Xm,aa,P9,bor]
 ·simp[vo,Ko.f,G,B,C,z,A,g,Xm,aa,P9,bor]
def jc(f:Fc)(A:List (List UInt64))(hv:∀x∈A,x.length≤1000):Pl 74 [.agg (Wq f),LN A] (.bool (Yq f (A.map val))) []:=by
 refine P4.val rfl (Pj r_ref20_Holds Aa N ?_);obtain⟨k,a,b⟩:=f;have V:(A.map val).length=A.length:=N
 by_cases ha:0≤a∧a<A.length
 case neg =>
  have j:Tv A.length a=false:=by
   rw[Bool.eq_false_iff];intro h;exact ha (mm.1 h)
  by_cases O:a<0
  ·simp[z26,Wq,LN,O,Yq,j]
  ·have X:(A.length:Int)≤a:=J
   simp[z26,Wq,LN,O,X,Yq,j]
 obtain⟨n,rfl⟩:=J5 ha.1;have hn:n<A.length:=J
 have z:¬A.length≤n:=J
 have B:¬(n:Int)<0:=J
 have j:Tv A.length (n:Int)=true:=mm.2 ha;have Y:=zgb hn;have H:=zu7 hv n;have F:gN (A.map val) n=val (A.getD n []):=by rw[gN_at J];exact fc
 obtain⟨x,P⟩:∃x,A.getD n []=x:=⟨_,rfl⟩;have C:A[n]=x:=by rw[←P];simp[hn]
 rw[P]at Y H F;by_cases Q:k=1
 ·simp[z26,Wq,LN,Q,hn,z,B];refine Pr (z8d x 0 J) Af ?_;simp[Yq,j,F,Oc]
 by_cases R:k=3
 ·simp[z26,Wq,LN,R,hn,z,B];refine Pr (tk x J) Af ?_;have D:0<(P1 (val x)).length↔0<val x:=by
   by_cases h:val x=0
   ·rw[h,toL_zero];simp
   ·rw[zfz h];simp;omega
  simp[RU,Yq,j,F];exact D
 by_cases G:k=2
 ·by_cases hb:0≤b∧b<A.length
  ·obtain⟨m,rfl⟩:=J5 hb.1;have hm:m<A.length:=J
   have I:¬A.length≤m:=J
   have K:¬(m:Int)<0:=J
   have g:Tv A.length (m:Int)=true:=mm.2 hb;have L:=zu7 hv m;have E:gN (A.map val) m=val (A.getD m []):=by rw[gN_at J];exact fc
   obtain⟨y,T⟩:∃y,A.getD m []=y:=⟨_,rfl⟩;have M:A[m]=y:=by rw[←T];simp[hm]
   rw[T]at L E;simp[z26,Wq,LN,G,hn,z,B,hm,I,K];refine Pr (z1m x y J J) (by simp[C,M]) ?_;simp[Yq,j,g,F,E,zfr]
  ·have g:Tv A.length b=false:=by
    rw[Bool.eq_false_iff];intro h;exact hb (mm.1 h)
   by_cases U:b<0
   ·simp[z26,Wq,LN,G,hn,z,B,U,Yq,g]
   ·have Z:(A.length:Int)≤b:=J
    simp[z26,Wq,LN,G,hn,z,B,U,Z,Yq,g]
 ·simp[z26,Wq,LN,Q,G,R,hn,z,Yq]
def zmp(a:List UInt64)(m:Nat)(h:m≤a.length):val (a.take m)=val a%2^(64*m):=by
 have e:=val_append (a.take m) (a.drop m);rw[N9,Mc,Mh h]at e;have g:=val_lt (a.take m);rw[Mc,Mh h]at g;rw[e,Nr,Ke g]
def pk(a:List UInt64)(n:Int):val (a.take (min (max 0 n) (a.length:Int)).toNat)=val a%Ul n:=by
 by_cases h:(a.length:Int)≤n
 ·rw[(J:(min (max 0 n) (a.length:Int)).toNat=a.length),Mw,Ul,Ke];exact Kt (val_lt a) (Lr Ac J)
 ·rw[(J:(min (max 0 n) (a.length:Int)).toNat=n.toNat)];exact zmp a _ J
def bh(a:List UInt64)(n:Int)(ha:a.length≤1000000):Pl 123 [LU a,.i n] (.dy 0 0) [RU (P1 (val a%Ul n))]:=by
 refine P4.row (Pj r_ref02_Low Aa N ?_);simp[zjr];refine⟨J,J,?_⟩;rw[←pk a n];obtain⟨m,hm⟩:∃m,(min (a.length:Int) (max 0 n)).toNat=m:=⟨_,rfl⟩;have g:(min (max 0 n) (a.length:Int)).toNat=m:=by rw[Int.min_comm];exact hm
 have j:m≤a.length:=J
 have e:(a.take m).length=m:=Ab
 try simp only[hm,g]
 refine X7 (tk (a.take m) J) (by simp[hm,g,e]) ?_;simp;exact .inr ⟨0,0,0,rfl,rfl⟩
def jf{m:Nat}(g:vZ.length≤m)(j:uI.length≤m):val vZ*val uI<2^(64*(2*m)):=by
 rw[(J:64*(2*m)=64*m+64*m),Nc];exact Nat.mul_lt_mul'' (nh g) (nh j)
def mul_len{m:Nat}(g:vZ.length≤m)(j:uI.length≤m):(P1 (val vZ*val uI)).length≤2*m:=Y1 (jf g j)
section
set_option linter.unusedVariables false
def z6i:LC:=(.q [.x 5 0,.x 6 1,.x 7 2,.x 8 3,.x 9 4] (.draw [(.l 10 5,[]),(.N 11 10,[]),(.f 12 0 11,[]),(.l 13 12,[]),(.f 14 2 6,[]),(.l 15 14,[]),(.z 16 (.mkFunc 145 [] [.t 5,.t 7,.t 8,.t 9,.t 6]),[]),(.V 17 106 13 15 16,[])]))
def r_expand_coder_choose:Pk Tryz.prog 112=some ⟨18,z6i.r,[]⟩:=Aa
def z5d:LC:=(.seq (.draw [(.l 7 1,[]),(.N 8 7,[]),(.f 9 0 8,[]),(.l 10 9,[]),(.l 11 1,[]),(.N 12 11,[]),(.f 13 3 12,[]),(.z 14 (.ixAddrArr 10 1 (.t 13) (.k 0)),[]),(.l 15 14,[]),(.L 16 3 2,[]),(.m 17 0,[]),(.z 18 (.w 108 [.t 10,.t 15,.t 16,.t 17,.k 0]),[])]) (.seq (.draw [(.l 19 1,[]),(.N 20 19,[]),(.f 21 0 20,[]),(.l 22 21,[]),(.l 23 1,[]),(.N 24 23,[]),(.f 25 3 24,[]),(.z 26 (.ixAddrArr 10 1 (.t 25) (.k 1)),[]),(.l 27 26,[]),(.L 28 3 3,[]),(.m 29 0,[]),(.z 30 (.w 108 [.t 22,.t 27,.t 28,.t 29,.k 0]),[])]) (.seq (.draw [(.l 31 1,[]),(.N 32 31,[]),(.f 33 0 32,[]),(.l 34 33,[]),(.l 35 1,[]),(.N 36 35,[]),(.f 37 3 36,[]),(.z 38 (.ixAddrArr 10 1 (.t 37) (.k 2)),[]),(.l 39 38,[]),(.l 40 4,[]),(.l 41 1,[]),(.N 42 41,[]),(.f 43 3 42,[]),(.z 44 (.ixAddrArr 10 1 (.t 43) (.k 0)),[]),(.l 45 44,[]),(.l 46 1,[]),(.N 47 46,[]),(.f 48 3 47,[]),(.z 49 (.ixAddrArr 10 1 (.t 48) (.k 1)),[]),(.l 50 49,[]),(.z 51 (.w 119 [.t 34,.t 39,.t 40,.t 45,.t 50]),[])]) (.draw [(.l 52 1,[]),(.N 53 52,[]),(.f 54 0 53,[]),(.l 55 54,[]),(.L 56 3 5,[]),(.m 57 0,[]),(.l 58 1,[]),(.N 59 58,[]),(.f 60 3 59,[]),(.z 61 (.ixAddrArr 10 1 (.t 60) (.k 2)),[]),(.l 62 61,[]),(.z 63 (.w 98 [.t 55,.t 56,.t 57,.k 0,.t 62]),[])]))))
def r_expand_coder_choose_1:Pk Tryz.prog 145=some ⟨64,z5d.r,[]⟩:=Aa
def z8n:LC:=(.seq (.draw [(.m 2 0,[]),(.N 3 2,[]),(.f 4 0 3,[]),(.l 5 4,[]),(.m 6 0,[]),(.N 7 6,[]),(.f 8 3 7,[]),(.z 9 (.ixAddrArr 10 1 (.t 8) (.k 5)),[]),(.l 10 9,[]),(.m 11 0,[]),(.N 12 11,[]),(.f 13 25 12,[]),(.L 14 3 13,[]),(.z 15 (.w 108 [.t 5,.t 10,.t 14,.k (-1),.k 0]),[])]) (.draw [(.m 16 0,[]),(.m 17 0,[]),(.N 18 17,[]),(.f 19 13 18,[]),(.L 20 3 19,[]),(.m 21 0,[]),(.N 22 21,[]),(.f 23 19 22,[]),(.L 24 3 23,[]),(.m 25 0,[]),(.N 26 25,[]),(.f 27 22 26,[]),(.L 28 3 27,[]),(.m 29 0,[]),(.N 30 29,[]),(.f 31 3 30,[]),(.z 32 (.ixAddrArr 10 1 (.t 31) (.k 5)),[]),(.l 33 32,[]),(.z 34 (.w 112 [.t 16,.t 20,.t 24,.t 28,.t 33]),[])]))
def r_expand_coder_sel:Pk Tryz.prog 66=some ⟨35,z8n.r,[]⟩:=Aa
def z7v:LC:=(.q [.x 1 0] (.seq (.draw [(.l 2 1,[]),(.N 3 2,[]),(.f 4 0 3,[]),(.l 5 4,[]),(.l 6 1,[]),(.N 7 6,[]),(.f 8 3 7,[]),(.z 9 (.ixAddrArr 10 1 (.t 8) (.k 5)),[]),(.l 10 9,[]),(.l 11 1,[]),(.N 12 11,[]),(.f 13 25 12,[]),(.L 14 3 13,[]),(.z 15 (.w 108 [.t 5,.t 10,.t 14,.k (-1),.k 0]),[])]) (.draw [(.l 16 1,[]),(.N 17 16,[]),(.f 18 0 17,[]),(.l 19 18,[]),(.l 20 1,[]),(.N 21 20,[]),(.f 22 13 21,[]),(.f 23 2 22,[]),(.l 24 23,[]),(.z 25 (.mkFunc 118 [] [.t 1]),[]),(.V 26 106 19 24 25,[])])))
def r_expand_coder_swap:Pk Tryz.prog 70=some ⟨27,z7v.r,[]⟩:=Aa
def z6y:LC:=(.seq (.draw [(.l 3 1,[]),(.N 4 3,[]),(.f 5 0 4,[]),(.l 6 5,[]),(.l 7 1,[]),(.N 8 7,[]),(.f 9 3 8,[]),(.z 10 (.ixAddrArr 10 1 (.t 9) (.k 0)),[]),(.l 11 10,[]),(.l 12 1,[]),(.N 13 12,[]),(.f 14 13 13,[]),(.L 15 3 14,[]),(.m 16 0,[]),(.z 17 (.w 108 [.t 6,.t 11,.t 15,.t 16,.k 0]),[])]) (.seq (.draw [(.l 18 1,[]),(.N 19 18,[]),(.f 20 0 19,[]),(.l 21 20,[]),(.l 22 1,[]),(.N 23 22,[]),(.f 24 3 23,[]),(.z 25 (.ixAddrArr 10 1 (.t 24) (.k 1)),[]),(.l 26 25,[]),(.l 27 1,[]),(.N 28 27,[]),(.f 29 16 28,[]),(.L 30 3 29,[]),(.m 31 0,[]),(.z 32 (.w 108 [.t 21,.t 26,.t 30,.t 31,.k 0]),[])]) (.seq (.draw [(.l 33 1,[]),(.N 34 33,[]),(.f 35 0 34,[]),(.l 36 35,[]),(.l 37 1,[]),(.N 38 37,[]),(.f 39 3 38,[]),(.z 40 (.ixAddrArr 10 1 (.t 39) (.k 2)),[]),(.l 41 40,[]),(.l 42 1,[]),(.N 43 42,[]),(.f 44 3 43,[]),(.z 45 (.ixAddrArr 10 1 (.t 44) (.k 5)),[]),(.l 46 45,[]),(.l 47 1,[]),(.N 48 47,[]),(.f 49 3 48,[]),(.z 50 (.ixAddrArr 10 1 (.t 49) (.k 1)),[]),(.l 51 50,[]),(.l 52 1,[]),(.N 53 52,[]),(.f 54 3 53,[]),(.z 55 (.ixAddrArr 10 1 (.t 54) (.k 0)),[]),(.l 56 55,[]),(.z 57 (.w 119 [.t 36,.t 41,.t 46,.t 51,.t 56]),[])]) (.seq (.draw [(.l 58 1,[]),(.N 59 58,[]),(.f 60 0 59,[]),(.l 61 60,[]),(.l 62 1,[]),(.N 63 62,[]),(.f 64 3 63,[]),(.z 65 (.ixAddrArr 10 1 (.t 64) (.k 3)),[]),(.l 66 65,[]),(.l 67 1,[]),(.N 68 67,[]),(.f 69 3 68,[]),(.z 70 (.ixAddrArr 10 1 (.t 69) (.k 5)),[]),(.l 71 70,[]),(.l 72 1,[]),(.N 73 72,[]),(.f 74 3 73,[]),(.z 75 (.ixAddrArr 10 1 (.t 74) (.k 0)),[]),(.l 76 75,[]),(.l 77 1,[]),(.N 78 77,[]),(.f 79 3 78,[]),(.z 80 (.ixAddrArr 10 1 (.t 79) (.k 1)),[]),(.l 81 80,[]),(.z 82 (.w 119 [.t 61,.t 66,.t 71,.t 76,.t 81]),[])]) (.seq (.draw [(.l 83 1,[]),(.N 84 83,[]),(.f 85 0 84,[]),(.l 86 85,[]),(.l 87 1,[]),(.N 88 87,[]),(.f 89 13 88,[]),(.L 90 3 89,[]),(.m 91 0,[]),(.l 92 1,[]),(.N 93 92,[]),(.f 94 3 93,[]),(.z 95 (.ixAddrArr 10 1 (.t 94) (.k 2)),[]),(.l 96 95,[]),(.z 97 (.w 98 [.t 86,.t 90,.t 91,.k 0,.t 96]),[])]) (.draw [(.l 98 1,[]),(.N 99 98,[]),(.f 100 0 99,[]),(.l 101 100,[]),(.l 102 1,[]),(.N 103 102,[]),(.f 104 16 103,[]),(.L 105 3 104,[]),(.m 106 0,[]),(.l 107 1,[]),(.N 108 107,[]),(.f 109 3 108,[]),(.z 110 (.ixAddrArr 10 1 (.t 109) (.k 3)),[]),(.l 111 110,[]),(.z 112 (.w 98 [.t 101,.t 105,.t 106,.k 0,.t 111]),[])]))))))
def r_expand_coder_swap_1:Pk Tryz.prog 118=some ⟨113,z6y.r,[]⟩:=Aa
def z5j:LC:=(.q [.x 3 0,.x 4 1,.x 5 2] (.draw [(.l 6 3,[]),(.N 7 6,[]),(.f 8 0 7,[]),(.l 9 8,[]),(.f 10 2 4,[]),(.l 11 10,[]),(.z 12 (.mkFunc 146 [] [.t 3,.t 4,.t 5]),[]),(.V 13 106 9 11 12,[])]))
def r_expand_coder_shiftIn:Pk Tryz.prog 116=some ⟨14,z5j.r,[]⟩:=Aa
def z4u:LC:=(.seq (.draw [(.l 5 1,[]),(.N 6 5,[]),(.f 7 0 6,[]),(.l 8 7,[]),(.l 9 1,[]),(.N 10 9,[]),(.f 11 3 10,[]),(.z 12 (.ixAddrArr 10 1 (.t 11) (.k 0)),[]),(.l 13 12,[]),(.L 14 3 2,[]),(.m 15 0,[]),(.z 16 (.w 108 [.t 8,.t 13,.t 14,.t 15,.k 0]),[])]) (.seq (.draw [(.l 17 1,[]),(.N 18 17,[]),(.f 19 0 18,[]),(.l 20 19,[]),(.l 21 1,[]),(.N 22 21,[]),(.f 23 3 22,[]),(.z 24 (.ixAddrArr 10 1 (.t 23) (.k 1)),[]),(.l 25 24,[]),(.l 26 1,[]),(.N 27 26,[]),(.f 28 3 27,[]),(.z 29 (.ixAddrArr 10 1 (.t 28) (.k 0)),[]),(.l 30 29,[]),(.z 31 (.w 115 [.t 20,.k 9,.t 25,.t 30,.k 63]),[])]) (.seq (.draw [(.l 32 1,[]),(.N 33 32,[]),(.f 34 0 33,[]),(.l 35 34,[]),(.l 36 1,[]),(.N 37 36,[]),(.f 38 3 37,[]),(.z 39 (.ixAddrArr 10 1 (.t 38) (.k 0)),[]),(.l 40 39,[]),(.l 41 1,[]),(.N 42 41,[]),(.f 43 3 42,[]),(.z 44 (.ixAddrArr 10 1 (.t 43) (.k 0)),[]),(.l 45 44,[]),(.z 46 (.w 115 [.t 35,.k 8,.t 40,.t 45,.k 1]),[])]) (.seq (.draw [(.l 47 1,[]),(.N 48 47,[]),(.f 49 0 48,[]),(.l 50 49,[]),(.l 51 1,[]),(.N 52 51,[]),(.f 53 3 52,[]),(.z 54 (.ixAddrArr 10 1 (.t 53) (.k 0)),[]),(.l 55 54,[]),(.l 56 1,[]),(.N 57 56,[]),(.f 58 3 57,[]),(.z 59 (.ixAddrArr 10 1 (.t 58) (.k 0)),[]),(.l 60 59,[]),(.l 61 3,[]),(.z 62 (.w 111 [.t 50,.k 6,.t 55,.t 60,.t 61]),[])]) (.seq (.draw [(.l 63 1,[]),(.N 64 63,[]),(.f 65 0 64,[]),(.l 66 65,[]),(.L 67 3 2,[]),(.m 68 0,[]),(.l 69 1,[]),(.N 70 69,[]),(.f 71 3 70,[]),(.z 72 (.ixAddrArr 10 1 (.t 71) (.k 0)),[]),(.l 73 72,[]),(.z 74 (.w 98 [.t 66,.t 67,.t 68,.k 0,.t 73]),[])]) (.draw [(.l 75 1,[]),(.N 76 75,[]),(.f 77 0 76,[]),(.l 78 77,[]),(.l 79 3,[]),(.l 80 1,[]),(.N 81 80,[]),(.f 82 3 81,[]),(.z 83 (.ixAddrArr 10 1 (.t 82) (.k 1)),[]),(.l 84 83,[]),(.V 85 117 78 79 84,[])]))))))
def r_expand_coder_shiftIn_1:Pk Tryz.prog 146=some ⟨86,z4u.r,[]⟩:=Aa
def z54:LC:=(.seq (.draw [(.l 8 1,[]),(.N 9 8,[]),(.f 10 0 9,[]),(.l 11 10,[]),(.l 12 2,[]),(.l 13 3,[]),(.z 14 (.w 115 [.t 11,.k 9,.t 12,.t 13,.k 63]),[])]) (.seq (.draw [(.l 15 1,[]),(.N 16 15,[]),(.f 17 0 16,[]),(.l 18 17,[]),(.l 19 3,[]),(.l 20 3,[]),(.z 21 (.w 115 [.t 18,.k 8,.t 19,.t 20,.k 1]),[])]) (.q [.l 22 1,.L 23 3 4,.l 24 2,.V 25 116 22 23 24] (.seq (.draw [(.l 26 1,[]),(.L 27 3 5,[]),(.L 28 3 4,[]),(.l 29 1,[]),(.N 30 29,[]),(.f 31 25 30,[]),(.L 32 3 31,[]),(.l 33 6,[]),(.z 34 (.w 62 [.t 26,.k 12,.t 27,.t 28,.t 32,.t 33,.T]),[])]) (.draw [(.l 35 1,[]),(.L 36 3 4,[]),(.L 37 3 4,[]),(.L 38 3 5,[]),(.l 39 1,[]),(.N 40 39,[]),(.f 41 2 40,[]),(.l 42 41,[]),(.z 43 (.w 112 [.t 35,.t 36,.t 37,.t 38,.t 42]),[])])))))
def r_expand_coder_rest_1_1:Pk Tryz.prog 114=some ⟨44,z54.r,[]⟩:=Aa
def z6o:LC:=(.seq (.draw [(.l 8 1,[]),(.N 9 8,[]),(.f 10 0 9,[]),(.l 11 10,[]),(.l 12 1,[]),(.N 13 12,[]),(.f 14 19 13,[]),(.f 15 2 14,[]),(.l 16 15,[]),(.b 17 .sub 3 16 1,[]),(.z 18 (.cvInt .u64 (.t 17)),[]),(.z 19 (.w 59 [.t 11,.k 8,.t 18]),[])]) (.q [.l 20 1,.N 21 20,.f 22 0 21,.l 23 22,.m 24 0,.z 25 (.w 111 [.t 23,.k 4,.k 8,.k 8,.t 24])] (.seq (.draw [(.l 26 1,[]),(.N 27 26,[]),(.f 28 0 27,[]),(.l 29 28,[]),(.l 30 2,[]),(.l 31 1,[]),(.N 32 31,[]),(.f 33 19 32,[]),(.L 34 3 33,[]),(.z 35 (.w 108 [.t 29,.t 30,.t 34,.k 8,.k 0]),[])]) (.ops [.l 36 1,.N 37 36,.f 38 0 37,.l 39 38,.z 40 (.mkFunc 114 [] [.t 1,.t 3,.t 2,.t 4,.t 5,.t 6]),.z 41 (.w 106 [.t 39,.k 64,.t 40])]))))
def r_expand_coder_rest_1:Pk Tryz.prog 113=some ⟨42,z6o.r,[]⟩:=Aa
section put
variable {G : Pd} {K : LV → Pd → Prop} {e P st : Nat} {ops : List Lo} {deep R : Int} {d d2 a b c w p q to : Pc}
def ztb{x:Int}(hp:-1000000≤p.at_∧p.at_≤1000000)(hq:-1000000≤q.at_∧q.at_≤1000000)(ht:-1000000≤to.at_∧to.at_≤1000000)(C0:Ce e G [(P,Px e R d d2 a b c w),(g,[.ptr P 0]),(j,p.f),(A,q.f),(D,[.i x]),(U,to.f)])(h:P5 G e ops deep)(hl:ops.length≤900001)
  (k:∀L,P5 L e (ops++Vw to p q x R z) deep→Kp e G L→K (.tup []) L):Ql (.fn 145) [.i z,.ptr g 0,.ptr j 0,.ptr A 0,.ptr D 0,.ptr U 0] G K:=by
 refine Pj r_expand_coder_choose_1 Aa N ?_;obtain⟨⟨_,_,B⟩,⟨_,_,H⟩,⟨_,_,C⟩,⟨_,_,E⟩,⟨_,_,I⟩,⟨_,_,F⟩,_⟩:=id C0;unfold Px at B;unfold Pc.f at C E F;simp[z5d,B,H,C,E,I,F];refine mq (p:=p) J h J λG1 X M=>?_
 have O:=C0.keep M;obtain⟨⟨_,_,B⟩,⟨_,_,H⟩,⟨_,_,C⟩,⟨_,_,E⟩,⟨_,_,I⟩,⟨_,_,F⟩,_⟩:=id O;unfold Px at B;unfold Pc.f at C E F;simp[B,H,C,E,I,F];refine mq (p:=q) J X Ab λG2 Y Q=>?_
 have T:=O.keep Q;obtain⟨⟨_,_,B⟩,⟨_,_,H⟩,⟨_,_,C⟩,⟨_,_,E⟩,⟨_,_,I⟩,⟨_,_,F⟩,_⟩:=id T;unfold Px at B;unfold Pc.f at C E F;simp[B,H,C,E,I,F];refine zrx Y Ab λG3 Z V=>?_
 have C3:=T.keep V;obtain⟨⟨_,_,B⟩,⟨_,_,H⟩,⟨_,_,C⟩,⟨_,_,E⟩,⟨_,_,I⟩,⟨_,_,F⟩,_⟩:=id C3;unfold Px at B;unfold Pc.f at C E F;simp[B,H,C,E,I,F];refine z4d (p:=to) J Z Ab λG4 h4 k4=>?_
 simp;exact k G4 (by simpa [Vw] using h4) (M.trans (Q.trans (V.trans k4)))
def zcr{x:Int}(hd:0≤deep∧deep≤40)(V:-1000000≤p.at_∧p.at_≤1000000)(X:-1000000≤q.at_∧q.at_≤1000000)(Y:-1000000≤to.at_∧to.at_≤1000000)
  (I:G[P]?=some (.cells (Px e R d d2 a b c w) st)) (z:P≠e) (h:P5 G e ops deep) (hl:ops.length≤700000) (k:∀A,P5 A e (ops++(Se to p q x R deep).flat) deep→Kp e G A→K (.tup []) A) :
  Ql (.fn 112) [.ptr P 0,.agg to.f,.agg p.f,.agg q.f,.i x] G K:=by
 refine Pj r_expand_coder_choose Aa N ?_;have lP:=(Jy.1 I).1;have le:e<G.length:=Ah
 obtain⟨j,g⟩:∃j,j=G++[LObj.cells [.ptr P 0] 0,LObj.cells [.i to.buf,.i to.at_,.i to.size] 0,LObj.cells [.i p.buf,.i p.at_,.i p.size] 0,LObj.cells [.i q.buf,.i q.at_,.i q.size] 0,LObj.cells [.i x] 0]:=⟨_,rfl⟩;have Z:∀x,x<G.length→j[x]?=G[x]?:=λx hx=>by rw[g];exact J4 hx
 have l0:j.length=G.length+5:=Ay
 have L:j[G.length]?=some (.cells [.ptr P 0] 0):=Ay
 have C:j[G.length+1]?=some (.cells to.f 0):=Gc
 have D:j[G.length+2]?=some (.cells p.f 0):=Gc
 have E:j[G.length+3]?=some (.cells q.f 0):=Gc
 have M:j[G.length+4]?=some (.cells [.i x] 0):=Ay
 obtain⟨e0,O⟩:=Sg h Z J;have C0:Ce e j [(P,Px e R d d2 a b c w),(G.length,[.ptr P 0]),(G.length+2,p.f),(G.length+3,q.f),(G.length+4,[.i x]),(G.length+1,to.f)]:=.hit z (O.cells z I) (.hit J L (.hit J D (.hit J E (.hit J M (.hit J C trivial)))));obtain⟨⟨_,_,Q⟩,_⟩:=id C0;unfold Px at Q;unfold Pc.f at C D E;simp[z6i,Pc.f];rw[←g];simp[Q,L,C,D,E,M];refine z9h (fst:=[]) (cap:=[.ptr G.length 0,.ptr (G.length+2) 0,.ptr (G.length+3) 0,.ptr (G.length+4) 0,.ptr (G.length+1) 0]) (B:=P0 (Vw to p q x R deep)) J e0 J (by rw[flat_frL];simp[Vw]) (λT U K' F H l3 hk=>?_) λT F H=>?_
 ·rw[flat_frL]at hk;exact ztb V X Y (C0.keep H) F l3 hk
 simp;exact k T F (O.trans H)
def sel_any(hd:0≤deep∧deep≤40)(ha:-1000000≤a.at_∧a.at_≤1000000)(hb:-1000000≤b.at_∧b.at_≤1000000)(hc:-1000000≤c.at_∧c.at_≤1000000)(j:-1000000≤d.at_∧d.at_≤1000000)
  (C:G[P]?=some (.cells (Px e R d d2 a b c w) st)) (g:P≠e) (h:P5 G e ops deep) (M:ops.length≤600000) (k:∀z,P5 z e (ops++P7 (R+7) c (-1) 0::(Se d a b (R+7) R deep).flat) deep→Kp e G z→K (.tup []) z) :
  Ql (.fn 66) [.ptr P 0] G K:=by
 refine Pj r_expand_coder_sel Aa N ?_;have A:=C;unfold Px at A;simp[z8n,A];refine mq (p:=c) J h J λO D B=>?_
 have E:=B.cells g C;have F:=B.cells g A;simp[F];refine zcr (to:=d) (p:=a) (q:=b) hd ha hb j E g D Ab λH I L=>?_
 simp;exact k H Er (B.trans L)
def kj(gg:-1000000≤d.at_∧d.at_≤1000000)(he:-1000000≤d2.at_∧d2.at_≤1000000)(M:G[g]?=some (.cells [.ptr P 0] j))(A:g≠e)(hP:G[P]?=some (.cells (Px e R d d2 a b c w) st))(B:P≠e)(h:P5 G e ops deep)(hl:ops.length≤900001)
  (k:∀C,P5 C e (ops++Tp d d2 R z) deep→Kp e G C→K (.tup []) C):Ql (.fn 118) [.i z,.ptr g 0] G K:=by
 refine Pj r_expand_coder_swap_1 Aa N ?_;have D:=hP;unfold Px at D;simp[z6y,M,D];refine mq (p:=d) J h J λG1 h1 E=>?_
 have O:=E.cells A M;have Q:=E.cells B D;simp[O,Q];refine mq (p:=d2) J h1 Ab λG2 h2 F=>?_
 have T:=F.cells A O;have U:=F.cells B Q;simp[T,U];refine zrx h2 Ab λG3 h3 H=>?_
 have V:=H.cells A T;have X:=H.cells B U;simp[V,X];refine zrx h3 Ab λG4 h4 I=>?_
 have Y:=I.cells A V;have Z:=I.cells B X;simp[Y,Z];refine z4d (p:=d) J h4 Ab λG5 h5 L=>?_
 have z5:=L.cells A Y;have f5:=L.cells B Z;simp[z5,f5];refine z4d (p:=d2) J h5 Ab λG6 h6 k6=>?_
 simp;exact k G6 (by simpa [Tp] using h6) (E.trans (F.trans (H.trans (I.trans (L.trans k6)))))
def us(hd:0≤deep∧deep≤40)(D:-1000000≤d.at_∧d.at_≤1000000)(he:-1000000≤d2.at_∧d2.at_≤1000000)(hc:-1000000≤c.at_∧c.at_≤1000000)
  (L:G[P]?=some (.cells (Px e R d d2 a b c w) st)) (g:P≠e) (h:P5 G e ops deep) (hl:ops.length≤600000) (k:∀E,P5 E e (ops++P7 (R+7) c (-1) 0::(Ri deep d.size (P0 (Tp d d2 R deep))).flat) deep→Kp e G E→K (.tup []) E) :
  Ql (.fn 70) [.ptr P 0] G K:=by
 refine Pj r_expand_coder_swap Aa N ?_;have lP:=(Jy.1 L).1;have le:e<G.length:=Ah
 obtain⟨z,j⟩:∃z,z=G++[LObj.cells [.ptr P 0] 0]:=⟨_,rfl⟩;have X:∀x,x<G.length→z[x]?=G[x]?:=λx Y=>by rw[j];exact J4 Y
 have M:z[G.length]?=some (.cells [.ptr P 0] 0):=by rw[j];exact Kg
 have F:G.length≠e:=J
 obtain⟨Z,O⟩:=Sg h X (by rw[j];simp);have Q:=O.cells g L;have H:=Q;unfold Px at H;simp[z7v];rw[←j];simp[M,H];refine mq (p:=c) J Z J λG1 h1 A=>?_
 have T:=A.cells F M;have Q1:=A.cells g Q;have f1:=A.cells g H;simp[T,f1];refine z9h (fst:=[]) (cap:=[.ptr G.length 0]) (B:=P0 (Tp d d2 R deep)) J h1 Ab (by rw[flat_frL];simp[Tp]) (λU V K' I C l3 hk=>?_) λU I C=>?_
 ·rw[flat_frL]at hk;exact kj D he (C.cells F T) F (C.cells g Q1) g I l3 hk
 simp;exact k U Er (O.trans (A.trans C))
def zp9{x:Int}(hp:-1000000≤p.at_∧p.at_≤1000000)(C0:Ce e G [(P,Px e R d d2 a b c w),(g,[.ptr P 0]),(j,p.f),(A,[.i x])])(h:P5 G e ops deep)(hl:ops.length≤900001)
  (k:∀F,P5 F e (ops++[P7 (R+2) p z 0,S8 9 (R+3) (R+2) 63,S8 8 (R+2) (R+2) 1,Pv 6 (R+2) (R+2) x,Qn p z 0 (R+2),Ub x (R+3)]) deep→Kp e G F→K (.tup []) F):Ql (.fn 146) [.i z,.ptr g 0,.ptr j 0,.ptr A 0] G K:=by
 refine Pj r_expand_coder_shiftIn_1 Aa N ?_;obtain⟨⟨_,_,B⟩,⟨_,_,D⟩,⟨_,_,C⟩,⟨_,_,E⟩,_⟩:=id C0;unfold Px at B;unfold Pc.f at C;simp[z4u,B,D,C,E];refine mq (p:=p) J h J λG1 X H=>?_
 have I:=C0.keep H;obtain⟨⟨_,_,B⟩,⟨_,_,D⟩,⟨_,_,C⟩,⟨_,_,E⟩,_⟩:=id I;unfold Px at B;unfold Pc.f at C;simp[B,D,C,E];refine zfo X Ab λG2 Y L=>?_
 have M:=I.keep L;obtain⟨⟨_,_,B⟩,⟨_,_,D⟩,⟨_,_,C⟩,⟨_,_,E⟩,_⟩:=id M;unfold Px at B;unfold Pc.f at C;simp[B,D,C,E];refine zfo Y Ab λG3 Z O=>?_
 have Q:=M.keep O;obtain⟨⟨_,_,B⟩,⟨_,_,D⟩,⟨_,_,C⟩,⟨_,_,E⟩,_⟩:=id Q;unfold Px at B;unfold Pc.f at C;simp[B,D,C,E];refine zjw Z Ab λG4 h4 T=>?_
 have U:=Q.keep T;obtain⟨⟨_,_,B⟩,⟨_,_,D⟩,⟨_,_,C⟩,⟨_,_,E⟩,_⟩:=id U;unfold Px at B;unfold Pc.f at C;simp[B,D,C,E];refine z4d (p:=p) J h4 Ab λG5 h5 V=>?_
 have C5:=U.keep V;obtain⟨⟨_,_,B⟩,⟨_,_,D⟩,⟨_,_,C⟩,⟨_,_,E⟩,_⟩:=id C5;unfold Px at B;unfold Pc.f at C;simp[B,D,C,E];refine znd h5 Ab λG6 h6 k6=>?_
 simp;exact k G6 (by simpa using h6) (H.trans (L.trans (O.trans (T.trans (V.trans k6)))))
def zsb{x:Int}(hd:0≤deep∧deep≤40)(T:-1000000≤p.at_∧p.at_≤1000000)
  (F:G[P]?=some (.cells (Px e R d d2 a b c w) st)) (z:P≠e) (h:P5 G e ops deep) (Z:ops.length≤800000) (k:∀A,P5 A e (ops++(Zv p p.size (R+2) (R+3) x deep).flat) deep→Kp e G A→K (.tup []) A) :
  Ql (.fn 116) [.ptr P 0,.agg p.f,.i x] G K:=by
 refine Pj r_expand_coder_shiftIn Aa N ?_;have lP:=(Jy.1 F).1;have le:e<G.length:=Ah
 obtain⟨j,g⟩:∃j,j=G++[LObj.cells [.ptr P 0] 0,LObj.cells [.i p.buf,.i p.at_,.i p.size] 0,LObj.cells [.i x] 0]:=⟨_,rfl⟩;have U:∀x,x<G.length→j[x]?=G[x]?:=λx V=>by rw[g];exact J4 V
 have l0:j.length=G.length+3:=Ay
 have H:j[G.length]?=some (.cells [.ptr P 0] 0):=Ay
 have C:j[G.length+1]?=some (.cells p.f 0):=Gc
 have I:j[G.length+2]?=some (.cells [.i x] 0):=Ay
 obtain⟨X,L⟩:=Sg h U J;have C0:Ce e j [(P,Px e R d d2 a b c w),(G.length,[.ptr P 0]),(G.length+1,p.f),(G.length+2,[.i x])]:=.hit z (L.cells z F) (.hit J H (.hit J C (.hit J I trivial)));obtain⟨⟨_,_,M⟩,_⟩:=id C0;unfold Px at M;unfold Pc.f at C;simp[z5j,Pc.f];rw[←g];simp[M,H,C,I];refine z9h (fst:=[]) (cap:=[.ptr G.length 0,.ptr (G.length+1) 0,.ptr (G.length+2) 0]) (B:=P0 [P7 (R+2) p deep 0,S8 9 (R+3) (R+2) 63,S8 8 (R+2) (R+2) 1,Pv 6 (R+2) (R+2) x,Qn p deep 0 (R+2),Ub x (R+3)]) J X J (by rw[flat_frL];simp) (λO Q K' D E Y hk=>?_) λO D E=>?_
 ·rw[flat_frL]at hk;exact zp9 T (C0.keep E) D Y hk
 simp;exact k O D (L.trans E)
def kr{D n:Int}(hd:0≤deep∧deep≤40)(L:-1000000≤p.at_∧p.at_≤1000000)(M:0≤p.size∧p.size≤1000000)(Y:-1000000≤q.at_∧q.at_≤1000000)(hc:-1000000≤c.at_∧c.at_≤1000000)(O:0≤c.size∧c.size≤1000000)(hn:0≤n∧n≤1000000)
  (C0:Ce e G [(P,Px e R d d2 a b c w),(g,[.ptr P 0]),(j,[.i (R+8)]),(A,[.i (R+7)]),(U,p.f),(vO,q.f),(uR,[.i n])]) (h:P5 G e ops deep) (hl:ops.length≤650001)
  (k:∀Q,P5 Q e (ops++([S8 9 (R+8) (R+7) 63,S8 8 (R+7) (R+7) 1]++((Zv p p.size (R+2) (R+3) (R+8) deep).flat++((R7 12 q p c n true R deep).flat++(Se p p q (R+1) R deep).flat)))) deep→Kp e G Q→K (.tup []) Q):Ql (.fn 114) [.i D,.ptr g 0,.ptr j 0,.ptr A 0,.ptr U 0,.ptr vO 0,.ptr uR 0] G K:=by
 refine Pj r_expand_coder_rest_1_1 Aa N ?_;have q1:(Zv p p.size (R+2) (R+3) (R+8) deep).flat.length≤8:=Yb (m:=6) Bx;have q2:=Wm (kd:=12) (n:=n) (R:=R) (D:=deep) (to:=q) (a:=p) (b:=c) (keep:=true);obtain⟨⟨_,_,z⟩,⟨_,_,E⟩,⟨_,_,F⟩,⟨_,_,H⟩,⟨_,_,B⟩,⟨_,_,C⟩,⟨_,_,I⟩,_⟩:=id C0;have T:=z;unfold Px at z;unfold Pc.f at B C;simp[z54,z,E,F,H,B,C,I];refine zfo h J λG1 h1 Z=>?_
 have C1:=C0.keep Z;obtain⟨⟨_,_,z⟩,⟨_,_,E⟩,⟨_,_,F⟩,⟨_,_,H⟩,⟨_,_,B⟩,⟨_,_,C⟩,⟨_,_,I⟩,_⟩:=id C1;have T:=z;unfold Px at z;unfold Pc.f at B C;simp[z,E,F,H,B,C,I];refine zfo h1 Ab λG2 h2 k2=>?_
 have V:=C1.keep k2;obtain⟨⟨_,_,z⟩,⟨_,_,E⟩,⟨_,_,F⟩,⟨_,_,H⟩,⟨_,_,B⟩,⟨_,_,C⟩,⟨_,_,I⟩,_⟩:=id V;have T:=z;unfold Px at z;unfold Pc.f at B C;simp[z,E,F,H,B,C,I];refine zsb (p:=p) hd L T V.1.1 h2 Ab λG3 h3 k3=>?_
 have X:=V.keep k3;obtain⟨⟨_,_,z⟩,⟨_,_,E⟩,⟨_,_,F⟩,⟨_,_,H⟩,⟨_,_,B⟩,⟨_,_,C⟩,⟨_,_,I⟩,_⟩:=id X;have T:=z;unfold Px at z;unfold Pc.f at B C;simp[z,E,F,H,B,C,I];refine ir (to:=q) (p:=p) (q:=c) J hn L M hc O Y T X.1.1 h3 Ab λG4 h4 k4=>?_
 have C4:=X.keep k4;obtain⟨⟨_,_,z⟩,⟨_,_,E⟩,⟨_,_,F⟩,⟨_,_,H⟩,⟨_,_,B⟩,⟨_,_,C⟩,⟨_,_,I⟩,_⟩:=id C4;have T:=z;unfold Px at z;unfold Pc.f at B C;simp[z,E,F,H,B,C,I];refine zcr (to:=p) (p:=p) (q:=q) hd L Y L T C4.1.1 h4 Ab λG5 h5 k5=>?_
 simp;exact k G5 (by simpa using h5) (Z.trans (k2.trans (k3.trans (k4.trans k5))))
def rsB(c p q:Pc)(n R D:Int):Fr Lo:=(P0 [S8 9 (R+8) (R+7) 63,S8 8 (R+7) (R+7) 1]).cat ((Zv p p.size (R+2) (R+3) (R+8) D).cat ((R7 12 q p c n true R D).cat (Se p p q (R+1) R D)))
def zzs{D n:Int}(hd:0≤deep∧deep≤39)(hp:-1000000≤p.at_∧p.at_≤1000000)(M:0≤p.size∧p.size≤1000000)(hq:-1000000≤q.at_∧q.at_≤1000000)(hc:-1000000≤c.at_∧c.at_≤1000000)(O:0≤c.size∧c.size≤1000000)(hn:0≤n∧n≤1000000)(ha:-1000000≤a.at_∧a.at_≤1000000)(gD:0≤a.size∧a.size≤1000000)
  (C0:Ce e G [(P,Px e R d d2 a b c w),(g,[.ptr P 0]),(j,[.i (R+8)]),(A,[.i (R+7)]),(U,p.f),(vO,q.f),(uR,[.i n])]) (h:P5 G e ops deep) (hl:ops.length≤600001)
  (k:∀Q,P5 Q e (ops++([cK 8 (iU (a.size-1)),Pv 4 8 8 D,P7 (R+7) a 8 0]++(Ri deep 64 (rsB c p q n R (deep+1))).flat)) deep→Kp e G Q→K (.tup []) Q):Ql (.fn 113) [.i D,.ptr g 0,.ptr A 0,.ptr j 0,.ptr U 0,.ptr vO 0,.ptr uR 0] G K:=by
 refine Pj r_expand_coder_rest_1 Aa N ?_;obtain⟨⟨T,V,z⟩,⟨X,Y,F⟩,⟨Z,s1,H⟩,⟨n2,s2,I⟩,⟨n3,s3,C⟩,⟨n4,s4,E⟩,⟨n5,s5,L⟩,_⟩:=id C0;unfold Px at z;unfold Pc.f at C E;simp[z6o,z,F,H,I,C,E,L]
 repeat (refine⟨J,?_⟩)
 refine z9d h J λG1 h1 k1=>?_
 have C1:=C0.keep k1;obtain⟨⟨T,V,z⟩,⟨X,Y,F⟩,⟨Z,s1,H⟩,⟨n2,s2,I⟩,⟨n3,s3,C⟩,⟨n4,s4,E⟩,⟨n5,s5,L⟩,_⟩:=id C1;unfold Px at z;unfold Pc.f at C E;simp[z,F,H,I,C,E,L];refine zjw h1 Ab λG2 h2 k2=>?_
 have C2:=C1.keep k2;obtain⟨⟨T,V,z⟩,⟨X,Y,F⟩,⟨Z,s1,H⟩,⟨n2,s2,I⟩,⟨n3,s3,C⟩,⟨n4,s4,E⟩,⟨n5,s5,L⟩,_⟩:=id C2;unfold Px at z;unfold Pc.f at C E;simp[z,F,H,I,C,E,L];refine mq (p:=a) J h2 Ab λG3 h3 k3=>?_
 have C3:=C2.keep k3;obtain⟨⟨T,V,z⟩,⟨X,Y,F⟩,⟨Z,s1,H⟩,⟨n2,s2,I⟩,⟨n3,s3,C⟩,⟨n4,s4,E⟩,⟨n5,s5,L⟩,_⟩:=id C3;unfold Px at z;unfold Pc.f at C E;simp[z,F,H,I,C,E,L];have q1:(Zv p p.size (R+2) (R+3) (R+8) (deep+1)).flat.length≤8:=Yb (m:=6) Bx;have q2:=Wm (kd:=12) (n:=n) (R:=R) (D:=deep+1) (to:=q) (a:=p) (b:=c) (keep:=true);have q3:=zg7 (q:=R+1) (to:=p) (a:=p) (b:=q) (R:=R) (D:=deep+1);have qB:(rsB c p q n R (deep+1)).flat.length≤56:=by
  unfold rsB;simp only[R4,flat_frL,J9,Kh,Kz];omega
 refine zna (fst:=[]) (cap:=[.ptr g 0,.ptr j 0,.ptr A 0,.ptr U 0,.ptr vO 0,.ptr uR 0]) (B:=rsB c p q n R (deep+1)) J h3 Ab J (λG4 gg K' h4 k4 l4 hk=>?_) λG4 h4 k4=>?_
 ·refine kr J hp M hq hc O hn (C3.keep k4) h4 (by simp at l4;omega) λG5 h5 k5=>?_
  refine hk G5 ?_ k5;unfold rsB;simp only[R4,flat_frL];exact h5
 simp;exact k G4 (by simpa using h4) (k1.trans (k2.trans (k3.trans k4)))
end put
end
section
set_option linter.unusedVariables false
def z7a:LC:=(.q [.m 5 0,.N 6 5,.f 7 25 6,.f 8 2 7,.l 9 8,.m 2 9] (.seq (.draw [(.m 10 0,[]),(.N 11 10,[]),(.f 12 28 11,[]),(.L 13 3 12,[]),(.m 14 2,[]),(.m 16 0,[]),(.N 17 16,[]),(.f 18 28 17,[]),(.L 19 3 18,[]),(.m 20 2,[]),(.m 21 2,[]),(.z 3 (.alloc [(.i 0),(.i 0),(.i 0)]),[(.L 19 3 18,false),(.L 13 3 12,false)]),(.z 4 (.alloc [(.i 0),(.i 0),(.i 0)]),[(.z 3 (.alloc [(.i 0),(.i 0),(.i 0)]),true),(.L 19 3 18,false),(.L 13 3 12,false)]),(.z 15 (.w 63 [.t 13,.k 0,.t 14]),[(.z 4 (.alloc [(.i 0),(.i 0),(.i 0)]),true),(.z 3 (.alloc [(.i 0),(.i 0),(.i 0)]),true),(.L 19 3 18,false)]),(.V 22 63 19 20 21,[(.z 4 (.alloc [(.i 0),(.i 0),(.i 0)]),true),(.z 3 (.alloc [(.i 0),(.i 0),(.i 0)]),true)]),(.S 3 3 15,[]),(.S 3 4 22,[])]) (.seq (.draw [(.m 23 0,[]),(.L 24 3 3,[]),(.m 25 0,[]),(.N 26 25,[]),(.f 27 19 26,[]),(.L 28 3 27,[]),(.m 29 0,[]),(.N 30 29,[]),(.f 31 22 30,[]),(.L 32 3 31,[]),(.m 33 2,[]),(.z 34 (.w 62 [.t 23,.k 12,.t 24,.t 28,.t 32,.t 33,.T]),[])]) (.seq (.draw [(.m 35 0,[]),(.N 36 35,[]),(.f 37 0 36,[]),(.l 38 37,[]),(.m 39 0,[]),(.N 40 39,[]),(.f 41 3 40,[]),(.z 42 (.ixAddrArr 10 1 (.t 41) (.k 5)),[]),(.l 43 42,[]),(.m 44 0,[]),(.N 45 44,[]),(.f 46 2 45,[]),(.l 47 46,[]),(.V 48 117 38 43 47,[])]) (.seq (.draw [(.m 49 0,[]),(.L 50 3 4,[]),(.L 51 3 3,[]),(.m 52 0,[]),(.N 53 52,[]),(.f 54 25 53,[]),(.L 55 3 54,[]),(.m 56 2,[]),(.z 57 (.w 62 [.t 49,.k 11,.t 50,.t 51,.t 55,.t 56,.T]),[])]) (.draw [(.m 58 0,[]),(.m 59 0,[]),(.N 60 59,[]),(.f 61 13 60,[]),(.L 62 3 61,[]),(.L 63 3 4,[]),(.L 64 3 3,[]),(.m 65 0,[]),(.N 66 65,[]),(.f 67 3 66,[]),(.z 68 (.ixAddrArr 10 1 (.t 67) (.k 5)),[]),(.l 69 68,[]),(.z 70 (.w 112 [.t 58,.t 62,.t 63,.t 64,.t 69]),[])]))))))
def r_expand_coder_taken:Pk Tryz.prog 69=some ⟨71,z7a.r,[]⟩:=Aa
def z7c:LC:=(.q [.m 5 0,.N 6 5,.f 7 25 6,.f 8 2 7,.l 9 8,.b 10 .add 3 9 1,.m 2 10] (.seq (.draw [(.m 11 0,[]),(.N 12 11,[]),(.f 13 28 12,[]),(.L 14 3 13,[]),(.m 15 2,[]),(.m 17 0,[]),(.N 18 17,[]),(.f 19 28 18,[]),(.L 20 3 19,[]),(.m 21 2,[]),(.m 22 2,[]),(.z 3 (.alloc [(.i 0),(.i 0),(.i 0)]),[(.L 20 3 19,false),(.L 14 3 13,false)]),(.z 4 (.alloc [(.i 0),(.i 0),(.i 0)]),[(.z 3 (.alloc [(.i 0),(.i 0),(.i 0)]),true),(.L 20 3 19,false),(.L 14 3 13,false)]),(.z 16 (.w 63 [.t 14,.k 0,.t 15]),[(.z 4 (.alloc [(.i 0),(.i 0),(.i 0)]),true),(.z 3 (.alloc [(.i 0),(.i 0),(.i 0)]),true),(.L 20 3 19,false)]),(.V 23 63 20 21 22,[(.z 4 (.alloc [(.i 0),(.i 0),(.i 0)]),true),(.z 3 (.alloc [(.i 0),(.i 0),(.i 0)]),true)]),(.S 3 3 16,[]),(.S 3 4 23,[])]) (.seq (.draw [(.m 24 0,[]),(.L 25 3 3,[]),(.m 26 0,[]),(.N 27 26,[]),(.f 28 19 27,[]),(.L 29 3 28,[]),(.m 30 0,[]),(.N 31 30,[]),(.f 32 22 31,[]),(.L 33 3 32,[]),(.m 34 2,[]),(.z 35 (.w 62 [.t 24,.k 11,.t 25,.t 29,.t 33,.t 34,.T]),[])]) (.seq (.draw [(.m 36 0,[]),(.L 37 3 4,[]),(.L 38 3 3,[]),(.m 39 0,[]),(.N 40 39,[]),(.f 41 25 40,[]),(.L 42 3 41,[]),(.m 43 2,[]),(.z 44 (.w 62 [.t 36,.k 12,.t 37,.t 38,.t 42,.t 43,.T]),[])]) (.draw [(.m 45 0,[]),(.m 46 0,[]),(.N 47 46,[]),(.f 48 13 47,[]),(.L 49 3 48,[]),(.L 50 3 3,[]),(.L 51 3 4,[]),(.m 52 0,[]),(.N 53 52,[]),(.f 54 2 53,[]),(.l 55 54,[]),(.z 56 (.w 112 [.t 45,.t 49,.t 50,.t 51,.t 55]),[])])))))
def r_expand_coder_added:Pk Tryz.prog 68=some ⟨57,z7c.r,[]⟩:=Aa
section put
variable {G : Pd} {K : LV → Pd → Prop} {e P st : Nat} {ops : List Lo} {deep R : Int} {d d2 a b c w : Pc}
set_option maxHeartbeats 1000000 in
def zzx(hd:0≤deep∧deep≤40)(pd:U9 d)(pa:U9 a)(pb:U9 b)(pc:U9 c)(pw:U9 w)
  (Q:G[P]?=some (.cells (Px e R d d2 a b c w) st)) (g:P≠e) (h:P5 G e ops deep) (hl:ops.length≤500000)
  (k:∀T,P5 T e (ops++(R7 12 (P2 w 0 c.size) a b c.size true R deep).flat++[Ub (R+7) (R+1)]++(R7 11 (P2 w c.size c.size) (P2 w 0 c.size) c c.size true R deep).flat++(Se d (P2 w c.size c.size) (P2 w 0 c.size) (R+7) R deep).flat) deep→Kp e G T→K (.tup []) T) :
  Ql (.fn 69) [.ptr P 0] G K:=by
 refine Pj r_expand_coder_taken Aa N ?_;obtain⟨d1,gD,d3,d4⟩:=pd;obtain⟨a1,a2,a3,a4⟩:=pa;obtain⟨b1,b2,b3,b4⟩:=pb;obtain⟨c1,c2,c3,c4⟩:=pc;obtain⟨w1,w2,w3,w4⟩:=pw;have U:=(Jy.1 Q).1;have le:e<G.length:=Ah
 have F:=Q;unfold Px at F;simp[z7a,F,↓Ph U];obtain⟨C,z⟩:∃C,C=G++[LObj.cells [.i 0,.i 0,.i 0] 0,LObj.cells [.i 0,.i 0,.i 0] 0]:=⟨_,rfl⟩;have V:∀x,x<G.length→C[x]?=G[x]?:=λx X=>by rw[z];exact J4 X
 have l0:C.length=G.length+2:=Da
 have Y:C[G.length]?=some (.cells [.i 0,.i 0,.i 0] 0):=Da
 have Z:C[G.length+1]?=some (.cells [.i 0,.i 0,.i 0] 0):=Da
 rw[←z];refine Vy (p:=w) (x:=0) J λG1 j qS aS sS M l1=>?_
 have y0:=(M _ J).trans Y;have y1:=(M _ J).trans Z;have f1:=(M _ J).trans ((V P U).trans F);have gg:=(V P U).trans F;simp[Y,Z,y0,y1,gg,f1];refine Vy (p:=w) (x:=c.size) J λG2 B qM aM sM O l2=>?_
 have x0:=(O _ J).trans y0;have x1:=(O _ J).trans y1;have f2:=(O _ J).trans f1;obtain⟨E,A⟩:∃E,E=(G2.set G.length (.cells [.i j.buf,.i j.at_,.i j.size] 1)).set (G.length+1) (.cells [.i B.buf,.i B.at_,.i B.size] 1):=⟨_,rfl⟩;have l3:E.length=G2.length:=by rw[A];simp
 have v1:E[G.length+1]?=some (.cells [.i B.buf,.i B.at_,.i B.size] 1):=Ix
 have v0:E[G.length]?=some (.cells [.i j.buf,.i j.at_,.i j.size] 1):=Iu
 obtain⟨h3,k3⟩:=Sg (G1:=E) h (λx X=>by rw[A,Jz J,Jz J];exact (O x J).trans ((M x J).trans (V x X))) J;have Q3:=k3.cells g Q;have f3:=k3.cells g F;have n0:G.length≠e:=J
 have n1:G.length+1≠e:=J
 have m0:¬G.length=P:=J
 have m1:¬G.length+1=P:=J
 have t0:(G2.set G.length (.cells [.i j.buf,.i j.at_,.i j.size] 1))[G.length]?=some (.cells [.i j.buf,.i j.at_,.i j.size] 1):=J3 J;simp[Y,Z,y0,y1,x0,x1,f1,f2,Pc.f,m0,m1];simp[t0];rw[←A];have q1:=Wm (kd:=12) (n:=c.size) (R:=R) (D:=deep) (to:=j) (a:=a) (b:=b) (keep:=true);refine ir (to:=j) (p:=a) (q:=b) J J J J J J J Q3 g h3 J λG4 h4 H=>?_
 have Q4:=H.cells g Q3;have f4:=H.cells g f3;have u0:=H.cells n0 v0;have u1:=H.cells n1 v1;simp[f4,u0,u1];refine znd h4 Ab λG5 h5 I=>?_
 have Q5:=I.cells g Q4;have f5:=I.cells g f4;have r0:=I.cells n0 u0;have r1:=I.cells n1 u1;simp[f5,r0,r1];have q2:=Wm (kd:=11) (n:=c.size) (R:=R) (D:=deep) (to:=B) (a:=j) (b:=c) (keep:=true);refine ir (to:=B) (p:=j) (q:=c) J J J J J J J Q5 g h5 Ab λG6 h6 L=>?_
 have Q6:=L.cells g Q5;have f6:=L.cells g f5;have p0:=L.cells n0 r0;have p1:=L.cells n1 r1;simp[f6,p0,p1];refine zcr (to:=d) (p:=B) (q:=j) hd J J J Q6 g h6 Ab λG7 h7 k7=>?_
 simp;subst qS qM;exact k G7 h7 (k3.trans (H.trans (I.trans (L.trans k7))))
set_option maxHeartbeats 1000000 in
def jw(hd:0≤deep∧deep≤40)(pd:U9 d)(pa:U9 a)(pb:U9 b)(pc:U9 c)(pw:U9 w)
  (O:G[P]?=some (.cells (Px e R d d2 a b c w) st)) (g:P≠e) (h:P5 G e ops deep) (hl:ops.length≤500000)
  (k:∀Q,P5 Q e (ops++(R7 11 (P2 w 0 (c.size+1)) a b (c.size+1) true R deep).flat++(R7 12 (P2 w (c.size+1) (c.size+1)) (P2 w 0 (c.size+1)) c (c.size+1) true R deep).flat++(Se d (P2 w 0 (c.size+1)) (P2 w (c.size+1) (c.size+1)) (R+1) R deep).flat) deep→Kp e G Q→K (.tup []) Q) :
  Ql (.fn 68) [.ptr P 0] G K:=by
 refine Pj r_expand_coder_added Aa N ?_;obtain⟨d1,gD,d3,d4⟩:=pd;obtain⟨a1,a2,a3,a4⟩:=pa;obtain⟨b1,b2,b3,b4⟩:=pb;obtain⟨c1,c2,c3,c4⟩:=pc;obtain⟨w1,w2,w3,w4⟩:=pw;have T:=(Jy.1 O).1;have le:e<G.length:=Ah
 have F:=O;unfold Px at F;simp[z7c,F,↓Ph T];refine⟨J,?_⟩;obtain⟨C,z⟩:∃C,C=G++[LObj.cells [.i 0,.i 0,.i 0] 0,LObj.cells [.i 0,.i 0,.i 0] 0]:=⟨_,rfl⟩;have U:∀x,x<G.length→C[x]?=G[x]?:=λx V=>by rw[z];exact J4 V
 have l0:C.length=G.length+2:=Da
 have X:C[G.length]?=some (.cells [.i 0,.i 0,.i 0] 0):=Da
 have Y:C[G.length+1]?=some (.cells [.i 0,.i 0,.i 0] 0):=Da
 rw[←z];refine Vy (p:=w) (x:=0) J λG1 j qS aS sS L l1=>?_
 have Z:=(L _ J).trans X;have y1:=(L _ J).trans Y;have f1:=(L _ J).trans ((U P T).trans F);have gg:=(U P T).trans F;simp[X,Y,Z,y1,gg,f1];refine Vy (p:=w) (x:=c.size+1) J λG2 B qM aM sM M l2=>?_
 have x0:=(M _ J).trans Z;have x1:=(M _ J).trans y1;have f2:=(M _ J).trans f1;obtain⟨E,A⟩:∃E,E=(G2.set G.length (.cells [.i j.buf,.i j.at_,.i j.size] 1)).set (G.length+1) (.cells [.i B.buf,.i B.at_,.i B.size] 1):=⟨_,rfl⟩;have l3:E.length=G2.length:=by rw[A];simp
 have v1:E[G.length+1]?=some (.cells [.i B.buf,.i B.at_,.i B.size] 1):=Ix
 have v0:E[G.length]?=some (.cells [.i j.buf,.i j.at_,.i j.size] 1):=Iu
 obtain⟨h3,k3⟩:=Sg (G1:=E) h (λx V=>by rw[A,Jz J,Jz J];exact (M x J).trans ((L x J).trans (U x V))) J;have Q3:=k3.cells g O;have f3:=k3.cells g F;have n0:G.length≠e:=J
 have n1:G.length+1≠e:=J
 have m0:¬G.length=P:=J
 have m1:¬G.length+1=P:=J
 have t0:(G2.set G.length (.cells [.i j.buf,.i j.at_,.i j.size] 1))[G.length]?=some (.cells [.i j.buf,.i j.at_,.i j.size] 1):=J3 J;simp[X,Y,Z,y1,x0,x1,f1,f2,Pc.f,m0,m1];simp[t0];rw[←A];have q1:=Wm (kd:=11) (n:=c.size+1) (R:=R) (D:=deep) (to:=j) (a:=a) (b:=b) (keep:=true);refine ir (to:=j) (p:=a) (q:=b) J J J J J J J Q3 g h3 J λG4 h4 H=>?_
 have Q4:=H.cells g Q3;have f4:=H.cells g f3;have u0:=H.cells n0 v0;have u1:=H.cells n1 v1;simp[f4,u0,u1];have q2:=Wm (kd:=12) (n:=c.size+1) (R:=R) (D:=deep) (to:=B) (a:=j) (b:=c) (keep:=true);refine ir (to:=B) (p:=j) (q:=c) J J J J J J J Q4 g h4 Ab λG6 h6 I=>?_
 have Q6:=I.cells g Q4;have f6:=I.cells g f4;have p0:=I.cells n0 u0;have p1:=I.cells n1 u1;simp[f6,p0,p1];refine zcr (to:=d) (p:=j) (q:=B) hd J J J Q6 g h6 Ab λG7 h7 k7=>?_
 simp;subst qS qM;exact k G7 h7 (k3.trans (H.trans (I.trans k7)))
end put
end
section
set_option linter.unusedVariables false
def z7y:LC:=(.q [.x 1 0] (.q [.l 7 1,.N 8 7,.f 9 25 8,.f 10 2 9,.l 11 10,.b 12 .add 3 11 1,.z 2 (.alloc [(.i 0)]),.S 1 2 12] (.seq (.draw [(.l 13 1,[]),(.N 14 13,[]),(.f 15 28 14,[]),(.L 16 3 15,[]),(.l 17 2,[]),(.l 19 1,[]),(.N 20 19,[]),(.f 21 28 20,[]),(.L 22 3 21,[]),(.l 23 2,[]),(.l 24 2,[]),(.z 3 (.alloc [(.i 0),(.i 0),(.i 0)]),[(.l 24 2,false),(.l 23 2,false),(.L 22 3 21,false),(.l 19 1,false),(.l 17 2,false),(.L 16 3 15,false),(.l 13 1,false)]),(.z 4 (.alloc [(.i 0),(.i 0),(.i 0)]),[(.z 3 (.alloc [(.i 0),(.i 0),(.i 0)]),true),(.l 24 2,false),(.l 23 2,false),(.L 22 3 21,false),(.l 19 1,false),(.l 17 2,false),(.L 16 3 15,false),(.l 13 1,false)]),(.z 18 (.w 63 [.t 16,.k 0,.t 17]),[(.z 4 (.alloc [(.i 0),(.i 0),(.i 0)]),true),(.z 3 (.alloc [(.i 0),(.i 0),(.i 0)]),true),(.l 24 2,false),(.l 23 2,false),(.L 22 3 21,false),(.l 19 1,false)]),(.V 25 63 22 23 24,[(.z 4 (.alloc [(.i 0),(.i 0),(.i 0)]),true),(.z 3 (.alloc [(.i 0),(.i 0),(.i 0)]),true)]),(.S 3 3 18,[]),(.S 3 4 25,[])]) (.seq (.draw [(.l 26 1,[]),(.N 27 26,[]),(.f 28 3 27,[]),(.z 29 (.ixAddrArr 10 1 (.t 28) (.k 5)),[]),(.l 30 29,[]),(.l 31 1,[]),(.N 32 31,[]),(.f 33 3 32,[]),(.z 34 (.ixAddrArr 10 1 (.t 33) (.k 6)),[]),(.l 35 34,[]),(.z 5 (.alloc [(.i 0)]),[(.l 35 34,false),(.l 31 1,false),(.l 30 29,false),(.l 26 1,false)]),(.z 6 (.alloc [(.i 0)]),[(.z 5 (.alloc [(.i 0)]),true),(.l 35 34,false),(.l 31 1,false),(.l 30 29,false),(.l 26 1,false)]),(.S 1 5 30,[(.l 35 34,false),(.l 31 1,false)]),(.S 1 6 35,[])]) (.seq (.draw [(.l 36 1,[]),(.N 37 36,[]),(.f 38 0 37,[]),(.l 39 38,[]),(.L 40 3 3,[]),(.l 41 1,[]),(.N 42 41,[]),(.f 43 1 42,[]),(.l 44 43,[]),(.V 45 99 39 40 44,[])]) (.seq (.draw [(.l 46 1,[]),(.N 47 46,[]),(.f 48 0 47,[]),(.l 49 48,[]),(.l 50 1,[]),(.N 51 50,[]),(.f 52 19 51,[]),(.f 53 2 52,[]),(.l 54 53,[]),(.z 55 (.mkFunc 113 [] [.t 1,.t 5,.t 6,.t 3,.t 4,.t 2]),[]),(.V 56 106 49 54 55,[])]) (.draw [(.l 57 1,[]),(.l 58 1,[]),(.N 59 58,[]),(.f 60 13 59,[]),(.L 61 3 60,[]),(.L 62 3 3,[]),(.l 63 1,[]),(.N 64 63,[]),(.f 65 25 64,[]),(.f 66 2 65,[]),(.l 67 66,[]),(.z 68 (.w 63 [.t 62,.k 0,.t 67]),[(.L 61 3 60,false),(.l 58 1,false),(.l 57 1,false)]),(.V 69 61 57 61 68,[])])))))))
def r_expand_coder_rest:Pk Tryz.prog 67=some ⟨70,z7y.r,[]⟩:=Aa
section put
variable {G : Pd} {K : LV → Pd → Prop} {e P st : Nat} {ops : List Lo} {deep R : Int} {d d2 a b c w : Pc}
def zy(a c p q:Pc)(n R D:Int):Fr Lo:=(P0 [cK 8 (iU (a.size-1)),Pv 4 8 8 D,P7 (R+7) a 8 0]).cat (Ri (D+1) 64 (rsB c p q n R (D+1+1)))
set_option maxHeartbeats 1000000 in
def xq(hd:0≤deep∧deep≤38)(pd:U9 d)(pa:U9 a)(pc:U9 c)(pw:U9 w)
  (hP:G[P]?=some (.cells (Px e R d d2 a b c w) st)) (z:P≠e) (h:P5 G e ops deep) (hl:ops.length≤500000)
  (k:∀G',P5 G' e (ops++(Uo (P2 w 0 (c.size+1)) R deep).flat++(Ri deep a.size (zy a c (P2 w 0 (c.size+1)) (P2 w (c.size+1) (c.size+1)) (c.size+1) R deep)).flat++(Sd d (P2 (P2 w 0 (c.size+1)) 0 c.size) R deep).flat) deep→Kp e G G'→K (.tup []) G') :
  Ql (.fn 67) [.ptr P 0] G K:=by
 refine Pj r_expand_coder_rest Aa N ?_;obtain⟨d1,gR,d3,d4⟩:=pd;obtain⟨a1,a2,a3,a4⟩:=pa;obtain⟨c1,c2,c3,c4⟩:=pc;obtain⟨w1,w2,w3,w4⟩:=pw;have lP:=(Jy.1 hP).1;have le:e<G.length:=Ah
 have f0:=hP;unfold Px at f0;simp[z7y,f0,↓Ph lP];refine⟨J,?_⟩;obtain⟨L,C⟩:∃L,L=G++[LObj.cells [.ptr P 0] 0,LObj.cells [.i (c.size+1)] 1,LObj.cells [.i 0,.i 0,.i 0] 0,LObj.cells [.i 0,.i 0,.i 0] 0]:=⟨_,rfl⟩;have o0:∀x,x<G.length→L[x]?=G[x]?:=λx X=>by rw[C];exact J4 X
 have l0:L.length=G.length+4:=Fh
 have M:L[G.length]?=some (.cells [.ptr P 0] 0):=Fh
 have O:L[G.length+1]?=some (.cells [.i (c.size+1)] 1):=Fh
 have z0:L[G.length+2]?=some (.cells [.i 0,.i 0,.i 0] 0):=Fh
 have z1:L[G.length+3]?=some (.cells [.i 0,.i 0,.i 0] 0):=Fh
 rw[←C];refine Vy (p:=w) (x:=0) J λG1 g qS aS sS T l1=>?_
 have y0:=(T _ J).trans z0;have y1:=(T _ J).trans z1;have yP:=(T _ J).trans M;have yn:=(T _ J).trans O;have f1:=(T _ J).trans ((o0 P lP).trans f0);have gD:=(o0 P lP).trans f0;simp[z0,z1,M,O,yP,yn,y0,y1,gD,f1];refine Vy (p:=w) (x:=c.size+1) J λG2 E qM aM sM U l2=>?_
 have x0:=(U _ J).trans y0;have x1:=(U _ J).trans y1;have xP:=(U _ J).trans yP;have xn:=(U _ J).trans yn;have f2:=(U _ J).trans f1;obtain⟨j,A⟩:∃j,j=(G2.set (G.length+2) (.cells [.i g.buf,.i g.at_,.i g.size] 1)).set (G.length+3) (.cells [.i E.buf,.i E.at_,.i E.size] 1):=⟨_,rfl⟩;have l3:j.length=G2.length:=by rw[A];simp
 have v1:j[G.length+3]?=some (.cells [.i E.buf,.i E.at_,.i E.size] 1):=Ix
 have v0:j[G.length+2]?=some (.cells [.i g.buf,.i g.at_,.i g.size] 1):=Iu
 have vP:j[G.length]?=some (.cells [.ptr P 0] 0):=by rw[A,Jz J,Jz J];exact xP
 have vn:j[G.length+1]?=some (.cells [.i (c.size+1)] 1):=by rw[A,Jz J,Jz J];exact xn
 have Y:G.length+2≠e:=J
 have n1:G.length+3≠e:=J
 have Z:G.length≠e:=J
 have nn:G.length+1≠e:=J
 have t0:(G2.set (G.length+2) (.cells [.i g.buf,.i g.at_,.i g.size] 1))[G.length+2]?=some (.cells [.i g.buf,.i g.at_,.i g.size] 1):=J3 J;have f3:j[P]?=G2[P]?:=by rw[A,Jz J,Jz J]
 rw[f2]at f3;have gg:P<j.length:=(Jy.1 f3).1;have gF:G.length<j.length:=J
 simp[z0,z1,y0,y1,x0,x1,f1,f2,Pc.f,M,O,yP,yn,xP,xn];rw[←A];have gG:G.length+2<j.length:=J
 simp[vP,f3,v0,↓Ph gF,↓Ph gg,↓Ph gG];obtain⟨Q,H⟩:∃Q,Q=j++[LObj.cells [LV.i (R+7)] 1,LObj.cells [LV.i (R+8)] 1]:=⟨_,rfl⟩;have V:∀x,x<j.length→Q[x]?=j[x]?:=λx X=>by rw[H];exact J4 X
 have l4:Q.length=j.length+2:=by rw[H];simp
 have gH:Q[j.length]?=some (.cells [.i (R+7)] 1):=by rw[H];simp
 have gI:Q[j.length+1]?=some (.cells [.i (R+8)] 1):=by rw[H];simp
 rw[←H];obtain⟨h4,k4⟩:=Sg (G1:=Q) h (λx X=>by rw[V x J,A,Jz J,Jz J];exact (U x J).trans ((T x J).trans (o0 x X))) J;have nt:j.length≠e:=J
 have nb:j.length+1≠e:=J
 have Q4:=k4.cells z hP;have f4:=(V P gg).trans f3;have p0:=(V _ J).trans v0;have p1:=(V _ J).trans v1;have pP:=(V _ J).trans vP;have pn:=(V _ J).trans vn;refine zo5 (p:=g) (x:=R) J J h4 J λG5 h5 I=>?_
 have Q5:=I.cells z Q4;have f5:=I.cells z f4;have t5:=I.cells nt gH;have b5:=I.cells nb gI;have u0:=I.cells Y p0;have u1:=I.cells n1 p1;have uP:=I.cells Z pP;have un:=I.cells nn pn;have qf:(Uo g R deep).flat.length≤3:=Yb (m:=1) Bx;simp[f5,uP];have q1:(Zv g g.size (R+2) (R+3) (R+8) (deep+1+1)).flat.length≤8:=Yb (m:=6) Bx;have q2:=Wm (kd:=12) (n:=c.size+1) (R:=R) (D:=deep+1+1) (to:=E) (a:=g) (b:=c) (keep:=true);have q3:=zg7 (q:=R+1) (to:=g) (a:=g) (b:=E) (R:=R) (D:=deep+1+1);have qB:(rsB c g E (c.size+1) R (deep+1+1)).flat.length≤56:=by
  unfold rsB;simp only[R4,flat_frL,J9,Kh,Kz];omega
 have qL:(zy a c g E (c.size+1) R deep).flat.length≤61:=by
  unfold zy;have:=Yb (d:=deep+1) (t:=64) qB;simp only[R4,flat_frL,J9,Kh,Kz];omega
 have C5:Ce e G5 [(P,Px e R d d2 a b c w),(G.length,[.ptr P 0]),(j.length,[.i (R+7)]),(j.length+1,[.i (R+8)]),(G.length+2,g.f),(G.length+3,E.f),(G.length+1,[.i (c.size+1)])]:=.hit z Q5 (.hit Z uP (.hit nt t5 (.hit nb b5 (.hit Y u0 (.hit n1 u1 (.hit nn un trivial))))));refine zna (fst:=[]) (cap:=[.ptr G.length 0,.ptr j.length 0,.ptr (j.length+1) 0,.ptr (G.length+2) 0,.ptr (G.length+3) 0,.ptr (G.length+1) 0]) (B:=zy a c g E (c.size+1) R deep) J h5 Ab J (λG6 gO K' h6 F l6 hk=>?_) λG6 h6 F=>?_
 ·have C6:=C5.keep F;refine zzs (p:=g) (q:=E) (n:=c.size+1) J J J J J J J J J (.hit C6.1.1 C6.1.2.choose_spec (.hit Z (F.cells Z uP) (.hit nb (F.cells nb b5) (.hit nt (F.cells nt t5) (.hit Y (F.cells Y u0) (.hit n1 (F.cells n1 u1) (.hit nn (F.cells nn un) trivial))))))) h6 (by simp at l6;omega) λG7 h7 k7=>?_
  refine hk G7 ?_ k7;unfold zy;simp only[R4,flat_frL];exact h7
 have Q6:=F.cells z Q5;have f6:=F.cells z f5;have s0:=F.cells Y u0;have sP:=F.cells Z uP;simp[f6,s0,sP];refine Vy (p:=g) (x:=0) J λG7 TT qT aT sT o7 l7=>?_
 have gK:P<G6.length:=(Jy.1 f6).1;have gL:G.length<G6.length:=(Jy.1 sP).1;have gT:e<G6.length:=by obtain⟨_,_,h,_⟩:=id h6;exact (Jy.1 h).1
 have f7:=(o7 P gK).trans f6;have gM:=(o7 _ gL).trans sP;obtain⟨h7,k7⟩:=Sg (G1:=G7) h6 o7 l7;have Q7:=k7.cells z Q6;simp[f6,f7,sP,gM];have qR:(Ri deep a.size (zy a c g E (c.size+1) R deep)).flat.length≤63:=Yb qL;refine za6 (to:=d) (p:=TT) J J J J J Q7 z h7 Ab λG8 h8 k8=>?_
 simp;subst qS qM qT;exact k G8 h8 (k4.trans (I.trans (F.trans (k7.trans k8))))
end put
end
section
set_option linter.unusedVariables false
def Xh(g:Int)(j:UInt64)(d d2 a b c w:Pc)(R D:Int):List Lo :=
 if g≤7 then Zm g j d a b w R D
 else cK R 0::(if g=8 then P7 (R+7) c (-1) 0::(Se d a b (R+7) R D).flat
  else if g=9 then (Uo (P2 w 0 (c.size+1)) R D).flat++(Ri D a.size (zy a c (P2 w 0 (c.size+1)) (P2 w (c.size+1) (c.size+1)) (c.size+1) R D)).flat++(Sd d (P2 (P2 w 0 (c.size+1)) 0 c.size) R D).flat
  else if g=10 then (R7 11 (P2 w 0 (c.size+1)) a b (c.size+1) true R D).flat++(R7 12 (P2 w (c.size+1) (c.size+1)) (P2 w 0 (c.size+1)) c (c.size+1) true R D).flat++(Se d (P2 w 0 (c.size+1)) (P2 w (c.size+1) (c.size+1)) (R+1) R D).flat
  else if g=11 then (R7 12 (P2 w 0 c.size) a b c.size true R D).flat++[Ub (R+7) (R+1)]++(R7 11 (P2 w c.size c.size) (P2 w 0 c.size) c c.size true R D).flat++(Se d (P2 w c.size c.size) (P2 w 0 c.size) (R+7) R D).flat
  else P7 (R+7) c (-1) 0::(Ri D d.size (P0 (Tp d d2 R D))).flat)
section put
variable {G : Pd} {K : LV → Pd → Prop} {e P st : Nat} {ops : List Lo} {deep R : Int} {d d2 a b c w p q to : Pc}
def pt{o:Ko}(hk:(1≤o.kind∧o.kind≤11)∨o.kind=14)(hd:0≤deep∧deep≤38)(D:U9 d)(pe:U9 d2)(E:U9 a)(U:U9 b)(V:U9 c)(X:U9 w)(h6:o.kind=6→1≤a.size∧a.size≤10000∧b.size=a.size)
  (hP:G[P]?=some (.cells (Px e R d d2 a b c w) st)) (g:P≠e) (h:P5 G e ops deep) (hl:ops.length≤400000) (k:∀F,P5 F e (ops++Xh o.kind o.imm d d2 a b c w R deep) deep→Kp e G F→K (.tup []) F) :
  Ql (.fn 33) [.ptr P 0,.agg o.f] G K:=by
 by_cases k7:o.kind≤7
 ·exact qy ⟨J,k7⟩ J D E U X h6 hP g h J λF h' k'=>k F (by unfold Xh;rw[J6 k7];exact h') k'
 refine Pj r_expand_coder_code k_expand_coder_code N ?_;have hf:o.f=[.i o.kind,.i o.d,.i o.e,.i o.a,.i o.b,.i o.c,.u o.imm]:=rfl;have lP:=(Jy.1 hP).1;have le:e<G.length:=Ah
 obtain⟨Y,j⟩:∃Y,Y=G++[LObj.cells o.f 0]:=⟨_,rfl⟩;have o0:∀x,x<G.length→Y[x]?=G[x]?:=λx hx=>by rw[j];exact J4 hx
 have z0:Y[G.length]?=some (.cells o.f 0):=by rw[j];exact Kg
 obtain⟨h0,k0⟩:=Sg h o0 (by rw[j];simp);have nz:G.length≠e:=J
 have Q0:=k0.cells g hP;have f0:=Q0;unfold Px at f0;simp[z36];rw[←j];rw[hf]at z0;simp[f0,z0];refine z9d h0 J λG1 H Z=>?_
 have I:=Z.cells g Q0;have L:=Z.cells g f0;have C:=Z.cells nz z0;simp[C];have M:=k0.trans Z;unfold Xh at k;rw[J1 k7]at k;obtain⟨gg,gD,gF,gG⟩:=id D;obtain⟨gH,gI,gK,gL⟩:=id pe;obtain⟨gM,gO,gR,gT⟩:=id E;obtain⟨gU,gV,gY,gZ⟩:=id U;obtain⟨jg,jz,jA,jB⟩:=id V;by_cases g8:o.kind=8
 ·simp[g8,C,L];refine sel_any J J J J J I g H Ab λz A B=>?_
  simp;exact k z (by simpa [g8] using A) (M.trans B)
 by_cases g9:o.kind=9
 ·simp[g9,C,L];refine xq hd D E V X I g H Ab λz A B=>?_
  simp;exact k z (by simpa [g9] using A) (M.trans B)
 by_cases O:o.kind=10
 ·simp[O,C,L];refine jw J D E U V X I g H Ab λz A B=>?_
  simp;exact k z (by simpa [O] using A) (M.trans B)
 by_cases Q:o.kind=11
 ·simp[Q,C,L];refine zzx J D E U V X I g H Ab λz A B=>?_
  simp;exact k z (by simpa [Q] using A) (M.trans B)
 have T:o.kind=14:=J
 simp[T,C,L];refine us J J J J I g H Ab λz A B=>?_
 simp;exact k z (by simpa [T] using A) (M.trans B)
end put
end
section
set_option linter.unusedVariables false
def zz0(z:List Vr)(o:Ko)(C:List Bf)(j:List Pc)(A B:Pc)(g:Int):List Lo :=
 if me z o C j A B g (Pt z o)=true then Xh o.kind o.imm (Ua j o.d) (Ua j o.e) (Ua j o.a) (Ua j o.b) (Ua j o.c) (Z3 z o A B) (zkt z o) g else []
def zuy(j:List Vr)(o:Ko)(z:List Bf)(A:List Pc)(B C:Pc)(g:Int):Int:=if me j o z A B C g (Pt j o)=true then 0 else 2
def zj0(E:List Vr)(o:Ko)(K:List Bf)(j:List Pc)(G H:Pc)(deep:Int)(hv:E.length≤1000000)(hb:K.length≤9223372036854775807) :
  Rk 12 [.lst (Py E) E.length 3,.agg o.f,.agg (Sj K j G H),.i deep] (.tup [.lst (Tu (zz0 E o K j G H deep)) (zz0 E o K j G H deep).length 8,.i (zuy E o K j G H deep)]):=by
 refine Uy.mk (by simp[dats,LV.dat,W9]) (Pj r_expand_Code Aa (by simp) ?_);have hf:o.f=[.i o.kind,.i o.d,.i o.e,.i o.a,.i o.b,.i o.c,.u o.imm]:=rfl;have T:Sj K j G H=[.lst (Rz K) K.length 3,.lst (Yl j) j.length 3,.i G.buf,.i G.at_,.i G.size,.i H.buf,.i H.at_,.i H.size]:=rfl;simp[zei,T,hf];rw[←hf];refine Pr (zdm E o hv) (bors_self _ Gb) ?_;simp[T,hf];rw[←hf,←T];refine Pr (zii E o K j G H deep (Pt E o) hv hb) (bors_self _ (by simp[dats,LV.dat,Tt,zcl,hf])) ?_;unfold zz0 zuy;cases hr:me E o K j G H deep (Pt E o) with
 |false =>
  simp[Tu]
 |true =>
 have gG:=hr;simp only[me,J2,Kb]at gG;obtain⟨hP,hw,gM,gO,gR⟩:=gG;have hm:((1≤o.kind∧o.kind≤11)∨o.kind=14)∧V5 E o=true:=by
  unfold Pt at hw;split at hw
  ·rename_i h;simp only[Te,J2]at h;refine⟨?_,h.2⟩;have:=h.1;simp at this;omega
  ·omega
 obtain⟨s,hs⟩:∃s,Qm o.kind=some s:=by
  have:o.kind=1∨o.kind=2∨o.kind=3∨o.kind=4∨o.kind=5∨o.kind=6∨o.kind=7∨o.kind=8∨o.kind=9∨o.kind=10∨o.kind=11∨o.kind=14:=J
  rcases this with h|h|h|h|h|h|h|h|h|h|h|h<;>simp[Qm,h]
 obtain⟨gT,hp,_,gI⟩:=za4 hm.2 hs;simp only[Vp,J2]at hp;obtain⟨qd,qe,qa,qb,qc⟩:=hp;have Z:∀{v:Int},v=-1∨(0≤v∧v<E.length)→U9 (Ua j v):=λ{v} h=>by
  unfold Ua U9;rcases h with h|⟨h1,h2⟩
  ·rw[J1 J];simp
  ·rw[J6 h1];obtain⟨_,p1,p2,p3,p4⟩:=z7q hP (i:=v.toNat) J;omega
 have pw:=tu (o:=o) hP;obtain⟨gU,gV⟩:=zye (o:=o) hP;simp[T,hf];rw[←hf,←T];refine Pr (zd1 E o K j G H) (bors_self _ (by simp[dats,LV.dat,Tt,zcl,hf])) ?_;have gY:zkt E o=16∨zkt E o=40:=by unfold zkt;split<;>simp
 generalize zkt E o=gF at *;generalize Z3 E o G H=w at *;simp[T,hf,Pc.f];refine⟨J,?_⟩;refine Qt (λρ gL G' N=>∃i st:Nat,gL=[]∧N+i=10∧lk ρ 12=.ptr 4 0∧lk ρ 10=.i gF∧lk ρ 5=.ptr 0 0∧lk ρ 6=.ptr 1 0∧lk ρ 41=.i i∧G'=mi o K j G H w deep gF i st) (N:=10)
  ⟨0,0,rfl,J,by simp,by simp,by simp,by simp,by simp,by simp[mi]⟩ ?_
 rintro N ρ gL U ⟨i,st,rfl,hN,g,gg,C,F,gD,rfl⟩ Nx D;by_cases jz:i<10
 ·have hi:i=0∨i=1∨i=2∨i=3∨i=4∨i=5∨i=6∨i=7∨i=8∨i=9:=J
  obtain⟨gZ,hj⟩:∃gZ,gZ=i+1:=⟨_,rfl⟩;rcases hi with rfl|rfl|rfl|rfl|rfl|rfl|rfl|rfl|rfl|rfl
  all_goals
   simp[g,gg,C,F,gD,mi]
   repeat (refine⟨J,?_⟩)
   exact D _ _ _ ⟨N-1,J,gZ,st+1,rfl,J,As,B1,Af,Ae,by simp[hj],by simp[mi,hj]<;>omega⟩
 have hi:i=10:=J
 subst hi;clear D hN jz;have q4:(mi o K j G H w deep gF 10 st)[4]?=some (.cells (Px 3 gF ⟨0,0,0⟩ ⟨0,0,0⟩ ⟨0,0,0⟩ ⟨0,0,0⟩ ⟨0,0,0⟩ w) st):=by simp[mi,Px]
 have e0:P5 (mi o K j G H w deep gF 10 st) 3 [] deep:=⟨0,.nilSl,rfl,R5.nil⟩;have V:(mi o K j G H w deep gF 10 st)[0]?=some (.cells [.i o.kind,.i o.d,.i o.e,.i o.a,.i o.b,.i o.c,.u o.imm] 0):=rfl;have z1:(mi o K j G H w deep gF 10 st)[1]?=some (.cells [.lst (Rz K) K.length 3,.lst (Yl j) j.length 3,.i G.buf,.i G.at_,.i G.size,.i H.buf,.i H.at_,.i H.size] 0):=rfl;have gK:(mi o K j G H w deep gF 10 st)[3]?=some (.cells [.nilSl,.i deep] 0):=rfl;have L:(mi o K j G H w deep gF 10 st).length=5:=rfl;generalize mi o K j G H w deep gF 10 st=G0 at *;have z3:G0[3]?=some (.cells [.nilSl,.i deep] 0):=gK;simp[gD,C,V];refine Qt (λρ gL G' N=>∃i st:Nat,gL=[]∧N+i=5∧lk ρ 12=.ptr 4 0∧lk ρ 5=.ptr 0 0∧lk ρ 6=.ptr 1 0∧lk ρ 64=.dy G0.length 0∧lk ρ 65=.i 5∧lk ρ 66=.i i∧6≤G'.length∧G'[4]?=some (.cells (Px 3 gF (pW j 0 i o.d) (pW j 1 i o.e) (pW j 2 i o.a) (pW j 3 i o.b) (pW j 4 i o.c) w) st)∧G'[0]?=G0[0]?∧G'[1]?=G0[1]?∧G'[3]?=G0[3]?∧G'[G0.length]?=some (.dyn [.i o.d,.i o.e,.i o.a,.i o.b,.i o.c] 5 1 0 0)) (N:=5)
  ⟨0,st,rfl,J,As,Af,Ae,by simp,by simp,by simp,Ab,by simpa [pW] using (Ph J).trans q4,Ph J,Ph J,Ph J,Kg⟩ ?_
 clear g gg C F gD e0;rintro N ρ gL U ⟨i,st,rfl,hN,g,C,F,z,A,I,lG,M,X,O,Y,P⟩ Nx D;rw[V]at X;rw[z1]at O;rw[z3]at Y;rw[L]at P z;by_cases jz:i<5
 ·have hi:i=0∨i=1∨i=2∨i=3∨i=4:=J
  rcases hi with rfl|rfl|rfl|rfl|rfl
  ·have ee:=zs qd;simp[Px,pW]at M;by_cases gv:0≤o.d
   ·obtain⟨x,R⟩:=J5 gv;have B:x<E.length:=J
    obtain⟨B,_⟩:=z7q hP B;have tx:=zcj (zm3 B);have Q:=zx2 B;have wx:Ua j o.d=Vn j x:=Cl
    have t1:1<U.length:=J
    have t4:4<U.length:=J
    simp[g,C,F,z,A,I,P,O,M,gv,R,B,tx,Q,Pc.f,↓Ph t1,↓Ph t4];refine D _ _ _ ⟨N-1,J,1,st+1,rfl,J,As,Af,Ae,Cw,Al,by simp,Ab,?_,?_,?_,?_,?_⟩
    ·rw[J3 Ab];simp[Px,pW,wx]
    all_goals try rw[L]
    all_goals rw[Jz Ac,Ph J]
    ·rw[X,V]
    ·rw[O,z1]
    ·rw[Y,z3]
    ·exact P
   ·have Q:Ua j o.d=⟨0,0,0⟩:=J1 gv;simp[g,C,F,z,A,I,P,O,M,gv];exact D _ _ _ ⟨N-1,J,1,st,rfl,J,As,Af,Ae,Cw,Al,by simp,J,Eh,by rw[X,V],Ip,Io,Ff⟩
  ·have ee:=zs qe;simp[Px,pW]at M;by_cases gv:0≤o.e
   ·obtain⟨x,R⟩:=J5 gv;have B:x<E.length:=J
    obtain⟨B,_⟩:=z7q hP B;have tx:=zcj (zm3 B);have Q:=zx2 B;have wx:Ua j o.e=Vn j x:=Cl
    have t1:1<U.length:=J
    have t4:4<U.length:=J
    simp[g,C,F,z,A,I,P,O,M,gv,R,B,tx,Q,Pc.f,↓Ph t1,↓Ph t4];refine D _ _ _ ⟨N-1,J,2,st+1,rfl,J,As,Af,Ae,Cw,Al,by simp,Ab,?_,?_,?_,?_,?_⟩
    ·rw[J3 Ab];simp[Px,pW,wx]
    all_goals try rw[L]
    all_goals rw[Jz Ac,Ph J]
    ·rw[X,V]
    ·rw[O,z1]
    ·rw[Y,z3]
    ·exact P
   ·have Q:Ua j o.e=⟨0,0,0⟩:=J1 gv;simp[g,C,F,z,A,I,P,O,M,gv];exact D _ _ _ ⟨N-1,J,2,st,rfl,J,As,Af,Ae,Cw,Al,by simp,J,Eh,by rw[X,V],Ip,Io,Ff⟩
  ·have ee:=zs qa;simp[Px,pW]at M;by_cases gv:0≤o.a
   ·obtain⟨x,R⟩:=J5 gv;have B:x<E.length:=J
    obtain⟨B,_⟩:=z7q hP B;have tx:=zcj (zm3 B);have Q:=zx2 B;have wx:Ua j o.a=Vn j x:=Cl
    have t1:1<U.length:=J
    have t4:4<U.length:=J
    simp[g,C,F,z,A,I,P,O,M,gv,R,B,tx,Q,Pc.f,↓Ph t1,↓Ph t4];refine D _ _ _ ⟨N-1,J,3,st+1,rfl,J,As,Af,Ae,Cw,Al,by simp,Ab,?_,?_,?_,?_,?_⟩
    ·rw[J3 Ab];simp[Px,pW,wx]
    all_goals try rw[L]
    all_goals rw[Jz Ac,Ph J]
    ·rw[X,V]
    ·rw[O,z1]
    ·rw[Y,z3]
    ·exact P
   ·have Q:Ua j o.a=⟨0,0,0⟩:=J1 gv;simp[g,C,F,z,A,I,P,O,M,gv];exact D _ _ _ ⟨N-1,J,3,st,rfl,J,As,Af,Ae,Cw,Al,by simp,J,Eh,by rw[X,V],Ip,Io,Ff⟩
  ·have ee:=zs qb;simp[Px,pW]at M;by_cases gv:0≤o.b
   ·obtain⟨x,R⟩:=J5 gv;have B:x<E.length:=J
    obtain⟨B,_⟩:=z7q hP B;have tx:=zcj (zm3 B);have Q:=zx2 B;have wx:Ua j o.b=Vn j x:=Cl
    have t1:1<U.length:=J
    have t4:4<U.length:=J
    simp[g,C,F,z,A,I,P,O,M,gv,R,B,tx,Q,Pc.f,↓Ph t1,↓Ph t4];refine D _ _ _ ⟨N-1,J,4,st+1,rfl,J,As,Af,Ae,Cw,Al,by simp,Ab,?_,?_,?_,?_,?_⟩
    ·rw[J3 Ab];simp[Px,pW,wx]
    all_goals try rw[L]
    all_goals rw[Jz Ac,Ph J]
    ·rw[X,V]
    ·rw[O,z1]
    ·rw[Y,z3]
    ·exact P
   ·have Q:Ua j o.b=⟨0,0,0⟩:=J1 gv;simp[g,C,F,z,A,I,P,O,M,gv];exact D _ _ _ ⟨N-1,J,4,st,rfl,J,As,Af,Ae,Cw,Al,by simp,J,Eh,by rw[X,V],Ip,Io,Ff⟩
  ·have ee:=zs qc;simp[Px,pW]at M;by_cases gv:0≤o.c
   ·obtain⟨x,R⟩:=J5 gv;have B:x<E.length:=J
    obtain⟨B,_⟩:=z7q hP B;have tx:=zcj (zm3 B);have Q:=zx2 B;have wx:Ua j o.c=Vn j x:=Cl
    have t1:1<U.length:=J
    have t4:4<U.length:=J
    simp[g,C,F,z,A,I,P,O,M,gv,R,B,tx,Q,Pc.f,↓Ph t1,↓Ph t4];refine D _ _ _ ⟨N-1,J,5,st+1,rfl,J,As,Af,Ae,Cw,Al,by simp,Ab,?_,?_,?_,?_,?_⟩
    ·rw[J3 Ab];simp[Px,pW,wx]
    all_goals try rw[L]
    all_goals rw[Jz Ac,Ph J]
    ·rw[X,V]
    ·rw[O,z1]
    ·rw[Y,z3]
    ·exact P
   ·have Q:Ua j o.c=⟨0,0,0⟩:=J1 gv;simp[g,C,F,z,A,I,P,O,M,gv];exact D _ _ _ ⟨N-1,J,5,st,rfl,J,As,Af,Ae,Cw,Al,by simp,J,Eh,by rw[X,V],Ip,Io,Ff⟩
 have hi:i=5:=J
 subst hi;have q5:U[4]?=some (.cells (Px 3 gF (Ua j o.d) (Ua j o.e) (Ua j o.a) (Ua j o.b) (Ua j o.c) w) st):=by simpa [pW] using M
 simp[g,C,A,I,X];have e5:P5 U 3 [] deep:=⟨0,.nilSl,Y,R5.nil⟩;refine pt (o:=o) hm.1 J (Z (zs qd)) (Z (zs qe)) (Z (zs qa)) (Z (zs qb)) (Z (zs qc)) pw ?_ q5 Ac e5 (by simp) λG6 h6 k6=>?_
 ·intro g6;have gH:s=13:=by
   have:Qm 6=some 13:=rfl;rw[g6,this]at hs;exact (Option.some.inj hs).symm
  subst gH;have ha:=Un qa Ac;have hb:=Un qb Ac;obtain⟨e1,e2,e3⟩:=zm1 hP ha;obtain⟨f1,f2,f3⟩:=zm1 hP hb;have:Qs E o.b=Qs E o.a:=by
   have:=Li.1 gI o.b (by simp[Rj,g6]);simpa [Rj,g6] using this
  omega
 have q6:=k6.cells Ac q5;obtain⟨jg,v',u1,u2⟩:=id h6;simp[g,Px]at q6 ⊢;simp[q6,u1];exact u2.bor
end
section
set_option linter.unusedVariables false
structure ExV (vs:List Vr) (o:Ko):Prop where
 hk:Te o.kind=true
 hv:Tg vs=true
 ho:Qk vs o=true
 hm:∀i,i<vs.length→(gv vs i).mode=0
 h9:∀i,i<vs.length→(gv vs i).limbs≤9
 hn:vs.length≤30
section ev
variable {vs : List Vr} {o : Ko}
def Y7(h:ExV vs o):(1≤o.kind∧o.kind≤11)∨o.kind=14:=by
 have:=h.hk;simpa [Te] using this
def ex_may(h:ExV vs o):V5 vs o=true:=by
 have:=Y7 h;have g:¬o.kind=15:=J
 have j:¬o.kind=16:=J
 rw[xj,h.hv,h.ho];simp[zol,g,j]
structure ExN (n:Nat) (o:Ko):Prop where
 d:0≤o.d∧o.d<n
 e:o.e=-1∨(0≤o.e∧o.e<n)
 a:o.a=-1∨(0≤o.a∧o.a<n)
 b:o.b=-1∨(0≤o.b∧o.b<n)
 c:o.c=-1∨(0≤o.c∧o.c<n)
 ha:2≤o.kind→o.kind≤11→0≤o.a
 hb:3≤o.kind→o.kind≤11→o.kind≠9→0≤o.b
 hc:8≤o.kind→0≤o.c
 he:¬o.kind≤11→0≤o.e
 ne:o.kind≤11→o.e=-1
 nc:¬8≤o.kind→o.c=-1
 nb:o.kind=9→o.b=-1
 na:¬o.kind≤11→o.a=-1∧o.b=-1
def gu(h:ExV vs o):ExN vs.length o:=by
 have hk:=Y7 h;obtain⟨s,F,G,H,I,K,L,M,O,P,D⟩:∃s,Qm o.kind=some s∧s.testBit 0=true∧(2≤o.kind→o.kind≤11→s.testBit 2=true)∧(3≤o.kind→o.kind≤11→o.kind≠9→s.testBit 3=true)∧(8≤o.kind→s.testBit 4=true)∧(¬o.kind≤11→s.testBit 1=true)∧(o.kind≤11→s.testBit 1=false)∧(¬8≤o.kind→s.testBit 4=false)∧(o.kind=9→s.testBit 3=false)∧(¬o.kind≤11→s.testBit 2=false∧s.testBit 3=false):=by
  have Q:o.kind=1∨o.kind=2∨(o.kind=3∨o.kind=4∨o.kind=5∨o.kind=6∨o.kind=7)∨(o.kind=8∨o.kind=10∨o.kind=11)∨o.kind=9∨o.kind=14:=J
  rcases Q with e|e|e|e|e|e
  ·exact⟨1,Bt,Ac,J,J,J,J,λ_=>Ac,λ_=>Ac,λ_=>Ac,J⟩
  ·exact⟨5,Bt,Ac,λ_ _=>Ac,J,J,J,λ_=>Ac,λ_=>Ac,J,J⟩
  ·exact⟨13,by rcases e with e|e|e|e|e<;>simp[Qm,e],Ac,λ_ _=>Ac,λ_ _ _=>Ac,J,J,λ_=>Ac,λ_=>Ac,J,J⟩
  ·exact⟨29,by rcases e with e|e|e<;>simp[Qm,e],Ac,λ_ _=>Ac,λ_ _ _=>Ac,λ_=>Ac,J,λ_=>Ac,J,J,J⟩
  ·exact⟨21,Bt,Ac,λ_ _=>Ac,J,λ_=>Ac,J,λ_=>Ac,J,λ_=>Ac,J⟩
  ·exact⟨19,Bt,Ac,J,J,λ_=>Ac,λ_=>Ac,J,J,J,λ_=>Ac⟩
 obtain⟨E,_,_⟩:=zfa h.ho F;simp only[Vp,J2]at E;obtain⟨R,z,A,j,B⟩:=E;exact⟨Un R G,y9 z,y9 A,y9 j,y9 B,λg C=>(Un A (H g C)).1,λg C T=>(Un j (I g C T)).1,λg=>(Un B (K g)).1,λg=>(Un z (L g)).1,λg=>yq z (M g),λg=>yq B (O g),λg=>yq j (P g),λg=>⟨yq A (D g).1,yq j (D g).2⟩⟩
def ztj(h:ExV vs o):∀v∈Rj o,Qs vs v=Qs vs ((Rj o).headD 0):=by
 have hk:=Y7 h;obtain⟨s,g⟩:∃s,Qm o.kind=some s:=by
  have j:o.kind=1∨o.kind=2∨o.kind=3∨o.kind=4∨o.kind=5∨o.kind=6∨o.kind=7∨o.kind=8∨o.kind=9∨o.kind=10∨o.kind=11∨o.kind=14:=J
  rcases j with e|e|e|e|e|e|e|e|e|e|e|e<;>simp[Qm,e]
 have:=(zfa h.ho g).2.2;unfold oz at this;intro v hv;exact Mn (Li.1 this v hv)
def xw(h:ExV vs o):Ug vs (Qv vs o) o.d=true∧Ug vs (Qv vs o) o.e=true∧(o.e<0∨o.d≠o.e):=by
 have hk:=Y7 h;have ho:=h.ho;unfold Qk at ho;rw[J1 J]at ho;split at ho
 ·cases ho
 ·simp only[J2,Lf,Kb,L9,Lk]at ho;exact⟨ho.2.2.1,ho.2.2.2.1,ho.2.2.2.2.1⟩
def ex_sec(h:ExV vs o):((gv vs o.d.toNat).sec=false→∀v∈Uw o,(gv vs v.toNat).sec=false)∧((gv vs o.d.toNat).sec=true→¬o.kind≤11→(gv vs o.e.toNat).sec=true):=by
 have p:=gu h;obtain⟨j,z,_⟩:=xw h;unfold Ug at j z;simp only[Lf,Kb,L9,Bool.or_eq_false_iff,Bool.and_eq_false_iff,Bool.not_eq_false']at j z;have j:=j.resolve_left Dd;refine⟨λB v hv=>?_,λB hk=>?_⟩
 ·have g:Qv vs o=false:=by
   rcases j.2 with q|q
   ·exact q
   ·rw[B]at q;cases q
  unfold Qv at g;rw[Nk]at g;simpa using g v hv
 ·have z:=z.resolve_left (by have:=p.he hk;omega);rcases z.2 with q|q
  ·unfold Qv at q;rw[Nk]at q;have A:o.kind=14:=by have:=Y7 h;omega
   have:=q o.d (by unfold Uw;rw[J6 A];simp);rw[B]at this;simp at this
  ·exact q
def vI(o:Ko)(v:Int):Nat:=if 0≤v then v.toNat else o.d.toNat
def vP(vs:List Vr)(o:Ko)(v:Int):Pn:=⟨vI o v,0,(gv vs (vI o v)).limbs.toNat⟩
def W7(vs:List Vr)(d:Nat):Nat:=if (gv vs d).sec=true then vs.length+1 else vs.length
def xW(vs:List Vr)(o:Ko):Pn:=⟨W7 vs o.d.toNat,0,(Pt vs o).toNat⟩
def xR(vs:List Vr)(o:Ko):Nat:=if (gv vs o.d.toNat).sec=true then 40 else 16
def ztk(vs:List Vr)(d:Nat):vs.length≤W7 vs d∧W7 vs d<vs.length+2:=by unfold W7;split<;>omega
def zv6{W:Int}{d:Nat}:Ps (Qx vs W) (W7 vs d)=⟨W,2,(gv vs d).sec⟩:=by
 unfold W7;cases g:(gv vs d).sec with
 |true=>rw[J6 rfl,plB_w1]
 |false=>rw[J1 N,plB_w0]
def Xj{v:Int}(h:0≤v):vI o v=v.toNat:=J6 h
def zqv(h:ExV vs o){v:Int}(hv:v=-1∨(0≤v∧v<vs.length)):vI o v<vs.length:=by
 have:=(gu h).d;unfold vI;split<;>omega
def X6(h:ExV vs o){v:Int}(hv:v=-1∨(0≤v∧v<vs.length)):1≤(vP vs o v).k∧(vP vs o v).k≤9∧((vP vs o v).k:Int)=(gv vs (vI o v)).limbs:=by
 have g:=zqv h hv;have j:=zo h.hv g;have z:=h.h9 _ g;show 1≤(gv vs (vI o v)).limbs.toNat∧_;simp only[vP];omega
def ao{v:Int}(h:0≤v):(gv vs (vI o v)).limbs=Qs vs v:=by rw[Xj h];rfl
def ze6(h:ExV vs o):1≤Pt vs o∧Pt vs o≤100∧(o.kind=5→Pt vs o=Qs vs o.a+Qs vs o.b)∧(o.kind=6→Pt vs o=zao (Qs vs o.a))∧(o.kind=9∨o.kind=10∨o.kind=11→Pt vs o=2*(Qs vs o.c+1))∧∀g:Int,(∀i,i<vs.length→(gv vs i).limbs≤g)→Pt vs o≤8*g+16:=by
 have p:=gu h;have hk:=Y7 h;have z:∀v:Int,0≤v→v<vs.length→1≤Qs vs v∧Qs vs v≤9:=λv G H=>⟨(zo h.hv (i:=v.toNat) J).1,h.h9 _ J⟩
 have A:∀(v:Int) (g:Int),(∀i,i<vs.length→(gv vs i).limbs≤g)→0≤v→v<vs.length→Qs vs v≤g:=λv g hb G H=>hb _ J
 have B:∀g:Int,(∀i,i<vs.length→(gv vs i).limbs≤g)→1≤g:=λg hb=>by
  have:=(z o.d p.d.1 p.d.2).1;have:=A o.d g hb p.d.1 p.d.2;omega
 unfold Pt;rw[J6 (by rw[h.hk,ex_may h];rfl)];by_cases C:o.kind=5
 ·have ha:=p.ha J J;have hb:=p.hb J J J;have F:=z o.a ha Dc;have I:=z o.b hb Fy;simp only[C,Lj];refine⟨J,J,λ_=>trivial,λh=>absurd h Ac,λh=>absurd h Ac,λg j=>?_⟩;have:=A o.a g j ha Dc;have:=A o.b g j hb Fy;omega
 rw[J1 C];by_cases D:o.kind=6
 ·have ha:=p.ha J J;have F:=z o.a ha Dc;simp only[D,Lj];refine⟨by unfold zao;omega,by unfold zao;omega,λh=>absurd h Ac,λ_=>trivial,λh=>absurd h Ac,λg j=>?_⟩;have:=A o.a g j ha Dc;unfold zao;omega
 rw[J1 D];by_cases E:o.kind=9∨o.kind=10∨o.kind=11
 ·have hc:=p.hc J;have F:=z o.c hc Dw;rw[J6 E];refine⟨J,J,λh=>absurd h J,λh=>absurd h J,λ_=>rfl,λg j=>?_⟩;have:=A o.c g j hc Dw;omega
 rw[J1 E];exact⟨J,J,λh=>absurd h C,λh=>absurd h D,λh=>absurd h E,λg j=>by have:=B g j;omega⟩
def wh(h:ExV vs o):ExP o.kind (vP vs o o.d) (vP vs o o.e) (vP vs o o.a) (vP vs o o.b) (vP vs o o.c) (xW vs o):=by
 have p:=gu h;have hk:=Y7 h;have g:=ztj h;have hw:=ze6 h;have K:=X6 h (.inr p.d);have L:=X6 h p.e;have M:=X6 h p.a;have O:=X6 h p.b;have P:=X6 h p.c;have Q:((xW vs o).k:Int)=Pt vs o:=by simp only[xW];omega
 have R:=ao (vs:=vs) (o:=o) p.d.1;have T:=ztk vs o.d.toNat;have z:∀{v:Int},v=-1∨(0≤v∧v<vs.length)→(xW vs o).b≠(vP vs o v).b:=λ{v} hv=>by
  have:=zqv h hv;show W7 vs o.d.toNat≠vI o v;omega
 refine⟨J,J,J,J,J,λe=>?_,λe=>?_,λe=>?_,λe=>?_,λe=>?_,λe=>?_,λe=>?_,λe=>?_,J,⟨z (.inr p.d),z p.e,z p.a,z p.b,z p.c⟩,rfl,rfl,rfl,rfl,rfl⟩
 ·have B:=ao (vs:=vs) (o:=o) (p.ha J J);have D:=ao (vs:=vs) (o:=o) (p.hb J J J);have:=g o.b Ib;simp[Rj,e]at this;omega
 ·have B:=ao (vs:=vs) (o:=o) (p.ha J J);have D:=ao (vs:=vs) (o:=o) (p.hb J J J);have j:=g o.a Ib;have E:=g o.b Ib;simp[Rj,e]at j E;omega
 ·have F:=ao (vs:=vs) (o:=o) (p.hc J);have j:=g o.c Ib;simp[Rj,e]at j;omega
 ·have B:=ao (vs:=vs) (o:=o) (p.ha J J);have D:=ao (vs:=vs) (o:=o) (p.hb J J J);have F:=ao (vs:=vs) (o:=o) (p.hc J);have C:Rj o=[o.d,o.a,o.b,o.c]:=by rcases e with e|e<;>simp[Rj,e]
  have j:=g o.a Af;have E:=g o.b Af;have G:=g o.c Af;simp[C]at j E G;omega
 ·have he:=p.he e;have U:=ao (vs:=vs) (o:=o) he;have A:o.kind=14:=J
  have j:=g o.e (by simp[Rj,A]);simp[Rj,A]at j;have H:=(xw h).2.2.resolve_left J;refine⟨J,?_⟩;show vI o o.d≠vI o o.e;rw[Xj p.d.1,Xj he];have:=p.d;omega
 ·have B:=ao (vs:=vs) (o:=o) (p.ha J J);have D:=ao (vs:=vs) (o:=o) (p.hb J J J);have:=hw.2.2.1 e;omega
 ·have B:=ao (vs:=vs) (o:=o) (p.ha J J);have I:=hw.2.2.2.1 e;unfold zao at I;omega
 ·have F:=ao (vs:=vs) (o:=o) (p.hc J);have:=hw.2.2.2.2.1 e;omega
def zrg{q:Pn}{x k:Nat}{y l:Int}(g:y=x)(j:l=k):P2 q.p y l=(Pb q x k).p:=by
 subst g j;exact zxg
def codeZ_T{d e a b c w:Pn}{G F H:Pc}{R D:Nat}(hk:(1≤z∧z≤11)∨z=14)(p:ExP z d e a b c w)(hd:vL=d.p)(he:¬z≤11→uF=e.p)(ha:2≤z→z≤11→G=a.p)(hb:3≤z→z≤11→z≠9→F=b.p)(hc:8≤z→H=c.p) :
  Xh z T vL uF G F H w.p R D=(Zw z T d e a b c w R D).flat:=by
 have j:∀q:Pn,q.p.size=(q.k:Int):=λ_=>rfl
 have O:=p.dk;have P:=p.ak;unfold Zw;rw[flat_z];subst hd;have A:(Uo (P2 d.p 1 (d.p.size-1)) R D)=Uo (Pb d 1 (d.k-1)).p R D:=by rw[zrg (q:=d) (y:=1) (l:=d.p.size-1) (x:=1) (k:=d.k-1) rfl Cu]
 have I:z=1∨z=2∨z=3∨z=4∨z=5∨z=6∨z=7∨z=8∨z=9∨z=10∨z=11∨z=14:=J
 rcases I with rfl|rfl|rfl|rfl|rfl|rfl|rfl|rfl|rfl|rfl|rfl|rfl
 ·simp[Xh,Zm,V0,Ut,A,R4,flat_frL]
 ·rw[ha Ac Ac];simp[Xh,Zm,V0]
 ·rw[ha Ac Ac,hb Ac Ac Ac];simp[Xh,Zm,V0,j]
 ·rw[ha Ac Ac,hb Ac Ac Ac];simp[Xh,Zm,V0,j]
 ·rw[ha Ac Ac,hb Ac Ac Ac];have g:=zrg (q:=w) (y:=0) (l:=a.p.size+b.p.size) (x:=0) (k:=a.k+b.k) rfl (by rw[j,j];omega);simp[Xh,Zm,V0,g,R4]
 ·rw[ha Ac Ac,hb Ac Ac Ac];have g:=hal_T (d:=d) (a:=a) (b:=b) (w:=w) (R:=R) (D:=D) (n:=a.k) rfl;simp[Xh,Zm,V0,j,g]
 ·rw[ha Ac Ac,hb Ac Ac Ac];have g:max a.p.size b.p.size=((max a.k b.k:Nat):Int):=by rw[j,j];omega
  simp only[Xh,Zm,V0,Ut,A,g];simp[R4,flat_frL]
 ·rw[ha Ac Ac,hb Ac Ac Ac,hc Ac];simp[Xh,V0,V6,R4,flat_frL]
 ·rw[ha Ac Ac,hc Ac];have g:=zrg (q:=w) (y:=0) (l:=c.p.size+1) (x:=0) (k:=c.k+1) rfl Cu;have E:=zrg (q:=w) (y:=c.p.size+1) (l:=c.p.size+1) (x:=c.k+1) (k:=c.k+1) Cu Cu;have K:P2 (Pb w 0 (c.k+1)).p 0 c.p.size=(Pb w 0 c.k).p:=by rw[←g];exact zrt (x:=0)
  have L:iU (a.p.size-1)=UInt64.ofNat (a.k-1):=by
   rw[j,(J:((a.k:Int)-1)=((a.k-1:Nat):Int))];apply Le.1;rw[Zr J,Lh];omega
  have M:zy a.p c.p (Pb w 0 (c.k+1)).p (Pb w (c.k+1) (c.k+1)).p (c.p.size+1) R D=Wc a c w R D:=by
   unfold zy Wc rsB dw;rw[L,j c];rfl
  have B:Xh 9 T d.p uF a.p F c.p w.p R D=cK R 0::((Uo (P2 w.p 0 (c.p.size+1)) R D).flat++(Ri D a.p.size (zy a.p c.p (P2 w.p 0 (c.p.size+1)) (P2 w.p (c.p.size+1) (c.p.size+1)) (c.p.size+1) R D)).flat++(Sd d.p (P2 (P2 w.p 0 (c.p.size+1)) 0 c.p.size) R D).flat):=by simp[Xh]
  have C:V0 9 T d e a b c w R D=U5 d a c w R D:=by simp[V0]
  rw[B,C,g,E,K,M];unfold U5;rw[R4,R4,K0];rfl
 ·rw[ha Ac Ac,hb Ac Ac Ac,hc Ac];have g:=zrg (q:=w) (y:=0) (l:=c.p.size+1) (x:=0) (k:=c.k+1) rfl Cu;have E:=zrg (q:=w) (y:=c.p.size+1) (l:=c.p.size+1) (x:=c.k+1) (k:=c.k+1) Cu Cu;have C:V0 10 T d e a b c w R D=Uz d a b c w R D:=by simp[V0]
  have B:Xh 10 T d.p uF a.p b.p c.p w.p R D=cK R 0::((R7 11 (P2 w.p 0 (c.p.size+1)) a.p b.p (c.p.size+1) true R D).flat++(R7 12 (P2 w.p (c.p.size+1) (c.p.size+1)) (P2 w.p 0 (c.p.size+1)) c.p (c.p.size+1) true R D).flat++(Se d.p (P2 w.p 0 (c.p.size+1)) (P2 w.p (c.p.size+1) (c.p.size+1)) ((R:Int)+1) R D).flat):=by simp[Xh]
  rw[B,C,g,E];unfold Uz;rw[R4,R4,K0];rfl
 ·rw[ha Ac Ac,hb Ac Ac Ac,hc Ac];have g:=zrg (q:=w) (y:=0) (l:=c.p.size) (x:=0) (k:=c.k) rfl (j c);have E:=zrg (q:=w) (y:=c.p.size) (l:=c.p.size) (x:=c.k) (k:=c.k) (j c) (j c);have C:V0 11 T d e a b c w R D=U2 d a b c w R D:=by simp[V0]
  have B:Xh 11 T d.p uF a.p b.p c.p w.p R D=cK R 0::((R7 12 (P2 w.p 0 c.p.size) a.p b.p c.p.size true R D).flat++[Ub ((R:Int)+7) ((R:Int)+1)]++(R7 11 (P2 w.p c.p.size c.p.size) (P2 w.p 0 c.p.size) c.p c.p.size true R D).flat++(Se d.p (P2 w.p c.p.size c.p.size) (P2 w.p 0 c.p.size) ((R:Int)+7) R D).flat):=by simp[Xh]
  rw[B,C,g,E];unfold U2;rw[R4,R4,R4,flat_frL,K0,K0];rfl
 ·rw[he Ac,hc Ac];have C:V0 14 T d e a b c w R D=Vm d e c R D:=by simp[V0]
  have B:Xh 14 T d.p e.p G F c.p w.p R D=cK R 0::(P7 ((R:Int)+7) c.p (-1) 0::(Ri D d.p.size (P0 (Tp d.p e.p R D))).flat):=by simp[Xh]
  rw[B,C];unfold Vm;rw[R4,flat_frL];rfl
def pcX{v:Int}(g:0≤v)(hv:v<vs.length)(h:ExV vs o):Ua (Vg vs) v=(vP vs o v).p:=by
 have j:=zo h.hv (i:=v.toNat) J;unfold Ua vP;rw[J6 g,vh J,Xj g];unfold Pn.p;simp only;rw[(J:(((gv vs v.toNat).limbs.toNat:Nat):Int)=(gv vs v.toNat).limbs)];rfl
def bu(h:ExV vs o):U3 vs o.d=!(gv vs o.d.toNat).sec:=by
 have p:=(gu h).d;unfold U3;simp[p]
def Vx(vs:List Vr)(o:Ko)(lo:Int):Cf:=⟨vs.length+2,if (gv vs o.d.toNat).sec=true then 40 else 16,24,lo,7,8,8,λx=>x=W7 vs o.d.toNat∨∃v∈Uw o,x=v.toNat,λx=>x=W7 vs o.d.toNat∨x=o.d.toNat∨(¬o.kind≤11∧x=o.e.toNat)⟩
def cfX_ok:CfOk (Vx vs o 0):=by
 refine⟨?_,Ey,Ey⟩;simp only[Vx];split<;>omega
def ex_L(h:ExV vs o):ExL (Vx vs o z) o.kind (vP vs o o.d) (vP vs o o.e) (vP vs o o.a) (vP vs o o.b) (vP vs o o.c) (xW vs o):=by
 have p:=gu h;have hk:=Y7 h;have D:=ztk vs o.d.toNat;have B:∀v:Int,v∈[o.a,o.b,o.c]→0≤v→v<vs.length→Lb (Vx vs o z) (vP vs o v):=λv hv j g=>by
  refine⟨?_,.inr ⟨v,?_,Xj j⟩⟩
  ·show vI o v<vs.length+2;rw[Xj j];omega
  ·unfold Uw;refine Nq _ (Ol.2 ⟨hv,Ab⟩)
 have A:¬o.kind≤11→∀v:Int,v∈[o.d,o.e]→0≤v→v<vs.length→Lb (Vx vs o z) (vP vs o v):=λE v hv j g=>by
  refine⟨?_,.inr ⟨v,?_,Xj j⟩⟩
  ·show vI o v<vs.length+2;rw[Xj j];omega
  ·unfold Uw;rw[J6 (J:o.kind=14)];exact Ln _ hv
 refine⟨⟨?_,.inr (.inl (Xj p.d.1))⟩,⟨D.2,.inl rfl⟩,⟨D.2,.inl rfl⟩,λg C=>?_,λg C F=>?_,λg=>?_,λg=>A g _ N p.d.1 p.d.2,λg=>?_,λg=>⟨?_,.inr (.inr ⟨g,Xj (p.he g)⟩)⟩⟩
 ·have:=zqv h (.inr p.d);show vI o o.d<vs.length+2;omega
 ·have:=p.ha g C;exact B _ N this Dc
 ·have:=p.hb g C F;exact B _ N this Fy
 ·have:=p.hc g;exact B _ N this Dw
 ·have:=p.he g;exact A g _ N this Gk
 ·have:=zqv h p.e;show vI o o.e<vs.length+2;omega
def lpsL_lenX:∀(n:Nat) (i:Int),(R0 n i).length=n
 |0,_=>rfl
 |n+1,i=>by simp[R0,lpsL_lenX n]
def xT(vs:List Vr)(o:Ko)(deep:Nat):Fr Lo:=Zw o.kind o.imm (vP vs o o.d) (vP vs o o.e) (vP vs o o.a) (vP vs o o.b) (vP vs o o.c) (xW vs o) (xR vs o) deep
def xG(vs:List Vr)(o:Ko)(deep:Nat):Fr Lo:=exG o.kind o.imm (vP vs o o.d) (vP vs o o.e) (vP vs o o.a) (vP vs o o.b) (vP vs o o.c) (xW vs o) (xR vs o) deep
def dz(vs:List Vr)(o:Ko)(e:Nat):(xG vs o e).flat=R0 e 0++((xT vs o e).flat++List.replicate e Vi):=exG_flat
def su{e:Nat}:(xT vs o e).flat.length≤401:=exT_len
def ex_code(h:ExV vs o){deep:Nat}(hd:deep≤4):zz0 vs o (Qx vs (Pt vs o)) (Vg vs) ⟨vs.length,0,Pt vs o⟩ ⟨(vs.length:Int)+1,0,Pt vs o⟩ deep=(xT vs o deep).flat∧zuy vs o (Qx vs (Pt vs o)) (Vg vs) ⟨vs.length,0,Pt vs o⟩ ⟨(vs.length:Int)+1,0,Pt vs o⟩ deep=0:=by
 have p:=gu h;have hk:=Y7 h;have hw:=ze6 h;have z:me vs o (Qx vs (Pt vs o)) (Vg vs) ⟨vs.length,0,Pt vs o⟩ ⟨(vs.length:Int)+1,0,Pt vs o⟩ deep (Pt vs o)=true:=by
  unfold me;rw[zwq h.hv h.hm h.hn ⟨J,J⟩];have B:(Z3 vs o ⟨vs.length,0,Pt vs o⟩ ⟨(vs.length:Int)+1,0,Pt vs o⟩).size=Pt vs o:=by unfold Z3;split<;>rfl
  rw[B];simp;omega
 unfold zz0 zuy;rw[J6 z,J6 z];refine⟨?_,rfl⟩;have C:zkt vs o=((xR vs o:Nat):Int):=by
  unfold zkt xR;rw[bu h];cases (gv vs o.d.toNat).sec<;>simp
 have D:Z3 vs o ⟨vs.length,0,Pt vs o⟩ ⟨(vs.length:Int)+1,0,Pt vs o⟩=(xW vs o).p:=by
  unfold Z3 xW W7 Pn.p;rw[bu h];have:(((Pt vs o).toNat:Nat):Int)=Pt vs o:=J
  cases (gv vs o.d.toNat).sec<;>simp[this]
 rw[D,C];exact codeZ_T hk (wh h) (pcX p.d.1 p.d.2 h) (λg=>pcX (p.he g) Ep h) (λg j=>pcX (p.ha g j) (by have:=p.ha g j;have:=p.a;omega) h) (λg j A=>pcX (p.hb g j A) (by have:=p.hb g j A;have:=p.b;omega) h) (λg=>pcX (p.hc g) (by have:=p.hc g;have:=p.c;omega) h)
def xR_bd:16≤xR vs o∧xR vs o≤40:=by unfold xR;split<;>omega
def xR_cf:(Vx vs o z).R≤(xR vs o:Int)∧(xR vs o:Int)+11≤(Vx vs o z).R+(Vx vs o z).w:=by
 simp only[Vx];unfold xR;split<;>omega
def xT_all(h:ExV vs o){lo:Int}{e:Nat}(g:lo≤(e:Int))(he:e≤4):(xT vs o e).AllH (Vx vs o lo) e:=by
 have hk:=Y7 h;exact zty J (wh h) (ex_L h) ⟨xR_cf,Ey,⟨g,Hq⟩,Ey⟩ Hq
def uf(h:ExV vs o){e:Nat}(he:e≤4):(xG vs o e).AllH (Vx vs o 0) 0:=by
 have hk:=Y7 h;exact ue J (wh h) (ex_L h) xR_cf Ey rfl Hq Ey
def zx9(h:ExV vs o){v:Int}(hv:v=-1∨(0≤v∧v<vs.length)){W:Int}:Bp (Qx vs W) (vP vs o v)∧Bw (Qx vs W) (vP vs o v):=bq_bp h.hv (zqv h hv) (X6 h hv).2.2
def xW_bp(h:ExV vs o):Bp (Qx vs (Pt vs o)) (xW vs o)∧Bw (Qx vs (Pt vs o)) (xW vs o):=by
 have hw:=ze6 h;have g:=(ztk vs o.d.toNat).2;refine⟨⟨by rw[plB_len];exact g,?_,?_⟩,?_⟩
 ·show (((0+(Pt vs o).toNat:Nat)):Int)≤(Ps _ (W7 vs o.d.toNat)).size;rw[zv6];simp only;omega
 ·show (Ps _ (W7 vs o.d.toNat)).size≤_;rw[zv6];simp only;omega
 ·show (Ps _ (W7 vs o.d.toNat)).kind≠1;rw[zv6];simp
def ex_G(h:ExV vs o):ExG (Qx vs (Pt vs o)) o.kind (vP vs o o.d) (vP vs o o.e) (vP vs o o.a) (vP vs o o.b) (vP vs o o.c) (xW vs o):=by
 have p:=gu h;exact⟨zx9 h (.inr p.d),⟨(zx9 h p.e).1,λ_=>(zx9 h p.e).2⟩,(zx9 h p.a).1,(zx9 h p.b).1,(zx9 h p.c).1,xW_bp h⟩
def q9(h:ExV vs o){e:Nat}(he:e≤4):(Tf ((64:Nat):Int) (Qx vs (Pt vs o)) (xG vs o e).flat).2=0:=by
 have hk:=Y7 h;have hw:=ze6 h;have hn:=h.hn;have A:=xR_bd (vs:=vs) (o:=o);have j:Gd (Qx vs (Pt vs o)) [] [] (xG vs o e) []:=exG_gd J (wh h) (ex_G h) J J;have g:(xG vs o e).flat.length≤65536:=by
  rw[dz];have B:=su (vs:=vs) (o:=o) (e:=e);have z:(R0 e 0).length=e:=lpsL_lenX e 0;simp[z];omega
 have:=chkR_Gd (bs:=Qx vs (Pt vs o)) (f:=xG vs o e) (S':=[]) (by rw[plB_len];omega) g (zs3 h.hv ⟨J,J⟩) j;rw[show (((64:Nat):Int))=64 from rfl,this]
def two_W{k:Nat}{l:Int}(h:(k:Int)=l):Ul l=18446744073709551616^k:=by
 unfold Ul;rw[(J:l.toNat=k),Nat.pow_mul]
def ae{X:List (List UInt64)}{n:Nat}(g:n≤X.length){v:Int}(j:0≤v)(z:v<n):gN ((X.take n).map val) v=val (X.getD v.toNat []):=by
 unfold gN;rw[J1 J,J0,Lv,Lu J,J0,J7 J];rfl
def raw_eq{o:Ko}{v:List Nat}{W:Nat}(hk:1≤o.kind∧o.kind≤11)(z:W=Ul (Qs vs o.d))(ha:2≤o.kind→gN v o.a=g)(hb:3≤o.kind→o.kind≠9→gN v o.b=j)(hc:8≤o.kind→gN v o.c=A)(hm:o.kind=10∨o.kind=11→g<A∧j<A):Qz vs o v=Us o.kind o.imm.toNat W g j A:=by
 have B:o.kind=1∨o.kind=2∨o.kind=3∨o.kind=4∨o.kind=5∨o.kind=6∨o.kind=7∨o.kind=8∨o.kind=9∨o.kind=10∨o.kind=11:=J
 rcases B with e|e|e|e|e|e|e|e|e|e|e
 ·simp[Qz,Us,e]
 ·simp[Qz,Us,e,ha J]
 ·simp[Qz,Us,e,ha J,hb J J]
 ·simp[Qz,Us,e,ha J,hb J J,z]
 ·simp[Qz,Us,e,ha J,hb J J]
 ·simp[Qz,Us,e,ha J,hb J J]
 ·simp[Qz,Us,e,ha J,hb J J]
 ·simp[Qz,Us,e,ha J,hb J J,hc J]
 ·simp[Qz,Us,e,ha J,hc J]
 ·simp[Qz,Us,e,ha J,hb J J,hc J]
 ·obtain⟨C,D⟩:=hm (.inr e);simp[Qz,Us,e,ha J,hb J J,hc J,Z6,Ke C,Ke D];rw[(J:g+A-j=g+(A-j))]
def exp_all{deep:Nat}(h:ExV vs o)(hd:deep≤4){X:List (List UInt64)}(A:og (Qx vs (Pt vs o)) X) :
  ∃(j:Ms),j.bufs.length=vs.length+2∧j.l.length≤800000000∧(∀i:Nat,i<vs.length+2→(i:Int)≠o.d→(i:Int)≠o.e→i≠W7 vs o.d.toNat→j.bufs.getD i []=X.getD i []) ∧
   (∀i,i<vs.length+2→(j.bufs.getD i []).length=(X.getD i []).length) ∧
   (o.kind≤11→Ue o ((X.take vs.length).map val)=true→val (j.bufs.getD o.d.toNat [])=opV vs o ((X.take vs.length).map val)) ∧
   (¬o.kind≤11→val (j.bufs.getD o.d.toNat [])=(if val (X.getD o.c.toNat [])%2=1 then val (X.getD o.e.toNat []) else val (X.getD o.d.toNat []))∧val (j.bufs.getD o.e.toNat [])=(if val (X.getD o.c.toNat [])%2=1 then val (X.getD o.d.toNat []) else val (X.getD o.e.toNat []))) ∧
   Rk 19 [.agg (Pm ((64:Nat):Int) (Qx vs (Pt vs o)) (xG vs o deep).flat),LN X] (.tup [LN j.bufs,.lst (Xt j.l) j.l.length 2,.i 0]) ∧
   ∀gg:List (List UInt64),og (Qx vs (Pt vs o)) gg→∃C:Ms,C.bufs.length=vs.length+2∧j.l=C.l∧Rk 19 [.agg (Pm ((64:Nat):Int) (Qx vs (Pt vs o)) (xG vs o deep).flat),LN gg] (.tup [LN C.bufs,.lst (Xt C.l) C.l.length 2,.i 0]):=by
 have p:=gu h;have hk:=Y7 h;have z:(Qx vs (Pt vs o)).length=vs.length+2:=plB_len;have hR:=xR_bd (vs:=vs) (o:=o);have U:=ex_G h;have V:=wh h;have hi:∀q:Pn,Bp (Qx vs (Pt vs o)) q→q.in_ (lf (Sc 64 (Qx vs (Pt vs o)) X)):=λq Y=>nr (A.2 _ Y.b) Y
 have Z:∀i,i<vs.length→((X.getD i []).length:Int)=(gv vs i).limbs:=λi hi=>by
  have:=A.2 i J;rw[ce hi]at this;exact this
 have G:∀v:Int,v=-1∨(0≤v∧v<vs.length)→vl (pl (X9 (Sc 64 (Qx vs (Pt vs o)) X)).m (vP vs o v)) (vP vs o v).k=val (X.getD (vI o v) []):=λv hv=>by
  have F:=zqv h hv;have hx:=Z _ F;have hk:=(X6 h hv).2.2;exact ym (p:=vP vs o v) (A.2 _ (by show vI o v<_;omega)) (by show vI o v<_;omega) rfl (by show (X.getD (vI o v) []).length=_;omega)
 have va:=G o.a p.a;have vb:=G o.b p.b;have vc:=G o.c p.c;have vd:=G o.d (.inr p.d);have ve:=G o.e p.e;have O:=cj (sz:=lf (Sc 64 (Qx vs (Pt vs o)) X)) deep 0 (xT vs o deep) (X9 (Sc 64 (Qx vs (Pt vs o)) X)) λs hs=>by
  have:=exT_ex (sz:=lf (Sc 64 (Qx vs (Pt vs o)) X)) (s:=s) (imm:=o.imm) (R:=xR vs o) (D:=deep) J V J J (hi _ U.d.1) (hi _ U.e.1) (hi _ U.a) (hi _ U.b) (hi _ U.c) (hi _ U.w.1);rw[hs,va,vb,vc,vd,ve]at this;exact this
 obtain⟨j,t,r1,r2,r3,r4,r6,r7,r8⟩:=th (X:=X) (f:=xG vs o deep) cfX_ok (by rw[z];rfl) (uf h hd) (q9 h hd) (exG_stp V J) (zup A) J O;rw[z]at r4;have H:∀i,i<vs.length+2→(j.bufs.getD i []).length=(X.getD i []).length:=λi hi=>by
  rw[r1.len i J,zms (A.2 i J) J];have:=A.2 i J;omega
 have B:∀v:Int,0≤v∧v<vs.length→vl (pl t.m (vP vs o v)) (vP vs o v).k=val (j.bufs.getD v.toNat []):=λv hv=>by
  have F:=zqv h (.inr hv);have hk:=(X6 h (.inr hv)).2.2;have hx:=Z _ F;have e:=(row_end A r1 (i:=vI o v) (k:=(vP vs o v).k) J (by rw[ce F];exact hk)).2.1;rw[Xj hv.1]at e;rw[e];show vl (pl t.m ⟨vI o v,0,_⟩) _=_;rw[Xj hv.1];rfl
 have od:=B o.d p.d;have ad:=Xj (o:=o) p.d.1;obtain⟨I,K⟩:=r2;rw[od]at I K;refine⟨j,r4,r6,λi hi gD gF P=>?_,H,λg hm=>?_,λg=>?_,r7,λgg hY=>?_⟩
 ·rw[r3 i (λq=>?_),zi1 (A.2 i J) J];rcases q with q|q|⟨q1,q⟩
  ·exact P q
  ·have:=p.d;omega
  ·have:=p.he q1;omega
 ·have E:vs.length≤X.length:=by rw[A.1,z];omega
  have gA:2≤o.kind→gN ((X.take vs.length).map val) o.a=val (X.getD (vI o o.a) []):=λL=>by
   have:=p.ha L g;rw[Xj this];exact ae E this Dc
  have gB:3≤o.kind→o.kind≠9→gN ((X.take vs.length).map val) o.b=val (X.getD (vI o o.b) []):=λL h3=>by
   have:=p.hb L g h3;rw[Xj this];exact ae E this Fy
  have Q:8≤o.kind→gN ((X.take vs.length).map val) o.c=val (X.getD (vI o o.c) []):=λL=>by
   have:=p.hc L;rw[Xj this];exact ae E this Dw
  have m9:o.kind=9→0<val (X.getD (vI o o.c) []):=λe=>by
   rw[←Q J];unfold Ue Xm at hm;simp[e,Yq]at hm;have:=hm.2;rw[←Nt]at this;omega
  have M:o.kind=10∨o.kind=11→val (X.getD (vI o o.a) [])<val (X.getD (vI o o.c) [])∧val (X.getD (vI o o.b) [])<val (X.getD (vI o o.c) []):=λe=>by
   rw[←Q J,←gA J,←gB J J];have F:Xm o=[(2,o.a,o.c),(2,o.b,o.c)]:=by
    unfold Xm;rw[J1 J,J6 e]
   unfold Ue at hm;rw[F]at hm;simp[Yq]at hm;simp only[Nt];exact⟨hm.1.2.2,hm.2.2.2⟩
  rw[I g m9 M];have T:Ul (Qs vs o.d)=18446744073709551616^(vP vs o o.d).k:=two_W (by rw[(X6 h (.inr p.d)).2.2,ao p.d.1]);unfold opV;rw[raw_eq (vs:=vs) ⟨J,g⟩ T.symm gA gB Q M,T]
 ·have:=K g;have he:=p.he g;rw[B o.e ⟨he,Gk⟩,Xj he,Xj (p.hc J),Xj p.d.1]at this;exact this
 ·obtain⟨C,T,e2,e3⟩:=r8 gg (zup hY) λi hi=>by have:=A.2 i hi;have:=hY.2 i hi;omega
  exact⟨C,J,e2,e3⟩
def zrb(h:ExV vs o){deep:Nat}(hd:deep≤4) :
  Rk 17 [.agg (Pm ((64:Nat):Int) (Qx vs (Pt vs o)) (xG vs o deep).flat)] (.tup [.i (xG vs o deep).flat.length,.i 0]):=by
 have p:=gu h;have hk:=Y7 h;have j:=q9 h hd;have g:=allH_flat (uf h hd);have hw:=zv6 (vs:=vs) (W:=Pt vs o) (d:=o.d.toNat);obtain⟨C,D⟩:=ex_sec h;cases A:(gv vs o.d.toNat).sec with
 |true =>
  have E:∀n,(Vx vs o 0).S n→(Ps (Qx vs (Pt vs o)) n).sec=true:=λn hn=>by
   rcases hn with rfl|rfl|⟨q,rfl⟩
   ·rw[hw];exact A
   ·rw[ce Dd];exact A
   ·have:=p.he q;rw[ce Gk];exact D A q
  exact zdk j (λx z=>(g x z).closedS cfX_ok ((z7r j).2.2.2.2.2 x z)) (λx z=>(g x z).safeS cfX_ok E)
 |false =>
  have F:∀n,(Vx vs o 0).L n→(Ps (Qx vs (Pt vs o)) n).sec=false:=λn hn=>by
   rcases hn with rfl|⟨v,hv,rfl⟩
   ·rw[hw];exact A
   ·have G:0≤v∧v<vs.length:=by
     unfold Uw at hv;rcases Kx.1 hv with hv|hv
     ·obtain⟨B,H⟩:=Ol.1 hv;simp at B H;have I:=p.a;have K:=p.b;have L:=p.c;rcases B with rfl|rfl|rfl<;>omega
     ·split at hv
      ·have:=p.he J;have M:=p.d;have O:=p.e;simp at hv;rcases hv with rfl|rfl<;>omega
      ·cases hv
    rw[ce J];exact C A v hv
  exact zdk j (λx z=>(g x z).closedP F) (λx _=>safeP)
end ev
end
section
set_option linter.unusedVariables false
def zex:LC:=(.q [.e 2] (.q [.m 4 0,.b 5 .add 3 4 1,.z 6 (.mkSl 1 [(.u 0)] (.t 5) (.t 5)),.m 3 6] (.q [.m 7 3,.m 8 0,.I 9 1 7 8,.v (.store 1 (.t 9) (.c (.u 1)))] (.q [.m 10 3,.m 2 10] .ret))))
def r_ref20_radix:Pk Tryz.prog 124=some ⟨11,zex.r,[.tmp 2]⟩:=Aa
def zek:LC:=(.q [.x 4 1,.e 6,.e 7,.F 8] (.q [.m 13 0,.s 14 13,.z 15 (.mkSl 1 [.nilSl] (.t 14) (.t 14)),.m 9 15] (.seq (.q [.K 10 0] (.block 0 (.loop (.seq (.q [.m 16 10,.m 17 0,.s 18 17,.c 19 .lss 3 16 18] (.cond (.t 19) .skip (.exit 0))) (.seq (.block 1 (.ops [.m 22 9,.m 23 10,.m 24 2,.m 25 10,.I 26 1 24 25,.l 27 26,.I 28 1 22 23,.S 1 28 27])) (.ops [.m 20 10,.b 21 .add 3 20 1,.m 10 21])))))) (.q [.L 29 7 4,.w 30 73 29,.m 11 30] (.seq (.q [.K 12 0] (.block 2 (.loop (.seq (.q [.m 31 12,.m 32 11,.s 33 32,.c 34 .lss 3 31 33] (.cond (.t 34) .skip (.exit 2))) (.seq (.block 3 (.q [.m 37 11,.m 38 12,.I 39 3 37 38,.L 40 3 39,.m 41 9,.W 42 74 40 41,.z 43 (.un .not (.t 42))] (.cond (.t 43) (.q [.e 6,.e 7,.F 8] .ret) .skip))) (.ops [.m 35 12,.b 36 .add 3 35 1,.m 12 36])))))) (.seq (.q [.f 44 0 4,.l 45 44,.b 46 .eql 3 45 14] (.cond (.t 46) (.seq (.q [.m 47 9,.f 48 5 4,.l 49 48,.I 50 1 47 49,.l 51 50,.z 52 (.w 75 [.t 51,.k 0])] (.cond (.t 52) (.seq (.draw [(.m 53 9,[]),(.f 54 2 4,[]),(.l 55 54,[]),(.I 56 1 53 55,[]),(.l 57 56,[]),(.m 58 9,[]),(.f 59 1 4,[]),(.l 60 59,[]),(.I 61 1 58 60,[]),(.l 62 61,[]),(.m 6 57,[]),(.m 7 62,[]),(.z 8 (.move .T),[])]) .ret) .skip)) (.seq (.draw [(.m 63 9,[]),(.f 64 1 4,[]),(.l 65 64,[]),(.I 66 1 63 65,[]),(.l 67 66,[]),(.m 68 9,[]),(.f 69 2 4,[]),(.l 70 69,[]),(.I 71 1 68 70,[]),(.l 72 71,[]),(.m 6 67,[]),(.m 7 72,[]),(.z 8 (.move .T),[])]) .ret)) .skip)) (.q [.m 73 0,.z 74 (.build [.nilSl,.nilSl,.nilSl] [(0,1,.t 73)]),.L 75 7 4,.m 76 9,.V 77 76 74 75 76,.m 6 77,.e 7,.z 8 (.move .T)] .ret)))))))
def r_law22_meant:Pk Tryz.prog 38=some ⟨78,zek.r,[.tmp 6,.tmp 7,.tmp 8]⟩:=Aa
def jh(k:Nat)(hk:k≤512):Pl 124 [.i k] (.dy 0 0) [RU (List.replicate k 0++[1])]:=by
 refine P4.row (Pj r_ref20_radix Aa N ?_);have j:((k:Int)+1).toNat=k+1:=J
 have g:=w8 (List.replicate (k+1) 0) k 1 N;have e:(List.replicate (k+1) (0:UInt64)).set k 1=List.replicate k 0++[1]:=by
  rw[List.replicate_succ'];simp[List.set_append]
 rw[e]at g;have z:Rl [LV.u 0] (k+1)=(List.replicate (k+1) (0:UInt64)).map .u:=repU _;simp only[List.map_replicate]at g z;simp[zex,j,z,g];refine⟨J,J,J,J,?_⟩;exact .inr ⟨0,0,1,rfl,N⟩
def jy{o:Ko}(h:ExV vQ o)(gH:o.kind≤11)(hV:uL.length=vQ.length)(hl:∀x∈uL,x.length≤1000)(hm:Ue o (uL.map val)=true) :
  Pl 76 [.agg [.lst (Py vQ) vQ.length 3,.lst [] 0 7,.lst [] 0 7],.agg o.f,LN uL] (.dy 0 0) [RU (P1 (opV vQ o (uL.map val)))]:=by
 have p:=gu h;have hk:=Y7 h;have hh:o.kind=1∨o.kind=2∨o.kind=3∨o.kind=4∨(o.kind=5∨o.kind=6)∨o.kind=7∨o.kind=8∨o.kind=9∨o.kind=10∨o.kind=11:=J
 obtain⟨dn,hd⟩:=J5 p.d.1;have D:dn<vQ.length:=Dd
 have Y:(Py vQ)[dn*3]?=some (.i (Qs vQ o.d)):=by
  have:=zl (Vf D);rw[this,Qs,hd];rfl
 have l1:1≤Qs vQ o.d∧Qs vQ o.d≤9:=by
  have h1:=zo h.hv D;have h2:=h.h9 _ D;rw[Qs,hd];exact⟨h1.1,h2⟩
 have G:=λs (hs:Qm o.kind=some s)=>(zfa (s:=s) h.ho hs).1
 have C:∀s,Vp vQ.length s o=true→(s.testBit 2=false→o.a=-1)∧(s.testBit 3=false→o.b=-1)∧(s.testBit 4=false→o.c=-1):=λs h=>by
  simp only[Vp,J2]at h;exact⟨yq h.2.2.1,yq h.2.2.2.1,yq h.2.2.2.2⟩
 have g:∀x:Int,0≤x∧x<vQ.length→∃(n:Nat) (hn:n<uL.length) (H:List UInt64),x=n∧uL[n]=H∧(uL.map LU)[n]?=some (LU H)∧H.length≤1000∧gN (uL.map val) x=val H:=λx h=>by
  obtain⟨n,rfl⟩:=J5 h.1;have hn:n<uL.length:=J
  refine⟨n,hn,uL[n],rfl,rfl,by simp[hn],hl _ (Mm hn),?_⟩;unfold gN;rw[J1 J,Kr,J0,Lv,J7 hn];rfl
 have tl:∀{H:List UInt64},H.length≤1000→(P1 (val H)).length≤1000:=λ{H} h=>by have:=Y1 (k:=H.length) (val_lt H);omega
 refine P4.row (Pj r_ref20_Value Aa N ?_);unfold opV;have cz:o.kind=9∨o.kind=10∨o.kind=11∨o.kind=12∨o.kind=13→gN (uL.map val) o.c≠0:=λh=>met_c hm h
 rcases hh with e|e|e|e|e|e|e|e|e|e
 ·have A:=G 1 Bt;have I:=(C _ A).1 Ac;have K:=(C _ A).2.1 Ac;have L:=(C _ A).2.2 Ac;have j:Qz vQ o (uL.map val)=o.imm.toNat:=Cy
  rw[j];generalize Qs vQ o.d=M at *;simp[ud,Ko.f,LN,e,I,K,L,hd,D,Pe Y];refine X7 (bh [o.imm] M N) N ?_;simp[RU,zcf];exact .inr ⟨_,0,0,rfl,N⟩
 ·have A:=G 5 Bt;obtain⟨na,B,H,I,O,P,hA,Q⟩:=g _ (pu A Ac);have K:=(C _ A).2.1 Ac;have L:=(C _ A).2.2 Ac;have j:Qz vQ o (uL.map val)=gN (uL.map val) o.a:=Cy
  rw[j,Q];generalize Qs vQ o.d=M at *;simp[ud,Ko.f,LN,e,I,B,Pe P,O,K,L,hd,D,Pe Y];refine X7 (bh H M J) N ?_;simp[RU];exact .inr ⟨_,0,0,rfl,N⟩
 ·have A:=G 13 Bt;obtain⟨na,B,H,I,O,P,hA,Q⟩:=g _ (pu A Ac);obtain⟨nb,E,X,K,T,U,hB,V⟩:=g _ (zbf A Ac);have L:=(C _ A).2.2 Ac;have j:Qz vQ o (uL.map val)=gN (uL.map val) o.a+gN (uL.map val) o.b:=Cy
  rw[j,Q,V];generalize Qs vQ o.d=M at *;simp[ud,Ko.f,LN,e,I,B,Pe P,O,K,E,Pe U,T,L,hd,D,Pe Y];refine Pr (z4t H X J J) N ?_;simp[RU];have F:=dt (tl hA) (tl hB);refine X7 (bh (P1 (val H+val X)) M J) N ?_;simp[RU,Uv];exact .inr ⟨_,0,0,rfl,N⟩
 ·have A:=G 13 Bt;obtain⟨na,B,H,I,O,P,hA,Q⟩:=g _ (pu A Ac);obtain⟨nb,E,X,K,T,U,hB,V⟩:=g _ (zbf A Ac);have L:=(C _ A).2.2 Ac;have j:Qz vQ o (uL.map val)=gN (uL.map val) o.a%Ul (Qs vQ o.d)+Ul (Qs vQ o.d)-gN (uL.map val) o.b%Ul (Qs vQ o.d):=Cy
  rw[j,Q,V];obtain⟨z,gG⟩:=J5 (J:0≤Qs vQ o.d);rw[gG]at Y l1 ⊢;simp[ud,Ko.f,LN,e,I,B,Pe P,O,K,E,Pe U,T,L,hd,D,Pe Y];have h1:=eh (k:=512) (val H) (z:Int) J;have h2:=eh (k:=512) (val X) (z:Int) J;have hw:val (List.replicate z 0++[1])=Ul (z:Int):=by rw[jr];simp[Ul]
  have gg:¬val H%Ul (z:Int)+Ul (z:Int)<val X%Ul (z:Int):=by
   have:=L8 (val X) (zjl (z:Int));omega
  have h3:=dt (k:=513) (sk (J8 _) (K8 h1 J)) (top_len (k:=512) (z:Int) J);have h5:=sk (Nat.sub_le _ (val X%Ul (z:Int))) h3;refine Pr (bh H z J) N ?_;simp[RU,Uv];refine Pr (jh z J) N ?_;simp[RU,Uv];refine Pr (z4t (P1 (val H%Ul (z:Int))) (List.replicate z 0++[1]) J Ab) N ?_;simp[RU,Uv,hw];refine Pr (bh X z J) N ?_;simp[RU,Uv];refine Pr (z8q (P1 (val H%Ul (z:Int)+Ul (z:Int))) (P1 (val X%Ul (z:Int))) J J) N ?_;simp[RU,Uv,gg];refine X7 (bh (P1 (val H%Ul (z:Int)+Ul (z:Int)-val X%Ul (z:Int))) z J) N ?_;simp[RU,Uv];exact .inr ⟨_,0,0,rfl,N⟩
 ·have A:=G 13 (by rcases e with e|e<;>simp[Qm,e]);obtain⟨na,B,H,I,O,P,hA,Q⟩:=g _ (pu A Ac);obtain⟨nb,E,X,K,T,U,hB,V⟩:=g _ (zbf A Ac);have L:=(C _ A).2.2 Ac;have j:Qz vQ o (uL.map val)=gN (uL.map val) o.a*gN (uL.map val) o.b:=by rcases e with e|e<;>simp[Qz,e]
  rw[j,Q,V];generalize Qs vQ o.d=M at *;rcases e with e|e
  all_goals
   simp[ud,Ko.f,LN,e,I,B,Pe P,O,K,E,Pe U,T,L,hd,D,Pe Y];refine Pr (zod H X J J) N ?_;simp[RU];have F:=mul_len hA hB;refine X7 (bh (P1 (val H*val X)) M J) N ?_;simp[RU,Uv];exact .inr ⟨_,0,0,rfl,N⟩
 ·have A:=G 13 Bt;obtain⟨na,B,H,I,O,P,hA,Q⟩:=g _ (pu A Ac);obtain⟨nb,E,X,K,T,U,hB,V⟩:=g _ (zbf A Ac);have L:=(C _ A).2.2 Ac;have j:Qz vQ o (uL.map val)=if gN (uL.map val) o.a<gN (uL.map val) o.b then 1 else 0:=Cy
  rw[j,Q,V];generalize Qs vQ o.d=M at *;simp[ud,Ko.f,LN,e,I,B,Pe P,O,K,E,Pe U,T,L,hd,D,Pe Y];refine Pr (z1m H X J J) N ?_;by_cases gg:val H<val X
  ·simp[zfr,gg];refine X7 (bh [1] M N) N ?_;simp[RU,zcf];exact .inr ⟨_,0,0,rfl,N⟩
  ·simp[zfr,gg];refine X7 (bh [] M N) ⟨_,_,rfl,.inr ⟨1,rfl⟩,bors_self _ rfl⟩ ?_;simp[RU,val];exact .inr ⟨_,0,0,rfl,N⟩
 ·have A:=G 29 Bt;obtain⟨na,B,H,I,O,P,hA,Q⟩:=g _ (pu A Ac);obtain⟨nb,E,X,K,T,U,hB,V⟩:=g _ (zbf A Ac);obtain⟨nc,R,gD,L,xc,qc,hC,vC⟩:=g _ (ze0 A Ac);have j:Qz vQ o (uL.map val)=if gN (uL.map val) o.c%2=1 then gN (uL.map val) o.a else gN (uL.map val) o.b:=Cy
  rw[j,vC,Q,V];generalize Qs vQ o.d=M at *;simp[ud,Ko.f,LN,e,I,B,Pe P,O,K,E,Pe U,T,L,R,Pe qc,xc,hd,D,Pe Y];refine Pr (z8d gD 0 J) N ?_;by_cases gF:val gD%2=1
  ·simp[Oc,gF];refine X7 (bh H M J) N ?_;simp[RU];exact .inr ⟨_,0,0,rfl,N⟩
  ·simp[Oc,gF];refine X7 (bh X M J) N ?_;simp[RU];exact .inr ⟨_,0,0,rfl,N⟩
 ·have A:=G 21 Bt;obtain⟨na,B,H,I,O,P,hA,Q⟩:=g _ (pu A Ac);have K:=(C _ A).2.1 Ac;obtain⟨nc,R,gD,L,xc,qc,hC,vC⟩:=g _ (ze0 A Ac);have j:Qz vQ o (uL.map val)=gN (uL.map val) o.a%gN (uL.map val) o.c:=Cy
  have Z:=cz J;rw[vC]at Z;have F:∀x:Nat,(P1 (x%val gD)).length≤1000:=λx=>zzk (L8 x (Ou Z)) (tl hC)
  rw[j,Q,vC];generalize Qs vQ o.d=M at *;simp[ud,Ko.f,LN,e,I,B,Pe P,O,K,L,R,Pe qc,xc,hd,D,Pe Y];refine Pr (zbe H gD J J) N ?_;simp[RU,Z];refine X7 (bh (P1 (val H%val gD)) M (by have:=F (val H);omega)) N ?_;simp[RU,Uv];exact .inr ⟨_,0,0,rfl,N⟩
 ·have A:=G 29 Bt;obtain⟨na,B,H,I,O,P,hA,Q⟩:=g _ (pu A Ac);obtain⟨nb,E,X,K,T,U,hB,V⟩:=g _ (zbf A Ac);obtain⟨nc,R,gD,L,xc,qc,hC,vC⟩:=g _ (ze0 A Ac);have j:Qz vQ o (uL.map val)=(gN (uL.map val) o.a+gN (uL.map val) o.b)%gN (uL.map val) o.c:=Cy
  have Z:=cz J;rw[vC]at Z;have F:∀x:Nat,(P1 (x%val gD)).length≤1000:=λx=>zzk (L8 x (Ou Z)) (tl hC)
  rw[j,Q,V,vC];generalize Qs vQ o.d=M at *;simp[ud,Ko.f,LN,e,I,B,Pe P,O,K,E,Pe U,T,L,R,Pe qc,xc,hd,D,Pe Y];refine Pr (zoi H X gD J J J) N ?_;simp[RU,tf Z];refine X7 (bh (P1 ((val H+val X)%val gD)) M (by have:=F (val H+val X);omega)) N ?_;simp[RU,Uv];exact .inr ⟨_,0,0,rfl,N⟩
 ·have A:=G 29 Bt;obtain⟨na,B,H,I,O,P,hA,Q⟩:=g _ (pu A Ac);obtain⟨nb,E,X,K,T,U,hB,V⟩:=g _ (zbf A Ac);obtain⟨nc,R,gD,L,xc,qc,hC,vC⟩:=g _ (ze0 A Ac);have j:Qz vQ o (uL.map val)=Z6 (gN (uL.map val) o.a) (gN (uL.map val) o.b) (gN (uL.map val) o.c):=Cy
  have Z:=cz J;rw[vC]at Z;have F:∀x:Nat,(P1 (x%val gD)).length≤1000:=λx=>zzk (L8 x (Ou Z)) (tl hC)
  rw[j,Q,V,vC];generalize Qs vQ o.d=M at *;simp[ud,Ko.f,LN,e,I,B,Pe P,O,K,E,Pe U,T,L,R,Pe qc,xc,hd,D,Pe Y];refine Pr (zr8 H X gD J J J) N ?_;simp[RU,tf Z];refine X7 (bh (P1 (Z6 (val H) (val X) (val gD))) M (by have:=F (val H%val gD+val gD-val X%val gD);unfold Z6;omega)) N ?_;simp[RU,Uv];exact .inr ⟨_,0,0,rfl,N⟩
def xD(vs:List Vr)(o:Ko)(X:List (List UInt64)):List UInt64 :=
 if o.kind≤11 then (if Ue o ((X.take vs.length).map val)=true then P1 (opV vs o ((X.take vs.length).map val)) else []) else (if val (X.getD o.c.toNat [])%2=1 then X.getD o.e.toNat [] else X.getD o.d.toNat [])
def xE(vs:List Vr)(o:Ko)(X:List (List UInt64)):List UInt64 :=
 if o.kind≤11 then [] else (if val (X.getD o.c.toNat [])%2=1 then X.getD o.d.toNat [] else X.getD o.e.toNat [])
def zkp{vs:List Vr}{o:Ko}{X:List (List UInt64)}(h:ExV vs o)(hX:vs.length≤X.length)(hl:∀x∈X,x.length≤1000) :
  Rk 38 [.lst (Py vs) vs.length 3,.agg o.f,LN X] (.tup [LU (xD vs o X),LU (xE vs o X),.bool (Ue o ((X.take vs.length).map val))]):=by
 refine Uy.mk (by simp[LV.dat,dats,zeu]) (Pj r_law22_meant Aa (by simp) ?_);have gU:vs.length≤256:=(zef h.hv).2;have p:=gu h;have gV:=Y7 h;have T:o.f=[.i o.kind,.i o.d,.i o.e,.i o.a,.i o.b,.i o.c,.u o.imm]:=rfl;have M:(X.take vs.length).length=vs.length:=Ab
 have O:∀x∈X.take vs.length,x.length≤1000:=λx Q=>hl x (Oh Q)
 have C:∀i,i<vs.length→(X.take vs.length).getD i []=X.getD i []:=λi hi=>by
  rw[J0,Lu hi,←J0]
 obtain⟨A,Z⟩:∃A,X.take vs.length=A:=⟨_,rfl⟩;have gI:xD vs o X=if o.kind≤11 then (if Ue o (A.map val)=true then P1 (opV vs o (A.map val)) else []) else (if val (A.getD o.c.toNat [])%2=1 then A.getD o.e.toNat [] else A.getD o.d.toNat []):=by
  unfold xD;by_cases g:o.kind≤11
  ·rw[J6 g,J6 g,Z]
  ·rw[J1 g,J1 g,←Z,C _ (by have:=p.hc J;have:=p.c;omega),C _ Ep,C _ Dd]
 have gK:xE vs o X=if o.kind≤11 then [] else (if val (A.getD o.c.toNat [])%2=1 then A.getD o.d.toNat [] else A.getD o.e.toNat []):=by
  unfold xE;by_cases g:o.kind≤11
  ·rw[J6 g,J6 g]
  ·rw[J1 g,J1 g,←Z,C _ (by have:=p.hc J;have:=p.c;omega),C _ Dd,C _ Ep]
 rw[Z,gI,gK];rw[Z]at M O;simp[zek];refine⟨J,?_⟩;refine Qt (λρ gT gL N=>∃(i st:Nat) (gH:List LV),gT=[]∧N+i=vs.length∧lk ρ 0=.lst (Py vs) vs.length 3∧lk ρ 2=LN X∧lk ρ 4=.ptr 0 0∧lk ρ 9=.dy 1 0∧lk ρ 10=.i i∧gL[0]?=some (.cells o.f 0)∧gL[1]?=some (.dyn gH vs.length 1 0 st)∧gH.length=vs.length∧∀gD,gD<i→gH[gD]?=some (LU (X.getD gD []))) (N:=vs.length)
  ⟨0,0,Rl [.nilSl] vs.length,rfl,J,by simp,by simp[LN],by simp,by simp,by simp,by simp,by simp,by simp[z62],λgD h=>J⟩ ?_
 rintro N ρ gT gL ⟨i,st,gH,rfl,hN,G,h2,H,I,U,B,j,hC,V⟩ Nx P;have l1:=(Jy.1 j).1;by_cases gg:i<vs.length
 ·have gX:i<X.length:=J
  have q:=zgb gX;simp[G,h2,H,I,U,gg,gX,LN,Pe q,j,hC];refine⟨J,J,P _ _ _ ⟨N-1,J,i+1,st+1,gH.set i (LU (X.getD i [])),rfl,J,Bd,by simp[h2,LN],A1,Bn,by simp,?_,?_,by simp[hC],λgD hj=>?_⟩⟩
  ·rw[Jz J];exact B
  ·rw[J3 l1,K3,J6 J];simp[Qj,J0,gX]
  ·by_cases e:gD=i
   ·subst e;rw[J3 J]
   ·rw[Jz J];exact V gD J
 have gi:i=vs.length:=J
 subst gi;have gM:gH=A.map LU:=by
  refine N5 λgD=>?_
  by_cases hj:gD<vs.length
  ·rw[V gD hj,zgb J,←Z,C gD hj]
  ·rw[Me J,Me (by rw[List.length_map];omega)]
 subst gM;clear V;simp[G,H,U,B,T];rw[←T];refine Ux (kv o) (by simp[T,dats,LV.dat]) ?_;obtain⟨L,hL⟩:∃L,Xm o=L:=⟨_,rfl⟩;have gY:L.length≤3:=by rw[←hL];unfold Xm;(repeat' split)<;>simp
 have hM:Ue o (A.map val)=L.all λf=>Yq f (A.map val):=by rw[Ue,hL]
 rw[hM,hL];simp;refine Qt (λρ gT gL N=>∃(i:Nat),gT=[]∧N+i=L.length∧lk ρ 0=.lst (Py vs) vs.length 3∧lk ρ 4=.ptr 0 0∧lk ρ 9=.dy 1 0∧lk ρ 11=.lst (aa L) L.length 3∧lk ρ 12=.i i∧gL[0]?=some (.cells o.f 0)∧gL[1]?=some (.dyn (A.map LU) vs.length 1 0 st)∧∀f∈L.take i,Yq f (A.map val)=true) (N:=L.length)
  ⟨0,rfl,J,Bd,A1,Bn,by simp,by simp,B,j,by simp⟩ ?_
 clear G h2 H I U B j P l1 gg;rintro N2 ρ gT gL ⟨i,rfl,gZ,G,H,I,E,F,B,j,hh⟩ Nx P;by_cases gg:i<L.length
 ·have hg:=J7 gg;have q:=zaf (f:=Wq) (k:=3) (λ_=>rfl) hg;have ql:=zqu (f:=Wq) (k:=3) (λ_=>rfl) gg;have K:L[i]∈L:=Mm gg;have gO:L.take (i+1)=L.take i++[L[i]]:=K9 gg;generalize L[i]=f at *;have q':((aa L).drop (i*3)).take 3=Wq f:=q;have gR:i*3+3≤(aa L).length:=ql;simp[G,H,I,E,F,gg,q',gR];refine Pr (jc f A O) ⟨_,_,rfl,⟨_,rfl,bors_self _ (by simp[Wq,dats,LV.dat])⟩,_,_,rfl,⟨_,_,_,_,by rw[LN,M],j,yp (λa=>yg a) A⟩,rfl⟩ ?_;cases hb:Yq f (A.map val) with
  |false =>
   have:(L.all λf=>Yq f (A.map val))=false:=by
    rw[Bool.eq_false_iff];intro h;have:=Li.1 h f K;rw[hb]at this;cases this
   have gF:o.kind≤11:=by
    refine Classical.byContradiction λhn=>?_
    have hk:o.kind=14:=J
    rw[←hL]at K;simp[Xm,hk]at K
   simp[this,gF];exact⟨_,_,⟨rfl,rfl⟩,.inr ⟨1,rfl⟩,_,rfl,.inr ⟨1,rfl⟩⟩
  |true =>
   simp[F];refine⟨J,P _ _ _ ⟨N2-1,J,i+1,rfl,J,Bd,A1,Bn,Ax,by simp,B,j,λx Q=>?_⟩⟩;rw[gO]at Q;rcases Kx.1 Q with Q|Q
   ·exact hh x Q
   ·rw[O1.1 Q];exact hb
 have R:(L.all λf=>Yq f (A.map val))=true:=by
  rw[Kk J]at hh;exact Li.2 hh
 rw[R];have gG:Ue o (A.map val)=true:=by rw[hM];exact R
 by_cases g:o.kind≤11
 ·have Y:¬o.kind=14:=J
  rw[J6 g,J6 g,J6 rfl];have hS:=jy h g M O gG;generalize P1 (opV vs o (A.map val))=jz at *;simp[G,H,I,E,F,gg,B,T,Y];rw[←T];refine Pr hS ⟨_,_,rfl,⟨_,rfl,⟨_,_,rfl,?_,_,_,rfl,.inr ⟨_,rfl⟩,_,_,rfl,.inr ⟨_,rfl⟩,rfl⟩⟩,_,_,rfl,⟨_,rfl,bors_self _ (by simp[T,dats,LV.dat])⟩,_,_,rfl,⟨_,_,_,_,by rw[LN,M],j,yp (λa=>yg a) A⟩,rfl⟩ ?_
  ·simp[bor,Tt]
  ·simp[RU];exact⟨_,_,⟨rfl,rfl⟩,rfl,_,rfl,.inr ⟨1,rfl⟩⟩
 ·have hk:o.kind=14:=J
  rw[J1 g,J1 g];obtain⟨cn,ec⟩:=J5 (p.hc J);obtain⟨dn,ed⟩:=J5 p.d.1;obtain⟨en,ee⟩:=J5 (p.he g);have lc:cn<A.length:=Dw
  have ld:dn<A.length:=Dd
  have le:en<A.length:=Gk
  have qc:=zgb lc;have qd:=zgb ld;have qe:=zgb le;have xc:=O _ (Mm lc);rw[ec,ed,ee];simp only[Kr];have yc:A[cn]=A.getD cn []:=by simp[J0,lc]
  have yd:A[dn]=A.getD dn []:=by simp[J0,ld]
  have ye:A[en]=A.getD en []:=by simp[J0,le]
  have vc:cn<vs.length:=J
  have vd:dn<vs.length:=J
  have ve:en<vs.length:=J
  generalize A.getD cn []=gH at *;generalize A.getD dn []=jA at *;generalize A.getD en []=jB at *;have jg:gH.length≤1000:=by rw[←yc];exact xc
  have D:=B;rw[T,hk,ec,ed,ee]at D;simp[G,H,I,E,F,gg,D,j,vc,vd,ve,lc,ld,le,Pe qc,yc];refine Pr (z8d gH 0 J) (by simp[yc]) ?_;by_cases z:val gH%2=1
  ·rw[J6 z,J6 z];simp[Oc,z,G,H,I,E,F,gg,D,j,vc,vd,ve,lc,ld,le,Pe qd,Pe qe,yd,ye]
  ·rw[J1 z,J1 z];simp[Oc,z,G,H,I,E,F,gg,D,j,vc,vd,ve,lc,ld,le,Pe qd,Pe qe,yd,ye]
end
def z4y:LC:=(.q [.F 4] (.seq (.q [.m 6 0,.s 7 6,.m 8 1,.s 9 8,.c 10 .neq 3 7 9] (.cond (.t 10) (.q [.F 4] .ret) .skip)) (.seq (.q [.K 5 0] (.block 0 (.loop (.seq (.q [.m 11 5,.m 12 0,.s 13 12,.c 14 .lss 3 11 13] (.cond (.t 14) .skip (.exit 0))) (.seq (.block 1 (.seq (.draw [(.m 17 0,[]),(.m 18 5,[]),(.I 19 2 17 18,[]),(.L 20 2 19,[]),(.m 21 1,[]),(.m 22 5,[]),(.I 23 2 21 22,[]),(.L 24 2 23,[]),(.c 25 .neq 91 20 24,[])]) (.cond (.t 25) (.q [.F 4] .ret) .skip))) (.ops [.m 15 5,.b 16 .add 3 15 1,.m 5 16])))))) (.q [.z 4 (.move .T)] .ret))))
def r_kit_Same_api_LimbEvent:Pk Tryz.prog 37=some ⟨26,z4y.r,[.tmp 4]⟩:=Aa
def bo:List (Option Bool)→Option Bool
 |[]=>some true
 |o::l=>match o with
  |some true=>bo l
  |some false=>some false
  |none=>none
def resGvs:∀l:List Bool,bo (l.map some)=some (l.all id)
 |[]=>rfl
 |true::l=>by rw[Mt,bo,resGvs l];rfl
 |false::l=>rfl
def evEq(a b d e:Int):Uh Tryz.prog false 91 (.agg [.int .i64 a,.int .i64 b]) (.agg [.int .i64 d,.int .i64 e])=bo [some (f9 a d),some (f9 b e)]:=Aa
def evEq2(a b:Int):Uh Tryz.prog false 91 (.agg (toAs [.i a,.i b])) (.agg (toAs [.i a,.i b]))=some true:=by
 have h:=evEq a b a b;have e:[some (f9 a a),some (f9 b b)]=[f9 a a,f9 b b].map some:=rfl;rw[e,resGvs]at h;refine Eq.trans h ?_;simp only[z8c,Mq,List.all_nil,Bool.and_true,id];simp
def ev_two{l:List (Int×Int)}{i:Nat}{e:Int×Int}(h:l[i]?=some e):((Xt l).drop (i*2)).take 2=[.i e.1,.i e.2]:=zaf (f:=λe:Int×Int=>[LV.i e.1,.i e.2]) (λ_=>rfl) h
def ev_lt{l:List (Int×Int)}{i:Nat}(h:i<l.length):i*2+2≤(Xt l).length:=zqu (f:=λe:Int×Int=>[LV.i e.1,.i e.2]) (λ_=>rfl) h
def zzt(l:List (Int×Int))(H:l.length≤9000000000000000000):Pl 37 [.lst (Xt l) l.length 2,.lst (Xt l) l.length 2] (.bool true) []:=by
 refine P4.val rfl (Pj r_kit_Same_api_LimbEvent Aa (by simp) ?_);simp[z4y];refine Qt (λB G I N=>∃i:Nat,G=[]∧N+i=l.length∧lk B 0=.lst (Xt l) l.length 2∧lk B 1=.lst (Xt l) l.length 2∧lk B 5=.i i) (N:=l.length) ⟨0,by simp⟩ ?_;rintro N B G I ⟨i,rfl,K,g,j,z⟩ L A;by_cases C:i<l.length
 ·have D:=J7 C;have E:=ev_two D;have F:=ev_lt C;simp[g,j,z,C,E,F];refine⟨_,rfl,rfl,evEq2 _ _,?_⟩;simp[z];exact⟨J,A _ _ _ ⟨N-1,J,i+1,rfl,J,As,Am,by simp⟩⟩
 ·simp[g,j,z,C]
section
set_option linter.unusedVariables false
def z56:LC:=(.q [.x 7 1,.F 12] (.q [.m 30 0,.m 31 3,.W 32 13 30 31,.z 13 (.alloc [.nilSl,.nilSl,(.i 0),(.i 0),(.i 0),(.i 0),(.i 0),(.i 0)]),.S 8 13 32] (.q [.L 33 8 13,.m 34 2,.m 35 4,.V 36 16 33 34 35,.z 14 (.alloc [(.i 0),.nilSl,.nilSl]),.S 3 14 36] (.q [.L 38 3 14,.w 39 17 38,.m 37 39,.X 40 0 37,.X 41 1 37,.m 15 40,.m 16 41] (.seq (.q [.m 42 16,.b 43 .neq 37 42 0,.m 44 43,.mn 45 44 2,.mn 46 44 4,.mn 47 44 0,.n 48 44 (.loadN 7 (.t 7)),.n 49 44 (.w 35 [.t 47,.t 48]),.n 50 44 (.w 34 [.t 45,.t 46,.t 49]),.n 51 44 (.un .not (.t 50)),.p 52 44 51] (.cond (.t 52) (.q [.F 12] .ret) .skip)) (.q [.L 53 8 13,.m 54 5,.W 55 18 53 54,.m 17 55] (.seq (.q [.f 56 5 7,.l 57 56,.b 58 .geq 3 57 0,.m 59 58,.my 60 59 5,.y 61 59 (.lenSl (.t 60)),.y 62 59 (.bin .gtr true 3 (.t 61) (.k 0)),.q 63 59 62] (.cond (.t 63) (.draw [(.m 64 17,[]),(.f 65 5 7,[]),(.l 66 65,[]),(.I 67 1 64 66,[]),(.l 68 67,[]),(.m 69 17,[]),(.f 70 5 7,[]),(.l 71 70,[]),(.I 72 1 69 71,[]),(.l 73 72,[]),(.z 74 (.ixAddr 1 (.t 73) (.k 0)),[]),(.l 75 74,[]),(.m 76 5,[]),(.z 77 (.ixAddr 1 (.t 76) (.k 0)),[]),(.l 78 77,[]),(.u 79 .and 23 78 1,[]),(.c 80 .or 23 75 79,[]),(.z 81 (.ixAddr 1 (.t 68) (.k 0)),[]),(.S 1 81 80,[])]) .skip)) (.seq (.q [.K 18 0] (.block 0 (.loop (.seq (.q [.m 82 18,.b 83 .lss 3 82 2,.m 84 83,.my 85 84 5,.y 86 84 (.lenSl (.t 85)),.y 87 84 (.bin .gtr true 3 (.t 86) (.k 1)),.q 88 84 87,.m 89 88,.my 90 89 5,.y 91 89 (.ixAddr 1 (.t 90) (.k 1)),.yl 92 89 91,.y 93 89 (.bin .rem true 23 (.t 92) (.c (.u 2))),.y 94 89 (.bin .eql true 23 (.t 93) (.c (.u 0))),.q 95 89 94] (.cond (.t 95) .skip (.exit 0))) (.seq (.block 1 (.ops [.m 98 0,.L 99 7 7,.m 100 17,.V 101 36 98 99 100])) (.ops [.m 96 18,.b 97 .add 3 96 1,.m 18 97])))))) (.q [.L 103 3 14,.m 104 17,.W 105 19 103 104,.m 102 105,.X 106 0 102,.X 107 1 102,.X 108 2 102,.m 19 106,.m 20 107,.m 21 108] (.seq (.draw [(.L 110 3 14,[]),(.L 111 8 13,[]),(.z 112 (.w 18 [.t 111,(.c .nilSl)]),[(.L 110 3 14,false)]),(.W 113 19 110 112,[]),(.m 109 113,[]),(.X 114 0 109,[]),(.X 115 1 109,[]),(.X 116 2 109,[]),(.m 22 114,[]),(.m 23 115,[]),(.m 24 116,[])]) (.seq (.q [.m 117 21,.b 118 .neq 37 117 0,.m 119 118,.mn 120 119 24,.nb 121 119 .neq 37 120 0,.p 122 119 121,.m 123 122,.mn 124 123 22,.n 125 123 (.lenSl (.t 124)),.mn 126 123 19,.n 127 123 (.lenSl (.t 126)),.n 128 123 (.bin .neq false 3 (.t 125) (.t 127)),.p 129 123 128,.m 130 129,.mn 131 130 20,.mn 132 130 23,.n 133 130 (.w 37 [.t 131,.t 132]),.n 134 130 (.un .not (.t 133)),.p 135 130 134] (.cond (.t 135) (.q [.F 12] .ret) .skip)) (.q [.m 137 0,.L 138 7 7,.m 139 17,.V 140 38 137 138 139,.m 136 140,.X 141 0 136,.X 142 1 136,.X 143 2 136,.m 25 141,.m 26 142,.m 27 143] (.q [.K 28 1] (.seq (.q [.m 144 0,.L 145 7 7,.W 146 35 144 145] (.cond (.t 146) (.ops [.K 28 0]) .skip)) (.seq (.q [.K 29 0] (.block 2 (.loop (.seq (.q [.m 147 29,.m 148 19,.s 149 148,.c 150 .lss 3 147 149] (.cond (.t 150) .skip (.exit 2))) (.seq (.block 3 (.block 4 (.q [.m 154 29,.f 155 1 7,.l 156 155,.c 157 .eql 3 154 156,.m 153 157] (.cond (.t 153) (.q [.m 158 27,.m 159 158,.my 160 159 19,.my 161 159 29,.y 162 159 (.ixAddr 1 (.t 160) (.t 161)),.yl 163 159 162,.my 164 159 25,.y 165 159 (.w 20 [.t 163,.t 164]),.y 166 159 (.bin .neq true 3 (.t 165) (.k 0)),.q 167 159 166] (.cond (.t 167) (.q [.F 12] .ret) .skip)) (.q [.m 169 29,.f 170 2 7,.l 171 170,.c 172 .eql 3 169 171,.m 168 172] (.cond (.t 168) (.q [.m 173 27,.m 174 173,.my 175 174 19,.my 176 174 29,.y 177 174 (.ixAddr 1 (.t 175) (.t 176)),.yl 178 174 177,.my 179 174 26,.y 180 174 (.w 20 [.t 178,.t 179]),.y 181 174 (.bin .neq true 3 (.t 180) (.k 0)),.q 182 174 181] (.cond (.t 182) (.q [.F 12] .ret) .skip)) (.q [.m 184 29,.m 185 0,.s 186 185,.m 187 28,.c 188 .add 3 186 187,.c 189 .eql 3 184 188,.m 183 189] (.cond (.t 183) .skip (.seq (.draw [(.m 191 19,[]),(.m 192 29,[]),(.I 193 1 191 192,[]),(.l 194 193,[]),(.m 195 17,[]),(.m 196 29,[]),(.I 197 1 195 196,[]),(.l 198 197,[]),(.W 199 21 194 198,[]),(.z 200 (.un .not (.t 199)),[]),(.m 190 200,[])]) (.cond (.t 190) (.q [.F 12] .ret) .skip)))))))))) (.ops [.m 151 29,.b 152 .add 3 151 1,.m 29 152])))))) (.q [.z 12 (.move .T)] .ret))))))))))))))))
def r_law22_right:Pk Tryz.prog 14=some ⟨201,z56.r,[.tmp 12]⟩:=Aa
def ot(l:List (Int×Int)):dats (Xt l)=true:=zae (f:=λe:Int×Int=>[LV.i e.1,.i e.2]) (λ_=>rfl) l
def xb{vs:List Vr}{o:Ko}(h:ExV vs o):1≤Pt vs o∧Pt vs o≤32768:=by
 have:=ze6 h;omega
def zxu{vs:List Vr}{o:Ko}(h:ExV vs o){i:Nat}(hi:i<vs.length+2):(Ps (Qx vs (Pt vs o)) i).size≤1000:=by
 have hw:=ze6 h;by_cases q:i<vs.length
 ·rw[ce q];have:=h.h9 _ q;show (gv vs i).limbs≤1000;omega
 ·have e:i=vs.length∨i=vs.length+1:=J
  rcases e with rfl|rfl
  ·rw[plB_w0];simp only;omega
  ·rw[plB_w1];simp only;omega
def xown{vs:List Vr}{o:Ko}{deep:Nat}(h:ExV vs o)(hd:deep≤4):∀x∈(xT vs o deep).flat,(∀r∈[x.d,x.e,x.a,x.b,x.c],Wa deep (!(gv vs o.d.toNat).sec) r)∧((0≤x.d∧x.d<8)↔x.kind=16):=by
 refine own_all (xT_all (lo:=(deep:Int)) h (Int.le_refl _) hd) J rfl rfl Ey ?_;simp only[Vx];cases (gv vs o.d.toNat).sec<;>simp
set_option maxHeartbeats 2000000 in
def zla{vs:List Vr}{o:Ko}{deep:Nat}{fill:List UInt64}(h:ExV vs o)(hd:deep≤4)(AL:fill.length≤40) :
  Pl 14 [.lst (Py vs) vs.length 3,.agg o.f,.lst (Tu (xT vs o deep).flat) (xT vs o deep).flat.length 8,.i (Pt vs o),.i deep,LU fill] (.bool true) []:=by
 refine P4.val rfl (ztq r_law22_right Aa (by simp) ?_);have hf:o.f=[.i o.kind,.i o.d,.i o.e,.i o.a,.i o.b,.i o.c,.u o.imm]:=rfl;have zH:=xb h;have pN:=gu h;have AM:=Y7 h;have hn:=h.hn;obtain⟨c,jY⟩:∃c,vI o o.c=c:=⟨_,rfl⟩;have jL:c<vs.length:=jY ▸ zqv h pN.c;have T:(Qx vs (Pt vs o)).length=vs.length+2:=plB_len;have zI:=su (vs:=vs) (o:=o) (e:=deep);have jM:Rk 13 [.lst (Py vs) vs.length 3,.i (Pt vs o)] (.agg (Sj (Qx vs (Pt vs o)) (Vg vs) ⟨vs.length,0,Pt vs o⟩ ⟨(vs.length:Int)+1,0,Pt vs o⟩)):=zgx vs (Pt vs o) J;have jO:Sj (Qx vs (Pt vs o)) (Vg vs) ⟨vs.length,0,Pt vs o⟩ ⟨(vs.length:Int)+1,0,Pt vs o⟩=[.lst (Rz (Qx vs (Pt vs o))) (Qx vs (Pt vs o)).length 3,.lst (Yl (Vg vs)) (Vg vs).length 3,.i vs.length,.i 0,.i (Pt vs o),.i ((vs.length:Int)+1),.i 0,.i (Pt vs o)]:=rfl;have jZ:(xG vs o deep).flat=R0 deep 0++((xT vs o deep).flat++List.replicate deep Vi):=dz vs o deep;have gT:Pm ((64:Nat):Int) (Qx vs (Pt vs o)) (xG vs o deep).flat=[.i 64,.lst (Rz (Qx vs (Pt vs o))) (Qx vs (Pt vs o)).length 3,.lst (Tu (xG vs o deep).flat) (xG vs o deep).flat.length 8]:=rfl;have jG:=zs3 (W:=Pt vs o) h.hv zH;refine zy2 (Φ:=λρ jX V=>∃(X:List (List UInt64)) (p z st q sq:Nat),X.length=vs.length+2∧(∀i,i<vs.length+2→((X.getD i []).length:Int)=(Ps (Qx vs (Pt vs o)) i).size)∧jX=[]∧lk ρ 0=.lst (Py vs) vs.length 3∧lk ρ 5=LU fill∧lk ρ 7=.ptr 0 0∧lk ρ 13=.ptr 1 0∧lk ρ 14=.ptr 2 0∧lk ρ 17=.dy p z∧3≤p∧3≤q∧p≠q∧3≤V.length ∧
   V[0]?=some (.cells o.f 0)∧V[1]?=some (.cells (Sj (Qx vs (Pt vs o)) (Vg vs) ⟨vs.length,0,Pt vs o⟩ ⟨(vs.length:Int)+1,0,Pt vs o⟩) 1)∧V[2]?=some (.cells (Pm ((64:Nat):Int) (Qx vs (Pt vs o)) (xG vs o deep).flat) 1)∧V[p]?=some (.dyn ((X.map LU).set c (.dy q 0)) X.length 1 z st)∧V[q]?=some (.dyn ((X.getD c []).map .u) (X.getD c []).length 1 0 sq)) 6 _ rfl (λNX gM=>?_) (λρ jX V hΦ=>?_)
 ·simp[z56,Zs,hf];rw[←hf];refine Ux jM Bk ?_;simp[jO];have j4:=zhc (bs:=Qx vs (Pt vs o)) (P:=.lst (Yl (Vg vs)) (Vg vs).length 3) (W:=[.i vs.length,.i 0,.i (Pt vs o),.i ((vs.length:Int)+1),.i 0,.i (Pt vs o)]) (L:=(xT vs o deep).flat) (deep:=deep) J J ⟨_,_,_,_,_,_,rfl⟩;rw[←jZ]at j4;refine Ux j4 (by simp[dats,LV.dat,W9,V3,zff]) ?_;rw[gT];simp;have AG:(xG vs o deep).flat.length≤65536:=by
   have h2:(R0 deep 0).length=deep:=lpsL_lenX deep 0;rw[jZ];simp[h2];omega
  have hC:Rk 17 [.agg (Pm ((64:Nat):Int) (Qx vs (Pt vs o)) (xG vs o deep).flat)] (.tup [.i (xG vs o deep).flat.length,.i 0]):=zrb h hd;rw[gT]at hC;refine Ux hC (by simp[dats,LV.dat,W9,V3]) ?_;simp[hf];rw[←hf];refine Pr (zby vs o) (bors_self _ Gb) ?_;rw[bu h];simp;refine Pr (zep (xT vs o deep).flat deep (!(gv vs o.d.toNat).sec) J J (xown h hd)) (bors_self _ (by simp[dats,LV.dat,W9])) ?_;simp[LU];refine zwk c (by rw[T];omega) (λx hx=>by have:=jG x hx;omega) (by rw[T];omega) J (λX p z st q sq V hX D E hp hq gU U gF=>?_);rw[T]at hX D;simp at hp hq E;have j:=E 0 J;have gO:=E 1 J;have gR:=E 2 J;simp at j gO gR;have zK:=(Jy.1 gF).1;have zL:((X.getD c []).length:Int)=(gv vs c).limbs:=by
   have:=D c J;rw[ce jL]at this;exact this
  have AO:=zo h.hv jL;have R:c<X.length:=J
  have j5:((X.map LU).set c (.dy q 0))[c]?=some (.dy q 0):=J3 Dl;have jH:=j;rw[hf]at j;have same:∀B:Pf,lk B 0=.lst (Py vs) vs.length 3→lk B 5=LU fill→lk B 7=.ptr 0 0→lk B 13=.ptr 1 0→lk B 14=.ptr 2 0→lk B 17=.dy p z→NX B [] V:=λB e0 e5 e7 gH gI gD=>gM _ _ _ ⟨X,p,z,st,q,sq,hX,D,rfl,e0,e5,e7,gH,gI,gD,hp,hq,gU,J,jH,gO,gR,U,gF⟩
  by_cases j6:0≤o.c
  case neg =>
   simp[j,j6];exact same _ (by simp) Gt (by simp) (by simp) (by simp) (by simp)
  have ec:o.c=(c:Int):=by
   rw[Xj j6]at jY;omega
  rw[ec]at j;by_cases jP:fill=[]
  ·subst jP;simp[j];exact same _ (by simp) Gt (by simp) (by simp) (by simp) (by simp)
  have zM:0<fill.length:=List.length_pos_iff.2 jP;have AP:¬fill.length=0:=J
  have xc:X[c]=X.getD c []:=by simp[J0,R]
  have j7:X[c]?.getD []=X.getD c []:=by simp[J0]
  obtain⟨AH,hC⟩:∃AH,X.getD c []=AH:=⟨_,rfl⟩;rw[hC]at gF zL xc j7;have zI:1≤AH.length:=J
  simp[j,U,gF,zM,jP,R,Pe j5,xc,j7];refine⟨J,J,gM _ _ _ ⟨X.set c (iq (AH[0]?.getD 0) (T3 fill[0] 1)::AH.tail),p,z,st,q,sq+1,by simp[hX],λi hi=>?_,rfl,by simp,Gt,by simp,by simp,by simp,by simp,hp,hq,gU,Ab,?_,?_,?_,?_,?_⟩⟩
  ·rw[ay _ _ _ _ _ R];by_cases e:i=c
   ·rw[J6 e,e,ce jL];show _=(gv vs c).limbs;rw[Kh,List.length_tail];omega
   ·rw[J1 e];exact D i hi
  ·rw[Jz J];exact jH
  ·rw[Jz J];exact gO
  ·rw[Jz J];exact gR
  ·rw[Jz J,U];simp[Ll]
  ·rw[J3 zK,ay _ _ _ _ _ R,J6 rfl];simp;omega
 obtain⟨X,p,z,st,q,sq,hX,D,rfl,A,h5,F,G,H,g,hp,hq,gU,jB,j,gO,gR,U,gF⟩:=hΦ;have lp:=(Jy.1 U).1;have lq:=(Jy.1 gF).1;have R:c<X.length:=J
 have j8:(X.map LU).take c++LU (X.getD c [])::(X.map LU).drop (c+1)=X.map LU:=by
  have:=K3 (l:=X.map LU) (i:=c) (a:=LU (X.getD c []));rw[J6 Dl]at this;rw[←this];refine N5 λzG=>?_
  rw[N1];by_cases e:c=zG
  ·subst e;rw[J6 rfl,J6 Dl,zie R]
  ·rw[J1 e]
 refine W_fzD (a:=(X.map LU).take c) (b:=(X.map LU).drop (c+1)) (p:=q) (q:=p) gF (by rw[U,K3,J6 Dl]) (Ne.symm gU) ?_;have k0:((V.set q (.dead (sq+1))).set p (.dyn ((X.map LU).take c++LU (X.getD c [])::(X.map LU).drop (c+1)) X.length 1 z (st+1)))[0]?=_:=(Jz J).trans ((Jz J).trans j);have k1:((V.set q (.dead (sq+1))).set p (.dyn ((X.map LU).take c++LU (X.getD c [])::(X.map LU).drop (c+1)) X.length 1 z (st+1)))[1]?=_:=(Jz J).trans ((Jz J).trans gO);have k2:((V.set q (.dead (sq+1))).set p (.dyn ((X.map LU).take c++LU (X.getD c [])::(X.map LU).drop (c+1)) X.length 1 z (st+1)))[2]?=_:=(Jz J).trans ((Jz J).trans gR);have kp:((V.set q (.dead (sq+1))).set p (.dyn ((X.map LU).take c++LU (X.getD c [])::(X.map LU).drop (c+1)) X.length 1 z (st+1)))[p]?=some (.dyn (X.map LU) X.length 1 z (st+1)):=by
  rw[J3 (by simpa using lp),j8]
 have kl:3≤((V.set q (.dead (sq+1))).set p (.dyn ((X.map LU).take c++LU (X.getD c [])::(X.map LU).drop (c+1)) X.length 1 z (st+1))).length:=by simpa using jB
 have jI:LV.lst ((X.getD c []).map .u) (X.getD c []).length 1=LU (X.getD c []):=rfl;rw[jI];generalize (V.set q (.dead (sq+1))).set p (.dyn ((X.map LU).take c++LU (X.getD c [])::(X.map LU).drop (c+1)) X.length 1 z (st+1))=V at *;clear U gF j8 j gO gR jB lp lq jI;generalize st+1=st at *;refine zy2 (Φ:=λρ jX V=>∃(X:List (List UInt64)) (st:Nat),X.length=vs.length+2∧(∀i,i<vs.length+2→((X.getD i []).length:Int)=(Ps (Qx vs (Pt vs o)) i).size)∧jX=[]∧lk ρ 0=.lst (Py vs) vs.length 3∧lk ρ 7=.ptr 0 0∧lk ρ 13=.ptr 1 0∧lk ρ 14=.ptr 2 0∧lk ρ 17=.dy p z∧3≤V.length ∧
   V[0]?=some (.cells o.f 0)∧V[1]?=some (.cells (Sj (Qx vs (Pt vs o)) (Vg vs) ⟨vs.length,0,Pt vs o⟩ ⟨(vs.length:Int)+1,0,Pt vs o⟩) 1)∧V[2]?=some (.cells (Pm ((64:Nat):Int) (Qx vs (Pt vs o)) (xG vs o deep).flat) 1)∧V[p]?=some (.dyn (X.map LU) X.length 1 z st)) 0 _ rfl (λNX gM=>?_) (λρ jX V hΦ=>?_)
 ·simp[z56,Zs,A,h5,F,G,H,g];refine Qt (λρ jX V N=>∃(i:Nat) (X:List (List UInt64)) (st:Nat),N+i=2∧X.length=vs.length+2∧(∀i,i<vs.length+2→((X.getD i []).length:Int)=(Ps (Qx vs (Pt vs o)) i).size)∧jX=[]∧lk ρ 0=.lst (Py vs) vs.length 3∧lk ρ 5=LU fill∧lk ρ 7=.ptr 0 0∧lk ρ 13=.ptr 1 0∧lk ρ 14=.ptr 2 0∧lk ρ 17=.dy p z∧lk ρ 18=.i i∧3≤V.length ∧
   V[0]?=some (.cells o.f 0)∧V[1]?=some (.cells (Sj (Qx vs (Pt vs o)) (Vg vs) ⟨vs.length,0,Pt vs o⟩ ⟨(vs.length:Int)+1,0,Pt vs o⟩) 1)∧V[2]?=some (.cells (Pm ((64:Nat):Int) (Qx vs (Pt vs o)) (xG vs o deep).flat) 1)∧V[p]?=some (.dyn (X.map LU) X.length 1 z st)) (N:=2)
   ⟨0,X,st,rfl,hX,D,rfl,Al,by simp[h5],Ae,Bd,A1,As,by simp,kl,k0,k1,k2,kp⟩ ?_
  clear R hX D A h5 F G H g kl k0 k1 k2 kp;rintro N ρ jX V ⟨i,X,st,hN,hX,D,rfl,A,h5,F,G,H,g,jC,kl,k0,k1,k2,kp⟩ Nx jD;have AQ:((i:Int)<2)↔i<2:=J
  have step:i<2→(1:Int)<fill.length→Ql (.fn 36) [.lst (Py vs) vs.length 3,.agg o.f,.dy p z] V λv G'=>∀B,lk B 0=.lst (Py vs) vs.length 3→lk B 5=LU fill→lk B 7=.ptr 0 0→lk B 13=.ptr 1 0→lk B 14=.ptr 2 0→lk B 17=.dy p z→lk B 18=.i ((i:Int)+1)→Nx B [] G':=λhi _=>by
   by_cases j9:o.kind=10∨o.kind=11
   ·obtain⟨an,ea⟩:=J5 (pN.ha J J);obtain⟨bn,eb⟩:=J5 (pN.hb J J J);obtain⟨cn,ec⟩:=J5 (pN.hc J);have la:an<vs.length:=by have:=pN.a;omega
    have lb:bn<vs.length:=by have:=pN.b;omega
    have lc:cn<vs.length:=by have:=pN.c;omega
    have jQ:=ztj h;have A:Rj o=[o.d,o.a,o.b,o.c]:=by rcases j9 with e|e<;>simp[Rj,e]
    have q1:=jQ o.a Al;have q2:=jQ o.b Al;have q3:=jQ o.c Al;simp[A]at q1 q2 q3;unfold Qs at q1 q2 q3;rw[ea,Kr]at q1;rw[eb,Kr]at q2;rw[ec,Kr]at q3;refine zpi (vs:=vs) (o:=o) (X:=X) (a:=an) (b:=bn) (c:=cn) J ea eb ec la lb lc j9 J (.inr J) ⟨(zo h.hv lc).1,h.h9 _ lc⟩ (λzG hj=>?_) kp (λzO zQ G' hY jR U E jB B e0 e5 e7 gH gI gD jT=>?_)
    ·have:=D zG J;rw[ce hj]at this;exact this
    ·exact jD _ _ _ ⟨N-1,J,i+1,zO,zQ,J,J,λzG hj=>by rw[jR];exact D zG hj,rfl,e0,e5,e7,gH,gI,gD,by rw[jT];simp,J,(E 0 J J).trans k0,(E 1 J J).trans k1,(E 2 J J).trans k2,by rw[U,hY]⟩
   ·have lp:=(Jy.1 kp).1;refine zmt (vs:=vs) (o:=o) (by have:=pN.nc;omega) (λG' E jB B e0 e5 e7 gH gI gD jT=>?_);exact jD _ _ _ ⟨N-1,J,i+1,X,st,J,hX,D,rfl,e0,e5,e7,gH,gI,gD,by rw[jT];simp,J,(E 0 J).trans k0,(E 1 J).trans k1,(E 2 J).trans k2,(E p lp).trans kp⟩
  have done:∀B,lk B 0=.lst (Py vs) vs.length 3→lk B 7=.ptr 0 0→lk B 13=.ptr 1 0→lk B 14=.ptr 2 0→lk B 17=.dy p z→NX B [] V:=λB e0 e7 gH gI gD=>gM _ _ _ ⟨X,st,hX,D,rfl,e0,e7,gH,gI,gD,kl,k0,k1,k2,kp⟩
  by_cases jU:i<2
  ·have g':(i:Int)<2:=J
   by_cases g2:1<fill.length
   ·have jE:(1:Int)<fill.length:=J
    simp[A,h5,F,G,H,g,jC,jU,g',g2,jE,LU,k0,hf];rw[←hf];refine⟨λ_=>((step jU jE).mono λv G' hk=>?_),λ_=>?_⟩
    ·simp[jC];exact⟨J,hk _ Al (by simp[h5,LU]) Ae Bd A1 As (by simp)⟩
    ·exact done _ Al Ae Bd A1 As
   ·have jE:¬(1:Int)<fill.length:=J
    simp[A,h5,F,G,H,g,jC,jU,g',g2,jE,LU];exact done _ Al Ae Bd A1 As
  ·have g':¬(i:Int)<2:=J
   simp[A,h5,F,G,H,g,jC,jU,g'];exact done _ Al Ae Bd A1 As
 clear R hX D A h5 F G H g kl k0 k1 k2 kp hq gU;obtain⟨X,st,hX,D,rfl,A,F,G,H,g,kl,k0,k1,k2,kp⟩:=hΦ;refine W_fz (t:=17) kp g ?_;have n0:(V.set p (.dead (st+1)))[0]?=_:=(Jz J).trans k0;have n1:(V.set p (.dead (st+1)))[1]?=_:=(Jz J).trans k1;have n2:(V.set p (.dead (st+1)))[2]?=_:=(Jz J).trans k2;have nl:3≤(V.set p (.dead (st+1))).length:=by simpa using kl
 generalize V.set p (.dead (st+1))=V at *;clear k0 k1 k2 kp kl g;have zT:og (Qx vs (Pt vs o)) X:=⟨by rw[T];exact hX,λi hi=>D i J⟩;obtain⟨sX,r1,rl,r2,r3,r4,r5,rX,rY⟩:=exp_all h hd zT;have jV:LN X=.lst (X.map LU) X.length 1:=rfl;have gL:dats [LN X]=true:=Dm
 rw[gT,jV]at rX;rw[jV]at gL;simp only[dats,Bool.and_true]at gL;refine zy2 (Φ:=λρ jX V=>jX=[]∧lk ρ 0=.lst (Py vs) vs.length 3∧lk ρ 7=.ptr 0 0∧lk ρ 17=LN X∧lk ρ 19=LN sX.bufs∧V[0]?=some (.cells o.f 0)) 2 _ rfl (λNX gM=>?_) (λρ jX V hΦ=>?_)
 ·rw[gT]at n2;simp[z56,Zs,A,F,G,H,n0,n1,n2];refine Ux rX (by simp[dats,LV.dat,W9,V3,gL]) ?_;simp[G,H,n1,n2,jO];refine zll (args':=[.agg [.lst (Rz (Qx vs (Pt vs o))) (Qx vs (Pt vs o)).length 3,.lst (Yl (Vg vs)) (Vg vs).length 3,.i vs.length,.i 0,.i (Pt vs o),.i ((vs.length:Int)+1),.i 0,.i (Pt vs o)],.lst (([]:List UInt64).map .u) ([]:List UInt64).length 1]) (λc r ha=>?_) ?_
  ·cases ha with
   |cons e1 es=>cases es with
    |cons e2 es=>exact .cons e1 (.cons (nil_lst e2) es)
  refine zwr (fill:=[]) (λx hx=>by have:=jG x hx;omega) (by rw[T];omega) (by simp) (λzO p2 AI zg G2 hY jR E AT AK _ U=>?_) (by intro e;rw[e]at T;simp at T);have m0:=(E 0 J).trans n0;have m1:=(E 1 J).trans n1;have m2:=(E 2 J).trans n2;simp[G,H,n1,n2,m1,m2,jO];obtain⟨sY,y1,y2,zj⟩:=rY zO ⟨hY,jR⟩;have zz:LN zO=.lst (zO.map LU) zO.length 1:=rfl;have gV:dats [LN zO]=true:=Dm
  rw[gT,zz,←y2]at zj;rw[zz]at gV;simp only[dats,Bool.and_true]at gV;refine ztm (a:=[.agg [.i 64,.lst (Rz (Qx vs (Pt vs o))) (Qx vs (Pt vs o)).length 3,.lst (Tu (xG vs o deep).flat) (xG vs o deep).flat.length 8]]) (b:=[]) U ?_;refine Ux zj (by simp[dats,LV.dat,W9,V3,gV]) ?_;have zU:p2≠0:=J
  have j0:(G2.set p2 (.dead (zg+1)))[0]?=_:=(Jz zU).trans m0;generalize G2.set p2 (.dead (zg+1))=G3 at *;simp[r1,y1];refine Pr (zzt sX.l J) (bors_self _ (by simp[dats,LV.dat,ot])) ?_;simp;exact gM _ _ _ ⟨rfl,Al,Ae,by simp[LN],by simp[LN,r1],j0⟩
 clear A F G H n0 n1 n2 nl;obtain⟨rfl,A,F,g,C,j⟩:=hΦ;have hM:=zkp (X:=X) h J (λx hx=>by
  obtain⟨zG,hj,rfl⟩:=List.getElem_of_mem hx;have e1:=D zG J;have e2:=zxu h (i:=zG) J;rw[J0,J7 hj]at e1;simp only[L0]at e1;omega)
 rw[jV]at hM g;refine Vc _ ?_;simp[z56,Zs,A,F,g,C,j,hf];rw[←hf];refine Ux hM (by simp[dats,LV.dat,Tt,hf,gL]) ?_;simp[A,F,j,hf];rw[←hf];refine Pr (zby vs o) (bors_self _ Gb) ?_;rw[bu h];have zB:(W7 vs o.d.toNat:Int)-vs.length=if (gv vs o.d.toNat).sec=true then 1 else 0:=by
  unfold W7;split<;>omega
 have wl:=ztk vs o.d.toNat;obtain⟨dn,ed⟩:=J5 pN.d.1;have ld:dn<vs.length:=by have:=pN.d;omega
 have vD:Ue o ((X.take vs.length).map val)=true→val (sX.bufs.getD dn [])=val (xD vs o X):=λhm=>by
  unfold xD;by_cases I:o.kind≤11
  ·have:=r4 I hm;rw[ed,Kr]at this;rw[J6 I,J6 hm,this,Uv]
  ·have:=(r5 I).1;rw[ed,Kr]at this;rw[J1 I,this,ed,Kr];split<;>rfl
 have vE:¬o.kind≤11→val (sX.bufs.getD o.e.toNat [])=val (xE vs o X):=λI=>by
  have:=(r5 I).2;unfold xE;rw[J1 I,this];split<;>rfl
 have gY:∀i,(X.getD i []).length≤1000:=λi=>by
  by_cases hi:i<vs.length+2
  ·have e1:=D i hi;have e2:=zxu h hi;omega
  ·rw[J0,Me J];simp
 have zV:(xD vs o X).length≤1000000:=by
  unfold xD;have x1:=gY o.e.toNat;have x2:=gY o.d.toNat;split
  ·split
   ·have h1:=zo h.hv ld;have zX:Qs vs o.d=(gv vs dn).limbs:=by rw[Qs,ed];rfl
    have hb:opV vs o ((X.take vs.length).map val)<2^(64*(Qs vs o.d).toNat):=L8 _ (zjl _);have:=Y1 hb;rw[zX]at this;omega
   ·simp
  ·split<;>omega
 have zY:(xE vs o X).length≤1000000:=by
  unfold xE;have x1:=gY o.e.toNat;have x2:=gY o.d.toNat;split
  ·simp
  ·split<;>omega
 generalize zZ:Ue o ((X.take vs.length).map val)=gZ at *;have zC:Ue o (List.take vs.length (List.map val X))=gZ:=by rw[←Nt];exact zZ
 generalize xD vs o X=dv at *;generalize xE vs o X=ev at *;cases hs:(gv vs o.d.toNat).sec
 all_goals
  simp[hs]at zB;simp[C];refine Qt (λρ jX V N=>∃i:Nat,jX=[]∧N+i=vs.length+2∧lk ρ 0=.lst (Py vs) vs.length 3∧lk ρ 7=.ptr 0 0∧lk ρ 17=.lst (X.map LU) X.length 1∧lk ρ 19=.lst (sX.bufs.map LU) (vs.length+2) 1∧lk ρ 25=LU dv∧lk ρ 26=LU ev∧lk ρ 27=.bool gZ∧lk ρ 28=.i ((W7 vs o.d.toNat:Int)-vs.length)∧lk ρ 29=.i i∧V[0]?=some (.cells o.f 0)) (N:=vs.length+2)
   ⟨0,rfl,J,Al,Ae,As,by simp[C,LN,r1],Gt,Gt,by simp[zC],by simp[zB],by simp,j⟩ ?_
  clear A F g C j;rintro N ρ jX V ⟨i,rfl,hN,A,F,g,C,K,M,O,Q,Y,j⟩ Nx jD;have nx:i<vs.length+2→∀B:Pf,lk B 0=.lst (Py vs) vs.length 3→lk B 7=.ptr 0 0→lk B 17=.lst (X.map LU) X.length 1→lk B 19=.lst (sX.bufs.map LU) (vs.length+2) 1→lk B 25=LU dv→lk B 26=LU ev→lk B 27=.bool gZ→lk B 28=.i ((W7 vs o.d.toNat:Int)-vs.length)→lk B 29=.i ((i:Int)+1)→Nx B [] V :=
   λhi B e0 e7 gD z7 z9 Ag Aj Az AA=>jD _ _ _ ⟨N-1,J,i+1,rfl,J,e0,e7,gD,z7,z9,Ag,Aj,Az,by rw[AA];simp,j⟩
  rw[hf,ed]at j;by_cases jU:i<vs.length+2
  ·have g':(i:Int)<(vs.length:Int)+2:=J
   have gX:i<X.length:=J
   have gB:i<sX.bufs.length:=J
   have zD:=zie gX;have jF:=zie gB;have Z:=nx jU;have zE:=r3 i jU;have AB:=gY i;by_cases AC:i=dn
   ·subst AC;cases gZ with
    |false =>
     simp[A,F,g,C,K,M,O,Q,Y,jU,g',j];exact⟨J,Z _ Al Ae As Af Bi Bc Br Em (by simp)⟩
    |true =>
     have gg:=vD rfl;obtain⟨jK,hO⟩:∃jK,sX.bufs.getD i []=jK:=⟨_,rfl⟩;have jg:sX.bufs[i]?.getD []=jK:=by rw[←J0];exact hO
     rw[hO]at gg zE;simp[A,F,g,C,K,M,O,Q,Y,jU,g',j,Pe jF,LU,jg];refine⟨J,?_⟩;refine Pr (z1m jK dv J zV) (by simp) ?_;rw[gg,zor];simp[Y];exact⟨J,Z _ Al Ae As Af Bi Bc Br Em (by simp)⟩
   have gG:¬(i:Int)=(dn:Int):=J
   by_cases jz:(i:Int)=o.e
   ·have I:¬o.kind≤11:=λq=>by have:=pN.ne q;omega
    rw[←jz]at j;cases gZ with
    |false =>
     simp[A,F,g,C,K,M,O,Q,Y,jU,g',j,gG];exact⟨J,Z _ Al Ae As Af Bi Bc Br Em (by simp)⟩
    |true =>
     have gg:=vE I;rw[←jz,Kr]at gg;obtain⟨jK,hO⟩:∃jK,sX.bufs.getD i []=jK:=⟨_,rfl⟩;have jg:sX.bufs[i]?.getD []=jK:=by rw[←J0];exact hO
     rw[hO]at gg zE;simp[A,F,g,C,K,M,O,Q,Y,jU,g',j,gG,Pe jF,LU,jg];refine⟨J,?_⟩;refine Pr (z1m jK ev J zY) (by simp) ?_;rw[gg,zor];simp[Y];exact⟨J,Z _ Al Ae As Af Bi Bc Br Em (by simp)⟩
   by_cases AD:i=W7 vs o.d.toNat
   ·have jA:(i:Int)=(vs.length:Int)+((W7 vs o.d.toNat:Int)-vs.length):=J
    simp[A,F,g,C,K,M,O,Q,Y,jU,g',j,gG,jz,←jA];exact⟨J,J,Z _ Al Ae As Af Bi Bc Br Em (by simp)⟩
   ·have jA:¬(i:Int)=(vs.length:Int)+((W7 vs o.d.toNat:Int)-vs.length):=J
    have gK:=r2 i jU (by rw[ed];exact gG) jz AD;obtain⟨jK,hO⟩:∃jK,X.getD i []=jK:=⟨_,rfl⟩;rw[hO]at gK zD;rw[gK]at jF;have jg:sX.bufs[i]?.getD []=jK:=by rw[←J0];exact gK
    have AE:X[i]?.getD []=jK:=by rw[←J0];exact hO
    have AF:jK.length≤1000000000:=by
     rw[hO]at AB;omega
    simp[A,F,g,C,K,M,O,Q,Y,jU,g',j,gG,jz,jA,Pe jF,Pe zD,jg,AE];refine⟨J,J,J,?_⟩;refine Pr (zrr jK jK AF) (by simp) ?_;simp[Y];exact⟨J,Z _ Al Ae As Af Bi Bc Br Em (by simp)⟩
  ·have g':¬(i:Int)<(vs.length:Int)+2:=J
   simp[A,F,g,C,K,M,O,Q,Y,jU,g']
end
section
set_option linter.unusedVariables false
def z9y:LC:=(.q [.e 2] (.q [.z 3 (.buildSl 3 0 [] []),.m 4 0,.a 5 3 3 4,.m 2 5] .ret))
def r_kit_Own_api_Var:Pk Tryz.prog 25=some ⟨6,z9y.r,[.tmp 2]⟩:=Aa
def zem:LC:=(.q [.e 2] (.q [.m 5 0,.w 6 25 5,.m 3 6] (.seq (.q [.K 4 0] (.block 0 (.loop (.seq (.q [.m 7 4,.m 8 3,.s 9 8,.c 10 .lss 3 7 9] (.cond (.t 10) .skip (.exit 0))) (.seq (.block 1 (.ops [.m 13 3,.m 14 4,.I 15 3 13 14,.f 16 2 15,.v (.store 1 (.t 16) (.k 0))])) (.ops [.m 11 4,.b 12 .add 3 11 1,.m 4 12])))))) (.q [.m 17 3,.m 2 17] .ret))))
def r_law22_plain:Pk Tryz.prog 6=some ⟨18,zem.r,[.tmp 2]⟩:=Aa
def z3d:LC:=(.q [.x 5 1,.F 8] (.seq (.q [.z 14 (.w 5 []),.z 15 (.un .not (.t 14))] (.cond (.t 15) (.q [.F 8] .ret) .skip)) (.seq (.q [.m 16 0,.s 17 16,.b 18 .gtr 3 17 12] (.cond (.t 18) (.q [.z 8 (.move .T)] .ret) .skip)) (.q [.m 19 0,.w 20 6 19,.m 0 20] (.seq (.q [.m 21 0,.z 22 (.w 7 [.t 21,.k 9]),.z 23 (.un .not (.t 22)),.m 24 23,.mn 25 24 3,.n 26 24 (.lenSl (.t 25)),.nb 27 24 .gtr 3 26 40,.p 28 24 27,.m 29 28,.mn 30 29 0,.n 31 29 (.loadN 7 (.t 5)),.n 32 29 (.w 8 [.t 30,.t 31]),.n 33 29 (.un .not (.t 32)),.p 34 29 33,.m 35 34,.nf 36 35 0 5,.nl 37 35 36,.n 38 35 (.w 9 [.t 37]),.n 39 35 (.un .not (.t 38)),.p 40 35 39] (.cond (.t 40) (.q [.z 8 (.move .T)] .ret) .skip)) (.q [.m 41 2,.z 42 (.w 10 [.t 41,.k 5]),.m 2 42] (.q [.K 9 0] (.seq (.q [.K 10 0] (.block 0 (.loop (.seq (.q [.m 43 10,.m 44 0,.s 45 44,.c 46 .lss 3 43 45] (.cond (.t 46) .skip (.exit 0))) (.seq (.block 1 (.ops [.m 49 9,.m 50 0,.m 51 10,.I 52 3 50 51,.f 53 0 52,.l 54 53,.z 55 (.maxi true (.t 49) (.t 54)),.m 9 55])) (.ops [.m 47 10,.b 48 .add 3 47 1,.m 10 48])))))) (.q [.m 56 0,.L 57 7 5,.W 58 11 56 57,.m 11 58] (.seq (.q [.m 59 11,.b 60 .lss 3 59 1,.m 61 60,.mn 62 61 11,.mn 63 61 9,.n 64 61 (.bin .mul true 3 (.k 8) (.t 63)),.nb 65 61 .add 3 64 16,.n 66 61 (.bin .gtr false 3 (.t 62) (.t 65)),.p 67 61 66] (.cond (.t 67) (.q [.F 8] .ret) .skip)) (.seq (.draw [(.m 69 0,[]),(.L 70 7 5,[]),(.m 71 0,[]),(.m 72 11,[]),(.m 74 2,[]),(.W 73 13 71 72,[(.L 70 7 5,false)]),(.z 75 (.w 12 [.t 69,.t 70,.t 73,.t 74]),[]),(.m 68 75,[]),(.X 76 0 68,[]),(.X 77 1 68,[]),(.m 12 76,[]),(.m 13 77,[])]) (.q [.m 78 13,.b 79 .eql 37 78 0,.m 80 79,.my 81 80 0,.y 82 80 (.loadN 7 (.t 5)),.my 83 80 12,.my 84 80 11,.my 85 80 2,.my 86 80 3,.y 87 80 (.w 14 [.t 81,.t 82,.t 83,.t 84,.t 85,.t 86]),.q 88 80 87,.m 8 88] .ret))))))))))))
def r_law22_ExpandMeans:Pk Tryz.prog 3=some ⟨89,z3d.r,[.tmp 8]⟩:=Aa
def zvX(v:Vr):Vr:=⟨v.limbs,v.sec,0⟩
def lay_modeX:∀(l:List Vr) (i:Nat),i<l.length→Qj (Py l) (i*3+2) [.i 0]=Py (l.set i (zvX (gv l i)))
 |[],i,h=>Cc
 |v::l,0,_=>by
  simp[Qj,Py,zvX,gv,Vr.f]
 |v::l,i+1,h=>by
  have g:=lay_modeX l i Aw;have e:∀w:List Vr,Py (v::w)=v.f++Py w:=λw=>by simp[Py]
  have j:gv (v::l) (i+1)=gv l i:=rfl;rw[O0,e,e,j,←g];unfold Qj;rw[show (i+1)*3+2=v.f.length+(i*3+2) by rw[Vr.f_len];omega,List.take_length_add_append,L7,List.drop_length_add_append];simp
def zlo(l:List Vr):(Py l).all LV.scal=true:=by
 induction l with
 |nil=>rfl
 |cons x l g=>simp only[Py,Nj]at g ⊢;rw[List.all_append,g];rfl
def zwi(l:List Vr)(h:l.length≤1048576):Pl 25 [.lst (Py l) l.length 3] (.dy 0 0) [.dyn (Py l) l.length 3 0 0]:=by
 refine P4.mk rfl (Pj r_kit_Own_api_Var Aa N ?_) (λg j e=>?_)
 ·simp[z9y,h];exact⟨[.dy 0 1],rfl,rfl,by simp[X8,zlo]⟩
 ·cases g with
  |zero=>simp at e;subst e;exact⟨_,_,_,rfl,zlo l⟩
  |succ g=>simp at e
def zs5(j:List Vr)(hv:j.length≤1000)
  (L:∀(g:List Vr) (p st:Nat) (H:Pd),g.length=j.length→(∀A,A<j.length→(gv g A).mode=0)→I.length≤p→(∀q,q<I.length→H[q]?=I[q]?)→H[p]?=some (.dyn (Py g) g.length 3 0 st)→Z (.dy p 0) H) :
  Ql (.fn 6) [.lst (Py j) j.length 3] I Z:=by
 refine Pj r_law22_plain Aa (by simp) ?_;simp[zem];refine X7 (zwi j J) (bors_self _ Bk) ?_;simp;refine Qt (λM T H O=>∃(i st:Nat) (g:List Vr),T=[]∧O+i=j.length∧g.length=j.length∧(∀A,A<i→(gv g A).mode=0)∧lk M 3=.dy I.length 0∧lk M 4=.i i∧H=I++[.dyn (Py g) j.length 3 0 st]) (N:=j.length)
  ⟨0,0,j,rfl,J,rfl,λA P=>J,by simp,by simp,by simp⟩ ?_
 rintro O M T H ⟨i,st,g,rfl,V,z,B,E,K,rfl⟩ X F;by_cases U:i<j.length
 ·have D:i<g.length:=J
  have C:=lay_modeX g i D;have Y:=mz D;have G:gv (g.set i (zvX (gv g i))) i=zvX (gv g i):=by
   unfold gv;rw[ay _ _ _ _ _ D,J6 rfl]
  simp[E,K,U];rw[C];refine⟨J,J,F _ _ _ ⟨O-1,J,i+1,st+1,g.set i (zvX (gv g i)),rfl,J,Aq,λA P=>?_,Ax,by simp,by simp⟩⟩;by_cases e:A=i
  ·rw[e,G];rfl
  ·have:=B A J;have Q:gv (g.set i (zvX (gv g i))) A=gv g A:=by unfold gv;rw[ay _ _ _ _ _ D,J1 e]
   rw[Q];exact this
 ·simp[E,K,U];have hi:i=j.length:=J
  subst hi;exact L g I.length st _ z B (J8 _) (λq R=>J4 R) (by rw[z];exact Kg)
def zc9(H:List Vr)(o:Ko)(dp:Int)(fill:List UInt64)(_:H.length≤9223372036854775807)(_:Xc dp)(_:fill.length≤9223372036854775807):Ql (.fn 3) [.lst (Py H) H.length 3,.agg o.f,.i dp,LU fill] [] λv _=>v=.bool true:=by
 refine ztq r_law22_ExpandMeans Aa (by simp) ?_;have z:o.f=[.i o.kind,.i o.d,.i o.e,.i o.a,.i o.b,.i o.c,.u o.imm]:=rfl;refine zy2 (Φ:=λF gF Q=>∃(g:List Vr) (p st:Nat),g.length=H.length∧H.length≤12∧(∀U,U<H.length→(gv g U).mode=0)∧1≤p∧gF=[]∧lk F 0=.dy p 0∧lk F 2=.i dp∧lk F 3=LU fill∧lk F 5=.ptr 0 0∧1≤Q.length∧Q[0]?=some (.cells o.f 0)∧Q[p]?=some (.dyn (Py g) g.length 3 0 st)) 3 _ rfl (λNX K=>?_) (λF gF Q hΦ=>?_)
 ·simp[z3d,Zs,z];refine Pr law22_lives_ok (by simp) ?_;by_cases g1:(12:Int)<H.length
  ·simp[g1]
  simp[g1];refine zs5 H J λg p st Q V L hp gG A=>?_
  have B:=gG 0 (by simp);simp at hp B;simp;exact K _ _ _ ⟨g,p,st,V,J,L,J,rfl,by simp,by simp,Gt,by simp,(Jy.1 A).1 |> λh=>J,by rw[B,z],A⟩
 obtain⟨g,p,st,V,gT,L,hp,rfl,R,T,M,D,gH,B,A⟩:=hΦ;refine W_fz (t:=0) A R ?_;have E:(Q.set p (.dead (st+1)))[0]?=_:=(Jz J).trans B;generalize Q.set p (.dead (st+1))=Q at *;clear A B gH R hp;have X:dats [LV.lst (Py g) g.length 3,.agg o.f]=true:=by simp[dats,LV.dat,Tt,z]
 have gI:dats [LV.lst (Py g) g.length 3]=true:=Bk
 refine zy2 (Φ:=λF gF Q=>∃(I:Nat) (j:Int),(Te o.kind=true∧Tg g=true∧Qk g o=true∧(∀i,i<g.length→(gv g i).limbs≤9))∧fill.length≤40∧I≤4∧(∀i,i<g.length→(gv g i).limbs≤j)∧0≤j∧j≤9∧gF=[]∧lk F 0=.lst (Py g) g.length 3∧lk F 2=.i I∧lk F 3=LU fill∧lk F 5=.ptr 0 0∧lk F 9=.i j∧Q[0]?=some (.cells o.f 0)) 3 _ rfl (λNX K=>?_) (λF gF Q hΦ=>?_)
 ·simp[z3d,Zs,T,M,D,E,z];refine Pr (zks g 9 J) (bors_self _ gI) ?_;cases hL:((g.all λv=>decide (v.limbs≤9))&&decide (g.length≤12)) with
  |false=>simp
  |true =>
  have G:∀i,i<g.length→(gv g i).limbs≤9:=λi hi=>by
   simp only[J2]at hL;exact Mn (Li.1 hL.1 _ (nq hi))
  by_cases g2:(40:Int)<fill.length
  ·simp[M,g2,LU]
  simp[M,D,g2,LU,E,z];rw[←z];refine Pr (zl5 g o J) (bors_self _ X) ?_;cases hA:(Tg g&&Qk g o) with
  |false=>simp
  |true =>
  rw[J2]at hA;simp[D,E,z];refine Pr (zr7 o.kind) (by simp) ?_;cases hK:Te o.kind with
  |false=>simp
  |true =>
  simp[T];obtain⟨I,O,gK⟩:=zs8 dp 5 J;refine Pr gK (by simp) ?_;simp;refine Qt (λF gF G' N=>∃(i:Nat) (j:Int),gF=[]∧N+i=g.length∧(∀U,U<i→(gv g U).limbs≤j)∧0≤j∧j≤9∧lk F 0=.lst (Py g) g.length 3∧lk F 2=.i I∧lk F 3=LU fill∧lk F 5=.ptr 0 0∧lk F 9=.i j∧lk F 10=.i i∧G'=Q) (N:=g.length)
   ⟨0,0,rfl,J,λU hj=>J,J,J,by simp,by simp,by simp[M,LU],At,by simp,by simp,rfl⟩ ?_
  rintro N F gF Q ⟨i,j,rfl,hN,hb,Y,Z,e0,e2,e3,e5,e9,gg,rfl⟩ Nx gL;by_cases gU:i<g.length
  ·have q0:=zl (Vf gU);have hq:=mz gU;have h9:=G i gU;simp[e0,e9,gg,gU,Pe q0];refine⟨J,gL _ _ _ ⟨N-1,J,i+1,max j (gv g i).limbs,rfl,J,λU hj=>?_,J,J,by simp[e0],by simp[e2],by simp[e3],by simp[e5],by simp,by simp,rfl⟩⟩;by_cases e:U=i
   ·rw[e];omega
   ·have:=hb U J;omega
  ·simp[e0,gg,gU];exact K _ _ _ ⟨I,j,⟨hK,hA.1,hA.2,G⟩,J,J,λU hj=>hb U J,Y,Z,rfl,by simp[e0],by simp[e2],by simp[e3],by simp[e5],by simp[e9],E⟩
 clear T M D E;obtain⟨I,j,⟨hK,gM,gO,G⟩,gR,O,gD,Y,Z,rfl,R,T,M,D,h9,E⟩:=hΦ;have h:ExV g o:=⟨hK,gM,gO,λi hi=>L i J,G,J⟩;have hw:=ze6 h;have gV:=hw.2.2.2.2.2 j gD;refine Vc _ ?_;simp[z3d,Zs,R,D,E,z];rw[←z];refine Pr (zdm g o J) (bors_self _ X) ?_;have c1:¬Pt g o<1:=J
 have c2:¬8*j+16<Pt g o:=J
 have P:Rk 13 [.lst (Py g) g.length 3,.i (Pt g o)] (.agg (Sj (Qx g (Pt g o)) (Vg g) ⟨g.length,0,Pt g o⟩ ⟨(g.length:Int)+1,0,Pt g o⟩)):=zgx g (Pt g o) J;have C:=zj0 g o (Qx g (Pt g o)) (Vg g) ⟨g.length,0,Pt g o⟩ ⟨(g.length:Int)+1,0,Pt g o⟩ I J (by rw[plB_len];omega);have hR:=zla (fill:=fill) (deep:=I) h O gR;obtain⟨e1,e2⟩:=ex_code h O;rw[e1,e2]at C;simp[R,T,D,h9,E,z,c1,c2]
 try rw[←z]
 refine⟨J,J,?_⟩;refine Ux P Bk ?_;simp[D,E,z];rw[←z];refine Ux C (by simp[dats,LV.dat,Tt,z,zcl]) ?_;simp[R,T,M,D,E,z];rw[←z];refine Pr hR (bors_self _ (by simp[dats,LV.dat,Tt,z,W9,LU,zeu])) ?_;simp
end
end Go.Proofs.YtmnciecehjcjhaaGreat
end
