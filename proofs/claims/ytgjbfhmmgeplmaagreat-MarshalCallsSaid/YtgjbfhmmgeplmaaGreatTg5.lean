/- The templates: see the main text. -/
import Derived.Test.YtgjbfhmmgeplmaaGreatTg4
import Derived.Test.YtgjbfhmmgeplmaaGreatTg1
import Derived.Test.YtgjbfhmmgeplmaaGreatTg3
import Derived.Test.YtgjbfhmmgeplmaaGreatTg0
import Derived.Test.YtgjbfhmmgeplmaaGreatSvG2
import Derived.Test.YtgjbfhmmgeplmaaGreatSvG3
set_option linter.defProp false
noncomputable section
namespace Go.Proofs.YtgjbfhmmgeplmaaGreat
open Go.Sv
set_option linter.unusedSimpArgs false
set_option maxRecDepth 10000
variable{g j:Nat}{F:M4}{P:LV→M4→Prop}
section
set_option linter.unusedVariables false
def znl(vs:List Vr)(g j:List Ko):Bool:=vs.all (λv=>decide (v.limbs≤30))&&(decide ((vs.length:Int)≤20)&&(decide ((g.length:Int)≤40)&&decide ((j.length:Int)≤40)))
def zo3(l:List (List UInt64)):Bool:=decide (l.length≤(20:Int)∧∀x∈l,(x.length:Int)≤30)
end
def zvq{bs:List UInt8}{n t p s1 s2 st:Nat}(R:Nat→M4→Prop)(S:bs.length=8*n)(Y:bs.length≤1000000)
  (T:∀i F,R i F→F[g]?=some (.cells [.dy p 0] s1)∧F[j]?=some (.cells [.i 8] s2)∧F[p]?=some (.dyn (bs.map .b) bs.length 1 0 st))
  (z:∀(i:Nat) (F:M4) (P:LV→M4→Prop),R i F→i<n→(∀A,R (i+1) A→P (.bool true) A)→O6 (.yield t) [.vw p 0 (8*i) 8] F P)
  (Z:R 0 F) (k:∀A,R n A→P (.tup []) A):O6 (.fn 114) [.fn (.yield t) [] [],.ptr g 0,.ptr j 0] F P:=by
 refine Nd r_slices_Chunk_byte_byte_1 Aa (by simp) ?_;simp[z3t];refine Ns (λU gB F N=>∃i:Nat,gB=[]∧N+i=n∧lk U 0=.fn (.yield t) [] []∧lk U 1=.ptr g 0∧lk U 2=.ptr j 0∧lk U 4=.i (8*i:Nat)∧R i F) (N:=n) ⟨0,by simpa using Z⟩ ?_;rintro N U gB F ⟨i,rfl,hN,V,C,D,E,G⟩ Nx H;obtain⟨X,j2,I⟩:=T i F G;by_cases hz:N=0
 ·have hi:i=n:=J
  have K:¬8*(i:Int)<bs.length:=J
  subst hi;simp[E,C,X,I,K];exact k _ G
 ·have K:8*(i:Int)<bs.length:=J
  simp[E,C,D,V,X,j2,I,K];have z1:(8*(i:Int)).toNat=8*i:=J
  have z2:min 8 ((bs.length-8*i:Nat):Int)=8:=J
  have z3:(8*(i:Int)+8).toNat=8*i+8:=J
  simp only[z1,z2,z3,Lq];refine⟨J,J,J,J,J,J,J,J,?_⟩;have L:∀M,O6 (.yield t) [.vw p 0 (8*i) 8] F M→O6 (.yield t) [i1 p 0 (8*i) (8*i+8) (8*i+8)] F M:=λM h=>by
   by_cases O:i=0
   ·subst O;rw[i3 J];exact Zx (a:=[]) (b:=[]) I J h
   ·rw[jx J,Lq];exact h
  refine L _ (z i F _ G J (λA B=>?_));obtain⟨gg,Q,gj⟩:=T _ A B;simp[E,D,Q];refine⟨J,H _ _ _ ⟨N-1,J,i+1,rfl,J,Ch,Ae,Bc,Ab,B⟩⟩
def Z1{p:Nat}(k:P (.fn (.func 114) [] [.ptr F.length 0,.ptr (F.length+1) 0]) (F++[.cells [.dy p g] 0,.cells [.i 8] 0])):O6 (.fn 68) [.dy p g,.i 8] F P:=by
 refine Nd r_slices_Chunk_byte_byte Aa N ?_;simp[z4c];simpa using k
def Od(s:List UInt8):List UInt64:=if s.length%8≠0∨4096<s.length then [] else Oe (val (Wk s (s.length/8)))
def O8(s:List UInt8):Int:=if s.length%8≠0 then 2 else if 4096<s.length then 3 else 0
def z7p(s:List UInt8)(hs:s.length≤1000000):Na 30 [.str s] (.tup [.dy 0 0,.i (O8 s)]) [RU (Od s)]:=by
 refine Np.rowE (Nd r_marshal_Nat Aa N ?_);have hm:(s.length:Int).tmod 8=(s.length:Int)%8:=Int.tmod_eq_emod_of_nonneg J;by_cases M:s.length%8=0
 ·have O:(s.length:Int)%8=0:=J
  by_cases U:4096<s.length
  ·have G:(4096:Int)<s.length:=J
   have e:O8 s=3:=by simp[O8,M,U]
   have H:Od s=[]:=by simp[Od,U]
   simp[z6j,hm,O,G,e,H,Rj]
  ·have G:¬(4096:Int)<s.length:=J
   have e:O8 s=0:=by simp[O8,M,U]
   have H:Od s=Oe (val (Wk s (s.length/8))):=by simp[Od,M,U]
   simp[z6j,hm,O,G,e,H];refine Z1 ?_;simp;refine fg (fn':=114) (first:=[]) (cap:=[.ptr 2 0,.ptr 3 0]) N ?_;intro V X D gg gj P;simp;obtain⟨n,hn⟩:∃n,s.length=8*n:=⟨s.length/8,J⟩;have hd:s.length/8=n:=J
   rw[hd];refine zvq (n:=n) (bs:=s) (st:=0) (s1:=0) (s2:=0) (p:=1) (λi T=>∃E v j,T[0]?=some (.cells [v] j)∧T[1]?=some (.dyn (s.map .b) s.length 1 0 0)∧T[2]?=some (.cells [.dy 1 0] 0)∧T[3]?=some (.cells [.i 8] 0)∧T[4]?=some (.defd true)∧T[5]?=some (.loop .ready none 30 26 E D V X 4)∧lk E 4=.ptr 0 0∧Rj T v (Wk s i)∧∀q,q<6→∀k,v≠.dy q k) hn hs ?_ ?_ ?_ ?_
   ·rintro i T ⟨E,v,j,Y,Z,g2,g3,g4,I,L,F,g⟩;exact⟨g2,g3,Z⟩
   ·rintro i T gH ⟨E,v,j,Y,Z,g2,g3,g4,I,L,F,g⟩ hi hK;refine zqr I gg gj rfl rfl P rfl N (Su _ ?_);simp[zs5,I];generalize z:T.set 5 _=C;have f0:C[0]?=some (.cells [v] j):=by rw[←z,Sk Ad];exact Y
    have f1:C[1]?=some (.dyn (s.map .b) s.length 1 0 0):=by rw[←z,Sk Ad];exact Z
    have f5:=Wz I (.loop .busy none 30 26 E D V X 4);rw[z]at f5;refine Su _ ?_;simp[L,f0];have Q:((s.drop (8*i)).take 8).length=8:=Ab
    have hb:bor C (.vw 1 0 (8*i) 8) (LB ((s.drop (8*i)).take 8)):=⟨_,_,_,_,Bq,f1,Ab,N⟩;have gB:Rj C v (Wk s i):=by
     rcases F with F|⟨p,k,st,B,K⟩
     ·exact .inl F
     ·refine .inr ⟨p,k,st,B,?_⟩;rw[←z,Sk (λe=>g 5 Ad k (by rw[B,e]))];exact K
    refine Nb (zb1 _ J) (zy1 hb) ?_;rw[Q];have R:∀x,(C++x)[0]?=some (.cells [v] j):=λx=>Rl f0 x
    have gC : ∀(x : M4) (h : 0<(C ++ x).length), (C ++ x)[0]'h = .cells [v] j := λx h => (H7.1 (R x)).2
    simp[L,f0,R,gC]
    ·refine zsk (gB.app _) (xs:=[Qw ((s.drop (8*i)).take 8) 8]) rfl N Fg (λv' G' hr A=>?_);have f2:C[2]?=some (.cells [.dy 1 0] 0):=by rw[←z,Sk Ad];exact g2
     have f3:C[3]?=some (.cells [.i 8] 0):=by rw[←z,Sk Ad];exact g3
     have f4:C[4]?=some (.defd true):=by rw[←z,Sk Ad];exact g4
     obtain⟨w0,m0⟩:=A 0 _ (Rl f0 _) (g 0 Ad);obtain⟨w1,m1⟩:=A 1 _ (Rl f1 _) (g 1 Ad);obtain⟨w2,m2⟩:=A 2 _ (Rl f2 _) (g 2 Ad);obtain⟨w3,m3⟩:=A 3 _ (Rl f3 _) (g 3 Ad);obtain⟨w4,m4⟩:=A 4 _ (Rl f4 _) (g 4 Ad);obtain⟨w5,m5⟩:=A 5 _ (Rl f5 _) (g 5 Ad);have S:=hr.cells;simp only[LV.cells]at S;simp[L,w0,w5,S];refine hK _ ⟨E,v',j+1,?_,?_,?_,?_,?_,?_,L,?_,?_⟩
     ·rw[Sk Ad,Wz w0]
     ·rw[Sk Ad,Sk Ad,w1]
     ·rw[Sk Ad,Sk Ad,w2]
     ·rw[Sk Ad,Sk Ad,w3]
     ·rw[Sk Ad,Sk Ad,w4]
     ·exact Wz (by rw[Sk Ad];exact w5) _
     ·rcases hr with hr|⟨p,k,st,e1,H⟩
      ·exact .inl hr
      ·refine .inr ⟨p,k,st,e1,?_⟩;rw[Sk (λe=>m5 k (by rw[e1,e])),Sk (λe=>m0 k (by rw[e1,e]))];exact H
     ·intro q hq k
      match q,hq with
      |0,_=>exact m0 k
      |1,_=>exact m1 k
      |2,_=>exact m2 k
      |3,_=>exact m3 k
      |4,_=>exact m4 k
      |5,_=>exact m5 k
   ·exact⟨_,.nilSl,0,rfl,rfl,rfl,rfl,rfl,rfl,N,.inl ⟨rfl,rfl⟩,N⟩
   ·rintro G' ⟨E,v,j,Y,Z,g2,g3,g4,I,L,F,g⟩;have gD:Rj (G'.set 5 (.loop .exhausted none 30 26 E D V X 4)) v (Wk s n):=by
     rcases F with F|⟨p,k,st,B,K⟩
     ·exact .inl F
     ·refine .inr ⟨p,k,st,B,?_⟩;rw[Sk (λe=>g 5 Ad k (by rw[B,e]))];exact K
    simp[zx5,I,Y];refine zdl (z8p _ Fg) (zy1 gD.bor) ?_;have gG:=(H7.1 I).1;have gE:∀x,(G'.set 5 (.loop .exhausted none 30 26 E D V X 4)++x)[4]?=some (.defd true):=λx=>Rl (by rw[Sk Ad];exact g4) x
    simp[gE];refine .inr ⟨G'.length,0,0,rfl,?_⟩;rw[Sk J];simp[RU]
 ·have gF:¬(s.length:Int)%8=0:=J
  have e:O8 s=2:=by simp[O8,M]
  have H:Od s=[]:=by simp[Od,M]
  simp[z6j,hm,gF,e,H,Rj]
section
set_option linter.unusedVariables false
def zfq:LC:=(.q [.z 2 (.move (.c (.u 0)))] (.q [.z 3 (.move (.c (.u 0)))] (.seq (.q [.K 4 7] (.block 0 (.loop (.seq (.q [.m 5 4,.b 6 .geq 3 5 0] (.cond (.t 6) .skip (.exit 0))) (.seq (.block 1 (.ops [.m 9 3,.u 10 .shl 43 9 8,.m 11 0,.m 12 4,.z 13 (.ixStr (.t 11) (.t 12)),.z 14 (.cvInt .u64 (.t 13)),.c 15 .add 43 10 14,.m 3 15])) (.ops [.m 7 4,.b 8 .sub 3 7 1,.m 4 8])))))) (.q [.m 16 3,.m 2 16] .ret))))
def r_ref27_limb:Nf Tryz.prog 70=some ⟨17,zfq.r,[.tmp 2]⟩:=Aa
def zdb:LC:=(.q [.z 4 (.move (.c (.str []))),.K 5 0] (.q [.m 12 0,.m 13 1,.W 14 22 12 13,.m 11 14,.X 15 0 11,.X 16 1 11,.m 6 15,.m 7 16] (.seq (.q [.m 17 7,.b 18 .neq 35 17 0] (.cond (.t 18) (.q [.m 19 7,.z 4 (.move (.c (.str []))),.m 5 19] .ret) .skip)) (.q [.e 8] (.seq (.q [.K 9 0] (.block 0 (.loop (.seq (.q [.m 20 9,.m 21 6,.s 22 21,.c 23 .lss 3 20 22] (.cond (.t 23) .skip (.exit 0))) (.seq (.block 1 (.q [.K 10 0] (.block 2 (.loop (.seq (.q [.m 26 10,.b 27 .lss 3 26 8] (.cond (.t 27) .skip (.exit 2))) (.seq (.block 3 (.ops [.m 30 8,.m 31 6,.m 32 9,.I 33 1 31 32,.l 34 33,.m 35 10,.z 36 (.bin .mul true 3 (.k 8) (.t 35)),.z 37 (.cvInt .u64 (.t 36)),.c 38 .shr 43 34 37,.z 39 (.cvInt .u8 (.t 38)),.z 40 (.buildSl 1 1 [(.b 0)] [(0,1,.t 39)]),.a 41 1 30 40,.m 8 41])) (.ops [.m 28 10,.b 29 .add 3 28 1,.m 10 29]))))))) (.ops [.m 24 9,.b 25 .add 3 24 1,.m 9 25])))))) (.q [.m 42 8,.z 43 (.cvStr (.t 42)),.m 4 43,.K 5 0] .ret))))))
def r_ref27_Bytes:Nf Tryz.prog 29=some ⟨44,zdb.r,[.tmp 4,.tmp 5]⟩:=Aa
def z96:LC:=(.q [.e 2,.K 3 0] (.seq (.q [.m 6 0,.z 7 (.lenStr (.t 6)),.b 8 .rem 3 7 8,.b 9 .neq 3 8 0] (.cond (.t 9) (.q [.e 2,.K 3 2] .ret) .skip)) (.seq (.q [.m 10 0,.z 11 (.lenStr (.t 10)),.b 12 .gtr 3 11 4096] (.cond (.t 12) (.q [.e 2,.K 3 3] .ret) .skip)) (.q [.e 4] (.seq (.q [.K 5 0] (.block 0 (.loop (.seq (.q [.m 13 5,.m 14 0,.z 15 (.lenStr (.t 14)),.c 16 .lss 3 13 15] (.cond (.t 16) .skip (.exit 0))) (.seq (.block 1 (.ops [.m 19 4,.m 20 0,.m 21 5,.m 22 5,.b 23 .add 3 22 8,.z 24 (.slStr (.t 20) (some (.t 21)) (some (.t 23))),.w 25 70 24,.z 26 (.buildSl 1 1 [(.u 0)] [(0,1,.t 25)]),.a 27 1 19 26,.m 4 27])) (.ops [.m 17 5,.b 18 .add 3 17 8,.m 5 18])))))) (.q [.m 28 4,.w 29 63 28,.m 2 29,.K 3 0] .ret))))))
def r_ref27_Nat:Nf Tryz.prog 31=some ⟨30,z96.r,[.tmp 2,.tmp 3]⟩:=Aa
def zhn:LC:=(.q [.e 2,.K 3 0] (.q [.e 4] (.seq (.block 0 (.loop (.seq (.q [.m 8 0,.z 9 (.lenStr (.t 8)),.b 10 .gtr 3 9 0] (.cond (.t 10) .skip (.exit 0))) (.block 1 (.seq (.q [.m 11 0,.z 12 (.lenStr (.t 11)),.b 13 .lss 3 12 8] (.cond (.t 13) (.q [.e 2,.K 3 2] .ret) .skip)) (.q [.m 14 0,.z 15 (.slStr (.t 14) none (some (.k 8))),.w 16 70 15,.m 5 16] (.q [.m 17 0,.z 18 (.slStr (.t 17) (some (.k 8)) none),.m 0 18] (.seq (.q [.m 19 5,.u 20 .gtr 43 19 512,.m 21 20,.mn 22 21 0,.n 23 21 (.lenStr (.t 22)),.mn 24 21 5,.n 25 21 (.cvInt .i64 (.t 24)),.n 26 21 (.bin .mul true 3 (.k 8) (.t 25)),.n 27 21 (.bin .lss false 3 (.t 23) (.t 26)),.p 28 21 27] (.cond (.t 28) (.q [.e 2,.K 3 2] .ret) .skip)) (.q [.m 30 0,.m 31 5,.z 32 (.bin .mul true 43 (.c (.u 8)) (.t 31)),.z 33 (.slStr (.t 30) none (some (.t 32))),.w 34 31 33,.m 29 34,.X 35 0 29,.X 36 1 29,.m 6 35,.m 7 36] (.q [.m 37 4,.m 38 6,.z 39 (.buildSl 1 1 [.nilSl] [(0,1,.t 38)]),.a 40 1 37 39,.m 4 40] (.ops [.m 41 0,.m 42 5,.z 43 (.bin .mul true 43 (.c (.u 8)) (.t 42)),.z 44 (.slStr (.t 41) (some (.t 43)) none),.m 0 44]))))))))))) (.q [.m 45 4,.m 2 45,.K 3 0] .ret))))
def r_ref27_Row:Nf Tryz.prog 33=some ⟨46,zhn.r,[.tmp 2,.tmp 3]⟩:=Aa
def zej(s:List UInt8)(h:s.length=8):Na 70 [.str s] (.u (Qw s 8)) []:=by
 refine Np.val rfl (Nd r_ref27_limb Aa (by simp) ?_);simp[zfq];refine Ns (λB F G N=>∃d:Nat,F=[]∧N+d=8∧lk B 0=.str s∧lk B 3=.u (U8 s d)∧lk B 4=.i (7-(d:Int))) (N:=8) ⟨0,rfl,rfl,by simp,by simp[U8],by simp⟩ ?_;rintro N B F G ⟨d,rfl,H,j,z,A⟩ I g;by_cases K:d<8
 ·have C:(0:Int)≤7-(d:Int):=J
  have D:(7-(d:Int)).toNat=7-d:=J
  have E:(d:Int)≤7:=J
  simp[j,z,A,C,D,E];refine⟨J,J,g _ _ _ ⟨N-1,J,d+1,rfl,J,Au,?_,Ab⟩⟩;simp[U8,Ie]
 ·have hd:d=8:=J
  subst hd;simp[z,A];exact zu4 s
def zcb(a:List UInt64)(n:Int)(I:a.length≤1000000):Na 29 [LU a,.i n] (.tup [.str (T3 (N4 a n)),.i (Og a n)]) []:=by
 refine Np.val rfl (Nd r_ref27_Bytes Aa (by simp) ?_);simp[zdb];refine Nb (zae a n I) (by simp) ?_;by_cases E:Og a n=0
 ·have B:(N4 a n).length≤1000:=by
   have:=zcl E;omega
  generalize N4 a n=x at B;simp[E,RU];refine Ns (λD G H N=>∃i:Nat,G=[]∧N+i=x.length∧lk D 6=LU x∧lk D 9=.i i∧Qd H (lk D 8) (T3 (x.take i))) (N:=x.length) ⟨0,by simp[T3,Qd]⟩ ?_;rintro N D G H ⟨i,rfl,T,g,j,A⟩ U F;by_cases V:N=0
  ·have hi:i=x.length:=J
   subst hi;simp[g,j];refine Qd.str A ?_;simp
  ·have hi:i<x.length:=J
   have K:(T3 (x.take i)).length≤8000:=by rw[bytesUs_length];simp;omega
   simp[g,j,hi];refine Ns (λD G H N=>∃k:Nat,G=[]∧N+k=8∧lk D 6=LU x∧lk D 9=.i i∧lk D 10=.i k∧Qd H (lk D 8) (T3 (x.take i)++Xh x[i] k)) (N:=8) ⟨0,rfl,rfl,Ay,Au,by simp,by simpa [Xh] using A⟩ ?_;clear g j A;rintro L D G H ⟨k,rfl,M,g,j,z,A⟩ O C;by_cases X:k<8
   ·have P:(k:Int)<8:=J
    have Q:(iU (8*(k:Int))).toNat=8*k:=by rw[(J:(8*(k:Int))=((8*k:Nat):Int)),pp J]
    simp[g,j,z,hi,P,Q];refine⟨J,?_⟩;refine zk6 (A.app _) (xs:=[uB (Py x[i] (8*k))]) rfl (by simp) (by simp[z6k];omega) (λY Z R _=>?_);simp[z];refine⟨J,C _ _ _ ⟨L-1,J,k+1,rfl,J,Ay,Au,by simp,?_⟩⟩;simpa [Xh] using R
   ·have S:k=8:=J
    subst S;simp[j,z];refine⟨J,F _ _ _ ⟨N-1,J,i+1,rfl,J,Ay,by simp,?_⟩⟩;rw[zfp hi];simpa [hi] using A
 ·have e:N4 a n=[]:=Ii E;simp[E,e,RU,T3]
def zb6(s:List UInt8)(S:s.length≤1000000):Na 31 [.str s] (.tup [.dy 0 0,.i (O8 s)]) [RU (Od s)]:=by
 refine Np.rowE (Nd r_ref27_Nat Aa (by simp) ?_);have hm:(s.length:Int).tmod 8=(s.length:Int)%8:=Int.tmod_eq_emod_of_nonneg J;by_cases g:s.length%8=0
 case neg =>
  have D:¬(s.length:Int)%8=0:=J
  have e:O8 s=2:=by simp[O8,g]
  have A:Od s=[]:=by simp[Od,g]
  simp[z96,hm,D,e,A,Rj]
 have B:(s.length:Int)%8=0:=J
 by_cases C:4096<s.length
 ·have j:(4096:Int)<s.length:=J
  have e:O8 s=3:=by simp[O8,g,C]
  have A:Od s=[]:=by simp[Od,C]
  simp[z96,hm,B,j,e,A,Rj]
 have j:¬(4096:Int)<s.length:=J
 have e:O8 s=0:=by simp[O8,g,C]
 have A:Od s=Oe (val (Wk s (s.length/8))):=by simp[Od,g,C]
 obtain⟨n,T⟩:∃n,s.length=8*n:=⟨s.length/8,J⟩;have hd:s.length/8=n:=J
 rw[e,A,hd];simp[z96,hm,B,j];refine Ns (λK Q R N=>∃z:Nat,Q=[]∧N+z=n∧lk K 0=.str s∧lk K 5=.i (8*z:Nat)∧Rj R (lk K 4) (Wk s z)) (N:=n) ⟨0,rfl,J,by simp,by simp,by simp[Rj,Wk]⟩ ?_;rintro N K Q R ⟨z,rfl,U,g,E,I⟩ V F;by_cases Z:z<n
 ·have G:8*(z:Int)<s.length:=J
  have L:(8*(z:Int)).toNat=8*z:=J
  have M:(8*(z:Int)+8).toNat=8*z+8:=J
  simp[g,E,G,L,M];have H:(List.take 8 (List.drop (8*z) s)).length=8:=Ab
  refine⟨J,J,J,J,?_⟩;refine Nb (zej _ H) (by simp) ?_;simp;refine zsk (I.app _) (xs:=[Qw ((s.drop (8*z)).take 8) 8]) rfl (by simp) Fg (λX Y O _=>?_);simp[E];refine⟨J,F _ _ _ ⟨N-1,J,z+1,rfl,J,Ay,Ab,by simpa [Wk] using O⟩⟩
 ·have P:z=n:=J
  subst P;have G:¬8*(z:Int)<s.length:=J
  simp[g,E,G];refine zdl (z6p _ Fg) (zy1 I.bor) ?_;simp[RU,Rj];exact⟨_,_,⟨rfl,rfl⟩,0,by simp⟩
def zfn(s:List UInt8)(hs:s.length≤1000000):Qh 33 [.str s] (.tup [LN (Rc s),.i (rowE s)]):=by
 refine Sf.mk (by simp[LV.dat,dats,LN,Un]) (Nd r_ref27_Row Aa (by simp) ?_);simp[zhn];refine Ns (λρ gB gC N=>∃(o:List UInt8) (l:List (List UInt64)),gB=[]∧N=o.length∧l.length+o.length≤s.length∧lk ρ 0=.str o∧Sy gC (lk ρ 4) (l.map LU)∧Rd s o l) (N:=s.length) ⟨s,[],rfl,rfl,by simp,by simp,by simp[Sy],Rd.start s⟩ ?_;rintro N ρ gB gC ⟨o,l,rfl,rfl,gg,z,Y,Q⟩ Nx R;by_cases H:o=[]
 ·subst H;obtain⟨A,B⟩:=Q.fin;have I:=Y.bor (Un (λx=>by simp) l);simp[-bor,-bors,z,A,B];refine⟨_,_,rfl,?_,bors_self _ rfl⟩;simpa [LN] using I
 have j:0<o.length:=List.length_pos_iff.2 H;have S:(0:Int)<o.length:=J
 by_cases K:o.length<8
 ·obtain⟨A,B⟩:=Q.short H K;have C:(o.length:Int)<8:=J
  simp[z,j,K,C,A,B]
 have C:¬(o.length:Int)<8:=J
 simp[z,j,K,C];refine⟨J,?_⟩;have T:(o.take 8).length=8:=Ab
 refine Nb (zej _ T) (by simp) ?_;have D:=Q.next H K;have L:=Q.bad H K;generalize hn:Qw (o.take 8) 8=n at *;by_cases G:512<n
 ·obtain⟨A,B⟩:=L (.inl G);simp[z,G,A,B];omega
 have U:n.toNat≤512:=by
  have:=UInt64.not_lt.1 G;exact this
 have E:List.take (o.length-8) (List.drop 8 o)=List.drop 8 o:=Io (by simp);have M:(Qz 8 n).toNat=8*n.toNat:=by rw[yj,L8];simp;omega
 have O:(o.drop 8).length=o.length-8:=by simp
 by_cases g:(o.drop 8).length<8*n.toNat
 ·obtain⟨A,B⟩:=L (.inr g);rw[O]at g;have F:((o.length-8:Nat):Int)<8*(n.toNat:Int):=J
  simp[z,G,E,F,A,B];omega
 have D:=D (λh=>h.elim G g);rw[O]at g;have F:¬((o.length-8:Nat):Int)<8*(n.toNat:Int):=J
 have V:8*(n.toNat:Int)≤((o.length-8:Nat):Int):=J
 simp[z,G,E,F,V,M];refine⟨J,J,J,J,?_⟩;have P:((o.drop 8).take (8*n.toNat)).length=8*n.toNat:=Ab
 have n1:O8 ((o.drop 8).take (8*n.toNat))=0:=by simp only[O8,P];rw[Ii J,Ii J]
 have n2:Od ((o.drop 8).take (8*n.toNat))=Ue ((o.drop 8).take (8*n.toNat)):=by
  unfold Ue;simp only[Od,P];rw[Ii J]
 have Z:=zb6 ((o.drop 8).take (8*n.toNat)) J;rw[n1,n2]at Z;generalize Ue ((o.drop 8).take (8*n.toNat))=y at *;generalize gj:(o.drop 8).take (8*n.toNat)=bb at *;refine Nb Z (by simp) ?_;simp[RU];refine zm5 (Y.app _) (new:=[LU y]) rfl Ab (λv' G' hr _=>?_);simp[z,E,M];have X:List.take (o.length-8-8*n.toNat) (List.drop (8+8*n.toNat) o)=(o.drop 8).drop (8*n.toNat):=by
  rw[J6,Io Ab]
 refine⟨J,R _ _ _ ⟨_,?_,(o.drop 8).drop (8*n.toNat),l++[y],rfl,rfl,?_,Dh,by simpa using hr,D⟩⟩
 ·simp;omega
 ·simp;omega
def zam(s:List UInt8)(hs:s.length≤1000000):Qh 32 [.str s] (.tup [LN (Rc s),.i (rowE s)]):=by
 refine Sf.mk (by simp[LV.dat,dats,LN,Un]) (Nd r_marshal_Row Aa (by simp) ?_);simp[zdw];refine Ns (λρ gB gC N=>∃(o:List UInt8) (l:List (List UInt64)),gB=[]∧N=o.length∧l.length+o.length≤s.length∧lk ρ 0=.str o∧Sy gC (lk ρ 2) (l.map LU)∧Rd s o l) (N:=s.length) ⟨s,[],rfl,rfl,by simp,by simp,by simp[Sy],Rd.start s⟩ ?_;rintro N ρ gB gC ⟨o,l,rfl,rfl,gg,A,X,Q⟩ Nx R;by_cases B:o=[]
 ·subst B;obtain⟨C,D⟩:=Q.fin;have I:=X.bor (Un (λx=>by simp) l);simp[-bor,-bors,A,C,D];refine⟨_,_,rfl,?_,bors_self _ rfl⟩;simpa [LN] using I
 have Y:0<o.length:=List.length_pos_iff.2 B;by_cases K:o.length<8
 ·obtain⟨C,D⟩:=Q.short B K;have E:(o.length:Int)<8:=J
  simp[A,B,K,E,C,D]
 have E:¬(o.length:Int)<8:=J
 have S:(o.take 8).length=8:=Ab
 simp[A,B,K,E];refine⟨J,?_⟩;refine Nb (zb1 (o.take 8) J) (zy1 (Qd.bor (l:=o.take 8) (.inr ⟨_,0,0,rfl,by simp⟩))) ?_;rw[S];have F:=Q.next B K;have L:=Q.bad B K;generalize hn:Qw (o.take 8) 8=n at *;by_cases H:512<n
 ·obtain⟨C,D⟩:=L (.inl H);simp[A,H,C,D];omega
 have T:n.toNat≤512:=by
  have:=UInt64.not_lt.1 H;exact this
 have G:List.take (o.length-8) (List.drop 8 o)=List.drop 8 o:=Io (by simp);have j:(Qz 8 n).toNat=8*n.toNat:=by rw[yj,L8];simp;omega
 have M:(o.drop 8).length=o.length-8:=by simp
 have O:(iU ((o.length-8:Nat):Int)).toNat=o.length-8:=pp J;by_cases g:(o.drop 8).length<8*n.toNat
 ·obtain⟨C,D⟩:=L (.inr g);rw[M]at g;have z:iU ((o.length-8:Nat):Int)<Qz 8 n:=by rw[Kr,O,j];exact g
  simp[A,H,G,z,C,D];omega
 have F:=F (λh=>h.elim H g);rw[M]at g;have z:¬iU ((o.length-8:Nat):Int)<Qz 8 n:=by rw[Kr,O,j];exact g
 have U:Qz 8 n≤iU ((o.length-8:Nat):Int):=UInt64.not_lt.1 z;simp[A,H,G,z,U,j];refine⟨J,J,?_⟩;have P:((o.drop 8).take (8*n.toNat)).length=8*n.toNat:=Ab
 have n1:O8 ((o.drop 8).take (8*n.toNat))=0:=by simp only[O8,P];rw[Ii J,Ii J]
 have n2:Od ((o.drop 8).take (8*n.toNat))=Ue ((o.drop 8).take (8*n.toNat)):=by
  unfold Ue;simp only[Od,P];rw[Ii J]
 have Z:=z7p ((o.drop 8).take (8*n.toNat)) J;rw[n1,n2]at Z;generalize Ue ((o.drop 8).take (8*n.toNat))=y at *;generalize gj:(o.drop 8).take (8*n.toNat)=bb at *;refine Nb Z (by simp) ?_;simp[RU];refine zm5 (X.app _) (new:=[LU y]) rfl Ab (λv' G' hr _=>?_);simp[A,G,j];have V:List.take (o.length-8-8*n.toNat) (List.drop (8+8*n.toNat) o)=(o.drop 8).drop (8*n.toNat):=by
  rw[J6,Io Ab]
 refine⟨J,R _ _ _ ⟨_,?_,(o.drop 8).drop (8*n.toNat),l++[y],rfl,rfl,?_,Ch,by simpa using hr,F⟩⟩
 ·simp;omega
 ·simp;omega
end
section
set_option linter.unusedVariables false
def z6g:LC:=(.q [.x 10 3,.F 14] (.seq (.q [.z 39 (.w 15 []),.z 40 (.un .not (.t 39))] (.cond (.t 40) (.q [.F 14] .ret) .skip)) (.seq (.q [.m 41 0,.s 42 41,.b 43 .gtr 3 42 30,.m 44 43,.mn 45 44 1,.nb 46 44 .gtr 3 45 30,.mn 47 44 46,.my 48 47 1,.y 49 47 (.bin .leq true 3 (.t 48) (.k 512)),.n 50 44 (.pick (.t 47) (.t 49) .F),.p 51 44 50,.m 52 51,.mn 53 52 2,.n 54 52 (.lenStr (.t 53)),.nb 55 52 .gtr 3 54 600,.p 56 52 55,.m 57 56,.n 58 57 (.loadN 3 (.t 10)),.n 59 57 (.w 16 [.t 58,.k 20,.k 30,.k 40]),.n 60 57 (.un .not (.t 59)),.p 61 57 60,.m 62 61,.mn 63 62 4,.n 64 62 (.w 17 [.t 63,.k 20,.k 30]),.n 65 62 (.un .not (.t 64)),.p 66 62 65,.m 67 66,.mn 68 67 6,.n 69 67 (.w 27 [.t 68]),.n 70 67 (.un .not (.t 69)),.p 71 67 70] (.cond (.t 71) (.q [.z 14 (.move .T)] .ret) .skip)) (.q [.m 73 0,.m 74 1,.W 75 28 73 74,.m 72 75,.X 76 0 72,.X 77 1 72,.m 15 76,.m 16 77] (.q [.m 79 0,.m 80 1,.W 81 29 79 80,.m 78 81,.X 82 0 78,.X 83 1 78,.m 17 82,.m 18 83] (.q [.m 85 2,.w 86 30 85,.m 84 86,.X 87 0 84,.X 88 1 84,.m 19 87,.m 20 88] (.q [.m 90 2,.w 91 31 90,.m 89 91,.X 92 0 89,.X 93 1 89,.m 21 92,.m 22 93] (.q [.m 95 2,.w 96 32 95,.m 94 96,.X 97 0 94,.X 98 1 94,.m 23 97,.m 24 98] (.q [.m 100 2,.w 101 33 100,.m 99 101,.X 102 0 99,.X 103 1 99,.m 25 102,.m 26 103] (.seq (.q [.m 104 15,.m 105 17,.c 106 .neq 9 104 105,.m 107 106,.mn 108 107 16,.mn 109 107 18,.n 110 107 (.bin .neq false 35 (.t 108) (.t 109)),.p 111 107 110,.m 112 111,.mn 113 112 19,.mn 114 112 21,.n 115 112 (.w 34 [.t 113,.t 114]),.n 116 112 (.un .not (.t 115)),.p 117 112 116,.m 118 117,.mn 119 118 20,.mn 120 118 22,.n 121 118 (.bin .neq false 35 (.t 119) (.t 120)),.p 122 118 121,.m 123 122,.mn 124 123 23,.mn 125 123 25,.n 126 123 (.w 35 [.t 124,.t 125]),.n 127 123 (.un .not (.t 126)),.p 128 123 127,.m 129 128,.mn 130 129 24,.mn 131 129 26,.n 132 129 (.bin .neq false 35 (.t 130) (.t 131)),.p 133 129 132] (.cond (.t 133) (.q [.F 14] .ret) .skip)) (.q [.L 135 3 10,.w 136 8 135,.m 134 136,.X 137 0 134,.X 138 1 134,.z 27 (.alloc [.nilSl,.nilSl,(.i 0),(.i 0),(.i 0),(.i 0),(.i 0),(.i 0)]),.S 8 27 137,.m 28 138] (.seq (.q [.m 139 28,.b 140 .neq 35 139 0] (.cond (.t 140) (.q [.L 142 3 10,.L 143 8 27,.m 144 4,.m 145 5,.z 146 (.w 18 [.t 142,.t 143,.t 144,.t 145]),.m 141 146,.X 147 0 141,.X 148 1 141,.m 29 147,.m 30 148] (.q [.m 149 30,.b 150 .neq 35 149 0,.m 14 150] .ret)) .skip)) (.q [.L 152 3 10,.L 153 8 27,.m 154 4,.m 155 5,.z 156 (.w 18 [.t 152,.t 153,.t 154,.t 155]),.m 151 156,.X 157 0 151,.X 158 1 151,.m 31 157,.m 32 158] (.q [.L 160 3 10,.L 161 8 27,.m 162 4,.m 163 5,.z 164 (.w 36 [.t 160,.t 161,.t 162,.t 163]),.m 159 164,.X 165 0 159,.X 166 1 159,.m 33 165,.m 34 166] (.q [.L 168 3 10,.L 169 8 27,.m 170 6,.V 171 23 168 169 170,.m 167 171,.X 172 0 167,.X 173 1 167,.m 35 172,.m 36 173] (.q [.L 175 3 10,.L 176 8 27,.m 177 6,.V 178 37 175 176 177,.m 174 178,.X 179 0 174,.X 180 1 174,.m 37 179,.m 38 180] (.seq (.draw [(.m 181 32,[]),(.m 182 34,[]),(.c 183 .eql 35 181 182,[]),(.m 184 183,[]),(.my 185 184 32,[]),(.y 186 184 (.bin .neq true 35 (.t 185) (.k 0)),[]),(.my 187 184 186,[]),(.mn 188 187 31,[]),(.mn 189 187 33,[]),(.n 190 187 (.w 38 [.t 188,.t 189]),[]),(.y 191 184 (.pick (.t 187) .T (.t 190)),[]),(.q 192 184 191,[]),(.m 193 192,[]),(.my 194 193 35,[]),(.my 195 193 37,[]),(.y 196 193 (.w 35 [.t 194,.t 195]),[]),(.q 197 193 196,[]),(.m 198 197,[]),(.my 199 198 36,[]),(.my 200 198 38,[]),(.y 201 198 (.bin .eql false 35 (.t 199) (.t 200)),[]),(.q 202 198 201,[]),(.m 203 202,[]),(.y 204 203 (.loadN 8 (.t 27)),[]),(.my 205 203 6,[]),(.y 207 203 (.loadN 8 (.t 27)),[]),(.my 208 203 6,[]),(.y 206 203 (.w 20 [.t 204,.t 205]),[(.y 207 203 (.loadN 8 (.t 27)),false)]),(.y 209 203 (.w 39 [.t 207,.t 208]),[]),(.y 210 203 (.bin .eql false 4 (.t 206) (.t 209)),[]),(.q 211 203 210,[]),(.m 14 211,[])]) .ret)))))))))))))))))
def r_law27_MarshalCalls:Nf Tryz.prog 5=some ⟨212,z6g.r,[.tmp 14]⟩:=Aa
def Zh(g:List Vr):Uy g [] [] ⟨0,0,0⟩ ⟨0,0,0⟩=false:=by
 cases h:Uy g [] [] ⟨0,0,0⟩ ⟨0,0,0⟩ with
 |false=>rfl
 |true =>
  simp only[Uy,Uv,Ua,H9]at h;simp at h
def za2(vs:List Vr)(g j:List Ko)(A:List (List UInt64))(z:UInt64)(H:vs.length≤1000)(k:∀I,P (.tup [.nilSl,.i 2]) I) :
  O6 (.fn 18) [.agg (M3 vs g j),.agg (Nj [] [] ⟨0,0,0⟩ ⟨0,0,0⟩),LN A,.u z] F P:=by
 have B:dats (M3 vs g j)=true:=Ai
 have C:(M3 vs g j).length=3:=rfl;have D:(M3 vs g j).take 3=M3 vs g j:=rfl;have E:(Nj [] [] ⟨0,0,0⟩ ⟨0,0,0⟩).length=8:=rfl;have G:(Nj [] [] ⟨0,0,0⟩ ⟨0,0,0⟩).take 8=Nj [] [] ⟨0,0,0⟩ ⟨0,0,0⟩:=rfl;refine Nd r_marshal_Rows k_marshal_Rows N ?_;simp[z5m,C,D,E,G];refine Nb (zfs J N (.inr (Zh vs))) (bors_self _ (by simp[dats,LV.dat,B,Qj])) ?_;simp;exact k _
def wt(l:List (List UInt64)):Bool:=decide ((∀x∈l,x.length≤600)∧l.length≤40)
def z9u(a:List UInt64)(G:Int)(s:List UInt8)(vs:List Vr)(os rs:List Ko)(X:List (List UInt64))(gK:UInt64)(l:List (List UInt64))(ha:a.length≤9223372036854775807)(_:-9223372036854775808≤G∧G<9223372036854775808)(hs:s.length≤9223372036854775807)
  (g9:vs.length≤9223372036854775807) (_:os.length≤9223372036854775807) (_:rs.length≤9223372036854775807) (hn:X.length≤9223372036854775807) (hl:l.length≤9223372036854775807) :
  O6 (.fn 5) [LU a,.i G,.str s,.agg (M3 vs os rs),LN X,.u gK,LN l] [] λv _=>v=.bool true:=by
 have M:dats (M3 vs os rs)=true:=Ai
 have C:(M3 vs os rs).length=3:=rfl;have D:(M3 vs os rs).take 3=M3 vs os rs:=rfl;have gT:∀{jD:M4},bors jD [.agg (M3 vs os rs),.i 20,.i 30,.i 40] [.agg (M3 vs os rs),.i 20,.i 30,.i 40]:=bors_self _ Fa;refine Nd r_law27_MarshalCalls Aa N ?_;simp[z6g];refine Nb law27_lives_ok N ?_;have gU:Na 16 [.agg (M3 vs os rs),.i 20,.i 30,.i 40] (.bool (znl vs os rs)) []:=zm4 vs os rs 20 30 40 g9;have gV:Na 17 [LN X,.i 20,.i 30] (.bool (zo3 X)) []:=zfx X 20 30 hn;have gX:Na 27 [LN l] (.bool (wt l)) []:=ziq l hl;by_cases e1:30<a.length
 ·have gD:(30:Int)<a.length:=J
  simp[e1,gD]
 have gD:¬(30:Int)<a.length:=J
 by_cases e2:30<G
 ·by_cases e3:G≤512
  ·simp[e1,gD,e2,e3]
  by_cases e4:600<s.length
  ·have gE:(600:Int)<s.length:=J
   simp[e1,gD,e2,e3,e4,gE]
  have gE:¬(600:Int)<s.length:=J
  simp[e1,gD,e2,e3,e4,gE,C,D];refine Nb gU gT ?_;cases f1:znl vs os rs with
  |false=>simp
  |true =>
  simp;refine Nb gV (bors_self _ B4) ?_;cases f2:zo3 X with
  |false=>simp
  |true =>
  simp;refine Nb gX (bors_self _ B4) ?_;cases f3:wt l with
  |false=>simp
  |true =>
  have A:(∀x∈l,x.length≤600)∧l.length≤40:=by simpa only[wt,Il] using f3
  have gP:vs.length≤20:=by simp only[znl,H9,Il]at f1;omega
  have gF:X.length≤20∧∀x∈X,x.length≤30:=by
   simp only[zo3,Il]at f2;exact⟨J,λx g=>by have:=f2.2 x g;omega⟩
  simp;refine Nb (z9p a G J) (bors_self _ Ao) ?_;simp;refine Nb (zcb a G J) (bors_self _ Ao) ?_;simp;refine Nb (z7p s J) N ?_;rw[show frV [RU (Od s)] (.tup [.dy 0 0,.i (O8 s)])=.tup [LU (Od s),.i (O8 s)] from rfl];simp;refine Nb (zb6 s J) N ?_;rw[show frV [RU (Od s)] (.tup [.dy 0 0,.i (O8 s)])=.tup [LU (Od s),.i (O8 s)] from rfl];simp;refine Qo (zam s J) Ao ?_;simp;refine Qo (zfn s J) Ao ?_;simp;have jg:(Od s).length≤1000:=by
   unfold Od;split
   ·simp
   ·refine I1 (en _) ?_;rw[o9];omega
  obtain⟨jz,gL⟩:=zjf s;refine Nb (z9a (Od s) (Od s) J) (bors_self _ Ao) ?_;simp;refine Nb (du (Rc s) (Rc s) J (λx g=>Du) (λx g=>Du)) (bors_self _ B4) ?_;simp[C,D];refine zws (z9f vs os rs gP) Fa ?_;rintro v0 ⟨H,U,O,P,e,rfl,⟨he,rfl,rfl,rfl,rfl⟩|⟨rfl,hc,gG,gQ⟩⟩ gY
  ·have K:Nj [] [] ⟨0,0,0⟩ ⟨0,0,0⟩=[.lst (Om []) 0 3,.lst (Oc []) 0 3,.i 0,.i 0,.i 0,.i 0,.i 0,.i 0]:=rfl;simp[K,he,C,D];rw[←K];refine za2 vs os rs X gK J λG'=>?_
   simp
  have hv:P6 vs=true:=Be
  obtain⟨gZ,f,Z⟩:=gQ.facts hv;have j:(Nj H U O P).length=8:=rfl;have z:(Nj H U O P).take 8=Nj H U O P:=rfl;have K:Nj H U O P=[.lst (Om H) H.length 3,.lst (Oc U) U.length 3,.i O.buf,.i O.at_,.i O.size,.i P.buf,.i P.at_,.i P.size]:=rfl;have gR:=Z.bl;have jA:=Z.bb;simp[K];rw[←K];simp[C,D,j,z];refine z9g J hc gG Z (λx g=>Cj) J (λE G1 gM gg=>?_) λE G1 q jB st L hR hq V gM gg=>?_
  ·have Q:=gg 0 N;have R:=gg 1 N;simp at Q R;simp[Q,R,C,D,j,z];refine Qo (z6q J hc Z (λx g=>Cj) J) Ar ?_;simp[Q,R,C,D,j,z,E];refine z4q (L:=l) J hc gG Z (λx g=>Ah) J (.inl rfl) (λI G2 gH B=>?_) λI G2 v hD gH B=>?_
   ·have a0:=(B 0 Bm).trans Q;have S:=(B 1 Bl).trans R;simp[a0,S,C,D,j,z];refine Qo (mq J hv Z (λx g=>Ah) J) Ar ?_;simp[Ux,I,E];refine Nb (du [] [] N N N) (Xw (.inr ⟨1,rfl⟩) ⟨rfl,Fw⟩) ?_;simp[S,j,z];refine Nb (m7 H U O P l J (λx g=>Ah)) (bors_self _ Ak) ?_;simp[S,j,z];refine Nb (nh H U O P l J (λx g=>Ah)) (bors_self _ Ak) ?_;simp[Tk]
   ·have a0:=(B 0 Bm).trans Q;have S:=(B 1 Bl).trans R;have F:=(Rg.toStD hD).bor;rw[zeg]at F;have gS:((Sv.outV vs).map λY=>Oe (val (l.getD Y []))).length≤1000:=by
     rw[J0];have:=ng (λv=>decide (v.mode=3)) vs vs.length;rw[←ot]at this;omega
    have gj:∀x∈(Sv.outV vs).map λY=>Oe (val (l.getD Y [])),x.length≤1000:=λx g=>by
     obtain⟨Y,_,rfl⟩:=Kh.1 g;exact I1 (en _) (I1 (Ww A.1 Y) Ad)
    rw[show (Sv.outV vs).length=((Sv.outV vs).map λY=>Oe (val (l.getD Y []))).length by rw[J0]]at F;have gI:Ux vs H l=(Sv.outV vs).map λY=>Oe (val (l.getD Y [])):=F7
    simp[a0,S,C,D,j,z];refine Qo (mq J hv Z (λx g=>Ah) J) Ar ?_;rw[gI];generalize ((Sv.outV vs).map λY=>Oe (val (l.getD Y [])))=g8 at *;simp[I,E];refine Nb (du g8 g8 J (λx g=>Bx) (λx g=>Bx)) (Xw F ⟨rfl,Ca⟩) ?_;simp[S,j,z];refine Nb (m7 H U O P l J (λx g=>Ah)) (bors_self _ Ak) ?_;simp[S,j,z];refine Nb (nh H U O P l J (λx g=>Ah)) (bors_self _ Ak) ?_;simp[Tk]
  ·have Q:=gg 0 N;have R:=gg 1 N;simp at Q R;have gB:=hR.eq;have gC:L.length=H.length:=by rw[gB,yx,gR]
   have gO:∀x∈L,x.length≤1000000:=λx g=>by
    rw[gB]at g;unfold dj at g;obtain⟨Y,hj,rfl⟩:=Kh.1 g;split
    ·rename_i jC;have:=Ve hv _ (Vt (vs:=vs) (i:=Y) J);unfold Si;split
     ·simp;omega
     ·exact I1 (zui _ _) Ad
    ·simp
   simp[Q,R,C,D,j,z];refine Qo (z6q J hc Z (λx g=>Cj) J) Ar ?_;simp[Q,R,C,D,j,z,E];refine z4q (L:=l) J hc gG Z (λx g=>Ah) J (.inl rfl) (λI G2 gH B=>?_) λI G2 v hD gH B=>?_
   ·have a0:=(B 0 Bm).trans Q;have S:=(B 1 Bl).trans R;simp[a0,S,C,D,j,z];refine Qo (mq J hv Z (λx g=>Ah) J) Ar ?_;simp[Ux,I,E];have T:=(B q C9).trans V;refine Nb (z8u L L J gO) (Xw ⟨L.map LU,H.length,1,st,by rw[LN,gC],T,Pf _⟩ ⟨E7,Ca⟩) ?_;simp;refine Nb (du [] [] N N N) (Xw (.inr ⟨1,rfl⟩) ⟨rfl,Fw⟩) ?_;simp[S,j,z];refine Nb (m7 H U O P l J (λx g=>Ah)) (bors_self _ Ak) ?_;simp[S,j,z];refine Nb (nh H U O P l J (λx g=>Ah)) (bors_self _ Ak) ?_;simp[Tk]
   ·have a0:=(B 0 Bm).trans Q;have S:=(B 1 Bl).trans R;have F:=(Rg.toStD hD).bor;rw[zeg]at F;have gS:((Sv.outV vs).map λY=>Oe (val (l.getD Y []))).length≤1000:=by
     rw[J0];have:=ng (λv=>decide (v.mode=3)) vs vs.length;rw[←ot]at this;omega
    have gj:∀x∈(Sv.outV vs).map λY=>Oe (val (l.getD Y [])),x.length≤1000:=λx g=>by
     obtain⟨Y,_,rfl⟩:=Kh.1 g;exact I1 (en _) (I1 (Ww A.1 Y) Ad)
    rw[show (Sv.outV vs).length=((Sv.outV vs).map λY=>Oe (val (l.getD Y []))).length by rw[J0]]at F;have gI:Ux vs H l=(Sv.outV vs).map λY=>Oe (val (l.getD Y [])):=F7
    simp[a0,S,C,D,j,z];refine Qo (mq J hv Z (λx g=>Ah) J) Ar ?_;rw[gI];generalize ((Sv.outV vs).map λY=>Oe (val (l.getD Y [])))=g8 at *;simp[I,E];have T:=(B q C9).trans V;refine Nb (z8u L L J gO) (Xw ⟨L.map LU,H.length,1,st,by rw[LN,gC],T,Pf _⟩ ⟨E7,Ca⟩) ?_;simp;refine Nb (du g8 g8 J (λx g=>Bx) (λx g=>Bx)) (Xw F ⟨rfl,Ca⟩) ?_;simp[S,j,z];refine Nb (m7 H U O P l J (λx g=>Ah)) (bors_self _ Ak) ?_;simp[S,j,z];refine Nb (nh H U O P l J (λx g=>Ah)) (bors_self _ Ak) ?_;simp[Tk]
 ·by_cases e4:600<s.length
  ·have gE:(600:Int)<s.length:=J
   simp[e1,gD,e2,e4,gE]
  have gE:¬(600:Int)<s.length:=J
  simp[e1,gD,e2,e4,gE,C,D];refine Nb gU gT ?_;cases f1:znl vs os rs with
  |false=>simp
  |true =>
  simp;refine Nb gV (bors_self _ B4) ?_;cases f2:zo3 X with
  |false=>simp
  |true =>
  simp;refine Nb gX (bors_self _ B4) ?_;cases f3:wt l with
  |false=>simp
  |true =>
  have A:(∀x∈l,x.length≤600)∧l.length≤40:=by simpa only[wt,Il] using f3
  have gP:vs.length≤20:=by simp only[znl,H9,Il]at f1;omega
  have gF:X.length≤20∧∀x∈X,x.length≤30:=by
   simp only[zo3,Il]at f2;exact⟨J,λx g=>by have:=f2.2 x g;omega⟩
  simp;refine Nb (z9p a G J) (bors_self _ Ao) ?_;simp;refine Nb (zcb a G J) (bors_self _ Ao) ?_;simp;refine Nb (z7p s J) N ?_;rw[show frV [RU (Od s)] (.tup [.dy 0 0,.i (O8 s)])=.tup [LU (Od s),.i (O8 s)] from rfl];simp;refine Nb (zb6 s J) N ?_;rw[show frV [RU (Od s)] (.tup [.dy 0 0,.i (O8 s)])=.tup [LU (Od s),.i (O8 s)] from rfl];simp;refine Qo (zam s J) Ao ?_;simp;refine Qo (zfn s J) Ao ?_;simp;have jg:(Od s).length≤1000:=by
   unfold Od;split
   ·simp
   ·refine I1 (en _) ?_;rw[o9];omega
  obtain⟨jz,gL⟩:=zjf s;refine Nb (z9a (Od s) (Od s) J) (bors_self _ Ao) ?_;simp;refine Nb (du (Rc s) (Rc s) J (λx g=>Du) (λx g=>Du)) (bors_self _ B4) ?_;simp[C,D];refine zws (z9f vs os rs gP) Fa ?_;rintro v0 ⟨H,U,O,P,e,rfl,⟨he,rfl,rfl,rfl,rfl⟩|⟨rfl,hc,gG,gQ⟩⟩ gY
  ·have K:Nj [] [] ⟨0,0,0⟩ ⟨0,0,0⟩=[.lst (Om []) 0 3,.lst (Oc []) 0 3,.i 0,.i 0,.i 0,.i 0,.i 0,.i 0]:=rfl;simp[K,he,C,D];rw[←K];refine za2 vs os rs X gK J λG'=>?_
   simp
  have hv:P6 vs=true:=Be
  obtain⟨gZ,f,Z⟩:=gQ.facts hv;have j:(Nj H U O P).length=8:=rfl;have z:(Nj H U O P).take 8=Nj H U O P:=rfl;have K:Nj H U O P=[.lst (Om H) H.length 3,.lst (Oc U) U.length 3,.i O.buf,.i O.at_,.i O.size,.i P.buf,.i P.at_,.i P.size]:=rfl;have gR:=Z.bl;have jA:=Z.bb;simp[K];rw[←K];simp[C,D,j,z];refine z9g J hc gG Z (λx g=>Cj) J (λE G1 gM gg=>?_) λE G1 q jB st L hR hq V gM gg=>?_
  ·have Q:=gg 0 N;have R:=gg 1 N;simp at Q R;simp[Q,R,C,D,j,z];refine Qo (z6q J hc Z (λx g=>Cj) J) Ar ?_;simp[Q,R,C,D,j,z,E];refine z4q (L:=l) J hc gG Z (λx g=>Ah) J (.inl rfl) (λI G2 gH B=>?_) λI G2 v hD gH B=>?_
   ·have a0:=(B 0 Bm).trans Q;have S:=(B 1 Bl).trans R;simp[a0,S,C,D,j,z];refine Qo (mq J hv Z (λx g=>Ah) J) Ar ?_;simp[Ux,I,E];refine Nb (du [] [] N N N) (Xw (.inr ⟨1,rfl⟩) ⟨rfl,Fw⟩) ?_;simp[S,j,z];refine Nb (m7 H U O P l J (λx g=>Ah)) (bors_self _ Ak) ?_;simp[S,j,z];refine Nb (nh H U O P l J (λx g=>Ah)) (bors_self _ Ak) ?_;simp[Tk]
   ·have a0:=(B 0 Bm).trans Q;have S:=(B 1 Bl).trans R;have F:=(Rg.toStD hD).bor;rw[zeg]at F;have gS:((Sv.outV vs).map λY=>Oe (val (l.getD Y []))).length≤1000:=by
     rw[J0];have:=ng (λv=>decide (v.mode=3)) vs vs.length;rw[←ot]at this;omega
    have gj:∀x∈(Sv.outV vs).map λY=>Oe (val (l.getD Y [])),x.length≤1000:=λx g=>by
     obtain⟨Y,_,rfl⟩:=Kh.1 g;exact I1 (en _) (I1 (Ww A.1 Y) Ad)
    rw[show (Sv.outV vs).length=((Sv.outV vs).map λY=>Oe (val (l.getD Y []))).length by rw[J0]]at F;have gI:Ux vs H l=(Sv.outV vs).map λY=>Oe (val (l.getD Y [])):=F7
    simp[a0,S,C,D,j,z];refine Qo (mq J hv Z (λx g=>Ah) J) Ar ?_;rw[gI];generalize ((Sv.outV vs).map λY=>Oe (val (l.getD Y [])))=g8 at *;simp[I,E];refine Nb (du g8 g8 J (λx g=>Bx) (λx g=>Bx)) (Xw F ⟨rfl,Ca⟩) ?_;simp[S,j,z];refine Nb (m7 H U O P l J (λx g=>Ah)) (bors_self _ Ak) ?_;simp[S,j,z];refine Nb (nh H U O P l J (λx g=>Ah)) (bors_self _ Ak) ?_;simp[Tk]
  ·have Q:=gg 0 N;have R:=gg 1 N;simp at Q R;have gB:=hR.eq;have gC:L.length=H.length:=by rw[gB,yx,gR]
   have gO:∀x∈L,x.length≤1000000:=λx g=>by
    rw[gB]at g;unfold dj at g;obtain⟨Y,hj,rfl⟩:=Kh.1 g;split
    ·rename_i jC;have:=Ve hv _ (Vt (vs:=vs) (i:=Y) J);unfold Si;split
     ·simp;omega
     ·exact I1 (zui _ _) Ad
    ·simp
   simp[Q,R,C,D,j,z];refine Qo (z6q J hc Z (λx g=>Cj) J) Ar ?_;simp[Q,R,C,D,j,z,E];refine z4q (L:=l) J hc gG Z (λx g=>Ah) J (.inl rfl) (λI G2 gH B=>?_) λI G2 v hD gH B=>?_
   ·have a0:=(B 0 Bm).trans Q;have S:=(B 1 Bl).trans R;simp[a0,S,C,D,j,z];refine Qo (mq J hv Z (λx g=>Ah) J) Ar ?_;simp[Ux,I,E];have T:=(B q C9).trans V;refine Nb (z8u L L J gO) (Xw ⟨L.map LU,H.length,1,st,by rw[LN,gC],T,Pf _⟩ ⟨E7,Ca⟩) ?_;simp;refine Nb (du [] [] N N N) (Xw (.inr ⟨1,rfl⟩) ⟨rfl,Fw⟩) ?_;simp[S,j,z];refine Nb (m7 H U O P l J (λx g=>Ah)) (bors_self _ Ak) ?_;simp[S,j,z];refine Nb (nh H U O P l J (λx g=>Ah)) (bors_self _ Ak) ?_;simp[Tk]
   ·have a0:=(B 0 Bm).trans Q;have S:=(B 1 Bl).trans R;have F:=(Rg.toStD hD).bor;rw[zeg]at F;have gS:((Sv.outV vs).map λY=>Oe (val (l.getD Y []))).length≤1000:=by
     rw[J0];have:=ng (λv=>decide (v.mode=3)) vs vs.length;rw[←ot]at this;omega
    have gj:∀x∈(Sv.outV vs).map λY=>Oe (val (l.getD Y [])),x.length≤1000:=λx g=>by
     obtain⟨Y,_,rfl⟩:=Kh.1 g;exact I1 (en _) (I1 (Ww A.1 Y) Ad)
    rw[show (Sv.outV vs).length=((Sv.outV vs).map λY=>Oe (val (l.getD Y []))).length by rw[J0]]at F;have gI:Ux vs H l=(Sv.outV vs).map λY=>Oe (val (l.getD Y [])):=F7
    simp[a0,S,C,D,j,z];refine Qo (mq J hv Z (λx g=>Ah) J) Ar ?_;rw[gI];generalize ((Sv.outV vs).map λY=>Oe (val (l.getD Y [])))=g8 at *;simp[I,E];have T:=(B q C9).trans V;refine Nb (z8u L L J gO) (Xw ⟨L.map LU,H.length,1,st,by rw[LN,gC],T,Pf _⟩ ⟨E7,Ca⟩) ?_;simp;refine Nb (du g8 g8 J (λx g=>Bx) (λx g=>Bx)) (Xw F ⟨rfl,Ca⟩) ?_;simp[S,j,z];refine Nb (m7 H U O P l J (λx g=>Ah)) (bors_self _ Ak) ?_;simp[S,j,z];refine Nb (nh H U O P l J (λx g=>Ah)) (bors_self _ Ak) ?_;simp[Tk]
end
end Go.Proofs.YtgjbfhmmgeplmaaGreat
end
