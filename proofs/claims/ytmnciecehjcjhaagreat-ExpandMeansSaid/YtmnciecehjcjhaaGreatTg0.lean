/- The templates: see the main text. -/
import Derived.Test.YtmnciecehjcjhaaGreatSvG3
import Derived.Test.YtmnciecehjcjhaaGreatSvG2
import Derived.Test.YtmnciecehjcjhaaGreatProg
import Derived.KernelRfl
set_option linter.defProp false
namespace Go.Sv
abbrev LI.z (d : Nat) (o : LOp) : LI := ⟨some d, none, o⟩
abbrev LI.m (d t : Nat) : LI := ⟨some d, none, .move (.t t)⟩
abbrev LI.l (d t : Nat) : LI := ⟨some d, none, .load1 (.t t)⟩
abbrev LI.f (d n t : Nat) : LI := ⟨some d, none, .fieldAddr n (.t t)⟩
abbrev LI.y (d g : Nat) (o : LOp) : LI := ⟨some d, some (g, true), o⟩
abbrev LI.n (d g : Nat) (o : LOp) : LI := ⟨some d, some (g, false), o⟩
abbrev LI.my (d g t : Nat) : LI := ⟨some d, some (g, true), .move (.t t)⟩
abbrev LI.mn (d g t : Nat) : LI := ⟨some d, some (g, false), .move (.t t)⟩
abbrev LI.v (o : LOp) : LI := ⟨none, none, o⟩
abbrev LOp.w (f : Nat) (l : List Lx) : LOp := .callV (.c (.fn (.func f) [] [])) l
abbrev Lx.k (n : Int) : Lx := .c (.i n)
abbrev Lx.T : Lx := .c (.bool true)
abbrev Lx.F : Lx := .c (.bool false)
abbrev LC.q (l : List LI) (s : LC) : LC := .seq (.ops l) s
abbrev LI.N (d a : Nat) : LI := .z d (.nilChk (.t a))
abbrev LI.L (d n a : Nat) : LI := .z d (.loadN n (.t a))
abbrev LI.I (d n a b : Nat) : LI := .z d (.ixAddr n (.t a) (.t b))
abbrev LI.b (d : Nat) (o : BinOp) (t a : Nat) (k : Int) : LI := .z d (.bin o true t (.t a) (.k k))
abbrev LI.c (d : Nat) (o : BinOp) (t a b : Nat) : LI := .z d (.bin o false t (.t a) (.t b))
abbrev LI.u (d : Nat) (o : BinOp) (t a : Nat) (k : UInt64) : LI := .z d (.bin o true t (.t a) (.c (.u k)))
abbrev LI.nb (d g : Nat) (o : BinOp) (t a : Nat) (k : Int) : LI := .n d g (.bin o true t (.t a) (.k k))
abbrev LI.p (d a b : Nat) : LI := .z d (.pick (.t a) .T (.t b))
abbrev LI.q (d a b : Nat) : LI := .z d (.pick (.t a) (.t b) .F)
abbrev LI.K (d : Nat) (k : Int) : LI := .z d (.move (.k k))
abbrev LI.F (d : Nat) : LI := .z d (.move .F)
abbrev LI.e (d : Nat) : LI := .z d (.move (.c .nilSl))
abbrev LI.S (n a b : Nat) : LI := .v (.store n (.t a) (.t b))
abbrev LI.s (d a : Nat) : LI := .z d (.lenSl (.t a))
abbrev LI.x (d a : Nat) : LI := .z d (.box (.t a))
abbrev LI.X (d n a : Nat) : LI := .z d (.extract n (.t a))
abbrev LI.w (d f a : Nat) : LI := .z d (.w f [.t a])
abbrev LI.W (d f a b : Nat) : LI := .z d (.w f [.t a, .t b])
abbrev LI.V (d f a b c : Nat) : LI := .z d (.w f [.t a, .t b, .t c])
abbrev LI.nf (d g n a : Nat) : LI := .n d g (.fieldAddr n (.t a))
abbrev LI.yf (d g n a : Nat) : LI := .y d g (.fieldAddr n (.t a))
abbrev LI.nl (d g a : Nat) : LI := .n d g (.load1 (.t a))
abbrev LI.yl (d g a : Nat) : LI := .y d g (.load1 (.t a))
abbrev LI.a (d n a b : Nat) : LI := .z d (.appG n (.t a) (.t b))
end Go.Sv
noncomputable section
namespace Go.Proofs.YtmnciecehjcjhaaGreat
open Go.Sv
set_option linter.unusedSimpArgs false
set_option maxRecDepth 10000
variable{g:Nat}{z:Int}{vR:List Int}{vM:Type}{E:List LV}{I:Pd}{Z:LV→Pd→Prop}{vQ:List Vr}{Y:List Bf}{uZ:List Lo}
abbrev Pl := P4 Tryz.prog
abbrev Rk := Uy Tryz.prog
abbrev Ql := Tw Tryz.prog
def Ye:LC:=(.q [.K 2 0,.F 3] (.seq (.q [.m 4 0] (.block 0 (.q [.b 6 .eql 3 4 1,.m 5 6] (.cond (.t 5) (.q [.K 2 1,.z 3 (.move .T)] .ret) (.q [.b 8 .eql 3 4 2,.m 7 8] (.cond (.t 7) (.q [.K 2 5,.z 3 (.move .T)] .ret) (.seq (.q [.b 10 .eql 3 4 3,.m 9 10] (.cond (.t 9) .skip (.q [.b 11 .eql 3 4 4,.m 9 11] (.cond (.t 9) .skip (.q [.b 12 .eql 3 4 5,.m 9 12] (.cond (.t 9) .skip (.q [.b 13 .eql 3 4 6,.m 9 13] (.cond (.t 9) .skip (.ops [.b 14 .eql 3 4 7,.m 9 14]))))))))) (.cond (.t 9) (.q [.K 2 13,.z 3 (.move .T)] .ret) (.seq (.q [.b 16 .eql 3 4 8,.m 15 16] (.cond (.t 15) .skip (.q [.b 17 .eql 3 4 10,.m 15 17] (.cond (.t 15) .skip (.q [.b 18 .eql 3 4 11,.m 15 18] (.cond (.t 15) .skip (.q [.b 19 .eql 3 4 12,.m 15 19] (.cond (.t 15) .skip (.ops [.b 20 .eql 3 4 13,.m 15 20]))))))))) (.cond (.t 15) (.q [.K 2 29,.z 3 (.move .T)] .ret) (.q [.b 22 .eql 3 4 9,.m 21 22] (.cond (.t 21) (.q [.K 2 21,.z 3 (.move .T)] .ret) (.q [.b 24 .eql 3 4 14,.m 23 24] (.cond (.t 23) (.q [.K 2 19,.z 3 (.move .T)] .ret) (.seq (.q [.b 26 .eql 3 4 15,.m 25 26] (.cond (.t 25) .skip (.ops [.b 27 .eql 3 4 16,.m 25 27]))) (.cond (.t 25) (.q [.K 2 0,.z 3 (.move .T)] .ret) .skip)))))))))))))))) (.q [.K 2 0,.F 3] .ret)))
def r_lengths_shape:Pk Tryz.prog 131=some ⟨28,Ye.r,[.tmp 2,.tmp 3]⟩:=Aa
def z3f:LC:=(.q [.x 1 0,.F 2] (.seq (.q [.f 3 0 1,.l 4 3] (.block 0 (.q [.b 6 .eql 3 4 1,.m 5 6] (.cond (.t 5) (.q [.z 2 (.move .T)] .ret) (.q [.b 8 .eql 3 4 13,.m 7 8] (.cond (.t 7) (.q [.f 9 6 1,.l 10 9,.u 11 .geq 23 10 1,.m 12 11,.yf 13 12 6 1,.yl 14 12 13,.y 15 12 (.bin .leq true 23 (.t 14) (.c (.u 6))),.q 16 12 15,.m 2 16] .ret) (.q [.b 18 .eql 3 4 15,.m 17 18] (.cond (.t 17) (.q [.f 19 6 1,.l 20 19,.u 21 .geq 23 20 1,.m 22 21,.yf 23 22 6 1,.yl 24 22 23,.y 25 22 (.bin .leq true 23 (.t 24) (.c (.u 4096))),.q 26 22 25,.m 2 26] .ret) .skip)))))))) (.q [.f 27 6 1,.l 28 27,.u 29 .eql 23 28 0,.m 2 29] .ret)))
def r_lengths_number:Pk Tryz.prog 132=some ⟨30,z3f.r,[.tmp 2]⟩:=Aa
def zc6:LC:=(.q [.x 1 0,.z 2 (.alloc [(.i 0),(.i 0),(.i 0),(.i 0),(.i 0)])] (.q [.f 3 1 1,.l 4 3,.f 5 2 1,.l 6 5,.f 7 3 1,.l 8 7,.f 9 4 1,.l 10 9,.f 11 5 1,.l 12 11,.z 13 (.build [(.i 0),(.i 0),(.i 0),(.i 0),(.i 0)] [(0,1,.t 4),(1,1,.t 6),(2,1,.t 8),(3,1,.t 10),(4,1,.t 12)]),.S 5 2 13] .ret))
def r_lengths_parts:Pk Tryz.prog 133=some ⟨14,zc6.r,[.cellN 2 5]⟩:=Aa
def zc3:LC:=(.q [.x 1 0,.F 2] (.q [.f 3 2 1,.l 4 3,.b 5 .eql 3 4 1,.m 6 5,.nf 7 6 2 1,.nl 8 6 7,.nb 9 6 .eql 3 8 2,.p 10 6 9,.m 2 10] .ret))
def r_lengths_given:Pk Tryz.prog 89=some ⟨11,zc3.r,[.tmp 2]⟩:=Aa
def z71:LC:=(.q [.F 3] (.q [.m 4 0,.b 5 .geq 3 4 0,.m 6 5,.my 7 6 0,.yl 8 6 1,.y 9 6 (.lenSl (.t 8)),.y 10 6 (.bin .lss false 3 (.t 7) (.t 9)),.q 11 6 10,.m 3 11] .ret))
def r_lengths_need_1:Pk Tryz.prog 130=some ⟨12,z71.r,[.tmp 3]⟩:=Aa
def z4e:LC:=(.q [.x 2 0,.x 3 1,.F 4] (.q [.z 6 (.mkFunc 130 [] [.t 2]),.m 5 6] (.seq (.q [.f 7 1 3,.l 8 7,.b 9 .neq 3 8 (-1),.m 10 9,.nf 11 10 2 3,.nl 12 10 11,.nb 13 10 .neq 3 12 (-1),.p 14 10 13,.m 15 14,.nf 16 15 5 3,.nl 17 15 16,.nb 18 15 .neq 3 17 (-1),.p 19 15 18,.m 20 19,.mn 21 20 5,.nf 22 20 3 3,.nl 23 20 22,.n 24 20 (.callV (.t 21) [.t 23]),.n 25 20 (.un .not (.t 24)),.p 26 20 25] (.cond (.t 26) (.q [.F 4] .ret) .skip)) (.seq (.q [.f 27 6 3,.l 28 27] (.block 0 (.q [.u 30 .eql 23 28 2,.m 29 30] (.cond (.t 29) (.q [.m 31 5,.f 32 4 3,.l 33 32,.z 34 (.callV (.t 31) [.t 33]),.m 4 34] .ret) (.seq (.q [.u 36 .eql 23 28 1,.m 35 36] (.cond (.t 35) .skip (.ops [.u 37 .eql 23 28 3,.m 35 37]))) (.cond (.t 35) (.q [.f 38 4 3,.l 39 38,.b 40 .eql 3 39 (-1),.m 4 40] .ret) .skip)))))) (.q [.F 4] .ret)))))
def r_lengths_need:Pk Tryz.prog 88=some ⟨41,z4e.r,[.tmp 4]⟩:=Aa
def z49:LC:=(.q [.K 4 0] (.seq (.q [.m 6 0,.s 7 6,.K 8 0] (.block 0 (.loop (.q [.c 9 .lss 3 8 7] (.seq (.cond (.t 9) .skip (.exit 0)) (.seq (.block 1 (.q [.m 10 8,.m 5 10] (.q [.m 11 1,.m 12 0,.m 13 5,.I 14 1 12 13,.l 15 14,.z 16 (.callV (.t 11) [.t 15])] (.cond (.t 16) (.q [.m 17 5,.m 4 17] .ret) .skip)))) (.ops [.b 18 .add 3 8 1,.m 8 18]))))))) (.q [.K 4 (-1)] .ret)))
def r_slices_IndexFunc_int_int:Pk Tryz.prog 136=some ⟨19,z49.r,[.tmp 4]⟩:=Aa
def z3e:LC:=(.q [.F 4] (.q [.m 5 0,.m 6 1,.W 7 136 5 6,.b 8 .geq 3 7 0,.m 4 8] .ret))
def r_slices_ContainsFunc_int_int:Pk Tryz.prog 91=some ⟨9,z3e.r,[.tmp 4]⟩:=Aa
def qm(a b:Bool):Uh Tryz.prog false 4 (.bool a) (.bool b)=some (a==b):=by cases a<;>cases b<;>kernel_rfl
def zh4(k:Int):Pl 131 [.i k] (.tup [.i (((Qm k).getD 0:Nat):Int),.bool (Qm k).isSome]) []:=by
 refine P4.val rfl (Pj r_lengths_shape Aa N ?_);by_cases E:k=1;· subst E;simp[Ye,Qm]
 by_cases F:k=2;· subst F;simp[Ye,Qm]
 by_cases G:k=3;· subst G;simp[Ye,Qm]
 by_cases H:k=4;· subst H;simp[Ye,Qm]
 by_cases I:k=5;· subst I;simp[Ye,Qm]
 by_cases K:k=6;· subst K;simp[Ye,Qm]
 by_cases L:k=7;· subst L;simp[Ye,Qm]
 by_cases M:k=8;· subst M;simp[Ye,Qm]
 by_cases O:k=9;· subst O;simp[Ye,Qm]
 by_cases g:k=10;· subst g;simp[Ye,Qm]
 by_cases j:k=11;· subst j;simp[Ye,Qm]
 by_cases z:k=12;· subst z;simp[Ye,Qm]
 by_cases A:k=13;· subst A;simp[Ye,Qm]
 by_cases B:k=14;· subst B;simp[Ye,Qm]
 by_cases C:k=15;· subst C;simp[Ye,Qm]
 by_cases D:k=16;· subst D;simp[Ye,Qm]
 simp[Ye,Qm,E,F,G,H,I,K,L,M,O,g,j,z,A,B,C,D]
def zg4(o:Ko):Pl 132 [.agg o.f] (.bool (T1 o)) []:=by
 refine P4.val rfl (Pj r_lengths_number Aa N ?_);by_cases g:o.kind=1;· simp[z3f,Ko.f,T1,g]
 by_cases j:o.kind=13
 ·by_cases A:1≤o.imm<;>simp[z3f,Ko.f,T1,g,j,A]
 by_cases z:o.kind=15
 ·by_cases A:1≤o.imm<;>simp[z3f,Ko.f,T1,g,j,z,A]
 simp[z3f,Ko.f,T1,g,j,z]
def zau(o:Ko):Pl 133 [.agg o.f] (.agg [.i o.d,.i o.e,.i o.a,.i o.b,.i o.c]) []:=by
 refine P4.val rfl (Pj r_lengths_parts Aa N ?_);simp[zc6,Ko.f]
def zaw(v:Vr):Pl 89 [.agg v.f] (.bool (Uq v)) []:=by
 refine P4.val rfl (Pj r_lengths_given Aa N ?_);by_cases g:v.mode=1<;>simp[zc3,Vr.f,Uq,g]
def zme{p n st:Nat}{c:List LV}(v:Int)(g:I[p]?=some (.cells [.lst c n 3] st))(k:Z (.bool (Tv n v)) I):Ql (.fn 130) [.i v,.ptr p 0] I Z:=by
 refine Pj r_lengths_need_1 Aa N ?_;by_cases j:0≤v
 ·by_cases z:v<n<;>simp[z71,g,Tv,j,z]at k ⊢<;>exact k
 ·simp[z71,g,Tv,j]at k ⊢;exact k
def zbk(c:List LV)(n:Nat)(o:Ko):Pl 88 [.lst c n 3,.agg o.f] (.bool (Up n o)) []:=by
 refine P4.val rfl (Pj r_lengths_need Aa N ?_);by_cases g:o.d=-1
 case neg=>simp[z4e,Ko.f,Up,g]
 by_cases j:o.e=-1
 case neg=>simp[z4e,Ko.f,Up,g,j]
 by_cases z:o.c=-1
 case neg=>simp[z4e,Ko.f,Up,g,j,z]
 simp[z4e,Ko.f,g,j,z];refine zme o.a rfl ?_;cases ha:Tv n o.a with
 |false=>simp[Up,ha]
 |true =>
  by_cases A:o.imm=2
  ·simp[A];refine zme o.b rfl ?_;simp[Up,g,j,z,ha,A]
  by_cases B:o.imm=1
  ·simp[Up,g,j,z,ha,A,B]
  by_cases C:o.imm=3
  ·simp[Up,g,j,z,ha,A,B,C]
  simp[Up,g,j,z,ha,A,B,C]
def zee{l:List Int}{f:Nat}{a b:List LV}{p:Int→Bool}(P:l.length≤9223372036854775807)
  (M:∀v∈l,∀E:LV→Pd→Prop,E (.bool (p v)) I→Ql (.fn f) (a++[.i v]++b) I E) (k:Z (.i (nj p l)) I):Ql (.fn 136) [.lst (l.map .i) l.length 1,.fn (.func f) a b] I Z:=by
 refine Pj r_slices_IndexFunc_int_int Aa (by simp) ?_;simp[z49];refine Qt (λF O G N=>∃i:Nat,O=[]∧G=I∧N+i=l.length∧lk F 0=.lst (l.map .i) l.length 1∧lk F 1=.fn (.func f) a b∧lk F 7=.i l.length∧lk F 8=.i i∧∀H b,H<i→l[H]?=some b→p b=false) (N:=l.length) ⟨0,by simp⟩ ?_;rintro N F O G ⟨i,rfl,rfl,Q,j,z,A,B,hn⟩ R C;by_cases hi:l.length≤i
 ·have K:¬i<l.length:=J
  simp[j,z,A,B,K];rw[←zv4 hi hn];exact k
 ·have K:i<l.length:=J
  have D:=J7 K;simp[j,z,A,B,K];simp[Pe (W4 (f:=LV.i) D)];have L:=M l[i] (Mm K);simp only[K0,List.singleton_append]at L;refine L _ ?_;cases hb:p l[i] with
  |true =>
   simp;rw[←sx D hb hn];exact k
  |false =>
   simp[B];refine⟨J,C _ _ _ ⟨N-1,J,i+1,rfl,rfl,J,Am,Aq,Al,by simp,λH b T g=>?_⟩⟩;by_cases e:H=i
   ·subst e;rw[D]at g;cases g;exact hb
   ·exact hn H b J g
def z73{l:List Int}{f:Nat}{a b:List LV}{p:Int→Bool}(j:l.length≤9223372036854775807)
  (z:∀v∈l,∀g:LV→Pd→Prop,g (.bool (p v)) I→Ql (.fn f) (a++[.i v]++b) I g) (k:Z (.bool (l.any p)) I):Ql (.fn 91) [.lst (l.map .i) l.length 1,.fn (.func f) a b] I Z:=by
 refine Pj r_slices_ContainsFunc_int_int Aa N ?_;simp[z3e];refine zee j z ?_;simp;rw[fb];exact k
def zbw:LC:=(.q [.z 0 (.move (.c .nilMap))] (.q [.z 1 (.move (.c (.fn (.func 167) [] [])))] (.q [.z 2 (.mkMap0),.v (.mapUpd (.int .i64) (.t 2) (.k 6) (.c (.fn (.func 168) [] []))),.v (.mapUpd (.int .i64) (.t 2) (.k 14) (.c (.fn (.func 169) [] []))),.v (.mapUpd (.int .i64) (.t 2) (.k 8) (.c (.fn (.func 170) [] []))),.v (.mapUpd (.int .i64) (.t 2) (.k 9) (.c (.fn (.func 171) [] []))),.m 3 1,.v (.mapUpd (.int .i64) (.t 2) (.k 10) (.t 3)),.m 4 1,.v (.mapUpd (.int .i64) (.t 2) (.k 11) (.t 4)),.m 5 1,.v (.mapUpd (.int .i64) (.t 2) (.k 12) (.t 5)),.v (.mapUpd (.int .i64) (.t 2) (.k 13) (.c (.fn (.func 172) [] []))),.m 6 2,.m 0 6] .ret)))
def r_lengths_alike:Pk Tryz.prog 153=some ⟨7,zbw.r,[.tmp 0]⟩:=Aa
def za0:LC:=(.q [.x 1 0,.e 2] (.q [.f 3 1 1,.l 4 3,.f 5 3 1,.l 6 5,.f 7 4 1,.l 8 7,.f 9 5 1,.l 10 9,.z 11 (.buildSl 1 4 [(.i 0),(.i 0),(.i 0),(.i 0)] [(0,1,.t 4),(1,1,.t 6),(2,1,.t 8),(3,1,.t 10)]),.m 2 11] .ret))
def r_lengths_alike_1:Pk Tryz.prog 167=some ⟨12,za0.r,[.tmp 2]⟩:=Aa
def z9w:LC:=(.q [.x 1 0,.e 2] (.q [.f 3 3 1,.l 4 3,.f 5 4 1,.l 6 5,.z 7 (.buildSl 1 2 [(.i 0),(.i 0)] [(0,1,.t 4),(1,1,.t 6)]),.m 2 7] .ret))
def r_lengths_alike_2:Pk Tryz.prog 168=some ⟨8,z9w.r,[.tmp 2]⟩:=Aa
def z9o:LC:=(.q [.x 1 0,.e 2] (.q [.f 3 1 1,.l 4 3,.f 5 2 1,.l 6 5,.z 7 (.buildSl 1 2 [(.i 0),(.i 0)] [(0,1,.t 4),(1,1,.t 6)]),.m 2 7] .ret))
def r_lengths_alike_3:Pk Tryz.prog 169=some ⟨8,z9o.r,[.tmp 2]⟩:=Aa
def z9q:LC:=(.q [.x 1 0,.e 2] (.q [.f 3 1 1,.l 4 3,.f 5 3 1,.l 6 5,.f 7 4 1,.l 8 7,.z 9 (.buildSl 1 3 [(.i 0),(.i 0),(.i 0)] [(0,1,.t 4),(1,1,.t 6),(2,1,.t 8)]),.m 2 9] .ret))
def r_lengths_alike_4:Pk Tryz.prog 170=some ⟨10,z9q.r,[.tmp 2]⟩:=Aa
def z99:LC:=(.q [.x 1 0,.e 2] (.q [.f 3 1 1,.l 4 3,.f 5 5 1,.l 6 5,.z 7 (.buildSl 1 2 [(.i 0),(.i 0)] [(0,1,.t 4),(1,1,.t 6)]),.m 2 7] .ret))
def r_lengths_alike_5:Pk Tryz.prog 171=some ⟨8,z99.r,[.tmp 2]⟩:=Aa
def za5:LC:=(.q [.x 1 0,.e 2] (.q [.f 3 1 1,.l 4 3,.f 5 3 1,.l 6 5,.f 7 5 1,.l 8 7,.z 9 (.buildSl 1 3 [(.i 0),(.i 0),(.i 0)] [(0,1,.t 4),(1,1,.t 6),(2,1,.t 8)]),.m 2 9] .ret))
def r_lengths_alike_6:Pk Tryz.prog 172=some ⟨10,za5.r,[.tmp 2]⟩:=Aa
def z9t:LC:=(.q [.F 4] (.seq (.draw [(.l 5 1,[]),(.m 6 0,[]),(.I 7 3 5 6,[]),(.f 8 0 7,[]),(.l 9 8,[]),(.l 10 1,[]),(.l 11 2,[]),(.z 12 (.ixAddr 1 (.t 11) (.k 0)),[]),(.l 13 12,[]),(.I 14 3 10 13,[]),(.f 15 0 14,[]),(.l 16 15,[]),(.c 17 .neq 3 9 16,[]),(.m 4 17,[])]) .ret))
def r_lengths_agree_1:Pk Tryz.prog 154=some ⟨18,z9t.r,[.tmp 4]⟩:=Aa
def z19:LC:=(.q [.x 2 0,.x 3 1,.F 4] (.seq (.draw [(.f 10 0 3,[]),(.l 11 10,[]),(.z 9 (.w 153 []),[(.l 11 10,false)]),(.z 12 (.lookup (.int .i64) .nilFn true (.t 9) (.t 11)),[]),(.m 8 12,[]),(.X 13 0 8,[]),(.X 14 1 8,[]),(.m 5 13,[]),(.m 6 14,[])]) (.seq (.q [.m 15 6,.z 16 (.un .not (.t 15))] (.cond (.t 16) (.q [.z 4 (.move .T)] .ret) .skip)) (.q [.m 17 5,.L 18 7 3,.z 19 (.callV (.t 17) [.t 18]),.z 7 (.alloc [.nilSl]),.S 1 7 19] (.q [.l 20 7,.z 21 (.mkFunc 154 [] [.t 2,.t 7]),.W 22 91 20 21,.z 23 (.un .not (.t 22)),.m 4 23] .ret)))))
def r_lengths_agree:Pk Tryz.prog 135=some ⟨24,z19.r,[.tmp 4]⟩:=Aa
def zd6:List (LV×LV×Nat):=[(.i 6,.fn (.func 168) [] [],0),(.i 14,.fn (.func 169) [] [],1),(.i 8,.fn (.func 170) [] [],2),(.i 9,.fn (.func 171) [] [],3),(.i 10,.fn (.func 167) [] [],4),(.i 11,.fn (.func 167) [] [],5),(.i 12,.fn (.func 167) [] [],6),(.i 13,.fn (.func 172) [] [],7)]
def z13(k:Z (.map I.length) (I++[.map zd6 8 8])):Ql (.fn 153) [] I Z:=by
 refine Pj r_lengths_alike Aa N ?_;simp[zbw];exact k
def zga(o:Ko):Rk 167 [.agg o.f] (.lst ([o.d,o.a,o.b,o.c].map .i) 4 1):=by
 refine Uy.mk Ct (Pj r_lengths_alike_1 Aa N ?_);simp[za0,Ko.f,P9,bor]
def zw1(o:Ko):Rk 168 [.agg o.f] (.lst ([o.a,o.b].map .i) 2 1):=by
 refine Uy.mk Ct (Pj r_lengths_alike_2 Aa N ?_);simp[z9w,Ko.f,P9,bor]
def zww(o:Ko):Rk 169 [.agg o.f] (.lst ([o.d,o.e].map .i) 2 1):=by
 refine Uy.mk Ct (Pj r_lengths_alike_3 Aa N ?_);simp[z9o,Ko.f,P9,bor]
def zwb(o:Ko):Rk 170 [.agg o.f] (.lst ([o.d,o.a,o.b].map .i) 3 1):=by
 refine Uy.mk Ct (Pj r_lengths_alike_4 Aa N ?_);simp[z9q,Ko.f,P9,bor]
def zvz(o:Ko):Rk 171 [.agg o.f] (.lst ([o.d,o.c].map .i) 2 1):=by
 refine Uy.mk Ct (Pj r_lengths_alike_5 Aa N ?_);simp[z99,Ko.f,P9,bor]
def zwn(o:Ko):Rk 172 [.agg o.f] (.lst ([o.d,o.a,o.c].map .i) 3 1):=by
 refine Uy.mk Ct (Pj r_lengths_alike_6 Aa N ?_);simp[za5,Ko.f,P9,bor]
def mw(g:List Vr)(v:Int):Prop:=0≤v∧v<g.length
def mw.at{vs:List Vr}{v:Int}(h:mw vs v):∃k:Nat,v=k∧k<vs.length∧vs[k]?=some (gv vs v.toNat):=by
 obtain⟨k,rfl⟩:=J5 h.1;have h2:=h.2;exact⟨k,rfl,J,by rw[Kr];exact Vf J⟩
def zt5{p q st:Nat}(v:Int)(j:I[p]?=some (.cells [.lst (Py vQ) vQ.length 3] st))(z:I[q]?=some (.cells [.lst (vR.map .i) vR.length 1] g))
  (hv:mw vQ v) (A:mw vQ (vR.headD 0)) (D:vR≠[]) (k:Z (.bool (decide (Qs vQ v≠Qs vQ (vR.headD 0)))) I):Ql (.fn 154) [.i v,.ptr p 0,.ptr q 0] I Z:=by
 refine Pj r_lengths_agree_1 Aa N ?_;cases vR with
 |nil=>exact absurd rfl D
 |cons y vR =>
  simp only[List.headD_cons]at A k;obtain⟨a,rfl,ha,E⟩:=hv.at;obtain⟨b,rfl,hb,F⟩:=A.at;have B:=zl E;have C:=zl F;simp only[Kr]at B C;simp only[Qs,Kr]at k;simp[z9t,j,z,ha,hb];simp[Pe B,Pe C,j,z,ha,hb];rw[←decide_not];exact k
def zrj(g:List Int)(x:Int→Int)(y:Int):(!(g.any λv=>decide (x v≠y)))=g.all λv=>decide (x v=y):=by
 induction g with
 |nil=>rfl
 |cons a g j =>
  simp only[List.any_cons,Mq,Bool.not_or,j];by_cases h:x a=y<;>simp[h]
def zaz(F:List Vr)(o:Ko)(hv:∀v∈Rj o,mw F v):Pl 135 [.lst (Py F) F.length 3,.agg o.f] (.bool (oz F o)) []:=by
 refine P4.val rfl (Pj r_lengths_agree Aa N ?_);have j:o.f=[.i o.kind,.i o.d,.i o.e,.i o.a,.i o.b,.i o.c,.u o.imm]:=rfl;have z:∀G:List Int,G≠[]→Rj o=G→∀{M:Pd} {p q st L:Nat} {P:LV→Pd→Prop},M[p]?=some (.cells [.lst (Py F) F.length 3] st)→M[q]?=some (.cells [.lst (G.map .i) G.length 1] L)→P (.bool (!oz F o)) M →
   Ql (.fn 91) [.lst (G.map .i) G.length 1,.fn (.func 154) [] [.ptr p 0,.ptr q 0]] M P:=by
  intro G O he M p q st L P Q R k;rw[he]at hv;have T:mw F (G.headD 0):=by
   cases G with
   |nil=>exact absurd rfl O
   |cons y G=>exact hv y (K2 ..)
  have U:G.length≤9223372036854775807:=by
   rw[←he];unfold Rj;repeat' split
   all_goals simp
  refine z73 (p:=λv=>decide (Qs F v≠Qs F (G.headD 0))) U (λv hm X V=>zt5 v Q R (hv v hm) T O V) ?_;have:=zrj G (Qs F) (Qs F (G.headD 0));rw[←Bool.not_not (G.any _),this];rw[oz,he]at k;exact k
 by_cases H:o.kind=6
 ·have he:Rj o=[o.a,o.b]:=by simp[Rj,H]
  simp[z19,j,H];refine z13 ?_;simp[zd6];have g:=zw1 o;rw[j,H]at g;refine Ux g rfl ?_;simp;refine z [o.a,o.b] N he rfl rfl ?_;simp
 by_cases A:o.kind=14
 ·have he:Rj o=[o.d,o.e]:=by simp[Rj,A]
  simp[z19,j,A];refine z13 ?_;simp[zd6];have g:=zww o;rw[j,A]at g;refine Ux g rfl ?_;simp;refine z [o.d,o.e] N he rfl rfl ?_;simp
 by_cases I:o.kind=8
 ·have he:Rj o=[o.d,o.a,o.b]:=by simp[Rj,I]
  simp[z19,j,I];refine z13 ?_;simp[zd6];have g:=zwb o;rw[j,I]at g;refine Ux g rfl ?_;simp;refine z [o.d,o.a,o.b] N he rfl rfl ?_;simp
 by_cases K:o.kind=9
 ·have he:Rj o=[o.d,o.c]:=by simp[Rj,K]
  simp[z19,j,K];refine z13 ?_;simp[zd6];have g:=zvz o;rw[j,K]at g;refine Ux g rfl ?_;simp;refine z [o.d,o.c] N he rfl rfl ?_;simp
 by_cases B:o.kind=10
 ·have he:Rj o=[o.d,o.a,o.b,o.c]:=by simp[Rj,B]
  simp[z19,j,B];refine z13 ?_;simp[zd6];have g:=zga o;rw[j,B]at g;refine Ux g rfl ?_;simp;refine z [o.d,o.a,o.b,o.c] N he rfl rfl ?_;simp
 by_cases C:o.kind=11
 ·have he:Rj o=[o.d,o.a,o.b,o.c]:=by simp[Rj,C]
  simp[z19,j,C];refine z13 ?_;simp[zd6];have g:=zga o;rw[j,C]at g;refine Ux g rfl ?_;simp;refine z [o.d,o.a,o.b,o.c] N he rfl rfl ?_;simp
 by_cases D:o.kind=12
 ·have he:Rj o=[o.d,o.a,o.b,o.c]:=by simp[Rj,D]
  simp[z19,j,D];refine z13 ?_;simp[zd6];have g:=zga o;rw[j,D]at g;refine Ux g rfl ?_;simp;refine z [o.d,o.a,o.b,o.c] N he rfl rfl ?_;simp
 by_cases E:o.kind=13
 ·have he:Rj o=[o.d,o.a,o.c]:=by simp[Rj,E]
  simp[z19,j,E];refine z13 ?_;simp[zd6];have g:=zwn o;rw[j,E]at g;refine Ux g rfl ?_;simp;refine z [o.d,o.a,o.c] N he rfl rfl ?_;simp
 have he:Rj o=[]:=by simp[Rj,H,A,I,K,B,C,D,E]
 simp[z19,j,H,A,I,K,B,C,D,E];refine z13 ?_;simp[zd6,H,A,I,K,B,C,D,E];simp[oz,he]
def z5h:LC:=(.q [.e 2] (.seq (.q [.m 3 0,.z 4 (.bin .eql true 81 (.t 3) (.c .nilSl))] (.cond (.t 4) (.q [.e 2] .ret) .skip)) (.q [.z 5 (.buildSl 1 0 [] []),.m 6 0,.a 7 1 5 6,.m 2 7] .ret)))
def r_slices_Clone_int_int:Pk Tryz.prog 138=some ⟨8,z5h.r,[.tmp 2]⟩:=Aa
def z42:LC:=(.q [.e 4] (.q [.m 8 0,.m 9 1,.W 10 136 8 9,.m 5 10] (.seq (.q [.m 11 5,.b 12 .eql 3 11 (-1)] (.cond (.t 12) (.q [.m 13 0,.m 4 13] .ret) .skip)) (.seq (.q [.m 14 5,.b 15 .add 3 14 1,.m 6 15] (.block 0 (.loop (.seq (.q [.m 16 6,.m 17 0,.s 18 17,.c 19 .lss 3 16 18] (.cond (.t 19) .skip (.exit 0))) (.seq (.block 1 (.q [.m 22 0,.m 23 6,.I 24 1 22 23,.l 25 24,.m 7 25] (.q [.m 26 1,.m 27 7,.z 28 (.callV (.t 26) [.t 27]),.z 29 (.un .not (.t 28))] (.cond (.t 29) (.q [.m 30 0,.m 31 5,.m 32 7,.I 33 1 30 31,.S 1 33 32] (.ops [.m 34 5,.b 35 .add 3 34 1,.m 5 35])) .skip)))) (.ops [.m 20 6,.b 21 .add 3 20 1,.m 6 21])))))) (.q [.m 36 0,.m 37 5,.z 38 (.slSl 1 (.t 36) (some (.t 37)) none),.v (.clear 1 [(.i 0)] (.t 38))] (.q [.m 39 0,.m 40 5,.z 41 (.slSl 1 (.t 39) none (some (.t 40))),.m 4 41] .ret))))))
def r_slices_DeleteFunc_int_int:Pk Tryz.prog 137=some ⟨42,z42.r,[.tmp 4]⟩:=Aa
def z9s:LC:=(.q [.F 2] (.q [.m 3 0,.b 4 .lss 3 3 0,.m 2 4] .ret))
def r_lengths_takes_1:Pk Tryz.prog 139=some ⟨5,z9s.r,[.tmp 2]⟩:=Aa
def zbp:LC:=(.q [.x 1 0,.e 2] (.q [.L 5 7 1,.w 6 133 5,.z 3 (.alloc [(.i 0),(.i 0),(.i 0),(.i 0),(.i 0)]),.S 5 3 6] (.q [.z 7 (.slArr 5 1 (.t 3) (some (.k 2)) none),.w 8 138 7,.z 9 (.w 137 [.t 8,(.c (.fn (.func 139) [] []))]),.m 4 9] (.seq (.q [.f 10 0 1,.l 11 10,.b 12 .eql 3 11 14] (.cond (.t 12) (.ops [.m 13 4,.f 14 1 1,.l 15 14,.f 16 2 1,.l 17 16,.z 18 (.buildSl 1 2 [(.i 0),(.i 0)] [(0,1,.t 15),(1,1,.t 17)]),.a 19 1 13 18,.m 4 19]) .skip)) (.q [.m 20 4,.m 2 20] .ret)))))
def r_lengths_takes:Pk Tryz.prog 92=some ⟨21,zbp.r,[.tmp 2]⟩:=Aa
def sl_nil:Uh Tryz.prog true 81 .nilSl .nilSl=some true:=Aa
def ii{l:List Int}(g:l.length≤1048576)(j:l≠[])(k:Z (.dy I.length 1) (I++[.dyn (l.map .i) l.length 1 1 1])):Ql (.fn 138) [.lst (l.map .i) l.length 1] I Z:=by
 refine Pj r_slices_Clone_int_int Aa N ?_;simp[z5h,sl_nil,g,j];exact k
def zo7{l:List Int}{f:Nat}{p:Int→Bool}(g:l.length≤9223372036854775807)
  (j:∀v∈l,Pl f [.i v] (.bool (p v)) []):Pl 136 [.lst (l.map .i) l.length 1,.fn (.func f) [] []] (.i (nj p l)) [] :=
 P4.val rfl (zee g (λv hv z k=>by
  simp only[Ok,Ls];exact Pr (j v hv) (bors_self _ rfl) k) rfl)
def zkr{q k st:Nat}{l:List Int}{f:Nat}{p:Int→Bool}(hl:l.length≤9223372036854775807)(M:I[q]?=some (.dyn (l.map .i) l.length 1 k st))
  (V:∀v,Pl f [.i v] (.bool (p v)) []) (k0:l.filter (λv=>!p v)=l→Z (.dy q k) I)
  (k1:∀(m:Nat) (gg:List LV) (g:Nat),m=(l.filter (λv=>!p v)).length→gg.length=l.length→gg.take m=(l.filter (λv=>!p v)).map .i→dats gg=true→Z (.vw q k 0 m) (I.set q (.dyn gg l.length 1 k g))) :
  Ql (.fn 137) [.dy q k,.fn (.func f) [] []] I Z:=by
 refine Pj r_slices_DeleteFunc_int_int Aa (by simp) ?_;have O:q<I.length:=(Jy.1 M).1;have P:∀l:List Int,dats (l.map .i)=true:=λl=>yp (λ_=>rfl) l
 have z:∀Q,(I.set q Q)[q]?=some Q:=λQ=>J3 O
 have A:I.set q (.dyn (l.map .i) l.length 1 k st)=I:=zv1 M;simp[z42];refine Pr (zo7 hl λv _=>V v) (by simp[bors,bor,LV.dat,dats,M,P]) ?_;rcases zyo p l with ⟨R,H⟩|⟨K,R,gD,H⟩
 ·simp[R];exact k0 H
 have n1:¬((K:Int)=-1):=J
 simp[R,n1];refine⟨J,?_⟩;refine Qt (λX gH Y N=>∃(i j:Nat) (c:List Int) (g:Nat),gH=[]∧Y=I.set q (.dyn (c.map .i) l.length 1 k g)∧N+j=l.length∧i<j∧j≤l.length∧lk X 0=.dy q k∧lk X 1=.fn (.func f) [] []∧lk X 5=.i i∧lk X 6=.i j ∧
   c.length=l.length∧i=((l.take j).filter (λv=>!p v)).length∧c.take i=(l.take j).filter (λv=>!p v)∧∀u,j≤u→gd c u=gd l u)
  (N:=l.length-(K+1)) ⟨K,K+1,l,st,rfl,A.symm,J,J,J,by simp,by simp,by simp,by simp,rfl,by rw[H];simp;omega,H.symm,λu _=>rfl⟩ ?_
 rintro N X gH Y ⟨i,j,c,g,rfl,rfl,hN,gF,hj,C,D,E,F,hc,hi,L,T⟩ Nx G;by_cases gG:j<l.length
 ·have g2:i<l.length:=J
  have U:=W4 (f:=LV.i) (Xl (l:=c) (u:=j) J);have eg:=T j (J8 _);simp[C,D,E,F,z,gG];simp[Pe U,C,D,E,F,z,gG,eg];refine Pr (V (gd l j)) (by simp) ?_;have B:=zq8 (p:=p) gG;cases hb:p (gd l j) with
  |true =>
   rw[hb]at B;simp only[Lj,Ls]at B;simp[F]
   repeat (refine⟨J,?_⟩)
   exact G _ _ _ ⟨N-1,J,i,j+1,c,g,rfl,rfl,J,J,J,Af,At,Ax,by simp,hc,by rw[B];exact hi,by rw[B];exact L,λu hu=>T u J⟩
  |false =>
   rw[hb,J1 (by simp)]at B;simp[C,D,E,F,z,g2];rw[zt1 _ _ _ J]
   repeat (refine⟨J,?_⟩)
   refine G _ _ _ ⟨N-1,J,i+1,j+1,_,_,rfl,rfl,J,J,J,Af,At,by simp,by simp,by simpa using hc,?_,?_,λu hu=>?_⟩
   ·rw[B,J9,←hi];rfl
   ·rw[B,znj J,L]
   ·rw[zsf (j:=j+1) J J u hu,T u J]
 ·have ej:j=l.length:=J
  subst ej;rw[Mw]at hi L;simp[C,D,E,F,z]
  repeat (refine⟨J,?_⟩)
  refine k1 i _ _ hi ?_ ?_ ?_
  ·rw[zwj (by rw[z62];simp;omega)];simp[hc]
  ·rw[rp Ab,←Nt,L]
  ·unfold Qj;exact dats_app (dats_app (dats_take _ (P c)) (zu4 rfl _)) (dats_drop _ (P c))
def zx6(v:Int):Pl 139 [.i v] (.bool (decide (v<0))) []:=by
 refine P4.val rfl (Pj r_lengths_takes_1 Aa N ?_);simp[z9s]
def zav(o:Ko)(h:o.kind=14→o.a=-1∧o.b=-1):Rk 92 [.agg o.f] (.lst ((Uw o).map .i) (Uw o).length 1):=by
 have I:∀l:List Int,dats (l.map .i)=true:=λl=>yp (λ_=>rfl) l
 refine Uy.mk (by simp[LV.dat,I]) (Pj r_lengths_takes Aa N ?_);have z:o.f=[.i o.kind,.i o.d,.i o.e,.i o.a,.i o.b,.i o.c,.u o.imm]:=rfl;simp[zbp,z];rw[←z];refine Pr (zau o) (bors_self _ rfl) ?_;simp;refine ii (l:=[o.a,o.b,o.c]) N N ?_;simp;have F:([o.a,o.b,o.c].filter λv=>!decide (v<0)).length≤3:=List.length_filter_le _ _;refine zkr (l:=[o.a,o.b,o.c]) (p:=λv=>decide (v<0)) N rfl zx6 (λhw=>?_) (λm E K hm G H hd=>?_)
 ·by_cases g:o.kind=14
  ·have:=List.filter_eq_self.1 hw o.a N;rw[(h g).1]at this;simp at this
  ·have e:Uw o=[o.a,o.b,o.c]:=by unfold Uw;rw[hw,J1 g];rfl
   simp[z,g,e,P9,bor,dats,LV.dat]
 ·by_cases g:o.kind=14
  ·have e:Uw o=([o.a,o.b,o.c].filter λv=>!decide (v<0))++[o.d,o.e]:=by unfold Uw;rw[J6 g]
   have A:m≤1:=by
    rw[hm,(h g).1,(h g).2];simp;by_cases hc:0≤o.c<;>simp[hc]
   have j:E.length=3:=G;simp[z,g,j,A,dats,LV.dat];rw[e];have B:(([o.a,o.b,o.c].filter λv=>!decide (v<0))++[o.d,o.e]).length=m+2:=by rw[J9,←hm];rfl
   have L:(([o.a,o.b,o.c].filter λv=>!decide (v<0))++[o.d,o.e]).map LV.i=E.take m++[.i o.d,.i o.e]:=by rw[Ng,H];rfl
   have C:(E.take m++[LV.i o.d,LV.i o.e]).length=m+2:=by rw[J9,Mc];simp;omega
   have M:dats (E.take m++[LV.i o.d,LV.i o.e])=true:=dats_app (dats_take _ hd) rfl;have D:(Qj E m [.i o.d,.i o.e]).length=3:=by unfold Qj;simp;omega
   rw[L,B];refine⟨J,⟨_,_,_,⟨?_,rfl,rfl⟩,⟨rfl,rfl,rfl⟩,?_,?_⟩,⟨_,_,_,⟨rfl,rfl,rfl⟩,⟨rfl,rfl,rfl⟩,M⟩⟩
   ·unfold Qj;rw[Oe];exact (M9 C).symm
   ·rw[D];omega
   ·unfold Qj;exact dats_app (dats_app (dats_take _ hd) rfl) (dats_drop _ hd)
  ·have e:Uw o=[o.a,o.b,o.c].filter λv=>!decide (v<0):=by unfold Uw;rw[J1 g,Ls]
   simp[z,g,dats,LV.dat];rw[e,←H,←hm];have j:E.length=3:=G;simp[P9,bor,hd];exact⟨_,_,_,⟨by rw[Oe],rfl⟩,⟨rfl,rfl,rfl⟩,Cu,hd⟩
def zb9:LC:=(.q [.F 3] (.q [.l 4 1,.m 5 0,.I 6 3 4 5,.f 7 1 6,.l 8 7,.m 3 8] .ret))
def r_lengths_one_1:Pk Tryz.prog 134=some ⟨9,zb9.r,[.tmp 3]⟩:=Aa
def zag:LC:=(.q [.x 2 0,.x 3 1,.F 4] (.seq (.q [.f 13 0 3,.l 14 13,.b 15 .eql 3 14 17] (.cond (.t 15) (.q [.l 16 2,.L 17 7 3,.W 18 88 16 17,.m 4 18] .ret) .skip)) (.q [.f 20 0 3,.l 21 20,.w 22 131 21,.m 19 22,.X 23 0 19,.X 24 1 19,.m 5 23,.m 6 24] (.seq (.q [.m 25 6,.z 26 (.un .not (.t 25)),.m 27 26,.n 28 27 (.loadN 7 (.t 3)),.n 29 27 (.w 132 [.t 28]),.n 30 27 (.un .not (.t 29)),.p 31 27 30] (.cond (.t 31) (.q [.F 4] .ret) .skip)) (.seq (.q [.L 32 7 3,.w 33 133 32,.K 34 0] (.block 0 (.loop (.q [.b 35 .lss 3 34 5] (.seq (.cond (.t 35) .skip (.exit 0)) (.seq (.block 1 (.q [.m 36 34,.z 37 (.ixArr false 5 1 (.t 33) (.t 34)),.m 7 36,.m 8 37] (.q [.m 38 5,.m 39 7,.c 40 .shr 3 38 39,.b 41 .and 3 40 1,.b 42 .eql 3 41 1,.m 9 42] (.q [.m 43 9,.m 44 43,.my 45 44 8,.y 46 44 (.bin .lss true 3 (.t 45) (.k 0)),.my 47 44 46,.mn 48 47 8,.nl 49 47 2,.n 50 47 (.lenSl (.t 49)),.n 51 47 (.bin .geq false 3 (.t 48) (.t 50)),.y 52 44 (.pick (.t 47) .T (.t 51)),.q 53 44 52,.m 54 53,.mn 55 54 9,.n 56 54 (.un .not (.t 55)),.mn 57 54 56,.my 58 57 8,.y 59 57 (.bin .neq true 3 (.t 58) (.k (-1))),.n 60 54 (.pick (.t 57) (.t 59) .F),.p 61 54 60] (.cond (.t 61) (.q [.F 4] .ret) .skip))))) (.ops [.b 62 .add 3 34 1,.m 34 62]))))))) (.q [.L 63 7 3,.w 64 92 63,.z 65 (.mkFunc 134 [] [.t 2]),.W 66 91 64 65,.m 10 66] (.seq (.q [.f 67 1 3,.l 68 67,.f 69 2 3,.l 70 69,.z 71 (.buildSl 1 2 [(.i 0),(.i 0)] [(0,1,.t 68),(1,1,.t 70)]),.s 72 71,.K 73 0] (.block 2 (.loop (.q [.c 74 .lss 3 73 72] (.seq (.cond (.t 74) .skip (.exit 2)) (.seq (.block 3 (.q [.I 75 1 71 73,.l 76 75,.m 12 76] (.q [.m 77 12,.b 78 .geq 3 77 0,.m 79 78,.yl 80 79 2,.my 81 79 12,.y 82 79 (.ixAddr 3 (.t 80) (.t 81)),.y 83 79 (.loadN 3 (.t 82)),.y 84 79 (.w 89 [.t 83]),.my 85 79 84,.mn 86 85 10,.mn 87 85 86,.yl 88 87 2,.my 89 87 12,.y 90 87 (.ixAddr 3 (.t 88) (.t 89)),.yf 91 87 1 90,.yl 92 87 91,.y 93 87 (.un .not (.t 92)),.n 94 85 (.pick (.t 87) (.t 93) .F),.y 95 79 (.pick (.t 85) .T (.t 94)),.q 96 79 95] (.cond (.t 96) (.q [.F 4] .ret) .skip)))) (.ops [.b 97 .add 3 73 1,.m 73 97]))))))) (.q [.f 98 2 3,.l 99 98,.b 100 .lss 3 99 0,.m 101 100,.nf 102 101 1 3,.nl 103 101 102,.nf 104 101 2 3,.nl 105 101 104,.n 106 101 (.bin .neq false 3 (.t 103) (.t 105)),.p 107 101 106,.m 108 107,.yl 109 108 2,.y 110 108 (.loadN 7 (.t 3)),.y 111 108 (.w 135 [.t 109,.t 110]),.q 112 108 111,.m 4 112] .ret))))))))
def r_lengths_one:Pk Tryz.prog 90=some ⟨113,zag.r,[.tmp 4]⟩:=Aa
def ij{p st:Nat}(v:Int)(j:I[p]?=some (.cells [.lst (Py vQ) vQ.length 3] st))(hv:mw vQ v)(k:Z (.bool (gv vQ v.toNat).sec) I):Ql (.fn 134) [.i v,.ptr p 0] I Z:=by
 refine Pj r_lengths_one_1 Aa N ?_;obtain⟨a,rfl,ha,z⟩:=hv.at;have g:=ziv z;simp only[Kr]at g k;simp[zb9,j,ha];simp[Pe g];exact k
def zl8(g:List Vr)(o:Ko):Pl 90 [.lst (Py g) g.length 3,.agg o.f] (.bool (Qk g o)) []:=by
 refine P4.val rfl (Pj r_lengths_one Aa (by simp) ?_);have C:o.f=[.i o.kind,.i o.d,.i o.e,.i o.a,.i o.b,.i o.c,.u o.imm]:=rfl;by_cases z:o.kind=17
 ·simp[zag,C,z];have hf:=zbk (Py g) g.length o;rw[C,z]at hf;refine Pr hf (bors_self _ Bk) ?_;simp[Qk,z]
 simp[zag,C,z];refine Pr (zh4 o.kind) (by simp) ?_;cases M:Qm o.kind with
 |none=>simp[Qk,z,M]
 |some s =>
 simp;rw[←C];refine Pr (zg4 o) (bors_self _ rfl) ?_;cases hn:T1 o with
 |false=>simp[Qk,z,M,hn]
 |true =>
 simp[C];rw[←C];refine Pr (zau o) (bors_self _ rfl) ?_;have gH:=zpy M;simp;refine Qt (λX gI gK N=>∃i:Nat,gI=[]∧gK=[.cells [.lst (Py g) g.length 3] 0,.cells o.f 0]∧N+i=5∧lk X 2=.ptr 0 0∧lk X 3=.ptr 1 0∧lk X 5=.i s∧lk X 33=.agg ((S1 o).map .i)∧lk X 34=.i i∧∀O,O<i→To g.length s O (gd (S1 o) O)=true) (N:=5) ⟨0,by simp[S1]⟩ ?_;rintro N X gI gK ⟨i,rfl,rfl,hN,B,H,h5,P,gg,Y⟩ Nx I;by_cases hi:5≤i
 case neg =>
  have gF:(i:Int)<5:=J
  have g2:i<5:=J
  have hg:=W4 (f:=LV.i) (Xl (l:=S1 o) (u:=i) g2);have A:To g.length s i (gd (S1 o) i)=true→∀O,O<i+1→To g.length s O (gd (S1 o) O)=true:=λh O hj=>by
   by_cases e:O=i
   ·rw[e];exact h
   ·exact Y O J
  have K:To g.length s i (gd (S1 o) i)=false→Qk g o=false:=λh=>by
   simp[Qk,z,M,zpx g2 h]
  have pb:=zu9 s i;generalize gd (S1 o) i=v at *;have T:0≤(s:Int)/2^i:=Int.ediv_nonneg J (Int.pow_nonneg J);have Z:(s:Int)/2^i<9223372036854775808:=Int.lt_of_le_of_lt (Int.ediv_le_self _ J) J;have em:max ((s:Int)/2^i) 0=(s:Int)/2^i:=J
  simp[B,H,h5,P,gg,gF,Pe hg,em,T,Z,pb];refine⟨J,λhb=>⟨λv0=>?_,λv0=>⟨λv1=>?_,λv1=>?_⟩⟩,λhb=>?_⟩
  ·exact K Cb
  ·exact K Cb
  ·simp only[hb,zmu];exact⟨J,I _ _ _ ⟨N-1,J,i+1,rfl,rfl,J,Ao,A1,by simp[h5],by simp[P],by simp,A Cb⟩⟩
  ·simp only[hb,zkm];exact⟨λhv=>⟨J,I _ _ _ ⟨N-1,J,i+1,rfl,rfl,J,Ao,A1,by simp[h5],by simp[P],by simp,A (by simp[To,hb,hv])⟩⟩,λhv=>K (by simp[To,hb,hv])⟩
 have U:Vp g.length s o=true:=zly λO hj=>Y O J
 have L:=zn6 M U;have gF:¬(i:Int)<5:=J
 simp[B,H,P,gg,gF,C];rw[←C];refine Ux (zav o L.swap) rfl ?_;simp;have gG:(Uw o).length≤9223372036854775807:=by
  have h1:([o.a,o.b,o.c].filter λv=>!decide (v<0)).length≤3:=List.length_filter_le _ _;unfold Uw;split<;>simp at h1 ⊢<;>omega
 rw[B];refine z73 (p:=λv=>(gv g v.toNat).sec) gG (λv hv K' k=>ij v rfl (L.takes v hv) k) ?_;rw[show (Uw o).any (λv=>(gv g v.toNat).sec)=Qv g o from rfl];simp[B,H,C];refine Qt (λX gI gK N=>∃i:Nat,gI=[]∧gK=[.cells [.lst (Py g) g.length 3] 0,.cells o.f 0,.dyn ([o.d,o.e].map .i) 2 1 0 0]∧N+i=2∧lk X 2=.ptr 0 0∧lk X 3=.ptr 1 0∧lk X 10=.bool (Qv g o)∧lk X 71=.dy 2 0∧lk X 72=.i 2∧lk X 73=.i i∧∀O,O<i→Ug g (Qv g o) (gd [o.d,o.e] O)=true) (N:=2) ⟨0,by simp[B,H,C]⟩ ?_;rintro N X gI gK ⟨i,rfl,rfl,hN,B,H,D,E,F,G,Y⟩ Nx I;by_cases hi:2≤i
 case neg =>
  have gF:(i:Int)<2:=J
  have g2:i<2:=J
  have hg:=W4 (f:=LV.i) (Xl (l:=[o.d,o.e]) (u:=i) g2);have A:Ug g (Qv g o) (gd [o.d,o.e] i)=true→∀O,O<i+1→Ug g (Qv g o) (gd [o.d,o.e] O)=true:=λh O hj=>by
   by_cases e:O=i
   ·rw[e];exact h
   ·exact Y O J
  have K:Ug g (Qv g o) (gd [o.d,o.e] i)=false→Qk g o=false:=λh=>by
   have V:i=0∨i=1:=J
   rcases V with rfl|rfl
   ·have h:Ug g (Qv g o) o.d=false:=h;simp[Qk,z,M,h]
   ·have h:Ug g (Qv g o) o.e=false:=h;simp[Qk,z,M,h]
  have gD:gd [o.d,o.e] i=-1∨mw g (gd [o.d,o.e] i):=by
   have V:i=0∨i=1:=J
   rcases V with rfl|rfl
   ·exact L.d
   ·exact L.e
  generalize gd [o.d,o.e] i=v at *;simp only[Mt,List.map_nil]at hg;rcases gD with rfl|hv
  ·simp[B,H,D,E,F,G,gF,Pe hg];exact⟨J,I _ _ _ ⟨N-1,J,i+1,rfl,rfl,J,Ao,A1,At,Ax,Ae,by simp,A (by simp[Ug])⟩⟩
  ·obtain⟨k,rfl,hk,ek⟩:=hv.at;have q3:=zct ek;have q1:=ziv ek;have hq:=mz hk;simp only[Kr]at q1 q3;simp[B,H,D,E,F,G,gF,Pe hg,hk,q3,hq];refine Pr (zaw (gv g k)) (bors_self _ rfl) ?_;cases Q:Uq (gv g k) with
   |true =>
    simp;exact K (by simp[Ug,Q])
   |false =>
    cases j:Qv g o with
    |false =>
     simp[B,D,G,j];exact⟨J,I _ _ _ ⟨N-1,J,i+1,rfl,rfl,J,Ao,A1,by simp[D,j],Ax,Ae,by simp,A (by simp[Ug,Q,j])⟩⟩
    |true =>
     cases R:(gv g k).sec with
     |false =>
      simp[B,D,G,j,hk,Pe q1,R];exact K (by simp[Ug,Q,j,R])
     |true =>
      simp[B,D,G,j,hk,Pe q1,R];exact⟨J,I _ _ _ ⟨N-1,J,i+1,rfl,rfl,J,Ao,A1,by simp[D,j],Ax,Ae,by simp,A (by simp[Ug,Q,j,R])⟩⟩
 have gF:¬(i:Int)<2:=J
 have od:Ug g (Qv g o) o.d=true:=Y 0 J;have oe:Ug g (Qv g o) o.e=true:=Y 1 J;by_cases T:o.e<0
 ·simp[B,H,E,F,G,gF,C,T];rw[←C];refine Pr (zaz g o L.alike) (bors_self _ (by simp[dats,LV.dat,Tt,C])) ?_;simp[Qk,z,M,hn,U,od,oe,T]
 ·by_cases Z:o.d=o.e
  ·simp[B,H,E,F,G,gF,C,T,Z];simp[Qk,z,M,T,Z]
  ·simp[B,H,E,F,G,gF,C,T,Z];rw[←C];refine Pr (zaz g o L.alike) (bors_self _ (by simp[dats,LV.dat,Tt,C])) ?_;simp[Qk,z,M,hn,U,od,oe,T,Z]
def zd2:LC:=(.q [.F 2] (.q [.K 3 0] (.seq (.q [.m 6 0,.s 7 6,.K 8 0] (.block 0 (.loop (.q [.c 9 .lss 3 8 7] (.seq (.cond (.t 9) .skip (.exit 0)) (.seq (.block 1 (.q [.m 10 8,.I 11 3 6 8,.L 12 3 11,.z 5 (.alloc [(.i 0),(.bool false),(.i 0)]),.m 4 10,.S 3 5 12] (.seq (.q [.f 13 0 5,.l 14 13,.b 15 .lss 3 14 1,.m 16 15,.nf 17 16 0 5,.nl 18 16 17,.nb 19 16 .gtr 3 18 512,.p 20 16 19,.m 21 20,.nf 22 21 2 5,.nl 23 21 22,.nb 24 21 .lss 3 23 0,.p 25 21 24,.m 26 25,.nf 27 26 2 5,.nl 28 26 27,.nb 29 26 .gtr 3 28 3,.p 30 26 29] (.cond (.t 30) (.q [.F 2] .ret) .skip)) (.seq (.q [.f 31 2 5,.l 32 31,.b 33 .eql 3 32 0] (.cond (.t 33) (.exit 1) .skip)) (.seq (.q [.m 34 3,.m 35 4,.c 36 .lss 3 34 35,.m 37 36,.nf 38 37 1 5,.nl 39 37 38,.nf 40 37 2 5,.nl 41 37 40,.nb 42 37 .neq 3 41 1,.n 43 37 (.bin .neq false 4 (.t 39) (.t 42)),.p 44 37 43] (.cond (.t 44) (.q [.F 2] .ret) .skip)) (.ops [.m 45 3,.b 46 .add 3 45 1,.m 3 46])))))) (.ops [.b 47 .add 3 8 1,.m 8 47]))))))) (.q [.m 48 0,.s 49 48,.b 50 .geq 3 49 1,.m 51 50,.my 52 51 0,.y 53 51 (.lenSl (.t 52)),.y 54 51 (.bin .leq true 3 (.t 53) (.k 256)),.q 55 51 54,.m 56 55,.my 57 56 3,.y 58 56 (.bin .leq true 3 (.t 57) (.k 12)),.q 59 56 58,.m 2 59] .ret))))
def r_lengths_vars:Pk Tryz.prog 86=some ⟨60,zd2.r,[.tmp 2]⟩:=Aa
def zja(g:List Vr)(hl:g.length≤9223372036854775807):Pl 86 [.lst (Py g) g.length 3] (.bool (Tg g)) []:=by
 refine P4.val rfl (Pj r_lengths_vars Aa (by simp) ?_);simp[zd2];refine Qt (λV gg gD N=>∃i p:Nat,gg=[]∧N+i=g.length∧p≤i∧lk V 0=.lst (Py g) g.length 3∧lk V 3=.i p∧lk V 6=.lst (Py g) g.length 3∧lk V 7=.i g.length∧lk V 8=.i i∧T8 i p (g.drop i)=T8 0 0 g) (N:=g.length) ⟨0,0,by simp⟩ ?_;rintro N V gg gD ⟨i,p,rfl,hN,Y,A,E,B,C,G,hv⟩ Nx R;by_cases P:i<g.length
 ·have Z:=Vf P;have I:=zct Z;have K:=mz P;rw[zn9 P]at hv;have L:(gv g i).f=[.i (gv g i).limbs,.bool (gv g i).sec,.i (gv g i).mode]:=rfl;generalize gv g i=v at *;have D:T8 i p (v::g.drop (i+1))=none→Tg g=false:=λh=>by rw[h]at hv;simp[Tg,←hv]
  by_cases j:v.limbs<1
  ·simp[A,E,B,C,G,P,I,K,L,j];exact D (by simp[T8,Xi,j])
  by_cases z:512<v.limbs
  ·simp[A,E,B,C,G,P,I,K,L,j,z];exact D (by simp[T8,Xi,j,z])
  by_cases F:v.mode<0
  ·simp[A,E,B,C,G,P,I,K,L,j,z,F];exact D (by simp[T8,Xi,j,z,F])
  by_cases H:3<v.mode
  ·simp[A,E,B,C,G,P,I,K,L,j,z,F,H];exact D (by simp[T8,Xi,j,z,F,H])
  by_cases M:v.mode=0
  ·simp[A,E,B,C,G,P,I,K,L,j,z,F,H,M];refine⟨J,R _ _ _ ⟨N-1,J,i+1,p,rfl,J,J,Al,Ax,Ao,Af,by simp,?_⟩⟩;rw[←hv];simp[T8,Xi,j,z,F,H,M]
  by_cases Q:p<i
  ·simp[A,E,B,C,G,P,I,K,L,j,z,F,H,M,Q];exact D (by simp[T8,Xi,j,z,F,H,M,Q])
  by_cases T:v.sec=decide (v.mode=1)
  ·simp[A,E,B,C,G,P,I,K,L,j,z,F,H,M,Q,qm,T];exact D (by simp[T8,Xi,j,z,F,H,M,Q,T])
  ·have b8:v.sec=!decide (v.mode=1):=by cases hs:v.sec<;>cases hm:decide (v.mode=1)<;>simp_all
   simp[A,E,B,C,G,P,I,K,L,j,z,F,H,M,Q,qm,b8];refine⟨J,J,R _ _ _ ⟨N-1,J,i+1,p+1,rfl,J,J,Al,by simp,Ao,Af,by simp,?_⟩⟩;rw[←hv];simp[T8,Xi,j,z,F,H,M,Q,T]
 ·have ei:i=g.length:=J
  rw[L6 J]at hv;have O:T8 0 0 g=some p:=by rw[←hv];rfl
  by_cases U:1≤g.length
  ·by_cases X:g.length≤256
   ·simp[A,E,B,C,G,P,Tg,O,U,X];omega
   ·simp[A,E,B,C,G,P,Tg,O,U,X];omega
  ·simp[A,E,B,C,G,P,Tg,O,U];omega
def z5q:LC:=(.q [.F 3] (.q [.m 4 0,.b 5 .geq 3 4 0,.m 6 5,.yf 7 6 0 1,.yl 8 6 7,.my 9 6 0,.y 10 6 (.ixAddr 3 (.t 8) (.t 9)),.yf 11 6 2 10,.yl 12 6 11,.y 13 6 (.bin .eql true 3 (.t 12) (.k 3)),.q 14 6 13,.m 3 14] .ret))
def r_lengths_Check_1:Pk Tryz.prog 87=some ⟨15,z5q.r,[.tmp 3]⟩:=Aa
def z9e:LC:=(.q [.F 3] (.q [.l 4 1,.m 5 0,.I 6 1 4 5,.l 7 6,.z 8 (.un .not (.t 7)),.m 3 8] .ret))
def r_lengths_Check_2:Pk Tryz.prog 93=some ⟨9,z9e.r,[.tmp 3]⟩:=Aa
def zbz:LC:=(.q [.x 1 0,.K 2 0] (.seq (.q [.f 13 0 1,.l 14 13,.w 15 86 14,.z 16 (.un .not (.t 15)),.m 17 16,.nf 18 17 1 1,.nl 19 17 18,.n 20 17 (.lenSl (.t 19)),.nb 21 17 .gtr 3 20 4096,.p 22 17 21,.m 23 22,.nf 24 23 2 1,.nl 25 23 24,.n 26 23 (.lenSl (.t 25)),.nb 27 23 .gtr 3 26 4096,.p 28 23 27] (.cond (.t 28) (.q [.K 2 2] .ret) .skip)) (.q [.z 29 (.mkFunc 87 [] [.t 1]),.m 3 29] (.seq (.q [.f 30 2 1,.l 31 30,.s 32 31,.K 33 0] (.block 0 (.loop (.q [.c 34 .lss 3 33 32] (.seq (.cond (.t 34) .skip (.exit 0)) (.seq (.block 1 (.q [.I 35 7 31 33,.L 36 7 35,.z 5 (.alloc [(.i 0),(.i 0),(.i 0),(.i 0),(.i 0),(.i 0),(.u 0)]),.S 7 5 36] (.q [.f 37 0 5,.l 38 37,.b 39 .neq 3 38 17,.m 40 39,.nf 41 40 0 1,.nl 42 40 41,.n 43 40 (.loadN 7 (.t 5)),.n 44 40 (.w 88 [.t 42,.t 43]),.n 45 40 (.un .not (.t 44)),.p 46 40 45,.m 47 46,.mn 48 47 3,.nf 49 47 3 5,.nl 50 47 49,.n 51 47 (.callV (.t 48) [.t 50]),.p 52 47 51,.m 53 52,.mn 54 53 3,.nf 55 53 4 5,.nl 56 53 55,.n 57 53 (.callV (.t 54) [.t 56]),.p 58 53 57] (.cond (.t 58) (.q [.K 2 2] .ret) .skip)))) (.ops [.b 59 .add 3 33 1,.m 33 59]))))))) (.q [.f 60 0 1,.l 61 60,.s 62 61,.z 63 (.mkSl 1 [(.bool false)] (.t 62) (.t 62)),.z 6 (.alloc [.nilSl]),.S 1 6 63] (.seq (.q [.f 64 0 1,.l 65 64,.s 66 65,.K 67 0] (.block 2 (.loop (.q [.c 68 .lss 3 67 66] (.seq (.cond (.t 68) .skip (.exit 2)) (.seq (.block 3 (.q [.m 69 67,.I 70 3 65 67,.L 71 3 70,.z 8 (.alloc [(.i 0),(.bool false),(.i 0)]),.m 7 69,.S 3 8 71] (.draw [(.l 72 6,[]),(.m 73 7,[]),(.L 74 3 8,[]),(.w 75 89 74,[(.l 72 6,false)]),(.I 76 1 72 73,[]),(.S 1 76 75,[])]))) (.ops [.b 77 .add 3 67 1,.m 67 77]))))))) (.q [.K 9 0] (.seq (.q [.f 78 1 1,.l 79 78,.s 80 79,.K 81 0] (.block 4 (.loop (.q [.c 82 .lss 3 81 80] (.seq (.cond (.t 82) .skip (.exit 4)) (.seq (.block 5 (.q [.I 83 7 79 81,.L 84 7 83,.z 11 (.alloc [(.i 0),(.i 0),(.i 0),(.i 0),(.i 0),(.i 0),(.u 0)]),.S 7 11 84] (.seq (.q [.f 85 0 1,.l 86 85,.L 87 7 11,.W 88 90 86 87,.z 89 (.un .not (.t 88)),.m 90 89,.n 91 90 (.loadN 7 (.t 11)),.n 92 90 (.w 92 [.t 91]),.n 93 90 (.mkFunc 93 [] [.t 6]),.n 94 90 (.w 91 [.t 92,.t 93]),.p 95 90 94] (.cond (.t 95) (.q [.K 2 2] .ret) .skip)) (.seq (.q [.f 96 0 11,.l 97 96] (.block 6 (.q [.b 99 .eql 3 97 15,.m 98 99] (.cond (.t 98) (.ops [.m 100 9,.b 101 .add 3 100 1,.m 9 101]) (.q [.b 103 .eql 3 97 16,.m 102 103] (.cond (.t 102) (.ops [.m 104 9,.b 105 .sub 3 104 1,.m 9 105]) .skip)))))) (.seq (.q [.m 106 9,.b 107 .lss 3 106 0,.m 108 107,.mn 109 108 9,.nb 110 108 .gtr 3 109 4,.p 111 108 110] (.cond (.t 111) (.q [.K 2 2] .ret) .skip)) (.q [.f 112 1 11,.l 113 112,.b 114 .geq 3 113 0] (.cond (.t 114) (.ops [.l 115 6,.f 116 1 11,.l 117 116,.I 118 1 115 117,.v (.store 1 (.t 118) .T)]) .skip))))))) (.ops [.b 119 .add 3 81 1,.m 81 119]))))))) (.seq (.q [.l 120 6,.s 121 120,.K 122 0] (.block 7 (.loop (.q [.c 123 .lss 3 122 121] (.seq (.cond (.t 123) .skip (.exit 7)) (.seq (.block 8 (.q [.m 124 122,.m 12 124] (.q [.m 125 3,.m 126 12,.z 127 (.callV (.t 125) [.t 126]),.m 128 127,.yl 129 128 6,.my 130 128 12,.y 131 128 (.ixAddr 1 (.t 129) (.t 130)),.yl 132 128 131,.y 133 128 (.un .not (.t 132)),.q 134 128 133] (.cond (.t 134) (.q [.K 2 2] .ret) .skip)))) (.ops [.b 135 .add 3 122 1,.m 122 135]))))))) (.seq (.q [.m 136 9,.b 137 .neq 3 136 0] (.cond (.t 137) (.q [.K 2 2] .ret) .skip)) (.q [.K 2 0] .ret)))))))))))
def r_lengths_Check:Pk Tryz.prog 55=some ⟨138,zbz.r,[.tmp 2]⟩:=Aa
def Uj(g:List Vr)(j z:List Ko):List LV:=[.lst (Py g) g.length 3,.lst (Wn j) j.length 7,.lst (Wn z) z.length 7]
def Qa{x:Pd}{q:Nat}(h:q<I.length):(I++x)[q]?=I[q]?:=J4 h
def znx(f:vM→LV)(l:List vM)(g:Nat)(x:vM)(h:g<l.length):Qj (l.map f) g [f x]=(l.set g x).map f:=by
 unfold Qj;rw[K3,J6 h];simp[Nt,List.map_drop]
def repB(n:Nat):Rl [.bool false] n=(List.replicate n false).map LV.bool:=by
 induction n with
 |zero=>rfl
 |succ n g=>simp[Rl,g,Na]
def gb_ext{a b:List Bool}(h:a.length=b.length)(he:∀g,g<a.length→gb a g=gb b g):a=b:=by
 apply List.ext_getElem h;intro g j z;have:=he g j;simpa [gb,J0,j,z] using this
def gb_setv(m:List Bool)(i g:Nat)(b:Bool)(hi:i<m.length):gb (m.set i b) g=if g=i then b else gb m g:=by
 unfold gb;rw[J0,J0,N1];by_cases h:i=g
 ·subst h;simp[hi]
 ·rw[J1 h,J1 (λq=>h q.symm)]
def zdz{p st:Nat}(v:Int)(j:I[p]?=some (.cells (.lst (Py vQ) vQ.length 3::E) st))(hv:v<vQ.length)(k:Z (.bool (Xd vQ v)) I):Ql (.fn 87) [.i v,.ptr p 0] I Z:=by
 refine Pj r_lengths_Check_1 Aa N ?_;by_cases g:0≤v
 ·obtain⟨a,rfl⟩:=J5 g;have ha:a<vQ.length:=J
  have z:=rx (Vf ha);simp[z5q,j,ha];simp[Pe z];simpa [Xd] using k
 ·simp[z5q,j,g];simpa [Xd,g] using k
def zsl{p q st:Nat}{m:List Bool}(v:Int)(j:I[p]?=some (.cells [.dy q 0] st))(z:I[q]?=some (.dyn (m.map .bool) m.length 1 0 g))(hv:0≤v∧v<m.length)(k:Z (.bool (!gb m v.toNat)) I):Ql (.fn 93) [.i v,.ptr p 0] I Z:=by
 refine Pj r_lengths_Check_2 Aa N ?_;obtain⟨a,rfl⟩:=J5 hv.1;have ha:a<m.length:=J
 have A:=W4 (f:=LV.bool) (at_gb ha);simp[z9e,j,z,ha];simp[Pe A];simpa using k
def zay(g:List Vr)(j z:List Ko)(jU:g.length≤9223372036854775807):Pl 55 [.agg (Uj g j z)] (.i (W3 g j z)) []:=by
 refine P4.val rfl (Pj r_lengths_Check Aa (by simp) ?_);have gH:U1 g j z=false→W3 g j z=2:=λh=>by simp[W3,h]
 simp[zbz,Uj];refine Pr (zja g jU) (bors_self _ Bk) ?_;cases hv:Tg g with
 |false=>simp[gH,U1,hv]
 |true =>
 have jV:=zef hv;by_cases g1:(4096:Int)<(j.length:Int)
 ·simp[g1];exact (gH (by simp[U1,hv];omega)).symm
 by_cases g2:(4096:Int)<(z.length:Int)
 ·simp[g1,g2];exact (gH (by simp[U1,hv];omega)).symm
 simp[g1,g2];refine Qt (λρ jM gM N=>∃i:Nat,jM=[]∧N+i=z.length∧lk ρ 1=.ptr 0 0∧lk ρ 3=.fn (.func 87) [] [.ptr 0 0]∧lk ρ 31=.lst (Wn z) z.length 7∧lk ρ 32=.i z.length∧lk ρ 33=.i i∧0<gM.length∧gM[0]?=some (.cells (Uj g j z) 0)∧∀gG,gG<i→Vt g (go z gG)=true) (N:=z.length) ⟨0,by simp[Uj]⟩ ?_;rintro N ρ jM gM ⟨i,rfl,hN,B,F,gZ,jg,jz,O,L,hr⟩ Nx H;by_cases gO:i<z.length
 ·have q7:=zv3 (Y0 gO);have T:=os_lt gO;have P:(go z i).f=[.i (go z i).kind,.i (go z i).d,.i (go z i).e,.i (go z i).a,.i (go z i).b,.i (go z i).c,.u (go z i).imm]:=rfl;have no:Vt g (go z i)=false→W3 g j z=2:=λh=>gH (by
   have:z.all (Vt g)=false:=by
    rw[N6];exact⟨go z i,Kj (Y0 gO),by simp[h]⟩
   simp[U1,this])
  have jX:Vt g (go z i)=true→∀gG,gG<i+1→Vt g (go z gG)=true:=λh gG hj=>by
   by_cases e:gG=i
   ·rw[e];exact h
   ·exact hr gG J
  generalize go z i=o at *;by_cases gI:o.kind=17
  ·simp[B,F,gZ,jg,jz,gO,q7,T,P,gI,↓Qa O,L,Uj];have hc:=zbk (Py g) g.length o;rw[P,gI]at hc;refine Pr hc (bors_self _ Bk) ?_;cases hn:Up g.length o with
   |false =>
    simp;exact (no (by simp[Vt,hn])).symm
   |true =>
    have jA:=fv gI hn;have ha:o.a<g.length:=by
     simp only[Up,J2]at hn;exact (mm.1 hn.2.2.2.1).2
    have hb:o.b<g.length:=by
     simp only[Up,J2]at hn;have:=hn.2.2.2.2;split at this
     ·exact (mm.1 this).2
     ·simp at this;omega
    simp[F];refine zdz o.a Ck ha ?_;cases ho:Xd g o.a with
    |true =>
     simp;exact (no (by simp[Vt,ho])).symm
    |false =>
     simp[F];refine zdz o.b Ck hb ?_;cases jO:Xd g o.b with
     |true =>
      simp;exact (no (by simp[Vt,jO])).symm
     |false =>
      simp[jz];exact⟨J,H _ _ _ ⟨N-1,J,i+1,rfl,J,Ao,Ae,by simp[gZ],by simp[jg],by simp,by simp,Ck,jX (by simp[Vt,gI,hn,ho,jO])⟩⟩
  ·simp[B,F,gZ,jg,jz,gO,q7,T,P,gI];exact (no (by simp[Vt,gI])).symm
 have jP:z.all (Vt g)=true:=by
  rw[Li];intro o ho;obtain⟨gG,hj,rfl⟩:=L5.1 ho;have e:=Y0 hj;rw[J7 hj]at e;rw[Option.some.inj e];exact hr gG J
 simp[B,F,gZ,jg,jz,gO,L,Uj,jV,↓Qa O];refine⟨J,?_⟩;refine Qt (λρ jM gM N=>∃(i:Nat) (m:List Bool) (p q st E:Nat),jM=[]∧N+i=g.length∧lk ρ 1=.ptr 0 0∧lk ρ 3=.fn (.func 87) [] [.ptr 0 0]∧lk ρ 6=.ptr p 0∧lk ρ 65=.lst (Py g) g.length 3∧lk ρ 66=.i g.length∧lk ρ 67=.i i ∧
   0<gM.length∧p<gM.length∧0<q∧q<gM.length∧gM[0]?=some (.cells (Uj g j z) 0)∧gM[p]?=some (.cells [.dy q 0] st)∧gM[q]?=some (.dyn (m.map .bool) m.length 1 0 E)∧m.length=g.length∧∀gG,gG<i→gb m gG=Uq (gv g gG)) (N:=g.length)
  ⟨0,List.replicate g.length false,gM.length+1,gM.length,1,0,rfl,J,Ao,Ae,by simp,Ao,by simp,by simp,by simp,by simp,O,by simp,Ck,by simp,by simp[repB],by simp,by simp⟩ ?_
 clear B F L hr H O;rintro N ρ jM gM ⟨i,m,p,q,st,E,rfl,hN,B,F,D,jE,jF,jG,O,A,gR,I,L,K,T,U,hm⟩ Nx H;by_cases gO:i<g.length
 ·have hg:=Vf gO;have q3:=zct hg;have jH:=mz gO;have P:(gv g i).f=[.i (gv g i).limbs,.bool (gv g i).sec,.i (gv g i).mode]:=rfl;simp[B,D,jE,jF,jG,gO,q3,jH,P,↓Qa A,K];rw[←P];refine Pr (zaw (gv g i)) (bors_self _ rfl) ?_;simp[↓Qa A,↓Qa I,K,T,D,jG,gO,U];refine⟨J,J,H _ _ _ ⟨N-1,J,i+1,m.set i (Uq (gv g i)),p,q,st,E+1,rfl,J,Ao,Ae,At,by simp[jE],by simp[jF],by simp,by simp,Ab,gR,Ab,?_,?_,?_,Cr,λgG hj=>?_⟩⟩
  ·rw[Jz J,Qa O];exact L
  ·have jY:p≠q:=λe=>by rw[e,T]at K;cases K
   rw[Jz J,Qa A];exact K
  ·rw[J3 Ab,znx _ _ _ _ J,Mj,U]
  ·rw[gb_setv _ _ _ _ J];split
   ·rename_i e;rw[e]
   ·exact hm gG J
 have jZ:m=jd g:=gb_ext (by simp[jd,U]) (λgG hj=>by
  rw[hm gG J];unfold gb jd;rw[J0,Lv,Vf J];rfl)
 simp[B,D,jE,jF,jG,gO,L,Uj];refine Qt (λρ jM gM N=>∃(i:Nat) (m:List Bool) (G:Int) (p q st E:Nat),jM=[]∧N+i=j.length∧lk ρ 1=.ptr 0 0∧lk ρ 3=.fn (.func 87) [] [.ptr 0 0]∧lk ρ 6=.ptr p 0∧lk ρ 9=.i G∧lk ρ 79=.lst (Wn j) j.length 7∧lk ρ 80=.i j.length∧lk ρ 81=.i i ∧
   0<gM.length∧p<gM.length∧0<q∧q<gM.length∧gM[0]?=some (.cells (Uj g j z) 0)∧gM[p]?=some (.cells [.dy q 0] st)∧gM[q]?=some (.dyn (m.map .bool) m.length 1 0 E)∧m.length=g.length∧0≤G∧G≤4∧Xg g m G (j.drop i)=Xg g (jd g) 0 j) (N:=j.length)
  ⟨0,m,0,p,q,st,E,rfl,J,Ao,Ae,At,by simp,Ao,by simp,by simp,O,A,gR,I,L,K,T,U,J,J,by simp[jZ]⟩ ?_
 clear B F D L K T H O A gR I U;rintro N ρ jM gM ⟨i,m,G,p,q,st,E,rfl,hN,B,F,D,Y,Z,gg,gD,O,A,gR,I,L,K,T,U,zg,zj,gK⟩ Nx H;have jY:p≠q:=λe=>by rw[e,T]at K;cases K
 by_cases gO:i<j.length
 ·have q7:=zv3 (Y0 gO);have jH:=os_lt gO;rw[drop_go gO]at gK;have P:(go j i).f=[.i (go j i).kind,.i (go j i).d,.i (go j i).e,.i (go j i).a,.i (go j i).b,.i (go j i).c,.u (go j i).imm]:=rfl;generalize go j i=o at *;have no:Xg g m G (o::j.drop (i+1))=none→W3 g j z=2:=λh=>gH (by
   rw[h]at gK;simp[U1,←gK])
  simp[B,Z,gg,gD,gO,q7,jH,P,↓Qa O,L,Uj];rw[←P];refine Pr (zl8 g o) (bors_self _ (by simp[dats,LV.dat,Tt,P])) ?_;cases ho:Qk g o with
  |false =>
   simp;exact (no (by simp[Xg,ho])).symm
  |true =>
  have jA:=po ho;simp[P];rw[←P];refine Ux (zav o jA.swap) rfl ?_;simp[D];have j4:(Uw o).length≤9223372036854775807:=by
   have B:([o.a,o.b,o.c].filter λv=>!decide (v<0)).length≤3:=List.length_filter_le _ _;unfold Uw;split<;>simp at B ⊢<;>omega
  refine z73 (p:=λv=>!gb m v.toNat) j4 (λv hv K' k=>zsl v Fo (by rw[Qa I];exact T) (by have:=jA.takes v hv;omega) k) ?_;cases ht:zgy m o with
  |false =>
   have:((Uw o).any λv=>!gb m v.toNat)=true:=by
    have h:=ht;unfold zgy at h;rw[N6]at h;obtain⟨v,hv,h⟩:=h;exact La.2 ⟨v,hv,Aw⟩
   rw[this];simp;exact (no (by simp[Xg,ho,ht])).symm
  |true =>
  have:((Uw o).any λv=>!gb m v.toNat)=false:=by
   have h:=ht;unfold zgy at h;rw[Li]at h;rw[Nk];intro v hv;simp[h v hv]
  rw[this];have j5:∀C,C=G+dl o.kind→(C<0∨4<C→W3 g j z=2)∧(0≤C→C≤4→Xg g (af m o) C (j.drop (i+1))=Xg g (jd g) 0 j):=λC e=>by
   subst e;refine⟨λh=>no ?_,λh0 h4=>?_⟩
   ·rw[Xg,J1];simp only[J2,Kb];omega
   ·rw[←gK,Xg,J6];simp only[J2,Kb];exact⟨ho,ht,h0,h4⟩
  have jI:∃V,dl o.kind=V∧-1≤V∧V≤1∧((o.kind=15∧V=1)∨(o.kind≠15∧o.kind=16∧V=-1)∨(o.kind≠15∧o.kind≠16∧V=0)):=by
   by_cases k1:o.kind=15
   ·exact⟨1,by simp[dl,k1],J,J,.inl ⟨k1,rfl⟩⟩
   by_cases k2:o.kind=16
   ·exact⟨-1,by simp[dl,k2],J,J,.inr (.inl ⟨k1,k2,rfl⟩)⟩
   ·exact⟨0,by simp[dl,k1,k2],J,J,.inr (.inr ⟨k1,k2,rfl⟩)⟩
  obtain⟨V,e1,e2,e3,jI⟩:=jI;obtain⟨jB,jQ⟩:=j5 (G+V) (by rw[e1]);have zz:=jA.d;have gT:0≤o.d→o.d<(m.length:Int):=λh=>J
  have gU:0≤o.d→Qj (m.map LV.bool) o.d.toNat [.bool true]=(m.set o.d.toNat true).map LV.bool:=λh=>znx LV.bool _ _ true J
  have next:∀(C:Int) (ρ':Pf) (G':Pd) (gV:Nat),C=G+V→0≤C→C≤4→lk ρ' 1=.ptr 0 0→lk ρ' 3=.fn (.func 87) [] [.ptr 0 0]→lk ρ' 6=.ptr p 0→lk ρ' 9=.i C→lk ρ' 79=.lst (Wn j) j.length 7→lk ρ' 80=.i j.length→lk ρ' 81=.i ((i:Int)+1) →
    gM.length≤G'.length→G'[0]?=some (.cells (Uj g j z) 0)→G'[p]?=some (.cells [.dy q 0] st)→G'[q]?=some (.dyn ((af m o).map .bool) m.length 1 0 gV)→Nx ρ' [] G':=by
   intro C ρ' G' gV e jC jD a1 a3 a6 a9 j6 j7 j8 zB b0 bp bq;have jR:(af m o).length=m.length:=by unfold af;split<;>simp
   refine H _ _ _ ⟨N-1,J,i+1,af m o,C,p,q,st,gV,rfl,J,a1,a3,a6,a9,j6,j7,by rw[j8];simp,J,J,gR,J,b0,bp,by rw[jR];exact bq,by rw[jR,U],jC,jD,?_⟩;subst e;exact jQ jC jD
  have q0:q≠0:=J
  have jK:0≤o.d→af m o=m.set o.d.toNat true:=λh=>by simp[af,h]
  have jL:¬0≤o.d→af m o=m:=λh=>by simp[af,h]
  rcases jI with ⟨M,rfl⟩|⟨M,gL,rfl⟩|⟨M,gL,rfl⟩
  ·have r0:¬G+1<0:=J
   by_cases d4:4<G+1
   ·simp[Y,P,M,r0,d4]
    repeat (refine⟨J,?_⟩)
    exact (jB (.inr d4)).symm
   by_cases Q:0≤o.d
   ·have d2:=gT Q;simp[D,Y,gD,P,M,r0,d4,↓Qa A,↓Qa I,K,T,Q,d2,gU Q]
    repeat (refine⟨J,?_⟩)
    refine next (G+1) _ _ (E+1) rfl J J Ao Ae At (by simp) Ei B1 (by simp) (by simp) ?_ ?_ ?_
    ·rw[Jz J,Qa O];exact L
    ·rw[Jz J,Qa A];exact K
    ·rw[J3 Ab,jK Q,Ll]
   ·simp[D,Y,gD,P,M,r0,d4,Q]
    repeat (refine⟨J,?_⟩)
    exact next (G+1) _ _ E rfl J J Ao Ae At (by simp) Ei B1 (by simp) (by simp) Ck Fo Gu
  ·by_cases r0:G-1<0
   ·simp[Y,P,M,gL,r0]
    repeat (refine⟨J,?_⟩)
    exact (jB (.inl J)).symm
   have d4:¬4<G-1:=J
   by_cases Q:0≤o.d
   ·have d2:=gT Q;simp[D,Y,gD,P,M,gL,r0,d4,↓Qa A,↓Qa I,K,T,Q,d2,gU Q]
    repeat (refine⟨J,?_⟩)
    refine next (G-1) _ _ (E+1) J J J Ao Ae At (by simp) Ei B1 (by simp) (by simp) ?_ ?_ ?_
    ·rw[Jz J,Qa O];exact L
    ·rw[Jz J,Qa A];exact K
    ·rw[J3 Ab,jK Q,Ll]
   ·simp[D,Y,gD,P,M,gL,r0,d4,Q]
    repeat (refine⟨J,?_⟩)
    exact next (G-1) _ _ E J J J Ao Ae At (by simp) Ei B1 (by simp) (by simp) Ck Fo Gu
  ·have r0:¬G<0:=J
   have d4:¬4<G:=J
   by_cases Q:0≤o.d
   ·have d2:=gT Q;simp[D,Y,gD,P,M,gL,r0,d4,↓Qa A,↓Qa I,K,T,Q,d2,gU Q]
    repeat (refine⟨J,?_⟩)
    refine next G _ _ (E+1) J J J Ao Ae At Gh Ei B1 (by simp) (by simp) ?_ ?_ ?_
    ·rw[Jz J,Qa O];exact L
    ·rw[Jz J,Qa A];exact K
    ·rw[J3 Ab,jK Q,Ll]
   ·simp[D,Y,gD,P,M,gL,r0,d4,Q]
    repeat (refine⟨J,?_⟩)
    exact next G _ _ E J J J Ao Ae At Gh Ei B1 (by simp) (by simp) Ck Fo Gu
 have j9:Xg g (jd g) 0 j=some (m,G):=by
  rw[L6 J]at gK;rw[←gK];rfl
 have l1:j.length≤4096:=J
 have l2:z.length≤4096:=J
 have gY:U1 g j z=(zi g m&&decide (G=0)):=by simp[U1,hv,jP,j9,l1,l2]
 simp[B,F,D,Z,gg,gD,gO,K,T];refine Qt (λρ jM G' N=>∃i:Nat,jM=[]∧G'=gM∧N+i=g.length∧lk ρ 1=.ptr 0 0∧lk ρ 3=.fn (.func 87) [] [.ptr 0 0]∧lk ρ 6=.ptr p 0∧lk ρ 9=.i G∧lk ρ 121=.i g.length∧lk ρ 122=.i i ∧
   ∀gG,gG<i→(gv g gG).mode=3→gb m gG=true) (N:=g.length) ⟨0,rfl,rfl,J,Ao,Ae,At,Gh,Cr,by simp,λgG hj=>J⟩ ?_
 clear B F D Y H;rintro N ρ jM G' ⟨i,rfl,rfl,hN,B,F,D,Y,gF,R,ha⟩ Nx H;by_cases gO:i<g.length
 ·have gm:i<m.length:=J
  have q1:=W4 (f:=LV.bool) (at_gb gm);simp[F,gF,R,gO];refine zdz (i:Int) L J ?_;cases ho:Xd g i with
  |false =>
   simp[R];refine⟨J,H _ _ _ ⟨N-1,J,i+1,rfl,rfl,J,Ao,Ae,At,Gh,by simp[gF],by simp,λgG hj X=>?_⟩⟩;by_cases e:gG=i
   ·subst e;simp[Xd,X]at ho
   ·exact ha gG J X
  |true =>
   cases hb:gb m i with
   |false =>
    simp[D,R,K,T,gm,Pe q1,hb];have X:(gv g i).mode=3:=by simp[Xd]at ho;exact ho
    have:zi g m=false:=by
     unfold zi;rw[N6];exact⟨i,Mf.2 gO,by simp[X,hb]⟩
    exact (gH (by rw[gY,this];rfl)).symm
   |true =>
    simp[D,R,K,T,gm,Pe q1,hb];refine⟨J,H _ _ _ ⟨N-1,J,i+1,rfl,rfl,J,Ao,Ae,At,Gh,by simp[gF],by simp,λgG hj X=>?_⟩⟩;by_cases e:gG=i
    ·rw[e];exact hb
    ·exact ha gG J X
 have jT:zi g m=true:=by
  unfold zi;rw[Li];intro gG hj;have hj:=Mf.1 hj;by_cases X:(gv g gG).mode=3
  ·simp[ha gG J X]
  ·simp[X]
 by_cases d0:G=0
 ·simp[Y,gF,R,gO,d0];simp[W3,gY,jT,d0]
 ·simp[Y,gF,R,gO,d0];simp[W3,gY,d0]
def zdl:LC:=(.q [.x 1 0,.F 2] (.q [.f 3 2 1,.l 4 3,.b 5 .eql 3 4 1,.m 6 5,.nf 7 6 2 1,.nl 8 6 7,.nb 9 6 .eql 3 8 2,.p 10 6 9,.m 2 10] .ret))
def r_expand_given:Pk Tryz.prog 94=some ⟨11,zdl.r,[.tmp 2]⟩:=Aa
def zbg:LC:=(.q [.z 4 (.alloc [.nilSl,.nilSl,.nilSl])] (.q [.m 8 0,.z 9 (.build [.nilSl,.nilSl,.nilSl] [(0,1,.t 8)]),.z 5 (.alloc [.nilSl,.nilSl,.nilSl]),.S 3 5 9] (.seq (.q [.m 10 0,.s 11 10,.K 12 0] (.block 0 (.loop (.q [.c 13 .lss 3 12 11] (.seq (.cond (.t 13) .skip (.exit 0)) (.seq (.block 1 (.q [.m 14 12,.I 15 3 10 12,.L 16 3 15,.z 7 (.alloc [(.i 0),(.bool false),(.i 0)]),.m 6 14,.S 3 7 16] (.q [.L 17 3 7,.w 18 94 17,.z 19 (.un .not (.t 18))] (.cond (.t 19) (.ops [.f 20 1 5,.l 21 20,.m 22 6,.z 23 (.build [(.i 0),(.i 0),(.i 0),(.i 0),(.i 0),(.i 0),(.u 0)] [(0,1,.k 1),(1,1,.t 22),(2,1,.k (-1)),(3,1,.k (-1)),(4,1,.k (-1)),(5,1,.k (-1))]),.z 24 (.buildSl 7 1 [(.i 0),(.i 0),(.i 0),(.i 0),(.i 0),(.i 0),(.u 0)] [(0,7,.t 23)]),.a 25 7 21 24,.f 26 1 5,.S 1 26 25]) .skip)))) (.ops [.b 27 .add 3 12 1,.m 12 27]))))))) (.q [.f 28 1 5,.l 29 28,.m 30 1,.a 31 7 29 30,.f 32 1 5,.S 1 32 31] (.q [.L 33 3 5,.S 3 4 33] .ret)))))
def r_expand_kernel:Pk Tryz.prog 56=some ⟨34,zbg.r,[.cellN 4 3]⟩:=Aa
def z8t:LC:=(.q [.x 3 1,.F 4] (.seq (.q [.f 5 0 3,.l 6 5,.b 7 .eql 3 6 15,.m 8 7,.nf 9 8 0 3,.nl 10 8 9,.nb 11 8 .eql 3 10 16,.p 12 8 11] (.cond (.t 12) (.q [.F 4] .ret) .skip)) (.q [.m 13 0,.L 14 7 3,.z 15 (.buildSl 7 1 [(.i 0),(.i 0),(.i 0),(.i 0),(.i 0),(.i 0),(.u 0)] [(0,7,.t 14)]),.W 16 56 13 15,.w 17 55 16,.b 18 .eql 37 17 0,.m 4 18] .ret)))
def r_expand_May:Pk Tryz.prog 29=some ⟨19,z8t.r,[.tmp 4]⟩:=Aa
def zc5:LC:=(.q [.F 2] (.q [.m 3 0,.b 4 .geq 3 3 1,.m 5 4,.my 6 5 0,.y 7 5 (.bin .leq true 3 (.t 6) (.k 11)),.q 8 5 7,.m 9 8,.mn 10 9 0,.nb 11 9 .eql 3 10 14,.p 12 9 11,.m 2 12] .ret))
def r_expand_Has:Pk Tryz.prog 28=some ⟨13,zc5.r,[.tmp 2]⟩:=Aa
def z80:LC:=(.q [.K 2 0] (.q [.m 4 0,.m 5 0,.b 6 .quo 3 5 2,.c 7 .sub 3 4 6,.m 3 7] (.q [.m 8 0,.z 9 (.bin .mul true 3 (.k 2) (.t 8)),.m 10 3,.b 11 .add 3 10 1,.z 12 (.bin .mul true 3 (.k 4) (.t 11)),.c 13 .add 3 9 12,.m 2 13] .ret)))
def r_expand_halvesWork:Pk Tryz.prog 30=some ⟨14,z80.r,[.tmp 2]⟩:=Aa
def zev:LC:=(.q [.x 3 1,.K 4 0] (.seq (.q [.f 5 0 3,.l 6 5,.w 7 28 6,.z 8 (.un .not (.t 7)),.m 9 8,.mn 10 9 0,.n 11 9 (.loadN 7 (.t 3)),.n 12 9 (.w 29 [.t 10,.t 11]),.n 13 9 (.un .not (.t 12)),.p 14 9 13] (.cond (.t 14) (.q [.K 4 0] .ret) .skip)) (.seq (.q [.f 15 0 3,.l 16 15] (.block 0 (.q [.b 18 .eql 3 16 5,.m 17 18] (.cond (.t 17) (.seq (.draw [(.m 19 0,[]),(.f 20 3 3,[]),(.l 21 20,[]),(.I 22 3 19 21,[]),(.f 23 0 22,[]),(.l 24 23,[]),(.m 25 0,[]),(.f 26 4 3,[]),(.l 27 26,[]),(.I 28 3 25 27,[]),(.f 29 0 28,[]),(.l 30 29,[]),(.c 31 .add 3 24 30,[]),(.m 4 31,[])]) .ret) (.q [.b 33 .eql 3 16 6,.m 32 33] (.cond (.t 32) (.q [.m 34 0,.f 35 3 3,.l 36 35,.I 37 3 34 36,.f 38 0 37,.l 39 38,.w 40 30 39,.m 4 40] .ret) (.seq (.q [.b 42 .eql 3 16 9,.m 41 42] (.cond (.t 41) .skip (.q [.b 43 .eql 3 16 10,.m 41 43] (.cond (.t 41) .skip (.ops [.b 44 .eql 3 16 11,.m 41 44]))))) (.cond (.t 41) (.q [.m 45 0,.f 46 5 3,.l 47 46,.I 48 3 45 47,.f 49 0 48,.l 50 49,.b 51 .add 3 50 1,.z 52 (.bin .mul true 3 (.k 2) (.t 51)),.m 4 52] .ret) .skip)))))))) (.q [.K 4 1] .ret))))
def r_expand_Work:Pk Tryz.prog 11=some ⟨53,zev.r,[.tmp 4]⟩:=Aa
def zc2(v:Vr):Pl 94 [.agg v.f] (.bool (Uq v)) []:=by
 refine P4.val rfl (Pj r_expand_given Aa N ?_);by_cases g:v.mode=1<;>simp[zdl,Vr.f,Uq,g]
def zsk{i:Nat}(h:i<vQ.length):Xn i (vQ.drop i)=(if Uq (gv vQ i)=true then [] else [c9 1 i])++Xn (i+1) (vQ.drop (i+1)):=by
 rw[zn9 h,Xn];split<;>rfl
def zy3(l:List LV):(LV.agg l).cells=some l:=rfl
def fu(a b:List Ko):Wn (a++b)=Wn a++Wn b:=by simp[Wn]
def zb2(g:List Vr)(z:List Ko)(hl:g.length≤1000000)(hn:z.length≤1000000):Rk 56 [.lst (Py g) g.length 3,.lst (Wn z) z.length 7] (.agg (Uj g (Xn 0 g++z) [])):=by
 refine Uy.mk (by simp[Uj,LV.dat,dats,Tt,zcu]) (Pj r_expand_kernel Aa (by simp) ?_);simp[zbg];refine Qt (λU gG gg N=>∃(i:Nat) (T:List Ko) (v:LV) (st:Nat),gG=[]∧N+i=g.length∧lk U 1=.lst (Wn z) z.length 7∧lk U 4=.ptr 0 0∧lk U 5=.ptr 1 0∧lk U 10=.lst (Py g) g.length 3∧lk U 11=.i g.length∧lk U 12=.i i ∧
   1<gg.length∧gg[0]?=some (.cells [.nilSl,.nilSl,.nilSl] 0)∧gg[1]?=some (.cells [.lst (Py g) g.length 3,v,.nilSl] st)∧Rw 2 gg v 7 T.length (Wn T)∧T.length≤i∧Xn 0 g=T++Xn i (g.drop i)) (N:=g.length)
  ⟨0,[],.nilSl,1,rfl,J,by simp,by simp,by simp,by simp,by simp,by simp,by simp,by simp,by simp,Rw.nil,by simp,by simp⟩ ?_
 rintro N U gG gg ⟨i,T,v,st,rfl,hN,V,X,M,F,G,H,K,L,A,Y,gF,j⟩ Nx O;have P:0<gg.length:=J
 by_cases gD:i<g.length
 ·have hg:=Vf gD;have q3:=zct hg;have Z:=mz gD;have hf:(gv g i).f=[.i (gv g i).limbs,.bool (gv g i).sec,.i (gv g i).mode]:=rfl;have Q:=zsk gD;rw[Q]at j;simp[F,G,H,gD,q3,Z,hf];rw[←hf];refine Pr (zc2 (gv g i)) (bors_self _ rfl) ?_;cases R:Uq (gv g i) with
  |true =>
   rw[R]at j;simp[H];refine⟨J,O _ _ _ ⟨N-1,J,i+1,T,v,st,rfl,J,by simp[V],by simp[X],Bc,Ae,Bd,by simp,Ab,by rw[Qa P];exact L,by rw[Qa K];exact A,Y.push_end,J,By⟩⟩
  |false =>
   rw[R]at j;simp[M,↓Qa K,A];refine Rw.push (m:=1) (x:=(c9 1 i).f) Y.push_end J (by simp) J rfl λv' I B C hb=>?_
   have D:I[1]?=some (.cells [.lst (Py g) g.length 3,v,.nilSl] st):=by rw[C 1 J,Qa K];exact A
   have E:I[0]?=some (.cells [.nilSl,.nilSl,.nilSl] 0):=by rw[C 0 J,Qa P];exact L
   have hc:=B.cells;simp[-LV.cells,M,H,D,hc];refine⟨J,O _ _ _ ⟨N-1,J,i+1,T++[c9 1 i],v',st+1,rfl,J,by simp[V],by simp[X],Bc,Ae,Bd,by simp,Ab,?_,?_,?_,Ab,By⟩⟩
   ·rw[Jz J];exact E
   ·rw[J3 J]
   ·rw[fu,J9,show Wn [c9 1 (i:Int)]=(c9 1 i).f by simp[Wn]];exact B.set_lt J
 ·rw[L6 J]at j;have j:Xn 0 g=T:=by simpa [Xn] using j
  simp[V,M,F,G,H,gD,A];refine⟨J,?_⟩;refine Rw.push (m:=z.length) Y J J J (osC_len z) λv' I B C hb=>?_
  have D:I[1]?=some (.cells [.lst (Py g) g.length 3,v,.nilSl] st):=by rw[C 1 J];exact A
  have E:I[0]?=some (.cells [.nilSl,.nilSl,.nilSl] 0):=by rw[C 0 J];exact L
  have hc:=B.cells;have s1:∀x,(I.set 1 x)[1]?=some x:=λx=>J3 J
  have s0:∀x,(I.set 1 x)[0]?=some (.cells [.nilSl,.nilSl,.nilSl] 0):=λx=>by rw[Jz J];exact E
  have s2:∀x y,((I.set 1 x).set 0 y)[0]?=some y:=λx y=>J3 (by rw[Mj];omega)
  simp[-LV.cells,X,M,↓D,↓s1,↓s0,↓s2,hc,zy3];refine⟨_,_,rfl,⟨rfl,Tt g⟩,_,_,rfl,?_,_,rfl,.inr ⟨7,rfl⟩⟩;rw[j,fu,J9];exact ((B.set_lt J).set_lt J).bor (dats_app (zcu _) (zcu _))
def one_row(o:Ko):o.f=Wn [o]:=by simp[Wn]
def znk(z:List Vr)(o:Ko)(B:z.length≤1000000):Pl 29 [.lst (Py z) z.length 3,.agg o.f] (.bool (V5 z o)) []:=by
 refine P4.val rfl (Pj r_expand_May Aa N ?_);have A:o.f=[.i o.kind,.i o.d,.i o.e,.i o.a,.i o.b,.i o.c,.u o.imm]:=rfl;by_cases g:o.kind=15
 ·simp[z8t,A,g];simp[V5,zol,g]
 by_cases j:o.kind=16
 ·simp[z8t,A,g,j];simp[V5,zol,j]
 simp[z8t,A,g,j];refine ztm (a:=[.lst (Py z) z.length 3]) (b:=[]) rfl ?_;rw[←A,one_row];refine Ux (zb2 z [o] B N) (by simp[dats,LV.dat,Tt,zcu]) ?_;simp;refine Pr (zay z _ [] J) (bors_self _ (by simp[Uj,dats,LV.dat,Tt,zcu])) ?_;simp[V5,zol,g,j,W3]
def znf(k:Int):Pl 28 [.i k] (.bool (Te k)) []:=by
 refine P4.val rfl (Pj r_expand_Has Aa N ?_);by_cases g:1≤k
 ·by_cases j:k≤11<;>simp[zc5,Te,g,j]
 ·simp[zc5,Te,g]
def zxk(n:Int)(h:0≤n∧n≤512):Pl 30 [.i n] (.i (zao n)) []:=by
 refine P4.val rfl (Pj r_expand_halvesWork Aa N ?_);have g:n.tdiv 2=n/2:=O4 h.1;simp[z80,zao,g];omega
def zdm(E:List Vr)(o:Ko)(M:E.length≤1000000):Pl 11 [.lst (Py E) E.length 3,.agg o.f] (.i (Pt E o)) []:=by
 refine P4.val rfl (Pj r_expand_Work Aa N ?_);have B:o.f=[.i o.kind,.i o.d,.i o.e,.i o.a,.i o.b,.i o.c,.u o.imm]:=rfl;simp[zev,B];refine Pr (znf o.kind) N ?_;cases I:Te o.kind with
 |false=>simp[Pt,I]
 |true =>
 simp[B];rw[←B];refine Pr (znk E o M) (bors_self _ (by simp[dats,LV.dat,Tt,B])) ?_;cases hm:V5 E o with
 |false=>simp[Pt,I,hm]
 |true =>
 by_cases F:o.kind=5
 ·obtain⟨hv,C,_⟩:=za4 (s:=13) hm (by simp[Qm,F]);obtain⟨a,g,ha,j,D⟩:=z85 hv (pu C Ac);obtain⟨b,K,hb,L,O⟩:=z85 hv (zbf C Ac);simp[B,F,g,K,ha,hb];simp[g]at j D;simp[K]at L O;simp[Pe j,Pe L]
  repeat (refine⟨J,?_⟩)
  simp[Pt,hm,F,show Te 5=true from rfl,g,K]
 by_cases G:o.kind=6
 ·obtain⟨hv,C,_⟩:=za4 (s:=13) hm (by simp[Qm,G]);obtain⟨a,g,ha,j,D⟩:=z85 hv (pu C Ac);simp[B,G,g,ha];simp[g]at j D;simp[Pe j];refine Pr (zxk (Qs E (a:Int)) J) N ?_;simp[Pt,hm,G,show Te 6=true from rfl,g]
 by_cases H:o.kind=9
 ·obtain⟨hv,C,_⟩:=za4 (s:=21) hm (by simp[Qm,H]);obtain⟨a,g,ha,j,D⟩:=z85 hv (ze0 C Ac);simp[B,H,g,ha];simp[g]at j D;simp[Pe j]
  repeat (refine⟨J,?_⟩)
  simp[Pt,hm,H,show Te 9=true from rfl,g]
 by_cases z:o.kind=10
 ·obtain⟨hv,C,_⟩:=za4 (s:=29) hm (by simp[Qm,z]);obtain⟨a,g,ha,j,D⟩:=z85 hv (ze0 C Ac);simp[B,z,g,ha];simp[g]at j D;simp[Pe j]
  repeat (refine⟨J,?_⟩)
  simp[Pt,hm,z,show Te 10=true from rfl,g]
 by_cases A:o.kind=11
 ·obtain⟨hv,C,_⟩:=za4 (s:=29) hm (by simp[Qm,A]);obtain⟨a,g,ha,j,D⟩:=z85 hv (ze0 C Ac);simp[B,A,g,ha];simp[g]at j D;simp[Pe j]
  repeat (refine⟨J,?_⟩)
  simp[Pt,hm,A,show Te 11=true from rfl,g]
 simp[B,F,G,H,z,A];simp[Pt,I,hm,F,G,H,z,A]
def z2d:LC:=(.q [.K 4 0] (.seq (.q [.m 6 0,.s 7 6,.K 8 0] (.block 0 (.loop (.q [.c 9 .lss 3 8 7] (.seq (.cond (.t 9) .skip (.exit 0)) (.seq (.block 1 (.q [.m 10 8,.m 5 10] (.q [.m 11 1,.m 12 0,.m 13 5,.I 14 3 12 13,.L 15 3 14,.z 16 (.callV (.t 11) [.t 15])] (.cond (.t 16) (.q [.m 17 5,.m 4 17] .ret) .skip)))) (.ops [.b 18 .add 3 8 1,.m 8 18]))))))) (.q [.K 4 (-1)] .ret)))
def r_slices_IndexFunc_api_Buf_api_Buf:Pk Tryz.prog 173=some ⟨19,z2d.r,[.tmp 4]⟩:=Aa
def z25:LC:=(.q [.F 4] (.q [.m 5 0,.m 6 1,.W 7 173 5 6,.b 8 .geq 3 7 0,.m 4 8] .ret))
def r_slices_ContainsFunc_api_Buf_api_Buf:Pk Tryz.prog 155=some ⟨9,z25.r,[.tmp 4]⟩:=Aa
def ze4:LC:=(.q [.x 1 0,.K 2 0] (.seq (.q [.f 3 0 1,.l 4 3,.b 5 .gtr 3 4 64,.m 6 5,.nf 7 6 1 1,.nl 8 6 7,.n 9 6 (.lenSl (.t 8)),.nb 10 6 .gtr 3 9 32,.p 11 6 10,.m 12 11,.nf 13 12 2 1,.nl 14 12 13,.n 15 12 (.lenSl (.t 14)),.nb 16 12 .gtr 3 15 65536,.p 17 12 16] (.cond (.t 17) (.q [.K 2 3] .ret) .skip)) (.seq (.q [.f 18 1 1,.l 19 18,.z 20 (.w 155 [.t 19,(.c (.fn (.func 156) [] []))])] (.cond (.t 20) (.q [.K 2 3] .ret) .skip)) (.seq (.q [.f 21 0 1,.l 22 21,.b 23 .lss 3 22 0,.m 24 23,.nf 25 24 1 1,.nl 26 24 25,.n 27 24 (.w 155 [.t 26,(.c (.fn (.func 157) [] []))]),.p 28 24 27] (.cond (.t 28) (.q [.K 2 2] .ret) .skip)) (.q [.K 2 0] .ret)))))
def r_limb_head:Pk Tryz.prog 140=some ⟨29,ze4.r,[.tmp 2]⟩:=Aa
def zfd:LC:=(.q [.x 1 0,.F 2] (.q [.f 3 0 1,.l 4 3,.b 5 .gtr 3 4 65536,.m 2 5] .ret))
def r_limb_head_1:Pk Tryz.prog 156=some ⟨6,zfd.r,[.tmp 2]⟩:=Aa
def z7m:LC:=(.q [.x 1 0,.F 2] (.q [.f 3 0 1,.l 4 3,.b 5 .lss 3 4 1,.m 6 5,.nf 7 6 1 1,.nl 8 6 7,.nb 9 6 .lss 3 8 1,.p 10 6 9,.m 11 10,.nf 12 11 1 1,.nl 13 11 12,.nb 14 11 .gtr 3 13 3,.p 15 11 14,.m 2 15] .ret))
def r_limb_head_2:Pk Tryz.prog 157=some ⟨16,z7m.r,[.tmp 2]⟩:=Aa
def zgl:LC:=(.q [.x 1 0,.K 2 0,.K 3 0] (.seq (.q [.L 9 3 1,.w 10 140 9,.m 4 10] (.q [.m 11 4,.b 12 .neq 37 11 0] (.cond (.t 12) (.q [.m 13 4,.K 2 0,.m 3 13] .ret) .skip))) (.q [.L 14 3 1,.z 15 (.build [(.i 0),.nilSl,.nilSl,(.bool false),(.bool false),(.bool false),(.bool false),(.bool false),(.bool false),(.bool false),(.bool false),(.bool false),(.bool false),(.bool false),(.bool false),(.bool false),(.bool false),(.bool false),(.bool false),(.bool false),(.bool false),(.bool false),(.bool false),(.bool false),(.bool false),(.bool false),(.bool false),(.bool false),(.bool false),(.bool false),(.bool false),(.bool false),(.bool false),(.bool false),(.bool false),(.bool false),(.bool false),(.bool false),(.bool false),(.bool false),(.bool false),(.bool false),(.bool false),(.bool false),(.bool false),(.bool false),(.bool false),(.bool false),(.bool false),(.bool false),(.bool false),(.bool false),(.bool false),(.bool false),(.bool false),(.bool false),(.bool false),(.bool false),(.bool false),(.bool false),(.bool false),(.bool false),(.bool false),(.bool false),(.bool false),(.bool false),(.bool false),.nilSl] [(0,3,.t 14)]),.x 16 15,.m 5 16] (.seq (.q [.f 17 2 1,.l 18 17,.s 19 18,.K 20 0] (.block 0 (.loop (.q [.c 21 .lss 3 20 19] (.seq (.cond (.t 21) .skip (.exit 0)) (.seq (.block 1 (.q [.m 22 20,.I 23 8 18 20,.L 24 8 23,.z 7 (.alloc [(.i 0),(.i 0),(.i 0),(.i 0),(.i 0),(.i 0),(.i 0),(.u 0)]),.m 6 22,.S 8 7 24] (.q [.m 25 5,.L 26 8 7,.W 27 141 25 26,.m 8 27] (.q [.m 28 8,.b 29 .neq 37 28 0] (.cond (.t 29) (.q [.m 30 6,.m 31 8,.m 2 30,.m 3 31] .ret) .skip))))) (.ops [.b 32 .add 3 20 1,.m 20 32]))))))) (.seq (.q [.m 33 5,.N 34 33,.f 35 67 34,.l 36 35,.s 37 36,.b 38 .gtr 3 37 0] (.cond (.t 38) (.q [.f 39 2 1,.l 40 39,.s 41 40,.m 2 41,.K 3 9] .ret) .skip)) (.q [.f 42 2 1,.l 43 42,.s 44 43,.m 2 44,.K 3 0] .ret))))))
def r_limb_Check:Pk Tryz.prog 95=some ⟨45,zgl.r,[.tmp 2,.tmp 3]⟩:=Aa
def z2n:LC:=(.q [.x 2 0,.x 3 1,.F 4] (.seq (.q [.f 6 0 3,.l 7 6,.b 8 .lss 3 7 0,.m 9 8,.nf 10 9 0 3,.nl 11 9 10,.nf 12 9 0 2,.nl 13 9 12,.n 14 9 (.lenSl (.t 13)),.n 15 9 (.bin .geq false 3 (.t 11) (.t 14)),.p 16 9 15,.m 17 16,.nf 18 17 2 3,.nl 19 17 18,.nb 20 17 .lss 3 19 1,.p 21 17 20,.m 22 21,.nf 23 22 2 3,.nl 24 22 23,.nb 25 22 .gtr 3 24 32768,.p 26 22 25,.m 27 26,.nf 28 27 1 3,.nl 29 27 28,.nb 30 27 .lss 3 29 0,.p 31 27 30] (.cond (.t 31) (.q [.F 4] .ret) .skip)) (.q [.f 32 0 2,.l 33 32,.f 34 0 3,.l 35 34,.I 36 3 33 35,.f 37 0 36,.l 38 37,.m 5 38] (.q [.f 39 1 3,.l 40 39,.m 41 5,.c 42 .leq 3 40 41,.m 43 42,.yf 44 43 2 3,.yl 45 43 44,.my 46 43 5,.yf 47 43 1 3,.yl 48 43 47,.y 49 43 (.bin .sub false 3 (.t 46) (.t 48)),.y 50 43 (.bin .leq false 3 (.t 45) (.t 49)),.q 51 43 50,.m 4 51] .ret))))
def r_expand_lies:Pk Tryz.prog 96=some ⟨52,z2n.r,[.tmp 4]⟩:=Aa
def zdb:LC:=(.q [.x 3 1,.K 4 0] (.seq (.q [.m 13 0,.z 14 (.w 56 [.t 13,(.c .nilSl)]),.w 15 55 14,.b 16 .neq 37 15 0,.m 17 16,.nf 18 17 0 3,.nl 19 17 18,.n 20 17 (.lenSl (.t 19)),.nb 21 17 .lss 3 20 1,.p 22 17 21,.m 23 22,.nf 24 23 1 3,.nl 25 23 24,.n 26 23 (.lenSl (.t 25)),.mn 27 23 0,.n 28 23 (.lenSl (.t 27)),.n 29 23 (.bin .neq false 3 (.t 26) (.t 28)),.p 30 23 29] (.cond (.t 30) (.q [.K 4 2] .ret) .skip)) (.seq (.q [.f 32 0 3,.l 33 32,.z 34 (.build [(.i 0),.nilSl,.nilSl] [(1,1,.t 33)]),.w 35 95 34,.m 31 35,.X 36 0 31,.X 37 1 31,.m 5 36,.m 6 37] (.q [.m 38 6,.b 39 .neq 37 38 0] (.cond (.t 39) (.q [.K 4 2] .ret) .skip))) (.seq (.q [.m 40 0,.s 41 40,.K 42 0] (.block 0 (.loop (.q [.c 43 .lss 3 42 41] (.seq (.cond (.t 43) .skip (.exit 0)) (.seq (.block 1 (.q [.m 44 42,.I 45 3 40 42,.L 46 3 45,.z 8 (.alloc [(.i 0),(.bool false),(.i 0)]),.m 7 44,.S 3 8 46] (.q [.f 47 1 3,.l 48 47,.m 49 7,.I 50 3 48 49,.L 51 3 50,.z 9 (.alloc [(.i 0),(.i 0),(.i 0)]),.S 3 9 51] (.seq (.q [.L 52 8 3,.L 53 3 9,.W 54 96 52 53,.z 55 (.un .not (.t 54)),.m 56 55,.nf 57 56 2 9,.nl 58 56 57,.nf 59 56 0 8,.nl 60 56 59,.n 61 56 (.bin .neq false 3 (.t 58) (.t 60)),.p 62 56 61] (.cond (.t 62) (.q [.K 4 2] .ret) .skip)) (.q [.f 63 0 3,.l 64 63,.f 65 0 9,.l 66 65,.I 67 3 64 66,.L 68 3 67,.z 10 (.alloc [(.i 0),(.i 0),(.bool false)]),.S 3 10 68] (.q [.f 69 1 10,.l 70 69,.b 71 .eql 3 70 1,.m 72 71,.y 73 72 (.loadN 3 (.t 8)),.y 74 72 (.w 94 [.t 73]),.y 75 72 (.un .not (.t 74)),.q 76 72 75,.m 77 76,.nf 78 77 1 10,.nl 79 77 78,.nb 80 77 .eql 3 79 2,.mn 81 77 80,.y 82 81 (.loadN 3 (.t 8)),.y 83 81 (.w 94 [.t 82]),.n 84 77 (.pick (.t 81) (.t 83) .F),.p 85 77 84,.m 86 85,.nf 87 86 1 8,.nl 88 86 87,.nf 89 86 2 10,.nl 90 86 89,.n 91 86 (.bin .neq false 4 (.t 88) (.t 90)),.p 92 86 91] (.cond (.t 92) (.q [.K 4 2] .ret) .skip))))))) (.ops [.b 93 .add 3 42 1,.m 42 93]))))))) (.seq (.q [.f 94 2 3,.L 95 6 94,.K 96 0] (.block 2 (.loop (.q [.b 97 .lss 3 96 2] (.seq (.cond (.t 97) .skip (.exit 2)) (.seq (.block 3 (.q [.m 98 96,.z 99 (.ixArr true 2 3 (.t 95) (.t 96)),.z 12 (.alloc [(.i 0),(.i 0),(.i 0)]),.m 11 98,.S 3 12 99] (.q [.L 100 8 3,.L 101 3 12,.W 102 96 100 101,.z 103 (.un .not (.t 102)),.m 104 103,.nf 105 104 0 3,.nl 106 104 105,.nf 107 104 0 12,.nl 108 104 107,.n 109 104 (.ixAddr 3 (.t 106) (.t 108)),.nf 110 104 1 109,.nl 111 104 110,.nb 112 104 .eql 3 111 1,.p 113 104 112,.m 114 113,.nf 115 114 0 3,.nl 116 114 115,.nf 117 114 0 12,.nl 118 114 117,.n 119 114 (.ixAddr 3 (.t 116) (.t 118)),.nf 120 114 2 119,.nl 121 114 120,.mn 122 114 11,.nb 123 114 .eql 3 122 1,.n 124 114 (.bin .neq false 4 (.t 121) (.t 123)),.p 125 114 124] (.cond (.t 125) (.q [.K 4 2] .ret) .skip)))) (.ops [.b 126 .add 3 96 1,.m 96 126]))))))) (.q [.K 4 0] .ret))))))
def r_expand_Check:Pk Tryz.prog 57=some ⟨127,zdb.r,[.tmp 4]⟩:=Aa
def z5a:LC:=(.q [.x 3 1,.F 4] (.q [.f 5 1 3,.l 6 5,.b 7 .geq 3 6 0,.m 8 7,.yf 9 8 1 3,.yl 10 8 9,.my 11 8 0,.y 12 8 (.lenSl (.t 11)),.y 13 8 (.bin .lss false 3 (.t 10) (.t 12)),.q 14 8 13,.m 15 14,.my 16 15 0,.yf 17 15 1 3,.yl 18 15 17,.y 19 15 (.ixAddr 3 (.t 16) (.t 18)),.yf 20 15 1 19,.yl 21 15 20,.y 22 15 (.un .not (.t 21)),.q 23 15 22,.m 4 23] .ret))
def r_expand_Public:Pk Tryz.prog 58=some ⟨24,z5a.r,[.tmp 4]⟩:=Aa
def zfk:LC:=(.q [.x 4 1,.x 5 2,.K 6 0,.z 7 (.alloc [(.i 0),(.i 0),(.i 0)])] (.seq (.q [.m 8 0,.L 9 7 4,.W 10 58 8 9] (.cond (.t 10) (.seq (.draw [(.f 11 2 5,[]),(.z 12 (.ixAddrArr 2 3 (.t 11) (.k 0)),[]),(.L 13 3 12,[]),(.K 6 16,[]),(.S 3 7 13,[])]) .ret) .skip)) (.seq (.draw [(.f 14 2 5,[]),(.z 15 (.ixAddrArr 2 3 (.t 14) (.k 1)),[]),(.L 16 3 15,[]),(.K 6 40,[]),(.S 3 7 16,[])]) .ret)))
def r_expand_Base:Pk Tryz.prog 32=some ⟨17,zfk.r,[.tmp 6,.cellN 7 3]⟩:=Aa
def zdg:LC:=(.q [.x 6 1,.x 7 2,.F 10] (.seq (.q [.m 13 0,.L 14 8 7,.W 15 57 13 14,.b 16 .neq 37 15 0,.m 17 16,.mn 18 17 4,.nb 19 17 .lss 3 18 1,.p 20 17 19,.m 21 20,.mn 22 21 3,.nb 23 21 .lss 3 22 0,.p 24 21 23,.m 25 24,.mn 26 25 3,.nb 27 25 .gtr 3 26 4,.p 28 25 27] (.cond (.t 28) (.q [.F 10] .ret) .skip)) (.q [.m 30 0,.L 31 7 6,.L 32 8 7,.V 33 32 30 31 32,.m 29 33,.X 34 0 29,.X 35 1 29,.z 12 (.alloc [(.i 0),(.i 0),(.i 0)]),.m 11 34,.S 3 12 35] (.q [.m 36 4,.f 37 2 12,.l 38 37,.c 39 .leq 3 36 38,.m 10 39] .ret))))
def r_expand_Ready:Pk Tryz.prog 31=some ⟨40,zdg.r,[.tmp 10]⟩:=Aa
def Sj(bs:List Bf)(z:List Pc)(g j:Pc):List LV:=[.lst (Rz bs) bs.length 3,.lst (Yl z) z.length 3,.i g.buf,.i g.at_,.i g.size,.i j.buf,.i j.at_,.i j.size]
def Pc.f_len(p:Pc):p.f.length=3:=rfl
def zff(l:List Pc):dats (Yl l)=true:=zae (λ_=>rfl) l
def zcj{l:List Pc}{i:Nat}{v:Pc}(h:l[i]?=some v):((Yl l).drop (i*3)).take 3=v.f:=zaf Pc.f_len h
def zx2{l:List Pc}{i:Nat}(h:i<l.length):i*3+3≤(Yl l).length:=zqu Pc.f_len h
def zm3{l:List Pc}{n:Nat}(h:n<l.length):l[n]?=some (Vn l n):=by simp[Vn,J0,h]
def zcl(g:List Bf)(j:List Pc)(z A:Pc):dats (Sj g j z A)=true:=by simp[Sj,dats,LV.dat,V3,zff]
def zt3{l:List Bf}{f:Nat}{a b:List LV}{p:Bf→Bool}(Q:l.length≤9223372036854775807)
  (M:∀v∈l,∀F:LV→Pd→Prop,F (.bool (p v)) I→Ql (.fn f) (a++[.agg v.f]++b) I F) (k:Z (.i (nj p l)) I):Ql (.fn 173) [.lst (Rz l) l.length 3,.fn (.func f) a b] I Z:=by
 refine Pj r_slices_IndexFunc_api_Buf_api_Buf Aa (by simp) ?_;simp[z2d];refine Qt (λG P H N=>∃i:Nat,P=[]∧H=I∧N+i=l.length∧lk G 0=.lst (Rz l) l.length 3∧lk G 1=.fn (.func f) a b∧lk G 7=.i l.length∧lk G 8=.i i∧∀K b,K<i→l[K]?=some b→p b=false) (N:=l.length) ⟨0,by simp⟩ ?_;rintro N G P H ⟨i,rfl,rfl,R,j,z,A,B,hn⟩ T C;by_cases hi:l.length≤i
 ·have E:¬i<l.length:=J
  simp[j,z,A,B,E];rw[←zv4 hi hn];exact k
 ·have E:i<l.length:=J
  have D:=J7 E;have O:=znw E;simp[j,z,A,B,E,zvd D,O];have L:=M l[i] (Mm E);simp only[K0,List.singleton_append]at L;refine L _ ?_;cases hb:p l[i] with
  |true =>
   simp;rw[←sx D hb hn];exact k
  |false =>
   simp[B];refine⟨J,C _ _ _ ⟨N-1,J,i+1,rfl,rfl,J,Am,Aq,Al,by simp,λK b U g=>?_⟩⟩;by_cases e:K=i
   ·subst e;rw[D]at g;cases g;exact hb
   ·exact hn K b J g
def zd4{l:List Bf}{f:Nat}{a b:List LV}{p:Bf→Bool}(j:l.length≤9223372036854775807)
  (z:∀v∈l,∀g:LV→Pd→Prop,g (.bool (p v)) I→Ql (.fn f) (a++[.agg v.f]++b) I g) (k:Z (.bool (l.any p)) I):Ql (.fn 155) [.lst (Rz l) l.length 3,.fn (.func f) a b] I Z:=by
 refine Pj r_slices_ContainsFunc_api_Buf_api_Buf Aa N ?_;simp[z25];refine zt3 j z ?_;simp;rw[fb];exact k
def zlb(b:Bf):Pl 156 [.agg b.f] (.bool (decide (65536<b.size))) []:=by
 refine P4.val rfl (Pj r_limb_head_1 Aa N ?_);simp[zfd,Bf.f]
def zl7(b:Bf):Pl 157 [.agg b.f] (.bool (decide (b.size<1) || (decide (b.kind<1) || decide (3<b.kind)))) []:=by
 refine P4.val rfl (Pj r_limb_head_2 Aa N ?_);by_cases g:b.size<1
 ·simp[z7m,Bf.f,g]
 by_cases j:b.kind<1
 ·simp[z7m,Bf.f,g,j]
 simp[z7m,Bf.f,g,j]
def zp2(g:List Bf)(C:g.length≤9223372036854775807):Pl 140 [.agg [.i 0,.lst (Rz g) g.length 3,.nilSl]] (.i (mr g)) []:=by
 refine P4.val rfl (Pj r_limb_head Aa N ?_);by_cases B:32<g.length
 ·have z:(32:Int)<g.length:=J
  simp[ze4,mr,B,z]
 have z:¬(32:Int)<g.length:=J
 simp[ze4,B,z];refine zd4 (a:=[]) (b:=[]) (p:=λb=>decide (65536<b.size)) C (λv hv D k=>Pr (zlb v) (bors_self _ rfl) k) ?_;by_cases A:(g.any λb=>decide (65536<b.size))=true
 ·simp only[mr,J1 B,J6 A];rw[A];simp
 simp only[mr,J1 B,J1 A];rw[Bool.not_eq_true]at A;rw[A];simp;generalize j:(g.any λb=>decide (b.size<1) || (decide (b.kind<1) || decide (3<b.kind)))=E;refine zd4 (a:=[]) (b:=[]) (p:=λb=>decide (b.size<1) || (decide (b.kind<1) || decide (3<b.kind))) C (λv hv D k=>Pr (zl7 v) (bors_self _ rfl) k) ?_;rw[j];cases E with
 |true =>
  simp at j ⊢;obtain⟨x,F,h⟩:=j;exact⟨x,F,λ_ _=>J⟩
 |false=>simp;simpa using j
def eqb(a b:Bool):Uh Tryz.prog false 4 (.bool a) (.bool b)=some (a==b):=by cases a<;>cases b<;>kernel_rfl
def zec(g:List Bf)(E:g.length≤9223372036854775807):Pl 95 [.agg [.i 0,.lst (Rz g) g.length 3,.nilSl]] (.tup [.i 0,.i (mr g)]) []:=by
 refine P4.val rfl (Pj r_limb_Check Aa (by simp) ?_);simp[zgl];refine Pr (zp2 g E) (bors_self _ (by simp[dats,LV.dat,V3])) ?_;by_cases h:mr g=0
 ·simp[h];refine Qt (λD K F L=>K=[]∧lk D 1=.ptr 0 0∧lk D 5=.ptr 1 0∧lk D 19=.i 0∧lk D 20=.i 0∧F[0]?=some (.cells [.i 0,.lst (Rz g) g.length 3,.nilSl] 0)∧∃l st,F[1]?=some (.cells ((.i 0)::(.lst (Rz g) g.length 3)::.nilSl::l) st)∧l[64]?=some .nilSl) (N:=0) ⟨rfl,by simp,by simp,by simp,by simp,by simp,_,_,rfl,rfl⟩ ?_;rintro L D K F ⟨rfl,G,H,z,A,B,l,st,C,j⟩ M I;simp[G,H,z,A,B,C,Pe j]
 ·simp[h]
def z8z(j:List Bf)(G:List Pc)(H I x:Pc)(K:∀b∈j,b.size≤65536):Pl 96 [.agg (Sj j G H I),.agg x.f] (.bool (Yp j x)) []:=by
 refine P4.val rfl (Pj r_expand_lies Aa N ?_);by_cases z:x.buf<0
 ·simp[z2n,Sj,Pc.f,Yp,z];omega
 by_cases A:(j.length:Int)≤x.buf
 ·simp[z2n,Sj,Pc.f,Yp,z,A];omega
 by_cases B:x.size<1
 ·simp[z2n,Sj,Pc.f,Yp,z,A,B];omega
 by_cases C:32768<x.size
 ·simp[z2n,Sj,Pc.f,Yp,z,A,B,C];omega
 by_cases D:x.at_<0
 ·simp[z2n,Sj,Pc.f,Yp,z,A,B,C,D];omega
 obtain⟨n,hn⟩:=J5 (J:0≤x.buf);have g:n<j.length:=J
 have E:=zel (T7 g);have P:=znw g;have Q:(0:Int)≤x.buf:=J
 have R:x.buf<(j.length:Int):=J
 have L:(1:Int)≤x.size:=J
 have M:x.size≤32768:=J
 have O:(0:Int)≤x.at_:=J
 by_cases F:x.at_≤(Ps j n).size
 ·simp[z2n,Sj,Pc.f,Yp,z,A,B,C,D,hn,g,Pe E,F];have:=K _ (Kj (T7 g));refine⟨λ_=>J,λq=>absurd q J,J,?_⟩;simp[L,M,O]
 ·simp[z2n,Sj,Pc.f,Yp,z,A,B,C,D,hn,g,Pe E,F]
def z7s(h:mr Y=0):∀b∈Y,b.size≤65536:=λb hb=>by
 unfold mr at h;by_cases j:32<Y.length
 ·rw[J6 j]at h;omega
 by_cases g:(Y.any λb=>decide (65536<b.size))=true
 ·rw[J1 j,J6 g]at h;omega
 rw[Bool.not_eq_true,Nk]at g;have:=g b hb;simp at this;omega
def ni(g:List Vr)(j:List Bf)(z:List Pc)(A B:Pc):Int:=if Wp g j z A B=true then 0 else 2
def z3y{x:Pc}(h:Yp Y x=true):∃n:Nat,x.buf=n∧n<Y.length∧1≤x.size∧x.size≤32768∧0≤x.at_∧x.at_≤(Ps Y n).size∧x.size≤(Ps Y n).size-x.at_:=by
 simp only[Yp,J2,Kb]at h;obtain⟨z,D,A,B,C,g,j⟩:=h;obtain⟨n,hn⟩:=J5 z;rw[hn]at g j;exact⟨n,hn,J,A,B,C,g,j⟩
def zk4(j:List Vr)(g:List Bf)(C:List Pc)(A B:Pc)(hv:j.length≤1000000)(hb:g.length≤9223372036854775807) :
  Pl 57 [.lst (Py j) j.length 3,.agg (Sj g C A B)] (.i (ni j g C A B)) []:=by
 refine P4.val rfl (Pj r_expand_Check Aa (by simp) ?_);have I:Wp j g C A B=false→ni j g C A B=2:=λh=>by simp[ni,h]
 simp[zdb];refine zll (args':=[.lst (Py j) j.length 3,.lst (Wn []) ([]:List Ko).length 7]) (λc r h=>?_) ?_
 ·cases h with
  |cons e1 es=>cases es with
   |cons e2 R=>exact .cons e1 (.cons (by cases e2;exact .lstNil) R)
 refine Ux (zb2 j [] hv (by simp)) (by simp[dats,LV.dat,Tt,Wn]) ?_;rw[Ls];simp;refine Pr (zay j (Xn 0 j) [] J) (bors_self _ (by simp[Uj,dats,LV.dat,Tt,zcu])) ?_;simp only[W3,zyn];cases gL:Tg j with
 |false=>simp;exact (I (by simp[Wp,gL])).symm
 |true =>
 by_cases g1:(g.length:Int)<1
 ·simp[Sj,g1];exact (I (by simp[Wp,(J:¬1≤g.length)])).symm
 by_cases g2:C.length=j.length
 case neg =>
  have gT:¬(C.length:Int)=(j.length:Int):=J
  simp[Sj,g1,g2,gT];exact (I (by simp[Wp,g2])).symm
 simp[Sj,g1,g2];refine Pr (zec g hb) (bors_self _ (by simp[dats,LV.dat,V3])) ?_;by_cases g3:mr g=0
 case neg=>simp[g3];exact (I (by simp[Wp,g3])).symm
 simp[g3];have Y:∀b∈g,b.size≤65536:=z7s g3;refine Qt (λρ jB gK N=>∃i:Nat,jB=[]∧N+i=j.length∧lk ρ 3=.ptr 0 0∧lk ρ 40=.lst (Py j) j.length 3∧lk ρ 41=.i j.length∧lk ρ 42=.i i∧0<gK.length∧gK[0]?=some (.cells (Sj g C A B) 0)∧∀gR,gR<i→js g (gv j gR) (Vn C gR)=true) (N:=j.length)
  ⟨0,by simp[Sj,g2]⟩ ?_
 rintro N ρ jB gK ⟨i,rfl,hN,G,L,M,O,hl,hG,Z⟩ Nx T;by_cases jD:i<j.length
 ·have q3:=zct (Vf jD);have hq:=mz jD;have gp:i<C.length:=J
  have p3:=zcj (zm3 gp);have gU:=zx2 gp;have gV:(gv j i).f=[.i (gv j i).limbs,.bool (gv j i).sec,.i (gv j i).mode]:=rfl;have gY:(Vn C i).f=[.i (Vn C i).buf,.i (Vn C i).at_,.i (Vn C i).size]:=rfl;have no:js g (gv j i) (Vn C i)=false→ni j g C A B=2:=λh=>I (by
   have:((List.range j.length).all λi=>js g (gv j i) (Vn C i))=false:=by
    rw[N6];exact⟨i,Mf.2 jD,by simp[h]⟩
   simp[Wp,this])
  have V:js g (gv j i) (Vn C i)=true→∀D G',lk D 3=.ptr 0 0→lk D 40=.lst (Py j) j.length 3→lk D 41=.i j.length→lk D 42=.i ((i:Int)+1)→0<G'.length→G'[0]?=some (.cells (Sj g C A B) 0)→Nx D [] G':=λh D G' R gg gD gF el eG =>
   T _ _ _ ⟨N-1,J,i+1,rfl,J,R,gg,gD,by rw[gF];simp,el,eG,λgR hj=>by
    by_cases e:gR=i
    ·rw[e];exact h
    ·exact Z gR J⟩
  generalize gv j i=v at *;generalize Vn C i=x at *;have K:∀y:List LObj,(gK++y)[0]?=some _:=λy=>(Qa hl).trans hG
  simp[G,L,M,O,jD,gp,q3,p3,hq,gU,gV,gY,↓K,Sj];have X:=z8z g C A B x Y;rw[Sj,Pc.f]at X;refine Pr X (bors_self _ Fq) ?_;cases F:Yp g x with
  |false=>simp;exact (no (by simp[js,F])).symm
  |true =>
  obtain⟨n,hn,z,s1,s2,s3,s4,s5⟩:=z3y F;by_cases g4:x.size=v.limbs
  case neg=>simp[g4];exact (no (by simp[js,g4])).symm
  have b3:=zvd (T7 z);have gG:=znw z;have gZ:(Ps g n).f=[.i (Ps g n).size,.i (Ps g n).kind,.bool (Ps g n).sec]:=rfl;have jg:js g v x=(!(decide ((Ps g n).kind=1) && !Uq v)&&(!(decide ((Ps g n).kind=2)&&Uq v)&&(v.sec==(Ps g n).sec))):=by simp[js,F,g4,hn]
  rw[jg]at no V;generalize Ps g n=b at *;simp[g4,G,↓K,Sj,hn,z,b3,gG,gZ];have gM:∀{G':Pd} {K':LV→Pd→Prop},K' (.bool (Uq v)) G'→Ql (.fn 94) [.agg [.i v.limbs,.bool v.sec,.i v.mode]] G' K':=λk=>Pr (zc2 v) (bors_self _ rfl) k
  have P:∀(h:(!(decide (b.kind=1) && !Uq v)&&(!(decide (b.kind=2)&&Uq v)&&(v.sec==b.sec)))=true) (D:Pf) (x:List LObj),lk D 3=.ptr 0 0→lk D 40=.lst (Py j) j.length 3→lk D 41=.i j.length→lk D 42=.i ((i:Int)+1)→Nx D [] (gK++x):=λh D x R gg gD gF=>V h _ _ R gg gD gF Ab (K x)
  by_cases H:b.kind=1
  ·simp[H];refine gM ?_;cases hg:Uq v with
   |false=>simp[H,hg]at no ⊢;exact no.symm
   |true =>
    simp[H,hg]at no P ⊢;cases E:(v.sec==b.sec) with
    |false=>simp[eqb,E]at no ⊢;exact (no Cm).symm
    |true =>
     simp[eqb,E,O];refine⟨J,P Cm _ _ Bd Dx Bc (by simp)⟩
  ·by_cases k2:b.kind=2
   ·simp[k2];refine gM ?_;cases hg:Uq v with
    |true=>simp[k2,hg]at no ⊢;exact no.symm
    |false =>
     simp[k2,hg]at no P ⊢;cases E:(v.sec==b.sec) with
     |false=>simp[eqb,E]at no ⊢;exact (no Cm).symm
     |true =>
      simp[eqb,E,O];refine⟨J,P Cm _ _ Bd Dx Bc (by simp)⟩
   ·simp[H,k2]at no P ⊢;cases E:(v.sec==b.sec) with
    |false=>simp[eqb,E]at no ⊢;exact (no Cm).symm
    |true =>
     simp[eqb,E,O];refine⟨J,P Cm _ _ Bd Dx Bc (by simp)⟩
 ·have gi:i=j.length:=J
  subst gi;simp[G,L,M,O,hG,Sj];refine Qt (λρ jB gK N=>∃i:Nat,jB=[]∧N+i=2∧lk ρ 3=.ptr 0 0∧lk ρ 95=.agg [.i A.buf,.i A.at_,.i A.size,.i B.buf,.i B.at_,.i B.size]∧lk ρ 96=.i i∧0<gK.length∧gK[0]?=some (.cells (Sj g C A B) 0)∧(0<i→Yh g false A=true)∧(1<i→Yh g true B=true)) (N:=2)
   ⟨0,rfl,rfl,Bd,by simp,by simp,hl,hG,λq=>absurd q J,λq=>absurd q J⟩ ?_
  clear G L M O hG hl;rintro N ρ jB gK ⟨i,rfl,jE,G,U,Q,hl,hG,gO,jz⟩ Nx T;have K:∀y:List LObj,(gK++y)[0]?=some _:=λy=>(Qa hl).trans hG
  have hi:i=0∨i=1∨i=2:=J
  rcases hi with rfl|rfl|rfl
  ·have no:Yh g false A=false→ni j g C A B=2:=λh=>I (by simp[Wp,h])
   have V:Yh g false A=true→∀(D:Pf) (y:List LObj),lk D 3=.ptr 0 0→lk D 95=.agg [.i A.buf,.i A.at_,.i A.size,.i B.buf,.i B.at_,.i B.size]→lk D 96=.i (0+1)→Nx D [] (gK++y):=λh D y R gH gI =>
    T _ _ _ ⟨N-1,J,0+1,rfl,J,R,gH,by rw[gI];rfl,Ab,K y,λ_=>h,λq=>absurd q J⟩
   simp[G,U,Q,↓K,Sj];have X:=z8z g C A B A Y;rw[Sj,Pc.f]at X;refine Pr X (bors_self _ Fq) ?_;cases F:Yp g A with
   |false=>simp;exact (no (by simp[Yh,F])).symm
   |true =>
   obtain⟨n,hn,z,s1,s2,s3,s4,s5⟩:=z3y F;have b1:=zle (T7 z);have b2:=zuq (T7 z);have gG:=znw z;have hW:Yh g false A=(!decide ((Ps g n).kind=1)&&((Ps g n).sec==false)):=by simp[Yh,F,hn]
   rw[hW]at no V;generalize Ps g n=b at *;by_cases H:b.kind=1
   ·simp[G,↓K,Sj,hn,z,Pe b1,Pe b2,H];exact (no A1).symm
   cases E:b.sec with
   |true=>simp[G,↓K,Sj,hn,z,Pe b1,Pe b2,H,E,eqb];exact (no Ax).symm
   |false =>
    simp[G,↓K,Sj,hn,z,Pe b1,Pe b2,H,E,Q,eqb];exact V (by simp[H,E]) _ _ Bd Cr (by simp)
  ·have no:Yh g true B=false→ni j g C A B=2:=λh=>I (by simp[Wp,h])
   have V:Yh g true B=true→∀(D:Pf) (y:List LObj),lk D 3=.ptr 0 0→lk D 95=.agg [.i A.buf,.i A.at_,.i A.size,.i B.buf,.i B.at_,.i B.size]→lk D 96=.i (1+1)→Nx D [] (gK++y):=λh D y R gH gI =>
    T _ _ _ ⟨N-1,J,1+1,rfl,J,R,gH,by rw[gI];rfl,Ab,K y,λ_=>gO J,λ_=>h⟩
   simp[G,U,Q,↓K,Sj];have X:=z8z g C A B B Y;rw[Sj,Pc.f]at X;refine Pr X (bors_self _ Fq) ?_;cases F:Yp g B with
   |false=>simp;exact (no (by simp[Yh,F])).symm
   |true =>
   obtain⟨n,hn,z,s1,s2,s3,s4,s5⟩:=z3y F;have b1:=zle (T7 z);have b2:=zuq (T7 z);have gG:=znw z;have hW:Yh g true B=(!decide ((Ps g n).kind=1)&&((Ps g n).sec==true)):=by simp[Yh,F,hn]
   rw[hW]at no V;generalize Ps g n=b at *;by_cases H:b.kind=1
   ·simp[G,↓K,Sj,hn,z,Pe b1,Pe b2,H];exact (no A1).symm
   cases E:b.sec with
   |false=>simp[G,↓K,Sj,hn,z,Pe b1,Pe b2,H,E,eqb];exact (no Ax).symm
   |true =>
    simp[G,↓K,Sj,hn,z,Pe b1,Pe b2,H,E,Q,eqb];exact V (by simp[H,E]) _ _ Bd Cr (by simp)
  ·simp[Q];unfold ni;rw[J6];have jC:((List.range j.length).all λi=>js g (gv j i) (Vn C i))=true:=Li.2 λgR hj=>Z gR (Mf.1 hj)
   have jA:1≤g.length:=J
   simp[Wp,gL,jA,g2,g3,gO J,jz J];intro gR hj;exact Z gR hj
def U3(g:List Vr)(d:Int):Bool:=decide (0≤d)&&(decide (d<g.length) && !(gv g d.toNat).sec)
def zhb(j:List Vr)(o:Ko):Pl 58 [.lst (Py j) j.length 3,.agg o.f] (.bool (U3 j o.d)) []:=by
 refine P4.val rfl (Pj r_expand_Public Aa N ?_);by_cases z:0≤o.d
 case neg=>simp[z5a,Ko.f,U3,z]
 by_cases A:o.d<j.length
 case neg=>simp[z5a,Ko.f,U3,z,A]
 obtain⟨n,hn⟩:=J5 z;have g:n<j.length:=J
 have B:=ziv (Vf g);have C:=mz g;simp[z5a,Ko.f,U3,hn,g,Pe B]
def Z3(g:List Vr)(o:Ko)(j z:Pc):Pc:=if U3 g o.d=true then j else z
def zkt(g:List Vr)(o:Ko):Int:=if U3 g o.d=true then 16 else 40
def zd1(g:List Vr)(o:Ko)(C:List Bf)(D:List Pc)(z A:Pc):Pl 32 [.lst (Py g) g.length 3,.agg o.f,.agg (Sj C D z A)] (.tup [.i (zkt g o),.agg (Z3 g o z A).f]) []:=by
 refine P4.val rfl (Pj r_expand_Base Aa N ?_);have j:o.f=[.i o.kind,.i o.d,.i o.e,.i o.a,.i o.b,.i o.c,.u o.imm]:=rfl;simp[zfk,j];rw[←j];refine Pr (zhb g o) (bors_self _ (by simp[dats,LV.dat,Tt,j])) ?_;cases B:U3 g o.d with
 |true=>simp[Sj,Pc.f,zkt,Z3,B]
 |false=>simp[Sj,Pc.f,zkt,Z3,B]
def me(z:List Vr)(o:Ko)(C:List Bf)(D:List Pc)(A B:Pc)(g j:Int):Bool :=
 Wp z C D A B&&(decide (1≤j)&&(decide (0≤g)&&(decide (g≤4)&&decide (j≤(Z3 z o A B).size))))
def zii(E:List Vr)(o:Ko)(z:List Bf)(D:List Pc)(A B:Pc)(g j:Int)(hv:E.length≤1000000)(hb:z.length≤9223372036854775807) :
  Pl 31 [.lst (Py E) E.length 3,.agg o.f,.agg (Sj z D A B),.i g,.i j] (.bool (me E o z D A B g j)) []:=by
 refine P4.val rfl (Pj r_expand_Ready Aa N ?_);have I:o.f=[.i o.kind,.i o.d,.i o.e,.i o.a,.i o.b,.i o.c,.u o.imm]:=rfl;have C:Sj z D A B=[.lst (Rz z) z.length 3,.lst (Yl D) D.length 3,.i A.buf,.i A.at_,.i A.size,.i B.buf,.i B.at_,.i B.size]:=rfl;simp[zdg,C,I];rw[←C];refine Pr (zk4 E z D A B hv hb) (bors_self _ (by simp[dats,LV.dat,Tt,zcl])) ?_;cases F:Wp E z D A B with
 |false=>simp[ni,F,me]
 |true =>
 by_cases G:1≤j
 case neg=>simp[ni,F,me,G]
 by_cases H:0≤g
 case neg=>simp[ni,F,me,G,H]
 by_cases K:g≤4
 case neg=>simp[ni,F,me,G,H,K]
 simp[ni,F,G,H,K,C];refine⟨λh=>J,λh=>J,λh=>J,?_⟩;rw[←I,←C];refine Pr (zd1 E o z D A B) (bors_self _ (by simp[dats,LV.dat,Tt,zcl,I])) ?_;simp[Pc.f,me,F,G,H,K]
def z6v:LC:=(.q [.z 4 (.move (.c (.u 0)))] (.seq (.q [.m 5 1,.b 6 .geq 3 5 0,.m 7 6,.my 8 7 1,.my 9 7 0,.y 10 7 (.lenSl (.t 9)),.y 11 7 (.bin .lss false 3 (.t 8) (.t 10)),.q 12 7 11] (.cond (.t 12) (.q [.m 13 0,.m 14 1,.I 15 1 13 14,.l 16 15,.m 4 16] .ret) .skip)) (.q [.z 4 (.move (.c (.u 0)))] .ret)))
def r_ref02_limb:Pk Tryz.prog 46=some ⟨17,z6v.r,[.tmp 4]⟩:=Aa
def zgw:LC:=(.q [.e 2] (.q [.m 4 0,.s 5 4,.m 3 5] (.seq (.block 0 (.loop (.seq (.q [.m 6 3,.b 7 .gtr 3 6 0,.m 8 7,.my 9 8 0,.my 10 8 3,.y 11 8 (.bin .sub true 3 (.t 10) (.k 1)),.y 12 8 (.ixAddr 1 (.t 9) (.t 11)),.yl 13 8 12,.y 14 8 (.bin .eql true 23 (.t 13) (.c (.u 0))),.q 15 8 14] (.cond (.t 15) .skip (.exit 0))) (.block 1 (.ops [.m 16 3,.b 17 .sub 3 16 1,.m 3 17]))))) (.q [.z 18 (.buildSl 1 0 [] []),.m 19 0,.m 20 3,.z 21 (.slSl 1 (.t 19) none (some (.t 20))),.a 22 1 18 21,.m 2 22] .ret))))
def r_ref02_Trim:Pk Tryz.prog 47=some ⟨23,zgw.r,[.tmp 2]⟩:=Aa
def zdr:LC:=(.q [.z 6 (.move (.c (.u 0))),.F 7] (.q [.m 10 0,.m 11 1,.c 12 .add 23 10 11,.m 8 12] (.q [.m 13 8,.m 14 0,.c 15 .lss 23 13 14,.m 9 15] (.seq (.q [.m 16 2] (.cond (.t 16) (.q [.m 17 8,.u 18 .add 23 17 1,.m 8 18] (.ops [.m 19 9,.m 20 19,.mn 21 20 8,.n 22 20 (.bin .eql true 23 (.t 21) (.c (.u 0))),.p 23 20 22,.m 9 23])) .skip)) (.q [.m 24 8,.m 25 9,.m 6 24,.m 7 25] .ret)))))
def r_ref01_Add:Pk Tryz.prog 49=some ⟨26,zdr.r,[.tmp 6,.tmp 7]⟩:=Aa
def z38(a:List UInt64)(i:Int):Pl 46 [LU a,.i i] (.u (if 0≤i then a.getD i.toNat 0 else 0)) []:=by
 refine P4.val rfl (Pj r_ref02_limb Aa N ?_);by_cases g:0≤i<;>by_cases j:i<a.length
 ·have z:i.toNat<a.length:=J
  simp[z6v,g,j,z]
 ·have z:a[i.toNat]?=none:=Ab
  simp[z6v,g,j,z]
 ·simp[z6v,g,j]
 ·simp[z6v,g,j]
def tk(a:List UInt64)(ha:a.length≤1048576):Pl 47 [LU a] (.dy 0 0) [RU (P1 (val a))]:=by
 refine P4.row (Pj r_ref02_Trim Aa (by simp) ?_);simp[zgw];refine loop_wp (λG I K z=>I=[]∧K=[]∧z≤a.length∧lk G 0=LU a∧lk G 3=.i z∧val (a.take z)=val a) (N:=a.length) (by simp) ?_;rintro z G I K ⟨rfl,rfl,L,C,D,F⟩;simp at C;have A:(z=0∨a.getD (z-1) 0≠0)→P1 (val a)=a.take z:=by
  intro h;rw[←F];refine toL_val ?_;rcases h with rfl|h
  ·exact .inl (by simp)
  ·by_cases E:z=0
   ·subst E;exact .inl (by simp)
   ·have:z=(z-1)+1:=J
    rw[this,zdn J];exact vj h
 by_cases E:z=0
 ·subst E;have B:=A (.inl rfl);simp at D B;simp[C,D,B,Uc];exact⟨0,1,⟨rfl,rfl⟩,by simp⟩
 ·obtain⟨n,rfl⟩:∃n,z=n+1:=⟨z-1,J⟩;have g:n<a.length:=J
  have H:((n:Int)+1-1).toNat=n:=J
  simp[C,D,g,H];refine⟨J,λj=>⟨J,n,J,J,rfl,?_⟩,λj=>⟨J,J,J,?_⟩⟩
  ·rw[←F,zaa g];simp[g,j]
  ·have B:=A (.inr (by simpa [g] using j));refine .inr ⟨0,1,1,rfl,?_⟩;rw[B];simp[Nt];omega
def zp1(a b:UInt64):(a≤a+b→decide (a+b+1=0)=(Pq a b true).2)∧(a+b<a→true=(Pq a b true).2):=by
 unfold Pq;refine⟨λh=>?_,λh=>?_⟩
 ·have g:¬a+b<a:=O9.2 h;simp[g]
 ·simp[h]
def z4s(a b:UInt64)(c:Bool):Pl 49 [.u a,.u b,.bool c] (.tup [.u (Pq a b c).1,.bool (Pq a b c).2]) []:=by
 refine P4.val rfl (Pj r_ref01_Add Aa N ?_);cases c
 ·simp[zdr];simp[Pq,Xf]
 ·simp[zdr];simp only[Xf];exact⟨λh=>⟨rfl,((zp1 a b).2 h).symm⟩,λh=>⟨rfl,(zp1 a b).1 h⟩⟩
def zjh:LC:=(.q [.e 4] (.q [.e 5] (.q [.F 6] (.seq (.q [.K 7 0] (.block 0 (.loop (.seq (.q [.m 9 7,.m 10 0,.s 11 10,.m 12 1,.s 13 12,.z 14 (.maxi true (.t 11) (.t 13)),.c 15 .leq 3 9 14] (.cond (.t 15) .skip (.exit 0))) (.seq (.block 1 (.q [.z 8 (.move (.c (.u 0)))] (.q [.m 19 0,.m 20 7,.W 21 46 19 20,.m 22 1,.m 23 7,.W 24 46 22 23,.m 25 6,.V 26 49 21 24 25,.m 18 26,.X 27 0 18,.X 28 1 18,.m 8 27,.m 6 28] (.ops [.m 29 5,.m 30 8,.z 31 (.buildSl 1 1 [(.u 0)] [(0,1,.t 30)]),.a 32 1 29 31,.m 5 32])))) (.ops [.m 16 7,.b 17 .add 3 16 1,.m 7 17])))))) (.q [.m 33 5,.w 34 47 33,.m 4 34] .ret)))))
def r_ref02_Add:Pk Tryz.prog 121=some ⟨35,zjh.r,[.tmp 4]⟩:=Aa
def z4t(a b:List UInt64)(ha:a.length≤1000000)(hb:b.length≤1000000):Pl 121 [LU a,LU b] (.dy 0 0) [RU (P1 (val a+val b))]:=by
 refine P4.row (Pj r_ref02_Add Aa (by simp) ?_);simp[zjh];refine Qt (λF M O H=>∃(i:Nat) (c:Bool) (g:List UInt64),M=[]∧H+i=max a.length b.length+1∧lk F 0=LU a∧lk F 1=LU b∧lk F 7=.i i∧lk F 6=.bool c∧Uc O (lk F 5) g∧g.length=i ∧
  val g+2^(64*i)*c.toNat=val (a.take i)+val (b.take i)) (N:=max a.length b.length+1) ⟨0,false,[],by simp[Uc,val]⟩ ?_
 rintro H F M O ⟨i,c,g,rfl,P,B,z,A,I,G,j,hv⟩ Q C;by_cases K:H=0
 ·subst K;have D:¬(i:Int)≤max (a.length:Int) (b.length:Int):=J
  simp[B,z,A,D];rw[z4z J,z4z J]at hv;refine z9a (tk g J) (zwv G.bor) ?_;rw[add_end (m:=i-1) J J J hv];simpa using Uc.new
 ·have E:(i:Int)≤max (a.length:Int) (b.length:Int):=J
  simp[B,z,A,E];refine Pr (z38 a i) (by simp) ?_;simp[z,A];refine Pr (z38 b i) (by simp) ?_;simp[I];refine Pr (z4s (a.getD i 0) (b.getD i 0) c) (by simp) ?_;simp;refine ztv (G.app _) (xs:=[(Pq (a.getD i 0) (b.getD i 0) c).1]) rfl (by simp) J (λR T L _=>?_);simp[A];refine⟨J,C _ _ _ ⟨H-1,J,i+1,(Pq (a.getD i 0) (b.getD i 0) c).2,_,rfl,J,Ao,Aq,by simp,by simp,by simpa using L,Am,vk j hv⟩⟩
def z5o:LC:=(.q [.F 4] (.seq (.q [.m 6 0,.s 7 6,.m 8 1,.s 9 8,.c 10 .neq 3 7 9] (.cond (.t 10) (.q [.F 4] .ret) .skip)) (.seq (.q [.K 5 0] (.block 0 (.loop (.seq (.q [.m 11 5,.m 12 0,.s 13 12,.c 14 .lss 3 11 13] (.cond (.t 14) .skip (.exit 0))) (.seq (.block 1 (.seq (.draw [(.m 17 0,[]),(.m 18 5,[]),(.I 19 1 17 18,[]),(.l 20 19,[]),(.m 21 1,[]),(.m 22 5,[]),(.I 23 1 21 22,[]),(.l 24 23,[]),(.c 25 .neq 23 20 24,[])]) (.cond (.t 25) (.q [.F 4] .ret) .skip))) (.ops [.m 15 5,.b 16 .add 3 15 1,.m 5 16])))))) (.q [.z 4 (.move .T)] .ret))))
def r_kit_Same_uint64:Pk Tryz.prog 21=some ⟨26,z5o.r,[.tmp 4]⟩:=Aa

def zrr(a b:List UInt64)(I:a.length≤1000000000):Pl 21 [LU a,LU b] (.bool (decide (a=b))) []:=by
 refine P4.val rfl (Pj r_kit_Same_uint64 Aa (by simp) ?_);by_cases g:a.length=b.length
 ·simp[z5o,g];refine Qt (λG H K N=>∃i:Nat,H=[]∧N+i=a.length∧lk G 0=LU a∧lk G 1=LU b∧lk G 5=.i i∧a.take i=b.take i) (N:=a.length) ⟨0,As⟩ ?_;rintro N G H K ⟨i,rfl,L,A,C,D,F⟩ M E;by_cases O:N=0
  ·have hi:i=a.length:=J
   subst hi;have e:a=b:=by rwa [Mw,g,Mw]at F
   subst e;simp[A,D]
  ·have hi:i<a.length:=J
   have j:i<b.length:=J
   by_cases B:a[i]=b[i]
   ·simp[A,C,D,hi,j,B];refine⟨J,E _ _ _ ⟨N-1,J,i+1,rfl,J,Al,Af,by simp,?_⟩⟩;rw[K9 hi,K9 j,F,B]
   ·have e:a≠b:=λe=>B (by subst e;rfl)
    simp[A,C,D,hi,j,B,e]
 ·have e:a≠b:=λe=>g Gi
  have z:¬(a.length:Int)=b.length:=J
  simp[z5o,g,z,e]
def ze5:LC:=(.q [.z 6 (.move (.c (.u 0))),.F 7] (.q [.m 10 0,.m 11 1,.c 12 .sub 23 10 11,.m 8 12] (.q [.m 13 0,.m 14 1,.c 15 .lss 23 13 14,.m 9 15] (.seq (.q [.m 16 2] (.cond (.t 16) (.q [.m 17 9,.m 18 17,.mn 19 18 8,.n 20 18 (.bin .eql true 23 (.t 19) (.c (.u 0))),.p 21 18 20,.m 9 21] (.ops [.m 22 8,.u 23 .sub 23 22 1,.m 8 23])) .skip)) (.q [.m 24 8,.m 25 9,.m 6 24,.m 7 25] .ret)))))
def r_ref01_Sub:Pk Tryz.prog 84=some ⟨26,ze5.r,[.tmp 6,.tmp 7]⟩:=Aa
def zim:LC:=(.q [.z 4 (.move (.c (.u 0))),.z 5 (.move (.c (.u 0)))] (.q [.m 12 0,.u 13 .shr 23 12 32,.m 14 0,.u 15 .and 23 14 4294967295,.m 6 13,.m 7 15] (.q [.m 16 1,.u 17 .shr 23 16 32,.m 18 1,.u 19 .and 23 18 4294967295,.m 8 17,.m 9 19] (.q [.m 20 6,.m 21 9,.c 22 .mul 23 20 21,.m 23 7,.m 24 9,.c 25 .mul 23 23 24,.u 26 .shr 23 25 32,.c 27 .add 23 22 26,.m 10 27] (.q [.m 28 7,.m 29 8,.c 30 .mul 23 28 29,.m 31 10,.u 32 .and 23 31 4294967295,.c 33 .add 23 30 32,.m 11 33] (.q [.m 34 6,.m 35 8,.c 36 .mul 23 34 35,.m 37 10,.u 38 .shr 23 37 32,.c 39 .add 23 36 38,.m 40 11,.u 41 .shr 23 40 32,.c 42 .add 23 39 41,.m 43 0,.m 44 1,.c 45 .mul 23 43 44,.m 4 42,.m 5 45] .ret))))))
def r_ref01_Mul:Pk Tryz.prog 48=some ⟨46,zim.r,[.tmp 4,.tmp 5]⟩:=Aa
def zgn:LC:=(.q [.K 2 0] (.q [.K 3 0] (.seq (.block 0 (.loop (.seq (.q [.m 4 0,.u 5 .gtr 23 4 0] (.cond (.t 5) .skip (.exit 0))) (.seq (.block 1 (.ops [.m 8 3,.b 9 .add 3 8 1,.m 3 9])) (.ops [.m 6 0,.u 7 .shr 23 6 1,.m 0 7]))))) (.q [.m 10 3,.m 2 10] .ret))))
def r_ref01_Bits:Pk Tryz.prog 147=some ⟨11,zgn.r,[.tmp 2]⟩:=Aa
def zpk(a b:UInt64):(b≤a→decide (a-b=0)=(Rh a b true).2)∧(a<b→true=(Rh a b true).2):=by
 unfold Rh;refine⟨λh=>?_,λh=>?_⟩
 ·have g:¬a<b:=O9.2 h;simp[g]
 ·simp[h]
def zgz(a b:UInt64)(c:Bool):Pl 84 [.u a,.u b,.bool c] (.tup [.u (Rh a b c).1,.bool (Rh a b c).2]) []:=by
 refine P4.val rfl (Pj r_ref01_Sub Aa N ?_);cases c
 ·simp[ze5];simp[Rh,dh]
 ·simp[ze5];simp only[dh];exact⟨λh=>⟨rfl,((zpk a b).2 h).symm⟩,λh=>⟨rfl,(zpk a b).1 h⟩⟩
def zgi(a b:UInt64):Pl 48 [.u a,.u b] (.tup [.u (V2 a b),.u (a*b)]) []:=by
 refine P4.val rfl (Pj r_ref01_Mul Aa N ?_);simp[zim];exact⟨mul_hi a b,zke a b⟩
def zo4(a:UInt64):Pl 147 [.u a] (.i (R2 a.toNat)) []:=by
 refine P4.val rfl (Pj r_ref01_Bits Aa (by simp) ?_);simp[zgn];refine Qt (λC G I H=>∃(x:UInt64) (i:Nat),G=[]∧H=R2 x.toNat∧lk C 0=.u x∧lk C 3=.i i∧i+R2 x.toNat=R2 a.toNat) (N:=R2 a.toNat) ⟨a,0,by simp⟩ ?_;rintro H C G I ⟨x,i,rfl,rfl,j,z,hb⟩ K g;have D:R2 a.toNat≤64:=zs6 a.toNat_lt;by_cases A:x=0
 ·subst A;simp[blen_zero]at hb;simp[j,z,hb]
 ·have E:x.toNat≠0:=λe=>A ((zch x).2 e)
  have F:(0:UInt64)<x:=by rw[Lq];simp;omega
  have L:=zpm E;have B:(Ta x 1).toNat=x.toNat/2:=by rw[fe]
  simp[j,z,F];refine⟨J,g _ _ _ ⟨R2 (x.toNat/2),J,Ta x 1,i+1,rfl,by rw[B],by simp,by simp,by rw[B];omega⟩⟩
def z5e:LC:=(.q [.x 1 0,.e 2] (.seq (.block 0 (.q [.f 4 0 1,.l 5 4,.b 6 .eql 3 5 2,.m 7 6,.nf 8 7 0 1,.nl 9 7 8,.nb 10 7 .eql 3 9 8,.p 11 7 10,.m 12 11,.nf 13 12 0 1,.nl 14 12 13,.nb 15 12 .eql 3 14 9,.p 16 12 15,.m 3 16] (.cond (.t 3) (.q [.f 17 3 1,.l 18 17,.z 19 (.buildSl 1 1 [(.i 0)] [(0,1,.t 18)]),.m 2 19] .ret) (.q [.f 21 0 1,.l 22 21,.b 23 .geq 3 22 3,.m 24 23,.yf 25 24 0 1,.yl 26 24 25,.y 27 24 (.bin .leq true 3 (.t 26) (.k 7)),.q 28 24 27,.m 29 28,.nf 30 29 0 1,.nl 31 29 30,.nb 32 29 .eql 3 31 10,.p 33 29 32,.m 20 33] (.cond (.t 20) (.q [.f 34 3 1,.l 35 34,.f 36 4 1,.l 37 36,.z 38 (.buildSl 1 2 [(.i 0),(.i 0)] [(0,1,.t 35),(1,1,.t 37)]),.m 2 38] .ret) (.q [.f 40 0 1,.l 41 40,.b 42 .eql 3 41 11,.m 43 42,.nf 44 43 0 1,.nl 45 43 44,.nb 46 43 .eql 3 45 12,.p 47 43 46,.m 48 47,.nf 49 48 0 1,.nl 50 48 49,.nb 51 48 .eql 3 50 13,.p 52 48 51,.m 39 52] (.cond (.t 39) (.q [.f 53 3 1,.l 54 53,.f 55 4 1,.l 56 55,.f 57 5 1,.l 58 57,.z 59 (.buildSl 1 3 [(.i 0),(.i 0),(.i 0)] [(0,1,.t 54),(1,1,.t 56),(2,1,.t 58)]),.m 2 59] .ret) (.q [.f 61 0 1,.l 62 61,.b 63 .eql 3 62 14,.m 64 63,.yf 65 64 3 1,.yl 66 64 65,.y 67 64 (.bin .neq true 3 (.t 66) (.k (-1))),.q 68 64 67,.m 60 68] (.cond (.t 60) (.q [.f 69 3 1,.l 70 69,.z 71 (.buildSl 1 1 [(.i 0)] [(0,1,.t 70)]),.m 2 71] .ret) (.q [.f 73 0 1,.l 74 73,.b 75 .eql 3 74 15,.m 76 75,.yf 77 76 3 1,.yl 78 76 77,.y 79 76 (.bin .neq true 3 (.t 78) (.k (-1))),.q 80 76 79,.m 72 80] (.cond (.t 72) (.q [.f 81 3 1,.l 82 81,.f 83 4 1,.l 84 83,.z 85 (.buildSl 1 2 [(.i 0),(.i 0)] [(0,1,.t 82),(1,1,.t 84)]),.m 2 85] .ret) (.q [.f 87 0 1,.l 88 87,.b 89 .eql 3 88 15,.m 86 89] (.cond (.t 86) (.q [.f 90 4 1,.l 91 90,.z 92 (.buildSl 1 1 [(.i 0)] [(0,1,.t 91)]),.m 2 92] .ret) .skip))))))))))))) (.q [.e 2] .ret)))
def r_ref12_Takes:Pk Tryz.prog 79=some ⟨93,z5e.r,[.tmp 2]⟩:=Aa
def z3a:LC:=(.q [.x 1 0,.e 2] (.seq (.block 0 (.q [.f 4 0 1,.l 5 4,.b 6 .eql 3 5 10,.m 7 6,.nf 8 7 0 1,.nl 9 7 8,.nb 10 7 .eql 3 9 11,.p 11 7 10,.m 12 11,.nf 13 12 0 1,.nl 14 12 13,.nb 15 12 .eql 3 14 12,.p 16 12 15,.m 3 16] (.cond (.t 3) (.q [.f 17 1 1,.l 18 17,.f 19 2 1,.l 20 19,.z 21 (.buildSl 1 2 [(.i 0),(.i 0)] [(0,1,.t 18),(1,1,.t 20)]),.m 2 21] .ret) (.q [.f 23 0 1,.l 24 23,.b 25 .eql 3 24 15,.m 26 25,.nf 27 26 0 1,.nl 28 26 27,.nb 29 26 .eql 3 28 17,.p 30 26 29,.m 22 30] (.cond (.t 22) (.q [.e 2] .ret) .skip))))) (.q [.f 31 1 1,.l 32 31,.z 33 (.buildSl 1 1 [(.i 0)] [(0,1,.t 32)]),.m 2 33] .ret)))
def r_ref12_Makes:Pk Tryz.prog 78=some ⟨34,z3a.r,[.tmp 2]⟩:=Aa
def zai:LC:=(.q [.x 3 0,.F 6] (.seq (.q [.m 7 2,.z 8 (.un .not (.t 7))] (.cond (.t 8) (.q [.m 9 1,.b 10 .eql 3 9 (-1),.m 6 10] .ret) .skip)) (.q [.m 11 1,.b 12 .geq 3 11 0,.m 13 12,.my 14 13 1,.yf 15 13 0 3,.yl 16 13 15,.y 17 13 (.bin .lss false 3 (.t 14) (.t 16)),.q 18 13 17,.m 6 18] .ret)))
def r_ref12_field:Pk Tryz.prog 129=some ⟨19,zai.r,[.tmp 6]⟩:=Aa
def z4f:LC:=(.q [.x 2 0,.x 3 1,.F 4] (.q [.f 12 0 3,.l 13 12,.m 5 13] (.seq (.q [.m 14 5,.b 15 .lss 3 14 1,.m 16 15,.mn 17 16 5,.nb 18 16 .gtr 3 17 17,.p 19 16 18] (.cond (.t 19) (.q [.F 4] .ret) .skip)) (.q [.m 20 5,.b 21 .eql 3 20 14,.m 22 21,.mn 23 22 5,.nb 24 22 .eql 3 23 15,.p 25 22 24,.m 6 25] (.q [.m 26 5,.b 27 .neq 3 26 15,.m 28 27,.my 29 28 5,.y 30 28 (.bin .neq true 3 (.t 29) (.k 17)),.q 31 28 30,.m 7 31] (.q [.m 32 5,.b 33 .eql 3 32 10,.m 34 33,.mn 35 34 5,.nb 36 34 .eql 3 35 11,.p 37 34 36,.m 38 37,.mn 39 38 5,.nb 40 38 .eql 3 39 12,.p 41 38 40,.m 8 41] (.q [.m 42 5,.b 43 .neq 3 42 1,.m 44 43,.my 45 44 5,.y 46 44 (.bin .neq true 3 (.t 45) (.k 16)),.q 47 44 46,.m 48 47,.my 49 48 5,.y 50 48 (.bin .neq true 3 (.t 49) (.k 17)),.q 51 48 50,.m 9 51] (.q [.m 52 5,.b 53 .geq 3 52 3,.m 54 53,.my 55 54 5,.y 56 54 (.bin .leq true 3 (.t 55) (.k 7)),.q 57 54 56,.m 58 57,.mn 59 58 5,.nb 60 58 .geq 3 59 10,.mn 61 58 60,.my 62 61 5,.y 63 61 (.bin .leq true 3 (.t 62) (.k 13)),.n 64 58 (.pick (.t 61) (.t 63) .F),.p 65 58 64,.m 66 65,.mn 67 66 5,.nb 68 66 .eql 3 67 15,.p 69 66 68,.m 10 69] (.q [.m 70 5,.b 71 .geq 3 70 11,.m 72 71,.my 73 72 5,.y 74 72 (.bin .leq true 3 (.t 73) (.k 13)),.q 75 72 74,.m 11 75] (.seq (.q [.L 76 3 2,.f 77 1 3,.l 78 77,.m 79 7,.V 80 129 76 78 79,.z 81 (.un .not (.t 80)),.m 82 81,.n 83 82 (.loadN 3 (.t 2)),.nf 84 82 2 3,.nl 85 82 84,.mn 86 82 8,.n 87 82 (.w 129 [.t 83,.t 85,.t 86]),.n 88 82 (.un .not (.t 87)),.p 89 82 88,.m 90 89,.n 91 90 (.loadN 3 (.t 2)),.nf 92 90 3 3,.nl 93 90 92,.mn 94 90 9,.n 95 90 (.w 129 [.t 91,.t 93,.t 94]),.n 96 90 (.un .not (.t 95)),.mn 97 90 96,.my 98 97 6,.my 99 97 98,.yf 100 99 3 3,.yl 101 99 100,.y 102 99 (.bin .eql true 3 (.t 101) (.k (-1))),.y 103 97 (.pick (.t 99) (.t 102) .F),.y 104 97 (.un .not (.t 103)),.n 105 90 (.pick (.t 97) (.t 104) .F),.p 106 90 105,.m 107 106,.n 108 107 (.loadN 3 (.t 2)),.nf 109 107 4 3,.nl 110 107 109,.mn 111 107 10,.n 112 107 (.w 129 [.t 108,.t 110,.t 111]),.n 113 107 (.un .not (.t 112)),.p 114 107 113,.m 115 114,.n 116 115 (.loadN 3 (.t 2)),.nf 117 115 5 3,.nl 118 115 117,.mn 119 115 11,.n 120 115 (.w 129 [.t 116,.t 118,.t 119]),.n 121 115 (.un .not (.t 120)),.p 122 115 121,.m 123 122,.mn 124 123 8,.mn 125 123 124,.yf 126 125 1 3,.yl 127 125 126,.yf 128 125 2 3,.yl 129 125 128,.y 130 125 (.bin .eql false 3 (.t 127) (.t 129)),.n 131 123 (.pick (.t 125) (.t 130) .F),.p 132 123 131] (.cond (.t 132) (.q [.F 4] .ret) .skip)) (.seq (.block 0 (.q [.m 134 6,.m 133 134] (.cond (.t 133) (.seq (.q [.f 135 6 3,.l 136 135,.b 137 .lss 3 136 0,.m 138 137,.nf 139 138 6 3,.nl 140 138 139,.nf 141 138 1 2,.nl 142 138 141,.n 143 138 (.lenSl (.t 142)),.n 144 138 (.bin .geq false 3 (.t 140) (.t 143)),.p 145 138 144,.m 146 145,.mn 147 146 5,.nb 148 146 .eql 3 147 15,.mn 149 146 148,.yf 150 149 1 2,.yl 151 149 150,.yf 152 149 6 3,.yl 153 149 152,.y 154 149 (.ixAddr 3 (.t 151) (.t 153)),.yf 155 149 1 154,.yl 156 149 155,.y 157 149 (.bin .eql true 3 (.t 156) (.k 1)),.n 158 146 (.pick (.t 149) (.t 157) .F),.p 159 146 158] (.cond (.t 159) (.q [.F 4] .ret) .skip)) (.seq (.draw [(.f 160 3 3,[]),(.l 161 160,[]),(.b 162 .neq 3 161 (-1),[]),(.m 163 162,[]),(.nf 164 163 7 3,[]),(.nl 165 163 164,[]),(.nf 166 163 1 2,[]),(.nl 167 163 166,[]),(.nf 168 163 6 3,[]),(.nl 169 163 168,[]),(.n 170 163 (.ixAddr 3 (.t 167) (.t 169)),[]),(.nf 171 163 0 170,[]),(.nl 172 163 171,[]),(.n 173 163 (.cvInt .u64 (.t 172)),[]),(.n 174 163 (.bin .lss false 23 (.t 165) (.t 173)),[]),(.p 175 163 174,[]),(.m 4 175,[])]) .ret)) (.q [.f 177 6 3,.l 178 177,.b 179 .neq 3 178 0,.m 176 179] (.cond (.t 176) (.q [.F 4] .ret) (.q [.m 181 5,.b 182 .eql 3 181 1,.m 180 182] (.cond (.t 180) (.q [.z 4 (.move .T)] .ret) (.q [.m 184 5,.b 185 .eql 3 184 8,.m 186 185,.mn 187 186 5,.nb 188 186 .eql 3 187 9,.p 189 186 188,.m 183 189] (.cond (.t 183) (.q [.f 190 7 3,.l 191 190,.u 192 .geq 23 191 1,.m 193 192,.yf 194 193 7 3,.yl 195 193 194,.y 196 193 (.bin .leq true 23 (.t 195) (.c (.u 63))),.q 197 193 196,.m 4 197] .ret) (.q [.m 199 5,.b 200 .eql 3 199 16,.m 198 200] (.cond (.t 198) (.q [.f 201 7 3,.l 202 201,.u 203 .geq 23 202 1,.m 204 203,.yf 205 204 7 3,.yl 206 204 205,.y 207 204 (.bin .leq true 23 (.t 206) (.c (.u 1048576))),.q 208 204 207,.m 4 208] .ret) .skip))))))))))) (.q [.f 209 7 3,.l 210 209,.u 211 .eql 23 210 0,.m 4 211] .ret))))))))))))
def r_ref12_fields:Pk Tryz.prog 77=some ⟨212,z4f.r,[.tmp 4]⟩:=Aa
def k_ref12_fields:z4f.ok=true:=Aa
def zlj:LC:=(.q [.F 4] (.seq (.q [.K 5 0] (.block 0 (.loop (.seq (.q [.m 6 5,.m 7 0,.s 8 7,.c 9 .lss 3 6 8] (.cond (.t 9) .skip (.exit 0))) (.seq (.block 1 (.q [.m 12 0,.m 13 5,.I 14 1 12 13,.l 15 14,.m 16 1,.c 17 .eql 3 15 16] (.cond (.t 17) (.q [.z 4 (.move .T)] .ret) .skip))) (.ops [.m 10 5,.b 11 .add 3 10 1,.m 5 11])))))) (.q [.F 4] .ret)))
def r_ref12_in:Pk Tryz.prog 80=some ⟨18,zlj.r,[.tmp 4]⟩:=Aa
def zkf:LC:=(.q [.z 2 (.move (.c (.u 0)))] (.seq (.q [.m 3 0] (.cond (.t 3) (.q [.z 2 (.move (.c (.u 1)))] .ret) .skip)) (.q [.z 2 (.move (.c (.u 0)))] .ret)))
def r_ref12_bit:Pk Tryz.prog 83=some ⟨4,zkf.r,[.tmp 2]⟩:=Aa
def zge(k:Int):k<1∨k=1∨k=2∨k=3∨k=4∨k=5∨k=6∨k=7∨k=8∨k=9∨k=10∨k=11∨k=12∨k=13∨k=14∨k=15∨k=16∨k=17∨17<k:=J
def b9(l:List Int):dats (l.map .i)=true:=yp (λ_=>rfl) l
def zdd(o:Lo):Rk 79 [.agg o.f] (.lst ((Rb o).map .i) (Rb o).length 1):=by
 refine Uy.mk Is (Pj r_ref12_Takes Aa N ?_);have D:o.f=[.i o.kind,.i o.d,.i o.e,.i o.a,.i o.b,.i o.c,.i o.buf,.u o.imm]:=rfl;rcases zge o.kind with h|h|h|h|h|h|h|h|h|h|h|h|h|h|h|h|h|h|h
 case inr.inr.inr.inr.inr.inr.inr.inr.inr.inr.inr.inr.inr.inr.inl|inr.inr.inr.inr.inr.inr.inr.inr.inr.inr.inr.inr.inr.inr.inr.inl =>
  by_cases ha:o.a=-1<;>simp[z5e,D,Rb,h,ha,P9,bor,LV.dat,dats]
 case inl|inr.inr.inr.inr.inr.inr.inr.inr.inr.inr.inr.inr.inr.inr.inr.inr.inr.inr =>
  have E:o.kind≠2:=J
  have H:¬(3≤o.kind∧o.kind≤7):=J
  have F:o.kind≠8:=J
  have G:o.kind≠9:=J
  have g:o.kind≠10:=J
  have j:o.kind≠11:=J
  have z:o.kind≠12:=J
  have A:o.kind≠13:=J
  have B:o.kind≠14:=J
  have C:o.kind≠15:=J
  by_cases I:3≤o.kind
  ·have K:¬o.kind≤7:=λq=>H ⟨I,q⟩
   simp[z5e,D,Rb,I,K,E,F,G,g,j,z,A,B,C,P9,bor,LV.dat,dats]
  ·simp[z5e,D,Rb,I,E,F,G,g,j,z,A,B,C,P9,bor,LV.dat,dats]
 all_goals simp[z5e,D,Rb,h,P9,bor,LV.dat,dats]
def zde(o:Lo):Rk 78 [.agg o.f] (.lst ((Pu o).map .i) (Pu o).length 1):=by
 refine Uy.mk Is (Pj r_ref12_Makes Aa N ?_);have g:o.f=[.i o.kind,.i o.d,.i o.e,.i o.a,.i o.b,.i o.c,.i o.buf,.u o.imm]:=rfl;by_cases j:o.kind=10;· simp[z3a,g,Pu,j,P9,bor,LV.dat,dats]
 by_cases z:o.kind=11;· simp[z3a,g,Pu,z,P9,bor,LV.dat,dats]
 by_cases A:o.kind=12;· simp[z3a,g,Pu,A,P9,bor,LV.dat,dats]
 by_cases B:o.kind=15;· simp[z3a,g,Pu,B,P9,bor,LV.dat,dats]
 by_cases C:o.kind=17;· simp[z3a,g,Pu,C,P9,bor,LV.dat,dats]
 simp[z3a,g,Pu,j,z,A,B,C,P9,bor,LV.dat,dats]
def zld(g:Int)(x y:LV)(r:Int)(b:Bool):Pl 129 [.agg [.i g,x,y],.i r,.bool b] (.bool (Tb g r b)) []:=by
 refine P4.val rfl (Pj r_ref12_field Aa N ?_);cases b with
 |false=>simp[zai,Tb]
 |true=>by_cases j:0≤r<;>simp[zai,Tb,j]
def zgv(b:Bool):Pl 83 [.bool b] (.u (Qp b)) []:=by
 refine P4.val rfl (Pj r_ref12_bit Aa N ?_);cases b<;>simp[zkf,Qp]
def zta(l:List Int)(n:Int)(H:l.length≤1000000000):Pl 80 [.lst (l.map .i) l.length 1,.i n] (.bool (l.contains n)) []:=by
 refine P4.val rfl (Pj r_ref12_in Aa (by simp) ?_);simp[zlj];refine Qt (λE G I N=>∃i:Nat,G=[]∧N+i=l.length∧lk E 0=.lst (l.map .i) l.length 1∧lk E 1=.i n∧lk E 5=.i i∧∀x∈l.take i,¬x=n) (N:=l.length) ⟨0,rfl,J,by simp,by simp,by simp,by simp⟩ ?_;rintro N E G I ⟨i,rfl,K,j,z,A,B⟩ L C;by_cases D:i<l.length
 ·have q:(l.map LV.i)[i]?=some (.i l[i]):=At
  have hm:l[i]∈l:=Mm D;have F:l.take (i+1)=l.take i++[l[i]]:=K9 D;generalize l[i]=x at *;by_cases e:x=n
  ·subst e;simp[j,z,A,D,Pe q,hm]
  ·simp[j,z,A,D,Pe q,e];refine⟨J,C _ _ _ ⟨N-1,J,i+1,rfl,J,Am,Aq,by simp,λy g=>?_⟩⟩;rw[F]at g;rcases Kx.1 g with g|g
   ·exact B y g
   ·simp at g;rw[g];exact e
 ·rw[Kk J]at B;have:¬n∈l:=λh=>B n h rfl
  simp[j,z,A,D,this]
def Pm(g:Int)(bs:List Bf)(os:List Lo):List LV:=[.i g,.lst (Rz bs) bs.length 3,.lst (Tu os) os.length 8]
def zhs(g:Int)(j:List Bf)(os:List Lo):dats (Pm g j os)=true:=by simp[Pm,dats,LV.dat,V3,W9]
def zte(g:Int)(j:List Bf)(o:Lo):Bool:=(Tb g o.d (Ss o.kind)&&(Tb g o.e (Sw o.kind)&&((Tb g o.a (Td o.kind) || (Re o.kind&&decide (o.a=-1)))&&(Tb g o.b (Yi o.kind)&&(Tb g o.c (Yj o.kind)&&(!(Sw o.kind&&decide (o.d=o.e)) &&
  (if Re o.kind=true then decide (0≤o.buf)&&(decide (o.buf<j.length)&&(!(decide (o.kind=15)&&decide ((Ps j o.buf.toNat).kind=1))&&(!decide (o.a=-1) || decide (o.imm<iU (Ps j o.buf.toNat).size))))
   else decide (o.buf=0)&&(if o.kind=1 then true else if o.kind=8∨o.kind=9 then decide (1≤o.imm)&&decide (o.imm≤63) else if o.kind=16 then decide (1≤o.imm)&&decide (o.imm≤1048576) else decide (o.imm=0)))))))))
def z3k{r:Int}{b:Bool}(g:Tb z r b=false→Z (.bool false) I)(j:Tb z r b=true→Z (.bool true) I):Ql (.fn 129) [.agg [.i z,.lst (Rz Y) Y.length 3,.lst (Tu uZ) uZ.length 8],.i r,.bool b] I Z:=by
 refine Pr (zld z _ _ r b) (bors_self _ Ga) ?_;cases e:Tb z r b with
 |false=>simpa using g e
 |true=>simpa using j e
set_option maxHeartbeats 4000000 in
def ziw(z:Int)(A:List Bf)(X:List Lo)(o:Lo):Pl 77 [.agg (Pm z A X),.agg o.f] (.bool (R6 z A o)) []:=by
 refine P4.val rfl ?_;have H:o.f=[.i o.kind,.i o.d,.i o.e,.i o.a,.i o.b,.i o.c,.i o.buf,.u o.imm]:=rfl;by_cases V:o.kind<1
 ·have I:¬1≤o.kind:=J
  refine Pj r_ref12_fields k_ref12_fields N ?_;simp[z4f,Pm,H,V,I,R6]
 by_cases K:17<o.kind
 ·have I:¬o.kind≤17:=J
  refine Pj r_ref12_fields k_ref12_fields N ?_;simp[z4f,Pm,H,V,K,I,R6]
 have Y:1≤o.kind∧o.kind≤17:=J
 have Z:R6 z A o=zte z A o:=by
  unfold R6 zte;simp[Y]
 rw[Z];refine Pj r_ref12_fields k_ref12_fields N ?_;unfold zte;rcases zge o.kind with h|h|h|h|h|h|h|h|h|h|h|h|h|h|h|h|h|h|h
 case inl|inr.inr.inr.inr.inr.inr.inr.inr.inr.inr.inr.inr.inr.inr.inr.inr.inr.inr=>omega
 all_goals
  simp[z4f,Pm,H,h,Ss,Sw,Td,Yi,Yj,Re];refine z3k (λe=>Ee) λL=>?_
  simp;refine z3k (λe=>Ee) λM=>?_
  simp
 case inr.inr.inr.inr.inr.inr.inr.inr.inr.inr.inr.inr.inr.inr.inl|inr.inr.inr.inr.inr.inr.inr.inr.inr.inr.inr.inr.inr.inr.inr.inl =>
  refine z3k (λB=>?_) λB=>?_
  ·by_cases C:o.a=-1
   case neg=>simp[C,B]
   simp[C];refine z3k (λe=>Ee) λD=>?_
   simp;refine z3k (λe=>Ee) λE=>?_
   simp;by_cases F:o.buf<0
   ·have O:¬0≤o.buf:=J
    simp[F,O]
   obtain⟨n,hn⟩:=J5 (J:0≤o.buf);have G:¬(n:Int)<0:=J
   by_cases j:n<A.length
   ·have q:=T7 j;have P:=zel q;have Q:=zle q;have R:=znw j;have g:¬A.length≤n:=J
    by_cases T:(Ps A n).kind=1<;>simp[G,g,hn,j,Pe P,C,Pe Q,T,L,M,B,D,E]
   ·have g:A.length≤n:=J
    simp[G,g,hn,j]
  ·have C:¬o.a=-1:=λq=>by rw[q]at B;simp[Tb]at B
   simp;refine z3k (λe=>Ee) λD=>?_
   simp;refine z3k (λe=>Ee) λE=>?_
   simp;by_cases F:o.buf<0
   ·have O:¬0≤o.buf:=J
    simp[F,O]
   obtain⟨n,hn⟩:=J5 (J:0≤o.buf);have G:¬(n:Int)<0:=J
   by_cases j:n<A.length
   ·have q:=T7 j;have P:=zel q;have Q:=zle q;have R:=znw j;have g:¬A.length≤n:=J
    by_cases T:(Ps A n).kind=1<;>simp[G,g,hn,j,Pe P,C,Pe Q,T,L,M,B,D,E]
   ·have g:A.length≤n:=J
    simp[G,g,hn,j]
 all_goals
  refine z3k (λe=>Ee) λB=>?_
  simp;refine z3k (λe=>Ee) λD=>?_
  simp;refine z3k (λe=>Ee) λE=>?_
  by_cases F:o.buf=0<;>by_cases U:1≤o.imm<;>simp[L,M,B,D,E,F,U]
  all_goals first|exact⟨λa b=>absurd a b,λa _=>a⟩|(rintro q;rw[q]at U;exact absurd U Ac)
def z5f:LC:=(.q [.x 1 0,.K 2 0,.K 3 0] (.seq (.q [.f 15 0 1,.l 16 15,.b 17 .gtr 3 16 64,.m 18 17,.nf 19 18 1 1,.nl 20 18 19,.n 21 18 (.lenSl (.t 20)),.nb 22 18 .gtr 3 21 32,.p 23 18 22,.m 24 23,.nf 25 24 2 1,.nl 26 24 25,.n 27 24 (.lenSl (.t 26)),.nb 28 24 .gtr 3 27 65536,.p 29 24 28] (.cond (.t 29) (.q [.K 2 0,.K 3 3] .ret) .skip)) (.seq (.q [.K 4 0] (.block 0 (.loop (.seq (.q [.m 30 4,.f 31 1 1,.l 32 31,.s 33 32,.c 34 .lss 3 30 33] (.cond (.t 34) .skip (.exit 0))) (.seq (.block 1 (.q [.f 37 1 1,.l 38 37,.m 39 4,.I 40 3 38 39,.f 41 0 40,.l 42 41,.b 43 .gtr 3 42 65536] (.cond (.t 43) (.q [.K 2 0,.K 3 3] .ret) .skip))) (.ops [.m 35 4,.b 36 .add 3 35 1,.m 4 36])))))) (.seq (.q [.f 44 0 1,.l 45 44,.b 46 .lss 3 45 0] (.cond (.t 46) (.q [.K 2 0,.K 3 2] .ret) .skip)) (.seq (.q [.K 5 0] (.block 2 (.loop (.seq (.q [.m 47 5,.f 48 1 1,.l 49 48,.s 50 49,.c 51 .lss 3 47 50] (.cond (.t 51) .skip (.exit 2))) (.seq (.block 3 (.q [.f 54 1 1,.l 55 54,.m 56 5,.I 57 3 55 56,.f 58 0 57,.l 59 58,.b 60 .lss 3 59 1,.m 61 60,.nf 62 61 1 1,.nl 63 61 62,.mn 64 61 5,.n 65 61 (.ixAddr 3 (.t 63) (.t 64)),.nf 66 61 1 65,.nl 67 61 66,.nb 68 61 .lss 3 67 1,.p 69 61 68,.m 70 69,.nf 71 70 1 1,.nl 72 70 71,.mn 73 70 5,.n 74 70 (.ixAddr 3 (.t 72) (.t 73)),.nf 75 70 1 74,.nl 76 70 75,.nb 77 70 .gtr 3 76 3,.p 78 70 77] (.cond (.t 78) (.q [.K 2 0,.K 3 2] .ret) .skip))) (.ops [.m 52 5,.b 53 .add 3 52 1,.m 5 53])))))) (.q [.f 79 0 1,.l 80 79,.z 81 (.mkSl 1 [(.bool false)] (.t 80) (.t 80)),.m 6 81] (.q [.e 7] (.seq (.q [.K 8 0] (.block 4 (.loop (.seq (.q [.m 82 8,.f 83 2 1,.l 84 83,.s 85 84,.c 86 .lss 3 82 85] (.cond (.t 86) .skip (.exit 4))) (.seq (.block 5 (.q [.f 89 2 1,.l 90 89,.m 91 8,.I 92 8 90 91,.L 93 8 92,.z 9 (.alloc [(.i 0),(.i 0),(.i 0),(.i 0),(.i 0),(.i 0),(.i 0),(.u 0)]),.S 8 9 93] (.seq (.q [.L 94 3 1,.L 95 8 9,.W 96 77 94 95,.z 97 (.un .not (.t 96))] (.cond (.t 97) (.q [.m 98 8,.m 2 98,.K 3 2] .ret) .skip)) (.seq (.q [.f 99 0 9,.l 100 99,.b 101 .eql 3 100 17] (.cond (.t 101) (.seq (.q [.m 102 7,.s 103 102,.b 104 .eql 3 103 0] (.cond (.t 104) (.q [.m 105 8,.m 2 105,.K 3 9] .ret) .skip)) (.q [.m 106 6,.m 107 7,.m 108 7,.s 109 108,.b 110 .sub 3 109 1,.I 111 1 107 110,.l 112 111,.I 113 1 106 112,.v (.store 1 (.t 113) .F)] (.q [.m 114 7,.m 115 7,.s 116 115,.b 117 .sub 3 116 1,.z 118 (.slSl 1 (.t 114) none (some (.t 117))),.m 7 118] (.exit 5)))) .skip)) (.seq (.draw [(.L 119 8 9,[]),(.L 121 8 9,[]),(.w 120 78 119,[(.L 121 8 9,false)]),(.w 122 79 121,[]),(.m 10 120,[]),(.m 11 122,[])]) (.seq (.q [.K 12 0] (.block 6 (.loop (.seq (.q [.m 123 12,.m 124 10,.s 125 124,.c 126 .lss 3 123 125] (.cond (.t 126) .skip (.exit 6))) (.seq (.block 7 (.q [.m 129 7,.m 130 10,.m 131 12,.I 132 1 130 131,.l 133 132,.W 134 80 129 133] (.cond (.t 134) (.q [.m 135 8,.m 2 135,.K 3 9] .ret) .skip))) (.ops [.m 127 12,.b 128 .add 3 127 1,.m 12 128])))))) (.seq (.q [.f 136 0 9,.l 137 136,.b 138 .eql 3 137 16,.m 139 138,.my 140 139 6,.yf 141 139 1 9,.yl 142 139 141,.y 143 139 (.ixAddr 1 (.t 140) (.t 142)),.yl 144 139 143,.q 145 139 144] (.cond (.t 145) (.q [.m 146 8,.m 2 146,.K 3 9] .ret) .skip)) (.seq (.q [.f 147 0 9,.l 148 147,.b 149 .eql 3 148 16,.m 150 149,.my 151 150 7,.y 152 150 (.lenSl (.t 151)),.y 153 150 (.bin .eql true 3 (.t 152) (.k 8)),.q 154 150 153] (.cond (.t 154) (.q [.m 155 8,.m 2 155,.K 3 10] .ret) .skip)) (.seq (.q [.K 13 0] (.block 8 (.loop (.seq (.q [.m 156 13,.m 157 11,.s 158 157,.c 159 .lss 3 156 158] (.cond (.t 159) .skip (.exit 8))) (.seq (.block 9 (.q [.m 162 6,.m 163 11,.m 164 13,.I 165 1 163 164,.l 166 165,.I 167 1 162 166,.l 168 167,.z 169 (.un .not (.t 168))] (.cond (.t 169) (.q [.m 170 8,.m 2 170,.K 3 5] .ret) .skip))) (.ops [.m 160 13,.b 161 .add 3 160 1,.m 13 161])))))) (.seq (.q [.K 14 0] (.block 10 (.loop (.seq (.q [.m 171 14,.m 172 10,.s 173 172,.c 174 .lss 3 171 173] (.cond (.t 174) .skip (.exit 10))) (.seq (.block 11 (.ops [.m 177 6,.m 178 10,.m 179 14,.I 180 1 178 179,.l 181 180,.I 182 1 177 181,.v (.store 1 (.t 182) .T)])) (.ops [.m 175 14,.b 176 .add 3 175 1,.m 14 176])))))) (.q [.f 183 0 9,.l 184 183,.b 185 .eql 3 184 16] (.cond (.t 185) (.ops [.m 186 7,.f 187 1 9,.l 188 187,.z 189 (.buildSl 1 1 [(.i 0)] [(0,1,.t 188)]),.a 190 1 186 189,.m 7 190]) .skip)))))))))))) (.ops [.m 87 8,.b 88 .add 3 87 1,.m 8 88])))))) (.seq (.q [.m 191 7,.s 192 191,.b 193 .gtr 3 192 0] (.cond (.t 193) (.q [.f 194 2 1,.l 195 194,.s 196 195,.m 2 196,.K 3 9] .ret) .skip)) (.q [.f 197 2 1,.l 198 197,.s 199 198,.m 2 199,.K 3 0] .ret))))))))))
def r_ref12_Check:Pk Tryz.prog 39=some ⟨200,z5f.r,[.tmp 2,.tmp 3]⟩:=Aa
def zm4{m:List Bool}{l:List Int}(h:∀x∈l,Rm m x=true):(l.any λr=>!Rm m r)=false:=by
 rw[Nk];intro x g;simp[h x g]
def zqd{m:List Bool}{l:List Int}{x:Int}(g:x∈l)(h:Rm m x=false):(l.any λr=>!Rm m r)=true:=by
 rw[La];exact⟨x,g,by simp[h]⟩
def zgd{l:List Int}(h:g<l.length):l.take (g+1)=l.take g++[gd l g]:=by
 rw[K9 h];simp[gd,J0,h]
def zju{l:List Int}(h:g<l.length):gd l g∈l:=by
 simp[gd,J0,h]
def z33{o:Lo}(h:R6 z Y o=true):(∀x∈Rb o,0≤x∧x<z)∧(∀x∈Pu o,0≤x∧x<z)∧(o.kind=16→0≤o.d∧o.d<z):=by
 unfold R6 at h;simp only[J2,Kb]at h;obtain⟨⟨g,j⟩,d,e,a,b,c,_⟩:=h;have A:∀x,Tb z x true=true→0≤x∧x<z:=λx h=>by
  unfold Tb at h;simpa using h
 rcases zge o.kind with h|h|h|h|h|h|h|h|h|h|h|h|h|h|h|h|h|h|h
 case inl=>omega
 case inr.inr.inr.inr.inr.inr.inr.inr.inr.inr.inr.inr.inr.inr.inr.inr.inr.inr=>omega
 case inr.inr.inr.inr.inr.inr.inr.inr.inr.inr.inr.inr.inr.inr.inl|inr.inr.inr.inr.inr.inr.inr.inr.inr.inr.inr.inr.inr.inr.inr.inl =>
  simp[h,Ss,Sw,Td,Yi,Yj,Re,Tb]at d e a b c;by_cases ha:o.a=-1<;>simp[ha]at a<;>simp[Rb,Pu,h,ha]<;>omega
 all_goals
  simp[h,Ss,Sw,Td,Yi,Yj,Re,Tb]at d e a b c;simp[Rb,Pu,h]
  try omega
def zlt(o:Lo):(Pu o).length≤2:=by
 unfold Pu;repeat' split
 all_goals simp
def zlx(o:Lo):(Rb o).length≤3:=by
 unfold Rb;repeat' split
 all_goals simp
def z4j(M:Int)(B:List Bf)(os:List Lo):Pl 39 [.agg (Pm M B os)] (.tup [.i (Tf M B os).1,.i (Tf M B os).2]) []:=by
 refine P4.val rfl (Pj r_ref12_Check Aa (by simp) ?_);by_cases g1:64<M
 ·simp[z5f,Pm,Tf,g1]
 by_cases g2:32<B.length
 ·have jH:(32:Int)<B.length:=J
  simp[z5f,Pm,Tf,g1,g2,jH]
 have jH:¬(32:Int)<B.length:=J
 by_cases g3:65536<os.length
 ·have jQ:(65536:Int)<os.length:=J
  simp[z5f,Pm,Tf,g1,g2,jH,g3,jQ]
 have jQ:¬(65536:Int)<os.length:=J
 obtain⟨zT,C⟩:∃zT,Tf M B os=zT:=⟨_,rfl⟩;rw[C];unfold Tf at C;rw[J1 J]at C;simp[z5f,Pm,g1,g2,jH,g3,jQ];refine Qt (λL jz gG N=>∃i:Nat,jz=[]∧gG=[.cells (Pm M B os) 0]∧N+i=B.length∧lk L 1=.ptr 0 0∧lk L 4=.i i∧∀O,O<i→¬65536<(Ps B O).size) (N:=B.length) ⟨0,rfl,Ch,J,by simp,by simp,λO h=>J⟩ ?_;rintro N L jz gG ⟨i,rfl,rfl,hN,z,h4,Q⟩ Nx gM;by_cases jg:i<B.length
 ·have q0:=zel (T7 jg);have hm:Ps B i∈B:=Kj (T7 jg);by_cases e:65536<(Ps B i).size
  ·have ha:(B.any λb=>decide (65536<b.size))=true:=La.2 ⟨_,hm,Hn⟩;rw[J6 ha]at C;subst C;simp[z,h4,Pm,jg,Pe q0,e]
  ·simp[z,h4,Pm,jg,Pe q0,e];refine⟨J,gM _ _ _ ⟨N-1,J,i+1,rfl,Ch,J,Aq,by simp,λO hj=>?_⟩⟩;by_cases q:O=i
   ·rw[q];exact e
   ·exact Q O J
 have ha:¬(B.any λb=>decide (65536<b.size))=true:=by
  rw[La];rintro⟨b,hb,h⟩;obtain⟨O,hj,rfl⟩:=L5.1 hb;have:=Q O J;have h2:=T7 hj;rw[J7 hj]at h2;rw[←Option.some.inj h2]at this;exact this Aw
 rw[J1 ha]at C;clear ha Q;by_cases g4:M<0
 ·rw[J6 g4]at C;subst C;simp[z,h4,Pm,jg,g4]
 rw[J1 g4]at C;have e0:¬i<B.length:=jg;simp[z,h4,Pm,e0,g4];refine Qt (λL jz gG N=>∃i:Nat,jz=[]∧gG=[.cells (Pm M B os) 0]∧N+i=B.length∧lk L 1=.ptr 0 0∧lk L 5=.i i∧∀O,O<i→¬((Ps B O).size<1∨(Ps B O).kind<1∨3<(Ps B O).kind)) (N:=B.length) ⟨0,rfl,Ch,J,Aq,by simp,λO h=>J⟩ ?_;clear z h4 hN gM Nx L N e0 jg;rintro N L jz gG ⟨i,rfl,rfl,hN,z,h5,Q⟩ Nx gM;by_cases jg:i<B.length
 ·have q0:=zel (T7 jg);have q1:=zle (T7 jg);have hm:Ps B i∈B:=Kj (T7 jg);have jR:((Ps B i).size<1∨(Ps B i).kind<1∨3<(Ps B i).kind)→zT=(0,2):=λe=>by
   have ha:(B.any λb=>decide (b.size<1) || (decide (b.kind<1) || decide (3<b.kind)))=true:=La.2 ⟨_,hm,Hn⟩;rw[J6 ha]at C;exact C.symm
  by_cases e1:(Ps B i).size<1
  ·rw[jR (.inl e1)];simp[z,h5,Pm,jg,Pe q0,Pe q1,e1]
  by_cases e2:(Ps B i).kind<1
  ·rw[jR (.inr (.inl e2))];simp[z,h5,Pm,jg,Pe q0,Pe q1,e1,e2]
  by_cases e3:3<(Ps B i).kind
  ·rw[jR (.inr (.inr e3))];simp[z,h5,Pm,jg,Pe q0,Pe q1,e1,e2,e3]
  simp[z,h5,Pm,jg,Pe q0,Pe q1,e1,e2,e3];refine⟨J,gM _ _ _ ⟨N-1,J,i+1,rfl,Ch,J,Aq,by simp,λO hj=>?_⟩⟩;by_cases q:O=i
  ·rw[q];omega
  ·exact Q O J
 have ha:¬(B.any λb=>decide (b.size<1) || (decide (b.kind<1) || decide (3<b.kind)))=true:=by
  rw[La];rintro⟨b,hb,h⟩;obtain⟨O,hj,rfl⟩:=L5.1 hb;have:=Q O J;have h2:=T7 hj;rw[J7 hj]at h2;rw[←Option.some.inj h2]at this;exact this Aw
 rw[J1 ha]at C;clear ha Q;obtain⟨r,rfl⟩:=J5 (J:0≤M);have zO:r≤64:=J
 simp[z,h5,Pm,jg];refine⟨J,?_⟩;refine Qt (λL jz gG N=>∃(i st:Nat) (m:List Bool) (D:List Int) (v:LV),jz=[]∧N+i=os.length∧lk L 1=.ptr 0 0∧lk L 6=.dy 1 0∧lk L 7=v∧lk L 8=.i i∧gG[0]?=some (.cells (Pm r B os) 0)∧gG[1]?=some (.dyn (m.map .bool) r 1 0 st)∧m.length=r∧Ra 2 gG v 1 D.length (D.map .i)∧2≤gG.length ∧
   (∀x∈D,0≤x∧x<r)∧D.length≤8∧gy r B i m D (os.drop i)=zT) (N:=os.length)
  ⟨0,0,List.replicate r false,[],.nilSl,rfl,J,Aq,by simp,by simp,by simp,Ch,by simp[repBs],by simp,Ra.nil,by simp,by simp,by simp,Cp⟩ ?_
 clear z h5 hN gM Nx L N C jg;rintro N L jz gG ⟨i,st,m,D,v,rfl,hN,z,F,K,E,gO,zj,gR,jT,zU,jI,jZ,C⟩ Nx gM;by_cases jg:i<os.length
 case neg =>
  rw[L6 J]at C;unfold gy at C;by_cases hn:D=[]
  ·rw[J6 hn]at C;subst C hn;simp[z,E,gO,Pm,jg,K];refine jT.lenL ?_;simp[z,gO,Pm];omega
  ·rw[J1 hn]at C;subst C;have Q:0<(D.length:Int):=by
    have:=List.length_pos_iff.2 hn;omega
   simp[z,E,gO,Pm,jg,K];refine jT.lenL ?_;simp[Q,z,gO,Pm];exact⟨λ_=>J,hn⟩
 have ho:=zgs jg;rw[zhw jg]at C;unfold gy at C;have zz:=zco ho;have zB:=zn1 jg;generalize mh os i=o at *;have hC:o.f=[.i o.kind,.i o.d,.i o.e,.i o.a,.i o.b,.i o.c,.i o.buf,.u o.imm]:=rfl;have l0:0<gG.length:=J
 have l1:1<gG.length:=J
 have p0:∀x:List LObj,(gG++x)[0]?=some _:=λx=>(Ph l0).trans gO
 simp[z,E,gO,Pm,jg,zz,zB,hC,↓p0];have j4:=ziw r B os o;rw[Pm,hC]at j4;refine Pr j4 (bors_self _ Ga) ?_;cases hf:R6 r B o with
 |false =>
  have zC:(Wx r B m D o)=(2,m,D):=by unfold Wx;rw[J6 hf]
  rw[zC]at C;simp at C;subst C;simp[E]
 |true =>
 obtain⟨j5,j6,j7⟩:=z33 hf;have zV:os.length≤65536:=J
 have gT:∀(l:List LV) (i:Nat) (x:LV),i<l.length→Qj l i [x]=l.set i x:=λl i x h=>by
  rw[K3,J6 h];simp[Qj]
 have next:∀(ρ':Pf) (G':Pd) (m':List Bool) (G:List Int) (v':LV) (jU:Nat),Wx r B m D o=(0,m',G)→lk ρ' 1=.ptr 0 0→lk ρ' 6=.dy 1 0→lk ρ' 7=v'→lk ρ' 8=.i ((i:Int)+1)→G'[0]?=some (.cells (Pm r B os) 0)→G'[1]?=some (.dyn (m'.map .bool) r 1 0 jU)→m'.length=r→Ra 2 G' v' 1 G.length (G.map .i)→2≤G'.length→(∀x∈G,0≤x∧x<(r:Int))→G.length≤8→Nx ρ' [] G':=by
  intro ρ' G' m' G v' jU hs a1 a6 a7 a8 b0 b1 b2 b3 b4 b5 b6;rw[hs]at C;exact gM _ _ _ ⟨N-1,J,i+1,jU,m',G,v',rfl,J,a1,a6,a7,by rw[a8];simp,b0,b1,b2,b3,b4,b5,b6,Cp⟩
 have q0:∀x:List LObj,(gG++x)[0]?=some (.cells (Pm r B os) 0):=λx=>(Ph l0).trans gO
 have q1:∀x:List LObj,(gG++x)[1]?=some (.dyn (m.map .bool) r 1 0 st):=λx=>(Ph l1).trans zj
 have gH:∀x,Ra 2 (gG++x) v 1 D.length (D.map .i):=λx=>jT.push_end
 by_cases jA:o.kind=17
 ·have jK:D=[]→Wx r B m D o=(9,m,D):=λe=>by
   unfold Wx;rw[J1 (by rw[hf];decide),J6 jA,e];rfl
  have jL:∀l' d,D=l'++[d]→Wx r B m D o=(0,m.set d.toNat false,l'):=λl' d e=>by
   unfold Wx;rw[J1 (by rw[hf];decide),J6 jA,e];simp
  simp[jA,K];refine (gH _).lenL ?_;by_cases hn:D=[]
  ·rw[jK hn]at C;subst hn;simp at C;subst C;simp[E]
  ·obtain⟨G,d,rfl⟩:∃G d,D=G++[d]:=⟨D.dropLast,D.getLast hn,(List.dropLast_concat_getLast hn).symm⟩;obtain⟨d0,dr⟩:=jI d (by simp);obtain⟨dn,rfl⟩:=J5 d0;have jB:dn<r:=J
   have zD:G.length≤8:=by simp at jZ;omega
   have g:=jL G dn rfl;simp only[Kr]at g;simp;refine (gH _).lenL ?_;simp;refine⟨J,(gH _).at1 J Ab λa ha=>?_⟩;simp;refine ha _ ?_;have e1:Qj (m.map LV.bool) dn [.bool false]=(m.set dn false).map LV.bool:=by
    rw[gT _ _ _ Ab,Ll]
   have hx:(List.map LV.i G++[LV.i (dn:Int)])[G.length]?=some (.i (dn:Int)):=by
    rw[Kl (by simp)];simp
   have jO:∀(x:List LObj) (ob:LObj),Ra 2 ((gG++x).set 1 ob) v 1 (G++[(dn:Int)]).length ((G++[(dn:Int)]).map .i):=λx ob=>(gH x).set_lt J
   rw[Ng,List.map_singleton];simp only[Kr];refine⟨_,hx,?_⟩;simp[F,↓q1,jB,gR,e1,K];refine⟨J,(jO _ _).lenL ?_⟩;simp;refine⟨J,(jO _ _).cut (m:=G.length) (by simp) (λK' k'=>k') (λd K' k'=>⟨J,k'⟩) λv' j8=>?_⟩;simp[E];rw[Ng,M9 (by simp)]at j8;refine⟨J,next _ _ (m.set dn false) G v' (st+1) g Aq Ae (by simp) (by simp) ?_ ?_ (by simpa using gR) j8 Ab (λx hx=>jI x (by simp[hx])) zD⟩
   ·rw[Jz J];exact q0 _
   ·rw[←Ll];exact J3 Ab
 have g:Wx r B m D o=(if (Pu o).any (λr=>D.contains r)=true then (9,m,D)
   else if o.kind=16∧Rm m o.d=true then (9,m,D)
   else if o.kind=16∧D.length=8 then (10,m,D)
   else if (Rb o).any (λr=>!Rm m r)=true then (5,m,D)
   else (0,(Pu o).foldl (λm r=>m.set r.toNat true) m,if o.kind=16 then D++[o.d] else D)):=by
  unfold Wx;rw[J1 (by rw[hf];decide),J1 jA]
 simp[jA];refine Ux (zde o) Dm ?_;simp;refine Ux (zdd o) Dm ?_;simp;have jV:=q0 [.cells o.f 1];have X:=q1 [.cells o.f 1];have gU:(gG++[LObj.cells o.f 1])[gG.length]?=some (.cells o.f 1):=Kg;have jC:=gH [.cells o.f 1];have zE:(gG++[LObj.cells o.f 1]).length=gG.length+1:=by simp
 rw[hC]at jV X gU jC zE;generalize gG++[LObj.cells [.i o.kind,.i o.d,.i o.e,.i o.a,.i o.b,.i o.c,.i o.buf,.u o.imm] 1]=G1 at *;generalize gG.length=zg at *;have zX:=zlt o;have zY:=zlx o;have zZ:=hC ▸ gU;refine Qt (λL jz gG N=>∃O:Nat,jz=[]∧N+O=(Pu o).length∧lk L 1=.ptr 0 0∧lk L 6=.dy 1 0∧lk L 7=v∧lk L 8=.i i∧lk L 9=.ptr zg 0∧lk L 10=.lst ((Pu o).map .i) (Pu o).length 1∧lk L 11=.lst ((Rb o).map .i) (Rb o).length 1∧lk L 12=.i O∧gG=G1∧∀x∈(Pu o).take O,¬x∈D) (N:=(Pu o).length)
  ⟨0,rfl,J,Aq,Ae,Bi,Ax,by simp,by simp,by simp,by simp,rfl,by simp⟩ ?_
 clear z F K E;rintro N2 L jz G2 ⟨O,rfl,z7,z,F,K,E,R,j,H,gV,rfl,Q⟩ z9 jP;by_cases V:O<(Pu o).length
 ·have hg:=W4 (f:=LV.i) (Xl V);have ht:=zgd V;have I:=zju V;generalize gd (Pu o) O=x at *;simp[K,j,gV,V,Pe hg];refine Pr (zta D x J) ⟨_,_,rfl,jC.bor,by simp⟩ ?_;by_cases hx:x∈D
  ·have ha:((Pu o).any λr=>D.contains r)=true:=La.2 ⟨x,I,by simpa using hx⟩;rw[g,J6 ha]at C;simp at C;subst C;simp[hx,E]
  ·simp[hx,gV];refine⟨J,jP _ _ _ ⟨N2-1,J,O+1,rfl,J,Aq,Ae,Bi,Ax,Cn,Am,A1,by simp,rfl,λy T=>?_⟩⟩;rw[ht]at T;rcases Kx.1 T with T|T
   ·exact Q y T
   ·simp at T;rw[T];exact hx
 rw[Kk J]at Q;have ha:¬((Pu o).any λr=>D.contains r)=true:=by
  rw[La];rintro⟨x,hx,h⟩;exact Q x hx Aw
 rw[J1 ha]at g;clear ha Q jP;by_cases P:o.kind=16
 ·obtain⟨d0,dr⟩:=j7 P;obtain⟨dn,jB⟩:=J5 d0;have jX:dn<r:=J
  have jM:(m.map LV.bool)[dn]?=some (.bool (Rm m o.d)):=by
   simp[Rm,jB,gR,jX]
  cases Y:Rm m o.d with
  |true =>
   rw[Y]at jM;rw[g,J6 (show o.kind=16∧Rm m o.d=true from ⟨P,Y⟩)]at C;simp at C;subst C;simp[F,E,R,j,gV,V,gU,P,jB,jX,X,Pe jM]
  |false =>
  rw[Y]at jM;rw[J1 (show ¬(o.kind=16∧Rm m o.d=true) by rw[Y];simp)]at g;simp[F,E,R,j,gV,V,gU,P,jB,jX,X,Pe jM,K];refine jC.lenL ?_;by_cases l8:D.length=8
  ·rw[g,J6 (show o.kind=16∧D.length=8 from ⟨P,l8⟩)]at C;simp at C;subst C;simp[l8,E]
  rw[J1 (show ¬(o.kind=16∧D.length=8) from λq=>l8 q.2)]at g;refine⟨λq=>absurd q J,λ_=>?_⟩;rw[J6 P]at g;refine Qt (λL jz gG N=>∃O:Nat,jz=[]∧N+O=(Rb o).length∧lk L 1=.ptr 0 0∧lk L 6=.dy 1 0∧lk L 7=v∧lk L 8=.i i∧lk L 9=.ptr zg 0∧lk L 10=.lst ((Pu o).map .i) (Pu o).length 1∧lk L 11=.lst ((Rb o).map .i) (Rb o).length 1∧lk L 13=.i O∧gG=G2∧∀x∈(Rb o).take O,Rm m x=true) (N:=(Rb o).length)
   ⟨0,rfl,J,Aq,Ae,Bi,Ax,Cn,Am,A1,by simp,rfl,by simp⟩ ?_
  clear z F K E R j H gV;rintro N3 L jz G3 ⟨O,rfl,zG,z,F,K,E,R,j,H,Z,rfl,Q⟩ zH gI;by_cases V:O<(Rb o).length
  ·have hg:=W4 (f:=LV.i) (Xl V);have ht:=zgd V;have I:=zju V;generalize gd (Rb o) O=x at *;obtain⟨x0,xr⟩:=j5 x I;obtain⟨xn,rfl⟩:=J5 x0;have U:xn<r:=J
   have gg:(m.map LV.bool)[xn]?=some (.bool (Rm m (xn:Int))):=by simp[Rm,gR,U]
   cases A:Rm m (xn:Int) with
   |false =>
    have ha:=zqd I A;rw[g,J6 ha]at C;simp at C;subst C;rw[A]at gg;simp[F,E,H,Z,V,Pe hg,X,U,Pe gg]
   |true =>
    rw[A]at gg;simp[F,E,H,Z,V,Pe hg,X,U,Pe gg];refine⟨J,gI _ _ _ ⟨N3-1,J,O+1,rfl,J,Aq,Ae,Bi,Ax,Cn,Am,A1,by simp,rfl,λy T=>?_⟩⟩;rw[ht]at T;rcases Kx.1 T with T|T
    ·exact Q y T
    ·simp at T;rw[T];exact A
  rw[Kk J]at Q;rw[J1 (by rw[zm4 Q];simp)]at g;clear gI Q;simp[z,F,K,E,R,j,H,Z,V];refine Qt (λL jz gG N=>∃(O gD:Nat) (m2:List Bool),jz=[]∧N+O=(Pu o).length∧lk L 1=.ptr 0 0∧lk L 6=.dy 1 0∧lk L 7=v∧lk L 8=.i i∧lk L 9=.ptr zg 0∧lk L 10=.lst ((Pu o).map .i) (Pu o).length 1∧lk L 14=.i O∧gG.length=G3.length∧(∀q,q≠1→gG[q]?=G3[q]?)∧gG[1]?=some (.dyn (m2.map .bool) r 1 0 gD)∧m2.length=r∧m2=((Pu o).take O).foldl (λm r=>m.set r.toNat true) m) (N:=(Pu o).length)
   ⟨0,st,m,rfl,J,Aq,Ae,Bi,Ax,Cn,Am,by simp,rfl,λ_ _=>rfl,X,gR,by simp⟩ ?_
  clear z F K E R j H Z;rintro N4 L jz G4 ⟨O,gD,m2,rfl,zI,z,F,K,E,R,j,jD,jY,gF,gK,gY,gZ⟩ zK gL;by_cases gk:O<(Pu o).length
  ·have hg:=W4 (f:=LV.i) (Xl gk);have ht:=zgd gk;have I:=zju gk;generalize gd (Pu o) O=x at *;obtain⟨x0,xr⟩:=j6 x I;obtain⟨xn,rfl⟩:=J5 x0;have U:xn<r:=J
   have e1:Qj (m2.map LV.bool) xn [.bool true]=(m2.set xn true).map LV.bool:=by
    rw[gT _ _ _ Ab,Ll]
   simp[F,j,jD,gk,Pe hg,gK,U,gY,e1];refine⟨J,J,gL _ _ _ ⟨N4-1,J,O+1,gD+1,m2.set xn true,rfl,J,Aq,Ae,Bi,Ax,Cn,Am,by simp,by simp[jY],λq hq=>?_,?_,by simp[gY],?_⟩⟩
   ·rw[Jz (Ne.symm hq)];exact gF q hq
   ·rw[←Ll];exact J3 (by have:=(Jy.1 gK).1;exact this)
   ·rw[ht,List.foldl_append,←gZ];simp
  rw[Kk J]at gZ;have jE:Ra 2 G4 v 1 D.length (D.map .i):=jC.frame λq h _=>gF q J
  have jF:G4[0]?=some (.cells (Pm r B os) 0):=(gF 0 J).trans jV;have jG:G4[zg]?=_:=(gF zg J).trans gU;rw[←gZ]at g;clear gL;simp[z,F,K,E,R,j,jD,gk,jG,P];refine Ra.push (x:=[.i o.d]) jE.push_end J Ab J rfl rfl λv' G5 zL j9 zM _=>?_
  simp[E];have zQ:=(Jy.1 gK).1;refine⟨J,next _ _ m2 (D++[o.d]) v' gD g Aq Ae (by simp) (by simp) ?_ ?_ gY (by simpa using zL) (by simp at zM;omega) (λx hx=>?_) Ab⟩
  ·rw[j9 0 J,Ph J];exact jF
  ·rw[j9 1 J,Ph J];exact gK
  ·rcases Kx.1 hx with hx|hx
   ·exact jI x hx
   ·simp at hx;rw[hx];exact j7 P
 rw[J1 (show ¬(o.kind=16∧Rm m o.d=true) from λq=>P q.1),J1 (show ¬(o.kind=16∧D.length=8) from λq=>P q.1),J1 P]at g;simp[z,F,K,E,R,j,H,gV,V,gU,P];refine Qt (λL jz gG N=>∃O:Nat,jz=[]∧N+O=(Rb o).length∧lk L 1=.ptr 0 0∧lk L 6=.dy 1 0∧lk L 7=v∧lk L 8=.i i∧lk L 9=.ptr zg 0∧lk L 10=.lst ((Pu o).map .i) (Pu o).length 1∧lk L 11=.lst ((Rb o).map .i) (Rb o).length 1∧lk L 13=.i O∧gG=G2∧∀x∈(Rb o).take O,Rm m x=true) (N:=(Rb o).length)
  ⟨0,rfl,J,Aq,Ae,Bi,Ax,Cn,Am,A1,by simp,rfl,by simp⟩ ?_
 clear z F K E R j H gV;rintro N3 L jz G3 ⟨O,rfl,zG,z,F,K,E,R,j,H,Z,rfl,Q⟩ zH gI;by_cases V:O<(Rb o).length
 ·have hg:=W4 (f:=LV.i) (Xl V);have ht:=zgd V;have I:=zju V;generalize gd (Rb o) O=x at *;obtain⟨x0,xr⟩:=j5 x I;obtain⟨xn,rfl⟩:=J5 x0;have U:xn<r:=J
  have gg:(m.map LV.bool)[xn]?=some (.bool (Rm m (xn:Int))):=by simp[Rm,gR,U]
  cases A:Rm m (xn:Int) with
  |false =>
   have ha:=zqd I A;rw[g,J6 ha]at C;simp at C;subst C;rw[A]at gg;simp[F,E,H,Z,V,Pe hg,X,U,Pe gg]
  |true =>
   rw[A]at gg;simp[F,E,H,Z,V,Pe hg,X,U,Pe gg];refine⟨J,gI _ _ _ ⟨N3-1,J,O+1,rfl,J,Aq,Ae,Bi,Ax,Cn,Am,A1,by simp,rfl,λy T=>?_⟩⟩;rw[ht]at T;rcases Kx.1 T with T|T
   ·exact Q y T
   ·simp at T;rw[T];exact A
 rw[Kk J]at Q;rw[J1 (by rw[zm4 Q];simp)]at g;clear gI Q;simp[z,F,K,E,R,j,H,Z,V];refine Qt (λL jz gG N=>∃(O gD:Nat) (m2:List Bool),jz=[]∧N+O=(Pu o).length∧lk L 1=.ptr 0 0∧lk L 6=.dy 1 0∧lk L 7=v∧lk L 8=.i i∧lk L 9=.ptr zg 0∧lk L 10=.lst ((Pu o).map .i) (Pu o).length 1∧lk L 14=.i O∧gG.length=G3.length∧(∀q,q≠1→gG[q]?=G3[q]?)∧gG[1]?=some (.dyn (m2.map .bool) r 1 0 gD)∧m2.length=r∧m2=((Pu o).take O).foldl (λm r=>m.set r.toNat true) m) (N:=(Pu o).length)
  ⟨0,st,m,rfl,J,Aq,Ae,Bi,Ax,Cn,Am,by simp,rfl,λ_ _=>rfl,X,gR,by simp⟩ ?_
 clear z F K E R j H Z;rintro N4 L jz G4 ⟨O,gD,m2,rfl,zI,z,F,K,E,R,j,jD,jY,gF,gK,gY,gZ⟩ zK gL;by_cases gk:O<(Pu o).length
 ·have hg:=W4 (f:=LV.i) (Xl gk);have ht:=zgd gk;have I:=zju gk;generalize gd (Pu o) O=x at *;obtain⟨x0,xr⟩:=j6 x I;obtain⟨xn,rfl⟩:=J5 x0;have U:xn<r:=J
  have e1:Qj (m2.map LV.bool) xn [.bool true]=(m2.set xn true).map LV.bool:=by
   rw[gT _ _ _ Ab,Ll]
  simp[F,j,jD,gk,Pe hg,gK,U,gY,e1];refine⟨J,J,gL _ _ _ ⟨N4-1,J,O+1,gD+1,m2.set xn true,rfl,J,Aq,Ae,Bi,Ax,Cn,Am,by simp,by simp[jY],λq hq=>?_,?_,by simp[gY],?_⟩⟩
  ·rw[Jz (Ne.symm hq)];exact gF q hq
  ·rw[←Ll];exact J3 (by have:=(Jy.1 gK).1;exact this)
  ·rw[ht,List.foldl_append,←gZ];simp
 rw[Kk J]at gZ;have jE:Ra 2 G4 v 1 D.length (D.map .i):=jC.frame λq h _=>gF q J
 have jF:G4[0]?=some (.cells (Pm r B os) 0):=(gF 0 J).trans jV;have jG:G4[zg]?=_:=(gF zg J).trans gU;rw[←gZ]at g;clear gL;simp[z,F,K,E,R,j,jD,gk,jG,P];refine⟨J,next _ _ m2 D v gD g Aq Ae Bi (by simp) jF gK gY jE J jI jZ⟩
def zbb:LC:=(.q [.F 2] (.q [.K 3 0] (.seq (.q [.K 4 0] (.block 0 (.loop (.seq (.q [.m 6 4,.m 7 0,.s 8 7,.c 9 .lss 3 6 8] (.cond (.t 9) .skip (.exit 0))) (.seq (.block 1 (.q [.m 12 0,.m 13 4,.I 14 3 12 13,.L 15 3 14,.z 5 (.alloc [(.i 0),(.bool false),(.i 0)]),.S 3 5 15] (.seq (.q [.f 16 0 5,.l 17 16,.b 18 .lss 3 17 1,.m 19 18,.nf 20 19 0 5,.nl 21 19 20,.nb 22 19 .gtr 3 21 512,.p 23 19 22,.m 24 23,.nf 25 24 2 5,.nl 26 24 25,.nb 27 24 .lss 3 26 0,.p 28 24 27,.m 29 28,.nf 30 29 2 5,.nl 31 29 30,.nb 32 29 .gtr 3 31 3,.p 33 29 32,.m 34 33,.nf 35 34 2 5,.nl 36 34 35,.nb 37 34 .gtr 3 36 0,.mn 38 34 37,.my 39 38 3,.my 40 38 4,.y 41 38 (.bin .lss false 3 (.t 39) (.t 40)),.n 42 34 (.pick (.t 38) (.t 41) .F),.p 43 34 42,.m 44 43,.nf 45 44 2 5,.nl 46 44 45,.nb 47 44 .eql 3 46 1,.mn 48 44 47,.yf 49 48 1 5,.yl 50 48 49,.n 51 44 (.pick (.t 48) (.t 50) .F),.p 52 44 51,.m 53 52,.nf 54 53 2 5,.nl 55 53 54,.nb 56 53 .gtr 3 55 1,.mn 57 53 56,.yf 58 57 1 5,.yl 59 57 58,.y 60 57 (.un .not (.t 59)),.n 61 53 (.pick (.t 57) (.t 60) .F),.p 62 53 61] (.cond (.t 62) (.q [.F 2] .ret) .skip)) (.q [.f 63 2 5,.l 64 63,.b 65 .gtr 3 64 0] (.cond (.t 65) (.ops [.m 66 3,.b 67 .add 3 66 1,.m 3 67]) .skip))))) (.ops [.m 10 4,.b 11 .add 3 10 1,.m 4 11])))))) (.q [.m 68 0,.s 69 68,.b 70 .geq 3 69 1,.m 71 70,.my 72 71 0,.y 73 71 (.lenSl (.t 72)),.y 74 71 (.bin .leq true 3 (.t 73) (.k 256)),.q 75 71 74,.m 76 75,.my 77 76 3,.y 78 76 (.bin .leq true 3 (.t 77) (.k 12)),.q 79 76 78,.m 2 79] .ret))))
def r_ref22_varsMay:Pk Tryz.prog 26=some ⟨80,zbb.r,[.tmp 2]⟩:=Aa
def zdw:LC:=(.q [.F 2] (.q [.m 3 0,.b 4 .geq 3 3 1,.m 5 4,.my 6 5 0,.y 7 5 (.bin .leq true 3 (.t 6) (.k 11)),.q 8 5 7,.m 9 8,.mn 10 9 0,.nb 11 9 .eql 3 10 14,.p 12 9 11,.m 2 12] .ret))
def r_ref22_Has:Pk Tryz.prog 9=some ⟨13,zdw.r,[.tmp 2]⟩:=Aa
def z6d:LC:=(.q [.x 3 1,.F 4] (.q [.f 5 1 3,.l 6 5,.b 7 .geq 3 6 0,.m 8 7,.yf 9 8 1 3,.yl 10 8 9,.my 11 8 0,.y 12 8 (.lenSl (.t 11)),.y 13 8 (.bin .lss false 3 (.t 10) (.t 12)),.q 14 8 13,.m 15 14,.my 16 15 0,.yf 17 15 1 3,.yl 18 15 17,.y 19 15 (.ixAddr 3 (.t 16) (.t 18)),.yf 20 15 1 19,.yl 21 15 20,.y 22 15 (.un .not (.t 21)),.q 23 15 22,.m 4 23] .ret))
def r_ref22_Public:Pk Tryz.prog 35=some ⟨24,z6d.r,[.tmp 4]⟩:=Aa
def zh9(g:List Vr)(hl:g.length≤9223372036854775807):Pl 26 [.lst (Py g) g.length 3] (.bool (Tg g)) []:=by
 refine P4.val rfl (Pj r_ref22_varsMay Aa (by simp) ?_);simp[zbb];refine Qt (λY gg gD N=>∃i p:Nat,gg=[]∧N+i=g.length∧p≤i∧lk Y 0=.lst (Py g) g.length 3∧lk Y 3=.i p∧lk Y 4=.i i∧T8 i p (g.drop i)=T8 0 0 g) (N:=g.length) ⟨0,0,by simp⟩ ?_;rintro N Y gg gD ⟨i,p,rfl,hN,Z,A,D,F,hv⟩ Nx T;by_cases R:i<g.length
 ·have hg:=Vf R;have K:=zct hg;have L:=mz R;rw[zn9 R]at hv;have M:(gv g i).f=[.i (gv g i).limbs,.bool (gv g i).sec,.i (gv g i).mode]:=rfl;generalize gv g i=v at *;have C:T8 i p (v::g.drop (i+1))=none→Tg g=false:=λh=>by rw[h]at hv;simp[Tg,←hv]
  by_cases j:v.limbs<1
  ·simp[A,D,F,R,K,L,M,j];exact C (by simp[T8,Xi,j])
  by_cases z:512<v.limbs
  ·simp[A,D,F,R,K,L,M,j,z];exact C (by simp[T8,Xi,j,z])
  by_cases B:v.mode<0
  ·simp[A,D,F,R,K,L,M,j,z,B];exact C (by simp[T8,Xi,j,z,B])
  by_cases E:3<v.mode
  ·simp[A,D,F,R,K,L,M,j,z,B,E];exact C (by simp[T8,Xi,j,z,B,E])
  by_cases G:v.mode=0
  ·simp[A,D,F,R,K,L,M,j,z,B,E,G];refine⟨J,T _ _ _ ⟨N-1,J,i+1,p,rfl,J,J,Al,At,by simp,?_⟩⟩;rw[←hv];simp[T8,Xi,j,z,B,E,G]
  have H:0<v.mode:=J
  by_cases O:p<i
  ·simp[A,D,F,R,K,L,M,j,z,B,E,G,H,O];exact C (by simp[T8,Xi,j,z,B,E,G,O])
  by_cases Q:v.mode=1
  ·have I:¬1<v.mode:=J
   cases P:v.sec with
   |true =>
    simp[A,D,F,R,K,L,M,j,z,B,E,G,H,O,Q,I,P];exact C (by simp[T8,Xi,j,z,B,E,G,O,P,Q])
   |false =>
    simp[A,D,F,R,K,L,M,j,z,B,E,G,H,O,Q,I,P];refine⟨J,J,T _ _ _ ⟨N-1,J,i+1,p+1,rfl,J,J,Al,by simp,by simp,?_⟩⟩;rw[←hv];simp[T8,Xi,j,z,B,E,G,O,P,Q]
  ·have I:1<v.mode:=J
   cases P:v.sec with
   |false =>
    simp[A,D,F,R,K,L,M,j,z,B,E,G,H,O,Q,I,P];exact C (by simp[T8,Xi,j,z,B,E,G,O,P,Q])
   |true =>
    simp[A,D,F,R,K,L,M,j,z,B,E,G,H,O,Q,I,P];refine⟨J,J,T _ _ _ ⟨N-1,J,i+1,p+1,rfl,J,J,Al,by simp,by simp,?_⟩⟩;rw[←hv];simp[T8,Xi,j,z,B,E,G,O,P,Q]
 ·have ei:i=g.length:=J
  rw[L6 J]at hv;have U:T8 0 0 g=some p:=by rw[←hv];rfl
  by_cases V:1≤g.length
  ·by_cases X:g.length≤256
   ·simp[A,D,F,R,Tg,U,V,X];omega
   ·simp[A,D,F,R,Tg,U,V,X];omega
  ·simp[A,D,F,R,Tg,U,V];omega
def zby(vs:List Vr)(o:Ko):Pl 35 [.lst (Py vs) vs.length 3,.agg o.f] (.bool (U3 vs o.d)) []:=by
 refine P4.val rfl (Pj r_ref22_Public Aa N ?_);by_cases j:0≤o.d
 case neg=>simp[z6d,Ko.f,U3,j]
 by_cases z:o.d<vs.length
 case neg=>simp[z6d,Ko.f,U3,j,z]
 obtain⟨n,hn⟩:=J5 j;have g:n<vs.length:=J
 have A:=ziv (Vf g);have B:=mz g;simp[z6d,Ko.f,U3,hn,g,Pe A]
def zr7(k:Int):Pl 9 [.i k] (.bool (Te k)) []:=by
 refine P4.val rfl (Pj r_ref22_Has Aa N ?_);by_cases g:1≤k
 ·by_cases j:k≤11<;>simp[zdw,Te,g,j]
 ·simp[zdw,Te,g]
end Go.Proofs.YtmnciecehjcjhaaGreat
end
