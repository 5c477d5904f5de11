/- The templates: see the main text. -/
import Derived.Test.YtmnciecehjcjhaaGreatSvG2
import Derived.Test.YtmnciecehjcjhaaGreatProg
import Derived.KernelRfl
import Derived.Test.YtmnciecehjcjhaaGreatSvG3
set_option linter.defProp false
namespace Go.Sv
abbrev LI.z (d : Nat) (o : LOp) : LI := ⟨some d, none, o⟩
abbrev LI.m (d t : Nat) : LI := ⟨some d, none, .move (.t t)⟩
abbrev LI.l (d t : Nat) : LI := ⟨some d, none, .load1 (.t t)⟩
abbrev LI.f (d n t : Nat) : LI := ⟨some d, none, .fieldAddr n (.t t)⟩
abbrev LI.y (d g : Nat) (o : LOp) : LI := ⟨some d, some (g, true), o⟩
abbrev LI.n (d g : Nat) (o : LOp) : LI := ⟨some d, some (g, false), o⟩
abbrev LI.my (d g t : Nat) : LI := ⟨some d, some (g, true), .move (.t t)⟩
abbrev LI.mn (d g t : Nat) : LI := ⟨some d, some (g, false), .move (.t t)⟩
abbrev LI.v (o : LOp) : LI := ⟨none, none, o⟩
abbrev LOp.w (f : Nat) (l : List Lx) : LOp := .callV (.c (.fn (.func f) [] [])) l
abbrev Lx.k (n : Int) : Lx := .c (.i n)
abbrev Lx.T : Lx := .c (.bool true)
abbrev Lx.F : Lx := .c (.bool false)
abbrev LC.q (l : List LI) (s : LC) : LC := .seq (.ops l) s
abbrev LI.N (d a : Nat) : LI := .z d (.nilChk (.t a))
abbrev LI.L (d n a : Nat) : LI := .z d (.loadN n (.t a))
abbrev LI.I (d n a b : Nat) : LI := .z d (.ixAddr n (.t a) (.t b))
abbrev LI.b (d : Nat) (o : BinOp) (t a : Nat) (k : Int) : LI := .z d (.bin o true t (.t a) (.k k))
abbrev LI.c (d : Nat) (o : BinOp) (t a b : Nat) : LI := .z d (.bin o false t (.t a) (.t b))
abbrev LI.u (d : Nat) (o : BinOp) (t a : Nat) (k : UInt64) : LI := .z d (.bin o true t (.t a) (.c (.u k)))
abbrev LI.nb (d g : Nat) (o : BinOp) (t a : Nat) (k : Int) : LI := .n d g (.bin o true t (.t a) (.k k))
abbrev LI.p (d a b : Nat) : LI := .z d (.pick (.t a) .T (.t b))
abbrev LI.q (d a b : Nat) : LI := .z d (.pick (.t a) (.t b) .F)
abbrev LI.K (d : Nat) (k : Int) : LI := .z d (.move (.k k))
abbrev LI.F (d : Nat) : LI := .z d (.move .F)
abbrev LI.e (d : Nat) : LI := .z d (.move (.c .nilSl))
abbrev LI.S (n a b : Nat) : LI := .v (.store n (.t a) (.t b))
abbrev LI.s (d a : Nat) : LI := .z d (.lenSl (.t a))
abbrev LI.x (d a : Nat) : LI := .z d (.box (.t a))
abbrev LI.X (d n a : Nat) : LI := .z d (.extract n (.t a))
abbrev LI.w (d f a : Nat) : LI := .z d (.w f [.t a])
abbrev LI.W (d f a b : Nat) : LI := .z d (.w f [.t a, .t b])
abbrev LI.V (d f a b c : Nat) : LI := .z d (.w f [.t a, .t b, .t c])
abbrev LI.nf (d g n a : Nat) : LI := .n d g (.fieldAddr n (.t a))
abbrev LI.yf (d g n a : Nat) : LI := .y d g (.fieldAddr n (.t a))
abbrev LI.nl (d g a : Nat) : LI := .n d g (.load1 (.t a))
abbrev LI.yl (d g a : Nat) : LI := .y d g (.load1 (.t a))
abbrev LI.a (d n a b : Nat) : LI := .z d (.appG n (.t a) (.t b))
end Go.Sv
noncomputable section
namespace Go.Proofs.YtmnciecehjcjhaaGreat
open Go.Sv
set_option linter.unusedSimpArgs false
set_option maxRecDepth 10000
variable{g j A M Z vI uY:Nat}{z B vY:Int}{U:UInt64}{vU:List Int}{vT:Type}{F:List LV}{P:Ok}{vZ:LV→Ok→Prop}{vE:List Vr}{T:List Bf}{vK:List Lo}{vO:Pc}
abbrev O2 := P4 Tryz.prog
abbrev Rd := T2 Tryz.prog
abbrev Qa := Sw Tryz.prog
def Wi:LC:=(.q [.K 2 0,.F 3] (.seq (.q [.m 4 0] (.block 0 (.q [.b 6 .eql 3 4 1,.m 5 6] (.cond (.t 5) (.q [.K 2 1,.z 3 (.move .T)] .ret) (.q [.b 8 .eql 3 4 2,.m 7 8] (.cond (.t 7) (.q [.K 2 5,.z 3 (.move .T)] .ret) (.seq (.q [.b 10 .eql 3 4 3,.m 9 10] (.cond (.t 9) .skip (.q [.b 11 .eql 3 4 4,.m 9 11] (.cond (.t 9) .skip (.q [.b 12 .eql 3 4 5,.m 9 12] (.cond (.t 9) .skip (.q [.b 13 .eql 3 4 6,.m 9 13] (.cond (.t 9) .skip (.ops [.b 14 .eql 3 4 7,.m 9 14]))))))))) (.cond (.t 9) (.q [.K 2 13,.z 3 (.move .T)] .ret) (.seq (.q [.b 16 .eql 3 4 8,.m 15 16] (.cond (.t 15) .skip (.q [.b 17 .eql 3 4 10,.m 15 17] (.cond (.t 15) .skip (.q [.b 18 .eql 3 4 11,.m 15 18] (.cond (.t 15) .skip (.q [.b 19 .eql 3 4 12,.m 15 19] (.cond (.t 15) .skip (.ops [.b 20 .eql 3 4 13,.m 15 20]))))))))) (.cond (.t 15) (.q [.K 2 29,.z 3 (.move .T)] .ret) (.q [.b 22 .eql 3 4 9,.m 21 22] (.cond (.t 21) (.q [.K 2 21,.z 3 (.move .T)] .ret) (.q [.b 24 .eql 3 4 14,.m 23 24] (.cond (.t 23) (.q [.K 2 19,.z 3 (.move .T)] .ret) (.seq (.q [.b 26 .eql 3 4 15,.m 25 26] (.cond (.t 25) .skip (.ops [.b 27 .eql 3 4 16,.m 25 27]))) (.cond (.t 25) (.q [.K 2 0,.z 3 (.move .T)] .ret) .skip)))))))))))))))) (.q [.K 2 0,.F 3] .ret)))
def r_lengths_shape:Oz Tryz.prog 131=some ⟨28,Wi.r,[.tmp 2,.tmp 3]⟩:=Aa
def z2o:LC:=(.q [.x 1 0,.F 2] (.seq (.q [.f 3 0 1,.l 4 3] (.block 0 (.q [.b 6 .eql 3 4 1,.m 5 6] (.cond (.t 5) (.q [.z 2 (.move .T)] .ret) (.q [.b 8 .eql 3 4 13,.m 7 8] (.cond (.t 7) (.q [.f 9 6 1,.l 10 9,.u 11 .geq 23 10 1,.m 12 11,.yf 13 12 6 1,.yl 14 12 13,.y 15 12 (.bin .leq true 23 (.t 14) (.c (.u 6))),.q 16 12 15,.m 2 16] .ret) (.q [.b 18 .eql 3 4 15,.m 17 18] (.cond (.t 17) (.q [.f 19 6 1,.l 20 19,.u 21 .geq 23 20 1,.m 22 21,.yf 23 22 6 1,.yl 24 22 23,.y 25 22 (.bin .leq true 23 (.t 24) (.c (.u 4096))),.q 26 22 25,.m 2 26] .ret) .skip)))))))) (.q [.f 27 6 1,.l 28 27,.u 29 .eql 23 28 0,.m 2 29] .ret)))
def r_lengths_number:Oz Tryz.prog 132=some ⟨30,z2o.r,[.tmp 2]⟩:=Aa
def z9y:LC:=(.q [.x 1 0,.z 2 (.alloc [(.i 0),(.i 0),(.i 0),(.i 0),(.i 0)])] (.q [.f 3 1 1,.l 4 3,.f 5 2 1,.l 6 5,.f 7 3 1,.l 8 7,.f 9 4 1,.l 10 9,.f 11 5 1,.l 12 11,.z 13 (.build [(.i 0),(.i 0),(.i 0),(.i 0),(.i 0)] [(0,1,.t 4),(1,1,.t 6),(2,1,.t 8),(3,1,.t 10),(4,1,.t 12)]),.S 5 2 13] .ret))
def r_lengths_parts:Oz Tryz.prog 133=some ⟨14,z9y.r,[.cellN 2 5]⟩:=Aa
def z9x:LC:=(.q [.x 1 0,.F 2] (.q [.f 3 2 1,.l 4 3,.b 5 .eql 3 4 1,.m 6 5,.nf 7 6 2 1,.nl 8 6 7,.nb 9 6 .eql 3 8 2,.p 10 6 9,.m 2 10] .ret))
def r_lengths_given:Oz Tryz.prog 89=some ⟨11,z9x.r,[.tmp 2]⟩:=Aa
def z5k:LC:=(.q [.F 3] (.q [.m 4 0,.b 5 .geq 3 4 0,.m 6 5,.my 7 6 0,.yl 8 6 1,.y 9 6 (.lenSl (.t 8)),.y 10 6 (.bin .lss false 3 (.t 7) (.t 9)),.q 11 6 10,.m 3 11] .ret))
def r_lengths_need_1:Oz Tryz.prog 130=some ⟨12,z5k.r,[.tmp 3]⟩:=Aa
def z3i:LC:=(.q [.x 2 0,.x 3 1,.F 4] (.q [.z 6 (.mkFunc 130 [] [.t 2]),.m 5 6] (.seq (.q [.f 7 1 3,.l 8 7,.b 9 .neq 3 8 (-1),.m 10 9,.nf 11 10 2 3,.nl 12 10 11,.nb 13 10 .neq 3 12 (-1),.p 14 10 13,.m 15 14,.nf 16 15 5 3,.nl 17 15 16,.nb 18 15 .neq 3 17 (-1),.p 19 15 18,.m 20 19,.mn 21 20 5,.nf 22 20 3 3,.nl 23 20 22,.n 24 20 (.callV (.t 21) [.t 23]),.n 25 20 (.un .not (.t 24)),.p 26 20 25] (.cond (.t 26) (.q [.F 4] .ret) .skip)) (.seq (.q [.f 27 6 3,.l 28 27] (.block 0 (.q [.u 30 .eql 23 28 2,.m 29 30] (.cond (.t 29) (.q [.m 31 5,.f 32 4 3,.l 33 32,.z 34 (.callV (.t 31) [.t 33]),.m 4 34] .ret) (.seq (.q [.u 36 .eql 23 28 1,.m 35 36] (.cond (.t 35) .skip (.ops [.u 37 .eql 23 28 3,.m 35 37]))) (.cond (.t 35) (.q [.f 38 4 3,.l 39 38,.b 40 .eql 3 39 (-1),.m 4 40] .ret) .skip)))))) (.q [.F 4] .ret)))))
def r_lengths_need:Oz Tryz.prog 88=some ⟨41,z3i.r,[.tmp 4]⟩:=Aa
def z3d:LC:=(.q [.K 4 0] (.seq (.q [.m 6 0,.s 7 6,.K 8 0] (.block 0 (.loop (.q [.c 9 .lss 3 8 7] (.seq (.cond (.t 9) .skip (.exit 0)) (.seq (.block 1 (.q [.m 10 8,.m 5 10] (.q [.m 11 1,.m 12 0,.m 13 5,.I 14 1 12 13,.l 15 14,.z 16 (.callV (.t 11) [.t 15])] (.cond (.t 16) (.q [.m 17 5,.m 4 17] .ret) .skip)))) (.ops [.b 18 .add 3 8 1,.m 8 18]))))))) (.q [.K 4 (-1)] .ret)))
def r_slices_IndexFunc_int_int:Oz Tryz.prog 136=some ⟨19,z3d.r,[.tmp 4]⟩:=Aa
def z2n:LC:=(.q [.F 4] (.q [.m 5 0,.m 6 1,.W 7 136 5 6,.b 8 .geq 3 7 0,.m 4 8] .ret))
def r_slices_ContainsFunc_int_int:Oz Tryz.prog 91=some ⟨9,z2n.r,[.tmp 4]⟩:=Aa
def eqbP(a b:Bool):Tg Tryz.prog false 4 (.bool a) (.bool b)=some (a==b):=by cases a<;>cases b<;>kernel_rfl
def zeb(k:Int):O2 131 [.i k] (.tup [.i (((R5 k).getD 0:Nat):Int),.bool (R5 k).isSome]) []:=by
 refine P4.val rfl (O0 r_lengths_shape Aa N ?_);by_cases E:k=1;· subst E;simp[Wi,R5]
 by_cases F:k=2;· subst F;simp[Wi,R5]
 by_cases G:k=3;· subst G;simp[Wi,R5]
 by_cases H:k=4;· subst H;simp[Wi,R5]
 by_cases I:k=5;· subst I;simp[Wi,R5]
 by_cases K:k=6;· subst K;simp[Wi,R5]
 by_cases L:k=7;· subst L;simp[Wi,R5]
 by_cases M:k=8;· subst M;simp[Wi,R5]
 by_cases O:k=9;· subst O;simp[Wi,R5]
 by_cases g:k=10;· subst g;simp[Wi,R5]
 by_cases j:k=11;· subst j;simp[Wi,R5]
 by_cases z:k=12;· subst z;simp[Wi,R5]
 by_cases A:k=13;· subst A;simp[Wi,R5]
 by_cases B:k=14;· subst B;simp[Wi,R5]
 by_cases C:k=15;· subst C;simp[Wi,R5]
 by_cases D:k=16;· subst D;simp[Wi,R5]
 simp[Wi,R5,E,F,G,H,I,K,L,M,O,g,j,z,A,B,C,D]
def zdj(o:Ko):O2 132 [.agg o.f] (.bool (Um o)) []:=by
 refine P4.val rfl (O0 r_lengths_number Aa N ?_);by_cases g:o.kind=1;· simp[z2o,Ko.f,Um,g]
 by_cases j:o.kind=13
 ·by_cases A:1≤o.imm<;>simp[z2o,Ko.f,Um,g,j,A]
 by_cases z:o.kind=15
 ·by_cases A:1≤o.imm<;>simp[z2o,Ko.f,Um,g,j,z,A]
 simp[z2o,Ko.f,Um,g,j,z]
def z8v(o:Ko):O2 133 [.agg o.f] (.agg [.i o.d,.i o.e,.i o.a,.i o.b,.i o.c]) []:=by
 refine P4.val rfl (O0 r_lengths_parts Aa N ?_);simp[z9y,Ko.f]
def z8w(v:Vr):O2 89 [.agg v.f] (.bool (Ti v)) []:=by
 refine P4.val rfl (O0 r_lengths_given Aa N ?_);by_cases g:v.mode=1<;>simp[z9x,Vr.f,Ti,g]
def zhy{p n st:Nat}{c:List LV}(v:Int)(g:P[p]?=some (.cells [.lst c n 3] st))(k:vZ (.bool (Yc n v)) P):Qa (.fn 130) [.i v,.ptr p 0] P vZ:=by
 refine O0 r_lengths_need_1 Aa N ?_;by_cases j:0≤v
 ·by_cases z:v<n<;>simp[z5k,g,Yc,j,z]at k ⊢<;>exact k
 ·simp[z5k,g,Yc,j]at k ⊢;exact k
def z94(c:List LV)(n:Nat)(o:Ko):O2 88 [.lst c n 3,.agg o.f] (.bool (Xi n o)) []:=by
 refine P4.val rfl (O0 r_lengths_need Aa N ?_);by_cases g:o.d=-1
 case neg=>simp[z3i,Ko.f,Xi,g]
 by_cases j:o.e=-1
 case neg=>simp[z3i,Ko.f,Xi,g,j]
 by_cases z:o.c=-1
 case neg=>simp[z3i,Ko.f,Xi,g,j,z]
 simp[z3i,Ko.f,g,j,z];refine zhy o.a rfl ?_;cases A:Yc n o.a with
 |false=>simp[Xi,A]
 |true =>
  by_cases B:o.imm=2
  ·simp[B];refine zhy o.b rfl ?_;simp[Xi,g,j,z,A,B]
  by_cases C:o.imm=1
  ·simp[Xi,g,j,z,A,B,C]
  by_cases D:o.imm=3
  ·simp[Xi,g,j,z,A,B,C,D]
  simp[Xi,g,j,z,A,B,C,D]
def zcg{l:List Int}{f:Nat}{a b:List LV}{p:Int→Bool}(R:l.length≤9223372036854775807)
  (O:∀v∈l,∀F:LV→Ok→Prop,F (.bool (p v)) P→Qa (.fn f) (a++[.i v]++b) P F) (k:vZ (.i (Zp p l)) P):Qa (.fn 136) [.lst (l.map .i) l.length 1,.fn (.func f) a b] P vZ:=by
 refine O0 r_slices_IndexFunc_int_int Aa (by simp) ?_;simp[z3d];refine Ql (λG Q H N=>∃i:Nat,Q=[]∧H=P∧N+i=l.length∧lk G 0=.lst (l.map .i) l.length 1∧lk G 1=.fn (.func f) a b∧lk G 7=.i l.length∧lk G 8=.i i∧∀I b,I<i→l[I]?=some b→p b=false) (N:=l.length) ⟨0,by simp⟩ ?_;rintro N G Q H ⟨i,rfl,rfl,T,j,z,A,B,C⟩ U D;by_cases hi:l.length≤i
 ·have K:¬i<l.length:=J
  simp[j,z,A,B,K];rw[←zpj hi C];exact k
 ·have K:i<l.length:=J
  have E:=J5 K;simp[j,z,A,B,K];simp[Ov (Wz (f:=LV.i) E)];have L:=O l[i] (Na K);simp only[Kz,List.singleton_append]at L;refine L _ ?_;cases M:p l[i] with
  |true =>
   simp;rw[←ii E M C];exact k
  |false =>
   simp[B];refine⟨J,D _ _ _ ⟨N-1,J,i+1,rfl,rfl,J,Ay,Al,At,by simp,λI b V g=>?_⟩⟩;by_cases e:I=i
   ·subst e;rw[E]at g;cases g;exact M
   ·exact C I b J g
def z5g{l:List Int}{f:Nat}{a b:List LV}{p:Int→Bool}(j:l.length≤9223372036854775807)
  (z:∀v∈l,∀g:LV→Ok→Prop,g (.bool (p v)) P→Qa (.fn f) (a++[.i v]++b) P g) (k:vZ (.bool (l.any p)) P):Qa (.fn 91) [.lst (l.map .i) l.length 1,.fn (.func f) a b] P vZ:=by
 refine O0 r_slices_ContainsFunc_int_int Aa N ?_;simp[z2n];refine zcg j z ?_;simp;rw[zvc];exact k
def z9v:LC:=(.q [.z 0 (.move (.c .nilMap))] (.q [.z 1 (.move (.c (.fn (.func 167) [] [])))] (.q [.z 2 (.mkMap0),.v (.mapUpd (.int .i64) (.t 2) (.k 6) (.c (.fn (.func 168) [] []))),.v (.mapUpd (.int .i64) (.t 2) (.k 14) (.c (.fn (.func 169) [] []))),.v (.mapUpd (.int .i64) (.t 2) (.k 8) (.c (.fn (.func 170) [] []))),.v (.mapUpd (.int .i64) (.t 2) (.k 9) (.c (.fn (.func 171) [] []))),.m 3 1,.v (.mapUpd (.int .i64) (.t 2) (.k 10) (.t 3)),.m 4 1,.v (.mapUpd (.int .i64) (.t 2) (.k 11) (.t 4)),.m 5 1,.v (.mapUpd (.int .i64) (.t 2) (.k 12) (.t 5)),.v (.mapUpd (.int .i64) (.t 2) (.k 13) (.c (.fn (.func 172) [] []))),.m 6 2,.m 0 6] .ret)))
def r_lengths_alike:Oz Tryz.prog 153=some ⟨7,z9v.r,[.tmp 0]⟩:=Aa
def z7d:LC:=(.q [.x 1 0,.e 2] (.q [.f 3 1 1,.l 4 3,.f 5 3 1,.l 6 5,.f 7 4 1,.l 8 7,.f 9 5 1,.l 10 9,.z 11 (.buildSl 1 4 [(.i 0),(.i 0),(.i 0),(.i 0)] [(0,1,.t 4),(1,1,.t 6),(2,1,.t 8),(3,1,.t 10)]),.m 2 11] .ret))
def r_lengths_alike_1:Oz Tryz.prog 167=some ⟨12,z7d.r,[.tmp 2]⟩:=Aa
def z7z:LC:=(.q [.x 1 0,.e 2] (.q [.f 3 3 1,.l 4 3,.f 5 4 1,.l 6 5,.z 7 (.buildSl 1 2 [(.i 0),(.i 0)] [(0,1,.t 4),(1,1,.t 6)]),.m 2 7] .ret))
def r_lengths_alike_2:Oz Tryz.prog 168=some ⟨8,z7z.r,[.tmp 2]⟩:=Aa
def z80:LC:=(.q [.x 1 0,.e 2] (.q [.f 3 1 1,.l 4 3,.f 5 2 1,.l 6 5,.z 7 (.buildSl 1 2 [(.i 0),(.i 0)] [(0,1,.t 4),(1,1,.t 6)]),.m 2 7] .ret))
def r_lengths_alike_3:Oz Tryz.prog 169=some ⟨8,z80.r,[.tmp 2]⟩:=Aa
def z7r:LC:=(.q [.x 1 0,.e 2] (.q [.f 3 1 1,.l 4 3,.f 5 3 1,.l 6 5,.f 7 4 1,.l 8 7,.z 9 (.buildSl 1 3 [(.i 0),(.i 0),(.i 0)] [(0,1,.t 4),(1,1,.t 6),(2,1,.t 8)]),.m 2 9] .ret))
def r_lengths_alike_4:Oz Tryz.prog 170=some ⟨10,z7r.r,[.tmp 2]⟩:=Aa
def z7e:LC:=(.q [.x 1 0,.e 2] (.q [.f 3 1 1,.l 4 3,.f 5 5 1,.l 6 5,.z 7 (.buildSl 1 2 [(.i 0),(.i 0)] [(0,1,.t 4),(1,1,.t 6)]),.m 2 7] .ret))
def r_lengths_alike_5:Oz Tryz.prog 171=some ⟨8,z7e.r,[.tmp 2]⟩:=Aa
def z7x:LC:=(.q [.x 1 0,.e 2] (.q [.f 3 1 1,.l 4 3,.f 5 3 1,.l 6 5,.f 7 5 1,.l 8 7,.z 9 (.buildSl 1 3 [(.i 0),(.i 0),(.i 0)] [(0,1,.t 4),(1,1,.t 6),(2,1,.t 8)]),.m 2 9] .ret))
def r_lengths_alike_6:Oz Tryz.prog 172=some ⟨10,z7x.r,[.tmp 2]⟩:=Aa
def z7y:LC:=(.q [.F 4] (.seq (.draw [(.l 5 1,[]),(.m 6 0,[]),(.I 7 3 5 6,[]),(.f 8 0 7,[]),(.l 9 8,[]),(.l 10 1,[]),(.l 11 2,[]),(.z 12 (.ixAddr 1 (.t 11) (.k 0)),[]),(.l 13 12,[]),(.I 14 3 10 13,[]),(.f 15 0 14,[]),(.l 16 15,[]),(.c 17 .neq 3 9 16,[]),(.m 4 17,[])]) .ret))
def r_lengths_agree_1:Oz Tryz.prog 154=some ⟨18,z7y.r,[.tmp 4]⟩:=Aa
def kj:LC:=(.q [.x 2 0,.x 3 1,.F 4] (.seq (.draw [(.f 10 0 3,[]),(.l 11 10,[]),(.z 9 (.w 153 []),[(.l 11 10,false)]),(.z 12 (.lookup (.int .i64) .nilFn true (.t 9) (.t 11)),[]),(.m 8 12,[]),(.X 13 0 8,[]),(.X 14 1 8,[]),(.m 5 13,[]),(.m 6 14,[])]) (.seq (.q [.m 15 6,.z 16 (.un .not (.t 15))] (.cond (.t 16) (.q [.z 4 (.move .T)] .ret) .skip)) (.q [.m 17 5,.L 18 7 3,.z 19 (.callV (.t 17) [.t 18]),.z 7 (.alloc [.nilSl]),.S 1 7 19] (.q [.l 20 7,.z 21 (.mkFunc 154 [] [.t 2,.t 7]),.W 22 91 20 21,.z 23 (.un .not (.t 22)),.m 4 23] .ret)))))
def r_lengths_agree:Oz Tryz.prog 135=some ⟨24,kj.r,[.tmp 4]⟩:=Aa
def ke:List (LV×LV×Nat):=[(.i 6,.fn (.func 168) [] [],0),(.i 14,.fn (.func 169) [] [],1),(.i 8,.fn (.func 170) [] [],2),(.i 9,.fn (.func 171) [] [],3),(.i 10,.fn (.func 167) [] [],4),(.i 11,.fn (.func 167) [] [],5),(.i 12,.fn (.func 167) [] [],6),(.i 13,.fn (.func 172) [] [],7)]
def m8(k:vZ (.map P.length) (P++[.map ke 8 8])):Qa (.fn 153) [] P vZ:=by
 refine O0 r_lengths_alike Aa N ?_;simp[z9v];exact k
def zd4(o:Ko):Rd 167 [.agg o.f] (.lst ([o.d,o.a,o.b,o.c].map .i) 4 1):=by
 refine T2.mk Cm (O0 r_lengths_alike_1 Aa N ?_);simp[z7d,Ko.f,Ra,bor]
def zri(o:Ko):Rd 168 [.agg o.f] (.lst ([o.a,o.b].map .i) 2 1):=by
 refine T2.mk Cm (O0 r_lengths_alike_2 Aa N ?_);simp[z7z,Ko.f,Ra,bor]
def zsu(o:Ko):Rd 169 [.agg o.f] (.lst ([o.d,o.e].map .i) 2 1):=by
 refine T2.mk Cm (O0 r_lengths_alike_3 Aa N ?_);simp[z80,Ko.f,Ra,bor]
def zsz(o:Ko):Rd 170 [.agg o.f] (.lst ([o.d,o.a,o.b].map .i) 3 1):=by
 refine T2.mk Cm (O0 r_lengths_alike_4 Aa N ?_);simp[z7r,Ko.f,Ra,bor]
def zsy(o:Ko):Rd 171 [.agg o.f] (.lst ([o.d,o.c].map .i) 2 1):=by
 refine T2.mk Cm (O0 r_lengths_alike_5 Aa N ?_);simp[z7e,Ko.f,Ra,bor]
def zs3(o:Ko):Rd 172 [.agg o.f] (.lst ([o.d,o.a,o.c].map .i) 3 1):=by
 refine T2.mk Cm (O0 r_lengths_alike_6 Aa N ?_);simp[z7x,Ko.f,Ra,bor]
def su(g:List Vr)(v:Int):Prop:=0≤v∧v<g.length
def su.at{vs:List Vr}{v:Int}(h:su vs v):∃k:Nat,v=k∧k<vs.length∧vs[k]?=some (gv vs v.toNat):=by
 obtain⟨k,rfl⟩:=J3 h.1;have h2:=h.2;exact⟨k,rfl,J,by rw[Ky];exact Wm J⟩
def zp2{p q st:Nat}(v:Int)(j:P[p]?=some (.cells [.lst (Qx vE) vE.length 3] st))(z:P[q]?=some (.cells [.lst (vU.map .i) vU.length 1] g))
  (F:su vE v) (A:su vE (vU.headD 0)) (G:vU≠[]) (k:vZ (.bool (decide (Te vE v≠Te vE (vU.headD 0)))) P):Qa (.fn 154) [.i v,.ptr p 0,.ptr q 0] P vZ:=by
 refine O0 r_lengths_agree_1 Aa N ?_;cases vU with
 |nil=>exact absurd rfl G
 |cons y vU =>
  simp only[List.headD_cons]at A k;obtain⟨a,rfl,B,H⟩:=F.at;obtain⟨b,rfl,C,I⟩:=A.at;have D:=zqp H;have E:=zqp I;simp only[Ky]at D E;simp only[Te,Ky]at k;simp[z7y,j,z,B,C];simp[Ov D,Ov E,j,z,B,C];rw[←decide_not];exact k
def zo9(g:List Int)(x:Int→Int)(y:Int):(!(g.any λv=>decide (x v≠y)))=g.all λv=>decide (x v=y):=by
 induction g with
 |nil=>rfl
 |cons a g j =>
  simp only[List.any_cons,Mf,Bool.not_or,j];by_cases h:x a=y<;>simp[h]
def z8q(F:List Vr)(o:Ko)(M:∀v∈Ta o,su F v):O2 135 [.lst (Qx F) F.length 3,.agg o.f] (.bool (qh F o)) []:=by
 refine P4.val rfl (O0 r_lengths_agree Aa N ?_);have j:o.f=[.i o.kind,.i o.d,.i o.e,.i o.a,.i o.b,.i o.c,.u o.imm]:=rfl;have z:∀G:List Int,G≠[]→Ta o=G→∀{O:Ok} {p q st L:Nat} {Q:LV→Ok→Prop},O[p]?=some (.cells [.lst (Qx F) F.length 3] st)→O[q]?=some (.cells [.lst (G.map .i) G.length 1] L)→Q (.bool (!qh F o)) O →
   Qa (.fn 91) [.lst (G.map .i) G.length 1,.fn (.func 154) [] [.ptr p 0,.ptr q 0]] O Q:=by
  intro G P he O p q st L Q R T k;rw[he]at M;have U:su F (G.headD 0):=by
   cases G with
   |nil=>exact absurd rfl P
   |cons y G=>exact M y (Kx ..)
  have V:G.length≤9223372036854775807:=by
   rw[←he];unfold Ta;repeat' split
   all_goals simp
  refine z5g (p:=λv=>decide (Te F v≠Te F (G.headD 0))) V (λv hm Y X=>zp2 v R T (M v hm) U P X) ?_;have:=zo9 G (Te F) (Te F (G.headD 0));rw[←Bool.not_not (G.any _),this];rw[qh,he]at k;exact k
 by_cases H:o.kind=6
 ·have he:Ta o=[o.a,o.b]:=by simp[Ta,H]
  simp[kj,j,H];refine m8 ?_;simp[ke];have g:=zri o;rw[j,H]at g;refine Sx g rfl ?_;simp;refine z [o.a,o.b] N he rfl rfl ?_;simp
 by_cases A:o.kind=14
 ·have he:Ta o=[o.d,o.e]:=by simp[Ta,A]
  simp[kj,j,A];refine m8 ?_;simp[ke];have g:=zsu o;rw[j,A]at g;refine Sx g rfl ?_;simp;refine z [o.d,o.e] N he rfl rfl ?_;simp
 by_cases I:o.kind=8
 ·have he:Ta o=[o.d,o.a,o.b]:=by simp[Ta,I]
  simp[kj,j,I];refine m8 ?_;simp[ke];have g:=zsz o;rw[j,I]at g;refine Sx g rfl ?_;simp;refine z [o.d,o.a,o.b] N he rfl rfl ?_;simp
 by_cases K:o.kind=9
 ·have he:Ta o=[o.d,o.c]:=by simp[Ta,K]
  simp[kj,j,K];refine m8 ?_;simp[ke];have g:=zsy o;rw[j,K]at g;refine Sx g rfl ?_;simp;refine z [o.d,o.c] N he rfl rfl ?_;simp
 by_cases B:o.kind=10
 ·have he:Ta o=[o.d,o.a,o.b,o.c]:=by simp[Ta,B]
  simp[kj,j,B];refine m8 ?_;simp[ke];have g:=zd4 o;rw[j,B]at g;refine Sx g rfl ?_;simp;refine z [o.d,o.a,o.b,o.c] N he rfl rfl ?_;simp
 by_cases C:o.kind=11
 ·have he:Ta o=[o.d,o.a,o.b,o.c]:=by simp[Ta,C]
  simp[kj,j,C];refine m8 ?_;simp[ke];have g:=zd4 o;rw[j,C]at g;refine Sx g rfl ?_;simp;refine z [o.d,o.a,o.b,o.c] N he rfl rfl ?_;simp
 by_cases D:o.kind=12
 ·have he:Ta o=[o.d,o.a,o.b,o.c]:=by simp[Ta,D]
  simp[kj,j,D];refine m8 ?_;simp[ke];have g:=zd4 o;rw[j,D]at g;refine Sx g rfl ?_;simp;refine z [o.d,o.a,o.b,o.c] N he rfl rfl ?_;simp
 by_cases E:o.kind=13
 ·have he:Ta o=[o.d,o.a,o.c]:=by simp[Ta,E]
  simp[kj,j,E];refine m8 ?_;simp[ke];have g:=zs3 o;rw[j,E]at g;refine Sx g rfl ?_;simp;refine z [o.d,o.a,o.c] N he rfl rfl ?_;simp
 have he:Ta o=[]:=by simp[Ta,H,A,I,K,B,C,D,E]
 simp[kj,j,H,A,I,K,B,C,D,E];refine m8 ?_;simp[ke,H,A,I,K,B,C,D,E];simp[qh,he]
def z46:LC:=(.q [.e 2] (.seq (.q [.m 3 0,.z 4 (.bin .eql true 81 (.t 3) (.c .nilSl))] (.cond (.t 4) (.q [.e 2] .ret) .skip)) (.q [.z 5 (.buildSl 1 0 [] []),.m 6 0,.a 7 1 5 6,.m 2 7] .ret)))
def r_slices_Clone_int_int:Oz Tryz.prog 138=some ⟨8,z46.r,[.tmp 2]⟩:=Aa
def z37:LC:=(.q [.e 4] (.q [.m 8 0,.m 9 1,.W 10 136 8 9,.m 5 10] (.seq (.q [.m 11 5,.b 12 .eql 3 11 (-1)] (.cond (.t 12) (.q [.m 13 0,.m 4 13] .ret) .skip)) (.seq (.q [.m 14 5,.b 15 .add 3 14 1,.m 6 15] (.block 0 (.loop (.seq (.q [.m 16 6,.m 17 0,.s 18 17,.c 19 .lss 3 16 18] (.cond (.t 19) .skip (.exit 0))) (.seq (.block 1 (.q [.m 22 0,.m 23 6,.I 24 1 22 23,.l 25 24,.m 7 25] (.q [.m 26 1,.m 27 7,.z 28 (.callV (.t 26) [.t 27]),.z 29 (.un .not (.t 28))] (.cond (.t 29) (.q [.m 30 0,.m 31 5,.m 32 7,.I 33 1 30 31,.S 1 33 32] (.ops [.m 34 5,.b 35 .add 3 34 1,.m 5 35])) .skip)))) (.ops [.m 20 6,.b 21 .add 3 20 1,.m 6 21])))))) (.q [.m 36 0,.m 37 5,.z 38 (.slSl 1 (.t 36) (some (.t 37)) none),.v (.clear 1 [(.i 0)] (.t 38))] (.q [.m 39 0,.m 40 5,.z 41 (.slSl 1 (.t 39) none (some (.t 40))),.m 4 41] .ret))))))
def r_slices_DeleteFunc_int_int:Oz Tryz.prog 137=some ⟨42,z37.r,[.tmp 4]⟩:=Aa
def z7l:LC:=(.q [.F 2] (.q [.m 3 0,.b 4 .lss 3 3 0,.m 2 4] .ret))
def r_lengths_takes_1:Oz Tryz.prog 139=some ⟨5,z7l.r,[.tmp 2]⟩:=Aa
def z9k:LC:=(.q [.x 1 0,.e 2] (.q [.L 5 7 1,.w 6 133 5,.z 3 (.alloc [(.i 0),(.i 0),(.i 0),(.i 0),(.i 0)]),.S 5 3 6] (.q [.z 7 (.slArr 5 1 (.t 3) (some (.k 2)) none),.w 8 138 7,.z 9 (.w 137 [.t 8,(.c (.fn (.func 139) [] []))]),.m 4 9] (.seq (.q [.f 10 0 1,.l 11 10,.b 12 .eql 3 11 14] (.cond (.t 12) (.ops [.m 13 4,.f 14 1 1,.l 15 14,.f 16 2 1,.l 17 16,.z 18 (.buildSl 1 2 [(.i 0),(.i 0)] [(0,1,.t 15),(1,1,.t 17)]),.a 19 1 13 18,.m 4 19]) .skip)) (.q [.m 20 4,.m 2 20] .ret)))))
def r_lengths_takes:Oz Tryz.prog 92=some ⟨21,z9k.r,[.tmp 2]⟩:=Aa
def sl_nil:Tg Tryz.prog true 81 .nilSl .nilSl=some true:=Aa
def zx3{l:List Int}(g:l.length≤1048576)(j:l≠[])(k:vZ (.dy P.length 1) (P++[.dyn (l.map .i) l.length 1 1 1])):Qa (.fn 138) [.lst (l.map .i) l.length 1] P vZ:=by
 refine O0 r_slices_Clone_int_int Aa N ?_;simp[z46,sl_nil,g,j];exact k
def zju{l:List Int}{f:Nat}{p:Int→Bool}(g:l.length≤9223372036854775807)
  (j:∀v∈l,O2 f [.i v] (.bool (p v)) []):O2 136 [.lst (l.map .i) l.length 1,.fn (.func f) [] []] (.i (Zp p l)) [] :=
 P4.val rfl (zcg g (λv z A k=>by
  simp only[N0,Lf];exact Pm (j v z) (bors_self _ rfl) k) rfl)
def zhh{q k st:Nat}{l:List Int}{f:Nat}{p:Int→Bool}(hl:l.length≤9223372036854775807)(L:P[q]?=some (.dyn (l.map .i) l.length 1 k st))
  (X:∀v,O2 f [.i v] (.bool (p v)) []) (k0:l.filter (λv=>!p v)=l→vZ (.dy q k) P)
  (k1:∀(m:Nat) (gg:List LV) (g:Nat),m=(l.filter (λv=>!p v)).length→gg.length=l.length→gg.take m=(l.filter (λv=>!p v)).map .i→dats gg=true→vZ (.vw q k 0 m) (P.set q (.dyn gg l.length 1 k g))) :
  Qa (.fn 137) [.dy q k,.fn (.func f) [] []] P vZ:=by
 refine O0 r_slices_DeleteFunc_int_int Aa (by simp) ?_;have M:q<P.length:=(Jx.1 L).1;have O:∀l:List Int,dats (l.map .i)=true:=λl=>ug (λ_=>rfl) l
 have z:∀Q,(P.set q Q)[q]?=some Q:=λQ=>J1 M
 have A:P.set q (.dyn (l.map .i) l.length 1 k st)=P:=zrb L;simp[z37];refine Pm (zju hl λv _=>X v) (by simp[bors,bor,LV.dat,dats,L,O]) ?_;rcases zuc p l with ⟨R,H⟩|⟨I,R,gA,H⟩
 ·simp[R];exact k0 H
 have n1:¬((I:Int)=-1):=J
 simp[R,n1];refine⟨J,?_⟩;refine Ql (λY gD Z N=>∃(i j:Nat) (c:List Int) (g:Nat),gD=[]∧Z=P.set q (.dyn (c.map .i) l.length 1 k g)∧N+j=l.length∧i<j∧j≤l.length∧lk Y 0=.dy q k∧lk Y 1=.fn (.func f) [] []∧lk Y 5=.i i∧lk Y 6=.i j ∧
   c.length=l.length∧i=((l.take j).filter (λv=>!p v)).length∧c.take i=(l.take j).filter (λv=>!p v)∧∀u,j≤u→gd c u=gd l u)
  (N:=l.length-(I+1)) ⟨I,I+1,l,st,rfl,A.symm,J,J,J,by simp,by simp,by simp,by simp,rfl,by rw[H];simp;omega,H.symm,λu _=>rfl⟩ ?_
 rintro N Y gD Z ⟨i,j,c,g,rfl,rfl,hN,gB,hj,C,D,E,F,T,hi,K,U⟩ Nx G;by_cases gC:j<l.length
 ·have g2:i<l.length:=J
  have V:=Wz (f:=LV.i) (Ys (l:=c) (u:=j) J);have eg:=U j (J4 _);simp[C,D,E,F,z,gC];simp[Ov V,C,D,E,F,z,gC,eg];refine Pm (X (gd l j)) (by simp) ?_;have B:=zko (p:=p) gC;cases hb:p (gd l j) with
  |true =>
   rw[hb]at B;simp only[M5,Lf]at B;simp[F]
   repeat (refine⟨J,?_⟩)
   exact G _ _ _ ⟨N-1,J,i,j+1,c,g,rfl,rfl,J,J,J,As,Ae,Ak,by simp,T,by rw[B];exact hi,by rw[B];exact K,λu hu=>U u J⟩
  |false =>
   rw[hb,J2 (by simp)]at B;simp[C,D,E,F,z,g2];rw[zov _ _ _ J]
   repeat (refine⟨J,?_⟩)
   refine G _ _ _ ⟨N-1,J,i+1,j+1,_,_,rfl,rfl,J,J,J,As,Ae,by simp,by simp,by simpa using T,?_,?_,λu hu=>?_⟩
   ·rw[B,J7,←hi];rfl
   ·rw[B,zj8 J,K]
   ·rw[znz (j:=j+1) J J u hu,U u J]
 ·have ej:j=l.length:=J
  subst ej;rw[My]at hi K;simp[C,D,E,F,z]
  repeat (refine⟨J,?_⟩)
  refine k1 i _ _ hi ?_ ?_ ?_
  ·rw[zsx (by rw[z66];simp;omega)];simp[T]
  ·rw[fc Ab,←List.map_take,K]
  ·unfold Po;exact dats_app (dats_app (dats_take _ (O c)) (zql rfl _)) (dats_drop _ (O c))
def zs0(v:Int):O2 139 [.i v] (.bool (decide (v<0))) []:=by
 refine P4.val rfl (O0 r_lengths_takes_1 Aa N ?_);simp[z7l]
def z8o(o:Ko)(h:o.kind=14→o.a=-1∧o.b=-1):Rd 92 [.agg o.f] (.lst ((U1 o).map .i) (U1 o).length 1):=by
 have I:∀l:List Int,dats (l.map .i)=true:=λl=>ug (λ_=>rfl) l
 refine T2.mk (by simp[LV.dat,I]) (O0 r_lengths_takes Aa N ?_);have z:o.f=[.i o.kind,.i o.d,.i o.e,.i o.a,.i o.b,.i o.c,.u o.imm]:=rfl;simp[z9k,z];rw[←z];refine Pm (z8v o) (bors_self _ rfl) ?_;simp;refine zx3 (l:=[o.a,o.b,o.c]) N N ?_;simp;have F:([o.a,o.b,o.c].filter λv=>!decide (v<0)).length≤3:=List.length_filter_le _ _;refine zhh (l:=[o.a,o.b,o.c]) (p:=λv=>decide (v<0)) N rfl zs0 (λhw=>?_) (λm E K hm G H hd=>?_)
 ·by_cases g:o.kind=14
  ·have:=List.filter_eq_self.1 hw o.a N;rw[(h g).1]at this;simp at this
  ·have e:U1 o=[o.a,o.b,o.c]:=by unfold U1;rw[hw,J2 g];rfl
   simp[z,g,e,Ra,bor,dats,LV.dat]
 ·by_cases g:o.kind=14
  ·have e:U1 o=([o.a,o.b,o.c].filter λv=>!decide (v<0))++[o.d,o.e]:=by unfold U1;rw[J8 g]
   have A:m≤1:=by
    rw[hm,(h g).1,(h g).2];simp;by_cases L:0≤o.c<;>simp[L]
   have j:E.length=3:=G;simp[z,g,j,A,dats,LV.dat];rw[e];have B:(([o.a,o.b,o.c].filter λv=>!decide (v<0))++[o.d,o.e]).length=m+2:=by rw[J7,←hm];rfl
   have M:(([o.a,o.b,o.c].filter λv=>!decide (v<0))++[o.d,o.e]).map LV.i=E.take m++[.i o.d,.i o.e]:=by rw[Ni,H];rfl
   have C:(E.take m++[LV.i o.d,LV.i o.e]).length=m+2:=by rw[J7,Me];simp;omega
   have O:dats (E.take m++[LV.i o.d,LV.i o.e])=true:=dats_app (dats_take _ hd) rfl;have D:(Po E m [.i o.d,.i o.e]).length=3:=by unfold Po;simp;omega
   rw[M,B];refine⟨J,⟨_,_,_,⟨?_,rfl,rfl⟩,⟨rfl,rfl,rfl⟩,?_,?_⟩,⟨_,_,_,⟨rfl,rfl,rfl⟩,⟨rfl,rfl,rfl⟩,O⟩⟩
   ·unfold Po;rw[Nl];exact (Mr C).symm
   ·rw[D];omega
   ·unfold Po;exact dats_app (dats_app (dats_take _ hd) rfl) (dats_drop _ hd)
  ·have e:U1 o=[o.a,o.b,o.c].filter λv=>!decide (v<0):=by unfold U1;rw[J2 g,Lf]
   simp[z,g,dats,LV.dat];rw[e,←H,←hm];have j:E.length=3:=G;simp[Ra,bor,hd];exact⟨_,_,_,⟨by rw[Nl],rfl⟩,⟨rfl,rfl,rfl⟩,by rw[j];omega,hd⟩
def z9z:LC:=(.q [.F 3] (.q [.l 4 1,.m 5 0,.I 6 3 4 5,.f 7 1 6,.l 8 7,.m 3 8] .ret))
def r_lengths_one_1:Oz Tryz.prog 134=some ⟨9,z9z.r,[.tmp 3]⟩:=Aa
def z8i:LC:=(.q [.x 2 0,.x 3 1,.F 4] (.seq (.q [.f 13 0 3,.l 14 13,.b 15 .eql 3 14 17] (.cond (.t 15) (.q [.l 16 2,.L 17 7 3,.W 18 88 16 17,.m 4 18] .ret) .skip)) (.q [.f 20 0 3,.l 21 20,.w 22 131 21,.m 19 22,.X 23 0 19,.X 24 1 19,.m 5 23,.m 6 24] (.seq (.q [.m 25 6,.z 26 (.un .not (.t 25)),.m 27 26,.n 28 27 (.loadN 7 (.t 3)),.n 29 27 (.w 132 [.t 28]),.n 30 27 (.un .not (.t 29)),.p 31 27 30] (.cond (.t 31) (.q [.F 4] .ret) .skip)) (.seq (.q [.L 32 7 3,.w 33 133 32,.K 34 0] (.block 0 (.loop (.q [.b 35 .lss 3 34 5] (.seq (.cond (.t 35) .skip (.exit 0)) (.seq (.block 1 (.q [.m 36 34,.z 37 (.ixArr false 5 1 (.t 33) (.t 34)),.m 7 36,.m 8 37] (.q [.m 38 5,.m 39 7,.c 40 .shr 3 38 39,.b 41 .and 3 40 1,.b 42 .eql 3 41 1,.m 9 42] (.q [.m 43 9,.m 44 43,.my 45 44 8,.y 46 44 (.bin .lss true 3 (.t 45) (.k 0)),.my 47 44 46,.mn 48 47 8,.nl 49 47 2,.n 50 47 (.lenSl (.t 49)),.n 51 47 (.bin .geq false 3 (.t 48) (.t 50)),.y 52 44 (.pick (.t 47) .T (.t 51)),.q 53 44 52,.m 54 53,.mn 55 54 9,.n 56 54 (.un .not (.t 55)),.mn 57 54 56,.my 58 57 8,.y 59 57 (.bin .neq true 3 (.t 58) (.k (-1))),.n 60 54 (.pick (.t 57) (.t 59) .F),.p 61 54 60] (.cond (.t 61) (.q [.F 4] .ret) .skip))))) (.ops [.b 62 .add 3 34 1,.m 34 62]))))))) (.q [.L 63 7 3,.w 64 92 63,.z 65 (.mkFunc 134 [] [.t 2]),.W 66 91 64 65,.m 10 66] (.seq (.q [.f 67 1 3,.l 68 67,.f 69 2 3,.l 70 69,.z 71 (.buildSl 1 2 [(.i 0),(.i 0)] [(0,1,.t 68),(1,1,.t 70)]),.s 72 71,.K 73 0] (.block 2 (.loop (.q [.c 74 .lss 3 73 72] (.seq (.cond (.t 74) .skip (.exit 2)) (.seq (.block 3 (.q [.I 75 1 71 73,.l 76 75,.m 12 76] (.q [.m 77 12,.b 78 .geq 3 77 0,.m 79 78,.yl 80 79 2,.my 81 79 12,.y 82 79 (.ixAddr 3 (.t 80) (.t 81)),.y 83 79 (.loadN 3 (.t 82)),.y 84 79 (.w 89 [.t 83]),.my 85 79 84,.mn 86 85 10,.mn 87 85 86,.yl 88 87 2,.my 89 87 12,.y 90 87 (.ixAddr 3 (.t 88) (.t 89)),.yf 91 87 1 90,.yl 92 87 91,.y 93 87 (.un .not (.t 92)),.n 94 85 (.pick (.t 87) (.t 93) .F),.y 95 79 (.pick (.t 85) .T (.t 94)),.q 96 79 95] (.cond (.t 96) (.q [.F 4] .ret) .skip)))) (.ops [.b 97 .add 3 73 1,.m 73 97]))))))) (.q [.f 98 2 3,.l 99 98,.b 100 .lss 3 99 0,.m 101 100,.nf 102 101 1 3,.nl 103 101 102,.nf 104 101 2 3,.nl 105 101 104,.n 106 101 (.bin .neq false 3 (.t 103) (.t 105)),.p 107 101 106,.m 108 107,.yl 109 108 2,.y 110 108 (.loadN 7 (.t 3)),.y 111 108 (.w 135 [.t 109,.t 110]),.q 112 108 111,.m 4 112] .ret))))))))
def r_lengths_one:Oz Tryz.prog 90=some ⟨113,z8i.r,[.tmp 4]⟩:=Aa
def zxc{p st:Nat}(v:Int)(j:P[p]?=some (.cells [.lst (Qx vE) vE.length 3] st))(z:su vE v)(k:vZ (.bool (gv vE v.toNat).sec) P):Qa (.fn 134) [.i v,.ptr p 0] P vZ:=by
 refine O0 r_lengths_one_1 Aa N ?_;obtain⟨a,rfl,A,B⟩:=z.at;have g:=zq2 B;simp only[Ky]at g k;simp[z9z,j,A];simp[Ov g];exact k
def zhv(g:List Vr)(o:Ko):O2 90 [.lst (Qx g) g.length 3,.agg o.f] (.bool (Rg g o)) []:=by
 refine P4.val rfl (O0 r_lengths_one Aa (by simp) ?_);have C:o.f=[.i o.kind,.i o.d,.i o.e,.i o.a,.i o.b,.i o.c,.u o.imm]:=rfl;by_cases z:o.kind=17
 ·simp[z8i,C,z];have hf:=z94 (Qx g) g.length o;rw[C,z]at hf;refine Pm hf (bors_self _ Do) ?_;simp[Rg,z]
 simp[z8i,C,z];refine Pm (zeb o.kind) (by simp) ?_;cases M:R5 o.kind with
 |none=>simp[Rg,z,M]
 |some s =>
 simp;rw[←C];refine Pm (zdj o) (bors_self _ rfl) ?_;cases hn:Um o with
 |false=>simp[Rg,z,M,hn]
 |true =>
 simp[C];rw[←C];refine Pm (z8v o) (bors_self _ rfl) ?_;have gD:=zu9 M;simp;refine Ql (λZ gF gG N=>∃i:Nat,gF=[]∧gG=[.cells [.lst (Qx g) g.length 3] 0,.cells o.f 0]∧N+i=5∧lk Z 2=.ptr 0 0∧lk Z 3=.ptr 1 0∧lk Z 5=.i s∧lk Z 33=.agg ((Xs o).map .i)∧lk Z 34=.i i∧∀O,O<i→Ub g.length s O (gd (Xs o) O)=true) (N:=5) ⟨0,by simp[Xs]⟩ ?_;rintro N Z gF gG ⟨i,rfl,rfl,hN,B,H,h5,P,gg,hp⟩ Nx I;by_cases hi:5≤i
 case neg =>
  have gB:(i:Int)<5:=J
  have g2:i<5:=J
  have hg:=Wz (f:=LV.i) (Ys (l:=Xs o) (u:=i) g2);have A:Ub g.length s i (gd (Xs o) i)=true→∀O,O<i+1→Ub g.length s O (gd (Xs o) O)=true:=λh O hj=>by
   by_cases e:O=i
   ·rw[e];exact h
   ·exact hp O J
  have K:Ub g.length s i (gd (Xs o) i)=false→Rg g o=false:=λh=>by
   simp[Rg,z,M,zul g2 h]
  have pb:=ie s i;generalize gd (Xs o) i=v at *;have T:0≤(s:Int)/2^i:=Int.ediv_nonneg J (Int.pow_nonneg J);have e1:(s:Int)/2^i<9223372036854775808:=Int.lt_of_le_of_lt (Int.ediv_le_self _ J) J;have em:max ((s:Int)/2^i) 0=(s:Int)/2^i:=J
  simp[B,H,h5,P,gg,gB,Ov hg,em,T,e1,pb];refine⟨J,λU=>⟨λv0=>?_,λv0=>⟨λv1=>?_,λv1=>?_⟩⟩,λU=>?_⟩
  ·exact K Gk
  ·exact K Gk
  ·simp only[U,zkc];exact⟨J,I _ _ _ ⟨N-1,J,i+1,rfl,rfl,J,Aw,Am,by simp[h5],by simp[P],by simp,A Gk⟩⟩
  ·simp only[U,zh5];exact⟨λV=>⟨J,I _ _ _ ⟨N-1,J,i+1,rfl,rfl,J,Aw,Am,by simp[h5],by simp[P],by simp,A (by simp[Ub,U,V])⟩⟩,λV=>K (by simp[Ub,U,V])⟩
 have X:Vt g.length s o=true:=zrt λO hj=>hp O J
 have L:=zr1 M X;have gB:¬(i:Int)<5:=J
 simp[B,H,P,gg,gB,C];rw[←C];refine Sx (z8o o L.swap) rfl ?_;simp;have gC:(U1 o).length≤9223372036854775807:=by
  have h1:([o.a,o.b,o.c].filter λv=>!decide (v<0)).length≤3:=List.length_filter_le _ _;unfold U1;split<;>simp at h1 ⊢<;>omega
 rw[B];refine z5g (p:=λv=>(gv g v.toNat).sec) gC (λv V K' k=>zxc v rfl (L.takes v V) k) ?_;rw[show (U1 o).any (λv=>(gv g v.toNat).sec)=S4 g o from rfl];simp[B,H,C];refine Ql (λZ gF gG N=>∃i:Nat,gF=[]∧gG=[.cells [.lst (Qx g) g.length 3] 0,.cells o.f 0,.dyn ([o.d,o.e].map .i) 2 1 0 0]∧N+i=2∧lk Z 2=.ptr 0 0∧lk Z 3=.ptr 1 0∧lk Z 10=.bool (S4 g o)∧lk Z 71=.dy 2 0∧lk Z 72=.i 2∧lk Z 73=.i i∧∀O,O<i→Wu g (S4 g o) (gd [o.d,o.e] O)=true) (N:=2) ⟨0,by simp[B,H,C]⟩ ?_;rintro N Z gF gG ⟨i,rfl,rfl,hN,B,H,D,E,F,G,hp⟩ Nx I;by_cases hi:2≤i
 case neg =>
  have gB:(i:Int)<2:=J
  have g2:i<2:=J
  have hg:=Wz (f:=LV.i) (Ys (l:=[o.d,o.e]) (u:=i) g2);have A:Wu g (S4 g o) (gd [o.d,o.e] i)=true→∀O,O<i+1→Wu g (S4 g o) (gd [o.d,o.e] O)=true:=λh O hj=>by
   by_cases e:O=i
   ·rw[e];exact h
   ·exact hp O J
  have K:Wu g (S4 g o) (gd [o.d,o.e] i)=false→Rg g o=false:=λh=>by
   have Y:i=0∨i=1:=J
   rcases Y with rfl|rfl
   ·have h:Wu g (S4 g o) o.d=false:=h;simp[Rg,z,M,h]
   ·have h:Wu g (S4 g o) o.e=false:=h;simp[Rg,z,M,h]
  have gA:gd [o.d,o.e] i=-1∨su g (gd [o.d,o.e] i):=by
   have Y:i=0∨i=1:=J
   rcases Y with rfl|rfl
   ·exact L.d
   ·exact L.e
  generalize gd [o.d,o.e] i=v at *;simp only[Mp,List.map_nil]at hg;rcases gA with rfl|V
  ·simp[B,H,D,E,F,G,gB,Ov hg];exact⟨J,I _ _ _ ⟨N-1,J,i+1,rfl,rfl,J,Aw,Am,Ae,Ak,Ao,by simp,A (by simp[Wu])⟩⟩
  ·obtain⟨k,rfl,hk,ek⟩:=V.at;have q3:=zcp ek;have q1:=zq2 ek;have hq:=zoa hk;simp only[Ky]at q1 q3;simp[B,H,D,E,F,G,gB,Ov hg,hk,q3,hq];refine Pm (z8w (gv g k)) (bors_self _ rfl) ?_;cases Q:Ti (gv g k) with
   |true =>
    simp;exact K (by simp[Wu,Q])
   |false =>
    cases j:S4 g o with
    |false =>
     simp[B,D,G,j];exact⟨J,I _ _ _ ⟨N-1,J,i+1,rfl,rfl,J,Aw,Am,by simp[D,j],Ak,Ao,by simp,A (by simp[Wu,Q,j])⟩⟩
    |true =>
     cases R:(gv g k).sec with
     |false =>
      simp[B,D,G,j,hk,Ov q1,R];exact K (by simp[Wu,Q,j,R])
     |true =>
      simp[B,D,G,j,hk,Ov q1,R];exact⟨J,I _ _ _ ⟨N-1,J,i+1,rfl,rfl,J,Aw,Am,by simp[D,j],Ak,Ao,by simp,A (by simp[Wu,Q,j,R])⟩⟩
 have gB:¬(i:Int)<2:=J
 have od:Wu g (S4 g o) o.d=true:=hp 0 J;have oe:Wu g (S4 g o) o.e=true:=hp 1 J;by_cases T:o.e<0
 ·simp[B,H,E,F,G,gB,C,T];rw[←C];refine Pm (z8q g o L.alike) (bors_self _ (by simp[dats,LV.dat,Tb,C])) ?_;simp[Rg,z,M,hn,X,od,oe,T]
 ·by_cases e1:o.d=o.e
  ·simp[B,H,E,F,G,gB,C,T,e1];simp[Rg,z,M,T,e1]
  ·simp[B,H,E,F,G,gB,C,T,e1];rw[←C];refine Pm (z8q g o L.alike) (bors_self _ (by simp[dats,LV.dat,Tb,C])) ?_;simp[Rg,z,M,hn,X,od,oe,T,e1]
def zb3:LC:=(.q [.F 2] (.q [.K 3 0] (.seq (.q [.m 6 0,.s 7 6,.K 8 0] (.block 0 (.loop (.q [.c 9 .lss 3 8 7] (.seq (.cond (.t 9) .skip (.exit 0)) (.seq (.block 1 (.q [.m 10 8,.I 11 3 6 8,.L 12 3 11,.z 5 (.alloc [(.i 0),(.bool false),(.i 0)]),.m 4 10,.S 3 5 12] (.seq (.q [.f 13 0 5,.l 14 13,.b 15 .lss 3 14 1,.m 16 15,.nf 17 16 0 5,.nl 18 16 17,.nb 19 16 .gtr 3 18 512,.p 20 16 19,.m 21 20,.nf 22 21 2 5,.nl 23 21 22,.nb 24 21 .lss 3 23 0,.p 25 21 24,.m 26 25,.nf 27 26 2 5,.nl 28 26 27,.nb 29 26 .gtr 3 28 3,.p 30 26 29] (.cond (.t 30) (.q [.F 2] .ret) .skip)) (.seq (.q [.f 31 2 5,.l 32 31,.b 33 .eql 3 32 0] (.cond (.t 33) (.exit 1) .skip)) (.seq (.q [.m 34 3,.m 35 4,.c 36 .lss 3 34 35,.m 37 36,.nf 38 37 1 5,.nl 39 37 38,.nf 40 37 2 5,.nl 41 37 40,.nb 42 37 .neq 3 41 1,.n 43 37 (.bin .neq false 4 (.t 39) (.t 42)),.p 44 37 43] (.cond (.t 44) (.q [.F 2] .ret) .skip)) (.ops [.m 45 3,.b 46 .add 3 45 1,.m 3 46])))))) (.ops [.b 47 .add 3 8 1,.m 8 47]))))))) (.q [.m 48 0,.s 49 48,.b 50 .geq 3 49 1,.m 51 50,.my 52 51 0,.y 53 51 (.lenSl (.t 52)),.y 54 51 (.bin .leq true 3 (.t 53) (.k 256)),.q 55 51 54,.m 56 55,.my 57 56 3,.y 58 56 (.bin .leq true 3 (.t 57) (.k 12)),.q 59 56 58,.m 2 59] .ret))))
def r_lengths_vars:Oz Tryz.prog 86=some ⟨60,zb3.r,[.tmp 2]⟩:=Aa
def zga(g:List Vr)(hl:g.length≤9223372036854775807):O2 86 [.lst (Qx g) g.length 3] (.bool (To g)) []:=by
 refine P4.val rfl (O0 r_lengths_vars Aa (by simp) ?_);simp[zb3];refine Ql (λX gg gA N=>∃i p:Nat,gg=[]∧N+i=g.length∧p≤i∧lk X 0=.lst (Qx g) g.length 3∧lk X 3=.i p∧lk X 6=.lst (Qx g) g.length 3∧lk X 7=.i g.length∧lk X 8=.i i∧V6 i p (g.drop i)=V6 0 0 g) (N:=g.length) ⟨0,0,by simp⟩ ?_;rintro N X gg gA ⟨i,p,rfl,hN,Z,A,E,B,C,G,O⟩ Nx T;by_cases Q:i<g.length
 ·have hg:=Wm Q;have I:=zcp hg;have K:=zoa Q;rw[znt Q]at O;have L:(gv g i).f=[.i (gv g i).limbs,.bool (gv g i).sec,.i (gv g i).mode]:=rfl;generalize gv g i=v at *;have D:V6 i p (v::g.drop (i+1))=none→To g=false:=λh=>by rw[h]at O;simp[To,←O]
  by_cases j:v.limbs<1
  ·simp[A,E,B,C,G,Q,I,K,L,j];exact D (by simp[V6,Zo,j])
  by_cases z:512<v.limbs
  ·simp[A,E,B,C,G,Q,I,K,L,j,z];exact D (by simp[V6,Zo,j,z])
  by_cases F:v.mode<0
  ·simp[A,E,B,C,G,Q,I,K,L,j,z,F];exact D (by simp[V6,Zo,j,z,F])
  by_cases H:3<v.mode
  ·simp[A,E,B,C,G,Q,I,K,L,j,z,F,H];exact D (by simp[V6,Zo,j,z,F,H])
  by_cases M:v.mode=0
  ·simp[A,E,B,C,G,Q,I,K,L,j,z,F,H,M];refine⟨J,T _ _ _ ⟨N-1,J,i+1,p,rfl,J,J,At,Ak,Aw,As,by simp,?_⟩⟩;rw[←O];simp[V6,Zo,j,z,F,H,M]
  by_cases R:p<i
  ·simp[A,E,B,C,G,Q,I,K,L,j,z,F,H,M,R];exact D (by simp[V6,Zo,j,z,F,H,M,R])
  by_cases U:v.sec=decide (v.mode=1)
  ·simp[A,E,B,C,G,Q,I,K,L,j,z,F,H,M,R,eqbP,U];exact D (by simp[V6,Zo,j,z,F,H,M,R,U])
  ·have b8:v.sec=!decide (v.mode=1):=by cases hs:v.sec<;>cases hm:decide (v.mode=1)<;>simp_all
   simp[A,E,B,C,G,Q,I,K,L,j,z,F,H,M,R,eqbP,b8];refine⟨J,J,T _ _ _ ⟨N-1,J,i+1,p+1,rfl,J,J,At,by simp,Aw,As,by simp,?_⟩⟩;rw[←O];simp[V6,Zo,j,z,F,H,M,R,U]
 ·have ei:i=g.length:=J
  rw[Lv J]at O;have P:V6 0 0 g=some p:=by rw[←O];rfl
  by_cases V:1≤g.length
  ·by_cases Y:g.length≤256
   ·simp[A,E,B,C,G,Q,To,P,V,Y];omega
   ·simp[A,E,B,C,G,Q,To,P,V,Y];omega
  ·simp[A,E,B,C,G,Q,To,P,V];omega
def z4h:LC:=(.q [.F 3] (.q [.m 4 0,.b 5 .geq 3 4 0,.m 6 5,.yf 7 6 0 1,.yl 8 6 7,.my 9 6 0,.y 10 6 (.ixAddr 3 (.t 8) (.t 9)),.yf 11 6 2 10,.yl 12 6 11,.y 13 6 (.bin .eql true 3 (.t 12) (.k 3)),.q 14 6 13,.m 3 14] .ret))
def r_lengths_Check_1:Oz Tryz.prog 87=some ⟨15,z4h.r,[.tmp 3]⟩:=Aa
def z7t:LC:=(.q [.F 3] (.q [.l 4 1,.m 5 0,.I 6 1 4 5,.l 7 6,.z 8 (.un .not (.t 7)),.m 3 8] .ret))
def r_lengths_Check_2:Oz Tryz.prog 93=some ⟨9,z7t.r,[.tmp 3]⟩:=Aa
def z98:LC:=(.q [.x 1 0,.K 2 0] (.seq (.q [.f 13 0 1,.l 14 13,.w 15 86 14,.z 16 (.un .not (.t 15)),.m 17 16,.nf 18 17 1 1,.nl 19 17 18,.n 20 17 (.lenSl (.t 19)),.nb 21 17 .gtr 3 20 4096,.p 22 17 21,.m 23 22,.nf 24 23 2 1,.nl 25 23 24,.n 26 23 (.lenSl (.t 25)),.nb 27 23 .gtr 3 26 4096,.p 28 23 27] (.cond (.t 28) (.q [.K 2 2] .ret) .skip)) (.q [.z 29 (.mkFunc 87 [] [.t 1]),.m 3 29] (.seq (.q [.f 30 2 1,.l 31 30,.s 32 31,.K 33 0] (.block 0 (.loop (.q [.c 34 .lss 3 33 32] (.seq (.cond (.t 34) .skip (.exit 0)) (.seq (.block 1 (.q [.I 35 7 31 33,.L 36 7 35,.z 5 (.alloc [(.i 0),(.i 0),(.i 0),(.i 0),(.i 0),(.i 0),(.u 0)]),.S 7 5 36] (.q [.f 37 0 5,.l 38 37,.b 39 .neq 3 38 17,.m 40 39,.nf 41 40 0 1,.nl 42 40 41,.n 43 40 (.loadN 7 (.t 5)),.n 44 40 (.w 88 [.t 42,.t 43]),.n 45 40 (.un .not (.t 44)),.p 46 40 45,.m 47 46,.mn 48 47 3,.nf 49 47 3 5,.nl 50 47 49,.n 51 47 (.callV (.t 48) [.t 50]),.p 52 47 51,.m 53 52,.mn 54 53 3,.nf 55 53 4 5,.nl 56 53 55,.n 57 53 (.callV (.t 54) [.t 56]),.p 58 53 57] (.cond (.t 58) (.q [.K 2 2] .ret) .skip)))) (.ops [.b 59 .add 3 33 1,.m 33 59]))))))) (.q [.f 60 0 1,.l 61 60,.s 62 61,.z 63 (.mkSl 1 [(.bool false)] (.t 62) (.t 62)),.z 6 (.alloc [.nilSl]),.S 1 6 63] (.seq (.q [.f 64 0 1,.l 65 64,.s 66 65,.K 67 0] (.block 2 (.loop (.q [.c 68 .lss 3 67 66] (.seq (.cond (.t 68) .skip (.exit 2)) (.seq (.block 3 (.q [.m 69 67,.I 70 3 65 67,.L 71 3 70,.z 8 (.alloc [(.i 0),(.bool false),(.i 0)]),.m 7 69,.S 3 8 71] (.draw [(.l 72 6,[]),(.m 73 7,[]),(.L 74 3 8,[]),(.w 75 89 74,[(.l 72 6,false)]),(.I 76 1 72 73,[]),(.S 1 76 75,[])]))) (.ops [.b 77 .add 3 67 1,.m 67 77]))))))) (.q [.K 9 0] (.seq (.q [.f 78 1 1,.l 79 78,.s 80 79,.K 81 0] (.block 4 (.loop (.q [.c 82 .lss 3 81 80] (.seq (.cond (.t 82) .skip (.exit 4)) (.seq (.block 5 (.q [.I 83 7 79 81,.L 84 7 83,.z 11 (.alloc [(.i 0),(.i 0),(.i 0),(.i 0),(.i 0),(.i 0),(.u 0)]),.S 7 11 84] (.seq (.q [.f 85 0 1,.l 86 85,.L 87 7 11,.W 88 90 86 87,.z 89 (.un .not (.t 88)),.m 90 89,.n 91 90 (.loadN 7 (.t 11)),.n 92 90 (.w 92 [.t 91]),.n 93 90 (.mkFunc 93 [] [.t 6]),.n 94 90 (.w 91 [.t 92,.t 93]),.p 95 90 94] (.cond (.t 95) (.q [.K 2 2] .ret) .skip)) (.seq (.q [.f 96 0 11,.l 97 96] (.block 6 (.q [.b 99 .eql 3 97 15,.m 98 99] (.cond (.t 98) (.ops [.m 100 9,.b 101 .add 3 100 1,.m 9 101]) (.q [.b 103 .eql 3 97 16,.m 102 103] (.cond (.t 102) (.ops [.m 104 9,.b 105 .sub 3 104 1,.m 9 105]) .skip)))))) (.seq (.q [.m 106 9,.b 107 .lss 3 106 0,.m 108 107,.mn 109 108 9,.nb 110 108 .gtr 3 109 4,.p 111 108 110] (.cond (.t 111) (.q [.K 2 2] .ret) .skip)) (.q [.f 112 1 11,.l 113 112,.b 114 .geq 3 113 0] (.cond (.t 114) (.ops [.l 115 6,.f 116 1 11,.l 117 116,.I 118 1 115 117,.v (.store 1 (.t 118) .T)]) .skip))))))) (.ops [.b 119 .add 3 81 1,.m 81 119]))))))) (.seq (.q [.l 120 6,.s 121 120,.K 122 0] (.block 7 (.loop (.q [.c 123 .lss 3 122 121] (.seq (.cond (.t 123) .skip (.exit 7)) (.seq (.block 8 (.q [.m 124 122,.m 12 124] (.q [.m 125 3,.m 126 12,.z 127 (.callV (.t 125) [.t 126]),.m 128 127,.yl 129 128 6,.my 130 128 12,.y 131 128 (.ixAddr 1 (.t 129) (.t 130)),.yl 132 128 131,.y 133 128 (.un .not (.t 132)),.q 134 128 133] (.cond (.t 134) (.q [.K 2 2] .ret) .skip)))) (.ops [.b 135 .add 3 122 1,.m 122 135]))))))) (.seq (.q [.m 136 9,.b 137 .neq 3 136 0] (.cond (.t 137) (.q [.K 2 2] .ret) .skip)) (.q [.K 2 0] .ret)))))))))))
def r_lengths_Check:Oz Tryz.prog 55=some ⟨138,z98.r,[.tmp 2]⟩:=Aa
def S6(g:List Vr)(j z:List Ko):List LV:=[.lst (Qx g) g.length 3,.lst (Rm j) j.length 7,.lst (Rm z) z.length 7]
def Pa{x:Ok}{q:Nat}(h:q<P.length):(P++x)[q]?=P[q]?:=J6 h
def zpv(f:vT→LV)(l:List vT)(g:Nat)(x:vT)(h:g<l.length):Po (l.map f) g [f x]=(l.set g x).map f:=by
 unfold Po;rw[La,J8 h];simp[List.map_take,List.map_drop]
def repB(n:Nat):Qo [.bool false] n=(List.replicate n false).map LV.bool:=by
 induction n with
 |zero=>rfl
 |succ n g=>simp[Qo,g,Mt]
def x6{a b:List Bool}(h:a.length=b.length)(he:∀g,g<a.length→gb a g=gb b g):a=b:=by
 apply List.ext_getElem h;intro g j z;have:=he g j;simpa [gb,J0,j,z] using this
def qu(m:List Bool)(i g:Nat)(b:Bool)(hi:i<m.length):gb (m.set i b) g=if g=i then b else gb m g:=by
 unfold gb;rw[J0,J0,Og];by_cases h:i=g
 ·subst h;simp[hi]
 ·rw[J2 h,J2 (λq=>h q.symm)]
def zbf{p st:Nat}(v:Int)(j:P[p]?=some (.cells (.lst (Qx vE) vE.length 3::F) st))(B:v<vE.length)(k:vZ (.bool (Vc vE v)) P):Qa (.fn 87) [.i v,.ptr p 0] P vZ:=by
 refine O0 r_lengths_Check_1 Aa N ?_;by_cases g:0≤v
 ·obtain⟨a,rfl⟩:=J3 g;have z:a<vE.length:=J
  have A:=vs_at2 (Wm z);simp[z4h,j,z];simp[Ov A];simpa [Vc] using k
 ·simp[z4h,j,g];simpa [Vc,g] using k
def zns{p q st:Nat}{m:List Bool}(v:Int)(z:P[p]?=some (.cells [.dy q 0] st))(A:P[q]?=some (.dyn (m.map .bool) m.length 1 0 g))(B:0≤v∧v<m.length)(k:vZ (.bool (!gb m v.toNat)) P):Qa (.fn 93) [.i v,.ptr p 0] P vZ:=by
 refine O0 r_lengths_Check_2 Aa N ?_;obtain⟨a,rfl⟩:=J3 B.1;have j:a<m.length:=J
 have C:=Wz (f:=LV.bool) (wi j);simp[z7t,z,A,j];simp[Ov C];simpa using k
def z8n(g:List Vr)(j z:List Ko)(jP:g.length≤9223372036854775807):O2 55 [.agg (S6 g j z)] (.i (U4 g j z)) []:=by
 refine P4.val rfl (O0 r_lengths_Check Aa (by simp) ?_);have gD:Tu g j z=false→U4 g j z=2:=λh=>by simp[U4,h]
 simp[z98,S6];refine Pm (zga g jP) (bors_self _ Do) ?_;cases hv:To g with
 |false=>simp[gD,Tu,hv]
 |true =>
 have jQ:=zh6 hv;by_cases g1:(4096:Int)<(j.length:Int)
 ·simp[g1];exact (gD (by simp[Tu,hv];omega)).symm
 by_cases g2:(4096:Int)<(z.length:Int)
 ·simp[g1,g2];exact (gD (by simp[Tu,hv];omega)).symm
 simp[g1,g2];refine Ql (λρ jH gI N=>∃i:Nat,jH=[]∧N+i=z.length∧lk ρ 1=.ptr 0 0∧lk ρ 3=.fn (.func 87) [] [.ptr 0 0]∧lk ρ 31=.lst (Rm z) z.length 7∧lk ρ 32=.i z.length∧lk ρ 33=.i i∧0<gI.length∧gI[0]?=some (.cells (S6 g j z) 0)∧∀gC,gC<i→T6 g (go z gC)=true) (N:=z.length) ⟨0,by simp[S6]⟩ ?_;rintro N ρ jH gI ⟨i,rfl,hN,B,F,gU,gV,gX,O,L,hr⟩ Nx H;by_cases gK:i<z.length
 ·have q7:=zqz (zxf gK);have T:=ve gK;have P:(go z i).f=[.i (go z i).kind,.i (go z i).d,.i (go z i).e,.i (go z i).a,.i (go z i).b,.i (go z i).c,.u (go z i).imm]:=rfl;have no:T6 g (go z i)=false→U4 g j z=2:=λh=>gD (by
   have:z.all (T6 g)=false:=by
    rw[Oh];exact⟨go z i,Kg (zxf gK),by simp[h]⟩
   simp[Tu,this])
  have jR:T6 g (go z i)=true→∀gC,gC<i+1→T6 g (go z gC)=true:=λh gC hj=>by
   by_cases e:gC=i
   ·rw[e];exact h
   ·exact hr gC J
  generalize go z i=o at *;by_cases gF:o.kind=17
  ·simp[B,F,gU,gV,gX,gK,q7,T,P,gF,↓Pa O,L,S6];have hc:=z94 (Qx g) g.length o;rw[P,gF]at hc;refine Pm hc (bors_self _ Do) ?_;cases hn:Xi g.length o with
   |false =>
    simp;exact (no (by simp[T6,hn])).symm
   |true =>
    have gY:=ztd gF hn;have ha:o.a<g.length:=by
     simp only[Xi,Jz]at hn;exact (z4k.1 hn.2.2.2.1).2
    have hb:o.b<g.length:=by
     simp only[Xi,Jz]at hn;have:=hn.2.2.2.2;split at this
     ·exact (z4k.1 this).2
     ·simp at this;omega
    simp[F];refine zbf o.a Cc ha ?_;cases ho:Vc g o.a with
    |true =>
     simp;exact (no (by simp[T6,ho])).symm
    |false =>
     simp[F];refine zbf o.b Cc hb ?_;cases jI:Vc g o.b with
     |true =>
      simp;exact (no (by simp[T6,jI])).symm
     |false =>
      simp[gX];exact⟨J,H _ _ _ ⟨N-1,J,i+1,rfl,J,Aw,Ao,by simp[gU],by simp[gV],by simp,by simp,Cc,jR (by simp[T6,gF,hn,ho,jI])⟩⟩
  ·simp[B,F,gU,gV,gX,gK,q7,T,P,gF];exact (no (by simp[T6,gF])).symm
 have jK:z.all (T6 g)=true:=by
  rw[Lq];intro o ho;obtain⟨gC,hj,rfl⟩:=L5.1 ho;have e:=zxf hj;rw[J5 hj]at e;rw[Option.some.inj e];exact hr gC J
 simp[B,F,gU,gV,gX,gK,L,S6,jQ,↓Pa O];refine⟨J,?_⟩;refine Ql (λρ jH gI N=>∃(i:Nat) (m:List Bool) (p q st E:Nat),jH=[]∧N+i=g.length∧lk ρ 1=.ptr 0 0∧lk ρ 3=.fn (.func 87) [] [.ptr 0 0]∧lk ρ 6=.ptr p 0∧lk ρ 65=.lst (Qx g) g.length 3∧lk ρ 66=.i g.length∧lk ρ 67=.i i ∧
   0<gI.length∧p<gI.length∧0<q∧q<gI.length∧gI[0]?=some (.cells (S6 g j z) 0)∧gI[p]?=some (.cells [.dy q 0] st)∧gI[q]?=some (.dyn (m.map .bool) m.length 1 0 E)∧m.length=g.length∧∀gC,gC<i→gb m gC=Ti (gv g gC)) (N:=g.length)
  ⟨0,List.replicate g.length false,gI.length+1,gI.length,1,0,rfl,J,Aw,Ao,by simp,Aw,by simp,by simp,by simp,by simp,O,by simp,Cc,by simp,by simp[repB],by simp,by simp⟩ ?_
 clear B F L hr H O;rintro N ρ jH gI ⟨i,m,p,q,st,E,rfl,hN,B,F,D,jA,jB,jC,O,A,gL,I,L,K,T,U,hm⟩ Nx H;by_cases gK:i<g.length
 ·have hg:=Wm gK;have q3:=zcp hg;have jD:=zoa gK;have P:(gv g i).f=[.i (gv g i).limbs,.bool (gv g i).sec,.i (gv g i).mode]:=rfl;simp[B,D,jA,jB,jC,gK,q3,jD,P,↓Pa A,K];rw[←P];refine Pm (z8w (gv g i)) (bors_self _ rfl) ?_;simp[↓Pa A,↓Pa I,K,T,D,jC,gK,U];refine⟨J,J,H _ _ _ ⟨N-1,J,i+1,m.set i (Ti (gv g i)),p,q,st,E+1,rfl,J,Aw,Ao,Ae,by simp[jA],by simp[jB],by simp,by simp,Ab,gL,Ab,?_,?_,?_,Fl,λgC hj=>?_⟩⟩
  ·rw[Jy J,Pa O];exact L
  ·have jT:p≠q:=λe=>by rw[e,T]at K;cases K
   rw[Jy J,Pa A];exact K
  ·rw[J1 Ab,zpv _ _ _ _ J,L7,U]
  ·rw[qu _ _ _ _ J];split
   ·rename_i e;rw[e]
   ·exact hm gC J
 have jU:m=Y4 g:=x6 (by simp[Y4,U]) (λgC hj=>by
  rw[hm gC J];unfold gb Y4;rw[J0,Lr,Wm J];rfl)
 simp[B,D,jA,jB,jC,gK,L,S6];refine Ql (λρ jH gI N=>∃(i:Nat) (m:List Bool) (G:Int) (p q st E:Nat),jH=[]∧N+i=j.length∧lk ρ 1=.ptr 0 0∧lk ρ 3=.fn (.func 87) [] [.ptr 0 0]∧lk ρ 6=.ptr p 0∧lk ρ 9=.i G∧lk ρ 79=.lst (Rm j) j.length 7∧lk ρ 80=.i j.length∧lk ρ 81=.i i ∧
   0<gI.length∧p<gI.length∧0<q∧q<gI.length∧gI[0]?=some (.cells (S6 g j z) 0)∧gI[p]?=some (.cells [.dy q 0] st)∧gI[q]?=some (.dyn (m.map .bool) m.length 1 0 E)∧m.length=g.length∧0≤G∧G≤4∧Vf g m G (j.drop i)=Vf g (Y4 g) 0 j) (N:=j.length)
  ⟨0,m,0,p,q,st,E,rfl,J,Aw,Ao,Ae,by simp,Aw,by simp,by simp,O,A,gL,I,L,K,T,U,J,J,by simp[jU]⟩ ?_
 clear B F D L K T H O A gL I U;rintro N ρ jH gI ⟨i,m,G,p,q,st,E,rfl,hN,B,F,D,Y,Z,gg,gA,O,A,gL,I,L,K,T,U,j4,j5,gG⟩ Nx H;have jT:p≠q:=λe=>by rw[e,T]at K;cases K
 by_cases gK:i<j.length
 ·have q7:=zqz (zxf gK);have jD:=ve gK;rw[ox gK]at gG;have P:(go j i).f=[.i (go j i).kind,.i (go j i).d,.i (go j i).e,.i (go j i).a,.i (go j i).b,.i (go j i).c,.u (go j i).imm]:=rfl;generalize go j i=o at *;have no:Vf g m G (o::j.drop (i+1))=none→U4 g j z=2:=λh=>gD (by
   rw[h]at gG;simp[Tu,←gG])
  simp[B,Z,gg,gA,gK,q7,jD,P,↓Pa O,L,S6];rw[←P];refine Pm (zhv g o) (bors_self _ (by simp[dats,LV.dat,Tb,P])) ?_;cases ho:Rg g o with
  |false =>
   simp;exact (no (by simp[Vf,ho])).symm
  |true =>
  have gY:=fx ho;simp[P];rw[←P];refine Sx (z8o o gY.swap) rfl ?_;simp[D];have jV:(U1 o).length≤9223372036854775807:=by
   have B:([o.a,o.b,o.c].filter λv=>!decide (v<0)).length≤3:=List.length_filter_le _ _;unfold U1;split<;>simp at B ⊢<;>omega
  refine z5g (p:=λv=>!gb m v.toNat) jV (λv hv K' k=>zns v Ep (by rw[Pa I];exact T) (by have:=gY.takes v hv;omega) k) ?_;cases ht:uw m o with
  |false =>
   have:((U1 o).any λv=>!gb m v.toNat)=true:=by
    have h:=ht;unfold uw at h;rw[Oh]at h;obtain⟨v,hv,h⟩:=h;exact K5.2 ⟨v,hv,Ar⟩
   rw[this];simp;exact (no (by simp[Vf,ho,ht])).symm
  |true =>
  have:((U1 o).any λv=>!gb m v.toNat)=false:=by
   have h:=ht;unfold uw at h;rw[Lq]at h;rw[Np];intro v hv;simp[h v hv]
  rw[this];have jX:∀C,C=G+dl o.kind→(C<0∨4<C→U4 g j z=2)∧(0≤C→C≤4→Vf g (Xq m o) C (j.drop (i+1))=Vf g (Y4 g) 0 j):=λC e=>by
   subst e;refine⟨λh=>no ?_,λh0 h4=>?_⟩
   ·rw[Vf,J2];simp only[Jz,Kb];omega
   ·rw[←gG,Vf,J8];simp only[Jz,Kb];exact⟨ho,ht,h0,h4⟩
  have jE:∃V,dl o.kind=V∧-1≤V∧V≤1∧((o.kind=15∧V=1)∨(o.kind≠15∧o.kind=16∧V=-1)∨(o.kind≠15∧o.kind≠16∧V=0)):=by
   by_cases k1:o.kind=15
   ·exact⟨1,by simp[dl,k1],J,J,.inl ⟨k1,rfl⟩⟩
   by_cases k2:o.kind=16
   ·exact⟨-1,by simp[dl,k2],J,J,.inr (.inl ⟨k1,k2,rfl⟩)⟩
   ·exact⟨0,by simp[dl,k1,k2],J,J,.inr (.inr ⟨k1,k2,rfl⟩)⟩
  obtain⟨V,e1,e2,e3,jE⟩:=jE;obtain⟨gZ,jL⟩:=jX (G+V) (by rw[e1]);have j6:=gY.d;have gM:0≤o.d→o.d<(m.length:Int):=λh=>J
  have gO:0≤o.d→Po (m.map LV.bool) o.d.toNat [.bool true]=(m.set o.d.toNat true).map LV.bool:=λh=>zpv LV.bool _ _ true J
  have next:∀(C:Int) (ρ':Om) (G':Ok) (gR:Nat),C=G+V→0≤C→C≤4→lk ρ' 1=.ptr 0 0→lk ρ' 3=.fn (.func 87) [] [.ptr 0 0]→lk ρ' 6=.ptr p 0→lk ρ' 9=.i C→lk ρ' 79=.lst (Rm j) j.length 7→lk ρ' 80=.i j.length→lk ρ' 81=.i ((i:Int)+1) →
    gI.length≤G'.length→G'[0]?=some (.cells (S6 g j z) 0)→G'[p]?=some (.cells [.dy q 0] st)→G'[q]?=some (.dyn ((Xq m o).map .bool) m.length 1 0 gR)→Nx ρ' [] G':=by
   intro C ρ' G' gR e jg jz a1 a3 a6 a9 jY jZ j0 j7 b0 bp bq;have jM:(Xq m o).length=m.length:=by unfold Xq;split<;>simp
   refine H _ _ _ ⟨N-1,J,i+1,Xq m o,C,p,q,st,gR,rfl,J,a1,a3,a6,a9,jY,jZ,by rw[j0];simp,J,J,gL,J,b0,bp,by rw[jM];exact bq,by rw[jM,U],jg,jz,?_⟩;subst e;exact jL jg jz
  have q0:q≠0:=J
  have jF:0≤o.d→Xq m o=m.set o.d.toNat true:=λh=>by simp[Xq,h]
  have jG:¬0≤o.d→Xq m o=m:=λh=>by simp[Xq,h]
  rcases jE with ⟨M,rfl⟩|⟨M,gH,rfl⟩|⟨M,gH,rfl⟩
  ·have r0:¬G+1<0:=J
   by_cases d4:4<G+1
   ·simp[Y,P,M,r0,d4]
    repeat (refine⟨J,?_⟩)
    exact (gZ (.inr d4)).symm
   by_cases Q:0≤o.d
   ·have d2:=gM Q;simp[D,Y,gA,P,M,r0,d4,↓Pa A,↓Pa I,K,T,Q,d2,gO Q]
    repeat (refine⟨J,?_⟩)
    refine next (G+1) _ _ (E+1) rfl J J Aw Ao Ae (by simp) Es Ch (by simp) (by simp) ?_ ?_ ?_
    ·rw[Jy J,Pa O];exact L
    ·rw[Jy J,Pa A];exact K
    ·rw[J1 Ab,jF Q,K9]
   ·simp[D,Y,gA,P,M,r0,d4,Q]
    repeat (refine⟨J,?_⟩)
    exact next (G+1) _ _ E rfl J J Aw Ao Ae (by simp) Es Ch (by simp) (by simp) Cc Ep Fq
  ·by_cases r0:G-1<0
   ·simp[Y,P,M,gH,r0]
    repeat (refine⟨J,?_⟩)
    exact (gZ (.inl J)).symm
   have d4:¬4<G-1:=J
   by_cases Q:0≤o.d
   ·have d2:=gM Q;simp[D,Y,gA,P,M,gH,r0,d4,↓Pa A,↓Pa I,K,T,Q,d2,gO Q]
    repeat (refine⟨J,?_⟩)
    refine next (G-1) _ _ (E+1) J J J Aw Ao Ae (by simp) Es Ch (by simp) (by simp) ?_ ?_ ?_
    ·rw[Jy J,Pa O];exact L
    ·rw[Jy J,Pa A];exact K
    ·rw[J1 Ab,jF Q,K9]
   ·simp[D,Y,gA,P,M,gH,r0,d4,Q]
    repeat (refine⟨J,?_⟩)
    exact next (G-1) _ _ E J J J Aw Ao Ae (by simp) Es Ch (by simp) (by simp) Cc Ep Fq
  ·have r0:¬G<0:=J
   have d4:¬4<G:=J
   by_cases Q:0≤o.d
   ·have d2:=gM Q;simp[D,Y,gA,P,M,gH,r0,d4,↓Pa A,↓Pa I,K,T,Q,d2,gO Q]
    repeat (refine⟨J,?_⟩)
    refine next G _ _ (E+1) J J J Aw Ao Ae Fe Es Ch (by simp) (by simp) ?_ ?_ ?_
    ·rw[Jy J,Pa O];exact L
    ·rw[Jy J,Pa A];exact K
    ·rw[J1 Ab,jF Q,K9]
   ·simp[D,Y,gA,P,M,gH,r0,d4,Q]
    repeat (refine⟨J,?_⟩)
    exact next G _ _ E J J J Aw Ao Ae Fe Es Ch (by simp) (by simp) Cc Ep Fq
 have j1:Vf g (Y4 g) 0 j=some (m,G):=by
  rw[Lv J]at gG;rw[←gG];rfl
 have l1:j.length≤4096:=J
 have l2:z.length≤4096:=J
 have gT:Tu g j z=(lb g m&&decide (G=0)):=by simp[Tu,hv,jK,j1,l1,l2]
 simp[B,F,D,Z,gg,gA,gK,K,T];refine Ql (λρ jH G' N=>∃i:Nat,jH=[]∧G'=gI∧N+i=g.length∧lk ρ 1=.ptr 0 0∧lk ρ 3=.fn (.func 87) [] [.ptr 0 0]∧lk ρ 6=.ptr p 0∧lk ρ 9=.i G∧lk ρ 121=.i g.length∧lk ρ 122=.i i ∧
   ∀gC,gC<i→(gv g gC).mode=3→gb m gC=true) (N:=g.length) ⟨0,rfl,rfl,J,Aw,Ao,Ae,Fe,Fl,by simp,λgC hj=>J⟩ ?_
 clear B F D Y H;rintro N ρ jH G' ⟨i,rfl,rfl,hN,B,F,D,Y,gB,R,ha⟩ Nx H;by_cases gK:i<g.length
 ·have gm:i<m.length:=J
  have q1:=Wz (f:=LV.bool) (wi gm);simp[F,gB,R,gK];refine zbf (i:Int) L J ?_;cases ho:Vc g i with
  |false =>
   simp[R];refine⟨J,H _ _ _ ⟨N-1,J,i+1,rfl,rfl,J,Aw,Ao,Ae,Fe,by simp[gB],by simp,λgC hj X=>?_⟩⟩;by_cases e:gC=i
   ·subst e;simp[Vc,X]at ho
   ·exact ha gC J X
  |true =>
   cases hb:gb m i with
   |false =>
    simp[D,R,K,T,gm,Ov q1,hb];have X:(gv g i).mode=3:=by simp[Vc]at ho;exact ho
    have:lb g m=false:=by
     unfold lb;rw[Oh];exact⟨i,L4.2 gK,by simp[X,hb]⟩
    exact (gD (by rw[gT,this];rfl)).symm
   |true =>
    simp[D,R,K,T,gm,Ov q1,hb];refine⟨J,H _ _ _ ⟨N-1,J,i+1,rfl,rfl,J,Aw,Ao,Ae,Fe,by simp[gB],by simp,λgC hj X=>?_⟩⟩;by_cases e:gC=i
    ·rw[e];exact hb
    ·exact ha gC J X
 have jO:lb g m=true:=by
  unfold lb;rw[Lq];intro gC hj;have hj:=L4.1 hj;by_cases X:(gv g gC).mode=3
  ·simp[ha gC J X]
  ·simp[X]
 by_cases d0:G=0
 ·simp[Y,gB,R,gK,d0];simp[U4,gT,jO,d0]
 ·simp[Y,gB,R,gK,d0];simp[U4,gT,d0]
def zav:LC:=(.q [.x 1 0,.F 2] (.q [.f 3 2 1,.l 4 3,.b 5 .eql 3 4 1,.m 6 5,.nf 7 6 2 1,.nl 8 6 7,.nb 9 6 .eql 3 8 2,.p 10 6 9,.m 2 10] .ret))
def r_expand_given:Oz Tryz.prog 94=some ⟨11,zav.r,[.tmp 2]⟩:=Aa
def z93:LC:=(.q [.z 4 (.alloc [.nilSl,.nilSl,.nilSl])] (.q [.m 8 0,.z 9 (.build [.nilSl,.nilSl,.nilSl] [(0,1,.t 8)]),.z 5 (.alloc [.nilSl,.nilSl,.nilSl]),.S 3 5 9] (.seq (.q [.m 10 0,.s 11 10,.K 12 0] (.block 0 (.loop (.q [.c 13 .lss 3 12 11] (.seq (.cond (.t 13) .skip (.exit 0)) (.seq (.block 1 (.q [.m 14 12,.I 15 3 10 12,.L 16 3 15,.z 7 (.alloc [(.i 0),(.bool false),(.i 0)]),.m 6 14,.S 3 7 16] (.q [.L 17 3 7,.w 18 94 17,.z 19 (.un .not (.t 18))] (.cond (.t 19) (.ops [.f 20 1 5,.l 21 20,.m 22 6,.z 23 (.build [(.i 0),(.i 0),(.i 0),(.i 0),(.i 0),(.i 0),(.u 0)] [(0,1,.k 1),(1,1,.t 22),(2,1,.k (-1)),(3,1,.k (-1)),(4,1,.k (-1)),(5,1,.k (-1))]),.z 24 (.buildSl 7 1 [(.i 0),(.i 0),(.i 0),(.i 0),(.i 0),(.i 0),(.u 0)] [(0,7,.t 23)]),.a 25 7 21 24,.f 26 1 5,.S 1 26 25]) .skip)))) (.ops [.b 27 .add 3 12 1,.m 12 27]))))))) (.q [.f 28 1 5,.l 29 28,.m 30 1,.a 31 7 29 30,.f 32 1 5,.S 1 32 31] (.q [.L 33 3 5,.S 3 4 33] .ret)))))
def r_expand_kernel:Oz Tryz.prog 56=some ⟨34,z93.r,[.cellN 4 3]⟩:=Aa
def z6w:LC:=(.q [.x 3 1,.F 4] (.seq (.q [.f 5 0 3,.l 6 5,.b 7 .eql 3 6 15,.m 8 7,.nf 9 8 0 3,.nl 10 8 9,.nb 11 8 .eql 3 10 16,.p 12 8 11] (.cond (.t 12) (.q [.F 4] .ret) .skip)) (.q [.m 13 0,.L 14 7 3,.z 15 (.buildSl 7 1 [(.i 0),(.i 0),(.i 0),(.i 0),(.i 0),(.i 0),(.u 0)] [(0,7,.t 14)]),.W 16 56 13 15,.w 17 55 16,.b 18 .eql 37 17 0,.m 4 18] .ret)))
def r_expand_May:Oz Tryz.prog 29=some ⟨19,z6w.r,[.tmp 4]⟩:=Aa
def z96:LC:=(.q [.F 2] (.q [.m 3 0,.b 4 .geq 3 3 1,.m 5 4,.my 6 5 0,.y 7 5 (.bin .leq true 3 (.t 6) (.k 11)),.q 8 5 7,.m 9 8,.mn 10 9 0,.nb 11 9 .eql 3 10 14,.p 12 9 11,.m 2 12] .ret))
def r_expand_Has:Oz Tryz.prog 28=some ⟨13,z96.r,[.tmp 2]⟩:=Aa
def z65:LC:=(.q [.K 2 0] (.q [.m 4 0,.m 5 0,.b 6 .quo 3 5 2,.c 7 .sub 3 4 6,.m 3 7] (.q [.m 8 0,.z 9 (.bin .mul true 3 (.k 2) (.t 8)),.m 10 3,.b 11 .add 3 10 1,.z 12 (.bin .mul true 3 (.k 4) (.t 11)),.c 13 .add 3 9 12,.m 2 13] .ret)))
def r_expand_halvesWork:Oz Tryz.prog 30=some ⟨14,z65.r,[.tmp 2]⟩:=Aa
def zcv:LC:=(.q [.x 3 1,.K 4 0] (.seq (.q [.f 5 0 3,.l 6 5,.w 7 28 6,.z 8 (.un .not (.t 7)),.m 9 8,.mn 10 9 0,.n 11 9 (.loadN 7 (.t 3)),.n 12 9 (.w 29 [.t 10,.t 11]),.n 13 9 (.un .not (.t 12)),.p 14 9 13] (.cond (.t 14) (.q [.K 4 0] .ret) .skip)) (.seq (.q [.f 15 0 3,.l 16 15] (.block 0 (.q [.b 18 .eql 3 16 5,.m 17 18] (.cond (.t 17) (.seq (.draw [(.m 19 0,[]),(.f 20 3 3,[]),(.l 21 20,[]),(.I 22 3 19 21,[]),(.f 23 0 22,[]),(.l 24 23,[]),(.m 25 0,[]),(.f 26 4 3,[]),(.l 27 26,[]),(.I 28 3 25 27,[]),(.f 29 0 28,[]),(.l 30 29,[]),(.c 31 .add 3 24 30,[]),(.m 4 31,[])]) .ret) (.q [.b 33 .eql 3 16 6,.m 32 33] (.cond (.t 32) (.q [.m 34 0,.f 35 3 3,.l 36 35,.I 37 3 34 36,.f 38 0 37,.l 39 38,.w 40 30 39,.m 4 40] .ret) (.seq (.q [.b 42 .eql 3 16 9,.m 41 42] (.cond (.t 41) .skip (.q [.b 43 .eql 3 16 10,.m 41 43] (.cond (.t 41) .skip (.ops [.b 44 .eql 3 16 11,.m 41 44]))))) (.cond (.t 41) (.q [.m 45 0,.f 46 5 3,.l 47 46,.I 48 3 45 47,.f 49 0 48,.l 50 49,.b 51 .add 3 50 1,.z 52 (.bin .mul true 3 (.k 2) (.t 51)),.m 4 52] .ret) .skip)))))))) (.q [.K 4 1] .ret))))
def r_expand_Work:Oz Tryz.prog 11=some ⟨53,zcv.r,[.tmp 4]⟩:=Aa
def z9i(v:Vr):O2 94 [.agg v.f] (.bool (Ti v)) []:=by
 refine P4.val rfl (O0 r_expand_given Aa N ?_);by_cases g:v.mode=1<;>simp[zav,Vr.f,Ti,g]
def zp7{i:Nat}(h:i<vE.length):Vp i (vE.drop i)=(if Ti (gv vE i)=true then [] else [X9 1 i])++Vp (i+1) (vE.drop (i+1)):=by
 rw[znt h,Vp];split<;>rfl
def zup(l:List LV):(LV.agg l).cells=some l:=rfl
def ztr(a b:List Ko):Rm (a++b)=Rm a++Rm b:=by simp[Rm]
def z8u(g:List Vr)(z:List Ko)(hl:g.length≤1000000)(hn:z.length≤1000000):Rd 56 [.lst (Qx g) g.length 3,.lst (Rm z) z.length 7] (.agg (S6 g (Vp 0 g++z) [])):=by
 refine T2.mk (by simp[S6,LV.dat,dats,Tb,za1]) (O0 r_expand_kernel Aa (by simp) ?_);simp[z93];refine Ql (λU gC gg N=>∃(i:Nat) (T:List Ko) (v:LV) (st:Nat),gC=[]∧N+i=g.length∧lk U 1=.lst (Rm z) z.length 7∧lk U 4=.ptr 0 0∧lk U 5=.ptr 1 0∧lk U 10=.lst (Qx g) g.length 3∧lk U 11=.i g.length∧lk U 12=.i i ∧
   1<gg.length∧gg[0]?=some (.cells [.nilSl,.nilSl,.nilSl] 0)∧gg[1]?=some (.cells [.lst (Qx g) g.length 3,v,.nilSl] st)∧Rw 2 gg v 7 T.length (Rm T)∧T.length≤i∧Vp 0 g=T++Vp i (g.drop i)) (N:=g.length)
  ⟨0,[],.nilSl,1,rfl,J,by simp,by simp,by simp,by simp,by simp,by simp,by simp,by simp,by simp,Rw.nil,by simp,by simp⟩ ?_
 rintro N U gC gg ⟨i,T,v,st,rfl,hN,V,X,M,F,G,H,K,L,A,Y,gB,j⟩ Nx O;have P:0<gg.length:=J
 by_cases gA:i<g.length
 ·have hg:=Wm gA;have q3:=zcp hg;have Z:=zoa gA;have hf:(gv g i).f=[.i (gv g i).limbs,.bool (gv g i).sec,.i (gv g i).mode]:=rfl;have Q:=zp7 gA;rw[Q]at j;simp[F,G,H,gA,q3,Z,hf];rw[←hf];refine Pm (z9i (gv g i)) (bors_self _ rfl) ?_;cases R:Ti (gv g i) with
  |true =>
   rw[R]at j;simp[H];refine⟨J,O _ _ _ ⟨N-1,J,i+1,T,v,st,rfl,J,Gq,by simp[X],Bh,Ao,Bn,by simp,Ab,by rw[Pa P];exact L,by rw[Pa K];exact A,Y.push_end,J,Bv⟩⟩
  |false =>
   rw[R]at j;simp[M,↓Pa K,A];refine Rw.push (m:=1) (x:=(X9 1 i).f) Y.push_end J (by simp) J rfl λv' I B C hb=>?_
   have D:I[1]?=some (.cells [.lst (Qx g) g.length 3,v,.nilSl] st):=by rw[C 1 J,Pa K];exact A
   have E:I[0]?=some (.cells [.nilSl,.nilSl,.nilSl] 0):=by rw[C 0 J,Pa P];exact L
   have hc:=B.cells;simp[-LV.cells,M,H,D,hc];refine⟨J,O _ _ _ ⟨N-1,J,i+1,T++[X9 1 i],v',st+1,rfl,J,Gq,by simp[X],Bh,Ao,Bn,by simp,Ab,?_,?_,?_,Ab,Bv⟩⟩
   ·rw[Jy J];exact E
   ·rw[J1 J]
   ·rw[ztr,J7,show Rm [X9 1 (i:Int)]=(X9 1 i).f by simp[Rm]];exact B.set_lt J
 ·rw[Lv J]at j;have j:Vp 0 g=T:=by simpa [Vp] using j
  simp[V,M,F,G,H,gA,A];refine⟨J,?_⟩;refine Rw.push (m:=z.length) Y J J J (sh z) λv' I B C hb=>?_
  have D:I[1]?=some (.cells [.lst (Qx g) g.length 3,v,.nilSl] st):=by rw[C 1 J];exact A
  have E:I[0]?=some (.cells [.nilSl,.nilSl,.nilSl] 0):=by rw[C 0 J];exact L
  have hc:=B.cells;have s1:∀x,(I.set 1 x)[1]?=some x:=λx=>J1 J
  have s0:∀x,(I.set 1 x)[0]?=some (.cells [.nilSl,.nilSl,.nilSl] 0):=λx=>by rw[Jy J];exact E
  have s2:∀x y,((I.set 1 x).set 0 y)[0]?=some y:=λx y=>J1 (by rw[L7];omega)
  simp[-LV.cells,X,M,↓D,↓s1,↓s0,↓s2,hc,zup];refine⟨_,_,rfl,⟨rfl,Tb g⟩,_,_,rfl,?_,_,rfl,.inr ⟨7,rfl⟩⟩;rw[j,ztr,J7];exact ((B.set_lt J).set_lt J).bor (dats_app (za1 _) (za1 _))
def qp(o:Ko):o.f=Rm [o]:=by simp[Rm]
def zjr(z:List Vr)(o:Ko)(B:z.length≤1000000):O2 29 [.lst (Qx z) z.length 3,.agg o.f] (.bool (Ul z o)) []:=by
 refine P4.val rfl (O0 r_expand_May Aa N ?_);have A:o.f=[.i o.kind,.i o.d,.i o.e,.i o.a,.i o.b,.i o.c,.u o.imm]:=rfl;by_cases g:o.kind=15
 ·simp[z6w,A,g];simp[Ul,tp,g]
 by_cases j:o.kind=16
 ·simp[z6w,A,g,j];simp[Ul,tp,j]
 simp[z6w,A,g,j];refine bj (a:=[.lst (Qx z) z.length 3]) (b:=[]) rfl ?_;rw[←A,qp];refine Sx (z8u z [o] B N) (by simp[dats,LV.dat,Tb,za1]) ?_;simp;refine Pm (z8n z _ [] J) (bors_self _ (by simp[S6,dats,LV.dat,Tb,za1])) ?_;simp[Ul,tp,g,j,U4]
def zj2(k:Int):O2 28 [.i k] (.bool (Sr k)) []:=by
 refine P4.val rfl (O0 r_expand_Has Aa N ?_);by_cases g:1≤k
 ·by_cases j:k≤11<;>simp[z96,Sr,g,j]
 ·simp[z96,Sr,g]
def zug(n:Int)(h:0≤n∧n≤512):O2 30 [.i n] (.i (O9 n)) []:=by
 refine P4.val rfl (O0 r_expand_halvesWork Aa N ?_);have g:n.tdiv 2=n/2:=Od h.1;simp[z65,O9,g];omega
def z2q(G:List Vr)(o:Ko)(P:G.length≤1000000):O2 11 [.lst (Qx G) G.length 3,.agg o.f] (.i (Tn G o)) []:=by
 refine P4.val rfl (O0 r_expand_Work Aa N ?_);have B:o.f=[.i o.kind,.i o.d,.i o.e,.i o.a,.i o.b,.i o.c,.u o.imm]:=rfl;simp[zcv,B];refine Pm (zj2 o.kind) N ?_;cases L:Sr o.kind with
 |false=>simp[Tn,L]
 |true =>
 simp[B];rw[←B];refine Pm (zjr G o P) (bors_self _ (by simp[dats,LV.dat,Tb,B])) ?_;cases hm:Ul G o with
 |false=>simp[Tn,L,hm]
 |true =>
 by_cases H:o.kind=5
 ·obtain⟨C,D,_⟩:=z7m (s:=13) hm (by simp[R5,H]);obtain⟨a,g,E,j,F⟩:=z64 C (zv2 D Ac);obtain⟨b,M,Q,O,R⟩:=z64 C (mh D Ac);simp[B,H,g,M,E,Q];simp[g]at j F;simp[M]at O R;simp[Ov j,Ov O]
  repeat (refine⟨J,?_⟩)
  simp[Tn,hm,H,show Sr 5=true from rfl,g,M]
 by_cases I:o.kind=6
 ·obtain⟨C,D,_⟩:=z7m (s:=13) hm (by simp[R5,I]);obtain⟨a,g,E,j,F⟩:=z64 C (zv2 D Ac);simp[B,I,g,E];simp[g]at j F;simp[Ov j];refine Pm (zug (Te G (a:Int)) J) N ?_;simp[Tn,hm,I,show Sr 6=true from rfl,g]
 by_cases K:o.kind=9
 ·obtain⟨C,D,_⟩:=z7m (s:=21) hm (by simp[R5,K]);obtain⟨a,g,E,j,F⟩:=z64 C (zp3 D Ac);simp[B,K,g,E];simp[g]at j F;simp[Ov j]
  repeat (refine⟨J,?_⟩)
  simp[Tn,hm,K,show Sr 9=true from rfl,g]
 by_cases z:o.kind=10
 ·obtain⟨C,D,_⟩:=z7m (s:=29) hm (by simp[R5,z]);obtain⟨a,g,E,j,F⟩:=z64 C (zp3 D Ac);simp[B,z,g,E];simp[g]at j F;simp[Ov j]
  repeat (refine⟨J,?_⟩)
  simp[Tn,hm,z,show Sr 10=true from rfl,g]
 by_cases A:o.kind=11
 ·obtain⟨C,D,_⟩:=z7m (s:=29) hm (by simp[R5,A]);obtain⟨a,g,E,j,F⟩:=z64 C (zp3 D Ac);simp[B,A,g,E];simp[g]at j F;simp[Ov j]
  repeat (refine⟨J,?_⟩)
  simp[Tn,hm,A,show Sr 11=true from rfl,g]
 simp[B,H,I,K,z,A];simp[Tn,L,hm,H,I,K,z,A]
section
def z7o:LC:=(.ops [.m 18 0,.m 19 0,.N 20 19,.f 21 0 20,.l 22 21,.m 23 1,.m 24 2,.m 25 3,.m 26 4,.m 27 5,.m 28 6,.m 29 7,.m 30 8,.z 31 (.build [(.i 0),(.i 0),(.i 0),(.i 0),(.i 0),(.i 0),(.i 0),(.u 0)] [(0,1,.t 23),(1,1,.t 24),(2,1,.t 25),(3,1,.t 26),(4,1,.t 27),(5,1,.t 28),(6,1,.t 29),(7,1,.t 30)]),.z 32 (.buildSl 8 1 [(.i 0),(.i 0),(.i 0),(.i 0),(.i 0),(.i 0),(.i 0),(.u 0)] [(0,8,.t 31)]),.a 33 8 22 32,.N 34 18,.f 35 0 34,.S 1 35 33])
def r_expand_Emit_put:Oz Tryz.prog 97=some ⟨36,z7o.r,[]⟩:=Aa
def z61:LC:=(.ops [.m 6 0,.m 7 1,.m 8 2,.z 9 (.w 97 [.t 6,.k 1,.t 7,.k (-1),.k (-1),.k (-1),.k (-1),.k 0,.t 8])])
def r_expand_Emit_Const:Oz Tryz.prog 59=some ⟨10,z61.r,[]⟩:=Aa
def z6j:LC:=(.ops [.m 6 0,.m 7 1,.m 8 2,.z 9 (.w 97 [.t 6,.k 2,.t 7,.k (-1),.t 8,.k (-1),.k (-1),.k 0,.c (.u 0)])])
def r_expand_Emit_Move:Oz Tryz.prog 117=some ⟨10,z6j.r,[]⟩:=Aa
def z7u:LC:=(.ops [.m 10 0,.m 11 1,.m 12 2,.m 13 3,.m 14 4,.z 15 (.w 97 [.t 10,.t 11,.t 12,.k (-1),.t 13,.t 14,.k (-1),.k 0,.c (.u 0)])])
def r_expand_Emit_Two:Oz Tryz.prog 111=some ⟨16,z7u.r,[]⟩:=Aa
def z7i:LC:=(.ops [.m 10 0,.m 11 1,.m 12 2,.m 13 3,.m 14 4,.z 15 (.w 97 [.t 10,.k 10,.t 11,.t 12,.t 13,.t 14,.k (-1),.k 0,.c (.u 0)])])
def r_expand_Emit_Mul:Oz Tryz.prog 110=some ⟨16,z7i.r,[]⟩:=Aa
def z6e:LC:=(.ops [.m 14 0,.m 15 1,.m 16 2,.m 17 3,.m 18 4,.m 19 5,.m 20 6,.z 21 (.w 97 [.t 14,.t 15,.t 16,.t 17,.t 18,.t 19,.t 20,.k 0,.c (.u 0)])])
def r_expand_Emit_Carry:Oz Tryz.prog 105=some ⟨22,z6e.r,[]⟩:=Aa
def z6y:LC:=(.q [.x 7 2] (.ops [.m 10 0,.m 11 1,.m 12 3,.f 13 0 7,.l 14 13,.f 15 1 7,.l 16 15,.m 17 4,.c 18 .add 3 16 17,.z 19 (.cvInt .u64 (.t 18)),.z 20 (.w 97 [.t 10,.k 14,.t 11,.k (-1),.t 12,.k (-1),.k (-1),.t 14,.t 19])]))
def r_expand_Emit_Load:Oz Tryz.prog 108=some ⟨21,z6y.r,[]⟩:=Aa
def z6c:LC:=(.q [.x 6 1] (.ops [.m 10 0,.m 11 2,.m 12 4,.f 13 0 6,.l 14 13,.f 15 1 6,.l 16 15,.m 17 3,.c 18 .add 3 16 17,.z 19 (.cvInt .u64 (.t 18)),.z 20 (.w 97 [.t 10,.k 15,.k (-1),.k (-1),.t 11,.t 12,.k (-1),.t 14,.t 19])]))
def r_expand_Emit_Store:Oz Tryz.prog 98=some ⟨21,z6c.r,[]⟩:=Aa
def z3y:LC:=(.seq (.q [.m 7 1,.b 8 .lss 3 7 1] (.cond (.t 8) .ret .skip)) (.q [.m 9 0,.N 10 9,.f 11 1 10,.l 12 11,.m 6 12] (.q [.m 13 0,.m 14 6,.m 15 1,.z 16 (.cvInt .u64 (.t 15)),.z 17 (.w 97 [.t 13,.k 16,.t 14,.k (-1),.k (-1),.k (-1),.k (-1),.k 0,.t 16])] (.q [.m 18 0,.N 19 18,.f 20 1 19,.l 21 20,.b 22 .add 3 21 1,.N 23 18,.f 24 1 23,.S 1 24 22] (.q [.m 25 2,.m 26 6,.z 27 (.callV (.t 25) [.t 26])] (.q [.m 28 0,.N 29 28,.f 30 1 29,.l 31 30,.b 32 .sub 3 31 1,.N 33 28,.f 34 1 33,.S 1 34 32] (.ops [.m 35 0,.z 36 (.w 97 [.t 35,.k 17,.k (-1),.k (-1),.k (-1),.k (-1),.k (-1),.k 0,.c (.u 0)])])))))))
def r_expand_Emit_Loop:Oz Tryz.prog 106=some ⟨37,z3y.r,[]⟩:=Aa
def z6m:LC:=(.q [.x 3 0,.x 4 1,.x 5 2] (.ops [.l 6 3,.f 7 2 4,.l 8 7,.z 9 (.mkFunc 142 [] [.t 3,.t 4,.t 5]),.V 10 106 6 8 9]))
def r_expand_Emit_Fill:Oz Tryz.prog 99=some ⟨11,z6m.r,[]⟩:=Aa
def z5n:LC:=(.ops [.l 5 1,.L 6 3 2,.m 7 0,.l 8 3,.z 9 (.w 98 [.t 5,.t 6,.t 7,.k 0,.t 8])])
def r_expand_Emit_Fill_1:Oz Tryz.prog 142=some ⟨10,z5n.r,[]⟩:=Aa
def zc7:LC:=(.q [.x 3 0,.z 6 (.alloc [(.i 0),(.i 0),(.i 0)])] (.q [.f 7 0 3,.l 8 7,.f 9 1 3,.l 10 9,.m 11 1,.c 12 .add 3 10 11,.m 13 2,.z 14 (.build [(.i 0),(.i 0),(.i 0)] [(0,1,.t 8),(1,1,.t 12),(2,1,.t 13)]),.S 3 6 14] .ret))
def r_expand_Part:Oz Tryz.prog 63=some ⟨15,zc7.r,[.cellN 6 3]⟩:=Aa
section emit
variable {G : Ok} {K : LV → Ok → Prop} {e : Nat} {ops : List Lo} {deep : Int}
def ba{st:Nat}{v:LV}{L:List Lo}(O:G[e]?=some (.cells [v,.i deep] st))(P:Qt 0 G v 8 ops.length (Se ops))(X:ops.length≤1000000)
  (k:∀(z:LV) (j:Ok),z.cells=some [z]→j[e]?=some (.cells [v,.i deep] st)→P1 (j.set e (.cells [z,.i deep] (st+1))) e (ops++L) deep→Kp e G (j.set e (.cells [z,.i deep] (st+1)))→(∀(q:Nat) (g:LObj),(∀R m k st,g≠LObj.dyn R m 8 k st)→G[q]?=some g→j[q]?=some g)→vZ z j):Rh G 8 v L.length (Se L) vZ:=by
 have Y:e<G.length:=(Jx.1 O).1;refine Qt.push2 P J J J (zbp L) (Uk L) λz j B D E T U=>?_
 have A:∀(q:Nat) (g:LObj),(∀R m k st,g≠LObj.dyn R m 8 k st)→G[q]?=some g→j[q]?=some g:=λq g F C=>by
  have H:=(Jx.1 C).1;rw[D q H (λZ r=>?_)]
  ·exact C
  ·obtain⟨R,m,k,st,Q⟩:=P.row r;rw[C]at Q;exact F _ _ _ _ (Option.some.inj Q)
 have I:=A e _ (λ_ _ _ _ q=>Gn) O;have M:e<j.length:=(Jx.1 I).1;refine k z j B.cells I ⟨st+1,z,J1 M,?_⟩ ⟨Cd,λq g C F V=>?_⟩ A
 ·rw[ns,J7];exact B.set_cells I
 ·rw[Jy (Ne.symm C)];exact A q g F V
def rz{d a b c:Int}(h:P1 G e ops deep)(E:ops.length≤1000000)(k:∀g,P1 g e (ops++[⟨z,d,B,a,b,c,vY,U⟩]) deep→Kp e G g→K (.tup []) g) :
  Qa (.fn 97) [.ptr e 0,.i z,.i d,.i B,.i a,.i b,.i c,.i vY,.u U] G K:=by
 obtain⟨st,v,j,F⟩:=h;have H:e<G.length:=(Jx.1 j).1;refine O0 r_expand_Emit_put Aa N ?_;have A:∀x,Kp e G (G++x):=λx=>Kp.app' e G x
 have C:∀x:List LObj,(G++x)[e]?=some (.cells [v,.i deep] st):=λx=>(Oo H).trans j
 simp[z7o,j];refine ba (L:=[⟨z,d,B,a,b,c,vY,U⟩]) (C _) F.push_end E λP Q D I M O _=>?_
 simp[-LV.cells,D,I];exact k _ M ((A _).trans O)
def zbv{d:Int}{n:UInt64}(h:P1 G e ops deep)(j:ops.length≤1000000)(k:∀g,P1 g e (ops++[cK d n]) deep→Kp e G g→K (.tup []) g):Qa (.fn 59) [.ptr e 0,.i d,.u n] G K:=by
 refine O0 r_expand_Emit_Const Aa N ?_;simp[z61];refine rz h j λg z A=>?_
 simpa using k g z A
def fv{d a:Int}(h:P1 G e ops deep)(j:ops.length≤1000000)(k:∀g,P1 g e (ops++[Vy d a]) deep→Kp e G g→K (.tup []) g):Qa (.fn 117) [.ptr e 0,.i d,.i a] G K:=by
 refine O0 r_expand_Emit_Move Aa N ?_;simp[z6j];refine rz h j λg z A=>?_
 simpa using k g z A
def zor{d a b:Int}(h:P1 G e ops deep)(j:ops.length≤1000000)(k:∀g,P1 g e (ops++[Pd z d a b]) deep→Kp e G g→K (.tup []) g):Qa (.fn 111) [.ptr e 0,.i z,.i d,.i a,.i b] G K:=by
 refine O0 r_expand_Emit_Two Aa N ?_;simp[z7u];refine rz h j λg A B=>?_
 simpa using k g A B
def ot{hi a b:Int}(h:P1 G e ops deep)(j:ops.length≤1000000)(k:∀g,P1 g e (ops++[Rr hi z a b]) deep→Kp e G g→K (.tup []) g):Qa (.fn 110) [.ptr e 0,.i hi,.i z,.i a,.i b] G K:=by
 refine O0 r_expand_Emit_Mul Aa N ?_;simp[z7i];refine rz h j λg A B=>?_
 simpa using k g A B
def zh3{d a b c:Int}(h:P1 G e ops deep)(j:ops.length≤1000000)(k:∀g,P1 g e (ops++[Py z d B a b c]) deep→Kp e G g→K (.tup []) g):Qa (.fn 105) [.ptr e 0,.i z,.i d,.i B,.i a,.i b,.i c] G K:=by
 refine O0 r_expand_Emit_Carry Aa N ?_;simp[z6e];refine rz h j λg A C=>?_
 simpa using k g A C
def zew{d i:Int}{p:Pc}(C:-1000000000≤p.at_+z∧p.at_+z≤1000000000)(h:P1 G e ops deep)(j:ops.length≤1000000)(k:∀g,P1 g e (ops++[Qw d p i z]) deep→Kp e G g→K (.tup []) g):Qa (.fn 108) [.ptr e 0,.i d,.agg p.f,.i i,.i z] G K:=by
 refine O0 r_expand_Emit_Load Aa N ?_;simp[z6y,Pc.f]
 repeat (refine⟨J,?_⟩)
 refine rz (h.app _) j λg A B=>?_
 simpa using k g A ((Kp.app' _ _ _).trans B)
def z7n{i b:Int}{p:Pc}(C:-1000000000≤p.at_+z∧p.at_+z≤1000000000)(h:P1 G e ops deep)(j:ops.length≤1000000)(k:∀g,P1 g e (ops++[P2 p i z b]) deep→Kp e G g→K (.tup []) g):Qa (.fn 98) [.ptr e 0,.agg p.f,.i i,.i z,.i b] G K:=by
 refine O0 r_expand_Emit_Store Aa N ?_;simp[z6c,Pc.f]
 repeat (refine⟨J,?_⟩)
 refine rz (h.app _) j λg A B=>?_
 simpa using k g A ((Kp.app' _ _ _).trans B)
def zr8{f:Nat}{cap:List LV}(hd:0≤deep∧deep≤100)(h:P1 G e ops deep)(Y:ops.length≤1000000)(Z:z<1→K (.tup []) G)
  (k1:1≤z→∀D,P1 D e (ops++[Xx deep z]) (deep+1)→Kp e G D→Qa (.fn f) (F++.i deep::cap) D λ_ I=>∃g,g.length≤1000000∧P1 I e g (deep+1)∧∀E,P1 E e (g++[Vu]) deep→Kp e I E→K (.tup []) E) :
  Qa (.fn 106) [.ptr e 0,.i z,.fn (.func f) F cap] G K:=by
 refine O0 r_expand_Emit_Loop Aa N ?_;by_cases gg:z<1
 ·simpa [z3y,gg] using Z gg
 obtain⟨st,v,h1,h2⟩:=id h;simp[z3y,gg,h1];refine rz h Y λD e1 L=>?_
 obtain⟨H,V,A,M⟩:=e1;simp[A];have O:e<D.length:=(Jx.1 A).1;refine⟨J,?_⟩;have j:∀(a:Ok) (X:LObj),Kp e a (a.set e X):=λa X=>⟨N,λq o hq _ ho=>by rw[Jy (Ne.symm hq)];exact ho⟩
 have B:=k1 J (D.set e (.cells [V,.i (deep+1)] (H+1))) ⟨H+1,V,J1 O,M.set_cells A⟩ (L.trans (j _ _));refine B.mono λw I hw=>?_
 obtain⟨g,P,e2,k2⟩:=hw;obtain⟨Q,v2,C,R⟩:=e2;simp[C];have T:e<I.length:=(Jx.1 C).1;refine⟨J,?_⟩;refine rz (deep:=deep) ⟨Q+1,v2,J1 T,R.set_cells C⟩ P λE e3 U=>?_
 simpa using k2 E e3 ((j _ _).trans U)
end emit
end

section
def zf9{G:Ok}{K:LV→Ok→Prop}{e:Nat}{ops:List Lo}{deep:Int}{f:Nat}{fst cap:List LV}{B:Fr Lo}(hd:0≤deep∧deep≤100)(h:P1 G e ops deep)(V:ops.length≤900000)(X:B.flat.length≤50000)
  (H:∀(j:Ok) (g:List Lo) (E:LV→Ok→Prop),P1 j e g (deep+1)→Kp e G j→g.length≤900001→(∀A,P1 A e (g++B.flat) (deep+1)→Kp e j A→E (.tup []) A)→Qa (.fn f) (fst++.i deep::cap) j E)
  (k:∀C,P1 C e (ops++(Rs deep z B).flat) deep→Kp e G C→K (.tup []) C):Qa (.fn 106) [.ptr e 0,.i z,.fn (.func f) fst cap] G K:=by
 refine zr8 hd h J (λD=>k G (by rw[xf,J8 D,Lf];exact h) (Kp.refl _ _)) λI j L F=>H j _ _ L F Ab λA M O=>⟨_,Ab,M,λQ T U=>k Q ?_ (F.trans (O.trans U))⟩
 rw[xf,J2 J];simpa using T
section put
variable {G : Ok} {K : LV → Ok → Prop} {e P st : Nat} {ops : List Lo} {deep R : Int} {d a b n t : Pc}
end put
end
def z58:LC:=(.q [.m 3 0,.s 4 3,.m 2 4] (.ops [.m 5 0,.m 6 2,.m 7 2,.z 8 (.cvInt .u64 (.t 7)),.w 9 163 8,.z 10 (.w 162 [.t 5,.k 0,.t 6,.t 9])]))
def r_slices_Sort_int_int:Oz Tryz.prog 143=some ⟨11,z58.r,[]⟩:=Aa
def z38:LC:=(.q [.z 8 (.move .T)] (.q [.z 9 (.move .T)] (.block 0 (.loop (.block 1 (.q [.m 19 2,.m 20 1,.c 21 .sub 3 19 20,.m 10 21] (.seq (.q [.m 22 10,.b 23 .leq 3 22 12] (.cond (.t 23) (.q [.m 24 0,.m 25 1,.m 26 2,.V 27 178 24 25 26] .ret) .skip)) (.seq (.q [.m 28 3,.b 29 .eql 3 28 0] (.cond (.t 29) (.q [.m 30 0,.m 31 1,.m 32 2,.V 33 179 30 31 32] .ret) .skip)) (.seq (.q [.m 34 8,.z 35 (.un .not (.t 34))] (.cond (.t 35) (.q [.m 36 0,.m 37 1,.m 38 2,.V 39 180 36 37 38] (.ops [.m 40 3,.b 41 .sub 3 40 1,.m 3 41])) .skip)) (.q [.m 43 0,.m 44 1,.m 45 2,.V 46 181 43 44 45,.m 42 46,.X 47 0 42,.X 48 1 42,.m 11 47,.m 12 48] (.seq (.q [.m 49 12,.b 50 .eql 200 49 2] (.cond (.t 50) (.q [.m 51 0,.m 52 1,.m 53 2,.V 54 182 51 52 53] (.q [.m 55 2,.b 56 .sub 3 55 1,.m 57 11,.m 58 1,.c 59 .sub 3 57 58,.c 60 .sub 3 56 59,.m 11 60] (.ops [.K 12 1]))) .skip)) (.seq (.q [.m 61 8,.m 62 61,.my 63 62 9,.q 64 62 63,.m 65 64,.my 66 65 12,.y 67 65 (.bin .eql true 200 (.t 66) (.k 1)),.q 68 65 67] (.cond (.t 68) (.q [.m 69 0,.m 70 1,.m 71 2,.V 72 183 69 70 71] (.cond (.t 72) .ret .skip)) .skip)) (.seq (.seq (.draw [(.m 73 1,[]),(.b 74 .gtr 3 73 0,[]),(.m 75 74,[]),(.my 76 75 0,[]),(.my 77 75 1,[]),(.y 78 75 (.bin .sub true 3 (.t 77) (.k 1)),[]),(.y 79 75 (.ixAddr 1 (.t 76) (.t 78)),[]),(.yl 80 75 79,[]),(.my 81 75 0,[]),(.my 82 75 11,[]),(.y 83 75 (.ixAddr 1 (.t 81) (.t 82)),[]),(.yl 84 75 83,[]),(.y 85 75 (.w 184 [.t 80,.t 84]),[]),(.y 86 75 (.un .not (.t 85)),[]),(.q 87 75 86,[])]) (.cond (.t 87) (.q [.m 88 0,.m 89 1,.m 90 2,.m 91 11,.z 92 (.w 185 [.t 88,.t 89,.t 90,.t 91]),.m 13 92] (.q [.m 93 13,.m 1 93] (.exit 1))) .skip)) (.q [.m 95 0,.m 96 1,.m 97 2,.m 98 11,.z 99 (.w 186 [.t 95,.t 96,.t 97,.t 98]),.m 94 99,.X 100 0 94,.X 101 1 94,.m 14 100,.m 15 101] (.q [.m 102 15,.m 9 102] (.q [.m 103 14,.m 104 1,.c 105 .sub 3 103 104,.m 106 2,.m 107 14,.c 108 .sub 3 106 107,.m 16 105,.m 17 108] (.q [.m 109 10,.b 110 .quo 3 109 8,.m 18 110] (.q [.m 111 16,.m 112 17,.c 113 .lss 3 111 112] (.cond (.t 113) (.q [.m 114 16,.m 115 18,.c 116 .geq 3 114 115,.m 8 116] (.q [.m 117 0,.m 118 1,.m 119 14,.m 120 3,.z 121 (.w 162 [.t 117,.t 118,.t 119,.t 120])] (.ops [.m 122 14,.b 123 .add 3 122 1,.m 1 123]))) (.q [.m 124 17,.m 125 18,.c 126 .geq 3 124 125,.m 8 126] (.q [.m 127 0,.m 128 14,.b 129 .add 3 128 1,.m 130 2,.m 131 3,.z 132 (.w 162 [.t 127,.t 129,.t 130,.t 131])] (.ops [.m 133 14,.m 2 133]))))))))))))))))))))))
def r_slices_pdqsortOrdered_int:Oz Tryz.prog 162=some ⟨134,z38.r,[]⟩:=Aa
def z25:LC:=(.q [.m 8 1,.b 9 .add 3 8 1,.m 6 9] (.block 0 (.loop (.seq (.q [.m 10 6,.m 11 2,.c 12 .lss 3 10 11] (.cond (.t 12) .skip (.exit 0))) (.seq (.block 1 (.q [.m 15 6,.m 7 15] (.block 2 (.loop (.seq (.seq (.draw [(.m 16 7,[]),(.m 17 1,[]),(.c 18 .gtr 3 16 17,[]),(.m 19 18,[]),(.my 20 19 0,[]),(.my 21 19 7,[]),(.y 22 19 (.ixAddr 1 (.t 20) (.t 21)),[]),(.yl 23 19 22,[]),(.my 24 19 0,[]),(.my 25 19 7,[]),(.y 26 19 (.bin .sub true 3 (.t 25) (.k 1)),[]),(.y 27 19 (.ixAddr 1 (.t 24) (.t 26)),[]),(.yl 28 19 27,[]),(.y 29 19 (.w 184 [.t 23,.t 28]),[]),(.q 30 19 29,[])]) (.cond (.t 30) .skip (.exit 2))) (.seq (.block 3 (.draw [(.m 33 0,[]),(.m 34 7,[]),(.m 35 0,[]),(.m 36 7,[]),(.b 37 .sub 3 36 1,[]),(.m 38 0,[]),(.m 39 7,[]),(.b 40 .sub 3 39 1,[]),(.I 41 1 38 40,[]),(.l 42 41,[]),(.m 43 0,[]),(.m 44 7,[]),(.I 45 1 43 44,[]),(.l 46 45,[]),(.I 47 1 33 34,[]),(.S 1 47 42,[]),(.I 48 1 35 37,[]),(.S 1 48 46,[])])) (.ops [.m 31 7,.b 32 .sub 3 31 1,.m 7 32]))))))) (.ops [.m 13 6,.b 14 .add 3 13 1,.m 6 14]))))))
def r_slices_insertionSortOrdered_int:Oz Tryz.prog 178=some ⟨49,z25.r,[]⟩:=Aa
def zb5:LC:=(.q [.F 4] (.q [.m 5 0,.w 6 195 5,.m 7 6,.my 8 7 1,.y 9 7 (.w 195 [.t 8]),.y 10 7 (.un .not (.t 9)),.q 11 7 10,.m 12 11,.mn 13 12 0,.mn 14 12 1,.n 15 12 (.bin .lss false 3 (.t 13) (.t 14)),.p 16 12 15,.m 4 16] .ret))
def r_cmp_Less_int:Oz Tryz.prog 184=some ⟨17,zb5.r,[.tmp 4]⟩:=Aa
def z9j:LC:=(.q [.F 2] (.q [.m 3 0,.m 4 0,.c 5 .neq 3 3 4,.m 2 5] .ret))
def r_cmp_isNaN_int:Oz Tryz.prog 195=some ⟨6,z9j.r,[.tmp 2]⟩:=Aa
def z95:LC:=(.q [.K 2 0] (.seq (.cond .F (.q [.m 3 0,.z 4 (.cvInt .u32 (.t 3)),.w 5 187 4,.m 2 5] .ret) .skip) (.q [.m 6 0,.w 7 188 6,.m 2 7] .ret)))
def r_math_bits_Len:Oz Tryz.prog 163=some ⟨8,z95.r,[.tmp 2]⟩:=Aa
def z1q:LC:=(.q [.K 2 0] (.seq (.q [.m 3 0,.u 4 .geq 23 3 4294967296] (.cond (.t 4) (.q [.m 5 0,.u 6 .shr 23 5 32,.m 0 6] (.ops [.K 2 32])) .skip)) (.seq (.q [.m 7 0,.u 8 .geq 23 7 65536] (.cond (.t 8) (.q [.m 9 0,.u 10 .shr 23 9 16,.m 0 10] (.ops [.m 11 2,.b 12 .add 3 11 16,.m 2 12])) .skip)) (.seq (.q [.m 13 0,.u 14 .geq 23 13 256] (.cond (.t 14) (.q [.m 15 0,.u 16 .shr 23 15 8,.m 0 16] (.ops [.m 17 2,.b 18 .add 3 17 8,.m 2 18])) .skip)) (.q [.m 19 2,.m 20 0,.z 21 (.cvInt .u8 (.t 20)),.z 22 (.ixStr (.c (.str [0,1,2,2,3,3,3,3,4,4,4,4,4,4,4,4,5,5,5,5,5,5,5,5,5,5,5,5,5,5,5,5,6,6,6,6,6,6,6,6,6,6,6,6,6,6,6,6,6,6,6,6,6,6,6,6,6,6,6,6,6,6,6,6,7,7,7,7,7,7,7,7,7,7,7,7,7,7,7,7,7,7,7,7,7,7,7,7,7,7,7,7,7,7,7,7,7,7,7,7,7,7,7,7,7,7,7,7,7,7,7,7,7,7,7,7,7,7,7,7,7,7,7,7,7,7,7,7,8,8,8,8,8,8,8,8,8,8,8,8,8,8,8,8,8,8,8,8,8,8,8,8,8,8,8,8,8,8,8,8,8,8,8,8,8,8,8,8,8,8,8,8,8,8,8,8,8,8,8,8,8,8,8,8,8,8,8,8,8,8,8,8,8,8,8,8,8,8,8,8,8,8,8,8,8,8,8,8,8,8,8,8,8,8,8,8,8,8,8,8,8,8,8,8,8,8,8,8,8,8,8,8,8,8,8,8,8,8,8,8,8,8,8,8,8,8,8,8,8,8,8,8,8,8,8,8])) (.t 21)),.z 23 (.cvInt .i64 (.t 22)),.c 24 .add 3 19 23,.m 2 24] .ret)))))
def r_math_bits_Len64:Oz Tryz.prog 188=some ⟨25,z1q.r,[.tmp 2]⟩:=Aa
def ir(a:Int):O2 195 [.i a] (.bool false) []:=by
 refine P4.val rfl (O0 r_cmp_isNaN_int Aa N ?_);simp[z9j]
def si(a b:Int):O2 184 [.i a,.i b] (.bool (decide (a<b))) []:=by
 refine P4.val rfl (O0 r_cmp_Less_int Aa N ?_);simp[zb5];refine Pm (ir a) N ?_;simp
def zt8(l:List Int)(hl:l.length≤1000)(V:Ok)(p k st:Nat)(hp:V[p]?=some (.dyn (l.map .i) l.length 1 k st))(gF:LV→Ok→Prop)
  (hK:∀g j,g.length=l.length→(∀x,x∈g↔x∈l)→tb g l.length→gF (.tup []) (V.set p (.dyn (g.map .i) l.length 1 k j))) :
  Qa (.fn 178) [.dy p k,.i 0,.i l.length] V gF:=by
 refine O0 r_slices_insertionSortOrdered_int Aa (by simp) ?_;simp[z25];have X:p<V.length:=(Jx.1 hp).1;have F:V=V.set p (.dyn (l.map .i) l.length 1 k st):=by
  have:=(Jx.1 hp).2;rw[←this,List.set_getElem_self]
 have G:∀x,(V.set p x)[p]?=some x:=λx=>by simp[X]
 refine Ql (λK gg L N=>∃(i:Nat) (g:List Int) (j:Nat),gg=[]∧L=V.set p (.dyn (g.map .i) l.length 1 k j)∧N+i=l.length+1∧1≤i∧lk K 0=.dy p k∧lk K 1=.i 0∧lk K 2=.i l.length∧lk K 6=.i i∧g.length=l.length∧(∀x,x∈g↔x∈l)∧tb g i)
  (N:=l.length) ⟨1,l,st,rfl,F,J,J,by simp,by simp,by simp,by simp,rfl,λ_=>Iff.rfl,λu v D E=>J⟩ ?_
 rintro N K gg L ⟨i,g,j,rfl,rfl,hN,gB,C,D,E,H,z,A,M⟩ Nx Y;by_cases hi:l.length≤i
 ·have gC:¬i<l.length:=J
  simp[E,H,gC];exact hK g j z A λu v Z hv=>M u v Z J
 ·have gC:i<l.length:=J
  simp[E,H,gC];refine Ql (λK gg L N=>∃(gA:Nat) (g:List Int) (j:Nat),gg=[]∧L=V.set p (.dyn (g.map .i) l.length 1 k j)∧N=gA∧gA≤i∧lk K 0=.dy p k∧lk K 1=.i 0∧lk K 2=.i l.length∧lk K 6=.i i∧lk K 7=.i gA∧g.length=l.length∧(∀x,x∈g↔x∈l)∧fa g i gA)
   (N:=i) ⟨i,g,j,rfl,rfl,rfl,J4 _,As,Ae,Ak,Am,by simp,z,A,ztu M⟩ ?_
  rintro B K gg L ⟨gA,g,j,rfl,rfl,rfl,O,C,D,E,H,P,z,A,M⟩ gD Q;have R:∀I,lk I 0=.dy p k→lk I 1=.i 0→lk I 2=.i l.length→lk I 6=.i (i+1)→(B=0∨gd g (B-1)≤gd g B)→Nx I [] (V.set p (.dyn (g.map .i) l.length 1 k j)):=λI f0 f1 f2 f6 h =>
   Y _ _ _ ⟨N-1,J,i+1,g,j,rfl,rfl,J,J,f0,f1,f2,by simp[f6],z,A,et O M h⟩
  by_cases hj:B=0
  ·have T:¬0<B:=J
   simp[D,P,H,T];exact⟨J,R _ As Ae Ak (by simp) (.inl hj)⟩
  ·have T:0<B:=J
   have hc:=Wz (f:=LV.i) (Ys (l:=g) (u:=B) J);have U:=Wz (f:=LV.i) (Ys (l:=g) (u:=B-1) J);have e1:((B:Int)-1).toNat=B-1:=J
   have g1:B<l.length:=J
   have g2:(1:Int)≤B:=J
   have g3:(B:Int)-1<l.length:=J
   simp[C,D,P,T,G,g1];simp[Ov hc,C,P,G,e1,g2];refine⟨J,J,?_⟩;simp[Ov U];refine Pm (si (gd g B) (gd g (B-1))) (by simp) ?_;by_cases hb:gd g B<gd g (B-1)
   ·simp[hb,C,P];refine⟨J,?_⟩;simp[G,g2,g3,Ov U,Ov hc,g1,C,P,e1];refine⟨J,?_⟩;rw[zov g B _ J,zov _ (B-1) _ Ab];have e2:((B-1:Nat):Int)=B-1:=J
    refine⟨Ab,J,Q _ _ _ ⟨B-1,J,B-1,yw g B,_,rfl,rfl,rfl,J,As,Ae,Ak,Am,by simp[e2],by rw[ziq,z],λx=>by rw[oh T J,A],qy T O J M hb⟩⟩
   ·simp[hb,H];exact⟨J,R _ As Ae Ak (by simp) (.inr J)⟩
def b9(n:Nat)(h:n≤4):O2 188 [.u (UInt64.ofNat n)] (.i ([0,1,2,2,3].getD n 0)) []:=by
 refine P4.val rfl (O0 r_math_bits_Len64 Aa N ?_)
 match n,h with
 |0,_ =>
  simp[z1q];simp[show (uB 0).toNat=0 from Fo]
 |1,_ =>
  simp[z1q];simp[show (uB 1).toNat=1 from Fo]
 |2,_ =>
  simp[z1q];simp[show (uB 2).toNat=2 from Fo]
 |3,_ =>
  simp[z1q];simp[show (uB 3).toNat=3 from Fo]
 |4,_ =>
  simp[z1q];simp[show (uB 4).toNat=4 from Fo]
def Len_ok(n:Nat)(h:n≤4):O2 163 [.u (UInt64.ofNat n)] (.i ([0,1,2,2,3].getD n 0)) []:=by
 refine P4.val rfl (O0 r_math_bits_Len Aa N ?_);simp[z95];refine Pm (b9 n h) N ?_;simp
def xm(l:List Int)(x:Int)(P:l.length≤4)(A:Ok)(p k st:Nat)(C:A[p]?=some (.dyn (l.map .i) l.length 1 k st))(M:LV→Ok→Prop)
  (D:∀j g,j.length=l.length→(∀x,x∈j↔x∈l)→tb j l.length→M (.tup []) (A.set p (.dyn (j.map .i) l.length 1 k g))) :
  Qa (.fn 162) [.dy p k,.i 0,.i l.length,.i x] A M:=by
 refine O0 r_slices_pdqsortOrdered_int Aa (by simp) ?_;simp[z38];refine Ql (λB O z Q=>O=[]∧z=A∧lk B 0=.dy p k∧lk B 1=.i 0∧lk B 2=.i l.length) (N:=0) (by simp) ?_;rintro Q B O z ⟨rfl,rfl,E,F,G⟩ R H;have T:(l.length:Int)≤12:=J
 simp[E,F,G,T];refine⟨J,zt8 l J z p k st C _ λj g I K L=>?_⟩;simp;exact D j g I K L
def iU_of{n:Nat}(h:n≤4):iU (n:Int)=UInt64.ofNat n:=Mc.1 (by rw[qx J,UInt64.toNat_ofNat_of_lt' (by simp[UInt64.size];omega)])
def rv(l:List Int)(z:l.length≤4)(B:Ok)(p k st:Nat)(A:B[p]?=some (.dyn (l.map .i) l.length 1 k st))(G:LV→Ok→Prop)
  (C:∀j g,j.length=l.length→(∀x,x∈j↔x∈l)→tb j l.length→G (.tup []) (B.set p (.dyn (j.map .i) l.length 1 k g))) :
  Qa (.fn 143) [.dy p k] B G:=by
 refine O0 r_slices_Sort_int_int Aa N ?_;simp[z58,A];rw[iU_of z];refine Pm (Len_ok l.length z) N ?_;simp;refine xm l _ z B p k st A _ λj g D E F=>?_
 simp;exact C j g D E F
section
def z4d:LC:=(.q [.x 5 0] (.seq (.q [.m 10 4,.f 11 0 5,.f 12 2 11,.l 13 12,.c 14 .lss 3 10 13] (.cond (.t 14) (.q [.m 15 1,.m 16 2,.f 17 0 5,.L 18 3 17,.m 19 3,.m 20 4,.z 21 (.w 108 [.t 15,.t 16,.t 18,.t 19,.t 20])] .ret) .skip)) (.ops [.m 22 1,.m 23 2,.f 24 3 5,.l 25 24,.V 26 117 22 23 25])))
def r_expand_row_limb:Oz Tryz.prog 101=some ⟨27,z4d.r,[]⟩:=Aa
def z6v:LC:=(.q [.x 3 1,.z 4 (.alloc [(.i 0),(.i 0),(.i 0),(.i 0)])] (.seq (.draw [(.L 5 3 3,[]),(.m 6 0,[]),(.N 7 6,[]),(.f 8 1 7,[]),(.l 9 8,[]),(.z 10 (.build [(.i 0),(.i 0),(.i 0),(.i 0)] [(0,3,.t 5),(3,1,.t 9)]),[]),(.S 4 4 10,[])]) .ret))
def r_expand_coder_row:Oz Tryz.prog 100=some ⟨11,z6v.r,[.cellN 4 4]⟩:=Aa
def z5p:LC:=(.q [.x 6 2] (.q [.m 13 1,.z 14 (.buildSl 1 2 [(.i 0),(.i 0)] [(0,1,.k 0),(1,1,.t 13)]),.m 8 14] (.seq (.q [.m 15 3,.s 16 15,.K 17 0] (.block 0 (.loop (.q [.c 18 .lss 3 17 16] (.seq (.cond (.t 18) .skip (.exit 0)) (.seq (.block 1 (.q [.I 19 4 15 17,.L 20 4 19,.z 10 (.alloc [(.i 0),(.i 0),(.i 0),(.i 0)]),.S 4 10 20] (.ops [.m 21 8,.f 22 0 10,.f 23 2 22,.l 24 23,.m 25 1,.z 26 (.maxi false (.t 24) (.t 25)),.z 27 (.buildSl 1 1 [(.i 0)] [(0,1,.t 26)]),.a 28 1 21 27,.m 8 28]))) (.ops [.b 29 .add 3 17 1,.m 17 29]))))))) (.q [.m 30 8,.w 31 143 30] (.q [.m 32 8,.m 33 8,.s 34 33,.b 35 .sub 3 34 1,.z 36 (.slSl 1 (.t 32) none (some (.t 35))),.s 37 36,.K 38 0] (.block 2 (.loop (.q [.c 39 .lss 3 38 37] (.seq (.cond (.t 39) .skip (.exit 2)) (.seq (.block 3 (.q [.m 40 38,.I 41 1 36 38,.l 42 41,.z 12 (.alloc [(.i 0)]),.m 11 40,.S 1 12 42] (.draw [(.m 43 0,[]),(.m 44 8,[]),(.m 45 11,[]),(.b 46 .add 3 45 1,[]),(.I 47 1 44 46,[]),(.l 48 47,[]),(.l 49 12,[]),(.c 50 .sub 3 48 49,[]),(.z 51 (.mkFunc 144 [] [.t 6,.t 12]),[]),(.V 52 106 43 50 51,[])]))) (.ops [.b 53 .add 3 38 1,.m 38 53])))))))))))
def r_expand_Emit_ranges:Oz Tryz.prog 102=some ⟨54,z5p.r,[]⟩:=Aa
def z49:LC:=(.ops [.l 4 1,.m 5 0,.l 6 2,.z 7 (.callV (.t 4) [.t 5,.t 6])])
def r_expand_Emit_ranges_1:Oz Tryz.prog 144=some ⟨8,z49.r,[]⟩:=Aa
def P8(e:Nat)(R:Int)(d d2 a b c w:Pc):List LV :=
 [.ptr e 0,.i R,.i (R+1),.i (R+2),.i (R+3),.i (R+4),.i (R+5),.i (R+6),.i (R+7),.i (R+8),.i (R+9),.i (R+10),.i (R+11),
  .i d.buf,.i d.at_,.i d.size,.i d2.buf,.i d2.at_,.i d2.size,.i a.buf,.i a.at_,.i a.size,.i b.buf,.i b.at_,.i b.size,.i c.buf,.i c.at_,.i c.size,.i w.buf,.i w.at_,.i w.size]
def Vs(p:Pc)(R:Int):List LV:=[.i p.buf,.i p.at_,.i p.size,.i R]
section put
variable {G : Ok} {K : LV → Ok → Prop} {e P st : Nat} {ops : List Lo} {deep R : Int} {d d2 a b c w p : Pc}
def R0{G1:Ok}(h:P1 G e ops deep)(g:∀x,x<G.length→G1[x]?=G[x]?)(B:G.length≤G1.length):P1 G1 e ops deep∧Kp e G G1:=by
 obtain⟨C,D,j,z⟩:=id h;have E:e<G.length:=(Jx.1 j).1;exact⟨⟨C,D,(g e E).trans j,z.keep λq I F=>g q (z.lt F).2⟩,B,λq H _ _ A=>(g q (Jx.1 A).1).trans A⟩
def zd2(g:G[P]?=some (.cells (P8 e R d d2 a b c w) st))(k:∀j,(∀x,x<G.length→j[x]?=G[x]?)→G.length≤j.length→K (.agg (Vs p R)) j):Qa (.fn 100) [.ptr P 0,.agg p.f] G K:=by
 refine O0 r_expand_coder_row Aa N ?_;have z:=(Jx.1 g).1;unfold P8 at g;simp[z6v,Pc.f,↓Oo z,g];exact k _ (λx A=>J6 A) N
def zjn{x i:Int}(E:-1000000000≤p.at_+z∧p.at_+z≤1000000000)(h:P1 G e ops deep)(C:ops.length≤1000000)(k:∀g,P1 g e (ops++[Sq p R x i z]) deep→Kp e G g→K (.tup []) g) :
  Qa (.fn 101) [.agg (Vs p R),.ptr e 0,.i x,.i i,.i z] G K:=by
 refine O0 r_expand_row_limb Aa N ?_;unfold Sq at k;by_cases D:z<p.size
 ·rw[J8 D]at k;simp[z4d,Vs,D];refine zew (p:=p) E (h.app _) C λj A B=>?_
  simp;exact k j A ((Kp.app' _ _ _).trans B)
 ·rw[J2 D]at k;simp[z4d,Vs,D];refine fv (h.app _) C λj A B=>?_
  simp;exact k j A ((Kp.app' _ _ _).trans B)
def zol{f y:Nat}{cap:List LV}{D:Int}(C:G[g]?=some (.cells [.fn (.func f) [] cap] j))(E:G[y]?=some (.cells [.i z] A))
  (F:Qa (.fn f) (.i D::.i z::cap) G λ_ B=>K (.tup []) B):Qa (.fn 144) [.i D,.ptr g 0,.ptr y 0] G K:=by
 refine O0 r_expand_Emit_ranges_1 Aa N ?_;simp[z49,C,E];refine F.mono λv B h=>?_
 simpa using h
def zqt{D:Int}{body:Int→List Lo}:∀(l:List Int) (x y:Int),(Ph D body (l++[x,y])).flat=(Ph D body (l++[x])).flat++(Rs D (y-x) (Pr (body x))).flat
 |[],x,y=>by simp[Ph,Fr.cat,T1,Fr.flat]
 |[a],x,y=>by
  show (Ph D body [a,x,y]).flat=(Ph D body [a,x]).flat++_;simp[Ph,T1,Fr.flat]
 |a::g::l,x,y=>by
  have j:=zqt (D:=D) (body:=body) (g::l) x y;show ((Rs D (g-a) (Pr (body a))).cat (Ph D body (g::l++[x,y]))).flat=((Rs D (g-a) (Pr (body a))).cat (Ph D body (g::l++[x]))).flat++_;rw[T1,j,T1,Kz]
def rwC(R:Int)(rs:List Pc):List LV:=rs.flatMap λp=>Vs p R
def zii{n:Int}{f q:Nat}{cap:List LV}{body:Int→List Lo}{rs:List Pc}{L:List Int}(hd:0≤deep∧deep≤50)(hn:0≤n∧n≤1000000)(hr:rs.length≤2)(gC:∀p∈rs,0≤p.size∧p.size≤1000000)(hL:L.Pairwise (·≤·))(hm:∀x,x∈[0,n]++rs.map (λp=>min p.size n)↔x∈L)(hb:∀x,(body x).length≤100)
  (hq:G[q]?=some (.dyn (rwC R rs) rs.length 4 0 g)) (h:P1 G e ops deep) (hl:ops.length≤800000)
  (gD:∀(G1:Ok) (H:List Lo) (O:Int) (K':LV→Ok→Prop),P1 G1 e H (deep+1)→Kp e G G1→H.length≤900010→0≤O∧O≤1000000→(∀G2,P1 G2 e (H++body O) (deep+1)→Kp e G1 G2→K' (.tup []) G2)→Qa (.fn f) (.i deep::.i O::cap) G1 K')
  (k:∀G',P1 G' e (ops++(Ph deep body L).flat) deep→Kp e G G'→K (.tup []) G') :
  Qa (.fn 102) [.ptr e 0,.i n,.fn (.func f) [] cap,.dy q 0] G K:=by
 refine O0 r_expand_Emit_ranges Aa (by simp) ?_;have lq:=(Jx.1 hq).1;have le:e<G.length:=Au
 simp[z5p,↓Oo lq,hq];refine Ql (λρ D G1 N=>∃(i:Nat) (v:LV),D=[]∧N+i=rs.length∧lk ρ 0=.ptr e 0∧lk ρ 1=.i n∧lk ρ 6=.ptr G.length 0∧lk ρ 8=v∧lk ρ 15=.dy q 0∧lk ρ 16=.i rs.length∧lk ρ 17=.i i∧G.length+1≤G1.length∧(∀x,x<G.length→G1[x]?=G[x]?)∧G1[G.length]?=some (.cells [.fn (.func f) [] cap] 0)∧Qt (G.length+1) G1 v 1 (2+i) (([0,n]++(rs.take i).map λp=>min p.size n).map .i)) (N:=rs.length)
  ⟨0,.dy (G.length+1) 0,rfl,rfl,by simp,by simp,by simp,by simp,by simp,by simp,by simp,by simp,λx z=>J6 z,by simp,rfl,by simp,.inr ⟨G.length+1,0,0,J4 _,rfl,by simp⟩⟩ ?_
 rintro N ρ D G1 ⟨i,v,rfl,hN,h0,h1,h6,Y,gg,Q,T,gl,go,gz,hD⟩ Nx U;by_cases gU:i<rs.length
 ·have hg:=J5 gU;have q4:=zbj (f:=λp=>Vs p R) (k:=4) (λ_=>rfl) hg;have l4:=zsh (f:=λp=>Vs p R) (k:=4) (λ_=>rfl) gU;have gF:rs[i]∈rs:=Na gU;have gV:rs.take (i+1)=rs.take i++[rs[i]]:=K6 gU;generalize rs[i]=p at *;have gX:G1[q]?=_:=(go q lq).trans hq;have gY:((rwC R rs).drop (i*4)).take 4=Vs p R:=q4;have gZ:i*4+4≤(rwC R rs).length:=l4;have hp:=gC p gF;simp[h0,h1,h6,Y,gg,Q,T,gU,gX,gY,gZ,Vs];refine Qt.push2 (c:=1) (x:=[LV.i (min p.size n)]) hD.push_end J Ab J rfl rfl λv' G2 jg jz jA _ _=>?_
  simp[T];have nv:∀x,x<G.length+1→∀E,v≠.dy x E:=λx z E e=>by have:=(hD.lt e).1;omega
  have ff:∀x,x<G.length+1→G2[x]?=G1[x]?:=λx z=>by
   rw[jz x Ab (nv x z)];exact J6 J
  simp at jA;refine⟨J,U _ _ _ ⟨N-1,J,i+1,v',rfl,J,by simp[h0],by simp[h1],by simp[h6],by simp,Ch,Ee,by simp,J,λx z=>(ff x J).trans (go x z),(ff _ J).trans gz,?_⟩⟩;rw[gV,(J:2+(i+1)=2+i+1)];simpa using jg
 have gi:i=rs.length:=J
 subst gi;rw[My]at hD;obtain⟨gG,hE⟩:∃gG,[0,n]++rs.map (λp=>min p.size n)=gG:=⟨_,rfl⟩;rw[hE]at hD hm;have jB:gG.length=2+rs.length:=by rw[←hE];simp;omega
 have jC:∀x∈gG,0≤x∧x≤1000000:=by
  rw[←hE];intro x z;rcases Ks.1 z with z|z
  ·simp at z;omega
  ·obtain⟨p,hp,rfl⟩:=Nm.1 z;have:=gC p hp;omega
 clear U hE;obtain⟨_,_,⟨_,hz,_⟩|⟨F,M,se,jI,rfl,V⟩⟩:=hD
 ·omega
 rw[←jB]at V;simp[Y,Q,T];refine rv gG J _ F M se V _ λj s1 e1 e2 e3=>?_
 have gH:=(Jx.1 V).1;have X:(G1.set F (.dyn (j.map .i) gG.length 1 M s1))[F]?=some (.dyn (j.map .i) gG.length 1 M s1):=J1 gH;have gI:(G1.set F (.dyn (j.map .i) gG.length 1 M s1))[G.length]?=_:=(Jy J).trans gz;have gK:∀x,x<G.length→(G1.set F (.dyn (j.map .i) gG.length 1 M s1))[x]?=G[x]?:=λx z=>(Jy J).trans (go x z)
 have jD:G.length+1≤(G1.set F (.dyn (j.map .i) gG.length 1 M s1)).length:=by simpa using gl
 generalize G1.set F (.dyn (j.map .i) gG.length 1 M s1)=G2 at *;clear gz go gl V gH;obtain⟨C,A⟩:=R0 h gK J;have Z:∀x∈j,0≤x∧x≤1000000:=λx z=>jC x ((e2 x).1 z)
 rw[←e1]at X;obtain⟨gT,hM⟩:∃gT,rs.length+1=gT:=⟨_,rfl⟩;have gL:j.length=gT+1:=J
 rw[gL]at X;rw[←seg_eq (D:=deep) (body:=body) (l:=j) (by rw[e1];exact e3) hL λx=>(e2 x).trans (hm x)]at k;simp[Y,X];refine⟨J,?_⟩;refine Ql (λρ D I N=>∃(E:Nat),D=[]∧N+E=gT∧lk ρ 0=.ptr e 0∧lk ρ 6=.ptr G.length 0∧lk ρ 8=.dy F M∧lk ρ 36=.vw F M 0 gT∧lk ρ 37=.i gT∧lk ρ 38=.i E∧I[G.length]?=some (.cells [.fn (.func f) [] cap] 0)∧I[F]?=some (.dyn (j.map .i) (gT+1) 1 M s1)∧P1 I e (ops++(Ph deep body (j.take (E+1))).flat) deep∧Kp e G I) (N:=gT)
  ⟨0,rfl,rfl,by simp[h0],by simp[h6],Fe,by simp,by simp,by simp,gI,X,?_,A⟩ ?_
 ·have:(Ph deep body (j.take (0+1))).flat=[]:=by
   cases j with
   |nil=>rfl
   |cons x l=>rfl
  rw[this,Lf];exact C
 clear h0 h1 h6 Y gg Q T gI X C A gK jD;rintro N ρ D I ⟨E,rfl,hN,h0,h6,Y,gM,gA,gB,gz,X,C,A⟩ Nx U;by_cases gU:E<gT
 ·have z:=Ys (l:=j) (u:=E) J;have hy:=Ys (l:=j) (u:=E+1) J;have mx:=Z _ (Kg z);have my:=Z _ (Kg hy);have t1:j.take (E+1)=j.take E++[gd j E]:=by rw[List.take_add_one,z];rfl
  have t2:j.take (E+2)=j.take E++[gd j E,gd j (E+1)]:=by rw[List.take_add_one,hy,Option.toList,t1];simp
  have jE:=Wz (f:=LV.i) z;have jF:=Wz (f:=LV.i) hy;generalize gd j E=x at *;generalize gd j (E+1)=y at *;have lz:=(Jx.1 gz).1;have lp:=(Jx.1 X).1;have g1:∀ob:List LObj,(I++ob)[F]?=_:=λob=>(Oo lp).trans X
  have g2:∀ob:List LObj,(I++ob)[G.length]?=_:=λob=>(Oo lz).trans gz
  have jH:(Ph deep body (j.take (E+1))).flat.length≤2000:=by
   have:=zjd (D:=deep) hb (j.take (E+1));have h2:(j.take (E+1)).length≤4:=Ab
   have h3:=Ki (100+2) h2;omega
  simp[h0,h6,Y,gM,gA,gB,gU,X,↓g1,Ov jE,Ov jF,gL];refine⟨J,J,J,?_⟩;have gO:G.length≠e:=J
  have jK:e<I.length:=by have:=A.1;omega
  have jG:I.length≠e:=J
  refine zf9 (fst:=[]) (cap:=[.ptr G.length 0,.ptr I.length 0]) (B:=Pr (body x)) J (C.app _) Ab (by rw[flat_frL];have:=hb x;omega) (λG4 gR K' h4 k4 l4 hk=>?_) λG4 h4 k4=>?_
  ·refine zol (k4.cells gO (g2 _)) (k4.cells jG Ke) ?_;refine gD G4 gR x _ h4 (A.trans ((Kp.app' _ _ _).trans k4)) J mx λG5 h5 k5=>?_
   exact hk G5 (by rw[flat_frL];exact h5) k5
  ·simp[gB];refine⟨J,U _ _ _ ⟨N-1,J,E+1,rfl,J,by simp[h0],by simp[h6],Fe,by simp[gM],by simp[gA],by simp,k4.cells gO (g2 _),k4.2 F _ J (λ_ _ _ _ q=>Gn) (g1 _),?_,A.trans ((Kp.app' _ _ _).trans k4)⟩⟩;rw[(J:E+1+1=E+2),t2,zqt,←t1,←Kz];exact h4
 ·have gi:E=gT:=J
  subst gi;rw[Kf J]at C;simp[gA,gB];exact k I C A
end put
end
section
def z5q:LC:=(.q [.x 7 0,.x 8 1,.x 9 2,.x 10 3,.x 11 4,.x 13 6] (.seq (.draw [(.l 16 7,[]),(.L 17 3 10,[]),(.l 20 7,[]),(.L 21 3 11,[]),(.z 14 (.alloc [.nilFn]),[(.L 21 3 11,false),(.l 20 7,false),(.L 17 3 10,false),(.l 16 7,false)]),(.z 15 (.alloc [.nilFn]),[(.z 14 (.alloc [.nilFn]),true),(.L 21 3 11,false),(.l 20 7,false),(.L 17 3 10,false),(.l 16 7,false)]),(.W 18 100 16 17,[(.z 15 (.alloc [.nilFn]),true),(.z 14 (.alloc [.nilFn]),true),(.L 21 3 11,false),(.l 20 7,false)]),(.z 19 (.mkFunc 101 [.t 18] []),[]),(.W 22 100 20 21,[(.z 15 (.alloc [.nilFn]),true),(.z 14 (.alloc [.nilFn]),true)]),(.z 23 (.mkFunc 101 [.t 22] []),[]),(.S 1 14 19,[]),(.S 1 15 23,[])]) (.seq (.draw [(.l 24 7,[]),(.N 25 24,[]),(.f 26 0 25,[]),(.l 27 26,[]),(.l 28 7,[]),(.N 29 28,[]),(.f 30 2 29,[]),(.l 31 30,[]),(.z 32 (.w 59 [.t 27,.t 31,.c (.u 0)]),[])]) (.draw [(.l 33 7,[]),(.N 34 33,[]),(.f 35 0 34,[]),(.l 36 35,[]),(.m 37 5,[]),(.z 38 (.mkFunc 104 [] [.t 14,.t 7,.t 15,.t 8,.t 13,.t 9]),[]),(.l 39 7,[]),(.L 40 3 10,[]),(.l 42 7,[]),(.L 43 3 11,[]),(.W 41 100 39 40,[(.L 43 3 11,false),(.l 42 7,false),(.l 36 35,false),(.l 33 7,false)]),(.W 44 100 42 43,[(.l 36 35,false),(.l 33 7,false)]),(.z 45 (.buildSl 4 2 [(.i 0),(.i 0),(.i 0),(.i 0),(.i 0),(.i 0),(.i 0),(.i 0)] [(0,4,.t 41),(4,4,.t 44)]),[(.l 36 35,false),(.l 33 7,false)]),(.z 46 (.w 102 [.t 36,.t 37,.t 38,.t 45]),[])]))))
def r_expand_coder_chain:Oz Tryz.prog 62=some ⟨47,z5q.r,[]⟩:=Aa
def z47:LC:=(.seq (.draw [(.l 10 2,[]),(.l 11 3,[]),(.N 12 11,[]),(.f 13 0 12,[]),(.l 14 13,[]),(.l 15 3,[]),(.N 16 15,[]),(.f 17 3 16,[]),(.z 18 (.ixAddrArr 10 1 (.t 17) (.k 0)),[]),(.l 19 18,[]),(.m 20 0,[]),(.m 21 1,[]),(.z 22 (.callV (.t 10) [.t 14,.t 19,.t 20,.t 21]),[])]) (.seq (.draw [(.l 23 4,[]),(.l 24 3,[]),(.N 25 24,[]),(.f 26 0 25,[]),(.l 27 26,[]),(.l 28 3,[]),(.N 29 28,[]),(.f 30 3 29,[]),(.z 31 (.ixAddrArr 10 1 (.t 30) (.k 1)),[]),(.l 32 31,[]),(.m 33 0,[]),(.m 34 1,[]),(.z 35 (.callV (.t 23) [.t 27,.t 32,.t 33,.t 34]),[])]) (.seq (.draw [(.l 36 3,[]),(.N 37 36,[]),(.f 38 0 37,[]),(.l 39 38,[]),(.l 40 5,[]),(.l 41 3,[]),(.N 42 41,[]),(.f 43 3 42,[]),(.z 44 (.ixAddrArr 10 1 (.t 43) (.k 2)),[]),(.l 45 44,[]),(.l 46 3,[]),(.N 47 46,[]),(.f 48 2 47,[]),(.l 49 48,[]),(.l 50 3,[]),(.N 51 50,[]),(.f 52 3 51,[]),(.z 53 (.ixAddrArr 10 1 (.t 52) (.k 0)),[]),(.l 54 53,[]),(.l 55 3,[]),(.N 56 55,[]),(.f 57 3 56,[]),(.z 58 (.ixAddrArr 10 1 (.t 57) (.k 1)),[]),(.l 59 58,[]),(.l 60 3,[]),(.N 61 60,[]),(.f 62 2 61,[]),(.l 63 62,[]),(.z 64 (.w 105 [.t 39,.t 40,.t 45,.t 49,.t 54,.t 59,.t 63]),[])]) (.q [.l 65 6] (.cond (.t 65) (.draw [(.l 66 3,[]),(.N 67 66,[]),(.f 68 0 67,[]),(.l 69 68,[]),(.L 70 3 7,[]),(.m 71 0,[]),(.m 72 1,[]),(.l 73 3,[]),(.N 74 73,[]),(.f 75 3 74,[]),(.z 76 (.ixAddrArr 10 1 (.t 75) (.k 2)),[]),(.l 77 76,[]),(.z 78 (.w 98 [.t 69,.t 70,.t 71,.t 72,.t 77]),[])]) .skip)))))
def r_expand_coder_chain_1:Oz Tryz.prog 104=some ⟨79,z47.r,[]⟩:=Aa
def z51:LC:=(.q [.x 3 0,.x 4 1,.x 5 2] (.q [.l 7 3,.L 8 3 5,.W 9 100 7 8,.z 10 (.mkFunc 101 [.t 9] []),.z 6 (.alloc [.nilFn]),.S 1 6 10] (.draw [(.l 11 3,[]),(.N 12 11,[]),(.f 13 0 12,[]),(.l 14 13,[]),(.f 15 2 4,[]),(.l 16 15,[]),(.z 17 (.mkFunc 103 [] [.t 6,.t 3,.t 4]),[]),(.l 18 3,[]),(.L 19 3 5,[]),(.W 20 100 18 19,[(.l 16 15,false),(.l 14 13,false),(.l 11 3,false)]),(.z 21 (.buildSl 4 1 [(.i 0),(.i 0),(.i 0),(.i 0)] [(0,4,.t 20)]),[(.l 16 15,false),(.l 14 13,false),(.l 11 3,false)]),(.z 22 (.w 102 [.t 14,.t 16,.t 17,.t 21]),[])])))
def r_expand_coder_copies:Oz Tryz.prog 61=some ⟨23,z51.r,[]⟩:=Aa
def z40:LC:=(.seq (.draw [(.l 7 2,[]),(.l 8 3,[]),(.N 9 8,[]),(.f 10 0 9,[]),(.l 11 10,[]),(.l 12 3,[]),(.N 13 12,[]),(.f 14 3 13,[]),(.z 15 (.ixAddrArr 10 1 (.t 14) (.k 0)),[]),(.l 16 15,[]),(.m 17 0,[]),(.m 18 1,[]),(.z 19 (.callV (.t 7) [.t 11,.t 16,.t 17,.t 18]),[])]) (.draw [(.l 20 3,[]),(.N 21 20,[]),(.f 22 0 21,[]),(.l 23 22,[]),(.L 24 3 4,[]),(.m 25 0,[]),(.m 26 1,[]),(.l 27 3,[]),(.N 28 27,[]),(.f 29 3 28,[]),(.z 30 (.ixAddrArr 10 1 (.t 29) (.k 0)),[]),(.l 31 30,[]),(.z 32 (.w 98 [.t 23,.t 24,.t 25,.t 26,.t 31]),[])]))
def r_expand_coder_copies_1:Oz Tryz.prog 103=some ⟨33,z40.r,[]⟩:=Aa
section put
variable {G : Ok} {K : LV → Ok → Prop} {e P st : Nat} {ops : List Lo} {deep R : Int} {d d2 a b c w p q to : Pc}
def znj(ho:0≤B∧B≤1000000)(hp:-1000000≤p.at_∧p.at_≤1000000)(ht:-1000000≤to.at_∧to.at_≤1000000)
  (Q:G[g]?=some (.cells [.fn (.func 101) [.agg (Vs p R)] []] M)) (O:G[j]?=some (.cells [.ptr P 0] Z)) (T:j≠e) (U:G[A]?=some (.cells to.f vI)) (V:A≠e)
  (D:G[P]?=some (.cells (P8 e R d d2 a b c w) st)) (F:P≠e) (h:P1 G e ops deep) (hl:ops.length≤900010) (k:∀H,P1 H e (ops++Zj to p R z B) deep→Kp e G H→K (.tup []) H) :
  Qa (.fn 103) [.i z,.i B,.ptr g 0,.ptr j 0,.ptr A 0] G K:=by
 refine O0 r_expand_coder_copies_1 Aa N ?_;have hQ:=D;unfold P8 at D;simp[z40,Q,O,D];refine zjn (p:=p) J h J λG1 X E=>?_
 have I:=E.cells T O;have C:=E.cells V U;have L:=E.cells F D;unfold Pc.f at C;simp[I,C,L];refine z7n (p:=to) J X Ab λY e2 k2=>?_
 simp;exact k Y (by simpa [Zj] using e2) (E.trans k2)
def zaf(hd:0≤deep∧deep≤50)(hp:-1000000≤p.at_∧p.at_≤1000000)(F:0≤p.size∧p.size≤1000000)(ht:-1000000≤to.at_∧to.at_≤1000000)(H:0≤to.size∧to.size≤1000000)
  (hP:G[P]?=some (.cells (P8 e R d d2 a b c w) st)) (I:P≠e) (h:P1 G e ops deep) (hl:ops.length≤800000) (k:∀Y,P1 Y e (ops++(R1 to p R deep).flat) deep→Kp e G Y→K (.tup []) Y) :
  Qa (.fn 61) [.ptr P 0,.agg to.f,.agg p.f] G K:=by
 refine O0 r_expand_coder_copies Aa N ?_;have hQ:=hP;have lP:=(Jx.1 hP).1;have le:e<G.length:=Au
 obtain⟨A,g⟩:∃A,A=G++[LObj.cells [.ptr P 0] 0,LObj.cells [.i to.buf,.i to.at_,.i to.size] 0,LObj.cells [.i p.buf,.i p.at_,.i p.size] 0]:=⟨_,rfl⟩;have o0:∀x,x<G.length→A[x]?=G[x]?:=λx M=>by rw[g];exact J6 M
 have l0:A.length=G.length+3:=Ba
 have a1:A[G.length]?=some (.cells [.ptr P 0] 0):=Ba
 have a2:A[G.length+1]?=some (.cells [.i to.buf,.i to.at_,.i to.size] 0):=Ba
 have a3:A[G.length+2]?=some (.cells [.i p.buf,.i p.at_,.i p.size] 0):=Ba
 have aP:=(o0 P lP).trans hQ;obtain⟨e0,k0⟩:=R0 h o0 J;simp[z51,Pc.f];rw[←g];refine zd2 (p:=p) aP λO Q l1=>?_
 have b1:=(Q _ J).trans a1;have b2:=(Q _ J).trans a2;have b3:=(Q _ J).trans a3;have X:=(Q _ J).trans aP;obtain⟨e1,k1⟩:=R0 e0 Q J;have Z:=X;unfold P8 at X;obtain⟨T,j⟩:∃T,T=O++[LObj.cells [.fn (.func 101) [.agg (Vs p R)] []] 1]:=⟨_,rfl⟩;have B:∀x,x<O.length→T[x]?=O[x]?:=λx M=>by rw[j];exact J6 M
 have l2:T.length=O.length+1:=by rw[j];simp
 have c1:=(B _ J).trans b1;have c2:=(B _ J).trans b2;have c3:=(B _ J).trans b3;have cP:=(B _ J).trans X;have cQ:=(B _ J).trans Z;have c4:T[O.length]?=some (.cells [.fn (.func 101) [.agg (Vs p R)] []] 1):=by rw[j];exact Ke
 obtain⟨e2,k2⟩:=R0 e1 B J;simp[b1,b2,b3,X]
 try rw[←j]
 simp[c1,c2,c3,cP];refine zd2 (p:=p) cQ λU C l3=>?_
 obtain⟨V,z⟩:∃V,V=U++[LObj.dyn [.i p.buf,.i p.at_,.i p.size,.i R] 1 4 0 0]:=⟨_,rfl⟩;have D:∀x,x<U.length→V[x]?=U[x]?:=λx M=>by rw[z];exact J6 M
 have l4:V.length=U.length+1:=by rw[z];simp
 have f1:=(C _ J).trans c1;have f2:=(C _ J).trans c2;have fP:=(C _ J).trans cP;have g1:=(D _ J).trans f1;have g2:=(D _ J).trans f2;have g4:=(D _ J).trans ((C _ J).trans c4);have gP:=(D _ J).trans fP;have gQ:=(D _ J).trans ((C _ J).trans cQ);have g5:V[U.length]?=some (.dyn (rwC R [p]) [p].length 4 0 0):=by rw[z];exact Ke
 obtain⟨e3,k3⟩:=R0 e2 C J;obtain⟨e4,k4⟩:=R0 e3 D J;simp[Vs,c1,c2,c3,cP,f1,f2,fP]
 try rw[←z]
 simp[g1,g2,gP];refine zii (rs:=[p]) (L:=Yl to.size p.size) (body:=Zj to p R deep) hd H N (by simpa using F) (zs9 H.1 F.1) (λx=>zuk) (λx=>by simp[Zj]) g5 e4 hl (λG5 gg gA K' e5 E l5 ho hk=>?_) λG5 e5 E=>?_
 ·exact znj (p:=p) (to:=to) ho hp ht (E.cells J g4) (E.cells J g1) J (E.cells J g2) J (E.cells I gQ) I e5 l5 hk
 ·simp;exact k G5 e5 (k0.trans (k1.trans (k2.trans (k3.trans (k4.trans E)))))
def zrn{C:Bool}{s2 s3 s4 s5 s6:Nat}(ho:0≤vY∧vY≤1000000)(hp:-1000000≤p.at_∧p.at_≤1000000)(hq:-1000000≤q.at_∧q.at_≤1000000)(ht:-1000000≤to.at_∧to.at_≤1000000)
  (h1:G[g]?=some (.cells [.fn (.func 101) [.agg (Vs p R)] []] uY)) (h2:G[j]?=some (.cells [.ptr P 0] s2)) (V:j≠e) (h3:G[A]?=some (.cells [.fn (.func 101) [.agg (Vs q R)] []] s3)) (n3:A≠e) (h4:G[M]?=some (.cells [.i z] s4)) (n4:M≠e) (h5:G[Z]?=some (.cells [.bool C] s5)) (X:Z≠e) (h6:G[vI]?=some (.cells to.f s6)) (Y:vI≠e)
  (hP:G[P]?=some (.cells (P8 e R d d2 a b c w) st)) (E:P≠e) (h:P1 G e ops deep) (hl:ops.length≤900010) (k:∀G',P1 G' e (ops++Yf z to p q C R B vY) deep→Kp e G G'→K (.tup []) G') :
  Qa (.fn 104) [.i B,.i vY,.ptr g 0,.ptr j 0,.ptr A 0,.ptr M 0,.ptr Z 0,.ptr vI 0] G K:=by
 refine O0 r_expand_coder_chain_1 Aa N ?_;unfold P8 at hP;simp[z47,h1,h2,hP];refine zjn (p:=p) J h J λG1 e1 D=>?_
 have I:=D.cells V h2;have gg:=D.cells n3 h3;have gA:=D.cells n4 h4;have gB:=D.cells X h5;have gC:=D.cells Y h6;have L:=D.cells E hP;simp[I,gg,L];refine zjn (p:=q) J e1 Ab λG2 e2 F=>?_
 have O:=F.cells V I;have gD:=F.cells n4 gA;have gF:=F.cells X gB;have gG:=F.cells Y gC;have Q:=F.cells E L;simp[O,gD,Q];refine zh3 e2 Ab λG3 e3 H=>?_
 have gH:=H.cells V O;have T:=H.cells X gF;have U:=H.cells Y gG;have gI:=H.cells E Q;cases C with
 |false =>
  simp[T];exact k G3 (by simpa [Yf] using e3) (D.trans (F.trans H))
 |true =>
  unfold Pc.f at U;simp[T,gH,U,gI];refine z7n (p:=to) J e3 Ab λG4 e4 k4=>?_
  simp;exact k G4 (by simpa [Yf] using e4) (D.trans (F.trans (H.trans k4)))
def wm{kd n:Int}{keep:Bool}(hd:0≤deep∧deep≤50)(hn:0≤n∧n≤1000000)(hp:-1000000≤p.at_∧p.at_≤1000000)(U:0≤p.size∧p.size≤1000000)(hq:-1000000≤q.at_∧q.at_≤1000000)(V:0≤q.size∧q.size≤1000000)(ht:-1000000≤to.at_∧to.at_≤1000000)
  (hP:G[P]?=some (.cells (P8 e R d d2 a b c w) st)) (F:P≠e) (h:P1 G e ops deep) (hl:ops.length≤700000) (k:∀G',P1 G' e (ops++(S7 kd to p q n keep R deep).flat) deep→Kp e G G'→K (.tup []) G') :
  Qa (.fn 62) [.ptr P 0,.i kd,.agg to.f,.agg p.f,.agg q.f,.i n,.bool keep] G K:=by
 refine O0 r_expand_coder_chain Aa N ?_;have hQ:=hP;have lP:=(Jx.1 hP).1;have le:e<G.length:=Au
 obtain⟨z,g⟩:∃z,z=G++[LObj.cells [.ptr P 0] 0,LObj.cells [.i kd] 0,LObj.cells [.i to.buf,.i to.at_,.i to.size] 0,LObj.cells [.i p.buf,.i p.at_,.i p.size] 0,LObj.cells [.i q.buf,.i q.at_,.i q.size] 0,LObj.cells [.bool keep] 0,LObj.cells [.nilFn] 0,LObj.cells [.nilFn] 0]:=⟨_,rfl⟩;have o0:∀x,x<G.length→z[x]?=G[x]?:=λx X=>by rw[g];exact J6 X
 have l0:z.length=G.length+8:=Ba
 have a0:z[G.length]?=some (.cells [.ptr P 0] 0):=Ba
 have a1:z[G.length+1]?=some (.cells [.i kd] 0):=Ba
 have a2:z[G.length+2]?=some (.cells [.i to.buf,.i to.at_,.i to.size] 0):=Ba
 have a3:z[G.length+3]?=some (.cells [.i p.buf,.i p.at_,.i p.size] 0):=Ba
 have a4:z[G.length+4]?=some (.cells [.i q.buf,.i q.at_,.i q.size] 0):=Ba
 have a5:z[G.length+5]?=some (.cells [.bool keep] 0):=Ba
 have a6:z[G.length+6]?=some (.cells [.nilFn] 0):=Ba
 have a7:z[G.length+7]?=some (.cells [.nilFn] 0):=Ba
 have aP:=(o0 P lP).trans hQ;obtain⟨e0,k0⟩:=R0 h o0 J;simp[z5q,Pc.f];rw[←g];refine zd2 (p:=p) aP λG1 B l1=>?_
 have b0:=(B _ J).trans a0;have b1:=(B _ J).trans a1;have b2:=(B _ J).trans a2;have b3:=(B _ J).trans a3;have b4:=(B _ J).trans a4;have b5:=(B _ J).trans a5;have b6:=(B _ J).trans a6;have b7:=(B _ J).trans a7;have bP:=(B _ J).trans aP;obtain⟨e1,k1⟩:=R0 e0 B J;simp[a0,a4,a6,a7,b0,b4,b6,b7];refine zd2 (p:=q) bP λG2 C l2=>?_
 have c0:=(C _ J).trans b0;have c1:=(C _ J).trans b1;have c2:=(C _ J).trans b2;have c3:=(C _ J).trans b3;have c4:=(C _ J).trans b4;have c5:=(C _ J).trans b5;have c6:=(C _ J).trans b6;have c7:=(C _ J).trans b7;have cP:=(C _ J).trans bP;obtain⟨e2,k2⟩:=R0 e1 C J;obtain⟨T,D⟩:∃T,T=(G2.set (G.length+6) (.cells [.fn (.func 101) [.agg (Vs p R)] []] 1)).set (G.length+7) (.cells [.fn (.func 101) [.agg (Vs q R)] []] 1):=⟨_,rfl⟩;have l3:T.length=G2.length:=by rw[D];simp
 have Q:∀x,x≠G.length+6→x≠G.length+7→T[x]?=G2[x]?:=λx h6 h7=>by rw[D,Jy (Ne.symm h7),Jy (Ne.symm h6)]
 have d0:=(Q _ J J).trans c0;have d1:=(Q _ J J).trans c1;have gB:=(Q _ J J).trans c2;have d3:=(Q _ J J).trans c3;have d4:=(Q _ J J).trans c4;have d5:=(Q _ J J).trans c5;have dP:=(Q _ J J).trans cP;have d7:T[G.length+7]?=some (.cells [.fn (.func 101) [.agg (Vs q R)] []] 1):=by rw[D];exact J1 Ab
 have d6:T[G.length+6]?=some (.cells [.fn (.func 101) [.agg (Vs p R)] []] 1):=by rw[D,Jy J];exact J1 J
 obtain⟨e3,k3⟩:=R0 (G1:=T) h (λx X=>(Q x J J).trans ((C x J).trans ((B x J).trans (o0 x X)))) J;have gC:=dP;unfold P8 at dP;have m1:¬G.length+6=P:=J
 have m2:¬G.length+7=P:=J
 have gG:=cP;unfold P8 at cP;simp[b6,b7,c0,c6,c7,cP,m1,m2]
 try rw[←D]
 refine zbv e3 J λG4 e4 A=>?_
 have j:∀gI,G.length+gI≠e:=λgI=>J
 have Y:=A.cells (j 0) d0;have f1:=A.cells (j 1) d1;have f2:=A.cells (j 2) gB;have f3:=A.cells (j 3) d3;have f4:=A.cells (j 4) d4;have f5:=A.cells (j 5) d5;have f6:=A.cells (j 6) d6;have f7:=A.cells (j 7) d7;have fQ:=A.cells F gC;have fP:=A.cells F dP;have l4:=A.1;rw[M8]at Y;simp[Y,f3,f4,fP];refine zd2 (p:=p) fQ λG5 E l5=>?_
 have g0:=(E _ J).trans Y;have g1:=(E _ J).trans f1;have g2:=(E _ J).trans f2;have g4:=(E _ J).trans f4;have g5:=(E _ J).trans f5;have g6:=(E _ J).trans f6;have g7:=(E _ J).trans f7;have gQ:=(E _ J).trans fQ;have gP:=(E _ J).trans fP;obtain⟨e5,k5⟩:=R0 e4 E J;simp[Y,f4,fP,g0,g4,gP];refine zd2 (p:=q) gQ λZ H l6=>?_
 have gg:=(H _ J).trans g0;have h1:=(H _ J).trans g1;have h2:=(H _ J).trans g2;have h5:=(H _ J).trans g5;have h6:=(H _ J).trans g6;have h7:=(H _ J).trans g7;have gD:=(H _ J).trans gQ;have gA:=(H _ J).trans gP;obtain⟨e6,k6⟩:=R0 e5 H J;obtain⟨G7,I⟩:∃G7,G7=Z++[LObj.dyn [.i p.buf,.i p.at_,.i p.size,.i R,.i q.buf,.i q.at_,.i q.size,.i R] 2 4 0 0]:=⟨_,rfl⟩;have M:∀x,x<Z.length→G7[x]?=Z[x]?:=λx X=>by rw[I];exact J6 X
 have l7:G7.length=Z.length+1:=by rw[I];simp
 have r0:=(M _ J).trans gg;have r1:=(M _ J).trans h1;have r2:=(M _ J).trans h2;have r5:=(M _ J).trans h5;have r6:=(M _ J).trans h6;have r7:=(M _ J).trans h7;have rQ:=(M _ J).trans gD;have r9:G7[Z.length]?=some (.dyn (rwC R [p,q]) [p,q].length 4 0 0):=by rw[I];exact Ke
 obtain⟨e7,k7⟩:=R0 e6 M J;have rP:=(M _ J).trans gA;simp[Vs,Y,fP,g0,gP,gg,gA]
 try rw[←I]
 simp[r0,rP];refine zii (rs:=[p,q]) (L:=Ye n p.size q.size) (body:=Yf kd to p q keep R deep) hd hn N (by simp;exact⟨U,V⟩) (zrr hn.1 U.1 V.1) (λx=>zvf) (λx=>Eh) r9 e7 Ab (λG8 gF gH K' e8 O l8 ho hk=>?_) λG8 e8 O=>?_
 ·exact zrn (p:=p) (q:=q) (to:=to) ho hp hq ht (O.cells (j 6) r6) (by simpa using O.cells (by have:=j 0;simpa using this) r0) (by have:=j 0;simpa using this) (O.cells (j 7) r7) (j 7) (O.cells (j 1) r1) (j 1) (O.cells (j 5) r5) (j 5) (O.cells (j 2) r2) (j 2) (O.cells F rQ) F e8 l8 hk
 ·simp;refine k G8 ?_ (k3.trans (A.trans (k5.trans (k6.trans (k7.trans O)))));unfold S7;rw[T1,flat_frL,←Kz];exact e8
end put
end
section
section put
variable {G : Ok} {K : LV → Ok → Prop} {e P st : Nat} {ops : List Lo} {deep R : Int} {d a b n t : Pc}
end put
end
section
def zhd{G:Ok}{K:LV→Ok→Prop}{p:Pc}(h:-1000000000≤p.at_+z∧p.at_+z≤1000000000)(k:K (.agg (Pc.f ⟨p.buf,p.at_+z,B⟩)) (G++[LObj.cells p.f 0,LObj.cells [.i p.buf,.i (p.at_+z),.i B] 1])):Qa (.fn 63) [.agg p.f,.i z,.i B] G K:=by
 refine O0 r_expand_Part Aa N ?_;simp[zc7,Pc.f];exact⟨J,by simpa [Pc.f] using k⟩
def dj{G:Ok}{K:LV→Ok→Prop}{e:Nat}{ops:List Lo}{deep:Int}{f:Nat}{fst cap:List LV}{B:Fr Lo}(hd:0≤deep∧deep≤100)(h:P1 G e ops deep)(V:ops.length≤900000)(X:B.flat.length≤50000)
  (H:∀(j:Ok) (g:List Lo) (E:LV→Ok→Prop),P1 j e g (deep+1)→Kp e G j→g.length≤ops.length+1→(∀A,P1 A e (g++B.flat) (deep+1)→Kp e j A→E (.tup []) A)→Qa (.fn f) (fst++.i deep::cap) j E)
  (k:∀C,P1 C e (ops++(Rs deep z B).flat) deep→Kp e G C→K (.tup []) C):Qa (.fn 106) [.ptr e 0,.i z,.fn (.func f) fst cap] G K:=by
 refine zr8 hd h J (λD=>k G (by rw[xf,J8 D,Lf];exact h) (Kp.refl _ _)) λI j L F=>H j _ _ L F N λA M O=>⟨_,Ab,M,λQ T U=>k Q ?_ (F.trans (O.trans U))⟩
 rw[xf,J2 J];simpa using T
section put
variable {G : Ok} {K : LV → Ok → Prop} {e P st : Nat} {ops : List Lo} {deep R : Int} {d a b n t : Pc}
def zqq{p:Pc}{x:Int}(hd:0≤deep∧deep≤50)(hp:-1000000≤p.at_∧p.at_≤1000000)(h:P1 G e ops deep)(hl:ops.length≤800000)
  (k:∀g,P1 g e (ops++(Vx p x deep).flat) deep→Kp e G g→K (.tup []) g):Qa (.fn 99) [.ptr e 0,.agg p.f,.i x] G K:=by
 refine O0 r_expand_Emit_Fill Aa N ?_;have le:e<G.length:=Au
 have D:(G++[LObj.cells [.ptr e 0] 0,LObj.cells p.f 0,LObj.cells [.i x] 0])[G.length]?=some (.cells [.ptr e 0] 0):=N
 have E:(G++[LObj.cells [.ptr e 0] 0,LObj.cells p.f 0,LObj.cells [.i x] 0])[G.length+1]?=some (.cells p.f 0):=N
 have F:(G++[LObj.cells [.ptr e 0] 0,LObj.cells p.f 0,LObj.cells [.i x] 0])[G.length+2]?=some (.cells [.i x] 0):=N
 have H:=h.app [LObj.cells [.ptr e 0] 0,LObj.cells p.f 0,LObj.cells [.i x] 0];have I:=Kp.app' e G [LObj.cells [.ptr e 0] 0,LObj.cells p.f 0,LObj.cells [.i x] 0];have j:G.length≠e:=J
 have z:G.length+1≠e:=J
 have A:G.length+2≠e:=J
 unfold Pc.f at E F D H I;simp[z6m,Pc.f];generalize G++[LObj.cells [.ptr e 0] 0,LObj.cells [.i p.buf,.i p.at_,.i p.size] 0,LObj.cells [.i x] 0]=G0 at *;generalize G.length+2=w at *;generalize G.length+1=y at *;generalize G.length=gg at *;refine zf9 (fst:=[]) (cap:=[.ptr gg 0,.ptr y 0,.ptr w 0]) (B:=Pr [P2 p deep 0 x]) J H J (by rw[flat_frL];simp) (λG3 L K' O C l3 M=>?_) λQ T U=>?_
 ·rw[flat_frL]at M;refine O0 r_expand_Emit_Fill_1 Aa N ?_;have V:=C.cells j D;have X:=C.cells z E;have Y:=C.cells A F;simp[z5n,V,X,Y];refine z7n (p:=p) J O J λZ h4 k4=>?_
  simp;exact M Z h4 k4
 simp;exact k Q T (I.trans U)
end put
end
section
def z48:LC:=(.q [.x 4 0,.x 5 1,.x 6 2,.x 7 3] (.seq (.draw [(.l 13 4,[]),(.N 14 13,[]),(.f 15 0 14,[]),(.l 16 15,[]),(.L 17 3 5,[]),(.l 18 4,[]),(.N 19 18,[]),(.f 20 1 19,[]),(.l 21 20,[]),(.V 22 99 16 17 21,[])]) (.seq (.draw [(.l 23 4,[]),(.N 24 23,[]),(.f 25 3 24,[]),(.z 26 (.ixAddrArr 10 1 (.t 25) (.k 0)),[]),(.l 27 26,[]),(.l 28 4,[]),(.N 29 28,[]),(.f 30 3 29,[]),(.z 31 (.ixAddrArr 10 1 (.t 30) (.k 1)),[]),(.l 32 31,[]),(.l 33 4,[]),(.N 34 33,[]),(.f 35 3 34,[]),(.z 36 (.ixAddrArr 10 1 (.t 35) (.k 2)),[]),(.l 37 36,[]),(.l 38 4,[]),(.N 39 38,[]),(.f 40 3 39,[]),(.z 41 (.ixAddrArr 10 1 (.t 40) (.k 3)),[]),(.l 42 41,[]),(.l 43 4,[]),(.N 44 43,[]),(.f 45 3 44,[]),(.z 46 (.ixAddrArr 10 1 (.t 45) (.k 4)),[]),(.l 47 46,[]),(.z 8 (.alloc [(.i 0)]),[(.l 47 46,false),(.l 43 4,false),(.l 42 41,false),(.l 38 4,false),(.l 37 36,false),(.l 33 4,false),(.l 32 31,false),(.l 28 4,false),(.l 27 26,false),(.l 23 4,false)]),(.z 9 (.alloc [(.i 0)]),[(.z 8 (.alloc [(.i 0)]),true),(.l 47 46,false),(.l 43 4,false),(.l 42 41,false),(.l 38 4,false),(.l 37 36,false),(.l 33 4,false),(.l 32 31,false),(.l 28 4,false),(.l 27 26,false),(.l 23 4,false)]),(.z 10 (.alloc [(.i 0)]),[(.z 9 (.alloc [(.i 0)]),true),(.z 8 (.alloc [(.i 0)]),true),(.l 47 46,false),(.l 43 4,false),(.l 42 41,false),(.l 38 4,false),(.l 37 36,false),(.l 33 4,false),(.l 32 31,false),(.l 28 4,false),(.l 27 26,false),(.l 23 4,false)]),(.z 11 (.alloc [(.i 0)]),[(.z 10 (.alloc [(.i 0)]),true),(.z 9 (.alloc [(.i 0)]),true),(.z 8 (.alloc [(.i 0)]),true),(.l 47 46,false),(.l 43 4,false),(.l 42 41,false),(.l 38 4,false),(.l 37 36,false),(.l 33 4,false),(.l 32 31,false),(.l 28 4,false),(.l 27 26,false),(.l 23 4,false)]),(.z 12 (.alloc [(.i 0)]),[(.z 11 (.alloc [(.i 0)]),true),(.z 10 (.alloc [(.i 0)]),true),(.z 9 (.alloc [(.i 0)]),true),(.z 8 (.alloc [(.i 0)]),true),(.l 47 46,false),(.l 43 4,false),(.l 42 41,false),(.l 38 4,false),(.l 37 36,false),(.l 33 4,false),(.l 32 31,false),(.l 28 4,false),(.l 27 26,false),(.l 23 4,false)]),(.S 1 8 27,[(.l 47 46,false),(.l 43 4,false),(.l 42 41,false),(.l 38 4,false),(.l 37 36,false),(.l 33 4,false),(.l 32 31,false),(.l 28 4,false)]),(.S 1 9 32,[(.l 47 46,false),(.l 43 4,false),(.l 42 41,false),(.l 38 4,false),(.l 37 36,false),(.l 33 4,false)]),(.S 1 10 37,[(.l 47 46,false),(.l 43 4,false),(.l 42 41,false),(.l 38 4,false)]),(.S 1 11 42,[(.l 47 46,false),(.l 43 4,false)]),(.S 1 12 47,[])]) (.draw [(.l 48 4,[]),(.N 49 48,[]),(.f 50 0 49,[]),(.l 51 50,[]),(.f 52 2 6,[]),(.l 53 52,[]),(.z 54 (.mkFunc 107 [] [.t 4,.t 8,.t 6,.t 9,.t 7,.t 11,.t 10,.t 12,.t 5]),[]),(.V 55 106 51 53 54,[])]))))
def r_expand_coder_product:Oz Tryz.prog 64=some ⟨56,z48.r,[]⟩:=Aa
def z3t:LC:=(.q [.x 10 0] (.seq (.draw [(.l 11 1,[]),(.N 12 11,[]),(.f 13 0 12,[]),(.l 14 13,[]),(.l 15 2,[]),(.L 16 3 3,[]),(.l 17 10,[]),(.z 18 (.w 108 [.t 14,.t 15,.t 16,.t 17,.k 0]),[])]) (.seq (.draw [(.l 19 1,[]),(.N 20 19,[]),(.f 21 0 20,[]),(.l 22 21,[]),(.l 23 4,[]),(.z 24 (.w 59 [.t 22,.t 23,.c (.u 0)]),[])]) (.seq (.draw [(.l 25 1,[]),(.N 26 25,[]),(.f 27 0 26,[]),(.l 28 27,[]),(.f 29 2 5,[]),(.l 30 29,[]),(.z 31 (.mkFunc 109 [] [.t 1,.t 6,.t 5,.t 7,.t 2,.t 10,.t 8,.t 9,.t 4]),[]),(.V 32 106 28 30 31,[])]) (.draw [(.l 33 1,[]),(.N 34 33,[]),(.f 35 0 34,[]),(.l 36 35,[]),(.L 37 3 9,[]),(.l 38 10,[]),(.f 39 2 5,[]),(.l 40 39,[]),(.l 41 4,[]),(.z 42 (.w 98 [.t 36,.t 37,.t 38,.t 40,.t 41]),[])])))))
def r_expand_coder_product_1:Oz Tryz.prog 107=some ⟨43,z3t.r,[]⟩:=Aa
def z3f:LC:=(.seq (.draw [(.l 11 1,[]),(.N 12 11,[]),(.f 13 0 12,[]),(.l 14 13,[]),(.l 15 2,[]),(.L 16 3 3,[]),(.m 17 0,[]),(.z 18 (.w 108 [.t 14,.t 15,.t 16,.t 17,.k 0]),[])]) (.seq (.draw [(.l 19 1,[]),(.N 20 19,[]),(.f 21 0 20,[]),(.l 22 21,[]),(.l 23 4,[]),(.l 24 2,[]),(.l 25 5,[]),(.l 26 2,[]),(.z 27 (.w 110 [.t 22,.t 23,.t 24,.t 25,.t 26]),[])]) (.seq (.draw [(.l 28 1,[]),(.N 29 28,[]),(.f 30 0 29,[]),(.l 31 30,[]),(.l 32 6,[]),(.m 33 0,[]),(.z 34 (.w 111 [.t 31,.k 3,.k 8,.t 32,.t 33]),[])]) (.seq (.draw [(.l 35 1,[]),(.N 36 35,[]),(.f 37 0 36,[]),(.l 38 37,[]),(.l 39 7,[]),(.L 40 3 8,[]),(.z 41 (.w 108 [.t 38,.t 39,.t 40,.k 8,.k 0]),[])]) (.seq (.draw [(.l 42 1,[]),(.N 43 42,[]),(.f 44 0 43,[]),(.l 45 44,[]),(.l 46 2,[]),(.l 47 1,[]),(.N 48 47,[]),(.f 49 2 48,[]),(.l 50 49,[]),(.l 51 2,[]),(.l 52 7,[]),(.l 53 1,[]),(.N 54 53,[]),(.f 55 1 54,[]),(.l 56 55,[]),(.z 57 (.w 105 [.t 45,.k 11,.t 46,.t 50,.t 51,.t 52,.t 56]),[])]) (.seq (.draw [(.l 58 1,[]),(.N 59 58,[]),(.f 60 0 59,[]),(.l 61 60,[]),(.l 62 4,[]),(.l 63 4,[]),(.l 64 1,[]),(.N 65 64,[]),(.f 66 2 65,[]),(.l 67 66,[]),(.z 68 (.w 111 [.t 61,.k 3,.t 62,.t 63,.t 67]),[])]) (.seq (.draw [(.l 69 1,[]),(.N 70 69,[]),(.f 71 0 70,[]),(.l 72 71,[]),(.l 73 2,[]),(.l 74 1,[]),(.N 75 74,[]),(.f 76 2 75,[]),(.l 77 76,[]),(.l 78 2,[]),(.l 79 9,[]),(.l 80 1,[]),(.N 81 80,[]),(.f 82 1 81,[]),(.l 83 82,[]),(.z 84 (.w 105 [.t 72,.k 11,.t 73,.t 77,.t 78,.t 79,.t 83]),[])]) (.seq (.draw [(.l 85 1,[]),(.N 86 85,[]),(.f 87 0 86,[]),(.l 88 87,[]),(.l 89 9,[]),(.l 90 4,[]),(.l 91 1,[]),(.N 92 91,[]),(.f 93 2 92,[]),(.l 94 93,[]),(.z 95 (.w 111 [.t 88,.k 3,.t 89,.t 90,.t 94]),[])]) (.draw [(.l 96 1,[]),(.N 97 96,[]),(.f 98 0 97,[]),(.l 99 98,[]),(.L 100 3 8,[]),(.l 101 2,[]),(.z 102 (.w 98 [.t 99,.t 100,.k 8,.k 0,.t 101]),[])])))))))))
def r_expand_coder_product_1_1:Oz Tryz.prog 109=some ⟨103,z3f.r,[]⟩:=Aa
def z5e:LC:=(.q [.m 12 0,.N 13 12,.f 14 19 13,.f 15 2 14,.l 16 15,.m 2 16] (.q [.m 17 2,.b 18 .quo 3 17 2,.m 3 18] (.q [.m 19 2,.m 20 3,.c 21 .sub 3 19 20,.m 4 21] (.q [.m 22 0,.N 23 22,.f 24 28 23,.L 25 3 24,.m 26 2,.z 27 (.bin .mul true 3 (.k 2) (.t 26)),.z 28 (.w 63 [.t 25,.k 0,.t 27]),.z 5 (.alloc [(.i 0),(.i 0),(.i 0)]),.S 3 5 28] (.seq (.q [.m 29 3,.b 30 .eql 3 29 0] (.cond (.t 30) (.seq (.draw [(.m 31 0,[]),(.L 32 3 5,[]),(.m 33 0,[]),(.N 34 33,[]),(.f 35 19 34,[]),(.L 36 3 35,[]),(.m 37 0,[]),(.N 38 37,[]),(.f 39 22 38,[]),(.L 40 3 39,[]),(.z 41 (.w 64 [.t 31,.t 32,.t 36,.t 40]),[])]) (.seq (.draw [(.m 42 0,[]),(.m 43 0,[]),(.N 44 43,[]),(.f 45 13 44,[]),(.L 46 3 45,[]),(.L 47 3 5,[]),(.V 48 61 42 46 47,[])]) .ret)) .skip)) (.seq (.draw [(.L 49 3 5,[]),(.m 50 3,[]),(.z 51 (.bin .mul true 3 (.k 2) (.t 50)),[]),(.L 53 3 5,[]),(.m 54 3,[]),(.z 55 (.bin .mul true 3 (.k 2) (.t 54)),[]),(.m 56 4,[]),(.z 57 (.bin .mul true 3 (.k 2) (.t 56)),[]),(.z 6 (.alloc [(.i 0),(.i 0),(.i 0)]),[(.L 53 3 5,false),(.L 49 3 5,false)]),(.z 7 (.alloc [(.i 0),(.i 0),(.i 0)]),[(.z 6 (.alloc [(.i 0),(.i 0),(.i 0)]),true),(.L 53 3 5,false),(.L 49 3 5,false)]),(.z 52 (.w 63 [.t 49,.k 0,.t 51]),[(.z 7 (.alloc [(.i 0),(.i 0),(.i 0)]),true),(.z 6 (.alloc [(.i 0),(.i 0),(.i 0)]),true),(.L 53 3 5,false)]),(.V 58 63 53 55 57,[(.z 7 (.alloc [(.i 0),(.i 0),(.i 0)]),true),(.z 6 (.alloc [(.i 0),(.i 0),(.i 0)]),true)]),(.S 3 6 52,[]),(.S 3 7 58,[])]) (.seq (.draw [(.m 59 0,[]),(.L 60 3 6,[]),(.m 61 0,[]),(.N 62 61,[]),(.f 63 19 62,[]),(.L 64 3 63,[]),(.m 65 3,[]),(.m 67 0,[]),(.N 68 67,[]),(.f 69 22 68,[]),(.L 70 3 69,[]),(.m 71 3,[]),(.z 66 (.w 63 [.t 64,.k 0,.t 65]),[(.L 70 3 69,false),(.L 60 3 6,false)]),(.z 72 (.w 63 [.t 70,.k 0,.t 71]),[(.L 60 3 6,false)]),(.z 73 (.w 64 [.t 59,.t 60,.t 66,.t 72]),[])]) (.seq (.draw [(.m 74 0,[]),(.L 75 3 7,[]),(.m 76 0,[]),(.N 77 76,[]),(.f 78 19 77,[]),(.L 79 3 78,[]),(.m 80 3,[]),(.m 81 4,[]),(.m 83 0,[]),(.N 84 83,[]),(.f 85 22 84,[]),(.L 86 3 85,[]),(.m 87 3,[]),(.m 88 4,[]),(.V 82 63 79 80 81,[(.L 86 3 85,false),(.L 75 3 7,false)]),(.V 89 63 86 87 88,[(.L 75 3 7,false)]),(.z 90 (.w 64 [.t 74,.t 75,.t 82,.t 89]),[])]) (.seq (.draw [(.m 91 0,[]),(.N 92 91,[]),(.f 93 28 92,[]),(.L 94 3 93,[]),(.m 95 2,[]),(.z 96 (.bin .mul true 3 (.k 2) (.t 95)),[]),(.m 97 4,[]),(.b 98 .add 3 97 1,[]),(.m 100 0,[]),(.N 101 100,[]),(.f 102 28 101,[]),(.L 103 3 102,[]),(.m 104 2,[]),(.z 105 (.bin .mul true 3 (.k 2) (.t 104)),[]),(.m 106 4,[]),(.c 107 .add 3 105 106,[]),(.b 108 .add 3 107 1,[]),(.m 109 4,[]),(.b 110 .add 3 109 1,[]),(.m 112 0,[]),(.N 113 112,[]),(.f 114 28 113,[]),(.L 115 3 114,[]),(.m 116 2,[]),(.z 117 (.bin .mul true 3 (.k 2) (.t 116)),[]),(.m 118 4,[]),(.b 119 .add 3 118 1,[]),(.z 120 (.bin .mul true 3 (.k 2) (.t 119)),[]),(.c 121 .add 3 117 120,[]),(.m 122 4,[]),(.b 123 .add 3 122 1,[]),(.z 124 (.bin .mul true 3 (.k 2) (.t 123)),[]),(.z 8 (.alloc [(.i 0),(.i 0),(.i 0)]),[(.L 115 3 114,false),(.L 103 3 102,false),(.L 94 3 93,false)]),(.z 9 (.alloc [(.i 0),(.i 0),(.i 0)]),[(.z 8 (.alloc [(.i 0),(.i 0),(.i 0)]),true),(.L 115 3 114,false),(.L 103 3 102,false),(.L 94 3 93,false)]),(.z 10 (.alloc [(.i 0),(.i 0),(.i 0)]),[(.z 9 (.alloc [(.i 0),(.i 0),(.i 0)]),true),(.z 8 (.alloc [(.i 0),(.i 0),(.i 0)]),true),(.L 115 3 114,false),(.L 103 3 102,false),(.L 94 3 93,false)]),(.V 99 63 94 96 98,[(.z 10 (.alloc [(.i 0),(.i 0),(.i 0)]),true),(.z 9 (.alloc [(.i 0),(.i 0),(.i 0)]),true),(.z 8 (.alloc [(.i 0),(.i 0),(.i 0)]),true),(.L 115 3 114,false),(.L 103 3 102,false)]),(.V 111 63 103 108 110,[(.z 10 (.alloc [(.i 0),(.i 0),(.i 0)]),true),(.z 9 (.alloc [(.i 0),(.i 0),(.i 0)]),true),(.z 8 (.alloc [(.i 0),(.i 0),(.i 0)]),true),(.L 115 3 114,false)]),(.V 125 63 115 121 124,[(.z 10 (.alloc [(.i 0),(.i 0),(.i 0)]),true),(.z 9 (.alloc [(.i 0),(.i 0),(.i 0)]),true),(.z 8 (.alloc [(.i 0),(.i 0),(.i 0)]),true)]),(.S 3 8 99,[]),(.S 3 9 111,[]),(.S 3 10 125,[])]) (.seq (.draw [(.m 126 0,[]),(.L 127 3 8,[]),(.m 128 0,[]),(.N 129 128,[]),(.f 130 19 129,[]),(.L 131 3 130,[]),(.m 132 3,[]),(.m 134 0,[]),(.N 135 134,[]),(.f 136 19 135,[]),(.L 137 3 136,[]),(.m 138 3,[]),(.m 139 4,[]),(.m 141 4,[]),(.b 142 .add 3 141 1,[]),(.z 133 (.w 63 [.t 131,.k 0,.t 132]),[(.L 137 3 136,false),(.L 127 3 8,false)]),(.V 140 63 137 138 139,[(.L 127 3 8,false)]),(.z 143 (.w 62 [.t 126,.k 11,.t 127,.t 133,.t 140,.t 142,.T]),[])]) (.seq (.draw [(.m 144 0,[]),(.L 145 3 9,[]),(.m 146 0,[]),(.N 147 146,[]),(.f 148 22 147,[]),(.L 149 3 148,[]),(.m 150 3,[]),(.m 152 0,[]),(.N 153 152,[]),(.f 154 22 153,[]),(.L 155 3 154,[]),(.m 156 3,[]),(.m 157 4,[]),(.m 159 4,[]),(.b 160 .add 3 159 1,[]),(.z 151 (.w 63 [.t 149,.k 0,.t 150]),[(.L 155 3 154,false),(.L 145 3 9,false)]),(.V 158 63 155 156 157,[(.L 145 3 9,false)]),(.z 161 (.w 62 [.t 144,.k 11,.t 145,.t 151,.t 158,.t 160,.T]),[])]) (.q [.m 162 0,.L 163 3 10,.L 164 3 8,.L 165 3 9,.z 166 (.w 64 [.t 162,.t 163,.t 164,.t 165])] (.q [.m 167 0,.L 168 3 10,.L 169 3 10,.L 170 3 6,.f 171 2 10,.l 172 171,.z 173 (.w 62 [.t 167,.k 12,.t 168,.t 169,.t 170,.t 172,.T])] (.q [.m 174 0,.L 175 3 10,.L 176 3 10,.L 177 3 7,.f 178 2 10,.l 179 178,.z 180 (.w 62 [.t 174,.k 12,.t 175,.t 176,.t 177,.t 179,.T])] (.q [.L 181 3 5,.m 182 3,.m 183 2,.z 184 (.bin .mul true 3 (.k 2) (.t 183)),.m 185 3,.c 186 .sub 3 184 185,.V 187 63 181 182 186,.z 11 (.alloc [(.i 0),(.i 0),(.i 0)]),.S 3 11 187] (.q [.m 188 0,.L 189 3 11,.L 190 3 11,.L 191 3 10,.f 192 2 11,.l 193 192,.z 194 (.w 62 [.t 188,.k 11,.t 189,.t 190,.t 191,.t 193,.T])] (.draw [(.m 195 0,[]),(.m 196 0,[]),(.N 197 196,[]),(.f 198 13 197,[]),(.L 199 3 198,[]),(.L 200 3 5,[]),(.V 201 61 195 199 200,[])])))))))))))))))))
def r_expand_coder_halves:Oz Tryz.prog 65=some ⟨202,z5e.r,[]⟩:=Aa
def z6t:LC:=(.seq (.draw [(.m 4 0,[]),(.N 5 4,[]),(.f 6 0 5,[]),(.l 7 6,[]),(.m 8 0,[]),(.N 9 8,[]),(.f 10 13 9,[]),(.L 11 3 10,[]),(.m 12 1,[]),(.z 13 (.w 98 [.t 7,.t 11,.k (-1),.k 0,.t 12]),[])]) (.draw [(.m 14 0,[]),(.N 15 14,[]),(.f 16 0 15,[]),(.l 17 16,[]),(.m 18 0,[]),(.N 19 18,[]),(.f 20 13 19,[]),(.L 21 3 20,[]),(.m 22 0,[]),(.N 23 22,[]),(.f 24 13 23,[]),(.f 25 2 24,[]),(.l 26 25,[]),(.b 27 .sub 3 26 1,[]),(.m 29 0,[]),(.N 30 29,[]),(.f 31 1 30,[]),(.l 32 31,[]),(.z 28 (.w 63 [.t 21,.k 1,.t 27]),[(.l 32 31,false),(.l 17 16,false)]),(.V 33 99 17 28 32,[])]))
def r_expand_coder_one:Oz Tryz.prog 60=some ⟨34,z6t.r,[]⟩:=Aa
def Ce(e:Nat)(G:Ok):List (Nat×List LV)→Prop
 |[]=>True
 |(g,l)::r=>(g≠e∧∃s,G[g]?=some (.cells l s))∧Ce e G r
def Ce.keep{e:Nat}{G G':Ok}(k:Kp e G G'):∀{l:List (Nat×List LV)},Ce e G l→Ce e G' l
 |[],_=>trivial
 |(_,_)::_,⟨⟨n,s,h⟩,r⟩=>⟨⟨n,s,k.cells n h⟩,r.keep k⟩
def Ce.hit{e:Nat}{G:Ok}{z s:Nat}{l:List LV}{r:List (Nat×List LV)}(n:z≠e)(h:G[z]?=some (.cells l s))(k:Ce e G r):Ce e G ((z,l)::r):=⟨⟨n,s,h⟩,k⟩
section put
variable {G : Ok} {K : LV → Ok → Prop} {e P st : Nat} {ops : List Lo} {deep R : Int} {d d2 a b c w p q to : Pc}
def zlc{V X:Nat}(hq:-1000000≤q.at_∧q.at_≤1000000)(ht:-1000000≤to.at_∧to.at_≤1000000)(gg:Ce e G [(P,P8 e R d d2 a b c w),(g,[.ptr P 0]),(j,[.i (R+5)]),(A,q.f),(M,[.i (R+4)]),(Z,[.i (R+2)]),(vI,[.i z]),(uY,[.i (R+6)]),(V,to.f),(X,[.i (R+3)])])(h:P1 G e ops deep)(hl:ops.length≤900001)(hj:B=z+1)
  (k:∀U,P1 U e (ops++Rq to q R z) deep→Kp e G U→K (.tup []) U):Qa (.fn 109) [.i B,.ptr g 0,.ptr j 0,.ptr A 0,.ptr M 0,.ptr Z 0,.ptr vI 0,.ptr uY 0,.ptr V 0,.ptr X 0] G K:=by
 refine O0 r_expand_coder_product_1_1 Aa N ?_;subst hj;have C0:=gg;obtain⟨⟨_,_,C⟩,⟨_,_,F⟩,⟨_,_,H⟩,⟨_,_,D⟩,⟨_,_,I⟩,⟨_,_,L⟩,⟨_,_,O⟩,⟨_,_,Q⟩,⟨_,_,E⟩,⟨_,_,T⟩,_⟩:=gg;unfold P8 at C;unfold Pc.f at D E;simp[z3f,C,F,H,D,I,L,O,Q,E,T];refine zew (p:=q) J h J λG1 h1 Y=>?_
 have C1:=C0.keep Y;obtain⟨⟨_,_,C⟩,⟨_,_,F⟩,⟨_,_,H⟩,⟨_,_,D⟩,⟨_,_,I⟩,⟨_,_,L⟩,⟨_,_,O⟩,⟨_,_,Q⟩,⟨_,_,E⟩,⟨_,_,T⟩,_⟩:=id C1;unfold P8 at C;unfold Pc.f at D E;simp[C,F,H,D,I,L,O,Q,E,T];refine ot h1 Ab λG2 h2 k2=>?_
 have C2:=C1.keep k2;obtain⟨⟨_,_,C⟩,⟨_,_,F⟩,⟨_,_,H⟩,⟨_,_,D⟩,⟨_,_,I⟩,⟨_,_,L⟩,⟨_,_,O⟩,⟨_,_,Q⟩,⟨_,_,E⟩,⟨_,_,T⟩,_⟩:=id C2;unfold P8 at C;unfold Pc.f at D E;simp[C,F,H,D,I,L,O,Q,E,T];refine zor h2 Ab λG3 h3 k3=>?_
 have C3:=C2.keep k3;obtain⟨⟨_,_,C⟩,⟨_,_,F⟩,⟨_,_,H⟩,⟨_,_,D⟩,⟨_,_,I⟩,⟨_,_,L⟩,⟨_,_,O⟩,⟨_,_,Q⟩,⟨_,_,E⟩,⟨_,_,T⟩,_⟩:=id C3;unfold P8 at C;unfold Pc.f at D E;simp[C,F,H,D,I,L,O,Q,E,T];refine zew (p:=to) J h3 Ab λG4 h4 k4=>?_
 have C4:=C3.keep k4;obtain⟨⟨_,_,C⟩,⟨_,_,F⟩,⟨_,_,H⟩,⟨_,_,D⟩,⟨_,_,I⟩,⟨_,_,L⟩,⟨_,_,O⟩,⟨_,_,Q⟩,⟨_,_,E⟩,⟨_,_,T⟩,_⟩:=id C4;unfold P8 at C;unfold Pc.f at D E;simp[C,F,H,D,I,L,O,Q,E,T];refine zh3 h4 Ab λG5 h5 k5=>?_
 have C5:=C4.keep k5;obtain⟨⟨_,_,C⟩,⟨_,_,F⟩,⟨_,_,H⟩,⟨_,_,D⟩,⟨_,_,I⟩,⟨_,_,L⟩,⟨_,_,O⟩,⟨_,_,Q⟩,⟨_,_,E⟩,⟨_,_,T⟩,_⟩:=id C5;unfold P8 at C;unfold Pc.f at D E;simp[C,F,H,D,I,L,O,Q,E,T];refine zor h5 Ab λG6 h6 k6=>?_
 have C6:=C5.keep k6;obtain⟨⟨_,_,C⟩,⟨_,_,F⟩,⟨_,_,H⟩,⟨_,_,D⟩,⟨_,_,I⟩,⟨_,_,L⟩,⟨_,_,O⟩,⟨_,_,Q⟩,⟨_,_,E⟩,⟨_,_,T⟩,_⟩:=id C6;unfold P8 at C;unfold Pc.f at D E;simp[C,F,H,D,I,L,O,Q,E,T];refine zh3 h6 Ab λG7 h7 k7=>?_
 have C7:=C6.keep k7;obtain⟨⟨_,_,C⟩,⟨_,_,F⟩,⟨_,_,H⟩,⟨_,_,D⟩,⟨_,_,I⟩,⟨_,_,L⟩,⟨_,_,O⟩,⟨_,_,Q⟩,⟨_,_,E⟩,⟨_,_,T⟩,_⟩:=id C7;unfold P8 at C;unfold Pc.f at D E;simp[C,F,H,D,I,L,O,Q,E,T];refine zor h7 Ab λG8 h8 k8=>?_
 have C8:=C7.keep k8;obtain⟨⟨_,_,C⟩,⟨_,_,F⟩,⟨_,_,H⟩,⟨_,_,D⟩,⟨_,_,I⟩,⟨_,_,L⟩,⟨_,_,O⟩,⟨_,_,Q⟩,⟨_,_,E⟩,⟨_,_,T⟩,_⟩:=id C8;unfold P8 at C;unfold Pc.f at D E;simp[C,F,H,D,I,L,O,Q,E,T];refine z7n (p:=to) J h8 Ab λG9 h9 k9=>?_
 simp;exact k G9 (by simpa [Rq] using h9) (Y.trans (k2.trans (k3.trans (k4.trans (k5.trans (k6.trans (k7.trans (k8.trans k9))))))))
def zlv{zw zt:Nat}(hD:0≤z∧z≤50)(hp:-1000000≤p.at_∧p.at_≤1000000)(hq:-1000000≤q.at_∧q.at_≤1000000)(gA:0≤q.size∧q.size≤1000000)(ht:-1000000≤to.at_∧to.at_≤1000000)(gC:Ce e G [(P,P8 e R d d2 a b c w),(g,[.ptr P 0]),(j,[.i (R+2)]),(A,p.f),(M,[.i (R+3)]),(Z,q.f),(vI,[.i (R+5)]),(uY,[.i (R+4)]),(zw,[.i (R+6)]),(zt,to.f)])(h:P1 G e ops (z+1))(hl:ops.length≤800001)
  (k:∀G',P1 G' e (ops++(Xg to p q R z).flat) (z+1)→Kp e G G'→K (.tup []) G'):Qa (.fn 107) [.i z,.ptr g 0,.ptr j 0,.ptr A 0,.ptr M 0,.ptr Z 0,.ptr vI 0,.ptr uY 0,.ptr zw 0,.ptr zt 0] G K:=by
 refine O0 r_expand_coder_product_1 Aa N ?_;have le:e<G.length:=Au
 have X:G.length≠e:=J
 obtain⟨G0,I⟩:∃G0,G0=G++[LObj.cells [.i z] 0]:=⟨_,rfl⟩;have o0:∀x,x<G.length→G0[x]?=G[x]?:=λx hx=>by rw[I];exact J6 hx
 have H:G0[G.length]?=some (.cells [.i z] 0):=by rw[I];exact Ke
 obtain⟨h0,k0⟩:=R0 h o0 (by rw[I];simp);have C0:=Ce.hit X H (gC.keep k0);obtain⟨⟨X,sI,H⟩,⟨Y,sP,C⟩,⟨n0,s0,L⟩,⟨n1,s1,O⟩,⟨n2,s2,F⟩,⟨n3,s3,Q⟩,⟨n4,s4,D⟩,⟨n5,s5,T⟩,⟨n6,s6,U⟩,⟨n7,s7,V⟩,⟨n8,s8,E⟩,_⟩:=id C0;unfold P8 at C;unfold Pc.f at F D E;simp[z3t];rw[←I];simp[C,L,O,F,Q,D,T,U,V,E,H];refine zew (p:=p) J h0 J λG1 h1 k1=>?_
 have C1:=C0.keep k1;obtain⟨⟨X,sI,H⟩,⟨Y,sP,C⟩,⟨n0,s0,L⟩,⟨n1,s1,O⟩,⟨n2,s2,F⟩,⟨n3,s3,Q⟩,⟨n4,s4,D⟩,⟨n5,s5,T⟩,⟨n6,s6,U⟩,⟨n7,s7,V⟩,⟨n8,s8,E⟩,_⟩:=id C1;unfold P8 at C;unfold Pc.f at F D E;simp[C,L,O,F,Q,D,T,U,V,E,H];refine zbv h1 Ab λG2 h2 k2=>?_
 have C2:=C1.keep k2;obtain⟨⟨X,sI,H⟩,⟨Y,sP,C⟩,⟨n0,s0,L⟩,⟨n1,s1,O⟩,⟨n2,s2,F⟩,⟨n3,s3,Q⟩,⟨n4,s4,D⟩,⟨n5,s5,T⟩,⟨n6,s6,U⟩,⟨n7,s7,V⟩,⟨n8,s8,E⟩,_⟩:=id C2;unfold P8 at C;unfold Pc.f at F D E;simp[C,L,O,F,Q,D,T,U,V,E,H];refine zf9 (fst:=[]) (cap:=[.ptr g 0,.ptr vI 0,.ptr Z 0,.ptr uY 0,.ptr j 0,.ptr G.length 0,.ptr zw 0,.ptr zt 0,.ptr M 0]) (B:=Pr (Rq to q R z)) J h2 Ab (by rw[flat_frL];simp[Rq]) (λG3 gg K' h3 k3 l3 hk=>?_) λG3 h3 k3=>?_
 ·rw[flat_frL]at hk;obtain⟨⟨X,sI,H⟩,⟨Y,sP,C⟩,⟨n0,s0,L⟩,⟨n1,s1,O⟩,⟨n2,s2,F⟩,⟨n3,s3,Q⟩,⟨n4,s4,D⟩,⟨n5,s5,T⟩,⟨n6,s6,U⟩,⟨n7,s7,V⟩,⟨n8,s8,E⟩,_⟩:=C2.keep k3;exact zlc hq ht (.hit Y C (.hit n0 L (.hit n5 T (.hit n4 D (.hit n6 U (.hit n1 O (.hit X H (.hit n7 V (.hit n8 E (.hit n3 Q trivial)))))))))) h3 l3 rfl hk
 have C3:=C2.keep k3;obtain⟨⟨X,sI,H⟩,⟨Y,sP,C⟩,⟨n0,s0,L⟩,⟨n1,s1,O⟩,⟨n2,s2,F⟩,⟨n3,s3,Q⟩,⟨n4,s4,D⟩,⟨n5,s5,T⟩,⟨n6,s6,U⟩,⟨n7,s7,V⟩,⟨n8,s8,E⟩,_⟩:=id C3;unfold P8 at C;unfold Pc.f at F D E;simp[C,L,O,F,Q,D,T,U,V,E,H];have gB:(Rs (z+1) q.size (Pr (Rq to q R z))).flat.length≤100:=by rw[xf];split<;>simp[flat_frL,Rq]
 refine z7n (p:=to) J h3 Ab λG4 h4 k4=>?_
 simp;refine k G4 ?_ (k0.trans (k1.trans (k2.trans (k3.trans k4))));unfold Xg;rw[T1,T1,flat_frL,flat_frL];simpa using h4
def z6a(hd:0≤deep∧deep≤40)(hp:-1000000≤p.at_∧p.at_≤1000000)(hq:-1000000≤q.at_∧q.at_≤1000000)(O:0≤q.size∧q.size≤1000000)(ht:-1000000≤to.at_∧to.at_≤1000000)
  (hP:G[P]?=some (.cells (P8 e R d d2 a b c w) st)) (M:P≠e) (h:P1 G e ops deep) (hl:ops.length≤700000) (k:∀Q,P1 Q e (ops++(Rl to p q R deep).flat) deep→Kp e G Q→K (.tup []) Q) :
  Qa (.fn 64) [.ptr P 0,.agg to.f,.agg p.f,.agg q.f] G K:=by
 refine O0 r_expand_coder_product Aa N ?_;have lP:=(Jx.1 hP).1;have le:e<G.length:=Au
 obtain⟨A,z⟩:∃A,A=G++[LObj.cells [.ptr P 0] 0,LObj.cells [.i to.buf,.i to.at_,.i to.size] 0,LObj.cells [.i p.buf,.i p.at_,.i p.size] 0,LObj.cells [.i q.buf,.i q.at_,.i q.size] 0]:=⟨_,rfl⟩;have o0:∀x,x<G.length→A[x]?=G[x]?:=λx T=>by rw[z];exact J6 T
 have l0:A.length=G.length+4:=by rw[z];simp
 have H:A[G.length]?=some (.cells [.ptr P 0] 0):=by rw[z];simp
 have C:A[G.length+1]?=some (.cells to.f 0):=by rw[z];simp[Pc.f]
 have D:A[G.length+2]?=some (.cells p.f 0):=by rw[z];simp[Pc.f]
 have E:A[G.length+3]?=some (.cells q.f 0):=by rw[z];simp[Pc.f]
 obtain⟨e0,k0⟩:=R0 h o0 J;have C0:Ce e A [(P,P8 e R d d2 a b c w),(G.length,[.ptr P 0]),(G.length+1,to.f),(G.length+2,p.f),(G.length+3,q.f)]:=.hit M (k0.cells M hP) (.hit J H (.hit J C (.hit J D (.hit J E trivial))));obtain⟨⟨_,_,F⟩,_⟩:=id C0;unfold P8 at F;unfold Pc.f at C D E;simp[z48,Pc.f];rw[←z];simp[F,H,C,D,E];clear H C D E F;refine zqq (p:=to) J ht e0 J λj h1 U=>?_
 have C1:=C0.keep U;have l1:=U.1;obtain⟨⟨_,sP,F⟩,⟨_,s0,H⟩,⟨_,s1,C⟩,⟨_,s2,D⟩,⟨_,s3,E⟩,_⟩:=id C1;unfold P8 at F;unfold Pc.f at C D E;obtain⟨I,g⟩:∃I,I=j++[LObj.cells [.i (R+2)] 1,LObj.cells [.i (R+3)] 1,LObj.cells [.i (R+4)] 1,LObj.cells [.i (R+5)] 1,LObj.cells [.i (R+6)] 1]:=⟨_,rfl⟩;have o2:∀x,x<j.length→I[x]?=j[x]?:=λx T=>by rw[g];exact J6 T
 obtain⟨h2,k2⟩:=R0 h1 o2 Ba;have C2:=C1.keep k2;obtain⟨⟨_,uP,V⟩,⟨_,u0,b0⟩,⟨_,u1,X⟩,⟨_,u2,Y⟩,⟨_,u3,Z⟩,_⟩:=id C2;unfold P8 at V;unfold Pc.f at X Y Z;have y0:I[j.length]?=some (.cells [.i (R+2)] 1):=Ba
 have y1:I[j.length+1]?=some (.cells [.i (R+3)] 1):=Ba
 have y2:I[j.length+2]?=some (.cells [.i (R+4)] 1):=Ba
 have y3:I[j.length+3]?=some (.cells [.i (R+5)] 1):=Ba
 have y4:I[j.length+4]?=some (.cells [.i (R+6)] 1):=Ba
 have gg:P<j.length:=J
 have gA:G.length<j.length:=J
 simp[H,F,↓Oo gg,↓Oo gA];rw[←g];simp[b0,X,Y,Z,V];clear H C D E F b0 X Y Z V;have gC:(Vx to R deep).flat.length≤3:=zdf (m:=1) (by simp[flat_frL]);have gD:(Xg to p q R deep).flat.length≤14:=by
  have:=zdf (d:=deep+1) (t:=q.size) (b:=Pr (Rq to q R deep)) (m:=9) (by simp[flat_frL,Rq]);unfold Xg;simp only[T1,flat_frL,J7,Kn,Mb];omega
 refine dj (fst:=[]) (cap:=[.ptr G.length 0,.ptr j.length 0,.ptr (G.length+2) 0,.ptr (j.length+1) 0,.ptr (G.length+3) 0,.ptr (j.length+3) 0,.ptr (j.length+2) 0,.ptr (j.length+4) 0,.ptr (G.length+1) 0]) (B:=Xg to p q R deep) J h2 Ab J (λG3 gB K' h3 L l3 hk=>?_) λG3 h3 L=>?_
 ·obtain⟨⟨nP,sP,F⟩,⟨n0,s0,H⟩,⟨n1,s1,C⟩,⟨n2,s2,D⟩,⟨n3,s3,E⟩,_⟩:=C2.keep L;have q:∀gF,j.length+gF≠e:=λgF=>J
  exact zlv J hp hq O ht (.hit nP F (.hit n0 H (.hit (q 0) (L.cells (q 0) y0) (.hit n2 D (.hit (q 1) (L.cells (q 1) y1) (.hit n3 E (.hit (q 3) (L.cells (q 3) y3) (.hit (q 2) (L.cells (q 2) y2) (.hit (q 4) (L.cells (q 4) y4) (.hit n1 C trivial)))))))))) h3 (by simp at l3;omega) hk
 simp;refine k G3 ?_ (k0.trans (U.trans (k2.trans L)));unfold Rl;rw[T1,←Kz];exact h3
end put
end
section
set_option linter.unusedVariables false
def Qm(p:Pc)(x k:Int):Pc:=⟨p.buf,p.at_+x,k⟩
def Y5(d a b w:Pc)(h R D:Int):Fr Lo :=
 if h=0 then (Rl (Qm w 0 (2*a.size)) a b R D).cat (R1 d (Qm w 0 (2*a.size)) R D)
 else (Rl (Qm (Qm w 0 (2*a.size)) 0 (2*h)) (Qm a 0 h) (Qm b 0 h) R D).cat ((Rl (Qm (Qm w 0 (2*a.size)) (2*h) (2*(a.size-h))) (Qm a h (a.size-h)) (Qm b h (a.size-h)) R D).cat
  ((S7 11 (Qm w (2*a.size) (a.size-h+1)) (Qm a 0 h) (Qm a h (a.size-h)) (a.size-h+1) true R D).cat ((S7 11 (Qm w (2*a.size+(a.size-h)+1) (a.size-h+1)) (Qm b 0 h) (Qm b h (a.size-h)) (a.size-h+1) true R D).cat
  ((Rl (Qm w (2*a.size+2*(a.size-h+1)) (2*(a.size-h+1))) (Qm w (2*a.size) (a.size-h+1)) (Qm w (2*a.size+(a.size-h)+1) (a.size-h+1)) R D).cat
  ((S7 12 (Qm w (2*a.size+2*(a.size-h+1)) (2*(a.size-h+1))) (Qm w (2*a.size+2*(a.size-h+1)) (2*(a.size-h+1))) (Qm (Qm w 0 (2*a.size)) 0 (2*h)) (2*(a.size-h+1)) true R D).cat
  ((S7 12 (Qm w (2*a.size+2*(a.size-h+1)) (2*(a.size-h+1))) (Qm w (2*a.size+2*(a.size-h+1)) (2*(a.size-h+1))) (Qm (Qm w 0 (2*a.size)) (2*h) (2*(a.size-h))) (2*(a.size-h+1)) true R D).cat
  ((S7 11 (Qm (Qm w 0 (2*a.size)) h (2*a.size-h)) (Qm (Qm w 0 (2*a.size)) h (2*a.size-h)) (Qm w (2*a.size+2*(a.size-h+1)) (2*(a.size-h+1))) (2*a.size-h) true R D).cat
  (R1 d (Qm w 0 (2*a.size)) R D))))))))
section put
variable {G : Ok} {K : LV → Ok → Prop} {e P st : Nat} {ops : List Lo} {deep R : Int} {d d2 a b c w p q to : Pc}
def Xa{x k:Int}(h:-1000000000≤p.at_+x∧p.at_+x≤1000000000)(j:∀(g:Ok) (r:Pc),r=Qm p x k→r.at_=p.at_+x→r.size=k→(∀x,x<G.length→g[x]?=G[x]?)→G.length≤g.length→K (.agg r.f) g):Qa (.fn 63) [.agg p.f,.i x,.i k] G K :=
 zhd h (j _ _ rfl rfl rfl (λx z=>J6 z) N)
def zt5{r:Int}(hd:0≤deep∧deep≤40)(V:-1000000≤d.at_∧d.at_≤900000)(D:0≤d.size∧d.size≤1000000)(j:G[P]?=some (.cells (P8 e R d d2 a b c w) st))(g:P≠e)(h:P1 G e ops deep)(X:ops.length≤700000)(k:∀z,P1 z e (ops++[P2 d (-1) 0 r]++(Vx (Qm d 1 (d.size-1)) R deep).flat) deep→Kp e G z→K (.tup []) z) :
  Qa (.fn 60) [.ptr P 0,.i r] G K:=by
 refine O0 r_expand_coder_one Aa N ?_;unfold P8 at j;simp[z6t,j];refine z7n (p:=d) J h J λY E B=>?_
 have A:=B.cells g j;simp[A]
 repeat (refine⟨J,?_⟩)
 refine Xa (p:=d) J λZ F H a2 s2 I L=>?_
 obtain⟨M,C⟩:=R0 E I L;have O:=C.cells g A;simp[A,O];refine zqq (p:=F) J J M Ab λQ T U=>?_
 simp;subst H;exact k Q (by simpa using T) (B.trans (C.trans U))
set_option maxHeartbeats 2000000 in
def zt1{h:Int}(hd:0≤deep∧deep≤40)(ht:a.size.tdiv 2=h)(hh:0≤h∧h≤a.size)(ha:0≤a.at_∧a.at_≤100000)(hb:0≤b.at_∧b.at_≤100000)(GH:0≤d.at_∧d.at_≤100000)(hw:0≤w.at_∧w.at_≤100000)(GI:1≤a.size∧a.size≤10000)(GK:b.size=a.size)(GL:0≤d.size∧d.size≤100000)
  (hP:G[P]?=some (.cells (P8 e R d d2 a b c w) st)) (g:P≠e) (h0:P1 G e ops deep) (hl:ops.length≤600000) (k:∀G',P1 G' e (ops++(Y5 d a b w h R deep).flat) deep→Kp e G G'→K (.tup []) G') :
  Qa (.fn 65) [.ptr P 0] G K:=by
 refine O0 r_expand_coder_halves Aa N ?_;have lP:=(Jx.1 hP).1;have le:e<G.length:=by obtain⟨_,_,h,_⟩:=id h0;exact (Jx.1 h).1
 have Dz:=hP;unfold P8 at Dz;simp[z5e,Dz,ht]
 repeat (refine⟨J,?_⟩)
 refine Xa (p:=w) J λB CY eA aA sA o1 l1=>?_
 obtain⟨h1,k1⟩:=R0 h0 o1 l1;have Q1:=k1.cells g hP;obtain⟨G2,BH⟩:∃G2,G2=B++[LObj.cells [.i CY.buf,.i CY.at_,.i CY.size] 1]:=⟨_,rfl⟩;have o2:∀x,x<B.length→G2[x]?=B[x]?:=λx hx=>by rw[BH];exact J6 hx
 have l2:G2.length=B.length+1:=by rw[BH];simp
 obtain⟨h2,k2⟩:=R0 h1 o2 J;have zA:G2[B.length]?=some (.cells CY.f 1):=by rw[BH];exact Ke
 have C:B.length≠e:=J
 have Q2:=k2.cells g Q1;have zU:=Q2;have zV:=zA;unfold P8 at zU;unfold Pc.f at zV;simp[Pc.f];rw[←BH];by_cases GM:h=0
 ·subst GM;have hA:CY=Qm w 0 (2*a.size):=eA;simp[zU,zV];have q1:=wq (R:=R) (D:=deep) (to:=CY) (a:=a) (b:=b);refine z6a (to:=CY) (p:=a) (q:=b) hd J J J J Q2 g h2 J λG3 h3 k3=>?_
  have Q3:=k3.cells g Q2;have DM:=k3.cells g zU;have DO:=k3.cells C zV;simp[DM,DO];refine zaf (to:=d) (p:=CY) J J J J J Q3 g h3 (by simp only[J7];omega) λG4 h4 k4=>?_
  simp;refine k G4 ?_ (k1.trans (k2.trans (k3.trans k4)));unfold Y5;rw[J8 rfl,T1,←hA,←Kz];exact h4
 ·clear Dz;obtain⟨G3,j7⟩:∃G3,G3=B++[LObj.cells [.i CY.buf,.i CY.at_,.i CY.size] 1,LObj.cells [.i 0,.i 0,.i 0] 0,LObj.cells [.i 0,.i 0,.i 0] 0]:=⟨_,rfl⟩;have o3:∀x,x<B.length→G3[x]?=B[x]?:=λx hx=>by rw[j7];exact J6 hx
  have l3:G3.length=B.length+3:=by rw[j7];simp
  obtain⟨h3,k3⟩:=R0 h1 o3 J;have yA:G3[B.length]?=some (.cells CY.f 1):=by rw[j7];simp[Pc.f]
  have yl:G3[B.length+1]?=some (.cells [.i 0,.i 0,.i 0] 0):=by rw[j7];simp
  have yu:G3[B.length+2]?=some (.cells [.i 0,.i 0,.i 0] 0):=by rw[j7];simp
  have Q3:=k3.cells g Q1;have CZ:=Q3;have zX:=yA;unfold P8 at CZ;unfold Pc.f at zX;simp[GM,zU,zV]
  repeat (refine⟨J,?_⟩)
  rw[←j7];refine Xa (p:=CY) (x:=0) J λG4 LO Ej GO GP o4 l4=>?_
  obtain⟨h4,k4⟩:=R0 h3 o4 l4;have BI:=k4.cells C zX;have DP:=k4.cells g CZ;have Q4:=k4.cells g Q3;have DQ:=(o4 _ J).trans yl;have DT:=(o4 _ J).trans yu;simp[zX,BI,yl,yu,DQ,DT];refine Xa (p:=CY) (x:=2*h) J λG5 UP Ez GQ GR o5 l5=>?_
  obtain⟨h5,k5⟩:=R0 h4 o5 l5;have DU:=k5.cells C BI;have DV:=k5.cells g DP;have Q5:=k5.cells g Q4;have EA:G5[B.length+1]?=_:=(o5 _ J).trans ((o4 _ J).trans yl);have EB:G5[B.length+2]?=_:=(o5 _ J).trans ((o4 _ J).trans yu);obtain⟨G6,BD⟩:∃G6,G6=(G5.set (B.length+1) (.cells [.i LO.buf,.i LO.at_,.i LO.size] 1)).set (B.length+2) (.cells [.i UP.buf,.i UP.at_,.i UP.size] 1):=⟨_,rfl⟩;have l6:G6.length=G5.length:=by rw[BD];simp
  have o6:∀x,x≠B.length+1→x≠B.length+2→G6[x]?=G5[x]?:=λx n1 n2=>by rw[BD,Jy (Ne.symm n2),Jy (Ne.symm n1)]
  have y6:G6[B.length+1]?=some (.cells LO.f 1):=by rw[BD,Jy J];exact J1 J
  have y7:G6[B.length+2]?=some (.cells UP.f 1):=by rw[BD];exact J1 Ab
  have y5:G6[B.length]?=some (.cells CY.f 1):=(o6 _ J J).trans ((o5 _ J).trans ((o4 _ J).trans yA));obtain⟨h6,k6⟩:=R0 (G1:=G6) h1 (λx hx=>(o6 x J J).trans ((o5 x J).trans ((o4 x J).trans (o3 x hx)))) J;have z:B.length+1≠e:=J
  have A:B.length+2≠e:=J
  have Q6:=k6.cells g Q1;have zY:=Q6;have zZ:=y5;have gK:=y6;have gL:=y7;unfold P8 at zY;unfold Pc.f at zZ gK gL;have m1:¬B.length+1=P:=J
  have m2:¬B.length+2=P:=J
  simp[zX,BI,DU,DV,DQ,DT,EA,EB,Pc.f,m1,m2];rw[←BD];have y8:(G5.set (B.length+1) (.cells [.i LO.buf,.i LO.at_,.i LO.size] 1))[B.length+1]?=some (.cells [.i LO.buf,.i LO.at_,.i LO.size] 1):=J1 J;simp[y8];refine Xa (p:=a) (x:=0) J λG7 a0 EC GU GV o7 l7=>?_
  obtain⟨h7,k7⟩:=R0 h6 o7 l7;have BK:=k7.cells C zZ;have j8:=k7.cells z gK;have j9:=k7.cells A gL;have BL:=k7.cells g zY;have Q7:=k7.cells g Q6;simp[zZ,gK,gL,zY,BK,j8,j9,BL];refine Xa (p:=b) (x:=0) J λG8 b0 ED GX GY o8 l8=>?_
  obtain⟨h8,k8⟩:=R0 h7 o8 l8;have C9:=k8.cells C BK;have BM:=k8.cells z j8;have BO:=k8.cells A j9;have Dg:=k8.cells g BL;have Q8:=k8.cells g Q7;simp[zZ,gK,gL,zY,BK,j8,j9,BL,C9,BM,BO,Dg];have:=wq (R:=R) (D:=deep) (to:=LO) (a:=a0) (b:=b0);refine z6a (to:=LO) (p:=a0) (q:=b0) hd J J J J Q8 g h8 Bb λG9 h9 k9=>?_
  have l9:=k9.1;have z7:=k9.cells C C9;have gM:=k9.cells z BM;have gO:=k9.cells A BO;have z8:=k9.cells g Dg;have Q9:=k9.cells g Q8;simp[z7,gM,gO,z8];refine Xa (p:=a) (x:=h) J λGZ a1 EE Hg Hj EF EG=>?_
  obtain⟨EH,BE⟩:=R0 h9 EF EG;have zg:=BE.cells C z7;have gR:=BE.cells z gM;have gT:=BE.cells A gO;have zj:=BE.cells g z8;have EI:=BE.cells g Q9;simp[z7,gM,gO,z8,zg,gR,gT,zj];refine Xa (p:=b) (x:=h) J λHz b1 EK HA HB EL EM=>?_
  obtain⟨EO,BF⟩:=R0 EH EL EM;have BP:=BF.cells C zg;have z9:=BF.cells z gR;have Ag:=BF.cells A gT;have BQ:=BF.cells g zj;have DX:=BF.cells g EI;simp[z7,gM,gO,z8,zg,gR,gT,zj,BP,z9,Ag,BQ];have:=wq (R:=R) (D:=deep) (to:=UP) (a:=a1) (b:=b1);refine z6a (to:=UP) (p:=a1) (q:=b1) hd J J J J DX g EO Bb λj DY zz=>?_
  have HC:=zz.1;have zB:=zz.cells C BP;have gU:=zz.cells z z9;have gV:=zz.cells A Ag;have gX:=zz.cells g BQ;have DZ:=zz.cells g DX;have D0:=(Jx.1 gX).1;simp[zB,gU,gV,gX,↓Oo D0]
  repeat (refine⟨J,?_⟩)
  obtain⟨zC,gA⟩:∃zC,zC=j++[LObj.cells [.i 0,.i 0,.i 0] 0,LObj.cells [.i 0,.i 0,.i 0] 0,LObj.cells [.i 0,.i 0,.i 0] 0]:=⟨_,rfl⟩;have D3:∀x,x<j.length→zC[x]?=j[x]?:=λx hx=>by rw[gA];exact J6 hx
  have HD:zC.length=j.length+3:=Hn
  obtain⟨EP,BR⟩:=R0 DY D3 J;have z0:zC[j.length]?=some (.cells [.i 0,.i 0,.i 0] 0):=Hn
  have z1:zC[j.length+1]?=some (.cells [.i 0,.i 0,.i 0] 0):=Hn
  have z2:zC[j.length+2]?=some (.cells [.i 0,.i 0,.i 0] 0):=Hn
  rw[←gA];have gY:=BR.cells C zB;have I:=BR.cells z gU;have L:=BR.cells A gV;have gZ:=BR.cells g gX;have EQ:=BR.cells g DZ;refine Xa (p:=w) (x:=2*a.size) J λHE SS ET HF HG BT EV=>?_
  obtain⟨EX,BU⟩:=R0 EP BT EV;have jg:=BU.cells C gY;have M:=BU.cells z I;have O:=BU.cells A L;have jz:=BU.cells g gZ;have EY:=BU.cells g EQ;have jA:=(BT _ J).trans z0;have jB:=(BT _ J).trans z1;have jC:=(BT _ J).trans z2;simp[z0,z1,z2,jA,jB,jC,gY,I,L,gZ,jg,M,O,jz];refine Xa (p:=w) (x:=2*a.size+(a.size-h)+1) J λHI TT EZ HK HL BV E4=>?_
  obtain⟨E5,BX⟩:=R0 EX BV E4;have zD:=BX.cells C jg;have jD:=BX.cells z M;have jE:=BX.cells A O;have zE:=BX.cells g jz;have E6:=BX.cells g EY;have zG:=(BV _ J).trans jA;have zH:=(BV _ J).trans jB;have zI:=(BV _ J).trans jC;simp[z0,z1,z2,jA,jB,jC,zG,zH,zI,gY,I,L,gZ,jg,M,O,jz,zD,jD,jE,zE];refine Xa (p:=w) (x:=2*a.size+2*(a.size-h+1)) J λBY MM E7 HM HO BZ E8=>?_
  obtain⟨HP,B2⟩:=R0 E5 BZ E8;have DA:=B2.cells C zD;have CG:=B2.cells z jD;have CH:=B2.cells A jE;have DB:=B2.cells g zE;have HQ:=B2.cells g E6;have DE:=(BZ _ J).trans zG;have DF:=(BZ _ J).trans zH;have DG:=(BZ _ J).trans zI;obtain⟨j6,gB⟩:∃j6,j6=((BY.set j.length (.cells [.i SS.buf,.i SS.at_,.i SS.size] 1)).set (j.length+1) (.cells [.i TT.buf,.i TT.at_,.i TT.size] 1)).set (j.length+2) (.cells [.i MM.buf,.i MM.at_,.i MM.size] 1):=⟨_,rfl⟩;have HR:j6.length=BY.length:=by rw[gB];simp
  have E9:∀x,x<j.length→j6[x]?=BY[x]?:=λx hx=>by rw[gB,Jy J,Jy J,Jy J]
  have y0:j6[j.length]?=some (.cells SS.f 1):=by rw[gB,Jy J,Jy J];exact J1 J
  have y1:j6[j.length+1]?=some (.cells TT.f 1):=by rw[gB,Jy J];exact J1 Ab
  have y2:j6[j.length+2]?=some (.cells MM.f 1):=by rw[gB];exact J1 Ab
  have p0:(BY.set j.length (.cells [.i SS.buf,.i SS.at_,.i SS.size] 1))[j.length]?=some (.cells [.i SS.buf,.i SS.at_,.i SS.size] 1):=J1 J;have p1:((BY.set j.length (.cells [.i SS.buf,.i SS.at_,.i SS.size] 1)).set (j.length+1) (.cells [.i TT.buf,.i TT.at_,.i TT.size] 1))[j.length]?=some (.cells [.i SS.buf,.i SS.at_,.i SS.size] 1):=by rw[Jy J];exact p0
  obtain⟨Fg,BG⟩:=R0 (G1:=j6) DY (λx hx=>(E9 x J).trans ((BZ x J).trans ((BV x J).trans ((BT x J).trans (D3 x hx))))) J;have E:j.length≠e:=J
  have F:j.length+1≠e:=J
  have H:j.length+2≠e:=J
  have m3:¬j.length=P:=J
  have m4:¬j.length+1=P:=J
  have m5:¬j.length+2=P:=J
  have Fj:=BG.cells g DZ;have zK:=BG.cells g gX;have zL:=BG.cells C zB;have jF:=BG.cells z gU;have jG:=BG.cells A gV;have Q:=y0;have T:=y1;have U:=y2;unfold Pc.f at Q T U;simp[z0,z1,z2,jA,jB,jC,zG,zH,zI,DE,DF,DG,gY,I,L,gZ,jg,M,O,jz,zD,jD,jE,zE,DA,CG,CH,DB,Pc.f,m3,m4,m5];simp[p0]
  repeat (refine⟨J,?_⟩)
  rw[←gB];refine Xa (p:=a) (x:=0) J λHT c0 FA HU HV FB FC=>?_
  obtain⟨FD,jH⟩:=R0 Fg FB FC;have zM:=jH.cells C zL;have jI:=jH.cells z jF;have jK:=jH.cells A jG;have jL:=jH.cells E Q;have jM:=jH.cells F T;have jO:=jH.cells H U;have zO:=jH.cells g zK;have FE:=jH.cells g Fj;simp[zL,jF,jG,Q,T,U,zK,zM,jI,jK,jL,jM,jO,zO];refine Xa (p:=a) (x:=h) J λHX c1 FF HY HZ FG FH=>?_
  obtain⟨FI,jP⟩:=R0 FD FG FH;have B4:=jP.cells C zM;have Aj:=jP.cells z jI;have Az:=jP.cells A jK;have AA:=jP.cells E jL;have AB:=jP.cells F jM;have AC:=jP.cells H jO;have B5:=jP.cells g zO;have D4:=jP.cells g FE;simp[zL,jF,jG,Q,T,U,zK,zM,jI,jK,jL,jM,jO,zO,B4,Aj,Az,AA,AB,AC,B5];have:=jl (R:=R) (D:=deep) (to:=SS) (a:=c0) (b:=c1) (kd:=11) (n:=a.size-h+1) (keep:=true);refine wm (kd:=11) (n:=a.size-h+1) (to:=SS) (p:=c0) (q:=c1) (keep:=true) J J J J J J J D4 g FI Bb λH0 FK gD=>?_
  have H4:=gD.1;have jQ:=gD.cells C B4;have V:=gD.cells z Aj;have X:=gD.cells A Az;have Y:=gD.cells E AA;have Z:=gD.cells F AB;have gg:=gD.cells H AC;have jR:=gD.cells g B5;have FL:=gD.cells g D4;simp[jQ,V,X,Y,Z,gg,jR]
  repeat (refine⟨J,?_⟩)
  refine Xa (p:=b) (x:=0) J λH5 d0 FM H6 H7 FO FP=>?_
  obtain⟨FQ,jT⟩:=R0 FK FO FP;have zQ:=jT.cells C jQ;have jU:=jT.cells z V;have jV:=jT.cells A X;have jX:=jT.cells E Y;have jY:=jT.cells F Z;have jZ:=jT.cells H gg;have zT:=jT.cells g jR;have FT:=jT.cells g FL;simp[jQ,V,X,Y,Z,gg,jR,zQ,jU,jV,jX,jY,jZ,zT];refine Xa (p:=b) (x:=h) J λH8 d1 FU H9 Ig FV FX=>?_
  obtain⟨FY,j0⟩:=R0 FQ FV FX;have B6:=j0.cells C zQ;have AD:=j0.cells z jU;have AE:=j0.cells A jV;have AF:=j0.cells E jX;have AG:=j0.cells F jY;have AH:=j0.cells H jZ;have B7:=j0.cells g zT;have D5:=j0.cells g FT;simp[jQ,V,X,Y,Z,gg,jR,zQ,jU,jV,jX,jY,jZ,zT,B6,AD,AE,AF,AG,AH,B7];have:=jl (R:=R) (D:=deep) (to:=TT) (a:=d0) (b:=d1) (kd:=11) (n:=a.size-h+1) (keep:=true);refine wm (kd:=11) (n:=a.size-h+1) (to:=TT) (p:=d0) (q:=d1) (keep:=true) J J J J J J J D5 g FY Bb λIj FZ gF=>?_
  have Iz:=gF.1;have B8:=gF.cells C B6;have AI:=gF.cells z AD;have AK:=gF.cells A AE;have AL:=gF.cells E AF;have AM:=gF.cells F AG;have AO:=gF.cells H AH;have B9:=gF.cells g B7;have D6:=gF.cells g D5;simp[B8,AI,AK,AL,AM,AO,B9]
  repeat (refine⟨J,?_⟩)
  have:=wq (R:=R) (D:=deep) (to:=MM) (a:=SS) (b:=TT);refine z6a (to:=MM) (p:=SS) (q:=TT) hd J J J J D6 g FZ Bb λIA F0 gG=>?_
  have IB:=gG.1;have Cg:=gG.cells C B8;have AP:=gG.cells z AI;have AQ:=gG.cells A AK;have AT:=gG.cells E AL;have AU:=gG.cells F AM;have AX:=gG.cells H AO;have Cj:=gG.cells g B9;have D7:=gG.cells g D6;simp[Cg,AP,AQ,AT,AU,AX,Cj];have:=jl (R:=R) (D:=deep) (to:=MM) (a:=MM) (b:=LO) (kd:=12) (n:=MM.size) (keep:=true);refine wm (kd:=12) (n:=MM.size) (to:=MM) (p:=MM) (q:=LO) (keep:=true) J J J J J J J D7 g F0 Bb λIC F1 gH=>?_
  have ID:=gH.1;have Cz:=gH.cells C Cg;have AY:=gH.cells z AP;have AZ:=gH.cells A AQ;have A2:=gH.cells E AT;have A3:=gH.cells F AU;have A4:=gH.cells H AX;have CA:=gH.cells g Cj;have D8:=gH.cells g D7;simp[Cz,AY,AZ,A2,A3,A4,CA];have:=jl (R:=R) (D:=deep) (to:=MM) (a:=MM) (b:=UP) (kd:=12) (n:=MM.size) (keep:=true);refine wm (kd:=12) (n:=MM.size) (to:=MM) (p:=MM) (q:=UP) (keep:=true) J J J J J J J D8 g F1 Bb λIE F2 gI=>?_
  have IF:=gI.1;have CB:=gI.cells C Cz;have A5:=gI.cells z AY;have A6:=gI.cells A AZ;have A7:=gI.cells E A2;have A8:=gI.cells F A3;have A9:=gI.cells H A4;have CC:=gI.cells g CA;have F3:=gI.cells g D8;simp[CB,A5,A6,A7,A8,A9,CC]
  repeat (refine⟨J,?_⟩)
  refine Xa (p:=CY) (x:=h) J λCD RR F4 IG IH F5 F6=>?_
  obtain⟨F7,j1⟩:=R0 F2 F5 F6;have DH:=j1.cells C CB;have CI:=j1.cells z A5;have CK:=j1.cells A A6;have CL:=j1.cells E A7;have CO:=j1.cells F A8;have CP:=j1.cells H A9;have DI:=j1.cells g CC;have F8:=j1.cells g F3;obtain⟨D9,Bg⟩:∃G',G'=CD++[LObj.cells [.i RR.buf,.i RR.at_,.i RR.size] 1]:=⟨_,rfl⟩;have F9:∀x,x<CD.length→D9[x]?=CD[x]?:=λx hx=>by rw[Bg];exact J6 hx
  have zR:D9[CD.length]?=some (.cells RR.f 1):=by rw[Bg];exact Ke
  obtain⟨Gg,j4⟩:=R0 F7 F9 (by rw[Bg];simp);have Gj:CD.length≠e:=J
  have CE:=j4.cells C DH;have Bj:=j4.cells z CI;have Bz:=j4.cells A CK;have BA:=j4.cells E CL;have BB:=j4.cells F CO;have BC:=j4.cells H CP;have CF:=j4.cells g DI;have Eg:=j4.cells g F8;have j5:=zR;unfold Pc.f at j5;simp[Pc.f];rw[←Bg];simp[CE,Bj,Bz,BA,BB,BC,CF,j5];have:=jl (R:=R) (D:=deep) (to:=RR) (a:=RR) (b:=MM) (kd:=11) (n:=RR.size) (keep:=true);refine wm (kd:=11) (n:=RR.size) (to:=RR) (p:=RR) (q:=MM) (keep:=true) J J J J J J J Eg g Gg Bb λII Gz gC=>?_
  have IK:=gC.1;have DK:=gC.cells C CE;have CQ:=gC.cells z Bj;have CR:=gC.cells A Bz;have CT:=gC.cells E BA;have CU:=gC.cells F BB;have CV:=gC.cells H BC;have CX:=gC.cells Gj j5;have DL:=gC.cells g CF;have GC:=gC.cells g Eg;simp[DK,CQ,CR,CT,CU,CV,CX,DL];have:=zki (R:=R) (D:=deep) (to:=d) (fr:=CY);refine zaf (to:=d) (p:=CY) J J J J J GC g Gz (by simp only[J7];omega) λGD GF GG=>?_
  simp;refine k GD ?_ (k1.trans (k6.trans (k7.trans (k8.trans (k9.trans (BE.trans (BF.trans (zz.trans (BG.trans (jH.trans (jP.trans (gD.trans (jT.trans (j0.trans (gF.trans (gG.trans (gH.trans (gI.trans (j1.trans (j4.trans (gC.trans (GG))))))))))))))))))))));clear BH j7 BD gA gB;subst eA Ej Ez EC ED EE EK ET EZ E7 FA FF FM FU F4;unfold Y5;rw[J2 GM];simp only[T1];simp only[←Kz];exact GF
end put
end
def z1v:LC:=(.q [.K 4 0] (.seq (.q [.m 6 0,.s 7 6,.K 8 0] (.block 0 (.loop (.q [.c 9 .lss 3 8 7] (.seq (.cond (.t 9) .skip (.exit 0)) (.seq (.block 1 (.q [.m 10 8,.m 5 10] (.q [.m 11 1,.m 12 0,.m 13 5,.I 14 3 12 13,.L 15 3 14,.z 16 (.callV (.t 11) [.t 15])] (.cond (.t 16) (.q [.m 17 5,.m 4 17] .ret) .skip)))) (.ops [.b 18 .add 3 8 1,.m 8 18]))))))) (.q [.K 4 (-1)] .ret)))
def r_slices_IndexFunc_api_Buf_api_Buf:Oz Tryz.prog 173=some ⟨19,z1v.r,[.tmp 4]⟩:=Aa
def z1p:LC:=(.q [.F 4] (.q [.m 5 0,.m 6 1,.W 7 173 5 6,.b 8 .geq 3 7 0,.m 4 8] .ret))
def r_slices_ContainsFunc_api_Buf_api_Buf:Oz Tryz.prog 155=some ⟨9,z1p.r,[.tmp 4]⟩:=Aa
def zbh:LC:=(.q [.x 1 0,.K 2 0] (.seq (.q [.f 3 0 1,.l 4 3,.b 5 .gtr 3 4 64,.m 6 5,.nf 7 6 1 1,.nl 8 6 7,.n 9 6 (.lenSl (.t 8)),.nb 10 6 .gtr 3 9 32,.p 11 6 10,.m 12 11,.nf 13 12 2 1,.nl 14 12 13,.n 15 12 (.lenSl (.t 14)),.nb 16 12 .gtr 3 15 65536,.p 17 12 16] (.cond (.t 17) (.q [.K 2 3] .ret) .skip)) (.seq (.q [.f 18 1 1,.l 19 18,.z 20 (.w 155 [.t 19,(.c (.fn (.func 156) [] []))])] (.cond (.t 20) (.q [.K 2 3] .ret) .skip)) (.seq (.q [.f 21 0 1,.l 22 21,.b 23 .lss 3 22 0,.m 24 23,.nf 25 24 1 1,.nl 26 24 25,.n 27 24 (.w 155 [.t 26,(.c (.fn (.func 157) [] []))]),.p 28 24 27] (.cond (.t 28) (.q [.K 2 2] .ret) .skip)) (.q [.K 2 0] .ret)))))
def r_limb_head:Oz Tryz.prog 140=some ⟨29,zbh.r,[.tmp 2]⟩:=Aa
def zbu:LC:=(.q [.x 1 0,.F 2] (.q [.f 3 0 1,.l 4 3,.b 5 .gtr 3 4 65536,.m 2 5] .ret))
def r_limb_head_1:Oz Tryz.prog 156=some ⟨6,zbu.r,[.tmp 2]⟩:=Aa
def z5t:LC:=(.q [.x 1 0,.F 2] (.q [.f 3 0 1,.l 4 3,.b 5 .lss 3 4 1,.m 6 5,.nf 7 6 1 1,.nl 8 6 7,.nb 9 6 .lss 3 8 1,.p 10 6 9,.m 11 10,.nf 12 11 1 1,.nl 13 11 12,.nb 14 11 .gtr 3 13 3,.p 15 11 14,.m 2 15] .ret))
def r_limb_head_2:Oz Tryz.prog 157=some ⟨16,z5t.r,[.tmp 2]⟩:=Aa
def zdm:LC:=(.q [.x 1 0,.K 2 0,.K 3 0] (.seq (.q [.L 9 3 1,.w 10 140 9,.m 4 10] (.q [.m 11 4,.b 12 .neq 37 11 0] (.cond (.t 12) (.q [.m 13 4,.K 2 0,.m 3 13] .ret) .skip))) (.q [.L 14 3 1,.z 15 (.build [(.i 0),.nilSl,.nilSl,(.bool false),(.bool false),(.bool false),(.bool false),(.bool false),(.bool false),(.bool false),(.bool false),(.bool false),(.bool false),(.bool false),(.bool false),(.bool false),(.bool false),(.bool false),(.bool false),(.bool false),(.bool false),(.bool false),(.bool false),(.bool false),(.bool false),(.bool false),(.bool false),(.bool false),(.bool false),(.bool false),(.bool false),(.bool false),(.bool false),(.bool false),(.bool false),(.bool false),(.bool false),(.bool false),(.bool false),(.bool false),(.bool false),(.bool false),(.bool false),(.bool false),(.bool false),(.bool false),(.bool false),(.bool false),(.bool false),(.bool false),(.bool false),(.bool false),(.bool false),(.bool false),(.bool false),(.bool false),(.bool false),(.bool false),(.bool false),(.bool false),(.bool false),(.bool false),(.bool false),(.bool false),(.bool false),(.bool false),(.bool false),.nilSl] [(0,3,.t 14)]),.x 16 15,.m 5 16] (.seq (.q [.f 17 2 1,.l 18 17,.s 19 18,.K 20 0] (.block 0 (.loop (.q [.c 21 .lss 3 20 19] (.seq (.cond (.t 21) .skip (.exit 0)) (.seq (.block 1 (.q [.m 22 20,.I 23 8 18 20,.L 24 8 23,.z 7 (.alloc [(.i 0),(.i 0),(.i 0),(.i 0),(.i 0),(.i 0),(.i 0),(.u 0)]),.m 6 22,.S 8 7 24] (.q [.m 25 5,.L 26 8 7,.W 27 141 25 26,.m 8 27] (.q [.m 28 8,.b 29 .neq 37 28 0] (.cond (.t 29) (.q [.m 30 6,.m 31 8,.m 2 30,.m 3 31] .ret) .skip))))) (.ops [.b 32 .add 3 20 1,.m 20 32]))))))) (.seq (.q [.m 33 5,.N 34 33,.f 35 67 34,.l 36 35,.s 37 36,.b 38 .gtr 3 37 0] (.cond (.t 38) (.q [.f 39 2 1,.l 40 39,.s 41 40,.m 2 41,.K 3 9] .ret) .skip)) (.q [.f 42 2 1,.l 43 42,.s 44 43,.m 2 44,.K 3 0] .ret))))))
def r_limb_Check:Oz Tryz.prog 95=some ⟨45,zdm.r,[.tmp 2,.tmp 3]⟩:=Aa
def w9:LC:=(.q [.x 2 0,.x 3 1,.F 4] (.seq (.q [.f 6 0 3,.l 7 6,.b 8 .lss 3 7 0,.m 9 8,.nf 10 9 0 3,.nl 11 9 10,.nf 12 9 0 2,.nl 13 9 12,.n 14 9 (.lenSl (.t 13)),.n 15 9 (.bin .geq false 3 (.t 11) (.t 14)),.p 16 9 15,.m 17 16,.nf 18 17 2 3,.nl 19 17 18,.nb 20 17 .lss 3 19 1,.p 21 17 20,.m 22 21,.nf 23 22 2 3,.nl 24 22 23,.nb 25 22 .gtr 3 24 32768,.p 26 22 25,.m 27 26,.nf 28 27 1 3,.nl 29 27 28,.nb 30 27 .lss 3 29 0,.p 31 27 30] (.cond (.t 31) (.q [.F 4] .ret) .skip)) (.q [.f 32 0 2,.l 33 32,.f 34 0 3,.l 35 34,.I 36 3 33 35,.f 37 0 36,.l 38 37,.m 5 38] (.q [.f 39 1 3,.l 40 39,.m 41 5,.c 42 .leq 3 40 41,.m 43 42,.yf 44 43 2 3,.yl 45 43 44,.my 46 43 5,.yf 47 43 1 3,.yl 48 43 47,.y 49 43 (.bin .sub false 3 (.t 46) (.t 48)),.y 50 43 (.bin .leq false 3 (.t 45) (.t 49)),.q 51 43 50,.m 4 51] .ret))))
def r_expand_lies:Oz Tryz.prog 96=some ⟨52,w9.r,[.tmp 4]⟩:=Aa
def zaq:LC:=(.q [.x 3 1,.K 4 0] (.seq (.q [.m 13 0,.z 14 (.w 56 [.t 13,(.c .nilSl)]),.w 15 55 14,.b 16 .neq 37 15 0,.m 17 16,.nf 18 17 0 3,.nl 19 17 18,.n 20 17 (.lenSl (.t 19)),.nb 21 17 .lss 3 20 1,.p 22 17 21,.m 23 22,.nf 24 23 1 3,.nl 25 23 24,.n 26 23 (.lenSl (.t 25)),.mn 27 23 0,.n 28 23 (.lenSl (.t 27)),.n 29 23 (.bin .neq false 3 (.t 26) (.t 28)),.p 30 23 29] (.cond (.t 30) (.q [.K 4 2] .ret) .skip)) (.seq (.q [.f 32 0 3,.l 33 32,.z 34 (.build [(.i 0),.nilSl,.nilSl] [(1,1,.t 33)]),.w 35 95 34,.m 31 35,.X 36 0 31,.X 37 1 31,.m 5 36,.m 6 37] (.q [.m 38 6,.b 39 .neq 37 38 0] (.cond (.t 39) (.q [.K 4 2] .ret) .skip))) (.seq (.q [.m 40 0,.s 41 40,.K 42 0] (.block 0 (.loop (.q [.c 43 .lss 3 42 41] (.seq (.cond (.t 43) .skip (.exit 0)) (.seq (.block 1 (.q [.m 44 42,.I 45 3 40 42,.L 46 3 45,.z 8 (.alloc [(.i 0),(.bool false),(.i 0)]),.m 7 44,.S 3 8 46] (.q [.f 47 1 3,.l 48 47,.m 49 7,.I 50 3 48 49,.L 51 3 50,.z 9 (.alloc [(.i 0),(.i 0),(.i 0)]),.S 3 9 51] (.seq (.q [.L 52 8 3,.L 53 3 9,.W 54 96 52 53,.z 55 (.un .not (.t 54)),.m 56 55,.nf 57 56 2 9,.nl 58 56 57,.nf 59 56 0 8,.nl 60 56 59,.n 61 56 (.bin .neq false 3 (.t 58) (.t 60)),.p 62 56 61] (.cond (.t 62) (.q [.K 4 2] .ret) .skip)) (.q [.f 63 0 3,.l 64 63,.f 65 0 9,.l 66 65,.I 67 3 64 66,.L 68 3 67,.z 10 (.alloc [(.i 0),(.i 0),(.bool false)]),.S 3 10 68] (.q [.f 69 1 10,.l 70 69,.b 71 .eql 3 70 1,.m 72 71,.y 73 72 (.loadN 3 (.t 8)),.y 74 72 (.w 94 [.t 73]),.y 75 72 (.un .not (.t 74)),.q 76 72 75,.m 77 76,.nf 78 77 1 10,.nl 79 77 78,.nb 80 77 .eql 3 79 2,.mn 81 77 80,.y 82 81 (.loadN 3 (.t 8)),.y 83 81 (.w 94 [.t 82]),.n 84 77 (.pick (.t 81) (.t 83) .F),.p 85 77 84,.m 86 85,.nf 87 86 1 8,.nl 88 86 87,.nf 89 86 2 10,.nl 90 86 89,.n 91 86 (.bin .neq false 4 (.t 88) (.t 90)),.p 92 86 91] (.cond (.t 92) (.q [.K 4 2] .ret) .skip))))))) (.ops [.b 93 .add 3 42 1,.m 42 93]))))))) (.seq (.q [.f 94 2 3,.L 95 6 94,.K 96 0] (.block 2 (.loop (.q [.b 97 .lss 3 96 2] (.seq (.cond (.t 97) .skip (.exit 2)) (.seq (.block 3 (.q [.m 98 96,.z 99 (.ixArr true 2 3 (.t 95) (.t 96)),.z 12 (.alloc [(.i 0),(.i 0),(.i 0)]),.m 11 98,.S 3 12 99] (.q [.L 100 8 3,.L 101 3 12,.W 102 96 100 101,.z 103 (.un .not (.t 102)),.m 104 103,.nf 105 104 0 3,.nl 106 104 105,.nf 107 104 0 12,.nl 108 104 107,.n 109 104 (.ixAddr 3 (.t 106) (.t 108)),.nf 110 104 1 109,.nl 111 104 110,.nb 112 104 .eql 3 111 1,.p 113 104 112,.m 114 113,.nf 115 114 0 3,.nl 116 114 115,.nf 117 114 0 12,.nl 118 114 117,.n 119 114 (.ixAddr 3 (.t 116) (.t 118)),.nf 120 114 2 119,.nl 121 114 120,.mn 122 114 11,.nb 123 114 .eql 3 122 1,.n 124 114 (.bin .neq false 4 (.t 121) (.t 123)),.p 125 114 124] (.cond (.t 125) (.q [.K 4 2] .ret) .skip)))) (.ops [.b 126 .add 3 96 1,.m 96 126]))))))) (.q [.K 4 0] .ret))))))
def r_expand_Check:Oz Tryz.prog 57=some ⟨127,zaq.r,[.tmp 4]⟩:=Aa
def z44:LC:=(.q [.x 3 1,.F 4] (.q [.f 5 1 3,.l 6 5,.b 7 .geq 3 6 0,.m 8 7,.yf 9 8 1 3,.yl 10 8 9,.my 11 8 0,.y 12 8 (.lenSl (.t 11)),.y 13 8 (.bin .lss false 3 (.t 10) (.t 12)),.q 14 8 13,.m 15 14,.my 16 15 0,.yf 17 15 1 3,.yl 18 15 17,.y 19 15 (.ixAddr 3 (.t 16) (.t 18)),.yf 20 15 1 19,.yl 21 15 20,.y 22 15 (.un .not (.t 21)),.q 23 15 22,.m 4 23] .ret))
def r_expand_Public:Oz Tryz.prog 58=some ⟨24,z44.r,[.tmp 4]⟩:=Aa
def zc4:LC:=(.q [.x 4 1,.x 5 2,.K 6 0,.z 7 (.alloc [(.i 0),(.i 0),(.i 0)])] (.seq (.q [.m 8 0,.L 9 7 4,.W 10 58 8 9] (.cond (.t 10) (.seq (.draw [(.f 11 2 5,[]),(.z 12 (.ixAddrArr 2 3 (.t 11) (.k 0)),[]),(.L 13 3 12,[]),(.K 6 16,[]),(.S 3 7 13,[])]) .ret) .skip)) (.seq (.draw [(.f 14 2 5,[]),(.z 15 (.ixAddrArr 2 3 (.t 14) (.k 1)),[]),(.L 16 3 15,[]),(.K 6 40,[]),(.S 3 7 16,[])]) .ret)))
def r_expand_Base:Oz Tryz.prog 32=some ⟨17,zc4.r,[.tmp 6,.cellN 7 3]⟩:=Aa
def zar:LC:=(.q [.x 6 1,.x 7 2,.F 10] (.seq (.q [.m 13 0,.L 14 8 7,.W 15 57 13 14,.b 16 .neq 37 15 0,.m 17 16,.mn 18 17 4,.nb 19 17 .lss 3 18 1,.p 20 17 19,.m 21 20,.mn 22 21 3,.nb 23 21 .lss 3 22 0,.p 24 21 23,.m 25 24,.mn 26 25 3,.nb 27 25 .gtr 3 26 4,.p 28 25 27] (.cond (.t 28) (.q [.F 10] .ret) .skip)) (.q [.m 30 0,.L 31 7 6,.L 32 8 7,.V 33 32 30 31 32,.m 29 33,.X 34 0 29,.X 35 1 29,.z 12 (.alloc [(.i 0),(.i 0),(.i 0)]),.m 11 34,.S 3 12 35] (.q [.m 36 4,.f 37 2 12,.l 38 37,.c 39 .leq 3 36 38,.m 10 39] .ret))))
def r_expand_Ready:Oz Tryz.prog 31=some ⟨40,zar.r,[.tmp 10]⟩:=Aa
def Rx(bs:List Bf)(z:List Pc)(g j:Pc):List LV:=[.lst (Qs bs) bs.length 3,.lst (Wl z) z.length 3,.i g.buf,.i g.at_,.i g.size,.i j.buf,.i j.at_,.i j.size]
def Pc.f_len(p:Pc):p.f.length=3:=rfl
def zcf(l:List Pc):dats (Wl l)=true:=uv (λ_=>rfl) l
def zae{l:List Pc}{i:Nat}{v:Pc}(h:l[i]?=some v):((Wl l).drop (i*3)).take 3=v.f:=zbj Pc.f_len h
def zsv{l:List Pc}{i:Nat}(h:i<l.length):i*3+3≤(Wl l).length:=zsh Pc.f_len h
def zi0{l:List Pc}{n:Nat}(h:n<l.length):l[n]?=some (T5 l n):=by simp[T5,J0,h]
def zab(bs:List Bf)(g:List Pc)(j z:Pc):dats (Rx bs g j z)=true:=by simp[Rx,dats,LV.dat,Uy,zcf]
def zp0{l:List Bf}{f:Nat}{a b:List LV}{p:Bf→Bool}(T:l.length≤9223372036854775807)
  (O:∀v∈l,∀G:LV→Ok→Prop,G (.bool (p v)) P→Qa (.fn f) (a++[.agg v.f]++b) P G) (k:vZ (.i (Zp p l)) P):Qa (.fn 173) [.lst (Qs l) l.length 3,.fn (.func f) a b] P vZ:=by
 refine O0 r_slices_IndexFunc_api_Buf_api_Buf Aa (by simp) ?_;simp[z1v];refine Ql (λH R I N=>∃i:Nat,R=[]∧I=P∧N+i=l.length∧lk H 0=.lst (Qs l) l.length 3∧lk H 1=.fn (.func f) a b∧lk H 7=.i l.length∧lk H 8=.i i∧∀K b,K<i→l[K]?=some b→p b=false) (N:=l.length) ⟨0,by simp⟩ ?_;rintro N H R I ⟨i,rfl,rfl,U,j,z,A,B,C⟩ V D;by_cases hi:l.length≤i
 ·have F:¬i<l.length:=J
  simp[j,z,A,B,F];rw[←zpj hi C];exact k
 ·have F:i<l.length:=J
  have E:=J5 F;have Q:=sx F;simp[j,z,A,B,F,zqs E,Q];have L:=O l[i] (Na F);simp only[Kz,List.singleton_append]at L;refine L _ ?_;cases M:p l[i] with
  |true =>
   simp;rw[←ii E M C];exact k
  |false =>
   simp[B];refine⟨J,D _ _ _ ⟨N-1,J,i+1,rfl,rfl,J,Ay,Al,At,by simp,λK b X g=>?_⟩⟩;by_cases e:K=i
   ·subst e;rw[E]at g;cases g;exact M
   ·exact C K b J g
def zb1{l:List Bf}{f:Nat}{a b:List LV}{p:Bf→Bool}(j:l.length≤9223372036854775807)
  (z:∀v∈l,∀g:LV→Ok→Prop,g (.bool (p v)) P→Qa (.fn f) (a++[.agg v.f]++b) P g) (k:vZ (.bool (l.any p)) P):Qa (.fn 155) [.lst (Qs l) l.length 3,.fn (.func f) a b] P vZ:=by
 refine O0 r_slices_ContainsFunc_api_Buf_api_Buf Aa N ?_;simp[z1p];refine zp0 j z ?_;simp;rw[zvc];exact k
def zhm(b:Bf):O2 156 [.agg b.f] (.bool (decide (65536<b.size))) []:=by
 refine P4.val rfl (O0 r_limb_head_1 Aa N ?_);simp[zbu,Bf.f]
def zhg(b:Bf):O2 157 [.agg b.f] (.bool (decide (b.size<1) || (decide (b.kind<1) || decide (3<b.kind)))) []:=by
 refine P4.val rfl (O0 r_limb_head_2 Aa N ?_);by_cases g:b.size<1
 ·simp[z5t,Bf.f,g]
 by_cases j:b.kind<1
 ·simp[z5t,Bf.f,g,j]
 simp[z5t,Bf.f,g,j]
def zkt(g:List Bf)(C:g.length≤9223372036854775807):O2 140 [.agg [.i 0,.lst (Qs g) g.length 3,.nilSl]] (.i (Z7 g)) []:=by
 refine P4.val rfl (O0 r_limb_head Aa N ?_);by_cases B:32<g.length
 ·have z:(32:Int)<g.length:=J
  simp[zbh,Z7,B,z]
 have z:¬(32:Int)<g.length:=J
 simp[zbh,B,z];refine zb1 (a:=[]) (b:=[]) (p:=λb=>decide (65536<b.size)) C (λv D E k=>Pm (zhm v) (bors_self _ rfl) k) ?_;by_cases A:(g.any λb=>decide (65536<b.size))=true
 ·simp only[Z7,J2 B,J8 A];rw[A];simp
 simp only[Z7,J2 B,J2 A];rw[Bool.not_eq_true]at A;rw[A];simp;generalize j:(g.any λb=>decide (b.size<1) || (decide (b.kind<1) || decide (3<b.kind)))=F;refine zb1 (a:=[]) (b:=[]) (p:=λb=>decide (b.size<1) || (decide (b.kind<1) || decide (3<b.kind))) C (λv D E k=>Pm (zhg v) (bors_self _ rfl) k) ?_;rw[j];cases F with
 |true =>
  simp at j ⊢;obtain⟨x,G,h⟩:=j;exact⟨x,G,λ_ _=>J⟩
 |false=>simp;simpa using j
def lg(a b:Bool):Tg Tryz.prog false 4 (.bool a) (.bool b)=some (a==b):=by cases a<;>cases b<;>kernel_rfl
def zco(g:List Bf)(E:g.length≤9223372036854775807):O2 95 [.agg [.i 0,.lst (Qs g) g.length 3,.nilSl]] (.tup [.i 0,.i (Z7 g)]) []:=by
 refine P4.val rfl (O0 r_limb_Check Aa (by simp) ?_);simp[zdm];refine Pm (zkt g E) (bors_self _ (by simp[dats,LV.dat,Uy])) ?_;by_cases h:Z7 g=0
 ·simp[h];refine Ql (λD K F L=>K=[]∧lk D 1=.ptr 0 0∧lk D 5=.ptr 1 0∧lk D 19=.i 0∧lk D 20=.i 0∧F[0]?=some (.cells [.i 0,.lst (Qs g) g.length 3,.nilSl] 0)∧∃l st,F[1]?=some (.cells ((.i 0)::(.lst (Qs g) g.length 3)::.nilSl::l) st)∧l[64]?=some .nilSl) (N:=0) ⟨rfl,by simp,by simp,by simp,by simp,by simp,_,_,rfl,rfl⟩ ?_;rintro L D K F ⟨rfl,G,H,z,A,B,l,st,C,j⟩ M I;simp[G,H,z,A,B,C,Ov j]
 ·simp[h]
def z78(j:List Bf)(H:List Pc)(I K x:Pc)(L:∀b∈j,b.size≤65536):O2 96 [.agg (Rx j H I K),.agg x.f] (.bool (We j x)) []:=by
 refine P4.val rfl (O0 r_expand_lies Aa N ?_);by_cases z:x.buf<0
 ·simp[w9,Rx,Pc.f,We,z];omega
 by_cases A:(j.length:Int)≤x.buf
 ·simp[w9,Rx,Pc.f,We,z,A];omega
 by_cases B:x.size<1
 ·simp[w9,Rx,Pc.f,We,z,A,B];omega
 by_cases C:32768<x.size
 ·simp[w9,Rx,Pc.f,We,z,A,B,C];omega
 by_cases D:x.at_<0
 ·simp[w9,Rx,Pc.f,We,z,A,B,C,D];omega
 obtain⟨n,E⟩:=J3 (J:0≤x.buf);have g:n<j.length:=J
 have F:=uu (S8 g);have Q:=sx g;have R:(0:Int)≤x.buf:=J
 have T:x.buf<(j.length:Int):=J
 have M:(1:Int)≤x.size:=J
 have O:x.size≤32768:=J
 have P:(0:Int)≤x.at_:=J
 by_cases G:x.at_≤(Oy j n).size
 ·simp[w9,Rx,Pc.f,We,z,A,B,C,D,E,g,Ov F,G];have:=L _ (Kg (S8 g));refine⟨λ_=>J,λq=>absurd q J,J,?_⟩;simp[M,O,P]
 ·simp[w9,Rx,Pc.f,We,z,A,B,C,D,E,g,Ov F,G]
def z60(h:Z7 T=0):∀b∈T,b.size≤65536:=λb z=>by
 unfold Z7 at h;by_cases j:32<T.length
 ·rw[J8 j]at h;omega
 by_cases g:(T.any λb=>decide (65536<b.size))=true
 ·rw[J2 j,J8 g]at h;omega
 rw[Bool.not_eq_true,Np]at g;have:=g b z;simp at this;omega
def Z5(g:List Vr)(j:List Bf)(z:List Pc)(A B:Pc):Int:=if U0 g j z A B=true then 0 else 2
def vg{x:Pc}(h:We T x=true):∃n:Nat,x.buf=n∧n<T.length∧1≤x.size∧x.size≤32768∧0≤x.at_∧x.at_≤(Oy T n).size∧x.size≤(Oy T n).size-x.at_:=by
 simp only[We,Jz,Kb]at h;obtain⟨A,E,B,C,D,g,j⟩:=h;obtain⟨n,z⟩:=J3 A;rw[z]at g j;exact⟨n,z,J,B,C,D,g,j⟩
def zgt(j:List Vr)(g:List Bf)(C:List Pc)(A B:Pc)(hv:j.length≤1000000)(hb:g.length≤9223372036854775807) :
  O2 57 [.lst (Qx j) j.length 3,.agg (Rx g C A B)] (.i (Z5 j g C A B)) []:=by
 refine P4.val rfl (O0 r_expand_Check Aa (by simp) ?_);have I:U0 j g C A B=false→Z5 j g C A B=2:=λh=>by simp[Z5,h]
 simp[zaq];refine zse (args':=[.lst (Qx j) j.length 3,.lst (Rm []) ([]:List Ko).length 7]) (λc r h=>?_) ?_
 ·cases h with
  |cons e1 es=>cases es with
   |cons e2 T=>exact .cons e1 (.cons (by cases e2;exact .lstNil) T)
 refine Sx (z8u j [] hv (by simp)) (by simp[dats,LV.dat,Tb,Rm]) ?_;rw[Lf];simp;refine Pm (z8n j (Vp 0 j) [] J) (bors_self _ (by simp[S6,dats,LV.dat,Tb,za1])) ?_;simp only[U4,zvy];cases gI:To j with
 |false=>simp;exact (I (by simp[U0,gI])).symm
 |true =>
 by_cases g1:(g.length:Int)<1
 ·simp[Rx,g1];exact (I (by simp[U0,(J:¬1≤g.length)])).symm
 by_cases g2:C.length=j.length
 case neg =>
  have gO:¬(C.length:Int)=(j.length:Int):=J
  simp[Rx,g1,g2,gO];exact (I (by simp[U0,g2])).symm
 simp[Rx,g1,g2];refine Pm (zco g hb) (bors_self _ (by simp[dats,LV.dat,Uy])) ?_;by_cases g3:Z7 g=0
 case neg=>simp[g3];exact (I (by simp[U0,g3])).symm
 simp[g3];have Z:∀b∈g,b.size≤65536:=z60 g3;refine Ql (λρ jg gH N=>∃i:Nat,jg=[]∧N+i=j.length∧lk ρ 3=.ptr 0 0∧lk ρ 40=.lst (Qx j) j.length 3∧lk ρ 41=.i j.length∧lk ρ 42=.i i∧0<gH.length∧gH[0]?=some (.cells (Rx g C A B) 0)∧∀gM,gM<i→Y8 g (gv j gM) (T5 C gM)=true) (N:=j.length)
  ⟨0,by simp[Rx,g2]⟩ ?_
 rintro N ρ jg gH ⟨i,rfl,hN,G,L,M,O,hl,hG,gg⟩ Nx U;by_cases jA:i<j.length
 ·have q3:=zcp (Wm jA);have hq:=zoa jA;have gp:i<C.length:=J
  have p3:=zae (zi0 gp);have gR:=zsv gp;have gT:(gv j i).f=[.i (gv j i).limbs,.bool (gv j i).sec,.i (gv j i).mode]:=rfl;have gU:(T5 C i).f=[.i (T5 C i).buf,.i (T5 C i).at_,.i (T5 C i).size]:=rfl;have no:Y8 g (gv j i) (T5 C i)=false→Z5 j g C A B=2:=λh=>I (by
   have:((List.range j.length).all λi=>Y8 g (gv j i) (T5 C i))=false:=by
    rw[Oh];exact⟨i,L4.2 jA,by simp[h]⟩
   simp[U0,this])
  have X:Y8 g (gv j i) (T5 C i)=true→∀D G',lk D 3=.ptr 0 0→lk D 40=.lst (Qx j) j.length 3→lk D 41=.i j.length→lk D 42=.i ((i:Int)+1)→0<G'.length→G'[0]?=some (.cells (Rx g C A B) 0)→Nx D [] G':=λh D G' T gA gB gC el eG =>
   U _ _ _ ⟨N-1,J,i+1,rfl,J,T,gA,gB,by rw[gC];simp,el,eG,λgM hj=>by
    by_cases e:gM=i
    ·rw[e];exact h
    ·exact gg gM J⟩
  generalize gv j i=v at *;generalize T5 C i=x at *;have K:∀y:List LObj,(gH++y)[0]?=some _:=λy=>(Pa hl).trans hG
  simp[G,L,M,O,jA,gp,q3,p3,hq,gR,gT,gU,↓K,Rx];have Y:=z78 g C A B x Z;rw[Rx,Pc.f]at Y;refine Pm Y (bors_self _ Eu) ?_;cases F:We g x with
  |false=>simp;exact (no (by simp[Y8,F])).symm
  |true =>
  obtain⟨n,Q,z,s1,s2,s3,s4,s5⟩:=vg F;by_cases g4:x.size=v.limbs
  case neg=>simp[g4];exact (no (by simp[Y8,g4])).symm
  have b3:=zqs (S8 z);have gD:=sx z;have gV:(Oy g n).f=[.i (Oy g n).size,.i (Oy g n).kind,.bool (Oy g n).sec]:=rfl;have gX:Y8 g v x=(!(decide ((Oy g n).kind=1) && !Ti v)&&(!(decide ((Oy g n).kind=2)&&Ti v)&&(v.sec==(Oy g n).sec))):=by simp[Y8,F,g4,Q]
  rw[gX]at no X;generalize Oy g n=b at *;simp[g4,G,↓K,Rx,Q,z,b3,gD,gV];have gK:∀{G':Ok} {K':LV→Ok→Prop},K' (.bool (Ti v)) G'→Qa (.fn 94) [.agg [.i v.limbs,.bool v.sec,.i v.mode]] G' K':=λk=>Pm (z9i v) (bors_self _ rfl) k
  have P:∀(h:(!(decide (b.kind=1) && !Ti v)&&(!(decide (b.kind=2)&&Ti v)&&(v.sec==b.sec)))=true) (D:Om) (x:List LObj),lk D 3=.ptr 0 0→lk D 40=.lst (Qx j) j.length 3→lk D 41=.i j.length→lk D 42=.i ((i:Int)+1)→Nx D [] (gH++x):=λh D x T gA gB gC=>X h _ _ T gA gB gC Ab (K x)
  by_cases H:b.kind=1
  ·simp[H];refine gK ?_;cases hg:Ti v with
   |false=>simp[H,hg]at no ⊢;exact no.symm
   |true =>
    simp[H,hg]at no P ⊢;cases E:(v.sec==b.sec) with
    |false=>simp[lg,E]at no ⊢;exact (no Cd).symm
    |true =>
     simp[lg,E,O];refine⟨J,P Cd _ _ Bn (by simp[L]) Bh (by simp)⟩
  ·by_cases k2:b.kind=2
   ·simp[k2];refine gK ?_;cases hg:Ti v with
    |true=>simp[k2,hg]at no ⊢;exact no.symm
    |false =>
     simp[k2,hg]at no P ⊢;cases E:(v.sec==b.sec) with
     |false=>simp[lg,E]at no ⊢;exact (no Cd).symm
     |true =>
      simp[lg,E,O];refine⟨J,P Cd _ _ Bn (by simp[L]) Bh (by simp)⟩
   ·simp[H,k2]at no P ⊢;cases E:(v.sec==b.sec) with
    |false=>simp[lg,E]at no ⊢;exact (no Cd).symm
    |true =>
     simp[lg,E,O];refine⟨J,P Cd _ _ Bn (by simp[L]) Bh (by simp)⟩
 ·have gi:i=j.length:=J
  subst gi;simp[G,L,M,O,hG,Rx];refine Ql (λρ jg gH N=>∃i:Nat,jg=[]∧N+i=2∧lk ρ 3=.ptr 0 0∧lk ρ 95=.agg [.i A.buf,.i A.at_,.i A.size,.i B.buf,.i B.at_,.i B.size]∧lk ρ 96=.i i∧0<gH.length∧gH[0]?=some (.cells (Rx g C A B) 0)∧(0<i→Wk g false A=true)∧(1<i→Wk g true B=true)) (N:=2)
   ⟨0,rfl,rfl,Bn,by simp,by simp,hl,hG,λq=>absurd q J,λq=>absurd q J⟩ ?_
  clear G L M O hG hl;rintro N ρ jg gH ⟨i,rfl,jB,G,V,R,hl,hG,gL,gY⟩ Nx U;have K:∀y:List LObj,(gH++y)[0]?=some _:=λy=>(Pa hl).trans hG
  have hi:i=0∨i=1∨i=2:=J
  rcases hi with rfl|rfl|rfl
  ·have no:Wk g false A=false→Z5 j g C A B=2:=λh=>I (by simp[U0,h])
   have X:Wk g false A=true→∀(D:Om) (y:List LObj),lk D 3=.ptr 0 0→lk D 95=.agg [.i A.buf,.i A.at_,.i A.size,.i B.buf,.i B.at_,.i B.size]→lk D 96=.i (0+1)→Nx D [] (gH++y):=λh D y T gF gG =>
    U _ _ _ ⟨N-1,J,0+1,rfl,J,T,gF,by rw[gG];rfl,Ab,K y,λ_=>h,λq=>absurd q J⟩
   simp[G,V,R,↓K,Rx];have Y:=z78 g C A B A Z;rw[Rx,Pc.f]at Y;refine Pm Y (bors_self _ Eu) ?_;cases F:We g A with
   |false=>simp;exact (no (by simp[Wk,F])).symm
   |true =>
   obtain⟨n,Q,z,s1,s2,s3,s4,s5⟩:=vg F;have b1:=zib (S8 z);have b2:=zqf (S8 z);have gD:=sx z;have hW:Wk g false A=(!decide ((Oy g n).kind=1)&&((Oy g n).sec==false)):=by simp[Wk,F,Q]
   rw[hW]at no X;generalize Oy g n=b at *;by_cases H:b.kind=1
   ·simp[G,↓K,Rx,Q,z,Ov b1,Ov b2,H];exact (no Am).symm
   cases E:b.sec with
   |true=>simp[G,↓K,Rx,Q,z,Ov b1,Ov b2,H,E,lg];exact (no Ak).symm
   |false =>
    simp[G,↓K,Rx,Q,z,Ov b1,Ov b2,H,E,R,lg];exact X (by simp[H,E]) _ _ Bn Gq (by simp)
  ·have no:Wk g true B=false→Z5 j g C A B=2:=λh=>I (by simp[U0,h])
   have X:Wk g true B=true→∀(D:Om) (y:List LObj),lk D 3=.ptr 0 0→lk D 95=.agg [.i A.buf,.i A.at_,.i A.size,.i B.buf,.i B.at_,.i B.size]→lk D 96=.i (1+1)→Nx D [] (gH++y):=λh D y T gF gG =>
    U _ _ _ ⟨N-1,J,1+1,rfl,J,T,gF,by rw[gG];rfl,Ab,K y,λ_=>gL J,λ_=>h⟩
   simp[G,V,R,↓K,Rx];have Y:=z78 g C A B B Z;rw[Rx,Pc.f]at Y;refine Pm Y (bors_self _ Eu) ?_;cases F:We g B with
   |false=>simp;exact (no (by simp[Wk,F])).symm
   |true =>
   obtain⟨n,Q,z,s1,s2,s3,s4,s5⟩:=vg F;have b1:=zib (S8 z);have b2:=zqf (S8 z);have gD:=sx z;have hW:Wk g true B=(!decide ((Oy g n).kind=1)&&((Oy g n).sec==true)):=by simp[Wk,F,Q]
   rw[hW]at no X;generalize Oy g n=b at *;by_cases H:b.kind=1
   ·simp[G,↓K,Rx,Q,z,Ov b1,Ov b2,H];exact (no Am).symm
   cases E:b.sec with
   |false=>simp[G,↓K,Rx,Q,z,Ov b1,Ov b2,H,E,lg];exact (no Ak).symm
   |true =>
    simp[G,↓K,Rx,Q,z,Ov b1,Ov b2,H,E,R,lg];exact X (by simp[H,E]) _ _ Bn Gq (by simp)
  ·simp[R];unfold Z5;rw[J8];have jz:((List.range j.length).all λi=>Y8 g (gv j i) (T5 C i))=true:=Lq.2 λgM hj=>gg gM (L4.1 hj)
   have gZ:1≤g.length:=J
   simp[U0,gI,gZ,g2,g3,gL J,gY J];intro gM hj;exact gg gM hj
def Wd(g:List Vr)(d:Int):Bool:=decide (0≤d)&&(decide (d<g.length) && !(gv g d.toNat).sec)
def zeg(j:List Vr)(o:Ko):O2 58 [.lst (Qx j) j.length 3,.agg o.f] (.bool (Wd j o.d)) []:=by
 refine P4.val rfl (O0 r_expand_Public Aa N ?_);by_cases z:0≤o.d
 case neg=>simp[z44,Ko.f,Wd,z]
 by_cases A:o.d<j.length
 case neg=>simp[z44,Ko.f,Wd,z,A]
 obtain⟨n,B⟩:=J3 z;have g:n<j.length:=J
 have C:=zq2 (Wm g);have D:=zoa g;simp[z44,Ko.f,Wd,B,g,Ov C]
def Zb(g:List Vr)(o:Ko)(j z:Pc):Pc:=if Wd g o.d=true then j else z
def kt(g:List Vr)(o:Ko):Int:=if Wd g o.d=true then 16 else 40
def zb9(g:List Vr)(o:Ko)(C:List Bf)(D:List Pc)(z A:Pc):O2 32 [.lst (Qx g) g.length 3,.agg o.f,.agg (Rx C D z A)] (.tup [.i (kt g o),.agg (Zb g o z A).f]) []:=by
 refine P4.val rfl (O0 r_expand_Base Aa N ?_);have j:o.f=[.i o.kind,.i o.d,.i o.e,.i o.a,.i o.b,.i o.c,.u o.imm]:=rfl;simp[zc4,j];rw[←j];refine Pm (zeg g o) (bors_self _ (by simp[dats,LV.dat,Tb,j])) ?_;cases B:Wd g o.d with
 |true=>simp[Rx,Pc.f,kt,Zb,B]
 |false=>simp[Rx,Pc.f,kt,Zb,B]
def Z9(z:List Vr)(o:Ko)(C:List Bf)(D:List Pc)(A B:Pc)(g j:Int):Bool :=
 U0 z C D A B&&(decide (1≤j)&&(decide (0≤g)&&(decide (g≤4)&&decide (j≤(Zb z o A B).size))))
def zfc(E:List Vr)(o:Ko)(z:List Bf)(D:List Pc)(A B:Pc)(g j:Int)(L:E.length≤1000000)(M:z.length≤9223372036854775807) :
  O2 31 [.lst (Qx E) E.length 3,.agg o.f,.agg (Rx z D A B),.i g,.i j] (.bool (Z9 E o z D A B g j)) []:=by
 refine P4.val rfl (O0 r_expand_Ready Aa N ?_);have I:o.f=[.i o.kind,.i o.d,.i o.e,.i o.a,.i o.b,.i o.c,.u o.imm]:=rfl;have C:Rx z D A B=[.lst (Qs z) z.length 3,.lst (Wl D) D.length 3,.i A.buf,.i A.at_,.i A.size,.i B.buf,.i B.at_,.i B.size]:=rfl;simp[zar,C,I];rw[←C];refine Pm (zgt E z D A B L M) (bors_self _ (by simp[dats,LV.dat,Tb,zab])) ?_;cases F:U0 E z D A B with
 |false=>simp[Z5,F,Z9]
 |true =>
 by_cases G:1≤j
 case neg=>simp[Z5,F,Z9,G]
 by_cases H:0≤g
 case neg=>simp[Z5,F,Z9,G,H]
 by_cases K:g≤4
 case neg=>simp[Z5,F,Z9,G,H,K]
 simp[Z5,F,G,H,K,C];refine⟨λh=>J,λh=>J,λh=>J,?_⟩;rw[←I,←C];refine Pm (zb9 E o z D A B) (bors_self _ (by simp[dats,LV.dat,Tb,zab,I])) ?_;simp[Pc.f,Z9,F,G,H,K]
def z5z{g:List Pc}{z:Pc}(h:U0 vE T g vO z=true){i:Nat}(hi:i<vE.length):i<g.length∧0≤(T5 g i).at_∧(T5 g i).at_≤65536∧1≤(T5 g i).size∧(T5 g i).size≤32768:=by
 simp only[U0,Jz,Kb]at h;obtain⟨_,_,G,A,B,_⟩:=h;have j:=Lq.1 B i (L4.2 hi);simp only[Y8,Jz]at j;obtain⟨n,_,C,D,E,F,H,I⟩:=vg j.1;have:=z60 A _ (Kg (S8 C));exact⟨J,F,J,D,E⟩
def zvi{o:Ko}{D:List Pc}{g:Pc}(h:U0 vE T D vO g=true):0≤(Zb vE o vO g).at_∧(Zb vE o vO g).at_≤65536:=by
 simp only[U0,Jz,Kb]at h;obtain⟨_,_,_,A,_,B,C⟩:=h;simp only[Wk,Jz]at B C;unfold Zb;split
 ·obtain⟨n,_,j,E,F,z,G,H⟩:=vg B.1;have:=z60 A _ (Kg (S8 j));exact⟨z,J⟩
 ·obtain⟨n,_,j,E,F,z,G,H⟩:=vg C.1;have:=z60 A _ (Kg (S8 j));exact⟨z,J⟩
section
set_option linter.unusedVariables false
def z68:LC:=(.q [.x 3 1] (.seq (.draw [(.m 5 0,[]),(.N 6 5,[]),(.f 7 0 6,[]),(.l 8 7,[]),(.m 9 0,[]),(.N 10 9,[]),(.f 11 1 10,[]),(.l 12 11,[]),(.z 13 (.w 59 [.t 8,.t 12,.c (.u 0)]),[])]) (.q [.f 14 0 3,.l 15 14] (.block 0 (.q [.b 17 .eql 3 15 1,.m 16 17] (.cond (.t 16) (.seq (.draw [(.m 18 0,[]),(.N 19 18,[]),(.f 20 0 19,[]),(.l 21 20,[]),(.m 22 0,[]),(.N 23 22,[]),(.f 24 3 23,[]),(.z 25 (.ixAddrArr 10 1 (.t 24) (.k 0)),[]),(.l 26 25,[]),(.f 27 6 3,[]),(.l 28 27,[]),(.V 29 59 21 26 28,[])]) (.ops [.m 30 0,.m 31 0,.N 32 31,.f 33 3 32,.z 34 (.ixAddrArr 10 1 (.t 33) (.k 0)),.l 35 34,.W 36 60 30 35])) (.q [.b 38 .eql 3 15 2,.m 37 38] (.cond (.t 37) (.draw [(.m 39 0,[]),(.m 40 0,[]),(.N 41 40,[]),(.f 42 13 41,[]),(.L 43 3 42,[]),(.m 44 0,[]),(.N 45 44,[]),(.f 46 19 45,[]),(.L 47 3 46,[]),(.V 48 61 39 43 47,[])]) (.q [.b 50 .eql 3 15 3,.m 49 50] (.cond (.t 49) (.draw [(.m 51 0,[]),(.m 52 0,[]),(.N 53 52,[]),(.f 54 13 53,[]),(.L 55 3 54,[]),(.m 56 0,[]),(.N 57 56,[]),(.f 58 19 57,[]),(.L 59 3 58,[]),(.m 60 0,[]),(.N 61 60,[]),(.f 62 22 61,[]),(.L 63 3 62,[]),(.m 64 0,[]),(.N 65 64,[]),(.f 66 13 65,[]),(.f 67 2 66,[]),(.l 68 67,[]),(.z 69 (.w 62 [.t 51,.k 11,.t 55,.t 59,.t 63,.t 68,.T]),[])]) (.q [.b 71 .eql 3 15 4,.m 70 71] (.cond (.t 70) (.draw [(.m 72 0,[]),(.m 73 0,[]),(.N 74 73,[]),(.f 75 13 74,[]),(.L 76 3 75,[]),(.m 77 0,[]),(.N 78 77,[]),(.f 79 19 78,[]),(.L 80 3 79,[]),(.m 81 0,[]),(.N 82 81,[]),(.f 83 22 82,[]),(.L 84 3 83,[]),(.m 85 0,[]),(.N 86 85,[]),(.f 87 13 86,[]),(.f 88 2 87,[]),(.l 89 88,[]),(.z 90 (.w 62 [.t 72,.k 12,.t 76,.t 80,.t 84,.t 89,.T]),[])]) (.q [.b 92 .eql 3 15 5,.m 91 92] (.cond (.t 91) (.seq (.draw [(.m 93 0,[]),(.N 94 93,[]),(.f 95 28 94,[]),(.L 96 3 95,[]),(.m 97 0,[]),(.N 98 97,[]),(.f 99 19 98,[]),(.f 100 2 99,[]),(.l 101 100,[]),(.m 102 0,[]),(.N 103 102,[]),(.f 104 22 103,[]),(.f 105 2 104,[]),(.l 106 105,[]),(.c 107 .add 3 101 106,[]),(.z 4 (.alloc [(.i 0),(.i 0),(.i 0)]),[(.l 106 105,false),(.l 101 100,false),(.L 96 3 95,false)]),(.z 108 (.w 63 [.t 96,.k 0,.t 107]),[(.z 4 (.alloc [(.i 0),(.i 0),(.i 0)]),true)]),(.S 3 4 108,[])]) (.seq (.draw [(.m 109 0,[]),(.L 110 3 4,[]),(.m 111 0,[]),(.N 112 111,[]),(.f 113 19 112,[]),(.L 114 3 113,[]),(.m 115 0,[]),(.N 116 115,[]),(.f 117 22 116,[]),(.L 118 3 117,[]),(.z 119 (.w 64 [.t 109,.t 110,.t 114,.t 118]),[])]) (.draw [(.m 120 0,[]),(.m 121 0,[]),(.N 122 121,[]),(.f 123 13 122,[]),(.L 124 3 123,[]),(.L 125 3 4,[]),(.V 126 61 120 124 125,[])]))) (.q [.b 128 .eql 3 15 6,.m 127 128] (.cond (.t 127) (.ops [.m 129 0,.w 130 65 129]) (.q [.b 132 .eql 3 15 7,.m 131 132] (.cond (.t 131) (.seq (.draw [(.m 133 0,[]),(.m 134 0,[]),(.N 135 134,[]),(.f 136 13 135,[]),(.L 137 3 136,[]),(.m 138 0,[]),(.N 139 138,[]),(.f 140 19 139,[]),(.L 141 3 140,[]),(.m 142 0,[]),(.N 143 142,[]),(.f 144 22 143,[]),(.L 145 3 144,[]),(.m 146 0,[]),(.N 147 146,[]),(.f 148 19 147,[]),(.f 149 2 148,[]),(.l 150 149,[]),(.m 151 0,[]),(.N 152 151,[]),(.f 153 22 152,[]),(.f 154 2 153,[]),(.l 155 154,[]),(.z 156 (.maxi true (.t 150) (.t 155)),[]),(.z 157 (.w 62 [.t 133,.k 12,.t 137,.t 141,.t 145,.t 156,.F]),[])]) (.ops [.m 158 0,.m 159 0,.N 160 159,.f 161 2 160,.l 162 161,.W 163 60 158 162])) (.q [.b 165 .eql 3 15 8,.m 164 165] (.cond (.t 164) (.ops [.m 166 0,.w 167 66 166]) (.q [.b 169 .eql 3 15 9,.m 168 169] (.cond (.t 168) (.ops [.m 170 0,.w 171 67 170]) (.q [.b 173 .eql 3 15 10,.m 172 173] (.cond (.t 172) (.ops [.m 174 0,.w 175 68 174]) (.q [.b 177 .eql 3 15 11,.m 176 177] (.cond (.t 176) (.ops [.m 178 0,.w 179 69 178]) (.q [.b 181 .eql 3 15 14,.m 180 181] (.cond (.t 180) (.ops [.m 182 0,.w 183 70 182]) .skip))))))))))))))))))))))))))))
def r_expand_coder_code:Oz Tryz.prog 33=some ⟨184,z68.r,[]⟩:=Aa
def U8(kd:Int)(g:UInt64)(d a b w:Pc)(R D:Int):List Lo :=
 cK R 0::(if kd=1 then cK (R+2) g::P2 d (-1) 0 (R+2)::(Vx (Qm d 1 (d.size-1)) R D).flat else if kd=2 then (R1 d a R D).flat
  else if kd=3 then (S7 11 d a b d.size true R D).flat else if kd=4 then (S7 12 d a b d.size true R D).flat
  else if kd=5 then (Rl (Qm w 0 (a.size+b.size)) a b R D).flat++(R1 d (Qm w 0 (a.size+b.size)) R D).flat
  else if kd=6 then (Y5 d a b w (a.size/2) R D).flat
  else (S7 12 d a b (max a.size b.size) false R D).flat++P2 d (-1) 0 (R+1)::(Vx (Qm d 1 (d.size-1)) R D).flat)
def xk(p:Pc):Prop:=0≤p.at_∧p.at_≤100000∧0≤p.size∧p.size≤32768
section put
variable {G : Ok} {K : LV → Ok → Prop} {e P st : Nat} {ops : List Lo} {deep R : Int} {d d2 a b c w p q to : Pc}
def bx{o:Ko}(hk:1≤o.kind∧o.kind≤7)(hd:0≤deep∧deep≤40)(pd:xk d)(pa:xk a)(pb:xk b)(pw:xk w)(h6:o.kind=6→1≤a.size∧a.size≤10000∧b.size=a.size)
  (hP:G[P]?=some (.cells (P8 e R d d2 a b c w) st)) (g:P≠e) (h:P1 G e ops deep) (hl:ops.length≤500000) (k:∀G',P1 G' e (ops++U8 o.kind o.imm d a b w R deep) deep→Kp e G G'→K (.tup []) G') :
  Qa (.fn 33) [.ptr P 0,.agg o.f] G K:=by
 refine O0 r_expand_coder_code Aa N ?_;obtain⟨d1,gA,d3,d4⟩:=pd;obtain⟨a1,a2,a3,a4⟩:=pa;obtain⟨b1,b2,b3,b4⟩:=pb;obtain⟨w1,w2,w3,w4⟩:=pw;have hf:o.f=[.i o.kind,.i o.d,.i o.e,.i o.a,.i o.b,.i o.c,.u o.imm]:=rfl;have lP:=(Jx.1 hP).1;have le:e<G.length:=Au
 obtain⟨X,C⟩:∃X,X=G++[LObj.cells o.f 0]:=⟨_,rfl⟩;have o0:∀x,x<G.length→X[x]?=G[x]?:=λx T=>by rw[C];exact J6 T
 have z0:X[G.length]?=some (.cells o.f 0):=by rw[C];exact Ke
 obtain⟨h0,k0⟩:=R0 h o0 (by rw[C];simp);have nz:G.length≠e:=J
 have Q0:=k0.cells g hP;have f0:=Q0;unfold P8 at f0;simp[z68];rw[←C];rw[hf]at z0;simp[f0,z0];refine zbv h0 J λH M U=>?_
 have I:=U.cells g Q0;have A:=U.cells g f0;have L:=U.cells nz z0;have gg:=(Jx.1 A).1;simp[L];have O:=k0.trans U;by_cases g1:o.kind=1
 ·simp[g1,L,A];refine zbv M Ab λj B z=>?_
  have Q2:=z.cells g I;have f2:=z.cells g A;simp[f2];refine zt5 (d:=d) J J J Q2 g B Ab λQ h3 k3=>?_
  simp;exact k Q (by simpa [U8,g1] using h3) (O.trans (z.trans k3))
 by_cases g2:o.kind=2
 ·simp[g2,L,A];refine zaf (to:=d) (p:=a) J J J J J I g M Ab λj B z=>?_
  simp;exact k j (by simpa [U8,g2] using B) (O.trans z)
 by_cases g3:o.kind=3
 ·simp[g3,L,A];refine wm (to:=d) (p:=a) (q:=b) J J J J J J J I g M Ab λj B z=>?_
  simp;exact k j (by simpa [U8,g3] using B) (O.trans z)
 by_cases g4:o.kind=4
 ·simp[g4,L,A];refine wm (to:=d) (p:=a) (q:=b) J J J J J J J I g M Ab λj B z=>?_
  simp;exact k j (by simpa [U8,g4] using B) (O.trans z)
 by_cases g5:o.kind=5
 ·simp[g5,L,A,↓Oo gg]
  repeat (refine⟨J,?_⟩)
  obtain⟨j,E⟩:∃j,j=H++[LObj.cells [.i 0,.i 0,.i 0] 0]:=⟨_,rfl⟩;have o2:∀x,x<H.length→j[x]?=H[x]?:=λx T=>by rw[E];exact J6 T
  have y2:j[H.length]?=some (.cells [.i 0,.i 0,.i 0] 0):=by rw[E];exact Ke
  have l2:j.length=H.length+1:=by rw[E];simp
  rw[←E];refine Xa (p:=w) (x:=0) J λQ Y qA aA sA o3 l3=>?_
  have y3:=(o3 _ J).trans y2;obtain⟨V,F⟩:∃V,V=Q.set H.length (.cells [.i Y.buf,.i Y.at_,.i Y.size] 1):=⟨_,rfl⟩;have l4:V.length=Q.length:=by rw[F];simp
  have y4:V[H.length]?=some (.cells [.i Y.buf,.i Y.at_,.i Y.size] 1):=by rw[F];exact J1 J
  obtain⟨h4,k4⟩:=R0 (G1:=V) M (λx T=>by rw[F,Jy J];exact (o3 x J).trans (o2 x T)) J;have Q4:=k4.cells g I;have f4:=k4.cells g A;have nA:H.length≠e:=by have:=U.1;have:=k0.1;omega
  simp[y2,y3,Pc.f];rw[←F];simp[y4,f4];refine z6a (to:=Y) (p:=a) (q:=b) J J J J J Q4 g h4 Ab λG5 h5 Z=>?_
  have Q5:=Z.cells g Q4;have f5:=Z.cells g f4;have y5:=Z.cells nA y4;have:=wq (R:=R) (D:=deep) (to:=Y) (a:=a) (b:=b);simp[y5,f5];refine zaf (to:=d) (p:=Y) J J J J J Q5 g h5 Ab λG6 h6 k6=>?_
  simp;exact k G6 (by simpa [U8,g5,qA] using h6) (O.trans (k4.trans (Z.trans k6)))
 by_cases g6:o.kind=6
 ·simp[g6,L,A];obtain⟨gB,gC,gD⟩:=h6 g6;refine zt1 (d:=d) (a:=a) (b:=b) (w:=w) (h:=a.size/2) J (Od J) J J J J J J J J I g M Ab λj B z=>?_
  simp;exact k j (by simpa [U8,g6] using B) (O.trans z)
 ·have g7:o.kind=7:=J
  simp[g7,L,A];have:=jl (R:=R) (D:=deep) (to:=d) (a:=a) (b:=b) (kd:=12) (n:=max a.size b.size) (keep:=false);refine wm (to:=d) (p:=a) (q:=b) J J J J J J J I g M Ab λj B z=>?_
  have Q2:=z.cells g I;have f2:=z.cells g A;simp[f2];refine zt5 (d:=d) J J J Q2 g B Ab λQ h3 k3=>?_
  simp;exact k Q (by simpa [U8,g7] using h3) (O.trans (z.trans k3))
end put
end
section
set_option linter.unusedVariables false
def zbz:LC:=(.q [.x 5 1,.x 6 2,.e 8,.K 9 0] (.seq (.seq (.draw [(.m 16 0,[]),(.L 17 7 5,[]),(.L 18 8 6,[]),(.m 19 3,[]),(.m 20 0,[]),(.L 21 7 5,[]),(.W 22 11 20 21,[(.L 18 8 6,false),(.L 17 7 5,false)]),(.z 23 (.w 31 [.t 16,.t 17,.t 18,.t 19,.t 22]),[]),(.z 24 (.un .not (.t 23)),[])]) (.cond (.t 24) (.q [.e 8,.K 9 2] .ret) .skip)) (.q [.m 26 0,.L 27 7 5,.L 28 8 6,.V 29 32 26 27 28,.m 25 29,.X 30 0 25,.X 31 1 25,.z 11 (.alloc [(.i 0),(.i 0),(.i 0)]),.m 10 30,.S 3 11 31] (.q [.m 32 3,.z 33 (.build [.nilSl,(.i 0)] [(1,1,.t 32)]),.x 34 33,.m 35 10,.m 36 10,.b 37 .add 3 36 1,.L 38 3 11,.z 39 (.build [.nilPtr,(.i 0),(.i 0),(.i 0),(.i 0),(.i 0),(.i 0),(.i 0),(.i 0),(.i 0),(.i 0),(.i 0),(.i 0),(.i 0),(.i 0),(.i 0),(.i 0),(.i 0),(.i 0),(.i 0),(.i 0),(.i 0),(.i 0),(.i 0),(.i 0),(.i 0),(.i 0),(.i 0),(.i 0),(.i 0),(.i 0)] [(0,1,.t 34),(1,1,.t 35),(2,1,.t 37),(28,3,.t 38)]),.x 40 39,.m 12 40] (.seq (.q [.K 41 0] (.block 0 (.loop (.q [.b 42 .lss 3 41 10] (.seq (.cond (.t 42) .skip (.exit 0)) (.seq (.block 1 (.q [.m 43 41,.m 13 43] (.ops [.m 44 12,.m 45 13,.m 46 10,.b 47 .add 3 46 2,.m 48 13,.c 49 .add 3 47 48,.N 50 44,.f 51 3 50,.z 52 (.ixAddrArr 10 1 (.t 51) (.t 45)),.S 1 52 49]))) (.ops [.b 53 .add 3 41 1,.m 41 53]))))))) (.seq (.q [.f 54 1 5,.l 55 54,.f 56 2 5,.l 57 56,.f 58 3 5,.l 59 58,.f 60 4 5,.l 61 60,.f 62 5 5,.l 63 62,.z 64 (.buildSl 1 5 [(.i 0),(.i 0),(.i 0),(.i 0),(.i 0)] [(0,1,.t 55),(1,1,.t 57),(2,1,.t 59),(3,1,.t 61),(4,1,.t 63)]),.s 65 64,.K 66 0] (.block 2 (.loop (.q [.c 67 .lss 3 66 65] (.seq (.cond (.t 67) .skip (.exit 2)) (.seq (.block 3 (.q [.m 68 66,.I 69 1 64 66,.l 70 69,.m 14 68,.m 15 70] (.q [.m 71 15,.b 72 .geq 3 71 0] (.cond (.t 72) (.draw [(.m 73 12,[]),(.N 74 73,[]),(.f 75 13 74,[]),(.m 76 12,[]),(.N 77 76,[]),(.f 78 16 77,[]),(.m 79 12,[]),(.N 80 79,[]),(.f 81 19 80,[]),(.m 82 12,[]),(.N 83 82,[]),(.f 84 22 83,[]),(.m 85 12,[]),(.N 86 85,[]),(.f 87 25 86,[]),(.z 88 (.buildSl 1 5 [.nilPtr,.nilPtr,.nilPtr,.nilPtr,.nilPtr] [(0,1,.t 75),(1,1,.t 78),(2,1,.t 81),(3,1,.t 84),(4,1,.t 87)]),[]),(.m 89 14,[]),(.I 90 1 88 89,[]),(.l 91 90,[]),(.f 92 1 6,[]),(.l 93 92,[]),(.m 94 15,[]),(.I 95 3 93 94,[]),(.L 96 3 95,[]),(.N 97 91,[]),(.S 3 97 96,[])]) .skip)))) (.ops [.b 98 .add 3 66 1,.m 66 98]))))))) (.q [.m 99 12,.L 100 7 5,.W 101 33 99 100] (.q [.m 102 12,.N 103 102,.f 104 0 103,.l 105 104,.N 106 105,.f 107 0 106,.l 108 107,.m 8 108,.K 9 0] .ret))))))))
def r_expand_Code:Oz Tryz.prog 12=some ⟨109,zbz.r,[.tmp 8,.tmp 9]⟩:=Aa
def Qc(g:List Pc)(v:Int):Pc:=if 0≤v then T5 g v.toNat else ⟨0,0,0⟩
def zwl(j:List Vr)(o:Ko)(C:List Bf)(z:List Pc)(A B:Pc)(g:Int):List Lo :=
 if Z9 j o C z A B g (Tn j o)=true then U8 o.kind o.imm (Qc z o.d) (Qc z o.a) (Qc z o.b) (Zb j o A B) (kt j o) g else []
def zr5(j:List Vr)(o:Ko)(z:List Bf)(A:List Pc)(B C:Pc)(g:Int):Int:=if Z9 j o z A B C g (Tn j o)=true then 0 else 2
def i1{o:Ko}{D:List Pc}{z:Pc}(h:U0 vE T D vO z=true):xk (Zb vE o vO z):=by
 simp only[U0,Jz,Kb]at h;obtain⟨_,_,_,A,_,B,C⟩:=h;simp only[Wk,Jz]at B C;unfold Zb;split
 ·obtain⟨n,_,g,E,F,j,G,H⟩:=vg B.1;have:=z60 A _ (Kg (S8 g));exact⟨j,J,J,J⟩
 ·obtain⟨n,_,g,E,F,j,G,H⟩:=vg C.1;have:=z60 A _ (Kg (S8 g));exact⟨j,J,J,J⟩
def zid{g:List Pc}{z:Pc}(h:U0 vE T g vO z=true){v:Int}(hi:0≤v∧v<vE.length):(Qc g v).size=Te vE v∧1≤Te vE v∧Te vE v≤512:=by
 simp only[U0,Jz,Kb]at h;obtain⟨A,_,C,D,B,_⟩:=h;have j:=Lq.1 B v.toNat (L4.2 J);simp only[Y8,Jz,Kb]at j;refine⟨?_,zpf A hi.1 hi.2⟩;unfold Qc Te;rw[J8 hi.1];exact j.2.1
def pW(g:List Pc)(k i:Nat)(v:Int):Pc:=if k<i then Qc g v else ⟨0,0,0⟩
def Va(o:Ko)(B:List Bf)(C:List Pc)(z A w:Pc)(j g:Int)(i st:Nat):Ok :=
 [.cells [.i o.kind,.i o.d,.i o.e,.i o.a,.i o.b,.i o.c,.u o.imm] 0,.cells [.lst (Qs B) B.length 3,.lst (Wl C) C.length 3,.i z.buf,.i z.at_,.i z.size,.i A.buf,.i A.at_,.i A.size] 0,.cells [.i w.buf,.i w.at_,.i w.size] 1,.cells [.nilSl,.i j] 0,
  .cells [.ptr 3 0,.i g,.i (g+1),if 0<i then .i (g+2) else .i 0,if 1<i then .i (g+3) else .i 0,if 2<i then .i (g+4) else .i 0,if 3<i then .i (g+5) else .i 0,if 4<i then .i (g+6) else .i 0,if 5<i then .i (g+7) else .i 0,if 6<i then .i (g+8) else .i 0,if 7<i then .i (g+9) else .i 0,if 8<i then .i (g+10) else .i 0,if 9<i then .i (g+11) else .i 0,
   .i 0,.i 0,.i 0,.i 0,.i 0,.i 0,.i 0,.i 0,.i 0,.i 0,.i 0,.i 0,.i 0,.i 0,.i 0,.i w.buf,.i w.at_,.i w.size] st]
def wg{n s i:Nat}{v:Int}(h:Ub n s i v=true):v=-1∨(0≤v∧v<n):=z7h h
def zhq(G:List Vr)(o:Ko)(M:List Bf)(z:List Pc)(I K:Pc)(j:Int)(gF:o.kind≤7)(hv:G.length≤1000000)(hb:M.length≤9223372036854775807) :
  Rd 12 [.lst (Qx G) G.length 3,.agg o.f,.agg (Rx M z I K),.i j] (.tup [.lst (Se (zwl G o M z I K j)) (zwl G o M z I K j).length 8,.i (zr5 G o M z I K j)]):=by
 refine T2.mk (by simp[dats,LV.dat,Uk]) (O0 r_expand_Code Aa (by simp) ?_);have hf:o.f=[.i o.kind,.i o.d,.i o.e,.i o.a,.i o.b,.i o.c,.u o.imm]:=rfl;have V:Rx M z I K=[.lst (Qs M) M.length 3,.lst (Wl z) z.length 3,.i I.buf,.i I.at_,.i I.size,.i K.buf,.i K.at_,.i K.size]:=rfl;simp[zbz,V,hf];rw[←hf];refine Pm (z2q G o hv) (bors_self _ (by simp[dats,LV.dat,Tb,hf])) ?_;simp[V,hf];rw[←hf,←V];refine Pm (zfc G o M z I K j (Tn G o) hv hb) (bors_self _ (by simp[dats,LV.dat,Tb,zab,hf])) ?_;unfold zwl zr5;cases hr:Z9 G o M z I K j (Tn G o) with
 |false =>
  simp[Se]
 |true =>
 have gC:=hr;simp only[Z9,Jz,Kb]at gC;obtain⟨hP,hw,gK,gL,gM⟩:=gC;have hm:1≤o.kind∧Ul G o=true:=by
  unfold Tn at hw;split at hw
  ·rename_i h;simp only[Sr,Jz]at h;refine⟨?_,h.2⟩;have:=h.1;simp at this;omega
  ·omega
 obtain⟨s,hs⟩:∃s,R5 o.kind=some s:=by
  have:o.kind=1∨o.kind=2∨o.kind=3∨o.kind=4∨o.kind=5∨o.kind=6∨o.kind=7:=J
  rcases this with h|h|h|h|h|h|h<;>simp[R5,h]
 obtain⟨gO,hp,_,gG⟩:=z7m hm.2 hs;simp only[Vt,Jz]at hp;obtain⟨qd,qe,qa,qb,qc⟩:=hp;have gg:∀{v:Int},v=-1∨(0≤v∧v<G.length)→xk (Qc z v):=λ{v} h=>by
  unfold Qc xk;rcases h with h|⟨h1,h2⟩
  ·rw[J2 J];simp
  ·rw[J8 h1];obtain⟨_,p1,p2,p3,p4⟩:=z5z hP (i:=v.toNat) J;omega
 have pw:=i1 (o:=o) hP;obtain⟨gR,gT⟩:=zvi (o:=o) hP;simp[V,hf];rw[←hf,←V];refine Pm (zb9 G o M z I K) (bors_self _ (by simp[dats,LV.dat,Tb,zab,hf])) ?_;have gU:kt G o=16∨kt G o=40:=by unfold kt;split<;>simp
 generalize kt G o=gB at *;generalize Zb G o I K=w at *;simp[V,hf,Pc.f];refine⟨J,?_⟩;refine Ql (λρ gI G' N=>∃i st:Nat,gI=[]∧N+i=10∧lk ρ 12=.ptr 4 0∧lk ρ 10=.i gB∧lk ρ 5=.ptr 0 0∧lk ρ 6=.ptr 1 0∧lk ρ 41=.i i∧G'=Va o M z I K w j gB i st) (N:=10)
  ⟨0,0,rfl,J,by simp,by simp,by simp,by simp,by simp,by simp[Va]⟩ ?_
 rintro N ρ gI X ⟨i,st,rfl,hN,g,H,D,E,gA,rfl⟩ Nx A;by_cases gX:i<10
 ·have hi:i=0∨i=1∨i=2∨i=3∨i=4∨i=5∨i=6∨i=7∨i=8∨i=9:=J
  rcases hi with rfl|rfl|rfl|rfl|rfl|rfl|rfl|rfl|rfl|rfl
  all_goals simp[g,H,D,E,gA,Va]
  ·repeat (refine⟨J,?_⟩)
   exact A _ _ _ ⟨N-1,J,1,st+1,rfl,J,A1,Am,Ae,Ak,by simp,by simp[Va]⟩
  ·repeat (refine⟨J,?_⟩)
   exact A _ _ _ ⟨N-1,J,2,st+1,rfl,J,A1,Am,Ae,Ak,by simp,Bt⟩
  ·repeat (refine⟨J,?_⟩)
   exact A _ _ _ ⟨N-1,J,3,st+1,rfl,J,A1,Am,Ae,Ak,by simp,Bt⟩
  ·repeat (refine⟨J,?_⟩)
   exact A _ _ _ ⟨N-1,J,4,st+1,rfl,J,A1,Am,Ae,Ak,by simp,Bt⟩
  ·repeat (refine⟨J,?_⟩)
   exact A _ _ _ ⟨N-1,J,5,st+1,rfl,J,A1,Am,Ae,Ak,by simp,Bt⟩
  ·repeat (refine⟨J,?_⟩)
   exact A _ _ _ ⟨N-1,J,6,st+1,rfl,J,A1,Am,Ae,Ak,by simp,Bt⟩
  ·repeat (refine⟨J,?_⟩)
   exact A _ _ _ ⟨N-1,J,7,st+1,rfl,J,A1,Am,Ae,Ak,by simp,Bt⟩
  ·repeat (refine⟨J,?_⟩)
   exact A _ _ _ ⟨N-1,J,8,st+1,rfl,J,A1,Am,Ae,Ak,by simp,Bt⟩
  ·repeat (refine⟨J,?_⟩)
   exact A _ _ _ ⟨N-1,J,9,st+1,rfl,J,A1,Am,Ae,Ak,by simp,Bt⟩
  ·repeat (refine⟨J,?_⟩)
   exact A _ _ _ ⟨N-1,J,10,st+1,rfl,J,A1,Am,Ae,Ak,by simp,Bt⟩
 have hi:i=10:=J
 subst hi;clear A hN gX;have q4:(Va o M z I K w j gB 10 st)[4]?=some (.cells (P8 3 gB ⟨0,0,0⟩ ⟨0,0,0⟩ ⟨0,0,0⟩ ⟨0,0,0⟩ ⟨0,0,0⟩ w) st):=by simp[Va,P8]
 have e0:P1 (Va o M z I K w j gB 10 st) 3 [] j:=⟨0,.nilSl,rfl,Qt.nil⟩;have Y:(Va o M z I K w j gB 10 st)[0]?=some (.cells [.i o.kind,.i o.d,.i o.e,.i o.a,.i o.b,.i o.c,.u o.imm] 0):=rfl;have z1:(Va o M z I K w j gB 10 st)[1]?=some (.cells [.lst (Qs M) M.length 3,.lst (Wl z) z.length 3,.i I.buf,.i I.at_,.i I.size,.i K.buf,.i K.at_,.i K.size] 0):=rfl;have gH:(Va o M z I K w j gB 10 st)[3]?=some (.cells [.nilSl,.i j] 0):=rfl;have O:(Va o M z I K w j gB 10 st).length=5:=rfl;generalize Va o M z I K w j gB 10 st=G0 at *;have z3:G0[3]?=some (.cells [.nilSl,.i j] 0):=gH;simp[gA,D,Y];refine Ql (λρ gI G' N=>∃i st:Nat,gI=[]∧N+i=5∧lk ρ 12=.ptr 4 0∧lk ρ 5=.ptr 0 0∧lk ρ 6=.ptr 1 0∧lk ρ 64=.dy G0.length 0∧lk ρ 65=.i 5∧lk ρ 66=.i i∧6≤G'.length∧G'[4]?=some (.cells (P8 3 gB (pW z 0 i o.d) (pW z 1 i o.e) (pW z 2 i o.a) (pW z 3 i o.b) (pW z 4 i o.c) w) st)∧G'[0]?=G0[0]?∧G'[1]?=G0[1]?∧G'[3]?=G0[3]?∧G'[G0.length]?=some (.dyn [.i o.d,.i o.e,.i o.a,.i o.b,.i o.c] 5 1 0 0)) (N:=5)
  ⟨0,st,rfl,J,A1,Ae,Ak,by simp,by simp,by simp,Ab,by simpa [pW] using (Oo J).trans q4,Oo J,Oo J,Oo J,Ke⟩ ?_
 clear g H D E gA e0;rintro N ρ gI X ⟨i,st,rfl,hN,g,D,E,B,C,L,lG,P,Z,Q,y3,R⟩ Nx A;rw[Y]at Z;rw[z1]at Q;rw[z3]at y3;rw[O]at R B;by_cases gX:i<5
 ·have hi:i=0∨i=1∨i=2∨i=3∨i=4:=J
  rcases hi with rfl|rfl|rfl|rfl|rfl
  ·have ee:=wg qd;simp[P8,pW]at P;by_cases gv:0≤o.d
   ·obtain⟨x,U⟩:=J3 gv;have F:x<G.length:=J
    obtain⟨F,_⟩:=z5z hP F;have tx:=zae (zi0 F);have T:=zsv F;have wx:Qc z o.d=T5 z x:=Ci
    have t1:1<X.length:=J
    have t4:4<X.length:=J
    simp[g,D,E,B,C,L,R,Q,P,gv,U,F,tx,T,Pc.f,↓Oo t1,↓Oo t4];refine A _ _ _ ⟨N-1,J,1,st+1,rfl,J,A1,Ae,Ak,Co,As,by simp,Ab,?_,?_,?_,?_,?_⟩
    ·rw[J1 Ab];simp[P8,pW,wx]
    ·rw[Jy Ac,Oo J,Z,Y]
    ·rw[Jy Ac,Oo J,Q,z1]
    ·rw[Jy Ac,Oo J,y3,z3]
    ·rw[O,Jy Ac,Oo J];exact R
   ·have T:Qc z o.d=⟨0,0,0⟩:=J2 gv;simp[g,D,E,B,C,L,R,Q,P,gv];exact A _ _ _ ⟨N-1,J,1,st,rfl,J,A1,Ae,Ak,Co,As,by simp,J,Dv,by rw[Z,Y],Ho,Gw,El⟩
  ·have ee:=wg qe;simp[P8,pW]at P;by_cases gv:0≤o.e
   ·obtain⟨x,U⟩:=J3 gv;have F:x<G.length:=J
    obtain⟨F,_⟩:=z5z hP F;have tx:=zae (zi0 F);have T:=zsv F;have wx:Qc z o.e=T5 z x:=Ci
    have t1:1<X.length:=J
    have t4:4<X.length:=J
    simp[g,D,E,B,C,L,R,Q,P,gv,U,F,tx,T,Pc.f,↓Oo t1,↓Oo t4];refine A _ _ _ ⟨N-1,J,2,st+1,rfl,J,A1,Ae,Ak,Co,As,by simp,Ab,?_,?_,?_,?_,?_⟩
    ·rw[J1 Ab];simp[P8,pW,wx]
    ·rw[Jy Ac,Oo J,Z,Y]
    ·rw[Jy Ac,Oo J,Q,z1]
    ·rw[Jy Ac,Oo J,y3,z3]
    ·rw[O,Jy Ac,Oo J];exact R
   ·have T:Qc z o.e=⟨0,0,0⟩:=J2 gv;simp[g,D,E,B,C,L,R,Q,P,gv];exact A _ _ _ ⟨N-1,J,2,st,rfl,J,A1,Ae,Ak,Co,As,by simp,J,Dv,by rw[Z,Y],Ho,Gw,El⟩
  ·have ee:=wg qa;simp[P8,pW]at P;by_cases gv:0≤o.a
   ·obtain⟨x,U⟩:=J3 gv;have F:x<G.length:=J
    obtain⟨F,_⟩:=z5z hP F;have tx:=zae (zi0 F);have T:=zsv F;have wx:Qc z o.a=T5 z x:=Ci
    have t1:1<X.length:=J
    have t4:4<X.length:=J
    simp[g,D,E,B,C,L,R,Q,P,gv,U,F,tx,T,Pc.f,↓Oo t1,↓Oo t4];refine A _ _ _ ⟨N-1,J,3,st+1,rfl,J,A1,Ae,Ak,Co,As,by simp,Ab,?_,?_,?_,?_,?_⟩
    ·rw[J1 Ab];simp[P8,pW,wx]
    ·rw[Jy Ac,Oo J,Z,Y]
    ·rw[Jy Ac,Oo J,Q,z1]
    ·rw[Jy Ac,Oo J,y3,z3]
    ·rw[O,Jy Ac,Oo J];exact R
   ·have T:Qc z o.a=⟨0,0,0⟩:=J2 gv;simp[g,D,E,B,C,L,R,Q,P,gv];exact A _ _ _ ⟨N-1,J,3,st,rfl,J,A1,Ae,Ak,Co,As,by simp,J,Dv,by rw[Z,Y],Ho,Gw,El⟩
  ·have ee:=wg qb;simp[P8,pW]at P;by_cases gv:0≤o.b
   ·obtain⟨x,U⟩:=J3 gv;have F:x<G.length:=J
    obtain⟨F,_⟩:=z5z hP F;have tx:=zae (zi0 F);have T:=zsv F;have wx:Qc z o.b=T5 z x:=Ci
    have t1:1<X.length:=J
    have t4:4<X.length:=J
    simp[g,D,E,B,C,L,R,Q,P,gv,U,F,tx,T,Pc.f,↓Oo t1,↓Oo t4];refine A _ _ _ ⟨N-1,J,4,st+1,rfl,J,A1,Ae,Ak,Co,As,by simp,Ab,?_,?_,?_,?_,?_⟩
    ·rw[J1 Ab];simp[P8,pW,wx]
    ·rw[Jy Ac,Oo J,Z,Y]
    ·rw[Jy Ac,Oo J,Q,z1]
    ·rw[Jy Ac,Oo J,y3,z3]
    ·rw[O,Jy Ac,Oo J];exact R
   ·have T:Qc z o.b=⟨0,0,0⟩:=J2 gv;simp[g,D,E,B,C,L,R,Q,P,gv];exact A _ _ _ ⟨N-1,J,4,st,rfl,J,A1,Ae,Ak,Co,As,by simp,J,Dv,by rw[Z,Y],Ho,Gw,El⟩
  ·have ee:=wg qc;simp[P8,pW]at P;by_cases gv:0≤o.c
   ·obtain⟨x,U⟩:=J3 gv;have F:x<G.length:=J
    obtain⟨F,_⟩:=z5z hP F;have tx:=zae (zi0 F);have T:=zsv F;have wx:Qc z o.c=T5 z x:=Ci
    have t1:1<X.length:=J
    have t4:4<X.length:=J
    simp[g,D,E,B,C,L,R,Q,P,gv,U,F,tx,T,Pc.f,↓Oo t1,↓Oo t4];refine A _ _ _ ⟨N-1,J,5,st+1,rfl,J,A1,Ae,Ak,Co,As,by simp,Ab,?_,?_,?_,?_,?_⟩
    ·rw[J1 Ab];simp[P8,pW,wx]
    ·rw[Jy Ac,Oo J,Z,Y]
    ·rw[Jy Ac,Oo J,Q,z1]
    ·rw[Jy Ac,Oo J,y3,z3]
    ·rw[O,Jy Ac,Oo J];exact R
   ·have T:Qc z o.c=⟨0,0,0⟩:=J2 gv;simp[g,D,E,B,C,L,R,Q,P,gv];exact A _ _ _ ⟨N-1,J,5,st,rfl,J,A1,Ae,Ak,Co,As,by simp,J,Dv,by rw[Z,Y],Ho,Gw,El⟩
 have hi:i=5:=J
 subst hi;have q5:X[4]?=some (.cells (P8 3 gB (Qc z o.d) (Qc z o.e) (Qc z o.a) (Qc z o.b) (Qc z o.c) w) st):=by simpa [pW] using P
 simp[g,D,C,L,Z];have e5:P1 X 3 [] j:=⟨0,.nilSl,y3,Qt.nil⟩;refine bx (o:=o) ⟨hm.1,gF⟩ J (gg (wg qd)) (gg (wg qa)) (gg (wg qb)) pw ?_ q5 Ac e5 (by simp) λG6 h6 k6=>?_
 ·intro g6;have gD:s=13:=by
   have:R5 6=some 13:=rfl;rw[g6,this]at hs;exact (Option.some.inj hs).symm
  subst gD;have ha:=Un qa Ac;have hb:=Un qb Ac;obtain⟨e1,e2,e3⟩:=zid hP ha;obtain⟨f1,f2,f3⟩:=zid hP hb;have:Te G o.b=Te G o.a:=by
   have:=Lq.1 gG o.b (by simp[Ta,g6]);simpa [Ta,g6] using this
  omega
 have q6:=k6.cells Ac q5;obtain⟨gV,v',u1,u2⟩:=id h6;simp[g,P8]at q6 ⊢;simp[q6,u1];exact u2.bor
end
def z59:LC:=(.q [.z 4 (.move (.c (.u 0)))] (.seq (.q [.m 5 1,.b 6 .geq 3 5 0,.m 7 6,.my 8 7 1,.my 9 7 0,.y 10 7 (.lenSl (.t 9)),.y 11 7 (.bin .lss false 3 (.t 8) (.t 10)),.q 12 7 11] (.cond (.t 12) (.q [.m 13 0,.m 14 1,.I 15 1 13 14,.l 16 15,.m 4 16] .ret) .skip)) (.q [.z 4 (.move (.c (.u 0)))] .ret)))
def r_ref02_limb:Oz Tryz.prog 46=some ⟨17,z59.r,[.tmp 4]⟩:=Aa
def zdx:LC:=(.q [.e 2] (.q [.m 4 0,.s 5 4,.m 3 5] (.seq (.block 0 (.loop (.seq (.q [.m 6 3,.b 7 .gtr 3 6 0,.m 8 7,.my 9 8 0,.my 10 8 3,.y 11 8 (.bin .sub true 3 (.t 10) (.k 1)),.y 12 8 (.ixAddr 1 (.t 9) (.t 11)),.yl 13 8 12,.y 14 8 (.bin .eql true 23 (.t 13) (.c (.u 0))),.q 15 8 14] (.cond (.t 15) .skip (.exit 0))) (.block 1 (.ops [.m 16 3,.b 17 .sub 3 16 1,.m 3 17]))))) (.q [.z 18 (.buildSl 1 0 [] []),.m 19 0,.m 20 3,.z 21 (.slSl 1 (.t 19) none (some (.t 20))),.a 22 1 18 21,.m 2 22] .ret))))
def r_ref02_Trim:Oz Tryz.prog 47=some ⟨23,zdx.r,[.tmp 2]⟩:=Aa
def zba:LC:=(.q [.z 6 (.move (.c (.u 0))),.F 7] (.q [.m 10 0,.m 11 1,.c 12 .add 23 10 11,.m 8 12] (.q [.m 13 8,.m 14 0,.c 15 .lss 23 13 14,.m 9 15] (.seq (.q [.m 16 2] (.cond (.t 16) (.q [.m 17 8,.u 18 .add 23 17 1,.m 8 18] (.ops [.m 19 9,.m 20 19,.mn 21 20 8,.n 22 20 (.bin .eql true 23 (.t 21) (.c (.u 0))),.p 23 20 22,.m 9 23])) .skip)) (.q [.m 24 8,.m 25 9,.m 6 24,.m 7 25] .ret)))))
def r_ref01_Add:Oz Tryz.prog 49=some ⟨26,zba.r,[.tmp 6,.tmp 7]⟩:=Aa
def zc9(a:List UInt64)(i:Int):O2 46 [LU a,.i i] (.u (if 0≤i then a.getD i.toNat 0 else 0)) []:=by
 refine P4.val rfl (O0 r_ref02_limb Aa N ?_);by_cases g:0≤i<;>by_cases j:i<a.length
 ·have z:i.toNat<a.length:=J
  simp[z59,g,j,z]
 ·have z:a[i.toNat]?=none:=Ab
  simp[z59,g,j,z]
 ·simp[z59,g,j]
 ·simp[z59,g,j]
def z8m(a:List UInt64)(L:a.length≤1048576):O2 47 [LU a] (.dy 0 0) [RU (Xm (val a))]:=by
 refine P4.row (O0 r_ref02_Trim Aa (by simp) ?_);simp[zdx];refine pt (λG I K z=>I=[]∧K=[]∧z≤a.length∧lk G 0=LU a∧lk G 3=.i z∧val (a.take z)=val a) (N:=a.length) (by simp) ?_;rintro z G I K ⟨rfl,rfl,M,C,D,F⟩;simp at C;have A:(z=0∨a.getD (z-1) 0≠0)→Xm (val a)=a.take z:=by
  intro h;rw[←F];refine toL_val ?_;rcases h with rfl|h
  ·exact .inl (by simp)
  ·by_cases E:z=0
   ·subst E;exact .inl (by simp)
   ·have:z=(z-1)+1:=J
    rw[this,zas J];exact eu h
 by_cases E:z=0
 ·subst E;have B:=A (.inl rfl);simp at D B;simp[C,D,B,znp];exact⟨0,1,⟨rfl,rfl⟩,by simp⟩
 ·obtain⟨n,rfl⟩:∃n,z=n+1:=⟨z-1,J⟩;have g:n<a.length:=J
  have H:((n:Int)+1-1).toNat=n:=J
  simp[C,D,g,H];refine⟨J,λj=>⟨J,n,J,J,rfl,?_⟩,λj=>⟨J,J,J,?_⟩⟩
  ·rw[←F,zby g];simp[g,j]
  ·have B:=A (.inr (by simpa [g] using j));refine .inr ⟨0,1,1,rfl,?_⟩;rw[B];simp[List.map_take];omega
def zlh(a b:UInt64):(a≤a+b→decide (a+b+1=0)=(Ow a b true).2)∧(a+b<a→true=(Ow a b true).2):=by
 unfold Ow;refine⟨λh=>?_,λh=>?_⟩
 ·have g:¬a+b<a:=Oi.2 h;simp[g]
 ·simp[h]
def z5c(a b:UInt64)(c:Bool):O2 49 [.u a,.u b,.bool c] (.tup [.u (Ow a b c).1,.bool (Ow a b c).2]) []:=by
 refine P4.val rfl (O0 r_ref01_Add Aa N ?_);cases c
 ·simp[zba];simp[Ow,U2]
 ·simp[zba];simp only[U2];exact⟨λh=>⟨rfl,((zlh a b).2 h).symm⟩,λh=>⟨rfl,(zlh a b).1 h⟩⟩

def zcd:LC:=(.q [.F 4] (.seq (.q [.K 5 0] (.block 0 (.loop (.seq (.q [.m 8 5,.m 9 0,.s 10 9,.c 11 .lss 3 8 10,.m 12 11,.mn 13 12 5,.mn 14 12 1,.n 15 12 (.lenSl (.t 14)),.n 16 12 (.bin .lss false 3 (.t 13) (.t 15)),.p 17 12 16] (.cond (.t 17) .skip (.exit 0))) (.seq (.block 1 (.q [.z 6 (.move (.c (.u 0))),.z 7 (.move (.c (.u 0)))] (.seq (.q [.m 20 5,.m 21 0,.s 22 21,.c 23 .lss 3 20 22] (.cond (.t 23) (.ops [.m 24 0,.m 25 5,.I 26 1 24 25,.l 27 26,.m 6 27]) .skip)) (.seq (.q [.m 28 5,.m 29 1,.s 30 29,.c 31 .lss 3 28 30] (.cond (.t 31) (.ops [.m 32 1,.m 33 5,.I 34 1 32 33,.l 35 34,.m 7 35]) .skip)) (.q [.m 36 6,.m 37 7,.c 38 .neq 23 36 37] (.cond (.t 38) (.q [.F 4] .ret) .skip)))))) (.ops [.m 18 5,.b 19 .add 3 18 1,.m 5 19])))))) (.q [.z 4 (.move .T)] .ret)))
def r_kit_Natural:Oz Tryz.prog 22=some ⟨39,zcd.r,[.tmp 4]⟩:=Aa
def z4c:LC:=(.q [.F 4] (.seq (.q [.m 6 0,.s 7 6,.m 8 1,.s 9 8,.c 10 .neq 3 7 9] (.cond (.t 10) (.q [.F 4] .ret) .skip)) (.seq (.q [.K 5 0] (.block 0 (.loop (.seq (.q [.m 11 5,.m 12 0,.s 13 12,.c 14 .lss 3 11 13] (.cond (.t 14) .skip (.exit 0))) (.seq (.block 1 (.seq (.draw [(.m 17 0,[]),(.m 18 5,[]),(.I 19 1 17 18,[]),(.l 20 19,[]),(.m 21 1,[]),(.m 22 5,[]),(.I 23 1 21 22,[]),(.l 24 23,[]),(.c 25 .neq 23 20 24,[])]) (.cond (.t 25) (.q [.F 4] .ret) .skip))) (.ops [.m 15 5,.b 16 .add 3 15 1,.m 5 16])))))) (.q [.z 4 (.move .T)] .ret))))
def r_kit_Same_uint64:Oz Tryz.prog 21=some ⟨26,z4c.r,[.tmp 4]⟩:=Aa
def zhs(a b:List UInt64)(R:a.length≤1000000)(T:b.length≤1000000):O2 22 [LU a,LU b] (.bool (decide (val a=val b))) []:=by
 refine P4.val rfl (O0 r_kit_Natural Aa (by simp) ?_);simp[zcd];refine Ql (λL Q U N=>∃i:Nat,Q=[]∧N+i=max a.length b.length∧lk L 0=LU a∧lk L 1=LU b∧lk L 5=.i i∧val (a.take i)=val (b.take i)) (N:=max a.length b.length) ⟨0,by simp⟩ ?_;rintro N L Q U ⟨i,rfl,V,z,A,I,K⟩ X B;have next:a.getD i 0=b.getD i 0→val (a.take (i+1))=val (b.take (i+1)):=λe=>by rw[z3c,z3c,e,K]
 have g:a.getD i 0≠b.getD i 0→val a≠val b:=λe M=>e (val_getD M i)
 have C:a.getD i 0=b.getD i 0→(i<a.length∨i<b.length)→∃j,j<N∧j+(i+1)=max a.length b.length∧val (a.take (i+1))=val (b.take (i+1)):=λe h=>⟨N-1,J,J,next e⟩
 by_cases D:i<a.length<;>by_cases E:i<b.length
 ·simp[D,E]at next g C
  simp[z,A,I,D,E];refine⟨λe=>⟨J,?_⟩,g⟩;obtain⟨j,F,G,H⟩:=C e;exact B _ _ _ ⟨j,F,i+1,rfl,G,Al,At,by simp,H⟩
 ·have O:b[i]?=none:=Ab
  simp[D,O]at next g C
  simp[z,A,I,D,E];refine⟨λe=>⟨J,?_⟩,g⟩;obtain⟨j,F,G,H⟩:=C e;exact B _ _ _ ⟨j,F,i+1,rfl,G,Al,At,by simp,H⟩
 ·have P:a[i]?=none:=Ab
  simp[E,P]at next g C
  simp[z,A,I,D,E];refine⟨λe=>⟨J,?_⟩,g⟩;obtain⟨j,F,G,H⟩:=C e;exact B _ _ _ ⟨j,F,i+1,rfl,G,Al,At,by simp,H⟩
 ·simp[z,A,I,D,E];rw[←z6u (a:=a) (n:=i) J,←z6u (a:=b) (n:=i) J,K]
def zf8(a b:List UInt64)(I:a.length≤1000000000):O2 21 [LU a,LU b] (.bool (decide (a=b))) []:=by
 refine P4.val rfl (O0 r_kit_Same_uint64 Aa (by simp) ?_);by_cases g:a.length=b.length
 ·simp[z4c,g];refine Ql (λG H K N=>∃i:Nat,H=[]∧N+i=a.length∧lk G 0=LU a∧lk G 1=LU b∧lk G 5=.i i∧a.take i=b.take i) (N:=a.length) ⟨0,A1⟩ ?_;rintro N G H K ⟨i,rfl,L,A,C,D,F⟩ M E;by_cases O:N=0
  ·have hi:i=a.length:=J
   subst hi;have e:a=b:=by rwa [My,g,My]at F
   subst e;simp[A,D]
  ·have hi:i<a.length:=J
   have j:i<b.length:=J
   by_cases B:a[i]=b[i]
   ·simp[A,C,D,hi,j,B];refine⟨J,E _ _ _ ⟨N-1,J,i+1,rfl,J,At,As,by simp,?_⟩⟩;rw[K6 hi,K6 j,F,B]
   ·have e:a≠b:=λe=>B (by subst e;rfl)
    simp[A,C,D,hi,j,B,e]
 ·have e:a≠b:=λe=>g (by rw[e])
  have z:¬(a.length:Int)=b.length:=J
  simp[z4c,g,z,e]
def zbo:LC:=(.q [.z 6 (.move (.c (.u 0))),.F 7] (.q [.m 10 0,.m 11 1,.c 12 .sub 23 10 11,.m 8 12] (.q [.m 13 0,.m 14 1,.c 15 .lss 23 13 14,.m 9 15] (.seq (.q [.m 16 2] (.cond (.t 16) (.q [.m 17 9,.m 18 17,.mn 19 18 8,.n 20 18 (.bin .eql true 23 (.t 19) (.c (.u 0))),.p 21 18 20,.m 9 21] (.ops [.m 22 8,.u 23 .sub 23 22 1,.m 8 23])) .skip)) (.q [.m 24 8,.m 25 9,.m 6 24,.m 7 25] .ret)))))
def r_ref01_Sub:Oz Tryz.prog 84=some ⟨26,zbo.r,[.tmp 6,.tmp 7]⟩:=Aa
def zgx:LC:=(.q [.z 4 (.move (.c (.u 0))),.z 5 (.move (.c (.u 0)))] (.q [.m 12 0,.u 13 .shr 23 12 32,.m 14 0,.u 15 .and 23 14 4294967295,.m 6 13,.m 7 15] (.q [.m 16 1,.u 17 .shr 23 16 32,.m 18 1,.u 19 .and 23 18 4294967295,.m 8 17,.m 9 19] (.q [.m 20 6,.m 21 9,.c 22 .mul 23 20 21,.m 23 7,.m 24 9,.c 25 .mul 23 23 24,.u 26 .shr 23 25 32,.c 27 .add 23 22 26,.m 10 27] (.q [.m 28 7,.m 29 8,.c 30 .mul 23 28 29,.m 31 10,.u 32 .and 23 31 4294967295,.c 33 .add 23 30 32,.m 11 33] (.q [.m 34 6,.m 35 8,.c 36 .mul 23 34 35,.m 37 10,.u 38 .shr 23 37 32,.c 39 .add 23 36 38,.m 40 11,.u 41 .shr 23 40 32,.c 42 .add 23 39 41,.m 43 0,.m 44 1,.c 45 .mul 23 43 44,.m 4 42,.m 5 45] .ret))))))
def r_ref01_Mul:Oz Tryz.prog 48=some ⟨46,zgx.r,[.tmp 4,.tmp 5]⟩:=Aa
def znd(a b:UInt64):(b≤a→decide (a-b=0)=(Rc a b true).2)∧(a<b→true=(Rc a b true).2):=by
 unfold Rc;refine⟨λh=>?_,λh=>?_⟩
 ·have g:¬a<b:=Oi.2 h;simp[g]
 ·simp[h]
def zn8(a b:UInt64)(c:Bool):O2 84 [.u a,.u b,.bool c] (.tup [.u (Rc a b c).1,.bool (Rc a b c).2]) []:=by
 refine P4.val rfl (O0 r_ref01_Sub Aa N ?_);cases c
 ·simp[zbo];simp[Rc,Yo]
 ·simp[zbo];simp only[Yo];exact⟨λh=>⟨rfl,((znd a b).2 h).symm⟩,λh=>⟨rfl,(znd a b).1 h⟩⟩
def ze6(a b:UInt64):O2 48 [.u a,.u b] (.tup [.u (Uf a b),.u (a*b)]) []:=by
 refine P4.val rfl (O0 r_ref01_Mul Aa N ?_);simp[zgx];exact⟨mul_hi a b,zgb a b⟩
def z41:LC:=(.q [.x 1 0,.e 2] (.seq (.block 0 (.q [.f 4 0 1,.l 5 4,.b 6 .eql 3 5 2,.m 7 6,.nf 8 7 0 1,.nl 9 7 8,.nb 10 7 .eql 3 9 8,.p 11 7 10,.m 12 11,.nf 13 12 0 1,.nl 14 12 13,.nb 15 12 .eql 3 14 9,.p 16 12 15,.m 3 16] (.cond (.t 3) (.q [.f 17 3 1,.l 18 17,.z 19 (.buildSl 1 1 [(.i 0)] [(0,1,.t 18)]),.m 2 19] .ret) (.q [.f 21 0 1,.l 22 21,.b 23 .geq 3 22 3,.m 24 23,.yf 25 24 0 1,.yl 26 24 25,.y 27 24 (.bin .leq true 3 (.t 26) (.k 7)),.q 28 24 27,.m 29 28,.nf 30 29 0 1,.nl 31 29 30,.nb 32 29 .eql 3 31 10,.p 33 29 32,.m 20 33] (.cond (.t 20) (.q [.f 34 3 1,.l 35 34,.f 36 4 1,.l 37 36,.z 38 (.buildSl 1 2 [(.i 0),(.i 0)] [(0,1,.t 35),(1,1,.t 37)]),.m 2 38] .ret) (.q [.f 40 0 1,.l 41 40,.b 42 .eql 3 41 11,.m 43 42,.nf 44 43 0 1,.nl 45 43 44,.nb 46 43 .eql 3 45 12,.p 47 43 46,.m 48 47,.nf 49 48 0 1,.nl 50 48 49,.nb 51 48 .eql 3 50 13,.p 52 48 51,.m 39 52] (.cond (.t 39) (.q [.f 53 3 1,.l 54 53,.f 55 4 1,.l 56 55,.f 57 5 1,.l 58 57,.z 59 (.buildSl 1 3 [(.i 0),(.i 0),(.i 0)] [(0,1,.t 54),(1,1,.t 56),(2,1,.t 58)]),.m 2 59] .ret) (.q [.f 61 0 1,.l 62 61,.b 63 .eql 3 62 14,.m 64 63,.yf 65 64 3 1,.yl 66 64 65,.y 67 64 (.bin .neq true 3 (.t 66) (.k (-1))),.q 68 64 67,.m 60 68] (.cond (.t 60) (.q [.f 69 3 1,.l 70 69,.z 71 (.buildSl 1 1 [(.i 0)] [(0,1,.t 70)]),.m 2 71] .ret) (.q [.f 73 0 1,.l 74 73,.b 75 .eql 3 74 15,.m 76 75,.yf 77 76 3 1,.yl 78 76 77,.y 79 76 (.bin .neq true 3 (.t 78) (.k (-1))),.q 80 76 79,.m 72 80] (.cond (.t 72) (.q [.f 81 3 1,.l 82 81,.f 83 4 1,.l 84 83,.z 85 (.buildSl 1 2 [(.i 0),(.i 0)] [(0,1,.t 82),(1,1,.t 84)]),.m 2 85] .ret) (.q [.f 87 0 1,.l 88 87,.b 89 .eql 3 88 15,.m 86 89] (.cond (.t 86) (.q [.f 90 4 1,.l 91 90,.z 92 (.buildSl 1 1 [(.i 0)] [(0,1,.t 91)]),.m 2 92] .ret) .skip))))))))))))) (.q [.e 2] .ret)))
def r_ref12_Takes:Oz Tryz.prog 79=some ⟨93,z41.r,[.tmp 2]⟩:=Aa
def z2m:LC:=(.q [.x 1 0,.e 2] (.seq (.block 0 (.q [.f 4 0 1,.l 5 4,.b 6 .eql 3 5 10,.m 7 6,.nf 8 7 0 1,.nl 9 7 8,.nb 10 7 .eql 3 9 11,.p 11 7 10,.m 12 11,.nf 13 12 0 1,.nl 14 12 13,.nb 15 12 .eql 3 14 12,.p 16 12 15,.m 3 16] (.cond (.t 3) (.q [.f 17 1 1,.l 18 17,.f 19 2 1,.l 20 19,.z 21 (.buildSl 1 2 [(.i 0),(.i 0)] [(0,1,.t 18),(1,1,.t 20)]),.m 2 21] .ret) (.q [.f 23 0 1,.l 24 23,.b 25 .eql 3 24 15,.m 26 25,.nf 27 26 0 1,.nl 28 26 27,.nb 29 26 .eql 3 28 17,.p 30 26 29,.m 22 30] (.cond (.t 22) (.q [.e 2] .ret) .skip))))) (.q [.f 31 1 1,.l 32 31,.z 33 (.buildSl 1 1 [(.i 0)] [(0,1,.t 32)]),.m 2 33] .ret)))
def r_ref12_Makes:Oz Tryz.prog 78=some ⟨34,z2m.r,[.tmp 2]⟩:=Aa
def z82:LC:=(.q [.x 3 0,.F 6] (.seq (.q [.m 7 2,.z 8 (.un .not (.t 7))] (.cond (.t 8) (.q [.m 9 1,.b 10 .eql 3 9 (-1),.m 6 10] .ret) .skip)) (.q [.m 11 1,.b 12 .geq 3 11 0,.m 13 12,.my 14 13 1,.yf 15 13 0 3,.yl 16 13 15,.y 17 13 (.bin .lss false 3 (.t 14) (.t 16)),.q 18 13 17,.m 6 18] .ret)))
def r_ref12_field:Oz Tryz.prog 129=some ⟨19,z82.r,[.tmp 6]⟩:=Aa
def z3j:LC:=(.q [.x 2 0,.x 3 1,.F 4] (.q [.f 12 0 3,.l 13 12,.m 5 13] (.seq (.q [.m 14 5,.b 15 .lss 3 14 1,.m 16 15,.mn 17 16 5,.nb 18 16 .gtr 3 17 17,.p 19 16 18] (.cond (.t 19) (.q [.F 4] .ret) .skip)) (.q [.m 20 5,.b 21 .eql 3 20 14,.m 22 21,.mn 23 22 5,.nb 24 22 .eql 3 23 15,.p 25 22 24,.m 6 25] (.q [.m 26 5,.b 27 .neq 3 26 15,.m 28 27,.my 29 28 5,.y 30 28 (.bin .neq true 3 (.t 29) (.k 17)),.q 31 28 30,.m 7 31] (.q [.m 32 5,.b 33 .eql 3 32 10,.m 34 33,.mn 35 34 5,.nb 36 34 .eql 3 35 11,.p 37 34 36,.m 38 37,.mn 39 38 5,.nb 40 38 .eql 3 39 12,.p 41 38 40,.m 8 41] (.q [.m 42 5,.b 43 .neq 3 42 1,.m 44 43,.my 45 44 5,.y 46 44 (.bin .neq true 3 (.t 45) (.k 16)),.q 47 44 46,.m 48 47,.my 49 48 5,.y 50 48 (.bin .neq true 3 (.t 49) (.k 17)),.q 51 48 50,.m 9 51] (.q [.m 52 5,.b 53 .geq 3 52 3,.m 54 53,.my 55 54 5,.y 56 54 (.bin .leq true 3 (.t 55) (.k 7)),.q 57 54 56,.m 58 57,.mn 59 58 5,.nb 60 58 .geq 3 59 10,.mn 61 58 60,.my 62 61 5,.y 63 61 (.bin .leq true 3 (.t 62) (.k 13)),.n 64 58 (.pick (.t 61) (.t 63) .F),.p 65 58 64,.m 66 65,.mn 67 66 5,.nb 68 66 .eql 3 67 15,.p 69 66 68,.m 10 69] (.q [.m 70 5,.b 71 .geq 3 70 11,.m 72 71,.my 73 72 5,.y 74 72 (.bin .leq true 3 (.t 73) (.k 13)),.q 75 72 74,.m 11 75] (.seq (.q [.L 76 3 2,.f 77 1 3,.l 78 77,.m 79 7,.V 80 129 76 78 79,.z 81 (.un .not (.t 80)),.m 82 81,.n 83 82 (.loadN 3 (.t 2)),.nf 84 82 2 3,.nl 85 82 84,.mn 86 82 8,.n 87 82 (.w 129 [.t 83,.t 85,.t 86]),.n 88 82 (.un .not (.t 87)),.p 89 82 88,.m 90 89,.n 91 90 (.loadN 3 (.t 2)),.nf 92 90 3 3,.nl 93 90 92,.mn 94 90 9,.n 95 90 (.w 129 [.t 91,.t 93,.t 94]),.n 96 90 (.un .not (.t 95)),.mn 97 90 96,.my 98 97 6,.my 99 97 98,.yf 100 99 3 3,.yl 101 99 100,.y 102 99 (.bin .eql true 3 (.t 101) (.k (-1))),.y 103 97 (.pick (.t 99) (.t 102) .F),.y 104 97 (.un .not (.t 103)),.n 105 90 (.pick (.t 97) (.t 104) .F),.p 106 90 105,.m 107 106,.n 108 107 (.loadN 3 (.t 2)),.nf 109 107 4 3,.nl 110 107 109,.mn 111 107 10,.n 112 107 (.w 129 [.t 108,.t 110,.t 111]),.n 113 107 (.un .not (.t 112)),.p 114 107 113,.m 115 114,.n 116 115 (.loadN 3 (.t 2)),.nf 117 115 5 3,.nl 118 115 117,.mn 119 115 11,.n 120 115 (.w 129 [.t 116,.t 118,.t 119]),.n 121 115 (.un .not (.t 120)),.p 122 115 121,.m 123 122,.mn 124 123 8,.mn 125 123 124,.yf 126 125 1 3,.yl 127 125 126,.yf 128 125 2 3,.yl 129 125 128,.y 130 125 (.bin .eql false 3 (.t 127) (.t 129)),.n 131 123 (.pick (.t 125) (.t 130) .F),.p 132 123 131] (.cond (.t 132) (.q [.F 4] .ret) .skip)) (.seq (.block 0 (.q [.m 134 6,.m 133 134] (.cond (.t 133) (.seq (.q [.f 135 6 3,.l 136 135,.b 137 .lss 3 136 0,.m 138 137,.nf 139 138 6 3,.nl 140 138 139,.nf 141 138 1 2,.nl 142 138 141,.n 143 138 (.lenSl (.t 142)),.n 144 138 (.bin .geq false 3 (.t 140) (.t 143)),.p 145 138 144,.m 146 145,.mn 147 146 5,.nb 148 146 .eql 3 147 15,.mn 149 146 148,.yf 150 149 1 2,.yl 151 149 150,.yf 152 149 6 3,.yl 153 149 152,.y 154 149 (.ixAddr 3 (.t 151) (.t 153)),.yf 155 149 1 154,.yl 156 149 155,.y 157 149 (.bin .eql true 3 (.t 156) (.k 1)),.n 158 146 (.pick (.t 149) (.t 157) .F),.p 159 146 158] (.cond (.t 159) (.q [.F 4] .ret) .skip)) (.seq (.draw [(.f 160 3 3,[]),(.l 161 160,[]),(.b 162 .neq 3 161 (-1),[]),(.m 163 162,[]),(.nf 164 163 7 3,[]),(.nl 165 163 164,[]),(.nf 166 163 1 2,[]),(.nl 167 163 166,[]),(.nf 168 163 6 3,[]),(.nl 169 163 168,[]),(.n 170 163 (.ixAddr 3 (.t 167) (.t 169)),[]),(.nf 171 163 0 170,[]),(.nl 172 163 171,[]),(.n 173 163 (.cvInt .u64 (.t 172)),[]),(.n 174 163 (.bin .lss false 23 (.t 165) (.t 173)),[]),(.p 175 163 174,[]),(.m 4 175,[])]) .ret)) (.q [.f 177 6 3,.l 178 177,.b 179 .neq 3 178 0,.m 176 179] (.cond (.t 176) (.q [.F 4] .ret) (.q [.m 181 5,.b 182 .eql 3 181 1,.m 180 182] (.cond (.t 180) (.q [.z 4 (.move .T)] .ret) (.q [.m 184 5,.b 185 .eql 3 184 8,.m 186 185,.mn 187 186 5,.nb 188 186 .eql 3 187 9,.p 189 186 188,.m 183 189] (.cond (.t 183) (.q [.f 190 7 3,.l 191 190,.u 192 .geq 23 191 1,.m 193 192,.yf 194 193 7 3,.yl 195 193 194,.y 196 193 (.bin .leq true 23 (.t 195) (.c (.u 63))),.q 197 193 196,.m 4 197] .ret) (.q [.m 199 5,.b 200 .eql 3 199 16,.m 198 200] (.cond (.t 198) (.q [.f 201 7 3,.l 202 201,.u 203 .geq 23 202 1,.m 204 203,.yf 205 204 7 3,.yl 206 204 205,.y 207 204 (.bin .leq true 23 (.t 206) (.c (.u 1048576))),.q 208 204 207,.m 4 208] .ret) .skip))))))))))) (.q [.f 209 7 3,.l 210 209,.u 211 .eql 23 210 0,.m 4 211] .ret))))))))))))
def r_ref12_fields:Oz Tryz.prog 77=some ⟨212,z3j.r,[.tmp 4]⟩:=Aa
def k_ref12_fields:z3j.ok=true:=Aa
def ziv:LC:=(.q [.F 4] (.seq (.q [.K 5 0] (.block 0 (.loop (.seq (.q [.m 6 5,.m 7 0,.s 8 7,.c 9 .lss 3 6 8] (.cond (.t 9) .skip (.exit 0))) (.seq (.block 1 (.q [.m 12 0,.m 13 5,.I 14 1 12 13,.l 15 14,.m 16 1,.c 17 .eql 3 15 16] (.cond (.t 17) (.q [.z 4 (.move .T)] .ret) .skip))) (.ops [.m 10 5,.b 11 .add 3 10 1,.m 5 11])))))) (.q [.F 4] .ret)))
def r_ref12_in:Oz Tryz.prog 80=some ⟨18,ziv.r,[.tmp 4]⟩:=Aa
def zgj:LC:=(.q [.z 2 (.move (.c (.u 0)))] (.seq (.q [.m 3 0] (.cond (.t 3) (.q [.z 2 (.move (.c (.u 1)))] .ret) .skip)) (.q [.z 2 (.move (.c (.u 0)))] .ret)))
def r_ref12_bit:Oz Tryz.prog 83=some ⟨4,zgj.r,[.tmp 2]⟩:=Aa
def zcz(k:Int):k<1∨k=1∨k=2∨k=3∨k=4∨k=5∨k=6∨k=7∨k=8∨k=9∨k=10∨k=11∨k=12∨k=13∨k=14∨k=15∨k=16∨k=17∨17<k:=J
def Yt(l:List Int):dats (l.map .i)=true:=ug (λ_=>rfl) l
def zb4(o:Lo):Rd 79 [.agg o.f] (.lst ((P3 o).map .i) (P3 o).length 1):=by
 refine T2.mk Hs (O0 r_ref12_Takes Aa N ?_);have D:o.f=[.i o.kind,.i o.d,.i o.e,.i o.a,.i o.b,.i o.c,.i o.buf,.u o.imm]:=rfl;rcases zcz o.kind with h|h|h|h|h|h|h|h|h|h|h|h|h|h|h|h|h|h|h
 case inr.inr.inr.inr.inr.inr.inr.inr.inr.inr.inr.inr.inr.inr.inl|inr.inr.inr.inr.inr.inr.inr.inr.inr.inr.inr.inr.inr.inr.inr.inl =>
  by_cases H:o.a=-1<;>simp[z41,D,P3,h,H,Ra,bor,LV.dat,dats]
 case inl|inr.inr.inr.inr.inr.inr.inr.inr.inr.inr.inr.inr.inr.inr.inr.inr.inr.inr =>
  have E:o.kind≠2:=J
  have I:¬(3≤o.kind∧o.kind≤7):=J
  have F:o.kind≠8:=J
  have G:o.kind≠9:=J
  have g:o.kind≠10:=J
  have j:o.kind≠11:=J
  have z:o.kind≠12:=J
  have A:o.kind≠13:=J
  have B:o.kind≠14:=J
  have C:o.kind≠15:=J
  by_cases K:3≤o.kind
  ·have L:¬o.kind≤7:=λq=>I ⟨K,q⟩
   simp[z41,D,P3,K,L,E,F,G,g,j,z,A,B,C,Ra,bor,LV.dat,dats]
  ·simp[z41,D,P3,K,E,F,G,g,j,z,A,B,C,Ra,bor,LV.dat,dats]
 all_goals simp[z41,D,P3,h,Ra,bor,LV.dat,dats]
def zb6(o:Lo):Rd 78 [.agg o.f] (.lst ((O7 o).map .i) (O7 o).length 1):=by
 refine T2.mk Hs (O0 r_ref12_Makes Aa N ?_);have g:o.f=[.i o.kind,.i o.d,.i o.e,.i o.a,.i o.b,.i o.c,.i o.buf,.u o.imm]:=rfl;by_cases j:o.kind=10;· simp[z2m,g,O7,j,Ra,bor,LV.dat,dats]
 by_cases z:o.kind=11;· simp[z2m,g,O7,z,Ra,bor,LV.dat,dats]
 by_cases A:o.kind=12;· simp[z2m,g,O7,A,Ra,bor,LV.dat,dats]
 by_cases B:o.kind=15;· simp[z2m,g,O7,B,Ra,bor,LV.dat,dats]
 by_cases C:o.kind=17;· simp[z2m,g,O7,C,Ra,bor,LV.dat,dats]
 simp[z2m,g,O7,j,z,A,B,C,Ra,bor,LV.dat,dats]
def zhl(g:Int)(x y:LV)(r:Int)(b:Bool):O2 129 [.agg [.i g,x,y],.i r,.bool b] (.bool (Sa g r b)) []:=by
 refine P4.val rfl (O0 r_ref12_field Aa N ?_);cases b with
 |false=>simp[z82,Sa]
 |true=>by_cases j:0≤r<;>simp[z82,Sa,j]
def zdr(b:Bool):O2 83 [.bool b] (.u (Qh b)) []:=by
 refine P4.val rfl (O0 r_ref12_bit Aa N ?_);cases b<;>simp[zgj,Qh]
def znm(l:List Int)(n:Int)(H:l.length≤1000000000):O2 80 [.lst (l.map .i) l.length 1,.i n] (.bool (l.contains n)) []:=by
 refine P4.val rfl (O0 r_ref12_in Aa (by simp) ?_);simp[ziv];refine Ql (λE G I N=>∃i:Nat,G=[]∧N+i=l.length∧lk E 0=.lst (l.map .i) l.length 1∧lk E 1=.i n∧lk E 5=.i i∧∀x∈l.take i,¬x=n) (N:=l.length) ⟨0,rfl,J,by simp,by simp,by simp,by simp⟩ ?_;rintro N E G I ⟨i,rfl,K,j,z,A,B⟩ L C;by_cases D:i<l.length
 ·have q:(l.map LV.i)[i]?=some (.i l[i]):=Ae
  have hm:l[i]∈l:=Na D;have F:l.take (i+1)=l.take i++[l[i]]:=K6 D;generalize l[i]=x at *;by_cases e:x=n
  ·subst e;simp[j,z,A,D,Ov q,hm]
  ·simp[j,z,A,D,Ov q,e];refine⟨J,C _ _ _ ⟨N-1,J,i+1,rfl,J,Ay,Al,by simp,λy g=>?_⟩⟩;rw[F]at g;rcases Ks.1 g with g|g
   ·exact B y g
   ·simp at g;rw[g];exact e
 ·rw[Kf J]at B;have:¬n∈l:=λh=>B n h rfl
  simp[j,z,A,D,this]
def Oq(g:Int)(bs:List Bf)(os:List Lo):List LV:=[.i g,.lst (Qs bs) bs.length 3,.lst (Se os) os.length 8]
def zej(g:Int)(j:List Bf)(os:List Lo):dats (Oq g j os)=true:=by simp[Oq,dats,LV.dat,Uy,Uk]
def zos(g:Int)(j:List Bf)(o:Lo):Bool:=(Sa g o.d (R4 o.kind)&&(Sa g o.e (R2 o.kind)&&((Sa g o.a (Sm o.kind) || (Qd o.kind&&decide (o.a=-1)))&&(Sa g o.b (Xj o.kind)&&(Sa g o.c (Xf o.kind)&&(!(R2 o.kind&&decide (o.d=o.e)) &&
  (if Qd o.kind=true then decide (0≤o.buf)&&(decide (o.buf<j.length)&&(!(decide (o.kind=15)&&decide ((Oy j o.buf.toNat).kind=1))&&(!decide (o.a=-1) || decide (o.imm<iU (Oy j o.buf.toNat).size))))
   else decide (o.buf=0)&&(if o.kind=1 then true else if o.kind=8∨o.kind=9 then decide (1≤o.imm)&&decide (o.imm≤63) else if o.kind=16 then decide (1≤o.imm)&&decide (o.imm≤1048576) else decide (o.imm=0)))))))))
def kz{r:Int}{b:Bool}(g:Sa z r b=false→vZ (.bool false) P)(j:Sa z r b=true→vZ (.bool true) P):Qa (.fn 129) [.agg [.i z,.lst (Qs T) T.length 3,.lst (Se vK) vK.length 8],.i r,.bool b] P vZ:=by
 refine Pm (zhl z _ _ r b) (bors_self _ Fa) ?_;cases e:Sa z r b with
 |false=>simpa using g e
 |true=>simpa using j e
set_option maxHeartbeats 4000000 in
def zg7(z:Int)(A:List Bf)(Y:List Lo)(o:Lo):O2 77 [.agg (Oq z A Y),.agg o.f] (.bool (Rj z A o)) []:=by
 refine P4.val rfl ?_;have I:o.f=[.i o.kind,.i o.d,.i o.e,.i o.a,.i o.b,.i o.c,.i o.buf,.u o.imm]:=rfl;by_cases X:o.kind<1
 ·have K:¬1≤o.kind:=J
  refine O0 r_ref12_fields k_ref12_fields N ?_;simp[z3j,Oq,I,X,K,Rj]
 by_cases L:17<o.kind
 ·have K:¬o.kind≤17:=J
  refine O0 r_ref12_fields k_ref12_fields N ?_;simp[z3j,Oq,I,X,L,K,Rj]
 have Z:1≤o.kind∧o.kind≤17:=J
 have hF:Rj z A o=zos z A o:=by
  unfold Rj zos;simp[Z]
 rw[hF];refine O0 r_ref12_fields k_ref12_fields N ?_;unfold zos;rcases zcz o.kind with h|h|h|h|h|h|h|h|h|h|h|h|h|h|h|h|h|h|h
 case inl|inr.inr.inr.inr.inr.inr.inr.inr.inr.inr.inr.inr.inr.inr.inr.inr.inr.inr=>omega
 all_goals
  simp[z3j,Oq,I,h,R4,R2,Sm,Xj,Xf,Qd];refine kz (λe=>Du) λM=>?_
  simp;refine kz (λe=>Du) λO=>?_
  simp
 case inr.inr.inr.inr.inr.inr.inr.inr.inr.inr.inr.inr.inr.inr.inl|inr.inr.inr.inr.inr.inr.inr.inr.inr.inr.inr.inr.inr.inr.inr.inl =>
  refine kz (λB=>?_) λB=>?_
  ·by_cases C:o.a=-1
   case neg=>simp[C,B]
   simp[C];refine kz (λe=>Du) λD=>?_
   simp;refine kz (λe=>Du) λE=>?_
   simp;by_cases F:o.buf<0
   ·have P:¬0≤o.buf:=J
    simp[F,P]
   obtain⟨n,G⟩:=J3 (J:0≤o.buf);have H:¬(n:Int)<0:=J
   by_cases j:n<A.length
   ·have q:=S8 j;have Q:=uu q;have R:=zib q;have T:=sx j;have g:¬A.length≤n:=J
    by_cases U:(Oy A n).kind=1<;>simp[H,g,G,j,Ov Q,C,Ov R,U,M,O,B,D,E]
   ·have g:A.length≤n:=J
    simp[H,g,G,j]
  ·have C:¬o.a=-1:=λq=>by rw[q]at B;simp[Sa]at B
   simp;refine kz (λe=>Du) λD=>?_
   simp;refine kz (λe=>Du) λE=>?_
   simp;by_cases F:o.buf<0
   ·have P:¬0≤o.buf:=J
    simp[F,P]
   obtain⟨n,G⟩:=J3 (J:0≤o.buf);have H:¬(n:Int)<0:=J
   by_cases j:n<A.length
   ·have q:=S8 j;have Q:=uu q;have R:=zib q;have T:=sx j;have g:¬A.length≤n:=J
    by_cases U:(Oy A n).kind=1<;>simp[H,g,G,j,Ov Q,C,Ov R,U,M,O,B,D,E]
   ·have g:A.length≤n:=J
    simp[H,g,G,j]
 all_goals
  refine kz (λe=>Du) λB=>?_
  simp;refine kz (λe=>Du) λD=>?_
  simp;refine kz (λe=>Du) λE=>?_
  by_cases F:o.buf=0<;>by_cases V:1≤o.imm<;>simp[M,O,B,D,E,F,V]
  all_goals first|exact⟨λa b=>absurd a b,λa _=>a⟩|(rintro q;rw[q]at V;exact absurd V Ac)
end Go.Proofs.YtmnciecehjcjhaaGreat
end
