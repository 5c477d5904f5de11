/- The templates: see the main text. -/
import Derived.Test.YtodjkjimaheggaaGreatSvG3
import Derived.Test.YtodjkjimaheggaaGreatSvG2
import Derived.Test.YtodjkjimaheggaaGreatProg
import Derived.KernelRfl
import Derived.Test.YtodjkjimaheggaaGreatSvG4
set_option linter.defProp false
namespace Go.Sv
abbrev LI.z (d : Nat) (o : LOp) : LI := ⟨some d, none, o⟩
abbrev LI.m (d t : Nat) : LI := ⟨some d, none, .move (.t t)⟩
abbrev LI.l (d t : Nat) : LI := ⟨some d, none, .load1 (.t t)⟩
abbrev LI.f (d n t : Nat) : LI := ⟨some d, none, .fieldAddr n (.t t)⟩
abbrev LI.y (d g : Nat) (o : LOp) : LI := ⟨some d, some (g, true), o⟩
abbrev LI.n (d g : Nat) (o : LOp) : LI := ⟨some d, some (g, false), o⟩
abbrev LI.my (d g t : Nat) : LI := ⟨some d, some (g, true), .move (.t t)⟩
abbrev LI.mn (d g t : Nat) : LI := ⟨some d, some (g, false), .move (.t t)⟩
abbrev LI.v (o : LOp) : LI := ⟨none, none, o⟩
abbrev LOp.w (f : Nat) (l : List Lx) : LOp := .callV (.c (.fn (.func f) [] [])) l
abbrev Lx.k (n : Int) : Lx := .c (.i n)
abbrev Lx.T : Lx := .c (.bool true)
abbrev Lx.F : Lx := .c (.bool false)
abbrev LC.q (l : List LI) (s : LC) : LC := .seq (.ops l) s
abbrev LI.N (d a : Nat) : LI := .z d (.nilChk (.t a))
abbrev LI.L (d n a : Nat) : LI := .z d (.loadN n (.t a))
abbrev LI.I (d n a b : Nat) : LI := .z d (.ixAddr n (.t a) (.t b))
abbrev LI.b (d : Nat) (o : BinOp) (t a : Nat) (k : Int) : LI := .z d (.bin o true t (.t a) (.k k))
abbrev LI.c (d : Nat) (o : BinOp) (t a b : Nat) : LI := .z d (.bin o false t (.t a) (.t b))
abbrev LI.u (d : Nat) (o : BinOp) (t a : Nat) (k : UInt64) : LI := .z d (.bin o true t (.t a) (.c (.u k)))
abbrev LI.nb (d g : Nat) (o : BinOp) (t a : Nat) (k : Int) : LI := .n d g (.bin o true t (.t a) (.k k))
abbrev LI.p (d a b : Nat) : LI := .z d (.pick (.t a) .T (.t b))
abbrev LI.q (d a b : Nat) : LI := .z d (.pick (.t a) (.t b) .F)
abbrev LI.K (d : Nat) (k : Int) : LI := .z d (.move (.k k))
abbrev LI.F (d : Nat) : LI := .z d (.move .F)
abbrev LI.e (d : Nat) : LI := .z d (.move (.c .nilSl))
abbrev LI.S (n a b : Nat) : LI := .v (.store n (.t a) (.t b))
abbrev LI.s (d a : Nat) : LI := .z d (.lenSl (.t a))
abbrev LI.x (d a : Nat) : LI := .z d (.box (.t a))
abbrev LI.X (d n a : Nat) : LI := .z d (.extract n (.t a))
abbrev LI.w (d f a : Nat) : LI := .z d (.w f [.t a])
abbrev LI.W (d f a b : Nat) : LI := .z d (.w f [.t a, .t b])
abbrev LI.V (d f a b c : Nat) : LI := .z d (.w f [.t a, .t b, .t c])
abbrev LI.nf (d g n a : Nat) : LI := .n d g (.fieldAddr n (.t a))
abbrev LI.yf (d g n a : Nat) : LI := .y d g (.fieldAddr n (.t a))
abbrev LI.nl (d g a : Nat) : LI := .n d g (.load1 (.t a))
abbrev LI.yl (d g a : Nat) : LI := .y d g (.load1 (.t a))
abbrev LI.a (d n a b : Nat) : LI := .z d (.appG n (.t a) (.t b))
end Go.Sv
noncomputable section
namespace Go.Proofs.YtodjkjimaheggaaGreat
open Go.Sv
set_option linter.unusedSimpArgs false
set_option maxRecDepth 10000
variable{g j A:Nat}{z B V:Int}{U:UInt64}{vQ:Type}{vO:List Int}{E v8:List LV}{F:M0}{X:LV→M0→Prop}{vz:List Vr}{Z:List Bf}{vK:Pc}
abbrev Nj := Oj Tryz.prog
abbrev O2 := Sa Tryz.prog
abbrev Ob := Qh Tryz.prog
def V1:LC:=(.q [.K 2 0,.F 3] (.seq (.q [.m 4 0] (.block 0 (.q [.b 6 .eql 3 4 1,.m 5 6] (.cond (.t 5) (.q [.K 2 1,.z 3 (.move .T)] .ret) (.q [.b 8 .eql 3 4 2,.m 7 8] (.cond (.t 7) (.q [.K 2 5,.z 3 (.move .T)] .ret) (.seq (.q [.b 10 .eql 3 4 3,.m 9 10] (.cond (.t 9) .skip (.q [.b 11 .eql 3 4 4,.m 9 11] (.cond (.t 9) .skip (.q [.b 12 .eql 3 4 5,.m 9 12] (.cond (.t 9) .skip (.q [.b 13 .eql 3 4 6,.m 9 13] (.cond (.t 9) .skip (.ops [.b 14 .eql 3 4 7,.m 9 14]))))))))) (.cond (.t 9) (.q [.K 2 13,.z 3 (.move .T)] .ret) (.seq (.q [.b 16 .eql 3 4 8,.m 15 16] (.cond (.t 15) .skip (.q [.b 17 .eql 3 4 10,.m 15 17] (.cond (.t 15) .skip (.q [.b 18 .eql 3 4 11,.m 15 18] (.cond (.t 15) .skip (.q [.b 19 .eql 3 4 12,.m 15 19] (.cond (.t 15) .skip (.ops [.b 20 .eql 3 4 13,.m 15 20]))))))))) (.cond (.t 15) (.q [.K 2 29,.z 3 (.move .T)] .ret) (.q [.b 22 .eql 3 4 9,.m 21 22] (.cond (.t 21) (.q [.K 2 21,.z 3 (.move .T)] .ret) (.q [.b 24 .eql 3 4 14,.m 23 24] (.cond (.t 23) (.q [.K 2 19,.z 3 (.move .T)] .ret) (.seq (.q [.b 26 .eql 3 4 15,.m 25 26] (.cond (.t 25) .skip (.ops [.b 27 .eql 3 4 16,.m 25 27]))) (.cond (.t 25) (.q [.K 2 0,.z 3 (.move .T)] .ret) .skip)))))))))))))))) (.q [.K 2 0,.F 3] .ret)))
def r_lengths_shape:Na Tryz.prog 187=some ⟨28,V1.r,[.tmp 2,.tmp 3]⟩:=Aa
def z34:LC:=(.q [.x 1 0,.F 2] (.seq (.q [.f 3 0 1,.l 4 3] (.block 0 (.q [.b 6 .eql 3 4 1,.m 5 6] (.cond (.t 5) (.q [.z 2 (.move .T)] .ret) (.q [.b 8 .eql 3 4 13,.m 7 8] (.cond (.t 7) (.q [.f 9 6 1,.l 10 9,.u 11 .geq 23 10 1,.m 12 11,.yf 13 12 6 1,.yl 14 12 13,.y 15 12 (.bin .leq true 23 (.t 14) (.c (.u 6))),.q 16 12 15,.m 2 16] .ret) (.q [.b 18 .eql 3 4 15,.m 17 18] (.cond (.t 17) (.q [.f 19 6 1,.l 20 19,.u 21 .geq 23 20 1,.m 22 21,.yf 23 22 6 1,.yl 24 22 23,.y 25 22 (.bin .leq true 23 (.t 24) (.c (.u 4096))),.q 26 22 25,.m 2 26] .ret) .skip)))))))) (.q [.f 27 6 1,.l 28 27,.u 29 .eql 23 28 0,.m 2 29] .ret)))
def r_lengths_number:Na Tryz.prog 188=some ⟨30,z34.r,[.tmp 2]⟩:=Aa
def zbf:LC:=(.q [.x 1 0,.z 2 (.alloc [(.i 0),(.i 0),(.i 0),(.i 0),(.i 0)])] (.q [.f 3 1 1,.l 4 3,.f 5 2 1,.l 6 5,.f 7 3 1,.l 8 7,.f 9 4 1,.l 10 9,.f 11 5 1,.l 12 11,.z 13 (.build [(.i 0),(.i 0),(.i 0),(.i 0),(.i 0)] [(0,1,.t 4),(1,1,.t 6),(2,1,.t 8),(3,1,.t 10),(4,1,.t 12)]),.S 5 2 13] .ret))
def r_lengths_parts:Na Tryz.prog 189=some ⟨14,zbf.r,[.cellN 2 5]⟩:=Aa
def zb8:LC:=(.q [.x 1 0,.F 2] (.q [.f 3 2 1,.l 4 3,.b 5 .eql 3 4 1,.m 6 5,.nf 7 6 2 1,.nl 8 6 7,.nb 9 6 .eql 3 8 2,.p 10 6 9,.m 2 10] .ret))
def r_lengths_given:Na Tryz.prog 167=some ⟨11,zb8.r,[.tmp 2]⟩:=Aa
def z6p:LC:=(.q [.F 3] (.q [.m 4 0,.b 5 .geq 3 4 0,.m 6 5,.my 7 6 0,.yl 8 6 1,.y 9 6 (.lenSl (.t 8)),.y 10 6 (.bin .lss false 3 (.t 7) (.t 9)),.q 11 6 10,.m 3 11] .ret))
def r_lengths_need_1:Na Tryz.prog 186=some ⟨12,z6p.r,[.tmp 3]⟩:=Aa
def z49:LC:=(.q [.x 2 0,.x 3 1,.F 4] (.q [.z 6 (.mkFunc 186 [] [.t 2]),.m 5 6] (.seq (.q [.f 7 1 3,.l 8 7,.b 9 .neq 3 8 (-1),.m 10 9,.nf 11 10 2 3,.nl 12 10 11,.nb 13 10 .neq 3 12 (-1),.p 14 10 13,.m 15 14,.nf 16 15 5 3,.nl 17 15 16,.nb 18 15 .neq 3 17 (-1),.p 19 15 18,.m 20 19,.mn 21 20 5,.nf 22 20 3 3,.nl 23 20 22,.n 24 20 (.callV (.t 21) [.t 23]),.n 25 20 (.un .not (.t 24)),.p 26 20 25] (.cond (.t 26) (.q [.F 4] .ret) .skip)) (.seq (.q [.f 27 6 3,.l 28 27] (.block 0 (.q [.u 30 .eql 23 28 2,.m 29 30] (.cond (.t 29) (.q [.m 31 5,.f 32 4 3,.l 33 32,.z 34 (.callV (.t 31) [.t 33]),.m 4 34] .ret) (.seq (.q [.u 36 .eql 23 28 1,.m 35 36] (.cond (.t 35) .skip (.ops [.u 37 .eql 23 28 3,.m 35 37]))) (.cond (.t 35) (.q [.f 38 4 3,.l 39 38,.b 40 .eql 3 39 (-1),.m 4 40] .ret) .skip)))))) (.q [.F 4] .ret)))))
def r_lengths_need:Na Tryz.prog 166=some ⟨41,z49.r,[.tmp 4]⟩:=Aa
def z3z:LC:=(.q [.K 4 0] (.seq (.q [.m 6 0,.s 7 6,.K 8 0] (.block 0 (.loop (.q [.c 9 .lss 3 8 7] (.seq (.cond (.t 9) .skip (.exit 0)) (.seq (.block 1 (.q [.m 10 8,.m 5 10] (.q [.m 11 1,.m 12 0,.m 13 5,.I 14 1 12 13,.l 15 14,.z 16 (.callV (.t 11) [.t 15])] (.cond (.t 16) (.q [.m 17 5,.m 4 17] .ret) .skip)))) (.ops [.b 18 .add 3 8 1,.m 8 18]))))))) (.q [.K 4 (-1)] .ret)))
def r_slices_IndexFunc_int_int:Na Tryz.prog 192=some ⟨19,z3z.r,[.tmp 4]⟩:=Aa
def z36:LC:=(.q [.F 4] (.q [.m 5 0,.m 6 1,.W 7 192 5 6,.b 8 .geq 3 7 0,.m 4 8] .ret))
def r_slices_ContainsFunc_int_int:Na Tryz.prog 169=some ⟨9,z36.r,[.tmp 4]⟩:=Aa
def eqbP(a b:Bool):R6 Tryz.prog false 4 (.bool a) (.bool b)=some (a==b):=by cases a<;>cases b<;>kernel_rfl
def zh9(k:Int):Nj 187 [.i k] (.tup [.i (((Rh k).getD 0:Nat):Int),.bool (Rh k).isSome]) []:=by
 refine Oj.val rfl (Nb r_lengths_shape Aa N ?_);by_cases E:k=1;· subst E;simp[V1,Rh]
 by_cases F:k=2;· subst F;simp[V1,Rh]
 by_cases G:k=3;· subst G;simp[V1,Rh]
 by_cases H:k=4;· subst H;simp[V1,Rh]
 by_cases I:k=5;· subst I;simp[V1,Rh]
 by_cases K:k=6;· subst K;simp[V1,Rh]
 by_cases L:k=7;· subst L;simp[V1,Rh]
 by_cases M:k=8;· subst M;simp[V1,Rh]
 by_cases O:k=9;· subst O;simp[V1,Rh]
 by_cases g:k=10;· subst g;simp[V1,Rh]
 by_cases j:k=11;· subst j;simp[V1,Rh]
 by_cases z:k=12;· subst z;simp[V1,Rh]
 by_cases A:k=13;· subst A;simp[V1,Rh]
 by_cases B:k=14;· subst B;simp[V1,Rh]
 by_cases C:k=15;· subst C;simp[V1,Rh]
 by_cases D:k=16;· subst D;simp[V1,Rh]
 simp[V1,Rh,E,F,G,H,I,K,L,M,O,g,j,z,A,B,C,D]
def zfr(o:Ko):Nj 188 [.agg o.f] (.bool (Ss o)) []:=by
 refine Oj.val rfl (Nb r_lengths_number Aa N ?_);by_cases g:o.kind=1;· simp[z34,Ko.f,Ss,g]
 by_cases j:o.kind=13
 ·by_cases A:1≤o.imm<;>simp[z34,Ko.f,Ss,g,j,A]
 by_cases z:o.kind=15
 ·by_cases A:1≤o.imm<;>simp[z34,Ko.f,Ss,g,j,z,A]
 simp[z34,Ko.f,Ss,g,j,z]
def zas(o:Ko):Nj 189 [.agg o.f] (.agg [.i o.d,.i o.e,.i o.a,.i o.b,.i o.c]) []:=by
 refine Oj.val rfl (Nb r_lengths_parts Aa N ?_);simp[zbf,Ko.f]
def zat(v:Vr):Nj 167 [.agg v.f] (.bool (Sc v)) []:=by
 refine Oj.val rfl (Nb r_lengths_given Aa N ?_);by_cases g:v.mode=1<;>simp[zb8,Vr.f,Sc,g]
def zlh{p n st:Nat}{c:List LV}(v:Int)(g:F[p]?=some (.cells [.lst c n 3] st))(k:X (.bool (aq n v)) F):Ob (.fn 186) [.i v,.ptr p 0] F X:=by
 refine Nb r_lengths_need_1 Aa N ?_;by_cases j:0≤v
 ·by_cases z:v<n<;>simp[z6p,g,aq,j,z]at k ⊢<;>exact k
 ·simp[z6p,g,aq,j]at k ⊢;exact k
def zc8(c:List LV)(n:Nat)(o:Ko):Nj 166 [.lst c n 3,.agg o.f] (.bool (Xh n o)) []:=by
 refine Oj.val rfl (Nb r_lengths_need Aa N ?_);by_cases g:o.d=-1
 case neg=>simp[z49,Ko.f,Xh,g]
 by_cases j:o.e=-1
 case neg=>simp[z49,Ko.f,Xh,g,j]
 by_cases z:o.c=-1
 case neg=>simp[z49,Ko.f,Xh,g,j,z]
 simp[z49,Ko.f,g,j,z];refine zlh o.a rfl ?_;cases A:aq n o.a with
 |false=>simp[Xh,A]
 |true =>
  by_cases B:o.imm=2
  ·simp[B];refine zlh o.b rfl ?_;simp[Xh,g,j,z,A,B]
  by_cases C:o.imm=1
  ·simp[Xh,g,j,z,A,B,C]
  by_cases D:o.imm=3
  ·simp[Xh,g,j,z,A,B,C,D]
  simp[Xh,g,j,z,A,B,C,D]
def zep{l:List Int}{f:Nat}{a b:List LV}{p:Int→Bool}(R:l.length≤9223372036854775807)
  (P:∀v∈l,∀G:LV→M0→Prop,G (.bool (p v)) F→Ob (.fn f) (a++[.i v]++b) F G) (k:X (.i (gc p l)) F):Ob (.fn 192) [.lst (l.map .i) l.length 1,.fn (.func f) a b] F X:=by
 refine Nb r_slices_IndexFunc_int_int Aa (by simp) ?_;simp[z3z];refine Po (λH Q I N=>∃i:Nat,Q=[]∧I=F∧N+i=l.length∧lk H 0=.lst (l.map .i) l.length 1∧lk H 1=.fn (.func f) a b∧lk H 7=.i l.length∧lk H 8=.i i∧∀K b,K<i→l[K]?=some b→p b=false) (N:=l.length) ⟨0,by simp⟩ ?_;rintro N H Q I ⟨i,rfl,rfl,T,j,z,A,B,C⟩ U D;by_cases hi:l.length≤i
 ·have L:¬i<l.length:=J
  simp[j,z,A,B,L];rw[←zvh hi C];exact k
 ·have L:i<l.length:=J
  have E:=H6 L;simp[j,z,A,B,L];simp[Nh (bm (f:=LV.i) E)];have M:=P l[i] (Ls L);simp only[Jg,List.singleton_append]at M;refine M _ ?_;cases O:p l[i] with
  |true =>
   simp;rw[←mh E O C];exact k
  |false =>
   simp[B];refine⟨J,D _ _ _ ⟨N-1,J,i+1,rfl,rfl,J,An,Ak,A7,by simp,λK b V g=>?_⟩⟩;by_cases e:K=i
   ·subst e;rw[E]at g;cases g;exact O
   ·exact C K b J g
def z6m{l:List Int}{f:Nat}{a b:List LV}{p:Int→Bool}(j:l.length≤9223372036854775807)
  (z:∀v∈l,∀g:LV→M0→Prop,g (.bool (p v)) F→Ob (.fn f) (a++[.i v]++b) F g) (k:X (.bool (l.any p)) F):Ob (.fn 169) [.lst (l.map .i) l.length 1,.fn (.func f) a b] F X:=by
 refine Nb r_slices_ContainsFunc_int_int Aa N ?_;simp[z36];refine zep j z ?_;simp;rw[Y3];exact k
def zbo:LC:=(.q [.z 0 (.move (.c .nilMap))] (.q [.z 1 (.move (.c (.fn (.func 207) [] [])))] (.q [.z 2 (.mkMap0),.v (.mapUpd (.int .i64) (.t 2) (.k 6) (.c (.fn (.func 208) [] []))),.v (.mapUpd (.int .i64) (.t 2) (.k 14) (.c (.fn (.func 209) [] []))),.v (.mapUpd (.int .i64) (.t 2) (.k 8) (.c (.fn (.func 210) [] []))),.v (.mapUpd (.int .i64) (.t 2) (.k 9) (.c (.fn (.func 211) [] []))),.m 3 1,.v (.mapUpd (.int .i64) (.t 2) (.k 10) (.t 3)),.m 4 1,.v (.mapUpd (.int .i64) (.t 2) (.k 11) (.t 4)),.m 5 1,.v (.mapUpd (.int .i64) (.t 2) (.k 12) (.t 5)),.v (.mapUpd (.int .i64) (.t 2) (.k 13) (.c (.fn (.func 212) [] []))),.m 6 2,.m 0 6] .ret)))
def r_lengths_alike:Na Tryz.prog 198=some ⟨7,zbo.r,[.tmp 0]⟩:=Aa
def z8x:LC:=(.q [.x 1 0,.e 2] (.q [.f 3 1 1,.l 4 3,.f 5 3 1,.l 6 5,.f 7 4 1,.l 8 7,.f 9 5 1,.l 10 9,.z 11 (.buildSl 1 4 [(.i 0),(.i 0),(.i 0),(.i 0)] [(0,1,.t 4),(1,1,.t 6),(2,1,.t 8),(3,1,.t 10)]),.m 2 11] .ret))
def r_lengths_alike_1:Na Tryz.prog 207=some ⟨12,z8x.r,[.tmp 2]⟩:=Aa
def z9m:LC:=(.q [.x 1 0,.e 2] (.q [.f 3 3 1,.l 4 3,.f 5 4 1,.l 6 5,.z 7 (.buildSl 1 2 [(.i 0),(.i 0)] [(0,1,.t 4),(1,1,.t 6)]),.m 2 7] .ret))
def r_lengths_alike_2:Na Tryz.prog 208=some ⟨8,z9m.r,[.tmp 2]⟩:=Aa
def z9j:LC:=(.q [.x 1 0,.e 2] (.q [.f 3 1 1,.l 4 3,.f 5 2 1,.l 6 5,.z 7 (.buildSl 1 2 [(.i 0),(.i 0)] [(0,1,.t 4),(1,1,.t 6)]),.m 2 7] .ret))
def r_lengths_alike_3:Na Tryz.prog 209=some ⟨8,z9j.r,[.tmp 2]⟩:=Aa
def z9f:LC:=(.q [.x 1 0,.e 2] (.q [.f 3 1 1,.l 4 3,.f 5 3 1,.l 6 5,.f 7 4 1,.l 8 7,.z 9 (.buildSl 1 3 [(.i 0),(.i 0),(.i 0)] [(0,1,.t 4),(1,1,.t 6),(2,1,.t 8)]),.m 2 9] .ret))
def r_lengths_alike_4:Na Tryz.prog 210=some ⟨10,z9f.r,[.tmp 2]⟩:=Aa
def z96:LC:=(.q [.x 1 0,.e 2] (.q [.f 3 1 1,.l 4 3,.f 5 5 1,.l 6 5,.z 7 (.buildSl 1 2 [(.i 0),(.i 0)] [(0,1,.t 4),(1,1,.t 6)]),.m 2 7] .ret))
def r_lengths_alike_5:Na Tryz.prog 211=some ⟨8,z96.r,[.tmp 2]⟩:=Aa
def z90:LC:=(.q [.x 1 0,.e 2] (.q [.f 3 1 1,.l 4 3,.f 5 3 1,.l 6 5,.f 7 5 1,.l 8 7,.z 9 (.buildSl 1 3 [(.i 0),(.i 0),(.i 0)] [(0,1,.t 4),(1,1,.t 6),(2,1,.t 8)]),.m 2 9] .ret))
def r_lengths_alike_6:Na Tryz.prog 212=some ⟨10,z90.r,[.tmp 2]⟩:=Aa
def z9c:LC:=(.q [.F 4] (.seq (.draw [(.l 5 1,[]),(.m 6 0,[]),(.I 7 3 5 6,[]),(.f 8 0 7,[]),(.l 9 8,[]),(.l 10 1,[]),(.l 11 2,[]),(.z 12 (.ixAddr 1 (.t 11) (.k 0)),[]),(.l 13 12,[]),(.I 14 3 10 13,[]),(.f 15 0 14,[]),(.l 16 15,[]),(.c 17 .neq 3 9 16,[]),(.m 4 17,[])]) .ret))
def r_lengths_agree_1:Na Tryz.prog 199=some ⟨18,z9c.r,[.tmp 4]⟩:=Aa
def q9:LC:=(.q [.x 2 0,.x 3 1,.F 4] (.seq (.draw [(.f 10 0 3,[]),(.l 11 10,[]),(.z 9 (.w 198 []),[(.l 11 10,false)]),(.z 12 (.lookup (.int .i64) .nilFn true (.t 9) (.t 11)),[]),(.m 8 12,[]),(.X 13 0 8,[]),(.X 14 1 8,[]),(.m 5 13,[]),(.m 6 14,[])]) (.seq (.q [.m 15 6,.z 16 (.un .not (.t 15))] (.cond (.t 16) (.q [.z 4 (.move .T)] .ret) .skip)) (.q [.m 17 5,.L 18 7 3,.z 19 (.callV (.t 17) [.t 18]),.z 7 (.alloc [.nilSl]),.S 1 7 19] (.q [.l 20 7,.z 21 (.mkFunc 199 [] [.t 2,.t 7]),.W 22 169 20 21,.z 23 (.un .not (.t 22)),.m 4 23] .ret)))))
def r_lengths_agree:Na Tryz.prog 191=some ⟨24,q9.r,[.tmp 4]⟩:=Aa
def ql:List (LV×LV×Nat):=[(.i 6,.fn (.func 208) [] [],0),(.i 14,.fn (.func 209) [] [],1),(.i 8,.fn (.func 210) [] [],2),(.i 9,.fn (.func 211) [] [],3),(.i 10,.fn (.func 207) [] [],4),(.i 11,.fn (.func 207) [] [],5),(.i 12,.fn (.func 207) [] [],6),(.i 13,.fn (.func 212) [] [],7)]
def xy(k:X (.map F.length) (F++[.map ql 8 8])):Ob (.fn 198) [] F X:=by
 refine Nb r_lengths_alike Aa N ?_;simp[zbo];exact k
def zfu(o:Ko):O2 207 [.agg o.f] (.lst ([o.d,o.a,o.b,o.c].map .i) 4 1):=by
 refine Sa.mk Bs (Nb r_lengths_alike_1 Aa N ?_);simp[z8x,Ko.f,O5,bor]
def zwo(o:Ko):O2 208 [.agg o.f] (.lst ([o.a,o.b].map .i) 2 1):=by
 refine Sa.mk Bs (Nb r_lengths_alike_2 Aa N ?_);simp[z9m,Ko.f,O5,bor]
def zx9(o:Ko):O2 209 [.agg o.f] (.lst ([o.d,o.e].map .i) 2 1):=by
 refine Sa.mk Bs (Nb r_lengths_alike_3 Aa N ?_);simp[z9j,Ko.f,O5,bor]
def zwx(o:Ko):O2 210 [.agg o.f] (.lst ([o.d,o.a,o.b].map .i) 3 1):=by
 refine Sa.mk Bs (Nb r_lengths_alike_4 Aa N ?_);simp[z9f,Ko.f,O5,bor]
def zxd(o:Ko):O2 211 [.agg o.f] (.lst ([o.d,o.c].map .i) 2 1):=by
 refine Sa.mk Bs (Nb r_lengths_alike_5 Aa N ?_);simp[z96,Ko.f,O5,bor]
def zw4(o:Ko):O2 212 [.agg o.f] (.lst ([o.d,o.a,o.c].map .i) 3 1):=by
 refine Sa.mk Bs (Nb r_lengths_alike_6 Aa N ?_);simp[z90,Ko.f,O5,bor]
def t7(g:List Vr)(v:Int):Prop:=0≤v∧v<g.length
def t7.at{vs:List Vr}{v:Int}(h:t7 vs v):∃k:Nat,v=k∧k<vs.length∧vs[k]?=some (gv vs v.toNat):=by
 obtain⟨k,rfl⟩:=Hz h.1;have h2:=h.2;exact⟨k,rfl,J,by rw[Is];exact Vx J⟩
def zt8{p q st:Nat}(v:Int)(j:F[p]?=some (.cells [.lst (Px vz) vz.length 3] st))(z:F[q]?=some (.cells [.lst (vO.map .i) vO.length 1] g))
  (hv:t7 vz v) (A:t7 vz (vO.headD 0)) (G:vO≠[]) (k:X (.bool (decide (Rq vz v≠Rq vz (vO.headD 0)))) F):Ob (.fn 199) [.i v,.ptr p 0,.ptr q 0] F X:=by
 refine Nb r_lengths_agree_1 Aa N ?_;cases vO with
 |nil=>exact absurd rfl G
 |cons y vO =>
  simp only[List.headD_cons]at A k;obtain⟨a,rfl,B,H⟩:=hv.at;obtain⟨b,rfl,C,I⟩:=A.at;have D:=zqo H;have E:=zqo I;simp only[Is]at D E;simp only[Rq,Is]at k;simp[z9c,j,z,B,C];simp[Nh D,Nh E,j,z,B,C];rw[←decide_not];exact k
def zst(g:List Int)(x:Int→Int)(y:Int):(!(g.any λv=>decide (x v≠y)))=g.all λv=>decide (x v=y):=by
 induction g with
 |nil=>rfl
 |cons a g j =>
  simp only[List.any_cons,Kf,Bool.not_or,j];by_cases h:x a=y<;>simp[h]
def zan(F:List Vr)(o:Ko)(hv:∀v∈Rx o,t7 F v):Nj 191 [.lst (Px F) F.length 3,.agg o.f] (.bool (sm F o)) []:=by
 refine Oj.val rfl (Nb r_lengths_agree Aa N ?_);have j:o.f=[.i o.kind,.i o.d,.i o.e,.i o.a,.i o.b,.i o.c,.u o.imm]:=rfl;have z:∀G:List Int,G≠[]→Rx o=G→∀{M:M0} {p q st L:Nat} {P:LV→M0→Prop},M[p]?=some (.cells [.lst (Px F) F.length 3] st)→M[q]?=some (.cells [.lst (G.map .i) G.length 1] L)→P (.bool (!sm F o)) M →
   Ob (.fn 169) [.lst (G.map .i) G.length 1,.fn (.func 199) [] [.ptr p 0,.ptr q 0]] M P:=by
  intro G O he M p q st L P Q R k;rw[he]at hv;have T:t7 F (G.headD 0):=by
   cases G with
   |nil=>exact absurd rfl O
   |cons y G=>exact hv y (I5 ..)
  have U:G.length≤9223372036854775807:=by
   rw[←he];unfold Rx;repeat' split
   all_goals simp
  refine z6m (p:=λv=>decide (Rq F v≠Rq F (G.headD 0))) U (λv hm X V=>zt8 v Q R (hv v hm) T O V) ?_;have:=zst G (Rq F) (Rq F (G.headD 0));rw[←Bool.not_not (G.any _),this];rw[sm,he]at k;exact k
 by_cases H:o.kind=6
 ·have he:Rx o=[o.a,o.b]:=by simp[Rx,H]
  simp[q9,j,H];refine xy ?_;simp[ql];have g:=zwo o;rw[j,H]at g;refine R0 g rfl ?_;simp;refine z [o.a,o.b] N he rfl rfl ?_;simp
 by_cases A:o.kind=14
 ·have he:Rx o=[o.d,o.e]:=by simp[Rx,A]
  simp[q9,j,A];refine xy ?_;simp[ql];have g:=zx9 o;rw[j,A]at g;refine R0 g rfl ?_;simp;refine z [o.d,o.e] N he rfl rfl ?_;simp
 by_cases I:o.kind=8
 ·have he:Rx o=[o.d,o.a,o.b]:=by simp[Rx,I]
  simp[q9,j,I];refine xy ?_;simp[ql];have g:=zwx o;rw[j,I]at g;refine R0 g rfl ?_;simp;refine z [o.d,o.a,o.b] N he rfl rfl ?_;simp
 by_cases K:o.kind=9
 ·have he:Rx o=[o.d,o.c]:=by simp[Rx,K]
  simp[q9,j,K];refine xy ?_;simp[ql];have g:=zxd o;rw[j,K]at g;refine R0 g rfl ?_;simp;refine z [o.d,o.c] N he rfl rfl ?_;simp
 by_cases B:o.kind=10
 ·have he:Rx o=[o.d,o.a,o.b,o.c]:=by simp[Rx,B]
  simp[q9,j,B];refine xy ?_;simp[ql];have g:=zfu o;rw[j,B]at g;refine R0 g rfl ?_;simp;refine z [o.d,o.a,o.b,o.c] N he rfl rfl ?_;simp
 by_cases C:o.kind=11
 ·have he:Rx o=[o.d,o.a,o.b,o.c]:=by simp[Rx,C]
  simp[q9,j,C];refine xy ?_;simp[ql];have g:=zfu o;rw[j,C]at g;refine R0 g rfl ?_;simp;refine z [o.d,o.a,o.b,o.c] N he rfl rfl ?_;simp
 by_cases D:o.kind=12
 ·have he:Rx o=[o.d,o.a,o.b,o.c]:=by simp[Rx,D]
  simp[q9,j,D];refine xy ?_;simp[ql];have g:=zfu o;rw[j,D]at g;refine R0 g rfl ?_;simp;refine z [o.d,o.a,o.b,o.c] N he rfl rfl ?_;simp
 by_cases E:o.kind=13
 ·have he:Rx o=[o.d,o.a,o.c]:=by simp[Rx,E]
  simp[q9,j,E];refine xy ?_;simp[ql];have g:=zw4 o;rw[j,E]at g;refine R0 g rfl ?_;simp;refine z [o.d,o.a,o.c] N he rfl rfl ?_;simp
 have he:Rx o=[]:=by simp[Rx,H,A,I,K,B,C,D,E]
 simp[q9,j,H,A,I,K,B,C,D,E];refine xy ?_;simp[ql,H,A,I,K,B,C,D,E];simp[sm,he]
def z5c:LC:=(.q [.e 2] (.seq (.q [.m 3 0,.z 4 (.bin .eql true 60 (.t 3) (.c .nilSl))] (.cond (.t 4) (.q [.e 2] .ret) .skip)) (.q [.z 5 (.buildSl 1 0 [] []),.m 6 0,.a 7 1 5 6,.m 2 7] .ret)))
def r_slices_Clone_int_int:Na Tryz.prog 194=some ⟨8,z5c.r,[.tmp 2]⟩:=Aa
def z3o:LC:=(.q [.e 4] (.q [.m 8 0,.m 9 1,.W 10 192 8 9,.m 5 10] (.seq (.q [.m 11 5,.b 12 .eql 3 11 (-1)] (.cond (.t 12) (.q [.m 13 0,.m 4 13] .ret) .skip)) (.seq (.q [.m 14 5,.b 15 .add 3 14 1,.m 6 15] (.block 0 (.loop (.seq (.q [.m 16 6,.m 17 0,.s 18 17,.c 19 .lss 3 16 18] (.cond (.t 19) .skip (.exit 0))) (.seq (.block 1 (.q [.m 22 0,.m 23 6,.I 24 1 22 23,.l 25 24,.m 7 25] (.q [.m 26 1,.m 27 7,.z 28 (.callV (.t 26) [.t 27]),.z 29 (.un .not (.t 28))] (.cond (.t 29) (.q [.m 30 0,.m 31 5,.m 32 7,.I 33 1 30 31,.S 1 33 32] (.ops [.m 34 5,.b 35 .add 3 34 1,.m 5 35])) .skip)))) (.ops [.m 20 6,.b 21 .add 3 20 1,.m 6 21])))))) (.q [.m 36 0,.m 37 5,.z 38 (.slSl 1 (.t 36) (some (.t 37)) none),.v (.clear 1 [(.i 0)] (.t 38))] (.q [.m 39 0,.m 40 5,.z 41 (.slSl 1 (.t 39) none (some (.t 40))),.m 4 41] .ret))))))
def r_slices_DeleteFunc_int_int:Na Tryz.prog 193=some ⟨42,z3o.r,[.tmp 4]⟩:=Aa
def z97:LC:=(.q [.F 2] (.q [.m 3 0,.b 4 .lss 3 3 0,.m 2 4] .ret))
def r_lengths_takes_1:Na Tryz.prog 195=some ⟨5,z97.r,[.tmp 2]⟩:=Aa
def zby:LC:=(.q [.x 1 0,.e 2] (.q [.L 5 7 1,.w 6 189 5,.z 3 (.alloc [(.i 0),(.i 0),(.i 0),(.i 0),(.i 0)]),.S 5 3 6] (.q [.z 7 (.slArr 5 1 (.t 3) (some (.k 2)) none),.w 8 194 7,.z 9 (.w 193 [.t 8,(.c (.fn (.func 195) [] []))]),.m 4 9] (.seq (.q [.f 10 0 1,.l 11 10,.b 12 .eql 3 11 14] (.cond (.t 12) (.ops [.m 13 4,.f 14 1 1,.l 15 14,.f 16 2 1,.l 17 16,.z 18 (.buildSl 1 2 [(.i 0),(.i 0)] [(0,1,.t 15),(1,1,.t 17)]),.a 19 1 13 18,.m 4 19]) .skip)) (.q [.m 20 4,.m 2 20] .ret)))))
def r_lengths_takes:Na Tryz.prog 170=some ⟨21,zby.r,[.tmp 2]⟩:=Aa
def sl_nil:R6 Tryz.prog true 60 .nilSl .nilSl=some true:=Aa
def cg{l:List Int}(g:l.length≤1048576)(j:l≠[])(k:X (.dy F.length 1) (F++[.dyn (l.map .i) l.length 1 1 1])):Ob (.fn 194) [.lst (l.map .i) l.length 1] F X:=by
 refine Nb r_slices_Clone_int_int Aa N ?_;simp[z5c,sl_nil,g,j];exact k
def zmj{l:List Int}{f:Nat}{p:Int→Bool}(g:l.length≤9223372036854775807)
  (j:∀v∈l,Nj f [.i v] (.bool (p v)) []):Nj 192 [.lst (l.map .i) l.length 1,.fn (.func f) [] []] (.i (gc p l)) [] :=
 Oj.val rfl (zep g (λv hv z k=>by
  simp only[Lw,Ji];exact Nw (j v hv) (bors_self _ rfl) k) rfl)
def zl9{q k st:Nat}{l:List Int}{f:Nat}{p:Int→Bool}(hl:l.length≤9223372036854775807)(M:F[q]?=some (.dyn (l.map .i) l.length 1 k st))
  (Y:∀v,Nj f [.i v] (.bool (p v)) []) (k0:l.filter (λv=>!p v)=l→X (.dy q k) F)
  (k1:∀(m:Nat) (gg:List LV) (g:Nat),m=(l.filter (λv=>!p v)).length→gg.length=l.length→gg.take m=(l.filter (λv=>!p v)).map .i→dats gg=true→X (.vw q k 0 m) (F.set q (.dyn gg l.length 1 k g))) :
  Ob (.fn 193) [.dy q k,.fn (.func f) [] []] F X:=by
 refine Nb r_slices_DeleteFunc_int_int Aa (by simp) ?_;have O:q<F.length:=(Hu.1 M).1;have P:∀l:List Int,dats (l.map .i)=true:=λl=>zcg (λ_=>rfl) l
 have z:∀Q,(F.set q Q)[q]?=some Q:=λQ=>H0 O
 have A:F.set q (.dyn (l.map .i) l.length 1 k st)=F:=ztw M;simp[z3o];refine Nw (zmj hl λv _=>Y v) (by simp[bors,bor,LV.dat,dats,M,P]) ?_;rcases zyp p l with ⟨R,I⟩|⟨K,R,gz,I⟩
 ·simp[R];exact k0 I
 have n1:¬((K:Int)=-1):=J
 simp[R,n1];refine⟨J,?_⟩;refine Po (λZ gC G' N=>∃(i j:Nat) (c:List Int) (g:Nat),gC=[]∧G'=F.set q (.dyn (c.map .i) l.length 1 k g)∧N+j=l.length∧i<j∧j≤l.length∧lk Z 0=.dy q k∧lk Z 1=.fn (.func f) [] []∧lk Z 5=.i i∧lk Z 6=.i j ∧
   c.length=l.length∧i=((l.take j).filter (λv=>!p v)).length∧c.take i=(l.take j).filter (λv=>!p v)∧∀u,j≤u→gd c u=gd l u)
  (N:=l.length-(K+1)) ⟨K,K+1,l,st,rfl,A.symm,J,J,J,by simp,by simp,by simp,by simp,rfl,by rw[I];simp;omega,I.symm,λu _=>rfl⟩ ?_
 rintro N Z gC G' ⟨i,j,c,g,rfl,rfl,hN,gA,hj,C,D,E,G,T,hi,L,U⟩ Nx H;by_cases gB:j<l.length
 ·have g2:i<l.length:=J
  have V:=bm (f:=LV.i) (rf (l:=c) (u:=j) J);have eg:=U j (H9 _);simp[C,D,E,G,z,gB];simp[Nh V,C,D,E,G,z,gB,eg];refine Nw (Y (gd l j)) (by simp) ?_;have B:=zpw (p:=p) gB;cases hb:p (gd l j) with
  |true =>
   rw[hb]at B;simp only[Jl,Ji]at B;simp[G]
   repeat (refine⟨J,?_⟩)
   exact H _ _ _ ⟨N-1,J,i,j+1,c,g,rfl,rfl,J,J,J,As,Av,Au,by simp,T,by rw[B];exact hi,by rw[B];exact L,λu hu=>U u J⟩
  |false =>
   rw[hb,Hv (by simp)]at B;simp[C,D,E,G,z,g2];rw[y7 _ _ _ J]
   repeat (refine⟨J,?_⟩)
   refine H _ _ _ ⟨N-1,J,i+1,j+1,_,_,rfl,rfl,J,J,J,As,Av,by simp,by simp,Fw,?_,?_,λu hu=>?_⟩
   ·rw[B,H8,←hi];rfl
   ·rw[B,zn1 J,L]
   ·rw[zsn (j:=j+1) J J u hu,U u J]
 ·have ej:j=l.length:=J
  subst ej;rw[Ma]at hi L;simp[C,D,E,G,z]
  repeat (refine⟨J,?_⟩)
  refine k1 i _ _ hi ?_ ?_ ?_
  ·rw[zwa (by rw[z7j];simp;omega)];simp[T]
  ·rw[o9 Ab,←Mz,L]
  ·unfold Oa;exact dats_app (dats_app (dats_take _ (P c)) (zvs rfl _)) (dats_drop _ (P c))
def zwp(v:Int):Nj 195 [.i v] (.bool (decide (v<0))) []:=by
 refine Oj.val rfl (Nb r_lengths_takes_1 Aa N ?_);simp[z97]
def zai(o:Ko)(h:o.kind=14→o.a=-1∧o.b=-1):O2 170 [.agg o.f] (.lst ((T8 o).map .i) (T8 o).length 1):=by
 have I:∀l:List Int,dats (l.map .i)=true:=λl=>zcg (λ_=>rfl) l
 refine Sa.mk (by simp[LV.dat,I]) (Nb r_lengths_takes Aa N ?_);have z:o.f=[.i o.kind,.i o.d,.i o.e,.i o.a,.i o.b,.i o.c,.u o.imm]:=rfl;simp[zby,z];rw[←z];refine Nw (zas o) (bors_self _ rfl) ?_;simp;refine cg (l:=[o.a,o.b,o.c]) N N ?_;simp;have F:([o.a,o.b,o.c].filter λv=>!decide (v<0)).length≤3:=List.length_filter_le _ _;refine zl9 (l:=[o.a,o.b,o.c]) (p:=λv=>decide (v<0)) N rfl zwp (λhw=>?_) (λm E K hm G H hd=>?_)
 ·by_cases g:o.kind=14
  ·have:=List.filter_eq_self.1 hw o.a N;rw[(h g).1]at this;simp at this
  ·have e:T8 o=[o.a,o.b,o.c]:=by unfold T8;rw[hw,Hv g];rfl
   simp[z,g,e,O5,bor,dats,LV.dat]
 ·by_cases g:o.kind=14
  ·have e:T8 o=([o.a,o.b,o.c].filter λv=>!decide (v<0))++[o.d,o.e]:=by unfold T8;rw[H7 g]
   have A:m≤1:=by
    rw[hm,(h g).1,(h g).2];simp;by_cases L:0≤o.c<;>simp[L]
   have j:E.length=3:=G;simp[z,g,j,A,dats,LV.dat];rw[e];have B:(([o.a,o.b,o.c].filter λv=>!decide (v<0))++[o.d,o.e]).length=m+2:=by rw[H8,←hm];rfl
   have M:(([o.a,o.b,o.c].filter λv=>!decide (v<0))++[o.d,o.e]).map LV.i=E.take m++[.i o.d,.i o.e]:=by rw[Le,H];rfl
   have C:(E.take m++[LV.i o.d,LV.i o.e]).length=m+2:=by rw[H8,Kc];simp;omega
   have O:dats (E.take m++[LV.i o.d,LV.i o.e])=true:=dats_app (dats_take _ hd) rfl;have D:(Oa E m [.i o.d,.i o.e]).length=3:=by unfold Oa;simp;omega
   rw[M,B];refine⟨J,⟨_,_,_,⟨?_,rfl,rfl⟩,⟨rfl,rfl,rfl⟩,?_,?_⟩,⟨_,_,_,⟨rfl,rfl,rfl⟩,⟨rfl,rfl,rfl⟩,O⟩⟩
   ·unfold Oa;rw[Kq];exact (Kt C).symm
   ·rw[D];omega
   ·unfold Oa;exact dats_app (dats_app (dats_take _ hd) rfl) (dats_drop _ hd)
  ·have e:T8 o=[o.a,o.b,o.c].filter λv=>!decide (v<0):=by unfold T8;rw[Hv g,Ji]
   simp[z,g,dats,LV.dat];rw[e,←H,←hm];have j:E.length=3:=G;simp[O5,bor,hd];exact⟨_,_,_,⟨by rw[Kq],rfl⟩,⟨rfl,rfl,rfl⟩,by rw[j];omega,hd⟩
def zc7:LC:=(.q [.F 3] (.q [.l 4 1,.m 5 0,.I 6 3 4 5,.f 7 1 6,.l 8 7,.m 3 8] .ret))
def r_lengths_one_1:Na Tryz.prog 190=some ⟨9,zc7.r,[.tmp 3]⟩:=Aa
def za7:LC:=(.q [.x 2 0,.x 3 1,.F 4] (.seq (.q [.f 13 0 3,.l 14 13,.b 15 .eql 3 14 17] (.cond (.t 15) (.q [.l 16 2,.L 17 7 3,.W 18 166 16 17,.m 4 18] .ret) .skip)) (.q [.f 20 0 3,.l 21 20,.w 22 187 21,.m 19 22,.X 23 0 19,.X 24 1 19,.m 5 23,.m 6 24] (.seq (.q [.m 25 6,.z 26 (.un .not (.t 25)),.m 27 26,.n 28 27 (.loadN 7 (.t 3)),.n 29 27 (.w 188 [.t 28]),.n 30 27 (.un .not (.t 29)),.p 31 27 30] (.cond (.t 31) (.q [.F 4] .ret) .skip)) (.seq (.q [.L 32 7 3,.w 33 189 32,.K 34 0] (.block 0 (.loop (.q [.b 35 .lss 3 34 5] (.seq (.cond (.t 35) .skip (.exit 0)) (.seq (.block 1 (.q [.m 36 34,.z 37 (.ixArr false 5 1 (.t 33) (.t 34)),.m 7 36,.m 8 37] (.q [.m 38 5,.m 39 7,.c 40 .shr 3 38 39,.b 41 .and 3 40 1,.b 42 .eql 3 41 1,.m 9 42] (.q [.m 43 9,.m 44 43,.my 45 44 8,.y 46 44 (.bin .lss true 3 (.t 45) (.k 0)),.my 47 44 46,.mn 48 47 8,.nl 49 47 2,.n 50 47 (.lenSl (.t 49)),.n 51 47 (.bin .geq false 3 (.t 48) (.t 50)),.y 52 44 (.pick (.t 47) .T (.t 51)),.q 53 44 52,.m 54 53,.mn 55 54 9,.n 56 54 (.un .not (.t 55)),.mn 57 54 56,.my 58 57 8,.y 59 57 (.bin .neq true 3 (.t 58) (.k (-1))),.n 60 54 (.pick (.t 57) (.t 59) .F),.p 61 54 60] (.cond (.t 61) (.q [.F 4] .ret) .skip))))) (.ops [.b 62 .add 3 34 1,.m 34 62]))))))) (.q [.L 63 7 3,.w 64 170 63,.z 65 (.mkFunc 190 [] [.t 2]),.W 66 169 64 65,.m 10 66] (.seq (.q [.f 67 1 3,.l 68 67,.f 69 2 3,.l 70 69,.z 71 (.buildSl 1 2 [(.i 0),(.i 0)] [(0,1,.t 68),(1,1,.t 70)]),.s 72 71,.K 73 0] (.block 2 (.loop (.q [.c 74 .lss 3 73 72] (.seq (.cond (.t 74) .skip (.exit 2)) (.seq (.block 3 (.q [.I 75 1 71 73,.l 76 75,.m 12 76] (.q [.m 77 12,.b 78 .geq 3 77 0,.m 79 78,.yl 80 79 2,.my 81 79 12,.y 82 79 (.ixAddr 3 (.t 80) (.t 81)),.y 83 79 (.loadN 3 (.t 82)),.y 84 79 (.w 167 [.t 83]),.my 85 79 84,.mn 86 85 10,.mn 87 85 86,.yl 88 87 2,.my 89 87 12,.y 90 87 (.ixAddr 3 (.t 88) (.t 89)),.yf 91 87 1 90,.yl 92 87 91,.y 93 87 (.un .not (.t 92)),.n 94 85 (.pick (.t 87) (.t 93) .F),.y 95 79 (.pick (.t 85) .T (.t 94)),.q 96 79 95] (.cond (.t 96) (.q [.F 4] .ret) .skip)))) (.ops [.b 97 .add 3 73 1,.m 73 97]))))))) (.q [.f 98 2 3,.l 99 98,.b 100 .lss 3 99 0,.m 101 100,.nf 102 101 1 3,.nl 103 101 102,.nf 104 101 2 3,.nl 105 101 104,.n 106 101 (.bin .neq false 3 (.t 103) (.t 105)),.p 107 101 106,.m 108 107,.yl 109 108 2,.y 110 108 (.loadN 7 (.t 3)),.y 111 108 (.w 191 [.t 109,.t 110]),.q 112 108 111,.m 4 112] .ret))))))))
def r_lengths_one:Na Tryz.prog 168=some ⟨113,za7.r,[.tmp 4]⟩:=Aa
def zxm{p st:Nat}(v:Int)(j:F[p]?=some (.cells [.lst (Px vz) vz.length 3] st))(hv:t7 vz v)(k:X (.bool (gv vz v.toNat).sec) F):Ob (.fn 190) [.i v,.ptr p 0] F X:=by
 refine Nb r_lengths_one_1 Aa N ?_;obtain⟨a,rfl,z,A⟩:=hv.at;have g:=ztt A;simp only[Is]at g k;simp[zc7,j,z];simp[Nh g];exact k
def zkw(g:List Vr)(o:Ko):Nj 168 [.lst (Px g) g.length 3,.agg o.f] (.bool (Pg g o)) []:=by
 refine Oj.val rfl (Nb r_lengths_one Aa (by simp) ?_);have C:o.f=[.i o.kind,.i o.d,.i o.e,.i o.a,.i o.b,.i o.c,.u o.imm]:=rfl;by_cases z:o.kind=17
 ·simp[za7,C,z];have hf:=zc8 (Px g) g.length o;rw[C,z]at hf;refine Nw hf (bors_self _ Ch) ?_;simp[Pg,z]
 simp[za7,C,z];refine Nw (zh9 o.kind) (by simp) ?_;cases M:Rh o.kind with
 |none=>simp[Pg,z,M]
 |some s =>
 simp;rw[←C];refine Nw (zfr o) (bors_self _ rfl) ?_;cases hn:Ss o with
 |false=>simp[Pg,z,M,hn]
 |true =>
 simp[C];rw[←C];refine Nw (zas o) (bors_self _ rfl) ?_;have gC:=br M;simp;refine Po (λY gD gE N=>∃i:Nat,gD=[]∧gE=[.cells [.lst (Px g) g.length 3] 0,.cells o.f 0]∧N+i=5∧lk Y 2=.ptr 0 0∧lk Y 3=.ptr 1 0∧lk Y 5=.i s∧lk Y 33=.agg ((X2 o).map .i)∧lk Y 34=.i i∧∀O,O<i→T5 g.length s O (gd (X2 o) O)=true) (N:=5) ⟨0,by simp[X2]⟩ ?_;rintro N Y gD gE ⟨i,rfl,rfl,hN,B,H,h5,P,gg,Z⟩ Nx I;by_cases hi:5≤i
 case neg =>
  have gA:(i:Int)<5:=J
  have g2:i<5:=J
  have hg:=bm (f:=LV.i) (rf (l:=X2 o) (u:=i) g2);have A:T5 g.length s i (gd (X2 o) i)=true→∀O,O<i+1→T5 g.length s O (gd (X2 o) O)=true:=λh O hj=>by
   by_cases e:O=i
   ·rw[e];exact h
   ·exact Z O J
  have K:T5 g.length s i (gd (X2 o) i)=false→Pg g o=false:=λh=>by
   simp[Pg,z,M,zy4 g2 h]
  have pb:=ir s i;generalize gd (X2 o) i=v at *;have T:0≤(s:Int)/2^i:=Int.ediv_nonneg J (Int.pow_nonneg J);have e1:(s:Int)/2^i<9223372036854775808:=Int.lt_of_le_of_lt (Int.ediv_le_self _ J) J;have em:max ((s:Int)/2^i) 0=(s:Int)/2^i:=J
  simp[B,H,h5,P,gg,gA,Nh hg,em,T,e1,pb];refine⟨J,λU=>⟨λv0=>?_,λv0=>⟨λv1=>?_,λv1=>?_⟩⟩,λU=>?_⟩
  ·exact K Fy
  ·exact K Fy
  ·simp only[U,zmh];exact⟨J,I _ _ _ ⟨N-1,J,i+1,rfl,rfl,J,Aw,Bg,by simp[h5],Ey,by simp,A Fy⟩⟩
  ·simp only[U,ziq];exact⟨λhv=>⟨J,I _ _ _ ⟨N-1,J,i+1,rfl,rfl,J,Aw,Bg,by simp[h5],Ey,by simp,A (by simp[T5,U,hv])⟩⟩,λhv=>K (by simp[T5,U,hv])⟩
 have V:Uu g.length s o=true:=zwc λO hj=>Z O J
 have L:=zvx M V;have gA:¬(i:Int)<5:=J
 simp[B,H,P,gg,gA,C];rw[←C];refine R0 (zai o L.swap) rfl ?_;simp;have gB:(T8 o).length≤9223372036854775807:=by
  have h1:([o.a,o.b,o.c].filter λv=>!decide (v<0)).length≤3:=List.length_filter_le _ _;unfold T8;split<;>simp at h1 ⊢<;>omega
 rw[B];refine z6m (p:=λv=>(gv g v.toNat).sec) gB (λv hv K' k=>zxm v rfl (L.takes v hv) k) ?_;rw[show (T8 o).any (λv=>(gv g v.toNat).sec)=Rg g o from rfl];simp[B,H,C];refine Po (λY gD gE N=>∃i:Nat,gD=[]∧gE=[.cells [.lst (Px g) g.length 3] 0,.cells o.f 0,.dyn ([o.d,o.e].map .i) 2 1 0 0]∧N+i=2∧lk Y 2=.ptr 0 0∧lk Y 3=.ptr 1 0∧lk Y 10=.bool (Rg g o)∧lk Y 71=.dy 2 0∧lk Y 72=.i 2∧lk Y 73=.i i∧∀O,O<i→V8 g (Rg g o) (gd [o.d,o.e] O)=true) (N:=2) ⟨0,by simp[B,H,C]⟩ ?_;rintro N Y gD gE ⟨i,rfl,rfl,hN,B,H,D,E,F,G,Z⟩ Nx I;by_cases hi:2≤i
 case neg =>
  have gA:(i:Int)<2:=J
  have g2:i<2:=J
  have hg:=bm (f:=LV.i) (rf (l:=[o.d,o.e]) (u:=i) g2);have A:V8 g (Rg g o) (gd [o.d,o.e] i)=true→∀O,O<i+1→V8 g (Rg g o) (gd [o.d,o.e] O)=true:=λh O hj=>by
   by_cases e:O=i
   ·rw[e];exact h
   ·exact Z O J
  have K:V8 g (Rg g o) (gd [o.d,o.e] i)=false→Pg g o=false:=λh=>by
   have X:i=0∨i=1:=J
   rcases X with rfl|rfl
   ·have h:V8 g (Rg g o) o.d=false:=h;simp[Pg,z,M,h]
   ·have h:V8 g (Rg g o) o.e=false:=h;simp[Pg,z,M,h]
  have gz:gd [o.d,o.e] i=-1∨t7 g (gd [o.d,o.e] i):=by
   have X:i=0∨i=1:=J
   rcases X with rfl|rfl
   ·exact L.d
   ·exact L.e
  generalize gd [o.d,o.e] i=v at *;simp only[Kn,List.map_nil]at hg;rcases gz with rfl|hv
  ·simp[B,H,D,E,F,G,gA,Nh hg];exact⟨J,I _ _ _ ⟨N-1,J,i+1,rfl,rfl,J,Aw,Bg,Av,Au,Ah,by simp,A (by simp[V8])⟩⟩
  ·obtain⟨k,rfl,hk,ek⟩:=hv.at;have q3:=zeu ek;have q1:=ztt ek;have hq:=zrn hk;simp only[Is]at q1 q3;simp[B,H,D,E,F,G,gA,Nh hg,hk,q3,hq];refine Nw (zat (gv g k)) (bors_self _ rfl) ?_;cases Q:Sc (gv g k) with
   |true =>
    simp;exact K (by simp[V8,Q])
   |false =>
    cases j:Rg g o with
    |false =>
     simp[B,D,G,j];exact⟨J,I _ _ _ ⟨N-1,J,i+1,rfl,rfl,J,Aw,Bg,by simp[D,j],Au,Ah,by simp,A (by simp[V8,Q,j])⟩⟩
    |true =>
     cases R:(gv g k).sec with
     |false =>
      simp[B,D,G,j,hk,Nh q1,R];exact K (by simp[V8,Q,j,R])
     |true =>
      simp[B,D,G,j,hk,Nh q1,R];exact⟨J,I _ _ _ ⟨N-1,J,i+1,rfl,rfl,J,Aw,Bg,by simp[D,j],Au,Ah,by simp,A (by simp[V8,Q,j,R])⟩⟩
 have gA:¬(i:Int)<2:=J
 have od:V8 g (Rg g o) o.d=true:=Z 0 J;have oe:V8 g (Rg g o) o.e=true:=Z 1 J;by_cases T:o.e<0
 ·simp[B,H,E,F,G,gA,C,T];rw[←C];refine Nw (zan g o L.alike) (bors_self _ (by simp[dats,LV.dat,Tz,C])) ?_;simp[Pg,z,M,hn,V,od,oe,T]
 ·by_cases e1:o.d=o.e
  ·simp[B,H,E,F,G,gA,C,T,e1];simp[Pg,z,M,T,e1]
  ·simp[B,H,E,F,G,gA,C,T,e1];rw[←C];refine Nw (zan g o L.alike) (bors_self _ (by simp[dats,LV.dat,Tz,C])) ?_;simp[Pg,z,M,hn,V,od,oe,T,e1]
def zda:LC:=(.q [.F 2] (.q [.K 3 0] (.seq (.q [.m 6 0,.s 7 6,.K 8 0] (.block 0 (.loop (.q [.c 9 .lss 3 8 7] (.seq (.cond (.t 9) .skip (.exit 0)) (.seq (.block 1 (.q [.m 10 8,.I 11 3 6 8,.L 12 3 11,.z 5 (.alloc [(.i 0),(.bool false),(.i 0)]),.m 4 10,.S 3 5 12] (.seq (.q [.f 13 0 5,.l 14 13,.b 15 .lss 3 14 1,.m 16 15,.nf 17 16 0 5,.nl 18 16 17,.nb 19 16 .gtr 3 18 512,.p 20 16 19,.m 21 20,.nf 22 21 2 5,.nl 23 21 22,.nb 24 21 .lss 3 23 0,.p 25 21 24,.m 26 25,.nf 27 26 2 5,.nl 28 26 27,.nb 29 26 .gtr 3 28 3,.p 30 26 29] (.cond (.t 30) (.q [.F 2] .ret) .skip)) (.seq (.q [.f 31 2 5,.l 32 31,.b 33 .eql 3 32 0] (.cond (.t 33) (.exit 1) .skip)) (.seq (.q [.m 34 3,.m 35 4,.c 36 .lss 3 34 35,.m 37 36,.nf 38 37 1 5,.nl 39 37 38,.nf 40 37 2 5,.nl 41 37 40,.nb 42 37 .neq 3 41 1,.n 43 37 (.bin .neq false 4 (.t 39) (.t 42)),.p 44 37 43] (.cond (.t 44) (.q [.F 2] .ret) .skip)) (.ops [.m 45 3,.b 46 .add 3 45 1,.m 3 46])))))) (.ops [.b 47 .add 3 8 1,.m 8 47]))))))) (.q [.m 48 0,.s 49 48,.b 50 .geq 3 49 1,.m 51 50,.my 52 51 0,.y 53 51 (.lenSl (.t 52)),.y 54 51 (.bin .leq true 3 (.t 53) (.k 256)),.q 55 51 54,.m 56 55,.my 57 56 3,.y 58 56 (.bin .leq true 3 (.t 57) (.k 12)),.q 59 56 58,.m 2 59] .ret))))
def r_lengths_vars:Na Tryz.prog 164=some ⟨60,zda.r,[.tmp 2]⟩:=Aa
def zik(g:List Vr)(hl:g.length≤9223372036854775807):Nj 164 [.lst (Px g) g.length 3] (.bool (Sm g)) []:=by
 refine Oj.val rfl (Nb r_lengths_vars Aa (by simp) ?_);simp[zda];refine Po (λV gg gz N=>∃i p:Nat,gg=[]∧N+i=g.length∧p≤i∧lk V 0=.lst (Px g) g.length 3∧lk V 3=.i p∧lk V 6=.lst (Px g) g.length 3∧lk V 7=.i g.length∧lk V 8=.i i∧V4 i p (g.drop i)=V4 0 0 g) (N:=g.length) ⟨0,0,by simp⟩ ?_;rintro N V gg gz ⟨i,p,rfl,hN,Y,A,E,B,C,G,hv⟩ Nx R;by_cases P:i<g.length
 ·have Z:=Vx P;have I:=zeu Z;have K:=zrn P;rw[zsf P]at hv;have L:(gv g i).f=[.i (gv g i).limbs,.bool (gv g i).sec,.i (gv g i).mode]:=rfl;generalize gv g i=v at *;have D:V4 i p (v::g.drop (i+1))=none→Sm g=false:=λh=>by rw[h]at hv;simp[Sm,←hv]
  by_cases j:v.limbs<1
  ·simp[A,E,B,C,G,P,I,K,L,j];exact D (by simp[V4,rq,j])
  by_cases z:512<v.limbs
  ·simp[A,E,B,C,G,P,I,K,L,j,z];exact D (by simp[V4,rq,j,z])
  by_cases F:v.mode<0
  ·simp[A,E,B,C,G,P,I,K,L,j,z,F];exact D (by simp[V4,rq,j,z,F])
  by_cases H:3<v.mode
  ·simp[A,E,B,C,G,P,I,K,L,j,z,F,H];exact D (by simp[V4,rq,j,z,F,H])
  by_cases M:v.mode=0
  ·simp[A,E,B,C,G,P,I,K,L,j,z,F,H,M];refine⟨J,R _ _ _ ⟨N-1,J,i+1,p,rfl,J,J,A7,Au,Aw,As,by simp,?_⟩⟩;rw[←hv];simp[V4,rq,j,z,F,H,M]
  by_cases Q:p<i
  ·simp[A,E,B,C,G,P,I,K,L,j,z,F,H,M,Q];exact D (by simp[V4,rq,j,z,F,H,M,Q])
  by_cases T:v.sec=decide (v.mode=1)
  ·simp[A,E,B,C,G,P,I,K,L,j,z,F,H,M,Q,eqbP,T];exact D (by simp[V4,rq,j,z,F,H,M,Q,T])
  ·have b8:v.sec=!decide (v.mode=1):=by cases hs:v.sec<;>cases hm:decide (v.mode=1)<;>simp_all
   simp[A,E,B,C,G,P,I,K,L,j,z,F,H,M,Q,eqbP,b8];refine⟨J,J,R _ _ _ ⟨N-1,J,i+1,p+1,rfl,J,J,A7,by simp,Aw,As,by simp,?_⟩⟩;rw[←hv];simp[V4,rq,j,z,F,H,M,Q,T]
 ·have ei:i=g.length:=J
  rw[J0 J]at hv;have O:V4 0 0 g=some p:=by rw[←hv];rfl
  by_cases U:1≤g.length
  ·by_cases X:g.length≤256
   ·simp[A,E,B,C,G,P,Sm,O,U,X];omega
   ·simp[A,E,B,C,G,P,Sm,O,U,X];omega
  ·simp[A,E,B,C,G,P,Sm,O,U];omega
def z5g:LC:=(.q [.F 3] (.q [.m 4 0,.b 5 .geq 3 4 0,.m 6 5,.yf 7 6 0 1,.yl 8 6 7,.my 9 6 0,.y 10 6 (.ixAddr 3 (.t 8) (.t 9)),.yf 11 6 2 10,.yl 12 6 11,.y 13 6 (.bin .eql true 3 (.t 12) (.k 3)),.q 14 6 13,.m 3 14] .ret))
def r_lengths_Check_1:Na Tryz.prog 165=some ⟨15,z5g.r,[.tmp 3]⟩:=Aa
def z9a:LC:=(.q [.F 3] (.q [.l 4 1,.m 5 0,.I 6 1 4 5,.l 7 6,.z 8 (.un .not (.t 7)),.m 3 8] .ret))
def r_lengths_Check_2:Na Tryz.prog 171=some ⟨9,z9a.r,[.tmp 3]⟩:=Aa
def zbm:LC:=(.q [.x 1 0,.K 2 0] (.seq (.q [.f 13 0 1,.l 14 13,.w 15 164 14,.z 16 (.un .not (.t 15)),.m 17 16,.nf 18 17 1 1,.nl 19 17 18,.n 20 17 (.lenSl (.t 19)),.nb 21 17 .gtr 3 20 4096,.p 22 17 21,.m 23 22,.nf 24 23 2 1,.nl 25 23 24,.n 26 23 (.lenSl (.t 25)),.nb 27 23 .gtr 3 26 4096,.p 28 23 27] (.cond (.t 28) (.q [.K 2 2] .ret) .skip)) (.q [.z 29 (.mkFunc 165 [] [.t 1]),.m 3 29] (.seq (.q [.f 30 2 1,.l 31 30,.s 32 31,.K 33 0] (.block 0 (.loop (.q [.c 34 .lss 3 33 32] (.seq (.cond (.t 34) .skip (.exit 0)) (.seq (.block 1 (.q [.I 35 7 31 33,.L 36 7 35,.z 5 (.alloc [(.i 0),(.i 0),(.i 0),(.i 0),(.i 0),(.i 0),(.u 0)]),.S 7 5 36] (.q [.f 37 0 5,.l 38 37,.b 39 .neq 3 38 17,.m 40 39,.nf 41 40 0 1,.nl 42 40 41,.n 43 40 (.loadN 7 (.t 5)),.n 44 40 (.w 166 [.t 42,.t 43]),.n 45 40 (.un .not (.t 44)),.p 46 40 45,.m 47 46,.mn 48 47 3,.nf 49 47 3 5,.nl 50 47 49,.n 51 47 (.callV (.t 48) [.t 50]),.p 52 47 51,.m 53 52,.mn 54 53 3,.nf 55 53 4 5,.nl 56 53 55,.n 57 53 (.callV (.t 54) [.t 56]),.p 58 53 57] (.cond (.t 58) (.q [.K 2 2] .ret) .skip)))) (.ops [.b 59 .add 3 33 1,.m 33 59]))))))) (.q [.f 60 0 1,.l 61 60,.s 62 61,.z 63 (.mkSl 1 [(.bool false)] (.t 62) (.t 62)),.z 6 (.alloc [.nilSl]),.S 1 6 63] (.seq (.q [.f 64 0 1,.l 65 64,.s 66 65,.K 67 0] (.block 2 (.loop (.q [.c 68 .lss 3 67 66] (.seq (.cond (.t 68) .skip (.exit 2)) (.seq (.block 3 (.q [.m 69 67,.I 70 3 65 67,.L 71 3 70,.z 8 (.alloc [(.i 0),(.bool false),(.i 0)]),.m 7 69,.S 3 8 71] (.draw [(.l 72 6,[]),(.m 73 7,[]),(.L 74 3 8,[]),(.w 75 167 74,[(.l 72 6,false)]),(.I 76 1 72 73,[]),(.S 1 76 75,[])]))) (.ops [.b 77 .add 3 67 1,.m 67 77]))))))) (.q [.K 9 0] (.seq (.q [.f 78 1 1,.l 79 78,.s 80 79,.K 81 0] (.block 4 (.loop (.q [.c 82 .lss 3 81 80] (.seq (.cond (.t 82) .skip (.exit 4)) (.seq (.block 5 (.q [.I 83 7 79 81,.L 84 7 83,.z 11 (.alloc [(.i 0),(.i 0),(.i 0),(.i 0),(.i 0),(.i 0),(.u 0)]),.S 7 11 84] (.seq (.q [.f 85 0 1,.l 86 85,.L 87 7 11,.W 88 168 86 87,.z 89 (.un .not (.t 88)),.m 90 89,.n 91 90 (.loadN 7 (.t 11)),.n 92 90 (.w 170 [.t 91]),.n 93 90 (.mkFunc 171 [] [.t 6]),.n 94 90 (.w 169 [.t 92,.t 93]),.p 95 90 94] (.cond (.t 95) (.q [.K 2 2] .ret) .skip)) (.seq (.q [.f 96 0 11,.l 97 96] (.block 6 (.q [.b 99 .eql 3 97 15,.m 98 99] (.cond (.t 98) (.ops [.m 100 9,.b 101 .add 3 100 1,.m 9 101]) (.q [.b 103 .eql 3 97 16,.m 102 103] (.cond (.t 102) (.ops [.m 104 9,.b 105 .sub 3 104 1,.m 9 105]) .skip)))))) (.seq (.q [.m 106 9,.b 107 .lss 3 106 0,.m 108 107,.mn 109 108 9,.nb 110 108 .gtr 3 109 4,.p 111 108 110] (.cond (.t 111) (.q [.K 2 2] .ret) .skip)) (.q [.f 112 1 11,.l 113 112,.b 114 .geq 3 113 0] (.cond (.t 114) (.ops [.l 115 6,.f 116 1 11,.l 117 116,.I 118 1 115 117,.v (.store 1 (.t 118) .T)]) .skip))))))) (.ops [.b 119 .add 3 81 1,.m 81 119]))))))) (.seq (.q [.l 120 6,.s 121 120,.K 122 0] (.block 7 (.loop (.q [.c 123 .lss 3 122 121] (.seq (.cond (.t 123) .skip (.exit 7)) (.seq (.block 8 (.q [.m 124 122,.m 12 124] (.q [.m 125 3,.m 126 12,.z 127 (.callV (.t 125) [.t 126]),.m 128 127,.yl 129 128 6,.my 130 128 12,.y 131 128 (.ixAddr 1 (.t 129) (.t 130)),.yl 132 128 131,.y 133 128 (.un .not (.t 132)),.q 134 128 133] (.cond (.t 134) (.q [.K 2 2] .ret) .skip)))) (.ops [.b 135 .add 3 122 1,.m 122 135]))))))) (.seq (.q [.m 136 9,.b 137 .neq 3 136 0] (.cond (.t 137) (.q [.K 2 2] .ret) .skip)) (.q [.K 2 0] .ret)))))))))))
def r_lengths_Check:Na Tryz.prog 118=some ⟨138,zbm.r,[.tmp 2]⟩:=Aa
def Rs(g:List Vr)(j z:List Ko):List LV:=[.lst (Px g) g.length 3,.lst (Ul j) j.length 7,.lst (Ul z) z.length 7]
def Nz{x:M0}{q:Nat}(h:q<F.length):(F++x)[q]?=F[q]?:=Ie h
def zhk(f:vQ→LV)(l:List vQ)(j:Nat)(x:vQ)(h:j<l.length):Oa (l.map f) j [f x]=(l.set j x).map f:=by
 unfold Oa;rw[Jk,H7 h];simp[Mz,List.map_drop]
def repB(n:Nat):O6 [.bool false] n=(List.replicate n false).map LV.bool:=by
 induction n with
 |zero=>rfl
 |succ n g=>simp[O6,g,Ku]
def gb_ext{a b:List Bool}(h:a.length=b.length)(he:∀g,g<a.length→gb a g=gb b g):a=b:=by
 apply List.ext_getElem h;intro g j z;have:=he g j;simpa [gb,Hy,j,z] using this
def yg(m:List Bool)(i g:Nat)(b:Bool)(hi:i<m.length):gb (m.set i b) g=if g=i then b else gb m g:=by
 unfold gb;rw[Hy,Hy,Mw];by_cases h:i=g
 ·subst h;simp[hi]
 ·rw[Hv h,Hv (λq=>h q.symm)]
def zea{p st:Nat}(v:Int)(j:F[p]?=some (.cells (.lst (Px vz) vz.length 3::E) st))(hv:v<vz.length)(k:X (.bool (U5 vz v)) F):Ob (.fn 165) [.i v,.ptr p 0] F X:=by
 refine Nb r_lengths_Check_1 Aa N ?_;by_cases g:0≤v
 ·obtain⟨a,rfl⟩:=Hz g;have z:a<vz.length:=J
  have A:=vs_at2 (Vx z);simp[z5g,j,z];simp[Nh A];simpa [U5] using k
 ·simp[z5g,j,g];simpa [U5,g] using k
def ztn{p q st:Nat}{m:List Bool}(v:Int)(z:F[p]?=some (.cells [.dy q 0] st))(A:F[q]?=some (.dyn (m.map .bool) m.length 1 0 g))(hv:0≤v∧v<m.length)(k:X (.bool (!gb m v.toNat)) F):Ob (.fn 171) [.i v,.ptr p 0] F X:=by
 refine Nb r_lengths_Check_2 Aa N ?_;obtain⟨a,rfl⟩:=Hz hv.1;have j:a<m.length:=J
 have B:=bm (f:=LV.bool) (at_gb j);simp[z9a,z,A,j];simp[Nh B];simpa using k
def zaq(g:List Vr)(j z:List Ko)(jI:g.length≤9223372036854775807):Nj 118 [.agg (Rs g j z)] (.i (U8 g j z)) []:=by
 refine Oj.val rfl (Nb r_lengths_Check Aa (by simp) ?_);have gC:Su g j z=false→U8 g j z=2:=λh=>by simp[U8,h]
 simp[zbm,Rs];refine Nw (zik g jI) (bors_self _ Ch) ?_;cases hv:Sm g with
 |false=>simp[gC,Su,hv]
 |true =>
 have jK:=zj2 hv;by_cases g1:(4096:Int)<(j.length:Int)
 ·simp[g1];exact (gC (by simp[Su,hv];omega)).symm
 by_cases g2:(4096:Int)<(z.length:Int)
 ·simp[g1,g2];exact (gC (by simp[Su,hv];omega)).symm
 simp[g1,g2];refine Po (λρ jC gG N=>∃i:Nat,jC=[]∧N+i=z.length∧lk ρ 1=.ptr 0 0∧lk ρ 3=.fn (.func 165) [] [.ptr 0 0]∧lk ρ 31=.lst (Ul z) z.length 7∧lk ρ 32=.i z.length∧lk ρ 33=.i i∧0<gG.length∧gG[0]?=some (.cells (Rs g j z) 0)∧∀gB,gB<i→S8 g (go z gB)=true) (N:=z.length) ⟨0,by simp[Rs]⟩ ?_;rintro N ρ jC gG ⟨i,rfl,hN,B,F,gP,gQ,gR,O,L,hr⟩ Nx H;by_cases gH:i<z.length
 ·have q7:=zur (zz8 gH);have T:=os_lt gH;have P:(go z i).f=[.i (go z i).kind,.i (go z i).d,.i (go z i).e,.i (go z i).a,.i (go z i).b,.i (go z i).c,.u (go z i).imm]:=rfl;have no:S8 g (go z i)=false→U8 g j z=2:=λh=>gC (by
   have:z.all (S8 g)=false:=by
    rw[Mx];exact⟨go z i,Iq (zz8 gH),by simp[h]⟩
   simp[Su,this])
  have jL:S8 g (go z i)=true→∀gB,gB<i+1→S8 g (go z gB)=true:=λh gB hj=>by
   by_cases e:gB=i
   ·rw[e];exact h
   ·exact hr gB J
  generalize go z i=o at *;by_cases gD:o.kind=17
  ·simp[B,F,gP,gQ,gR,gH,q7,T,P,gD,↓Nz O,L,Rs];have hc:=zc8 (Px g) g.length o;rw[P,gD]at hc;refine Nw hc (bors_self _ Ch) ?_;cases hn:Xh g.length o with
   |false =>
    simp;exact (no (by simp[S8,hn])).symm
   |true =>
    have gT:=Zz gD hn;have ha:o.a<g.length:=by
     simp only[Xh,Hw]at hn;exact (z5j.1 hn.2.2.2.1).2
    have hb:o.b<g.length:=by
     simp only[Xh,Hw]at hn;have:=hn.2.2.2.2;split at this
     ·exact (z5j.1 this).2
     ·simp at this;omega
    simp[F];refine zea o.a B0 ha ?_;cases ho:U5 g o.a with
    |true =>
     simp;exact (no (by simp[S8,ho])).symm
    |false =>
     simp[F];refine zea o.b B0 hb ?_;cases jD:U5 g o.b with
     |true =>
      simp;exact (no (by simp[S8,jD])).symm
     |false =>
      simp[gR];exact⟨J,H _ _ _ ⟨N-1,J,i+1,rfl,J,Aw,Ah,by simp[gP],by simp[gQ],by simp,by simp,B0,jL (by simp[S8,gD,hn,ho,jD])⟩⟩
  ·simp[B,F,gP,gQ,gR,gH,q7,T,P,gD];exact (no (by simp[S8,gD])).symm
 have jE:z.all (S8 g)=true:=by
  rw[Jx];intro o ho;obtain⟨gB,hj,rfl⟩:=Kb.1 ho;have e:=zz8 hj;rw[H6 hj]at e;rw[Option.some.inj e];exact hr gB J
 simp[B,F,gP,gQ,gR,gH,L,Rs,jK,↓Nz O];refine⟨J,?_⟩;refine Po (λρ jC gG N=>∃(i:Nat) (m:List Bool) (p q st E:Nat),jC=[]∧N+i=g.length∧lk ρ 1=.ptr 0 0∧lk ρ 3=.fn (.func 165) [] [.ptr 0 0]∧lk ρ 6=.ptr p 0∧lk ρ 65=.lst (Px g) g.length 3∧lk ρ 66=.i g.length∧lk ρ 67=.i i ∧
   0<gG.length∧p<gG.length∧0<q∧q<gG.length∧gG[0]?=some (.cells (Rs g j z) 0)∧gG[p]?=some (.cells [.dy q 0] st)∧gG[q]?=some (.dyn (m.map .bool) m.length 1 0 E)∧m.length=g.length∧∀gB,gB<i→gb m gB=Sc (gv g gB)) (N:=g.length)
  ⟨0,List.replicate g.length false,gG.length+1,gG.length,1,0,rfl,J,Aw,Ah,by simp,Aw,by simp,by simp,by simp,by simp,O,by simp,B0,by simp,by simp[repB],by simp,by simp⟩ ?_
 clear B F L hr H O;rintro N ρ jC gG ⟨i,m,p,q,st,E,rfl,hN,B,F,D,gY,gZ,g9,O,A,gI,I,L,K,T,U,hm⟩ Nx H;by_cases gH:i<g.length
 ·have hg:=Vx gH;have q3:=zeu hg;have jg:=zrn gH;have P:(gv g i).f=[.i (gv g i).limbs,.bool (gv g i).sec,.i (gv g i).mode]:=rfl;simp[B,D,gY,gZ,g9,gH,q3,jg,P,↓Nz A,K];rw[←P];refine Nw (zat (gv g i)) (bors_self _ rfl) ?_;simp[↓Nz A,↓Nz I,K,T,D,g9,gH,U];refine⟨J,J,H _ _ _ ⟨N-1,J,i+1,m.set i (Sc (gv g i)),p,q,st,E+1,rfl,J,Aw,Ah,Av,by simp[gY],by simp[gZ],by simp,by simp,Ab,gI,Ab,?_,?_,?_,Dl,λgB hj=>?_⟩⟩
  ·rw[Hx J,Nz O];exact L
  ·have jM:p≠q:=λe=>by rw[e,T]at K;cases K
   rw[Hx J,Nz A];exact K
  ·rw[H0 Ab,zhk _ _ _ _ J,J1,U]
  ·rw[yg _ _ _ _ J];split
   ·rename_i e;rw[e]
   ·exact hm gB J
 have jO:m=bj g:=gb_ext (by simp[bj,U]) (λgB hj=>by
  rw[hm gB J];unfold gb bj;rw[Hy,Jy,Vx J];rfl)
 simp[B,D,gY,gZ,g9,gH,L,Rs];refine Po (λρ jC gG N=>∃(i:Nat) (m:List Bool) (G:Int) (p q st E:Nat),jC=[]∧N+i=j.length∧lk ρ 1=.ptr 0 0∧lk ρ 3=.fn (.func 165) [] [.ptr 0 0]∧lk ρ 6=.ptr p 0∧lk ρ 9=.i G∧lk ρ 79=.lst (Ul j) j.length 7∧lk ρ 80=.i j.length∧lk ρ 81=.i i ∧
   0<gG.length∧p<gG.length∧0<q∧q<gG.length∧gG[0]?=some (.cells (Rs g j z) 0)∧gG[p]?=some (.cells [.dy q 0] st)∧gG[q]?=some (.dyn (m.map .bool) m.length 1 0 E)∧m.length=g.length∧0≤G∧G≤4∧Uw g m G (j.drop i)=Uw g (bj g) 0 j) (N:=j.length)
  ⟨0,m,0,p,q,st,E,rfl,J,Aw,Ah,Av,by simp,Aw,by simp,by simp,O,A,gI,I,L,K,T,U,J,J,by simp[jO]⟩ ?_
 clear B F D L K T H O A gI I U;rintro N ρ jC gG ⟨i,m,G,p,q,st,E,rfl,hN,B,F,D,Y,Z,gg,gz,O,A,gI,I,L,K,T,U,jX,jY,gE⟩ Nx H;have jM:p≠q:=λe=>by rw[e,T]at K;cases K
 by_cases gH:i<j.length
 ·have q7:=zur (zz8 gH);have jg:=os_lt gH;rw[um gH]at gE;have P:(go j i).f=[.i (go j i).kind,.i (go j i).d,.i (go j i).e,.i (go j i).a,.i (go j i).b,.i (go j i).c,.u (go j i).imm]:=rfl;generalize go j i=o at *;have no:Uw g m G (o::j.drop (i+1))=none→U8 g j z=2:=λh=>gC (by
   rw[h]at gE;simp[Su,←gE])
  simp[B,Z,gg,gz,gH,q7,jg,P,↓Nz O,L,Rs];rw[←P];refine Nw (zkw g o) (bors_self _ (by simp[dats,LV.dat,Tz,P])) ?_;cases ho:Pg g o with
  |false =>
   simp;exact (no (by simp[Uw,ho])).symm
  |true =>
  have gT:=mp ho;simp[P];rw[←P];refine R0 (zai o gT.swap) rfl ?_;simp[D];have jP:(T8 o).length≤9223372036854775807:=by
   have B:([o.a,o.b,o.c].filter λv=>!decide (v<0)).length≤3:=List.length_filter_le _ _;unfold T8;split<;>simp at B ⊢<;>omega
  refine z6m (p:=λv=>!gb m v.toNat) jP (λv hv K' k=>ztn v Ed (by rw[Nz I];exact T) (by have:=gT.takes v hv;omega) k) ?_;cases ht:zgo m o with
  |false =>
   have:((T8 o).any λv=>!gb m v.toNat)=true:=by
    have h:=ht;unfold zgo at h;rw[Mx]at h;obtain⟨v,hv,h⟩:=h;exact I9.2 ⟨v,hv,At⟩
   rw[this];simp;exact (no (by simp[Uw,ho,ht])).symm
  |true =>
  have:((T8 o).any λv=>!gb m v.toNat)=false:=by
   have h:=ht;unfold zgo at h;rw[Jx]at h;rw[Li];intro v hv;simp[h v hv]
  rw[this];have jQ:∀C,C=G+dl o.kind→(C<0∨4<C→U8 g j z=2)∧(0≤C→C≤4→Uw g (Xt m o) C (j.drop (i+1))=Uw g (bj g) 0 j):=λC e=>by
   subst e;refine⟨λh=>no ?_,λh0 h4=>?_⟩
   ·rw[Uw,Hv];simp only[Hw,Ib];omega
   ·rw[←gE,Uw,H7];simp only[Hw,Ib];exact⟨ho,ht,h0,h4⟩
  have jz:∃V,dl o.kind=V∧-1≤V∧V≤1∧((o.kind=15∧V=1)∨(o.kind≠15∧o.kind=16∧V=-1)∨(o.kind≠15∧o.kind≠16∧V=0)):=by
   by_cases k1:o.kind=15
   ·exact⟨1,by simp[dl,k1],J,J,.inl ⟨k1,rfl⟩⟩
   by_cases k2:o.kind=16
   ·exact⟨-1,by simp[dl,k2],J,J,.inr (.inl ⟨k1,k2,rfl⟩)⟩
   ·exact⟨0,by simp[dl,k1,k2],J,J,.inr (.inr ⟨k1,k2,rfl⟩)⟩
  obtain⟨V,e1,e2,e3,jz⟩:=jz;obtain⟨gU,jF⟩:=jQ (G+V) (by rw[e1]);have jZ:=gT.d;have gK:0≤o.d→o.d<(m.length:Int):=λh=>J
  have gL:0≤o.d→Oa (m.map LV.bool) o.d.toNat [.bool true]=(m.set o.d.toNat true).map LV.bool:=λh=>zhk LV.bool _ _ true J
  have next:∀(C:Int) (ρ':M2) (G':M0) (gM:Nat),C=G+V→0≤C→C≤4→lk ρ' 1=.ptr 0 0→lk ρ' 3=.fn (.func 165) [] [.ptr 0 0]→lk ρ' 6=.ptr p 0→lk ρ' 9=.i C→lk ρ' 79=.lst (Ul j) j.length 7→lk ρ' 80=.i j.length→lk ρ' 81=.i ((i:Int)+1) →
    gG.length≤G'.length→G'[0]?=some (.cells (Rs g j z) 0)→G'[p]?=some (.cells [.dy q 0] st)→G'[q]?=some (.dyn ((Xt m o).map .bool) m.length 1 0 gM)→Nx ρ' [] G':=by
   intro C ρ' G' gM e gV gX a1 a3 a6 a9 jR jT jU j0 b0 bp bq;have jG:(Xt m o).length=m.length:=by unfold Xt;split<;>simp
   refine H _ _ _ ⟨N-1,J,i+1,Xt m o,C,p,q,st,gM,rfl,J,a1,a3,a6,a9,jR,jT,by rw[jU];simp,J,J,gI,J,b0,bp,by rw[jG];exact bq,by rw[jG,U],gV,gX,?_⟩;subst e;exact jF gV gX
  have q0:q≠0:=J
  have jA:0≤o.d→Xt m o=m.set o.d.toNat true:=λh=>by simp[Xt,h]
  have jB:¬0≤o.d→Xt m o=m:=λh=>by simp[Xt,h]
  rcases jz with ⟨M,rfl⟩|⟨M,gF,rfl⟩|⟨M,gF,rfl⟩
  ·have r0:¬G+1<0:=J
   by_cases d4:4<G+1
   ·simp[Y,P,M,r0,d4]
    repeat (refine⟨J,?_⟩)
    exact (gU (.inr d4)).symm
   by_cases Q:0≤o.d
   ·have d2:=gK Q;simp[D,Y,gz,P,M,r0,d4,↓Nz A,↓Nz I,K,T,Q,d2,gL Q]
    repeat (refine⟨J,?_⟩)
    refine next (G+1) _ _ (E+1) rfl J J Aw Ah Av (by simp) Ee B6 (by simp) (by simp) ?_ ?_ ?_
    ·rw[Hx J,Nz O];exact L
    ·rw[Hx J,Nz A];exact K
    ·rw[H0 Ab,jA Q,Jj]
   ·simp[D,Y,gz,P,M,r0,d4,Q]
    repeat (refine⟨J,?_⟩)
    exact next (G+1) _ _ E rfl J J Aw Ah Av (by simp) Ee B6 (by simp) (by simp) B0 Ed Fa
  ·by_cases r0:G-1<0
   ·simp[Y,P,M,gF,r0]
    repeat (refine⟨J,?_⟩)
    exact (gU (.inl J)).symm
   have d4:¬4<G-1:=J
   by_cases Q:0≤o.d
   ·have d2:=gK Q;simp[D,Y,gz,P,M,gF,r0,d4,↓Nz A,↓Nz I,K,T,Q,d2,gL Q]
    repeat (refine⟨J,?_⟩)
    refine next (G-1) _ _ (E+1) J J J Aw Ah Av (by simp) Ee B6 (by simp) (by simp) ?_ ?_ ?_
    ·rw[Hx J,Nz O];exact L
    ·rw[Hx J,Nz A];exact K
    ·rw[H0 Ab,jA Q,Jj]
   ·simp[D,Y,gz,P,M,gF,r0,d4,Q]
    repeat (refine⟨J,?_⟩)
    exact next (G-1) _ _ E J J J Aw Ah Av (by simp) Ee B6 (by simp) (by simp) B0 Ed Fa
  ·have r0:¬G<0:=J
   have d4:¬4<G:=J
   by_cases Q:0≤o.d
   ·have d2:=gK Q;simp[D,Y,gz,P,M,gF,r0,d4,↓Nz A,↓Nz I,K,T,Q,d2,gL Q]
    repeat (refine⟨J,?_⟩)
    refine next G _ _ (E+1) J J J Aw Ah Av (by simp[Y]) Ee B6 (by simp) (by simp) ?_ ?_ ?_
    ·rw[Hx J,Nz O];exact L
    ·rw[Hx J,Nz A];exact K
    ·rw[H0 Ab,jA Q,Jj]
   ·simp[D,Y,gz,P,M,gF,r0,d4,Q]
    repeat (refine⟨J,?_⟩)
    exact next G _ _ E J J J Aw Ah Av (by simp[Y]) Ee B6 (by simp) (by simp) B0 Ed Fa
 have jV:Uw g (bj g) 0 j=some (m,G):=by
  rw[J0 J]at gE;rw[←gE];rfl
 have l1:j.length≤4096:=J
 have l2:z.length≤4096:=J
 have gO:Su g j z=(qm g m&&decide (G=0)):=by simp[Su,hv,jE,jV,l1,l2]
 simp[B,F,D,Z,gg,gz,gH,K,T];refine Po (λρ jC G' N=>∃i:Nat,jC=[]∧G'=gG∧N+i=g.length∧lk ρ 1=.ptr 0 0∧lk ρ 3=.fn (.func 165) [] [.ptr 0 0]∧lk ρ 6=.ptr p 0∧lk ρ 9=.i G∧lk ρ 121=.i g.length∧lk ρ 122=.i i ∧
   ∀gB,gB<i→(gv g gB).mode=3→gb m gB=true) (N:=g.length) ⟨0,rfl,rfl,J,Aw,Ah,Av,by simp[Y],Dl,by simp,λgB hj=>J⟩ ?_
 clear B F D Y H;rintro N ρ jC G' ⟨i,rfl,rfl,hN,B,F,D,Y,gA,R,ha⟩ Nx H;by_cases gH:i<g.length
 ·have gm:i<m.length:=J
  have q1:=bm (f:=LV.bool) (at_gb gm);simp[F,gA,R,gH];refine zea (i:Int) L J ?_;cases ho:U5 g i with
  |false =>
   simp[R];refine⟨J,H _ _ _ ⟨N-1,J,i+1,rfl,rfl,J,Aw,Ah,Av,by simp[Y],by simp[gA],by simp,λgB hj X=>?_⟩⟩;by_cases e:gB=i
   ·subst e;simp[U5,X]at ho
   ·exact ha gB J X
  |true =>
   cases hb:gb m i with
   |false =>
    simp[D,R,K,T,gm,Nh q1,hb];have X:(gv g i).mode=3:=by simp[U5]at ho;exact ho
    have:qm g m=false:=by
     unfold qm;rw[Mx];exact⟨i,J9.2 gH,by simp[X,hb]⟩
    exact (gC (by rw[gO,this];rfl)).symm
   |true =>
    simp[D,R,K,T,gm,Nh q1,hb];refine⟨J,H _ _ _ ⟨N-1,J,i+1,rfl,rfl,J,Aw,Ah,Av,by simp[Y],by simp[gA],by simp,λgB hj X=>?_⟩⟩;by_cases e:gB=i
    ·rw[e];exact hb
    ·exact ha gB J X
 have jH:qm g m=true:=by
  unfold qm;rw[Jx];intro gB hj;have hj:=J9.1 hj;by_cases X:(gv g gB).mode=3
  ·simp[ha gB J X]
  ·simp[X]
 by_cases d0:G=0
 ·simp[Y,gA,R,gH,d0];simp[U8,gO,jH,d0]
 ·simp[Y,gA,R,gH,d0];simp[U8,gO,d0]
def zdb:LC:=(.q [.x 1 0,.F 2] (.q [.f 3 2 1,.l 4 3,.b 5 .eql 3 4 1,.m 6 5,.nf 7 6 2 1,.nl 8 6 7,.nb 9 6 .eql 3 8 2,.p 10 6 9,.m 2 10] .ret))
def r_expand_given:Na Tryz.prog 172=some ⟨11,zdb.r,[.tmp 2]⟩:=Aa
def zc0:LC:=(.q [.z 4 (.alloc [.nilSl,.nilSl,.nilSl])] (.q [.m 8 0,.z 9 (.build [.nilSl,.nilSl,.nilSl] [(0,1,.t 8)]),.z 5 (.alloc [.nilSl,.nilSl,.nilSl]),.S 3 5 9] (.seq (.q [.m 10 0,.s 11 10,.K 12 0] (.block 0 (.loop (.q [.c 13 .lss 3 12 11] (.seq (.cond (.t 13) .skip (.exit 0)) (.seq (.block 1 (.q [.m 14 12,.I 15 3 10 12,.L 16 3 15,.z 7 (.alloc [(.i 0),(.bool false),(.i 0)]),.m 6 14,.S 3 7 16] (.q [.L 17 3 7,.w 18 172 17,.z 19 (.un .not (.t 18))] (.cond (.t 19) (.ops [.f 20 1 5,.l 21 20,.m 22 6,.z 23 (.build [(.i 0),(.i 0),(.i 0),(.i 0),(.i 0),(.i 0),(.u 0)] [(0,1,.k 1),(1,1,.t 22),(2,1,.k (-1)),(3,1,.k (-1)),(4,1,.k (-1)),(5,1,.k (-1))]),.z 24 (.buildSl 7 1 [(.i 0),(.i 0),(.i 0),(.i 0),(.i 0),(.i 0),(.u 0)] [(0,7,.t 23)]),.a 25 7 21 24,.f 26 1 5,.S 1 26 25]) .skip)))) (.ops [.b 27 .add 3 12 1,.m 12 27]))))))) (.q [.f 28 1 5,.l 29 28,.m 30 1,.a 31 7 29 30,.f 32 1 5,.S 1 32 31] (.q [.L 33 3 5,.S 3 4 33] .ret)))))
def r_expand_kernel:Na Tryz.prog 119=some ⟨34,zc0.r,[.cellN 4 3]⟩:=Aa
def z87:LC:=(.q [.x 3 1,.F 4] (.seq (.q [.f 5 0 3,.l 6 5,.b 7 .eql 3 6 15,.m 8 7,.nf 9 8 0 3,.nl 10 8 9,.nb 11 8 .eql 3 10 16,.p 12 8 11] (.cond (.t 12) (.q [.F 4] .ret) .skip)) (.q [.m 13 0,.L 14 7 3,.z 15 (.buildSl 7 1 [(.i 0),(.i 0),(.i 0),(.i 0),(.i 0),(.i 0),(.u 0)] [(0,7,.t 14)]),.W 16 119 13 15,.w 17 118 16,.b 18 .eql 35 17 0,.m 4 18] .ret)))
def r_expand_May:Na Tryz.prog 55=some ⟨19,z87.r,[.tmp 4]⟩:=Aa
def z2t:LC:=(.q [.K 2 0] (.seq (.q [.m 3 0,.b 4 .lss 3 3 1] (.cond (.t 4) (.q [.K 2 0] .ret) .skip)) (.q [.m 5 0,.b 6 .add 3 5 2,.m 2 6] .ret)))
def r_montgomery_Need:Na Tryz.prog 21=some ⟨7,z2t.r,[.tmp 2]⟩:=Aa
def k_montgomery_Need:z2t.ok=true:=Aa
def zbl:LC:=(.q [.x 3 1,.K 4 0] (.seq (.q [.f 6 0 3,.l 7 6,.b 8 .neq 3 7 13,.m 9 8,.mn 10 9 0,.n 11 9 (.loadN 7 (.t 3)),.n 12 9 (.w 55 [.t 10,.t 11]),.n 13 9 (.un .not (.t 12)),.p 14 9 13] (.cond (.t 14) (.q [.K 4 0] .ret) .skip)) (.q [.m 15 0,.f 16 5 3,.l 17 16,.I 18 3 15 17,.f 19 0 18,.l 20 19,.m 5 20] (.seq (.draw [(.f 21 6 3,[]),(.l 22 21,[]),(.z 23 (.bin .shl true 3 (.k 1) (.t 22)),[]),(.z 24 (.bin .add true 3 (.k 3) (.t 23)),[]),(.m 25 5,[]),(.c 26 .mul 3 24 25,[]),(.m 27 0,[]),(.f 28 4 3,[]),(.l 29 28,[]),(.I 30 3 27 29,[]),(.f 31 0 30,[]),(.l 32 31,[]),(.c 33 .add 3 26 32,[]),(.b 34 .add 3 33 1,[]),(.m 35 5,[]),(.w 36 21 35,[(.l 32 31,false),(.l 29 28,false),(.l 22 21,false)]),(.c 37 .add 3 34 36,[]),(.m 4 37,[])]) .ret))))
def r_power_Work:Na Tryz.prog 42=some ⟨38,zbl.r,[.tmp 4]⟩:=Aa
def zb9(v:Vr):Nj 172 [.agg v.f] (.bool (Sc v)) []:=by
 refine Oj.val rfl (Nb r_expand_given Aa N ?_);by_cases g:v.mode=1<;>simp[zdb,Vr.f,Sc,g]
def ztj{i:Nat}(h:i<vz.length):Ve i (vz.drop i)=(if Sc (gv vz i)=true then [] else [Yg 1 i])++Ve (i+1) (vz.drop (i+1)):=by
 rw[zsf h,Ve];split<;>rfl
def zz4(l:List LV):(LV.agg l).cells=some l:=rfl
def Zg(a b:List Ko):Ul (a++b)=Ul a++Ul b:=by simp[Ul]
def zaw(g:List Vr)(z:List Ko)(hl:g.length≤1000000)(hn:z.length≤1000000):O2 119 [.lst (Px g) g.length 3,.lst (Ul z) z.length 7] (.agg (Rs g (Ve 0 g++z) [])):=by
 refine Sa.mk (by simp[Rs,LV.dat,dats,Tz,zcf]) (Nb r_expand_kernel Aa (by simp) ?_);simp[zc0];refine Po (λU gB gg N=>∃(i:Nat) (T:List Ko) (v:LV) (st:Nat),gB=[]∧N+i=g.length∧lk U 1=.lst (Ul z) z.length 7∧lk U 4=.ptr 0 0∧lk U 5=.ptr 1 0∧lk U 10=.lst (Px g) g.length 3∧lk U 11=.i g.length∧lk U 12=.i i ∧
   1<gg.length∧gg[0]?=some (.cells [.nilSl,.nilSl,.nilSl] 0)∧gg[1]?=some (.cells [.lst (Px g) g.length 3,v,.nilSl] st)∧Rw 2 gg v 7 T.length (Ul T)∧T.length≤i∧Ve 0 g=T++Ve i (g.drop i)) (N:=g.length)
  ⟨0,[],.nilSl,1,rfl,J,by simp,by simp,by simp,by simp,by simp,by simp,by simp,by simp,by simp,Rw.nil,by simp,by simp⟩ ?_
 rintro N U gB gg ⟨i,T,v,st,rfl,hN,V,X,M,F,G,H,K,L,A,Y,gA,j⟩ Nx O;have P:0<gg.length:=J
 by_cases gz:i<g.length
 ·have hg:=Vx gz;have q3:=zeu hg;have Z:=zrn gz;have hf:(gv g i).f=[.i (gv g i).limbs,.bool (gv g i).sec,.i (gv g i).mode]:=rfl;have Q:=ztj gz;rw[Q]at j;simp[F,G,H,gz,q3,Z,hf];rw[←hf];refine Nw (zb9 (gv g i)) (bors_self _ rfl) ?_;cases R:Sc (gv g i) with
  |true =>
   rw[R]at j;simp[H];refine⟨J,O _ _ _ ⟨N-1,J,i+1,T,v,st,rfl,J,by simp[V],by simp[X],A9,Ah,Bc,by simp,Ab,by rw[Nz P];exact L,by rw[Nz K];exact A,Y.push_end,J,Bm⟩⟩
  |false =>
   rw[R]at j;simp[M,↓Nz K,A];refine Rw.push (m:=1) (x:=(Yg 1 i).f) Y.push_end J (by simp) J rfl λv' I B C hb=>?_
   have D:I[1]?=some (.cells [.lst (Px g) g.length 3,v,.nilSl] st):=by rw[C 1 J,Nz K];exact A
   have E:I[0]?=some (.cells [.nilSl,.nilSl,.nilSl] 0):=by rw[C 0 J,Nz P];exact L
   have hc:=B.cells;simp[-LV.cells,M,H,D,hc];refine⟨J,O _ _ _ ⟨N-1,J,i+1,T++[Yg 1 i],v',st+1,rfl,J,by simp[V],by simp[X],A9,Ah,Bc,by simp,Ab,?_,?_,?_,Ab,Bm⟩⟩
   ·rw[Hx J];exact E
   ·rw[H0 J]
   ·rw[Zg,H8,show Ul [Yg 1 (i:Int)]=(Yg 1 i).f by simp[Ul]];exact B.set_lt J
 ·rw[J0 J]at j;have j:Ve 0 g=T:=by simpa [Ve] using j
  simp[V,M,F,G,H,gz,A];refine⟨J,?_⟩;refine Rw.push (m:=z.length) Y J J J (uv z) λv' I B C hb=>?_
  have D:I[1]?=some (.cells [.lst (Px g) g.length 3,v,.nilSl] st):=by rw[C 1 J];exact A
  have E:I[0]?=some (.cells [.nilSl,.nilSl,.nilSl] 0):=by rw[C 0 J];exact L
  have hc:=B.cells;have s1:∀x,(I.set 1 x)[1]?=some x:=λx=>H0 J
  have s0:∀x,(I.set 1 x)[0]?=some (.cells [.nilSl,.nilSl,.nilSl] 0):=λx=>by rw[Hx J];exact E
  have s2:∀x y,((I.set 1 x).set 0 y)[0]?=some y:=λx y=>H0 (by rw[J1];omega)
  simp[-LV.cells,X,M,↓D,↓s1,↓s0,↓s2,hc,zz4];refine⟨_,_,rfl,⟨rfl,Tz g⟩,_,_,rfl,?_,_,rfl,.inr ⟨7,rfl⟩⟩;rw[j,Zg,H8];exact ((B.set_lt J).set_lt J).bor (dats_app (zcf _) (zcf _))
def ug(o:Ko):o.f=Ul [o]:=by simp[Ul]
def znq(z:List Vr)(o:Ko)(B:z.length≤1000000):Nj 55 [.lst (Px z) z.length 3,.agg o.f] (.bool (Tp z o)) []:=by
 refine Oj.val rfl (Nb r_expand_May Aa N ?_);have A:o.f=[.i o.kind,.i o.d,.i o.e,.i o.a,.i o.b,.i o.c,.u o.imm]:=rfl;by_cases g:o.kind=15
 ·simp[z87,A,g];simp[Tp,zx,g]
 by_cases j:o.kind=16
 ·simp[z87,A,g,j];simp[Tp,zx,j]
 simp[z87,A,g,j];refine z9u (a:=[.lst (Px z) z.length 3]) (b:=[]) rfl ?_;rw[←A,ug];refine R0 (zaw z [o] B N) (by simp[dats,LV.dat,Tz,zcf]) ?_;simp;refine Nw (zaq z _ [] J) (bors_self _ (by simp[Rs,dats,LV.dat,Tz,zcf])) ?_;simp[Tp,zx,g,j,U8]
def zee(n:Int)(h:1≤n∧n≤512):Nj 21 [.i n] (.i (n+2)) []:=by
 refine Oj.val rfl (Nb r_montgomery_Need k_montgomery_Need N ?_);have g:¬n<1:=J
 simp[z2t,g];omega
def zf9(vs:List Vr)(o:Ko)(I:vs.length≤1000000):Nj 42 [.lst (Px vs) vs.length 3,.agg o.f] (.i (Ol vs o)) []:=by
 refine Oj.val rfl (Nb r_power_Work Aa N ?_);have j:o.f=[.i o.kind,.i o.d,.i o.e,.i o.a,.i o.b,.i o.c,.u o.imm]:=rfl;by_cases g:o.kind=13
 case neg=>simp[zbl,j,g,Ol]
 simp[zbl,j,g];have C:=znq vs o I;rw[j,g]at C;refine Nw C (bors_self _ Ch) ?_;cases hm:Tp vs o with
 |false=>simp[Ol,hm]
 |true =>
 obtain⟨hv,D,E,_⟩:=zpn (s:=29) hm (by simp[Rh,g]);obtain⟨a,z,K,F,A⟩:=zc5 hv (zk5 D Ac);obtain⟨b,B,G,H,L⟩:=zc5 hv (zjf D Ac);simp[Ss,g]at E;simp[z,B,K,G];simp[z]at F A;simp[B]at H L;simp[Nh F,Nh H];have M:o.imm.toNat≤6:=by have:=E.2;rw[Je]at this;exact this
 have hw:∀n,n≤6→(1:Int)≤2^n∧(2:Int)^n≤64:=Ac
 obtain⟨O,P⟩:=hw _ M;have m1:(0:Int)≤(3+2^o.imm.toNat)*Rq vs a:=Int.mul_nonneg J J;have Q:(3+2^o.imm.toNat)*Rq vs a≤67*512:=Int.mul_le_mul J A.2 J J;refine⟨J,J,J,J,G,J,J,?_⟩;refine Nw (zee (Rq vs (a:Int)) A) N ?_;simp
 repeat (refine⟨J,?_⟩)
 simp[Ol,hm,g,z,B]
def z26:LC:=(.q [.K 4 0] (.seq (.q [.m 6 0,.s 7 6,.K 8 0] (.block 0 (.loop (.q [.c 9 .lss 3 8 7] (.seq (.cond (.t 9) .skip (.exit 0)) (.seq (.block 1 (.q [.m 10 8,.m 5 10] (.q [.m 11 1,.m 12 0,.m 13 5,.I 14 3 12 13,.L 15 3 14,.z 16 (.callV (.t 11) [.t 15])] (.cond (.t 16) (.q [.m 17 5,.m 4 17] .ret) .skip)))) (.ops [.b 18 .add 3 8 1,.m 8 18]))))))) (.q [.K 4 (-1)] .ret)))
def r_slices_IndexFunc_api_Buf_api_Buf:Na Tryz.prog 213=some ⟨19,z26.r,[.tmp 4]⟩:=Aa
def z1y:LC:=(.q [.F 4] (.q [.m 5 0,.m 6 1,.W 7 213 5 6,.b 8 .geq 3 7 0,.m 4 8] .ret))
def r_slices_ContainsFunc_api_Buf_api_Buf:Na Tryz.prog 200=some ⟨9,z1y.r,[.tmp 4]⟩:=Aa
def ze1:LC:=(.q [.x 1 0,.K 2 0] (.seq (.q [.f 3 0 1,.l 4 3,.b 5 .gtr 3 4 64,.m 6 5,.nf 7 6 1 1,.nl 8 6 7,.n 9 6 (.lenSl (.t 8)),.nb 10 6 .gtr 3 9 32,.p 11 6 10,.m 12 11,.nf 13 12 2 1,.nl 14 12 13,.n 15 12 (.lenSl (.t 14)),.nb 16 12 .gtr 3 15 65536,.p 17 12 16] (.cond (.t 17) (.q [.K 2 3] .ret) .skip)) (.seq (.q [.f 18 1 1,.l 19 18,.z 20 (.w 200 [.t 19,(.c (.fn (.func 201) [] []))])] (.cond (.t 20) (.q [.K 2 3] .ret) .skip)) (.seq (.q [.f 21 0 1,.l 22 21,.b 23 .lss 3 22 0,.m 24 23,.nf 25 24 1 1,.nl 26 24 25,.n 27 24 (.w 200 [.t 26,(.c (.fn (.func 202) [] []))]),.p 28 24 27] (.cond (.t 28) (.q [.K 2 2] .ret) .skip)) (.q [.K 2 0] .ret)))))
def r_limb_head:Na Tryz.prog 196=some ⟨29,ze1.r,[.tmp 2]⟩:=Aa
def zeh:LC:=(.q [.x 1 0,.F 2] (.q [.f 3 0 1,.l 4 3,.b 5 .gtr 3 4 65536,.m 2 5] .ret))
def r_limb_head_1:Na Tryz.prog 201=some ⟨6,zeh.r,[.tmp 2]⟩:=Aa
def z78:LC:=(.q [.x 1 0,.F 2] (.q [.f 3 0 1,.l 4 3,.b 5 .lss 3 4 1,.m 6 5,.nf 7 6 1 1,.nl 8 6 7,.nb 9 6 .lss 3 8 1,.p 10 6 9,.m 11 10,.nf 12 11 1 1,.nl 13 11 12,.nb 14 11 .gtr 3 13 3,.p 15 11 14,.m 2 15] .ret))
def r_limb_head_2:Na Tryz.prog 202=some ⟨16,z78.r,[.tmp 2]⟩:=Aa
def zgp:LC:=(.q [.x 1 0,.K 2 0,.K 3 0] (.seq (.q [.L 9 3 1,.w 10 196 9,.m 4 10] (.q [.m 11 4,.b 12 .neq 35 11 0] (.cond (.t 12) (.q [.m 13 4,.K 2 0,.m 3 13] .ret) .skip))) (.q [.L 14 3 1,.z 15 (.build [(.i 0),.nilSl,.nilSl,(.bool false),(.bool false),(.bool false),(.bool false),(.bool false),(.bool false),(.bool false),(.bool false),(.bool false),(.bool false),(.bool false),(.bool false),(.bool false),(.bool false),(.bool false),(.bool false),(.bool false),(.bool false),(.bool false),(.bool false),(.bool false),(.bool false),(.bool false),(.bool false),(.bool false),(.bool false),(.bool false),(.bool false),(.bool false),(.bool false),(.bool false),(.bool false),(.bool false),(.bool false),(.bool false),(.bool false),(.bool false),(.bool false),(.bool false),(.bool false),(.bool false),(.bool false),(.bool false),(.bool false),(.bool false),(.bool false),(.bool false),(.bool false),(.bool false),(.bool false),(.bool false),(.bool false),(.bool false),(.bool false),(.bool false),(.bool false),(.bool false),(.bool false),(.bool false),(.bool false),(.bool false),(.bool false),(.bool false),(.bool false),.nilSl] [(0,3,.t 14)]),.x 16 15,.m 5 16] (.seq (.q [.f 17 2 1,.l 18 17,.s 19 18,.K 20 0] (.block 0 (.loop (.q [.c 21 .lss 3 20 19] (.seq (.cond (.t 21) .skip (.exit 0)) (.seq (.block 1 (.q [.m 22 20,.I 23 8 18 20,.L 24 8 23,.z 7 (.alloc [(.i 0),(.i 0),(.i 0),(.i 0),(.i 0),(.i 0),(.i 0),(.u 0)]),.m 6 22,.S 8 7 24] (.q [.m 25 5,.L 26 8 7,.W 27 197 25 26,.m 8 27] (.q [.m 28 8,.b 29 .neq 35 28 0] (.cond (.t 29) (.q [.m 30 6,.m 31 8,.m 2 30,.m 3 31] .ret) .skip))))) (.ops [.b 32 .add 3 20 1,.m 20 32]))))))) (.seq (.q [.m 33 5,.N 34 33,.f 35 67 34,.l 36 35,.s 37 36,.b 38 .gtr 3 37 0] (.cond (.t 38) (.q [.f 39 2 1,.l 40 39,.s 41 40,.m 2 41,.K 3 9] .ret) .skip)) (.q [.f 42 2 1,.l 43 42,.s 44 43,.m 2 44,.K 3 0] .ret))))))
def r_limb_Check:Na Tryz.prog 174=some ⟨45,zgp.r,[.tmp 2,.tmp 3]⟩:=Aa
def z2h:LC:=(.q [.x 2 0,.x 3 1,.F 4] (.seq (.q [.f 6 0 3,.l 7 6,.b 8 .lss 3 7 0,.m 9 8,.nf 10 9 0 3,.nl 11 9 10,.nf 12 9 0 2,.nl 13 9 12,.n 14 9 (.lenSl (.t 13)),.n 15 9 (.bin .geq false 3 (.t 11) (.t 14)),.p 16 9 15,.m 17 16,.nf 18 17 2 3,.nl 19 17 18,.nb 20 17 .lss 3 19 1,.p 21 17 20,.m 22 21,.nf 23 22 2 3,.nl 24 22 23,.nb 25 22 .gtr 3 24 32768,.p 26 22 25,.m 27 26,.nf 28 27 1 3,.nl 29 27 28,.nb 30 27 .lss 3 29 0,.p 31 27 30] (.cond (.t 31) (.q [.F 4] .ret) .skip)) (.q [.f 32 0 2,.l 33 32,.f 34 0 3,.l 35 34,.I 36 3 33 35,.f 37 0 36,.l 38 37,.m 5 38] (.q [.f 39 1 3,.l 40 39,.m 41 5,.c 42 .leq 3 40 41,.m 43 42,.yf 44 43 2 3,.yl 45 43 44,.my 46 43 5,.yf 47 43 1 3,.yl 48 43 47,.y 49 43 (.bin .sub false 3 (.t 46) (.t 48)),.y 50 43 (.bin .leq false 3 (.t 45) (.t 49)),.q 51 43 50,.m 4 51] .ret))))
def r_expand_lies:Na Tryz.prog 175=some ⟨52,z2h.r,[.tmp 4]⟩:=Aa
def zd9:LC:=(.q [.x 3 1,.K 4 0] (.seq (.q [.m 13 0,.z 14 (.w 119 [.t 13,(.c .nilSl)]),.w 15 118 14,.b 16 .neq 35 15 0,.m 17 16,.nf 18 17 0 3,.nl 19 17 18,.n 20 17 (.lenSl (.t 19)),.nb 21 17 .lss 3 20 1,.p 22 17 21,.m 23 22,.nf 24 23 1 3,.nl 25 23 24,.n 26 23 (.lenSl (.t 25)),.mn 27 23 0,.n 28 23 (.lenSl (.t 27)),.n 29 23 (.bin .neq false 3 (.t 26) (.t 28)),.p 30 23 29] (.cond (.t 30) (.q [.K 4 2] .ret) .skip)) (.seq (.q [.f 32 0 3,.l 33 32,.z 34 (.build [(.i 0),.nilSl,.nilSl] [(1,1,.t 33)]),.w 35 174 34,.m 31 35,.X 36 0 31,.X 37 1 31,.m 5 36,.m 6 37] (.q [.m 38 6,.b 39 .neq 35 38 0] (.cond (.t 39) (.q [.K 4 2] .ret) .skip))) (.seq (.q [.m 40 0,.s 41 40,.K 42 0] (.block 0 (.loop (.q [.c 43 .lss 3 42 41] (.seq (.cond (.t 43) .skip (.exit 0)) (.seq (.block 1 (.q [.m 44 42,.I 45 3 40 42,.L 46 3 45,.z 8 (.alloc [(.i 0),(.bool false),(.i 0)]),.m 7 44,.S 3 8 46] (.q [.f 47 1 3,.l 48 47,.m 49 7,.I 50 3 48 49,.L 51 3 50,.z 9 (.alloc [(.i 0),(.i 0),(.i 0)]),.S 3 9 51] (.seq (.q [.L 52 8 3,.L 53 3 9,.W 54 175 52 53,.z 55 (.un .not (.t 54)),.m 56 55,.nf 57 56 2 9,.nl 58 56 57,.nf 59 56 0 8,.nl 60 56 59,.n 61 56 (.bin .neq false 3 (.t 58) (.t 60)),.p 62 56 61] (.cond (.t 62) (.q [.K 4 2] .ret) .skip)) (.q [.f 63 0 3,.l 64 63,.f 65 0 9,.l 66 65,.I 67 3 64 66,.L 68 3 67,.z 10 (.alloc [(.i 0),(.i 0),(.bool false)]),.S 3 10 68] (.q [.f 69 1 10,.l 70 69,.b 71 .eql 3 70 1,.m 72 71,.y 73 72 (.loadN 3 (.t 8)),.y 74 72 (.w 172 [.t 73]),.y 75 72 (.un .not (.t 74)),.q 76 72 75,.m 77 76,.nf 78 77 1 10,.nl 79 77 78,.nb 80 77 .eql 3 79 2,.mn 81 77 80,.y 82 81 (.loadN 3 (.t 8)),.y 83 81 (.w 172 [.t 82]),.n 84 77 (.pick (.t 81) (.t 83) .F),.p 85 77 84,.m 86 85,.nf 87 86 1 8,.nl 88 86 87,.nf 89 86 2 10,.nl 90 86 89,.n 91 86 (.bin .neq false 4 (.t 88) (.t 90)),.p 92 86 91] (.cond (.t 92) (.q [.K 4 2] .ret) .skip))))))) (.ops [.b 93 .add 3 42 1,.m 42 93]))))))) (.seq (.q [.f 94 2 3,.L 95 6 94,.K 96 0] (.block 2 (.loop (.q [.b 97 .lss 3 96 2] (.seq (.cond (.t 97) .skip (.exit 2)) (.seq (.block 3 (.q [.m 98 96,.z 99 (.ixArr true 2 3 (.t 95) (.t 96)),.z 12 (.alloc [(.i 0),(.i 0),(.i 0)]),.m 11 98,.S 3 12 99] (.q [.L 100 8 3,.L 101 3 12,.W 102 175 100 101,.z 103 (.un .not (.t 102)),.m 104 103,.nf 105 104 0 3,.nl 106 104 105,.nf 107 104 0 12,.nl 108 104 107,.n 109 104 (.ixAddr 3 (.t 106) (.t 108)),.nf 110 104 1 109,.nl 111 104 110,.nb 112 104 .eql 3 111 1,.p 113 104 112,.m 114 113,.nf 115 114 0 3,.nl 116 114 115,.nf 117 114 0 12,.nl 118 114 117,.n 119 114 (.ixAddr 3 (.t 116) (.t 118)),.nf 120 114 2 119,.nl 121 114 120,.mn 122 114 11,.nb 123 114 .eql 3 122 1,.n 124 114 (.bin .neq false 4 (.t 121) (.t 123)),.p 125 114 124] (.cond (.t 125) (.q [.K 4 2] .ret) .skip)))) (.ops [.b 126 .add 3 96 1,.m 96 126]))))))) (.q [.K 4 0] .ret))))))
def r_expand_Check:Na Tryz.prog 125=some ⟨127,zd9.r,[.tmp 4]⟩:=Aa
def z4s:LC:=(.q [.x 3 1,.F 4] (.q [.f 5 1 3,.l 6 5,.b 7 .geq 3 6 0,.m 8 7,.yf 9 8 1 3,.yl 10 8 9,.my 11 8 0,.y 12 8 (.lenSl (.t 11)),.y 13 8 (.bin .lss false 3 (.t 10) (.t 12)),.q 14 8 13,.m 15 14,.my 16 15 0,.yf 17 15 1 3,.yl 18 15 17,.y 19 15 (.ixAddr 3 (.t 16) (.t 18)),.yf 20 15 1 19,.yl 21 15 20,.y 22 15 (.un .not (.t 21)),.q 23 15 22,.m 4 23] .ret))
def r_expand_Public:Na Tryz.prog 126=some ⟨24,z4s.r,[.tmp 4]⟩:=Aa
def zfe:LC:=(.q [.x 4 1,.x 5 2,.K 6 0,.z 7 (.alloc [(.i 0),(.i 0),(.i 0)])] (.seq (.q [.m 8 0,.L 9 7 4,.W 10 126 8 9] (.cond (.t 10) (.seq (.draw [(.f 11 2 5,[]),(.z 12 (.ixAddrArr 2 3 (.t 11) (.k 0)),[]),(.L 13 3 12,[]),(.K 6 16,[]),(.S 3 7 13,[])]) .ret) .skip)) (.seq (.draw [(.f 14 2 5,[]),(.z 15 (.ixAddrArr 2 3 (.t 14) (.k 1)),[]),(.L 16 3 15,[]),(.K 6 40,[]),(.S 3 7 16,[])]) .ret)))
def r_expand_Base:Na Tryz.prog 59=some ⟨17,zfe.r,[.tmp 6,.cellN 7 3]⟩:=Aa
def zd1:LC:=(.q [.x 6 1,.x 7 2,.F 10] (.seq (.q [.m 13 0,.L 14 8 7,.W 15 125 13 14,.b 16 .neq 35 15 0,.m 17 16,.mn 18 17 4,.nb 19 17 .lss 3 18 1,.p 20 17 19,.m 21 20,.mn 22 21 3,.nb 23 21 .lss 3 22 0,.p 24 21 23,.m 25 24,.mn 26 25 3,.nb 27 25 .gtr 3 26 4,.p 28 25 27] (.cond (.t 28) (.q [.F 10] .ret) .skip)) (.q [.m 30 0,.L 31 7 6,.L 32 8 7,.V 33 59 30 31 32,.m 29 33,.X 34 0 29,.X 35 1 29,.z 12 (.alloc [(.i 0),(.i 0),(.i 0)]),.m 11 34,.S 3 12 35] (.q [.m 36 4,.f 37 2 12,.l 38 37,.c 39 .leq 3 36 38,.m 10 39] .ret))))
def r_expand_Ready:Na Tryz.prog 58=some ⟨40,zd1.r,[.tmp 10]⟩:=Aa
def Qt(bs:List Bf)(z:List Pc)(g j:Pc):List LV:=[.lst (P8 bs) bs.length 3,.lst (Xe z) z.length 3,.i g.buf,.i g.at_,.i g.size,.i j.buf,.i j.at_,.i j.size]
def Pc.f_len(p:Pc):p.f.length=3:=rfl
def zen(l:List Pc):dats (Xe l)=true:=zec (λ_=>rfl) l
def zf5{l:List Pc}{i:Nat}{v:Pc}(h:l[i]?=some v):((Xe l).drop (i*3)).take 3=v.f:=zfn Pc.f_len h
def Wv{l:List Pc}{i:Nat}(h:i<l.length):i*3+3≤(Xe l).length:=W3 Pc.f_len h
def zom{l:List Pc}{n:Nat}(h:n<l.length):l[n]?=some (Pz l n):=by simp[Pz,Hy,h]
def zcj(bs:List Bf)(g:List Pc)(j z:Pc):dats (Qt bs g j z)=true:=by simp[Qt,dats,LV.dat,Tn,zen]
def ztk{l:List Bf}{f:Nat}{a b:List LV}{p:Bf→Bool}(T:l.length≤9223372036854775807)
  (P:∀v∈l,∀H:LV→M0→Prop,H (.bool (p v)) F→Ob (.fn f) (a++[.agg v.f]++b) F H) (k:X (.i (gc p l)) F):Ob (.fn 213) [.lst (P8 l) l.length 3,.fn (.func f) a b] F X:=by
 refine Nb r_slices_IndexFunc_api_Buf_api_Buf Aa (by simp) ?_;simp[z26];refine Po (λI R K N=>∃i:Nat,R=[]∧K=F∧N+i=l.length∧lk I 0=.lst (P8 l) l.length 3∧lk I 1=.fn (.func f) a b∧lk I 7=.i l.length∧lk I 8=.i i∧∀L b,L<i→l[L]?=some b→p b=false) (N:=l.length) ⟨0,by simp⟩ ?_;rintro N I R K ⟨i,rfl,rfl,U,j,z,A,B,C⟩ V D;by_cases hi:l.length≤i
 ·have G:¬i<l.length:=J
  simp[j,z,A,B,G];rw[←zvh hi C];exact k
 ·have G:i<l.length:=J
  have E:=H6 G;have Q:=zqk G;simp[j,z,A,B,G,zv0 E,Q];have M:=P l[i] (Ls G);simp only[Jg,List.singleton_append]at M;refine M _ ?_;cases O:p l[i] with
  |true =>
   simp;rw[←mh E O C];exact k
  |false =>
   simp[B];refine⟨J,D _ _ _ ⟨N-1,J,i+1,rfl,rfl,J,An,Ak,A7,by simp,λL b Y g=>?_⟩⟩;by_cases e:L=i
   ·subst e;rw[E]at g;cases g;exact O
   ·exact C L b J g
def zdh{l:List Bf}{f:Nat}{a b:List LV}{p:Bf→Bool}(j:l.length≤9223372036854775807)
  (z:∀v∈l,∀g:LV→M0→Prop,g (.bool (p v)) F→Ob (.fn f) (a++[.agg v.f]++b) F g) (k:X (.bool (l.any p)) F):Ob (.fn 200) [.lst (P8 l) l.length 3,.fn (.func f) a b] F X:=by
 refine Nb r_slices_ContainsFunc_api_Buf_api_Buf Aa N ?_;simp[z1y];refine ztk j z ?_;simp;rw[Y3];exact k
def zl3(b:Bf):Nj 201 [.agg b.f] (.bool (decide (65536<b.size))) []:=by
 refine Oj.val rfl (Nb r_limb_head_1 Aa N ?_);simp[zeh,Bf.f]
def zkx(b:Bf):Nj 202 [.agg b.f] (.bool (decide (b.size<1) || (decide (b.kind<1) || decide (3<b.kind)))) []:=by
 refine Oj.val rfl (Nb r_limb_head_2 Aa N ?_);by_cases g:b.size<1
 ·simp[z78,Bf.f,g]
 by_cases j:b.kind<1
 ·simp[z78,Bf.f,g,j]
 simp[z78,Bf.f,g,j]
def zqn(g:List Bf)(C:g.length≤9223372036854775807):Nj 196 [.agg [.i 0,.lst (P8 g) g.length 3,.nilSl]] (.i (ft g)) []:=by
 refine Oj.val rfl (Nb r_limb_head Aa N ?_);by_cases B:32<g.length
 ·have z:(32:Int)<g.length:=J
  simp[ze1,ft,B,z]
 have z:¬(32:Int)<g.length:=J
 simp[ze1,B,z];refine zdh (a:=[]) (b:=[]) (p:=λb=>decide (65536<b.size)) C (λv hv D k=>Nw (zl3 v) (bors_self _ rfl) k) ?_;by_cases A:(g.any λb=>decide (65536<b.size))=true
 ·simp only[ft,Hv B,H7 A];rw[A];simp
 simp only[ft,Hv B,Hv A];rw[Bool.not_eq_true]at A;rw[A];simp;generalize j:(g.any λb=>decide (b.size<1) || (decide (b.kind<1) || decide (3<b.kind)))=E;refine zdh (a:=[]) (b:=[]) (p:=λb=>decide (b.size<1) || (decide (b.kind<1) || decide (3<b.kind))) C (λv hv D k=>Nw (zkx v) (bors_self _ rfl) k) ?_;rw[j];cases E with
 |true =>
  simp at j ⊢;obtain⟨x,F,h⟩:=j;exact⟨x,F,λ_ _=>J⟩
 |false=>simp;simpa using j
def qw(a b:Bool):R6 Tryz.prog false 4 (.bool a) (.bool b)=some (a==b):=by cases a<;>cases b<;>kernel_rfl
def zed(g:List Bf)(E:g.length≤9223372036854775807):Nj 174 [.agg [.i 0,.lst (P8 g) g.length 3,.nilSl]] (.tup [.i 0,.i (ft g)]) []:=by
 refine Oj.val rfl (Nb r_limb_Check Aa (by simp) ?_);simp[zgp];refine Nw (zqn g E) (bors_self _ (by simp[dats,LV.dat,Tn])) ?_;by_cases h:ft g=0
 ·simp[h];refine Po (λD K F L=>K=[]∧lk D 1=.ptr 0 0∧lk D 5=.ptr 1 0∧lk D 19=.i 0∧lk D 20=.i 0∧F[0]?=some (.cells [.i 0,.lst (P8 g) g.length 3,.nilSl] 0)∧∃l st,F[1]?=some (.cells ((.i 0)::(.lst (P8 g) g.length 3)::.nilSl::l) st)∧l[64]?=some .nilSl) (N:=0) ⟨rfl,by simp,by simp,by simp,by simp,by simp,_,_,rfl,rfl⟩ ?_;rintro L D K F ⟨rfl,G,H,z,A,B,l,st,C,j⟩ M I;simp[G,H,z,A,B,C,Nh j]
 ·simp[h]
def z8n(j:List Bf)(H:List Pc)(I K x:Pc)(L:∀b∈j,b.size≤65536):Nj 175 [.agg (Qt j H I K),.agg x.f] (.bool (V5 j x)) []:=by
 refine Oj.val rfl (Nb r_expand_lies Aa N ?_);by_cases z:x.buf<0
 ·simp[z2h,Qt,Pc.f,V5,z];omega
 by_cases A:(j.length:Int)≤x.buf
 ·simp[z2h,Qt,Pc.f,V5,z,A];omega
 by_cases B:x.size<1
 ·simp[z2h,Qt,Pc.f,V5,z,A,B];omega
 by_cases C:32768<x.size
 ·simp[z2h,Qt,Pc.f,V5,z,A,B,C];omega
 by_cases D:x.at_<0
 ·simp[z2h,Qt,Pc.f,V5,z,A,B,C,D];omega
 obtain⟨n,E⟩:=Hz (J:0≤x.buf);have g:n<j.length:=J
 have F:=zgn (Sk g);have Q:=zqk g;have R:(0:Int)≤x.buf:=J
 have T:x.buf<(j.length:Int):=J
 have M:(1:Int)≤x.size:=J
 have O:x.size≤32768:=J
 have P:(0:Int)≤x.at_:=J
 by_cases G:x.at_≤(Ng j n).size
 ·simp[z2h,Qt,Pc.f,V5,z,A,B,C,D,E,g,Nh F,G];have:=L _ (Iq (Sk g));refine⟨λ_=>J,λq=>absurd q J,J,?_⟩;simp[M,O,P]
 ·simp[z2h,Qt,Pc.f,V5,z,A,B,C,D,E,g,Nh F,G]
def zfx(h:ft Z=0):∀b∈Z,b.size≤65536:=λb z=>by
 unfold ft at h;by_cases j:32<Z.length
 ·rw[H7 j]at h;omega
 by_cases g:(Z.any λb=>decide (65536<b.size))=true
 ·rw[Hv j,H7 g]at h;omega
 rw[Bool.not_eq_true,Li]at g;have:=g b z;simp at this;omega
def d9(g:List Vr)(j:List Bf)(z:List Pc)(A B:Pc):Int:=if Vj g j z A B=true then 0 else 2
def z7o{x:Pc}(h:V5 Z x=true):∃n:Nat,x.buf=n∧n<Z.length∧1≤x.size∧x.size≤32768∧0≤x.at_∧x.at_≤(Ng Z n).size∧x.size≤(Ng Z n).size-x.at_:=by
 simp only[V5,Hw,Ib]at h;obtain⟨A,E,B,C,D,g,j⟩:=h;obtain⟨n,z⟩:=Hz A;rw[z]at g j;exact⟨n,z,J,B,C,D,g,j⟩
def zj9(j:List Vr)(g:List Bf)(C:List Pc)(A B:Pc)(hv:j.length≤1000000)(hb:g.length≤9223372036854775807) :
  Nj 125 [.lst (Px j) j.length 3,.agg (Qt g C A B)] (.i (d9 j g C A B)) []:=by
 refine Oj.val rfl (Nb r_expand_Check Aa (by simp) ?_);have I:Vj j g C A B=false→d9 j g C A B=2:=λh=>by simp[d9,h]
 simp[zd9];refine zlg (args':=[.lst (Px j) j.length 3,.lst (Ul []) ([]:List Ko).length 7]) (λc r h=>?_) ?_
 ·cases h with
  |cons e1 es=>cases es with
   |cons e2 T=>exact .cons e1 (.cons (by cases e2;exact .lstNil) T)
 refine R0 (zaw j [] hv (by simp)) (by simp[dats,LV.dat,Tz,Ul]) ?_;rw[Ji];simp;refine Nw (zaq j (Ve 0 j) [] J) (bors_self _ (by simp[Rs,dats,LV.dat,Tz,zcf])) ?_;simp only[U8,zxs];cases gG:Sm j with
 |false=>simp;exact (I (by simp[Vj,gG])).symm
 |true =>
 by_cases g1:(g.length:Int)<1
 ·simp[Qt,g1];exact (I (by simp[Vj,(J:¬1≤g.length)])).symm
 by_cases g2:C.length=j.length
 case neg =>
  have gL:¬(C.length:Int)=(j.length:Int):=J
  simp[Qt,g1,g2,gL];exact (I (by simp[Vj,g2])).symm
 simp[Qt,g1,g2];refine Nw (zed g hb) (bors_self _ (by simp[dats,LV.dat,Tn])) ?_;by_cases g3:ft g=0
 case neg=>simp[g3];exact (I (by simp[Vj,g3])).symm
 simp[g3];have Z:∀b∈g,b.size≤65536:=zfx g3;refine Po (λρ gV gF N=>∃i:Nat,gV=[]∧N+i=j.length∧lk ρ 3=.ptr 0 0∧lk ρ 40=.lst (Px j) j.length 3∧lk ρ 41=.i j.length∧lk ρ 42=.i i∧0<gF.length∧gF[0]?=some (.cells (Qt g C A B) 0)∧∀gK,gK<i→eo g (gv j gK) (Pz C gK)=true) (N:=j.length)
  ⟨0,by simp[Qt,g2]⟩ ?_
 rintro N ρ gV gF ⟨i,rfl,hN,G,L,M,O,hl,hG,gg⟩ Nx U;by_cases gY:i<j.length
 ·have q3:=zeu (Vx gY);have hq:=zrn gY;have gp:i<C.length:=J
  have p3:=zf5 (zom gp);have gM:=Wv gp;have gO:(gv j i).f=[.i (gv j i).limbs,.bool (gv j i).sec,.i (gv j i).mode]:=rfl;have gP:(Pz C i).f=[.i (Pz C i).buf,.i (Pz C i).at_,.i (Pz C i).size]:=rfl;have no:eo g (gv j i) (Pz C i)=false→d9 j g C A B=2:=λh=>I (by
   have:((List.range j.length).all λi=>eo g (gv j i) (Pz C i))=false:=by
    rw[Mx];exact⟨i,J9.2 gY,by simp[h]⟩
   simp[Vj,this])
  have X:eo g (gv j i) (Pz C i)=true→∀D G',lk D 3=.ptr 0 0→lk D 40=.lst (Px j) j.length 3→lk D 41=.i j.length→lk D 42=.i ((i:Int)+1)→0<G'.length→G'[0]?=some (.cells (Qt g C A B) 0)→Nx D [] G':=λh D G' T gz gA gB el eG =>
   U _ _ _ ⟨N-1,J,i+1,rfl,J,T,gz,gA,by rw[gB];simp,el,eG,λgK hj=>by
    by_cases e:gK=i
    ·rw[e];exact h
    ·exact gg gK J⟩
  generalize gv j i=v at *;generalize Pz C i=x at *;have K:∀y:List LObj,(gF++y)[0]?=some _:=λy=>(Nz hl).trans hG
  simp[G,L,M,O,gY,gp,q3,p3,hq,gM,gO,gP,↓K,Qt];have Y:=z8n g C A B x Z;rw[Qt,Pc.f]at Y;refine Nw Y (bors_self _ Eh) ?_;cases F:V5 g x with
  |false=>simp;exact (no (by simp[eo,F])).symm
  |true =>
  obtain⟨n,Q,z,s1,s2,s3,s4,s5⟩:=z7o F;by_cases g4:x.size=v.limbs
  case neg=>simp[g4];exact (no (by simp[eo,g4])).symm
  have b3:=zv0 (Sk z);have gC:=zqk z;have gQ:(Ng g n).f=[.i (Ng g n).size,.i (Ng g n).kind,.bool (Ng g n).sec]:=rfl;have gR:eo g v x=(!(decide ((Ng g n).kind=1) && !Sc v)&&(!(decide ((Ng g n).kind=2)&&Sc v)&&(v.sec==(Ng g n).sec))):=by simp[eo,F,g4,Q]
  rw[gR]at no X;generalize Ng g n=b at *;simp[g4,G,↓K,Qt,Q,z,b3,gC,gQ];have gH:∀{G':M0} {K':LV→M0→Prop},K' (.bool (Sc v)) G'→Ob (.fn 172) [.agg [.i v.limbs,.bool v.sec,.i v.mode]] G' K':=λk=>Nw (zb9 v) (bors_self _ rfl) k
  have P:∀(h:(!(decide (b.kind=1) && !Sc v)&&(!(decide (b.kind=2)&&Sc v)&&(v.sec==b.sec)))=true) (D:M2) (x:List LObj),lk D 3=.ptr 0 0→lk D 40=.lst (Px j) j.length 3→lk D 41=.i j.length→lk D 42=.i ((i:Int)+1)→Nx D [] (gF++x):=λh D x T gz gA gB=>X h _ _ T gz gA gB Ab (K x)
  by_cases H:b.kind=1
  ·simp[H];refine gH ?_;cases hg:Sc v with
   |false=>simp[H,hg]at no ⊢;exact no.symm
   |true =>
    simp[H,hg]at no P ⊢;cases E:(v.sec==b.sec) with
    |false=>simp[qw,E]at no ⊢;exact (no Cc).symm
    |true =>
     simp[qw,E,O];refine⟨J,P Cc _ _ Bc D0 A9 (by simp)⟩
  ·by_cases k2:b.kind=2
   ·simp[k2];refine gH ?_;cases hg:Sc v with
    |true=>simp[k2,hg]at no ⊢;exact no.symm
    |false =>
     simp[k2,hg]at no P ⊢;cases E:(v.sec==b.sec) with
     |false=>simp[qw,E]at no ⊢;exact (no Cc).symm
     |true =>
      simp[qw,E,O];refine⟨J,P Cc _ _ Bc D0 A9 (by simp)⟩
   ·simp[H,k2]at no P ⊢;cases E:(v.sec==b.sec) with
    |false=>simp[qw,E]at no ⊢;exact (no Cc).symm
    |true =>
     simp[qw,E,O];refine⟨J,P Cc _ _ Bc D0 A9 (by simp)⟩
 ·have gi:i=j.length:=J
  subst gi;simp[G,L,M,O,hG,Qt];refine Po (λρ gV gF N=>∃i:Nat,gV=[]∧N+i=2∧lk ρ 3=.ptr 0 0∧lk ρ 95=.agg [.i A.buf,.i A.at_,.i A.size,.i B.buf,.i B.at_,.i B.size]∧lk ρ 96=.i i∧0<gF.length∧gF[0]?=some (.cells (Qt g C A B) 0)∧(0<i→V2 g false A=true)∧(1<i→V2 g true B=true)) (N:=2)
   ⟨0,rfl,rfl,Bc,by simp,by simp,hl,hG,λq=>absurd q J,λq=>absurd q J⟩ ?_
  clear G L M O hG hl;rintro N ρ gV gF ⟨i,rfl,gZ,G,V,R,hl,hG,gI,gT⟩ Nx U;have K:∀y:List LObj,(gF++y)[0]?=some _:=λy=>(Nz hl).trans hG
  have hi:i=0∨i=1∨i=2:=J
  rcases hi with rfl|rfl|rfl
  ·have no:V2 g false A=false→d9 j g C A B=2:=λh=>I (by simp[Vj,h])
   have X:V2 g false A=true→∀(D:M2) (y:List LObj),lk D 3=.ptr 0 0→lk D 95=.agg [.i A.buf,.i A.at_,.i A.size,.i B.buf,.i B.at_,.i B.size]→lk D 96=.i (0+1)→Nx D [] (gF++y):=λh D y T gD gE =>
    U _ _ _ ⟨N-1,J,0+1,rfl,J,T,gD,by rw[gE];rfl,Ab,K y,λ_=>h,λq=>absurd q J⟩
   simp[G,V,R,↓K,Qt];have Y:=z8n g C A B A Z;rw[Qt,Pc.f]at Y;refine Nw Y (bors_self _ Eh) ?_;cases F:V5 g A with
   |false=>simp;exact (no (by simp[V2,F])).symm
   |true =>
   obtain⟨n,Q,z,s1,s2,s3,s4,s5⟩:=z7o F;have b1:=zld (Sk z);have b2:=zug (Sk z);have gC:=zqk z;have hW:V2 g false A=(!decide ((Ng g n).kind=1)&&((Ng g n).sec==false)):=by simp[V2,F,Q]
   rw[hW]at no X;generalize Ng g n=b at *;by_cases H:b.kind=1
   ·simp[G,↓K,Qt,Q,z,Nh b1,Nh b2,H];exact (no Bg).symm
   cases E:b.sec with
   |true=>simp[G,↓K,Qt,Q,z,Nh b1,Nh b2,H,E,qw];exact (no Au).symm
   |false =>
    simp[G,↓K,Qt,Q,z,Nh b1,Nh b2,H,E,R,qw];exact X (by simp[H,E]) _ _ Bc (by simp[V]) (by simp)
  ·have no:V2 g true B=false→d9 j g C A B=2:=λh=>I (by simp[Vj,h])
   have X:V2 g true B=true→∀(D:M2) (y:List LObj),lk D 3=.ptr 0 0→lk D 95=.agg [.i A.buf,.i A.at_,.i A.size,.i B.buf,.i B.at_,.i B.size]→lk D 96=.i (1+1)→Nx D [] (gF++y):=λh D y T gD gE =>
    U _ _ _ ⟨N-1,J,1+1,rfl,J,T,gD,by rw[gE];rfl,Ab,K y,λ_=>gI J,λ_=>h⟩
   simp[G,V,R,↓K,Qt];have Y:=z8n g C A B B Z;rw[Qt,Pc.f]at Y;refine Nw Y (bors_self _ Eh) ?_;cases F:V5 g B with
   |false=>simp;exact (no (by simp[V2,F])).symm
   |true =>
   obtain⟨n,Q,z,s1,s2,s3,s4,s5⟩:=z7o F;have b1:=zld (Sk z);have b2:=zug (Sk z);have gC:=zqk z;have hW:V2 g true B=(!decide ((Ng g n).kind=1)&&((Ng g n).sec==true)):=by simp[V2,F,Q]
   rw[hW]at no X;generalize Ng g n=b at *;by_cases H:b.kind=1
   ·simp[G,↓K,Qt,Q,z,Nh b1,Nh b2,H];exact (no Bg).symm
   cases E:b.sec with
   |false=>simp[G,↓K,Qt,Q,z,Nh b1,Nh b2,H,E,qw];exact (no Au).symm
   |true =>
    simp[G,↓K,Qt,Q,z,Nh b1,Nh b2,H,E,R,qw];exact X (by simp[H,E]) _ _ Bc (by simp[V]) (by simp)
  ·simp[R];unfold d9;rw[H7];have gX:((List.range j.length).all λi=>eo g (gv j i) (Pz C i))=true:=Jx.2 λgK hj=>gg gK (J9.1 hj)
   have gU:1≤g.length:=J
   simp[Vj,gG,gU,g2,g3,gI J,gT J];intro gK hj;exact gg gK hj
def Tt(g:List Vr)(d:Int):Bool:=decide (0≤d)&&(decide (d<g.length) && !(gv g d.toNat).sec)
def zh7(j:List Vr)(o:Ko):Nj 126 [.lst (Px j) j.length 3,.agg o.f] (.bool (Tt j o.d)) []:=by
 refine Oj.val rfl (Nb r_expand_Public Aa N ?_);by_cases z:0≤o.d
 case neg=>simp[z4s,Ko.f,Tt,z]
 by_cases A:o.d<j.length
 case neg=>simp[z4s,Ko.f,Tt,z,A]
 obtain⟨n,B⟩:=Hz z;have g:n<j.length:=J
 have C:=ztt (Vx g);have D:=zrn g;simp[z4s,Ko.f,Tt,B,g,Nh C]
def Ti(g:List Vr)(o:Ko)(j z:Pc):Pc:=if Tt g o.d=true then j else z
def se(g:List Vr)(o:Ko):Int:=if Tt g o.d=true then 16 else 40
def zdk(g:List Vr)(o:Ko)(C:List Bf)(D:List Pc)(z A:Pc):Nj 59 [.lst (Px g) g.length 3,.agg o.f,.agg (Qt C D z A)] (.tup [.i (se g o),.agg (Ti g o z A).f]) []:=by
 refine Oj.val rfl (Nb r_expand_Base Aa N ?_);have j:o.f=[.i o.kind,.i o.d,.i o.e,.i o.a,.i o.b,.i o.c,.u o.imm]:=rfl;simp[zfe,j];rw[←j];refine Nw (zh7 g o) (bors_self _ (by simp[dats,LV.dat,Tz,j])) ?_;cases B:Tt g o.d with
 |true=>simp[Qt,Pc.f,se,Ti,B]
 |false=>simp[Qt,Pc.f,se,Ti,B]
def gh(j:List Vr)(o:Ko)(B:List Bf)(C:List Pc)(z A:Pc)(deep g:Int):Bool :=
 Vj j B C z A&&(decide (1≤g)&&(decide (0≤deep)&&(decide (deep≤4)&&decide (g≤(Ti j o z A).size))))
def zjw(D:List Vr)(o:Ko)(j:List Bf)(C:List Pc)(z A:Pc)(deep g:Int)(hv:D.length≤1000000)(K:j.length≤9223372036854775807) :
  Nj 58 [.lst (Px D) D.length 3,.agg o.f,.agg (Qt j C z A),.i deep,.i g] (.bool (gh D o j C z A deep g)) []:=by
 refine Oj.val rfl (Nb r_expand_Ready Aa N ?_);have H:o.f=[.i o.kind,.i o.d,.i o.e,.i o.a,.i o.b,.i o.c,.u o.imm]:=rfl;have B:Qt j C z A=[.lst (P8 j) j.length 3,.lst (Xe C) C.length 3,.i z.buf,.i z.at_,.i z.size,.i A.buf,.i A.at_,.i A.size]:=rfl;simp[zd1,B,H];rw[←B];refine Nw (zj9 D j C z A hv K) (bors_self _ (by simp[dats,LV.dat,Tz,zcj])) ?_;cases E:Vj D j C z A with
 |false=>simp[d9,E,gh]
 |true =>
 by_cases F:1≤g
 case neg=>simp[d9,E,gh,F]
 by_cases G:0≤deep
 case neg=>simp[d9,E,gh,F,G]
 by_cases I:deep≤4
 case neg=>simp[d9,E,gh,F,G,I]
 simp[d9,E,F,G,I,B];refine⟨λh=>J,λh=>J,λh=>J,?_⟩;rw[←H,←B];refine Nw (zdk D o j C z A) (bors_self _ (by simp[dats,LV.dat,Tz,zcj,H])) ?_;simp[Pc.f,gh,E,F,G,I]
section
def z95:LC:=(.ops [.m 18 0,.m 19 0,.N 20 19,.f 21 0 20,.l 22 21,.m 23 1,.m 24 2,.m 25 3,.m 26 4,.m 27 5,.m 28 6,.m 29 7,.m 30 8,.z 31 (.build [(.i 0),(.i 0),(.i 0),(.i 0),(.i 0),(.i 0),(.i 0),(.u 0)] [(0,1,.t 23),(1,1,.t 24),(2,1,.t 25),(3,1,.t 26),(4,1,.t 27),(5,1,.t 28),(6,1,.t 29),(7,1,.t 30)]),.z 32 (.buildSl 8 1 [(.i 0),(.i 0),(.i 0),(.i 0),(.i 0),(.i 0),(.i 0),(.u 0)] [(0,8,.t 31)]),.a 33 8 22 32,.N 34 18,.f 35 0 34,.S 1 35 33])
def r_expand_Emit_put:Na Tryz.prog 131=some ⟨36,z95.r,[]⟩:=Aa
def z81:LC:=(.ops [.m 6 0,.m 7 1,.m 8 2,.z 9 (.w 131 [.t 6,.k 1,.t 7,.k (-1),.k (-1),.k (-1),.k (-1),.k 0,.t 8])])
def r_expand_Emit_Const:Na Tryz.prog 69=some ⟨10,z81.r,[]⟩:=Aa
def z8f:LC:=(.ops [.m 6 0,.m 7 1,.m 8 2,.z 9 (.w 131 [.t 6,.k 2,.t 7,.k (-1),.t 8,.k (-1),.k (-1),.k 0,.c (.u 0)])])
def r_expand_Emit_Move:Na Tryz.prog 110=some ⟨10,z8f.r,[]⟩:=Aa
def z99:LC:=(.ops [.m 10 0,.m 11 1,.m 12 2,.m 13 3,.m 14 4,.z 15 (.w 131 [.t 10,.t 11,.t 12,.k (-1),.t 13,.t 14,.k (-1),.k 0,.c (.u 0)])])
def r_expand_Emit_Two:Na Tryz.prog 108=some ⟨16,z99.r,[]⟩:=Aa
def z7q:LC:=(.ops [.m 10 0,.m 11 1,.m 12 2,.m 13 3,.m 14 4,.z 15 (.cvInt .u64 (.t 14)),.z 16 (.w 131 [.t 10,.t 11,.t 12,.k (-1),.t 13,.k (-1),.k (-1),.k 0,.t 15])])
def r_expand_Emit_Shift:Na Tryz.prog 107=some ⟨17,z7q.r,[]⟩:=Aa
def z9i:LC:=(.ops [.m 10 0,.m 11 1,.m 12 2,.m 13 3,.m 14 4,.z 15 (.w 131 [.t 10,.k 10,.t 11,.t 12,.t 13,.t 14,.k (-1),.k 0,.c (.u 0)])])
def r_expand_Emit_Mul:Na Tryz.prog 132=some ⟨16,z9i.r,[]⟩:=Aa
def z7r:LC:=(.ops [.m 14 0,.m 15 1,.m 16 2,.m 17 3,.m 18 4,.m 19 5,.m 20 6,.z 21 (.w 131 [.t 14,.t 15,.t 16,.t 17,.t 18,.t 19,.t 20,.k 0,.c (.u 0)])])
def r_expand_Emit_Carry:Na Tryz.prog 104=some ⟨22,z7r.r,[]⟩:=Aa
def z8y:LC:=(.ops [.m 10 0,.m 11 1,.m 12 3,.m 13 4,.m 14 2,.z 15 (.w 131 [.t 10,.k 13,.t 11,.k (-1),.t 12,.t 13,.t 14,.k 0,.c (.u 0)])])
def r_expand_Emit_Sel:Na Tryz.prog 113=some ⟨16,z8y.r,[]⟩:=Aa
def z8h:LC:=(.q [.x 7 2] (.ops [.m 10 0,.m 11 1,.m 12 3,.f 13 0 7,.l 14 13,.f 15 1 7,.l 16 15,.m 17 4,.c 18 .add 3 16 17,.z 19 (.cvInt .u64 (.t 18)),.z 20 (.w 131 [.t 10,.k 14,.t 11,.k (-1),.t 12,.k (-1),.k (-1),.t 14,.t 19])]))
def r_expand_Emit_Load:Na Tryz.prog 70=some ⟨21,z8h.r,[]⟩:=Aa
def z7g:LC:=(.q [.x 6 1] (.ops [.m 10 0,.m 11 2,.m 12 4,.f 13 0 6,.l 14 13,.f 15 1 6,.l 16 15,.m 17 3,.c 18 .add 3 16 17,.z 19 (.cvInt .u64 (.t 18)),.z 20 (.w 131 [.t 10,.k 15,.k (-1),.k (-1),.t 11,.t 12,.k (-1),.t 14,.t 19])]))
def r_expand_Emit_Store:Na Tryz.prog 109=some ⟨21,z7g.r,[]⟩:=Aa
def z51:LC:=(.seq (.q [.m 7 1,.b 8 .lss 3 7 1] (.cond (.t 8) .ret .skip)) (.q [.m 9 0,.N 10 9,.f 11 1 10,.l 12 11,.m 6 12] (.q [.m 13 0,.m 14 6,.m 15 1,.z 16 (.cvInt .u64 (.t 15)),.z 17 (.w 131 [.t 13,.k 16,.t 14,.k (-1),.k (-1),.k (-1),.k (-1),.k 0,.t 16])] (.q [.m 18 0,.N 19 18,.f 20 1 19,.l 21 20,.b 22 .add 3 21 1,.N 23 18,.f 24 1 23,.S 1 24 22] (.q [.m 25 2,.m 26 6,.z 27 (.callV (.t 25) [.t 26])] (.q [.m 28 0,.N 29 28,.f 30 1 29,.l 31 30,.b 32 .sub 3 31 1,.N 33 28,.f 34 1 33,.S 1 34 32] (.ops [.m 35 0,.z 36 (.w 131 [.t 35,.k 17,.k (-1),.k (-1),.k (-1),.k (-1),.k (-1),.k 0,.c (.u 0)])])))))))
def r_expand_Emit_Loop:Na Tryz.prog 73=some ⟨37,z51.r,[]⟩:=Aa
def z8g:LC:=(.q [.x 3 0,.x 4 1,.x 5 2] (.ops [.l 6 3,.f 7 2 4,.l 8 7,.z 9 (.mkFunc 133 [] [.t 3,.t 4,.t 5]),.V 10 73 6 8 9]))
def r_expand_Emit_Fill:Na Tryz.prog 72=some ⟨11,z8g.r,[]⟩:=Aa
def z70:LC:=(.ops [.l 5 1,.L 6 3 2,.m 7 0,.l 8 3,.z 9 (.w 109 [.t 5,.t 6,.t 7,.k 0,.t 8])])
def r_expand_Emit_Fill_1:Na Tryz.prog 133=some ⟨10,z70.r,[]⟩:=Aa
def zex:LC:=(.q [.x 3 0,.z 6 (.alloc [(.i 0),(.i 0),(.i 0)])] (.q [.f 7 0 3,.l 8 7,.f 9 1 3,.l 10 9,.m 11 1,.c 12 .add 3 10 11,.m 13 2,.z 14 (.build [(.i 0),(.i 0),(.i 0)] [(0,1,.t 8),(1,1,.t 12),(2,1,.t 13)]),.S 3 6 14] .ret))
def r_expand_Part:Na Tryz.prog 68=some ⟨15,zex.r,[.cellN 6 3]⟩:=Aa
section emit
variable {G : M0} {K : LV → M0 → Prop} {e : Nat} {ops : List Lo} {deep : Int}
def zmn{st:Nat}{v:LV}{L:List Lo}(M:G[e]?=some (.cells [v,.i deep] st))(O:Py 0 G v 8 ops.length (Pm ops))(V:ops.length≤1000000)
  (k:∀(z:LV) (j:M0),z.cells=some [z]→j[e]?=some (.cells [v,.i deep] st)→Nl (j.set e (.cells [z,.i deep] (st+1))) e (ops++L) deep→Kp e G (j.set e (.cells [z,.i deep] (st+1)))→(∀(q:Nat) (g:LObj),(∀R m k st,g≠LObj.dyn R m 8 k st)→G[q]?=some g→j[q]?=some g)→X z j):Pf G 8 v L.length (Pm L) X:=by
 have Y:e<G.length:=(Hu.1 M).1;refine Py.push2 O J J J (zz1 L) (Ug L) λz j B D E Q T=>?_
 have A:∀(q:Nat) (g:LObj),(∀R m k st,g≠LObj.dyn R m 8 k st)→G[q]?=some g→j[q]?=some g:=λq g ho C=>by
  have F:=(Hu.1 C).1;rw[D q F (λZ r=>?_)]
  ·exact C
  ·obtain⟨R,m,k,st,P⟩:=O.row r;rw[C]at P;exact ho _ _ _ _ (Option.some.inj P)
 have H:=A e _ (λ_ _ _ _ q=>Eu) M;have I:e<j.length:=(Hu.1 H).1;refine k z j B.cells H ⟨st+1,z,H0 I,?_⟩ ⟨Cc,λq g C ho U=>?_⟩ A
 ·rw[znf,H8];exact B.set_cells H
 ·rw[Hx (Ne.symm C)];exact A q g ho U
def ij{d a b c:Int}(h:Nl G e ops deep)(E:ops.length≤1000000)(k:∀g,Nl g e (ops++[⟨z,d,B,a,b,c,V,U⟩]) deep→Kp e G g→K (.tup []) g) :
  Ob (.fn 131) [.ptr e 0,.i z,.i d,.i B,.i a,.i b,.i c,.i V,.u U] G K:=by
 obtain⟨st,v,j,F⟩:=h;have H:e<G.length:=(Hu.1 j).1;refine Nb r_expand_Emit_put Aa N ?_;have A:∀x,Kp e G (G++x):=λx=>Kp.app' e G x
 have C:∀x:List LObj,(G++x)[e]?=some (.cells [v,.i deep] st):=λx=>(M6 H).trans j
 simp[z95,j];refine zmn (L:=[⟨z,d,B,a,b,c,V,U⟩]) (C _) F.push_end E λP Q D I M O _=>?_
 simp[-LV.cells,D,I];exact k _ M ((A _).trans O)
def W8{d:Int}{n:UInt64}(h:Nl G e ops deep)(j:ops.length≤1000000)(k:∀g,Nl g e (ops++[cK d n]) deep→Kp e G g→K (.tup []) g):Ob (.fn 69) [.ptr e 0,.i d,.u n] G K:=by
 refine Nb r_expand_Emit_Const Aa N ?_;simp[z81];refine ij h j λg z A=>?_
 simpa using k g z A
def zce{d a:Int}(h:Nl G e ops deep)(j:ops.length≤1000000)(k:∀g,Nl g e (ops++[Qk d a]) deep→Kp e G g→K (.tup []) g):Ob (.fn 110) [.ptr e 0,.i d,.i a] G K:=by
 refine Nb r_expand_Emit_Move Aa N ?_;simp[z8f];refine ij h j λg z A=>?_
 simpa using k g z A
def Xz{d a b:Int}(h:Nl G e ops deep)(j:ops.length≤1000000)(k:∀g,Nl g e (ops++[M1 z d a b]) deep→Kp e G g→K (.tup []) g):Ob (.fn 108) [.ptr e 0,.i z,.i d,.i a,.i b] G K:=by
 refine Nb r_expand_Emit_Two Aa N ?_;simp[z99];refine ij h j λg A B=>?_
 simpa using k g A B
def z7u{d a:Int}(h:Nl G e ops deep)(j:ops.length≤1000000)(k:∀g,Nl g e (ops++[Qu z d a B]) deep→Kp e G g→K (.tup []) g):Ob (.fn 107) [.ptr e 0,.i z,.i d,.i a,.i B] G K:=by
 refine Nb r_expand_Emit_Shift Aa N ?_;simp[z7q];refine ij h j λg A C=>?_
 simpa using k g A C
def zke{hi a b:Int}(h:Nl G e ops deep)(j:ops.length≤1000000)(k:∀g,Nl g e (ops++[Np hi z a b]) deep→Kp e G g→K (.tup []) g):Ob (.fn 132) [.ptr e 0,.i hi,.i z,.i a,.i b] G K:=by
 refine Nb r_expand_Emit_Mul Aa N ?_;simp[z9i];refine ij h j λg A B=>?_
 simpa using k g A B
def z6i{d a b c:Int}(h:Nl G e ops deep)(j:ops.length≤1000000)(k:∀g,Nl g e (ops++[Ni z d B a b c]) deep→Kp e G g→K (.tup []) g):Ob (.fn 104) [.ptr e 0,.i z,.i d,.i B,.i a,.i b,.i c] G K:=by
 refine Nb r_expand_Emit_Carry Aa N ?_;simp[z7r];refine ij h j λg A C=>?_
 simpa using k g A C
def znl{d c a b:Int}(h:Nl G e ops deep)(j:ops.length≤1000000)(k:∀g,Nl g e (ops++[Ns d c a b]) deep→Kp e G g→K (.tup []) g):Ob (.fn 113) [.ptr e 0,.i d,.i c,.i a,.i b] G K:=by
 refine Nb r_expand_Emit_Sel Aa N ?_;simp[z8y];refine ij h j λg z A=>?_
 simpa using k g z A
def Tg{d i:Int}{p:Pc}(C:-1000000000≤p.at_+z∧p.at_+z≤1000000000)(h:Nl G e ops deep)(j:ops.length≤1000000)(k:∀g,Nl g e (ops++[M9 d p i z]) deep→Kp e G g→K (.tup []) g):Ob (.fn 70) [.ptr e 0,.i d,.agg p.f,.i i,.i z] G K:=by
 refine Nb r_expand_Emit_Load Aa N ?_;simp[z8h,Pc.f]
 repeat (refine⟨J,?_⟩)
 refine ij (h.app _) j λg A B=>?_
 simpa using k g A ((Kp.app' _ _ _).trans B)
def Ux{i b:Int}{p:Pc}(C:-1000000000≤p.at_+z∧p.at_+z≤1000000000)(h:Nl G e ops deep)(j:ops.length≤1000000)(k:∀g,Nl g e (ops++[Nd p i z b]) deep→Kp e G g→K (.tup []) g):Ob (.fn 109) [.ptr e 0,.agg p.f,.i i,.i z,.i b] G K:=by
 refine Nb r_expand_Emit_Store Aa N ?_;simp[z7g,Pc.f]
 repeat (refine⟨J,?_⟩)
 refine ij (h.app _) j λg A B=>?_
 simpa using k g A ((Kp.app' _ _ _).trans B)
def zuf{f:Nat}{cap:List LV}(hd:0≤deep∧deep≤100)(h:Nl G e ops deep)(Y:ops.length≤1000000)(Z:z<1→K (.tup []) G)
  (k1:1≤z→∀D,Nl D e (ops++[S4 deep z]) (deep+1)→Kp e G D→Ob (.fn f) (E++.i deep::cap) D λ_ I=>∃g,g.length≤1000000∧Nl I e g (deep+1)∧∀F,Nl F e (g++[Um]) deep→Kp e I F→K (.tup []) F) :
  Ob (.fn 73) [.ptr e 0,.i z,.fn (.func f) E cap] G K:=by
 refine Nb r_expand_Emit_Loop Aa N ?_;by_cases gg:z<1
 ·simpa [z51,gg] using Z gg
 obtain⟨st,v,h1,h2⟩:=id h;simp[z51,gg,h1];refine ij h Y λD e1 L=>?_
 obtain⟨H,V,A,M⟩:=e1;simp[A];have O:e<D.length:=(Hu.1 A).1;refine⟨J,?_⟩;have j:∀(a:M0) (X:LObj),Kp e a (a.set e X):=λa X=>⟨N,λq o hq _ ho=>by rw[Hx (Ne.symm hq)];exact ho⟩
 have B:=k1 J (D.set e (.cells [V,.i (deep+1)] (H+1))) ⟨H+1,V,H0 O,M.set_cells A⟩ (L.trans (j _ _));refine B.mono λw I hw=>?_
 obtain⟨g,P,e2,k2⟩:=hw;obtain⟨Q,v2,C,R⟩:=e2;simp[C];have T:e<I.length:=(Hu.1 C).1;refine⟨J,?_⟩;refine ij (deep:=deep) ⟨Q+1,v2,H0 T,R.set_cells C⟩ P λF e3 U=>?_
 simpa using k2 F e3 ((j _ _).trans U)
end emit
end
def z7z:LC:=(.q [.m 9 2,.b 10 .add 3 9 1,.m 11 2,.b 12 .add 3 11 2,.m 13 2,.b 14 .add 3 13 3,.m 6 10,.m 7 12,.m 8 14] (.q [.m 15 0,.m 16 8,.z 17 (.w 69 [.t 15,.t 16,.c (.u 3)])] (.q [.m 18 0,.m 19 6,.m 20 2,.m 21 1,.m 22 8,.z 23 (.w 132 [.t 18,.t 19,.t 20,.t 21,.t 22])] (.q [.m 24 0,.m 25 8,.z 26 (.w 69 [.t 24,.t 25,.c (.u 2)])] (.q [.m 27 0,.m 28 2,.m 29 2,.m 30 8,.z 31 (.w 108 [.t 27,.k 7,.t 28,.t 29,.t 30])] (.seq (.q [.K 32 0] (.block 0 (.loop (.q [.b 33 .lss 3 32 5] (.seq (.cond (.t 33) .skip (.exit 0)) (.seq (.block 1 (.q [.m 34 0,.m 35 6,.m 36 7,.m 37 1,.m 38 2,.z 39 (.w 132 [.t 34,.t 35,.t 36,.t 37,.t 38])] (.q [.m 40 0,.m 41 7,.m 42 8,.m 43 7,.z 44 (.w 108 [.t 40,.k 4,.t 41,.t 42,.t 43])] (.ops [.m 45 0,.m 46 6,.m 47 2,.m 48 2,.m 49 7,.z 50 (.w 132 [.t 45,.t 46,.t 47,.t 48,.t 49])])))) (.ops [.b 51 .add 3 32 1,.m 32 51]))))))) (.q [.m 52 0,.m 53 8,.z 54 (.w 69 [.t 52,.t 53,.c (.u 0)])] (.ops [.m 55 0,.m 56 2,.m 57 8,.m 58 2,.z 59 (.w 108 [.t 55,.k 4,.t 56,.t 57,.t 58])]))))))))
def r_montgomery_reckon:Na Tryz.prog 71=some ⟨60,z7z.r,[]⟩:=Aa
def zuo{v:LV}{l:List LV}{n e:Nat}(h:bor F v (.lst l n e)):O5 F v (.lst l n e):=by
 cases v<;>first|exact h|(simp[LV.dat]at h)
def zw0{e:Nat}{ops:List Lo}{deep n r:Int}(hr:0≤r∧r≤1000)(h:Nl F e ops deep)(hl:ops.length≤900000)(k:∀I,Nl I e (ops++Uk n r) deep→Kp e F I→X (.tup []) I):Ob (.fn 71) [.ptr e 0,.i n,.i r] F X:=by
 refine Nb r_montgomery_reckon Aa (by simp) ?_;simp[z7z]
 repeat (refine⟨J,?_⟩)
 refine W8 h J λG1 Z K=>?_
 simp;refine zke Z Ab λG2 h2 L=>?_
 simp;refine W8 h2 Ab λG3 h3 M=>?_
 simp;refine Xz h3 Ab λG4 h4 j=>?_
 simp;have j:=K.trans (L.trans (M.trans j));refine Po (λR gg I N=>∃i:Nat,gg=[]∧N+i=5∧lk R 0=.ptr e 0∧lk R 1=.i n∧lk R 2=.i r∧lk R 6=.i (r+1)∧lk R 7=.i (r+2)∧lk R 8=.i (r+3)∧lk R 32=.i i∧Nl I e (ops++(fp n r++Xp n r i)) deep∧Kp e F I) (N:=5)
  ⟨0,rfl,J,by simp,by simp,by simp,by simp,by simp,by simp,by simp,by simpa [fp,Xp] using h4,j⟩ ?_
 clear Z h2 h3 h4 K L M j;rintro N R gg G5 ⟨i,rfl,hN,z,A,B,C,D,E,g,h5,O⟩ Nx T;have P:(Xp n r i).length=3*i:=zkf n r i;have Q:(fp n r).length=4:=rfl;by_cases gz:i<5
 ·have g':(i:Int)<5:=J
  simp[z,A,B,C,D,E,g,g'];refine zke h5 C7 λG6 U G=>?_
  simp[z,A,B,C,D,E,g];refine Xz U C7 λG7 V H=>?_
  simp[z,A,B,C,D,E,g];refine zke V C7 λG8 h8 Y=>?_
  simp[z,A,B,C,D,E,g];refine⟨J,T _ _ _ ⟨N-1,J,i+1,rfl,J,Ak,A7,Aw,As,Av,Au,by simp,?_,O.trans (G.trans (H.trans Y))⟩⟩;rw[zci];simpa [zpk] using h8
 ·have hi:i=5:=J
  subst hi;simp[z,A,B,C,D,E,g];refine W8 h5 C7 λG6 U G=>?_
  simp[z,A,B,C,D,E,g];refine Xz U C7 λG7 V H=>?_
  simp;refine k G7 ?_ (O.trans (G.trans H));simpa [Uk] using V
section
def z4o:LC:=(.seq (.draw [(.m 6 0,[]),(.N 7 6,[]),(.f 8 0 7,[]),(.l 9 8,[]),(.m 10 0,[]),(.N 11 10,[]),(.f 12 21 11,[]),(.l 13 12,[]),(.m 14 0,[]),(.N 15 14,[]),(.f 16 22 15,[]),(.l 17 16,[]),(.m 18 1,[]),(.m 19 2,[]),(.z 20 (.w 132 [.t 9,.t 13,.t 17,.t 18,.t 19]),[])]) (.seq (.draw [(.m 21 0,[]),(.N 22 21,[]),(.f 23 0 22,[]),(.l 24 23,[]),(.m 25 0,[]),(.N 26 25,[]),(.f 27 22 26,[]),(.l 28 27,[]),(.m 29 0,[]),(.N 30 29,[]),(.f 31 24 30,[]),(.l 32 31,[]),(.m 33 0,[]),(.N 34 33,[]),(.f 35 22 34,[]),(.l 36 35,[]),(.m 37 0,[]),(.N 38 37,[]),(.f 39 23 38,[]),(.l 40 39,[]),(.m 41 0,[]),(.N 42 41,[]),(.f 43 16 42,[]),(.l 44 43,[]),(.z 45 (.w 104 [.t 24,.k 11,.t 28,.t 32,.t 36,.t 40,.t 44]),[])]) (.seq (.draw [(.m 46 0,[]),(.N 47 46,[]),(.f 48 0 47,[]),(.l 49 48,[]),(.m 50 0,[]),(.N 51 50,[]),(.f 52 22 51,[]),(.l 53 52,[]),(.m 54 0,[]),(.N 55 54,[]),(.f 56 25 55,[]),(.l 57 56,[]),(.m 58 0,[]),(.N 59 58,[]),(.f 60 22 59,[]),(.l 61 60,[]),(.m 62 0,[]),(.N 63 62,[]),(.f 64 19 63,[]),(.l 65 64,[]),(.m 66 0,[]),(.N 67 66,[]),(.f 68 16 67,[]),(.l 69 68,[]),(.z 70 (.w 104 [.t 49,.k 11,.t 53,.t 57,.t 61,.t 65,.t 69]),[])]) (.seq (.draw [(.m 71 0,[]),(.N 72 71,[]),(.f 73 0 72,[]),(.l 74 73,[]),(.m 75 0,[]),(.N 76 75,[]),(.f 77 21 76,[]),(.l 78 77,[]),(.m 79 0,[]),(.N 80 79,[]),(.f 81 21 80,[]),(.l 82 81,[]),(.m 83 0,[]),(.N 84 83,[]),(.f 85 24 84,[]),(.l 86 85,[]),(.z 87 (.w 108 [.t 74,.k 3,.t 78,.t 82,.t 86]),[])]) (.draw [(.m 88 0,[]),(.N 89 88,[]),(.f 90 0 89,[]),(.l 91 90,[]),(.m 92 0,[]),(.N 93 92,[]),(.f 94 19 93,[]),(.l 95 94,[]),(.m 96 0,[]),(.N 97 96,[]),(.f 98 21 97,[]),(.l 99 98,[]),(.m 100 0,[]),(.N 101 100,[]),(.f 102 25 101,[]),(.l 103 102,[]),(.z 104 (.w 108 [.t 91,.k 3,.t 95,.t 99,.t 103]),[])])))))
def r_montgomery_product_sum:Na Tryz.prog 135=some ⟨105,z4o.r,[]⟩:=Aa
def z4n:LC:=(.seq (.draw [(.m 2 0,[]),(.N 3 2,[]),(.f 4 0 3,[]),(.l 5 4,[]),(.m 6 0,[]),(.N 7 6,[]),(.f 8 23 7,[]),(.l 9 8,[]),(.m 10 0,[]),(.N 11 10,[]),(.f 12 13 11,[]),(.L 13 3 12,[]),(.m 14 0,[]),(.N 15 14,[]),(.f 16 10 15,[]),(.f 17 2 16,[]),(.l 18 17,[]),(.z 19 (.w 70 [.t 5,.t 9,.t 13,.k (-1),.t 18]),[])]) (.draw [(.m 20 0,[]),(.N 21 20,[]),(.f 22 0 21,[]),(.l 23 22,[]),(.m 24 0,[]),(.N 25 24,[]),(.f 26 23 25,[]),(.l 27 26,[]),(.m 28 0,[]),(.N 29 28,[]),(.f 30 24 29,[]),(.l 31 30,[]),(.m 32 0,[]),(.N 33 32,[]),(.f 34 23 33,[]),(.l 35 34,[]),(.m 36 0,[]),(.N 37 36,[]),(.f 38 19 37,[]),(.l 39 38,[]),(.m 40 0,[]),(.N 41 40,[]),(.f 42 16 41,[]),(.l 43 42,[]),(.z 44 (.w 104 [.t 23,.k 11,.t 27,.t 31,.t 35,.t 39,.t 43]),[])]))
def r_montgomery_product_top:Na Tryz.prog 136=some ⟨45,z4n.r,[]⟩:=Aa
def z41:LC:=(.q [.x 2 0] (.seq (.draw [(.l 4 2,[]),(.N 5 4,[]),(.f 6 0 5,[]),(.l 7 6,[]),(.l 8 2,[]),(.N 9 8,[]),(.f 10 18 9,[]),(.l 11 10,[]),(.l 12 2,[]),(.N 13 12,[]),(.f 14 7 13,[]),(.L 15 3 14,[]),(.m 16 1,[]),(.z 17 (.w 70 [.t 7,.t 11,.t 15,.t 16,.k 0]),[])]) (.seq (.draw [(.l 18 2,[]),(.N 19 18,[]),(.f 20 0 19,[]),(.l 21 20,[]),(.l 22 2,[]),(.N 23 22,[]),(.f 24 19 23,[]),(.l 25 24,[]),(.z 26 (.w 69 [.t 21,.t 25,.c (.u 0)]),[])]) (.seq (.draw [(.l 27 2,[]),(.N 28 27,[]),(.f 29 0 28,[]),(.l 30 29,[]),(.l 31 2,[]),(.N 32 31,[]),(.f 33 10 32,[]),(.f 34 2 33,[]),(.l 35 34,[]),(.z 36 (.mkFunc 134 [] [.t 2]),[]),(.V 37 73 30 35 36,[])]) (.q [.l 38 2,.w 39 136 38] (.seq (.draw [(.l 40 2,[]),(.N 41 40,[]),(.f 42 0 41,[]),(.l 43 42,[]),(.l 44 2,[]),(.N 45 44,[]),(.f 46 13 45,[]),(.L 47 3 46,[]),(.l 48 2,[]),(.N 49 48,[]),(.f 50 10 49,[]),(.f 51 2 50,[]),(.l 52 51,[]),(.l 53 2,[]),(.N 54 53,[]),(.f 55 23 54,[]),(.l 56 55,[]),(.z 57 (.w 109 [.t 43,.t 47,.k (-1),.t 52,.t 56]),[])]) (.draw [(.l 58 2,[]),(.N 59 58,[]),(.f 60 0 59,[]),(.l 61 60,[]),(.l 62 2,[]),(.N 63 62,[]),(.f 64 13 63,[]),(.L 65 3 64,[]),(.l 66 2,[]),(.N 67 66,[]),(.f 68 10 67,[]),(.f 69 2 68,[]),(.l 70 69,[]),(.b 71 .add 3 70 1,[]),(.l 72 2,[]),(.N 73 72,[]),(.f 74 24 73,[]),(.l 75 74,[]),(.z 76 (.w 109 [.t 61,.t 65,.k (-1),.t 71,.t 75]),[])])))))))
def r_montgomery_product_times:Na Tryz.prog 75=some ⟨77,z41.r,[]⟩:=Aa
def z3c:LC:=(.seq (.draw [(.l 3 1,[]),(.N 4 3,[]),(.f 5 0 4,[]),(.l 6 5,[]),(.l 7 1,[]),(.N 8 7,[]),(.f 9 20 8,[]),(.l 10 9,[]),(.l 11 1,[]),(.N 12 11,[]),(.f 13 4 12,[]),(.L 14 3 13,[]),(.m 15 0,[]),(.z 16 (.w 70 [.t 6,.t 10,.t 14,.t 15,.k 0]),[])]) (.seq (.draw [(.l 17 1,[]),(.N 18 17,[]),(.f 19 0 18,[]),(.l 20 19,[]),(.l 21 1,[]),(.N 22 21,[]),(.f 23 23 22,[]),(.l 24 23,[]),(.l 25 1,[]),(.N 26 25,[]),(.f 27 13 26,[]),(.L 28 3 27,[]),(.m 29 0,[]),(.z 30 (.w 70 [.t 20,.t 24,.t 28,.t 29,.k 0]),[])]) (.seq (.draw [(.l 31 1,[]),(.l 32 1,[]),(.N 33 32,[]),(.f 34 20 33,[]),(.l 35 34,[]),(.l 36 1,[]),(.N 37 36,[]),(.f 38 18 37,[]),(.l 39 38,[]),(.V 40 135 31 35 39,[])]) (.draw [(.l 41 1,[]),(.N 42 41,[]),(.f 43 0 42,[]),(.l 44 43,[]),(.l 45 1,[]),(.N 46 45,[]),(.f 47 13 46,[]),(.L 48 3 47,[]),(.m 49 0,[]),(.l 50 1,[]),(.N 51 50,[]),(.f 52 22 51,[]),(.l 53 52,[]),(.z 54 (.w 109 [.t 44,.t 48,.t 49,.k 0,.t 53]),[])]))))
def r_montgomery_product_times_1:Na Tryz.prog 134=some ⟨55,z3c.r,[]⟩:=Aa
def z45:LC:=(.q [.x 1 0] (.q [.l 3 1,.N 4 3,.f 5 10 4,.f 6 2 5,.l 7 6,.m 2 7] (.seq (.draw [(.l 8 1,[]),(.N 9 8,[]),(.f 10 0 9,[]),(.l 11 10,[]),(.l 12 1,[]),(.N 13 12,[]),(.f 14 23 13,[]),(.l 15 14,[]),(.l 16 1,[]),(.N 17 16,[]),(.f 18 13 17,[]),(.L 19 3 18,[]),(.z 20 (.w 70 [.t 11,.t 15,.t 19,.k (-1),.k 0]),[])]) (.seq (.draw [(.l 21 1,[]),(.N 22 21,[]),(.f 23 0 22,[]),(.l 24 23,[]),(.l 25 1,[]),(.N 26 25,[]),(.f 27 21 26,[]),(.l 28 27,[]),(.l 29 1,[]),(.N 30 29,[]),(.f 31 26 30,[]),(.l 32 31,[]),(.l 33 1,[]),(.N 34 33,[]),(.f 35 23 34,[]),(.l 36 35,[]),(.l 37 1,[]),(.N 38 37,[]),(.f 39 17 38,[]),(.l 40 39,[]),(.z 41 (.w 132 [.t 24,.t 28,.t 32,.t 36,.t 40]),[])]) (.seq (.draw [(.l 42 1,[]),(.N 43 42,[]),(.f 44 0 43,[]),(.l 45 44,[]),(.l 46 1,[]),(.N 47 46,[]),(.f 48 20 47,[]),(.l 49 48,[]),(.l 50 1,[]),(.N 51 50,[]),(.f 52 10 51,[]),(.L 53 3 52,[]),(.z 54 (.w 70 [.t 45,.t 49,.t 53,.k (-1),.k 0]),[])]) (.seq (.draw [(.l 55 1,[]),(.N 56 55,[]),(.f 57 0 56,[]),(.l 58 57,[]),(.l 59 1,[]),(.N 60 59,[]),(.f 61 19 60,[]),(.l 62 61,[]),(.z 63 (.w 69 [.t 58,.t 62,.c (.u 0)]),[])]) (.seq (.draw [(.l 64 1,[]),(.l 65 1,[]),(.N 66 65,[]),(.f 67 26 66,[]),(.l 68 67,[]),(.l 69 1,[]),(.N 70 69,[]),(.f 71 20 70,[]),(.l 72 71,[]),(.V 73 135 64 68 72,[])]) (.q [.l 74 1,.N 75 74,.f 76 0 75,.l 77 76,.m 78 2,.b 79 .sub 3 78 1,.z 80 (.mkFunc 137 [] [.t 1]),.V 81 73 77 79 80] (.q [.l 82 1,.w 83 136 82] (.seq (.draw [(.l 84 1,[]),(.N 85 84,[]),(.f 86 0 85,[]),(.l 87 86,[]),(.l 88 1,[]),(.N 89 88,[]),(.f 90 13 89,[]),(.L 91 3 90,[]),(.m 92 2,[]),(.b 93 .sub 3 92 1,[]),(.l 94 1,[]),(.N 95 94,[]),(.f 96 23 95,[]),(.l 97 96,[]),(.z 98 (.w 109 [.t 87,.t 91,.k (-1),.t 93,.t 97]),[])]) (.seq (.draw [(.l 99 1,[]),(.N 100 99,[]),(.f 101 0 100,[]),(.l 102 101,[]),(.l 103 1,[]),(.N 104 103,[]),(.f 105 23 104,[]),(.l 106 105,[]),(.l 107 1,[]),(.N 108 107,[]),(.f 109 13 108,[]),(.L 110 3 109,[]),(.m 111 2,[]),(.b 112 .add 3 111 1,[]),(.z 113 (.w 70 [.t 102,.t 106,.t 110,.k (-1),.t 112]),[])]) (.seq (.draw [(.l 114 1,[]),(.N 115 114,[]),(.f 116 0 115,[]),(.l 117 116,[]),(.l 118 1,[]),(.N 119 118,[]),(.f 120 23 119,[]),(.l 121 120,[]),(.l 122 1,[]),(.N 123 122,[]),(.f 124 23 123,[]),(.l 125 124,[]),(.l 126 1,[]),(.N 127 126,[]),(.f 128 24 127,[]),(.l 129 128,[]),(.z 130 (.w 108 [.t 117,.k 3,.t 121,.t 125,.t 129]),[])]) (.draw [(.l 131 1,[]),(.N 132 131,[]),(.f 133 0 132,[]),(.l 134 133,[]),(.l 135 1,[]),(.N 136 135,[]),(.f 137 13 136,[]),(.L 138 3 137,[]),(.m 139 2,[]),(.l 140 1,[]),(.N 141 140,[]),(.f 142 23 141,[]),(.l 143 142,[]),(.z 144 (.w 109 [.t 134,.t 138,.k (-1),.t 139,.t 143]),[])])))))))))))))
def r_montgomery_product_down:Na Tryz.prog 76=some ⟨145,z45.r,[]⟩:=Aa
def z3s:LC:=(.seq (.draw [(.l 3 1,[]),(.N 4 3,[]),(.f 5 0 4,[]),(.l 6 5,[]),(.l 7 1,[]),(.N 8 7,[]),(.f 9 20 8,[]),(.l 10 9,[]),(.l 11 1,[]),(.N 12 11,[]),(.f 13 10 12,[]),(.L 14 3 13,[]),(.m 15 0,[]),(.z 16 (.w 70 [.t 6,.t 10,.t 14,.t 15,.k 1]),[])]) (.seq (.draw [(.l 17 1,[]),(.N 18 17,[]),(.f 19 0 18,[]),(.l 20 19,[]),(.l 21 1,[]),(.N 22 21,[]),(.f 23 23 22,[]),(.l 24 23,[]),(.l 25 1,[]),(.N 26 25,[]),(.f 27 13 26,[]),(.L 28 3 27,[]),(.m 29 0,[]),(.z 30 (.w 70 [.t 20,.t 24,.t 28,.t 29,.k 1]),[])]) (.seq (.draw [(.l 31 1,[]),(.l 32 1,[]),(.N 33 32,[]),(.f 34 26 33,[]),(.l 35 34,[]),(.l 36 1,[]),(.N 37 36,[]),(.f 38 20 37,[]),(.l 39 38,[]),(.V 40 135 31 35 39,[])]) (.draw [(.l 41 1,[]),(.N 42 41,[]),(.f 43 0 42,[]),(.l 44 43,[]),(.l 45 1,[]),(.N 46 45,[]),(.f 47 13 46,[]),(.L 48 3 47,[]),(.m 49 0,[]),(.l 50 1,[]),(.N 51 50,[]),(.f 52 22 51,[]),(.l 53 52,[]),(.z 54 (.w 109 [.t 44,.t 48,.t 49,.k 0,.t 53]),[])]))))
def r_montgomery_product_down_1:Na Tryz.prog 137=some ⟨55,z3s.r,[]⟩:=Aa
def z47:LC:=(.q [.x 2 0,.x 3 1] (.seq (.draw [(.l 4 2,[]),(.N 5 4,[]),(.f 6 0 5,[]),(.l 7 6,[]),(.l 8 2,[]),(.N 9 8,[]),(.f 10 24 9,[]),(.l 11 10,[]),(.z 12 (.w 69 [.t 7,.t 11,.c (.u 0)]),[])]) (.draw [(.l 13 2,[]),(.N 14 13,[]),(.f 15 0 14,[]),(.l 16 15,[]),(.l 17 2,[]),(.N 18 17,[]),(.f 19 10 18,[]),(.f 20 2 19,[]),(.l 21 20,[]),(.z 22 (.mkFunc 180 [] [.t 2,.t 3]),[]),(.V 23 73 16 21 22,[])])))
def r_montgomery_product_less:Na Tryz.prog 138=some ⟨24,z47.r,[]⟩:=Aa
def z3t:LC:=(.seq (.draw [(.l 4 1,[]),(.N 5 4,[]),(.f 6 0 5,[]),(.l 7 6,[]),(.l 8 1,[]),(.N 9 8,[]),(.f 10 23 9,[]),(.l 11 10,[]),(.l 12 1,[]),(.N 13 12,[]),(.f 14 13 13,[]),(.L 15 3 14,[]),(.m 16 0,[]),(.z 17 (.w 70 [.t 7,.t 11,.t 15,.t 16,.k 0]),[])]) (.seq (.draw [(.l 18 1,[]),(.N 19 18,[]),(.f 20 0 19,[]),(.l 21 20,[]),(.l 22 1,[]),(.N 23 22,[]),(.f 24 20 23,[]),(.l 25 24,[]),(.l 26 1,[]),(.N 27 26,[]),(.f 28 10 27,[]),(.L 29 3 28,[]),(.m 30 0,[]),(.z 31 (.w 70 [.t 21,.t 25,.t 29,.t 30,.k 0]),[])]) (.seq (.draw [(.l 32 1,[]),(.N 33 32,[]),(.f 34 0 33,[]),(.l 35 34,[]),(.l 36 1,[]),(.N 37 36,[]),(.f 38 22 37,[]),(.l 39 38,[]),(.l 40 1,[]),(.N 41 40,[]),(.f 42 24 41,[]),(.l 43 42,[]),(.l 44 1,[]),(.N 45 44,[]),(.f 46 23 45,[]),(.l 47 46,[]),(.l 48 1,[]),(.N 49 48,[]),(.f 50 20 49,[]),(.l 51 50,[]),(.l 52 1,[]),(.N 53 52,[]),(.f 54 24 53,[]),(.l 55 54,[]),(.z 56 (.w 104 [.t 35,.k 12,.t 39,.t 43,.t 47,.t 51,.t 55]),[])]) (.ops [.l 57 2,.m 58 0,.z 59 (.callV (.t 57) [.t 58])]))))
def r_montgomery_product_less_1:Na Tryz.prog 180=some ⟨60,z3t.r,[]⟩:=Aa
def z4b:LC:=(.q [.x 1 0] (.q [.l 2 1,.z 3 (.w 138 [.t 2,(.c (.fn (.func 139) [] []))])] (.seq (.draw [(.l 4 1,[]),(.N 5 4,[]),(.f 6 0 5,[]),(.l 7 6,[]),(.l 8 1,[]),(.N 9 8,[]),(.f 10 23 9,[]),(.l 11 10,[]),(.l 12 1,[]),(.N 13 12,[]),(.f 14 13 13,[]),(.L 15 3 14,[]),(.l 16 1,[]),(.N 17 16,[]),(.f 18 10 17,[]),(.f 19 2 18,[]),(.l 20 19,[]),(.z 21 (.w 70 [.t 7,.t 11,.t 15,.k (-1),.t 20]),[])]) (.seq (.draw [(.l 22 1,[]),(.N 23 22,[]),(.f 24 0 23,[]),(.l 25 24,[]),(.l 26 1,[]),(.N 27 26,[]),(.f 28 22 27,[]),(.l 29 28,[]),(.l 30 1,[]),(.N 31 30,[]),(.f 32 26 31,[]),(.l 33 32,[]),(.l 34 1,[]),(.N 35 34,[]),(.f 36 23 35,[]),(.l 37 36,[]),(.l 38 1,[]),(.N 39 38,[]),(.f 40 16 39,[]),(.l 41 40,[]),(.l 42 1,[]),(.N 43 42,[]),(.f 44 24 43,[]),(.l 45 44,[]),(.z 46 (.w 104 [.t 25,.k 12,.t 29,.t 33,.t 37,.t 41,.t 45]),[])]) (.ops [.l 47 1,.z 48 (.mkFunc 140 [] [.t 1]),.W 49 138 47 48])))))
def r_montgomery_product_last:Na Tryz.prog 77=some ⟨50,z4b.r,[]⟩:=Aa
def z3k:LC:=.skip
def r_montgomery_product_last_1:Na Tryz.prog 139=some ⟨2,z3k.r,[]⟩:=Aa
def z3r:LC:=(.seq (.draw [(.l 3 1,[]),(.N 4 3,[]),(.f 5 0 4,[]),(.l 6 5,[]),(.l 7 1,[]),(.N 8 7,[]),(.f 9 22 8,[]),(.l 10 9,[]),(.l 11 1,[]),(.N 12 11,[]),(.f 13 26 12,[]),(.l 14 13,[]),(.l 15 1,[]),(.N 16 15,[]),(.f 17 23 16,[]),(.l 18 17,[]),(.l 19 1,[]),(.N 20 19,[]),(.f 21 22 20,[]),(.l 22 21,[]),(.z 23 (.w 113 [.t 6,.t 10,.t 14,.t 18,.t 22]),[])]) (.draw [(.l 24 1,[]),(.N 25 24,[]),(.f 26 0 25,[]),(.l 27 26,[]),(.l 28 1,[]),(.N 29 28,[]),(.f 30 1 29,[]),(.L 31 3 30,[]),(.m 32 0,[]),(.l 33 1,[]),(.N 34 33,[]),(.f 35 22 34,[]),(.l 36 35,[]),(.z 37 (.w 109 [.t 27,.t 31,.t 32,.k 0,.t 36]),[])]))
def r_montgomery_product_last_2:Na Tryz.prog 140=some ⟨38,z3r.r,[]⟩:=Aa
def z20:LC:=(.q [.x 7 0,.x 8 1,.x 9 2,.x 10 3,.x 11 4,.e 14] (.q [.f 19 2 10,.l 20 19,.m 15 20] (.seq (.seq (.draw [(.m 21 15,[]),(.b 22 .lss 3 21 1,[]),(.m 23 22,[]),(.nf 24 23 2 7,[]),(.nl 25 23 24,[]),(.mn 26 23 15,[]),(.n 27 23 (.bin .neq false 3 (.t 25) (.t 26)),[]),(.p 28 23 27,[]),(.m 29 28,[]),(.nf 30 29 2 8,[]),(.nl 31 29 30,[]),(.mn 32 29 15,[]),(.n 33 29 (.bin .neq false 3 (.t 31) (.t 32)),[]),(.p 34 29 33,[]),(.m 35 34,[]),(.nf 36 35 2 9,[]),(.nl 37 35 36,[]),(.mn 38 35 15,[]),(.n 39 35 (.bin .neq false 3 (.t 37) (.t 38)),[]),(.p 40 35 39,[]),(.m 41 40,[]),(.nf 42 41 2 11,[]),(.nl 43 41 42,[]),(.mn 44 41 15,[]),(.n 45 41 (.w 21 [.t 44]),[(.nl 43 41 42,false)]),(.n 46 41 (.bin .lss false 3 (.t 43) (.t 45)),[]),(.p 47 41 46,[]),(.m 48 47,[]),(.mn 49 48 5,[]),(.mn 50 48 6,[]),(.n 51 48 (.w 67 [.t 49,.t 50]),[]),(.n 52 48 (.un .not (.t 51)),[]),(.p 53 48 52,[])]) (.cond (.t 53) (.q [.e 14] .ret) .skip)) (.seq (.draw [(.m 54 5,[]),(.z 55 (.build [.nilSl,(.i 0)] [(1,1,.t 54)]),[]),(.x 56 55,[]),(.L 57 3 7,[]),(.L 58 3 8,[]),(.L 59 3 9,[]),(.L 60 3 10,[]),(.L 61 3 11,[]),(.m 62 15,[]),(.z 16 (.alloc [.nilPtr]),[(.L 61 3 11,false),(.L 60 3 10,false),(.L 59 3 9,false),(.L 58 3 8,false),(.L 57 3 7,false),(.x 56 55,true)]),(.w 63 21 62,[(.z 16 (.alloc [.nilPtr]),true),(.L 61 3 11,false),(.L 60 3 10,false),(.L 59 3 9,false),(.L 58 3 8,false),(.L 57 3 7,false),(.x 56 55,true)]),(.z 64 (.w 68 [.t 61,.k 0,.t 63]),[(.z 16 (.alloc [.nilPtr]),true),(.L 60 3 10,false),(.L 59 3 9,false),(.L 58 3 8,false),(.L 57 3 7,false),(.x 56 55,true)]),(.z 65 (.build [.nilPtr,(.i 0),(.i 0),(.i 0),(.i 0),(.i 0),(.i 0),(.i 0),(.i 0),(.i 0),(.i 0),(.i 0),(.i 0),(.i 0),(.i 0),(.i 0),(.i 0),(.i 0),(.i 0),(.i 0),(.i 0),(.i 0),(.i 0),(.i 0),(.i 0),(.i 0),(.i 0)] [(0,1,.t 56),(1,3,.t 57),(4,3,.t 58),(7,3,.t 59),(10,3,.t 60),(13,3,.t 64)]),[]),(.x 66 65,[(.z 16 (.alloc [.nilPtr]),true),(.L 60 3 10,false),(.L 59 3 9,false),(.L 58 3 8,false),(.L 57 3 7,false),(.x 56 55,true)]),(.S 1 16 66,[])]) (.seq (.seq (.draw [(.l 67 16,[]),(.N 68 67,[]),(.f 69 16 68,[]),(.l 70 16,[]),(.N 71 70,[]),(.f 72 17 71,[]),(.l 73 16,[]),(.N 74 73,[]),(.f 75 18 74,[]),(.l 76 16,[]),(.N 77 76,[]),(.f 78 19 77,[]),(.l 79 16,[]),(.N 80 79,[]),(.f 81 20 80,[]),(.l 82 16,[]),(.N 83 82,[]),(.f 84 21 83,[]),(.l 85 16,[]),(.N 86 85,[]),(.f 87 22 86,[]),(.l 88 16,[]),(.N 89 88,[]),(.f 90 23 89,[]),(.l 91 16,[]),(.N 92 91,[]),(.f 93 24 92,[]),(.l 94 16,[]),(.N 95 94,[]),(.f 96 25 95,[]),(.l 97 16,[]),(.N 98 97,[]),(.f 99 26 98,[]),(.z 100 (.buildSl 1 11 [.nilPtr,.nilPtr,.nilPtr,.nilPtr,.nilPtr,.nilPtr,.nilPtr,.nilPtr,.nilPtr,.nilPtr,.nilPtr] [(0,1,.t 69),(1,1,.t 72),(2,1,.t 75),(3,1,.t 78),(4,1,.t 81),(5,1,.t 84),(6,1,.t 87),(7,1,.t 90),(8,1,.t 93),(9,1,.t 96),(10,1,.t 99)]),[(.l 97 16,false),(.l 94 16,false),(.l 91 16,false),(.l 88 16,false),(.l 85 16,false),(.l 82 16,false),(.l 79 16,false),(.l 76 16,false),(.l 73 16,false),(.l 70 16,false),(.l 67 16,false)]),(.s 101 100,[]),(.K 102 0,[])]) (.block 0 (.loop (.q [.c 103 .lss 3 102 101] (.seq (.cond (.t 103) .skip (.exit 0)) (.seq (.block 1 (.q [.m 104 102,.I 105 1 100 102,.l 106 105,.m 17 104,.m 18 106] (.ops [.m 107 18,.m 108 6,.m 109 17,.c 110 .add 3 108 109,.N 111 107,.S 1 111 110]))) (.ops [.b 112 .add 3 102 1,.m 102 112]))))))) (.seq (.draw [(.l 113 16,[]),(.N 114 113,[]),(.f 115 0 114,[]),(.l 116 115,[]),(.l 117 16,[]),(.N 118 117,[]),(.f 119 16 118,[]),(.l 120 119,[]),(.z 121 (.w 69 [.t 116,.t 120,.c (.u 0)]),[])]) (.seq (.draw [(.l 122 16,[]),(.N 123 122,[]),(.f 124 0 123,[]),(.l 125 124,[]),(.l 126 16,[]),(.N 127 126,[]),(.f 128 26 127,[]),(.l 129 128,[]),(.L 130 3 10,[]),(.z 131 (.w 70 [.t 125,.t 129,.t 130,.k (-1),.k 0]),[])]) (.seq (.draw [(.l 132 16,[]),(.N 133 132,[]),(.f 134 0 133,[]),(.l 135 134,[]),(.l 136 16,[]),(.N 137 136,[]),(.f 138 26 137,[]),(.l 139 138,[]),(.l 140 16,[]),(.N 141 140,[]),(.f 142 17 141,[]),(.l 143 142,[]),(.V 144 71 135 139 143,[])]) (.seq (.draw [(.l 145 16,[]),(.N 146 145,[]),(.f 147 0 146,[]),(.l 148 147,[]),(.l 149 16,[]),(.N 150 149,[]),(.f 151 13 150,[]),(.L 152 3 151,[]),(.l 153 16,[]),(.N 154 153,[]),(.f 155 16 154,[]),(.l 156 155,[]),(.V 157 72 148 152 156,[])]) (.q [.l 158 16,.N 159 158,.f 160 0 159,.l 161 160,.m 162 15,.z 163 (.mkFunc 74 [] [.t 16]),.V 164 73 161 162 163] (.q [.l 165 16,.w 166 77 165] (.q [.l 167 16,.N 168 167,.f 169 0 168,.l 170 169,.N 171 170,.f 172 0 171,.l 173 172,.m 14 173] .ret))))))))))))
def r_montgomery_Into:Na Tryz.prog 23=some ⟨174,z20.r,[.tmp 14]⟩:=Aa
def z7s:LC:=(.q [.l 3 1,.m 4 0,.W 5 75 3 4] (.ops [.l 6 1,.w 7 76 6]))
def r_montgomery_Into_1:Na Tryz.prog 74=some ⟨8,z7s.r,[]⟩:=Aa
def z6x:LC:=(.q [.F 4] (.q [.m 5 0,.b 6 .geq 3 5 0,.m 7 6,.my 8 7 0,.y 9 7 (.bin .leq true 3 (.t 8) (.k 6)),.q 10 7 9,.m 11 10,.my 12 11 1,.y 13 11 (.bin .geq true 3 (.t 12) (.k 16)),.q 14 11 13,.m 15 14,.my 16 15 1,.y 17 15 (.bin .leq true 3 (.t 16) (.k 50)),.q 18 15 17,.m 4 18] .ret))
def r_montgomery_Allowed:Na Tryz.prog 67=some ⟨19,z6x.r,[.tmp 4]⟩:=Aa
def zez{G:M0}{K:LV→M0→Prop}{e:Nat}{ops:List Lo}{deep:Int}{f:Nat}{fst cap:List LV}{B:Fr Lo}(hd:0≤deep∧deep≤100)(h:Nl G e ops deep)(V:ops.length≤900000)(X:B.flat.length≤50000)
  (H:∀(j:M0) (g:List Lo) (E:LV→M0→Prop),Nl j e g (deep+1)→Kp e G j→g.length≤900001→(∀A,Nl A e (g++B.flat) (deep+1)→Kp e j A→E (.tup []) A)→Ob (.fn f) (fst++.i deep::cap) j E)
  (k:∀C,Nl C e (ops++(Og deep z B).flat) deep→Kp e G C→K (.tup []) C):Ob (.fn 73) [.ptr e 0,.i z,.fn (.func f) fst cap] G K:=by
 refine zuf hd h J (λD=>k G (by rw[Vq,H7 D,Ji];exact h) (Kp.refl _ _)) λI j L F=>H j _ _ L F Ab λA M O=>⟨_,Ab,M,λQ T U=>k Q ?_ (F.trans (O.trans U))⟩
 rw[Vq,Hv J];simpa using T
section put
variable {G : M0} {K : LV → M0 → Prop} {e P st : Nat} {ops : List Lo} {deep R : Int} {d a b n t : Pc}
def zrr{x y:Int}(j:G[P]?=some (.cells (T6 e d a b n t R) st))(g:P≠e)(h:Nl G e ops deep)(X:ops.length≤950000)(k:∀z,Nl z e (ops++Nr R x y) deep→Kp e G z→K (.tup []) z):Ob (.fn 135) [.ptr P 0,.i x,.i y] G K:=by
 refine Nb r_montgomery_product_sum Aa N ?_;unfold T6 at j;simp[z4o,j];refine zke h J λY I A=>?_
 have B:=A.cells g j;simp[B];refine z6i I Ab λZ L C=>?_
 have D:=C.cells g B;simp[D];refine z6i L Ab λG3 M E=>?_
 have F:=E.cells g D;simp[F];refine Xz M Ab λG4 O H=>?_
 have Q:=H.cells g F;simp[Q];refine Xz O Ab λT U V=>?_
 simp;refine k T (by simpa [Nr] using U) (A.trans (C.trans (E.trans (H.trans V))))
def zxu(H:-1000000≤t.at_∧t.at_≤1000000)(I:0≤n.size∧n.size≤1000000)(g:G[P]?=some (.cells (T6 e d a b n t R) st))(j:P≠e)(h:Nl G e ops deep)(L:ops.length≤900000)(k:∀z,Nl z e (ops++Om t n.size R) deep→Kp e G z→K (.tup []) z):Ob (.fn 136) [.ptr P 0] G K:=by
 refine Nb r_montgomery_product_top Aa N ?_;unfold T6 at g;simp[z4n,g];refine Tg (p:=t) J h J λM B A=>?_
 have C:=A.cells j g;simp[C];refine z6i B Ab λD E F=>?_
 simp;refine k D (by simpa [Om] using E) (A.trans F)
def zwu(ha:-1000000≤a.at_∧a.at_≤1000000)(ht:-1000000≤t.at_∧t.at_≤1000000)(I:G[g]?=some (.cells [.ptr P 0] j))(B:g≠e)(C:G[P]?=some (.cells (T6 e d a b n t R) st))(A:P≠e)(h:Nl G e ops deep)(hl:ops.length≤900001)(k:∀F,Nl F e (ops++Ts a t R z) deep→Kp e G F→K (.tup []) F):Ob (.fn 134) [.i z,.ptr g 0] G K:=by
 refine Nb r_montgomery_product_times_1 Aa N ?_;have T:=C;unfold T6 at C;simp[z3c,I,C];refine Tg (p:=a) J h J λG1 U D=>?_
 have L:=D.cells B I;have V:=D.cells A T;have M:=D.cells A C;simp[L,M];refine Tg (p:=t) J U Ab λG2 X E=>?_
 have O:=E.cells B L;have Y:=E.cells A V;have Q:=E.cells A M;simp[O,Q];refine zrr Y A X Ab λG3 Z H=>?_
 have z3:=H.cells B O;have p3:=H.cells A Q;simp[z3,p3];refine Ux (p:=t) J Z Ez λG4 h4 k4=>?_
 simp;refine k G4 (by simpa [Ts] using h4) (D.trans (E.trans (H.trans k4)))
def dg(hn:-1000000≤n.at_∧n.at_≤1000000)(ht:-1000000≤t.at_∧t.at_≤1000000)(I:G[g]?=some (.cells [.ptr P 0] j))(B:g≠e)(C:G[P]?=some (.cells (T6 e d a b n t R) st))(A:P≠e)(h:Nl G e ops deep)(hl:ops.length≤900001)(k:∀F,Nl F e (ops++Up n t R z) deep→Kp e G F→K (.tup []) F):Ob (.fn 137) [.i z,.ptr g 0] G K:=by
 refine Nb r_montgomery_product_down_1 Aa N ?_;have T:=C;unfold T6 at C;simp[z3s,I,C];refine Tg (p:=n) J h J λG1 U D=>?_
 have L:=D.cells B I;have V:=D.cells A T;have M:=D.cells A C;simp[L,M];refine Tg (p:=t) J U Ab λG2 X E=>?_
 have O:=E.cells B L;have Y:=E.cells A V;have Q:=E.cells A M;simp[O,Q];refine zrr Y A X Ab λG3 Z H=>?_
 have z3:=H.cells B O;have p3:=H.cells A Q;simp[z3,p3];refine Ux (p:=t) J Z Ez λG4 h4 k4=>?_
 simp;refine k G4 (by simpa [Up] using h4) (D.trans (E.trans (H.trans k4)))
def zzv{i:Int}(hd:0≤deep∧deep≤50)(ha:-1000000≤a.at_∧a.at_≤1000000)(hb:-1000000≤b.at_∧b.at_≤1000000)(M:-1000000≤t.at_∧t.at_≤1000000)(hn:0≤n.size∧n.size≤1000000)(z:G[P]?=some (.cells (T6 e d a b n t R) st))(g:P≠e)(h:Nl G e ops deep)(hl:ops.length≤800000)
  (k:∀E,Nl E e (ops++(Tj a b t n.size R deep i).flat) deep→Kp e G E→K (.tup []) E):Ob (.fn 75) [.ptr P 0,.i i] G K:=by
 refine Nb r_montgomery_product_times Aa N ?_;have hQ:=z;unfold T6 at z;have F:=(Hu.1 z).1;have le:e<G.length:=Al
 have z0:(G++[LObj.cells [.ptr P 0] 0])[G.length]?=some (.cells [.ptr P 0] 0):=Im;have q0:(G++[LObj.cells [.ptr P 0] 0])[P]?=_:=(M6 F).trans hQ;have p0:(G++[LObj.cells [.ptr P 0] 0])[P]?=_:=(M6 F).trans z;have h0:=h.app [LObj.cells [.ptr P 0] 0];have k0:=Kp.app' e G [LObj.cells [.ptr P 0] 0];have j:G.length≠e:=J
 simp[z41,↓M6 F,z];generalize G++[LObj.cells [.ptr P 0] 0]=G0 at *;generalize G.length=gz at *;refine Tg (p:=b) J h0 J λG1 h1 A=>?_
 have O:=A.cells j z0;have q1:=A.cells g q0;have Q:=A.cells g p0;simp[O,Q];refine W8 h1 Ab λG2 h2 C=>?_
 have H:=C.cells j O;have T:=C.cells g q1;have U:=C.cells g Q;simp[H,U];refine zez (fst:=[]) (cap:=[.ptr gz 0]) (B:=M5 (Ts a t R deep)) J h2 Ab (by rw[flat_frL];simp[Ts,Nr]) (λG3 V K' h3 X l3 Y=>?_) λG5 h5 D=>?_
 ·rw[flat_frL]at Y;exact zwu ha M (X.cells j H) j (X.cells g T) g h3 l3 Y
 have Z:=D.cells j H;have q5:=D.cells g T;have p5:=D.cells g U;simp[Z,p5];have gg:(Og deep n.size (M5 (Ts a t R deep))).flat.length≤100:=by rw[Vq];split<;>simp[flat_frL,Ts,Nr]
 refine zxu M hn q5 g h5 Ab λG6 h6 I=>?_
 have z6:=I.cells j Z;have p6:=I.cells g p5;simp[z6,p6];refine Ux (p:=t) J h6 (by simp[Om];omega) λG7 h7 L=>?_
 have z7:=L.cells j z6;have p7:=L.cells g p6;simp[z7,p7]
 repeat (refine⟨J,?_⟩)
 refine Ux (p:=t) J h7 (by simp[Om];omega) λG8 h8 k8=>?_
 simp;refine k G8 ?_ (k0.trans (A.trans (C.trans (D.trans (I.trans (L.trans k8))))));unfold Tj;rw[Pb,Pb,flat_frL,flat_frL];simpa using h8
end put
end
section
section put
variable {G : M0} {K : LV → M0 → Prop} {e P st : Nat} {ops : List Lo} {deep R : Int} {d a b n t : Pc}
def io(hd:0≤deep∧deep≤50)(L:-1000000≤n.at_∧n.at_≤1000000)(ht:-1000000≤t.at_∧t.at_≤1000000)(hn:0≤n.size∧n.size≤1000000)(C:G[P]?=some (.cells (T6 e d a b n t R) st))(g:P≠e)(h:Nl G e ops deep)(hl:ops.length≤800000)
  (k:∀M,Nl M e (ops++(To n t n.size R deep).flat) deep→Kp e G M→K (.tup []) M):Ob (.fn 76) [.ptr P 0] G K:=by
 refine Nb r_montgomery_product_down Aa N ?_;have hQ:=C;unfold T6 at C;have O:=(Hu.1 C).1;have le:e<G.length:=Al
 have z0:(G++[LObj.cells [.ptr P 0] 0])[G.length]?=some (.cells [.ptr P 0] 0):=Im;have q0:(G++[LObj.cells [.ptr P 0] 0])[P]?=_:=(M6 O).trans hQ;have p0:(G++[LObj.cells [.ptr P 0] 0])[P]?=_:=(M6 O).trans C;have h0:=h.app [LObj.cells [.ptr P 0] 0];have k0:=Kp.app' e G [LObj.cells [.ptr P 0] 0];have j:G.length≠e:=J
 simp[z45,↓M6 O,C];generalize G++[LObj.cells [.ptr P 0] 0]=G0 at *;generalize G.length=gF at *;refine Tg (p:=t) J h0 J λG1 h1 D=>?_
 have z1:=D.cells j z0;have q1:=D.cells g q0;have p1:=D.cells g p0;simp[z1,p1];refine zke h1 Ab λG2 h2 E=>?_
 have z2:=E.cells j z1;have q2:=E.cells g q1;have p2:=E.cells g p1;simp[z2,p2];refine Tg (p:=n) J h2 Ab λG3 h3 F=>?_
 have z3:=F.cells j z2;have q3:=F.cells g q2;have p3:=F.cells g p2;simp[z3,p3];refine W8 h3 Ab λG4 h4 H=>?_
 have z4:=H.cells j z3;have q4:=H.cells g q3;have p4:=H.cells g p3;simp[z4,p4];refine zrr q4 g h4 Ab λG5 h5 I=>?_
 have Q:=I.cells j z4;have q5:=I.cells g q4;have p5:=I.cells g p4;simp[Q,p5]
 repeat (refine⟨J,?_⟩)
 refine zez (fst:=[]) (cap:=[.ptr gF 0]) (B:=M5 (Up n t R deep)) J h5 Ez (by rw[flat_frL];simp[Up,Nr]) (λG6 gC K' T z l6 hk=>?_) λG6 T z=>?_
 ·rw[flat_frL]at hk;exact dg L ht (z.cells j Q) j (z.cells g q5) g T l6 hk
 have z6:=z.cells j Q;have q6:=z.cells g q5;have p6:=z.cells g p5;simp[z6,p6];have gD:(Og deep (n.size-1) (M5 (Up n t R deep))).flat.length≤100:=by rw[Vq];split<;>simp[flat_frL,Up,Nr]
 refine zxu ht hn q6 g T Ez λG7 h7 U=>?_
 have z7:=U.cells j z6;have p7:=U.cells g p6;simp[z7,p7]
 repeat (refine⟨J,?_⟩)
 refine Ux (p:=t) J h7 D4 λG8 h8 V=>?_
 have z8:=V.cells j z7;have p8:=V.cells g p7;simp[z8,p8]
 repeat (refine⟨J,?_⟩)
 refine Tg (p:=t) J h8 D4 λG9 h9 X=>?_
 have z9:=X.cells j z8;have p9:=X.cells g p8;simp[z9,p9];refine Xz h9 D4 λgE Y A=>?_
 have Z:=A.cells j z9;have gg:=A.cells g p9;simp[Z,gg];refine Ux (p:=t) J Y D4 λgz gA gB=>?_
 simp;refine k gz ?_ (k0.trans (D.trans (E.trans (F.trans (H.trans (I.trans (z.trans (U.trans (V.trans (X.trans (A.trans gB)))))))))));unfold To;rw[Pb,Pb,flat_frL,flat_frL];simpa using gA
def dz{y f:Nat}{cap:List LV}{x:List Lo}(hn:-1000000≤n.at_∧n.at_≤1000000)(ht:-1000000≤t.at_∧t.at_≤1000000)(U:G[g]?=some (.cells [.ptr P 0] j))(D:g≠e)(Z:G[y]?=some (.cells [.fn (.func f) [] cap] A))(C:y≠e)(O:G[P]?=some (.cells (T6 e d a b n t R) st))(E:P≠e)(h:Nl G e ops deep)(hl:ops.length≤900001)
  (F:∀(H:M0) (B:List Lo) (V:LV→M0→Prop),Nl H e B deep→Kp e G H→B.length≤900010→(∀M,Nl M e (B++x) deep→Kp e H M→V (.tup []) M)→Ob (.fn f) (.i z::cap) H V)
  (k:∀Q,Nl Q e (ops++(T7 n t R z++x)) deep→Kp e G Q→K (.tup []) Q):Ob (.fn 180) [.i z,.ptr g 0,.ptr y 0] G K:=by
 refine Nb r_montgomery_product_less_1 Aa N ?_;unfold T6 at O;simp[z3t,U,O];refine Tg (p:=t) J h J λH h1 I=>?_
 have X:=I.cells D U;have y1:=I.cells C Z;have Y:=I.cells E O;simp[X,Y];refine Tg (p:=n) J h1 Ab λM h2 L=>?_
 have z2:=L.cells D X;have y2:=L.cells C y1;have p2:=L.cells E Y;simp[z2,p2];refine z6i h2 Ab λG3 h3 T=>?_
 have y3:=T.cells C y2;simp[y3];refine F G3 _ _ h3 (I.trans (L.trans T)) Ab λG4 h4 k4=>?_
 simp;refine k G4 (by simpa [T7] using h4) (I.trans (L.trans (T.trans k4)))
def zvk{f:Nat}{cap:List LV}{x:List Lo}(hx:x.length≤10)(hd:0≤deep∧deep≤50)(L:-1000000≤n.at_∧n.at_≤1000000)(ht:-1000000≤t.at_∧t.at_≤1000000)(D:G[P]?=some (.cells (T6 e d a b n t R) st))(j:P≠e)(h:Nl G e ops deep)(hl:ops.length≤800000)
  (E:∀(F:M0) (g:List Lo) (M:LV→M0→Prop),Nl F e g (deep+1)→Kp e G F→g.length≤900010→(∀O,Nl O e (g++x) (deep+1)→Kp e F O→M (.tup []) O)→Ob (.fn f) (.i deep::cap) F M)
  (k:∀Q,Nl Q e (ops++(Vt n t n.size R deep x).flat) deep→Kp e G Q→K (.tup []) Q):Ob (.fn 138) [.ptr P 0,.fn (.func f) [] cap] G K:=by
 refine Nb r_montgomery_product_less Aa N ?_;have hQ:=D;unfold T6 at D;have T:=(Hu.1 D).1;have le:e<G.length:=Al
 have z0:(G++[LObj.cells [.ptr P 0] 0,LObj.cells [.fn (.func f) [] cap] 0])[G.length]?=some (.cells [.ptr P 0] 0):=N
 have y0:(G++[LObj.cells [.ptr P 0] 0,LObj.cells [.fn (.func f) [] cap] 0])[G.length+1]?=some (.cells [.fn (.func f) [] cap] 0):=N
 have q0:(G++[LObj.cells [.ptr P 0] 0,LObj.cells [.fn (.func f) [] cap] 0])[P]?=_:=(M6 T).trans hQ;have p0:(G++[LObj.cells [.ptr P 0] 0,LObj.cells [.fn (.func f) [] cap] 0])[P]?=_:=(M6 T).trans D;have h0:=h.app [LObj.cells [.ptr P 0] 0,LObj.cells [.fn (.func f) [] cap] 0];have V:=Kp.app' e G [LObj.cells [.ptr P 0] 0,LObj.cells [.fn (.func f) [] cap] 0];have z:G.length≠e:=J
 have A:G.length+1≠e:=J
 simp[z47,↓M6 T,D];generalize G++[LObj.cells [.ptr P 0] 0,LObj.cells [.fn (.func f) [] cap] 0]=G0 at *;generalize G.length+1=y at *;generalize G.length=gg at *;refine W8 h0 J λF h1 C=>?_
 have X:=C.cells z z0;have y1:=C.cells A y0;have q1:=C.cells j q0;have p1:=C.cells j p0;simp[X,p1];refine zez (fst:=[]) (cap:=[.ptr gg 0,.ptr y 0]) (B:=M5 (T7 n t R deep++x)) J h1 Ab (by rw[flat_frL];simp[T7];omega) (λG3 Y M h3 I l3 Z=>?_) λG5 h5 k5=>?_
 ·rw[flat_frL]at Z;exact dz L ht (I.cells z X) z (I.cells A y1) A (I.cells j q1) j h3 l3 (λG4 H K4 h4 k4 l4 U=>E G4 H K4 h4 (V.trans (C.trans (I.trans k4))) l4 U) Z
 simp;refine k G5 ?_ (V.trans (C.trans k5));unfold Vt;rw[Pb,flat_frL];simpa using h5
def nh(hd:0≤deep∧deep≤50)(gz:-1000000≤d.at_∧d.at_≤1000000)(z:-1000000≤n.at_∧n.at_≤1000000)(Q:-1000000≤t.at_∧t.at_≤1000000)(hn:0≤n.size∧n.size≤1000000)(A:G[P]?=some (.cells (T6 e d a b n t R) st))(g:P≠e)(h:Nl G e ops deep)(hl:ops.length≤700000)
  (k:∀F,Nl F e (ops++(Xr d n t n.size R deep).flat) deep→Kp e G F→K (.tup []) F):Ob (.fn 77) [.ptr P 0] G K:=by
 refine Nb r_montgomery_product_last Aa N ?_;have hQ:=A;unfold T6 at A;have H:=(Hu.1 A).1;have le:e<G.length:=Al
 have z0:(G++[LObj.cells [.ptr P 0] 0])[G.length]?=some (.cells [.ptr P 0] 0):=Im;have T:(G++[LObj.cells [.ptr P 0] 0])[P]?=_:=(M6 H).trans hQ;have p0:(G++[LObj.cells [.ptr P 0] 0])[P]?=_:=(M6 H).trans A;have h0:=h.app [LObj.cells [.ptr P 0] 0];have k0:=Kp.app' e G [LObj.cells [.ptr P 0] 0];have j:G.length≠e:=J
 simp[z4b,↓M6 H,A];generalize G++[LObj.cells [.ptr P 0] 0]=G0 at *;generalize G.length=gA at *;have hL:∀x:List Lo,x.length≤10→(Vt n t n.size R deep x).flat.length≤100:=λx hx=>by
  unfold Vt;rw[Pb,flat_frL,Vq];split<;>simp[flat_frL,T7];omega
 refine zvk (x:=[]) N hd z Q T g h0 J (λU V K' I B l1 L=>?_) λU I B=>?_
 ·refine Nb r_montgomery_product_last_1 Aa N ?_;simp[z3k];exact L U (by simpa using I) (Kp.refl _ _)
 have X:=B.cells j z0;have q1:=B.cells g T;have Y:=B.cells g p0;have l1:=hL [] N;simp[X,Y];refine Tg (p:=t) J I Ab λG2 h2 C=>?_
 have Z:=C.cells j X;have q2:=C.cells g q1;have p2:=C.cells g Y;simp[Z,p2];refine z6i h2 Ab λG3 h3 D=>?_
 have z3:=D.cells j Z;have q3:=D.cells g q2;have p3:=D.cells g p2;simp[z3,p3];refine zvk (x:=[Ns (R+6) (R+10) (R+7) (R+6),Nd d deep 0 (R+6)]) N hd z Q q3 g h3 Ab (λG4 gg K' M E l4 L=>?_) λG4 M E=>?_
 ·refine Nb r_montgomery_product_last_2 Aa N ?_;have z4:=E.cells j z3;have p4:=E.cells g p3;simp[z3r,z4,p4];refine znl M J λG5 h5 O=>?_
  have z5:=O.cells j z4;have p5:=O.cells g p4;simp[z5,p5];refine Ux (p:=d) J h5 Ab λG6 h6 k6=>?_
  simp;exact L G6 (by simpa using h6) (O.trans k6)
 simp;refine k G4 ?_ (k0.trans (B.trans (C.trans (D.trans E))));unfold Xr;rw[Pb,Pb,flat_frL];simpa using M
end put
end
section
def dv(k:Int):Int:=if k<1 then 0 else k+2
def me(deep g:Int):Bool:=decide (0≤deep)&&(decide (deep≤6)&&(decide (16≤g)&&decide (g≤50)))
def z4m{G:M0}{K:LV→M0→Prop}{n:Int}(j:n≤1000000000)(k:K (.i (dv n)) G):Ob (.fn 21) [.i n] G K:=by
 refine Nb r_montgomery_Need k_montgomery_Need N ?_;unfold dv at k;by_cases g:n<1
 ·rw[H7 g]at k;simpa [z2t,g] using k
 ·rw[Hv g]at k;simp[z2t,g];exact⟨J,k⟩
def z69{G:M0}{K:LV→M0→Prop}{a b:Int}(k:K (.bool (me a b)) G):Ob (.fn 67) [.i a,.i b] G K:=by
 refine Nb r_montgomery_Allowed Aa N ?_;unfold me at k;by_cases g:0≤a<;>by_cases j:a≤6<;>by_cases z:16≤b<;>by_cases A:b≤50<;>simpa [z6x,g,j,z,A] using k
def z5w{G:M0}{K:LV→M0→Prop}{p:Pc}(h:-1000000000≤p.at_+z∧p.at_+z≤1000000000)(k:K (.agg (Pc.f ⟨p.buf,p.at_+z,B⟩)) (G++[LObj.cells p.f 0,LObj.cells [.i p.buf,.i (p.at_+z),.i B] 1])):Ob (.fn 68) [.agg p.f,.i z,.i B] G K:=by
 refine Nb r_expand_Part Aa N ?_;simp[zex,Pc.f];exact⟨J,by simpa [Pc.f] using k⟩
def Z5{G:M0}{K:LV→M0→Prop}{e:Nat}{ops:List Lo}{deep:Int}{f:Nat}{fst cap:List LV}{B:Fr Lo}(hd:0≤deep∧deep≤100)(h:Nl G e ops deep)(V:ops.length≤900000)(X:B.flat.length≤50000)
  (H:∀(j:M0) (g:List Lo) (E:LV→M0→Prop),Nl j e g (deep+1)→Kp e G j→g.length≤ops.length+1→(∀A,Nl A e (g++B.flat) (deep+1)→Kp e j A→E (.tup []) A)→Ob (.fn f) (fst++.i deep::cap) j E)
  (k:∀C,Nl C e (ops++(Og deep z B).flat) deep→Kp e G C→K (.tup []) C):Ob (.fn 73) [.ptr e 0,.i z,.fn (.func f) fst cap] G K:=by
 refine zuf hd h J (λD=>k G (by rw[Vq,H7 D,Ji];exact h) (Kp.refl _ _)) λI j L F=>H j _ _ L F N λA M O=>⟨_,Ab,M,λQ T U=>k Q ?_ (F.trans (O.trans U))⟩
 rw[Vq,Hv J];simpa using T
section put
variable {G : M0} {K : LV → M0 → Prop} {e P st : Nat} {ops : List Lo} {deep R : Int} {d a b n t : Pc}
def znr{p:Pc}{x:Int}(hd:0≤deep∧deep≤50)(hp:-1000000≤p.at_∧p.at_≤1000000)(h:Nl G e ops deep)(hl:ops.length≤800000)
  (k:∀g,Nl g e (ops++(Si p x deep).flat) deep→Kp e G g→K (.tup []) g):Ob (.fn 72) [.ptr e 0,.agg p.f,.i x] G K:=by
 refine Nb r_expand_Emit_Fill Aa N ?_;have le:e<G.length:=Al
 have D:(G++[LObj.cells [.ptr e 0] 0,LObj.cells p.f 0,LObj.cells [.i x] 0])[G.length]?=some (.cells [.ptr e 0] 0):=N
 have E:(G++[LObj.cells [.ptr e 0] 0,LObj.cells p.f 0,LObj.cells [.i x] 0])[G.length+1]?=some (.cells p.f 0):=N
 have F:(G++[LObj.cells [.ptr e 0] 0,LObj.cells p.f 0,LObj.cells [.i x] 0])[G.length+2]?=some (.cells [.i x] 0):=N
 have H:=h.app [LObj.cells [.ptr e 0] 0,LObj.cells p.f 0,LObj.cells [.i x] 0];have I:=Kp.app' e G [LObj.cells [.ptr e 0] 0,LObj.cells p.f 0,LObj.cells [.i x] 0];have j:G.length≠e:=J
 have z:G.length+1≠e:=J
 have A:G.length+2≠e:=J
 unfold Pc.f at E F D H I;simp[z8g,Pc.f];generalize G++[LObj.cells [.ptr e 0] 0,LObj.cells [.i p.buf,.i p.at_,.i p.size] 0,LObj.cells [.i x] 0]=G0 at *;generalize G.length+2=w at *;generalize G.length+1=y at *;generalize G.length=gg at *;refine zez (fst:=[]) (cap:=[.ptr gg 0,.ptr y 0,.ptr w 0]) (B:=M5 [Nd p deep 0 x]) J H J B8 (λG3 L K' O C l3 M=>?_) λQ T U=>?_
 ·rw[flat_frL]at M;refine Nb r_expand_Emit_Fill_1 Aa N ?_;have V:=C.cells j D;have X:=C.cells z E;have Y:=C.cells A F;simp[z70,V,X,Y];refine Ux (p:=p) J O J λZ h4 k4=>?_
  simp;exact M Z h4 k4
 simp;exact k Q T (I.trans U)
def da{i:Int}(hd:0≤deep∧deep≤50)(L:-1000000≤a.at_∧a.at_≤1000000)(M:-1000000≤b.at_∧b.at_≤1000000)(A:-1000000≤n.at_∧n.at_≤1000000)(E:-1000000≤t.at_∧t.at_≤1000000)(F:0≤n.size∧n.size≤1000000)(H:G[g]?=some (.cells [.ptr P 0] j))(B:g≠e)(I:G[P]?=some (.cells (T6 e d a b n t R) st))(z:P≠e)(h:Nl G e ops deep)(Y:ops.length≤700000)
  (k:∀C,Nl C e (ops++((Tj a b t n.size R deep i).cat (To n t n.size R deep)).flat) deep→Kp e G C→K (.tup []) C):Ob (.fn 74) [.i i,.ptr g 0] G K:=by
 refine Nb r_montgomery_Into_1 Aa N ?_;simp[z7s,H];have Z:(Tj a b t n.size R deep i).flat.length≤100:=by
  unfold Tj;rw[Pb,Pb,flat_frL,Vq];split<;>simp[flat_frL,Ts,Nr,Om]
 refine zzv hd L M E F I z h J λG1 O D=>?_
 have Q:=D.cells B H;have T:=D.cells z I;simp[Q];refine io hd A E F T z O Ab λU V X=>?_
 simp;refine k U ?_ (D.trans X);rw[Pb];simpa using V
end put
def qh(d a b n w:Pc)(deep R:Int):Bool:=decide (1≤n.size)&&(decide (d.size=n.size)&&(decide (a.size=n.size)&&(decide (b.size=n.size)&&(decide (dv n.size≤w.size)&&me deep R))))
def zq2(d a b n w:Pc)(deep R:Int):List Lo:=if qh d a b n w deep R=true then (W1 d a b n ⟨w.buf,w.at_,dv n.size⟩ n.size R deep).flat else []
def Vc(d a b n w:Pc)(deep R:Int)(i st:Nat):M0 :=
 [.cells [.i d.buf,.i d.at_,.i n.size] 0,.cells [.i a.buf,.i a.at_,.i n.size] 0,.cells [.i b.buf,.i b.at_,.i n.size] 0,.cells [.i n.buf,.i n.at_,.i n.size] 0,.cells [.i w.buf,.i w.at_,.i w.size] 0,.cells [.nilSl,.i deep] 0,.cells [.ptr 9 0] 1,
  .cells [.i w.buf,.i w.at_,.i w.size] 0,.cells [.i w.buf,.i w.at_,.i (dv n.size)] 1,
  .cells [.ptr 5 0,.i d.buf,.i d.at_,.i n.size,.i a.buf,.i a.at_,.i n.size,.i b.buf,.i b.at_,.i n.size,.i n.buf,.i n.at_,.i n.size,.i w.buf,.i w.at_,.i (dv n.size),.i (if 0<i then R else 0),.i (if 1<i then R+1 else 0),.i (if 2<i then R+2 else 0),.i (if 3<i then R+3 else 0),.i (if 4<i then R+4 else 0),.i (if 5<i then R+5 else 0),.i (if 6<i then R+6 else 0),.i (if 7<i then R+7 else 0),.i (if 8<i then R+8 else 0),.i (if 9<i then R+9 else 0),.i (if 10<i then R+10 else 0)] st,
  .dyn [.ptr 9 16,.ptr 9 17,.ptr 9 18,.ptr 9 19,.ptr 9 20,.ptr 9 21,.ptr 9 22,.ptr 9 23,.ptr 9 24,.ptr 9 25,.ptr 9 26] 11 1 0 0]
def zfk{d a b n w:Pc}{deep R:Int}(gg:-1000000≤d.at_∧d.at_≤1000000)(ha:-1000000≤a.at_∧a.at_≤1000000)(hb:-1000000≤b.at_∧b.at_≤1000000)(M:-1000000≤n.at_∧n.at_≤1000000)(hw:-1000000≤w.at_∧w.at_≤1000000)(hn:n.size≤1000000) :
  O2 23 [.agg d.f,.agg a.f,.agg b.f,.agg n.f,.agg w.f,.i deep,.i R] (.lst (Pm (zq2 d a b n w deep R)) (zq2 d a b n w deep R).length 8):=by
 refine Sa.mk (by simp[LV.dat,Ug]) (Nb r_montgomery_Into Aa (by simp) ?_);have F:qh d a b n w deep R=false→zq2 d a b n w deep R=[]:=λh=>by unfold zq2;rw[h];simp
 by_cases O:n.size<1
 ·rw[F Dd];simp[z20,Pc.f,O,Pm]
 by_cases L:d.size=n.size
 rotate_left
 ·rw[F Dd];simp[z20,Pc.f,O,L,Pm]
 by_cases Q:a.size=n.size
 rotate_left
 ·rw[F Dd];simp[z20,Pc.f,O,L,Q,Pm]
 by_cases X:b.size=n.size
 rotate_left
 ·rw[F Dd];simp[z20,Pc.f,O,L,Q,X,Pm]
 simp[z20,Pc.f,O,L,Q,X];refine z4m J ?_;by_cases g5:w.size<dv n.size
 ·rw[F Dd];simp[g5,Pm]
 simp[g5];refine z69 ?_;by_cases T:me deep R=true
 rotate_left
 ·rw[F (by simp[qh,T])];simp[T,Pm]
 simp[T];refine z4m J ?_;simp;refine z5w (p:=w) J ?_;simp[Pc.f];have hR:16≤R∧R≤50∧0≤deep∧deep≤6:=by simp[me]at T;omega
 refine Po (λZ gG G' N=>∃i st:Nat,gG=[]∧N+i=11∧lk Z 6=.i R∧lk Z 10=.ptr 3 0∧lk Z 15=.i n.size∧lk Z 16=.ptr 6 0∧lk Z 100=.dy 10 0∧lk Z 101=.i 11∧lk Z 102=.i i∧G'=Vc d a b n w deep R i st) (N:=11)
  ⟨0,0,rfl,J,by simp,by simp,by simp,by simp,by simp,by simp,by simp,B5⟩ ?_
 rintro N Z gG G5 ⟨i,st,rfl,hN,E,z,A,C,g,j,H,rfl⟩ Nx D;by_cases gH:i<11
 ·have hi:i=0∨i=1∨i=2∨i=3∨i=4∨i=5∨i=6∨i=7∨i=8∨i=9∨i=10:=J
  rcases hi with rfl|rfl|rfl|rfl|rfl|rfl|rfl|rfl|rfl|rfl|rfl
  all_goals simp[E,z,A,C,g,j,H,Vc]
  ·try (refine⟨J,?_⟩)
   exact D _ _ _ ⟨N-1,J,1,st+1,rfl,J,Au,Ak,A7,As,Ba,An,by simp,B5⟩
  ·try (refine⟨J,?_⟩)
   exact D _ _ _ ⟨N-1,J,2,st+1,rfl,J,Au,Ak,A7,As,Ba,An,by simp,B5⟩
  ·try (refine⟨J,?_⟩)
   exact D _ _ _ ⟨N-1,J,3,st+1,rfl,J,Au,Ak,A7,As,Ba,An,by simp,B5⟩
  ·try (refine⟨J,?_⟩)
   exact D _ _ _ ⟨N-1,J,4,st+1,rfl,J,Au,Ak,A7,As,Ba,An,by simp,B5⟩
  ·try (refine⟨J,?_⟩)
   exact D _ _ _ ⟨N-1,J,5,st+1,rfl,J,Au,Ak,A7,As,Ba,An,by simp,B5⟩
  ·try (refine⟨J,?_⟩)
   exact D _ _ _ ⟨N-1,J,6,st+1,rfl,J,Au,Ak,A7,As,Ba,An,by simp,B5⟩
  ·try (refine⟨J,?_⟩)
   exact D _ _ _ ⟨N-1,J,7,st+1,rfl,J,Au,Ak,A7,As,Ba,An,by simp,B5⟩
  ·try (refine⟨J,?_⟩)
   exact D _ _ _ ⟨N-1,J,8,st+1,rfl,J,Au,Ak,A7,As,Ba,An,by simp,B5⟩
  ·try (refine⟨J,?_⟩)
   exact D _ _ _ ⟨N-1,J,9,st+1,rfl,J,Au,Ak,A7,As,Ba,An,by simp,B5⟩
  ·try (refine⟨J,?_⟩)
   exact D _ _ _ ⟨N-1,J,10,st+1,rfl,J,Au,Ak,A7,As,Ba,An,by simp,B5⟩
  ·try (refine⟨J,?_⟩)
   exact D _ _ _ ⟨N-1,J,11,st+1,rfl,J,Au,Ak,A7,As,Ba,An,by simp,B5⟩
 ·have hi:i=11:=J
  subst hi;have q0:(Vc d a b n w deep R 11 st)[9]?=some (.cells (T6 5 d a b n ⟨w.buf,w.at_,dv n.size⟩ R) st):=by simp[Vc,T6,L,Q,X]
  have e0:Nl (Vc d a b n w deep R 11 st) 5 [] deep:=⟨0,.nilSl,rfl,Py.nil⟩;have z0:(Vc d a b n w deep R 11 st)[6]?=some (.cells [.ptr 9 0] 1):=rfl;have n0:(Vc d a b n w deep R 11 st)[3]?=some (.cells [.i n.buf,.i n.at_,.i n.size] 0):=rfl;generalize Vc d a b n w deep R 11 st=G0 at *;generalize ht:(⟨w.buf,w.at_,dv n.size⟩:Pc)=t at *;have I:-1000000≤t.at_∧t.at_≤1000000:=by rw[←ht];exact hw
  have U:0≤n.size∧n.size≤1000000:=J
  have p0:=q0;unfold T6 at p0;simp[E,z,A,C,g,j,H,z0,p0];refine W8 e0 (by simp) λG1 h1 Y=>?_
  have z1:=Y.cells Ac z0;have n1:=Y.cells Ac n0;have q1:=Y.cells Ac q0;have p1:=Y.cells Ac p0;simp[E,z,A,C,z1,p1,n1];refine Tg (p:=n) J h1 (by simp) λG2 h2 k2=>?_
  have z2:=k2.cells Ac z1;have q2:=k2.cells Ac q1;have p2:=k2.cells Ac p1;simp[E,z,A,C,z2,p2];refine zw0 J h2 (by simp) λG3 h3 k3=>?_
  have z3:=k3.cells Ac z2;have q3:=k3.cells Ac q2;have p3:=k3.cells Ac p2;simp[E,z,A,C,z3,p3];have gA:(Uk (R+10) (R+1)).length≤100:=by rw[Uk];simp[fp,zkf]
  refine znr (p:=t) J I h3 Ab λG4 h4 k4=>?_
  have z4:=k4.cells Ac z3;have q4:=k4.cells Ac q3;have p4:=k4.cells Ac p3;have gB:(Si t R deep).flat.length≤100:=F6
  simp[E,z,A,C,z4,p4];have gC:(Tj a b t n.size R (deep+1) deep).flat.length≤100:=by
   unfold Tj;rw[Pb,Pb,flat_frL,Vq];split<;>simp[flat_frL,Ts,Nr,Om]
  have gD:(To n t n.size R (deep+1)).flat.length≤100:=by
   unfold To;rw[Pb,Pb,flat_frL,Vq];split<;>simp[flat_frL,Up,Nr,Om]
  refine Z5 (fst:=[]) (cap:=[.ptr 6 0]) (B:=(Tj a b t n.size R (deep+1) deep).cat (To n t n.size R (deep+1))) J h4 Ab (by rw[Pb];simp;omega) (λG5 gz K' h5 V l5 hk=>?_) λG5 h5 V=>?_
  ·exact da (deep:=deep+1) J ha hb M I U (V.cells Ac z4) Ac (V.cells Ac q4) Ac h5 (by simp at l5;omega) hk
  have z5:=V.cells Ac z4;have q5:=V.cells Ac q4;have gE:(Og deep n.size ((Tj a b t n.size R (deep+1) deep).cat (To n t n.size R (deep+1)))).flat.length≤300:=by
   rw[Vq];split
   ·simp
   ·rw[Pb];simp;omega
  simp[E,z,A,C,z5];refine nh J gg M I U q5 Ac h5 Ab λG6 h6 k6=>?_
  have z6:=k6.cells Ac z5;have q6:=k6.cells Ac q5;unfold T6 at q6;have hC:zq2 d a b n w deep R=[cK R 0,M9 (R+10) n (-1) 0]++Uk (R+10) (R+1)++((Si t R deep).flat++((Og deep n.size ((Tj a b t n.size R (deep+1) deep).cat (To n t n.size R (deep+1)))).flat++(Xr d n t n.size R deep).flat)):=by
   unfold zq2;rw[H7 (by simp[qh,L,Q,X,T];omega),ht];unfold W1;rw[Pb,Pb,Pb,flat_frL]
  obtain⟨gF,v,e1,e2⟩:=h6;simp[-O5,E,z,A,C,z6,q6,e1];rw[hC];simpa using zuo e2.bor
end

section
def zc9:LC:=(.q [.K 2 0] (.seq (.q [.m 3 0,.b 4 .lss 3 3 1] (.cond (.t 4) (.q [.K 2 0] .ret) .skip)) (.q [.m 5 0,.b 6 .add 3 5 1,.m 2 6] .ret)))
def r_power_Rest:Na Tryz.prog 47=some ⟨7,zc9.r,[.tmp 2]⟩:=Aa
def z2o:LC:=(.q [.K 4 0,.K 5 0] (.seq (.q [.m 6 0,.b 7 .lss 3 6 1,.m 8 7,.mn 9 8 0,.nb 10 8 .gtr 3 9 512,.p 11 8 10,.m 12 11,.mn 13 12 1,.nb 14 12 .lss 3 13 1,.p 15 12 14,.m 16 15,.mn 17 16 1,.nb 18 16 .gtr 3 17 6,.p 19 16 18] (.cond (.t 19) (.q [.K 4 0,.K 5 0] .ret) .skip)) (.q [.m 20 0,.z 21 (.bin .mul true 3 (.k 64) (.t 20)),.m 22 1,.c 23 .add 3 21 22,.b 24 .sub 3 23 1,.m 25 1,.c 26 .quo 3 24 25,.m 4 26] (.q [.m 27 4,.m 28 4,.m 29 1,.c 30 .mul 3 28 29,.m 31 0,.z 32 (.bin .mul true 3 (.k 64) (.t 31)),.c 33 .sub 3 30 32,.m 4 27,.m 5 33] .ret))))
def r_power_Windows:Na Tryz.prog 45=some ⟨34,z2o.r,[.tmp 4,.tmp 5]⟩:=Aa
def z76:LC:=(.q [.x 6 0,.x 7 1,.x 8 2,.e 12] (.q [.f 24 2 7,.l 25 24,.z 13 (.alloc [(.i 0)]),.S 1 13 25] (.seq (.seq (.draw [(.l 26 13,[]),(.b 27 .lss 3 26 1,[]),(.m 28 27,[]),(.nf 29 28 2 6,[]),(.nl 30 28 29,[]),(.nl 31 28 13,[]),(.n 32 28 (.bin .neq false 3 (.t 30) (.t 31)),[]),(.p 33 28 32,[]),(.m 34 33,[]),(.nf 35 34 2 8,[]),(.nl 36 34 35,[]),(.nl 37 34 13,[]),(.n 38 34 (.w 47 [.t 37]),[(.nl 36 34 35,false)]),(.n 39 34 (.bin .lss false 3 (.t 36) (.t 38)),[]),(.p 40 34 39,[]),(.m 41 40,[]),(.mn 42 41 3,[]),(.nb 43 41 .lss 3 42 0,[]),(.p 44 41 43,[]),(.m 45 44,[]),(.mn 46 45 3,[]),(.nb 47 45 .gtr 3 46 262144,[]),(.p 48 45 47,[]),(.m 49 48,[]),(.mn 50 49 4,[]),(.mn 51 49 5,[]),(.n 52 49 (.w 67 [.t 50,.t 51]),[]),(.n 53 49 (.un .not (.t 52)),[]),(.p 54 49 53,[])]) (.cond (.t 54) (.q [.e 12] .ret) .skip)) (.q [.m 55 4,.z 56 (.build [.nilSl,(.i 0)] [(1,1,.t 55)]),.x 57 56,.z 14 (.alloc [.nilPtr]),.S 1 14 57] (.q [.L 58 3 8,.l 59 13,.b 60 .add 3 59 1,.z 61 (.w 68 [.t 58,.k 0,.t 60]),.z 15 (.alloc [(.i 0),(.i 0),(.i 0)]),.S 3 15 61] (.q [.m 62 5,.m 63 5,.b 64 .add 3 63 1,.m 65 5,.b 66 .add 3 65 2,.m 67 5,.b 68 .add 3 67 3,.m 69 5,.b 70 .add 3 69 4,.m 71 5,.b 72 .add 3 71 5,.m 73 5,.b 74 .add 3 73 6,.z 16 (.alloc [(.i 0)]),.z 17 (.alloc [(.i 0)]),.z 18 (.alloc [(.i 0)]),.z 19 (.alloc [(.i 0)]),.z 20 (.alloc [(.i 0)]),.z 21 (.alloc [(.i 0)]),.z 22 (.alloc [(.i 0)]),.S 1 16 62,.S 1 17 64,.S 1 18 66,.S 1 19 68,.S 1 20 70,.S 1 21 72,.S 1 22 74] (.q [.z 75 (.mkFunc 102 [] [.t 14,.t 21,.t 13,.t 18,.t 15,.t 20,.t 7,.t 16]),.z 23 (.alloc [.nilFn]),.S 1 23 75] (.q [.l 76 14,.l 77 16,.z 78 (.w 69 [.t 76,.t 77,.c (.u 0)])] (.q [.l 79 14,.l 80 17,.z 81 (.w 69 [.t 79,.t 80,.c (.u 1)])] (.q [.l 82 14,.L 83 3 15,.l 84 16,.V 85 72 82 83 84] (.q [.l 86 14,.m 87 3,.b 88 .add 3 87 1,.z 89 (.mkFunc 105 [] [.t 14,.t 13,.t 18,.t 15,.t 19,.t 17,.t 23,.t 22,.t 21,.t 20]),.V 90 73 86 88 89] (.q [.l 91 14,.l 92 13,.z 93 (.mkFunc 114 [] [.t 14,.t 18,.t 15,.t 6]),.V 94 73 91 92 93] (.q [.l 95 14,.N 96 95,.f 97 0 96,.l 98 97,.m 12 98] .ret)))))))))))))
def r_power_Radix:Na Tryz.prog 49=some ⟨99,z76.r,[.tmp 12]⟩:=Aa
def zb4:LC:=(.q [.x 9 0] (.q [.l 10 1,.l 11 2,.z 12 (.w 69 [.t 10,.t 11,.c (.u 0)])] (.q [.l 13 1,.l 14 3,.z 15 (.mkFunc 103 [] [.t 1,.t 4,.t 5,.t 6,.t 7,.t 2,.t 9]),.V 16 73 13 14 15] (.q [.l 17 1,.l 18 4,.L 19 3 5,.l 20 3,.z 21 (.w 70 [.t 17,.t 18,.t 19,.k (-1),.t 20])] (.ops [.l 22 1,.l 23 6,.l 24 2,.l 25 4,.l 26 8,.l 27 2,.z 28 (.w 104 [.t 22,.k 12,.t 23,.t 24,.t 25,.t 26,.t 27])])))))
def r_power_Radix_1:Na Tryz.prog 102=some ⟨29,zb4.r,[]⟩:=Aa
def z9q:LC:=(.q [.l 9 1,.l 10 2,.L 11 3 3,.m 12 0,.z 13 (.w 70 [.t 9,.t 10,.t 11,.t 12,.k 0])] (.q [.l 14 1,.l 15 4,.L 16 3 5,.m 17 0,.z 18 (.w 70 [.t 14,.t 15,.t 16,.t 17,.k 0])] (.q [.l 19 1,.l 20 4,.l 21 6,.l 22 2,.l 23 4,.l 24 6,.z 25 (.w 104 [.t 19,.k 12,.t 20,.t 21,.t 22,.t 23,.t 24])] (.ops [.l 26 7,.m 27 0,.z 28 (.callV (.t 26) [.t 27])]))))
def r_power_Radix_1_1:Na Tryz.prog 103=some ⟨29,z9q.r,[]⟩:=Aa
def zc4:LC:=(.q [.l 12 1,.l 13 2,.b 14 .add 3 13 1,.z 15 (.mkFunc 106 [] [.t 1,.t 3,.t 4,.t 5,.t 6]),.V 16 73 12 14 15] (.q [.l 17 7,.z 18 (.callV (.t 17) [(.c (.fn (.func 111) [] []))])] (.q [.l 19 1,.l 20 8,.l 21 9,.V 22 110 19 20 21] (.q [.l 23 7,.z 24 (.mkFunc 112 [] [.t 1,.t 10,.t 8,.t 3,.t 4]),.z 25 (.callV (.t 23) [.t 24])] (.q [.l 26 1,.l 27 10,.l 28 8,.l 29 3,.l 30 10,.z 31 (.w 113 [.t 26,.t 27,.t 28,.t 29,.t 30])] (.q [.l 32 1,.L 33 3 4,.l 34 2,.l 35 10,.z 36 (.w 109 [.t 32,.t 33,.k (-1),.t 34,.t 35])] (.ops [.l 37 1,.l 38 6,.z 39 (.w 69 [.t 37,.t 38,.c (.u 0)])])))))))
def r_power_Radix_2:Na Tryz.prog 105=some ⟨40,zc4.r,[]⟩:=Aa
def z9n:LC:=(.q [.l 7 1,.l 8 2,.L 9 3 3,.m 10 0,.z 11 (.w 70 [.t 7,.t 8,.t 9,.t 10,.k 0])] (.q [.l 12 1,.l 13 4,.l 14 2,.z 15 (.w 107 [.t 12,.k 9,.t 13,.t 14,.k 63])] (.q [.l 16 1,.l 17 2,.l 18 2,.z 19 (.w 107 [.t 16,.k 8,.t 17,.t 18,.k 1])] (.q [.l 20 1,.l 21 2,.l 22 2,.l 23 5,.z 24 (.w 108 [.t 20,.k 6,.t 21,.t 22,.t 23])] (.q [.l 25 1,.L 26 3 3,.m 27 0,.l 28 2,.z 29 (.w 109 [.t 25,.t 26,.t 27,.k 0,.t 28])] (.ops [.l 30 1,.l 31 5,.l 32 4,.V 33 110 30 31 32]))))))
def r_power_Radix_2_1:Na Tryz.prog 106=some ⟨34,z9n.r,[]⟩:=Aa
def z8v:LC:=.skip
def r_power_Radix_2_2:Na Tryz.prog 111=some ⟨2,z8v.r,[]⟩:=Aa
def z93:LC:=(.q [.l 7 1,.l 8 2,.l 9 3,.l 10 4,.l 11 2,.z 12 (.w 113 [.t 7,.t 8,.t 9,.t 10,.t 11])] (.ops [.l 13 1,.L 14 3 5,.m 15 0,.l 16 2,.z 17 (.w 109 [.t 13,.t 14,.t 15,.k 0,.t 16])]))
def r_power_Radix_2_3:Na Tryz.prog 112=some ⟨18,z93.r,[]⟩:=Aa
def zba:LC:=(.q [.l 6 1,.l 7 2,.L 8 3 3,.m 9 0,.z 10 (.w 70 [.t 6,.t 7,.t 8,.t 9,.k 0])] (.ops [.l 11 1,.L 12 3 4,.m 13 0,.l 14 2,.z 15 (.w 109 [.t 11,.t 12,.t 13,.k 0,.t 14])]))
def r_power_Radix_3:Na Tryz.prog 114=some ⟨16,zba.r,[]⟩:=Aa
def fy(k:Int):Int:=if k<1 then 0 else k+1
def zdd{G:M0}{K:LV→M0→Prop}{n:Int}(j:n≤1000000000)(k:K (.i (fy n)) G):Ob (.fn 47) [.i n] G K:=by
 refine Nb r_power_Rest Aa N ?_;unfold fy at k;by_cases g:n<1
 ·rw[H7 g]at k;simpa [zc9,g] using k
 ·rw[Hv g]at k;simp[zc9,g];exact⟨J,k⟩
def Rp(l w:Int):Int:=if l<1∨512<l∨w<1∨6<w then 0 else (64*l+w-1)/w
def Rv(l w:Int):Int:=if l<1∨512<l∨w<1∨6<w then 0 else Rp l w*w-64*l
def zao(l w:Int):Nj 45 [.i l,.i w] (.tup [.i (Rp l w),.i (Rv l w)]) []:=by
 refine Oj.val rfl (Nb r_power_Windows Aa N ?_);by_cases g:l<1
 ·simp[z2o,Rp,Rv,g]
 by_cases j:512<l
 ·simp[z2o,Rp,Rv,g,j]
 by_cases z:w<1
 ·simp[z2o,Rp,Rv,g,j,z]
 by_cases A:6<w
 ·simp[z2o,Rp,Rv,g,j,z,A]
 have B:(64*l+w-1).tdiv w=(64*l+w-1)/w:=Mu J;have hw:w=1∨w=2∨w=3∨w=4∨w=5∨w=6:=J
 have C:0≤(64*l+w-1)/w∧(64*l+w-1)/w≤40000∧0≤(64*l+w-1)/w*w∧(64*l+w-1)/w*w≤40000:=by
  rcases hw with rfl|rfl|rfl|rfl|rfl|rfl<;>omega
 simp[z2o,Rp,Rv,g,j,z,A,B];generalize (64*l+w-1)/w=q at *;omega
structure RxC (sf:Nat→Nat) (d n r:Pc) (k R:Int) (G:M0):Prop where
 d:G[0]?=some (.cells d.f (sf 0))
 n:G[1]?=some (.cells n.f (sf 1))
 k:G[3]?=some (.cells [.i k] (sf 3))
 x:G[5]?=some (.cells [.ptr 4 0] (sf 5))
 r:G[8]?=some (.cells r.f (sf 8))
 z:G[9]?=some (.cells [.i R] (sf 9))
 b:G[10]?=some (.cells [.i (R+1)] (sf 10))
 l:G[11]?=some (.cells [.i (R+2)] (sf 11))
 o:G[12]?=some (.cells [.i (R+3)] (sf 12))
 s:G[13]?=some (.cells [.i (R+4)] (sf 13))
 c:G[14]?=some (.cells [.i (R+5)] (sf 14))
 m:G[15]?=some (.cells [.i (R+6)] (sf 15))
 t:G[16]?=some (.cells [.fn (.func 102) [] [.ptr 5 0,.ptr 14 0,.ptr 3 0,.ptr 11 0,.ptr 8 0,.ptr 13 0,.ptr 1 0,.ptr 9 0]] (sf 16))
section rx
variable {sf : Nat → Nat} {d n r : Pc} {k R deep : Int} {G G' : M0} {K : LV → M0 → Prop} {ops : List Lo}
def RxC.kp(h:RxC sf d n r k R G)(q:Kp 4 G G'):RxC sf d n r k R G' :=
 ⟨q.cells Ac h.d,q.cells Ac h.n,q.cells Ac h.k,q.cells Ac h.x,q.cells Ac h.r,q.cells Ac h.z,q.cells Ac h.b,q.cells Ac h.l,q.cells Ac h.o,q.cells Ac h.s,q.cells Ac h.c,q.cells Ac h.m,q.cells Ac h.t⟩
structure RxN (d n r:Pc) (k R deep:Int):Prop where
 d:-1000000≤d.at_∧d.at_≤1000000
 n:-1000000≤n.at_∧n.at_≤1000000
 r:-1000000≤r.at_∧r.at_≤1000000
 k:1≤k∧k≤1000000
 D:0≤deep∧deep≤50
def zvw{f:Nat}{fst cap:List LV}{X:List Lo}(hC:RxC sf d n r k R G)(F:RxN d n r k R deep)(h:Nl G 4 ops deep)(hl:ops.length≤700000)(hX:X.length≤10)
  (hb:∀(H:M0) (g:List Lo) (Q:LV→M0→Prop),RxC sf d n r k R H→Nl H 4 g (deep+1)→g.length≤750000→(∀I,Nl I 4 (g++X) (deep+1)→Kp 4 H I→Q (.tup []) I)→Ob (.fn f) (fst++.i deep::cap) H Q)
  (kk:∀G',Nl G' 4 (ops++(V9 n r k R deep X).flat) deep→Kp 4 G G'→K (.tup []) G') :
  Ob (.fn 102) [.fn (.func f) fst cap,.ptr 5 0,.ptr 14 0,.ptr 3 0,.ptr 11 0,.ptr 8 0,.ptr 13 0,.ptr 1 0,.ptr 9 0] G K:=by
 refine Nb r_power_Radix_1 Aa N ?_;have l4:16<G.length:=(Hu.1 hC.t).1;have k0:Kp 4 G (G++[.cells [.fn (.func f) fst cap] 0]):=Kp.app' _ _ _;have h0:=h.app [.cells [.fn (.func f) fst cap] 0];have T:=hC.kp k0;have e0:(G++[LObj.cells [.fn (.func f) fst cap] 0])[G.length]?=some (.cells [.fn (.func f) fst cap] 0):=Im;simp[zb4];generalize G++[LObj.cells [.fn (.func f) fst cap] 0]=G0 at *;generalize G.length=gz at *;have j:gz≠4:=J
 simp[T.x,T.c];refine W8 h0 J λH h1 U=>?_
 have P:=T.kp U;have e1:=U.cells j e0;simp[P.x,P.k];refine Z5 (fst:=[]) (cap:=[.ptr 5 0,.ptr 11 0,.ptr 8 0,.ptr 13 0,.ptr 1 0,.ptr 14 0,.ptr gz 0]) (B:=M5 (Vh n r R deep++X)) (by have:=F.D;omega) h1 Ab (by rw[flat_frL];simp[Vh];omega) (λI gg Q V L l2 hk=>?_) λI V L=>?_
 ·rw[flat_frL]at hk;refine Nb r_power_Radix_1_1 Aa N ?_;have z:=P.kp L;have e2:=L.cells j e1;have A:=z.r;have D:=z.n;unfold Pc.f at A D;simp at l2;simp[z9q,z.x,z.l,A];refine Tg (p:=r) (by have:=F.r;omega) V J λG3 Y E=>?_
  have C:=z.kp E;have e3:=E.cells j e2;have D:=C.n;unfold Pc.f at D;simp[C.x,C.s,D];refine Tg (p:=n) (by have:=F.n;omega) Y Ab λG4 Z M=>?_
  have O:=C.kp M;have e4:=M.cells j e3;simp[O.x,O.s,O.c,O.l];refine z6i Z Ab λG5 h5 k5=>?_
  have c5:=O.kp k5;have e5:=k5.cells j e4;simp[e5];refine hb G5 _ _ c5 h5 Ab λG6 h6 k6=>?_
  simp;refine hk G6 ?_ (E.trans (M.trans (k5.trans k6)));simpa [Vh] using h6
 have z:=P.kp L;have hL:(Og deep k (M5 (Vh n r R deep++X))).flat.length≤20:=by rw[Vq];split<;>simp[flat_frL,Vh];omega
 have A:=z.r;unfold Pc.f at A;simp[z.x,z.l,z.k,A];refine Tg (p:=r) (by have:=F.r;have:=F.k;omega) V Ab λG3 Y E=>?_
 have C:=z.kp E;simp[C.x,C.s,C.c,C.l,C.z];refine z6i Y Ab λG4 Z M=>?_
 simp;refine kk G4 ?_ (k0.trans (U.trans (L.trans (E.trans M))));unfold V9;rw[Pb,Pb,flat_frL,flat_frL];simpa using Z
def zck{X:List Lo}(g:X.length≤10):(V9 n r k R deep X).flat.length≤30:=by
 unfold V9;rw[Pb,Pb,flat_frL,flat_frL,Vq];split<;>simp[flat_frL,Vh];omega
def zmt{p:Pc}{n l o b D:Int}:(Zs p n l o b D).flat.length≤10:=by
 unfold Zs;rw[Vq];split<;>simp[flat_frL]
def rxRound_len:(ga n r k R deep).flat.length≤100:=by
 have g:=zck (n:=n) (r:=r) (k:=k) (R:=R) (deep:=deep) (X:=[]) N;have j:=zck (n:=n) (r:=r) (k:=k) (R:=R) (deep:=deep) (X:=[Ns (R+4) (R+6) (R+2) (R+4),Nd r deep 0 (R+4)]) N;have z:=zmt (p:=r) (n:=k+1) (l:=R+2) (o:=R+3) (b:=R+1) (D:=deep);unfold ga;simp only[Pb,flat_frL,H8,Ig,Iw];omega
def zxp{i:Int}(Z:RxC sf d n r k R G)(L:RxN d n r k R deep)(h:Nl G 4 ops deep)(hl:ops.length≤600000)
  (kk:∀G',Nl G' 4 (ops++(ga n r k R deep).flat) deep→Kp 4 G G'→K (.tup []) G') :
  Ob (.fn 105) [.i i,.ptr 5 0,.ptr 3 0,.ptr 11 0,.ptr 8 0,.ptr 12 0,.ptr 10 0,.ptr 16 0,.ptr 15 0,.ptr 14 0,.ptr 13 0] G K:=by
 refine Nb r_power_Radix_2 Aa N ?_;have hk:=L.k;have hD:=L.D;have hr:=L.r;simp[zc4,Z.x,Z.k];refine⟨J,?_⟩;refine Z5 (fst:=[]) (cap:=[.ptr 5 0,.ptr 11 0,.ptr 8 0,.ptr 12 0,.ptr 10 0]) (B:=M5 [M9 (R+2) r deep 0,Qu 9 (R+3) (R+2) 63,Qu 8 (R+2) (R+2) 1,M1 6 (R+2) (R+2) (R+1),Nd r deep 0 (R+2),Qk (R+1) (R+3)]) J h J B8 (λG2 gB K' h2 k2 l2 M=>?_) λG2 h2 k2=>?_
 ·rw[flat_frL]at M;refine Nb r_power_Radix_2_1 Aa N ?_;have C:=Z.kp k2;have g:=C.r;unfold Pc.f at g;simp[z9n,C.x,C.l,g];refine Tg (p:=r) J h2 J λG3 O P=>?_
  have A:=C.kp P;simp[A.x,A.o,A.l];refine z7u O Ab λG4 h4 Q=>?_
  have E:=A.kp Q;simp[E.x,E.o,E.l];refine z7u h4 Ab λG5 T U=>?_
  have j:=E.kp U;simp[j.x,j.b,j.l];refine Xz T Ab λG6 V F=>?_
  have z:=j.kp F;have g:=z.r;unfold Pc.f at g;simp[z.x,z.l,g];refine Ux (p:=r) J V Ab λG7 Y H=>?_
  have I:=z.kp H;simp[I.x,I.b,I.o];refine zce Y Ab λG8 h8 k8=>?_
  simp;refine M G8 ?_ (P.trans (Q.trans (U.trans (F.trans (H.trans k8)))));simpa using h8
 have C:=Z.kp k2;have gE:=zmt (p:=r) (n:=k+1) (l:=R+2) (o:=R+3) (b:=R+1) (D:=deep);have gg:Nl G2 4 (ops++(Zs r (k+1) (R+2) (R+3) (R+1) deep).flat) deep:=h2;simp[C.t];refine zvw (fst:=[]) (cap:=[]) (X:=[]) C L gg Ab N (λG3 gC K' A O l3 gz=>?_) λG3 O P=>?_
 ·refine Nb r_power_Radix_2_2 Aa N ?_;simp[z8v];exact gz G3 (by simpa using O) (Kp.refl _ _)
 have A:=C.kp P;have gF:=zck (n:=n) (r:=r) (k:=k) (R:=R) (deep:=deep) (X:=[]) N;simp[A.x,A.m,A.c];refine zce O Ab λG4 h4 Q=>?_
 have E:=A.kp Q;simp[E.t];refine zvw (fst:=[]) (cap:=[.ptr 5 0,.ptr 13 0,.ptr 15 0,.ptr 11 0,.ptr 8 0]) (X:=[Ns (R+4) (R+6) (R+2) (R+4),Nd r deep 0 (R+4)]) E L h4 Ab N (λG5 gD K' j T l5 gA=>?_) λG5 T U=>?_
 ·refine Nb r_power_Radix_2_3 Aa N ?_;simp[z93,j.x,j.s,j.m,j.l];refine znl T J λG6 V F=>?_
  have z:=j.kp F;have g:=z.r;unfold Pc.f at g;simp[z.x,z.s,g];refine Ux (p:=r) J V Ab λG7 Y H=>?_
  simp;exact gA G7 (by simpa using Y) (F.trans H)
 have j:=E.kp U;have gG:=zck (n:=n) (r:=r) (k:=k) (R:=R) (deep:=deep) (X:=[Ns (R+4) (R+6) (R+2) (R+4),Nd r deep 0 (R+4)]) N;simp[j.x,j.s,j.m,j.l];refine znl T Ab λG6 V F=>?_
 have z:=j.kp F;have g:=z.r;unfold Pc.f at g;simp[z.x,z.s,z.k,g];refine Ux (p:=r) J V Ab λG7 Y H=>?_
 have I:=z.kp H;simp[I.x,I.b];refine W8 Y Ab λG8 h8 k8=>?_
 simp;refine kk G8 ?_ (k2.trans (P.trans (Q.trans (U.trans (F.trans (H.trans k8))))));unfold ga;simp only[Pb,flat_frL];simpa using h8
def ym(z:RxC sf d n r k R G)(B:RxN d n r k R deep)(h:Nl G 4 ops deep)(L:ops.length≤600000)
  (D:∀G',Nl G' 4 (ops++[M9 (R+2) r (deep-1) 0,Nd d (deep-1) 0 (R+2)]) deep→Kp 4 G G'→K (.tup []) G') :
  Ob (.fn 114) [.i (deep-1),.ptr 5 0,.ptr 11 0,.ptr 8 0,.ptr 0 0] G K:=by
 refine Nb r_power_Radix_3 Aa N ?_;have g:=z.r;unfold Pc.f at g;simp[zba,z.x,z.l,g];refine Tg (p:=r) (by have:=B.r;omega) h J λM E C=>?_
 have A:=z.kp C;have j:=A.d;unfold Pc.f at j;simp[A.x,A.l,j];refine Ux (p:=d) (by have:=B.d;omega) E Ab λF H I=>?_
 simp;exact D F Bn (C.trans I)
end rx
def Ty(d n w:Pc)(bits deep R:Int):Bool:=decide (1≤n.size)&&(decide (d.size=n.size)&&(decide (fy n.size≤w.size)&&(decide (0≤bits)&&(decide (bits≤262144)&&me deep R))))
def qp(d n w:Pc)(bits deep R:Int):List Lo:=if Ty d n w bits deep R=true then (Ww d n ⟨w.buf,w.at_,n.size+1⟩ n.size bits R deep).flat else []
def zch{d n r:Pc}{k bits R D:Int}:(Ww d n r k bits R D).flat.length≤200:=by
 have g:=rxRound_len (n:=n) (r:=r) (k:=k) (R:=R) (deep:=D+1);unfold Ww Si ay;simp only[Pb,flat_frL,Vq,H8,Ig,Iw];split<;>split<;>split<;>simp[flat_frL]<;>omega
def sfR(i:Nat):Nat:=if i≤1 then 0 else 1
def zd8{d n w:Pc}{bits deep R:Int}(L:-1000000≤d.at_∧d.at_≤1000000)(M:-1000000≤n.at_∧n.at_≤1000000)(hw:-1000000≤w.at_∧w.at_≤1000000)(hn:n.size≤1000000) :
  O2 49 [.agg d.f,.agg n.f,.agg w.f,.i bits,.i deep,.i R] (.lst (Pm (qp d n w bits deep R)) (qp d n w bits deep R).length 8):=by
 refine Sa.mk (by simp[LV.dat,Ug]) (Nb r_power_Radix Aa N ?_);have g:Ty d n w bits deep R=false→qp d n w bits deep R=[]:=λh=>by unfold qp;rw[h];simp
 by_cases C:n.size<1
 ·rw[g Df];simp[z76,Pc.f,C,Pm]
 by_cases D:d.size=n.size
 rotate_left
 ·rw[g Df];simp[z76,Pc.f,C,D,Pm]
 simp[z76,Pc.f,C,D];refine zdd J ?_;have O:fy n.size=n.size+1:=by unfold fy;rw[Hv C]
 by_cases E:w.size<fy n.size
 ·rw[g Df];simp[E,Pm]
 by_cases P:bits<0
 ·rw[g Df];simp[E,P,Pm]
 by_cases Z:262144<bits
 ·rw[g Df];simp[E,P,Z,Pm]
 simp[E,P,Z];refine z69 ?_;by_cases z:me deep R=true
 rotate_left
 ·rw[g (by simp[Ty,z])];simp[z,Pm]
 simp[z];have hR:16≤R∧R≤50∧0≤deep∧deep≤6:=by simp[me]at z;omega
 refine⟨J,?_⟩;refine z5w (p:=w) J ?_;simp[Pc.f]
 repeat (refine⟨J,?_⟩)
 refine W8 (ops:=[]) (deep:=deep) ⟨0,.nilSl,rfl,Py.nil⟩ N λG1 h1 k1=>?_
 have Q:=RxC.kp (sf:=sfR) (d:=d) (n:=n) (r:=⟨w.buf,w.at_,n.size+1⟩) (k:=n.size) (R:=R) ⟨by simp[Pc.f,D,sfR],rfl,rfl,rfl,rfl,rfl,rfl,rfl,rfl,rfl,rfl,rfl,rfl⟩ k1;have j:RxN d n ⟨w.buf,w.at_,n.size+1⟩ n.size R (deep+1):=⟨L,M,hw,J,J⟩;generalize hr:(⟨w.buf,w.at_,n.size+1⟩:Pc)=r at *;have gA:r.size=n.size+1:=by rw[←hr]
 simp[Q.x,Q.b];refine W8 h1 N λG2 h2 k2=>?_
 have F:=Q.kp k2;have A:=F.r;unfold Pc.f at A;simp[F.x,F.z,A];refine znr (p:=r) J j.r h2 N λG3 h3 k3=>?_
 have T:=F.kp k3;have gB:(Si r R deep).flat.length≤10:=F6
 simp[T.x];refine⟨J,?_⟩;refine Z5 (fst:=[]) (cap:=[.ptr 5 0,.ptr 3 0,.ptr 11 0,.ptr 8 0,.ptr 12 0,.ptr 10 0,.ptr 16 0,.ptr 15 0,.ptr 14 0,.ptr 13 0]) (B:=ga n r n.size R (deep+1)) J h3 Ab (by have:=rxRound_len (n:=n) (r:=r) (k:=n.size) (R:=R) (deep:=deep+1);omega) (λG4 gg K' U V l4 H=>?_) λG4 U V=>?_
 ·simp at l4;exact zxp (T.kp V) j U J H
 have I:=T.kp V;have gC:(Og deep (bits+1) (ga n r n.size R (deep+1))).flat.length≤110:=by
  have:=rxRound_len (n:=n) (r:=r) (k:=n.size) (R:=R) (deep:=deep+1);rw[Vq];split
  ·simp
  ·simp;omega
 simp[I.x,I.k];refine Z5 (fst:=[]) (cap:=[.ptr 5 0,.ptr 11 0,.ptr 8 0,.ptr 0 0]) (B:=M5 [M9 (R+2) r deep 0,Nd d deep 0 (R+2)]) J U Ab B8 (λG5 gz K' X Y l5 H=>?_) λG5 X Y=>?_
 ·rw[flat_frL]at H;simp at l5;have:=ym (K:=K') (deep:=deep+1) (I.kp Y) j X J (by rw[(J:deep+1-1=deep)];exact H);rw[(J:deep+1-1=deep)]at this;exact this
 have c5:=I.kp Y;obtain⟨gD,v,e1,e2⟩:=X;have hC:qp d n w bits deep R=[cK R 0]++([cK (R+1) 1]++((Si r R deep).flat++((Og deep (bits+1) (ga n r n.size R (deep+1))).flat++(Og deep n.size (M5 [M9 (R+2) r deep 0,Nd d deep 0 (R+2)])).flat))):=by
  unfold qp;rw[H7 (by simp[Ty,D,z];omega),hr];unfold Ww ay;rw[Pb,Pb,Pb,flat_frL];rfl
 simp[-O5,c5.x,e1];rw[hC];simpa using zuo e2.bor
end
section
def z7v:LC:=(.q [.x 5 1,.x 6 2,.x 7 3] (.draw [(.m 8 0,[]),(.N 9 8,[]),(.f 10 0 9,[]),(.l 11 10,[]),(.m 12 0,[]),(.N 13 12,[]),(.f 14 0 13,[]),(.l 15 14,[]),(.N 16 15,[]),(.f 17 0 16,[]),(.l 18 17,[]),(.L 19 3 5,[]),(.L 20 3 6,[]),(.L 21 3 7,[]),(.m 22 0,[]),(.N 23 22,[]),(.f 24 7 23,[]),(.L 25 3 24,[]),(.m 26 0,[]),(.N 27 26,[]),(.f 28 22 27,[]),(.L 29 3 28,[]),(.m 30 0,[]),(.N 31 30,[]),(.f 32 0 31,[]),(.l 33 32,[]),(.N 34 33,[]),(.f 35 1 34,[]),(.l 36 35,[]),(.m 37 0,[]),(.N 38 37,[]),(.f 39 36 38,[]),(.l 40 39,[]),(.z 41 (.w 23 [.t 19,.t 20,.t 21,.t 25,.t 29,.t 36,.t 40]),[(.l 18 17,false),(.l 15 14,false),(.l 11 10,false)]),(.a 42 8 18 41,[(.l 11 10,false)]),(.N 43 11,[]),(.f 44 0 43,[]),(.S 1 44 42,[])]))
def r_power_powers_mont:Na Tryz.prog 155=some ⟨45,z7v.r,[]⟩:=Aa
def z6v:LC:=(.q [.x 4 1] (.draw [(.m 6 0,[]),(.N 7 6,[]),(.f 8 0 7,[]),(.l 9 8,[]),(.m 10 0,[]),(.N 11 10,[]),(.f 12 0 11,[]),(.l 13 12,[]),(.N 14 13,[]),(.f 15 0 14,[]),(.l 16 15,[]),(.L 17 3 4,[]),(.m 18 0,[]),(.N 19 18,[]),(.f 20 7 19,[]),(.L 21 3 20,[]),(.m 22 0,[]),(.N 23 22,[]),(.f 24 22 23,[]),(.L 25 3 24,[]),(.m 26 2,[]),(.m 27 0,[]),(.N 28 27,[]),(.f 29 0 28,[]),(.l 30 29,[]),(.N 31 30,[]),(.f 32 1 31,[]),(.l 33 32,[]),(.m 34 0,[]),(.N 35 34,[]),(.f 36 36 35,[]),(.l 37 36,[]),(.z 38 (.w 49 [.t 17,.t 21,.t 25,.t 26,.t 33,.t 37]),[(.l 16 15,false),(.l 13 12,false),(.l 9 8,false)]),(.a 39 8 16 38,[(.l 9 8,false)]),(.N 40 9,[]),(.f 41 0 40,[]),(.S 1 41 39,[])]))
def r_power_powers_radix:Na Tryz.prog 153=some ⟨42,z6v.r,[]⟩:=Aa
def z71:LC:=(.q [.z 4 (.alloc [(.i 0),(.i 0),(.i 0)])] (.seq (.draw [(.m 5 0,[]),(.N 6 5,[]),(.f 7 25 6,[]),(.L 8 3 7,[]),(.m 9 1,[]),(.m 10 0,[]),(.N 11 10,[]),(.f 12 7 11,[]),(.f 13 2 12,[]),(.l 14 13,[]),(.c 15 .mul 3 9 14,[]),(.m 16 0,[]),(.N 17 16,[]),(.f 18 7 17,[]),(.f 19 2 18,[]),(.l 20 19,[]),(.V 21 68 8 15 20,[]),(.S 3 4 21,[])]) .ret))
def r_power_powers_entry:Na Tryz.prog 154=some ⟨22,z71.r,[.cellN 4 3]⟩:=Aa
def z65:LC:=(.q [.x 3 0,.x 4 1,.x 5 2] (.draw [(.l 6 3,[]),(.N 7 6,[]),(.f 8 0 7,[]),(.l 9 8,[]),(.l 10 3,[]),(.N 11 10,[]),(.f 12 7 11,[]),(.f 13 2 12,[]),(.l 14 13,[]),(.z 15 (.mkFunc 182 [] [.t 3,.t 5,.t 4]),[]),(.V 16 73 9 14 15,[])]))
def r_power_powers_copies:Na Tryz.prog 156=some ⟨17,z65.r,[]⟩:=Aa
def z4x:LC:=(.seq (.draw [(.l 5 1,[]),(.N 6 5,[]),(.f 7 0 6,[]),(.l 8 7,[]),(.l 9 1,[]),(.N 10 9,[]),(.f 11 31 10,[]),(.l 12 11,[]),(.L 13 3 2,[]),(.m 14 0,[]),(.z 15 (.w 70 [.t 8,.t 12,.t 13,.t 14,.k 0]),[])]) (.draw [(.l 16 1,[]),(.N 17 16,[]),(.f 18 0 17,[]),(.l 19 18,[]),(.L 20 3 3,[]),(.m 21 0,[]),(.l 22 1,[]),(.N 23 22,[]),(.f 24 31 23,[]),(.l 25 24,[]),(.z 26 (.w 109 [.t 19,.t 20,.t 21,.k 0,.t 25]),[])]))
def r_power_powers_copies_1:Na Tryz.prog 182=some ⟨27,z4x.r,[]⟩:=Aa
def z7l:LC:=(.q [.x 1 0] (.q [.l 3 1,.N 4 3,.f 5 7 4,.f 6 2 5,.l 7 6,.z 2 (.alloc [(.i 0)]),.S 1 2 7] (.seq (.draw [(.l 8 1,[]),(.l 9 1,[]),(.l 11 2,[]),(.z 12 (.bin .mul true 3 (.k 64) (.t 11)),[]),(.z 10 (.w 154 [.t 9,.k 0]),[(.l 11 2,false),(.l 8 1,false)]),(.V 13 153 8 10 12,[])]) (.seq (.draw [(.l 14 1,[]),(.l 15 1,[]),(.N 16 15,[]),(.f 17 16 16,[]),(.L 18 3 17,[]),(.l 19 2,[]),(.z 20 (.bin .mul true 3 (.k 128) (.t 19)),[]),(.V 21 153 14 18 20,[])]) (.seq (.draw [(.l 22 1,[]),(.l 23 1,[]),(.N 24 23,[]),(.f 25 13 24,[]),(.L 26 3 25,[]),(.l 27 1,[]),(.N 28 27,[]),(.f 29 4 28,[]),(.L 30 3 29,[]),(.l 31 1,[]),(.N 32 31,[]),(.f 33 16 32,[]),(.L 34 3 33,[]),(.z 35 (.w 155 [.t 22,.t 26,.t 30,.t 34]),[])]) (.seq (.draw [(.l 36 1,[]),(.l 37 1,[]),(.N 38 37,[]),(.f 39 10 38,[]),(.L 40 3 39,[]),(.l 41 1,[]),(.z 42 (.w 154 [.t 41,.k 0]),[(.L 40 3 39,false),(.l 37 1,false),(.l 36 1,false)]),(.V 43 156 36 40 42,[])]) (.seq (.draw [(.l 44 1,[]),(.N 45 44,[]),(.f 46 0 45,[]),(.l 47 46,[]),(.l 48 2,[]),(.z 49 (.cvInt .u64 (.t 48)),[]),(.z 50 (.w 69 [.t 47,.k 12,.t 49]),[])]) (.draw [(.l 51 1,[]),(.N 52 51,[]),(.f 53 0 52,[]),(.l 54 53,[]),(.l 55 1,[]),(.N 56 55,[]),(.f 57 35 56,[]),(.l 58 57,[]),(.z 59 (.bin .shl true 3 (.k 1) (.t 58)),[]),(.b 60 .sub 3 59 1,[]),(.z 61 (.mkFunc 157 [] [.t 1,.t 2]),[]),(.V 62 73 54 60 61,[])]))))))))
def r_power_powers_fill:Na Tryz.prog 98=some ⟨63,z7l.r,[]⟩:=Aa
def z6j:LC:=(.seq (.draw [(.l 4 1,[]),(.l 5 1,[]),(.N 6 5,[]),(.f 7 10 6,[]),(.L 8 3 7,[]),(.l 9 1,[]),(.N 10 9,[]),(.f 11 10 10,[]),(.L 12 3 11,[]),(.l 13 1,[]),(.N 14 13,[]),(.f 15 13 14,[]),(.L 16 3 15,[]),(.z 17 (.w 155 [.t 4,.t 8,.t 12,.t 16]),[])]) (.seq (.draw [(.l 18 1,[]),(.N 19 18,[]),(.f 20 0 19,[]),(.l 21 20,[]),(.l 22 2,[]),(.z 23 (.mkFunc 158 [] [.t 1]),[]),(.V 24 73 21 22 23,[])]) (.seq (.draw [(.l 25 1,[]),(.N 26 25,[]),(.f 27 0 26,[]),(.l 28 27,[]),(.l 29 2,[]),(.z 30 (.cvInt .u64 (.t 29)),[]),(.z 31 (.w 69 [.t 28,.k 13,.t 30]),[])]) (.ops [.l 32 1,.N 33 32,.f 34 0 33,.l 35 34,.z 36 (.w 108 [.t 35,.k 3,.k 12,.k 12,.k 13])]))))
def r_power_powers_fill_1:Na Tryz.prog 157=some ⟨37,z6j.r,[]⟩:=Aa
def z54:LC:=(.seq (.draw [(.l 3 1,[]),(.N 4 3,[]),(.f 5 0 4,[]),(.l 6 5,[]),(.l 7 1,[]),(.N 8 7,[]),(.f 9 31 8,[]),(.l 10 9,[]),(.l 11 1,[]),(.N 12 11,[]),(.f 13 10 12,[]),(.L 14 3 13,[]),(.m 15 0,[]),(.z 16 (.w 70 [.t 6,.t 10,.t 14,.t 15,.k 0]),[])]) (.q [.l 17 1,.N 18 17,.f 19 0 18,.l 20 19,.m 21 0,.z 22 (.w 108 [.t 20,.k 3,.k 13,.k 12,.t 21])] (.draw [(.l 23 1,[]),(.N 24 23,[]),(.f 25 0 24,[]),(.l 26 25,[]),(.l 27 1,[]),(.N 28 27,[]),(.f 29 25 28,[]),(.L 30 3 29,[]),(.l 31 1,[]),(.N 32 31,[]),(.f 33 31 32,[]),(.l 34 33,[]),(.z 35 (.w 109 [.t 26,.t 30,.k 13,.k 0,.t 34]),[])])))
def r_power_powers_fill_1_1:Na Tryz.prog 158=some ⟨36,z54.r,[]⟩:=Aa
def Rk(e:Nat)(p:Pw):List LV:=[.ptr e 0,.i p.d.b,.i p.d.a,.i p.d.k,.i p.a.b,.i p.a.a,.i p.a.k,.i p.n.b,.i p.n.a,.i p.n.k,.i p.acc.b,.i p.acc.a,.i p.acc.k,.i p.base.b,.i p.base.a,.i p.base.k,.i p.cur.b,.i p.cur.a,.i p.cur.k,.i p.es.b,.i p.es.a,.i p.es.k,.i p.t.b,.i p.t.a,.i p.t.k,.i p.tab.b,.i p.tab.a,.i p.tab.k,
 .i p.B,.i ((p.B:Int)+1),.i ((p.B:Int)+2),.i ((p.B:Int)+3),.i ((p.B:Int)+4),.i ((p.B:Int)+5),.i ((p.B:Int)+6),.i p.w,.i ((p.B:Int)+10)]
structure PwN (p:Pw):Prop where
 nk:p.n.k=p.k
 dk:p.d.k=p.k
 ak:p.a.k=p.k
 k:1≤p.k∧p.k≤512
 d:p.d.a≤1000000
 a:p.a.a≤1000000
 b:p.b.a≤1000000∧1≤p.b.k∧p.b.k≤512
 n:p.n.a≤1000000
 w:1≤p.w∧p.w≤6
 B:16≤p.B∧p.B≤40
 wa:p.wa≤100000
 ov:p.over≤63
 ti:p.times≤100000
def Ui{d t:Int}{b:Fr Lo}{m:Nat}(h:b.flat.length≤m):(Og d t b).flat.length≤m+2:=by
 rw[Vq];split
 ·simp
 ·simp;omega
def ztv{d a b n t:Pc}{k R D:Int}:(W1 d a b n t k R D).flat.length≤200:=by
 have j:=Ui (d:=D+1) (t:=k) (b:=M5 (Ts a t R (D+1))) (m:=8) (by simp[flat_frL,Ts,Nr]);have z:=Ui (d:=D+1) (t:=k-1) (b:=M5 (Up n t R (D+1))) (m:=8) (by simp[flat_frL,Up,Nr]);have A:=Ui (d:=D) (t:=k) (b:=(Tj a b t k R (D+1) D).cat (To n t k R (D+1))) (m:=60) (by
  unfold Tj To;simp only[Pb,flat_frL,Nr,Om,H8,Ig,Iw];omega)
 have B:=Ui (d:=D) (t:=t.size) (b:=M5 [Nd t D 0 R]) (m:=1) Cl;have C:=Ui (d:=D) (t:=k) (b:=M5 (T7 n t R D++[])) (m:=3) (by simp[flat_frL,T7]);have E:=Ui (d:=D) (t:=k) (b:=M5 (T7 n t R D++[Ns (R+6) (R+10) (R+7) (R+6),Nd d D 0 (R+6)])) (m:=5) (by simp[flat_frL,T7]);have g:=zoa (R+10) (R+1);unfold W1 Xr Vt Si;simp only[Pb,flat_frL,H8,Ig,Iw,g];omega
section put
variable {G : M0} {K : LV → M0 → Prop} {e P st : Nat} {ops : List Lo} {deep : Int} {p : Pw}
def zgu{x:Nat}(h:x≤1000000):-1000000≤(x:Int)∧(x:Int)≤1000000:=J
def zey{d a b:Pn}(g:PwN p)(hD:0≤deep∧deep≤6)(hd:d.a≤1000000)(O:a.a≤1000000)(Q:b.a≤1000000)(kd:d.k=p.k)(ka:a.k=p.k)(kb:b.k=p.k)(I:G[P]?=some (.cells (Rk e p) st))(h:Nl G e ops deep)(hl:ops.length≤900000)
  (k:∀z,Nl z e (ops++(p.mont d a b deep).flat) deep→Kp e G z→K (.tup []) z):Ob (.fn 155) [.ptr P 0,.agg d.p.f,.agg a.p.f,.agg b.p.f] G K:=by
 refine Nb r_power_powers_mont Aa N ?_;obtain⟨x,v,L,T⟩:=h;have U:e<G.length:=(Hu.1 L).1;have V:P<G.length:=(Hu.1 I).1;have X:=zq p;have A:p.t.a≤1000000:=El
 have B:=zfk (d:=d.p) (a:=a.p) (b:=b.p) (n:=p.n.p) (w:=p.t.p) (deep:=deep) (R:=(p.B:Int)+10) (zgu hd) (zgu O) (zgu Q) (zgu g.n) (zgu A) Fj;have Y:zq2 d.p a.p b.p p.n.p p.t.p deep ((p.B:Int)+10)=(p.mont d a b deep).flat:=by
  have hk:=g.k;have Z:=g.nk;have hB:=g.B;have hm:dv p.n.p.size=p.t.k:=by unfold dv;rw[Hv (by show ¬(p.n.k:Int)<1;omega)];show (p.n.k:Int)+2=((p.k+2:Nat):Int);omega
  unfold zq2;rw[H7 (by simp[qh,me,hm];refine⟨?_,?_,?_,?_,?_,J⟩<;>simp only[Pn.p]<;>omega),hm];unfold Pw.mont;rw[(Af:p.n.p.size=(p.k:Int))];rfl
 rw[Y]at B;have j:∀x:List LObj,(G++x)[P]?=_:=λx=>(M6 V).trans I
 have C:∀x:List LObj,(G++x)[e]?=_:=λx=>(M6 U).trans L
 have E:∀x,Kp e G (G++x):=λx=>Kp.app' e G x
 unfold Rk at j;simp[z7v,Pn.p,Pc.f,↓j,↓C];simp only[Pn.p,Pc.f]at B;refine R0 B Br ?_;simp[↓j,↓C];have M:=ztv (d:=d.p) (a:=a.p) (b:=b.p) (n:=p.n.p) (t:=p.t.p) (k:=p.k) (R:=(p.B:Int)+10) (D:=deep);refine⟨by show (p.mont d a b deep).flat.length≤_;unfold Pw.mont;omega,?_⟩;refine zmn (C _) T.push_end J λv' G5 F h5 hE hK H=>?_
 have p5:=H P _ (λ_ _ _ _ q=>Eu) (j _);simp[-LV.cells,F,h5,p5,↓j];exact k _ hE ((E _).trans hK)
def zpr{d:Pn}{bits:Int}(g:PwN p)(hD:0≤deep∧deep≤6)(hd:d.a≤1000000)(kd:d.k=p.k)(hb:0≤bits∧bits≤262144)(I:G[P]?=some (.cells (Rk e p) st))(h:Nl G e ops deep)(hl:ops.length≤900000)
  (k:∀z,Nl z e (ops++(p.radix d bits deep).flat) deep→Kp e G z→K (.tup []) z):Ob (.fn 153) [.ptr P 0,.agg d.p.f,.i bits] G K:=by
 refine Nb r_power_powers_radix Aa N ?_;obtain⟨x,v,L,O⟩:=h;have Q:e<G.length:=(Hu.1 L).1;have T:P<G.length:=(Hu.1 I).1;have A:p.t.a≤1000000:=El
 have B:=zd8 (d:=d.p) (n:=p.n.p) (w:=p.t.p) (bits:=bits) (deep:=deep) (R:=(p.B:Int)+10) (zgu hd) (zgu g.n) (zgu A) Fj;have U:qp d.p p.n.p p.t.p bits deep ((p.B:Int)+10)=(p.radix d bits deep).flat:=by
  have hk:=g.k;have V:=g.nk;have hB:=g.B;have hm:fy p.n.p.size=p.k+1:=by unfold fy;rw[Hv (by show ¬(p.n.k:Int)<1;omega)];show (p.n.k:Int)+1=_;omega
  unfold qp;rw[H7 (by simp[Ty,me,hm];refine⟨?_,?_,?_,J,J,J⟩<;>simp only[Pn.p,Pw.t]<;>omega)];unfold Pw.radix;rw[(Af:p.n.p.size=(p.k:Int))];rfl
 rw[U]at B;have j:∀x:List LObj,(G++x)[P]?=_:=λx=>(M6 T).trans I
 have C:∀x:List LObj,(G++x)[e]?=_:=λx=>(M6 Q).trans L
 have E:∀x,Kp e G (G++x):=λx=>Kp.app' e G x
 unfold Rk at j;simp[z6v,Pn.p,Pc.f,↓j,↓C];simp only[Pn.p,Pc.f]at B;refine R0 B Br ?_;simp[↓j,↓C];have M:=zch (d:=d.p) (n:=p.n.p) (r:=p.r.p) (k:=p.k) (bits:=bits) (R:=(p.B:Int)+10) (D:=deep);refine⟨by show (p.radix d bits deep).flat.length≤_;unfold Pw.radix;omega,?_⟩;refine zmn (C _) O.push_end J λv' G5 F X Y Z H=>?_
 have p5:=H P _ (λ_ _ _ _ q=>Eu) (j _);simp[-LV.cells,F,X,p5,↓j];exact k _ Y ((E _).trans Z)
def zij(g:PwN p)(B:G[P]?=some (.cells (Rk e p) st))(k:∀x,K (.agg p.ent.p.f) (G++x)):Ob (.fn 154) [.ptr P 0,.i 0] G K:=by
 refine Nb r_power_powers_entry Aa N ?_;have C:P<G.length:=(Hu.1 B).1;have z:∀x:List LObj,(G++x)[P]?=_:=λx=>(M6 C).trans B
 have D:p.tab.a≤1000000:=by have:=g.wa;have:=g.k;have:=g.b;simp only[Pw.tab];omega
 have F:=g.k;have A:=g.nk;unfold Rk at z;simp[z71,↓z];refine z5w (p:=p.tab.p) Af ?_;simp[↓z,Pc.f,Pn.p];have E:p.ent.p.f=[.i (p.tab.b:Int),.i (p.tab.a:Int),.i (p.n.k:Int)]:=by
  simp only[Pc.f,Pn.p,Pw.ent,A]
 have j:=k [LObj.cells [.i (p.tab.b:Int),.i (p.tab.a:Int),.i (p.n.k:Int)] 1,LObj.cells [.i (p.tab.b:Int),.i (p.tab.a:Int),.i (p.tab.k:Int)] 0,LObj.cells [.i (p.tab.b:Int),.i (p.tab.a:Int),.i (p.n.k:Int)] 1];rw[E]at j;simpa using j
def zlc{to fr:Pn}(hN:PwN p)(hD:0≤deep∧deep≤50)(ht:to.a≤1000000)(hf:fr.a≤1000000)(R:G[P]?=some (.cells (Rk e p) st))(g:P≠e)(h:Nl G e ops deep)(hl:ops.length≤800000)
  (k:∀E,Nl E e (ops++(p.copies to fr deep).flat) deep→Kp e G E→K (.tup []) E):Ob (.fn 156) [.ptr P 0,.agg to.p.f,.agg fr.p.f] G K:=by
 refine Nb r_power_powers_copies Aa N ?_;have le:e<G.length:=Al
 have lP:P<G.length:=(Hu.1 R).1;have F:=hN.nk;have H:(G++[LObj.cells [.ptr P 0] 0,LObj.cells to.p.f 0,LObj.cells fr.p.f 0])[G.length]?=some (.cells [.ptr P 0] 0):=N
 have T:(G++[LObj.cells [.ptr P 0] 0,LObj.cells to.p.f 0,LObj.cells fr.p.f 0])[G.length+1]?=some (.cells to.p.f 0):=N
 have U:(G++[LObj.cells [.ptr P 0] 0,LObj.cells to.p.f 0,LObj.cells fr.p.f 0])[G.length+2]?=some (.cells fr.p.f 0):=N
 have V:=h.app [LObj.cells [.ptr P 0] 0,LObj.cells to.p.f 0,LObj.cells fr.p.f 0];have I:=Kp.app' e G [LObj.cells [.ptr P 0] 0,LObj.cells to.p.f 0,LObj.cells fr.p.f 0];have X:=I.cells g R;have z:G.length≠e:=J
 have A:G.length+1≠e:=J
 have L:G.length+2≠e:=J
 unfold Pc.f Pn.p at T U H V I X;simp[z65,Pc.f,Pn.p];generalize G++[LObj.cells [.ptr P 0] 0,LObj.cells [.i (to.b:Int),.i (to.a:Int),.i (to.k:Int)] 0,LObj.cells [.i (fr.b:Int),.i (fr.a:Int),.i (fr.k:Int)] 0]=G0 at *;generalize G.length+2=w at *;generalize G.length+1=y at *;generalize G.length=gg at *;have j:=X;unfold Rk at j;simp[H,j,F];refine Z5 (fst:=[]) (cap:=[.ptr gg 0,.ptr w 0,.ptr y 0]) (B:=M5 [M9 (p.B+3) fr.p deep 0,Nd to.p deep 0 (p.B+3)]) J V J B8 (λG3 Y K' h3 C l3 Z=>?_) λM O Q=>?_
 ·rw[flat_frL]at Z;refine Nb r_power_powers_copies_1 Aa N ?_;have z3:=C.cells z H;have y3:=C.cells A T;have x3:=C.cells L U;have p3:=C.cells g j;simp[z4x,z3,x3,p3];refine Tg (p:=fr.p) Af h3 J λG4 h4 D=>?_
  have z4:=D.cells z z3;have y4:=D.cells A y3;have p4:=D.cells g p3;simp[z4,y4,p4];refine Ux (p:=to.p) Af h4 Ab λM O Q=>?_
  simp;exact Z M (by simpa using O) (D.trans Q)
 simp;exact k M O (I.trans Q)
def wj{p:Pw}{d a b:Pn}{D:Int}:(p.mont d a b D).flat.length≤200:=ztv
def z9p{p:Pw}{d:Pn}{bits D:Int}:(p.radix d bits D).flat.length≤200:=zch
def zcn{p:Pw}{a b:Pn}{D:Int}:(p.copies a b D).flat.length≤4:=Ui (m:=2) Cl
def zji(g:PwN p):p.acc.a≤1000000∧p.base.a≤1000000∧p.cur.a≤1000000∧p.es.a≤1000000∧p.t.a≤1000000∧p.tab.a≤1000000∧p.ent.a≤1000000:=by
 have j:=g.wa;have z:=g.k;have A:=g.b;simp only[Pw.acc,Pw.base,Pw.cur,Pw.es,Pw.t,Pw.tab,Pw.ent];omega
def zzr{q:Nat}{i:Int}(R:PwN p)(hD:0≤deep∧deep≤5)(hz:G[g]?=some (.cells [.ptr P 0] j))(C:g≠e)(hq:G[q]?=some (.cells [.i p.k] A))(F:q≠e)(T:G[P]?=some (.cells (Rk e p) st))(z:P≠e)(h:Nl G e ops (deep+1))(hl:ops.length≤700000)
  (k:∀U,Nl U e (ops++(p.fillR deep).flat) (deep+1)→Kp e G U→K (.tup []) U):Ob (.fn 157) [.i i,.ptr g 0,.ptr q 0] G K:=by
 refine Nb r_power_powers_fill_1 Aa N ?_;obtain⟨w1,w2,w3,w4,w5,w6,w7⟩:=zji R;have hk:=R.k;have V:=T;unfold Rk at V;simp[z6j,hz,V];refine zey (d:=p.acc) (a:=p.acc) (b:=p.base) R J w1 w1 w2 rfl rfl rfl T h J λG1 h1 H=>?_
 have gz:=wj (p:=p) (d:=p.acc) (a:=p.acc) (b:=p.base) (D:=deep+1);have X:=H.cells C hz;have q1:=H.cells F hq;have P1:=H.cells z T;have Y:=H.cells z V;simp[X,q1,Y];refine Z5 (fst:=[]) (cap:=[.ptr g 0]) (B:=M5 [M9 (p.B+3) p.acc.p (deep+1) 0,M1 3 13 12 (deep+1),Nd p.tab.p 13 0 (p.B+3)]) J h1 Ab B8 (λG3 gg K' h3 k3 l3 I=>?_) λG2 h2 M=>?_
 ·rw[flat_frL]at I;refine Nb r_power_powers_fill_1_1 Aa N ?_;simp at l3;have z3:=k3.cells C X;have p3:=k3.cells z Y;simp[z54,z3,p3];refine Tg (p:=p.acc.p) Af h3 J λG4 Z E=>?_
  have O:=E.cells C z3;have Q:=E.cells z p3;simp[O,Q];refine Xz Z Ab λG5 h5 L=>?_
  have z5:=L.cells C O;have p5:=L.cells z Q;simp[z5,p5];refine Ux (p:=p.tab.p) Af h5 Ab λG6 h6 k6=>?_
  simp;exact I G6 (by simpa using h6) (E.trans (L.trans k6))
 have gA:=Ui (d:=deep+1) (t:=p.k) (b:=M5 [M9 (p.B+3) p.acc.p (deep+1) 0,M1 3 13 12 (deep+1),Nd p.tab.p 13 0 (p.B+3)]) (m:=3) Cl;have z2:=M.cells C X;have q2:=M.cells F q1;have p2:=M.cells z Y;simp[z2,q2,p2];refine W8 h2 Ab λG4 Z E=>?_
 have O:=E.cells C z2;have Q:=E.cells z p2;simp[O,Q];refine Xz Z Ab λG5 h5 L=>?_
 simp;refine k G5 ?_ (H.trans (M.trans (E.trans L)));unfold Pw.fillR;simp only[Pb,flat_frL];simpa using h5
def zjm{p:Pw}{D:Int}:(p.fillR D).flat.length≤210:=by
 have g:=wj (p:=p) (d:=p.acc) (a:=p.acc) (b:=p.base) (D:=D+1);have j:=Ui (d:=D+1) (t:=p.k) (b:=M5 [M9 (p.B+3) p.acc.p (D+1) 0,M1 3 13 12 (D+1),Nd p.tab.p 13 0 (p.B+3)]) (m:=3) Cl;unfold Pw.fillR;simp only[Pb,flat_frL,H8,Ig,Iw];omega
def iy(A:PwN p)(hD:0≤deep∧deep≤4)(X:G[P]?=some (.cells (Rk e p) st))(g:P≠e)(h:Nl G e ops deep)(hl:ops.length≤600000)
  (k:∀G',Nl G' e (ops++(p.fill deep).flat) deep→Kp e G G'→K (.tup []) G'):Ob (.fn 98) [.ptr P 0] G K:=by
 refine Nb r_power_powers_fill Aa N ?_;obtain⟨w1,w2,w3,w4,w5,w6,w7⟩:=zji A;have hk:=A.k;have gg:=A.nk;have hw:=A.w;have le:e<G.length:=Al
 have lP:P<G.length:=(Hu.1 X).1;have H:(G++[LObj.cells [.ptr P 0] 0,LObj.cells [.i 0] 0])[P]?=_:=(M6 lP).trans X;have I:(G++[LObj.cells [.ptr P 0] 0])[P]?=_:=(M6 lP).trans X;unfold Rk at H I;have z0:(G++[LObj.cells [.ptr P 0] 0,LObj.cells [.i p.k] 1])[G.length]?=some (.cells [.ptr P 0] 0):=N
 have q0:(G++[LObj.cells [.ptr P 0] 0,LObj.cells [.i p.k] 1])[G.length+1]?=some (.cells [.i p.k] 1):=N
 have h0:=h.app [LObj.cells [.ptr P 0] 0,LObj.cells [.i p.k] 1];have k0:=Kp.app' e G [LObj.cells [.ptr P 0] 0,LObj.cells [.i p.k] 1];have Y:=k0.cells g X;have j:G.length≠e:=J
 have z:G.length+1≠e:=J
 simp[z7l,↓H,↓I,gg];generalize G++[LObj.cells [.ptr P 0] 0,LObj.cells [.i (p.k:Int)] 1]=L at *;generalize G.length+1=q at *;generalize G.length=gB at *;have p0:=Y;unfold Rk at p0;refine⟨J,?_⟩;refine zij A Y λE=>?_
 have z1:(L++E)[gB]?=_:=(M6 (Hu.1 z0).1).trans z0;have q1:(L++E)[q]?=_:=(M6 (Hu.1 q0).1).trans q0;have P1:(L++E)[P]?=_:=(M6 (Hu.1 Y).1).trans Y;have h1:=h0.app E;have k1:=Kp.app' e L E;generalize L++E=G1 at *;have p1:=P1;unfold Rk at p1;simp[z0,q0,z1,q1,p1];refine zpr (d:=p.ent) A J w7 rfl J P1 h1 J λG2 h2 M=>?_
 have gC:=z9p (p:=p) (d:=p.ent) (bits:=64*p.k) (D:=deep);have z2:=M.cells j z1;have q2:=M.cells z q1;have P2:=M.cells g P1;have p2:=M.cells g p1;simp[z2,q2,p2];refine⟨J,?_⟩;refine zpr (d:=p.cur) A J w3 rfl J P2 h2 Ab λG3 h3 O=>?_
 have gD:=z9p (p:=p) (d:=p.cur) (bits:=128*p.k) (D:=deep);have z3:=O.cells j z2;have q3:=O.cells z q2;have P3:=O.cells g P2;have p3:=O.cells g p2;simp[z3,q3,p3];refine zey (d:=p.base) (a:=p.a) (b:=p.cur) A J w2 A.a w3 rfl A.ak rfl P3 h3 Ab λQ h4 R=>?_
 have gE:=wj (p:=p) (d:=p.base) (a:=p.a) (b:=p.cur) (D:=deep);have Z:=R.cells j z3;have q4:=R.cells z q3;have P4:=R.cells g P3;have p4:=R.cells g p3;simp[Z,q4,p4];refine zij A P4 λF=>?_
 have z5:(Q++F)[gB]?=_:=(M6 (Hu.1 Z).1).trans Z;have q5:(Q++F)[q]?=_:=(M6 (Hu.1 q4).1).trans q4;have P5:(Q++F)[P]?=_:=(M6 (Hu.1 P4).1).trans P4;have h5:=h4.app F;have k5:=Kp.app' e Q F;generalize Q++F=G5 at *;have p5:=P5;unfold Rk at p5;simp[Z,q4,p4,z5,q5,p5];refine zlc (to:=p.acc) (fr:=p.ent) A J w1 w7 P5 g h5 Ab λG6 h6 T=>?_
 have gF:=zcn (p:=p) (a:=p.acc) (b:=p.ent) (D:=deep);have z6:=T.cells j z5;have q6:=T.cells z q5;have P6:=T.cells g P5;have p6:=T.cells g p5;simp[z6,q6,p6];refine W8 h6 Ab λG7 h7 U=>?_
 have z7:=U.cells j z6;have q7:=U.cells z q6;have P7:=U.cells g P6;have p7:=U.cells g p6;have gG:=ew hw.2;have gH:0<2^p.w:=K0 _;have C:((2:Int)^p.w)=((2^p.w:Nat):Int):=N
 simp[z7,q7,p7];refine⟨J,Gp,Gp,?_⟩;rw[C,(J:((2^p.w:Nat):Int)-1=((2^p.w-1:Nat):Int))];refine Z5 (fst:=[]) (cap:=[.ptr gB 0,.ptr q 0]) (B:=p.fillR deep) J h7 Ab (by have:=zjm (p:=p) (D:=deep);omega) (λG8 gA K' h8 V l8 gz=>?_) λG8 h8 V=>?_
 ·simp at l8;exact zzr A J (V.cells j z7) j (V.cells z q7) z (V.cells g P7) g h8 J gz
 simp;refine k G8 ?_ (k0.trans (k1.trans (M.trans (O.trans (R.trans (k5.trans (T.trans (U.trans V))))))));unfold Pw.fill;simp only[Pb,flat_frL];simpa using h8
end put
end
section
def z55:LC:=(.q [.x 3 0,.x 4 1,.x 5 2] (.seq (.draw [(.l 6 3,[]),(.N 7 6,[]),(.f 8 0 7,[]),(.l 9 8,[]),(.l 10 3,[]),(.N 11 10,[]),(.f 12 32 11,[]),(.l 13 12,[]),(.l 14 3,[]),(.N 15 14,[]),(.f 16 28 15,[]),(.l 17 16,[]),(.V 18 110 9 13 17,[])]) (.seq (.draw [(.l 19 3,[]),(.N 20 19,[]),(.f 21 0 20,[]),(.l 22 21,[]),(.f 23 2 4,[]),(.l 24 23,[]),(.z 25 (.mkFunc 159 [] [.t 3,.t 4,.t 5]),[]),(.V 26 73 22 24 25,[])]) (.q [.l 27 5,.b 28 .eql 3 27 0] (.cond (.t 28) (.draw [(.l 29 3,[]),(.N 30 29,[]),(.f 31 0 30,[]),(.l 32 31,[]),(.l 33 3,[]),(.N 34 33,[]),(.f 35 19 34,[]),(.L 36 3 35,[]),(.l 37 3,[]),(.N 38 37,[]),(.f 39 28 38,[]),(.l 40 39,[]),(.z 41 (.w 109 [.t 32,.t 36,.k (-1),.k 0,.t 40]),[])]) (.draw [(.l 42 3,[]),(.N 43 42,[]),(.f 44 0 43,[]),(.l 45 44,[]),(.l 46 3,[]),(.N 47 46,[]),(.f 48 19 47,[]),(.L 49 3 48,[]),(.f 50 2 4,[]),(.l 51 50,[]),(.l 52 3,[]),(.N 53 52,[]),(.f 54 32 53,[]),(.l 55 54,[]),(.z 56 (.w 109 [.t 45,.t 49,.k (-1),.t 51,.t 55]),[])]))))))
def r_power_powers_exponent:Na Tryz.prog 99=some ⟨57,z55.r,[]⟩:=Aa
def z4d:LC:=(.seq (.draw [(.l 5 1,[]),(.N 6 5,[]),(.f 7 0 6,[]),(.l 8 7,[]),(.l 9 1,[]),(.N 10 9,[]),(.f 11 31 10,[]),(.l 12 11,[]),(.L 13 3 2,[]),(.m 14 0,[]),(.z 15 (.w 70 [.t 8,.t 12,.t 13,.t 14,.k 0]),[])]) (.seq (.q [.l 16 3,.b 17 .eql 3 16 0] (.cond (.t 17) (.seq (.draw [(.l 18 1,[]),(.N 19 18,[]),(.f 20 0 19,[]),(.l 21 20,[]),(.l 22 1,[]),(.N 23 22,[]),(.f 24 19 23,[]),(.L 25 3 24,[]),(.m 26 0,[]),(.l 27 1,[]),(.N 28 27,[]),(.f 29 31 28,[]),(.l 30 29,[]),(.z 31 (.w 109 [.t 21,.t 25,.t 26,.k 1,.t 30]),[])]) .ret) .skip)) (.seq (.draw [(.l 32 1,[]),(.N 33 32,[]),(.f 34 0 33,[]),(.l 35 34,[]),(.l 36 1,[]),(.N 37 36,[]),(.f 38 30 37,[]),(.l 39 38,[]),(.l 40 1,[]),(.N 41 40,[]),(.f 42 31 41,[]),(.l 43 42,[]),(.l 44 3,[]),(.z 45 (.bin .sub true 3 (.k 64) (.t 44)),[]),(.z 46 (.w 107 [.t 35,.k 8,.t 39,.t 43,.t 45]),[])]) (.seq (.draw [(.l 47 1,[]),(.N 48 47,[]),(.f 49 0 48,[]),(.l 50 49,[]),(.l 51 1,[]),(.N 52 51,[]),(.f 53 30 52,[]),(.l 54 53,[]),(.l 55 1,[]),(.N 56 55,[]),(.f 57 30 56,[]),(.l 58 57,[]),(.l 59 1,[]),(.N 60 59,[]),(.f 61 32 60,[]),(.l 62 61,[]),(.z 63 (.w 108 [.t 50,.k 6,.t 54,.t 58,.t 62]),[])]) (.seq (.draw [(.l 64 1,[]),(.N 65 64,[]),(.f 66 0 65,[]),(.l 67 66,[]),(.l 68 1,[]),(.N 69 68,[]),(.f 70 19 69,[]),(.L 71 3 70,[]),(.m 72 0,[]),(.l 73 1,[]),(.N 74 73,[]),(.f 75 30 74,[]),(.l 76 75,[]),(.z 77 (.w 109 [.t 67,.t 71,.t 72,.k 0,.t 76]),[])]) (.draw [(.l 78 1,[]),(.N 79 78,[]),(.f 80 0 79,[]),(.l 81 80,[]),(.l 82 1,[]),(.N 83 82,[]),(.f 84 32 83,[]),(.l 85 84,[]),(.l 86 1,[]),(.N 87 86,[]),(.f 88 31 87,[]),(.l 89 88,[]),(.l 90 3,[]),(.z 91 (.w 107 [.t 81,.k 9,.t 85,.t 89,.t 90]),[])]))))))
def r_power_powers_exponent_1:Na Tryz.prog 159=some ⟨92,z4d.r,[]⟩:=Aa
def z6u:LC:=(.q [.x 1 0] (.seq (.draw [(.l 2 1,[]),(.N 3 2,[]),(.f 4 0 3,[]),(.l 5 4,[]),(.l 6 1,[]),(.N 7 6,[]),(.f 8 30 7,[]),(.l 9 8,[]),(.l 10 1,[]),(.N 11 10,[]),(.f 12 28 11,[]),(.l 13 12,[]),(.V 14 110 5 9 13,[])]) (.seq (.draw [(.l 15 1,[]),(.N 16 15,[]),(.f 17 0 16,[]),(.l 18 17,[]),(.l 19 1,[]),(.N 20 19,[]),(.f 21 19 20,[]),(.f 22 2 21,[]),(.l 23 22,[]),(.z 24 (.mkFunc 183 [] [.t 1]),[]),(.V 25 73 18 23 24,[])]) (.seq (.draw [(.l 26 1,[]),(.N 27 26,[]),(.f 28 0 27,[]),(.l 29 28,[]),(.l 30 1,[]),(.N 31 30,[]),(.f 32 29 31,[]),(.l 33 32,[]),(.l 34 1,[]),(.N 35 34,[]),(.f 36 29 35,[]),(.l 37 36,[]),(.z 38 (.w 107 [.t 29,.k 8,.t 33,.t 37,.k 1]),[])]) (.draw [(.l 39 1,[]),(.N 40 39,[]),(.f 41 0 40,[]),(.l 42 41,[]),(.l 43 1,[]),(.N 44 43,[]),(.f 45 29 44,[]),(.l 46 45,[]),(.l 47 1,[]),(.N 48 47,[]),(.f 49 29 48,[]),(.l 50 49,[]),(.l 51 1,[]),(.N 52 51,[]),(.f 53 30 52,[]),(.l 54 53,[]),(.z 55 (.w 108 [.t 42,.k 6,.t 46,.t 50,.t 54]),[])])))))
def r_power_powers_shift:Na Tryz.prog 162=some ⟨56,z6u.r,[]⟩:=Aa
def z59:LC:=(.seq (.draw [(.l 3 1,[]),(.N 4 3,[]),(.f 5 0 4,[]),(.l 6 5,[]),(.l 7 1,[]),(.N 8 7,[]),(.f 9 31 8,[]),(.l 10 9,[]),(.l 11 1,[]),(.N 12 11,[]),(.f 13 19 12,[]),(.L 14 3 13,[]),(.m 15 0,[]),(.z 16 (.w 70 [.t 6,.t 10,.t 14,.t 15,.k 0]),[])]) (.seq (.draw [(.l 17 1,[]),(.N 18 17,[]),(.f 19 0 18,[]),(.l 20 19,[]),(.l 21 1,[]),(.N 22 21,[]),(.f 23 32 22,[]),(.l 24 23,[]),(.l 25 1,[]),(.N 26 25,[]),(.f 27 31 26,[]),(.l 28 27,[]),(.z 29 (.w 107 [.t 20,.k 9,.t 24,.t 28,.k 63]),[])]) (.seq (.draw [(.l 30 1,[]),(.N 31 30,[]),(.f 32 0 31,[]),(.l 33 32,[]),(.l 34 1,[]),(.N 35 34,[]),(.f 36 31 35,[]),(.l 37 36,[]),(.l 38 1,[]),(.N 39 38,[]),(.f 40 31 39,[]),(.l 41 40,[]),(.z 42 (.w 107 [.t 33,.k 8,.t 37,.t 41,.k 1]),[])]) (.seq (.draw [(.l 43 1,[]),(.N 44 43,[]),(.f 45 0 44,[]),(.l 46 45,[]),(.l 47 1,[]),(.N 48 47,[]),(.f 49 31 48,[]),(.l 50 49,[]),(.l 51 1,[]),(.N 52 51,[]),(.f 53 31 52,[]),(.l 54 53,[]),(.l 55 1,[]),(.N 56 55,[]),(.f 57 30 56,[]),(.l 58 57,[]),(.z 59 (.w 108 [.t 46,.k 6,.t 50,.t 54,.t 58]),[])]) (.seq (.draw [(.l 60 1,[]),(.N 61 60,[]),(.f 62 0 61,[]),(.l 63 62,[]),(.l 64 1,[]),(.N 65 64,[]),(.f 66 19 65,[]),(.L 67 3 66,[]),(.m 68 0,[]),(.l 69 1,[]),(.N 70 69,[]),(.f 71 31 70,[]),(.l 72 71,[]),(.z 73 (.w 109 [.t 63,.t 67,.t 68,.k 0,.t 72]),[])]) (.draw [(.l 74 1,[]),(.N 75 74,[]),(.f 76 0 75,[]),(.l 77 76,[]),(.l 78 1,[]),(.N 79 78,[]),(.f 80 30 79,[]),(.l 81 80,[]),(.l 82 1,[]),(.N 83 82,[]),(.f 84 32 83,[]),(.l 85 84,[]),(.V 86 110 77 81 85,[])]))))))
def r_power_powers_shift_1:Na Tryz.prog 183=some ⟨87,z59.r,[]⟩:=Aa
def z7i:LC:=(.q [.x 1 0] (.q [.l 3 1,.N 4 3,.f 5 7 4,.f 6 2 5,.l 7 6,.z 2 (.alloc [(.i 0)]),.S 1 2 7] (.q [.l 8 1,.N 9 8,.f 10 0 9,.l 11 10,.z 12 (.w 69 [.t 11,.k 12,.c (.u 0)])] (.draw [(.l 13 1,[]),(.N 14 13,[]),(.f 15 0 14,[]),(.l 16 15,[]),(.l 17 1,[]),(.N 18 17,[]),(.f 19 35 18,[]),(.l 20 19,[]),(.z 21 (.bin .shl true 3 (.k 1) (.t 20)),[]),(.z 22 (.mkFunc 184 [] [.t 1,.t 2]),[]),(.V 23 73 16 21 22,[])]))))
def r_power_powers_scan:Na Tryz.prog 163=some ⟨24,z7i.r,[]⟩:=Aa
def z66:LC:=(.seq (.draw [(.l 4 1,[]),(.N 5 4,[]),(.f 6 0 5,[]),(.l 7 6,[]),(.l 8 1,[]),(.N 9 8,[]),(.f 10 33 9,[]),(.l 11 10,[]),(.l 12 1,[]),(.N 13 12,[]),(.f 14 29 13,[]),(.l 15 14,[]),(.m 16 0,[]),(.z 17 (.w 108 [.t 7,.k 7,.t 11,.t 15,.t 16]),[])]) (.seq (.draw [(.l 18 1,[]),(.N 19 18,[]),(.f 20 0 19,[]),(.l 21 20,[]),(.l 22 1,[]),(.N 23 22,[]),(.f 24 32 23,[]),(.l 25 24,[]),(.l 26 1,[]),(.N 27 26,[]),(.f 28 33 27,[]),(.l 29 28,[]),(.l 30 1,[]),(.N 31 30,[]),(.f 32 28 31,[]),(.l 33 32,[]),(.l 34 1,[]),(.N 35 34,[]),(.f 36 33 35,[]),(.l 37 36,[]),(.l 38 1,[]),(.N 39 38,[]),(.f 40 28 39,[]),(.l 41 40,[]),(.z 42 (.w 104 [.t 21,.k 12,.t 25,.t 29,.t 33,.t 37,.t 41]),[])]) (.seq (.draw [(.l 43 1,[]),(.N 44 43,[]),(.f 45 0 44,[]),(.l 46 45,[]),(.l 47 2,[]),(.z 48 (.mkFunc 185 [] [.t 1]),[]),(.V 49 73 46 47 48,[])]) (.seq (.draw [(.l 50 1,[]),(.N 51 50,[]),(.f 52 0 51,[]),(.l 53 52,[]),(.l 54 2,[]),(.z 55 (.cvInt .u64 (.t 54)),[]),(.z 56 (.w 69 [.t 53,.k 13,.t 55]),[])]) (.ops [.l 57 1,.N 58 57,.f 59 0 58,.l 60 59,.z 61 (.w 108 [.t 60,.k 3,.k 12,.k 12,.k 13])])))))
def r_power_powers_scan_1:Na Tryz.prog 184=some ⟨62,z66.r,[]⟩:=Aa
def z4u:LC:=(.q [.l 3 1,.N 4 3,.f 5 0 4,.l 6 5,.m 7 0,.z 8 (.w 108 [.t 6,.k 3,.k 13,.k 12,.t 7])] (.seq (.draw [(.l 9 1,[]),(.N 10 9,[]),(.f 11 0 10,[]),(.l 12 11,[]),(.l 13 1,[]),(.N 14 13,[]),(.f 15 31 14,[]),(.l 16 15,[]),(.l 17 1,[]),(.N 18 17,[]),(.f 19 25 18,[]),(.L 20 3 19,[]),(.z 21 (.w 70 [.t 12,.t 16,.t 20,.k 13,.k 0]),[])]) (.seq (.draw [(.l 22 1,[]),(.N 23 22,[]),(.f 24 0 23,[]),(.l 25 24,[]),(.l 26 1,[]),(.N 27 26,[]),(.f 28 34 27,[]),(.l 29 28,[]),(.l 30 1,[]),(.N 31 30,[]),(.f 32 16 31,[]),(.L 33 3 32,[]),(.m 34 0,[]),(.z 35 (.w 70 [.t 25,.t 29,.t 33,.t 34,.k 0]),[])]) (.seq (.draw [(.l 36 1,[]),(.N 37 36,[]),(.f 38 0 37,[]),(.l 39 38,[]),(.l 40 1,[]),(.N 41 40,[]),(.f 42 31 41,[]),(.l 43 42,[]),(.l 44 1,[]),(.N 45 44,[]),(.f 46 33 45,[]),(.l 47 46,[]),(.l 48 1,[]),(.N 49 48,[]),(.f 50 34 49,[]),(.l 51 50,[]),(.l 52 1,[]),(.N 53 52,[]),(.f 54 31 53,[]),(.l 55 54,[]),(.z 56 (.w 113 [.t 39,.t 43,.t 47,.t 51,.t 55]),[])]) (.draw [(.l 57 1,[]),(.N 58 57,[]),(.f 59 0 58,[]),(.l 60 59,[]),(.l 61 1,[]),(.N 62 61,[]),(.f 63 16 62,[]),(.L 64 3 63,[]),(.m 65 0,[]),(.l 66 1,[]),(.N 67 66,[]),(.f 68 31 67,[]),(.l 69 68,[]),(.z 70 (.w 109 [.t 60,.t 64,.t 65,.k 0,.t 69]),[])])))))
def r_power_powers_scan_1_1:Na Tryz.prog 185=some ⟨71,z4u.r,[]⟩:=Aa
def z85:LC:=(.q [.x 2 0] (.seq (.draw [(.l 4 2,[]),(.l 5 2,[]),(.N 6 5,[]),(.f 7 10 6,[]),(.L 8 3 7,[]),(.l 9 2,[]),(.z 10 (.w 154 [.t 9,.k 0]),[(.L 8 3 7,false),(.l 5 2,false),(.l 4 2,false)]),(.V 11 156 4 8 10,[])]) (.q [.l 12 2,.N 13 12,.f 14 0 13,.l 15 14,.m 16 1,.z 17 (.mkFunc 160 [] [.t 2]),.V 18 73 15 16 17] (.seq (.draw [(.l 19 2,[]),(.N 20 19,[]),(.f 21 0 20,[]),(.l 22 21,[]),(.l 23 2,[]),(.N 24 23,[]),(.f 25 31 24,[]),(.l 26 25,[]),(.z 27 (.w 69 [.t 22,.t 26,.c (.u 1)]),[])]) (.seq (.draw [(.l 28 2,[]),(.N 29 28,[]),(.f 30 0 29,[]),(.l 31 30,[]),(.l 32 2,[]),(.N 33 32,[]),(.f 34 16 33,[]),(.L 35 3 34,[]),(.l 36 2,[]),(.N 37 36,[]),(.f 38 28 37,[]),(.l 39 38,[]),(.V 40 72 31 35 39,[])]) (.seq (.draw [(.l 41 2,[]),(.N 42 41,[]),(.f 43 0 42,[]),(.l 44 43,[]),(.l 45 2,[]),(.N 46 45,[]),(.f 47 16 46,[]),(.L 48 3 47,[]),(.l 49 2,[]),(.N 50 49,[]),(.f 51 31 50,[]),(.l 52 51,[]),(.z 53 (.w 109 [.t 44,.t 48,.k (-1),.k 0,.t 52]),[])]) (.draw [(.l 54 2,[]),(.l 55 2,[]),(.N 56 55,[]),(.f 57 1 56,[]),(.L 58 3 57,[]),(.l 59 2,[]),(.N 60 59,[]),(.f 61 10 60,[]),(.L 62 3 61,[]),(.l 63 2,[]),(.N 64 63,[]),(.f 65 16 64,[]),(.L 66 3 65,[]),(.z 67 (.w 155 [.t 54,.t 58,.t 62,.t 66]),[])])))))))
def r_power_powers_run:Na Tryz.prog 100=some ⟨68,z85.r,[]⟩:=Aa
def z6w:LC:=(.seq (.draw [(.l 3 1,[]),(.N 4 3,[]),(.f 5 0 4,[]),(.l 6 5,[]),(.l 7 1,[]),(.N 8 7,[]),(.f 9 29 8,[]),(.l 10 9,[]),(.l 11 1,[]),(.N 12 11,[]),(.f 13 28 12,[]),(.l 14 13,[]),(.V 15 110 6 10 14,[])]) (.seq (.draw [(.l 16 1,[]),(.N 17 16,[]),(.f 18 0 17,[]),(.l 19 18,[]),(.l 20 1,[]),(.N 21 20,[]),(.f 22 35 21,[]),(.l 23 22,[]),(.z 24 (.mkFunc 161 [] [.t 1]),[]),(.V 25 73 19 23 24,[])]) (.q [.l 26 1,.w 27 163 26] (.draw [(.l 28 1,[]),(.l 29 1,[]),(.N 30 29,[]),(.f 31 10 30,[]),(.L 32 3 31,[]),(.l 33 1,[]),(.N 34 33,[]),(.f 35 10 34,[]),(.L 36 3 35,[]),(.l 37 1,[]),(.N 38 37,[]),(.f 39 16 38,[]),(.L 40 3 39,[]),(.z 41 (.w 155 [.t 28,.t 32,.t 36,.t 40]),[])]))))
def r_power_powers_run_1:Na Tryz.prog 160=some ⟨42,z6w.r,[]⟩:=Aa
def z5b:LC:=(.seq (.draw [(.l 3 1,[]),(.l 4 1,[]),(.N 5 4,[]),(.f 6 10 5,[]),(.L 7 3 6,[]),(.l 8 1,[]),(.N 9 8,[]),(.f 10 10 9,[]),(.L 11 3 10,[]),(.l 12 1,[]),(.N 13 12,[]),(.f 14 10 13,[]),(.L 15 3 14,[]),(.z 16 (.w 155 [.t 3,.t 7,.t 11,.t 15]),[])]) (.ops [.l 17 1,.w 18 162 17]))
def r_power_powers_run_1_1:Na Tryz.prog 161=some ⟨19,z5b.r,[]⟩:=Aa
section put
variable {G : M0} {K : LV → M0 → Prop} {e P st : Nat} {ops : List Lo} {deep : Int} {p : Pw}
def box1{x:LObj}(z:G[P]?=some (.cells (Rk e p) st))(g:P≠e)(h:Nl G e ops deep) :
  Nl (G++[x]) e ops deep∧Kp e G (G++[x])∧(G++[x])[P]?=some (.cells (Rk e p) st)∧(G++[x])[G.length]?=some x∧G.length≠e:=by
 have A:e<G.length:=Al
 have j:=Kp.app' e G [x];exact⟨h.app _,j,j.cells g z,Im,J⟩
def zxl(hN:PwN p)(hD:0≤deep∧deep≤50)(hP:G[P]?=some (.cells (Rk e p) st))(g:P≠e)(h:Nl G e ops deep)(hl:ops.length≤700000)
  (k:∀H,Nl H e (ops++(p.shift deep).flat) deep→Kp e G H→K (.tup []) H):Ob (.fn 162) [.ptr P 0] G K:=by
 refine Nb r_power_powers_shift Aa N ?_;obtain⟨w1,w2,w3,w4,w5,w6,w7⟩:=zji hN;obtain⟨h0,k0,P0,Z,j⟩:=box1 (x:=.cells [.ptr P 0] 0) hP g h;simp[z6u];generalize G++[LObj.cells [.ptr P 0] 0]=G0 at *;generalize G.length=gA at *;have I:=P0;unfold Rk at I;simp[Z,I];refine zce h0 J λG1 h1 L=>?_
 have M:=L.cells j Z;have O:=L.cells g I;simp[M,O];refine Z5 (fst:=[]) (cap:=[.ptr gA 0]) (B:=M5 [M9 (p.B+3) p.es.p deep 0,Qu 9 (p.B+4) (p.B+3) 63,Qu 8 (p.B+3) (p.B+3) 1,M1 6 (p.B+3) (p.B+3) (p.B+2),Nd p.es.p deep 0 (p.B+3),Qk (p.B+2) (p.B+4)]) J h1 Ab B8 (λG3 gg K' h3 k3 l3 A=>?_) λG2 h2 Q=>?_
 ·rw[flat_frL]at A;refine Nb r_power_powers_shift_1 Aa N ?_;simp at l3;have z3:=k3.cells j M;have p3:=k3.cells g O;simp[z59,z3,p3];refine Tg (p:=p.es.p) Af h3 J λG4 R z=>?_
  have E:=z.cells j z3;have F:=z.cells g p3;simp[E,F];refine z7u R Ab λG5 T C=>?_
  have z5:=C.cells j E;have p5:=C.cells g F;simp[z5,p5];refine z7u T Ab λG6 h6 U=>?_
  have z6:=U.cells j z5;have p6:=U.cells g p5;simp[z6,p6];refine Xz h6 Ab λG7 h7 V=>?_
  have z7:=V.cells j z6;have p7:=V.cells g p6;simp[z7,p7];refine Ux (p:=p.es.p) Af h7 Ab λG8 h8 X=>?_
  have z8:=X.cells j z7;have p8:=X.cells g p7;simp[z8,p8];refine zce h8 Ab λG9 h9 k9=>?_
  simp;exact A G9 (by simpa using h9) (z.trans (C.trans (U.trans (V.trans (X.trans k9)))))
 have gz:=zmt (p:=p.es.p) (n:=p.es.k) (l:=p.B+3) (o:=p.B+4) (b:=p.B+2) (D:=deep);have Y:Nl G2 e (ops++[Qk (p.B+2) p.B]++(Zs p.es.p p.es.k (p.B+3) (p.B+4) (p.B+2) deep).flat) deep:=h2;have z2:=Q.cells j M;have p2:=Q.cells g O;simp[z2,p2];refine z7u Y Ab λG4 R z=>?_
 have E:=z.cells j z2;have F:=z.cells g p2;simp[E,F];refine Xz R Ab λG5 T C=>?_
 simp;refine k G5 ?_ (k0.trans (L.trans (Q.trans (z.trans C))));unfold Pw.shift;simp only[Pb,flat_frL];simpa using T
def bt{p:Pw}{D:Int}:(p.shift D).flat.length≤20:=by
 have g:=zmt (p:=p.es.p) (n:=p.es.k) (l:=p.B+3) (o:=p.B+4) (b:=p.B+2) (D:=D);unfold Pw.shift;simp only[Pb,flat_frL,H8,Ig,Iw];omega
def vk(V:PwN p)(hD:0≤deep∧deep≤50)(hP:G[P]?=some (.cells (Rk e p) st))(g:P≠e)(h:Nl G e ops deep)(hl:ops.length≤700000)
  (k:∀X,Nl X e (ops++(p.exp deep).flat) deep→Kp e G X→K (.tup []) X):Ob (.fn 99) [.ptr P 0,.agg p.b.p.f,.i p.over] G K:=by
 refine Nb r_power_powers_exponent Aa N ?_;obtain⟨w1,w2,w3,w4,w5,w6,w7⟩:=zji V;have hb:=V.b;have gz:=V.ov;have le:e<G.length:=Al
 have Y:(G++[LObj.cells [.ptr P 0] 0,LObj.cells p.b.p.f 0,LObj.cells [.i p.over] 0])[G.length]?=some (.cells [.ptr P 0] 0):=N
 have Z:(G++[LObj.cells [.ptr P 0] 0,LObj.cells p.b.p.f 0,LObj.cells [.i p.over] 0])[G.length+1]?=some (.cells p.b.p.f 0):=N
 have x0:(G++[LObj.cells [.ptr P 0] 0,LObj.cells p.b.p.f 0,LObj.cells [.i p.over] 0])[G.length+2]?=some (.cells [.i p.over] 0):=N
 have h0:=h.app [LObj.cells [.ptr P 0] 0,LObj.cells p.b.p.f 0,LObj.cells [.i p.over] 0];have k0:=Kp.app' e G [LObj.cells [.ptr P 0] 0,LObj.cells p.b.p.f 0,LObj.cells [.i p.over] 0];have Q:=k0.cells g hP;have j:G.length≠e:=J
 have I:G.length+1≠e:=J
 have z:G.length+2≠e:=J
 unfold Pc.f Pn.p at Z x0 Y h0 k0 Q;simp[z55,Pc.f,Pn.p];generalize G++[LObj.cells [.ptr P 0] 0,LObj.cells [.i (p.b.b:Int),.i (p.b.a:Int),.i (p.b.k:Int)] 0,LObj.cells [.i (p.over:Int)] 0]=G0 at *;generalize G.length+2=x at *;generalize G.length+1=y at *;generalize G.length=gB at *;unfold Rk at Q;simp[Y,Z,Q];refine zce h0 J λG1 h1 L=>?_
 have z1:=L.cells j Y;have y1:=L.cells I Z;have x1:=L.cells z x0;have p1:=L.cells g Q;simp[z1,y1,p1];refine Z5 (fst:=[]) (cap:=[.ptr gB 0,.ptr y 0,.ptr x 0]) (B:=M5 (p.expB deep)) J h1 Ab Ck (λG3 gg K' h3 R l3 A=>?_) λG2 h2 M=>?_
 ·rw[flat_frL]at A;refine Nb r_power_powers_exponent_1 Aa N ?_;simp at l3;have z3:=R.cells j z1;have y3:=R.cells I y1;have x3:=R.cells z x1;have p3:=R.cells g p1;simp[z4d,z3,y3,p3];refine Tg (p:=p.b.p) Af h3 J λG4 h4 O=>?_
  have z4:=O.cells j z3;have x4:=O.cells z x3;have p4:=O.cells g p3;unfold Pw.expB at A;by_cases F:p.over=0
  ·rw[H7 F]at A;simp[z4,x4,p4,F];refine Ux (p:=p.es.p) Af h4 Ab λC H D=>?_
   simp;exact A C Bn (O.trans D)
  rw[Hv F]at A;simp[z4,x4,p4,F];refine⟨J,?_⟩;refine z7u h4 Ab λC H D=>?_
  have z5:=D.cells j z4;have x5:=D.cells z x4;have p5:=D.cells g p4;simp[z5,p5];refine Xz H Ab λG6 h6 T=>?_
  have z6:=T.cells j z5;have x6:=T.cells z x5;have p6:=T.cells g p5;simp[z6,p6];refine Ux (p:=p.es.p) Af h6 Ab λG7 h7 U=>?_
  have z7:=U.cells j z6;have x7:=U.cells z x6;have p7:=U.cells g p6;simp[z7,x7,p7];refine z7u h7 Ab λG8 h8 k8=>?_
  simp;exact A G8 (by simpa using h8) (O.trans (D.trans (T.trans (U.trans k8))))
 have gA:=Ui (d:=deep) (t:=p.b.k) (b:=M5 (p.expB deep)) (m:=5) Ck;have z2:=M.cells j z1;have y2:=M.cells I y1;have x2:=M.cells z x1;have p2:=M.cells g p1;have E:∀C,Nl C e (ops++[Qk (p.B+4) p.B]++(Og deep p.b.k (M5 (p.expB deep))).flat++p.expE) deep→Kp e G2 C→K (.tup []) C:=λC H D=>by
  refine k C ?_ (k0.trans (L.trans (M.trans D)));unfold Pw.exp;simp only[Pb,flat_frL];simpa using H
 unfold Pw.expE at E;by_cases F:p.over=0
 ·rw[H7 F]at E;simp[z2,x2,p2,F];refine Ux (p:=p.es.p) Af h2 Ab λC H D=>?_
  simp;exact E C Bn D
 ·rw[Hv F]at E;simp[z2,x2,y2,p2,F];refine Ux (p:=p.es.p) Af h2 Ab λC H D=>?_
  simp;exact E C Bn D
def Zk{p:Pw}{D:Int}:(p.exp D).flat.length≤20:=by
 have g:=Ui (d:=D) (t:=p.b.k) (b:=M5 (p.expB D)) (m:=5) Ck;have j:p.expE.length≤1:=by unfold Pw.expE;split<;>simp
 unfold Pw.exp;simp only[Pb,flat_frL,H8,Ig,Iw];omega
def dm{q:Nat}(hN:PwN p)(hD:0≤deep∧deep≤50)(hz:G[g]?=some (.cells [.ptr P 0] j))(z:g≠e)(hq:G[q]?=some (.cells [.i p.k] A))(D:q≠e)(hP:G[P]?=some (.cells (Rk e p) st))(C:P≠e)(h:Nl G e ops (deep+1))(hl:ops.length≤700000)
  (k:∀R,Nl R e (ops++(p.scanR deep).flat) (deep+1)→Kp e G R→K (.tup []) R):Ob (.fn 184) [.i deep,.ptr g 0,.ptr q 0] G K:=by
 refine Nb r_power_powers_scan_1 Aa N ?_;obtain⟨w1,w2,w3,w4,w5,w6,w7⟩:=zji hN;have hk:=hN.k;have T:=hP;unfold Rk at T;simp[z66,hz,T];refine Xz h J λG0 h0 I=>?_
 have z0:=I.cells z hz;have q0:=I.cells D hq;have p0:=I.cells C T;simp[z0,p0];refine z6i h0 Ab λG1 h1 L=>?_
 have U:=L.cells z z0;have q1:=L.cells D q0;have V:=L.cells C p0;simp[U,q1,V];refine Z5 (fst:=[]) (cap:=[.ptr g 0]) (B:=M5 (p.scanB (deep+1))) J h1 Ab (by rw[flat_frL];simp[Pw.scanB]) (λG3 gg K' h3 k3 l3 F=>?_) λG2 h2 M=>?_
 ·rw[flat_frL]at F;refine Nb r_power_powers_scan_1_1 Aa N ?_;simp at l3;have z3:=k3.cells z U;have p3:=k3.cells C V;simp[z4u,z3,p3];refine Xz h3 J λG4 X E=>?_
  have O:=E.cells z z3;have Q:=E.cells C p3;simp[O,Q];refine Tg (p:=p.tab.p) Af X Ab λG5 Y H=>?_
  have z5:=H.cells z O;have p5:=H.cells C Q;simp[z5,p5];refine Tg (p:=p.cur.p) Af Y Ab λG6 h6 Z=>?_
  have z6:=Z.cells z z5;have p6:=Z.cells C p5;simp[z6,p6];refine znl h6 Ab λG7 h7 k7=>?_
  have z7:=k7.cells z z6;have p7:=k7.cells C p6;simp[z7,p7];refine Ux (p:=p.cur.p) Af h7 Ab λG8 h8 k8=>?_
  simp;exact F G8 (by simpa [Pw.scanB] using h8) (E.trans (H.trans (Z.trans (k7.trans k8))))
 have gz:=Ui (d:=deep+1) (t:=p.k) (b:=M5 (p.scanB (deep+1))) (m:=5) (by simp[flat_frL,Pw.scanB]);have z2:=M.cells z U;have q2:=M.cells D q1;have p2:=M.cells C V;simp[z2,q2,p2];refine W8 h2 Ab λG4 X E=>?_
 have O:=E.cells z z2;have Q:=E.cells C p2;simp[O,Q];refine Xz X Ab λG5 Y H=>?_
 simp;refine k G5 ?_ (I.trans (L.trans (M.trans (E.trans H))));unfold Pw.scanR;simp only[Pb,flat_frL];simpa using Y
def zq4{p:Pw}{D:Int}:(p.scanR D).flat.length≤20:=by
 have g:=Ui (d:=D+1) (t:=p.k) (b:=M5 (p.scanB (D+1))) (m:=5) (by simp[flat_frL,Pw.scanB]);unfold Pw.scanR;simp only[Pb,flat_frL,H8,Ig,Iw];omega
def nj(L:PwN p)(hD:0≤deep∧deep≤40)(C:G[P]?=some (.cells (Rk e p) st))(g:P≠e)(h:Nl G e ops deep)(hl:ops.length≤600000)
  (k:∀M,Nl M e (ops++(p.scan deep).flat) deep→Kp e G M→K (.tup []) M):Ob (.fn 163) [.ptr P 0] G K:=by
 refine Nb r_power_powers_scan Aa N ?_;have hk:=L.k;have O:=L.nk;have hw:=L.w;have le:e<G.length:=Al
 have Q:P<G.length:=(Hu.1 C).1;have E:(G++[LObj.cells [.ptr P 0] 0,LObj.cells [.i 0] 0])[P]?=_:=(M6 Q).trans C;have F:(G++[LObj.cells [.ptr P 0] 0])[P]?=_:=(M6 Q).trans C;have j:(G++[LObj.cells [.ptr P 0] 0,LObj.cells [.i p.k] 1])[P]?=_:=(M6 Q).trans C;unfold Rk at E F j;have z0:(G++[LObj.cells [.ptr P 0] 0,LObj.cells [.i p.k] 1])[G.length]?=some (.cells [.ptr P 0] 0):=N
 have q0:(G++[LObj.cells [.ptr P 0] 0,LObj.cells [.i p.k] 1])[G.length+1]?=some (.cells [.i p.k] 1):=N
 have h0:=h.app [LObj.cells [.ptr P 0] 0,LObj.cells [.i p.k] 1];have Y:=Kp.app' e G [LObj.cells [.ptr P 0] 0,LObj.cells [.i p.k] 1];have P0:=Y.cells g C;have z:G.length≠e:=J
 have A:G.length+1≠e:=J
 simp[z7i,↓E,↓F,↓j,O];generalize G++[LObj.cells [.ptr P 0] 0,LObj.cells [.i (p.k:Int)] 1]=G0 at *;generalize G.length+1=q at *;generalize G.length=gz at *;refine W8 h0 J λG7 h7 H=>?_
 have Z:=H.cells z z0;have q7:=H.cells A q0;have P7:=H.cells g P0;have p7:=H.cells g j;have R:=ew hw.2;have T:((2:Int)^p.w)=((2^p.w:Nat):Int):=N
 simp[Z,q7,p7];rw[T];have U:(-9223372036854775808:Int)≤((2^p.w:Nat):Int)∧((2^p.w:Nat):Int)<9223372036854775808:=by
  generalize 2^p.w=W at R ⊢;omega
 refine⟨J,U,?_⟩;refine Z5 (fst:=[]) (cap:=[.ptr gz 0,.ptr q 0]) (B:=p.scanR deep) J h7 Ab (by have:=zq4 (p:=p) (D:=deep);omega) (λG8 gg K' V I l8 X=>?_) λG8 V I=>?_
 ·simp at l8;exact dm L J (I.cells z Z) z (I.cells A q7) A (I.cells g P7) g V J X
 simp;refine k G8 ?_ (Y.trans (H.trans I));unfold Pw.scan;simp only[Pb,flat_frL];simpa using V
def zuc{p:Pw}{D:Int}:(p.scan D).flat.length≤30:=by
 have g:=Ui (d:=D) (t:=(2^p.w:Nat)) (b:=p.scanR D) zq4;unfold Pw.scan;simp only[Pb,flat_frL,H8,Ig,Iw];omega
def zmf{p:Pw}{D:Int}:(p.runW D).flat.length≤220:=by
 have g:=wj (p:=p) (d:=p.acc) (a:=p.acc) (b:=p.acc) (D:=D);have j:=bt (p:=p) (D:=D);unfold Pw.runW;simp only[Pb,H8];omega
def zmy{p:Pw}{D:Int}:(p.runR D).flat.length≤500:=by
 have g:=wj (p:=p) (d:=p.acc) (a:=p.acc) (b:=p.cur) (D:=D);have j:=Ui (d:=D) (t:=p.w) (b:=p.runW (D+1)) zmf;have z:=zuc (p:=p) (D:=D);unfold Pw.runR;simp only[Pb,flat_frL,H8,Ig,Iw];omega
def oj{i:Int}(E:PwN p)(hD:0≤deep∧deep≤5)(hz:G[g]?=some (.cells [.ptr P 0] j))(A:g≠e)(hP:G[P]?=some (.cells (Rk e p) st))(z:P≠e)(h:Nl G e ops deep)(hl:ops.length≤500000)
  (k:∀L,Nl L e (ops++(p.runR deep).flat) deep→Kp e G L→K (.tup []) L):Ob (.fn 160) [.i i,.ptr g 0] G K:=by
 refine Nb r_power_powers_run_1 Aa N ?_;obtain⟨F,w2,w3,w4,w5,w6,w7⟩:=zji E;have hw:=E.w;have M:=hP;unfold Rk at M;simp[z6w,hz,M];refine zce h J λG1 h1 H=>?_
 have O:=H.cells A hz;have P1:=H.cells z hP;have Q:=H.cells z M;simp[O,Q];refine Z5 (fst:=[]) (cap:=[.ptr g 0]) (B:=p.runW (deep+1)) J h1 Ab (by have:=zmf (p:=p) (D:=deep+1);omega) (λG3 gg K' h3 R l3 T=>?_) λG2 h2 I=>?_
 ·refine Nb r_power_powers_run_1_1 Aa N ?_;simp at l3;have z3:=R.cells A O;have P3:=R.cells z P1;have p3:=R.cells z Q;simp[z5b,z3,p3];refine zey (d:=p.acc) (a:=p.acc) (b:=p.acc) E J F F F rfl rfl rfl P3 h3 J λG4 U C=>?_
  have gz:=wj (p:=p) (d:=p.acc) (a:=p.acc) (b:=p.acc) (D:=deep+1);have V:=C.cells A z3;have X:=C.cells z P3;simp[V];refine zxl E J X z U Ab λY Z k5=>?_
  simp;refine T Y ?_ (C.trans k5);unfold Pw.runW;rw[Pb];simpa using Z
 have gA:=Ui (d:=deep) (t:=p.w) (b:=p.runW (deep+1)) zmf;have z2:=I.cells A O;have P2:=I.cells z P1;have p2:=I.cells z Q;simp[z2];refine nj E J P2 z h2 Ab λG4 U C=>?_
 have gB:=zuc (p:=p) (D:=deep);have V:=C.cells A z2;have X:=C.cells z P2;have p4:=C.cells z p2;simp[V,p4];refine zey (d:=p.acc) (a:=p.acc) (b:=p.cur) E J F F w3 rfl rfl rfl X U Ab λY Z k5=>?_
 simp;refine k Y ?_ (H.trans (I.trans (C.trans k5)));unfold Pw.runR;simp only[Pb,flat_frL];simpa using Z
def x8(z:PwN p)(hD:0≤deep∧deep≤4)(hP:G[P]?=some (.cells (Rk e p) st))(g:P≠e)(h:Nl G e ops deep)(hl:ops.length≤400000)
  (k:∀Q,Nl Q e (ops++(p.run deep).flat) deep→Kp e G Q→K (.tup []) Q):Ob (.fn 100) [.ptr P 0,.i p.times] G K:=by
 refine Nb r_power_powers_run Aa N ?_;obtain⟨Z,w2,w3,w4,w5,w6,w7⟩:=zji z;have gz:=z.ti;obtain⟨h0,k0,E,F,j⟩:=box1 (x:=.cells [.ptr P 0] 0) hP g h;simp[z85];generalize G++[LObj.cells [.ptr P 0] 0]=H at *;generalize G.length=gD at *;have R:=E;unfold Rk at R;simp[F,R];refine zij z E λC=>?_
 have z1:(H++C)[gD]?=_:=(M6 (Hu.1 F).1).trans F;have T:(H++C)[P]?=_:=(M6 (Hu.1 E).1).trans E;have h1:=h0.app C;have k1:=Kp.app' e H C;generalize H++C=G1 at *;have U:=T;unfold Rk at U;simp[F,z1,R,U];refine zlc (to:=p.acc) (fr:=p.ent) z J Z w7 T g h1 J λG2 h2 I=>?_
 have gA:=zcn (p:=p) (a:=p.acc) (b:=p.ent) (D:=deep);have V:=I.cells j z1;have P2:=I.cells g T;have p2:=I.cells g U;simp[V,p2];refine Z5 (fst:=[]) (cap:=[.ptr gD 0]) (B:=p.runR (deep+1)) J h2 Ab (by have:=zmy (p:=p) (D:=deep+1);omega) (λG3 gg K' X A l3 Y=>?_) λG3 X A=>?_
 ·simp at l3;exact oj z J (A.cells j V) j (A.cells g P2) g X J Y
 have gB:=Ui (d:=deep) (t:=p.times) (b:=p.runR (deep+1)) zmy;have z3:=A.cells j V;have P3:=A.cells g P2;have p3:=A.cells g p2;simp[z3,p3];refine W8 X Ab λG4 h4 L=>?_
 have z4:=L.cells j z3;have P4:=L.cells g P3;have p4:=L.cells g p3;simp[z4,p4];refine znr (p:=p.cur.p) J Af h4 Ab λG5 h5 M=>?_
 have gC:(Si p.cur.p p.B deep).flat.length≤3:=Ui (m:=1) Cl;have z5:=M.cells j z4;have P5:=M.cells g P4;have p5:=M.cells g p4;simp[z5,p5];refine Ux (p:=p.cur.p) Af h5 Ab λG6 h6 O=>?_
 have z6:=O.cells j z5;have P6:=O.cells g P5;have p6:=O.cells g p5;simp[z6,p6];refine zey (d:=p.d) (a:=p.acc) (b:=p.cur) z J z.d Z w3 z.dk rfl rfl P6 h6 Ab λG7 h7 k7=>?_
 simp;refine k G7 ?_ (k0.trans (k1.trans (I.trans (A.trans (L.trans (M.trans (O.trans k7)))))));unfold Pw.run;simp only[Pb,flat_frL];simpa using h7
end put
end
section
def zgv:LC:=(.q [.x 5 1,.x 6 2,.e 8,.K 9 0] (.seq (.seq (.draw [(.m 21 0,[]),(.L 22 7 5,[]),(.L 23 8 6,[]),(.m 24 3,[]),(.m 25 0,[]),(.L 26 7 5,[]),(.W 27 42 25 26,[(.L 23 8 6,false),(.L 22 7 5,false)]),(.z 28 (.w 58 [.t 21,.t 22,.t 23,.t 24,.t 27]),[]),(.z 29 (.un .not (.t 28)),[])]) (.cond (.t 29) (.q [.e 8,.K 9 2] .ret) .skip)) (.q [.m 31 0,.L 32 7 5,.L 33 8 6,.V 34 59 31 32 33,.m 30 34,.X 35 0 30,.X 36 1 30,.z 11 (.alloc [(.i 0),(.i 0),(.i 0)]),.m 10 35,.S 3 11 36] (.q [.f 37 1 6,.l 38 37,.f 39 4 5,.l 40 39,.I 41 3 38 40,.L 42 3 41,.z 12 (.alloc [(.i 0),(.i 0),(.i 0)]),.S 3 12 42] (.seq (.draw [(.m 43 3,[]),(.z 44 (.build [.nilSl,(.i 0)] [(1,1,.t 43)]),[]),(.x 45 44,[]),(.f 46 1 6,[]),(.l 47 46,[]),(.f 48 1 5,[]),(.l 49 48,[]),(.I 50 3 47 49,[]),(.L 51 3 50,[]),(.f 52 1 6,[]),(.l 53 52,[]),(.f 54 3 5,[]),(.l 55 54,[]),(.I 56 3 53 55,[]),(.L 57 3 56,[]),(.f 58 1 6,[]),(.l 59 58,[]),(.f 60 5 5,[]),(.l 61 60,[]),(.I 62 3 59 61,[]),(.L 63 3 62,[]),(.f 64 6 5,[]),(.l 65 64,[]),(.z 66 (.cvInt .i64 (.t 65)),[]),(.m 67 10,[]),(.b 68 .add 3 67 10,[]),(.z 69 (.build [.nilPtr,(.i 0),(.i 0),(.i 0),(.i 0),(.i 0),(.i 0),(.i 0),(.i 0),(.i 0),(.i 0),(.i 0),(.i 0),(.i 0),(.i 0),(.i 0),(.i 0),(.i 0),(.i 0),(.i 0),(.i 0),(.i 0),(.i 0),(.i 0),(.i 0),(.i 0),(.i 0),(.i 0),(.i 0),(.i 0),(.i 0),(.i 0),(.i 0),(.i 0),(.i 0),(.i 0),(.i 0)] [(0,1,.t 45),(1,3,.t 51),(4,3,.t 57),(7,3,.t 63),(35,1,.t 66),(36,1,.t 68)]),[]),(.x 70 69,[(.l 65 64,false),(.L 63 3 62,false),(.l 61 60,false),(.l 59 58,false),(.L 57 3 56,false),(.l 55 54,false),(.l 53 52,false),(.L 51 3 50,false),(.l 49 48,false),(.l 47 46,false),(.x 45 44,true)]),(.m 13 70,[])]) (.q [.m 71 13,.N 72 71,.f 73 7 72,.f 74 2 73,.l 75 74,.z 15 (.alloc [(.i 0)]),.m 14 75,.v (.store 1 (.t 15) (.k 0))] (.q [.z 76 (.mkFunc 97 [] [.t 15,.t 11]),.m 16 76] (.seq (.draw [(.m 77 13,[]),(.m 78 13,[]),(.m 79 13,[]),(.m 80 13,[]),(.m 81 16,[]),(.m 82 14,[]),(.m 84 16,[]),(.m 85 14,[]),(.m 87 16,[]),(.m 88 14,[]),(.m 90 16,[]),(.f 91 2 12,[]),(.l 92 91,[]),(.b 93 .add 3 92 1,[]),(.z 83 (.callV (.t 81) [.t 82]),[(.l 92 91,false)]),(.z 86 (.callV (.t 84) [.t 85]),[(.l 92 91,false)]),(.z 89 (.callV (.t 87) [.t 88]),[(.l 92 91,false)]),(.z 94 (.callV (.t 90) [.t 93]),[]),(.N 95 77,[]),(.f 96 10 95,[]),(.S 3 96 83,[]),(.N 97 78,[]),(.f 98 13 97,[]),(.S 3 98 86,[]),(.N 99 79,[]),(.f 100 16 99,[]),(.S 3 100 89,[]),(.N 101 80,[]),(.f 102 19 101,[]),(.S 3 102 94,[])]) (.seq (.draw [(.m 103 13,[]),(.m 104 13,[]),(.m 105 16,[]),(.m 106 14,[]),(.m 109 16,[]),(.m 110 14,[]),(.m 111 13,[]),(.N 112 111,[]),(.f 113 35 112,[]),(.l 114 113,[]),(.c 115 .shl 3 110 114,[]),(.w 107 21 106,[(.l 114 113,false)]),(.z 108 (.callV (.t 105) [.t 107]),[(.l 114 113,false)]),(.z 116 (.callV (.t 109) [.t 115]),[]),(.N 117 103,[]),(.f 118 22 117,[]),(.S 3 118 108,[]),(.N 119 104,[]),(.f 120 25 119,[]),(.S 3 120 116,[])]) (.seq (.seq (.draw [(.m 121 13,[]),(.N 122 121,[]),(.f 123 28 122,[]),(.m 124 13,[]),(.N 125 124,[]),(.f 126 29 125,[]),(.m 127 13,[]),(.N 128 127,[]),(.f 129 30 128,[]),(.m 130 13,[]),(.N 131 130,[]),(.f 132 31 131,[]),(.m 133 13,[]),(.N 134 133,[]),(.f 135 32 134,[]),(.m 136 13,[]),(.N 137 136,[]),(.f 138 33 137,[]),(.m 139 13,[]),(.N 140 139,[]),(.f 141 34 140,[]),(.z 142 (.buildSl 1 7 [.nilPtr,.nilPtr,.nilPtr,.nilPtr,.nilPtr,.nilPtr,.nilPtr] [(0,1,.t 123),(1,1,.t 126),(2,1,.t 129),(3,1,.t 132),(4,1,.t 135),(5,1,.t 138),(6,1,.t 141)]),[]),(.s 143 142,[]),(.K 144 0,[])]) (.block 0 (.loop (.q [.c 145 .lss 3 144 143] (.seq (.cond (.t 145) .skip (.exit 0)) (.seq (.block 1 (.q [.m 146 144,.I 147 1 142 144,.l 148 147,.m 17 146,.m 18 148] (.ops [.m 149 18,.m 150 10,.m 151 17,.c 152 .add 3 150 151,.N 153 149,.S 1 153 152]))) (.ops [.b 154 .add 3 144 1,.m 144 154]))))))) (.seq (.draw [(.f 156 2 12,[]),(.l 157 156,[]),(.m 158 13,[]),(.N 159 158,[]),(.f 160 35 159,[]),(.l 161 160,[]),(.W 162 45 157 161,[]),(.m 155 162,[]),(.X 163 0 155,[]),(.X 164 1 155,[]),(.m 19 163,[]),(.m 20 164,[])]) (.seq (.draw [(.m 165 13,[]),(.N 166 165,[]),(.f 167 0 166,[]),(.l 168 167,[]),(.m 169 13,[]),(.N 170 169,[]),(.f 171 28 170,[]),(.l 172 171,[]),(.z 173 (.w 69 [.t 168,.t 172,.c (.u 0)]),[])]) (.q [.m 174 13,.w 175 98 174] (.q [.m 176 13,.L 177 3 12,.m 178 20,.V 179 99 176 177 178] (.q [.m 180 13,.m 181 19,.W 182 100 180 181] (.q [.m 183 13,.N 184 183,.f 185 0 184,.l 186 185,.N 187 186,.f 188 0 187,.l 189 188,.m 8 189,.K 9 0] .ret))))))))))))))))
def r_power_Code:Na Tryz.prog 44=some ⟨190,zgv.r,[.tmp 8,.tmp 9]⟩:=Aa
def zdi:LC:=(.q [.z 4 (.alloc [(.i 0),(.i 0),(.i 0)])] (.q [.l 5 1,.m 6 0,.c 7 .add 3 5 6,.S 1 1 7] (.q [.L 8 3 2,.l 9 1,.m 10 0,.c 11 .sub 3 9 10,.m 12 0,.V 13 68 8 11 12,.S 3 4 13] .ret)))
def r_power_Code_1:Na Tryz.prog 97=some ⟨14,zdi.r,[.cellN 4 3]⟩:=Aa
def Nt(p:Pc):Pn:=⟨p.buf.toNat,p.at_.toNat,p.size.toNat⟩
def iz{p:Pc}(g:0≤p.buf)(j:0≤p.at_)(z:0≤p.size):(Nt p).p=p:=by
 unfold Nt Pn.p;rw[Int.toNat_of_nonneg g,Int.toNat_of_nonneg j,Int.toNat_of_nonneg z]
def zca{g:List Pc}{F:Pc}(h:Vj vz Z g vK F=true){i:Nat}(hi:i<vz.length):i<g.length∧(Nt (Pz g i)).p=Pz g i∧Bp Z (Nt (Pz g i))∧(Pz g i).size=(gv vz i).limbs∧(gv vz i).sec=(Ng Z (Pz g i).buf.toNat).sec∧((Ng Z (Pz g i).buf.toNat).kind=1→Sc (gv vz i)=true)∧0≤(Pz g i).at_∧(Pz g i).at_≤65536:=by
 have C:=h;simp only[Vj,Hw,Ib]at C;obtain⟨_,_,R,H,I,_⟩:=C;have D:=Jx.1 I i (J9.2 hi);simp only[eo,Hw,Ib,Jd,L8,I3,Bool.not_eq_false',Lk]at D;obtain⟨z,A,j,L,M⟩:=D;obtain⟨n,O,P,T,U,E,V,X⟩:=z7o z;have Q:=zfx H _ (Iq (Sk P));have B:0≤(Pz g i).buf:=J
 refine⟨J,iz B E J,⟨Bo,?_,?_⟩,A,M,λq=>?_,E,J⟩
 ·have e:(Nt (Pz g i)).b=n:=Bo
  rw[e];simp only[Nt];omega
 ·have e:(Nt (Pz g i)).b=n:=Bo
  rw[e];omega
 ·rcases j with j|j
  ·exact absurd q j
  ·exact j
def dc{o:Ko}{E:List Pc}{g:Pc}(h:Vj vz Z E vK g=true):(Nt (Ti vz o vK g)).p=Ti vz o vK g∧Bp Z (Nt (Ti vz o vK g))∧Bw Z (Nt (Ti vz o vK g))∧(Ng Z (Nt (Ti vz o vK g)).b).sec=!Tt vz o.d∧0≤(Ti vz o vK g).at_∧(Ti vz o vK g).at_≤65536:=by
 have A:=h;simp only[Vj,Hw,Ib]at A;obtain⟨_,_,Q,F,_,H,I⟩:=A;have j:∀(b:Bool) (w:Pc),V2 Z b w=true→(Nt w).p=w∧Bp Z (Nt w)∧Bw Z (Nt w)∧(Ng Z (Nt w).b).sec=b∧0≤w.at_∧w.at_≤65536:=λb w hw=>by
  simp only[V2,Hw,Jd,I3,Lk]at hw;obtain⟨z,B,C⟩:=hw;obtain⟨n,L,M,R,T,D,U,V⟩:=z7o z;have O:=zfx F _ (Iq (Sk M));have e:(Nt w).b=n:=Bo
  have P:w.buf.toNat=n:=J
  rw[P]at B C;refine⟨iz J D J,⟨J,?_,?_⟩,?_,?_,D,J⟩
  ·rw[e];simp only[Nt];omega
  ·rw[e];omega
  ·unfold Bw;rw[e];exact B
  ·rw[e];exact C
 unfold Ti;cases X:Tt vz o.d with
 |true=>simpa using j false vK H
 |false=>simpa using j true g I
def Sl(vs:List Vr)(o:Ko)(g:List Pc)(j z:Pc):Pw :=
 ⟨Nt (Pz g o.d.toNat),Nt (Pz g o.a.toNat),Nt (Pz g o.b.toNat),Nt (Pz g o.c.toNat),(Ti vs o j z).buf.toNat,(Ti vs o j z).at_.toNat,(Pz g o.c.toNat).size.toNat,o.imm.toNat,(Rp (Pz g o.b.toNat).size o.imm.toNat).toNat,(Rv (Pz g o.b.toNat).size o.imm.toNat).toNat,(se vs o).toNat⟩
def Yk(vs:List Vr)(o:Ko)(bs:List Bf)(g:List Pc)(j z:Pc)(deep:Int):List Lo:=if gh vs o bs g j z deep (Ol vs o)=true then ((Sl vs o g j z).code deep).flat else []
def Xy(vs:List Vr)(o:Ko)(bs:List Bf)(g:List Pc)(j z:Pc)(deep:Int):Int:=if gh vs o bs g j z deep (Ol vs o)=true then 0 else 2
def Yy{l:Nat}{w:Nat}(C:1≤l∧l≤512)(hw:1≤w∧w≤6):∃t v:Nat,Rp l w=t∧Rv l w=v∧t*w=64*l+v∧v≤63∧v<w∧t≤40000:=by
 have z:Rp l w=(64*(l:Int)+w-1)/w:=by unfold Rp;rw[Hv J]
 have g:Rv l w=Rp l w*w-64*l:=by unfold Rv;rw[Hv J]
 have j:0≤(64*(l:Int)+w-1)/w∧(64*(l:Int)+w-1)/w≤40000∧0≤(64*(l:Int)+w-1)/w*w-64*l∧(64*(l:Int)+w-1)/w*w-64*l<w:=by
  have A:w=1∨w=2∨w=3∨w=4∨w=5∨w=6:=J
  rcases A with rfl|rfl|rfl|rfl|rfl|rfl<;>omega
 rw[z]at g;obtain⟨t,B⟩:=Hz j.1;rw[B]at z g j;obtain⟨v,hv⟩:=Hz j.2.2.1;rw[hv]at g j;refine⟨t,v,z,g,?_,J,J,J⟩;have:((t*w:Nat):Int)=((64*l+v:Nat):Int):=by push_cast;omega
 exact_mod_cast this
def zvu{p:Pw}{D:Int}:(p.code D).flat.length≤3000:=by
 have g:=z9p (p:=p) (d:=p.ent) (bits:=64*p.k) (D:=D);have j:=z9p (p:=p) (d:=p.cur) (bits:=128*p.k) (D:=D);have z:=wj (p:=p) (d:=p.base) (a:=p.a) (b:=p.cur) (D:=D);have A:=zcn (p:=p) (a:=p.acc) (b:=p.ent) (D:=D);have B:=Ui (d:=D) (t:=(2^p.w-1:Nat)) (b:=p.fillR D) zjm;have C:=Zk (p:=p) (D:=D);have E:=Ui (d:=D) (t:=p.times) (b:=p.runR (D+1)) zmy;have F:(Si p.cur.p p.B D).flat.length≤3:=Ui (m:=1) Cl;have H:=wj (p:=p) (d:=p.d) (a:=p.acc) (b:=p.cur) (D:=D);unfold Pw.code Pw.fill Pw.run;simp only[Pb,flat_frL,H8,Ig,Iw];omega
section next
variable {G : M0} {K : LV → M0 → Prop}
def o0{w:Pc}{x n:Int}(hw:-1000000≤w.at_∧w.at_≤1000000)(P:0≤x∧x≤1000000)(Q:0≤n∧n≤1000000)(B:G[6]?=some (.cells [.i x] g))(E:G[2]?=some (.cells w.f j))
  (k:∀y,K (.agg (Pc.f ⟨w.buf,w.at_+x,n⟩)) ((G++y).set 6 (.cells [.i (x+n)] (g+1)))):Ob (.fn 97) [.i n,.ptr 6 0,.ptr 2 0] G K:=by
 refine Nb r_power_Code_1 Aa N ?_;have F:6<G.length:=(Hu.1 B).1;have H:∀y:List LObj,(G++y)[6]?=_:=λy=>(M6 F).trans B
 have C:∀y:List LObj,(G++y)[2]?=_:=λy=>(M6 J).trans E
 have I:∀(y:List LObj) (o:LObj),((G++y).set 6 o)[6]?=some o:=λy o=>H0 Ab
 have D:∀(y:List LObj) (o:LObj),((G++y).set 6 o)[2]?=some (.cells w.f j):=λy o=>by rw[Hx J];exact C y
 unfold Pc.f at C D;simp[zdi,↓H,↓I,↓D];refine⟨J,J,?_⟩;refine z5w (p:=w) J ?_;have L:∀(c:LObj) (y:List LObj) (o:LObj),((G++c::y).set 6 o)[G.length]?=some c:=λc y o=>by
  rw[Hx J];simp
 have M:∀(c z:LObj) (y:List LObj) (o:LObj),((G++c::y).set 6 o).set G.length z=(G++z::y).set 6 o:=λc z y o=>by
  rw[List.set_comm _ _ J];simp
 have e:∀y O:List LObj,((G++y).set 6 (.cells [.i (x+n)] (g+1)))++O=(G++(y++O)).set 6 (.cells [.i (x+n)] (g+1)):=λy O=>by rw[←Jg];exact (List.set_append_left _ _ Ab).symm
 have A:¬6=G.length:=J
 simp[Pc.f,e,↓L,↓M,A];exact k _
structure CdH (L0 L1 L2 L3 L4:List LV) (PC:List LV) (s5:Nat) (x:Int) (s6:Nat) (G:M0):Prop where
 g0:G[0]?=some (.cells L0 0)
 g1:G[1]?=some (.cells L1 0)
 g2:G[2]?=some (.cells L2 1)
 g3:G[3]?=some (.cells L3 1)
 g4:G[4]?=some (.cells L4 0)
 g5:G[5]?=some (.cells PC s5)
 g6:G[6]?=some (.cells [.i x] s6)
def CdH.st{L1 L2 L3 L4 PC:List LV}{s5 s6:Nat}{x:Int}(h:CdH v8 L1 L2 L3 L4 PC s5 x s6 G)(gg:List LV)(s':Nat):CdH v8 L1 L2 L3 L4 gg s' x s6 (G.set 5 (.cells gg s')):=by
 have l6:6<G.length:=(Hu.1 h.g6).1;have a:∀i:Nat,i≠5→(G.set 5 (.cells gg s'))[i]?=G[i]?:=λi hi=>Hx (Ne.symm hi)
 exact⟨(a 0 J).trans h.g0,(a 1 J).trans h.g1,(a 2 J).trans h.g2,(a 3 J).trans h.g3,(a 4 J).trans h.g4,H0 J,(a 6 J).trans h.g6⟩
def CdH.app{L1 L2 L3 L4 PC:List LV}{s5 s6:Nat}{x:Int}(h:CdH v8 L1 L2 L3 L4 PC s5 x s6 G)(y:List LObj):CdH v8 L1 L2 L3 L4 PC s5 x s6 (G++y):=by
 have l6:6<G.length:=(Hu.1 h.g6).1;have a:∀i:Nat,i≤6→(G++y)[i]?=G[i]?:=λi hi=>M6 J
 exact⟨(a 0 J).trans h.g0,(a 1 J).trans h.g1,(a 2 J).trans h.g2,(a 3 J).trans h.g3,(a 4 J).trans h.g4,(a 5 J).trans h.g5,(a 6 J).trans h.g6⟩
def zx1{j z A:List LV}{s5 s6:Nat}{x n:Int}{w:Pc}(g:CdH E v8 w.f j z A s5 x s6 G)(hw:-1000000≤w.at_∧w.at_≤1000000)(C:0≤x∧x≤1000000)(D:0≤n∧n≤1000000)
  (k:∀B,CdH E v8 w.f j z A s5 (x+n) (s6+1) B→K (.agg (Pc.f ⟨w.buf,w.at_+x,n⟩)) B):Ob (.fn 97) [.i n,.ptr 6 0,.ptr 2 0] G K:=by
 refine o0 hw C D g.g6 g.g2 λy=>k _ ?_
 have F:6<G.length:=(Hu.1 g.g6).1;have a:∀i:Nat,i<6→((G++y).set 6 (.cells [.i (x+n)] (s6+1)))[i]?=G[i]?:=λi hi=>by
  rw[Hx J,M6 J]
 exact⟨(a 0 J).trans g.g0,(a 1 J).trans g.g1,(a 2 J).trans g.g2,(a 3 J).trans g.g3,(a 4 J).trans g.g4,(a 5 J).trans g.g5,H0 Ab⟩
end next
def pwI(p:Pw)(i:Nat):List LV:=[.ptr 4 0,.i p.d.b,.i p.d.a,.i p.d.k,.i p.a.b,.i p.a.a,.i p.a.k,.i p.n.b,.i p.n.a,.i p.k,.i p.acc.b,.i p.acc.a,.i p.acc.k,.i p.base.b,.i p.base.a,.i p.base.k,.i p.cur.b,.i p.cur.a,.i p.cur.k,.i p.es.b,.i p.es.a,.i p.es.k,.i p.t.b,.i p.t.a,.i p.t.k,.i p.tab.b,.i p.tab.a,.i p.tab.k,
 .i (if 0<i then (p.B:Int) else 0),.i (if 1<i then (p.B:Int)+1 else 0),.i (if 2<i then (p.B:Int)+2 else 0),.i (if 3<i then (p.B:Int)+3 else 0),.i (if 4<i then (p.B:Int)+4 else 0),.i (if 5<i then (p.B:Int)+5 else 0),.i (if 6<i then (p.B:Int)+6 else 0),.i p.w,.i ((p.B:Int)+10)]
def zo3(vs:List Vr)(o:Ko)(bs:List Bf)(j:List Pc)(E F:Pc)(deep:Int)(hv:vs.length≤1000000)(hb:bs.length≤9223372036854775807) :
  O2 44 [.lst (Px vs) vs.length 3,.agg o.f,.agg (Qt bs j E F),.i deep] (.tup [.lst (Pm (Yk vs o bs j E F deep)) (Yk vs o bs j E F deep).length 8,.i (Xy vs o bs j E F deep)]):=by
 refine Sa.mk (by simp[dats,LV.dat,Ug]) (Nb r_power_Code Aa (by simp) ?_);have Q:o.f=[.i o.kind,.i o.d,.i o.e,.i o.a,.i o.b,.i o.c,.u o.imm]:=rfl;have I:Qt bs j E F=[.lst (P8 bs) bs.length 3,.lst (Xe j) j.length 3,.i E.buf,.i E.at_,.i E.size,.i F.buf,.i F.at_,.i F.size]:=rfl;simp[zgv,I,Q];rw[←Q];refine Nw (zf9 vs o hv) (bors_self _ (by simp[dats,LV.dat,Tz,Q])) ?_;simp[I,Q];rw[←Q,←I];refine Nw (zjw vs o bs j E F deep (Ol vs o) hv hb) (bors_self _ (by simp[dats,LV.dat,Tz,zcj,Q])) ?_;unfold Yk Xy;cases hr:gh vs o bs j E F deep (Ol vs o) with
 |false =>
  simp[Pm]
 |true =>
 have gF:=hr;simp only[gh,Hw,Ib]at gF;obtain⟨hP,hw,jO,jP,jQ⟩:=gF;have hm:o.kind=13∧Tp vs o=true:=by
  unfold Ol at hw;split at hw
  ·rename_i h;simpa using h
  ·omega
 obtain⟨gG,hp,V,gz⟩:=zpn (s:=29) hm.2 (by simp[Rh,hm.1]);obtain⟨d,ed,hd⟩:∃d:Nat,o.d=d∧d<vs.length:=by
  have h:=zsr hp Ac;obtain⟨d,e⟩:=Hz h.1;exact⟨d,e,J⟩
 obtain⟨a,ea,ha⟩:∃d:Nat,o.a=d∧d<vs.length:=by
  have h:=zs2 hp Ac;obtain⟨d,e⟩:=Hz h.1;exact⟨d,e,J⟩
 obtain⟨b,eb,gT⟩:∃d:Nat,o.b=d∧d<vs.length:=by
  have h:=zjf hp Ac;obtain⟨d,e⟩:=Hz h.1;exact⟨d,e,J⟩
 obtain⟨c,ec,hc⟩:∃d:Nat,o.c=d∧d<vs.length:=by
  have h:=zk5 hp Ac;obtain⟨d,e⟩:=Hz h.1;exact⟨d,e,J⟩
 have M:1≤o.imm.toNat∧o.imm.toNat≤6:=by
  simp only[Ss,hm.1]at V;have h:1≤o.imm∧o.imm≤6:=by simpa using V
  rw[Je,Je]at h;exact h
 obtain⟨ld,pd,_,sd,_,_,d3,d4⟩:=zca hP hd;obtain⟨la,pa,_,sa,_,_,a3,a4⟩:=zca hP ha;obtain⟨lb,pb,_,sb,_,_,b3,b4⟩:=zca hP gT;obtain⟨lc,pc,_,sc,_,_,c3,c4⟩:=zca hP hc;obtain⟨pw,_,_,_,w3,w4⟩:=dc (o:=o) hP;have td:=zf5 (zom ld);have ta:=zf5 (zom la);have tb:=zf5 (zom lb);have tc:=zf5 (zom lc);have qd:=Wv ld;have qa:=Wv la;have qb:=Wv lb;have qc:=Wv lc;simp[I,Q];rw[←Q,←I];refine Nw (zdk vs o bs j E F) (bors_self _ (by simp[dats,LV.dat,Tz,zcj,Q])) ?_;obtain⟨p,g⟩:∃p,Sl vs o j E F=p:=⟨_,rfl⟩;have gU:o.d.toNat=d:=J
 have gV:o.a.toNat=a:=J
 have gA:o.b.toNat=b:=J
 have gH:o.c.toNat=c:=J
 have L:∀i,Rq vs (i:Nat)=(gv vs i).limbs:=λi=>by unfold Rq;rw[Is]
 have gI:∀v∈[o.d,o.a,o.c],Rq vs v=Rq vs o.d:=by
  have e:Rx o=[o.d,o.a,o.c]:=by simp[Rx,hm.1]
  unfold sm at gz;rw[e]at gz;intro v hv;simpa using Jx.1 gz v hv
 have gX:=gI o.a (by simp);have gY:=gI o.c (by simp);rw[ea,ed,L,L]at gX;rw[ec,ed,L,L]at gY;obtain⟨_,_,_,_,gZ,g9⟩:=zc5 gG (zjf hp Ac);obtain⟨_,_,_,_,jg,jz⟩:=zc5 gG (zk5 hp Ac);rw[eb,L,←sb]at gZ g9;rw[ec,L,←sc]at jg jz;obtain⟨tt,tv,gB,gC,jR,jT,jU,jV⟩:=Yy (l:=(Nt (Pz j b)).k) (w:=o.imm.toNat) Bo M;have gK:(((Nt (Pz j b)).k:Nat):Int)=(Pz j b).size:=Bo
 have jX:(((Nt (Pz j c)).k:Nat):Int)=(Pz j c).size:=Bo
 have hR:se vs o=16∨se vs o=40:=by unfold se;split<;>simp
 have f1:p.d=Nt (Pz j d):=by rw[←g];simp only[Sl,gU]
 have f2:p.a=Nt (Pz j a):=by rw[←g];simp only[Sl,gV]
 have f3:p.b=Nt (Pz j b):=by rw[←g];simp only[Sl,gA]
 have f4:p.n=Nt (Pz j c):=by rw[←g];simp only[Sl,gH]
 have f5:p.k=p.n.k:=by rw[f4,←g];simp only[Sl,gH,Nt]
 have R:p.w=o.imm.toNat:=by rw[←g];rfl
 have f7:(p.B:Int)=se vs o:=by rw[←g];simp only[Sl];omega
 have f8:(p.times:Int)=Rp (p.b.k:Int) p.w:=by rw[f3,R,gB,←g];simp only[Sl,gA];rw[←gK,gB];rfl
 have f9:(p.over:Int)=Rv (p.b.k:Int) p.w:=by rw[f3,R,gC,←g];simp only[Sl,gA];rw[←gK,gC];rfl
 have gL:(Ti vs o E F).buf=p.wb∧(Ti vs o E F).at_=p.wa:=by
  have h:=congrArg Pc.buf pw;have h':=congrArg Pc.at_ pw;rw[←g];simp only[Sl];exact⟨h.symm,h'.symm⟩
 have hN:PwN p:=by
  have q1:=congrArg Pc.at_ pd;have q2:=congrArg Pc.at_ pa;have q3:=congrArg Pc.at_ pb;have q4:=congrArg Pc.at_ pc;have q5:=congrArg Pc.size pd;have q6:=congrArg Pc.size pa;simp only[Pn.p]at q1 q2 q3 q4 q5 q6;refine⟨f5.symm,?_,?_,?_,?_,?_,?_,?_,?_,?_,?_,?_,?_⟩
  ·rw[f5,f1,f4];omega
  ·rw[f5,f2,f4];omega
  ·rw[f5,f4];omega
  ·rw[f1];omega
  ·rw[f2];omega
  ·rw[f3];omega
  ·rw[f4];omega
  ·rw[R];exact M
  ·omega
  ·omega
  ·rw[R,f3,gC]at f9;omega
  ·rw[R,f3,gB]at f8;omega
 rw[←pd,←f1]at td;rw[←pa,←f2]at ta;rw[←pb,←f3]at tb;rw[←pc,←f4]at tc;have hW:∃X:Int,(Ti vs o E F).f=[.i (p.wb:Int),.i (p.wa:Int),.i X]:=⟨(Ti vs o E F).size,by unfold Pc.f;rw[gL.1,gL.2]⟩;obtain⟨X,hW⟩:=hW;rw[←f7,hW];have jA:o.imm.toNat<9223372036854775808:=J
 simp only[Pn.p,Pc.f]at td ta tb tc;simp[I,Q,ed,ea,eb,ec,ld,la,lb,lc,td,ta,tb,tc,qd,qa,qb,qc,jA];have hk:=hN.k;have z:=hN.nk;have jY:=hN.b;have jZ:=hN.wa;refine⟨J,J,?_⟩;rw[z];refine zx1 (w:=⟨p.wb,p.wa,X⟩) (s5:=0) (s6:=1) ⟨rfl,rfl,rfl,rfl,rfl,rfl,rfl⟩ A8 J J λG1 c1=>?_
 simp[c1.g3,Pc.f,z];refine zx1 (w:=⟨p.wb,p.wa,X⟩) c1 A8 J J λG2 c2=>?_
 simp[c1.g3,c2.g3,Pc.f,z];refine zx1 (w:=⟨p.wb,p.wa,X⟩) c2 A8 J J λG3 c3=>?_
 simp[c1.g3,c2.g3,c3.g3,Pc.f,z];refine zx1 (w:=⟨p.wb,p.wa,X⟩) c3 A8 J J λG4 c4=>?_
 have l6:6<G4.length:=(Hu.1 c4.g6).1;have s5:∀H,(G4.set 5 H)[5]?=some H:=λH=>H0 J
 have g4:=c4.g5;have gD:=c4.g3;simp[↓gD,↓g4,↓s5,Pc.f,z];have jB:=ew M.2;have jC:(p.k:Int)*2^o.imm.toNat=((p.k*2^p.w:Nat):Int):=by rw[R];push_cast;rfl
 have jM:p.k*2^p.w≤512*64:=Jw hk.2 (by rw[R];exact jB);rw[jC];generalize hK:p.k*2^p.w=kw at *;have jD:dv (p.k:Int)=p.k+2:=by unfold dv;rw[Hv J]
 refine⟨J,J,?_⟩;refine z4m J ?_;rw[jD];simp[↓gD,↓g4,↓s5,Pc.f,z];refine zx1 (w:=⟨p.wb,p.wa,X⟩) (c4.st _ _) A8 J J λG5 c5=>?_
 have g5:=c5.g5;simp[↓g5,↓s5,Pc.f,z];refine zx1 (w:=⟨p.wb,p.wa,X⟩) c5 A8 J J λG6 c6=>?_
 have g6:=c6.g5;have jE:6<G6.length:=(Hu.1 c6.g6).1;have s6:∀H,(G6.set 5 H)[5]?=some H:=λH=>H0 J
 simp[↓g6,↓s6,Pc.f,z];have c7:=λj5=>((c6.st j5 6).app [LObj.dyn [.ptr 5 28,.ptr 5 29,.ptr 5 30,.ptr 5 31,.ptr 5 32,.ptr 5 33,.ptr 5 34] 7 1 0 0])
 have d7:∀H:LObj,(G6.set 5 H++[LObj.dyn [.ptr 5 28,.ptr 5 29,.ptr 5 30,.ptr 5 31,.ptr 5 32,.ptr 5 33,.ptr 5 34] 7 1 0 0])[G6.length]?=some (LObj.dyn [.ptr 5 28,.ptr 5 29,.ptr 5 30,.ptr 5 31,.ptr 5 32,.ptr 5 33,.ptr 5 34] 7 1 0 0):=λH=>by
  rw[Il (by simp)];simp
 obtain⟨gR,hz,j0⟩:∃gR,G6.length=gR∧6<gR:=⟨_,rfl,jE⟩;rw[hz]at d7 ⊢;refine Po (λρ D G' N=>∃i st:Nat,D=[]∧N+i=7∧lk ρ 10=.i p.B∧lk ρ 12=.ptr 3 0∧lk ρ 13=.ptr 5 0∧lk ρ 142=.dy gR 0∧lk ρ 143=.i 7∧lk ρ 144=.i i ∧
   G'[3]?=some (.cells p.b.p.f 1)∧G'[4]?=some (.cells [.nilSl,.i deep] 0)∧G'[5]?=some (.cells (pwI p i) st)∧G'[gR]?=some (LObj.dyn [.ptr 5 28,.ptr 5 29,.ptr 5 30,.ptr 5 31,.ptr 5 32,.ptr 5 33,.ptr 5 34] 7 1 0 0)) (N:=7)
  ⟨0,6,rfl,J,by simp,by simp,by simp,by simp,by simp,by simp,(c7 _).g3,(c7 _).g4,?_,d7 _⟩ ?_
 ·refine Eq.trans (c7 _).g5 ?_;simp[pwI,R,Pw.acc,Pw.base,Pw.cur,Pw.es,Pw.t,Pw.tab];have jF:(kw:Int)=(p.k:Int)*2^p.w:=by rw[←hK];push_cast;rfl
  rw[←R];refine⟨J,J,J,J,jF⟩
 clear c1 c2 c3 c4 c5 c6 c7 d7 g4 gD g5 g6 s5 s6;rintro N ρ D T ⟨i,st,rfl,j1,A,B,C,O,P,Y,q3,q4,q5,qz⟩ Nx jG;have lz:gR<T.length:=(Hu.1 qz).1;have n3:∀H,(T.set 5 H)[3]?=T[3]?:=λH=>Hx J
 have n4:∀H,(T.set 5 H)[4]?=T[4]?:=λH=>Hx J
 have n5:∀H,(T.set 5 H)[5]?=some H:=λH=>H0 J
 have nz:∀H,(T.set 5 H)[gR]?=T[gR]?:=λH=>Hx J
 by_cases j6:i<7
 ·have hi:i=0∨i=1∨i=2∨i=3∨i=4∨i=5∨i=6:=J
  have nx:∀(Z:M2) (H:LObj),lk Z 10=.i p.B→lk Z 12=.ptr 3 0→lk Z 13=.ptr 5 0→lk Z 142=.dy gR 0→lk Z 143=.i 7→lk Z 144=.i ((i+1:Nat):Int)→H=.cells (pwI p (i+1)) (st+1)→Nx Z [] (T.set 5 H):=λZ H jH jI jK gM gO gP hX=>jG _ _ _ ⟨N-1,J,i+1,st+1,rfl,J,jH,jI,jK,gM,gO,gP,(n3 H).trans q3,(n4 H).trans q4,by rw[n5,hX],(nz H).trans qz⟩
  unfold pwI at q5;rcases hi with rfl|rfl|rfl|rfl|rfl|rfl|rfl
  all_goals simp[A,B,C,O,P,Y,↓q5,↓qz]
  all_goals (try (refine⟨J,?_⟩))
  all_goals exact nx _ _ A7 Aw As F5 Ey (by simp) (by simp[pwI])
 have hi:i=7:=J
 subst hi;have jL:pwI p 7=Rk 4 p:=by simp[pwI,Rk,z]
 rw[jL]at q5;have gE:=q5;have U:=q3;unfold Rk at gE;unfold Pc.f Pn.p at U;have gg:=zao (p.b.k:Int) (p.w:Int);rw[←f8,←f9]at gg;simp[A,B,C,O,P,Y,U,gE];refine Nw gg (by simp) ?_;simp[A,B,C,U,gE];refine W8 (ops:=[]) (deep:=deep) ⟨0,.nilSl,q4,Py.nil⟩ (by simp) λH1 h1 k1=>?_
 have p1:=k1.cells Ac q5;have b1:=k1.cells Ac U;simp[A,B,C];refine iy hN J p1 Ac h1 (by simp) λH2 h2 k2=>?_
 have p2:=k2.cells Ac p1;have b2:=k2.cells Ac b1;have l2:(p.fill deep).flat.length≤1000:=by
  have h1:=z9p (p:=p) (d:=p.ent) (bits:=64*p.k) (D:=deep);have h2:=z9p (p:=p) (d:=p.cur) (bits:=128*p.k) (D:=deep);have h3:=wj (p:=p) (d:=p.base) (a:=p.a) (b:=p.cur) (D:=deep);have h4:=zcn (p:=p) (a:=p.acc) (b:=p.ent) (D:=deep);have h5:=Ui (d:=deep) (t:=(2^p.w-1:Nat)) (b:=p.fillR deep) zjm;unfold Pw.fill;simp only[Pb,flat_frL,H8,Ig,Iw];omega
 simp[A,B,C,b2];refine vk hN J p2 Ac h2 Ab λH3 h3 k3=>?_
 have l3:=Zk (p:=p) (D:=deep);have p3:=k3.cells Ac p2;simp[A,B,C];refine x8 hN J p3 Ac h3 Ab λH4 h4 k4=>?_
 have p4:=k4.cells Ac p3;unfold Rk at p4;obtain⟨j4,v,e1,e2⟩:=h4;have hC:((p.code deep).flat:List Lo)=[cK p.B 0]++(p.fill deep).flat++(p.exp deep).flat++(p.run deep).flat:=by
  unfold Pw.code;simp only[Pb,flat_frL];simp
 have gQ:=e2.bor;rw[Lw,←hC]at gQ;simp[-O5,A,B,C,p4,e1];rw[g];exact gQ
end
def z67:LC:=(.q [.z 4 (.move (.c (.u 0)))] (.seq (.q [.m 5 1,.b 6 .geq 3 5 0,.m 7 6,.my 8 7 1,.my 9 7 0,.y 10 7 (.lenSl (.t 9)),.y 11 7 (.bin .lss false 3 (.t 8) (.t 10)),.q 12 7 11] (.cond (.t 12) (.q [.m 13 0,.m 14 1,.I 15 1 13 14,.l 16 15,.m 4 16] .ret) .skip)) (.q [.z 4 (.move (.c (.u 0)))] .ret)))
def r_ref02_limb:Na Tryz.prog 130=some ⟨17,z67.r,[.tmp 4]⟩:=Aa
def zg8:LC:=(.q [.e 2] (.q [.m 4 0,.s 5 4,.m 3 5] (.seq (.block 0 (.loop (.seq (.q [.m 6 3,.b 7 .gtr 3 6 0,.m 8 7,.my 9 8 0,.my 10 8 3,.y 11 8 (.bin .sub true 3 (.t 10) (.k 1)),.y 12 8 (.ixAddr 1 (.t 9) (.t 11)),.yl 13 8 12,.y 14 8 (.bin .eql true 23 (.t 13) (.c (.u 0))),.q 15 8 14] (.cond (.t 15) .skip (.exit 0))) (.block 1 (.ops [.m 16 3,.b 17 .sub 3 16 1,.m 3 17]))))) (.q [.z 18 (.buildSl 1 0 [] []),.m 19 0,.m 20 3,.z 21 (.slSl 1 (.t 19) none (some (.t 20))),.a 22 1 18 21,.m 2 22] .ret))))
def r_ref02_Trim:Na Tryz.prog 84=some ⟨23,zg8.r,[.tmp 2]⟩:=Aa
def zdt:LC:=(.q [.z 6 (.move (.c (.u 0))),.F 7] (.q [.m 10 0,.m 11 1,.c 12 .add 23 10 11,.m 8 12] (.q [.m 13 8,.m 14 0,.c 15 .lss 23 13 14,.m 9 15] (.seq (.q [.m 16 2] (.cond (.t 16) (.q [.m 17 8,.u 18 .add 23 17 1,.m 8 18] (.ops [.m 19 9,.m 20 19,.mn 21 20 8,.n 22 20 (.bin .eql true 23 (.t 21) (.c (.u 0))),.p 23 20 22,.m 9 23])) .skip)) (.q [.m 24 8,.m 25 9,.m 6 24,.m 7 25] .ret)))))
def r_ref01_Add:Na Tryz.prog 92=some ⟨26,zdt.r,[.tmp 6,.tmp 7]⟩:=Aa
def zaj:LC:=(.q [.e 2] (.q [.z 3 (.buildSl 1 0 [] []),.m 4 0,.a 5 1 3 4,.m 2 5] .ret))
def r_kit_Own_uint64:Na Tryz.prog 27=some ⟨6,zaj.r,[.tmp 2]⟩:=Aa
def z30(a:List UInt64)(i:Int):Nj 130 [LU a,.i i] (.u (if 0≤i then a.getD i.toNat 0 else 0)) []:=by
 refine Oj.val rfl (Nb r_ref02_limb Aa N ?_);by_cases g:0≤i<;>by_cases j:i<a.length
 ·have z:i.toNat<a.length:=J
  simp[z67,g,j,z]
 ·have z:a[i.toNat]?=none:=Ab
  simp[z67,g,j,z]
 ·simp[z67,g,j]
 ·simp[z67,g,j]
def z3w(a:List UInt64)(L:a.length≤1048576):Nj 84 [LU a] (.dy 0 0) [RU (Qa (val a))]:=by
 refine Oj.row (Nb r_ref02_Trim Aa (by simp) ?_);simp[zg8];refine uc (λG I K z=>I=[]∧K=[]∧z≤a.length∧lk G 0=LU a∧lk G 3=.i z∧val (a.take z)=val a) (N:=a.length) (by simp) ?_;rintro z G I K ⟨rfl,rfl,M,C,D,F⟩;simp at C;have A:(z=0∨a.getD (z-1) 0≠0)→Qa (val a)=a.take z:=by
  intro h;rw[←F];refine toL_val ?_;rcases h with rfl|h
  ·exact .inl (by simp)
  ·by_cases E:z=0
   ·subst E;exact .inl (by simp)
   ·have:z=(z-1)+1:=J
    rw[this,zdf J];exact ns h
 by_cases E:z=0
 ·subst E;have B:=A (.inl rfl);simp at D B;simp[C,D,B,Se];exact⟨0,1,⟨rfl,rfl⟩,by simp⟩
 ·obtain⟨n,rfl⟩:∃n,z=n+1:=⟨z-1,J⟩;have g:n<a.length:=J
  have H:((n:Int)+1-1).toNat=n:=J
  simp[C,D,g,H];refine⟨J,λj=>⟨J,n,J,J,rfl,?_⟩,λj=>⟨J,J,J,?_⟩⟩
  ·rw[←F,za3 g];simp[g,j]
  ·have B:=A (.inr (by simpa [g] using j));refine .inr ⟨0,1,1,rfl,?_⟩;rw[B];simp[Mz];omega
def zxb(a:List UInt64)(g:a.length≤1048576):Nj 27 [LU a] (.dy 0 0) [RU a]:=by
 refine Oj.row (Nb r_kit_Own_uint64 Aa N ?_);simp[zaj,g];exact .inr ⟨0,1,1,rfl,N⟩
def zq0(a b:UInt64):(a≤a+b→decide (a+b+1=0)=(Qc a b true).2)∧(a+b<a→true=(Qc a b true).2):=by
 unfold Qc;refine⟨λh=>?_,λh=>?_⟩
 ·have g:¬a+b<a:=My.2 h;simp[g]
 ·simp[h]
def zgb(a b:UInt64)(c:Bool):Nj 92 [.u a,.u b,.bool c] (.tup [.u (Qc a b c).1,.bool (Qc a b c).2]) []:=by
 refine Oj.val rfl (Nb r_ref01_Add Aa N ?_);cases c
 ·simp[zdt];simp[Qc,Uz]
 ·simp[zdt];simp only[Uz];exact⟨λh=>⟨rfl,((zq0 a b).2 h).symm⟩,λh=>⟨rfl,(zq0 a b).1 h⟩⟩
def zi1:LC:=(.q [.e 4] (.q [.e 5] (.q [.F 6] (.seq (.q [.K 7 0] (.block 0 (.loop (.seq (.q [.m 9 7,.m 10 0,.s 11 10,.m 12 1,.s 13 12,.z 14 (.maxi true (.t 11) (.t 13)),.c 15 .leq 3 9 14] (.cond (.t 15) .skip (.exit 0))) (.seq (.block 1 (.q [.z 8 (.move (.c (.u 0)))] (.q [.m 19 0,.m 20 7,.W 21 130 19 20,.m 22 1,.m 23 7,.W 24 130 22 23,.m 25 6,.V 26 92 21 24 25,.m 18 26,.X 27 0 18,.X 28 1 18,.m 8 27,.m 6 28] (.ops [.m 29 5,.m 30 8,.z 31 (.buildSl 1 1 [(.u 0)] [(0,1,.t 30)]),.a 32 1 29 31,.m 5 32])))) (.ops [.m 16 7,.b 17 .add 3 16 1,.m 7 17])))))) (.q [.m 33 5,.w 34 84 33,.m 4 34] .ret)))))
def r_ref02_Add:Na Tryz.prog 81=some ⟨35,zi1.r,[.tmp 4]⟩:=Aa
def zgw(a b:List UInt64)(P:a.length≤1000000)(Q:b.length≤1000000):Nj 81 [LU a,LU b] (.dy 0 0) [RU (Qa (val a+val b))]:=by
 refine Oj.row (Nb r_ref02_Add Aa (by simp) ?_);simp[zi1];refine Po (λF M O H=>∃(i:Nat) (c:Bool) (g:List UInt64),M=[]∧H+i=max a.length b.length+1∧lk F 0=LU a∧lk F 1=LU b∧lk F 7=.i i∧lk F 6=.bool c∧Se O (lk F 5) g∧g.length=i ∧
  val g+2^(64*i)*c.toNat=val (a.take i)+val (b.take i)) (N:=max a.length b.length+1) ⟨0,false,[],by simp[Se,val]⟩ ?_
 rintro H F M O ⟨i,c,g,rfl,R,B,z,A,I,G,j,hv⟩ T C;by_cases K:H=0
 ·subst K;have D:¬(i:Int)≤max (a.length:Int) (b.length:Int):=J
  simp[B,z,A,D];rw[z2w J,z2w J]at hv;refine zbr (z3w g J) (Ws G.bor) ?_;rw[uy (m:=i-1) J J J hv];simpa using Se.new
 ·have E:(i:Int)≤max (a.length:Int) (b.length:Int):=J
  simp[B,z,A,E];refine Nw (z30 a i) (by simp) ?_;simp[z,A];refine Nw (z30 b i) (by simp) ?_;simp[I];refine Nw (zgb (a.getD i 0) (b.getD i 0) c) (by simp) ?_;simp;refine zvi (G.app _) (xs:=[(Qc (a.getD i 0) (b.getD i 0) c).1]) rfl (by simp) J (λU V L _=>?_);simp[A];refine⟨J,C _ _ _ ⟨H-1,J,i+1,(Qc (a.getD i 0) (b.getD i 0) c).2,_,rfl,J,Aw,Ak,by simp,by simp,by simpa using L,An,nw j hv⟩⟩
def zf3:LC:=(.q [.F 4] (.seq (.q [.K 5 0] (.block 0 (.loop (.seq (.q [.m 8 5,.m 9 0,.s 10 9,.c 11 .lss 3 8 10,.m 12 11,.mn 13 12 5,.mn 14 12 1,.n 15 12 (.lenSl (.t 14)),.n 16 12 (.bin .lss false 3 (.t 13) (.t 15)),.p 17 12 16] (.cond (.t 17) .skip (.exit 0))) (.seq (.block 1 (.q [.z 6 (.move (.c (.u 0))),.z 7 (.move (.c (.u 0)))] (.seq (.q [.m 20 5,.m 21 0,.s 22 21,.c 23 .lss 3 20 22] (.cond (.t 23) (.ops [.m 24 0,.m 25 5,.I 26 1 24 25,.l 27 26,.m 6 27]) .skip)) (.seq (.q [.m 28 5,.m 29 1,.s 30 29,.c 31 .lss 3 28 30] (.cond (.t 31) (.ops [.m 32 1,.m 33 5,.I 34 1 32 33,.l 35 34,.m 7 35]) .skip)) (.q [.m 36 6,.m 37 7,.c 38 .neq 23 36 37] (.cond (.t 38) (.q [.F 4] .ret) .skip)))))) (.ops [.m 18 5,.b 19 .add 3 18 1,.m 5 19])))))) (.q [.z 4 (.move .T)] .ret)))
def r_kit_Natural:Na Tryz.prog 32=some ⟨39,zf3.r,[.tmp 4]⟩:=Aa
def z5k:LC:=(.q [.F 4] (.seq (.q [.m 6 0,.s 7 6,.m 8 1,.s 9 8,.c 10 .neq 3 7 9] (.cond (.t 10) (.q [.F 4] .ret) .skip)) (.seq (.q [.K 5 0] (.block 0 (.loop (.seq (.q [.m 11 5,.m 12 0,.s 13 12,.c 14 .lss 3 11 13] (.cond (.t 14) .skip (.exit 0))) (.seq (.block 1 (.seq (.draw [(.m 17 0,[]),(.m 18 5,[]),(.I 19 1 17 18,[]),(.l 20 19,[]),(.m 21 1,[]),(.m 22 5,[]),(.I 23 1 21 22,[]),(.l 24 23,[]),(.c 25 .neq 23 20 24,[])]) (.cond (.t 25) (.q [.F 4] .ret) .skip))) (.ops [.m 15 5,.b 16 .add 3 15 1,.m 5 16])))))) (.q [.z 4 (.move .T)] .ret))))
def r_kit_Same_uint64:Na Tryz.prog 53=some ⟨26,z5k.r,[.tmp 4]⟩:=Aa
def z8q(a b:List UInt64)(Q:a.length≤1000000)(R:b.length≤1000000):Nj 32 [LU a,LU b] (.bool (decide (val a=val b))) []:=by
 refine Oj.val rfl (Nb r_kit_Natural Aa (by simp) ?_);simp[zf3];refine Po (λK P T N=>∃i:Nat,P=[]∧N+i=max a.length b.length∧lk K 0=LU a∧lk K 1=LU b∧lk K 5=.i i∧val (a.take i)=val (b.take i)) (N:=max a.length b.length) ⟨0,by simp⟩ ?_;rintro N K P T ⟨i,rfl,U,z,A,I,hv⟩ V B;have next:a.getD i 0=b.getD i 0→val (a.take (i+1))=val (b.take (i+1)):=λe=>by rw[z2c,z2c,e,hv]
 have g:a.getD i 0≠b.getD i 0→val a≠val b:=λe L=>e (val_getD L i)
 have C:a.getD i 0=b.getD i 0→(i<a.length∨i<b.length)→∃j,j<N∧j+(i+1)=max a.length b.length∧val (a.take (i+1))=val (b.take (i+1)):=λe h=>⟨N-1,J,J,next e⟩
 by_cases D:i<a.length<;>by_cases E:i<b.length
 ·simp[D,E]at next g C
  simp[z,A,I,D,E];refine⟨λe=>⟨J,?_⟩,g⟩;obtain⟨j,F,G,H⟩:=C e;exact B _ _ _ ⟨j,F,i+1,rfl,G,Ak,A7,by simp,H⟩
 ·have M:b[i]?=none:=Ab
  simp[D,M]at next g C
  simp[z,A,I,D,E];refine⟨λe=>⟨J,?_⟩,g⟩;obtain⟨j,F,G,H⟩:=C e;exact B _ _ _ ⟨j,F,i+1,rfl,G,Ak,A7,by simp,H⟩
 ·have O:a[i]?=none:=Ab
  simp[E,O]at next g C
  simp[z,A,I,D,E];refine⟨λe=>⟨J,?_⟩,g⟩;obtain⟨j,F,G,H⟩:=C e;exact B _ _ _ ⟨j,F,i+1,rfl,G,Ak,A7,by simp,H⟩
 ·simp[z,A,I,D,E];rw[←z2w (a:=a) (n:=i) J,←z2w (a:=b) (n:=i) J,hv]
def ztc(a b:List UInt64)(I:a.length≤1000000000):Nj 53 [LU a,LU b] (.bool (decide (a=b))) []:=by
 refine Oj.val rfl (Nb r_kit_Same_uint64 Aa (by simp) ?_);by_cases g:a.length=b.length
 ·simp[z5k,g];refine Po (λG H K N=>∃i:Nat,H=[]∧N+i=a.length∧lk G 0=LU a∧lk G 1=LU b∧lk G 5=.i i∧a.take i=b.take i) (N:=a.length) ⟨0,Ba⟩ ?_;rintro N G H K ⟨i,rfl,L,A,C,D,F⟩ M E;by_cases O:N=0
  ·have hi:i=a.length:=J
   subst hi;have e:a=b:=by rwa [Ma,g,Ma]at F
   subst e;simp[A,D]
  ·have hi:i<a.length:=J
   have j:i<b.length:=J
   by_cases B:a[i]=b[i]
   ·simp[A,C,D,hi,j,B];refine⟨J,E _ _ _ ⟨N-1,J,i+1,rfl,J,A7,As,by simp,?_⟩⟩;rw[Jm hi,Jm j,F,B]
   ·have e:a≠b:=λe=>B (by subst e;rfl)
    simp[A,C,D,hi,j,B,e]
 ·have e:a≠b:=λe=>g F1
  have z:¬(a.length:Int)=b.length:=J
  simp[z5k,g,z,e]
def zdx:LC:=(.q [.z 6 (.move (.c (.u 0))),.F 7] (.q [.m 10 0,.m 11 1,.c 12 .sub 23 10 11,.m 8 12] (.q [.m 13 0,.m 14 1,.c 15 .lss 23 13 14,.m 9 15] (.seq (.q [.m 16 2] (.cond (.t 16) (.q [.m 17 9,.m 18 17,.mn 19 18 8,.n 20 18 (.bin .eql true 23 (.t 19) (.c (.u 0))),.p 21 18 20,.m 9 21] (.ops [.m 22 8,.u 23 .sub 23 22 1,.m 8 23])) .skip)) (.q [.m 24 8,.m 25 9,.m 6 24,.m 7 25] .ret)))))
def r_ref01_Sub:Na Tryz.prog 147=some ⟨26,zdx.r,[.tmp 6,.tmp 7]⟩:=Aa
def zii:LC:=(.q [.z 4 (.move (.c (.u 0))),.z 5 (.move (.c (.u 0)))] (.q [.m 12 0,.u 13 .shr 23 12 32,.m 14 0,.u 15 .and 23 14 4294967295,.m 6 13,.m 7 15] (.q [.m 16 1,.u 17 .shr 23 16 32,.m 18 1,.u 19 .and 23 18 4294967295,.m 8 17,.m 9 19] (.q [.m 20 6,.m 21 9,.c 22 .mul 23 20 21,.m 23 7,.m 24 9,.c 25 .mul 23 23 24,.u 26 .shr 23 25 32,.c 27 .add 23 22 26,.m 10 27] (.q [.m 28 7,.m 29 8,.c 30 .mul 23 28 29,.m 31 10,.u 32 .and 23 31 4294967295,.c 33 .add 23 30 32,.m 11 33] (.q [.m 34 6,.m 35 8,.c 36 .mul 23 34 35,.m 37 10,.u 38 .shr 23 37 32,.c 39 .add 23 36 38,.m 40 11,.u 41 .shr 23 40 32,.c 42 .add 23 39 41,.m 43 0,.m 44 1,.c 45 .mul 23 43 44,.m 4 42,.m 5 45] .ret))))))
def r_ref01_Mul:Na Tryz.prog 91=some ⟨46,zii.r,[.tmp 4,.tmp 5]⟩:=Aa
def zgs:LC:=(.q [.K 2 0] (.q [.K 3 0] (.seq (.block 0 (.loop (.seq (.q [.m 4 0,.u 5 .gtr 23 4 0] (.cond (.t 5) .skip (.exit 0))) (.seq (.block 1 (.ops [.m 8 3,.b 9 .add 3 8 1,.m 3 9])) (.ops [.m 6 0,.u 7 .shr 23 6 1,.m 0 7]))))) (.q [.m 10 3,.m 2 10] .ret))))
def r_ref01_Bits:Na Tryz.prog 146=some ⟨11,zgs.r,[.tmp 2]⟩:=Aa
def zoz(a b:UInt64):(b≤a→decide (a-b=0)=(subC a b true).2)∧(a<b→true=(subC a b true).2):=by
 unfold subC;refine⟨λh=>?_,λh=>?_⟩
 ·have g:¬a<b:=My.2 h;simp[g]
 ·simp[h]
def zh1(a b:UInt64)(c:Bool):Nj 147 [.u a,.u b,.bool c] (.tup [.u (subC a b c).1,.bool (subC a b c).2]) []:=by
 refine Oj.val rfl (Nb r_ref01_Sub Aa N ?_);cases c
 ·simp[zdx];simp[subC,Yx]
 ·simp[zdx];simp only[Yx];exact⟨λh=>⟨rfl,((zoz a b).2 h).symm⟩,λh=>⟨rfl,(zoz a b).1 h⟩⟩
def zqd(a b:UInt64):Nj 91 [.u a,.u b] (.tup [.u (df a b),.u (a*b)]) []:=by
 refine Oj.val rfl (Nb r_ref01_Mul Aa N ?_);simp[zii];exact⟨mul_hi a b,zjz a b⟩
def znv(a:UInt64):Nj 146 [.u a] (.i (Pp a.toNat)) []:=by
 refine Oj.val rfl (Nb r_ref01_Bits Aa (by simp) ?_);simp[zgs];refine Po (λD H K I=>∃(x:UInt64) (i:Nat),H=[]∧I=Pp x.toNat∧lk D 0=.u x∧lk D 3=.i i∧i+Pp x.toNat=Pp a.toNat) (N:=Pp a.toNat) ⟨a,0,by simp⟩ ?_;rintro I D H K ⟨x,i,rfl,rfl,j,z,A⟩ L g;have E:Pp a.toNat≤64:=ztm a.toNat_lt;by_cases B:x=0
 ·subst B;simp[blen_zero]at A;simp[j,z,A]
 ·have F:x.toNat≠0:=λe=>B ((z7c x).2 e)
  have G:(0:UInt64)<x:=by rw[Jv];simp;omega
  have M:=zpg F;have C:(Q2 x 1).toNat=x.toNat/2:=by rw[af]
  simp[j,z,G];refine⟨J,g _ _ _ ⟨Pp (x.toNat/2),J,Q2 x 1,i+1,rfl,by rw[C],by simp,by simp,Gp⟩⟩
end Go.Proofs.YtodjkjimaheggaaGreat
end
