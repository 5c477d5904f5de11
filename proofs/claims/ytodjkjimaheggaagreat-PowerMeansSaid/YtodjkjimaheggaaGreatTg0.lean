/- The templates: see the main text. -/
import Derived.Test.YtodjkjimaheggaaGreatSvG3
import Derived.Test.YtodjkjimaheggaaGreatSvG2
import Derived.Test.YtodjkjimaheggaaGreatProg
import Derived.KernelRfl
set_option linter.defProp false
namespace Go.Sv
abbrev LI.z (d : Nat) (o : LOp) : LI := ⟨some d, none, o⟩
abbrev LI.m (d t : Nat) : LI := ⟨some d, none, .move (.t t)⟩
abbrev LI.l (d t : Nat) : LI := ⟨some d, none, .load1 (.t t)⟩
abbrev LI.f (d n t : Nat) : LI := ⟨some d, none, .fieldAddr n (.t t)⟩
abbrev LI.y (d g : Nat) (o : LOp) : LI := ⟨some d, some (g, true), o⟩
abbrev LI.n (d g : Nat) (o : LOp) : LI := ⟨some d, some (g, false), o⟩
abbrev LI.my (d g t : Nat) : LI := ⟨some d, some (g, true), .move (.t t)⟩
abbrev LI.mn (d g t : Nat) : LI := ⟨some d, some (g, false), .move (.t t)⟩
abbrev LI.v (o : LOp) : LI := ⟨none, none, o⟩
abbrev LOp.w (f : Nat) (l : List Lx) : LOp := .callV (.c (.fn (.func f) [] [])) l
abbrev Lx.k (n : Int) : Lx := .c (.i n)
abbrev Lx.T : Lx := .c (.bool true)
abbrev Lx.F : Lx := .c (.bool false)
abbrev LC.q (l : List LI) (s : LC) : LC := .seq (.ops l) s
abbrev LI.N (d a : Nat) : LI := .z d (.nilChk (.t a))
abbrev LI.L (d n a : Nat) : LI := .z d (.loadN n (.t a))
abbrev LI.I (d n a b : Nat) : LI := .z d (.ixAddr n (.t a) (.t b))
abbrev LI.b (d : Nat) (o : BinOp) (t a : Nat) (k : Int) : LI := .z d (.bin o true t (.t a) (.k k))
abbrev LI.c (d : Nat) (o : BinOp) (t a b : Nat) : LI := .z d (.bin o false t (.t a) (.t b))
abbrev LI.u (d : Nat) (o : BinOp) (t a : Nat) (k : UInt64) : LI := .z d (.bin o true t (.t a) (.c (.u k)))
abbrev LI.nb (d g : Nat) (o : BinOp) (t a : Nat) (k : Int) : LI := .n d g (.bin o true t (.t a) (.k k))
abbrev LI.p (d a b : Nat) : LI := .z d (.pick (.t a) .T (.t b))
abbrev LI.q (d a b : Nat) : LI := .z d (.pick (.t a) (.t b) .F)
abbrev LI.K (d : Nat) (k : Int) : LI := .z d (.move (.k k))
abbrev LI.F (d : Nat) : LI := .z d (.move .F)
abbrev LI.e (d : Nat) : LI := .z d (.move (.c .nilSl))
abbrev LI.S (n a b : Nat) : LI := .v (.store n (.t a) (.t b))
abbrev LI.s (d a : Nat) : LI := .z d (.lenSl (.t a))
abbrev LI.x (d a : Nat) : LI := .z d (.box (.t a))
abbrev LI.X (d n a : Nat) : LI := .z d (.extract n (.t a))
abbrev LI.w (d f a : Nat) : LI := .z d (.w f [.t a])
abbrev LI.W (d f a b : Nat) : LI := .z d (.w f [.t a, .t b])
abbrev LI.V (d f a b c : Nat) : LI := .z d (.w f [.t a, .t b, .t c])
abbrev LI.nf (d g n a : Nat) : LI := .n d g (.fieldAddr n (.t a))
abbrev LI.yf (d g n a : Nat) : LI := .y d g (.fieldAddr n (.t a))
abbrev LI.nl (d g a : Nat) : LI := .n d g (.load1 (.t a))
abbrev LI.yl (d g a : Nat) : LI := .y d g (.load1 (.t a))
abbrev LI.a (d n a b : Nat) : LI := .z d (.appG n (.t a) (.t b))
end Go.Sv
noncomputable section
namespace Go.Proofs.YtodjkjimaheggaaGreat
open Go.Sv
set_option linter.unusedSimpArgs false
set_option maxRecDepth 10000
variable{g j A:Nat}{z B V:Int}{U:UInt64}{vQ:Type}{vL:List Int}{E:List LV}{F:M7}{Y:LV→M7→Prop}{vP:List Vr}{Z:List Bf}{vX:List Lo}
abbrev Nl := Of Tryz.prog
abbrev O1 := R7 Tryz.prog
abbrev Ot := Rl Tryz.prog
def Wz:LC:=(.q [.K 2 0,.F 3] (.seq (.q [.m 4 0] (.block 0 (.q [.b 6 .eql 3 4 1,.m 5 6] (.cond (.t 5) (.q [.K 2 1,.z 3 (.move .T)] .ret) (.q [.b 8 .eql 3 4 2,.m 7 8] (.cond (.t 7) (.q [.K 2 5,.z 3 (.move .T)] .ret) (.seq (.q [.b 10 .eql 3 4 3,.m 9 10] (.cond (.t 9) .skip (.q [.b 11 .eql 3 4 4,.m 9 11] (.cond (.t 9) .skip (.q [.b 12 .eql 3 4 5,.m 9 12] (.cond (.t 9) .skip (.q [.b 13 .eql 3 4 6,.m 9 13] (.cond (.t 9) .skip (.ops [.b 14 .eql 3 4 7,.m 9 14]))))))))) (.cond (.t 9) (.q [.K 2 13,.z 3 (.move .T)] .ret) (.seq (.q [.b 16 .eql 3 4 8,.m 15 16] (.cond (.t 15) .skip (.q [.b 17 .eql 3 4 10,.m 15 17] (.cond (.t 15) .skip (.q [.b 18 .eql 3 4 11,.m 15 18] (.cond (.t 15) .skip (.q [.b 19 .eql 3 4 12,.m 15 19] (.cond (.t 15) .skip (.ops [.b 20 .eql 3 4 13,.m 15 20]))))))))) (.cond (.t 15) (.q [.K 2 29,.z 3 (.move .T)] .ret) (.q [.b 22 .eql 3 4 9,.m 21 22] (.cond (.t 21) (.q [.K 2 21,.z 3 (.move .T)] .ret) (.q [.b 24 .eql 3 4 14,.m 23 24] (.cond (.t 23) (.q [.K 2 19,.z 3 (.move .T)] .ret) (.seq (.q [.b 26 .eql 3 4 15,.m 25 26] (.cond (.t 25) .skip (.ops [.b 27 .eql 3 4 16,.m 25 27]))) (.cond (.t 25) (.q [.K 2 0,.z 3 (.move .T)] .ret) .skip)))))))))))))))) (.q [.K 2 0,.F 3] .ret)))
def r_lengths_shape:Ng Tryz.prog 187=some ⟨28,Wz.r,[.tmp 2,.tmp 3]⟩:=Aa
def z3f:LC:=(.q [.x 1 0,.F 2] (.seq (.q [.f 3 0 1,.l 4 3] (.block 0 (.q [.b 6 .eql 3 4 1,.m 5 6] (.cond (.t 5) (.q [.z 2 (.move .T)] .ret) (.q [.b 8 .eql 3 4 13,.m 7 8] (.cond (.t 7) (.q [.f 9 6 1,.l 10 9,.u 11 .geq 23 10 1,.m 12 11,.yf 13 12 6 1,.yl 14 12 13,.y 15 12 (.bin .leq true 23 (.t 14) (.c (.u 6))),.q 16 12 15,.m 2 16] .ret) (.q [.b 18 .eql 3 4 15,.m 17 18] (.cond (.t 17) (.q [.f 19 6 1,.l 20 19,.u 21 .geq 23 20 1,.m 22 21,.yf 23 22 6 1,.yl 24 22 23,.y 25 22 (.bin .leq true 23 (.t 24) (.c (.u 4096))),.q 26 22 25,.m 2 26] .ret) .skip)))))))) (.q [.f 27 6 1,.l 28 27,.u 29 .eql 23 28 0,.m 2 29] .ret)))
def r_lengths_number:Ng Tryz.prog 188=some ⟨30,z3f.r,[.tmp 2]⟩:=Aa
def zd3:LC:=(.q [.x 1 0,.z 2 (.alloc [(.i 0),(.i 0),(.i 0),(.i 0),(.i 0)])] (.q [.f 3 1 1,.l 4 3,.f 5 2 1,.l 6 5,.f 7 3 1,.l 8 7,.f 9 4 1,.l 10 9,.f 11 5 1,.l 12 11,.z 13 (.build [(.i 0),(.i 0),(.i 0),(.i 0),(.i 0)] [(0,1,.t 4),(1,1,.t 6),(2,1,.t 8),(3,1,.t 10),(4,1,.t 12)]),.S 5 2 13] .ret))
def r_lengths_parts:Ng Tryz.prog 189=some ⟨14,zd3.r,[.cellN 2 5]⟩:=Aa
def zc9:LC:=(.q [.x 1 0,.F 2] (.q [.f 3 2 1,.l 4 3,.b 5 .eql 3 4 1,.m 6 5,.nf 7 6 2 1,.nl 8 6 7,.nb 9 6 .eql 3 8 2,.p 10 6 9,.m 2 10] .ret))
def r_lengths_given:Ng Tryz.prog 167=some ⟨11,zc9.r,[.tmp 2]⟩:=Aa
def z78:LC:=(.q [.F 3] (.q [.m 4 0,.b 5 .geq 3 4 0,.m 6 5,.my 7 6 0,.yl 8 6 1,.y 9 6 (.lenSl (.t 8)),.y 10 6 (.bin .lss false 3 (.t 7) (.t 9)),.q 11 6 10,.m 3 11] .ret))
def r_lengths_need_1:Ng Tryz.prog 186=some ⟨12,z78.r,[.tmp 3]⟩:=Aa
def z4p:LC:=(.q [.x 2 0,.x 3 1,.F 4] (.q [.z 6 (.mkFunc 186 [] [.t 2]),.m 5 6] (.seq (.q [.f 7 1 3,.l 8 7,.b 9 .neq 3 8 (-1),.m 10 9,.nf 11 10 2 3,.nl 12 10 11,.nb 13 10 .neq 3 12 (-1),.p 14 10 13,.m 15 14,.nf 16 15 5 3,.nl 17 15 16,.nb 18 15 .neq 3 17 (-1),.p 19 15 18,.m 20 19,.mn 21 20 5,.nf 22 20 3 3,.nl 23 20 22,.n 24 20 (.callV (.t 21) [.t 23]),.n 25 20 (.un .not (.t 24)),.p 26 20 25] (.cond (.t 26) (.q [.F 4] .ret) .skip)) (.seq (.q [.f 27 6 3,.l 28 27] (.block 0 (.q [.u 30 .eql 23 28 2,.m 29 30] (.cond (.t 29) (.q [.m 31 5,.f 32 4 3,.l 33 32,.z 34 (.callV (.t 31) [.t 33]),.m 4 34] .ret) (.seq (.q [.u 36 .eql 23 28 1,.m 35 36] (.cond (.t 35) .skip (.ops [.u 37 .eql 23 28 3,.m 35 37]))) (.cond (.t 35) (.q [.f 38 4 3,.l 39 38,.b 40 .eql 3 39 (-1),.m 4 40] .ret) .skip)))))) (.q [.F 4] .ret)))))
def r_lengths_need:Ng Tryz.prog 166=some ⟨41,z4p.r,[.tmp 4]⟩:=Aa
def z49:LC:=(.q [.K 4 0] (.seq (.q [.m 6 0,.s 7 6,.K 8 0] (.block 0 (.loop (.q [.c 9 .lss 3 8 7] (.seq (.cond (.t 9) .skip (.exit 0)) (.seq (.block 1 (.q [.m 10 8,.m 5 10] (.q [.m 11 1,.m 12 0,.m 13 5,.I 14 1 12 13,.l 15 14,.z 16 (.callV (.t 11) [.t 15])] (.cond (.t 16) (.q [.m 17 5,.m 4 17] .ret) .skip)))) (.ops [.b 18 .add 3 8 1,.m 8 18]))))))) (.q [.K 4 (-1)] .ret)))
def r_slices_IndexFunc_int_int:Ng Tryz.prog 192=some ⟨19,z49.r,[.tmp 4]⟩:=Aa
def z3g:LC:=(.q [.F 4] (.q [.m 5 0,.m 6 1,.W 7 192 5 6,.b 8 .geq 3 7 0,.m 4 8] .ret))
def r_slices_ContainsFunc_int_int:Ng Tryz.prog 169=some ⟨9,z3g.r,[.tmp 4]⟩:=Aa
def ni(a b:Bool):Sn Tryz.prog false 4 (.bool a) (.bool b)=some (a==b):=by cases a<;>cases b<;>kernel_rfl
def zig(k:Int):Nl 187 [.i k] (.tup [.i (((Pz k).getD 0:Nat):Int),.bool (Pz k).isSome]) []:=by
 refine Of.val rfl (Ni r_lengths_shape Aa N ?_);by_cases E:k=1;· subst E;simp[Wz,Pz]
 by_cases F:k=2;· subst F;simp[Wz,Pz]
 by_cases G:k=3;· subst G;simp[Wz,Pz]
 by_cases H:k=4;· subst H;simp[Wz,Pz]
 by_cases I:k=5;· subst I;simp[Wz,Pz]
 by_cases K:k=6;· subst K;simp[Wz,Pz]
 by_cases L:k=7;· subst L;simp[Wz,Pz]
 by_cases M:k=8;· subst M;simp[Wz,Pz]
 by_cases O:k=9;· subst O;simp[Wz,Pz]
 by_cases g:k=10;· subst g;simp[Wz,Pz]
 by_cases j:k=11;· subst j;simp[Wz,Pz]
 by_cases z:k=12;· subst z;simp[Wz,Pz]
 by_cases A:k=13;· subst A;simp[Wz,Pz]
 by_cases B:k=14;· subst B;simp[Wz,Pz]
 by_cases C:k=15;· subst C;simp[Wz,Pz]
 by_cases D:k=16;· subst D;simp[Wz,Pz]
 simp[Wz,Pz,E,F,G,H,I,K,L,M,O,g,j,z,A,B,C,D]
def zhb(o:Ko):Nl 188 [.agg o.f] (.bool (Q8 o)) []:=by
 refine Of.val rfl (Ni r_lengths_number Aa N ?_);by_cases g:o.kind=1;· simp[z3f,Ko.f,Q8,g]
 by_cases j:o.kind=13
 ·by_cases A:1≤o.imm<;>simp[z3f,Ko.f,Q8,g,j,A]
 by_cases z:o.kind=15
 ·by_cases A:1≤o.imm<;>simp[z3f,Ko.f,Q8,g,j,z,A]
 simp[z3f,Ko.f,Q8,g,j,z]
def zbd(o:Ko):Nl 189 [.agg o.f] (.agg [.i o.d,.i o.e,.i o.a,.i o.b,.i o.c]) []:=by
 refine Of.val rfl (Ni r_lengths_parts Aa N ?_);simp[zd3,Ko.f]
def zbk(v:Vr):Nl 167 [.agg v.f] (.bool (Sd v)) []:=by
 refine Of.val rfl (Ni r_lengths_given Aa N ?_);by_cases g:v.mode=1<;>simp[zc9,Vr.f,Sd,g]
def zmv{p n st:Nat}{c:List LV}(v:Int)(g:F[p]?=some (.cells [.lst c n 3] st))(k:Y (.bool (Rz n v)) F):Ot (.fn 186) [.i v,.ptr p 0] F Y:=by
 refine Ni r_lengths_need_1 Aa N ?_;by_cases j:0≤v
 ·by_cases z:v<n<;>simp[z78,g,Rz,j,z]at k ⊢<;>exact k
 ·simp[z78,g,Rz,j]at k ⊢;exact k
def zc2(c:List LV)(n:Nat)(o:Ko):Nl 166 [.lst c n 3,.agg o.f] (.bool (Sr n o)) []:=by
 refine Of.val rfl (Ni r_lengths_need Aa N ?_);by_cases g:o.d=-1
 case neg=>simp[z4p,Ko.f,Sr,g]
 by_cases j:o.e=-1
 case neg=>simp[z4p,Ko.f,Sr,g,j]
 by_cases z:o.c=-1
 case neg=>simp[z4p,Ko.f,Sr,g,j,z]
 simp[z4p,Ko.f,g,j,z];refine zmv o.a rfl ?_;cases A:Rz n o.a with
 |false=>simp[Sr,A]
 |true =>
  by_cases B:o.imm=2
  ·simp[B];refine zmv o.b rfl ?_;simp[Sr,g,j,z,A,B]
  by_cases C:o.imm=1
  ·simp[Sr,g,j,z,A,B,C]
  by_cases D:o.imm=3
  ·simp[Sr,g,j,z,A,B,C,D]
  simp[Sr,g,j,z,A,B,C,D]
def zg8{l:List Int}{f:Nat}{a b:List LV}{p:Int→Bool}(R:l.length≤9223372036854775807)
  (P:∀v∈l,∀G:LV→M7→Prop,G (.bool (p v)) F→Ot (.fn f) (a++[.i v]++b) F G) (k:Y (.i (mb p l)) F):Ot (.fn 192) [.lst (l.map .i) l.length 1,.fn (.func f) a b] F Y:=by
 refine Ni r_slices_IndexFunc_int_int Aa (by simp) ?_;simp[z49];refine O5 (λH Q I N=>∃i:Nat,Q=[]∧I=F∧N+i=l.length∧lk H 0=.lst (l.map .i) l.length 1∧lk H 1=.fn (.func f) a b∧lk H 7=.i l.length∧lk H 8=.i i∧∀K b,K<i→l[K]?=some b→p b=false) (N:=l.length) ⟨0,by simp⟩ ?_;rintro N H Q I ⟨i,rfl,rfl,T,j,z,A,B,C⟩ U D;by_cases hi:l.length≤i
 ·have L:¬i<l.length:=J
  simp[j,z,A,B,L];rw[←zvf hi C];exact k
 ·have L:i<l.length:=J
  have E:=H6 L;simp[j,z,A,B,L];simp[Nb (Xd (f:=LV.i) E)];have M:=P l[i] (K8 L);simp only[Jj,List.singleton_append]at M;refine M _ ?_;cases O:p l[i] with
  |true =>
   simp;rw[←uc E O C];exact k
  |false =>
   simp[B];refine⟨J,D _ _ _ ⟨N-1,J,i+1,rfl,rfl,J,Af,Ae,As,by simp,λK b V g=>?_⟩⟩;by_cases e:K=i
   ·subst e;rw[E]at g;cases g;exact O
   ·exact C K b J g
def z7d{l:List Int}{f:Nat}{a b:List LV}{p:Int→Bool}(j:l.length≤9223372036854775807)
  (z:∀v∈l,∀g:LV→M7→Prop,g (.bool (p v)) F→Ot (.fn f) (a++[.i v]++b) F g) (k:Y (.bool (l.any p)) F):Ot (.fn 169) [.lst (l.map .i) l.length 1,.fn (.func f) a b] F Y:=by
 refine Ni r_slices_ContainsFunc_int_int Aa N ?_;simp[z3g];refine zg8 j z ?_;simp;rw[dz];exact k
def zc6:LC:=(.q [.z 0 (.move (.c .nilMap))] (.q [.z 1 (.move (.c (.fn (.func 207) [] [])))] (.q [.z 2 (.mkMap0),.v (.mapUpd (.int .i64) (.t 2) (.k 6) (.c (.fn (.func 208) [] []))),.v (.mapUpd (.int .i64) (.t 2) (.k 14) (.c (.fn (.func 209) [] []))),.v (.mapUpd (.int .i64) (.t 2) (.k 8) (.c (.fn (.func 210) [] []))),.v (.mapUpd (.int .i64) (.t 2) (.k 9) (.c (.fn (.func 211) [] []))),.m 3 1,.v (.mapUpd (.int .i64) (.t 2) (.k 10) (.t 3)),.m 4 1,.v (.mapUpd (.int .i64) (.t 2) (.k 11) (.t 4)),.m 5 1,.v (.mapUpd (.int .i64) (.t 2) (.k 12) (.t 5)),.v (.mapUpd (.int .i64) (.t 2) (.k 13) (.c (.fn (.func 212) [] []))),.m 6 2,.m 0 6] .ret)))
def r_lengths_alike:Ng Tryz.prog 198=some ⟨7,zc6.r,[.tmp 0]⟩:=Aa
def zaf:LC:=(.q [.x 1 0,.e 2] (.q [.f 3 1 1,.l 4 3,.f 5 3 1,.l 6 5,.f 7 4 1,.l 8 7,.f 9 5 1,.l 10 9,.z 11 (.buildSl 1 4 [(.i 0),(.i 0),(.i 0),(.i 0)] [(0,1,.t 4),(1,1,.t 6),(2,1,.t 8),(3,1,.t 10)]),.m 2 11] .ret))
def r_lengths_alike_1:Ng Tryz.prog 207=some ⟨12,zaf.r,[.tmp 2]⟩:=Aa
def za6:LC:=(.q [.x 1 0,.e 2] (.q [.f 3 3 1,.l 4 3,.f 5 4 1,.l 6 5,.z 7 (.buildSl 1 2 [(.i 0),(.i 0)] [(0,1,.t 4),(1,1,.t 6)]),.m 2 7] .ret))
def r_lengths_alike_2:Ng Tryz.prog 208=some ⟨8,za6.r,[.tmp 2]⟩:=Aa
def z9m:LC:=(.q [.x 1 0,.e 2] (.q [.f 3 1 1,.l 4 3,.f 5 2 1,.l 6 5,.z 7 (.buildSl 1 2 [(.i 0),(.i 0)] [(0,1,.t 4),(1,1,.t 6)]),.m 2 7] .ret))
def r_lengths_alike_3:Ng Tryz.prog 209=some ⟨8,z9m.r,[.tmp 2]⟩:=Aa
def zae:LC:=(.q [.x 1 0,.e 2] (.q [.f 3 1 1,.l 4 3,.f 5 3 1,.l 6 5,.f 7 4 1,.l 8 7,.z 9 (.buildSl 1 3 [(.i 0),(.i 0),(.i 0)] [(0,1,.t 4),(1,1,.t 6),(2,1,.t 8)]),.m 2 9] .ret))
def r_lengths_alike_4:Ng Tryz.prog 210=some ⟨10,zae.r,[.tmp 2]⟩:=Aa
def za5:LC:=(.q [.x 1 0,.e 2] (.q [.f 3 1 1,.l 4 3,.f 5 5 1,.l 6 5,.z 7 (.buildSl 1 2 [(.i 0),(.i 0)] [(0,1,.t 4),(1,1,.t 6)]),.m 2 7] .ret))
def r_lengths_alike_5:Ng Tryz.prog 211=some ⟨8,za5.r,[.tmp 2]⟩:=Aa
def z9r:LC:=(.q [.x 1 0,.e 2] (.q [.f 3 1 1,.l 4 3,.f 5 3 1,.l 6 5,.f 7 5 1,.l 8 7,.z 9 (.buildSl 1 3 [(.i 0),(.i 0),(.i 0)] [(0,1,.t 4),(1,1,.t 6),(2,1,.t 8)]),.m 2 9] .ret))
def r_lengths_alike_6:Ng Tryz.prog 212=some ⟨10,z9r.r,[.tmp 2]⟩:=Aa
def z9w:LC:=(.q [.F 4] (.seq (.draw [(.l 5 1,[]),(.m 6 0,[]),(.I 7 3 5 6,[]),(.f 8 0 7,[]),(.l 9 8,[]),(.l 10 1,[]),(.l 11 2,[]),(.z 12 (.ixAddr 1 (.t 11) (.k 0)),[]),(.l 13 12,[]),(.I 14 3 10 13,[]),(.f 15 0 14,[]),(.l 16 15,[]),(.c 17 .neq 3 9 16,[]),(.m 4 17,[])]) .ret))
def r_lengths_agree_1:Ng Tryz.prog 199=some ⟨18,z9w.r,[.tmp 4]⟩:=Aa
def xm:LC:=(.q [.x 2 0,.x 3 1,.F 4] (.seq (.draw [(.f 10 0 3,[]),(.l 11 10,[]),(.z 9 (.w 198 []),[(.l 11 10,false)]),(.z 12 (.lookup (.int .i64) .nilFn true (.t 9) (.t 11)),[]),(.m 8 12,[]),(.X 13 0 8,[]),(.X 14 1 8,[]),(.m 5 13,[]),(.m 6 14,[])]) (.seq (.q [.m 15 6,.z 16 (.un .not (.t 15))] (.cond (.t 16) (.q [.z 4 (.move .T)] .ret) .skip)) (.q [.m 17 5,.L 18 7 3,.z 19 (.callV (.t 17) [.t 18]),.z 7 (.alloc [.nilSl]),.S 1 7 19] (.q [.l 20 7,.z 21 (.mkFunc 199 [] [.t 2,.t 7]),.W 22 169 20 21,.z 23 (.un .not (.t 22)),.m 4 23] .ret)))))
def r_lengths_agree:Ng Tryz.prog 191=some ⟨24,xm.r,[.tmp 4]⟩:=Aa
def xg:List (LV×LV×Nat):=[(.i 6,.fn (.func 208) [] [],0),(.i 14,.fn (.func 209) [] [],1),(.i 8,.fn (.func 210) [] [],2),(.i 9,.fn (.func 211) [] [],3),(.i 10,.fn (.func 207) [] [],4),(.i 11,.fn (.func 207) [] [],5),(.i 12,.fn (.func 207) [] [],6),(.i 13,.fn (.func 212) [] [],7)]
def z16(k:Y (.map F.length) (F++[.map xg 8 8])):Ot (.fn 198) [] F Y:=by
 refine Ni r_lengths_alike Aa N ?_;simp[zc6];exact k
def zh2(o:Ko):O1 207 [.agg o.f] (.lst ([o.d,o.a,o.b,o.c].map .i) 4 1):=by
 refine R7.mk Bx (Ni r_lengths_alike_1 Aa N ?_);simp[zaf,Ko.f,N9,bor]
def zz1(o:Ko):O1 208 [.agg o.f] (.lst ([o.a,o.b].map .i) 2 1):=by
 refine R7.mk Bx (Ni r_lengths_alike_2 Aa N ?_);simp[za6,Ko.f,N9,bor]
def zxr(o:Ko):O1 209 [.agg o.f] (.lst ([o.d,o.e].map .i) 2 1):=by
 refine R7.mk Bx (Ni r_lengths_alike_3 Aa N ?_);simp[z9m,Ko.f,N9,bor]
def zxq(o:Ko):O1 210 [.agg o.f] (.lst ([o.d,o.a,o.b].map .i) 3 1):=by
 refine R7.mk Bx (Ni r_lengths_alike_4 Aa N ?_);simp[zae,Ko.f,N9,bor]
def zyi(o:Ko):O1 211 [.agg o.f] (.lst ([o.d,o.c].map .i) 2 1):=by
 refine R7.mk Bx (Ni r_lengths_alike_5 Aa N ?_);simp[za5,Ko.f,N9,bor]
def zyt(o:Ko):O1 212 [.agg o.f] (.lst ([o.d,o.a,o.c].map .i) 3 1):=by
 refine R7.mk Bx (Ni r_lengths_alike_6 Aa N ?_);simp[z9r,Ko.f,N9,bor]
def mz(g:List Vr)(v:Int):Prop:=0≤v∧v<g.length
def mz.at{vs:List Vr}{v:Int}(h:mz vs v):∃k:Nat,v=k∧k<vs.length∧vs[k]?=some (gv vs v.toNat):=by
 obtain⟨k,rfl⟩:=Hz h.1;have h2:=h.2;exact⟨k,rfl,J,by rw[In];exact Tw J⟩
def zuf{p q st:Nat}(v:Int)(j:F[p]?=some (.cells [.lst (N0 vP) vP.length 3] st))(z:F[q]?=some (.cells [.lst (vL.map .i) vL.length 1] g))
  (hv:mz vP v) (A:mz vP (vL.headD 0)) (G:vL≠[]) (k:Y (.bool (decide (Qd vP v≠Qd vP (vL.headD 0)))) F):Ot (.fn 199) [.i v,.ptr p 0,.ptr q 0] F Y:=by
 refine Ni r_lengths_agree_1 Aa N ?_;cases vL with
 |nil=>exact absurd rfl G
 |cons y vL =>
  simp only[List.headD_cons]at A k;obtain⟨a,rfl,B,H⟩:=hv.at;obtain⟨b,rfl,C,I⟩:=A.at;have D:=sn H;have E:=sn I;simp only[In]at D E;simp only[Qd,In]at k;simp[z9w,j,z,B,C];simp[Nb D,Nb E,j,z,B,C];rw[←decide_not];exact k
def zu3(g:List Int)(x:Int→Int)(y:Int):(!(g.any λv=>decide (x v≠y)))=g.all λv=>decide (x v=y):=by
 induction g with
 |nil=>rfl
 |cons a g j =>
  simp only[List.any_cons,Ki,Bool.not_or,j];by_cases h:x a=y<;>simp[h]
def zb9(F:List Vr)(o:Ko)(hv:∀v∈Qq o,mz F v):Nl 191 [.lst (N0 F) F.length 3,.agg o.f] (.bool (mi F o)) []:=by
 refine Of.val rfl (Ni r_lengths_agree Aa N ?_);have j:o.f=[.i o.kind,.i o.d,.i o.e,.i o.a,.i o.b,.i o.c,.u o.imm]:=rfl;have z:∀G:List Int,G≠[]→Qq o=G→∀{M:M7} {p q st L:Nat} {P:LV→M7→Prop},M[p]?=some (.cells [.lst (N0 F) F.length 3] st)→M[q]?=some (.cells [.lst (G.map .i) G.length 1] L)→P (.bool (!mi F o)) M →
   Ot (.fn 169) [.lst (G.map .i) G.length 1,.fn (.func 199) [] [.ptr p 0,.ptr q 0]] M P:=by
  intro G O he M p q st L P Q R k;rw[he]at hv;have T:mz F (G.headD 0):=by
   cases G with
   |nil=>exact absurd rfl O
   |cons y G=>exact hv y (I7 ..)
  have U:G.length≤9223372036854775807:=by
   rw[←he];unfold Qq;repeat' split
   all_goals simp
  refine z7d (p:=λv=>decide (Qd F v≠Qd F (G.headD 0))) U (λv hm X V=>zuf v Q R (hv v hm) T O V) ?_;have:=zu3 G (Qd F) (Qd F (G.headD 0));rw[←Bool.not_not (G.any _),this];rw[mi,he]at k;exact k
 by_cases H:o.kind=6
 ·have he:Qq o=[o.a,o.b]:=by simp[Qq,H]
  simp[xm,j,H];refine z16 ?_;simp[xg];have g:=zz1 o;rw[j,H]at g;refine Rm g rfl ?_;simp;refine z [o.a,o.b] N he rfl rfl ?_;simp
 by_cases A:o.kind=14
 ·have he:Qq o=[o.d,o.e]:=by simp[Qq,A]
  simp[xm,j,A];refine z16 ?_;simp[xg];have g:=zxr o;rw[j,A]at g;refine Rm g rfl ?_;simp;refine z [o.d,o.e] N he rfl rfl ?_;simp
 by_cases I:o.kind=8
 ·have he:Qq o=[o.d,o.a,o.b]:=by simp[Qq,I]
  simp[xm,j,I];refine z16 ?_;simp[xg];have g:=zxq o;rw[j,I]at g;refine Rm g rfl ?_;simp;refine z [o.d,o.a,o.b] N he rfl rfl ?_;simp
 by_cases K:o.kind=9
 ·have he:Qq o=[o.d,o.c]:=by simp[Qq,K]
  simp[xm,j,K];refine z16 ?_;simp[xg];have g:=zyi o;rw[j,K]at g;refine Rm g rfl ?_;simp;refine z [o.d,o.c] N he rfl rfl ?_;simp
 by_cases B:o.kind=10
 ·have he:Qq o=[o.d,o.a,o.b,o.c]:=by simp[Qq,B]
  simp[xm,j,B];refine z16 ?_;simp[xg];have g:=zh2 o;rw[j,B]at g;refine Rm g rfl ?_;simp;refine z [o.d,o.a,o.b,o.c] N he rfl rfl ?_;simp
 by_cases C:o.kind=11
 ·have he:Qq o=[o.d,o.a,o.b,o.c]:=by simp[Qq,C]
  simp[xm,j,C];refine z16 ?_;simp[xg];have g:=zh2 o;rw[j,C]at g;refine Rm g rfl ?_;simp;refine z [o.d,o.a,o.b,o.c] N he rfl rfl ?_;simp
 by_cases D:o.kind=12
 ·have he:Qq o=[o.d,o.a,o.b,o.c]:=by simp[Qq,D]
  simp[xm,j,D];refine z16 ?_;simp[xg];have g:=zh2 o;rw[j,D]at g;refine Rm g rfl ?_;simp;refine z [o.d,o.a,o.b,o.c] N he rfl rfl ?_;simp
 by_cases E:o.kind=13
 ·have he:Qq o=[o.d,o.a,o.c]:=by simp[Qq,E]
  simp[xm,j,E];refine z16 ?_;simp[xg];have g:=zyt o;rw[j,E]at g;refine Rm g rfl ?_;simp;refine z [o.d,o.a,o.c] N he rfl rfl ?_;simp
 have he:Qq o=[]:=by simp[Qq,H,A,I,K,B,C,D,E]
 simp[xm,j,H,A,I,K,B,C,D,E];refine z16 ?_;simp[xg,H,A,I,K,B,C,D,E];simp[mi,he]
def z5s:LC:=(.q [.e 2] (.seq (.q [.m 3 0,.z 4 (.bin .eql true 60 (.t 3) (.c .nilSl))] (.cond (.t 4) (.q [.e 2] .ret) .skip)) (.q [.z 5 (.buildSl 1 0 [] []),.m 6 0,.a 7 1 5 6,.m 2 7] .ret)))
def r_slices_Clone_int_int:Ng Tryz.prog 194=some ⟨8,z5s.r,[.tmp 2]⟩:=Aa
def z3s:LC:=(.q [.e 4] (.q [.m 8 0,.m 9 1,.W 10 192 8 9,.m 5 10] (.seq (.q [.m 11 5,.b 12 .eql 3 11 (-1)] (.cond (.t 12) (.q [.m 13 0,.m 4 13] .ret) .skip)) (.seq (.q [.m 14 5,.b 15 .add 3 14 1,.m 6 15] (.block 0 (.loop (.seq (.q [.m 16 6,.m 17 0,.s 18 17,.c 19 .lss 3 16 18] (.cond (.t 19) .skip (.exit 0))) (.seq (.block 1 (.q [.m 22 0,.m 23 6,.I 24 1 22 23,.l 25 24,.m 7 25] (.q [.m 26 1,.m 27 7,.z 28 (.callV (.t 26) [.t 27]),.z 29 (.un .not (.t 28))] (.cond (.t 29) (.q [.m 30 0,.m 31 5,.m 32 7,.I 33 1 30 31,.S 1 33 32] (.ops [.m 34 5,.b 35 .add 3 34 1,.m 5 35])) .skip)))) (.ops [.m 20 6,.b 21 .add 3 20 1,.m 6 21])))))) (.q [.m 36 0,.m 37 5,.z 38 (.slSl 1 (.t 36) (some (.t 37)) none),.v (.clear 1 [(.i 0)] (.t 38))] (.q [.m 39 0,.m 40 5,.z 41 (.slSl 1 (.t 39) none (some (.t 40))),.m 4 41] .ret))))))
def r_slices_DeleteFunc_int_int:Ng Tryz.prog 193=some ⟨42,z3s.r,[.tmp 4]⟩:=Aa
def zac:LC:=(.q [.F 2] (.q [.m 3 0,.b 4 .lss 3 3 0,.m 2 4] .ret))
def r_lengths_takes_1:Ng Tryz.prog 195=some ⟨5,zac.r,[.tmp 2]⟩:=Aa
def zc0:LC:=(.q [.x 1 0,.e 2] (.q [.L 5 7 1,.w 6 189 5,.z 3 (.alloc [(.i 0),(.i 0),(.i 0),(.i 0),(.i 0)]),.S 5 3 6] (.q [.z 7 (.slArr 5 1 (.t 3) (some (.k 2)) none),.w 8 194 7,.z 9 (.w 193 [.t 8,(.c (.fn (.func 195) [] []))]),.m 4 9] (.seq (.q [.f 10 0 1,.l 11 10,.b 12 .eql 3 11 14] (.cond (.t 12) (.ops [.m 13 4,.f 14 1 1,.l 15 14,.f 16 2 1,.l 17 16,.z 18 (.buildSl 1 2 [(.i 0),(.i 0)] [(0,1,.t 15),(1,1,.t 17)]),.a 19 1 13 18,.m 4 19]) .skip)) (.q [.m 20 4,.m 2 20] .ret)))))
def r_lengths_takes:Ng Tryz.prog 170=some ⟨21,zc0.r,[.tmp 2]⟩:=Aa
def sl_nil:Sn Tryz.prog true 60 .nilSl .nilSl=some true:=Aa
def je{l:List Int}(g:l.length≤1048576)(j:l≠[])(k:Y (.dy F.length 1) (F++[.dyn (l.map .i) l.length 1 1 1])):Ot (.fn 194) [.lst (l.map .i) l.length 1] F Y:=by
 refine Ni r_slices_Clone_int_int Aa N ?_;simp[z5s,sl_nil,g,j];exact k
def zp9{l:List Int}{f:Nat}{p:Int→Bool}(g:l.length≤9223372036854775807)
  (j:∀v∈l,Nl f [.i v] (.bool (p v)) []):Nl 192 [.lst (l.map .i) l.length 1,.fn (.func f) [] []] (.i (mb p l)) [] :=
 Of.val rfl (zg8 g (λv hv z k=>by
  simp only[Lz,Jp];exact Nt (j v hv) (bors_self _ rfl) k) rfl)
def zmc{q k st:Nat}{l:List Int}{f:Nat}{p:Int→Bool}(hl:l.length≤9223372036854775807)(M:F[q]?=some (.dyn (l.map .i) l.length 1 k st))
  (X:∀v,Nl f [.i v] (.bool (p v)) []) (k0:l.filter (λv=>!p v)=l→Y (.dy q k) F)
  (k1:∀(m:Nat) (gg:List LV) (g:Nat),m=(l.filter (λv=>!p v)).length→gg.length=l.length→gg.take m=(l.filter (λv=>!p v)).map .i→dats gg=true→Y (.vw q k 0 m) (F.set q (.dyn gg l.length 1 k g))) :
  Ot (.fn 193) [.dy q k,.fn (.func f) [] []] F Y:=by
 refine Ni r_slices_DeleteFunc_int_int Aa (by simp) ?_;have O:q<F.length:=(Hu.1 M).1;have P:∀l:List Int,dats (l.map .i)=true:=λl=>xa (λ_=>rfl) l
 have z:∀Q,(F.set q Q)[q]?=some Q:=λQ=>H0 O
 have A:F.set q (.dyn (l.map .i) l.length 1 k st)=F:=zwm M;simp[z3s];refine Nt (zp9 hl λv _=>X v) (by simp[bors,bor,LV.dat,dats,M,P]) ?_;rcases ff p l with ⟨R,I⟩|⟨K,R,gz,I⟩
 ·simp[R];exact k0 I
 have n1:¬((K:Int)=-1):=J
 simp[R,n1];refine⟨J,?_⟩;refine O5 (λZ gD G' N=>∃(i j:Nat) (c:List Int) (g:Nat),gD=[]∧G'=F.set q (.dyn (c.map .i) l.length 1 k g)∧N+j=l.length∧i<j∧j≤l.length∧lk Z 0=.dy q k∧lk Z 1=.fn (.func f) [] []∧lk Z 5=.i i∧lk Z 6=.i j ∧
   c.length=l.length∧i=((l.take j).filter (λv=>!p v)).length∧c.take i=(l.take j).filter (λv=>!p v)∧∀u,j≤u→gd c u=gd l u)
  (N:=l.length-(K+1)) ⟨K,K+1,l,st,rfl,A.symm,J,J,J,by simp,by simp,by simp,by simp,rfl,by rw[I];simp;omega,I.symm,λu _=>rfl⟩ ?_
 rintro N Z gD G' ⟨i,j,c,g,rfl,rfl,hN,gA,hj,C,D,E,G,T,hi,L,U⟩ Nx H;by_cases gC:j<l.length
 ·have g2:i<l.length:=J
  have V:=Xd (f:=LV.i) (X6 (l:=c) (u:=j) J);have eg:=U j (Ia _);simp[C,D,E,G,z,gC];simp[Nb V,C,D,E,G,z,gC,eg];refine Nt (X (gd l j)) (by simp) ?_;have B:=ztc (p:=p) gC;cases hb:p (gd l j) with
  |true =>
   rw[hb]at B;simp only[Jo,Jp]at B;simp[G]
   repeat (refine⟨J,?_⟩)
   exact H _ _ _ ⟨N-1,J,i,j+1,c,g,rfl,rfl,J,J,J,Al,At,Ak,by simp,T,by rw[B];exact hi,by rw[B];exact L,λu hu=>U u J⟩
  |false =>
   rw[hb,Hx (by simp)]at B;simp[C,D,E,G,z,g2];rw[lay_set _ _ _ J]
   repeat (refine⟨J,?_⟩)
   refine H _ _ _ ⟨N-1,J,i+1,j+1,_,_,rfl,rfl,J,J,J,Al,At,by simp,by simp,by simpa using T,?_,?_,λu hu=>?_⟩
   ·rw[B,H9,←hi];rfl
   ·rw[B,zoc J,L]
   ·rw[zun (j:=j+1) J J u hu,U u J]
 ·have ej:j=l.length:=J
  subst ej;rw[K7]at hi L;simp[C,D,E,G,z]
  repeat (refine⟨J,?_⟩)
  refine k1 i _ _ hi ?_ ?_ ?_
  ·rw[zxy (by rw[z5x];simp;omega)];simp[T]
  ·rw[uw Ab,←Lv,L]
  ·unfold Oq;exact dats_app (dats_app (dats_take _ (P c)) (zwr rfl _)) (dats_drop _ (P c))
def zxu(v:Int):Nl 195 [.i v] (.bool (decide (v<0))) []:=by
 refine Of.val rfl (Ni r_lengths_takes_1 Aa N ?_);simp[zac]
def zbn(o:Ko)(h:o.kind=14→o.a=-1∧o.b=-1):O1 170 [.agg o.f] (.lst ((T8 o).map .i) (T8 o).length 1):=by
 have I:∀l:List Int,dats (l.map .i)=true:=λl=>xa (λ_=>rfl) l
 refine R7.mk (by simp[LV.dat,I]) (Ni r_lengths_takes Aa N ?_);have z:o.f=[.i o.kind,.i o.d,.i o.e,.i o.a,.i o.b,.i o.c,.u o.imm]:=rfl;simp[zc0,z];rw[←z];refine Nt (zbd o) (bors_self _ rfl) ?_;simp;refine je (l:=[o.a,o.b,o.c]) N N ?_;simp;have F:([o.a,o.b,o.c].filter λv=>!decide (v<0)).length≤3:=List.length_filter_le _ _;refine zmc (l:=[o.a,o.b,o.c]) (p:=λv=>decide (v<0)) N rfl zxu (λhw=>?_) (λm E K hm G H hd=>?_)
 ·by_cases g:o.kind=14
  ·have:=List.filter_eq_self.1 hw o.a N;rw[(h g).1]at this;simp at this
  ·have e:T8 o=[o.a,o.b,o.c]:=by unfold T8;rw[hw,Hx g];rfl
   simp[z,g,e,N9,bor,dats,LV.dat]
 ·by_cases g:o.kind=14
  ·have e:T8 o=([o.a,o.b,o.c].filter λv=>!decide (v<0))++[o.d,o.e]:=by unfold T8;rw[H7 g]
   have A:m≤1:=by
    rw[hm,(h g).1,(h g).2];simp;by_cases L:0≤o.c<;>simp[L]
   have j:E.length=3:=G;simp[z,g,j,A,dats,LV.dat];rw[e];have B:(([o.a,o.b,o.c].filter λv=>!decide (v<0))++[o.d,o.e]).length=m+2:=by rw[H9,←hm];rfl
   have M:(([o.a,o.b,o.c].filter λv=>!decide (v<0))++[o.d,o.e]).map LV.i=E.take m++[.i o.d,.i o.e]:=by rw[Le,H];rfl
   have C:(E.take m++[LV.i o.d,LV.i o.e]).length=m+2:=by rw[H9,J4];simp;omega
   have O:dats (E.take m++[LV.i o.d,LV.i o.e])=true:=dats_app (dats_take _ hd) rfl;have D:(Oq E m [.i o.d,.i o.e]).length=3:=by unfold Oq;simp;omega
   rw[M,B];refine⟨J,⟨_,_,_,⟨?_,rfl,rfl⟩,⟨rfl,rfl,rfl⟩,?_,?_⟩,⟨_,_,_,⟨rfl,rfl,rfl⟩,⟨rfl,rfl,rfl⟩,O⟩⟩
   ·unfold Oq;rw[Kw];exact (Kz C).symm
   ·rw[D];omega
   ·unfold Oq;exact dats_app (dats_app (dats_take _ hd) rfl) (dats_drop _ hd)
  ·have e:T8 o=[o.a,o.b,o.c].filter λv=>!decide (v<0):=by unfold T8;rw[Hx g,Jp]
   simp[z,g,dats,LV.dat];rw[e,←H,←hm];have j:E.length=3:=G;simp[N9,bor,hd];exact⟨_,_,_,⟨by rw[Kw],rfl⟩,⟨rfl,rfl,rfl⟩,by rw[j];omega,hd⟩
def zcj:LC:=(.q [.F 3] (.q [.l 4 1,.m 5 0,.I 6 3 4 5,.f 7 1 6,.l 8 7,.m 3 8] .ret))
def r_lengths_one_1:Ng Tryz.prog 190=some ⟨9,zcj.r,[.tmp 3]⟩:=Aa
def zb0:LC:=(.q [.x 2 0,.x 3 1,.F 4] (.seq (.q [.f 13 0 3,.l 14 13,.b 15 .eql 3 14 17] (.cond (.t 15) (.q [.l 16 2,.L 17 7 3,.W 18 166 16 17,.m 4 18] .ret) .skip)) (.q [.f 20 0 3,.l 21 20,.w 22 187 21,.m 19 22,.X 23 0 19,.X 24 1 19,.m 5 23,.m 6 24] (.seq (.q [.m 25 6,.z 26 (.un .not (.t 25)),.m 27 26,.n 28 27 (.loadN 7 (.t 3)),.n 29 27 (.w 188 [.t 28]),.n 30 27 (.un .not (.t 29)),.p 31 27 30] (.cond (.t 31) (.q [.F 4] .ret) .skip)) (.seq (.q [.L 32 7 3,.w 33 189 32,.K 34 0] (.block 0 (.loop (.q [.b 35 .lss 3 34 5] (.seq (.cond (.t 35) .skip (.exit 0)) (.seq (.block 1 (.q [.m 36 34,.z 37 (.ixArr false 5 1 (.t 33) (.t 34)),.m 7 36,.m 8 37] (.q [.m 38 5,.m 39 7,.c 40 .shr 3 38 39,.b 41 .and 3 40 1,.b 42 .eql 3 41 1,.m 9 42] (.q [.m 43 9,.m 44 43,.my 45 44 8,.y 46 44 (.bin .lss true 3 (.t 45) (.k 0)),.my 47 44 46,.mn 48 47 8,.nl 49 47 2,.n 50 47 (.lenSl (.t 49)),.n 51 47 (.bin .geq false 3 (.t 48) (.t 50)),.y 52 44 (.pick (.t 47) .T (.t 51)),.q 53 44 52,.m 54 53,.mn 55 54 9,.n 56 54 (.un .not (.t 55)),.mn 57 54 56,.my 58 57 8,.y 59 57 (.bin .neq true 3 (.t 58) (.k (-1))),.n 60 54 (.pick (.t 57) (.t 59) .F),.p 61 54 60] (.cond (.t 61) (.q [.F 4] .ret) .skip))))) (.ops [.b 62 .add 3 34 1,.m 34 62]))))))) (.q [.L 63 7 3,.w 64 170 63,.z 65 (.mkFunc 190 [] [.t 2]),.W 66 169 64 65,.m 10 66] (.seq (.q [.f 67 1 3,.l 68 67,.f 69 2 3,.l 70 69,.z 71 (.buildSl 1 2 [(.i 0),(.i 0)] [(0,1,.t 68),(1,1,.t 70)]),.s 72 71,.K 73 0] (.block 2 (.loop (.q [.c 74 .lss 3 73 72] (.seq (.cond (.t 74) .skip (.exit 2)) (.seq (.block 3 (.q [.I 75 1 71 73,.l 76 75,.m 12 76] (.q [.m 77 12,.b 78 .geq 3 77 0,.m 79 78,.yl 80 79 2,.my 81 79 12,.y 82 79 (.ixAddr 3 (.t 80) (.t 81)),.y 83 79 (.loadN 3 (.t 82)),.y 84 79 (.w 167 [.t 83]),.my 85 79 84,.mn 86 85 10,.mn 87 85 86,.yl 88 87 2,.my 89 87 12,.y 90 87 (.ixAddr 3 (.t 88) (.t 89)),.yf 91 87 1 90,.yl 92 87 91,.y 93 87 (.un .not (.t 92)),.n 94 85 (.pick (.t 87) (.t 93) .F),.y 95 79 (.pick (.t 85) .T (.t 94)),.q 96 79 95] (.cond (.t 96) (.q [.F 4] .ret) .skip)))) (.ops [.b 97 .add 3 73 1,.m 73 97]))))))) (.q [.f 98 2 3,.l 99 98,.b 100 .lss 3 99 0,.m 101 100,.nf 102 101 1 3,.nl 103 101 102,.nf 104 101 2 3,.nl 105 101 104,.n 106 101 (.bin .neq false 3 (.t 103) (.t 105)),.p 107 101 106,.m 108 107,.yl 109 108 2,.y 110 108 (.loadN 7 (.t 3)),.y 111 108 (.w 191 [.t 109,.t 110]),.q 112 108 111,.m 4 112] .ret))))))))
def r_lengths_one:Ng Tryz.prog 168=some ⟨113,zb0.r,[.tmp 4]⟩:=Aa
def ga{p st:Nat}(v:Int)(j:F[p]?=some (.cells [.lst (N0 vP) vP.length 3] st))(hv:mz vP v)(k:Y (.bool (gv vP v.toNat).sec) F):Ot (.fn 190) [.i v,.ptr p 0] F Y:=by
 refine Ni r_lengths_one_1 Aa N ?_;obtain⟨a,rfl,z,A⟩:=hv.at;have g:=zkw A;simp only[In]at g k;simp[zcj,j,z];simp[Nb g];exact k
def zmk(g:List Vr)(o:Ko):Nl 168 [.lst (N0 g) g.length 3,.agg o.f] (.bool (Og g o)) []:=by
 refine Of.val rfl (Ni r_lengths_one Aa (by simp) ?_);have C:o.f=[.i o.kind,.i o.d,.i o.e,.i o.a,.i o.b,.i o.c,.u o.imm]:=rfl;by_cases z:o.kind=17
 ·simp[zb0,C,z];have hf:=zc2 (N0 g) g.length o;rw[C,z]at hf;refine Nt hf (bors_self _ Bc) ?_;simp[Og,z]
 simp[zb0,C,z];refine Nt (zig o.kind) (by simp) ?_;cases M:Pz o.kind with
 |none=>simp[Og,z,M]
 |some s =>
 simp;rw[←C];refine Nt (zhb o) (bors_self _ rfl) ?_;cases hn:Q8 o with
 |false=>simp[Og,z,M,hn]
 |true =>
 simp[C];rw[←C];refine Nt (zbd o) (bors_self _ rfl) ?_;have gD:=zte M;simp;refine O5 (λY gE gF N=>∃i:Nat,gE=[]∧gF=[.cells [.lst (N0 g) g.length 3] 0,.cells o.f 0]∧N+i=5∧lk Y 2=.ptr 0 0∧lk Y 3=.ptr 1 0∧lk Y 5=.i s∧lk Y 33=.agg ((Q5 o).map .i)∧lk Y 34=.i i∧∀O,O<i→Rv g.length s O (gd (Q5 o) O)=true) (N:=5) ⟨0,by simp[Q5]⟩ ?_;rintro N Y gE gF ⟨i,rfl,rfl,hN,B,H,h5,P,gg,Z⟩ Nx I;by_cases hi:5≤i
 case neg =>
  have gA:(i:Int)<5:=J
  have g2:i<5:=J
  have hg:=Xd (f:=LV.i) (X6 (l:=Q5 o) (u:=i) g2);have A:Rv g.length s i (gd (Q5 o) i)=true→∀O,O<i+1→Rv g.length s O (gd (Q5 o) O)=true:=λh O hj=>by
   by_cases e:O=i
   ·rw[e];exact h
   ·exact Z O J
  have K:Rv g.length s i (gd (Q5 o) i)=false→Og g o=false:=λh=>by
   simp[Og,z,M,zsj g2 h]
  have pb:=zw7 s i;generalize gd (Q5 o) i=v at *;have T:0≤(s:Int)/2^i:=Int.ediv_nonneg J (Int.pow_nonneg J);have e1:(s:Int)/2^i<9223372036854775808:=Int.lt_of_le_of_lt (Int.ediv_le_self _ J) J;have em:max ((s:Int)/2^i) 0=(s:Int)/2^i:=J
  simp[B,H,h5,P,gg,gA,Nb hg,em,T,e1,pb];refine⟨J,λU=>⟨λv0=>?_,λv0=>⟨λv1=>?_,λv1=>?_⟩⟩,λU=>?_⟩
  ·exact K F1
  ·exact K F1
  ·simp only[U,zod];exact⟨J,I _ _ _ ⟨N-1,J,i+1,rfl,rfl,J,Ao,Ba,by simp[h5],Dk,by simp,A F1⟩⟩
  ·simp only[U,zly];exact⟨λhv=>⟨J,I _ _ _ ⟨N-1,J,i+1,rfl,rfl,J,Ao,Ba,by simp[h5],Dk,by simp,A (by simp[Rv,U,hv])⟩⟩,λhv=>K (by simp[Rv,U,hv])⟩
 have V:T7 g.length s o=true:=znk λO hj=>Z O J
 have L:=zpt M V;have gA:¬(i:Int)<5:=J
 simp[B,H,P,gg,gA,C];rw[←C];refine Rm (zbn o L.swap) rfl ?_;simp;have gC:(T8 o).length≤9223372036854775807:=by
  have h1:([o.a,o.b,o.c].filter λv=>!decide (v<0)).length≤3:=List.length_filter_le _ _;unfold T8;split<;>simp at h1 ⊢<;>omega
 rw[B];refine z7d (p:=λv=>(gv g v.toNat).sec) gC (λv hv K' k=>ga v rfl (L.takes v hv) k) ?_;rw[show (T8 o).any (λv=>(gv g v.toNat).sec)=O7 g o from rfl];simp[B,H,C];refine O5 (λY gE gF N=>∃i:Nat,gE=[]∧gF=[.cells [.lst (N0 g) g.length 3] 0,.cells o.f 0,.dyn ([o.d,o.e].map .i) 2 1 0 0]∧N+i=2∧lk Y 2=.ptr 0 0∧lk Y 3=.ptr 1 0∧lk Y 10=.bool (O7 g o)∧lk Y 71=.dy 2 0∧lk Y 72=.i 2∧lk Y 73=.i i∧∀O,O<i→Su g (O7 g o) (gd [o.d,o.e] O)=true) (N:=2) ⟨0,by simp[B,H,C]⟩ ?_;rintro N Y gE gF ⟨i,rfl,rfl,hN,B,H,D,E,F,G,Z⟩ Nx I;by_cases hi:2≤i
 case neg =>
  have gA:(i:Int)<2:=J
  have g2:i<2:=J
  have hg:=Xd (f:=LV.i) (X6 (l:=[o.d,o.e]) (u:=i) g2);have A:Su g (O7 g o) (gd [o.d,o.e] i)=true→∀O,O<i+1→Su g (O7 g o) (gd [o.d,o.e] O)=true:=λh O hj=>by
   by_cases e:O=i
   ·rw[e];exact h
   ·exact Z O J
  have K:Su g (O7 g o) (gd [o.d,o.e] i)=false→Og g o=false:=λh=>by
   have X:i=0∨i=1:=J
   rcases X with rfl|rfl
   ·have h:Su g (O7 g o) o.d=false:=h;simp[Og,z,M,h]
   ·have h:Su g (O7 g o) o.e=false:=h;simp[Og,z,M,h]
  have gz:gd [o.d,o.e] i=-1∨mz g (gd [o.d,o.e] i):=by
   have X:i=0∨i=1:=J
   rcases X with rfl|rfl
   ·exact L.d
   ·exact L.e
  generalize gd [o.d,o.e] i=v at *;simp only[Kk,List.map_nil]at hg;rcases gz with rfl|hv
  ·simp[B,H,D,E,F,G,gA,Nb hg];exact⟨J,I _ _ _ ⟨N-1,J,i+1,rfl,rfl,J,Ao,Ba,At,Ak,Ah,by simp,A (by simp[Su])⟩⟩
  ·obtain⟨k,rfl,hk,ek⟩:=hv.at;have q3:=zdg ek;have q1:=zkw ek;have hq:=rh hk;simp only[In]at q1 q3;simp[B,H,D,E,F,G,gA,Nb hg,hk,q3,hq];refine Nt (zbk (gv g k)) (bors_self _ rfl) ?_;cases Q:Sd (gv g k) with
   |true =>
    simp;exact K (by simp[Su,Q])
   |false =>
    cases j:O7 g o with
    |false =>
     simp[B,D,G,j];exact⟨J,I _ _ _ ⟨N-1,J,i+1,rfl,rfl,J,Ao,Ba,by simp[D,j],Ak,Ah,by simp,A (by simp[Su,Q,j])⟩⟩
    |true =>
     cases R:(gv g k).sec with
     |false =>
      simp[B,D,G,j,hk,Nb q1,R];exact K (by simp[Su,Q,j,R])
     |true =>
      simp[B,D,G,j,hk,Nb q1,R];exact⟨J,I _ _ _ ⟨N-1,J,i+1,rfl,rfl,J,Ao,Ba,by simp[D,j],Ak,Ah,by simp,A (by simp[Su,Q,j,R])⟩⟩
 have gA:¬(i:Int)<2:=J
 have od:Su g (O7 g o) o.d=true:=Z 0 J;have oe:Su g (O7 g o) o.e=true:=Z 1 J;by_cases T:o.e<0
 ·simp[B,H,E,F,G,gA,C,T];rw[←C];refine Nt (zb9 g o L.alike) (bors_self _ (by simp[dats,LV.dat,Rg,C])) ?_;simp[Og,z,M,hn,V,od,oe,T]
 ·by_cases e1:o.d=o.e
  ·simp[B,H,E,F,G,gA,C,T,e1];simp[Og,z,M,T,e1]
  ·simp[B,H,E,F,G,gA,C,T,e1];rw[←C];refine Nt (zb9 g o L.alike) (bors_self _ (by simp[dats,LV.dat,Rg,C])) ?_;simp[Og,z,M,hn,V,od,oe,T,e1]
def ze5:LC:=(.q [.F 2] (.q [.K 3 0] (.seq (.q [.m 6 0,.s 7 6,.K 8 0] (.block 0 (.loop (.q [.c 9 .lss 3 8 7] (.seq (.cond (.t 9) .skip (.exit 0)) (.seq (.block 1 (.q [.m 10 8,.I 11 3 6 8,.L 12 3 11,.z 5 (.alloc [(.i 0),(.bool false),(.i 0)]),.m 4 10,.S 3 5 12] (.seq (.q [.f 13 0 5,.l 14 13,.b 15 .lss 3 14 1,.m 16 15,.nf 17 16 0 5,.nl 18 16 17,.nb 19 16 .gtr 3 18 512,.p 20 16 19,.m 21 20,.nf 22 21 2 5,.nl 23 21 22,.nb 24 21 .lss 3 23 0,.p 25 21 24,.m 26 25,.nf 27 26 2 5,.nl 28 26 27,.nb 29 26 .gtr 3 28 3,.p 30 26 29] (.cond (.t 30) (.q [.F 2] .ret) .skip)) (.seq (.q [.f 31 2 5,.l 32 31,.b 33 .eql 3 32 0] (.cond (.t 33) (.exit 1) .skip)) (.seq (.q [.m 34 3,.m 35 4,.c 36 .lss 3 34 35,.m 37 36,.nf 38 37 1 5,.nl 39 37 38,.nf 40 37 2 5,.nl 41 37 40,.nb 42 37 .neq 3 41 1,.n 43 37 (.bin .neq false 4 (.t 39) (.t 42)),.p 44 37 43] (.cond (.t 44) (.q [.F 2] .ret) .skip)) (.ops [.m 45 3,.b 46 .add 3 45 1,.m 3 46])))))) (.ops [.b 47 .add 3 8 1,.m 8 47]))))))) (.q [.m 48 0,.s 49 48,.b 50 .geq 3 49 1,.m 51 50,.my 52 51 0,.y 53 51 (.lenSl (.t 52)),.y 54 51 (.bin .leq true 3 (.t 53) (.k 256)),.q 55 51 54,.m 56 55,.my 57 56 3,.y 58 56 (.bin .leq true 3 (.t 57) (.k 12)),.q 59 56 58,.m 2 59] .ret))))
def r_lengths_vars:Ng Tryz.prog 164=some ⟨60,ze5.r,[.tmp 2]⟩:=Aa
def zjx(g:List Vr)(hl:g.length≤9223372036854775807):Nl 164 [.lst (N0 g) g.length 3] (.bool (Rb g)) []:=by
 refine Of.val rfl (Ni r_lengths_vars Aa (by simp) ?_);simp[ze5];refine O5 (λV gg gz N=>∃i p:Nat,gg=[]∧N+i=g.length∧p≤i∧lk V 0=.lst (N0 g) g.length 3∧lk V 3=.i p∧lk V 6=.lst (N0 g) g.length 3∧lk V 7=.i g.length∧lk V 8=.i i∧R9 i p (g.drop i)=R9 0 0 g) (N:=g.length) ⟨0,0,by simp⟩ ?_;rintro N V gg gz ⟨i,p,rfl,hN,Y,A,E,B,C,G,hv⟩ Nx R;by_cases P:i<g.length
 ·have Z:=Tw P;have I:=zdg Z;have K:=rh P;rw[zox P]at hv;have L:(gv g i).f=[.i (gv g i).limbs,.bool (gv g i).sec,.i (gv g i).mode]:=rfl;generalize gv g i=v at *;have D:R9 i p (v::g.drop (i+1))=none→Rb g=false:=λh=>by rw[h]at hv;simp[Rb,←hv]
  by_cases j:v.limbs<1
  ·simp[A,E,B,C,G,P,I,K,L,j];exact D (by simp[R9,Vu,j])
  by_cases z:512<v.limbs
  ·simp[A,E,B,C,G,P,I,K,L,j,z];exact D (by simp[R9,Vu,j,z])
  by_cases F:v.mode<0
  ·simp[A,E,B,C,G,P,I,K,L,j,z,F];exact D (by simp[R9,Vu,j,z,F])
  by_cases H:3<v.mode
  ·simp[A,E,B,C,G,P,I,K,L,j,z,F,H];exact D (by simp[R9,Vu,j,z,F,H])
  by_cases M:v.mode=0
  ·simp[A,E,B,C,G,P,I,K,L,j,z,F,H,M];refine⟨J,R _ _ _ ⟨N-1,J,i+1,p,rfl,J,J,As,Ak,Ao,Al,by simp,?_⟩⟩;rw[←hv];simp[R9,Vu,j,z,F,H,M]
  by_cases Q:p<i
  ·simp[A,E,B,C,G,P,I,K,L,j,z,F,H,M,Q];exact D (by simp[R9,Vu,j,z,F,H,M,Q])
  by_cases T:v.sec=decide (v.mode=1)
  ·simp[A,E,B,C,G,P,I,K,L,j,z,F,H,M,Q,ni,T];exact D (by simp[R9,Vu,j,z,F,H,M,Q,T])
  ·have b8:v.sec=!decide (v.mode=1):=by cases hs:v.sec<;>cases hm:decide (v.mode=1)<;>simp_all
   simp[A,E,B,C,G,P,I,K,L,j,z,F,H,M,Q,ni,b8];refine⟨J,J,R _ _ _ ⟨N-1,J,i+1,p+1,rfl,J,J,As,by simp,Ao,Al,by simp,?_⟩⟩;rw[←hv];simp[R9,Vu,j,z,F,H,M,Q,T]
 ·have ei:i=g.length:=J
  rw[J0 J]at hv;have O:R9 0 0 g=some p:=by rw[←hv];rfl
  by_cases U:1≤g.length
  ·by_cases X:g.length≤256
   ·simp[A,E,B,C,G,P,Rb,O,U,X];omega
   ·simp[A,E,B,C,G,P,Rb,O,U,X];omega
  ·simp[A,E,B,C,G,P,Rb,O,U];omega
def z68:LC:=(.q [.F 3] (.q [.m 4 0,.b 5 .geq 3 4 0,.m 6 5,.yf 7 6 0 1,.yl 8 6 7,.my 9 6 0,.y 10 6 (.ixAddr 3 (.t 8) (.t 9)),.yf 11 6 2 10,.yl 12 6 11,.y 13 6 (.bin .eql true 3 (.t 12) (.k 3)),.q 14 6 13,.m 3 14] .ret))
def r_lengths_Check_1:Ng Tryz.prog 165=some ⟨15,z68.r,[.tmp 3]⟩:=Aa
def za1:LC:=(.q [.F 3] (.q [.l 4 1,.m 5 0,.I 6 1 4 5,.l 7 6,.z 8 (.un .not (.t 7)),.m 3 8] .ret))
def r_lengths_Check_2:Ng Tryz.prog 171=some ⟨9,za1.r,[.tmp 3]⟩:=Aa
def zbv:LC:=(.q [.x 1 0,.K 2 0] (.seq (.q [.f 13 0 1,.l 14 13,.w 15 164 14,.z 16 (.un .not (.t 15)),.m 17 16,.nf 18 17 1 1,.nl 19 17 18,.n 20 17 (.lenSl (.t 19)),.nb 21 17 .gtr 3 20 4096,.p 22 17 21,.m 23 22,.nf 24 23 2 1,.nl 25 23 24,.n 26 23 (.lenSl (.t 25)),.nb 27 23 .gtr 3 26 4096,.p 28 23 27] (.cond (.t 28) (.q [.K 2 2] .ret) .skip)) (.q [.z 29 (.mkFunc 165 [] [.t 1]),.m 3 29] (.seq (.q [.f 30 2 1,.l 31 30,.s 32 31,.K 33 0] (.block 0 (.loop (.q [.c 34 .lss 3 33 32] (.seq (.cond (.t 34) .skip (.exit 0)) (.seq (.block 1 (.q [.I 35 7 31 33,.L 36 7 35,.z 5 (.alloc [(.i 0),(.i 0),(.i 0),(.i 0),(.i 0),(.i 0),(.u 0)]),.S 7 5 36] (.q [.f 37 0 5,.l 38 37,.b 39 .neq 3 38 17,.m 40 39,.nf 41 40 0 1,.nl 42 40 41,.n 43 40 (.loadN 7 (.t 5)),.n 44 40 (.w 166 [.t 42,.t 43]),.n 45 40 (.un .not (.t 44)),.p 46 40 45,.m 47 46,.mn 48 47 3,.nf 49 47 3 5,.nl 50 47 49,.n 51 47 (.callV (.t 48) [.t 50]),.p 52 47 51,.m 53 52,.mn 54 53 3,.nf 55 53 4 5,.nl 56 53 55,.n 57 53 (.callV (.t 54) [.t 56]),.p 58 53 57] (.cond (.t 58) (.q [.K 2 2] .ret) .skip)))) (.ops [.b 59 .add 3 33 1,.m 33 59]))))))) (.q [.f 60 0 1,.l 61 60,.s 62 61,.z 63 (.mkSl 1 [(.bool false)] (.t 62) (.t 62)),.z 6 (.alloc [.nilSl]),.S 1 6 63] (.seq (.q [.f 64 0 1,.l 65 64,.s 66 65,.K 67 0] (.block 2 (.loop (.q [.c 68 .lss 3 67 66] (.seq (.cond (.t 68) .skip (.exit 2)) (.seq (.block 3 (.q [.m 69 67,.I 70 3 65 67,.L 71 3 70,.z 8 (.alloc [(.i 0),(.bool false),(.i 0)]),.m 7 69,.S 3 8 71] (.draw [(.l 72 6,[]),(.m 73 7,[]),(.L 74 3 8,[]),(.w 75 167 74,[(.l 72 6,false)]),(.I 76 1 72 73,[]),(.S 1 76 75,[])]))) (.ops [.b 77 .add 3 67 1,.m 67 77]))))))) (.q [.K 9 0] (.seq (.q [.f 78 1 1,.l 79 78,.s 80 79,.K 81 0] (.block 4 (.loop (.q [.c 82 .lss 3 81 80] (.seq (.cond (.t 82) .skip (.exit 4)) (.seq (.block 5 (.q [.I 83 7 79 81,.L 84 7 83,.z 11 (.alloc [(.i 0),(.i 0),(.i 0),(.i 0),(.i 0),(.i 0),(.u 0)]),.S 7 11 84] (.seq (.q [.f 85 0 1,.l 86 85,.L 87 7 11,.W 88 168 86 87,.z 89 (.un .not (.t 88)),.m 90 89,.n 91 90 (.loadN 7 (.t 11)),.n 92 90 (.w 170 [.t 91]),.n 93 90 (.mkFunc 171 [] [.t 6]),.n 94 90 (.w 169 [.t 92,.t 93]),.p 95 90 94] (.cond (.t 95) (.q [.K 2 2] .ret) .skip)) (.seq (.q [.f 96 0 11,.l 97 96] (.block 6 (.q [.b 99 .eql 3 97 15,.m 98 99] (.cond (.t 98) (.ops [.m 100 9,.b 101 .add 3 100 1,.m 9 101]) (.q [.b 103 .eql 3 97 16,.m 102 103] (.cond (.t 102) (.ops [.m 104 9,.b 105 .sub 3 104 1,.m 9 105]) .skip)))))) (.seq (.q [.m 106 9,.b 107 .lss 3 106 0,.m 108 107,.mn 109 108 9,.nb 110 108 .gtr 3 109 4,.p 111 108 110] (.cond (.t 111) (.q [.K 2 2] .ret) .skip)) (.q [.f 112 1 11,.l 113 112,.b 114 .geq 3 113 0] (.cond (.t 114) (.ops [.l 115 6,.f 116 1 11,.l 117 116,.I 118 1 115 117,.v (.store 1 (.t 118) .T)]) .skip))))))) (.ops [.b 119 .add 3 81 1,.m 81 119]))))))) (.seq (.q [.l 120 6,.s 121 120,.K 122 0] (.block 7 (.loop (.q [.c 123 .lss 3 122 121] (.seq (.cond (.t 123) .skip (.exit 7)) (.seq (.block 8 (.q [.m 124 122,.m 12 124] (.q [.m 125 3,.m 126 12,.z 127 (.callV (.t 125) [.t 126]),.m 128 127,.yl 129 128 6,.my 130 128 12,.y 131 128 (.ixAddr 1 (.t 129) (.t 130)),.yl 132 128 131,.y 133 128 (.un .not (.t 132)),.q 134 128 133] (.cond (.t 134) (.q [.K 2 2] .ret) .skip)))) (.ops [.b 135 .add 3 122 1,.m 122 135]))))))) (.seq (.q [.m 136 9,.b 137 .neq 3 136 0] (.cond (.t 137) (.q [.K 2 2] .ret) .skip)) (.q [.K 2 0] .ret)))))))))))
def r_lengths_Check:Ng Tryz.prog 118=some ⟨138,zbv.r,[.tmp 2]⟩:=Aa
def Si(g:List Vr)(j z:List Ko):List LV:=[.lst (N0 g) g.length 3,.lst (U2 j) j.length 7,.lst (U2 z) z.length 7]
def Oh{x:M7}{q:Nat}(h:q<F.length):(F++x)[q]?=F[q]?:=H8 h
def zfz(f:vQ→LV)(l:List vQ)(g:Nat)(x:vQ)(h:g<l.length):Oq (l.map f) g [f x]=(l.set g x).map f:=by
 unfold Oq;rw[I5,H7 h];simp[Lv,List.map_drop]
def repB(n:Nat):Pl [.bool false] n=(List.replicate n false).map LV.bool:=by
 induction n with
 |zero=>rfl
 |succ n g=>simp[Pl,g,K0]
def gb_ext{a b:List Bool}(h:a.length=b.length)(he:∀g,g<a.length→gb a g=gb b g):a=b:=by
 apply List.ext_getElem h;intro g j z;have:=he g j;simpa [gb,Hv,j,z] using this
def gb_setv(m:List Bool)(i g:Nat)(b:Bool)(hi:i<m.length):gb (m.set i b) g=if g=i then b else gb m g:=by
 unfold gb;rw[Hv,Hv,L9];by_cases h:i=g
 ·subst h;simp[hi]
 ·rw[Hx h,Hx (λq=>h q.symm)]
def zem{p st:Nat}(v:Int)(j:F[p]?=some (.cells (.lst (N0 vP) vP.length 3::E) st))(hv:v<vP.length)(k:Y (.bool (Vb vP v)) F):Ot (.fn 165) [.i v,.ptr p 0] F Y:=by
 refine Ni r_lengths_Check_1 Aa N ?_;by_cases g:0≤v
 ·obtain⟨a,rfl⟩:=Hz g;have z:a<vP.length:=J
  have A:=oc (Tw z);simp[z68,j,z];simp[Nb A];simpa [Vb] using k
 ·simp[z68,j,g];simpa [Vb,g] using k
def ztq{p q st:Nat}{m:List Bool}(v:Int)(z:F[p]?=some (.cells [.dy q 0] st))(A:F[q]?=some (.dyn (m.map .bool) m.length 1 0 g))(hv:0≤v∧v<m.length)(k:Y (.bool (!gb m v.toNat)) F):Ot (.fn 171) [.i v,.ptr p 0] F Y:=by
 refine Ni r_lengths_Check_2 Aa N ?_;obtain⟨a,rfl⟩:=Hz hv.1;have j:a<m.length:=J
 have B:=Xd (f:=LV.bool) (at_gb j);simp[za1,z,A,j];simp[Nb B];simpa using k
def zbh(g:List Vr)(j z:List Ko)(jL:g.length≤9223372036854775807):Nl 118 [.agg (Si g j z)] (.i (Vd g j z)) []:=by
 refine Of.val rfl (Ni r_lengths_Check Aa (by simp) ?_);have gD:S9 g j z=false→Vd g j z=2:=λh=>by simp[Vd,h]
 simp[zbv,Si];refine Nt (zjx g jL) (bors_self _ Bc) ?_;cases hv:Rb g with
 |false=>simp[gD,S9,hv]
 |true =>
 have jM:=zgj hv;by_cases g1:(4096:Int)<(j.length:Int)
 ·simp[g1];exact (gD (by simp[S9,hv];omega)).symm
 by_cases g2:(4096:Int)<(z.length:Int)
 ·simp[g1,g2];exact (gD (by simp[S9,hv];omega)).symm
 simp[g1,g2];refine O5 (λρ jE gH N=>∃i:Nat,jE=[]∧N+i=z.length∧lk ρ 1=.ptr 0 0∧lk ρ 3=.fn (.func 165) [] [.ptr 0 0]∧lk ρ 31=.lst (U2 z) z.length 7∧lk ρ 32=.i z.length∧lk ρ 33=.i i∧0<gH.length∧gH[0]?=some (.cells (Si g j z) 0)∧∀gC,gC<i→Tv g (go z gC)=true) (N:=z.length) ⟨0,by simp[Si]⟩ ?_;rintro N ρ jE gH ⟨i,rfl,hN,B,F,gQ,gR,gT,O,L,hr⟩ Nx H;by_cases gI:i<z.length
 ·have q7:=zxf (Xm gI);have T:=os_lt gI;have P:(go z i).f=[.i (go z i).kind,.i (go z i).d,.i (go z i).e,.i (go z i).a,.i (go z i).b,.i (go z i).c,.u (go z i).imm]:=rfl;have no:Tv g (go z i)=false→Vd g j z=2:=λh=>gD (by
   have:z.all (Tv g)=false:=by
    rw[Mb];exact⟨go z i,Iq (Xm gI),by simp[h]⟩
   simp[S9,this])
  have jO:Tv g (go z i)=true→∀gC,gC<i+1→Tv g (go z gC)=true:=λh gC hj=>by
   by_cases e:gC=i
   ·rw[e];exact h
   ·exact hr gC J
  generalize go z i=o at *;by_cases gE:o.kind=17
  ·simp[B,F,gQ,gR,gT,gI,q7,T,P,gE,↓Oh O,L,Si];have hc:=zc2 (N0 g) g.length o;rw[P,gE]at hc;refine Nt hc (bors_self _ Bc) ?_;cases hn:Sr g.length o with
   |false =>
    simp;exact (no (by simp[Tv,hn])).symm
   |true =>
    have gU:=zzu gE hn;have ha:o.a<g.length:=by
     simp only[Sr,Hy]at hn;exact (lf.1 hn.2.2.2.1).2
    have hb:o.b<g.length:=by
     simp only[Sr,Hy]at hn;have:=hn.2.2.2.2;split at this
     ·exact (lf.1 this).2
     ·simp at this;omega
    simp[F];refine zem o.a B6 ha ?_;cases ho:Vb g o.a with
    |true =>
     simp;exact (no (by simp[Tv,ho])).symm
    |false =>
     simp[F];refine zem o.b B6 hb ?_;cases jF:Vb g o.b with
     |true =>
      simp;exact (no (by simp[Tv,jF])).symm
     |false =>
      simp[gT];exact⟨J,H _ _ _ ⟨N-1,J,i+1,rfl,J,Ao,Ah,by simp[gQ],by simp[gR],by simp,by simp,B6,jO (by simp[Tv,gE,hn,ho,jF])⟩⟩
  ·simp[B,F,gQ,gR,gT,gI,q7,T,P,gE];exact (no (by simp[Tv,gE])).symm
 have jG:z.all (Tv g)=true:=by
  rw[Jv];intro o ho;obtain⟨gC,hj,rfl⟩:=J6.1 ho;have e:=Xm hj;rw[H6 hj]at e;rw[Option.some.inj e];exact hr gC J
 simp[B,F,gQ,gR,gT,gI,L,Si,jM,↓Oh O];refine⟨J,?_⟩;refine O5 (λρ jE gH N=>∃(i:Nat) (m:List Bool) (p q st E:Nat),jE=[]∧N+i=g.length∧lk ρ 1=.ptr 0 0∧lk ρ 3=.fn (.func 165) [] [.ptr 0 0]∧lk ρ 6=.ptr p 0∧lk ρ 65=.lst (N0 g) g.length 3∧lk ρ 66=.i g.length∧lk ρ 67=.i i ∧
   0<gH.length∧p<gH.length∧0<q∧q<gH.length∧gH[0]?=some (.cells (Si g j z) 0)∧gH[p]?=some (.cells [.dy q 0] st)∧gH[q]?=some (.dyn (m.map .bool) m.length 1 0 E)∧m.length=g.length∧∀gC,gC<i→gb m gC=Sd (gv g gC)) (N:=g.length)
  ⟨0,List.replicate g.length false,gH.length+1,gH.length,1,0,rfl,J,Ao,Ah,by simp,Ao,by simp,by simp,by simp,by simp,O,by simp,B6,by simp,by simp[repB],by simp,by simp⟩ ?_
 clear B F L hr H O;rintro N ρ jE gH ⟨i,m,p,q,st,E,rfl,hN,B,F,D,g9,jg,jz,O,A,gK,I,L,K,T,U,hm⟩ Nx H;by_cases gI:i<g.length
 ·have hg:=Tw gI;have q3:=zdg hg;have jA:=rh gI;have P:(gv g i).f=[.i (gv g i).limbs,.bool (gv g i).sec,.i (gv g i).mode]:=rfl;simp[B,D,g9,jg,jz,gI,q3,jA,P,↓Oh A,K];rw[←P];refine Nt (zbk (gv g i)) (bors_self _ rfl) ?_;simp[↓Oh A,↓Oh I,K,T,D,jz,gI,U];refine⟨J,J,H _ _ _ ⟨N-1,J,i+1,m.set i (Sd (gv g i)),p,q,st,E+1,rfl,J,Ao,Ah,At,by simp[g9],by simp[jg],by simp,by simp,Ab,gK,Ab,?_,?_,?_,Bv,λgC hj=>?_⟩⟩
  ·rw[Hw J,Oh O];exact L
  ·have jP:p≠q:=λe=>by rw[e,T]at K;cases K
   rw[Hw J,Oh A];exact K
  ·rw[H0 Ab,zfz _ _ _ _ J,J3,U]
  ·rw[gb_setv _ _ _ _ J];split
   ·rename_i e;rw[e]
   ·exact hm gC J
 have jQ:m=fi g:=gb_ext (by simp[fi,U]) (λgC hj=>by
  rw[hm gC J];unfold gb fi;rw[Hv,Jw,Tw J];rfl)
 simp[B,D,g9,jg,jz,gI,L,Si];refine O5 (λρ jE gH N=>∃(i:Nat) (m:List Bool) (G:Int) (p q st E:Nat),jE=[]∧N+i=j.length∧lk ρ 1=.ptr 0 0∧lk ρ 3=.fn (.func 165) [] [.ptr 0 0]∧lk ρ 6=.ptr p 0∧lk ρ 9=.i G∧lk ρ 79=.lst (U2 j) j.length 7∧lk ρ 80=.i j.length∧lk ρ 81=.i i ∧
   0<gH.length∧p<gH.length∧0<q∧q<gH.length∧gH[0]?=some (.cells (Si g j z) 0)∧gH[p]?=some (.cells [.dy q 0] st)∧gH[q]?=some (.dyn (m.map .bool) m.length 1 0 E)∧m.length=g.length∧0≤G∧G≤4∧Vi g m G (j.drop i)=Vi g (fi g) 0 j) (N:=j.length)
  ⟨0,m,0,p,q,st,E,rfl,J,Ao,Ah,At,by simp,Ao,by simp,by simp,O,A,gK,I,L,K,T,U,J,J,by simp[jQ]⟩ ?_
 clear B F D L K T H O A gK I U;rintro N ρ jE gH ⟨i,m,G,p,q,st,E,rfl,hN,B,F,D,Y,Z,gg,gz,O,A,gK,I,L,K,T,U,jZ,j4,gF⟩ Nx H;have jP:p≠q:=λe=>by rw[e,T]at K;cases K
 by_cases gI:i<j.length
 ·have q7:=zxf (Xm gI);have jA:=os_lt gI;rw[drop_go gI]at gF;have P:(go j i).f=[.i (go j i).kind,.i (go j i).d,.i (go j i).e,.i (go j i).a,.i (go j i).b,.i (go j i).c,.u (go j i).imm]:=rfl;generalize go j i=o at *;have no:Vi g m G (o::j.drop (i+1))=none→Vd g j z=2:=λh=>gD (by
   rw[h]at gF;simp[S9,←gF])
  simp[B,Z,gg,gz,gI,q7,jA,P,↓Oh O,L,Si];rw[←P];refine Nt (zmk g o) (bors_self _ (by simp[dats,LV.dat,Rg,P])) ?_;cases ho:Og g o with
  |false =>
   simp;exact (no (by simp[Vi,ho])).symm
  |true =>
  have gU:=ul ho;simp[P];rw[←P];refine Rm (zbn o gU.swap) rfl ?_;simp[D];have jR:(T8 o).length≤9223372036854775807:=by
   have B:([o.a,o.b,o.c].filter λv=>!decide (v<0)).length≤3:=List.length_filter_le _ _;unfold T8;split<;>simp at B ⊢<;>omega
  refine z7d (p:=λv=>!gb m v.toNat) jR (λv hv K' k=>ztq v Ee (by rw[Oh I];exact T) (by have:=gU.takes v hv;omega) k) ?_;cases ht:zi8 m o with
  |false =>
   have:((T8 o).any λv=>!gb m v.toNat)=true:=by
    have h:=ht;unfold zi8 at h;rw[Mb]at h;obtain⟨v,hv,h⟩:=h;exact Jb.2 ⟨v,hv,Ax⟩
   rw[this];simp;exact (no (by simp[Vi,ho,ht])).symm
  |true =>
  have:((T8 o).any λv=>!gb m v.toNat)=false:=by
   have h:=ht;unfold zi8 at h;rw[Jv]at h;rw[Lq];intro v hv;simp[h v hv]
  rw[this];have jT:∀C,C=G+dl o.kind→(C<0∨4<C→Vd g j z=2)∧(0≤C→C≤4→Vi g (Y1 m o) C (j.drop (i+1))=Vi g (fi g) 0 j):=λC e=>by
   subst e;refine⟨λh=>no ?_,λh0 h4=>?_⟩
   ·rw[Vi,Hx];simp only[Hy,Ic];omega
   ·rw[←gF,Vi,H7];simp only[Hy,Ic];exact⟨ho,ht,h0,h4⟩
  have jB:∃V,dl o.kind=V∧-1≤V∧V≤1∧((o.kind=15∧V=1)∨(o.kind≠15∧o.kind=16∧V=-1)∨(o.kind≠15∧o.kind≠16∧V=0)):=by
   by_cases k1:o.kind=15
   ·exact⟨1,by simp[dl,k1],J,J,.inl ⟨k1,rfl⟩⟩
   by_cases k2:o.kind=16
   ·exact⟨-1,by simp[dl,k2],J,J,.inr (.inl ⟨k1,k2,rfl⟩)⟩
   ·exact⟨0,by simp[dl,k1,k2],J,J,.inr (.inr ⟨k1,k2,rfl⟩)⟩
  obtain⟨V,e1,e2,e3,jB⟩:=jB;obtain⟨gV,jH⟩:=jT (G+V) (by rw[e1]);have j5:=gU.d;have gL:0≤o.d→o.d<(m.length:Int):=λh=>J
  have gM:0≤o.d→Oq (m.map LV.bool) o.d.toNat [.bool true]=(m.set o.d.toNat true).map LV.bool:=λh=>zfz LV.bool _ _ true J
  have next:∀(C:Int) (ρ':M9) (G':M7) (gO:Nat),C=G+V→0≤C→C≤4→lk ρ' 1=.ptr 0 0→lk ρ' 3=.fn (.func 165) [] [.ptr 0 0]→lk ρ' 6=.ptr p 0→lk ρ' 9=.i C→lk ρ' 79=.lst (U2 j) j.length 7→lk ρ' 80=.i j.length→lk ρ' 81=.i ((i:Int)+1) →
    gH.length≤G'.length→G'[0]?=some (.cells (Si g j z) 0)→G'[p]?=some (.cells [.dy q 0] st)→G'[q]?=some (.dyn ((Y1 m o).map .bool) m.length 1 0 gO)→Nx ρ' [] G':=by
   intro C ρ' G' gO e gY gZ a1 a3 a6 a9 jU jV jX j6 b0 bp bq;have jI:(Y1 m o).length=m.length:=by unfold Y1;split<;>simp
   refine H _ _ _ ⟨N-1,J,i+1,Y1 m o,C,p,q,st,gO,rfl,J,a1,a3,a6,a9,jU,jV,by rw[jX];simp,J,J,gK,J,b0,bp,by rw[jI];exact bq,by rw[jI,U],gY,gZ,?_⟩;subst e;exact jH gY gZ
  have q0:q≠0:=J
  have jC:0≤o.d→Y1 m o=m.set o.d.toNat true:=λh=>by simp[Y1,h]
  have jD:¬0≤o.d→Y1 m o=m:=λh=>by simp[Y1,h]
  rcases jB with ⟨M,rfl⟩|⟨M,gG,rfl⟩|⟨M,gG,rfl⟩
  ·have r0:¬G+1<0:=J
   by_cases d4:4<G+1
   ·simp[Y,P,M,r0,d4]
    repeat (refine⟨J,?_⟩)
    exact (gV (.inr d4)).symm
   by_cases Q:0≤o.d
   ·have d2:=gL Q;simp[D,Y,gz,P,M,r0,d4,↓Oh A,↓Oh I,K,T,Q,d2,gM Q]
    repeat (refine⟨J,?_⟩)
    refine next (G+1) _ _ (E+1) rfl J J Ao Ah At (by simp) Eg Cc (by simp) (by simp) ?_ ?_ ?_
    ·rw[Hw J,Oh O];exact L
    ·rw[Hw J,Oh A];exact K
    ·rw[H0 Ab,jC Q,Ji]
   ·simp[D,Y,gz,P,M,r0,d4,Q]
    repeat (refine⟨J,?_⟩)
    exact next (G+1) _ _ E rfl J J Ao Ah At (by simp) Eg Cc (by simp) (by simp) B6 Ee Fb
  ·by_cases r0:G-1<0
   ·simp[Y,P,M,gG,r0]
    repeat (refine⟨J,?_⟩)
    exact (gV (.inl J)).symm
   have d4:¬4<G-1:=J
   by_cases Q:0≤o.d
   ·have d2:=gL Q;simp[D,Y,gz,P,M,gG,r0,d4,↓Oh A,↓Oh I,K,T,Q,d2,gM Q]
    repeat (refine⟨J,?_⟩)
    refine next (G-1) _ _ (E+1) J J J Ao Ah At (by simp) Eg Cc (by simp) (by simp) ?_ ?_ ?_
    ·rw[Hw J,Oh O];exact L
    ·rw[Hw J,Oh A];exact K
    ·rw[H0 Ab,jC Q,Ji]
   ·simp[D,Y,gz,P,M,gG,r0,d4,Q]
    repeat (refine⟨J,?_⟩)
    exact next (G-1) _ _ E J J J Ao Ah At (by simp) Eg Cc (by simp) (by simp) B6 Ee Fb
  ·have r0:¬G<0:=J
   have d4:¬4<G:=J
   by_cases Q:0≤o.d
   ·have d2:=gL Q;simp[D,Y,gz,P,M,gG,r0,d4,↓Oh A,↓Oh I,K,T,Q,d2,gM Q]
    repeat (refine⟨J,?_⟩)
    refine next G _ _ (E+1) J J J Ao Ah At (by simp[Y]) Eg Cc (by simp) (by simp) ?_ ?_ ?_
    ·rw[Hw J,Oh O];exact L
    ·rw[Hw J,Oh A];exact K
    ·rw[H0 Ab,jC Q,Ji]
   ·simp[D,Y,gz,P,M,gG,r0,d4,Q]
    repeat (refine⟨J,?_⟩)
    exact next G _ _ E J J J Ao Ah At (by simp[Y]) Eg Cc (by simp) (by simp) B6 Ee Fb
 have jY:Vi g (fi g) 0 j=some (m,G):=by
  rw[J0 J]at gF;rw[←gF];rfl
 have l1:j.length≤4096:=J
 have l2:z.length≤4096:=J
 have gP:S9 g j z=(xb g m&&decide (G=0)):=by simp[S9,hv,jG,jY,l1,l2]
 simp[B,F,D,Z,gg,gz,gI,K,T];refine O5 (λρ jE G' N=>∃i:Nat,jE=[]∧G'=gH∧N+i=g.length∧lk ρ 1=.ptr 0 0∧lk ρ 3=.fn (.func 165) [] [.ptr 0 0]∧lk ρ 6=.ptr p 0∧lk ρ 9=.i G∧lk ρ 121=.i g.length∧lk ρ 122=.i i ∧
   ∀gC,gC<i→(gv g gC).mode=3→gb m gC=true) (N:=g.length) ⟨0,rfl,rfl,J,Ao,Ah,At,by simp[Y],Bv,by simp,λgC hj=>J⟩ ?_
 clear B F D Y H;rintro N ρ jE G' ⟨i,rfl,rfl,hN,B,F,D,Y,gA,R,ha⟩ Nx H;by_cases gI:i<g.length
 ·have gm:i<m.length:=J
  have q1:=Xd (f:=LV.bool) (at_gb gm);simp[F,gA,R,gI];refine zem (i:Int) L J ?_;cases ho:Vb g i with
  |false =>
   simp[R];refine⟨J,H _ _ _ ⟨N-1,J,i+1,rfl,rfl,J,Ao,Ah,At,by simp[Y],by simp[gA],by simp,λgC hj X=>?_⟩⟩;by_cases e:gC=i
   ·subst e;simp[Vb,X]at ho
   ·exact ha gC J X
  |true =>
   cases hb:gb m i with
   |false =>
    simp[D,R,K,T,gm,Nb q1,hb];have X:(gv g i).mode=3:=by simp[Vb]at ho;exact ho
    have:xb g m=false:=by
     unfold xb;rw[Mb];exact⟨i,Kh.2 gI,by simp[X,hb]⟩
    exact (gD (by rw[gP,this];rfl)).symm
   |true =>
    simp[D,R,K,T,gm,Nb q1,hb];refine⟨J,H _ _ _ ⟨N-1,J,i+1,rfl,rfl,J,Ao,Ah,At,by simp[Y],by simp[gA],by simp,λgC hj X=>?_⟩⟩;by_cases e:gC=i
    ·rw[e];exact hb
    ·exact ha gC J X
 have jK:xb g m=true:=by
  unfold xb;rw[Jv];intro gC hj;have hj:=Kh.1 hj;by_cases X:(gv g gC).mode=3
  ·simp[ha gC J X]
  ·simp[X]
 by_cases d0:G=0
 ·simp[Y,gA,R,gI,d0];simp[Vd,gP,jK,d0]
 ·simp[Y,gA,R,gI,d0];simp[Vd,gP,d0]
def zec:LC:=(.q [.x 1 0,.F 2] (.q [.f 3 2 1,.l 4 3,.b 5 .eql 3 4 1,.m 6 5,.nf 7 6 2 1,.nl 8 6 7,.nb 9 6 .eql 3 8 2,.p 10 6 9,.m 2 10] .ret))
def r_expand_given:Ng Tryz.prog 172=some ⟨11,zec.r,[.tmp 2]⟩:=Aa
def zbt:LC:=(.q [.z 4 (.alloc [.nilSl,.nilSl,.nilSl])] (.q [.m 8 0,.z 9 (.build [.nilSl,.nilSl,.nilSl] [(0,1,.t 8)]),.z 5 (.alloc [.nilSl,.nilSl,.nilSl]),.S 3 5 9] (.seq (.q [.m 10 0,.s 11 10,.K 12 0] (.block 0 (.loop (.q [.c 13 .lss 3 12 11] (.seq (.cond (.t 13) .skip (.exit 0)) (.seq (.block 1 (.q [.m 14 12,.I 15 3 10 12,.L 16 3 15,.z 7 (.alloc [(.i 0),(.bool false),(.i 0)]),.m 6 14,.S 3 7 16] (.q [.L 17 3 7,.w 18 172 17,.z 19 (.un .not (.t 18))] (.cond (.t 19) (.ops [.f 20 1 5,.l 21 20,.m 22 6,.z 23 (.build [(.i 0),(.i 0),(.i 0),(.i 0),(.i 0),(.i 0),(.u 0)] [(0,1,.k 1),(1,1,.t 22),(2,1,.k (-1)),(3,1,.k (-1)),(4,1,.k (-1)),(5,1,.k (-1))]),.z 24 (.buildSl 7 1 [(.i 0),(.i 0),(.i 0),(.i 0),(.i 0),(.i 0),(.u 0)] [(0,7,.t 23)]),.a 25 7 21 24,.f 26 1 5,.S 1 26 25]) .skip)))) (.ops [.b 27 .add 3 12 1,.m 12 27]))))))) (.q [.f 28 1 5,.l 29 28,.m 30 1,.a 31 7 29 30,.f 32 1 5,.S 1 32 31] (.q [.L 33 3 5,.S 3 4 33] .ret)))))
def r_expand_kernel:Ng Tryz.prog 119=some ⟨34,zbt.r,[.cellN 4 3]⟩:=Aa
def z91:LC:=(.q [.x 3 1,.F 4] (.seq (.q [.f 5 0 3,.l 6 5,.b 7 .eql 3 6 15,.m 8 7,.nf 9 8 0 3,.nl 10 8 9,.nb 11 8 .eql 3 10 16,.p 12 8 11] (.cond (.t 12) (.q [.F 4] .ret) .skip)) (.q [.m 13 0,.L 14 7 3,.z 15 (.buildSl 7 1 [(.i 0),(.i 0),(.i 0),(.i 0),(.i 0),(.i 0),(.u 0)] [(0,7,.t 14)]),.W 16 119 13 15,.w 17 118 16,.b 18 .eql 35 17 0,.m 4 18] .ret)))
def r_expand_May:Ng Tryz.prog 55=some ⟨19,z91.r,[.tmp 4]⟩:=Aa
def z32:LC:=(.q [.K 2 0] (.seq (.q [.m 3 0,.b 4 .lss 3 3 1] (.cond (.t 4) (.q [.K 2 0] .ret) .skip)) (.q [.m 5 0,.b 6 .add 3 5 2,.m 2 6] .ret)))
def r_montgomery_Need:Ng Tryz.prog 21=some ⟨7,z32.r,[.tmp 2]⟩:=Aa
def k_montgomery_Need:z32.ok=true:=Aa
def zcg:LC:=(.q [.x 3 1,.K 4 0] (.seq (.q [.f 6 0 3,.l 7 6,.b 8 .neq 3 7 13,.m 9 8,.mn 10 9 0,.n 11 9 (.loadN 7 (.t 3)),.n 12 9 (.w 55 [.t 10,.t 11]),.n 13 9 (.un .not (.t 12)),.p 14 9 13] (.cond (.t 14) (.q [.K 4 0] .ret) .skip)) (.q [.m 15 0,.f 16 5 3,.l 17 16,.I 18 3 15 17,.f 19 0 18,.l 20 19,.m 5 20] (.seq (.draw [(.f 21 6 3,[]),(.l 22 21,[]),(.z 23 (.bin .shl true 3 (.k 1) (.t 22)),[]),(.z 24 (.bin .add true 3 (.k 3) (.t 23)),[]),(.m 25 5,[]),(.c 26 .mul 3 24 25,[]),(.m 27 0,[]),(.f 28 4 3,[]),(.l 29 28,[]),(.I 30 3 27 29,[]),(.f 31 0 30,[]),(.l 32 31,[]),(.c 33 .add 3 26 32,[]),(.b 34 .add 3 33 1,[]),(.m 35 5,[]),(.w 36 21 35,[(.l 32 31,false),(.l 29 28,false),(.l 22 21,false)]),(.c 37 .add 3 34 36,[]),(.m 4 37,[])]) .ret))))
def r_power_Work:Ng Tryz.prog 42=some ⟨38,zcg.r,[.tmp 4]⟩:=Aa
def zbx(v:Vr):Nl 172 [.agg v.f] (.bool (Sd v)) []:=by
 refine Of.val rfl (Ni r_expand_given Aa N ?_);by_cases g:v.mode=1<;>simp[zec,Vr.f,Sd,g]
def ztn{i:Nat}(h:i<vP.length):Vs i (vP.drop i)=(if Sd (gv vP i)=true then [] else [bm 1 i])++Vs (i+1) (vP.drop (i+1)):=by
 rw[zox h,Vs];split<;>rfl
def zzv(l:List LV):(LV.agg l).cells=some l:=rfl
def da(a b:List Ko):U2 (a++b)=U2 a++U2 b:=by simp[U2]
def zbf(g:List Vr)(z:List Ko)(hl:g.length≤1000000)(hn:z.length≤1000000):O1 119 [.lst (N0 g) g.length 3,.lst (U2 z) z.length 7] (.agg (Si g (Vs 0 g++z) [])):=by
 refine R7.mk (by simp[Si,LV.dat,dats,Rg,zdm]) (Ni r_expand_kernel Aa (by simp) ?_);simp[zbt];refine O5 (λU gC gg N=>∃(i:Nat) (T:List Ko) (v:LV) (st:Nat),gC=[]∧N+i=g.length∧lk U 1=.lst (U2 z) z.length 7∧lk U 4=.ptr 0 0∧lk U 5=.ptr 1 0∧lk U 10=.lst (N0 g) g.length 3∧lk U 11=.i g.length∧lk U 12=.i i ∧
   1<gg.length∧gg[0]?=some (.cells [.nilSl,.nilSl,.nilSl] 0)∧gg[1]?=some (.cells [.lst (N0 g) g.length 3,v,.nilSl] st)∧Rw 2 gg v 7 T.length (U2 T)∧T.length≤i∧Vs 0 g=T++Vs i (g.drop i)) (N:=g.length)
  ⟨0,[],.nilSl,1,rfl,J,by simp,by simp,by simp,by simp,by simp,by simp,by simp,by simp,by simp,Rw.nil,by simp,by simp⟩ ?_
 rintro N U gC gg ⟨i,T,v,st,rfl,hN,V,X,M,F,G,H,K,L,A,Y,gA,j⟩ Nx O;have P:0<gg.length:=J
 by_cases gz:i<g.length
 ·have hg:=Tw gz;have q3:=zdg hg;have Z:=rh gz;have hf:(gv g i).f=[.i (gv g i).limbs,.bool (gv g i).sec,.i (gv g i).mode]:=rfl;have Q:=ztn gz;rw[Q]at j;simp[F,G,H,gz,q3,Z,hf];rw[←hf];refine Nt (zbx (gv g i)) (bors_self _ rfl) ?_;cases R:Sd (gv g i) with
  |true =>
   rw[R]at j;simp[H];refine⟨J,O _ _ _ ⟨N-1,J,i+1,T,v,st,rfl,J,Du,by simp[X],A9,Ah,A6,by simp,Ab,by rw[Oh P];exact L,by rw[Oh K];exact A,Y.push_end,J,Bs⟩⟩
  |false =>
   rw[R]at j;simp[M,↓Oh K,A];refine Rw.push (m:=1) (x:=(bm 1 i).f) Y.push_end J (by simp) J rfl λv' I B C hb=>?_
   have D:I[1]?=some (.cells [.lst (N0 g) g.length 3,v,.nilSl] st):=by rw[C 1 J,Oh K];exact A
   have E:I[0]?=some (.cells [.nilSl,.nilSl,.nilSl] 0):=by rw[C 0 J,Oh P];exact L
   have hc:=B.cells;simp[-LV.cells,M,H,D,hc];refine⟨J,O _ _ _ ⟨N-1,J,i+1,T++[bm 1 i],v',st+1,rfl,J,Du,by simp[X],A9,Ah,A6,by simp,Ab,?_,?_,?_,Ab,Bs⟩⟩
   ·rw[Hw J];exact E
   ·rw[H0 J]
   ·rw[da,H9,show U2 [bm 1 (i:Int)]=(bm 1 i).f by simp[U2]];exact B.set_lt J
 ·rw[J0 J]at j;have j:Vs 0 g=T:=by simpa [Vs] using j
  simp[V,M,F,G,H,gz,A];refine⟨J,?_⟩;refine Rw.push (m:=z.length) Y J J J (osC_len z) λv' I B C hb=>?_
  have D:I[1]?=some (.cells [.lst (N0 g) g.length 3,v,.nilSl] st):=by rw[C 1 J];exact A
  have E:I[0]?=some (.cells [.nilSl,.nilSl,.nilSl] 0):=by rw[C 0 J];exact L
  have hc:=B.cells;have s1:∀x,(I.set 1 x)[1]?=some x:=λx=>H0 J
  have s0:∀x,(I.set 1 x)[0]?=some (.cells [.nilSl,.nilSl,.nilSl] 0):=λx=>by rw[Hw J];exact E
  have s2:∀x y,((I.set 1 x).set 0 y)[0]?=some y:=λx y=>H0 (by rw[J3];omega)
  simp[-LV.cells,X,M,↓D,↓s1,↓s0,↓s2,hc,zzv];refine⟨_,_,rfl,⟨rfl,Rg g⟩,_,_,rfl,?_,_,rfl,.inr ⟨7,rfl⟩⟩;rw[j,da,H9];exact ((B.set_lt J).set_lt J).bor (dats_app (zdm _) (zdm _))
def one_row(o:Ko):o.f=U2 [o]:=by simp[U2]
def zog(z:List Vr)(o:Ko)(B:z.length≤1000000):Nl 55 [.lst (N0 z) z.length 3,.agg o.f] (.bool (Um z o)) []:=by
 refine Of.val rfl (Ni r_expand_May Aa N ?_);have A:o.f=[.i o.kind,.i o.d,.i o.e,.i o.a,.i o.b,.i o.c,.u o.imm]:=rfl;by_cases g:o.kind=15
 ·simp[z91,A,g];simp[Um,zq4,g]
 by_cases j:o.kind=16
 ·simp[z91,A,g,j];simp[Um,zq4,j]
 simp[z91,A,g,j];refine z8v (a:=[.lst (N0 z) z.length 3]) (b:=[]) rfl ?_;rw[←A,one_row];refine Rm (zbf z [o] B N) (by simp[dats,LV.dat,Rg,zdm]) ?_;simp;refine Nt (zbh z _ [] J) (bors_self _ (by simp[Si,dats,LV.dat,Rg,zdm])) ?_;simp[Um,zq4,g,j,Vd]
def zff(n:Int)(h:1≤n∧n≤512):Nl 21 [.i n] (.i (n+2)) []:=by
 refine Of.val rfl (Ni r_montgomery_Need k_montgomery_Need N ?_);have g:¬n<1:=J
 simp[z32,g];omega
def zb6(vs:List Vr)(o:Ko)(I:vs.length≤1000000):Nl 42 [.lst (N0 vs) vs.length 3,.agg o.f] (.i (Nq vs o)) []:=by
 refine Of.val rfl (Ni r_power_Work Aa N ?_);have j:o.f=[.i o.kind,.i o.d,.i o.e,.i o.a,.i o.b,.i o.c,.u o.imm]:=rfl;by_cases g:o.kind=13
 case neg=>simp[zcg,j,g,Nq]
 simp[zcg,j,g];have C:=zog vs o I;rw[j,g]at C;refine Nt C (bors_self _ Bc) ?_;cases hm:Um vs o with
 |false=>simp[Nq,hm]
 |true =>
 obtain⟨hv,D,E,_⟩:=zsl (s:=29) hm (by simp[Pz,g]);obtain⟨a,z,K,F,A⟩:=zcw hv (zko D Ac);obtain⟨b,B,G,H,L⟩:=zcw hv (zl9 D Ac);simp[Q8,g]at E;simp[z,B,K,G];simp[z]at F A;simp[B]at H L;simp[Nb F,Nb H];have M:o.imm.toNat≤6:=by have:=E.2;rw[Jc]at this;exact this
 have hw:∀n,n≤6→(1:Int)≤2^n∧(2:Int)^n≤64:=Ac
 obtain⟨O,P⟩:=hw _ M;have m1:(0:Int)≤(3+2^o.imm.toNat)*Qd vs a:=Int.mul_nonneg J J;have Q:(3+2^o.imm.toNat)*Qd vs a≤67*512:=Int.mul_le_mul J A.2 J J;refine⟨J,J,J,J,G,J,J,?_⟩;refine Nt (zff (Qd vs (a:Int)) A) N ?_;simp
 repeat (refine⟨J,?_⟩)
 simp[Nq,hm,g,z,B]
def z2j:LC:=(.q [.K 4 0] (.seq (.q [.m 6 0,.s 7 6,.K 8 0] (.block 0 (.loop (.q [.c 9 .lss 3 8 7] (.seq (.cond (.t 9) .skip (.exit 0)) (.seq (.block 1 (.q [.m 10 8,.m 5 10] (.q [.m 11 1,.m 12 0,.m 13 5,.I 14 3 12 13,.L 15 3 14,.z 16 (.callV (.t 11) [.t 15])] (.cond (.t 16) (.q [.m 17 5,.m 4 17] .ret) .skip)))) (.ops [.b 18 .add 3 8 1,.m 8 18]))))))) (.q [.K 4 (-1)] .ret)))
def r_slices_IndexFunc_api_Buf_api_Buf:Ng Tryz.prog 213=some ⟨19,z2j.r,[.tmp 4]⟩:=Aa
def z28:LC:=(.q [.F 4] (.q [.m 5 0,.m 6 1,.W 7 213 5 6,.b 8 .geq 3 7 0,.m 4 8] .ret))
def r_slices_ContainsFunc_api_Buf_api_Buf:Ng Tryz.prog 200=some ⟨9,z28.r,[.tmp 4]⟩:=Aa
def zf0:LC:=(.q [.x 1 0,.K 2 0] (.seq (.q [.f 3 0 1,.l 4 3,.b 5 .gtr 3 4 64,.m 6 5,.nf 7 6 1 1,.nl 8 6 7,.n 9 6 (.lenSl (.t 8)),.nb 10 6 .gtr 3 9 32,.p 11 6 10,.m 12 11,.nf 13 12 2 1,.nl 14 12 13,.n 15 12 (.lenSl (.t 14)),.nb 16 12 .gtr 3 15 65536,.p 17 12 16] (.cond (.t 17) (.q [.K 2 3] .ret) .skip)) (.seq (.q [.f 18 1 1,.l 19 18,.z 20 (.w 200 [.t 19,(.c (.fn (.func 201) [] []))])] (.cond (.t 20) (.q [.K 2 3] .ret) .skip)) (.seq (.q [.f 21 0 1,.l 22 21,.b 23 .lss 3 22 0,.m 24 23,.nf 25 24 1 1,.nl 26 24 25,.n 27 24 (.w 200 [.t 26,(.c (.fn (.func 202) [] []))]),.p 28 24 27] (.cond (.t 28) (.q [.K 2 2] .ret) .skip)) (.q [.K 2 0] .ret)))))
def r_limb_head:Ng Tryz.prog 196=some ⟨29,zf0.r,[.tmp 2]⟩:=Aa
def zfn:LC:=(.q [.x 1 0,.F 2] (.q [.f 3 0 1,.l 4 3,.b 5 .gtr 3 4 65536,.m 2 5] .ret))
def r_limb_head_1:Ng Tryz.prog 201=some ⟨6,zfn.r,[.tmp 2]⟩:=Aa
def z7u:LC:=(.q [.x 1 0,.F 2] (.q [.f 3 0 1,.l 4 3,.b 5 .lss 3 4 1,.m 6 5,.nf 7 6 1 1,.nl 8 6 7,.nb 9 6 .lss 3 8 1,.p 10 6 9,.m 11 10,.nf 12 11 1 1,.nl 13 11 12,.nb 14 11 .gtr 3 13 3,.p 15 11 14,.m 2 15] .ret))
def r_limb_head_2:Ng Tryz.prog 202=some ⟨16,z7u.r,[.tmp 2]⟩:=Aa
def zi9:LC:=(.q [.x 1 0,.K 2 0,.K 3 0] (.seq (.q [.L 9 3 1,.w 10 196 9,.m 4 10] (.q [.m 11 4,.b 12 .neq 35 11 0] (.cond (.t 12) (.q [.m 13 4,.K 2 0,.m 3 13] .ret) .skip))) (.q [.L 14 3 1,.z 15 (.build [(.i 0),.nilSl,.nilSl,(.bool false),(.bool false),(.bool false),(.bool false),(.bool false),(.bool false),(.bool false),(.bool false),(.bool false),(.bool false),(.bool false),(.bool false),(.bool false),(.bool false),(.bool false),(.bool false),(.bool false),(.bool false),(.bool false),(.bool false),(.bool false),(.bool false),(.bool false),(.bool false),(.bool false),(.bool false),(.bool false),(.bool false),(.bool false),(.bool false),(.bool false),(.bool false),(.bool false),(.bool false),(.bool false),(.bool false),(.bool false),(.bool false),(.bool false),(.bool false),(.bool false),(.bool false),(.bool false),(.bool false),(.bool false),(.bool false),(.bool false),(.bool false),(.bool false),(.bool false),(.bool false),(.bool false),(.bool false),(.bool false),(.bool false),(.bool false),(.bool false),(.bool false),(.bool false),(.bool false),(.bool false),(.bool false),(.bool false),(.bool false),.nilSl] [(0,3,.t 14)]),.x 16 15,.m 5 16] (.seq (.q [.f 17 2 1,.l 18 17,.s 19 18,.K 20 0] (.block 0 (.loop (.q [.c 21 .lss 3 20 19] (.seq (.cond (.t 21) .skip (.exit 0)) (.seq (.block 1 (.q [.m 22 20,.I 23 8 18 20,.L 24 8 23,.z 7 (.alloc [(.i 0),(.i 0),(.i 0),(.i 0),(.i 0),(.i 0),(.i 0),(.u 0)]),.m 6 22,.S 8 7 24] (.q [.m 25 5,.L 26 8 7,.W 27 197 25 26,.m 8 27] (.q [.m 28 8,.b 29 .neq 35 28 0] (.cond (.t 29) (.q [.m 30 6,.m 31 8,.m 2 30,.m 3 31] .ret) .skip))))) (.ops [.b 32 .add 3 20 1,.m 20 32]))))))) (.seq (.q [.m 33 5,.N 34 33,.f 35 67 34,.l 36 35,.s 37 36,.b 38 .gtr 3 37 0] (.cond (.t 38) (.q [.f 39 2 1,.l 40 39,.s 41 40,.m 2 41,.K 3 9] .ret) .skip)) (.q [.f 42 2 1,.l 43 42,.s 44 43,.m 2 44,.K 3 0] .ret))))))
def r_limb_Check:Ng Tryz.prog 174=some ⟨45,zi9.r,[.tmp 2,.tmp 3]⟩:=Aa
def z2s:LC:=(.q [.x 2 0,.x 3 1,.F 4] (.seq (.q [.f 6 0 3,.l 7 6,.b 8 .lss 3 7 0,.m 9 8,.nf 10 9 0 3,.nl 11 9 10,.nf 12 9 0 2,.nl 13 9 12,.n 14 9 (.lenSl (.t 13)),.n 15 9 (.bin .geq false 3 (.t 11) (.t 14)),.p 16 9 15,.m 17 16,.nf 18 17 2 3,.nl 19 17 18,.nb 20 17 .lss 3 19 1,.p 21 17 20,.m 22 21,.nf 23 22 2 3,.nl 24 22 23,.nb 25 22 .gtr 3 24 32768,.p 26 22 25,.m 27 26,.nf 28 27 1 3,.nl 29 27 28,.nb 30 27 .lss 3 29 0,.p 31 27 30] (.cond (.t 31) (.q [.F 4] .ret) .skip)) (.q [.f 32 0 2,.l 33 32,.f 34 0 3,.l 35 34,.I 36 3 33 35,.f 37 0 36,.l 38 37,.m 5 38] (.q [.f 39 1 3,.l 40 39,.m 41 5,.c 42 .leq 3 40 41,.m 43 42,.yf 44 43 2 3,.yl 45 43 44,.my 46 43 5,.yf 47 43 1 3,.yl 48 43 47,.y 49 43 (.bin .sub false 3 (.t 46) (.t 48)),.y 50 43 (.bin .leq false 3 (.t 45) (.t 49)),.q 51 43 50,.m 4 51] .ret))))
def r_expand_lies:Ng Tryz.prog 175=some ⟨52,z2s.r,[.tmp 4]⟩:=Aa
def zeg:LC:=(.q [.x 3 1,.K 4 0] (.seq (.q [.m 13 0,.z 14 (.w 119 [.t 13,(.c .nilSl)]),.w 15 118 14,.b 16 .neq 35 15 0,.m 17 16,.nf 18 17 0 3,.nl 19 17 18,.n 20 17 (.lenSl (.t 19)),.nb 21 17 .lss 3 20 1,.p 22 17 21,.m 23 22,.nf 24 23 1 3,.nl 25 23 24,.n 26 23 (.lenSl (.t 25)),.mn 27 23 0,.n 28 23 (.lenSl (.t 27)),.n 29 23 (.bin .neq false 3 (.t 26) (.t 28)),.p 30 23 29] (.cond (.t 30) (.q [.K 4 2] .ret) .skip)) (.seq (.q [.f 32 0 3,.l 33 32,.z 34 (.build [(.i 0),.nilSl,.nilSl] [(1,1,.t 33)]),.w 35 174 34,.m 31 35,.X 36 0 31,.X 37 1 31,.m 5 36,.m 6 37] (.q [.m 38 6,.b 39 .neq 35 38 0] (.cond (.t 39) (.q [.K 4 2] .ret) .skip))) (.seq (.q [.m 40 0,.s 41 40,.K 42 0] (.block 0 (.loop (.q [.c 43 .lss 3 42 41] (.seq (.cond (.t 43) .skip (.exit 0)) (.seq (.block 1 (.q [.m 44 42,.I 45 3 40 42,.L 46 3 45,.z 8 (.alloc [(.i 0),(.bool false),(.i 0)]),.m 7 44,.S 3 8 46] (.q [.f 47 1 3,.l 48 47,.m 49 7,.I 50 3 48 49,.L 51 3 50,.z 9 (.alloc [(.i 0),(.i 0),(.i 0)]),.S 3 9 51] (.seq (.q [.L 52 8 3,.L 53 3 9,.W 54 175 52 53,.z 55 (.un .not (.t 54)),.m 56 55,.nf 57 56 2 9,.nl 58 56 57,.nf 59 56 0 8,.nl 60 56 59,.n 61 56 (.bin .neq false 3 (.t 58) (.t 60)),.p 62 56 61] (.cond (.t 62) (.q [.K 4 2] .ret) .skip)) (.q [.f 63 0 3,.l 64 63,.f 65 0 9,.l 66 65,.I 67 3 64 66,.L 68 3 67,.z 10 (.alloc [(.i 0),(.i 0),(.bool false)]),.S 3 10 68] (.q [.f 69 1 10,.l 70 69,.b 71 .eql 3 70 1,.m 72 71,.y 73 72 (.loadN 3 (.t 8)),.y 74 72 (.w 172 [.t 73]),.y 75 72 (.un .not (.t 74)),.q 76 72 75,.m 77 76,.nf 78 77 1 10,.nl 79 77 78,.nb 80 77 .eql 3 79 2,.mn 81 77 80,.y 82 81 (.loadN 3 (.t 8)),.y 83 81 (.w 172 [.t 82]),.n 84 77 (.pick (.t 81) (.t 83) .F),.p 85 77 84,.m 86 85,.nf 87 86 1 8,.nl 88 86 87,.nf 89 86 2 10,.nl 90 86 89,.n 91 86 (.bin .neq false 4 (.t 88) (.t 90)),.p 92 86 91] (.cond (.t 92) (.q [.K 4 2] .ret) .skip))))))) (.ops [.b 93 .add 3 42 1,.m 42 93]))))))) (.seq (.q [.f 94 2 3,.L 95 6 94,.K 96 0] (.block 2 (.loop (.q [.b 97 .lss 3 96 2] (.seq (.cond (.t 97) .skip (.exit 2)) (.seq (.block 3 (.q [.m 98 96,.z 99 (.ixArr true 2 3 (.t 95) (.t 96)),.z 12 (.alloc [(.i 0),(.i 0),(.i 0)]),.m 11 98,.S 3 12 99] (.q [.L 100 8 3,.L 101 3 12,.W 102 175 100 101,.z 103 (.un .not (.t 102)),.m 104 103,.nf 105 104 0 3,.nl 106 104 105,.nf 107 104 0 12,.nl 108 104 107,.n 109 104 (.ixAddr 3 (.t 106) (.t 108)),.nf 110 104 1 109,.nl 111 104 110,.nb 112 104 .eql 3 111 1,.p 113 104 112,.m 114 113,.nf 115 114 0 3,.nl 116 114 115,.nf 117 114 0 12,.nl 118 114 117,.n 119 114 (.ixAddr 3 (.t 116) (.t 118)),.nf 120 114 2 119,.nl 121 114 120,.mn 122 114 11,.nb 123 114 .eql 3 122 1,.n 124 114 (.bin .neq false 4 (.t 121) (.t 123)),.p 125 114 124] (.cond (.t 125) (.q [.K 4 2] .ret) .skip)))) (.ops [.b 126 .add 3 96 1,.m 96 126]))))))) (.q [.K 4 0] .ret))))))
def r_expand_Check:Ng Tryz.prog 125=some ⟨127,zeg.r,[.tmp 4]⟩:=Aa
def z5k:LC:=(.q [.x 3 1,.F 4] (.q [.f 5 1 3,.l 6 5,.b 7 .geq 3 6 0,.m 8 7,.yf 9 8 1 3,.yl 10 8 9,.my 11 8 0,.y 12 8 (.lenSl (.t 11)),.y 13 8 (.bin .lss false 3 (.t 10) (.t 12)),.q 14 8 13,.m 15 14,.my 16 15 0,.yf 17 15 1 3,.yl 18 15 17,.y 19 15 (.ixAddr 3 (.t 16) (.t 18)),.yf 20 15 1 19,.yl 21 15 20,.y 22 15 (.un .not (.t 21)),.q 23 15 22,.m 4 23] .ret))
def r_expand_Public:Ng Tryz.prog 126=some ⟨24,z5k.r,[.tmp 4]⟩:=Aa
def zfh:LC:=(.q [.x 4 1,.x 5 2,.K 6 0,.z 7 (.alloc [(.i 0),(.i 0),(.i 0)])] (.seq (.q [.m 8 0,.L 9 7 4,.W 10 126 8 9] (.cond (.t 10) (.seq (.draw [(.f 11 2 5,[]),(.z 12 (.ixAddrArr 2 3 (.t 11) (.k 0)),[]),(.L 13 3 12,[]),(.K 6 16,[]),(.S 3 7 13,[])]) .ret) .skip)) (.seq (.draw [(.f 14 2 5,[]),(.z 15 (.ixAddrArr 2 3 (.t 14) (.k 1)),[]),(.L 16 3 15,[]),(.K 6 40,[]),(.S 3 7 16,[])]) .ret)))
def r_expand_Base:Ng Tryz.prog 59=some ⟨17,zfh.r,[.tmp 6,.cellN 7 3]⟩:=Aa
def zdz:LC:=(.q [.x 6 1,.x 7 2,.F 10] (.seq (.q [.m 13 0,.L 14 8 7,.W 15 125 13 14,.b 16 .neq 35 15 0,.m 17 16,.mn 18 17 4,.nb 19 17 .lss 3 18 1,.p 20 17 19,.m 21 20,.mn 22 21 3,.nb 23 21 .lss 3 22 0,.p 24 21 23,.m 25 24,.mn 26 25 3,.nb 27 25 .gtr 3 26 4,.p 28 25 27] (.cond (.t 28) (.q [.F 10] .ret) .skip)) (.q [.m 30 0,.L 31 7 6,.L 32 8 7,.V 33 59 30 31 32,.m 29 33,.X 34 0 29,.X 35 1 29,.z 12 (.alloc [(.i 0),(.i 0),(.i 0)]),.m 11 34,.S 3 12 35] (.q [.m 36 4,.f 37 2 12,.l 38 37,.c 39 .leq 3 36 38,.m 10 39] .ret))))
def r_expand_Ready:Ng Tryz.prog 58=some ⟨40,zdz.r,[.tmp 10]⟩:=Aa
def Qj(bs:List Bf)(z:List Pc)(g j:Pc):List LV:=[.lst (Qc bs) bs.length 3,.lst (Vp z) z.length 3,.i g.buf,.i g.at_,.i g.size,.i j.buf,.i j.at_,.i j.size]
def Pc.f_len(p:Pc):p.f.length=3:=rfl
def zdd(l:List Pc):dats (Vp l)=true:=zak (λ_=>rfl) l
def zg9{l:List Pc}{i:Nat}{v:Pc}(h:l[i]?=some v):((Vp l).drop (i*3)).take 3=v.f:=zcz Pc.f_len h
def zzd{l:List Pc}{i:Nat}(h:i<l.length):i*3+3≤(Vp l).length:=zty Pc.f_len h
def zqf{l:List Pc}{n:Nat}(h:n<l.length):l[n]?=some (Qm l n):=by simp[Qm,Hv,h]
def zap(bs:List Bf)(g:List Pc)(j z:Pc):dats (Qj bs g j z)=true:=by simp[Qj,dats,LV.dat,Ts,zdd]
def zu1{l:List Bf}{f:Nat}{a b:List LV}{p:Bf→Bool}(T:l.length≤9223372036854775807)
  (P:∀v∈l,∀H:LV→M7→Prop,H (.bool (p v)) F→Ot (.fn f) (a++[.agg v.f]++b) F H) (k:Y (.i (mb p l)) F):Ot (.fn 213) [.lst (Qc l) l.length 3,.fn (.func f) a b] F Y:=by
 refine Ni r_slices_IndexFunc_api_Buf_api_Buf Aa (by simp) ?_;simp[z2j];refine O5 (λI R K N=>∃i:Nat,R=[]∧K=F∧N+i=l.length∧lk I 0=.lst (Qc l) l.length 3∧lk I 1=.fn (.func f) a b∧lk I 7=.i l.length∧lk I 8=.i i∧∀L b,L<i→l[L]?=some b→p b=false) (N:=l.length) ⟨0,by simp⟩ ?_;rintro N I R K ⟨i,rfl,rfl,U,j,z,A,B,C⟩ V D;by_cases hi:l.length≤i
 ·have G:¬i<l.length:=J
  simp[j,z,A,B,G];rw[←zvf hi C];exact k
 ·have G:i<l.length:=J
  have E:=H6 G;have Q:=zpb G;simp[j,z,A,B,G,zxh E,Q];have M:=P l[i] (K8 G);simp only[Jj,List.singleton_append]at M;refine M _ ?_;cases O:p l[i] with
  |true =>
   simp;rw[←uc E O C];exact k
  |false =>
   simp[B];refine⟨J,D _ _ _ ⟨N-1,J,i+1,rfl,rfl,J,Af,Ae,As,by simp,λL b X g=>?_⟩⟩;by_cases e:L=i
   ·subst e;rw[E]at g;cases g;exact O
   ·exact C L b J g
def zee{l:List Bf}{f:Nat}{a b:List LV}{p:Bf→Bool}(j:l.length≤9223372036854775807)
  (z:∀v∈l,∀g:LV→M7→Prop,g (.bool (p v)) F→Ot (.fn f) (a++[.agg v.f]++b) F g) (k:Y (.bool (l.any p)) F):Ot (.fn 200) [.lst (Qc l) l.length 3,.fn (.func f) a b] F Y:=by
 refine Ni r_slices_ContainsFunc_api_Buf_api_Buf Aa N ?_;simp[z28];refine zu1 j z ?_;simp;rw[dz];exact k
def zmh(b:Bf):Nl 201 [.agg b.f] (.bool (decide (65536<b.size))) []:=by
 refine Of.val rfl (Ni r_limb_head_1 Aa N ?_);simp[zfn,Bf.f]
def zmi(b:Bf):Nl 202 [.agg b.f] (.bool (decide (b.size<1) || (decide (b.kind<1) || decide (3<b.kind)))) []:=by
 refine Of.val rfl (Ni r_limb_head_2 Aa N ?_);by_cases g:b.size<1
 ·simp[z7u,Bf.f,g]
 by_cases j:b.kind<1
 ·simp[z7u,Bf.f,g,j]
 simp[z7u,Bf.f,g,j]
def zrm(g:List Bf)(C:g.length≤9223372036854775807):Nl 196 [.agg [.i 0,.lst (Qc g) g.length 3,.nilSl]] (.i (ku g)) []:=by
 refine Of.val rfl (Ni r_limb_head Aa N ?_);by_cases B:32<g.length
 ·have z:(32:Int)<g.length:=J
  simp[zf0,ku,B,z]
 have z:¬(32:Int)<g.length:=J
 simp[zf0,B,z];refine zee (a:=[]) (b:=[]) (p:=λb=>decide (65536<b.size)) C (λv hv D k=>Nt (zmh v) (bors_self _ rfl) k) ?_;by_cases A:(g.any λb=>decide (65536<b.size))=true
 ·simp only[ku,Hx B,H7 A];rw[A];simp
 simp only[ku,Hx B,Hx A];rw[Bool.not_eq_true]at A;rw[A];simp;generalize j:(g.any λb=>decide (b.size<1) || (decide (b.kind<1) || decide (3<b.kind)))=E;refine zee (a:=[]) (b:=[]) (p:=λb=>decide (b.size<1) || (decide (b.kind<1) || decide (3<b.kind))) C (λv hv D k=>Nt (zmi v) (bors_self _ rfl) k) ?_;rw[j];cases E with
 |true =>
  simp at j ⊢;obtain⟨x,F,h⟩:=j;exact⟨x,F,λ_ _=>J⟩
 |false=>simp;simpa using j
def x8(a b:Bool):Sn Tryz.prog false 4 (.bool a) (.bool b)=some (a==b):=by cases a<;>cases b<;>kernel_rfl
def zgb(g:List Bf)(E:g.length≤9223372036854775807):Nl 174 [.agg [.i 0,.lst (Qc g) g.length 3,.nilSl]] (.tup [.i 0,.i (ku g)]) []:=by
 refine Of.val rfl (Ni r_limb_Check Aa (by simp) ?_);simp[zi9];refine Nt (zrm g E) (bors_self _ (by simp[dats,LV.dat,Ts])) ?_;by_cases h:ku g=0
 ·simp[h];refine O5 (λD K F L=>K=[]∧lk D 1=.ptr 0 0∧lk D 5=.ptr 1 0∧lk D 19=.i 0∧lk D 20=.i 0∧F[0]?=some (.cells [.i 0,.lst (Qc g) g.length 3,.nilSl] 0)∧∃l st,F[1]?=some (.cells ((.i 0)::(.lst (Qc g) g.length 3)::.nilSl::l) st)∧l[64]?=some .nilSl) (N:=0) ⟨rfl,by simp,by simp,by simp,by simp,by simp,_,_,rfl,rfl⟩ ?_;rintro L D K F ⟨rfl,G,H,z,A,B,l,st,C,j⟩ M I;simp[G,H,z,A,B,C,Nb j]
 ·simp[h]
def z9f(j:List Bf)(H:List Pc)(I K x:Pc)(L:∀b∈j,b.size≤65536):Nl 175 [.agg (Qj j H I K),.agg x.f] (.bool (Wv j x)) []:=by
 refine Of.val rfl (Ni r_expand_lies Aa N ?_);by_cases z:x.buf<0
 ·simp[z2s,Qj,Pc.f,Wv,z];omega
 by_cases A:(j.length:Int)≤x.buf
 ·simp[z2s,Qj,Pc.f,Wv,z,A];omega
 by_cases B:x.size<1
 ·simp[z2s,Qj,Pc.f,Wv,z,A,B];omega
 by_cases C:32768<x.size
 ·simp[z2s,Qj,Pc.f,Wv,z,A,B,C];omega
 by_cases D:x.at_<0
 ·simp[z2s,Qj,Pc.f,Wv,z,A,B,C,D];omega
 obtain⟨n,E⟩:=Hz (J:0≤x.buf);have g:n<j.length:=J
 have F:=zgp (Sx g);have Q:=zpb g;have R:(0:Int)≤x.buf:=J
 have T:x.buf<(j.length:Int):=J
 have M:(1:Int)≤x.size:=J
 have O:x.size≤32768:=J
 have P:(0:Int)≤x.at_:=J
 by_cases G:x.at_≤(Ns j n).size
 ·simp[z2s,Qj,Pc.f,Wv,z,A,B,C,D,E,g,Nb F,G];have:=L _ (Iq (Sx g));refine⟨λ_=>J,λq=>absurd q J,J,?_⟩;simp[M,O,P]
 ·simp[z2s,Qj,Pc.f,Wv,z,A,B,C,D,E,g,Nb F,G]
def zh1(h:ku Z=0):∀b∈Z,b.size≤65536:=λb z=>by
 unfold ku at h;by_cases j:32<Z.length
 ·rw[H7 j]at h;omega
 by_cases g:(Z.any λb=>decide (65536<b.size))=true
 ·rw[Hx j,H7 g]at h;omega
 rw[Bool.not_eq_true,Lq]at g;have:=g b z;simp at this;omega
def ky(g:List Vr)(j:List Bf)(z:List Pc)(A B:Pc):Int:=if Wa g j z A B=true then 0 else 2
def z8l{x:Pc}(h:Wv Z x=true):∃n:Nat,x.buf=n∧n<Z.length∧1≤x.size∧x.size≤32768∧0≤x.at_∧x.at_≤(Ns Z n).size∧x.size≤(Ns Z n).size-x.at_:=by
 simp only[Wv,Hy,Ic]at h;obtain⟨A,E,B,C,D,g,j⟩:=h;obtain⟨n,z⟩:=Hz A;rw[z]at g j;exact⟨n,z,J,B,C,D,g,j⟩
def zjo(j:List Vr)(g:List Bf)(C:List Pc)(A B:Pc)(hv:j.length≤1000000)(hb:g.length≤9223372036854775807) :
  Nl 125 [.lst (N0 j) j.length 3,.agg (Qj g C A B)] (.i (ky j g C A B)) []:=by
 refine Of.val rfl (Ni r_expand_Check Aa (by simp) ?_);have I:Wa j g C A B=false→ky j g C A B=2:=λh=>by simp[ky,h]
 simp[zeg];refine zn9 (args':=[.lst (N0 j) j.length 3,.lst (U2 []) ([]:List Ko).length 7]) (λc r h=>?_) ?_
 ·cases h with
  |cons e1 es=>cases es with
   |cons e2 T=>exact .cons e1 (.cons (by cases e2;exact .lstNil) T)
 refine Rm (zbf j [] hv (by simp)) (by simp[dats,LV.dat,Rg,U2]) ?_;rw[Jp];simp;refine Nt (zbh j (Vs 0 j) [] J) (bors_self _ (by simp[Si,dats,LV.dat,Rg,zdm])) ?_;simp only[Vd,fq];cases gH:Rb j with
 |false=>simp;exact (I (by simp[Wa,gH])).symm
 |true =>
 by_cases g1:(g.length:Int)<1
 ·simp[Qj,g1];exact (I (by simp[Wa,(J:¬1≤g.length)])).symm
 by_cases g2:C.length=j.length
 case neg =>
  have gM:¬(C.length:Int)=(j.length:Int):=J
  simp[Qj,g1,g2,gM];exact (I (by simp[Wa,g2])).symm
 simp[Qj,g1,g2];refine Nt (zgb g hb) (bors_self _ (by simp[dats,LV.dat,Ts])) ?_;by_cases g3:ku g=0
 case neg=>simp[g3];exact (I (by simp[Wa,g3])).symm
 simp[g3];have Z:∀b∈g,b.size≤65536:=zh1 g3;refine O5 (λρ gY gG N=>∃i:Nat,gY=[]∧N+i=j.length∧lk ρ 3=.ptr 0 0∧lk ρ 40=.lst (N0 j) j.length 3∧lk ρ 41=.i j.length∧lk ρ 42=.i i∧0<gG.length∧gG[0]?=some (.cells (Qj g C A B) 0)∧∀gL,gL<i→mc g (gv j gL) (Qm C gL)=true) (N:=j.length)
  ⟨0,by simp[Qj,g2]⟩ ?_
 rintro N ρ gY gG ⟨i,rfl,hN,G,L,M,O,hl,hG,gg⟩ Nx U;by_cases g9:i<j.length
 ·have q3:=zdg (Tw g9);have hq:=rh g9;have gp:i<C.length:=J
  have p3:=zg9 (zqf gp);have gO:=zzd gp;have gP:(gv j i).f=[.i (gv j i).limbs,.bool (gv j i).sec,.i (gv j i).mode]:=rfl;have gQ:(Qm C i).f=[.i (Qm C i).buf,.i (Qm C i).at_,.i (Qm C i).size]:=rfl;have no:mc g (gv j i) (Qm C i)=false→ky j g C A B=2:=λh=>I (by
   have:((List.range j.length).all λi=>mc g (gv j i) (Qm C i))=false:=by
    rw[Mb];exact⟨i,Kh.2 g9,by simp[h]⟩
   simp[Wa,this])
  have X:mc g (gv j i) (Qm C i)=true→∀D G',lk D 3=.ptr 0 0→lk D 40=.lst (N0 j) j.length 3→lk D 41=.i j.length→lk D 42=.i ((i:Int)+1)→0<G'.length→G'[0]?=some (.cells (Qj g C A B) 0)→Nx D [] G':=λh D G' T gz gA gC el eG =>
   U _ _ _ ⟨N-1,J,i+1,rfl,J,T,gz,gA,by rw[gC];simp,el,eG,λgL hj=>by
    by_cases e:gL=i
    ·rw[e];exact h
    ·exact gg gL J⟩
  generalize gv j i=v at *;generalize Qm C i=x at *;have K:∀y:List LObj,(gG++y)[0]?=some _:=λy=>(Oh hl).trans hG
  simp[G,L,M,O,g9,gp,q3,p3,hq,gO,gP,gQ,↓K,Qj];have Y:=z9f g C A B x Z;rw[Qj,Pc.f]at Y;refine Nt Y (bors_self _ Ej) ?_;cases F:Wv g x with
  |false=>simp;exact (no (by simp[mc,F])).symm
  |true =>
  obtain⟨n,Q,z,s1,s2,s3,s4,s5⟩:=z8l F;by_cases g4:x.size=v.limbs
  case neg=>simp[g4];exact (no (by simp[mc,g4])).symm
  have b3:=zxh (Sx z);have gD:=zpb z;have gR:(Ns g n).f=[.i (Ns g n).size,.i (Ns g n).kind,.bool (Ns g n).sec]:=rfl;have gT:mc g v x=(!(decide ((Ns g n).kind=1) && !Sd v)&&(!(decide ((Ns g n).kind=2)&&Sd v)&&(v.sec==(Ns g n).sec))):=by simp[mc,F,g4,Q]
  rw[gT]at no X;generalize Ns g n=b at *;simp[g4,G,↓K,Qj,Q,z,b3,gD,gR];have gI:∀{G':M7} {K':LV→M7→Prop},K' (.bool (Sd v)) G'→Ot (.fn 172) [.agg [.i v.limbs,.bool v.sec,.i v.mode]] G' K':=λk=>Nt (zbx v) (bors_self _ rfl) k
  have P:∀(h:(!(decide (b.kind=1) && !Sd v)&&(!(decide (b.kind=2)&&Sd v)&&(v.sec==b.sec)))=true) (D:M9) (x:List LObj),lk D 3=.ptr 0 0→lk D 40=.lst (N0 j) j.length 3→lk D 41=.i j.length→lk D 42=.i ((i:Int)+1)→Nx D [] (gG++x):=λh D x T gz gA gC=>X h _ _ T gz gA gC Ab (K x)
  by_cases H:b.kind=1
  ·simp[H];refine gI ?_;cases hg:Sd v with
   |false=>simp[H,hg]at no ⊢;exact no.symm
   |true =>
    simp[H,hg]at no P ⊢;cases E:(v.sec==b.sec) with
    |false=>simp[x8,E]at no ⊢;exact (no B7).symm
    |true =>
     simp[x8,E,O];refine⟨J,P B7 _ _ A6 Bz A9 (by simp)⟩
  ·by_cases k2:b.kind=2
   ·simp[k2];refine gI ?_;cases hg:Sd v with
    |true=>simp[k2,hg]at no ⊢;exact no.symm
    |false =>
     simp[k2,hg]at no P ⊢;cases E:(v.sec==b.sec) with
     |false=>simp[x8,E]at no ⊢;exact (no B7).symm
     |true =>
      simp[x8,E,O];refine⟨J,P B7 _ _ A6 Bz A9 (by simp)⟩
   ·simp[H,k2]at no P ⊢;cases E:(v.sec==b.sec) with
    |false=>simp[x8,E]at no ⊢;exact (no B7).symm
    |true =>
     simp[x8,E,O];refine⟨J,P B7 _ _ A6 Bz A9 (by simp)⟩
 ·have gi:i=j.length:=J
  subst gi;simp[G,L,M,O,hG,Qj];refine O5 (λρ gY gG N=>∃i:Nat,gY=[]∧N+i=2∧lk ρ 3=.ptr 0 0∧lk ρ 95=.agg [.i A.buf,.i A.at_,.i A.size,.i B.buf,.i B.at_,.i B.size]∧lk ρ 96=.i i∧0<gG.length∧gG[0]?=some (.cells (Qj g C A B) 0)∧(0<i→Wm g false A=true)∧(1<i→Wm g true B=true)) (N:=2)
   ⟨0,rfl,rfl,A6,by simp,by simp,hl,hG,λq=>absurd q J,λq=>absurd q J⟩ ?_
  clear G L M O hG hl;rintro N ρ gY gG ⟨i,rfl,jg,G,V,R,hl,hG,gK,gU⟩ Nx U;have K:∀y:List LObj,(gG++y)[0]?=some _:=λy=>(Oh hl).trans hG
  have hi:i=0∨i=1∨i=2:=J
  rcases hi with rfl|rfl|rfl
  ·have no:Wm g false A=false→ky j g C A B=2:=λh=>I (by simp[Wa,h])
   have X:Wm g false A=true→∀(D:M9) (y:List LObj),lk D 3=.ptr 0 0→lk D 95=.agg [.i A.buf,.i A.at_,.i A.size,.i B.buf,.i B.at_,.i B.size]→lk D 96=.i (0+1)→Nx D [] (gG++y):=λh D y T gE gF =>
    U _ _ _ ⟨N-1,J,0+1,rfl,J,T,gE,by rw[gF];rfl,Ab,K y,λ_=>h,λq=>absurd q J⟩
   simp[G,V,R,↓K,Qj];have Y:=z9f g C A B A Z;rw[Qj,Pc.f]at Y;refine Nt Y (bors_self _ Ej) ?_;cases F:Wv g A with
   |false=>simp;exact (no (by simp[Wm,F])).symm
   |true =>
   obtain⟨n,Q,z,s1,s2,s3,s4,s5⟩:=z8l F;have b1:=znb (Sx z);have b2:=zxd (Sx z);have gD:=zpb z;have hW:Wm g false A=(!decide ((Ns g n).kind=1)&&((Ns g n).sec==false)):=by simp[Wm,F,Q]
   rw[hW]at no X;generalize Ns g n=b at *;by_cases H:b.kind=1
   ·simp[G,↓K,Qj,Q,z,Nb b1,Nb b2,H];exact (no Ba).symm
   cases E:b.sec with
   |true=>simp[G,↓K,Qj,Q,z,Nb b1,Nb b2,H,E,x8];exact (no Ak).symm
   |false =>
    simp[G,↓K,Qj,Q,z,Nb b1,Nb b2,H,E,R,x8];exact X (by simp[H,E]) _ _ A6 Du (by simp)
  ·have no:Wm g true B=false→ky j g C A B=2:=λh=>I (by simp[Wa,h])
   have X:Wm g true B=true→∀(D:M9) (y:List LObj),lk D 3=.ptr 0 0→lk D 95=.agg [.i A.buf,.i A.at_,.i A.size,.i B.buf,.i B.at_,.i B.size]→lk D 96=.i (1+1)→Nx D [] (gG++y):=λh D y T gE gF =>
    U _ _ _ ⟨N-1,J,1+1,rfl,J,T,gE,by rw[gF];rfl,Ab,K y,λ_=>gK J,λ_=>h⟩
   simp[G,V,R,↓K,Qj];have Y:=z9f g C A B B Z;rw[Qj,Pc.f]at Y;refine Nt Y (bors_self _ Ej) ?_;cases F:Wv g B with
   |false=>simp;exact (no (by simp[Wm,F])).symm
   |true =>
   obtain⟨n,Q,z,s1,s2,s3,s4,s5⟩:=z8l F;have b1:=znb (Sx z);have b2:=zxd (Sx z);have gD:=zpb z;have hW:Wm g true B=(!decide ((Ns g n).kind=1)&&((Ns g n).sec==true)):=by simp[Wm,F,Q]
   rw[hW]at no X;generalize Ns g n=b at *;by_cases H:b.kind=1
   ·simp[G,↓K,Qj,Q,z,Nb b1,Nb b2,H];exact (no Ba).symm
   cases E:b.sec with
   |false=>simp[G,↓K,Qj,Q,z,Nb b1,Nb b2,H,E,x8];exact (no Ak).symm
   |true =>
    simp[G,↓K,Qj,Q,z,Nb b1,Nb b2,H,E,R,x8];exact X (by simp[H,E]) _ _ A6 Du (by simp)
  ·simp[R];unfold ky;rw[H7];have gZ:((List.range j.length).all λi=>mc g (gv j i) (Qm C i))=true:=Jv.2 λgL hj=>gg gL (Kh.1 hj)
   have gV:1≤g.length:=J
   simp[Wa,gH,gV,g2,g3,gK J,gU J];intro gL hj;exact gg gL hj
def Sc(g:List Vr)(d:Int):Bool:=decide (0≤d)&&(decide (d<g.length) && !(gv g d.toNat).sec)
def zin(j:List Vr)(o:Ko):Nl 126 [.lst (N0 j) j.length 3,.agg o.f] (.bool (Sc j o.d)) []:=by
 refine Of.val rfl (Ni r_expand_Public Aa N ?_);by_cases z:0≤o.d
 case neg=>simp[z5k,Ko.f,Sc,z]
 by_cases A:o.d<j.length
 case neg=>simp[z5k,Ko.f,Sc,z,A]
 obtain⟨n,B⟩:=Hz z;have g:n<j.length:=J
 have C:=zkw (Tw g);have D:=rh g;simp[z5k,Ko.f,Sc,B,g,Nb C]
def Ty(g:List Vr)(o:Ko)(j z:Pc):Pc:=if Sc g o.d=true then j else z
def xx(g:List Vr)(o:Ko):Int:=if Sc g o.d=true then 16 else 40
def ze4(g:List Vr)(o:Ko)(C:List Bf)(D:List Pc)(z A:Pc):Nl 59 [.lst (N0 g) g.length 3,.agg o.f,.agg (Qj C D z A)] (.tup [.i (xx g o),.agg (Ty g o z A).f]) []:=by
 refine Of.val rfl (Ni r_expand_Base Aa N ?_);have j:o.f=[.i o.kind,.i o.d,.i o.e,.i o.a,.i o.b,.i o.c,.u o.imm]:=rfl;simp[zfh,j];rw[←j];refine Nt (zin g o) (bors_self _ (by simp[dats,LV.dat,Rg,j])) ?_;cases B:Sc g o.d with
 |true=>simp[Qj,Pc.f,xx,Ty,B]
 |false=>simp[Qj,Pc.f,xx,Ty,B]
def mg(j:List Vr)(o:Ko)(B:List Bf)(C:List Pc)(z A:Pc)(deep g:Int):Bool :=
 Wa j B C z A&&(decide (1≤g)&&(decide (0≤deep)&&(decide (deep≤4)&&decide (g≤(Ty j o z A).size))))
def zm2(D:List Vr)(o:Ko)(j:List Bf)(C:List Pc)(z A:Pc)(deep g:Int)(hv:D.length≤1000000)(K:j.length≤9223372036854775807) :
  Nl 58 [.lst (N0 D) D.length 3,.agg o.f,.agg (Qj j C z A),.i deep,.i g] (.bool (mg D o j C z A deep g)) []:=by
 refine Of.val rfl (Ni r_expand_Ready Aa N ?_);have H:o.f=[.i o.kind,.i o.d,.i o.e,.i o.a,.i o.b,.i o.c,.u o.imm]:=rfl;have B:Qj j C z A=[.lst (Qc j) j.length 3,.lst (Vp C) C.length 3,.i z.buf,.i z.at_,.i z.size,.i A.buf,.i A.at_,.i A.size]:=rfl;simp[zdz,B,H];rw[←B];refine Nt (zjo D j C z A hv K) (bors_self _ (by simp[dats,LV.dat,Rg,zap])) ?_;cases E:Wa D j C z A with
 |false=>simp[ky,E,mg]
 |true =>
 by_cases F:1≤g
 case neg=>simp[ky,E,mg,F]
 by_cases G:0≤deep
 case neg=>simp[ky,E,mg,F,G]
 by_cases I:deep≤4
 case neg=>simp[ky,E,mg,F,G,I]
 simp[ky,E,F,G,I,B];refine⟨λh=>J,λh=>J,λh=>J,?_⟩;rw[←H,←B];refine Nt (ze4 D o j C z A) (bors_self _ (by simp[dats,LV.dat,Rg,zap,H])) ?_;simp[Pc.f,mg,E,F,G,I]
section
def zah:LC:=(.ops [.m 18 0,.m 19 0,.N 20 19,.f 21 0 20,.l 22 21,.m 23 1,.m 24 2,.m 25 3,.m 26 4,.m 27 5,.m 28 6,.m 29 7,.m 30 8,.z 31 (.build [(.i 0),(.i 0),(.i 0),(.i 0),(.i 0),(.i 0),(.i 0),(.u 0)] [(0,1,.t 23),(1,1,.t 24),(2,1,.t 25),(3,1,.t 26),(4,1,.t 27),(5,1,.t 28),(6,1,.t 29),(7,1,.t 30)]),.z 32 (.buildSl 8 1 [(.i 0),(.i 0),(.i 0),(.i 0),(.i 0),(.i 0),(.i 0),(.u 0)] [(0,8,.t 31)]),.a 33 8 22 32,.N 34 18,.f 35 0 34,.S 1 35 33])
def r_expand_Emit_put:Ng Tryz.prog 131=some ⟨36,zah.r,[]⟩:=Aa
def z8c:LC:=(.ops [.m 6 0,.m 7 1,.m 8 2,.z 9 (.w 131 [.t 6,.k 1,.t 7,.k (-1),.k (-1),.k (-1),.k (-1),.k 0,.t 8])])
def r_expand_Emit_Const:Ng Tryz.prog 69=some ⟨10,z8c.r,[]⟩:=Aa
def z90:LC:=(.ops [.m 6 0,.m 7 1,.m 8 2,.z 9 (.w 131 [.t 6,.k 2,.t 7,.k (-1),.t 8,.k (-1),.k (-1),.k 0,.c (.u 0)])])
def r_expand_Emit_Move:Ng Tryz.prog 110=some ⟨10,z90.r,[]⟩:=Aa
def z9l:LC:=(.ops [.m 10 0,.m 11 1,.m 12 2,.m 13 3,.m 14 4,.z 15 (.w 131 [.t 10,.t 11,.t 12,.k (-1),.t 13,.t 14,.k (-1),.k 0,.c (.u 0)])])
def r_expand_Emit_Two:Ng Tryz.prog 108=some ⟨16,z9l.r,[]⟩:=Aa
def z8a:LC:=(.ops [.m 10 0,.m 11 1,.m 12 2,.m 13 3,.m 14 4,.z 15 (.cvInt .u64 (.t 14)),.z 16 (.w 131 [.t 10,.t 11,.t 12,.k (-1),.t 13,.k (-1),.k (-1),.k 0,.t 15])])
def r_expand_Emit_Shift:Ng Tryz.prog 107=some ⟨17,z8a.r,[]⟩:=Aa
def za3:LC:=(.ops [.m 10 0,.m 11 1,.m 12 2,.m 13 3,.m 14 4,.z 15 (.w 131 [.t 10,.k 10,.t 11,.t 12,.t 13,.t 14,.k (-1),.k 0,.c (.u 0)])])
def r_expand_Emit_Mul:Ng Tryz.prog 132=some ⟨16,za3.r,[]⟩:=Aa
def z8j:LC:=(.ops [.m 14 0,.m 15 1,.m 16 2,.m 17 3,.m 18 4,.m 19 5,.m 20 6,.z 21 (.w 131 [.t 14,.t 15,.t 16,.t 17,.t 18,.t 19,.t 20,.k 0,.c (.u 0)])])
def r_expand_Emit_Carry:Ng Tryz.prog 104=some ⟨22,z8j.r,[]⟩:=Aa
def z9n:LC:=(.ops [.m 10 0,.m 11 1,.m 12 3,.m 13 4,.m 14 2,.z 15 (.w 131 [.t 10,.k 13,.t 11,.k (-1),.t 12,.t 13,.t 14,.k 0,.c (.u 0)])])
def r_expand_Emit_Sel:Ng Tryz.prog 113=some ⟨16,z9n.r,[]⟩:=Aa
def z94:LC:=(.q [.x 7 2] (.ops [.m 10 0,.m 11 1,.m 12 3,.f 13 0 7,.l 14 13,.f 15 1 7,.l 16 15,.m 17 4,.c 18 .add 3 16 17,.z 19 (.cvInt .u64 (.t 18)),.z 20 (.w 131 [.t 10,.k 14,.t 11,.k (-1),.t 12,.k (-1),.k (-1),.t 14,.t 19])]))
def r_expand_Emit_Load:Ng Tryz.prog 70=some ⟨21,z94.r,[]⟩:=Aa
def z8f:LC:=(.q [.x 6 1] (.ops [.m 10 0,.m 11 2,.m 12 4,.f 13 0 6,.l 14 13,.f 15 1 6,.l 16 15,.m 17 3,.c 18 .add 3 16 17,.z 19 (.cvInt .u64 (.t 18)),.z 20 (.w 131 [.t 10,.k 15,.k (-1),.k (-1),.t 11,.t 12,.k (-1),.t 14,.t 19])]))
def r_expand_Emit_Store:Ng Tryz.prog 109=some ⟨21,z8f.r,[]⟩:=Aa
def z57:LC:=(.seq (.q [.m 7 1,.b 8 .lss 3 7 1] (.cond (.t 8) .ret .skip)) (.q [.m 9 0,.N 10 9,.f 11 1 10,.l 12 11,.m 6 12] (.q [.m 13 0,.m 14 6,.m 15 1,.z 16 (.cvInt .u64 (.t 15)),.z 17 (.w 131 [.t 13,.k 16,.t 14,.k (-1),.k (-1),.k (-1),.k (-1),.k 0,.t 16])] (.q [.m 18 0,.N 19 18,.f 20 1 19,.l 21 20,.b 22 .add 3 21 1,.N 23 18,.f 24 1 23,.S 1 24 22] (.q [.m 25 2,.m 26 6,.z 27 (.callV (.t 25) [.t 26])] (.q [.m 28 0,.N 29 28,.f 30 1 29,.l 31 30,.b 32 .sub 3 31 1,.N 33 28,.f 34 1 33,.S 1 34 32] (.ops [.m 35 0,.z 36 (.w 131 [.t 35,.k 17,.k (-1),.k (-1),.k (-1),.k (-1),.k (-1),.k 0,.c (.u 0)])])))))))
def r_expand_Emit_Loop:Ng Tryz.prog 73=some ⟨37,z57.r,[]⟩:=Aa
def z96:LC:=(.q [.x 3 0,.x 4 1,.x 5 2] (.ops [.l 6 3,.f 7 2 4,.l 8 7,.z 9 (.mkFunc 133 [] [.t 3,.t 4,.t 5]),.V 10 73 6 8 9]))
def r_expand_Emit_Fill:Ng Tryz.prog 72=some ⟨11,z96.r,[]⟩:=Aa
def z7j:LC:=(.ops [.l 5 1,.L 6 3 2,.m 7 0,.l 8 3,.z 9 (.w 109 [.t 5,.t 6,.t 7,.k 0,.t 8])])
def r_expand_Emit_Fill_1:Ng Tryz.prog 133=some ⟨10,z7j.r,[]⟩:=Aa
def zgq:LC:=(.q [.x 3 0,.z 6 (.alloc [(.i 0),(.i 0),(.i 0)])] (.q [.f 7 0 3,.l 8 7,.f 9 1 3,.l 10 9,.m 11 1,.c 12 .add 3 10 11,.m 13 2,.z 14 (.build [(.i 0),(.i 0),(.i 0)] [(0,1,.t 8),(1,1,.t 12),(2,1,.t 13)]),.S 3 6 14] .ret))
def r_expand_Part:Ng Tryz.prog 68=some ⟨15,zgq.r,[.cellN 6 3]⟩:=Aa
section emit
variable {G : M7} {K : LV → M7 → Prop} {e : Nat} {ops : List Lo} {deep : Int}
def zow{st:Nat}{v:LV}{L:List Lo}(M:G[e]?=some (.cells [v,.i deep] st))(O:Qn 0 G v 8 ops.length (Qh ops))(V:ops.length≤1000000)
  (k:∀(z:LV) (j:M7),z.cells=some [z]→j[e]?=some (.cells [v,.i deep] st)→Ny (j.set e (.cells [z,.i deep] (st+1))) e (ops++L) deep→Kp e G (j.set e (.cells [z,.i deep] (st+1)))→(∀(q:Nat) (g:LObj),(∀R m k st,g≠LObj.dyn R m 8 k st)→G[q]?=some g→j[q]?=some g)→Y z j):Ps G 8 v L.length (Qh L) Y:=by
 have X:e<G.length:=(Hu.1 M).1;refine Qn.push2 O J J J (bg L) (Tu L) λz j B D E Q T=>?_
 have A:∀(q:Nat) (g:LObj),(∀R m k st,g≠LObj.dyn R m 8 k st)→G[q]?=some g→j[q]?=some g:=λq g ho C=>by
  have F:=(Hu.1 C).1;rw[D q F (λZ r=>?_)]
  ·exact C
  ·obtain⟨R,m,k,st,P⟩:=O.row r;rw[C]at P;exact ho _ _ _ _ (Option.some.inj P)
 have H:=A e _ (λ_ _ _ _ q=>Ew) M;have I:e<j.length:=(Hu.1 H).1;refine k z j B.cells H ⟨st+1,z,H0 I,?_⟩ ⟨B7,λq g C ho U=>?_⟩ A
 ·rw[zo7,H9];exact B.set_cells H
 ·rw[Hw (Ne.symm C)];exact A q g ho U
def o8{d a b c:Int}(h:Ny G e ops deep)(E:ops.length≤1000000)(k:∀g,Ny g e (ops++[⟨z,d,B,a,b,c,V,U⟩]) deep→Kp e G g→K (.tup []) g) :
  Ot (.fn 131) [.ptr e 0,.i z,.i d,.i B,.i a,.i b,.i c,.i V,.u U] G K:=by
 obtain⟨st,v,j,F⟩:=h;have H:e<G.length:=(Hu.1 j).1;refine Ni r_expand_Emit_put Aa N ?_;have A:∀x,Kp e G (G++x):=λx=>Kp.app' e G x
 have C:∀x:List LObj,(G++x)[e]?=some (.cells [v,.i deep] st):=λx=>(Nh H).trans j
 simp[zah,j];refine zow (L:=[⟨z,d,B,a,b,c,V,U⟩]) (C _) F.push_end E λP Q D I M O _=>?_
 simp[-LV.cells,D,I];exact k _ M ((A _).trans O)
def Xs{d:Int}{n:UInt64}(h:Ny G e ops deep)(j:ops.length≤1000000)(k:∀g,Ny g e (ops++[cK d n]) deep→Kp e G g→K (.tup []) g):Ot (.fn 69) [.ptr e 0,.i d,.u n] G K:=by
 refine Ni r_expand_Emit_Const Aa N ?_;simp[z8c];refine o8 h j λg z A=>?_
 simpa using k g z A
def zdn{d a:Int}(h:Ny G e ops deep)(j:ops.length≤1000000)(k:∀g,Ny g e (ops++[Qv d a]) deep→Kp e G g→K (.tup []) g):Ot (.fn 110) [.ptr e 0,.i d,.i a] G K:=by
 refine Ni r_expand_Emit_Move Aa N ?_;simp[z90];refine o8 h j λg z A=>?_
 simpa using k g z A
def Y6{d a b:Int}(h:Ny G e ops deep)(j:ops.length≤1000000)(k:∀g,Ny g e (ops++[M8 z d a b]) deep→Kp e G g→K (.tup []) g):Ot (.fn 108) [.ptr e 0,.i z,.i d,.i a,.i b] G K:=by
 refine Ni r_expand_Emit_Two Aa N ?_;simp[z9l];refine o8 h j λg A B=>?_
 simpa using k g A B
def z8n{d a:Int}(h:Ny G e ops deep)(j:ops.length≤1000000)(k:∀g,Ny g e (ops++[Q6 z d a B]) deep→Kp e G g→K (.tup []) g):Ot (.fn 107) [.ptr e 0,.i z,.i d,.i a,.i B] G K:=by
 refine Ni r_expand_Emit_Shift Aa N ?_;simp[z8a];refine o8 h j λg A C=>?_
 simpa using k g A C
def zjr{hi a b:Int}(h:Ny G e ops deep)(j:ops.length≤1000000)(k:∀g,Ny g e (ops++[N7 hi z a b]) deep→Kp e G g→K (.tup []) g):Ot (.fn 132) [.ptr e 0,.i hi,.i z,.i a,.i b] G K:=by
 refine Ni r_expand_Emit_Mul Aa N ?_;simp[za3];refine o8 h j λg A B=>?_
 simpa using k g A B
def z71{d a b c:Int}(h:Ny G e ops deep)(j:ops.length≤1000000)(k:∀g,Ny g e (ops++[Nv z d B a b c]) deep→Kp e G g→K (.tup []) g):Ot (.fn 104) [.ptr e 0,.i z,.i d,.i B,.i a,.i b,.i c] G K:=by
 refine Ni r_expand_Emit_Carry Aa N ?_;simp[z8j];refine o8 h j λg A C=>?_
 simpa using k g A C
def zof{d c a b:Int}(h:Ny G e ops deep)(j:ops.length≤1000000)(k:∀g,Ny g e (ops++[Oc d c a b]) deep→Kp e G g→K (.tup []) g):Ot (.fn 113) [.ptr e 0,.i d,.i c,.i a,.i b] G K:=by
 refine Ni r_expand_Emit_Sel Aa N ?_;simp[z9n];refine o8 h j λg z A=>?_
 simpa using k g z A
def Tz{d i:Int}{p:Pc}(C:-1000000000≤p.at_+z∧p.at_+z≤1000000000)(h:Ny G e ops deep)(j:ops.length≤1000000)(k:∀g,Ny g e (ops++[Nj d p i z]) deep→Kp e G g→K (.tup []) g):Ot (.fn 70) [.ptr e 0,.i d,.agg p.f,.i i,.i z] G K:=by
 refine Ni r_expand_Emit_Load Aa N ?_;simp[z94,Pc.f]
 repeat (refine⟨J,?_⟩)
 refine o8 (h.app _) j λg A B=>?_
 simpa using k g A ((Kp.app' _ _ _).trans B)
def Va{i b:Int}{p:Pc}(C:-1000000000≤p.at_+z∧p.at_+z≤1000000000)(h:Ny G e ops deep)(j:ops.length≤1000000)(k:∀g,Ny g e (ops++[Nn p i z b]) deep→Kp e G g→K (.tup []) g):Ot (.fn 109) [.ptr e 0,.agg p.f,.i i,.i z,.i b] G K:=by
 refine Ni r_expand_Emit_Store Aa N ?_;simp[z8f,Pc.f]
 repeat (refine⟨J,?_⟩)
 refine o8 (h.app _) j λg A B=>?_
 simpa using k g A ((Kp.app' _ _ _).trans B)
def zvh{f:Nat}{cap:List LV}(hd:0≤deep∧deep≤100)(h:Ny G e ops deep)(Y:ops.length≤1000000)(Z:z<1→K (.tup []) G)
  (k1:1≤z→∀D,Ny D e (ops++[Tn deep z]) (deep+1)→Kp e G D→Ot (.fn f) (E++.i deep::cap) D λ_ I=>∃g,g.length≤1000000∧Ny I e g (deep+1)∧∀F,Ny F e (g++[T1]) deep→Kp e I F→K (.tup []) F) :
  Ot (.fn 73) [.ptr e 0,.i z,.fn (.func f) E cap] G K:=by
 refine Ni r_expand_Emit_Loop Aa N ?_;by_cases gg:z<1
 ·simpa [z57,gg] using Z gg
 obtain⟨st,v,h1,h2⟩:=id h;simp[z57,gg,h1];refine o8 h Y λD e1 L=>?_
 obtain⟨H,V,A,M⟩:=e1;simp[A];have O:e<D.length:=(Hu.1 A).1;refine⟨J,?_⟩;have j:∀(a:M7) (X:LObj),Kp e a (a.set e X):=λa X=>⟨N,λq o hq _ ho=>by rw[Hw (Ne.symm hq)];exact ho⟩
 have B:=k1 J (D.set e (.cells [V,.i (deep+1)] (H+1))) ⟨H+1,V,H0 O,M.set_cells A⟩ (L.trans (j _ _));refine B.mono λw I hw=>?_
 obtain⟨g,P,e2,k2⟩:=hw;obtain⟨Q,v2,C,R⟩:=e2;simp[C];have T:e<I.length:=(Hu.1 C).1;refine⟨J,?_⟩;refine o8 (deep:=deep) ⟨Q+1,v2,H0 T,R.set_cells C⟩ P λF e3 U=>?_
 simpa using k2 F e3 ((j _ _).trans U)
end emit
end
def z86:LC:=(.q [.m 9 2,.b 10 .add 3 9 1,.m 11 2,.b 12 .add 3 11 2,.m 13 2,.b 14 .add 3 13 3,.m 6 10,.m 7 12,.m 8 14] (.q [.m 15 0,.m 16 8,.z 17 (.w 69 [.t 15,.t 16,.c (.u 3)])] (.q [.m 18 0,.m 19 6,.m 20 2,.m 21 1,.m 22 8,.z 23 (.w 132 [.t 18,.t 19,.t 20,.t 21,.t 22])] (.q [.m 24 0,.m 25 8,.z 26 (.w 69 [.t 24,.t 25,.c (.u 2)])] (.q [.m 27 0,.m 28 2,.m 29 2,.m 30 8,.z 31 (.w 108 [.t 27,.k 7,.t 28,.t 29,.t 30])] (.seq (.q [.K 32 0] (.block 0 (.loop (.q [.b 33 .lss 3 32 5] (.seq (.cond (.t 33) .skip (.exit 0)) (.seq (.block 1 (.q [.m 34 0,.m 35 6,.m 36 7,.m 37 1,.m 38 2,.z 39 (.w 132 [.t 34,.t 35,.t 36,.t 37,.t 38])] (.q [.m 40 0,.m 41 7,.m 42 8,.m 43 7,.z 44 (.w 108 [.t 40,.k 4,.t 41,.t 42,.t 43])] (.ops [.m 45 0,.m 46 6,.m 47 2,.m 48 2,.m 49 7,.z 50 (.w 132 [.t 45,.t 46,.t 47,.t 48,.t 49])])))) (.ops [.b 51 .add 3 32 1,.m 32 51]))))))) (.q [.m 52 0,.m 53 8,.z 54 (.w 69 [.t 52,.t 53,.c (.u 0)])] (.ops [.m 55 0,.m 56 2,.m 57 8,.m 58 2,.z 59 (.w 108 [.t 55,.k 4,.t 56,.t 57,.t 58])]))))))))
def r_montgomery_reckon:Ng Tryz.prog 71=some ⟨60,z86.r,[]⟩:=Aa
def zvm{v:LV}{l:List LV}{n e:Nat}(h:bor F v (.lst l n e)):N9 F v (.lst l n e):=by
 cases v<;>first|exact h|(simp[LV.dat]at h)
def zyr{e:Nat}{ops:List Lo}{deep n r:Int}(hr:0≤r∧r≤1000)(h:Ny F e ops deep)(hl:ops.length≤900000)(k:∀I,Ny I e (ops++Uw n r) deep→Kp e F I→Y (.tup []) I):Ot (.fn 71) [.ptr e 0,.i n,.i r] F Y:=by
 refine Ni r_montgomery_reckon Aa (by simp) ?_;simp[z86]
 repeat (refine⟨J,?_⟩)
 refine Xs h J λG1 Z K=>?_
 simp;refine zjr Z Ab λG2 h2 L=>?_
 simp;refine Xs h2 Ab λG3 h3 M=>?_
 simp;refine Y6 h3 Ab λG4 h4 j=>?_
 simp;have j:=K.trans (L.trans (M.trans j));refine O5 (λR gg I N=>∃i:Nat,gg=[]∧N+i=5∧lk R 0=.ptr e 0∧lk R 1=.i n∧lk R 2=.i r∧lk R 6=.i (r+1)∧lk R 7=.i (r+2)∧lk R 8=.i (r+3)∧lk R 32=.i i∧Ny I e (ops++(mp n r++Ye n r i)) deep∧Kp e F I) (N:=5)
  ⟨0,rfl,J,by simp,by simp,by simp,by simp,by simp,by simp,by simp,by simpa [mp,Ye] using h4,j⟩ ?_
 clear Z h2 h3 h4 K L M j;rintro N R gg G5 ⟨i,rfl,hN,z,A,B,C,D,E,g,h5,O⟩ Nx T;have P:(Ye n r i).length=3*i:=zkd n r i;have Q:(mp n r).length=4:=rfl;by_cases gz:i<5
 ·have g':(i:Int)<5:=J
  simp[z,A,B,C,D,E,g,g'];refine zjr h5 Dc λG6 U G=>?_
  simp[z,A,B,C,D,E,g];refine Y6 U Dc λG7 V H=>?_
  simp[z,A,B,C,D,E,g];refine zjr V Dc λG8 h8 X=>?_
  simp[z,A,B,C,D,E,g];refine⟨J,T _ _ _ ⟨N-1,J,i+1,rfl,J,Ae,As,Ao,Al,At,Ak,by simp,?_,O.trans (G.trans (H.trans X))⟩⟩;rw[zdf];simpa [zqb] using h8
 ·have hi:i=5:=J
  subst hi;simp[z,A,B,C,D,E,g];refine Xs h5 Dc λG6 U G=>?_
  simp[z,A,B,C,D,E,g];refine Y6 U Dc λG7 V H=>?_
  simp;refine k G7 ?_ (O.trans (G.trans H));simpa [Uw] using V
section
def z4z:LC:=(.seq (.draw [(.m 6 0,[]),(.N 7 6,[]),(.f 8 0 7,[]),(.l 9 8,[]),(.m 10 0,[]),(.N 11 10,[]),(.f 12 21 11,[]),(.l 13 12,[]),(.m 14 0,[]),(.N 15 14,[]),(.f 16 22 15,[]),(.l 17 16,[]),(.m 18 1,[]),(.m 19 2,[]),(.z 20 (.w 132 [.t 9,.t 13,.t 17,.t 18,.t 19]),[])]) (.seq (.draw [(.m 21 0,[]),(.N 22 21,[]),(.f 23 0 22,[]),(.l 24 23,[]),(.m 25 0,[]),(.N 26 25,[]),(.f 27 22 26,[]),(.l 28 27,[]),(.m 29 0,[]),(.N 30 29,[]),(.f 31 24 30,[]),(.l 32 31,[]),(.m 33 0,[]),(.N 34 33,[]),(.f 35 22 34,[]),(.l 36 35,[]),(.m 37 0,[]),(.N 38 37,[]),(.f 39 23 38,[]),(.l 40 39,[]),(.m 41 0,[]),(.N 42 41,[]),(.f 43 16 42,[]),(.l 44 43,[]),(.z 45 (.w 104 [.t 24,.k 11,.t 28,.t 32,.t 36,.t 40,.t 44]),[])]) (.seq (.draw [(.m 46 0,[]),(.N 47 46,[]),(.f 48 0 47,[]),(.l 49 48,[]),(.m 50 0,[]),(.N 51 50,[]),(.f 52 22 51,[]),(.l 53 52,[]),(.m 54 0,[]),(.N 55 54,[]),(.f 56 25 55,[]),(.l 57 56,[]),(.m 58 0,[]),(.N 59 58,[]),(.f 60 22 59,[]),(.l 61 60,[]),(.m 62 0,[]),(.N 63 62,[]),(.f 64 19 63,[]),(.l 65 64,[]),(.m 66 0,[]),(.N 67 66,[]),(.f 68 16 67,[]),(.l 69 68,[]),(.z 70 (.w 104 [.t 49,.k 11,.t 53,.t 57,.t 61,.t 65,.t 69]),[])]) (.seq (.draw [(.m 71 0,[]),(.N 72 71,[]),(.f 73 0 72,[]),(.l 74 73,[]),(.m 75 0,[]),(.N 76 75,[]),(.f 77 21 76,[]),(.l 78 77,[]),(.m 79 0,[]),(.N 80 79,[]),(.f 81 21 80,[]),(.l 82 81,[]),(.m 83 0,[]),(.N 84 83,[]),(.f 85 24 84,[]),(.l 86 85,[]),(.z 87 (.w 108 [.t 74,.k 3,.t 78,.t 82,.t 86]),[])]) (.draw [(.m 88 0,[]),(.N 89 88,[]),(.f 90 0 89,[]),(.l 91 90,[]),(.m 92 0,[]),(.N 93 92,[]),(.f 94 19 93,[]),(.l 95 94,[]),(.m 96 0,[]),(.N 97 96,[]),(.f 98 21 97,[]),(.l 99 98,[]),(.m 100 0,[]),(.N 101 100,[]),(.f 102 25 101,[]),(.l 103 102,[]),(.z 104 (.w 108 [.t 91,.k 3,.t 95,.t 99,.t 103]),[])])))))
def r_montgomery_product_sum:Ng Tryz.prog 135=some ⟨105,z4z.r,[]⟩:=Aa
def z50:LC:=(.seq (.draw [(.m 2 0,[]),(.N 3 2,[]),(.f 4 0 3,[]),(.l 5 4,[]),(.m 6 0,[]),(.N 7 6,[]),(.f 8 23 7,[]),(.l 9 8,[]),(.m 10 0,[]),(.N 11 10,[]),(.f 12 13 11,[]),(.L 13 3 12,[]),(.m 14 0,[]),(.N 15 14,[]),(.f 16 10 15,[]),(.f 17 2 16,[]),(.l 18 17,[]),(.z 19 (.w 70 [.t 5,.t 9,.t 13,.k (-1),.t 18]),[])]) (.draw [(.m 20 0,[]),(.N 21 20,[]),(.f 22 0 21,[]),(.l 23 22,[]),(.m 24 0,[]),(.N 25 24,[]),(.f 26 23 25,[]),(.l 27 26,[]),(.m 28 0,[]),(.N 29 28,[]),(.f 30 24 29,[]),(.l 31 30,[]),(.m 32 0,[]),(.N 33 32,[]),(.f 34 23 33,[]),(.l 35 34,[]),(.m 36 0,[]),(.N 37 36,[]),(.f 38 19 37,[]),(.l 39 38,[]),(.m 40 0,[]),(.N 41 40,[]),(.f 42 16 41,[]),(.l 43 42,[]),(.z 44 (.w 104 [.t 23,.k 11,.t 27,.t 31,.t 35,.t 39,.t 43]),[])]))
def r_montgomery_product_top:Ng Tryz.prog 136=some ⟨45,z50.r,[]⟩:=Aa
def z4a:LC:=(.q [.x 2 0] (.seq (.draw [(.l 4 2,[]),(.N 5 4,[]),(.f 6 0 5,[]),(.l 7 6,[]),(.l 8 2,[]),(.N 9 8,[]),(.f 10 18 9,[]),(.l 11 10,[]),(.l 12 2,[]),(.N 13 12,[]),(.f 14 7 13,[]),(.L 15 3 14,[]),(.m 16 1,[]),(.z 17 (.w 70 [.t 7,.t 11,.t 15,.t 16,.k 0]),[])]) (.seq (.draw [(.l 18 2,[]),(.N 19 18,[]),(.f 20 0 19,[]),(.l 21 20,[]),(.l 22 2,[]),(.N 23 22,[]),(.f 24 19 23,[]),(.l 25 24,[]),(.z 26 (.w 69 [.t 21,.t 25,.c (.u 0)]),[])]) (.seq (.draw [(.l 27 2,[]),(.N 28 27,[]),(.f 29 0 28,[]),(.l 30 29,[]),(.l 31 2,[]),(.N 32 31,[]),(.f 33 10 32,[]),(.f 34 2 33,[]),(.l 35 34,[]),(.z 36 (.mkFunc 134 [] [.t 2]),[]),(.V 37 73 30 35 36,[])]) (.q [.l 38 2,.w 39 136 38] (.seq (.draw [(.l 40 2,[]),(.N 41 40,[]),(.f 42 0 41,[]),(.l 43 42,[]),(.l 44 2,[]),(.N 45 44,[]),(.f 46 13 45,[]),(.L 47 3 46,[]),(.l 48 2,[]),(.N 49 48,[]),(.f 50 10 49,[]),(.f 51 2 50,[]),(.l 52 51,[]),(.l 53 2,[]),(.N 54 53,[]),(.f 55 23 54,[]),(.l 56 55,[]),(.z 57 (.w 109 [.t 43,.t 47,.k (-1),.t 52,.t 56]),[])]) (.draw [(.l 58 2,[]),(.N 59 58,[]),(.f 60 0 59,[]),(.l 61 60,[]),(.l 62 2,[]),(.N 63 62,[]),(.f 64 13 63,[]),(.L 65 3 64,[]),(.l 66 2,[]),(.N 67 66,[]),(.f 68 10 67,[]),(.f 69 2 68,[]),(.l 70 69,[]),(.b 71 .add 3 70 1,[]),(.l 72 2,[]),(.N 73 72,[]),(.f 74 24 73,[]),(.l 75 74,[]),(.z 76 (.w 109 [.t 61,.t 65,.k (-1),.t 71,.t 75]),[])])))))))
def r_montgomery_product_times:Ng Tryz.prog 75=some ⟨77,z4a.r,[]⟩:=Aa
def z3n:LC:=(.seq (.draw [(.l 3 1,[]),(.N 4 3,[]),(.f 5 0 4,[]),(.l 6 5,[]),(.l 7 1,[]),(.N 8 7,[]),(.f 9 20 8,[]),(.l 10 9,[]),(.l 11 1,[]),(.N 12 11,[]),(.f 13 4 12,[]),(.L 14 3 13,[]),(.m 15 0,[]),(.z 16 (.w 70 [.t 6,.t 10,.t 14,.t 15,.k 0]),[])]) (.seq (.draw [(.l 17 1,[]),(.N 18 17,[]),(.f 19 0 18,[]),(.l 20 19,[]),(.l 21 1,[]),(.N 22 21,[]),(.f 23 23 22,[]),(.l 24 23,[]),(.l 25 1,[]),(.N 26 25,[]),(.f 27 13 26,[]),(.L 28 3 27,[]),(.m 29 0,[]),(.z 30 (.w 70 [.t 20,.t 24,.t 28,.t 29,.k 0]),[])]) (.seq (.draw [(.l 31 1,[]),(.l 32 1,[]),(.N 33 32,[]),(.f 34 20 33,[]),(.l 35 34,[]),(.l 36 1,[]),(.N 37 36,[]),(.f 38 18 37,[]),(.l 39 38,[]),(.V 40 135 31 35 39,[])]) (.draw [(.l 41 1,[]),(.N 42 41,[]),(.f 43 0 42,[]),(.l 44 43,[]),(.l 45 1,[]),(.N 46 45,[]),(.f 47 13 46,[]),(.L 48 3 47,[]),(.m 49 0,[]),(.l 50 1,[]),(.N 51 50,[]),(.f 52 22 51,[]),(.l 53 52,[]),(.z 54 (.w 109 [.t 44,.t 48,.t 49,.k 0,.t 53]),[])]))))
def r_montgomery_product_times_1:Ng Tryz.prog 134=some ⟨55,z3n.r,[]⟩:=Aa
def z4m:LC:=(.q [.x 1 0] (.q [.l 3 1,.N 4 3,.f 5 10 4,.f 6 2 5,.l 7 6,.m 2 7] (.seq (.draw [(.l 8 1,[]),(.N 9 8,[]),(.f 10 0 9,[]),(.l 11 10,[]),(.l 12 1,[]),(.N 13 12,[]),(.f 14 23 13,[]),(.l 15 14,[]),(.l 16 1,[]),(.N 17 16,[]),(.f 18 13 17,[]),(.L 19 3 18,[]),(.z 20 (.w 70 [.t 11,.t 15,.t 19,.k (-1),.k 0]),[])]) (.seq (.draw [(.l 21 1,[]),(.N 22 21,[]),(.f 23 0 22,[]),(.l 24 23,[]),(.l 25 1,[]),(.N 26 25,[]),(.f 27 21 26,[]),(.l 28 27,[]),(.l 29 1,[]),(.N 30 29,[]),(.f 31 26 30,[]),(.l 32 31,[]),(.l 33 1,[]),(.N 34 33,[]),(.f 35 23 34,[]),(.l 36 35,[]),(.l 37 1,[]),(.N 38 37,[]),(.f 39 17 38,[]),(.l 40 39,[]),(.z 41 (.w 132 [.t 24,.t 28,.t 32,.t 36,.t 40]),[])]) (.seq (.draw [(.l 42 1,[]),(.N 43 42,[]),(.f 44 0 43,[]),(.l 45 44,[]),(.l 46 1,[]),(.N 47 46,[]),(.f 48 20 47,[]),(.l 49 48,[]),(.l 50 1,[]),(.N 51 50,[]),(.f 52 10 51,[]),(.L 53 3 52,[]),(.z 54 (.w 70 [.t 45,.t 49,.t 53,.k (-1),.k 0]),[])]) (.seq (.draw [(.l 55 1,[]),(.N 56 55,[]),(.f 57 0 56,[]),(.l 58 57,[]),(.l 59 1,[]),(.N 60 59,[]),(.f 61 19 60,[]),(.l 62 61,[]),(.z 63 (.w 69 [.t 58,.t 62,.c (.u 0)]),[])]) (.seq (.draw [(.l 64 1,[]),(.l 65 1,[]),(.N 66 65,[]),(.f 67 26 66,[]),(.l 68 67,[]),(.l 69 1,[]),(.N 70 69,[]),(.f 71 20 70,[]),(.l 72 71,[]),(.V 73 135 64 68 72,[])]) (.q [.l 74 1,.N 75 74,.f 76 0 75,.l 77 76,.m 78 2,.b 79 .sub 3 78 1,.z 80 (.mkFunc 137 [] [.t 1]),.V 81 73 77 79 80] (.q [.l 82 1,.w 83 136 82] (.seq (.draw [(.l 84 1,[]),(.N 85 84,[]),(.f 86 0 85,[]),(.l 87 86,[]),(.l 88 1,[]),(.N 89 88,[]),(.f 90 13 89,[]),(.L 91 3 90,[]),(.m 92 2,[]),(.b 93 .sub 3 92 1,[]),(.l 94 1,[]),(.N 95 94,[]),(.f 96 23 95,[]),(.l 97 96,[]),(.z 98 (.w 109 [.t 87,.t 91,.k (-1),.t 93,.t 97]),[])]) (.seq (.draw [(.l 99 1,[]),(.N 100 99,[]),(.f 101 0 100,[]),(.l 102 101,[]),(.l 103 1,[]),(.N 104 103,[]),(.f 105 23 104,[]),(.l 106 105,[]),(.l 107 1,[]),(.N 108 107,[]),(.f 109 13 108,[]),(.L 110 3 109,[]),(.m 111 2,[]),(.b 112 .add 3 111 1,[]),(.z 113 (.w 70 [.t 102,.t 106,.t 110,.k (-1),.t 112]),[])]) (.seq (.draw [(.l 114 1,[]),(.N 115 114,[]),(.f 116 0 115,[]),(.l 117 116,[]),(.l 118 1,[]),(.N 119 118,[]),(.f 120 23 119,[]),(.l 121 120,[]),(.l 122 1,[]),(.N 123 122,[]),(.f 124 23 123,[]),(.l 125 124,[]),(.l 126 1,[]),(.N 127 126,[]),(.f 128 24 127,[]),(.l 129 128,[]),(.z 130 (.w 108 [.t 117,.k 3,.t 121,.t 125,.t 129]),[])]) (.draw [(.l 131 1,[]),(.N 132 131,[]),(.f 133 0 132,[]),(.l 134 133,[]),(.l 135 1,[]),(.N 136 135,[]),(.f 137 13 136,[]),(.L 138 3 137,[]),(.m 139 2,[]),(.l 140 1,[]),(.N 141 140,[]),(.f 142 23 141,[]),(.l 143 142,[]),(.z 144 (.w 109 [.t 134,.t 138,.k (-1),.t 139,.t 143]),[])])))))))))))))
def r_montgomery_product_down:Ng Tryz.prog 76=some ⟨145,z4m.r,[]⟩:=Aa
def z43:LC:=(.seq (.draw [(.l 3 1,[]),(.N 4 3,[]),(.f 5 0 4,[]),(.l 6 5,[]),(.l 7 1,[]),(.N 8 7,[]),(.f 9 20 8,[]),(.l 10 9,[]),(.l 11 1,[]),(.N 12 11,[]),(.f 13 10 12,[]),(.L 14 3 13,[]),(.m 15 0,[]),(.z 16 (.w 70 [.t 6,.t 10,.t 14,.t 15,.k 1]),[])]) (.seq (.draw [(.l 17 1,[]),(.N 18 17,[]),(.f 19 0 18,[]),(.l 20 19,[]),(.l 21 1,[]),(.N 22 21,[]),(.f 23 23 22,[]),(.l 24 23,[]),(.l 25 1,[]),(.N 26 25,[]),(.f 27 13 26,[]),(.L 28 3 27,[]),(.m 29 0,[]),(.z 30 (.w 70 [.t 20,.t 24,.t 28,.t 29,.k 1]),[])]) (.seq (.draw [(.l 31 1,[]),(.l 32 1,[]),(.N 33 32,[]),(.f 34 26 33,[]),(.l 35 34,[]),(.l 36 1,[]),(.N 37 36,[]),(.f 38 20 37,[]),(.l 39 38,[]),(.V 40 135 31 35 39,[])]) (.draw [(.l 41 1,[]),(.N 42 41,[]),(.f 43 0 42,[]),(.l 44 43,[]),(.l 45 1,[]),(.N 46 45,[]),(.f 47 13 46,[]),(.L 48 3 47,[]),(.m 49 0,[]),(.l 50 1,[]),(.N 51 50,[]),(.f 52 22 51,[]),(.l 53 52,[]),(.z 54 (.w 109 [.t 44,.t 48,.t 49,.k 0,.t 53]),[])]))))
def r_montgomery_product_down_1:Ng Tryz.prog 137=some ⟨55,z43.r,[]⟩:=Aa
def z4l:LC:=(.q [.x 2 0,.x 3 1] (.seq (.draw [(.l 4 2,[]),(.N 5 4,[]),(.f 6 0 5,[]),(.l 7 6,[]),(.l 8 2,[]),(.N 9 8,[]),(.f 10 24 9,[]),(.l 11 10,[]),(.z 12 (.w 69 [.t 7,.t 11,.c (.u 0)]),[])]) (.draw [(.l 13 2,[]),(.N 14 13,[]),(.f 15 0 14,[]),(.l 16 15,[]),(.l 17 2,[]),(.N 18 17,[]),(.f 19 10 18,[]),(.f 20 2 19,[]),(.l 21 20,[]),(.z 22 (.mkFunc 180 [] [.t 2,.t 3]),[]),(.V 23 73 16 21 22,[])])))
def r_montgomery_product_less:Ng Tryz.prog 138=some ⟨24,z4l.r,[]⟩:=Aa
def z3y:LC:=(.seq (.draw [(.l 4 1,[]),(.N 5 4,[]),(.f 6 0 5,[]),(.l 7 6,[]),(.l 8 1,[]),(.N 9 8,[]),(.f 10 23 9,[]),(.l 11 10,[]),(.l 12 1,[]),(.N 13 12,[]),(.f 14 13 13,[]),(.L 15 3 14,[]),(.m 16 0,[]),(.z 17 (.w 70 [.t 7,.t 11,.t 15,.t 16,.k 0]),[])]) (.seq (.draw [(.l 18 1,[]),(.N 19 18,[]),(.f 20 0 19,[]),(.l 21 20,[]),(.l 22 1,[]),(.N 23 22,[]),(.f 24 20 23,[]),(.l 25 24,[]),(.l 26 1,[]),(.N 27 26,[]),(.f 28 10 27,[]),(.L 29 3 28,[]),(.m 30 0,[]),(.z 31 (.w 70 [.t 21,.t 25,.t 29,.t 30,.k 0]),[])]) (.seq (.draw [(.l 32 1,[]),(.N 33 32,[]),(.f 34 0 33,[]),(.l 35 34,[]),(.l 36 1,[]),(.N 37 36,[]),(.f 38 22 37,[]),(.l 39 38,[]),(.l 40 1,[]),(.N 41 40,[]),(.f 42 24 41,[]),(.l 43 42,[]),(.l 44 1,[]),(.N 45 44,[]),(.f 46 23 45,[]),(.l 47 46,[]),(.l 48 1,[]),(.N 49 48,[]),(.f 50 20 49,[]),(.l 51 50,[]),(.l 52 1,[]),(.N 53 52,[]),(.f 54 24 53,[]),(.l 55 54,[]),(.z 56 (.w 104 [.t 35,.k 12,.t 39,.t 43,.t 47,.t 51,.t 55]),[])]) (.ops [.l 57 2,.m 58 0,.z 59 (.callV (.t 57) [.t 58])]))))
def r_montgomery_product_less_1:Ng Tryz.prog 180=some ⟨60,z3y.r,[]⟩:=Aa
def z4k:LC:=(.q [.x 1 0] (.q [.l 2 1,.z 3 (.w 138 [.t 2,(.c (.fn (.func 139) [] []))])] (.seq (.draw [(.l 4 1,[]),(.N 5 4,[]),(.f 6 0 5,[]),(.l 7 6,[]),(.l 8 1,[]),(.N 9 8,[]),(.f 10 23 9,[]),(.l 11 10,[]),(.l 12 1,[]),(.N 13 12,[]),(.f 14 13 13,[]),(.L 15 3 14,[]),(.l 16 1,[]),(.N 17 16,[]),(.f 18 10 17,[]),(.f 19 2 18,[]),(.l 20 19,[]),(.z 21 (.w 70 [.t 7,.t 11,.t 15,.k (-1),.t 20]),[])]) (.seq (.draw [(.l 22 1,[]),(.N 23 22,[]),(.f 24 0 23,[]),(.l 25 24,[]),(.l 26 1,[]),(.N 27 26,[]),(.f 28 22 27,[]),(.l 29 28,[]),(.l 30 1,[]),(.N 31 30,[]),(.f 32 26 31,[]),(.l 33 32,[]),(.l 34 1,[]),(.N 35 34,[]),(.f 36 23 35,[]),(.l 37 36,[]),(.l 38 1,[]),(.N 39 38,[]),(.f 40 16 39,[]),(.l 41 40,[]),(.l 42 1,[]),(.N 43 42,[]),(.f 44 24 43,[]),(.l 45 44,[]),(.z 46 (.w 104 [.t 25,.k 12,.t 29,.t 33,.t 37,.t 41,.t 45]),[])]) (.ops [.l 47 1,.z 48 (.mkFunc 140 [] [.t 1]),.W 49 138 47 48])))))
def r_montgomery_product_last:Ng Tryz.prog 77=some ⟨50,z4k.r,[]⟩:=Aa
def z45:LC:=.skip
def r_montgomery_product_last_1:Ng Tryz.prog 139=some ⟨2,z45.r,[]⟩:=Aa
def z3v:LC:=(.seq (.draw [(.l 3 1,[]),(.N 4 3,[]),(.f 5 0 4,[]),(.l 6 5,[]),(.l 7 1,[]),(.N 8 7,[]),(.f 9 22 8,[]),(.l 10 9,[]),(.l 11 1,[]),(.N 12 11,[]),(.f 13 26 12,[]),(.l 14 13,[]),(.l 15 1,[]),(.N 16 15,[]),(.f 17 23 16,[]),(.l 18 17,[]),(.l 19 1,[]),(.N 20 19,[]),(.f 21 22 20,[]),(.l 22 21,[]),(.z 23 (.w 113 [.t 6,.t 10,.t 14,.t 18,.t 22]),[])]) (.draw [(.l 24 1,[]),(.N 25 24,[]),(.f 26 0 25,[]),(.l 27 26,[]),(.l 28 1,[]),(.N 29 28,[]),(.f 30 1 29,[]),(.L 31 3 30,[]),(.m 32 0,[]),(.l 33 1,[]),(.N 34 33,[]),(.f 35 22 34,[]),(.l 36 35,[]),(.z 37 (.w 109 [.t 27,.t 31,.t 32,.k 0,.t 36]),[])]))
def r_montgomery_product_last_2:Ng Tryz.prog 140=some ⟨38,z3v.r,[]⟩:=Aa
def z2e:LC:=(.q [.x 7 0,.x 8 1,.x 9 2,.x 10 3,.x 11 4,.e 14] (.q [.f 19 2 10,.l 20 19,.m 15 20] (.seq (.seq (.draw [(.m 21 15,[]),(.b 22 .lss 3 21 1,[]),(.m 23 22,[]),(.nf 24 23 2 7,[]),(.nl 25 23 24,[]),(.mn 26 23 15,[]),(.n 27 23 (.bin .neq false 3 (.t 25) (.t 26)),[]),(.p 28 23 27,[]),(.m 29 28,[]),(.nf 30 29 2 8,[]),(.nl 31 29 30,[]),(.mn 32 29 15,[]),(.n 33 29 (.bin .neq false 3 (.t 31) (.t 32)),[]),(.p 34 29 33,[]),(.m 35 34,[]),(.nf 36 35 2 9,[]),(.nl 37 35 36,[]),(.mn 38 35 15,[]),(.n 39 35 (.bin .neq false 3 (.t 37) (.t 38)),[]),(.p 40 35 39,[]),(.m 41 40,[]),(.nf 42 41 2 11,[]),(.nl 43 41 42,[]),(.mn 44 41 15,[]),(.n 45 41 (.w 21 [.t 44]),[(.nl 43 41 42,false)]),(.n 46 41 (.bin .lss false 3 (.t 43) (.t 45)),[]),(.p 47 41 46,[]),(.m 48 47,[]),(.mn 49 48 5,[]),(.mn 50 48 6,[]),(.n 51 48 (.w 67 [.t 49,.t 50]),[]),(.n 52 48 (.un .not (.t 51)),[]),(.p 53 48 52,[])]) (.cond (.t 53) (.q [.e 14] .ret) .skip)) (.seq (.draw [(.m 54 5,[]),(.z 55 (.build [.nilSl,(.i 0)] [(1,1,.t 54)]),[]),(.x 56 55,[]),(.L 57 3 7,[]),(.L 58 3 8,[]),(.L 59 3 9,[]),(.L 60 3 10,[]),(.L 61 3 11,[]),(.m 62 15,[]),(.z 16 (.alloc [.nilPtr]),[(.L 61 3 11,false),(.L 60 3 10,false),(.L 59 3 9,false),(.L 58 3 8,false),(.L 57 3 7,false),(.x 56 55,true)]),(.w 63 21 62,[(.z 16 (.alloc [.nilPtr]),true),(.L 61 3 11,false),(.L 60 3 10,false),(.L 59 3 9,false),(.L 58 3 8,false),(.L 57 3 7,false),(.x 56 55,true)]),(.z 64 (.w 68 [.t 61,.k 0,.t 63]),[(.z 16 (.alloc [.nilPtr]),true),(.L 60 3 10,false),(.L 59 3 9,false),(.L 58 3 8,false),(.L 57 3 7,false),(.x 56 55,true)]),(.z 65 (.build [.nilPtr,(.i 0),(.i 0),(.i 0),(.i 0),(.i 0),(.i 0),(.i 0),(.i 0),(.i 0),(.i 0),(.i 0),(.i 0),(.i 0),(.i 0),(.i 0),(.i 0),(.i 0),(.i 0),(.i 0),(.i 0),(.i 0),(.i 0),(.i 0),(.i 0),(.i 0),(.i 0)] [(0,1,.t 56),(1,3,.t 57),(4,3,.t 58),(7,3,.t 59),(10,3,.t 60),(13,3,.t 64)]),[]),(.x 66 65,[(.z 16 (.alloc [.nilPtr]),true),(.L 60 3 10,false),(.L 59 3 9,false),(.L 58 3 8,false),(.L 57 3 7,false),(.x 56 55,true)]),(.S 1 16 66,[])]) (.seq (.seq (.draw [(.l 67 16,[]),(.N 68 67,[]),(.f 69 16 68,[]),(.l 70 16,[]),(.N 71 70,[]),(.f 72 17 71,[]),(.l 73 16,[]),(.N 74 73,[]),(.f 75 18 74,[]),(.l 76 16,[]),(.N 77 76,[]),(.f 78 19 77,[]),(.l 79 16,[]),(.N 80 79,[]),(.f 81 20 80,[]),(.l 82 16,[]),(.N 83 82,[]),(.f 84 21 83,[]),(.l 85 16,[]),(.N 86 85,[]),(.f 87 22 86,[]),(.l 88 16,[]),(.N 89 88,[]),(.f 90 23 89,[]),(.l 91 16,[]),(.N 92 91,[]),(.f 93 24 92,[]),(.l 94 16,[]),(.N 95 94,[]),(.f 96 25 95,[]),(.l 97 16,[]),(.N 98 97,[]),(.f 99 26 98,[]),(.z 100 (.buildSl 1 11 [.nilPtr,.nilPtr,.nilPtr,.nilPtr,.nilPtr,.nilPtr,.nilPtr,.nilPtr,.nilPtr,.nilPtr,.nilPtr] [(0,1,.t 69),(1,1,.t 72),(2,1,.t 75),(3,1,.t 78),(4,1,.t 81),(5,1,.t 84),(6,1,.t 87),(7,1,.t 90),(8,1,.t 93),(9,1,.t 96),(10,1,.t 99)]),[(.l 97 16,false),(.l 94 16,false),(.l 91 16,false),(.l 88 16,false),(.l 85 16,false),(.l 82 16,false),(.l 79 16,false),(.l 76 16,false),(.l 73 16,false),(.l 70 16,false),(.l 67 16,false)]),(.s 101 100,[]),(.K 102 0,[])]) (.block 0 (.loop (.q [.c 103 .lss 3 102 101] (.seq (.cond (.t 103) .skip (.exit 0)) (.seq (.block 1 (.q [.m 104 102,.I 105 1 100 102,.l 106 105,.m 17 104,.m 18 106] (.ops [.m 107 18,.m 108 6,.m 109 17,.c 110 .add 3 108 109,.N 111 107,.S 1 111 110]))) (.ops [.b 112 .add 3 102 1,.m 102 112]))))))) (.seq (.draw [(.l 113 16,[]),(.N 114 113,[]),(.f 115 0 114,[]),(.l 116 115,[]),(.l 117 16,[]),(.N 118 117,[]),(.f 119 16 118,[]),(.l 120 119,[]),(.z 121 (.w 69 [.t 116,.t 120,.c (.u 0)]),[])]) (.seq (.draw [(.l 122 16,[]),(.N 123 122,[]),(.f 124 0 123,[]),(.l 125 124,[]),(.l 126 16,[]),(.N 127 126,[]),(.f 128 26 127,[]),(.l 129 128,[]),(.L 130 3 10,[]),(.z 131 (.w 70 [.t 125,.t 129,.t 130,.k (-1),.k 0]),[])]) (.seq (.draw [(.l 132 16,[]),(.N 133 132,[]),(.f 134 0 133,[]),(.l 135 134,[]),(.l 136 16,[]),(.N 137 136,[]),(.f 138 26 137,[]),(.l 139 138,[]),(.l 140 16,[]),(.N 141 140,[]),(.f 142 17 141,[]),(.l 143 142,[]),(.V 144 71 135 139 143,[])]) (.seq (.draw [(.l 145 16,[]),(.N 146 145,[]),(.f 147 0 146,[]),(.l 148 147,[]),(.l 149 16,[]),(.N 150 149,[]),(.f 151 13 150,[]),(.L 152 3 151,[]),(.l 153 16,[]),(.N 154 153,[]),(.f 155 16 154,[]),(.l 156 155,[]),(.V 157 72 148 152 156,[])]) (.q [.l 158 16,.N 159 158,.f 160 0 159,.l 161 160,.m 162 15,.z 163 (.mkFunc 74 [] [.t 16]),.V 164 73 161 162 163] (.q [.l 165 16,.w 166 77 165] (.q [.l 167 16,.N 168 167,.f 169 0 168,.l 170 169,.N 171 170,.f 172 0 171,.l 173 172,.m 14 173] .ret))))))))))))
def r_montgomery_Into:Ng Tryz.prog 23=some ⟨174,z2e.r,[.tmp 14]⟩:=Aa
def z8k:LC:=(.q [.l 3 1,.m 4 0,.W 5 75 3 4] (.ops [.l 6 1,.w 7 76 6]))
def r_montgomery_Into_1:Ng Tryz.prog 74=some ⟨8,z8k.r,[]⟩:=Aa
def z7g:LC:=(.q [.F 4] (.q [.m 5 0,.b 6 .geq 3 5 0,.m 7 6,.my 8 7 0,.y 9 7 (.bin .leq true 3 (.t 8) (.k 6)),.q 10 7 9,.m 11 10,.my 12 11 1,.y 13 11 (.bin .geq true 3 (.t 12) (.k 16)),.q 14 11 13,.m 15 14,.my 16 15 1,.y 17 15 (.bin .leq true 3 (.t 16) (.k 50)),.q 18 15 17,.m 4 18] .ret))
def r_montgomery_Allowed:Ng Tryz.prog 67=some ⟨19,z7g.r,[.tmp 4]⟩:=Aa
def zfd{G:M7}{K:LV→M7→Prop}{e:Nat}{ops:List Lo}{deep:Int}{f:Nat}{fst cap:List LV}{B:Fr Lo}(hd:0≤deep∧deep≤100)(h:Ny G e ops deep)(V:ops.length≤900000)(X:B.flat.length≤50000)
  (H:∀(j:M7) (g:List Lo) (E:LV→M7→Prop),Ny j e g (deep+1)→Kp e G j→g.length≤900001→(∀A,Ny A e (g++B.flat) (deep+1)→Kp e j A→E (.tup []) A)→Ot (.fn f) (fst++.i deep::cap) j E)
  (k:∀C,Ny C e (ops++(Oz deep z B).flat) deep→Kp e G C→K (.tup []) C):Ot (.fn 73) [.ptr e 0,.i z,.fn (.func f) fst cap] G K:=by
 refine zvh hd h J (λD=>k G (by rw[V6,H7 D,Jp];exact h) (Kp.refl _ _)) λI j L F=>H j _ _ L F Ab λA M O=>⟨_,Ab,M,λQ T U=>k Q ?_ (F.trans (O.trans U))⟩
 rw[V6,Hx J];simpa using T
section put
variable {G : M7} {K : LV → M7 → Prop} {e P st : Nat} {ops : List Lo} {deep R : Int} {d a b n t : Pc}
def zut{x y:Int}(j:G[P]?=some (.cells (Ue e d a b n t R) st))(g:P≠e)(h:Ny G e ops deep)(X:ops.length≤950000)(k:∀z,Ny z e (ops++Oa R x y) deep→Kp e G z→K (.tup []) z):Ot (.fn 135) [.ptr P 0,.i x,.i y] G K:=by
 refine Ni r_montgomery_product_sum Aa N ?_;unfold Ue at j;simp[z4z,j];refine zjr h J λY I A=>?_
 have B:=A.cells g j;simp[B];refine z71 I Ab λZ L C=>?_
 have D:=C.cells g B;simp[D];refine z71 L Ab λG3 M E=>?_
 have F:=E.cells g D;simp[F];refine Y6 M Ab λG4 O H=>?_
 have Q:=H.cells g F;simp[Q];refine Y6 O Ab λT U V=>?_
 simp;refine k T (by simpa [Oa] using U) (A.trans (C.trans (E.trans (H.trans V))))
def Z2(H:-1000000≤t.at_∧t.at_≤1000000)(I:0≤n.size∧n.size≤1000000)(g:G[P]?=some (.cells (Ue e d a b n t R) st))(j:P≠e)(h:Ny G e ops deep)(L:ops.length≤900000)(k:∀z,Ny z e (ops++O6 t n.size R) deep→Kp e G z→K (.tup []) z):Ot (.fn 136) [.ptr P 0] G K:=by
 refine Ni r_montgomery_product_top Aa N ?_;unfold Ue at g;simp[z50,g];refine Tz (p:=t) J h J λM B A=>?_
 have C:=A.cells j g;simp[C];refine z71 B Ab λD E F=>?_
 simp;refine k D (by simpa [O6] using E) (A.trans F)
def zy1(ha:-1000000≤a.at_∧a.at_≤1000000)(ht:-1000000≤t.at_∧t.at_≤1000000)(I:G[g]?=some (.cells [.ptr P 0] j))(B:g≠e)(C:G[P]?=some (.cells (Ue e d a b n t R) st))(A:P≠e)(h:Ny G e ops deep)(hl:ops.length≤900001)(k:∀F,Ny F e (ops++Ud a t R z) deep→Kp e G F→K (.tup []) F):Ot (.fn 134) [.i z,.ptr g 0] G K:=by
 refine Ni r_montgomery_product_times_1 Aa N ?_;have T:=C;unfold Ue at C;simp[z3n,I,C];refine Tz (p:=a) J h J λG1 U D=>?_
 have L:=D.cells B I;have V:=D.cells A T;have M:=D.cells A C;simp[L,M];refine Tz (p:=t) J U Ab λG2 X E=>?_
 have O:=E.cells B L;have Y:=E.cells A V;have Q:=E.cells A M;simp[O,Q];refine zut Y A X Ab λG3 Z H=>?_
 have z3:=H.cells B O;have p3:=H.cells A Q;simp[z3,p3];refine Va (p:=t) J Z E4 λG4 h4 k4=>?_
 simp;refine k G4 (by simpa [Ud] using h4) (D.trans (E.trans (H.trans k4)))
def im(hn:-1000000≤n.at_∧n.at_≤1000000)(ht:-1000000≤t.at_∧t.at_≤1000000)(I:G[g]?=some (.cells [.ptr P 0] j))(B:g≠e)(C:G[P]?=some (.cells (Ue e d a b n t R) st))(A:P≠e)(h:Ny G e ops deep)(hl:ops.length≤900001)(k:∀F,Ny F e (ops++Uv n t R z) deep→Kp e G F→K (.tup []) F):Ot (.fn 137) [.i z,.ptr g 0] G K:=by
 refine Ni r_montgomery_product_down_1 Aa N ?_;have T:=C;unfold Ue at C;simp[z43,I,C];refine Tz (p:=n) J h J λG1 U D=>?_
 have L:=D.cells B I;have V:=D.cells A T;have M:=D.cells A C;simp[L,M];refine Tz (p:=t) J U Ab λG2 X E=>?_
 have O:=E.cells B L;have Y:=E.cells A V;have Q:=E.cells A M;simp[O,Q];refine zut Y A X Ab λG3 Z H=>?_
 have z3:=H.cells B O;have p3:=H.cells A Q;simp[z3,p3];refine Va (p:=t) J Z E4 λG4 h4 k4=>?_
 simp;refine k G4 (by simpa [Uv] using h4) (D.trans (E.trans (H.trans k4)))
def zzs{i:Int}(hd:0≤deep∧deep≤50)(ha:-1000000≤a.at_∧a.at_≤1000000)(hb:-1000000≤b.at_∧b.at_≤1000000)(M:-1000000≤t.at_∧t.at_≤1000000)(hn:0≤n.size∧n.size≤1000000)(z:G[P]?=some (.cells (Ue e d a b n t R) st))(g:P≠e)(h:Ny G e ops deep)(hl:ops.length≤800000)
  (k:∀E,Ny E e (ops++(T9 a b t n.size R deep i).flat) deep→Kp e G E→K (.tup []) E):Ot (.fn 75) [.ptr P 0,.i i] G K:=by
 refine Ni r_montgomery_product_times Aa N ?_;have hQ:=z;unfold Ue at z;have F:=(Hu.1 z).1;have le:e<G.length:=Aq
 have z0:(G++[LObj.cells [.ptr P 0] 0])[G.length]?=some (.cells [.ptr P 0] 0):=Il;have q0:(G++[LObj.cells [.ptr P 0] 0])[P]?=_:=(Nh F).trans hQ;have p0:(G++[LObj.cells [.ptr P 0] 0])[P]?=_:=(Nh F).trans z;have h0:=h.app [LObj.cells [.ptr P 0] 0];have k0:=Kp.app' e G [LObj.cells [.ptr P 0] 0];have j:G.length≠e:=J
 simp[z4a,↓Nh F,z];generalize G++[LObj.cells [.ptr P 0] 0]=G0 at *;generalize G.length=gz at *;refine Tz (p:=b) J h0 J λG1 h1 A=>?_
 have O:=A.cells j z0;have q1:=A.cells g q0;have Q:=A.cells g p0;simp[O,Q];refine Xs h1 Ab λG2 h2 C=>?_
 have H:=C.cells j O;have T:=C.cells g q1;have U:=C.cells g Q;simp[H,U];refine zfd (fst:=[]) (cap:=[.ptr gz 0]) (B:=Nd (Ud a t R deep)) J h2 Ab (by rw[flat_frL];simp[Ud,Oa]) (λG3 V K' h3 X l3 Y=>?_) λG5 h5 D=>?_
 ·rw[flat_frL]at Y;exact zy1 ha M (X.cells j H) j (X.cells g T) g h3 l3 Y
 have Z:=D.cells j H;have q5:=D.cells g T;have p5:=D.cells g U;simp[Z,p5];have gg:(Oz deep n.size (Nd (Ud a t R deep))).flat.length≤100:=by rw[V6];split<;>simp[flat_frL,Ud,Oa]
 refine Z2 M hn q5 g h5 Ab λG6 h6 I=>?_
 have z6:=I.cells j Z;have p6:=I.cells g p5;simp[z6,p6];refine Va (p:=t) J h6 (by simp[O6];omega) λG7 h7 L=>?_
 have z7:=L.cells j z6;have p7:=L.cells g p6;simp[z7,p7]
 repeat (refine⟨J,?_⟩)
 refine Va (p:=t) J h7 (by simp[O6];omega) λG8 h8 k8=>?_
 simp;refine k G8 ?_ (k0.trans (A.trans (C.trans (D.trans (I.trans (L.trans k8))))));unfold T9;rw[P8,P8,flat_frL,flat_frL];simpa using h8
end put
end
section
section put
variable {G : M7} {K : LV → M7 → Prop} {e P st : Nat} {ops : List Lo} {deep R : Int} {d a b n t : Pc}
def wg(hd:0≤deep∧deep≤50)(L:-1000000≤n.at_∧n.at_≤1000000)(ht:-1000000≤t.at_∧t.at_≤1000000)(hn:0≤n.size∧n.size≤1000000)(C:G[P]?=some (.cells (Ue e d a b n t R) st))(g:P≠e)(h:Ny G e ops deep)(hl:ops.length≤800000)
  (k:∀M,Ny M e (ops++(Ul n t n.size R deep).flat) deep→Kp e G M→K (.tup []) M):Ot (.fn 76) [.ptr P 0] G K:=by
 refine Ni r_montgomery_product_down Aa N ?_;have hQ:=C;unfold Ue at C;have O:=(Hu.1 C).1;have le:e<G.length:=Aq
 have z0:(G++[LObj.cells [.ptr P 0] 0])[G.length]?=some (.cells [.ptr P 0] 0):=Il;have q0:(G++[LObj.cells [.ptr P 0] 0])[P]?=_:=(Nh O).trans hQ;have p0:(G++[LObj.cells [.ptr P 0] 0])[P]?=_:=(Nh O).trans C;have h0:=h.app [LObj.cells [.ptr P 0] 0];have k0:=Kp.app' e G [LObj.cells [.ptr P 0] 0];have j:G.length≠e:=J
 simp[z4m,↓Nh O,C];generalize G++[LObj.cells [.ptr P 0] 0]=G0 at *;generalize G.length=gG at *;refine Tz (p:=t) J h0 J λG1 h1 D=>?_
 have z1:=D.cells j z0;have q1:=D.cells g q0;have p1:=D.cells g p0;simp[z1,p1];refine zjr h1 Ab λG2 h2 E=>?_
 have z2:=E.cells j z1;have q2:=E.cells g q1;have p2:=E.cells g p1;simp[z2,p2];refine Tz (p:=n) J h2 Ab λG3 h3 F=>?_
 have z3:=F.cells j z2;have q3:=F.cells g q2;have p3:=F.cells g p2;simp[z3,p3];refine Xs h3 Ab λG4 h4 H=>?_
 have z4:=H.cells j z3;have q4:=H.cells g q3;have p4:=H.cells g p3;simp[z4,p4];refine zut q4 g h4 Ab λG5 h5 I=>?_
 have Q:=I.cells j z4;have q5:=I.cells g q4;have p5:=I.cells g p4;simp[Q,p5]
 repeat (refine⟨J,?_⟩)
 refine zfd (fst:=[]) (cap:=[.ptr gG 0]) (B:=Nd (Uv n t R deep)) J h5 E4 (by rw[flat_frL];simp[Uv,Oa]) (λG6 gD K' T z l6 hk=>?_) λG6 T z=>?_
 ·rw[flat_frL]at hk;exact im L ht (z.cells j Q) j (z.cells g q5) g T l6 hk
 have z6:=z.cells j Q;have q6:=z.cells g q5;have p6:=z.cells g p5;simp[z6,p6];have gE:(Oz deep (n.size-1) (Nd (Uv n t R deep))).flat.length≤100:=by rw[V6];split<;>simp[flat_frL,Uv,Oa]
 refine Z2 ht hn q6 g T E4 λG7 h7 U=>?_
 have z7:=U.cells j z6;have p7:=U.cells g p6;simp[z7,p7]
 repeat (refine⟨J,?_⟩)
 refine Va (p:=t) J h7 D5 λG8 h8 V=>?_
 have z8:=V.cells j z7;have p8:=V.cells g p7;simp[z8,p8]
 repeat (refine⟨J,?_⟩)
 refine Tz (p:=t) J h8 D5 λG9 h9 X=>?_
 have z9:=X.cells j z8;have p9:=X.cells g p8;simp[z9,p9];refine Y6 h9 D5 λgF Y A=>?_
 have Z:=A.cells j z9;have gg:=A.cells g p9;simp[Z,gg];refine Va (p:=t) J Y D5 λgz gA gC=>?_
 simp;refine k gz ?_ (k0.trans (D.trans (E.trans (F.trans (H.trans (I.trans (z.trans (U.trans (V.trans (X.trans (A.trans gC)))))))))));unfold Ul;rw[P8,P8,flat_frL,flat_frL];simpa using gA
def zzm{y f:Nat}{cap:List LV}{x:List Lo}(hn:-1000000≤n.at_∧n.at_≤1000000)(ht:-1000000≤t.at_∧t.at_≤1000000)(U:G[g]?=some (.cells [.ptr P 0] j))(D:g≠e)(Z:G[y]?=some (.cells [.fn (.func f) [] cap] A))(C:y≠e)(O:G[P]?=some (.cells (Ue e d a b n t R) st))(E:P≠e)(h:Ny G e ops deep)(hl:ops.length≤900001)
  (F:∀(H:M7) (B:List Lo) (V:LV→M7→Prop),Ny H e B deep→Kp e G H→B.length≤900010→(∀M,Ny M e (B++x) deep→Kp e H M→V (.tup []) M)→Ot (.fn f) (.i z::cap) H V)
  (k:∀Q,Ny Q e (ops++(Ub n t R z++x)) deep→Kp e G Q→K (.tup []) Q):Ot (.fn 180) [.i z,.ptr g 0,.ptr y 0] G K:=by
 refine Ni r_montgomery_product_less_1 Aa N ?_;unfold Ue at O;simp[z3y,U,O];refine Tz (p:=t) J h J λH h1 I=>?_
 have X:=I.cells D U;have y1:=I.cells C Z;have Y:=I.cells E O;simp[X,Y];refine Tz (p:=n) J h1 Ab λM h2 L=>?_
 have z2:=L.cells D X;have y2:=L.cells C y1;have p2:=L.cells E Y;simp[z2,p2];refine z71 h2 Ab λG3 h3 T=>?_
 have y3:=T.cells C y2;simp[y3];refine F G3 _ _ h3 (I.trans (L.trans T)) Ab λG4 h4 k4=>?_
 simp;refine k G4 (by simpa [Ub] using h4) (I.trans (L.trans (T.trans k4)))
def zvo{f:Nat}{cap:List LV}{x:List Lo}(hx:x.length≤10)(hd:0≤deep∧deep≤50)(L:-1000000≤n.at_∧n.at_≤1000000)(ht:-1000000≤t.at_∧t.at_≤1000000)(D:G[P]?=some (.cells (Ue e d a b n t R) st))(j:P≠e)(h:Ny G e ops deep)(hl:ops.length≤800000)
  (E:∀(F:M7) (g:List Lo) (M:LV→M7→Prop),Ny F e g (deep+1)→Kp e G F→g.length≤900010→(∀O,Ny O e (g++x) (deep+1)→Kp e F O→M (.tup []) O)→Ot (.fn f) (.i deep::cap) F M)
  (k:∀Q,Ny Q e (ops++(Wf n t n.size R deep x).flat) deep→Kp e G Q→K (.tup []) Q):Ot (.fn 138) [.ptr P 0,.fn (.func f) [] cap] G K:=by
 refine Ni r_montgomery_product_less Aa N ?_;have hQ:=D;unfold Ue at D;have T:=(Hu.1 D).1;have le:e<G.length:=Aq
 have z0:(G++[LObj.cells [.ptr P 0] 0,LObj.cells [.fn (.func f) [] cap] 0])[G.length]?=some (.cells [.ptr P 0] 0):=N
 have y0:(G++[LObj.cells [.ptr P 0] 0,LObj.cells [.fn (.func f) [] cap] 0])[G.length+1]?=some (.cells [.fn (.func f) [] cap] 0):=N
 have q0:(G++[LObj.cells [.ptr P 0] 0,LObj.cells [.fn (.func f) [] cap] 0])[P]?=_:=(Nh T).trans hQ;have p0:(G++[LObj.cells [.ptr P 0] 0,LObj.cells [.fn (.func f) [] cap] 0])[P]?=_:=(Nh T).trans D;have h0:=h.app [LObj.cells [.ptr P 0] 0,LObj.cells [.fn (.func f) [] cap] 0];have V:=Kp.app' e G [LObj.cells [.ptr P 0] 0,LObj.cells [.fn (.func f) [] cap] 0];have z:G.length≠e:=J
 have A:G.length+1≠e:=J
 simp[z4l,↓Nh T,D];generalize G++[LObj.cells [.ptr P 0] 0,LObj.cells [.fn (.func f) [] cap] 0]=G0 at *;generalize G.length+1=y at *;generalize G.length=gg at *;refine Xs h0 J λF h1 C=>?_
 have X:=C.cells z z0;have y1:=C.cells A y0;have q1:=C.cells j q0;have p1:=C.cells j p0;simp[X,p1];refine zfd (fst:=[]) (cap:=[.ptr gg 0,.ptr y 0]) (B:=Nd (Ub n t R deep++x)) J h1 Ab (by rw[flat_frL];simp[Ub];omega) (λG3 Y M h3 I l3 Z=>?_) λG5 h5 k5=>?_
 ·rw[flat_frL]at Z;exact zzm L ht (I.cells z X) z (I.cells A y1) A (I.cells j q1) j h3 l3 (λG4 H K4 h4 k4 l4 U=>E G4 H K4 h4 (V.trans (C.trans (I.trans k4))) l4 U) Z
 simp;refine k G5 ?_ (V.trans (C.trans k5));unfold Wf;rw[P8,flat_frL];simpa using h5
def tg(hd:0≤deep∧deep≤50)(gz:-1000000≤d.at_∧d.at_≤1000000)(z:-1000000≤n.at_∧n.at_≤1000000)(Q:-1000000≤t.at_∧t.at_≤1000000)(hn:0≤n.size∧n.size≤1000000)(A:G[P]?=some (.cells (Ue e d a b n t R) st))(g:P≠e)(h:Ny G e ops deep)(hl:ops.length≤700000)
  (k:∀F,Ny F e (ops++(Yc d n t n.size R deep).flat) deep→Kp e G F→K (.tup []) F):Ot (.fn 77) [.ptr P 0] G K:=by
 refine Ni r_montgomery_product_last Aa N ?_;have hQ:=A;unfold Ue at A;have H:=(Hu.1 A).1;have le:e<G.length:=Aq
 have z0:(G++[LObj.cells [.ptr P 0] 0])[G.length]?=some (.cells [.ptr P 0] 0):=Il;have T:(G++[LObj.cells [.ptr P 0] 0])[P]?=_:=(Nh H).trans hQ;have p0:(G++[LObj.cells [.ptr P 0] 0])[P]?=_:=(Nh H).trans A;have h0:=h.app [LObj.cells [.ptr P 0] 0];have k0:=Kp.app' e G [LObj.cells [.ptr P 0] 0];have j:G.length≠e:=J
 simp[z4k,↓Nh H,A];generalize G++[LObj.cells [.ptr P 0] 0]=G0 at *;generalize G.length=gA at *;have hL:∀x:List Lo,x.length≤10→(Wf n t n.size R deep x).flat.length≤100:=λx hx=>by
  unfold Wf;rw[P8,flat_frL,V6];split<;>simp[flat_frL,Ub];omega
 refine zvo (x:=[]) N hd z Q T g h0 J (λU V K' I B l1 L=>?_) λU I B=>?_
 ·refine Ni r_montgomery_product_last_1 Aa N ?_;simp[z45];exact L U (by simpa using I) (Kp.refl _ _)
 have X:=B.cells j z0;have q1:=B.cells g T;have Y:=B.cells g p0;have l1:=hL [] N;simp[X,Y];refine Tz (p:=t) J I Ab λG2 h2 C=>?_
 have Z:=C.cells j X;have q2:=C.cells g q1;have p2:=C.cells g Y;simp[Z,p2];refine z71 h2 Ab λG3 h3 D=>?_
 have z3:=D.cells j Z;have q3:=D.cells g q2;have p3:=D.cells g p2;simp[z3,p3];refine zvo (x:=[Oc (R+6) (R+10) (R+7) (R+6),Nn d deep 0 (R+6)]) N hd z Q q3 g h3 Ab (λG4 gg K' M E l4 L=>?_) λG4 M E=>?_
 ·refine Ni r_montgomery_product_last_2 Aa N ?_;have z4:=E.cells j z3;have p4:=E.cells g p3;simp[z3v,z4,p4];refine zof M J λG5 h5 O=>?_
  have z5:=O.cells j z4;have p5:=O.cells g p4;simp[z5,p5];refine Va (p:=d) J h5 Ab λG6 h6 k6=>?_
  simp;exact L G6 (by simpa using h6) (O.trans k6)
 simp;refine k G4 ?_ (k0.trans (B.trans (C.trans (D.trans E))));unfold Yc;rw[P8,P8,flat_frL];simpa using M
end put
end
section
def ie(k:Int):Int:=if k<1 then 0 else k+2
def xf(deep g:Int):Bool:=decide (0≤deep)&&(decide (deep≤6)&&(decide (16≤g)&&decide (g≤50)))
def z4v{G:M7}{K:LV→M7→Prop}{n:Int}(j:n≤1000000000)(k:K (.i (ie n)) G):Ot (.fn 21) [.i n] G K:=by
 refine Ni r_montgomery_Need k_montgomery_Need N ?_;unfold ie at k;by_cases g:n<1
 ·rw[H7 g]at k;simpa [z32,g] using k
 ·rw[Hx g]at k;simp[z32,g];exact⟨J,k⟩
def z74{G:M7}{K:LV→M7→Prop}{a b:Int}(k:K (.bool (xf a b)) G):Ot (.fn 67) [.i a,.i b] G K:=by
 refine Ni r_montgomery_Allowed Aa N ?_;unfold xf at k;by_cases g:0≤a<;>by_cases j:a≤6<;>by_cases z:16≤b<;>by_cases A:b≤50<;>simpa [z7g,g,j,z,A] using k
def z6f{G:M7}{K:LV→M7→Prop}{p:Pc}(h:-1000000000≤p.at_+z∧p.at_+z≤1000000000)(k:K (.agg (Pc.f ⟨p.buf,p.at_+z,B⟩)) (G++[LObj.cells p.f 0,LObj.cells [.i p.buf,.i (p.at_+z),.i B] 1])):Ot (.fn 68) [.agg p.f,.i z,.i B] G K:=by
 refine Ni r_expand_Part Aa N ?_;simp[zgq,Pc.f];exact⟨J,by simpa [Pc.f] using k⟩
def bt{G:M7}{K:LV→M7→Prop}{e:Nat}{ops:List Lo}{deep:Int}{f:Nat}{fst cap:List LV}{B:Fr Lo}(hd:0≤deep∧deep≤100)(h:Ny G e ops deep)(V:ops.length≤900000)(X:B.flat.length≤50000)
  (H:∀(j:M7) (g:List Lo) (E:LV→M7→Prop),Ny j e g (deep+1)→Kp e G j→g.length≤ops.length+1→(∀A,Ny A e (g++B.flat) (deep+1)→Kp e j A→E (.tup []) A)→Ot (.fn f) (fst++.i deep::cap) j E)
  (k:∀C,Ny C e (ops++(Oz deep z B).flat) deep→Kp e G C→K (.tup []) C):Ot (.fn 73) [.ptr e 0,.i z,.fn (.func f) fst cap] G K:=by
 refine zvh hd h J (λD=>k G (by rw[V6,H7 D,Jp];exact h) (Kp.refl _ _)) λI j L F=>H j _ _ L F N λA M O=>⟨_,Ab,M,λQ T U=>k Q ?_ (F.trans (O.trans U))⟩
 rw[V6,Hx J];simpa using T
section put
variable {G : M7} {K : LV → M7 → Prop} {e P st : Nat} {ops : List Lo} {deep R : Int} {d a b n t : Pc}
def zop{p:Pc}{x:Int}(hd:0≤deep∧deep≤50)(hp:-1000000≤p.at_∧p.at_≤1000000)(h:Ny G e ops deep)(hl:ops.length≤800000)
  (k:∀g,Ny g e (ops++(S5 p x deep).flat) deep→Kp e G g→K (.tup []) g):Ot (.fn 72) [.ptr e 0,.agg p.f,.i x] G K:=by
 refine Ni r_expand_Emit_Fill Aa N ?_;have le:e<G.length:=Aq
 have D:(G++[LObj.cells [.ptr e 0] 0,LObj.cells p.f 0,LObj.cells [.i x] 0])[G.length]?=some (.cells [.ptr e 0] 0):=N
 have E:(G++[LObj.cells [.ptr e 0] 0,LObj.cells p.f 0,LObj.cells [.i x] 0])[G.length+1]?=some (.cells p.f 0):=N
 have F:(G++[LObj.cells [.ptr e 0] 0,LObj.cells p.f 0,LObj.cells [.i x] 0])[G.length+2]?=some (.cells [.i x] 0):=N
 have H:=h.app [LObj.cells [.ptr e 0] 0,LObj.cells p.f 0,LObj.cells [.i x] 0];have I:=Kp.app' e G [LObj.cells [.ptr e 0] 0,LObj.cells p.f 0,LObj.cells [.i x] 0];have j:G.length≠e:=J
 have z:G.length+1≠e:=J
 have A:G.length+2≠e:=J
 unfold Pc.f at E F D H I;simp[z96,Pc.f];generalize G++[LObj.cells [.ptr e 0] 0,LObj.cells [.i p.buf,.i p.at_,.i p.size] 0,LObj.cells [.i x] 0]=G0 at *;generalize G.length+2=w at *;generalize G.length+1=y at *;generalize G.length=gg at *;refine zfd (fst:=[]) (cap:=[.ptr gg 0,.ptr y 0,.ptr w 0]) (B:=Nd [Nn p deep 0 x]) J H J Ce (λG3 L K' O C l3 M=>?_) λQ T U=>?_
 ·rw[flat_frL]at M;refine Ni r_expand_Emit_Fill_1 Aa N ?_;have V:=C.cells j D;have X:=C.cells z E;have Y:=C.cells A F;simp[z7j,V,X,Y];refine Va (p:=p) J O J λZ h4 k4=>?_
  simp;exact M Z h4 k4
 simp;exact k Q T (I.trans U)
def zze{i:Int}(hd:0≤deep∧deep≤50)(L:-1000000≤a.at_∧a.at_≤1000000)(M:-1000000≤b.at_∧b.at_≤1000000)(A:-1000000≤n.at_∧n.at_≤1000000)(E:-1000000≤t.at_∧t.at_≤1000000)(F:0≤n.size∧n.size≤1000000)(H:G[g]?=some (.cells [.ptr P 0] j))(B:g≠e)(I:G[P]?=some (.cells (Ue e d a b n t R) st))(z:P≠e)(h:Ny G e ops deep)(Y:ops.length≤700000)
  (k:∀C,Ny C e (ops++((T9 a b t n.size R deep i).cat (Ul n t n.size R deep)).flat) deep→Kp e G C→K (.tup []) C):Ot (.fn 74) [.i i,.ptr g 0] G K:=by
 refine Ni r_montgomery_Into_1 Aa N ?_;simp[z8k,H];have Z:(T9 a b t n.size R deep i).flat.length≤100:=by
  unfold T9;rw[P8,P8,flat_frL,V6];split<;>simp[flat_frL,Ud,Oa,O6]
 refine zzs hd L M E F I z h J λG1 O D=>?_
 have Q:=D.cells B H;have T:=D.cells z I;simp[Q];refine wg hd A E F T z O Ab λU V X=>?_
 simp;refine k U ?_ (D.trans X);rw[P8];simpa using V
end put
def wr(d a b n w:Pc)(deep R:Int):Bool:=decide (1≤n.size)&&(decide (d.size=n.size)&&(decide (a.size=n.size)&&(decide (b.size=n.size)&&(decide (ie n.size≤w.size)&&xf deep R))))
def zr6(d a b n w:Pc)(deep R:Int):List Lo:=if wr d a b n w deep R=true then (Xz d a b n ⟨w.buf,w.at_,ie n.size⟩ n.size R deep).flat else []
def Vt(d a b n w:Pc)(deep R:Int)(i st:Nat):M7 :=
 [.cells [.i d.buf,.i d.at_,.i n.size] 0,.cells [.i a.buf,.i a.at_,.i n.size] 0,.cells [.i b.buf,.i b.at_,.i n.size] 0,.cells [.i n.buf,.i n.at_,.i n.size] 0,.cells [.i w.buf,.i w.at_,.i w.size] 0,.cells [.nilSl,.i deep] 0,.cells [.ptr 9 0] 1,
  .cells [.i w.buf,.i w.at_,.i w.size] 0,.cells [.i w.buf,.i w.at_,.i (ie n.size)] 1,
  .cells [.ptr 5 0,.i d.buf,.i d.at_,.i n.size,.i a.buf,.i a.at_,.i n.size,.i b.buf,.i b.at_,.i n.size,.i n.buf,.i n.at_,.i n.size,.i w.buf,.i w.at_,.i (ie n.size),.i (if 0<i then R else 0),.i (if 1<i then R+1 else 0),.i (if 2<i then R+2 else 0),.i (if 3<i then R+3 else 0),.i (if 4<i then R+4 else 0),.i (if 5<i then R+5 else 0),.i (if 6<i then R+6 else 0),.i (if 7<i then R+7 else 0),.i (if 8<i then R+8 else 0),.i (if 9<i then R+9 else 0),.i (if 10<i then R+10 else 0)] st,
  .dyn [.ptr 9 16,.ptr 9 17,.ptr 9 18,.ptr 9 19,.ptr 9 20,.ptr 9 21,.ptr 9 22,.ptr 9 23,.ptr 9 24,.ptr 9 25,.ptr 9 26] 11 1 0 0]
def zfk{d a b n w:Pc}{deep R:Int}(gg:-1000000≤d.at_∧d.at_≤1000000)(ha:-1000000≤a.at_∧a.at_≤1000000)(hb:-1000000≤b.at_∧b.at_≤1000000)(M:-1000000≤n.at_∧n.at_≤1000000)(hw:-1000000≤w.at_∧w.at_≤1000000)(hn:n.size≤1000000) :
  O1 23 [.agg d.f,.agg a.f,.agg b.f,.agg n.f,.agg w.f,.i deep,.i R] (.lst (Qh (zr6 d a b n w deep R)) (zr6 d a b n w deep R).length 8):=by
 refine R7.mk (by simp[LV.dat,Tu]) (Ni r_montgomery_Into Aa (by simp) ?_);have F:wr d a b n w deep R=false→zr6 d a b n w deep R=[]:=λh=>by unfold zr6;rw[h];simp
 by_cases O:n.size<1
 ·rw[F Dh];simp[z2e,Pc.f,O,Qh]
 by_cases L:d.size=n.size
 rotate_left
 ·rw[F Dh];simp[z2e,Pc.f,O,L,Qh]
 by_cases Q:a.size=n.size
 rotate_left
 ·rw[F Dh];simp[z2e,Pc.f,O,L,Q,Qh]
 by_cases X:b.size=n.size
 rotate_left
 ·rw[F Dh];simp[z2e,Pc.f,O,L,Q,X,Qh]
 simp[z2e,Pc.f,O,L,Q,X];refine z4v J ?_;by_cases g5:w.size<ie n.size
 ·rw[F Dh];simp[g5,Qh]
 simp[g5];refine z74 ?_;by_cases T:xf deep R=true
 rotate_left
 ·rw[F (by simp[wr,T])];simp[T,Qh]
 simp[T];refine z4v J ?_;simp;refine z6f (p:=w) J ?_;simp[Pc.f];have hR:16≤R∧R≤50∧0≤deep∧deep≤6:=by simp[xf]at T;omega
 refine O5 (λZ gH G' N=>∃i st:Nat,gH=[]∧N+i=11∧lk Z 6=.i R∧lk Z 10=.ptr 3 0∧lk Z 15=.i n.size∧lk Z 16=.ptr 6 0∧lk Z 100=.dy 10 0∧lk Z 101=.i 11∧lk Z 102=.i i∧G'=Vt d a b n w deep R i st) (N:=11)
  ⟨0,0,rfl,J,by simp,by simp,by simp,by simp,by simp,by simp,by simp,Cb⟩ ?_
 rintro N Z gH G5 ⟨i,st,rfl,hN,E,z,A,C,g,j,H,rfl⟩ Nx D;by_cases gI:i<11
 ·have hi:i=0∨i=1∨i=2∨i=3∨i=4∨i=5∨i=6∨i=7∨i=8∨i=9∨i=10:=J
  rcases hi with rfl|rfl|rfl|rfl|rfl|rfl|rfl|rfl|rfl|rfl|rfl
  all_goals simp[E,z,A,C,g,j,H,Vt]
  ·try (refine⟨J,?_⟩)
   exact D _ _ _ ⟨N-1,J,1,st+1,rfl,J,Ak,Ae,As,Al,Av,Af,by simp,Cb⟩
  ·try (refine⟨J,?_⟩)
   exact D _ _ _ ⟨N-1,J,2,st+1,rfl,J,Ak,Ae,As,Al,Av,Af,by simp,Cb⟩
  ·try (refine⟨J,?_⟩)
   exact D _ _ _ ⟨N-1,J,3,st+1,rfl,J,Ak,Ae,As,Al,Av,Af,by simp,Cb⟩
  ·try (refine⟨J,?_⟩)
   exact D _ _ _ ⟨N-1,J,4,st+1,rfl,J,Ak,Ae,As,Al,Av,Af,by simp,Cb⟩
  ·try (refine⟨J,?_⟩)
   exact D _ _ _ ⟨N-1,J,5,st+1,rfl,J,Ak,Ae,As,Al,Av,Af,by simp,Cb⟩
  ·try (refine⟨J,?_⟩)
   exact D _ _ _ ⟨N-1,J,6,st+1,rfl,J,Ak,Ae,As,Al,Av,Af,by simp,Cb⟩
  ·try (refine⟨J,?_⟩)
   exact D _ _ _ ⟨N-1,J,7,st+1,rfl,J,Ak,Ae,As,Al,Av,Af,by simp,Cb⟩
  ·try (refine⟨J,?_⟩)
   exact D _ _ _ ⟨N-1,J,8,st+1,rfl,J,Ak,Ae,As,Al,Av,Af,by simp,Cb⟩
  ·try (refine⟨J,?_⟩)
   exact D _ _ _ ⟨N-1,J,9,st+1,rfl,J,Ak,Ae,As,Al,Av,Af,by simp,Cb⟩
  ·try (refine⟨J,?_⟩)
   exact D _ _ _ ⟨N-1,J,10,st+1,rfl,J,Ak,Ae,As,Al,Av,Af,by simp,Cb⟩
  ·try (refine⟨J,?_⟩)
   exact D _ _ _ ⟨N-1,J,11,st+1,rfl,J,Ak,Ae,As,Al,Av,Af,by simp,Cb⟩
 ·have hi:i=11:=J
  subst hi;have q0:(Vt d a b n w deep R 11 st)[9]?=some (.cells (Ue 5 d a b n ⟨w.buf,w.at_,ie n.size⟩ R) st):=by simp[Vt,Ue,L,Q,X]
  have e0:Ny (Vt d a b n w deep R 11 st) 5 [] deep:=⟨0,.nilSl,rfl,Qn.nil⟩;have z0:(Vt d a b n w deep R 11 st)[6]?=some (.cells [.ptr 9 0] 1):=rfl;have n0:(Vt d a b n w deep R 11 st)[3]?=some (.cells [.i n.buf,.i n.at_,.i n.size] 0):=rfl;generalize Vt d a b n w deep R 11 st=G0 at *;generalize ht:(⟨w.buf,w.at_,ie n.size⟩:Pc)=t at *;have I:-1000000≤t.at_∧t.at_≤1000000:=by rw[←ht];exact hw
  have U:0≤n.size∧n.size≤1000000:=J
  have p0:=q0;unfold Ue at p0;simp[E,z,A,C,g,j,H,z0,p0];refine Xs e0 (by simp) λG1 h1 Y=>?_
  have z1:=Y.cells Ac z0;have n1:=Y.cells Ac n0;have q1:=Y.cells Ac q0;have p1:=Y.cells Ac p0;simp[E,z,A,C,z1,p1,n1];refine Tz (p:=n) J h1 (by simp) λG2 h2 k2=>?_
  have z2:=k2.cells Ac z1;have q2:=k2.cells Ac q1;have p2:=k2.cells Ac p1;simp[E,z,A,C,z2,p2];refine zyr J h2 (by simp) λG3 h3 k3=>?_
  have z3:=k3.cells Ac z2;have q3:=k3.cells Ac q2;have p3:=k3.cells Ac p2;simp[E,z,A,C,z3,p3];have gA:(Uw (R+10) (R+1)).length≤100:=by rw[Uw];simp[mp,zkd]
  refine zop (p:=t) J I h3 Ab λG4 h4 k4=>?_
  have z4:=k4.cells Ac z3;have q4:=k4.cells Ac q3;have p4:=k4.cells Ac p3;have gC:(S5 t R deep).flat.length≤100:=F7
  simp[E,z,A,C,z4,p4];have gD:(T9 a b t n.size R (deep+1) deep).flat.length≤100:=by
   unfold T9;rw[P8,P8,flat_frL,V6];split<;>simp[flat_frL,Ud,Oa,O6]
  have gE:(Ul n t n.size R (deep+1)).flat.length≤100:=by
   unfold Ul;rw[P8,P8,flat_frL,V6];split<;>simp[flat_frL,Uv,Oa,O6]
  refine bt (fst:=[]) (cap:=[.ptr 6 0]) (B:=(T9 a b t n.size R (deep+1) deep).cat (Ul n t n.size R (deep+1))) J h4 Ab (by rw[P8];simp;omega) (λG5 gz K' h5 V l5 hk=>?_) λG5 h5 V=>?_
  ·exact zze (deep:=deep+1) J ha hb M I U (V.cells Ac z4) Ac (V.cells Ac q4) Ac h5 (by simp at l5;omega) hk
  have z5:=V.cells Ac z4;have q5:=V.cells Ac q4;have gF:(Oz deep n.size ((T9 a b t n.size R (deep+1) deep).cat (Ul n t n.size R (deep+1)))).flat.length≤300:=by
   rw[V6];split
   ·simp
   ·rw[P8];simp;omega
  simp[E,z,A,C,z5];refine tg J gg M I U q5 Ac h5 Ab λG6 h6 k6=>?_
  have z6:=k6.cells Ac z5;have q6:=k6.cells Ac q5;unfold Ue at q6;have hC:zr6 d a b n w deep R=[cK R 0,Nj (R+10) n (-1) 0]++Uw (R+10) (R+1)++((S5 t R deep).flat++((Oz deep n.size ((T9 a b t n.size R (deep+1) deep).cat (Ul n t n.size R (deep+1)))).flat++(Yc d n t n.size R deep).flat)):=by
   unfold zr6;rw[H7 (by simp[wr,L,Q,X,T];omega),ht];unfold Xz;rw[P8,P8,P8,flat_frL]
  obtain⟨gG,v,e1,e2⟩:=h6;simp[-N9,E,z,A,C,z6,q6,e1];rw[hC];simpa using zvm e2.bor
end
def z6v:LC:=(.q [.z 4 (.move (.c (.u 0)))] (.seq (.q [.m 5 1,.b 6 .geq 3 5 0,.m 7 6,.my 8 7 1,.my 9 7 0,.y 10 7 (.lenSl (.t 9)),.y 11 7 (.bin .lss false 3 (.t 8) (.t 10)),.q 12 7 11] (.cond (.t 12) (.q [.m 13 0,.m 14 1,.I 15 1 13 14,.l 16 15,.m 4 16] .ret) .skip)) (.q [.z 4 (.move (.c (.u 0)))] .ret)))
def r_ref02_limb:Ng Tryz.prog 130=some ⟨17,z6v.r,[.tmp 4]⟩:=Aa
def zhf:LC:=(.q [.e 2] (.q [.m 4 0,.s 5 4,.m 3 5] (.seq (.block 0 (.loop (.seq (.q [.m 6 3,.b 7 .gtr 3 6 0,.m 8 7,.my 9 8 0,.my 10 8 3,.y 11 8 (.bin .sub true 3 (.t 10) (.k 1)),.y 12 8 (.ixAddr 1 (.t 9) (.t 11)),.yl 13 8 12,.y 14 8 (.bin .eql true 23 (.t 13) (.c (.u 0))),.q 15 8 14] (.cond (.t 15) .skip (.exit 0))) (.block 1 (.ops [.m 16 3,.b 17 .sub 3 16 1,.m 3 17]))))) (.q [.z 18 (.buildSl 1 0 [] []),.m 19 0,.m 20 3,.z 21 (.slSl 1 (.t 19) none (some (.t 20))),.a 22 1 18 21,.m 2 22] .ret))))
def r_ref02_Trim:Ng Tryz.prog 84=some ⟨23,zhf.r,[.tmp 2]⟩:=Aa
def zep:LC:=(.q [.z 6 (.move (.c (.u 0))),.F 7] (.q [.m 10 0,.m 11 1,.c 12 .add 23 10 11,.m 8 12] (.q [.m 13 8,.m 14 0,.c 15 .lss 23 13 14,.m 9 15] (.seq (.q [.m 16 2] (.cond (.t 16) (.q [.m 17 8,.u 18 .add 23 17 1,.m 8 18] (.ops [.m 19 9,.m 20 19,.mn 21 20 8,.n 22 20 (.bin .eql true 23 (.t 21) (.c (.u 0))),.p 23 20 22,.m 9 23])) .skip)) (.q [.m 24 8,.m 25 9,.m 6 24,.m 7 25] .ret)))))
def r_ref01_Add:Ng Tryz.prog 92=some ⟨26,zep.r,[.tmp 6,.tmp 7]⟩:=Aa
def z3a(a:List UInt64)(i:Int):Nl 130 [LU a,.i i] (.u (if 0≤i then a.getD i.toNat 0 else 0)) []:=by
 refine Of.val rfl (Ni r_ref02_limb Aa N ?_);by_cases g:0≤i<;>by_cases j:i<a.length
 ·have z:i.toNat<a.length:=J
  simp[z6v,g,j,z]
 ·have z:a[i.toNat]?=none:=Ab
  simp[z6v,g,j,z]
 ·simp[z6v,g,j]
 ·simp[z6v,g,j]
def nq(a:List UInt64)(L:a.length≤1048576):Nl 84 [LU a] (.dy 0 0) [RU (O4 (val a))]:=by
 refine Of.row (Ni r_ref02_Trim Aa (by simp) ?_);simp[zhf];refine loop_wp (λG I K z=>I=[]∧K=[]∧z≤a.length∧lk G 0=LU a∧lk G 3=.i z∧val (a.take z)=val a) (N:=a.length) (by simp) ?_;rintro z G I K ⟨rfl,rfl,M,C,D,F⟩;simp at C;have A:(z=0∨a.getD (z-1) 0≠0)→O4 (val a)=a.take z:=by
  intro h;rw[←F];refine toL_val ?_;rcases h with rfl|h
  ·exact .inl (by simp)
  ·by_cases E:z=0
   ·subst E;exact .inl (by simp)
   ·have:z=(z-1)+1:=J
    rw[this,zdw J];exact ui h
 by_cases E:z=0
 ·subst E;have B:=A (.inl rfl);simp at D B;simp[C,D,B,Se];exact⟨0,1,⟨rfl,rfl⟩,by simp⟩
 ·obtain⟨n,rfl⟩:∃n,z=n+1:=⟨z-1,J⟩;have g:n<a.length:=J
  have H:((n:Int)+1-1).toNat=n:=J
  simp[C,D,g,H];refine⟨J,λj=>⟨J,n,J,J,rfl,?_⟩,λj=>⟨J,J,J,?_⟩⟩
  ·rw[←F,zan g];simp[g,j]
  ·have B:=A (.inr (by simpa [g] using j));refine .inr ⟨0,1,1,rfl,?_⟩;rw[B];simp[Lv];omega
def zsb(a b:UInt64):(a≤a+b→decide (a+b+1=0)=(Nr a b true).2)∧(a+b<a→true=(Nr a b true).2):=by
 unfold Nr;refine⟨λh=>?_,λh=>?_⟩
 ·have g:¬a+b<a:=M5.2 h;simp[g]
 ·simp[h]
def z53(a b:UInt64)(c:Bool):Nl 92 [.u a,.u b,.bool c] (.tup [.u (Nr a b c).1,.bool (Nr a b c).2]) []:=by
 refine Of.val rfl (Ni r_ref01_Add Aa N ?_);cases c
 ·simp[zep];simp[Nr,Vc]
 ·simp[zep];simp only[Vc];exact⟨λh=>⟨rfl,((zsb a b).2 h).symm⟩,λh=>⟨rfl,(zsb a b).1 h⟩⟩
def zk8:LC:=(.q [.e 4] (.q [.e 5] (.q [.F 6] (.seq (.q [.K 7 0] (.block 0 (.loop (.seq (.q [.m 9 7,.m 10 0,.s 11 10,.m 12 1,.s 13 12,.z 14 (.maxi true (.t 11) (.t 13)),.c 15 .leq 3 9 14] (.cond (.t 15) .skip (.exit 0))) (.seq (.block 1 (.q [.z 8 (.move (.c (.u 0)))] (.q [.m 19 0,.m 20 7,.W 21 130 19 20,.m 22 1,.m 23 7,.W 24 130 22 23,.m 25 6,.V 26 92 21 24 25,.m 18 26,.X 27 0 18,.X 28 1 18,.m 8 27,.m 6 28] (.ops [.m 29 5,.m 30 8,.z 31 (.buildSl 1 1 [(.u 0)] [(0,1,.t 30)]),.a 32 1 29 31,.m 5 32])))) (.ops [.m 16 7,.b 17 .add 3 16 1,.m 7 17])))))) (.q [.m 33 5,.w 34 84 33,.m 4 34] .ret)))))
def r_ref02_Add:Ng Tryz.prog 81=some ⟨35,zk8.r,[.tmp 4]⟩:=Aa
def zib(a b:List UInt64)(P:a.length≤1000000)(Q:b.length≤1000000):Nl 81 [LU a,LU b] (.dy 0 0) [RU (O4 (val a+val b))]:=by
 refine Of.row (Ni r_ref02_Add Aa (by simp) ?_);simp[zk8];refine O5 (λF M O H=>∃(i:Nat) (c:Bool) (g:List UInt64),M=[]∧H+i=max a.length b.length+1∧lk F 0=LU a∧lk F 1=LU b∧lk F 7=.i i∧lk F 6=.bool c∧Se O (lk F 5) g∧g.length=i ∧
  val g+2^(64*i)*c.toNat=val (a.take i)+val (b.take i)) (N:=max a.length b.length+1) ⟨0,false,[],by simp[Se,val]⟩ ?_
 rintro H F M O ⟨i,c,g,rfl,R,B,z,A,I,G,j,hv⟩ T C;by_cases K:H=0
 ·subst K;have D:¬(i:Int)≤max (a.length:Int) (b.length:Int):=J
  simp[B,z,A,D];rw[z38 J,z38 J]at hv;refine z9x (nq g J) (zyd G.bor) ?_;rw[add_end (m:=i-1) J J J hv];simpa using Se.new
 ·have E:(i:Int)≤max (a.length:Int) (b.length:Int):=J
  simp[B,z,A,E];refine Nt (z3a a i) (by simp) ?_;simp[z,A];refine Nt (z3a b i) (by simp) ?_;simp[I];refine Nt (z53 (a.getD i 0) (b.getD i 0) c) (by simp) ?_;simp;refine zw0 (G.app _) (xs:=[(Nr (a.getD i 0) (b.getD i 0) c).1]) rfl (by simp) J (λU V L _=>?_);simp[A];refine⟨J,C _ _ _ ⟨H-1,J,i+1,(Nr (a.getD i 0) (b.getD i 0) c).2,_,rfl,J,Ao,Ae,by simp,by simp,by simpa using L,Af,vd j hv⟩⟩
def zfc:LC:=(.q [.F 4] (.seq (.q [.K 5 0] (.block 0 (.loop (.seq (.q [.m 8 5,.m 9 0,.s 10 9,.c 11 .lss 3 8 10,.m 12 11,.mn 13 12 5,.mn 14 12 1,.n 15 12 (.lenSl (.t 14)),.n 16 12 (.bin .lss false 3 (.t 13) (.t 15)),.p 17 12 16] (.cond (.t 17) .skip (.exit 0))) (.seq (.block 1 (.q [.z 6 (.move (.c (.u 0))),.z 7 (.move (.c (.u 0)))] (.seq (.q [.m 20 5,.m 21 0,.s 22 21,.c 23 .lss 3 20 22] (.cond (.t 23) (.ops [.m 24 0,.m 25 5,.I 26 1 24 25,.l 27 26,.m 6 27]) .skip)) (.seq (.q [.m 28 5,.m 29 1,.s 30 29,.c 31 .lss 3 28 30] (.cond (.t 31) (.ops [.m 32 1,.m 33 5,.I 34 1 32 33,.l 35 34,.m 7 35]) .skip)) (.q [.m 36 6,.m 37 7,.c 38 .neq 23 36 37] (.cond (.t 38) (.q [.F 4] .ret) .skip)))))) (.ops [.m 18 5,.b 19 .add 3 18 1,.m 5 19])))))) (.q [.z 4 (.move .T)] .ret)))
def r_kit_Natural:Ng Tryz.prog 32=some ⟨39,zfc.r,[.tmp 4]⟩:=Aa
def z62:LC:=(.q [.F 4] (.seq (.q [.m 6 0,.s 7 6,.m 8 1,.s 9 8,.c 10 .neq 3 7 9] (.cond (.t 10) (.q [.F 4] .ret) .skip)) (.seq (.q [.K 5 0] (.block 0 (.loop (.seq (.q [.m 11 5,.m 12 0,.s 13 12,.c 14 .lss 3 11 13] (.cond (.t 14) .skip (.exit 0))) (.seq (.block 1 (.seq (.draw [(.m 17 0,[]),(.m 18 5,[]),(.I 19 1 17 18,[]),(.l 20 19,[]),(.m 21 1,[]),(.m 22 5,[]),(.I 23 1 21 22,[]),(.l 24 23,[]),(.c 25 .neq 23 20 24,[])]) (.cond (.t 25) (.q [.F 4] .ret) .skip))) (.ops [.m 15 5,.b 16 .add 3 15 1,.m 5 16])))))) (.q [.z 4 (.move .T)] .ret))))
def r_kit_Same_uint64:Ng Tryz.prog 53=some ⟨26,z62.r,[.tmp 4]⟩:=Aa
def zma(a b:List UInt64)(Q:a.length≤1000000)(R:b.length≤1000000):Nl 32 [LU a,LU b] (.bool (decide (val a=val b))) []:=by
 refine Of.val rfl (Ni r_kit_Natural Aa (by simp) ?_);simp[zfc];refine O5 (λK P T N=>∃i:Nat,P=[]∧N+i=max a.length b.length∧lk K 0=LU a∧lk K 1=LU b∧lk K 5=.i i∧val (a.take i)=val (b.take i)) (N:=max a.length b.length) ⟨0,by simp⟩ ?_;rintro N K P T ⟨i,rfl,U,z,A,I,hv⟩ V B;have next:a.getD i 0=b.getD i 0→val (a.take (i+1))=val (b.take (i+1)):=λe=>by rw[wv,wv,e,hv]
 have g:a.getD i 0≠b.getD i 0→val a≠val b:=λe L=>e (val_getD L i)
 have C:a.getD i 0=b.getD i 0→(i<a.length∨i<b.length)→∃j,j<N∧j+(i+1)=max a.length b.length∧val (a.take (i+1))=val (b.take (i+1)):=λe h=>⟨N-1,J,J,next e⟩
 by_cases D:i<a.length<;>by_cases E:i<b.length
 ·simp[D,E]at next g C
  simp[z,A,I,D,E];refine⟨λe=>⟨J,?_⟩,g⟩;obtain⟨j,F,G,H⟩:=C e;exact B _ _ _ ⟨j,F,i+1,rfl,G,Ae,As,by simp,H⟩
 ·have M:b[i]?=none:=Ab
  simp[D,M]at next g C
  simp[z,A,I,D,E];refine⟨λe=>⟨J,?_⟩,g⟩;obtain⟨j,F,G,H⟩:=C e;exact B _ _ _ ⟨j,F,i+1,rfl,G,Ae,As,by simp,H⟩
 ·have O:a[i]?=none:=Ab
  simp[E,O]at next g C
  simp[z,A,I,D,E];refine⟨λe=>⟨J,?_⟩,g⟩;obtain⟨j,F,G,H⟩:=C e;exact B _ _ _ ⟨j,F,i+1,rfl,G,Ae,As,by simp,H⟩
 ·simp[z,A,I,D,E];rw[←z38 (a:=a) (n:=i) J,←z38 (a:=b) (n:=i) J,hv]
def zua(a b:List UInt64)(I:a.length≤1000000000):Nl 53 [LU a,LU b] (.bool (decide (a=b))) []:=by
 refine Of.val rfl (Ni r_kit_Same_uint64 Aa (by simp) ?_);by_cases g:a.length=b.length
 ·simp[z62,g];refine O5 (λG H K N=>∃i:Nat,H=[]∧N+i=a.length∧lk G 0=LU a∧lk G 1=LU b∧lk G 5=.i i∧a.take i=b.take i) (N:=a.length) ⟨0,Av⟩ ?_;rintro N G H K ⟨i,rfl,L,A,C,D,F⟩ M E;by_cases O:N=0
  ·have hi:i=a.length:=J
   subst hi;have e:a=b:=by rwa [K7,g,K7]at F
   subst e;simp[A,D]
  ·have hi:i<a.length:=J
   have j:i<b.length:=J
   by_cases B:a[i]=b[i]
   ·simp[A,C,D,hi,j,B];refine⟨J,E _ _ _ ⟨N-1,J,i+1,rfl,J,As,Al,by simp,?_⟩⟩;rw[Jg hi,Jg j,F,B]
   ·have e:a≠b:=λe=>B (by subst e;rfl)
    simp[A,C,D,hi,j,B,e]
 ·have e:a≠b:=λe=>g Ez
  have z:¬(a.length:Int)=b.length:=J
  simp[z62,g,z,e]
def zev:LC:=(.q [.z 6 (.move (.c (.u 0))),.F 7] (.q [.m 10 0,.m 11 1,.c 12 .sub 23 10 11,.m 8 12] (.q [.m 13 0,.m 14 1,.c 15 .lss 23 13 14,.m 9 15] (.seq (.q [.m 16 2] (.cond (.t 16) (.q [.m 17 9,.m 18 17,.mn 19 18 8,.n 20 18 (.bin .eql true 23 (.t 19) (.c (.u 0))),.p 21 18 20,.m 9 21] (.ops [.m 22 8,.u 23 .sub 23 22 1,.m 8 23])) .skip)) (.q [.m 24 8,.m 25 9,.m 6 24,.m 7 25] .ret)))))
def r_ref01_Sub:Ng Tryz.prog 147=some ⟨26,zev.r,[.tmp 6,.tmp 7]⟩:=Aa
def zlb:LC:=(.q [.z 4 (.move (.c (.u 0))),.z 5 (.move (.c (.u 0)))] (.q [.m 12 0,.u 13 .shr 23 12 32,.m 14 0,.u 15 .and 23 14 4294967295,.m 6 13,.m 7 15] (.q [.m 16 1,.u 17 .shr 23 16 32,.m 18 1,.u 19 .and 23 18 4294967295,.m 8 17,.m 9 19] (.q [.m 20 6,.m 21 9,.c 22 .mul 23 20 21,.m 23 7,.m 24 9,.c 25 .mul 23 23 24,.u 26 .shr 23 25 32,.c 27 .add 23 22 26,.m 10 27] (.q [.m 28 7,.m 29 8,.c 30 .mul 23 28 29,.m 31 10,.u 32 .and 23 31 4294967295,.c 33 .add 23 30 32,.m 11 33] (.q [.m 34 6,.m 35 8,.c 36 .mul 23 34 35,.m 37 10,.u 38 .shr 23 37 32,.c 39 .add 23 36 38,.m 40 11,.u 41 .shr 23 40 32,.c 42 .add 23 39 41,.m 43 0,.m 44 1,.c 45 .mul 23 43 44,.m 4 42,.m 5 45] .ret))))))
def r_ref01_Mul:Ng Tryz.prog 91=some ⟨46,zlb.r,[.tmp 4,.tmp 5]⟩:=Aa
def zhw:LC:=(.q [.K 2 0] (.q [.K 3 0] (.seq (.block 0 (.loop (.seq (.q [.m 4 0,.u 5 .gtr 23 4 0] (.cond (.t 5) .skip (.exit 0))) (.seq (.block 1 (.ops [.m 8 3,.b 9 .add 3 8 1,.m 3 9])) (.ops [.m 6 0,.u 7 .shr 23 6 1,.m 0 7]))))) (.q [.m 10 3,.m 2 10] .ret))))
def r_ref01_Bits:Ng Tryz.prog 146=some ⟨11,zhw.r,[.tmp 2]⟩:=Aa
def zre(a b:UInt64):(b≤a→decide (a-b=0)=(Ov a b true).2)∧(a<b→true=(Ov a b true).2):=by
 unfold Ov;refine⟨λh=>?_,λh=>?_⟩
 ·have g:¬a<b:=M5.2 h;simp[g]
 ·simp[h]
def zhl(a b:UInt64)(c:Bool):Nl 147 [.u a,.u b,.bool c] (.tup [.u (Ov a b c).1,.bool (Ov a b c).2]) []:=by
 refine Of.val rfl (Ni r_ref01_Sub Aa N ?_);cases c
 ·simp[zev];simp[Ov,Zh]
 ·simp[zev];simp only[Zh];exact⟨λh=>⟨rfl,((zre a b).2 h).symm⟩,λh=>⟨rfl,(zre a b).1 h⟩⟩
def zi6(a b:UInt64):Nl 91 [.u a,.u b] (.tup [.u (T2 a b),.u (a*b)]) []:=by
 refine Of.val rfl (Ni r_ref01_Mul Aa N ?_);simp[zlb];exact⟨mul_hi a b,zlj a b⟩
def zp5(a:UInt64):Nl 146 [.u a] (.i (Pu a.toNat)) []:=by
 refine Of.val rfl (Ni r_ref01_Bits Aa (by simp) ?_);simp[zhw];refine O5 (λD H K I=>∃(x:UInt64) (i:Nat),H=[]∧I=Pu x.toNat∧lk D 0=.u x∧lk D 3=.i i∧i+Pu x.toNat=Pu a.toNat) (N:=Pu a.toNat) ⟨a,0,by simp⟩ ?_;rintro I D H K ⟨x,i,rfl,rfl,j,z,A⟩ L g;have E:Pu a.toNat≤64:=zpn a.toNat_lt;by_cases B:x=0
 ·subst B;simp[blen_zero]at A;simp[j,z,A]
 ·have F:x.toNat≠0:=λe=>B ((z82 x).2 e)
  have G:(0:UInt64)<x:=by rw[Jm];simp;omega
  have M:=zrg F;have C:(Rd x 1).toNat=x.toNat/2:=by rw[zzf]
  simp[j,z,G];refine⟨J,g _ _ _ ⟨Pu (x.toNat/2),J,Rd x 1,i+1,rfl,by rw[C],by simp,by simp,Gq⟩⟩
def z5a:LC:=(.q [.x 1 0,.e 2] (.seq (.block 0 (.q [.f 4 0 1,.l 5 4,.b 6 .eql 3 5 2,.m 7 6,.nf 8 7 0 1,.nl 9 7 8,.nb 10 7 .eql 3 9 8,.p 11 7 10,.m 12 11,.nf 13 12 0 1,.nl 14 12 13,.nb 15 12 .eql 3 14 9,.p 16 12 15,.m 3 16] (.cond (.t 3) (.q [.f 17 3 1,.l 18 17,.z 19 (.buildSl 1 1 [(.i 0)] [(0,1,.t 18)]),.m 2 19] .ret) (.q [.f 21 0 1,.l 22 21,.b 23 .geq 3 22 3,.m 24 23,.yf 25 24 0 1,.yl 26 24 25,.y 27 24 (.bin .leq true 3 (.t 26) (.k 7)),.q 28 24 27,.m 29 28,.nf 30 29 0 1,.nl 31 29 30,.nb 32 29 .eql 3 31 10,.p 33 29 32,.m 20 33] (.cond (.t 20) (.q [.f 34 3 1,.l 35 34,.f 36 4 1,.l 37 36,.z 38 (.buildSl 1 2 [(.i 0),(.i 0)] [(0,1,.t 35),(1,1,.t 37)]),.m 2 38] .ret) (.q [.f 40 0 1,.l 41 40,.b 42 .eql 3 41 11,.m 43 42,.nf 44 43 0 1,.nl 45 43 44,.nb 46 43 .eql 3 45 12,.p 47 43 46,.m 48 47,.nf 49 48 0 1,.nl 50 48 49,.nb 51 48 .eql 3 50 13,.p 52 48 51,.m 39 52] (.cond (.t 39) (.q [.f 53 3 1,.l 54 53,.f 55 4 1,.l 56 55,.f 57 5 1,.l 58 57,.z 59 (.buildSl 1 3 [(.i 0),(.i 0),(.i 0)] [(0,1,.t 54),(1,1,.t 56),(2,1,.t 58)]),.m 2 59] .ret) (.q [.f 61 0 1,.l 62 61,.b 63 .eql 3 62 14,.m 64 63,.yf 65 64 3 1,.yl 66 64 65,.y 67 64 (.bin .neq true 3 (.t 66) (.k (-1))),.q 68 64 67,.m 60 68] (.cond (.t 60) (.q [.f 69 3 1,.l 70 69,.z 71 (.buildSl 1 1 [(.i 0)] [(0,1,.t 70)]),.m 2 71] .ret) (.q [.f 73 0 1,.l 74 73,.b 75 .eql 3 74 15,.m 76 75,.yf 77 76 3 1,.yl 78 76 77,.y 79 76 (.bin .neq true 3 (.t 78) (.k (-1))),.q 80 76 79,.m 72 80] (.cond (.t 72) (.q [.f 81 3 1,.l 82 81,.f 83 4 1,.l 84 83,.z 85 (.buildSl 1 2 [(.i 0),(.i 0)] [(0,1,.t 82),(1,1,.t 84)]),.m 2 85] .ret) (.q [.f 87 0 1,.l 88 87,.b 89 .eql 3 88 15,.m 86 89] (.cond (.t 86) (.q [.f 90 4 1,.l 91 90,.z 92 (.buildSl 1 1 [(.i 0)] [(0,1,.t 91)]),.m 2 92] .ret) .skip))))))))))))) (.q [.e 2] .ret)))
def r_ref12_Takes:Ng Tryz.prog 143=some ⟨93,z5a.r,[.tmp 2]⟩:=Aa
def z3c:LC:=(.q [.x 1 0,.e 2] (.seq (.block 0 (.q [.f 4 0 1,.l 5 4,.b 6 .eql 3 5 10,.m 7 6,.nf 8 7 0 1,.nl 9 7 8,.nb 10 7 .eql 3 9 11,.p 11 7 10,.m 12 11,.nf 13 12 0 1,.nl 14 12 13,.nb 15 12 .eql 3 14 12,.p 16 12 15,.m 3 16] (.cond (.t 3) (.q [.f 17 1 1,.l 18 17,.f 19 2 1,.l 20 19,.z 21 (.buildSl 1 2 [(.i 0),(.i 0)] [(0,1,.t 18),(1,1,.t 20)]),.m 2 21] .ret) (.q [.f 23 0 1,.l 24 23,.b 25 .eql 3 24 15,.m 26 25,.nf 27 26 0 1,.nl 28 26 27,.nb 29 26 .eql 3 28 17,.p 30 26 29,.m 22 30] (.cond (.t 22) (.q [.e 2] .ret) .skip))))) (.q [.f 31 1 1,.l 32 31,.z 33 (.buildSl 1 1 [(.i 0)] [(0,1,.t 32)]),.m 2 33] .ret)))
def r_ref12_Makes:Ng Tryz.prog 142=some ⟨34,z3c.r,[.tmp 2]⟩:=Aa
def zax:LC:=(.q [.x 3 0,.F 6] (.seq (.q [.m 7 2,.z 8 (.un .not (.t 7))] (.cond (.t 8) (.q [.m 9 1,.b 10 .eql 3 9 (-1),.m 6 10] .ret) .skip)) (.q [.m 11 1,.b 12 .geq 3 11 0,.m 13 12,.my 14 13 1,.yf 15 13 0 3,.yl 16 13 15,.y 17 13 (.bin .lss false 3 (.t 14) (.t 16)),.q 18 13 17,.m 6 18] .ret)))
def r_ref12_field:Ng Tryz.prog 181=some ⟨19,zax.r,[.tmp 6]⟩:=Aa
def z4h:LC:=(.q [.x 2 0,.x 3 1,.F 4] (.q [.f 12 0 3,.l 13 12,.m 5 13] (.seq (.q [.m 14 5,.b 15 .lss 3 14 1,.m 16 15,.mn 17 16 5,.nb 18 16 .gtr 3 17 17,.p 19 16 18] (.cond (.t 19) (.q [.F 4] .ret) .skip)) (.q [.m 20 5,.b 21 .eql 3 20 14,.m 22 21,.mn 23 22 5,.nb 24 22 .eql 3 23 15,.p 25 22 24,.m 6 25] (.q [.m 26 5,.b 27 .neq 3 26 15,.m 28 27,.my 29 28 5,.y 30 28 (.bin .neq true 3 (.t 29) (.k 17)),.q 31 28 30,.m 7 31] (.q [.m 32 5,.b 33 .eql 3 32 10,.m 34 33,.mn 35 34 5,.nb 36 34 .eql 3 35 11,.p 37 34 36,.m 38 37,.mn 39 38 5,.nb 40 38 .eql 3 39 12,.p 41 38 40,.m 8 41] (.q [.m 42 5,.b 43 .neq 3 42 1,.m 44 43,.my 45 44 5,.y 46 44 (.bin .neq true 3 (.t 45) (.k 16)),.q 47 44 46,.m 48 47,.my 49 48 5,.y 50 48 (.bin .neq true 3 (.t 49) (.k 17)),.q 51 48 50,.m 9 51] (.q [.m 52 5,.b 53 .geq 3 52 3,.m 54 53,.my 55 54 5,.y 56 54 (.bin .leq true 3 (.t 55) (.k 7)),.q 57 54 56,.m 58 57,.mn 59 58 5,.nb 60 58 .geq 3 59 10,.mn 61 58 60,.my 62 61 5,.y 63 61 (.bin .leq true 3 (.t 62) (.k 13)),.n 64 58 (.pick (.t 61) (.t 63) .F),.p 65 58 64,.m 66 65,.mn 67 66 5,.nb 68 66 .eql 3 67 15,.p 69 66 68,.m 10 69] (.q [.m 70 5,.b 71 .geq 3 70 11,.m 72 71,.my 73 72 5,.y 74 72 (.bin .leq true 3 (.t 73) (.k 13)),.q 75 72 74,.m 11 75] (.seq (.q [.L 76 3 2,.f 77 1 3,.l 78 77,.m 79 7,.V 80 181 76 78 79,.z 81 (.un .not (.t 80)),.m 82 81,.n 83 82 (.loadN 3 (.t 2)),.nf 84 82 2 3,.nl 85 82 84,.mn 86 82 8,.n 87 82 (.w 181 [.t 83,.t 85,.t 86]),.n 88 82 (.un .not (.t 87)),.p 89 82 88,.m 90 89,.n 91 90 (.loadN 3 (.t 2)),.nf 92 90 3 3,.nl 93 90 92,.mn 94 90 9,.n 95 90 (.w 181 [.t 91,.t 93,.t 94]),.n 96 90 (.un .not (.t 95)),.mn 97 90 96,.my 98 97 6,.my 99 97 98,.yf 100 99 3 3,.yl 101 99 100,.y 102 99 (.bin .eql true 3 (.t 101) (.k (-1))),.y 103 97 (.pick (.t 99) (.t 102) .F),.y 104 97 (.un .not (.t 103)),.n 105 90 (.pick (.t 97) (.t 104) .F),.p 106 90 105,.m 107 106,.n 108 107 (.loadN 3 (.t 2)),.nf 109 107 4 3,.nl 110 107 109,.mn 111 107 10,.n 112 107 (.w 181 [.t 108,.t 110,.t 111]),.n 113 107 (.un .not (.t 112)),.p 114 107 113,.m 115 114,.n 116 115 (.loadN 3 (.t 2)),.nf 117 115 5 3,.nl 118 115 117,.mn 119 115 11,.n 120 115 (.w 181 [.t 116,.t 118,.t 119]),.n 121 115 (.un .not (.t 120)),.p 122 115 121,.m 123 122,.mn 124 123 8,.mn 125 123 124,.yf 126 125 1 3,.yl 127 125 126,.yf 128 125 2 3,.yl 129 125 128,.y 130 125 (.bin .eql false 3 (.t 127) (.t 129)),.n 131 123 (.pick (.t 125) (.t 130) .F),.p 132 123 131] (.cond (.t 132) (.q [.F 4] .ret) .skip)) (.seq (.block 0 (.q [.m 134 6,.m 133 134] (.cond (.t 133) (.seq (.q [.f 135 6 3,.l 136 135,.b 137 .lss 3 136 0,.m 138 137,.nf 139 138 6 3,.nl 140 138 139,.nf 141 138 1 2,.nl 142 138 141,.n 143 138 (.lenSl (.t 142)),.n 144 138 (.bin .geq false 3 (.t 140) (.t 143)),.p 145 138 144,.m 146 145,.mn 147 146 5,.nb 148 146 .eql 3 147 15,.mn 149 146 148,.yf 150 149 1 2,.yl 151 149 150,.yf 152 149 6 3,.yl 153 149 152,.y 154 149 (.ixAddr 3 (.t 151) (.t 153)),.yf 155 149 1 154,.yl 156 149 155,.y 157 149 (.bin .eql true 3 (.t 156) (.k 1)),.n 158 146 (.pick (.t 149) (.t 157) .F),.p 159 146 158] (.cond (.t 159) (.q [.F 4] .ret) .skip)) (.seq (.draw [(.f 160 3 3,[]),(.l 161 160,[]),(.b 162 .neq 3 161 (-1),[]),(.m 163 162,[]),(.nf 164 163 7 3,[]),(.nl 165 163 164,[]),(.nf 166 163 1 2,[]),(.nl 167 163 166,[]),(.nf 168 163 6 3,[]),(.nl 169 163 168,[]),(.n 170 163 (.ixAddr 3 (.t 167) (.t 169)),[]),(.nf 171 163 0 170,[]),(.nl 172 163 171,[]),(.n 173 163 (.cvInt .u64 (.t 172)),[]),(.n 174 163 (.bin .lss false 23 (.t 165) (.t 173)),[]),(.p 175 163 174,[]),(.m 4 175,[])]) .ret)) (.q [.f 177 6 3,.l 178 177,.b 179 .neq 3 178 0,.m 176 179] (.cond (.t 176) (.q [.F 4] .ret) (.q [.m 181 5,.b 182 .eql 3 181 1,.m 180 182] (.cond (.t 180) (.q [.z 4 (.move .T)] .ret) (.q [.m 184 5,.b 185 .eql 3 184 8,.m 186 185,.mn 187 186 5,.nb 188 186 .eql 3 187 9,.p 189 186 188,.m 183 189] (.cond (.t 183) (.q [.f 190 7 3,.l 191 190,.u 192 .geq 23 191 1,.m 193 192,.yf 194 193 7 3,.yl 195 193 194,.y 196 193 (.bin .leq true 23 (.t 195) (.c (.u 63))),.q 197 193 196,.m 4 197] .ret) (.q [.m 199 5,.b 200 .eql 3 199 16,.m 198 200] (.cond (.t 198) (.q [.f 201 7 3,.l 202 201,.u 203 .geq 23 202 1,.m 204 203,.yf 205 204 7 3,.yl 206 204 205,.y 207 204 (.bin .leq true 23 (.t 206) (.c (.u 1048576))),.q 208 204 207,.m 4 208] .ret) .skip))))))))))) (.q [.f 209 7 3,.l 210 209,.u 211 .eql 23 210 0,.m 4 211] .ret))))))))))))
def r_ref12_fields:Ng Tryz.prog 141=some ⟨212,z4h.r,[.tmp 4]⟩:=Aa
def k_ref12_fields:z4h.ok=true:=Aa
def znx:LC:=(.q [.F 4] (.seq (.q [.K 5 0] (.block 0 (.loop (.seq (.q [.m 6 5,.m 7 0,.s 8 7,.c 9 .lss 3 6 8] (.cond (.t 9) .skip (.exit 0))) (.seq (.block 1 (.q [.m 12 0,.m 13 5,.I 14 1 12 13,.l 15 14,.m 16 1,.c 17 .eql 3 15 16] (.cond (.t 17) (.q [.z 4 (.move .T)] .ret) .skip))) (.ops [.m 10 5,.b 11 .add 3 10 1,.m 5 11])))))) (.q [.F 4] .ret)))
def r_ref12_in:Ng Tryz.prog 144=some ⟨18,znx.r,[.tmp 4]⟩:=Aa
def zle:LC:=(.q [.z 2 (.move (.c (.u 0)))] (.seq (.q [.m 3 0] (.cond (.t 3) (.q [.z 2 (.move (.c (.u 1)))] .ret) .skip)) (.q [.z 2 (.move (.c (.u 0)))] .ret)))
def r_ref12_bit:Ng Tryz.prog 149=some ⟨4,zle.r,[.tmp 2]⟩:=Aa
def zh7(k:Int):k<1∨k=1∨k=2∨k=3∨k=4∨k=5∨k=6∨k=7∨k=8∨k=9∨k=10∨k=11∨k=12∨k=13∨k=14∨k=15∨k=16∨k=17∨17<k:=J
def bf(l:List Int):dats (l.map .i)=true:=xa (λ_=>rfl) l
def zdv(o:Lo):O1 143 [.agg o.f] (.lst ((Oy o).map .i) (Oy o).length 1):=by
 refine R7.mk Gt (Ni r_ref12_Takes Aa N ?_);have D:o.f=[.i o.kind,.i o.d,.i o.e,.i o.a,.i o.b,.i o.c,.i o.buf,.u o.imm]:=rfl;rcases zh7 o.kind with h|h|h|h|h|h|h|h|h|h|h|h|h|h|h|h|h|h|h
 case inr.inr.inr.inr.inr.inr.inr.inr.inr.inr.inr.inr.inr.inr.inl|inr.inr.inr.inr.inr.inr.inr.inr.inr.inr.inr.inr.inr.inr.inr.inl =>
  by_cases H:o.a=-1<;>simp[z5a,D,Oy,h,H,N9,bor,LV.dat,dats]
 case inl|inr.inr.inr.inr.inr.inr.inr.inr.inr.inr.inr.inr.inr.inr.inr.inr.inr.inr =>
  have E:o.kind≠2:=J
  have I:¬(3≤o.kind∧o.kind≤7):=J
  have F:o.kind≠8:=J
  have G:o.kind≠9:=J
  have g:o.kind≠10:=J
  have j:o.kind≠11:=J
  have z:o.kind≠12:=J
  have A:o.kind≠13:=J
  have B:o.kind≠14:=J
  have C:o.kind≠15:=J
  by_cases K:3≤o.kind
  ·have L:¬o.kind≤7:=λq=>I ⟨K,q⟩
   simp[z5a,D,Oy,K,L,E,F,G,g,j,z,A,B,C,N9,bor,LV.dat,dats]
  ·simp[z5a,D,Oy,K,E,F,G,g,j,z,A,B,C,N9,bor,LV.dat,dats]
 all_goals simp[z5a,D,Oy,h,N9,bor,LV.dat,dats]
def zed(o:Lo):O1 142 [.agg o.f] (.lst ((Nf o).map .i) (Nf o).length 1):=by
 refine R7.mk Gt (Ni r_ref12_Makes Aa N ?_);have g:o.f=[.i o.kind,.i o.d,.i o.e,.i o.a,.i o.b,.i o.c,.i o.buf,.u o.imm]:=rfl;by_cases j:o.kind=10;· simp[z3c,g,Nf,j,N9,bor,LV.dat,dats]
 by_cases z:o.kind=11;· simp[z3c,g,Nf,z,N9,bor,LV.dat,dats]
 by_cases A:o.kind=12;· simp[z3c,g,Nf,A,N9,bor,LV.dat,dats]
 by_cases B:o.kind=15;· simp[z3c,g,Nf,B,N9,bor,LV.dat,dats]
 by_cases C:o.kind=17;· simp[z3c,g,Nf,C,N9,bor,LV.dat,dats]
 simp[z3c,g,Nf,j,z,A,B,C,N9,bor,LV.dat,dats]
def zmt(g:Int)(x y:LV)(r:Int)(b:Bool):Nl 181 [.agg [.i g,x,y],.i r,.bool b] (.bool (Ri g r b)) []:=by
 refine Of.val rfl (Ni r_ref12_field Aa N ?_);cases b with
 |false=>simp[zax,Ri]
 |true=>by_cases j:0≤r<;>simp[zax,Ri,j]
def zhp(b:Bool):Nl 149 [.bool b] (.u (Oe b)) []:=by
 refine Of.val rfl (Ni r_ref12_bit Aa N ?_);cases b<;>simp[zle,Oe]
def zvc(l:List Int)(n:Int)(H:l.length≤1000000000):Nl 144 [.lst (l.map .i) l.length 1,.i n] (.bool (l.contains n)) []:=by
 refine Of.val rfl (Ni r_ref12_in Aa (by simp) ?_);simp[znx];refine O5 (λE G I N=>∃i:Nat,G=[]∧N+i=l.length∧lk E 0=.lst (l.map .i) l.length 1∧lk E 1=.i n∧lk E 5=.i i∧∀x∈l.take i,¬x=n) (N:=l.length) ⟨0,rfl,J,by simp,by simp,by simp,by simp⟩ ?_;rintro N E G I ⟨i,rfl,K,j,z,A,B⟩ L C;by_cases D:i<l.length
 ·have q:(l.map LV.i)[i]?=some (.i l[i]):=At
  have hm:l[i]∈l:=K8 D;have F:l.take (i+1)=l.take i++[l[i]]:=Jg D;generalize l[i]=x at *;by_cases e:x=n
  ·subst e;simp[j,z,A,D,Nb q,hm]
  ·simp[j,z,A,D,Nb q,e];refine⟨J,C _ _ _ ⟨N-1,J,i+1,rfl,J,Af,Ae,by simp,λy g=>?_⟩⟩;rw[F]at g;rcases Ir.1 g with g|g
   ·exact B y g
   ·simp at g;rw[g];exact e
 ·rw[Im J]at B;have:¬n∈l:=λh=>B n h rfl
  simp[j,z,A,D,this]
def Nk(g:Int)(bs:List Bf)(os:List Lo):List LV:=[.i g,.lst (Qc bs) bs.length 3,.lst (Qh os) os.length 8]
def zj4(g:Int)(j:List Bf)(os:List Lo):dats (Nk g j os)=true:=by simp[Nk,dats,LV.dat,Ts,Tu]
def ztp(g:Int)(j:List Bf)(o:Lo):Bool:=(Ri g o.d (Q0 o.kind)&&(Ri g o.e (Q2 o.kind)&&((Ri g o.a (Rk o.kind) || (Pf o.kind&&decide (o.a=-1)))&&(Ri g o.b (Wl o.kind)&&(Ri g o.c (Wr o.kind)&&(!(Q2 o.kind&&decide (o.d=o.e)) &&
  (if Pf o.kind=true then decide (0≤o.buf)&&(decide (o.buf<j.length)&&(!(decide (o.kind=15)&&decide ((Ns j o.buf.toNat).kind=1))&&(!decide (o.a=-1) || decide (o.imm<iU (Ns j o.buf.toNat).size))))
   else decide (o.buf=0)&&(if o.kind=1 then true else if o.kind=8∨o.kind=9 then decide (1≤o.imm)&&decide (o.imm≤63) else if o.kind=16 then decide (1≤o.imm)&&decide (o.imm≤1048576) else decide (o.imm=0)))))))))
def xu{r:Int}{b:Bool}(g:Ri z r b=false→Y (.bool false) F)(j:Ri z r b=true→Y (.bool true) F):Ot (.fn 181) [.agg [.i z,.lst (Qc Z) Z.length 3,.lst (Qh vX) vX.length 8],.i r,.bool b] F Y:=by
 refine Nt (zmt z _ _ r b) (bors_self _ Et) ?_;cases e:Ri z r b with
 |false=>simpa using g e
 |true=>simpa using j e
set_option maxHeartbeats 4000000 in
def zk1(z:Int)(A:List Bf)(Y:List Lo)(o:Lo):Nl 141 [.agg (Nk z A Y),.agg o.f] (.bool (Qg z A o)) []:=by
 refine Of.val rfl ?_;have I:o.f=[.i o.kind,.i o.d,.i o.e,.i o.a,.i o.b,.i o.c,.i o.buf,.u o.imm]:=rfl;by_cases X:o.kind<1
 ·have K:¬1≤o.kind:=J
  refine Ni r_ref12_fields k_ref12_fields N ?_;simp[z4h,Nk,I,X,K,Qg]
 by_cases L:17<o.kind
 ·have K:¬o.kind≤17:=J
  refine Ni r_ref12_fields k_ref12_fields N ?_;simp[z4h,Nk,I,X,L,K,Qg]
 have Z:1≤o.kind∧o.kind≤17:=J
 have hF:Qg z A o=ztp z A o:=by
  unfold Qg ztp;simp[Z]
 rw[hF];refine Ni r_ref12_fields k_ref12_fields N ?_;unfold ztp;rcases zh7 o.kind with h|h|h|h|h|h|h|h|h|h|h|h|h|h|h|h|h|h|h
 case inl|inr.inr.inr.inr.inr.inr.inr.inr.inr.inr.inr.inr.inr.inr.inr.inr.inr.inr=>omega
 all_goals
  simp[z4h,Nk,I,h,Q0,Q2,Rk,Wl,Wr,Pf];refine xu (λe=>Dp) λM=>?_
  simp;refine xu (λe=>Dp) λO=>?_
  simp
 case inr.inr.inr.inr.inr.inr.inr.inr.inr.inr.inr.inr.inr.inr.inl|inr.inr.inr.inr.inr.inr.inr.inr.inr.inr.inr.inr.inr.inr.inr.inl =>
  refine xu (λB=>?_) λB=>?_
  ·by_cases C:o.a=-1
   case neg=>simp[C,B]
   simp[C];refine xu (λe=>Dp) λD=>?_
   simp;refine xu (λe=>Dp) λE=>?_
   simp;by_cases F:o.buf<0
   ·have P:¬0≤o.buf:=J
    simp[F,P]
   obtain⟨n,G⟩:=Hz (J:0≤o.buf);have H:¬(n:Int)<0:=J
   by_cases j:n<A.length
   ·have q:=Sx j;have Q:=zgp q;have R:=znb q;have T:=zpb j;have g:¬A.length≤n:=J
    by_cases U:(Ns A n).kind=1<;>simp[H,g,G,j,Nb Q,C,Nb R,U,M,O,B,D,E]
   ·have g:A.length≤n:=J
    simp[H,g,G,j]
  ·have C:¬o.a=-1:=λq=>by rw[q]at B;simp[Ri]at B
   simp;refine xu (λe=>Dp) λD=>?_
   simp;refine xu (λe=>Dp) λE=>?_
   simp;by_cases F:o.buf<0
   ·have P:¬0≤o.buf:=J
    simp[F,P]
   obtain⟨n,G⟩:=Hz (J:0≤o.buf);have H:¬(n:Int)<0:=J
   by_cases j:n<A.length
   ·have q:=Sx j;have Q:=zgp q;have R:=znb q;have T:=zpb j;have g:¬A.length≤n:=J
    by_cases U:(Ns A n).kind=1<;>simp[H,g,G,j,Nb Q,C,Nb R,U,M,O,B,D,E]
   ·have g:A.length≤n:=J
    simp[H,g,G,j]
 all_goals
  refine xu (λe=>Dp) λB=>?_
  simp;refine xu (λe=>Dp) λD=>?_
  simp;refine xu (λe=>Dp) λE=>?_
  by_cases F:o.buf=0<;>by_cases V:1≤o.imm<;>simp[M,O,B,D,E,F,V]
  all_goals first|exact⟨λa b=>absurd a b,λa _=>a⟩|(rintro q;rw[q]at V;exact absurd V Ac)
def z56:LC:=(.q [.x 1 0,.K 2 0,.K 3 0] (.seq (.q [.f 15 0 1,.l 16 15,.b 17 .gtr 3 16 64,.m 18 17,.nf 19 18 1 1,.nl 20 18 19,.n 21 18 (.lenSl (.t 20)),.nb 22 18 .gtr 3 21 32,.p 23 18 22,.m 24 23,.nf 25 24 2 1,.nl 26 24 25,.n 27 24 (.lenSl (.t 26)),.nb 28 24 .gtr 3 27 65536,.p 29 24 28] (.cond (.t 29) (.q [.K 2 0,.K 3 3] .ret) .skip)) (.seq (.q [.K 4 0] (.block 0 (.loop (.seq (.q [.m 30 4,.f 31 1 1,.l 32 31,.s 33 32,.c 34 .lss 3 30 33] (.cond (.t 34) .skip (.exit 0))) (.seq (.block 1 (.q [.f 37 1 1,.l 38 37,.m 39 4,.I 40 3 38 39,.f 41 0 40,.l 42 41,.b 43 .gtr 3 42 65536] (.cond (.t 43) (.q [.K 2 0,.K 3 3] .ret) .skip))) (.ops [.m 35 4,.b 36 .add 3 35 1,.m 4 36])))))) (.seq (.q [.f 44 0 1,.l 45 44,.b 46 .lss 3 45 0] (.cond (.t 46) (.q [.K 2 0,.K 3 2] .ret) .skip)) (.seq (.q [.K 5 0] (.block 2 (.loop (.seq (.q [.m 47 5,.f 48 1 1,.l 49 48,.s 50 49,.c 51 .lss 3 47 50] (.cond (.t 51) .skip (.exit 2))) (.seq (.block 3 (.q [.f 54 1 1,.l 55 54,.m 56 5,.I 57 3 55 56,.f 58 0 57,.l 59 58,.b 60 .lss 3 59 1,.m 61 60,.nf 62 61 1 1,.nl 63 61 62,.mn 64 61 5,.n 65 61 (.ixAddr 3 (.t 63) (.t 64)),.nf 66 61 1 65,.nl 67 61 66,.nb 68 61 .lss 3 67 1,.p 69 61 68,.m 70 69,.nf 71 70 1 1,.nl 72 70 71,.mn 73 70 5,.n 74 70 (.ixAddr 3 (.t 72) (.t 73)),.nf 75 70 1 74,.nl 76 70 75,.nb 77 70 .gtr 3 76 3,.p 78 70 77] (.cond (.t 78) (.q [.K 2 0,.K 3 2] .ret) .skip))) (.ops [.m 52 5,.b 53 .add 3 52 1,.m 5 53])))))) (.q [.f 79 0 1,.l 80 79,.z 81 (.mkSl 1 [(.bool false)] (.t 80) (.t 80)),.m 6 81] (.q [.e 7] (.seq (.q [.K 8 0] (.block 4 (.loop (.seq (.q [.m 82 8,.f 83 2 1,.l 84 83,.s 85 84,.c 86 .lss 3 82 85] (.cond (.t 86) .skip (.exit 4))) (.seq (.block 5 (.q [.f 89 2 1,.l 90 89,.m 91 8,.I 92 8 90 91,.L 93 8 92,.z 9 (.alloc [(.i 0),(.i 0),(.i 0),(.i 0),(.i 0),(.i 0),(.i 0),(.u 0)]),.S 8 9 93] (.seq (.q [.L 94 3 1,.L 95 8 9,.W 96 141 94 95,.z 97 (.un .not (.t 96))] (.cond (.t 97) (.q [.m 98 8,.m 2 98,.K 3 2] .ret) .skip)) (.seq (.q [.f 99 0 9,.l 100 99,.b 101 .eql 3 100 17] (.cond (.t 101) (.seq (.q [.m 102 7,.s 103 102,.b 104 .eql 3 103 0] (.cond (.t 104) (.q [.m 105 8,.m 2 105,.K 3 9] .ret) .skip)) (.q [.m 106 6,.m 107 7,.m 108 7,.s 109 108,.b 110 .sub 3 109 1,.I 111 1 107 110,.l 112 111,.I 113 1 106 112,.v (.store 1 (.t 113) .F)] (.q [.m 114 7,.m 115 7,.s 116 115,.b 117 .sub 3 116 1,.z 118 (.slSl 1 (.t 114) none (some (.t 117))),.m 7 118] (.exit 5)))) .skip)) (.seq (.draw [(.L 119 8 9,[]),(.L 121 8 9,[]),(.w 120 142 119,[(.L 121 8 9,false)]),(.w 122 143 121,[]),(.m 10 120,[]),(.m 11 122,[])]) (.seq (.q [.K 12 0] (.block 6 (.loop (.seq (.q [.m 123 12,.m 124 10,.s 125 124,.c 126 .lss 3 123 125] (.cond (.t 126) .skip (.exit 6))) (.seq (.block 7 (.q [.m 129 7,.m 130 10,.m 131 12,.I 132 1 130 131,.l 133 132,.W 134 144 129 133] (.cond (.t 134) (.q [.m 135 8,.m 2 135,.K 3 9] .ret) .skip))) (.ops [.m 127 12,.b 128 .add 3 127 1,.m 12 128])))))) (.seq (.q [.f 136 0 9,.l 137 136,.b 138 .eql 3 137 16,.m 139 138,.my 140 139 6,.yf 141 139 1 9,.yl 142 139 141,.y 143 139 (.ixAddr 1 (.t 140) (.t 142)),.yl 144 139 143,.q 145 139 144] (.cond (.t 145) (.q [.m 146 8,.m 2 146,.K 3 9] .ret) .skip)) (.seq (.q [.f 147 0 9,.l 148 147,.b 149 .eql 3 148 16,.m 150 149,.my 151 150 7,.y 152 150 (.lenSl (.t 151)),.y 153 150 (.bin .eql true 3 (.t 152) (.k 8)),.q 154 150 153] (.cond (.t 154) (.q [.m 155 8,.m 2 155,.K 3 10] .ret) .skip)) (.seq (.q [.K 13 0] (.block 8 (.loop (.seq (.q [.m 156 13,.m 157 11,.s 158 157,.c 159 .lss 3 156 158] (.cond (.t 159) .skip (.exit 8))) (.seq (.block 9 (.q [.m 162 6,.m 163 11,.m 164 13,.I 165 1 163 164,.l 166 165,.I 167 1 162 166,.l 168 167,.z 169 (.un .not (.t 168))] (.cond (.t 169) (.q [.m 170 8,.m 2 170,.K 3 5] .ret) .skip))) (.ops [.m 160 13,.b 161 .add 3 160 1,.m 13 161])))))) (.seq (.q [.K 14 0] (.block 10 (.loop (.seq (.q [.m 171 14,.m 172 10,.s 173 172,.c 174 .lss 3 171 173] (.cond (.t 174) .skip (.exit 10))) (.seq (.block 11 (.ops [.m 177 6,.m 178 10,.m 179 14,.I 180 1 178 179,.l 181 180,.I 182 1 177 181,.v (.store 1 (.t 182) .T)])) (.ops [.m 175 14,.b 176 .add 3 175 1,.m 14 176])))))) (.q [.f 183 0 9,.l 184 183,.b 185 .eql 3 184 16] (.cond (.t 185) (.ops [.m 186 7,.f 187 1 9,.l 188 187,.z 189 (.buildSl 1 1 [(.i 0)] [(0,1,.t 188)]),.a 190 1 186 189,.m 7 190]) .skip)))))))))))) (.ops [.m 87 8,.b 88 .add 3 87 1,.m 8 88])))))) (.seq (.q [.m 191 7,.s 192 191,.b 193 .gtr 3 192 0] (.cond (.t 193) (.q [.f 194 2 1,.l 195 194,.s 196 195,.m 2 196,.K 3 9] .ret) .skip)) (.q [.f 197 2 1,.l 198 197,.s 199 198,.m 2 199,.K 3 0] .ret))))))))))
def r_ref12_Check:Ng Tryz.prog 78=some ⟨200,z56.r,[.tmp 2,.tmp 3]⟩:=Aa
def zn8{m:List Bool}{l:List Int}(h:∀x∈l,Pj m x=true):(l.any λr=>!Pj m r)=false:=by
 rw[Lq];intro x g;simp[h x g]
def zq6{m:List Bool}{l:List Int}{x:Int}(g:x∈l)(h:Pj m x=false):(l.any λr=>!Pj m r)=true:=by
 rw[Jb];exact⟨x,g,by simp[h]⟩
def zgv{l:List Int}(h:g<l.length):l.take (g+1)=l.take g++[gd l g]:=by
 rw[Jg h];simp[gd,Hv,h]
def zlz{l:List Int}(h:g<l.length):gd l g∈l:=by
 simp[gd,Hv,h]
def z36{o:Lo}(h:Qg z Z o=true):(∀x∈Oy o,0≤x∧x<z)∧(∀x∈Nf o,0≤x∧x<z)∧(o.kind=16→0≤o.d∧o.d<z):=by
 unfold Qg at h;simp only[Hy,Ic]at h;obtain⟨⟨j,A⟩,d,e,a,b,c,_⟩:=h;have B:∀x,Ri z x true=true→0≤x∧x<z:=λx h=>by
  unfold Ri at h;simpa using h
 rcases zh7 o.kind with h|h|h|h|h|h|h|h|h|h|h|h|h|h|h|h|h|h|h
 case inl=>omega
 case inr.inr.inr.inr.inr.inr.inr.inr.inr.inr.inr.inr.inr.inr.inr.inr.inr.inr=>omega
 case inr.inr.inr.inr.inr.inr.inr.inr.inr.inr.inr.inr.inr.inr.inl|inr.inr.inr.inr.inr.inr.inr.inr.inr.inr.inr.inr.inr.inr.inr.inl =>
  simp[h,Q0,Q2,Rk,Wl,Wr,Pf,Ri]at d e a b c;by_cases g:o.a=-1<;>simp[g]at a<;>simp[Oy,Nf,h,g]<;>omega
 all_goals
  simp[h,Q0,Q2,Rk,Wl,Wr,Pf,Ri]at d e a b c;simp[Oy,Nf,h]
  try omega
def znn(o:Lo):(Nf o).length≤2:=by
 unfold Nf;repeat' split
 all_goals simp
def zng(o:Lo):(Oy o).length≤3:=by
 unfold Oy;repeat' split
 all_goals simp
def z4q(M:Int)(B:List Bf)(os:List Lo):Nl 78 [.agg (Nk M B os)] (.tup [.i (Ra M B os).1,.i (Ra M B os).2]) []:=by
 refine Of.val rfl (Ni r_ref12_Check Aa (by simp) ?_);by_cases g1:64<M
 ·simp[z56,Nk,Ra,g1]
 by_cases g2:32<B.length
 ·have jB:(32:Int)<B.length:=J
  simp[z56,Nk,Ra,g1,g2,jB]
 have jB:¬(32:Int)<B.length:=J
 by_cases g3:65536<os.length
 ·have jI:(65536:Int)<os.length:=J
  simp[z56,Nk,Ra,g1,g2,jB,g3,jI]
 have jI:¬(65536:Int)<os.length:=J
 obtain⟨zH,C⟩:∃zH,Ra M B os=zH:=⟨_,rfl⟩;rw[C];unfold Ra at C;rw[Hx J]at C;simp[z56,Nk,g1,g2,jB,g3,jI];refine O5 (λL gU gD N=>∃i:Nat,gU=[]∧gD=[.cells (Nk M B os) 0]∧N+i=B.length∧lk L 1=.ptr 0 0∧lk L 4=.i i∧∀O,O<i→¬65536<(Ns B O).size) (N:=B.length) ⟨0,rfl,B4,J,by simp,by simp,λO h=>J⟩ ?_;rintro N L gU gD ⟨i,rfl,rfl,hN,z,h4,Q⟩ Nx gI;by_cases gT:i<B.length
 ·have q0:=zgp (Sx gT);have hm:Ns B i∈B:=Iq (Sx gT);by_cases e:65536<(Ns B i).size
  ·have X:(B.any λb=>decide (65536<b.size))=true:=Jb.2 ⟨_,hm,F4⟩;rw[H7 X]at C;subst C;simp[z,h4,Nk,gT,Nb q0,e]
  ·simp[z,h4,Nk,gT,Nb q0,e];refine⟨J,gI _ _ _ ⟨N-1,J,i+1,rfl,B4,J,Ae,by simp,λO hj=>?_⟩⟩;by_cases q:O=i
   ·rw[q];exact e
   ·exact Q O J
 have X:¬(B.any λb=>decide (65536<b.size))=true:=by
  rw[Jb];rintro⟨b,hb,h⟩;obtain⟨O,hj,rfl⟩:=J6.1 hb;have:=Q O J;have h2:=Sx hj;rw[H6 hj]at h2;rw[←Option.some.inj h2]at this;exact this Ax
 rw[Hx X]at C;clear X Q;by_cases g4:M<0
 ·rw[H7 g4]at C;subst C;simp[z,h4,Nk,gT,g4]
 rw[Hx g4]at C;have e0:¬i<B.length:=gT;simp[z,h4,Nk,e0,g4];refine O5 (λL gU gD N=>∃i:Nat,gU=[]∧gD=[.cells (Nk M B os) 0]∧N+i=B.length∧lk L 1=.ptr 0 0∧lk L 5=.i i∧∀O,O<i→¬((Ns B O).size<1∨(Ns B O).kind<1∨3<(Ns B O).kind)) (N:=B.length) ⟨0,rfl,B4,J,Ae,by simp,λO h=>J⟩ ?_;clear z h4 hN gI Nx L N e0 gT;rintro N L gU gD ⟨i,rfl,rfl,hN,z,h5,Q⟩ Nx gI;by_cases gT:i<B.length
 ·have q0:=zgp (Sx gT);have q1:=znb (Sx gT);have hm:Ns B i∈B:=Iq (Sx gT);have jK:((Ns B i).size<1∨(Ns B i).kind<1∨3<(Ns B i).kind)→zH=(0,2):=λe=>by
   have X:(B.any λb=>decide (b.size<1) || (decide (b.kind<1) || decide (3<b.kind)))=true:=Jb.2 ⟨_,hm,F4⟩;rw[H7 X]at C;exact C.symm
  by_cases e1:(Ns B i).size<1
  ·rw[jK (.inl e1)];simp[z,h5,Nk,gT,Nb q0,Nb q1,e1]
  by_cases e2:(Ns B i).kind<1
  ·rw[jK (.inr (.inl e2))];simp[z,h5,Nk,gT,Nb q0,Nb q1,e1,e2]
  by_cases e3:3<(Ns B i).kind
  ·rw[jK (.inr (.inr e3))];simp[z,h5,Nk,gT,Nb q0,Nb q1,e1,e2,e3]
  simp[z,h5,Nk,gT,Nb q0,Nb q1,e1,e2,e3];refine⟨J,gI _ _ _ ⟨N-1,J,i+1,rfl,B4,J,Ae,by simp,λO hj=>?_⟩⟩;by_cases q:O=i
  ·rw[q];omega
  ·exact Q O J
 have X:¬(B.any λb=>decide (b.size<1) || (decide (b.kind<1) || decide (3<b.kind)))=true:=by
  rw[Jb];rintro⟨b,hb,h⟩;obtain⟨O,hj,rfl⟩:=J6.1 hb;have:=Q O J;have h2:=Sx hj;rw[H6 hj]at h2;rw[←Option.some.inj h2]at this;exact this Ax
 rw[Hx X]at C;clear X Q;obtain⟨r,rfl⟩:=Hz (J:0≤M);have zE:r≤64:=J
 simp[z,h5,Nk,gT];refine⟨J,?_⟩;refine O5 (λL gU gD N=>∃(i st:Nat) (m:List Bool) (D:List Int) (v:LV),gU=[]∧N+i=os.length∧lk L 1=.ptr 0 0∧lk L 6=.dy 1 0∧lk L 7=v∧lk L 8=.i i∧gD[0]?=some (.cells (Nk r B os) 0)∧gD[1]?=some (.dyn (m.map .bool) r 1 0 st)∧m.length=r∧O8 2 gD v 1 D.length (D.map .i)∧2≤gD.length ∧
   (∀x∈D,0≤x∧x<r)∧D.length≤8∧jl r B i m D (os.drop i)=zH) (N:=os.length)
  ⟨0,0,List.replicate r false,[],.nilSl,rfl,J,Ae,by simp,by simp,by simp,B4,by simp[repBs],by simp,O8.nil,by simp,by simp,by simp,Cm⟩ ?_
 clear z h5 hN gI Nx L N C gT;rintro N L gU gD ⟨i,st,m,D,v,rfl,hN,z,F,K,E,gK,j5,gL,jL,zI,jC,jR,C⟩ Nx gI;by_cases gT:i<os.length
 case neg =>
  rw[J0 J]at C;unfold jl at C;by_cases hn:D=[]
  ·rw[H7 hn]at C;subst C hn;simp[z,E,gK,Nk,gT,K];refine jL.lenL ?_;simp[z,gK,Nk];omega
  ·rw[Hx hn]at C;subst C;have Q:0<(D.length:Int):=by
    have:=List.length_pos_iff.2 hn;omega
   simp[z,E,gK,Nk,gT,K];refine jL.lenL ?_;simp[Q,z,gK,Nk];exact⟨λ_=>J,hn⟩
 have ho:=zhv gT;rw[zj5 gT]at C;unfold jl at C;have j6:=zdh ho;have j7:=zo3 gT;generalize lj os i=o at *;have hC:o.f=[.i o.kind,.i o.d,.i o.e,.i o.a,.i o.b,.i o.c,.i o.buf,.u o.imm]:=rfl;have l0:0<gD.length:=J
 have l1:1<gD.length:=J
 have p0:∀x:List LObj,(gD++x)[0]?=some _:=λx=>(Nh l0).trans gK
 simp[z,E,gK,Nk,gT,j6,j7,hC,↓p0];have jT:=zk1 r B os o;rw[Nk,hC]at jT;refine Nt jT (bors_self _ Et) ?_;cases hf:Qg r B o with
 |false =>
  have j8:(Vn r B m D o)=(2,m,D):=by unfold Vn;rw[H7 hf]
  rw[j8]at C;simp at C;subst C;simp[E]
 |true =>
 obtain⟨jU,jV,jX⟩:=z36 hf;have zK:os.length≤65536:=J
 have gM:∀(l:List LV) (i:Nat) (x:LV),i<l.length→Oq l i [x]=l.set i x:=λl i x h=>by
  rw[I5,H7 h];simp[Oq]
 have next:∀(ρ':M9) (G':M7) (m':List Bool) (G:List Int) (v':LV) (jM:Nat),Vn r B m D o=(0,m',G)→lk ρ' 1=.ptr 0 0→lk ρ' 6=.dy 1 0→lk ρ' 7=v'→lk ρ' 8=.i ((i:Int)+1)→G'[0]?=some (.cells (Nk r B os) 0)→G'[1]?=some (.dyn (m'.map .bool) r 1 0 jM)→m'.length=r→O8 2 G' v' 1 G.length (G.map .i)→2≤G'.length→(∀x∈G,0≤x∧x<(r:Int))→G.length≤8→Nx ρ' [] G':=by
  intro ρ' G' m' G v' jM hs a1 a6 a7 a8 b0 b1 b2 b3 b4 b5 b6;rw[hs]at C;exact gI _ _ _ ⟨N-1,J,i+1,jM,m',G,v',rfl,J,a1,a6,a7,by rw[a8];simp,b0,b1,b2,b3,b4,b5,b6,Cm⟩
 have q0:∀x:List LObj,(gD++x)[0]?=some (.cells (Nk r B os) 0):=λx=>(Nh l0).trans gK
 have q1:∀x:List LObj,(gD++x)[1]?=some (.dyn (m.map .bool) r 1 0 st):=λx=>(Nh l1).trans j5
 have gE:∀x,O8 2 (gD++x) v 1 D.length (D.map .i):=λx=>jL.push_end
 by_cases gV:o.kind=17
 ·have jD:D=[]→Vn r B m D o=(9,m,D):=λe=>by
   unfold Vn;rw[Hx (by rw[hf];decide),H7 gV,e];rfl
  have jE:∀l' d,D=l'++[d]→Vn r B m D o=(0,m.set d.toNat false,l'):=λl' d e=>by
   unfold Vn;rw[Hx (by rw[hf];decide),H7 gV,e];simp
  simp[gV,K];refine (gE _).lenL ?_;by_cases hn:D=[]
  ·rw[jD hn]at C;subst hn;simp at C;subst C;simp[E]
  ·obtain⟨G,d,rfl⟩:∃G d,D=G++[d]:=⟨D.dropLast,D.getLast hn,(List.dropLast_concat_getLast hn).symm⟩;obtain⟨d0,dr⟩:=jC d (by simp);obtain⟨dn,rfl⟩:=Hz d0;have gY:dn<r:=J
   have j9:G.length≤8:=by simp at jR;omega
   have g:=jE G dn rfl;simp only[In]at g;simp;refine (gE _).lenL ?_;simp;refine⟨J,(gE _).at1 J Ab λa X=>?_⟩;simp;refine X _ ?_;have e1:Oq (m.map LV.bool) dn [.bool false]=(m.set dn false).map LV.bool:=by
    rw[gM _ _ _ Ab,Ji]
   have hx:(List.map LV.i G++[LV.i (dn:Int)])[G.length]?=some (.i (dn:Int)):=by
    rw[Ij (by simp)];simp
   have jG:∀(x:List LObj) (ob:LObj),O8 2 ((gD++x).set 1 ob) v 1 (G++[(dn:Int)]).length ((G++[(dn:Int)]).map .i):=λx ob=>(gE x).set_lt J
   rw[Le,List.map_singleton];simp only[In];refine⟨_,hx,?_⟩;simp[F,↓q1,gY,gL,e1,K];refine⟨J,(jG _ _).lenL ?_⟩;simp;refine⟨J,(jG _ _).cut (m:=G.length) (by simp) (λK' k'=>k') (λd K' k'=>⟨J,k'⟩) λv' jY=>?_⟩;simp[E];rw[Le,Kz (by simp)]at jY;refine⟨J,next _ _ (m.set dn false) G v' (st+1) g Ae Ah (by simp) (by simp) ?_ ?_ (by simpa using gL) jY Ab (λx hx=>jC x (by simp[hx])) j9⟩
   ·rw[Hw J];exact q0 _
   ·rw[←Ji];exact H0 Ab
 have g:Vn r B m D o=(if (Nf o).any (λr=>D.contains r)=true then (9,m,D)
   else if o.kind=16∧Pj m o.d=true then (9,m,D)
   else if o.kind=16∧D.length=8 then (10,m,D)
   else if (Oy o).any (λr=>!Pj m r)=true then (5,m,D)
   else (0,(Nf o).foldl (λm r=>m.set r.toNat true) m,if o.kind=16 then D++[o.d] else D)):=by
  unfold Vn;rw[Hx (by rw[hf];decide),Hx gV]
 simp[gV];refine Rm (zed o) Bo ?_;simp;refine Rm (zdv o) Bo ?_;simp;have jO:=q0 [.cells o.f 1];have Y:=q1 [.cells o.f 1];have gO:(gD++[LObj.cells o.f 1])[gD.length]?=some (.cells o.f 1):=Il;have gZ:=gE [.cells o.f 1];have zg:(gD++[LObj.cells o.f 1]).length=gD.length+1:=by simp
 rw[hC]at jO Y gO gZ zg;generalize gD++[LObj.cells [.i o.kind,.i o.d,.i o.e,.i o.a,.i o.b,.i o.c,.i o.buf,.u o.imm] 1]=G1 at *;generalize gD.length=j4 at *;have zL:=znn o;have zM:=zng o;have zO:=hC ▸ gO;refine O5 (λL gU gD N=>∃O:Nat,gU=[]∧N+O=(Nf o).length∧lk L 1=.ptr 0 0∧lk L 6=.dy 1 0∧lk L 7=v∧lk L 8=.i i∧lk L 9=.ptr j4 0∧lk L 10=.lst ((Nf o).map .i) (Nf o).length 1∧lk L 11=.lst ((Oy o).map .i) (Oy o).length 1∧lk L 12=.i O∧gD=G1∧∀x∈(Nf o).take O,¬x∈D) (N:=(Nf o).length)
  ⟨0,rfl,J,Ae,Ah,Bj,Ak,by simp,by simp,by simp,by simp,rfl,by simp⟩ ?_
 clear z F K E;rintro N2 L gU G2 ⟨O,rfl,zP,z,F,K,E,R,j,H,gP,rfl,Q⟩ zQ jH;by_cases V:O<(Nf o).length
 ·have hg:=Xd (f:=LV.i) (X6 V);have ht:=zgv V;have I:=zlz V;generalize gd (Nf o) O=x at *;simp[K,j,gP,V,Nb hg];refine Nt (zvc D x J) ⟨_,_,rfl,gZ.bor,by simp⟩ ?_;by_cases hx:x∈D
  ·have X:((Nf o).any λr=>D.contains r)=true:=Jb.2 ⟨x,I,by simpa using hx⟩;rw[g,H7 X]at C;simp at C;subst C;simp[hx,E]
  ·simp[hx,gP];refine⟨J,jH _ _ _ ⟨N2-1,J,O+1,rfl,J,Ae,Ah,Bj,Ak,B8,Af,Ba,by simp,rfl,λy T=>?_⟩⟩;rw[ht]at T;rcases Ir.1 T with T|T
   ·exact Q y T
   ·simp at T;rw[T];exact hx
 rw[Im J]at Q;have X:¬((Nf o).any λr=>D.contains r)=true:=by
  rw[Jb];rintro⟨x,hx,h⟩;exact Q x hx Ax
 rw[Hx X]at g;clear X Q jH;by_cases P:o.kind=16
 ·obtain⟨d0,dr⟩:=jX P;obtain⟨dn,gY⟩:=Hz d0;have jP:dn<r:=J
  have jF:(m.map LV.bool)[dn]?=some (.bool (Pj m o.d)):=by
   simp[Pj,gY,gL,jP]
  cases Z:Pj m o.d with
  |true =>
   rw[Z]at jF;rw[g,H7 (show o.kind=16∧Pj m o.d=true from ⟨P,Z⟩)]at C;simp at C;subst C;simp[F,E,R,j,gP,V,gO,P,gY,jP,Y,Nb jF]
  |false =>
  rw[Z]at jF;rw[Hx (show ¬(o.kind=16∧Pj m o.d=true) by rw[Z];simp)]at g;simp[F,E,R,j,gP,V,gO,P,gY,jP,Y,Nb jF,K];refine gZ.lenL ?_;by_cases l8:D.length=8
  ·rw[g,H7 (show o.kind=16∧D.length=8 from ⟨P,l8⟩)]at C;simp at C;subst C;simp[l8,E]
  rw[Hx (show ¬(o.kind=16∧D.length=8) from λq=>l8 q.2)]at g;refine⟨λq=>absurd q J,λ_=>?_⟩;rw[H7 P]at g;refine O5 (λL gU gD N=>∃O:Nat,gU=[]∧N+O=(Oy o).length∧lk L 1=.ptr 0 0∧lk L 6=.dy 1 0∧lk L 7=v∧lk L 8=.i i∧lk L 9=.ptr j4 0∧lk L 10=.lst ((Nf o).map .i) (Nf o).length 1∧lk L 11=.lst ((Oy o).map .i) (Oy o).length 1∧lk L 13=.i O∧gD=G2∧∀x∈(Oy o).take O,Pj m x=true) (N:=(Oy o).length)
   ⟨0,rfl,J,Ae,Ah,Bj,Ak,B8,Af,Ba,by simp,rfl,by simp⟩ ?_
  clear z F K E R j H gP;rintro N3 L gU G3 ⟨O,rfl,zj,z,F,K,E,R,j,H,gg,rfl,Q⟩ zz gF;by_cases V:O<(Oy o).length
  ·have hg:=Xd (f:=LV.i) (X6 V);have ht:=zgv V;have I:=zlz V;generalize gd (Oy o) O=x at *;obtain⟨x0,xr⟩:=jU x I;obtain⟨xn,rfl⟩:=Hz x0;have U:xn<r:=J
   have gz:(m.map LV.bool)[xn]?=some (.bool (Pj m (xn:Int))):=by simp[Pj,gL,U]
   cases A:Pj m (xn:Int) with
   |false =>
    have X:=zq6 I A;rw[g,H7 X]at C;simp at C;subst C;rw[A]at gz;simp[F,E,H,gg,V,Nb hg,Y,U,Nb gz]
   |true =>
    rw[A]at gz;simp[F,E,H,gg,V,Nb hg,Y,U,Nb gz];refine⟨J,gF _ _ _ ⟨N3-1,J,O+1,rfl,J,Ae,Ah,Bj,Ak,B8,Af,Ba,by simp,rfl,λy T=>?_⟩⟩;rw[ht]at T;rcases Ir.1 T with T|T
    ·exact Q y T
    ·simp at T;rw[T];exact A
  rw[Im J]at Q;rw[Hx (by rw[zn8 Q];simp)]at g;clear gF Q;simp[z,F,K,E,R,j,H,gg,V];refine O5 (λL gU gD N=>∃(O gA:Nat) (m2:List Bool),gU=[]∧N+O=(Nf o).length∧lk L 1=.ptr 0 0∧lk L 6=.dy 1 0∧lk L 7=v∧lk L 8=.i i∧lk L 9=.ptr j4 0∧lk L 10=.lst ((Nf o).map .i) (Nf o).length 1∧lk L 14=.i O∧gD.length=G3.length∧(∀q,q≠1→gD[q]?=G3[q]?)∧gD[1]?=some (.dyn (m2.map .bool) r 1 0 gA)∧m2.length=r∧m2=((Nf o).take O).foldl (λm r=>m.set r.toNat true) m) (N:=(Nf o).length)
   ⟨0,st,m,rfl,J,Ae,Ah,Bj,Ak,B8,Af,by simp,rfl,λ_ _=>rfl,Y,gL,by simp⟩ ?_
  clear z F K E R j H gg;rintro N4 L gU G4 ⟨O,gA,m2,rfl,zA,z,F,K,E,R,j,g9,jQ,gC,gG,gQ,gR⟩ zB gH;by_cases gk:O<(Nf o).length
  ·have hg:=Xd (f:=LV.i) (X6 gk);have ht:=zgv gk;have I:=zlz gk;generalize gd (Nf o) O=x at *;obtain⟨x0,xr⟩:=jV x I;obtain⟨xn,rfl⟩:=Hz x0;have U:xn<r:=J
   have e1:Oq (m2.map LV.bool) xn [.bool true]=(m2.set xn true).map LV.bool:=by
    rw[gM _ _ _ Ab,Ji]
   simp[F,j,g9,gk,Nb hg,gG,U,gQ,e1];refine⟨J,J,gH _ _ _ ⟨N4-1,J,O+1,gA+1,m2.set xn true,rfl,J,Ae,Ah,Bj,Ak,B8,Af,by simp,by simp[jQ],λq hq=>?_,?_,by simp[gQ],?_⟩⟩
   ·rw[Hw (Ne.symm hq)];exact gC q hq
   ·rw[←Ji];exact H0 (by have:=(Hu.1 gG).1;exact this)
   ·rw[ht,List.foldl_append,←gR];simp
  rw[Im J]at gR;have jg:O8 2 G4 v 1 D.length (D.map .i):=gZ.frame λq h _=>gC q J
  have jz:G4[0]?=some (.cells (Nk r B os) 0):=(gC 0 J).trans jO;have jA:G4[j4]?=_:=(gC j4 J).trans gO;rw[←gR]at g;clear gH;simp[z,F,K,E,R,j,g9,gk,jA,P];refine O8.push (x:=[.i o.d]) jg.push_end J Ab J rfl rfl λv' G5 zC jZ zD _=>?_
  simp[E];have zG:=(Hu.1 gG).1;refine⟨J,next _ _ m2 (D++[o.d]) v' gA g Ae Ah (by simp) (by simp) ?_ ?_ gQ (by simpa using zC) (by simp at zD;omega) (λx hx=>?_) Ab⟩
  ·rw[jZ 0 J,Nh J];exact jz
  ·rw[jZ 1 J,Nh J];exact gG
  ·rcases Ir.1 hx with hx|hx
   ·exact jC x hx
   ·simp at hx;rw[hx];exact jX P
 rw[Hx (show ¬(o.kind=16∧Pj m o.d=true) from λq=>P q.1),Hx (show ¬(o.kind=16∧D.length=8) from λq=>P q.1),Hx P]at g;simp[z,F,K,E,R,j,H,gP,V,gO,P];refine O5 (λL gU gD N=>∃O:Nat,gU=[]∧N+O=(Oy o).length∧lk L 1=.ptr 0 0∧lk L 6=.dy 1 0∧lk L 7=v∧lk L 8=.i i∧lk L 9=.ptr j4 0∧lk L 10=.lst ((Nf o).map .i) (Nf o).length 1∧lk L 11=.lst ((Oy o).map .i) (Oy o).length 1∧lk L 13=.i O∧gD=G2∧∀x∈(Oy o).take O,Pj m x=true) (N:=(Oy o).length)
  ⟨0,rfl,J,Ae,Ah,Bj,Ak,B8,Af,Ba,by simp,rfl,by simp⟩ ?_
 clear z F K E R j H gP;rintro N3 L gU G3 ⟨O,rfl,zj,z,F,K,E,R,j,H,gg,rfl,Q⟩ zz gF;by_cases V:O<(Oy o).length
 ·have hg:=Xd (f:=LV.i) (X6 V);have ht:=zgv V;have I:=zlz V;generalize gd (Oy o) O=x at *;obtain⟨x0,xr⟩:=jU x I;obtain⟨xn,rfl⟩:=Hz x0;have U:xn<r:=J
  have gz:(m.map LV.bool)[xn]?=some (.bool (Pj m (xn:Int))):=by simp[Pj,gL,U]
  cases A:Pj m (xn:Int) with
  |false =>
   have X:=zq6 I A;rw[g,H7 X]at C;simp at C;subst C;rw[A]at gz;simp[F,E,H,gg,V,Nb hg,Y,U,Nb gz]
  |true =>
   rw[A]at gz;simp[F,E,H,gg,V,Nb hg,Y,U,Nb gz];refine⟨J,gF _ _ _ ⟨N3-1,J,O+1,rfl,J,Ae,Ah,Bj,Ak,B8,Af,Ba,by simp,rfl,λy T=>?_⟩⟩;rw[ht]at T;rcases Ir.1 T with T|T
   ·exact Q y T
   ·simp at T;rw[T];exact A
 rw[Im J]at Q;rw[Hx (by rw[zn8 Q];simp)]at g;clear gF Q;simp[z,F,K,E,R,j,H,gg,V];refine O5 (λL gU gD N=>∃(O gA:Nat) (m2:List Bool),gU=[]∧N+O=(Nf o).length∧lk L 1=.ptr 0 0∧lk L 6=.dy 1 0∧lk L 7=v∧lk L 8=.i i∧lk L 9=.ptr j4 0∧lk L 10=.lst ((Nf o).map .i) (Nf o).length 1∧lk L 14=.i O∧gD.length=G3.length∧(∀q,q≠1→gD[q]?=G3[q]?)∧gD[1]?=some (.dyn (m2.map .bool) r 1 0 gA)∧m2.length=r∧m2=((Nf o).take O).foldl (λm r=>m.set r.toNat true) m) (N:=(Nf o).length)
  ⟨0,st,m,rfl,J,Ae,Ah,Bj,Ak,B8,Af,by simp,rfl,λ_ _=>rfl,Y,gL,by simp⟩ ?_
 clear z F K E R j H gg;rintro N4 L gU G4 ⟨O,gA,m2,rfl,zA,z,F,K,E,R,j,g9,jQ,gC,gG,gQ,gR⟩ zB gH;by_cases gk:O<(Nf o).length
 ·have hg:=Xd (f:=LV.i) (X6 gk);have ht:=zgv gk;have I:=zlz gk;generalize gd (Nf o) O=x at *;obtain⟨x0,xr⟩:=jV x I;obtain⟨xn,rfl⟩:=Hz x0;have U:xn<r:=J
  have e1:Oq (m2.map LV.bool) xn [.bool true]=(m2.set xn true).map LV.bool:=by
   rw[gM _ _ _ Ab,Ji]
  simp[F,j,g9,gk,Nb hg,gG,U,gQ,e1];refine⟨J,J,gH _ _ _ ⟨N4-1,J,O+1,gA+1,m2.set xn true,rfl,J,Ae,Ah,Bj,Ak,B8,Af,by simp,by simp[jQ],λq hq=>?_,?_,by simp[gQ],?_⟩⟩
  ·rw[Hw (Ne.symm hq)];exact gC q hq
  ·rw[←Ji];exact H0 (by have:=(Hu.1 gG).1;exact this)
  ·rw[ht,List.foldl_append,←gR];simp
 rw[Im J]at gR;have jg:O8 2 G4 v 1 D.length (D.map .i):=gZ.frame λq h _=>gC q J
 have jz:G4[0]?=some (.cells (Nk r B os) 0):=(gC 0 J).trans jO;have jA:G4[j4]?=_:=(gC j4 J).trans gO;rw[←gR]at g;clear gH;simp[z,F,K,E,R,j,g9,gk,jA,P];refine⟨J,next _ _ m2 D v gA g Ae Ah Bj (by simp) jz gG gQ jg J jC jR⟩
def zhh:LC:=(.q [.x 1 0,.e 2] (.q [.L 10 3 1,.w 11 78 10,.m 9 11,.X 12 0 9,.X 13 1 9,.m 3 12,.m 4 13] (.seq (.q [.m 14 4,.b 15 .neq 35 14 0] (.cond (.t 15) (.q [.e 2] .ret) .skip)) (.q [.f 16 2 1,.l 17 16,.s 18 17,.z 19 (.mkSl 1 [(.i 0)] (.t 18) (.t 18)),.m 5 19] (.q [.e 6] (.seq (.q [.K 7 0] (.block 0 (.loop (.seq (.q [.m 20 7,.f 21 2 1,.l 22 21,.s 23 22,.c 24 .lss 3 20 23] (.cond (.t 24) .skip (.exit 0))) (.seq (.block 1 (.q [.m 27 5,.m 28 7,.I 29 1 27 28,.v (.store 1 (.t 29) (.k (-1)))] (.q [.f 30 2 1,.l 31 30,.m 32 7,.I 33 8 31 32,.f 34 0 33,.l 35 34] (.block 2 (.q [.b 37 .eql 3 35 16,.m 36 37] (.cond (.t 36) (.ops [.m 38 6,.m 39 7,.z 40 (.buildSl 1 1 [(.i 0)] [(0,1,.t 39)]),.a 41 1 38 40,.m 6 41]) (.q [.b 43 .eql 3 35 17,.m 42 43] (.cond (.t 42) (.q [.m 44 6,.m 45 6,.s 46 45,.b 47 .sub 3 46 1,.I 48 1 44 47,.l 49 48,.m 8 49] (.q [.m 50 6,.m 51 6,.s 52 51,.b 53 .sub 3 52 1,.z 54 (.slSl 1 (.t 50) none (some (.t 53))),.m 6 54] (.ops [.m 55 5,.m 56 7,.m 57 5,.m 58 8,.m 59 8,.m 60 7,.I 61 1 55 56,.S 1 61 59,.I 62 1 57 58,.S 1 62 60]))) .skip)))))))) (.ops [.m 25 7,.b 26 .add 3 25 1,.m 7 26])))))) (.q [.m 63 5,.m 2 63] .ret)))))))
def r_ref12_Ends:Ng Tryz.prog 87=some ⟨64,zhh.r,[.tmp 2]⟩:=Aa
def zg5:LC:=(.q [.x 1 0,.K 2 0] (.q [.L 11 3 1,.w 12 78 11,.m 10 12,.X 13 0 10,.X 14 1 10,.m 3 13,.m 4 14] (.seq (.q [.m 15 4,.b 16 .neq 35 15 0] (.cond (.t 16) (.q [.K 2 0] .ret) .skip)) (.q [.e 5] (.q [.K 6 0] (.q [.e 7] (.seq (.q [.K 8 0] (.block 0 (.loop (.seq (.q [.m 17 8,.f 18 2 1,.l 19 18,.s 20 19,.c 21 .lss 3 17 20] (.cond (.t 21) .skip (.exit 0))) (.seq (.block 1 (.q [.f 24 2 1,.l 25 24,.m 26 8,.I 27 8 25 26,.f 28 0 27,.l 29 28] (.block 2 (.q [.b 34 .eql 3 29 16,.m 33 34] (.cond (.t 33) (.seq (.draw [(.m 35 5,[]),(.m 36 6,[]),(.z 37 (.buildSl 1 1 [(.i 0)] [(0,1,.t 36)]),[]),(.m 39 7,[]),(.f 40 2 1,[]),(.l 41 40,[]),(.m 42 8,[]),(.I 43 8 41 42,[]),(.f 44 7 43,[]),(.l 45 44,[]),(.z 46 (.cvInt .i64 (.t 45)),[]),(.z 47 (.buildSl 1 1 [(.i 0)] [(0,1,.t 46)]),[(.l 45 44,false),(.l 41 40,false),(.z 37 (.buildSl 1 1 [(.i 0)] [(0,1,.t 36)]),true)]),(.a 38 1 35 37,[(.z 47 (.buildSl 1 1 [(.i 0)] [(0,1,.t 46)]),true),(.l 45 44,false),(.l 41 40,false)]),(.a 48 1 39 47,[]),(.m 5 38,[]),(.m 7 48,[])]) (.ops [.K 6 1])) (.q [.b 50 .eql 3 29 17,.m 49 50] (.cond (.t 49) (.q [.m 51 5,.s 52 51,.b 53 .sub 3 52 1,.m 9 53] (.seq (.q [.m 54 6,.m 55 7,.m 56 9,.I 57 1 55 56,.l 58 57,.z 59 (.bin .quo true 3 (.k 1125899906842624) (.t 58)),.c 60 .gtr 3 54 59] (.cond (.t 60) (.ops [.K 6 1125899906842624]) (.ops [.m 61 6,.m 62 7,.m 63 9,.I 64 1 62 63,.l 65 64,.c 66 .mul 3 61 65,.m 6 66]))) (.q [.m 67 6,.m 68 5,.m 69 9,.I 70 1 68 69,.l 71 70,.c 72 .add 3 67 71,.z 73 (.maxi false (.k 1125899906842624) (.t 72)),.m 6 73] (.draw [(.m 74 5,[]),(.m 75 9,[]),(.z 76 (.slSl 1 (.t 74) none (some (.t 75))),[]),(.m 77 7,[]),(.m 78 9,[]),(.z 79 (.slSl 1 (.t 77) none (some (.t 78))),[]),(.m 5 76,[]),(.m 7 79,[])])))) (.ops [.m 30 6,.b 31 .add 3 30 1,.z 32 (.maxi false (.k 1125899906842624) (.t 31)),.m 6 32])))))))) (.ops [.m 22 8,.b 23 .add 3 22 1,.m 8 23])))))) (.q [.m 80 6,.m 2 80] .ret))))))))
def r_ref12_Steps:Ng Tryz.prog 85=some ⟨81,zg5.r,[.tmp 2]⟩:=Aa
def zcu:LC:=(.q [.x 2 0,.F 4] (.seq (.q [.m 7 1,.s 8 7,.f 9 1 2,.l 10 9,.s 11 10,.c 12 .neq 3 8 11] (.cond (.t 12) (.q [.F 4] .ret) .skip)) (.seq (.q [.K 5 0] (.block 0 (.loop (.seq (.q [.m 13 5,.m 14 1,.s 15 14,.c 16 .lss 3 13 15] (.cond (.t 16) .skip (.exit 0))) (.seq (.block 1 (.q [.f 19 1 2,.l 20 19,.m 21 5,.I 22 3 20 21,.f 23 0 22,.l 24 23,.m 6 24] (.seq (.q [.f 25 1 2,.l 26 25,.m 27 5,.I 28 3 26 27,.f 29 1 28,.l 30 29,.b 31 .eql 3 30 3] (.cond (.t 31) (.ops [.K 6 0]) .skip)) (.q [.m 32 1,.m 33 5,.I 34 1 32 33,.l 35 34,.s 36 35,.m 37 6,.c 38 .neq 3 36 37] (.cond (.t 38) (.q [.F 4] .ret) .skip))))) (.ops [.m 17 5,.b 18 .add 3 17 1,.m 5 18])))))) (.q [.z 4 (.move .T)] .ret))))
def r_ref12_Rows:Ng Tryz.prog 86=some ⟨39,zcu.r,[.tmp 4]⟩:=Aa
def znp{g:Int}{z:List Bf}:∀(l:List Lo) (i:Nat) (m:List Bool) (A:List Int),(jl g z i m A l).2=0→∀o∈l,Qg g z o=true
 |[],_,_,_,_,o,ho=>by cases ho
 |o::l,i,m,A,h,x,B=>by
  unfold jl at h;by_cases j:(Vn g z m A o).1=0
  ·rw[H7 j]at h;rcases If.1 B with rfl|B
   ·cases C:Qg g z x with
    |true=>rfl
    |false =>
     unfold Vn at j;rw[H7 C]at j;exact absurd (show (2:Int)=0 from j) Ac
   ·exact znp l _ _ _ h x B
  ·rw[Hx j]at h;exact absurd h j
def z81{os:List Lo}(h:(Ra z Z os).2=0):0≤z∧z≤64∧Z.length≤32∧os.length≤65536∧(∀b∈Z,1≤b.size∧b.size≤65536)∧∀o∈os,Qg z Z o=true:=by
 unfold Ra at h;split at h
 ·exact absurd h Ac
 split at h
 ·exact absurd h Ac
 split at h
 ·exact absurd h Ac
 split at h
 ·exact absurd h Ac
 rename_i B g C j;refine⟨J,J,J,J,λb A=>?_,znp _ _ _ _ h⟩;rw[Jb]at g j;have D:¬65536<b.size:=λq=>g ⟨b,A,by simpa using q⟩
 have E:¬b.size<1:=λq=>j ⟨b,A,by simp[q]⟩
 omega
def znz{o:Lo}(h:Qg z Z o=true)(k:o.kind=16):1≤o.imm.toNat∧o.imm.toNat≤1048576:=by
 unfold Qg at h;simp[k,Pf]at h;obtain⟨_,_,_,_,_,_,_,g,j⟩:=h;have g:=Jc.1 g;have j:=Jc.1 j;exact⟨g,j⟩
def skC(l:List Nat):List LV:=l.reverse.map λ(a:Nat)=>LV.i (a:Int)
def zpj(a:Nat)(l:List Nat):skC (a::l)=skC l++[.i (a:Int)]:=by simp[skC]
def zur(l:List Nat):(skC l).length=l.length:=by simp[skC]
def rz{l:List Lo}{i:Nat}{v:Lo}(h:l[i]?=some v):(Qh l)[i*8]?=some (.i v.kind):=by have:=zpx h (j:=0) J;simpa [Lo.f] using this
def lo_at7{l:List Lo}{i:Nat}{v:Lo}(h:l[i]?=some v):(Qh l)[i*8+7]?=some (.u v.imm):=by have:=zpx h (j:=7) J;simpa [Lo.f] using this
def zye{l:List LV}{i:Nat}{x:LV}(h:i<l.length):Oq l i [x]=l.set i x:=by
 rw[I5,H7 h];simp[Oq]
def layI(l:List Int)(i:Nat)(x:Int)(h:i<l.length):Oq (l.map LV.i) i [.i x]=(l.set i x).map LV.i:=by
 rw[Ji,I5,H7 Ax];simp[Oq]
def repIs(n:Nat):Pl [.i 0] n=(List.replicate n (0:Int)).map LV.i:=by
 induction n with
 |zero=>rfl
 |succ n g=>rw[Pl,g,K0];rfl
def zo0{os:List Lo}(hc:(Ra z Z os).2=0)(D:Xl Qz 0 os):O1 87 [.agg (Nk z Z os)] (.lst ((Wh 0 [] (List.replicate os.length 0) os).map .i) os.length 1):=by
 obtain⟨_,_,_,gH,_,gA⟩:=z81 hc;refine R7.mk Gt (Ni r_ref12_Ends Aa (by simp) ?_);simp[zhh,Nk];refine Nt (z4q z Z os) (bors_self _ Bh) ?_;obtain⟨gG,hE⟩:∃gG,Wh 0 [] (List.replicate os.length 0) os=gG:=⟨_,rfl⟩;have gI:gG.length=os.length:=by rw[←hE,endsR_len];simp
 rw[hE];simp[hc];refine⟨J,?_⟩;refine O5 (λρ gM gg N=>∃(i st:Nat) (j:List Int) (B:List Nat) (v:LV),gM=[]∧N+i=os.length∧lk ρ 1=.ptr 0 0∧lk ρ 5=.dy 1 0∧lk ρ 6=v∧lk ρ 7=.i i∧gg[0]?=some (.cells (Nk z Z os) 0)∧gg[1]?=some (.dyn (j.map .i) os.length 1 0 st)∧j.length=os.length∧O8 2 gg v 1 B.length (skC B)∧2≤gg.length ∧
   (∀a∈B,a<i)∧B.length≤i∧Xl Qz B.length (os.drop i)∧Wh i B j (os.drop i)=gG) (N:=os.length)
  ⟨0,0,List.replicate os.length 0,[],.nilSl,rfl,J,by simp,by simp,by simp,by simp,B4,by simp[repIs],by simp,O8.nil,by simp,by simp,by simp,F0,by simpa using hE⟩ ?_
 clear D;rintro N ρ gM gg ⟨i,st,j,B,v,rfl,hN,K,I,T,P,E,G,g,gC,U,H,L,D,F⟩ Nx M;by_cases gz:i<os.length
 case neg =>
  rw[J0 J]at F;have:j=gG:=F;subst this;simp[K,I,P,E,Nk,gz,N9,bor,G,bf]
 have ho:=zhv gz;have O:=rz ho;have gK:=gA _ (Iq ho);rw[zj5 gz]at F D;generalize lj os i=o at *;have l0:0<gg.length:=J
 have l1:1<gg.length:=J
 have gL:=zo3 gz;unfold Wh at F;unfold Xl at D;have Q:∀x:LObj,(gg.set 1 x)[0]?=some (.cells (Nk z Z os) 0):=λx=>by rw[Hw J];exact E
 have s1:∀x:LObj,(gg.set 1 x)[1]?=some x:=λx=>H0 l1
 have R:∀x:LObj,O8 2 (gg.set 1 x) v 1 B.length (skC B):=λx=>gC.set_lt J
 by_cases A:o.kind=16
 ·rw[H7 A]at F;rw[H7 (by simp[Qz,A])]at D;simp[K,I,T,P,E,G,Nk,gz,g,layI,↓Q,Nb O,A]
  repeat (refine⟨J,?_⟩)
  refine O8.push (x:=[.i (i:Int)]) (R _).push_end J Ab J rfl rfl λv' G5 gD V gE _=>?_
  simp[P];refine⟨J,M _ _ _ ⟨N-1,J,i+1,st+1,j.set i (-1),i::B,v',rfl,J,Bj,Bd,by simp,by simp,?_,?_,Be,by rw[zpj];exact gD,by simp at gE;omega,λa ha=>?_,Ab,D,F⟩⟩
  ·rw[V 0 J,Nh (by simpa using l0)];exact Q _
  ·rw[V 1 J,Nh (by simpa using l1),←Ji];exact s1 _
  ·rcases If.1 ha with rfl|ha
   ·omega
   ·have:=H a ha;omega
 by_cases C:o.kind=17
 ·rw[Hx A,H7 C]at F;rw[Hx (by simp[Qz,C]),H7 (by simp[Qz,C])]at D;obtain⟨hd,D⟩:=D;cases B with
  |nil=>simp at hd
  |cons a B =>
  have ha:=H a (I7 ..);simp[K,I,T,P,E,G,Nk,gz,g,layI,↓Q,Nb O,A,C]
  repeat (refine⟨J,?_⟩)
  refine (R _).lenL ?_;simp;refine⟨by simp at L;omega,(R _).at1 J Ab λw hw=>?_⟩;simp;refine hw _ ?_;have X:(skC (a::B))[B.length]?=some (.i (a:Int)):=by
   rw[zpj,Ij (by rw[zur];exact Ia _)];simp[zur]
  simp only[In];refine⟨_,X,?_⟩;simp[T];refine (R _).lenL ?_;simp;refine⟨by simp at L;omega,(R _).cut (m:=B.length) (by simp) (λK' k'=>k') (λd K' k'=>⟨J,k'⟩) λv' Y=>?_⟩;have gF:a<os.length:=J
  simp[I,P,↓s1,gz,g,zye,gF];rw[zpj,Kz (by rw[zur];omega)]at Y
  repeat (refine⟨J,?_⟩)
  refine M _ _ _ ⟨N-1,J,i+1,st+1+1+1,((j.set i (-1)).set i a).set a i,B,v',rfl,J,Bj,Bd,by simp,by simp,?_,?_,Be,?_,Fy,λx X=>by have:=H x (Ik _ X);omega,by simp at L;omega,?_,F⟩
  ·exact Q _
  ·rw[H0 (by simpa using l1)];simp
  ·have h:=Y.set_lt (q:=1) (ob:=.dyn ((((j.map LV.i).set i (.i (-1))).set i (.i a)).set a (.i i)) os.length 1 0 (st+1+1+1)) J;rw[List.set_set]at h;simpa using h
  ·simpa using D
 rw[Hx A,Hx C]at F;rw[Hx (by simp[Qz,A];split<;>simp),Hx (by simp[Qz,A,C])]at D;simp[K,I,T,P,E,G,Nk,gz,g,layI,↓Q,Nb O,A,C]
 repeat (refine⟨J,?_⟩)
 refine M _ _ _ ⟨N-1,J,i+1,st+1,j.set i (-1),B,v,rfl,J,Bj,Bd,Bn,by simp,Q _,?_,Be,R _,Fy,λx X=>by have:=H x X;omega,J,D.2,F⟩;rw[←Ji];exact s1 _
def s1C(l:List (Int×Int)):List LV:=l.reverse.map λe=>LV.i e.1
def s2C(l:List (Int×Int)):List LV:=l.reverse.map λe=>LV.i e.2
def zis(a:Int×Int)(l:List (Int×Int)):s1C (a::l)=s1C l++[.i a.1]:=by simp[s1C]
def ziw(a:Int×Int)(l:List (Int×Int)):s2C (a::l)=s2C l++[.i a.2]:=by simp[s2C]
def zp0(l:List (Int×Int)):(s1C l).length=l.length:=by simp[s1C]
def zo9(l:List (Int×Int)):(s2C l).length=l.length:=by simp[s2C]
def zm9{os:List Lo}(hc:(Ra z Z os).2=0)(G:Xl Qz 0 os):Nl 85 [.agg (Nk z Z os)] (.i (Wx [] 0 os)) []:=by
 obtain⟨_,_,_,jA,_,gM⟩:=z81 hc;refine Of.val rfl (Ni r_ref12_Steps Aa (by simp) ?_);simp[zg5,Nk];refine Nt (z4q z Z os) (bors_self _ Bh) ?_;obtain⟨jz,B⟩:∃jz,Wx [] 0 os=jz:=⟨_,rfl⟩;rw[B];simp[hc];refine O5 (λρ jE gC N=>∃(i:Nat) (s:Int) (g:List (Int×Int)) (v w:LV),jE=[]∧N+i=os.length∧lk ρ 1=.ptr 0 0∧lk ρ 5=v∧lk ρ 6=.i s∧lk ρ 7=w∧lk ρ 8=.i i∧gC[0]?=some (.cells (Nk z Z os) 0)∧O8 1 gC v 1 g.length (s1C g)∧O8 1 gC w 1 g.length (s2C g)∧(∀q,i7 v=some q→i7 w≠some q)∧1≤gC.length ∧
   (0≤s∧s≤1125899906842624)∧(∀e∈g,(0≤e.1∧e.1≤1125899906842624)∧1≤e.2∧e.2≤1048576)∧g.length≤i∧Xl Qz g.length (os.drop i)∧Wx g s (os.drop i)=jz) (N:=os.length)
  ⟨0,0,[],.nilSl,.nilSl,rfl,J,by simp,by simp,by simp,by simp,by simp,B4,O8.nil,O8.nil,by simp[i7],by simp,by simp,by simp,by simp,B1,by simpa using B⟩ ?_
 clear G B;rintro N ρ jE gC ⟨i,s,g,v,w,rfl,hN,P,M,R,Q,T,j,hv,hw,C,U,⟨gD,D⟩,I,gO,G,B⟩ Nx O;by_cases gP:i<os.length
 case neg =>
  rw[J0 J]at B;have:s=jz:=B;subst this;simp[P,M,R,T,j,Nk,gP]
 have ho:=zhv gP;have V:=rz ho;have gQ:=lo_at7 ho;have gR:=gM _ (Iq ho);rw[zj5 gP]at B G;generalize lj os i=o at *;have l0:0<gC.length:=J
 have jB:=zo3 gP;have jg:i*8+7<(Qh os).length:=J
 unfold Wx at B;unfold Xl at G;by_cases A:o.kind=16
 ·rw[H7 A]at B;rw[H7 (by simp[Qz,A])]at G;obtain⟨t1,t2⟩:=znz gR A;have e1:0≤((o.imm.toNat:Nat):Int):=J
  have q0:∀x:List LObj,(gC++x)[0]?=some (.cells (Nk z Z os) 0):=λx=>(Nh l0).trans j
  have z0:∀(x:List LObj) (h:0<(gC++x).length),(gC++x)[0]=.cells (Nk z Z os) 0:=λx h=>Option.some.inj ((H6 h).symm.trans (q0 x))
  simp[P,M,R,Q,T,j,Nk,gP,Nb V,Nb gQ,A,↓q0,z0];refine⟨J,?_⟩;refine O8.push2 (x:=[.i s]) hv.push_end J (by simp) J rfl rfl λX G5 Y gg gT gU=>?_
  simp at gT;have gE:G5[0]?=some (.cells (Nk z Z os) 0):=by rw[gg 0 (by simp) (λe=>by have:=(hv.row e).1;omega)];exact q0 _
  have gV:G5[gC.length+1]?=some (.dyn [.i (o.imm.toNat:Int)] 1 1 0 0):=by
   rw[gg _ (by simp) (λe=>by have:=(hv.row e).2.1;omega),Ij J,(J:gC.length+1-gC.length=1)];rfl
  have gF:O8 1 G5 w 1 g.length (s2C g):=(hw.push_end (ob:=[.dyn [.i s] 1 1 0 0,.dyn [.i (o.imm.toNat:Int)] 1 1 0 0])).frame2 λq H=>gg q (by have:=(hw.row H).2.1;simp;omega) (λe=>C q e H)
  simp[gE,gV,Nk,z0];refine O8.push2 (x:=[.i (o.imm.toNat:Int)]) gF J J J rfl rfl λw' G6 gY gG jC gZ=>?_
  have gH:∀q,i7 X=some q→i7 w≠some q:=λq H e=>by
   rcases gU with h|h
   ·exact C q (by rw[←h];exact H) e
   ·rw[h]at H;have:=(hw.row e).2.1;have H:=Option.some.inj H;simp at H;omega
  have g9:O8 1 G6 X 1 (g.length+1) (s1C g++[.i s]):=Y.frame2 λq H=>gG q (Y.row H).2.1 (gH q H)
  have gI:G6[0]?=some (.cells (Nk z Z os) 0):=by rw[gG 0 J (λe=>by have:=(gF.row e).1;omega)];exact gE
  simp[gI,Nk,T];refine⟨J,O _ _ _ ⟨N-1,J,i+1,1,(s,(o.imm.toNat:Int))::g,X,w',rfl,J,Dk,by simp,by simp,by simp,by simp,gI,by rw[zis];exact g9,by rw[ziw];exact gY,λq H=>?_,J,⟨J,J⟩,λe he=>?_,Ab,G,B⟩⟩
  ·rcases gZ with h|h
   ·rw[h];exact gH q H
   ·rw[h];have:=(Y.row H).2.1;intro e;have e:=Option.some.inj e;omega
  ·rcases If.1 he with rfl|he
   ·exact⟨⟨gD,D⟩,by show (1:Int)≤_;omega,by show _≤(1048576:Int);omega⟩
   ·exact I e he
 by_cases E:o.kind=17
 ·rw[Hx A,H7 E]at B;rw[Hx (by simp[Qz,E]),H7 (by simp[Qz,E])]at G;obtain⟨hd,G⟩:=G;cases g with
  |nil=>simp at hd
  |cons a g =>
  obtain⟨a0,L⟩:=a;obtain⟨⟨b0,b1⟩,b2,b3⟩:=I _ (I7 ..);dsimp only at b0 b1 b2 b3 B;have gK:(s1C ((a0,L)::g))[g.length]?=some (.i a0):=by
   rw[zis,Ij (by rw[zp0];exact Ia _)];simp[zp0]
  have gL:(s2C ((a0,L)::g))[g.length]?=some (.i L):=by
   rw[ziw,Ij (by rw[zo9];exact Ia _)];simp[zo9]
  simp[P,M,R,Q,T,j,Nk,gP,Nb V,A,E];refine hv.lenL ?_;simp[Q,R];simp at gO;refine⟨J,hw.at1 J Ab λx hx=>?_⟩;simp;refine hx _ ?_;simp only[In];refine⟨_,gL,?_⟩;simp[R];have ht:Int.tdiv 1125899906842624 L=1125899906842624/L:=Int.tdiv_eq_ediv_of_nonneg J;rw[ht];have t0:0≤1125899906842624/L:=Int.ediv_nonneg J J;have t1:1125899906842624/L≤1125899906842624:=Int.ediv_le_self _ J;refine⟨J,J,λq=>?_,λq=>?_⟩
  ·rw[H7 q]at B;simp[M];refine hv.at1 J Ab λy hy=>?_
   simp;refine hy _ ?_;simp only[In];refine⟨_,gK,?_⟩;simp[M]
   repeat (refine⟨J,?_⟩)
   refine hv.cut2 (m:=g.length) (by simp) (λK' F=>F) (λd K' F=>F) λX D gz=>?_
   simp[Q];refine hw.cut2 (m:=g.length) (by simp) (λK' F=>F) (λd K' F=>F) λw' K gA=>?_
   rw[zis,Kz (by rw[zp0];omega)]at D;rw[ziw,Kz (by rw[zo9];omega)]at K;simp[T,j,Nk];refine⟨J,O _ _ _ ⟨N-1,J,i+1,_,g,X,w',rfl,J,Dk,by simp,by simp,by simp,by simp,j,D,K,λq=>by rw[gz,gA];exact C q,U,⟨J,J⟩,λe he=>I e (Ik _ he),J,B1,B⟩⟩
  ·rw[Hx J]at B;have hm:0≤s*L:=Int.mul_nonneg gD J;have jD:s*L≤1125899906842624:=Int.le_trans (Int.mul_le_mul_of_nonneg_right (J:s≤1125899906842624/L) J) (Int.ediv_mul_le _ J);simp[R,Q];refine hw.at1 J Ab λjF hz=>?_
   simp;refine hz _ ?_;simp only[In];refine⟨_,gL,?_⟩;simp[M]
   repeat (refine⟨J,?_⟩)
   refine hv.at1 J Ab λy hy=>?_
   simp;refine hy _ ?_;simp only[In];refine⟨_,gK,?_⟩;simp[M]
   repeat (refine⟨J,?_⟩)
   refine hv.cut2 (m:=g.length) (by simp) (λK' F=>F) (λd K' F=>F) λX D gz=>?_
   simp[Q];refine hw.cut2 (m:=g.length) (by simp) (λK' F=>F) (λd K' F=>F) λw' K gA=>?_
   rw[zis,Kz (by rw[zp0];omega)]at D;rw[ziw,Kz (by rw[zo9];omega)]at K;simp[T,j,Nk];refine⟨J,O _ _ _ ⟨N-1,J,i+1,_,g,X,w',rfl,J,Dk,by simp,by simp,by simp,by simp,j,D,K,λq=>by rw[gz,gA];exact C q,U,⟨J,J⟩,λe he=>I e (Ik _ he),J,B1,B⟩⟩
 rw[Hx A,Hx E]at B;rw[Hx (by simp[Qz,A];split<;>simp),Hx (by simp[Qz,A,E])]at G;simp[P,M,R,Q,T,j,Nk,gP,Nb V,A,E]
 repeat (refine⟨J,?_⟩)
 refine O _ _ _ ⟨N-1,J,i+1,_,g,v,w,rfl,J,Dk,A9,by simp,F6,by simp,j,hv,hw,C,U,⟨J,J⟩,I,J,G.2,B⟩
section
def z9j:LC:=(.q [.z 4 (.move (.c (.u 0)))] (.seq (.q [.m 5 1,.b 6 .lss 3 5 0] (.cond (.t 6) (.q [.z 4 (.move (.c (.u 0)))] .ret) .skip)) (.q [.m 7 0,.N 8 7,.f 9 3 8,.l 10 9,.m 11 1,.I 12 1 10 11,.l 13 12,.m 4 13] .ret)))
def r_ref12_run_at:Ng Tryz.prog 148=some ⟨14,z9j.r,[.tmp 4]⟩:=Aa
def zeh:LC:=(.q [.F 4] (.q [.m 17 0,.N 18 17,.f 19 0 18,.f 20 2 19,.l 21 20,.m 22 1,.I 23 8 21 22,.L 24 8 23,.z 5 (.alloc [(.i 0),(.i 0),(.i 0),(.i 0),(.i 0),(.i 0),(.i 0),(.u 0)]),.S 8 5 24] (.seq (.draw [(.m 25 0,[]),(.f 26 3 5,[]),(.l 27 26,[]),(.m 29 0,[]),(.f 30 4 5,[]),(.l 31 30,[]),(.m 33 0,[]),(.f 34 5 5,[]),(.l 35 34,[]),(.W 28 148 25 27,[(.l 35 34,false),(.l 31 30,false)]),(.W 32 148 29 31,[(.l 35 34,false)]),(.W 36 148 33 35,[]),(.u 37 .rem 23 36 2,[]),(.u 38 .eql 23 37 1,[]),(.m 6 28,[]),(.m 7 32,[]),(.m 8 38,[])]) (.q [.K 9 (-1)] (.q [.z 10 (.move (.c (.u 0))),.z 11 (.move (.c (.u 0)))] (.seq (.q [.f 39 0 5,.l 40 39] (.block 0 (.q [.b 42 .eql 3 40 1,.m 41 42] (.cond (.t 41) (.ops [.f 43 7 5,.l 44 43,.m 10 44]) (.q [.b 46 .eql 3 40 2,.m 45 46] (.cond (.t 45) (.ops [.m 47 6,.m 10 47]) (.q [.b 49 .eql 3 40 3,.m 48 49] (.cond (.t 48) (.ops [.m 50 6,.m 51 7,.c 52 .add 23 50 51,.m 10 52]) (.q [.b 54 .eql 3 40 4,.m 53 54] (.cond (.t 53) (.ops [.m 55 6,.m 56 7,.c 57 .sub 23 55 56,.m 10 57]) (.q [.b 59 .eql 3 40 5,.m 58 59] (.cond (.t 58) (.ops [.m 60 6,.m 61 7,.c 62 .and 23 60 61,.m 10 62]) (.q [.b 64 .eql 3 40 6,.m 63 64] (.cond (.t 63) (.ops [.m 65 6,.m 66 7,.c 67 .or 23 65 66,.m 10 67]) (.q [.b 69 .eql 3 40 7,.m 68 69] (.cond (.t 68) (.ops [.m 70 6,.m 71 7,.c 72 .xor 23 70 71,.m 10 72]) (.q [.b 74 .eql 3 40 8,.m 73 74] (.cond (.t 73) (.ops [.m 75 6,.f 76 7 5,.l 77 76,.c 78 .shl 23 75 77,.m 10 78]) (.q [.b 80 .eql 3 40 9,.m 79 80] (.cond (.t 79) (.ops [.m 81 6,.f 82 7 5,.l 83 82,.c 84 .shr 23 81 83,.m 10 84]) (.q [.b 86 .eql 3 40 10,.m 85 86] (.cond (.t 85) (.ops [.m 88 6,.m 89 7,.W 90 91 88 89,.m 87 90,.X 91 0 87,.X 92 1 87,.m 10 91,.m 11 92]) (.q [.b 94 .eql 3 40 11,.m 93 94] (.cond (.t 93) (.q [.m 96 6,.m 97 7,.m 98 8,.V 99 92 96 97 98,.m 95 99,.X 100 0 95,.X 101 1 95,.m 12 100,.m 13 101] (.ops [.m 102 12,.m 103 13,.w 104 149 103,.m 10 102,.m 11 104])) (.q [.b 106 .eql 3 40 12,.m 105 106] (.cond (.t 105) (.q [.m 108 6,.m 109 7,.m 110 8,.V 111 147 108 109 110,.m 107 111,.X 112 0 107,.X 113 1 107,.m 14 112,.m 15 113] (.ops [.m 114 14,.m 115 15,.w 116 149 115,.m 10 114,.m 11 116])) (.q [.b 118 .eql 3 40 13,.m 117 118] (.cond (.t 117) (.q [.m 119 7,.m 10 119] (.q [.m 120 8] (.cond (.t 120) (.ops [.m 121 6,.m 10 121]) .skip))) (.seq (.q [.b 123 .eql 3 40 14,.m 122 123] (.cond (.t 122) .skip (.ops [.b 124 .eql 3 40 15,.m 122 124]))) (.cond (.t 122) (.q [.f 125 7 5,.l 126 125,.m 127 6,.c 128 .add 23 126 127,.m 16 128] (.seq (.seq (.draw [(.m 129 16,[]),(.m 130 0,[]),(.N 131 130,[]),(.f 132 4 131,[]),(.l 133 132,[]),(.f 134 6 5,[]),(.l 135 134,[]),(.I 136 1 133 135,[]),(.l 137 136,[]),(.s 138 137,[]),(.z 139 (.cvInt .u64 (.t 138)),[]),(.c 140 .geq 23 129 139,[])]) (.cond (.t 140) (.q [.F 4] .ret) .skip)) (.q [.m 141 16,.z 142 (.cvInt .i64 (.t 141)),.m 9 142] (.q [.f 143 0 5,.l 144 143,.b 145 .eql 3 144 15] (.cond (.t 145) (.draw [(.m 146 0,[]),(.N 147 146,[]),(.f 148 4 147,[]),(.l 149 148,[]),(.f 150 6 5,[]),(.l 151 150,[]),(.I 152 1 149 151,[]),(.l 153 152,[]),(.m 154 16,[]),(.m 155 7,[]),(.I 156 1 153 154,[]),(.S 1 156 155,[])]) (.draw [(.m 157 0,[]),(.N 158 157,[]),(.f 159 4 158,[]),(.l 160 159,[]),(.f 161 6 5,[]),(.l 162 161,[]),(.I 163 1 160 162,[]),(.l 164 163,[]),(.m 165 16,[]),(.I 166 1 164 165,[]),(.l 167 166,[]),(.m 10 167,[])])))))) .skip)))))))))))))))))))))))))))))) (.seq (.q [.f 168 1 5,.l 169 168,.b 170 .geq 3 169 0] (.cond (.t 170) (.draw [(.m 171 0,[]),(.N 172 171,[]),(.f 173 3 172,[]),(.l 174 173,[]),(.f 175 1 5,[]),(.l 176 175,[]),(.m 177 10,[]),(.I 178 1 174 176,[]),(.S 1 178 177,[])]) .skip)) (.seq (.q [.f 179 2 5,.l 180 179,.b 181 .geq 3 180 0] (.cond (.t 181) (.draw [(.m 182 0,[]),(.N 183 182,[]),(.f 184 3 183,[]),(.l 185 184,[]),(.f 186 2 5,[]),(.l 187 186,[]),(.m 188 11,[]),(.I 189 1 185 187,[]),(.S 1 189 188,[])]) .skip)) (.q [.m 190 0,.m 191 0,.N 192 191,.f 193 5 192,.l 194 193,.m 195 1,.m 196 9,.z 197 (.build [(.i 0),(.i 0)] [(0,1,.t 195),(1,1,.t 196)]),.z 198 (.buildSl 2 1 [(.i 0),(.i 0)] [(0,2,.t 197)]),.a 199 2 194 198,.N 200 190,.f 201 5 200,.S 1 201 199] (.q [.z 4 (.move .T)] .ret))))))))))
def r_ref12_run_do:Ng Tryz.prog 88=some ⟨202,zeh.r,[.tmp 4]⟩:=Aa
def kv(bs:List Bf)(X:List (List UInt64)):Bool:=decide (X.length=bs.length∧∀i,i<bs.length→((X.getD i []).length:Int)=if (Ns bs i).kind=3 then 0 else (Ns bs i).size)
def zp6(regs:Int)(bs:List Bf)(os:List Lo)(F:List (List UInt64))(hX:F.length≤9223372036854775807):Nl 86 [.agg (Nk regs bs os),LN F] (.bool (kv bs F)) []:=by
 refine Of.val rfl (Ni r_ref12_Rows Aa (by simp) ?_);by_cases I:F.length=bs.length
 case neg =>
  have T:¬(F.length:Int)=bs.length:=J
  simp[zcu,Nk,kv,I,T]
 simp[zcu,Nk,I];refine O5 (λY gg G N=>∃i:Nat,gg=[]∧G=[.cells (Nk regs bs os) 0]∧N+i=bs.length∧lk Y 1=LN F∧lk Y 2=.ptr 0 0∧lk Y 5=.i i∧∀B,B<i→((F.getD B []).length:Int)=if (Ns bs B).kind=3 then 0 else (Ns bs B).size) (N:=bs.length)
  ⟨0,rfl,B4,J,Bd,by simp,by simp,λB h=>J⟩ ?_
 rintro N Y gg G ⟨i,rfl,rfl,hN,C,D,K,X⟩ Nx M;by_cases R:i<bs.length
 case neg =>
  have:kv bs F=true:=by
   unfold kv;exact Js ⟨I,λB Z=>X B J⟩
  simp[C,D,K,I,R,this]
 have P:=zgp (Sx R);have Q:=znb (Sx R);have O:i<F.length:=J
 have j:¬F.length≤i:=J
 obtain⟨x,U⟩:∃x,F.getD i []=x:=⟨_,rfl⟩;have z:F[i]=x:=by rw[←U];simp[O]
 have A:¬(x.length:Int)=(if (Ns bs i).kind=3 then 0 else (Ns bs i).size)→kv bs F=false:=λh=>by
  unfold kv;exact Ly (λq=>h (by rw[←U];exact q.2 i R))
 have g:(x.length:Int)=(if (Ns bs i).kind=3 then 0 else (Ns bs i).size)→∀B,B<i+1→((F.getD B []).length:Int)=if (Ns bs B).kind=3 then 0 else (Ns bs B).size:=λh B Z=>by
  by_cases q:B=i
  ·rw[q,U];exact h
  ·exact X B J
 by_cases H:(Ns bs i).kind=3
 ·rw[H7 H]at A g;by_cases e:(x.length:Int)=0
  ·have V:x=[]:=Ip J;have E:=g e;subst V;simp[C,D,K,Nk,R,O,j,Nb P,Nb Q,H,z]
   repeat (refine⟨J,?_⟩)
   exact M _ _ _ ⟨N-1,J,i+1,rfl,B4,J,Al,At,by simp,E⟩
  ·have e':x≠[]:=λq=>e Fu
   simp[C,D,K,Nk,R,O,j,Nb P,Nb Q,H,z,e',A e]
 ·rw[Hx H]at A g;by_cases e:(x.length:Int)=(Ns bs i).size
  ·simp[C,D,K,Nk,R,O,j,Nb P,Nb Q,H,z,e]
   repeat (refine⟨J,?_⟩)
   exact M _ _ _ ⟨N-1,J,i+1,rfl,B4,J,Al,At,by simp,g e⟩
  ·simp[C,D,K,Nk,R,O,j,Nb P,Nb Q,H,z,e,A e]
def U3(l:List (Int×Int)):List LV:=l.flatMap λe=>[.i e.1,.i e.2]
def Z1(a b:List (Int×Int)):U3 (a++b)=U3 a++U3 b:=by simp[U3]
structure MsH (G:M7) (x pr pb kb:Nat) (qs:List Nat) (b:Nat) (regs:Int) (bs:List Bf) (os:List Lo) (L:LV) (s:Ms):Prop where
 xc:∃st,G[x]?=some (.cells [.i regs,.lst (Qc bs) bs.length 3,.lst (Qh os) os.length 8,.dy pr 0,.dy pb kb,L] st)
 rr:∃st,G[pr]?=some (.dyn (s.r.map .u) s.r.length 1 0 st)
 bb:∃st,G[pb]?=some (.dyn (qs.map λq=>.dy q 0) qs.length 1 kb st)
 row:∀j,j<qs.length→∃st,G[qs.getD j 0]?=some (.dyn ((s.bufs.getD j []).map .u) (s.bufs.getD j []).length 1 0 st)
 bl:s.bufs.length=qs.length
 lt:x<b∧pr<b∧pb<b∧x≠pr∧x≠pb∧pr≠pb
 qlt:∀q∈qs,q<b∧q≠x∧q≠pr∧q≠pb
 nd:qs.Nodup
 ev:O8 b G L 2 s.l.length (U3 s.l)
 bG:b≤G.length
section msh
variable {G G' : M7} {x pr pb kb : Nat} {qs : List Nat} {b : Nat} {regs : Int} {bs : List Bf} {os : List Lo} {L : LV} {s : Ms}
def MsH.keep(h:MsH G x pr pb kb qs b regs bs os L s)(hf:∀q,q<G.length→G'[q]?=G[q]?)(hl:G.length≤G'.length):MsH G' x pr pb kb qs b regs bs os L s:=by
 have e:∀{q:Nat} {ob:LObj},G[q]?=some ob→G'[q]?=some ob:=λj=>by rw[hf _ (Hu.1 j).1];exact j
 refine⟨?_,?_,?_,λgg hj=>?_,h.bl,h.lt,h.qlt,h.nd,h.ev.frame λq _ j=>hf q j,Ja h.bG hl⟩
 ·obtain⟨st,h⟩:=h.xc;exact⟨st,e h⟩
 ·obtain⟨st,h⟩:=h.rr;exact⟨st,e h⟩
 ·obtain⟨st,h⟩:=h.bb;exact⟨st,e h⟩
 ·obtain⟨st,h⟩:=h.row gg hj;exact⟨st,e h⟩
def zh6{r:Int}(h:MsH G x pr pb kb qs b regs bs os L s)(B:r<s.r.length)(k:Y (.u (atR s.r r)) G):Ot (.fn 148) [.ptr x 0,.i r] G Y:=by
 refine Ni r_ref12_run_at Aa N ?_;obtain⟨C,j⟩:=h.xc;obtain⟨D,z⟩:=h.rr;unfold atR at k;by_cases A:r<0
 ·rw[H7 A]at k;simp[z9j,A];exact k
 ·rw[Hx A]at k;obtain⟨n,rfl⟩:=Hz (J:0≤r);have g:n<s.r.length:=J
  have q:(s.r.map LV.u)[n]?=some (.u (s.r.getD n 0)):=by simp[g,Hv]
  rw[In]at k;rw[show s.r.getD n 0=s.r[n] from by simp[Hv,g]]at k;simp[z9j,j,z,g,(J:¬((n:Int)<0))];exact k
def MsH.putr(h:MsH G x pr pb kb qs b regs bs os L s){i:Int}{v:UInt64}{st:Nat}:MsH (G.set pr (.dyn ((Nm s.r i v).map .u) s.r.length 1 0 st)) x pr pb kb qs b regs bs os L ⟨s.i,s.first,Nm s.r i v,s.bufs,s.l⟩:=by
 obtain⟨l1,l2,l3,l4,l5,l6⟩:=h.lt;have j:pr<G.length:=by obtain⟨st,h⟩:=h.rr;exact (Hu.1 h).1
 have gg:(Nm s.r i v).length=s.r.length:=Fe
 have ne:∀{q:Nat} {ob:LObj},q≠pr→(G.set pr ob)[q]?=G[q]?:=λhq=>Hw (Ne.symm hq)
 refine⟨?_,⟨st,?_⟩,?_,λgz hj=>?_,h.bl,h.lt,h.qlt,h.nd,h.ev.set_lt l2,by rw[J3];exact h.bG⟩
 ·obtain⟨st,h⟩:=h.xc;exact⟨st,by rw[ne l4];exact h⟩
 ·rw[H0 j];show _=some (LObj.dyn ((Nm s.r i v).map .u) (Nm s.r i v).length 1 0 st);rw[gg]
 ·obtain⟨st,h⟩:=h.bb;exact⟨st,by rw[ne (Ne.symm l6)];exact h⟩
 ·obtain⟨st,h'⟩:=h.row gz hj;refine⟨st,?_⟩;rw[ne (h.qlt _ F9).2.2.1];exact h'
def MsH.sto(h:MsH G x pr pb kb qs b regs bs os L s){j:Nat}{row:List UInt64}{st:Nat}(hj:j<qs.length):MsH (G.set (qs.getD j 0) (.dyn (row.map .u) row.length 1 0 st)) x pr pb kb qs b regs bs os L ⟨s.i,s.first,s.r,s.bufs.set j row,s.l⟩:=by
 obtain⟨l1,l2,l3,l4,l5,l6⟩:=h.lt;obtain⟨q1,q2,q3,q4⟩:=h.qlt (qs.getD j 0) F9;have gz:qs.getD j 0<G.length:=by obtain⟨st,h⟩:=h.row j hj;exact (Hu.1 h).1
 have ne:∀{q:Nat} {ob:LObj},q≠qs.getD j 0→(G.set (qs.getD j 0) ob)[q]?=G[q]?:=λhq=>Hw (Ne.symm hq)
 refine⟨?_,?_,?_,λk hk=>?_,by simpa using h.bl,h.lt,h.qlt,h.nd,h.ev.set_lt q1,by rw[J3];exact h.bG⟩
 ·obtain⟨st,h⟩:=h.xc;exact⟨st,by rw[ne (Ne.symm q2)];exact h⟩
 ·obtain⟨st,h⟩:=h.rr;exact⟨st,by rw[ne (Ne.symm q3)];exact h⟩
 ·obtain⟨st,h⟩:=h.bb;exact⟨st,by rw[ne (Ne.symm q4)];exact h⟩
 ·show ∃gg,_=some (LObj.dyn (((s.bufs.set j row).getD k []).map .u) ((s.bufs.set j row).getD k []).length 1 0 gg);rw[Wd _ _ _ _ _ (by rw[h.bl];exact hj)];by_cases e:k=j
  ·subst e;rw[H7 rfl];exact⟨st,H0 gz⟩
  ·rw[Hx e];obtain⟨gg,h'⟩:=h.row k hk;refine⟨gg,?_⟩;rw[ne (λq=>e ?_)]
   ·exact h'
   ·simp only[Hv,H6 hk,H6 hj,Jz]at q;exact (List.getElem_inj h.nd).1 q
end msh
def zke{regs:Int}{bs:List Bf}{o:Lo}(h:Qg regs bs o=true):(o.d=-1∨0≤o.d∧o.d<regs)∧(o.e=-1∨0≤o.e∧o.e<regs)∧(o.a=-1∨0≤o.a∧o.a<regs)∧(o.b=-1∨0≤o.b∧o.b<regs)∧(o.c=-1∨0≤o.c∧o.c<regs)∧(o.kind=14∨o.kind=15→0≤o.buf∧o.buf<bs.length):=by
 unfold Qg at h;simp only[Hy]at h;obtain⟨_,d,e,a,b,c,_,m⟩:=h;have f:∀{x:Int} {t:Bool},Ri regs x t=true→x=-1∨0≤x∧x<regs:=λ{x t} h=>by
  unfold Ri at h;cases t with
  |true=>simp at h;exact .inr h
  |false=>simp at h;exact .inl h
 refine⟨f d,f e,?_,f b,f c,λk=>?_⟩
 ·simp only[Jd,Hy,Ic]at a;exact a.elim f λq=>.inl q.2
 ·rw[H7 (by unfold Pf;simpa using k)]at m;simp only[Hy,Ic]at m;exact⟨m.1,m.2.1⟩
def PhiD(x pr pb kb:Nat)(qs:List Nat)(b:Nat)(regs:Int)(bs:List Bf)(os:List Lo)(L:LV)(s:Ms)(o:Lo)(z:M7)(j:M9)(B:List Nat)(G:M7):Prop :=
 B=[]∧lk j 0=.ptr x 0∧lk j 1=.i s.i∧∃(A:Nat) (d e:UInt64) (pl:Int) (g:List (List UInt64)),lk j 5=.ptr A 0∧b≤A∧G[A]?=some (.cells o.f 1)∧lk j 9=.i pl∧lk j 10=.u d∧lk j 11=.u e ∧
  MsH G x pr pb kb qs b regs bs os L ⟨s.i,s.first,s.r,g,s.l⟩∧Vm o s=some ⟨s.i+1,s.first,Nm (Nm s.r o.d d) o.e e,g,s.l++[((s.i:Int),pl)]⟩∧∀q,q<b→q ∉ qs→G[q]?=z[q]?
def do_any{G:M7}{x pr pb kb:Nat}{qs:List Nat}{b:Nat}{regs:Int}{bs:List Bf}{os:List Lo}{L:LV}{s:Ms}{o:Lo}(h:MsH G x pr pb kb qs b regs bs os L s)(ho:os[s.i]?=some o)(hf:Qg regs bs o=true)(jX:o.kind≠16)(jY:o.kind≠17)(jZ:(s.r.length:Int)=regs)(j4:qs.length=bs.length)(j5:s.l.length≤900000000)
  (gQ:∀x∈s.bufs,x.length≤65536)
  (kn:Vm o s=none→∀G',Y (.bool false) G') (ks:∀s' G' L',Vm o s=some s'→MsH G' x pr pb kb qs b regs bs os L' s'→(∀q,q<b→q≠x→q≠pr→q ∉ qs→G'[q]?=G[q]?)→Y (.bool true) G'):Ot (.fn 88) [.ptr x 0,.i s.i] G Y:=by
 obtain⟨rd,re,ra,rb,rc,rm⟩:=zke hf;have j6:1≤o.kind∧o.kind≤17:=by
  unfold Qg at hf;simp only[Hy,Ic]at hf;exact hf.1
 have hC:o.f=[.i o.kind,.i o.d,.i o.e,.i o.a,.i o.b,.i o.c,.i o.buf,.u o.imm]:=rfl;have gR:=h.bG;obtain⟨s1,h1⟩:=h.xc;have lx:x<G.length:=(Hu.1 h1).1;have jE:=zdh ho;have jF:=zo3 (Hu.1 ho).1;have gT:s.i<os.length:=(Hu.1 ho).1;refine Ni r_ref12_run_do Aa N ?_;rw[zeh,zg4,zg4,zg4,zg4,zg4];refine Yi (PhiD x pr pb kb qs b regs bs os L s o G) (λNx F=>?_) (λρ jU G2 hΦ=>?_)
 ·simp[h1,gT,jE,jF,hC];have j:(G++[LObj.cells o.f 1])[G.length]?=some (.cells o.f 1):=Il;have E:MsH (G++[LObj.cells o.f 1]) x pr pb kb qs b regs bs os L s:=h.keep (λq H=>Nh H) N;have B:∀q,q<b→q ∉ qs→(G++[LObj.cells o.f 1])[q]?=G[q]?:=λq H _=>Nh (I0 H gR)
  have gI:b≤G.length:=gR;rw[hC]at j E B;generalize G++[LObj.cells [.i o.kind,.i o.d,.i o.e,.i o.a,.i o.b,.i o.c,.i o.buf,.u o.imm] 1]=G1 at *;generalize G.length=jG at *;refine zh6 (r:=o.a) E J ?_;simp[j];refine zh6 (r:=o.b) E J ?_;simp[j];refine zh6 (r:=o.c) E J ?_;have gz:o.kind≠14→o.kind≠15→Vm o s=some ⟨s.i+1,s.first,Nm (Nm s.r o.d (N8 o (atR s.r o.a) (atR s.r o.b) (decide (atR s.r o.c%2=1))).1) o.e (N8 o (atR s.r o.a) (atR s.r o.b) (decide (atR s.r o.c%2=1))).2,s.bufs,s.l++[((s.i:Int),(-1:Int))]⟩:=λe1 e2=>by
   unfold Vm;rw[Hx e1,Hx e2]
  generalize gK:atR s.r o.a=z at *;generalize jH:atR s.r o.b=A at *;generalize j7:atR s.r o.c=vc at *;by_cases km:o.kind=14∨o.kind=15
  ·obtain⟨m0,m1⟩:=rm km;obtain⟨Q,gA⟩:=Hz m0;have I:Q<qs.length:=J
   obtain⟨s3,h3⟩:=E.row Q I;obtain⟨s4,h4⟩:=E.bb;obtain⟨s5,h5⟩:=E.xc;have gF:(qs.map λq=>LV.dy q 0)[Q]?=some (.dy (qs.getD Q 0) 0):=by simp[Hv,I]
   have gL:Uh s.bufs o.buf=s.bufs.getD Q []:=by unfold Uh;rw[gA];rfl
   have gU:(s.bufs.getD Q []).length≤65536:=gQ _ (by simp[Hv,h.bl,I]);have gV:=λ(jI:List UInt64) (jK:Nat)=>E.sto (row:=jI) (st:=jK) I
   have j8:=(h.qlt (qs.getD Q 0) (by simp[Hv,I])).1;have jL:qs.getD Q 0∈qs:=by simp[Hv,I]
   have j9:qs.getD Q 0<G1.length:=(Hu.1 h3).1;have gg:iU (((s.bufs.getD Q []).length:Nat):Int)≤o.imm+z↔(s.bufs.getD Q []).length≤(o.imm+z).toNat:=by
    rw[Jc,V4 J]
   generalize s.bufs.getD Q []=K at *;generalize qs.getD Q 0=qn at *;generalize hn:(o.imm+z).toNat=n at *;by_cases C:n<K.length
   case neg =>
    have gY:K.length≤n:=J
    have gZ:Vm o s=none:=by
     unfold Vm;rw[gL,gK,hn,Hx C,Hx C];rcases km with k|k
     ·rw[H7 k]
     ·rw[Hx J,H7 k]
    rcases km with k|k
    ·simp[j,k,h3,h4,h5,gA,I,Nb gF,Vc,gg,gY,Nk];exact kn gZ _
    ·simp[j,k,h3,h4,h5,gA,I,Nb gF,Vc,gg,gY,Nk];exact kn gZ _
   have gG:¬K.length≤n:=J
   rcases km with k|k
   ·have gM:Vm o s=some ⟨s.i+1,s.first,Nm (Nm s.r o.d K[n]) o.e 0,s.bufs,s.l++[((s.i:Int),(n:Int))]⟩:=by
     unfold Vm;rw[gL,gK,hn,H7 k,H7 C];simp[Hv,C]
    simp[j,k,h3,h4,h5,gA,I,Nb gF,Vc,gg,gG,hn,C,Nk]
    repeat (refine⟨J,?_⟩)
    exact F _ _ _ ⟨rfl,N,N,jG,_,_,(n:Int),s.bufs,N,gI,j,N,N,N,E,gM,B⟩
   ·have gM:Vm o s=some ⟨s.i+1,s.first,Nm (Nm s.r o.d 0) o.e 0,s.bufs.set Q (K.set n A),s.l++[((s.i:Int),(n:Int))]⟩:=by
     unfold Vm;rw[gL,gK,jH,hn,Hx J,H7 k,H7 C,gA];rfl
    have e1:Oq (K.map LV.u) n [.u A]=(K.set n A).map LV.u:=by
     rw[zye Cm,Ji]
    simp[j,k,h3,h4,h5,gA,I,Nb gF,Vc,gg,gG,hn,C,Nk,e1]
    repeat (refine⟨J,?_⟩)
    have O:=gV (K.set n A) (s3+1);simp only[Ji,J3]at O;refine F _ _ _ ⟨rfl,N,N,jG,0,0,(n:Int),s.bufs.set Q (K.set n A),N,gI,?_,N,N,N,O,gM,λq H D=>?_⟩
    ·rw[Hw (λe=>by rw[e,j]at h3;cases h3)];exact j
    ·rw[Hw (λe=>D (by rw[←e];exact jL))];exact B q H D
  have jM:o.kind≠14:=λq=>km (.inl q)
  have jO:o.kind≠15:=λq=>km (.inr q)
  have gz:=gz jM jO;have g:∀(ρ':M9),lk ρ' 0=.ptr x 0→lk ρ' 1=.i s.i→lk ρ' 5=.ptr jG 0→lk ρ' 9=.i (-1)→lk ρ' 10=.u (N8 o z A (decide (vc%2=1))).1→lk ρ' 11=.u (N8 o z A (decide (vc%2=1))).2→Nx ρ' [] G1:=by
   intro ρ' R T a5 U gC M;exact F _ _ _ ⟨rfl,R,T,jG,_,_,-1,s.bufs,a5,gI,j,U,gC,M,E,gz,B⟩
  clear gz F h E kn ks;by_cases k1:o.kind=1
  ·have hv:∀c,N8 o z A c=(o.imm,0):=λc=>by unfold N8;simp[k1]
   rw[hv]at g;simp[j,k1];exact g _ N N N N A0 N
  by_cases k2:o.kind=2
  ·have hv:∀c,N8 o z A c=(z,0):=λc=>by unfold N8;simp[k2]
   rw[hv]at g;simp[j,k2];exact g _ N N N N A0 N
  by_cases k3:o.kind=3
  ·have hv:∀c,N8 o z A c=(z+A,0):=λc=>by unfold N8;simp[k3]
   rw[hv]at g;simp[j,k3];exact g _ N N N N A0 N
  by_cases k4:o.kind=4
  ·have hv:∀c,N8 o z A c=(z-A,0):=λc=>by unfold N8;simp[k4]
   rw[hv]at g;simp[j,k4];exact g _ N N N N A0 N
  by_cases k5:o.kind=5
  ·have hv:∀c,N8 o z A c=(z &&& A,0):=λc=>by unfold N8;simp[k5]
   rw[hv]at g;simp[j,k5];exact g _ N N N N A0 N
  by_cases k6:o.kind=6
  ·have hv:∀c,N8 o z A c=(z ||| A,0):=λc=>by unfold N8;simp[k6]
   rw[hv]at g;simp[j,k6];exact g _ N N N N A0 N
  by_cases k7:o.kind=7
  ·have hv:∀c,N8 o z A c=(z ^^^ A,0):=λc=>by unfold N8;simp[k7]
   rw[hv]at g;simp[j,k7];exact g _ N N N N A0 N
  by_cases k8:o.kind=8
  ·have hv:∀c,N8 o z A c=(UInt64.ofNat (z.toNat*2^o.imm.toNat),0):=λc=>by unfold N8;simp[k8]
   rw[hv]at g;simp[j,k8];exact g _ N N N N A0 N
  by_cases k9:o.kind=9
  ·have hv:∀c,N8 o z A c=(UInt64.ofNat (z.toNat/2^o.imm.toNat),0):=λc=>by unfold N8;simp[k9]
   rw[hv]at g;simp[j,k9];exact g _ N N N N A0 N
  by_cases g9:o.kind=10
  ·have hv:∀c,N8 o z A c=(T2 z A,z*A):=λc=>by unfold N8;simp[g9]
   rw[hv]at g;simp[j,g9];refine Nt (zi6 z A) (bors_self _ rfl) ?_;simp;exact g _ N N N N N N
  by_cases jg:o.kind=11
  ·have hv:∀c,N8 o z A c=((Nr z A c).1,Oe (Nr z A c).2):=λc=>by unfold N8;simp[jg]
   rw[hv]at g;simp[j,jg,zkf];refine Nt (z53 z A (decide (vc%2=1))) (bors_self _ rfl) ?_;simp;refine Nt (zhp _) (bors_self _ rfl) ?_;simp;exact g _ N N N N N N
  by_cases jz:o.kind=12
  ·have hv:∀c,N8 o z A c=((Ov z A c).1,Oe (Ov z A c).2):=λc=>by unfold N8;simp[jz]
   rw[hv]at g;simp[j,jz,zkf];refine Nt (zhl z A (decide (vc%2=1))) (bors_self _ rfl) ?_;simp;refine Nt (zhp _) (bors_self _ rfl) ?_;simp;exact g _ N N N N N N
  by_cases gO:o.kind=13
  ·have hv:∀c,N8 o z A c=(if c then z else A,0):=λc=>by unfold N8;simp[gO]
   rw[hv]at g;by_cases c1:vc%2=1
   ·simp[j,gO,c1,zkf];exact g _ N N N N (by simp[c1]) N
   ·simp[j,gO,c1,zkf];exact g _ N N N N (by simp[c1]) N
  omega
 ·obtain⟨rfl,R,T,jG,d,e,pl,gH,a5,bz,hz,U,gC,M,hm,gz,B⟩:=hΦ;rw[gz]at ks;rw[hC]at hz;have jA:∀(i:Int) (v:UInt64) (r:List UInt64),(Nm r i v).length=r.length:=λi v r=>Fe
  refine Yi (λρ jU G'=>jU=[]∧lk ρ 0=.ptr x 0∧lk ρ 1=.i s.i∧lk ρ 5=.ptr jG 0∧G'[jG]?=some (.cells [.i o.kind,.i o.d,.i o.e,.i o.a,.i o.b,.i o.c,.i o.buf,.u o.imm] 1)∧lk ρ 9=.i pl∧lk ρ 11=.u e∧MsH G' x pr pb kb qs b regs bs os L ⟨s.i,s.first,Nm s.r o.d d,gH,s.l⟩∧∀q,q<b→q≠pr→q ∉ qs→G'[q]?=G[q]?) (λNx F=>?_) (λρ jU G3 h3=>?_)
  ·obtain⟨t1,V⟩:=hm.xc;obtain⟨t2,X⟩:=hm.rr;dsimp only at X;by_cases d0:0≤o.d
   ·obtain⟨dn,Z⟩:=Hz d0;have gD:dn<s.r.length:=J
    have e1:Oq (s.r.map LV.u) dn [.u d]=(Nm s.r o.d d).map LV.u:=by
     rw[zye (by simpa using gD),Nm,H7 d0,Z,Ji];rfl
    have O:=hm.putr (i:=o.d) (v:=d) (st:=t2+1);dsimp only at O;simp[R,T,a5,U,gC,hz,V,X,Z,gD,e1];rw[←Z];refine⟨J,F _ _ _ ⟨rfl,?_,?_,?_,?_,?_,?_,O,λq H P D=>?_⟩⟩
    ·simp[R]
    ·simp[T]
    ·simp[a5]
    rotate_left
    ·simp[U]
    ·simp[M]
    rotate_left
    ·rw[Hw (λe=>by rw[e,hz]at X;cases X)];exact hz
    ·rw[Hw (Ne.symm P)];exact B q H D
   ·have e1:Nm s.r o.d d=s.r:=by unfold Nm;rw[Hx d0]
    simp[R,T,a5,U,gC,hz,d0];refine F _ _ _ ⟨rfl,?_,?_,?_,hz,?_,?_,e1.symm ▸ hm,λq H _ D=>B q H D⟩
    all_goals simp[R,T,a5,U,M]
  clear R T a5 U gC M hm B hz;obtain⟨rfl,R,T,a5,hz,U,M,hm,B⟩:=h3;have gU:=jA o.d d s.r;generalize Nm s.r o.d d=r1 at *;refine Yi (λρ jU G'=>jU=[]∧lk ρ 0=.ptr x 0∧lk ρ 1=.i s.i∧lk ρ 9=.i pl∧MsH G' x pr pb kb qs b regs bs os L ⟨s.i,s.first,Nm r1 o.e e,gH,s.l⟩∧∀q,q<b→q≠pr→q ∉ qs→G'[q]?=G[q]?) (λNx F=>?_) (λρ jU G4 h4=>?_)
  ·obtain⟨t1,V⟩:=hm.xc;obtain⟨t2,X⟩:=hm.rr;dsimp only at X;by_cases d0:0≤o.e
   ·obtain⟨dn,Z⟩:=Hz d0;have gD:dn<r1.length:=J
    have e1:Oq (r1.map LV.u) dn [.u e]=(Nm r1 o.e e).map LV.u:=by
     rw[zye (by simpa using gD),Nm,H7 d0,Z,Ji];rfl
    have O:=hm.putr (i:=o.e) (v:=e) (st:=t2+1);dsimp only at O;simp[R,T,a5,U,M,hz,V,X,Z,gD,e1];rw[←Z];refine⟨J,F _ _ _ ⟨rfl,?_,?_,?_,O,λq H P D=>?_⟩⟩
    ·simp[R]
    ·simp[T]
    ·simp[U]
    rw[Hw (Ne.symm P)];exact B q H P D
   ·have e1:Nm r1 o.e e=r1:=by unfold Nm;rw[Hx d0]
    simp[R,T,a5,U,M,hz,d0];refine F _ _ _ ⟨rfl,?_,?_,?_,e1.symm ▸ hm,λq H P D=>B q H P D⟩
    all_goals simp[R,T,U]
  clear R T a5 U M hm B hz;obtain⟨rfl,R,T,U,hm,B⟩:=h4;generalize Nm r1 o.e e=r2 at *;obtain⟨t1,V⟩:=hm.xc;have jP:x<G4.length:=(Hu.1 V).1;have q1:∀y:List LObj,(G4++y)[x]?=_:=λy=>(Nh jP).trans V
  simp[R,T,U,V,↓q1];refine O8.push2 (x:=[.i (s.i:Int),.i pl]) hm.ev.push_end J (by simp;have:=hm.bG;omega) (by show s.l.length≤_;omega) rfl rfl λL' G5 jB gP jQ zg=>?_
  have jV:=hm.bG;have jC:G5[x]?=_:=(gP x Ab (λe=>by have:=(hm.ev.row e).1;have:=h.lt.1;omega)).trans (q1 _);have jR:L'.cells=some [L']:=jB.cells;simp[-LV.cells,jR,jC];refine ks _ _ L' rfl ?_ ?_
  ·obtain⟨l1,l2,l3,l4,l5,l6⟩:=hm.lt;have jD:x<G5.length:=(Hu.1 jC).1;have ne:∀{q:Nat} {ob:LObj},q≠x→(G5.set x ob)[q]?=G5[q]?:=λH=>Hw (Ne.symm H)
   have gE:∀{q:Nat} {ob:LObj},q<b→G4[q]?=some ob→G5[q]?=some ob:=λ{q ob} H ho=>by
    rw[gP q Ab (λe=>Ea),Nh (Hu.1 ho).1];exact ho
   refine⟨⟨t1+1,H0 jD⟩,?_,?_,λzj hj=>?_,hm.bl,hm.lt,hm.qlt,hm.nd,?_,by rw[J3];simp at jQ;omega⟩
   ·obtain⟨st,h⟩:=hm.rr;exact⟨st,by rw[ne (Ne.symm l4)];exact gE l2 h⟩
   ·obtain⟨st,h⟩:=hm.bb;exact⟨st,by rw[ne (Ne.symm l5)];exact gE l3 h⟩
   ·obtain⟨st,h⟩:=hm.row zj hj;have H:=hm.qlt (qs.getD zj 0) F9;exact⟨st,by rw[ne H.2.1];exact gE H.1 h⟩
   ·show O8 b _ L' 2 (s.l++[((s.i:Int),pl)]).length (U3 (s.l++[((s.i:Int),pl)]));rw[Z1,H9];exact jB.set_lt l1
  ·intro q H jT P D;rw[Hw (Ne.symm jT),gP q Ab (λe=>Ea),Nh J];exact B q H P D
end
end Go.Proofs.YtodjkjimaheggaaGreat
end
