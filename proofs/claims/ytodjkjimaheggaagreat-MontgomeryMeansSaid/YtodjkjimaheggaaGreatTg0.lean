/- The templates: see the main text. -/
import Derived.Test.YtodjkjimaheggaaGreatSvG3
import Derived.Test.YtodjkjimaheggaaGreatSvG2
import Derived.Test.YtodjkjimaheggaaGreatProg
import Derived.KernelRfl
set_option linter.defProp false
namespace Go.Sv
abbrev LI.z (d : Nat) (o : LOp) : LI := ⟨some d, none, o⟩
abbrev LI.m (d t : Nat) : LI := ⟨some d, none, .move (.t t)⟩
abbrev LI.l (d t : Nat) : LI := ⟨some d, none, .load1 (.t t)⟩
abbrev LI.f (d n t : Nat) : LI := ⟨some d, none, .fieldAddr n (.t t)⟩
abbrev LI.y (d g : Nat) (o : LOp) : LI := ⟨some d, some (g, true), o⟩
abbrev LI.n (d g : Nat) (o : LOp) : LI := ⟨some d, some (g, false), o⟩
abbrev LI.my (d g t : Nat) : LI := ⟨some d, some (g, true), .move (.t t)⟩
abbrev LI.mn (d g t : Nat) : LI := ⟨some d, some (g, false), .move (.t t)⟩
abbrev LI.v (o : LOp) : LI := ⟨none, none, o⟩
abbrev LOp.w (f : Nat) (l : List Lx) : LOp := .callV (.c (.fn (.func f) [] [])) l
abbrev Lx.k (n : Int) : Lx := .c (.i n)
abbrev Lx.T : Lx := .c (.bool true)
abbrev Lx.F : Lx := .c (.bool false)
abbrev LC.q (l : List LI) (s : LC) : LC := .seq (.ops l) s
abbrev LI.N (d a : Nat) : LI := .z d (.nilChk (.t a))
abbrev LI.L (d n a : Nat) : LI := .z d (.loadN n (.t a))
abbrev LI.I (d n a b : Nat) : LI := .z d (.ixAddr n (.t a) (.t b))
abbrev LI.b (d : Nat) (o : BinOp) (t a : Nat) (k : Int) : LI := .z d (.bin o true t (.t a) (.k k))
abbrev LI.c (d : Nat) (o : BinOp) (t a b : Nat) : LI := .z d (.bin o false t (.t a) (.t b))
abbrev LI.u (d : Nat) (o : BinOp) (t a : Nat) (k : UInt64) : LI := .z d (.bin o true t (.t a) (.c (.u k)))
abbrev LI.nb (d g : Nat) (o : BinOp) (t a : Nat) (k : Int) : LI := .n d g (.bin o true t (.t a) (.k k))
abbrev LI.p (d a b : Nat) : LI := .z d (.pick (.t a) .T (.t b))
abbrev LI.q (d a b : Nat) : LI := .z d (.pick (.t a) (.t b) .F)
abbrev LI.K (d : Nat) (k : Int) : LI := .z d (.move (.k k))
abbrev LI.F (d : Nat) : LI := .z d (.move .F)
abbrev LI.e (d : Nat) : LI := .z d (.move (.c .nilSl))
abbrev LI.S (n a b : Nat) : LI := .v (.store n (.t a) (.t b))
abbrev LI.s (d a : Nat) : LI := .z d (.lenSl (.t a))
abbrev LI.x (d a : Nat) : LI := .z d (.box (.t a))
abbrev LI.X (d n a : Nat) : LI := .z d (.extract n (.t a))
abbrev LI.w (d f a : Nat) : LI := .z d (.w f [.t a])
abbrev LI.W (d f a b : Nat) : LI := .z d (.w f [.t a, .t b])
abbrev LI.V (d f a b c : Nat) : LI := .z d (.w f [.t a, .t b, .t c])
abbrev LI.nf (d g n a : Nat) : LI := .n d g (.fieldAddr n (.t a))
abbrev LI.yf (d g n a : Nat) : LI := .y d g (.fieldAddr n (.t a))
abbrev LI.nl (d g a : Nat) : LI := .n d g (.load1 (.t a))
abbrev LI.yl (d g a : Nat) : LI := .y d g (.load1 (.t a))
abbrev LI.a (d n a b : Nat) : LI := .z d (.appG n (.t a) (.t b))
end Go.Sv
noncomputable section
namespace Go.Proofs.YtodjkjimaheggaaGreat
open Go.Sv
set_option linter.unusedSimpArgs false
set_option maxRecDepth 10000
variable{g j A:Nat}{z C v8:Int}{V:UInt64}{vU:Type}{vP:List Int}{D:List LV}{G:Mp}{Y:LV→Mp→Prop}{vX:List Vr}{X:List Bf}{v6:List Lo}{vA:Pc}
abbrev Mu := Ng Tryz.prog
abbrev Od := Ra Tryz.prog
abbrev Ol := Qn Tryz.prog
def U6:LC:=(.q [.K 2 0,.F 3] (.seq (.q [.m 4 0] (.block 0 (.q [.b 6 .eql 3 4 1,.m 5 6] (.cond (.t 5) (.q [.K 2 1,.z 3 (.move .T)] .ret) (.q [.b 8 .eql 3 4 2,.m 7 8] (.cond (.t 7) (.q [.K 2 5,.z 3 (.move .T)] .ret) (.seq (.q [.b 10 .eql 3 4 3,.m 9 10] (.cond (.t 9) .skip (.q [.b 11 .eql 3 4 4,.m 9 11] (.cond (.t 9) .skip (.q [.b 12 .eql 3 4 5,.m 9 12] (.cond (.t 9) .skip (.q [.b 13 .eql 3 4 6,.m 9 13] (.cond (.t 9) .skip (.ops [.b 14 .eql 3 4 7,.m 9 14]))))))))) (.cond (.t 9) (.q [.K 2 13,.z 3 (.move .T)] .ret) (.seq (.q [.b 16 .eql 3 4 8,.m 15 16] (.cond (.t 15) .skip (.q [.b 17 .eql 3 4 10,.m 15 17] (.cond (.t 15) .skip (.q [.b 18 .eql 3 4 11,.m 15 18] (.cond (.t 15) .skip (.q [.b 19 .eql 3 4 12,.m 15 19] (.cond (.t 15) .skip (.ops [.b 20 .eql 3 4 13,.m 15 20]))))))))) (.cond (.t 15) (.q [.K 2 29,.z 3 (.move .T)] .ret) (.q [.b 22 .eql 3 4 9,.m 21 22] (.cond (.t 21) (.q [.K 2 21,.z 3 (.move .T)] .ret) (.q [.b 24 .eql 3 4 14,.m 23 24] (.cond (.t 23) (.q [.K 2 19,.z 3 (.move .T)] .ret) (.seq (.q [.b 26 .eql 3 4 15,.m 25 26] (.cond (.t 25) .skip (.ops [.b 27 .eql 3 4 16,.m 25 27]))) (.cond (.t 25) (.q [.K 2 0,.z 3 (.move .T)] .ret) .skip)))))))))))))))) (.q [.K 2 0,.F 3] .ret)))
def r_lengths_shape:My Tryz.prog 187=some ⟨28,U6.r,[.tmp 2,.tmp 3]⟩:=Aa
def z3b:LC:=(.q [.x 1 0,.F 2] (.seq (.q [.f 3 0 1,.l 4 3] (.block 0 (.q [.b 6 .eql 3 4 1,.m 5 6] (.cond (.t 5) (.q [.z 2 (.move .T)] .ret) (.q [.b 8 .eql 3 4 13,.m 7 8] (.cond (.t 7) (.q [.f 9 6 1,.l 10 9,.u 11 .geq 23 10 1,.m 12 11,.yf 13 12 6 1,.yl 14 12 13,.y 15 12 (.bin .leq true 23 (.t 14) (.c (.u 6))),.q 16 12 15,.m 2 16] .ret) (.q [.b 18 .eql 3 4 15,.m 17 18] (.cond (.t 17) (.q [.f 19 6 1,.l 20 19,.u 21 .geq 23 20 1,.m 22 21,.yf 23 22 6 1,.yl 24 22 23,.y 25 22 (.bin .leq true 23 (.t 24) (.c (.u 4096))),.q 26 22 25,.m 2 26] .ret) .skip)))))))) (.q [.f 27 6 1,.l 28 27,.u 29 .eql 23 28 0,.m 2 29] .ret)))
def r_lengths_number:My Tryz.prog 188=some ⟨30,z3b.r,[.tmp 2]⟩:=Aa
def zb0:LC:=(.q [.x 1 0,.z 2 (.alloc [(.i 0),(.i 0),(.i 0),(.i 0),(.i 0)])] (.q [.f 3 1 1,.l 4 3,.f 5 2 1,.l 6 5,.f 7 3 1,.l 8 7,.f 9 4 1,.l 10 9,.f 11 5 1,.l 12 11,.z 13 (.build [(.i 0),(.i 0),(.i 0),(.i 0),(.i 0)] [(0,1,.t 4),(1,1,.t 6),(2,1,.t 8),(3,1,.t 10),(4,1,.t 12)]),.S 5 2 13] .ret))
def r_lengths_parts:My Tryz.prog 189=some ⟨14,zb0.r,[.cellN 2 5]⟩:=Aa
def zb6:LC:=(.q [.x 1 0,.F 2] (.q [.f 3 2 1,.l 4 3,.b 5 .eql 3 4 1,.m 6 5,.nf 7 6 2 1,.nl 8 6 7,.nb 9 6 .eql 3 8 2,.p 10 6 9,.m 2 10] .ret))
def r_lengths_given:My Tryz.prog 167=some ⟨11,zb6.r,[.tmp 2]⟩:=Aa
def z6j:LC:=(.q [.F 3] (.q [.m 4 0,.b 5 .geq 3 4 0,.m 6 5,.my 7 6 0,.yl 8 6 1,.y 9 6 (.lenSl (.t 8)),.y 10 6 (.bin .lss false 3 (.t 7) (.t 9)),.q 11 6 10,.m 3 11] .ret))
def r_lengths_need_1:My Tryz.prog 186=some ⟨12,z6j.r,[.tmp 3]⟩:=Aa
def z4g:LC:=(.q [.x 2 0,.x 3 1,.F 4] (.q [.z 6 (.mkFunc 186 [] [.t 2]),.m 5 6] (.seq (.q [.f 7 1 3,.l 8 7,.b 9 .neq 3 8 (-1),.m 10 9,.nf 11 10 2 3,.nl 12 10 11,.nb 13 10 .neq 3 12 (-1),.p 14 10 13,.m 15 14,.nf 16 15 5 3,.nl 17 15 16,.nb 18 15 .neq 3 17 (-1),.p 19 15 18,.m 20 19,.mn 21 20 5,.nf 22 20 3 3,.nl 23 20 22,.n 24 20 (.callV (.t 21) [.t 23]),.n 25 20 (.un .not (.t 24)),.p 26 20 25] (.cond (.t 26) (.q [.F 4] .ret) .skip)) (.seq (.q [.f 27 6 3,.l 28 27] (.block 0 (.q [.u 30 .eql 23 28 2,.m 29 30] (.cond (.t 29) (.q [.m 31 5,.f 32 4 3,.l 33 32,.z 34 (.callV (.t 31) [.t 33]),.m 4 34] .ret) (.seq (.q [.u 36 .eql 23 28 1,.m 35 36] (.cond (.t 35) .skip (.ops [.u 37 .eql 23 28 3,.m 35 37]))) (.cond (.t 35) (.q [.f 38 4 3,.l 39 38,.b 40 .eql 3 39 (-1),.m 4 40] .ret) .skip)))))) (.q [.F 4] .ret)))))
def r_lengths_need:My Tryz.prog 166=some ⟨41,z4g.r,[.tmp 4]⟩:=Aa
def z47:LC:=(.q [.K 4 0] (.seq (.q [.m 6 0,.s 7 6,.K 8 0] (.block 0 (.loop (.q [.c 9 .lss 3 8 7] (.seq (.cond (.t 9) .skip (.exit 0)) (.seq (.block 1 (.q [.m 10 8,.m 5 10] (.q [.m 11 1,.m 12 0,.m 13 5,.I 14 1 12 13,.l 15 14,.z 16 (.callV (.t 11) [.t 15])] (.cond (.t 16) (.q [.m 17 5,.m 4 17] .ret) .skip)))) (.ops [.b 18 .add 3 8 1,.m 8 18]))))))) (.q [.K 4 (-1)] .ret)))
def r_slices_IndexFunc_int_int:My Tryz.prog 192=some ⟨19,z47.r,[.tmp 4]⟩:=Aa
def z3a:LC:=(.q [.F 4] (.q [.m 5 0,.m 6 1,.W 7 192 5 6,.b 8 .geq 3 7 0,.m 4 8] .ret))
def r_slices_ContainsFunc_int_int:My Tryz.prog 169=some ⟨9,z3a.r,[.tmp 4]⟩:=Aa
def gn(a b:Bool):Q9 Tryz.prog false 4 (.bool a) (.bool b)=some (a==b):=by cases a<;>cases b<;>kernel_rfl
def zgn(k:Int):Mu 187 [.i k] (.tup [.i (((O0 k).getD 0:Nat):Int),.bool (O0 k).isSome]) []:=by
 refine Ng.val rfl (Mz r_lengths_shape Aa N ?_);by_cases E:k=1;· subst E;simp[U6,O0]
 by_cases F:k=2;· subst F;simp[U6,O0]
 by_cases G:k=3;· subst G;simp[U6,O0]
 by_cases H:k=4;· subst H;simp[U6,O0]
 by_cases I:k=5;· subst I;simp[U6,O0]
 by_cases K:k=6;· subst K;simp[U6,O0]
 by_cases L:k=7;· subst L;simp[U6,O0]
 by_cases M:k=8;· subst M;simp[U6,O0]
 by_cases O:k=9;· subst O;simp[U6,O0]
 by_cases g:k=10;· subst g;simp[U6,O0]
 by_cases j:k=11;· subst j;simp[U6,O0]
 by_cases z:k=12;· subst z;simp[U6,O0]
 by_cases A:k=13;· subst A;simp[U6,O0]
 by_cases B:k=14;· subst B;simp[U6,O0]
 by_cases C:k=15;· subst C;simp[U6,O0]
 by_cases D:k=16;· subst D;simp[U6,O0]
 simp[U6,O0,E,F,G,H,I,K,L,M,O,g,j,z,A,B,C,D]
def zf0(o:Ko):Mu 188 [.agg o.f] (.bool (Qv o)) []:=by
 refine Ng.val rfl (Mz r_lengths_number Aa N ?_);by_cases g:o.kind=1;· simp[z3b,Ko.f,Qv,g]
 by_cases j:o.kind=13
 ·by_cases A:1≤o.imm<;>simp[z3b,Ko.f,Qv,g,j,A]
 by_cases z:o.kind=15
 ·by_cases A:1≤o.imm<;>simp[z3b,Ko.f,Qv,g,j,z,A]
 simp[z3b,Ko.f,Qv,g,j,z]
def z9t(o:Ko):Mu 189 [.agg o.f] (.agg [.i o.d,.i o.e,.i o.a,.i o.b,.i o.c]) []:=by
 refine Ng.val rfl (Mz r_lengths_parts Aa N ?_);simp[zb0,Ko.f]
def z9w(v:Vr):Mu 167 [.agg v.f] (.bool (Q2 v)) []:=by
 refine Ng.val rfl (Mz r_lengths_given Aa N ?_);by_cases g:v.mode=1<;>simp[zb6,Vr.f,Q2,g]
def zl6{p n st:Nat}{c:List LV}(v:Int)(g:G[p]?=some (.cells [.lst c n 3] st))(k:Y (.bool (Qq n v)) G):Ol (.fn 186) [.i v,.ptr p 0] G Y:=by
 refine Mz r_lengths_need_1 Aa N ?_;by_cases j:0≤v
 ·by_cases z:v<n<;>simp[z6j,g,Qq,j,z]at k ⊢<;>exact k
 ·simp[z6j,g,Qq,j]at k ⊢;exact k
def zae(c:List LV)(n:Nat)(o:Ko):Mu 166 [.lst c n 3,.agg o.f] (.bool (Rd n o)) []:=by
 refine Ng.val rfl (Mz r_lengths_need Aa N ?_);by_cases g:o.d=-1
 case neg=>simp[z4g,Ko.f,Rd,g]
 by_cases j:o.e=-1
 case neg=>simp[z4g,Ko.f,Rd,g,j]
 by_cases z:o.c=-1
 case neg=>simp[z4g,Ko.f,Rd,g,j,z]
 simp[z4g,Ko.f,g,j,z];refine zl6 o.a rfl ?_;cases A:Qq n o.a with
 |false=>simp[Rd,A]
 |true =>
  by_cases B:o.imm=2
  ·simp[B];refine zl6 o.b rfl ?_;simp[Rd,g,j,z,A,B]
  by_cases C:o.imm=1
  ·simp[Rd,g,j,z,A,B,C]
  by_cases D:o.imm=3
  ·simp[Rd,g,j,z,A,B,C,D]
  simp[Rd,g,j,z,A,B,C,D]
def zed{l:List Int}{f:Nat}{a b:List LV}{p:Int→Bool}(R:l.length≤9223372036854775807)
  (P:∀v∈l,∀F:LV→Mp→Prop,F (.bool (p v)) G→Ol (.fn f) (a++[.i v]++b) G F) (k:Y (.i (ac p l)) G):Ol (.fn 192) [.lst (l.map .i) l.length 1,.fn (.func f) a b] G Y:=by
 refine Mz r_slices_IndexFunc_int_int Aa (by simp) ?_;simp[z47];refine Oc (λH Q I N=>∃i:Nat,Q=[]∧I=G∧N+i=l.length∧lk H 0=.lst (l.map .i) l.length 1∧lk H 1=.fn (.func f) a b∧lk H 7=.i l.length∧lk H 8=.i i∧∀K b,K<i→l[K]?=some b→p b=false) (N:=l.length) ⟨0,by simp⟩ ?_;rintro N H Q I ⟨i,rfl,rfl,T,j,z,A,B,C⟩ U D;by_cases hi:l.length≤i
 ·have L:¬i<l.length:=J
  simp[j,z,A,B,L];rw[←zuk hi C];exact k
 ·have L:i<l.length:=J
  have E:=Ht L;simp[j,z,A,B,L];simp[Mr (Vs (f:=LV.i) E)];have M:=P l[i] (Kj L);simp only[I8,List.singleton_append]at M;refine M _ ?_;cases O:p l[i] with
  |true =>
   simp;rw[←lf E O C];exact k
  |false =>
   simp[B];refine⟨J,D _ _ _ ⟨N-1,J,i+1,rfl,rfl,J,Af,Ae,Ar,by simp,λK b V g=>?_⟩⟩;by_cases e:K=i
   ·subst e;rw[E]at g;cases g;exact O
   ·exact C K b J g
def z6h{l:List Int}{f:Nat}{a b:List LV}{p:Int→Bool}(j:l.length≤9223372036854775807)
  (z:∀v∈l,∀g:LV→Mp→Prop,g (.bool (p v)) G→Ol (.fn f) (a++[.i v]++b) G g) (k:Y (.bool (l.any p)) G):Ol (.fn 169) [.lst (l.map .i) l.length 1,.fn (.func f) a b] G Y:=by
 refine Mz r_slices_ContainsFunc_int_int Aa N ?_;simp[z3a];refine zed j z ?_;simp;rw[Xx];exact k
def zb8:LC:=(.q [.z 0 (.move (.c .nilMap))] (.q [.z 1 (.move (.c (.fn (.func 207) [] [])))] (.q [.z 2 (.mkMap0),.v (.mapUpd (.int .i64) (.t 2) (.k 6) (.c (.fn (.func 208) [] []))),.v (.mapUpd (.int .i64) (.t 2) (.k 14) (.c (.fn (.func 209) [] []))),.v (.mapUpd (.int .i64) (.t 2) (.k 8) (.c (.fn (.func 210) [] []))),.v (.mapUpd (.int .i64) (.t 2) (.k 9) (.c (.fn (.func 211) [] []))),.m 3 1,.v (.mapUpd (.int .i64) (.t 2) (.k 10) (.t 3)),.m 4 1,.v (.mapUpd (.int .i64) (.t 2) (.k 11) (.t 4)),.m 5 1,.v (.mapUpd (.int .i64) (.t 2) (.k 12) (.t 5)),.v (.mapUpd (.int .i64) (.t 2) (.k 13) (.c (.fn (.func 212) [] []))),.m 6 2,.m 0 6] .ret)))
def r_lengths_alike:My Tryz.prog 198=some ⟨7,zb8.r,[.tmp 0]⟩:=Aa
def z8o:LC:=(.q [.x 1 0,.e 2] (.q [.f 3 1 1,.l 4 3,.f 5 3 1,.l 6 5,.f 7 4 1,.l 8 7,.f 9 5 1,.l 10 9,.z 11 (.buildSl 1 4 [(.i 0),(.i 0),(.i 0),(.i 0)] [(0,1,.t 4),(1,1,.t 6),(2,1,.t 8),(3,1,.t 10)]),.m 2 11] .ret))
def r_lengths_alike_1:My Tryz.prog 207=some ⟨12,z8o.r,[.tmp 2]⟩:=Aa
def z8t:LC:=(.q [.x 1 0,.e 2] (.q [.f 3 3 1,.l 4 3,.f 5 4 1,.l 6 5,.z 7 (.buildSl 1 2 [(.i 0),(.i 0)] [(0,1,.t 4),(1,1,.t 6)]),.m 2 7] .ret))
def r_lengths_alike_2:My Tryz.prog 208=some ⟨8,z8t.r,[.tmp 2]⟩:=Aa
def z8f:LC:=(.q [.x 1 0,.e 2] (.q [.f 3 1 1,.l 4 3,.f 5 2 1,.l 6 5,.z 7 (.buildSl 1 2 [(.i 0),(.i 0)] [(0,1,.t 4),(1,1,.t 6)]),.m 2 7] .ret))
def r_lengths_alike_3:My Tryz.prog 209=some ⟨8,z8f.r,[.tmp 2]⟩:=Aa
def z91:LC:=(.q [.x 1 0,.e 2] (.q [.f 3 1 1,.l 4 3,.f 5 3 1,.l 6 5,.f 7 4 1,.l 8 7,.z 9 (.buildSl 1 3 [(.i 0),(.i 0),(.i 0)] [(0,1,.t 4),(1,1,.t 6),(2,1,.t 8)]),.m 2 9] .ret))
def r_lengths_alike_4:My Tryz.prog 210=some ⟨10,z91.r,[.tmp 2]⟩:=Aa
def z8i:LC:=(.q [.x 1 0,.e 2] (.q [.f 3 1 1,.l 4 3,.f 5 5 1,.l 6 5,.z 7 (.buildSl 1 2 [(.i 0),(.i 0)] [(0,1,.t 4),(1,1,.t 6)]),.m 2 7] .ret))
def r_lengths_alike_5:My Tryz.prog 211=some ⟨8,z8i.r,[.tmp 2]⟩:=Aa
def z92:LC:=(.q [.x 1 0,.e 2] (.q [.f 3 1 1,.l 4 3,.f 5 3 1,.l 6 5,.f 7 5 1,.l 8 7,.z 9 (.buildSl 1 3 [(.i 0),(.i 0),(.i 0)] [(0,1,.t 4),(1,1,.t 6),(2,1,.t 8)]),.m 2 9] .ret))
def r_lengths_alike_6:My Tryz.prog 212=some ⟨10,z92.r,[.tmp 2]⟩:=Aa
def z8q:LC:=(.q [.F 4] (.seq (.draw [(.l 5 1,[]),(.m 6 0,[]),(.I 7 3 5 6,[]),(.f 8 0 7,[]),(.l 9 8,[]),(.l 10 1,[]),(.l 11 2,[]),(.z 12 (.ixAddr 1 (.t 11) (.k 0)),[]),(.l 13 12,[]),(.I 14 3 10 13,[]),(.f 15 0 14,[]),(.l 16 15,[]),(.c 17 .neq 3 9 16,[]),(.m 4 17,[])]) .ret))
def r_lengths_agree_1:My Tryz.prog 199=some ⟨18,z8q.r,[.tmp 4]⟩:=Aa
def mm:LC:=(.q [.x 2 0,.x 3 1,.F 4] (.seq (.draw [(.f 10 0 3,[]),(.l 11 10,[]),(.z 9 (.w 198 []),[(.l 11 10,false)]),(.z 12 (.lookup (.int .i64) .nilFn true (.t 9) (.t 11)),[]),(.m 8 12,[]),(.X 13 0 8,[]),(.X 14 1 8,[]),(.m 5 13,[]),(.m 6 14,[])]) (.seq (.q [.m 15 6,.z 16 (.un .not (.t 15))] (.cond (.t 16) (.q [.z 4 (.move .T)] .ret) .skip)) (.q [.m 17 5,.L 18 7 3,.z 19 (.callV (.t 17) [.t 18]),.z 7 (.alloc [.nilSl]),.S 1 7 19] (.q [.l 20 7,.z 21 (.mkFunc 199 [] [.t 2,.t 7]),.W 22 169 20 21,.z 23 (.un .not (.t 22)),.m 4 23] .ret)))))
def r_lengths_agree:My Tryz.prog 191=some ⟨24,mm.r,[.tmp 4]⟩:=Aa
def n6:List (LV×LV×Nat):=[(.i 6,.fn (.func 208) [] [],0),(.i 14,.fn (.func 209) [] [],1),(.i 8,.fn (.func 210) [] [],2),(.i 9,.fn (.func 211) [] [],3),(.i 10,.fn (.func 207) [] [],4),(.i 11,.fn (.func 207) [] [],5),(.i 12,.fn (.func 207) [] [],6),(.i 13,.fn (.func 212) [] [],7)]
def oz(k:Y (.map G.length) (G++[.map n6 8 8])):Ol (.fn 198) [] G Y:=by
 refine Mz r_lengths_alike Aa N ?_;simp[zb8];exact k
def zex(o:Ko):Od 207 [.agg o.f] (.lst ([o.d,o.a,o.b,o.c].map .i) 4 1):=by
 refine Ra.mk Bz (Mz r_lengths_alike_1 Aa N ?_);simp[z8o,Ko.f,Nh,bor]
def zvm(o:Ko):Od 208 [.agg o.f] (.lst ([o.a,o.b].map .i) 2 1):=by
 refine Ra.mk Bz (Mz r_lengths_alike_2 Aa N ?_);simp[z8t,Ko.f,Nh,bor]
def zvx(o:Ko):Od 209 [.agg o.f] (.lst ([o.d,o.e].map .i) 2 1):=by
 refine Ra.mk Bz (Mz r_lengths_alike_3 Aa N ?_);simp[z8f,Ko.f,Nh,bor]
def zwm(o:Ko):Od 210 [.agg o.f] (.lst ([o.d,o.a,o.b].map .i) 3 1):=by
 refine Ra.mk Bz (Mz r_lengths_alike_4 Aa N ?_);simp[z91,Ko.f,Nh,bor]
def zvg(o:Ko):Od 211 [.agg o.f] (.lst ([o.d,o.c].map .i) 2 1):=by
 refine Ra.mk Bz (Mz r_lengths_alike_5 Aa N ?_);simp[z8i,Ko.f,Nh,bor]
def zw8(o:Ko):Od 212 [.agg o.f] (.lst ([o.d,o.a,o.c].map .i) 3 1):=by
 refine Ra.mk Bz (Mz r_lengths_alike_6 Aa N ?_);simp[z92,Ko.f,Nh,bor]
def bh(g:List Vr)(v:Int):Prop:=0≤v∧v<g.length
def bh.at{vs:List Vr}{v:Int}(h:bh vs v):∃k:Nat,v=k∧k<vs.length∧vs[k]?=some (gv vs v.toNat):=by
 obtain⟨k,rfl⟩:=Hr h.1;have h2:=h.2;exact⟨k,rfl,J,by rw[If];exact Sr J⟩
def zr3{p q st:Nat}(v:Int)(j:G[p]?=some (.cells [.lst (Nd vX) vX.length 3] st))(z:G[q]?=some (.cells [.lst (vP.map .i) vP.length 1] g))
  (hv:bh vX v) (A:bh vX (vP.headD 0)) (F:vP≠[]) (k:Y (.bool (decide (O5 vX v≠O5 vX (vP.headD 0)))) G):Ol (.fn 199) [.i v,.ptr p 0,.ptr q 0] G Y:=by
 refine Mz r_lengths_agree_1 Aa N ?_;cases vP with
 |nil=>exact absurd rfl F
 |cons y vP =>
  simp only[List.headD_cons]at A k;obtain⟨a,rfl,B,H⟩:=hv.at;obtain⟨b,rfl,C,I⟩:=A.at;have D:=ng H;have E:=ng I;simp only[If]at D E;simp only[O5,If]at k;simp[z8q,j,z,B,C];simp[Mr D,Mr E,j,z,B,C];rw[←decide_not];exact k
def zsm(g:List Int)(x:Int→Int)(y:Int):(!(g.any λv=>decide (x v≠y)))=g.all λv=>decide (x v=y):=by
 induction g with
 |nil=>rfl
 |cons a g j =>
  simp only[List.any_cons,J1,Bool.not_or,j];by_cases h:x a=y<;>simp[h]
def za1(F:List Vr)(o:Ko)(hv:∀v∈Pt o,bh F v):Mu 191 [.lst (Nd F) F.length 3,.agg o.f] (.bool (je F o)) []:=by
 refine Ng.val rfl (Mz r_lengths_agree Aa N ?_);have j:o.f=[.i o.kind,.i o.d,.i o.e,.i o.a,.i o.b,.i o.c,.u o.imm]:=rfl;have z:∀G:List Int,G≠[]→Pt o=G→∀{M:Mp} {p q st L:Nat} {P:LV→Mp→Prop},M[p]?=some (.cells [.lst (Nd F) F.length 3] st)→M[q]?=some (.cells [.lst (G.map .i) G.length 1] L)→P (.bool (!je F o)) M →
   Ol (.fn 169) [.lst (G.map .i) G.length 1,.fn (.func 199) [] [.ptr p 0,.ptr q 0]] M P:=by
  intro G O he M p q st L P Q R k;rw[he]at hv;have T:bh F (G.headD 0):=by
   cases G with
   |nil=>exact absurd rfl O
   |cons y G=>exact hv y (Ir ..)
  have U:G.length≤9223372036854775807:=by
   rw[←he];unfold Pt;repeat' split
   all_goals simp
  refine z6h (p:=λv=>decide (O5 F v≠O5 F (G.headD 0))) U (λv hm X V=>zr3 v Q R (hv v hm) T O V) ?_;have:=zsm G (O5 F) (O5 F (G.headD 0));rw[←Bool.not_not (G.any _),this];rw[je,he]at k;exact k
 by_cases H:o.kind=6
 ·have he:Pt o=[o.a,o.b]:=by simp[Pt,H]
  simp[mm,j,H];refine oz ?_;simp[n6];have g:=zvm o;rw[j,H]at g;refine Q5 g rfl ?_;simp;refine z [o.a,o.b] N he rfl rfl ?_;simp
 by_cases A:o.kind=14
 ·have he:Pt o=[o.d,o.e]:=by simp[Pt,A]
  simp[mm,j,A];refine oz ?_;simp[n6];have g:=zvx o;rw[j,A]at g;refine Q5 g rfl ?_;simp;refine z [o.d,o.e] N he rfl rfl ?_;simp
 by_cases I:o.kind=8
 ·have he:Pt o=[o.d,o.a,o.b]:=by simp[Pt,I]
  simp[mm,j,I];refine oz ?_;simp[n6];have g:=zwm o;rw[j,I]at g;refine Q5 g rfl ?_;simp;refine z [o.d,o.a,o.b] N he rfl rfl ?_;simp
 by_cases K:o.kind=9
 ·have he:Pt o=[o.d,o.c]:=by simp[Pt,K]
  simp[mm,j,K];refine oz ?_;simp[n6];have g:=zvg o;rw[j,K]at g;refine Q5 g rfl ?_;simp;refine z [o.d,o.c] N he rfl rfl ?_;simp
 by_cases B:o.kind=10
 ·have he:Pt o=[o.d,o.a,o.b,o.c]:=by simp[Pt,B]
  simp[mm,j,B];refine oz ?_;simp[n6];have g:=zex o;rw[j,B]at g;refine Q5 g rfl ?_;simp;refine z [o.d,o.a,o.b,o.c] N he rfl rfl ?_;simp
 by_cases C:o.kind=11
 ·have he:Pt o=[o.d,o.a,o.b,o.c]:=by simp[Pt,C]
  simp[mm,j,C];refine oz ?_;simp[n6];have g:=zex o;rw[j,C]at g;refine Q5 g rfl ?_;simp;refine z [o.d,o.a,o.b,o.c] N he rfl rfl ?_;simp
 by_cases D:o.kind=12
 ·have he:Pt o=[o.d,o.a,o.b,o.c]:=by simp[Pt,D]
  simp[mm,j,D];refine oz ?_;simp[n6];have g:=zex o;rw[j,D]at g;refine Q5 g rfl ?_;simp;refine z [o.d,o.a,o.b,o.c] N he rfl rfl ?_;simp
 by_cases E:o.kind=13
 ·have he:Pt o=[o.d,o.a,o.c]:=by simp[Pt,E]
  simp[mm,j,E];refine oz ?_;simp[n6];have g:=zw8 o;rw[j,E]at g;refine Q5 g rfl ?_;simp;refine z [o.d,o.a,o.c] N he rfl rfl ?_;simp
 have he:Pt o=[]:=by simp[Pt,H,A,I,K,B,C,D,E]
 simp[mm,j,H,A,I,K,B,C,D,E];refine oz ?_;simp[n6,H,A,I,K,B,C,D,E];simp[je,he]
def z56:LC:=(.q [.e 2] (.seq (.q [.m 3 0,.z 4 (.bin .eql true 60 (.t 3) (.c .nilSl))] (.cond (.t 4) (.q [.e 2] .ret) .skip)) (.q [.z 5 (.buildSl 1 0 [] []),.m 6 0,.a 7 1 5 6,.m 2 7] .ret)))
def r_slices_Clone_int_int:My Tryz.prog 194=some ⟨8,z56.r,[.tmp 2]⟩:=Aa
def z3u:LC:=(.q [.e 4] (.q [.m 8 0,.m 9 1,.W 10 192 8 9,.m 5 10] (.seq (.q [.m 11 5,.b 12 .eql 3 11 (-1)] (.cond (.t 12) (.q [.m 13 0,.m 4 13] .ret) .skip)) (.seq (.q [.m 14 5,.b 15 .add 3 14 1,.m 6 15] (.block 0 (.loop (.seq (.q [.m 16 6,.m 17 0,.s 18 17,.c 19 .lss 3 16 18] (.cond (.t 19) .skip (.exit 0))) (.seq (.block 1 (.q [.m 22 0,.m 23 6,.I 24 1 22 23,.l 25 24,.m 7 25] (.q [.m 26 1,.m 27 7,.z 28 (.callV (.t 26) [.t 27]),.z 29 (.un .not (.t 28))] (.cond (.t 29) (.q [.m 30 0,.m 31 5,.m 32 7,.I 33 1 30 31,.S 1 33 32] (.ops [.m 34 5,.b 35 .add 3 34 1,.m 5 35])) .skip)))) (.ops [.m 20 6,.b 21 .add 3 20 1,.m 6 21])))))) (.q [.m 36 0,.m 37 5,.z 38 (.slSl 1 (.t 36) (some (.t 37)) none),.v (.clear 1 [(.i 0)] (.t 38))] (.q [.m 39 0,.m 40 5,.z 41 (.slSl 1 (.t 39) none (some (.t 40))),.m 4 41] .ret))))))
def r_slices_DeleteFunc_int_int:My Tryz.prog 193=some ⟨42,z3u.r,[.tmp 4]⟩:=Aa
def z8w:LC:=(.q [.F 2] (.q [.m 3 0,.b 4 .lss 3 3 0,.m 2 4] .ret))
def r_lengths_takes_1:My Tryz.prog 195=some ⟨5,z8w.r,[.tmp 2]⟩:=Aa
def zb9:LC:=(.q [.x 1 0,.e 2] (.q [.L 5 7 1,.w 6 189 5,.z 3 (.alloc [(.i 0),(.i 0),(.i 0),(.i 0),(.i 0)]),.S 5 3 6] (.q [.z 7 (.slArr 5 1 (.t 3) (some (.k 2)) none),.w 8 194 7,.z 9 (.w 193 [.t 8,(.c (.fn (.func 195) [] []))]),.m 4 9] (.seq (.q [.f 10 0 1,.l 11 10,.b 12 .eql 3 11 14] (.cond (.t 12) (.ops [.m 13 4,.f 14 1 1,.l 15 14,.f 16 2 1,.l 17 16,.z 18 (.buildSl 1 2 [(.i 0),(.i 0)] [(0,1,.t 15),(1,1,.t 17)]),.a 19 1 13 18,.m 4 19]) .skip)) (.q [.m 20 4,.m 2 20] .ret)))))
def r_lengths_takes:My Tryz.prog 170=some ⟨21,zb9.r,[.tmp 2]⟩:=Aa
def sl_nil:Q9 Tryz.prog true 60 .nilSl .nilSl=some true:=Aa
def zys{l:List Int}(g:l.length≤1048576)(j:l≠[])(k:Y (.dy G.length 1) (G++[.dyn (l.map .i) l.length 1 1 1])):Ol (.fn 194) [.lst (l.map .i) l.length 1] G Y:=by
 refine Mz r_slices_Clone_int_int Aa N ?_;simp[z56,sl_nil,g,j];exact k
def zn6{l:List Int}{f:Nat}{p:Int→Bool}(g:l.length≤9223372036854775807)
  (j:∀v∈l,Mu f [.i v] (.bool (p v)) []):Mu 192 [.lst (l.map .i) l.length 1,.fn (.func f) [] []] (.i (ac p l)) [] :=
 Ng.val rfl (zed g (λv hv z k=>by
  simp only[L8,I9];exact M2 (j v hv) (bors_self _ rfl) k) rfl)
def zkq{q k st:Nat}{l:List Int}{f:Nat}{p:Int→Bool}(hl:l.length≤9223372036854775807)(M:G[q]?=some (.dyn (l.map .i) l.length 1 k st))
  (X:∀v,Mu f [.i v] (.bool (p v)) []) (k0:l.filter (λv=>!p v)=l→Y (.dy q k) G)
  (k1:∀(m:Nat) (gg:List LV) (g:Nat),m=(l.filter (λv=>!p v)).length→gg.length=l.length→gg.take m=(l.filter (λv=>!p v)).map .i→dats gg=true→Y (.vw q k 0 m) (G.set q (.dyn gg l.length 1 k g))) :
  Ol (.fn 193) [.dy q k,.fn (.func f) [] []] G Y:=by
 refine Mz r_slices_DeleteFunc_int_int Aa (by simp) ?_;have O:q<G.length:=(Hm.1 M).1;have P:∀l:List Int,dats (l.map .i)=true:=λl=>nz (λ_=>rfl) l
 have z:∀Q,(G.set q Q)[q]?=some Q:=λQ=>Hu O
 have A:G.set q (.dyn (l.map .i) l.length 1 k st)=G:=zu5 M;simp[z3u];refine M2 (zn6 hl λv _=>X v) (by simp[bors,bor,LV.dat,dats,M,P]) ?_;rcases Zy p l with ⟨R,I⟩|⟨K,R,gz,I⟩
 ·simp[R];exact k0 I
 have n1:¬((K:Int)=-1):=J
 simp[R,n1];refine⟨J,?_⟩;refine Oc (λZ gD G' N=>∃(i j:Nat) (c:List Int) (g:Nat),gD=[]∧G'=G.set q (.dyn (c.map .i) l.length 1 k g)∧N+j=l.length∧i<j∧j≤l.length∧lk Z 0=.dy q k∧lk Z 1=.fn (.func f) [] []∧lk Z 5=.i i∧lk Z 6=.i j ∧
   c.length=l.length∧i=((l.take j).filter (λv=>!p v)).length∧c.take i=(l.take j).filter (λv=>!p v)∧∀u,j≤u→gd c u=gd l u)
  (N:=l.length-(K+1)) ⟨K,K+1,l,st,rfl,A.symm,J,J,J,by simp,by simp,by simp,by simp,rfl,by rw[I];simp;omega,I.symm,λu _=>rfl⟩ ?_
 rintro N Z gD G' ⟨i,j,c,g,rfl,rfl,hN,gA,hj,C,D,E,F,T,hi,L,U⟩ Nx H;by_cases gC:j<l.length
 ·have g2:i<l.length:=J
  have V:=Vs (f:=LV.i) (Wb (l:=c) (u:=j) J);have eg:=U j (Hw _);simp[C,D,E,F,z,gC];simp[Mr V,C,D,E,F,z,gC,eg];refine M2 (X (gd l j)) (by simp) ?_;have B:=zpj (p:=p) gC;cases hb:p (gd l j) with
  |true =>
   rw[hb]at B;simp only[Ky,I9]at B;simp[F]
   repeat (refine⟨J,?_⟩)
   exact H _ _ _ ⟨N-1,J,i,j+1,c,g,rfl,rfl,J,J,J,Al,Ak,Ai,by simp,T,by rw[B];exact hi,by rw[B];exact L,λu hu=>U u J⟩
  |false =>
   rw[hb,Hs (by simp)]at B;simp[C,D,E,F,z,g2];rw[se _ _ _ J]
   repeat (refine⟨J,?_⟩)
   refine H _ _ _ ⟨N-1,J,i+1,j+1,_,_,rfl,rfl,J,J,J,Al,Ak,by simp,by simp,by simpa using T,?_,?_,λu hu=>?_⟩
   ·rw[B,H4,←hi];rfl
   ·rw[B,znb J,L]
   ·rw[zsn (j:=j+1) J J u hu,U u J]
 ·have ej:j=l.length:=J
  subst ej;rw[Ki]at hi L;simp[C,D,E,F,z]
  repeat (refine⟨J,?_⟩)
  refine k1 i _ _ hi ?_ ?_ ?_
  ·rw[zw5 (by rw[z5f];simp;omega)];simp[T]
  ·rw[ce Ab,←Lf,L]
  ·unfold Ns;exact dats_app (dats_app (dats_take _ (P c)) (ztk rfl _)) (dats_drop _ (P c))
def zvk(v:Int):Mu 195 [.i v] (.bool (decide (v<0))) []:=by
 refine Ng.val rfl (Mz r_lengths_takes_1 Aa N ?_);simp[z8w]
def z9s(o:Ko)(h:o.kind=14→o.a=-1∧o.b=-1):Od 170 [.agg o.f] (.lst ((Sn o).map .i) (Sn o).length 1):=by
 have I:∀l:List Int,dats (l.map .i)=true:=λl=>nz (λ_=>rfl) l
 refine Ra.mk (by simp[LV.dat,I]) (Mz r_lengths_takes Aa N ?_);have z:o.f=[.i o.kind,.i o.d,.i o.e,.i o.a,.i o.b,.i o.c,.u o.imm]:=rfl;simp[zb9,z];rw[←z];refine M2 (z9t o) (bors_self _ rfl) ?_;simp;refine zys (l:=[o.a,o.b,o.c]) N N ?_;simp;have F:([o.a,o.b,o.c].filter λv=>!decide (v<0)).length≤3:=List.length_filter_le _ _;refine zkq (l:=[o.a,o.b,o.c]) (p:=λv=>decide (v<0)) N rfl zvk (λhw=>?_) (λm E K hm G H hd=>?_)
 ·by_cases g:o.kind=14
  ·have:=List.filter_eq_self.1 hw o.a N;rw[(h g).1]at this;simp at this
  ·have e:Sn o=[o.a,o.b,o.c]:=by unfold Sn;rw[hw,Hs g];rfl
   simp[z,g,e,Nh,bor,dats,LV.dat]
 ·by_cases g:o.kind=14
  ·have e:Sn o=([o.a,o.b,o.c].filter λv=>!decide (v<0))++[o.d,o.e]:=by unfold Sn;rw[Hv g]
   have A:m≤1:=by
    rw[hm,(h g).1,(h g).2];simp;by_cases L:0≤o.c<;>simp[L]
   have j:E.length=3:=G;simp[z,g,j,A,dats,LV.dat];rw[e];have B:(([o.a,o.b,o.c].filter λv=>!decide (v<0))++[o.d,o.e]).length=m+2:=by rw[H4,←hm];rfl
   have M:(([o.a,o.b,o.c].filter λv=>!decide (v<0))++[o.d,o.e]).map LV.i=E.take m++[.i o.d,.i o.e]:=by rw[Km,H];rfl
   have C:(E.take m++[LV.i o.d,LV.i o.e]).length=m+2:=by rw[H4,Jp];simp;omega
   have O:dats (E.take m++[LV.i o.d,LV.i o.e])=true:=dats_app (dats_take _ hd) rfl;have D:(Ns E m [.i o.d,.i o.e]).length=3:=by unfold Ns;simp;omega
   rw[M,B];refine⟨J,⟨_,_,_,⟨?_,rfl,rfl⟩,⟨rfl,rfl,rfl⟩,?_,?_⟩,⟨_,_,_,⟨rfl,rfl,rfl⟩,⟨rfl,rfl,rfl⟩,O⟩⟩
   ·unfold Ns;rw[K2];exact (Kf C).symm
   ·rw[D];omega
   ·unfold Ns;exact dats_app (dats_app (dats_take _ hd) rfl) (dats_drop _ hd)
  ·have e:Sn o=[o.a,o.b,o.c].filter λv=>!decide (v<0):=by unfold Sn;rw[Hs g,I9]
   simp[z,g,dats,LV.dat];rw[e,←H,←hm];have j:E.length=3:=G;simp[Nh,bor,hd];exact⟨_,_,_,⟨by rw[K2],rfl⟩,⟨rfl,rfl,rfl⟩,by rw[j];omega,hd⟩
def zaj:LC:=(.q [.F 3] (.q [.l 4 1,.m 5 0,.I 6 3 4 5,.f 7 1 6,.l 8 7,.m 3 8] .ret))
def r_lengths_one_1:My Tryz.prog 190=some ⟨9,zaj.r,[.tmp 3]⟩:=Aa
def z9p:LC:=(.q [.x 2 0,.x 3 1,.F 4] (.seq (.q [.f 13 0 3,.l 14 13,.b 15 .eql 3 14 17] (.cond (.t 15) (.q [.l 16 2,.L 17 7 3,.W 18 166 16 17,.m 4 18] .ret) .skip)) (.q [.f 20 0 3,.l 21 20,.w 22 187 21,.m 19 22,.X 23 0 19,.X 24 1 19,.m 5 23,.m 6 24] (.seq (.q [.m 25 6,.z 26 (.un .not (.t 25)),.m 27 26,.n 28 27 (.loadN 7 (.t 3)),.n 29 27 (.w 188 [.t 28]),.n 30 27 (.un .not (.t 29)),.p 31 27 30] (.cond (.t 31) (.q [.F 4] .ret) .skip)) (.seq (.q [.L 32 7 3,.w 33 189 32,.K 34 0] (.block 0 (.loop (.q [.b 35 .lss 3 34 5] (.seq (.cond (.t 35) .skip (.exit 0)) (.seq (.block 1 (.q [.m 36 34,.z 37 (.ixArr false 5 1 (.t 33) (.t 34)),.m 7 36,.m 8 37] (.q [.m 38 5,.m 39 7,.c 40 .shr 3 38 39,.b 41 .and 3 40 1,.b 42 .eql 3 41 1,.m 9 42] (.q [.m 43 9,.m 44 43,.my 45 44 8,.y 46 44 (.bin .lss true 3 (.t 45) (.k 0)),.my 47 44 46,.mn 48 47 8,.nl 49 47 2,.n 50 47 (.lenSl (.t 49)),.n 51 47 (.bin .geq false 3 (.t 48) (.t 50)),.y 52 44 (.pick (.t 47) .T (.t 51)),.q 53 44 52,.m 54 53,.mn 55 54 9,.n 56 54 (.un .not (.t 55)),.mn 57 54 56,.my 58 57 8,.y 59 57 (.bin .neq true 3 (.t 58) (.k (-1))),.n 60 54 (.pick (.t 57) (.t 59) .F),.p 61 54 60] (.cond (.t 61) (.q [.F 4] .ret) .skip))))) (.ops [.b 62 .add 3 34 1,.m 34 62]))))))) (.q [.L 63 7 3,.w 64 170 63,.z 65 (.mkFunc 190 [] [.t 2]),.W 66 169 64 65,.m 10 66] (.seq (.q [.f 67 1 3,.l 68 67,.f 69 2 3,.l 70 69,.z 71 (.buildSl 1 2 [(.i 0),(.i 0)] [(0,1,.t 68),(1,1,.t 70)]),.s 72 71,.K 73 0] (.block 2 (.loop (.q [.c 74 .lss 3 73 72] (.seq (.cond (.t 74) .skip (.exit 2)) (.seq (.block 3 (.q [.I 75 1 71 73,.l 76 75,.m 12 76] (.q [.m 77 12,.b 78 .geq 3 77 0,.m 79 78,.yl 80 79 2,.my 81 79 12,.y 82 79 (.ixAddr 3 (.t 80) (.t 81)),.y 83 79 (.loadN 3 (.t 82)),.y 84 79 (.w 167 [.t 83]),.my 85 79 84,.mn 86 85 10,.mn 87 85 86,.yl 88 87 2,.my 89 87 12,.y 90 87 (.ixAddr 3 (.t 88) (.t 89)),.yf 91 87 1 90,.yl 92 87 91,.y 93 87 (.un .not (.t 92)),.n 94 85 (.pick (.t 87) (.t 93) .F),.y 95 79 (.pick (.t 85) .T (.t 94)),.q 96 79 95] (.cond (.t 96) (.q [.F 4] .ret) .skip)))) (.ops [.b 97 .add 3 73 1,.m 73 97]))))))) (.q [.f 98 2 3,.l 99 98,.b 100 .lss 3 99 0,.m 101 100,.nf 102 101 1 3,.nl 103 101 102,.nf 104 101 2 3,.nl 105 101 104,.n 106 101 (.bin .neq false 3 (.t 103) (.t 105)),.p 107 101 106,.m 108 107,.yl 109 108 2,.y 110 108 (.loadN 7 (.t 3)),.y 111 108 (.w 191 [.t 109,.t 110]),.q 112 108 111,.m 4 112] .ret))))))))
def r_lengths_one:My Tryz.prog 168=some ⟨113,z9p.r,[.tmp 4]⟩:=Aa
def Zw{p st:Nat}(v:Int)(j:G[p]?=some (.cells [.lst (Nd vX) vX.length 3] st))(hv:bh vX v)(k:Y (.bool (gv vX v.toNat).sec) G):Ol (.fn 190) [.i v,.ptr p 0] G Y:=by
 refine Mz r_lengths_one_1 Aa N ?_;obtain⟨a,rfl,z,A⟩:=hv.at;have g:=zu A;simp only[If]at g k;simp[zaj,j,z];simp[Mr g];exact k
def zkp(g:List Vr)(o:Ko):Mu 168 [.lst (Nd g) g.length 3,.agg o.f] (.bool (Nf g o)) []:=by
 refine Ng.val rfl (Mz r_lengths_one Aa (by simp) ?_);have C:o.f=[.i o.kind,.i o.d,.i o.e,.i o.a,.i o.b,.i o.c,.u o.imm]:=rfl;by_cases z:o.kind=17
 ·simp[z9p,C,z];have hf:=zae (Nd g) g.length o;rw[C,z]at hf;refine M2 hf (bors_self _ A3) ?_;simp[Nf,z]
 simp[z9p,C,z];refine M2 (zgn o.kind) (by simp) ?_;cases M:O0 o.kind with
 |none=>simp[Nf,z,M]
 |some s =>
 simp;rw[←C];refine M2 (zf0 o) (bors_self _ rfl) ?_;cases hn:Qv o with
 |false=>simp[Nf,z,M,hn]
 |true =>
 simp[C];rw[←C];refine M2 (z9t o) (bors_self _ rfl) ?_;have gD:=zp6 M;simp;refine Oc (λY gE gF N=>∃i:Nat,gE=[]∧gF=[.cells [.lst (Nd g) g.length 3] 0,.cells o.f 0]∧N+i=5∧lk Y 2=.ptr 0 0∧lk Y 3=.ptr 1 0∧lk Y 5=.i s∧lk Y 33=.agg ((Pz o).map .i)∧lk Y 34=.i i∧∀O,O<i→Qp g.length s O (gd (Pz o) O)=true) (N:=5) ⟨0,by simp[Pz]⟩ ?_;rintro N Y gE gF ⟨i,rfl,rfl,hN,B,H,h5,P,gg,Z⟩ Nx I;by_cases hi:5≤i
 case neg =>
  have gA:(i:Int)<5:=J
  have g2:i<5:=J
  have hg:=Vs (f:=LV.i) (Wb (l:=Pz o) (u:=i) g2);have A:Qp g.length s i (gd (Pz o) i)=true→∀O,O<i+1→Qp g.length s O (gd (Pz o) O)=true:=λh O hj=>by
   by_cases e:O=i
   ·rw[e];exact h
   ·exact Z O J
  have K:Qp g.length s i (gd (Pz o) i)=false→Nf g o=false:=λh=>by
   simp[Nf,z,M,zo0 g2 h]
  have pb:=zuz s i;generalize gd (Pz o) i=v at *;have T:0≤(s:Int)/2^i:=Int.ediv_nonneg J (Int.pow_nonneg J);have e1:(s:Int)/2^i<9223372036854775808:=Int.lt_of_le_of_lt (Int.ediv_le_self _ J) J;have em:max ((s:Int)/2^i) 0=(s:Int)/2^i:=J
  simp[B,H,h5,P,gg,gA,Mr hg,em,T,e1,pb];refine⟨J,λU=>⟨λv0=>?_,λv0=>⟨λv1=>?_,λv1=>?_⟩⟩,λU=>?_⟩
  ·exact K Eg
  ·exact K Eg
  ·simp only[U,zme];exact⟨J,I _ _ _ ⟨N-1,J,i+1,rfl,rfl,J,Ao,A1,by simp[h5],C7,by simp,A Eg⟩⟩
  ·simp only[U,zje];exact⟨λhv=>⟨J,I _ _ _ ⟨N-1,J,i+1,rfl,rfl,J,Ao,A1,by simp[h5],C7,by simp,A (by simp[Qp,U,hv])⟩⟩,λhv=>K (by simp[Qp,U,hv])⟩
 have V:Su g.length s o=true:=zkr λO hj=>Z O J
 have L:=zmd M V;have gA:¬(i:Int)<5:=J
 simp[B,H,P,gg,gA,C];rw[←C];refine Q5 (z9s o L.swap) rfl ?_;simp;have gC:(Sn o).length≤9223372036854775807:=by
  have h1:([o.a,o.b,o.c].filter λv=>!decide (v<0)).length≤3:=List.length_filter_le _ _;unfold Sn;split<;>simp at h1 ⊢<;>omega
 rw[B];refine z6h (p:=λv=>(gv g v.toNat).sec) gC (λv hv K' k=>Zw v rfl (L.takes v hv) k) ?_;rw[show (Sn o).any (λv=>(gv g v.toNat).sec)=N8 g o from rfl];simp[B,H,C];refine Oc (λY gE gF N=>∃i:Nat,gE=[]∧gF=[.cells [.lst (Nd g) g.length 3] 0,.cells o.f 0,.dyn ([o.d,o.e].map .i) 2 1 0 0]∧N+i=2∧lk Y 2=.ptr 0 0∧lk Y 3=.ptr 1 0∧lk Y 10=.bool (N8 g o)∧lk Y 71=.dy 2 0∧lk Y 72=.i 2∧lk Y 73=.i i∧∀O,O<i→Rf g (N8 g o) (gd [o.d,o.e] O)=true) (N:=2) ⟨0,by simp[B,H,C]⟩ ?_;rintro N Y gE gF ⟨i,rfl,rfl,hN,B,H,D,E,F,G,Z⟩ Nx I;by_cases hi:2≤i
 case neg =>
  have gA:(i:Int)<2:=J
  have g2:i<2:=J
  have hg:=Vs (f:=LV.i) (Wb (l:=[o.d,o.e]) (u:=i) g2);have A:Rf g (N8 g o) (gd [o.d,o.e] i)=true→∀O,O<i+1→Rf g (N8 g o) (gd [o.d,o.e] O)=true:=λh O hj=>by
   by_cases e:O=i
   ·rw[e];exact h
   ·exact Z O J
  have K:Rf g (N8 g o) (gd [o.d,o.e] i)=false→Nf g o=false:=λh=>by
   have X:i=0∨i=1:=J
   rcases X with rfl|rfl
   ·have h:Rf g (N8 g o) o.d=false:=h;simp[Nf,z,M,h]
   ·have h:Rf g (N8 g o) o.e=false:=h;simp[Nf,z,M,h]
  have gz:gd [o.d,o.e] i=-1∨bh g (gd [o.d,o.e] i):=by
   have X:i=0∨i=1:=J
   rcases X with rfl|rfl
   ·exact L.d
   ·exact L.e
  generalize gd [o.d,o.e] i=v at *;simp only[J3,List.map_nil]at hg;rcases gz with rfl|hv
  ·simp[B,H,D,E,F,G,gA,Mr hg];exact⟨J,I _ _ _ ⟨N-1,J,i+1,rfl,rfl,J,Ao,A1,Ak,Ai,Am,by simp,A (by simp[Rf])⟩⟩
  ·obtain⟨k,rfl,hk,ek⟩:=hv.at;have q3:=zbb ek;have q1:=zu ek;have hq:=ae hk;simp only[If]at q1 q3;simp[B,H,D,E,F,G,gA,Mr hg,hk,q3,hq];refine M2 (z9w (gv g k)) (bors_self _ rfl) ?_;cases Q:Q2 (gv g k) with
   |true =>
    simp;exact K (by simp[Rf,Q])
   |false =>
    cases j:N8 g o with
    |false =>
     simp[B,D,G,j];exact⟨J,I _ _ _ ⟨N-1,J,i+1,rfl,rfl,J,Ao,A1,by simp[D,j],Ai,Am,by simp,A (by simp[Rf,Q,j])⟩⟩
    |true =>
     cases R:(gv g k).sec with
     |false =>
      simp[B,D,G,j,hk,Mr q1,R];exact K (by simp[Rf,Q,j,R])
     |true =>
      simp[B,D,G,j,hk,Mr q1,R];exact⟨J,I _ _ _ ⟨N-1,J,i+1,rfl,rfl,J,Ao,A1,by simp[D,j],Ai,Am,by simp,A (by simp[Rf,Q,j,R])⟩⟩
 have gA:¬(i:Int)<2:=J
 have od:Rf g (N8 g o) o.d=true:=Z 0 J;have oe:Rf g (N8 g o) o.e=true:=Z 1 J;by_cases T:o.e<0
 ·simp[B,H,E,F,G,gA,C,T];rw[←C];refine M2 (za1 g o L.alike) (bors_self _ (by simp[dats,LV.dat,Qo,C])) ?_;simp[Nf,z,M,hn,V,od,oe,T]
 ·by_cases e1:o.d=o.e
  ·simp[B,H,E,F,G,gA,C,T,e1];simp[Nf,z,M,T,e1]
  ·simp[B,H,E,F,G,gA,C,T,e1];rw[←C];refine M2 (za1 g o L.alike) (bors_self _ (by simp[dats,LV.dat,Qo,C])) ?_;simp[Nf,z,M,hn,V,od,oe,T,e1]
def zc9:LC:=(.q [.F 2] (.q [.K 3 0] (.seq (.q [.m 6 0,.s 7 6,.K 8 0] (.block 0 (.loop (.q [.c 9 .lss 3 8 7] (.seq (.cond (.t 9) .skip (.exit 0)) (.seq (.block 1 (.q [.m 10 8,.I 11 3 6 8,.L 12 3 11,.z 5 (.alloc [(.i 0),(.bool false),(.i 0)]),.m 4 10,.S 3 5 12] (.seq (.q [.f 13 0 5,.l 14 13,.b 15 .lss 3 14 1,.m 16 15,.nf 17 16 0 5,.nl 18 16 17,.nb 19 16 .gtr 3 18 512,.p 20 16 19,.m 21 20,.nf 22 21 2 5,.nl 23 21 22,.nb 24 21 .lss 3 23 0,.p 25 21 24,.m 26 25,.nf 27 26 2 5,.nl 28 26 27,.nb 29 26 .gtr 3 28 3,.p 30 26 29] (.cond (.t 30) (.q [.F 2] .ret) .skip)) (.seq (.q [.f 31 2 5,.l 32 31,.b 33 .eql 3 32 0] (.cond (.t 33) (.exit 1) .skip)) (.seq (.q [.m 34 3,.m 35 4,.c 36 .lss 3 34 35,.m 37 36,.nf 38 37 1 5,.nl 39 37 38,.nf 40 37 2 5,.nl 41 37 40,.nb 42 37 .neq 3 41 1,.n 43 37 (.bin .neq false 4 (.t 39) (.t 42)),.p 44 37 43] (.cond (.t 44) (.q [.F 2] .ret) .skip)) (.ops [.m 45 3,.b 46 .add 3 45 1,.m 3 46])))))) (.ops [.b 47 .add 3 8 1,.m 8 47]))))))) (.q [.m 48 0,.s 49 48,.b 50 .geq 3 49 1,.m 51 50,.my 52 51 0,.y 53 51 (.lenSl (.t 52)),.y 54 51 (.bin .leq true 3 (.t 53) (.k 256)),.q 55 51 54,.m 56 55,.my 57 56 3,.y 58 56 (.bin .leq true 3 (.t 57) (.k 12)),.q 59 56 58,.m 2 59] .ret))))
def r_lengths_vars:My Tryz.prog 164=some ⟨60,zc9.r,[.tmp 2]⟩:=Aa
def zj6(g:List Vr)(hl:g.length≤9223372036854775807):Mu 164 [.lst (Nd g) g.length 3] (.bool (P3 g)) []:=by
 refine Ng.val rfl (Mz r_lengths_vars Aa (by simp) ?_);simp[zc9];refine Oc (λV gg gz N=>∃i p:Nat,gg=[]∧N+i=g.length∧p≤i∧lk V 0=.lst (Nd g) g.length 3∧lk V 3=.i p∧lk V 6=.lst (Nd g) g.length 3∧lk V 7=.i g.length∧lk V 8=.i i∧Q0 i p (g.drop i)=Q0 0 0 g) (N:=g.length) ⟨0,0,by simp⟩ ?_;rintro N V gg gz ⟨i,p,rfl,hN,Y,A,E,B,C,G,hv⟩ Nx R;by_cases P:i<g.length
 ·have Z:=Sr P;have I:=zbb Z;have K:=ae P;rw[zmw P]at hv;have L:(gv g i).f=[.i (gv g i).limbs,.bool (gv g i).sec,.i (gv g i).mode]:=rfl;generalize gv g i=v at *;have D:Q0 i p (v::g.drop (i+1))=none→P3 g=false:=λh=>by rw[h]at hv;simp[P3,←hv]
  by_cases j:v.limbs<1
  ·simp[A,E,B,C,G,P,I,K,L,j];exact D (by simp[Q0,Ub,j])
  by_cases z:512<v.limbs
  ·simp[A,E,B,C,G,P,I,K,L,j,z];exact D (by simp[Q0,Ub,j,z])
  by_cases F:v.mode<0
  ·simp[A,E,B,C,G,P,I,K,L,j,z,F];exact D (by simp[Q0,Ub,j,z,F])
  by_cases H:3<v.mode
  ·simp[A,E,B,C,G,P,I,K,L,j,z,F,H];exact D (by simp[Q0,Ub,j,z,F,H])
  by_cases M:v.mode=0
  ·simp[A,E,B,C,G,P,I,K,L,j,z,F,H,M];refine⟨J,R _ _ _ ⟨N-1,J,i+1,p,rfl,J,J,Ar,Ai,Ao,Al,by simp,?_⟩⟩;rw[←hv];simp[Q0,Ub,j,z,F,H,M]
  by_cases Q:p<i
  ·simp[A,E,B,C,G,P,I,K,L,j,z,F,H,M,Q];exact D (by simp[Q0,Ub,j,z,F,H,M,Q])
  by_cases T:v.sec=decide (v.mode=1)
  ·simp[A,E,B,C,G,P,I,K,L,j,z,F,H,M,Q,gn,T];exact D (by simp[Q0,Ub,j,z,F,H,M,Q,T])
  ·have b8:v.sec=!decide (v.mode=1):=by cases hs:v.sec<;>cases hm:decide (v.mode=1)<;>simp_all
   simp[A,E,B,C,G,P,I,K,L,j,z,F,H,M,Q,gn,b8];refine⟨J,J,R _ _ _ ⟨N-1,J,i+1,p+1,rfl,J,J,Ar,by simp,Ao,Al,by simp,?_⟩⟩;rw[←hv];simp[Q0,Ub,j,z,F,H,M,Q,T]
 ·have ei:i=g.length:=J
  rw[Jk J]at hv;have O:Q0 0 0 g=some p:=by rw[←hv];rfl
  by_cases U:1≤g.length
  ·by_cases X:g.length≤256
   ·simp[A,E,B,C,G,P,P3,O,U,X];omega
   ·simp[A,E,B,C,G,P,P3,O,U,X];omega
  ·simp[A,E,B,C,G,P,P3,O,U];omega
def z5m:LC:=(.q [.F 3] (.q [.m 4 0,.b 5 .geq 3 4 0,.m 6 5,.yf 7 6 0 1,.yl 8 6 7,.my 9 6 0,.y 10 6 (.ixAddr 3 (.t 8) (.t 9)),.yf 11 6 2 10,.yl 12 6 11,.y 13 6 (.bin .eql true 3 (.t 12) (.k 3)),.q 14 6 13,.m 3 14] .ret))
def r_lengths_Check_1:My Tryz.prog 165=some ⟨15,z5m.r,[.tmp 3]⟩:=Aa
def z8g:LC:=(.q [.F 3] (.q [.l 4 1,.m 5 0,.I 6 1 4 5,.l 7 6,.z 8 (.un .not (.t 7)),.m 3 8] .ret))
def r_lengths_Check_2:My Tryz.prog 171=some ⟨9,z8g.r,[.tmp 3]⟩:=Aa
def zak:LC:=(.q [.x 1 0,.K 2 0] (.seq (.q [.f 13 0 1,.l 14 13,.w 15 164 14,.z 16 (.un .not (.t 15)),.m 17 16,.nf 18 17 1 1,.nl 19 17 18,.n 20 17 (.lenSl (.t 19)),.nb 21 17 .gtr 3 20 4096,.p 22 17 21,.m 23 22,.nf 24 23 2 1,.nl 25 23 24,.n 26 23 (.lenSl (.t 25)),.nb 27 23 .gtr 3 26 4096,.p 28 23 27] (.cond (.t 28) (.q [.K 2 2] .ret) .skip)) (.q [.z 29 (.mkFunc 165 [] [.t 1]),.m 3 29] (.seq (.q [.f 30 2 1,.l 31 30,.s 32 31,.K 33 0] (.block 0 (.loop (.q [.c 34 .lss 3 33 32] (.seq (.cond (.t 34) .skip (.exit 0)) (.seq (.block 1 (.q [.I 35 7 31 33,.L 36 7 35,.z 5 (.alloc [(.i 0),(.i 0),(.i 0),(.i 0),(.i 0),(.i 0),(.u 0)]),.S 7 5 36] (.q [.f 37 0 5,.l 38 37,.b 39 .neq 3 38 17,.m 40 39,.nf 41 40 0 1,.nl 42 40 41,.n 43 40 (.loadN 7 (.t 5)),.n 44 40 (.w 166 [.t 42,.t 43]),.n 45 40 (.un .not (.t 44)),.p 46 40 45,.m 47 46,.mn 48 47 3,.nf 49 47 3 5,.nl 50 47 49,.n 51 47 (.callV (.t 48) [.t 50]),.p 52 47 51,.m 53 52,.mn 54 53 3,.nf 55 53 4 5,.nl 56 53 55,.n 57 53 (.callV (.t 54) [.t 56]),.p 58 53 57] (.cond (.t 58) (.q [.K 2 2] .ret) .skip)))) (.ops [.b 59 .add 3 33 1,.m 33 59]))))))) (.q [.f 60 0 1,.l 61 60,.s 62 61,.z 63 (.mkSl 1 [(.bool false)] (.t 62) (.t 62)),.z 6 (.alloc [.nilSl]),.S 1 6 63] (.seq (.q [.f 64 0 1,.l 65 64,.s 66 65,.K 67 0] (.block 2 (.loop (.q [.c 68 .lss 3 67 66] (.seq (.cond (.t 68) .skip (.exit 2)) (.seq (.block 3 (.q [.m 69 67,.I 70 3 65 67,.L 71 3 70,.z 8 (.alloc [(.i 0),(.bool false),(.i 0)]),.m 7 69,.S 3 8 71] (.draw [(.l 72 6,[]),(.m 73 7,[]),(.L 74 3 8,[]),(.w 75 167 74,[(.l 72 6,false)]),(.I 76 1 72 73,[]),(.S 1 76 75,[])]))) (.ops [.b 77 .add 3 67 1,.m 67 77]))))))) (.q [.K 9 0] (.seq (.q [.f 78 1 1,.l 79 78,.s 80 79,.K 81 0] (.block 4 (.loop (.q [.c 82 .lss 3 81 80] (.seq (.cond (.t 82) .skip (.exit 4)) (.seq (.block 5 (.q [.I 83 7 79 81,.L 84 7 83,.z 11 (.alloc [(.i 0),(.i 0),(.i 0),(.i 0),(.i 0),(.i 0),(.u 0)]),.S 7 11 84] (.seq (.q [.f 85 0 1,.l 86 85,.L 87 7 11,.W 88 168 86 87,.z 89 (.un .not (.t 88)),.m 90 89,.n 91 90 (.loadN 7 (.t 11)),.n 92 90 (.w 170 [.t 91]),.n 93 90 (.mkFunc 171 [] [.t 6]),.n 94 90 (.w 169 [.t 92,.t 93]),.p 95 90 94] (.cond (.t 95) (.q [.K 2 2] .ret) .skip)) (.seq (.q [.f 96 0 11,.l 97 96] (.block 6 (.q [.b 99 .eql 3 97 15,.m 98 99] (.cond (.t 98) (.ops [.m 100 9,.b 101 .add 3 100 1,.m 9 101]) (.q [.b 103 .eql 3 97 16,.m 102 103] (.cond (.t 102) (.ops [.m 104 9,.b 105 .sub 3 104 1,.m 9 105]) .skip)))))) (.seq (.q [.m 106 9,.b 107 .lss 3 106 0,.m 108 107,.mn 109 108 9,.nb 110 108 .gtr 3 109 4,.p 111 108 110] (.cond (.t 111) (.q [.K 2 2] .ret) .skip)) (.q [.f 112 1 11,.l 113 112,.b 114 .geq 3 113 0] (.cond (.t 114) (.ops [.l 115 6,.f 116 1 11,.l 117 116,.I 118 1 115 117,.v (.store 1 (.t 118) .T)]) .skip))))))) (.ops [.b 119 .add 3 81 1,.m 81 119]))))))) (.seq (.q [.l 120 6,.s 121 120,.K 122 0] (.block 7 (.loop (.q [.c 123 .lss 3 122 121] (.seq (.cond (.t 123) .skip (.exit 7)) (.seq (.block 8 (.q [.m 124 122,.m 12 124] (.q [.m 125 3,.m 126 12,.z 127 (.callV (.t 125) [.t 126]),.m 128 127,.yl 129 128 6,.my 130 128 12,.y 131 128 (.ixAddr 1 (.t 129) (.t 130)),.yl 132 128 131,.y 133 128 (.un .not (.t 132)),.q 134 128 133] (.cond (.t 134) (.q [.K 2 2] .ret) .skip)))) (.ops [.b 135 .add 3 122 1,.m 122 135]))))))) (.seq (.q [.m 136 9,.b 137 .neq 3 136 0] (.cond (.t 137) (.q [.K 2 2] .ret) .skip)) (.q [.K 2 0] .ret)))))))))))
def r_lengths_Check:My Tryz.prog 118=some ⟨138,zak.r,[.tmp 2]⟩:=Aa
def Q6(g:List Vr)(j z:List Ko):List LV:=[.lst (Nd g) g.length 3,.lst (Tf j) j.length 7,.lst (Tf z) z.length 7]
def Nk{x:Mp}{q:Nat}(h:q<G.length):(G++x)[q]?=G[q]?:=Hx h
def zh6(f:vU→LV)(l:List vU)(g:Nat)(x:vU)(h:g<l.length):Ns (l.map f) g [f x]=(l.set g x).map f:=by
 unfold Ns;rw[Io,Hv h];simp[Lf,List.map_drop]
def repB(n:Nat):Oj [.bool false] n=(List.replicate n false).map LV.bool:=by
 induction n with
 |zero=>rfl
 |succ n g=>simp[Oj,g,Kg]
def zy{a b:List Bool}(h:a.length=b.length)(he:∀g,g<a.length→gb a g=gb b g):a=b:=by
 apply List.ext_getElem h;intro g j z;have:=he g j;simpa [gb,Hn,j,z] using this
def tr(m:List Bool)(i g:Nat)(b:Bool)(hi:i<m.length):gb (m.set i b) g=if g=i then b else gb m g:=by
 unfold gb;rw[Hn,Hn,Lm];by_cases h:i=g
 ·subst h;simp[hi]
 ·rw[Hs h,Hs (λq=>h q.symm)]
def zcw{p st:Nat}(v:Int)(j:G[p]?=some (.cells (.lst (Nd vX) vX.length 3::D) st))(hv:v<vX.length)(k:Y (.bool (Tj vX v)) G):Ol (.fn 165) [.i v,.ptr p 0] G Y:=by
 refine Mz r_lengths_Check_1 Aa N ?_;by_cases g:0≤v
 ·obtain⟨a,rfl⟩:=Hr g;have z:a<vX.length:=J
  have A:=fo (Sr z);simp[z5m,j,z];simp[Mr A];simpa [Tj] using k
 ·simp[z5m,j,g];simpa [Tj,g] using k
def zrm{p q st:Nat}{m:List Bool}(v:Int)(z:G[p]?=some (.cells [.dy q 0] st))(A:G[q]?=some (.dyn (m.map .bool) m.length 1 0 g))(hv:0≤v∧v<m.length)(k:Y (.bool (!gb m v.toNat)) G):Ol (.fn 171) [.i v,.ptr p 0] G Y:=by
 refine Mz r_lengths_Check_2 Aa N ?_;obtain⟨a,rfl⟩:=Hr hv.1;have j:a<m.length:=J
 have B:=Vs (f:=LV.bool) (wj j);simp[z8g,z,A,j];simp[Mr B];simpa using k
def z9y(g:List Vr)(j z:List Ko)(jK:g.length≤9223372036854775807):Mu 118 [.agg (Q6 g j z)] (.i (Tq g j z)) []:=by
 refine Ng.val rfl (Mz r_lengths_Check Aa (by simp) ?_);have gD:Rv g j z=false→Tq g j z=2:=λh=>by simp[Tq,h]
 simp[zak,Q6];refine M2 (zj6 g jK) (bors_self _ A3) ?_;cases hv:P3 g with
 |false=>simp[gD,Rv,hv]
 |true =>
 have jL:=zdp hv;by_cases g1:(4096:Int)<(j.length:Int)
 ·simp[g1];exact (gD (by simp[Rv,hv];omega)).symm
 by_cases g2:(4096:Int)<(z.length:Int)
 ·simp[g1,g2];exact (gD (by simp[Rv,hv];omega)).symm
 simp[g1,g2];refine Oc (λρ jD gH N=>∃i:Nat,jD=[]∧N+i=z.length∧lk ρ 1=.ptr 0 0∧lk ρ 3=.fn (.func 165) [] [.ptr 0 0]∧lk ρ 31=.lst (Tf z) z.length 7∧lk ρ 32=.i z.length∧lk ρ 33=.i i∧0<gH.length∧gH[0]?=some (.cells (Q6 g j z) 0)∧∀gC,gC<i→Sc g (go z gC)=true) (N:=z.length) ⟨0,by simp[Q6]⟩ ?_;rintro N ρ jD gH ⟨i,rfl,hN,B,F,gQ,gR,gT,O,L,hr⟩ Nx H;by_cases gI:i<z.length
 ·have q7:=zt6 (zyj gI);have T:=yb gI;have P:(go z i).f=[.i (go z i).kind,.i (go z i).d,.i (go z i).e,.i (go z i).a,.i (go z i).b,.i (go z i).c,.u (go z i).imm]:=rfl;have no:Sc g (go z i)=false→Tq g j z=2:=λh=>gD (by
   have:z.all (Sc g)=false:=by
    rw[Lp];exact⟨go z i,Ia (zyj gI),by simp[h]⟩
   simp[Rv,this])
  have jM:Sc g (go z i)=true→∀gC,gC<i+1→Sc g (go z gC)=true:=λh gC hj=>by
   by_cases e:gC=i
   ·rw[e];exact h
   ·exact hr gC J
  generalize go z i=o at *;by_cases gE:o.kind=17
  ·simp[B,F,gQ,gR,gT,gI,q7,T,P,gE,↓Nk O,L,Q6];have hc:=zae (Nd g) g.length o;rw[P,gE]at hc;refine M2 hc (bors_self _ A3) ?_;cases hn:Rd g.length o with
   |false =>
    simp;exact (no (by simp[Sc,hn])).symm
   |true =>
    have gU:=zz8 gE hn;have ha:o.a<g.length:=by
     simp only[Rd,Hq]at hn;exact (af.1 hn.2.2.2.1).2
    have hb:o.b<g.length:=by
     simp only[Rd,Hq]at hn;have:=hn.2.2.2.2;split at this
     ·exact (af.1 this).2
     ·simp at this;omega
    simp[F];refine zcw o.a Bs ha ?_;cases ho:Tj g o.a with
    |true =>
     simp;exact (no (by simp[Sc,ho])).symm
    |false =>
     simp[F];refine zcw o.b Bs hb ?_;cases jE:Tj g o.b with
     |true =>
      simp;exact (no (by simp[Sc,jE])).symm
     |false =>
      simp[gT];exact⟨J,H _ _ _ ⟨N-1,J,i+1,rfl,J,Ao,Am,by simp[gQ],by simp[gR],by simp,by simp,Bs,jM (by simp[Sc,gE,hn,ho,jE])⟩⟩
  ·simp[B,F,gQ,gR,gT,gI,q7,T,P,gE];exact (no (by simp[Sc,gE])).symm
 have jF:z.all (Sc g)=true:=by
  rw[Jh];intro o ho;obtain⟨gC,hj,rfl⟩:=Js.1 ho;have e:=zyj hj;rw[Ht hj]at e;rw[Option.some.inj e];exact hr gC J
 simp[B,F,gQ,gR,gT,gI,L,Q6,jL,↓Nk O];refine⟨J,?_⟩;refine Oc (λρ jD gH N=>∃(i:Nat) (m:List Bool) (p q st E:Nat),jD=[]∧N+i=g.length∧lk ρ 1=.ptr 0 0∧lk ρ 3=.fn (.func 165) [] [.ptr 0 0]∧lk ρ 6=.ptr p 0∧lk ρ 65=.lst (Nd g) g.length 3∧lk ρ 66=.i g.length∧lk ρ 67=.i i ∧
   0<gH.length∧p<gH.length∧0<q∧q<gH.length∧gH[0]?=some (.cells (Q6 g j z) 0)∧gH[p]?=some (.cells [.dy q 0] st)∧gH[q]?=some (.dyn (m.map .bool) m.length 1 0 E)∧m.length=g.length∧∀gC,gC<i→gb m gC=Q2 (gv g gC)) (N:=g.length)
  ⟨0,List.replicate g.length false,gH.length+1,gH.length,1,0,rfl,J,Ao,Am,by simp,Ao,by simp,by simp,by simp,by simp,O,by simp,Bs,by simp,by simp[repB],by simp,by simp⟩ ?_
 clear B F L hr H O;rintro N ρ jD gH ⟨i,m,p,q,st,E,rfl,hN,B,F,D,g8,g9,jg,O,A,gK,I,L,K,T,U,hm⟩ Nx H;by_cases gI:i<g.length
 ·have hg:=Sr gI;have q3:=zbb hg;have jz:=ae gI;have P:(gv g i).f=[.i (gv g i).limbs,.bool (gv g i).sec,.i (gv g i).mode]:=rfl;simp[B,D,g8,g9,jg,gI,q3,jz,P,↓Nk A,K];rw[←P];refine M2 (z9w (gv g i)) (bors_self _ rfl) ?_;simp[↓Nk A,↓Nk I,K,T,D,jg,gI,U];refine⟨J,J,H _ _ _ ⟨N-1,J,i+1,m.set i (Q2 (gv g i)),p,q,st,E+1,rfl,J,Ao,Am,Ak,by simp[g8],by simp[g9],by simp,by simp,Ab,gK,Ab,?_,?_,?_,Bm,λgC hj=>?_⟩⟩
  ·rw[Ho J,Nk O];exact L
  ·have jO:p≠q:=λe=>by rw[e,T]at K;cases K
   rw[Ho J,Nk A];exact K
  ·rw[Hu Ab,zh6 _ _ _ _ J,Jv,U]
  ·rw[tr _ _ _ _ J];split
   ·rename_i e;rw[e]
   ·exact hm gC J
 have jP:m=Y0 g:=zy (by simp[Y0,U]) (λgC hj=>by
  rw[hm gC J];unfold gb Y0;rw[Hn,Jj,Sr J];rfl)
 simp[B,D,g8,g9,jg,gI,L,Q6];refine Oc (λρ jD gH N=>∃(i:Nat) (m:List Bool) (G:Int) (p q st E:Nat),jD=[]∧N+i=j.length∧lk ρ 1=.ptr 0 0∧lk ρ 3=.fn (.func 165) [] [.ptr 0 0]∧lk ρ 6=.ptr p 0∧lk ρ 9=.i G∧lk ρ 79=.lst (Tf j) j.length 7∧lk ρ 80=.i j.length∧lk ρ 81=.i i ∧
   0<gH.length∧p<gH.length∧0<q∧q<gH.length∧gH[0]?=some (.cells (Q6 g j z) 0)∧gH[p]?=some (.cells [.dy q 0] st)∧gH[q]?=some (.dyn (m.map .bool) m.length 1 0 E)∧m.length=g.length∧0≤G∧G≤4∧Tu g m G (j.drop i)=Tu g (Y0 g) 0 j) (N:=j.length)
  ⟨0,m,0,p,q,st,E,rfl,J,Ao,Am,Ak,by simp,Ao,by simp,by simp,O,A,gK,I,L,K,T,U,J,J,by simp[jP]⟩ ?_
 clear B F D L K T H O A gK I U;rintro N ρ jD gH ⟨i,m,G,p,q,st,E,rfl,hN,B,F,D,Y,Z,gg,gz,O,A,gK,I,L,K,T,U,jY,jZ,gF⟩ Nx H;have jO:p≠q:=λe=>by rw[e,T]at K;cases K
 by_cases gI:i<j.length
 ·have q7:=zt6 (zyj gI);have jz:=yb gI;rw[oj gI]at gF;have P:(go j i).f=[.i (go j i).kind,.i (go j i).d,.i (go j i).e,.i (go j i).a,.i (go j i).b,.i (go j i).c,.u (go j i).imm]:=rfl;generalize go j i=o at *;have no:Tu g m G (o::j.drop (i+1))=none→Tq g j z=2:=λh=>gD (by
   rw[h]at gF;simp[Rv,←gF])
  simp[B,Z,gg,gz,gI,q7,jz,P,↓Nk O,L,Q6];rw[←P];refine M2 (zkp g o) (bors_self _ (by simp[dats,LV.dat,Qo,P])) ?_;cases ho:Nf g o with
  |false =>
   simp;exact (no (by simp[Tu,ho])).symm
  |true =>
  have gU:=d6 ho;simp[P];rw[←P];refine Q5 (z9s o gU.swap) rfl ?_;simp[D];have jQ:(Sn o).length≤9223372036854775807:=by
   have B:([o.a,o.b,o.c].filter λv=>!decide (v<0)).length≤3:=List.length_filter_le _ _;unfold Sn;split<;>simp at B ⊢<;>omega
  refine z6h (p:=λv=>!gb m v.toNat) jQ (λv hv K' k=>zrm v Db (by rw[Nk I];exact T) (by have:=gU.takes v hv;omega) k) ?_;cases ht:wn m o with
  |false =>
   have:((Sn o).any λv=>!gb m v.toNat)=true:=by
    have h:=ht;unfold wn at h;rw[Lp]at h;obtain⟨v,hv,h⟩:=h;exact Iw.2 ⟨v,hv,Av⟩
   rw[this];simp;exact (no (by simp[Tu,ho,ht])).symm
  |true =>
  have:((Sn o).any λv=>!gb m v.toNat)=false:=by
   have h:=ht;unfold wn at h;rw[Jh]at h;rw[Kz];intro v hv;simp[h v hv]
  rw[this];have jR:∀C,C=G+dl o.kind→(C<0∨4<C→Tq g j z=2)∧(0≤C→C≤4→Tu g (W4 m o) C (j.drop (i+1))=Tu g (Y0 g) 0 j):=λC e=>by
   subst e;refine⟨λh=>no ?_,λh0 h4=>?_⟩
   ·rw[Tu,Hs];simp only[Hq,Hz];omega
   ·rw[←gF,Tu,Hv];simp only[Hq,Hz];exact⟨ho,ht,h0,h4⟩
  have jA:∃V,dl o.kind=V∧-1≤V∧V≤1∧((o.kind=15∧V=1)∨(o.kind≠15∧o.kind=16∧V=-1)∨(o.kind≠15∧o.kind≠16∧V=0)):=by
   by_cases k1:o.kind=15
   ·exact⟨1,by simp[dl,k1],J,J,.inl ⟨k1,rfl⟩⟩
   by_cases k2:o.kind=16
   ·exact⟨-1,by simp[dl,k2],J,J,.inr (.inl ⟨k1,k2,rfl⟩)⟩
   ·exact⟨0,by simp[dl,k1,k2],J,J,.inr (.inr ⟨k1,k2,rfl⟩)⟩
  obtain⟨V,e1,e2,e3,jA⟩:=jA;obtain⟨gV,jG⟩:=jR (G+V) (by rw[e1]);have j4:=gU.d;have gL:0≤o.d→o.d<(m.length:Int):=λh=>J
  have gM:0≤o.d→Ns (m.map LV.bool) o.d.toNat [.bool true]=(m.set o.d.toNat true).map LV.bool:=λh=>zh6 LV.bool _ _ true J
  have next:∀(C:Int) (ρ':Mq) (G':Mp) (gO:Nat),C=G+V→0≤C→C≤4→lk ρ' 1=.ptr 0 0→lk ρ' 3=.fn (.func 165) [] [.ptr 0 0]→lk ρ' 6=.ptr p 0→lk ρ' 9=.i C→lk ρ' 79=.lst (Tf j) j.length 7→lk ρ' 80=.i j.length→lk ρ' 81=.i ((i:Int)+1) →
    gH.length≤G'.length→G'[0]?=some (.cells (Q6 g j z) 0)→G'[p]?=some (.cells [.dy q 0] st)→G'[q]?=some (.dyn ((W4 m o).map .bool) m.length 1 0 gO)→Nx ρ' [] G':=by
   intro C ρ' G' gO e gY gZ a1 a3 a6 a9 jT jU jV j5 b0 bp bq;have jH:(W4 m o).length=m.length:=by unfold W4;split<;>simp
   refine H _ _ _ ⟨N-1,J,i+1,W4 m o,C,p,q,st,gO,rfl,J,a1,a3,a6,a9,jT,jU,by rw[jV];simp,J,J,gK,J,b0,bp,by rw[jH];exact bq,by rw[jH,U],gY,gZ,?_⟩;subst e;exact jG gY gZ
  have q0:q≠0:=J
  have jB:0≤o.d→W4 m o=m.set o.d.toNat true:=λh=>by simp[W4,h]
  have jC:¬0≤o.d→W4 m o=m:=λh=>by simp[W4,h]
  rcases jA with ⟨M,rfl⟩|⟨M,gG,rfl⟩|⟨M,gG,rfl⟩
  ·have r0:¬G+1<0:=J
   by_cases d4:4<G+1
   ·simp[Y,P,M,r0,d4]
    repeat (refine⟨J,?_⟩)
    exact (gV (.inr d4)).symm
   by_cases Q:0≤o.d
   ·have d2:=gL Q;simp[D,Y,gz,P,M,r0,d4,↓Nk A,↓Nk I,K,T,Q,d2,gM Q]
    repeat (refine⟨J,?_⟩)
    refine next (G+1) _ _ (E+1) rfl J J Ao Am Ak (by simp) Dc By (by simp) (by simp) ?_ ?_ ?_
    ·rw[Ho J,Nk O];exact L
    ·rw[Ho J,Nk A];exact K
    ·rw[Hu Ab,jB Q,I3]
   ·simp[D,Y,gz,P,M,r0,d4,Q]
    repeat (refine⟨J,?_⟩)
    exact next (G+1) _ _ E rfl J J Ao Am Ak (by simp) Dc By (by simp) (by simp) Bs Db Dz
  ·by_cases r0:G-1<0
   ·simp[Y,P,M,gG,r0]
    repeat (refine⟨J,?_⟩)
    exact (gV (.inl J)).symm
   have d4:¬4<G-1:=J
   by_cases Q:0≤o.d
   ·have d2:=gL Q;simp[D,Y,gz,P,M,gG,r0,d4,↓Nk A,↓Nk I,K,T,Q,d2,gM Q]
    repeat (refine⟨J,?_⟩)
    refine next (G-1) _ _ (E+1) J J J Ao Am Ak (by simp) Dc By (by simp) (by simp) ?_ ?_ ?_
    ·rw[Ho J,Nk O];exact L
    ·rw[Ho J,Nk A];exact K
    ·rw[Hu Ab,jB Q,I3]
   ·simp[D,Y,gz,P,M,gG,r0,d4,Q]
    repeat (refine⟨J,?_⟩)
    exact next (G-1) _ _ E J J J Ao Am Ak (by simp) Dc By (by simp) (by simp) Bs Db Dz
  ·have r0:¬G<0:=J
   have d4:¬4<G:=J
   by_cases Q:0≤o.d
   ·have d2:=gL Q;simp[D,Y,gz,P,M,gG,r0,d4,↓Nk A,↓Nk I,K,T,Q,d2,gM Q]
    repeat (refine⟨J,?_⟩)
    refine next G _ _ (E+1) J J J Ao Am Ak (by simp[Y]) Dc By (by simp) (by simp) ?_ ?_ ?_
    ·rw[Ho J,Nk O];exact L
    ·rw[Ho J,Nk A];exact K
    ·rw[Hu Ab,jB Q,I3]
   ·simp[D,Y,gz,P,M,gG,r0,d4,Q]
    repeat (refine⟨J,?_⟩)
    exact next G _ _ E J J J Ao Am Ak (by simp[Y]) Dc By (by simp) (by simp) Bs Db Dz
 have jX:Tu g (Y0 g) 0 j=some (m,G):=by
  rw[Jk J]at gF;rw[←gF];rfl
 have l1:j.length≤4096:=J
 have l2:z.length≤4096:=J
 have gP:Rv g j z=(np g m&&decide (G=0)):=by simp[Rv,hv,jF,jX,l1,l2]
 simp[B,F,D,Z,gg,gz,gI,K,T];refine Oc (λρ jD G' N=>∃i:Nat,jD=[]∧G'=gH∧N+i=g.length∧lk ρ 1=.ptr 0 0∧lk ρ 3=.fn (.func 165) [] [.ptr 0 0]∧lk ρ 6=.ptr p 0∧lk ρ 9=.i G∧lk ρ 121=.i g.length∧lk ρ 122=.i i ∧
   ∀gC,gC<i→(gv g gC).mode=3→gb m gC=true) (N:=g.length) ⟨0,rfl,rfl,J,Ao,Am,Ak,by simp[Y],Bm,by simp,λgC hj=>J⟩ ?_
 clear B F D Y H;rintro N ρ jD G' ⟨i,rfl,rfl,hN,B,F,D,Y,gA,R,ha⟩ Nx H;by_cases gI:i<g.length
 ·have gm:i<m.length:=J
  have q1:=Vs (f:=LV.bool) (wj gm);simp[F,gA,R,gI];refine zcw (i:Int) L J ?_;cases ho:Tj g i with
  |false =>
   simp[R];refine⟨J,H _ _ _ ⟨N-1,J,i+1,rfl,rfl,J,Ao,Am,Ak,by simp[Y],by simp[gA],by simp,λgC hj X=>?_⟩⟩;by_cases e:gC=i
   ·subst e;simp[Tj,X]at ho
   ·exact ha gC J X
  |true =>
   cases hb:gb m i with
   |false =>
    simp[D,R,K,T,gm,Mr q1,hb];have X:(gv g i).mode=3:=by simp[Tj]at ho;exact ho
    have:np g m=false:=by
     unfold np;rw[Lp];exact⟨i,J0.2 gI,by simp[X,hb]⟩
    exact (gD (by rw[gP,this];rfl)).symm
   |true =>
    simp[D,R,K,T,gm,Mr q1,hb];refine⟨J,H _ _ _ ⟨N-1,J,i+1,rfl,rfl,J,Ao,Am,Ak,by simp[Y],by simp[gA],by simp,λgC hj X=>?_⟩⟩;by_cases e:gC=i
    ·rw[e];exact hb
    ·exact ha gC J X
 have jI:np g m=true:=by
  unfold np;rw[Jh];intro gC hj;have hj:=J0.1 hj;by_cases X:(gv g gC).mode=3
  ·simp[ha gC J X]
  ·simp[X]
 by_cases d0:G=0
 ·simp[Y,gA,R,gI,d0];simp[Tq,gP,jI,d0]
 ·simp[Y,gA,R,gI,d0];simp[Tq,gP,d0]
def zcl:LC:=(.q [.x 1 0,.F 2] (.q [.f 3 2 1,.l 4 3,.b 5 .eql 3 4 1,.m 6 5,.nf 7 6 2 1,.nl 8 6 7,.nb 9 6 .eql 3 8 2,.p 10 6 9,.m 2 10] .ret))
def r_expand_given:My Tryz.prog 172=some ⟨11,zcl.r,[.tmp 2]⟩:=Aa
def zar:LC:=(.q [.z 4 (.alloc [.nilSl,.nilSl,.nilSl])] (.q [.m 8 0,.z 9 (.build [.nilSl,.nilSl,.nilSl] [(0,1,.t 8)]),.z 5 (.alloc [.nilSl,.nilSl,.nilSl]),.S 3 5 9] (.seq (.q [.m 10 0,.s 11 10,.K 12 0] (.block 0 (.loop (.q [.c 13 .lss 3 12 11] (.seq (.cond (.t 13) .skip (.exit 0)) (.seq (.block 1 (.q [.m 14 12,.I 15 3 10 12,.L 16 3 15,.z 7 (.alloc [(.i 0),(.bool false),(.i 0)]),.m 6 14,.S 3 7 16] (.q [.L 17 3 7,.w 18 172 17,.z 19 (.un .not (.t 18))] (.cond (.t 19) (.ops [.f 20 1 5,.l 21 20,.m 22 6,.z 23 (.build [(.i 0),(.i 0),(.i 0),(.i 0),(.i 0),(.i 0),(.u 0)] [(0,1,.k 1),(1,1,.t 22),(2,1,.k (-1)),(3,1,.k (-1)),(4,1,.k (-1)),(5,1,.k (-1))]),.z 24 (.buildSl 7 1 [(.i 0),(.i 0),(.i 0),(.i 0),(.i 0),(.i 0),(.u 0)] [(0,7,.t 23)]),.a 25 7 21 24,.f 26 1 5,.S 1 26 25]) .skip)))) (.ops [.b 27 .add 3 12 1,.m 12 27]))))))) (.q [.f 28 1 5,.l 29 28,.m 30 1,.a 31 7 29 30,.f 32 1 5,.S 1 32 31] (.q [.L 33 3 5,.S 3 4 33] .ret)))))
def r_expand_kernel:My Tryz.prog 119=some ⟨34,zar.r,[.cellN 4 3]⟩:=Aa
def z7v:LC:=(.q [.x 3 1,.F 4] (.seq (.q [.f 5 0 3,.l 6 5,.b 7 .eql 3 6 15,.m 8 7,.nf 9 8 0 3,.nl 10 8 9,.nb 11 8 .eql 3 10 16,.p 12 8 11] (.cond (.t 12) (.q [.F 4] .ret) .skip)) (.q [.m 13 0,.L 14 7 3,.z 15 (.buildSl 7 1 [(.i 0),(.i 0),(.i 0),(.i 0),(.i 0),(.i 0),(.u 0)] [(0,7,.t 14)]),.W 16 119 13 15,.w 17 118 16,.b 18 .eql 35 17 0,.m 4 18] .ret)))
def r_expand_May:My Tryz.prog 55=some ⟨19,z7v.r,[.tmp 4]⟩:=Aa
def z2s:LC:=(.q [.K 2 0] (.seq (.q [.m 3 0,.b 4 .lss 3 3 1] (.cond (.t 4) (.q [.K 2 0] .ret) .skip)) (.q [.m 5 0,.b 6 .add 3 5 2,.m 2 6] .ret)))
def r_montgomery_Need:My Tryz.prog 21=some ⟨7,z2s.r,[.tmp 2]⟩:=Aa
def k_montgomery_Need:z2s.ok=true:=Aa
def z5h:LC:=(.q [.x 3 1,.K 4 0] (.seq (.q [.f 5 0 3,.l 6 5,.b 7 .neq 3 6 12,.m 8 7,.mn 9 8 0,.n 10 8 (.loadN 7 (.t 3)),.n 11 8 (.w 55 [.t 9,.t 10]),.n 12 8 (.un .not (.t 11)),.p 13 8 12] (.cond (.t 13) (.q [.K 4 0] .ret) .skip)) (.q [.m 14 0,.f 15 5 3,.l 16 15,.I 17 3 14 16,.f 18 0 17,.l 19 18,.w 20 21 19,.m 4 20] .ret)))
def r_montgomery_Work:My Tryz.prog 15=some ⟨21,z5h.r,[.tmp 4]⟩:=Aa
def zaz(v:Vr):Mu 172 [.agg v.f] (.bool (Q2 v)) []:=by
 refine Ng.val rfl (Mz r_expand_given Aa N ?_);by_cases g:v.mode=1<;>simp[zcl,Vr.f,Q2,g]
def zrv{i:Nat}(h:i<vX.length):Uh i (vX.drop i)=(if Q2 (gv vX i)=true then [] else [Xb 1 i])++Uh (i+1) (vX.drop (i+1)):=by
 rw[zmw h,Uh];split<;>rfl
def zz1(l:List LV):(LV.agg l).cells=some l:=rfl
def zzw(a b:List Ko):Tf (a++b)=Tf a++Tf b:=by simp[Tf]
def z9v(g:List Vr)(z:List Ko)(hl:g.length≤1000000)(hn:z.length≤1000000):Od 119 [.lst (Nd g) g.length 3,.lst (Tf z) z.length 7] (.agg (Q6 g (Uh 0 g++z) [])):=by
 refine Ra.mk (by simp[Q6,LV.dat,dats,Qo,zbc]) (Mz r_expand_kernel Aa (by simp) ?_);simp[zar];refine Oc (λU gC gg N=>∃(i:Nat) (T:List Ko) (v:LV) (st:Nat),gC=[]∧N+i=g.length∧lk U 1=.lst (Tf z) z.length 7∧lk U 4=.ptr 0 0∧lk U 5=.ptr 1 0∧lk U 10=.lst (Nd g) g.length 3∧lk U 11=.i g.length∧lk U 12=.i i ∧
   1<gg.length∧gg[0]?=some (.cells [.nilSl,.nilSl,.nilSl] 0)∧gg[1]?=some (.cells [.lst (Nd g) g.length 3,v,.nilSl] st)∧Rw 2 gg v 7 T.length (Tf T)∧T.length≤i∧Uh 0 g=T++Uh i (g.drop i)) (N:=g.length)
  ⟨0,[],.nilSl,1,rfl,J,by simp,by simp,by simp,by simp,by simp,by simp,by simp,by simp,by simp,Rw.nil,by simp,by simp⟩ ?_
 rintro N U gC gg ⟨i,T,v,st,rfl,hN,V,X,M,F,G,H,K,L,A,Y,gA,j⟩ Nx O;have P:0<gg.length:=J
 by_cases gz:i<g.length
 ·have hg:=Sr gz;have q3:=zbb hg;have Z:=ae gz;have hf:(gv g i).f=[.i (gv g i).limbs,.bool (gv g i).sec,.i (gv g i).mode]:=rfl;have Q:=zrv gz;rw[Q]at j;simp[F,G,H,gz,q3,Z,hf];rw[←hf];refine M2 (zaz (gv g i)) (bors_self _ rfl) ?_;cases R:Q2 (gv g i) with
  |true =>
   rw[R]at j;simp[H];refine⟨J,O _ _ _ ⟨N-1,J,i+1,T,v,st,rfl,J,by simp[V],by simp[X],A0,Am,A8,by simp,Ab,by rw[Nk P];exact L,by rw[Nk K];exact A,Y.push_end,J,Bg⟩⟩
  |false =>
   rw[R]at j;simp[M,↓Nk K,A];refine Rw.push (m:=1) (x:=(Xb 1 i).f) Y.push_end J (by simp) J rfl λv' I B C hb=>?_
   have D:I[1]?=some (.cells [.lst (Nd g) g.length 3,v,.nilSl] st):=by rw[C 1 J,Nk K];exact A
   have E:I[0]?=some (.cells [.nilSl,.nilSl,.nilSl] 0):=by rw[C 0 J,Nk P];exact L
   have hc:=B.cells;simp[-LV.cells,M,H,D,hc];refine⟨J,O _ _ _ ⟨N-1,J,i+1,T++[Xb 1 i],v',st+1,rfl,J,by simp[V],by simp[X],A0,Am,A8,by simp,Ab,?_,?_,?_,Ab,Bg⟩⟩
   ·rw[Ho J];exact E
   ·rw[Hu J]
   ·rw[zzw,H4,show Tf [Xb 1 (i:Int)]=(Xb 1 i).f by simp[Tf]];exact B.set_lt J
 ·rw[Jk J]at j;have j:Uh 0 g=T:=by simpa [Uh] using j
  simp[V,M,F,G,H,gz,A];refine⟨J,?_⟩;refine Rw.push (m:=z.length) Y J J J (rq z) λv' I B C hb=>?_
  have D:I[1]?=some (.cells [.lst (Nd g) g.length 3,v,.nilSl] st):=by rw[C 1 J];exact A
  have E:I[0]?=some (.cells [.nilSl,.nilSl,.nilSl] 0):=by rw[C 0 J];exact L
  have hc:=B.cells;have s1:∀x,(I.set 1 x)[1]?=some x:=λx=>Hu J
  have s0:∀x,(I.set 1 x)[0]?=some (.cells [.nilSl,.nilSl,.nilSl] 0):=λx=>by rw[Ho J];exact E
  have s2:∀x y,((I.set 1 x).set 0 y)[0]?=some y:=λx y=>Hu (by rw[Jv];omega)
  simp[-LV.cells,X,M,↓D,↓s1,↓s0,↓s2,hc,zz1];refine⟨_,_,rfl,⟨rfl,Qo g⟩,_,_,rfl,?_,_,rfl,.inr ⟨7,rfl⟩⟩;rw[j,zzw,H4];exact ((B.set_lt J).set_lt J).bor (dats_app (zbc _) (zbc _))
def pi(o:Ko):o.f=Tf [o]:=by simp[Tf]
def zn7(z:List Vr)(o:Ko)(B:z.length≤1000000):Mu 55 [.lst (Nd z) z.length 3,.agg o.f] (.bool (Sk z o)) []:=by
 refine Ng.val rfl (Mz r_expand_May Aa N ?_);have A:o.f=[.i o.kind,.i o.d,.i o.e,.i o.a,.i o.b,.i o.c,.u o.imm]:=rfl;by_cases g:o.kind=15
 ·simp[z7v,A,g];simp[Sk,x8,g]
 by_cases j:o.kind=16
 ·simp[z7v,A,g,j];simp[Sk,x8,j]
 simp[z7v,A,g,j];refine ztq (a:=[.lst (Nd z) z.length 3]) (b:=[]) rfl ?_;rw[←A,pi];refine Q5 (z9v z [o] B N) (by simp[dats,LV.dat,Qo,zbc]) ?_;simp;refine M2 (z9y z _ [] J) (bors_self _ (by simp[Q6,dats,LV.dat,Qo,zbc])) ?_;simp[Sk,x8,g,j,Tq]
def zep(n:Int)(h:1≤n∧n≤512):Mu 21 [.i n] (.i (n+2)) []:=by
 refine Ng.val rfl (Mz r_montgomery_Need k_montgomery_Need N ?_);have g:¬n<1:=J
 simp[z2s,g];omega
def z7s(g:List Vr)(o:Ko)(E:g.length≤1000000):Mu 15 [.lst (Nd g) g.length 3,.agg o.f] (.i (M4 g o)) []:=by
 refine Ng.val rfl (Mz r_montgomery_Work Aa N ?_);have z:o.f=[.i o.kind,.i o.d,.i o.e,.i o.a,.i o.b,.i o.c,.u o.imm]:=rfl;by_cases j:o.kind=12
 case neg=>simp[z5h,z,j,M4]
 simp[z5h,z,j];have B:=zn7 g o E;rw[z,j]at B;refine M2 B (bors_self _ A3) ?_;cases hm:Sk g o with
 |false=>simp[M4,hm]
 |true =>
 obtain⟨hv,F,_⟩:=zop (s:=29) hm (by simp[O0,j]);obtain⟨a,A,G,C,D⟩:=znz hv (zmc F Ad);simp[A,G];simp[A]at C D;simp[Mr C];refine M2 (zep (O5 g (a:Int)) D) N ?_;simp[M4,hm,j,A]
def z2a:LC:=(.q [.K 4 0] (.seq (.q [.m 6 0,.s 7 6,.K 8 0] (.block 0 (.loop (.q [.c 9 .lss 3 8 7] (.seq (.cond (.t 9) .skip (.exit 0)) (.seq (.block 1 (.q [.m 10 8,.m 5 10] (.q [.m 11 1,.m 12 0,.m 13 5,.I 14 3 12 13,.L 15 3 14,.z 16 (.callV (.t 11) [.t 15])] (.cond (.t 16) (.q [.m 17 5,.m 4 17] .ret) .skip)))) (.ops [.b 18 .add 3 8 1,.m 8 18]))))))) (.q [.K 4 (-1)] .ret)))
def r_slices_IndexFunc_api_Buf_api_Buf:My Tryz.prog 213=some ⟨19,z2a.r,[.tmp 4]⟩:=Aa
def z23:LC:=(.q [.F 4] (.q [.m 5 0,.m 6 1,.W 7 213 5 6,.b 8 .geq 3 7 0,.m 4 8] .ret))
def r_slices_ContainsFunc_api_Buf_api_Buf:My Tryz.prog 200=some ⟨9,z23.r,[.tmp 4]⟩:=Aa
def zd1:LC:=(.q [.x 1 0,.K 2 0] (.seq (.q [.f 3 0 1,.l 4 3,.b 5 .gtr 3 4 64,.m 6 5,.nf 7 6 1 1,.nl 8 6 7,.n 9 6 (.lenSl (.t 8)),.nb 10 6 .gtr 3 9 32,.p 11 6 10,.m 12 11,.nf 13 12 2 1,.nl 14 12 13,.n 15 12 (.lenSl (.t 14)),.nb 16 12 .gtr 3 15 65536,.p 17 12 16] (.cond (.t 17) (.q [.K 2 3] .ret) .skip)) (.seq (.q [.f 18 1 1,.l 19 18,.z 20 (.w 200 [.t 19,(.c (.fn (.func 201) [] []))])] (.cond (.t 20) (.q [.K 2 3] .ret) .skip)) (.seq (.q [.f 21 0 1,.l 22 21,.b 23 .lss 3 22 0,.m 24 23,.nf 25 24 1 1,.nl 26 24 25,.n 27 24 (.w 200 [.t 26,(.c (.fn (.func 202) [] []))]),.p 28 24 27] (.cond (.t 28) (.q [.K 2 2] .ret) .skip)) (.q [.K 2 0] .ret)))))
def r_limb_head:My Tryz.prog 196=some ⟨29,zd1.r,[.tmp 2]⟩:=Aa
def zdk:LC:=(.q [.x 1 0,.F 2] (.q [.f 3 0 1,.l 4 3,.b 5 .gtr 3 4 65536,.m 2 5] .ret))
def r_limb_head_1:My Tryz.prog 201=some ⟨6,zdk.r,[.tmp 2]⟩:=Aa
def z6q:LC:=(.q [.x 1 0,.F 2] (.q [.f 3 0 1,.l 4 3,.b 5 .lss 3 4 1,.m 6 5,.nf 7 6 1 1,.nl 8 6 7,.nb 9 6 .lss 3 8 1,.p 10 6 9,.m 11 10,.nf 12 11 1 1,.nl 13 11 12,.nb 14 11 .gtr 3 13 3,.p 15 11 14,.m 2 15] .ret))
def r_limb_head_2:My Tryz.prog 202=some ⟨16,z6q.r,[.tmp 2]⟩:=Aa
def zg3:LC:=(.q [.x 1 0,.K 2 0,.K 3 0] (.seq (.q [.L 9 3 1,.w 10 196 9,.m 4 10] (.q [.m 11 4,.b 12 .neq 35 11 0] (.cond (.t 12) (.q [.m 13 4,.K 2 0,.m 3 13] .ret) .skip))) (.q [.L 14 3 1,.z 15 (.build [(.i 0),.nilSl,.nilSl,(.bool false),(.bool false),(.bool false),(.bool false),(.bool false),(.bool false),(.bool false),(.bool false),(.bool false),(.bool false),(.bool false),(.bool false),(.bool false),(.bool false),(.bool false),(.bool false),(.bool false),(.bool false),(.bool false),(.bool false),(.bool false),(.bool false),(.bool false),(.bool false),(.bool false),(.bool false),(.bool false),(.bool false),(.bool false),(.bool false),(.bool false),(.bool false),(.bool false),(.bool false),(.bool false),(.bool false),(.bool false),(.bool false),(.bool false),(.bool false),(.bool false),(.bool false),(.bool false),(.bool false),(.bool false),(.bool false),(.bool false),(.bool false),(.bool false),(.bool false),(.bool false),(.bool false),(.bool false),(.bool false),(.bool false),(.bool false),(.bool false),(.bool false),(.bool false),(.bool false),(.bool false),(.bool false),(.bool false),(.bool false),.nilSl] [(0,3,.t 14)]),.x 16 15,.m 5 16] (.seq (.q [.f 17 2 1,.l 18 17,.s 19 18,.K 20 0] (.block 0 (.loop (.q [.c 21 .lss 3 20 19] (.seq (.cond (.t 21) .skip (.exit 0)) (.seq (.block 1 (.q [.m 22 20,.I 23 8 18 20,.L 24 8 23,.z 7 (.alloc [(.i 0),(.i 0),(.i 0),(.i 0),(.i 0),(.i 0),(.i 0),(.u 0)]),.m 6 22,.S 8 7 24] (.q [.m 25 5,.L 26 8 7,.W 27 197 25 26,.m 8 27] (.q [.m 28 8,.b 29 .neq 35 28 0] (.cond (.t 29) (.q [.m 30 6,.m 31 8,.m 2 30,.m 3 31] .ret) .skip))))) (.ops [.b 32 .add 3 20 1,.m 20 32]))))))) (.seq (.q [.m 33 5,.N 34 33,.f 35 67 34,.l 36 35,.s 37 36,.b 38 .gtr 3 37 0] (.cond (.t 38) (.q [.f 39 2 1,.l 40 39,.s 41 40,.m 2 41,.K 3 9] .ret) .skip)) (.q [.f 42 2 1,.l 43 42,.s 44 43,.m 2 44,.K 3 0] .ret))))))
def r_limb_Check:My Tryz.prog 174=some ⟨45,zg3.r,[.tmp 2,.tmp 3]⟩:=Aa
def xx:LC:=(.q [.x 2 0,.x 3 1,.F 4] (.seq (.q [.f 6 0 3,.l 7 6,.b 8 .lss 3 7 0,.m 9 8,.nf 10 9 0 3,.nl 11 9 10,.nf 12 9 0 2,.nl 13 9 12,.n 14 9 (.lenSl (.t 13)),.n 15 9 (.bin .geq false 3 (.t 11) (.t 14)),.p 16 9 15,.m 17 16,.nf 18 17 2 3,.nl 19 17 18,.nb 20 17 .lss 3 19 1,.p 21 17 20,.m 22 21,.nf 23 22 2 3,.nl 24 22 23,.nb 25 22 .gtr 3 24 32768,.p 26 22 25,.m 27 26,.nf 28 27 1 3,.nl 29 27 28,.nb 30 27 .lss 3 29 0,.p 31 27 30] (.cond (.t 31) (.q [.F 4] .ret) .skip)) (.q [.f 32 0 2,.l 33 32,.f 34 0 3,.l 35 34,.I 36 3 33 35,.f 37 0 36,.l 38 37,.m 5 38] (.q [.f 39 1 3,.l 40 39,.m 41 5,.c 42 .leq 3 40 41,.m 43 42,.yf 44 43 2 3,.yl 45 43 44,.my 46 43 5,.yf 47 43 1 3,.yl 48 43 47,.y 49 43 (.bin .sub false 3 (.t 46) (.t 48)),.y 50 43 (.bin .leq false 3 (.t 45) (.t 49)),.q 51 43 50,.m 4 51] .ret))))
def r_expand_lies:My Tryz.prog 175=some ⟨52,xx.r,[.tmp 4]⟩:=Aa
def zch:LC:=(.q [.x 3 1,.K 4 0] (.seq (.q [.m 13 0,.z 14 (.w 119 [.t 13,(.c .nilSl)]),.w 15 118 14,.b 16 .neq 35 15 0,.m 17 16,.nf 18 17 0 3,.nl 19 17 18,.n 20 17 (.lenSl (.t 19)),.nb 21 17 .lss 3 20 1,.p 22 17 21,.m 23 22,.nf 24 23 1 3,.nl 25 23 24,.n 26 23 (.lenSl (.t 25)),.mn 27 23 0,.n 28 23 (.lenSl (.t 27)),.n 29 23 (.bin .neq false 3 (.t 26) (.t 28)),.p 30 23 29] (.cond (.t 30) (.q [.K 4 2] .ret) .skip)) (.seq (.q [.f 32 0 3,.l 33 32,.z 34 (.build [(.i 0),.nilSl,.nilSl] [(1,1,.t 33)]),.w 35 174 34,.m 31 35,.X 36 0 31,.X 37 1 31,.m 5 36,.m 6 37] (.q [.m 38 6,.b 39 .neq 35 38 0] (.cond (.t 39) (.q [.K 4 2] .ret) .skip))) (.seq (.q [.m 40 0,.s 41 40,.K 42 0] (.block 0 (.loop (.q [.c 43 .lss 3 42 41] (.seq (.cond (.t 43) .skip (.exit 0)) (.seq (.block 1 (.q [.m 44 42,.I 45 3 40 42,.L 46 3 45,.z 8 (.alloc [(.i 0),(.bool false),(.i 0)]),.m 7 44,.S 3 8 46] (.q [.f 47 1 3,.l 48 47,.m 49 7,.I 50 3 48 49,.L 51 3 50,.z 9 (.alloc [(.i 0),(.i 0),(.i 0)]),.S 3 9 51] (.seq (.q [.L 52 8 3,.L 53 3 9,.W 54 175 52 53,.z 55 (.un .not (.t 54)),.m 56 55,.nf 57 56 2 9,.nl 58 56 57,.nf 59 56 0 8,.nl 60 56 59,.n 61 56 (.bin .neq false 3 (.t 58) (.t 60)),.p 62 56 61] (.cond (.t 62) (.q [.K 4 2] .ret) .skip)) (.q [.f 63 0 3,.l 64 63,.f 65 0 9,.l 66 65,.I 67 3 64 66,.L 68 3 67,.z 10 (.alloc [(.i 0),(.i 0),(.bool false)]),.S 3 10 68] (.q [.f 69 1 10,.l 70 69,.b 71 .eql 3 70 1,.m 72 71,.y 73 72 (.loadN 3 (.t 8)),.y 74 72 (.w 172 [.t 73]),.y 75 72 (.un .not (.t 74)),.q 76 72 75,.m 77 76,.nf 78 77 1 10,.nl 79 77 78,.nb 80 77 .eql 3 79 2,.mn 81 77 80,.y 82 81 (.loadN 3 (.t 8)),.y 83 81 (.w 172 [.t 82]),.n 84 77 (.pick (.t 81) (.t 83) .F),.p 85 77 84,.m 86 85,.nf 87 86 1 8,.nl 88 86 87,.nf 89 86 2 10,.nl 90 86 89,.n 91 86 (.bin .neq false 4 (.t 88) (.t 90)),.p 92 86 91] (.cond (.t 92) (.q [.K 4 2] .ret) .skip))))))) (.ops [.b 93 .add 3 42 1,.m 42 93]))))))) (.seq (.q [.f 94 2 3,.L 95 6 94,.K 96 0] (.block 2 (.loop (.q [.b 97 .lss 3 96 2] (.seq (.cond (.t 97) .skip (.exit 2)) (.seq (.block 3 (.q [.m 98 96,.z 99 (.ixArr true 2 3 (.t 95) (.t 96)),.z 12 (.alloc [(.i 0),(.i 0),(.i 0)]),.m 11 98,.S 3 12 99] (.q [.L 100 8 3,.L 101 3 12,.W 102 175 100 101,.z 103 (.un .not (.t 102)),.m 104 103,.nf 105 104 0 3,.nl 106 104 105,.nf 107 104 0 12,.nl 108 104 107,.n 109 104 (.ixAddr 3 (.t 106) (.t 108)),.nf 110 104 1 109,.nl 111 104 110,.nb 112 104 .eql 3 111 1,.p 113 104 112,.m 114 113,.nf 115 114 0 3,.nl 116 114 115,.nf 117 114 0 12,.nl 118 114 117,.n 119 114 (.ixAddr 3 (.t 116) (.t 118)),.nf 120 114 2 119,.nl 121 114 120,.mn 122 114 11,.nb 123 114 .eql 3 122 1,.n 124 114 (.bin .neq false 4 (.t 121) (.t 123)),.p 125 114 124] (.cond (.t 125) (.q [.K 4 2] .ret) .skip)))) (.ops [.b 126 .add 3 96 1,.m 96 126]))))))) (.q [.K 4 0] .ret))))))
def r_expand_Check:My Tryz.prog 125=some ⟨127,zch.r,[.tmp 4]⟩:=Aa
def z4x:LC:=(.q [.x 3 1,.F 4] (.q [.f 5 1 3,.l 6 5,.b 7 .geq 3 6 0,.m 8 7,.yf 9 8 1 3,.yl 10 8 9,.my 11 8 0,.y 12 8 (.lenSl (.t 11)),.y 13 8 (.bin .lss false 3 (.t 10) (.t 12)),.q 14 8 13,.m 15 14,.my 16 15 0,.yf 17 15 1 3,.yl 18 15 17,.y 19 15 (.ixAddr 3 (.t 16) (.t 18)),.yf 20 15 1 19,.yl 21 15 20,.y 22 15 (.un .not (.t 21)),.q 23 15 22,.m 4 23] .ret))
def r_expand_Public:My Tryz.prog 126=some ⟨24,z4x.r,[.tmp 4]⟩:=Aa
def zdv:LC:=(.q [.x 4 1,.x 5 2,.K 6 0,.z 7 (.alloc [(.i 0),(.i 0),(.i 0)])] (.seq (.q [.m 8 0,.L 9 7 4,.W 10 126 8 9] (.cond (.t 10) (.seq (.draw [(.f 11 2 5,[]),(.z 12 (.ixAddrArr 2 3 (.t 11) (.k 0)),[]),(.L 13 3 12,[]),(.K 6 16,[]),(.S 3 7 13,[])]) .ret) .skip)) (.seq (.draw [(.f 14 2 5,[]),(.z 15 (.ixAddrArr 2 3 (.t 14) (.k 1)),[]),(.L 16 3 15,[]),(.K 6 40,[]),(.S 3 7 16,[])]) .ret)))
def r_expand_Base:My Tryz.prog 59=some ⟨17,zdv.r,[.tmp 6,.cellN 7 3]⟩:=Aa
def zc4:LC:=(.q [.x 6 1,.x 7 2,.F 10] (.seq (.q [.m 13 0,.L 14 8 7,.W 15 125 13 14,.b 16 .neq 35 15 0,.m 17 16,.mn 18 17 4,.nb 19 17 .lss 3 18 1,.p 20 17 19,.m 21 20,.mn 22 21 3,.nb 23 21 .lss 3 22 0,.p 24 21 23,.m 25 24,.mn 26 25 3,.nb 27 25 .gtr 3 26 4,.p 28 25 27] (.cond (.t 28) (.q [.F 10] .ret) .skip)) (.q [.m 30 0,.L 31 7 6,.L 32 8 7,.V 33 59 30 31 32,.m 29 33,.X 34 0 29,.X 35 1 29,.z 12 (.alloc [(.i 0),(.i 0),(.i 0)]),.m 11 34,.S 3 12 35] (.q [.m 36 4,.f 37 2 12,.l 38 37,.c 39 .leq 3 36 38,.m 10 39] .ret))))
def r_expand_Ready:My Tryz.prog 58=some ⟨40,zc4.r,[.tmp 10]⟩:=Aa
def Pk(bs:List Bf)(z:List Pc)(g j:Pc):List LV:=[.lst (O8 bs) bs.length 3,.lst (Vk z) z.length 3,.i g.buf,.i g.at_,.i g.size,.i j.buf,.i j.at_,.i j.size]
def Pc.f_len(p:Pc):p.f.length=3:=rfl
def zei(l:List Pc):dats (Vk l)=true:=s9 (λ_=>rfl) l
def zds{l:List Pc}{i:Nat}{v:Pc}(h:l[i]?=some v):((Vk l).drop (i*3)).take 3=v.f:=zl Pc.f_len h
def Vw{l:List Pc}{i:Nat}(h:i<l.length):i*3+3≤(Vk l).length:=zrd Pc.f_len h
def zpp{l:List Pc}{n:Nat}(h:n<l.length):l[n]?=some (Rr l n):=by simp[Rr,Hn,h]
def zbk(g:List Bf)(j:List Pc)(z A:Pc):dats (Pk g j z A)=true:=by simp[Pk,dats,LV.dat,S0,zei]
def zre{l:List Bf}{f:Nat}{a b:List LV}{p:Bf→Bool}(T:l.length≤9223372036854775807)
  (P:∀v∈l,∀H:LV→Mp→Prop,H (.bool (p v)) G→Ol (.fn f) (a++[.agg v.f]++b) G H) (k:Y (.i (ac p l)) G):Ol (.fn 213) [.lst (O8 l) l.length 3,.fn (.func f) a b] G Y:=by
 refine Mz r_slices_IndexFunc_api_Buf_api_Buf Aa (by simp) ?_;simp[z2a];refine Oc (λI R K N=>∃i:Nat,R=[]∧K=G∧N+i=l.length∧lk I 0=.lst (O8 l) l.length 3∧lk I 1=.fn (.func f) a b∧lk I 7=.i l.length∧lk I 8=.i i∧∀L b,L<i→l[L]?=some b→p b=false) (N:=l.length) ⟨0,by simp⟩ ?_;rintro N I R K ⟨i,rfl,rfl,U,j,z,A,B,C⟩ V D;by_cases hi:l.length≤i
 ·have F:¬i<l.length:=J
  simp[j,z,A,B,F];rw[←zuk hi C];exact k
 ·have F:i<l.length:=J
  have E:=Ht F;have Q:=vx F;simp[j,z,A,B,F,zua E,Q];have M:=P l[i] (Kj F);simp only[I8,List.singleton_append]at M;refine M _ ?_;cases O:p l[i] with
  |true =>
   simp;rw[←lf E O C];exact k
  |false =>
   simp[B];refine⟨J,D _ _ _ ⟨N-1,J,i+1,rfl,rfl,J,Af,Ae,Ar,by simp,λL b X g=>?_⟩⟩;by_cases e:L=i
   ·subst e;rw[E]at g;cases g;exact O
   ·exact C L b J g
def zc1{l:List Bf}{f:Nat}{a b:List LV}{p:Bf→Bool}(j:l.length≤9223372036854775807)
  (z:∀v∈l,∀g:LV→Mp→Prop,g (.bool (p v)) G→Ol (.fn f) (a++[.agg v.f]++b) G g) (k:Y (.bool (l.any p)) G):Ol (.fn 200) [.lst (O8 l) l.length 3,.fn (.func f) a b] G Y:=by
 refine Mz r_slices_ContainsFunc_api_Buf_api_Buf Aa N ?_;simp[z23];refine zre j z ?_;simp;rw[Xx];exact k
def zkj(b:Bf):Mu 201 [.agg b.f] (.bool (decide (65536<b.size))) []:=by
 refine Ng.val rfl (Mz r_limb_head_1 Aa N ?_);simp[zdk,Bf.f]
def zk6(b:Bf):Mu 202 [.agg b.f] (.bool (decide (b.size<1) || (decide (b.kind<1) || decide (3<b.kind)))) []:=by
 refine Ng.val rfl (Mz r_limb_head_2 Aa N ?_);by_cases g:b.size<1
 ·simp[z6q,Bf.f,g]
 by_cases j:b.kind<1
 ·simp[z6q,Bf.f,g,j]
 simp[z6q,Bf.f,g,j]
def zpc(g:List Bf)(C:g.length≤9223372036854775807):Mu 196 [.agg [.i 0,.lst (O8 g) g.length 3,.nilSl]] (.i (bo g)) []:=by
 refine Ng.val rfl (Mz r_limb_head Aa N ?_);by_cases B:32<g.length
 ·have z:(32:Int)<g.length:=J
  simp[zd1,bo,B,z]
 have z:¬(32:Int)<g.length:=J
 simp[zd1,B,z];refine zc1 (a:=[]) (b:=[]) (p:=λb=>decide (65536<b.size)) C (λv hv D k=>M2 (zkj v) (bors_self _ rfl) k) ?_;by_cases A:(g.any λb=>decide (65536<b.size))=true
 ·simp only[bo,Hs B,Hv A];rw[A];simp
 simp only[bo,Hs B,Hs A];rw[Bool.not_eq_true]at A;rw[A];simp;generalize j:(g.any λb=>decide (b.size<1) || (decide (b.kind<1) || decide (3<b.kind)))=E;refine zc1 (a:=[]) (b:=[]) (p:=λb=>decide (b.size<1) || (decide (b.kind<1) || decide (3<b.kind))) C (λv hv D k=>M2 (zk6 v) (bors_self _ rfl) k) ?_;rw[j];cases E with
 |true =>
  simp at j ⊢;obtain⟨x,F,h⟩:=j;exact⟨x,F,λ_ _=>J⟩
 |false=>simp;simpa using j
def ns(a b:Bool):Q9 Tryz.prog false 4 (.bool a) (.bool b)=some (a==b):=by cases a<;>cases b<;>kernel_rfl
def zef(g:List Bf)(E:g.length≤9223372036854775807):Mu 174 [.agg [.i 0,.lst (O8 g) g.length 3,.nilSl]] (.tup [.i 0,.i (bo g)]) []:=by
 refine Ng.val rfl (Mz r_limb_Check Aa (by simp) ?_);simp[zg3];refine M2 (zpc g E) (bors_self _ (by simp[dats,LV.dat,S0])) ?_;by_cases h:bo g=0
 ·simp[h];refine Oc (λD K F L=>K=[]∧lk D 1=.ptr 0 0∧lk D 5=.ptr 1 0∧lk D 19=.i 0∧lk D 20=.i 0∧F[0]?=some (.cells [.i 0,.lst (O8 g) g.length 3,.nilSl] 0)∧∃l st,F[1]?=some (.cells ((.i 0)::(.lst (O8 g) g.length 3)::.nilSl::l) st)∧l[64]?=some .nilSl) (N:=0) ⟨rfl,by simp,by simp,by simp,by simp,by simp,_,_,rfl,rfl⟩ ?_;rintro L D K F ⟨rfl,G,H,z,A,B,l,st,C,j⟩ M I;simp[G,H,z,A,B,C,Mr j]
 ·simp[h]
def z7x(j:List Bf)(H:List Pc)(I K x:Pc)(L:∀b∈j,b.size≤65536):Mu 175 [.agg (Pk j H I K),.agg x.f] (.bool (U0 j x)) []:=by
 refine Ng.val rfl (Mz r_expand_lies Aa N ?_);by_cases z:x.buf<0
 ·simp[xx,Pk,Pc.f,U0,z];omega
 by_cases A:(j.length:Int)≤x.buf
 ·simp[xx,Pk,Pc.f,U0,z,A];omega
 by_cases B:x.size<1
 ·simp[xx,Pk,Pc.f,U0,z,A,B];omega
 by_cases C:32768<x.size
 ·simp[xx,Pk,Pc.f,U0,z,A,B,C];omega
 by_cases D:x.at_<0
 ·simp[xx,Pk,Pc.f,U0,z,A,B,C,D];omega
 obtain⟨n,E⟩:=Hr (J:0≤x.buf);have g:n<j.length:=J
 have F:=ub (Rg g);have Q:=vx g;have R:(0:Int)≤x.buf:=J
 have T:x.buf<(j.length:Int):=J
 have M:(1:Int)≤x.size:=J
 have O:x.size≤32768:=J
 have P:(0:Int)≤x.at_:=J
 by_cases G:x.at_≤(M7 j n).size
 ·simp[xx,Pk,Pc.f,U0,z,A,B,C,D,E,g,Mr F,G];have:=L _ (Ia (Rg g));refine⟨λ_=>J,λq=>absurd q J,J,?_⟩;simp[M,O,P]
 ·simp[xx,Pk,Pc.f,U0,z,A,B,C,D,E,g,Mr F,G]
def zbh(h:bo X=0):∀b∈X,b.size≤65536:=λb z=>by
 unfold bo at h;by_cases j:32<X.length
 ·rw[Hv j]at h;omega
 by_cases g:(X.any λb=>decide (65536<b.size))=true
 ·rw[Hs j,Hv g]at h;omega
 rw[Bool.not_eq_true,Kz]at g;have:=g b z;simp at this;omega
def aj(g:List Vr)(j:List Bf)(z:List Pc)(A B:Pc):Int:=if U2 g j z A B=true then 0 else 2
def z5n{x:Pc}(h:U0 X x=true):∃n:Nat,x.buf=n∧n<X.length∧1≤x.size∧x.size≤32768∧0≤x.at_∧x.at_≤(M7 X n).size∧x.size≤(M7 X n).size-x.at_:=by
 simp only[U0,Hq,Hz]at h;obtain⟨A,E,B,C,D,g,j⟩:=h;obtain⟨n,z⟩:=Hr A;rw[z]at g j;exact⟨n,z,J,B,C,D,g,j⟩
def zi5(j:List Vr)(g:List Bf)(C:List Pc)(A B:Pc)(hv:j.length≤1000000)(hb:g.length≤9223372036854775807) :
  Mu 125 [.lst (Nd j) j.length 3,.agg (Pk g C A B)] (.i (aj j g C A B)) []:=by
 refine Ng.val rfl (Mz r_expand_Check Aa (by simp) ?_);have I:U2 j g C A B=false→aj j g C A B=2:=λh=>by simp[aj,h]
 simp[zch];refine zlf (args':=[.lst (Nd j) j.length 3,.lst (Tf []) ([]:List Ko).length 7]) (λc r h=>?_) ?_
 ·cases h with
  |cons e1 es=>cases es with
   |cons e2 T=>exact .cons e1 (.cons (by cases e2;exact .lstNil) T)
 refine Q5 (z9v j [] hv (by simp)) (by simp[dats,LV.dat,Qo,Tf]) ?_;rw[I9];simp;refine M2 (z9y j (Uh 0 j) [] J) (bors_self _ (by simp[Q6,dats,LV.dat,Qo,zbc])) ?_;simp only[Tq,zwu];cases gH:P3 j with
 |false=>simp;exact (I (by simp[U2,gH])).symm
 |true =>
 by_cases g1:(g.length:Int)<1
 ·simp[Pk,g1];exact (I (by simp[U2,(J:¬1≤g.length)])).symm
 by_cases g2:C.length=j.length
 case neg =>
  have gM:¬(C.length:Int)=(j.length:Int):=J
  simp[Pk,g1,g2,gM];exact (I (by simp[U2,g2])).symm
 simp[Pk,g1,g2];refine M2 (zef g hb) (bors_self _ (by simp[dats,LV.dat,S0])) ?_;by_cases g3:bo g=0
 case neg=>simp[g3];exact (I (by simp[U2,g3])).symm
 simp[g3];have Z:∀b∈g,b.size≤65536:=zbh g3;refine Oc (λρ gY gG N=>∃i:Nat,gY=[]∧N+i=j.length∧lk ρ 3=.ptr 0 0∧lk ρ 40=.lst (Nd j) j.length 3∧lk ρ 41=.i j.length∧lk ρ 42=.i i∧0<gG.length∧gG[0]?=some (.cells (Pk g C A B) 0)∧∀gL,gL<i→aw g (gv j gL) (Rr C gL)=true) (N:=j.length)
  ⟨0,by simp[Pk,g2]⟩ ?_
 rintro N ρ gY gG ⟨i,rfl,hN,G,L,M,O,hl,hG,gg⟩ Nx U;by_cases g8:i<j.length
 ·have q3:=zbb (Sr g8);have hq:=ae g8;have gp:i<C.length:=J
  have p3:=zds (zpp gp);have gO:=Vw gp;have gP:(gv j i).f=[.i (gv j i).limbs,.bool (gv j i).sec,.i (gv j i).mode]:=rfl;have gQ:(Rr C i).f=[.i (Rr C i).buf,.i (Rr C i).at_,.i (Rr C i).size]:=rfl;have no:aw g (gv j i) (Rr C i)=false→aj j g C A B=2:=λh=>I (by
   have:((List.range j.length).all λi=>aw g (gv j i) (Rr C i))=false:=by
    rw[Lp];exact⟨i,J0.2 g8,by simp[h]⟩
   simp[U2,this])
  have X:aw g (gv j i) (Rr C i)=true→∀D G',lk D 3=.ptr 0 0→lk D 40=.lst (Nd j) j.length 3→lk D 41=.i j.length→lk D 42=.i ((i:Int)+1)→0<G'.length→G'[0]?=some (.cells (Pk g C A B) 0)→Nx D [] G':=λh D G' T gz gA gC el eG =>
   U _ _ _ ⟨N-1,J,i+1,rfl,J,T,gz,gA,by rw[gC];simp,el,eG,λgL hj=>by
    by_cases e:gL=i
    ·rw[e];exact h
    ·exact gg gL J⟩
  generalize gv j i=v at *;generalize Rr C i=x at *;have K:∀y:List LObj,(gG++y)[0]?=some _:=λy=>(Nk hl).trans hG
  simp[G,L,M,O,g8,gp,q3,p3,hq,gO,gP,gQ,↓K,Pk];have Y:=z7x g C A B x Z;rw[Pk,Pc.f]at Y;refine M2 Y (bors_self _ De) ?_;cases F:U0 g x with
  |false=>simp;exact (no (by simp[aw,F])).symm
  |true =>
  obtain⟨n,Q,z,s1,s2,s3,s4,s5⟩:=z5n F;by_cases g4:x.size=v.limbs
  case neg=>simp[g4];exact (no (by simp[aw,g4])).symm
  have b3:=zua (Rg z);have gD:=vx z;have gR:(M7 g n).f=[.i (M7 g n).size,.i (M7 g n).kind,.bool (M7 g n).sec]:=rfl;have gT:aw g v x=(!(decide ((M7 g n).kind=1) && !Q2 v)&&(!(decide ((M7 g n).kind=2)&&Q2 v)&&(v.sec==(M7 g n).sec))):=by simp[aw,F,g4,Q]
  rw[gT]at no X;generalize M7 g n=b at *;simp[g4,G,↓K,Pk,Q,z,b3,gD,gR];have gI:∀{G':Mp} {K':LV→Mp→Prop},K' (.bool (Q2 v)) G'→Ol (.fn 172) [.agg [.i v.limbs,.bool v.sec,.i v.mode]] G' K':=λk=>M2 (zaz v) (bors_self _ rfl) k
  have P:∀(h:(!(decide (b.kind=1) && !Q2 v)&&(!(decide (b.kind=2)&&Q2 v)&&(v.sec==b.sec)))=true) (D:Mq) (x:List LObj),lk D 3=.ptr 0 0→lk D 40=.lst (Nd j) j.length 3→lk D 41=.i j.length→lk D 42=.i ((i:Int)+1)→Nx D [] (gG++x):=λh D x T gz gA gC=>X h _ _ T gz gA gC Ab (K x)
  by_cases H:b.kind=1
  ·simp[H];refine gI ?_;cases hg:Q2 v with
   |false=>simp[H,hg]at no ⊢;exact no.symm
   |true =>
    simp[H,hg]at no P ⊢;cases E:(v.sec==b.sec) with
    |false=>simp[ns,E]at no ⊢;exact (no Bt).symm
    |true =>
     simp[ns,E,O];refine⟨J,P Bt _ _ A8 Bh A0 (by simp)⟩
  ·by_cases k2:b.kind=2
   ·simp[k2];refine gI ?_;cases hg:Q2 v with
    |true=>simp[k2,hg]at no ⊢;exact no.symm
    |false =>
     simp[k2,hg]at no P ⊢;cases E:(v.sec==b.sec) with
     |false=>simp[ns,E]at no ⊢;exact (no Bt).symm
     |true =>
      simp[ns,E,O];refine⟨J,P Bt _ _ A8 Bh A0 (by simp)⟩
   ·simp[H,k2]at no P ⊢;cases E:(v.sec==b.sec) with
    |false=>simp[ns,E]at no ⊢;exact (no Bt).symm
    |true =>
     simp[ns,E,O];refine⟨J,P Bt _ _ A8 Bh A0 (by simp)⟩
 ·have gi:i=j.length:=J
  subst gi;simp[G,L,M,O,hG,Pk];refine Oc (λρ gY gG N=>∃i:Nat,gY=[]∧N+i=2∧lk ρ 3=.ptr 0 0∧lk ρ 95=.agg [.i A.buf,.i A.at_,.i A.size,.i B.buf,.i B.at_,.i B.size]∧lk ρ 96=.i i∧0<gG.length∧gG[0]?=some (.cells (Pk g C A B) 0)∧(0<i→Vm g false A=true)∧(1<i→Vm g true B=true)) (N:=2)
   ⟨0,rfl,rfl,A8,by simp,by simp,hl,hG,λq=>absurd q J,λq=>absurd q J⟩ ?_
  clear G L M O hG hl;rintro N ρ gY gG ⟨i,rfl,g9,G,V,R,hl,hG,gK,gU⟩ Nx U;have K:∀y:List LObj,(gG++y)[0]?=some _:=λy=>(Nk hl).trans hG
  have hi:i=0∨i=1∨i=2:=J
  rcases hi with rfl|rfl|rfl
  ·have no:Vm g false A=false→aj j g C A B=2:=λh=>I (by simp[U2,h])
   have X:Vm g false A=true→∀(D:Mq) (y:List LObj),lk D 3=.ptr 0 0→lk D 95=.agg [.i A.buf,.i A.at_,.i A.size,.i B.buf,.i B.at_,.i B.size]→lk D 96=.i (0+1)→Nx D [] (gG++y):=λh D y T gE gF =>
    U _ _ _ ⟨N-1,J,0+1,rfl,J,T,gE,by rw[gF];rfl,Ab,K y,λ_=>h,λq=>absurd q J⟩
   simp[G,V,R,↓K,Pk];have Y:=z7x g C A B A Z;rw[Pk,Pc.f]at Y;refine M2 Y (bors_self _ De) ?_;cases F:U0 g A with
   |false=>simp;exact (no (by simp[Vm,F])).symm
   |true =>
   obtain⟨n,Q,z,s1,s2,s3,s4,s5⟩:=z5n F;have b1:=zlk (Rg z);have b2:=zta (Rg z);have gD:=vx z;have hW:Vm g false A=(!decide ((M7 g n).kind=1)&&((M7 g n).sec==false)):=by simp[Vm,F,Q]
   rw[hW]at no X;generalize M7 g n=b at *;by_cases H:b.kind=1
   ·simp[G,↓K,Pk,Q,z,Mr b1,Mr b2,H];exact (no A1).symm
   cases E:b.sec with
   |true=>simp[G,↓K,Pk,Q,z,Mr b1,Mr b2,H,E,ns];exact (no Ai).symm
   |false =>
    simp[G,↓K,Pk,Q,z,Mr b1,Mr b2,H,E,R,ns];exact X (by simp[H,E]) _ _ A8 (by simp[V]) (by simp)
  ·have no:Vm g true B=false→aj j g C A B=2:=λh=>I (by simp[U2,h])
   have X:Vm g true B=true→∀(D:Mq) (y:List LObj),lk D 3=.ptr 0 0→lk D 95=.agg [.i A.buf,.i A.at_,.i A.size,.i B.buf,.i B.at_,.i B.size]→lk D 96=.i (1+1)→Nx D [] (gG++y):=λh D y T gE gF =>
    U _ _ _ ⟨N-1,J,1+1,rfl,J,T,gE,by rw[gF];rfl,Ab,K y,λ_=>gK J,λ_=>h⟩
   simp[G,V,R,↓K,Pk];have Y:=z7x g C A B B Z;rw[Pk,Pc.f]at Y;refine M2 Y (bors_self _ De) ?_;cases F:U0 g B with
   |false=>simp;exact (no (by simp[Vm,F])).symm
   |true =>
   obtain⟨n,Q,z,s1,s2,s3,s4,s5⟩:=z5n F;have b1:=zlk (Rg z);have b2:=zta (Rg z);have gD:=vx z;have hW:Vm g true B=(!decide ((M7 g n).kind=1)&&((M7 g n).sec==true)):=by simp[Vm,F,Q]
   rw[hW]at no X;generalize M7 g n=b at *;by_cases H:b.kind=1
   ·simp[G,↓K,Pk,Q,z,Mr b1,Mr b2,H];exact (no A1).symm
   cases E:b.sec with
   |false=>simp[G,↓K,Pk,Q,z,Mr b1,Mr b2,H,E,ns];exact (no Ai).symm
   |true =>
    simp[G,↓K,Pk,Q,z,Mr b1,Mr b2,H,E,R,ns];exact X (by simp[H,E]) _ _ A8 (by simp[V]) (by simp)
  ·simp[R];unfold aj;rw[Hv];have gZ:((List.range j.length).all λi=>aw g (gv j i) (Rr C i))=true:=Jh.2 λgL hj=>gg gL (J0.1 hj)
   have gV:1≤g.length:=J
   simp[U2,gH,gV,g2,g3,gK J,gU J];intro gL hj;exact gg gL hj
def Rq(g:List Vr)(d:Int):Bool:=decide (0≤d)&&(decide (d<g.length) && !(gv g d.toNat).sec)
def zge(j:List Vr)(o:Ko):Mu 126 [.lst (Nd j) j.length 3,.agg o.f] (.bool (Rq j o.d)) []:=by
 refine Ng.val rfl (Mz r_expand_Public Aa N ?_);by_cases z:0≤o.d
 case neg=>simp[z4x,Ko.f,Rq,z]
 by_cases A:o.d<j.length
 case neg=>simp[z4x,Ko.f,Rq,z,A]
 obtain⟨n,B⟩:=Hr z;have g:n<j.length:=J
 have C:=zu (Sr g);have D:=ae g;simp[z4x,Ko.f,Rq,B,g,Mr C]
def Yv(g:List Vr)(o:Ko)(j z:Pc):Pc:=if Rq g o.d=true then j else z
def zsw(g:List Vr)(o:Ko):Int:=if Rq g o.d=true then 16 else 40
def zc7(g:List Vr)(o:Ko)(C:List Bf)(D:List Pc)(z A:Pc):Mu 59 [.lst (Nd g) g.length 3,.agg o.f,.agg (Pk C D z A)] (.tup [.i (zsw g o),.agg (Yv g o z A).f]) []:=by
 refine Ng.val rfl (Mz r_expand_Base Aa N ?_);have j:o.f=[.i o.kind,.i o.d,.i o.e,.i o.a,.i o.b,.i o.c,.u o.imm]:=rfl;simp[zdv,j];rw[←j];refine M2 (zge g o) (bors_self _ (by simp[dats,LV.dat,Qo,j])) ?_;cases B:Rq g o.d with
 |true=>simp[Pk,Pc.f,zsw,Yv,B]
 |false=>simp[Pk,Pc.f,zsw,Yv,B]
def bt(j:List Vr)(o:Ko)(B:List Bf)(C:List Pc)(z A:Pc)(deep g:Int):Bool :=
 U2 j B C z A&&(decide (1≤g)&&(decide (0≤deep)&&(decide (deep≤4)&&decide (g≤(Yv j o z A).size))))
def zhq(D:List Vr)(o:Ko)(j:List Bf)(C:List Pc)(z A:Pc)(deep g:Int)(hv:D.length≤1000000)(K:j.length≤9223372036854775807) :
  Mu 58 [.lst (Nd D) D.length 3,.agg o.f,.agg (Pk j C z A),.i deep,.i g] (.bool (bt D o j C z A deep g)) []:=by
 refine Ng.val rfl (Mz r_expand_Ready Aa N ?_);have H:o.f=[.i o.kind,.i o.d,.i o.e,.i o.a,.i o.b,.i o.c,.u o.imm]:=rfl;have B:Pk j C z A=[.lst (O8 j) j.length 3,.lst (Vk C) C.length 3,.i z.buf,.i z.at_,.i z.size,.i A.buf,.i A.at_,.i A.size]:=rfl;simp[zc4,B,H];rw[←B];refine M2 (zi5 D j C z A hv K) (bors_self _ (by simp[dats,LV.dat,Qo,zbk])) ?_;cases E:U2 D j C z A with
 |false=>simp[aj,E,bt]
 |true =>
 by_cases F:1≤g
 case neg=>simp[aj,E,bt,F]
 by_cases G:0≤deep
 case neg=>simp[aj,E,bt,F,G]
 by_cases I:deep≤4
 case neg=>simp[aj,E,bt,F,G,I]
 simp[aj,E,F,G,I,B];refine⟨λh=>J,λh=>J,λh=>J,?_⟩;rw[←H,←B];refine M2 (zc7 D o j C z A) (bors_self _ (by simp[dats,LV.dat,Qo,zbk,H])) ?_;simp[Pc.f,bt,E,F,G,I]
section
def z8v:LC:=(.ops [.m 18 0,.m 19 0,.N 20 19,.f 21 0 20,.l 22 21,.m 23 1,.m 24 2,.m 25 3,.m 26 4,.m 27 5,.m 28 6,.m 29 7,.m 30 8,.z 31 (.build [(.i 0),(.i 0),(.i 0),(.i 0),(.i 0),(.i 0),(.i 0),(.u 0)] [(0,1,.t 23),(1,1,.t 24),(2,1,.t 25),(3,1,.t 26),(4,1,.t 27),(5,1,.t 28),(6,1,.t 29),(7,1,.t 30)]),.z 32 (.buildSl 8 1 [(.i 0),(.i 0),(.i 0),(.i 0),(.i 0),(.i 0),(.i 0),(.u 0)] [(0,8,.t 31)]),.a 33 8 22 32,.N 34 18,.f 35 0 34,.S 1 35 33])
def r_expand_Emit_put:My Tryz.prog 131=some ⟨36,z8v.r,[]⟩:=Aa
def z74:LC:=(.ops [.m 6 0,.m 7 1,.m 8 2,.z 9 (.w 131 [.t 6,.k 1,.t 7,.k (-1),.k (-1),.k (-1),.k (-1),.k 0,.t 8])])
def r_expand_Emit_Const:My Tryz.prog 69=some ⟨10,z74.r,[]⟩:=Aa
def z8b:LC:=(.ops [.m 10 0,.m 11 1,.m 12 2,.m 13 3,.m 14 4,.z 15 (.w 131 [.t 10,.t 11,.t 12,.k (-1),.t 13,.t 14,.k (-1),.k 0,.c (.u 0)])])
def r_expand_Emit_Two:My Tryz.prog 108=some ⟨16,z8b.r,[]⟩:=Aa
def z8k:LC:=(.ops [.m 10 0,.m 11 1,.m 12 2,.m 13 3,.m 14 4,.z 15 (.w 131 [.t 10,.k 10,.t 11,.t 12,.t 13,.t 14,.k (-1),.k 0,.c (.u 0)])])
def r_expand_Emit_Mul:My Tryz.prog 132=some ⟨16,z8k.r,[]⟩:=Aa
def z72:LC:=(.ops [.m 14 0,.m 15 1,.m 16 2,.m 17 3,.m 18 4,.m 19 5,.m 20 6,.z 21 (.w 131 [.t 14,.t 15,.t 16,.t 17,.t 18,.t 19,.t 20,.k 0,.c (.u 0)])])
def r_expand_Emit_Carry:My Tryz.prog 104=some ⟨22,z72.r,[]⟩:=Aa
def z93:LC:=(.ops [.m 10 0,.m 11 1,.m 12 3,.m 13 4,.m 14 2,.z 15 (.w 131 [.t 10,.k 13,.t 11,.k (-1),.t 12,.t 13,.t 14,.k 0,.c (.u 0)])])
def r_expand_Emit_Sel:My Tryz.prog 113=some ⟨16,z93.r,[]⟩:=Aa
def z7q:LC:=(.q [.x 7 2] (.ops [.m 10 0,.m 11 1,.m 12 3,.f 13 0 7,.l 14 13,.f 15 1 7,.l 16 15,.m 17 4,.c 18 .add 3 16 17,.z 19 (.cvInt .u64 (.t 18)),.z 20 (.w 131 [.t 10,.k 14,.t 11,.k (-1),.t 12,.k (-1),.k (-1),.t 14,.t 19])]))
def r_expand_Emit_Load:My Tryz.prog 70=some ⟨21,z7q.r,[]⟩:=Aa
def z79:LC:=(.q [.x 6 1] (.ops [.m 10 0,.m 11 2,.m 12 4,.f 13 0 6,.l 14 13,.f 15 1 6,.l 16 15,.m 17 3,.c 18 .add 3 16 17,.z 19 (.cvInt .u64 (.t 18)),.z 20 (.w 131 [.t 10,.k 15,.k (-1),.k (-1),.t 11,.t 12,.k (-1),.t 14,.t 19])]))
def r_expand_Emit_Store:My Tryz.prog 109=some ⟨21,z79.r,[]⟩:=Aa
def z50:LC:=(.seq (.q [.m 7 1,.b 8 .lss 3 7 1] (.cond (.t 8) .ret .skip)) (.q [.m 9 0,.N 10 9,.f 11 1 10,.l 12 11,.m 6 12] (.q [.m 13 0,.m 14 6,.m 15 1,.z 16 (.cvInt .u64 (.t 15)),.z 17 (.w 131 [.t 13,.k 16,.t 14,.k (-1),.k (-1),.k (-1),.k (-1),.k 0,.t 16])] (.q [.m 18 0,.N 19 18,.f 20 1 19,.l 21 20,.b 22 .add 3 21 1,.N 23 18,.f 24 1 23,.S 1 24 22] (.q [.m 25 2,.m 26 6,.z 27 (.callV (.t 25) [.t 26])] (.q [.m 28 0,.N 29 28,.f 30 1 29,.l 31 30,.b 32 .sub 3 31 1,.N 33 28,.f 34 1 33,.S 1 34 32] (.ops [.m 35 0,.z 36 (.w 131 [.t 35,.k 17,.k (-1),.k (-1),.k (-1),.k (-1),.k (-1),.k 0,.c (.u 0)])])))))))
def r_expand_Emit_Loop:My Tryz.prog 73=some ⟨37,z50.r,[]⟩:=Aa
def z7w:LC:=(.q [.x 3 0,.x 4 1,.x 5 2] (.ops [.l 6 3,.f 7 2 4,.l 8 7,.z 9 (.mkFunc 133 [] [.t 3,.t 4,.t 5]),.V 10 73 6 8 9]))
def r_expand_Emit_Fill:My Tryz.prog 72=some ⟨11,z7w.r,[]⟩:=Aa
def z6n:LC:=(.ops [.l 5 1,.L 6 3 2,.m 7 0,.l 8 3,.z 9 (.w 109 [.t 5,.t 6,.t 7,.k 0,.t 8])])
def r_expand_Emit_Fill_1:My Tryz.prog 133=some ⟨10,z6n.r,[]⟩:=Aa
def ze0:LC:=(.q [.x 3 0,.z 6 (.alloc [(.i 0),(.i 0),(.i 0)])] (.q [.f 7 0 3,.l 8 7,.f 9 1 3,.l 10 9,.m 11 1,.c 12 .add 3 10 11,.m 13 2,.z 14 (.build [(.i 0),(.i 0),(.i 0)] [(0,1,.t 8),(1,1,.t 12),(2,1,.t 13)]),.S 3 6 14] .ret))
def r_expand_Part:My Tryz.prog 68=some ⟨15,ze0.r,[.cellN 6 3]⟩:=Aa
section emit
variable {G : Mp} {K : LV → Mp → Prop} {e : Nat} {ops : List Lo} {deep : Int}
def jw{st:Nat}{v:LV}{L:List Lo}(M:G[e]?=some (.cells [v,.i deep] st))(O:Pl 0 G v 8 ops.length (P1 ops))(V:ops.length≤1000000)
  (k:∀(z:LV) (j:Mp),z.cells=some [z]→j[e]?=some (.cells [v,.i deep] st)→Of (j.set e (.cells [z,.i deep] (st+1))) e (ops++L) deep→Kp e G (j.set e (.cells [z,.i deep] (st+1)))→(∀(q:Nat) (g:LObj),(∀Q m k st,g≠LObj.dyn Q m 8 k st)→G[q]?=some g→j[q]?=some g)→Y z j):Ow G 8 v L.length (P1 L) Y:=by
 have X:e<G.length:=(Hm.1 M).1;refine Pl.push2 O J J J (X7 L) (Sz L) λz j B D E R T=>?_
 have A:∀(q:Nat) (g:LObj),(∀Q m k st,g≠LObj.dyn Q m 8 k st)→G[q]?=some g→j[q]?=some g:=λq g ho C=>by
  have F:=(Hm.1 C).1;rw[D q F (λZ r=>?_)]
  ·exact C
  ·obtain⟨Q,m,k,st,P⟩:=O.row r;rw[C]at P;exact ho _ _ _ _ (Option.some.inj P)
 have H:=A e _ (λ_ _ _ _ q=>Fe) M;have I:e<j.length:=(Hm.1 H).1;refine k z j B.cells H ⟨st+1,z,Hu I,?_⟩ ⟨Bt,λq g C ho U=>?_⟩ A
 ·rw[zm1,H4];exact B.set_cells H
 ·rw[Ho (Ne.symm C)];exact A q g ho U
def rf{d a b c:Int}(h:Of G e ops deep)(E:ops.length≤1000000)(k:∀g,Of g e (ops++[⟨z,d,C,a,b,c,v8,V⟩]) deep→Kp e G g→K (.tup []) g) :
  Ol (.fn 131) [.ptr e 0,.i z,.i d,.i C,.i a,.i b,.i c,.i v8,.u V] G K:=by
 obtain⟨st,v,j,F⟩:=h;have H:e<G.length:=(Hm.1 j).1;refine Mz r_expand_Emit_put Aa N ?_;have A:∀x,Kp e G (G++x):=λx=>Kp.app' e G x
 have B:∀x:List LObj,(G++x)[e]?=some (.cells [v,.i deep] st):=λx=>(M6 H).trans j
 simp[z8v,j];refine jw (L:=[⟨z,d,C,a,b,c,v8,V⟩]) (B _) F.push_end E λP Q D I M O _=>?_
 simp[-LV.cells,D,I];exact k _ M ((A _).trans O)
def z78{d:Int}{n:UInt64}(h:Of G e ops deep)(j:ops.length≤1000000)(k:∀g,Of g e (ops++[cK d n]) deep→Kp e G g→K (.tup []) g):Ol (.fn 69) [.ptr e 0,.i d,.u n] G K:=by
 refine Mz r_expand_Emit_Const Aa N ?_;simp[z74];refine rf h j λg z A=>?_
 simpa using k g z A
def zf6{d a b:Int}(h:Of G e ops deep)(j:ops.length≤1000000)(k:∀g,Of g e (ops++[M8 z d a b]) deep→Kp e G g→K (.tup []) g):Ol (.fn 108) [.ptr e 0,.i z,.i d,.i a,.i b] G K:=by
 refine Mz r_expand_Emit_Two Aa N ?_;simp[z8b];refine rf h j λg A B=>?_
 simpa using k g A B
def zjr{hi a b:Int}(h:Of G e ops deep)(j:ops.length≤1000000)(k:∀g,Of g e (ops++[Nc hi z a b]) deep→Kp e G g→K (.tup []) g):Ol (.fn 132) [.ptr e 0,.i hi,.i z,.i a,.i b] G K:=by
 refine Mz r_expand_Emit_Mul Aa N ?_;simp[z8k];refine rf h j λg A B=>?_
 simpa using k g A B
def zan{d a b c:Int}(h:Of G e ops deep)(j:ops.length≤1000000)(k:∀g,Of g e (ops++[Nw z d C a b c]) deep→Kp e G g→K (.tup []) g):Ol (.fn 104) [.ptr e 0,.i z,.i d,.i C,.i a,.i b,.i c] G K:=by
 refine Mz r_expand_Emit_Carry Aa N ?_;simp[z72];refine rf h j λg A B=>?_
 simpa using k g A B
def po{d c a b:Int}(h:Of G e ops deep)(j:ops.length≤1000000)(k:∀g,Of g e (ops++[Pg d c a b]) deep→Kp e G g→K (.tup []) g):Ol (.fn 113) [.ptr e 0,.i d,.i c,.i a,.i b] G K:=by
 refine Mz r_expand_Emit_Sel Aa N ?_;simp[z93];refine rf h j λg z A=>?_
 simpa using k g z A
def Yy{d i:Int}{p:Pc}(C:-1000000000≤p.at_+z∧p.at_+z≤1000000000)(h:Of G e ops deep)(j:ops.length≤1000000)(k:∀g,Of g e (ops++[Nb d p i z]) deep→Kp e G g→K (.tup []) g):Ol (.fn 70) [.ptr e 0,.i d,.agg p.f,.i i,.i z] G K:=by
 refine Mz r_expand_Emit_Load Aa N ?_;simp[z7q,Pc.f]
 repeat (refine⟨J,?_⟩)
 refine rf (h.app _) j λg A B=>?_
 simpa using k g A ((Kp.app' _ _ _).trans B)
def yi{i b:Int}{p:Pc}(C:-1000000000≤p.at_+z∧p.at_+z≤1000000000)(h:Of G e ops deep)(j:ops.length≤1000000)(k:∀g,Of g e (ops++[N7 p i z b]) deep→Kp e G g→K (.tup []) g):Ol (.fn 109) [.ptr e 0,.agg p.f,.i i,.i z,.i b] G K:=by
 refine Mz r_expand_Emit_Store Aa N ?_;simp[z79,Pc.f]
 repeat (refine⟨J,?_⟩)
 refine rf (h.app _) j λg A B=>?_
 simpa using k g A ((Kp.app' _ _ _).trans B)
def zu3{f:Nat}{cap:List LV}(hd:0≤deep∧deep≤100)(h:Of G e ops deep)(Y:ops.length≤1000000)(Z:z<1→K (.tup []) G)
  (k1:1≤z→∀E,Of E e (ops++[R0 deep z]) (deep+1)→Kp e G E→Ol (.fn f) (D++.i deep::cap) E λ_ I=>∃g,g.length≤1000000∧Of I e g (deep+1)∧∀F,Of F e (g++[Se]) deep→Kp e I F→K (.tup []) F) :
  Ol (.fn 73) [.ptr e 0,.i z,.fn (.func f) D cap] G K:=by
 refine Mz r_expand_Emit_Loop Aa N ?_;by_cases gg:z<1
 ·simpa [z50,gg] using Z gg
 obtain⟨st,v,h1,h2⟩:=id h;simp[z50,gg,h1];refine rf h Y λE e1 L=>?_
 obtain⟨H,V,A,M⟩:=e1;simp[A];have O:e<E.length:=(Hm.1 A).1;refine⟨J,?_⟩;have j:∀(a:Mp) (X:LObj),Kp e a (a.set e X):=λa X=>⟨N,λq o hq _ ho=>by rw[Ho (Ne.symm hq)];exact ho⟩
 have B:=k1 J (E.set e (.cells [V,.i (deep+1)] (H+1))) ⟨H+1,V,Hu O,M.set_cells A⟩ (L.trans (j _ _));refine B.mono λw I hw=>?_
 obtain⟨g,P,e2,k2⟩:=hw;obtain⟨Q,v2,C,R⟩:=e2;simp[C];have T:e<I.length:=(Hm.1 C).1;refine⟨J,?_⟩;refine rf (deep:=deep) ⟨Q+1,v2,Hu T,R.set_cells C⟩ P λF e3 U=>?_
 simpa using k2 F e3 ((j _ _).trans U)
end emit
end
def z73:LC:=(.q [.m 9 2,.b 10 .add 3 9 1,.m 11 2,.b 12 .add 3 11 2,.m 13 2,.b 14 .add 3 13 3,.m 6 10,.m 7 12,.m 8 14] (.q [.m 15 0,.m 16 8,.z 17 (.w 69 [.t 15,.t 16,.c (.u 3)])] (.q [.m 18 0,.m 19 6,.m 20 2,.m 21 1,.m 22 8,.z 23 (.w 132 [.t 18,.t 19,.t 20,.t 21,.t 22])] (.q [.m 24 0,.m 25 8,.z 26 (.w 69 [.t 24,.t 25,.c (.u 2)])] (.q [.m 27 0,.m 28 2,.m 29 2,.m 30 8,.z 31 (.w 108 [.t 27,.k 7,.t 28,.t 29,.t 30])] (.seq (.q [.K 32 0] (.block 0 (.loop (.q [.b 33 .lss 3 32 5] (.seq (.cond (.t 33) .skip (.exit 0)) (.seq (.block 1 (.q [.m 34 0,.m 35 6,.m 36 7,.m 37 1,.m 38 2,.z 39 (.w 132 [.t 34,.t 35,.t 36,.t 37,.t 38])] (.q [.m 40 0,.m 41 7,.m 42 8,.m 43 7,.z 44 (.w 108 [.t 40,.k 4,.t 41,.t 42,.t 43])] (.ops [.m 45 0,.m 46 6,.m 47 2,.m 48 2,.m 49 7,.z 50 (.w 132 [.t 45,.t 46,.t 47,.t 48,.t 49])])))) (.ops [.b 51 .add 3 32 1,.m 32 51]))))))) (.q [.m 52 0,.m 53 8,.z 54 (.w 69 [.t 52,.t 53,.c (.u 0)])] (.ops [.m 55 0,.m 56 2,.m 57 8,.m 58 2,.z 59 (.w 108 [.t 55,.k 4,.t 56,.t 57,.t 58])]))))))))
def r_montgomery_reckon:My Tryz.prog 71=some ⟨60,z73.r,[]⟩:=Aa
def cr{v:LV}{l:List LV}{n e:Nat}(h:bor G v (.lst l n e)):Nh G v (.lst l n e):=by
 cases v<;>first|exact h|(simp[LV.dat]at h)
def zwj{e:Nat}{ops:List Lo}{deep n r:Int}(hr:0≤r∧r≤1000)(h:Of G e ops deep)(hl:ops.length≤900000)(k:∀I,Of I e (ops++Td n r) deep→Kp e G I→Y (.tup []) I):Ol (.fn 71) [.ptr e 0,.i n,.i r] G Y:=by
 refine Mz r_montgomery_reckon Aa (by simp) ?_;simp[z73]
 repeat (refine⟨J,?_⟩)
 refine z78 h J λG1 Z K=>?_
 simp;refine zjr Z Ab λG2 h2 L=>?_
 simp;refine z78 h2 Ab λG3 h3 M=>?_
 simp;refine zf6 h3 Ab λG4 h4 j=>?_
 simp;have j:=K.trans (L.trans (M.trans j));refine Oc (λR gg I N=>∃i:Nat,gg=[]∧N+i=5∧lk R 0=.ptr e 0∧lk R 1=.i n∧lk R 2=.i r∧lk R 6=.i (r+1)∧lk R 7=.i (r+2)∧lk R 8=.i (r+3)∧lk R 32=.i i∧Of I e (ops++(Z9 n r++W1 n r i)) deep∧Kp e G I) (N:=5)
  ⟨0,rfl,J,by simp,by simp,by simp,by simp,by simp,by simp,by simp,by simpa [Z9,W1] using h4,j⟩ ?_
 clear Z h2 h3 h4 K L M j;rintro N R gg G5 ⟨i,rfl,hN,z,A,B,C,D,E,g,h5,O⟩ Nx T;have P:(W1 n r i).length=3*i:=zj4 n r i;have Q:(Z9 n r).length=4:=rfl;by_cases gz:i<5
 ·have g':(i:Int)<5:=J
  simp[z,A,B,C,D,E,g,g'];refine zjr h5 Ch λG6 U F=>?_
  simp[z,A,B,C,D,E,g];refine zf6 U Ch λG7 V H=>?_
  simp[z,A,B,C,D,E,g];refine zjr V Ch λG8 h8 X=>?_
  simp[z,A,B,C,D,E,g];refine⟨J,T _ _ _ ⟨N-1,J,i+1,rfl,J,Ae,Ar,Ao,Al,Ak,Ai,by simp,?_,O.trans (F.trans (H.trans X))⟩⟩;rw[zbi];simpa [wo] using h8
 ·have hi:i=5:=J
  subst hi;simp[z,A,B,C,D,E,g];refine z78 h5 Ch λG6 U F=>?_
  simp[z,A,B,C,D,E,g];refine zf6 U Ch λG7 V H=>?_
  simp;refine k G7 ?_ (O.trans (F.trans H));simpa [Td] using V
section
def z4p:LC:=(.seq (.draw [(.m 6 0,[]),(.N 7 6,[]),(.f 8 0 7,[]),(.l 9 8,[]),(.m 10 0,[]),(.N 11 10,[]),(.f 12 21 11,[]),(.l 13 12,[]),(.m 14 0,[]),(.N 15 14,[]),(.f 16 22 15,[]),(.l 17 16,[]),(.m 18 1,[]),(.m 19 2,[]),(.z 20 (.w 132 [.t 9,.t 13,.t 17,.t 18,.t 19]),[])]) (.seq (.draw [(.m 21 0,[]),(.N 22 21,[]),(.f 23 0 22,[]),(.l 24 23,[]),(.m 25 0,[]),(.N 26 25,[]),(.f 27 22 26,[]),(.l 28 27,[]),(.m 29 0,[]),(.N 30 29,[]),(.f 31 24 30,[]),(.l 32 31,[]),(.m 33 0,[]),(.N 34 33,[]),(.f 35 22 34,[]),(.l 36 35,[]),(.m 37 0,[]),(.N 38 37,[]),(.f 39 23 38,[]),(.l 40 39,[]),(.m 41 0,[]),(.N 42 41,[]),(.f 43 16 42,[]),(.l 44 43,[]),(.z 45 (.w 104 [.t 24,.k 11,.t 28,.t 32,.t 36,.t 40,.t 44]),[])]) (.seq (.draw [(.m 46 0,[]),(.N 47 46,[]),(.f 48 0 47,[]),(.l 49 48,[]),(.m 50 0,[]),(.N 51 50,[]),(.f 52 22 51,[]),(.l 53 52,[]),(.m 54 0,[]),(.N 55 54,[]),(.f 56 25 55,[]),(.l 57 56,[]),(.m 58 0,[]),(.N 59 58,[]),(.f 60 22 59,[]),(.l 61 60,[]),(.m 62 0,[]),(.N 63 62,[]),(.f 64 19 63,[]),(.l 65 64,[]),(.m 66 0,[]),(.N 67 66,[]),(.f 68 16 67,[]),(.l 69 68,[]),(.z 70 (.w 104 [.t 49,.k 11,.t 53,.t 57,.t 61,.t 65,.t 69]),[])]) (.seq (.draw [(.m 71 0,[]),(.N 72 71,[]),(.f 73 0 72,[]),(.l 74 73,[]),(.m 75 0,[]),(.N 76 75,[]),(.f 77 21 76,[]),(.l 78 77,[]),(.m 79 0,[]),(.N 80 79,[]),(.f 81 21 80,[]),(.l 82 81,[]),(.m 83 0,[]),(.N 84 83,[]),(.f 85 24 84,[]),(.l 86 85,[]),(.z 87 (.w 108 [.t 74,.k 3,.t 78,.t 82,.t 86]),[])]) (.draw [(.m 88 0,[]),(.N 89 88,[]),(.f 90 0 89,[]),(.l 91 90,[]),(.m 92 0,[]),(.N 93 92,[]),(.f 94 19 93,[]),(.l 95 94,[]),(.m 96 0,[]),(.N 97 96,[]),(.f 98 21 97,[]),(.l 99 98,[]),(.m 100 0,[]),(.N 101 100,[]),(.f 102 25 101,[]),(.l 103 102,[]),(.z 104 (.w 108 [.t 91,.k 3,.t 95,.t 99,.t 103]),[])])))))
def r_montgomery_product_sum:My Tryz.prog 135=some ⟨105,z4p.r,[]⟩:=Aa
def z4r:LC:=(.seq (.draw [(.m 2 0,[]),(.N 3 2,[]),(.f 4 0 3,[]),(.l 5 4,[]),(.m 6 0,[]),(.N 7 6,[]),(.f 8 23 7,[]),(.l 9 8,[]),(.m 10 0,[]),(.N 11 10,[]),(.f 12 13 11,[]),(.L 13 3 12,[]),(.m 14 0,[]),(.N 15 14,[]),(.f 16 10 15,[]),(.f 17 2 16,[]),(.l 18 17,[]),(.z 19 (.w 70 [.t 5,.t 9,.t 13,.k (-1),.t 18]),[])]) (.draw [(.m 20 0,[]),(.N 21 20,[]),(.f 22 0 21,[]),(.l 23 22,[]),(.m 24 0,[]),(.N 25 24,[]),(.f 26 23 25,[]),(.l 27 26,[]),(.m 28 0,[]),(.N 29 28,[]),(.f 30 24 29,[]),(.l 31 30,[]),(.m 32 0,[]),(.N 33 32,[]),(.f 34 23 33,[]),(.l 35 34,[]),(.m 36 0,[]),(.N 37 36,[]),(.f 38 19 37,[]),(.l 39 38,[]),(.m 40 0,[]),(.N 41 40,[]),(.f 42 16 41,[]),(.l 43 42,[]),(.z 44 (.w 104 [.t 23,.k 11,.t 27,.t 31,.t 35,.t 39,.t 43]),[])]))
def r_montgomery_product_top:My Tryz.prog 136=some ⟨45,z4r.r,[]⟩:=Aa
def z46:LC:=(.q [.x 2 0] (.seq (.draw [(.l 4 2,[]),(.N 5 4,[]),(.f 6 0 5,[]),(.l 7 6,[]),(.l 8 2,[]),(.N 9 8,[]),(.f 10 18 9,[]),(.l 11 10,[]),(.l 12 2,[]),(.N 13 12,[]),(.f 14 7 13,[]),(.L 15 3 14,[]),(.m 16 1,[]),(.z 17 (.w 70 [.t 7,.t 11,.t 15,.t 16,.k 0]),[])]) (.seq (.draw [(.l 18 2,[]),(.N 19 18,[]),(.f 20 0 19,[]),(.l 21 20,[]),(.l 22 2,[]),(.N 23 22,[]),(.f 24 19 23,[]),(.l 25 24,[]),(.z 26 (.w 69 [.t 21,.t 25,.c (.u 0)]),[])]) (.seq (.draw [(.l 27 2,[]),(.N 28 27,[]),(.f 29 0 28,[]),(.l 30 29,[]),(.l 31 2,[]),(.N 32 31,[]),(.f 33 10 32,[]),(.f 34 2 33,[]),(.l 35 34,[]),(.z 36 (.mkFunc 134 [] [.t 2]),[]),(.V 37 73 30 35 36,[])]) (.q [.l 38 2,.w 39 136 38] (.seq (.draw [(.l 40 2,[]),(.N 41 40,[]),(.f 42 0 41,[]),(.l 43 42,[]),(.l 44 2,[]),(.N 45 44,[]),(.f 46 13 45,[]),(.L 47 3 46,[]),(.l 48 2,[]),(.N 49 48,[]),(.f 50 10 49,[]),(.f 51 2 50,[]),(.l 52 51,[]),(.l 53 2,[]),(.N 54 53,[]),(.f 55 23 54,[]),(.l 56 55,[]),(.z 57 (.w 109 [.t 43,.t 47,.k (-1),.t 52,.t 56]),[])]) (.draw [(.l 58 2,[]),(.N 59 58,[]),(.f 60 0 59,[]),(.l 61 60,[]),(.l 62 2,[]),(.N 63 62,[]),(.f 64 13 63,[]),(.L 65 3 64,[]),(.l 66 2,[]),(.N 67 66,[]),(.f 68 10 67,[]),(.f 69 2 68,[]),(.l 70 69,[]),(.b 71 .add 3 70 1,[]),(.l 72 2,[]),(.N 73 72,[]),(.f 74 24 73,[]),(.l 75 74,[]),(.z 76 (.w 109 [.t 61,.t 65,.k (-1),.t 71,.t 75]),[])])))))))
def r_montgomery_product_times:My Tryz.prog 75=some ⟨77,z46.r,[]⟩:=Aa
def z3l:LC:=(.seq (.draw [(.l 3 1,[]),(.N 4 3,[]),(.f 5 0 4,[]),(.l 6 5,[]),(.l 7 1,[]),(.N 8 7,[]),(.f 9 20 8,[]),(.l 10 9,[]),(.l 11 1,[]),(.N 12 11,[]),(.f 13 4 12,[]),(.L 14 3 13,[]),(.m 15 0,[]),(.z 16 (.w 70 [.t 6,.t 10,.t 14,.t 15,.k 0]),[])]) (.seq (.draw [(.l 17 1,[]),(.N 18 17,[]),(.f 19 0 18,[]),(.l 20 19,[]),(.l 21 1,[]),(.N 22 21,[]),(.f 23 23 22,[]),(.l 24 23,[]),(.l 25 1,[]),(.N 26 25,[]),(.f 27 13 26,[]),(.L 28 3 27,[]),(.m 29 0,[]),(.z 30 (.w 70 [.t 20,.t 24,.t 28,.t 29,.k 0]),[])]) (.seq (.draw [(.l 31 1,[]),(.l 32 1,[]),(.N 33 32,[]),(.f 34 20 33,[]),(.l 35 34,[]),(.l 36 1,[]),(.N 37 36,[]),(.f 38 18 37,[]),(.l 39 38,[]),(.V 40 135 31 35 39,[])]) (.draw [(.l 41 1,[]),(.N 42 41,[]),(.f 43 0 42,[]),(.l 44 43,[]),(.l 45 1,[]),(.N 46 45,[]),(.f 47 13 46,[]),(.L 48 3 47,[]),(.m 49 0,[]),(.l 50 1,[]),(.N 51 50,[]),(.f 52 22 51,[]),(.l 53 52,[]),(.z 54 (.w 109 [.t 44,.t 48,.t 49,.k 0,.t 53]),[])]))))
def r_montgomery_product_times_1:My Tryz.prog 134=some ⟨55,z3l.r,[]⟩:=Aa
def z4b:LC:=(.q [.x 1 0] (.q [.l 3 1,.N 4 3,.f 5 10 4,.f 6 2 5,.l 7 6,.m 2 7] (.seq (.draw [(.l 8 1,[]),(.N 9 8,[]),(.f 10 0 9,[]),(.l 11 10,[]),(.l 12 1,[]),(.N 13 12,[]),(.f 14 23 13,[]),(.l 15 14,[]),(.l 16 1,[]),(.N 17 16,[]),(.f 18 13 17,[]),(.L 19 3 18,[]),(.z 20 (.w 70 [.t 11,.t 15,.t 19,.k (-1),.k 0]),[])]) (.seq (.draw [(.l 21 1,[]),(.N 22 21,[]),(.f 23 0 22,[]),(.l 24 23,[]),(.l 25 1,[]),(.N 26 25,[]),(.f 27 21 26,[]),(.l 28 27,[]),(.l 29 1,[]),(.N 30 29,[]),(.f 31 26 30,[]),(.l 32 31,[]),(.l 33 1,[]),(.N 34 33,[]),(.f 35 23 34,[]),(.l 36 35,[]),(.l 37 1,[]),(.N 38 37,[]),(.f 39 17 38,[]),(.l 40 39,[]),(.z 41 (.w 132 [.t 24,.t 28,.t 32,.t 36,.t 40]),[])]) (.seq (.draw [(.l 42 1,[]),(.N 43 42,[]),(.f 44 0 43,[]),(.l 45 44,[]),(.l 46 1,[]),(.N 47 46,[]),(.f 48 20 47,[]),(.l 49 48,[]),(.l 50 1,[]),(.N 51 50,[]),(.f 52 10 51,[]),(.L 53 3 52,[]),(.z 54 (.w 70 [.t 45,.t 49,.t 53,.k (-1),.k 0]),[])]) (.seq (.draw [(.l 55 1,[]),(.N 56 55,[]),(.f 57 0 56,[]),(.l 58 57,[]),(.l 59 1,[]),(.N 60 59,[]),(.f 61 19 60,[]),(.l 62 61,[]),(.z 63 (.w 69 [.t 58,.t 62,.c (.u 0)]),[])]) (.seq (.draw [(.l 64 1,[]),(.l 65 1,[]),(.N 66 65,[]),(.f 67 26 66,[]),(.l 68 67,[]),(.l 69 1,[]),(.N 70 69,[]),(.f 71 20 70,[]),(.l 72 71,[]),(.V 73 135 64 68 72,[])]) (.q [.l 74 1,.N 75 74,.f 76 0 75,.l 77 76,.m 78 2,.b 79 .sub 3 78 1,.z 80 (.mkFunc 137 [] [.t 1]),.V 81 73 77 79 80] (.q [.l 82 1,.w 83 136 82] (.seq (.draw [(.l 84 1,[]),(.N 85 84,[]),(.f 86 0 85,[]),(.l 87 86,[]),(.l 88 1,[]),(.N 89 88,[]),(.f 90 13 89,[]),(.L 91 3 90,[]),(.m 92 2,[]),(.b 93 .sub 3 92 1,[]),(.l 94 1,[]),(.N 95 94,[]),(.f 96 23 95,[]),(.l 97 96,[]),(.z 98 (.w 109 [.t 87,.t 91,.k (-1),.t 93,.t 97]),[])]) (.seq (.draw [(.l 99 1,[]),(.N 100 99,[]),(.f 101 0 100,[]),(.l 102 101,[]),(.l 103 1,[]),(.N 104 103,[]),(.f 105 23 104,[]),(.l 106 105,[]),(.l 107 1,[]),(.N 108 107,[]),(.f 109 13 108,[]),(.L 110 3 109,[]),(.m 111 2,[]),(.b 112 .add 3 111 1,[]),(.z 113 (.w 70 [.t 102,.t 106,.t 110,.k (-1),.t 112]),[])]) (.seq (.draw [(.l 114 1,[]),(.N 115 114,[]),(.f 116 0 115,[]),(.l 117 116,[]),(.l 118 1,[]),(.N 119 118,[]),(.f 120 23 119,[]),(.l 121 120,[]),(.l 122 1,[]),(.N 123 122,[]),(.f 124 23 123,[]),(.l 125 124,[]),(.l 126 1,[]),(.N 127 126,[]),(.f 128 24 127,[]),(.l 129 128,[]),(.z 130 (.w 108 [.t 117,.k 3,.t 121,.t 125,.t 129]),[])]) (.draw [(.l 131 1,[]),(.N 132 131,[]),(.f 133 0 132,[]),(.l 134 133,[]),(.l 135 1,[]),(.N 136 135,[]),(.f 137 13 136,[]),(.L 138 3 137,[]),(.m 139 2,[]),(.l 140 1,[]),(.N 141 140,[]),(.f 142 23 141,[]),(.l 143 142,[]),(.z 144 (.w 109 [.t 134,.t 138,.k (-1),.t 139,.t 143]),[])])))))))))))))
def r_montgomery_product_down:My Tryz.prog 76=some ⟨145,z4b.r,[]⟩:=Aa
def z3t:LC:=(.seq (.draw [(.l 3 1,[]),(.N 4 3,[]),(.f 5 0 4,[]),(.l 6 5,[]),(.l 7 1,[]),(.N 8 7,[]),(.f 9 20 8,[]),(.l 10 9,[]),(.l 11 1,[]),(.N 12 11,[]),(.f 13 10 12,[]),(.L 14 3 13,[]),(.m 15 0,[]),(.z 16 (.w 70 [.t 6,.t 10,.t 14,.t 15,.k 1]),[])]) (.seq (.draw [(.l 17 1,[]),(.N 18 17,[]),(.f 19 0 18,[]),(.l 20 19,[]),(.l 21 1,[]),(.N 22 21,[]),(.f 23 23 22,[]),(.l 24 23,[]),(.l 25 1,[]),(.N 26 25,[]),(.f 27 13 26,[]),(.L 28 3 27,[]),(.m 29 0,[]),(.z 30 (.w 70 [.t 20,.t 24,.t 28,.t 29,.k 1]),[])]) (.seq (.draw [(.l 31 1,[]),(.l 32 1,[]),(.N 33 32,[]),(.f 34 26 33,[]),(.l 35 34,[]),(.l 36 1,[]),(.N 37 36,[]),(.f 38 20 37,[]),(.l 39 38,[]),(.V 40 135 31 35 39,[])]) (.draw [(.l 41 1,[]),(.N 42 41,[]),(.f 43 0 42,[]),(.l 44 43,[]),(.l 45 1,[]),(.N 46 45,[]),(.f 47 13 46,[]),(.L 48 3 47,[]),(.m 49 0,[]),(.l 50 1,[]),(.N 51 50,[]),(.f 52 22 51,[]),(.l 53 52,[]),(.z 54 (.w 109 [.t 44,.t 48,.t 49,.k 0,.t 53]),[])]))))
def r_montgomery_product_down_1:My Tryz.prog 137=some ⟨55,z3t.r,[]⟩:=Aa
def z4h:LC:=(.q [.x 2 0,.x 3 1] (.seq (.draw [(.l 4 2,[]),(.N 5 4,[]),(.f 6 0 5,[]),(.l 7 6,[]),(.l 8 2,[]),(.N 9 8,[]),(.f 10 24 9,[]),(.l 11 10,[]),(.z 12 (.w 69 [.t 7,.t 11,.c (.u 0)]),[])]) (.draw [(.l 13 2,[]),(.N 14 13,[]),(.f 15 0 14,[]),(.l 16 15,[]),(.l 17 2,[]),(.N 18 17,[]),(.f 19 10 18,[]),(.f 20 2 19,[]),(.l 21 20,[]),(.z 22 (.mkFunc 180 [] [.t 2,.t 3]),[]),(.V 23 73 16 21 22,[])])))
def r_montgomery_product_less:My Tryz.prog 138=some ⟨24,z4h.r,[]⟩:=Aa
def z40:LC:=(.seq (.draw [(.l 4 1,[]),(.N 5 4,[]),(.f 6 0 5,[]),(.l 7 6,[]),(.l 8 1,[]),(.N 9 8,[]),(.f 10 23 9,[]),(.l 11 10,[]),(.l 12 1,[]),(.N 13 12,[]),(.f 14 13 13,[]),(.L 15 3 14,[]),(.m 16 0,[]),(.z 17 (.w 70 [.t 7,.t 11,.t 15,.t 16,.k 0]),[])]) (.seq (.draw [(.l 18 1,[]),(.N 19 18,[]),(.f 20 0 19,[]),(.l 21 20,[]),(.l 22 1,[]),(.N 23 22,[]),(.f 24 20 23,[]),(.l 25 24,[]),(.l 26 1,[]),(.N 27 26,[]),(.f 28 10 27,[]),(.L 29 3 28,[]),(.m 30 0,[]),(.z 31 (.w 70 [.t 21,.t 25,.t 29,.t 30,.k 0]),[])]) (.seq (.draw [(.l 32 1,[]),(.N 33 32,[]),(.f 34 0 33,[]),(.l 35 34,[]),(.l 36 1,[]),(.N 37 36,[]),(.f 38 22 37,[]),(.l 39 38,[]),(.l 40 1,[]),(.N 41 40,[]),(.f 42 24 41,[]),(.l 43 42,[]),(.l 44 1,[]),(.N 45 44,[]),(.f 46 23 45,[]),(.l 47 46,[]),(.l 48 1,[]),(.N 49 48,[]),(.f 50 20 49,[]),(.l 51 50,[]),(.l 52 1,[]),(.N 53 52,[]),(.f 54 24 53,[]),(.l 55 54,[]),(.z 56 (.w 104 [.t 35,.k 12,.t 39,.t 43,.t 47,.t 51,.t 55]),[])]) (.ops [.l 57 2,.m 58 0,.z 59 (.callV (.t 57) [.t 58])]))))
def r_montgomery_product_less_1:My Tryz.prog 180=some ⟨60,z40.r,[]⟩:=Aa
def z4d:LC:=(.q [.x 1 0] (.q [.l 2 1,.z 3 (.w 138 [.t 2,(.c (.fn (.func 139) [] []))])] (.seq (.draw [(.l 4 1,[]),(.N 5 4,[]),(.f 6 0 5,[]),(.l 7 6,[]),(.l 8 1,[]),(.N 9 8,[]),(.f 10 23 9,[]),(.l 11 10,[]),(.l 12 1,[]),(.N 13 12,[]),(.f 14 13 13,[]),(.L 15 3 14,[]),(.l 16 1,[]),(.N 17 16,[]),(.f 18 10 17,[]),(.f 19 2 18,[]),(.l 20 19,[]),(.z 21 (.w 70 [.t 7,.t 11,.t 15,.k (-1),.t 20]),[])]) (.seq (.draw [(.l 22 1,[]),(.N 23 22,[]),(.f 24 0 23,[]),(.l 25 24,[]),(.l 26 1,[]),(.N 27 26,[]),(.f 28 22 27,[]),(.l 29 28,[]),(.l 30 1,[]),(.N 31 30,[]),(.f 32 26 31,[]),(.l 33 32,[]),(.l 34 1,[]),(.N 35 34,[]),(.f 36 23 35,[]),(.l 37 36,[]),(.l 38 1,[]),(.N 39 38,[]),(.f 40 16 39,[]),(.l 41 40,[]),(.l 42 1,[]),(.N 43 42,[]),(.f 44 24 43,[]),(.l 45 44,[]),(.z 46 (.w 104 [.t 25,.k 12,.t 29,.t 33,.t 37,.t 41,.t 45]),[])]) (.ops [.l 47 1,.z 48 (.mkFunc 140 [] [.t 1]),.W 49 138 47 48])))))
def r_montgomery_product_last:My Tryz.prog 77=some ⟨50,z4d.r,[]⟩:=Aa
def z3w:LC:=.skip
def r_montgomery_product_last_1:My Tryz.prog 139=some ⟨2,z3w.r,[]⟩:=Aa
def z3o:LC:=(.seq (.draw [(.l 3 1,[]),(.N 4 3,[]),(.f 5 0 4,[]),(.l 6 5,[]),(.l 7 1,[]),(.N 8 7,[]),(.f 9 22 8,[]),(.l 10 9,[]),(.l 11 1,[]),(.N 12 11,[]),(.f 13 26 12,[]),(.l 14 13,[]),(.l 15 1,[]),(.N 16 15,[]),(.f 17 23 16,[]),(.l 18 17,[]),(.l 19 1,[]),(.N 20 19,[]),(.f 21 22 20,[]),(.l 22 21,[]),(.z 23 (.w 113 [.t 6,.t 10,.t 14,.t 18,.t 22]),[])]) (.draw [(.l 24 1,[]),(.N 25 24,[]),(.f 26 0 25,[]),(.l 27 26,[]),(.l 28 1,[]),(.N 29 28,[]),(.f 30 1 29,[]),(.L 31 3 30,[]),(.m 32 0,[]),(.l 33 1,[]),(.N 34 33,[]),(.f 35 22 34,[]),(.l 36 35,[]),(.z 37 (.w 109 [.t 27,.t 31,.t 32,.k 0,.t 36]),[])]))
def r_montgomery_product_last_2:My Tryz.prog 140=some ⟨38,z3o.r,[]⟩:=Aa
def z25:LC:=(.q [.x 7 0,.x 8 1,.x 9 2,.x 10 3,.x 11 4,.e 14] (.q [.f 19 2 10,.l 20 19,.m 15 20] (.seq (.seq (.draw [(.m 21 15,[]),(.b 22 .lss 3 21 1,[]),(.m 23 22,[]),(.nf 24 23 2 7,[]),(.nl 25 23 24,[]),(.mn 26 23 15,[]),(.n 27 23 (.bin .neq false 3 (.t 25) (.t 26)),[]),(.p 28 23 27,[]),(.m 29 28,[]),(.nf 30 29 2 8,[]),(.nl 31 29 30,[]),(.mn 32 29 15,[]),(.n 33 29 (.bin .neq false 3 (.t 31) (.t 32)),[]),(.p 34 29 33,[]),(.m 35 34,[]),(.nf 36 35 2 9,[]),(.nl 37 35 36,[]),(.mn 38 35 15,[]),(.n 39 35 (.bin .neq false 3 (.t 37) (.t 38)),[]),(.p 40 35 39,[]),(.m 41 40,[]),(.nf 42 41 2 11,[]),(.nl 43 41 42,[]),(.mn 44 41 15,[]),(.n 45 41 (.w 21 [.t 44]),[(.nl 43 41 42,false)]),(.n 46 41 (.bin .lss false 3 (.t 43) (.t 45)),[]),(.p 47 41 46,[]),(.m 48 47,[]),(.mn 49 48 5,[]),(.mn 50 48 6,[]),(.n 51 48 (.w 67 [.t 49,.t 50]),[]),(.n 52 48 (.un .not (.t 51)),[]),(.p 53 48 52,[])]) (.cond (.t 53) (.q [.e 14] .ret) .skip)) (.seq (.draw [(.m 54 5,[]),(.z 55 (.build [.nilSl,(.i 0)] [(1,1,.t 54)]),[]),(.x 56 55,[]),(.L 57 3 7,[]),(.L 58 3 8,[]),(.L 59 3 9,[]),(.L 60 3 10,[]),(.L 61 3 11,[]),(.m 62 15,[]),(.z 16 (.alloc [.nilPtr]),[(.L 61 3 11,false),(.L 60 3 10,false),(.L 59 3 9,false),(.L 58 3 8,false),(.L 57 3 7,false),(.x 56 55,true)]),(.w 63 21 62,[(.z 16 (.alloc [.nilPtr]),true),(.L 61 3 11,false),(.L 60 3 10,false),(.L 59 3 9,false),(.L 58 3 8,false),(.L 57 3 7,false),(.x 56 55,true)]),(.z 64 (.w 68 [.t 61,.k 0,.t 63]),[(.z 16 (.alloc [.nilPtr]),true),(.L 60 3 10,false),(.L 59 3 9,false),(.L 58 3 8,false),(.L 57 3 7,false),(.x 56 55,true)]),(.z 65 (.build [.nilPtr,(.i 0),(.i 0),(.i 0),(.i 0),(.i 0),(.i 0),(.i 0),(.i 0),(.i 0),(.i 0),(.i 0),(.i 0),(.i 0),(.i 0),(.i 0),(.i 0),(.i 0),(.i 0),(.i 0),(.i 0),(.i 0),(.i 0),(.i 0),(.i 0),(.i 0),(.i 0)] [(0,1,.t 56),(1,3,.t 57),(4,3,.t 58),(7,3,.t 59),(10,3,.t 60),(13,3,.t 64)]),[]),(.x 66 65,[(.z 16 (.alloc [.nilPtr]),true),(.L 60 3 10,false),(.L 59 3 9,false),(.L 58 3 8,false),(.L 57 3 7,false),(.x 56 55,true)]),(.S 1 16 66,[])]) (.seq (.seq (.draw [(.l 67 16,[]),(.N 68 67,[]),(.f 69 16 68,[]),(.l 70 16,[]),(.N 71 70,[]),(.f 72 17 71,[]),(.l 73 16,[]),(.N 74 73,[]),(.f 75 18 74,[]),(.l 76 16,[]),(.N 77 76,[]),(.f 78 19 77,[]),(.l 79 16,[]),(.N 80 79,[]),(.f 81 20 80,[]),(.l 82 16,[]),(.N 83 82,[]),(.f 84 21 83,[]),(.l 85 16,[]),(.N 86 85,[]),(.f 87 22 86,[]),(.l 88 16,[]),(.N 89 88,[]),(.f 90 23 89,[]),(.l 91 16,[]),(.N 92 91,[]),(.f 93 24 92,[]),(.l 94 16,[]),(.N 95 94,[]),(.f 96 25 95,[]),(.l 97 16,[]),(.N 98 97,[]),(.f 99 26 98,[]),(.z 100 (.buildSl 1 11 [.nilPtr,.nilPtr,.nilPtr,.nilPtr,.nilPtr,.nilPtr,.nilPtr,.nilPtr,.nilPtr,.nilPtr,.nilPtr] [(0,1,.t 69),(1,1,.t 72),(2,1,.t 75),(3,1,.t 78),(4,1,.t 81),(5,1,.t 84),(6,1,.t 87),(7,1,.t 90),(8,1,.t 93),(9,1,.t 96),(10,1,.t 99)]),[(.l 97 16,false),(.l 94 16,false),(.l 91 16,false),(.l 88 16,false),(.l 85 16,false),(.l 82 16,false),(.l 79 16,false),(.l 76 16,false),(.l 73 16,false),(.l 70 16,false),(.l 67 16,false)]),(.s 101 100,[]),(.K 102 0,[])]) (.block 0 (.loop (.q [.c 103 .lss 3 102 101] (.seq (.cond (.t 103) .skip (.exit 0)) (.seq (.block 1 (.q [.m 104 102,.I 105 1 100 102,.l 106 105,.m 17 104,.m 18 106] (.ops [.m 107 18,.m 108 6,.m 109 17,.c 110 .add 3 108 109,.N 111 107,.S 1 111 110]))) (.ops [.b 112 .add 3 102 1,.m 102 112]))))))) (.seq (.draw [(.l 113 16,[]),(.N 114 113,[]),(.f 115 0 114,[]),(.l 116 115,[]),(.l 117 16,[]),(.N 118 117,[]),(.f 119 16 118,[]),(.l 120 119,[]),(.z 121 (.w 69 [.t 116,.t 120,.c (.u 0)]),[])]) (.seq (.draw [(.l 122 16,[]),(.N 123 122,[]),(.f 124 0 123,[]),(.l 125 124,[]),(.l 126 16,[]),(.N 127 126,[]),(.f 128 26 127,[]),(.l 129 128,[]),(.L 130 3 10,[]),(.z 131 (.w 70 [.t 125,.t 129,.t 130,.k (-1),.k 0]),[])]) (.seq (.draw [(.l 132 16,[]),(.N 133 132,[]),(.f 134 0 133,[]),(.l 135 134,[]),(.l 136 16,[]),(.N 137 136,[]),(.f 138 26 137,[]),(.l 139 138,[]),(.l 140 16,[]),(.N 141 140,[]),(.f 142 17 141,[]),(.l 143 142,[]),(.V 144 71 135 139 143,[])]) (.seq (.draw [(.l 145 16,[]),(.N 146 145,[]),(.f 147 0 146,[]),(.l 148 147,[]),(.l 149 16,[]),(.N 150 149,[]),(.f 151 13 150,[]),(.L 152 3 151,[]),(.l 153 16,[]),(.N 154 153,[]),(.f 155 16 154,[]),(.l 156 155,[]),(.V 157 72 148 152 156,[])]) (.q [.l 158 16,.N 159 158,.f 160 0 159,.l 161 160,.m 162 15,.z 163 (.mkFunc 74 [] [.t 16]),.V 164 73 161 162 163] (.q [.l 165 16,.w 166 77 165] (.q [.l 167 16,.N 168 167,.f 169 0 168,.l 170 169,.N 171 170,.f 172 0 171,.l 173 172,.m 14 173] .ret))))))))))))
def r_montgomery_Into:My Tryz.prog 23=some ⟨174,z25.r,[.tmp 14]⟩:=Aa
def z7b:LC:=(.q [.l 3 1,.m 4 0,.W 5 75 3 4] (.ops [.l 6 1,.w 7 76 6]))
def r_montgomery_Into_1:My Tryz.prog 74=some ⟨8,z7b.r,[]⟩:=Aa
def z6o:LC:=(.q [.F 4] (.q [.m 5 0,.b 6 .geq 3 5 0,.m 7 6,.my 8 7 0,.y 9 7 (.bin .leq true 3 (.t 8) (.k 6)),.q 10 7 9,.m 11 10,.my 12 11 1,.y 13 11 (.bin .geq true 3 (.t 12) (.k 16)),.q 14 11 13,.m 15 14,.my 16 15 1,.y 17 15 (.bin .leq true 3 (.t 16) (.k 50)),.q 18 15 17,.m 4 18] .ret))
def r_montgomery_Allowed:My Tryz.prog 67=some ⟨19,z6o.r,[.tmp 4]⟩:=Aa
def z8h:LC:=(.q [.x 5 1,.x 6 2,.e 8,.K 9 0] (.seq (.seq (.draw [(.m 12 0,[]),(.L 13 7 5,[]),(.L 14 8 6,[]),(.m 15 3,[]),(.m 16 0,[]),(.L 17 7 5,[]),(.W 18 15 16 17,[(.L 14 8 6,false),(.L 13 7 5,false)]),(.z 19 (.w 58 [.t 12,.t 13,.t 14,.t 15,.t 18]),[]),(.z 20 (.un .not (.t 19)),[])]) (.cond (.t 20) (.q [.e 8,.K 9 2] .ret) .skip)) (.q [.m 22 0,.L 23 7 5,.L 24 8 6,.V 25 59 22 23 24,.m 21 25,.X 26 0 21,.X 27 1 21,.z 11 (.alloc [(.i 0),(.i 0),(.i 0)]),.m 10 26,.S 3 11 27] (.seq (.draw [(.f 28 1 6,[]),(.l 29 28,[]),(.f 30 1 5,[]),(.l 31 30,[]),(.I 32 3 29 31,[]),(.L 33 3 32,[]),(.f 34 1 6,[]),(.l 35 34,[]),(.f 36 3 5,[]),(.l 37 36,[]),(.I 38 3 35 37,[]),(.L 39 3 38,[]),(.f 40 1 6,[]),(.l 41 40,[]),(.f 42 4 5,[]),(.l 43 42,[]),(.I 44 3 41 43,[]),(.L 45 3 44,[]),(.f 46 1 6,[]),(.l 47 46,[]),(.f 48 5 5,[]),(.l 49 48,[]),(.I 50 3 47 49,[]),(.L 51 3 50,[]),(.L 52 3 11,[]),(.m 53 3,[]),(.m 54 10,[]),(.z 55 (.w 23 [.t 33,.t 39,.t 45,.t 51,.t 52,.t 53,.t 54]),[]),(.m 8 55,[]),(.K 9 0,[])]) .ret))))
def r_montgomery_Code:My Tryz.prog 18=some ⟨56,z8h.r,[.tmp 8,.tmp 9]⟩:=Aa
def zdf{G:Mp}{K:LV→Mp→Prop}{e:Nat}{ops:List Lo}{deep:Int}{f:Nat}{fst cap:List LV}{B:Fr Lo}(hd:0≤deep∧deep≤100)(h:Of G e ops deep)(V:ops.length≤900000)(X:B.flat.length≤50000)
  (H:∀(j:Mp) (g:List Lo) (E:LV→Mp→Prop),Of j e g (deep+1)→Kp e G j→g.length≤900001→(∀A,Of A e (g++B.flat) (deep+1)→Kp e j A→E (.tup []) A)→Ol (.fn f) (fst++.i deep::cap) j E)
  (k:∀C,Of C e (ops++(P4 deep z B).flat) deep→Kp e G C→K (.tup []) C):Ol (.fn 73) [.ptr e 0,.i z,.fn (.func f) fst cap] G K:=by
 refine zu3 hd h J (λD=>k G (by rw[Y2,Hv D,I9];exact h) (Kp.refl _ _)) λI j L F=>H j _ _ L F Ab λA M O=>⟨_,Ab,M,λQ T U=>k Q ?_ (F.trans (O.trans U))⟩
 rw[Y2,Hs J];simpa using T
section put
variable {G : Mp} {K : LV → Mp → Prop} {e P st : Nat} {ops : List Lo} {deep R : Int} {d a b n t : Pc}
def zs2{x y:Int}(j:G[P]?=some (.cells (Sy e d a b n t R) st))(g:P≠e)(h:Of G e ops deep)(X:ops.length≤950000)(k:∀z,Of z e (ops++Ni R x y) deep→Kp e G z→K (.tup []) z):Ol (.fn 135) [.ptr P 0,.i x,.i y] G K:=by
 refine Mz r_montgomery_product_sum Aa N ?_;unfold Sy at j;simp[z4p,j];refine zjr h J λY I A=>?_
 have B:=A.cells g j;simp[B];refine zan I Ab λZ L C=>?_
 have D:=C.cells g B;simp[D];refine zan L Ab λG3 M E=>?_
 have F:=E.cells g D;simp[F];refine zf6 M Ab λG4 O H=>?_
 have Q:=H.cells g F;simp[Q];refine zf6 O Ab λT U V=>?_
 simp;refine k T (by simpa [Ni] using U) (A.trans (C.trans (E.trans (H.trans V))))
def zzu(H:-1000000≤t.at_∧t.at_≤1000000)(I:0≤n.size∧n.size≤1000000)(g:G[P]?=some (.cells (Sy e d a b n t R) st))(j:P≠e)(h:Of G e ops deep)(L:ops.length≤900000)(k:∀z,Of z e (ops++Ob t n.size R) deep→Kp e G z→K (.tup []) z):Ol (.fn 136) [.ptr P 0] G K:=by
 refine Mz r_montgomery_product_top Aa N ?_;unfold Sy at g;simp[z4r,g];refine Yy (p:=t) J h J λM B A=>?_
 have C:=A.cells j g;simp[C];refine zan B Ab λD E F=>?_
 simp;refine k D (by simpa [Ob] using E) (A.trans F)
def zwe(ha:-1000000≤a.at_∧a.at_≤1000000)(ht:-1000000≤t.at_∧t.at_≤1000000)(I:G[g]?=some (.cells [.ptr P 0] j))(B:g≠e)(C:G[P]?=some (.cells (Sy e d a b n t R) st))(A:P≠e)(h:Of G e ops deep)(hl:ops.length≤900001)(k:∀F,Of F e (ops++Th a t R z) deep→Kp e G F→K (.tup []) F):Ol (.fn 134) [.i z,.ptr g 0] G K:=by
 refine Mz r_montgomery_product_times_1 Aa N ?_;have T:=C;unfold Sy at C;simp[z3l,I,C];refine Yy (p:=a) J h J λG1 U D=>?_
 have L:=D.cells B I;have V:=D.cells A T;have M:=D.cells A C;simp[L,M];refine Yy (p:=t) J U Ab λG2 X E=>?_
 have O:=E.cells B L;have Y:=E.cells A V;have Q:=E.cells A M;simp[O,Q];refine zs2 Y A X Ab λG3 Z H=>?_
 have z3:=H.cells B O;have p3:=H.cells A Q;simp[z3,p3];refine yi (p:=t) J Z Dr λG4 h4 k4=>?_
 simp;refine k G4 (by simpa [Th] using h4) (D.trans (E.trans (H.trans k4)))
def zx6(hn:-1000000≤n.at_∧n.at_≤1000000)(ht:-1000000≤t.at_∧t.at_≤1000000)(I:G[g]?=some (.cells [.ptr P 0] j))(B:g≠e)(C:G[P]?=some (.cells (Sy e d a b n t R) st))(A:P≠e)(h:Of G e ops deep)(hl:ops.length≤900001)(k:∀F,Of F e (ops++Tt n t R z) deep→Kp e G F→K (.tup []) F):Ol (.fn 137) [.i z,.ptr g 0] G K:=by
 refine Mz r_montgomery_product_down_1 Aa N ?_;have T:=C;unfold Sy at C;simp[z3t,I,C];refine Yy (p:=n) J h J λG1 U D=>?_
 have L:=D.cells B I;have V:=D.cells A T;have M:=D.cells A C;simp[L,M];refine Yy (p:=t) J U Ab λG2 X E=>?_
 have O:=E.cells B L;have Y:=E.cells A V;have Q:=E.cells A M;simp[O,Q];refine zs2 Y A X Ab λG3 Z H=>?_
 have z3:=H.cells B O;have p3:=H.cells A Q;simp[z3,p3];refine yi (p:=t) J Z Dr λG4 h4 k4=>?_
 simp;refine k G4 (by simpa [Tt] using h4) (D.trans (E.trans (H.trans k4)))
def zxn{i:Int}(hd:0≤deep∧deep≤50)(ha:-1000000≤a.at_∧a.at_≤1000000)(hb:-1000000≤b.at_∧b.at_≤1000000)(M:-1000000≤t.at_∧t.at_≤1000000)(hn:0≤n.size∧n.size≤1000000)(z:G[P]?=some (.cells (Sy e d a b n t R) st))(g:P≠e)(h:Of G e ops deep)(hl:ops.length≤800000)
  (k:∀E,Of E e (ops++(R4 a b t n.size R deep i).flat) deep→Kp e G E→K (.tup []) E):Ol (.fn 75) [.ptr P 0,.i i] G K:=by
 refine Mz r_montgomery_product_times Aa N ?_;have hQ:=z;unfold Sy at z;have F:=(Hm.1 z).1;have le:e<G.length:=Ba
 have z0:(G++[LObj.cells [.ptr P 0] 0])[G.length]?=some (.cells [.ptr P 0] 0):=Ie;have q0:(G++[LObj.cells [.ptr P 0] 0])[P]?=_:=(M6 F).trans hQ;have p0:(G++[LObj.cells [.ptr P 0] 0])[P]?=_:=(M6 F).trans z;have h0:=h.app [LObj.cells [.ptr P 0] 0];have k0:=Kp.app' e G [LObj.cells [.ptr P 0] 0];have j:G.length≠e:=J
 simp[z46,↓M6 F,z];generalize G++[LObj.cells [.ptr P 0] 0]=G0 at *;generalize G.length=gz at *;refine Yy (p:=b) J h0 J λG1 h1 A=>?_
 have O:=A.cells j z0;have q1:=A.cells g q0;have Q:=A.cells g p0;simp[O,Q];refine z78 h1 Ab λG2 h2 C=>?_
 have H:=C.cells j O;have T:=C.cells g q1;have U:=C.cells g Q;simp[H,U];refine zdf (fst:=[]) (cap:=[.ptr gz 0]) (B:=Nu (Th a t R deep)) J h2 Ab (by rw[flat_frL];simp[Th,Ni]) (λG3 V K' h3 X l3 Y=>?_) λG5 h5 D=>?_
 ·rw[flat_frL]at Y;exact zwe ha M (X.cells j H) j (X.cells g T) g h3 l3 Y
 have Z:=D.cells j H;have q5:=D.cells g T;have p5:=D.cells g U;simp[Z,p5];have gg:(P4 deep n.size (Nu (Th a t R deep))).flat.length≤100:=by rw[Y2];split<;>simp[flat_frL,Th,Ni]
 refine zzu M hn q5 g h5 Ab λG6 h6 I=>?_
 have z6:=I.cells j Z;have p6:=I.cells g p5;simp[z6,p6];refine yi (p:=t) J h6 (by simp[Ob];omega) λG7 h7 L=>?_
 have z7:=L.cells j z6;have p7:=L.cells g p6;simp[z7,p7]
 repeat (refine⟨J,?_⟩)
 refine yi (p:=t) J h7 (by simp[Ob];omega) λG8 h8 k8=>?_
 simp;refine k G8 ?_ (k0.trans (A.trans (C.trans (D.trans (I.trans (L.trans k8))))));unfold R4;rw[Si,Si,flat_frL,flat_frL];simpa using h8
end put
end
section
section put
variable {G : Mp} {K : LV → Mp → Prop} {e P st : Nat} {ops : List Lo} {deep R : Int} {d a b n t : Pc}
def il(hd:0≤deep∧deep≤50)(L:-1000000≤n.at_∧n.at_≤1000000)(ht:-1000000≤t.at_∧t.at_≤1000000)(hn:0≤n.size∧n.size≤1000000)(C:G[P]?=some (.cells (Sy e d a b n t R) st))(g:P≠e)(h:Of G e ops deep)(hl:ops.length≤800000)
  (k:∀M,Of M e (ops++(Sl n t n.size R deep).flat) deep→Kp e G M→K (.tup []) M):Ol (.fn 76) [.ptr P 0] G K:=by
 refine Mz r_montgomery_product_down Aa N ?_;have hQ:=C;unfold Sy at C;have O:=(Hm.1 C).1;have le:e<G.length:=Ba
 have z0:(G++[LObj.cells [.ptr P 0] 0])[G.length]?=some (.cells [.ptr P 0] 0):=Ie;have q0:(G++[LObj.cells [.ptr P 0] 0])[P]?=_:=(M6 O).trans hQ;have p0:(G++[LObj.cells [.ptr P 0] 0])[P]?=_:=(M6 O).trans C;have h0:=h.app [LObj.cells [.ptr P 0] 0];have k0:=Kp.app' e G [LObj.cells [.ptr P 0] 0];have j:G.length≠e:=J
 simp[z4b,↓M6 O,C];generalize G++[LObj.cells [.ptr P 0] 0]=G0 at *;generalize G.length=gG at *;refine Yy (p:=t) J h0 J λG1 h1 D=>?_
 have z1:=D.cells j z0;have q1:=D.cells g q0;have p1:=D.cells g p0;simp[z1,p1];refine zjr h1 Ab λG2 h2 E=>?_
 have z2:=E.cells j z1;have q2:=E.cells g q1;have p2:=E.cells g p1;simp[z2,p2];refine Yy (p:=n) J h2 Ab λG3 h3 F=>?_
 have z3:=F.cells j z2;have q3:=F.cells g q2;have p3:=F.cells g p2;simp[z3,p3];refine z78 h3 Ab λG4 h4 H=>?_
 have z4:=H.cells j z3;have q4:=H.cells g q3;have p4:=H.cells g p3;simp[z4,p4];refine zs2 q4 g h4 Ab λG5 h5 I=>?_
 have Q:=I.cells j z4;have q5:=I.cells g q4;have p5:=I.cells g p4;simp[Q,p5]
 repeat (refine⟨J,?_⟩)
 refine zdf (fst:=[]) (cap:=[.ptr gG 0]) (B:=Nu (Tt n t R deep)) J h5 Dr (by rw[flat_frL];simp[Tt,Ni]) (λG6 gD K' T z l6 hk=>?_) λG6 T z=>?_
 ·rw[flat_frL]at hk;exact zx6 L ht (z.cells j Q) j (z.cells g q5) g T l6 hk
 have z6:=z.cells j Q;have q6:=z.cells g q5;have p6:=z.cells g p5;simp[z6,p6];have gE:(P4 deep (n.size-1) (Nu (Tt n t R deep))).flat.length≤100:=by rw[Y2];split<;>simp[flat_frL,Tt,Ni]
 refine zzu ht hn q6 g T Dr λG7 h7 U=>?_
 have z7:=U.cells j z6;have p7:=U.cells g p6;simp[z7,p7]
 repeat (refine⟨J,?_⟩)
 refine yi (p:=t) J h7 C4 λG8 h8 V=>?_
 have z8:=V.cells j z7;have p8:=V.cells g p7;simp[z8,p8]
 repeat (refine⟨J,?_⟩)
 refine Yy (p:=t) J h8 C4 λG9 h9 X=>?_
 have z9:=X.cells j z8;have p9:=X.cells g p8;simp[z9,p9];refine zf6 h9 C4 λgF Y A=>?_
 have Z:=A.cells j z9;have gg:=A.cells g p9;simp[Z,gg];refine yi (p:=t) J Y C4 λgz gA gC=>?_
 simp;refine k gz ?_ (k0.trans (D.trans (E.trans (F.trans (H.trans (I.trans (z.trans (U.trans (V.trans (X.trans (A.trans gC)))))))))));unfold Sl;rw[Si,Si,flat_frL,flat_frL];simpa using gA
def zzq{y f:Nat}{cap:List LV}{x:List Lo}(hn:-1000000≤n.at_∧n.at_≤1000000)(ht:-1000000≤t.at_∧t.at_≤1000000)(U:G[g]?=some (.cells [.ptr P 0] j))(D:g≠e)(Z:G[y]?=some (.cells [.fn (.func f) [] cap] A))(C:y≠e)(O:G[P]?=some (.cells (Sy e d a b n t R) st))(E:P≠e)(h:Of G e ops deep)(hl:ops.length≤900001)
  (F:∀(H:Mp) (B:List Lo) (V:LV→Mp→Prop),Of H e B deep→Kp e G H→B.length≤900010→(∀M,Of M e (B++x) deep→Kp e H M→V (.tup []) M)→Ol (.fn f) (.i z::cap) H V)
  (k:∀Q,Of Q e (ops++(T1 n t R z++x)) deep→Kp e G Q→K (.tup []) Q):Ol (.fn 180) [.i z,.ptr g 0,.ptr y 0] G K:=by
 refine Mz r_montgomery_product_less_1 Aa N ?_;unfold Sy at O;simp[z40,U,O];refine Yy (p:=t) J h J λH h1 I=>?_
 have X:=I.cells D U;have y1:=I.cells C Z;have Y:=I.cells E O;simp[X,Y];refine Yy (p:=n) J h1 Ab λM h2 L=>?_
 have z2:=L.cells D X;have y2:=L.cells C y1;have p2:=L.cells E Y;simp[z2,p2];refine zan h2 Ab λG3 h3 T=>?_
 have y3:=T.cells C y2;simp[y3];refine F G3 _ _ h3 (I.trans (L.trans T)) Ab λG4 h4 k4=>?_
 simp;refine k G4 (by simpa [T1] using h4) (I.trans (L.trans (T.trans k4)))
def zth{f:Nat}{cap:List LV}{x:List Lo}(hx:x.length≤10)(hd:0≤deep∧deep≤50)(L:-1000000≤n.at_∧n.at_≤1000000)(ht:-1000000≤t.at_∧t.at_≤1000000)(D:G[P]?=some (.cells (Sy e d a b n t R) st))(j:P≠e)(h:Of G e ops deep)(hl:ops.length≤800000)
  (E:∀(F:Mp) (g:List Lo) (M:LV→Mp→Prop),Of F e g (deep+1)→Kp e G F→g.length≤900010→(∀O,Of O e (g++x) (deep+1)→Kp e F O→M (.tup []) O)→Ol (.fn f) (.i deep::cap) F M)
  (k:∀Q,Of Q e (ops++(Uc n t n.size R deep x).flat) deep→Kp e G Q→K (.tup []) Q):Ol (.fn 138) [.ptr P 0,.fn (.func f) [] cap] G K:=by
 refine Mz r_montgomery_product_less Aa N ?_;have hQ:=D;unfold Sy at D;have T:=(Hm.1 D).1;have le:e<G.length:=Ba
 have z0:(G++[LObj.cells [.ptr P 0] 0,LObj.cells [.fn (.func f) [] cap] 0])[G.length]?=some (.cells [.ptr P 0] 0):=N
 have y0:(G++[LObj.cells [.ptr P 0] 0,LObj.cells [.fn (.func f) [] cap] 0])[G.length+1]?=some (.cells [.fn (.func f) [] cap] 0):=N
 have q0:(G++[LObj.cells [.ptr P 0] 0,LObj.cells [.fn (.func f) [] cap] 0])[P]?=_:=(M6 T).trans hQ;have p0:(G++[LObj.cells [.ptr P 0] 0,LObj.cells [.fn (.func f) [] cap] 0])[P]?=_:=(M6 T).trans D;have h0:=h.app [LObj.cells [.ptr P 0] 0,LObj.cells [.fn (.func f) [] cap] 0];have V:=Kp.app' e G [LObj.cells [.ptr P 0] 0,LObj.cells [.fn (.func f) [] cap] 0];have z:G.length≠e:=J
 have A:G.length+1≠e:=J
 simp[z4h,↓M6 T,D];generalize G++[LObj.cells [.ptr P 0] 0,LObj.cells [.fn (.func f) [] cap] 0]=G0 at *;generalize G.length+1=y at *;generalize G.length=gg at *;refine z78 h0 J λF h1 C=>?_
 have X:=C.cells z z0;have y1:=C.cells A y0;have q1:=C.cells j q0;have p1:=C.cells j p0;simp[X,p1];refine zdf (fst:=[]) (cap:=[.ptr gg 0,.ptr y 0]) (B:=Nu (T1 n t R deep++x)) J h1 Ab (by rw[flat_frL];simp[T1];omega) (λG3 Y M h3 I l3 Z=>?_) λG5 h5 k5=>?_
 ·rw[flat_frL]at Z;exact zzq L ht (I.cells z X) z (I.cells A y1) A (I.cells j q1) j h3 l3 (λG4 H K4 h4 k4 l4 U=>E G4 H K4 h4 (V.trans (C.trans (I.trans k4))) l4 U) Z
 simp;refine k G5 ?_ (V.trans (C.trans k5));unfold Uc;rw[Si,flat_frL];simpa using h5
def cm(hd:0≤deep∧deep≤50)(gz:-1000000≤d.at_∧d.at_≤1000000)(z:-1000000≤n.at_∧n.at_≤1000000)(Q:-1000000≤t.at_∧t.at_≤1000000)(hn:0≤n.size∧n.size≤1000000)(A:G[P]?=some (.cells (Sy e d a b n t R) st))(g:P≠e)(h:Of G e ops deep)(hl:ops.length≤700000)
  (k:∀F,Of F e (ops++(V2 d n t n.size R deep).flat) deep→Kp e G F→K (.tup []) F):Ol (.fn 77) [.ptr P 0] G K:=by
 refine Mz r_montgomery_product_last Aa N ?_;have hQ:=A;unfold Sy at A;have H:=(Hm.1 A).1;have le:e<G.length:=Ba
 have z0:(G++[LObj.cells [.ptr P 0] 0])[G.length]?=some (.cells [.ptr P 0] 0):=Ie;have T:(G++[LObj.cells [.ptr P 0] 0])[P]?=_:=(M6 H).trans hQ;have p0:(G++[LObj.cells [.ptr P 0] 0])[P]?=_:=(M6 H).trans A;have h0:=h.app [LObj.cells [.ptr P 0] 0];have k0:=Kp.app' e G [LObj.cells [.ptr P 0] 0];have j:G.length≠e:=J
 simp[z4d,↓M6 H,A];generalize G++[LObj.cells [.ptr P 0] 0]=G0 at *;generalize G.length=gA at *;have hL:∀x:List Lo,x.length≤10→(Uc n t n.size R deep x).flat.length≤100:=λx hx=>by
  unfold Uc;rw[Si,flat_frL,Y2];split<;>simp[flat_frL,T1];omega
 refine zth (x:=[]) N hd z Q T g h0 J (λU V K' I B l1 L=>?_) λU I B=>?_
 ·refine Mz r_montgomery_product_last_1 Aa N ?_;simp[z3w];exact L U Cr (Kp.refl _ _)
 have X:=B.cells j z0;have q1:=B.cells g T;have Y:=B.cells g p0;have l1:=hL [] N;simp[X,Y];refine Yy (p:=t) J I Ab λG2 h2 C=>?_
 have Z:=C.cells j X;have q2:=C.cells g q1;have p2:=C.cells g Y;simp[Z,p2];refine zan h2 Ab λG3 h3 D=>?_
 have z3:=D.cells j Z;have q3:=D.cells g q2;have p3:=D.cells g p2;simp[z3,p3];refine zth (x:=[Pg (R+6) (R+10) (R+7) (R+6),N7 d deep 0 (R+6)]) N hd z Q q3 g h3 Ab (λG4 gg K' M E l4 L=>?_) λG4 M E=>?_
 ·refine Mz r_montgomery_product_last_2 Aa N ?_;have z4:=E.cells j z3;have p4:=E.cells g p3;simp[z3o,z4,p4];refine po M J λG5 h5 O=>?_
  have z5:=O.cells j z4;have p5:=O.cells g p4;simp[z5,p5];refine yi (p:=d) J h5 Ab λG6 h6 k6=>?_
  simp;exact L G6 (by simpa using h6) (O.trans k6)
 simp;refine k G4 ?_ (k0.trans (B.trans (C.trans (D.trans E))));unfold V2;rw[Si,Si,flat_frL];simpa using M
end put
end
section
def ig(k:Int):Int:=if k<1 then 0 else k+2
def zkz(deep g:Int):Bool:=decide (0≤deep)&&(decide (deep≤6)&&(decide (16≤g)&&decide (g≤50)))
def z75{G:Mp}{K:LV→Mp→Prop}{n:Int}(j:n≤1000000000)(k:K (.i (ig n)) G):Ol (.fn 21) [.i n] G K:=by
 refine Mz r_montgomery_Need k_montgomery_Need N ?_;unfold ig at k;by_cases g:n<1
 ·rw[Hv g]at k;simpa [z2s,g] using k
 ·rw[Hs g]at k;simp[z2s,g];exact⟨J,k⟩
def zaw{G:Mp}{K:LV→Mp→Prop}{a b:Int}(k:K (.bool (zkz a b)) G):Ol (.fn 67) [.i a,.i b] G K:=by
 refine Mz r_montgomery_Allowed Aa N ?_;unfold zkz at k;by_cases g:0≤a<;>by_cases j:a≤6<;>by_cases z:16≤b<;>by_cases A:b≤50<;>simpa [z6o,g,j,z,A] using k
def zk8{G:Mp}{K:LV→Mp→Prop}{p:Pc}(h:-1000000000≤p.at_+z∧p.at_+z≤1000000000)(k:K (.agg (Pc.f ⟨p.buf,p.at_+z,C⟩)) (G++[LObj.cells p.f 0,LObj.cells [.i p.buf,.i (p.at_+z),.i C] 1])):Ol (.fn 68) [.agg p.f,.i z,.i C] G K:=by
 refine Mz r_expand_Part Aa N ?_;simp[ze0,Pc.f];exact⟨J,by simpa [Pc.f] using k⟩
def ct{G:Mp}{K:LV→Mp→Prop}{e:Nat}{ops:List Lo}{deep:Int}{f:Nat}{fst cap:List LV}{B:Fr Lo}(hd:0≤deep∧deep≤100)(h:Of G e ops deep)(V:ops.length≤900000)(X:B.flat.length≤50000)
  (H:∀(j:Mp) (g:List Lo) (E:LV→Mp→Prop),Of j e g (deep+1)→Kp e G j→g.length≤ops.length+1→(∀A,Of A e (g++B.flat) (deep+1)→Kp e j A→E (.tup []) A)→Ol (.fn f) (fst++.i deep::cap) j E)
  (k:∀C,Of C e (ops++(P4 deep z B).flat) deep→Kp e G C→K (.tup []) C):Ol (.fn 73) [.ptr e 0,.i z,.fn (.func f) fst cap] G K:=by
 refine zu3 hd h J (λD=>k G (by rw[Y2,Hv D,I9];exact h) (Kp.refl _ _)) λI j L F=>H j _ _ L F N λA M O=>⟨_,Ab,M,λQ T U=>k Q ?_ (F.trans (O.trans U))⟩
 rw[Y2,Hs J];simpa using T
section put
variable {G : Mp} {K : LV → Mp → Prop} {e P st : Nat} {ops : List Lo} {deep R : Int} {d a b n t : Pc}
def dw{p:Pc}{x:Int}(hd:0≤deep∧deep≤50)(hp:-1000000≤p.at_∧p.at_≤1000000)(h:Of G e ops deep)(hl:ops.length≤800000)
  (k:∀g,Of g e (ops++(W5 p x deep).flat) deep→Kp e G g→K (.tup []) g):Ol (.fn 72) [.ptr e 0,.agg p.f,.i x] G K:=by
 refine Mz r_expand_Emit_Fill Aa N ?_;have le:e<G.length:=Ba
 have D:(G++[LObj.cells [.ptr e 0] 0,LObj.cells p.f 0,LObj.cells [.i x] 0])[G.length]?=some (.cells [.ptr e 0] 0):=N
 have E:(G++[LObj.cells [.ptr e 0] 0,LObj.cells p.f 0,LObj.cells [.i x] 0])[G.length+1]?=some (.cells p.f 0):=N
 have F:(G++[LObj.cells [.ptr e 0] 0,LObj.cells p.f 0,LObj.cells [.i x] 0])[G.length+2]?=some (.cells [.i x] 0):=N
 have H:=h.app [LObj.cells [.ptr e 0] 0,LObj.cells p.f 0,LObj.cells [.i x] 0];have I:=Kp.app' e G [LObj.cells [.ptr e 0] 0,LObj.cells p.f 0,LObj.cells [.i x] 0];have j:G.length≠e:=J
 have z:G.length+1≠e:=J
 have A:G.length+2≠e:=J
 unfold Pc.f at E F D H I;simp[z7w,Pc.f];generalize G++[LObj.cells [.ptr e 0] 0,LObj.cells [.i p.buf,.i p.at_,.i p.size] 0,LObj.cells [.i x] 0]=G0 at *;generalize G.length+2=w at *;generalize G.length+1=y at *;generalize G.length=gg at *;refine zdf (fst:=[]) (cap:=[.ptr gg 0,.ptr y 0,.ptr w 0]) (B:=Nu [N7 p deep 0 x]) J H J (by rw[flat_frL];simp) (λG3 L K' O C l3 M=>?_) λQ T U=>?_
 ·rw[flat_frL]at M;refine Mz r_expand_Emit_Fill_1 Aa N ?_;have V:=C.cells j D;have X:=C.cells z E;have Y:=C.cells A F;simp[z6n,V,X,Y];refine yi (p:=p) J O J λZ h4 k4=>?_
  simp;exact M Z h4 k4
 simp;exact k Q T (I.trans U)
def Z3{i:Int}(hd:0≤deep∧deep≤50)(L:-1000000≤a.at_∧a.at_≤1000000)(M:-1000000≤b.at_∧b.at_≤1000000)(A:-1000000≤n.at_∧n.at_≤1000000)(E:-1000000≤t.at_∧t.at_≤1000000)(F:0≤n.size∧n.size≤1000000)(H:G[g]?=some (.cells [.ptr P 0] j))(B:g≠e)(I:G[P]?=some (.cells (Sy e d a b n t R) st))(z:P≠e)(h:Of G e ops deep)(Y:ops.length≤700000)
  (k:∀C,Of C e (ops++((R4 a b t n.size R deep i).cat (Sl n t n.size R deep)).flat) deep→Kp e G C→K (.tup []) C):Ol (.fn 74) [.i i,.ptr g 0] G K:=by
 refine Mz r_montgomery_Into_1 Aa N ?_;simp[z7b,H];have Z:(R4 a b t n.size R deep i).flat.length≤100:=by
  unfold R4;rw[Si,Si,flat_frL,Y2];split<;>simp[flat_frL,Th,Ni,Ob]
 refine zxn hd L M E F I z h J λG1 O D=>?_
 have Q:=D.cells B H;have T:=D.cells z I;simp[Q];refine il hd A E F T z O Ab λU V X=>?_
 simp;refine k U ?_ (D.trans X);rw[Si];simpa using V
end put
def et(d a b n w:Pc)(deep R:Int):Bool:=decide (1≤n.size)&&(decide (d.size=n.size)&&(decide (a.size=n.size)&&(decide (b.size=n.size)&&(decide (ig n.size≤w.size)&&zkz deep R))))
def x4(d a b n w:Pc)(deep R:Int):List Lo:=if et d a b n w deep R=true then (Xw d a b n ⟨w.buf,w.at_,ig n.size⟩ n.size R deep).flat else []
def Ud(d a b n w:Pc)(deep R:Int)(i st:Nat):Mp :=
 [.cells [.i d.buf,.i d.at_,.i n.size] 0,.cells [.i a.buf,.i a.at_,.i n.size] 0,.cells [.i b.buf,.i b.at_,.i n.size] 0,.cells [.i n.buf,.i n.at_,.i n.size] 0,.cells [.i w.buf,.i w.at_,.i w.size] 0,.cells [.nilSl,.i deep] 0,.cells [.ptr 9 0] 1,
  .cells [.i w.buf,.i w.at_,.i w.size] 0,.cells [.i w.buf,.i w.at_,.i (ig n.size)] 1,
  .cells [.ptr 5 0,.i d.buf,.i d.at_,.i n.size,.i a.buf,.i a.at_,.i n.size,.i b.buf,.i b.at_,.i n.size,.i n.buf,.i n.at_,.i n.size,.i w.buf,.i w.at_,.i (ig n.size),.i (if 0<i then R else 0),.i (if 1<i then R+1 else 0),.i (if 2<i then R+2 else 0),.i (if 3<i then R+3 else 0),.i (if 4<i then R+4 else 0),.i (if 5<i then R+5 else 0),.i (if 6<i then R+6 else 0),.i (if 7<i then R+7 else 0),.i (if 8<i then R+8 else 0),.i (if 9<i then R+9 else 0),.i (if 10<i then R+10 else 0)] st,
  .dyn [.ptr 9 16,.ptr 9 17,.ptr 9 18,.ptr 9 19,.ptr 9 20,.ptr 9 21,.ptr 9 22,.ptr 9 23,.ptr 9 24,.ptr 9 25,.ptr 9 26] 11 1 0 0]
def ze1{d a b n w:Pc}{deep R:Int}(gg:-1000000≤d.at_∧d.at_≤1000000)(ha:-1000000≤a.at_∧a.at_≤1000000)(hb:-1000000≤b.at_∧b.at_≤1000000)(M:-1000000≤n.at_∧n.at_≤1000000)(hw:-1000000≤w.at_∧w.at_≤1000000)(hn:n.size≤1000000) :
  Od 23 [.agg d.f,.agg a.f,.agg b.f,.agg n.f,.agg w.f,.i deep,.i R] (.lst (P1 (x4 d a b n w deep R)) (x4 d a b n w deep R).length 8):=by
 refine Ra.mk (by simp[LV.dat,Sz]) (Mz r_montgomery_Into Aa (by simp) ?_);have F:et d a b n w deep R=false→x4 d a b n w deep R=[]:=λh=>by unfold x4;rw[h];simp
 by_cases O:n.size<1
 ·rw[F Cm];simp[z25,Pc.f,O,P1]
 by_cases L:d.size=n.size
 rotate_left
 ·rw[F Cm];simp[z25,Pc.f,O,L,P1]
 by_cases Q:a.size=n.size
 rotate_left
 ·rw[F Cm];simp[z25,Pc.f,O,L,Q,P1]
 by_cases X:b.size=n.size
 rotate_left
 ·rw[F Cm];simp[z25,Pc.f,O,L,Q,X,P1]
 simp[z25,Pc.f,O,L,Q,X];refine z75 J ?_;by_cases g5:w.size<ig n.size
 ·rw[F Cm];simp[g5,P1]
 simp[g5];refine zaw ?_;by_cases T:zkz deep R=true
 rotate_left
 ·rw[F (by simp[et,T])];simp[T,P1]
 simp[T];refine z75 J ?_;simp;refine zk8 (p:=w) J ?_;simp[Pc.f];have hR:16≤R∧R≤50∧0≤deep∧deep≤6:=by simp[zkz]at T;omega
 refine Oc (λZ gH G' N=>∃i st:Nat,gH=[]∧N+i=11∧lk Z 6=.i R∧lk Z 10=.ptr 3 0∧lk Z 15=.i n.size∧lk Z 16=.ptr 6 0∧lk Z 100=.dy 10 0∧lk Z 101=.i 11∧lk Z 102=.i i∧G'=Ud d a b n w deep R i st) (N:=11)
  ⟨0,0,rfl,J,by simp,by simp,by simp,by simp,by simp,by simp,by simp,Bx⟩ ?_
 rintro N Z gH G5 ⟨i,st,rfl,hN,E,z,A,C,g,j,H,rfl⟩ Nx D;by_cases gI:i<11
 ·have hi:i=0∨i=1∨i=2∨i=3∨i=4∨i=5∨i=6∨i=7∨i=8∨i=9∨i=10:=J
  rcases hi with rfl|rfl|rfl|rfl|rfl|rfl|rfl|rfl|rfl|rfl|rfl
  all_goals simp[E,z,A,C,g,j,H,Ud]
  ·try (refine⟨J,?_⟩)
   exact D _ _ _ ⟨N-1,J,1,st+1,rfl,J,Ai,Ae,Ar,Al,At,Af,by simp,Bx⟩
  ·try (refine⟨J,?_⟩)
   exact D _ _ _ ⟨N-1,J,2,st+1,rfl,J,Ai,Ae,Ar,Al,At,Af,by simp,Bx⟩
  ·try (refine⟨J,?_⟩)
   exact D _ _ _ ⟨N-1,J,3,st+1,rfl,J,Ai,Ae,Ar,Al,At,Af,by simp,Bx⟩
  ·try (refine⟨J,?_⟩)
   exact D _ _ _ ⟨N-1,J,4,st+1,rfl,J,Ai,Ae,Ar,Al,At,Af,by simp,Bx⟩
  ·try (refine⟨J,?_⟩)
   exact D _ _ _ ⟨N-1,J,5,st+1,rfl,J,Ai,Ae,Ar,Al,At,Af,by simp,Bx⟩
  ·try (refine⟨J,?_⟩)
   exact D _ _ _ ⟨N-1,J,6,st+1,rfl,J,Ai,Ae,Ar,Al,At,Af,by simp,Bx⟩
  ·try (refine⟨J,?_⟩)
   exact D _ _ _ ⟨N-1,J,7,st+1,rfl,J,Ai,Ae,Ar,Al,At,Af,by simp,Bx⟩
  ·try (refine⟨J,?_⟩)
   exact D _ _ _ ⟨N-1,J,8,st+1,rfl,J,Ai,Ae,Ar,Al,At,Af,by simp,Bx⟩
  ·try (refine⟨J,?_⟩)
   exact D _ _ _ ⟨N-1,J,9,st+1,rfl,J,Ai,Ae,Ar,Al,At,Af,by simp,Bx⟩
  ·try (refine⟨J,?_⟩)
   exact D _ _ _ ⟨N-1,J,10,st+1,rfl,J,Ai,Ae,Ar,Al,At,Af,by simp,Bx⟩
  ·try (refine⟨J,?_⟩)
   exact D _ _ _ ⟨N-1,J,11,st+1,rfl,J,Ai,Ae,Ar,Al,At,Af,by simp,Bx⟩
 ·have hi:i=11:=J
  subst hi;have q0:(Ud d a b n w deep R 11 st)[9]?=some (.cells (Sy 5 d a b n ⟨w.buf,w.at_,ig n.size⟩ R) st):=by simp[Ud,Sy,L,Q,X]
  have e0:Of (Ud d a b n w deep R 11 st) 5 [] deep:=⟨0,.nilSl,rfl,Pl.nil⟩;have z0:(Ud d a b n w deep R 11 st)[6]?=some (.cells [.ptr 9 0] 1):=rfl;have n0:(Ud d a b n w deep R 11 st)[3]?=some (.cells [.i n.buf,.i n.at_,.i n.size] 0):=rfl;generalize Ud d a b n w deep R 11 st=G0 at *;generalize ht:(⟨w.buf,w.at_,ig n.size⟩:Pc)=t at *;have I:-1000000≤t.at_∧t.at_≤1000000:=by rw[←ht];exact hw
  have U:0≤n.size∧n.size≤1000000:=J
  have p0:=q0;unfold Sy at p0;simp[E,z,A,C,g,j,H,z0,p0];refine z78 e0 (by simp) λG1 h1 Y=>?_
  have z1:=Y.cells Ad z0;have n1:=Y.cells Ad n0;have q1:=Y.cells Ad q0;have p1:=Y.cells Ad p0;simp[E,z,A,C,z1,p1,n1];refine Yy (p:=n) J h1 (by simp) λG2 h2 k2=>?_
  have z2:=k2.cells Ad z1;have q2:=k2.cells Ad q1;have p2:=k2.cells Ad p1;simp[E,z,A,C,z2,p2];refine zwj J h2 (by simp) λG3 h3 k3=>?_
  have z3:=k3.cells Ad z2;have q3:=k3.cells Ad q2;have p3:=k3.cells Ad p2;simp[E,z,A,C,z3,p3];have gA:(Td (R+10) (R+1)).length≤100:=by rw[Td];simp[Z9,zj4]
  refine dw (p:=t) J I h3 Ab λG4 h4 k4=>?_
  have z4:=k4.cells Ad z3;have q4:=k4.cells Ad q3;have p4:=k4.cells Ad p3;have gC:(W5 t R deep).flat.length≤100:=by unfold W5;rw[Y2];split<;>simp[flat_frL]
  simp[E,z,A,C,z4,p4];have gD:(R4 a b t n.size R (deep+1) deep).flat.length≤100:=by
   unfold R4;rw[Si,Si,flat_frL,Y2];split<;>simp[flat_frL,Th,Ni,Ob]
  have gE:(Sl n t n.size R (deep+1)).flat.length≤100:=by
   unfold Sl;rw[Si,Si,flat_frL,Y2];split<;>simp[flat_frL,Tt,Ni,Ob]
  refine ct (fst:=[]) (cap:=[.ptr 6 0]) (B:=(R4 a b t n.size R (deep+1) deep).cat (Sl n t n.size R (deep+1))) J h4 Ab (by rw[Si];simp;omega) (λG5 gz K' h5 V l5 hk=>?_) λG5 h5 V=>?_
  ·exact Z3 (deep:=deep+1) J ha hb M I U (V.cells Ad z4) Ad (V.cells Ad q4) Ad h5 (by simp at l5;omega) hk
  have z5:=V.cells Ad z4;have q5:=V.cells Ad q4;have gF:(P4 deep n.size ((R4 a b t n.size R (deep+1) deep).cat (Sl n t n.size R (deep+1)))).flat.length≤300:=by
   rw[Y2];split
   ·simp
   ·rw[Si];simp;omega
  simp[E,z,A,C,z5];refine cm J gg M I U q5 Ad h5 Ab λG6 h6 k6=>?_
  have z6:=k6.cells Ad z5;have q6:=k6.cells Ad q5;unfold Sy at q6;have hC:x4 d a b n w deep R=[cK R 0,Nb (R+10) n (-1) 0]++Td (R+10) (R+1)++((W5 t R deep).flat++((P4 deep n.size ((R4 a b t n.size R (deep+1) deep).cat (Sl n t n.size R (deep+1)))).flat++(V2 d n t n.size R deep).flat)):=by
   unfold x4;rw[Hv (by simp[et,L,Q,X,T];omega),ht];unfold Xw;rw[Si,Si,Si,flat_frL]
  obtain⟨gG,v,e1,e2⟩:=h6;simp[-Nh,E,z,A,C,z6,q6,e1];rw[hC];simpa using cr e2.bor
end
def zbl{g:List Pc}{z:Pc}(h:U2 vX X g vA z=true){i:Nat}(hi:i<vX.length):i<g.length∧0≤(Rr g i).at_∧(Rr g i).at_≤65536∧1≤(Rr g i).size∧(Rr g i).size≤32768:=by
 simp only[U2,Hq,Hz]at h;obtain⟨_,_,G,A,B,_⟩:=h;have j:=Jh.1 B i (J0.2 hi);simp only[aw,Hq]at j;obtain⟨n,_,C,D,E,F,H,I⟩:=z5n j.1;have:=zbh A _ (Ia (Rg C));exact⟨J,F,J,D,E⟩
def Zr{o:Ko}{D:List Pc}{g:Pc}(h:U2 vX X D vA g=true):0≤(Yv vX o vA g).at_∧(Yv vX o vA g).at_≤65536:=by
 simp only[U2,Hq,Hz]at h;obtain⟨_,_,_,A,_,B,C⟩:=h;simp only[Vm,Hq]at B C;unfold Yv;split
 ·obtain⟨n,_,j,E,F,z,G,H⟩:=z5n B.1;have:=zbh A _ (Ia (Rg j));exact⟨z,J⟩
 ·obtain⟨n,_,j,E,F,z,G,H⟩:=z5n C.1;have:=zbh A _ (Ia (Rg j));exact⟨z,J⟩
def zyz(j:List Vr)(o:Ko)(B:List Bf)(g:List Pc)(z A:Pc)(deep:Int):List Lo :=
 if bt j o B g z A deep (M4 j o)=true then x4 (Rr g o.d.toNat) (Rr g o.a.toNat) (Rr g o.b.toNat) (Rr g o.c.toNat) (Yv j o z A) deep (zsw j o) else []
def W7(g:List Vr)(o:Ko)(j:List Bf)(z:List Pc)(A B:Pc)(deep:Int):Int:=if bt g o j z A B deep (M4 g o)=true then 0 else 2
def zdy(g:List Vr)(o:Ko)(C:List Bf)(j:List Pc)(A B:Pc)(deep:Int)(hv:g.length≤1000000)(P:C.length≤9223372036854775807) :
  Od 18 [.lst (Nd g) g.length 3,.agg o.f,.agg (Pk C j A B),.i deep] (.tup [.lst (P1 (zyz g o C j A B deep)) (zyz g o C j A B deep).length 8,.i (W7 g o C j A B deep)]):=by
 refine Ra.mk (by simp[dats,LV.dat,Sz]) (Mz r_montgomery_Code Aa N ?_);have D:o.f=[.i o.kind,.i o.d,.i o.e,.i o.a,.i o.b,.i o.c,.u o.imm]:=rfl;have z:Pk C j A B=[.lst (O8 C) C.length 3,.lst (Vk j) j.length 3,.i A.buf,.i A.at_,.i A.size,.i B.buf,.i B.at_,.i B.size]:=rfl;simp[z8h,z,D];rw[←D];refine M2 (z7s g o hv) (bors_self _ (by simp[dats,LV.dat,Qo,D])) ?_;simp[z,D];rw[←D,←z];refine M2 (zhq g o C j A B deep (M4 g o) hv P) (bors_self _ (by simp[dats,LV.dat,Qo,zbk,D])) ?_;unfold zyz W7;cases Q:bt g o C j A B deep (M4 g o) with
 |false =>
  simp[P1]
 |true =>
 have E:=Q;simp only[bt,Hq,Hz]at E;obtain⟨F,hw,T,U,V⟩:=E;have hm:o.kind=12∧Sk g o=true:=by
  unfold M4 at hw;split at hw
  ·rename_i h;simpa using h
  ·omega
 obtain⟨X,G,_⟩:=zop (s:=29) hm.2 (by simp[O0,hm.1]);obtain⟨d,Y,hd⟩:∃d:Nat,o.d=d∧d<g.length:=by
  have h:=zss G Ad;obtain⟨d,e⟩:=Hr h.1;exact⟨d,e,J⟩
 obtain⟨a,Z,ha⟩:∃d:Nat,o.a=d∧d<g.length:=by
  have h:=zr9 G Ad;obtain⟨d,e⟩:=Hr h.1;exact⟨d,e,J⟩
 obtain⟨b,eb,H⟩:∃d:Nat,o.b=d∧d<g.length:=by
  have h:=zr6 G Ad;obtain⟨d,e⟩:=Hr h.1;exact⟨d,e,J⟩
 obtain⟨c,ec,hc⟩:∃d:Nat,o.c=d∧d<g.length:=by
  have h:=zmc G Ad;obtain⟨d,e⟩:=Hr h.1;exact⟨d,e,J⟩
 obtain⟨I,d1,d2,d3,d4⟩:=zbl F hd;obtain⟨K,a1,a2,a3,a4⟩:=zbl F ha;obtain⟨L,b1,b2,b3,b4⟩:=zbl F H;obtain⟨M,c1,c2,c3,c4⟩:=zbl F hc;obtain⟨gg,gz⟩:=Zr (o:=o) F;simp[z,D];rw[←D,←z];refine M2 (zc7 g o C j A B) (bors_self _ (by simp[dats,LV.dat,Qo,zbk,D])) ?_;have td:=zds (zpp I);have ta:=zds (zpp K);have tb:=zds (zpp L);have tc:=zds (zpp M);have qd:=Vw I;have qa:=Vw K;have qb:=Vw L;have qc:=Vw M;have O:=ze1 (d:=Rr j d) (a:=Rr j a) (b:=Rr j b) (n:=Rr j c) (w:=Yv g o A B) (deep:=deep) (R:=zsw g o) J J J J J J;simp[z,D,Pc.f,Y,Z,eb,ec,I,K,L,M,td,ta,tb,tc,qd,qa,qb,qc];simp only[Pc.f]at O;refine Q5 O B1 ?_;simp;exact Sz _
section
structure RxC (sf:Nat→Nat) (d n r:Pc) (k R:Int) (G:Mp):Prop where
 d:G[0]?=some (.cells d.f (sf 0))
 n:G[1]?=some (.cells n.f (sf 1))
 k:G[3]?=some (.cells [.i k] (sf 3))
 x:G[5]?=some (.cells [.ptr 4 0] (sf 5))
 r:G[8]?=some (.cells r.f (sf 8))
 z:G[9]?=some (.cells [.i R] (sf 9))
 b:G[10]?=some (.cells [.i (R+1)] (sf 10))
 l:G[11]?=some (.cells [.i (R+2)] (sf 11))
 o:G[12]?=some (.cells [.i (R+3)] (sf 12))
 s:G[13]?=some (.cells [.i (R+4)] (sf 13))
 c:G[14]?=some (.cells [.i (R+5)] (sf 14))
 m:G[15]?=some (.cells [.i (R+6)] (sf 15))
 t:G[16]?=some (.cells [.fn (.func 102) [] [.ptr 5 0,.ptr 14 0,.ptr 3 0,.ptr 11 0,.ptr 8 0,.ptr 13 0,.ptr 1 0,.ptr 9 0]] (sf 16))
section rx
variable {sf : Nat → Nat} {d n r : Pc} {k R deep : Int} {G G' : Mp} {K : LV → Mp → Prop} {ops : List Lo}
structure RxN (d n r:Pc) (k R deep:Int):Prop where
 d:-1000000≤d.at_∧d.at_≤1000000
 n:-1000000≤n.at_∧n.at_≤1000000
 r:-1000000≤r.at_∧r.at_≤1000000
 k:1≤k∧k≤1000000
 D:0≤deep∧deep≤50
end rx
end
section
structure PwN (p:Pw):Prop where
 nk:p.n.k=p.k
 dk:p.d.k=p.k
 ak:p.a.k=p.k
 k:1≤p.k∧p.k≤512
 d:p.d.a≤1000000
 a:p.a.a≤1000000
 b:p.b.a≤1000000∧1≤p.b.k∧p.b.k≤512
 n:p.n.a≤1000000
 w:1≤p.w∧p.w≤6
 B:16≤p.B∧p.B≤40
 wa:p.wa≤100000
 ov:p.over≤63
 ti:p.times≤100000
def zld{d t:Int}{b:Fr Lo}{m:Nat}(h:b.flat.length≤m):(P4 d t b).flat.length≤m+2:=by
 rw[Y2];split
 ·simp
 ·simp;omega
def ft{d a b n t:Pc}{k:Int}:(Xw d a b n t k z C).flat.length≤200:=by
 have j:=zld (d:=C+1) (t:=k) (b:=Nu (Th a t z (C+1))) (m:=8) (by simp[flat_frL,Th,Ni]);have A:=zld (d:=C+1) (t:=k-1) (b:=Nu (Tt n t z (C+1))) (m:=8) (by simp[flat_frL,Tt,Ni]);have B:=zld (d:=C) (t:=k) (b:=(R4 a b t k z (C+1) C).cat (Sl n t k z (C+1))) (m:=60) (by
  unfold R4 Sl;simp only[Si,flat_frL,Ni,Ob,H4,Ig,Jo];omega)
 have D:=zld (d:=C) (t:=t.size) (b:=Nu [N7 t C 0 z]) (m:=1) (by simp[flat_frL]);have E:=zld (d:=C) (t:=k) (b:=Nu (T1 n t z C++[])) (m:=3) (by simp[flat_frL,T1]);have F:=zld (d:=C) (t:=k) (b:=Nu (T1 n t z C++[Pg (z+6) (z+10) (z+7) (z+6),N7 d C 0 (z+6)])) (m:=5) (by simp[flat_frL,T1]);have g:=zp3 (z+10) (z+1);unfold Xw V2 Uc W5;simp only[Si,flat_frL,H4,Ig,Jo,g];omega
section put
variable {G : Mp} {K : LV → Mp → Prop} {e P st : Nat} {ops : List Lo} {deep : Int} {p : Pw}
end put
end
section
section put
variable {G : Mp} {K : LV → Mp → Prop} {e P st : Nat} {ops : List Lo} {deep : Int} {p : Pw}
end put
end
section
section next
variable {G : Mp} {K : LV → Mp → Prop}
structure CdH (L0 L1 L2 L3 L4:List LV) (PC:List LV) (s5:Nat) (x:Int) (s6:Nat) (G:Mp):Prop where
 g0:G[0]?=some (.cells L0 0)
 g1:G[1]?=some (.cells L1 0)
 g2:G[2]?=some (.cells L2 1)
 g3:G[3]?=some (.cells L3 1)
 g4:G[4]?=some (.cells L4 0)
 g5:G[5]?=some (.cells PC s5)
 g6:G[6]?=some (.cells [.i x] s6)
end next
end
def z60:LC:=(.q [.z 4 (.move (.c (.u 0)))] (.seq (.q [.m 5 1,.b 6 .geq 3 5 0,.m 7 6,.my 8 7 1,.my 9 7 0,.y 10 7 (.lenSl (.t 9)),.y 11 7 (.bin .lss false 3 (.t 8) (.t 10)),.q 12 7 11] (.cond (.t 12) (.q [.m 13 0,.m 14 1,.I 15 1 13 14,.l 16 15,.m 4 16] .ret) .skip)) (.q [.z 4 (.move (.c (.u 0)))] .ret)))
def r_ref02_limb:My Tryz.prog 130=some ⟨17,z60.r,[.tmp 4]⟩:=Aa
def zfy:LC:=(.q [.e 2] (.q [.m 4 0,.s 5 4,.m 3 5] (.seq (.block 0 (.loop (.seq (.q [.m 6 3,.b 7 .gtr 3 6 0,.m 8 7,.my 9 8 0,.my 10 8 3,.y 11 8 (.bin .sub true 3 (.t 10) (.k 1)),.y 12 8 (.ixAddr 1 (.t 9) (.t 11)),.yl 13 8 12,.y 14 8 (.bin .eql true 23 (.t 13) (.c (.u 0))),.q 15 8 14] (.cond (.t 15) .skip (.exit 0))) (.block 1 (.ops [.m 16 3,.b 17 .sub 3 16 1,.m 3 17]))))) (.q [.z 18 (.buildSl 1 0 [] []),.m 19 0,.m 20 3,.z 21 (.slSl 1 (.t 19) none (some (.t 20))),.a 22 1 18 21,.m 2 22] .ret))))
def r_ref02_Trim:My Tryz.prog 84=some ⟨23,zfy.r,[.tmp 2]⟩:=Aa
def zcy:LC:=(.q [.z 6 (.move (.c (.u 0))),.F 7] (.q [.m 10 0,.m 11 1,.c 12 .add 23 10 11,.m 8 12] (.q [.m 13 8,.m 14 0,.c 15 .lss 23 13 14,.m 9 15] (.seq (.q [.m 16 2] (.cond (.t 16) (.q [.m 17 8,.u 18 .add 23 17 1,.m 8 18] (.ops [.m 19 9,.m 20 19,.mn 21 20 8,.n 22 20 (.bin .eql true 23 (.t 21) (.c (.u 0))),.p 23 20 22,.m 9 23])) .skip)) (.q [.m 24 8,.m 25 9,.m 6 24,.m 7 25] .ret)))))
def r_ref01_Add:My Tryz.prog 92=some ⟨26,zcy.r,[.tmp 6,.tmp 7]⟩:=Aa
def zs(a:List UInt64)(i:Int):Mu 130 [LU a,.i i] (.u (if 0≤i then a.getD i.toNat 0 else 0)) []:=by
 refine Ng.val rfl (Mz r_ref02_limb Aa N ?_);by_cases g:0≤i<;>by_cases j:i<a.length
 ·have z:i.toNat<a.length:=J
  simp[z60,g,j,z]
 ·have z:a[i.toNat]?=none:=Ab
  simp[z60,g,j,z]
 ·simp[z60,g,j]
 ·simp[z60,g,j]
def W8(a:List UInt64)(L:a.length≤1048576):Mu 84 [LU a] (.dy 0 0) [RU (M5 (val a))]:=by
 refine Ng.row (Mz r_ref02_Trim Aa (by simp) ?_);simp[zfy];refine qp (λG I K z=>I=[]∧K=[]∧z≤a.length∧lk G 0=LU a∧lk G 3=.i z∧val (a.take z)=val a) (N:=a.length) (by simp) ?_;rintro z G I K ⟨rfl,rfl,M,C,D,F⟩;simp at C;have A:(z=0∨a.getD (z-1) 0≠0)→M5 (val a)=a.take z:=by
  intro h;rw[←F];refine toL_val ?_;rcases h with rfl|h
  ·exact .inl (by simp)
  ·by_cases E:z=0
   ·subst E;exact .inl (by simp)
   ·have:z=(z-1)+1:=J
    rw[this,zce J];exact f5 h
 by_cases E:z=0
 ·subst E;have B:=A (.inl rfl);simp at D B;simp[C,D,B,Qd];exact⟨0,1,⟨rfl,rfl⟩,by simp⟩
 ·obtain⟨n,rfl⟩:∃n,z=n+1:=⟨z-1,J⟩;have g:n<a.length:=J
  have H:((n:Int)+1-1).toNat=n:=J
  simp[C,D,g,H];refine⟨J,λj=>⟨J,n,J,J,rfl,?_⟩,λj=>⟨J,J,J,?_⟩⟩
  ·rw[←F,z94 g];simp[g,j]
  ·have B:=A (.inr (by simpa [g] using j));refine .inr ⟨0,1,1,rfl,?_⟩;rw[B];simp[Lf];omega
def zom(a b:UInt64):(a≤a+b→decide (a+b+1=0)=(M1 a b true).2)∧(a+b<a→true=(M1 a b true).2):=by
 unfold M1;refine⟨λh=>?_,λh=>?_⟩
 ·have g:¬a+b<a:=Mn.2 h;simp[g]
 ·simp[h]
def z4q(a b:UInt64)(c:Bool):Mu 92 [.u a,.u b,.bool c] (.tup [.u (M1 a b c).1,.bool (M1 a b c).2]) []:=by
 refine Ng.val rfl (Mz r_ref01_Add Aa N ?_);cases c
 ·simp[zcy];simp[M1,T5]
 ·simp[zcy];simp only[T5];exact⟨λh=>⟨rfl,((zom a b).2 h).symm⟩,λh=>⟨rfl,(zom a b).1 h⟩⟩
def zjp:LC:=(.q [.e 4] (.q [.e 5] (.q [.F 6] (.seq (.q [.K 7 0] (.block 0 (.loop (.seq (.q [.m 9 7,.m 10 0,.s 11 10,.m 12 1,.s 13 12,.z 14 (.maxi true (.t 11) (.t 13)),.c 15 .leq 3 9 14] (.cond (.t 15) .skip (.exit 0))) (.seq (.block 1 (.q [.z 8 (.move (.c (.u 0)))] (.q [.m 19 0,.m 20 7,.W 21 130 19 20,.m 22 1,.m 23 7,.W 24 130 22 23,.m 25 6,.V 26 92 21 24 25,.m 18 26,.X 27 0 18,.X 28 1 18,.m 8 27,.m 6 28] (.ops [.m 29 5,.m 30 8,.z 31 (.buildSl 1 1 [(.u 0)] [(0,1,.t 30)]),.a 32 1 29 31,.m 5 32])))) (.ops [.m 16 7,.b 17 .add 3 16 1,.m 7 17])))))) (.q [.m 33 5,.w 34 84 33,.m 4 34] .ret)))))
def r_ref02_Add:My Tryz.prog 81=some ⟨35,zjp.r,[.tmp 4]⟩:=Aa
def zam(a b:List UInt64)(P:a.length≤1000000)(Q:b.length≤1000000):Mu 81 [LU a,LU b] (.dy 0 0) [RU (M5 (val a+val b))]:=by
 refine Ng.row (Mz r_ref02_Add Aa (by simp) ?_);simp[zjp];refine Oc (λF M O H=>∃(i:Nat) (c:Bool) (g:List UInt64),M=[]∧H+i=max a.length b.length+1∧lk F 0=LU a∧lk F 1=LU b∧lk F 7=.i i∧lk F 6=.bool c∧Qd O (lk F 5) g∧g.length=i ∧
  val g+2^(64*i)*c.toNat=val (a.take i)+val (b.take i)) (N:=max a.length b.length+1) ⟨0,false,[],by simp[Qd,val]⟩ ?_
 rintro H F M O ⟨i,c,g,rfl,R,B,z,A,I,G,j,hv⟩ T C;by_cases K:H=0
 ·subst K;have D:¬(i:Int)≤max (a.length:Int) (b.length:Int):=J
  simp[B,z,A,D];rw[z4o J,z4o J]at hv;refine z8z (W8 g J) (zw4 G.bor) ?_;rw[uo (m:=i-1) J J J hv];simpa using Qd.new
 ·have E:(i:Int)≤max (a.length:Int) (b.length:Int):=J
  simp[B,z,A,E];refine M2 (zs a i) (by simp) ?_;simp[z,A];refine M2 (zs b i) (by simp) ?_;simp[I];refine M2 (z4q (a.getD i 0) (b.getD i 0) c) (by simp) ?_;simp;refine ztn (G.app _) (xs:=[(M1 (a.getD i 0) (b.getD i 0) c).1]) rfl (by simp) J (λU V L _=>?_);simp[A];refine⟨J,C _ _ _ ⟨H-1,J,i+1,(M1 (a.getD i 0) (b.getD i 0) c).2,_,rfl,J,Ao,Ae,by simp,by simp,by simpa using L,Af,im j hv⟩⟩
def z5g:LC:=(.q [.F 4] (.seq (.q [.m 6 0,.s 7 6,.m 8 1,.s 9 8,.c 10 .neq 3 7 9] (.cond (.t 10) (.q [.F 4] .ret) .skip)) (.seq (.q [.K 5 0] (.block 0 (.loop (.seq (.q [.m 11 5,.m 12 0,.s 13 12,.c 14 .lss 3 11 13] (.cond (.t 14) .skip (.exit 0))) (.seq (.block 1 (.seq (.draw [(.m 17 0,[]),(.m 18 5,[]),(.I 19 1 17 18,[]),(.l 20 19,[]),(.m 21 1,[]),(.m 22 5,[]),(.I 23 1 21 22,[]),(.l 24 23,[]),(.c 25 .neq 23 20 24,[])]) (.cond (.t 25) (.q [.F 4] .ret) .skip))) (.ops [.m 15 5,.b 16 .add 3 15 1,.m 5 16])))))) (.q [.z 4 (.move .T)] .ret))))
def r_kit_Same_uint64:My Tryz.prog 53=some ⟨26,z5g.r,[.tmp 4]⟩:=Aa

def zse(a b:List UInt64)(I:a.length≤1000000000):Mu 53 [LU a,LU b] (.bool (decide (a=b))) []:=by
 refine Ng.val rfl (Mz r_kit_Same_uint64 Aa (by simp) ?_);by_cases g:a.length=b.length
 ·simp[z5g,g];refine Oc (λG H K N=>∃i:Nat,H=[]∧N+i=a.length∧lk G 0=LU a∧lk G 1=LU b∧lk G 5=.i i∧a.take i=b.take i) (N:=a.length) ⟨0,At⟩ ?_;rintro N G H K ⟨i,rfl,L,A,C,D,F⟩ M E;by_cases O:N=0
  ·have hi:i=a.length:=J
   subst hi;have e:a=b:=by rwa [Ki,g,Ki]at F
   subst e;simp[A,D]
  ·have hi:i<a.length:=J
   have j:i<b.length:=J
   by_cases B:a[i]=b[i]
   ·simp[A,C,D,hi,j,B];refine⟨J,E _ _ _ ⟨N-1,J,i+1,rfl,J,Ar,Al,by simp,?_⟩⟩;rw[I0 hi,I0 j,F,B]
   ·have e:a≠b:=λe=>B (by subst e;rfl)
    simp[A,C,D,hi,j,B,e]
 ·have e:a≠b:=λe=>g Dp
  have z:¬(a.length:Int)=b.length:=J
  simp[z5g,g,z,e]
def zda:LC:=(.q [.z 6 (.move (.c (.u 0))),.F 7] (.q [.m 10 0,.m 11 1,.c 12 .sub 23 10 11,.m 8 12] (.q [.m 13 0,.m 14 1,.c 15 .lss 23 13 14,.m 9 15] (.seq (.q [.m 16 2] (.cond (.t 16) (.q [.m 17 9,.m 18 17,.mn 19 18 8,.n 20 18 (.bin .eql true 23 (.t 19) (.c (.u 0))),.p 21 18 20,.m 9 21] (.ops [.m 22 8,.u 23 .sub 23 22 1,.m 8 23])) .skip)) (.q [.m 24 8,.m 25 9,.m 6 24,.m 7 25] .ret)))))
def r_ref01_Sub:My Tryz.prog 147=some ⟨26,zda.r,[.tmp 6,.tmp 7]⟩:=Aa
def zi2:LC:=(.q [.z 4 (.move (.c (.u 0))),.z 5 (.move (.c (.u 0)))] (.q [.m 12 0,.u 13 .shr 23 12 32,.m 14 0,.u 15 .and 23 14 4294967295,.m 6 13,.m 7 15] (.q [.m 16 1,.u 17 .shr 23 16 32,.m 18 1,.u 19 .and 23 18 4294967295,.m 8 17,.m 9 19] (.q [.m 20 6,.m 21 9,.c 22 .mul 23 20 21,.m 23 7,.m 24 9,.c 25 .mul 23 23 24,.u 26 .shr 23 25 32,.c 27 .add 23 22 26,.m 10 27] (.q [.m 28 7,.m 29 8,.c 30 .mul 23 28 29,.m 31 10,.u 32 .and 23 31 4294967295,.c 33 .add 23 30 32,.m 11 33] (.q [.m 34 6,.m 35 8,.c 36 .mul 23 34 35,.m 37 10,.u 38 .shr 23 37 32,.c 39 .add 23 36 38,.m 40 11,.u 41 .shr 23 40 32,.c 42 .add 23 39 41,.m 43 0,.m 44 1,.c 45 .mul 23 43 44,.m 4 42,.m 5 45] .ret))))))
def r_ref01_Mul:My Tryz.prog 91=some ⟨46,zi2.r,[.tmp 4,.tmp 5]⟩:=Aa
def zfl:LC:=(.q [.K 2 0] (.q [.K 3 0] (.seq (.block 0 (.loop (.seq (.q [.m 4 0,.u 5 .gtr 23 4 0] (.cond (.t 5) .skip (.exit 0))) (.seq (.block 1 (.ops [.m 8 3,.b 9 .add 3 8 1,.m 3 9])) (.ops [.m 6 0,.u 7 .shr 23 6 1,.m 0 7]))))) (.q [.m 10 3,.m 2 10] .ret))))
def r_ref01_Bits:My Tryz.prog 146=some ⟨11,zfl.r,[.tmp 2]⟩:=Aa
def zo3(a b:UInt64):(b≤a→decide (a-b=0)=(Og a b true).2)∧(a<b→true=(Og a b true).2):=by
 unfold Og;refine⟨λh=>?_,λh=>?_⟩
 ·have g:¬a<b:=Mn.2 h;simp[g]
 ·simp[h]
def zfp(a b:UInt64)(c:Bool):Mu 147 [.u a,.u b,.bool c] (.tup [.u (Og a b c).1,.bool (Og a b c).2]) []:=by
 refine Ng.val rfl (Mz r_ref01_Sub Aa N ?_);cases c
 ·simp[zda];simp[Og,Xg]
 ·simp[zda];simp only[Xg];exact⟨λh=>⟨rfl,((zo3 a b).2 h).symm⟩,λh=>⟨rfl,(zo3 a b).1 h⟩⟩
def zfi(a b:UInt64):Mu 91 [.u a,.u b] (.tup [.u (Ss a b),.u (a*b)]) []:=by
 refine Ng.val rfl (Mz r_ref01_Mul Aa N ?_);simp[zi2];exact⟨mul_hi a b,zhb a b⟩
def zn8(a:UInt64):Mu 146 [.u a] (.i (O9 a.toNat)) []:=by
 refine Ng.val rfl (Mz r_ref01_Bits Aa (by simp) ?_);simp[zfl];refine Oc (λD H K I=>∃(x:UInt64) (i:Nat),H=[]∧I=O9 x.toNat∧lk D 0=.u x∧lk D 3=.i i∧i+O9 x.toNat=O9 a.toNat) (N:=O9 a.toNat) ⟨a,0,by simp⟩ ?_;rintro I D H K ⟨x,i,rfl,rfl,j,z,A⟩ L g;have E:O9 a.toNat≤64:=zsx a.toNat_lt;by_cases B:x=0
 ·subst B;simp[blen_zero]at A;simp[j,z,A]
 ·have F:x.toNat≠0:=λe=>B ((zbm x).2 e)
  have G:(0:UInt64)<x:=by rw[I6];simp;omega
  have M:=zox F;have C:(P8 x 1).toNat=x.toNat/2:=by rw[Yc]
  simp[j,z,G];refine⟨J,g _ _ _ ⟨O9 (x.toNat/2),J,P8 x 1,i+1,rfl,by rw[C],by simp,by simp,by rw[C];omega⟩⟩
def z4z:LC:=(.q [.x 1 0,.e 2] (.seq (.block 0 (.q [.f 4 0 1,.l 5 4,.b 6 .eql 3 5 2,.m 7 6,.nf 8 7 0 1,.nl 9 7 8,.nb 10 7 .eql 3 9 8,.p 11 7 10,.m 12 11,.nf 13 12 0 1,.nl 14 12 13,.nb 15 12 .eql 3 14 9,.p 16 12 15,.m 3 16] (.cond (.t 3) (.q [.f 17 3 1,.l 18 17,.z 19 (.buildSl 1 1 [(.i 0)] [(0,1,.t 18)]),.m 2 19] .ret) (.q [.f 21 0 1,.l 22 21,.b 23 .geq 3 22 3,.m 24 23,.yf 25 24 0 1,.yl 26 24 25,.y 27 24 (.bin .leq true 3 (.t 26) (.k 7)),.q 28 24 27,.m 29 28,.nf 30 29 0 1,.nl 31 29 30,.nb 32 29 .eql 3 31 10,.p 33 29 32,.m 20 33] (.cond (.t 20) (.q [.f 34 3 1,.l 35 34,.f 36 4 1,.l 37 36,.z 38 (.buildSl 1 2 [(.i 0),(.i 0)] [(0,1,.t 35),(1,1,.t 37)]),.m 2 38] .ret) (.q [.f 40 0 1,.l 41 40,.b 42 .eql 3 41 11,.m 43 42,.nf 44 43 0 1,.nl 45 43 44,.nb 46 43 .eql 3 45 12,.p 47 43 46,.m 48 47,.nf 49 48 0 1,.nl 50 48 49,.nb 51 48 .eql 3 50 13,.p 52 48 51,.m 39 52] (.cond (.t 39) (.q [.f 53 3 1,.l 54 53,.f 55 4 1,.l 56 55,.f 57 5 1,.l 58 57,.z 59 (.buildSl 1 3 [(.i 0),(.i 0),(.i 0)] [(0,1,.t 54),(1,1,.t 56),(2,1,.t 58)]),.m 2 59] .ret) (.q [.f 61 0 1,.l 62 61,.b 63 .eql 3 62 14,.m 64 63,.yf 65 64 3 1,.yl 66 64 65,.y 67 64 (.bin .neq true 3 (.t 66) (.k (-1))),.q 68 64 67,.m 60 68] (.cond (.t 60) (.q [.f 69 3 1,.l 70 69,.z 71 (.buildSl 1 1 [(.i 0)] [(0,1,.t 70)]),.m 2 71] .ret) (.q [.f 73 0 1,.l 74 73,.b 75 .eql 3 74 15,.m 76 75,.yf 77 76 3 1,.yl 78 76 77,.y 79 76 (.bin .neq true 3 (.t 78) (.k (-1))),.q 80 76 79,.m 72 80] (.cond (.t 72) (.q [.f 81 3 1,.l 82 81,.f 83 4 1,.l 84 83,.z 85 (.buildSl 1 2 [(.i 0),(.i 0)] [(0,1,.t 82),(1,1,.t 84)]),.m 2 85] .ret) (.q [.f 87 0 1,.l 88 87,.b 89 .eql 3 88 15,.m 86 89] (.cond (.t 86) (.q [.f 90 4 1,.l 91 90,.z 92 (.buildSl 1 1 [(.i 0)] [(0,1,.t 91)]),.m 2 92] .ret) .skip))))))))))))) (.q [.e 2] .ret)))
def r_ref12_Takes:My Tryz.prog 143=some ⟨93,z4z.r,[.tmp 2]⟩:=Aa
def z34:LC:=(.q [.x 1 0,.e 2] (.seq (.block 0 (.q [.f 4 0 1,.l 5 4,.b 6 .eql 3 5 10,.m 7 6,.nf 8 7 0 1,.nl 9 7 8,.nb 10 7 .eql 3 9 11,.p 11 7 10,.m 12 11,.nf 13 12 0 1,.nl 14 12 13,.nb 15 12 .eql 3 14 12,.p 16 12 15,.m 3 16] (.cond (.t 3) (.q [.f 17 1 1,.l 18 17,.f 19 2 1,.l 20 19,.z 21 (.buildSl 1 2 [(.i 0),(.i 0)] [(0,1,.t 18),(1,1,.t 20)]),.m 2 21] .ret) (.q [.f 23 0 1,.l 24 23,.b 25 .eql 3 24 15,.m 26 25,.nf 27 26 0 1,.nl 28 26 27,.nb 29 26 .eql 3 28 17,.p 30 26 29,.m 22 30] (.cond (.t 22) (.q [.e 2] .ret) .skip))))) (.q [.f 31 1 1,.l 32 31,.z 33 (.buildSl 1 1 [(.i 0)] [(0,1,.t 32)]),.m 2 33] .ret)))
def r_ref12_Makes:My Tryz.prog 142=some ⟨34,z34.r,[.tmp 2]⟩:=Aa
def z99:LC:=(.q [.x 3 0,.F 6] (.seq (.q [.m 7 2,.z 8 (.un .not (.t 7))] (.cond (.t 8) (.q [.m 9 1,.b 10 .eql 3 9 (-1),.m 6 10] .ret) .skip)) (.q [.m 11 1,.b 12 .geq 3 11 0,.m 13 12,.my 14 13 1,.yf 15 13 0 3,.yl 16 13 15,.y 17 13 (.bin .lss false 3 (.t 14) (.t 16)),.q 18 13 17,.m 6 18] .ret)))
def r_ref12_field:My Tryz.prog 181=some ⟨19,z99.r,[.tmp 6]⟩:=Aa
def z4a:LC:=(.q [.x 2 0,.x 3 1,.F 4] (.q [.f 12 0 3,.l 13 12,.m 5 13] (.seq (.q [.m 14 5,.b 15 .lss 3 14 1,.m 16 15,.mn 17 16 5,.nb 18 16 .gtr 3 17 17,.p 19 16 18] (.cond (.t 19) (.q [.F 4] .ret) .skip)) (.q [.m 20 5,.b 21 .eql 3 20 14,.m 22 21,.mn 23 22 5,.nb 24 22 .eql 3 23 15,.p 25 22 24,.m 6 25] (.q [.m 26 5,.b 27 .neq 3 26 15,.m 28 27,.my 29 28 5,.y 30 28 (.bin .neq true 3 (.t 29) (.k 17)),.q 31 28 30,.m 7 31] (.q [.m 32 5,.b 33 .eql 3 32 10,.m 34 33,.mn 35 34 5,.nb 36 34 .eql 3 35 11,.p 37 34 36,.m 38 37,.mn 39 38 5,.nb 40 38 .eql 3 39 12,.p 41 38 40,.m 8 41] (.q [.m 42 5,.b 43 .neq 3 42 1,.m 44 43,.my 45 44 5,.y 46 44 (.bin .neq true 3 (.t 45) (.k 16)),.q 47 44 46,.m 48 47,.my 49 48 5,.y 50 48 (.bin .neq true 3 (.t 49) (.k 17)),.q 51 48 50,.m 9 51] (.q [.m 52 5,.b 53 .geq 3 52 3,.m 54 53,.my 55 54 5,.y 56 54 (.bin .leq true 3 (.t 55) (.k 7)),.q 57 54 56,.m 58 57,.mn 59 58 5,.nb 60 58 .geq 3 59 10,.mn 61 58 60,.my 62 61 5,.y 63 61 (.bin .leq true 3 (.t 62) (.k 13)),.n 64 58 (.pick (.t 61) (.t 63) .F),.p 65 58 64,.m 66 65,.mn 67 66 5,.nb 68 66 .eql 3 67 15,.p 69 66 68,.m 10 69] (.q [.m 70 5,.b 71 .geq 3 70 11,.m 72 71,.my 73 72 5,.y 74 72 (.bin .leq true 3 (.t 73) (.k 13)),.q 75 72 74,.m 11 75] (.seq (.q [.L 76 3 2,.f 77 1 3,.l 78 77,.m 79 7,.V 80 181 76 78 79,.z 81 (.un .not (.t 80)),.m 82 81,.n 83 82 (.loadN 3 (.t 2)),.nf 84 82 2 3,.nl 85 82 84,.mn 86 82 8,.n 87 82 (.w 181 [.t 83,.t 85,.t 86]),.n 88 82 (.un .not (.t 87)),.p 89 82 88,.m 90 89,.n 91 90 (.loadN 3 (.t 2)),.nf 92 90 3 3,.nl 93 90 92,.mn 94 90 9,.n 95 90 (.w 181 [.t 91,.t 93,.t 94]),.n 96 90 (.un .not (.t 95)),.mn 97 90 96,.my 98 97 6,.my 99 97 98,.yf 100 99 3 3,.yl 101 99 100,.y 102 99 (.bin .eql true 3 (.t 101) (.k (-1))),.y 103 97 (.pick (.t 99) (.t 102) .F),.y 104 97 (.un .not (.t 103)),.n 105 90 (.pick (.t 97) (.t 104) .F),.p 106 90 105,.m 107 106,.n 108 107 (.loadN 3 (.t 2)),.nf 109 107 4 3,.nl 110 107 109,.mn 111 107 10,.n 112 107 (.w 181 [.t 108,.t 110,.t 111]),.n 113 107 (.un .not (.t 112)),.p 114 107 113,.m 115 114,.n 116 115 (.loadN 3 (.t 2)),.nf 117 115 5 3,.nl 118 115 117,.mn 119 115 11,.n 120 115 (.w 181 [.t 116,.t 118,.t 119]),.n 121 115 (.un .not (.t 120)),.p 122 115 121,.m 123 122,.mn 124 123 8,.mn 125 123 124,.yf 126 125 1 3,.yl 127 125 126,.yf 128 125 2 3,.yl 129 125 128,.y 130 125 (.bin .eql false 3 (.t 127) (.t 129)),.n 131 123 (.pick (.t 125) (.t 130) .F),.p 132 123 131] (.cond (.t 132) (.q [.F 4] .ret) .skip)) (.seq (.block 0 (.q [.m 134 6,.m 133 134] (.cond (.t 133) (.seq (.q [.f 135 6 3,.l 136 135,.b 137 .lss 3 136 0,.m 138 137,.nf 139 138 6 3,.nl 140 138 139,.nf 141 138 1 2,.nl 142 138 141,.n 143 138 (.lenSl (.t 142)),.n 144 138 (.bin .geq false 3 (.t 140) (.t 143)),.p 145 138 144,.m 146 145,.mn 147 146 5,.nb 148 146 .eql 3 147 15,.mn 149 146 148,.yf 150 149 1 2,.yl 151 149 150,.yf 152 149 6 3,.yl 153 149 152,.y 154 149 (.ixAddr 3 (.t 151) (.t 153)),.yf 155 149 1 154,.yl 156 149 155,.y 157 149 (.bin .eql true 3 (.t 156) (.k 1)),.n 158 146 (.pick (.t 149) (.t 157) .F),.p 159 146 158] (.cond (.t 159) (.q [.F 4] .ret) .skip)) (.seq (.draw [(.f 160 3 3,[]),(.l 161 160,[]),(.b 162 .neq 3 161 (-1),[]),(.m 163 162,[]),(.nf 164 163 7 3,[]),(.nl 165 163 164,[]),(.nf 166 163 1 2,[]),(.nl 167 163 166,[]),(.nf 168 163 6 3,[]),(.nl 169 163 168,[]),(.n 170 163 (.ixAddr 3 (.t 167) (.t 169)),[]),(.nf 171 163 0 170,[]),(.nl 172 163 171,[]),(.n 173 163 (.cvInt .u64 (.t 172)),[]),(.n 174 163 (.bin .lss false 23 (.t 165) (.t 173)),[]),(.p 175 163 174,[]),(.m 4 175,[])]) .ret)) (.q [.f 177 6 3,.l 178 177,.b 179 .neq 3 178 0,.m 176 179] (.cond (.t 176) (.q [.F 4] .ret) (.q [.m 181 5,.b 182 .eql 3 181 1,.m 180 182] (.cond (.t 180) (.q [.z 4 (.move .T)] .ret) (.q [.m 184 5,.b 185 .eql 3 184 8,.m 186 185,.mn 187 186 5,.nb 188 186 .eql 3 187 9,.p 189 186 188,.m 183 189] (.cond (.t 183) (.q [.f 190 7 3,.l 191 190,.u 192 .geq 23 191 1,.m 193 192,.yf 194 193 7 3,.yl 195 193 194,.y 196 193 (.bin .leq true 23 (.t 195) (.c (.u 63))),.q 197 193 196,.m 4 197] .ret) (.q [.m 199 5,.b 200 .eql 3 199 16,.m 198 200] (.cond (.t 198) (.q [.f 201 7 3,.l 202 201,.u 203 .geq 23 202 1,.m 204 203,.yf 205 204 7 3,.yl 206 204 205,.y 207 204 (.bin .leq true 23 (.t 206) (.c (.u 1048576))),.q 208 204 207,.m 4 208] .ret) .skip))))))))))) (.q [.f 209 7 3,.l 210 209,.u 211 .eql 23 210 0,.m 4 211] .ret))))))))))))
def r_ref12_fields:My Tryz.prog 141=some ⟨212,z4a.r,[.tmp 4]⟩:=Aa
def k_ref12_fields:z4a.ok=true:=Aa
def zls:LC:=(.q [.F 4] (.seq (.q [.K 5 0] (.block 0 (.loop (.seq (.q [.m 6 5,.m 7 0,.s 8 7,.c 9 .lss 3 6 8] (.cond (.t 9) .skip (.exit 0))) (.seq (.block 1 (.q [.m 12 0,.m 13 5,.I 14 1 12 13,.l 15 14,.m 16 1,.c 17 .eql 3 15 16] (.cond (.t 17) (.q [.z 4 (.move .T)] .ret) .skip))) (.ops [.m 10 5,.b 11 .add 3 10 1,.m 5 11])))))) (.q [.F 4] .ret)))
def r_ref12_in:My Tryz.prog 144=some ⟨18,zls.r,[.tmp 4]⟩:=Aa
def zjo:LC:=(.q [.z 2 (.move (.c (.u 0)))] (.seq (.q [.m 3 0] (.cond (.t 3) (.q [.z 2 (.move (.c (.u 1)))] .ret) .skip)) (.q [.z 2 (.move (.c (.u 0)))] .ret)))
def r_ref12_bit:My Tryz.prog 149=some ⟨4,zjo.r,[.tmp 2]⟩:=Aa
def zf5(k:Int):k<1∨k=1∨k=2∨k=3∨k=4∨k=5∨k=6∨k=7∨k=8∨k=9∨k=10∨k=11∨k=12∨k=13∨k=14∨k=15∨k=16∨k=17∨17<k:=J
def W6(l:List Int):dats (l.map .i)=true:=nz (λ_=>rfl) l
def zcm(o:Lo):Od 143 [.agg o.f] (.lst ((N1 o).map .i) (N1 o).length 1):=by
 refine Ra.mk Fb (Mz r_ref12_Takes Aa N ?_);have D:o.f=[.i o.kind,.i o.d,.i o.e,.i o.a,.i o.b,.i o.c,.i o.buf,.u o.imm]:=rfl;rcases zf5 o.kind with h|h|h|h|h|h|h|h|h|h|h|h|h|h|h|h|h|h|h
 case inr.inr.inr.inr.inr.inr.inr.inr.inr.inr.inr.inr.inr.inr.inl|inr.inr.inr.inr.inr.inr.inr.inr.inr.inr.inr.inr.inr.inr.inr.inl =>
  by_cases H:o.a=-1<;>simp[z4z,D,N1,h,H,Nh,bor,LV.dat,dats]
 case inl|inr.inr.inr.inr.inr.inr.inr.inr.inr.inr.inr.inr.inr.inr.inr.inr.inr.inr =>
  have E:o.kind≠2:=J
  have I:¬(3≤o.kind∧o.kind≤7):=J
  have F:o.kind≠8:=J
  have G:o.kind≠9:=J
  have g:o.kind≠10:=J
  have j:o.kind≠11:=J
  have z:o.kind≠12:=J
  have A:o.kind≠13:=J
  have B:o.kind≠14:=J
  have C:o.kind≠15:=J
  by_cases K:3≤o.kind
  ·have L:¬o.kind≤7:=λq=>I ⟨K,q⟩
   simp[z4z,D,N1,K,L,E,F,G,g,j,z,A,B,C,Nh,bor,LV.dat,dats]
  ·simp[z4z,D,N1,K,E,F,G,g,j,z,A,B,C,Nh,bor,LV.dat,dats]
 all_goals simp[z4z,D,N1,h,Nh,bor,LV.dat,dats]
def zc3(o:Lo):Od 142 [.agg o.f] (.lst ((M3 o).map .i) (M3 o).length 1):=by
 refine Ra.mk Fb (Mz r_ref12_Makes Aa N ?_);have g:o.f=[.i o.kind,.i o.d,.i o.e,.i o.a,.i o.b,.i o.c,.i o.buf,.u o.imm]:=rfl;by_cases j:o.kind=10;· simp[z34,g,M3,j,Nh,bor,LV.dat,dats]
 by_cases z:o.kind=11;· simp[z34,g,M3,z,Nh,bor,LV.dat,dats]
 by_cases A:o.kind=12;· simp[z34,g,M3,A,Nh,bor,LV.dat,dats]
 by_cases B:o.kind=15;· simp[z34,g,M3,B,Nh,bor,LV.dat,dats]
 by_cases C:o.kind=17;· simp[z34,g,M3,C,Nh,bor,LV.dat,dats]
 simp[z34,g,M3,j,z,A,B,C,Nh,bor,LV.dat,dats]
def zke(g:Int)(x y:LV)(r:Int)(b:Bool):Mu 181 [.agg [.i g,x,y],.i r,.bool b] (.bool (Qg g r b)) []:=by
 refine Ng.val rfl (Mz r_ref12_field Aa N ?_);cases b with
 |false=>simp[z99,Qg]
 |true=>by_cases j:0≤r<;>simp[z99,Qg,j]
def zg0(b:Bool):Mu 149 [.bool b] (.u (O4 b)) []:=by
 refine Ng.val rfl (Mz r_ref12_bit Aa N ?_);cases b<;>simp[zjo,O4]
def zr7(l:List Int)(n:Int)(H:l.length≤1000000000):Mu 144 [.lst (l.map .i) l.length 1,.i n] (.bool (l.contains n)) []:=by
 refine Ng.val rfl (Mz r_ref12_in Aa (by simp) ?_);simp[zls];refine Oc (λE G I N=>∃i:Nat,G=[]∧N+i=l.length∧lk E 0=.lst (l.map .i) l.length 1∧lk E 1=.i n∧lk E 5=.i i∧∀x∈l.take i,¬x=n) (N:=l.length) ⟨0,rfl,J,by simp,by simp,by simp,by simp⟩ ?_;rintro N E G I ⟨i,rfl,K,j,z,A,B⟩ L C;by_cases D:i<l.length
 ·have q:(l.map LV.i)[i]?=some (.i l[i]):=Ak
  have hm:l[i]∈l:=Kj D;have F:l.take (i+1)=l.take i++[l[i]]:=I0 D;generalize l[i]=x at *;by_cases e:x=n
  ·subst e;simp[j,z,A,D,Mr q,hm]
  ·simp[j,z,A,D,Mr q,e];refine⟨J,C _ _ _ ⟨N-1,J,i+1,rfl,J,Af,Ae,by simp,λy g=>?_⟩⟩;rw[F]at g;rcases Ih.1 g with g|g
   ·exact B y g
   ·simp at g;rw[g];exact e
 ·rw[H7 J]at B;have:¬n∈l:=λh=>B n h rfl
  simp[j,z,A,D,this]
def Mv(g:Int)(bs:List Bf)(os:List Lo):List LV:=[.i g,.lst (O8 bs) bs.length 3,.lst (P1 os) os.length 8]
def zgv(g:Int)(j:List Bf)(os:List Lo):dats (Mv g j os)=true:=by simp[Mv,dats,LV.dat,S0,Sz]
def zrz(g:Int)(j:List Bf)(o:Lo):Bool:=(Qg g o.d (P7 o.kind)&&(Qg g o.e (P9 o.kind)&&((Qg g o.a (Qu o.kind) || (Om o.kind&&decide (o.a=-1)))&&(Qg g o.b (V9 o.kind)&&(Qg g o.c (V1 o.kind)&&(!(P9 o.kind&&decide (o.d=o.e)) &&
  (if Om o.kind=true then decide (0≤o.buf)&&(decide (o.buf<j.length)&&(!(decide (o.kind=15)&&decide ((M7 j o.buf.toNat).kind=1))&&(!decide (o.a=-1) || decide (o.imm<iU (M7 j o.buf.toNat).size))))
   else decide (o.buf=0)&&(if o.kind=1 then true else if o.kind=8∨o.kind=9 then decide (1≤o.imm)&&decide (o.imm≤63) else if o.kind=16 then decide (1≤o.imm)&&decide (o.imm≤1048576) else decide (o.imm=0)))))))))
def nw{r:Int}{b:Bool}(g:Qg z r b=false→Y (.bool false) G)(j:Qg z r b=true→Y (.bool true) G):Ol (.fn 181) [.agg [.i z,.lst (O8 X) X.length 3,.lst (P1 v6) v6.length 8],.i r,.bool b] G Y:=by
 refine M2 (zke z _ _ r b) (bors_self _ Dl) ?_;cases e:Qg z r b with
 |false=>simpa using g e
 |true=>simpa using j e
set_option maxHeartbeats 4000000 in
def zid(z:Int)(A:List Bf)(Y:List Lo)(o:Lo):Mu 141 [.agg (Mv z A Y),.agg o.f] (.bool (Po z A o)) []:=by
 refine Ng.val rfl ?_;have I:o.f=[.i o.kind,.i o.d,.i o.e,.i o.a,.i o.b,.i o.c,.i o.buf,.u o.imm]:=rfl;by_cases X:o.kind<1
 ·have K:¬1≤o.kind:=J
  refine Mz r_ref12_fields k_ref12_fields N ?_;simp[z4a,Mv,I,X,K,Po]
 by_cases L:17<o.kind
 ·have K:¬o.kind≤17:=J
  refine Mz r_ref12_fields k_ref12_fields N ?_;simp[z4a,Mv,I,X,L,K,Po]
 have Z:1≤o.kind∧o.kind≤17:=J
 have hF:Po z A o=zrz z A o:=by
  unfold Po zrz;simp[Z]
 rw[hF];refine Mz r_ref12_fields k_ref12_fields N ?_;unfold zrz;rcases zf5 o.kind with h|h|h|h|h|h|h|h|h|h|h|h|h|h|h|h|h|h|h
 case inl|inr.inr.inr.inr.inr.inr.inr.inr.inr.inr.inr.inr.inr.inr.inr.inr.inr.inr=>omega
 all_goals
  simp[z4a,Mv,I,h,P7,P9,Qu,V9,V1,Om];refine nw (λe=>Co) λM=>?_
  simp;refine nw (λe=>Co) λO=>?_
  simp
 case inr.inr.inr.inr.inr.inr.inr.inr.inr.inr.inr.inr.inr.inr.inl|inr.inr.inr.inr.inr.inr.inr.inr.inr.inr.inr.inr.inr.inr.inr.inl =>
  refine nw (λB=>?_) λB=>?_
  ·by_cases C:o.a=-1
   case neg=>simp[C,B]
   simp[C];refine nw (λe=>Co) λD=>?_
   simp;refine nw (λe=>Co) λE=>?_
   simp;by_cases F:o.buf<0
   ·have P:¬0≤o.buf:=J
    simp[F,P]
   obtain⟨n,G⟩:=Hr (J:0≤o.buf);have H:¬(n:Int)<0:=J
   by_cases j:n<A.length
   ·have q:=Rg j;have Q:=ub q;have R:=zlk q;have T:=vx j;have g:¬A.length≤n:=J
    by_cases U:(M7 A n).kind=1<;>simp[H,g,G,j,Mr Q,C,Mr R,U,M,O,B,D,E]
   ·have g:A.length≤n:=J
    simp[H,g,G,j]
  ·have C:¬o.a=-1:=λq=>by rw[q]at B;simp[Qg]at B
   simp;refine nw (λe=>Co) λD=>?_
   simp;refine nw (λe=>Co) λE=>?_
   simp;by_cases F:o.buf<0
   ·have P:¬0≤o.buf:=J
    simp[F,P]
   obtain⟨n,G⟩:=Hr (J:0≤o.buf);have H:¬(n:Int)<0:=J
   by_cases j:n<A.length
   ·have q:=Rg j;have Q:=ub q;have R:=zlk q;have T:=vx j;have g:¬A.length≤n:=J
    by_cases U:(M7 A n).kind=1<;>simp[H,g,G,j,Mr Q,C,Mr R,U,M,O,B,D,E]
   ·have g:A.length≤n:=J
    simp[H,g,G,j]
 all_goals
  refine nw (λe=>Co) λB=>?_
  simp;refine nw (λe=>Co) λD=>?_
  simp;refine nw (λe=>Co) λE=>?_
  by_cases F:o.buf=0<;>by_cases V:1≤o.imm<;>simp[M,O,B,D,E,F,V]
  all_goals first|exact⟨λa b=>absurd a b,λa _=>a⟩|(rintro q;rw[q]at V;exact absurd V Ad)
def z4w:LC:=(.q [.x 1 0,.K 2 0,.K 3 0] (.seq (.q [.f 15 0 1,.l 16 15,.b 17 .gtr 3 16 64,.m 18 17,.nf 19 18 1 1,.nl 20 18 19,.n 21 18 (.lenSl (.t 20)),.nb 22 18 .gtr 3 21 32,.p 23 18 22,.m 24 23,.nf 25 24 2 1,.nl 26 24 25,.n 27 24 (.lenSl (.t 26)),.nb 28 24 .gtr 3 27 65536,.p 29 24 28] (.cond (.t 29) (.q [.K 2 0,.K 3 3] .ret) .skip)) (.seq (.q [.K 4 0] (.block 0 (.loop (.seq (.q [.m 30 4,.f 31 1 1,.l 32 31,.s 33 32,.c 34 .lss 3 30 33] (.cond (.t 34) .skip (.exit 0))) (.seq (.block 1 (.q [.f 37 1 1,.l 38 37,.m 39 4,.I 40 3 38 39,.f 41 0 40,.l 42 41,.b 43 .gtr 3 42 65536] (.cond (.t 43) (.q [.K 2 0,.K 3 3] .ret) .skip))) (.ops [.m 35 4,.b 36 .add 3 35 1,.m 4 36])))))) (.seq (.q [.f 44 0 1,.l 45 44,.b 46 .lss 3 45 0] (.cond (.t 46) (.q [.K 2 0,.K 3 2] .ret) .skip)) (.seq (.q [.K 5 0] (.block 2 (.loop (.seq (.q [.m 47 5,.f 48 1 1,.l 49 48,.s 50 49,.c 51 .lss 3 47 50] (.cond (.t 51) .skip (.exit 2))) (.seq (.block 3 (.q [.f 54 1 1,.l 55 54,.m 56 5,.I 57 3 55 56,.f 58 0 57,.l 59 58,.b 60 .lss 3 59 1,.m 61 60,.nf 62 61 1 1,.nl 63 61 62,.mn 64 61 5,.n 65 61 (.ixAddr 3 (.t 63) (.t 64)),.nf 66 61 1 65,.nl 67 61 66,.nb 68 61 .lss 3 67 1,.p 69 61 68,.m 70 69,.nf 71 70 1 1,.nl 72 70 71,.mn 73 70 5,.n 74 70 (.ixAddr 3 (.t 72) (.t 73)),.nf 75 70 1 74,.nl 76 70 75,.nb 77 70 .gtr 3 76 3,.p 78 70 77] (.cond (.t 78) (.q [.K 2 0,.K 3 2] .ret) .skip))) (.ops [.m 52 5,.b 53 .add 3 52 1,.m 5 53])))))) (.q [.f 79 0 1,.l 80 79,.z 81 (.mkSl 1 [(.bool false)] (.t 80) (.t 80)),.m 6 81] (.q [.e 7] (.seq (.q [.K 8 0] (.block 4 (.loop (.seq (.q [.m 82 8,.f 83 2 1,.l 84 83,.s 85 84,.c 86 .lss 3 82 85] (.cond (.t 86) .skip (.exit 4))) (.seq (.block 5 (.q [.f 89 2 1,.l 90 89,.m 91 8,.I 92 8 90 91,.L 93 8 92,.z 9 (.alloc [(.i 0),(.i 0),(.i 0),(.i 0),(.i 0),(.i 0),(.i 0),(.u 0)]),.S 8 9 93] (.seq (.q [.L 94 3 1,.L 95 8 9,.W 96 141 94 95,.z 97 (.un .not (.t 96))] (.cond (.t 97) (.q [.m 98 8,.m 2 98,.K 3 2] .ret) .skip)) (.seq (.q [.f 99 0 9,.l 100 99,.b 101 .eql 3 100 17] (.cond (.t 101) (.seq (.q [.m 102 7,.s 103 102,.b 104 .eql 3 103 0] (.cond (.t 104) (.q [.m 105 8,.m 2 105,.K 3 9] .ret) .skip)) (.q [.m 106 6,.m 107 7,.m 108 7,.s 109 108,.b 110 .sub 3 109 1,.I 111 1 107 110,.l 112 111,.I 113 1 106 112,.v (.store 1 (.t 113) .F)] (.q [.m 114 7,.m 115 7,.s 116 115,.b 117 .sub 3 116 1,.z 118 (.slSl 1 (.t 114) none (some (.t 117))),.m 7 118] (.exit 5)))) .skip)) (.seq (.draw [(.L 119 8 9,[]),(.L 121 8 9,[]),(.w 120 142 119,[(.L 121 8 9,false)]),(.w 122 143 121,[]),(.m 10 120,[]),(.m 11 122,[])]) (.seq (.q [.K 12 0] (.block 6 (.loop (.seq (.q [.m 123 12,.m 124 10,.s 125 124,.c 126 .lss 3 123 125] (.cond (.t 126) .skip (.exit 6))) (.seq (.block 7 (.q [.m 129 7,.m 130 10,.m 131 12,.I 132 1 130 131,.l 133 132,.W 134 144 129 133] (.cond (.t 134) (.q [.m 135 8,.m 2 135,.K 3 9] .ret) .skip))) (.ops [.m 127 12,.b 128 .add 3 127 1,.m 12 128])))))) (.seq (.q [.f 136 0 9,.l 137 136,.b 138 .eql 3 137 16,.m 139 138,.my 140 139 6,.yf 141 139 1 9,.yl 142 139 141,.y 143 139 (.ixAddr 1 (.t 140) (.t 142)),.yl 144 139 143,.q 145 139 144] (.cond (.t 145) (.q [.m 146 8,.m 2 146,.K 3 9] .ret) .skip)) (.seq (.q [.f 147 0 9,.l 148 147,.b 149 .eql 3 148 16,.m 150 149,.my 151 150 7,.y 152 150 (.lenSl (.t 151)),.y 153 150 (.bin .eql true 3 (.t 152) (.k 8)),.q 154 150 153] (.cond (.t 154) (.q [.m 155 8,.m 2 155,.K 3 10] .ret) .skip)) (.seq (.q [.K 13 0] (.block 8 (.loop (.seq (.q [.m 156 13,.m 157 11,.s 158 157,.c 159 .lss 3 156 158] (.cond (.t 159) .skip (.exit 8))) (.seq (.block 9 (.q [.m 162 6,.m 163 11,.m 164 13,.I 165 1 163 164,.l 166 165,.I 167 1 162 166,.l 168 167,.z 169 (.un .not (.t 168))] (.cond (.t 169) (.q [.m 170 8,.m 2 170,.K 3 5] .ret) .skip))) (.ops [.m 160 13,.b 161 .add 3 160 1,.m 13 161])))))) (.seq (.q [.K 14 0] (.block 10 (.loop (.seq (.q [.m 171 14,.m 172 10,.s 173 172,.c 174 .lss 3 171 173] (.cond (.t 174) .skip (.exit 10))) (.seq (.block 11 (.ops [.m 177 6,.m 178 10,.m 179 14,.I 180 1 178 179,.l 181 180,.I 182 1 177 181,.v (.store 1 (.t 182) .T)])) (.ops [.m 175 14,.b 176 .add 3 175 1,.m 14 176])))))) (.q [.f 183 0 9,.l 184 183,.b 185 .eql 3 184 16] (.cond (.t 185) (.ops [.m 186 7,.f 187 1 9,.l 188 187,.z 189 (.buildSl 1 1 [(.i 0)] [(0,1,.t 188)]),.a 190 1 186 189,.m 7 190]) .skip)))))))))))) (.ops [.m 87 8,.b 88 .add 3 87 1,.m 8 88])))))) (.seq (.q [.m 191 7,.s 192 191,.b 193 .gtr 3 192 0] (.cond (.t 193) (.q [.f 194 2 1,.l 195 194,.s 196 195,.m 2 196,.K 3 9] .ret) .skip)) (.q [.f 197 2 1,.l 198 197,.s 199 198,.m 2 199,.K 3 0] .ret))))))))))
def r_ref12_Check:My Tryz.prog 78=some ⟨200,z4w.r,[.tmp 2,.tmp 3]⟩:=Aa
def zky{m:List Bool}{l:List Int}(h:∀x∈l,Ok m x=true):(l.any λr=>!Ok m r)=false:=by
 rw[Kz];intro x g;simp[h x g]
def znq{m:List Bool}{l:List Int}{x:Int}(g:x∈l)(h:Ok m x=false):(l.any λr=>!Ok m r)=true:=by
 rw[Iw];exact⟨x,g,by simp[h]⟩
def zev{l:List Int}(h:g<l.length):l.take (g+1)=l.take g++[gd l g]:=by
 rw[I0 h];simp[gd,Hn,h]
def zi8{l:List Int}(h:g<l.length):gd l g∈l:=by
 simp[gd,Hn,h]
def yy{o:Lo}(h:Po z X o=true):(∀x∈N1 o,0≤x∧x<z)∧(∀x∈M3 o,0≤x∧x<z)∧(o.kind=16→0≤o.d∧o.d<z):=by
 unfold Po at h;simp only[Hq,Hz]at h;obtain⟨⟨j,A⟩,d,e,a,b,c,_⟩:=h;have B:∀x,Qg z x true=true→0≤x∧x<z:=λx h=>by
  unfold Qg at h;simpa using h
 rcases zf5 o.kind with h|h|h|h|h|h|h|h|h|h|h|h|h|h|h|h|h|h|h
 case inl=>omega
 case inr.inr.inr.inr.inr.inr.inr.inr.inr.inr.inr.inr.inr.inr.inr.inr.inr.inr=>omega
 case inr.inr.inr.inr.inr.inr.inr.inr.inr.inr.inr.inr.inr.inr.inl|inr.inr.inr.inr.inr.inr.inr.inr.inr.inr.inr.inr.inr.inr.inr.inl =>
  simp[h,P7,P9,Qu,V9,V1,Om,Qg]at d e a b c;by_cases g:o.a=-1<;>simp[g]at a<;>simp[N1,M3,h,g]<;>omega
 all_goals
  simp[h,P7,P9,Qu,V9,V1,Om,Qg]at d e a b c;simp[N1,M3,h]
  try omega
def zkx(o:Lo):(M3 o).length≤2:=by
 unfold M3;repeat' split
 all_goals simp
def zl2(o:Lo):(N1 o).length≤3:=by
 unfold N1;repeat' split
 all_goals simp
def z4f(M:Int)(B:List Bf)(os:List Lo):Mu 78 [.agg (Mv M B os)] (.tup [.i (P5 M B os).1,.i (P5 M B os).2]) []:=by
 refine Ng.val rfl (Mz r_ref12_Check Aa (by simp) ?_);by_cases g1:64<M
 ·simp[z4w,Mv,P5,g1]
 by_cases g2:32<B.length
 ·have jA:(32:Int)<B.length:=J
  simp[z4w,Mv,P5,g1,g2,jA]
 have jA:¬(32:Int)<B.length:=J
 by_cases g3:65536<os.length
 ·have jH:(65536:Int)<os.length:=J
  simp[z4w,Mv,P5,g1,g2,jA,g3,jH]
 have jH:¬(65536:Int)<os.length:=J
 obtain⟨zG,C⟩:∃zG,P5 M B os=zG:=⟨_,rfl⟩;rw[C];unfold P5 at C;rw[Hs J]at C;simp[z4w,Mv,g1,g2,jA,g3,jH];refine Oc (λL gU gD N=>∃i:Nat,gU=[]∧gD=[.cells (Mv M B os) 0]∧N+i=B.length∧lk L 1=.ptr 0 0∧lk L 4=.i i∧∀O,O<i→¬65536<(M7 B O).size) (N:=B.length) ⟨0,rfl,Bq,J,by simp,by simp,λO h=>J⟩ ?_;rintro N L gU gD ⟨i,rfl,rfl,hN,z,h4,Q⟩ Nx gI;by_cases gT:i<B.length
 ·have q0:=ub (Rg gT);have hm:M7 B i∈B:=Ia (Rg gT);by_cases e:65536<(M7 B i).size
  ·have X:(B.any λb=>decide (65536<b.size))=true:=Iw.2 ⟨_,hm,Ej⟩;rw[Hv X]at C;subst C;simp[z,h4,Mv,gT,Mr q0,e]
  ·simp[z,h4,Mv,gT,Mr q0,e];refine⟨J,gI _ _ _ ⟨N-1,J,i+1,rfl,Bq,J,Ae,by simp,λO hj=>?_⟩⟩;by_cases q:O=i
   ·rw[q];exact e
   ·exact Q O J
 have X:¬(B.any λb=>decide (65536<b.size))=true:=by
  rw[Iw];rintro⟨b,hb,h⟩;obtain⟨O,hj,rfl⟩:=Js.1 hb;have:=Q O J;have h2:=Rg hj;rw[Ht hj]at h2;rw[←Option.some.inj h2]at this;exact this Av
 rw[Hs X]at C;clear X Q;by_cases g4:M<0
 ·rw[Hv g4]at C;subst C;simp[z,h4,Mv,gT,g4]
 rw[Hs g4]at C;have e0:¬i<B.length:=gT;simp[z,h4,Mv,e0,g4];refine Oc (λL gU gD N=>∃i:Nat,gU=[]∧gD=[.cells (Mv M B os) 0]∧N+i=B.length∧lk L 1=.ptr 0 0∧lk L 5=.i i∧∀O,O<i→¬((M7 B O).size<1∨(M7 B O).kind<1∨3<(M7 B O).kind)) (N:=B.length) ⟨0,rfl,Bq,J,Ae,by simp,λO h=>J⟩ ?_;clear z h4 hN gI Nx L N e0 gT;rintro N L gU gD ⟨i,rfl,rfl,hN,z,h5,Q⟩ Nx gI;by_cases gT:i<B.length
 ·have q0:=ub (Rg gT);have q1:=zlk (Rg gT);have hm:M7 B i∈B:=Ia (Rg gT);have jI:((M7 B i).size<1∨(M7 B i).kind<1∨3<(M7 B i).kind)→zG=(0,2):=λe=>by
   have X:(B.any λb=>decide (b.size<1) || (decide (b.kind<1) || decide (3<b.kind)))=true:=Iw.2 ⟨_,hm,Ej⟩;rw[Hv X]at C;exact C.symm
  by_cases e1:(M7 B i).size<1
  ·rw[jI (.inl e1)];simp[z,h5,Mv,gT,Mr q0,Mr q1,e1]
  by_cases e2:(M7 B i).kind<1
  ·rw[jI (.inr (.inl e2))];simp[z,h5,Mv,gT,Mr q0,Mr q1,e1,e2]
  by_cases e3:3<(M7 B i).kind
  ·rw[jI (.inr (.inr e3))];simp[z,h5,Mv,gT,Mr q0,Mr q1,e1,e2,e3]
  simp[z,h5,Mv,gT,Mr q0,Mr q1,e1,e2,e3];refine⟨J,gI _ _ _ ⟨N-1,J,i+1,rfl,Bq,J,Ae,by simp,λO hj=>?_⟩⟩;by_cases q:O=i
  ·rw[q];omega
  ·exact Q O J
 have X:¬(B.any λb=>decide (b.size<1) || (decide (b.kind<1) || decide (3<b.kind)))=true:=by
  rw[Iw];rintro⟨b,hb,h⟩;obtain⟨O,hj,rfl⟩:=Js.1 hb;have:=Q O J;have h2:=Rg hj;rw[Ht hj]at h2;rw[←Option.some.inj h2]at this;exact this Av
 rw[Hs X]at C;clear X Q;obtain⟨r,rfl⟩:=Hr (J:0≤M);have zD:r≤64:=J
 simp[z,h5,Mv,gT];refine⟨J,?_⟩;refine Oc (λL gU gD N=>∃(i st:Nat) (m:List Bool) (D:List Int) (v:LV),gU=[]∧N+i=os.length∧lk L 1=.ptr 0 0∧lk L 6=.dy 1 0∧lk L 7=v∧lk L 8=.i i∧gD[0]?=some (.cells (Mv r B os) 0)∧gD[1]?=some (.dyn (m.map .bool) r 1 0 st)∧m.length=r∧N9 2 gD v 1 D.length (D.map .i)∧2≤gD.length ∧
   (∀x∈D,0≤x∧x<r)∧D.length≤8∧Ys r B i m D (os.drop i)=zG) (N:=os.length)
  ⟨0,0,List.replicate r false,[],.nilSl,rfl,J,Ae,by simp,by simp,by simp,Bq,by simp[wx],by simp,N9.nil,by simp,by simp,by simp,Ca⟩ ?_
 clear z h5 hN gI Nx L N C gT;rintro N L gU gD ⟨i,st,m,D,v,rfl,hN,z,F,K,E,gK,j4,gL,jK,zH,jB,jQ,C⟩ Nx gI;by_cases gT:i<os.length
 case neg =>
  rw[Jk J]at C;unfold Ys at C;by_cases hn:D=[]
  ·rw[Hv hn]at C;subst C hn;simp[z,E,gK,Mv,gT,K];refine jK.lenL ?_;simp[z,gK,Mv];omega
  ·rw[Hs hn]at C;subst C;have Q:0<(D.length:Int):=by
    have:=K9.2 hn;omega
   simp[z,E,gK,Mv,gT,K];refine jK.lenL ?_;simp[Q,z,gK,Mv];exact⟨λ_=>J,hn⟩
 have ho:=yj gT;rw[zh4 gT]at C;unfold Ys at C;have j5:=zbd ho;have j6:=qi gT;generalize ap os i=o at *;have hC:o.f=[.i o.kind,.i o.d,.i o.e,.i o.a,.i o.b,.i o.c,.i o.buf,.u o.imm]:=rfl;have l0:0<gD.length:=J
 have l1:1<gD.length:=J
 have p0:∀x:List LObj,(gD++x)[0]?=some _:=λx=>(M6 l0).trans gK
 simp[z,E,gK,Mv,gT,j5,j6,hC,↓p0];have jR:=zid r B os o;rw[Mv,hC]at jR;refine M2 jR (bors_self _ Dl) ?_;cases hf:Po r B o with
 |false =>
  have j7:(T2 r B m D o)=(2,m,D):=by unfold T2;rw[Hv hf]
  rw[j7]at C;simp at C;subst C;simp[E]
 |true =>
 obtain⟨jT,jU,jV⟩:=yy hf;have zI:os.length≤65536:=J
 have gM:∀(l:List LV) (i:Nat) (x:LV),i<l.length→Ns l i [x]=l.set i x:=λl i x h=>by
  rw[Io,Hv h];simp[Ns]
 have next:∀(ρ':Mq) (G':Mp) (m':List Bool) (G:List Int) (v':LV) (jL:Nat),T2 r B m D o=(0,m',G)→lk ρ' 1=.ptr 0 0→lk ρ' 6=.dy 1 0→lk ρ' 7=v'→lk ρ' 8=.i ((i:Int)+1)→G'[0]?=some (.cells (Mv r B os) 0)→G'[1]?=some (.dyn (m'.map .bool) r 1 0 jL)→m'.length=r→N9 2 G' v' 1 G.length (G.map .i)→2≤G'.length→(∀x∈G,0≤x∧x<(r:Int))→G.length≤8→Nx ρ' [] G':=by
  intro ρ' G' m' G v' jL hs a1 a6 a7 a8 b0 b1 b2 b3 b4 b5 b6;rw[hs]at C;exact gI _ _ _ ⟨N-1,J,i+1,jL,m',G,v',rfl,J,a1,a6,a7,by rw[a8];simp,b0,b1,b2,b3,b4,b5,b6,Ca⟩
 have q0:∀x:List LObj,(gD++x)[0]?=some (.cells (Mv r B os) 0):=λx=>(M6 l0).trans gK
 have q1:∀x:List LObj,(gD++x)[1]?=some (.dyn (m.map .bool) r 1 0 st):=λx=>(M6 l1).trans j4
 have gE:∀x,N9 2 (gD++x) v 1 D.length (D.map .i):=λx=>jK.push_end
 by_cases gV:o.kind=17
 ·have jC:D=[]→T2 r B m D o=(9,m,D):=λe=>by
   unfold T2;rw[Hs (by rw[hf];decide),Hv gV,e];rfl
  have jD:∀l' d,D=l'++[d]→T2 r B m D o=(0,m.set d.toNat false,l'):=λl' d e=>by
   unfold T2;rw[Hs (by rw[hf];decide),Hv gV,e];simp
  simp[gV,K];refine (gE _).lenL ?_;by_cases hn:D=[]
  ·rw[jC hn]at C;subst hn;simp at C;subst C;simp[E]
  ·obtain⟨G,d,rfl⟩:∃G d,D=G++[d]:=⟨D.dropLast,D.getLast hn,(List.dropLast_concat_getLast hn).symm⟩;obtain⟨d0,dr⟩:=jB d (by simp);obtain⟨dn,rfl⟩:=Hr d0;have gY:dn<r:=J
   have j8:G.length≤8:=by simp at jQ;omega
   have g:=jD G dn rfl;simp only[If]at g;simp;refine (gE _).lenL ?_;simp;refine⟨J,(gE _).at1 J Ab λa X=>?_⟩;simp;refine X _ ?_;have e1:Ns (m.map LV.bool) dn [.bool false]=(m.set dn false).map LV.bool:=by
    rw[gM _ _ _ Ab,I3]
   have hx:(List.map LV.i G++[LV.i (dn:Int)])[G.length]?=some (.i (dn:Int)):=by
    rw[H9 (by simp)];simp
   have jF:∀(x:List LObj) (ob:LObj),N9 2 ((gD++x).set 1 ob) v 1 (G++[(dn:Int)]).length ((G++[(dn:Int)]).map .i):=λx ob=>(gE x).set_lt J
   rw[Km,List.map_singleton];simp only[If];refine⟨_,hx,?_⟩;simp[F,↓q1,gY,gL,e1,K];refine⟨J,(jF _ _).lenL ?_⟩;simp;refine⟨J,(jF _ _).cut (m:=G.length) (by simp) (λK' k'=>k') (λd K' k'=>⟨J,k'⟩) λv' jX=>?_⟩;simp[E];rw[Km,Kf (by simp)]at jX;refine⟨J,next _ _ (m.set dn false) G v' (st+1) g Ae Am (by simp) (by simp) ?_ ?_ (by simpa using gL) jX Ab (λx hx=>jB x (by simp[hx])) j8⟩
   ·rw[Ho J];exact q0 _
   ·rw[←I3];exact Hu Ab
 have g:T2 r B m D o=(if (M3 o).any (λr=>D.contains r)=true then (9,m,D)
   else if o.kind=16∧Ok m o.d=true then (9,m,D)
   else if o.kind=16∧D.length=8 then (10,m,D)
   else if (N1 o).any (λr=>!Ok m r)=true then (5,m,D)
   else (0,(M3 o).foldl (λm r=>m.set r.toNat true) m,if o.kind=16 then D++[o.d] else D)):=by
  unfold T2;rw[Hs (by rw[hf];decide),Hs gV]
 simp[gV];refine Q5 (zc3 o) B1 ?_;simp;refine Q5 (zcm o) B1 ?_;simp;have jM:=q0 [.cells o.f 1];have Y:=q1 [.cells o.f 1];have gO:(gD++[LObj.cells o.f 1])[gD.length]?=some (.cells o.f 1):=Ie;have gZ:=gE [.cells o.f 1];have j9:(gD++[LObj.cells o.f 1]).length=gD.length+1:=by simp
 rw[hC]at jM Y gO gZ j9;generalize gD++[LObj.cells [.i o.kind,.i o.d,.i o.e,.i o.a,.i o.b,.i o.c,.i o.buf,.u o.imm] 1]=G1 at *;generalize gD.length=jZ at *;have zK:=zkx o;have zL:=zl2 o;have zM:=hC ▸ gO;refine Oc (λL gU gD N=>∃O:Nat,gU=[]∧N+O=(M3 o).length∧lk L 1=.ptr 0 0∧lk L 6=.dy 1 0∧lk L 7=v∧lk L 8=.i i∧lk L 9=.ptr jZ 0∧lk L 10=.lst ((M3 o).map .i) (M3 o).length 1∧lk L 11=.lst ((N1 o).map .i) (N1 o).length 1∧lk L 12=.i O∧gD=G1∧∀x∈(M3 o).take O,¬x∈D) (N:=(M3 o).length)
  ⟨0,rfl,J,Ae,Am,A9,Ai,by simp,by simp,by simp,by simp,rfl,by simp⟩ ?_
 clear z F K E;rintro N2 L gU G2 ⟨O,rfl,zO,z,F,K,E,R,j,H,gP,rfl,Q⟩ zP jG;by_cases V:O<(M3 o).length
 ·have hg:=Vs (f:=LV.i) (Wb V);have ht:=zev V;have I:=zi8 V;generalize gd (M3 o) O=x at *;simp[K,j,gP,V,Mr hg];refine M2 (zr7 D x J) ⟨_,_,rfl,gZ.bor,by simp⟩ ?_;by_cases hx:x∈D
  ·have X:((M3 o).any λr=>D.contains r)=true:=Iw.2 ⟨x,I,by simpa using hx⟩;rw[g,Hv X]at C;simp at C;subst C;simp[hx,E]
  ·simp[hx,gP];refine⟨J,jG _ _ _ ⟨N2-1,J,O+1,rfl,J,Ae,Am,A9,Ai,Bd,Af,A1,by simp,rfl,λy T=>?_⟩⟩;rw[ht]at T;rcases Ih.1 T with T|T
   ·exact Q y T
   ·simp at T;rw[T];exact hx
 rw[H7 J]at Q;have X:¬((M3 o).any λr=>D.contains r)=true:=by
  rw[Iw];rintro⟨x,hx,h⟩;exact Q x hx Av
 rw[Hs X]at g;clear X Q jG;by_cases P:o.kind=16
 ·obtain⟨d0,dr⟩:=jV P;obtain⟨dn,gY⟩:=Hr d0;have jO:dn<r:=J
  have jE:(m.map LV.bool)[dn]?=some (.bool (Ok m o.d)):=by
   simp[Ok,gY,gL,jO]
  cases Z:Ok m o.d with
  |true =>
   rw[Z]at jE;rw[g,Hv (show o.kind=16∧Ok m o.d=true from ⟨P,Z⟩)]at C;simp at C;subst C;simp[F,E,R,j,gP,V,gO,P,gY,jO,Y,Mr jE]
  |false =>
  rw[Z]at jE;rw[Hs (show ¬(o.kind=16∧Ok m o.d=true) by rw[Z];simp)]at g;simp[F,E,R,j,gP,V,gO,P,gY,jO,Y,Mr jE,K];refine gZ.lenL ?_;by_cases l8:D.length=8
  ·rw[g,Hv (show o.kind=16∧D.length=8 from ⟨P,l8⟩)]at C;simp at C;subst C;simp[l8,E]
  rw[Hs (show ¬(o.kind=16∧D.length=8) from λq=>l8 q.2)]at g;refine⟨λq=>absurd q J,λ_=>?_⟩;rw[Hv P]at g;refine Oc (λL gU gD N=>∃O:Nat,gU=[]∧N+O=(N1 o).length∧lk L 1=.ptr 0 0∧lk L 6=.dy 1 0∧lk L 7=v∧lk L 8=.i i∧lk L 9=.ptr jZ 0∧lk L 10=.lst ((M3 o).map .i) (M3 o).length 1∧lk L 11=.lst ((N1 o).map .i) (N1 o).length 1∧lk L 13=.i O∧gD=G2∧∀x∈(N1 o).take O,Ok m x=true) (N:=(N1 o).length)
   ⟨0,rfl,J,Ae,Am,A9,Ai,Bd,Af,A1,by simp,rfl,by simp⟩ ?_
  clear z F K E R j H gP;rintro N3 L gU G3 ⟨O,rfl,zg,z,F,K,E,R,j,H,gg,rfl,Q⟩ zj gF;by_cases V:O<(N1 o).length
  ·have hg:=Vs (f:=LV.i) (Wb V);have ht:=zev V;have I:=zi8 V;generalize gd (N1 o) O=x at *;obtain⟨x0,xr⟩:=jT x I;obtain⟨xn,rfl⟩:=Hr x0;have U:xn<r:=J
   have gz:(m.map LV.bool)[xn]?=some (.bool (Ok m (xn:Int))):=by simp[Ok,gL,U]
   cases A:Ok m (xn:Int) with
   |false =>
    have X:=znq I A;rw[g,Hv X]at C;simp at C;subst C;rw[A]at gz;simp[F,E,H,gg,V,Mr hg,Y,U,Mr gz]
   |true =>
    rw[A]at gz;simp[F,E,H,gg,V,Mr hg,Y,U,Mr gz];refine⟨J,gF _ _ _ ⟨N3-1,J,O+1,rfl,J,Ae,Am,A9,Ai,Bd,Af,A1,by simp,rfl,λy T=>?_⟩⟩;rw[ht]at T;rcases Ih.1 T with T|T
    ·exact Q y T
    ·simp at T;rw[T];exact A
  rw[H7 J]at Q;rw[Hs (by rw[zky Q];simp)]at g;clear gF Q;simp[z,F,K,E,R,j,H,gg,V];refine Oc (λL gU gD N=>∃(O gA:Nat) (m2:List Bool),gU=[]∧N+O=(M3 o).length∧lk L 1=.ptr 0 0∧lk L 6=.dy 1 0∧lk L 7=v∧lk L 8=.i i∧lk L 9=.ptr jZ 0∧lk L 10=.lst ((M3 o).map .i) (M3 o).length 1∧lk L 14=.i O∧gD.length=G3.length∧(∀q,q≠1→gD[q]?=G3[q]?)∧gD[1]?=some (.dyn (m2.map .bool) r 1 0 gA)∧m2.length=r∧m2=((M3 o).take O).foldl (λm r=>m.set r.toNat true) m) (N:=(M3 o).length)
   ⟨0,st,m,rfl,J,Ae,Am,A9,Ai,Bd,Af,by simp,rfl,λ_ _=>rfl,Y,gL,by simp⟩ ?_
  clear z F K E R j H gg;rintro N4 L gU G4 ⟨O,gA,m2,rfl,zz,z,F,K,E,R,j,g8,jP,gC,gG,gQ,gR⟩ zA gH;by_cases gk:O<(M3 o).length
  ·have hg:=Vs (f:=LV.i) (Wb gk);have ht:=zev gk;have I:=zi8 gk;generalize gd (M3 o) O=x at *;obtain⟨x0,xr⟩:=jU x I;obtain⟨xn,rfl⟩:=Hr x0;have U:xn<r:=J
   have e1:Ns (m2.map LV.bool) xn [.bool true]=(m2.set xn true).map LV.bool:=by
    rw[gM _ _ _ Ab,I3]
   simp[F,j,g8,gk,Mr hg,gG,U,gQ,e1];refine⟨J,J,gH _ _ _ ⟨N4-1,J,O+1,gA+1,m2.set xn true,rfl,J,Ae,Am,A9,Ai,Bd,Af,by simp,by simp[jP],λq hq=>?_,?_,by simp[gQ],?_⟩⟩
   ·rw[Ho (Ne.symm hq)];exact gC q hq
   ·rw[←I3];exact Hu (by have:=(Hm.1 gG).1;exact this)
   ·rw[ht,List.foldl_append,←gR];simp
  rw[H7 J]at gR;have g9:N9 2 G4 v 1 D.length (D.map .i):=gZ.frame λq h _=>gC q J
  have jg:G4[0]?=some (.cells (Mv r B os) 0):=(gC 0 J).trans jM;have jz:G4[jZ]?=_:=(gC jZ J).trans gO;rw[←gR]at g;clear gH;simp[z,F,K,E,R,j,g8,gk,jz,P];refine N9.push (x:=[.i o.d]) g9.push_end J Ab J rfl rfl λv' G5 zB jY zC _=>?_
  simp[E];have zE:=(Hm.1 gG).1;refine⟨J,next _ _ m2 (D++[o.d]) v' gA g Ae Am (by simp) (by simp) ?_ ?_ gQ (by simpa using zB) (by simp at zC;omega) (λx hx=>?_) Ab⟩
  ·rw[jY 0 J,M6 J];exact jg
  ·rw[jY 1 J,M6 J];exact gG
  ·rcases Ih.1 hx with hx|hx
   ·exact jB x hx
   ·simp at hx;rw[hx];exact jV P
 rw[Hs (show ¬(o.kind=16∧Ok m o.d=true) from λq=>P q.1),Hs (show ¬(o.kind=16∧D.length=8) from λq=>P q.1),Hs P]at g;simp[z,F,K,E,R,j,H,gP,V,gO,P];refine Oc (λL gU gD N=>∃O:Nat,gU=[]∧N+O=(N1 o).length∧lk L 1=.ptr 0 0∧lk L 6=.dy 1 0∧lk L 7=v∧lk L 8=.i i∧lk L 9=.ptr jZ 0∧lk L 10=.lst ((M3 o).map .i) (M3 o).length 1∧lk L 11=.lst ((N1 o).map .i) (N1 o).length 1∧lk L 13=.i O∧gD=G2∧∀x∈(N1 o).take O,Ok m x=true) (N:=(N1 o).length)
  ⟨0,rfl,J,Ae,Am,A9,Ai,Bd,Af,A1,by simp,rfl,by simp⟩ ?_
 clear z F K E R j H gP;rintro N3 L gU G3 ⟨O,rfl,zg,z,F,K,E,R,j,H,gg,rfl,Q⟩ zj gF;by_cases V:O<(N1 o).length
 ·have hg:=Vs (f:=LV.i) (Wb V);have ht:=zev V;have I:=zi8 V;generalize gd (N1 o) O=x at *;obtain⟨x0,xr⟩:=jT x I;obtain⟨xn,rfl⟩:=Hr x0;have U:xn<r:=J
  have gz:(m.map LV.bool)[xn]?=some (.bool (Ok m (xn:Int))):=by simp[Ok,gL,U]
  cases A:Ok m (xn:Int) with
  |false =>
   have X:=znq I A;rw[g,Hv X]at C;simp at C;subst C;rw[A]at gz;simp[F,E,H,gg,V,Mr hg,Y,U,Mr gz]
  |true =>
   rw[A]at gz;simp[F,E,H,gg,V,Mr hg,Y,U,Mr gz];refine⟨J,gF _ _ _ ⟨N3-1,J,O+1,rfl,J,Ae,Am,A9,Ai,Bd,Af,A1,by simp,rfl,λy T=>?_⟩⟩;rw[ht]at T;rcases Ih.1 T with T|T
   ·exact Q y T
   ·simp at T;rw[T];exact A
 rw[H7 J]at Q;rw[Hs (by rw[zky Q];simp)]at g;clear gF Q;simp[z,F,K,E,R,j,H,gg,V];refine Oc (λL gU gD N=>∃(O gA:Nat) (m2:List Bool),gU=[]∧N+O=(M3 o).length∧lk L 1=.ptr 0 0∧lk L 6=.dy 1 0∧lk L 7=v∧lk L 8=.i i∧lk L 9=.ptr jZ 0∧lk L 10=.lst ((M3 o).map .i) (M3 o).length 1∧lk L 14=.i O∧gD.length=G3.length∧(∀q,q≠1→gD[q]?=G3[q]?)∧gD[1]?=some (.dyn (m2.map .bool) r 1 0 gA)∧m2.length=r∧m2=((M3 o).take O).foldl (λm r=>m.set r.toNat true) m) (N:=(M3 o).length)
  ⟨0,st,m,rfl,J,Ae,Am,A9,Ai,Bd,Af,by simp,rfl,λ_ _=>rfl,Y,gL,by simp⟩ ?_
 clear z F K E R j H gg;rintro N4 L gU G4 ⟨O,gA,m2,rfl,zz,z,F,K,E,R,j,g8,jP,gC,gG,gQ,gR⟩ zA gH;by_cases gk:O<(M3 o).length
 ·have hg:=Vs (f:=LV.i) (Wb gk);have ht:=zev gk;have I:=zi8 gk;generalize gd (M3 o) O=x at *;obtain⟨x0,xr⟩:=jU x I;obtain⟨xn,rfl⟩:=Hr x0;have U:xn<r:=J
  have e1:Ns (m2.map LV.bool) xn [.bool true]=(m2.set xn true).map LV.bool:=by
   rw[gM _ _ _ Ab,I3]
  simp[F,j,g8,gk,Mr hg,gG,U,gQ,e1];refine⟨J,J,gH _ _ _ ⟨N4-1,J,O+1,gA+1,m2.set xn true,rfl,J,Ae,Am,A9,Ai,Bd,Af,by simp,by simp[jP],λq hq=>?_,?_,by simp[gQ],?_⟩⟩
  ·rw[Ho (Ne.symm hq)];exact gC q hq
  ·rw[←I3];exact Hu (by have:=(Hm.1 gG).1;exact this)
  ·rw[ht,List.foldl_append,←gR];simp
 rw[H7 J]at gR;have g9:N9 2 G4 v 1 D.length (D.map .i):=gZ.frame λq h _=>gC q J
 have jg:G4[0]?=some (.cells (Mv r B os) 0):=(gC 0 J).trans jM;have jz:G4[jZ]?=_:=(gC jZ J).trans gO;rw[←gR]at g;clear gH;simp[z,F,K,E,R,j,g8,gk,jz,P];refine⟨J,next _ _ m2 D v gA g Ae Am A9 (by simp) jg gG gQ g9 J jB jQ⟩
def zfs:LC:=(.q [.x 1 0,.e 2] (.q [.L 10 3 1,.w 11 78 10,.m 9 11,.X 12 0 9,.X 13 1 9,.m 3 12,.m 4 13] (.seq (.q [.m 14 4,.b 15 .neq 35 14 0] (.cond (.t 15) (.q [.e 2] .ret) .skip)) (.q [.f 16 2 1,.l 17 16,.s 18 17,.z 19 (.mkSl 1 [(.i 0)] (.t 18) (.t 18)),.m 5 19] (.q [.e 6] (.seq (.q [.K 7 0] (.block 0 (.loop (.seq (.q [.m 20 7,.f 21 2 1,.l 22 21,.s 23 22,.c 24 .lss 3 20 23] (.cond (.t 24) .skip (.exit 0))) (.seq (.block 1 (.q [.m 27 5,.m 28 7,.I 29 1 27 28,.v (.store 1 (.t 29) (.k (-1)))] (.q [.f 30 2 1,.l 31 30,.m 32 7,.I 33 8 31 32,.f 34 0 33,.l 35 34] (.block 2 (.q [.b 37 .eql 3 35 16,.m 36 37] (.cond (.t 36) (.ops [.m 38 6,.m 39 7,.z 40 (.buildSl 1 1 [(.i 0)] [(0,1,.t 39)]),.a 41 1 38 40,.m 6 41]) (.q [.b 43 .eql 3 35 17,.m 42 43] (.cond (.t 42) (.q [.m 44 6,.m 45 6,.s 46 45,.b 47 .sub 3 46 1,.I 48 1 44 47,.l 49 48,.m 8 49] (.q [.m 50 6,.m 51 6,.s 52 51,.b 53 .sub 3 52 1,.z 54 (.slSl 1 (.t 50) none (some (.t 53))),.m 6 54] (.ops [.m 55 5,.m 56 7,.m 57 5,.m 58 8,.m 59 8,.m 60 7,.I 61 1 55 56,.S 1 61 59,.I 62 1 57 58,.S 1 62 60]))) .skip)))))))) (.ops [.m 25 7,.b 26 .add 3 25 1,.m 7 26])))))) (.q [.m 63 5,.m 2 63] .ret)))))))
def r_ref12_Ends:My Tryz.prog 87=some ⟨64,zfs.r,[.tmp 2]⟩:=Aa
def zdo:LC:=(.q [.x 1 0,.K 2 0] (.q [.L 11 3 1,.w 12 78 11,.m 10 12,.X 13 0 10,.X 14 1 10,.m 3 13,.m 4 14] (.seq (.q [.m 15 4,.b 16 .neq 35 15 0] (.cond (.t 16) (.q [.K 2 0] .ret) .skip)) (.q [.e 5] (.q [.K 6 0] (.q [.e 7] (.seq (.q [.K 8 0] (.block 0 (.loop (.seq (.q [.m 17 8,.f 18 2 1,.l 19 18,.s 20 19,.c 21 .lss 3 17 20] (.cond (.t 21) .skip (.exit 0))) (.seq (.block 1 (.q [.f 24 2 1,.l 25 24,.m 26 8,.I 27 8 25 26,.f 28 0 27,.l 29 28] (.block 2 (.q [.b 34 .eql 3 29 16,.m 33 34] (.cond (.t 33) (.seq (.draw [(.m 35 5,[]),(.m 36 6,[]),(.z 37 (.buildSl 1 1 [(.i 0)] [(0,1,.t 36)]),[]),(.m 39 7,[]),(.f 40 2 1,[]),(.l 41 40,[]),(.m 42 8,[]),(.I 43 8 41 42,[]),(.f 44 7 43,[]),(.l 45 44,[]),(.z 46 (.cvInt .i64 (.t 45)),[]),(.z 47 (.buildSl 1 1 [(.i 0)] [(0,1,.t 46)]),[(.l 45 44,false),(.l 41 40,false),(.z 37 (.buildSl 1 1 [(.i 0)] [(0,1,.t 36)]),true)]),(.a 38 1 35 37,[(.z 47 (.buildSl 1 1 [(.i 0)] [(0,1,.t 46)]),true),(.l 45 44,false),(.l 41 40,false)]),(.a 48 1 39 47,[]),(.m 5 38,[]),(.m 7 48,[])]) (.ops [.K 6 1])) (.q [.b 50 .eql 3 29 17,.m 49 50] (.cond (.t 49) (.q [.m 51 5,.s 52 51,.b 53 .sub 3 52 1,.m 9 53] (.seq (.q [.m 54 6,.m 55 7,.m 56 9,.I 57 1 55 56,.l 58 57,.z 59 (.bin .quo true 3 (.k 1125899906842624) (.t 58)),.c 60 .gtr 3 54 59] (.cond (.t 60) (.ops [.K 6 1125899906842624]) (.ops [.m 61 6,.m 62 7,.m 63 9,.I 64 1 62 63,.l 65 64,.c 66 .mul 3 61 65,.m 6 66]))) (.q [.m 67 6,.m 68 5,.m 69 9,.I 70 1 68 69,.l 71 70,.c 72 .add 3 67 71,.z 73 (.maxi false (.k 1125899906842624) (.t 72)),.m 6 73] (.draw [(.m 74 5,[]),(.m 75 9,[]),(.z 76 (.slSl 1 (.t 74) none (some (.t 75))),[]),(.m 77 7,[]),(.m 78 9,[]),(.z 79 (.slSl 1 (.t 77) none (some (.t 78))),[]),(.m 5 76,[]),(.m 7 79,[])])))) (.ops [.m 30 6,.b 31 .add 3 30 1,.z 32 (.maxi false (.k 1125899906842624) (.t 31)),.m 6 32])))))))) (.ops [.m 22 8,.b 23 .add 3 22 1,.m 8 23])))))) (.q [.m 80 6,.m 2 80] .ret))))))))
def r_ref12_Steps:My Tryz.prog 85=some ⟨81,zdo.r,[.tmp 2]⟩:=Aa
def zag:LC:=(.q [.x 2 0,.F 4] (.seq (.q [.m 7 1,.s 8 7,.f 9 1 2,.l 10 9,.s 11 10,.c 12 .neq 3 8 11] (.cond (.t 12) (.q [.F 4] .ret) .skip)) (.seq (.q [.K 5 0] (.block 0 (.loop (.seq (.q [.m 13 5,.m 14 1,.s 15 14,.c 16 .lss 3 13 15] (.cond (.t 16) .skip (.exit 0))) (.seq (.block 1 (.q [.f 19 1 2,.l 20 19,.m 21 5,.I 22 3 20 21,.f 23 0 22,.l 24 23,.m 6 24] (.seq (.q [.f 25 1 2,.l 26 25,.m 27 5,.I 28 3 26 27,.f 29 1 28,.l 30 29,.b 31 .eql 3 30 3] (.cond (.t 31) (.ops [.K 6 0]) .skip)) (.q [.m 32 1,.m 33 5,.I 34 1 32 33,.l 35 34,.s 36 35,.m 37 6,.c 38 .neq 3 36 37] (.cond (.t 38) (.q [.F 4] .ret) .skip))))) (.ops [.m 17 5,.b 18 .add 3 17 1,.m 5 18])))))) (.q [.z 4 (.move .T)] .ret))))
def r_ref12_Rows:My Tryz.prog 86=some ⟨39,zag.r,[.tmp 4]⟩:=Aa
def zku{g:Int}{z:List Bf}:∀(l:List Lo) (i:Nat) (m:List Bool) (A:List Int),(Ys g z i m A l).2=0→∀o∈l,Po g z o=true
 |[],_,_,_,_,o,ho=>by cases ho
 |o::l,i,m,A,h,x,B=>by
  unfold Ys at h;by_cases j:(T2 g z m A o).1=0
  ·rw[Hv j]at h;rcases H5.1 B with rfl|B
   ·cases C:Po g z x with
    |true=>rfl
    |false =>
     unfold T2 at j;rw[Hv C]at j;exact absurd (show (2:Int)=0 from j) Ad
   ·exact zku l _ _ _ h x B
  ·rw[Hs j]at h;exact absurd h j
def z70{os:List Lo}(h:(P5 z X os).2=0):0≤z∧z≤64∧X.length≤32∧os.length≤65536∧(∀b∈X,1≤b.size∧b.size≤65536)∧∀o∈os,Po z X o=true:=by
 unfold P5 at h;split at h
 ·exact absurd h Ad
 split at h
 ·exact absurd h Ad
 split at h
 ·exact absurd h Ad
 split at h
 ·exact absurd h Ad
 rename_i B g C j;refine⟨J,J,J,J,λb A=>?_,zku _ _ _ _ h⟩;rw[Iw]at g j;have D:¬65536<b.size:=λq=>g ⟨b,A,by simpa using q⟩
 have E:¬b.size<1:=λq=>j ⟨b,A,by simp[q]⟩
 omega
def zni{o:Lo}(h:Po z X o=true)(k:o.kind=16):1≤o.imm.toNat∧o.imm.toNat≤1048576:=by
 unfold Po at h;simp[k,Om]at h;obtain⟨_,_,_,_,_,_,_,g,j⟩:=h;have g:=J5.1 g;have j:=J5.1 j;exact⟨g,j⟩
def y8(l:List Nat):List LV:=l.reverse.map λ(a:Nat)=>LV.i (a:Int)
def zmh(a:Nat)(l:List Nat):y8 (a::l)=y8 l++[.i (a:Int)]:=by simp[y8]
def zs7(l:List Nat):(y8 l).length=l.length:=by simp[y8]
def dm{l:List Lo}{i:Nat}{v:Lo}(h:l[i]?=some v):(P1 l)[i*8]?=some (.i v.kind):=by have:=zb h (j:=0) J;simpa [Lo.f] using this
def lo_at7{l:List Lo}{i:Nat}{v:Lo}(h:l[i]?=some v):(P1 l)[i*8+7]?=some (.u v.imm):=by have:=zb h (j:=7) J;simpa [Lo.f] using this
def zw3{l:List LV}{i:Nat}{x:LV}(h:i<l.length):Ns l i [x]=l.set i x:=by
 rw[Io,Hv h];simp[Ns]
def layI(l:List Int)(i:Nat)(x:Int)(h:i<l.length):Ns (l.map LV.i) i [.i x]=(l.set i x).map LV.i:=by
 rw[I3,Io,Hv Av];simp[Ns]
def repIs(n:Nat):Oj [.i 0] n=(List.replicate n (0:Int)).map LV.i:=by
 induction n with
 |zero=>rfl
 |succ n g=>rw[Oj,g,Kg];rfl
def zlx{os:List Lo}(hc:(P5 z X os).2=0)(D:Vt Pu 0 os):Od 87 [.agg (Mv z X os)] (.lst ((Us 0 [] (List.replicate os.length 0) os).map .i) os.length 1):=by
 obtain⟨_,_,_,gH,_,gA⟩:=z70 hc;refine Ra.mk Fb (Mz r_ref12_Ends Aa (by simp) ?_);simp[zfs,Mv];refine M2 (z4f z X os) (bors_self _ A5) ?_;obtain⟨gG,hE⟩:∃gG,Us 0 [] (List.replicate os.length 0) os=gG:=⟨_,rfl⟩;have gI:gG.length=os.length:=by rw[←hE,endsR_len];simp
 rw[hE];simp[hc];refine⟨J,?_⟩;refine Oc (λρ gM gg N=>∃(i st:Nat) (j:List Int) (B:List Nat) (v:LV),gM=[]∧N+i=os.length∧lk ρ 1=.ptr 0 0∧lk ρ 5=.dy 1 0∧lk ρ 6=v∧lk ρ 7=.i i∧gg[0]?=some (.cells (Mv z X os) 0)∧gg[1]?=some (.dyn (j.map .i) os.length 1 0 st)∧j.length=os.length∧N9 2 gg v 1 B.length (y8 B)∧2≤gg.length ∧
   (∀a∈B,a<i)∧B.length≤i∧Vt Pu B.length (os.drop i)∧Us i B j (os.drop i)=gG) (N:=os.length)
  ⟨0,0,List.replicate os.length 0,[],.nilSl,rfl,J,by simp,by simp,by simp,by simp,Bq,by simp[repIs],by simp,N9.nil,by simp,by simp,by simp,Ee,by simpa using hE⟩ ?_
 clear D;rintro N ρ gM gg ⟨i,st,j,B,v,rfl,hN,K,I,T,P,E,G,g,gC,U,H,L,D,F⟩ Nx M;by_cases gz:i<os.length
 case neg =>
  rw[Jk J]at F;have:j=gG:=F;subst this;simp[K,I,P,E,Mv,gz,Nh,bor,G,W6]
 have ho:=yj gz;have O:=dm ho;have gK:=gA _ (Ia ho);rw[zh4 gz]at F D;generalize ap os i=o at *;have l0:0<gg.length:=J
 have l1:1<gg.length:=J
 have gL:=qi gz;unfold Us at F;unfold Vt at D;have Q:∀x:LObj,(gg.set 1 x)[0]?=some (.cells (Mv z X os) 0):=λx=>by rw[Ho J];exact E
 have s1:∀x:LObj,(gg.set 1 x)[1]?=some x:=λx=>Hu l1
 have R:∀x:LObj,N9 2 (gg.set 1 x) v 1 B.length (y8 B):=λx=>gC.set_lt J
 by_cases A:o.kind=16
 ·rw[Hv A]at F;rw[Hv (by simp[Pu,A])]at D;simp[K,I,T,P,E,G,Mv,gz,g,layI,↓Q,Mr O,A]
  repeat (refine⟨J,?_⟩)
  refine N9.push (x:=[.i (i:Int)]) (R _).push_end J Ab J rfl rfl λv' G5 gD V gE _=>?_
  simp[P];refine⟨J,M _ _ _ ⟨N-1,J,i+1,st+1,j.set i (-1),i::B,v',rfl,J,A9,Ay,by simp,by simp,?_,?_,A2,by rw[zmh];exact gD,by simp at gE;omega,λa ha=>?_,Ab,D,F⟩⟩
  ·rw[V 0 J,M6 (by simpa using l0)];exact Q _
  ·rw[V 1 J,M6 (by simpa using l1),←I3];exact s1 _
  ·rcases H5.1 ha with rfl|ha
   ·omega
   ·have:=H a ha;omega
 by_cases C:o.kind=17
 ·rw[Hs A,Hv C]at F;rw[Hs (by simp[Pu,C]),Hv (by simp[Pu,C])]at D;obtain⟨hd,D⟩:=D;cases B with
  |nil=>simp at hd
  |cons a B =>
  have ha:=H a (Ir ..);simp[K,I,T,P,E,G,Mv,gz,g,layI,↓Q,Mr O,A,C]
  repeat (refine⟨J,?_⟩)
  refine (R _).lenL ?_;simp;refine⟨by simp at L;omega,(R _).at1 J Ab λw hw=>?_⟩;simp;refine hw _ ?_;have Y:(y8 (a::B))[B.length]?=some (.i (a:Int)):=by
   rw[zmh,H9 (by rw[zs7];exact Hw _)];simp[zs7]
  simp only[If];refine⟨_,Y,?_⟩;simp[T];refine (R _).lenL ?_;simp;refine⟨by simp at L;omega,(R _).cut (m:=B.length) (by simp) (λK' k'=>k') (λd K' k'=>⟨J,k'⟩) λv' Z=>?_⟩;have gF:a<os.length:=J
  simp[I,P,↓s1,gz,g,zw3,gF];rw[zmh,Kf (by rw[zs7];omega)]at Z
  repeat (refine⟨J,?_⟩)
  refine M _ _ _ ⟨N-1,J,i+1,st+1+1+1,((j.set i (-1)).set i a).set a i,B,v',rfl,J,A9,Ay,by simp,by simp,?_,?_,A2,?_,Cz,λx Y=>by have:=H x (Ij _ Y);omega,by simp at L;omega,?_,F⟩
  ·exact Q _
  ·rw[Hu (by simpa using l1)];simp
  ·have h:=Z.set_lt (q:=1) (ob:=.dyn ((((j.map LV.i).set i (.i (-1))).set i (.i a)).set a (.i i)) os.length 1 0 (st+1+1+1)) J;rw[List.set_set]at h;simpa using h
  ·simpa using D
 rw[Hs A,Hs C]at F;rw[Hs (by simp[Pu,A];split<;>simp),Hs (by simp[Pu,A,C])]at D;simp[K,I,T,P,E,G,Mv,gz,g,layI,↓Q,Mr O,A,C]
 repeat (refine⟨J,?_⟩)
 refine M _ _ _ ⟨N-1,J,i+1,st+1,j.set i (-1),B,v,rfl,J,A9,Ay,Bc,by simp,Q _,?_,A2,R _,Cz,λx Y=>by have:=H x Y;omega,J,D.2,F⟩;rw[←I3];exact s1 _
def y9(l:List (Int×Int)):List LV:=l.reverse.map λe=>LV.i e.1
def zk(l:List (Int×Int)):List LV:=l.reverse.map λe=>LV.i e.2
def zgx(a:Int×Int)(l:List (Int×Int)):y9 (a::l)=y9 l++[.i a.1]:=by simp[y9]
def zh0(a:Int×Int)(l:List (Int×Int)):zk (a::l)=zk l++[.i a.2]:=by simp[zk]
def zmf(l:List (Int×Int)):(y9 l).length=l.length:=by simp[y9]
def zn5(l:List (Int×Int)):(zk l).length=l.length:=by simp[zk]
def zk3{os:List Lo}(hc:(P5 z X os).2=0)(G:Vt Pu 0 os):Mu 85 [.agg (Mv z X os)] (.i (U5 [] 0 os)) []:=by
 obtain⟨_,_,_,jz,_,gM⟩:=z70 hc;refine Ng.val rfl (Mz r_ref12_Steps Aa (by simp) ?_);simp[zdo,Mv];refine M2 (z4f z X os) (bors_self _ A5) ?_;obtain⟨jg,B⟩:∃jg,U5 [] 0 os=jg:=⟨_,rfl⟩;rw[B];simp[hc];refine Oc (λρ jD gC N=>∃(i:Nat) (s:Int) (g:List (Int×Int)) (v w:LV),jD=[]∧N+i=os.length∧lk ρ 1=.ptr 0 0∧lk ρ 5=v∧lk ρ 6=.i s∧lk ρ 7=w∧lk ρ 8=.i i∧gC[0]?=some (.cells (Mv z X os) 0)∧N9 1 gC v 1 g.length (y9 g)∧N9 1 gC w 1 g.length (zk g)∧(∀q,Yw v=some q→Yw w≠some q)∧1≤gC.length ∧
   (0≤s∧s≤1125899906842624)∧(∀e∈g,(0≤e.1∧e.1≤1125899906842624)∧1≤e.2∧e.2≤1048576)∧g.length≤i∧Vt Pu g.length (os.drop i)∧U5 g s (os.drop i)=jg) (N:=os.length)
  ⟨0,0,[],.nilSl,.nilSl,rfl,J,by simp,by simp,by simp,by simp,by simp,Bq,N9.nil,N9.nil,by simp[Yw],by simp,by simp,by simp,by simp,Bk,by simpa using B⟩ ?_
 clear G B;rintro N ρ jD gC ⟨i,s,g,v,w,rfl,hN,P,M,R,Q,T,j,hv,hw,C,U,⟨gD,D⟩,I,gO,G,B⟩ Nx O;by_cases gP:i<os.length
 case neg =>
  rw[Jk J]at B;have:s=jg:=B;subst this;simp[P,M,R,T,j,Mv,gP]
 have ho:=yj gP;have V:=dm ho;have gQ:=lo_at7 ho;have gR:=gM _ (Ia ho);rw[zh4 gP]at B G;generalize ap os i=o at *;have l0:0<gC.length:=J
 have jA:=qi gP;have g9:i*8+7<(P1 os).length:=J
 unfold U5 at B;unfold Vt at G;by_cases A:o.kind=16
 ·rw[Hv A]at B;rw[Hv (by simp[Pu,A])]at G;obtain⟨t1,t2⟩:=zni gR A;have e1:0≤((o.imm.toNat:Nat):Int):=J
  have q0:∀x:List LObj,(gC++x)[0]?=some (.cells (Mv z X os) 0):=λx=>(M6 l0).trans j
  have z0:∀(x:List LObj) (h:0<(gC++x).length),(gC++x)[0]=.cells (Mv z X os) 0:=λx h=>Option.some.inj ((Ht h).symm.trans (q0 x))
  simp[P,M,R,Q,T,j,Mv,gP,Mr V,Mr gQ,A,↓q0,z0];refine⟨J,?_⟩;refine N9.push2 (x:=[.i s]) hv.push_end J (by simp) J rfl rfl λY G5 Z gg gT gU=>?_
  simp at gT;have gE:G5[0]?=some (.cells (Mv z X os) 0):=by rw[gg 0 (by simp) (λe=>by have:=(hv.row e).1;omega)];exact q0 _
  have gV:G5[gC.length+1]?=some (.dyn [.i (o.imm.toNat:Int)] 1 1 0 0):=by
   rw[gg _ (by simp) (λe=>by have:=(hv.row e).2.1;omega),H9 J,(J:gC.length+1-gC.length=1)];rfl
  have gF:N9 1 G5 w 1 g.length (zk g):=(hw.push_end (ob:=[.dyn [.i s] 1 1 0 0,.dyn [.i (o.imm.toNat:Int)] 1 1 0 0])).frame2 λq H=>gg q (by have:=(hw.row H).2.1;simp;omega) (λe=>C q e H)
  simp[gE,gV,Mv,z0];refine N9.push2 (x:=[.i (o.imm.toNat:Int)]) gF J J J rfl rfl λw' G6 gY gG jB gZ=>?_
  have gH:∀q,Yw Y=some q→Yw w≠some q:=λq H e=>by
   rcases gU with h|h
   ·exact C q (by rw[←h];exact H) e
   ·rw[h]at H;have:=(hw.row e).2.1;have H:=Option.some.inj H;simp at H;omega
  have g8:N9 1 G6 Y 1 (g.length+1) (y9 g++[.i s]):=Z.frame2 λq H=>gG q (Z.row H).2.1 (gH q H)
  have gI:G6[0]?=some (.cells (Mv z X os) 0):=by rw[gG 0 J (λe=>by have:=(gF.row e).1;omega)];exact gE
  simp[gI,Mv,T];refine⟨J,O _ _ _ ⟨N-1,J,i+1,1,(s,(o.imm.toNat:Int))::g,Y,w',rfl,J,C7,by simp,by simp,by simp,by simp,gI,by rw[zgx];exact g8,by rw[zh0];exact gY,λq H=>?_,J,⟨J,J⟩,λe he=>?_,Ab,G,B⟩⟩
  ·rcases gZ with h|h
   ·rw[h];exact gH q H
   ·rw[h];have:=(Z.row H).2.1;intro e;have e:=Option.some.inj e;omega
  ·rcases H5.1 he with rfl|he
   ·exact⟨⟨gD,D⟩,by show (1:Int)≤_;omega,by show _≤(1048576:Int);omega⟩
   ·exact I e he
 by_cases E:o.kind=17
 ·rw[Hs A,Hv E]at B;rw[Hs (by simp[Pu,E]),Hv (by simp[Pu,E])]at G;obtain⟨hd,G⟩:=G;cases g with
  |nil=>simp at hd
  |cons a g =>
  obtain⟨a0,L⟩:=a;obtain⟨⟨b0,b1⟩,b2,b3⟩:=I _ (Ir ..);dsimp only at b0 b1 b2 b3 B;have gK:(y9 ((a0,L)::g))[g.length]?=some (.i a0):=by
   rw[zgx,H9 (by rw[zmf];exact Hw _)];simp[zmf]
  have gL:(zk ((a0,L)::g))[g.length]?=some (.i L):=by
   rw[zh0,H9 (by rw[zn5];exact Hw _)];simp[zn5]
  simp[P,M,R,Q,T,j,Mv,gP,Mr V,A,E];refine hv.lenL ?_;simp[Q,R];simp at gO;refine⟨J,hw.at1 J Ab λx hx=>?_⟩;simp;refine hx _ ?_;simp only[If];refine⟨_,gL,?_⟩;simp[R];have ht:Int.tdiv 1125899906842624 L=1125899906842624/L:=Int.tdiv_eq_ediv_of_nonneg J;rw[ht];have t0:0≤1125899906842624/L:=Int.ediv_nonneg J J;have t1:1125899906842624/L≤1125899906842624:=Int.ediv_le_self _ J;refine⟨J,J,λq=>?_,λq=>?_⟩
  ·rw[Hv q]at B;simp[M];refine hv.at1 J Ab λy hy=>?_
   simp;refine hy _ ?_;simp only[If];refine⟨_,gK,?_⟩;simp[M]
   repeat (refine⟨J,?_⟩)
   refine hv.cut2 (m:=g.length) (by simp) (λK' F=>F) (λd K' F=>F) λY D gz=>?_
   simp[Q];refine hw.cut2 (m:=g.length) (by simp) (λK' F=>F) (λd K' F=>F) λw' K gA=>?_
   rw[zgx,Kf (by rw[zmf];omega)]at D;rw[zh0,Kf (by rw[zn5];omega)]at K;simp[T,j,Mv];refine⟨J,O _ _ _ ⟨N-1,J,i+1,_,g,Y,w',rfl,J,C7,by simp,by simp,by simp,by simp,j,D,K,λq=>by rw[gz,gA];exact C q,U,⟨J,J⟩,λe he=>I e (Ij _ he),J,Bk,B⟩⟩
  ·rw[Hs J]at B;have hm:0≤s*L:=Int.mul_nonneg gD J;have jC:s*L≤1125899906842624:=Int.le_trans (Int.mul_le_mul_of_nonneg_right (J:s≤1125899906842624/L) J) (Int.ediv_mul_le _ J);simp[R,Q];refine hw.at1 J Ab λjE hz=>?_
   simp;refine hz _ ?_;simp only[If];refine⟨_,gL,?_⟩;simp[M]
   repeat (refine⟨J,?_⟩)
   refine hv.at1 J Ab λy hy=>?_
   simp;refine hy _ ?_;simp only[If];refine⟨_,gK,?_⟩;simp[M]
   repeat (refine⟨J,?_⟩)
   refine hv.cut2 (m:=g.length) (by simp) (λK' F=>F) (λd K' F=>F) λY D gz=>?_
   simp[Q];refine hw.cut2 (m:=g.length) (by simp) (λK' F=>F) (λd K' F=>F) λw' K gA=>?_
   rw[zgx,Kf (by rw[zmf];omega)]at D;rw[zh0,Kf (by rw[zn5];omega)]at K;simp[T,j,Mv];refine⟨J,O _ _ _ ⟨N-1,J,i+1,_,g,Y,w',rfl,J,C7,by simp,by simp,by simp,by simp,j,D,K,λq=>by rw[gz,gA];exact C q,U,⟨J,J⟩,λe he=>I e (Ij _ he),J,Bk,B⟩⟩
 rw[Hs A,Hs E]at B;rw[Hs (by simp[Pu,A];split<;>simp),Hs (by simp[Pu,A,E])]at G;simp[P,M,R,Q,T,j,Mv,gP,Mr V,A,E]
 repeat (refine⟨J,?_⟩)
 refine O _ _ _ ⟨N-1,J,i+1,_,g,v,w,rfl,J,C7,A0,by simp,by simp[Q],by simp,j,hv,hw,C,U,⟨J,J⟩,I,J,G.2,B⟩
section
def z81:LC:=(.q [.z 4 (.move (.c (.u 0)))] (.seq (.q [.m 5 1,.b 6 .lss 3 5 0] (.cond (.t 6) (.q [.z 4 (.move (.c (.u 0)))] .ret) .skip)) (.q [.m 7 0,.N 8 7,.f 9 3 8,.l 10 9,.m 11 1,.I 12 1 10 11,.l 13 12,.m 4 13] .ret)))
def r_ref12_run_at:My Tryz.prog 148=some ⟨14,z81.r,[.tmp 4]⟩:=Aa
def zc6:LC:=(.q [.F 4] (.q [.m 17 0,.N 18 17,.f 19 0 18,.f 20 2 19,.l 21 20,.m 22 1,.I 23 8 21 22,.L 24 8 23,.z 5 (.alloc [(.i 0),(.i 0),(.i 0),(.i 0),(.i 0),(.i 0),(.i 0),(.u 0)]),.S 8 5 24] (.seq (.draw [(.m 25 0,[]),(.f 26 3 5,[]),(.l 27 26,[]),(.m 29 0,[]),(.f 30 4 5,[]),(.l 31 30,[]),(.m 33 0,[]),(.f 34 5 5,[]),(.l 35 34,[]),(.W 28 148 25 27,[(.l 35 34,false),(.l 31 30,false)]),(.W 32 148 29 31,[(.l 35 34,false)]),(.W 36 148 33 35,[]),(.u 37 .rem 23 36 2,[]),(.u 38 .eql 23 37 1,[]),(.m 6 28,[]),(.m 7 32,[]),(.m 8 38,[])]) (.q [.K 9 (-1)] (.q [.z 10 (.move (.c (.u 0))),.z 11 (.move (.c (.u 0)))] (.seq (.q [.f 39 0 5,.l 40 39] (.block 0 (.q [.b 42 .eql 3 40 1,.m 41 42] (.cond (.t 41) (.ops [.f 43 7 5,.l 44 43,.m 10 44]) (.q [.b 46 .eql 3 40 2,.m 45 46] (.cond (.t 45) (.ops [.m 47 6,.m 10 47]) (.q [.b 49 .eql 3 40 3,.m 48 49] (.cond (.t 48) (.ops [.m 50 6,.m 51 7,.c 52 .add 23 50 51,.m 10 52]) (.q [.b 54 .eql 3 40 4,.m 53 54] (.cond (.t 53) (.ops [.m 55 6,.m 56 7,.c 57 .sub 23 55 56,.m 10 57]) (.q [.b 59 .eql 3 40 5,.m 58 59] (.cond (.t 58) (.ops [.m 60 6,.m 61 7,.c 62 .and 23 60 61,.m 10 62]) (.q [.b 64 .eql 3 40 6,.m 63 64] (.cond (.t 63) (.ops [.m 65 6,.m 66 7,.c 67 .or 23 65 66,.m 10 67]) (.q [.b 69 .eql 3 40 7,.m 68 69] (.cond (.t 68) (.ops [.m 70 6,.m 71 7,.c 72 .xor 23 70 71,.m 10 72]) (.q [.b 74 .eql 3 40 8,.m 73 74] (.cond (.t 73) (.ops [.m 75 6,.f 76 7 5,.l 77 76,.c 78 .shl 23 75 77,.m 10 78]) (.q [.b 80 .eql 3 40 9,.m 79 80] (.cond (.t 79) (.ops [.m 81 6,.f 82 7 5,.l 83 82,.c 84 .shr 23 81 83,.m 10 84]) (.q [.b 86 .eql 3 40 10,.m 85 86] (.cond (.t 85) (.ops [.m 88 6,.m 89 7,.W 90 91 88 89,.m 87 90,.X 91 0 87,.X 92 1 87,.m 10 91,.m 11 92]) (.q [.b 94 .eql 3 40 11,.m 93 94] (.cond (.t 93) (.q [.m 96 6,.m 97 7,.m 98 8,.V 99 92 96 97 98,.m 95 99,.X 100 0 95,.X 101 1 95,.m 12 100,.m 13 101] (.ops [.m 102 12,.m 103 13,.w 104 149 103,.m 10 102,.m 11 104])) (.q [.b 106 .eql 3 40 12,.m 105 106] (.cond (.t 105) (.q [.m 108 6,.m 109 7,.m 110 8,.V 111 147 108 109 110,.m 107 111,.X 112 0 107,.X 113 1 107,.m 14 112,.m 15 113] (.ops [.m 114 14,.m 115 15,.w 116 149 115,.m 10 114,.m 11 116])) (.q [.b 118 .eql 3 40 13,.m 117 118] (.cond (.t 117) (.q [.m 119 7,.m 10 119] (.q [.m 120 8] (.cond (.t 120) (.ops [.m 121 6,.m 10 121]) .skip))) (.seq (.q [.b 123 .eql 3 40 14,.m 122 123] (.cond (.t 122) .skip (.ops [.b 124 .eql 3 40 15,.m 122 124]))) (.cond (.t 122) (.q [.f 125 7 5,.l 126 125,.m 127 6,.c 128 .add 23 126 127,.m 16 128] (.seq (.seq (.draw [(.m 129 16,[]),(.m 130 0,[]),(.N 131 130,[]),(.f 132 4 131,[]),(.l 133 132,[]),(.f 134 6 5,[]),(.l 135 134,[]),(.I 136 1 133 135,[]),(.l 137 136,[]),(.s 138 137,[]),(.z 139 (.cvInt .u64 (.t 138)),[]),(.c 140 .geq 23 129 139,[])]) (.cond (.t 140) (.q [.F 4] .ret) .skip)) (.q [.m 141 16,.z 142 (.cvInt .i64 (.t 141)),.m 9 142] (.q [.f 143 0 5,.l 144 143,.b 145 .eql 3 144 15] (.cond (.t 145) (.draw [(.m 146 0,[]),(.N 147 146,[]),(.f 148 4 147,[]),(.l 149 148,[]),(.f 150 6 5,[]),(.l 151 150,[]),(.I 152 1 149 151,[]),(.l 153 152,[]),(.m 154 16,[]),(.m 155 7,[]),(.I 156 1 153 154,[]),(.S 1 156 155,[])]) (.draw [(.m 157 0,[]),(.N 158 157,[]),(.f 159 4 158,[]),(.l 160 159,[]),(.f 161 6 5,[]),(.l 162 161,[]),(.I 163 1 160 162,[]),(.l 164 163,[]),(.m 165 16,[]),(.I 166 1 164 165,[]),(.l 167 166,[]),(.m 10 167,[])])))))) .skip)))))))))))))))))))))))))))))) (.seq (.q [.f 168 1 5,.l 169 168,.b 170 .geq 3 169 0] (.cond (.t 170) (.draw [(.m 171 0,[]),(.N 172 171,[]),(.f 173 3 172,[]),(.l 174 173,[]),(.f 175 1 5,[]),(.l 176 175,[]),(.m 177 10,[]),(.I 178 1 174 176,[]),(.S 1 178 177,[])]) .skip)) (.seq (.q [.f 179 2 5,.l 180 179,.b 181 .geq 3 180 0] (.cond (.t 181) (.draw [(.m 182 0,[]),(.N 183 182,[]),(.f 184 3 183,[]),(.l 185 184,[]),(.f 186 2 5,[]),(.l 187 186,[]),(.m 188 11,[]),(.I 189 1 185 187,[]),(.S 1 189 188,[])]) .skip)) (.q [.m 190 0,.m 191 0,.N 192 191,.f 193 5 192,.l 194 193,.m 195 1,.m 196 9,.z 197 (.build [(.i 0),(.i 0)] [(0,1,.t 195),(1,1,.t 196)]),.z 198 (.buildSl 2 1 [(.i 0),(.i 0)] [(0,2,.t 197)]),.a 199 2 194 198,.N 200 190,.f 201 5 200,.S 1 201 199] (.q [.z 4 (.move .T)] .ret))))))))))
def r_ref12_run_do:My Tryz.prog 88=some ⟨202,zc6.r,[.tmp 4]⟩:=Aa
def br(bs:List Bf)(X:List (List UInt64)):Bool:=decide (X.length=bs.length∧∀i,i<bs.length→((X.getD i []).length:Int)=if (M7 bs i).kind=3 then 0 else (M7 bs i).size)
def znf(regs:Int)(bs:List Bf)(os:List Lo)(F:List (List UInt64))(hX:F.length≤9223372036854775807):Mu 86 [.agg (Mv regs bs os),LN F] (.bool (br bs F)) []:=by
 refine Ng.val rfl (Mz r_ref12_Rows Aa (by simp) ?_);by_cases I:F.length=bs.length
 case neg =>
  have T:¬(F.length:Int)=bs.length:=J
  simp[zag,Mv,br,I,T]
 simp[zag,Mv,I];refine Oc (λY gg G N=>∃i:Nat,gg=[]∧G=[.cells (Mv regs bs os) 0]∧N+i=bs.length∧lk Y 1=LN F∧lk Y 2=.ptr 0 0∧lk Y 5=.i i∧∀B,B<i→((F.getD B []).length:Int)=if (M7 bs B).kind=3 then 0 else (M7 bs B).size) (N:=bs.length)
  ⟨0,rfl,Bq,J,Ay,by simp,by simp,λB h=>J⟩ ?_
 rintro N Y gg G ⟨i,rfl,rfl,hN,C,D,K,X⟩ Nx M;by_cases R:i<bs.length
 case neg =>
  have:br bs F=true:=by
   unfold br;exact I7 ⟨I,λB Z=>X B J⟩
  simp[C,D,K,I,R,this]
 have P:=ub (Rg R);have Q:=zlk (Rg R);have O:i<F.length:=J
 have j:¬F.length≤i:=J
 obtain⟨x,U⟩:∃x,F.getD i []=x:=⟨_,rfl⟩;have z:F[i]=x:=by rw[←U];simp[O]
 have A:¬(x.length:Int)=(if (M7 bs i).kind=3 then 0 else (M7 bs i).size)→br bs F=false:=λh=>by
  unfold br;exact Li (λq=>h (by rw[←U];exact q.2 i R))
 have g:(x.length:Int)=(if (M7 bs i).kind=3 then 0 else (M7 bs i).size)→∀B,B<i+1→((F.getD B []).length:Int)=if (M7 bs B).kind=3 then 0 else (M7 bs B).size:=λh B Z=>by
  by_cases q:B=i
  ·rw[q,U];exact h
  ·exact X B J
 by_cases H:(M7 bs i).kind=3
 ·rw[Hv H]at A g;by_cases e:(x.length:Int)=0
  ·have V:x=[]:=Ic J;have E:=g e;subst V;simp[C,D,K,Mv,R,O,j,Mr P,Mr Q,H,z]
   repeat (refine⟨J,?_⟩)
   exact M _ _ _ ⟨N-1,J,i+1,rfl,Bq,J,Al,Ak,by simp,E⟩
  ·have e':x≠[]:=λq=>e Ea
   simp[C,D,K,Mv,R,O,j,Mr P,Mr Q,H,z,e',A e]
 ·rw[Hs H]at A g;by_cases e:(x.length:Int)=(M7 bs i).size
  ·simp[C,D,K,Mv,R,O,j,Mr P,Mr Q,H,z,e]
   repeat (refine⟨J,?_⟩)
   exact M _ _ _ ⟨N-1,J,i+1,rfl,Bq,J,Al,Ak,by simp,g e⟩
  ·simp[C,D,K,Mv,R,O,j,Mr P,Mr Q,H,z,e,A e]
def T9(l:List (Int×Int)):List LV:=l.flatMap λe=>[.i e.1,.i e.2]
def zxb(a b:List (Int×Int)):T9 (a++b)=T9 a++T9 b:=by simp[T9]
structure MsH (G:Mp) (x pr pb kb:Nat) (qs:List Nat) (b:Nat) (regs:Int) (bs:List Bf) (os:List Lo) (L:LV) (s:Ms):Prop where
 xc:∃st,G[x]?=some (.cells [.i regs,.lst (O8 bs) bs.length 3,.lst (P1 os) os.length 8,.dy pr 0,.dy pb kb,L] st)
 rr:∃st,G[pr]?=some (.dyn (s.r.map .u) s.r.length 1 0 st)
 bb:∃st,G[pb]?=some (.dyn (qs.map λq=>.dy q 0) qs.length 1 kb st)
 row:∀j,j<qs.length→∃st,G[qs.getD j 0]?=some (.dyn ((s.bufs.getD j []).map .u) (s.bufs.getD j []).length 1 0 st)
 bl:s.bufs.length=qs.length
 lt:x<b∧pr<b∧pb<b∧x≠pr∧x≠pb∧pr≠pb
 qlt:∀q∈qs,q<b∧q≠x∧q≠pr∧q≠pb
 nd:qs.Nodup
 ev:N9 b G L 2 s.l.length (T9 s.l)
 bG:b≤G.length
section msh
variable {G G' : Mp} {x pr pb kb : Nat} {qs : List Nat} {b : Nat} {regs : Int} {bs : List Bf} {os : List Lo} {L : LV} {s : Ms}
def MsH.keep(h:MsH G x pr pb kb qs b regs bs os L s)(hf:∀q,q<G.length→G'[q]?=G[q]?)(hl:G.length≤G'.length):MsH G' x pr pb kb qs b regs bs os L s:=by
 have e:∀{q:Nat} {ob:LObj},G[q]?=some ob→G'[q]?=some ob:=λj=>by rw[hf _ (Hm.1 j).1];exact j
 refine⟨?_,?_,?_,λgg hj=>?_,h.bl,h.lt,h.qlt,h.nd,h.ev.frame λq _ j=>hf q j,Is h.bG hl⟩
 ·obtain⟨st,h⟩:=h.xc;exact⟨st,e h⟩
 ·obtain⟨st,h⟩:=h.rr;exact⟨st,e h⟩
 ·obtain⟨st,h⟩:=h.bb;exact⟨st,e h⟩
 ·obtain⟨st,h⟩:=h.row gg hj;exact⟨st,e h⟩
def zf4{r:Int}(h:MsH G x pr pb kb qs b regs bs os L s)(B:r<s.r.length)(k:Y (.u (atR s.r r)) G):Ol (.fn 148) [.ptr x 0,.i r] G Y:=by
 refine Mz r_ref12_run_at Aa N ?_;obtain⟨C,j⟩:=h.xc;obtain⟨D,z⟩:=h.rr;unfold atR at k;by_cases A:r<0
 ·rw[Hv A]at k;simp[z81,A];exact k
 ·rw[Hs A]at k;obtain⟨n,rfl⟩:=Hr (J:0≤r);have g:n<s.r.length:=J
  have q:(s.r.map LV.u)[n]?=some (.u (s.r.getD n 0)):=by simp[g,Hn]
  rw[If]at k;rw[show s.r.getD n 0=s.r[n] from by simp[Hn,g]]at k;simp[z81,j,z,g,(J:¬((n:Int)<0))];exact k
def MsH.putr(h:MsH G x pr pb kb qs b regs bs os L s){i:Int}{v:UInt64}{st:Nat}:MsH (G.set pr (.dyn ((Mw s.r i v).map .u) s.r.length 1 0 st)) x pr pb kb qs b regs bs os L ⟨s.i,s.first,Mw s.r i v,s.bufs,s.l⟩:=by
 obtain⟨l1,l2,l3,l4,l5,l6⟩:=h.lt;have j:pr<G.length:=by obtain⟨st,h⟩:=h.rr;exact (Hm.1 h).1
 have gg:(Mw s.r i v).length=s.r.length:=D0
 have ne:∀{q:Nat} {ob:LObj},q≠pr→(G.set pr ob)[q]?=G[q]?:=λhq=>Ho (Ne.symm hq)
 refine⟨?_,⟨st,?_⟩,?_,λgz hj=>?_,h.bl,h.lt,h.qlt,h.nd,h.ev.set_lt l2,by rw[Jv];exact h.bG⟩
 ·obtain⟨st,h⟩:=h.xc;exact⟨st,by rw[ne l4];exact h⟩
 ·rw[Hu j];show _=some (LObj.dyn ((Mw s.r i v).map .u) (Mw s.r i v).length 1 0 st);rw[gg]
 ·obtain⟨st,h⟩:=h.bb;exact⟨st,by rw[ne (Ne.symm l6)];exact h⟩
 ·obtain⟨st,h'⟩:=h.row gz hj;refine⟨st,?_⟩;rw[ne (h.qlt _ En).2.2.1];exact h'
def MsH.sto(h:MsH G x pr pb kb qs b regs bs os L s){j:Nat}{row:List UInt64}{st:Nat}(hj:j<qs.length):MsH (G.set (qs.getD j 0) (.dyn (row.map .u) row.length 1 0 st)) x pr pb kb qs b regs bs os L ⟨s.i,s.first,s.r,s.bufs.set j row,s.l⟩:=by
 obtain⟨l1,l2,l3,l4,l5,l6⟩:=h.lt;obtain⟨q1,q2,q3,q4⟩:=h.qlt (qs.getD j 0) En;have gz:qs.getD j 0<G.length:=by obtain⟨st,h⟩:=h.row j hj;exact (Hm.1 h).1
 have ne:∀{q:Nat} {ob:LObj},q≠qs.getD j 0→(G.set (qs.getD j 0) ob)[q]?=G[q]?:=λhq=>Ho (Ne.symm hq)
 refine⟨?_,?_,?_,λk hk=>?_,by simpa using h.bl,h.lt,h.qlt,h.nd,h.ev.set_lt q1,by rw[Jv];exact h.bG⟩
 ·obtain⟨st,h⟩:=h.xc;exact⟨st,by rw[ne (Ne.symm q2)];exact h⟩
 ·obtain⟨st,h⟩:=h.rr;exact⟨st,by rw[ne (Ne.symm q3)];exact h⟩
 ·obtain⟨st,h⟩:=h.bb;exact⟨st,by rw[ne (Ne.symm q4)];exact h⟩
 ·show ∃gg,_=some (LObj.dyn (((s.bufs.set j row).getD k []).map .u) ((s.bufs.set j row).getD k []).length 1 0 gg);rw[Vo _ _ _ _ _ (by rw[h.bl];exact hj)];by_cases e:k=j
  ·subst e;rw[Hv rfl];exact⟨st,Hu gz⟩
  ·rw[Hs e];obtain⟨gg,h'⟩:=h.row k hk;refine⟨gg,?_⟩;rw[ne (λq=>e ?_)]
   ·exact h'
   ·simp only[Hn,Ht hk,Ht hj,Jg]at q;exact (List.getElem_inj h.nd).1 q
end msh
def zji{regs:Int}{bs:List Bf}{o:Lo}(h:Po regs bs o=true):(o.d=-1∨0≤o.d∧o.d<regs)∧(o.e=-1∨0≤o.e∧o.e<regs)∧(o.a=-1∨0≤o.a∧o.a<regs)∧(o.b=-1∨0≤o.b∧o.b<regs)∧(o.c=-1∨0≤o.c∧o.c<regs)∧(o.kind=14∨o.kind=15→0≤o.buf∧o.buf<bs.length):=by
 unfold Po at h;simp only[Hq]at h;obtain⟨_,d,e,a,b,c,_,m⟩:=h;have f:∀{x:Int} {t:Bool},Qg regs x t=true→x=-1∨0≤x∧x<regs:=λ{x t} h=>by
  unfold Qg at h;cases t with
  |true=>simp at h;exact .inr h
  |false=>simp at h;exact .inl h
 refine⟨f d,f e,?_,f b,f c,λk=>?_⟩
 ·simp only[Iy,Hq,Hz]at a;exact a.elim f λq=>.inl q.2
 ·rw[Hv (by unfold Om;simpa using k)]at m;simp only[Hq,Hz]at m;exact⟨m.1,m.2.1⟩
def PhiD(x pr pb kb:Nat)(qs:List Nat)(b:Nat)(regs:Int)(bs:List Bf)(os:List Lo)(L:LV)(s:Ms)(o:Lo)(z:Mp)(j:Mq)(B:List Nat)(G:Mp):Prop :=
 B=[]∧lk j 0=.ptr x 0∧lk j 1=.i s.i∧∃(A:Nat) (d e:UInt64) (pl:Int) (g:List (List UInt64)),lk j 5=.ptr A 0∧b≤A∧G[A]?=some (.cells o.f 1)∧lk j 9=.i pl∧lk j 10=.u d∧lk j 11=.u e ∧
  MsH G x pr pb kb qs b regs bs os L ⟨s.i,s.first,s.r,g,s.l⟩∧T7 o s=some ⟨s.i+1,s.first,Mw (Mw s.r o.d d) o.e e,g,s.l++[((s.i:Int),pl)]⟩∧∀q,q<b→q ∉ qs→G[q]?=z[q]?
def do_any{G:Mp}{x pr pb kb:Nat}{qs:List Nat}{b:Nat}{regs:Int}{bs:List Bf}{os:List Lo}{L:LV}{s:Ms}{o:Lo}(h:MsH G x pr pb kb qs b regs bs os L s)(ho:os[s.i]?=some o)(hf:Po regs bs o=true)(jV:o.kind≠16)(jX:o.kind≠17)(jY:(s.r.length:Int)=regs)(jZ:qs.length=bs.length)(j4:s.l.length≤900000000)
  (gQ:∀x∈s.bufs,x.length≤65536)
  (kn:T7 o s=none→∀G',Y (.bool false) G') (ks:∀s' G' L',T7 o s=some s'→MsH G' x pr pb kb qs b regs bs os L' s'→(∀q,q<b→q≠x→q≠pr→q ∉ qs→G'[q]?=G[q]?)→Y (.bool true) G'):Ol (.fn 88) [.ptr x 0,.i s.i] G Y:=by
 obtain⟨rd,re,ra,rb,rc,rm⟩:=zji hf;have j5:1≤o.kind∧o.kind≤17:=by
  unfold Po at hf;simp only[Hq,Hz]at hf;exact hf.1
 have hC:o.f=[.i o.kind,.i o.d,.i o.e,.i o.a,.i o.b,.i o.c,.i o.buf,.u o.imm]:=rfl;have gR:=h.bG;obtain⟨s1,h1⟩:=h.xc;have lx:x<G.length:=(Hm.1 h1).1;have jD:=zbd ho;have jE:=qi (Hm.1 ho).1;have gT:s.i<os.length:=(Hm.1 ho).1;refine Mz r_ref12_run_do Aa N ?_;rw[zc6,zeb,zeb,zeb,zeb,zeb];refine zy2 (PhiD x pr pb kb qs b regs bs os L s o G) (λNx F=>?_) (λρ jT G2 hΦ=>?_)
 ·simp[h1,gT,jD,jE,hC];have j:(G++[LObj.cells o.f 1])[G.length]?=some (.cells o.f 1):=Ie;have E:MsH (G++[LObj.cells o.f 1]) x pr pb kb qs b regs bs os L s:=h.keep (λq H=>M6 H) N;have B:∀q,q<b→q ∉ qs→(G++[LObj.cells o.f 1])[q]?=G[q]?:=λq H _=>M6 (Il H gR)
  have gI:b≤G.length:=gR;rw[hC]at j E B;generalize G++[LObj.cells [.i o.kind,.i o.d,.i o.e,.i o.a,.i o.b,.i o.c,.i o.buf,.u o.imm] 1]=G1 at *;generalize G.length=jF at *;refine zf4 (r:=o.a) E J ?_;simp[j];refine zf4 (r:=o.b) E J ?_;simp[j];refine zf4 (r:=o.c) E J ?_;have gz:o.kind≠14→o.kind≠15→T7 o s=some ⟨s.i+1,s.first,Mw (Mw s.r o.d (Nj o (atR s.r o.a) (atR s.r o.b) (decide (atR s.r o.c%2=1))).1) o.e (Nj o (atR s.r o.a) (atR s.r o.b) (decide (atR s.r o.c%2=1))).2,s.bufs,s.l++[((s.i:Int),(-1:Int))]⟩:=λe1 e2=>by
   unfold T7;rw[Hs e1,Hs e2]
  generalize gK:atR s.r o.a=z at *;generalize jG:atR s.r o.b=A at *;generalize j6:atR s.r o.c=vc at *;by_cases km:o.kind=14∨o.kind=15
  ·obtain⟨m0,m1⟩:=rm km;obtain⟨Q,gA⟩:=Hr m0;have I:Q<qs.length:=J
   obtain⟨s3,h3⟩:=E.row Q I;obtain⟨s4,h4⟩:=E.bb;obtain⟨s5,h5⟩:=E.xc;have gF:(qs.map λq=>LV.dy q 0)[Q]?=some (.dy (qs.getD Q 0) 0):=by simp[Hn,I]
   have gL:Tb s.bufs o.buf=s.bufs.getD Q []:=by unfold Tb;rw[gA];rfl
   have gU:(s.bufs.getD Q []).length≤65536:=gQ _ (by simp[Hn,h.bl,I]);have gV:=λ(jH:List UInt64) (jI:Nat)=>E.sto (row:=jH) (st:=jI) I
   have j7:=(h.qlt (qs.getD Q 0) (by simp[Hn,I])).1;have jK:qs.getD Q 0∈qs:=by simp[Hn,I]
   have j8:qs.getD Q 0<G1.length:=(Hm.1 h3).1;have gg:iU (((s.bufs.getD Q []).length:Nat):Int)≤o.imm+z↔(s.bufs.getD Q []).length≤(o.imm+z).toNat:=by
    rw[J5,ax J]
   generalize s.bufs.getD Q []=K at *;generalize qs.getD Q 0=qn at *;generalize hn:(o.imm+z).toNat=n at *;by_cases C:n<K.length
   case neg =>
    have gY:K.length≤n:=J
    have gZ:T7 o s=none:=by
     unfold T7;rw[gL,gK,hn,Hs C,Hs C];rcases km with k|k
     ·rw[Hv k]
     ·rw[Hs J,Hv k]
    rcases km with k|k
    ·simp[j,k,h3,h4,h5,gA,I,Mr gF,T5,gg,gY,Mv];exact kn gZ _
    ·simp[j,k,h3,h4,h5,gA,I,Mr gF,T5,gg,gY,Mv];exact kn gZ _
   have gG:¬K.length≤n:=J
   rcases km with k|k
   ·have gM:T7 o s=some ⟨s.i+1,s.first,Mw (Mw s.r o.d K[n]) o.e 0,s.bufs,s.l++[((s.i:Int),(n:Int))]⟩:=by
     unfold T7;rw[gL,gK,hn,Hv k,Hv C];simp[Hn,C]
    simp[j,k,h3,h4,h5,gA,I,Mr gF,T5,gg,gG,hn,C,Mv]
    repeat (refine⟨J,?_⟩)
    exact F _ _ _ ⟨rfl,N,N,jF,_,_,(n:Int),s.bufs,N,gI,j,N,N,N,E,gM,B⟩
   ·have gM:T7 o s=some ⟨s.i+1,s.first,Mw (Mw s.r o.d 0) o.e 0,s.bufs.set Q (K.set n A),s.l++[((s.i:Int),(n:Int))]⟩:=by
     unfold T7;rw[gL,gK,jG,hn,Hs J,Hv k,Hv C,gA];rfl
    have e1:Ns (K.map LV.u) n [.u A]=(K.set n A).map LV.u:=by
     rw[zw3 Ca,I3]
    simp[j,k,h3,h4,h5,gA,I,Mr gF,T5,gg,gG,hn,C,Mv,e1]
    repeat (refine⟨J,?_⟩)
    have O:=gV (K.set n A) (s3+1);simp only[I3,Jv]at O;refine F _ _ _ ⟨rfl,N,N,jF,0,0,(n:Int),s.bufs.set Q (K.set n A),N,gI,?_,N,N,N,O,gM,λq H D=>?_⟩
    ·rw[Ho (λe=>by rw[e,j]at h3;cases h3)];exact j
    ·rw[Ho (λe=>D (by rw[←e];exact jK))];exact B q H D
  have jL:o.kind≠14:=λq=>km (.inl q)
  have jM:o.kind≠15:=λq=>km (.inr q)
  have gz:=gz jL jM;have g:∀(ρ':Mq),lk ρ' 0=.ptr x 0→lk ρ' 1=.i s.i→lk ρ' 5=.ptr jF 0→lk ρ' 9=.i (-1)→lk ρ' 10=.u (Nj o z A (decide (vc%2=1))).1→lk ρ' 11=.u (Nj o z A (decide (vc%2=1))).2→Nx ρ' [] G1:=by
   intro ρ' R T a5 U gC M;exact F _ _ _ ⟨rfl,R,T,jF,_,_,-1,s.bufs,a5,gI,j,U,gC,M,E,gz,B⟩
  clear gz F h E kn ks;by_cases k1:o.kind=1
  ·have hv:∀c,Nj o z A c=(o.imm,0):=λc=>by unfold Nj;simp[k1]
   rw[hv]at g;simp[j,k1];exact g _ N N N N Ax N
  by_cases k2:o.kind=2
  ·have hv:∀c,Nj o z A c=(z,0):=λc=>by unfold Nj;simp[k2]
   rw[hv]at g;simp[j,k2];exact g _ N N N N Ax N
  by_cases k3:o.kind=3
  ·have hv:∀c,Nj o z A c=(z+A,0):=λc=>by unfold Nj;simp[k3]
   rw[hv]at g;simp[j,k3];exact g _ N N N N Ax N
  by_cases k4:o.kind=4
  ·have hv:∀c,Nj o z A c=(z-A,0):=λc=>by unfold Nj;simp[k4]
   rw[hv]at g;simp[j,k4];exact g _ N N N N Ax N
  by_cases k5:o.kind=5
  ·have hv:∀c,Nj o z A c=(z &&& A,0):=λc=>by unfold Nj;simp[k5]
   rw[hv]at g;simp[j,k5];exact g _ N N N N Ax N
  by_cases k6:o.kind=6
  ·have hv:∀c,Nj o z A c=(z ||| A,0):=λc=>by unfold Nj;simp[k6]
   rw[hv]at g;simp[j,k6];exact g _ N N N N Ax N
  by_cases k7:o.kind=7
  ·have hv:∀c,Nj o z A c=(z ^^^ A,0):=λc=>by unfold Nj;simp[k7]
   rw[hv]at g;simp[j,k7];exact g _ N N N N Ax N
  by_cases k8:o.kind=8
  ·have hv:∀c,Nj o z A c=(UInt64.ofNat (z.toNat*2^o.imm.toNat),0):=λc=>by unfold Nj;simp[k8]
   rw[hv]at g;simp[j,k8];exact g _ N N N N Ax N
  by_cases k9:o.kind=9
  ·have hv:∀c,Nj o z A c=(UInt64.ofNat (z.toNat/2^o.imm.toNat),0):=λc=>by unfold Nj;simp[k9]
   rw[hv]at g;simp[j,k9];exact g _ N N N N Ax N
  by_cases g8:o.kind=10
  ·have hv:∀c,Nj o z A c=(Ss z A,z*A):=λc=>by unfold Nj;simp[g8]
   rw[hv]at g;simp[j,g8];refine M2 (zfi z A) (bors_self _ rfl) ?_;simp;exact g _ N N N N N N
  by_cases g9:o.kind=11
  ·have hv:∀c,Nj o z A c=((M1 z A c).1,O4 (M1 z A c).2):=λc=>by unfold Nj;simp[g9]
   rw[hv]at g;simp[j,g9,zet];refine M2 (z4q z A (decide (vc%2=1))) (bors_self _ rfl) ?_;simp;refine M2 (zg0 _) (bors_self _ rfl) ?_;simp;exact g _ N N N N N N
  by_cases jg:o.kind=12
  ·have hv:∀c,Nj o z A c=((Og z A c).1,O4 (Og z A c).2):=λc=>by unfold Nj;simp[jg]
   rw[hv]at g;simp[j,jg,zet];refine M2 (zfp z A (decide (vc%2=1))) (bors_self _ rfl) ?_;simp;refine M2 (zg0 _) (bors_self _ rfl) ?_;simp;exact g _ N N N N N N
  by_cases gO:o.kind=13
  ·have hv:∀c,Nj o z A c=(if c then z else A,0):=λc=>by unfold Nj;simp[gO]
   rw[hv]at g;by_cases c1:vc%2=1
   ·simp[j,gO,c1,zet];exact g _ N N N N (by simp[c1]) N
   ·simp[j,gO,c1,zet];exact g _ N N N N (by simp[c1]) N
  omega
 ·obtain⟨rfl,R,T,jF,d,e,pl,gH,a5,bz,hz,U,gC,M,hm,gz,B⟩:=hΦ;rw[gz]at ks;rw[hC]at hz;have jz:∀(i:Int) (v:UInt64) (r:List UInt64),(Mw r i v).length=r.length:=λi v r=>D0
  refine zy2 (λρ jT G'=>jT=[]∧lk ρ 0=.ptr x 0∧lk ρ 1=.i s.i∧lk ρ 5=.ptr jF 0∧G'[jF]?=some (.cells [.i o.kind,.i o.d,.i o.e,.i o.a,.i o.b,.i o.c,.i o.buf,.u o.imm] 1)∧lk ρ 9=.i pl∧lk ρ 11=.u e∧MsH G' x pr pb kb qs b regs bs os L ⟨s.i,s.first,Mw s.r o.d d,gH,s.l⟩∧∀q,q<b→q≠pr→q ∉ qs→G'[q]?=G[q]?) (λNx F=>?_) (λρ jT G3 h3=>?_)
  ·obtain⟨t1,V⟩:=hm.xc;obtain⟨t2,X⟩:=hm.rr;dsimp only at X;by_cases d0:0≤o.d
   ·obtain⟨dn,Z⟩:=Hr d0;have gD:dn<s.r.length:=J
    have e1:Ns (s.r.map LV.u) dn [.u d]=(Mw s.r o.d d).map LV.u:=by
     rw[zw3 (by simpa using gD),Mw,Hv d0,Z,I3];rfl
    have O:=hm.putr (i:=o.d) (v:=d) (st:=t2+1);dsimp only at O;simp[R,T,a5,U,gC,hz,V,X,Z,gD,e1];rw[←Z];refine⟨J,F _ _ _ ⟨rfl,?_,?_,?_,?_,?_,?_,O,λq H P D=>?_⟩⟩
    ·simp[R]
    ·simp[T]
    ·simp[a5]
    rotate_left
    ·simp[U]
    ·simp[M]
    rotate_left
    ·rw[Ho (λe=>by rw[e,hz]at X;cases X)];exact hz
    ·rw[Ho (Ne.symm P)];exact B q H D
   ·have e1:Mw s.r o.d d=s.r:=by unfold Mw;rw[Hs d0]
    simp[R,T,a5,U,gC,hz,d0];refine F _ _ _ ⟨rfl,?_,?_,?_,hz,?_,?_,e1.symm ▸ hm,λq H _ D=>B q H D⟩
    all_goals simp[R,T,a5,U,M]
  clear R T a5 U gC M hm B hz;obtain⟨rfl,R,T,a5,hz,U,M,hm,B⟩:=h3;have gU:=jz o.d d s.r;generalize Mw s.r o.d d=r1 at *;refine zy2 (λρ jT G'=>jT=[]∧lk ρ 0=.ptr x 0∧lk ρ 1=.i s.i∧lk ρ 9=.i pl∧MsH G' x pr pb kb qs b regs bs os L ⟨s.i,s.first,Mw r1 o.e e,gH,s.l⟩∧∀q,q<b→q≠pr→q ∉ qs→G'[q]?=G[q]?) (λNx F=>?_) (λρ jT G4 h4=>?_)
  ·obtain⟨t1,V⟩:=hm.xc;obtain⟨t2,X⟩:=hm.rr;dsimp only at X;by_cases d0:0≤o.e
   ·obtain⟨dn,Z⟩:=Hr d0;have gD:dn<r1.length:=J
    have e1:Ns (r1.map LV.u) dn [.u e]=(Mw r1 o.e e).map LV.u:=by
     rw[zw3 (by simpa using gD),Mw,Hv d0,Z,I3];rfl
    have O:=hm.putr (i:=o.e) (v:=e) (st:=t2+1);dsimp only at O;simp[R,T,a5,U,M,hz,V,X,Z,gD,e1];rw[←Z];refine⟨J,F _ _ _ ⟨rfl,?_,?_,?_,O,λq H P D=>?_⟩⟩
    ·simp[R]
    ·simp[T]
    ·simp[U]
    rw[Ho (Ne.symm P)];exact B q H P D
   ·have e1:Mw r1 o.e e=r1:=by unfold Mw;rw[Hs d0]
    simp[R,T,a5,U,M,hz,d0];refine F _ _ _ ⟨rfl,?_,?_,?_,e1.symm ▸ hm,λq H P D=>B q H P D⟩
    all_goals simp[R,T,U]
  clear R T a5 U M hm B hz;obtain⟨rfl,R,T,U,hm,B⟩:=h4;generalize Mw r1 o.e e=r2 at *;obtain⟨t1,V⟩:=hm.xc;have jO:x<G4.length:=(Hm.1 V).1;have q1:∀y:List LObj,(G4++y)[x]?=_:=λy=>(M6 jO).trans V
  simp[R,T,U,V,↓q1];refine N9.push2 (x:=[.i (s.i:Int),.i pl]) hm.ev.push_end J (by simp;have:=hm.bG;omega) (by show s.l.length≤_;omega) rfl rfl λL' G5 jA gP jP j9=>?_
  have jU:=hm.bG;have jB:G5[x]?=_:=(gP x Ab (λe=>by have:=(hm.ev.row e).1;have:=h.lt.1;omega)).trans (q1 _);have jQ:L'.cells=some [L']:=jA.cells;simp[-LV.cells,jQ,jB];refine ks _ _ L' rfl ?_ ?_
  ·obtain⟨l1,l2,l3,l4,l5,l6⟩:=hm.lt;have jC:x<G5.length:=(Hm.1 jB).1;have ne:∀{q:Nat} {ob:LObj},q≠x→(G5.set x ob)[q]?=G5[q]?:=λH=>Ho (Ne.symm H)
   have gE:∀{q:Nat} {ob:LObj},q<b→G4[q]?=some ob→G5[q]?=some ob:=λ{q ob} H ho=>by
    rw[gP q Ab (λe=>C8),M6 (Hm.1 ho).1];exact ho
   refine⟨⟨t1+1,Hu jC⟩,?_,?_,λzg hj=>?_,hm.bl,hm.lt,hm.qlt,hm.nd,?_,by rw[Jv];simp at jP;omega⟩
   ·obtain⟨st,h⟩:=hm.rr;exact⟨st,by rw[ne (Ne.symm l4)];exact gE l2 h⟩
   ·obtain⟨st,h⟩:=hm.bb;exact⟨st,by rw[ne (Ne.symm l5)];exact gE l3 h⟩
   ·obtain⟨st,h⟩:=hm.row zg hj;have H:=hm.qlt (qs.getD zg 0) En;exact⟨st,by rw[ne H.2.1];exact gE H.1 h⟩
   ·show N9 b _ L' 2 (s.l++[((s.i:Int),pl)]).length (T9 (s.l++[((s.i:Int),pl)]));rw[zxb,H4];exact jA.set_lt l1
  ·intro q H jR P D;rw[Ho (Ne.symm jR),gP q Ab (λe=>C8),M6 J];exact B q H P D
end
end Go.Proofs.YtodjkjimaheggaaGreat
end
