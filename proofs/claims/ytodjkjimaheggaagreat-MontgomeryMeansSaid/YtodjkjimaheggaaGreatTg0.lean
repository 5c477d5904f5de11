/- The templates: see the main text. -/
import Derived.Test.YtodjkjimaheggaaGreatSvG3
import Derived.Test.YtodjkjimaheggaaGreatSvG2
import Derived.Test.YtodjkjimaheggaaGreatProg
import Derived.KernelRfl
import Derived.Test.YtodjkjimaheggaaGreatSvG4
set_option linter.defProp false
namespace Go.Sv
abbrev LI.z (d : Nat) (o : LOp) : LI := ⟨some d, none, o⟩
abbrev LI.m (d t : Nat) : LI := ⟨some d, none, .move (.t t)⟩
abbrev LI.l (d t : Nat) : LI := ⟨some d, none, .load1 (.t t)⟩
abbrev LI.f (d n t : Nat) : LI := ⟨some d, none, .fieldAddr n (.t t)⟩
abbrev LI.y (d g : Nat) (o : LOp) : LI := ⟨some d, some (g, true), o⟩
abbrev LI.n (d g : Nat) (o : LOp) : LI := ⟨some d, some (g, false), o⟩
abbrev LI.my (d g t : Nat) : LI := ⟨some d, some (g, true), .move (.t t)⟩
abbrev LI.mn (d g t : Nat) : LI := ⟨some d, some (g, false), .move (.t t)⟩
abbrev LI.v (o : LOp) : LI := ⟨none, none, o⟩
abbrev LOp.w (f : Nat) (l : List Lx) : LOp := .callV (.c (.fn (.func f) [] [])) l
abbrev Lx.k (n : Int) : Lx := .c (.i n)
abbrev Lx.T : Lx := .c (.bool true)
abbrev Lx.F : Lx := .c (.bool false)
abbrev LC.q (l : List LI) (s : LC) : LC := .seq (.ops l) s
abbrev LI.N (d a : Nat) : LI := .z d (.nilChk (.t a))
abbrev LI.L (d n a : Nat) : LI := .z d (.loadN n (.t a))
abbrev LI.I (d n a b : Nat) : LI := .z d (.ixAddr n (.t a) (.t b))
abbrev LI.b (d : Nat) (o : BinOp) (t a : Nat) (k : Int) : LI := .z d (.bin o true t (.t a) (.k k))
abbrev LI.c (d : Nat) (o : BinOp) (t a b : Nat) : LI := .z d (.bin o false t (.t a) (.t b))
abbrev LI.u (d : Nat) (o : BinOp) (t a : Nat) (k : UInt64) : LI := .z d (.bin o true t (.t a) (.c (.u k)))
abbrev LI.nb (d g : Nat) (o : BinOp) (t a : Nat) (k : Int) : LI := .n d g (.bin o true t (.t a) (.k k))
abbrev LI.p (d a b : Nat) : LI := .z d (.pick (.t a) .T (.t b))
abbrev LI.q (d a b : Nat) : LI := .z d (.pick (.t a) (.t b) .F)
abbrev LI.K (d : Nat) (k : Int) : LI := .z d (.move (.k k))
abbrev LI.F (d : Nat) : LI := .z d (.move .F)
abbrev LI.e (d : Nat) : LI := .z d (.move (.c .nilSl))
abbrev LI.S (n a b : Nat) : LI := .v (.store n (.t a) (.t b))
abbrev LI.s (d a : Nat) : LI := .z d (.lenSl (.t a))
abbrev LI.x (d a : Nat) : LI := .z d (.box (.t a))
abbrev LI.X (d n a : Nat) : LI := .z d (.extract n (.t a))
abbrev LI.w (d f a : Nat) : LI := .z d (.w f [.t a])
abbrev LI.W (d f a b : Nat) : LI := .z d (.w f [.t a, .t b])
abbrev LI.V (d f a b c : Nat) : LI := .z d (.w f [.t a, .t b, .t c])
abbrev LI.nf (d g n a : Nat) : LI := .n d g (.fieldAddr n (.t a))
abbrev LI.yf (d g n a : Nat) : LI := .y d g (.fieldAddr n (.t a))
abbrev LI.nl (d g a : Nat) : LI := .n d g (.load1 (.t a))
abbrev LI.yl (d g a : Nat) : LI := .y d g (.load1 (.t a))
abbrev LI.a (d n a b : Nat) : LI := .z d (.appG n (.t a) (.t b))
end Go.Sv
noncomputable section
namespace Go.Proofs.YtodjkjimaheggaaGreat
open Go.Sv
set_option linter.unusedSimpArgs false
set_option maxRecDepth 10000
variable{g j A:Nat}{z B V:Int}{U:UInt64}{vP:Type}{vL:List Int}{E:List LV}{G:M9}{v9:LV→M9→Prop}{vQ:List Vr}{Z:List Bf}{vY:List Lo}{vC:Pc}
abbrev Nj := Od Tryz.prog
abbrev Oz := Sd Tryz.prog
abbrev Pm := Rm Tryz.prog
def We:LC:=(.q [.K 2 0,.F 3] (.seq (.q [.m 4 0] (.block 0 (.q [.b 6 .eql 3 4 1,.m 5 6] (.cond (.t 5) (.q [.K 2 1,.z 3 (.move .T)] .ret) (.q [.b 8 .eql 3 4 2,.m 7 8] (.cond (.t 7) (.q [.K 2 5,.z 3 (.move .T)] .ret) (.seq (.q [.b 10 .eql 3 4 3,.m 9 10] (.cond (.t 9) .skip (.q [.b 11 .eql 3 4 4,.m 9 11] (.cond (.t 9) .skip (.q [.b 12 .eql 3 4 5,.m 9 12] (.cond (.t 9) .skip (.q [.b 13 .eql 3 4 6,.m 9 13] (.cond (.t 9) .skip (.ops [.b 14 .eql 3 4 7,.m 9 14]))))))))) (.cond (.t 9) (.q [.K 2 13,.z 3 (.move .T)] .ret) (.seq (.q [.b 16 .eql 3 4 8,.m 15 16] (.cond (.t 15) .skip (.q [.b 17 .eql 3 4 10,.m 15 17] (.cond (.t 15) .skip (.q [.b 18 .eql 3 4 11,.m 15 18] (.cond (.t 15) .skip (.q [.b 19 .eql 3 4 12,.m 15 19] (.cond (.t 15) .skip (.ops [.b 20 .eql 3 4 13,.m 15 20]))))))))) (.cond (.t 15) (.q [.K 2 29,.z 3 (.move .T)] .ret) (.q [.b 22 .eql 3 4 9,.m 21 22] (.cond (.t 21) (.q [.K 2 21,.z 3 (.move .T)] .ret) (.q [.b 24 .eql 3 4 14,.m 23 24] (.cond (.t 23) (.q [.K 2 19,.z 3 (.move .T)] .ret) (.seq (.q [.b 26 .eql 3 4 15,.m 25 26] (.cond (.t 25) .skip (.ops [.b 27 .eql 3 4 16,.m 25 27]))) (.cond (.t 25) (.q [.K 2 0,.z 3 (.move .T)] .ret) .skip)))))))))))))))) (.q [.K 2 0,.F 3] .ret)))
def r_lengths_shape:Nm Tryz.prog 187=some ⟨28,We.r,[.tmp 2,.tmp 3]⟩:=Aa
def z3g:LC:=(.q [.x 1 0,.F 2] (.seq (.q [.f 3 0 1,.l 4 3] (.block 0 (.q [.b 6 .eql 3 4 1,.m 5 6] (.cond (.t 5) (.q [.z 2 (.move .T)] .ret) (.q [.b 8 .eql 3 4 13,.m 7 8] (.cond (.t 7) (.q [.f 9 6 1,.l 10 9,.u 11 .geq 23 10 1,.m 12 11,.yf 13 12 6 1,.yl 14 12 13,.y 15 12 (.bin .leq true 23 (.t 14) (.c (.u 6))),.q 16 12 15,.m 2 16] .ret) (.q [.b 18 .eql 3 4 15,.m 17 18] (.cond (.t 17) (.q [.f 19 6 1,.l 20 19,.u 21 .geq 23 20 1,.m 22 21,.yf 23 22 6 1,.yl 24 22 23,.y 25 22 (.bin .leq true 23 (.t 24) (.c (.u 4096))),.q 26 22 25,.m 2 26] .ret) .skip)))))))) (.q [.f 27 6 1,.l 28 27,.u 29 .eql 23 28 0,.m 2 29] .ret)))
def r_lengths_number:Nm Tryz.prog 188=some ⟨30,z3g.r,[.tmp 2]⟩:=Aa
def zc3:LC:=(.q [.x 1 0,.z 2 (.alloc [(.i 0),(.i 0),(.i 0),(.i 0),(.i 0)])] (.q [.f 3 1 1,.l 4 3,.f 5 2 1,.l 6 5,.f 7 3 1,.l 8 7,.f 9 4 1,.l 10 9,.f 11 5 1,.l 12 11,.z 13 (.build [(.i 0),(.i 0),(.i 0),(.i 0),(.i 0)] [(0,1,.t 4),(1,1,.t 6),(2,1,.t 8),(3,1,.t 10),(4,1,.t 12)]),.S 5 2 13] .ret))
def r_lengths_parts:Nm Tryz.prog 189=some ⟨14,zc3.r,[.cellN 2 5]⟩:=Aa
def zbq:LC:=(.q [.x 1 0,.F 2] (.q [.f 3 2 1,.l 4 3,.b 5 .eql 3 4 1,.m 6 5,.nf 7 6 2 1,.nl 8 6 7,.nb 9 6 .eql 3 8 2,.p 10 6 9,.m 2 10] .ret))
def r_lengths_given:Nm Tryz.prog 167=some ⟨11,zbq.r,[.tmp 2]⟩:=Aa
def z6u:LC:=(.q [.F 3] (.q [.m 4 0,.b 5 .geq 3 4 0,.m 6 5,.my 7 6 0,.yl 8 6 1,.y 9 6 (.lenSl (.t 8)),.y 10 6 (.bin .lss false 3 (.t 7) (.t 9)),.q 11 6 10,.m 3 11] .ret))
def r_lengths_need_1:Nm Tryz.prog 186=some ⟨12,z6u.r,[.tmp 3]⟩:=Aa
def z4j:LC:=(.q [.x 2 0,.x 3 1,.F 4] (.q [.z 6 (.mkFunc 186 [] [.t 2]),.m 5 6] (.seq (.q [.f 7 1 3,.l 8 7,.b 9 .neq 3 8 (-1),.m 10 9,.nf 11 10 2 3,.nl 12 10 11,.nb 13 10 .neq 3 12 (-1),.p 14 10 13,.m 15 14,.nf 16 15 5 3,.nl 17 15 16,.nb 18 15 .neq 3 17 (-1),.p 19 15 18,.m 20 19,.mn 21 20 5,.nf 22 20 3 3,.nl 23 20 22,.n 24 20 (.callV (.t 21) [.t 23]),.n 25 20 (.un .not (.t 24)),.p 26 20 25] (.cond (.t 26) (.q [.F 4] .ret) .skip)) (.seq (.q [.f 27 6 3,.l 28 27] (.block 0 (.q [.u 30 .eql 23 28 2,.m 29 30] (.cond (.t 29) (.q [.m 31 5,.f 32 4 3,.l 33 32,.z 34 (.callV (.t 31) [.t 33]),.m 4 34] .ret) (.seq (.q [.u 36 .eql 23 28 1,.m 35 36] (.cond (.t 35) .skip (.ops [.u 37 .eql 23 28 3,.m 35 37]))) (.cond (.t 35) (.q [.f 38 4 3,.l 39 38,.b 40 .eql 3 39 (-1),.m 4 40] .ret) .skip)))))) (.q [.F 4] .ret)))))
def r_lengths_need:Nm Tryz.prog 166=some ⟨41,z4j.r,[.tmp 4]⟩:=Aa
def z4d:LC:=(.q [.K 4 0] (.seq (.q [.m 6 0,.s 7 6,.K 8 0] (.block 0 (.loop (.q [.c 9 .lss 3 8 7] (.seq (.cond (.t 9) .skip (.exit 0)) (.seq (.block 1 (.q [.m 10 8,.m 5 10] (.q [.m 11 1,.m 12 0,.m 13 5,.I 14 1 12 13,.l 15 14,.z 16 (.callV (.t 11) [.t 15])] (.cond (.t 16) (.q [.m 17 5,.m 4 17] .ret) .skip)))) (.ops [.b 18 .add 3 8 1,.m 8 18]))))))) (.q [.K 4 (-1)] .ret)))
def r_slices_IndexFunc_int_int:Nm Tryz.prog 192=some ⟨19,z4d.r,[.tmp 4]⟩:=Aa
def z3h:LC:=(.q [.F 4] (.q [.m 5 0,.m 6 1,.W 7 192 5 6,.b 8 .geq 3 7 0,.m 4 8] .ret))
def r_slices_ContainsFunc_int_int:Nm Tryz.prog 169=some ⟨9,z3h.r,[.tmp 4]⟩:=Aa
def qz(a b:Bool):Sa Tryz.prog false 4 (.bool a) (.bool b)=some (a==b):=by cases a<;>cases b<;>kernel_rfl
def zhf(k:Int):Nj 187 [.i k] (.tup [.i (((P1 k).getD 0:Nat):Int),.bool (P1 k).isSome]) []:=by
 refine Od.val rfl (Nn r_lengths_shape Aa N ?_);by_cases E:k=1;· subst E;simp[We,P1]
 by_cases F:k=2;· subst F;simp[We,P1]
 by_cases G:k=3;· subst G;simp[We,P1]
 by_cases H:k=4;· subst H;simp[We,P1]
 by_cases I:k=5;· subst I;simp[We,P1]
 by_cases K:k=6;· subst K;simp[We,P1]
 by_cases L:k=7;· subst L;simp[We,P1]
 by_cases M:k=8;· subst M;simp[We,P1]
 by_cases O:k=9;· subst O;simp[We,P1]
 by_cases g:k=10;· subst g;simp[We,P1]
 by_cases j:k=11;· subst j;simp[We,P1]
 by_cases z:k=12;· subst z;simp[We,P1]
 by_cases A:k=13;· subst A;simp[We,P1]
 by_cases B:k=14;· subst B;simp[We,P1]
 by_cases C:k=15;· subst C;simp[We,P1]
 by_cases D:k=16;· subst D;simp[We,P1]
 simp[We,P1,E,F,G,H,I,K,L,M,O,g,j,z,A,B,C,D]
def zfs(o:Ko):Nj 188 [.agg o.f] (.bool (Rv o)) []:=by
 refine Od.val rfl (Nn r_lengths_number Aa N ?_);by_cases g:o.kind=1;· simp[z3g,Ko.f,Rv,g]
 by_cases j:o.kind=13
 ·by_cases A:1≤o.imm<;>simp[z3g,Ko.f,Rv,g,j,A]
 by_cases z:o.kind=15
 ·by_cases A:1≤o.imm<;>simp[z3g,Ko.f,Rv,g,j,z,A]
 simp[z3g,Ko.f,Rv,g,j,z]
def zap(o:Ko):Nj 189 [.agg o.f] (.agg [.i o.d,.i o.e,.i o.a,.i o.b,.i o.c]) []:=by
 refine Od.val rfl (Nn r_lengths_parts Aa N ?_);simp[zc3,Ko.f]
def zal(v:Vr):Nj 167 [.agg v.f] (.bool (Sc v)) []:=by
 refine Od.val rfl (Nn r_lengths_given Aa N ?_);by_cases g:v.mode=1<;>simp[zbq,Vr.f,Sc,g]
def zmt{p n st:Nat}{c:List LV}(v:Int)(g:G[p]?=some (.cells [.lst c n 3] st))(k:v9 (.bool (Rp n v)) G):Pm (.fn 186) [.i v,.ptr p 0] G v9:=by
 refine Nn r_lengths_need_1 Aa N ?_;by_cases j:0≤v
 ·by_cases z:v<n<;>simp[z6u,g,Rp,j,z]at k ⊢<;>exact k
 ·simp[z6u,g,Rp,j]at k ⊢;exact k
def zbo(c:List LV)(n:Nat)(o:Ko):Nj 166 [.lst c n 3,.agg o.f] (.bool (Si n o)) []:=by
 refine Od.val rfl (Nn r_lengths_need Aa N ?_);by_cases g:o.d=-1
 case neg=>simp[z4j,Ko.f,Si,g]
 by_cases j:o.e=-1
 case neg=>simp[z4j,Ko.f,Si,g,j]
 by_cases z:o.c=-1
 case neg=>simp[z4j,Ko.f,Si,g,j,z]
 simp[z4j,Ko.f,g,j,z];refine zmt o.a rfl ?_;cases A:Rp n o.a with
 |false=>simp[Si,A]
 |true =>
  by_cases B:o.imm=2
  ·simp[B];refine zmt o.b rfl ?_;simp[Si,g,j,z,A,B]
  by_cases C:o.imm=1
  ·simp[Si,g,j,z,A,B,C]
  by_cases D:o.imm=3
  ·simp[Si,g,j,z,A,B,C,D]
  simp[Si,g,j,z,A,B,C,D]
def zet{l:List Int}{f:Nat}{a b:List LV}{p:Int→Bool}(R:l.length≤9223372036854775807)
  (P:∀v∈l,∀F:LV→M9→Prop,F (.bool (p v)) G→Pm (.fn f) (a++[.i v]++b) G F) (k:v9 (.i (kf p l)) G):Pm (.fn 192) [.lst (l.map .i) l.length 1,.fn (.func f) a b] G v9:=by
 refine Nn r_slices_IndexFunc_int_int Aa (by simp) ?_;simp[z4d];refine O8 (λH Q I N=>∃i:Nat,Q=[]∧I=G∧N+i=l.length∧lk H 0=.lst (l.map .i) l.length 1∧lk H 1=.fn (.func f) a b∧lk H 7=.i l.length∧lk H 8=.i i∧∀K b,K<i→l[K]?=some b→p b=false) (N:=l.length) ⟨0,by simp⟩ ?_;rintro N H Q I ⟨i,rfl,rfl,T,j,z,A,B,C⟩ U D;by_cases hi:l.length≤i
 ·have L:¬i<l.length:=J
  simp[j,z,A,B,L];rw[←zvy hi C];exact k
 ·have L:i<l.length:=J
  have E:=H7 L;simp[j,z,A,B,L];simp[Nd (Xf (f:=LV.i) E)];have M:=P l[i] (K3 L);simp only[Jp,List.singleton_append]at M;refine M _ ?_;cases O:p l[i] with
  |true =>
   simp;rw[←qp E O C];exact k
  |false =>
   simp[B];refine⟨J,D _ _ _ ⟨N-1,J,i+1,rfl,rfl,J,Ah,Ae,At,by simp,λK b V g=>?_⟩⟩;by_cases e:K=i
   ·subst e;rw[E]at g;cases g;exact O
   ·exact C K b J g
def z6v{l:List Int}{f:Nat}{a b:List LV}{p:Int→Bool}(j:l.length≤9223372036854775807)
  (z:∀v∈l,∀g:LV→M9→Prop,g (.bool (p v)) G→Pm (.fn f) (a++[.i v]++b) G g) (k:v9 (.bool (l.any p)) G):Pm (.fn 169) [.lst (l.map .i) l.length 1,.fn (.func f) a b] G v9:=by
 refine Nn r_slices_ContainsFunc_int_int Aa N ?_;simp[z3h];refine zet j z ?_;simp;rw[zz7];exact k
def zba:LC:=(.q [.z 0 (.move (.c .nilMap))] (.q [.z 1 (.move (.c (.fn (.func 207) [] [])))] (.q [.z 2 (.mkMap0),.v (.mapUpd (.int .i64) (.t 2) (.k 6) (.c (.fn (.func 208) [] []))),.v (.mapUpd (.int .i64) (.t 2) (.k 14) (.c (.fn (.func 209) [] []))),.v (.mapUpd (.int .i64) (.t 2) (.k 8) (.c (.fn (.func 210) [] []))),.v (.mapUpd (.int .i64) (.t 2) (.k 9) (.c (.fn (.func 211) [] []))),.m 3 1,.v (.mapUpd (.int .i64) (.t 2) (.k 10) (.t 3)),.m 4 1,.v (.mapUpd (.int .i64) (.t 2) (.k 11) (.t 4)),.m 5 1,.v (.mapUpd (.int .i64) (.t 2) (.k 12) (.t 5)),.v (.mapUpd (.int .i64) (.t 2) (.k 13) (.c (.fn (.func 212) [] []))),.m 6 2,.m 0 6] .ret)))
def r_lengths_alike:Nm Tryz.prog 198=some ⟨7,zba.r,[.tmp 0]⟩:=Aa
def z8w:LC:=(.q [.x 1 0,.e 2] (.q [.f 3 1 1,.l 4 3,.f 5 3 1,.l 6 5,.f 7 4 1,.l 8 7,.f 9 5 1,.l 10 9,.z 11 (.buildSl 1 4 [(.i 0),(.i 0),(.i 0),(.i 0)] [(0,1,.t 4),(1,1,.t 6),(2,1,.t 8),(3,1,.t 10)]),.m 2 11] .ret))
def r_lengths_alike_1:Nm Tryz.prog 207=some ⟨12,z8w.r,[.tmp 2]⟩:=Aa
def z9e:LC:=(.q [.x 1 0,.e 2] (.q [.f 3 3 1,.l 4 3,.f 5 4 1,.l 6 5,.z 7 (.buildSl 1 2 [(.i 0),(.i 0)] [(0,1,.t 4),(1,1,.t 6)]),.m 2 7] .ret))
def r_lengths_alike_2:Nm Tryz.prog 208=some ⟨8,z9e.r,[.tmp 2]⟩:=Aa
def z9i:LC:=(.q [.x 1 0,.e 2] (.q [.f 3 1 1,.l 4 3,.f 5 2 1,.l 6 5,.z 7 (.buildSl 1 2 [(.i 0),(.i 0)] [(0,1,.t 4),(1,1,.t 6)]),.m 2 7] .ret))
def r_lengths_alike_3:Nm Tryz.prog 209=some ⟨8,z9i.r,[.tmp 2]⟩:=Aa
def z9a:LC:=(.q [.x 1 0,.e 2] (.q [.f 3 1 1,.l 4 3,.f 5 3 1,.l 6 5,.f 7 4 1,.l 8 7,.z 9 (.buildSl 1 3 [(.i 0),(.i 0),(.i 0)] [(0,1,.t 4),(1,1,.t 6),(2,1,.t 8)]),.m 2 9] .ret))
def r_lengths_alike_4:Nm Tryz.prog 210=some ⟨10,z9a.r,[.tmp 2]⟩:=Aa
def z8y:LC:=(.q [.x 1 0,.e 2] (.q [.f 3 1 1,.l 4 3,.f 5 5 1,.l 6 5,.z 7 (.buildSl 1 2 [(.i 0),(.i 0)] [(0,1,.t 4),(1,1,.t 6)]),.m 2 7] .ret))
def r_lengths_alike_5:Nm Tryz.prog 211=some ⟨8,z8y.r,[.tmp 2]⟩:=Aa
def z9q:LC:=(.q [.x 1 0,.e 2] (.q [.f 3 1 1,.l 4 3,.f 5 3 1,.l 6 5,.f 7 5 1,.l 8 7,.z 9 (.buildSl 1 3 [(.i 0),(.i 0),(.i 0)] [(0,1,.t 4),(1,1,.t 6),(2,1,.t 8)]),.m 2 9] .ret))
def r_lengths_alike_6:Nm Tryz.prog 212=some ⟨10,z9q.r,[.tmp 2]⟩:=Aa
def z9f:LC:=(.q [.F 4] (.seq (.draw [(.l 5 1,[]),(.m 6 0,[]),(.I 7 3 5 6,[]),(.f 8 0 7,[]),(.l 9 8,[]),(.l 10 1,[]),(.l 11 2,[]),(.z 12 (.ixAddr 1 (.t 11) (.k 0)),[]),(.l 13 12,[]),(.I 14 3 10 13,[]),(.f 15 0 14,[]),(.l 16 15,[]),(.c 17 .neq 3 9 16,[]),(.m 4 17,[])]) .ret))
def r_lengths_agree_1:Nm Tryz.prog 199=some ⟨18,z9f.r,[.tmp 4]⟩:=Aa
def wy:LC:=(.q [.x 2 0,.x 3 1,.F 4] (.seq (.draw [(.f 10 0 3,[]),(.l 11 10,[]),(.z 9 (.w 198 []),[(.l 11 10,false)]),(.z 12 (.lookup (.int .i64) .nilFn true (.t 9) (.t 11)),[]),(.m 8 12,[]),(.X 13 0 8,[]),(.X 14 1 8,[]),(.m 5 13,[]),(.m 6 14,[])]) (.seq (.q [.m 15 6,.z 16 (.un .not (.t 15))] (.cond (.t 16) (.q [.z 4 (.move .T)] .ret) .skip)) (.q [.m 17 5,.L 18 7 3,.z 19 (.callV (.t 17) [.t 18]),.z 7 (.alloc [.nilSl]),.S 1 7 19] (.q [.l 20 7,.z 21 (.mkFunc 199 [] [.t 2,.t 7]),.W 22 169 20 21,.z 23 (.un .not (.t 22)),.m 4 23] .ret)))))
def r_lengths_agree:Nm Tryz.prog 191=some ⟨24,wy.r,[.tmp 4]⟩:=Aa
def wv:List (LV×LV×Nat):=[(.i 6,.fn (.func 208) [] [],0),(.i 14,.fn (.func 209) [] [],1),(.i 8,.fn (.func 210) [] [],2),(.i 9,.fn (.func 211) [] [],3),(.i 10,.fn (.func 207) [] [],4),(.i 11,.fn (.func 207) [] [],5),(.i 12,.fn (.func 207) [] [],6),(.i 13,.fn (.func 212) [] [],7)]
def z15(k:v9 (.map G.length) (G++[.map wv 8 8])):Pm (.fn 198) [] G v9:=by
 refine Nn r_lengths_alike Aa N ?_;simp[zba];exact k
def zgb(o:Ko):Oz 207 [.agg o.f] (.lst ([o.d,o.a,o.b,o.c].map .i) 4 1):=by
 refine Sd.mk B8 (Nn r_lengths_alike_1 Aa N ?_);simp[z8w,Ko.f,Of,bor]
def zya(o:Ko):Oz 208 [.agg o.f] (.lst ([o.a,o.b].map .i) 2 1):=by
 refine Sd.mk B8 (Nn r_lengths_alike_2 Aa N ?_);simp[z9e,Ko.f,Of,bor]
def zyb(o:Ko):Oz 209 [.agg o.f] (.lst ([o.d,o.e].map .i) 2 1):=by
 refine Sd.mk B8 (Nn r_lengths_alike_3 Aa N ?_);simp[z9i,Ko.f,Of,bor]
def zy7(o:Ko):Oz 210 [.agg o.f] (.lst ([o.d,o.a,o.b].map .i) 3 1):=by
 refine Sd.mk B8 (Nn r_lengths_alike_4 Aa N ?_);simp[z9a,Ko.f,Of,bor]
def zxn(o:Ko):Oz 211 [.agg o.f] (.lst ([o.d,o.c].map .i) 2 1):=by
 refine Sd.mk B8 (Nn r_lengths_alike_5 Aa N ?_);simp[z8y,Ko.f,Of,bor]
def zwy(o:Ko):Oz 212 [.agg o.f] (.lst ([o.d,o.a,o.c].map .i) 3 1):=by
 refine Sd.mk B8 (Nn r_lengths_alike_6 Aa N ?_);simp[z9q,Ko.f,Of,bor]
def jf(g:List Vr)(v:Int):Prop:=0≤v∧v<g.length
def jf.at{vs:List Vr}{v:Int}(h:jf vs v):∃k:Nat,v=k∧k<vs.length∧vs[k]?=some (gv vs v.toNat):=by
 obtain⟨k,rfl⟩:=H0 h.1;have h2:=h.2;exact⟨k,rfl,J,by rw[In];exact T2 J⟩
def zsm{p q st:Nat}(v:Int)(j:G[p]?=some (.cells [.lst (Ob vQ) vQ.length 3] st))(z:G[q]?=some (.cells [.lst (vL.map .i) vL.length 1] g))
  (hv:jf vQ v) (A:jf vQ (vL.headD 0)) (F:vL≠[]) (k:v9 (.bool (decide (Pl vQ v≠Pl vQ (vL.headD 0)))) G):Pm (.fn 199) [.i v,.ptr p 0,.ptr q 0] G v9:=by
 refine Nn r_lengths_agree_1 Aa N ?_;cases vL with
 |nil=>exact absurd rfl F
 |cons y vL =>
  simp only[List.headD_cons]at A k;obtain⟨a,rfl,B,H⟩:=hv.at;obtain⟨b,rfl,C,I⟩:=A.at;have D:=vd H;have E:=vd I;simp only[In]at D E;simp only[Pl,In]at k;simp[z9f,j,z,B,C];simp[Nd D,Nd E,j,z,B,C];rw[←decide_not];exact k
def ztx(g:List Int)(x:Int→Int)(y:Int):(!(g.any λv=>decide (x v≠y)))=g.all λv=>decide (x v=y):=by
 induction g with
 |nil=>rfl
 |cons a g j =>
  simp only[List.any_cons,Ki,Bool.not_or,j];by_cases h:x a=y<;>simp[h]
def zam(F:List Vr)(o:Ko)(hv:∀v∈Qm o,jf F v):Nj 191 [.lst (Ob F) F.length 3,.agg o.f] (.bool (sm F o)) []:=by
 refine Od.val rfl (Nn r_lengths_agree Aa N ?_);have j:o.f=[.i o.kind,.i o.d,.i o.e,.i o.a,.i o.b,.i o.c,.u o.imm]:=rfl;have z:∀G:List Int,G≠[]→Qm o=G→∀{M:M9} {p q st L:Nat} {P:LV→M9→Prop},M[p]?=some (.cells [.lst (Ob F) F.length 3] st)→M[q]?=some (.cells [.lst (G.map .i) G.length 1] L)→P (.bool (!sm F o)) M →
   Pm (.fn 169) [.lst (G.map .i) G.length 1,.fn (.func 199) [] [.ptr p 0,.ptr q 0]] M P:=by
  intro G O he M p q st L P Q R k;rw[he]at hv;have T:jf F (G.headD 0):=by
   cases G with
   |nil=>exact absurd rfl O
   |cons y G=>exact hv y (I9 ..)
  have U:G.length≤9223372036854775807:=by
   rw[←he];unfold Qm;repeat' split
   all_goals simp
  refine z6v (p:=λv=>decide (Pl F v≠Pl F (G.headD 0))) U (λv hm X V=>zsm v Q R (hv v hm) T O V) ?_;have:=ztx G (Pl F) (Pl F (G.headD 0));rw[←Bool.not_not (G.any _),this];rw[sm,he]at k;exact k
 by_cases H:o.kind=6
 ·have he:Qm o=[o.a,o.b]:=by simp[Qm,H]
  simp[wy,j,H];refine z15 ?_;simp[wv];have g:=zya o;rw[j,H]at g;refine R6 g rfl ?_;simp;refine z [o.a,o.b] N he rfl rfl ?_;simp
 by_cases A:o.kind=14
 ·have he:Qm o=[o.d,o.e]:=by simp[Qm,A]
  simp[wy,j,A];refine z15 ?_;simp[wv];have g:=zyb o;rw[j,A]at g;refine R6 g rfl ?_;simp;refine z [o.d,o.e] N he rfl rfl ?_;simp
 by_cases I:o.kind=8
 ·have he:Qm o=[o.d,o.a,o.b]:=by simp[Qm,I]
  simp[wy,j,I];refine z15 ?_;simp[wv];have g:=zy7 o;rw[j,I]at g;refine R6 g rfl ?_;simp;refine z [o.d,o.a,o.b] N he rfl rfl ?_;simp
 by_cases K:o.kind=9
 ·have he:Qm o=[o.d,o.c]:=by simp[Qm,K]
  simp[wy,j,K];refine z15 ?_;simp[wv];have g:=zxn o;rw[j,K]at g;refine R6 g rfl ?_;simp;refine z [o.d,o.c] N he rfl rfl ?_;simp
 by_cases B:o.kind=10
 ·have he:Qm o=[o.d,o.a,o.b,o.c]:=by simp[Qm,B]
  simp[wy,j,B];refine z15 ?_;simp[wv];have g:=zgb o;rw[j,B]at g;refine R6 g rfl ?_;simp;refine z [o.d,o.a,o.b,o.c] N he rfl rfl ?_;simp
 by_cases C:o.kind=11
 ·have he:Qm o=[o.d,o.a,o.b,o.c]:=by simp[Qm,C]
  simp[wy,j,C];refine z15 ?_;simp[wv];have g:=zgb o;rw[j,C]at g;refine R6 g rfl ?_;simp;refine z [o.d,o.a,o.b,o.c] N he rfl rfl ?_;simp
 by_cases D:o.kind=12
 ·have he:Qm o=[o.d,o.a,o.b,o.c]:=by simp[Qm,D]
  simp[wy,j,D];refine z15 ?_;simp[wv];have g:=zgb o;rw[j,D]at g;refine R6 g rfl ?_;simp;refine z [o.d,o.a,o.b,o.c] N he rfl rfl ?_;simp
 by_cases E:o.kind=13
 ·have he:Qm o=[o.d,o.a,o.c]:=by simp[Qm,E]
  simp[wy,j,E];refine z15 ?_;simp[wv];have g:=zwy o;rw[j,E]at g;refine R6 g rfl ?_;simp;refine z [o.d,o.a,o.c] N he rfl rfl ?_;simp
 have he:Qm o=[]:=by simp[Qm,H,A,I,K,B,C,D,E]
 simp[wy,j,H,A,I,K,B,C,D,E];refine z15 ?_;simp[wv,H,A,I,K,B,C,D,E];simp[sm,he]
def z5j:LC:=(.q [.e 2] (.seq (.q [.m 3 0,.z 4 (.bin .eql true 60 (.t 3) (.c .nilSl))] (.cond (.t 4) (.q [.e 2] .ret) .skip)) (.q [.z 5 (.buildSl 1 0 [] []),.m 6 0,.a 7 1 5 6,.m 2 7] .ret)))
def r_slices_Clone_int_int:Nm Tryz.prog 194=some ⟨8,z5j.r,[.tmp 2]⟩:=Aa
def z44:LC:=(.q [.e 4] (.q [.m 8 0,.m 9 1,.W 10 192 8 9,.m 5 10] (.seq (.q [.m 11 5,.b 12 .eql 3 11 (-1)] (.cond (.t 12) (.q [.m 13 0,.m 4 13] .ret) .skip)) (.seq (.q [.m 14 5,.b 15 .add 3 14 1,.m 6 15] (.block 0 (.loop (.seq (.q [.m 16 6,.m 17 0,.s 18 17,.c 19 .lss 3 16 18] (.cond (.t 19) .skip (.exit 0))) (.seq (.block 1 (.q [.m 22 0,.m 23 6,.I 24 1 22 23,.l 25 24,.m 7 25] (.q [.m 26 1,.m 27 7,.z 28 (.callV (.t 26) [.t 27]),.z 29 (.un .not (.t 28))] (.cond (.t 29) (.q [.m 30 0,.m 31 5,.m 32 7,.I 33 1 30 31,.S 1 33 32] (.ops [.m 34 5,.b 35 .add 3 34 1,.m 5 35])) .skip)))) (.ops [.m 20 6,.b 21 .add 3 20 1,.m 6 21])))))) (.q [.m 36 0,.m 37 5,.z 38 (.slSl 1 (.t 36) (some (.t 37)) none),.v (.clear 1 [(.i 0)] (.t 38))] (.q [.m 39 0,.m 40 5,.z 41 (.slSl 1 (.t 39) none (some (.t 40))),.m 4 41] .ret))))))
def r_slices_DeleteFunc_int_int:Nm Tryz.prog 193=some ⟨42,z44.r,[.tmp 4]⟩:=Aa
def z9m:LC:=(.q [.F 2] (.q [.m 3 0,.b 4 .lss 3 3 0,.m 2 4] .ret))
def r_lengths_takes_1:Nm Tryz.prog 195=some ⟨5,z9m.r,[.tmp 2]⟩:=Aa
def zbd:LC:=(.q [.x 1 0,.e 2] (.q [.L 5 7 1,.w 6 189 5,.z 3 (.alloc [(.i 0),(.i 0),(.i 0),(.i 0),(.i 0)]),.S 5 3 6] (.q [.z 7 (.slArr 5 1 (.t 3) (some (.k 2)) none),.w 8 194 7,.z 9 (.w 193 [.t 8,(.c (.fn (.func 195) [] []))]),.m 4 9] (.seq (.q [.f 10 0 1,.l 11 10,.b 12 .eql 3 11 14] (.cond (.t 12) (.ops [.m 13 4,.f 14 1 1,.l 15 14,.f 16 2 1,.l 17 16,.z 18 (.buildSl 1 2 [(.i 0),(.i 0)] [(0,1,.t 15),(1,1,.t 17)]),.a 19 1 13 18,.m 4 19]) .skip)) (.q [.m 20 4,.m 2 20] .ret)))))
def r_lengths_takes:Nm Tryz.prog 170=some ⟨21,zbd.r,[.tmp 2]⟩:=Aa
def sl_nil:Sa Tryz.prog true 60 .nilSl .nilSl=some true:=Aa
def fu{l:List Int}(g:l.length≤1048576)(j:l≠[])(k:v9 (.dy G.length 1) (G++[.dyn (l.map .i) l.length 1 1 1])):Pm (.fn 194) [.lst (l.map .i) l.length 1] G v9:=by
 refine Nn r_slices_Clone_int_int Aa N ?_;simp[z5j,sl_nil,g,j];exact k
def zn3{l:List Int}{f:Nat}{p:Int→Bool}(g:l.length≤9223372036854775807)
  (j:∀v∈l,Nj f [.i v] (.bool (p v)) []):Nj 192 [.lst (l.map .i) l.length 1,.fn (.func f) [] []] (.i (kf p l)) [] :=
 Od.val rfl (zet g (λv hv z k=>by
  simp only[Mq,Jm];exact Ns (j v hv) (bors_self _ rfl) k) rfl)
def zlo{q k st:Nat}{l:List Int}{f:Nat}{p:Int→Bool}(hl:l.length≤9223372036854775807)(M:G[q]?=some (.dyn (l.map .i) l.length 1 k st))
  (X:∀v,Nj f [.i v] (.bool (p v)) []) (k0:l.filter (λv=>!p v)=l→v9 (.dy q k) G)
  (k1:∀(m:Nat) (gg:List LV) (g:Nat),m=(l.filter (λv=>!p v)).length→gg.length=l.length→gg.take m=(l.filter (λv=>!p v)).map .i→dats gg=true→v9 (.vw q k 0 m) (G.set q (.dyn gg l.length 1 k g))) :
  Pm (.fn 193) [.dy q k,.fn (.func f) [] []] G v9:=by
 refine Nn r_slices_DeleteFunc_int_int Aa (by simp) ?_;have O:q<G.length:=(Hv.1 M).1;have P:∀l:List Int,dats (l.map .i)=true:=λl=>uv (λ_=>rfl) l
 have z:∀Q,(G.set q Q)[q]?=some Q:=λQ=>H8 O
 have A:G.set q (.dyn (l.map .i) l.length 1 k st)=G:=zvm M;simp[z44];refine Ns (zn3 hl λv _=>X v) (by simp[bors,bor,LV.dat,dats,M,P]) ?_;rcases fg p l with ⟨R,I⟩|⟨K,R,gz,I⟩
 ·simp[R];exact k0 I
 have n1:¬((K:Int)=-1):=J
 simp[R,n1];refine⟨J,?_⟩;refine O8 (λY gD Z N=>∃(i j:Nat) (c:List Int) (g:Nat),gD=[]∧Z=G.set q (.dyn (c.map .i) l.length 1 k g)∧N+j=l.length∧i<j∧j≤l.length∧lk Y 0=.dy q k∧lk Y 1=.fn (.func f) [] []∧lk Y 5=.i i∧lk Y 6=.i j ∧
   c.length=l.length∧i=((l.take j).filter (λv=>!p v)).length∧c.take i=(l.take j).filter (λv=>!p v)∧∀u,j≤u→gd c u=gd l u)
  (N:=l.length-(K+1)) ⟨K,K+1,l,st,rfl,A.symm,J,J,J,by simp,by simp,by simp,by simp,rfl,by rw[I];simp;omega,I.symm,λu _=>rfl⟩ ?_
 rintro N Y gD Z ⟨i,j,c,g,rfl,rfl,hN,gA,hj,C,D,E,F,T,hi,L,U⟩ Nx H;by_cases gC:j<l.length
 ·have g2:i<l.length:=J
  have V:=Xf (f:=LV.i) (Xp (l:=c) (u:=j) J);have eg:=U j (H9 _);simp[C,D,E,F,z,gC];simp[Nd V,C,D,E,F,z,gC,eg];refine Ns (X (gd l j)) (by simp) ?_;have B:=zoy (p:=p) gC;cases hb:p (gd l j) with
  |true =>
   rw[hb]at B;simp only[Jo,Jm]at B;simp[F]
   repeat (refine⟨J,?_⟩)
   exact H _ _ _ ⟨N-1,J,i,j+1,c,g,rfl,rfl,J,J,J,Al,Ao,Af,by simp,T,by rw[B];exact hi,by rw[B];exact L,λu hu=>U u J⟩
  |false =>
   rw[hb,Hx (by simp)]at B;simp[C,D,E,F,z,g2];rw[lay_set _ _ _ J]
   repeat (refine⟨J,?_⟩)
   refine H _ _ _ ⟨N-1,J,i+1,j+1,_,_,rfl,rfl,J,J,J,Al,Ao,by simp,by simp,by simpa using T,?_,?_,λu hu=>?_⟩
   ·rw[B,Ia,←hi];rfl
   ·rw[B,znt J,L]
   ·rw[zts (j:=j+1) J J u hu,U u J]
 ·have ej:j=l.length:=J
  subst ej;rw[K2]at hi L;simp[C,D,E,F,z]
  repeat (refine⟨J,?_⟩)
  refine k1 i _ _ hi ?_ ?_ ?_
  ·rw[zy6 (by rw[z5s];simp;omega)];simp[T]
  ·rw[l9 Ab,←Lw,L]
  ·unfold Oo;exact dats_app (dats_app (dats_take _ (P c)) (zw5 rfl _)) (dats_drop _ (P c))
def zx9(v:Int):Nj 195 [.i v] (.bool (decide (v<0))) []:=by
 refine Od.val rfl (Nn r_lengths_takes_1 Aa N ?_);simp[z9m]
def zag(o:Ko)(h:o.kind=14→o.a=-1∧o.b=-1):Oz 170 [.agg o.f] (.lst ((T6 o).map .i) (T6 o).length 1):=by
 have I:∀l:List Int,dats (l.map .i)=true:=λl=>uv (λ_=>rfl) l
 refine Sd.mk (by simp[LV.dat,I]) (Nn r_lengths_takes Aa N ?_);have z:o.f=[.i o.kind,.i o.d,.i o.e,.i o.a,.i o.b,.i o.c,.u o.imm]:=rfl;simp[zbd,z];rw[←z];refine Ns (zap o) (bors_self _ rfl) ?_;simp;refine fu (l:=[o.a,o.b,o.c]) N N ?_;simp;have F:([o.a,o.b,o.c].filter λv=>!decide (v<0)).length≤3:=List.length_filter_le _ _;refine zlo (l:=[o.a,o.b,o.c]) (p:=λv=>decide (v<0)) N rfl zx9 (λhw=>?_) (λm E K hm G H hd=>?_)
 ·by_cases g:o.kind=14
  ·have:=List.filter_eq_self.1 hw o.a N;rw[(h g).1]at this;simp at this
  ·have e:T6 o=[o.a,o.b,o.c]:=by unfold T6;rw[hw,Hx g];rfl
   simp[z,g,e,Of,bor,dats,LV.dat]
 ·by_cases g:o.kind=14
  ·have e:T6 o=([o.a,o.b,o.c].filter λv=>!decide (v<0))++[o.d,o.e]:=by unfold T6;rw[H6 g]
   have A:m≤1:=by
    rw[hm,(h g).1,(h g).2];simp;by_cases L:0≤o.c<;>simp[L]
   have j:E.length=3:=G;simp[z,g,j,A,dats,LV.dat];rw[e];have B:(([o.a,o.b,o.c].filter λv=>!decide (v<0))++[o.d,o.e]).length=m+2:=by rw[Ia,←hm];rfl
   have M:(([o.a,o.b,o.c].filter λv=>!decide (v<0))++[o.d,o.e]).map LV.i=E.take m++[.i o.d,.i o.e]:=by rw[K8,H];rfl
   have C:(E.take m++[LV.i o.d,LV.i o.e]).length=m+2:=by rw[Ia,J4];simp;omega
   have O:dats (E.take m++[LV.i o.d,LV.i o.e])=true:=dats_app (dats_take _ hd) rfl;have D:(Oo E m [.i o.d,.i o.e]).length=3:=by unfold Oo;simp;omega
   rw[M,B];refine⟨J,⟨_,_,_,⟨?_,rfl,rfl⟩,⟨rfl,rfl,rfl⟩,?_,?_⟩,⟨_,_,_,⟨rfl,rfl,rfl⟩,⟨rfl,rfl,rfl⟩,O⟩⟩
   ·unfold Oo;rw[Kj];exact (Ky C).symm
   ·rw[D];omega
   ·unfold Oo;exact dats_app (dats_app (dats_take _ hd) rfl) (dats_drop _ hd)
  ·have e:T6 o=[o.a,o.b,o.c].filter λv=>!decide (v<0):=by unfold T6;rw[Hx g,Jm]
   simp[z,g,dats,LV.dat];rw[e,←H,←hm];have j:E.length=3:=G;simp[Of,bor,hd];exact⟨_,_,_,⟨by rw[Kj],rfl⟩,⟨rfl,rfl,rfl⟩,by rw[j];omega,hd⟩
def zbb:LC:=(.q [.F 3] (.q [.l 4 1,.m 5 0,.I 6 3 4 5,.f 7 1 6,.l 8 7,.m 3 8] .ret))
def r_lengths_one_1:Nm Tryz.prog 190=some ⟨9,zbb.r,[.tmp 3]⟩:=Aa
def za0:LC:=(.q [.x 2 0,.x 3 1,.F 4] (.seq (.q [.f 13 0 3,.l 14 13,.b 15 .eql 3 14 17] (.cond (.t 15) (.q [.l 16 2,.L 17 7 3,.W 18 166 16 17,.m 4 18] .ret) .skip)) (.q [.f 20 0 3,.l 21 20,.w 22 187 21,.m 19 22,.X 23 0 19,.X 24 1 19,.m 5 23,.m 6 24] (.seq (.q [.m 25 6,.z 26 (.un .not (.t 25)),.m 27 26,.n 28 27 (.loadN 7 (.t 3)),.n 29 27 (.w 188 [.t 28]),.n 30 27 (.un .not (.t 29)),.p 31 27 30] (.cond (.t 31) (.q [.F 4] .ret) .skip)) (.seq (.q [.L 32 7 3,.w 33 189 32,.K 34 0] (.block 0 (.loop (.q [.b 35 .lss 3 34 5] (.seq (.cond (.t 35) .skip (.exit 0)) (.seq (.block 1 (.q [.m 36 34,.z 37 (.ixArr false 5 1 (.t 33) (.t 34)),.m 7 36,.m 8 37] (.q [.m 38 5,.m 39 7,.c 40 .shr 3 38 39,.b 41 .and 3 40 1,.b 42 .eql 3 41 1,.m 9 42] (.q [.m 43 9,.m 44 43,.my 45 44 8,.y 46 44 (.bin .lss true 3 (.t 45) (.k 0)),.my 47 44 46,.mn 48 47 8,.nl 49 47 2,.n 50 47 (.lenSl (.t 49)),.n 51 47 (.bin .geq false 3 (.t 48) (.t 50)),.y 52 44 (.pick (.t 47) .T (.t 51)),.q 53 44 52,.m 54 53,.mn 55 54 9,.n 56 54 (.un .not (.t 55)),.mn 57 54 56,.my 58 57 8,.y 59 57 (.bin .neq true 3 (.t 58) (.k (-1))),.n 60 54 (.pick (.t 57) (.t 59) .F),.p 61 54 60] (.cond (.t 61) (.q [.F 4] .ret) .skip))))) (.ops [.b 62 .add 3 34 1,.m 34 62]))))))) (.q [.L 63 7 3,.w 64 170 63,.z 65 (.mkFunc 190 [] [.t 2]),.W 66 169 64 65,.m 10 66] (.seq (.q [.f 67 1 3,.l 68 67,.f 69 2 3,.l 70 69,.z 71 (.buildSl 1 2 [(.i 0),(.i 0)] [(0,1,.t 68),(1,1,.t 70)]),.s 72 71,.K 73 0] (.block 2 (.loop (.q [.c 74 .lss 3 73 72] (.seq (.cond (.t 74) .skip (.exit 2)) (.seq (.block 3 (.q [.I 75 1 71 73,.l 76 75,.m 12 76] (.q [.m 77 12,.b 78 .geq 3 77 0,.m 79 78,.yl 80 79 2,.my 81 79 12,.y 82 79 (.ixAddr 3 (.t 80) (.t 81)),.y 83 79 (.loadN 3 (.t 82)),.y 84 79 (.w 167 [.t 83]),.my 85 79 84,.mn 86 85 10,.mn 87 85 86,.yl 88 87 2,.my 89 87 12,.y 90 87 (.ixAddr 3 (.t 88) (.t 89)),.yf 91 87 1 90,.yl 92 87 91,.y 93 87 (.un .not (.t 92)),.n 94 85 (.pick (.t 87) (.t 93) .F),.y 95 79 (.pick (.t 85) .T (.t 94)),.q 96 79 95] (.cond (.t 96) (.q [.F 4] .ret) .skip)))) (.ops [.b 97 .add 3 73 1,.m 73 97]))))))) (.q [.f 98 2 3,.l 99 98,.b 100 .lss 3 99 0,.m 101 100,.nf 102 101 1 3,.nl 103 101 102,.nf 104 101 2 3,.nl 105 101 104,.n 106 101 (.bin .neq false 3 (.t 103) (.t 105)),.p 107 101 106,.m 108 107,.yl 109 108 2,.y 110 108 (.loadN 7 (.t 3)),.y 111 108 (.w 191 [.t 109,.t 110]),.q 112 108 111,.m 4 112] .ret))))))))
def r_lengths_one:Nm Tryz.prog 168=some ⟨113,za0.r,[.tmp 4]⟩:=Aa
def iy{p st:Nat}(v:Int)(j:G[p]?=some (.cells [.lst (Ob vQ) vQ.length 3] st))(hv:jf vQ v)(k:v9 (.bool (gv vQ v.toNat).sec) G):Pm (.fn 190) [.i v,.ptr p 0] G v9:=by
 refine Nn r_lengths_one_1 Aa N ?_;obtain⟨a,rfl,z,A⟩:=hv.at;have g:=zl3 A;simp only[In]at g k;simp[zbb,j,z];simp[Nd g];exact k
def zlc(g:List Vr)(o:Ko):Nj 168 [.lst (Ob g) g.length 3,.agg o.f] (.bool (Oc g o)) []:=by
 refine Od.val rfl (Nn r_lengths_one Aa (by simp) ?_);have C:o.f=[.i o.kind,.i o.d,.i o.e,.i o.a,.i o.b,.i o.c,.u o.imm]:=rfl;by_cases z:o.kind=17
 ·simp[za0,C,z];have hf:=zbo (Ob g) g.length o;rw[C,z]at hf;refine Ns hf (bors_self _ Ba) ?_;simp[Oc,z]
 simp[za0,C,z];refine Ns (zhf o.kind) (by simp) ?_;cases M:P1 o.kind with
 |none=>simp[Oc,z,M]
 |some s =>
 simp;rw[←C];refine Ns (zfs o) (bors_self _ rfl) ?_;cases hn:Rv o with
 |false=>simp[Oc,z,M,hn]
 |true =>
 simp[C];rw[←C];refine Ns (zap o) (bors_self _ rfl) ?_;have gD:=zsd M;simp;refine O8 (λY gE gF N=>∃i:Nat,gE=[]∧gF=[.cells [.lst (Ob g) g.length 3] 0,.cells o.f 0]∧N+i=5∧lk Y 2=.ptr 0 0∧lk Y 3=.ptr 1 0∧lk Y 5=.i s∧lk Y 33=.agg ((Qw o).map .i)∧lk Y 34=.i i∧∀O,O<i→Rn g.length s O (gd (Qw o) O)=true) (N:=5) ⟨0,by simp[Qw]⟩ ?_;rintro N Y gE gF ⟨i,rfl,rfl,hN,B,H,h5,P,gg,Z⟩ Nx I;by_cases hi:5≤i
 case neg =>
  have gA:(i:Int)<5:=J
  have g2:i<5:=J
  have hg:=Xf (f:=LV.i) (Xp (l:=Qw o) (u:=i) g2);have A:Rn g.length s i (gd (Qw o) i)=true→∀O,O<i+1→Rn g.length s O (gd (Qw o) O)=true:=λh O hj=>by
   by_cases e:O=i
   ·rw[e];exact h
   ·exact Z O J
  have K:Rn g.length s i (gd (Qw o) i)=false→Oc g o=false:=λh=>by
   simp[Oc,z,M,zq5 g2 h]
  have pb:=zwh s i;generalize gd (Qw o) i=v at *;have T:0≤(s:Int)/2^i:=Int.ediv_nonneg J (Int.pow_nonneg J);have e1:(s:Int)/2^i<9223372036854775808:=Int.lt_of_le_of_lt (Int.ediv_le_self _ J) J;have em:max ((s:Int)/2^i) 0=(s:Int)/2^i:=J
  simp[B,H,h5,P,gg,gA,Nd hg,em,T,e1,pb];refine⟨J,λU=>⟨λv0=>?_,λv0=>⟨λv1=>?_,λv1=>?_⟩⟩,λU=>?_⟩
  ·exact K Fu
  ·exact K Fu
  ·simp only[U,zo0];exact⟨J,I _ _ _ ⟨N-1,J,i+1,rfl,rfl,J,An,Bd,by simp[h5],F2,by simp,A Fu⟩⟩
  ·simp only[U,zl2];exact⟨λhv=>⟨J,I _ _ _ ⟨N-1,J,i+1,rfl,rfl,J,An,Bd,by simp[h5],F2,by simp,A (by simp[Rn,U,hv])⟩⟩,λhv=>K (by simp[Rn,U,hv])⟩
 have V:Tw g.length s o=true:=zls λO hj=>Z O J
 have L:=zob M V;have gA:¬(i:Int)<5:=J
 simp[B,H,P,gg,gA,C];rw[←C];refine R6 (zag o L.swap) rfl ?_;simp;have gC:(T6 o).length≤9223372036854775807:=by
  have h1:([o.a,o.b,o.c].filter λv=>!decide (v<0)).length≤3:=List.length_filter_le _ _;unfold T6;split<;>simp at h1 ⊢<;>omega
 rw[B];refine z6v (p:=λv=>(gv g v.toNat).sec) gC (λv hv K' k=>iy v rfl (L.takes v hv) k) ?_;rw[show (T6 o).any (λv=>(gv g v.toNat).sec)=O5 g o from rfl];simp[B,H,C];refine O8 (λY gE gF N=>∃i:Nat,gE=[]∧gF=[.cells [.lst (Ob g) g.length 3] 0,.cells o.f 0,.dyn ([o.d,o.e].map .i) 2 1 0 0]∧N+i=2∧lk Y 2=.ptr 0 0∧lk Y 3=.ptr 1 0∧lk Y 10=.bool (O5 g o)∧lk Y 71=.dy 2 0∧lk Y 72=.i 2∧lk Y 73=.i i∧∀O,O<i→Sj g (O5 g o) (gd [o.d,o.e] O)=true) (N:=2) ⟨0,by simp[B,H,C]⟩ ?_;rintro N Y gE gF ⟨i,rfl,rfl,hN,B,H,D,E,F,G,Z⟩ Nx I;by_cases hi:2≤i
 case neg =>
  have gA:(i:Int)<2:=J
  have g2:i<2:=J
  have hg:=Xf (f:=LV.i) (Xp (l:=[o.d,o.e]) (u:=i) g2);have A:Sj g (O5 g o) (gd [o.d,o.e] i)=true→∀O,O<i+1→Sj g (O5 g o) (gd [o.d,o.e] O)=true:=λh O hj=>by
   by_cases e:O=i
   ·rw[e];exact h
   ·exact Z O J
  have K:Sj g (O5 g o) (gd [o.d,o.e] i)=false→Oc g o=false:=λh=>by
   have X:i=0∨i=1:=J
   rcases X with rfl|rfl
   ·have h:Sj g (O5 g o) o.d=false:=h;simp[Oc,z,M,h]
   ·have h:Sj g (O5 g o) o.e=false:=h;simp[Oc,z,M,h]
  have gz:gd [o.d,o.e] i=-1∨jf g (gd [o.d,o.e] i):=by
   have X:i=0∨i=1:=J
   rcases X with rfl|rfl
   ·exact L.d
   ·exact L.e
  generalize gd [o.d,o.e] i=v at *;simp only[Kk,List.map_nil]at hg;rcases gz with rfl|hv
  ·simp[B,H,D,E,F,G,gA,Nd hg];exact⟨J,I _ _ _ ⟨N-1,J,i+1,rfl,rfl,J,An,Bd,Ao,Af,Ak,by simp,A (by simp[Sj])⟩⟩
  ·obtain⟨k,rfl,hk,ek⟩:=hv.at;have q3:=zcb ek;have q1:=zl3 ek;have hq:=ju hk;simp only[In]at q1 q3;simp[B,H,D,E,F,G,gA,Nd hg,hk,q3,hq];refine Ns (zal (gv g k)) (bors_self _ rfl) ?_;cases Q:Sc (gv g k) with
   |true =>
    simp;exact K (by simp[Sj,Q])
   |false =>
    cases j:O5 g o with
    |false =>
     simp[B,D,G,j];exact⟨J,I _ _ _ ⟨N-1,J,i+1,rfl,rfl,J,An,Bd,by simp[D,j],Af,Ak,by simp,A (by simp[Sj,Q,j])⟩⟩
    |true =>
     cases R:(gv g k).sec with
     |false =>
      simp[B,D,G,j,hk,Nd q1,R];exact K (by simp[Sj,Q,j,R])
     |true =>
      simp[B,D,G,j,hk,Nd q1,R];exact⟨J,I _ _ _ ⟨N-1,J,i+1,rfl,rfl,J,An,Bd,by simp[D,j],Af,Ak,by simp,A (by simp[Sj,Q,j,R])⟩⟩
 have gA:¬(i:Int)<2:=J
 have od:Sj g (O5 g o) o.d=true:=Z 0 J;have oe:Sj g (O5 g o) o.e=true:=Z 1 J;by_cases T:o.e<0
 ·simp[B,H,E,F,G,gA,C,T];rw[←C];refine Ns (zam g o L.alike) (bors_self _ (by simp[dats,LV.dat,Ro,C])) ?_;simp[Oc,z,M,hn,V,od,oe,T]
 ·by_cases e1:o.d=o.e
  ·simp[B,H,E,F,G,gA,C,T,e1];simp[Oc,z,M,T,e1]
  ·simp[B,H,E,F,G,gA,C,T,e1];rw[←C];refine Ns (zam g o L.alike) (bors_self _ (by simp[dats,LV.dat,Ro,C])) ?_;simp[Oc,z,M,hn,V,od,oe,T,e1]
def zcy:LC:=(.q [.F 2] (.q [.K 3 0] (.seq (.q [.m 6 0,.s 7 6,.K 8 0] (.block 0 (.loop (.q [.c 9 .lss 3 8 7] (.seq (.cond (.t 9) .skip (.exit 0)) (.seq (.block 1 (.q [.m 10 8,.I 11 3 6 8,.L 12 3 11,.z 5 (.alloc [(.i 0),(.bool false),(.i 0)]),.m 4 10,.S 3 5 12] (.seq (.q [.f 13 0 5,.l 14 13,.b 15 .lss 3 14 1,.m 16 15,.nf 17 16 0 5,.nl 18 16 17,.nb 19 16 .gtr 3 18 512,.p 20 16 19,.m 21 20,.nf 22 21 2 5,.nl 23 21 22,.nb 24 21 .lss 3 23 0,.p 25 21 24,.m 26 25,.nf 27 26 2 5,.nl 28 26 27,.nb 29 26 .gtr 3 28 3,.p 30 26 29] (.cond (.t 30) (.q [.F 2] .ret) .skip)) (.seq (.q [.f 31 2 5,.l 32 31,.b 33 .eql 3 32 0] (.cond (.t 33) (.exit 1) .skip)) (.seq (.q [.m 34 3,.m 35 4,.c 36 .lss 3 34 35,.m 37 36,.nf 38 37 1 5,.nl 39 37 38,.nf 40 37 2 5,.nl 41 37 40,.nb 42 37 .neq 3 41 1,.n 43 37 (.bin .neq false 4 (.t 39) (.t 42)),.p 44 37 43] (.cond (.t 44) (.q [.F 2] .ret) .skip)) (.ops [.m 45 3,.b 46 .add 3 45 1,.m 3 46])))))) (.ops [.b 47 .add 3 8 1,.m 8 47]))))))) (.q [.m 48 0,.s 49 48,.b 50 .geq 3 49 1,.m 51 50,.my 52 51 0,.y 53 51 (.lenSl (.t 52)),.y 54 51 (.bin .leq true 3 (.t 53) (.k 256)),.q 55 51 54,.m 56 55,.my 57 56 3,.y 58 56 (.bin .leq true 3 (.t 57) (.k 12)),.q 59 56 58,.m 2 59] .ret))))
def r_lengths_vars:Nm Tryz.prog 164=some ⟨60,zcy.r,[.tmp 2]⟩:=Aa
def zjf(g:List Vr)(hl:g.length≤9223372036854775807):Nj 164 [.lst (Ob g) g.length 3] (.bool (Qx g)) []:=by
 refine Od.val rfl (Nn r_lengths_vars Aa (by simp) ?_);simp[zcy];refine O8 (λV gg gz N=>∃i p:Nat,gg=[]∧N+i=g.length∧p≤i∧lk V 0=.lst (Ob g) g.length 3∧lk V 3=.i p∧lk V 6=.lst (Ob g) g.length 3∧lk V 7=.i g.length∧lk V 8=.i i∧Rz i p (g.drop i)=Rz 0 0 g) (N:=g.length) ⟨0,0,by simp⟩ ?_;rintro N V gg gz ⟨i,p,rfl,hN,Y,A,E,B,C,G,hv⟩ Nx R;by_cases P:i<g.length
 ·have Z:=T2 P;have I:=zcb Z;have K:=ju P;rw[zom P]at hv;have L:(gv g i).f=[.i (gv g i).limbs,.bool (gv g i).sec,.i (gv g i).mode]:=rfl;generalize gv g i=v at *;have D:Rz i p (v::g.drop (i+1))=none→Qx g=false:=λh=>by rw[h]at hv;simp[Qx,←hv]
  by_cases j:v.limbs<1
  ·simp[A,E,B,C,G,P,I,K,L,j];exact D (by simp[Rz,Vl,j])
  by_cases z:512<v.limbs
  ·simp[A,E,B,C,G,P,I,K,L,j,z];exact D (by simp[Rz,Vl,j,z])
  by_cases F:v.mode<0
  ·simp[A,E,B,C,G,P,I,K,L,j,z,F];exact D (by simp[Rz,Vl,j,z,F])
  by_cases H:3<v.mode
  ·simp[A,E,B,C,G,P,I,K,L,j,z,F,H];exact D (by simp[Rz,Vl,j,z,F,H])
  by_cases M:v.mode=0
  ·simp[A,E,B,C,G,P,I,K,L,j,z,F,H,M];refine⟨J,R _ _ _ ⟨N-1,J,i+1,p,rfl,J,J,At,Af,An,Al,by simp,?_⟩⟩;rw[←hv];simp[Rz,Vl,j,z,F,H,M]
  by_cases Q:p<i
  ·simp[A,E,B,C,G,P,I,K,L,j,z,F,H,M,Q];exact D (by simp[Rz,Vl,j,z,F,H,M,Q])
  by_cases T:v.sec=decide (v.mode=1)
  ·simp[A,E,B,C,G,P,I,K,L,j,z,F,H,M,Q,qz,T];exact D (by simp[Rz,Vl,j,z,F,H,M,Q,T])
  ·have b8:v.sec=!decide (v.mode=1):=by cases hs:v.sec<;>cases hm:decide (v.mode=1)<;>simp_all
   simp[A,E,B,C,G,P,I,K,L,j,z,F,H,M,Q,qz,b8];refine⟨J,J,R _ _ _ ⟨N-1,J,i+1,p+1,rfl,J,J,At,by simp,An,Al,by simp,?_⟩⟩;rw[←hv];simp[Rz,Vl,j,z,F,H,M,Q,T]
 ·have ei:i=g.length:=J
  rw[J0 J]at hv;have O:Rz 0 0 g=some p:=by rw[←hv];rfl
  by_cases U:1≤g.length
  ·by_cases X:g.length≤256
   ·simp[A,E,B,C,G,P,Qx,O,U,X];omega
   ·simp[A,E,B,C,G,P,Qx,O,U,X];omega
  ·simp[A,E,B,C,G,P,Qx,O,U];omega
def z5u:LC:=(.q [.F 3] (.q [.m 4 0,.b 5 .geq 3 4 0,.m 6 5,.yf 7 6 0 1,.yl 8 6 7,.my 9 6 0,.y 10 6 (.ixAddr 3 (.t 8) (.t 9)),.yf 11 6 2 10,.yl 12 6 11,.y 13 6 (.bin .eql true 3 (.t 12) (.k 3)),.q 14 6 13,.m 3 14] .ret))
def r_lengths_Check_1:Nm Tryz.prog 165=some ⟨15,z5u.r,[.tmp 3]⟩:=Aa
def z97:LC:=(.q [.F 3] (.q [.l 4 1,.m 5 0,.I 6 1 4 5,.l 7 6,.z 8 (.un .not (.t 7)),.m 3 8] .ret))
def r_lengths_Check_2:Nm Tryz.prog 171=some ⟨9,z97.r,[.tmp 3]⟩:=Aa
def zaz:LC:=(.q [.x 1 0,.K 2 0] (.seq (.q [.f 13 0 1,.l 14 13,.w 15 164 14,.z 16 (.un .not (.t 15)),.m 17 16,.nf 18 17 1 1,.nl 19 17 18,.n 20 17 (.lenSl (.t 19)),.nb 21 17 .gtr 3 20 4096,.p 22 17 21,.m 23 22,.nf 24 23 2 1,.nl 25 23 24,.n 26 23 (.lenSl (.t 25)),.nb 27 23 .gtr 3 26 4096,.p 28 23 27] (.cond (.t 28) (.q [.K 2 2] .ret) .skip)) (.q [.z 29 (.mkFunc 165 [] [.t 1]),.m 3 29] (.seq (.q [.f 30 2 1,.l 31 30,.s 32 31,.K 33 0] (.block 0 (.loop (.q [.c 34 .lss 3 33 32] (.seq (.cond (.t 34) .skip (.exit 0)) (.seq (.block 1 (.q [.I 35 7 31 33,.L 36 7 35,.z 5 (.alloc [(.i 0),(.i 0),(.i 0),(.i 0),(.i 0),(.i 0),(.u 0)]),.S 7 5 36] (.q [.f 37 0 5,.l 38 37,.b 39 .neq 3 38 17,.m 40 39,.nf 41 40 0 1,.nl 42 40 41,.n 43 40 (.loadN 7 (.t 5)),.n 44 40 (.w 166 [.t 42,.t 43]),.n 45 40 (.un .not (.t 44)),.p 46 40 45,.m 47 46,.mn 48 47 3,.nf 49 47 3 5,.nl 50 47 49,.n 51 47 (.callV (.t 48) [.t 50]),.p 52 47 51,.m 53 52,.mn 54 53 3,.nf 55 53 4 5,.nl 56 53 55,.n 57 53 (.callV (.t 54) [.t 56]),.p 58 53 57] (.cond (.t 58) (.q [.K 2 2] .ret) .skip)))) (.ops [.b 59 .add 3 33 1,.m 33 59]))))))) (.q [.f 60 0 1,.l 61 60,.s 62 61,.z 63 (.mkSl 1 [(.bool false)] (.t 62) (.t 62)),.z 6 (.alloc [.nilSl]),.S 1 6 63] (.seq (.q [.f 64 0 1,.l 65 64,.s 66 65,.K 67 0] (.block 2 (.loop (.q [.c 68 .lss 3 67 66] (.seq (.cond (.t 68) .skip (.exit 2)) (.seq (.block 3 (.q [.m 69 67,.I 70 3 65 67,.L 71 3 70,.z 8 (.alloc [(.i 0),(.bool false),(.i 0)]),.m 7 69,.S 3 8 71] (.draw [(.l 72 6,[]),(.m 73 7,[]),(.L 74 3 8,[]),(.w 75 167 74,[(.l 72 6,false)]),(.I 76 1 72 73,[]),(.S 1 76 75,[])]))) (.ops [.b 77 .add 3 67 1,.m 67 77]))))))) (.q [.K 9 0] (.seq (.q [.f 78 1 1,.l 79 78,.s 80 79,.K 81 0] (.block 4 (.loop (.q [.c 82 .lss 3 81 80] (.seq (.cond (.t 82) .skip (.exit 4)) (.seq (.block 5 (.q [.I 83 7 79 81,.L 84 7 83,.z 11 (.alloc [(.i 0),(.i 0),(.i 0),(.i 0),(.i 0),(.i 0),(.u 0)]),.S 7 11 84] (.seq (.q [.f 85 0 1,.l 86 85,.L 87 7 11,.W 88 168 86 87,.z 89 (.un .not (.t 88)),.m 90 89,.n 91 90 (.loadN 7 (.t 11)),.n 92 90 (.w 170 [.t 91]),.n 93 90 (.mkFunc 171 [] [.t 6]),.n 94 90 (.w 169 [.t 92,.t 93]),.p 95 90 94] (.cond (.t 95) (.q [.K 2 2] .ret) .skip)) (.seq (.q [.f 96 0 11,.l 97 96] (.block 6 (.q [.b 99 .eql 3 97 15,.m 98 99] (.cond (.t 98) (.ops [.m 100 9,.b 101 .add 3 100 1,.m 9 101]) (.q [.b 103 .eql 3 97 16,.m 102 103] (.cond (.t 102) (.ops [.m 104 9,.b 105 .sub 3 104 1,.m 9 105]) .skip)))))) (.seq (.q [.m 106 9,.b 107 .lss 3 106 0,.m 108 107,.mn 109 108 9,.nb 110 108 .gtr 3 109 4,.p 111 108 110] (.cond (.t 111) (.q [.K 2 2] .ret) .skip)) (.q [.f 112 1 11,.l 113 112,.b 114 .geq 3 113 0] (.cond (.t 114) (.ops [.l 115 6,.f 116 1 11,.l 117 116,.I 118 1 115 117,.v (.store 1 (.t 118) .T)]) .skip))))))) (.ops [.b 119 .add 3 81 1,.m 81 119]))))))) (.seq (.q [.l 120 6,.s 121 120,.K 122 0] (.block 7 (.loop (.q [.c 123 .lss 3 122 121] (.seq (.cond (.t 123) .skip (.exit 7)) (.seq (.block 8 (.q [.m 124 122,.m 12 124] (.q [.m 125 3,.m 126 12,.z 127 (.callV (.t 125) [.t 126]),.m 128 127,.yl 129 128 6,.my 130 128 12,.y 131 128 (.ixAddr 1 (.t 129) (.t 130)),.yl 132 128 131,.y 133 128 (.un .not (.t 132)),.q 134 128 133] (.cond (.t 134) (.q [.K 2 2] .ret) .skip)))) (.ops [.b 135 .add 3 122 1,.m 122 135]))))))) (.seq (.q [.m 136 9,.b 137 .neq 3 136 0] (.cond (.t 137) (.q [.K 2 2] .ret) .skip)) (.q [.K 2 0] .ret)))))))))))
def r_lengths_Check:Nm Tryz.prog 118=some ⟨138,zaz.r,[.tmp 2]⟩:=Aa
def Se(g:List Vr)(j z:List Ko):List LV:=[.lst (Ob g) g.length 3,.lst (Un j) j.length 7,.lst (Un z) z.length 7]
def Oi{x:M9}{q:Nat}(h:q<G.length):(G++x)[q]?=G[q]?:=Ib h
def zhq(f:vP→LV)(l:List vP)(g:Nat)(x:vP)(h:g<l.length):Oo (l.map f) g [f x]=(l.set g x).map f:=by
 unfold Oo;rw[I5,H6 h];simp[Lw,List.map_drop]
def repB(n:Nat):Ph [.bool false] n=(List.replicate n false).map LV.bool:=by
 induction n with
 |zero=>rfl
 |succ n g=>simp[Ph,g,Kz]
def gb_ext{a b:List Bool}(h:a.length=b.length)(he:∀g,g<a.length→gb a g=gb b g):a=b:=by
 apply List.ext_getElem h;intro g j z;have:=he g j;simpa [gb,Hw,j,z] using this
def yg(m:List Bool)(i g:Nat)(b:Bool)(hi:i<m.length):gb (m.set i b) g=if g=i then b else gb m g:=by
 unfold gb;rw[Hw,Hw,Mb];by_cases h:i=g
 ·subst h;simp[hi]
 ·rw[Hx h,Hx (λq=>h q.symm)]
def zdo{p st:Nat}(v:Int)(j:G[p]?=some (.cells (.lst (Ob vQ) vQ.length 3::E) st))(hv:v<vQ.length)(k:v9 (.bool (U3 vQ v)) G):Pm (.fn 165) [.i v,.ptr p 0] G v9:=by
 refine Nn r_lengths_Check_1 Aa N ?_;by_cases g:0≤v
 ·obtain⟨a,rfl⟩:=H0 g;have z:a<vQ.length:=J
  have A:=ud (T2 z);simp[z5u,j,z];simp[Nd A];simpa [U3] using k
 ·simp[z5u,j,g];simpa [U3,g] using k
def zsh{p q st:Nat}{m:List Bool}(v:Int)(z:G[p]?=some (.cells [.dy q 0] st))(A:G[q]?=some (.dyn (m.map .bool) m.length 1 0 g))(hv:0≤v∧v<m.length)(k:v9 (.bool (!gb m v.toNat)) G):Pm (.fn 171) [.i v,.ptr p 0] G v9:=by
 refine Nn r_lengths_Check_2 Aa N ?_;obtain⟨a,rfl⟩:=H0 hv.1;have j:a<m.length:=J
 have B:=Xf (f:=LV.bool) (at_gb j);simp[z97,z,A,j];simp[Nd B];simpa using k
def zaj(g:List Vr)(j z:List Ko)(jK:g.length≤9223372036854775807):Nj 118 [.agg (Se g j z)] (.i (Ut g j z)) []:=by
 refine Od.val rfl (Nn r_lengths_Check Aa (by simp) ?_);have gD:S7 g j z=false→Ut g j z=2:=λh=>by simp[Ut,h]
 simp[zaz,Se];refine Ns (zjf g jK) (bors_self _ Ba) ?_;cases hv:Qx g with
 |false=>simp[gD,S7,hv]
 |true =>
 have jL:=zf2 hv;by_cases g1:(4096:Int)<(j.length:Int)
 ·simp[g1];exact (gD (by simp[S7,hv];omega)).symm
 by_cases g2:(4096:Int)<(z.length:Int)
 ·simp[g1,g2];exact (gD (by simp[S7,hv];omega)).symm
 simp[g1,g2];refine O8 (λρ jD gH N=>∃i:Nat,jD=[]∧N+i=z.length∧lk ρ 1=.ptr 0 0∧lk ρ 3=.fn (.func 165) [] [.ptr 0 0]∧lk ρ 31=.lst (Un z) z.length 7∧lk ρ 32=.i z.length∧lk ρ 33=.i i∧0<gH.length∧gH[0]?=some (.cells (Se g j z) 0)∧∀gC,gC<i→Ti g (go z gC)=true) (N:=z.length) ⟨0,by simp[Se]⟩ ?_;rintro N ρ jD gH ⟨i,rfl,hN,B,F,gQ,gR,gT,O,L,hr⟩ Nx H;by_cases gI:i<z.length
 ·have q7:=zuy (W9 gI);have T:=os_lt gI;have P:(go z i).f=[.i (go z i).kind,.i (go z i).d,.i (go z i).e,.i (go z i).a,.i (go z i).b,.i (go z i).c,.u (go z i).imm]:=rfl;have no:Ti g (go z i)=false→Ut g j z=2:=λh=>gD (by
   have:z.all (Ti g)=false:=by
    rw[Md];exact⟨go z i,Io (W9 gI),by simp[h]⟩
   simp[S7,this])
  have jM:Ti g (go z i)=true→∀gC,gC<i+1→Ti g (go z gC)=true:=λh gC hj=>by
   by_cases e:gC=i
   ·rw[e];exact h
   ·exact hr gC J
  generalize go z i=o at *;by_cases gE:o.kind=17
  ·simp[B,F,gQ,gR,gT,gI,q7,T,P,gE,↓Oi O,L,Se];have hc:=zbo (Ob g) g.length o;rw[P,gE]at hc;refine Ns hc (bors_self _ Ba) ?_;cases hn:Si g.length o with
   |false =>
    simp;exact (no (by simp[Ti,hn])).symm
   |true =>
    have gU:=br gE hn;have ha:o.a<g.length:=by
     simp only[Si,Hz]at hn;exact (jk.1 hn.2.2.2.1).2
    have hb:o.b<g.length:=by
     simp only[Si,Hz]at hn;have:=hn.2.2.2.2;split at this
     ·exact (jk.1 this).2
     ·simp at this;omega
    simp[F];refine zdo o.a B3 ha ?_;cases ho:U3 g o.a with
    |true =>
     simp;exact (no (by simp[Ti,ho])).symm
    |false =>
     simp[F];refine zdo o.b B3 hb ?_;cases jE:U3 g o.b with
     |true =>
      simp;exact (no (by simp[Ti,jE])).symm
     |false =>
      simp[gT];exact⟨J,H _ _ _ ⟨N-1,J,i+1,rfl,J,An,Ak,by simp[gQ],by simp[gR],by simp,by simp,B3,jM (by simp[Ti,gE,hn,ho,jE])⟩⟩
  ·simp[B,F,gQ,gR,gT,gI,q7,T,P,gE];exact (no (by simp[Ti,gE])).symm
 have jF:z.all (Ti g)=true:=by
  rw[Jy];intro o ho;obtain⟨gC,hj,rfl⟩:=J6.1 ho;have e:=W9 hj;rw[H7 hj]at e;rw[Option.some.inj e];exact hr gC J
 simp[B,F,gQ,gR,gT,gI,L,Se,jL,↓Oi O];refine⟨J,?_⟩;refine O8 (λρ jD gH N=>∃(i:Nat) (m:List Bool) (p q st E:Nat),jD=[]∧N+i=g.length∧lk ρ 1=.ptr 0 0∧lk ρ 3=.fn (.func 165) [] [.ptr 0 0]∧lk ρ 6=.ptr p 0∧lk ρ 65=.lst (Ob g) g.length 3∧lk ρ 66=.i g.length∧lk ρ 67=.i i ∧
   0<gH.length∧p<gH.length∧0<q∧q<gH.length∧gH[0]?=some (.cells (Se g j z) 0)∧gH[p]?=some (.cells [.dy q 0] st)∧gH[q]?=some (.dyn (m.map .bool) m.length 1 0 E)∧m.length=g.length∧∀gC,gC<i→gb m gC=Sc (gv g gC)) (N:=g.length)
  ⟨0,List.replicate g.length false,gH.length+1,gH.length,1,0,rfl,J,An,Ak,by simp,An,by simp,by simp,by simp,by simp,O,by simp,B3,by simp,by simp[repB],by simp,by simp⟩ ?_
 clear B F L hr H O;rintro N ρ jD gH ⟨i,m,p,q,st,E,rfl,hN,B,F,D,g8,g9,jg,O,A,gK,I,L,K,T,U,hm⟩ Nx H;by_cases gI:i<g.length
 ·have hg:=T2 gI;have q3:=zcb hg;have jz:=ju gI;have P:(gv g i).f=[.i (gv g i).limbs,.bool (gv g i).sec,.i (gv g i).mode]:=rfl;simp[B,D,g8,g9,jg,gI,q3,jz,P,↓Oi A,K];rw[←P];refine Ns (zal (gv g i)) (bors_self _ rfl) ?_;simp[↓Oi A,↓Oi I,K,T,D,jg,gI,U];refine⟨J,J,H _ _ _ ⟨N-1,J,i+1,m.set i (Sc (gv g i)),p,q,st,E+1,rfl,J,An,Ak,Ao,by simp[g8],by simp[g9],by simp,by simp,Ab,gK,Ab,?_,?_,?_,Bm,λgC hj=>?_⟩⟩
  ·rw[Hy J,Oi O];exact L
  ·have jO:p≠q:=λe=>by rw[e,T]at K;cases K
   rw[Hy J,Oi A];exact K
  ·rw[H8 Ab,zhq _ _ _ _ J,J9,U]
  ·rw[yg _ _ _ _ J];split
   ·rename_i e;rw[e]
   ·exact hm gC J
 have jP:m=ik g:=gb_ext (by simp[ik,U]) (λgC hj=>by
  rw[hm gC J];unfold gb ik;rw[Hw,Jz,T2 J];rfl)
 simp[B,D,g8,g9,jg,gI,L,Se];refine O8 (λρ jD gH N=>∃(i:Nat) (m:List Bool) (G:Int) (p q st E:Nat),jD=[]∧N+i=j.length∧lk ρ 1=.ptr 0 0∧lk ρ 3=.fn (.func 165) [] [.ptr 0 0]∧lk ρ 6=.ptr p 0∧lk ρ 9=.i G∧lk ρ 79=.lst (Un j) j.length 7∧lk ρ 80=.i j.length∧lk ρ 81=.i i ∧
   0<gH.length∧p<gH.length∧0<q∧q<gH.length∧gH[0]?=some (.cells (Se g j z) 0)∧gH[p]?=some (.cells [.dy q 0] st)∧gH[q]?=some (.dyn (m.map .bool) m.length 1 0 E)∧m.length=g.length∧0≤G∧G≤4∧U4 g m G (j.drop i)=U4 g (ik g) 0 j) (N:=j.length)
  ⟨0,m,0,p,q,st,E,rfl,J,An,Ak,Ao,by simp,An,by simp,by simp,O,A,gK,I,L,K,T,U,J,J,by simp[jP]⟩ ?_
 clear B F D L K T H O A gK I U;rintro N ρ jD gH ⟨i,m,G,p,q,st,E,rfl,hN,B,F,D,Y,Z,gg,gz,O,A,gK,I,L,K,T,U,jY,jZ,gF⟩ Nx H;have jO:p≠q:=λe=>by rw[e,T]at K;cases K
 by_cases gI:i<j.length
 ·have q7:=zuy (W9 gI);have jz:=os_lt gI;rw[drop_go gI]at gF;have P:(go j i).f=[.i (go j i).kind,.i (go j i).d,.i (go j i).e,.i (go j i).a,.i (go j i).b,.i (go j i).c,.u (go j i).imm]:=rfl;generalize go j i=o at *;have no:U4 g m G (o::j.drop (i+1))=none→Ut g j z=2:=λh=>gD (by
   rw[h]at gF;simp[S7,←gF])
  simp[B,Z,gg,gz,gI,q7,jz,P,↓Oi O,L,Se];rw[←P];refine Ns (zlc g o) (bors_self _ (by simp[dats,LV.dat,Ro,P])) ?_;cases ho:Oc g o with
  |false =>
   simp;exact (no (by simp[U4,ho])).symm
  |true =>
  have gU:=kx ho;simp[P];rw[←P];refine R6 (zag o gU.swap) rfl ?_;simp[D];have jQ:(T6 o).length≤9223372036854775807:=by
   have B:([o.a,o.b,o.c].filter λv=>!decide (v<0)).length≤3:=List.length_filter_le _ _;unfold T6;split<;>simp at B ⊢<;>omega
  refine z6v (p:=λv=>!gb m v.toNat) jQ (λv hv K' k=>zsh v D9 (by rw[Oi I];exact T) (by have:=gU.takes v hv;omega) k) ?_;cases ht:zgn m o with
  |false =>
   have:((T6 o).any λv=>!gb m v.toNat)=true:=by
    have h:=ht;unfold zgn at h;rw[Md]at h;obtain⟨v,hv,h⟩:=h;exact Jc.2 ⟨v,hv,Ax⟩
   rw[this];simp;exact (no (by simp[U4,ho,ht])).symm
  |true =>
  have:((T6 o).any λv=>!gb m v.toNat)=false:=by
   have h:=ht;unfold zgn at h;rw[Jy]at h;rw[Lq];intro v hv;simp[h v hv]
  rw[this];have jR:∀C,C=G+dl o.kind→(C<0∨4<C→Ut g j z=2)∧(0≤C→C≤4→U4 g (X7 m o) C (j.drop (i+1))=U4 g (ik g) 0 j):=λC e=>by
   subst e;refine⟨λh=>no ?_,λh0 h4=>?_⟩
   ·rw[U4,Hx];simp only[Hz,Ie];omega
   ·rw[←gF,U4,H6];simp only[Hz,Ie];exact⟨ho,ht,h0,h4⟩
  have jA:∃V,dl o.kind=V∧-1≤V∧V≤1∧((o.kind=15∧V=1)∨(o.kind≠15∧o.kind=16∧V=-1)∨(o.kind≠15∧o.kind≠16∧V=0)):=by
   by_cases k1:o.kind=15
   ·exact⟨1,by simp[dl,k1],J,J,.inl ⟨k1,rfl⟩⟩
   by_cases k2:o.kind=16
   ·exact⟨-1,by simp[dl,k2],J,J,.inr (.inl ⟨k1,k2,rfl⟩)⟩
   ·exact⟨0,by simp[dl,k1,k2],J,J,.inr (.inr ⟨k1,k2,rfl⟩)⟩
  obtain⟨V,e1,e2,e3,jA⟩:=jA;obtain⟨gV,jG⟩:=jR (G+V) (by rw[e1]);have j4:=gU.d;have gL:0≤o.d→o.d<(m.length:Int):=λh=>J
  have gM:0≤o.d→Oo (m.map LV.bool) o.d.toNat [.bool true]=(m.set o.d.toNat true).map LV.bool:=λh=>zhq LV.bool _ _ true J
  have next:∀(C:Int) (ρ':Na) (G':M9) (gO:Nat),C=G+V→0≤C→C≤4→lk ρ' 1=.ptr 0 0→lk ρ' 3=.fn (.func 165) [] [.ptr 0 0]→lk ρ' 6=.ptr p 0→lk ρ' 9=.i C→lk ρ' 79=.lst (Un j) j.length 7→lk ρ' 80=.i j.length→lk ρ' 81=.i ((i:Int)+1) →
    gH.length≤G'.length→G'[0]?=some (.cells (Se g j z) 0)→G'[p]?=some (.cells [.dy q 0] st)→G'[q]?=some (.dyn ((X7 m o).map .bool) m.length 1 0 gO)→Nx ρ' [] G':=by
   intro C ρ' G' gO e gY gZ a1 a3 a6 a9 jT jU jV j5 b0 bp bq;have jH:(X7 m o).length=m.length:=by unfold X7;split<;>simp
   refine H _ _ _ ⟨N-1,J,i+1,X7 m o,C,p,q,st,gO,rfl,J,a1,a3,a6,a9,jT,jU,by rw[jV];simp,J,J,gK,J,b0,bp,by rw[jH];exact bq,by rw[jH,U],gY,gZ,?_⟩;subst e;exact jG gY gZ
  have q0:q≠0:=J
  have jB:0≤o.d→X7 m o=m.set o.d.toNat true:=λh=>by simp[X7,h]
  have jC:¬0≤o.d→X7 m o=m:=λh=>by simp[X7,h]
  rcases jA with ⟨M,rfl⟩|⟨M,gG,rfl⟩|⟨M,gG,rfl⟩
  ·have r0:¬G+1<0:=J
   by_cases d4:4<G+1
   ·simp[Y,P,M,r0,d4]
    repeat (refine⟨J,?_⟩)
    exact (gV (.inr d4)).symm
   by_cases Q:0≤o.d
   ·have d2:=gL Q;simp[D,Y,gz,P,M,r0,d4,↓Oi A,↓Oi I,K,T,Q,d2,gM Q]
    repeat (refine⟨J,?_⟩)
    refine next (G+1) _ _ (E+1) rfl J J An Ak Ao (by simp) Ea B7 (by simp) (by simp) ?_ ?_ ?_
    ·rw[Hy J,Oi O];exact L
    ·rw[Hy J,Oi A];exact K
    ·rw[H8 Ab,jB Q,Ji]
   ·simp[D,Y,gz,P,M,r0,d4,Q]
    repeat (refine⟨J,?_⟩)
    exact next (G+1) _ _ E rfl J J An Ak Ao (by simp) Ea B7 (by simp) (by simp) B3 D9 E6
  ·by_cases r0:G-1<0
   ·simp[Y,P,M,gG,r0]
    repeat (refine⟨J,?_⟩)
    exact (gV (.inl J)).symm
   have d4:¬4<G-1:=J
   by_cases Q:0≤o.d
   ·have d2:=gL Q;simp[D,Y,gz,P,M,gG,r0,d4,↓Oi A,↓Oi I,K,T,Q,d2,gM Q]
    repeat (refine⟨J,?_⟩)
    refine next (G-1) _ _ (E+1) J J J An Ak Ao (by simp) Ea B7 (by simp) (by simp) ?_ ?_ ?_
    ·rw[Hy J,Oi O];exact L
    ·rw[Hy J,Oi A];exact K
    ·rw[H8 Ab,jB Q,Ji]
   ·simp[D,Y,gz,P,M,gG,r0,d4,Q]
    repeat (refine⟨J,?_⟩)
    exact next (G-1) _ _ E J J J An Ak Ao (by simp) Ea B7 (by simp) (by simp) B3 D9 E6
  ·have r0:¬G<0:=J
   have d4:¬4<G:=J
   by_cases Q:0≤o.d
   ·have d2:=gL Q;simp[D,Y,gz,P,M,gG,r0,d4,↓Oi A,↓Oi I,K,T,Q,d2,gM Q]
    repeat (refine⟨J,?_⟩)
    refine next G _ _ (E+1) J J J An Ak Ao (by simp[Y]) Ea B7 (by simp) (by simp) ?_ ?_ ?_
    ·rw[Hy J,Oi O];exact L
    ·rw[Hy J,Oi A];exact K
    ·rw[H8 Ab,jB Q,Ji]
   ·simp[D,Y,gz,P,M,gG,r0,d4,Q]
    repeat (refine⟨J,?_⟩)
    exact next G _ _ E J J J An Ak Ao (by simp[Y]) Ea B7 (by simp) (by simp) B3 D9 E6
 have jX:U4 g (ik g) 0 j=some (m,G):=by
  rw[J0 J]at gF;rw[←gF];rfl
 have l1:j.length≤4096:=J
 have l2:z.length≤4096:=J
 have gP:S7 g j z=(ux g m&&decide (G=0)):=by simp[S7,hv,jF,jX,l1,l2]
 simp[B,F,D,Z,gg,gz,gI,K,T];refine O8 (λρ jD G' N=>∃i:Nat,jD=[]∧G'=gH∧N+i=g.length∧lk ρ 1=.ptr 0 0∧lk ρ 3=.fn (.func 165) [] [.ptr 0 0]∧lk ρ 6=.ptr p 0∧lk ρ 9=.i G∧lk ρ 121=.i g.length∧lk ρ 122=.i i ∧
   ∀gC,gC<i→(gv g gC).mode=3→gb m gC=true) (N:=g.length) ⟨0,rfl,rfl,J,An,Ak,Ao,by simp[Y],Bm,by simp,λgC hj=>J⟩ ?_
 clear B F D Y H;rintro N ρ jD G' ⟨i,rfl,rfl,hN,B,F,D,Y,gA,R,ha⟩ Nx H;by_cases gI:i<g.length
 ·have gm:i<m.length:=J
  have q1:=Xf (f:=LV.bool) (at_gb gm);simp[F,gA,R,gI];refine zdo (i:Int) L J ?_;cases ho:U3 g i with
  |false =>
   simp[R];refine⟨J,H _ _ _ ⟨N-1,J,i+1,rfl,rfl,J,An,Ak,Ao,by simp[Y],by simp[gA],by simp,λgC hj X=>?_⟩⟩;by_cases e:gC=i
   ·subst e;simp[U3,X]at ho
   ·exact ha gC J X
  |true =>
   cases hb:gb m i with
   |false =>
    simp[D,R,K,T,gm,Nd q1,hb];have X:(gv g i).mode=3:=by simp[U3]at ho;exact ho
    have:ux g m=false:=by
     unfold ux;rw[Md];exact⟨i,Kh.2 gI,by simp[X,hb]⟩
    exact (gD (by rw[gP,this];rfl)).symm
   |true =>
    simp[D,R,K,T,gm,Nd q1,hb];refine⟨J,H _ _ _ ⟨N-1,J,i+1,rfl,rfl,J,An,Ak,Ao,by simp[Y],by simp[gA],by simp,λgC hj X=>?_⟩⟩;by_cases e:gC=i
    ·rw[e];exact hb
    ·exact ha gC J X
 have jI:ux g m=true:=by
  unfold ux;rw[Jy];intro gC hj;have hj:=Kh.1 hj;by_cases X:(gv g gC).mode=3
  ·simp[ha gC J X]
  ·simp[X]
 by_cases d0:G=0
 ·simp[Y,gA,R,gI,d0];simp[Ut,gP,jI,d0]
 ·simp[Y,gA,R,gI,d0];simp[Ut,gP,d0]
def zda:LC:=(.q [.x 1 0,.F 2] (.q [.f 3 2 1,.l 4 3,.b 5 .eql 3 4 1,.m 6 5,.nf 7 6 2 1,.nl 8 6 7,.nb 9 6 .eql 3 8 2,.p 10 6 9,.m 2 10] .ret))
def r_expand_given:Nm Tryz.prog 172=some ⟨11,zda.r,[.tmp 2]⟩:=Aa
def zc2:LC:=(.q [.z 4 (.alloc [.nilSl,.nilSl,.nilSl])] (.q [.m 8 0,.z 9 (.build [.nilSl,.nilSl,.nilSl] [(0,1,.t 8)]),.z 5 (.alloc [.nilSl,.nilSl,.nilSl]),.S 3 5 9] (.seq (.q [.m 10 0,.s 11 10,.K 12 0] (.block 0 (.loop (.q [.c 13 .lss 3 12 11] (.seq (.cond (.t 13) .skip (.exit 0)) (.seq (.block 1 (.q [.m 14 12,.I 15 3 10 12,.L 16 3 15,.z 7 (.alloc [(.i 0),(.bool false),(.i 0)]),.m 6 14,.S 3 7 16] (.q [.L 17 3 7,.w 18 172 17,.z 19 (.un .not (.t 18))] (.cond (.t 19) (.ops [.f 20 1 5,.l 21 20,.m 22 6,.z 23 (.build [(.i 0),(.i 0),(.i 0),(.i 0),(.i 0),(.i 0),(.u 0)] [(0,1,.k 1),(1,1,.t 22),(2,1,.k (-1)),(3,1,.k (-1)),(4,1,.k (-1)),(5,1,.k (-1))]),.z 24 (.buildSl 7 1 [(.i 0),(.i 0),(.i 0),(.i 0),(.i 0),(.i 0),(.u 0)] [(0,7,.t 23)]),.a 25 7 21 24,.f 26 1 5,.S 1 26 25]) .skip)))) (.ops [.b 27 .add 3 12 1,.m 12 27]))))))) (.q [.f 28 1 5,.l 29 28,.m 30 1,.a 31 7 29 30,.f 32 1 5,.S 1 32 31] (.q [.L 33 3 5,.S 3 4 33] .ret)))))
def r_expand_kernel:Nm Tryz.prog 119=some ⟨34,zc2.r,[.cellN 4 3]⟩:=Aa
def z8a:LC:=(.q [.x 3 1,.F 4] (.seq (.q [.f 5 0 3,.l 6 5,.b 7 .eql 3 6 15,.m 8 7,.nf 9 8 0 3,.nl 10 8 9,.nb 11 8 .eql 3 10 16,.p 12 8 11] (.cond (.t 12) (.q [.F 4] .ret) .skip)) (.q [.m 13 0,.L 14 7 3,.z 15 (.buildSl 7 1 [(.i 0),(.i 0),(.i 0),(.i 0),(.i 0),(.i 0),(.u 0)] [(0,7,.t 14)]),.W 16 119 13 15,.w 17 118 16,.b 18 .eql 35 17 0,.m 4 18] .ret)))
def r_expand_May:Nm Tryz.prog 55=some ⟨19,z8a.r,[.tmp 4]⟩:=Aa
def z34:LC:=(.q [.K 2 0] (.seq (.q [.m 3 0,.b 4 .lss 3 3 1] (.cond (.t 4) (.q [.K 2 0] .ret) .skip)) (.q [.m 5 0,.b 6 .add 3 5 2,.m 2 6] .ret)))
def r_montgomery_Need:Nm Tryz.prog 21=some ⟨7,z34.r,[.tmp 2]⟩:=Aa
def k_montgomery_Need:z34.ok=true:=Aa
def z5p:LC:=(.q [.x 3 1,.K 4 0] (.seq (.q [.f 5 0 3,.l 6 5,.b 7 .neq 3 6 12,.m 8 7,.mn 9 8 0,.n 10 8 (.loadN 7 (.t 3)),.n 11 8 (.w 55 [.t 9,.t 10]),.n 12 8 (.un .not (.t 11)),.p 13 8 12] (.cond (.t 13) (.q [.K 4 0] .ret) .skip)) (.q [.m 14 0,.f 15 5 3,.l 16 15,.I 17 3 14 16,.f 18 0 17,.l 19 18,.w 20 21 19,.m 4 20] .ret)))
def r_montgomery_Work:Nm Tryz.prog 15=some ⟨21,z5p.r,[.tmp 4]⟩:=Aa
def zbv(v:Vr):Nj 172 [.agg v.f] (.bool (Sc v)) []:=by
 refine Od.val rfl (Nn r_expand_given Aa N ?_);by_cases g:v.mode=1<;>simp[zda,Vr.f,Sc,g]
def ztm{i:Nat}(h:i<vQ.length):Vi i (vQ.drop i)=(if Sc (gv vQ i)=true then [] else [Z0 1 i])++Vi (i+1) (vQ.drop (i+1)):=by
 rw[zom h,Vi];split<;>rfl
def iq(l:List LV):(LV.agg l).cells=some l:=rfl
def bi(a b:List Ko):Un (a++b)=Un a++Un b:=by simp[Un]
def zak(g:List Vr)(z:List Ko)(hl:g.length≤1000000)(hn:z.length≤1000000):Oz 119 [.lst (Ob g) g.length 3,.lst (Un z) z.length 7] (.agg (Se g (Vi 0 g++z) [])):=by
 refine Sd.mk (by simp[Se,LV.dat,dats,Ro,zcj]) (Nn r_expand_kernel Aa (by simp) ?_);simp[zc2];refine O8 (λU gC gg N=>∃(i:Nat) (T:List Ko) (v:LV) (st:Nat),gC=[]∧N+i=g.length∧lk U 1=.lst (Un z) z.length 7∧lk U 4=.ptr 0 0∧lk U 5=.ptr 1 0∧lk U 10=.lst (Ob g) g.length 3∧lk U 11=.i g.length∧lk U 12=.i i ∧
   1<gg.length∧gg[0]?=some (.cells [.nilSl,.nilSl,.nilSl] 0)∧gg[1]?=some (.cells [.lst (Ob g) g.length 3,v,.nilSl] st)∧Rw 2 gg v 7 T.length (Un T)∧T.length≤i∧Vi 0 g=T++Vi i (g.drop i)) (N:=g.length)
  ⟨0,[],.nilSl,1,rfl,J,by simp,by simp,by simp,by simp,by simp,by simp,by simp,by simp,by simp,Rw.nil,by simp,by simp⟩ ?_
 rintro N U gC gg ⟨i,T,v,st,rfl,hN,V,X,M,F,G,H,K,L,A,Y,gA,j⟩ Nx O;have P:0<gg.length:=J
 by_cases gz:i<g.length
 ·have hg:=T2 gz;have q3:=zcb hg;have Z:=ju gz;have hf:(gv g i).f=[.i (gv g i).limbs,.bool (gv g i).sec,.i (gv g i).mode]:=rfl;have Q:=ztm gz;rw[Q]at j;simp[F,G,H,gz,q3,Z,hf];rw[←hf];refine Ns (zbv (gv g i)) (bors_self _ rfl) ?_;cases R:Sc (gv g i) with
  |true =>
   rw[R]at j;simp[H];refine⟨J,O _ _ _ ⟨N-1,J,i+1,T,v,st,rfl,J,Fl,by simp[X],Ay,Ak,Bh,by simp,Ab,by rw[Oi P];exact L,by rw[Oi K];exact A,Y.push_end,J,Br⟩⟩
  |false =>
   rw[R]at j;simp[M,↓Oi K,A];refine Rw.push (m:=1) (x:=(Z0 1 i).f) Y.push_end J (by simp) J rfl λv' I B C hb=>?_
   have D:I[1]?=some (.cells [.lst (Ob g) g.length 3,v,.nilSl] st):=by rw[C 1 J,Oi K];exact A
   have E:I[0]?=some (.cells [.nilSl,.nilSl,.nilSl] 0):=by rw[C 0 J,Oi P];exact L
   have hc:=B.cells;simp[-LV.cells,M,H,D,hc];refine⟨J,O _ _ _ ⟨N-1,J,i+1,T++[Z0 1 i],v',st+1,rfl,J,Fl,by simp[X],Ay,Ak,Bh,by simp,Ab,?_,?_,?_,Ab,Br⟩⟩
   ·rw[Hy J];exact E
   ·rw[H8 J]
   ·rw[bi,Ia,show Un [Z0 1 (i:Int)]=(Z0 1 i).f by simp[Un]];exact B.set_lt J
 ·rw[J0 J]at j;have j:Vi 0 g=T:=by simpa [Vi] using j
  simp[V,M,F,G,H,gz,A];refine⟨J,?_⟩;refine Rw.push (m:=z.length) Y J J J (osC_len z) λv' I B C hb=>?_
  have D:I[1]?=some (.cells [.lst (Ob g) g.length 3,v,.nilSl] st):=by rw[C 1 J];exact A
  have E:I[0]?=some (.cells [.nilSl,.nilSl,.nilSl] 0):=by rw[C 0 J];exact L
  have hc:=B.cells;have s1:∀x,(I.set 1 x)[1]?=some x:=λx=>H8 J
  have s0:∀x,(I.set 1 x)[0]?=some (.cells [.nilSl,.nilSl,.nilSl] 0):=λx=>by rw[Hy J];exact E
  have s2:∀x y,((I.set 1 x).set 0 y)[0]?=some y:=λx y=>H8 (by rw[J9];omega)
  simp[-LV.cells,X,M,↓D,↓s1,↓s0,↓s2,hc,iq];refine⟨_,_,rfl,⟨rfl,Ro g⟩,_,_,rfl,?_,_,rfl,.inr ⟨7,rfl⟩⟩;rw[j,bi,Ia];exact ((B.set_lt J).set_lt J).bor (dats_app (zcj _) (zcj _))
def one_row(o:Ko):o.f=Un [o]:=by simp[Un]
def zng(z:List Vr)(o:Ko)(B:z.length≤1000000):Nj 55 [.lst (Ob z) z.length 3,.agg o.f] (.bool (Sw z o)) []:=by
 refine Od.val rfl (Nn r_expand_May Aa N ?_);have A:o.f=[.i o.kind,.i o.d,.i o.e,.i o.a,.i o.b,.i o.c,.u o.imm]:=rfl;by_cases g:o.kind=15
 ·simp[z8a,A,g];simp[Sw,zor,g]
 by_cases j:o.kind=16
 ·simp[z8a,A,g,j];simp[Sw,zor,j]
 simp[z8a,A,g,j];refine zv3 (a:=[.lst (Ob z) z.length 3]) (b:=[]) rfl ?_;rw[←A,one_row];refine R6 (zak z [o] B N) (by simp[dats,LV.dat,Ro,zcj]) ?_;simp;refine Ns (zaj z _ [] J) (bors_self _ (by simp[Se,dats,LV.dat,Ro,zcj])) ?_;simp[Sw,zor,g,j,Ut]
def zf3(n:Int)(h:1≤n∧n≤512):Nj 21 [.i n] (.i (n+2)) []:=by
 refine Od.val rfl (Nn r_montgomery_Need k_montgomery_Need N ?_);have g:¬n<1:=J
 simp[z34,g];omega
def z8g(g:List Vr)(o:Ko)(E:g.length≤1000000):Nj 15 [.lst (Ob g) g.length 3,.agg o.f] (.i (Nt g o)) []:=by
 refine Od.val rfl (Nn r_montgomery_Work Aa N ?_);have z:o.f=[.i o.kind,.i o.d,.i o.e,.i o.a,.i o.b,.i o.c,.u o.imm]:=rfl;by_cases j:o.kind=12
 case neg=>simp[z5p,z,j,Nt]
 simp[z5p,z,j];have B:=zng g o E;rw[z,j]at B;refine Ns B (bors_self _ Ba) ?_;cases hm:Sw g o with
 |false=>simp[Nt,hm]
 |true =>
 obtain⟨hv,F,_⟩:=zr1 (s:=29) hm (by simp[P1,j]);obtain⟨a,A,G,C,D⟩:=zs9 hv (zoq F Ad);simp[A,G];simp[A]at C D;simp[Nd C];refine Ns (zf3 (Pl g (a:Int)) D) N ?_;simp[Nt,hm,j,A]
def z2h:LC:=(.q [.K 4 0] (.seq (.q [.m 6 0,.s 7 6,.K 8 0] (.block 0 (.loop (.q [.c 9 .lss 3 8 7] (.seq (.cond (.t 9) .skip (.exit 0)) (.seq (.block 1 (.q [.m 10 8,.m 5 10] (.q [.m 11 1,.m 12 0,.m 13 5,.I 14 3 12 13,.L 15 3 14,.z 16 (.callV (.t 11) [.t 15])] (.cond (.t 16) (.q [.m 17 5,.m 4 17] .ret) .skip)))) (.ops [.b 18 .add 3 8 1,.m 8 18]))))))) (.q [.K 4 (-1)] .ret)))
def r_slices_IndexFunc_api_Buf_api_Buf:Nm Tryz.prog 213=some ⟨19,z2h.r,[.tmp 4]⟩:=Aa
def z28:LC:=(.q [.F 4] (.q [.m 5 0,.m 6 1,.W 7 213 5 6,.b 8 .geq 3 7 0,.m 4 8] .ret))
def r_slices_ContainsFunc_api_Buf_api_Buf:Nm Tryz.prog 200=some ⟨9,z28.r,[.tmp 4]⟩:=Aa
def ze3:LC:=(.q [.x 1 0,.K 2 0] (.seq (.q [.f 3 0 1,.l 4 3,.b 5 .gtr 3 4 64,.m 6 5,.nf 7 6 1 1,.nl 8 6 7,.n 9 6 (.lenSl (.t 8)),.nb 10 6 .gtr 3 9 32,.p 11 6 10,.m 12 11,.nf 13 12 2 1,.nl 14 12 13,.n 15 12 (.lenSl (.t 14)),.nb 16 12 .gtr 3 15 65536,.p 17 12 16] (.cond (.t 17) (.q [.K 2 3] .ret) .skip)) (.seq (.q [.f 18 1 1,.l 19 18,.z 20 (.w 200 [.t 19,(.c (.fn (.func 201) [] []))])] (.cond (.t 20) (.q [.K 2 3] .ret) .skip)) (.seq (.q [.f 21 0 1,.l 22 21,.b 23 .lss 3 22 0,.m 24 23,.nf 25 24 1 1,.nl 26 24 25,.n 27 24 (.w 200 [.t 26,(.c (.fn (.func 202) [] []))]),.p 28 24 27] (.cond (.t 28) (.q [.K 2 2] .ret) .skip)) (.q [.K 2 0] .ret)))))
def r_limb_head:Nm Tryz.prog 196=some ⟨29,ze3.r,[.tmp 2]⟩:=Aa
def zef:LC:=(.q [.x 1 0,.F 2] (.q [.f 3 0 1,.l 4 3,.b 5 .gtr 3 4 65536,.m 2 5] .ret))
def r_limb_head_1:Nm Tryz.prog 201=some ⟨6,zef.r,[.tmp 2]⟩:=Aa
def z7c:LC:=(.q [.x 1 0,.F 2] (.q [.f 3 0 1,.l 4 3,.b 5 .lss 3 4 1,.m 6 5,.nf 7 6 1 1,.nl 8 6 7,.nb 9 6 .lss 3 8 1,.p 10 6 9,.m 11 10,.nf 12 11 1 1,.nl 13 11 12,.nb 14 11 .gtr 3 13 3,.p 15 11 14,.m 2 15] .ret))
def r_limb_head_2:Nm Tryz.prog 202=some ⟨16,z7c.r,[.tmp 2]⟩:=Aa
def zgf:LC:=(.q [.x 1 0,.K 2 0,.K 3 0] (.seq (.q [.L 9 3 1,.w 10 196 9,.m 4 10] (.q [.m 11 4,.b 12 .neq 35 11 0] (.cond (.t 12) (.q [.m 13 4,.K 2 0,.m 3 13] .ret) .skip))) (.q [.L 14 3 1,.z 15 (.build [(.i 0),.nilSl,.nilSl,(.bool false),(.bool false),(.bool false),(.bool false),(.bool false),(.bool false),(.bool false),(.bool false),(.bool false),(.bool false),(.bool false),(.bool false),(.bool false),(.bool false),(.bool false),(.bool false),(.bool false),(.bool false),(.bool false),(.bool false),(.bool false),(.bool false),(.bool false),(.bool false),(.bool false),(.bool false),(.bool false),(.bool false),(.bool false),(.bool false),(.bool false),(.bool false),(.bool false),(.bool false),(.bool false),(.bool false),(.bool false),(.bool false),(.bool false),(.bool false),(.bool false),(.bool false),(.bool false),(.bool false),(.bool false),(.bool false),(.bool false),(.bool false),(.bool false),(.bool false),(.bool false),(.bool false),(.bool false),(.bool false),(.bool false),(.bool false),(.bool false),(.bool false),(.bool false),(.bool false),(.bool false),(.bool false),(.bool false),(.bool false),.nilSl] [(0,3,.t 14)]),.x 16 15,.m 5 16] (.seq (.q [.f 17 2 1,.l 18 17,.s 19 18,.K 20 0] (.block 0 (.loop (.q [.c 21 .lss 3 20 19] (.seq (.cond (.t 21) .skip (.exit 0)) (.seq (.block 1 (.q [.m 22 20,.I 23 8 18 20,.L 24 8 23,.z 7 (.alloc [(.i 0),(.i 0),(.i 0),(.i 0),(.i 0),(.i 0),(.i 0),(.u 0)]),.m 6 22,.S 8 7 24] (.q [.m 25 5,.L 26 8 7,.W 27 197 25 26,.m 8 27] (.q [.m 28 8,.b 29 .neq 35 28 0] (.cond (.t 29) (.q [.m 30 6,.m 31 8,.m 2 30,.m 3 31] .ret) .skip))))) (.ops [.b 32 .add 3 20 1,.m 20 32]))))))) (.seq (.q [.m 33 5,.N 34 33,.f 35 67 34,.l 36 35,.s 37 36,.b 38 .gtr 3 37 0] (.cond (.t 38) (.q [.f 39 2 1,.l 40 39,.s 41 40,.m 2 41,.K 3 9] .ret) .skip)) (.q [.f 42 2 1,.l 43 42,.s 44 43,.m 2 44,.K 3 0] .ret))))))
def r_limb_Check:Nm Tryz.prog 174=some ⟨45,zgf.r,[.tmp 2,.tmp 3]⟩:=Aa
def z2p:LC:=(.q [.x 2 0,.x 3 1,.F 4] (.seq (.q [.f 6 0 3,.l 7 6,.b 8 .lss 3 7 0,.m 9 8,.nf 10 9 0 3,.nl 11 9 10,.nf 12 9 0 2,.nl 13 9 12,.n 14 9 (.lenSl (.t 13)),.n 15 9 (.bin .geq false 3 (.t 11) (.t 14)),.p 16 9 15,.m 17 16,.nf 18 17 2 3,.nl 19 17 18,.nb 20 17 .lss 3 19 1,.p 21 17 20,.m 22 21,.nf 23 22 2 3,.nl 24 22 23,.nb 25 22 .gtr 3 24 32768,.p 26 22 25,.m 27 26,.nf 28 27 1 3,.nl 29 27 28,.nb 30 27 .lss 3 29 0,.p 31 27 30] (.cond (.t 31) (.q [.F 4] .ret) .skip)) (.q [.f 32 0 2,.l 33 32,.f 34 0 3,.l 35 34,.I 36 3 33 35,.f 37 0 36,.l 38 37,.m 5 38] (.q [.f 39 1 3,.l 40 39,.m 41 5,.c 42 .leq 3 40 41,.m 43 42,.yf 44 43 2 3,.yl 45 43 44,.my 46 43 5,.yf 47 43 1 3,.yl 48 43 47,.y 49 43 (.bin .sub false 3 (.t 46) (.t 48)),.y 50 43 (.bin .leq false 3 (.t 45) (.t 49)),.q 51 43 50,.m 4 51] .ret))))
def r_expand_lies:Nm Tryz.prog 175=some ⟨52,z2p.r,[.tmp 4]⟩:=Aa
def zd9:LC:=(.q [.x 3 1,.K 4 0] (.seq (.q [.m 13 0,.z 14 (.w 119 [.t 13,(.c .nilSl)]),.w 15 118 14,.b 16 .neq 35 15 0,.m 17 16,.nf 18 17 0 3,.nl 19 17 18,.n 20 17 (.lenSl (.t 19)),.nb 21 17 .lss 3 20 1,.p 22 17 21,.m 23 22,.nf 24 23 1 3,.nl 25 23 24,.n 26 23 (.lenSl (.t 25)),.mn 27 23 0,.n 28 23 (.lenSl (.t 27)),.n 29 23 (.bin .neq false 3 (.t 26) (.t 28)),.p 30 23 29] (.cond (.t 30) (.q [.K 4 2] .ret) .skip)) (.seq (.q [.f 32 0 3,.l 33 32,.z 34 (.build [(.i 0),.nilSl,.nilSl] [(1,1,.t 33)]),.w 35 174 34,.m 31 35,.X 36 0 31,.X 37 1 31,.m 5 36,.m 6 37] (.q [.m 38 6,.b 39 .neq 35 38 0] (.cond (.t 39) (.q [.K 4 2] .ret) .skip))) (.seq (.q [.m 40 0,.s 41 40,.K 42 0] (.block 0 (.loop (.q [.c 43 .lss 3 42 41] (.seq (.cond (.t 43) .skip (.exit 0)) (.seq (.block 1 (.q [.m 44 42,.I 45 3 40 42,.L 46 3 45,.z 8 (.alloc [(.i 0),(.bool false),(.i 0)]),.m 7 44,.S 3 8 46] (.q [.f 47 1 3,.l 48 47,.m 49 7,.I 50 3 48 49,.L 51 3 50,.z 9 (.alloc [(.i 0),(.i 0),(.i 0)]),.S 3 9 51] (.seq (.q [.L 52 8 3,.L 53 3 9,.W 54 175 52 53,.z 55 (.un .not (.t 54)),.m 56 55,.nf 57 56 2 9,.nl 58 56 57,.nf 59 56 0 8,.nl 60 56 59,.n 61 56 (.bin .neq false 3 (.t 58) (.t 60)),.p 62 56 61] (.cond (.t 62) (.q [.K 4 2] .ret) .skip)) (.q [.f 63 0 3,.l 64 63,.f 65 0 9,.l 66 65,.I 67 3 64 66,.L 68 3 67,.z 10 (.alloc [(.i 0),(.i 0),(.bool false)]),.S 3 10 68] (.q [.f 69 1 10,.l 70 69,.b 71 .eql 3 70 1,.m 72 71,.y 73 72 (.loadN 3 (.t 8)),.y 74 72 (.w 172 [.t 73]),.y 75 72 (.un .not (.t 74)),.q 76 72 75,.m 77 76,.nf 78 77 1 10,.nl 79 77 78,.nb 80 77 .eql 3 79 2,.mn 81 77 80,.y 82 81 (.loadN 3 (.t 8)),.y 83 81 (.w 172 [.t 82]),.n 84 77 (.pick (.t 81) (.t 83) .F),.p 85 77 84,.m 86 85,.nf 87 86 1 8,.nl 88 86 87,.nf 89 86 2 10,.nl 90 86 89,.n 91 86 (.bin .neq false 4 (.t 88) (.t 90)),.p 92 86 91] (.cond (.t 92) (.q [.K 4 2] .ret) .skip))))))) (.ops [.b 93 .add 3 42 1,.m 42 93]))))))) (.seq (.q [.f 94 2 3,.L 95 6 94,.K 96 0] (.block 2 (.loop (.q [.b 97 .lss 3 96 2] (.seq (.cond (.t 97) .skip (.exit 2)) (.seq (.block 3 (.q [.m 98 96,.z 99 (.ixArr true 2 3 (.t 95) (.t 96)),.z 12 (.alloc [(.i 0),(.i 0),(.i 0)]),.m 11 98,.S 3 12 99] (.q [.L 100 8 3,.L 101 3 12,.W 102 175 100 101,.z 103 (.un .not (.t 102)),.m 104 103,.nf 105 104 0 3,.nl 106 104 105,.nf 107 104 0 12,.nl 108 104 107,.n 109 104 (.ixAddr 3 (.t 106) (.t 108)),.nf 110 104 1 109,.nl 111 104 110,.nb 112 104 .eql 3 111 1,.p 113 104 112,.m 114 113,.nf 115 114 0 3,.nl 116 114 115,.nf 117 114 0 12,.nl 118 114 117,.n 119 114 (.ixAddr 3 (.t 116) (.t 118)),.nf 120 114 2 119,.nl 121 114 120,.mn 122 114 11,.nb 123 114 .eql 3 122 1,.n 124 114 (.bin .neq false 4 (.t 121) (.t 123)),.p 125 114 124] (.cond (.t 125) (.q [.K 4 2] .ret) .skip)))) (.ops [.b 126 .add 3 96 1,.m 96 126]))))))) (.q [.K 4 0] .ret))))))
def r_expand_Check:Nm Tryz.prog 125=some ⟨127,zd9.r,[.tmp 4]⟩:=Aa
def z57:LC:=(.q [.x 3 1,.F 4] (.q [.f 5 1 3,.l 6 5,.b 7 .geq 3 6 0,.m 8 7,.yf 9 8 1 3,.yl 10 8 9,.my 11 8 0,.y 12 8 (.lenSl (.t 11)),.y 13 8 (.bin .lss false 3 (.t 10) (.t 12)),.q 14 8 13,.m 15 14,.my 16 15 0,.yf 17 15 1 3,.yl 18 15 17,.y 19 15 (.ixAddr 3 (.t 16) (.t 18)),.yf 20 15 1 19,.yl 21 15 20,.y 22 15 (.un .not (.t 21)),.q 23 15 22,.m 4 23] .ret))
def r_expand_Public:Nm Tryz.prog 126=some ⟨24,z57.r,[.tmp 4]⟩:=Aa
def zeb:LC:=(.q [.x 4 1,.x 5 2,.K 6 0,.z 7 (.alloc [(.i 0),(.i 0),(.i 0)])] (.seq (.q [.m 8 0,.L 9 7 4,.W 10 126 8 9] (.cond (.t 10) (.seq (.draw [(.f 11 2 5,[]),(.z 12 (.ixAddrArr 2 3 (.t 11) (.k 0)),[]),(.L 13 3 12,[]),(.K 6 16,[]),(.S 3 7 13,[])]) .ret) .skip)) (.seq (.draw [(.f 14 2 5,[]),(.z 15 (.ixAddrArr 2 3 (.t 14) (.k 1)),[]),(.L 16 3 15,[]),(.K 6 40,[]),(.S 3 7 16,[])]) .ret)))
def r_expand_Base:Nm Tryz.prog 59=some ⟨17,zeb.r,[.tmp 6,.cellN 7 3]⟩:=Aa
def zdb:LC:=(.q [.x 6 1,.x 7 2,.F 10] (.seq (.q [.m 13 0,.L 14 8 7,.W 15 125 13 14,.b 16 .neq 35 15 0,.m 17 16,.mn 18 17 4,.nb 19 17 .lss 3 18 1,.p 20 17 19,.m 21 20,.mn 22 21 3,.nb 23 21 .lss 3 22 0,.p 24 21 23,.m 25 24,.mn 26 25 3,.nb 27 25 .gtr 3 26 4,.p 28 25 27] (.cond (.t 28) (.q [.F 10] .ret) .skip)) (.q [.m 30 0,.L 31 7 6,.L 32 8 7,.V 33 59 30 31 32,.m 29 33,.X 34 0 29,.X 35 1 29,.z 12 (.alloc [(.i 0),(.i 0),(.i 0)]),.m 11 34,.S 3 12 35] (.q [.m 36 4,.f 37 2 12,.l 38 37,.c 39 .leq 3 36 38,.m 10 39] .ret))))
def r_expand_Ready:Nm Tryz.prog 58=some ⟨40,zdb.r,[.tmp 10]⟩:=Aa
def Qe(bs:List Bf)(z:List Pc)(g j:Pc):List LV:=[.lst (P7 bs) bs.length 3,.lst (Wo z) z.length 3,.i g.buf,.i g.at_,.i g.size,.i j.buf,.i j.at_,.i j.size]
def Pc.f_len(p:Pc):p.f.length=3:=rfl
def zfh(l:List Pc):dats (Wo l)=true:=zw (λ_=>rfl) l
def zf4{l:List Pc}{i:Nat}{v:Pc}(h:l[i]?=some v):((Wo l).drop (i*3)).take 3=v.f:=zbf Pc.f_len h
def zyn{l:List Pc}{i:Nat}(h:i<l.length):i*3+3≤(Wo l).length:=zu0 Pc.f_len h
def zpw{l:List Pc}{n:Nat}(h:n<l.length):l[n]?=some (Q0 l n):=by simp[Q0,Hw,h]
def zcf(g:List Bf)(j:List Pc)(z A:Pc):dats (Qe g j z A)=true:=by simp[Qe,dats,LV.dat,T9,zfh]
def zto{l:List Bf}{f:Nat}{a b:List LV}{p:Bf→Bool}(T:l.length≤9223372036854775807)
  (P:∀v∈l,∀H:LV→M9→Prop,H (.bool (p v)) G→Pm (.fn f) (a++[.agg v.f]++b) G H) (k:v9 (.i (kf p l)) G):Pm (.fn 213) [.lst (P7 l) l.length 3,.fn (.func f) a b] G v9:=by
 refine Nn r_slices_IndexFunc_api_Buf_api_Buf Aa (by simp) ?_;simp[z2h];refine O8 (λI R K N=>∃i:Nat,R=[]∧K=G∧N+i=l.length∧lk I 0=.lst (P7 l) l.length 3∧lk I 1=.fn (.func f) a b∧lk I 7=.i l.length∧lk I 8=.i i∧∀L b,L<i→l[L]?=some b→p b=false) (N:=l.length) ⟨0,by simp⟩ ?_;rintro N I R K ⟨i,rfl,rfl,U,j,z,A,B,C⟩ V D;by_cases hi:l.length≤i
 ·have F:¬i<l.length:=J
  simp[j,z,A,B,F];rw[←zvy hi C];exact k
 ·have F:i<l.length:=J
  have E:=H7 F;have Q:=zh F;simp[j,z,A,B,F,zvz E,Q];have M:=P l[i] (K3 F);simp only[Jp,List.singleton_append]at M;refine M _ ?_;cases O:p l[i] with
  |true =>
   simp;rw[←qp E O C];exact k
  |false =>
   simp[B];refine⟨J,D _ _ _ ⟨N-1,J,i+1,rfl,rfl,J,Ah,Ae,At,by simp,λL b X g=>?_⟩⟩;by_cases e:L=i
   ·subst e;rw[E]at g;cases g;exact O
   ·exact C L b J g
def zdc{l:List Bf}{f:Nat}{a b:List LV}{p:Bf→Bool}(j:l.length≤9223372036854775807)
  (z:∀v∈l,∀g:LV→M9→Prop,g (.bool (p v)) G→Pm (.fn f) (a++[.agg v.f]++b) G g) (k:v9 (.bool (l.any p)) G):Pm (.fn 200) [.lst (P7 l) l.length 3,.fn (.func f) a b] G v9:=by
 refine Nn r_slices_ContainsFunc_api_Buf_api_Buf Aa N ?_;simp[z28];refine zto j z ?_;simp;rw[zz7];exact k
def zl6(b:Bf):Nj 201 [.agg b.f] (.bool (decide (65536<b.size))) []:=by
 refine Od.val rfl (Nn r_limb_head_1 Aa N ?_);simp[zef,Bf.f]
def zll(b:Bf):Nj 202 [.agg b.f] (.bool (decide (b.size<1) || (decide (b.kind<1) || decide (3<b.kind)))) []:=by
 refine Od.val rfl (Nn r_limb_head_2 Aa N ?_);by_cases g:b.size<1
 ·simp[z7c,Bf.f,g]
 by_cases j:b.kind<1
 ·simp[z7c,Bf.f,g,j]
 simp[z7c,Bf.f,g,j]
def zqc(g:List Bf)(C:g.length≤9223372036854775807):Nj 196 [.agg [.i 0,.lst (P7 g) g.length 3,.nilSl]] (.i (ja g)) []:=by
 refine Od.val rfl (Nn r_limb_head Aa N ?_);by_cases B:32<g.length
 ·have z:(32:Int)<g.length:=J
  simp[ze3,ja,B,z]
 have z:¬(32:Int)<g.length:=J
 simp[ze3,B,z];refine zdc (a:=[]) (b:=[]) (p:=λb=>decide (65536<b.size)) C (λv hv D k=>Ns (zl6 v) (bors_self _ rfl) k) ?_;by_cases A:(g.any λb=>decide (65536<b.size))=true
 ·simp only[ja,Hx B,H6 A];rw[A];simp
 simp only[ja,Hx B,Hx A];rw[Bool.not_eq_true]at A;rw[A];simp;generalize j:(g.any λb=>decide (b.size<1) || (decide (b.kind<1) || decide (3<b.kind)))=E;refine zdc (a:=[]) (b:=[]) (p:=λb=>decide (b.size<1) || (decide (b.kind<1) || decide (3<b.kind))) C (λv hv D k=>Ns (zll v) (bors_self _ rfl) k) ?_;rw[j];cases E with
 |true =>
  simp at j ⊢;obtain⟨x,F,h⟩:=j;exact⟨x,F,λ_ _=>J⟩
 |false=>simp;simpa using j
def wo(a b:Bool):Sa Tryz.prog false 4 (.bool a) (.bool b)=some (a==b):=by cases a<;>cases b<;>kernel_rfl
def zee(g:List Bf)(E:g.length≤9223372036854775807):Nj 174 [.agg [.i 0,.lst (P7 g) g.length 3,.nilSl]] (.tup [.i 0,.i (ja g)]) []:=by
 refine Od.val rfl (Nn r_limb_Check Aa (by simp) ?_);simp[zgf];refine Ns (zqc g E) (bors_self _ (by simp[dats,LV.dat,T9])) ?_;by_cases h:ja g=0
 ·simp[h];refine O8 (λD K F L=>K=[]∧lk D 1=.ptr 0 0∧lk D 5=.ptr 1 0∧lk D 19=.i 0∧lk D 20=.i 0∧F[0]?=some (.cells [.i 0,.lst (P7 g) g.length 3,.nilSl] 0)∧∃l st,F[1]?=some (.cells ((.i 0)::(.lst (P7 g) g.length 3)::.nilSl::l) st)∧l[64]?=some .nilSl) (N:=0) ⟨rfl,by simp,by simp,by simp,by simp,by simp,_,_,rfl,rfl⟩ ?_;rintro L D K F ⟨rfl,G,H,z,A,B,l,st,C,j⟩ M I;simp[G,H,z,A,B,C,Nd j]
 ·simp[h]
def z8q(j:List Bf)(H:List Pc)(I K x:Pc)(L:∀b∈j,b.size≤65536):Nj 175 [.agg (Qe j H I K),.agg x.f] (.bool (Wh j x)) []:=by
 refine Od.val rfl (Nn r_expand_lies Aa N ?_);by_cases z:x.buf<0
 ·simp[z2p,Qe,Pc.f,Wh,z];omega
 by_cases A:(j.length:Int)≤x.buf
 ·simp[z2p,Qe,Pc.f,Wh,z,A];omega
 by_cases B:x.size<1
 ·simp[z2p,Qe,Pc.f,Wh,z,A,B];omega
 by_cases C:32768<x.size
 ·simp[z2p,Qe,Pc.f,Wh,z,A,B,C];omega
 by_cases D:x.at_<0
 ·simp[z2p,Qe,Pc.f,Wh,z,A,B,C,D];omega
 obtain⟨n,E⟩:=H0 (J:0≤x.buf);have g:n<j.length:=J
 have F:=zfo (Sl g);have Q:=zh g;have R:(0:Int)≤x.buf:=J
 have T:x.buf<(j.length:Int):=J
 have M:(1:Int)≤x.size:=J
 have O:x.size≤32768:=J
 have P:(0:Int)≤x.at_:=J
 by_cases G:x.at_≤(Nw j n).size
 ·simp[z2p,Qe,Pc.f,Wh,z,A,B,C,D,E,g,Nd F,G];have:=L _ (Io (Sl g));refine⟨λ_=>J,λq=>absurd q J,J,?_⟩;simp[M,O,P]
 ·simp[z2p,Qe,Pc.f,Wh,z,A,B,C,D,E,g,Nd F,G]
def zcp(h:ja Z=0):∀b∈Z,b.size≤65536:=λb z=>by
 unfold ja at h;by_cases j:32<Z.length
 ·rw[H6 j]at h;omega
 by_cases g:(Z.any λb=>decide (65536<b.size))=true
 ·rw[Hx j,H6 g]at h;omega
 rw[Bool.not_eq_true,Lq]at g;have:=g b z;simp at this;omega
def jr(g:List Vr)(j:List Bf)(z:List Pc)(A B:Pc):Int:=if Wj g j z A B=true then 0 else 2
def z5z{x:Pc}(h:Wh Z x=true):∃n:Nat,x.buf=n∧n<Z.length∧1≤x.size∧x.size≤32768∧0≤x.at_∧x.at_≤(Nw Z n).size∧x.size≤(Nw Z n).size-x.at_:=by
 simp only[Wh,Hz,Ie]at h;obtain⟨A,E,B,C,D,g,j⟩:=h;obtain⟨n,z⟩:=H0 A;rw[z]at g j;exact⟨n,z,J,B,C,D,g,j⟩
def zie(j:List Vr)(g:List Bf)(C:List Pc)(A B:Pc)(hv:j.length≤1000000)(hb:g.length≤9223372036854775807) :
  Nj 125 [.lst (Ob j) j.length 3,.agg (Qe g C A B)] (.i (jr j g C A B)) []:=by
 refine Od.val rfl (Nn r_expand_Check Aa (by simp) ?_);have I:Wj j g C A B=false→jr j g C A B=2:=λh=>by simp[jr,h]
 simp[zd9];refine zmj (args':=[.lst (Ob j) j.length 3,.lst (Un []) ([]:List Ko).length 7]) (λc r h=>?_) ?_
 ·cases h with
  |cons e1 es=>cases es with
   |cons e2 T=>exact .cons e1 (.cons (by cases e2;exact .lstNil) T)
 refine R6 (zak j [] hv (by simp)) (by simp[dats,LV.dat,Ro,Un]) ?_;rw[Jm];simp;refine Ns (zaj j (Vi 0 j) [] J) (bors_self _ (by simp[Se,dats,LV.dat,Ro,zcj])) ?_;simp only[Ut,ii];cases gH:Qx j with
 |false=>simp;exact (I (by simp[Wj,gH])).symm
 |true =>
 by_cases g1:(g.length:Int)<1
 ·simp[Qe,g1];exact (I (by simp[Wj,(J:¬1≤g.length)])).symm
 by_cases g2:C.length=j.length
 case neg =>
  have gM:¬(C.length:Int)=(j.length:Int):=J
  simp[Qe,g1,g2,gM];exact (I (by simp[Wj,g2])).symm
 simp[Qe,g1,g2];refine Ns (zee g hb) (bors_self _ (by simp[dats,LV.dat,T9])) ?_;by_cases g3:ja g=0
 case neg=>simp[g3];exact (I (by simp[Wj,g3])).symm
 simp[g3];have Z:∀b∈g,b.size≤65536:=zcp g3;refine O8 (λρ gY gG N=>∃i:Nat,gY=[]∧N+i=j.length∧lk ρ 3=.ptr 0 0∧lk ρ 40=.lst (Ob j) j.length 3∧lk ρ 41=.i j.length∧lk ρ 42=.i i∧0<gG.length∧gG[0]?=some (.cells (Qe g C A B) 0)∧∀gL,gL<i→ji g (gv j gL) (Q0 C gL)=true) (N:=j.length)
  ⟨0,by simp[Qe,g2]⟩ ?_
 rintro N ρ gY gG ⟨i,rfl,hN,G,L,M,O,hl,hG,gg⟩ Nx U;by_cases g8:i<j.length
 ·have q3:=zcb (T2 g8);have hq:=ju g8;have gp:i<C.length:=J
  have p3:=zf4 (zpw gp);have gO:=zyn gp;have gP:(gv j i).f=[.i (gv j i).limbs,.bool (gv j i).sec,.i (gv j i).mode]:=rfl;have gQ:(Q0 C i).f=[.i (Q0 C i).buf,.i (Q0 C i).at_,.i (Q0 C i).size]:=rfl;have no:ji g (gv j i) (Q0 C i)=false→jr j g C A B=2:=λh=>I (by
   have:((List.range j.length).all λi=>ji g (gv j i) (Q0 C i))=false:=by
    rw[Md];exact⟨i,Kh.2 g8,by simp[h]⟩
   simp[Wj,this])
  have X:ji g (gv j i) (Q0 C i)=true→∀D G',lk D 3=.ptr 0 0→lk D 40=.lst (Ob j) j.length 3→lk D 41=.i j.length→lk D 42=.i ((i:Int)+1)→0<G'.length→G'[0]?=some (.cells (Qe g C A B) 0)→Nx D [] G':=λh D G' T gz gA gC el eG =>
   U _ _ _ ⟨N-1,J,i+1,rfl,J,T,gz,gA,by rw[gC];simp,el,eG,λgL hj=>by
    by_cases e:gL=i
    ·rw[e];exact h
    ·exact gg gL J⟩
  generalize gv j i=v at *;generalize Q0 C i=x at *;have K:∀y:List LObj,(gG++y)[0]?=some _:=λy=>(Oi hl).trans hG
  simp[G,L,M,O,g8,gp,q3,p3,hq,gO,gP,gQ,↓K,Qe];have Y:=z8q g C A B x Z;rw[Qe,Pc.f]at Y;refine Ns Y (bors_self _ Ec) ?_;cases F:Wh g x with
  |false=>simp;exact (no (by simp[ji,F])).symm
  |true =>
  obtain⟨n,Q,z,s1,s2,s3,s4,s5⟩:=z5z F;by_cases g4:x.size=v.limbs
  case neg=>simp[g4];exact (no (by simp[ji,g4])).symm
  have b3:=zvz (Sl z);have gD:=zh z;have gR:(Nw g n).f=[.i (Nw g n).size,.i (Nw g n).kind,.bool (Nw g n).sec]:=rfl;have gT:ji g v x=(!(decide ((Nw g n).kind=1) && !Sc v)&&(!(decide ((Nw g n).kind=2)&&Sc v)&&(v.sec==(Nw g n).sec))):=by simp[ji,F,g4,Q]
  rw[gT]at no X;generalize Nw g n=b at *;simp[g4,G,↓K,Qe,Q,z,b3,gD,gR];have gI:∀{G':M9} {K':LV→M9→Prop},K' (.bool (Sc v)) G'→Pm (.fn 172) [.agg [.i v.limbs,.bool v.sec,.i v.mode]] G' K':=λk=>Ns (zbv v) (bors_self _ rfl) k
  have P:∀(h:(!(decide (b.kind=1) && !Sc v)&&(!(decide (b.kind=2)&&Sc v)&&(v.sec==b.sec)))=true) (D:Na) (x:List LObj),lk D 3=.ptr 0 0→lk D 40=.lst (Ob j) j.length 3→lk D 41=.i j.length→lk D 42=.i ((i:Int)+1)→Nx D [] (gG++x):=λh D x T gz gA gC=>X h _ _ T gz gA gC Ab (K x)
  by_cases H:b.kind=1
  ·simp[H];refine gI ?_;cases hg:Sc v with
   |false=>simp[H,hg]at no ⊢;exact no.symm
   |true =>
    simp[H,hg]at no P ⊢;cases E:(v.sec==b.sec) with
    |false=>simp[wo,E]at no ⊢;exact (no Cd).symm
    |true =>
     simp[wo,E,O];refine⟨J,P Cd _ _ Bh C8 Ay (by simp)⟩
  ·by_cases k2:b.kind=2
   ·simp[k2];refine gI ?_;cases hg:Sc v with
    |true=>simp[k2,hg]at no ⊢;exact no.symm
    |false =>
     simp[k2,hg]at no P ⊢;cases E:(v.sec==b.sec) with
     |false=>simp[wo,E]at no ⊢;exact (no Cd).symm
     |true =>
      simp[wo,E,O];refine⟨J,P Cd _ _ Bh C8 Ay (by simp)⟩
   ·simp[H,k2]at no P ⊢;cases E:(v.sec==b.sec) with
    |false=>simp[wo,E]at no ⊢;exact (no Cd).symm
    |true =>
     simp[wo,E,O];refine⟨J,P Cd _ _ Bh C8 Ay (by simp)⟩
 ·have gi:i=j.length:=J
  subst gi;simp[G,L,M,O,hG,Qe];refine O8 (λρ gY gG N=>∃i:Nat,gY=[]∧N+i=2∧lk ρ 3=.ptr 0 0∧lk ρ 95=.agg [.i A.buf,.i A.at_,.i A.size,.i B.buf,.i B.at_,.i B.size]∧lk ρ 96=.i i∧0<gG.length∧gG[0]?=some (.cells (Qe g C A B) 0)∧(0<i→Wy g false A=true)∧(1<i→Wy g true B=true)) (N:=2)
   ⟨0,rfl,rfl,Bh,by simp,by simp,hl,hG,λq=>absurd q J,λq=>absurd q J⟩ ?_
  clear G L M O hG hl;rintro N ρ gY gG ⟨i,rfl,g9,G,V,R,hl,hG,gK,gU⟩ Nx U;have K:∀y:List LObj,(gG++y)[0]?=some _:=λy=>(Oi hl).trans hG
  have hi:i=0∨i=1∨i=2:=J
  rcases hi with rfl|rfl|rfl
  ·have no:Wy g false A=false→jr j g C A B=2:=λh=>I (by simp[Wj,h])
   have X:Wy g false A=true→∀(D:Na) (y:List LObj),lk D 3=.ptr 0 0→lk D 95=.agg [.i A.buf,.i A.at_,.i A.size,.i B.buf,.i B.at_,.i B.size]→lk D 96=.i (0+1)→Nx D [] (gG++y):=λh D y T gE gF =>
    U _ _ _ ⟨N-1,J,0+1,rfl,J,T,gE,by rw[gF];rfl,Ab,K y,λ_=>h,λq=>absurd q J⟩
   simp[G,V,R,↓K,Qe];have Y:=z8q g C A B A Z;rw[Qe,Pc.f]at Y;refine Ns Y (bors_self _ Ec) ?_;cases F:Wh g A with
   |false=>simp;exact (no (by simp[Wy,F])).symm
   |true =>
   obtain⟨n,Q,z,s1,s2,s3,s4,s5⟩:=z5z F;have b1:=zma (Sl z);have b2:=zuo (Sl z);have gD:=zh z;have hW:Wy g false A=(!decide ((Nw g n).kind=1)&&((Nw g n).sec==false)):=by simp[Wy,F,Q]
   rw[hW]at no X;generalize Nw g n=b at *;by_cases H:b.kind=1
   ·simp[G,↓K,Qe,Q,z,Nd b1,Nd b2,H];exact (no Bd).symm
   cases E:b.sec with
   |true=>simp[G,↓K,Qe,Q,z,Nd b1,Nd b2,H,E,wo];exact (no Af).symm
   |false =>
    simp[G,↓K,Qe,Q,z,Nd b1,Nd b2,H,E,R,wo];exact X (by simp[H,E]) _ _ Bh Fl (by simp)
  ·have no:Wy g true B=false→jr j g C A B=2:=λh=>I (by simp[Wj,h])
   have X:Wy g true B=true→∀(D:Na) (y:List LObj),lk D 3=.ptr 0 0→lk D 95=.agg [.i A.buf,.i A.at_,.i A.size,.i B.buf,.i B.at_,.i B.size]→lk D 96=.i (1+1)→Nx D [] (gG++y):=λh D y T gE gF =>
    U _ _ _ ⟨N-1,J,1+1,rfl,J,T,gE,by rw[gF];rfl,Ab,K y,λ_=>gK J,λ_=>h⟩
   simp[G,V,R,↓K,Qe];have Y:=z8q g C A B B Z;rw[Qe,Pc.f]at Y;refine Ns Y (bors_self _ Ec) ?_;cases F:Wh g B with
   |false=>simp;exact (no (by simp[Wy,F])).symm
   |true =>
   obtain⟨n,Q,z,s1,s2,s3,s4,s5⟩:=z5z F;have b1:=zma (Sl z);have b2:=zuo (Sl z);have gD:=zh z;have hW:Wy g true B=(!decide ((Nw g n).kind=1)&&((Nw g n).sec==true)):=by simp[Wy,F,Q]
   rw[hW]at no X;generalize Nw g n=b at *;by_cases H:b.kind=1
   ·simp[G,↓K,Qe,Q,z,Nd b1,Nd b2,H];exact (no Bd).symm
   cases E:b.sec with
   |false=>simp[G,↓K,Qe,Q,z,Nd b1,Nd b2,H,E,wo];exact (no Af).symm
   |true =>
    simp[G,↓K,Qe,Q,z,Nd b1,Nd b2,H,E,R,wo];exact X (by simp[H,E]) _ _ Bh Fl (by simp)
  ·simp[R];unfold jr;rw[H6];have gZ:((List.range j.length).all λi=>ji g (gv j i) (Q0 C i))=true:=Jy.2 λgL hj=>gg gL (Kh.1 hj)
   have gV:1≤g.length:=J
   simp[Wj,gH,gV,g2,g3,gK J,gU J];intro gL hj;exact gg gL hj
def R4(g:List Vr)(d:Int):Bool:=decide (0≤d)&&(decide (d<g.length) && !(gv g d.toNat).sec)
def zhc(j:List Vr)(o:Ko):Nj 126 [.lst (Ob j) j.length 3,.agg o.f] (.bool (R4 j o.d)) []:=by
 refine Od.val rfl (Nn r_expand_Public Aa N ?_);by_cases z:0≤o.d
 case neg=>simp[z57,Ko.f,R4,z]
 by_cases A:o.d<j.length
 case neg=>simp[z57,Ko.f,R4,z,A]
 obtain⟨n,B⟩:=H0 z;have g:n<j.length:=J
 have C:=zl3 (T2 g);have D:=ju g;simp[z57,Ko.f,R4,B,g,Nd C]
def V7(g:List Vr)(o:Ko)(j z:Pc):Pc:=if R4 g o.d=true then j else z
def wx(g:List Vr)(o:Ko):Int:=if R4 g o.d=true then 16 else 40
def zdh(g:List Vr)(o:Ko)(C:List Bf)(D:List Pc)(z A:Pc):Nj 59 [.lst (Ob g) g.length 3,.agg o.f,.agg (Qe C D z A)] (.tup [.i (wx g o),.agg (V7 g o z A).f]) []:=by
 refine Od.val rfl (Nn r_expand_Base Aa N ?_);have j:o.f=[.i o.kind,.i o.d,.i o.e,.i o.a,.i o.b,.i o.c,.u o.imm]:=rfl;simp[zeb,j];rw[←j];refine Ns (zhc g o) (bors_self _ (by simp[dats,LV.dat,Ro,j])) ?_;cases B:R4 g o.d with
 |true=>simp[Qe,Pc.f,wx,V7,B]
 |false=>simp[Qe,Pc.f,wx,V7,B]
def jn(j:List Vr)(o:Ko)(B:List Bf)(C:List Pc)(z A:Pc)(deep g:Int):Bool :=
 Wj j B C z A&&(decide (1≤g)&&(decide (0≤deep)&&(decide (deep≤4)&&decide (g≤(V7 j o z A).size))))
def zky(D:List Vr)(o:Ko)(j:List Bf)(C:List Pc)(z A:Pc)(deep g:Int)(hv:D.length≤1000000)(K:j.length≤9223372036854775807) :
  Nj 58 [.lst (Ob D) D.length 3,.agg o.f,.agg (Qe j C z A),.i deep,.i g] (.bool (jn D o j C z A deep g)) []:=by
 refine Od.val rfl (Nn r_expand_Ready Aa N ?_);have H:o.f=[.i o.kind,.i o.d,.i o.e,.i o.a,.i o.b,.i o.c,.u o.imm]:=rfl;have B:Qe j C z A=[.lst (P7 j) j.length 3,.lst (Wo C) C.length 3,.i z.buf,.i z.at_,.i z.size,.i A.buf,.i A.at_,.i A.size]:=rfl;simp[zdb,B,H];rw[←B];refine Ns (zie D j C z A hv K) (bors_self _ (by simp[dats,LV.dat,Ro,zcf])) ?_;cases E:Wj D j C z A with
 |false=>simp[jr,E,jn]
 |true =>
 by_cases F:1≤g
 case neg=>simp[jr,E,jn,F]
 by_cases G:0≤deep
 case neg=>simp[jr,E,jn,F,G]
 by_cases I:deep≤4
 case neg=>simp[jr,E,jn,F,G,I]
 simp[jr,E,F,G,I,B];refine⟨λh=>J,λh=>J,λh=>J,?_⟩;rw[←H,←B];refine Ns (zdh D o j C z A) (bors_self _ (by simp[dats,LV.dat,Ro,zcf,H])) ?_;simp[Pc.f,jn,E,F,G,I]
section
def z95:LC:=(.ops [.m 18 0,.m 19 0,.N 20 19,.f 21 0 20,.l 22 21,.m 23 1,.m 24 2,.m 25 3,.m 26 4,.m 27 5,.m 28 6,.m 29 7,.m 30 8,.z 31 (.build [(.i 0),(.i 0),(.i 0),(.i 0),(.i 0),(.i 0),(.i 0),(.u 0)] [(0,1,.t 23),(1,1,.t 24),(2,1,.t 25),(3,1,.t 26),(4,1,.t 27),(5,1,.t 28),(6,1,.t 29),(7,1,.t 30)]),.z 32 (.buildSl 8 1 [(.i 0),(.i 0),(.i 0),(.i 0),(.i 0),(.i 0),(.i 0),(.u 0)] [(0,8,.t 31)]),.a 33 8 22 32,.N 34 18,.f 35 0 34,.S 1 35 33])
def r_expand_Emit_put:Nm Tryz.prog 131=some ⟨36,z95.r,[]⟩:=Aa
def z7s:LC:=(.ops [.m 6 0,.m 7 1,.m 8 2,.z 9 (.w 131 [.t 6,.k 1,.t 7,.k (-1),.k (-1),.k (-1),.k (-1),.k 0,.t 8])])
def r_expand_Emit_Const:Nm Tryz.prog 69=some ⟨10,z7s.r,[]⟩:=Aa
def z92:LC:=(.ops [.m 10 0,.m 11 1,.m 12 2,.m 13 3,.m 14 4,.z 15 (.w 131 [.t 10,.t 11,.t 12,.k (-1),.t 13,.t 14,.k (-1),.k 0,.c (.u 0)])])
def r_expand_Emit_Two:Nm Tryz.prog 108=some ⟨16,z92.r,[]⟩:=Aa
def z94:LC:=(.ops [.m 10 0,.m 11 1,.m 12 2,.m 13 3,.m 14 4,.z 15 (.w 131 [.t 10,.k 10,.t 11,.t 12,.t 13,.t 14,.k (-1),.k 0,.c (.u 0)])])
def r_expand_Emit_Mul:Nm Tryz.prog 132=some ⟨16,z94.r,[]⟩:=Aa
def z7x:LC:=(.ops [.m 14 0,.m 15 1,.m 16 2,.m 17 3,.m 18 4,.m 19 5,.m 20 6,.z 21 (.w 131 [.t 14,.t 15,.t 16,.t 17,.t 18,.t 19,.t 20,.k 0,.c (.u 0)])])
def r_expand_Emit_Carry:Nm Tryz.prog 104=some ⟨22,z7x.r,[]⟩:=Aa
def z9p:LC:=(.ops [.m 10 0,.m 11 1,.m 12 3,.m 13 4,.m 14 2,.z 15 (.w 131 [.t 10,.k 13,.t 11,.k (-1),.t 12,.t 13,.t 14,.k 0,.c (.u 0)])])
def r_expand_Emit_Sel:Nm Tryz.prog 113=some ⟨16,z9p.r,[]⟩:=Aa
def z82:LC:=(.q [.x 7 2] (.ops [.m 10 0,.m 11 1,.m 12 3,.f 13 0 7,.l 14 13,.f 15 1 7,.l 16 15,.m 17 4,.c 18 .add 3 16 17,.z 19 (.cvInt .u64 (.t 18)),.z 20 (.w 131 [.t 10,.k 14,.t 11,.k (-1),.t 12,.k (-1),.k (-1),.t 14,.t 19])]))
def r_expand_Emit_Load:Nm Tryz.prog 70=some ⟨21,z82.r,[]⟩:=Aa
def z7j:LC:=(.q [.x 6 1] (.ops [.m 10 0,.m 11 2,.m 12 4,.f 13 0 6,.l 14 13,.f 15 1 6,.l 16 15,.m 17 3,.c 18 .add 3 16 17,.z 19 (.cvInt .u64 (.t 18)),.z 20 (.w 131 [.t 10,.k 15,.k (-1),.k (-1),.t 11,.t 12,.k (-1),.t 14,.t 19])]))
def r_expand_Emit_Store:Nm Tryz.prog 109=some ⟨21,z7j.r,[]⟩:=Aa
def z5g:LC:=(.seq (.q [.m 7 1,.b 8 .lss 3 7 1] (.cond (.t 8) .ret .skip)) (.q [.m 9 0,.N 10 9,.f 11 1 10,.l 12 11,.m 6 12] (.q [.m 13 0,.m 14 6,.m 15 1,.z 16 (.cvInt .u64 (.t 15)),.z 17 (.w 131 [.t 13,.k 16,.t 14,.k (-1),.k (-1),.k (-1),.k (-1),.k 0,.t 16])] (.q [.m 18 0,.N 19 18,.f 20 1 19,.l 21 20,.b 22 .add 3 21 1,.N 23 18,.f 24 1 23,.S 1 24 22] (.q [.m 25 2,.m 26 6,.z 27 (.callV (.t 25) [.t 26])] (.q [.m 28 0,.N 29 28,.f 30 1 29,.l 31 30,.b 32 .sub 3 31 1,.N 33 28,.f 34 1 33,.S 1 34 32] (.ops [.m 35 0,.z 36 (.w 131 [.t 35,.k 17,.k (-1),.k (-1),.k (-1),.k (-1),.k (-1),.k 0,.c (.u 0)])])))))))
def r_expand_Emit_Loop:Nm Tryz.prog 73=some ⟨37,z5g.r,[]⟩:=Aa
def z89:LC:=(.q [.x 3 0,.x 4 1,.x 5 2] (.ops [.l 6 3,.f 7 2 4,.l 8 7,.z 9 (.mkFunc 133 [] [.t 3,.t 4,.t 5]),.V 10 73 6 8 9]))
def r_expand_Emit_Fill:Nm Tryz.prog 72=some ⟨11,z89.r,[]⟩:=Aa
def z73:LC:=(.ops [.l 5 1,.L 6 3 2,.m 7 0,.l 8 3,.z 9 (.w 109 [.t 5,.t 6,.t 7,.k 0,.t 8])])
def r_expand_Emit_Fill_1:Nm Tryz.prog 133=some ⟨10,z73.r,[]⟩:=Aa
def zfd:LC:=(.q [.x 3 0,.z 6 (.alloc [(.i 0),(.i 0),(.i 0)])] (.q [.f 7 0 3,.l 8 7,.f 9 1 3,.l 10 9,.m 11 1,.c 12 .add 3 10 11,.m 13 2,.z 14 (.build [(.i 0),(.i 0),(.i 0)] [(0,1,.t 8),(1,1,.t 12),(2,1,.t 13)]),.S 3 6 14] .ret))
def r_expand_Part:Nm Tryz.prog 68=some ⟨15,zfd.r,[.cellN 6 3]⟩:=Aa
section emit
variable {G : M9} {K : LV → M9 → Prop} {e : Nat} {ops : List Lo} {deep : Int}
def uc{st:Nat}{v:LV}{L:List Lo}(M:G[e]?=some (.cells [v,.i deep] st))(O:Qf 0 G v 8 ops.length (Qu ops))(V:ops.length≤1000000)
  (k:∀(z:LV) (j:M9),z.cells=some [z]→j[e]?=some (.cells [v,.i deep] st)→Pd (j.set e (.cells [z,.i deep] (st+1))) e (ops++L) deep→Kp e G (j.set e (.cells [z,.i deep] (st+1)))→(∀(q:Nat) (g:LObj),(∀Q m k st,g≠LObj.dyn Q m 8 k st)→G[q]?=some g→j[q]?=some g)→v9 z j):Pu G 8 v L.length (Qu L) v9:=by
 have X:e<G.length:=(Hv.1 M).1;refine Qf.push2 O J J J (zyq L) (Ud L) λz j B D E R T=>?_
 have A:∀(q:Nat) (g:LObj),(∀Q m k st,g≠LObj.dyn Q m 8 k st)→G[q]?=some g→j[q]?=some g:=λq g ho C=>by
  have F:=(Hv.1 C).1;rw[D q F (λY r=>?_)]
  ·exact C
  ·obtain⟨Q,m,k,st,P⟩:=O.row r;rw[C]at P;exact ho _ _ _ _ (Option.some.inj P)
 have H:=A e _ (λ_ _ _ _ q=>Gs) M;have I:e<j.length:=(Hv.1 H).1;refine k z j B.cells H ⟨st+1,z,H8 I,?_⟩ ⟨Cd,λq g C ho U=>?_⟩ A
 ·rw[zof,Ia];exact B.set_cells H
 ·rw[Hy (Ne.symm C)];exact A q g ho U
def za4{d a b c:Int}(h:Pd G e ops deep)(E:ops.length≤1000000)(k:∀g,Pd g e (ops++[⟨z,d,B,a,b,c,V,U⟩]) deep→Kp e G g→K (.tup []) g) :
  Pm (.fn 131) [.ptr e 0,.i z,.i d,.i B,.i a,.i b,.i c,.i V,.u U] G K:=by
 obtain⟨st,v,j,F⟩:=h;have H:e<G.length:=(Hv.1 j).1;refine Nn r_expand_Emit_put Aa N ?_;have A:∀x,Kp e G (G++x):=λx=>Kp.app' e G x
 have C:∀x:List LObj,(G++x)[e]?=some (.cells [v,.i deep] st):=λx=>(Nv H).trans j
 simp[z95,j];refine uc (L:=[⟨z,d,B,a,b,c,V,U⟩]) (C _) F.push_end E λP Q D I M O _=>?_
 simp[-LV.cells,D,I];exact k _ M ((A _).trans O)
def z7m{d:Int}{n:UInt64}(h:Pd G e ops deep)(j:ops.length≤1000000)(k:∀g,Pd g e (ops++[cK d n]) deep→Kp e G g→K (.tup []) g):Pm (.fn 69) [.ptr e 0,.i d,.u n] G K:=by
 refine Nn r_expand_Emit_Const Aa N ?_;simp[z7s];refine za4 h j λg z A=>?_
 simpa using k g z A
def zg2{d a b:Int}(h:Pd G e ops deep)(j:ops.length≤1000000)(k:∀g,Pd g e (ops++[Nb z d a b]) deep→Kp e G g→K (.tup []) g):Pm (.fn 108) [.ptr e 0,.i z,.i d,.i a,.i b] G K:=by
 refine Nn r_expand_Emit_Two Aa N ?_;simp[z92];refine za4 h j λg A B=>?_
 simpa using k g A B
def zkb{hi a b:Int}(h:Pd G e ops deep)(j:ops.length≤1000000)(k:∀g,Pd g e (ops++[N9 hi z a b]) deep→Kp e G g→K (.tup []) g):Pm (.fn 132) [.ptr e 0,.i hi,.i z,.i a,.i b] G K:=by
 refine Nn r_expand_Emit_Mul Aa N ?_;simp[z94];refine za4 h j λg A B=>?_
 simpa using k g A B
def zbp{d a b c:Int}(h:Pd G e ops deep)(j:ops.length≤1000000)(k:∀g,Pd g e (ops++[Ny z d B a b c]) deep→Kp e G g→K (.tup []) g):Pm (.fn 104) [.ptr e 0,.i z,.i d,.i B,.i a,.i b,.i c] G K:=by
 refine Nn r_expand_Emit_Carry Aa N ?_;simp[z7x];refine za4 h j λg A C=>?_
 simpa using k g A C
def zy{d c a b:Int}(h:Pd G e ops deep)(j:ops.length≤1000000)(k:∀g,Pd g e (ops++[Og d c a b]) deep→Kp e G g→K (.tup []) g):Pm (.fn 113) [.ptr e 0,.i d,.i c,.i a,.i b] G K:=by
 refine Nn r_expand_Emit_Sel Aa N ?_;simp[z9p];refine za4 h j λg z A=>?_
 simpa using k g z A
def dw{d i:Int}{p:Pc}(C:-1000000000≤p.at_+z∧p.at_+z≤1000000000)(h:Pd G e ops deep)(j:ops.length≤1000000)(k:∀g,Pd g e (ops++[Nk d p i z]) deep→Kp e G g→K (.tup []) g):Pm (.fn 70) [.ptr e 0,.i d,.agg p.f,.i i,.i z] G K:=by
 refine Nn r_expand_Emit_Load Aa N ?_;simp[z82,Pc.f]
 repeat (refine⟨J,?_⟩)
 refine za4 (h.app _) j λg A B=>?_
 simpa using k g A ((Kp.app' _ _ _).trans B)
def z6g{i b:Int}{p:Pc}(C:-1000000000≤p.at_+z∧p.at_+z≤1000000000)(h:Pd G e ops deep)(j:ops.length≤1000000)(k:∀g,Pd g e (ops++[Nq p i z b]) deep→Kp e G g→K (.tup []) g):Pm (.fn 109) [.ptr e 0,.agg p.f,.i i,.i z,.i b] G K:=by
 refine Nn r_expand_Emit_Store Aa N ?_;simp[z7j,Pc.f]
 repeat (refine⟨J,?_⟩)
 refine za4 (h.app _) j λg A B=>?_
 simpa using k g A ((Kp.app' _ _ _).trans B)
def zul{f:Nat}{cap:List LV}(hd:0≤deep∧deep≤100)(h:Pd G e ops deep)(Y:ops.length≤1000000)(Z:z<1→K (.tup []) G)
  (k1:1≤z→∀D,Pd D e (ops++[S9 deep z]) (deep+1)→Kp e G D→Pm (.fn f) (E++.i deep::cap) D λ_ I=>∃g,g.length≤1000000∧Pd I e g (deep+1)∧∀F,Pd F e (g++[Tj]) deep→Kp e I F→K (.tup []) F) :
  Pm (.fn 73) [.ptr e 0,.i z,.fn (.func f) E cap] G K:=by
 refine Nn r_expand_Emit_Loop Aa N ?_;by_cases gg:z<1
 ·simpa [z5g,gg] using Z gg
 obtain⟨st,v,h1,h2⟩:=id h;simp[z5g,gg,h1];refine za4 h Y λD e1 L=>?_
 obtain⟨H,V,A,M⟩:=e1;simp[A];have O:e<D.length:=(Hv.1 A).1;refine⟨J,?_⟩;have j:∀(a:M9) (X:LObj),Kp e a (a.set e X):=λa X=>⟨N,λq o hq _ ho=>by rw[Hy (Ne.symm hq)];exact ho⟩
 have B:=k1 J (D.set e (.cells [V,.i (deep+1)] (H+1))) ⟨H+1,V,H8 O,M.set_cells A⟩ (L.trans (j _ _));refine B.mono λw I hw=>?_
 obtain⟨g,P,e2,k2⟩:=hw;obtain⟨Q,v2,C,R⟩:=e2;simp[C];have T:e<I.length:=(Hv.1 C).1;refine⟨J,?_⟩;refine za4 (deep:=deep) ⟨Q+1,v2,H8 T,R.set_cells C⟩ P λF e3 U=>?_
 simpa using k2 F e3 ((j _ _).trans U)
end emit
end
def z7p:LC:=(.q [.m 9 2,.b 10 .add 3 9 1,.m 11 2,.b 12 .add 3 11 2,.m 13 2,.b 14 .add 3 13 3,.m 6 10,.m 7 12,.m 8 14] (.q [.m 15 0,.m 16 8,.z 17 (.w 69 [.t 15,.t 16,.c (.u 3)])] (.q [.m 18 0,.m 19 6,.m 20 2,.m 21 1,.m 22 8,.z 23 (.w 132 [.t 18,.t 19,.t 20,.t 21,.t 22])] (.q [.m 24 0,.m 25 8,.z 26 (.w 69 [.t 24,.t 25,.c (.u 2)])] (.q [.m 27 0,.m 28 2,.m 29 2,.m 30 8,.z 31 (.w 108 [.t 27,.k 7,.t 28,.t 29,.t 30])] (.seq (.q [.K 32 0] (.block 0 (.loop (.q [.b 33 .lss 3 32 5] (.seq (.cond (.t 33) .skip (.exit 0)) (.seq (.block 1 (.q [.m 34 0,.m 35 6,.m 36 7,.m 37 1,.m 38 2,.z 39 (.w 132 [.t 34,.t 35,.t 36,.t 37,.t 38])] (.q [.m 40 0,.m 41 7,.m 42 8,.m 43 7,.z 44 (.w 108 [.t 40,.k 4,.t 41,.t 42,.t 43])] (.ops [.m 45 0,.m 46 6,.m 47 2,.m 48 2,.m 49 7,.z 50 (.w 132 [.t 45,.t 46,.t 47,.t 48,.t 49])])))) (.ops [.b 51 .add 3 32 1,.m 32 51]))))))) (.q [.m 52 0,.m 53 8,.z 54 (.w 69 [.t 52,.t 53,.c (.u 0)])] (.ops [.m 55 0,.m 56 2,.m 57 8,.m 58 2,.z 59 (.w 108 [.t 55,.k 4,.t 56,.t 57,.t 58])]))))))))
def r_montgomery_reckon:Nm Tryz.prog 71=some ⟨60,z7p.r,[]⟩:=Aa
def th{v:LV}{l:List LV}{n e:Nat}(h:bor G v (.lst l n e)):Of G v (.lst l n e):=by
 cases v<;>first|exact h|(simp[LV.dat]at h)
def zxl{e:Nat}{ops:List Lo}{deep n r:Int}(hr:0≤r∧r≤1000)(h:Pd G e ops deep)(hl:ops.length≤900000)(k:∀I,Pd I e (ops++Um n r) deep→Kp e G I→v9 (.tup []) I):Pm (.fn 71) [.ptr e 0,.i n,.i r] G v9:=by
 refine Nn r_montgomery_reckon Aa (by simp) ?_;simp[z7p]
 repeat (refine⟨J,?_⟩)
 refine z7m h J λG1 Y K=>?_
 simp;refine zkb Y Ab λG2 Z L=>?_
 simp;refine z7m Z Ab λG3 h3 M=>?_
 simp;refine zg2 h3 Ab λG4 h4 j=>?_
 simp;have j:=K.trans (L.trans (M.trans j));refine O8 (λR gg I N=>∃i:Nat,gg=[]∧N+i=5∧lk R 0=.ptr e 0∧lk R 1=.i n∧lk R 2=.i r∧lk R 6=.i (r+1)∧lk R 7=.i (r+2)∧lk R 8=.i (r+3)∧lk R 32=.i i∧Pd I e (ops++(je n r++X6 n r i)) deep∧Kp e G I) (N:=5)
  ⟨0,rfl,J,by simp,by simp,by simp,by simp,by simp,by simp,by simp,by simpa [je,X6] using h4,j⟩ ?_
 clear Y Z h3 h4 K L M j;rintro N R gg G5 ⟨i,rfl,hN,z,A,B,C,D,E,g,h5,O⟩ Nx T;have P:(X6 n r i).length=3*i:=zin n r i;have Q:(je n r).length=4:=rfl;by_cases gz:i<5
 ·have g':(i:Int)<5:=J
  simp[z,A,B,C,D,E,g,g'];refine zkb h5 C7 λG6 U F=>?_
  simp[z,A,B,C,D,E,g];refine zg2 U C7 λG7 V H=>?_
  simp[z,A,B,C,D,E,g];refine zkb V C7 λG8 h8 X=>?_
  simp[z,A,B,C,D,E,g];refine⟨J,T _ _ _ ⟨N-1,J,i+1,rfl,J,Ae,At,An,Al,Ao,Af,by simp,?_,O.trans (F.trans (H.trans X))⟩⟩;rw[zci];simpa [zqg] using h8
 ·have hi:i=5:=J
  subst hi;simp[z,A,B,C,D,E,g];refine z7m h5 C7 λG6 U F=>?_
  simp[z,A,B,C,D,E,g];refine zg2 U C7 λG7 V H=>?_
  simp;refine k G7 ?_ (O.trans (F.trans H));simpa [Um] using V
section
def z51:LC:=(.seq (.draw [(.m 6 0,[]),(.N 7 6,[]),(.f 8 0 7,[]),(.l 9 8,[]),(.m 10 0,[]),(.N 11 10,[]),(.f 12 21 11,[]),(.l 13 12,[]),(.m 14 0,[]),(.N 15 14,[]),(.f 16 22 15,[]),(.l 17 16,[]),(.m 18 1,[]),(.m 19 2,[]),(.z 20 (.w 132 [.t 9,.t 13,.t 17,.t 18,.t 19]),[])]) (.seq (.draw [(.m 21 0,[]),(.N 22 21,[]),(.f 23 0 22,[]),(.l 24 23,[]),(.m 25 0,[]),(.N 26 25,[]),(.f 27 22 26,[]),(.l 28 27,[]),(.m 29 0,[]),(.N 30 29,[]),(.f 31 24 30,[]),(.l 32 31,[]),(.m 33 0,[]),(.N 34 33,[]),(.f 35 22 34,[]),(.l 36 35,[]),(.m 37 0,[]),(.N 38 37,[]),(.f 39 23 38,[]),(.l 40 39,[]),(.m 41 0,[]),(.N 42 41,[]),(.f 43 16 42,[]),(.l 44 43,[]),(.z 45 (.w 104 [.t 24,.k 11,.t 28,.t 32,.t 36,.t 40,.t 44]),[])]) (.seq (.draw [(.m 46 0,[]),(.N 47 46,[]),(.f 48 0 47,[]),(.l 49 48,[]),(.m 50 0,[]),(.N 51 50,[]),(.f 52 22 51,[]),(.l 53 52,[]),(.m 54 0,[]),(.N 55 54,[]),(.f 56 25 55,[]),(.l 57 56,[]),(.m 58 0,[]),(.N 59 58,[]),(.f 60 22 59,[]),(.l 61 60,[]),(.m 62 0,[]),(.N 63 62,[]),(.f 64 19 63,[]),(.l 65 64,[]),(.m 66 0,[]),(.N 67 66,[]),(.f 68 16 67,[]),(.l 69 68,[]),(.z 70 (.w 104 [.t 49,.k 11,.t 53,.t 57,.t 61,.t 65,.t 69]),[])]) (.seq (.draw [(.m 71 0,[]),(.N 72 71,[]),(.f 73 0 72,[]),(.l 74 73,[]),(.m 75 0,[]),(.N 76 75,[]),(.f 77 21 76,[]),(.l 78 77,[]),(.m 79 0,[]),(.N 80 79,[]),(.f 81 21 80,[]),(.l 82 81,[]),(.m 83 0,[]),(.N 84 83,[]),(.f 85 24 84,[]),(.l 86 85,[]),(.z 87 (.w 108 [.t 74,.k 3,.t 78,.t 82,.t 86]),[])]) (.draw [(.m 88 0,[]),(.N 89 88,[]),(.f 90 0 89,[]),(.l 91 90,[]),(.m 92 0,[]),(.N 93 92,[]),(.f 94 19 93,[]),(.l 95 94,[]),(.m 96 0,[]),(.N 97 96,[]),(.f 98 21 97,[]),(.l 99 98,[]),(.m 100 0,[]),(.N 101 100,[]),(.f 102 25 101,[]),(.l 103 102,[]),(.z 104 (.w 108 [.t 91,.k 3,.t 95,.t 99,.t 103]),[])])))))
def r_montgomery_product_sum:Nm Tryz.prog 135=some ⟨105,z51.r,[]⟩:=Aa
def z4w:LC:=(.seq (.draw [(.m 2 0,[]),(.N 3 2,[]),(.f 4 0 3,[]),(.l 5 4,[]),(.m 6 0,[]),(.N 7 6,[]),(.f 8 23 7,[]),(.l 9 8,[]),(.m 10 0,[]),(.N 11 10,[]),(.f 12 13 11,[]),(.L 13 3 12,[]),(.m 14 0,[]),(.N 15 14,[]),(.f 16 10 15,[]),(.f 17 2 16,[]),(.l 18 17,[]),(.z 19 (.w 70 [.t 5,.t 9,.t 13,.k (-1),.t 18]),[])]) (.draw [(.m 20 0,[]),(.N 21 20,[]),(.f 22 0 21,[]),(.l 23 22,[]),(.m 24 0,[]),(.N 25 24,[]),(.f 26 23 25,[]),(.l 27 26,[]),(.m 28 0,[]),(.N 29 28,[]),(.f 30 24 29,[]),(.l 31 30,[]),(.m 32 0,[]),(.N 33 32,[]),(.f 34 23 33,[]),(.l 35 34,[]),(.m 36 0,[]),(.N 37 36,[]),(.f 38 19 37,[]),(.l 39 38,[]),(.m 40 0,[]),(.N 41 40,[]),(.f 42 16 41,[]),(.l 43 42,[]),(.z 44 (.w 104 [.t 23,.k 11,.t 27,.t 31,.t 35,.t 39,.t 43]),[])]))
def r_montgomery_product_top:Nm Tryz.prog 136=some ⟨45,z4w.r,[]⟩:=Aa
def z4e:LC:=(.q [.x 2 0] (.seq (.draw [(.l 4 2,[]),(.N 5 4,[]),(.f 6 0 5,[]),(.l 7 6,[]),(.l 8 2,[]),(.N 9 8,[]),(.f 10 18 9,[]),(.l 11 10,[]),(.l 12 2,[]),(.N 13 12,[]),(.f 14 7 13,[]),(.L 15 3 14,[]),(.m 16 1,[]),(.z 17 (.w 70 [.t 7,.t 11,.t 15,.t 16,.k 0]),[])]) (.seq (.draw [(.l 18 2,[]),(.N 19 18,[]),(.f 20 0 19,[]),(.l 21 20,[]),(.l 22 2,[]),(.N 23 22,[]),(.f 24 19 23,[]),(.l 25 24,[]),(.z 26 (.w 69 [.t 21,.t 25,.c (.u 0)]),[])]) (.seq (.draw [(.l 27 2,[]),(.N 28 27,[]),(.f 29 0 28,[]),(.l 30 29,[]),(.l 31 2,[]),(.N 32 31,[]),(.f 33 10 32,[]),(.f 34 2 33,[]),(.l 35 34,[]),(.z 36 (.mkFunc 134 [] [.t 2]),[]),(.V 37 73 30 35 36,[])]) (.q [.l 38 2,.w 39 136 38] (.seq (.draw [(.l 40 2,[]),(.N 41 40,[]),(.f 42 0 41,[]),(.l 43 42,[]),(.l 44 2,[]),(.N 45 44,[]),(.f 46 13 45,[]),(.L 47 3 46,[]),(.l 48 2,[]),(.N 49 48,[]),(.f 50 10 49,[]),(.f 51 2 50,[]),(.l 52 51,[]),(.l 53 2,[]),(.N 54 53,[]),(.f 55 23 54,[]),(.l 56 55,[]),(.z 57 (.w 109 [.t 43,.t 47,.k (-1),.t 52,.t 56]),[])]) (.draw [(.l 58 2,[]),(.N 59 58,[]),(.f 60 0 59,[]),(.l 61 60,[]),(.l 62 2,[]),(.N 63 62,[]),(.f 64 13 63,[]),(.L 65 3 64,[]),(.l 66 2,[]),(.N 67 66,[]),(.f 68 10 67,[]),(.f 69 2 68,[]),(.l 70 69,[]),(.b 71 .add 3 70 1,[]),(.l 72 2,[]),(.N 73 72,[]),(.f 74 24 73,[]),(.l 75 74,[]),(.z 76 (.w 109 [.t 61,.t 65,.k (-1),.t 71,.t 75]),[])])))))))
def r_montgomery_product_times:Nm Tryz.prog 75=some ⟨77,z4e.r,[]⟩:=Aa
def z3q:LC:=(.seq (.draw [(.l 3 1,[]),(.N 4 3,[]),(.f 5 0 4,[]),(.l 6 5,[]),(.l 7 1,[]),(.N 8 7,[]),(.f 9 20 8,[]),(.l 10 9,[]),(.l 11 1,[]),(.N 12 11,[]),(.f 13 4 12,[]),(.L 14 3 13,[]),(.m 15 0,[]),(.z 16 (.w 70 [.t 6,.t 10,.t 14,.t 15,.k 0]),[])]) (.seq (.draw [(.l 17 1,[]),(.N 18 17,[]),(.f 19 0 18,[]),(.l 20 19,[]),(.l 21 1,[]),(.N 22 21,[]),(.f 23 23 22,[]),(.l 24 23,[]),(.l 25 1,[]),(.N 26 25,[]),(.f 27 13 26,[]),(.L 28 3 27,[]),(.m 29 0,[]),(.z 30 (.w 70 [.t 20,.t 24,.t 28,.t 29,.k 0]),[])]) (.seq (.draw [(.l 31 1,[]),(.l 32 1,[]),(.N 33 32,[]),(.f 34 20 33,[]),(.l 35 34,[]),(.l 36 1,[]),(.N 37 36,[]),(.f 38 18 37,[]),(.l 39 38,[]),(.V 40 135 31 35 39,[])]) (.draw [(.l 41 1,[]),(.N 42 41,[]),(.f 43 0 42,[]),(.l 44 43,[]),(.l 45 1,[]),(.N 46 45,[]),(.f 47 13 46,[]),(.L 48 3 47,[]),(.m 49 0,[]),(.l 50 1,[]),(.N 51 50,[]),(.f 52 22 51,[]),(.l 53 52,[]),(.z 54 (.w 109 [.t 44,.t 48,.t 49,.k 0,.t 53]),[])]))))
def r_montgomery_product_times_1:Nm Tryz.prog 134=some ⟨55,z3q.r,[]⟩:=Aa
def z4k:LC:=(.q [.x 1 0] (.q [.l 3 1,.N 4 3,.f 5 10 4,.f 6 2 5,.l 7 6,.m 2 7] (.seq (.draw [(.l 8 1,[]),(.N 9 8,[]),(.f 10 0 9,[]),(.l 11 10,[]),(.l 12 1,[]),(.N 13 12,[]),(.f 14 23 13,[]),(.l 15 14,[]),(.l 16 1,[]),(.N 17 16,[]),(.f 18 13 17,[]),(.L 19 3 18,[]),(.z 20 (.w 70 [.t 11,.t 15,.t 19,.k (-1),.k 0]),[])]) (.seq (.draw [(.l 21 1,[]),(.N 22 21,[]),(.f 23 0 22,[]),(.l 24 23,[]),(.l 25 1,[]),(.N 26 25,[]),(.f 27 21 26,[]),(.l 28 27,[]),(.l 29 1,[]),(.N 30 29,[]),(.f 31 26 30,[]),(.l 32 31,[]),(.l 33 1,[]),(.N 34 33,[]),(.f 35 23 34,[]),(.l 36 35,[]),(.l 37 1,[]),(.N 38 37,[]),(.f 39 17 38,[]),(.l 40 39,[]),(.z 41 (.w 132 [.t 24,.t 28,.t 32,.t 36,.t 40]),[])]) (.seq (.draw [(.l 42 1,[]),(.N 43 42,[]),(.f 44 0 43,[]),(.l 45 44,[]),(.l 46 1,[]),(.N 47 46,[]),(.f 48 20 47,[]),(.l 49 48,[]),(.l 50 1,[]),(.N 51 50,[]),(.f 52 10 51,[]),(.L 53 3 52,[]),(.z 54 (.w 70 [.t 45,.t 49,.t 53,.k (-1),.k 0]),[])]) (.seq (.draw [(.l 55 1,[]),(.N 56 55,[]),(.f 57 0 56,[]),(.l 58 57,[]),(.l 59 1,[]),(.N 60 59,[]),(.f 61 19 60,[]),(.l 62 61,[]),(.z 63 (.w 69 [.t 58,.t 62,.c (.u 0)]),[])]) (.seq (.draw [(.l 64 1,[]),(.l 65 1,[]),(.N 66 65,[]),(.f 67 26 66,[]),(.l 68 67,[]),(.l 69 1,[]),(.N 70 69,[]),(.f 71 20 70,[]),(.l 72 71,[]),(.V 73 135 64 68 72,[])]) (.q [.l 74 1,.N 75 74,.f 76 0 75,.l 77 76,.m 78 2,.b 79 .sub 3 78 1,.z 80 (.mkFunc 137 [] [.t 1]),.V 81 73 77 79 80] (.q [.l 82 1,.w 83 136 82] (.seq (.draw [(.l 84 1,[]),(.N 85 84,[]),(.f 86 0 85,[]),(.l 87 86,[]),(.l 88 1,[]),(.N 89 88,[]),(.f 90 13 89,[]),(.L 91 3 90,[]),(.m 92 2,[]),(.b 93 .sub 3 92 1,[]),(.l 94 1,[]),(.N 95 94,[]),(.f 96 23 95,[]),(.l 97 96,[]),(.z 98 (.w 109 [.t 87,.t 91,.k (-1),.t 93,.t 97]),[])]) (.seq (.draw [(.l 99 1,[]),(.N 100 99,[]),(.f 101 0 100,[]),(.l 102 101,[]),(.l 103 1,[]),(.N 104 103,[]),(.f 105 23 104,[]),(.l 106 105,[]),(.l 107 1,[]),(.N 108 107,[]),(.f 109 13 108,[]),(.L 110 3 109,[]),(.m 111 2,[]),(.b 112 .add 3 111 1,[]),(.z 113 (.w 70 [.t 102,.t 106,.t 110,.k (-1),.t 112]),[])]) (.seq (.draw [(.l 114 1,[]),(.N 115 114,[]),(.f 116 0 115,[]),(.l 117 116,[]),(.l 118 1,[]),(.N 119 118,[]),(.f 120 23 119,[]),(.l 121 120,[]),(.l 122 1,[]),(.N 123 122,[]),(.f 124 23 123,[]),(.l 125 124,[]),(.l 126 1,[]),(.N 127 126,[]),(.f 128 24 127,[]),(.l 129 128,[]),(.z 130 (.w 108 [.t 117,.k 3,.t 121,.t 125,.t 129]),[])]) (.draw [(.l 131 1,[]),(.N 132 131,[]),(.f 133 0 132,[]),(.l 134 133,[]),(.l 135 1,[]),(.N 136 135,[]),(.f 137 13 136,[]),(.L 138 3 137,[]),(.m 139 2,[]),(.l 140 1,[]),(.N 141 140,[]),(.f 142 23 141,[]),(.l 143 142,[]),(.z 144 (.w 109 [.t 134,.t 138,.k (-1),.t 139,.t 143]),[])])))))))))))))
def r_montgomery_product_down:Nm Tryz.prog 76=some ⟨145,z4k.r,[]⟩:=Aa
def z47:LC:=(.seq (.draw [(.l 3 1,[]),(.N 4 3,[]),(.f 5 0 4,[]),(.l 6 5,[]),(.l 7 1,[]),(.N 8 7,[]),(.f 9 20 8,[]),(.l 10 9,[]),(.l 11 1,[]),(.N 12 11,[]),(.f 13 10 12,[]),(.L 14 3 13,[]),(.m 15 0,[]),(.z 16 (.w 70 [.t 6,.t 10,.t 14,.t 15,.k 1]),[])]) (.seq (.draw [(.l 17 1,[]),(.N 18 17,[]),(.f 19 0 18,[]),(.l 20 19,[]),(.l 21 1,[]),(.N 22 21,[]),(.f 23 23 22,[]),(.l 24 23,[]),(.l 25 1,[]),(.N 26 25,[]),(.f 27 13 26,[]),(.L 28 3 27,[]),(.m 29 0,[]),(.z 30 (.w 70 [.t 20,.t 24,.t 28,.t 29,.k 1]),[])]) (.seq (.draw [(.l 31 1,[]),(.l 32 1,[]),(.N 33 32,[]),(.f 34 26 33,[]),(.l 35 34,[]),(.l 36 1,[]),(.N 37 36,[]),(.f 38 20 37,[]),(.l 39 38,[]),(.V 40 135 31 35 39,[])]) (.draw [(.l 41 1,[]),(.N 42 41,[]),(.f 43 0 42,[]),(.l 44 43,[]),(.l 45 1,[]),(.N 46 45,[]),(.f 47 13 46,[]),(.L 48 3 47,[]),(.m 49 0,[]),(.l 50 1,[]),(.N 51 50,[]),(.f 52 22 51,[]),(.l 53 52,[]),(.z 54 (.w 109 [.t 44,.t 48,.t 49,.k 0,.t 53]),[])]))))
def r_montgomery_product_down_1:Nm Tryz.prog 137=some ⟨55,z47.r,[]⟩:=Aa
def z4o:LC:=(.q [.x 2 0,.x 3 1] (.seq (.draw [(.l 4 2,[]),(.N 5 4,[]),(.f 6 0 5,[]),(.l 7 6,[]),(.l 8 2,[]),(.N 9 8,[]),(.f 10 24 9,[]),(.l 11 10,[]),(.z 12 (.w 69 [.t 7,.t 11,.c (.u 0)]),[])]) (.draw [(.l 13 2,[]),(.N 14 13,[]),(.f 15 0 14,[]),(.l 16 15,[]),(.l 17 2,[]),(.N 18 17,[]),(.f 19 10 18,[]),(.f 20 2 19,[]),(.l 21 20,[]),(.z 22 (.mkFunc 180 [] [.t 2,.t 3]),[]),(.V 23 73 16 21 22,[])])))
def r_montgomery_product_less:Nm Tryz.prog 138=some ⟨24,z4o.r,[]⟩:=Aa
def z42:LC:=(.seq (.draw [(.l 4 1,[]),(.N 5 4,[]),(.f 6 0 5,[]),(.l 7 6,[]),(.l 8 1,[]),(.N 9 8,[]),(.f 10 23 9,[]),(.l 11 10,[]),(.l 12 1,[]),(.N 13 12,[]),(.f 14 13 13,[]),(.L 15 3 14,[]),(.m 16 0,[]),(.z 17 (.w 70 [.t 7,.t 11,.t 15,.t 16,.k 0]),[])]) (.seq (.draw [(.l 18 1,[]),(.N 19 18,[]),(.f 20 0 19,[]),(.l 21 20,[]),(.l 22 1,[]),(.N 23 22,[]),(.f 24 20 23,[]),(.l 25 24,[]),(.l 26 1,[]),(.N 27 26,[]),(.f 28 10 27,[]),(.L 29 3 28,[]),(.m 30 0,[]),(.z 31 (.w 70 [.t 21,.t 25,.t 29,.t 30,.k 0]),[])]) (.seq (.draw [(.l 32 1,[]),(.N 33 32,[]),(.f 34 0 33,[]),(.l 35 34,[]),(.l 36 1,[]),(.N 37 36,[]),(.f 38 22 37,[]),(.l 39 38,[]),(.l 40 1,[]),(.N 41 40,[]),(.f 42 24 41,[]),(.l 43 42,[]),(.l 44 1,[]),(.N 45 44,[]),(.f 46 23 45,[]),(.l 47 46,[]),(.l 48 1,[]),(.N 49 48,[]),(.f 50 20 49,[]),(.l 51 50,[]),(.l 52 1,[]),(.N 53 52,[]),(.f 54 24 53,[]),(.l 55 54,[]),(.z 56 (.w 104 [.t 35,.k 12,.t 39,.t 43,.t 47,.t 51,.t 55]),[])]) (.ops [.l 57 2,.m 58 0,.z 59 (.callV (.t 57) [.t 58])]))))
def r_montgomery_product_less_1:Nm Tryz.prog 180=some ⟨60,z42.r,[]⟩:=Aa
def z4p:LC:=(.q [.x 1 0] (.q [.l 2 1,.z 3 (.w 138 [.t 2,(.c (.fn (.func 139) [] []))])] (.seq (.draw [(.l 4 1,[]),(.N 5 4,[]),(.f 6 0 5,[]),(.l 7 6,[]),(.l 8 1,[]),(.N 9 8,[]),(.f 10 23 9,[]),(.l 11 10,[]),(.l 12 1,[]),(.N 13 12,[]),(.f 14 13 13,[]),(.L 15 3 14,[]),(.l 16 1,[]),(.N 17 16,[]),(.f 18 10 17,[]),(.f 19 2 18,[]),(.l 20 19,[]),(.z 21 (.w 70 [.t 7,.t 11,.t 15,.k (-1),.t 20]),[])]) (.seq (.draw [(.l 22 1,[]),(.N 23 22,[]),(.f 24 0 23,[]),(.l 25 24,[]),(.l 26 1,[]),(.N 27 26,[]),(.f 28 22 27,[]),(.l 29 28,[]),(.l 30 1,[]),(.N 31 30,[]),(.f 32 26 31,[]),(.l 33 32,[]),(.l 34 1,[]),(.N 35 34,[]),(.f 36 23 35,[]),(.l 37 36,[]),(.l 38 1,[]),(.N 39 38,[]),(.f 40 16 39,[]),(.l 41 40,[]),(.l 42 1,[]),(.N 43 42,[]),(.f 44 24 43,[]),(.l 45 44,[]),(.z 46 (.w 104 [.t 25,.k 12,.t 29,.t 33,.t 37,.t 41,.t 45]),[])]) (.ops [.l 47 1,.z 48 (.mkFunc 140 [] [.t 1]),.W 49 138 47 48])))))
def r_montgomery_product_last:Nm Tryz.prog 77=some ⟨50,z4p.r,[]⟩:=Aa
def z43:LC:=.skip
def r_montgomery_product_last_1:Nm Tryz.prog 139=some ⟨2,z43.r,[]⟩:=Aa
def z41:LC:=(.seq (.draw [(.l 3 1,[]),(.N 4 3,[]),(.f 5 0 4,[]),(.l 6 5,[]),(.l 7 1,[]),(.N 8 7,[]),(.f 9 22 8,[]),(.l 10 9,[]),(.l 11 1,[]),(.N 12 11,[]),(.f 13 26 12,[]),(.l 14 13,[]),(.l 15 1,[]),(.N 16 15,[]),(.f 17 23 16,[]),(.l 18 17,[]),(.l 19 1,[]),(.N 20 19,[]),(.f 21 22 20,[]),(.l 22 21,[]),(.z 23 (.w 113 [.t 6,.t 10,.t 14,.t 18,.t 22]),[])]) (.draw [(.l 24 1,[]),(.N 25 24,[]),(.f 26 0 25,[]),(.l 27 26,[]),(.l 28 1,[]),(.N 29 28,[]),(.f 30 1 29,[]),(.L 31 3 30,[]),(.m 32 0,[]),(.l 33 1,[]),(.N 34 33,[]),(.f 35 22 34,[]),(.l 36 35,[]),(.z 37 (.w 109 [.t 27,.t 31,.t 32,.k 0,.t 36]),[])]))
def r_montgomery_product_last_2:Nm Tryz.prog 140=some ⟨38,z41.r,[]⟩:=Aa
def z2a:LC:=(.q [.x 7 0,.x 8 1,.x 9 2,.x 10 3,.x 11 4,.e 14] (.q [.f 19 2 10,.l 20 19,.m 15 20] (.seq (.seq (.draw [(.m 21 15,[]),(.b 22 .lss 3 21 1,[]),(.m 23 22,[]),(.nf 24 23 2 7,[]),(.nl 25 23 24,[]),(.mn 26 23 15,[]),(.n 27 23 (.bin .neq false 3 (.t 25) (.t 26)),[]),(.p 28 23 27,[]),(.m 29 28,[]),(.nf 30 29 2 8,[]),(.nl 31 29 30,[]),(.mn 32 29 15,[]),(.n 33 29 (.bin .neq false 3 (.t 31) (.t 32)),[]),(.p 34 29 33,[]),(.m 35 34,[]),(.nf 36 35 2 9,[]),(.nl 37 35 36,[]),(.mn 38 35 15,[]),(.n 39 35 (.bin .neq false 3 (.t 37) (.t 38)),[]),(.p 40 35 39,[]),(.m 41 40,[]),(.nf 42 41 2 11,[]),(.nl 43 41 42,[]),(.mn 44 41 15,[]),(.n 45 41 (.w 21 [.t 44]),[(.nl 43 41 42,false)]),(.n 46 41 (.bin .lss false 3 (.t 43) (.t 45)),[]),(.p 47 41 46,[]),(.m 48 47,[]),(.mn 49 48 5,[]),(.mn 50 48 6,[]),(.n 51 48 (.w 67 [.t 49,.t 50]),[]),(.n 52 48 (.un .not (.t 51)),[]),(.p 53 48 52,[])]) (.cond (.t 53) (.q [.e 14] .ret) .skip)) (.seq (.draw [(.m 54 5,[]),(.z 55 (.build [.nilSl,(.i 0)] [(1,1,.t 54)]),[]),(.x 56 55,[]),(.L 57 3 7,[]),(.L 58 3 8,[]),(.L 59 3 9,[]),(.L 60 3 10,[]),(.L 61 3 11,[]),(.m 62 15,[]),(.z 16 (.alloc [.nilPtr]),[(.L 61 3 11,false),(.L 60 3 10,false),(.L 59 3 9,false),(.L 58 3 8,false),(.L 57 3 7,false),(.x 56 55,true)]),(.w 63 21 62,[(.z 16 (.alloc [.nilPtr]),true),(.L 61 3 11,false),(.L 60 3 10,false),(.L 59 3 9,false),(.L 58 3 8,false),(.L 57 3 7,false),(.x 56 55,true)]),(.z 64 (.w 68 [.t 61,.k 0,.t 63]),[(.z 16 (.alloc [.nilPtr]),true),(.L 60 3 10,false),(.L 59 3 9,false),(.L 58 3 8,false),(.L 57 3 7,false),(.x 56 55,true)]),(.z 65 (.build [.nilPtr,(.i 0),(.i 0),(.i 0),(.i 0),(.i 0),(.i 0),(.i 0),(.i 0),(.i 0),(.i 0),(.i 0),(.i 0),(.i 0),(.i 0),(.i 0),(.i 0),(.i 0),(.i 0),(.i 0),(.i 0),(.i 0),(.i 0),(.i 0),(.i 0),(.i 0),(.i 0)] [(0,1,.t 56),(1,3,.t 57),(4,3,.t 58),(7,3,.t 59),(10,3,.t 60),(13,3,.t 64)]),[]),(.x 66 65,[(.z 16 (.alloc [.nilPtr]),true),(.L 60 3 10,false),(.L 59 3 9,false),(.L 58 3 8,false),(.L 57 3 7,false),(.x 56 55,true)]),(.S 1 16 66,[])]) (.seq (.seq (.draw [(.l 67 16,[]),(.N 68 67,[]),(.f 69 16 68,[]),(.l 70 16,[]),(.N 71 70,[]),(.f 72 17 71,[]),(.l 73 16,[]),(.N 74 73,[]),(.f 75 18 74,[]),(.l 76 16,[]),(.N 77 76,[]),(.f 78 19 77,[]),(.l 79 16,[]),(.N 80 79,[]),(.f 81 20 80,[]),(.l 82 16,[]),(.N 83 82,[]),(.f 84 21 83,[]),(.l 85 16,[]),(.N 86 85,[]),(.f 87 22 86,[]),(.l 88 16,[]),(.N 89 88,[]),(.f 90 23 89,[]),(.l 91 16,[]),(.N 92 91,[]),(.f 93 24 92,[]),(.l 94 16,[]),(.N 95 94,[]),(.f 96 25 95,[]),(.l 97 16,[]),(.N 98 97,[]),(.f 99 26 98,[]),(.z 100 (.buildSl 1 11 [.nilPtr,.nilPtr,.nilPtr,.nilPtr,.nilPtr,.nilPtr,.nilPtr,.nilPtr,.nilPtr,.nilPtr,.nilPtr] [(0,1,.t 69),(1,1,.t 72),(2,1,.t 75),(3,1,.t 78),(4,1,.t 81),(5,1,.t 84),(6,1,.t 87),(7,1,.t 90),(8,1,.t 93),(9,1,.t 96),(10,1,.t 99)]),[(.l 97 16,false),(.l 94 16,false),(.l 91 16,false),(.l 88 16,false),(.l 85 16,false),(.l 82 16,false),(.l 79 16,false),(.l 76 16,false),(.l 73 16,false),(.l 70 16,false),(.l 67 16,false)]),(.s 101 100,[]),(.K 102 0,[])]) (.block 0 (.loop (.q [.c 103 .lss 3 102 101] (.seq (.cond (.t 103) .skip (.exit 0)) (.seq (.block 1 (.q [.m 104 102,.I 105 1 100 102,.l 106 105,.m 17 104,.m 18 106] (.ops [.m 107 18,.m 108 6,.m 109 17,.c 110 .add 3 108 109,.N 111 107,.S 1 111 110]))) (.ops [.b 112 .add 3 102 1,.m 102 112]))))))) (.seq (.draw [(.l 113 16,[]),(.N 114 113,[]),(.f 115 0 114,[]),(.l 116 115,[]),(.l 117 16,[]),(.N 118 117,[]),(.f 119 16 118,[]),(.l 120 119,[]),(.z 121 (.w 69 [.t 116,.t 120,.c (.u 0)]),[])]) (.seq (.draw [(.l 122 16,[]),(.N 123 122,[]),(.f 124 0 123,[]),(.l 125 124,[]),(.l 126 16,[]),(.N 127 126,[]),(.f 128 26 127,[]),(.l 129 128,[]),(.L 130 3 10,[]),(.z 131 (.w 70 [.t 125,.t 129,.t 130,.k (-1),.k 0]),[])]) (.seq (.draw [(.l 132 16,[]),(.N 133 132,[]),(.f 134 0 133,[]),(.l 135 134,[]),(.l 136 16,[]),(.N 137 136,[]),(.f 138 26 137,[]),(.l 139 138,[]),(.l 140 16,[]),(.N 141 140,[]),(.f 142 17 141,[]),(.l 143 142,[]),(.V 144 71 135 139 143,[])]) (.seq (.draw [(.l 145 16,[]),(.N 146 145,[]),(.f 147 0 146,[]),(.l 148 147,[]),(.l 149 16,[]),(.N 150 149,[]),(.f 151 13 150,[]),(.L 152 3 151,[]),(.l 153 16,[]),(.N 154 153,[]),(.f 155 16 154,[]),(.l 156 155,[]),(.V 157 72 148 152 156,[])]) (.q [.l 158 16,.N 159 158,.f 160 0 159,.l 161 160,.m 162 15,.z 163 (.mkFunc 74 [] [.t 16]),.V 164 73 161 162 163] (.q [.l 165 16,.w 166 77 165] (.q [.l 167 16,.N 168 167,.f 169 0 168,.l 170 169,.N 171 170,.f 172 0 171,.l 173 172,.m 14 173] .ret))))))))))))
def r_montgomery_Into:Nm Tryz.prog 23=some ⟨174,z2a.r,[.tmp 14]⟩:=Aa
def z7v:LC:=(.q [.l 3 1,.m 4 0,.W 5 75 3 4] (.ops [.l 6 1,.w 7 76 6]))
def r_montgomery_Into_1:Nm Tryz.prog 74=some ⟨8,z7v.r,[]⟩:=Aa
def z72:LC:=(.q [.F 4] (.q [.m 5 0,.b 6 .geq 3 5 0,.m 7 6,.my 8 7 0,.y 9 7 (.bin .leq true 3 (.t 8) (.k 6)),.q 10 7 9,.m 11 10,.my 12 11 1,.y 13 11 (.bin .geq true 3 (.t 12) (.k 16)),.q 14 11 13,.m 15 14,.my 16 15 1,.y 17 15 (.bin .leq true 3 (.t 16) (.k 50)),.q 18 15 17,.m 4 18] .ret))
def r_montgomery_Allowed:Nm Tryz.prog 67=some ⟨19,z72.r,[.tmp 4]⟩:=Aa
def z91:LC:=(.q [.x 5 1,.x 6 2,.e 8,.K 9 0] (.seq (.seq (.draw [(.m 12 0,[]),(.L 13 7 5,[]),(.L 14 8 6,[]),(.m 15 3,[]),(.m 16 0,[]),(.L 17 7 5,[]),(.W 18 15 16 17,[(.L 14 8 6,false),(.L 13 7 5,false)]),(.z 19 (.w 58 [.t 12,.t 13,.t 14,.t 15,.t 18]),[]),(.z 20 (.un .not (.t 19)),[])]) (.cond (.t 20) (.q [.e 8,.K 9 2] .ret) .skip)) (.q [.m 22 0,.L 23 7 5,.L 24 8 6,.V 25 59 22 23 24,.m 21 25,.X 26 0 21,.X 27 1 21,.z 11 (.alloc [(.i 0),(.i 0),(.i 0)]),.m 10 26,.S 3 11 27] (.seq (.draw [(.f 28 1 6,[]),(.l 29 28,[]),(.f 30 1 5,[]),(.l 31 30,[]),(.I 32 3 29 31,[]),(.L 33 3 32,[]),(.f 34 1 6,[]),(.l 35 34,[]),(.f 36 3 5,[]),(.l 37 36,[]),(.I 38 3 35 37,[]),(.L 39 3 38,[]),(.f 40 1 6,[]),(.l 41 40,[]),(.f 42 4 5,[]),(.l 43 42,[]),(.I 44 3 41 43,[]),(.L 45 3 44,[]),(.f 46 1 6,[]),(.l 47 46,[]),(.f 48 5 5,[]),(.l 49 48,[]),(.I 50 3 47 49,[]),(.L 51 3 50,[]),(.L 52 3 11,[]),(.m 53 3,[]),(.m 54 10,[]),(.z 55 (.w 23 [.t 33,.t 39,.t 45,.t 51,.t 52,.t 53,.t 54]),[]),(.m 8 55,[]),(.K 9 0,[])]) .ret))))
def r_montgomery_Code:Nm Tryz.prog 18=some ⟨56,z91.r,[.tmp 8,.tmp 9]⟩:=Aa
def zei{G:M9}{K:LV→M9→Prop}{e:Nat}{ops:List Lo}{deep:Int}{f:Nat}{fst cap:List LV}{B:Fr Lo}(hd:0≤deep∧deep≤100)(h:Pd G e ops deep)(V:ops.length≤900000)(X:B.flat.length≤50000)
  (H:∀(j:M9) (g:List Lo) (E:LV→M9→Prop),Pd j e g (deep+1)→Kp e G j→g.length≤900001→(∀A,Pd A e (g++B.flat) (deep+1)→Kp e j A→E (.tup []) A)→Pm (.fn f) (fst++.i deep::cap) j E)
  (k:∀C,Pd C e (ops++(O0 deep z B).flat) deep→Kp e G C→K (.tup []) C):Pm (.fn 73) [.ptr e 0,.i z,.fn (.func f) fst cap] G K:=by
 refine zul hd h J (λD=>k G (by rw[X1,H6 D,Jm];exact h) (Kp.refl _ _)) λI j L F=>H j _ _ L F Ab λA M O=>⟨_,Ab,M,λQ T U=>k Q ?_ (F.trans (O.trans U))⟩
 rw[X1,Hx J];simpa using T
section put
variable {G : M9} {K : LV → M9 → Prop} {e P st : Nat} {ops : List Lo} {deep R : Int} {d a b n t : Pc}
def zsr{x y:Int}(j:G[P]?=some (.cells (Ug e d a b n t R) st))(g:P≠e)(h:Pd G e ops deep)(X:ops.length≤950000)(k:∀z,Pd z e (ops++N6 R x y) deep→Kp e G z→K (.tup []) z):Pm (.fn 135) [.ptr P 0,.i x,.i y] G K:=by
 refine Nn r_montgomery_product_sum Aa N ?_;unfold Ug at j;simp[z51,j];refine zkb h J λY I A=>?_
 have B:=A.cells g j;simp[B];refine zbp I Ab λZ L C=>?_
 have D:=C.cells g B;simp[D];refine zbp L Ab λG3 M E=>?_
 have F:=E.cells g D;simp[F];refine zg2 M Ab λG4 O H=>?_
 have Q:=H.cells g F;simp[Q];refine zg2 O Ab λT U V=>?_
 simp;refine k T (by simpa [N6] using U) (A.trans (C.trans (E.trans (H.trans V))))
def ay(H:-1000000≤t.at_∧t.at_≤1000000)(I:0≤n.size∧n.size≤1000000)(g:G[P]?=some (.cells (Ug e d a b n t R) st))(j:P≠e)(h:Pd G e ops deep)(L:ops.length≤900000)(k:∀z,Pd z e (ops++O3 t n.size R) deep→Kp e G z→K (.tup []) z):Pm (.fn 136) [.ptr P 0] G K:=by
 refine Nn r_montgomery_product_top Aa N ?_;unfold Ug at g;simp[z4w,g];refine dw (p:=t) J h J λM B A=>?_
 have C:=A.cells j g;simp[C];refine zbp B Ab λD E F=>?_
 simp;refine k D (by simpa [O3] using E) (A.trans F)
def zwv(ha:-1000000≤a.at_∧a.at_≤1000000)(ht:-1000000≤t.at_∧t.at_≤1000000)(I:G[g]?=some (.cells [.ptr P 0] j))(B:g≠e)(C:G[P]?=some (.cells (Ug e d a b n t R) st))(A:P≠e)(h:Pd G e ops deep)(hl:ops.length≤900001)(k:∀F,Pd F e (ops++Tl a t R z) deep→Kp e G F→K (.tup []) F):Pm (.fn 134) [.i z,.ptr g 0] G K:=by
 refine Nn r_montgomery_product_times_1 Aa N ?_;have T:=C;unfold Ug at C;simp[z3q,I,C];refine dw (p:=a) J h J λG1 U D=>?_
 have L:=D.cells B I;have V:=D.cells A T;have M:=D.cells A C;simp[L,M];refine dw (p:=t) J U Ab λG2 X E=>?_
 have O:=E.cells B L;have Y:=E.cells A V;have Q:=E.cells A M;simp[O,Q];refine zsr Y A X Ab λG3 Z H=>?_
 have z3:=H.cells B O;have p3:=H.cells A Q;simp[z3,p3];refine z6g (p:=t) J Z Eu λG4 h4 k4=>?_
 simp;refine k G4 (by simpa [Tl] using h4) (D.trans (E.trans (H.trans k4)))
def fi(hn:-1000000≤n.at_∧n.at_≤1000000)(ht:-1000000≤t.at_∧t.at_≤1000000)(I:G[g]?=some (.cells [.ptr P 0] j))(B:g≠e)(C:G[P]?=some (.cells (Ug e d a b n t R) st))(A:P≠e)(h:Pd G e ops deep)(hl:ops.length≤900001)(k:∀F,Pd F e (ops++T4 n t R z) deep→Kp e G F→K (.tup []) F):Pm (.fn 137) [.i z,.ptr g 0] G K:=by
 refine Nn r_montgomery_product_down_1 Aa N ?_;have T:=C;unfold Ug at C;simp[z47,I,C];refine dw (p:=n) J h J λG1 U D=>?_
 have L:=D.cells B I;have V:=D.cells A T;have M:=D.cells A C;simp[L,M];refine dw (p:=t) J U Ab λG2 X E=>?_
 have O:=E.cells B L;have Y:=E.cells A V;have Q:=E.cells A M;simp[O,Q];refine zsr Y A X Ab λG3 Z H=>?_
 have z3:=H.cells B O;have p3:=H.cells A Q;simp[z3,p3];refine z6g (p:=t) J Z Eu λG4 h4 k4=>?_
 simp;refine k G4 (by simpa [T4] using h4) (D.trans (E.trans (H.trans k4)))
def i4{i:Int}(hd:0≤deep∧deep≤50)(ha:-1000000≤a.at_∧a.at_≤1000000)(hb:-1000000≤b.at_∧b.at_≤1000000)(M:-1000000≤t.at_∧t.at_≤1000000)(hn:0≤n.size∧n.size≤1000000)(z:G[P]?=some (.cells (Ug e d a b n t R) st))(g:P≠e)(h:Pd G e ops deep)(hl:ops.length≤800000)
  (k:∀E,Pd E e (ops++(Sy a b t n.size R deep i).flat) deep→Kp e G E→K (.tup []) E):Pm (.fn 75) [.ptr P 0,.i i] G K:=by
 refine Nn r_montgomery_product_times Aa N ?_;have hQ:=z;unfold Ug at z;have F:=(Hv.1 z).1;have le:e<G.length:=Bj
 have z0:(G++[LObj.cells [.ptr P 0] 0])[G.length]?=some (.cells [.ptr P 0] 0):=Ir;have q0:(G++[LObj.cells [.ptr P 0] 0])[P]?=_:=(Nv F).trans hQ;have p0:(G++[LObj.cells [.ptr P 0] 0])[P]?=_:=(Nv F).trans z;have h0:=h.app [LObj.cells [.ptr P 0] 0];have k0:=Kp.app' e G [LObj.cells [.ptr P 0] 0];have j:G.length≠e:=J
 simp[z4e,↓Nv F,z];generalize G++[LObj.cells [.ptr P 0] 0]=G0 at *;generalize G.length=gz at *;refine dw (p:=b) J h0 J λG1 h1 A=>?_
 have O:=A.cells j z0;have q1:=A.cells g q0;have Q:=A.cells g p0;simp[O,Q];refine z7m h1 Ab λG2 h2 C=>?_
 have H:=C.cells j O;have T:=C.cells g q1;have U:=C.cells g Q;simp[H,U];refine zei (fst:=[]) (cap:=[.ptr gz 0]) (B:=Nh (Tl a t R deep)) J h2 Ab (by rw[flat_frL];simp[Tl,N6]) (λG3 V K' h3 X l3 Y=>?_) λG5 h5 D=>?_
 ·rw[flat_frL]at Y;exact zwv ha M (X.cells j H) j (X.cells g T) g h3 l3 Y
 have Z:=D.cells j H;have q5:=D.cells g T;have p5:=D.cells g U;simp[Z,p5];have gg:(O0 deep n.size (Nh (Tl a t R deep))).flat.length≤100:=by rw[X1];split<;>simp[flat_frL,Tl,N6]
 refine ay M hn q5 g h5 Ab λG6 h6 I=>?_
 have z6:=I.cells j Z;have p6:=I.cells g p5;simp[z6,p6];refine z6g (p:=t) J h6 (by simp[O3];omega) λG7 h7 L=>?_
 have z7:=L.cells j z6;have p7:=L.cells g p6;simp[z7,p7]
 repeat (refine⟨J,?_⟩)
 refine z6g (p:=t) J h7 (by simp[O3];omega) λG8 h8 k8=>?_
 simp;refine k G8 ?_ (k0.trans (A.trans (C.trans (D.trans (I.trans (L.trans k8))))));unfold Sy;rw[Ra,Ra,flat_frL,flat_frL];simpa using h8
end put
end
section
section put
variable {G : M9} {K : LV → M9 → Prop} {e P st : Nat} {ops : List Lo} {deep R : Int} {d a b n t : Pc}
def pt(hd:0≤deep∧deep≤50)(L:-1000000≤n.at_∧n.at_≤1000000)(ht:-1000000≤t.at_∧t.at_≤1000000)(hn:0≤n.size∧n.size≤1000000)(C:G[P]?=some (.cells (Ug e d a b n t R) st))(g:P≠e)(h:Pd G e ops deep)(hl:ops.length≤800000)
  (k:∀M,Pd M e (ops++(Th n t n.size R deep).flat) deep→Kp e G M→K (.tup []) M):Pm (.fn 76) [.ptr P 0] G K:=by
 refine Nn r_montgomery_product_down Aa N ?_;have hQ:=C;unfold Ug at C;have O:=(Hv.1 C).1;have le:e<G.length:=Bj
 have z0:(G++[LObj.cells [.ptr P 0] 0])[G.length]?=some (.cells [.ptr P 0] 0):=Ir;have q0:(G++[LObj.cells [.ptr P 0] 0])[P]?=_:=(Nv O).trans hQ;have p0:(G++[LObj.cells [.ptr P 0] 0])[P]?=_:=(Nv O).trans C;have h0:=h.app [LObj.cells [.ptr P 0] 0];have k0:=Kp.app' e G [LObj.cells [.ptr P 0] 0];have j:G.length≠e:=J
 simp[z4k,↓Nv O,C];generalize G++[LObj.cells [.ptr P 0] 0]=G0 at *;generalize G.length=gG at *;refine dw (p:=t) J h0 J λG1 h1 D=>?_
 have z1:=D.cells j z0;have q1:=D.cells g q0;have p1:=D.cells g p0;simp[z1,p1];refine zkb h1 Ab λG2 h2 E=>?_
 have z2:=E.cells j z1;have q2:=E.cells g q1;have p2:=E.cells g p1;simp[z2,p2];refine dw (p:=n) J h2 Ab λG3 h3 F=>?_
 have z3:=F.cells j z2;have q3:=F.cells g q2;have p3:=F.cells g p2;simp[z3,p3];refine z7m h3 Ab λG4 h4 H=>?_
 have z4:=H.cells j z3;have q4:=H.cells g q3;have p4:=H.cells g p3;simp[z4,p4];refine zsr q4 g h4 Ab λG5 h5 I=>?_
 have Q:=I.cells j z4;have q5:=I.cells g q4;have p5:=I.cells g p4;simp[Q,p5]
 repeat (refine⟨J,?_⟩)
 refine zei (fst:=[]) (cap:=[.ptr gG 0]) (B:=Nh (T4 n t R deep)) J h5 Eu (by rw[flat_frL];simp[T4,N6]) (λG6 gD K' T z l6 hk=>?_) λG6 T z=>?_
 ·rw[flat_frL]at hk;exact fi L ht (z.cells j Q) j (z.cells g q5) g T l6 hk
 have z6:=z.cells j Q;have q6:=z.cells g q5;have p6:=z.cells g p5;simp[z6,p6];have gE:(O0 deep (n.size-1) (Nh (T4 n t R deep))).flat.length≤100:=by rw[X1];split<;>simp[flat_frL,T4,N6]
 refine ay ht hn q6 g T Eu λG7 h7 U=>?_
 have z7:=U.cells j z6;have p7:=U.cells g p6;simp[z7,p7]
 repeat (refine⟨J,?_⟩)
 refine z6g (p:=t) J h7 Dy λG8 h8 V=>?_
 have z8:=V.cells j z7;have p8:=V.cells g p7;simp[z8,p8]
 repeat (refine⟨J,?_⟩)
 refine dw (p:=t) J h8 Dy λG9 h9 X=>?_
 have z9:=X.cells j z8;have p9:=X.cells g p8;simp[z9,p9];refine zg2 h9 Dy λgF Y A=>?_
 have Z:=A.cells j z9;have gg:=A.cells g p9;simp[Z,gg];refine z6g (p:=t) J Y Dy λgz gA gC=>?_
 simp;refine k gz ?_ (k0.trans (D.trans (E.trans (F.trans (H.trans (I.trans (z.trans (U.trans (V.trans (X.trans (A.trans gC)))))))))));unfold Th;rw[Ra,Ra,flat_frL,flat_frL];simpa using gA
def eu{y f:Nat}{cap:List LV}{x:List Lo}(hn:-1000000≤n.at_∧n.at_≤1000000)(ht:-1000000≤t.at_∧t.at_≤1000000)(U:G[g]?=some (.cells [.ptr P 0] j))(D:g≠e)(Z:G[y]?=some (.cells [.fn (.func f) [] cap] A))(C:y≠e)(O:G[P]?=some (.cells (Ug e d a b n t R) st))(E:P≠e)(h:Pd G e ops deep)(hl:ops.length≤900001)
  (F:∀(H:M9) (B:List Lo) (V:LV→M9→Prop),Pd H e B deep→Kp e G H→B.length≤900010→(∀M,Pd M e (B++x) deep→Kp e H M→V (.tup []) M)→Pm (.fn f) (.i z::cap) H V)
  (k:∀Q,Pd Q e (ops++(Tq n t R z++x)) deep→Kp e G Q→K (.tup []) Q):Pm (.fn 180) [.i z,.ptr g 0,.ptr y 0] G K:=by
 refine Nn r_montgomery_product_less_1 Aa N ?_;unfold Ug at O;simp[z42,U,O];refine dw (p:=t) J h J λH h1 I=>?_
 have X:=I.cells D U;have y1:=I.cells C Z;have Y:=I.cells E O;simp[X,Y];refine dw (p:=n) J h1 Ab λM h2 L=>?_
 have z2:=L.cells D X;have y2:=L.cells C y1;have p2:=L.cells E Y;simp[z2,p2];refine zbp h2 Ab λG3 h3 T=>?_
 have y3:=T.cells C y2;simp[y3];refine F G3 _ _ h3 (I.trans (L.trans T)) Ab λG4 h4 k4=>?_
 simp;refine k G4 (by simpa [Tq] using h4) (I.trans (L.trans (T.trans k4)))
def zur{f:Nat}{cap:List LV}{x:List Lo}(hx:x.length≤10)(hd:0≤deep∧deep≤50)(L:-1000000≤n.at_∧n.at_≤1000000)(ht:-1000000≤t.at_∧t.at_≤1000000)(D:G[P]?=some (.cells (Ug e d a b n t R) st))(j:P≠e)(h:Pd G e ops deep)(hl:ops.length≤800000)
  (E:∀(F:M9) (g:List Lo) (M:LV→M9→Prop),Pd F e g (deep+1)→Kp e G F→g.length≤900010→(∀O,Pd O e (g++x) (deep+1)→Kp e F O→M (.tup []) O)→Pm (.fn f) (.i deep::cap) F M)
  (k:∀Q,Pd Q e (ops++(U2 n t n.size R deep x).flat) deep→Kp e G Q→K (.tup []) Q):Pm (.fn 138) [.ptr P 0,.fn (.func f) [] cap] G K:=by
 refine Nn r_montgomery_product_less Aa N ?_;have hQ:=D;unfold Ug at D;have T:=(Hv.1 D).1;have le:e<G.length:=Bj
 have z0:(G++[LObj.cells [.ptr P 0] 0,LObj.cells [.fn (.func f) [] cap] 0])[G.length]?=some (.cells [.ptr P 0] 0):=N
 have y0:(G++[LObj.cells [.ptr P 0] 0,LObj.cells [.fn (.func f) [] cap] 0])[G.length+1]?=some (.cells [.fn (.func f) [] cap] 0):=N
 have q0:(G++[LObj.cells [.ptr P 0] 0,LObj.cells [.fn (.func f) [] cap] 0])[P]?=_:=(Nv T).trans hQ;have p0:(G++[LObj.cells [.ptr P 0] 0,LObj.cells [.fn (.func f) [] cap] 0])[P]?=_:=(Nv T).trans D;have h0:=h.app [LObj.cells [.ptr P 0] 0,LObj.cells [.fn (.func f) [] cap] 0];have V:=Kp.app' e G [LObj.cells [.ptr P 0] 0,LObj.cells [.fn (.func f) [] cap] 0];have z:G.length≠e:=J
 have A:G.length+1≠e:=J
 simp[z4o,↓Nv T,D];generalize G++[LObj.cells [.ptr P 0] 0,LObj.cells [.fn (.func f) [] cap] 0]=G0 at *;generalize G.length+1=y at *;generalize G.length=gg at *;refine z7m h0 J λF h1 C=>?_
 have X:=C.cells z z0;have y1:=C.cells A y0;have q1:=C.cells j q0;have p1:=C.cells j p0;simp[X,p1];refine zei (fst:=[]) (cap:=[.ptr gg 0,.ptr y 0]) (B:=Nh (Tq n t R deep++x)) J h1 Ab (by rw[flat_frL];simp[Tq];omega) (λG3 Y M h3 I l3 Z=>?_) λG5 h5 k5=>?_
 ·rw[flat_frL]at Z;exact eu L ht (I.cells z X) z (I.cells A y1) A (I.cells j q1) j h3 l3 (λG4 H K4 h4 k4 l4 U=>E G4 H K4 h4 (V.trans (C.trans (I.trans k4))) l4 U) Z
 simp;refine k G5 ?_ (V.trans (C.trans k5));unfold U2;rw[Ra,flat_frL];simpa using h5
def pq(hd:0≤deep∧deep≤50)(gz:-1000000≤d.at_∧d.at_≤1000000)(z:-1000000≤n.at_∧n.at_≤1000000)(Q:-1000000≤t.at_∧t.at_≤1000000)(hn:0≤n.size∧n.size≤1000000)(A:G[P]?=some (.cells (Ug e d a b n t R) st))(g:P≠e)(h:Pd G e ops deep)(hl:ops.length≤700000)
  (k:∀F,Pd F e (ops++(Xb d n t n.size R deep).flat) deep→Kp e G F→K (.tup []) F):Pm (.fn 77) [.ptr P 0] G K:=by
 refine Nn r_montgomery_product_last Aa N ?_;have hQ:=A;unfold Ug at A;have H:=(Hv.1 A).1;have le:e<G.length:=Bj
 have z0:(G++[LObj.cells [.ptr P 0] 0])[G.length]?=some (.cells [.ptr P 0] 0):=Ir;have T:(G++[LObj.cells [.ptr P 0] 0])[P]?=_:=(Nv H).trans hQ;have p0:(G++[LObj.cells [.ptr P 0] 0])[P]?=_:=(Nv H).trans A;have h0:=h.app [LObj.cells [.ptr P 0] 0];have k0:=Kp.app' e G [LObj.cells [.ptr P 0] 0];have j:G.length≠e:=J
 simp[z4p,↓Nv H,A];generalize G++[LObj.cells [.ptr P 0] 0]=G0 at *;generalize G.length=gA at *;have hL:∀x:List Lo,x.length≤10→(U2 n t n.size R deep x).flat.length≤100:=λx hx=>by
  unfold U2;rw[Ra,flat_frL,X1];split<;>simp[flat_frL,Tq];omega
 refine zur (x:=[]) N hd z Q T g h0 J (λU V K' I B l1 L=>?_) λU I B=>?_
 ·refine Nn r_montgomery_product_last_1 Aa N ?_;simp[z43];exact L U Dm (Kp.refl _ _)
 have X:=B.cells j z0;have q1:=B.cells g T;have Y:=B.cells g p0;have l1:=hL [] N;simp[X,Y];refine dw (p:=t) J I Ab λG2 h2 C=>?_
 have Z:=C.cells j X;have q2:=C.cells g q1;have p2:=C.cells g Y;simp[Z,p2];refine zbp h2 Ab λG3 h3 D=>?_
 have z3:=D.cells j Z;have q3:=D.cells g q2;have p3:=D.cells g p2;simp[z3,p3];refine zur (x:=[Og (R+6) (R+10) (R+7) (R+6),Nq d deep 0 (R+6)]) N hd z Q q3 g h3 Ab (λG4 gg K' M E l4 L=>?_) λG4 M E=>?_
 ·refine Nn r_montgomery_product_last_2 Aa N ?_;have z4:=E.cells j z3;have p4:=E.cells g p3;simp[z41,z4,p4];refine zy M J λG5 h5 O=>?_
  have z5:=O.cells j z4;have p5:=O.cells g p4;simp[z5,p5];refine z6g (p:=d) J h5 Ab λG6 h6 k6=>?_
  simp;exact L G6 (by simpa using h6) (O.trans k6)
 simp;refine k G4 ?_ (k0.trans (B.trans (C.trans (D.trans E))));unfold Xb;rw[Ra,Ra,flat_frL];simpa using M
end put
end
section
def lz(k:Int):Int:=if k<1 then 0 else k+2
def zmc(deep g:Int):Bool:=decide (0≤deep)&&(decide (deep≤6)&&(decide (16≤g)&&decide (g≤50)))
def z7o{G:M9}{K:LV→M9→Prop}{n:Int}(j:n≤1000000000)(k:K (.i (lz n)) G):Pm (.fn 21) [.i n] G K:=by
 refine Nn r_montgomery_Need k_montgomery_Need N ?_;unfold lz at k;by_cases g:n<1
 ·rw[H6 g]at k;simpa [z34,g] using k
 ·rw[Hx g]at k;simp[z34,g];exact⟨J,k⟩
def zb9{G:M9}{K:LV→M9→Prop}{a b:Int}(k:K (.bool (zmc a b)) G):Pm (.fn 67) [.i a,.i b] G K:=by
 refine Nn r_montgomery_Allowed Aa N ?_;unfold zmc at k;by_cases g:0≤a<;>by_cases j:a≤6<;>by_cases z:16≤b<;>by_cases A:b≤50<;>simpa [z72,g,j,z,A] using k
def zlg{G:M9}{K:LV→M9→Prop}{p:Pc}(h:-1000000000≤p.at_+z∧p.at_+z≤1000000000)(k:K (.agg (Pc.f ⟨p.buf,p.at_+z,B⟩)) (G++[LObj.cells p.f 0,LObj.cells [.i p.buf,.i (p.at_+z),.i B] 1])):Pm (.fn 68) [.agg p.f,.i z,.i B] G K:=by
 refine Nn r_expand_Part Aa N ?_;simp[zfd,Pc.f];exact⟨J,by simpa [Pc.f] using k⟩
def l7{G:M9}{K:LV→M9→Prop}{e:Nat}{ops:List Lo}{deep:Int}{f:Nat}{fst cap:List LV}{B:Fr Lo}(hd:0≤deep∧deep≤100)(h:Pd G e ops deep)(V:ops.length≤900000)(X:B.flat.length≤50000)
  (H:∀(j:M9) (g:List Lo) (E:LV→M9→Prop),Pd j e g (deep+1)→Kp e G j→g.length≤ops.length+1→(∀A,Pd A e (g++B.flat) (deep+1)→Kp e j A→E (.tup []) A)→Pm (.fn f) (fst++.i deep::cap) j E)
  (k:∀C,Pd C e (ops++(O0 deep z B).flat) deep→Kp e G C→K (.tup []) C):Pm (.fn 73) [.ptr e 0,.i z,.fn (.func f) fst cap] G K:=by
 refine zul hd h J (λD=>k G (by rw[X1,H6 D,Jm];exact h) (Kp.refl _ _)) λI j L F=>H j _ _ L F N λA M O=>⟨_,Ab,M,λQ T U=>k Q ?_ (F.trans (O.trans U))⟩
 rw[X1,Hx J];simpa using T
section put
variable {G : M9} {K : LV → M9 → Prop} {e P st : Nat} {ops : List Lo} {deep R : Int} {d a b n t : Pc}
def qr{p:Pc}{x:Int}(hd:0≤deep∧deep≤50)(hp:-1000000≤p.at_∧p.at_≤1000000)(h:Pd G e ops deep)(hl:ops.length≤800000)
  (k:∀g,Pd g e (ops++(Tt p x deep).flat) deep→Kp e G g→K (.tup []) g):Pm (.fn 72) [.ptr e 0,.agg p.f,.i x] G K:=by
 refine Nn r_expand_Emit_Fill Aa N ?_;have le:e<G.length:=Bj
 have D:(G++[LObj.cells [.ptr e 0] 0,LObj.cells p.f 0,LObj.cells [.i x] 0])[G.length]?=some (.cells [.ptr e 0] 0):=N
 have E:(G++[LObj.cells [.ptr e 0] 0,LObj.cells p.f 0,LObj.cells [.i x] 0])[G.length+1]?=some (.cells p.f 0):=N
 have F:(G++[LObj.cells [.ptr e 0] 0,LObj.cells p.f 0,LObj.cells [.i x] 0])[G.length+2]?=some (.cells [.i x] 0):=N
 have H:=h.app [LObj.cells [.ptr e 0] 0,LObj.cells p.f 0,LObj.cells [.i x] 0];have I:=Kp.app' e G [LObj.cells [.ptr e 0] 0,LObj.cells p.f 0,LObj.cells [.i x] 0];have j:G.length≠e:=J
 have z:G.length+1≠e:=J
 have A:G.length+2≠e:=J
 unfold Pc.f at E F D H I;simp[z89,Pc.f];generalize G++[LObj.cells [.ptr e 0] 0,LObj.cells [.i p.buf,.i p.at_,.i p.size] 0,LObj.cells [.i x] 0]=G0 at *;generalize G.length+2=w at *;generalize G.length+1=y at *;generalize G.length=gg at *;refine zei (fst:=[]) (cap:=[.ptr gg 0,.ptr y 0,.ptr w 0]) (B:=Nh [Nq p deep 0 x]) J H J (by rw[flat_frL];simp) (λG3 L K' O C l3 M=>?_) λQ T U=>?_
 ·rw[flat_frL]at M;refine Nn r_expand_Emit_Fill_1 Aa N ?_;have V:=C.cells j D;have X:=C.cells z E;have Y:=C.cells A F;simp[z73,V,X,Y];refine z6g (p:=p) J O J λZ h4 k4=>?_
  simp;exact M Z h4 k4
 simp;exact k Q T (I.trans U)
def f8{i:Int}(hd:0≤deep∧deep≤50)(L:-1000000≤a.at_∧a.at_≤1000000)(M:-1000000≤b.at_∧b.at_≤1000000)(A:-1000000≤n.at_∧n.at_≤1000000)(E:-1000000≤t.at_∧t.at_≤1000000)(F:0≤n.size∧n.size≤1000000)(H:G[g]?=some (.cells [.ptr P 0] j))(B:g≠e)(I:G[P]?=some (.cells (Ug e d a b n t R) st))(z:P≠e)(h:Pd G e ops deep)(Y:ops.length≤700000)
  (k:∀C,Pd C e (ops++((Sy a b t n.size R deep i).cat (Th n t n.size R deep)).flat) deep→Kp e G C→K (.tup []) C):Pm (.fn 74) [.i i,.ptr g 0] G K:=by
 refine Nn r_montgomery_Into_1 Aa N ?_;simp[z7v,H];have Z:(Sy a b t n.size R deep i).flat.length≤100:=by
  unfold Sy;rw[Ra,Ra,flat_frL,X1];split<;>simp[flat_frL,Tl,N6,O3]
 refine i4 hd L M E F I z h J λG1 O D=>?_
 have Q:=D.cells B H;have T:=D.cells z I;simp[Q];refine pt hd A E F T z O Ab λU V X=>?_
 simp;refine k U ?_ (D.trans X);rw[Ra];simpa using V
end put
def m7(d a b n w:Pc)(deep R:Int):Bool:=decide (1≤n.size)&&(decide (d.size=n.size)&&(decide (a.size=n.size)&&(decide (b.size=n.size)&&(decide (lz n.size≤w.size)&&zmc deep R))))
def zpp(d a b n w:Pc)(deep R:Int):List Lo:=if m7 d a b n w deep R=true then (Vw d a b n ⟨w.buf,w.at_,lz n.size⟩ n.size R deep).flat else []
def Vd(d a b n w:Pc)(deep R:Int)(i st:Nat):M9 :=
 [.cells [.i d.buf,.i d.at_,.i n.size] 0,.cells [.i a.buf,.i a.at_,.i n.size] 0,.cells [.i b.buf,.i b.at_,.i n.size] 0,.cells [.i n.buf,.i n.at_,.i n.size] 0,.cells [.i w.buf,.i w.at_,.i w.size] 0,.cells [.nilSl,.i deep] 0,.cells [.ptr 9 0] 1,
  .cells [.i w.buf,.i w.at_,.i w.size] 0,.cells [.i w.buf,.i w.at_,.i (lz n.size)] 1,
  .cells [.ptr 5 0,.i d.buf,.i d.at_,.i n.size,.i a.buf,.i a.at_,.i n.size,.i b.buf,.i b.at_,.i n.size,.i n.buf,.i n.at_,.i n.size,.i w.buf,.i w.at_,.i (lz n.size),.i (if 0<i then R else 0),.i (if 1<i then R+1 else 0),.i (if 2<i then R+2 else 0),.i (if 3<i then R+3 else 0),.i (if 4<i then R+4 else 0),.i (if 5<i then R+5 else 0),.i (if 6<i then R+6 else 0),.i (if 7<i then R+7 else 0),.i (if 8<i then R+8 else 0),.i (if 9<i then R+9 else 0),.i (if 10<i then R+10 else 0)] st,
  .dyn [.ptr 9 16,.ptr 9 17,.ptr 9 18,.ptr 9 19,.ptr 9 20,.ptr 9 21,.ptr 9 22,.ptr 9 23,.ptr 9 24,.ptr 9 25,.ptr 9 26] 11 1 0 0]
def zej{d a b n w:Pc}{deep R:Int}(gg:-1000000≤d.at_∧d.at_≤1000000)(ha:-1000000≤a.at_∧a.at_≤1000000)(hb:-1000000≤b.at_∧b.at_≤1000000)(M:-1000000≤n.at_∧n.at_≤1000000)(hw:-1000000≤w.at_∧w.at_≤1000000)(hn:n.size≤1000000) :
  Oz 23 [.agg d.f,.agg a.f,.agg b.f,.agg n.f,.agg w.f,.i deep,.i R] (.lst (Qu (zpp d a b n w deep R)) (zpp d a b n w deep R).length 8):=by
 refine Sd.mk (by simp[LV.dat,Ud]) (Nn r_montgomery_Into Aa (by simp) ?_);have F:m7 d a b n w deep R=false→zpp d a b n w deep R=[]:=λh=>by unfold zpp;rw[h];simp
 by_cases O:n.size<1
 ·rw[F Dd];simp[z2a,Pc.f,O,Qu]
 by_cases L:d.size=n.size
 rotate_left
 ·rw[F Dd];simp[z2a,Pc.f,O,L,Qu]
 by_cases Q:a.size=n.size
 rotate_left
 ·rw[F Dd];simp[z2a,Pc.f,O,L,Q,Qu]
 by_cases X:b.size=n.size
 rotate_left
 ·rw[F Dd];simp[z2a,Pc.f,O,L,Q,X,Qu]
 simp[z2a,Pc.f,O,L,Q,X];refine z7o J ?_;by_cases g5:w.size<lz n.size
 ·rw[F Dd];simp[g5,Qu]
 simp[g5];refine zb9 ?_;by_cases T:zmc deep R=true
 rotate_left
 ·rw[F (by simp[m7,T])];simp[T,Qu]
 simp[T];refine z7o J ?_;simp;refine zlg (p:=w) J ?_;simp[Pc.f];have hR:16≤R∧R≤50∧0≤deep∧deep≤6:=by simp[zmc]at T;omega
 refine O8 (λZ gH G' N=>∃i st:Nat,gH=[]∧N+i=11∧lk Z 6=.i R∧lk Z 10=.ptr 3 0∧lk Z 15=.i n.size∧lk Z 16=.ptr 6 0∧lk Z 100=.dy 10 0∧lk Z 101=.i 11∧lk Z 102=.i i∧G'=Vd d a b n w deep R i st) (N:=11)
  ⟨0,0,rfl,J,by simp,by simp,by simp,by simp,by simp,by simp,by simp,B6⟩ ?_
 rintro N Z gH G5 ⟨i,st,rfl,hN,E,z,A,C,g,j,H,rfl⟩ Nx D;by_cases gI:i<11
 ·have hi:i=0∨i=1∨i=2∨i=3∨i=4∨i=5∨i=6∨i=7∨i=8∨i=9∨i=10:=J
  rcases hi with rfl|rfl|rfl|rfl|rfl|rfl|rfl|rfl|rfl|rfl|rfl
  all_goals simp[E,z,A,C,g,j,H,Vd]
  ·try (refine⟨J,?_⟩)
   exact D _ _ _ ⟨N-1,J,1,st+1,rfl,J,Af,Ae,At,Al,Av,Ah,by simp,B6⟩
  ·try (refine⟨J,?_⟩)
   exact D _ _ _ ⟨N-1,J,2,st+1,rfl,J,Af,Ae,At,Al,Av,Ah,by simp,B6⟩
  ·try (refine⟨J,?_⟩)
   exact D _ _ _ ⟨N-1,J,3,st+1,rfl,J,Af,Ae,At,Al,Av,Ah,by simp,B6⟩
  ·try (refine⟨J,?_⟩)
   exact D _ _ _ ⟨N-1,J,4,st+1,rfl,J,Af,Ae,At,Al,Av,Ah,by simp,B6⟩
  ·try (refine⟨J,?_⟩)
   exact D _ _ _ ⟨N-1,J,5,st+1,rfl,J,Af,Ae,At,Al,Av,Ah,by simp,B6⟩
  ·try (refine⟨J,?_⟩)
   exact D _ _ _ ⟨N-1,J,6,st+1,rfl,J,Af,Ae,At,Al,Av,Ah,by simp,B6⟩
  ·try (refine⟨J,?_⟩)
   exact D _ _ _ ⟨N-1,J,7,st+1,rfl,J,Af,Ae,At,Al,Av,Ah,by simp,B6⟩
  ·try (refine⟨J,?_⟩)
   exact D _ _ _ ⟨N-1,J,8,st+1,rfl,J,Af,Ae,At,Al,Av,Ah,by simp,B6⟩
  ·try (refine⟨J,?_⟩)
   exact D _ _ _ ⟨N-1,J,9,st+1,rfl,J,Af,Ae,At,Al,Av,Ah,by simp,B6⟩
  ·try (refine⟨J,?_⟩)
   exact D _ _ _ ⟨N-1,J,10,st+1,rfl,J,Af,Ae,At,Al,Av,Ah,by simp,B6⟩
  ·try (refine⟨J,?_⟩)
   exact D _ _ _ ⟨N-1,J,11,st+1,rfl,J,Af,Ae,At,Al,Av,Ah,by simp,B6⟩
 ·have hi:i=11:=J
  subst hi;have q0:(Vd d a b n w deep R 11 st)[9]?=some (.cells (Ug 5 d a b n ⟨w.buf,w.at_,lz n.size⟩ R) st):=by simp[Vd,Ug,L,Q,X]
  have e0:Pd (Vd d a b n w deep R 11 st) 5 [] deep:=⟨0,.nilSl,rfl,Qf.nil⟩;have z0:(Vd d a b n w deep R 11 st)[6]?=some (.cells [.ptr 9 0] 1):=rfl;have n0:(Vd d a b n w deep R 11 st)[3]?=some (.cells [.i n.buf,.i n.at_,.i n.size] 0):=rfl;generalize Vd d a b n w deep R 11 st=G0 at *;generalize ht:(⟨w.buf,w.at_,lz n.size⟩:Pc)=t at *;have I:-1000000≤t.at_∧t.at_≤1000000:=by rw[←ht];exact hw
  have U:0≤n.size∧n.size≤1000000:=J
  have p0:=q0;unfold Ug at p0;simp[E,z,A,C,g,j,H,z0,p0];refine z7m e0 (by simp) λG1 h1 Y=>?_
  have z1:=Y.cells Ad z0;have n1:=Y.cells Ad n0;have q1:=Y.cells Ad q0;have p1:=Y.cells Ad p0;simp[E,z,A,C,z1,p1,n1];refine dw (p:=n) J h1 (by simp) λG2 h2 k2=>?_
  have z2:=k2.cells Ad z1;have q2:=k2.cells Ad q1;have p2:=k2.cells Ad p1;simp[E,z,A,C,z2,p2];refine zxl J h2 (by simp) λG3 h3 k3=>?_
  have z3:=k3.cells Ad z2;have q3:=k3.cells Ad q2;have p3:=k3.cells Ad p2;simp[E,z,A,C,z3,p3];have gA:(Um (R+10) (R+1)).length≤100:=by rw[Um];simp[je,zin]
  refine qr (p:=t) J I h3 Ab λG4 h4 k4=>?_
  have z4:=k4.cells Ad z3;have q4:=k4.cells Ad q3;have p4:=k4.cells Ad p3;have gC:(Tt t R deep).flat.length≤100:=by unfold Tt;rw[X1];split<;>simp[flat_frL]
  simp[E,z,A,C,z4,p4];have gD:(Sy a b t n.size R (deep+1) deep).flat.length≤100:=by
   unfold Sy;rw[Ra,Ra,flat_frL,X1];split<;>simp[flat_frL,Tl,N6,O3]
  have gE:(Th n t n.size R (deep+1)).flat.length≤100:=by
   unfold Th;rw[Ra,Ra,flat_frL,X1];split<;>simp[flat_frL,T4,N6,O3]
  refine l7 (fst:=[]) (cap:=[.ptr 6 0]) (B:=(Sy a b t n.size R (deep+1) deep).cat (Th n t n.size R (deep+1))) J h4 Ab (by rw[Ra];simp;omega) (λG5 gz K' h5 V l5 hk=>?_) λG5 h5 V=>?_
  ·exact f8 (deep:=deep+1) J ha hb M I U (V.cells Ad z4) Ad (V.cells Ad q4) Ad h5 (by simp at l5;omega) hk
  have z5:=V.cells Ad z4;have q5:=V.cells Ad q4;have gF:(O0 deep n.size ((Sy a b t n.size R (deep+1) deep).cat (Th n t n.size R (deep+1)))).flat.length≤300:=by
   rw[X1];split
   ·simp
   ·rw[Ra];simp;omega
  simp[E,z,A,C,z5];refine pq J gg M I U q5 Ad h5 Ab λG6 h6 k6=>?_
  have z6:=k6.cells Ad z5;have q6:=k6.cells Ad q5;unfold Ug at q6;have hC:zpp d a b n w deep R=[cK R 0,Nk (R+10) n (-1) 0]++Um (R+10) (R+1)++((Tt t R deep).flat++((O0 deep n.size ((Sy a b t n.size R (deep+1) deep).cat (Th n t n.size R (deep+1)))).flat++(Xb d n t n.size R deep).flat)):=by
   unfold zpp;rw[H6 (by simp[m7,L,Q,X,T];omega),ht];unfold Vw;rw[Ra,Ra,Ra,flat_frL]
  obtain⟨gG,v,e1,e2⟩:=h6;simp[-Of,E,z,A,C,z6,q6,e1];rw[hC];simpa using th e2.bor
end
def zca{g:List Pc}{z:Pc}(h:Wj vQ Z g vC z=true){i:Nat}(hi:i<vQ.length):i<g.length∧0≤(Q0 g i).at_∧(Q0 g i).at_≤65536∧1≤(Q0 g i).size∧(Q0 g i).size≤32768:=by
 simp only[Wj,Hz,Ie]at h;obtain⟨_,_,G,A,B,_⟩:=h;have j:=Jy.1 B i (Kh.2 hi);simp only[ji,Hz]at j;obtain⟨n,_,C,D,E,F,H,I⟩:=z5z j.1;have:=zcp A _ (Io (Sl C));exact⟨J,F,J,D,E⟩
def fo{o:Ko}{D:List Pc}{g:Pc}(h:Wj vQ Z D vC g=true):0≤(V7 vQ o vC g).at_∧(V7 vQ o vC g).at_≤65536:=by
 simp only[Wj,Hz,Ie]at h;obtain⟨_,_,_,A,_,B,C⟩:=h;simp only[Wy,Hz]at B C;unfold V7;split
 ·obtain⟨n,_,j,E,F,z,G,H⟩:=z5z B.1;have:=zcp A _ (Io (Sl j));exact⟨z,J⟩
 ·obtain⟨n,_,j,E,F,z,G,H⟩:=z5z C.1;have:=zcp A _ (Io (Sl j));exact⟨z,J⟩
def Wx(j:List Vr)(o:Ko)(B:List Bf)(g:List Pc)(z A:Pc)(deep:Int):List Lo :=
 if jn j o B g z A deep (Nt j o)=true then zpp (Q0 g o.d.toNat) (Q0 g o.a.toNat) (Q0 g o.b.toNat) (Q0 g o.c.toNat) (V7 j o z A) deep (wx j o) else []
def c7(g:List Vr)(o:Ko)(j:List Bf)(z:List Pc)(A B:Pc)(deep:Int):Int:=if jn g o j z A B deep (Nt g o)=true then 0 else 2
def zfa(g:List Vr)(o:Ko)(C:List Bf)(j:List Pc)(A B:Pc)(deep:Int)(hv:g.length≤1000000)(P:C.length≤9223372036854775807) :
  Oz 18 [.lst (Ob g) g.length 3,.agg o.f,.agg (Qe C j A B),.i deep] (.tup [.lst (Qu (Wx g o C j A B deep)) (Wx g o C j A B deep).length 8,.i (c7 g o C j A B deep)]):=by
 refine Sd.mk (by simp[dats,LV.dat,Ud]) (Nn r_montgomery_Code Aa N ?_);have D:o.f=[.i o.kind,.i o.d,.i o.e,.i o.a,.i o.b,.i o.c,.u o.imm]:=rfl;have z:Qe C j A B=[.lst (P7 C) C.length 3,.lst (Wo j) j.length 3,.i A.buf,.i A.at_,.i A.size,.i B.buf,.i B.at_,.i B.size]:=rfl;simp[z91,z,D];rw[←D];refine Ns (z8g g o hv) (bors_self _ (by simp[dats,LV.dat,Ro,D])) ?_;simp[z,D];rw[←D,←z];refine Ns (zky g o C j A B deep (Nt g o) hv P) (bors_self _ (by simp[dats,LV.dat,Ro,zcf,D])) ?_;unfold Wx c7;cases Q:jn g o C j A B deep (Nt g o) with
 |false =>
  simp[Qu]
 |true =>
 have E:=Q;simp only[jn,Hz,Ie]at E;obtain⟨F,hw,T,U,V⟩:=E;have hm:o.kind=12∧Sw g o=true:=by
  unfold Nt at hw;split at hw
  ·rename_i h;simpa using h
  ·omega
 obtain⟨X,G,_⟩:=zr1 (s:=29) hm.2 (by simp[P1,hm.1]);obtain⟨d,Y,hd⟩:∃d:Nat,o.d=d∧d<g.length:=by
  have h:=zt2 G Ad;obtain⟨d,e⟩:=H0 h.1;exact⟨d,e,J⟩
 obtain⟨a,Z,ha⟩:∃d:Nat,o.a=d∧d<g.length:=by
  have h:=ztu G Ad;obtain⟨d,e⟩:=H0 h.1;exact⟨d,e,J⟩
 obtain⟨b,eb,H⟩:∃d:Nat,o.b=d∧d<g.length:=by
  have h:=zsw G Ad;obtain⟨d,e⟩:=H0 h.1;exact⟨d,e,J⟩
 obtain⟨c,ec,hc⟩:∃d:Nat,o.c=d∧d<g.length:=by
  have h:=zoq G Ad;obtain⟨d,e⟩:=H0 h.1;exact⟨d,e,J⟩
 obtain⟨I,d1,d2,d3,d4⟩:=zca F hd;obtain⟨K,a1,a2,a3,a4⟩:=zca F ha;obtain⟨L,b1,b2,b3,b4⟩:=zca F H;obtain⟨M,c1,c2,c3,c4⟩:=zca F hc;obtain⟨gg,gz⟩:=fo (o:=o) F;simp[z,D];rw[←D,←z];refine Ns (zdh g o C j A B) (bors_self _ (by simp[dats,LV.dat,Ro,zcf,D])) ?_;have td:=zf4 (zpw I);have ta:=zf4 (zpw K);have tb:=zf4 (zpw L);have tc:=zf4 (zpw M);have qd:=zyn I;have qa:=zyn K;have qb:=zyn L;have qc:=zyn M;have O:=zej (d:=Q0 j d) (a:=Q0 j a) (b:=Q0 j b) (n:=Q0 j c) (w:=V7 g o A B) (deep:=deep) (R:=wx g o) J J J J J J;simp[z,D,Pc.f,Y,Z,eb,ec,I,K,L,M,td,ta,tb,tc,qd,qa,qb,qc];simp only[Pc.f]at O;refine R6 O Ca ?_;simp;exact Ud _
section
def Xm(l w:Int):Int:=if l<1∨512<l∨w<1∨6<w then 0 else (64*l+w-1)/w
def Ym(l w:Int):Int:=if l<1∨512<l∨w<1∨6<w then 0 else Xm l w*w-64*l
structure RxC (sf:Nat→Nat) (d n r:Pc) (k R:Int) (G:M9):Prop where
 d:G[0]?=some (.cells d.f (sf 0))
 n:G[1]?=some (.cells n.f (sf 1))
 k:G[3]?=some (.cells [.i k] (sf 3))
 x:G[5]?=some (.cells [.ptr 4 0] (sf 5))
 r:G[8]?=some (.cells r.f (sf 8))
 z:G[9]?=some (.cells [.i R] (sf 9))
 b:G[10]?=some (.cells [.i (R+1)] (sf 10))
 l:G[11]?=some (.cells [.i (R+2)] (sf 11))
 o:G[12]?=some (.cells [.i (R+3)] (sf 12))
 s:G[13]?=some (.cells [.i (R+4)] (sf 13))
 c:G[14]?=some (.cells [.i (R+5)] (sf 14))
 m:G[15]?=some (.cells [.i (R+6)] (sf 15))
 t:G[16]?=some (.cells [.fn (.func 102) [] [.ptr 5 0,.ptr 14 0,.ptr 3 0,.ptr 11 0,.ptr 8 0,.ptr 13 0,.ptr 1 0,.ptr 9 0]] (sf 16))
section rx
variable {sf : Nat → Nat} {d n r : Pc} {k R deep : Int} {G G' : M9} {K : LV → M9 → Prop} {ops : List Lo}
structure RxN (d n r:Pc) (k R deep:Int):Prop where
 d:-1000000≤d.at_∧d.at_≤1000000
 n:-1000000≤n.at_∧n.at_≤1000000
 r:-1000000≤r.at_∧r.at_≤1000000
 k:1≤k∧k≤1000000
 D:0≤deep∧deep≤50
def zmy{X:List Lo}(g:X.length≤10):(Xw n r k R deep X).flat.length≤30:=by
 unfold Xw;rw[Ra,Ra,flat_frL,flat_frL,X1];split<;>simp[flat_frL,Y7];omega
def c6{p:Pc}{n l o b D:Int}:(jb p n l o b D).flat.length≤10:=by
 unfold jb;rw[X1];split<;>simp[flat_frL]
def rxRound_len:(zea n r k R deep).flat.length≤100:=by
 have g:=zmy (n:=n) (r:=r) (k:=k) (R:=R) (deep:=deep) (X:=[]) N;have j:=zmy (n:=n) (r:=r) (k:=k) (R:=R) (deep:=deep) (X:=[Og (R+4) (R+6) (R+2) (R+4),Nq r deep 0 (R+4)]) N;have z:=c6 (p:=r) (n:=k+1) (l:=R+2) (o:=R+3) (b:=R+1) (D:=deep);unfold zea;simp only[Ra,flat_frL,Ia,Ih,Iv];omega
end rx
def zy8{d n r:Pc}{k bits R:Int}:(dc d n r k bits R z).flat.length≤200:=by
 have g:=rxRound_len (n:=n) (r:=r) (k:=k) (R:=R) (deep:=z+1);unfold dc Tt jx;simp only[Ra,flat_frL,X1,Ia,Ih,Iv];split<;>split<;>split<;>simp[flat_frL]<;>omega
end
section
structure PwN (p:Pw):Prop where
 nk:p.n.k=p.k
 dk:p.d.k=p.k
 ak:p.a.k=p.k
 k:1≤p.k∧p.k≤512
 d:p.d.a≤1000000
 a:p.a.a≤1000000
 b:p.b.a≤1000000∧1≤p.b.k∧p.b.k≤512
 n:p.n.a≤1000000
 w:1≤p.w∧p.w≤6
 B:16≤p.B∧p.B≤40
 wa:p.wa≤100000
 ov:p.over≤63
 ti:p.times≤100000
def Yq{d t:Int}{b:Fr Lo}{m:Nat}(h:b.flat.length≤m):(O0 d t b).flat.length≤m+2:=by
 rw[X1];split
 ·simp
 ·simp;omega
def zuu{d a b n t:Pc}{k:Int}:(Vw d a b n t k z B).flat.length≤200:=by
 have j:=Yq (d:=B+1) (t:=k) (b:=Nh (Tl a t z (B+1))) (m:=8) (by simp[flat_frL,Tl,N6]);have A:=Yq (d:=B+1) (t:=k-1) (b:=Nh (T4 n t z (B+1))) (m:=8) (by simp[flat_frL,T4,N6]);have C:=Yq (d:=B) (t:=k) (b:=(Sy a b t k z (B+1) B).cat (Th n t k z (B+1))) (m:=60) (by
  unfold Sy Th;simp only[Ra,flat_frL,N6,O3,Ia,Ih,Iv];omega)
 have D:=Yq (d:=B) (t:=t.size) (b:=Nh [Nq t B 0 z]) (m:=1) Et;have E:=Yq (d:=B) (t:=k) (b:=Nh (Tq n t z B++[])) (m:=3) (by simp[flat_frL,Tq]);have F:=Yq (d:=B) (t:=k) (b:=Nh (Tq n t z B++[Og (z+6) (z+10) (z+7) (z+6),Nq d B 0 (z+6)])) (m:=5) (by simp[flat_frL,Tq]);have g:=zko (z+10) (z+1);unfold Vw Xb U2 Tt;simp only[Ra,flat_frL,Ia,Ih,Iv,g];omega
section put
variable {G : M9} {K : LV → M9 → Prop} {e P st : Nat} {ops : List Lo} {deep : Int} {p : Pw}
def zf7{p:Pw}{d a b:Pn}{D:Int}:(p.mont d a b D).flat.length≤200:=zuu
def zqu{p:Pw}{d:Pn}{bits D:Int}:(p.radix d bits D).flat.length≤200:=zy8
def zxp{p:Pw}{a b:Pn}{D:Int}:(p.copies a b D).flat.length≤4:=Yq (m:=2) Et
def zz8{p:Pw}{D:Int}:(p.fillR D).flat.length≤210:=by
 have g:=zf7 (p:=p) (d:=p.acc) (a:=p.acc) (b:=p.base) (D:=D+1);have j:=Yq (d:=D+1) (t:=p.k) (b:=Nh [Nk (p.B+3) p.acc.p (D+1) 0,Nb 3 13 12 (D+1),Nq p.tab.p 13 0 (p.B+3)]) (m:=3) Et;unfold Pw.fillR;simp only[Ra,flat_frL,Ia,Ih,Iv];omega
end put
end
section
section put
variable {G : M9} {K : LV → M9 → Prop} {e P st : Nat} {ops : List Lo} {deep : Int} {p : Pw}
def ep{p:Pw}{D:Int}:(p.shift D).flat.length≤20:=by
 have g:=c6 (p:=p.es.p) (n:=p.es.k) (l:=p.B+3) (o:=p.B+4) (b:=p.B+2) (D:=D);unfold Pw.shift;simp only[Ra,flat_frL,Ia,Ih,Iv];omega
def zl{p:Pw}{D:Int}:(p.exp D).flat.length≤20:=by
 have g:=Yq (d:=D) (t:=p.b.k) (b:=Nh (p.expB D)) (m:=5) (by rw[flat_frL];unfold Pw.expB;split<;>simp);have j:p.expE.length≤1:=by unfold Pw.expE;split<;>simp
 unfold Pw.exp;simp only[Ra,flat_frL,Ia,Ih,Iv];omega
def zyw{p:Pw}:(p.scanR z).flat.length≤20:=by
 have g:=Yq (d:=z+1) (t:=p.k) (b:=Nh (p.scanB (z+1))) (m:=5) (by simp[flat_frL,Pw.scanB]);unfold Pw.scanR;simp only[Ra,flat_frL,Ia,Ih,Iv];omega
def te{p:Pw}{D:Int}:(p.scan D).flat.length≤30:=by
 have g:=Yq (d:=D) (t:=(2^p.w:Nat)) (b:=p.scanR D) zyw;unfold Pw.scan;simp only[Ra,flat_frL,Ia,Ih,Iv];omega
def mp{p:Pw}{D:Int}:(p.runW D).flat.length≤220:=by
 have g:=zf7 (p:=p) (d:=p.acc) (a:=p.acc) (b:=p.acc) (D:=D);have j:=ep (p:=p) (D:=D);unfold Pw.runW;simp only[Ra,Ia];omega
def pg{p:Pw}{D:Int}:(p.runR D).flat.length≤500:=by
 have g:=zf7 (p:=p) (d:=p.acc) (a:=p.acc) (b:=p.cur) (D:=D);have j:=Yq (d:=D) (t:=p.w) (b:=p.runW (D+1)) mp;have z:=te (p:=p) (D:=D);unfold Pw.runR;simp only[Ra,flat_frL,Ia,Ih,Iv];omega
end put
end
section
def Sn(p:Pc):Pn:=⟨p.buf.toNat,p.at_.toNat,p.size.toNat⟩
def pwOf(j:List Vr)(o:Ko)(g:List Pc)(z A:Pc):Pw :=
 ⟨Sn (Q0 g o.d.toNat),Sn (Q0 g o.a.toNat),Sn (Q0 g o.b.toNat),Sn (Q0 g o.c.toNat),(V7 j o z A).buf.toNat,(V7 j o z A).at_.toNat,(Q0 g o.c.toNat).size.toNat,o.imm.toNat,(Xm (Q0 g o.b.toNat).size o.imm.toNat).toNat,(Ym (Q0 g o.b.toNat).size o.imm.toNat).toNat,(wx j o).toNat⟩
def zn{l:Nat}{w:Nat}(C:1≤l∧l≤512)(hw:1≤w∧w≤6):∃t v:Nat,Xm l w=t∧Ym l w=v∧t*w=64*l+v∧v≤63∧v<w∧t≤40000:=by
 have z:Xm l w=(64*(l:Int)+w-1)/w:=by unfold Xm;rw[Hx J]
 have g:Ym l w=Xm l w*w-64*l:=by unfold Ym;rw[Hx J]
 have j:0≤(64*(l:Int)+w-1)/w∧(64*(l:Int)+w-1)/w≤40000∧0≤(64*(l:Int)+w-1)/w*w-64*l∧(64*(l:Int)+w-1)/w*w-64*l<w:=by
  have A:w=1∨w=2∨w=3∨w=4∨w=5∨w=6:=J
  rcases A with rfl|rfl|rfl|rfl|rfl|rfl<;>omega
 rw[z]at g;obtain⟨t,B⟩:=H0 j.1;rw[B]at z g j;obtain⟨v,hv⟩:=H0 j.2.2.1;rw[hv]at g j;refine⟨t,v,z,g,?_,J,J,J⟩;have:((t*w:Nat):Int)=((64*l+v:Nat):Int):=by push_cast;omega
 exact_mod_cast this
def ua{p:Pw}{D:Int}:(p.code D).flat.length≤3000:=by
 have g:=zqu (p:=p) (d:=p.ent) (bits:=64*p.k) (D:=D);have j:=zqu (p:=p) (d:=p.cur) (bits:=128*p.k) (D:=D);have z:=zf7 (p:=p) (d:=p.base) (a:=p.a) (b:=p.cur) (D:=D);have A:=zxp (p:=p) (a:=p.acc) (b:=p.ent) (D:=D);have B:=Yq (d:=D) (t:=(2^p.w-1:Nat)) (b:=p.fillR D) zz8;have C:=zl (p:=p) (D:=D);have E:=Yq (d:=D) (t:=p.times) (b:=p.runR (D+1)) pg;have F:(Tt p.cur.p p.B D).flat.length≤3:=Yq (m:=1) Et;have H:=zf7 (p:=p) (d:=p.d) (a:=p.acc) (b:=p.cur) (D:=D);unfold Pw.code Pw.fill Pw.run;simp only[Ra,flat_frL,Ia,Ih,Iv];omega
section next
variable {G : M9} {K : LV → M9 → Prop}
structure CdH (L0 L1 L2 L3 L4:List LV) (PC:List LV) (s5:Nat) (x:Int) (s6:Nat) (G:M9):Prop where
 g0:G[0]?=some (.cells L0 0)
 g1:G[1]?=some (.cells L1 0)
 g2:G[2]?=some (.cells L2 1)
 g3:G[3]?=some (.cells L3 1)
 g4:G[4]?=some (.cells L4 0)
 g5:G[5]?=some (.cells PC s5)
 g6:G[6]?=some (.cells [.i x] s6)
end next
end
def z6e:LC:=(.q [.z 4 (.move (.c (.u 0)))] (.seq (.q [.m 5 1,.b 6 .geq 3 5 0,.m 7 6,.my 8 7 1,.my 9 7 0,.y 10 7 (.lenSl (.t 9)),.y 11 7 (.bin .lss false 3 (.t 8) (.t 10)),.q 12 7 11] (.cond (.t 12) (.q [.m 13 0,.m 14 1,.I 15 1 13 14,.l 16 15,.m 4 16] .ret) .skip)) (.q [.z 4 (.move (.c (.u 0)))] .ret)))
def r_ref02_limb:Nm Tryz.prog 130=some ⟨17,z6e.r,[.tmp 4]⟩:=Aa
def zh0:LC:=(.q [.e 2] (.q [.m 4 0,.s 5 4,.m 3 5] (.seq (.block 0 (.loop (.seq (.q [.m 6 3,.b 7 .gtr 3 6 0,.m 8 7,.my 9 8 0,.my 10 8 3,.y 11 8 (.bin .sub true 3 (.t 10) (.k 1)),.y 12 8 (.ixAddr 1 (.t 9) (.t 11)),.yl 13 8 12,.y 14 8 (.bin .eql true 23 (.t 13) (.c (.u 0))),.q 15 8 14] (.cond (.t 15) .skip (.exit 0))) (.block 1 (.ops [.m 16 3,.b 17 .sub 3 16 1,.m 3 17]))))) (.q [.z 18 (.buildSl 1 0 [] []),.m 19 0,.m 20 3,.z 21 (.slSl 1 (.t 19) none (some (.t 20))),.a 22 1 18 21,.m 2 22] .ret))))
def r_ref02_Trim:Nm Tryz.prog 84=some ⟨23,zh0.r,[.tmp 2]⟩:=Aa
def zdy:LC:=(.q [.z 6 (.move (.c (.u 0))),.F 7] (.q [.m 10 0,.m 11 1,.c 12 .add 23 10 11,.m 8 12] (.q [.m 13 8,.m 14 0,.c 15 .lss 23 13 14,.m 9 15] (.seq (.q [.m 16 2] (.cond (.t 16) (.q [.m 17 8,.u 18 .add 23 17 1,.m 8 18] (.ops [.m 19 9,.m 20 19,.mn 21 20 8,.n 22 20 (.bin .eql true 23 (.t 21) (.c (.u 0))),.p 23 20 22,.m 9 23])) .skip)) (.q [.m 24 8,.m 25 9,.m 6 24,.m 7 25] .ret)))))
def r_ref01_Add:Nm Tryz.prog 92=some ⟨26,zdy.r,[.tmp 6,.tmp 7]⟩:=Aa
def z3d(a:List UInt64)(i:Int):Nj 130 [LU a,.i i] (.u (if 0≤i then a.getD i.toNat 0 else 0)) []:=by
 refine Od.val rfl (Nn r_ref02_limb Aa N ?_);by_cases g:0≤i<;>by_cases j:i<a.length
 ·have z:i.toNat<a.length:=J
  simp[z6e,g,j,z]
 ·have z:a[i.toNat]?=none:=Ab
  simp[z6e,g,j,z]
 ·simp[z6e,g,j]
 ·simp[z6e,g,j]
def bm(a:List UInt64)(L:a.length≤1048576):Nj 84 [LU a] (.dy 0 0) [RU (Nu (val a))]:=by
 refine Od.row (Nn r_ref02_Trim Aa (by simp) ?_);simp[zh0];refine loop_wp (λG I K z=>I=[]∧K=[]∧z≤a.length∧lk G 0=LU a∧lk G 3=.i z∧val (a.take z)=val a) (N:=a.length) (by simp) ?_;rintro z G I K ⟨rfl,rfl,M,C,D,F⟩;simp at C;have A:(z=0∨a.getD (z-1) 0≠0)→Nu (val a)=a.take z:=by
  intro h;rw[←F];refine toL_val ?_;rcases h with rfl|h
  ·exact .inl (by simp)
  ·by_cases E:z=0
   ·subst E;exact .inl (by simp)
   ·have:z=(z-1)+1:=J
    rw[this,zd3 J];exact qm h
 by_cases E:z=0
 ·subst E;have B:=A (.inl rfl);simp at D B;simp[C,D,B,Q9];exact⟨0,1,⟨rfl,rfl⟩,by simp⟩
 ·obtain⟨n,rfl⟩:∃n,z=n+1:=⟨z-1,J⟩;have g:n<a.length:=J
  have H:((n:Int)+1-1).toNat=n:=J
  simp[C,D,g,H];refine⟨J,λj=>⟨J,n,J,J,rfl,?_⟩,λj=>⟨J,J,J,?_⟩⟩
  ·rw[←F,za8 g];simp[g,j]
  ·have B:=A (.inr (by simpa [g] using j));refine .inr ⟨0,1,1,rfl,?_⟩;rw[B];simp[Lw];omega
def zp7(a b:UInt64):(a≤a+b→decide (a+b+1=0)=(Nr a b true).2)∧(a+b<a→true=(Nr a b true).2):=by
 unfold Nr;refine⟨λh=>?_,λh=>?_⟩
 ·have g:¬a+b<a:=M7.2 h;simp[g]
 ·simp[h]
def z4z(a b:UInt64)(c:Bool):Nj 92 [.u a,.u b,.bool c] (.tup [.u (Nr a b c).1,.bool (Nr a b c).2]) []:=by
 refine Od.val rfl (Nn r_ref01_Add Aa N ?_);cases c
 ·simp[zdy];simp[Nr,Vb]
 ·simp[zdy];simp only[Vb];exact⟨λh=>⟨rfl,((zp7 a b).2 h).symm⟩,λh=>⟨rfl,(zp7 a b).1 h⟩⟩
def ziw:LC:=(.q [.e 4] (.q [.e 5] (.q [.F 6] (.seq (.q [.K 7 0] (.block 0 (.loop (.seq (.q [.m 9 7,.m 10 0,.s 11 10,.m 12 1,.s 13 12,.z 14 (.maxi true (.t 11) (.t 13)),.c 15 .leq 3 9 14] (.cond (.t 15) .skip (.exit 0))) (.seq (.block 1 (.q [.z 8 (.move (.c (.u 0)))] (.q [.m 19 0,.m 20 7,.W 21 130 19 20,.m 22 1,.m 23 7,.W 24 130 22 23,.m 25 6,.V 26 92 21 24 25,.m 18 26,.X 27 0 18,.X 28 1 18,.m 8 27,.m 6 28] (.ops [.m 29 5,.m 30 8,.z 31 (.buildSl 1 1 [(.u 0)] [(0,1,.t 30)]),.a 32 1 29 31,.m 5 32])))) (.ops [.m 16 7,.b 17 .add 3 16 1,.m 7 17])))))) (.q [.m 33 5,.w 34 84 33,.m 4 34] .ret)))))
def r_ref02_Add:Nm Tryz.prog 81=some ⟨35,ziw.r,[.tmp 4]⟩:=Aa
def zav(a b:List UInt64)(P:a.length≤1000000)(Q:b.length≤1000000):Nj 81 [LU a,LU b] (.dy 0 0) [RU (Nu (val a+val b))]:=by
 refine Od.row (Nn r_ref02_Add Aa (by simp) ?_);simp[ziw];refine O8 (λF M O H=>∃(i:Nat) (c:Bool) (g:List UInt64),M=[]∧H+i=max a.length b.length+1∧lk F 0=LU a∧lk F 1=LU b∧lk F 7=.i i∧lk F 6=.bool c∧Q9 O (lk F 5) g∧g.length=i ∧
  val g+2^(64*i)*c.toNat=val (a.take i)+val (b.take i)) (N:=max a.length b.length+1) ⟨0,false,[],by simp[Q9,val]⟩ ?_
 rintro H F M O ⟨i,c,g,rfl,R,B,z,A,I,G,j,hv⟩ T C;by_cases K:H=0
 ·subst K;have D:¬(i:Int)≤max (a.length:Int) (b.length:Int):=J
  simp[B,z,A,D];rw[z4y J,z4y J]at hv;refine z9d (bm g J) (zxi G.bor) ?_;rw[zo (m:=i-1) J J J hv];simpa using Q9.new
 ·have E:(i:Int)≤max (a.length:Int) (b.length:Int):=J
  simp[B,z,A,E];refine Ns (z3d a i) (by simp) ?_;simp[z,A];refine Ns (z3d b i) (by simp) ?_;simp[I];refine Ns (z4z (a.getD i 0) (b.getD i 0) c) (by simp) ?_;simp;refine zun (G.app _) (xs:=[(Nr (a.getD i 0) (b.getD i 0) c).1]) rfl (by simp) J (λU V L _=>?_);simp[A];refine⟨J,C _ _ _ ⟨H-1,J,i+1,(Nr (a.getD i 0) (b.getD i 0) c).2,_,rfl,J,An,Ae,by simp,by simp,by simpa using L,Ah,tn j hv⟩⟩
def z61:LC:=(.q [.F 4] (.seq (.q [.m 6 0,.s 7 6,.m 8 1,.s 9 8,.c 10 .neq 3 7 9] (.cond (.t 10) (.q [.F 4] .ret) .skip)) (.seq (.q [.K 5 0] (.block 0 (.loop (.seq (.q [.m 11 5,.m 12 0,.s 13 12,.c 14 .lss 3 11 13] (.cond (.t 14) .skip (.exit 0))) (.seq (.block 1 (.seq (.draw [(.m 17 0,[]),(.m 18 5,[]),(.I 19 1 17 18,[]),(.l 20 19,[]),(.m 21 1,[]),(.m 22 5,[]),(.I 23 1 21 22,[]),(.l 24 23,[]),(.c 25 .neq 23 20 24,[])]) (.cond (.t 25) (.q [.F 4] .ret) .skip))) (.ops [.m 15 5,.b 16 .add 3 15 1,.m 5 16])))))) (.q [.z 4 (.move .T)] .ret))))
def r_kit_Same_uint64:Nm Tryz.prog 53=some ⟨26,z61.r,[.tmp 4]⟩:=Aa

def zu7(a b:List UInt64)(I:a.length≤1000000000):Nj 53 [LU a,LU b] (.bool (decide (a=b))) []:=by
 refine Od.val rfl (Nn r_kit_Same_uint64 Aa (by simp) ?_);by_cases g:a.length=b.length
 ·simp[z61,g];refine O8 (λG H K N=>∃i:Nat,H=[]∧N+i=a.length∧lk G 0=LU a∧lk G 1=LU b∧lk G 5=.i i∧a.take i=b.take i) (N:=a.length) ⟨0,Av⟩ ?_;rintro N G H K ⟨i,rfl,L,A,C,D,F⟩ M E;by_cases O:N=0
  ·have hi:i=a.length:=J
   subst hi;have e:a=b:=by rwa [K2,g,K2]at F
   subst e;simp[A,D]
  ·have hi:i<a.length:=J
   have j:i<b.length:=J
   by_cases B:a[i]=b[i]
   ·simp[A,C,D,hi,j,B];refine⟨J,E _ _ _ ⟨N-1,J,i+1,rfl,J,At,Al,by simp,?_⟩⟩;rw[Jg hi,Jg j,F,B]
   ·have e:a≠b:=λe=>B (by subst e;rfl)
    simp[A,C,D,hi,j,B,e]
 ·have e:a≠b:=λe=>g Er
  have z:¬(a.length:Int)=b.length:=J
  simp[z61,g,z,e]
def ze8:LC:=(.q [.z 6 (.move (.c (.u 0))),.F 7] (.q [.m 10 0,.m 11 1,.c 12 .sub 23 10 11,.m 8 12] (.q [.m 13 0,.m 14 1,.c 15 .lss 23 13 14,.m 9 15] (.seq (.q [.m 16 2] (.cond (.t 16) (.q [.m 17 9,.m 18 17,.mn 19 18 8,.n 20 18 (.bin .eql true 23 (.t 19) (.c (.u 0))),.p 21 18 20,.m 9 21] (.ops [.m 22 8,.u 23 .sub 23 22 1,.m 8 23])) .skip)) (.q [.m 24 8,.m 25 9,.m 6 24,.m 7 25] .ret)))))
def r_ref01_Sub:Nm Tryz.prog 147=some ⟨26,ze8.r,[.tmp 6,.tmp 7]⟩:=Aa
def zj5:LC:=(.q [.z 4 (.move (.c (.u 0))),.z 5 (.move (.c (.u 0)))] (.q [.m 12 0,.u 13 .shr 23 12 32,.m 14 0,.u 15 .and 23 14 4294967295,.m 6 13,.m 7 15] (.q [.m 16 1,.u 17 .shr 23 16 32,.m 18 1,.u 19 .and 23 18 4294967295,.m 8 17,.m 9 19] (.q [.m 20 6,.m 21 9,.c 22 .mul 23 20 21,.m 23 7,.m 24 9,.c 25 .mul 23 23 24,.u 26 .shr 23 25 32,.c 27 .add 23 22 26,.m 10 27] (.q [.m 28 7,.m 29 8,.c 30 .mul 23 28 29,.m 31 10,.u 32 .and 23 31 4294967295,.c 33 .add 23 30 32,.m 11 33] (.q [.m 34 6,.m 35 8,.c 36 .mul 23 34 35,.m 37 10,.u 38 .shr 23 37 32,.c 39 .add 23 36 38,.m 40 11,.u 41 .shr 23 40 32,.c 42 .add 23 39 41,.m 43 0,.m 44 1,.c 45 .mul 23 43 44,.m 4 42,.m 5 45] .ret))))))
def r_ref01_Mul:Nm Tryz.prog 91=some ⟨46,zj5.r,[.tmp 4,.tmp 5]⟩:=Aa
def zgt:LC:=(.q [.K 2 0] (.q [.K 3 0] (.seq (.block 0 (.loop (.seq (.q [.m 4 0,.u 5 .gtr 23 4 0] (.cond (.t 5) .skip (.exit 0))) (.seq (.block 1 (.ops [.m 8 3,.b 9 .add 3 8 1,.m 3 9])) (.ops [.m 6 0,.u 7 .shr 23 6 1,.m 0 7]))))) (.q [.m 10 3,.m 2 10] .ret))))
def r_ref01_Bits:Nm Tryz.prog 146=some ⟨11,zgt.r,[.tmp 2]⟩:=Aa
def zru(a b:UInt64):(b≤a→decide (a-b=0)=(Ot a b true).2)∧(a<b→true=(Ot a b true).2):=by
 unfold Ot;refine⟨λh=>?_,λh=>?_⟩
 ·have g:¬a<b:=M7.2 h;simp[g]
 ·simp[h]
def zgi(a b:UInt64)(c:Bool):Nj 147 [.u a,.u b,.bool c] (.tup [.u (Ot a b c).1,.bool (Ot a b c).2]) []:=by
 refine Od.val rfl (Nn r_ref01_Sub Aa N ?_);cases c
 ·simp[ze8];simp[Ot,Y0]
 ·simp[ze8];simp only[Y0];exact⟨λh=>⟨rfl,((zru a b).2 h).symm⟩,λh=>⟨rfl,(zru a b).1 h⟩⟩
def zgu(a b:UInt64):Nj 91 [.u a,.u b] (.tup [.u (Ty a b),.u (a*b)]) []:=by
 refine Od.val rfl (Nn r_ref01_Mul Aa N ?_);simp[zj5];exact⟨mul_hi a b,zkl a b⟩
def znz(a:UInt64):Nj 146 [.u a] (.i (P6 a.toNat)) []:=by
 refine Od.val rfl (Nn r_ref01_Bits Aa (by simp) ?_);simp[zgt];refine O8 (λD H K I=>∃(x:UInt64) (i:Nat),H=[]∧I=P6 x.toNat∧lk D 0=.u x∧lk D 3=.i i∧i+P6 x.toNat=P6 a.toNat) (N:=P6 a.toNat) ⟨a,0,by simp⟩ ?_;rintro I D H K ⟨x,i,rfl,rfl,j,z,A⟩ L g;have E:P6 a.toNat≤64:=zu1 a.toNat_lt;by_cases B:x=0
 ·subst B;simp[blen_zero]at A;simp[j,z,A]
 ·have F:x.toNat≠0:=λe=>B ((zce x).2 e)
  have G:(0:UInt64)<x:=by rw[Jn];simp;omega
  have M:=zs0 F;have C:(Q3 x 1).toNat=x.toNat/2:=by rw[cw]
  simp[j,z,G];refine⟨J,g _ _ _ ⟨P6 (x.toNat/2),J,Q3 x 1,i+1,rfl,by rw[C],by simp,by simp,by rw[C];omega⟩⟩
def z5e:LC:=(.q [.x 1 0,.e 2] (.seq (.block 0 (.q [.f 4 0 1,.l 5 4,.b 6 .eql 3 5 2,.m 7 6,.nf 8 7 0 1,.nl 9 7 8,.nb 10 7 .eql 3 9 8,.p 11 7 10,.m 12 11,.nf 13 12 0 1,.nl 14 12 13,.nb 15 12 .eql 3 14 9,.p 16 12 15,.m 3 16] (.cond (.t 3) (.q [.f 17 3 1,.l 18 17,.z 19 (.buildSl 1 1 [(.i 0)] [(0,1,.t 18)]),.m 2 19] .ret) (.q [.f 21 0 1,.l 22 21,.b 23 .geq 3 22 3,.m 24 23,.yf 25 24 0 1,.yl 26 24 25,.y 27 24 (.bin .leq true 3 (.t 26) (.k 7)),.q 28 24 27,.m 29 28,.nf 30 29 0 1,.nl 31 29 30,.nb 32 29 .eql 3 31 10,.p 33 29 32,.m 20 33] (.cond (.t 20) (.q [.f 34 3 1,.l 35 34,.f 36 4 1,.l 37 36,.z 38 (.buildSl 1 2 [(.i 0),(.i 0)] [(0,1,.t 35),(1,1,.t 37)]),.m 2 38] .ret) (.q [.f 40 0 1,.l 41 40,.b 42 .eql 3 41 11,.m 43 42,.nf 44 43 0 1,.nl 45 43 44,.nb 46 43 .eql 3 45 12,.p 47 43 46,.m 48 47,.nf 49 48 0 1,.nl 50 48 49,.nb 51 48 .eql 3 50 13,.p 52 48 51,.m 39 52] (.cond (.t 39) (.q [.f 53 3 1,.l 54 53,.f 55 4 1,.l 56 55,.f 57 5 1,.l 58 57,.z 59 (.buildSl 1 3 [(.i 0),(.i 0),(.i 0)] [(0,1,.t 54),(1,1,.t 56),(2,1,.t 58)]),.m 2 59] .ret) (.q [.f 61 0 1,.l 62 61,.b 63 .eql 3 62 14,.m 64 63,.yf 65 64 3 1,.yl 66 64 65,.y 67 64 (.bin .neq true 3 (.t 66) (.k (-1))),.q 68 64 67,.m 60 68] (.cond (.t 60) (.q [.f 69 3 1,.l 70 69,.z 71 (.buildSl 1 1 [(.i 0)] [(0,1,.t 70)]),.m 2 71] .ret) (.q [.f 73 0 1,.l 74 73,.b 75 .eql 3 74 15,.m 76 75,.yf 77 76 3 1,.yl 78 76 77,.y 79 76 (.bin .neq true 3 (.t 78) (.k (-1))),.q 80 76 79,.m 72 80] (.cond (.t 72) (.q [.f 81 3 1,.l 82 81,.f 83 4 1,.l 84 83,.z 85 (.buildSl 1 2 [(.i 0),(.i 0)] [(0,1,.t 82),(1,1,.t 84)]),.m 2 85] .ret) (.q [.f 87 0 1,.l 88 87,.b 89 .eql 3 88 15,.m 86 89] (.cond (.t 86) (.q [.f 90 4 1,.l 91 90,.z 92 (.buildSl 1 1 [(.i 0)] [(0,1,.t 91)]),.m 2 92] .ret) .skip))))))))))))) (.q [.e 2] .ret)))
def r_ref12_Takes:Nm Tryz.prog 143=some ⟨93,z5e.r,[.tmp 2]⟩:=Aa
def z3f:LC:=(.q [.x 1 0,.e 2] (.seq (.block 0 (.q [.f 4 0 1,.l 5 4,.b 6 .eql 3 5 10,.m 7 6,.nf 8 7 0 1,.nl 9 7 8,.nb 10 7 .eql 3 9 11,.p 11 7 10,.m 12 11,.nf 13 12 0 1,.nl 14 12 13,.nb 15 12 .eql 3 14 12,.p 16 12 15,.m 3 16] (.cond (.t 3) (.q [.f 17 1 1,.l 18 17,.f 19 2 1,.l 20 19,.z 21 (.buildSl 1 2 [(.i 0),(.i 0)] [(0,1,.t 18),(1,1,.t 20)]),.m 2 21] .ret) (.q [.f 23 0 1,.l 24 23,.b 25 .eql 3 24 15,.m 26 25,.nf 27 26 0 1,.nl 28 26 27,.nb 29 26 .eql 3 28 17,.p 30 26 29,.m 22 30] (.cond (.t 22) (.q [.e 2] .ret) .skip))))) (.q [.f 31 1 1,.l 32 31,.z 33 (.buildSl 1 1 [(.i 0)] [(0,1,.t 32)]),.m 2 33] .ret)))
def r_ref12_Makes:Nm Tryz.prog 142=some ⟨34,z3f.r,[.tmp 2]⟩:=Aa
def zaa:LC:=(.q [.x 3 0,.F 6] (.seq (.q [.m 7 2,.z 8 (.un .not (.t 7))] (.cond (.t 8) (.q [.m 9 1,.b 10 .eql 3 9 (-1),.m 6 10] .ret) .skip)) (.q [.m 11 1,.b 12 .geq 3 11 0,.m 13 12,.my 14 13 1,.yf 15 13 0 3,.yl 16 13 15,.y 17 13 (.bin .lss false 3 (.t 14) (.t 16)),.q 18 13 17,.m 6 18] .ret)))
def r_ref12_field:Nm Tryz.prog 181=some ⟨19,zaa.r,[.tmp 6]⟩:=Aa
def z4n:LC:=(.q [.x 2 0,.x 3 1,.F 4] (.q [.f 12 0 3,.l 13 12,.m 5 13] (.seq (.q [.m 14 5,.b 15 .lss 3 14 1,.m 16 15,.mn 17 16 5,.nb 18 16 .gtr 3 17 17,.p 19 16 18] (.cond (.t 19) (.q [.F 4] .ret) .skip)) (.q [.m 20 5,.b 21 .eql 3 20 14,.m 22 21,.mn 23 22 5,.nb 24 22 .eql 3 23 15,.p 25 22 24,.m 6 25] (.q [.m 26 5,.b 27 .neq 3 26 15,.m 28 27,.my 29 28 5,.y 30 28 (.bin .neq true 3 (.t 29) (.k 17)),.q 31 28 30,.m 7 31] (.q [.m 32 5,.b 33 .eql 3 32 10,.m 34 33,.mn 35 34 5,.nb 36 34 .eql 3 35 11,.p 37 34 36,.m 38 37,.mn 39 38 5,.nb 40 38 .eql 3 39 12,.p 41 38 40,.m 8 41] (.q [.m 42 5,.b 43 .neq 3 42 1,.m 44 43,.my 45 44 5,.y 46 44 (.bin .neq true 3 (.t 45) (.k 16)),.q 47 44 46,.m 48 47,.my 49 48 5,.y 50 48 (.bin .neq true 3 (.t 49) (.k 17)),.q 51 48 50,.m 9 51] (.q [.m 52 5,.b 53 .geq 3 52 3,.m 54 53,.my 55 54 5,.y 56 54 (.bin .leq true 3 (.t 55) (.k 7)),.q 57 54 56,.m 58 57,.mn 59 58 5,.nb 60 58 .geq 3 59 10,.mn 61 58 60,.my 62 61 5,.y 63 61 (.bin .leq true 3 (.t 62) (.k 13)),.n 64 58 (.pick (.t 61) (.t 63) .F),.p 65 58 64,.m 66 65,.mn 67 66 5,.nb 68 66 .eql 3 67 15,.p 69 66 68,.m 10 69] (.q [.m 70 5,.b 71 .geq 3 70 11,.m 72 71,.my 73 72 5,.y 74 72 (.bin .leq true 3 (.t 73) (.k 13)),.q 75 72 74,.m 11 75] (.seq (.q [.L 76 3 2,.f 77 1 3,.l 78 77,.m 79 7,.V 80 181 76 78 79,.z 81 (.un .not (.t 80)),.m 82 81,.n 83 82 (.loadN 3 (.t 2)),.nf 84 82 2 3,.nl 85 82 84,.mn 86 82 8,.n 87 82 (.w 181 [.t 83,.t 85,.t 86]),.n 88 82 (.un .not (.t 87)),.p 89 82 88,.m 90 89,.n 91 90 (.loadN 3 (.t 2)),.nf 92 90 3 3,.nl 93 90 92,.mn 94 90 9,.n 95 90 (.w 181 [.t 91,.t 93,.t 94]),.n 96 90 (.un .not (.t 95)),.mn 97 90 96,.my 98 97 6,.my 99 97 98,.yf 100 99 3 3,.yl 101 99 100,.y 102 99 (.bin .eql true 3 (.t 101) (.k (-1))),.y 103 97 (.pick (.t 99) (.t 102) .F),.y 104 97 (.un .not (.t 103)),.n 105 90 (.pick (.t 97) (.t 104) .F),.p 106 90 105,.m 107 106,.n 108 107 (.loadN 3 (.t 2)),.nf 109 107 4 3,.nl 110 107 109,.mn 111 107 10,.n 112 107 (.w 181 [.t 108,.t 110,.t 111]),.n 113 107 (.un .not (.t 112)),.p 114 107 113,.m 115 114,.n 116 115 (.loadN 3 (.t 2)),.nf 117 115 5 3,.nl 118 115 117,.mn 119 115 11,.n 120 115 (.w 181 [.t 116,.t 118,.t 119]),.n 121 115 (.un .not (.t 120)),.p 122 115 121,.m 123 122,.mn 124 123 8,.mn 125 123 124,.yf 126 125 1 3,.yl 127 125 126,.yf 128 125 2 3,.yl 129 125 128,.y 130 125 (.bin .eql false 3 (.t 127) (.t 129)),.n 131 123 (.pick (.t 125) (.t 130) .F),.p 132 123 131] (.cond (.t 132) (.q [.F 4] .ret) .skip)) (.seq (.block 0 (.q [.m 134 6,.m 133 134] (.cond (.t 133) (.seq (.q [.f 135 6 3,.l 136 135,.b 137 .lss 3 136 0,.m 138 137,.nf 139 138 6 3,.nl 140 138 139,.nf 141 138 1 2,.nl 142 138 141,.n 143 138 (.lenSl (.t 142)),.n 144 138 (.bin .geq false 3 (.t 140) (.t 143)),.p 145 138 144,.m 146 145,.mn 147 146 5,.nb 148 146 .eql 3 147 15,.mn 149 146 148,.yf 150 149 1 2,.yl 151 149 150,.yf 152 149 6 3,.yl 153 149 152,.y 154 149 (.ixAddr 3 (.t 151) (.t 153)),.yf 155 149 1 154,.yl 156 149 155,.y 157 149 (.bin .eql true 3 (.t 156) (.k 1)),.n 158 146 (.pick (.t 149) (.t 157) .F),.p 159 146 158] (.cond (.t 159) (.q [.F 4] .ret) .skip)) (.seq (.draw [(.f 160 3 3,[]),(.l 161 160,[]),(.b 162 .neq 3 161 (-1),[]),(.m 163 162,[]),(.nf 164 163 7 3,[]),(.nl 165 163 164,[]),(.nf 166 163 1 2,[]),(.nl 167 163 166,[]),(.nf 168 163 6 3,[]),(.nl 169 163 168,[]),(.n 170 163 (.ixAddr 3 (.t 167) (.t 169)),[]),(.nf 171 163 0 170,[]),(.nl 172 163 171,[]),(.n 173 163 (.cvInt .u64 (.t 172)),[]),(.n 174 163 (.bin .lss false 23 (.t 165) (.t 173)),[]),(.p 175 163 174,[]),(.m 4 175,[])]) .ret)) (.q [.f 177 6 3,.l 178 177,.b 179 .neq 3 178 0,.m 176 179] (.cond (.t 176) (.q [.F 4] .ret) (.q [.m 181 5,.b 182 .eql 3 181 1,.m 180 182] (.cond (.t 180) (.q [.z 4 (.move .T)] .ret) (.q [.m 184 5,.b 185 .eql 3 184 8,.m 186 185,.mn 187 186 5,.nb 188 186 .eql 3 187 9,.p 189 186 188,.m 183 189] (.cond (.t 183) (.q [.f 190 7 3,.l 191 190,.u 192 .geq 23 191 1,.m 193 192,.yf 194 193 7 3,.yl 195 193 194,.y 196 193 (.bin .leq true 23 (.t 195) (.c (.u 63))),.q 197 193 196,.m 4 197] .ret) (.q [.m 199 5,.b 200 .eql 3 199 16,.m 198 200] (.cond (.t 198) (.q [.f 201 7 3,.l 202 201,.u 203 .geq 23 202 1,.m 204 203,.yf 205 204 7 3,.yl 206 204 205,.y 207 204 (.bin .leq true 23 (.t 206) (.c (.u 1048576))),.q 208 204 207,.m 4 208] .ret) .skip))))))))))) (.q [.f 209 7 3,.l 210 209,.u 211 .eql 23 210 0,.m 4 211] .ret))))))))))))
def r_ref12_fields:Nm Tryz.prog 141=some ⟨212,z4n.r,[.tmp 4]⟩:=Aa
def k_ref12_fields:z4n.ok=true:=Aa
def zm7:LC:=(.q [.F 4] (.seq (.q [.K 5 0] (.block 0 (.loop (.seq (.q [.m 6 5,.m 7 0,.s 8 7,.c 9 .lss 3 6 8] (.cond (.t 9) .skip (.exit 0))) (.seq (.block 1 (.q [.m 12 0,.m 13 5,.I 14 1 12 13,.l 15 14,.m 16 1,.c 17 .eql 3 15 16] (.cond (.t 17) (.q [.z 4 (.move .T)] .ret) .skip))) (.ops [.m 10 5,.b 11 .add 3 10 1,.m 5 11])))))) (.q [.F 4] .ret)))
def r_ref12_in:Nm Tryz.prog 144=some ⟨18,zm7.r,[.tmp 4]⟩:=Aa
def zkr:LC:=(.q [.z 2 (.move (.c (.u 0)))] (.seq (.q [.m 3 0] (.cond (.t 3) (.q [.z 2 (.move (.c (.u 1)))] .ret) .skip)) (.q [.z 2 (.move (.c (.u 0)))] .ret)))
def r_ref12_bit:Nm Tryz.prog 149=some ⟨4,zkr.r,[.tmp 2]⟩:=Aa
def zg8(k:Int):k<1∨k=1∨k=2∨k=3∨k=4∨k=5∨k=6∨k=7∨k=8∨k=9∨k=10∨k=11∨k=12∨k=13∨k=14∨k=15∨k=16∨k=17∨17<k:=J
def cq(l:List Int):dats (l.map .i)=true:=uv (λ_=>rfl) l
def zdd(o:Lo):Oz 143 [.agg o.f] (.lst ((Ov o).map .i) (Ov o).length 1):=by
 refine Sd.mk Gp (Nn r_ref12_Takes Aa N ?_);have D:o.f=[.i o.kind,.i o.d,.i o.e,.i o.a,.i o.b,.i o.c,.i o.buf,.u o.imm]:=rfl;rcases zg8 o.kind with h|h|h|h|h|h|h|h|h|h|h|h|h|h|h|h|h|h|h
 case inr.inr.inr.inr.inr.inr.inr.inr.inr.inr.inr.inr.inr.inr.inl|inr.inr.inr.inr.inr.inr.inr.inr.inr.inr.inr.inr.inr.inr.inr.inl =>
  by_cases H:o.a=-1<;>simp[z5e,D,Ov,h,H,Of,bor,LV.dat,dats]
 case inl|inr.inr.inr.inr.inr.inr.inr.inr.inr.inr.inr.inr.inr.inr.inr.inr.inr.inr =>
  have E:o.kind≠2:=J
  have I:¬(3≤o.kind∧o.kind≤7):=J
  have F:o.kind≠8:=J
  have G:o.kind≠9:=J
  have g:o.kind≠10:=J
  have j:o.kind≠11:=J
  have z:o.kind≠12:=J
  have A:o.kind≠13:=J
  have B:o.kind≠14:=J
  have C:o.kind≠15:=J
  by_cases K:3≤o.kind
  ·have L:¬o.kind≤7:=λq=>I ⟨K,q⟩
   simp[z5e,D,Ov,K,L,E,F,G,g,j,z,A,B,C,Of,bor,LV.dat,dats]
  ·simp[z5e,D,Ov,K,E,F,G,g,j,z,A,B,C,Of,bor,LV.dat,dats]
 all_goals simp[z5e,D,Ov,h,Of,bor,LV.dat,dats]
def zde(o:Lo):Oz 142 [.agg o.f] (.lst ((Ng o).map .i) (Ng o).length 1):=by
 refine Sd.mk Gp (Nn r_ref12_Makes Aa N ?_);have g:o.f=[.i o.kind,.i o.d,.i o.e,.i o.a,.i o.b,.i o.c,.i o.buf,.u o.imm]:=rfl;by_cases j:o.kind=10;· simp[z3f,g,Ng,j,Of,bor,LV.dat,dats]
 by_cases z:o.kind=11;· simp[z3f,g,Ng,z,Of,bor,LV.dat,dats]
 by_cases A:o.kind=12;· simp[z3f,g,Ng,A,Of,bor,LV.dat,dats]
 by_cases B:o.kind=15;· simp[z3f,g,Ng,B,Of,bor,LV.dat,dats]
 by_cases C:o.kind=17;· simp[z3f,g,Ng,C,Of,bor,LV.dat,dats]
 simp[z3f,g,Ng,j,z,A,B,C,Of,bor,LV.dat,dats]
def zle(g:Int)(x y:LV)(r:Int)(b:Bool):Nj 181 [.agg [.i g,x,y],.i r,.bool b] (.bool (Q5 g r b)) []:=by
 refine Od.val rfl (Nn r_ref12_field Aa N ?_);cases b with
 |false=>simp[zaa,Q5]
 |true=>by_cases j:0≤r<;>simp[zaa,Q5,j]
def zgq(b:Bool):Nj 149 [.bool b] (.u (Oh b)) []:=by
 refine Od.val rfl (Nn r_ref12_bit Aa N ?_);cases b<;>simp[zkr,Oh]
def ztd(l:List Int)(n:Int)(H:l.length≤1000000000):Nj 144 [.lst (l.map .i) l.length 1,.i n] (.bool (l.contains n)) []:=by
 refine Od.val rfl (Nn r_ref12_in Aa (by simp) ?_);simp[zm7];refine O8 (λE G I N=>∃i:Nat,G=[]∧N+i=l.length∧lk E 0=.lst (l.map .i) l.length 1∧lk E 1=.i n∧lk E 5=.i i∧∀x∈l.take i,¬x=n) (N:=l.length) ⟨0,rfl,J,by simp,by simp,by simp,by simp⟩ ?_;rintro N E G I ⟨i,rfl,K,j,z,A,B⟩ L C;by_cases D:i<l.length
 ·have q:(l.map LV.i)[i]?=some (.i l[i]):=Ao
  have hm:l[i]∈l:=K3 D;have F:l.take (i+1)=l.take i++[l[i]]:=Jg D;generalize l[i]=x at *;by_cases e:x=n
  ·subst e;simp[j,z,A,D,Nd q,hm]
  ·simp[j,z,A,D,Nd q,e];refine⟨J,C _ _ _ ⟨N-1,J,i+1,rfl,J,Ah,Ae,by simp,λy g=>?_⟩⟩;rw[F]at g;rcases Is.1 g with g|g
   ·exact B y g
   ·simp at g;rw[g];exact e
 ·rw[Il J]at B;have:¬n∈l:=λh=>B n h rfl
  simp[j,z,A,D,this]
def Ni(g:Int)(bs:List Bf)(os:List Lo):List LV:=[.i g,.lst (P7 bs) bs.length 3,.lst (Qu os) os.length 8]
def zhs(g:Int)(j:List Bf)(os:List Lo):dats (Ni g j os)=true:=by simp[Ni,dats,LV.dat,T9,Ud]
def zsj(g:Int)(j:List Bf)(o:Lo):Bool:=(Q5 g o.d (Qr o.kind)&&(Q5 g o.e (Qq o.kind)&&((Q5 g o.a (Q8 o.kind) || (Pg o.kind&&decide (o.a=-1)))&&(Q5 g o.b (Wf o.kind)&&(Q5 g o.c (Wg o.kind)&&(!(Qq o.kind&&decide (o.d=o.e)) &&
  (if Pg o.kind=true then decide (0≤o.buf)&&(decide (o.buf<j.length)&&(!(decide (o.kind=15)&&decide ((Nw j o.buf.toNat).kind=1))&&(!decide (o.a=-1) || decide (o.imm<iU (Nw j o.buf.toNat).size))))
   else decide (o.buf=0)&&(if o.kind=1 then true else if o.kind=8∨o.kind=9 then decide (1≤o.imm)&&decide (o.imm≤63) else if o.kind=16 then decide (1≤o.imm)&&decide (o.imm≤1048576) else decide (o.imm=0)))))))))
def us{r:Int}{b:Bool}(g:Q5 z r b=false→v9 (.bool false) G)(j:Q5 z r b=true→v9 (.bool true) G):Pm (.fn 181) [.agg [.i z,.lst (P7 Z) Z.length 3,.lst (Qu vY) vY.length 8],.i r,.bool b] G v9:=by
 refine Ns (zle z _ _ r b) (bors_self _ Em) ?_;cases e:Q5 z r b with
 |false=>simpa using g e
 |true=>simpa using j e
set_option maxHeartbeats 4000000 in
def zio(z:Int)(A:List Bf)(Y:List Lo)(o:Lo):Nj 141 [.agg (Ni z A Y),.agg o.f] (.bool (P9 z A o)) []:=by
 refine Od.val rfl ?_;have I:o.f=[.i o.kind,.i o.d,.i o.e,.i o.a,.i o.b,.i o.c,.i o.buf,.u o.imm]:=rfl;by_cases X:o.kind<1
 ·have K:¬1≤o.kind:=J
  refine Nn r_ref12_fields k_ref12_fields N ?_;simp[z4n,Ni,I,X,K,P9]
 by_cases L:17<o.kind
 ·have K:¬o.kind≤17:=J
  refine Nn r_ref12_fields k_ref12_fields N ?_;simp[z4n,Ni,I,X,L,K,P9]
 have Z:1≤o.kind∧o.kind≤17:=J
 have hF:P9 z A o=zsj z A o:=by
  unfold P9 zsj;simp[Z]
 rw[hF];refine Nn r_ref12_fields k_ref12_fields N ?_;unfold zsj;rcases zg8 o.kind with h|h|h|h|h|h|h|h|h|h|h|h|h|h|h|h|h|h|h
 case inl|inr.inr.inr.inr.inr.inr.inr.inr.inr.inr.inr.inr.inr.inr.inr.inr.inr.inr=>omega
 all_goals
  simp[z4n,Ni,I,h,Qr,Qq,Q8,Wf,Wg,Pg];refine us (λe=>Dg) λM=>?_
  simp;refine us (λe=>Dg) λO=>?_
  simp
 case inr.inr.inr.inr.inr.inr.inr.inr.inr.inr.inr.inr.inr.inr.inl|inr.inr.inr.inr.inr.inr.inr.inr.inr.inr.inr.inr.inr.inr.inr.inl =>
  refine us (λB=>?_) λB=>?_
  ·by_cases C:o.a=-1
   case neg=>simp[C,B]
   simp[C];refine us (λe=>Dg) λD=>?_
   simp;refine us (λe=>Dg) λE=>?_
   simp;by_cases F:o.buf<0
   ·have P:¬0≤o.buf:=J
    simp[F,P]
   obtain⟨n,G⟩:=H0 (J:0≤o.buf);have H:¬(n:Int)<0:=J
   by_cases j:n<A.length
   ·have q:=Sl j;have Q:=zfo q;have R:=zma q;have T:=zh j;have g:¬A.length≤n:=J
    by_cases U:(Nw A n).kind=1<;>simp[H,g,G,j,Nd Q,C,Nd R,U,M,O,B,D,E]
   ·have g:A.length≤n:=J
    simp[H,g,G,j]
  ·have C:¬o.a=-1:=λq=>by rw[q]at B;simp[Q5]at B
   simp;refine us (λe=>Dg) λD=>?_
   simp;refine us (λe=>Dg) λE=>?_
   simp;by_cases F:o.buf<0
   ·have P:¬0≤o.buf:=J
    simp[F,P]
   obtain⟨n,G⟩:=H0 (J:0≤o.buf);have H:¬(n:Int)<0:=J
   by_cases j:n<A.length
   ·have q:=Sl j;have Q:=zfo q;have R:=zma q;have T:=zh j;have g:¬A.length≤n:=J
    by_cases U:(Nw A n).kind=1<;>simp[H,g,G,j,Nd Q,C,Nd R,U,M,O,B,D,E]
   ·have g:A.length≤n:=J
    simp[H,g,G,j]
 all_goals
  refine us (λe=>Dg) λB=>?_
  simp;refine us (λe=>Dg) λD=>?_
  simp;refine us (λe=>Dg) λE=>?_
  by_cases F:o.buf=0<;>by_cases V:1≤o.imm<;>simp[M,O,B,D,E,F,V]
  all_goals first|exact⟨λa b=>absurd a b,λa _=>a⟩|(rintro q;rw[q]at V;exact absurd V Ad)
def z5f:LC:=(.q [.x 1 0,.K 2 0,.K 3 0] (.seq (.q [.f 15 0 1,.l 16 15,.b 17 .gtr 3 16 64,.m 18 17,.nf 19 18 1 1,.nl 20 18 19,.n 21 18 (.lenSl (.t 20)),.nb 22 18 .gtr 3 21 32,.p 23 18 22,.m 24 23,.nf 25 24 2 1,.nl 26 24 25,.n 27 24 (.lenSl (.t 26)),.nb 28 24 .gtr 3 27 65536,.p 29 24 28] (.cond (.t 29) (.q [.K 2 0,.K 3 3] .ret) .skip)) (.seq (.q [.K 4 0] (.block 0 (.loop (.seq (.q [.m 30 4,.f 31 1 1,.l 32 31,.s 33 32,.c 34 .lss 3 30 33] (.cond (.t 34) .skip (.exit 0))) (.seq (.block 1 (.q [.f 37 1 1,.l 38 37,.m 39 4,.I 40 3 38 39,.f 41 0 40,.l 42 41,.b 43 .gtr 3 42 65536] (.cond (.t 43) (.q [.K 2 0,.K 3 3] .ret) .skip))) (.ops [.m 35 4,.b 36 .add 3 35 1,.m 4 36])))))) (.seq (.q [.f 44 0 1,.l 45 44,.b 46 .lss 3 45 0] (.cond (.t 46) (.q [.K 2 0,.K 3 2] .ret) .skip)) (.seq (.q [.K 5 0] (.block 2 (.loop (.seq (.q [.m 47 5,.f 48 1 1,.l 49 48,.s 50 49,.c 51 .lss 3 47 50] (.cond (.t 51) .skip (.exit 2))) (.seq (.block 3 (.q [.f 54 1 1,.l 55 54,.m 56 5,.I 57 3 55 56,.f 58 0 57,.l 59 58,.b 60 .lss 3 59 1,.m 61 60,.nf 62 61 1 1,.nl 63 61 62,.mn 64 61 5,.n 65 61 (.ixAddr 3 (.t 63) (.t 64)),.nf 66 61 1 65,.nl 67 61 66,.nb 68 61 .lss 3 67 1,.p 69 61 68,.m 70 69,.nf 71 70 1 1,.nl 72 70 71,.mn 73 70 5,.n 74 70 (.ixAddr 3 (.t 72) (.t 73)),.nf 75 70 1 74,.nl 76 70 75,.nb 77 70 .gtr 3 76 3,.p 78 70 77] (.cond (.t 78) (.q [.K 2 0,.K 3 2] .ret) .skip))) (.ops [.m 52 5,.b 53 .add 3 52 1,.m 5 53])))))) (.q [.f 79 0 1,.l 80 79,.z 81 (.mkSl 1 [(.bool false)] (.t 80) (.t 80)),.m 6 81] (.q [.e 7] (.seq (.q [.K 8 0] (.block 4 (.loop (.seq (.q [.m 82 8,.f 83 2 1,.l 84 83,.s 85 84,.c 86 .lss 3 82 85] (.cond (.t 86) .skip (.exit 4))) (.seq (.block 5 (.q [.f 89 2 1,.l 90 89,.m 91 8,.I 92 8 90 91,.L 93 8 92,.z 9 (.alloc [(.i 0),(.i 0),(.i 0),(.i 0),(.i 0),(.i 0),(.i 0),(.u 0)]),.S 8 9 93] (.seq (.q [.L 94 3 1,.L 95 8 9,.W 96 141 94 95,.z 97 (.un .not (.t 96))] (.cond (.t 97) (.q [.m 98 8,.m 2 98,.K 3 2] .ret) .skip)) (.seq (.q [.f 99 0 9,.l 100 99,.b 101 .eql 3 100 17] (.cond (.t 101) (.seq (.q [.m 102 7,.s 103 102,.b 104 .eql 3 103 0] (.cond (.t 104) (.q [.m 105 8,.m 2 105,.K 3 9] .ret) .skip)) (.q [.m 106 6,.m 107 7,.m 108 7,.s 109 108,.b 110 .sub 3 109 1,.I 111 1 107 110,.l 112 111,.I 113 1 106 112,.v (.store 1 (.t 113) .F)] (.q [.m 114 7,.m 115 7,.s 116 115,.b 117 .sub 3 116 1,.z 118 (.slSl 1 (.t 114) none (some (.t 117))),.m 7 118] (.exit 5)))) .skip)) (.seq (.draw [(.L 119 8 9,[]),(.L 121 8 9,[]),(.w 120 142 119,[(.L 121 8 9,false)]),(.w 122 143 121,[]),(.m 10 120,[]),(.m 11 122,[])]) (.seq (.q [.K 12 0] (.block 6 (.loop (.seq (.q [.m 123 12,.m 124 10,.s 125 124,.c 126 .lss 3 123 125] (.cond (.t 126) .skip (.exit 6))) (.seq (.block 7 (.q [.m 129 7,.m 130 10,.m 131 12,.I 132 1 130 131,.l 133 132,.W 134 144 129 133] (.cond (.t 134) (.q [.m 135 8,.m 2 135,.K 3 9] .ret) .skip))) (.ops [.m 127 12,.b 128 .add 3 127 1,.m 12 128])))))) (.seq (.q [.f 136 0 9,.l 137 136,.b 138 .eql 3 137 16,.m 139 138,.my 140 139 6,.yf 141 139 1 9,.yl 142 139 141,.y 143 139 (.ixAddr 1 (.t 140) (.t 142)),.yl 144 139 143,.q 145 139 144] (.cond (.t 145) (.q [.m 146 8,.m 2 146,.K 3 9] .ret) .skip)) (.seq (.q [.f 147 0 9,.l 148 147,.b 149 .eql 3 148 16,.m 150 149,.my 151 150 7,.y 152 150 (.lenSl (.t 151)),.y 153 150 (.bin .eql true 3 (.t 152) (.k 8)),.q 154 150 153] (.cond (.t 154) (.q [.m 155 8,.m 2 155,.K 3 10] .ret) .skip)) (.seq (.q [.K 13 0] (.block 8 (.loop (.seq (.q [.m 156 13,.m 157 11,.s 158 157,.c 159 .lss 3 156 158] (.cond (.t 159) .skip (.exit 8))) (.seq (.block 9 (.q [.m 162 6,.m 163 11,.m 164 13,.I 165 1 163 164,.l 166 165,.I 167 1 162 166,.l 168 167,.z 169 (.un .not (.t 168))] (.cond (.t 169) (.q [.m 170 8,.m 2 170,.K 3 5] .ret) .skip))) (.ops [.m 160 13,.b 161 .add 3 160 1,.m 13 161])))))) (.seq (.q [.K 14 0] (.block 10 (.loop (.seq (.q [.m 171 14,.m 172 10,.s 173 172,.c 174 .lss 3 171 173] (.cond (.t 174) .skip (.exit 10))) (.seq (.block 11 (.ops [.m 177 6,.m 178 10,.m 179 14,.I 180 1 178 179,.l 181 180,.I 182 1 177 181,.v (.store 1 (.t 182) .T)])) (.ops [.m 175 14,.b 176 .add 3 175 1,.m 14 176])))))) (.q [.f 183 0 9,.l 184 183,.b 185 .eql 3 184 16] (.cond (.t 185) (.ops [.m 186 7,.f 187 1 9,.l 188 187,.z 189 (.buildSl 1 1 [(.i 0)] [(0,1,.t 188)]),.a 190 1 186 189,.m 7 190]) .skip)))))))))))) (.ops [.m 87 8,.b 88 .add 3 87 1,.m 8 88])))))) (.seq (.q [.m 191 7,.s 192 191,.b 193 .gtr 3 192 0] (.cond (.t 193) (.q [.f 194 2 1,.l 195 194,.s 196 195,.m 2 196,.K 3 9] .ret) .skip)) (.q [.f 197 2 1,.l 198 197,.s 199 198,.m 2 199,.K 3 0] .ret))))))))))
def r_ref12_Check:Nm Tryz.prog 78=some ⟨200,z5f.r,[.tmp 2,.tmp 3]⟩:=Aa
def zmq{m:List Bool}{l:List Int}(h:∀x∈l,Pj m x=true):(l.any λr=>!Pj m r)=false:=by
 rw[Lq];intro x g;simp[h x g]
def zr8{m:List Bool}{l:List Int}{x:Int}(g:x∈l)(h:Pj m x=false):(l.any λr=>!Pj m r)=true:=by
 rw[Jc];exact⟨x,g,by simp[h]⟩
def zgd{l:List Int}(h:g<l.length):l.take (g+1)=l.take g++[gd l g]:=by
 rw[Jg h];simp[gd,Hw,h]
def zjj{l:List Int}(h:g<l.length):gd l g∈l:=by
 simp[gd,Hw,h]
def z37{o:Lo}(h:P9 z Z o=true):(∀x∈Ov o,0≤x∧x<z)∧(∀x∈Ng o,0≤x∧x<z)∧(o.kind=16→0≤o.d∧o.d<z):=by
 unfold P9 at h;simp only[Hz,Ie]at h;obtain⟨⟨j,A⟩,d,e,a,b,c,_⟩:=h;have B:∀x,Q5 z x true=true→0≤x∧x<z:=λx h=>by
  unfold Q5 at h;simpa using h
 rcases zg8 o.kind with h|h|h|h|h|h|h|h|h|h|h|h|h|h|h|h|h|h|h
 case inl=>omega
 case inr.inr.inr.inr.inr.inr.inr.inr.inr.inr.inr.inr.inr.inr.inr.inr.inr.inr=>omega
 case inr.inr.inr.inr.inr.inr.inr.inr.inr.inr.inr.inr.inr.inr.inl|inr.inr.inr.inr.inr.inr.inr.inr.inr.inr.inr.inr.inr.inr.inr.inl =>
  simp[h,Qr,Qq,Q8,Wf,Wg,Pg,Q5]at d e a b c;by_cases g:o.a=-1<;>simp[g]at a<;>simp[Ov,Ng,h,g]<;>omega
 all_goals
  simp[h,Qr,Qq,Q8,Wf,Wg,Pg,Q5]at d e a b c;simp[Ov,Ng,h]
  try omega
def zm9(o:Lo):(Ng o).length≤2:=by
 unfold Ng;repeat' split
 all_goals simp
def zm0(o:Lo):(Ov o).length≤3:=by
 unfold Ov;repeat' split
 all_goals simp
def z4m(M:Int)(B:List Bf)(os:List Lo):Nj 78 [.agg (Ni M B os)] (.tup [.i (Qp M B os).1,.i (Qp M B os).2]) []:=by
 refine Od.val rfl (Nn r_ref12_Check Aa (by simp) ?_);by_cases g1:64<M
 ·simp[z5f,Ni,Qp,g1]
 by_cases g2:32<B.length
 ·have jA:(32:Int)<B.length:=J
  simp[z5f,Ni,Qp,g1,g2,jA]
 have jA:¬(32:Int)<B.length:=J
 by_cases g3:65536<os.length
 ·have jH:(65536:Int)<os.length:=J
  simp[z5f,Ni,Qp,g1,g2,jA,g3,jH]
 have jH:¬(65536:Int)<os.length:=J
 obtain⟨zG,C⟩:∃zG,Qp M B os=zG:=⟨_,rfl⟩;rw[C];unfold Qp at C;rw[Hx J]at C;simp[z5f,Ni,g1,g2,jA,g3,jH];refine O8 (λL gU gD N=>∃i:Nat,gU=[]∧gD=[.cells (Ni M B os) 0]∧N+i=B.length∧lk L 1=.ptr 0 0∧lk L 4=.i i∧∀O,O<i→¬65536<(Nw B O).size) (N:=B.length) ⟨0,rfl,B0,J,by simp,by simp,λO h=>J⟩ ?_;rintro N L gU gD ⟨i,rfl,rfl,hN,z,h4,Q⟩ Nx gI;by_cases gT:i<B.length
 ·have q0:=zfo (Sl gT);have hm:Nw B i∈B:=Io (Sl gT);by_cases e:65536<(Nw B i).size
  ·have X:(B.any λb=>decide (65536<b.size))=true:=Jc.2 ⟨_,hm,Fx⟩;rw[H6 X]at C;subst C;simp[z,h4,Ni,gT,Nd q0,e]
  ·simp[z,h4,Ni,gT,Nd q0,e];refine⟨J,gI _ _ _ ⟨N-1,J,i+1,rfl,B0,J,Ae,by simp,λO hj=>?_⟩⟩;by_cases q:O=i
   ·rw[q];exact e
   ·exact Q O J
 have X:¬(B.any λb=>decide (65536<b.size))=true:=by
  rw[Jc];rintro⟨b,hb,h⟩;obtain⟨O,hj,rfl⟩:=J6.1 hb;have:=Q O J;have h2:=Sl hj;rw[H7 hj]at h2;rw[←Option.some.inj h2]at this;exact this Ax
 rw[Hx X]at C;clear X Q;by_cases g4:M<0
 ·rw[H6 g4]at C;subst C;simp[z,h4,Ni,gT,g4]
 rw[Hx g4]at C;have e0:¬i<B.length:=gT;simp[z,h4,Ni,e0,g4];refine O8 (λL gU gD N=>∃i:Nat,gU=[]∧gD=[.cells (Ni M B os) 0]∧N+i=B.length∧lk L 1=.ptr 0 0∧lk L 5=.i i∧∀O,O<i→¬((Nw B O).size<1∨(Nw B O).kind<1∨3<(Nw B O).kind)) (N:=B.length) ⟨0,rfl,B0,J,Ae,by simp,λO h=>J⟩ ?_;clear z h4 hN gI Nx L N e0 gT;rintro N L gU gD ⟨i,rfl,rfl,hN,z,h5,Q⟩ Nx gI;by_cases gT:i<B.length
 ·have q0:=zfo (Sl gT);have q1:=zma (Sl gT);have hm:Nw B i∈B:=Io (Sl gT);have jI:((Nw B i).size<1∨(Nw B i).kind<1∨3<(Nw B i).kind)→zG=(0,2):=λe=>by
   have X:(B.any λb=>decide (b.size<1) || (decide (b.kind<1) || decide (3<b.kind)))=true:=Jc.2 ⟨_,hm,Fx⟩;rw[H6 X]at C;exact C.symm
  by_cases e1:(Nw B i).size<1
  ·rw[jI (.inl e1)];simp[z,h5,Ni,gT,Nd q0,Nd q1,e1]
  by_cases e2:(Nw B i).kind<1
  ·rw[jI (.inr (.inl e2))];simp[z,h5,Ni,gT,Nd q0,Nd q1,e1,e2]
  by_cases e3:3<(Nw B i).kind
  ·rw[jI (.inr (.inr e3))];simp[z,h5,Ni,gT,Nd q0,Nd q1,e1,e2,e3]
  simp[z,h5,Ni,gT,Nd q0,Nd q1,e1,e2,e3];refine⟨J,gI _ _ _ ⟨N-1,J,i+1,rfl,B0,J,Ae,by simp,λO hj=>?_⟩⟩;by_cases q:O=i
  ·rw[q];omega
  ·exact Q O J
 have X:¬(B.any λb=>decide (b.size<1) || (decide (b.kind<1) || decide (3<b.kind)))=true:=by
  rw[Jc];rintro⟨b,hb,h⟩;obtain⟨O,hj,rfl⟩:=J6.1 hb;have:=Q O J;have h2:=Sl hj;rw[H7 hj]at h2;rw[←Option.some.inj h2]at this;exact this Ax
 rw[Hx X]at C;clear X Q;obtain⟨r,rfl⟩:=H0 (J:0≤M);have zD:r≤64:=J
 simp[z,h5,Ni,gT];refine⟨J,?_⟩;refine O8 (λL gU gD N=>∃(i st:Nat) (m:List Bool) (D:List Int) (v:LV),gU=[]∧N+i=os.length∧lk L 1=.ptr 0 0∧lk L 6=.dy 1 0∧lk L 7=v∧lk L 8=.i i∧gD[0]?=some (.cells (Ni r B os) 0)∧gD[1]?=some (.dyn (m.map .bool) r 1 0 st)∧m.length=r∧O7 2 gD v 1 D.length (D.map .i)∧2≤gD.length ∧
   (∀x∈D,0≤x∧x<r)∧D.length≤8∧fe r B i m D (os.drop i)=zG) (N:=os.length)
  ⟨0,0,List.replicate r false,[],.nilSl,rfl,J,Ae,by simp,by simp,by simp,B0,by simp[repBs],by simp,O7.nil,by simp,by simp,by simp,Cp⟩ ?_
 clear z h5 hN gI Nx L N C gT;rintro N L gU gD ⟨i,st,m,D,v,rfl,hN,z,F,K,E,gK,j4,gL,jK,zH,jB,jQ,C⟩ Nx gI;by_cases gT:i<os.length
 case neg =>
  rw[J0 J]at C;unfold fe at C;by_cases hn:D=[]
  ·rw[H6 hn]at C;subst C hn;simp[z,E,gK,Ni,gT,K];refine jK.lenL ?_;simp[z,gK,Ni];omega
  ·rw[Hx hn]at C;subst C;have Q:0<(D.length:Int):=by
    have:=Lu.2 hn;omega
   simp[z,E,gK,Ni,gT,K];refine jK.lenL ?_;simp[Q,z,gK,Ni];exact⟨λ_=>J,hn⟩
 have ho:=zh2 gT;rw[zhy gT]at C;unfold fe at C;have j5:=zcl ho;have j6:=zne gT;generalize ko os i=o at *;have hC:o.f=[.i o.kind,.i o.d,.i o.e,.i o.a,.i o.b,.i o.c,.i o.buf,.u o.imm]:=rfl;have l0:0<gD.length:=J
 have l1:1<gD.length:=J
 have p0:∀x:List LObj,(gD++x)[0]?=some _:=λx=>(Nv l0).trans gK
 simp[z,E,gK,Ni,gT,j5,j6,hC,↓p0];have jR:=zio r B os o;rw[Ni,hC]at jR;refine Ns jR (bors_self _ Em) ?_;cases hf:P9 r B o with
 |false =>
  have j7:(Uz r B m D o)=(2,m,D):=by unfold Uz;rw[H6 hf]
  rw[j7]at C;simp at C;subst C;simp[E]
 |true =>
 obtain⟨jT,jU,jV⟩:=z37 hf;have zI:os.length≤65536:=J
 have gM:∀(l:List LV) (i:Nat) (x:LV),i<l.length→Oo l i [x]=l.set i x:=λl i x h=>by
  rw[I5,H6 h];simp[Oo]
 have next:∀(ρ':Na) (G':M9) (m':List Bool) (G:List Int) (v':LV) (jL:Nat),Uz r B m D o=(0,m',G)→lk ρ' 1=.ptr 0 0→lk ρ' 6=.dy 1 0→lk ρ' 7=v'→lk ρ' 8=.i ((i:Int)+1)→G'[0]?=some (.cells (Ni r B os) 0)→G'[1]?=some (.dyn (m'.map .bool) r 1 0 jL)→m'.length=r→O7 2 G' v' 1 G.length (G.map .i)→2≤G'.length→(∀x∈G,0≤x∧x<(r:Int))→G.length≤8→Nx ρ' [] G':=by
  intro ρ' G' m' G v' jL hs a1 a6 a7 a8 b0 b1 b2 b3 b4 b5 b6;rw[hs]at C;exact gI _ _ _ ⟨N-1,J,i+1,jL,m',G,v',rfl,J,a1,a6,a7,by rw[a8];simp,b0,b1,b2,b3,b4,b5,b6,Cp⟩
 have q0:∀x:List LObj,(gD++x)[0]?=some (.cells (Ni r B os) 0):=λx=>(Nv l0).trans gK
 have q1:∀x:List LObj,(gD++x)[1]?=some (.dyn (m.map .bool) r 1 0 st):=λx=>(Nv l1).trans j4
 have gE:∀x,O7 2 (gD++x) v 1 D.length (D.map .i):=λx=>jK.push_end
 by_cases gV:o.kind=17
 ·have jC:D=[]→Uz r B m D o=(9,m,D):=λe=>by
   unfold Uz;rw[Hx (by rw[hf];decide),H6 gV,e];rfl
  have jD:∀l' d,D=l'++[d]→Uz r B m D o=(0,m.set d.toNat false,l'):=λl' d e=>by
   unfold Uz;rw[Hx (by rw[hf];decide),H6 gV,e];simp
  simp[gV,K];refine (gE _).lenL ?_;by_cases hn:D=[]
  ·rw[jC hn]at C;subst hn;simp at C;subst C;simp[E]
  ·obtain⟨G,d,rfl⟩:∃G d,D=G++[d]:=⟨D.dropLast,D.getLast hn,(List.dropLast_concat_getLast hn).symm⟩;obtain⟨d0,dr⟩:=jB d (by simp);obtain⟨dn,rfl⟩:=H0 d0;have gY:dn<r:=J
   have j8:G.length≤8:=by simp at jQ;omega
   have g:=jD G dn rfl;simp only[In]at g;simp;refine (gE _).lenL ?_;simp;refine⟨J,(gE _).at1 J Ab λa X=>?_⟩;simp;refine X _ ?_;have e1:Oo (m.map LV.bool) dn [.bool false]=(m.set dn false).map LV.bool:=by
    rw[gM _ _ _ Ab,Ji]
   have hx:(List.map LV.i G++[LV.i (dn:Int)])[G.length]?=some (.i (dn:Int)):=by
    rw[Im (by simp)];simp
   have jF:∀(x:List LObj) (ob:LObj),O7 2 ((gD++x).set 1 ob) v 1 (G++[(dn:Int)]).length ((G++[(dn:Int)]).map .i):=λx ob=>(gE x).set_lt J
   rw[K8,List.map_singleton];simp only[In];refine⟨_,hx,?_⟩;simp[F,↓q1,gY,gL,e1,K];refine⟨J,(jF _ _).lenL ?_⟩;simp;refine⟨J,(jF _ _).cut (m:=G.length) (by simp) (λK' k'=>k') (λd K' k'=>⟨J,k'⟩) λv' jX=>?_⟩;simp[E];rw[K8,Ky (by simp)]at jX;refine⟨J,next _ _ (m.set dn false) G v' (st+1) g Ae Ak (by simp) (by simp) ?_ ?_ (by simpa using gL) jX Ab (λx hx=>jB x (by simp[hx])) j8⟩
   ·rw[Hy J];exact q0 _
   ·rw[←Ji];exact H8 Ab
 have g:Uz r B m D o=(if (Ng o).any (λr=>D.contains r)=true then (9,m,D)
   else if o.kind=16∧Pj m o.d=true then (9,m,D)
   else if o.kind=16∧D.length=8 then (10,m,D)
   else if (Ov o).any (λr=>!Pj m r)=true then (5,m,D)
   else (0,(Ng o).foldl (λm r=>m.set r.toNat true) m,if o.kind=16 then D++[o.d] else D)):=by
  unfold Uz;rw[Hx (by rw[hf];decide),Hx gV]
 simp[gV];refine R6 (zde o) Ca ?_;simp;refine R6 (zdd o) Ca ?_;simp;have jM:=q0 [.cells o.f 1];have Y:=q1 [.cells o.f 1];have gO:(gD++[LObj.cells o.f 1])[gD.length]?=some (.cells o.f 1):=Ir;have gZ:=gE [.cells o.f 1];have j9:(gD++[LObj.cells o.f 1]).length=gD.length+1:=by simp
 rw[hC]at jM Y gO gZ j9;generalize gD++[LObj.cells [.i o.kind,.i o.d,.i o.e,.i o.a,.i o.b,.i o.c,.i o.buf,.u o.imm] 1]=G1 at *;generalize gD.length=jZ at *;have zK:=zm9 o;have zL:=zm0 o;have zM:=hC ▸ gO;refine O8 (λL gU gD N=>∃O:Nat,gU=[]∧N+O=(Ng o).length∧lk L 1=.ptr 0 0∧lk L 6=.dy 1 0∧lk L 7=v∧lk L 8=.i i∧lk L 9=.ptr jZ 0∧lk L 10=.lst ((Ng o).map .i) (Ng o).length 1∧lk L 11=.lst ((Ov o).map .i) (Ov o).length 1∧lk L 12=.i O∧gD=G1∧∀x∈(Ng o).take O,¬x∈D) (N:=(Ng o).length)
  ⟨0,rfl,J,Ae,Ak,Bi,Af,by simp,by simp,by simp,by simp,rfl,by simp⟩ ?_
 clear z F K E;rintro N2 L gU G2 ⟨O,rfl,zO,z,F,K,E,R,j,H,gP,rfl,Q⟩ zP jG;by_cases V:O<(Ng o).length
 ·have hg:=Xf (f:=LV.i) (Xp V);have ht:=zgd V;have I:=zjj V;generalize gd (Ng o) O=x at *;simp[K,j,gP,V,Nd hg];refine Ns (ztd D x J) ⟨_,_,rfl,gZ.bor,by simp⟩ ?_;by_cases hx:x∈D
  ·have X:((Ng o).any λr=>D.contains r)=true:=Jc.2 ⟨x,I,by simpa using hx⟩;rw[g,H6 X]at C;simp at C;subst C;simp[hx,E]
  ·simp[hx,gP];refine⟨J,jG _ _ _ ⟨N2-1,J,O+1,rfl,J,Ae,Ak,Bi,Af,Bl,Ah,Bd,by simp,rfl,λy T=>?_⟩⟩;rw[ht]at T;rcases Is.1 T with T|T
   ·exact Q y T
   ·simp at T;rw[T];exact hx
 rw[Il J]at Q;have X:¬((Ng o).any λr=>D.contains r)=true:=by
  rw[Jc];rintro⟨x,hx,h⟩;exact Q x hx Ax
 rw[Hx X]at g;clear X Q jG;by_cases P:o.kind=16
 ·obtain⟨d0,dr⟩:=jV P;obtain⟨dn,gY⟩:=H0 d0;have jO:dn<r:=J
  have jE:(m.map LV.bool)[dn]?=some (.bool (Pj m o.d)):=by
   simp[Pj,gY,gL,jO]
  cases Z:Pj m o.d with
  |true =>
   rw[Z]at jE;rw[g,H6 (show o.kind=16∧Pj m o.d=true from ⟨P,Z⟩)]at C;simp at C;subst C;simp[F,E,R,j,gP,V,gO,P,gY,jO,Y,Nd jE]
  |false =>
  rw[Z]at jE;rw[Hx (show ¬(o.kind=16∧Pj m o.d=true) by rw[Z];simp)]at g;simp[F,E,R,j,gP,V,gO,P,gY,jO,Y,Nd jE,K];refine gZ.lenL ?_;by_cases l8:D.length=8
  ·rw[g,H6 (show o.kind=16∧D.length=8 from ⟨P,l8⟩)]at C;simp at C;subst C;simp[l8,E]
  rw[Hx (show ¬(o.kind=16∧D.length=8) from λq=>l8 q.2)]at g;refine⟨λq=>absurd q J,λ_=>?_⟩;rw[H6 P]at g;refine O8 (λL gU gD N=>∃O:Nat,gU=[]∧N+O=(Ov o).length∧lk L 1=.ptr 0 0∧lk L 6=.dy 1 0∧lk L 7=v∧lk L 8=.i i∧lk L 9=.ptr jZ 0∧lk L 10=.lst ((Ng o).map .i) (Ng o).length 1∧lk L 11=.lst ((Ov o).map .i) (Ov o).length 1∧lk L 13=.i O∧gD=G2∧∀x∈(Ov o).take O,Pj m x=true) (N:=(Ov o).length)
   ⟨0,rfl,J,Ae,Ak,Bi,Af,Bl,Ah,Bd,by simp,rfl,by simp⟩ ?_
  clear z F K E R j H gP;rintro N3 L gU G3 ⟨O,rfl,zg,z,F,K,E,R,j,H,gg,rfl,Q⟩ zj gF;by_cases V:O<(Ov o).length
  ·have hg:=Xf (f:=LV.i) (Xp V);have ht:=zgd V;have I:=zjj V;generalize gd (Ov o) O=x at *;obtain⟨x0,xr⟩:=jT x I;obtain⟨xn,rfl⟩:=H0 x0;have U:xn<r:=J
   have gz:(m.map LV.bool)[xn]?=some (.bool (Pj m (xn:Int))):=by simp[Pj,gL,U]
   cases A:Pj m (xn:Int) with
   |false =>
    have X:=zr8 I A;rw[g,H6 X]at C;simp at C;subst C;rw[A]at gz;simp[F,E,H,gg,V,Nd hg,Y,U,Nd gz]
   |true =>
    rw[A]at gz;simp[F,E,H,gg,V,Nd hg,Y,U,Nd gz];refine⟨J,gF _ _ _ ⟨N3-1,J,O+1,rfl,J,Ae,Ak,Bi,Af,Bl,Ah,Bd,by simp,rfl,λy T=>?_⟩⟩;rw[ht]at T;rcases Is.1 T with T|T
    ·exact Q y T
    ·simp at T;rw[T];exact A
  rw[Il J]at Q;rw[Hx (by rw[zmq Q];simp)]at g;clear gF Q;simp[z,F,K,E,R,j,H,gg,V];refine O8 (λL gU gD N=>∃(O gA:Nat) (m2:List Bool),gU=[]∧N+O=(Ng o).length∧lk L 1=.ptr 0 0∧lk L 6=.dy 1 0∧lk L 7=v∧lk L 8=.i i∧lk L 9=.ptr jZ 0∧lk L 10=.lst ((Ng o).map .i) (Ng o).length 1∧lk L 14=.i O∧gD.length=G3.length∧(∀q,q≠1→gD[q]?=G3[q]?)∧gD[1]?=some (.dyn (m2.map .bool) r 1 0 gA)∧m2.length=r∧m2=((Ng o).take O).foldl (λm r=>m.set r.toNat true) m) (N:=(Ng o).length)
   ⟨0,st,m,rfl,J,Ae,Ak,Bi,Af,Bl,Ah,by simp,rfl,λ_ _=>rfl,Y,gL,by simp⟩ ?_
  clear z F K E R j H gg;rintro N4 L gU G4 ⟨O,gA,m2,rfl,zz,z,F,K,E,R,j,g8,jP,gC,gG,gQ,gR⟩ zA gH;by_cases gk:O<(Ng o).length
  ·have hg:=Xf (f:=LV.i) (Xp gk);have ht:=zgd gk;have I:=zjj gk;generalize gd (Ng o) O=x at *;obtain⟨x0,xr⟩:=jU x I;obtain⟨xn,rfl⟩:=H0 x0;have U:xn<r:=J
   have e1:Oo (m2.map LV.bool) xn [.bool true]=(m2.set xn true).map LV.bool:=by
    rw[gM _ _ _ Ab,Ji]
   simp[F,j,g8,gk,Nd hg,gG,U,gQ,e1];refine⟨J,J,gH _ _ _ ⟨N4-1,J,O+1,gA+1,m2.set xn true,rfl,J,Ae,Ak,Bi,Af,Bl,Ah,by simp,by simp[jP],λq hq=>?_,?_,by simp[gQ],?_⟩⟩
   ·rw[Hy (Ne.symm hq)];exact gC q hq
   ·rw[←Ji];exact H8 (by have:=(Hv.1 gG).1;exact this)
   ·rw[ht,List.foldl_append,←gR];simp
  rw[Il J]at gR;have g9:O7 2 G4 v 1 D.length (D.map .i):=gZ.frame λq h _=>gC q J
  have jg:G4[0]?=some (.cells (Ni r B os) 0):=(gC 0 J).trans jM;have jz:G4[jZ]?=_:=(gC jZ J).trans gO;rw[←gR]at g;clear gH;simp[z,F,K,E,R,j,g8,gk,jz,P];refine O7.push (x:=[.i o.d]) g9.push_end J Ab J rfl rfl λv' G5 zB jY zC _=>?_
  simp[E];have zE:=(Hv.1 gG).1;refine⟨J,next _ _ m2 (D++[o.d]) v' gA g Ae Ak (by simp) (by simp) ?_ ?_ gQ (by simpa using zB) (by simp at zC;omega) (λx hx=>?_) Ab⟩
  ·rw[jY 0 J,Nv J];exact jg
  ·rw[jY 1 J,Nv J];exact gG
  ·rcases Is.1 hx with hx|hx
   ·exact jB x hx
   ·simp at hx;rw[hx];exact jV P
 rw[Hx (show ¬(o.kind=16∧Pj m o.d=true) from λq=>P q.1),Hx (show ¬(o.kind=16∧D.length=8) from λq=>P q.1),Hx P]at g;simp[z,F,K,E,R,j,H,gP,V,gO,P];refine O8 (λL gU gD N=>∃O:Nat,gU=[]∧N+O=(Ov o).length∧lk L 1=.ptr 0 0∧lk L 6=.dy 1 0∧lk L 7=v∧lk L 8=.i i∧lk L 9=.ptr jZ 0∧lk L 10=.lst ((Ng o).map .i) (Ng o).length 1∧lk L 11=.lst ((Ov o).map .i) (Ov o).length 1∧lk L 13=.i O∧gD=G2∧∀x∈(Ov o).take O,Pj m x=true) (N:=(Ov o).length)
  ⟨0,rfl,J,Ae,Ak,Bi,Af,Bl,Ah,Bd,by simp,rfl,by simp⟩ ?_
 clear z F K E R j H gP;rintro N3 L gU G3 ⟨O,rfl,zg,z,F,K,E,R,j,H,gg,rfl,Q⟩ zj gF;by_cases V:O<(Ov o).length
 ·have hg:=Xf (f:=LV.i) (Xp V);have ht:=zgd V;have I:=zjj V;generalize gd (Ov o) O=x at *;obtain⟨x0,xr⟩:=jT x I;obtain⟨xn,rfl⟩:=H0 x0;have U:xn<r:=J
  have gz:(m.map LV.bool)[xn]?=some (.bool (Pj m (xn:Int))):=by simp[Pj,gL,U]
  cases A:Pj m (xn:Int) with
  |false =>
   have X:=zr8 I A;rw[g,H6 X]at C;simp at C;subst C;rw[A]at gz;simp[F,E,H,gg,V,Nd hg,Y,U,Nd gz]
  |true =>
   rw[A]at gz;simp[F,E,H,gg,V,Nd hg,Y,U,Nd gz];refine⟨J,gF _ _ _ ⟨N3-1,J,O+1,rfl,J,Ae,Ak,Bi,Af,Bl,Ah,Bd,by simp,rfl,λy T=>?_⟩⟩;rw[ht]at T;rcases Is.1 T with T|T
   ·exact Q y T
   ·simp at T;rw[T];exact A
 rw[Il J]at Q;rw[Hx (by rw[zmq Q];simp)]at g;clear gF Q;simp[z,F,K,E,R,j,H,gg,V];refine O8 (λL gU gD N=>∃(O gA:Nat) (m2:List Bool),gU=[]∧N+O=(Ng o).length∧lk L 1=.ptr 0 0∧lk L 6=.dy 1 0∧lk L 7=v∧lk L 8=.i i∧lk L 9=.ptr jZ 0∧lk L 10=.lst ((Ng o).map .i) (Ng o).length 1∧lk L 14=.i O∧gD.length=G3.length∧(∀q,q≠1→gD[q]?=G3[q]?)∧gD[1]?=some (.dyn (m2.map .bool) r 1 0 gA)∧m2.length=r∧m2=((Ng o).take O).foldl (λm r=>m.set r.toNat true) m) (N:=(Ng o).length)
  ⟨0,st,m,rfl,J,Ae,Ak,Bi,Af,Bl,Ah,by simp,rfl,λ_ _=>rfl,Y,gL,by simp⟩ ?_
 clear z F K E R j H gg;rintro N4 L gU G4 ⟨O,gA,m2,rfl,zz,z,F,K,E,R,j,g8,jP,gC,gG,gQ,gR⟩ zA gH;by_cases gk:O<(Ng o).length
 ·have hg:=Xf (f:=LV.i) (Xp gk);have ht:=zgd gk;have I:=zjj gk;generalize gd (Ng o) O=x at *;obtain⟨x0,xr⟩:=jU x I;obtain⟨xn,rfl⟩:=H0 x0;have U:xn<r:=J
  have e1:Oo (m2.map LV.bool) xn [.bool true]=(m2.set xn true).map LV.bool:=by
   rw[gM _ _ _ Ab,Ji]
  simp[F,j,g8,gk,Nd hg,gG,U,gQ,e1];refine⟨J,J,gH _ _ _ ⟨N4-1,J,O+1,gA+1,m2.set xn true,rfl,J,Ae,Ak,Bi,Af,Bl,Ah,by simp,by simp[jP],λq hq=>?_,?_,by simp[gQ],?_⟩⟩
  ·rw[Hy (Ne.symm hq)];exact gC q hq
  ·rw[←Ji];exact H8 (by have:=(Hv.1 gG).1;exact this)
  ·rw[ht,List.foldl_append,←gR];simp
 rw[Il J]at gR;have g9:O7 2 G4 v 1 D.length (D.map .i):=gZ.frame λq h _=>gC q J
 have jg:G4[0]?=some (.cells (Ni r B os) 0):=(gC 0 J).trans jM;have jz:G4[jZ]?=_:=(gC jZ J).trans gO;rw[←gR]at g;clear gH;simp[z,F,K,E,R,j,g8,gk,jz,P];refine⟨J,next _ _ m2 D v gA g Ae Ak Bi (by simp) jg gG gQ g9 J jB jQ⟩
def zh4:LC:=(.q [.x 1 0,.e 2] (.q [.L 10 3 1,.w 11 78 10,.m 9 11,.X 12 0 9,.X 13 1 9,.m 3 12,.m 4 13] (.seq (.q [.m 14 4,.b 15 .neq 35 14 0] (.cond (.t 15) (.q [.e 2] .ret) .skip)) (.q [.f 16 2 1,.l 17 16,.s 18 17,.z 19 (.mkSl 1 [(.i 0)] (.t 18) (.t 18)),.m 5 19] (.q [.e 6] (.seq (.q [.K 7 0] (.block 0 (.loop (.seq (.q [.m 20 7,.f 21 2 1,.l 22 21,.s 23 22,.c 24 .lss 3 20 23] (.cond (.t 24) .skip (.exit 0))) (.seq (.block 1 (.q [.m 27 5,.m 28 7,.I 29 1 27 28,.v (.store 1 (.t 29) (.k (-1)))] (.q [.f 30 2 1,.l 31 30,.m 32 7,.I 33 8 31 32,.f 34 0 33,.l 35 34] (.block 2 (.q [.b 37 .eql 3 35 16,.m 36 37] (.cond (.t 36) (.ops [.m 38 6,.m 39 7,.z 40 (.buildSl 1 1 [(.i 0)] [(0,1,.t 39)]),.a 41 1 38 40,.m 6 41]) (.q [.b 43 .eql 3 35 17,.m 42 43] (.cond (.t 42) (.q [.m 44 6,.m 45 6,.s 46 45,.b 47 .sub 3 46 1,.I 48 1 44 47,.l 49 48,.m 8 49] (.q [.m 50 6,.m 51 6,.s 52 51,.b 53 .sub 3 52 1,.z 54 (.slSl 1 (.t 50) none (some (.t 53))),.m 6 54] (.ops [.m 55 5,.m 56 7,.m 57 5,.m 58 8,.m 59 8,.m 60 7,.I 61 1 55 56,.S 1 61 59,.I 62 1 57 58,.S 1 62 60]))) .skip)))))))) (.ops [.m 25 7,.b 26 .add 3 25 1,.m 7 26])))))) (.q [.m 63 5,.m 2 63] .ret)))))))
def r_ref12_Ends:Nm Tryz.prog 87=some ⟨64,zh4.r,[.tmp 2]⟩:=Aa
def zfi:LC:=(.q [.x 1 0,.K 2 0] (.q [.L 11 3 1,.w 12 78 11,.m 10 12,.X 13 0 10,.X 14 1 10,.m 3 13,.m 4 14] (.seq (.q [.m 15 4,.b 16 .neq 35 15 0] (.cond (.t 16) (.q [.K 2 0] .ret) .skip)) (.q [.e 5] (.q [.K 6 0] (.q [.e 7] (.seq (.q [.K 8 0] (.block 0 (.loop (.seq (.q [.m 17 8,.f 18 2 1,.l 19 18,.s 20 19,.c 21 .lss 3 17 20] (.cond (.t 21) .skip (.exit 0))) (.seq (.block 1 (.q [.f 24 2 1,.l 25 24,.m 26 8,.I 27 8 25 26,.f 28 0 27,.l 29 28] (.block 2 (.q [.b 34 .eql 3 29 16,.m 33 34] (.cond (.t 33) (.seq (.draw [(.m 35 5,[]),(.m 36 6,[]),(.z 37 (.buildSl 1 1 [(.i 0)] [(0,1,.t 36)]),[]),(.m 39 7,[]),(.f 40 2 1,[]),(.l 41 40,[]),(.m 42 8,[]),(.I 43 8 41 42,[]),(.f 44 7 43,[]),(.l 45 44,[]),(.z 46 (.cvInt .i64 (.t 45)),[]),(.z 47 (.buildSl 1 1 [(.i 0)] [(0,1,.t 46)]),[(.l 45 44,false),(.l 41 40,false),(.z 37 (.buildSl 1 1 [(.i 0)] [(0,1,.t 36)]),true)]),(.a 38 1 35 37,[(.z 47 (.buildSl 1 1 [(.i 0)] [(0,1,.t 46)]),true),(.l 45 44,false),(.l 41 40,false)]),(.a 48 1 39 47,[]),(.m 5 38,[]),(.m 7 48,[])]) (.ops [.K 6 1])) (.q [.b 50 .eql 3 29 17,.m 49 50] (.cond (.t 49) (.q [.m 51 5,.s 52 51,.b 53 .sub 3 52 1,.m 9 53] (.seq (.q [.m 54 6,.m 55 7,.m 56 9,.I 57 1 55 56,.l 58 57,.z 59 (.bin .quo true 3 (.k 1125899906842624) (.t 58)),.c 60 .gtr 3 54 59] (.cond (.t 60) (.ops [.K 6 1125899906842624]) (.ops [.m 61 6,.m 62 7,.m 63 9,.I 64 1 62 63,.l 65 64,.c 66 .mul 3 61 65,.m 6 66]))) (.q [.m 67 6,.m 68 5,.m 69 9,.I 70 1 68 69,.l 71 70,.c 72 .add 3 67 71,.z 73 (.maxi false (.k 1125899906842624) (.t 72)),.m 6 73] (.draw [(.m 74 5,[]),(.m 75 9,[]),(.z 76 (.slSl 1 (.t 74) none (some (.t 75))),[]),(.m 77 7,[]),(.m 78 9,[]),(.z 79 (.slSl 1 (.t 77) none (some (.t 78))),[]),(.m 5 76,[]),(.m 7 79,[])])))) (.ops [.m 30 6,.b 31 .add 3 30 1,.z 32 (.maxi false (.k 1125899906842624) (.t 31)),.m 6 32])))))))) (.ops [.m 22 8,.b 23 .add 3 22 1,.m 8 23])))))) (.q [.m 80 6,.m 2 80] .ret))))))))
def r_ref12_Steps:Nm Tryz.prog 85=some ⟨81,zfi.r,[.tmp 2]⟩:=Aa
def zbm:LC:=(.q [.x 2 0,.F 4] (.seq (.q [.m 7 1,.s 8 7,.f 9 1 2,.l 10 9,.s 11 10,.c 12 .neq 3 8 11] (.cond (.t 12) (.q [.F 4] .ret) .skip)) (.seq (.q [.K 5 0] (.block 0 (.loop (.seq (.q [.m 13 5,.m 14 1,.s 15 14,.c 16 .lss 3 13 15] (.cond (.t 16) .skip (.exit 0))) (.seq (.block 1 (.q [.f 19 1 2,.l 20 19,.m 21 5,.I 22 3 20 21,.f 23 0 22,.l 24 23,.m 6 24] (.seq (.q [.f 25 1 2,.l 26 25,.m 27 5,.I 28 3 26 27,.f 29 1 28,.l 30 29,.b 31 .eql 3 30 3] (.cond (.t 31) (.ops [.K 6 0]) .skip)) (.q [.m 32 1,.m 33 5,.I 34 1 32 33,.l 35 34,.s 36 35,.m 37 6,.c 38 .neq 3 36 37] (.cond (.t 38) (.q [.F 4] .ret) .skip))))) (.ops [.m 17 5,.b 18 .add 3 17 1,.m 5 18])))))) (.q [.z 4 (.move .T)] .ret))))
def r_ref12_Rows:Nm Tryz.prog 86=some ⟨39,zbm.r,[.tmp 4]⟩:=Aa
def zme{g:Int}{z:List Bf}:∀(l:List Lo) (i:Nat) (m:List Bool) (A:List Int),(fe g z i m A l).2=0→∀o∈l,P9 g z o=true
 |[],_,_,_,_,o,ho=>by cases ho
 |o::l,i,m,A,h,x,B=>by
  unfold fe at h;by_cases j:(Uz g z m A o).1=0
  ·rw[H6 j]at h;rcases Ig.1 B with rfl|B
   ·cases C:P9 g z x with
    |true=>rfl
    |false =>
     unfold Uz at j;rw[H6 C]at j;exact absurd (show (2:Int)=0 from j) Ad
   ·exact zme l _ _ _ h x B
  ·rw[Hx j]at h;exact absurd h j
def z7i{os:List Lo}(h:(Qp z Z os).2=0):0≤z∧z≤64∧Z.length≤32∧os.length≤65536∧(∀b∈Z,1≤b.size∧b.size≤65536)∧∀o∈os,P9 z Z o=true:=by
 unfold Qp at h;split at h
 ·exact absurd h Ad
 split at h
 ·exact absurd h Ad
 split at h
 ·exact absurd h Ad
 split at h
 ·exact absurd h Ad
 rename_i B g C j;refine⟨J,J,J,J,λb A=>?_,zme _ _ _ _ h⟩;rw[Jc]at g j;have D:¬65536<b.size:=λq=>g ⟨b,A,by simpa using q⟩
 have E:¬b.size<1:=λq=>j ⟨b,A,by simp[q]⟩
 omega
def zo6{o:Lo}(h:P9 z Z o=true)(k:o.kind=16):1≤o.imm.toNat∧o.imm.toNat≤1048576:=by
 unfold P9 at h;simp[k,Pg]at h;obtain⟨_,_,_,_,_,_,_,g,j⟩:=h;have g:=J3.1 g;have j:=J3.1 j;exact⟨g,j⟩
def skC(l:List Nat):List LV:=l.reverse.map λ(a:Nat)=>LV.i (a:Int)
def zok(a:Nat)(l:List Nat):skC (a::l)=skC l++[.i (a:Int)]:=by simp[skC]
def zt7(l:List Nat):(skC l).length=l.length:=by simp[skC]
def rh{l:List Lo}{i:Nat}{v:Lo}(h:l[i]?=some v):(Qu l)[i*8]?=some (.i v.kind):=by have:=zqh h (j:=0) J;simpa [Lo.f] using this
def lo_at7{l:List Lo}{i:Nat}{v:Lo}(h:l[i]?=some v):(Qu l)[i*8+7]?=some (.u v.imm):=by have:=zqh h (j:=7) J;simpa [Lo.f] using this
def zxf{l:List LV}{i:Nat}{x:LV}(h:i<l.length):Oo l i [x]=l.set i x:=by
 rw[I5,H6 h];simp[Oo]
def layI(l:List Int)(i:Nat)(x:Int)(h:i<l.length):Oo (l.map LV.i) i [.i x]=(l.set i x).map LV.i:=by
 rw[Ji,I5,H6 Ax];simp[Oo]
def repIs(n:Nat):Ph [.i 0] n=(List.replicate n (0:Int)).map LV.i:=by
 induction n with
 |zero=>rfl
 |succ n g=>rw[Ph,g,Kz];rfl
def zn4{os:List Lo}(hc:(Qp z Z os).2=0)(D:Vs Ql 0 os):Oz 87 [.agg (Ni z Z os)] (.lst ((Vk 0 [] (List.replicate os.length 0) os).map .i) os.length 1):=by
 obtain⟨_,_,_,gH,_,gA⟩:=z7i hc;refine Sd.mk Gp (Nn r_ref12_Ends Aa (by simp) ?_);simp[zh4,Ni];refine Ns (z4m z Z os) (bors_self _ Bc) ?_;obtain⟨gG,hE⟩:∃gG,Vk 0 [] (List.replicate os.length 0) os=gG:=⟨_,rfl⟩;have gI:gG.length=os.length:=by rw[←hE,endsR_len];simp
 rw[hE];simp[hc];refine⟨J,?_⟩;refine O8 (λρ gM gg N=>∃(i st:Nat) (j:List Int) (B:List Nat) (v:LV),gM=[]∧N+i=os.length∧lk ρ 1=.ptr 0 0∧lk ρ 5=.dy 1 0∧lk ρ 6=v∧lk ρ 7=.i i∧gg[0]?=some (.cells (Ni z Z os) 0)∧gg[1]?=some (.dyn (j.map .i) os.length 1 0 st)∧j.length=os.length∧O7 2 gg v 1 B.length (skC B)∧2≤gg.length ∧
   (∀a∈B,a<i)∧B.length≤i∧Vs Ql B.length (os.drop i)∧Vk i B j (os.drop i)=gG) (N:=os.length)
  ⟨0,0,List.replicate os.length 0,[],.nilSl,rfl,J,by simp,by simp,by simp,by simp,B0,by simp[repIs],by simp,O7.nil,by simp,by simp,by simp,Ft,by simpa using hE⟩ ?_
 clear D;rintro N ρ gM gg ⟨i,st,j,B,v,rfl,hN,K,I,T,P,E,G,g,gC,U,H,L,D,F⟩ Nx M;by_cases gz:i<os.length
 case neg =>
  rw[J0 J]at F;have:j=gG:=F;subst this;simp[K,I,P,E,Ni,gz,Of,bor,G,cq]
 have ho:=zh2 gz;have O:=rh ho;have gK:=gA _ (Io ho);rw[zhy gz]at F D;generalize ko os i=o at *;have l0:0<gg.length:=J
 have l1:1<gg.length:=J
 have gL:=zne gz;unfold Vk at F;unfold Vs at D;have Q:∀x:LObj,(gg.set 1 x)[0]?=some (.cells (Ni z Z os) 0):=λx=>by rw[Hy J];exact E
 have s1:∀x:LObj,(gg.set 1 x)[1]?=some x:=λx=>H8 l1
 have R:∀x:LObj,O7 2 (gg.set 1 x) v 1 B.length (skC B):=λx=>gC.set_lt J
 by_cases A:o.kind=16
 ·rw[H6 A]at F;rw[H6 (by simp[Ql,A])]at D;simp[K,I,T,P,E,G,Ni,gz,g,layI,↓Q,Nd O,A]
  repeat (refine⟨J,?_⟩)
  refine O7.push (x:=[.i (i:Int)]) (R _).push_end J Ab J rfl rfl λv' G5 gD V gE _=>?_
  simp[P];refine⟨J,M _ _ _ ⟨N-1,J,i+1,st+1,j.set i (-1),i::B,v',rfl,J,Bi,A0,by simp,by simp,?_,?_,A9,by rw[zok];exact gD,by simp at gE;omega,λa ha=>?_,Ab,D,F⟩⟩
  ·rw[V 0 J,Nv (by simpa using l0)];exact Q _
  ·rw[V 1 J,Nv (by simpa using l1),←Ji];exact s1 _
  ·rcases Ig.1 ha with rfl|ha
   ·omega
   ·have:=H a ha;omega
 by_cases C:o.kind=17
 ·rw[Hx A,H6 C]at F;rw[Hx (by simp[Ql,C]),H6 (by simp[Ql,C])]at D;obtain⟨hd,D⟩:=D;cases B with
  |nil=>simp at hd
  |cons a B =>
  have ha:=H a (I9 ..);simp[K,I,T,P,E,G,Ni,gz,g,layI,↓Q,Nd O,A,C]
  repeat (refine⟨J,?_⟩)
  refine (R _).lenL ?_;simp;refine⟨by simp at L;omega,(R _).at1 J Ab λw hw=>?_⟩;simp;refine hw _ ?_;have X:(skC (a::B))[B.length]?=some (.i (a:Int)):=by
   rw[zok,Im (by rw[zt7];exact H9 _)];simp[zt7]
  simp only[In];refine⟨_,X,?_⟩;simp[T];refine (R _).lenL ?_;simp;refine⟨by simp at L;omega,(R _).cut (m:=B.length) (by simp) (λK' k'=>k') (λd K' k'=>⟨J,k'⟩) λv' Y=>?_⟩;have gF:a<os.length:=J
  simp[I,P,↓s1,gz,g,zxf,gF];rw[zok,Ky (by rw[zt7];omega)]at Y
  repeat (refine⟨J,?_⟩)
  refine M _ _ _ ⟨N-1,J,i+1,st+1+1+1,((j.set i (-1)).set i a).set a i,B,v',rfl,J,Bi,A0,by simp,by simp,?_,?_,A9,?_,Fq,λx X=>by have:=H x (Ik _ X);omega,by simp at L;omega,?_,F⟩
  ·exact Q _
  ·rw[H8 (by simpa using l1)];simp
  ·have h:=Y.set_lt (q:=1) (ob:=.dyn ((((j.map LV.i).set i (.i (-1))).set i (.i a)).set a (.i i)) os.length 1 0 (st+1+1+1)) J;rw[List.set_set]at h;simpa using h
  ·simpa using D
 rw[Hx A,Hx C]at F;rw[Hx (by simp[Ql,A];split<;>simp),Hx (by simp[Ql,A,C])]at D;simp[K,I,T,P,E,G,Ni,gz,g,layI,↓Q,Nd O,A,C]
 repeat (refine⟨J,?_⟩)
 refine M _ _ _ ⟨N-1,J,i+1,st+1,j.set i (-1),B,v,rfl,J,Bi,A0,Ch,by simp,Q _,?_,A9,R _,Fq,λx X=>by have:=H x X;omega,J,D.2,F⟩;rw[←Ji];exact s1 _
def s1C(l:List (Int×Int)):List LV:=l.reverse.map λe=>LV.i e.1
def s2C(l:List (Int×Int)):List LV:=l.reverse.map λe=>LV.i e.2
def zi0(a:Int×Int)(l:List (Int×Int)):s1C (a::l)=s1C l++[.i a.1]:=by simp[s1C]
def zi6(a:Int×Int)(l:List (Int×Int)):s2C (a::l)=s2C l++[.i a.2]:=by simp[s2C]
def zno(l:List (Int×Int)):(s1C l).length=l.length:=by simp[s1C]
def zn6(l:List (Int×Int)):(s2C l).length=l.length:=by simp[s2C]
def zl4{os:List Lo}(hc:(Qp z Z os).2=0)(G:Vs Ql 0 os):Nj 85 [.agg (Ni z Z os)] (.i (V8 [] 0 os)) []:=by
 obtain⟨_,_,_,jz,_,gM⟩:=z7i hc;refine Od.val rfl (Nn r_ref12_Steps Aa (by simp) ?_);simp[zfi,Ni];refine Ns (z4m z Z os) (bors_self _ Bc) ?_;obtain⟨jg,B⟩:∃jg,V8 [] 0 os=jg:=⟨_,rfl⟩;rw[B];simp[hc];refine O8 (λρ jD gC N=>∃(i:Nat) (s:Int) (g:List (Int×Int)) (v w:LV),jD=[]∧N+i=os.length∧lk ρ 1=.ptr 0 0∧lk ρ 5=v∧lk ρ 6=.i s∧lk ρ 7=w∧lk ρ 8=.i i∧gC[0]?=some (.cells (Ni z Z os) 0)∧O7 1 gC v 1 g.length (s1C g)∧O7 1 gC w 1 g.length (s2C g)∧(∀q,dz v=some q→dz w≠some q)∧1≤gC.length ∧
   (0≤s∧s≤1125899906842624)∧(∀e∈g,(0≤e.1∧e.1≤1125899906842624)∧1≤e.2∧e.2≤1048576)∧g.length≤i∧Vs Ql g.length (os.drop i)∧V8 g s (os.drop i)=jg) (N:=os.length)
  ⟨0,0,[],.nilSl,.nilSl,rfl,J,by simp,by simp,by simp,by simp,by simp,B0,O7.nil,O7.nil,by simp[dz],by simp,by simp,by simp,by simp,Bs,by simpa using B⟩ ?_
 clear G B;rintro N ρ jD gC ⟨i,s,g,v,w,rfl,hN,P,M,R,Q,T,j,hv,hw,C,U,⟨gD,D⟩,I,gO,G,B⟩ Nx O;by_cases gP:i<os.length
 case neg =>
  rw[J0 J]at B;have:s=jg:=B;subst this;simp[P,M,R,T,j,Ni,gP]
 have ho:=zh2 gP;have V:=rh ho;have gQ:=lo_at7 ho;have gR:=gM _ (Io ho);rw[zhy gP]at B G;generalize ko os i=o at *;have l0:0<gC.length:=J
 have jA:=zne gP;have g9:i*8+7<(Qu os).length:=J
 unfold V8 at B;unfold Vs at G;by_cases A:o.kind=16
 ·rw[H6 A]at B;rw[H6 (by simp[Ql,A])]at G;obtain⟨t1,t2⟩:=zo6 gR A;have e1:0≤((o.imm.toNat:Nat):Int):=J
  have q0:∀x:List LObj,(gC++x)[0]?=some (.cells (Ni z Z os) 0):=λx=>(Nv l0).trans j
  have z0:∀(x:List LObj) (h:0<(gC++x).length),(gC++x)[0]=.cells (Ni z Z os) 0:=λx h=>Option.some.inj ((H7 h).symm.trans (q0 x))
  simp[P,M,R,Q,T,j,Ni,gP,Nd V,Nd gQ,A,↓q0,z0];refine⟨J,?_⟩;refine O7.push2 (x:=[.i s]) hv.push_end J (by simp) J rfl rfl λX G5 Y gg gT gU=>?_
  simp at gT;have gE:G5[0]?=some (.cells (Ni z Z os) 0):=by rw[gg 0 (by simp) (λe=>by have:=(hv.row e).1;omega)];exact q0 _
  have gV:G5[gC.length+1]?=some (.dyn [.i (o.imm.toNat:Int)] 1 1 0 0):=by
   rw[gg _ (by simp) (λe=>by have:=(hv.row e).2.1;omega),Im J,(J:gC.length+1-gC.length=1)];rfl
  have gF:O7 1 G5 w 1 g.length (s2C g):=(hw.push_end (ob:=[.dyn [.i s] 1 1 0 0,.dyn [.i (o.imm.toNat:Int)] 1 1 0 0])).frame2 λq H=>gg q (by have:=(hw.row H).2.1;simp;omega) (λe=>C q e H)
  simp[gE,gV,Ni,z0];refine O7.push2 (x:=[.i (o.imm.toNat:Int)]) gF J J J rfl rfl λw' G6 gY gG jB gZ=>?_
  have gH:∀q,dz X=some q→dz w≠some q:=λq H e=>by
   rcases gU with h|h
   ·exact C q (by rw[←h];exact H) e
   ·rw[h]at H;have:=(hw.row e).2.1;have H:=Option.some.inj H;simp at H;omega
  have g8:O7 1 G6 X 1 (g.length+1) (s1C g++[.i s]):=Y.frame2 λq H=>gG q (Y.row H).2.1 (gH q H)
  have gI:G6[0]?=some (.cells (Ni z Z os) 0):=by rw[gG 0 J (λe=>by have:=(gF.row e).1;omega)];exact gE
  simp[gI,Ni,T];refine⟨J,O _ _ _ ⟨N-1,J,i+1,1,(s,(o.imm.toNat:Int))::g,X,w',rfl,J,F2,by simp,by simp,by simp,by simp,gI,by rw[zi0];exact g8,by rw[zi6];exact gY,λq H=>?_,J,⟨J,J⟩,λe he=>?_,Ab,G,B⟩⟩
  ·rcases gZ with h|h
   ·rw[h];exact gH q H
   ·rw[h];have:=(Y.row H).2.1;intro e;have e:=Option.some.inj e;omega
  ·rcases Ig.1 he with rfl|he
   ·exact⟨⟨gD,D⟩,by show (1:Int)≤_;omega,by show _≤(1048576:Int);omega⟩
   ·exact I e he
 by_cases E:o.kind=17
 ·rw[Hx A,H6 E]at B;rw[Hx (by simp[Ql,E]),H6 (by simp[Ql,E])]at G;obtain⟨hd,G⟩:=G;cases g with
  |nil=>simp at hd
  |cons a g =>
  obtain⟨a0,L⟩:=a;obtain⟨⟨b0,b1⟩,b2,b3⟩:=I _ (I9 ..);dsimp only at b0 b1 b2 b3 B;have gK:(s1C ((a0,L)::g))[g.length]?=some (.i a0):=by
   rw[zi0,Im (by rw[zno];exact H9 _)];simp[zno]
  have gL:(s2C ((a0,L)::g))[g.length]?=some (.i L):=by
   rw[zi6,Im (by rw[zn6];exact H9 _)];simp[zn6]
  simp[P,M,R,Q,T,j,Ni,gP,Nd V,A,E];refine hv.lenL ?_;simp[Q,R];simp at gO;refine⟨J,hw.at1 J Ab λx hx=>?_⟩;simp;refine hx _ ?_;simp only[In];refine⟨_,gL,?_⟩;simp[R];have ht:Int.tdiv 1125899906842624 L=1125899906842624/L:=Int.tdiv_eq_ediv_of_nonneg J;rw[ht];have t0:0≤1125899906842624/L:=Int.ediv_nonneg J J;have t1:1125899906842624/L≤1125899906842624:=Int.ediv_le_self _ J;refine⟨J,J,λq=>?_,λq=>?_⟩
  ·rw[H6 q]at B;simp[M];refine hv.at1 J Ab λy hy=>?_
   simp;refine hy _ ?_;simp only[In];refine⟨_,gK,?_⟩;simp[M]
   repeat (refine⟨J,?_⟩)
   refine hv.cut2 (m:=g.length) (by simp) (λK' F=>F) (λd K' F=>F) λX D gz=>?_
   simp[Q];refine hw.cut2 (m:=g.length) (by simp) (λK' F=>F) (λd K' F=>F) λw' K gA=>?_
   rw[zi0,Ky (by rw[zno];omega)]at D;rw[zi6,Ky (by rw[zn6];omega)]at K;simp[T,j,Ni];refine⟨J,O _ _ _ ⟨N-1,J,i+1,_,g,X,w',rfl,J,F2,by simp,by simp,by simp,by simp,j,D,K,λq=>by rw[gz,gA];exact C q,U,⟨J,J⟩,λe he=>I e (Ik _ he),J,Bs,B⟩⟩
  ·rw[Hx J]at B;have hm:0≤s*L:=Int.mul_nonneg gD J;have jC:s*L≤1125899906842624:=Int.le_trans (Int.mul_le_mul_of_nonneg_right (J:s≤1125899906842624/L) J) (Int.ediv_mul_le _ J);simp[R,Q];refine hw.at1 J Ab λjE hz=>?_
   simp;refine hz _ ?_;simp only[In];refine⟨_,gL,?_⟩;simp[M]
   repeat (refine⟨J,?_⟩)
   refine hv.at1 J Ab λy hy=>?_
   simp;refine hy _ ?_;simp only[In];refine⟨_,gK,?_⟩;simp[M]
   repeat (refine⟨J,?_⟩)
   refine hv.cut2 (m:=g.length) (by simp) (λK' F=>F) (λd K' F=>F) λX D gz=>?_
   simp[Q];refine hw.cut2 (m:=g.length) (by simp) (λK' F=>F) (λd K' F=>F) λw' K gA=>?_
   rw[zi0,Ky (by rw[zno];omega)]at D;rw[zi6,Ky (by rw[zn6];omega)]at K;simp[T,j,Ni];refine⟨J,O _ _ _ ⟨N-1,J,i+1,_,g,X,w',rfl,J,F2,by simp,by simp,by simp,by simp,j,D,K,λq=>by rw[gz,gA];exact C q,U,⟨J,J⟩,λe he=>I e (Ik _ he),J,Bs,B⟩⟩
 rw[Hx A,Hx E]at B;rw[Hx (by simp[Ql,A];split<;>simp),Hx (by simp[Ql,A,E])]at G;simp[P,M,R,Q,T,j,Ni,gP,Nd V,A,E]
 repeat (refine⟨J,?_⟩)
 refine O _ _ _ ⟨N-1,J,i+1,_,g,v,w,rfl,J,F2,Ay,by simp,F0,by simp,j,hv,hw,C,U,⟨J,J⟩,I,J,G.2,B⟩
section
def z8s:LC:=(.q [.z 4 (.move (.c (.u 0)))] (.seq (.q [.m 5 1,.b 6 .lss 3 5 0] (.cond (.t 6) (.q [.z 4 (.move (.c (.u 0)))] .ret) .skip)) (.q [.m 7 0,.N 8 7,.f 9 3 8,.l 10 9,.m 11 1,.I 12 1 10 11,.l 13 12,.m 4 13] .ret)))
def r_ref12_run_at:Nm Tryz.prog 148=some ⟨14,z8s.r,[.tmp 4]⟩:=Aa
def zdk:LC:=(.q [.F 4] (.q [.m 17 0,.N 18 17,.f 19 0 18,.f 20 2 19,.l 21 20,.m 22 1,.I 23 8 21 22,.L 24 8 23,.z 5 (.alloc [(.i 0),(.i 0),(.i 0),(.i 0),(.i 0),(.i 0),(.i 0),(.u 0)]),.S 8 5 24] (.seq (.draw [(.m 25 0,[]),(.f 26 3 5,[]),(.l 27 26,[]),(.m 29 0,[]),(.f 30 4 5,[]),(.l 31 30,[]),(.m 33 0,[]),(.f 34 5 5,[]),(.l 35 34,[]),(.W 28 148 25 27,[(.l 35 34,false),(.l 31 30,false)]),(.W 32 148 29 31,[(.l 35 34,false)]),(.W 36 148 33 35,[]),(.u 37 .rem 23 36 2,[]),(.u 38 .eql 23 37 1,[]),(.m 6 28,[]),(.m 7 32,[]),(.m 8 38,[])]) (.q [.K 9 (-1)] (.q [.z 10 (.move (.c (.u 0))),.z 11 (.move (.c (.u 0)))] (.seq (.q [.f 39 0 5,.l 40 39] (.block 0 (.q [.b 42 .eql 3 40 1,.m 41 42] (.cond (.t 41) (.ops [.f 43 7 5,.l 44 43,.m 10 44]) (.q [.b 46 .eql 3 40 2,.m 45 46] (.cond (.t 45) (.ops [.m 47 6,.m 10 47]) (.q [.b 49 .eql 3 40 3,.m 48 49] (.cond (.t 48) (.ops [.m 50 6,.m 51 7,.c 52 .add 23 50 51,.m 10 52]) (.q [.b 54 .eql 3 40 4,.m 53 54] (.cond (.t 53) (.ops [.m 55 6,.m 56 7,.c 57 .sub 23 55 56,.m 10 57]) (.q [.b 59 .eql 3 40 5,.m 58 59] (.cond (.t 58) (.ops [.m 60 6,.m 61 7,.c 62 .and 23 60 61,.m 10 62]) (.q [.b 64 .eql 3 40 6,.m 63 64] (.cond (.t 63) (.ops [.m 65 6,.m 66 7,.c 67 .or 23 65 66,.m 10 67]) (.q [.b 69 .eql 3 40 7,.m 68 69] (.cond (.t 68) (.ops [.m 70 6,.m 71 7,.c 72 .xor 23 70 71,.m 10 72]) (.q [.b 74 .eql 3 40 8,.m 73 74] (.cond (.t 73) (.ops [.m 75 6,.f 76 7 5,.l 77 76,.c 78 .shl 23 75 77,.m 10 78]) (.q [.b 80 .eql 3 40 9,.m 79 80] (.cond (.t 79) (.ops [.m 81 6,.f 82 7 5,.l 83 82,.c 84 .shr 23 81 83,.m 10 84]) (.q [.b 86 .eql 3 40 10,.m 85 86] (.cond (.t 85) (.ops [.m 88 6,.m 89 7,.W 90 91 88 89,.m 87 90,.X 91 0 87,.X 92 1 87,.m 10 91,.m 11 92]) (.q [.b 94 .eql 3 40 11,.m 93 94] (.cond (.t 93) (.q [.m 96 6,.m 97 7,.m 98 8,.V 99 92 96 97 98,.m 95 99,.X 100 0 95,.X 101 1 95,.m 12 100,.m 13 101] (.ops [.m 102 12,.m 103 13,.w 104 149 103,.m 10 102,.m 11 104])) (.q [.b 106 .eql 3 40 12,.m 105 106] (.cond (.t 105) (.q [.m 108 6,.m 109 7,.m 110 8,.V 111 147 108 109 110,.m 107 111,.X 112 0 107,.X 113 1 107,.m 14 112,.m 15 113] (.ops [.m 114 14,.m 115 15,.w 116 149 115,.m 10 114,.m 11 116])) (.q [.b 118 .eql 3 40 13,.m 117 118] (.cond (.t 117) (.q [.m 119 7,.m 10 119] (.q [.m 120 8] (.cond (.t 120) (.ops [.m 121 6,.m 10 121]) .skip))) (.seq (.q [.b 123 .eql 3 40 14,.m 122 123] (.cond (.t 122) .skip (.ops [.b 124 .eql 3 40 15,.m 122 124]))) (.cond (.t 122) (.q [.f 125 7 5,.l 126 125,.m 127 6,.c 128 .add 23 126 127,.m 16 128] (.seq (.seq (.draw [(.m 129 16,[]),(.m 130 0,[]),(.N 131 130,[]),(.f 132 4 131,[]),(.l 133 132,[]),(.f 134 6 5,[]),(.l 135 134,[]),(.I 136 1 133 135,[]),(.l 137 136,[]),(.s 138 137,[]),(.z 139 (.cvInt .u64 (.t 138)),[]),(.c 140 .geq 23 129 139,[])]) (.cond (.t 140) (.q [.F 4] .ret) .skip)) (.q [.m 141 16,.z 142 (.cvInt .i64 (.t 141)),.m 9 142] (.q [.f 143 0 5,.l 144 143,.b 145 .eql 3 144 15] (.cond (.t 145) (.draw [(.m 146 0,[]),(.N 147 146,[]),(.f 148 4 147,[]),(.l 149 148,[]),(.f 150 6 5,[]),(.l 151 150,[]),(.I 152 1 149 151,[]),(.l 153 152,[]),(.m 154 16,[]),(.m 155 7,[]),(.I 156 1 153 154,[]),(.S 1 156 155,[])]) (.draw [(.m 157 0,[]),(.N 158 157,[]),(.f 159 4 158,[]),(.l 160 159,[]),(.f 161 6 5,[]),(.l 162 161,[]),(.I 163 1 160 162,[]),(.l 164 163,[]),(.m 165 16,[]),(.I 166 1 164 165,[]),(.l 167 166,[]),(.m 10 167,[])])))))) .skip)))))))))))))))))))))))))))))) (.seq (.q [.f 168 1 5,.l 169 168,.b 170 .geq 3 169 0] (.cond (.t 170) (.draw [(.m 171 0,[]),(.N 172 171,[]),(.f 173 3 172,[]),(.l 174 173,[]),(.f 175 1 5,[]),(.l 176 175,[]),(.m 177 10,[]),(.I 178 1 174 176,[]),(.S 1 178 177,[])]) .skip)) (.seq (.q [.f 179 2 5,.l 180 179,.b 181 .geq 3 180 0] (.cond (.t 181) (.draw [(.m 182 0,[]),(.N 183 182,[]),(.f 184 3 183,[]),(.l 185 184,[]),(.f 186 2 5,[]),(.l 187 186,[]),(.m 188 11,[]),(.I 189 1 185 187,[]),(.S 1 189 188,[])]) .skip)) (.q [.m 190 0,.m 191 0,.N 192 191,.f 193 5 192,.l 194 193,.m 195 1,.m 196 9,.z 197 (.build [(.i 0),(.i 0)] [(0,1,.t 195),(1,1,.t 196)]),.z 198 (.buildSl 2 1 [(.i 0),(.i 0)] [(0,2,.t 197)]),.a 199 2 194 198,.N 200 190,.f 201 5 200,.S 1 201 199] (.q [.z 4 (.move .T)] .ret))))))))))
def r_ref12_run_do:Nm Tryz.prog 88=some ⟨202,zdk.r,[.tmp 4]⟩:=Aa
def Xu(bs:List Bf)(X:List (List UInt64)):Bool:=decide (X.length=bs.length∧∀i,i<bs.length→((X.getD i []).length:Int)=if (Nw bs i).kind=3 then 0 else (Nw bs i).size)
def zns(regs:Int)(bs:List Bf)(os:List Lo)(F:List (List UInt64))(hX:F.length≤9223372036854775807):Nj 86 [.agg (Ni regs bs os),LN F] (.bool (Xu bs F)) []:=by
 refine Od.val rfl (Nn r_ref12_Rows Aa (by simp) ?_);by_cases I:F.length=bs.length
 case neg =>
  have T:¬(F.length:Int)=bs.length:=J
  simp[zbm,Ni,Xu,I,T]
 simp[zbm,Ni,I];refine O8 (λY gg G N=>∃i:Nat,gg=[]∧G=[.cells (Ni regs bs os) 0]∧N+i=bs.length∧lk Y 1=LN F∧lk Y 2=.ptr 0 0∧lk Y 5=.i i∧∀B,B<i→((F.getD B []).length:Int)=if (Nw bs B).kind=3 then 0 else (Nw bs B).size) (N:=bs.length)
  ⟨0,rfl,B0,J,A0,by simp,by simp,λB h=>J⟩ ?_
 rintro N Y gg G ⟨i,rfl,rfl,hN,C,D,K,X⟩ Nx M;by_cases R:i<bs.length
 case neg =>
  have:Xu bs F=true:=by
   unfold Xu;exact Jj ⟨I,λB Z=>X B J⟩
  simp[C,D,K,I,R,this]
 have P:=zfo (Sl R);have Q:=zma (Sl R);have O:i<F.length:=J
 have j:¬F.length≤i:=J
 obtain⟨x,U⟩:∃x,F.getD i []=x:=⟨_,rfl⟩;have z:F[i]=x:=by rw[←U];simp[O]
 have A:¬(x.length:Int)=(if (Nw bs i).kind=3 then 0 else (Nw bs i).size)→Xu bs F=false:=λh=>by
  unfold Xu;exact Lz (λq=>h (by rw[←U];exact q.2 i R))
 have g:(x.length:Int)=(if (Nw bs i).kind=3 then 0 else (Nw bs i).size)→∀B,B<i+1→((F.getD B []).length:Int)=if (Nw bs B).kind=3 then 0 else (Nw bs B).size:=λh B Z=>by
  by_cases q:B=i
  ·rw[q,U];exact h
  ·exact X B J
 by_cases H:(Nw bs i).kind=3
 ·rw[H6 H]at A g;by_cases e:(x.length:Int)=0
  ·have V:x=[]:=Iq J;have E:=g e;subst V;simp[C,D,K,Ni,R,O,j,Nd P,Nd Q,H,z]
   repeat (refine⟨J,?_⟩)
   exact M _ _ _ ⟨N-1,J,i+1,rfl,B0,J,Al,Ao,by simp,E⟩
  ·have e':x≠[]:=λq=>e Fj
   simp[C,D,K,Ni,R,O,j,Nd P,Nd Q,H,z,e',A e]
 ·rw[Hx H]at A g;by_cases e:(x.length:Int)=(Nw bs i).size
  ·simp[C,D,K,Ni,R,O,j,Nd P,Nd Q,H,z,e]
   repeat (refine⟨J,?_⟩)
   exact M _ _ _ ⟨N-1,J,i+1,rfl,B0,J,Al,Ao,by simp,g e⟩
  ·simp[C,D,K,Ni,R,O,j,Nd P,Nd Q,H,z,e,A e]
def Tz(l:List (Int×Int)):List LV:=l.flatMap λe=>[.i e.1,.i e.2]
def zz9(a b:List (Int×Int)):Tz (a++b)=Tz a++Tz b:=by simp[Tz]
structure MsH (G:M9) (x pr pb kb:Nat) (qs:List Nat) (b:Nat) (regs:Int) (bs:List Bf) (os:List Lo) (L:LV) (s:Ms):Prop where
 xc:∃st,G[x]?=some (.cells [.i regs,.lst (P7 bs) bs.length 3,.lst (Qu os) os.length 8,.dy pr 0,.dy pb kb,L] st)
 rr:∃st,G[pr]?=some (.dyn (s.r.map .u) s.r.length 1 0 st)
 bb:∃st,G[pb]?=some (.dyn (qs.map λq=>.dy q 0) qs.length 1 kb st)
 row:∀j,j<qs.length→∃st,G[qs.getD j 0]?=some (.dyn ((s.bufs.getD j []).map .u) (s.bufs.getD j []).length 1 0 st)
 bl:s.bufs.length=qs.length
 lt:x<b∧pr<b∧pb<b∧x≠pr∧x≠pb∧pr≠pb
 qlt:∀q∈qs,q<b∧q≠x∧q≠pr∧q≠pb
 nd:qs.Nodup
 ev:O7 b G L 2 s.l.length (Tz s.l)
 bG:b≤G.length
section msh
variable {G G' : M9} {x pr pb kb : Nat} {qs : List Nat} {b : Nat} {regs : Int} {bs : List Bf} {os : List Lo} {L : LV} {s : Ms}
def MsH.keep(h:MsH G x pr pb kb qs b regs bs os L s)(hf:∀q,q<G.length→G'[q]?=G[q]?)(hl:G.length≤G'.length):MsH G' x pr pb kb qs b regs bs os L s:=by
 have e:∀{q:Nat} {ob:LObj},G[q]?=some ob→G'[q]?=some ob:=λj=>by rw[hf _ (Hv.1 j).1];exact j
 refine⟨?_,?_,?_,λgg hj=>?_,h.bl,h.lt,h.qlt,h.nd,h.ev.frame λq _ j=>hf q j,I8 h.bG hl⟩
 ·obtain⟨st,h⟩:=h.xc;exact⟨st,e h⟩
 ·obtain⟨st,h⟩:=h.rr;exact⟨st,e h⟩
 ·obtain⟨st,h⟩:=h.bb;exact⟨st,e h⟩
 ·obtain⟨st,h⟩:=h.row gg hj;exact⟨st,e h⟩
def zfz{r:Int}(h:MsH G x pr pb kb qs b regs bs os L s)(B:r<s.r.length)(k:v9 (.u (atR s.r r)) G):Pm (.fn 148) [.ptr x 0,.i r] G v9:=by
 refine Nn r_ref12_run_at Aa N ?_;obtain⟨C,j⟩:=h.xc;obtain⟨D,z⟩:=h.rr;unfold atR at k;by_cases A:r<0
 ·rw[H6 A]at k;simp[z8s,A];exact k
 ·rw[Hx A]at k;obtain⟨n,rfl⟩:=H0 (J:0≤r);have g:n<s.r.length:=J
  have q:(s.r.map LV.u)[n]?=some (.u (s.r.getD n 0)):=by simp[g,Hw]
  rw[In]at k;rw[show s.r.getD n 0=s.r[n] from by simp[Hw,g]]at k;simp[z8s,j,z,g,(J:¬((n:Int)<0))];exact k
def MsH.putr(h:MsH G x pr pb kb qs b regs bs os L s){i:Int}{v:UInt64}{st:Nat}:MsH (G.set pr (.dyn ((Nl s.r i v).map .u) s.r.length 1 0 st)) x pr pb kb qs b regs bs os L ⟨s.i,s.first,Nl s.r i v,s.bufs,s.l⟩:=by
 obtain⟨l1,l2,l3,l4,l5,l6⟩:=h.lt;have j:pr<G.length:=by obtain⟨st,h⟩:=h.rr;exact (Hv.1 h).1
 have gg:(Nl s.r i v).length=s.r.length:=E7
 have ne:∀{q:Nat} {ob:LObj},q≠pr→(G.set pr ob)[q]?=G[q]?:=λhq=>Hy (Ne.symm hq)
 refine⟨?_,⟨st,?_⟩,?_,λgz hj=>?_,h.bl,h.lt,h.qlt,h.nd,h.ev.set_lt l2,by rw[J9];exact h.bG⟩
 ·obtain⟨st,h⟩:=h.xc;exact⟨st,by rw[ne l4];exact h⟩
 ·rw[H8 j];show _=some (LObj.dyn ((Nl s.r i v).map .u) (Nl s.r i v).length 1 0 st);rw[gg]
 ·obtain⟨st,h⟩:=h.bb;exact⟨st,by rw[ne (Ne.symm l6)];exact h⟩
 ·obtain⟨st,h'⟩:=h.row gz hj;refine⟨st,?_⟩;rw[ne (h.qlt _ F4).2.2.1];exact h'
def MsH.sto(h:MsH G x pr pb kb qs b regs bs os L s){j:Nat}{row:List UInt64}{st:Nat}(hj:j<qs.length):MsH (G.set (qs.getD j 0) (.dyn (row.map .u) row.length 1 0 st)) x pr pb kb qs b regs bs os L ⟨s.i,s.first,s.r,s.bufs.set j row,s.l⟩:=by
 obtain⟨l1,l2,l3,l4,l5,l6⟩:=h.lt;obtain⟨q1,q2,q3,q4⟩:=h.qlt (qs.getD j 0) F4;have gz:qs.getD j 0<G.length:=by obtain⟨st,h⟩:=h.row j hj;exact (Hv.1 h).1
 have ne:∀{q:Nat} {ob:LObj},q≠qs.getD j 0→(G.set (qs.getD j 0) ob)[q]?=G[q]?:=λhq=>Hy (Ne.symm hq)
 refine⟨?_,?_,?_,λk hk=>?_,by simpa using h.bl,h.lt,h.qlt,h.nd,h.ev.set_lt q1,by rw[J9];exact h.bG⟩
 ·obtain⟨st,h⟩:=h.xc;exact⟨st,by rw[ne (Ne.symm q2)];exact h⟩
 ·obtain⟨st,h⟩:=h.rr;exact⟨st,by rw[ne (Ne.symm q3)];exact h⟩
 ·obtain⟨st,h⟩:=h.bb;exact⟨st,by rw[ne (Ne.symm q4)];exact h⟩
 ·show ∃gg,_=some (LObj.dyn (((s.bufs.set j row).getD k []).map .u) ((s.bufs.set j row).getD k []).length 1 0 gg);rw[Wn _ _ _ _ _ (by rw[h.bl];exact hj)];by_cases e:k=j
  ·subst e;rw[H6 rfl];exact⟨st,H8 gz⟩
  ·rw[Hx e];obtain⟨gg,h'⟩:=h.row k hk;refine⟨gg,?_⟩;rw[ne (λq=>e ?_)]
   ·exact h'
   ·simp only[Hw,H7 hk,H7 hj,Jx]at q;exact (List.getElem_inj h.nd).1 q
end msh
def zj6{regs:Int}{bs:List Bf}{o:Lo}(h:P9 regs bs o=true):(o.d=-1∨0≤o.d∧o.d<regs)∧(o.e=-1∨0≤o.e∧o.e<regs)∧(o.a=-1∨0≤o.a∧o.a<regs)∧(o.b=-1∨0≤o.b∧o.b<regs)∧(o.c=-1∨0≤o.c∧o.c<regs)∧(o.kind=14∨o.kind=15→0≤o.buf∧o.buf<bs.length):=by
 unfold P9 at h;simp only[Hz]at h;obtain⟨_,d,e,a,b,c,_,m⟩:=h;have f:∀{x:Int} {t:Bool},Q5 regs x t=true→x=-1∨0≤x∧x<regs:=λ{x t} h=>by
  unfold Q5 at h;cases t with
  |true=>simp at h;exact .inr h
  |false=>simp at h;exact .inl h
 refine⟨f d,f e,?_,f b,f c,λk=>?_⟩
 ·simp only[Je,Hz,Ie]at a;exact a.elim f λq=>.inl q.2
 ·rw[H6 (by unfold Pg;simpa using k)]at m;simp only[Hz,Ie]at m;exact⟨m.1,m.2.1⟩
def PhiD(x pr pb kb:Nat)(qs:List Nat)(b:Nat)(regs:Int)(bs:List Bf)(os:List Lo)(L:LV)(s:Ms)(o:Lo)(z:M9)(j:Na)(B:List Nat)(G:M9):Prop :=
 B=[]∧lk j 0=.ptr x 0∧lk j 1=.i s.i∧∃(A:Nat) (d e:UInt64) (pl:Int) (g:List (List UInt64)),lk j 5=.ptr A 0∧b≤A∧G[A]?=some (.cells o.f 1)∧lk j 9=.i pl∧lk j 10=.u d∧lk j 11=.u e ∧
  MsH G x pr pb kb qs b regs bs os L ⟨s.i,s.first,s.r,g,s.l⟩∧U5 o s=some ⟨s.i+1,s.first,Nl (Nl s.r o.d d) o.e e,g,s.l++[((s.i:Int),pl)]⟩∧∀q,q<b→q ∉ qs→G[q]?=z[q]?
def do_any{G:M9}{x pr pb kb:Nat}{qs:List Nat}{b:Nat}{regs:Int}{bs:List Bf}{os:List Lo}{L:LV}{s:Ms}{o:Lo}(h:MsH G x pr pb kb qs b regs bs os L s)(ho:os[s.i]?=some o)(hf:P9 regs bs o=true)(jU:o.kind≠16)(jV:o.kind≠17)(jX:(s.r.length:Int)=regs)(jY:qs.length=bs.length)(jZ:s.l.length≤900000000)
  (gP:∀x∈s.bufs,x.length≤65536)
  (kn:U5 o s=none→∀G',v9 (.bool false) G') (ks:∀s' G' L',U5 o s=some s'→MsH G' x pr pb kb qs b regs bs os L' s'→(∀q,q<b→q≠x→q≠pr→q ∉ qs→G'[q]?=G[q]?)→v9 (.bool true) G'):Pm (.fn 88) [.ptr x 0,.i s.i] G v9:=by
 obtain⟨rd,re,ra,rb,rc,rm⟩:=zj6 hf;have j4:1≤o.kind∧o.kind≤17:=by
  unfold P9 at hf;simp only[Hz,Ie]at hf;exact hf.1
 have hC:o.f=[.i o.kind,.i o.d,.i o.e,.i o.a,.i o.b,.i o.c,.i o.buf,.u o.imm]:=rfl;have gQ:=h.bG;obtain⟨s1,h1⟩:=h.xc;have lx:x<G.length:=(Hv.1 h1).1;have jC:=zcl ho;have jD:=zne (Hv.1 ho).1;have gR:s.i<os.length:=(Hv.1 ho).1;refine Nn r_ref12_run_do Aa N ?_;rw[zdk,zeq,zeq,zeq,zeq,zeq];refine zyu (PhiD x pr pb kb qs b regs bs os L s o G) (λNx F=>?_) (λρ jR G2 hΦ=>?_)
 ·simp[h1,gR,jC,jD,hC];have j:(G++[LObj.cells o.f 1])[G.length]?=some (.cells o.f 1):=Ir;have E:MsH (G++[LObj.cells o.f 1]) x pr pb kb qs b regs bs os L s:=h.keep (λq H=>Nv H) N;have B:∀q,q<b→q ∉ qs→(G++[LObj.cells o.f 1])[q]?=G[q]?:=λq H _=>Nv (I0 H gQ)
  have gH:b≤G.length:=gQ;rw[hC]at j E B;generalize G++[LObj.cells [.i o.kind,.i o.d,.i o.e,.i o.a,.i o.b,.i o.c,.i o.buf,.u o.imm] 1]=G1 at *;generalize G.length=jE at *;refine zfz (r:=o.a) E J ?_;simp[j];refine zfz (r:=o.b) E J ?_;simp[j];refine zfz (r:=o.c) E J ?_;have gg:o.kind≠14→o.kind≠15→U5 o s=some ⟨s.i+1,s.first,Nl (Nl s.r o.d (Oa o (atR s.r o.a) (atR s.r o.b) (decide (atR s.r o.c%2=1))).1) o.e (Oa o (atR s.r o.a) (atR s.r o.b) (decide (atR s.r o.c%2=1))).2,s.bufs,s.l++[((s.i:Int),(-1:Int))]⟩:=λe1 e2=>by
   unfold U5;rw[Hx e1,Hx e2]
  generalize gI:atR s.r o.a=z at *;generalize jF:atR s.r o.b=A at *;generalize j5:atR s.r o.c=vc at *;by_cases km:o.kind=14∨o.kind=15
  ·obtain⟨m0,m1⟩:=rm km;obtain⟨Q,gz⟩:=H0 m0;have I:Q<qs.length:=J
   obtain⟨s3,h3⟩:=E.row Q I;obtain⟨s4,h4⟩:=E.bb;obtain⟨s5,h5⟩:=E.xc;have gE:(qs.map λq=>LV.dy q 0)[Q]?=some (.dy (qs.getD Q 0) 0):=by simp[Hw,I]
   have gK:Ua s.bufs o.buf=s.bufs.getD Q []:=by unfold Ua;rw[gz];rfl
   have gT:(s.bufs.getD Q []).length≤65536:=gP _ (by simp[Hw,h.bl,I]);have gU:=λ(jG:List UInt64) (jH:Nat)=>E.sto (row:=jG) (st:=jH) I
   have j6:=(h.qlt (qs.getD Q 0) (by simp[Hw,I])).1;have jI:qs.getD Q 0∈qs:=by simp[Hw,I]
   have j7:qs.getD Q 0<G1.length:=(Hv.1 h3).1;have Z:iU (((s.bufs.getD Q []).length:Nat):Int)≤o.imm+z↔(s.bufs.getD Q []).length≤(o.imm+z).toNat:=by
    rw[J3,Vu J]
   generalize s.bufs.getD Q []=K at *;generalize qs.getD Q 0=qn at *;generalize hn:(o.imm+z).toNat=n at *;by_cases C:n<K.length
   case neg =>
    have gV:K.length≤n:=J
    have gY:U5 o s=none:=by
     unfold U5;rw[gK,gI,hn,Hx C,Hx C];rcases km with k|k
     ·rw[H6 k]
     ·rw[Hx J,H6 k]
    rcases km with k|k
    ·simp[j,k,h3,h4,h5,gz,I,Nd gE,Vb,Z,gV,Ni];exact kn gY _
    ·simp[j,k,h3,h4,h5,gz,I,Nd gE,Vb,Z,gV,Ni];exact kn gY _
   have gF:¬K.length≤n:=J
   rcases km with k|k
   ·have gL:U5 o s=some ⟨s.i+1,s.first,Nl (Nl s.r o.d K[n]) o.e 0,s.bufs,s.l++[((s.i:Int),(n:Int))]⟩:=by
     unfold U5;rw[gK,gI,hn,H6 k,H6 C];simp[Hw,C]
    simp[j,k,h3,h4,h5,gz,I,Nd gE,Vb,Z,gF,hn,C,Ni]
    repeat (refine⟨J,?_⟩)
    exact F _ _ _ ⟨rfl,N,N,jE,_,_,(n:Int),s.bufs,N,gH,j,N,N,N,E,gL,B⟩
   ·have gL:U5 o s=some ⟨s.i+1,s.first,Nl (Nl s.r o.d 0) o.e 0,s.bufs.set Q (K.set n A),s.l++[((s.i:Int),(n:Int))]⟩:=by
     unfold U5;rw[gK,gI,jF,hn,Hx J,H6 k,H6 C,gz];rfl
    have e1:Oo (K.map LV.u) n [.u A]=(K.set n A).map LV.u:=by
     rw[zxf Cp,Ji]
    simp[j,k,h3,h4,h5,gz,I,Nd gE,Vb,Z,gF,hn,C,Ni,e1]
    repeat (refine⟨J,?_⟩)
    have O:=gU (K.set n A) (s3+1);simp only[Ji,J9]at O;refine F _ _ _ ⟨rfl,N,N,jE,0,0,(n:Int),s.bufs.set Q (K.set n A),N,gH,?_,N,N,N,O,gL,λq H D=>?_⟩
    ·rw[Hy (λe=>by rw[e,j]at h3;cases h3)];exact j
    ·rw[Hy (λe=>D (by rw[←e];exact jI))];exact B q H D
  have jK:o.kind≠14:=λq=>km (.inl q)
  have jL:o.kind≠15:=λq=>km (.inr q)
  have gg:=gg jK jL;have g:∀(ρ':Na),lk ρ' 0=.ptr x 0→lk ρ' 1=.i s.i→lk ρ' 5=.ptr jE 0→lk ρ' 9=.i (-1)→lk ρ' 10=.u (Oa o z A (decide (vc%2=1))).1→lk ρ' 11=.u (Oa o z A (decide (vc%2=1))).2→Nx ρ' [] G1:=by
   intro ρ' R T a5 U gA M;exact F _ _ _ ⟨rfl,R,T,jE,_,_,-1,s.bufs,a5,gH,j,U,gA,M,E,gg,B⟩
  clear gg F h E kn ks;by_cases k1:o.kind=1
  ·have hv:∀c,Oa o z A c=(o.imm,0):=λc=>by unfold Oa;simp[k1]
   rw[hv]at g;simp[j,k1];exact g _ N N N N A6 N
  by_cases k2:o.kind=2
  ·have hv:∀c,Oa o z A c=(z,0):=λc=>by unfold Oa;simp[k2]
   rw[hv]at g;simp[j,k2];exact g _ N N N N A6 N
  by_cases k3:o.kind=3
  ·have hv:∀c,Oa o z A c=(z+A,0):=λc=>by unfold Oa;simp[k3]
   rw[hv]at g;simp[j,k3];exact g _ N N N N A6 N
  by_cases k4:o.kind=4
  ·have hv:∀c,Oa o z A c=(z-A,0):=λc=>by unfold Oa;simp[k4]
   rw[hv]at g;simp[j,k4];exact g _ N N N N A6 N
  by_cases k5:o.kind=5
  ·have hv:∀c,Oa o z A c=(z &&& A,0):=λc=>by unfold Oa;simp[k5]
   rw[hv]at g;simp[j,k5];exact g _ N N N N A6 N
  by_cases k6:o.kind=6
  ·have hv:∀c,Oa o z A c=(z ||| A,0):=λc=>by unfold Oa;simp[k6]
   rw[hv]at g;simp[j,k6];exact g _ N N N N A6 N
  by_cases k7:o.kind=7
  ·have hv:∀c,Oa o z A c=(z ^^^ A,0):=λc=>by unfold Oa;simp[k7]
   rw[hv]at g;simp[j,k7];exact g _ N N N N A6 N
  by_cases k8:o.kind=8
  ·have hv:∀c,Oa o z A c=(UInt64.ofNat (z.toNat*2^o.imm.toNat),0):=λc=>by unfold Oa;simp[k8]
   rw[hv]at g;simp[j,k8];exact g _ N N N N A6 N
  by_cases k9:o.kind=9
  ·have hv:∀c,Oa o z A c=(UInt64.ofNat (z.toNat/2^o.imm.toNat),0):=λc=>by unfold Oa;simp[k9]
   rw[hv]at g;simp[j,k9];exact g _ N N N N A6 N
  by_cases gZ:o.kind=10
  ·have hv:∀c,Oa o z A c=(Ty z A,z*A):=λc=>by unfold Oa;simp[gZ]
   rw[hv]at g;simp[j,gZ];refine Ns (zgu z A) (bors_self _ rfl) ?_;simp;exact g _ N N N N N N
  by_cases g8:o.kind=11
  ·have hv:∀c,Oa o z A c=((Nr z A c).1,Oh (Nr z A c).2):=λc=>by unfold Oa;simp[g8]
   rw[hv]at g;simp[j,g8,zg6];refine Ns (z4z z A (decide (vc%2=1))) (bors_self _ rfl) ?_;simp;refine Ns (zgq _) (bors_self _ rfl) ?_;simp;exact g _ N N N N N N
  by_cases g9:o.kind=12
  ·have hv:∀c,Oa o z A c=((Ot z A c).1,Oh (Ot z A c).2):=λc=>by unfold Oa;simp[g9]
   rw[hv]at g;simp[j,g9,zg6];refine Ns (zgi z A (decide (vc%2=1))) (bors_self _ rfl) ?_;simp;refine Ns (zgq _) (bors_self _ rfl) ?_;simp;exact g _ N N N N N N
  by_cases gM:o.kind=13
  ·have hv:∀c,Oa o z A c=(if c then z else A,0):=λc=>by unfold Oa;simp[gM]
   rw[hv]at g;by_cases c1:vc%2=1
   ·simp[j,gM,c1,zg6];exact g _ N N N N (by simp[c1]) N
   ·simp[j,gM,c1,zg6];exact g _ N N N N (by simp[c1]) N
  omega
 ·obtain⟨rfl,R,T,jE,d,e,pl,gG,a5,bz,hz,U,gA,M,hm,gg,B⟩:=hΦ;rw[gg]at ks;rw[hC]at hz;have jg:∀(i:Int) (v:UInt64) (r:List UInt64),(Nl r i v).length=r.length:=λi v r=>E7
  refine zyu (λρ jR G'=>jR=[]∧lk ρ 0=.ptr x 0∧lk ρ 1=.i s.i∧lk ρ 5=.ptr jE 0∧G'[jE]?=some (.cells [.i o.kind,.i o.d,.i o.e,.i o.a,.i o.b,.i o.c,.i o.buf,.u o.imm] 1)∧lk ρ 9=.i pl∧lk ρ 11=.u e∧MsH G' x pr pb kb qs b regs bs os L ⟨s.i,s.first,Nl s.r o.d d,gG,s.l⟩∧∀q,q<b→q≠pr→q ∉ qs→G'[q]?=G[q]?) (λNx F=>?_) (λρ jR G3 h3=>?_)
  ·obtain⟨t1,V⟩:=hm.xc;obtain⟨t2,X⟩:=hm.rr;dsimp only at X;by_cases d0:0≤o.d
   ·obtain⟨dn,Y⟩:=H0 d0;have gC:dn<s.r.length:=J
    have e1:Oo (s.r.map LV.u) dn [.u d]=(Nl s.r o.d d).map LV.u:=by
     rw[zxf (by simpa using gC),Nl,H6 d0,Y,Ji];rfl
    have O:=hm.putr (i:=o.d) (v:=d) (st:=t2+1);dsimp only at O;simp[R,T,a5,U,gA,hz,V,X,Y,gC,e1];rw[←Y];refine⟨J,F _ _ _ ⟨rfl,?_,?_,?_,?_,?_,?_,O,λq H P D=>?_⟩⟩
    ·simp[R]
    ·simp[T]
    ·simp[a5]
    rotate_left
    ·simp[U]
    ·simp[M]
    rotate_left
    ·rw[Hy (λe=>by rw[e,hz]at X;cases X)];exact hz
    ·rw[Hy (Ne.symm P)];exact B q H D
   ·have e1:Nl s.r o.d d=s.r:=by unfold Nl;rw[Hx d0]
    simp[R,T,a5,U,gA,hz,d0];refine F _ _ _ ⟨rfl,?_,?_,?_,hz,?_,?_,e1.symm ▸ hm,λq H _ D=>B q H D⟩
    all_goals simp[R,T,a5,U,M]
  clear R T a5 U gA M hm B hz;obtain⟨rfl,R,T,a5,hz,U,M,hm,B⟩:=h3;have gT:=jg o.d d s.r;generalize Nl s.r o.d d=r1 at *;refine zyu (λρ jR G'=>jR=[]∧lk ρ 0=.ptr x 0∧lk ρ 1=.i s.i∧lk ρ 9=.i pl∧MsH G' x pr pb kb qs b regs bs os L ⟨s.i,s.first,Nl r1 o.e e,gG,s.l⟩∧∀q,q<b→q≠pr→q ∉ qs→G'[q]?=G[q]?) (λNx F=>?_) (λρ jR G4 h4=>?_)
  ·obtain⟨t1,V⟩:=hm.xc;obtain⟨t2,X⟩:=hm.rr;dsimp only at X;by_cases d0:0≤o.e
   ·obtain⟨dn,Y⟩:=H0 d0;have gC:dn<r1.length:=J
    have e1:Oo (r1.map LV.u) dn [.u e]=(Nl r1 o.e e).map LV.u:=by
     rw[zxf (by simpa using gC),Nl,H6 d0,Y,Ji];rfl
    have O:=hm.putr (i:=o.e) (v:=e) (st:=t2+1);dsimp only at O;simp[R,T,a5,U,M,hz,V,X,Y,gC,e1];rw[←Y];refine⟨J,F _ _ _ ⟨rfl,?_,?_,?_,O,λq H P D=>?_⟩⟩
    ·simp[R]
    ·simp[T]
    ·simp[U]
    rw[Hy (Ne.symm P)];exact B q H P D
   ·have e1:Nl r1 o.e e=r1:=by unfold Nl;rw[Hx d0]
    simp[R,T,a5,U,M,hz,d0];refine F _ _ _ ⟨rfl,?_,?_,?_,e1.symm ▸ hm,λq H P D=>B q H P D⟩
    all_goals simp[R,T,U]
  clear R T a5 U M hm B hz;obtain⟨rfl,R,T,U,hm,B⟩:=h4;generalize Nl r1 o.e e=r2 at *;obtain⟨t1,V⟩:=hm.xc;have jM:x<G4.length:=(Hv.1 V).1;have q1:∀y:List LObj,(G4++y)[x]?=_:=λy=>(Nv jM).trans V
  simp[R,T,U,V,↓q1];refine O7.push2 (x:=[.i (s.i:Int),.i pl]) hm.ev.push_end J (by simp;have:=hm.bG;omega) (by show s.l.length≤_;omega) rfl rfl λL' G5 jz gO jO j8=>?_
  have jT:=hm.bG;have jA:G5[x]?=_:=(gO x Ab (λe=>by have:=(hm.ev.row e).1;have:=h.lt.1;omega)).trans (q1 _);have jP:L'.cells=some [L']:=jz.cells;simp[-LV.cells,jP,jA];refine ks _ _ L' rfl ?_ ?_
  ·obtain⟨l1,l2,l3,l4,l5,l6⟩:=hm.lt;have jB:x<G5.length:=(Hv.1 jA).1;have ne:∀{q:Nat} {ob:LObj},q≠x→(G5.set x ob)[q]?=G5[q]?:=λH=>Hy (Ne.symm H)
   have gD:∀{q:Nat} {ob:LObj},q<b→G4[q]?=some ob→G5[q]?=some ob:=λ{q ob} H ho=>by
    rw[gO q Ab (λe=>D6),Nv (Hv.1 ho).1];exact ho
   refine⟨⟨t1+1,H8 jB⟩,?_,?_,λj9 hj=>?_,hm.bl,hm.lt,hm.qlt,hm.nd,?_,by rw[J9];simp at jO;omega⟩
   ·obtain⟨st,h⟩:=hm.rr;exact⟨st,by rw[ne (Ne.symm l4)];exact gD l2 h⟩
   ·obtain⟨st,h⟩:=hm.bb;exact⟨st,by rw[ne (Ne.symm l5)];exact gD l3 h⟩
   ·obtain⟨st,h⟩:=hm.row j9 hj;have H:=hm.qlt (qs.getD j9 0) F4;exact⟨st,by rw[ne H.2.1];exact gD H.1 h⟩
   ·show O7 b _ L' 2 (s.l++[((s.i:Int),pl)]).length (Tz (s.l++[((s.i:Int),pl)]));rw[zz9,Ia];exact jz.set_lt l1
  ·intro q H jQ P D;rw[Hy (Ne.symm jQ),gO q Ab (λe=>D6),Nv J];exact B q H P D
end
end Go.Proofs.YtodjkjimaheggaaGreat
end
