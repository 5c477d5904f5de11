/- The templates: see the main text. -/
import Derived.Test.YtgjbfhmmgeplmaaGreatSvG3
import Derived.Test.YtgjbfhmmgeplmaaGreatSvG2
import Derived.Test.YtgjbfhmmgeplmaaGreatProg
import Derived.KernelRfl
import Derived.Test.YtgjbfhmmgeplmaaGreatChecked
import Derived.WalkKit
import Derived.Shelf.RegionOpenPlain
import Derived.Deep.LoopGhost
import Derived.Deep.RegionLaw
import Derived.Lib.Walk
import Derived.Lib.SliceRun
import Derived.Lib.AppendZerosOnto
import Derived.Lib.AppendZeros
import Derived.Lib.Overlaps
import Derived.Laws.Externs
import Derived.Laws.NewBlocks
import Derived.Shelf.SlicesQ.Reverse
import Derived.Lib.RowBridge
set_option linter.defProp false
namespace Go.Sv
abbrev LI.z (d : Nat) (o : LOp) : LI := ⟨some d, none, o⟩
abbrev LI.m (d t : Nat) : LI := ⟨some d, none, .move (.t t)⟩
abbrev LI.l (d t : Nat) : LI := ⟨some d, none, .load1 (.t t)⟩
abbrev LI.f (d n t : Nat) : LI := ⟨some d, none, .fieldAddr n (.t t)⟩
abbrev LI.y (d g : Nat) (o : LOp) : LI := ⟨some d, some (g, true), o⟩
abbrev LI.n (d g : Nat) (o : LOp) : LI := ⟨some d, some (g, false), o⟩
abbrev LI.my (d g t : Nat) : LI := ⟨some d, some (g, true), .move (.t t)⟩
abbrev LI.mn (d g t : Nat) : LI := ⟨some d, some (g, false), .move (.t t)⟩
abbrev LI.v (o : LOp) : LI := ⟨none, none, o⟩
abbrev LOp.w (f : Nat) (l : List Lx) : LOp := .callV (.c (.fn (.func f) [] [])) l
abbrev Lx.k (n : Int) : Lx := .c (.i n)
abbrev Lx.T : Lx := .c (.bool true)
abbrev Lx.F : Lx := .c (.bool false)
abbrev LC.q (l : List LI) (s : LC) : LC := .seq (.ops l) s
abbrev LI.N (d a : Nat) : LI := .z d (.nilChk (.t a))
abbrev LI.L (d n a : Nat) : LI := .z d (.loadN n (.t a))
abbrev LI.I (d n a b : Nat) : LI := .z d (.ixAddr n (.t a) (.t b))
abbrev LI.b (d : Nat) (o : BinOp) (t a : Nat) (k : Int) : LI := .z d (.bin o true t (.t a) (.k k))
abbrev LI.c (d : Nat) (o : BinOp) (t a b : Nat) : LI := .z d (.bin o false t (.t a) (.t b))
abbrev LI.u (d : Nat) (o : BinOp) (t a : Nat) (k : UInt64) : LI := .z d (.bin o true t (.t a) (.c (.u k)))
abbrev LI.nb (d g : Nat) (o : BinOp) (t a : Nat) (k : Int) : LI := .n d g (.bin o true t (.t a) (.k k))
abbrev LI.p (d a b : Nat) : LI := .z d (.pick (.t a) .T (.t b))
abbrev LI.q (d a b : Nat) : LI := .z d (.pick (.t a) (.t b) .F)
abbrev LI.K (d : Nat) (k : Int) : LI := .z d (.move (.k k))
abbrev LI.F (d : Nat) : LI := .z d (.move .F)
abbrev LI.e (d : Nat) : LI := .z d (.move (.c .nilSl))
abbrev LI.S (n a b : Nat) : LI := .v (.store n (.t a) (.t b))
abbrev LI.s (d a : Nat) : LI := .z d (.lenSl (.t a))
abbrev LI.x (d a : Nat) : LI := .z d (.box (.t a))
abbrev LI.X (d n a : Nat) : LI := .z d (.extract n (.t a))
abbrev LI.w (d f a : Nat) : LI := .z d (.w f [.t a])
abbrev LI.W (d f a b : Nat) : LI := .z d (.w f [.t a, .t b])
abbrev LI.V (d f a b c : Nat) : LI := .z d (.w f [.t a, .t b, .t c])
abbrev LI.nf (d g n a : Nat) : LI := .n d g (.fieldAddr n (.t a))
abbrev LI.yf (d g n a : Nat) : LI := .y d g (.fieldAddr n (.t a))
abbrev LI.nl (d g a : Nat) : LI := .n d g (.load1 (.t a))
abbrev LI.yl (d g a : Nat) : LI := .y d g (.load1 (.t a))
abbrev LI.a (d n a b : Nat) : LI := .z d (.appG n (.t a) (.t b))
end Go.Sv
noncomputable section
namespace Go.Proofs.YtgjbfhmmgeplmaaGreat
open Go.Sv
set_option linter.unusedSimpArgs false
set_option maxRecDepth 10000
variable{g j B:Nat}{A T:Int}{v8:Type}{vV:List Int}{D:List LV}{F:M4}{K:LV}{P:LV→M4→Prop}{V:List Vr}
abbrev Na := Np Tryz.prog
abbrev Qh := Sf Tryz.prog
abbrev O6 := Qa Tryz.prog
def Ul:LC:=(.q [.K 2 0,.F 3] (.seq (.q [.m 4 0] (.block 0 (.q [.b 6 .eql 3 4 1,.m 5 6] (.cond (.t 5) (.q [.K 2 1,.z 3 (.move .T)] .ret) (.q [.b 8 .eql 3 4 2,.m 7 8] (.cond (.t 7) (.q [.K 2 5,.z 3 (.move .T)] .ret) (.seq (.q [.b 10 .eql 3 4 3,.m 9 10] (.cond (.t 9) .skip (.q [.b 11 .eql 3 4 4,.m 9 11] (.cond (.t 9) .skip (.q [.b 12 .eql 3 4 5,.m 9 12] (.cond (.t 9) .skip (.q [.b 13 .eql 3 4 6,.m 9 13] (.cond (.t 9) .skip (.ops [.b 14 .eql 3 4 7,.m 9 14]))))))))) (.cond (.t 9) (.q [.K 2 13,.z 3 (.move .T)] .ret) (.seq (.q [.b 16 .eql 3 4 8,.m 15 16] (.cond (.t 15) .skip (.q [.b 17 .eql 3 4 10,.m 15 17] (.cond (.t 15) .skip (.q [.b 18 .eql 3 4 11,.m 15 18] (.cond (.t 15) .skip (.q [.b 19 .eql 3 4 12,.m 15 19] (.cond (.t 15) .skip (.ops [.b 20 .eql 3 4 13,.m 15 20]))))))))) (.cond (.t 15) (.q [.K 2 29,.z 3 (.move .T)] .ret) (.q [.b 22 .eql 3 4 9,.m 21 22] (.cond (.t 21) (.q [.K 2 21,.z 3 (.move .T)] .ret) (.q [.b 24 .eql 3 4 14,.m 23 24] (.cond (.t 23) (.q [.K 2 19,.z 3 (.move .T)] .ret) (.seq (.q [.b 26 .eql 3 4 15,.m 25 26] (.cond (.t 25) .skip (.ops [.b 27 .eql 3 4 16,.m 25 27]))) (.cond (.t 25) (.q [.K 2 0,.z 3 (.move .T)] .ret) .skip)))))))))))))))) (.q [.K 2 0,.F 3] .ret)))
def r_lengths_shape:Nf Tryz.prog 116=some ⟨28,Ul.r,[.tmp 2,.tmp 3]⟩:=Aa
def z36:LC:=(.q [.x 1 0,.F 2] (.seq (.q [.f 3 0 1,.l 4 3] (.block 0 (.q [.b 6 .eql 3 4 1,.m 5 6] (.cond (.t 5) (.q [.z 2 (.move .T)] .ret) (.q [.b 8 .eql 3 4 13,.m 7 8] (.cond (.t 7) (.q [.f 9 6 1,.l 10 9,.u 11 .geq 43 10 1,.m 12 11,.yf 13 12 6 1,.yl 14 12 13,.y 15 12 (.bin .leq true 43 (.t 14) (.c (.u 6))),.q 16 12 15,.m 2 16] .ret) (.q [.b 18 .eql 3 4 15,.m 17 18] (.cond (.t 17) (.q [.f 19 6 1,.l 20 19,.u 21 .geq 43 20 1,.m 22 21,.yf 23 22 6 1,.yl 24 22 23,.y 25 22 (.bin .leq true 43 (.t 24) (.c (.u 4096))),.q 26 22 25,.m 2 26] .ret) .skip)))))))) (.q [.f 27 6 1,.l 28 27,.u 29 .eql 43 28 0,.m 2 29] .ret)))
def r_lengths_number:Nf Tryz.prog 117=some ⟨30,z36.r,[.tmp 2]⟩:=Aa
def zax:LC:=(.q [.x 1 0,.z 2 (.alloc [(.i 0),(.i 0),(.i 0),(.i 0),(.i 0)])] (.q [.f 3 1 1,.l 4 3,.f 5 2 1,.l 6 5,.f 7 3 1,.l 8 7,.f 9 4 1,.l 10 9,.f 11 5 1,.l 12 11,.z 13 (.build [(.i 0),(.i 0),(.i 0),(.i 0),(.i 0)] [(0,1,.t 4),(1,1,.t 6),(2,1,.t 8),(3,1,.t 10),(4,1,.t 12)]),.S 5 2 13] .ret))
def r_lengths_parts:Nf Tryz.prog 118=some ⟨14,zax.r,[.cellN 2 5]⟩:=Aa
def zac:LC:=(.q [.x 1 0,.F 2] (.q [.f 3 2 1,.l 4 3,.b 5 .eql 3 4 1,.m 6 5,.nf 7 6 2 1,.nl 8 6 7,.nb 9 6 .eql 3 8 2,.p 10 6 9,.m 2 10] .ret))
def r_lengths_given:Nf Tryz.prog 75=some ⟨11,zac.r,[.tmp 2]⟩:=Aa
def z69:LC:=(.q [.F 3] (.q [.m 4 0,.b 5 .geq 3 4 0,.m 6 5,.my 7 6 0,.yl 8 6 1,.y 9 6 (.lenSl (.t 8)),.y 10 6 (.bin .lss false 3 (.t 7) (.t 9)),.q 11 6 10,.m 3 11] .ret))
def r_lengths_need_1:Nf Tryz.prog 115=some ⟨12,z69.r,[.tmp 3]⟩:=Aa
def z40:LC:=(.q [.x 2 0,.x 3 1,.F 4] (.q [.z 6 (.mkFunc 115 [] [.t 2]),.m 5 6] (.seq (.q [.f 7 1 3,.l 8 7,.b 9 .neq 3 8 (-1),.m 10 9,.nf 11 10 2 3,.nl 12 10 11,.nb 13 10 .neq 3 12 (-1),.p 14 10 13,.m 15 14,.nf 16 15 5 3,.nl 17 15 16,.nb 18 15 .neq 3 17 (-1),.p 19 15 18,.m 20 19,.mn 21 20 5,.nf 22 20 3 3,.nl 23 20 22,.n 24 20 (.callV (.t 21) [.t 23]),.n 25 20 (.un .not (.t 24)),.p 26 20 25] (.cond (.t 26) (.q [.F 4] .ret) .skip)) (.seq (.q [.f 27 6 3,.l 28 27] (.block 0 (.q [.u 30 .eql 43 28 2,.m 29 30] (.cond (.t 29) (.q [.m 31 5,.f 32 4 3,.l 33 32,.z 34 (.callV (.t 31) [.t 33]),.m 4 34] .ret) (.seq (.q [.u 36 .eql 43 28 1,.m 35 36] (.cond (.t 35) .skip (.ops [.u 37 .eql 43 28 3,.m 35 37]))) (.cond (.t 35) (.q [.f 38 4 3,.l 39 38,.b 40 .eql 3 39 (-1),.m 4 40] .ret) .skip)))))) (.q [.F 4] .ret)))))
def r_lengths_need:Nf Tryz.prog 74=some ⟨41,z40.r,[.tmp 4]⟩:=Aa
def z1l:LC:=(.q [.K 4 0] (.seq (.q [.m 6 0,.s 7 6,.K 8 0] (.block 0 (.loop (.q [.c 9 .lss 3 8 7] (.seq (.cond (.t 9) .skip (.exit 0)) (.seq (.block 1 (.q [.m 10 8,.m 5 10] (.q [.m 11 1,.m 12 0,.m 13 5,.I 14 1 12 13,.l 15 14,.z 16 (.callV (.t 11) [.t 15])] (.cond (.t 16) (.q [.m 17 5,.m 4 17] .ret) .skip)))) (.ops [.b 18 .add 3 8 1,.m 8 18]))))))) (.q [.K 4 (-1)] .ret)))
def r_slices_IndexFunc_int_int:Nf Tryz.prog 121=some ⟨19,z1l.r,[.tmp 4]⟩:=Aa
def k_slices_IndexFunc_int_int:z1l.ok=true:=Aa
def z35:LC:=(.q [.F 4] (.q [.m 5 0,.m 6 1,.W 7 121 5 6,.b 8 .geq 3 7 0,.m 4 8] .ret))
def r_slices_ContainsFunc_int_int:Nf Tryz.prog 77=some ⟨9,z35.r,[.tmp 4]⟩:=Aa
def Tk(a b:Bool):Q9 Tryz.prog false 4 (.bool a) (.bool b)=some (a==b):=by cases a<;>cases b<;>kernel_rfl
def zg2(k:Int):Na 116 [.i k] (.tup [.i (((Ow k).getD 0:Nat):Int),.bool (Ow k).isSome]) []:=by
 refine Np.val rfl (Nd r_lengths_shape Aa N ?_);by_cases E:k=1;· subst E;simp[Ul,Ow]
 by_cases F:k=2;· subst F;simp[Ul,Ow]
 by_cases G:k=3;· subst G;simp[Ul,Ow]
 by_cases H:k=4;· subst H;simp[Ul,Ow]
 by_cases I:k=5;· subst I;simp[Ul,Ow]
 by_cases K:k=6;· subst K;simp[Ul,Ow]
 by_cases L:k=7;· subst L;simp[Ul,Ow]
 by_cases M:k=8;· subst M;simp[Ul,Ow]
 by_cases O:k=9;· subst O;simp[Ul,Ow]
 by_cases g:k=10;· subst g;simp[Ul,Ow]
 by_cases j:k=11;· subst j;simp[Ul,Ow]
 by_cases z:k=12;· subst z;simp[Ul,Ow]
 by_cases A:k=13;· subst A;simp[Ul,Ow]
 by_cases B:k=14;· subst B;simp[Ul,Ow]
 by_cases C:k=15;· subst C;simp[Ul,Ow]
 by_cases D:k=16;· subst D;simp[Ul,Ow]
 simp[Ul,Ow,E,F,G,H,I,K,L,M,O,g,j,z,A,B,C,D]
def zeu(o:Ko):Na 117 [.agg o.f] (.bool (Qm o)) []:=by
 refine Np.val rfl (Nd r_lengths_number Aa N ?_);by_cases g:o.kind=1;· simp[z36,Ko.f,Qm,g]
 by_cases j:o.kind=13
 ·by_cases A:1≤o.imm<;>simp[z36,Ko.f,Qm,g,j,A]
 by_cases z:o.kind=15
 ·by_cases A:1≤o.imm<;>simp[z36,Ko.f,Qm,g,j,z,A]
 simp[z36,Ko.f,Qm,g,j,z]
def z9m(o:Ko):Na 118 [.agg o.f] (.agg [.i o.d,.i o.e,.i o.a,.i o.b,.i o.c]) []:=by
 refine Np.val rfl (Nd r_lengths_parts Aa N ?_);simp[zax,Ko.f]
def z6a(v:Vr):Na 75 [.agg v.f] (.bool (Ob v)) []:=by
 refine Np.val rfl (Nd r_lengths_given Aa N ?_);by_cases g:v.mode=1<;>simp[zac,Vr.f,Ob,g]
def zjr{p n st:Nat}{c:List LV}(v:Int)(g:F[p]?=some (.cells [.lst c n 3] st))(k:P (.bool (Rp n v)) F):O6 (.fn 115) [.i v,.ptr p 0] F P:=by
 refine Nd r_lengths_need_1 Aa N ?_;by_cases j:0≤v
 ·by_cases z:v<n<;>simp[z69,g,Rp,j,z]at k ⊢<;>exact k
 ·simp[z69,g,Rp,j]at k ⊢;exact k
def zaw(c:List LV)(n:Nat)(o:Ko):Na 74 [.lst c n 3,.agg o.f] (.bool (Q3 n o)) []:=by
 refine Np.val rfl (Nd r_lengths_need Aa N ?_);by_cases g:o.d=-1
 case neg=>simp[z40,Ko.f,Q3,g]
 by_cases j:o.e=-1
 case neg=>simp[z40,Ko.f,Q3,g,j]
 by_cases z:o.c=-1
 case neg=>simp[z40,Ko.f,Q3,g,j,z]
 simp[z40,Ko.f,g,j,z];refine zjr o.a rfl ?_;cases A:Rp n o.a with
 |false=>simp[Q3,A]
 |true =>
  by_cases B:o.imm=2
  ·simp[B];refine zjr o.b rfl ?_;simp[Q3,g,j,z,A,B]
  by_cases C:o.imm=1
  ·simp[Q3,g,j,z,A,B,C]
  by_cases D:o.imm=3
  ·simp[Q3,g,j,z,A,B,C,D]
  simp[Q3,g,j,z,A,B,C,D]
def zde{l:List Int}{f:Nat}{a b:List LV}{p:Int→Bool}(S:l.length≤9223372036854775807)
  (Q:∀v∈l,∀G:LV→M4→Prop,G (.bool (p v)) F→O6 (.fn f) (a++[.i v]++b) F G) (k:P (.i (Vv p l)) F):O6 (.fn 121) [.lst (l.map .i) l.length 1,.fn (.func f) a b] F P:=by
 refine Nd r_slices_IndexFunc_int_int k_slices_IndexFunc_int_int (by simp) ?_;simp[z1l];refine Ns (λH R I N=>∃i:Nat,R=[]∧I=F∧N+i=l.length∧lk H 0=.lst (l.map .i) l.length 1∧lk H 1=.fn (.func f) a b∧lk H 7=.i l.length∧lk H 8=.i i∧∀K b,K<i→l[K]?=some b→p b=false) (N:=l.length) ⟨0,by simp⟩ ?_;rintro N H R I ⟨i,rfl,rfl,T,j,z,A,B,C⟩ U D;by_cases hi:l.length≤i
 ·have L:¬i<l.length:=J
  simp[j,z,A,B,L];rw[←zge hi C];exact k
 ·have L:i<l.length:=J
  have E:=Ib L;simp[j,z,A,B,L];simp[M9 (So (f:=LV.i) E)];have M:=Q l[i] (Km L);simp only[I0,List.singleton_append]at M;refine M _ ?_;cases O:p l[i] with
  |true =>
   simp;rw[←zs0 E O C];exact k
  |false =>
   simp[B];refine⟨J,D _ _ _ ⟨N-1,J,i+1,rfl,rfl,J,Au,As,Af,by simp,λK b V g=>?_⟩⟩;by_cases e:K=i
   ·subst e;rw[E]at g;cases g;exact O
   ·exact C K b J g
def z68{l:List Int}{f:Nat}{a b:List LV}{p:Int→Bool}(j:l.length≤9223372036854775807)
  (z:∀v∈l,∀g:LV→M4→Prop,g (.bool (p v)) F→O6 (.fn f) (a++[.i v]++b) F g) (k:P (.bool (l.any p)) F):O6 (.fn 77) [.lst (l.map .i) l.length 1,.fn (.func f) a b] F P:=by
 refine Nd r_slices_ContainsFunc_int_int Aa N ?_;simp[z35];refine zde j z ?_;simp;rw[zkl];exact k
def zaz:LC:=(.q [.z 0 (.move (.c .nilMap))] (.q [.z 1 (.move (.c (.fn (.func 165) [] [])))] (.q [.z 2 (.mkMap0),.v (.mapUpd (.int .i64) (.t 2) (.k 6) (.c (.fn (.func 166) [] []))),.v (.mapUpd (.int .i64) (.t 2) (.k 14) (.c (.fn (.func 167) [] []))),.v (.mapUpd (.int .i64) (.t 2) (.k 8) (.c (.fn (.func 168) [] []))),.v (.mapUpd (.int .i64) (.t 2) (.k 9) (.c (.fn (.func 169) [] []))),.m 3 1,.v (.mapUpd (.int .i64) (.t 2) (.k 10) (.t 3)),.m 4 1,.v (.mapUpd (.int .i64) (.t 2) (.k 11) (.t 4)),.m 5 1,.v (.mapUpd (.int .i64) (.t 2) (.k 12) (.t 5)),.v (.mapUpd (.int .i64) (.t 2) (.k 13) (.c (.fn (.func 170) [] []))),.m 6 2,.m 0 6] .ret)))
def r_lengths_alike:Nf Tryz.prog 149=some ⟨7,zaz.r,[.tmp 0]⟩:=Aa
def z8d:LC:=(.q [.x 1 0,.e 2] (.q [.f 3 1 1,.l 4 3,.f 5 3 1,.l 6 5,.f 7 4 1,.l 8 7,.f 9 5 1,.l 10 9,.z 11 (.buildSl 1 4 [(.i 0),(.i 0),(.i 0),(.i 0)] [(0,1,.t 4),(1,1,.t 6),(2,1,.t 8),(3,1,.t 10)]),.m 2 11] .ret))
def r_lengths_alike_1:Nf Tryz.prog 165=some ⟨12,z8d.r,[.tmp 2]⟩:=Aa
def z7y:LC:=(.q [.x 1 0,.e 2] (.q [.f 3 3 1,.l 4 3,.f 5 4 1,.l 6 5,.z 7 (.buildSl 1 2 [(.i 0),(.i 0)] [(0,1,.t 4),(1,1,.t 6)]),.m 2 7] .ret))
def r_lengths_alike_2:Nf Tryz.prog 166=some ⟨8,z7y.r,[.tmp 2]⟩:=Aa
def z81:LC:=(.q [.x 1 0,.e 2] (.q [.f 3 1 1,.l 4 3,.f 5 2 1,.l 6 5,.z 7 (.buildSl 1 2 [(.i 0),(.i 0)] [(0,1,.t 4),(1,1,.t 6)]),.m 2 7] .ret))
def r_lengths_alike_3:Nf Tryz.prog 167=some ⟨8,z81.r,[.tmp 2]⟩:=Aa
def z8a:LC:=(.q [.x 1 0,.e 2] (.q [.f 3 1 1,.l 4 3,.f 5 3 1,.l 6 5,.f 7 4 1,.l 8 7,.z 9 (.buildSl 1 3 [(.i 0),(.i 0),(.i 0)] [(0,1,.t 4),(1,1,.t 6),(2,1,.t 8)]),.m 2 9] .ret))
def r_lengths_alike_4:Nf Tryz.prog 168=some ⟨10,z8a.r,[.tmp 2]⟩:=Aa
def z7v:LC:=(.q [.x 1 0,.e 2] (.q [.f 3 1 1,.l 4 3,.f 5 5 1,.l 6 5,.z 7 (.buildSl 1 2 [(.i 0),(.i 0)] [(0,1,.t 4),(1,1,.t 6)]),.m 2 7] .ret))
def r_lengths_alike_5:Nf Tryz.prog 169=some ⟨8,z7v.r,[.tmp 2]⟩:=Aa
def z8n:LC:=(.q [.x 1 0,.e 2] (.q [.f 3 1 1,.l 4 3,.f 5 3 1,.l 6 5,.f 7 5 1,.l 8 7,.z 9 (.buildSl 1 3 [(.i 0),(.i 0),(.i 0)] [(0,1,.t 4),(1,1,.t 6),(2,1,.t 8)]),.m 2 9] .ret))
def r_lengths_alike_6:Nf Tryz.prog 170=some ⟨10,z8n.r,[.tmp 2]⟩:=Aa
def z8m:LC:=(.q [.F 4] (.seq (.draw [(.l 5 1,[]),(.m 6 0,[]),(.I 7 3 5 6,[]),(.f 8 0 7,[]),(.l 9 8,[]),(.l 10 1,[]),(.l 11 2,[]),(.z 12 (.ixAddr 1 (.t 11) (.k 0)),[]),(.l 13 12,[]),(.I 14 3 10 13,[]),(.f 15 0 14,[]),(.l 16 15,[]),(.c 17 .neq 3 9 16,[]),(.m 4 17,[])]) .ret))
def r_lengths_agree_1:Nf Tryz.prog 150=some ⟨18,z8m.r,[.tmp 4]⟩:=Aa
def ep:LC:=(.q [.x 2 0,.x 3 1,.F 4] (.seq (.draw [(.f 10 0 3,[]),(.l 11 10,[]),(.z 9 (.w 149 []),[(.l 11 10,false)]),(.z 12 (.lookup (.int .i64) .nilFn true (.t 9) (.t 11)),[]),(.m 8 12,[]),(.X 13 0 8,[]),(.X 14 1 8,[]),(.m 5 13,[]),(.m 6 14,[])]) (.seq (.q [.m 15 6,.z 16 (.un .not (.t 15))] (.cond (.t 16) (.q [.z 4 (.move .T)] .ret) .skip)) (.q [.m 17 5,.L 18 7 3,.z 19 (.callV (.t 17) [.t 18]),.z 7 (.alloc [.nilSl]),.S 1 7 19] (.q [.l 20 7,.z 21 (.mkFunc 150 [] [.t 2,.t 7]),.W 22 77 20 21,.z 23 (.un .not (.t 22)),.m 4 23] .ret)))))
def r_lengths_agree:Nf Tryz.prog 120=some ⟨24,ep.r,[.tmp 4]⟩:=Aa
def ed:List (LV×LV×Nat):=[(.i 6,.fn (.func 166) [] [],0),(.i 14,.fn (.func 167) [] [],1),(.i 8,.fn (.func 168) [] [],2),(.i 9,.fn (.func 169) [] [],3),(.i 10,.fn (.func 165) [] [],4),(.i 11,.fn (.func 165) [] [],5),(.i 12,.fn (.func 165) [] [],6),(.i 13,.fn (.func 170) [] [],7)]
def gl(k:P (.map F.length) (F++[.map ed 8 8])):O6 (.fn 149) [] F P:=by
 refine Nd r_lengths_alike Aa N ?_;simp[zaz];exact k
def zf2(o:Ko):Qh 165 [.agg o.f] (.lst ([o.d,o.a,o.b,o.c].map .i) 4 1):=by
 refine Sf.mk Cm (Nd r_lengths_alike_1 Aa N ?_);simp[z8d,Ko.f,O1,bor]
def ztc(o:Ko):Qh 166 [.agg o.f] (.lst ([o.a,o.b].map .i) 2 1):=by
 refine Sf.mk Cm (Nd r_lengths_alike_2 Aa N ?_);simp[z7y,Ko.f,O1,bor]
def zub(o:Ko):Qh 167 [.agg o.f] (.lst ([o.d,o.e].map .i) 2 1):=by
 refine Sf.mk Cm (Nd r_lengths_alike_3 Aa N ?_);simp[z81,Ko.f,O1,bor]
def zu1(o:Ko):Qh 168 [.agg o.f] (.lst ([o.d,o.a,o.b].map .i) 3 1):=by
 refine Sf.mk Cm (Nd r_lengths_alike_4 Aa N ?_);simp[z8a,Ko.f,O1,bor]
def zt9(o:Ko):Qh 169 [.agg o.f] (.lst ([o.d,o.c].map .i) 2 1):=by
 refine Sf.mk Cm (Nd r_lengths_alike_5 Aa N ?_);simp[z7v,Ko.f,O1,bor]
def zud(o:Ko):Qh 170 [.agg o.f] (.lst ([o.d,o.a,o.c].map .i) 3 1):=by
 refine Sf.mk Cm (Nd r_lengths_alike_6 Aa N ?_);simp[z8n,Ko.f,O1,bor]
def inV(vs:List Vr)(v:Int):Prop:=0≤v∧v<vs.length
def inV.at{vs:List Vr}{v:Int}(h:inV vs v):∃k:Nat,v=k∧k<vs.length∧vs[k]?=some (gv vs v.toNat):=by
 obtain⟨k,rfl⟩:=Ir h.1;have h2:=h.2;exact⟨k,rfl,J,by rw[I6];exact Qp J⟩
def zpq{p q st:Nat}(v:Int)(j:F[p]?=some (.cells [.lst (Nr V) V.length 3] st))(z:F[q]?=some (.cells [.lst (vV.map .i) vV.length 1] g))
  (G:inV V v) (A:inV V (vV.headD 0)) (H:vV≠[]) (k:P (.bool (decide (Ql V v≠Ql V (vV.headD 0)))) F):O6 (.fn 150) [.i v,.ptr p 0,.ptr q 0] F P:=by
 refine Nd r_lengths_agree_1 Aa N ?_;cases vV with
 |nil=>exact absurd rfl H
 |cons y vV =>
  simp only[List.headD_cons]at A k;obtain⟨a,rfl,B,I⟩:=G.at;obtain⟨b,rfl,C,K⟩:=A.at;have D:=dv I;have E:=dv K;simp only[I6]at D E;simp only[Ql,I6]at k;simp[z8m,j,z,B,C];simp[M9 D,M9 E,j,z,B,C];rw[←decide_not];exact k
def zqi(g:List Int)(x:Int→Int)(y:Int):(!(g.any λv=>decide (x v≠y)))=g.all λv=>decide (x v=y):=by
 induction g with
 |nil=>rfl
 |cons a g j =>
  simp only[List.any_cons,Kq,Bool.not_or,j];by_cases h:x a=y<;>simp[h]
def z9e(G:List Vr)(o:Ko)(O:∀v∈P7 o,inV G v):Na 120 [.lst (Nr G) G.length 3,.agg o.f] (.bool (d8 G o)) []:=by
 refine Np.val rfl (Nd r_lengths_agree Aa N ?_);have z:o.f=[.i o.kind,.i o.d,.i o.e,.i o.a,.i o.b,.i o.c,.u o.imm]:=rfl;have A:∀H:List Int,H≠[]→P7 o=H→∀{P:M4} {p q st M:Nat} {R:LV→M4→Prop},P[p]?=some (.cells [.lst (Nr G) G.length 3] st)→P[q]?=some (.cells [.lst (H.map .i) H.length 1] M)→R (.bool (!d8 G o)) P →
   O6 (.fn 77) [.lst (H.map .i) H.length 1,.fn (.func 150) [] [.ptr p 0,.ptr q 0]] P R:=by
  intro H Q j P p q st M R S T k;rw[j]at O;have U:inV G (H.headD 0):=by
   cases H with
   |nil=>exact absurd rfl Q
   |cons y H=>exact O y (Kj ..)
  have V:H.length≤9223372036854775807:=by
   rw[←j];unfold P7;repeat' split
   all_goals simp
  refine z68 (p:=λv=>decide (Ql G v≠Ql G (H.headD 0))) V (λv hm Y X=>zpq v S T (O v hm) U Q X) ?_;have:=zqi H (Ql G) (Ql G (H.headD 0));rw[←Bool.not_not (H.any _),this];rw[d8,j]at k;exact k
 by_cases I:o.kind=6
 ·have j:P7 o=[o.a,o.b]:=by simp[P7,I]
  simp[ep,z,I];refine gl ?_;simp[ed];have g:=ztc o;rw[z,I]at g;refine Qo g rfl ?_;simp;refine A [o.a,o.b] N j rfl rfl ?_;simp
 by_cases B:o.kind=14
 ·have j:P7 o=[o.d,o.e]:=by simp[P7,B]
  simp[ep,z,B];refine gl ?_;simp[ed];have g:=zub o;rw[z,B]at g;refine Qo g rfl ?_;simp;refine A [o.d,o.e] N j rfl rfl ?_;simp
 by_cases K:o.kind=8
 ·have j:P7 o=[o.d,o.a,o.b]:=by simp[P7,K]
  simp[ep,z,K];refine gl ?_;simp[ed];have g:=zu1 o;rw[z,K]at g;refine Qo g rfl ?_;simp;refine A [o.d,o.a,o.b] N j rfl rfl ?_;simp
 by_cases L:o.kind=9
 ·have j:P7 o=[o.d,o.c]:=by simp[P7,L]
  simp[ep,z,L];refine gl ?_;simp[ed];have g:=zt9 o;rw[z,L]at g;refine Qo g rfl ?_;simp;refine A [o.d,o.c] N j rfl rfl ?_;simp
 by_cases C:o.kind=10
 ·have j:P7 o=[o.d,o.a,o.b,o.c]:=by simp[P7,C]
  simp[ep,z,C];refine gl ?_;simp[ed];have g:=zf2 o;rw[z,C]at g;refine Qo g rfl ?_;simp;refine A [o.d,o.a,o.b,o.c] N j rfl rfl ?_;simp
 by_cases D:o.kind=11
 ·have j:P7 o=[o.d,o.a,o.b,o.c]:=by simp[P7,D]
  simp[ep,z,D];refine gl ?_;simp[ed];have g:=zf2 o;rw[z,D]at g;refine Qo g rfl ?_;simp;refine A [o.d,o.a,o.b,o.c] N j rfl rfl ?_;simp
 by_cases E:o.kind=12
 ·have j:P7 o=[o.d,o.a,o.b,o.c]:=by simp[P7,E]
  simp[ep,z,E];refine gl ?_;simp[ed];have g:=zf2 o;rw[z,E]at g;refine Qo g rfl ?_;simp;refine A [o.d,o.a,o.b,o.c] N j rfl rfl ?_;simp
 by_cases F:o.kind=13
 ·have j:P7 o=[o.d,o.a,o.c]:=by simp[P7,F]
  simp[ep,z,F];refine gl ?_;simp[ed];have g:=zud o;rw[z,F]at g;refine Qo g rfl ?_;simp;refine A [o.d,o.a,o.c] N j rfl rfl ?_;simp
 have j:P7 o=[]:=by simp[P7,I,B,K,L,C,D,E,F]
 simp[ep,z,I,B,K,L,C,D,E,F];refine gl ?_;simp[ed,I,B,K,L,C,D,E,F];simp[d8,j]
def z51:LC:=(.q [.e 2] (.seq (.q [.m 3 0,.z 4 (.bin .eql true 39 (.t 3) (.c .nilSl))] (.cond (.t 4) (.q [.e 2] .ret) .skip)) (.q [.z 5 (.buildSl 1 0 [] []),.m 6 0,.a 7 1 5 6,.m 2 7] .ret)))
def r_slices_Clone_int_int:Nf Tryz.prog 122=some ⟨8,z51.r,[.tmp 2]⟩:=Aa
def z1i:LC:=(.q [.e 4] (.q [.m 8 0,.m 9 1,.W 10 121 8 9,.m 5 10] (.seq (.q [.m 11 5,.b 12 .eql 3 11 (-1)] (.cond (.t 12) (.q [.m 13 0,.m 4 13] .ret) .skip)) (.seq (.q [.m 14 5,.b 15 .add 3 14 1,.m 6 15] (.block 0 (.loop (.seq (.q [.m 16 6,.m 17 0,.s 18 17,.c 19 .lss 3 16 18] (.cond (.t 19) .skip (.exit 0))) (.seq (.block 1 (.q [.m 22 0,.m 23 6,.I 24 1 22 23,.l 25 24,.m 7 25] (.q [.m 26 1,.m 27 7,.z 28 (.callV (.t 26) [.t 27]),.z 29 (.un .not (.t 28))] (.cond (.t 29) (.q [.m 30 0,.m 31 5,.m 32 7,.I 33 1 30 31,.S 1 33 32] (.ops [.m 34 5,.b 35 .add 3 34 1,.m 5 35])) .skip)))) (.ops [.m 20 6,.b 21 .add 3 20 1,.m 6 21])))))) (.q [.m 36 0,.m 37 5,.z 38 (.slSl 1 (.t 36) (some (.t 37)) none),.v (.clear 1 [(.i 0)] (.t 38))] (.q [.m 39 0,.m 40 5,.z 41 (.slSl 1 (.t 39) none (some (.t 40))),.m 4 41] .ret))))))
def r_slices_DeleteFunc_int_int:Nf Tryz.prog 88=some ⟨42,z1i.r,[.tmp 4]⟩:=Aa
def k_slices_DeleteFunc_int_int:z1i.ok=true:=Aa
def z82:LC:=(.q [.F 2] (.q [.m 3 0,.b 4 .lss 3 3 0,.m 2 4] .ret))
def r_lengths_takes_1:Nf Tryz.prog 123=some ⟨5,z82.r,[.tmp 2]⟩:=Aa
def za7:LC:=(.q [.x 1 0,.e 2] (.q [.L 5 7 1,.w 6 118 5,.z 3 (.alloc [(.i 0),(.i 0),(.i 0),(.i 0),(.i 0)]),.S 5 3 6] (.q [.z 7 (.slArr 5 1 (.t 3) (some (.k 2)) none),.w 8 122 7,.z 9 (.w 88 [.t 8,(.c (.fn (.func 123) [] []))]),.m 4 9] (.seq (.q [.f 10 0 1,.l 11 10,.b 12 .eql 3 11 14] (.cond (.t 12) (.ops [.m 13 4,.f 14 1 1,.l 15 14,.f 16 2 1,.l 17 16,.z 18 (.buildSl 1 2 [(.i 0),(.i 0)] [(0,1,.t 15),(1,1,.t 17)]),.a 19 1 13 18,.m 4 19]) .skip)) (.q [.m 20 4,.m 2 20] .ret)))))
def r_lengths_takes:Nf Tryz.prog 78=some ⟨21,za7.r,[.tmp 2]⟩:=Aa
def sl_nil:Q9 Tryz.prog true 39 .nilSl .nilSl=some true:=Aa
def zvb{l:List Int}(g:l.length≤1048576)(j:l≠[])(k:P (.dy F.length 1) (F++[.dyn (l.map .i) l.length 1 1 1])):O6 (.fn 122) [.lst (l.map .i) l.length 1] F P:=by
 refine Nd r_slices_Clone_int_int Aa N ?_;simp[z51,sl_nil,g,j];exact k
def zld{l:List Int}{f:Nat}{p:Int→Bool}(g:l.length≤9223372036854775807)
  (j:∀v∈l,Na f [.i v] (.bool (p v)) []):Na 121 [.lst (l.map .i) l.length 1,.fn (.func f) [] []] (.i (Vv p l)) [] :=
 Np.val rfl (zde g (λv z A k=>by
  simp only[K9,Jf];exact Nb (j v z) (bors_self _ rfl) k) rfl)
def zj9{q k st:Nat}{l:List Int}{f:Nat}{p:Int→Bool}(hl:l.length≤9223372036854775807)(M:F[q]?=some (.dyn (l.map .i) l.length 1 k st))
  (X:∀v,Na f [.i v] (.bool (p v)) []) (k0:l.filter (λv=>!p v)=l→P (.dy q k) F)
  (k1:∀(m:Nat) (gg:List LV) (g:Nat),m=(l.filter (λv=>!p v)).length→gg.length=l.length→gg.take m=(l.filter (λv=>!p v)).map .i→dats gg=true→P (.vw q k 0 m) (F.set q (.dyn gg l.length 1 k g))) :
  O6 (.fn 88) [.dy q k,.fn (.func f) [] []] F P:=by
 refine Nd r_slices_DeleteFunc_int_int k_slices_DeleteFunc_int_int (by simp) ?_;have O:q<F.length:=(H7.1 M).1;have Q:∀l:List Int,dats (l.map .i)=true:=λl=>Un (λ_=>rfl) l
 have z:∀R,(F.set q R)[q]?=some R:=λR=>Ia O
 have A:F.set q (.dyn (l.map .i) l.length 1 k st)=F:=zrv M;simp[z1i];refine Nb (zld hl λv _=>X v) (by simp[bors,bor,LV.dat,dats,M,Q]) ?_;rcases zxu p l with ⟨S,I⟩|⟨K,S,gj,I⟩
 ·simp[S];exact k0 I
 have n1:¬((K:Int)=-1):=J
 simp[S,n1];refine⟨J,?_⟩;refine Ns (λY gD Z N=>∃(i j:Nat) (c:List Int) (g:Nat),gD=[]∧Z=F.set q (.dyn (c.map .i) l.length 1 k g)∧N+j=l.length∧i<j∧j≤l.length∧lk Y 0=.dy q k∧lk Y 1=.fn (.func f) [] []∧lk Y 5=.i i∧lk Y 6=.i j ∧
   c.length=l.length∧i=((l.take j).filter (λv=>!p v)).length∧c.take i=(l.take j).filter (λv=>!p v)∧∀u,j≤u→gd c u=gd l u)
  (N:=l.length-(K+1)) ⟨K,K+1,l,st,rfl,A.symm,J,J,J,by simp,by simp,by simp,by simp,rfl,by rw[I];simp;omega,I.symm,λu _=>rfl⟩ ?_
 rintro N Y gD Z ⟨i,j,c,g,rfl,rfl,hN,gB,hj,C,D,E,G,T,hi,L,U⟩ Nx H;by_cases gC:j<l.length
 ·have g2:i<l.length:=J
  have V:=So (f:=LV.i) (U7 (l:=c) (u:=j) J);have eg:=U j (If _);simp[C,D,E,G,z,gC];simp[M9 V,C,D,E,G,z,gC,eg];refine Nb (X (gd l j)) (by simp) ?_;have B:=zon (p:=p) gC;cases hb:p (gd l j) with
  |true =>
   rw[hb]at B;simp only[K7,Jf]at B;simp[G]
   repeat (refine⟨J,?_⟩)
   exact H _ _ _ ⟨N-1,J,i,j+1,c,g,rfl,rfl,J,J,J,Ae,Bc,Aw,by simp,T,by rw[B];exact hi,by rw[B];exact L,λu hu=>U u J⟩
  |false =>
   rw[hb,Ii (by simp)]at B;simp[C,D,E,G,z,g2];rw[zu _ _ _ J]
   repeat (refine⟨J,?_⟩)
   refine H _ _ _ ⟨N-1,J,i+1,j+1,_,_,rfl,rfl,J,J,J,Ae,Bc,by simp,by simp,E4,?_,?_,λu hu=>?_⟩
   ·rw[B,Im,←hi];rfl
   ·rw[B,zki J,L]
   ·rw[zp1 (j:=j+1) J J u hu,U u J]
 ·have ej:j=l.length:=J
  subst ej;rw[Ls]at hi L;simp[C,D,E,G,z]
  repeat (refine⟨J,?_⟩)
  refine k1 i _ _ hi ?_ ?_ ?_
  ·rw[ztu (by rw[z6y];simp;omega)];simp[T]
  ·rw[Y7 Ab,←L0,L]
  ·unfold Nu;exact dats_app (dats_app (dats_take _ (Q c)) (zrt rfl _)) (dats_drop _ (Q c))
def ztb(v:Int):Na 123 [.i v] (.bool (decide (v<0))) []:=by
 refine Np.val rfl (Nd r_lengths_takes_1 Aa N ?_);simp[z82]
def z9l(o:Ko)(h:o.kind=14→o.a=-1∧o.b=-1):Qh 78 [.agg o.f] (.lst ((Rr o).map .i) (Rr o).length 1):=by
 have I:∀l:List Int,dats (l.map .i)=true:=λl=>Un (λ_=>rfl) l
 refine Sf.mk (by simp[LV.dat,I]) (Nd r_lengths_takes Aa N ?_);have z:o.f=[.i o.kind,.i o.d,.i o.e,.i o.a,.i o.b,.i o.c,.u o.imm]:=rfl;simp[za7,z];rw[←z];refine Nb (z9m o) (bors_self _ rfl) ?_;simp;refine zvb (l:=[o.a,o.b,o.c]) N N ?_;simp;have F:([o.a,o.b,o.c].filter λv=>!decide (v<0)).length≤3:=Lh _ _;refine zj9 (l:=[o.a,o.b,o.c]) (p:=λv=>decide (v<0)) N rfl ztb (λhw=>?_) (λm E K hm G H hd=>?_)
 ·by_cases g:o.kind=14
  ·have:=List.filter_eq_self.1 hw o.a N;rw[(h g).1]at this;simp at this
  ·have e:Rr o=[o.a,o.b,o.c]:=by unfold Rr;rw[hw,Ii g];rfl
   simp[z,g,e,O1,bor,dats,LV.dat]
 ·by_cases g:o.kind=14
  ·have e:Rr o=([o.a,o.b,o.c].filter λv=>!decide (v<0))++[o.d,o.e]:=by unfold Rr;rw[Ij g]
   have A:m≤1:=by
    rw[hm,(h g).1,(h g).2];simp;by_cases L:0≤o.c<;>simp[L]
   have j:E.length=3:=G;simp[z,g,j,A,dats,LV.dat];rw[e];have B:(([o.a,o.b,o.c].filter λv=>!decide (v<0))++[o.d,o.e]).length=m+2:=by rw[Im,←hm];rfl
   have M:(([o.a,o.b,o.c].filter λv=>!decide (v<0))++[o.d,o.e]).map LV.i=E.take m++[.i o.d,.i o.e]:=by rw[Ju,H];rfl
   have C:(E.take m++[LV.i o.d,LV.i o.e]).length=m+2:=by rw[Im,Iu];simp;omega
   have O:dats (E.take m++[LV.i o.d,LV.i o.e])=true:=dats_app (dats_take _ hd) rfl;have D:(Nu E m [.i o.d,.i o.e]).length=3:=by unfold Nu;simp;omega
   rw[M,B];refine⟨J,⟨_,_,_,⟨?_,rfl,rfl⟩,⟨rfl,rfl,rfl⟩,?_,?_⟩,⟨_,_,_,⟨rfl,rfl,rfl⟩,⟨rfl,rfl,rfl⟩,O⟩⟩
   ·unfold Nu;rw[K0];exact (Li C).symm
   ·rw[D];omega
   ·unfold Nu;exact dats_app (dats_app (dats_take _ hd) rfl) (dats_drop _ hd)
  ·have e:Rr o=[o.a,o.b,o.c].filter λv=>!decide (v<0):=by unfold Rr;rw[Ii g,Jf]
   simp[z,g,dats,LV.dat];rw[e,←H,←hm];have j:E.length=3:=G;simp[O1,bor,hd];exact⟨_,_,_,⟨by rw[K0],rfl⟩,⟨rfl,rfl,rfl⟩,by rw[j];omega,hd⟩
def zab:LC:=(.q [.F 3] (.q [.l 4 1,.m 5 0,.I 6 3 4 5,.f 7 1 6,.l 8 7,.m 3 8] .ret))
def r_lengths_one_1:Nf Tryz.prog 119=some ⟨9,zab.r,[.tmp 3]⟩:=Aa
def z8w:LC:=(.q [.x 2 0,.x 3 1,.F 4] (.seq (.q [.f 13 0 3,.l 14 13,.b 15 .eql 3 14 17] (.cond (.t 15) (.q [.l 16 2,.L 17 7 3,.W 18 74 16 17,.m 4 18] .ret) .skip)) (.q [.f 20 0 3,.l 21 20,.w 22 116 21,.m 19 22,.X 23 0 19,.X 24 1 19,.m 5 23,.m 6 24] (.seq (.q [.m 25 6,.z 26 (.un .not (.t 25)),.m 27 26,.n 28 27 (.loadN 7 (.t 3)),.n 29 27 (.w 117 [.t 28]),.n 30 27 (.un .not (.t 29)),.p 31 27 30] (.cond (.t 31) (.q [.F 4] .ret) .skip)) (.seq (.q [.L 32 7 3,.w 33 118 32,.K 34 0] (.block 0 (.loop (.q [.b 35 .lss 3 34 5] (.seq (.cond (.t 35) .skip (.exit 0)) (.seq (.block 1 (.q [.m 36 34,.z 37 (.ixArr false 5 1 (.t 33) (.t 34)),.m 7 36,.m 8 37] (.q [.m 38 5,.m 39 7,.c 40 .shr 3 38 39,.b 41 .and 3 40 1,.b 42 .eql 3 41 1,.m 9 42] (.q [.m 43 9,.m 44 43,.my 45 44 8,.y 46 44 (.bin .lss true 3 (.t 45) (.k 0)),.my 47 44 46,.mn 48 47 8,.nl 49 47 2,.n 50 47 (.lenSl (.t 49)),.n 51 47 (.bin .geq false 3 (.t 48) (.t 50)),.y 52 44 (.pick (.t 47) .T (.t 51)),.q 53 44 52,.m 54 53,.mn 55 54 9,.n 56 54 (.un .not (.t 55)),.mn 57 54 56,.my 58 57 8,.y 59 57 (.bin .neq true 3 (.t 58) (.k (-1))),.n 60 54 (.pick (.t 57) (.t 59) .F),.p 61 54 60] (.cond (.t 61) (.q [.F 4] .ret) .skip))))) (.ops [.b 62 .add 3 34 1,.m 34 62]))))))) (.q [.L 63 7 3,.w 64 78 63,.z 65 (.mkFunc 119 [] [.t 2]),.W 66 77 64 65,.m 10 66] (.seq (.q [.f 67 1 3,.l 68 67,.f 69 2 3,.l 70 69,.z 71 (.buildSl 1 2 [(.i 0),(.i 0)] [(0,1,.t 68),(1,1,.t 70)]),.s 72 71,.K 73 0] (.block 2 (.loop (.q [.c 74 .lss 3 73 72] (.seq (.cond (.t 74) .skip (.exit 2)) (.seq (.block 3 (.q [.I 75 1 71 73,.l 76 75,.m 12 76] (.q [.m 77 12,.b 78 .geq 3 77 0,.m 79 78,.yl 80 79 2,.my 81 79 12,.y 82 79 (.ixAddr 3 (.t 80) (.t 81)),.y 83 79 (.loadN 3 (.t 82)),.y 84 79 (.w 75 [.t 83]),.my 85 79 84,.mn 86 85 10,.mn 87 85 86,.yl 88 87 2,.my 89 87 12,.y 90 87 (.ixAddr 3 (.t 88) (.t 89)),.yf 91 87 1 90,.yl 92 87 91,.y 93 87 (.un .not (.t 92)),.n 94 85 (.pick (.t 87) (.t 93) .F),.y 95 79 (.pick (.t 85) .T (.t 94)),.q 96 79 95] (.cond (.t 96) (.q [.F 4] .ret) .skip)))) (.ops [.b 97 .add 3 73 1,.m 73 97]))))))) (.q [.f 98 2 3,.l 99 98,.b 100 .lss 3 99 0,.m 101 100,.nf 102 101 1 3,.nl 103 101 102,.nf 104 101 2 3,.nl 105 101 104,.n 106 101 (.bin .neq false 3 (.t 103) (.t 105)),.p 107 101 106,.m 108 107,.yl 109 108 2,.y 110 108 (.loadN 7 (.t 3)),.y 111 108 (.w 120 [.t 109,.t 110]),.q 112 108 111,.m 4 112] .ret))))))))
def r_lengths_one:Nf Tryz.prog 76=some ⟨113,z8w.r,[.tmp 4]⟩:=Aa
def zyc{p st:Nat}(v:Int)(j:F[p]?=some (.cells [.lst (Nr V) V.length 3] st))(z:inV V v)(k:P (.bool (gv V v.toNat).sec) F):O6 (.fn 119) [.i v,.ptr p 0] F P:=by
 refine Nd r_lengths_one_1 Aa N ?_;obtain⟨a,rfl,A,B⟩:=z.at;have g:=xd B;simp only[I6]at g k;simp[zab,j,A];simp[M9 g];exact k
def zis(g:List Vr)(o:Ko):Na 76 [.lst (Nr g) g.length 3,.agg o.f] (.bool (Nz g o)) []:=by
 refine Np.val rfl (Nd r_lengths_one Aa (by simp) ?_);have C:o.f=[.i o.kind,.i o.d,.i o.e,.i o.a,.i o.b,.i o.c,.u o.imm]:=rfl;by_cases z:o.kind=17
 ·simp[z8w,C,z];have hf:=zaw (Nr g) g.length o;rw[C,z]at hf;refine Nb hf (bors_self _ Bv) ?_;simp[Nz,z]
 simp[z8w,C,z];refine Nb (zg2 o.kind) (by simp) ?_;cases M:Ow o.kind with
 |none=>simp[Nz,z,M]
 |some s =>
 simp;rw[←C];refine Nb (zeu o) (bors_self _ rfl) ?_;cases hn:Qm o with
 |false=>simp[Nz,z,M,hn]
 |true =>
 simp[C];rw[←C];refine Nb (z9m o) (bors_self _ rfl) ?_;have gD:=zn7 M;simp;refine Ns (λY gE gF N=>∃i:Nat,gE=[]∧gF=[.cells [.lst (Nr g) g.length 3] 0,.cells o.f 0]∧N+i=5∧lk Y 2=.ptr 0 0∧lk Y 3=.ptr 1 0∧lk Y 5=.i s∧lk Y 33=.agg ((Ot o).map .i)∧lk Y 34=.i i∧∀O,O<i→Qu g.length s O (gd (Ot o) O)=true) (N:=5) ⟨0,by simp[Ot]⟩ ?_;rintro N Y gE gF ⟨i,rfl,rfl,hN,B,H,h5,P,gg,Z⟩ Nx I;by_cases hi:5≤i
 case neg =>
  have gB:(i:Int)<5:=J
  have g2:i<5:=J
  have hg:=So (f:=LV.i) (U7 (l:=Ot o) (u:=i) g2);have A:Qu g.length s i (gd (Ot o) i)=true→∀O,O<i+1→Qu g.length s O (gd (Ot o) O)=true:=λh O hj=>by
   by_cases e:O=i
   ·rw[e];exact h
   ·exact Z O J
  have K:Qu g.length s i (gd (Ot o) i)=false→Nz g o=false:=λh=>by
   simp[Nz,z,M,zmu g2 h]
  have pb:=zrz s i;generalize gd (Ot o) i=v at *;have S:0≤(s:Int)/2^i:=Int.ediv_nonneg J (Int.pow_nonneg J);have e1:(s:Int)/2^i<9223372036854775808:=Int.lt_of_le_of_lt (Int.ediv_le_self _ J) J;have em:max ((s:Int)/2^i) 0=(s:Int)/2^i:=J
  simp[B,H,h5,P,gg,gB,M9 hg,em,S,e1,pb];refine⟨J,λT=>⟨λv0=>?_,λv0=>⟨λv1=>?_,λv1=>?_⟩⟩,λT=>?_⟩
  ·exact K Fe
  ·exact K Fe
  ·simp only[T,zko];exact⟨J,I _ _ _ ⟨N-1,J,i+1,rfl,rfl,J,Ax,Ba,By,Bk,by simp,A Fe⟩⟩
  ·simp only[T,zgt];exact⟨λU=>⟨J,I _ _ _ ⟨N-1,J,i+1,rfl,rfl,J,Ax,Ba,By,Bk,by simp,A (by simp[Qu,T,U])⟩⟩,λU=>K (by simp[Qu,T,U])⟩
 have V:Tc g.length s o=true:=zji λO hj=>Z O J
 have L:=zlr M V;have gB:¬(i:Int)<5:=J
 simp[B,H,P,gg,gB,C];rw[←C];refine Qo (z9l o L.swap) rfl ?_;simp;have gC:(Rr o).length≤9223372036854775807:=by
  have h1:([o.a,o.b,o.c].filter λv=>!decide (v<0)).length≤3:=Lh _ _;unfold Rr;split<;>simp at h1 ⊢<;>omega
 rw[B];refine z68 (p:=λv=>(gv g v.toNat).sec) gC (λv U K' k=>zyc v rfl (L.takes v U) k) ?_;rw[show (Rr o).any (λv=>(gv g v.toNat).sec)=Oq g o from rfl];simp[B,H,C];refine Ns (λY gE gF N=>∃i:Nat,gE=[]∧gF=[.cells [.lst (Nr g) g.length 3] 0,.cells o.f 0,.dyn ([o.d,o.e].map .i) 2 1 0 0]∧N+i=2∧lk Y 2=.ptr 0 0∧lk Y 3=.ptr 1 0∧lk Y 10=.bool (Oq g o)∧lk Y 71=.dy 2 0∧lk Y 72=.i 2∧lk Y 73=.i i∧∀O,O<i→Rq g (Oq g o) (gd [o.d,o.e] O)=true) (N:=2) ⟨0,by simp[B,H,C]⟩ ?_;rintro N Y gE gF ⟨i,rfl,rfl,hN,B,H,D,E,F,G,Z⟩ Nx I;by_cases hi:2≤i
 case neg =>
  have gB:(i:Int)<2:=J
  have g2:i<2:=J
  have hg:=So (f:=LV.i) (U7 (l:=[o.d,o.e]) (u:=i) g2);have A:Rq g (Oq g o) (gd [o.d,o.e] i)=true→∀O,O<i+1→Rq g (Oq g o) (gd [o.d,o.e] O)=true:=λh O hj=>by
   by_cases e:O=i
   ·rw[e];exact h
   ·exact Z O J
  have K:Rq g (Oq g o) (gd [o.d,o.e] i)=false→Nz g o=false:=λh=>by
   have X:i=0∨i=1:=J
   rcases X with rfl|rfl
   ·have h:Rq g (Oq g o) o.d=false:=h;simp[Nz,z,M,h]
   ·have h:Rq g (Oq g o) o.e=false:=h;simp[Nz,z,M,h]
  have gj:gd [o.d,o.e] i=-1∨inV g (gd [o.d,o.e] i):=by
   have X:i=0∨i=1:=J
   rcases X with rfl|rfl
   ·exact L.d
   ·exact L.e
  generalize gd [o.d,o.e] i=v at *;simp only[Kn,Mw]at hg;rcases gj with rfl|U
  ·simp[B,H,D,E,F,G,gB,M9 hg];exact⟨J,I _ _ _ ⟨N-1,J,i+1,rfl,rfl,J,Ax,Ba,Bc,Aw,Ci,by simp,A (by simp[Rq])⟩⟩
  ·obtain⟨k,rfl,hk,ek⟩:=U.at;have q3:=V9 ek;have q1:=xd ek;have hq:=Ty hk;simp only[I6]at q1 q3;simp[B,H,D,E,F,G,gB,M9 hg,hk,q3,hq];refine Nb (z6a (gv g k)) (bors_self _ rfl) ?_;cases Q:Ob (gv g k) with
   |true =>
    simp;exact K (by simp[Rq,Q])
   |false =>
    cases j:Oq g o with
    |false =>
     simp[B,D,G,j];exact⟨J,I _ _ _ ⟨N-1,J,i+1,rfl,rfl,J,Ax,Ba,by simp[D,j],Aw,Ci,by simp,A (by simp[Rq,Q,j])⟩⟩
    |true =>
     cases R:(gv g k).sec with
     |false =>
      simp[B,D,G,j,hk,M9 q1,R];exact K (by simp[Rq,Q,j,R])
     |true =>
      simp[B,D,G,j,hk,M9 q1,R];exact⟨J,I _ _ _ ⟨N-1,J,i+1,rfl,rfl,J,Ax,Ba,by simp[D,j],Aw,Ci,by simp,A (by simp[Rq,Q,j,R])⟩⟩
 have gB:¬(i:Int)<2:=J
 have od:Rq g (Oq g o) o.d=true:=Z 0 J;have oe:Rq g (Oq g o) o.e=true:=Z 1 J;by_cases S:o.e<0
 ·simp[B,H,E,F,G,gB,C,S];rw[←C];refine Nb (z9e g o L.alike) (bors_self _ (by simp[dats,LV.dat,Ph,C])) ?_;simp[Nz,z,M,hn,V,od,oe,S]
 ·by_cases e1:o.d=o.e
  ·simp[B,H,E,F,G,gB,C,S,e1];simp[Nz,z,M,S,e1]
  ·simp[B,H,E,F,G,gB,C,S,e1];rw[←C];refine Nb (z9e g o L.alike) (bors_self _ (by simp[dats,LV.dat,Ph,C])) ?_;simp[Nz,z,M,hn,V,od,oe,S,e1]
def zc4:LC:=(.q [.F 2] (.q [.K 3 0] (.seq (.q [.m 6 0,.s 7 6,.K 8 0] (.block 0 (.loop (.q [.c 9 .lss 3 8 7] (.seq (.cond (.t 9) .skip (.exit 0)) (.seq (.block 1 (.q [.m 10 8,.I 11 3 6 8,.L 12 3 11,.z 5 (.alloc [(.i 0),(.bool false),(.i 0)]),.m 4 10,.S 3 5 12] (.seq (.q [.f 13 0 5,.l 14 13,.b 15 .lss 3 14 1,.m 16 15,.nf 17 16 0 5,.nl 18 16 17,.nb 19 16 .gtr 3 18 512,.p 20 16 19,.m 21 20,.nf 22 21 2 5,.nl 23 21 22,.nb 24 21 .lss 3 23 0,.p 25 21 24,.m 26 25,.nf 27 26 2 5,.nl 28 26 27,.nb 29 26 .gtr 3 28 3,.p 30 26 29] (.cond (.t 30) (.q [.F 2] .ret) .skip)) (.seq (.q [.f 31 2 5,.l 32 31,.b 33 .eql 3 32 0] (.cond (.t 33) (.exit 1) .skip)) (.seq (.q [.m 34 3,.m 35 4,.c 36 .lss 3 34 35,.m 37 36,.nf 38 37 1 5,.nl 39 37 38,.nf 40 37 2 5,.nl 41 37 40,.nb 42 37 .neq 3 41 1,.n 43 37 (.bin .neq false 4 (.t 39) (.t 42)),.p 44 37 43] (.cond (.t 44) (.q [.F 2] .ret) .skip)) (.ops [.m 45 3,.b 46 .add 3 45 1,.m 3 46])))))) (.ops [.b 47 .add 3 8 1,.m 8 47]))))))) (.q [.m 48 0,.s 49 48,.b 50 .geq 3 49 1,.m 51 50,.my 52 51 0,.y 53 51 (.lenSl (.t 52)),.y 54 51 (.bin .leq true 3 (.t 53) (.k 256)),.q 55 51 54,.m 56 55,.my 57 56 3,.y 58 56 (.bin .leq true 3 (.t 57) (.k 12)),.q 59 56 58,.m 2 59] .ret))))
def r_lengths_vars:Nf Tryz.prog 72=some ⟨60,zc4.r,[.tmp 2]⟩:=Aa
def zgy(g:List Vr)(hl:g.length≤9223372036854775807):Na 72 [.lst (Nr g) g.length 3] (.bool (P6 g)) []:=by
 refine Np.val rfl (Nd r_lengths_vars Aa (by simp) ?_);simp[zc4];refine Ns (λV gg gj N=>∃i p:Nat,gg=[]∧N+i=g.length∧p≤i∧lk V 0=.lst (Nr g) g.length 3∧lk V 3=.i p∧lk V 6=.lst (Nr g) g.length 3∧lk V 7=.i g.length∧lk V 8=.i i∧Qc i p (g.drop i)=Qc 0 0 g) (N:=g.length) ⟨0,0,by simp⟩ ?_;rintro N V gg gj ⟨i,p,rfl,hN,Y,A,E,B,C,G,O⟩ Nx S;by_cases Q:i<g.length
 ·have Z:=Qp Q;have I:=V9 Z;have K:=Ty Q;rw[zh8 Q]at O;have L:(gv g i).f=[.i (gv g i).limbs,.bool (gv g i).sec,.i (gv g i).mode]:=rfl;generalize gv g i=v at *;have D:Qc i p (v::g.drop (i+1))=none→P6 g=false:=λh=>by rw[h]at O;simp[P6,←O]
  by_cases j:v.limbs<1
  ·simp[A,E,B,C,G,Q,I,K,L,j];exact D (by simp[Qc,Tt,j])
  by_cases z:512<v.limbs
  ·simp[A,E,B,C,G,Q,I,K,L,j,z];exact D (by simp[Qc,Tt,j,z])
  by_cases F:v.mode<0
  ·simp[A,E,B,C,G,Q,I,K,L,j,z,F];exact D (by simp[Qc,Tt,j,z,F])
  by_cases H:3<v.mode
  ·simp[A,E,B,C,G,Q,I,K,L,j,z,F,H];exact D (by simp[Qc,Tt,j,z,F,H])
  by_cases M:v.mode=0
  ·simp[A,E,B,C,G,Q,I,K,L,j,z,F,H,M];refine⟨J,S _ _ _ ⟨N-1,J,i+1,p,rfl,J,J,Af,Aw,Ax,Ae,by simp,?_⟩⟩;rw[←O];simp[Qc,Tt,j,z,F,H,M]
  by_cases R:p<i
  ·simp[A,E,B,C,G,Q,I,K,L,j,z,F,H,M,R];exact D (by simp[Qc,Tt,j,z,F,H,M,R])
  by_cases T:v.sec=decide (v.mode=1)
  ·simp[A,E,B,C,G,Q,I,K,L,j,z,F,H,M,R,Tk,T];exact D (by simp[Qc,Tt,j,z,F,H,M,R,T])
  ·have b8:v.sec=!decide (v.mode=1):=by cases hs:v.sec<;>cases hm:decide (v.mode=1)<;>simp_all
   simp[A,E,B,C,G,Q,I,K,L,j,z,F,H,M,R,Tk,b8];refine⟨J,J,S _ _ _ ⟨N-1,J,i+1,p+1,rfl,J,J,Af,by simp,Ax,Ae,by simp,?_⟩⟩;rw[←O];simp[Qc,Tt,j,z,F,H,M,R,T]
 ·have ei:i=g.length:=J
  rw[Jo J]at O;have P:Qc 0 0 g=some p:=by rw[←O];rfl
  by_cases U:1≤g.length
  ·by_cases X:g.length≤256
   ·simp[A,E,B,C,G,Q,P6,P,U,X];omega
   ·simp[A,E,B,C,G,Q,P6,P,U,X];omega
  ·simp[A,E,B,C,G,Q,P6,P,U];omega
def z5h:LC:=(.q [.F 3] (.q [.m 4 0,.b 5 .geq 3 4 0,.m 6 5,.yf 7 6 0 1,.yl 8 6 7,.my 9 6 0,.y 10 6 (.ixAddr 3 (.t 8) (.t 9)),.yf 11 6 2 10,.yl 12 6 11,.y 13 6 (.bin .eql true 3 (.t 12) (.k 3)),.q 14 6 13,.m 3 14] .ret))
def r_lengths_Check_1:Nf Tryz.prog 73=some ⟨15,z5h.r,[.tmp 3]⟩:=Aa
def z85:LC:=(.q [.F 3] (.q [.l 4 1,.m 5 0,.I 6 1 4 5,.l 7 6,.z 8 (.un .not (.t 7)),.m 3 8] .ret))
def r_lengths_Check_2:Nf Tryz.prog 79=some ⟨9,z85.r,[.tmp 3]⟩:=Aa
def zad:LC:=(.q [.x 1 0,.K 2 0] (.seq (.q [.f 13 0 1,.l 14 13,.w 15 72 14,.z 16 (.un .not (.t 15)),.m 17 16,.nf 18 17 1 1,.nl 19 17 18,.n 20 17 (.lenSl (.t 19)),.nb 21 17 .gtr 3 20 4096,.p 22 17 21,.m 23 22,.nf 24 23 2 1,.nl 25 23 24,.n 26 23 (.lenSl (.t 25)),.nb 27 23 .gtr 3 26 4096,.p 28 23 27] (.cond (.t 28) (.q [.K 2 2] .ret) .skip)) (.q [.z 29 (.mkFunc 73 [] [.t 1]),.m 3 29] (.seq (.q [.f 30 2 1,.l 31 30,.s 32 31,.K 33 0] (.block 0 (.loop (.q [.c 34 .lss 3 33 32] (.seq (.cond (.t 34) .skip (.exit 0)) (.seq (.block 1 (.q [.I 35 7 31 33,.L 36 7 35,.z 5 (.alloc [(.i 0),(.i 0),(.i 0),(.i 0),(.i 0),(.i 0),(.u 0)]),.S 7 5 36] (.q [.f 37 0 5,.l 38 37,.b 39 .neq 3 38 17,.m 40 39,.nf 41 40 0 1,.nl 42 40 41,.n 43 40 (.loadN 7 (.t 5)),.n 44 40 (.w 74 [.t 42,.t 43]),.n 45 40 (.un .not (.t 44)),.p 46 40 45,.m 47 46,.mn 48 47 3,.nf 49 47 3 5,.nl 50 47 49,.n 51 47 (.callV (.t 48) [.t 50]),.p 52 47 51,.m 53 52,.mn 54 53 3,.nf 55 53 4 5,.nl 56 53 55,.n 57 53 (.callV (.t 54) [.t 56]),.p 58 53 57] (.cond (.t 58) (.q [.K 2 2] .ret) .skip)))) (.ops [.b 59 .add 3 33 1,.m 33 59]))))))) (.q [.f 60 0 1,.l 61 60,.s 62 61,.z 63 (.mkSl 1 [(.bool false)] (.t 62) (.t 62)),.z 6 (.alloc [.nilSl]),.S 1 6 63] (.seq (.q [.f 64 0 1,.l 65 64,.s 66 65,.K 67 0] (.block 2 (.loop (.q [.c 68 .lss 3 67 66] (.seq (.cond (.t 68) .skip (.exit 2)) (.seq (.block 3 (.q [.m 69 67,.I 70 3 65 67,.L 71 3 70,.z 8 (.alloc [(.i 0),(.bool false),(.i 0)]),.m 7 69,.S 3 8 71] (.draw [(.l 72 6,[]),(.m 73 7,[]),(.L 74 3 8,[]),(.w 75 75 74,[(.l 72 6,false)]),(.I 76 1 72 73,[]),(.S 1 76 75,[])]))) (.ops [.b 77 .add 3 67 1,.m 67 77]))))))) (.q [.K 9 0] (.seq (.q [.f 78 1 1,.l 79 78,.s 80 79,.K 81 0] (.block 4 (.loop (.q [.c 82 .lss 3 81 80] (.seq (.cond (.t 82) .skip (.exit 4)) (.seq (.block 5 (.q [.I 83 7 79 81,.L 84 7 83,.z 11 (.alloc [(.i 0),(.i 0),(.i 0),(.i 0),(.i 0),(.i 0),(.u 0)]),.S 7 11 84] (.seq (.q [.f 85 0 1,.l 86 85,.L 87 7 11,.W 88 76 86 87,.z 89 (.un .not (.t 88)),.m 90 89,.n 91 90 (.loadN 7 (.t 11)),.n 92 90 (.w 78 [.t 91]),.n 93 90 (.mkFunc 79 [] [.t 6]),.n 94 90 (.w 77 [.t 92,.t 93]),.p 95 90 94] (.cond (.t 95) (.q [.K 2 2] .ret) .skip)) (.seq (.q [.f 96 0 11,.l 97 96] (.block 6 (.q [.b 99 .eql 3 97 15,.m 98 99] (.cond (.t 98) (.ops [.m 100 9,.b 101 .add 3 100 1,.m 9 101]) (.q [.b 103 .eql 3 97 16,.m 102 103] (.cond (.t 102) (.ops [.m 104 9,.b 105 .sub 3 104 1,.m 9 105]) .skip)))))) (.seq (.q [.m 106 9,.b 107 .lss 3 106 0,.m 108 107,.mn 109 108 9,.nb 110 108 .gtr 3 109 4,.p 111 108 110] (.cond (.t 111) (.q [.K 2 2] .ret) .skip)) (.q [.f 112 1 11,.l 113 112,.b 114 .geq 3 113 0] (.cond (.t 114) (.ops [.l 115 6,.f 116 1 11,.l 117 116,.I 118 1 115 117,.v (.store 1 (.t 118) .T)]) .skip))))))) (.ops [.b 119 .add 3 81 1,.m 81 119]))))))) (.seq (.q [.l 120 6,.s 121 120,.K 122 0] (.block 7 (.loop (.q [.c 123 .lss 3 122 121] (.seq (.cond (.t 123) .skip (.exit 7)) (.seq (.block 8 (.q [.m 124 122,.m 12 124] (.q [.m 125 3,.m 126 12,.z 127 (.callV (.t 125) [.t 126]),.m 128 127,.yl 129 128 6,.my 130 128 12,.y 131 128 (.ixAddr 1 (.t 129) (.t 130)),.yl 132 128 131,.y 133 128 (.un .not (.t 132)),.q 134 128 133] (.cond (.t 134) (.q [.K 2 2] .ret) .skip)))) (.ops [.b 135 .add 3 122 1,.m 122 135]))))))) (.seq (.q [.m 136 9,.b 137 .neq 3 136 0] (.cond (.t 137) (.q [.K 2 2] .ret) .skip)) (.q [.K 2 0] .ret)))))))))))
def r_lengths_Check:Nf Tryz.prog 43=some ⟨138,zad.r,[.tmp 2]⟩:=Aa
def M3(vs:List Vr)(g j:List Ko):List LV:=[.lst (Nr vs) vs.length 3,.lst (Oi g) g.length 7,.lst (Oi j) j.length 7]
def M6{x:M4}{q:Nat}(h:q<F.length):(F++x)[q]?=F[q]?:=Ic h
def xe(f:v8→LV)(l:List v8)(j:Nat)(x:v8)(h:j<l.length):Nu (l.map f) j [f x]=(l.set j x).map f:=by
 unfold Nu;rw[J1,Ij h];simp[L0,List.map_drop]
def zh(n:Nat):Ni [.bool false] n=(List.replicate n false).map LV.bool:=by
 induction n with
 |zero=>rfl
 |succ n g=>simp[Ni,g,Kb]
def Zn{a b:List Bool}(h:a.length=b.length)(z:∀j,j<a.length→gb a j=gb b j):a=b:=by
 apply List.ext_getElem h;intro j g A;have:=z j g;simpa [gb,Ie,g,A] using this
def zxs(m:List Bool)(i j:Nat)(b:Bool)(hi:i<m.length):gb (m.set i b) j=if j=i then b else gb m j:=by
 unfold gb;rw[Ie,Ie,L4];by_cases h:i=j
 ·subst h;simp[hi]
 ·rw[Ii h,Ii (λq=>h q.symm)]
def zcs{p st:Nat}(v:Int)(j:F[p]?=some (.cells (.lst (Nr V) V.length 3::D) st))(B:v<V.length)(k:P (.bool (N9 V v)) F):O6 (.fn 73) [.i v,.ptr p 0] F P:=by
 refine Nd r_lengths_Check_1 Aa N ?_;by_cases g:0≤v
 ·obtain⟨a,rfl⟩:=Ir g;have z:a<V.length:=J
  have A:=ft (Qp z);simp[z5h,j,z];simp[M9 A];simpa [N9] using k
 ·simp[z5h,j,g];simpa [N9,g] using k
def zpv{p q st:Nat}{m:List Bool}(v:Int)(z:F[p]?=some (.cells [.dy q 0] st))(A:F[q]?=some (.dyn (m.map .bool) m.length 1 0 g))(B:0≤v∧v<m.length)(k:P (.bool (!gb m v.toNat)) F):O6 (.fn 79) [.i v,.ptr p 0] F P:=by
 refine Nd r_lengths_Check_2 Aa N ?_;obtain⟨a,rfl⟩:=Ir B.1;have j:a<m.length:=J
 have C:=So (f:=LV.bool) (zi j);simp[z85,z,A,j];simp[M9 C];simpa using k
def ny(vs:List Vr)(g j:List Ko)(jF:vs.length≤9223372036854775807):Na 43 [.agg (M3 vs g j)] (.i (N3 vs g j)) []:=by
 refine Np.val rfl (Nd r_lengths_Check Aa (by simp) ?_);have gB:Ng vs g j=false→N3 vs g j=2:=λh=>by simp[N3,h]
 simp[zad,M3];refine Nb (zgy vs jF) (bors_self _ Bv) ?_;cases hv:P6 vs with
 |false=>simp[gB,Ng,hv]
 |true =>
 have jG:=oh hv;by_cases g1:(4096:Int)<(g.length:Int)
 ·simp[g1];exact (gB (by simp[Ng,hv];omega)).symm
 by_cases g2:(4096:Int)<(j.length:Int)
 ·simp[g1,g2];exact (gB (by simp[Ng,hv];omega)).symm
 simp[g1,g2];refine Ns (λρ jz gF N=>∃i:Nat,jz=[]∧N+i=j.length∧lk ρ 1=.ptr 0 0∧lk ρ 3=.fn (.func 73) [] [.ptr 0 0]∧lk ρ 31=.lst (Oi j) j.length 7∧lk ρ 32=.i j.length∧lk ρ 33=.i i∧0<gF.length∧gF[0]?=some (.cells (M3 vs g j) 0)∧∀gj,gj<i→Pe vs (go j gj)=true) (N:=j.length) ⟨0,Cz⟩ ?_;rintro N ρ jz gF ⟨i,rfl,hN,A,E,gO,gP,gQ,M,K,hr⟩ Nx G;by_cases gG:i<j.length
 ·have q7:=mc (Vg gG);have R:=mg gG;have O:(go j i).f=[.i (go j i).kind,.i (go j i).d,.i (go j i).e,.i (go j i).a,.i (go j i).b,.i (go j i).c,.u (go j i).imm]:=rfl;have no:Pe vs (go j i)=false→N3 vs g j=2:=λh=>gB (by
   have:j.all (Pe vs)=false:=by
    rw[K8];exact⟨go j i,Jd (Vg gG),Eg⟩
   simp[Ng,this])
  have jH:Pe vs (go j i)=true→∀gj,gj<i+1→Pe vs (go j gj)=true:=λh gj hj=>by
   by_cases e:gj=i
   ·rw[e];exact h
   ·exact hr gj J
  generalize go j i=o at *;by_cases gC:o.kind=17
  ·simp[A,E,gO,gP,gQ,gG,q7,R,O,gC,↓M6 M,K,M3];have hc:=zaw (Nr vs) vs.length o;rw[O,gC]at hc;refine Nb hc (bors_self _ Bv) ?_;cases hn:Q3 vs.length o with
   |false =>
    simp;exact (no (by simp[Pe,hn])).symm
   |true =>
    have gR:=zqj gC hn;have ha:o.a<vs.length:=by
     simp only[Q3,H9]at hn;exact (dw.1 hn.2.2.2.1).2
    have hb:o.b<vs.length:=by
     simp only[Q3,H9]at hn;have:=hn.2.2.2.2;split at this
     ·exact (dw.1 this).2
     ·simp at this;omega
    simp[E];refine zcs o.a Cg ha ?_;cases ho:N9 vs o.a with
    |true =>
     simp;exact (no (by simp[Pe,ho])).symm
    |false =>
     simp[E];refine zcs o.b Cg hb ?_;cases jA:N9 vs o.b with
     |true =>
      simp;exact (no (by simp[Pe,jA])).symm
     |false =>
      simp[gQ];exact⟨J,G _ _ _ ⟨N-1,J,i+1,rfl,J,Af,Aw,by simp[gO],by simp[gP],by simp,by simp,Cg,jH (by simp[Pe,gC,hn,ho,jA])⟩⟩
  ·simp[A,E,gO,gP,gQ,gG,q7,R,O,gC];exact (no (by simp[Pe,gC])).symm
 have jB:j.all (Pe vs)=true:=by
  rw[I7];intro o ho;obtain⟨gj,hj,rfl⟩:=K5.1 ho;have e:=Vg hj;rw[Ib hj]at e;rw[Option.some.inj e];exact hr gj J
 simp[A,E,gO,gP,gQ,gG,K,M3,jG,↓M6 M];refine⟨J,?_⟩;refine Ns (λρ jz gF N=>∃(i:Nat) (m:List Bool) (p q st D:Nat),jz=[]∧N+i=vs.length∧lk ρ 1=.ptr 0 0∧lk ρ 3=.fn (.func 73) [] [.ptr 0 0]∧lk ρ 6=.ptr p 0∧lk ρ 65=.lst (Nr vs) vs.length 3∧lk ρ 66=.i vs.length∧lk ρ 67=.i i ∧
   0<gF.length∧p<gF.length∧0<q∧q<gF.length∧gF[0]?=some (.cells (M3 vs g j) 0)∧gF[p]?=some (.cells [.dy q 0] st)∧gF[q]?=some (.dyn (m.map .bool) m.length 1 0 D)∧m.length=vs.length∧∀gj,gj<i→gb m gj=Ob (gv vs gj)) (N:=vs.length)
  ⟨0,List.replicate vs.length false,gF.length+1,gF.length,1,0,rfl,J,Af,Aw,by simp,Af,by simp,by simp,by simp,by simp,M,by simp,Cg,by simp,by simp[zh],by simp,by simp⟩ ?_
 clear A E K hr G M;rintro N ρ jz gF ⟨i,m,p,q,st,D,rfl,hN,A,E,C,gV,gX,gY,M,z,gH,H,K,I,R,S,hm⟩ Nx G;by_cases gG:i<vs.length
 ·have hg:=Qp gG;have q3:=V9 hg;have gZ:=Ty gG;have O:(gv vs i).f=[.i (gv vs i).limbs,.bool (gv vs i).sec,.i (gv vs i).mode]:=rfl;simp[A,C,gV,gX,gY,gG,q3,gZ,O,↓M6 z,I];rw[←O];refine Nb (z6a (gv vs i)) (bors_self _ rfl) ?_;simp[↓M6 z,↓M6 H,I,R,C,gY,gG,S];refine⟨J,J,G _ _ _ ⟨N-1,J,i+1,m.set i (Ob (gv vs i)),p,q,st,D+1,rfl,J,Af,Aw,Ae,by simp[gV],by simp[gX],by simp,by simp,Ab,gH,Ab,?_,?_,?_,by simp[S],λgj hj=>?_⟩⟩
  ·rw[H8 J,M6 M];exact K
  ·have jI:p≠q:=λe=>by rw[e,R]at I;cases I
   rw[H8 J,M6 z];exact I
  ·rw[Ia Ab,xe _ _ _ _ J,Jz,S]
  ·rw[zxs _ _ _ _ J];split
   ·rename_i e;rw[e]
   ·exact hm gj J
 have jK:m=S1 vs:=Zn (by simp[S1,S]) (λgj hj=>by
  rw[hm gj J];unfold gb S1;rw[Ie,Ks,Qp J];rfl)
 simp[A,C,gV,gX,gY,gG,K,M3];refine Ns (λρ jz gF N=>∃(i:Nat) (m:List Bool) (F:Int) (p q st D:Nat),jz=[]∧N+i=g.length∧lk ρ 1=.ptr 0 0∧lk ρ 3=.fn (.func 73) [] [.ptr 0 0]∧lk ρ 6=.ptr p 0∧lk ρ 9=.i F∧lk ρ 79=.lst (Oi g) g.length 7∧lk ρ 80=.i g.length∧lk ρ 81=.i i ∧
   0<gF.length∧p<gF.length∧0<q∧q<gF.length∧gF[0]?=some (.cells (M3 vs g j) 0)∧gF[p]?=some (.cells [.dy q 0] st)∧gF[q]?=some (.dyn (m.map .bool) m.length 1 0 D)∧m.length=vs.length∧0≤F∧F≤4∧Px vs m F (g.drop i)=Px vs (S1 vs) 0 g) (N:=g.length)
  ⟨0,m,0,p,q,st,D,rfl,J,Af,Aw,Ae,by simp,Af,by simp,by simp,M,z,gH,H,K,I,R,S,J,J,by simp[jK]⟩ ?_
 clear A E C K I R G M z gH H S;rintro N ρ jz gF ⟨i,m,F,p,q,st,D,rfl,hN,A,E,C,V,X,Y,Z,M,z,gH,H,K,I,R,S,jS,jT,gD⟩ Nx G;have jI:p≠q:=λe=>by rw[e,R]at I;cases I
 by_cases gG:i<g.length
 ·have q7:=mc (Vg gG);have gZ:=mg gG;rw[zgl gG]at gD;have O:(go g i).f=[.i (go g i).kind,.i (go g i).d,.i (go g i).e,.i (go g i).a,.i (go g i).b,.i (go g i).c,.u (go g i).imm]:=rfl;generalize go g i=o at *;have no:Px vs m F (o::g.drop (i+1))=none→N3 vs g j=2:=λh=>gB (by
   rw[h]at gD;simp[Ng,←gD])
  simp[A,X,Y,Z,gG,q7,gZ,O,↓M6 M,K,M3];rw[←O];refine Nb (zis vs o) (bors_self _ (by simp[dats,LV.dat,Ph,O])) ?_;cases ho:Nz vs o with
  |false =>
   simp;exact (no (by simp[Px,ho])).symm
  |true =>
  have gR:=zvk ho;simp[O];rw[←O];refine Qo (z9l o gR.swap) rfl ?_;simp[C];have jL:(Rr o).length≤9223372036854775807:=by
   have A:([o.a,o.b,o.c].filter λv=>!decide (v<0)).length≤3:=Lh _ _;unfold Rr;split<;>simp at A ⊢<;>omega
  refine z68 (p:=λv=>!gb m v.toNat) jL (λv hv K' k=>zpv v Dz (by rw[M6 H];exact R) (by have:=gR.takes v hv;omega) k) ?_;cases ht:V3 m o with
  |false =>
   have:((Rr o).any λv=>!gb m v.toNat)=true:=by
    have h:=ht;unfold V3 at h;rw[K8]at h;obtain⟨v,hv,h⟩:=h;exact Mm.2 ⟨v,hv,Bb⟩
   rw[this];simp;exact (no (by simp[Px,ho,ht])).symm
  |true =>
  have:((Rr o).any λv=>!gb m v.toNat)=false:=by
   have h:=ht;unfold V3 at h;rw[I7]at h;rw[M2];intro v hv;simp[h v hv]
  rw[this];have jM:∀B,B=F+dl o.kind→(B<0∨4<B→N3 vs g j=2)∧(0≤B→B≤4→Px vs (Sl m o) B (g.drop (i+1))=Px vs (S1 vs) 0 g):=λB e=>by
   subst e;refine⟨λh=>no ?_,λh0 h4=>?_⟩
   ·rw[Px,Ii];simp only[H9,Il];omega
   ·rw[←gD,Px,Ij];simp only[H9,Il];exact⟨ho,ht,h0,h4⟩
  have g8:∃T,dl o.kind=T∧-1≤T∧T≤1∧((o.kind=15∧T=1)∨(o.kind≠15∧o.kind=16∧T=-1)∨(o.kind≠15∧o.kind≠16∧T=0)):=by
   by_cases k1:o.kind=15
   ·exact⟨1,by simp[dl,k1],J,J,.inl ⟨k1,rfl⟩⟩
   by_cases k2:o.kind=16
   ·exact⟨-1,by simp[dl,k2],J,J,.inr (.inl ⟨k1,k2,rfl⟩)⟩
   ·exact⟨0,by simp[dl,k1,k2],J,J,.inr (.inr ⟨k1,k2,rfl⟩)⟩
  obtain⟨T,e1,e2,e3,g8⟩:=g8;obtain⟨gS,jC⟩:=jM (F+T) (by rw[e1]);have jU:=gR.d;have gI:0≤o.d→o.d<(m.length:Int):=λh=>J
  have gK:0≤o.d→Nu (m.map LV.bool) o.d.toNat [.bool true]=(m.set o.d.toNat true).map LV.bool:=λh=>xe LV.bool _ _ true J
  have next:∀(B:Int) (ρ':M7) (G':M4) (gL:Nat),B=F+T→0≤B→B≤4→lk ρ' 1=.ptr 0 0→lk ρ' 3=.fn (.func 73) [] [.ptr 0 0]→lk ρ' 6=.ptr p 0→lk ρ' 9=.i B→lk ρ' 79=.lst (Oi g) g.length 7→lk ρ' 80=.i g.length→lk ρ' 81=.i ((i:Int)+1) →
    gF.length≤G'.length→G'[0]?=some (.cells (M3 vs g j) 0)→G'[p]?=some (.cells [.dy q 0] st)→G'[q]?=some (.dyn ((Sl m o).map .bool) m.length 1 0 gL)→Nx ρ' [] G':=by
   intro B ρ' G' gL e gT gU a1 a3 a6 a9 jO jP jQ jV b0 bp bq;have jD:(Sl m o).length=m.length:=by unfold Sl;split<;>simp
   refine G _ _ _ ⟨N-1,J,i+1,Sl m o,B,p,q,st,gL,rfl,J,a1,a3,a6,a9,jO,jP,by rw[jQ];simp,J,J,gH,J,b0,bp,by rw[jD];exact bq,by rw[jD,S],gT,gU,?_⟩;subst e;exact jC gT gU
  have q0:q≠0:=J
  have g9:0≤o.d→Sl m o=m.set o.d.toNat true:=λh=>by simp[Sl,h]
  have jg:¬0≤o.d→Sl m o=m:=λh=>by simp[Sl,h]
  rcases g8 with ⟨L,rfl⟩|⟨L,gE,rfl⟩|⟨L,gE,rfl⟩
  ·have r0:¬F+1<0:=J
   by_cases d4:4<F+1
   ·simp[V,O,L,r0,d4]
    repeat (refine⟨J,?_⟩)
    exact (gS (.inr d4)).symm
   by_cases P:0≤o.d
   ·have d2:=gI P;simp[C,V,Z,O,L,r0,d4,↓M6 z,↓M6 H,I,R,P,d2,gK P]
    repeat (refine⟨J,?_⟩)
    refine next (F+1) _ _ (D+1) rfl J J Af Aw Ae (by simp) Dh Bo (by simp) (by simp) ?_ ?_ ?_
    ·rw[H8 J,M6 M];exact K
    ·rw[H8 J,M6 z];exact I
    ·rw[Ia Ab,g9 P,Lw]
   ·simp[C,V,Z,O,L,r0,d4,P]
    repeat (refine⟨J,?_⟩)
    exact next (F+1) _ _ D rfl J J Af Aw Ae (by simp) Dh Bo (by simp) (by simp) Cg Dz Ep
  ·by_cases r0:F-1<0
   ·simp[V,O,L,gE,r0]
    repeat (refine⟨J,?_⟩)
    exact (gS (.inl J)).symm
   have d4:¬4<F-1:=J
   by_cases P:0≤o.d
   ·have d2:=gI P;simp[C,V,Z,O,L,gE,r0,d4,↓M6 z,↓M6 H,I,R,P,d2,gK P]
    repeat (refine⟨J,?_⟩)
    refine next (F-1) _ _ (D+1) J J J Af Aw Ae (by simp) Dh Bo (by simp) (by simp) ?_ ?_ ?_
    ·rw[H8 J,M6 M];exact K
    ·rw[H8 J,M6 z];exact I
    ·rw[Ia Ab,g9 P,Lw]
   ·simp[C,V,Z,O,L,gE,r0,d4,P]
    repeat (refine⟨J,?_⟩)
    exact next (F-1) _ _ D J J J Af Aw Ae (by simp) Dh Bo (by simp) (by simp) Cg Dz Ep
  ·have r0:¬F<0:=J
   have d4:¬4<F:=J
   by_cases P:0≤o.d
   ·have d2:=gI P;simp[C,V,Z,O,L,gE,r0,d4,↓M6 z,↓M6 H,I,R,P,d2,gK P]
    repeat (refine⟨J,?_⟩)
    refine next F _ _ (D+1) J J J Af Aw Ae Ch Dh Bo (by simp) (by simp) ?_ ?_ ?_
    ·rw[H8 J,M6 M];exact K
    ·rw[H8 J,M6 z];exact I
    ·rw[Ia Ab,g9 P,Lw]
   ·simp[C,V,Z,O,L,gE,r0,d4,P]
    repeat (refine⟨J,?_⟩)
    exact next F _ _ D J J J Af Aw Ae Ch Dh Bo (by simp) (by simp) Cg Dz Ep
 have jR:Px vs (S1 vs) 0 g=some (m,F):=by
  rw[Jo J]at gD;rw[←gD];rfl
 have l1:g.length≤4096:=J
 have l2:j.length≤4096:=J
 have gM:Ng vs g j=(U6 vs m&&decide (F=0)):=by simp[Ng,hv,jB,jR,l1,l2]
 simp[A,E,C,X,Y,Z,gG,I,R];refine Ns (λρ jz G' N=>∃i:Nat,jz=[]∧G'=gF∧N+i=vs.length∧lk ρ 1=.ptr 0 0∧lk ρ 3=.fn (.func 73) [] [.ptr 0 0]∧lk ρ 6=.ptr p 0∧lk ρ 9=.i F∧lk ρ 121=.i vs.length∧lk ρ 122=.i i ∧
   ∀gj,gj<i→(gv vs gj).mode=3→gb m gj=true) (N:=vs.length) ⟨0,rfl,rfl,J,Af,Aw,Ae,Ch,by simp[S],by simp,λgj hj=>J⟩ ?_
 clear A E C V G;rintro N ρ jz G' ⟨i,rfl,rfl,hN,A,E,C,V,gg,Q,ha⟩ Nx G;by_cases gG:i<vs.length
 ·have gm:i<m.length:=J
  have q1:=So (f:=LV.bool) (zi gm);simp[E,gg,Q,gG];refine zcs (i:Int) K J ?_;cases ho:N9 vs i with
  |false =>
   simp[Q];refine⟨J,G _ _ _ ⟨N-1,J,i+1,rfl,rfl,J,Af,Aw,Ae,Ch,by simp[gg],by simp,λgj hj U=>?_⟩⟩;by_cases e:gj=i
   ·subst e;simp[N9,U]at ho
   ·exact ha gj J U
  |true =>
   cases hb:gb m i with
   |false =>
    simp[C,Q,I,R,gm,M9 q1,hb];have U:(gv vs i).mode=3:=by simp[N9]at ho;exact ho
    have:U6 vs m=false:=by
     unfold U6;rw[K8];exact⟨i,Ji.2 gG,by simp[U,hb]⟩
    exact (gB (by rw[gM,this];rfl)).symm
   |true =>
    simp[C,Q,I,R,gm,M9 q1,hb];refine⟨J,G _ _ _ ⟨N-1,J,i+1,rfl,rfl,J,Af,Aw,Ae,Ch,by simp[gg],by simp,λgj hj U=>?_⟩⟩;by_cases e:gj=i
    ·rw[e];exact hb
    ·exact ha gj J U
 have jE:U6 vs m=true:=by
  unfold U6;rw[I7];intro gj hj;have hj:=Ji.1 hj;by_cases U:(gv vs gj).mode=3
  ·simp[ha gj J U]
  ·simp[U]
 by_cases d0:F=0
 ·simp[V,gg,Q,gG,d0];simp[N3,gM,jE,d0]
 ·simp[V,gg,Q,gG,d0];simp[N3,gM,d0]
def Wa:LC:=(.q [.x 3 1,.F 4] (.q [.m 6 0,.s 7 6,.m 5 7] (.seq (.q [.f 8 1 3,.l 9 8,.b 10 .neq 3 9 (-1),.m 11 10,.nf 12 11 2 3,.nl 13 11 12,.nb 14 11 .neq 3 13 (-1),.p 15 11 14,.m 16 15,.nf 17 16 5 3,.nl 18 16 17,.nb 19 16 .neq 3 18 (-1),.p 20 16 19,.m 21 20,.nf 22 21 3 3,.nl 23 21 22,.nb 24 21 .lss 3 23 0,.p 25 21 24,.m 26 25,.nf 27 26 3 3,.nl 28 26 27,.mn 29 26 5,.n 30 26 (.bin .geq false 3 (.t 28) (.t 29)),.p 31 26 30,.m 32 31,.nf 33 32 6 3,.nl 34 32 33,.n 35 32 (.bin .lss true 43 (.t 34) (.c (.u 1))),.p 36 32 35,.m 37 36,.nf 38 37 6 3,.nl 39 37 38,.n 40 37 (.bin .gtr true 43 (.t 39) (.c (.u 3))),.p 41 37 40] (.cond (.t 41) (.q [.F 4] .ret) .skip)) (.seq (.q [.f 42 6 3,.l 43 42,.u 44 .eql 43 43 2] (.cond (.t 44) (.q [.f 45 4 3,.l 46 45,.b 47 .geq 3 46 0,.m 48 47,.yf 49 48 4 3,.yl 50 48 49,.my 51 48 5,.y 52 48 (.bin .lss false 3 (.t 50) (.t 51)),.q 53 48 52,.m 4 53] .ret) .skip)) (.q [.f 54 4 3,.l 55 54,.b 56 .eql 3 55 (-1),.m 4 56] .ret)))))
def r_ref19_need:Nf Tryz.prog 49=some ⟨57,Wa.r,[.tmp 4]⟩:=Aa
def Ui:LC:=(.q [.K 2 0] (.seq (.q [.m 3 0] (.block 0 (.q [.b 5 .eql 3 3 1,.m 4 5] (.cond (.t 4) (.q [.K 2 1] .ret) (.q [.b 7 .eql 3 3 2,.m 6 7] (.cond (.t 6) (.q [.K 2 5] .ret) (.seq (.q [.b 9 .eql 3 3 3,.m 8 9] (.cond (.t 8) .skip (.q [.b 10 .eql 3 3 4,.m 8 10] (.cond (.t 8) .skip (.q [.b 11 .eql 3 3 5,.m 8 11] (.cond (.t 8) .skip (.q [.b 12 .eql 3 3 6,.m 8 12] (.cond (.t 8) .skip (.ops [.b 13 .eql 3 3 7,.m 8 13]))))))))) (.cond (.t 8) (.q [.K 2 13] .ret) (.seq (.q [.b 15 .eql 3 3 8,.m 14 15] (.cond (.t 14) .skip (.q [.b 16 .eql 3 3 10,.m 14 16] (.cond (.t 14) .skip (.q [.b 17 .eql 3 3 11,.m 14 17] (.cond (.t 14) .skip (.q [.b 18 .eql 3 3 12,.m 14 18] (.cond (.t 14) .skip (.ops [.b 19 .eql 3 3 13,.m 14 19]))))))))) (.cond (.t 14) (.q [.K 2 29] .ret) (.q [.b 21 .eql 3 3 9,.m 20 21] (.cond (.t 20) (.q [.K 2 21] .ret) (.q [.b 23 .eql 3 3 14,.m 22 23] (.cond (.t 22) (.q [.K 2 19] .ret) (.seq (.q [.b 25 .eql 3 3 15,.m 24 25] (.cond (.t 24) .skip (.ops [.b 26 .eql 3 3 16,.m 24 26]))) (.cond (.t 24) (.q [.K 2 0] .ret) .skip)))))))))))))))) (.q [.K 2 (-1)] .ret)))
def r_ref19_shape:Nf Tryz.prog 92=some ⟨27,Ui.r,[.tmp 2]⟩:=Aa
def zc8:LC:=(.q [.x 1 0,.z 2 (.alloc [(.i 0),(.i 0),(.i 0),(.i 0),(.i 0)])] (.q [.f 3 1 1,.l 4 3,.f 5 2 1,.l 6 5,.f 7 3 1,.l 8 7,.f 9 4 1,.l 10 9,.f 11 5 1,.l 12 11,.z 13 (.build [(.i 0),(.i 0),(.i 0),(.i 0),(.i 0)] [(0,1,.t 4),(1,1,.t 6),(2,1,.t 8),(3,1,.t 10),(4,1,.t 12)]),.S 5 2 13] .ret))
def r_ref19_fields:Nf Tryz.prog 93=some ⟨14,zc8.r,[.cellN 2 5]⟩:=Aa
def z45:LC:=(.q [.x 1 0,.F 2] (.seq (.q [.f 3 0 1,.l 4 3] (.block 0 (.q [.b 6 .eql 3 4 1,.m 5 6] (.cond (.t 5) (.q [.z 2 (.move .T)] .ret) (.q [.b 8 .eql 3 4 13,.m 7 8] (.cond (.t 7) (.q [.f 9 6 1,.l 10 9,.u 11 .geq 43 10 1,.m 12 11,.yf 13 12 6 1,.yl 14 12 13,.y 15 12 (.bin .leq true 43 (.t 14) (.c (.u 6))),.q 16 12 15,.m 2 16] .ret) (.q [.b 18 .eql 3 4 15,.m 17 18] (.cond (.t 17) (.q [.f 19 6 1,.l 20 19,.u 21 .geq 43 20 1,.m 22 21,.yf 23 22 6 1,.yl 24 22 23,.y 25 22 (.bin .leq true 43 (.t 24) (.c (.u 4096))),.q 26 22 25,.m 2 26] .ret) .skip)))))))) (.q [.f 27 6 1,.l 28 27,.u 29 .eql 43 28 0,.m 2 29] .ret)))
def r_ref19_number:Nf Tryz.prog 94=some ⟨30,z45.r,[.tmp 2]⟩:=Aa
def eh:LC:=(.q [.x 1 0,.e 2] (.seq (.q [.f 3 0 1,.l 4 3] (.block 0 (.q [.b 6 .eql 3 4 6,.m 5 6] (.cond (.t 5) (.q [.f 7 3 1,.l 8 7,.f 9 4 1,.l 10 9,.z 11 (.buildSl 1 2 [(.i 0),(.i 0)] [(0,1,.t 8),(1,1,.t 10)]),.m 2 11] .ret) (.q [.b 13 .eql 3 4 14,.m 12 13] (.cond (.t 12) (.q [.f 14 1 1,.l 15 14,.f 16 2 1,.l 17 16,.z 18 (.buildSl 1 2 [(.i 0),(.i 0)] [(0,1,.t 15),(1,1,.t 17)]),.m 2 18] .ret) (.q [.b 20 .eql 3 4 8,.m 19 20] (.cond (.t 19) (.q [.f 21 1 1,.l 22 21,.f 23 3 1,.l 24 23,.f 25 4 1,.l 26 25,.z 27 (.buildSl 1 3 [(.i 0),(.i 0),(.i 0)] [(0,1,.t 22),(1,1,.t 24),(2,1,.t 26)]),.m 2 27] .ret) (.q [.b 29 .eql 3 4 9,.m 28 29] (.cond (.t 28) (.q [.f 30 1 1,.l 31 30,.f 32 5 1,.l 33 32,.z 34 (.buildSl 1 2 [(.i 0),(.i 0)] [(0,1,.t 31),(1,1,.t 33)]),.m 2 34] .ret) (.seq (.q [.b 36 .eql 3 4 10,.m 35 36] (.cond (.t 35) .skip (.q [.b 37 .eql 3 4 11,.m 35 37] (.cond (.t 35) .skip (.ops [.b 38 .eql 3 4 12,.m 35 38]))))) (.cond (.t 35) (.q [.f 39 1 1,.l 40 39,.f 41 3 1,.l 42 41,.f 43 4 1,.l 44 43,.f 45 5 1,.l 46 45,.z 47 (.buildSl 1 4 [(.i 0),(.i 0),(.i 0),(.i 0)] [(0,1,.t 40),(1,1,.t 42),(2,1,.t 44),(3,1,.t 46)]),.m 2 47] .ret) (.q [.b 49 .eql 3 4 13,.m 48 49] (.cond (.t 48) (.q [.f 50 1 1,.l 51 50,.f 52 3 1,.l 53 52,.f 54 5 1,.l 55 54,.z 56 (.buildSl 1 3 [(.i 0),(.i 0),(.i 0)] [(0,1,.t 51),(1,1,.t 53),(2,1,.t 55)]),.m 2 56] .ret) .skip)))))))))))))) (.q [.e 2] .ret)))
def r_ref19_alike:Nf Tryz.prog 132=some ⟨57,eh.r,[.tmp 2]⟩:=Aa
def zei:LC:=(.q [.x 3 1,.F 4] (.q [.L 7 7 3,.w 8 132 7,.m 5 8] (.seq (.q [.K 6 1] (.block 0 (.loop (.seq (.q [.m 9 6,.m 10 5,.s 11 10,.c 12 .lss 3 9 11] (.cond (.t 12) .skip (.exit 0))) (.seq (.block 1 (.seq (.draw [(.m 15 0,[]),(.m 16 5,[]),(.m 17 6,[]),(.I 18 1 16 17,[]),(.l 19 18,[]),(.I 20 3 15 19,[]),(.f 21 0 20,[]),(.l 22 21,[]),(.m 23 0,[]),(.m 24 5,[]),(.z 25 (.ixAddr 1 (.t 24) (.k 0)),[]),(.l 26 25,[]),(.I 27 3 23 26,[]),(.f 28 0 27,[]),(.l 29 28,[]),(.c 30 .neq 3 22 29,[])]) (.cond (.t 30) (.q [.F 4] .ret) .skip))) (.ops [.m 13 6,.b 14 .add 3 13 1,.m 6 14])))))) (.q [.z 4 (.move .T)] .ret))))
def r_ref19_agree:Nf Tryz.prog 95=some ⟨31,zei.r,[.tmp 4]⟩:=Aa
def zck:LC:=(.q [.x 3 1,.F 4] (.seq (.q [.f 11 0 3,.l 12 11,.b 13 .eql 3 12 17] (.cond (.t 13) (.q [.m 14 0,.L 15 7 3,.W 16 49 14 15,.m 4 16] .ret) .skip)) (.seq (.draw [(.f 17 0 3,[]),(.l 18 17,[]),(.L 20 7 3,[]),(.z 6 (.alloc [(.i 0),(.i 0),(.i 0),(.i 0),(.i 0)]),[(.L 20 7 3,false),(.l 18 17,false)]),(.w 19 92 18,[(.z 6 (.alloc [(.i 0),(.i 0),(.i 0),(.i 0),(.i 0)]),true),(.L 20 7 3,false)]),(.w 21 93 20,[(.z 6 (.alloc [(.i 0),(.i 0),(.i 0),(.i 0),(.i 0)]),true)]),(.m 5 19,[]),(.S 5 6 21,[])]) (.seq (.q [.m 22 5,.b 23 .lss 3 22 0,.m 24 23,.n 25 24 (.loadN 7 (.t 3)),.n 26 24 (.w 94 [.t 25]),.n 27 24 (.un .not (.t 26)),.p 28 24 27] (.cond (.t 28) (.q [.F 4] .ret) .skip)) (.q [.F 7] (.seq (.q [.K 8 0] (.block 0 (.loop (.seq (.q [.m 29 8,.b 30 .lss 3 29 5] (.cond (.t 30) .skip (.exit 0))) (.seq (.block 1 (.q [.m 33 5,.m 34 8,.z 35 (.cvInt .u64 (.t 34)),.c 36 .shr 3 33 35,.b 37 .and 3 36 1,.b 38 .eql 3 37 1,.m 9 38] (.seq (.q [.m 39 9,.m 40 39,.my 41 40 8,.y 42 40 (.ixAddrArr 5 1 (.t 6) (.t 41)),.yl 43 40 42,.y 44 40 (.bin .lss true 3 (.t 43) (.k 0)),.my 45 40 44,.mn 46 45 8,.n 47 45 (.ixAddrArr 5 1 (.t 6) (.t 46)),.nl 48 45 47,.mn 49 45 0,.n 50 45 (.lenSl (.t 49)),.n 51 45 (.bin .geq false 3 (.t 48) (.t 50)),.y 52 40 (.pick (.t 45) .T (.t 51)),.q 53 40 52,.m 54 53,.mn 55 54 9,.n 56 54 (.un .not (.t 55)),.mn 57 54 56,.my 58 57 8,.y 59 57 (.ixAddrArr 5 1 (.t 6) (.t 58)),.yl 60 57 59,.y 61 57 (.bin .neq true 3 (.t 60) (.k (-1))),.n 62 54 (.pick (.t 57) (.t 61) .F),.p 63 54 62] (.cond (.t 63) (.q [.F 4] .ret) .skip)) (.q [.m 64 9,.m 65 64,.my 66 65 8,.y 67 65 (.bin .geq true 3 (.t 66) (.k 2)),.my 68 65 67,.nf 69 68 0 3,.nl 70 68 69,.nb 71 68 .eql 3 70 14,.y 72 65 (.pick (.t 68) .T (.t 71)),.q 73 65 72] (.cond (.t 73) (.ops [.m 74 7,.m 75 74,.mn 76 75 0,.mn 77 75 8,.n 78 75 (.ixAddrArr 5 1 (.t 6) (.t 77)),.nl 79 75 78,.n 80 75 (.ixAddr 3 (.t 76) (.t 79)),.nf 81 75 1 80,.nl 82 75 81,.p 83 75 82,.m 7 83]) .skip))))) (.ops [.m 31 8,.b 32 .add 3 31 1,.m 8 32])))))) (.seq (.q [.K 10 0] (.block 2 (.loop (.seq (.q [.m 84 10,.b 85 .lss 3 84 2] (.cond (.t 85) .skip (.exit 2))) (.seq (.block 3 (.q [.m 88 10,.z 89 (.ixAddrArr 5 1 (.t 6) (.t 88)),.l 90 89,.b 91 .geq 3 90 0,.m 92 91,.my 93 92 0,.my 94 92 10,.y 95 92 (.ixAddrArr 5 1 (.t 6) (.t 94)),.yl 96 92 95,.y 97 92 (.ixAddr 3 (.t 93) (.t 96)),.yf 98 92 2 97,.yl 99 92 98,.y 100 92 (.bin .eql true 3 (.t 99) (.k 1)),.my 101 92 100,.mn 102 101 0,.mn 103 101 10,.n 104 101 (.ixAddrArr 5 1 (.t 6) (.t 103)),.nl 105 101 104,.n 106 101 (.ixAddr 3 (.t 102) (.t 105)),.nf 107 101 2 106,.nl 108 101 107,.nb 109 101 .eql 3 108 2,.y 110 92 (.pick (.t 101) .T (.t 109)),.my 111 92 110,.mn 112 111 7,.mn 113 111 112,.my 114 113 0,.my 115 113 10,.y 116 113 (.ixAddrArr 5 1 (.t 6) (.t 115)),.yl 117 113 116,.y 118 113 (.ixAddr 3 (.t 114) (.t 117)),.yf 119 113 1 118,.yl 120 113 119,.y 121 113 (.un .not (.t 120)),.n 122 111 (.pick (.t 113) (.t 121) .F),.y 123 92 (.pick (.t 111) .T (.t 122)),.q 124 92 123] (.cond (.t 124) (.q [.F 4] .ret) .skip))) (.ops [.m 86 10,.b 87 .add 3 86 1,.m 10 87])))))) (.q [.f 125 2 3,.l 126 125,.b 127 .lss 3 126 0,.m 128 127,.nf 129 128 1 3,.nl 130 128 129,.nf 131 128 2 3,.nl 132 128 131,.n 133 128 (.bin .neq false 3 (.t 130) (.t 132)),.p 134 128 133,.m 135 134,.my 136 135 0,.y 137 135 (.loadN 7 (.t 3)),.y 138 135 (.w 95 [.t 136,.t 137]),.q 139 135 138,.m 4 139] .ret))))))))
def r_ref19_One:Nf Tryz.prog 50=some ⟨140,zck.r,[.tmp 4]⟩:=Aa
def zdj:LC:=(.q [.x 3 1,.F 4] (.q [.L 7 7 3,.w 8 93 7,.z 5 (.alloc [(.i 0),(.i 0),(.i 0),(.i 0),(.i 0)]),.S 5 5 8] (.seq (.q [.K 6 0] (.block 0 (.loop (.seq (.q [.m 9 6,.b 10 .lss 3 9 5] (.cond (.t 10) .skip (.exit 0))) (.seq (.block 1 (.q [.m 13 6,.z 14 (.ixAddrArr 5 1 (.t 5) (.t 13)),.l 15 14,.b 16 .geq 3 15 0,.m 17 16,.my 18 17 6,.y 19 17 (.bin .geq true 3 (.t 18) (.k 2)),.my 20 17 19,.nf 21 20 0 3,.nl 22 20 21,.nb 23 20 .eql 3 22 14,.y 24 17 (.pick (.t 20) .T (.t 23)),.q 25 17 24,.m 26 25,.my 27 26 0,.my 28 26 6,.y 29 26 (.ixAddrArr 5 1 (.t 5) (.t 28)),.yl 30 26 29,.y 31 26 (.ixAddr 1 (.t 27) (.t 30)),.yl 32 26 31,.y 33 26 (.un .not (.t 32)),.q 34 26 33] (.cond (.t 34) (.q [.F 4] .ret) .skip))) (.ops [.m 11 6,.b 12 .add 3 11 1,.m 6 12])))))) (.seq (.q [.f 35 1 3,.l 36 35,.b 37 .geq 3 36 0] (.cond (.t 37) (.ops [.m 38 0,.f 39 1 3,.l 40 39,.I 41 1 38 40,.v (.store 1 (.t 41) .T)]) .skip)) (.q [.z 4 (.move .T)] .ret)))))
def r_ref19_makes:Nf Tryz.prog 51=some ⟨42,zdj.r,[.tmp 4]⟩:=Aa
def imm3{n:UInt64}(g:n≠1)(j:n≠2)(z:n≠3):n<1∨3<n:=by
 have A:n.toNat≠1:=λh=>g (Jj.1 h)
 have B:n.toNat≠2:=λh=>j (Jj.1 h)
 have C:n.toNat≠3:=λh=>z (Jj.1 h)
 rw[Kr,Kr];show n.toNat<1∨3<n.toNat;omega
def zdf(c:List LV)(n:Nat)(o:Ko):Na 49 [.lst c n 3,.agg o.f] (.bool (Q3 n o)) []:=by
 refine Np.val rfl (Nd r_ref19_need Aa N ?_);have g:o.f=[.i o.kind,.i o.d,.i o.e,.i o.a,.i o.b,.i o.c,.u o.imm]:=rfl;by_cases j:o.d=-1
 case neg=>simp[Wa,g,Q3,j]
 by_cases z:o.e=-1
 case neg=>simp[Wa,g,Q3,j,z]
 by_cases A:o.c=-1
 case neg=>simp[Wa,g,Q3,j,z,A]
 by_cases B:o.a<0
 ·have:Rp n o.a=false:=C7
  simp[Wa,g,Q3,j,z,A,B,this]
 by_cases C:(n:Int)≤o.a
 ·have:Rp n o.a=false:=C7
  simp[Wa,g,Q3,j,z,A,B,C,this]
 have E:Rp n o.a=true:=C7
 by_cases D:o.imm=2
 ·by_cases I:0≤o.b
  ·by_cases K:o.b<n
   ·have G:Rp n o.b=true:=C7
    simp[Wa,g,Q3,j,z,A,B,C,E,D,I,K,G]
   ·have G:Rp n o.b=false:=C7
    simp[Wa,g,Q3,j,z,A,B,C,E,D,I,K,G]
  ·have G:Rp n o.b=false:=C7
   simp[Wa,g,Q3,j,z,A,B,C,E,D,I,G]
 by_cases F:o.imm=1
 ·simp[Wa,g,Q3,j,z,A,B,C,E,D,F]
 by_cases H:o.imm=3
 ·simp[Wa,g,Q3,j,z,A,B,C,E,D,F,H]
 rcases imm3 F D H with M|M
 ·simp[Wa,g,Q3,j,z,A,B,C,E,D,F,H,M]
 ·by_cases L:o.imm<1
  ·simp[Wa,g,Q3,j,z,A,B,C,E,D,F,H,L]
  ·simp[Wa,g,Q3,j,z,A,B,C,E,D,F,H,M,L]
def T1(k:Int):Int:=match Ow k with
 |some s=>s
 |none=>-1
def zj8(k:Int):Na 92 [.i k] (.i (T1 k)) []:=by
 refine Np.val rfl (Nd r_ref19_shape Aa N ?_);by_cases E:k=1;· subst E;simp[Ui,T1,Ow]
 by_cases F:k=2;· subst F;simp[Ui,T1,Ow]
 by_cases G:k=3;· subst G;simp[Ui,T1,Ow]
 by_cases H:k=4;· subst H;simp[Ui,T1,Ow]
 by_cases I:k=5;· subst I;simp[Ui,T1,Ow]
 by_cases K:k=6;· subst K;simp[Ui,T1,Ow]
 by_cases L:k=7;· subst L;simp[Ui,T1,Ow]
 by_cases M:k=8;· subst M;simp[Ui,T1,Ow]
 by_cases O:k=9;· subst O;simp[Ui,T1,Ow]
 by_cases g:k=10;· subst g;simp[Ui,T1,Ow]
 by_cases j:k=11;· subst j;simp[Ui,T1,Ow]
 by_cases z:k=12;· subst z;simp[Ui,T1,Ow]
 by_cases A:k=13;· subst A;simp[Ui,T1,Ow]
 by_cases B:k=14;· subst B;simp[Ui,T1,Ow]
 by_cases C:k=15;· subst C;simp[Ui,T1,Ow]
 by_cases D:k=16;· subst D;simp[Ui,T1,Ow]
 simp[Ui,T1,Ow,E,F,G,H,I,K,L,M,O,g,j,z,A,B,C,D]
def zb5(o:Ko):Na 93 [.agg o.f] (.agg [.i o.d,.i o.e,.i o.a,.i o.b,.i o.c]) []:=by
 refine Np.val rfl (Nd r_ref19_fields Aa N ?_);simp[zc8,Ko.f]
def zho(o:Ko):Na 94 [.agg o.f] (.bool (Qm o)) []:=by
 refine Np.val rfl (Nd r_ref19_number Aa N ?_);by_cases g:o.kind=1;· simp[z45,Ko.f,Qm,g]
 by_cases j:o.kind=13
 ·by_cases A:1≤o.imm<;>simp[z45,Ko.f,Qm,g,j,A]
 by_cases z:o.kind=15
 ·by_cases A:1≤o.imm<;>simp[z45,Ko.f,Qm,g,j,z,A]
 simp[z45,Ko.f,Qm,g,j,z]
def ziw(o:Ko):Qh 132 [.agg o.f] (.lst ((P7 o).map .i) (P7 o).length 1):=by
 have G:∀l:List Int,dats (l.map .i)=true:=λl=>Un (λ_=>rfl) l
 refine Sf.mk (by simp[LV.dat,G]) (Nd r_ref19_alike Aa N ?_);have g:o.f=[.i o.kind,.i o.d,.i o.e,.i o.a,.i o.b,.i o.c,.u o.imm]:=rfl;by_cases D:o.kind=6;· simp[eh,g,P7,D,O1,bor,LV.dat,dats]
 by_cases j:o.kind=14;· simp[eh,g,P7,j,O1,bor,LV.dat,dats]
 by_cases E:o.kind=8;· simp[eh,g,P7,E,O1,bor,LV.dat,dats]
 by_cases F:o.kind=9;· simp[eh,g,P7,F,O1,bor,LV.dat,dats]
 by_cases z:o.kind=10;· simp[eh,g,P7,z,O1,bor,LV.dat,dats]
 by_cases A:o.kind=11;· simp[eh,g,P7,A,O1,bor,LV.dat,dats]
 by_cases B:o.kind=12;· simp[eh,g,P7,B,O1,bor,LV.dat,dats]
 by_cases C:o.kind=13;· simp[eh,g,P7,C,O1,bor,LV.dat,dats]
 simp[eh,g,P7,D,E,F,z,A,B,C,j,O1,bor]
def zc3(g:List Vr)(o:Ko)(P:∀v∈P7 o,inV g v):Na 95 [.lst (Nr g) g.length 3,.agg o.f] (.bool (d8 g o)) []:=by
 refine Np.val rfl (Nd r_ref19_agree Aa (by simp) ?_);have Q:o.f=[.i o.kind,.i o.d,.i o.e,.i o.a,.i o.b,.i o.c,.u o.imm]:=rfl;have hl:(P7 o).length≤4:=by
  unfold P7;repeat' split
  all_goals simp
 simp[zei,Q];rw[←Q];refine Qo (ziw o) rfl ?_;rw[d8];generalize P7 o=j at *;simp;refine Ns (λY gg gj N=>∃i:Nat,gg=[]∧N+i=j.length+1∧1≤i∧lk Y 0=.lst (Nr g) g.length 3∧lk Y 5=.lst (j.map .i) j.length 1∧lk Y 6=.i i∧∀B,1≤B→B<i→Ql g (gd j B)=Ql g (gd j 0)) (N:=j.length) ⟨1,rfl,J,J,by simp,by simp,by simp,λB h1 h2=>J⟩ ?_;rintro N Y gg gj ⟨i,rfl,hN,Z,E,F,L,R⟩ Nx M;by_cases S:i<j.length
 ·have T:=So (f:=LV.i) (U7 (l:=j) (u:=i) S);have C:=So (f:=LV.i) (U7 (l:=j) (u:=0) J);have U:gd j i∈j:=Jd (U7 S);have m0:gd j 0∈j:=Jd (U7 (u:=0) J);obtain⟨a,G,V,qa⟩:=(P _ U).at;obtain⟨b,H,X,qb⟩:=(P _ m0).at;have I:=dv qa;have K:=dv qb;rw[G]at I;rw[H]at K;simp only[I6]at I K;have A:Ql g (gd j i)=(gv g a).limbs:=by rw[G];simp[Ql]
  have z:Ql g (gd j 0)=(gv g b).limbs:=by rw[H];simp[Ql]
  by_cases e:Ql g (gd j i)=Ql g (gd j 0)
  ·have D:=e;rw[A,z]at D;simp[E,F,L,S,M9 T,M9 C,G,H,V,X,M9 I,M9 K,D];refine⟨J,J,M _ _ _ ⟨N-1,J,i+1,rfl,J,J,Aw,Ci,by simp,λB j1 j2=>?_⟩⟩;by_cases ej:B=i
   ·rw[ej];exact e
   ·exact R B j1 J
  ·have D:=e;rw[A,z]at D;simp[E,F,L,S,M9 T,M9 C,G,H,V,X,M9 I,M9 K,D];refine⟨J,?_⟩;have:(j.all λv=>decide (Ql g v=Ql g (j.headD 0)))=false:=by
    rw[K8];refine⟨_,U,?_⟩;rw[show j.headD 0=gd j 0 by cases j<;>rfl];simpa using e
   simpa using this
 ·simp[E,F,L,S];intro v O;obtain⟨B,hj,rfl⟩:=K5.1 O;have e1:j[B]=gd j B:=by simp[gd,Ie,hj]
  have e0:j.head?.getD 0=gd j 0:=by cases j<;>rfl
  rw[e1,e0];by_cases j0:B=0
  ·rw[j0]
  ·exact R B J J
def zop(g:List Vr)(o:Ko):Na 50 [.lst (Nr g) g.length 3,.agg o.f] (.bool (Nz g o)) []:=by
 refine Np.val rfl (Nd r_ref19_One Aa (by simp) ?_);have E:o.f=[.i o.kind,.i o.d,.i o.e,.i o.a,.i o.b,.i o.c,.u o.imm]:=rfl;by_cases D:o.kind=17
 ·simp[zck,E,D];have hf:=zdf (Nr g) g.length o;rw[E,D]at hf;refine Nb hf (bors_self _ Bv) ?_;simp[Nz,D]
 simp[zck,E,D];refine Nb (zj8 o.kind) (by simp) ?_;simp[E];rw[←E];refine Nb (zb5 o) (bors_self _ rfl) ?_;cases T:Ow o.kind with
 |none=>simp[T1,T,Nz,D]
 |some s =>
 have s0:¬((s:Int)<0):=J
 simp[T1,T,E,s0];rw[←E];refine Nb (zho o) (bors_self _ rfl) ?_;cases hn:Qm o with
 |false=>simp[Nz,D,T,hn]
 |true =>
 have gI:=zn7 T;simp[E];refine Ns (λρ gK gL N=>∃i:Nat,gK=[]∧gL=[.cells o.f 0,.cells ((Ot o).map .i) 1]∧N+i=5∧lk ρ 0=.lst (Nr g) g.length 3∧lk ρ 3=.ptr 0 0∧lk ρ 5=.i s∧lk ρ 6=.ptr 1 0∧lk ρ 7=.bool (Tq g o s i)∧lk ρ 8=.i i∧∀Z,Z<i→Qu g.length s Z (gd (Ot o) Z)=true) (N:=5) ⟨0,by simp[Ot,Tq,E]⟩ ?_;rintro N ρ gK gL ⟨i,rfl,rfl,hN,j,z,I,C,A,U,hp⟩ Nx V;by_cases hi:5≤i
 case neg =>
  have gE:(i:Int)<5:=J
  have g2:i<5:=J
  have K:=So (f:=LV.i) (U7 (l:=Ot o) (u:=i) g2);have P:Qu g.length s i (gd (Ot o) i)=true→∀Z,Z<i+1→Qu g.length s Z (gd (Ot o) Z)=true:=λh Z hj=>by
   by_cases e:Z=i
   ·rw[e];exact h
   ·exact hp Z J
  have G:Qu g.length s i (gd (Ot o) i)=false→Nz g o=false:=λh=>by
   simp[Nz,D,T,zmu g2 h]
  have X:=zrz s i;have F:=znx g o s i;generalize gd (Ot o) i=v at *;have L:0≤(s:Int)/2^i:=Int.ediv_nonneg J (Int.pow_nonneg J);have Q:(s:Int)/2^i<9223372036854775808:=Int.lt_of_le_of_lt (Int.ediv_le_self _ J) J;have em:max ((s:Int)/2^i) 0=(s:Int)/2^i:=J
  have hu:(iU (i:Int)).toNat=i:=pp J;have B:i≤64:=J
  cases hb:s.testBit i with
  |false =>
   rw[hb]at X F;simp only[Bool.false_and,Bool.or_false]at F;by_cases v1:v=-1
   ·simp[j,z,I,C,A,U,gE,M9 K,hu,B,em,L,Q,X,v1]
    repeat (refine⟨J,?_⟩)
    exact V _ _ _ ⟨N-1,J,i+1,rfl,rfl,J,Au,As,Db,Ae,by simp[A,F],by simp,P (by simp[Qu,hb,v1])⟩
   ·simp[j,z,I,C,A,U,gE,M9 K,hu,B,em,L,Q,X,v1]
    repeat (refine⟨J,?_⟩)
    exact G (by simp[Qu,hb,v1])
  |true =>
   rw[hb]at X F;simp only[Kg]at F;by_cases v0:v<0
   ·simp[j,z,I,C,A,U,gE,M9 K,hu,B,em,L,Q,X,v0]
    repeat (refine⟨J,?_⟩)
    exact G Ew
   by_cases v1:(g.length:Int)≤v
   ·simp[j,z,I,C,A,U,gE,M9 K,hu,B,em,L,Q,X,v0,v1]
    repeat (refine⟨J,?_⟩)
    exact G Ew
   have hv:inV g v:=⟨J,J⟩;have ok:=P Ew;obtain⟨k,rfl,Y,ek⟩:=hv.at;have q1:=xd ek;simp only[I6]at q1 F;have v2:¬g.length≤k:=J
   have S:¬(k:Int)<0:=J
   have next:∀M b,Tq g o s (i+1)=b→lk M 0=.lst (Nr g) g.length 3→lk M 3=.ptr 0 0→lk M 5=.i s→lk M 6=.ptr 1 0→lk M 7=.bool b→lk M 8=.i ((i:Int)+1)→Nx M [] [.cells o.f 0,.cells ((Ot o).map .i) 1]:=by
    rintro M b rfl a0 a3 a5 a6 a7 a8;exact V _ _ _ ⟨N-1,J,i+1,rfl,rfl,J,a0,a3,a5,a6,a7,by rw[a8];simp,ok⟩
   by_cases c2:(2:Int)≤(i:Int)
   ·have gg:2≤i:=J
    cases ha:Tq g o s i with
    |false =>
     rw[ha]at F A;simp[gg]at F;simp[j,z,I,C,A,U,gE,M9 K,M9 q1,hu,B,em,L,Q,X,v2,Y,c2,S]
     repeat (refine⟨J,?_⟩)
     exact next _ _ F Au As Db Ae (by simp) (by simp)
    |true =>
     rw[ha]at F A;simp at F;simp[j,z,I,C,A,U,gE,M9 K,hu,B,em,L,Q,X,v2,Y,c2,S]
     repeat (refine⟨J,?_⟩)
     exact next _ _ F Au As Db Ae (by simp) (by simp)
   have gg:¬2≤i:=J
   by_cases O:o.kind=14
   ·cases ha:Tq g o s i with
    |false =>
     rw[ha]at F A;simp[gg,O]at F;simp[j,z,I,C,A,U,gE,M9 K,M9 q1,hu,B,em,L,Q,X,v2,Y,c2,S,E,O]
     repeat (refine⟨J,?_⟩)
     rw[←O,←E];exact next _ _ F Au As Db Ae (by simp) (by simp)
    |true =>
     rw[ha]at F A;simp at F;simp[j,z,I,C,A,U,gE,M9 K,hu,B,em,L,Q,X,v2,Y,c2,S,E,O]
     repeat (refine⟨J,?_⟩)
     rw[←O,←E];exact next _ _ F Au As Db Ae (by simp) (by simp)
   ·simp[gg,O]at F;simp[j,z,I,C,A,U,gE,M9 K,M9 q1,hu,B,em,L,Q,X,v2,Y,c2,S,E,O]
    repeat (refine⟨J,?_⟩)
    rw[←E];exact next _ _ F Au As Db Ae Af (by simp)
 have gj:Tc g.length s o=true:=zji λZ hj=>hp Z J
 have gB:=zlr T gj;have ei:i=5:=J
 subst ei;rw[uc T gj]at A;simp[j,z,I,C,A,U];refine Ns (λρ gK gL N=>∃i:Nat,gK=[]∧gL=[.cells o.f 0,.cells ((Ot o).map .i) 1]∧N+i=2∧lk ρ 0=.lst (Nr g) g.length 3∧lk ρ 3=.ptr 0 0∧lk ρ 6=.ptr 1 0∧lk ρ 7=.bool (Oq g o)∧lk ρ 10=.i i∧∀Z,Z<i→Rq g (Oq g o) (gd (Ot o) Z)=true) (N:=2) ⟨0,by simp[j,z,C,A]⟩ ?_;clear j z I C A U hp V;rintro N ρ gK gL ⟨i,rfl,rfl,hN,j,z,C,A,H,hp⟩ Nx V;by_cases hi:2≤i
 case neg =>
  have gE:(i:Int)<2:=J
  have g5:(i:Int)<5:=J
  have g2:i<2:=J
  have K:=So (f:=LV.i) (U7 (l:=Ot o) (u:=i) (J:i<5));have P:Rq g (Oq g o) (gd (Ot o) i)=true→∀Z,Z<i+1→Rq g (Oq g o) (gd (Ot o) Z)=true:=λh Z hj=>by
   by_cases e:Z=i
   ·rw[e];exact h
   ·exact hp Z J
  have G:Rq g (Oq g o) (gd (Ot o) i)=false→Nz g o=false:=λh=>by
   have gF:i=0∨i=1:=J
   rcases gF with rfl|rfl
   ·have h:Rq g (Oq g o) o.d=false:=h;simp[Nz,D,T,h]
   ·have h:Rq g (Oq g o) o.e=false:=h;simp[Nz,D,T,h]
  have gG:gd (Ot o) i=-1∨inV g (gd (Ot o) i):=by
   have gF:i=0∨i=1:=J
   rcases gF with rfl|rfl
   ·exact gB.d
   ·exact gB.e
  have next:∀M,Rq g (Oq g o) (gd (Ot o) i)=true→lk M 0=.lst (Nr g) g.length 3→lk M 3=.ptr 0 0→lk M 6=.ptr 1 0→lk M 7=.bool (Oq g o)→lk M 10=.i ((i:Int)+1)→Nx M [] [.cells o.f 0,.cells ((Ot o).map .i) 1]:=by
   intro M ok a0 a3 a6 a7 gH;exact V _ _ _ ⟨N-1,J,i+1,rfl,rfl,J,a0,a3,a6,a7,by rw[gH];simp,P ok⟩
  generalize gd (Ot o) i=v at *;rcases gG with rfl|hv
  ·simp[j,z,C,A,H,gE,g5,M9 K]
   repeat (refine⟨J,?_⟩)
   exact next _ (by simp[Rq]) Au As Ae Af (by simp)
  ·obtain⟨k,rfl,Y,ek⟩:=hv.at;have q1:=xd ek;have q2:=ft ek;simp only[I6]at q1 q2;have R:Ob (gv g k)=(decide ((gv g k).mode=1) || decide ((gv g k).mode=2)):=rfl;have ho:Rq g (Oq g o) (k:Int)=!(Ob (gv g k) || (Oq g o && !(gv g k).sec)):=by
    have S:decide ((k:Int)<0)=false:=by simp
    simp[Rq,S]
   have S:(0:Int)≤(k:Int):=J
   by_cases m1:(gv g k).mode=1
   ·simp[j,z,C,A,H,gE,g5,M9 K,M9 q2,Y,S,m1]
    repeat (refine⟨J,?_⟩)
    exact G (by rw[ho,R];simp[m1])
   by_cases m2:(gv g k).mode=2
   ·simp[j,z,C,A,H,gE,g5,M9 K,M9 q2,Y,S,m1,m2]
    repeat (refine⟨J,?_⟩)
    exact G (by rw[ho,R];simp[m2])
   cases gD:Oq g o with
   |false =>
    rw[gD]at A ho G next
    simp[j,z,C,A,H,gE,g5,M9 K,M9 q2,Y,S,m1,m2]
    repeat (refine⟨J,?_⟩)
    exact next _ (by rw[ho,R];simp[m1,m2]) Au As Ae Af (by simp)
   |true =>
    rw[gD]at A ho G next
    cases gC:(gv g k).sec with
    |false =>
     simp[j,z,C,A,H,gE,g5,M9 K,M9 q1,M9 q2,Y,S,m1,m2,gC]
     repeat (refine⟨J,?_⟩)
     exact G (by rw[ho,gC];simp)
    |true =>
     simp[j,z,C,A,H,gE,g5,M9 K,M9 q1,M9 q2,Y,S,m1,m2,gC]
     repeat (refine⟨J,?_⟩)
     exact next _ (by rw[ho,R,gC];simp[m1,m2]) Au As Ae Af (by simp)
 have ei:i=2:=J
 subst ei;have od:Rq g (Oq g o) o.d=true:=hp 0 J;have oe:Rq g (Oq g o) o.e=true:=hp 1 J;have gM:o.f.length=7:=rfl;have gO:o.f.take 7=o.f:=rfl;by_cases L:o.e<0
 ·simp[j,z,H,E,L];rw[←E];refine Nb (zc3 g o gB.alike) (bors_self _ (by simp[dats,LV.dat,Ph,E])) ?_;simp[Nz,D,T,hn,gj,od,oe,L]
 ·by_cases Q:o.d=o.e
  ·simp[j,z,H,E,L,Q];simp[Nz,D,T,L,Q]
  ·simp[j,z,H,E,L,Q];rw[←E];refine Nb (zc3 g o gB.alike) (bors_self _ (by simp[dats,LV.dat,Ph,E])) ?_;simp[Nz,D,T,hn,gj,od,oe,L,Q]
def zhu{q st:Nat}{m:List Bool}{n:Nat}(o:Ko)(j:PartsIn n o)(hn:n=m.length)(hq:F[q]?=some (.dyn (m.map .bool) m.length 1 0 st))
  (k0:V3 m o=false→∀E,(∀p,p<F.length→E[p]?=F[p]?)→P (.bool false) E)
  (k1:V3 m o=true→∀E gj,F.length≤E.length→(∀p,p<F.length→p≠q→E[p]?=F[p]?)→E[q]?=some (.dyn ((Sl m o).map .bool) m.length 1 0 gj)→P (.bool true) E):O6 (.fn 51) [.dy q 0,.agg o.f] F P:=by
 refine Nd r_ref19_makes Aa (by simp) ?_;have G:o.f=[.i o.kind,.i o.d,.i o.e,.i o.a,.i o.b,.i o.c,.u o.imm]:=rfl;have gB:q<F.length:=(H7.1 hq).1;simp[zdj,G];rw[←G];refine Nb (zb5 o) (bors_self _ rfl) ?_;simp;have g:∀x,(F++x)[q]?=some (.dyn (m.map .bool) m.length 1 0 st):=λx=>by rw[M6 gB];exact hq
 have Q:∀x y,(F++[x,y])[F.length]?=some x:=λx y=>by simp
 have T:∀x y,(F++[x,y])[F.length+1]?=some y:=λx y=>by simp
 have gH:F.length≠q:=J
 have gI:F.length+1≠q:=J
 refine Ns (λρ gK E N=>∃i:Nat,gK=[]∧E=F++[.cells o.f 0,.cells ((Ot o).map .i) 1]∧N+i=5∧lk ρ 0=.dy q 0∧lk ρ 3=.ptr F.length 0∧lk ρ 5=.ptr (F.length+1) 0∧lk ρ 6=.i i∧Tl m o i=true) (N:=5) ⟨0,by simp[Ot,Tl]⟩ ?_;rintro N ρ gK E ⟨i,rfl,rfl,hN,B,C,H,M,I⟩ Nx gC;by_cases hi:5≤i
 case neg =>
  have gG:(i:Int)<5:=J
  have g2:i<5:=J
  have U:=So (f:=LV.i) (U7 (l:=Ot o) (u:=i) g2);have A:=zm1 m o i;rw[I,Kg]at A;have X:Tl m o (i+1)=false→V3 m o=false:=λh=>by
   rw[←az j];unfold Tl at h ⊢;rw[K8]at h ⊢;obtain⟨gL,hj,h⟩:=h;exact⟨gL,by have:=Ji.1 hj;exact Ji.2 J,h⟩
  have K:gd (Ot o) i=-1∨(0≤gd (Ot o) i∧gd (Ot o) i<n)∨(¬(2≤i)∧o.kind≠14)∨gd (Ot o) i<0:=by
   have gD:i=0∨i=1∨i=2∨i=3∨i=4:=J
   rcases gD with rfl|rfl|rfl|rfl|rfl
   ·rcases j.d with h|h
    ·exact .inl h
    ·exact .inr (.inl h)
   ·rcases j.e with h|h
    ·exact .inl h
    ·exact .inr (.inl h)
   ·by_cases h:o.a<0
    ·exact .inr (.inr (.inr h))
    ·exact .inr (.inl (j.takes o.a (by simp[Rr];omega)))
   ·by_cases h:o.b<0
    ·exact .inr (.inr (.inr h))
    ·exact .inr (.inl (j.takes o.b (by simp[Rr];omega)))
   ·by_cases h:o.c<0
    ·exact .inr (.inr (.inr h))
    ·exact .inr (.inl (j.takes o.c (by simp[Rr];omega)))
  have next:∀V,Tl m o (i+1)=true→lk V 0=.dy q 0→lk V 3=.ptr F.length 0→lk V 5=.ptr (F.length+1) 0→lk V 6=.i ((i:Int)+1)→Nx V [] (F++[.cells o.f 0,.cells ((Ot o).map .i) 1]):=by
   intro V ok b0 b3 b5 b6;exact gC _ _ _ ⟨N-1,J,i+1,rfl,rfl,J,b0,b3,b5,by rw[b6];simp,ok⟩
  generalize gd (Ot o) i=v at *;have fr:∀p,p<F.length→(F++[LObj.cells o.f 0,.cells ((Ot o).map .i) 1])[p]?=F[p]?:=λp I=>M6 I
  by_cases R:0≤v
  case neg =>
   have d0:decide (v<0)=true:=Ab
   simp[B,C,H,M,gG,↓T,M9 U,R]
   repeat (refine⟨J,?_⟩)
   exact next _ (by rw[A,d0];rfl) Ax Ae Ba (by simp)
  have d0:decide (v<0)=false:=Ab
  rw[d0]at A;simp only[Mj,Kg]at A;have O:(2≤i∨o.kind=14)→v<m.length:=λh=>by
   rcases K with h|h|h|h<;>omega
  obtain⟨k,rfl⟩:=Ir R;simp only[I6]at A;by_cases Y:(2:Int)≤(i:Int)
  ·have D:2≤i:=J
   have S:k<m.length:=by have:=O (.inl D);omega
   have Z:=So (f:=LV.bool) (zi S);simp[D]at A;cases L:gb m k with
   |true =>
    simp[B,C,H,M,gG,↓Q,↓T,↓g,M9 U,R,Y,S,M9 Z,L]
    repeat (refine⟨J,?_⟩)
    exact next _ (by rw[A,L]) Ax Ae Ba (by simp)
   |false =>
    simp[B,C,H,M,gG,↓Q,↓T,↓g,M9 U,R,Y,S,M9 Z,L]
    repeat (refine⟨J,?_⟩)
    exact k0 (X (by rw[A,L])) _ fr
  have D:¬2≤i:=J
  by_cases z:o.kind=14
  ·have S:k<m.length:=by have:=O (.inr z);omega
   have Z:=So (f:=LV.bool) (zi S);simp[D,z]at A;cases L:gb m k with
   |true =>
    simp[B,C,H,M,gG,↓Q,↓T,↓g,M9 U,R,Y,S,M9 Z,L,G,z]
    repeat (refine⟨J,?_⟩)
    rw[←z,←G];exact next _ (by rw[A,L]) Ax Ae Ba (by simp)
   |false =>
    simp[B,C,H,M,gG,↓Q,↓T,↓g,M9 U,R,Y,S,M9 Z,L,G,z]
    repeat (refine⟨J,?_⟩)
    rw[←z,←G];exact k0 (X (by rw[A,L])) _ fr
  ·simp[D,z]at A;simp[B,C,H,M,gG,↓Q,↓T,M9 U,R,Y,G,z]
   repeat (refine⟨J,?_⟩)
   rw[←G];exact next _ A Ax Ae Ba (by simp)
 have ei:i=5:=J
 subst ei;rw[az j]at I;by_cases hd:0≤o.d
 ·have gE:o.d<m.length:=by rcases j.d with h|h<;>omega
  have gg:=xe LV.bool m o.d.toNat true J;simp[B,C,M,↓Q,↓g,G,hd,gE,gg]
  repeat (refine⟨J,?_⟩)
  refine k1 I _ (st+1) (by simp) (λp I gF=>?_) ?_
  ·rw[H8 J,M6 I]
  ·rw[Ia Ab];simp[Sl,hd]
 ·simp[B,C,M,↓Q,↓g,G,hd]
  repeat (refine⟨J,?_⟩)
  refine k1 I _ st (by simp) (λp I gF=>M6 I) ?_;rw[g];simp[Sl,hd]
def yd:LC:=(.q [.x 1 0,.K 2 0] (.seq (.q [.f 13 0 1,.l 14 13,.s 15 14,.b 16 .lss 3 15 1,.m 17 16,.nf 18 17 0 1,.nl 19 17 18,.n 20 17 (.lenSl (.t 19)),.nb 21 17 .gtr 3 20 256,.p 22 17 21,.m 23 22,.nf 24 23 1 1,.nl 25 23 24,.n 26 23 (.lenSl (.t 25)),.nb 27 23 .gtr 3 26 4096,.p 28 23 27,.m 29 28,.nf 30 29 2 1,.nl 31 29 30,.n 32 29 (.lenSl (.t 31)),.nb 33 29 .gtr 3 32 4096,.p 34 29 33] (.cond (.t 34) (.q [.K 2 2] .ret) .skip)) (.q [.K 3 0] (.seq (.q [.K 4 0] (.block 0 (.loop (.seq (.q [.m 35 4,.f 36 0 1,.l 37 36,.s 38 37,.c 39 .lss 3 35 38] (.cond (.t 39) .skip (.exit 0))) (.seq (.block 1 (.q [.f 42 0 1,.l 43 42,.m 44 4,.I 45 3 43 44,.L 46 3 45,.z 5 (.alloc [(.i 0),(.bool false),(.i 0)]),.S 3 5 46] (.seq (.q [.f 47 0 5,.l 48 47,.b 49 .lss 3 48 1,.m 50 49,.nf 51 50 0 5,.nl 52 50 51,.nb 53 50 .gtr 3 52 512,.p 54 50 53,.m 55 54,.nf 56 55 2 5,.nl 57 55 56,.nb 58 55 .lss 3 57 0,.p 59 55 58,.m 60 59,.nf 61 60 2 5,.nl 62 60 61,.nb 63 60 .gtr 3 62 3,.p 64 60 63,.m 65 64,.nf 66 65 2 5,.nl 67 65 66,.nb 68 65 .gtr 3 67 0,.mn 69 65 68,.my 70 69 3,.my 71 69 4,.y 72 69 (.bin .lss false 3 (.t 70) (.t 71)),.n 73 65 (.pick (.t 69) (.t 72) .F),.p 74 65 73,.m 75 74,.nf 76 75 2 5,.nl 77 75 76,.nb 78 75 .eql 3 77 1,.mn 79 75 78,.yf 80 79 1 5,.yl 81 79 80,.n 82 75 (.pick (.t 79) (.t 81) .F),.p 83 75 82,.m 84 83,.nf 85 84 2 5,.nl 86 84 85,.nb 87 84 .gtr 3 86 1,.mn 88 84 87,.yf 89 88 1 5,.yl 90 88 89,.y 91 88 (.un .not (.t 90)),.n 92 84 (.pick (.t 88) (.t 91) .F),.p 93 84 92] (.cond (.t 93) (.q [.K 2 2] .ret) .skip)) (.q [.f 94 2 5,.l 95 94,.b 96 .gtr 3 95 0] (.cond (.t 96) (.ops [.m 97 3,.b 98 .add 3 97 1,.m 3 98]) .skip))))) (.ops [.m 40 4,.b 41 .add 3 40 1,.m 4 41])))))) (.seq (.q [.m 99 3,.b 100 .gtr 3 99 12] (.cond (.t 100) (.q [.K 2 2] .ret) .skip)) (.seq (.q [.K 6 0] (.block 2 (.loop (.seq (.q [.m 101 6,.f 102 2 1,.l 103 102,.s 104 103,.c 105 .lss 3 101 104] (.cond (.t 105) .skip (.exit 2))) (.seq (.block 3 (.q [.f 108 2 1,.l 109 108,.m 110 6,.I 111 7 109 110,.L 112 7 111,.z 7 (.alloc [(.i 0),(.i 0),(.i 0),(.i 0),(.i 0),(.i 0),(.u 0)]),.S 7 7 112] (.q [.f 113 0 7,.l 114 113,.b 115 .neq 3 114 17,.m 116 115,.nf 117 116 0 1,.nl 118 116 117,.n 119 116 (.loadN 7 (.t 7)),.n 120 116 (.w 49 [.t 118,.t 119]),.n 121 116 (.un .not (.t 120)),.p 122 116 121,.m 123 122,.nf 124 123 0 1,.nl 125 123 124,.nf 126 123 3 7,.nl 127 123 126,.n 128 123 (.ixAddr 3 (.t 125) (.t 127)),.nf 129 123 2 128,.nl 130 123 129,.nb 131 123 .eql 3 130 3,.p 132 123 131,.m 133 132,.nf 134 133 4 7,.nl 135 133 134,.nb 136 133 .geq 3 135 0,.mn 137 133 136,.yf 138 137 0 1,.yl 139 137 138,.yf 140 137 4 7,.yl 141 137 140,.y 142 137 (.ixAddr 3 (.t 139) (.t 141)),.yf 143 137 2 142,.yl 144 137 143,.y 145 137 (.bin .eql true 3 (.t 144) (.k 3)),.n 146 133 (.pick (.t 137) (.t 145) .F),.p 147 133 146] (.cond (.t 147) (.q [.K 2 2] .ret) .skip)))) (.ops [.m 106 6,.b 107 .add 3 106 1,.m 6 107])))))) (.q [.K 8 0] (.q [.f 148 0 1,.l 149 148,.s 150 149,.z 151 (.mkSl 1 [(.bool false)] (.t 150) (.t 150)),.m 9 151] (.seq (.q [.K 10 0] (.block 4 (.loop (.seq (.q [.m 152 10,.f 153 0 1,.l 154 153,.s 155 154,.c 156 .lss 3 152 155] (.cond (.t 156) .skip (.exit 4))) (.seq (.block 5 (.ops [.m 159 9,.m 160 10,.f 161 0 1,.l 162 161,.m 163 10,.I 164 3 162 163,.f 165 2 164,.l 166 165,.b 167 .eql 3 166 1,.m 168 167,.nf 169 168 0 1,.nl 170 168 169,.mn 171 168 10,.n 172 168 (.ixAddr 3 (.t 170) (.t 171)),.nf 173 168 2 172,.nl 174 168 173,.nb 175 168 .eql 3 174 2,.p 176 168 175,.I 177 1 159 160,.S 1 177 176])) (.ops [.m 157 10,.b 158 .add 3 157 1,.m 10 158])))))) (.seq (.q [.K 11 0] (.block 6 (.loop (.seq (.q [.m 178 11,.f 179 1 1,.l 180 179,.s 181 180,.c 182 .lss 3 178 181] (.cond (.t 182) .skip (.exit 6))) (.seq (.block 7 (.seq (.seq (.draw [(.f 185 0 1,[]),(.l 186 185,[]),(.f 187 1 1,[]),(.l 188 187,[]),(.m 189 11,[]),(.I 190 7 188 189,[]),(.L 191 7 190,[]),(.W 192 50 186 191,[]),(.z 193 (.un .not (.t 192)),[]),(.m 194 193,[]),(.mn 195 194 9,[]),(.nf 196 194 1 1,[]),(.nl 197 194 196,[]),(.mn 198 194 11,[]),(.n 199 194 (.ixAddr 7 (.t 197) (.t 198)),[]),(.n 200 194 (.loadN 7 (.t 199)),[]),(.n 201 194 (.w 51 [.t 195,.t 200]),[]),(.n 202 194 (.un .not (.t 201)),[]),(.p 203 194 202,[])]) (.cond (.t 203) (.q [.K 2 2] .ret) .skip)) (.seq (.q [.f 204 1 1,.l 205 204,.m 206 11,.I 207 7 205 206,.f 208 0 207,.l 209 208] (.block 8 (.q [.b 211 .eql 3 209 15,.m 210 211] (.cond (.t 210) (.ops [.m 212 8,.b 213 .add 3 212 1,.m 8 213]) (.q [.b 215 .eql 3 209 16,.m 214 215] (.cond (.t 214) (.ops [.m 216 8,.b 217 .sub 3 216 1,.m 8 217]) .skip)))))) (.q [.m 218 8,.b 219 .lss 3 218 0,.m 220 219,.mn 221 220 8,.nb 222 220 .gtr 3 221 4,.p 223 220 222] (.cond (.t 223) (.q [.K 2 2] .ret) .skip))))) (.ops [.m 183 11,.b 184 .add 3 183 1,.m 11 184])))))) (.seq (.q [.K 12 0] (.block 9 (.loop (.seq (.q [.m 224 12,.f 225 0 1,.l 226 225,.s 227 226,.c 228 .lss 3 224 227] (.cond (.t 228) .skip (.exit 9))) (.seq (.block 10 (.q [.f 231 0 1,.l 232 231,.m 233 12,.I 234 3 232 233,.f 235 2 234,.l 236 235,.b 237 .eql 3 236 3,.m 238 237,.my 239 238 9,.my 240 238 12,.y 241 238 (.ixAddr 1 (.t 239) (.t 240)),.yl 242 238 241,.y 243 238 (.un .not (.t 242)),.q 244 238 243] (.cond (.t 244) (.q [.K 2 2] .ret) .skip))) (.ops [.m 229 12,.b 230 .add 3 229 1,.m 12 230])))))) (.seq (.q [.m 245 8,.b 246 .neq 3 245 0] (.cond (.t 246) (.q [.K 2 2] .ret) .skip)) (.q [.K 2 0] .ret)))))))))))))
def r_ref19_Check:Nf Tryz.prog 9=some ⟨247,yd.r,[.tmp 2]⟩:=Aa
def zcd(vs:List Vr)(A B:List Ko)(jU:vs.length≤9223372036854775807):Na 9 [.agg (M3 vs A B)] (.i (N3 vs A B)) []:=by
 refine Np.val rfl (Nd r_ref19_Check Aa (by simp) ?_);have gB:Ng vs A B=false→N3 vs A B=2:=λh=>by simp[N3,h]
 have H:P6 vs=false→N3 vs A B=2:=λh=>gB (by simp[Ng,h])
 by_cases a1:(vs.length:Int)<1
 ·simp[yd,M3,a1];exact (H (by unfold P6;split<;>simp;omega)).symm
 by_cases a2:(256:Int)<(vs.length:Int)
 ·simp[yd,M3,a1,a2];exact (H (by unfold P6;split<;>simp;omega)).symm
 by_cases g1:(4096:Int)<(A.length:Int)
 ·simp[yd,M3,a1,a2,g1];exact (gB (by simp[Ng];omega)).symm
 by_cases g2:(4096:Int)<(B.length:Int)
 ·simp[yd,M3,a1,a2,g1,g2];exact (gB (by simp[Ng];omega)).symm
 simp[yd,M3,a1,a2,g1,g2];refine Ns (λρ gZ gK N=>∃i p:Nat,gZ=[]∧N+i=vs.length∧p≤i∧lk ρ 1=.ptr 0 0∧lk ρ 3=.i p∧lk ρ 4=.i i∧0<gK.length∧gK[0]?=some (.cells (M3 vs A B) 0)∧Qc i p (vs.drop i)=Qc 0 0 vs) (N:=vs.length) ⟨0,0,Cz⟩ ?_;rintro N ρ gZ gK ⟨i,p,rfl,hN,jV,g,h3,Z,C,z,hv⟩ Nx G;by_cases I:i<vs.length
 ·have hg:=Qp I;have q3:=V9 hg;have M:=Ty I;rw[zh8 I]at hv;have U:(gv vs i).f=[.i (gv vs i).limbs,.bool (gv vs i).sec,.i (gv vs i).mode]:=rfl;generalize gv vs i=v at *;have no:Qc i p (v::vs.drop (i+1))=none→N3 vs A B=2:=λh=>H (by rw[h]at hv;simp[P6,←hv])
  have next:∀D O (p':Nat),Qc (i+1) p' (vs.drop (i+1))=Qc i p (v::vs.drop (i+1))→p'≤i+1→lk D 1=.ptr 0 0→lk D 3=.i p'→lk D 4=.i ((i:Int)+1)→0<O.length→O[0]?=some (.cells (M3 vs A B) 0)→Nx D [] O:=by
   intro D O p' e jI E b3 b4 bl bG;exact G _ _ _ ⟨N-1,J,i+1,p',rfl,J,jI,E,b3,by rw[b4];simp,bl,bG,by rw[e,hv]⟩
  by_cases E:v.limbs<1
  ·simp[g,h3,Z,I,q3,M,U,↓M6 C,z,M3,E];exact (no (by simp[Qc,Tt,E])).symm
  by_cases V:512<v.limbs
  ·simp[g,h3,Z,I,q3,M,U,↓M6 C,z,M3,E,V];exact (no (by simp[Qc,Tt,E,V])).symm
  by_cases b3:v.mode<0
  ·simp[g,h3,Z,I,q3,M,U,↓M6 C,z,M3,E,V,b3];exact (no (by simp[Qc,Tt,E,V,b3])).symm
  by_cases b4:3<v.mode
  ·simp[g,h3,Z,I,q3,M,U,↓M6 C,z,M3,E,V,b3,b4];exact (no (by simp[Qc,Tt,E,V,b3,b4])).symm
  by_cases b5:v.mode=0
  ·simp[g,h3,Z,I,q3,M,U,↓M6 C,z,M3,E,V,b3,b4,b5]
   repeat (refine⟨J,?_⟩)
   exact next _ _ p (by simp[Qc,Tt,E,V,b3,b4,b5]) J Ay Fp (by simp) (by simp) Cs
  have gV:0<v.mode:=J
  by_cases b6:(p:Int)<(i:Int)
  ·simp[g,h3,Z,I,q3,M,U,↓M6 C,z,M3,E,V,b3,b4,gV,b6];have gC:p<i:=J
   exact (no (by simp[Qc,Tt,E,V,b3,b4,b5,gC])).symm
  have gC:¬p<i:=J
  by_cases m1:v.mode=1
  ·cases hs:v.sec with
   |true =>
    simp[g,h3,Z,I,q3,M,U,↓M6 C,z,M3,E,V,m1,b6,hs];exact (no (by simp[Qc,Tt,E,V,gC,m1,hs])).symm
   |false =>
    simp[g,h3,Z,I,q3,M,U,↓M6 C,z,M3,E,V,m1,b6,hs]
    repeat (refine⟨J,?_⟩)
    exact next _ _ (p+1) (by simp[Qc,Tt,E,V,gC,m1,hs]) J Ay (by simp) (by simp) (by simp) Cs
  have g8:1<v.mode:=J
  ·cases hs:v.sec with
   |false =>
    simp[g,h3,Z,I,q3,M,U,↓M6 C,z,M3,E,V,b3,b4,gV,b6,m1,g8,hs];exact (no F5).symm
   |true =>
    simp[g,h3,Z,I,q3,M,U,↓M6 C,z,M3,E,V,b3,b4,gV,b6,m1,g8,hs]
    repeat (refine⟨J,?_⟩)
    exact next _ _ (p+1) F5 J Ay (by simp) (by simp) (by simp) Cs
 rw[Jo J]at hv;have R:Qc 0 0 vs=some p:=by rw[←hv];rfl
 by_cases g9:(12:Int)<(p:Int)
 ·simp[g,h3,Z,I,z,M3,g9];exact (H (by simp[P6,R];omega)).symm
 have c1:1≤vs.length:=J
 have c2:vs.length≤256:=J
 have c3:p≤12:=J
 have jK:P6 vs=true:=by simp[P6,R,c1,c2,c3]
 simp[g,h3,Z,I,z,M3,g9];refine Ns (λρ gZ gK N=>∃i:Nat,gZ=[]∧N+i=B.length∧lk ρ 1=.ptr 0 0∧lk ρ 6=.i i∧0<gK.length∧gK[0]?=some (.cells (M3 vs A B) 0)∧∀j,j<i→Pe vs (go B j)=true) (N:=B.length) ⟨0,rfl,J,Ay,by simp,C,z,λj hj=>J⟩ ?_;clear g h3 Z z G C;rintro N ρ gZ gK ⟨i,rfl,hN,g,h6,C,z,hr⟩ Nx G;by_cases I:i<B.length
 ·have q7:=mc (Vg I);have M:=mg I;have U:(go B i).f=[.i (go B i).kind,.i (go B i).d,.i (go B i).e,.i (go B i).a,.i (go B i).b,.i (go B i).c,.u (go B i).imm]:=rfl;have no:Pe vs (go B i)=false→N3 vs A B=2:=λh=>gB (by
   have:B.all (Pe vs)=false:=by
    rw[K8];exact⟨go B i,Jd (Vg I),Eg⟩
   simp[Ng,this])
  have jL:Pe vs (go B i)=true→∀j,j<i+1→Pe vs (go B j)=true:=λh j hj=>by
   by_cases e:j=i
   ·rw[e];exact h
   ·exact hr j J
  have next:∀D O,Pe vs (go B i)=true→lk D 1=.ptr 0 0→lk D 6=.i ((i:Int)+1)→0<O.length→O[0]?=some (.cells (M3 vs A B) 0)→Nx D [] O:=by
   intro D O ok E b6 bl bG;exact G _ _ _ ⟨N-1,J,i+1,rfl,J,E,by rw[b6];simp,bl,bG,jL ok⟩
  generalize go B i=o at *;by_cases gg:o.kind=17
  ·simp[g,h6,I,q7,M,U,gg,↓M6 C,z,M3];have hc:=zdf (Nr vs) vs.length o;rw[U,gg]at hc;refine Nb hc (bors_self _ Bv) ?_;cases hn:Q3 vs.length o with
   |false =>
    simp;exact (no (by simp[Pe,hn])).symm
   |true =>
    have jg:=zqj gg hn;have ha:0≤o.a∧o.a<vs.length:=by
     simp only[Q3,H9]at hn;exact dw.1 hn.2.2.2.1
    have hb:o.b<vs.length:=by
     simp only[Q3,H9]at hn;have:=hn.2.2.2.2;split at this
     ·exact (dw.1 this).2
     ·simp at this;omega
    obtain⟨a,ea,gL,qa⟩:=(show inV vs o.a from ha).at;have q2:=ft qa;rw[ea]at q2;simp only[I6]at q2;have gX:N9 vs o.a=decide ((gv vs a).mode=3):=by rw[ea];simp[N9]
    by_cases m3:(gv vs a).mode=3
    ·simp[g,h6,↓M6 C,z,M3,ea,gL,M9 q2,m3];exact (no (by rw[Pe,gX];simp[m3])).symm
    by_cases b0:0≤o.b
    ·obtain⟨b,eb,jz,qb⟩:=(show inV vs o.b from ⟨b0,hb⟩).at;have gM:=ft qb;rw[eb]at gM;simp only[I6]at gM;have gO:N9 vs o.b=decide ((gv vs b).mode=3):=by rw[eb];simp[N9]
     have jA:(0:Int)≤(b:Int):=J
     by_cases n3:(gv vs b).mode=3
     ·simp[g,h6,↓M6 C,z,M3,ea,gL,M9 q2,m3,eb,jz,jA,M9 gM,n3];exact (no (by rw[Pe,gO];simp[n3])).symm
     ·simp[g,h6,↓M6 C,z,M3,ea,gL,M9 q2,m3,eb,jz,jA,M9 gM,n3]
      repeat (refine⟨J,?_⟩)
      exact next _ _ (by rw[Pe,gX,gO];simp[gg,hn,m3,n3]) Ay (by simp) (by simp) Cs
    ·have gO:N9 vs o.b=false:=by simp[N9,b0]
     simp[g,h6,↓M6 C,z,M3,ea,gL,M9 q2,m3,b0]
     repeat (refine⟨J,?_⟩)
     exact next _ _ (by rw[Pe,gX,gO];simp[gg,hn,m3]) Ay (by simp) (by simp) Cs
  ·simp[g,h6,I,q7,M,U,gg,↓M6 C,z,M3];exact (no (by simp[Pe,gg])).symm
 have jB:B.all (Pe vs)=true:=by
  rw[I7];intro o ho;obtain⟨j,hj,rfl⟩:=K5.1 ho;have e:=Vg hj;rw[Ib hj]at e;rw[Option.some.inj e];exact hr j J
 have lv:vs.length≤1048576:=J
 simp[g,h6,I,z,M3,lv]
 repeat (refine⟨J,?_⟩)
 refine Ns (λρ gZ gK N=>∃(i:Nat) (m:List Bool) (q X:Nat),gZ=[]∧N+i=vs.length∧lk ρ 1=.ptr 0 0∧lk ρ 8=.i 0∧lk ρ 9=.dy q 0∧lk ρ 10=.i i ∧
   0<gK.length∧0<q∧q<gK.length∧gK[0]?=some (.cells (M3 vs A B) 0)∧gK[q]?=some (.dyn (m.map .bool) m.length 1 0 X)∧m.length=vs.length∧∀j,j<i→gb m j=Ob (gv vs j)) (N:=vs.length)
  ⟨0,List.replicate vs.length false,gK.length,0,rfl,J,Ay,by simp,by simp,by simp,by simp,C,by simp,Cs,by simp[zh],by simp,by simp⟩ ?_
 clear g h6 z hr G C;rintro N ρ gZ gK ⟨i,m,q,X,rfl,hN,g,Q,P,gP,C,gE,gF,z,M,K,hm⟩ Nx G;by_cases I:i<vs.length
 ·have q2:=ft (Qp I);have jC:=xe LV.bool m i (Ob (gv vs i)) J;have next:∀D O Y,lk D 1=.ptr 0 0→lk D 8=.i 0→lk D 9=.dy q 0→lk D 10=.i ((i:Int)+1)→O=gK.set q (.dyn (Nu (m.map .bool) i [.bool (Ob (gv vs i))]) m.length 1 0 Y)→Nx D [] O:=by
   rintro D O Y E b8 b9 jM rfl;refine G _ _ _ ⟨N-1,J,i+1,m.set i (Ob (gv vs i)),q,Y,rfl,J,E,b8,b9,by rw[jM];simp,by simpa using C,gE,by simpa using gF,?_,?_,Bs,λj hj=>?_⟩
   ·rw[H8 J];exact z
   ·rw[Ia gF,jC,Jz]
   ·rw[zxs _ _ _ _ J];split
    ·rename_i e;rw[e]
    ·exact hm j J
  have gR:Ob (gv vs i)=(decide ((gv vs i).mode=1) || decide ((gv vs i).mode=2)):=rfl;by_cases m1:(gv vs i).mode=1
  ·simp[g,P,gP,I,z,M,M3,M9 q2,m1,K]
   repeat (refine⟨J,?_⟩)
   exact next _ _ (X+1) Ay Bq Bk (by simp) (by rw[gR];simp[m1,K])
  ·simp[g,P,gP,I,z,M,M3,M9 q2,m1,K]
   repeat (refine⟨J,?_⟩)
   exact next _ _ (X+1) Ay Bq Bk (by simp) (by rw[gR];simp[m1,K])
 have jO:m=S1 vs:=Zn (by simp[S1,K]) (λj hj=>by
  rw[hm j J];unfold gb S1;rw[Ie,Ks,Qp J];rfl)
 simp[g,Q,P,gP,I,z,M3];refine Ns (λρ gZ gK N=>∃(i:Nat) (m:List Bool) (L:Int) (q X:Nat),gZ=[]∧N+i=A.length∧lk ρ 1=.ptr 0 0∧lk ρ 8=.i L∧lk ρ 9=.dy q 0∧lk ρ 11=.i i ∧
   0<gK.length∧0<q∧q<gK.length∧gK[0]?=some (.cells (M3 vs A B) 0)∧gK[q]?=some (.dyn (m.map .bool) m.length 1 0 X)∧m.length=vs.length∧0≤L∧L≤4∧Px vs m L (A.drop i)=Px vs (S1 vs) 0 A) (N:=A.length)
  ⟨0,m,0,q,X,rfl,J,Ay,Bq,Bk,by simp,C,gE,gF,z,M,K,J,J,by simp[jO]⟩ ?_
 clear g Q P gP z M G C gE gF K;rintro N ρ gZ gK ⟨i,m,L,q,X,rfl,hN,g,Q,P,S,C,gE,gF,z,M,K,jX,jY,R⟩ Nx G;by_cases I:i<A.length
 ·have q7:=mc (Vg I);have jD:=mg I;rw[zgl I]at R;have U:(go A i).f=[.i (go A i).kind,.i (go A i).d,.i (go A i).e,.i (go A i).a,.i (go A i).b,.i (go A i).c,.u (go A i).imm]:=rfl;have qk:(Oi A)[i*7]?=some (.i (go A i).kind):=by have:=V2 Ko.f_len (Vg I) (j:=0) J;simpa [Oi,Ko.f] using this
  generalize go A i=o at *;have no:Px vs m L (o::A.drop (i+1))=none→N3 vs A B=2:=λh=>gB (by
   rw[h]at R;simp[Ng,←R])
  simp[g,S,I,q7,jD,U,z,M3];rw[←U];refine Nb (zop vs o) (bors_self _ (by simp[dats,LV.dat,Ph,U])) ?_;cases ho:Nz vs o with
  |false =>
   simp;exact (no (by simp[Px,ho])).symm
  |true =>
  have jg:=zvk ho;simp[g,P,S,I,q7,jD,z,M3];refine zhu o jg K.symm M (λht O jE=>?_) (λht O Y jZ jE jP=>?_)
  ·simp;exact (no (by simp[Px,ho,ht])).symm
  have gD:O[0]?=some (.cells (M3 vs A B) 0):=by rw[jE 0 C J];exact z
  have jF:(Sl m o).length=m.length:=by unfold Sl;split<;>simp
  have jQ:∀F,F=L+dl o.kind→(F<0∨4<F→N3 vs A B=2)∧(0≤F→F≤4→Px vs (Sl m o) F (A.drop (i+1))=Px vs (S1 vs) 0 A):=λF e=>by
   subst e;refine⟨λh=>no ?_,λh0 Z=>?_⟩
   ·rw[Px,Ii];simp only[H9,Il];omega
   ·rw[←R,Px,Ij];simp only[H9,Il];exact⟨ho,ht,h0,Z⟩
  have gY:∃T,dl o.kind=T∧-1≤T∧T≤1∧((o.kind=15∧T=1)∨(o.kind≠15∧o.kind=16∧T=-1)∨(o.kind≠15∧o.kind≠16∧T=0)):=by
   by_cases k1:o.kind=15
   ·exact⟨1,by simp[dl,k1],J,J,.inl ⟨k1,rfl⟩⟩
   by_cases k2:o.kind=16
   ·exact⟨-1,by simp[dl,k2],J,J,.inr (.inl ⟨k1,k2,rfl⟩)⟩
   ·exact⟨0,by simp[dl,k1,k2],J,J,.inr (.inr ⟨k1,k2,rfl⟩)⟩
  obtain⟨T,e1,e2,e3,gY⟩:=gY;obtain⟨gS,jG⟩:=jQ (L+T) (by rw[e1]);have next:∀(F:Int) (D:M7),F=L+T→0≤F→F≤4→lk D 1=.ptr 0 0→lk D 8=.i F→lk D 9=.dy q 0→lk D 11=.i ((i:Int)+1)→Nx D [] O:=by
   intro F D e gT gU E b8 b9 jR;refine G _ _ _ ⟨N-1,J,i+1,Sl m o,F,q,Y,rfl,J,E,b8,b9,by rw[jR];simp,J,gE,J,gD,by rw[jF];exact jP,by rw[jF,K],gT,gU,?_⟩;subst e;exact jG gT gU
  rcases gY with ⟨gj,rfl⟩|⟨gj,gQ,rfl⟩|⟨gj,gQ,rfl⟩
  ·have r0:¬L+1<0:=J
   by_cases d4:4<L+1
   ·simp[g,Q,S,I,gD,M3,M9 qk,gj,r0,d4]
    repeat (refine⟨J,?_⟩)
    exact (gS (.inr d4)).symm
   ·simp[g,Q,S,I,gD,M3,M9 qk,gj,r0,d4]
    repeat (refine⟨J,?_⟩)
    exact next (L+1) _ J J J Ay (by simp) Bk (by simp)
  ·by_cases r0:L-1<0
   ·simp[g,Q,S,I,gD,M3,M9 qk,gj,gQ,r0]
    repeat (refine⟨J,?_⟩)
    exact (gS (.inl J)).symm
   ·have d4:¬4<L-1:=J
    simp[g,Q,S,I,gD,M3,M9 qk,gj,gQ,r0,d4]
    repeat (refine⟨J,?_⟩)
    exact next (L-1) _ J J J Ay (by simp) Bk (by simp)
  ·have r0:¬L<0:=J
   have d4:¬4<L:=J
   simp[g,Q,S,I,gD,M3,M9 qk,gj,gQ,r0,d4]
   repeat (refine⟨J,?_⟩)
   exact next L _ J J J Ay Bq Bk (by simp)
 have jS:Px vs (S1 vs) 0 A=some (m,L):=by
  rw[Jo J]at R;rw[←R];rfl
 have l1:A.length≤4096:=J
 have l2:B.length≤4096:=J
 have gG:Ng vs A B=(U6 vs m&&decide (L=0)):=by simp[Ng,jK,jB,jS,l1,l2]
 simp[g,Q,P,S,I,z,M3];refine Ns (λρ gZ O N=>∃i:Nat,gZ=[]∧O=gK∧N+i=vs.length∧lk ρ 1=.ptr 0 0∧lk ρ 8=.i L∧lk ρ 9=.dy q 0∧lk ρ 12=.i i∧∀j,j<i→(gv vs j).mode=3→gb m j=true) (N:=vs.length) ⟨0,rfl,rfl,J,Ay,Bq,Bk,by simp,λj hj=>J⟩ ?_;clear g Q P S G;rintro N ρ gZ O ⟨i,rfl,rfl,hN,g,Q,P,gH,ha⟩ Nx G;by_cases I:i<vs.length
 ·have gm:i<m.length:=J
  have q1:=So (f:=LV.bool) (zi gm);have q2:=ft (Qp I);have next:∀D,((gv vs i).mode=3→gb m i=true)→lk D 1=.ptr 0 0→lk D 8=.i L→lk D 9=.dy q 0→lk D 12=.i ((i:Int)+1)→Nx D [] O:=by
   intro D ok E b8 b9 jT;refine G _ _ _ ⟨N-1,J,i+1,rfl,rfl,J,E,b8,b9,by rw[jT];simp,λj hj gI=>?_⟩;by_cases e:j=i
   ·subst e;exact ok gI
   ·exact ha j J gI
  by_cases m3:(gv vs i).mode=3
  ·cases hb:gb m i with
   |false =>
    simp[g,P,gH,I,z,M,M3,gm,M9 q1,M9 q2,m3,hb];have:U6 vs m=false:=by
     unfold U6;rw[K8];exact⟨i,Ji.2 I,by simp[m3,hb]⟩
    exact (gB (by rw[gG,this];rfl)).symm
   |true =>
    simp[g,P,gH,I,z,M,M3,gm,M9 q1,M9 q2,m3,hb]
    repeat (refine⟨J,?_⟩)
    exact next _ (λ_=>hb) Ay Bq Bk (by simp)
  ·simp[g,P,gH,I,z,M3,M9 q2,m3]
   repeat (refine⟨J,?_⟩)
   exact next _ (λh=>absurd h m3) Ay Bq Bk (by simp)
 have jH:U6 vs m=true:=by
  unfold U6;rw[I7];intro j hj;have hj:=Ji.1 hj;by_cases gI:(gv vs j).mode=3
  ·simp[ha j J gI]
  ·simp[gI]
 by_cases d0:L=0
 ·simp[g,Q,gH,I,z,M3,d0];simp[N3,gG,jH,d0]
 ·simp[g,Q,gH,I,z,M3,d0];simp[N3,gG,d0]
def zb7:LC:=(.q [.z 4 (.move (.c (.u 0))),.z 5 (.move (.c (.u 0)))] (.seq (.cond .F (.q [.m 11 0,.z 12 (.cvInt .u32 (.t 11)),.m 13 1,.z 14 (.cvInt .u32 (.t 13)),.W 15 147 12 14,.m 10 15,.X 16 0 10,.X 17 1 10,.m 6 16,.m 7 17] (.q [.m 18 6,.z 19 (.cvInt .u64 (.t 18)),.m 20 7,.z 21 (.cvInt .u64 (.t 20)),.m 4 19,.m 5 21] .ret)) .skip) (.q [.m 23 0,.m 24 1,.W 25 148 23 24,.m 22 25,.X 26 0 22,.X 27 1 22,.m 8 26,.m 9 27] (.q [.m 28 8,.m 29 9,.m 4 28,.m 5 29] .ret))))
def r_math_bits_Mul:Nf Tryz.prog 111=some ⟨30,zb7.r,[.tmp 4,.tmp 5]⟩:=Aa
def z8g:LC:=(.q [.z 4 (.move (.c (.u 0))),.z 5 (.move (.c (.u 0)))] (.q [.m 14 0,.u 15 .and 43 14 4294967295,.m 6 15] (.q [.m 16 0,.u 17 .shr 43 16 32,.m 7 17] (.q [.m 18 1,.u 19 .and 43 18 4294967295,.m 8 19] (.q [.m 20 1,.u 21 .shr 43 20 32,.m 9 21] (.q [.m 22 6,.m 23 8,.c 24 .mul 43 22 23,.m 10 24] (.q [.m 25 7,.m 26 8,.c 27 .mul 43 25 26,.m 28 10,.u 29 .shr 43 28 32,.c 30 .add 43 27 29,.m 11 30] (.q [.m 31 11,.u 32 .and 43 31 4294967295,.m 12 32] (.q [.m 33 11,.u 34 .shr 43 33 32,.m 13 34] (.q [.m 35 12,.m 36 6,.m 37 9,.c 38 .mul 43 36 37,.c 39 .add 43 35 38,.m 12 39] (.q [.m 40 7,.m 41 9,.c 42 .mul 43 40 41,.m 43 13,.c 44 .add 43 42 43,.m 45 12,.u 46 .shr 43 45 32,.c 47 .add 43 44 46,.m 4 47] (.q [.m 48 0,.m 49 1,.c 50 .mul 43 48 49,.m 5 50] .ret))))))))))))
def r_math_bits_Mul64:Nf Tryz.prog 148=some ⟨51,z8g.r,[.tmp 4,.tmp 5]⟩:=Aa
def z4r:LC:=(.q [.e 4] (.seq (.q [.m 9 1,.b 10 .lss 3 9 0] (.cond (.t 10) .stuck .skip)) (.q [.m 13 0,.s 14 13,.z 15 (.cvInt .u64 (.t 14)),.m 16 1,.z 17 (.cvInt .u64 (.t 16)),.W 18 111 15 17,.m 12 18,.X 19 0 12,.X 20 1 12,.m 5 19,.m 6 20] (.seq (.q [.m 21 5,.u 22 .gtr 110 21 0,.m 23 22,.mn 24 23 6,.n 25 23 (.bin .gtr true 110 (.t 24) (.c (.u 9223372036854775807))),.p 26 23 25] (.cond (.t 26) .stuck .skip)) (.q [.m 28 6,.z 29 (.cvInt .i64 (.t 28)),.z 30 (.mkSl 1 [(.i 0)] (.t 29) (.t 29)),.m 7 30] (.q [.m 31 7,.m 32 0,.z 33 (.copy 1 (.t 31) (.t 32)),.m 8 33] (.seq (.block 0 (.loop (.seq (.q [.m 34 8,.m 35 7,.s 36 35,.c 37 .lss 3 34 36] (.cond (.t 37) .skip (.exit 0))) (.block 1 (.draw [(.m 38 8,[]),(.m 39 7,[]),(.m 40 8,[]),(.z 41 (.slSl 1 (.t 39) (some (.t 40)) none),[]),(.m 42 7,[]),(.m 43 8,[]),(.z 44 (.slSl 1 (.t 42) none (some (.t 43))),[]),(.z 45 (.copy 1 (.t 41) (.t 44)),[]),(.c 46 .add 3 38 45,[]),(.m 8 46,[])]))))) (.q [.m 47 7,.m 4 47] .ret))))))))
def r_slices_Repeat_int_int:Nf Tryz.prog 151=some ⟨48,z4r.r,[.tmp 4]⟩:=Aa
def zb4:LC:=(.q [.x 4 0,.F 8] (.seq (.q [.K 9 0] (.block 0 (.loop (.seq (.q [.m 10 9,.f 11 0 4,.l 12 11,.s 13 12,.c 14 .lss 3 10 13] (.cond (.t 14) .skip (.exit 0))) (.seq (.block 1 (.q [.f 17 0 4,.l 18 17,.m 19 9,.I 20 3 18 19,.f 21 0 20,.l 22 21,.m 23 2,.c 24 .gtr 3 22 23] (.cond (.t 24) (.q [.F 8] .ret) .skip))) (.ops [.m 15 9,.b 16 .add 3 15 1,.m 9 16])))))) (.q [.f 25 0 4,.l 26 25,.s 27 26,.m 28 1,.c 29 .leq 3 27 28,.m 30 29,.yf 31 30 1 4,.yl 32 30 31,.y 33 30 (.lenSl (.t 32)),.my 34 30 3,.y 35 30 (.bin .leq false 3 (.t 33) (.t 34)),.q 36 30 35,.m 37 36,.yf 38 37 2 4,.yl 39 37 38,.y 40 37 (.lenSl (.t 39)),.my 41 37 3,.y 42 37 (.bin .leq false 3 (.t 40) (.t 41)),.q 43 37 42,.m 8 43] .ret)))
def r_kit_LightKern:Nf Tryz.prog 16=some ⟨44,zb4.r,[.tmp 8]⟩:=Aa
def zcc:LC:=(.q [.x 1 0,.e 2] (.seq (.q [.L 8 3 1,.w 9 43 8,.b 10 .neq 35 9 0] (.cond (.t 10) (.q [.e 2] .ret) .skip)) (.q [.z 11 (.buildSl 1 1 [(.i 0)] [(0,1,.k (-1))]),.f 12 1 1,.l 13 12,.s 14 13,.W 15 151 11 14,.m 3 15] (.q [.e 4] (.seq (.q [.f 16 1 1,.l 17 16,.s 18 17,.K 19 0] (.block 0 (.loop (.q [.c 20 .lss 3 19 18] (.seq (.cond (.t 20) .skip (.exit 0)) (.seq (.block 1 (.q [.m 21 19,.I 22 7 17 19,.L 23 7 22,.z 6 (.alloc [(.i 0),(.i 0),(.i 0),(.i 0),(.i 0),(.i 0),(.u 0)]),.m 5 21,.S 7 6 23] (.q [.f 24 0 6,.l 25 24] (.block 2 (.q [.b 27 .eql 3 25 15,.m 26 27] (.cond (.t 26) (.ops [.m 28 4,.m 29 5,.z 30 (.buildSl 1 1 [(.i 0)] [(0,1,.t 29)]),.a 31 1 28 30,.m 4 31]) (.q [.b 33 .eql 3 25 16,.m 32 33] (.cond (.t 32) (.q [.m 34 4,.s 35 34,.b 36 .sub 3 35 1,.m 7 36] (.seq (.draw [(.m 37 3,[]),(.m 38 5,[]),(.m 39 3,[]),(.m 40 4,[]),(.m 41 7,[]),(.I 42 1 40 41,[]),(.l 43 42,[]),(.m 44 4,[]),(.m 45 7,[]),(.I 46 1 44 45,[]),(.l 47 46,[]),(.m 48 5,[]),(.I 49 1 37 38,[]),(.S 1 49 47,[]),(.I 50 1 39 43,[]),(.S 1 50 48,[])]) (.ops [.m 51 4,.m 52 7,.z 53 (.slSl 1 (.t 51) none (some (.t 52))),.m 4 53]))) .skip)))))))) (.ops [.b 54 .add 3 19 1,.m 19 54]))))))) (.q [.m 55 3,.m 2 55] .ret))))))
def r_lengths_Ends:Nf Tryz.prog 124=some ⟨56,zcc.r,[.tmp 2]⟩:=Aa
def bn(a b:UInt64):Na 148 [.u a,.u b] (.tup [.u (lg a b),.u (a*b)]) []:=by
 refine Np.val rfl (Nd r_math_bits_Mul64 Aa N ?_);simp[z8g];refine⟨?_,yj a b⟩;rw[←uf a b];simp only[zi6]
 ac_rfl
def Yq(a b:UInt64):Na 111 [.u a,.u b] (.tup [.u (lg a b),.u (a*b)]) []:=by
 refine Np.val rfl (Nd r_math_bits_Mul Aa N ?_);simp[zb7];refine Nb (bn a b) N ?_;simp
def zm4(vs:List Vr)(B D:List Ko)(a b c:Int)(T:vs.length≤9223372036854775807):Na 16 [.agg (M3 vs B D),.i a,.i b,.i c] (.bool (vs.all (λv=>decide (v.limbs≤b))&&(decide ((vs.length:Int)≤a)&&(decide ((B.length:Int)≤c)&&decide ((D.length:Int)≤c))))) []:=by
 refine Np.val rfl (Nd r_kit_LightKern Aa (by simp) ?_);simp[zb4,M3];refine Ns (λL R S N=>∃i:Nat,R=[]∧S=[.cells (M3 vs B D) 0]∧N+i=vs.length∧lk L 1=.i a∧lk L 2=.i b∧lk L 3=.i c∧lk L 4=.ptr 0 0∧lk L 9=.i i∧∀E,E<i→(gv vs E).limbs≤b) (N:=vs.length) ⟨0,Cz⟩ ?_;rintro N L R S ⟨i,rfl,rfl,U,g,F,C,j,z,M⟩ V G;by_cases H:i<vs.length
 ·have O:=dv (Qp H);by_cases gb:b<(gv vs i).limbs
  ·simp[g,F,j,z,H,M3,M9 O,gb];intro h;have:=h _ (Vt H);omega
  ·simp[g,F,j,z,H,M3,M9 O,gb]
   repeat (refine⟨J,?_⟩)
   refine G _ _ _ ⟨N-1,J,i+1,rfl,rfl,J,Ay,Ci,Ae,Au,by simp,λE I=>?_⟩;by_cases e:E=i
   ·rw[e];omega
   ·exact M E J
 have A:vs.all (λv=>decide (v.limbs≤b))=true:=by
  rw[I7];intro v Q;obtain⟨E,I,rfl⟩:=K5.1 Q;have e:=Qp I;rw[Ib I]at e;rw[Option.some.inj e];exact J4 (M E J)
 rw[A];by_cases K:(vs.length:Int)≤a
 ·by_cases P:(B.length:Int)≤c
  ·simp[g,C,j,z,H,M3,K,P]
  ·simp[g,C,j,z,H,M3,K,P]
 ·simp[g,C,j,z,H,M3,K]
def Q0(x:Int)(n c:Nat):List LV:=(List.replicate c x++List.replicate (n-c) 0).map LV.i
def ar(x:Int){n c:Nat}(h:c≤n):(Q0 x n c).length=n:=by simp[Q0];omega
def Z9(x:Int){n c m:Nat}(hm:m≤c):Nu (Q0 x n c) c (((Q0 x n c).take c).take m)=Q0 x n (c+m):=by
 have g:(Q0 x n c).take c=(List.replicate c x).map LV.i:=by
  unfold Q0;rw[Ju,Li N]
 rw[g,←L0,List.take_replicate,Jt hm];unfold Nu;rw[g];have j:(Q0 x n c).drop (c+((List.replicate m x).map LV.i).length)=(List.replicate (n-(c+m)) (0:Int)).map LV.i:=by
  unfold Q0;rw[Ju,J0,List.length_replicate,←J6,List.drop_left' N,←List.map_drop,List.drop_replicate]
  congr 2;omega
 rw[j];unfold Q0;rw[←Ju,←Ju,Kt]
def zxb(x:Int)(n:Nat):Q0 x n n=(List.replicate n x).map LV.i:=by simp[Q0]
def Zd(x:Int)(n:Nat):List.take (min 1 n) [LV.i x]++List.drop (min 1 n) (Ni [LV.i 0] n)=Q0 x n (min 1 n):=by
 have e:∀n,Ni [LV.i 0] n=(List.replicate n (0:Int)).map LV.i:=by
  intro n
  induction n with
  |zero=>rfl
  |succ n g=>simp[Ni,g,Kb]
 rw[e];cases n with
 |zero=>simp[Q0]
 |succ n=>simp[Q0,(J:min 1 (n+1)=1),Kb]
def zu8{x:Int}{n q st:Nat}(V:n≤1000000)(B:F[q]?=some (.dyn [.i x] 1 1 g st))
  (k:∀z p j,(∀r,r<F.length→z[r]?=F[r]?)→F.length≤p→z[p]?=some (.dyn ((List.replicate n x).map .i) n 1 0 j)→P (.dy p 0) z):O6 (.fn 151) [.dy q g,.i n] F P:=by
 refine Nd r_slices_Repeat_int_int Aa (by simp) ?_;have C:q<F.length:=(H7.1 B).1;have M:¬(n:Int)<0:=J
 simp[z4r,B,M];have K:(iU 1).toNat=1:=pp (n:=1) J;have un:(iU (n:Int)).toNat=n:=pp J;have D:lg (iU 1) (iU (n:Int))=0:=by
  apply Jj.1;rw[lg,K,un,Js,(J:1*n/18446744073709551616=0)];rfl
 have E:iU 1*iU (n:Int)=iU (n:Int):=by
  apply Jj.1;rw[L8,K,un];omega
 have G:¬9223372036854775807<iU (n:Int):=by
  rw[Kr,un];show ¬9223372036854775807<n;omega
 refine Nb (Yq (iU 1) (iU (n:Int))) (by simp) ?_;simp[D,E,G,un,↓M6 C,B];refine⟨J,J,?_⟩;refine Ns (λO U z Q=>∃(c j:Nat),U=[]∧z=F++[.dyn (Q0 x n c) n 1 0 j]∧Q+c=n∧(c=0→n=0)∧lk O 7=.dy F.length 0∧lk O 8=.i c) (N:=n-min 1 n) ⟨min 1 n,1,rfl,by rw[←Zd],J,J,by simp,by simp⟩ ?_;rintro Q O U z ⟨c,j,rfl,rfl,X,R,H,L⟩ Y I;by_cases Z:c<n
 ·simp[H,L,Z];have S:=ar x (n:=n) (c:=c) J;have A:=Z9 x (n:=n) (c:=c) (m:=min c (n-c)) J
  repeat (refine⟨J,?_⟩)
  refine I _ _ _ ⟨Q-min c (n-c),J,c+min c (n-c),j+1,rfl,?_,J,J,Ba,by simp⟩;rw[←A]
 ·have:c=n:=J
  subst this;simp[H,L];exact k _ _ j (λr T=>M6 T) (If _) (by rw[←zxb];simp)
def zvs{o:Ko}:Qv o=1↔o.kind=15:=Fj
def c6{o:Ko}:Qv o=2↔o.kind=16:=by
 unfold Qv;by_cases h:o.kind=15
 ·simp[h]
 ·by_cases g:o.kind=16<;>simp[h,g]
def qi(j:List Vr)(g z:List Ko):List Int:=if Ng j g z=true then sn Qv g else []
def zh2(z:List Vr)(g H:List Ko)(gM:z.length≤9223372036854775807):Qh 124 [.agg (M3 z g H)] (.lst ((qi z g H).map .i) (qi z g H).length 1):=by
 have di:∀l:List Int,dats (l.map .i)=true:=λl=>Un (λ_=>rfl) l
 have gO:dats (M3 z g H)=true:=Ai
 refine Sf.mk (by simp[LV.dat,di]) (Nd r_lengths_Ends Aa (by simp) ?_);have gP:(M3 z g H).length=3:=rfl;have gQ:(M3 z g H).take 3=M3 z g H:=rfl;simp[zcc,gP,gQ];refine Nb (ny z g H gM) (bors_self _ (by simp[dats,LV.dat,gO])) ?_;cases U:Ng z g H with
 |false=>simp[N3,U,qi,O1,bor]
 |true =>
 have jC:g.length≤4096:=by
  unfold Ng at U;simp only[H9,Il]at U;exact U.2.1
 simp[N3,U,M3];refine zu8 (x:=-1) (st:=0) J (by simp) λG' p gR gj hp gB=>?_
 have jD:2≤p:=by simpa using hp
 have D:G'[0]?=some (.cells (M3 z g H) 0):=by rw[gj 0 (by simp)];rfl
 clear gj hp;have O:p<G'.length:=(H7.1 gB).1;simp[D,M3];obtain⟨hv,_,_,_,ht⟩:P6 z=true∧True∧True∧True∧∃m,Px z (S1 z) 0 g=some (m,0):=by
  have h:=U;unfold Ng at h;simp only[H9]at h;refine⟨h.1,trivial,trivial,trivial,?_⟩;have h2:=h.2.2.2.2;split at h2
  ·cases h2
  ·rename_i m dp A;simp only[H9,Il]at h2;rw[h2.2]at A;exact⟨m,A⟩
 obtain⟨m0,ht⟩:=ht;have gC:W5 Qv 0 g:=zq g (S1 z) m0 0 (by simpa using ht);have gS:qi z g H=sn Qv g:=by simp[qi,U]
 rw[gS];refine Ns (λρ jK gK N=>∃(i:Nat) (st:List Nat) (j:List Int) (sv:LV) (s' b:Nat),jK=[]∧N+i=g.length∧lk ρ 3=.dy p 0∧lk ρ 4=sv∧lk ρ 17=.lst (Oi g) g.length 7∧lk ρ 18=.i g.length∧lk ρ 19=.i i∧0<gK.length∧p<b∧b≤gK.length ∧
   gK[0]?=some (.cells (M3 z g H) 0)∧gK[p]?=some (.dyn (j.map .i) g.length 1 0 s')∧j.length=g.length∧Rb b gK sv 1 st.length (st.reverse.map λn:Nat=>.i n)∧st.length≤i∧(∀a∈st,a<i)∧W5 Qv st.length (g.drop i)∧V8 Qv i st j (g.drop i)=sn Qv g) (N:=g.length)
  ⟨0,[],List.replicate g.length (-1),.nilSl,gR,G'.length,rfl,J,by simp,by simp,by simp,by simp,by simp,J,J,If _,D,by simpa using gB,by simp,Rb.nil,by simp,by simp,Ek,by simp[sn]⟩ ?_
 rintro N ρ jK gK ⟨i,st,j,sv,s',b,rfl,hN,L,V,B,C,E,hl,I,jE,D,P,K,F,gT,Q,M,A⟩ Nx X;by_cases gL:i<g.length
 ·have q7:=mc (Vg gL);have Y:=mg gL;rw[zgl gL]at M A;have hf:(go g i).f=[.i (go g i).kind,.i (go g i).d,.i (go g i).e,.i (go g i).a,.i (go g i).b,.i (go g i).c,.u (go g i).imm]:=rfl;generalize go g i=o at *;unfold W5 at M;unfold V8 at A;have O:p<gK.length:=J
  by_cases G:o.kind=15
  ·rw[Ij (zvs.2 G)]at M A;simp[L,V,B,C,E,gL,q7,Y,hf,G];refine Rb.push F.push_end J Ab J rfl λv' G2 gU T gD=>?_
   simp[E];refine⟨J,X _ _ _ ⟨N-1,J,i+1,i::st,j,v',s',b,rfl,J,Br,by simp,Ax,Ae,by simp,J,I,gD,?_,?_,K,?_,Ab,?_,by simpa using M,A⟩⟩
   ·rw[T 0 J,M6 hl];exact D
   ·rw[T p I,M6 O];exact P
   ·rw[List.reverse_cons,Ju];exact gU
   ·intro a ha;rcases Ik.1 ha with rfl|ha
    ·omega
    ·have:=Q a ha;omega
  by_cases R:o.kind=16
  ·rw[Ii (λh=>G (zvs.1 h)),Ij (c6.2 R)]at M A;cases st with
   |nil=>exact absurd M.1 (by simp)
   |cons a st =>
   have jF:=Q a (Kj ..);simp only[Iy,Nat.add_sub_cancel]at M;simp[L,V,B,C,E,gL,q7,Y,hf,G,R];refine F.push_end.lenL ?_;have gV:((a::st).length:Int)-1=(st.length:Nat):=by simp
   simp[L,V,gV];refine⟨J,F.push_end.ix J (by rw[Iy];omega) λp1 g9 R1 m1 jG jH gE gX jg=>?_⟩;have jz:p1<(gK++[LObj.cells [LV.i 16,LV.i o.d,LV.i o.e,LV.i o.a,LV.i o.b,LV.i o.c,LV.u o.imm] 1]).length:=(H7.1 gE).1;have Z:R1[st.length]?=some (.i a):=by
    rw[gX _ (by simp)];simp
   have gF:∀x y,((gK++[x]).set p y)[p]?=some y:=λx y=>Ia Ab
   have gG:Nu (j.map LV.i) i [.i (a:Int)]=(j.map LV.i).set i (.i (a:Int)):=by
    rw[zu _ _ _ J,Lw]
   have gH:Nu ((j.map LV.i).set i (.i (a:Int))) a [.i (i:Int)]=((j.map LV.i).set i (.i (a:Int))).set a (.i (i:Int)):=by
    rw[←Lw,zu _ _ _ Ab,Lw]
   have gY:a<g.length:=J
   simp[gE,M9 Z,L,V];refine F.push_end.ix J (by rw[Iy];omega) λp2 jA R2 m2 jI gD gZ g8 jB=>?_
   have S:R2[st.length]?=some (.i a):=by
    rw[g8 _ (by simp)];simp
   simp[gZ,M9 S,L,V,↓M6 O,P,gL,gY,K,↓gF,gG,gH];refine⟨J,J,(F.push_end.set_lt I).cut (m:=st.length) (by simp) (λK' k'=>k') (λd K' k'=>k') λv' gI=>?_⟩;simp[E];refine⟨J,X _ _ _ ⟨N-1,J,i+1,st,(j.set i a).set a i,v',s'+1+1,b,rfl,J,Br,by simp,Ax,Ae,by simp,by simp,I,Ab,?_,?_,Bs,?_,by simp at gT;omega,λa' gg=>by have:=Q a' (Jg _ gg);omega,M.2,A⟩⟩
   ·rw[H8 J,M6 hl];exact D
   ·rw[Ia Ab,Lw,Lw]
   ·have e:((a::st).reverse.map λn:Nat=>LV.i n).take (st.length*1)=st.reverse.map λn:Nat=>LV.i n:=by
     rw[List.reverse_cons,Ju,K0,Li (by simp)]
    rw[e]at gI;exact gI
  ·rw[Ii (λh=>G (zvs.1 h)),Ii (λh=>R (c6.1 h))]at M A;simp[L,V,B,C,E,gL,q7,Y,hf,G,R];refine⟨J,X _ _ _ ⟨N-1,J,i+1,st,j,sv,s',b,rfl,J,Br,Ch,Ax,Ae,by simp,by simp,I,Ab,?_,?_,K,F.push_end,J,λa' gg=>by have:=Q a' gg;omega,M.2,A⟩⟩
   ·rw[M6 hl];exact D
   ·rw[M6 O];exact P
 ·rw[Jo J]at A;have A:j=sn Qv g:=by simpa [V8] using A
  simp[L,B,C,E,gL];refine⟨_,_,_,⟨rfl,rfl,rfl⟩,⟨s',?_⟩,di _⟩;rw[←A,K];exact P

def z54:LC:=(.q [.K 4 0] (.seq (.q [.m 6 0,.s 7 6,.K 8 0] (.block 0 (.loop (.q [.c 9 .lss 3 8 7] (.seq (.cond (.t 9) .skip (.exit 0)) (.seq (.block 1 (.q [.m 10 8,.m 5 10] (.q [.m 11 1,.m 12 0,.m 13 5,.I 14 1 12 13,.l 15 14,.c 16 .eql 3 11 15] (.cond (.t 16) (.q [.m 17 5,.m 4 17] .ret) .skip)))) (.ops [.b 18 .add 3 8 1,.m 8 18]))))))) (.q [.K 4 (-1)] .ret)))
def r_slices_Index_int_int:Nf Tryz.prog 152=some ⟨19,z54.r,[.tmp 4]⟩:=Aa
def z44:LC:=(.q [.F 4] (.q [.m 5 0,.m 6 1,.W 7 152 5 6,.b 8 .geq 3 7 0,.m 4 8] .ret))
def r_slices_Contains_int_int:Nf Tryz.prog 125=some ⟨9,z44.r,[.tmp 4]⟩:=Aa
def ze2:LC:=(.q [.x 2 0,.F 4] (.q [.f 5 1 2,.l 6 5,.f 7 2 2,.l 8 7,.f 9 3 2,.l 10 9,.f 11 4 2,.l 12 11,.f 13 5 2,.l 14 13,.z 15 (.buildSl 1 5 [(.i 0),(.i 0),(.i 0),(.i 0),(.i 0)] [(0,1,.t 6),(1,1,.t 8),(2,1,.t 10),(3,1,.t 12),(4,1,.t 14)]),.m 16 1,.W 17 125 15 16,.m 4 17] .ret))
def r_buffers_has:Nf Tryz.prog 82=some ⟨18,ze2.r,[.tmp 4]⟩:=Aa
def zc5:LC:=(.q [.x 1 0,.F 2] (.q [.f 3 0 1,.l 4 3,.b 5 .lss 3 4 0,.m 2 5] .ret))
def r_buffers_none:Nf Tryz.prog 83=some ⟨6,zc5.r,[.tmp 2]⟩:=Aa
def z4b:LC:=(.q [.x 2 0,.x 3 1,.F 4] (.q [.f 5 0 2,.l 6 5,.f 7 1 3,.l 8 7,.c 9 .leq 3 6 8,.m 10 9,.yf 11 10 0 3,.yl 12 10 11,.yf 13 10 1 2,.yl 14 10 13,.y 15 10 (.bin .leq false 3 (.t 12) (.t 14)),.q 16 10 15,.m 4 16] .ret))
def r_buffers_pair_int_meets:Nf Tryz.prog 84=some ⟨17,z4b.r,[.tmp 4]⟩:=Aa
def z4u:LC:=(.q [.x 2 0,.x 3 1,.z 4 (.alloc [(.i 0),(.i 0)])] (.q [.f 5 0 2,.l 6 5,.f 7 0 3,.l 8 7,.z 9 (.maxi false (.t 6) (.t 8)),.f 10 1 2,.l 11 10,.f 12 1 3,.l 13 12,.z 14 (.maxi true (.t 11) (.t 13)),.z 15 (.build [(.i 0),(.i 0)] [(0,1,.t 9),(1,1,.t 14)]),.S 2 4 15] .ret))
def r_buffers_pair_int_wide:Nf Tryz.prog 85=some ⟨16,z4u.r,[.cellN 4 2]⟩:=Aa
def zal:LC:=(.q [.x 1 0,.e 2] (.q [.L 5 3 1,.w 6 124 5,.m 3 6] (.seq (.q [.K 4 0] (.block 0 (.loop (.seq (.q [.m 7 4,.f 8 1 1,.l 9 8,.s 10 9,.c 11 .lss 3 7 10] (.cond (.t 11) .skip (.exit 0))) (.seq (.block 1 (.q [.f 14 1 1,.l 15 14,.m 16 4,.I 17 7 15 16,.f 18 0 17,.l 19 18,.b 20 .eql 3 19 15] (.cond (.t 20) (.q [.m 21 2,.m 22 4,.m 23 3,.m 24 4,.I 25 1 23 24,.l 26 25,.z 27 (.build [(.i 0),(.i 0)] [(0,1,.t 22),(1,1,.t 26)]),.z 28 (.buildSl 2 1 [(.i 0),(.i 0)] [(0,2,.t 27)]),.a 29 2 21 28,.m 2 29] (.ops [.m 30 3,.m 31 4,.I 32 1 30 31,.l 33 32,.m 4 33])) .skip))) (.ops [.m 12 4,.b 13 .add 3 12 1,.m 4 13])))))) (.q [.m 34 2,.m 2 34] .ret))))
def r_buffers_outer:Nf Tryz.prog 81=some ⟨35,zal.r,[.tmp 2]⟩:=Aa
def zbd:LC:=(.q [.x 1 0,.e 2] (.q [.L 12 3 1,.w 13 81 12,.m 3 13] (.q [.e 4] (.seq (.q [.f 14 0 1,.l 15 14,.s 16 15,.K 17 0] (.block 0 (.loop (.q [.c 18 .lss 3 17 16] (.seq (.cond (.t 18) .skip (.exit 0)) (.seq (.block 1 (.q [.m 19 17,.I 20 3 15 17,.L 21 3 20,.z 6 (.alloc [(.i 0),(.bool false),(.i 0)]),.m 5 19,.S 3 6 21] (.q [.z 22 (.build [(.i 0),(.i 0)] [(0,1,.k (-1)),(1,1,.k (-1))]),.z 7 (.alloc [(.i 0),(.i 0)]),.S 2 7 22] (.seq (.q [.f 23 1 1,.l 24 23,.s 25 24,.K 26 0] (.block 2 (.loop (.q [.c 27 .lss 3 26 25] (.seq (.cond (.t 27) .skip (.exit 2)) (.seq (.block 3 (.q [.m 28 26,.I 29 7 24 26,.L 30 7 29,.z 9 (.alloc [(.i 0),(.i 0),(.i 0),(.i 0),(.i 0),(.i 0),(.u 0)]),.m 8 28,.S 7 9 30] (.q [.L 31 7 9,.m 32 5,.W 33 82 31 32] (.cond (.t 33) (.seq (.q [.L 34 2 7,.w 35 83 34] (.cond (.t 35) (.ops [.m 36 8,.f 37 0 7,.S 1 37 36]) .skip)) (.ops [.m 38 8,.f 39 1 7,.S 1 39 38])) .skip)))) (.ops [.b 40 .add 3 26 1,.m 26 40]))))))) (.seq (.q [.m 41 3,.s 42 41,.K 43 0] (.block 4 (.loop (.q [.c 44 .lss 3 43 42] (.seq (.cond (.t 44) .skip (.exit 4)) (.seq (.block 5 (.q [.I 45 2 41 43,.L 46 2 45,.z 11 (.alloc [(.i 0),(.i 0)]),.S 2 11 46] (.q [.L 47 2 7,.w 48 83 47,.z 49 (.un .not (.t 48)),.m 50 49,.y 51 50 (.loadN 2 (.t 7)),.y 52 50 (.loadN 2 (.t 11)),.y 53 50 (.w 84 [.t 51,.t 52]),.q 54 50 53] (.cond (.t 54) (.ops [.L 55 2 7,.L 56 2 11,.W 57 85 55 56,.S 2 7 57]) .skip)))) (.ops [.b 58 .add 3 43 1,.m 43 58]))))))) (.seq (.q [.f 59 2 6,.l 60 59,.b 61 .gtr 3 60 0] (.cond (.t 61) (.ops [.f 62 1 1,.l 63 62,.s 64 63,.z 65 (.build [(.i 0),(.i 0)] [(0,1,.k 0),(1,1,.t 64)]),.S 2 7 65]) .skip)) (.ops [.m 66 4,.L 67 2 7,.z 68 (.buildSl 2 1 [(.i 0),(.i 0)] [(0,2,.t 67)]),.a 69 2 66 68,.m 4 69]))))))) (.ops [.b 70 .add 3 17 1,.m 17 70]))))))) (.q [.m 71 4,.m 2 71] .ret)))))
def r_buffers_spans:Nf Tryz.prog 45=some ⟨72,zbd.r,[.tmp 2]⟩:=Aa
def zv9(l:List Int)(s:Int)(L:l.length≤9223372036854775807):Na 152 [.lst (l.map .i) l.length 1,.i s] (.i (Vv (λn=>decide (s=n)) l)) []:=by
 refine Np.val rfl (Nd r_slices_Index_int_int Aa (by simp) ?_);simp[z54];refine Ns (λG K M N=>∃i:Nat,K=[]∧N+i=l.length∧lk G 0=.lst (l.map .i) l.length 1∧lk G 1=.i s∧lk G 7=.i l.length∧lk G 8=.i i∧∀H b,H<i→l[H]?=some b→decide (s=b)=false) (N:=l.length) ⟨0,by simp⟩ ?_;rintro N G K M ⟨i,rfl,O,j,z,A,B,E⟩ P F;by_cases hi:l.length≤i
 ·have I:¬i<l.length:=J
  simp[j,z,A,B,I];rw[zge hi E]
 ·have I:i<l.length:=J
  have C:=Ib I;by_cases D:s=l[i]
  ·simp[j,z,A,B,I];simp[M9 (So (f:=LV.i) C),←D];rw[zs0 C Bc E]
  ·simp[j,z,A,B,I];simp[M9 (So (f:=LV.i) C),B,D];refine⟨J,F _ _ _ ⟨N-1,J,i+1,rfl,J,Au,As,Af,by simp,λH b Q g=>?_⟩⟩;by_cases e:H=i
   ·subst e;rw[C]at g;cases g;simp[D]
   ·exact E H b J g
def zma(l:List Int)(s:Int)(g:l.length≤9223372036854775807):Na 125 [.lst (l.map .i) l.length 1,.i s] (.bool (l.any λn=>decide (s=n))) []:=by
 refine Np.val rfl (Nd r_slices_Contains_int_int Aa N ?_);simp[z44];refine Nb (zv9 l s g) (bors_self _ (by simp[dats,LV.dat];exact Un (λ_=>rfl) l)) ?_;simp;exact zkl _ l
def bo{b:Nat}{v:LV}{n:Nat}{l:List LV}(h:Rw b F v g n l):v=.nilSl∨∃p k,v=.dy p k:=by
 rcases h with ⟨rfl,_⟩|⟨p,k,st,_,rfl,_,_⟩
 ·exact .inl rfl
 ·exact .inr ⟨p,k,rfl⟩
def zix(o:Ko)(v:Int):Na 82 [.agg o.f,.i v] (.bool (ag o v)) []:=by
 refine Np.val rfl (Nd r_buffers_has Aa N ?_);simp[ze2,Ko.f];refine Nb (zma [o.d,o.e,o.a,o.b,o.c] v N) ⟨_,_,rfl,⟨_,_,_,_,rfl,rfl,rfl⟩,bors_self _ rfl⟩ ?_;simp[ag,eq_comm]
def z4p(p:Sp):Na 83 [.agg (Ov p)] (.bool (decide (p.1<0))) []:=by
 refine Np.val rfl (Nd r_buffers_none Aa N ?_);simp[zc5,Ov]
def z67(p q:Sp):Na 84 [.agg (Ov p),.agg (Ov q)] (.bool (og p q)) []:=by
 refine Np.val rfl (Nd r_buffers_pair_int_meets Aa N ?_);by_cases h:p.1≤q.2<;>simp[z4b,Ov,og,h]
def zh0(p q:Sp):Na 85 [.agg (Ov p),.agg (Ov q)] (.agg (Ov (pz p q))) []:=by
 refine Np.val rfl (Nd r_buffers_pair_int_wide Aa N ?_);simp[z4u,Ov,pz]
def zg0{g z:List Ko}(O:V.length≤9223372036854775807)(hc:Ng V g z=true){f:Fr Ko}(hw:f.wf Qv)(P:g=f.flat) :
  Qh 81 [.agg (M3 V g z)] (.lst (Nn (f.tops 0)) (f.tops 0).length 2):=by
 have Q:dats (M3 V g z)=true:=Ai
 refine Sf.mk (by simp[LV.dat,zgg]) (Nd r_buffers_outer Aa (by simp) ?_);have R:(M3 V g z).length=3:=rfl;have S:(M3 V g z).take 3=M3 V g z:=rfl;have T:qi V g z=f.ends 0:=by rw[qi,Ij hc,P];exact zty hw
 have gB:g.length≤4096:=by
  have h:=hc;unfold Ng at h;simp only[H9,Il]at h;exact h.2.1
 have gC:(f.ends 0).length=g.length:=by rw[Fr.ends_len,P,Fr.flat_len]
 simp[zal,R,S];refine Qo (zh2 V g z O) (by simp[dats,LV.dat,Q]) ?_;rw[T];simp;refine Ns (λρ gD gj N=>∃(i:Nat) (r:Fr Ko) (H:List Sp) (v:LV),gD=[]∧N=r.size∧lk ρ 1=.ptr 0 0∧lk ρ 2=v∧lk ρ 3=.lst ((f.ends 0).map .i) (f.ends 0).length 1∧lk ρ 4=.i i∧0<gj.length∧gj[0]?=some (.cells (M3 V g z) 0)∧i≤g.length∧Go.Sv.Left g (f.ends 0) (f.tops 0) i r H∧Rw 1 gj v 2 H.length (Nn H)∧H.length≤i) (N:=f.size)
  ⟨0,f,[],.nilSl,rfl,rfl,by simp,by simp,by simp,by simp,by simp,by simp,J,⟨Bk,by simp,hw,by simp⟩,Rw.nil,by simp⟩ ?_
 rintro N ρ gD gj ⟨i,r,H,v,rfl,rfl,C,I,D,K,hl,E,hi,L,M,hT⟩ Nx F;have A:=L.len hi;cases r with
 |nil =>
  have gg:¬i<g.length:=by simp[Fr.size]at A;omega
  have ht:f.tops 0=H:=by rw[L.tops];simp[Fr.tops]
  simp[C,I,K,E,M3,gg];rw[ht];have hb:=M.bor (zgg H);rcases bo M with rfl|⟨p,k,rfl⟩<;>exact hb
 |op o r =>
  obtain⟨G,U,B⟩:=L.op;have gg:i<g.length:=(H7.1 G).1;have X:(Oi g)[i*7]?=some (.i o.kind):=Ge
  simp[C,I,D,K,E,M3,gg,M9 X,U];refine⟨J,F _ _ _ ⟨r.size,by simp[Fr.size],i+1,r,H,v,rfl,rfl,Ae,Db,Bc,by simp,hl,E,J,B,M,J⟩⟩
 |loop o b e r =>
  obtain⟨G,U,he,B⟩:=L.loop;have gg:i<g.length:=(H7.1 G).1;have X:(Oi g)[i*7]?=some (.i o.kind):=Ge
  have ge:i<(f.ends 0).length:=J
  have qe:=So (f:=LV.i) he;simp only[Fr.size]at A;simp[C,I,D,K,E,M3,gg,M9 X,U,ge,M9 qe];refine Rw.push (m:=1) (x:=Ov ((i:Int),((i+b.size+1:Nat):Int))) M.push_end J (by simp) J rfl λv' G' Y Z hb=>?_
  simp[D,K,ge,M9 qe];refine⟨J,F _ _ _ ⟨r.size,by simp[Fr.size];omega,i+b.size+2,r,H++[((i:Int),((i+b.size+1:Nat):Int))],v',rfl,rfl,Ae,by simp,Bc,Ab,J,?_,J,B,?_,Ab⟩⟩
  ·rw[Z 0 J,M6 hl];exact E
  ·rw[zw8,Im,show Nn [((i:Int),((i+b.size+1:Nat):Int))]=Ov ((i:Int),((i+b.size+1:Nat):Int)) by simp[Nn]];exact Y
def zls{g:Type}:∀(f:Fr g) (i:Nat),(f.tops i).length≤f.size
 |.nil,_=>If _
 |.op _ r,i=>by have:=zls r (i+1);simp[Fr.tops,Fr.size];omega
 |.loop _ b _ r,i=>by have:=zls r (i+b.size+2);simp[Fr.tops,Fr.size];omega
def zsw{g:List Ko}{j:List Sp}{i:Nat}(h:i<V.length):Tv g j i (V.drop i)=V4 g j i (gv V i)::Tv g j (i+1) (V.drop (i+1)):=by
 rw[zh8 h];rfl
def z9o{g X:List Ko}(jg:V.length≤9223372036854775807)(hc:Ng V g X=true){f:Fr Ko}(hw:f.wf Qv)(hf:g=f.flat) :
  Qh 45 [.agg (M3 V g X)] (.lst (Nn (Tv g (f.tops 0) 0 V)) (Tv g (f.tops 0) 0 V).length 2):=by
 have jz:dats (M3 V g X)=true:=Ai
 refine Sf.mk (by simp[LV.dat,zgg]) (Nd r_buffers_spans Aa (by simp) ?_);have jA:(M3 V g X).length=3:=rfl;have jB:(M3 V g X).take 3=M3 V g X:=rfl;have jV:V.length≤256:=by
  have h:=hc;unfold Ng at h;simp only[H9]at h;exact (oh h.1).2
 have jX:g.length≤4096:=by
  have h:=hc;unfold Ng at h;simp only[H9,Il]at h;exact h.2.1
 simp[zbd,jA,jB];refine Qo (zg0 jg hc hw hf) (by simp[dats,LV.dat,jz]) ?_;simp[M3];have jY:(f.tops 0).length≤4096:=by have:=zls f 0;rw[←Fr.flat_len,←hf]at this;omega
 generalize f.tops 0=S at *;refine Ns (λT g9 G N=>∃(i:Nat) (gK:List Sp) (v:LV),g9=[]∧N+i=V.length∧lk T 1=.ptr 0 0∧lk T 3=.lst (Nn S) S.length 2∧lk T 4=v∧lk T 15=.lst (Nr V) V.length 3∧lk T 16=.i V.length∧lk T 17=.i i∧0<G.length∧G[0]?=some (.cells (M3 V g X) 0)∧Rw 1 G v 2 gK.length (Nn gK)∧gK.length=i∧Tv g S 0 V=gK++Tv g S i (V.drop i)) (N:=V.length)
  ⟨0,[],.nilSl,rfl,J,by simp,by simp,by simp,by simp,by simp,by simp,by simp,Cz,Rw.nil,by simp,by simp⟩ ?_
 rintro N T g9 G ⟨i,gK,v,rfl,hN,M,Y,Z,z,A,B,hl,hG,hR,jC,gB⟩ Nx jD;by_cases jU:i<V.length
 case neg =>
  rw[Jo J]at gB;have gB:Tv g S 0 V=gK:=by simpa [Tv] using gB
  simp[Z,z,A,B,jU];rw[gB];have hb:=hR.bor (zgg gK);rcases bo hR with rfl|⟨p,k,rfl⟩<;>exact hb
 have q3:=V9 (Qp jU);have jE:=Ty jU;rw[zsw jU]at gB;have jF:(gv V i).f=[.i (gv V i).limbs,.bool (gv V i).sec,.i (gv V i).mode]:=rfl;have gC:V4 g S i (gv V i)=if 0<(gv V i).mode then (0,(g.length:Int)) else zvm (vt i 0 (-1,-1) g) S:=rfl
 generalize V4 g S i (gv V i)=s0 at *;generalize gv V i=x at *;simp[M,z,A,B,jU,q3,jE,jF,↓M6 hl,hG,M3];refine Ns (λT g9 D N=>∃(U:Nat) (s:Sp) (st:Nat),g9=[]∧N+U=g.length∧lk T 1=.ptr 0 0∧lk T 3=.lst (Nn S) S.length 2∧lk T 4=v∧lk T 5=.i i∧lk T 6=.ptr G.length 0∧lk T 7=.ptr (G.length+1) 0∧lk T 15=.lst (Nr V) V.length 3∧lk T 16=.i V.length∧lk T 17=.i i∧lk T 24=.lst (Oi g) g.length 7∧lk T 25=.i g.length∧lk T 26=.i U ∧
   G.length+1<D.length∧D[0]?=some (.cells (M3 V g X) 0)∧D[G.length]?=some (.cells [.i x.limbs,.bool x.sec,.i x.mode] 1)∧D[G.length+1]?=some (.cells (Ov s) st)∧Rw 1 D v 2 gK.length (Nn gK)∧vt i U s (g.drop U)=vt i 0 (-1,-1) g) (N:=g.length)
  ⟨0,(-1,-1),1,rfl,J,Av,Bo,Ct,by simp,by simp,by simp,As,Af,Ax,Av,by simp,by simp,by simp,by rw[M6 hl];exact hG,by simp,by simp[Ov],hR.push_end,by simp⟩ ?_
 clear M Y Z z A B;rintro N1 T g9 D ⟨U,s,st,rfl,jG,M,Y,Z,h5,h6,O,z,A,B,gD,gE,gF,C,H,hx,P,K,gL⟩ gU Q;have R:0<D.length:=J
 have gg:G.length<D.length:=J
 by_cases g2:U<g.length
 ·have q7:=mc (Vg g2);have jH:=mg g2;rw[zgl g2]at gL;have gV:(go g U).f=[.i (go g U).kind,.i (go g U).d,.i (go g U).e,.i (go g U).a,.i (go g U).b,.i (go g U).c,.u (go g U).imm]:=rfl;generalize go g U=o at *;simp[h5,gD,gE,gF,g2,q7,jH,gV];rw[←gV];refine Nb (zix o i) (bors_self _ (by simp[dats,LV.dat,gV])) ?_;have next:∀j I (s2:Sp) gj,s2=(if ag o i=true then (if s.1<0 then (U:Int) else s.1,(U:Int)) else s)→lk j 1=.ptr 0 0→lk j 3=.lst (Nn S) S.length 2→lk j 4=v→lk j 5=.i i→lk j 6=.ptr G.length 0→lk j 7=.ptr (G.length+1) 0→lk j 15=.lst (Nr V) V.length 3→lk j 16=.i V.length→lk j 17=.i i→lk j 24=.lst (Oi g) g.length 7→lk j 25=.i g.length→lk j 26=.i ((U:Int)+1) →
    G.length+1<I.length→I[0]?=some (.cells (M3 V g X) 0)→I[G.length]?=some (.cells [.i x.limbs,.bool x.sec,.i x.mode] 1)→I[G.length+1]?=some (.cells (Ov s2) gj)→Rw 1 I v 2 gK.length (Nn gK)→gU j [] I:=by
   rintro j I s2 gj rfl a1 a3 a4 a5 a6 a7 gM gO gP jI jK jL b1 b2 b3 b4 b5;exact Q _ _ _ ⟨N1-1,J,U+1,_,gj,rfl,J,a1,a3,a4,a5,a6,a7,gM,gO,gP,jI,jK,by rw[jL];simp,b1,b2,b3,b4,b5,gL⟩
  cases hh:ag o i with
  |false =>
   simp[gF];refine⟨J,next _ _ s st (by simp[hh]) Av Bo Ct By Bu Cd As Af Ax Fv (by simp[gE]) (by simp) Ab F2 Fl C8 K.push_end⟩
  |true =>
   have E:Ov s=[.i s.1,.i s.2]:=rfl;simp[O,↓M6 C,P,E];rw[←E];refine Nb (z4p s) (bors_self _ rfl) ?_;have gQ:∀y L,((D++[y]).set (G.length+1) L)[G.length+1]?=some L:=λy L=>Ia Ab
   have jZ:∀y L w,(((D++[y]).set (G.length+1) L).set (G.length+1) w)[G.length+1]?=some w:=λy L w=>Ia Ab
   have k0:∀y L,((D++[y]).set (G.length+1) L)[0]?=some (.cells (M3 V g X) 0):=λy L=>by rw[H8 J,M6 R];exact H
   have k1:∀y L,((D++[y]).set (G.length+1) L)[G.length]?=some (.cells [.i x.limbs,.bool x.sec,.i x.mode] 1):=λy L=>by rw[H8 J,M6 gg];exact hx
   have k2:∀y L,Rw 1 ((D++[y]).set (G.length+1) L) v 2 gK.length (Nn gK):=λy L=>K.push_end.set_cells (q:=G.length+1) (st:=st) (c:=Ov s) C8
   by_cases n0:s.1<0
   ·simp[O,gF,↓M6 C,P,E,n0,↓gQ];refine⟨J,next _ _ ((U:Int),(U:Int)) (st+1+1) (by simp[hh,n0]) Av Bo Ct By Bu Cd As Af Ax Fv (by simp[gE]) (by simp) Ab (k0 _ _) (k1 _ _) (gQ _ _) (k2 _ _)⟩
   ·simp[O,gF,↓M6 C,P,E,n0];refine⟨J,next _ _ (s.1,(U:Int)) (st+1) (by simp[hh,n0]) Av Bo Ct By Bu Cd As Af Ax Fv (by simp[gE]) (by simp) Ab (k0 _ _) (k1 _ _) (gQ _ _) (k2 _ _)⟩
 have jM:s=vt i 0 (-1,-1) g:=by
  rw[Jo J]at gL;simpa [vt] using gL
 rw[←jM]at gC;simp[Y,gD,gE,gF,g2];clear Q gL;refine Ns (λT g9 D N=>∃(U:Nat) (F:Sp) (st:Nat),g9=[]∧N+U=S.length∧lk T 1=.ptr 0 0∧lk T 3=.lst (Nn S) S.length 2∧lk T 4=v∧lk T 6=.ptr G.length 0∧lk T 7=.ptr (G.length+1) 0∧lk T 15=.lst (Nr V) V.length 3∧lk T 16=.i V.length∧lk T 17=.i i∧lk T 41=.lst (Nn S) S.length 2∧lk T 42=.i S.length∧lk T 43=.i U ∧
   G.length+1<D.length∧D[0]?=some (.cells (M3 V g X) 0)∧D[G.length]?=some (.cells [.i x.limbs,.bool x.sec,.i x.mode] 1)∧D[G.length+1]?=some (.cells (Ov F) st)∧Rw 1 D v 2 gK.length (Nn gK)∧zvm F (S.drop U)=zvm s S) (N:=S.length)
  ⟨0,s,st,rfl,J,Av,Bo,Ct,Bu,Cd,As,Af,Ax,by simp,by simp,by simp,C,H,hx,P,K,by simp⟩ ?_
 clear M Y Z h5 h6 O z A B gD gE gF C H hx P K R gg;rintro N1 T g9 D ⟨U,F,st,rfl,jG,M,Y,Z,h6,O,z,A,B,gG,gH,gI,C,H,hx,P,K,gR⟩ gU Q;have R:0<D.length:=J
 have gg:G.length<D.length:=J
 have E:Ov F=[.i F.1,.i F.2]:=rfl;have gQ:∀y L,((D++[y]).set (G.length+1) L)[G.length+1]?=some L:=λy L=>Ia Ab
 have k0:∀y L,((D++[y]).set (G.length+1) L)[0]?=some (.cells (M3 V g X) 0):=λy L=>by rw[H8 J,M6 R];exact H
 have k1:∀y L,((D++[y]).set (G.length+1) L)[G.length]?=some (.cells [.i x.limbs,.bool x.sec,.i x.mode] 1):=λy L=>by rw[H8 J,M6 gg];exact hx
 have k2:∀y L,Rw 1 ((D++[y]).set (G.length+1) L) v 2 gK.length (Nn gK):=λy L=>K.push_end.set_cells (q:=G.length+1) (st:=st) (c:=Ov F) C8
 by_cases g3:U<S.length
 ·have q2:=zwt (Xn g3);have jO:=c9 g3;rw[jc g3]at gR;have gX:Ov (gs S U)=[.i (gs S U).1,.i (gs S U).2]:=rfl;generalize gs S U=p at *;have next:∀j I (s2:Sp) gj,s2=yw F p→lk j 1=.ptr 0 0→lk j 3=.lst (Nn S) S.length 2→lk j 4=v→lk j 6=.ptr G.length 0→lk j 7=.ptr (G.length+1) 0→lk j 15=.lst (Nr V) V.length 3→lk j 16=.i V.length→lk j 17=.i i→lk j 41=.lst (Nn S) S.length 2→lk j 42=.i S.length→lk j 43=.i ((U:Int)+1) →
    G.length+1<I.length→I[0]?=some (.cells (M3 V g X) 0)→I[G.length]?=some (.cells [.i x.limbs,.bool x.sec,.i x.mode] 1)→I[G.length+1]?=some (.cells (Ov s2) gj)→Rw 1 I v 2 gK.length (Nn gK)→gU j [] I:=by
   rintro j I s2 gj rfl a1 a3 a4 a6 a7 gM gO gP jP jQ jR b1 b2 b3 b4 b5;exact Q _ _ _ ⟨N1-1,J,U+1,_,gj,rfl,J,a1,a3,a4,a6,a7,gM,gO,gP,jP,jQ,by rw[jR];simp,b1,b2,b3,b4,b5,gR⟩
  simp[O,gG,gH,gI,g3,q2,jO,↓M6 C,P,E];rw[←E];refine Nb (z4p F) (bors_self _ rfl) ?_;have gZ:Ov (pz F p)=[.i (pz F p).1,.i (pz F p).2]:=rfl;by_cases n0:F.1<0
  ·simp[n0,gI];refine⟨J,next _ _ F st (by simp[yw,n0]) Av Bo Ct Bu Cd As Af Ax (by simp[gG]) Fk (by simp) Ab F2 Fl C8 K.push_end⟩
  ·simp[n0,O,↓M6 C,P,E];rw[←E,←gX];refine Nb (z67 F p) (bors_self _ rfl) ?_;cases hm:og F p with
   |false =>
    simp[gI];refine⟨J,next _ _ F st (by simp[yw,n0,hm]) Av Bo Ct Bu Cd As Af Ax (by simp[gG]) Fk (by simp) Ab F2 Fl C8 K.push_end⟩
   |true =>
    simp[O,↓M6 C,P,E,gX];rw[←E,←gX];refine Nb (zh0 F p) (bors_self _ rfl) ?_;simp[O,gI,↓M6 C,P,E,gZ];rw[←gZ];refine⟨J,next _ _ (pz F p) (st+1) (by simp[yw,n0,hm]) Av Bo Ct Bu Cd As Af Ax (by simp[gG]) Fk (by simp) Ab (k0 _ _) (k1 _ _) (gQ _ _) (k2 _ _)⟩
 have jS:F=zvm s S:=by
  rw[Jo J]at gR;exact gR
 rw[←jS]at gC;clear Q gR;have g8:∀j I v2,lk j 1=.ptr 0 0→lk j 3=.lst (Nn S) S.length 2→lk j 4=v2→lk j 15=.lst (Nr V) V.length 3→lk j 16=.i V.length→lk j 17=.i ((i:Int)+1)→0<I.length→I[0]?=some (.cells (M3 V g X) 0)→Rw 1 I v2 2 (gK.length+1) (Nn gK++Ov s0)→Nx j [] I:=by
  intro j I v2 a1 a3 a4 gM gO gP b1 b2 b3;refine jD _ _ _ ⟨N-1,J,i+1,gK++[s0],v2,rfl,J,a1,a3,a4,gM,gO,by rw[gP];simp,b1,b2,?_,by simp[jC],Do⟩;rw[zw8,Im,show Nn [s0]=Ov s0 by simp[Nn]];exact b3
 by_cases m0:0<x.mode
 ·rw[Ij m0]at gC;have jT:∀L,(D.set (G.length+1) L)[G.length+1]?=some L:=λL=>Ia J
  have k3:∀L,(D.set (G.length+1) L)[0]?=some (.cells (M3 V g X) 0):=λL=>by rw[H8 J];exact H
  have k4:∀L,Rw 1 (D.set (G.length+1) L) v 2 gK.length (Nn gK):=λL=>K.set_cells P
  have gS:Ov s0=[.i 0,.i g.length]:=by rw[gC];rfl
  simp[M,Z,h6,O,gG,gH,gI,g3,hx,m0,H,M3,P,E,↓jT];refine Rw.push (m:=1) (x:=[.i 0,.i g.length]) (k4 _).push_end J (by simp) J rfl λv' I gT gY hb=>?_
  rw[←gS]at gT;simp[B];refine⟨J,g8 _ _ v' Av Bo (by simp) As Af (by simp) J ?_ gT⟩;rw[gY 0 J,M6 Ab,k3]
 ·rw[Ii m0]at gC;have gS:Ov s0=[.i F.1,.i F.2]:=by rw[gC];rfl
  simp[M,Z,h6,O,gG,gH,gI,g3,hx,m0,P,E];refine Rw.push (m:=1) (x:=[.i F.1,.i F.2]) K.push_end J (by simp) J rfl λv' I gT gY hb=>?_
  rw[←gS]at gT;simp[B];refine⟨J,g8 _ _ v' Av Bo (by simp) As Af (by simp) J ?_ gT⟩;rw[gY 0 J,M6 R];exact H
def zby:LC:=(.q [.x 1 0,.F 2] (.q [.f 3 2 1,.l 4 3,.b 5 .eql 3 4 1,.m 6 5,.nf 7 6 2 1,.nl 8 6 7,.nb 9 6 .eql 3 8 2,.p 10 6 9,.m 2 10] .ret))
def r_expand_given:Nf Tryz.prog 106=some ⟨11,zby.r,[.tmp 2]⟩:=Aa
def zb2:LC:=(.q [.z 4 (.alloc [.nilSl,.nilSl,.nilSl])] (.q [.m 8 0,.z 9 (.build [.nilSl,.nilSl,.nilSl] [(0,1,.t 8)]),.z 5 (.alloc [.nilSl,.nilSl,.nilSl]),.S 3 5 9] (.seq (.q [.m 10 0,.s 11 10,.K 12 0] (.block 0 (.loop (.q [.c 13 .lss 3 12 11] (.seq (.cond (.t 13) .skip (.exit 0)) (.seq (.block 1 (.q [.m 14 12,.I 15 3 10 12,.L 16 3 15,.z 7 (.alloc [(.i 0),(.bool false),(.i 0)]),.m 6 14,.S 3 7 16] (.q [.L 17 3 7,.w 18 106 17,.z 19 (.un .not (.t 18))] (.cond (.t 19) (.ops [.f 20 1 5,.l 21 20,.m 22 6,.z 23 (.build [(.i 0),(.i 0),(.i 0),(.i 0),(.i 0),(.i 0),(.u 0)] [(0,1,.k 1),(1,1,.t 22),(2,1,.k (-1)),(3,1,.k (-1)),(4,1,.k (-1)),(5,1,.k (-1))]),.z 24 (.buildSl 7 1 [(.i 0),(.i 0),(.i 0),(.i 0),(.i 0),(.i 0),(.u 0)] [(0,7,.t 23)]),.a 25 7 21 24,.f 26 1 5,.S 1 26 25]) .skip)))) (.ops [.b 27 .add 3 12 1,.m 12 27]))))))) (.q [.f 28 1 5,.l 29 28,.m 30 1,.a 31 7 29 30,.f 32 1 5,.S 1 32 31] (.q [.L 33 3 5,.S 3 4 33] .ret)))))
def r_expand_kernel:Nf Tryz.prog 103=some ⟨34,zb2.r,[.cellN 4 3]⟩:=Aa
def z76:LC:=(.q [.x 3 1,.F 4] (.seq (.q [.f 5 0 3,.l 6 5,.b 7 .eql 3 6 15,.m 8 7,.nf 9 8 0 3,.nl 10 8 9,.nb 11 8 .eql 3 10 16,.p 12 8 11] (.cond (.t 12) (.q [.F 4] .ret) .skip)) (.q [.m 13 0,.L 14 7 3,.z 15 (.buildSl 7 1 [(.i 0),(.i 0),(.i 0),(.i 0),(.i 0),(.i 0),(.u 0)] [(0,7,.t 14)]),.W 16 103 13 15,.w 17 43 16,.b 18 .eql 35 17 0,.m 4 18] .ret)))
def r_expand_May:Nf Tryz.prog 134=some ⟨19,z76.r,[.tmp 4]⟩:=Aa
def za3:LC:=(.q [.F 2] (.q [.m 3 0,.b 4 .geq 3 3 1,.m 5 4,.my 6 5 0,.y 7 5 (.bin .leq true 3 (.t 6) (.k 11)),.q 8 5 7,.m 9 8,.mn 10 9 0,.nb 11 9 .eql 3 10 14,.p 12 9 11,.m 2 12] .ret))
def r_expand_Has:Nf Tryz.prog 133=some ⟨13,za3.r,[.tmp 2]⟩:=Aa
def z6u:LC:=(.q [.K 2 0] (.q [.m 4 0,.m 5 0,.b 6 .quo 3 5 2,.c 7 .sub 3 4 6,.m 3 7] (.q [.m 8 0,.z 9 (.bin .mul true 3 (.k 2) (.t 8)),.m 10 3,.b 11 .add 3 10 1,.z 12 (.bin .mul true 3 (.k 4) (.t 11)),.c 13 .add 3 9 12,.m 2 13] .ret)))
def r_expand_halvesWork:Nf Tryz.prog 135=some ⟨14,z6u.r,[.tmp 2]⟩:=Aa
def zdu:LC:=(.q [.x 3 1,.K 4 0] (.seq (.q [.f 5 0 3,.l 6 5,.w 7 133 6,.z 8 (.un .not (.t 7)),.m 9 8,.mn 10 9 0,.n 11 9 (.loadN 7 (.t 3)),.n 12 9 (.w 134 [.t 10,.t 11]),.n 13 9 (.un .not (.t 12)),.p 14 9 13] (.cond (.t 14) (.q [.K 4 0] .ret) .skip)) (.seq (.q [.f 15 0 3,.l 16 15] (.block 0 (.q [.b 18 .eql 3 16 5,.m 17 18] (.cond (.t 17) (.seq (.draw [(.m 19 0,[]),(.f 20 3 3,[]),(.l 21 20,[]),(.I 22 3 19 21,[]),(.f 23 0 22,[]),(.l 24 23,[]),(.m 25 0,[]),(.f 26 4 3,[]),(.l 27 26,[]),(.I 28 3 25 27,[]),(.f 29 0 28,[]),(.l 30 29,[]),(.c 31 .add 3 24 30,[]),(.m 4 31,[])]) .ret) (.q [.b 33 .eql 3 16 6,.m 32 33] (.cond (.t 32) (.q [.m 34 0,.f 35 3 3,.l 36 35,.I 37 3 34 36,.f 38 0 37,.l 39 38,.w 40 135 39,.m 4 40] .ret) (.seq (.q [.b 42 .eql 3 16 9,.m 41 42] (.cond (.t 41) .skip (.q [.b 43 .eql 3 16 10,.m 41 43] (.cond (.t 41) .skip (.ops [.b 44 .eql 3 16 11,.m 41 44]))))) (.cond (.t 41) (.q [.m 45 0,.f 46 5 3,.l 47 46,.I 48 3 45 47,.f 49 0 48,.l 50 49,.b 51 .add 3 50 1,.z 52 (.bin .mul true 3 (.k 2) (.t 51)),.m 4 52] .ret) .skip)))))))) (.q [.K 4 1] .ret))))
def r_expand_Work:Nf Tryz.prog 96=some ⟨53,zdu.r,[.tmp 4]⟩:=Aa
def z7z:LC:=(.q [.K 2 0] (.seq (.q [.m 3 0,.b 4 .lss 3 3 1] (.cond (.t 4) (.q [.K 2 0] .ret) .skip)) (.q [.m 5 0,.b 6 .add 3 5 2,.m 2 6] .ret)))
def r_montgomery_Need:Nf Tryz.prog 136=some ⟨7,z7z.r,[.tmp 2]⟩:=Aa
def z5d:LC:=(.q [.x 3 1,.K 4 0] (.seq (.q [.f 5 0 3,.l 6 5,.b 7 .neq 3 6 12,.m 8 7,.mn 9 8 0,.n 10 8 (.loadN 7 (.t 3)),.n 11 8 (.w 134 [.t 9,.t 10]),.n 12 8 (.un .not (.t 11)),.p 13 8 12] (.cond (.t 13) (.q [.K 4 0] .ret) .skip)) (.q [.m 14 0,.f 15 5 3,.l 16 15,.I 17 3 14 16,.f 18 0 17,.l 19 18,.w 20 136 19,.m 4 20] .ret)))
def r_montgomery_Work:Nf Tryz.prog 97=some ⟨21,z5d.r,[.tmp 4]⟩:=Aa
def za9:LC:=(.q [.x 3 1,.K 4 0] (.seq (.q [.f 6 0 3,.l 7 6,.b 8 .neq 3 7 13,.m 9 8,.mn 10 9 0,.n 11 9 (.loadN 7 (.t 3)),.n 12 9 (.w 134 [.t 10,.t 11]),.n 13 9 (.un .not (.t 12)),.p 14 9 13] (.cond (.t 14) (.q [.K 4 0] .ret) .skip)) (.q [.m 15 0,.f 16 5 3,.l 17 16,.I 18 3 15 17,.f 19 0 18,.l 20 19,.m 5 20] (.seq (.draw [(.f 21 6 3,[]),(.l 22 21,[]),(.z 23 (.bin .shl true 3 (.k 1) (.t 22)),[]),(.z 24 (.bin .add true 3 (.k 3) (.t 23)),[]),(.m 25 5,[]),(.c 26 .mul 3 24 25,[]),(.m 27 0,[]),(.f 28 4 3,[]),(.l 29 28,[]),(.I 30 3 27 29,[]),(.f 31 0 30,[]),(.l 32 31,[]),(.c 33 .add 3 26 32,[]),(.b 34 .add 3 33 1,[]),(.m 35 5,[]),(.w 36 136 35,[(.l 32 31,false),(.l 29 28,false),(.l 22 21,false)]),(.c 37 .add 3 34 36,[]),(.m 4 37,[])]) .ret))))
def r_power_Work:Nf Tryz.prog 98=some ⟨38,za9.r,[.tmp 4]⟩:=Aa
def zc1:LC:=(.q [.x 3 1,.K 4 0] (.seq (.draw [(.m 6 0,[]),(.L 7 7 3,[]),(.m 9 0,[]),(.L 10 7 3,[]),(.m 12 0,[]),(.L 13 7 3,[]),(.W 8 96 6 7,[(.L 13 7 3,false),(.L 10 7 3,false)]),(.W 11 97 9 10,[(.L 13 7 3,false)]),(.W 14 98 12 13,[]),(.z 15 (.max3 true (.t 8) (.t 11) (.t 14)),[]),(.m 5 15,[])]) (.seq (.q [.m 16 5,.b 17 .gtr 3 16 32768] (.cond (.t 17) (.q [.K 4 0] .ret) .skip)) (.q [.m 18 5,.m 4 18] .ret))))
def r_buffers_Work:Nf Tryz.prog 52=some ⟨19,zc1.r,[.tmp 4]⟩:=Aa
def z9z(v:Vr):Na 106 [.agg v.f] (.bool (Ob v)) []:=by
 refine Np.val rfl (Nd r_expand_given Aa N ?_);by_cases g:v.mode=1<;>simp[zby,Vr.f,Ob,g]
def zpr{i:Nat}(h:i<V.length):Tu i (V.drop i)=(if Ob (gv V i)=true then [] else [V0 1 i])++Tu (i+1) (V.drop (i+1)):=by
 rw[zh8 h,Tu];split<;>rfl
def zdq(l:List LV):(LV.agg l).cells=some l:=rfl
def zy0(a b:List Ko):Oi (a++b)=Oi a++Oi b:=by simp[Oi]
def z9k(g:List Vr)(z:List Ko)(hl:g.length≤1000000)(hn:z.length≤1000000):Qh 103 [.lst (Nr g) g.length 3,.lst (Oi z) z.length 7] (.agg (M3 g (Tu 0 g++z) [])):=by
 refine Sf.mk (by simp[M3,LV.dat,dats,Ph,R7]) (Nd r_expand_kernel Aa (by simp) ?_);simp[zb2];refine Ns (λT gC gg N=>∃(i:Nat) (S:List Ko) (v:LV) (st:Nat),gC=[]∧N+i=g.length∧lk T 1=.lst (Oi z) z.length 7∧lk T 4=.ptr 0 0∧lk T 5=.ptr 1 0∧lk T 10=.lst (Nr g) g.length 3∧lk T 11=.i g.length∧lk T 12=.i i ∧
   1<gg.length∧gg[0]?=some (.cells [.nilSl,.nilSl,.nilSl] 0)∧gg[1]?=some (.cells [.lst (Nr g) g.length 3,v,.nilSl] st)∧Rw 2 gg v 7 S.length (Oi S)∧S.length≤i∧Tu 0 g=S++Tu i (g.drop i)) (N:=g.length)
  ⟨0,[],.nilSl,1,rfl,J,by simp,by simp,by simp,by simp,by simp,by simp,by simp,by simp,by simp,Rw.nil,by simp,by simp⟩ ?_
 rintro N T gC gg ⟨i,S,v,st,rfl,hN,U,V,M,F,G,H,K,L,A,X,gB,j⟩ Nx O;have P:0<gg.length:=J
 by_cases gj:i<g.length
 ·have hg:=Qp gj;have q3:=V9 hg;have Y:=Ty gj;have hf:(gv g i).f=[.i (gv g i).limbs,.bool (gv g i).sec,.i (gv g i).mode]:=rfl;have Q:=zpr gj;rw[Q]at j;simp[F,G,H,gj,q3,Y,hf];rw[←hf];refine Nb (z9z (gv g i)) (bors_self _ rfl) ?_;cases R:Ob (gv g i) with
  |true =>
   rw[R]at j;simp[H];refine⟨J,O _ _ _ ⟨N-1,J,i+1,S,v,st,rfl,J,Ck,Ch,Av,Ci,B8,by simp,Ab,by rw[M6 P];exact L,by rw[M6 K];exact A,X.push_end,J,B0⟩⟩
  |false =>
   rw[R]at j;simp[M,↓M6 K,A];refine Rw.push (m:=1) (x:=(V0 1 i).f) X.push_end J (by simp) J rfl λv' I B C hb=>?_
   have D:I[1]?=some (.cells [.lst (Nr g) g.length 3,v,.nilSl] st):=by rw[C 1 J,M6 K];exact A
   have E:I[0]?=some (.cells [.nilSl,.nilSl,.nilSl] 0):=by rw[C 0 J,M6 P];exact L
   have Z:=B.cells;simp[-LV.cells,M,H,D,Z];refine⟨J,O _ _ _ ⟨N-1,J,i+1,S++[V0 1 i],v',st+1,rfl,J,Ck,Ch,Av,Ci,B8,by simp,Ab,?_,?_,?_,Ab,B0⟩⟩
   ·rw[H8 J];exact E
   ·rw[Ia J]
   ·rw[zy0,Im,show Oi [V0 1 (i:Int)]=(V0 1 i).f by simp[Oi]];exact B.set_lt J
 ·rw[Jo J]at j;have j:Tu 0 g=S:=by simpa [Tu] using j
  simp[U,M,F,G,H,gj,A];refine⟨J,?_⟩;refine Rw.push (m:=z.length) X J J J (kw z) λv' I B C hb=>?_
  have D:I[1]?=some (.cells [.lst (Nr g) g.length 3,v,.nilSl] st):=by rw[C 1 J];exact A
  have E:I[0]?=some (.cells [.nilSl,.nilSl,.nilSl] 0):=by rw[C 0 J];exact L
  have Z:=B.cells;have s1:∀x,(I.set 1 x)[1]?=some x:=λx=>Ia J
  have s0:∀x,(I.set 1 x)[0]?=some (.cells [.nilSl,.nilSl,.nilSl] 0):=λx=>by rw[H8 J];exact E
  have s2:∀x y,((I.set 1 x).set 0 y)[0]?=some y:=λx y=>Ia (by rw[Jz];omega)
  simp[-LV.cells,V,M,↓D,↓s1,↓s0,↓s2,Z,zdq];refine⟨_,_,rfl,⟨rfl,Ph g⟩,_,_,rfl,?_,_,rfl,.inr ⟨7,rfl⟩⟩;rw[j,zy0,Im];exact ((B.set_lt J).set_lt J).bor (dats_app (R7 _) (R7 _))
def im(o:Ko):o.f=Oi [o]:=by simp[Oi]
def z93(z:List Vr)(o:Ko)(B:z.length≤1000000):Na 134 [.lst (Nr z) z.length 3,.agg o.f] (.bool (Rv z o)) []:=by
 refine Np.val rfl (Nd r_expand_May Aa N ?_);have A:o.f=[.i o.kind,.i o.d,.i o.e,.i o.a,.i o.b,.i o.c,.u o.imm]:=rfl;by_cases g:o.kind=15
 ·simp[z76,A,g];simp[Rv,tu,g]
 by_cases j:o.kind=16
 ·simp[z76,A,g,j];simp[Rv,tu,j]
 simp[z76,A,g,j];refine Zv (a:=[.lst (Nr z) z.length 3]) (b:=[]) rfl ?_;rw[←A,im];refine Qo (z9k z [o] B N) (by simp[dats,LV.dat,Ph,R7]) ?_;simp;refine Nb (ny z _ [] J) (bors_self _ Ai) ?_;simp[Rv,tu,g,j,N3]
def zlk(k:Int):Na 133 [.i k] (.bool (Th k)) []:=by
 refine Np.val rfl (Nd r_expand_Has Aa N ?_);by_cases g:1≤k
 ·by_cases j:k≤11<;>simp[za3,Th,g,j]
 ·simp[za3,Th,g]
def zwp(n:Int)(h:0≤n∧n≤512):Na 135 [.i n] (.i (zqk n)) []:=by
 refine Np.val rfl (Nd r_expand_halvesWork Aa N ?_);have g:n.tdiv 2=n/2:=Int.tdiv_eq_ediv_of_nonneg h.1;simp[z6u,zqk,g];omega
def ziu(G:List Vr)(o:Ko)(P:G.length≤1000000):Na 96 [.lst (Nr G) G.length 3,.agg o.f] (.i (bi G o)) []:=by
 refine Np.val rfl (Nd r_expand_Work Aa N ?_);have B:o.f=[.i o.kind,.i o.d,.i o.e,.i o.a,.i o.b,.i o.c,.u o.imm]:=rfl;simp[zdu,B];refine Nb (zlk o.kind) N ?_;cases L:Th o.kind with
 |false=>simp[bi,L]
 |true =>
 simp[B];rw[←B];refine Nb (z93 G o P) (bors_self _ (by simp[dats,LV.dat,Ph,B])) ?_;cases hm:Rv G o with
 |false=>simp[bi,L,hm]
 |true =>
 by_cases H:o.kind=5
 ·obtain⟨C,D,_⟩:=rp (s:=13) hm (by simp[Ow,H]);obtain⟨a,g,E,j,F⟩:=kn C (zxv D Ad);obtain⟨b,M,Q,O,R⟩:=kn C (zy7 D Ad);simp[B,H,g,M,E,Q];simp[g]at j F;simp[M]at O R;simp[M9 j,M9 O]
  repeat (refine⟨J,?_⟩)
  simp[bi,hm,H,show Th 5=true from rfl,g,M]
 by_cases I:o.kind=6
 ·obtain⟨C,D,_⟩:=rp (s:=13) hm (by simp[Ow,I]);obtain⟨a,g,E,j,F⟩:=kn C (zxv D Ad);simp[B,I,g,E];simp[g]at j F;simp[M9 j];refine Nb (zwp (Ql G (a:Int)) J) N ?_;simp[bi,hm,I,show Th 6=true from rfl,g]
 by_cases K:o.kind=9
 ·obtain⟨C,D,_⟩:=rp (s:=21) hm (by simp[Ow,K]);obtain⟨a,g,E,j,F⟩:=kn C (zhk D Ad);simp[B,K,g,E];simp[g]at j F;simp[M9 j]
  repeat (refine⟨J,?_⟩)
  simp[bi,hm,K,show Th 9=true from rfl,g]
 by_cases z:o.kind=10
 ·obtain⟨C,D,_⟩:=rp (s:=29) hm (by simp[Ow,z]);obtain⟨a,g,E,j,F⟩:=kn C (zhk D Ad);simp[B,z,g,E];simp[g]at j F;simp[M9 j]
  repeat (refine⟨J,?_⟩)
  simp[bi,hm,z,show Th 10=true from rfl,g]
 by_cases A:o.kind=11
 ·obtain⟨C,D,_⟩:=rp (s:=29) hm (by simp[Ow,A]);obtain⟨a,g,E,j,F⟩:=kn C (zhk D Ad);simp[B,A,g,E];simp[g]at j F;simp[M9 j]
  repeat (refine⟨J,?_⟩)
  simp[bi,hm,A,show Th 11=true from rfl,g]
 simp[B,H,I,K,z,A];simp[bi,L,hm,H,I,K,z,A]
def z79(n:Int)(h:1≤n∧n≤512):Na 136 [.i n] (.i (n+2)) []:=by
 refine Np.val rfl (Nd r_montgomery_Need Aa N ?_);have g:¬n<1:=J
 simp[z7z,g];omega
def zdz(g:List Vr)(o:Ko)(E:g.length≤1000000):Na 97 [.lst (Nr g) g.length 3,.agg o.f] (.i (wo g o)) []:=by
 refine Np.val rfl (Nd r_montgomery_Work Aa N ?_);have z:o.f=[.i o.kind,.i o.d,.i o.e,.i o.a,.i o.b,.i o.c,.u o.imm]:=rfl;by_cases j:o.kind=12
 case neg=>simp[z5d,z,j,wo]
 simp[z5d,z,j];have B:=z93 g o E;rw[z,j]at B;refine Nb B (bors_self _ Bv) ?_;cases hm:Rv g o with
 |false=>simp[wo,hm]
 |true =>
 obtain⟨F,G,_⟩:=rp (s:=29) hm (by simp[Ow,j]);obtain⟨a,A,H,C,D⟩:=kn F (zhk G Ad);simp[A,H];simp[A]at C D;simp[M9 C];refine Nb (z79 (Ql g (a:Int)) D) N ?_;simp[wo,hm,j,A]
def zl8(g:List Vr)(o:Ko)(L:g.length≤1000000):Na 98 [.lst (Nr g) g.length 3,.agg o.f] (.i (wu g o)) []:=by
 refine Np.val rfl (Nd r_power_Work Aa N ?_);have z:o.f=[.i o.kind,.i o.d,.i o.e,.i o.a,.i o.b,.i o.c,.u o.imm]:=rfl;by_cases j:o.kind=13
 case neg=>simp[za9,z,j,wu]
 simp[za9,z,j];have D:=z93 g o L;rw[z,j]at D;refine Nb D (bors_self _ Bv) ?_;cases hm:Rv g o with
 |false=>simp[wu,hm]
 |true =>
 obtain⟨E,F,G,_⟩:=rp (s:=29) hm (by simp[Ow,j]);obtain⟨a,A,M,H,B⟩:=kn E (zhk F Ad);obtain⟨b,C,I,K,O⟩:=kn E (zy7 F Ad);simp[Qm,j]at G;simp[A,C,M,I];simp[A]at H B;simp[C]at K O;simp[M9 H,M9 K];have P:o.imm.toNat≤6:=by have:=G.2;rw[UInt64.le_iff_toNat_le]at this;exact this
 have hw:∀n,n≤6→(1:Int)≤2^n∧(2:Int)^n≤64:=Ad
 obtain⟨Q,R⟩:=hw _ P;have m1:(0:Int)≤(3+2^o.imm.toNat)*Ql g a:=Int.mul_nonneg J J;have S:(3+2^o.imm.toNat)*Ql g a≤67*512:=Int.mul_le_mul J B.2 J J;refine⟨J,J,J,J,I,J,J,?_⟩;refine Nb (z79 (Ql g (a:Int)) B) N ?_;simp
 repeat (refine⟨J,?_⟩)
 simp[wu,hm,j,A,C]
def W6(g:List Vr)(o:Ko):Int:=if 32768<max (bi g o) (max (wo g o) (wu g o)) then 0 else max (bi g o) (max (wo g o) (wu g o))
def zav(g:List Vr)(o:Ko)(j:g.length≤1000000):Na 52 [.lst (Nr g) g.length 3,.agg o.f] (.i (W6 g o)) []:=by
 refine Np.val rfl (Nd r_buffers_Work Aa N ?_);have z:o.f=[.i o.kind,.i o.d,.i o.e,.i o.a,.i o.b,.i o.c,.u o.imm]:=rfl;have A:∀{B:M4},bors B [.lst (Nr g) g.length 3,.agg o.f] [.lst (Nr g) g.length 3,.agg o.f]:=bors_self _ Eh;simp[zc1,z];rw[←z];refine Nb (ziu g o j) A ?_;simp;refine Nb (zdz g o j) A ?_;simp;refine Nb (zl8 g o j) A ?_;simp[W6];omega
def z29:LC:=(.q [.K 4 0] (.seq (.q [.m 6 0,.s 7 6,.K 8 0] (.block 0 (.loop (.q [.c 9 .lss 3 8 7] (.seq (.cond (.t 9) .skip (.exit 0)) (.seq (.block 1 (.q [.m 10 8,.m 5 10] (.q [.m 11 1,.m 12 0,.m 13 5,.I 14 3 12 13,.L 15 3 14,.z 16 (.callV (.t 11) [.t 15])] (.cond (.t 16) (.q [.m 17 5,.m 4 17] .ret) .skip)))) (.ops [.b 18 .add 3 8 1,.m 8 18]))))))) (.q [.K 4 (-1)] .ret)))
def r_slices_IndexFunc_api_Buf_api_Buf:Nf Tryz.prog 174=some ⟨19,z29.r,[.tmp 4]⟩:=Aa
def z1z:LC:=(.q [.F 4] (.q [.m 5 0,.m 6 1,.W 7 174 5 6,.b 8 .geq 3 7 0,.m 4 8] .ret))
def r_slices_ContainsFunc_api_Buf_api_Buf:Nf Tryz.prog 158=some ⟨9,z1z.r,[.tmp 4]⟩:=Aa
def zct:LC:=(.q [.x 1 0,.K 2 0] (.seq (.q [.f 3 0 1,.l 4 3,.b 5 .gtr 3 4 64,.m 6 5,.nf 7 6 1 1,.nl 8 6 7,.n 9 6 (.lenSl (.t 8)),.nb 10 6 .gtr 3 9 32,.p 11 6 10,.m 12 11,.nf 13 12 2 1,.nl 14 12 13,.n 15 12 (.lenSl (.t 14)),.nb 16 12 .gtr 3 15 65536,.p 17 12 16] (.cond (.t 17) (.q [.K 2 3] .ret) .skip)) (.seq (.q [.f 18 1 1,.l 19 18,.z 20 (.w 158 [.t 19,(.c (.fn (.func 159) [] []))])] (.cond (.t 20) (.q [.K 2 3] .ret) .skip)) (.seq (.q [.f 21 0 1,.l 22 21,.b 23 .lss 3 22 0,.m 24 23,.nf 25 24 1 1,.nl 26 24 25,.n 27 24 (.w 158 [.t 26,(.c (.fn (.func 160) [] []))]),.p 28 24 27] (.cond (.t 28) (.q [.K 2 2] .ret) .skip)) (.q [.K 2 0] .ret)))))
def r_limb_head:Nf Tryz.prog 143=some ⟨29,zct.r,[.tmp 2]⟩:=Aa
def zdv:LC:=(.q [.x 1 0,.F 2] (.q [.f 3 0 1,.l 4 3,.b 5 .gtr 3 4 65536,.m 2 5] .ret))
def r_limb_head_1:Nf Tryz.prog 159=some ⟨6,zdv.r,[.tmp 2]⟩:=Aa
def z6i:LC:=(.q [.x 1 0,.F 2] (.q [.f 3 0 1,.l 4 3,.b 5 .lss 3 4 1,.m 6 5,.nf 7 6 1 1,.nl 8 6 7,.nb 9 6 .lss 3 8 1,.p 10 6 9,.m 11 10,.nf 12 11 1 1,.nl 13 11 12,.nb 14 11 .gtr 3 13 3,.p 15 11 14,.m 2 15] .ret))
def r_limb_head_2:Nf Tryz.prog 160=some ⟨16,z6i.r,[.tmp 2]⟩:=Aa
def zf5:LC:=(.q [.x 1 0,.K 2 0,.K 3 0] (.seq (.q [.L 9 3 1,.w 10 143 9,.m 4 10] (.q [.m 11 4,.b 12 .neq 35 11 0] (.cond (.t 12) (.q [.m 13 4,.K 2 0,.m 3 13] .ret) .skip))) (.q [.L 14 3 1,.z 15 (.build [(.i 0),.nilSl,.nilSl,(.bool false),(.bool false),(.bool false),(.bool false),(.bool false),(.bool false),(.bool false),(.bool false),(.bool false),(.bool false),(.bool false),(.bool false),(.bool false),(.bool false),(.bool false),(.bool false),(.bool false),(.bool false),(.bool false),(.bool false),(.bool false),(.bool false),(.bool false),(.bool false),(.bool false),(.bool false),(.bool false),(.bool false),(.bool false),(.bool false),(.bool false),(.bool false),(.bool false),(.bool false),(.bool false),(.bool false),(.bool false),(.bool false),(.bool false),(.bool false),(.bool false),(.bool false),(.bool false),(.bool false),(.bool false),(.bool false),(.bool false),(.bool false),(.bool false),(.bool false),(.bool false),(.bool false),(.bool false),(.bool false),(.bool false),(.bool false),(.bool false),(.bool false),(.bool false),(.bool false),(.bool false),(.bool false),(.bool false),(.bool false),.nilSl] [(0,3,.t 14)]),.x 16 15,.m 5 16] (.seq (.q [.f 17 2 1,.l 18 17,.s 19 18,.K 20 0] (.block 0 (.loop (.q [.c 21 .lss 3 20 19] (.seq (.cond (.t 21) .skip (.exit 0)) (.seq (.block 1 (.q [.m 22 20,.I 23 8 18 20,.L 24 8 23,.z 7 (.alloc [(.i 0),(.i 0),(.i 0),(.i 0),(.i 0),(.i 0),(.i 0),(.u 0)]),.m 6 22,.S 8 7 24] (.q [.m 25 5,.L 26 8 7,.W 27 144 25 26,.m 8 27] (.q [.m 28 8,.b 29 .neq 35 28 0] (.cond (.t 29) (.q [.m 30 6,.m 31 8,.m 2 30,.m 3 31] .ret) .skip))))) (.ops [.b 32 .add 3 20 1,.m 20 32]))))))) (.seq (.q [.m 33 5,.N 34 33,.f 35 67 34,.l 36 35,.s 37 36,.b 38 .gtr 3 37 0] (.cond (.t 38) (.q [.f 39 2 1,.l 40 39,.s 41 40,.m 2 41,.K 3 9] .ret) .skip)) (.q [.f 42 2 1,.l 43 42,.s 44 43,.m 2 44,.K 3 0] .ret))))))
def r_limb_Check:Nf Tryz.prog 104=some ⟨45,zf5.r,[.tmp 2,.tmp 3]⟩:=Aa
def oc:LC:=(.q [.x 2 0,.x 3 1,.F 4] (.seq (.q [.f 6 0 3,.l 7 6,.b 8 .lss 3 7 0,.m 9 8,.nf 10 9 0 3,.nl 11 9 10,.nf 12 9 0 2,.nl 13 9 12,.n 14 9 (.lenSl (.t 13)),.n 15 9 (.bin .geq false 3 (.t 11) (.t 14)),.p 16 9 15,.m 17 16,.nf 18 17 2 3,.nl 19 17 18,.nb 20 17 .lss 3 19 1,.p 21 17 20,.m 22 21,.nf 23 22 2 3,.nl 24 22 23,.nb 25 22 .gtr 3 24 32768,.p 26 22 25,.m 27 26,.nf 28 27 1 3,.nl 29 27 28,.nb 30 27 .lss 3 29 0,.p 31 27 30] (.cond (.t 31) (.q [.F 4] .ret) .skip)) (.q [.f 32 0 2,.l 33 32,.f 34 0 3,.l 35 34,.I 36 3 33 35,.f 37 0 36,.l 38 37,.m 5 38] (.q [.f 39 1 3,.l 40 39,.m 41 5,.c 42 .leq 3 40 41,.m 43 42,.yf 44 43 2 3,.yl 45 43 44,.my 46 43 5,.yf 47 43 1 3,.yl 48 43 47,.y 49 43 (.bin .sub false 3 (.t 46) (.t 48)),.y 50 43 (.bin .leq false 3 (.t 45) (.t 49)),.q 51 43 50,.m 4 51] .ret))))
def r_expand_lies:Nf Tryz.prog 105=some ⟨52,oc.r,[.tmp 4]⟩:=Aa
def zc0:LC:=(.q [.x 3 1,.K 4 0] (.seq (.q [.m 13 0,.z 14 (.w 103 [.t 13,(.c .nilSl)]),.w 15 43 14,.b 16 .neq 35 15 0,.m 17 16,.nf 18 17 0 3,.nl 19 17 18,.n 20 17 (.lenSl (.t 19)),.nb 21 17 .lss 3 20 1,.p 22 17 21,.m 23 22,.nf 24 23 1 3,.nl 25 23 24,.n 26 23 (.lenSl (.t 25)),.mn 27 23 0,.n 28 23 (.lenSl (.t 27)),.n 29 23 (.bin .neq false 3 (.t 26) (.t 28)),.p 30 23 29] (.cond (.t 30) (.q [.K 4 2] .ret) .skip)) (.seq (.q [.f 32 0 3,.l 33 32,.z 34 (.build [(.i 0),.nilSl,.nilSl] [(1,1,.t 33)]),.w 35 104 34,.m 31 35,.X 36 0 31,.X 37 1 31,.m 5 36,.m 6 37] (.q [.m 38 6,.b 39 .neq 35 38 0] (.cond (.t 39) (.q [.K 4 2] .ret) .skip))) (.seq (.q [.m 40 0,.s 41 40,.K 42 0] (.block 0 (.loop (.q [.c 43 .lss 3 42 41] (.seq (.cond (.t 43) .skip (.exit 0)) (.seq (.block 1 (.q [.m 44 42,.I 45 3 40 42,.L 46 3 45,.z 8 (.alloc [(.i 0),(.bool false),(.i 0)]),.m 7 44,.S 3 8 46] (.q [.f 47 1 3,.l 48 47,.m 49 7,.I 50 3 48 49,.L 51 3 50,.z 9 (.alloc [(.i 0),(.i 0),(.i 0)]),.S 3 9 51] (.seq (.q [.L 52 8 3,.L 53 3 9,.W 54 105 52 53,.z 55 (.un .not (.t 54)),.m 56 55,.nf 57 56 2 9,.nl 58 56 57,.nf 59 56 0 8,.nl 60 56 59,.n 61 56 (.bin .neq false 3 (.t 58) (.t 60)),.p 62 56 61] (.cond (.t 62) (.q [.K 4 2] .ret) .skip)) (.q [.f 63 0 3,.l 64 63,.f 65 0 9,.l 66 65,.I 67 3 64 66,.L 68 3 67,.z 10 (.alloc [(.i 0),(.i 0),(.bool false)]),.S 3 10 68] (.q [.f 69 1 10,.l 70 69,.b 71 .eql 3 70 1,.m 72 71,.y 73 72 (.loadN 3 (.t 8)),.y 74 72 (.w 106 [.t 73]),.y 75 72 (.un .not (.t 74)),.q 76 72 75,.m 77 76,.nf 78 77 1 10,.nl 79 77 78,.nb 80 77 .eql 3 79 2,.mn 81 77 80,.y 82 81 (.loadN 3 (.t 8)),.y 83 81 (.w 106 [.t 82]),.n 84 77 (.pick (.t 81) (.t 83) .F),.p 85 77 84,.m 86 85,.nf 87 86 1 8,.nl 88 86 87,.nf 89 86 2 10,.nl 90 86 89,.n 91 86 (.bin .neq false 4 (.t 88) (.t 90)),.p 92 86 91] (.cond (.t 92) (.q [.K 4 2] .ret) .skip))))))) (.ops [.b 93 .add 3 42 1,.m 42 93]))))))) (.seq (.q [.f 94 2 3,.L 95 6 94,.K 96 0] (.block 2 (.loop (.q [.b 97 .lss 3 96 2] (.seq (.cond (.t 97) .skip (.exit 2)) (.seq (.block 3 (.q [.m 98 96,.z 99 (.ixArr true 2 3 (.t 95) (.t 96)),.z 12 (.alloc [(.i 0),(.i 0),(.i 0)]),.m 11 98,.S 3 12 99] (.q [.L 100 8 3,.L 101 3 12,.W 102 105 100 101,.z 103 (.un .not (.t 102)),.m 104 103,.nf 105 104 0 3,.nl 106 104 105,.nf 107 104 0 12,.nl 108 104 107,.n 109 104 (.ixAddr 3 (.t 106) (.t 108)),.nf 110 104 1 109,.nl 111 104 110,.nb 112 104 .eql 3 111 1,.p 113 104 112,.m 114 113,.nf 115 114 0 3,.nl 116 114 115,.nf 117 114 0 12,.nl 118 114 117,.n 119 114 (.ixAddr 3 (.t 116) (.t 118)),.nf 120 114 2 119,.nl 121 114 120,.mn 122 114 11,.nb 123 114 .eql 3 122 1,.n 124 114 (.bin .neq false 4 (.t 121) (.t 123)),.p 125 114 124] (.cond (.t 125) (.q [.K 4 2] .ret) .skip)))) (.ops [.b 126 .add 3 96 1,.m 96 126]))))))) (.q [.K 4 0] .ret))))))
def r_expand_Check:Nf Tryz.prog 56=some ⟨127,zc0.r,[.tmp 4]⟩:=Aa
def z4x:LC:=(.q [.x 3 1,.F 4] (.q [.f 5 1 3,.l 6 5,.b 7 .geq 3 6 0,.m 8 7,.yf 9 8 1 3,.yl 10 8 9,.my 11 8 0,.y 12 8 (.lenSl (.t 11)),.y 13 8 (.bin .lss false 3 (.t 10) (.t 12)),.q 14 8 13,.m 15 14,.my 16 15 0,.yf 17 15 1 3,.yl 18 15 17,.y 19 15 (.ixAddr 3 (.t 16) (.t 18)),.yf 20 15 1 19,.yl 21 15 20,.y 22 15 (.un .not (.t 21)),.q 23 15 22,.m 4 23] .ret))
def r_expand_Public:Nf Tryz.prog 80=some ⟨24,z4x.r,[.tmp 4]⟩:=Aa
def zda:LC:=(.q [.x 4 1,.x 5 2,.K 6 0,.z 7 (.alloc [(.i 0),(.i 0),(.i 0)])] (.seq (.q [.m 8 0,.L 9 7 4,.W 10 80 8 9] (.cond (.t 10) (.seq (.draw [(.f 11 2 5,[]),(.z 12 (.ixAddrArr 2 3 (.t 11) (.k 0)),[]),(.L 13 3 12,[]),(.K 6 16,[]),(.S 3 7 13,[])]) .ret) .skip)) (.seq (.draw [(.f 14 2 5,[]),(.z 15 (.ixAddrArr 2 3 (.t 14) (.k 1)),[]),(.L 16 3 15,[]),(.K 6 40,[]),(.S 3 7 16,[])]) .ret)))
def r_expand_Base:Nf Tryz.prog 59=some ⟨17,zda.r,[.tmp 6,.cellN 7 3]⟩:=Aa
def Nj(z:List Bf)(A:List Pc)(g j:Pc):List LV:=[.lst (Om z) z.length 3,.lst (Oc A) A.length 3,.i g.buf,.i g.at_,.i g.size,.i j.buf,.i j.at_,.i j.size]
def Pc.f_len(p:Pc):p.f.length=3:=rfl
def ze6(l:List Pc):dats (Oc l)=true:=yo (λ_=>rfl) l
def mo{l:List Pc}{i:Nat}{v:Pc}(h:l[i]?=some v):((Oc l).drop (i*3)).take 3=v.f:=se Pc.f_len h
def Vw{l:List Pc}{i:Nat}(h:i<l.length):i*3+3≤(Oc l).length:=zur Pc.f_len h
def Wy{l:List Pc}{n:Nat}(h:n<l.length):l[n]?=some (Of l n):=by simp[Of,Ie,h]
def Qj(g:List Bf)(j:List Pc)(z A:Pc):dats (Nj g j z A)=true:=by simp[Nj,dats,LV.dat,xn,ze6]
def zpy{l:List Bf}{f:Nat}{a b:List LV}{p:Bf→Bool}(T:l.length≤9223372036854775807)
  (Q:∀v∈l,∀H:LV→M4→Prop,H (.bool (p v)) F→O6 (.fn f) (a++[.agg v.f]++b) F H) (k:P (.i (Vv p l)) F):O6 (.fn 174) [.lst (Om l) l.length 3,.fn (.func f) a b] F P:=by
 refine Nd r_slices_IndexFunc_api_Buf_api_Buf Aa (by simp) ?_;simp[z29];refine Ns (λI S K N=>∃i:Nat,S=[]∧K=F∧N+i=l.length∧lk I 0=.lst (Om l) l.length 3∧lk I 1=.fn (.func f) a b∧lk I 7=.i l.length∧lk I 8=.i i∧∀L b,L<i→l[L]?=some b→p b=false) (N:=l.length) ⟨0,by simp⟩ ?_;rintro N I S K ⟨i,rfl,rfl,U,j,z,A,B,C⟩ V D;by_cases hi:l.length≤i
 ·have G:¬i<l.length:=J
  simp[j,z,A,B,G];rw[←zge hi C];exact k
 ·have G:i<l.length:=J
  have E:=Ib G;have R:=kg G;simp[j,z,A,B,G,zw E,R];have M:=Q l[i] (Km G);simp only[I0,List.singleton_append]at M;refine M _ ?_;cases O:p l[i] with
  |true =>
   simp;rw[←zs0 E O C];exact k
  |false =>
   simp[B];refine⟨J,D _ _ _ ⟨N-1,J,i+1,rfl,rfl,J,Au,As,Af,by simp,λL b X g=>?_⟩⟩;by_cases e:L=i
   ·subst e;rw[E]at g;cases g;exact O
   ·exact C L b J g
def zc9{l:List Bf}{f:Nat}{a b:List LV}{p:Bf→Bool}(j:l.length≤9223372036854775807)
  (z:∀v∈l,∀g:LV→M4→Prop,g (.bool (p v)) F→O6 (.fn f) (a++[.agg v.f]++b) F g) (k:P (.bool (l.any p)) F):O6 (.fn 158) [.lst (Om l) l.length 3,.fn (.func f) a b] F P:=by
 refine Nd r_slices_ContainsFunc_api_Buf_api_Buf Aa N ?_;simp[z1z];refine zpy j z ?_;simp;rw[zkl];exact k
def zjc(b:Bf):Na 159 [.agg b.f] (.bool (decide (65536<b.size))) []:=by
 refine Np.val rfl (Nd r_limb_head_1 Aa N ?_);simp[zdv,Bf.f]
def zit(b:Bf):Na 160 [.agg b.f] (.bool (decide (b.size<1) || (decide (b.kind<1) || decide (3<b.kind)))) []:=by
 refine Np.val rfl (Nd r_limb_head_2 Aa N ?_);by_cases g:b.size<1
 ·simp[z6i,Bf.f,g]
 by_cases j:b.kind<1
 ·simp[z6i,Bf.f,g,j]
 simp[z6i,Bf.f,g,j]
def zov(g:List Bf)(C:g.length≤9223372036854775807):Na 143 [.agg [.i 0,.lst (Om g) g.length 3,.nilSl]] (.i (Xb g)) []:=by
 refine Np.val rfl (Nd r_limb_head Aa N ?_);by_cases B:32<g.length
 ·have z:(32:Int)<g.length:=J
  simp[zct,Xb,B,z]
 have z:¬(32:Int)<g.length:=J
 simp[zct,B,z];refine zc9 (a:=[]) (b:=[]) (p:=λb=>decide (65536<b.size)) C (λv D E k=>Nb (zjc v) (bors_self _ rfl) k) ?_;by_cases A:(g.any λb=>decide (65536<b.size))=true
 ·simp only[Xb,Ii B,Ij A];rw[A];simp
 simp only[Xb,Ii B,Ii A];rw[Bool.not_eq_true]at A;rw[A];simp;generalize j:(g.any λb=>decide (b.size<1) || (decide (b.kind<1) || decide (3<b.kind)))=F;refine zc9 (a:=[]) (b:=[]) (p:=λb=>decide (b.size<1) || (decide (b.kind<1) || decide (3<b.kind))) C (λv D E k=>Nb (zit v) (bors_self _ rfl) k) ?_;rw[j];cases F with
 |true =>
  simp at j ⊢;obtain⟨x,G,h⟩:=j;exact⟨x,G,λ_ _=>J⟩
 |false=>simp;simpa using j
def e9(a b:Bool):Q9 Tryz.prog false 4 (.bool a) (.bool b)=some (a==b):=by cases a<;>cases b<;>kernel_rfl
def ze5(g:List Bf)(E:g.length≤9223372036854775807):Na 104 [.agg [.i 0,.lst (Om g) g.length 3,.nilSl]] (.tup [.i 0,.i (Xb g)]) []:=by
 refine Np.val rfl (Nd r_limb_Check Aa (by simp) ?_);simp[zf5];refine Nb (zov g E) (bors_self _ (by simp[dats,LV.dat,xn])) ?_;by_cases h:Xb g=0
 ·simp[h];refine Ns (λD K F L=>K=[]∧lk D 1=.ptr 0 0∧lk D 5=.ptr 1 0∧lk D 19=.i 0∧lk D 20=.i 0∧F[0]?=some (.cells [.i 0,.lst (Om g) g.length 3,.nilSl] 0)∧∃l st,F[1]?=some (.cells ((.i 0)::(.lst (Om g) g.length 3)::.nilSl::l) st)∧l[64]?=some .nilSl) (N:=0) ⟨rfl,by simp,by simp,by simp,by simp,by simp,_,_,rfl,rfl⟩ ?_;rintro L D K F ⟨rfl,G,H,z,A,B,l,st,C,j⟩ M I;simp[G,H,z,A,B,C,M9 j]
 ·simp[h]
def z7s(j:List Bf)(H:List Pc)(I K x:Pc)(L:∀b∈j,b.size≤65536):Na 105 [.agg (Nj j H I K),.agg x.f] (.bool (Ua j x)) []:=by
 refine Np.val rfl (Nd r_expand_lies Aa N ?_);by_cases z:x.buf<0
 ·simp[oc,Nj,Pc.f,Ua,z];omega
 by_cases A:(j.length:Int)≤x.buf
 ·simp[oc,Nj,Pc.f,Ua,z,A];omega
 by_cases B:x.size<1
 ·simp[oc,Nj,Pc.f,Ua,z,A,B];omega
 by_cases C:32768<x.size
 ·simp[oc,Nj,Pc.f,Ua,z,A,B,C];omega
 by_cases D:x.at_<0
 ·simp[oc,Nj,Pc.f,Ua,z,A,B,C,D];omega
 obtain⟨n,E⟩:=Ir (J:0≤x.buf);have g:n<j.length:=J
 have F:=wg (ay g);have Q:=kg g;have R:(0:Int)≤x.buf:=J
 have S:x.buf<(j.length:Int):=J
 have M:(1:Int)≤x.size:=J
 have O:x.size≤32768:=J
 have P:(0:Int)≤x.at_:=J
 by_cases G:x.at_≤(Ou j n).size
 ·simp[oc,Nj,Pc.f,Ua,z,A,B,C,D,E,g,M9 F,G];have:=L _ (Jd (ay g));refine⟨λ_=>J,λq=>absurd q J,J,?_⟩;simp[M,O,P]
 ·simp[oc,Nj,Pc.f,Ua,z,A,B,C,D,E,g,M9 F,G]
def ztg{g:List Bf}(h:Xb g=0):∀b∈g,b.size≤65536:=λb A=>by
 unfold Xb at h;by_cases z:32<g.length
 ·rw[Ij z]at h;omega
 by_cases j:(g.any λb=>decide (65536<b.size))=true
 ·rw[Ii z,Ij j]at h;omega
 rw[Bool.not_eq_true,M2]at j;have:=j b A;simp at this;omega
def ku(g:List Vr)(j:List Bf)(z:List Pc)(A B:Pc):Int:=if Uy g j z A B=true then 0 else 2
def zcu{g:List Bf}{x:Pc}(h:Ua g x=true):∃n:Nat,x.buf=n∧n<g.length∧1≤x.size∧x.size≤32768∧0≤x.at_∧x.at_≤(Ou g n).size∧x.size≤(Ou g n).size-x.at_:=by
 simp only[Ua,H9,Il]at h;obtain⟨B,F,C,D,E,j,z⟩:=h;obtain⟨n,A⟩:=Ir B;rw[A]at j z;exact⟨n,A,J,C,D,E,j,z⟩
def zas(j:List Vr)(g:List Bf)(C:List Pc)(A B:Pc)(hv:j.length≤1000000)(hb:g.length≤9223372036854775807) :
  Na 56 [.lst (Nr j) j.length 3,.agg (Nj g C A B)] (.i (ku j g C A B)) []:=by
 refine Np.val rfl (Nd r_expand_Check Aa (by simp) ?_);have I:Uy j g C A B=false→ku j g C A B=2:=λh=>by simp[ku,h]
 simp[zc0];refine ztw (args':=[.lst (Nr j) j.length 3,.lst (Oi []) ([]:List Ko).length 7]) (λc r h=>?_) ?_
 ·cases h with
  |cons e1 es=>cases es with
   |cons e2 S=>exact .cons e1 (.cons (by cases e2;exact .lstNil) S)
 refine Qo (z9k j [] hv (by simp)) (by simp[dats,LV.dat,Ph,Oi]) ?_;rw[Jf];simp;refine Nb (ny j (Tu 0 j) [] J) (bors_self _ Ai) ?_;simp only[N3,zvg];cases gG:P6 j with
 |false=>simp;exact (I (by simp[Uy,gG])).symm
 |true =>
 by_cases g1:(g.length:Int)<1
 ·simp[Nj,g1];exact (I (by simp[Uy,(J:¬1≤g.length)])).symm
 by_cases g2:C.length=j.length
 case neg =>
  have gL:¬(C.length:Int)=(j.length:Int):=J
  simp[Nj,g1,g2,gL];exact (I (by simp[Uy,g2])).symm
 simp[Nj,g1,g2];refine Nb (ze5 g hb) (bors_self _ (by simp[dats,LV.dat,xn])) ?_;by_cases g3:Xb g=0
 case neg=>simp[g3];exact (I (by simp[Uy,g3])).symm
 simp[g3];have Y:∀b∈g,b.size≤65536:=ztg g3;refine Ns (λρ gU gF N=>∃i:Nat,gU=[]∧N+i=j.length∧lk ρ 3=.ptr 0 0∧lk ρ 40=.lst (Nr j) j.length 3∧lk ρ 41=.i j.length∧lk ρ 42=.i i∧0<gF.length∧gF[0]?=some (.cells (Nj g C A B) 0)∧∀gK,gK<i→Wj g (gv j gK) (Of C gK)=true) (N:=j.length)
  ⟨0,by simp[Nj,g2]⟩ ?_
 rintro N ρ gU gF ⟨i,rfl,hN,G,L,M,O,hl,hG,Z⟩ Nx T;by_cases gX:i<j.length
 ·have q3:=V9 (Qp gX);have hq:=Ty gX;have gp:i<C.length:=J
  have p3:=mo (Wy gp);have gM:=Vw gp;have gO:(gv j i).f=[.i (gv j i).limbs,.bool (gv j i).sec,.i (gv j i).mode]:=rfl;have gP:(Of C i).f=[.i (Of C i).buf,.i (Of C i).at_,.i (Of C i).size]:=rfl;have no:Wj g (gv j i) (Of C i)=false→ku j g C A B=2:=λh=>I (by
   have:((List.range j.length).all λi=>Wj g (gv j i) (Of C i))=false:=by
    rw[K8];exact⟨i,Ji.2 gX,Eg⟩
   simp[Uy,this])
  have V:Wj g (gv j i) (Of C i)=true→∀D G',lk D 3=.ptr 0 0→lk D 40=.lst (Nr j) j.length 3→lk D 41=.i j.length→lk D 42=.i ((i:Int)+1)→0<G'.length→G'[0]?=some (.cells (Nj g C A B) 0)→Nx D [] G':=λh D G' S gg gj gB el eG =>
   T _ _ _ ⟨N-1,J,i+1,rfl,J,S,gg,gj,Do,el,eG,λgK hj=>by
    by_cases e:gK=i
    ·rw[e];exact h
    ·exact Z gK J⟩
  generalize gv j i=v at *;generalize Of C i=x at *;have K:∀y:List LObj,(gF++y)[0]?=some _:=λy=>(M6 hl).trans hG
  simp[G,L,M,O,gX,gp,q3,p3,hq,gM,gO,gP,↓K,Nj];have X:=z7s g C A B x Y;rw[Nj,Pc.f]at X;refine Nb X (bors_self _ D6) ?_;cases F:Ua g x with
  |false=>simp;exact (no (by simp[Wj,F])).symm
  |true =>
  obtain⟨n,Q,z,s1,s2,s3,s4,s5⟩:=zcu F;by_cases g4:x.size=v.limbs
  case neg=>simp[g4];exact (no (by simp[Wj,g4])).symm
  have b3:=zw (ay z);have gC:=kg z;have gQ:(Ou g n).f=[.i (Ou g n).size,.i (Ou g n).kind,.bool (Ou g n).sec]:=rfl;have gR:Wj g v x=(!(decide ((Ou g n).kind=1) && !Ob v)&&(!(decide ((Ou g n).kind=2)&&Ob v)&&(v.sec==(Ou g n).sec))):=by simp[Wj,F,g4,Q]
  rw[gR]at no V;generalize Ou g n=b at *;simp[g4,G,↓K,Nj,Q,z,b3,gC,gQ];have gH:∀{G':M4} {K':LV→M4→Prop},K' (.bool (Ob v)) G'→O6 (.fn 106) [.agg [.i v.limbs,.bool v.sec,.i v.mode]] G' K':=λk=>Nb (z9z v) (bors_self _ rfl) k
  have P:∀(h:(!(decide (b.kind=1) && !Ob v)&&(!(decide (b.kind=2)&&Ob v)&&(v.sec==b.sec)))=true) (D:M7) (x:List LObj),lk D 3=.ptr 0 0→lk D 40=.lst (Nr j) j.length 3→lk D 41=.i j.length→lk D 42=.i ((i:Int)+1)→Nx D [] (gF++x):=λh D x S gg gj gB=>V h _ _ S gg gj gB Ab (K x)
  by_cases H:b.kind=1
  ·simp[H];refine gH ?_;cases hg:Ob v with
   |false=>simp[H,hg]at no ⊢;exact no.symm
   |true =>
    simp[H,hg]at no P ⊢;cases E:(v.sec==b.sec) with
    |false=>simp[e9,E]at no ⊢;exact (no Cq).symm
    |true =>
     simp[e9,E,O];refine⟨J,P Cq _ _ B8 Br Av (by simp)⟩
  ·by_cases k2:b.kind=2
   ·simp[k2];refine gH ?_;cases hg:Ob v with
    |true=>simp[k2,hg]at no ⊢;exact no.symm
    |false =>
     simp[k2,hg]at no P ⊢;cases E:(v.sec==b.sec) with
     |false=>simp[e9,E]at no ⊢;exact (no Cq).symm
     |true =>
      simp[e9,E,O];refine⟨J,P Cq _ _ B8 Br Av (by simp)⟩
   ·simp[H,k2]at no P ⊢;cases E:(v.sec==b.sec) with
    |false=>simp[e9,E]at no ⊢;exact (no Cq).symm
    |true =>
     simp[e9,E,O];refine⟨J,P Cq _ _ B8 Br Av (by simp)⟩
 ·have gi:i=j.length:=J
  subst gi;simp[G,L,M,O,hG,Nj];refine Ns (λρ gU gF N=>∃i:Nat,gU=[]∧N+i=2∧lk ρ 3=.ptr 0 0∧lk ρ 95=.agg [.i A.buf,.i A.at_,.i A.size,.i B.buf,.i B.at_,.i B.size]∧lk ρ 96=.i i∧0<gF.length∧gF[0]?=some (.cells (Nj g C A B) 0)∧(0<i→Uv g false A=true)∧(1<i→Uv g true B=true)) (N:=2)
   ⟨0,rfl,rfl,B8,by simp,by simp,hl,hG,λq=>absurd q J,λq=>absurd q J⟩ ?_
  clear G L M O hG hl;rintro N ρ gU gF ⟨i,rfl,gY,G,U,R,hl,hG,gI,gS⟩ Nx T;have K:∀y:List LObj,(gF++y)[0]?=some _:=λy=>(M6 hl).trans hG
  have hi:i=0∨i=1∨i=2:=J
  rcases hi with rfl|rfl|rfl
  ·have no:Uv g false A=false→ku j g C A B=2:=λh=>I (by simp[Uy,h])
   have V:Uv g false A=true→∀(D:M7) (y:List LObj),lk D 3=.ptr 0 0→lk D 95=.agg [.i A.buf,.i A.at_,.i A.size,.i B.buf,.i B.at_,.i B.size]→lk D 96=.i (0+1)→Nx D [] (gF++y):=λh D y S gD gE =>
    T _ _ _ ⟨N-1,J,0+1,rfl,J,S,gD,by rw[gE];rfl,Ab,K y,λ_=>h,λq=>absurd q J⟩
   simp[G,U,R,↓K,Nj];have X:=z7s g C A B A Y;rw[Nj,Pc.f]at X;refine Nb X (bors_self _ D6) ?_;cases F:Ua g A with
   |false=>simp;exact (no (by simp[Uv,F])).symm
   |true =>
   obtain⟨n,Q,z,s1,s2,s3,s4,s5⟩:=zcu F;have b1:=zuj (ay z);have b2:=Z4 (ay z);have gC:=kg z;have hW:Uv g false A=(!decide ((Ou g n).kind=1)&&((Ou g n).sec==false)):=by simp[Uv,F,Q]
   rw[hW]at no V;generalize Ou g n=b at *;by_cases H:b.kind=1
   ·simp[G,↓K,Nj,Q,z,M9 b1,M9 b2,H];exact (no Ba).symm
   cases E:b.sec with
   |true=>simp[G,↓K,Nj,Q,z,M9 b1,M9 b2,H,E,e9];exact (no Aw).symm
   |false =>
    simp[G,↓K,Nj,Q,z,M9 b1,M9 b2,H,E,R,e9];exact V (by simp[H,E]) _ _ B8 Ck (by simp)
  ·have no:Uv g true B=false→ku j g C A B=2:=λh=>I (by simp[Uy,h])
   have V:Uv g true B=true→∀(D:M7) (y:List LObj),lk D 3=.ptr 0 0→lk D 95=.agg [.i A.buf,.i A.at_,.i A.size,.i B.buf,.i B.at_,.i B.size]→lk D 96=.i (1+1)→Nx D [] (gF++y):=λh D y S gD gE =>
    T _ _ _ ⟨N-1,J,1+1,rfl,J,S,gD,by rw[gE];rfl,Ab,K y,λ_=>gI J,λ_=>h⟩
   simp[G,U,R,↓K,Nj];have X:=z7s g C A B B Y;rw[Nj,Pc.f]at X;refine Nb X (bors_self _ D6) ?_;cases F:Ua g B with
   |false=>simp;exact (no (by simp[Uv,F])).symm
   |true =>
   obtain⟨n,Q,z,s1,s2,s3,s4,s5⟩:=zcu F;have b1:=zuj (ay z);have b2:=Z4 (ay z);have gC:=kg z;have hW:Uv g true B=(!decide ((Ou g n).kind=1)&&((Ou g n).sec==true)):=by simp[Uv,F,Q]
   rw[hW]at no V;generalize Ou g n=b at *;by_cases H:b.kind=1
   ·simp[G,↓K,Nj,Q,z,M9 b1,M9 b2,H];exact (no Ba).symm
   cases E:b.sec with
   |false=>simp[G,↓K,Nj,Q,z,M9 b1,M9 b2,H,E,e9];exact (no Aw).symm
   |true =>
    simp[G,↓K,Nj,Q,z,M9 b1,M9 b2,H,E,R,e9];exact V (by simp[H,E]) _ _ B8 Ck (by simp)
  ·simp[R];unfold ku;rw[Ij];have gV:((List.range j.length).all λi=>Wj g (gv j i) (Of C i))=true:=I7.2 λgK hj=>Z gK (Ji.1 hj)
   have gT:1≤g.length:=J
   simp[Uy,gG,gT,g2,g3,gI J,gS J];intro gK hj;exact Z gK hj
def Rz(g:List Vr)(d:Int):Bool:=decide (0≤d)&&(decide (d<g.length) && !(gv g d.toNat).sec)
def z9t(j:List Vr)(o:Ko):Na 80 [.lst (Nr j) j.length 3,.agg o.f] (.bool (Rz j o.d)) []:=by
 refine Np.val rfl (Nd r_expand_Public Aa N ?_);by_cases z:0≤o.d
 case neg=>simp[z4x,Ko.f,Rz,z]
 by_cases A:o.d<j.length
 case neg=>simp[z4x,Ko.f,Rz,z,A]
 obtain⟨n,B⟩:=Ir z;have g:n<j.length:=J
 have C:=xd (Qp g);have D:=Ty g;simp[z4x,Ko.f,Rz,B,g,M9 C]
def dr(g:List Vr)(o:Ko)(j z:Pc):Pc:=if Rz g o.d=true then j else z
def cy(g:List Vr)(o:Ko):Int:=if Rz g o.d=true then 16 else 40
def zja(g:List Vr)(o:Ko)(C:List Bf)(D:List Pc)(z A:Pc):Na 59 [.lst (Nr g) g.length 3,.agg o.f,.agg (Nj C D z A)] (.tup [.i (cy g o),.agg (dr g o z A).f]) []:=by
 refine Np.val rfl (Nd r_expand_Base Aa N ?_);have j:o.f=[.i o.kind,.i o.d,.i o.e,.i o.a,.i o.b,.i o.c,.u o.imm]:=rfl;simp[zda,j];rw[←j];refine Nb (z9t g o) (bors_self _ (by simp[dats,LV.dat,Ph,j])) ?_;cases B:Rz g o.d with
 |true=>simp[Nj,Pc.f,cy,dr,B]
 |false=>simp[Nj,Pc.f,cy,dr,B]
section
set_option linter.unusedVariables false
def zbe:LC:=(.q [.x 1 0,.z 2 (.alloc [(.i 0),(.i 0)]),.F 3] (.q [.z 8 (.build [(.i 0),(.i 0)] [(0,1,.k 1),(1,1,.k 1)]),.S 2 2 8] (.seq (.q [.f 9 1 1,.l 10 9,.s 11 10,.K 12 0] (.block 0 (.loop (.q [.c 13 .lss 3 12 11] (.seq (.cond (.t 13) .skip (.exit 0)) (.seq (.block 1 (.q [.I 14 7 10 12,.L 15 7 14,.z 5 (.alloc [(.i 0),(.i 0),(.i 0),(.i 0),(.i 0),(.i 0),(.u 0)]),.S 7 5 15] (.seq (.q [.f 16 1 5,.l 17 16,.b 18 .lss 3 17 0] (.cond (.t 18) (.exit 1) .skip)) (.q [.f 19 0 1,.l 20 19,.L 21 7 5,.W 22 52 20 21,.m 6 22] (.seq (.q [.m 23 6,.b 24 .eql 3 23 0] (.cond (.t 24) (.q [.L 25 2 2,.S 2 2 25,.F 3] .ret) .skip)) (.q [.K 7 1] (.seq (.q [.f 26 0 1,.l 27 26,.L 28 7 5,.W 29 80 27 28] (.cond (.t 29) (.ops [.K 7 0]) .skip)) (.ops [.m 30 7,.m 31 7,.z 32 (.ixAddrArr 2 1 (.t 2) (.t 31)),.l 33 32,.m 34 6,.z 35 (.maxi true (.t 33) (.t 34)),.z 36 (.ixAddrArr 2 1 (.t 2) (.t 30)),.S 1 36 35])))))))) (.ops [.b 37 .add 3 12 1,.m 12 37]))))))) (.q [.L 38 2 2,.S 2 2 38,.z 3 (.move .T)] .ret))))
def r_buffers_works:Nf Tryz.prog 44=some ⟨39,zbe.r,[.cellN 2 2,.tmp 3]⟩:=Aa
def S0(vs:List Vr)(g:List Ko):(Bool→Int)×Bool:=Rm (W6 vs) (λo=>Rz vs o.d) mz g
def zrw(vs:List Vr)(o:Ko):W6 vs o≤32768:=by unfold W6;split<;>omega
def zfv(j:List Vr)(g L:List Ko)(hl:j.length≤1000000)(gg:g.length≤1000000):Na 44 [.agg (M3 j g L)] (.tup [.agg [.i ((S0 j g).1 false),.i ((S0 j g).1 true)],.bool (S0 j g).2]) []:=by
 refine Np.val rfl (Nd r_buffers_works Aa (by simp) ?_);have gj:(M3 j g L).length=3:=rfl;have gB:(M3 j g L).take 3=M3 j g L:=rfl;simp[zbe,M3];refine Ns (λX gC Z N=>∃(i:Nat) (w:Bool→Int) (st:Nat),gC=[]∧N+i=g.length∧lk X 1=.ptr 0 0∧lk X 2=.ptr 1 0∧lk X 10=.lst (Oi g) g.length 7∧lk X 11=.i g.length∧lk X 12=.i i∧1<Z.length∧Z[0]?=some (.cells (M3 j g L) 0)∧Z[1]?=some (.cells [.i (w false),.i (w true)] st)∧S0 j g=Rm (W6 j) (λo=>Rz j o.d) w (g.drop i))
  (N:=g.length) ⟨0,mz,1,rfl,J,by simp,by simp,by simp,by simp,by simp,by simp,Cz,by simp[mz],rfl⟩ ?_
 rintro N X gC Z ⟨i,w,st,rfl,hN,M,H,C,A,D,E,F,B,hw⟩ Nx O;have G:0<Z.length:=J
 by_cases Y:i<g.length
 ·have q7:=mc (Vg Y);have P:=mg Y;have z:(go g i).f=[.i (go g i).kind,.i (go g i).d,.i (go g i).e,.i (go g i).a,.i (go g i).b,.i (go g i).c,.u (go g i).imm]:=rfl;rw[zgl Y]at hw;generalize go g i=o at *;by_cases hd:o.d<0
  ·rw[Rm,Ij hd]at hw;simp[M,H,C,A,D,Y,q7,P,z,hd];exact⟨J,O _ _ _ ⟨N-1,J,i+1,w,st,rfl,J,Av,Ba,Ae,Af,by simp,Ab,by rw[M5 G];exact F,by rw[M5 E];exact B,hw⟩⟩
  ·rw[Rm,Ii hd]at hw;simp[M,H,C,A,D,Y,q7,P,z,hd,↓M5 G,↓M5 E,F,B,M3];rw[←z];refine Nb (zav j o hl) (bors_self _ Eh) ?_;by_cases R:W6 j o=0
   ·rw[Ij R]at hw;simp[H,R,↓M5 E,B,hw];rw[Ia Ab];simp
   ·rw[Ii R]at hw;simp[R,M,↓M5 G,F,M3,z];rw[←z];refine Nb (z9t j o) (bors_self _ Eh) ?_;have next:∀(I:M7) Q (S:Bool→Int) K,S=iu w (!Rz j o.d) (W6 j o)→lk I 1=.ptr 0 0→lk I 2=.ptr 1 0→lk I 10=.lst (Oi g) g.length 7→lk I 11=.i g.length→lk I 12=.i ((i:Int)+1)→1<Q.length→Q[0]?=some (.cells (M3 j g L) 0)→Q[1]?=some (.cells [.i (S false),.i (S true)] K)→Nx I [] Q:=by
     rintro I Q S K rfl a1 a2 T U V b1 b2 b3;exact O _ _ _ ⟨N-1,J,i+1,_,K,rfl,J,a1,a2,T,U,by rw[V];simp,b1,b2,b3,hw⟩
    cases hp:Rz j o.d with
    |true =>
     simp[H,D,↓M5 E,B];refine⟨J,next _ _ (iu w false (W6 j o)) (st+1) (by rw[hp];rfl) Av Ba Ae Af (by simp) Ab ?_ ?_⟩
     ·rw[H8 J,M5 G];exact F
     ·rw[Ia Ab];simp[iu]
    |false =>
     simp[H,D,↓M5 E,B];refine⟨J,next _ _ (iu w true (W6 j o)) (st+1) (by rw[hp];rfl) Av Ba Ae Af (by simp) Ab ?_ ?_⟩
     ·rw[H8 J,M5 G];exact F
     ·rw[Ia Ab];simp[iu]
 ·rw[Jo J,Rm]at hw;simp[H,A,D,Y,B,hw];rw[Ia J];simp
end
section
open Go.RowKit Go.Lib Go.Sv
set_option linter.unusedVariables false
def info117:(Tryz.prog.info? 117).map (λi=>(i.zero,i.size,i.bytes))=some (some (.agg #[.int .i64 0,.int .i64 0]),2,16):=Aa
def mixd:Tryz.prog.follows .mixedOrders=true:=Aa
def size117:(Tryz.prog.info? 117).map (·.size)=some 2:=Aa
def info117':∃i0,Tryz.prog.info? 117=some i0∧i0.zero=some (.agg #[.int .i64 0,.int .i64 0])∧i0.size=2∧i0.bytes=16:=by
 have h:=info117;cases hh:Tryz.prog.info? 117 with
 |none=>rw[hh]at h;cases h
 |some i0=>rw[hh]at h;simp at h;exact⟨i0,rfl,h.1,h.2.1,h.2.2⟩
set_option maxHeartbeats 4000000 in
set_option maxRecDepth 1000000 in
def zoa(b off n c vb voff vc:Nat)(vs:List Value)(w:World)(hroom:n+1≤c)(hvl:vs.length=2)(hsp:∀j,j<2→(w.cell? ⟨b,off+n*2+j,none⟩).isSome=true)(hfz:∀j,j<2→w.frozen? ⟨b,off+n*2+j,none⟩=false)
  (hvs:∀j v,vs[j]?=some v→w.cell? ⟨vb,voff+j,none⟩=some v) (h1v:∀v∈vs,v.oneCell'=true) :
  Calls Tryz.prog 131 #[.slice (some ⟨b,off,none⟩) n c,.int .i64 n,.slice (some ⟨vb,voff,none⟩) 1 vc] w λe w'=>e=.returned (.slice (some ⟨b,off,none⟩) (n+1) c)∧w'=w.setCells b (off+n*2) vs:=by
 have mixed:=mixd;obtain⟨i0,hi0,hz0,hz1,hz2⟩:=info117';have hrun:∀ty,(Builtin.append_ #[84,84] ty #[.slice (some ⟨b,off,none⟩) n c,.slice (some ⟨vb,voff,none⟩) 1 vc]).run Tryz.prog w=.ok (.slice (some ⟨b,off,none⟩) (n+1) c) (w.setCells b (off+n*2) vs):=λty=>by
  have:=run_append_room_cells (P:=Tryz.prog) w 84 ty 117 i0 Tryz.underlying84 hi0 b off n c ⟨vb,voff,none⟩ 1 vc vs (by rw[hvl,hz1]) (λj u hj=>by rw[Addr.add_lit];exact hvs j u hj) h1v hroom (λj hj=>by rw[hz1];exact hsp j J) (λj hj=>by rw[hz1];exact hfz j J);rw[hz1]at this;exact this
 clear hsp hfz hvs h1v
 go_enter Tryz.func131,Tryz.ntmps131
 go_wp2_with (at_builtin;refine Lib.wpList_append_run _ rfl _ _ _ _ rfl _ _ rfl rfl _ _ (hrun _) ?_)
 go_ret
 exact⟨rfl,rfl⟩
set_option maxHeartbeats 4000000 in
set_option maxRecDepth 1000000 in
def zfg(base:Option Addr)(n c vb voff vc:Nat)(cs vs:List Value)(w:World)(hnc:n≤c)(hroom:c<n+1)(hb:n≤1000000000)(hcl:cs.length=n*2)(hvl:vs.length=2)(hnil:base=none→n=0)
  (hcs:∀a,base=some a→∀j v,cs[j]?=some v→w.cell? (a.add j)=some v) (hsp:∀a,base=some a→a.spot=none)
  (hvs:∀j v,vs[j]?=some v→w.cell? ⟨vb,voff+j,none⟩=some v) (h1v:∀v∈vs,v.oneCell'=true) :
  Calls Tryz.prog 131 #[.slice base n c,.int .i64 n,.slice (some ⟨vb,voff,none⟩) 1 vc] w λe w' =>
   e=.returned (.slice (some ⟨w.heap.size,0,none⟩) (n+1) (grownCap w (n+1) c 117)) ∧
   w'=w.drew.alloc (.cells (cs.toArray++vs.toArray++Builtin.zeroCells #[.int .i64 0,.int .i64 0] (grownCap w (n+1) c 117-(n+1))) 117):=by
 have mixed:=mixd;obtain⟨i0,hi0,hz0,hz1,hz2⟩:=info117';have hnews:∀w',w'.heap=w.heap→(Builtin.firstCells 2 1 (.slice (some ⟨vb,voff,none⟩) 1 vc)).run Tryz.prog w'=.ok vs.toArray w':=λw' hw=>by
  have:=run_loadCells_list (P:=Tryz.prog) w' ⟨vb,voff,none⟩ vs (λj v hj=>by rw[Addr.add_lit];simp only[World.cell?,hw];exact hvs j v hj);rw[hvl]at this;simpa [Builtin.firstCells] using this
 have hold:(Builtin.firstCells i0.size n (.slice base n c)).run Tryz.prog w.drew=.ok cs.toArray w.drew:=by
  rw[hz1];cases base with
  |none =>
   have h0:=hnil rfl;subst h0;rw[List.length_eq_zero_iff.1 hcl];simp[Builtin.firstCells]
  |some a =>
   have:=run_loadCells_list (P:=Tryz.prog) w.drew a cs (λj v hj=>hcs a rfl j v hj);rw[hcl]at this;simpa [Builtin.firstCells] using this
 have hx:AppX Tryz.prog w 117 i0.size 84 (.slice (some ⟨vb,voff,none⟩) 1 vc) 1 vs.toArray:=⟨_,Tryz.underlying84,.inl ⟨.inr ⟨_,rfl⟩,by simp[Builtin.lenOf],λw' hw=>by rw[hz1];exact hnews w' hw⟩⟩;have hrun:∀ty,(Builtin.append_ #[84,84] ty #[.slice base n c,.slice (some ⟨vb,voff,none⟩) 1 vc]).run Tryz.prog w=.ok (.slice (some ⟨w.heap.size,0,none⟩) (n+1) (grownCap w (n+1) c 117)) (w.drew.alloc (.cells (cs.toArray++vs.toArray++Builtin.zeroCells #[.int .i64 0,.int .i64 0] (grownCap w (n+1) c 117-(n+1))) 117)):=λty =>
  z47 (ty:=ty) (zv:=.agg #[.int .i64 0,.int .i64 0]) (olds:=cs.toArray) Tryz.underlying84 hi0 hx hroom (by rw[hz2];omega) J Tryz.zeroValue117 hold
 clear hx hold hnews hcs hvs h1v;generalize grownCap w (n+1) c 117=G at hrun ⊢;generalize Builtin.zeroCells #[.int .i64 0,.int .i64 0] (G-(n+1))=Z at hrun ⊢
 go_enter Tryz.func131,Tryz.ntmps131
 cases base with
 |none =>
  have h0:=hnil rfl;subst h0
  go_wp2_with (at_builtin;refine Lib.wpList_append_run _ rfl _ _ _ _ rfl _ _ rfl rfl _ _ (hrun _) ?_)
  go_ret
  exact⟨rfl,rfl⟩
 |some a =>
  obtain⟨ab,ao,asp⟩:=a;have:=hsp _ rfl;subst this
  go_wp2_with (at_builtin;refine Lib.wpList_append_run _ rfl _ _ _ _ rfl _ _ rfl rfl _ _ (hrun _) ?_)
  all_goals (go_ret;exact⟨rfl,rfl⟩)
set_option maxHeartbeats 4000000 in
set_option maxRecDepth 1000000 in
def zq0(b off len cap i:Nat)(C:List Value)(w:World)(hi:i<len)(j:Nat)(hj:j=i+1)(hl:len≤cap)(hC:C.length=len*2)(hc:∀j u,C[j]?=some u→w.cell? ⟨b,off+j,none⟩=some u)
  (hf:∀j,j<len*2→w.frozen? ⟨b,off+j,none⟩=false) (h1:∀u∈C,u.oneCell'=true) (hb:len≤1000000000) :
  Calls Tryz.prog 86 #[.slice (some ⟨b,off,none⟩) len cap,.int .i64 i,.int .i64 j] w λe w'=>e=.returned (.slice (some ⟨b,off,none⟩) (len-1) cap)∧w'=(w.drew.setCells b (off+i*2) (C.drop (j*2))).setCells b (off+(len-1)*2) [.int .i64 0,.int .i64 0]:=by
 have mixed:=mixd;obtain⟨i0,hi0,hz0,hz1,hz2⟩:=info117';obtain⟨news,hnews⟩:∃news,news=C.drop (j*2):=⟨_,rfl⟩;have hlen:news.length=(len-j)*2:=by rw[hnews,Jk,hC];omega
 obtain⟨A,hA,hsrc⟩:∃A:Addr,(if cap=j then some (⟨b,off,none⟩:Addr) else some ⟨b,off+j*2,none⟩)=some A∧Hid (∀t u,news[t]?=some u→w.drew.cell? (A.add t)=some u):=by
  by_cases h:cap=j
  ·refine⟨⟨b,off,none⟩,Eg,λt u hu=>?_⟩;have h0:news.length=0:=by rw[hlen];omega
   rw[List.length_eq_zero_iff.1 h0]at hu;simp at hu
  ·refine⟨⟨b,off+j*2,none⟩,Eg,λt u hu=>?_⟩;rw[hnews,Lf]at hu;rw[Addr.add_lit,(J:off+j*2+t=off+(j*2+t))];exact hc _ u hu
 have hcell:∀j,j<len*2→(w.cell? ⟨b,off+j,none⟩).isSome=true:=λj hj=>by
  rw[hc j _ (Ib J)];rfl
 have s1:Hid (news.length=(len-j)*2):=hlen;have s2:Hid (∀u∈news,u.oneCell'=true):=by
  intro u hu;rw[hnews]at hu;exact h1 u (J5 hu)
 have s3:Hid (∀t,t<news.length→(w.drew.cell? ⟨b,off+i*2+t,none⟩).isSome=true∧w.drew.frozen? ⟨b,off+i*2+t,none⟩=false):=by
  intro t ht;rw[hlen]at ht;rw[Je];exact⟨hcell (i*2+t) J,hf (i*2+t) J⟩
 obtain⟨W1,hW1⟩:∃W1,W1=w.drew.setCells b (off+i*2) news:=⟨_,rfl⟩;have hcl:∀ty,(Builtin.clear_ #[84] ty #[.slice (some ⟨b,off+(i+(len-j))*2,none⟩) 1 (cap-(i+(len-j)))]).run Tryz.prog W1=.ok (.tuple #[]) (W1.setCells b (off+(i+(len-j))*2) [.int .i64 0,.int .i64 0]):=by
  intro ty;refine zss W1 84 117 ty _ _ _ Tryz.underlying84 Tryz.zeroValue117 rfl rfl rfl b _ _ (λt ht=>?_) (λt ht=>?_)
  ·rw[hW1];refine z8r _ _ _ _ (λt2 ht2=>(s3.out t2 ht2).1) _ ?_;rw[(J:off+(i+(len-j))*2+t=off+((i+(len-j))*2+t))];exact hcell _ J
  ·rw[hW1,World.frozen?_setCells,(J:off+(i+(len-j))*2+t=off+((i+(len-j))*2+t))];exact hf _ J
 have hW:Hid (W1=w.drew.setCells b (off+i*2) news):=hW1;have hone:len-(i+(len-j))=1:=J
 have hic:i≤cap:=J
 have hjc:j≤cap:=J
 have HN:Hid (news=C.drop (j*2)):=hnews;have HJ:Hid (j=i+1):=hj;have hij:i<j:=J
 have hjl:j≤len:=J
 clear hW1 hc hf hcell hnews hlen hj
 go_enter Tryz.func86,Tryz.ntmps86
 go_wp2_with fail
 go_region_law_o (refine step_append_room rfl (.tmp 22) (.tmp 25) 84 rfl 117 i0 2 Tryz.underlying84 hi0 hz1 b off i cap B6 A (len-j) (cap-j) news B6 s1.out hsrc.out s2.out J s3.out ?_;rw[←hW.out])
 go_wp2
 go_ret
 have hj:=HJ.out;refine⟨by rw[(J:i+(len-j)=len-1)];rfl,?_⟩;rw[hW.out,HN.out,(J:i+(len-j)=len-1)]
set_option maxHeartbeats 4000000 in
set_option maxRecDepth 1000000 in
def Yy(b off n c i vb voff m vc:Nat)(cs vs:List Value)(w:World)(hi:i<n)(hm:0<m)(hm2:m≤1000)(hnc:n≤c)(hroom:c<n+m)(hbig:n≤1000000000)(hcl:cs.length=n*2)(hvl:vs.length=m*2)
  (hbw:b<w.heap.size) (hvw:vb<w.heap.size)
  (hcs:∀j v,cs[j]?=some v→w.cell? ⟨b,off+j,none⟩=some v) (hvs:∀j v,vs[j]?=some v→w.cell? ⟨vb,voff+j,none⟩=some v) (h1c:∀v∈cs,v.oneCell'=true) (h1v:∀v∈vs,v.oneCell'=true) :
  Calls Tryz.prog 131 #[.slice (some ⟨b,off,none⟩) n c,.int .i64 i,.slice (some ⟨vb,voff,none⟩) m vc] w λe w' =>
   ∃(G:Nat) (ROW:Array Value),n+m≤G∧ROW.size=G*2∧(∀(j:Nat) (u:Value),(cs.take (i*2))[j]?=some u→ROW[j]?=some u)∧e=.returned (.slice (some ⟨w.heap.size,0,none⟩) (n+m) G) ∧
   w'=(((w.alloc (.cells ROW 117)).drew.setCells w.heap.size (i*2) vs).drew).setCells w.heap.size ((i+m)*2) (cs.drop (i*2)):=by
 have mixed:=mixd;have u84:=run_underlying Tryz.underlying84;obtain⟨i0,hi0,hz0,hzs,hzb⟩:=info117';have hz1:¬((m:Int)=0):=J
 have hz2:¬((i:Int)=(n:Int)):=J
 have hz3:(c:Int)<(n:Int)+(m:Int):=J
 have hkk:(n:Int)+(m:Int)-(i:Int)=((n+m-i:Nat):Int):=J
 have hik:i+(n+m-i)=n+m:=J
 have hold:(Builtin.firstCells i0.size i (.slice (some ⟨b,off,none⟩) i c)).run Tryz.prog w.drew=.ok (cs.take (i*2)).toArray w.drew:=by
  rw[hzs];have:=run_loadCells_list (P:=Tryz.prog) w.drew ⟨b,off,none⟩ (cs.take (i*2)) (λj v hj=>by
   rw[Addr.add_lit];rw[List.getElem?_take]at hj;split at hj
   ·exact hcs j v hj
   ·cases hj)
  rw[Iu,hcl,Jt J]at this;simpa [Builtin.firstCells] using this
 have hrz:∀ty,(Builtin.append_ #[84,3] ty #[.slice (some ⟨b,off,none⟩) i c,.int .i64 ((n:Int)+(m:Int)-(i:Int))]).run Tryz.prog w =
   .ok (.slice (some ⟨w.heap.size,0,none⟩) (n+m) (grownCap w (n+m) c 117)) (w.drew.alloc (.cells ((cs.take (i*2)).toArray++Builtin.zeroCells (Value.agg #[.int .i64 0,.int .i64 0]).cells (n+m-i)++Builtin.zeroCells (Value.agg #[.int .i64 0,.int .i64 0]).cells (grownCap w (n+m) c 117-(n+m))) 117)):=λty=>by
  have h:=Lib.run_append_grow_zeros w 84 3 ty 117 i0 _ .i64 .i64 Tryz.underlying84 Tryz.underlying3 hi0 hz0 (some ⟨b,off,none⟩) i c (cs.take (i*2)) hold (n+m-i) J J J J (by rw[hzb];omega) (by rw[hzb,hik];exact growslice_fits hroom J);rw[hik]at h;rw[hkk];exact h
 obtain⟨G,hG⟩:∃G,G=grownCap w (n+m) c 117:=⟨_,rfl⟩;obtain⟨ROW,hROW⟩:∃ROW:Array Value,ROW=(cs.take (i*2)).toArray++Builtin.zeroCells (Value.agg #[.int .i64 0,.int .i64 0]).cells (n+m-i)++Builtin.zeroCells (Value.agg #[.int .i64 0,.int .i64 0]).cells (G-(n+m)):=⟨_,rfl⟩;rw[←hG]at hrz;rw[←hROW]at hrz;have hGn:n+m≤G:=by rw[hG];exact grownCap_ge w _ _ _
 have hRl:ROW.size=G*2:=by
  rw[hROW,Jp,Jp,size_zeroCells,size_zeroCells];simp[Value.cells,hcl];omega
 have hRt:∀(j:Nat) (u:Value),(cs.take (i*2))[j]?=some u→ROW[j]?=some u:=λj u hj=>by
  have hl:j<(cs.take (i*2)).length:=(H7.1 hj).1;rw[hROW,Array.append_assoc,Jx (by simpa using hl)];simpa using hj
 obtain⟨W1,hW1⟩:∃W1,W1=w.drew.alloc (.cells ROW 117):=⟨_,rfl⟩;rw[←hW1]at hrz;have hN:∀j,j<(n+m)*2→(W1.cell? ⟨w.heap.size,j,none⟩).isSome=true:=λj hj=>by
  rw[hW1,World.cell?_alloc_at (w:=w.drew) ROW _ w.heap.size j rfl,Jh J];rfl
 have hNf:∀j,W1.frozen? ⟨w.heap.size,j,none⟩=false:=λj=>by rw[hW1];exact World.frozen?_alloc_at (w:=w.drew) ROW _ w.heap.size j rfl
 have hOb:∀j v,w.cell? ⟨b,j,none⟩=some v→W1.cell? ⟨b,j,none⟩=some v:=λj v h=>by rw[hW1,World.cell?_alloc_past (w:=w.drew) _ b j hbw];exact h
 have hOv:∀j v,w.cell? ⟨vb,j,none⟩=some v→W1.cell? ⟨vb,j,none⟩=some v:=λj v h=>by rw[hW1,World.cell?_alloc_past (w:=w.drew) _ vb j hvw];exact h
 have hcpA:∀(W:World),(∀x,W.cell? x=W1.cell? x)→(∀x,W.frozen? x=W1.frozen? x)→∀ty dc,(Builtin.copy_ #[84,84] ty #[.slice (some ⟨w.heap.size,i*2,none⟩) (n+m-i) dc,.slice (some ⟨vb,voff,none⟩) m vc]).run Tryz.prog W=.ok (goInt (Nat.min m (n+m-i))) (W.setCells w.heap.size (i*2) vs):=λW hWc hWf ty dc =>
  zai W _ _ ty 117 w.heap.size (i*2) (n+m-i) dc ⟨vb,voff,none⟩ m vc 2 vs Tryz.underlying84 size117 Em
   (λj v hj=>by rw[Addr.add_lit,hWc];exact hOv _ v (hvs j v hj))
   (λj hj=>by rw[hWc];exact hN _ J) (λj hj=>by rw[hWf];exact hNf _) h1v
 have hG63:G≤9223372036854775807:=by
  have:=grownCap_le_maxLen w (n+m) c 117 (by unfold maxLen;omega);rw[←hG]at this;unfold maxLen at this;omega
 have hGi:¬(G=i):=J
 have hGim:¬(G=i+m):=J
 have hci:¬(c=i):=J
 have hbN:b≠w.heap.size:=J
 have hdl:(cs.drop (i*2)).length=(n-i)*2:=Gc
 have hcpB:∀(W:World),(∀x,W.cell? x=(W1.setCells w.heap.size (i*2) vs).cell? x)→(∀x,W.frozen? x=(W1.setCells w.heap.size (i*2) vs).frozen? x)→∀ty dc sc,(Builtin.copy_ #[84,84] ty #[.slice (some ⟨w.heap.size,(i+m)*2,none⟩) (n+m-(i+m)) dc,.slice (some ⟨b,off+i*2,none⟩) (n-i) sc]).run Tryz.prog W=.ok (goInt (Nat.min (n-i) (n+m-(i+m)))) (W.setCells w.heap.size ((i+m)*2) (cs.drop (i*2))):=λW hWc hWf ty dc sc =>
  zai W _ _ ty 117 w.heap.size ((i+m)*2) (n+m-(i+m)) dc ⟨b,off+i*2,none⟩ (n-i) sc 2 (cs.drop (i*2)) Tryz.underlying84 size117 En
   (λj v hj=>by
    rw[Addr.add_lit,hWc,World.cell?_setCells_out _ _ _ _ _ (λh _=>absurd h hbN),Je];exact hOb _ v (hcs (i*2+j) v (by rwa [Lf]at hj)))
   (λj hj=>by rw[hWc];exact z8r _ _ _ _ (λt ht=>hN _ J) _ (hN _ J))
   (λj hj=>by rw[hWf,World.frozen?_setCells];exact hNf _) (λv hv=>h1c v (J5 hv))
 subst hW1;have hE1:∀x,((w.alloc (.cells ROW 117)).drew).cell? x=(w.drew.alloc (.cells ROW 117)).cell? x:=λx=>rfl
 have hE2:∀x,((w.alloc (.cells ROW 117)).drew).frozen? x=(w.drew.alloc (.cells ROW 117)).frozen? x:=λx=>rfl
 have hF1:∀x,(((w.alloc (.cells ROW 117)).drew.setCells w.heap.size (i*2) vs).drew).cell? x=((w.drew.alloc (.cells ROW 117)).setCells w.heap.size (i*2) vs).cell? x:=λx=>rfl
 have hF2:∀x,(((w.alloc (.cells ROW 117)).drew.setCells w.heap.size (i*2) vs).drew).frozen? x=((w.drew.alloc (.cells ROW 117)).setCells w.heap.size (i*2) vs).frozen? x:=λx=>rfl
 have hw1:IntKind.i64.wrap ((i:Int)+(m:Int))=(i:Int)+(m:Int):=Bd
 have hw2:IntKind.i64.wrap ((n:Int)+(m:Int))=(n:Int)+(m:Int):=Bd
 have hw3:IntKind.i64.wrap ((n:Int)+(m:Int)-(i:Int))=(n:Int)+(m:Int)-(i:Int):=Bd
 have hb1:(0:Int)≤(i:Int)+(m:Int):=J
 have hin:i≤n:=J
 have htn:((i:Int)+(m:Int)).toNat=i+m:=J
 have hb3:(i:Int)≤(n:Int):=J
 have RR:Hid (ROW.size=G*2∧∀(j:Nat) (u:Value),(cs.take (i*2))[j]?=some u→ROW[j]?=some u):=⟨hRl,hRt⟩;clear hkk hik hold hROW hG hRl hRt
 go_enter Tryz.func131,Tryz.ntmps131
 go_wp2_with (first
  |(at_builtin;refine Lib.wpList_append_run _ rfl _ _ _ _ rfl _ _ rfl rfl _ _ (hrz _) ?_)
  |(at_builtin;refine z4o _ rfl _ _ 84 84 rfl _ _ rfl rfl (hcpA _ hE1 hE2 _ _) ?_)
  |(at_builtin;refine z4o _ rfl _ _ 84 84 rfl _ _ rfl rfl (hcpB _ (λ_=>rfl) (λ_=>rfl) _ _ _) ?_))
 go_region_law_o (refine zdk rfl _ _ 84 84 rfl (.slice (some ⟨w.heap.size,(i+m)*2,none⟩) (n+m-(i+m)) (G-(i+m))) (.slice (some ⟨b,off+i*2,none⟩) (n-i) (c-i)) B6 B6 (hcpB _ hF1 hF2 3 (G-(i+m)) (c-i)) ?_)
 go_wp2
 go_ret
 exact⟨G,ROW,hGn,RR.out.1,RR.out.2,rfl,rfl⟩
set_option maxHeartbeats 4000000 in
set_option maxRecDepth 1000000 in
def zy6(b off n c i vb voff m vc:Nat)(cs vs:List Value)(w w2:World)(hi:i<n)(hm:0<m)(hm2:m≤1000)(hbig:n≤1000000000)(hroom:n+m≤c)(hvb:vb≠b)(hcl:cs.length=n*2)(hvl:vs.length=m*2)
  (hcs:∀j v,cs[j]?=some v→w.cell? ⟨b,off+j,none⟩=some v) (hsp:∀j,j<(n+m)*2→(w.cell? ⟨b,off+j,none⟩).isSome=true) (hfz:∀j,j<(n+m)*2→w.frozen? ⟨b,off+j,none⟩=false)
  (hvs:∀j v,vs[j]?=some v→w.cell? ⟨vb,voff+j,none⟩=some v) (h1c:∀v∈cs,v.oneCell'=true) (h1v:∀v∈vs,v.oneCell'=true) (hw2:w2.heap=w.heap)
  (hov:∀cb,(callFunc 155 #[.slice (some ⟨vb,voff,none⟩) m vc,.slice (some ⟨b,off+(i+m)*2,none⟩) (n+m-(i+m)) cb]).run Tryz.prog w=.ok (.value (.bool false)) w2) :
  Calls Tryz.prog 131 #[.slice (some ⟨b,off,none⟩) n c,.int .i64 i,.slice (some ⟨vb,voff,none⟩) m vc] w λe w' =>
   e=.returned (.slice (some ⟨b,off,none⟩) (n+m) c)∧w'=(w2.drew.setCells b (off+(i+m)*2) (cs.drop (i*2))).setCells b (off+i*2) vs:=by
 have mixed:=mixd;have u84:=run_underlying Tryz.underlying84;have hz1:¬((m:Int)=0):=J
 have hz2:¬((i:Int)=(n:Int)):=J
 have hdl:(cs.drop (i*2)).length=(n-i)*2:=Gc
 have hw1:IntKind.i64.wrap ((i:Int)+(m:Int))=(i:Int)+(m:Int):=Bd
 have hw3:IntKind.i64.wrap ((n:Int)+(m:Int))=(n:Int)+(m:Int):=Bd
 have hb1:(0:Int)≤(i:Int)+(m:Int):=J
 have hin:i≤n:=J
 have htn:((i:Int)+(m:Int)).toNat=i+m:=J
 have hb2:¬(c=i+m):=J
 have hb3:(i:Int)≤(n:Int)+(m:Int):=J
 have hb4:¬(c=i):=J
 have hC2:∀x,w2.cell? x=w.cell? x:=λx=>by simp only[World.cell?,hw2]
 have hF2:∀x,w2.frozen? x=w.frozen? x:=λx=>by simp only[World.frozen?,hw2]
 have hcp1:∀ty dc sc,(Builtin.copy_ #[84,84] ty #[.slice (some ⟨b,off+(i+m)*2,none⟩) (n+m-(i+m)) dc,.slice (some ⟨b,off+i*2,none⟩) (n+m-i) sc]).run Tryz.prog w2.drew=.ok (goInt (Nat.min (n+m-i) (n+m-(i+m)))) (w2.drew.setCells b (off+(i+m)*2) (cs.drop (i*2))):=λty dc sc =>
  zai w2.drew _ _ ty 117 b (off+(i+m)*2) (n+m-(i+m)) dc ⟨b,off+i*2,none⟩ (n+m-i) sc 2 (cs.drop (i*2)) Tryz.underlying84 size117 En
   (λj v hj=>by rw[Addr.add_lit,Je];exact (hC2 _).trans (hcs (i*2+j) v (by rwa [Lf]at hj)))
   (λj hj=>by rw[Je];show (w2.cell? _).isSome=true;rw[hC2];exact hsp _ J) (λj hj=>by rw[Je];exact (hF2 _).trans (hfz _ J)) (λv hv=>h1c v (J5 hv))
 obtain⟨W1,hW1⟩:∃W1,W1=w2.drew.setCells b (off+(i+m)*2) (cs.drop (i*2)):=⟨_,rfl⟩;have hsp1:∀k,k<(n+m)*2→(W1.cell? ⟨b,off+k,none⟩).isSome=true:=λk hk=>by
  rw[hW1];refine z8r _ _ _ _ (λt ht=>by show (w2.cell? _).isSome=true;rw[hC2,Je];exact hsp _ J) _ ?_;show (w2.cell? _).isSome=true;rw[hC2];exact hsp k hk
 have hcp2:∀(W:World),(∀x,W.cell? x=W1.cell? x)→(∀x,W.frozen? x=W1.frozen? x)→∀ty dc,(Builtin.copy_ #[84,84] ty #[.slice (some ⟨b,off+i*2,none⟩) (n+m-i) dc,.slice (some ⟨vb,voff,none⟩) m vc]).run Tryz.prog W=.ok (goInt (Nat.min m (n+m-i))) (W.setCells b (off+i*2) vs):=λW hWc hWf ty dc =>
  zai W _ _ ty 117 b (off+i*2) (n+m-i) dc ⟨vb,voff,none⟩ m vc 2 vs Tryz.underlying84 size117 Em
   (λj v hj=>by
    rw[Addr.add_lit,hWc,hW1,World.cell?_setCells_out b _ _ _ _ (λh _=>absurd h hvb)];exact (hC2 _).trans (hvs j v hj))
   (λj hj=>by rw[hWc,Je];exact hsp1 _ J) (λj hj=>by rw[hWf,hW1,World.frozen?_setCells,Je];exact (hF2 _).trans (hfz _ J)) h1v
 rw[←hW1]at hcp1;have HC:Hid ((∀x,w2.cell? x=w.cell? x)∧(∀x,w2.frozen? x=w.frozen? x)∧w2.heap=w.heap):=⟨hC2,hF2,hw2⟩;clear hC2 hF2 hw2 hcs hvs hsp hfz hsp1 h1c h1v
 go_enter Tryz.func131,Tryz.ntmps131
 go_wp2_with (simp only[hov])
 go_region_law_o (refine zdk rfl _ _ 84 84 rfl _ _ B6 B6 (hcp1 _ _ _) ?_)
 go_wp2_with (at_builtin;refine z4o _ rfl _ _ 84 84 rfl _ _ rfl rfl (hcp2 _ (λ_=>rfl) (λ_=>rfl) _ _) ?_)
 go_ret
 first|exact⟨rfl,rfl⟩|exact⟨rfl,by rw[hW1]⟩
abbrev P2:={x:Value×Value // x.1.oneCell'=true∧x.2.oneCell'=true}
instance:Inhabited P2:=⟨⟨(.bool false,.bool false),rfl,rfl⟩⟩
def U5(x:P2):List Value:=[x.1.1,x.1.2]
def Qe(ps:List P2):List Value:=ps.flatMap U5
def z89(x:P2)(ps:List P2):Qe (x::ps)=x.1.1::x.1.2::Qe ps:=rfl
def flatP_nil:Qe []=[]:=rfl
def z77(ps qs:List P2):Qe (ps++qs)=Qe ps++Qe qs:=by simp[Qe]
def flatP_length:∀ps:List P2,(Qe ps).length=ps.length*2
 |[]=>rfl
 |x::ps=>by rw[z89];simp only[Iy,flatP_length ps];omega
def flatP_get:∀(ps:List P2) (t:Nat),(Qe ps)[t]?=(ps[t/2]?).map λx=>if t%2=0 then x.1.1 else x.1.2
 |[],t=>by simp[flatP_nil]
 |x::ps,0=>by simp[z89]
 |x::ps,1=>by simp[z89]
 |x::ps,t+2=>by
  rw[z89,Iv,Iv,flatP_get ps t,(J:(t+2)/2=t/2+1),Iv,(J:(t+2)%2=t%2)]
def flatP_of:∀(n:Nat) (cs:List Value),cs.length=n*2→(∀v∈cs,v.oneCell'=true)→∃ps:List P2,ps.length=n∧Qe ps=cs
 |0,cs,h,_=>⟨[],rfl,by rw[flatP_nil];exact (Is J).symm⟩
 |n+1,cs,h,h1=>by
  match cs,h,h1 with
  |[],h,_=>simp at h
  |[_],h,_=>simp at h;omega
  |x::y::cs,h,h1 =>
   obtain⟨ps,q1,q2⟩:=flatP_of n cs (by simp at h;omega) (λv hv=>h1 v (by simp[hv]));exact⟨⟨(x,y),h1 x N,h1 y N⟩::ps,by simp[q1],by rw[z89,q2]⟩
def zcx(ps:List P2):(«Sort».flatK U5 2 ps.toArray)=(Qe ps).toArray:=by
 apply Array.ext_getElem?;intro t;rw[show (Qe ps).toArray[t]?=(Qe ps)[t]? from Jm,flatP_get];by_cases h:t<ps.length*2
 ·have h2:t/2<ps.length:=J
  rw[Jh Bb,←getElem!_pos («Sort».flatK U5 2 ps.toArray) t Bb,«Sort».get_flatK _ _ _ t Bb,Ib h2,Jw]
  congr 1
  rw[getElem!_pos ps.toArray (t/2) (by simpa using h2)];have:t%2=0∨t%2=1:=J
  rcases this with e|e
  ·rw[e,Ij rfl];rfl
  ·rw[e,Ii J];rfl
 ·rw[Lz Ab,Kf J];rfl
def rn:Go.Shelf.Ren where
 f:=λx=>match x with
  |35=>179
  |n=>n
 t:=λx=>match x with
  |22=>84
  |23=>117
  |3=>3
  |4=>4
  |0=>0
  |n=>n
 g:=λx=>x
def rn_lays:SlLaysE0.n35 Tryz.prog rn where
 mixed:=mixd
 f35 := ⟨"slices.Reverse[[]keysmith/buffers.pair[int],keysmith/buffers.pair[int]]", Ad, Tryz.func179.trans (congrArg some Aa)⟩
 t0:=Tryz.underlying0
 a0:=Tryz.isAgg0
 z0:=Tryz.sizeOf0
 v0:=Tryz.zeroValue0
 t3:=Tryz.underlying3
 a3:=Tryz.isAgg3
 z3:=Tryz.sizeOf3
 v3:=Tryz.zeroValue3
 t4:=Tryz.underlying4
 a4:=Tryz.isAgg4
 z4:=Tryz.sizeOf4
 v4:=Tryz.zeroValue4
 t22:=Tryz.underlying84
 a22:=Tryz.isAgg84
 z22:=Tryz.sizeOf84
 v22:=Tryz.zeroValue84
def zu2(w:World)(q b:Nat):Turn w (w.drewN q) b:=⟨rfl,rfl,rfl,If _,λ_ _ _=>rfl⟩
def zaf(ps:List P2)(pre post:List Value)(b d0 d cap0 cap n:Nat)(w:World)(hd:d=d0+pre.length)(hn:n=ps.length)(hsz:n≤2000000000)(hfit:pre.length+n*2≤cap0*2)(hR:RowIn w b d0 cap0 2 (pre++Qe ps++post)) :
  Calls Tryz.prog 179 #[.slice (some ⟨b,d,none⟩) n cap] w λe w'=>e=.returned (.tuple #[])∧Turn w w' b∧RowIn w' b d0 cap0 2 (pre++Qe ps.reverse++post):=by
 subst hd hn;have hH:«Sort».Holds id w b (d0+pre.length) («Sort».flatK U5 2 ps.toArray):=by
  intro j hj;rw[zcx]at hj ⊢;have hj':j<(Qe ps).length:=by simpa using hj
  rw[flatP_length]at hj';refine⟨?_,?_⟩
  ·rw[Je];have := hR.cell (pre.length + j) ((Qe ps)[j]'(by rw [flatP_length];exact hj')) (by
    rw[I0,Iq J,Lq,Ic (by rw[flatP_length];exact hj'),Ib])
   rw[this,getElem!_pos _ j hj];rfl
  ·rw[Je];exact hR.free (pre.length+j) J
 have hc:=AnyQ.slices_Reverse (P:=Tryz.prog) (ρ:=rn) rn_lays 2 Tryz.isAgg117 Tryz.sizeOf117 U5 (λ_=>rfl) (λx v hv=>by
  simp only[U5,Ik,Ka,Mf]at hv;rcases hv with rfl|rfl
  ·exact x.2.1
  ·exact x.2.2) b (d0+pre.length) cap ps.toArray w hH Ab
 have hsz2:ps.toArray.size=ps.length:=N
 rw[hsz2]at hc;refine Calls.mono (show Calls Tryz.prog 179 _ w _ from hc) ?_;rintro e w' ⟨rfl,q,rfl⟩;have e1:«Sort».putRowK U5 2 («Sort».ahead w q) b (d0+pre.length) ps.toArray.reverse=(w.drewN q).setCells b (d0+pre.length) (Qe ps.reverse):=by
  have:=Go.Lib.putRow_eq_setCells id w b (d0+pre.length) («Sort».flatK U5 2 ps.toArray) (Qe ps.reverse) q hH (by rw[zcx];simp[flatP_length]);rw[List.map_id]at this;rw[←this];unfold «Sort».putRowK;rw[←zcx,List.reverse_toArray]
 rw[e1];refine⟨rfl,(zu2 w q b).cells (.inl rfl) _ _,RowIn.put (w:=w.drewN q) (cs:=pre++Qe ps++post) ⟨hR.has⟩ pre.length (Qe ps.reverse) (by rw[flatP_length,Mu];omega) λj u hj=>?_⟩;have hl1:(Qe ps.reverse).length=(Qe ps).length:=by rw[flatP_length,flatP_length,Mu]
 by_cases h1:j<pre.length
 ·rw[Ii J];rw[I0,Ic h1]at hj ⊢;exact hj
 ·rw[I0,Iq J]at hj;by_cases h2:j-pre.length<(Qe ps.reverse).length
  ·rw[Ic h2]at hj;rw[Ij J];exact hj
  ·rw[Iq J,hl1]at hj;rw[Ii J,I0,Iq J,Iq J];exact hj
set_option maxHeartbeats 600000 in
set_option maxRecDepth 1000000 in
def zhc(A B:List P2)(pre:List Value)(b d0 d cap0 cap n r:Nat)(w:World)(hd:d=d0+pre.length)(hr:r=A.length)(hn:n=r+B.length)(hB:0<B.length)(hsz:n≤2000000000)(hcap:n≤cap)(hfit:pre.length+n*2≤cap0*2)(hR:RowIn w b d0 cap0 2 (pre++Qe (A++B))) :
  Calls Tryz.prog 173 #[.slice (some ⟨b,d,none⟩) n cap,.int .i64 r] w λe w'=>e=.returned (.tuple #[])∧Turn w w' b∧RowIn w' b d0 cap0 2 (pre++Qe (B++A)):=by
 have mixed:=mixd;have e179:∀args w,(callFunc 179 args).run Tryz.prog w=.ok (.enter 179 args) w:=enters_of Tryz.func179 Aa rfl;have h1:Calls Tryz.prog 179 #[.slice (some ⟨b,d,none⟩) r cap] w λe w'=>e=.returned (.tuple #[])∧Hid (Turn w w' b∧RowIn w' b d0 cap0 2 (pre++Qe A.reverse++Qe B)) :=
  zaf A pre (Qe B) b d0 d cap0 cap r w hd hr J J (by rw[z77,←I0]at hR;exact hR)
 have h2:∀w1,Hid (Turn w w1 b∧RowIn w1 b d0 cap0 2 (pre++Qe A.reverse++Qe B))→Calls Tryz.prog 179 #[.slice (some ⟨b,d+r*2,none⟩) (n-r) (cap-r)] w1 λe w'=>e=.returned (.tuple #[])∧Hid (Turn w1 w' b∧RowIn w' b d0 cap0 2 (pre++Qe A.reverse++Qe B.reverse++[])):=λw1 hw =>
  zaf B (pre++Qe A.reverse) [] b d0 (d+r*2) cap0 (cap-r) (n-r) w1 (by rw[Im,flatP_length,Mu];omega) J J (by rw[Im,flatP_length,Mu];omega) (by rw[Jf];exact hw.out.2)
 have h3:∀w0 w1,Hid (Turn w0 w1 b∧RowIn w1 b d0 cap0 2 (pre++Qe A.reverse++Qe B.reverse++[]))→Calls Tryz.prog 179 #[.slice (some ⟨b,d,none⟩) n cap] w1 λe w'=>e=.returned (.tuple #[])∧Hid (Turn w1 w' b∧RowIn w' b d0 cap0 2 (pre++Qe (A.reverse++B.reverse).reverse++[])):=λw0 w1 hw =>
  zaf (A.reverse++B.reverse) pre [] b d0 d cap0 cap n w1 hd Ab J J (by have hw:=hw.out.2;rw[Jf]at hw ⊢;rw[z77,←I0];exact hw)
 have hrn:r≤n:=J
 have hrc:r≤cap:=J
 have hcr:¬(cap=r):=J
 have HR:Hid (B++A=(A.reverse++B.reverse).reverse):=(N:B++A=(A.reverse++B.reverse).reverse);clear hR hfit hsz hd hr hn hB
 go_enter Tryz.func173,Tryz.ntmps173
 go_wp2_with (first
  |(go_at_fn 179;refine (h3 _ _ t2).mono ?_;rintro e w3 ⟨rfl,t3⟩)
  |(go_at_fn 179;refine (h2 _ t1).mono ?_;rintro e w2 ⟨rfl,t2⟩)
  |(go_at_fn 179;refine h1.mono ?_;rintro e w1 ⟨rfl,t1⟩))
 go_end0
 refine⟨rfl,(t1.out.1.trans t2.out.1).trans t3.out.1,?_⟩;have r3:=t3.out.2;rw[Jf]at r3;rw[HR.out];exact r3
set_option maxHeartbeats 600000 in
set_option maxRecDepth 1000000 in
def zg5(A B:List P2)(pre:List Value)(b d0 d cap0 cap n m:Nat)(w:World)(hd:d=d0+pre.length)(hm:m=B.length)(hn:n=A.length+m)(hB:0<m)(hsz:n≤2000000000)(hcap:n≤cap)(hfit:pre.length+n*2≤cap0*2)(hR:RowIn w b d0 cap0 2 (pre++Qe (A++B))) :
  Calls Tryz.prog 156 #[.slice (some ⟨b,d,none⟩) n cap,.int .i64 m] w λe w'=>e=.returned (.tuple #[])∧Hid (Turn w w' b∧RowIn w' b d0 cap0 2 (pre++Qe (B++A))):=by
 have mixed:=mixd;have e173:∀args w,(callFunc 173 args).run Tryz.prog w=.ok (.enter 173 args) w:=enters_of Tryz.func173 Aa rfl;have hr:(n:Int)-(m:Int)=((n-m:Nat):Int):=J
 have hw:IntKind.i64.wrap ((n:Int)-(m:Int))=(n:Int)-(m:Int):=Bd
 have h1:Calls Tryz.prog 173 #[.slice (some ⟨b,d,none⟩) n cap,.int .i64 ((n:Int)-(m:Int))] w λe w'=>e=.returned (.tuple #[])∧Hid (Turn w w' b∧RowIn w' b d0 cap0 2 (pre++Qe (B++A))):=by
  rw[hr];exact zhc A B pre b d0 d cap0 cap n (n-m) w hd J J J hsz hcap hfit hR
 clear hR hfit hsz hd hn hr hm
 go_enter Tryz.func156,Tryz.ntmps156
 go_wp2_with (go_at_fn 173;refine h1.mono ?_;rintro e w1 ⟨rfl,t1⟩)
 go_end0
 exact⟨rfl,t1⟩
set_option maxHeartbeats 1000000 in
set_option maxRecDepth 1000000 in
def au(b off n c i vb voff m vc:Nat)(cs vs:List Value)(w w2:World)(hi:i<n)(hm:0<m)(hm2:m≤1000)(hbig:n≤1000000000)(hroom:n+m≤c)(hvb:vb≠b)(hcl:cs.length=n*2)(hvl:vs.length=m*2)
  (hR:RowIn w b off c 2 cs) (hvs:∀j v,vs[j]?=some v→w.cell? ⟨vb,voff+j,none⟩=some v) (h1c:∀v∈cs,v.oneCell'=true) (h1v:∀v∈vs,v.oneCell'=true) (hw2:Turn w w2 b) (hw2h:w2.heap=w.heap)
  (hov:∀cb,(callFunc 155 #[.slice (some ⟨vb,voff,none⟩) m vc,.slice (some ⟨b,off+(i+m)*2,none⟩) (n+m-(i+m)) cb]).run Tryz.prog w=.ok (.value (.bool true)) w2) :
  Calls Tryz.prog 131 #[.slice (some ⟨b,off,none⟩) n c,.int .i64 i,.slice (some ⟨vb,voff,none⟩) m vc] w λe w' =>
   e=.returned (.slice (some ⟨b,off,none⟩) (n+m) c)∧Hid (Turn w w' b∧RowIn w' b off c 2 (cs.take (i*2)++vs++cs.drop (i*2))):=by
 have mixed:=mixd;have u84:=run_underlying Tryz.underlying84;have e156:∀args w,(callFunc 156 args).run Tryz.prog w=.ok (.enter 156 args) w:=enters_of Tryz.func156 Aa rfl;have hz1:¬((m:Int)=0):=J
 have hz2:¬((i:Int)=(n:Int)):=J
 have hw1:IntKind.i64.wrap ((i:Int)+(m:Int))=(i:Int)+(m:Int):=Bd
 have hw3:IntKind.i64.wrap ((n:Int)+(m:Int))=(n:Int)+(m:Int):=Bd
 have hb1:(0:Int)≤(i:Int)+(m:Int):=J
 have hin:i≤n:=J
 have htn:((i:Int)+(m:Int)).toNat=i+m:=J
 have hb2:¬(c=i+m):=J
 have hb3:(i:Int)≤(n:Int)+(m:Int):=J
 have hb4:¬(c=i):=J
 have hb5:¬(c=n):=J
 obtain⟨A,ha1,ha2⟩:=flatP_of (n-i) (cs.drop (i*2)) Gc (λv hv=>h1c v (J5 hv));obtain⟨B,hb1',hb2'⟩:=flatP_of m vs hvl h1v;have hR2:RowIn w2 b off c 2 cs:=⟨by obtain⟨a1,a2,a3,a4,a5⟩:=hR.has;exact⟨a1,a2,a3,a4,by rw[hw2h];exact a5⟩⟩;have hcp:∀ty dc,(Builtin.copy_ #[84,84] ty #[.slice (some ⟨b,off+n*2,none⟩) m dc,.slice (some ⟨vb,voff,none⟩) m vc]).run Tryz.prog w2=.ok (goInt (Nat.min m m)) (w2.setCells b (off+n*2) vs):=λty dc =>
  zai w2 _ _ ty 117 b (off+n*2) m dc ⟨vb,voff,none⟩ m vc 2 vs Tryz.underlying84 size117 (by rw[hvl];exact congrArg (· * 2) (Nat.min_self m).symm)
   (λj v hj=>by rw[Addr.add_lit];simp only[World.cell?,hw2h];exact hvs j v hj)
   (λj hj=>by rw[Je];exact hR2.room _ J) (λj hj=>by rw[Je];exact hR2.free _ J) h1v
 have hR3:RowIn (w2.setCells b (off+n*2) vs) b off c 2 (cs.take (i*2)++Qe (A++B)):=by
  rw[z77,ha2,hb2',←I0,Jr];refine RowIn.put hR2 (n*2) vs J λj u hj=>?_
  by_cases h:j<n*2
  ·rw[Ii J];rw[Ic J]at hj;exact hj
  ·rw[Iq J,hcl]at hj;have:=(H7.1 hj).1;rw[Ij J];exact hj
 have ht:(cs.take (i*2)).length=i*2:=by rw[Iu,hcl];omega
 have h1:=zg5 A B (cs.take (i*2)) b off (off+i*2) c (c-i) (n+m-i) m (w2.setCells b (off+n*2) vs) (by rw[ht]) hb1'.symm J hm J J (by rw[ht];omega) hR3;rw[z77,hb2',ha2,←I0]at h1;have HT:Hid (Turn w w2 b):=hw2;clear hR hR2 hR3 hvs h1c h1v hw2 hw2h ha1 ha2 hb1' hb2' ht;generalize cs.take (i*2)++vs++cs.drop (i*2)=RR at h1 ⊢;obtain⟨W3,hW3⟩:∃W3,W3=w2.setCells b (off+n*2) vs:=⟨_,rfl⟩;rw[←hW3]at h1 hcp;have HW:Hid (W3=w2.setCells b (off+n*2) vs):=hW3;clear hW3
 go_enter Tryz.func131,Tryz.ntmps131
 go_wp2_with (first
  |(at_builtin;refine z4o _ rfl _ _ 84 84 rfl _ _ rfl rfl (hcp _ _) ?_)
  |(go_at_fn 156;refine h1.mono ?_;rintro e w1 ⟨rfl,t1⟩))
 go_ret
 refine⟨rfl,(HT.out.trans ?_).trans t1.out.1,t1.out.2⟩;rw[HW.out];exact (Turn.refl w2 b).cells (.inl rfl) _ _
def Put(w:World)(b n:Nat)(cs:List Value)(e:Ending)(w':World):Prop :=
 ∃b' d' cap',e=.returned (.slice (some ⟨b',d',none⟩) n cap')∧n≤cap'∧Turn w w' b∧RowIn w' b' d' cap' 2 cs∧(b'=b∨w.heap.size≤b')
def ztq(b off len cap i:Nat)(C:List Value)(w:World)(hi:i<len)(hl:len≤cap)(hb:len≤1000000000)(hR:RowIn w b off cap 2 C)(hC:C.length=len*2)(h1:∀u∈C,u.oneCell'=true) :
  Calls Tryz.prog 86 #[.slice (some ⟨b,off,none⟩) len cap,.int .i64 i,.int .i64 (i+1:Nat)] w (Put w b (len-1) (C.take (i*2)++C.drop ((i+1)*2))):=by
 have hc:len*2≤cap*2:=Ip _ hl;refine (zq0 b off len cap i C w hi (i+1) rfl hl hC hR.cell (λj hj=>hR.free j J) h1 hb).mono ?_;rintro e w' ⟨rfl,rfl⟩;have hd:(C.drop ((i+1)*2)).length=(len-(i+1))*2:=by rw[Jk,hC];omega
 have ht:(C.take (i*2)).length=i*2:=by rw[Iu,hC];omega
 refine⟨b,off,cap,rfl,J,((Turn.refl w b).drew.cells (.inl rfl) _ _).cells (.inl rfl) _ _,RowIn.put (cs:=C.take (i*2)++C.drop ((i+1)*2)) (RowIn.put hR.drew (i*2) _ (by rw[hd];omega) λj u hj=>?_) ((len-1)*2) _ Ab λj u hj=>?_,.inl rfl⟩
 ·by_cases h:j<i*2
  ·rw[Ic J,I4 h]at hj;rw[Ii J];exact hj
  ·rw[Iq J,ht]at hj;have:=(H7.1 hj).1;rw[Ij J];exact hj
 ·have:=(H7.1 hj).1;rw[Im,ht,hd]at this;rw[Ii J];exact hj
def ztm(n c vb voff vc:Nat)(vs:List Value)(w:World)(hvl:vs.length=2)(hvs:∀j v,vs[j]?=some v→w.cell? ⟨vb,voff+j,none⟩=some v)(h1v:∀v∈vs,v.oneCell'=true) :
  Calls Tryz.prog 131 #[.slice none 0 0,.int .i64 (0:Nat),.slice (some ⟨vb,voff,none⟩) 1 vc] w λe w'=>∃A:Array Value,∃G,1≤G∧A.size=G*2∧(∀(j:Nat) (u:Value),vs[j]?=some u→A[j]?=some u)∧e=.returned (.slice (some ⟨w.heap.size,0,none⟩) 1 G)∧w'=w.drew.alloc (.cells A 117):=by
 refine (zfg none 0 0 vb voff vc [] vs w (If _) J J rfl hvl (λ_=>rfl) (λa h=>Am) (λa h=>Am) hvs h1v).mono ?_;rintro e w' ⟨rfl,rfl⟩;have hG:=grownCap_ge w 1 0 117;refine⟨_,_,hG,?_,λj u hj=>?_,rfl,rfl⟩
 ·rw[Jp,Jp,size_zeroCells];simp[hvl];omega
 ·have:=(H7.1 hj).1;rw[Array.append_assoc,My N,Jx (by simpa using this)];simpa using hj
def zu3(b off len cap i vb voff vc:Nat)(C vs:List Value)(w:World)(hi:i≤len)(hl:len≤cap)(hb:len≤1000000000)(hvb:vb≠b)(hR:RowIn w b off cap 2 C)(hC:C.length=len*2)(h1:∀u∈C,u.oneCell'=true)
  (hV:RowIn w vb voff 1 2 vs) (hvl:vs.length=2) (h1v:∀u∈vs,u.oneCell'=true) :
  Calls Tryz.prog 131 #[.slice (some ⟨b,off,none⟩) len cap,.int .i64 i,.slice (some ⟨vb,voff,none⟩) 1 vc] w (Put w b (len+1) (C.take (i*2)++vs++C.drop (i*2))):=by
 have hbl:=hR.lt;have ht:(C.take (i*2)).length=i*2:=by rw[Iu,hC];omega
 have hd:(C.drop (i*2)).length=(len-i)*2:=by rw[Jk,hC];omega
 by_cases hin:i=len
 ·subst hin;have e1:C.take (i*2)++vs++C.drop (i*2)=C++vs:=by rw[Io J,List.drop_eq_nil_of_le J,Jf]
  rw[e1];by_cases hroom:i+1≤cap
  ·have hc:(i+1)*2≤cap*2:=Ip _ hroom;refine (zoa b off i cap vb voff vc vs w hroom hvl (λj hj=>by rw[Je];exact hR.room _ J) (λj hj=>by rw[Je];exact hR.free _ J) hV.cell h1v).mono ?_;rintro e w' ⟨rfl,rfl⟩;refine⟨b,off,cap,rfl,hroom,(Turn.refl w b).cells (.inl rfl) _ _,RowIn.put hR (i*2) vs J λj u hj=>?_,.inl rfl⟩;by_cases h:j<i*2
   ·rw[Ic J]at hj;rw[Ii J];exact hj
   ·rw[Iq J,hC]at hj;have:=(H7.1 hj).1;rw[Ij J];exact hj
  ·refine (zfg (some ⟨b,off,none⟩) i cap vb voff vc C vs w hl J hb hC hvl (λh=>Am) (λa h j v hj=>by cases h;rw[Addr.add_lit];exact hR.cell j v hj) (λa h=>Ce) hV.cell h1v).mono ?_;rintro e w' ⟨rfl,rfl⟩;have hG:=grownCap_ge w (i+1) cap 117;refine⟨w.heap.size,0,_,rfl,hG,(Turn.refl w b).drew.alloc _,RowIn.new w.drew _ _ _ _ _ ?_ λj u hj=>?_,.inr (If _)⟩
   ·rw[Jp,Jp,size_zeroCells];simp[hvl,hC];omega
   ·have:=(H7.1 hj).1;rw[Jx (by simpa using this)];simpa using hj
 ·by_cases hroom:len+1≤cap
  ·have hc:(len+1)*2≤cap*2:=Ip _ hroom;obtain⟨vsA,eA,loA,hiA,a1,a2,a3,a4⟩:=hV.has;obtain⟨vsB,eB,loB,hiB,b1,b2,b3,b4⟩:=hR.has;have hov:∃r w2,(∀cb,(callFunc 155 #[.slice (some ⟨vb,voff,none⟩) 1 vc,.slice (some ⟨b,off+(i+1)*2,none⟩) (len+1-(i+1)) cb]).run Tryz.prog w=.ok (.value (.bool r)) w2)∧w2.heap=w.heap∧w2.os=w.os∧w2.tape=w.tape∧w2.output=w.output:=by
    have hf:w.frozen? ⟨vb,voff,none⟩=false:=by have:=hV.free 0 J;simpa using this
    obtain⟨r,w2,q1,q2⟩:=zfw (P:=Tryz.prog) w 84 4 117 Tryz.underlying84 2 Tryz.sizeOf117 ⟨vb,voff,none⟩ ⟨b,off+(i+1)*2,none⟩ 1 vc (len+1-(i+1)) 0 hvb eA eB vsA.size vsB.size
     (by simp[World.shape?,a1]) (by simp[World.shape?,b1]) J J hf
    refine⟨r,w2,λcb=>?_,q2⟩;rw[run_callFunc_extern Tryz.func155 Aa Aa Aa (e:=Extern.SlicesOverlaps.overlaps #[84,84] #[4]) Aa];have q1':(Extern.SlicesOverlaps.overlaps #[84,84] #[4] #[.slice (some ⟨vb,voff,none⟩) 1 vc,.slice (some ⟨b,off+(i+1)*2,none⟩) (len+1-(i+1)) cb]).run Tryz.prog w=.ok (.bool r) w2:=q1;rw[q1'];rfl
   obtain⟨r,w2,hov,k1,k2,k3,k4⟩:=hov;have hT2:Turn w w2 b:=⟨k2,k3,k4,by rw[k1];exact If _,λk _ _=>by rw[k1]⟩;cases r with
   |true =>
    refine (au b off len cap i vb voff 1 vc C vs w w2 J J J hb hroom hvb hC J hR hV.cell h1 h1v hT2 k1 hov).mono ?_;rintro e w' ⟨rfl,h⟩;exact⟨b,off,cap,rfl,hroom,h.out.1,h.out.2,.inl rfl⟩
   |false =>
    refine (zy6 b off len cap i vb voff 1 vc C vs w w2 J J J hb hroom hvb hC J hR.cell (λj hj=>hR.room j J) (λj hj=>hR.free j J) hV.cell h1 h1v k1 hov).mono ?_;rintro e w' ⟨rfl,rfl⟩;have hR2:RowIn w2.drew b off cap 2 C:=⟨by obtain⟨q1,q2,q3,q4,q5⟩:=hR.has;exact⟨q1,q2,q3,q4,by show w2.heap[b]?=_∧_;rw[k1];exact q5⟩⟩;have hR3:RowIn (w2.drew.setCells b (off+(i+1)*2) (C.drop (i*2))) b off cap 2 (C.take ((i+1)*2)++C.drop (i*2)):=RowIn.put hR2 ((i+1)*2) _ J λj u hj=>by
     by_cases h:j<(i+1)*2
     ·rw[Ii J];rw[Ic Cc,I4 h]at hj;exact hj
     ·rw[Iq Cc,Iu,Jt J]at hj;have:=(H7.1 hj).1;rw[Ij J];exact hj
    refine⟨b,off,cap,rfl,hroom,(hT2.drew.cells (.inl rfl) _ _).cells (.inl rfl) _ _,RowIn.put hR3 (i*2) vs J λj u hj=>?_,.inl rfl⟩;by_cases h:j<i*2
    ·rw[I0,Ic J,I4 h]at hj;rw[Ii J,Ic Cc,I4 J];exact hj
    ·rw[I0,Iq J,ht]at hj;by_cases h2:j<i*2+2
     ·rw[Ic J]at hj;rw[Ij J];exact hj
     ·rw[Iq J,hvl]at hj;rw[Ii J,Iq Cc,Iu,Jt J,(J:j-(i+1)*2=j-i*2-2)];exact hj
  ·refine (Yy b off len cap i vb voff 1 vc C vs w J J J hl J hb hC J hbl hV.lt hR.cell hV.cell h1 h1v).mono ?_;rintro e w' ⟨G,ROW,g1,g2,g3,rfl,rfl⟩;have hN:RowIn (w.alloc (.cells ROW 117)) w.heap.size 0 G 2 (C.take (i*2)):=RowIn.new w ROW 117 G 2 _ J g3;have hG:(len+1)*2≤G*2:=Ip _ g1;have hR3:=RowIn.put (cs':=C.take (i*2)++vs) hN.drew (i*2) vs J (λj u hj=>by
    by_cases h:j<i*2
    ·rw[Ic J]at hj;rw[Ii J];exact hj
    ·rw[Iq J,ht]at hj;have:=(H7.1 hj).1;rw[Ij J];exact hj)
   have hR4:=RowIn.put (cs':=C.take (i*2)++vs++C.drop (i*2)) hR3.drew ((i+1)*2) (C.drop (i*2)) J (λj u hj=>by
    have hl2:(C.take (i*2)++vs).length=(i+1)*2:=by rw[Im,ht];omega
    by_cases h:j<(i+1)*2
    ·rw[Ic J]at hj;rw[Ii J];exact hj
    ·rw[Iq J,hl2]at hj;have:=(H7.1 hj).1;rw[Ij J];exact hj)
   rw[Jc]at hR4;rw[Jc]at hR4;exact⟨w.heap.size,0,G,rfl,g1,((((Turn.refl w b).alloc _).drew.cells (.inr (If _)) _ _).drew).cells (.inr (If _)) _ _,hR4,.inr (If _)⟩
def del_right:ox Tryz.prog 86:=by
 intro w0 C H w args vs v H' hR hV h;have hk:Qy Tryz.prog 86=2:=Aa
 have hz:S3 Tryz.prog 86=2:=Aa
 rw[hk,hz]at h;change cw 2 H args=.ok v H' at h;unfold cw at h;split at h
 ·rename_i o v0 j len esz room i i2;split at h
  ·rename_i hb;simp only[H9]at hb;obtain⟨b1,b2,b3,b4,_,b6⟩:=hb;have b1:=Ig b1;have b2:i2=i+1:=Ig b2;have b3:=Ig b3;have b4:=In b4;have b6:len≤1000000000:=In b6;subst b1 b2 b3;split at h
   ·rename_i l hr;have hr:Pt H o v0 0 (len*2)=some l:=hr;unfold rowTo at h;split at h
    ·rename_i t clen ver hg;split at h
     ·rename_i hv;have hv:=Ig hv;subst hv;cases h;cases hV with
      |cons h1 hV =>
      cases hV with
      |cons h2 hV =>
      cases hV with
      |cons h3 hV =>
      cases hV;cases h2;cases h3;cases h1 with
      | @sl _ _ _ _ _ _ L cap hL p1 p2 p3 p4 p5 =>
       obtain⟨cs,c1,c2,c3,c4,c5⟩:=hR.rowIn Tryz.prog hg hL (len:=len) (k:=2) hr (cap:=cap) J;refine oq.of_calls (ztq L.b (L.d+0) len cap i cs w b4 p3 b6 c1 c4 c5) ?_;rintro e w' ⟨b',d',cap',rfl,q1,q2,q3,q4⟩;have hl:(l.take (i*2)++l.drop ((i+1)*2)).length=(len-1)*2:=by
        have:=c2.length;simp only[Im,Iu,Jk];omega
       obtain⟨C',r1,r2,r3⟩:=hR.rowTo hg hL q2 q3 q4 q1 hl ((c2.take _).append (c2.drop _)) (λa ha=>by
        rcases I2.1 ha with h|h
        ·exact c3 a (Lm h)
        ·exact c3 a (J5 h))
       exact⟨C',_,rfl,r1,r2,r3⟩
     ·cases h
    ·cases h
   ·cases h
  ·cases h
 ·cases h
def ins_right:ox Tryz.prog 131:=by
 intro w0 C H w args vs v H' hR hV h;have hk:Qy Tryz.prog 131=1:=Aa
 have hz:S3 Tryz.prog 131=2:=Aa
 rw[hk,hz]at h;change Vf 2 H args=.ok v H' at h;unfold Vf at h;split at h
 ·rename_i i o2 v2 i2 n2 esz2 room2;split at h
  ·rename_i hb;simp only[H9]at hb;obtain⟨b1,b2,b3,_⟩:=hb;have b1:=Ig b1;have b2:=Ig b2;have b3:=Ig b3;subst b1 b2 b3;split at h
   ·rename_i x hx;cases h;cases hV with
    |cons h1 hV =>
    cases hV with
    |cons h2 hV =>
    cases hV with
    |cons h3 hV =>
    cases hV;cases h1;cases h2;cases h3 with
    | @sl _ _ _ _ _ _ L2 cap2 hL2 p1 p2 p3 p4 p5 =>
     obtain⟨ws,_,s2,s3,s4,_,s6⟩:=hR.read Tryz.prog hx hL2;have hwl:ws.length=2:=by rw[←s2.length];exact s4
     refine oq.of_calls (ztm 0 0 L2.b (L2.d+i2) cap2 ws w hwl (λj u hj=>by
      have:=(H7.1 hj).1;rw[Je,s6 j J];exact hj) (s2.one s3)) ?_
     rintro e w' ⟨A,G,g1,g2,g3,rfl,rfl⟩;have htk:A.toList.take 2=ws:=by
      apply Mh;intro j;by_cases hj:j<2
      ·rw[I4 hj];have:=g3 j _ (Ib (J:j<ws.length));rw[Array.getElem?_toList,this,Ib]
      ·rw[Kf Cc,Kf J]
     have hn:Sv.newObj H x=some (H.next,H.push (.cells (Pp x 0 .e) x.length 0 false)):=rfl;obtain⟨C',r1,r2,r3⟩:=hR.drew.newRow hn 117 (0,0) (vs:=A) J (by rw[s4,htk];exact s2) s3 N;refine⟨C',_,rfl,r1,r2,?_⟩;have:=VR.sl (i:=0) (len:=1) (esz:=2) (room:=none) (cap:=G) r3 An An g1 (λr hr=>by cases hr) (λ_=>An);simpa using this
   ·cases h
  ·cases h
 ·rename_i o v0 j len esz room i o2 v2 i2 n2 esz2 room2;split at h
  ·rename_i hb;simp only[H9,L5]at hb;obtain⟨b0,b1,b2,b3,b4,b5,_,b7⟩:=hb;have b0:o≠o2:=λe=>by rw[e,I3]at b0;cases b0
   have b1:=Ig b1;have b2:=Ig b2;have b3:=Ig b3;have b4:=Ig b4;have b5:=In b5;have b7:len≤1000000000:=In b7;subst b1 b2 b3 b4;split at h
   ·rename_i l hr;have hr:Pt H o v0 0 (len*2)=some l:=hr;split at h
    ·rename_i x hx;unfold rowTo at h;split at h
     ·rename_i t clen ver hg;split at h
      ·rename_i hv;have hv:=Ig hv;subst hv;cases h;cases hV with
       |cons h1 hV =>
       cases hV with
       |cons h2 hV =>
       cases hV with
       |cons h3 hV =>
       cases hV;cases h2;cases h3 with
       | @sl _ _ _ _ _ _ L2 cap2 hL2 a1 a2 a3 a4 a5 =>
        cases h1 with
        | @sl _ _ _ _ _ _ L cap hL p1 p2 p3 p4 p5 =>
         obtain⟨cs,c1,c2,c3,c4,c5⟩:=hR.rowIn Tryz.prog hg hL (len:=len) (k:=2) hr (cap:=cap) J;have hB:w0.heap.size≤L.b:=(hR.obj o _ (hR.fresh _ _ _ hL) hg L hL).2.1 rfl;have hne:L2.b≠L.b:=λe=>b0 (hR.excl _ _ _ _ _ _ hL hL2 e.symm hB)
         obtain⟨ws,_,s2,s3,s4,s5,s6⟩:=hR.read Tryz.prog hx hL2;have hwl:ws.length=2:=by rw[←s2.length];exact s4
         have hV2:RowIn w L2.b (L2.d+i2) 1 2 ws:=by
          obtain⟨t2,clen2,ver2,ro2,hg2,hv2⟩:∃t2 clen2 ver2 ro2,H.get o2=some (.cells t2 clen2 ver2 ro2)∧ver2=v2:=by
           unfold Pt at hx;split at hx
           ·rename_i c2 l2 ve2 r2 hg2;split at hx
            ·rename_i e2;exact⟨_,_,_,_,hg2,(Ig e2).symm⟩
            ·cases hx
           ·cases hx
          subst hv2;obtain⟨f1,_,f3,vs',e,lo,hi,f4,f5,f6,f7⟩:=hR.obj o2 _ (hR.fresh _ _ _ hL2) hg2 L2 hL2;refine⟨vs',e,lo,hi,f4,J,λk q1 q2=>f6 k J J,λk u hk=>?_⟩;have hk2:=(H7.1 hk).1;have:=s6 k J;rw[fi f4,hk,←Je]at this;exact this
         refine oq.of_calls (zu3 L.b (L.d+0) len cap i L2.b (L2.d+i2) cap2 cs ws w b5 p3 b7 hne c1 c4 c5 hV2 hwl (s2.one s3)) ?_;rintro e w' ⟨b',d',cap',rfl,q1,q2,q3,q4⟩;have hl:(l.take (i*2)++x++l.drop (i*2)).length=(len+1)*2:=by
          have:=c2.length;simp only[Im,Iu,Jk];omega
         obtain⟨C',r1,r2,r3⟩:=hR.rowTo hg hL q2 q3 q4 q1 hl (((c2.take _).append s2).append (c2.drop _)) (λa ha=>by
          rcases I2.1 ha with h|h
          ·rcases I2.1 h with h|h
           ·exact c3 a (Lm h)
           ·exact s3 a h
          ·exact c3 a (J5 h))
         exact⟨C',_,rfl,r1,r2,r3⟩
      ·cases h
     ·cases h
    ·cases h
   ·cases h
  ·cases h
 ·cases h
end
section
set_option linter.unusedVariables false
def z6e:LC:=(.q [.z 4 (.alloc [(.i 0),(.i 0),(.i 0)])] (.seq (.q [.m 7 0,.N 8 7,.f 9 1 8,.l 10 9,.s 11 10,.K 12 0] (.block 0 (.loop (.q [.c 13 .lss 3 12 11] (.seq (.cond (.t 13) .skip (.exit 0)) (.seq (.block 1 (.q [.m 14 12,.I 15 2 10 12,.L 16 2 15,.z 6 (.alloc [(.i 0),(.i 0)]),.m 5 14,.S 2 6 16] (.seq (.q [.f 17 1 6,.l 18 17,.f 19 0 6,.l 20 19,.c 21 .sub 3 18 20,.m 22 1,.c 23 .lss 3 21 22] (.cond (.t 23) (.exit 1) .skip)) (.q [.m 24 0,.N 25 24,.f 26 1 25,.l 27 26,.m 28 5,.I 29 2 27 28,.f 30 0 29,.l 31 30,.m 32 1,.c 33 .add 3 31 32,.I 34 2 27 28,.f 35 0 34,.S 1 35 33] (.seq (.seq (.draw [(.m 36 0,[]),(.N 37 36,[]),(.f 38 1 37,[]),(.l 39 38,[]),(.m 40 5,[]),(.I 41 2 39 40,[]),(.f 42 0 41,[]),(.l 43 42,[]),(.f 44 1 6,[]),(.l 45 44,[]),(.c 46 .eql 3 43 45,[])]) (.cond (.t 46) (.ops [.m 47 0,.m 48 0,.N 49 48,.f 50 1 49,.l 51 50,.m 52 5,.m 53 5,.b 54 .add 3 53 1,.V 55 86 51 52 54,.N 56 47,.f 57 1 56,.S 1 57 55]) .skip)) (.seq (.draw [(.m 58 0,[]),(.N 59 58,[]),(.f 60 0 59,[]),(.l 61 60,[]),(.f 62 0 6,[]),(.l 63 62,[]),(.m 64 1,[]),(.z 65 (.build [(.i 0),(.i 0),(.i 0)] [(0,1,.t 61),(1,1,.t 63),(2,1,.t 64)]),[]),(.S 3 4 65,[])]) .ret)))))) (.ops [.b 66 .add 3 12 1,.m 12 66]))))))) (.q [.m 67 0,.N 68 67,.f 69 2 68,.l 70 69,.m 71 1,.c 72 .add 3 70 71,.N 73 67,.f 74 2 73,.S 1 74 72] (.seq (.draw [(.m 75 0,[]),(.N 76 75,[]),(.f 77 0 76,[]),(.l 78 77,[]),(.m 79 0,[]),(.N 80 79,[]),(.f 81 2 80,[]),(.l 82 81,[]),(.m 83 1,[]),(.c 84 .sub 3 82 83,[]),(.m 85 1,[]),(.z 86 (.build [(.i 0),(.i 0),(.i 0)] [(0,1,.t 78),(1,1,.t 84),(2,1,.t 85)]),[]),(.S 3 4 86,[])]) .ret))))
def r_buffers_store_take:Nf Tryz.prog 47=some ⟨87,z6e.r,[.cellN 4 3]⟩:=Aa
def ins_tgt:jh Tryz.prog (.fn 131):=⟨Aa,Aa⟩
def del_tgt:jh Tryz.prog (.fn 86):=⟨Aa,Aa⟩
def ins_k:Qy Tryz.prog 131=1:=Aa
def del_k:Qy Tryz.prog 86=2:=Aa
def ins_z:S3 Tryz.prog 131=2:=Aa
def del_z:S3 Tryz.prog 86=2:=Aa
def T9(z:M4)(j:LV)(r:Option Nat)(H:List Hl):Prop:=match r with
 |none=>j=.nilSl∧H=[]
 |some q=>∃g st,j=.dy q g∧z[q]?=some (.dyn (Nn H) H.length 2 g st)
def T9.old{G G':M4}{hv:LV}{r:Option Nat}{H:List Hl}(h:T9 G hv r H)(ho:∀q,r=some q→G'[q]?=G[q]?):T9 G' hv r H:=by
 cases r with
 |none=>exact h
 |some q=>obtain⟨gg,st,h1,h2⟩:=h;exact⟨gg,st,h1,by rw[ho q rfl];exact h2⟩
def T9.len{G:M4}{hv:LV}{r:Option Nat}{H:List Hl}(h:T9 G hv r H):∀K,lenL G hv K=K H.length:=by
 intro K;cases r with
 |none=>obtain⟨rfl,rfl⟩:=h;rfl
 |some q=>obtain⟨gg,st,rfl,h2⟩:=h;rw[lenL_dy,h2,ze3];simp
def HoB(g:List Hl)(m:Int):Prop:=∀j,j<g.length→0≤(gs g j).1∧(gs g j).1≤(gs g j).2∧(gs g j).2≤m
def z7n{s st:Nat}{n:Int}{hv:LV}{r:Option Nat}{H:List Hl}(hs:F[s]?=some (.cells [.i A,hv,.i T] st))(hh:T9 F hv r H)
  (hz:0≤T∧T≤1000000000) (hn:1≤n∧n≤1000000000) (hb:HoB H 1000000000) (hl:H.length≤1000000)
  (k:∀G' gG gM,(∀x,x<F.length→x≠s→r≠some x→G'[x]?=F[x]?)→F.length≤G'.length→G'[s]?=some (.cells [.i A,gG,.i (Pk n ⟨H,T⟩).2.size] gM)→T9 G' gG r (Pk n ⟨H,T⟩).2.holes→P (.agg [.i A,.i (Pk n ⟨H,T⟩).1,.i n]) G') :
  O6 (.fn 47) [.ptr s 0,.i n] F P:=by
 refine Nd r_buffers_store_take Aa (by simp) ?_;have gO:=(H7.1 hs).1;obtain⟨G0,O⟩:∃G0,G0=F++[LObj.cells [LV.i 0,LV.i 0,LV.i 0] 0]:=⟨_,rfl⟩;have o0:∀x,x<F.length→G0[x]?=F[x]?:=λx j=>by rw[O];exact Ic j
 have l0:G0.length=F.length+1:=by rw[O];simp
 have z0:G0[F.length]?=some (.cells [.i 0,.i 0,.i 0] 0):=by rw[O];simp
 have I:∀q,r=some q→q<F.length∧q≠s:=λq G=>by
  subst G;obtain⟨g,gT,_,h2⟩:=hh;refine⟨(H7.1 h2).1,λe=>?_⟩;rw[e,hs]at h2;cases h2
 have s0:=(o0 s gO).trans hs;have H0:T9 G0 hv r H:=hh.old λq G=>o0 q (I q G).1
 simp[z6e];rw[←O];simp[s0,H0.len];refine Ns (λρ g8 B N=>∃(i:Nat),g8=[]∧N+i=H.length∧lk ρ 0=.ptr s 0∧lk ρ 1=.i n∧lk ρ 4=.ptr F.length 0∧lk ρ 10=hv∧lk ρ 11=.i H.length∧lk ρ 12=.i i∧(∀x,x<F.length+1→B[x]?=G0[x]?)∧F.length+1≤B.length∧(∀gL,gL<i→(gs H gL).2-(gs H gL).1<n))
  (N:=H.length) ⟨0,rfl,J,by simp,by simp,by simp,by simp,by simp,by simp,λ_ _=>rfl,J,λgL hj=>J⟩ ?_
 rintro N ρ g8 B ⟨i,rfl,hN,h0,Q,h4,gC,R,gD,ho,gU,K⟩ Nx gP;have s1:=(ho s J).trans s0;have z1:=(ho _ J).trans z0;have H1:T9 B hv r H:=H0.old λq G=>ho q (by have:=(I q G).1;omega)
 by_cases hi:H.length≤i
 ·have gF:¬i<H.length:=J
  have ls:s<B.length:=J
  simp[h0,Q,R,gD,gF,s1];refine⟨J,?_⟩;obtain⟨D,z⟩:∃D,D=B.set s (.cells [.i A,hv,.i (T+n)] (st+1)):=⟨_,rfl⟩;have S:∀x,x≠s→D[x]?=B[x]?:=λx j=>by rw[z,H8 (λe=>j e.symm)]
  have l2:D.length=B.length:=by rw[z];simp
  have s2:D[s]?=some (.cells [.i A,hv,.i (T+n)] (st+1)):=by rw[z];exact Ia ls
  have z2:=(S F.length J).trans z1;rw[←z];simp[h0,Q,h4,s2,z2];refine⟨J,?_⟩;rw[Ia J];simp;have L:Pk n ⟨H,T⟩=(T,⟨H,T+n⟩):=by
   unfold Pk;dsimp only;rw[zkd H (λgL hj=>K gL J)]
  rw[L]at k;refine k _ hv (st+1) (λx j U V=>?_) Ab ?_ (T9.old hh λq G=>?_)
  ·rw[H8 J,S x U,ho x J,o0 x j]
  ·rw[H8 J];exact s2
  ·have:=I q G;rw[H8 J,S q this.2,ho q J,o0 q this.1]
 ·have gF:i<H.length:=J
  cases r with
  |none=>obtain⟨_,rfl⟩:=hh;simp at gF
  |some q =>
  obtain⟨g,E,rfl,G⟩:=H1;have gH:=zpz gF;have gV:=qq H;have gB:min 2 ((Nn H).length-i*2)=2:=J
  have gI:i*2+2≤(Nn H).length:=J
  obtain⟨b1,b2,b3⟩:=hb i gF;obtain⟨xy,gX⟩:∃xy,xy=gs H i:=⟨_,rfl⟩;have lq:q<B.length:=(H7.1 G).1;have ls:s<B.length:=(H7.1 s1).1;have gE:=(I q rfl).2;by_cases hw:(gs H i).2-(gs H i).1<n
  ·simp[gC,R,gD,gF,G,gH,Ov,gB,gI,Q,h0,hw];refine⟨J,J,gP _ _ _ ⟨N-1,J,i+1,rfl,J,F4,Bq,F3,by simp[gC],by simp[R],by simp,λx j=>?_,Ab,λgL hj=>?_⟩⟩
   ·rw[M5 J];exact ho x j
   ·by_cases e:gL=i
    ·rw[e];exact hw
    ·exact K gL J
  ·have gY:n≤(gs H i).2-(gs H i).1:=J
   obtain⟨D,z⟩:∃D,D=B++[LObj.cells [.i (gs H i).1,.i (gs H i).2] 1]:=⟨_,rfl⟩;have S:∀x,x<B.length→D[x]?=B[x]?:=λx j=>by rw[z];exact Ic j
   have l2:D.length=B.length+1:=by rw[z];simp
   have c2:D[B.length]?=some (.cells [.i (gs H i).1,.i (gs H i).2] 1):=by rw[z];simp
   have s2:=(S s ls).trans s1;have q2:=(S q lq).trans G;simp[gC,R,gD,gF,G,gH,Ov,gB,gI,Q,h0,hw];refine⟨J,?_⟩;rw[←z];have gQ:i*2+1≤(Nn H).length:=J
   simp[s2,q2,gF,M9 (tq gF),gQ,Q];refine⟨J,?_⟩;rw[X8 gF];obtain⟨C,M⟩:∃C,C=H.set i ((gs H i).1+n,(gs H i).2):=⟨_,rfl⟩;have gR:C.length=H.length:=by rw[M,Jz]
   have gS:gs C i=((gs H i).1+n,(gs H i).2):=by
    rw[M];simp[gs,gF]
   have g3:i<C.length:=J
   rw[←M,←gR];obtain⟨G3,X⟩:∃G3,G3=D.set q (.dyn (Nn C) C.length 2 g (E+1)):=⟨_,rfl⟩;have o3:∀x,x≠q→G3[x]?=D[x]?:=λx j=>by rw[X,H8 (λe=>j e.symm)]
   have l3:G3.length=D.length:=by rw[X];simp
   have q3:G3[q]?=some (.dyn (Nn C) C.length 2 g (E+1)):=by rw[X];exact Ia J
   have s3:=(o3 s (λe=>gE e.symm)).trans s2;have gZ:=(I q rfl).1;have c3:=(o3 B.length J).trans c2;have z3:=(o3 F.length J).trans ((S _ J).trans z1);rw[←X];have Y:=tq g3;rw[gS]at Y;dsimp only at Y;have gK:=zrs (n:=n) H i gF K hw;by_cases he:(gs H i).1+n=(gs H i).2
   ·simp[h0,Q,s3,q3,c3,g3,M9 Y,he];refine⟨J,?_⟩;rw[(J:(i:Int)+1=((i+1:Nat):Int))];refine zmk del_tgt del_k del_right del_z q3 g3 Ad J ?_;rw[zx9];obtain⟨G4,Z⟩:∃G4,G4=G3.set q (.dyn (Nn (C.take i++C.drop (i+1))) (C.length-1) 2 (g+1) (E+1+1)):=⟨_,rfl⟩;have o4:∀x,x≠q→G4[x]?=G3[x]?:=λx j=>by rw[Z,H8 (λe=>j e.symm)]
    have l4:G4.length=G3.length:=by rw[Z];simp
    have q4:G4[q]?=some (.dyn (Nn (C.take i++C.drop (i+1))) (C.length-1) 2 (g+1) (E+1+1)):=by rw[Z];exact Ia J
    have s4:=(o4 s (λe=>gE e.symm)).trans s3;have c4:=(o4 B.length J).trans c3;have z4:=(o4 F.length J).trans z3;rw[←Z];simp[s4];obtain⟨G5,gg⟩:∃G5,G5=G4.set s (.cells [.i A,.dy q (g+1),.i T] (st+1)):=⟨_,rfl⟩;have o5:∀x,x≠s→G5[x]?=G4[x]?:=λx j=>by rw[gg,H8 (λe=>j e.symm)]
    have l5:G5.length=G4.length:=by rw[gg];simp
    have s5:G5[s]?=some (.cells [.i A,.dy q (g+1),.i T] (st+1)):=by rw[gg];exact Ia J
    have q5:=(o5 q gE).trans q4;have c5:=(o5 B.length J).trans c4;have z5:=(o5 F.length J).trans z4;rw[←gg];simp[h0,Q,h4,s5,c5,z5];rw[Ia J];simp;have L:Pk n ⟨H,T⟩=((gs H i).1,⟨C.take i++C.drop (i+1),T⟩):=by
     unfold Pk;dsimp only;rw[gK,Ij he,M,Mt J,List.drop_set_of_lt J]
    rw[L]at k;refine k _ (.dy q (g+1)) (st+1) (λx j U V=>?_) Ab ?_ ⟨g+1,E+1+1,rfl,?_⟩
    ·have gj:x≠q:=λe=>V Co
     rw[H8 J,o5 x U,o4 x gj,o3 x gj,S x J,ho x J,o0 x j]
    ·rw[H8 J];exact s5
    ·rw[H8 J,q5]
     congr 2
     rw[Im,Iu,Jk];omega
   ·simp[h0,Q,h4,s3,q3,c3,z3,g3,M9 Y,he];rw[Ia J];simp;have L:Pk n ⟨H,T⟩=((gs H i).1,⟨C,T⟩):=by
     unfold Pk;dsimp only;rw[gK,Ii he,M,J1,Ij gF]
    rw[L]at k;refine k _ (.dy q g) st (λx j U V=>?_) Ab ?_ ⟨g,E+1,rfl,?_⟩
    ·have gj:x≠q:=λe=>V Co
     rw[H8 J,o3 x gj,S x J,ho x J,o0 x j]
    ·rw[H8 J];exact s3
    ·rw[H8 J];exact q3
end
section
set_option linter.unusedVariables false
def zap:LC:=(.q [.F 2] (.q [.m 3 0,.m 4 0,.c 5 .neq 3 3 4,.m 2 5] .ret))
def r_cmp_isNaN_int:Nf Tryz.prog 154=some ⟨6,zap.r,[.tmp 2]⟩:=Aa
def z86:LC:=(.q [.K 4 0] (.q [.m 7 0,.w 8 154 7,.m 5 8] (.q [.m 9 1,.w 10 154 9,.m 6 10] (.seq (.q [.m 11 5] (.cond (.t 11) (.seq (.q [.m 12 6] (.cond (.t 12) (.q [.K 4 0] .ret) .skip)) (.q [.K 4 (-1)] .ret)) .skip)) (.seq (.q [.m 13 6] (.cond (.t 13) (.q [.K 4 1] .ret) .skip)) (.seq (.q [.m 14 0,.m 15 1,.c 16 .lss 3 14 15] (.cond (.t 16) (.q [.K 4 (-1)] .ret) .skip)) (.seq (.q [.m 17 0,.m 18 1,.c 19 .gtr 3 17 18] (.cond (.t 19) (.q [.K 4 1] .ret) .skip)) (.q [.K 4 0] .ret))))))))
def r_cmp_Compare_int:Nf Tryz.prog 128=some ⟨20,z86.r,[.tmp 4]⟩:=Aa
def z52:LC:=(.q [.x 2 0,.x 3 1,.K 4 0] (.q [.f 5 0 2,.l 6 5,.f 7 0 3,.l 8 7,.W 9 128 6 8,.m 4 9] .ret))
def r_buffers_store_give_1:Nf Tryz.prog 130=some ⟨10,z52.r,[.tmp 4]⟩:=Aa
def z0i:LC:=(.q [.x 4 1,.K 6 0,.F 7] (.q [.m 12 0,.s 13 12,.m 8 13] (.q [.m 14 8,.K 9 0,.m 10 14] (.seq (.block 0 (.loop (.seq (.q [.m 15 9,.m 16 10,.c 17 .lss 3 15 16] (.cond (.t 17) .skip (.exit 0))) (.block 1 (.q [.m 18 9,.m 19 10,.c 20 .add 3 18 19,.z 21 (.cvInt .u64 (.t 20)),.u 22 .shr 110 21 1,.z 23 (.cvInt .i64 (.t 22)),.m 11 23] (.seq (.draw [(.m 24 2,[]),(.m 25 0,[]),(.m 26 11,[]),(.I 27 2 25 26,[]),(.L 28 2 27,[]),(.L 29 2 4,[]),(.z 30 (.callV (.t 24) [.t 28,.t 29]),[]),(.b 31 .lss 3 30 0,[])]) (.cond (.t 31) (.ops [.m 32 11,.b 33 .add 3 32 1,.m 9 33]) (.ops [.m 34 11,.m 10 34])))))))) (.seq (.draw [(.m 35 9,[]),(.m 36 9,[]),(.m 37 8,[]),(.c 38 .lss 3 36 37,[]),(.m 39 38,[]),(.my 40 39 2,[]),(.my 41 39 0,[]),(.my 42 39 9,[]),(.y 43 39 (.ixAddr 2 (.t 41) (.t 42)),[]),(.y 44 39 (.loadN 2 (.t 43)),[]),(.y 45 39 (.loadN 2 (.t 4)),[]),(.y 46 39 (.callV (.t 40) [.t 44,.t 45]),[]),(.y 47 39 (.bin .eql true 3 (.t 46) (.k 0)),[]),(.q 48 39 47,[]),(.m 6 35,[]),(.m 7 48,[])]) .ret)))))
def r_slices_BinarySearchFunc_buffers_pair_int_buffers_pair_int_buffers_pair_int:Nf Tryz.prog 129=some ⟨49,z0i.r,[.tmp 6,.tmp 7]⟩:=Aa
def z6f:LC:=(.q [.x 3 1] (.q [.f 7 1 3,.l 8 7,.f 9 1 3,.l 10 9,.f 11 2 3,.l 12 11,.c 13 .add 3 10 12,.z 14 (.build [(.i 0),(.i 0)] [(0,1,.t 8),(1,1,.t 13)]),.z 4 (.alloc [(.i 0),(.i 0)]),.S 2 4 14] (.seq (.draw [(.m 16 0,[]),(.N 17 16,[]),(.f 18 1 17,[]),(.l 19 18,[]),(.L 20 2 4,[]),(.z 21 (.w 129 [.t 19,.t 20,(.c (.fn (.func 130) [] []))]),[]),(.m 15 21,[]),(.X 22 0 15,[]),(.X 23 1 15,[]),(.m 5 22,[]),(.m 6 23,[])]) (.seq (.draw [(.m 24 0,[]),(.m 25 0,[]),(.N 26 25,[]),(.f 27 1 26,[]),(.l 28 27,[]),(.m 29 5,[]),(.L 30 2 4,[]),(.z 31 (.buildSl 2 1 [(.i 0),(.i 0)] [(0,2,.t 30)]),[(.L 30 2 4,false),(.l 28 27,false)]),(.V 32 131 28 29 31,[]),(.N 33 24,[]),(.f 34 1 33,[]),(.S 1 34 32,[])]) (.q [.m 35 5,.b 36 .sub 3 35 1,.z 37 (.maxi true (.k 0) (.t 36)),.m 5 37] (.block 0 (.loop (.seq (.q [.m 38 5,.b 39 .add 3 38 1,.m 40 0,.N 41 40,.f 42 1 41,.l 43 42,.s 44 43,.c 45 .lss 3 39 44] (.cond (.t 45) .skip (.exit 0))) (.block 1 (.seq (.seq (.draw [(.m 46 0,[]),(.N 47 46,[]),(.f 48 1 47,[]),(.l 49 48,[]),(.m 50 5,[]),(.I 51 2 49 50,[]),(.f 52 1 51,[]),(.l 53 52,[]),(.m 54 0,[]),(.N 55 54,[]),(.f 56 1 55,[]),(.l 57 56,[]),(.m 58 5,[]),(.b 59 .add 3 58 1,[]),(.I 60 2 57 59,[]),(.f 61 0 60,[]),(.l 62 61,[]),(.c 63 .neq 3 53 62,[])]) (.cond (.t 63) (.q [.m 64 5,.b 65 .add 3 64 1,.m 5 65] (.exit 1)) .skip)) (.seq (.draw [(.m 66 0,[]),(.N 67 66,[]),(.f 68 1 67,[]),(.l 69 68,[]),(.m 70 5,[]),(.m 71 0,[]),(.N 72 71,[]),(.f 73 1 72,[]),(.l 74 73,[]),(.m 75 5,[]),(.b 76 .add 3 75 1,[]),(.I 77 2 74 76,[]),(.f 78 1 77,[]),(.l 79 78,[]),(.I 80 2 69 70,[]),(.f 81 1 80,[]),(.S 1 81 79,[])]) (.ops [.m 82 0,.m 83 0,.N 84 83,.f 85 1 84,.l 86 85,.m 87 5,.b 88 .add 3 87 1,.m 89 5,.b 90 .add 3 89 2,.V 91 86 86 88 90,.N 92 82,.f 93 1 92,.S 1 93 91]))))))))))))
def r_buffers_store_give:Nf Tryz.prog 91=some ⟨94,z6f.r,[]⟩:=Aa
def Td(a b:Int):Int:=if a<b then -1 else if b<a then 1 else 0
def zro(a:Int):Na 154 [.i a] (.bool false) []:=by
 refine Np.val rfl (Nd r_cmp_isNaN_int Aa N ?_);simp[zap]
def zjm(a b:Int):Na 128 [.i a,.i b] (.i (Td a b)) []:=by
 refine Np.val rfl (Nd r_cmp_Compare_int Aa N ?_);simp[z86];refine Nb (zro a) N ?_;simp;refine Nb (zro b) N ?_;unfold Td;by_cases h:a<b
 ·simp[h]
 ·by_cases g:b<a
  ·simp[h,g]
  ·simp[h,g]
def zsc(x y:Sp):Na 130 [.agg (Ov x),.agg (Ov y)] (.i (Td x.1 y.1)) []:=by
 refine Np.val rfl (Nd r_buffers_store_give_1 Aa N ?_);simp[z52,Ov];refine Nb (zjm x.1 y.1) N ?_;simp
def ztf{r:Option Nat}{H:List Hl}(h:Hl)(S:T9 F K r H)(hl:H.length≤1000000)
  (k:∀X (i:Nat) b,(∀x,x<F.length→X[x]?=F[x]?)→F.length≤X.length→i≤H.length→P (.tup [.i i,.bool b]) X) :
  O6 (.fn 129) [K,.agg (Ov h),.fn (.func 130) [] []] F P:=by
 refine Nd r_slices_BinarySearchFunc_buffers_pair_int_buffers_pair_int_buffers_pair_int Aa (by simp) ?_;obtain⟨A,g⟩:∃A,A=F++[LObj.cells (Ov h) 0]:=⟨_,rfl⟩;have Y:∀x,x<F.length→A[x]?=F[x]?:=λx hx=>by rw[g];exact Ic hx
 have l0:A.length=F.length+1:=by rw[g];simp
 have z0:A[F.length]?=some (.cells (Ov h) 0):=by rw[g];simp
 have Z:∀q,r=some q→q<F.length:=λq B=>by
  subst B;obtain⟨L,gB,_,C⟩:=S;exact (H7.1 C).1
 have H0:T9 A K r H:=S.old λq B=>Y q (Z q B)
 have M:(Ov h).length=2:=rfl;have O:(Ov h).take 2=Ov h:=rfl;simp[z0i];rw[←g];simp[H0.len];refine Ns (λρ gD G1 N=>∃(i I:Nat),gD=[]∧N+i=I∧i≤I∧I≤H.length∧lk ρ 0=K∧lk ρ 2=.fn (.func 130) [] []∧lk ρ 4=.ptr F.length 0∧lk ρ 8=.i H.length∧lk ρ 9=.i i∧lk ρ 10=.i I∧G1=A)
  (N:=H.length) ⟨0,H.length,rfl,J,J,J,by simp,by simp,by simp,by simp,by simp,by simp,rfl⟩ ?_
 rintro N ρ gD G1 ⟨i,I,rfl,hN,gC,hj,Q,C,D,T,U,j,rfl⟩ Nx R;by_cases gE:i<I
 ·have z:(Py (iU ((i:Int)+I)) 1).toNat=(i+I)/2:=by
   rw[gc,(J:(i:Int)+I=((i+I:Nat):Int)),pp J]
  obtain⟨m,hm⟩:∃m,m=(i+I)/2:=⟨_,rfl⟩;rw[←hm]at z;have gm:m<H.length:=J
  cases r with
  |none=>obtain⟨_,rfl⟩:=S;simp at gm
  |some q =>
  obtain⟨L,gg,rfl,B⟩:=H0;have E:=zpz gm;have gj:=qq H;have G:m*2+2≤(Nn H).length:=J
  simp[Q,C,D,U,j,gE,z,B,gm,E,G];refine⟨J,J,?_⟩;simp[D,z0,M,O];refine Nb (zsc (gs H m) h) (by simp[dats,LV.dat,Ov]) ?_;by_cases hc:Td (gs H m).1 h.1<0
  ·simp[hc];refine⟨J,R _ _ _ ⟨I-(m+1),J,m+1,I,rfl,J,J,hj,Bq,Ae,Bc,Da,by simp,Au,rfl⟩⟩
  ·simp[hc];exact R _ _ _ ⟨m-i,J,i,m,rfl,J,J,J,Bq,Ae,Bc,Da,Ck,by simp,rfl⟩
 ·have g1:¬i<I:=gE;by_cases V:i<H.length
  ·cases r with
   |none=>obtain⟨_,rfl⟩:=S;simp at V
   |some q =>
   obtain⟨L,gg,rfl,B⟩:=H0;have E:=zpz V;have gj:=qq H;have G:i*2+2≤(Nn H).length:=J
   simp[Q,C,D,T,U,j,g1,V,B,E,G];simp[D,z0,M,O];refine Nb (zsc (gs H i) h) (by simp[dats,LV.dat,Ov]) ?_;simp;exact k _ i _ Y J J
  ·simp[Q,C,D,T,U,j,g1,V];exact k _ i false Y J J
def ztv{r:Option Nat}{H:List Hl}{h:Hl}{i:Nat}(L:T9 F K r H)(M:F[g]?=some (.dyn (Ov h) 1 2 j B))(D:r≠some g)(hi:i≤H.length)(R:H.length≤1000000000)
  (k:∀A (C z E:Nat),(∀x,x<F.length→r≠some x→A[x]?=F[x]?)→F.length≤A.length→(r=some C∨F.length≤C)→A[C]?=some (.dyn (Nn (H.take i++h::H.drop i)) (H.length+1) 2 z E)→P (.dy C z) A) :
  O6 (.fn 131) [K,.i i,.dy g j] F P:=by
 cases r with
 |none =>
  obtain⟨rfl,rfl⟩:=L;obtain rfl:i=0:=C4
  refine zmq ins_tgt ins_k ins_right ins_z M Ad ?_;refine k _ F.length 0 0 (λx O _=>Ic O) N (.inr (If _)) ?_;simp[Nn]
 |some q =>
  obtain⟨G,st,rfl,Q⟩:=L;have I:=(H7.1 Q).1;refine zxo ins_tgt ins_k ins_right ins_z Q M (λe=>D Co) hi Ad R ?_;rw[ki];refine k _ q (G+1) (st+1) (λx O S=>?_) N (.inl rfl) (Ia I);rw[H8 (λe=>S Co)]
def zir{s st:Nat}{pb a n:Int}{r:Option Nat}{H:List Hl}(hs:F[s]?=some (.cells [.i A,K,.i T] st))(hh:T9 F K r H)
  (ha:0≤a∧a≤1000000000) (hn:0≤n∧n≤1000000000) (hl:H.length≤100000)
  (k:∀G' gD r' D (i gY:Nat),(∀x,x<F.length→x≠s→r≠some x→G'[x]?=F[x]?)→F.length≤G'.length→G'[s]?=some (.cells [.i A,gD,.i T] D)→T9 G' gD r' (jk i gY (a,a+n) H)→(∀q,r'=some q→r=some q∨F.length≤q)→P (.tup []) G') :
  O6 (.fn 91) [.ptr s 0,.agg [.i pb,.i a,.i n]] F P:=by
 refine Nd r_buffers_store_give Aa (by simp) ?_;have gI:=(H7.1 hs).1;have G:∀q,r=some q→q<F.length∧q≠s:=λq hq=>by
  subst hq;obtain⟨L,gR,_,h2⟩:=hh;refine⟨(H7.1 h2).1,λe=>?_⟩;rw[e,hs]at h2;cases h2
 simp[z6f];refine⟨J,?_⟩;obtain⟨G0,M⟩:∃G0,G0=F++[LObj.cells [.i pb,.i a,.i n] 0,LObj.cells [.i a,.i (a+n)] 1]:=⟨_,rfl⟩;have o0:∀x,x<F.length→G0[x]?=F[x]?:=λx E=>by rw[M];exact Ic E
 have l0:G0.length=F.length+2:=Dy
 have z0:G0[F.length+1]?=some (.cells [.i a,.i (a+n)] 1):=Dy
 have s0:=(o0 s gI).trans hs;have H0:T9 G0 K r H:=hh.old λq hq=>o0 q (G q hq).1
 rw[←M];simp[s0,z0];refine ztf (a,a+n) H0 J λY i bb o1 l1 hi=>?_
 have s1:=(o1 s J).trans s0;have z1:=(o1 _ J).trans z0;have H1:T9 Y K r H:=H0.old λq hq=>o1 q (by have:=(G q hq).1;omega)
 simp[s1,z1,↓M5 (J:s<Y.length),↓M5 (J:F.length+1<Y.length)];obtain⟨G2,O⟩:∃G2,G2=Y++[LObj.dyn [.i a,.i (a+n)] 1 2 0 0]:=⟨_,rfl⟩;have o2:∀x,x<Y.length→G2[x]?=Y[x]?:=λx E=>by rw[O];exact Ic E
 have l2:G2.length=Y.length+1:=by rw[O];simp
 have d2:G2[Y.length]?=some (.dyn (Ov (a,a+n)) 1 2 0 0):=by rw[O];simp[Ov]
 have s2:=(o2 s J).trans s1;have H2:T9 G2 K r H:=H1.old λq hq=>o2 q (by have:=(G q hq).1;omega)
 rw[←O];refine ztv (h:=(a,a+n)) H2 d2 (λe=>by have:=(G _ e).1;omega) hi J λG3 q L gK o3 l3 gj q3=>?_
 have s3:=(o3 s J (λe=>(G _ e).2 rfl)).trans s2;have Q:q≠s:=by
  rcases gj with e|e
  ·exact (G _ e).2
  ·omega
 simp[s3];obtain⟨R,S⟩:∃R,R=G3.set s (.cells [.i A,.dy q L,.i T] (st+1)):=⟨_,rfl⟩;have o4:∀x,x≠s→R[x]?=G3[x]?:=λx E=>by rw[S,H8 (λe=>E e.symm)]
 have l4:R.length=G3.length:=E8
 have s4:R[s]?=some (.cells [.i A,.dy q L,.i T] (st+1)):=by rw[S];exact Ia J
 have q4:=(o4 q Q).trans q3;rw[←S];refine⟨J,?_⟩;obtain⟨U,gB⟩:∃U,U=H.take i++(a,a+n)::H.drop i:=⟨_,rfl⟩;have gL:U.length=H.length+1:=by rw[gB];simp;omega
 rw[←gB,←gL]at q4;have hF:jk i (i-1) (a,a+n) H=U.take (i-1)++Se (U.drop (i-1)):=E7
 have gS:s<R.length:=J
 have gT:q<R.length:=(H7.1 q4).1;refine Ns (λρ gX Z N=>∃(g:Nat) (B:List Hl) (j D z:Nat),gX=[]∧N=B.length-g∧lk ρ 0=.ptr s 0∧lk ρ 5=.i g∧Z[s]?=some (.cells [.i A,.dy q j,.i T] D)∧Z[q]?=some (.dyn (Nn B) B.length 2 j z) ∧
   (∀x,x≠s→x≠q→Z[x]?=R[x]?)∧Z.length=R.length∧B.take g++Se (B.drop g)=U.take (i-1)++Se (U.drop (i-1))∧B.length≤100001∧g≤B.length)
  (N:=U.length-(i-1)) ⟨i-1,U,L,st+1,gK,rfl,rfl,by simp,Ab,s4,q4,λ_ _ _=>rfl,rfl,rfl,J,J⟩ ?_
 rintro N ρ gX Z ⟨g,B,j,D,z,rfl,rfl,h0,h5,s5,q5,o5,l5,hj,gM,gU⟩ Nx gE;by_cases gQ:g+1<B.length
 ·have g1:(g:Int)+1<B.length:=J
  have gi:g<B.length:=J
  have e1:((g:Int)+1).toNat=g+1:=J
  have gz:(0:Int)≤(g:Int)+1:=J
  have gw:(-9223372036854775808≤(g:Int)+1∧(g:Int)+1<9223372036854775808):=J
  have c1:=zd9 gi;have c2:=tq gQ;have c3:=zd9 gQ;have gV:=qq B;by_cases he:(gs B g).2=(gs B (g+1)).1
  ·simp[h0,h5,s5,q5,g1,gi,gw,e1,gz,M9 c1,M9 c2,M9 c3,he];refine⟨J,?_⟩;rw[Zz gi];obtain⟨C,gC⟩:∃C,C=B.set g ((gs B g).1,(gs B (g+1)).2):=⟨_,rfl⟩;have gO:C.length=B.length:=by rw[gC,Jz]
   have gg:=zsy gQ he;rw[←gC]at gg;rw[←gC,←gO];obtain⟨G6,V⟩:∃G6,G6=Z.set q (.dyn (Nn C) C.length 2 j (z+1)):=⟨_,rfl⟩;have o6:∀x,x≠q→G6[x]?=Z[x]?:=λx E=>by rw[V,H8 (λe=>E e.symm)]
   have l6:G6.length=Z.length:=by rw[V];simp
   have q6:G6[q]?=some (.dyn (Nn C) C.length 2 j (z+1)):=by rw[V];exact Ia J
   have s6:=(o6 s (λe=>Q e.symm)).trans s5;rw[←V];simp[h0,h5,s6,gw];refine⟨J,?_⟩;rw[(J:(g:Int)+1=((g+1:Nat):Int)),(J:(g:Int)+2=((g+1+1:Nat):Int))];refine zmk del_tgt del_k del_right del_z q6 J Ad J ?_;rw[zx9];obtain⟨G7,X⟩:∃G7,G7=G6.set q (.dyn (Nn (C.take (g+1)++C.drop (g+1+1))) (C.length-1) 2 (j+1) (z+1+1)):=⟨_,rfl⟩;have o7:∀x,x≠q→G7[x]?=G6[x]?:=λx E=>by rw[X,H8 (λe=>E e.symm)]
   have l7:G7.length=G6.length:=by rw[X];simp
   have q7:G7[q]?=some (.dyn (Nn (C.take (g+1)++C.drop (g+1+1))) (C.length-1) 2 (j+1) (z+1+1)):=by rw[X];exact Ia J
   have s7:=(o7 s (λe=>Q e.symm)).trans s6;rw[←X];have gP:(C.take (g+1)++C.drop (g+1+1)).length=C.length-1:=by rw[Im,Iu,Jk];omega
   simp[h0,s7];refine gE _ _ _ ⟨_,?_,g,C.take (g+1)++C.drop (g+1+1),j+1,D+1,z+1+1,rfl,rfl,F4,By,Ia J,?_,λx E I=>?_,Ab,gg.trans hj,J,J⟩
   ·omega
   ·rw[H8 (λe=>Q e.symm),gP];exact q7
   ·rw[H8 (λe=>E e.symm),o7 x I,o6 x I,o5 x E I]
  ·simp[h0,h5,s5,q5,g1,gi,gw,e1,gz,M9 c1,M9 c2,M9 c3,he];exact gE _ _ _ ⟨_,J,g+1,B,j,D,z,rfl,rfl,F4,by simp,s5,q5,o5,l5,(ztj gQ he).trans hj,gM,J⟩
 ·have g1:¬(g:Int)+1<B.length:=J
  simp[h0,h5,s5,q5,g1];have gF:=zvy (H:=B) (i:=g) J;rw[gF,←hF]at hj;refine⟨J,?_⟩;refine k _ (.dy q j) (some q) D i (i-1) (λx E gG gH=>?_) J s5 ⟨j,z,rfl,?_⟩ (λq2 e=>?_)
  ·have I:x≠q:=λe=>by
    rcases gj with e2|e2
    ·exact gH (by rw[e2,e])
    ·omega
   rw[o5 x gG I,o4 x gG,o3 x J gH,o2 x J,o1 x J,o0 x E]
  ·rw[←hj];exact q5
  ·cases e;rcases gj with e2|e2
   ·exact .inl e2
   ·exact .inr J
end
end Go.Proofs.YtgjbfhmmgeplmaaGreat
end
