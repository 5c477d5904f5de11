/- The templates: see the main text. -/
import Derived.Test.YtgjbfhmmgeplmaaGreatSvG2
import Derived.Test.YtgjbfhmmgeplmaaGreatProg
import Derived.KernelRfl
import Derived.Test.YtgjbfhmmgeplmaaGreatTg0
import Derived.Test.YtgjbfhmmgeplmaaGreatSvG3
import Derived.Test.YtgjbfhmmgeplmaaGreatChecked
import Derived.WalkKit
import Derived.Shelf.RegionOpenPlain
import Derived.Deep.LoopGhost
import Derived.Deep.RegionLaw
import Derived.Lib.Walk
import Derived.Lib.SliceRun
import Derived.Lib.AppendZerosOnto
import Derived.Lib.AppendZeros
import Derived.Lib.Overlaps
import Derived.Laws.Externs
import Derived.Laws.NewBlocks
import Derived.Shelf.SlicesQ.Reverse
import Derived.Lib.RowBridge
set_option linter.defProp false
noncomputable section
namespace Go.Proofs.YtgjbfhmmgeplmaaGreat
open Go.Sv
set_option linter.unusedSimpArgs false
set_option maxRecDepth 10000
variable{g:Nat}{z P:Int}{R:List Int}{v9:Type}{G:List LV}{L:Mh}{Q:LV→Mh→Prop}{V:List Vr}
def Tp:LC:=(.q [.K 2 0,.F 3] (.seq (.q [.m 4 0] (.block 0 (.q [.b 6 .eql 3 4 1,.m 5 6] (.cond (.t 5) (.q [.K 2 1,.z 3 (.move .T)] .ret) (.q [.b 8 .eql 3 4 2,.m 7 8] (.cond (.t 7) (.q [.K 2 5,.z 3 (.move .T)] .ret) (.seq (.q [.b 10 .eql 3 4 3,.m 9 10] (.cond (.t 9) .skip (.q [.b 11 .eql 3 4 4,.m 9 11] (.cond (.t 9) .skip (.q [.b 12 .eql 3 4 5,.m 9 12] (.cond (.t 9) .skip (.q [.b 13 .eql 3 4 6,.m 9 13] (.cond (.t 9) .skip (.ops [.b 14 .eql 3 4 7,.m 9 14]))))))))) (.cond (.t 9) (.q [.K 2 13,.z 3 (.move .T)] .ret) (.seq (.q [.b 16 .eql 3 4 8,.m 15 16] (.cond (.t 15) .skip (.q [.b 17 .eql 3 4 10,.m 15 17] (.cond (.t 15) .skip (.q [.b 18 .eql 3 4 11,.m 15 18] (.cond (.t 15) .skip (.q [.b 19 .eql 3 4 12,.m 15 19] (.cond (.t 15) .skip (.ops [.b 20 .eql 3 4 13,.m 15 20]))))))))) (.cond (.t 15) (.q [.K 2 29,.z 3 (.move .T)] .ret) (.q [.b 22 .eql 3 4 9,.m 21 22] (.cond (.t 21) (.q [.K 2 21,.z 3 (.move .T)] .ret) (.q [.b 24 .eql 3 4 14,.m 23 24] (.cond (.t 23) (.q [.K 2 19,.z 3 (.move .T)] .ret) (.seq (.q [.b 26 .eql 3 4 15,.m 25 26] (.cond (.t 25) .skip (.ops [.b 27 .eql 3 4 16,.m 25 27]))) (.cond (.t 25) (.q [.K 2 0,.z 3 (.move .T)] .ret) .skip)))))))))))))))) (.q [.K 2 0,.F 3] .ret)))
def r_lengths_shape:Mt Tryz.prog 116=some ⟨28,Tp.r,[.tmp 2,.tmp 3]⟩:=Aa
def zk:LC:=(.q [.x 1 0,.F 2] (.seq (.q [.f 3 0 1,.l 4 3] (.block 0 (.q [.b 6 .eql 3 4 1,.m 5 6] (.cond (.t 5) (.q [.z 2 (.move .T)] .ret) (.q [.b 8 .eql 3 4 13,.m 7 8] (.cond (.t 7) (.q [.f 9 6 1,.l 10 9,.u 11 .geq 43 10 1,.m 12 11,.yf 13 12 6 1,.yl 14 12 13,.y 15 12 (.bin .leq true 43 (.t 14) (.c (.u 6))),.q 16 12 15,.m 2 16] .ret) (.q [.b 18 .eql 3 4 15,.m 17 18] (.cond (.t 17) (.q [.f 19 6 1,.l 20 19,.u 21 .geq 43 20 1,.m 22 21,.yf 23 22 6 1,.yl 24 22 23,.y 25 22 (.bin .leq true 43 (.t 24) (.c (.u 4096))),.q 26 22 25,.m 2 26] .ret) .skip)))))))) (.q [.f 27 6 1,.l 28 27,.u 29 .eql 43 28 0,.m 2 29] .ret)))
def r_lengths_number:Mt Tryz.prog 117=some ⟨30,zk.r,[.tmp 2]⟩:=Aa
def zaf:LC:=(.q [.x 1 0,.z 2 (.alloc [(.i 0),(.i 0),(.i 0),(.i 0),(.i 0)])] (.q [.f 3 1 1,.l 4 3,.f 5 2 1,.l 6 5,.f 7 3 1,.l 8 7,.f 9 4 1,.l 10 9,.f 11 5 1,.l 12 11,.z 13 (.build [(.i 0),(.i 0),(.i 0),(.i 0),(.i 0)] [(0,1,.t 4),(1,1,.t 6),(2,1,.t 8),(3,1,.t 10),(4,1,.t 12)]),.S 5 2 13] .ret))
def r_lengths_parts:Mt Tryz.prog 118=some ⟨14,zaf.r,[.cellN 2 5]⟩:=Aa
def za1:LC:=(.q [.x 1 0,.F 2] (.q [.f 3 2 1,.l 4 3,.b 5 .eql 3 4 1,.m 6 5,.nf 7 6 2 1,.nl 8 6 7,.nb 9 6 .eql 3 8 2,.p 10 6 9,.m 2 10] .ret))
def r_lengths_given:Mt Tryz.prog 75=some ⟨11,za1.r,[.tmp 2]⟩:=Aa
def z6d:LC:=(.q [.F 3] (.q [.m 4 0,.b 5 .geq 3 4 0,.m 6 5,.my 7 6 0,.yl 8 6 1,.y 9 6 (.lenSl (.t 8)),.y 10 6 (.bin .lss false 3 (.t 7) (.t 9)),.q 11 6 10,.m 3 11] .ret))
def r_lengths_need_1:Mt Tryz.prog 115=some ⟨12,z6d.r,[.tmp 3]⟩:=Aa
def vi:LC:=(.q [.x 2 0,.x 3 1,.F 4] (.q [.z 6 (.mkFunc 115 [] [.t 2]),.m 5 6] (.seq (.q [.f 7 1 3,.l 8 7,.b 9 .neq 3 8 (-1),.m 10 9,.nf 11 10 2 3,.nl 12 10 11,.nb 13 10 .neq 3 12 (-1),.p 14 10 13,.m 15 14,.nf 16 15 5 3,.nl 17 15 16,.nb 18 15 .neq 3 17 (-1),.p 19 15 18,.m 20 19,.mn 21 20 5,.nf 22 20 3 3,.nl 23 20 22,.n 24 20 (.callV (.t 21) [.t 23]),.n 25 20 (.un .not (.t 24)),.p 26 20 25] (.cond (.t 26) (.q [.F 4] .ret) .skip)) (.seq (.q [.f 27 6 3,.l 28 27] (.block 0 (.q [.u 30 .eql 43 28 2,.m 29 30] (.cond (.t 29) (.q [.m 31 5,.f 32 4 3,.l 33 32,.z 34 (.callV (.t 31) [.t 33]),.m 4 34] .ret) (.seq (.q [.u 36 .eql 43 28 1,.m 35 36] (.cond (.t 35) .skip (.ops [.u 37 .eql 43 28 3,.m 35 37]))) (.cond (.t 35) (.q [.f 38 4 3,.l 39 38,.b 40 .eql 3 39 (-1),.m 4 40] .ret) .skip)))))) (.q [.F 4] .ret)))))
def r_lengths_need:Mt Tryz.prog 74=some ⟨41,vi.r,[.tmp 4]⟩:=Aa
def z1h:LC:=(.q [.K 4 0] (.seq (.q [.m 6 0,.s 7 6,.K 8 0] (.block 0 (.loop (.q [.c 9 .lss 3 8 7] (.seq (.cond (.t 9) .skip (.exit 0)) (.seq (.block 1 (.q [.m 10 8,.m 5 10] (.q [.m 11 1,.m 12 0,.m 13 5,.I 14 1 12 13,.l 15 14,.z 16 (.callV (.t 11) [.t 15])] (.cond (.t 16) (.q [.m 17 5,.m 4 17] .ret) .skip)))) (.ops [.b 18 .add 3 8 1,.m 8 18]))))))) (.q [.K 4 (-1)] .ret)))
def r_slices_IndexFunc_int_int:Mt Tryz.prog 121=some ⟨19,z1h.r,[.tmp 4]⟩:=Aa
def k_slices_IndexFunc_int_int:z1h.ok=true:=Aa
def z30:LC:=(.q [.F 4] (.q [.m 5 0,.m 6 1,.W 7 121 5 6,.b 8 .geq 3 7 0,.m 4 8] .ret))
def r_slices_ContainsFunc_int_int:Mt Tryz.prog 77=some ⟨9,z30.r,[.tmp 4]⟩:=Aa
def wr(a b:Bool):Qn Tryz.prog false 4 (.bool a) (.bool b)=some (a==b):=by cases a<;>cases b<;>kernel_rfl
def zeu(k:Int):Mo 116 [.i k] (.tup [.i (((N6 k).getD 0:Nat):Int),.bool (N6 k).isSome]) []:=by
 refine Ni.val rfl (Mq r_lengths_shape Aa U ?_);by_cases D:k=1;· subst D;simp[Tp,N6]
 by_cases E:k=2;· subst E;simp[Tp,N6]
 by_cases F:k=3;· subst F;simp[Tp,N6]
 by_cases G:k=4;· subst G;simp[Tp,N6]
 by_cases H:k=5;· subst H;simp[Tp,N6]
 by_cases I:k=6;· subst I;simp[Tp,N6]
 by_cases K:k=7;· subst K;simp[Tp,N6]
 by_cases L:k=8;· subst L;simp[Tp,N6]
 by_cases M:k=9;· subst M;simp[Tp,N6]
 by_cases g:k=10;· subst g;simp[Tp,N6]
 by_cases j:k=11;· subst j;simp[Tp,N6]
 by_cases p:k=12;· subst p;simp[Tp,N6]
 by_cases z:k=13;· subst z;simp[Tp,N6]
 by_cases A:k=14;· subst A;simp[Tp,N6]
 by_cases B:k=15;· subst B;simp[Tp,N6]
 by_cases C:k=16;· subst C;simp[Tp,N6]
 simp[Tp,N6,D,E,F,G,H,I,K,L,M,g,j,p,z,A,B,C]
def zdt(o:Ko):Mo 117 [.agg o.f] (.bool (Pv o)) []:=by
 refine Ni.val rfl (Mq r_lengths_number Aa U ?_);by_cases g:o.kind=1;· simp[zk,Ko.f,Pv,g]
 by_cases j:o.kind=13
 ·by_cases z:1≤o.imm<;>simp[zk,Ko.f,Pv,g,j,z]
 by_cases p:o.kind=15
 ·by_cases z:1≤o.imm<;>simp[zk,Ko.f,Pv,g,j,p,z]
 simp[zk,Ko.f,Pv,g,j,p]
def z9d(o:Ko):Mo 118 [.agg o.f] (.agg [.i o.d,.i o.e,.i o.a,.i o.b,.i o.c]) []:=by
 refine Ni.val rfl (Mq r_lengths_parts Aa U ?_);simp[zaf,Ko.f]
def z9e(v:Vr):Mo 75 [.agg v.f] (.bool (Oo v)) []:=by
 refine Ni.val rfl (Mq r_lengths_given Aa U ?_);by_cases g:v.mode=1<;>simp[za1,Vr.f,Oo,g]
def zii{n st:Nat}{c:List LV}(v:Int)(j:L[g]?=some (.cells [.lst c n 3] st))(k:Q (.bool (Q2 n v)) L):Oa (.fn 115) [.i v,.ptr g 0] L Q:=by
 refine Mq r_lengths_need_1 Aa U ?_;by_cases p:0≤v
 ·by_cases z:v<n<;>simp[z6d,j,Q2,p,z]at k ⊢<;>exact k
 ·simp[z6d,j,Q2,p]at k ⊢;exact k
def zae(c:List LV)(n:Nat)(o:Ko):Mo 74 [.lst c n 3,.agg o.f] (.bool (Qg n o)) []:=by
 refine Ni.val rfl (Mq r_lengths_need Aa U ?_);by_cases g:o.d=-1
 case neg=>simp[vi,Ko.f,Qg,g]
 by_cases j:o.e=-1
 case neg=>simp[vi,Ko.f,Qg,g,j]
 by_cases p:o.c=-1
 case neg=>simp[vi,Ko.f,Qg,g,j,p]
 simp[vi,Ko.f,g,j,p];refine zii o.a rfl ?_;cases z:Q2 n o.a with
 |false=>simp[Qg,z]
 |true =>
  by_cases A:o.imm=2
  ·simp[A];refine zii o.b rfl ?_;simp[Qg,g,j,p,z,A]
  by_cases B:o.imm=1
  ·simp[Qg,g,j,p,z,A,B]
  by_cases C:o.imm=3
  ·simp[Qg,g,j,p,z,A,B,C]
  simp[Qg,g,j,p,z,A,B,C]
def zcn{l:List Int}{f:Nat}{a b:List LV}{O:Int→Bool}(T:l.length≤9223372036854775807)
  (P:∀v∈l,∀E:LV→Mh→Prop,E (.bool (O v)) L→Oa (.fn f) (a++[.i v]++b) L E) (k:Q (.i (Vm O l)) L):Oa (.fn 121) [.lst (l.map .i) l.length 1,.fn (.func f) a b] L Q:=by
 refine Mq r_slices_IndexFunc_int_int k_slices_IndexFunc_int_int U ?_;simp[z1h];refine M2 (λF S G N=>∃i:Nat,S=[]∧G=L∧N+i=l.length∧lk F 0=.lst (l.map .i) l.length 1∧lk F 1=.fn (.func f) a b∧lk F 7=.i l.length∧lk F 8=.i i∧∀H b,H<i→l[H]?=some b→O b=false) (N:=l.length) ⟨0,U⟩ ?_;rintro N F S G ⟨i,rfl,rfl,V,j,p,z,A,B⟩ X C;by_cases R:l.length≤i
 ·have I:¬i<l.length:=J
  simp[j,p,z,A,I];rw[←zk0 R B];exact k
 ·have I:i<l.length:=J
  have D:=Hj I;simp[j,p,z,A,I];simp[Mi (Pf (f:=LV.i) D)];have K:=P l[i] (Ky I);simp only[H7,List.singleton_append]at K;refine K _ ?_;cases M:O l[i] with
  |true =>
   simp;rw[←zvb D M B];exact k
  |false =>
   simp[A];refine⟨J,C _ _ _ ⟨N-1,J,i+1,rfl,rfl,J,As,Ae,Ak,U,λH b Y g=>?_⟩⟩;by_cases e:H=i
   ·subst e;rw[D]at g;cases g;exact M
   ·exact B H b J g
def z6c{l:List Int}{f:Nat}{a b:List LV}{p:Int→Bool}(j:l.length≤9223372036854775807)
  (z:∀v∈l,∀g:LV→Mh→Prop,g (.bool (p v)) L→Oa (.fn f) (a++[.i v]++b) L g) (k:Q (.bool (l.any p)) L):Oa (.fn 77) [.lst (l.map .i) l.length 1,.fn (.func f) a b] L Q:=by
 refine Mq r_slices_ContainsFunc_int_int Aa U ?_;simp[z30];refine zcn j z ?_;simp;rw[znt];exact k
def zag:LC:=(.q [.z 0 (.move (.c .nilMap))] (.q [.z 1 (.move (.c (.fn (.func 165) [] [])))] (.q [.z 2 (.mkMap0),.v (.mapUpd (.int .i64) (.t 2) (.k 6) (.c (.fn (.func 166) [] []))),.v (.mapUpd (.int .i64) (.t 2) (.k 14) (.c (.fn (.func 167) [] []))),.v (.mapUpd (.int .i64) (.t 2) (.k 8) (.c (.fn (.func 168) [] []))),.v (.mapUpd (.int .i64) (.t 2) (.k 9) (.c (.fn (.func 169) [] []))),.m 3 1,.v (.mapUpd (.int .i64) (.t 2) (.k 10) (.t 3)),.m 4 1,.v (.mapUpd (.int .i64) (.t 2) (.k 11) (.t 4)),.m 5 1,.v (.mapUpd (.int .i64) (.t 2) (.k 12) (.t 5)),.v (.mapUpd (.int .i64) (.t 2) (.k 13) (.c (.fn (.func 170) [] []))),.m 6 2,.m 0 6] .ret)))
def r_lengths_alike:Mt Tryz.prog 149=some ⟨7,zag.r,[.tmp 0]⟩:=Aa
def z8a:LC:=(.q [.x 1 0,.e 2] (.q [.f 3 1 1,.l 4 3,.f 5 3 1,.l 6 5,.f 7 4 1,.l 8 7,.f 9 5 1,.l 10 9,.z 11 (.buildSl 1 4 [(.i 0),(.i 0),(.i 0),(.i 0)] [(0,1,.t 4),(1,1,.t 6),(2,1,.t 8),(3,1,.t 10)]),.m 2 11] .ret))
def r_lengths_alike_1:Mt Tryz.prog 165=some ⟨12,z8a.r,[.tmp 2]⟩:=Aa
def z7z:LC:=(.q [.x 1 0,.e 2] (.q [.f 3 3 1,.l 4 3,.f 5 4 1,.l 6 5,.z 7 (.buildSl 1 2 [(.i 0),(.i 0)] [(0,1,.t 4),(1,1,.t 6)]),.m 2 7] .ret))
def r_lengths_alike_2:Mt Tryz.prog 166=some ⟨8,z7z.r,[.tmp 2]⟩:=Aa
def z82:LC:=(.q [.x 1 0,.e 2] (.q [.f 3 1 1,.l 4 3,.f 5 2 1,.l 6 5,.z 7 (.buildSl 1 2 [(.i 0),(.i 0)] [(0,1,.t 4),(1,1,.t 6)]),.m 2 7] .ret))
def r_lengths_alike_3:Mt Tryz.prog 167=some ⟨8,z82.r,[.tmp 2]⟩:=Aa
def z87:LC:=(.q [.x 1 0,.e 2] (.q [.f 3 1 1,.l 4 3,.f 5 3 1,.l 6 5,.f 7 4 1,.l 8 7,.z 9 (.buildSl 1 3 [(.i 0),(.i 0),(.i 0)] [(0,1,.t 4),(1,1,.t 6),(2,1,.t 8)]),.m 2 9] .ret))
def r_lengths_alike_4:Mt Tryz.prog 168=some ⟨10,z87.r,[.tmp 2]⟩:=Aa
def z7w:LC:=(.q [.x 1 0,.e 2] (.q [.f 3 1 1,.l 4 3,.f 5 5 1,.l 6 5,.z 7 (.buildSl 1 2 [(.i 0),(.i 0)] [(0,1,.t 4),(1,1,.t 6)]),.m 2 7] .ret))
def r_lengths_alike_5:Mt Tryz.prog 169=some ⟨8,z7w.r,[.tmp 2]⟩:=Aa
def z8h:LC:=(.q [.x 1 0,.e 2] (.q [.f 3 1 1,.l 4 3,.f 5 3 1,.l 6 5,.f 7 5 1,.l 8 7,.z 9 (.buildSl 1 3 [(.i 0),(.i 0),(.i 0)] [(0,1,.t 4),(1,1,.t 6),(2,1,.t 8)]),.m 2 9] .ret))
def r_lengths_alike_6:Mt Tryz.prog 170=some ⟨10,z8h.r,[.tmp 2]⟩:=Aa
def z8g:LC:=(.q [.F 4] (.seq (.draw [(.l 5 1,[]),(.m 6 0,[]),(.I 7 3 5 6,[]),(.f 8 0 7,[]),(.l 9 8,[]),(.l 10 1,[]),(.l 11 2,[]),(.z 12 (.ixAddr 1 (.t 11) (.k 0)),[]),(.l 13 12,[]),(.I 14 3 10 13,[]),(.f 15 0 14,[]),(.l 16 15,[]),(.c 17 .neq 3 9 16,[]),(.m 4 17,[])]) .ret))
def r_lengths_agree_1:Mt Tryz.prog 150=some ⟨18,z8g.r,[.tmp 4]⟩:=Aa
def bu:LC:=(.q [.x 2 0,.x 3 1,.F 4] (.seq (.draw [(.f 10 0 3,[]),(.l 11 10,[]),(.z 9 (.w 149 []),[(.l 11 10,false)]),(.z 12 (.lookup (.int .i64) .nilFn true (.t 9) (.t 11)),[]),(.m 8 12,[]),(.X 13 0 8,[]),(.X 14 1 8,[]),(.m 5 13,[]),(.m 6 14,[])]) (.seq (.q [.m 15 6,.z 16 (.un .not (.t 15))] (.cond (.t 16) (.q [.z 4 (.move .T)] .ret) .skip)) (.q [.m 17 5,.L 18 7 3,.z 19 (.callV (.t 17) [.t 18]),.z 7 (.alloc [.nilSl]),.S 1 7 19] (.q [.l 20 7,.z 21 (.mkFunc 150 [] [.t 2,.t 7]),.W 22 77 20 21,.z 23 (.un .not (.t 22)),.m 4 23] .ret)))))
def r_lengths_agree:Mt Tryz.prog 120=some ⟨24,bu.r,[.tmp 4]⟩:=Aa
def bc:List (LV×LV×Nat):=[(.i 6,.fn (.func 166) [] [],0),(.i 14,.fn (.func 167) [] [],1),(.i 8,.fn (.func 168) [] [],2),(.i 9,.fn (.func 169) [] [],3),(.i 10,.fn (.func 165) [] [],4),(.i 11,.fn (.func 165) [] [],5),(.i 12,.fn (.func 165) [] [],6),(.i 13,.fn (.func 170) [] [],7)]
def ie(k:Q (.map L.length) (L++[.map bc 8 8])):Oa (.fn 149) [] L Q:=by
 refine Mq r_lengths_alike Aa U ?_;simp[zag];exact k
def ze0(o:Ko):P6 165 [.agg o.f] (.lst ([o.d,o.a,o.b,o.c].map .i) 4 1):=by
 refine S0.mk B1 (Mq r_lengths_alike_1 Aa U ?_);simp[z8a,Ko.f,Np,bor]
def zrq(o:Ko):P6 166 [.agg o.f] (.lst ([o.a,o.b].map .i) 2 1):=by
 refine S0.mk B1 (Mq r_lengths_alike_2 Aa U ?_);simp[z7z,Ko.f,Np,bor]
def zsl(o:Ko):P6 167 [.agg o.f] (.lst ([o.d,o.e].map .i) 2 1):=by
 refine S0.mk B1 (Mq r_lengths_alike_3 Aa U ?_);simp[z82,Ko.f,Np,bor]
def zsa(o:Ko):P6 168 [.agg o.f] (.lst ([o.d,o.a,o.b].map .i) 3 1):=by
 refine S0.mk B1 (Mq r_lengths_alike_4 Aa U ?_);simp[z87,Ko.f,Np,bor]
def zrk(o:Ko):P6 169 [.agg o.f] (.lst ([o.d,o.c].map .i) 2 1):=by
 refine S0.mk B1 (Mq r_lengths_alike_5 Aa U ?_);simp[z7w,Ko.f,Np,bor]
def zsn(o:Ko):P6 170 [.agg o.f] (.lst ([o.d,o.a,o.c].map .i) 3 1):=by
 refine S0.mk B1 (Mq r_lengths_alike_6 Aa U ?_);simp[z8h,Ko.f,Np,bor]
def Vb(g:List Vr)(v:Int):Prop:=0≤v∧v<g.length
def Vb.at{vs:List Vr}{v:Int}(h:Vb vs v):∃k:Nat,v=k∧k<vs.length∧vs[k]?=some (gv vs v.toNat):=by
 obtain⟨k,rfl⟩:=Hx h.1;have h2:=h.2;exact⟨k,rfl,J,by rw[Io];exact P8 J⟩
def zof{p q st:Nat}(v:Int)(j:L[p]?=some (.cells [.lst (Mz V) V.length 3] st))(z:L[q]?=some (.cells [.lst (R.map .i) R.length 1] g))
  (F:Vb V v) (A:Vb V (R.headD 0)) (G:R≠[]) (k:Q (.bool (decide (Pr V v≠Pr V (R.headD 0)))) L):Oa (.fn 150) [.i v,.ptr p 0,.ptr q 0] L Q:=by
 refine Mq r_lengths_agree_1 Aa U ?_;cases R with
 |nil=>exact absurd rfl G
 |cons y R =>
  simp only[List.headD_cons]at A k;obtain⟨a,rfl,B,H⟩:=F.at;obtain⟨b,rfl,C,I⟩:=A.at;have D:=fg H;have E:=fg I;simp only[Io]at D E;simp only[Pr,Io]at k;simp[z8g,j,z,B,C];simp[Mi D,Mi E,j,z,B,C];rw[←decide_not];exact k
def zp3(g:List Int)(x:Int→Int)(y:Int):(!(g.any λv=>decide (x v≠y)))=g.all λv=>decide (x v=y):=by
 induction g with
 |nil=>rfl
 |cons a g j =>
  simp only[List.any_cons,Jx,Bool.not_or,j];by_cases h:x a=y<;>simp[h]
def z98(G:List Vr)(o:Ko)(N:∀v∈Pd o,Vb G v):Mo 120 [.lst (Mz G) G.length 3,.agg o.f] (.bool (bf G o)) []:=by
 refine Ni.val rfl (Mq r_lengths_agree Aa U ?_);have z:o.f=[.i o.kind,.i o.d,.i o.e,.i o.a,.i o.b,.i o.c,.u o.imm]:=rfl;have A:∀H:List Int,H≠[]→Pd o=H→∀{O:Mh} {p q st M:Nat} {Q:LV→Mh→Prop},O[p]?=some (.cells [.lst (Mz G) G.length 3] st)→O[q]?=some (.cells [.lst (H.map .i) H.length 1] M)→Q (.bool (!bf G o)) O →
   Oa (.fn 77) [.lst (H.map .i) H.length 1,.fn (.func 150) [] [.ptr p 0,.ptr q 0]] O Q:=by
  intro H P j O p q st M Q R S k;rw[j]at N;have T:Vb G (H.headD 0):=by
   cases H with
   |nil=>exact absurd rfl P
   |cons y H=>exact N y (Jf ..)
  have V:H.length≤9223372036854775807:=by
   rw[←j];unfold Pd;repeat' split
   all_goals simp
  refine z6c (p:=λv=>decide (Pr G v≠Pr G (H.headD 0))) V (λv hm Y X=>zof v R S (N v hm) T P X) ?_;have:=zp3 H (Pr G) (Pr G (H.headD 0));rw[←Bool.not_not (H.any _),this];rw[bf,j]at k;exact k
 by_cases I:o.kind=6
 ·have j:Pd o=[o.a,o.b]:=by simp[Pd,I]
  simp[bu,z,I];refine ie ?_;simp[bc];have g:=zrq o;rw[z,I]at g;refine R8 g rfl ?_;simp;refine A [o.a,o.b] U j rfl rfl ?_;simp
 by_cases B:o.kind=14
 ·have j:Pd o=[o.d,o.e]:=by simp[Pd,B]
  simp[bu,z,B];refine ie ?_;simp[bc];have g:=zsl o;rw[z,B]at g;refine R8 g rfl ?_;simp;refine A [o.d,o.e] U j rfl rfl ?_;simp
 by_cases K:o.kind=8
 ·have j:Pd o=[o.d,o.a,o.b]:=by simp[Pd,K]
  simp[bu,z,K];refine ie ?_;simp[bc];have g:=zsa o;rw[z,K]at g;refine R8 g rfl ?_;simp;refine A [o.d,o.a,o.b] U j rfl rfl ?_;simp
 by_cases L:o.kind=9
 ·have j:Pd o=[o.d,o.c]:=by simp[Pd,L]
  simp[bu,z,L];refine ie ?_;simp[bc];have g:=zrk o;rw[z,L]at g;refine R8 g rfl ?_;simp;refine A [o.d,o.c] U j rfl rfl ?_;simp
 by_cases C:o.kind=10
 ·have j:Pd o=[o.d,o.a,o.b,o.c]:=by simp[Pd,C]
  simp[bu,z,C];refine ie ?_;simp[bc];have g:=ze0 o;rw[z,C]at g;refine R8 g rfl ?_;simp;refine A [o.d,o.a,o.b,o.c] U j rfl rfl ?_;simp
 by_cases D:o.kind=11
 ·have j:Pd o=[o.d,o.a,o.b,o.c]:=by simp[Pd,D]
  simp[bu,z,D];refine ie ?_;simp[bc];have g:=ze0 o;rw[z,D]at g;refine R8 g rfl ?_;simp;refine A [o.d,o.a,o.b,o.c] U j rfl rfl ?_;simp
 by_cases E:o.kind=12
 ·have j:Pd o=[o.d,o.a,o.b,o.c]:=by simp[Pd,E]
  simp[bu,z,E];refine ie ?_;simp[bc];have g:=ze0 o;rw[z,E]at g;refine R8 g rfl ?_;simp;refine A [o.d,o.a,o.b,o.c] U j rfl rfl ?_;simp
 by_cases F:o.kind=13
 ·have j:Pd o=[o.d,o.a,o.c]:=by simp[Pd,F]
  simp[bu,z,F];refine ie ?_;simp[bc];have g:=zsn o;rw[z,F]at g;refine R8 g rfl ?_;simp;refine A [o.d,o.a,o.c] U j rfl rfl ?_;simp
 have j:Pd o=[]:=by simp[Pd,I,B,K,L,C,D,E,F]
 simp[bu,z,I,B,K,L,C,D,E,F];refine ie ?_;simp[bc,I,B,K,L,C,D,E,F];simp[bf,j]
def z52:LC:=(.q [.e 2] (.seq (.q [.m 3 0,.z 4 (.bin .eql true 39 (.t 3) (.c .nilSl))] (.cond (.t 4) (.q [.e 2] .ret) .skip)) (.q [.z 5 (.buildSl 1 0 [] []),.m 6 0,.a 7 1 5 6,.m 2 7] .ret)))
def r_slices_Clone_int_int:Mt Tryz.prog 122=some ⟨8,z52.r,[.tmp 2]⟩:=Aa
def z1f:LC:=(.q [.e 4] (.q [.m 8 0,.m 9 1,.W 10 121 8 9,.m 5 10] (.seq (.q [.m 11 5,.b 12 .eql 3 11 (-1)] (.cond (.t 12) (.q [.m 13 0,.m 4 13] .ret) .skip)) (.seq (.q [.m 14 5,.b 15 .add 3 14 1,.m 6 15] (.block 0 (.loop (.seq (.q [.m 16 6,.m 17 0,.s 18 17,.c 19 .lss 3 16 18] (.cond (.t 19) .skip (.exit 0))) (.seq (.block 1 (.q [.m 22 0,.m 23 6,.I 24 1 22 23,.l 25 24,.m 7 25] (.q [.m 26 1,.m 27 7,.z 28 (.callV (.t 26) [.t 27]),.z 29 (.un .not (.t 28))] (.cond (.t 29) (.q [.m 30 0,.m 31 5,.m 32 7,.I 33 1 30 31,.S 1 33 32] (.ops [.m 34 5,.b 35 .add 3 34 1,.m 5 35])) .skip)))) (.ops [.m 20 6,.b 21 .add 3 20 1,.m 6 21])))))) (.q [.m 36 0,.m 37 5,.z 38 (.slSl 1 (.t 36) (some (.t 37)) none),.v (.clear 1 [(.i 0)] (.t 38))] (.q [.m 39 0,.m 40 5,.z 41 (.slSl 1 (.t 39) none (some (.t 40))),.m 4 41] .ret))))))
def r_slices_DeleteFunc_int_int:Mt Tryz.prog 88=some ⟨42,z1f.r,[.tmp 4]⟩:=Aa
def k_slices_DeleteFunc_int_int:z1f.ok=true:=Aa
def z83:LC:=(.q [.F 2] (.q [.m 3 0,.b 4 .lss 3 3 0,.m 2 4] .ret))
def r_lengths_takes_1:Mt Tryz.prog 123=some ⟨5,z83.r,[.tmp 2]⟩:=Aa
def z9y:LC:=(.q [.x 1 0,.e 2] (.q [.L 5 7 1,.w 6 118 5,.z 3 (.alloc [(.i 0),(.i 0),(.i 0),(.i 0),(.i 0)]),.S 5 3 6] (.q [.z 7 (.slArr 5 1 (.t 3) (some (.k 2)) none),.w 8 122 7,.z 9 (.w 88 [.t 8,(.c (.fn (.func 123) [] []))]),.m 4 9] (.seq (.q [.f 10 0 1,.l 11 10,.b 12 .eql 3 11 14] (.cond (.t 12) (.ops [.m 13 4,.f 14 1 1,.l 15 14,.f 16 2 1,.l 17 16,.z 18 (.buildSl 1 2 [(.i 0),(.i 0)] [(0,1,.t 15),(1,1,.t 17)]),.a 19 1 13 18,.m 4 19]) .skip)) (.q [.m 20 4,.m 2 20] .ret)))))
def r_lengths_takes:Mt Tryz.prog 78=some ⟨21,z9y.r,[.tmp 2]⟩:=Aa
def sl_nil:Qn Tryz.prog true 39 .nilSl .nilSl=some true:=Aa
def ztg{l:List Int}(g:l.length≤1048576)(j:l≠[])(k:Q (.dy L.length 1) (L++[.dyn (l.map .i) l.length 1 1 1])):Oa (.fn 122) [.lst (l.map .i) l.length 1] L Q:=by
 refine Mq r_slices_Clone_int_int Aa U ?_;simp[z52,sl_nil,g,j];exact k
def zk3{l:List Int}{f:Nat}{p:Int→Bool}(g:l.length≤9223372036854775807)
  (j:∀v∈l,Mo f [.i v] (.bool (p v)) []):Mo 121 [.lst (l.map .i) l.length 1,.fn (.func f) [] []] (.i (Vm p l)) [] :=
 Ni.val rfl (zcn g (λv z A k=>by
  simp only[J2,Ip];exact Mv (j v z) (bors_self _ rfl) k) rfl)
def zi0{q k st:Nat}{l:List Int}{f:Nat}{p:Int→Bool}(hl:l.length≤9223372036854775807)(O:L[q]?=some (.dyn (l.map .i) l.length 1 k st))
  (Z:∀v,Mo f [.i v] (.bool (p v)) []) (k0:l.filter (λv=>!p v)=l→Q (.dy q k) L)
  (k1:∀(m:Nat) (gg:List LV) (g:Nat),m=(l.filter (λv=>!p v)).length→gg.length=l.length→gg.take m=(l.filter (λv=>!p v)).map .i→dats gg=true→Q (.vw q k 0 m) (L.set q (.dyn gg l.length 1 k g))) :
  Oa (.fn 88) [.dy q k,.fn (.func f) [] []] L Q:=by
 refine Mq r_slices_DeleteFunc_int_int k_slices_DeleteFunc_int_int U ?_;have P:q<L.length:=(Hf.1 O).1;have R:∀l:List Int,dats (l.map .i)=true:=λl=>Ze (λ_=>rfl) l
 have z:∀S,(L.set q S)[q]?=some S:=λS=>Hi P
 have A:L.set q (.dyn (l.map .i) l.length 1 k st)=L:=zqb O;simp[z1f];refine Mv (zk3 hl λv _=>Z v) (by simp[bors,bor,LV.dat,dats,O,R]) ?_;rcases zvu p l with ⟨T,H⟩|⟨I,T,gA,H⟩
 ·simp[T];exact k0 H
 have n1:¬((I:Int)=-1):=J
 simp[T,n1];refine⟨J,?_⟩;refine M2 (λρ gD G' N=>∃(i j:Nat) (c:List Int) (g:Nat),gD=[]∧G'=L.set q (.dyn (c.map .i) l.length 1 k g)∧N+j=l.length∧i<j∧j≤l.length∧lk ρ 0=.dy q k∧lk ρ 1=.fn (.func f) [] []∧lk ρ 5=.i i∧lk ρ 6=.i j ∧
   c.length=l.length∧i=((l.take j).filter (λv=>!p v)).length∧c.take i=(l.take j).filter (λv=>!p v)∧∀u,j≤u→gd c u=gd l u)
  (N:=l.length-(I+1)) ⟨I,I+1,l,st,rfl,A.symm,J,J,J,U,U,U,U,rfl,by rw[H];simp;omega,H.symm,λu _=>rfl⟩ ?_
 rintro N ρ gD G' ⟨i,j,c,g,rfl,rfl,hN,gB,hj,C,D,E,F,V,K,M,X⟩ Nx G;by_cases gC:j<l.length
 ·have g2:i<l.length:=J
  have Y:=Pf (f:=LV.i) (Po (l:=c) (u:=j) J);have eg:=X j (Hm _);simp[C,D,E,F,z,gC];simp[Mi Y,C,D,E,F,z,gC,eg];refine Mv (Z (gd l j)) U ?_;have B:=znd (p:=p) gC;cases hb:p (gd l j) with
  |true =>
   rw[hb]at B;simp only[Kh,Ip]at B;simp[F]
   repeat (refine⟨J,?_⟩)
   exact G _ _ _ ⟨N-1,J,i,j+1,c,g,rfl,rfl,J,J,J,Au,Ai,Av,U,V,by rw[B];exact K,by rw[B];exact M,λu hu=>X u J⟩
  |false =>
   rw[hb,Hq U]at B;simp[C,D,E,F,z,g2];rw[U7 _ _ _ J]
   repeat (refine⟨J,?_⟩)
   refine G _ _ _ ⟨N-1,J,i+1,j+1,_,_,rfl,rfl,J,J,J,Au,Ai,U,U,by simpa using V,?_,?_,λu hu=>?_⟩
   ·rw[B,Hv,←K];rfl
   ·rw[B,zjb J,M]
   ·rw[znr (j:=j+1) J J u hu,X u J]
 ·have ej:j=l.length:=J
  subst ej;rw[Lv]at K M;simp[C,D,E,F,z]
  repeat (refine⟨J,?_⟩)
  refine k1 i _ _ K ?_ ?_ ?_
  ·rw[zs6 (by rw[u9];simp;omega)];simp[V]
  ·rw[X3 Ab,←Me,M]
  ·unfold M5;exact dats_app (dats_app (dats_take _ (R c)) (zq9 rfl _)) (dats_drop _ (R c))
def zrp(v:Int):Mo 123 [.i v] (.bool (decide (v<0))) []:=by
 refine Ni.val rfl (Mq r_lengths_takes_1 Aa U ?_);simp[z83]
def z9c(o:Ko)(h:o.kind=14→o.a=-1∧o.b=-1):P6 78 [.agg o.f] (.lst ((Q4 o).map .i) (Q4 o).length 1):=by
 have I:∀l:List Int,dats (l.map .i)=true:=λl=>Ze (λ_=>rfl) l
 refine S0.mk (by simp[LV.dat,I]) (Mq r_lengths_takes Aa U ?_);have z:o.f=[.i o.kind,.i o.d,.i o.e,.i o.a,.i o.b,.i o.c,.u o.imm]:=rfl;simp[z9y,z];rw[←z];refine Mv (z9d o) (bors_self _ rfl) ?_;simp;refine ztg (l:=[o.a,o.b,o.c]) U U ?_;simp;have F:([o.a,o.b,o.c].filter λv=>!decide (v<0)).length≤3:=Lt _ _;refine zi0 (l:=[o.a,o.b,o.c]) (p:=λv=>decide (v<0)) U rfl zrp (λhw=>?_) (λm E K hm G H hd=>?_)
 ·by_cases g:o.kind=14
  ·have:=List.filter_eq_self.1 hw o.a U;rw[(h g).1]at this;simp at this
  ·have e:Q4 o=[o.a,o.b,o.c]:=by unfold Q4;rw[hw,Hq g];rfl
   simp[z,g,e,Np,bor,dats,LV.dat]
 ·by_cases g:o.kind=14
  ·have e:Q4 o=([o.a,o.b,o.c].filter λv=>!decide (v<0))++[o.d,o.e]:=by unfold Q4;rw[Hs g]
   have A:m≤1:=by
    rw[hm,(h g).1,(h g).2];simp;by_cases L:0≤o.c<;>simp[L]
   have j:E.length=3:=G;simp[z,g,j,A,dats,LV.dat];rw[e];have B:(([o.a,o.b,o.c].filter λv=>!decide (v<0))++[o.d,o.e]).length=m+2:=by rw[Hv,←hm];rfl
   have M:(([o.a,o.b,o.c].filter λv=>!decide (v<0))++[o.d,o.e]).map LV.i=E.take m++[.i o.d,.i o.e]:=by rw[Iz,H];rfl
   have C:(E.take m++[LV.i o.d,LV.i o.e]).length=m+2:=by rw[Hv,H4];simp;omega
   have N:dats (E.take m++[LV.i o.d,LV.i o.e])=true:=dats_app (dats_take _ hd) rfl;have D:(M5 E m [.i o.d,.i o.e]).length=3:=by unfold M5;simp;omega
   rw[M,B];refine⟨J,⟨_,_,_,⟨?_,rfl,rfl⟩,⟨rfl,rfl,rfl⟩,?_,?_⟩,⟨_,_,_,⟨rfl,rfl,rfl⟩,⟨rfl,rfl,rfl⟩,N⟩⟩
   ·unfold M5;rw[Kk];exact (J1 C).symm
   ·rw[D];omega
   ·unfold M5;exact dats_app (dats_app (dats_take _ hd) rfl) (dats_drop _ hd)
  ·have e:Q4 o=[o.a,o.b,o.c].filter λv=>!decide (v<0):=by unfold Q4;rw[Hq g,Ip]
   simp[z,g,dats,LV.dat];rw[e,←H,←hm];have j:E.length=3:=G;simp[Np,bor,hd];exact⟨_,_,_,⟨by rw[Kk],rfl⟩,⟨rfl,rfl,rfl⟩,by rw[j];omega,hd⟩
def za0:LC:=(.q [.F 3] (.q [.l 4 1,.m 5 0,.I 6 3 4 5,.f 7 1 6,.l 8 7,.m 3 8] .ret))
def r_lengths_one_1:Mt Tryz.prog 119=some ⟨9,za0.r,[.tmp 3]⟩:=Aa
def z8o:LC:=(.q [.x 2 0,.x 3 1,.F 4] (.seq (.q [.f 13 0 3,.l 14 13,.b 15 .eql 3 14 17] (.cond (.t 15) (.q [.l 16 2,.L 17 7 3,.W 18 74 16 17,.m 4 18] .ret) .skip)) (.q [.f 20 0 3,.l 21 20,.w 22 116 21,.m 19 22,.X 23 0 19,.X 24 1 19,.m 5 23,.m 6 24] (.seq (.q [.m 25 6,.z 26 (.un .not (.t 25)),.m 27 26,.n 28 27 (.loadN 7 (.t 3)),.n 29 27 (.w 117 [.t 28]),.n 30 27 (.un .not (.t 29)),.p 31 27 30] (.cond (.t 31) (.q [.F 4] .ret) .skip)) (.seq (.q [.L 32 7 3,.w 33 118 32,.K 34 0] (.block 0 (.loop (.q [.b 35 .lss 3 34 5] (.seq (.cond (.t 35) .skip (.exit 0)) (.seq (.block 1 (.q [.m 36 34,.z 37 (.ixArr false 5 1 (.t 33) (.t 34)),.m 7 36,.m 8 37] (.q [.m 38 5,.m 39 7,.c 40 .shr 3 38 39,.b 41 .and 3 40 1,.b 42 .eql 3 41 1,.m 9 42] (.q [.m 43 9,.m 44 43,.my 45 44 8,.y 46 44 (.bin .lss true 3 (.t 45) (.k 0)),.my 47 44 46,.mn 48 47 8,.nl 49 47 2,.n 50 47 (.lenSl (.t 49)),.n 51 47 (.bin .geq false 3 (.t 48) (.t 50)),.y 52 44 (.pick (.t 47) .T (.t 51)),.q 53 44 52,.m 54 53,.mn 55 54 9,.n 56 54 (.un .not (.t 55)),.mn 57 54 56,.my 58 57 8,.y 59 57 (.bin .neq true 3 (.t 58) (.k (-1))),.n 60 54 (.pick (.t 57) (.t 59) .F),.p 61 54 60] (.cond (.t 61) (.q [.F 4] .ret) .skip))))) (.ops [.b 62 .add 3 34 1,.m 34 62]))))))) (.q [.L 63 7 3,.w 64 78 63,.z 65 (.mkFunc 119 [] [.t 2]),.W 66 77 64 65,.m 10 66] (.seq (.q [.f 67 1 3,.l 68 67,.f 69 2 3,.l 70 69,.z 71 (.buildSl 1 2 [(.i 0),(.i 0)] [(0,1,.t 68),(1,1,.t 70)]),.s 72 71,.K 73 0] (.block 2 (.loop (.q [.c 74 .lss 3 73 72] (.seq (.cond (.t 74) .skip (.exit 2)) (.seq (.block 3 (.q [.I 75 1 71 73,.l 76 75,.m 12 76] (.q [.m 77 12,.b 78 .geq 3 77 0,.m 79 78,.yl 80 79 2,.my 81 79 12,.y 82 79 (.ixAddr 3 (.t 80) (.t 81)),.y 83 79 (.loadN 3 (.t 82)),.y 84 79 (.w 75 [.t 83]),.my 85 79 84,.mn 86 85 10,.mn 87 85 86,.yl 88 87 2,.my 89 87 12,.y 90 87 (.ixAddr 3 (.t 88) (.t 89)),.yf 91 87 1 90,.yl 92 87 91,.y 93 87 (.un .not (.t 92)),.n 94 85 (.pick (.t 87) (.t 93) .F),.y 95 79 (.pick (.t 85) .T (.t 94)),.q 96 79 95] (.cond (.t 96) (.q [.F 4] .ret) .skip)))) (.ops [.b 97 .add 3 73 1,.m 73 97]))))))) (.q [.f 98 2 3,.l 99 98,.b 100 .lss 3 99 0,.m 101 100,.nf 102 101 1 3,.nl 103 101 102,.nf 104 101 2 3,.nl 105 101 104,.n 106 101 (.bin .neq false 3 (.t 103) (.t 105)),.p 107 101 106,.m 108 107,.yl 109 108 2,.y 110 108 (.loadN 7 (.t 3)),.y 111 108 (.w 120 [.t 109,.t 110]),.q 112 108 111,.m 4 112] .ret))))))))
def r_lengths_one:Mt Tryz.prog 76=some ⟨113,z8o.r,[.tmp 4]⟩:=Aa
def zw9{p st:Nat}(v:Int)(j:L[p]?=some (.cells [.lst (Mz V) V.length 3] st))(z:Vb V v)(k:Q (.bool (gv V v.toNat).sec) L):Oa (.fn 119) [.i v,.ptr p 0] L Q:=by
 refine Mq r_lengths_one_1 Aa U ?_;obtain⟨a,rfl,A,B⟩:=z.at;have g:=nk B;simp only[Io]at g k;simp[za0,j,A];simp[Mi g];exact k
def zhj(g:List Vr)(o:Ko):Mo 76 [.lst (Mz g) g.length 3,.agg o.f] (.bool (Nb g o)) []:=by
 refine Ni.val rfl (Mq r_lengths_one Aa U ?_);have C:o.f=[.i o.kind,.i o.d,.i o.e,.i o.a,.i o.b,.i o.c,.u o.imm]:=rfl;by_cases z:o.kind=17
 ·simp[z8o,C,z];have hf:=zae (Mz g) g.length o;rw[C,z]at hf;refine Mv hf (bors_self _ Bg) ?_;simp[Nb,z]
 simp[z8o,C,z];refine Mv (zeu o.kind) U ?_;cases M:N6 o.kind with
 |none=>simp[Nb,z,M]
 |some s =>
 simp;rw[←C];refine Mv (zdt o) (bors_self _ rfl) ?_;cases hn:Pv o with
 |false=>simp[Nb,z,M,hn]
 |true =>
 simp[C];rw[←C];refine Mv (z9d o) (bors_self _ rfl) ?_;have gD:=zm0 M;simp;refine M2 (λZ gE gF N=>∃i:Nat,gE=[]∧gF=[.cells [.lst (Mz g) g.length 3] 0,.cells o.f 0]∧N+i=5∧lk Z 2=.ptr 0 0∧lk Z 3=.ptr 1 0∧lk Z 5=.i s∧lk Z 33=.agg ((Ny o).map .i)∧lk Z 34=.i i∧∀O,O<i→P9 g.length s O (gd (Ny o) O)=true) (N:=5) ⟨0,by simp[Ny]⟩ ?_;rintro N Z gE gF ⟨i,rfl,rfl,hN,B,H,h5,P,gg,hp⟩ Nx I;by_cases hi:5≤i
 case neg =>
  have gB:(i:Int)<5:=J
  have g2:i<5:=J
  have hg:=Pf (f:=LV.i) (Po (l:=Ny o) (u:=i) g2);have A:P9 g.length s i (gd (Ny o) i)=true→∀O,O<i+1→P9 g.length s O (gd (Ny o) O)=true:=λh O hj=>by
   by_cases e:O=i
   ·rw[e];exact h
   ·exact hp O J
  have K:P9 g.length s i (gd (Ny o) i)=false→Nb g o=false:=λh=>by
   simp[Nb,z,M,zlm g2 h]
  have pb:=zqd s i;generalize gd (Ny o) i=v at *;have S:0≤(s:Int)/2^i:=Int.ediv_nonneg J (Int.pow_nonneg J);have e1:(s:Int)/2^i<9223372036854775808:=Int.lt_of_le_of_lt (Int.ediv_le_self _ J) J;have em:max ((s:Int)/2^i) 0=(s:Int)/2^i:=J
  simp[B,H,h5,P,gg,gB,Mi hg,em,S,e1,pb];refine⟨J,λT=>⟨λv0=>?_,λv0=>⟨λv1=>?_,λv1=>?_⟩⟩,λT=>?_⟩
  ·exact K Ec
  ·exact K Ec
  ·simp only[T,zjh];exact⟨J,I _ _ _ ⟨N-1,J,i+1,rfl,rfl,J,Ad,At,B3,Ba,U,A Ec⟩⟩
  ·simp only[T,zfn];exact⟨λV=>⟨J,I _ _ _ ⟨N-1,J,i+1,rfl,rfl,J,Ad,At,B3,Ba,U,A (by simp[P9,T,V])⟩⟩,λV=>K (by simp[P9,T,V])⟩
 have X:Ry g.length s o=true:=zib λO hj=>hp O J
 have L:=zkl M X;have gB:¬(i:Int)<5:=J
 simp[B,H,P,gg,gB,C];rw[←C];refine R8 (z9c o L.swap) rfl ?_;simp;have gC:(Q4 o).length≤9223372036854775807:=by
  have h1:([o.a,o.b,o.c].filter λv=>!decide (v<0)).length≤3:=Lt _ _;unfold Q4;split<;>simp at h1 ⊢<;>omega
 rw[B];refine z6c (p:=λv=>(gv g v.toNat).sec) gC (λv V K' k=>zw9 v rfl (L.takes v V) k) ?_;rw[show (Q4 o).any (λv=>(gv g v.toNat).sec)=Nw g o from rfl];simp[B,H,C];refine M2 (λZ gE gF N=>∃i:Nat,gE=[]∧gF=[.cells [.lst (Mz g) g.length 3] 0,.cells o.f 0,.dyn ([o.d,o.e].map .i) 2 1 0 0]∧N+i=2∧lk Z 2=.ptr 0 0∧lk Z 3=.ptr 1 0∧lk Z 10=.bool (Nw g o)∧lk Z 71=.dy 2 0∧lk Z 72=.i 2∧lk Z 73=.i i∧∀O,O<i→Q1 g (Nw g o) (gd [o.d,o.e] O)=true) (N:=2) ⟨0,by simp[B,H,C]⟩ ?_;rintro N Z gE gF ⟨i,rfl,rfl,hN,B,H,D,E,F,G,hp⟩ Nx I;by_cases hi:2≤i
 case neg =>
  have gB:(i:Int)<2:=J
  have g2:i<2:=J
  have hg:=Pf (f:=LV.i) (Po (l:=[o.d,o.e]) (u:=i) g2);have A:Q1 g (Nw g o) (gd [o.d,o.e] i)=true→∀O,O<i+1→Q1 g (Nw g o) (gd [o.d,o.e] O)=true:=λh O hj=>by
   by_cases e:O=i
   ·rw[e];exact h
   ·exact hp O J
  have K:Q1 g (Nw g o) (gd [o.d,o.e] i)=false→Nb g o=false:=λh=>by
   have Y:i=0∨i=1:=J
   rcases Y with rfl|rfl
   ·have h:Q1 g (Nw g o) o.d=false:=h;simp[Nb,z,M,h]
   ·have h:Q1 g (Nw g o) o.e=false:=h;simp[Nb,z,M,h]
  have gA:gd [o.d,o.e] i=-1∨Vb g (gd [o.d,o.e] i):=by
   have Y:i=0∨i=1:=J
   rcases Y with rfl|rfl
   ·exact L.d
   ·exact L.e
  generalize gd [o.d,o.e] i=v at *;simp only[Kd,L7]at hg;rcases gA with rfl|V
  ·simp[B,H,D,E,F,G,gB,Mi hg];exact⟨J,I _ _ _ ⟨N-1,J,i+1,rfl,rfl,J,Ad,At,Ai,Av,Ah,U,A (by simp[Q1])⟩⟩
  ·obtain⟨k,rfl,hk,ek⟩:=V.at;have q3:=U3 ek;have q1:=nk ek;have hq:=S2 hk;simp only[Io]at q1 q3;simp[B,H,D,E,F,G,gB,Mi hg,hk,q3,hq];refine Mv (z9e (gv g k)) (bors_self _ rfl) ?_;cases Q:Oo (gv g k) with
   |true =>
    simp;exact K (by simp[Q1,Q])
   |false =>
    cases j:Nw g o with
    |false =>
     simp[B,D,G,j];exact⟨J,I _ _ _ ⟨N-1,J,i+1,rfl,rfl,J,Ad,At,by simp[D,j],Av,Ah,U,A (by simp[Q1,Q,j])⟩⟩
    |true =>
     cases R:(gv g k).sec with
     |false =>
      simp[B,D,G,j,hk,Mi q1,R];exact K (by simp[Q1,Q,j,R])
     |true =>
      simp[B,D,G,j,hk,Mi q1,R];exact⟨J,I _ _ _ ⟨N-1,J,i+1,rfl,rfl,J,Ad,At,by simp[D,j],Av,Ah,U,A (by simp[Q1,Q,j,R])⟩⟩
 have gB:¬(i:Int)<2:=J
 have od:Q1 g (Nw g o) o.d=true:=hp 0 J;have oe:Q1 g (Nw g o) o.e=true:=hp 1 J;by_cases S:o.e<0
 ·simp[B,H,E,F,G,gB,C,S];rw[←C];refine Mv (z98 g o L.alike) (bors_self _ (by simp[dats,LV.dat,On,C])) ?_;simp[Nb,z,M,hn,X,od,oe,S]
 ·by_cases e1:o.d=o.e
  ·simp[B,H,E,F,G,gB,C,S,e1];simp[Nb,z,M,S,e1]
  ·simp[B,H,E,F,G,gB,C,S,e1];rw[←C];refine Mv (z98 g o L.alike) (bors_self _ (by simp[dats,LV.dat,On,C])) ?_;simp[Nb,z,M,hn,X,od,oe,S,e1]
def zbm:LC:=(.q [.F 2] (.q [.K 3 0] (.seq (.q [.m 6 0,.s 7 6,.K 8 0] (.block 0 (.loop (.q [.c 9 .lss 3 8 7] (.seq (.cond (.t 9) .skip (.exit 0)) (.seq (.block 1 (.q [.m 10 8,.I 11 3 6 8,.L 12 3 11,.z 5 (.alloc [(.i 0),(.bool false),(.i 0)]),.m 4 10,.S 3 5 12] (.seq (.q [.f 13 0 5,.l 14 13,.b 15 .lss 3 14 1,.m 16 15,.nf 17 16 0 5,.nl 18 16 17,.nb 19 16 .gtr 3 18 512,.p 20 16 19,.m 21 20,.nf 22 21 2 5,.nl 23 21 22,.nb 24 21 .lss 3 23 0,.p 25 21 24,.m 26 25,.nf 27 26 2 5,.nl 28 26 27,.nb 29 26 .gtr 3 28 3,.p 30 26 29] (.cond (.t 30) (.q [.F 2] .ret) .skip)) (.seq (.q [.f 31 2 5,.l 32 31,.b 33 .eql 3 32 0] (.cond (.t 33) (.exit 1) .skip)) (.seq (.q [.m 34 3,.m 35 4,.c 36 .lss 3 34 35,.m 37 36,.nf 38 37 1 5,.nl 39 37 38,.nf 40 37 2 5,.nl 41 37 40,.nb 42 37 .neq 3 41 1,.n 43 37 (.bin .neq false 4 (.t 39) (.t 42)),.p 44 37 43] (.cond (.t 44) (.q [.F 2] .ret) .skip)) (.ops [.m 45 3,.b 46 .add 3 45 1,.m 3 46])))))) (.ops [.b 47 .add 3 8 1,.m 8 47]))))))) (.q [.m 48 0,.s 49 48,.b 50 .geq 3 49 1,.m 51 50,.my 52 51 0,.y 53 51 (.lenSl (.t 52)),.y 54 51 (.bin .leq true 3 (.t 53) (.k 256)),.q 55 51 54,.m 56 55,.my 57 56 3,.y 58 56 (.bin .leq true 3 (.t 57) (.k 12)),.q 59 56 58,.m 2 59] .ret))))
def r_lengths_vars:Mt Tryz.prog 72=some ⟨60,zbm.r,[.tmp 2]⟩:=Aa
def zfs(g:List Vr)(hl:g.length≤9223372036854775807):Mo 72 [.lst (Mz g) g.length 3] (.bool (O6 g)) []:=by
 refine Ni.val rfl (Mq r_lengths_vars Aa U ?_);simp[zbm];refine M2 (λX gg gA N=>∃i S:Nat,gg=[]∧N+i=g.length∧S≤i∧lk X 0=.lst (Mz g) g.length 3∧lk X 3=.i S∧lk X 6=.lst (Mz g) g.length 3∧lk X 7=.i g.length∧lk X 8=.i i∧Oc i S (g.drop i)=Oc 0 0 g) (N:=g.length) ⟨0,0,U⟩ ?_;rintro N X gg gA ⟨i,S,rfl,hN,Z,z,D,A,B,F,M⟩ Nx R;by_cases P:i<g.length
 ·have hg:=P8 P;have H:=U3 hg;have I:=S2 P;rw[tl P]at M;have K:(gv g i).f=[.i (gv g i).limbs,.bool (gv g i).sec,.i (gv g i).mode]:=rfl;generalize gv g i=v at *;have C:Oc i S (v::g.drop (i+1))=none→O6 g=false:=λh=>by rw[h]at M;simp[O6,←M]
  by_cases j:v.limbs<1
  ·simp[z,D,A,B,F,P,H,I,K,j];exact C (by simp[Oc,Qw,j])
  by_cases p:512<v.limbs
  ·simp[z,D,A,B,F,P,H,I,K,j,p];exact C (by simp[Oc,Qw,j,p])
  by_cases E:v.mode<0
  ·simp[z,D,A,B,F,P,H,I,K,j,p,E];exact C (by simp[Oc,Qw,j,p,E])
  by_cases G:3<v.mode
  ·simp[z,D,A,B,F,P,H,I,K,j,p,E,G];exact C (by simp[Oc,Qw,j,p,E,G])
  by_cases L:v.mode=0
  ·simp[z,D,A,B,F,P,H,I,K,j,p,E,G,L];refine⟨J,R _ _ _ ⟨N-1,J,i+1,S,rfl,J,J,Ak,Ai,Af,Ad,U,?_⟩⟩;rw[←M];simp[Oc,Qw,j,p,E,G,L]
  by_cases Q:S<i
  ·simp[z,D,A,B,F,P,H,I,K,j,p,E,G,L,Q];exact C (by simp[Oc,Qw,j,p,E,G,L,Q])
  by_cases T:v.sec=decide (v.mode=1)
  ·simp[z,D,A,B,F,P,H,I,K,j,p,E,G,L,Q,wr,T];exact C (by simp[Oc,Qw,j,p,E,G,L,Q,T])
  ·have b8:v.sec=!decide (v.mode=1):=by cases hs:v.sec<;>cases hm:decide (v.mode=1)<;>simp_all
   simp[z,D,A,B,F,P,H,I,K,j,p,E,G,L,Q,wr,b8];refine⟨J,J,R _ _ _ ⟨N-1,J,i+1,S+1,rfl,J,J,Ak,U,Af,Ad,U,?_⟩⟩;rw[←M];simp[Oc,Qw,j,p,E,G,L,Q,T]
 ·have ei:i=g.length:=J
  rw[Il J]at M;have O:Oc 0 0 g=some S:=by rw[←M];rfl
  by_cases V:1≤g.length
  ·by_cases Y:g.length≤256
   ·simp[z,D,A,B,F,P,O6,O,V,Y];omega
   ·simp[z,D,A,B,F,P,O6,O,V,Y];omega
  ·simp[z,D,A,B,F,P,O6,O,V];omega
def z5i:LC:=(.q [.F 3] (.q [.m 4 0,.b 5 .geq 3 4 0,.m 6 5,.yf 7 6 0 1,.yl 8 6 7,.my 9 6 0,.y 10 6 (.ixAddr 3 (.t 8) (.t 9)),.yf 11 6 2 10,.yl 12 6 11,.y 13 6 (.bin .eql true 3 (.t 12) (.k 3)),.q 14 6 13,.m 3 14] .ret))
def r_lengths_Check_1:Mt Tryz.prog 73=some ⟨15,z5i.r,[.tmp 3]⟩:=Aa
def z84:LC:=(.q [.F 3] (.q [.l 4 1,.m 5 0,.I 6 1 4 5,.l 7 6,.z 8 (.un .not (.t 7)),.m 3 8] .ret))
def r_lengths_Check_2:Mt Tryz.prog 79=some ⟨9,z84.r,[.tmp 3]⟩:=Aa
def za2:LC:=(.q [.x 1 0,.K 2 0] (.seq (.q [.f 13 0 1,.l 14 13,.w 15 72 14,.z 16 (.un .not (.t 15)),.m 17 16,.nf 18 17 1 1,.nl 19 17 18,.n 20 17 (.lenSl (.t 19)),.nb 21 17 .gtr 3 20 4096,.p 22 17 21,.m 23 22,.nf 24 23 2 1,.nl 25 23 24,.n 26 23 (.lenSl (.t 25)),.nb 27 23 .gtr 3 26 4096,.p 28 23 27] (.cond (.t 28) (.q [.K 2 2] .ret) .skip)) (.q [.z 29 (.mkFunc 73 [] [.t 1]),.m 3 29] (.seq (.q [.f 30 2 1,.l 31 30,.s 32 31,.K 33 0] (.block 0 (.loop (.q [.c 34 .lss 3 33 32] (.seq (.cond (.t 34) .skip (.exit 0)) (.seq (.block 1 (.q [.I 35 7 31 33,.L 36 7 35,.z 5 (.alloc [(.i 0),(.i 0),(.i 0),(.i 0),(.i 0),(.i 0),(.u 0)]),.S 7 5 36] (.q [.f 37 0 5,.l 38 37,.b 39 .neq 3 38 17,.m 40 39,.nf 41 40 0 1,.nl 42 40 41,.n 43 40 (.loadN 7 (.t 5)),.n 44 40 (.w 74 [.t 42,.t 43]),.n 45 40 (.un .not (.t 44)),.p 46 40 45,.m 47 46,.mn 48 47 3,.nf 49 47 3 5,.nl 50 47 49,.n 51 47 (.callV (.t 48) [.t 50]),.p 52 47 51,.m 53 52,.mn 54 53 3,.nf 55 53 4 5,.nl 56 53 55,.n 57 53 (.callV (.t 54) [.t 56]),.p 58 53 57] (.cond (.t 58) (.q [.K 2 2] .ret) .skip)))) (.ops [.b 59 .add 3 33 1,.m 33 59]))))))) (.q [.f 60 0 1,.l 61 60,.s 62 61,.z 63 (.mkSl 1 [(.bool false)] (.t 62) (.t 62)),.z 6 (.alloc [.nilSl]),.S 1 6 63] (.seq (.q [.f 64 0 1,.l 65 64,.s 66 65,.K 67 0] (.block 2 (.loop (.q [.c 68 .lss 3 67 66] (.seq (.cond (.t 68) .skip (.exit 2)) (.seq (.block 3 (.q [.m 69 67,.I 70 3 65 67,.L 71 3 70,.z 8 (.alloc [(.i 0),(.bool false),(.i 0)]),.m 7 69,.S 3 8 71] (.draw [(.l 72 6,[]),(.m 73 7,[]),(.L 74 3 8,[]),(.w 75 75 74,[(.l 72 6,false)]),(.I 76 1 72 73,[]),(.S 1 76 75,[])]))) (.ops [.b 77 .add 3 67 1,.m 67 77]))))))) (.q [.K 9 0] (.seq (.q [.f 78 1 1,.l 79 78,.s 80 79,.K 81 0] (.block 4 (.loop (.q [.c 82 .lss 3 81 80] (.seq (.cond (.t 82) .skip (.exit 4)) (.seq (.block 5 (.q [.I 83 7 79 81,.L 84 7 83,.z 11 (.alloc [(.i 0),(.i 0),(.i 0),(.i 0),(.i 0),(.i 0),(.u 0)]),.S 7 11 84] (.seq (.q [.f 85 0 1,.l 86 85,.L 87 7 11,.W 88 76 86 87,.z 89 (.un .not (.t 88)),.m 90 89,.n 91 90 (.loadN 7 (.t 11)),.n 92 90 (.w 78 [.t 91]),.n 93 90 (.mkFunc 79 [] [.t 6]),.n 94 90 (.w 77 [.t 92,.t 93]),.p 95 90 94] (.cond (.t 95) (.q [.K 2 2] .ret) .skip)) (.seq (.q [.f 96 0 11,.l 97 96] (.block 6 (.q [.b 99 .eql 3 97 15,.m 98 99] (.cond (.t 98) (.ops [.m 100 9,.b 101 .add 3 100 1,.m 9 101]) (.q [.b 103 .eql 3 97 16,.m 102 103] (.cond (.t 102) (.ops [.m 104 9,.b 105 .sub 3 104 1,.m 9 105]) .skip)))))) (.seq (.q [.m 106 9,.b 107 .lss 3 106 0,.m 108 107,.mn 109 108 9,.nb 110 108 .gtr 3 109 4,.p 111 108 110] (.cond (.t 111) (.q [.K 2 2] .ret) .skip)) (.q [.f 112 1 11,.l 113 112,.b 114 .geq 3 113 0] (.cond (.t 114) (.ops [.l 115 6,.f 116 1 11,.l 117 116,.I 118 1 115 117,.v (.store 1 (.t 118) .T)]) .skip))))))) (.ops [.b 119 .add 3 81 1,.m 81 119]))))))) (.seq (.q [.l 120 6,.s 121 120,.K 122 0] (.block 7 (.loop (.q [.c 123 .lss 3 122 121] (.seq (.cond (.t 123) .skip (.exit 7)) (.seq (.block 8 (.q [.m 124 122,.m 12 124] (.q [.m 125 3,.m 126 12,.z 127 (.callV (.t 125) [.t 126]),.m 128 127,.yl 129 128 6,.my 130 128 12,.y 131 128 (.ixAddr 1 (.t 129) (.t 130)),.yl 132 128 131,.y 133 128 (.un .not (.t 132)),.q 134 128 133] (.cond (.t 134) (.q [.K 2 2] .ret) .skip)))) (.ops [.b 135 .add 3 122 1,.m 122 135]))))))) (.seq (.q [.m 136 9,.b 137 .neq 3 136 0] (.cond (.t 137) (.q [.K 2 2] .ret) .skip)) (.q [.K 2 0] .ret)))))))))))
def r_lengths_Check:Mt Tryz.prog 43=some ⟨138,za2.r,[.tmp 2]⟩:=Aa
def Mg(g:List Vr)(j p:List Ko):List LV:=[.lst (Mz g) g.length 3,.lst (M6 j) j.length 7,.lst (M6 p) p.length 7]
def Mj{x:Mh}{q:Nat}(h:q<L.length):(L++x)[q]?=L[q]?:=Hk h
def ks(f:v9→LV)(l:List v9)(j:Nat)(x:v9)(h:j<l.length):M5 (l.map f) j [f x]=(l.set j x).map f:=by
 unfold M5;rw[I5,Hs h];simp[Me,List.map_drop]
def vh(n:Nat):M7 [.bool false] n=(List.replicate n false).map LV.bool:=by
 induction n with
 |zero=>rfl
 |succ n g=>simp[M7,g,Jo]
def Yj{a b:List Bool}(h:a.length=b.length)(p:∀j,j<a.length→gb a j=gb b j):a=b:=by
 apply List.ext_getElem h;intro j g z;have:=p j g;simpa [gb,Hr,g,z] using this
def zvs(m:List Bool)(i j:Nat)(b:Bool)(g:i<m.length):gb (m.set i b) j=if j=i then b else gb m j:=by
 unfold gb;rw[Hr,Hr,Ks];by_cases h:i=j
 ·subst h;simp[g]
 ·rw[Hq h,Hq (λq=>h q.symm)]
def zc7{p st:Nat}(v:Int)(j:L[p]?=some (.cells (.lst (Mz V) V.length 3::G) st))(B:v<V.length)(k:Q (.bool (Qa V v)) L):Oa (.fn 73) [.i v,.ptr p 0] L Q:=by
 refine Mq r_lengths_Check_1 Aa U ?_;by_cases g:0≤v
 ·obtain⟨a,rfl⟩:=Hx g;have z:a<V.length:=J
  have A:=kt (P8 z);simp[z5i,j,z];simp[Mi A];simpa [Qa] using k
 ·simp[z5i,j,g];simpa [Qa,g] using k
def zoj{p q st:Nat}{m:List Bool}(v:Int)(z:L[p]?=some (.cells [.dy q 0] st))(A:L[q]?=some (.dyn (m.map .bool) m.length 1 0 g))(B:0≤v∧v<m.length)(k:Q (.bool (!gb m v.toNat)) L):Oa (.fn 79) [.i v,.ptr p 0] L Q:=by
 refine Mq r_lengths_Check_2 Aa U ?_;obtain⟨a,rfl⟩:=Hx B.1;have j:a<m.length:=J
 have C:=Pf (f:=LV.bool) (u7 j);simp[z84,z,A,j];simp[Mi C];simpa using k
def we(g:List Vr)(j z:List Ko)(jK:g.length≤9223372036854775807):Mo 43 [.agg (Mg g j z)] (.i (Nr g j z)) []:=by
 refine Ni.val rfl (Mq r_lengths_Check Aa U ?_);have gD:Mw g j z=false→Nr g j z=2:=λh=>by simp[Nr,h]
 simp[za2,Mg];refine Mv (zfs g jK) (bors_self _ Bg) ?_;cases hv:O6 g with
 |false=>simp[gD,Mw,hv]
 |true =>
 have jL:=uq hv;by_cases g1:(4096:Int)<(j.length:Int)
 ·simp[g1];exact (gD (by simp[Mw,hv];omega)).symm
 by_cases g2:(4096:Int)<(z.length:Int)
 ·simp[g1,g2];exact (gD (by simp[Mw,hv];omega)).symm
 simp[g1,g2];refine M2 (λρ jD gH N=>∃i:Nat,jD=[]∧N+i=z.length∧lk ρ 1=.ptr 0 0∧lk ρ 3=.fn (.func 73) [] [.ptr 0 0]∧lk ρ 31=.lst (M6 z) z.length 7∧lk ρ 32=.i z.length∧lk ρ 33=.i i∧0<gH.length∧gH[0]?=some (.cells (Mg g j z) 0)∧∀gC,gC<i→Oi g (go z gC)=true) (N:=z.length) ⟨0,Bv⟩ ?_;rintro N ρ jD gH ⟨i,rfl,hN,B,F,gQ,gR,gS,O,L,hr⟩ Nx H;by_cases gI:i<z.length
 ·have q7:=Wt (Rl gI);have S:=Wf gI;have P:(go z i).f=[.i (go z i).kind,.i (go z i).d,.i (go z i).e,.i (go z i).a,.i (go z i).b,.i (go z i).c,.u (go z i).imm]:=rfl;have no:Oi g (go z i)=false→Nr g j z=2:=λh=>gD (by
   have:z.all (Oi g)=false:=by
    rw[Jz];exact⟨go z i,Im (Rl gI),Cq⟩
   simp[Mw,this])
  have jM:Oi g (go z i)=true→∀gC,gC<i+1→Oi g (go z gC)=true:=λh gC hj=>by
   by_cases e:gC=i
   ·rw[e];exact h
   ·exact hr gC J
  generalize go z i=o at *;by_cases gE:o.kind=17
  ·simp[B,F,gQ,gR,gS,gI,q7,S,P,gE,↓Mj O,L,Mg];have hc:=zae (Mz g) g.length o;rw[P,gE]at hc;refine Mv hc (bors_self _ Bg) ?_;cases hn:Qg g.length o with
   |false =>
    simp;exact (no (by simp[Oi,hn])).symm
   |true =>
    have gT:=zp4 gE hn;have ha:o.a<g.length:=by
     simp only[Qg,Hh]at hn;exact (bm.1 hn.2.2.2.1).2
    have hb:o.b<g.length:=by
     simp only[Qg,Hh]at hn;have:=hn.2.2.2.2;split at this
     ·exact (bm.1 this).2
     ·simp at this;omega
    simp[F];refine zc7 o.a Bx ha ?_;cases ho:Qa g o.a with
    |true =>
     simp;exact (no (by simp[Oi,ho])).symm
    |false =>
     simp[F];refine zc7 o.b Bx hb ?_;cases jE:Qa g o.b with
     |true =>
      simp;exact (no (by simp[Oi,jE])).symm
     |false =>
      simp[gS];exact⟨J,H _ _ _ ⟨N-1,J,i+1,rfl,J,Ad,Ah,by simp[gQ],by simp[gR],U,U,Bx,jM (by simp[Oi,gE,hn,ho,jE])⟩⟩
  ·simp[B,F,gQ,gR,gS,gI,q7,S,P,gE];exact (no (by simp[Oi,gE])).symm
 have jF:z.all (Oi g)=true:=by
  rw[I7];intro o ho;obtain⟨gC,hj,rfl⟩:=Jv.1 ho;have e:=Rl hj;rw[Hj hj]at e;rw[Option.some.inj e];exact hr gC J
 simp[B,F,gQ,gR,gS,gI,L,Mg,jL,↓Mj O];refine⟨J,?_⟩;refine M2 (λρ jD gH N=>∃(i:Nat) (m:List Bool) (p q st E:Nat),jD=[]∧N+i=g.length∧lk ρ 1=.ptr 0 0∧lk ρ 3=.fn (.func 73) [] [.ptr 0 0]∧lk ρ 6=.ptr p 0∧lk ρ 65=.lst (Mz g) g.length 3∧lk ρ 66=.i g.length∧lk ρ 67=.i i ∧
   0<gH.length∧p<gH.length∧0<q∧q<gH.length∧gH[0]?=some (.cells (Mg g j z) 0)∧gH[p]?=some (.cells [.dy q 0] st)∧gH[q]?=some (.dyn (m.map .bool) m.length 1 0 E)∧m.length=g.length∧∀gC,gC<i→gb m gC=Oo (gv g gC)) (N:=g.length)
  ⟨0,List.replicate g.length false,gH.length+1,gH.length,1,0,rfl,J,Ad,Ah,U,Ad,U,U,U,U,O,U,Bx,U,by simp[vh],U,U⟩ ?_
 clear B F L hr H O;rintro N ρ jD gH ⟨i,m,p,q,st,E,rfl,hN,B,F,D,g9,jg,jp,O,A,gK,I,L,K,S,T,hm⟩ Nx H;by_cases gI:i<g.length
 ·have hg:=P8 gI;have q3:=U3 hg;have jz:=S2 gI;have P:(gv g i).f=[.i (gv g i).limbs,.bool (gv g i).sec,.i (gv g i).mode]:=rfl;simp[B,D,g9,jg,jp,gI,q3,jz,P,↓Mj A,K];rw[←P];refine Mv (z9e (gv g i)) (bors_self _ rfl) ?_;simp[↓Mj A,↓Mj I,K,S,D,jp,gI,T];refine⟨J,J,H _ _ _ ⟨N-1,J,i+1,m.set i (Oo (gv g i)),p,q,st,E+1,rfl,J,Ad,Ah,Ai,by simp[g9],by simp[jg],U,U,Ab,gK,Ab,?_,?_,?_,Bn,λgC hj=>?_⟩⟩
  ·rw[Hg J,Mj O];exact L
  ·have jN:p≠q:=λe=>by rw[e,S]at K;cases K
   rw[Hg J,Mj A];exact K
  ·rw[Hi Ab,ks _ _ _ _ J,Js,T]
  ·rw[zvs _ _ _ _ J];split
   ·rename_i e;rw[e]
   ·exact hm gC J
 have jO:m=Rp g:=Yj (by simp[Rp,T]) (λgC hj=>by
  rw[hm gC J];unfold gb Rp;rw[Hr,Jp,P8 J];rfl)
 simp[B,D,g9,jg,jp,gI,L,Mg];refine M2 (λρ jD gH N=>∃(i:Nat) (m:List Bool) (G:Int) (p q st E:Nat),jD=[]∧N+i=j.length∧lk ρ 1=.ptr 0 0∧lk ρ 3=.fn (.func 73) [] [.ptr 0 0]∧lk ρ 6=.ptr p 0∧lk ρ 9=.i G∧lk ρ 79=.lst (M6 j) j.length 7∧lk ρ 80=.i j.length∧lk ρ 81=.i i ∧
   0<gH.length∧p<gH.length∧0<q∧q<gH.length∧gH[0]?=some (.cells (Mg g j z) 0)∧gH[p]?=some (.cells [.dy q 0] st)∧gH[q]?=some (.dyn (m.map .bool) m.length 1 0 E)∧m.length=g.length∧0≤G∧G≤4∧Oz g m G (j.drop i)=Oz g (Rp g) 0 j) (N:=j.length)
  ⟨0,m,0,p,q,st,E,rfl,J,Ad,Ah,Ai,U,Ad,U,U,O,A,gK,I,L,K,S,T,J,J,by simp[jO]⟩ ?_
 clear B F D L K S H O A gK I T;rintro N ρ jD gH ⟨i,m,G,p,q,st,E,rfl,hN,B,F,D,Y,Z,gg,gA,O,A,gK,I,L,K,S,T,jX,jY,gF⟩ Nx H;have jN:p≠q:=λe=>by rw[e,S]at K;cases K
 by_cases gI:i<j.length
 ·have q7:=Wt (Rl gI);have jz:=Wf gI;rw[iy gI]at gF;have P:(go j i).f=[.i (go j i).kind,.i (go j i).d,.i (go j i).e,.i (go j i).a,.i (go j i).b,.i (go j i).c,.u (go j i).imm]:=rfl;generalize go j i=o at *;have no:Oz g m G (o::j.drop (i+1))=none→Nr g j z=2:=λh=>gD (by
   rw[h]at gF;simp[Mw,←gF])
  simp[B,Z,gg,gA,gI,q7,jz,P,↓Mj O,L,Mg];rw[←P];refine Mv (zhj g o) (bors_self _ (by simp[dats,LV.dat,On,P])) ?_;cases ho:Nb g o with
  |false =>
   simp;exact (no (by simp[Oz,ho])).symm
  |true =>
  have gT:=zto ho;simp[P];rw[←P];refine R8 (z9c o gT.swap) rfl ?_;simp[D];have jP:(Q4 o).length≤9223372036854775807:=by
   have B:([o.a,o.b,o.c].filter λv=>!decide (v<0)).length≤3:=Lt _ _;unfold Q4;split<;>simp at B ⊢<;>omega
  refine z6c (p:=λv=>!gb m v.toNat) jP (λv hv K' k=>zoj v Dd (by rw[Mj I];exact S) (by have:=gT.takes v hv;omega) k) ?_;cases ht:Va m o with
  |false =>
   have:((Q4 o).any λv=>!gb m v.toNat)=true:=by
    have h:=ht;unfold Va at h;rw[Jz]at h;obtain⟨v,hv,h⟩:=h;exact Jh.2 ⟨v,hv,Ay⟩
   rw[this];simp;exact (no (by simp[Oz,ho,ht])).symm
  |true =>
  have:((Q4 o).any λv=>!gb m v.toNat)=false:=by
   have h:=ht;unfold Va at h;rw[I7]at h;rw[Md];intro v hv;simp[h v hv]
  rw[this];have jQ:∀C,C=G+dl o.kind→(C<0∨4<C→Nr g j z=2)∧(0≤C→C≤4→Oz g (Rv m o) C (j.drop (i+1))=Oz g (Rp g) 0 j):=λC e=>by
   subst e;refine⟨λh=>no ?_,λh0 h4=>?_⟩
   ·rw[Oz,Hq];simp only[Hh,Ht];omega
   ·rw[←gF,Oz,Hs];simp only[Hh,Ht];exact⟨ho,ht,h0,h4⟩
  have jA:∃V,dl o.kind=V∧-1≤V∧V≤1∧((o.kind=15∧V=1)∨(o.kind≠15∧o.kind=16∧V=-1)∨(o.kind≠15∧o.kind≠16∧V=0)):=by
   by_cases k1:o.kind=15
   ·exact⟨1,by simp[dl,k1],J,J,.inl ⟨k1,rfl⟩⟩
   by_cases k2:o.kind=16
   ·exact⟨-1,by simp[dl,k2],J,J,.inr (.inl ⟨k1,k2,rfl⟩)⟩
   ·exact⟨0,by simp[dl,k1,k2],J,J,.inr (.inr ⟨k1,k2,rfl⟩)⟩
  obtain⟨V,e1,e2,e3,jA⟩:=jA;obtain⟨gV,jG⟩:=jQ (G+V) (by rw[e1]);have jZ:=gT.d;have gL:0≤o.d→o.d<(m.length:Int):=λh=>J
  have gM:0≤o.d→M5 (m.map LV.bool) o.d.toNat [.bool true]=(m.set o.d.toNat true).map LV.bool:=λh=>ks LV.bool _ _ true J
  have next:∀(C:Int) (ρ':Ml) (G':Mh) (gO:Nat),C=G+V→0≤C→C≤4→lk ρ' 1=.ptr 0 0→lk ρ' 3=.fn (.func 73) [] [.ptr 0 0]→lk ρ' 6=.ptr p 0→lk ρ' 9=.i C→lk ρ' 79=.lst (M6 j) j.length 7→lk ρ' 80=.i j.length→lk ρ' 81=.i ((i:Int)+1) →
    gH.length≤G'.length→G'[0]?=some (.cells (Mg g j z) 0)→G'[p]?=some (.cells [.dy q 0] st)→G'[q]?=some (.dyn ((Rv m o).map .bool) m.length 1 0 gO)→Nx ρ' [] G':=by
   intro C ρ' G' gO e gZ g8 a1 a3 a6 a9 jR jS jT j3 b0 bp bq;have jH:(Rv m o).length=m.length:=by unfold Rv;split<;>simp
   refine H _ _ _ ⟨N-1,J,i+1,Rv m o,C,p,q,st,gO,rfl,J,a1,a3,a6,a9,jR,jS,by rw[jT];simp,J,J,gK,J,b0,bp,by rw[jH];exact bq,by rw[jH,T],gZ,g8,?_⟩;subst e;exact jG gZ g8
  have q0:q≠0:=J
  have jB:0≤o.d→Rv m o=m.set o.d.toNat true:=λh=>by simp[Rv,h]
  have jC:¬0≤o.d→Rv m o=m:=λh=>by simp[Rv,h]
  rcases jA with ⟨M,rfl⟩|⟨M,gG,rfl⟩|⟨M,gG,rfl⟩
  ·have r0:¬G+1<0:=J
   by_cases d4:4<G+1
   ·simp[Y,P,M,r0,d4]
    repeat (refine⟨J,?_⟩)
    exact (gV (.inr d4)).symm
   by_cases Q:0≤o.d
   ·have d2:=gL Q;simp[D,Y,gA,P,M,r0,d4,↓Mj A,↓Mj I,K,S,Q,d2,gM Q]
    repeat (refine⟨J,?_⟩)
    refine next (G+1) _ _ (E+1) rfl J J Ad Ah Ai U A6 Cw U U ?_ ?_ ?_
    ·rw[Hg J,Mj O];exact L
    ·rw[Hg J,Mj A];exact K
    ·rw[Hi Ab,jB Q,It]
   ·simp[D,Y,gA,P,M,r0,d4,Q]
    repeat (refine⟨J,?_⟩)
    exact next (G+1) _ _ E rfl J J Ad Ah Ai U A6 Cw U U Bx Dd Dt
  ·by_cases r0:G-1<0
   ·simp[Y,P,M,gG,r0]
    repeat (refine⟨J,?_⟩)
    exact (gV (.inl J)).symm
   have d4:¬4<G-1:=J
   by_cases Q:0≤o.d
   ·have d2:=gL Q;simp[D,Y,gA,P,M,gG,r0,d4,↓Mj A,↓Mj I,K,S,Q,d2,gM Q]
    repeat (refine⟨J,?_⟩)
    refine next (G-1) _ _ (E+1) J J J Ad Ah Ai U A6 Cw U U ?_ ?_ ?_
    ·rw[Hg J,Mj O];exact L
    ·rw[Hg J,Mj A];exact K
    ·rw[Hi Ab,jB Q,It]
   ·simp[D,Y,gA,P,M,gG,r0,d4,Q]
    repeat (refine⟨J,?_⟩)
    exact next (G-1) _ _ E J J J Ad Ah Ai U A6 Cw U U Bx Dd Dt
  ·have r0:¬G<0:=J
   have d4:¬4<G:=J
   by_cases Q:0≤o.d
   ·have d2:=gL Q;simp[D,Y,gA,P,M,gG,r0,d4,↓Mj A,↓Mj I,K,S,Q,d2,gM Q]
    repeat (refine⟨J,?_⟩)
    refine next G _ _ (E+1) J J J Ad Ah Ai Bh A6 Cw U U ?_ ?_ ?_
    ·rw[Hg J,Mj O];exact L
    ·rw[Hg J,Mj A];exact K
    ·rw[Hi Ab,jB Q,It]
   ·simp[D,Y,gA,P,M,gG,r0,d4,Q]
    repeat (refine⟨J,?_⟩)
    exact next G _ _ E J J J Ad Ah Ai Bh A6 Cw U U Bx Dd Dt
 have jV:Oz g (Rp g) 0 j=some (m,G):=by
  rw[Il J]at gF;rw[←gF];rfl
 have l1:j.length≤4096:=J
 have l2:z.length≤4096:=J
 have gP:Mw g j z=(Ue g m&&decide (G=0)):=by simp[Mw,hv,jF,jV,l1,l2]
 simp[B,F,D,Z,gg,gA,gI,K,S];refine M2 (λρ jD G' N=>∃i:Nat,jD=[]∧G'=gH∧N+i=g.length∧lk ρ 1=.ptr 0 0∧lk ρ 3=.fn (.func 73) [] [.ptr 0 0]∧lk ρ 6=.ptr p 0∧lk ρ 9=.i G∧lk ρ 121=.i g.length∧lk ρ 122=.i i ∧
   ∀gC,gC<i→(gv g gC).mode=3→gb m gC=true) (N:=g.length) ⟨0,rfl,rfl,J,Ad,Ah,Ai,Bh,Bn,U,λgC hj=>J⟩ ?_
 clear B F D Y H;rintro N ρ jD G' ⟨i,rfl,rfl,hN,B,F,D,Y,gB,R,ha⟩ Nx H;by_cases gI:i<g.length
 ·have gm:i<m.length:=J
  have q1:=Pf (f:=LV.bool) (u7 gm);simp[F,gB,R,gI];refine zc7 (i:Int) L J ?_;cases ho:Qa g i with
  |false =>
   simp[R];refine⟨J,H _ _ _ ⟨N-1,J,i+1,rfl,rfl,J,Ad,Ah,Ai,Bh,by simp[gB],U,λgC hj X=>?_⟩⟩;by_cases e:gC=i
   ·subst e;simp[Qa,X]at ho
   ·exact ha gC J X
  |true =>
   cases hb:gb m i with
   |false =>
    simp[D,R,K,S,gm,Mi q1,hb];have X:(gv g i).mode=3:=by simp[Qa]at ho;exact ho
    have:Ue g m=false:=by
     unfold Ue;rw[Jz];exact⟨i,I9.2 gI,by simp[X,hb]⟩
    exact (gD (by rw[gP,this];rfl)).symm
   |true =>
    simp[D,R,K,S,gm,Mi q1,hb];refine⟨J,H _ _ _ ⟨N-1,J,i+1,rfl,rfl,J,Ad,Ah,Ai,Bh,by simp[gB],U,λgC hj X=>?_⟩⟩;by_cases e:gC=i
    ·rw[e];exact hb
    ·exact ha gC J X
 have jI:Ue g m=true:=by
  unfold Ue;rw[I7];intro gC hj;have hj:=I9.1 hj;by_cases X:(gv g gC).mode=3
  ·simp[ha gC J X]
  ·simp[X]
 by_cases d0:G=0
 ·simp[Y,gB,R,gI,d0];simp[Nr,gP,jI,d0]
 ·simp[Y,gB,R,gI,d0];simp[Nr,gP,d0]
def Vg:LC:=(.q [.x 3 1,.F 4] (.q [.m 6 0,.s 7 6,.m 5 7] (.seq (.q [.f 8 1 3,.l 9 8,.b 10 .neq 3 9 (-1),.m 11 10,.nf 12 11 2 3,.nl 13 11 12,.nb 14 11 .neq 3 13 (-1),.p 15 11 14,.m 16 15,.nf 17 16 5 3,.nl 18 16 17,.nb 19 16 .neq 3 18 (-1),.p 20 16 19,.m 21 20,.nf 22 21 3 3,.nl 23 21 22,.nb 24 21 .lss 3 23 0,.p 25 21 24,.m 26 25,.nf 27 26 3 3,.nl 28 26 27,.mn 29 26 5,.n 30 26 (.bin .geq false 3 (.t 28) (.t 29)),.p 31 26 30,.m 32 31,.nf 33 32 6 3,.nl 34 32 33,.n 35 32 (.bin .lss true 43 (.t 34) (.c (.u 1))),.p 36 32 35,.m 37 36,.nf 38 37 6 3,.nl 39 37 38,.n 40 37 (.bin .gtr true 43 (.t 39) (.c (.u 3))),.p 41 37 40] (.cond (.t 41) (.q [.F 4] .ret) .skip)) (.seq (.q [.f 42 6 3,.l 43 42,.u 44 .eql 43 43 2] (.cond (.t 44) (.q [.f 45 4 3,.l 46 45,.b 47 .geq 3 46 0,.m 48 47,.yf 49 48 4 3,.yl 50 48 49,.my 51 48 5,.y 52 48 (.bin .lss false 3 (.t 50) (.t 51)),.q 53 48 52,.m 4 53] .ret) .skip)) (.q [.f 54 4 3,.l 55 54,.b 56 .eql 3 55 (-1),.m 4 56] .ret)))))
def r_ref19_need:Mt Tryz.prog 49=some ⟨57,Vg.r,[.tmp 4]⟩:=Aa
def Ts:LC:=(.q [.K 2 0] (.seq (.q [.m 3 0] (.block 0 (.q [.b 5 .eql 3 3 1,.m 4 5] (.cond (.t 4) (.q [.K 2 1] .ret) (.q [.b 7 .eql 3 3 2,.m 6 7] (.cond (.t 6) (.q [.K 2 5] .ret) (.seq (.q [.b 9 .eql 3 3 3,.m 8 9] (.cond (.t 8) .skip (.q [.b 10 .eql 3 3 4,.m 8 10] (.cond (.t 8) .skip (.q [.b 11 .eql 3 3 5,.m 8 11] (.cond (.t 8) .skip (.q [.b 12 .eql 3 3 6,.m 8 12] (.cond (.t 8) .skip (.ops [.b 13 .eql 3 3 7,.m 8 13]))))))))) (.cond (.t 8) (.q [.K 2 13] .ret) (.seq (.q [.b 15 .eql 3 3 8,.m 14 15] (.cond (.t 14) .skip (.q [.b 16 .eql 3 3 10,.m 14 16] (.cond (.t 14) .skip (.q [.b 17 .eql 3 3 11,.m 14 17] (.cond (.t 14) .skip (.q [.b 18 .eql 3 3 12,.m 14 18] (.cond (.t 14) .skip (.ops [.b 19 .eql 3 3 13,.m 14 19]))))))))) (.cond (.t 14) (.q [.K 2 29] .ret) (.q [.b 21 .eql 3 3 9,.m 20 21] (.cond (.t 20) (.q [.K 2 21] .ret) (.q [.b 23 .eql 3 3 14,.m 22 23] (.cond (.t 22) (.q [.K 2 19] .ret) (.seq (.q [.b 25 .eql 3 3 15,.m 24 25] (.cond (.t 24) .skip (.ops [.b 26 .eql 3 3 16,.m 24 26]))) (.cond (.t 24) (.q [.K 2 0] .ret) .skip)))))))))))))))) (.q [.K 2 (-1)] .ret)))
def r_ref19_shape:Mt Tryz.prog 92=some ⟨27,Ts.r,[.tmp 2]⟩:=Aa
def zbq:LC:=(.q [.x 1 0,.z 2 (.alloc [(.i 0),(.i 0),(.i 0),(.i 0),(.i 0)])] (.q [.f 3 1 1,.l 4 3,.f 5 2 1,.l 6 5,.f 7 3 1,.l 8 7,.f 9 4 1,.l 10 9,.f 11 5 1,.l 12 11,.z 13 (.build [(.i 0),(.i 0),(.i 0),(.i 0),(.i 0)] [(0,1,.t 4),(1,1,.t 6),(2,1,.t 8),(3,1,.t 10),(4,1,.t 12)]),.S 5 2 13] .ret))
def r_ref19_fields:Mt Tryz.prog 93=some ⟨14,zbq.r,[.cellN 2 5]⟩:=Aa
def vt:LC:=(.q [.x 1 0,.F 2] (.seq (.q [.f 3 0 1,.l 4 3] (.block 0 (.q [.b 6 .eql 3 4 1,.m 5 6] (.cond (.t 5) (.q [.z 2 (.move .T)] .ret) (.q [.b 8 .eql 3 4 13,.m 7 8] (.cond (.t 7) (.q [.f 9 6 1,.l 10 9,.u 11 .geq 43 10 1,.m 12 11,.yf 13 12 6 1,.yl 14 12 13,.y 15 12 (.bin .leq true 43 (.t 14) (.c (.u 6))),.q 16 12 15,.m 2 16] .ret) (.q [.b 18 .eql 3 4 15,.m 17 18] (.cond (.t 17) (.q [.f 19 6 1,.l 20 19,.u 21 .geq 43 20 1,.m 22 21,.yf 23 22 6 1,.yl 24 22 23,.y 25 22 (.bin .leq true 43 (.t 24) (.c (.u 4096))),.q 26 22 25,.m 2 26] .ret) .skip)))))))) (.q [.f 27 6 1,.l 28 27,.u 29 .eql 43 28 0,.m 2 29] .ret)))
def r_ref19_number:Mt Tryz.prog 94=some ⟨30,vt.r,[.tmp 2]⟩:=Aa
def ah:LC:=(.q [.x 1 0,.e 2] (.seq (.q [.f 3 0 1,.l 4 3] (.block 0 (.q [.b 6 .eql 3 4 6,.m 5 6] (.cond (.t 5) (.q [.f 7 3 1,.l 8 7,.f 9 4 1,.l 10 9,.z 11 (.buildSl 1 2 [(.i 0),(.i 0)] [(0,1,.t 8),(1,1,.t 10)]),.m 2 11] .ret) (.q [.b 13 .eql 3 4 14,.m 12 13] (.cond (.t 12) (.q [.f 14 1 1,.l 15 14,.f 16 2 1,.l 17 16,.z 18 (.buildSl 1 2 [(.i 0),(.i 0)] [(0,1,.t 15),(1,1,.t 17)]),.m 2 18] .ret) (.q [.b 20 .eql 3 4 8,.m 19 20] (.cond (.t 19) (.q [.f 21 1 1,.l 22 21,.f 23 3 1,.l 24 23,.f 25 4 1,.l 26 25,.z 27 (.buildSl 1 3 [(.i 0),(.i 0),(.i 0)] [(0,1,.t 22),(1,1,.t 24),(2,1,.t 26)]),.m 2 27] .ret) (.q [.b 29 .eql 3 4 9,.m 28 29] (.cond (.t 28) (.q [.f 30 1 1,.l 31 30,.f 32 5 1,.l 33 32,.z 34 (.buildSl 1 2 [(.i 0),(.i 0)] [(0,1,.t 31),(1,1,.t 33)]),.m 2 34] .ret) (.seq (.q [.b 36 .eql 3 4 10,.m 35 36] (.cond (.t 35) .skip (.q [.b 37 .eql 3 4 11,.m 35 37] (.cond (.t 35) .skip (.ops [.b 38 .eql 3 4 12,.m 35 38]))))) (.cond (.t 35) (.q [.f 39 1 1,.l 40 39,.f 41 3 1,.l 42 41,.f 43 4 1,.l 44 43,.f 45 5 1,.l 46 45,.z 47 (.buildSl 1 4 [(.i 0),(.i 0),(.i 0),(.i 0)] [(0,1,.t 40),(1,1,.t 42),(2,1,.t 44),(3,1,.t 46)]),.m 2 47] .ret) (.q [.b 49 .eql 3 4 13,.m 48 49] (.cond (.t 48) (.q [.f 50 1 1,.l 51 50,.f 52 3 1,.l 53 52,.f 54 5 1,.l 55 54,.z 56 (.buildSl 1 3 [(.i 0),(.i 0),(.i 0)] [(0,1,.t 51),(1,1,.t 53),(2,1,.t 55)]),.m 2 56] .ret) .skip)))))))))))))) (.q [.e 2] .ret)))
def r_ref19_alike:Mt Tryz.prog 132=some ⟨57,ah.r,[.tmp 2]⟩:=Aa
def zdg:LC:=(.q [.x 3 1,.F 4] (.q [.L 7 7 3,.w 8 132 7,.m 5 8] (.seq (.q [.K 6 1] (.block 0 (.loop (.seq (.q [.m 9 6,.m 10 5,.s 11 10,.c 12 .lss 3 9 11] (.cond (.t 12) .skip (.exit 0))) (.seq (.block 1 (.seq (.draw [(.m 15 0,[]),(.m 16 5,[]),(.m 17 6,[]),(.I 18 1 16 17,[]),(.l 19 18,[]),(.I 20 3 15 19,[]),(.f 21 0 20,[]),(.l 22 21,[]),(.m 23 0,[]),(.m 24 5,[]),(.z 25 (.ixAddr 1 (.t 24) (.k 0)),[]),(.l 26 25,[]),(.I 27 3 23 26,[]),(.f 28 0 27,[]),(.l 29 28,[]),(.c 30 .neq 3 22 29,[])]) (.cond (.t 30) (.q [.F 4] .ret) .skip))) (.ops [.m 13 6,.b 14 .add 3 13 1,.m 6 14])))))) (.q [.z 4 (.move .T)] .ret))))
def r_ref19_agree:Mt Tryz.prog 95=some ⟨31,zdg.r,[.tmp 4]⟩:=Aa
def zc0:LC:=(.q [.x 3 1,.F 4] (.seq (.q [.f 11 0 3,.l 12 11,.b 13 .eql 3 12 17] (.cond (.t 13) (.q [.m 14 0,.L 15 7 3,.W 16 49 14 15,.m 4 16] .ret) .skip)) (.seq (.draw [(.f 17 0 3,[]),(.l 18 17,[]),(.L 20 7 3,[]),(.z 6 (.alloc [(.i 0),(.i 0),(.i 0),(.i 0),(.i 0)]),[(.L 20 7 3,false),(.l 18 17,false)]),(.w 19 92 18,[(.z 6 (.alloc [(.i 0),(.i 0),(.i 0),(.i 0),(.i 0)]),true),(.L 20 7 3,false)]),(.w 21 93 20,[(.z 6 (.alloc [(.i 0),(.i 0),(.i 0),(.i 0),(.i 0)]),true)]),(.m 5 19,[]),(.S 5 6 21,[])]) (.seq (.q [.m 22 5,.b 23 .lss 3 22 0,.m 24 23,.n 25 24 (.loadN 7 (.t 3)),.n 26 24 (.w 94 [.t 25]),.n 27 24 (.un .not (.t 26)),.p 28 24 27] (.cond (.t 28) (.q [.F 4] .ret) .skip)) (.q [.F 7] (.seq (.q [.K 8 0] (.block 0 (.loop (.seq (.q [.m 29 8,.b 30 .lss 3 29 5] (.cond (.t 30) .skip (.exit 0))) (.seq (.block 1 (.q [.m 33 5,.m 34 8,.z 35 (.cvInt .u64 (.t 34)),.c 36 .shr 3 33 35,.b 37 .and 3 36 1,.b 38 .eql 3 37 1,.m 9 38] (.seq (.q [.m 39 9,.m 40 39,.my 41 40 8,.y 42 40 (.ixAddrArr 5 1 (.t 6) (.t 41)),.yl 43 40 42,.y 44 40 (.bin .lss true 3 (.t 43) (.k 0)),.my 45 40 44,.mn 46 45 8,.n 47 45 (.ixAddrArr 5 1 (.t 6) (.t 46)),.nl 48 45 47,.mn 49 45 0,.n 50 45 (.lenSl (.t 49)),.n 51 45 (.bin .geq false 3 (.t 48) (.t 50)),.y 52 40 (.pick (.t 45) .T (.t 51)),.q 53 40 52,.m 54 53,.mn 55 54 9,.n 56 54 (.un .not (.t 55)),.mn 57 54 56,.my 58 57 8,.y 59 57 (.ixAddrArr 5 1 (.t 6) (.t 58)),.yl 60 57 59,.y 61 57 (.bin .neq true 3 (.t 60) (.k (-1))),.n 62 54 (.pick (.t 57) (.t 61) .F),.p 63 54 62] (.cond (.t 63) (.q [.F 4] .ret) .skip)) (.q [.m 64 9,.m 65 64,.my 66 65 8,.y 67 65 (.bin .geq true 3 (.t 66) (.k 2)),.my 68 65 67,.nf 69 68 0 3,.nl 70 68 69,.nb 71 68 .eql 3 70 14,.y 72 65 (.pick (.t 68) .T (.t 71)),.q 73 65 72] (.cond (.t 73) (.ops [.m 74 7,.m 75 74,.mn 76 75 0,.mn 77 75 8,.n 78 75 (.ixAddrArr 5 1 (.t 6) (.t 77)),.nl 79 75 78,.n 80 75 (.ixAddr 3 (.t 76) (.t 79)),.nf 81 75 1 80,.nl 82 75 81,.p 83 75 82,.m 7 83]) .skip))))) (.ops [.m 31 8,.b 32 .add 3 31 1,.m 8 32])))))) (.seq (.q [.K 10 0] (.block 2 (.loop (.seq (.q [.m 84 10,.b 85 .lss 3 84 2] (.cond (.t 85) .skip (.exit 2))) (.seq (.block 3 (.q [.m 88 10,.z 89 (.ixAddrArr 5 1 (.t 6) (.t 88)),.l 90 89,.b 91 .geq 3 90 0,.m 92 91,.my 93 92 0,.my 94 92 10,.y 95 92 (.ixAddrArr 5 1 (.t 6) (.t 94)),.yl 96 92 95,.y 97 92 (.ixAddr 3 (.t 93) (.t 96)),.yf 98 92 2 97,.yl 99 92 98,.y 100 92 (.bin .eql true 3 (.t 99) (.k 1)),.my 101 92 100,.mn 102 101 0,.mn 103 101 10,.n 104 101 (.ixAddrArr 5 1 (.t 6) (.t 103)),.nl 105 101 104,.n 106 101 (.ixAddr 3 (.t 102) (.t 105)),.nf 107 101 2 106,.nl 108 101 107,.nb 109 101 .eql 3 108 2,.y 110 92 (.pick (.t 101) .T (.t 109)),.my 111 92 110,.mn 112 111 7,.mn 113 111 112,.my 114 113 0,.my 115 113 10,.y 116 113 (.ixAddrArr 5 1 (.t 6) (.t 115)),.yl 117 113 116,.y 118 113 (.ixAddr 3 (.t 114) (.t 117)),.yf 119 113 1 118,.yl 120 113 119,.y 121 113 (.un .not (.t 120)),.n 122 111 (.pick (.t 113) (.t 121) .F),.y 123 92 (.pick (.t 111) .T (.t 122)),.q 124 92 123] (.cond (.t 124) (.q [.F 4] .ret) .skip))) (.ops [.m 86 10,.b 87 .add 3 86 1,.m 10 87])))))) (.q [.f 125 2 3,.l 126 125,.b 127 .lss 3 126 0,.m 128 127,.nf 129 128 1 3,.nl 130 128 129,.nf 131 128 2 3,.nl 132 128 131,.n 133 128 (.bin .neq false 3 (.t 130) (.t 132)),.p 134 128 133,.m 135 134,.my 136 135 0,.y 137 135 (.loadN 7 (.t 3)),.y 138 135 (.w 95 [.t 136,.t 137]),.q 139 135 138,.m 4 139] .ret))))))))
def r_ref19_One:Mt Tryz.prog 50=some ⟨140,zc0.r,[.tmp 4]⟩:=Aa
def zcr:LC:=(.q [.x 3 1,.F 4] (.q [.L 7 7 3,.w 8 93 7,.z 5 (.alloc [(.i 0),(.i 0),(.i 0),(.i 0),(.i 0)]),.S 5 5 8] (.seq (.q [.K 6 0] (.block 0 (.loop (.seq (.q [.m 9 6,.b 10 .lss 3 9 5] (.cond (.t 10) .skip (.exit 0))) (.seq (.block 1 (.q [.m 13 6,.z 14 (.ixAddrArr 5 1 (.t 5) (.t 13)),.l 15 14,.b 16 .geq 3 15 0,.m 17 16,.my 18 17 6,.y 19 17 (.bin .geq true 3 (.t 18) (.k 2)),.my 20 17 19,.nf 21 20 0 3,.nl 22 20 21,.nb 23 20 .eql 3 22 14,.y 24 17 (.pick (.t 20) .T (.t 23)),.q 25 17 24,.m 26 25,.my 27 26 0,.my 28 26 6,.y 29 26 (.ixAddrArr 5 1 (.t 5) (.t 28)),.yl 30 26 29,.y 31 26 (.ixAddr 1 (.t 27) (.t 30)),.yl 32 26 31,.y 33 26 (.un .not (.t 32)),.q 34 26 33] (.cond (.t 34) (.q [.F 4] .ret) .skip))) (.ops [.m 11 6,.b 12 .add 3 11 1,.m 6 12])))))) (.seq (.q [.f 35 1 3,.l 36 35,.b 37 .geq 3 36 0] (.cond (.t 37) (.ops [.m 38 0,.f 39 1 3,.l 40 39,.I 41 1 38 40,.v (.store 1 (.t 41) .T)]) .skip)) (.q [.z 4 (.move .T)] .ret)))))
def r_ref19_makes:Mt Tryz.prog 51=some ⟨42,zcr.r,[.tmp 4]⟩:=Aa
def imm3{n:UInt64}(g:n≠1)(j:n≠2)(p:n≠3):n<1∨3<n:=by
 have z:n.toNat≠1:=λh=>g (J7.1 h)
 have A:n.toNat≠2:=λh=>j (J7.1 h)
 have B:n.toNat≠3:=λh=>p (J7.1 h)
 rw[Lp,Lp];show n.toNat<1∨3<n.toNat;omega
def zco(c:List LV)(n:Nat)(o:Ko):Mo 49 [.lst c n 3,.agg o.f] (.bool (Qg n o)) []:=by
 refine Ni.val rfl (Mq r_ref19_need Aa U ?_);have g:o.f=[.i o.kind,.i o.d,.i o.e,.i o.a,.i o.b,.i o.c,.u o.imm]:=rfl;by_cases j:o.d=-1
 case neg=>simp[Vg,g,Qg,j]
 by_cases p:o.e=-1
 case neg=>simp[Vg,g,Qg,j,p]
 by_cases z:o.c=-1
 case neg=>simp[Vg,g,Qg,j,p,z]
 by_cases A:o.a<0
 ·have:Q2 n o.a=false:=Cg
  simp[Vg,g,Qg,j,p,z,A,this]
 by_cases B:(n:Int)≤o.a
 ·have:Q2 n o.a=false:=Cg
  simp[Vg,g,Qg,j,p,z,A,B,this]
 have D:Q2 n o.a=true:=Cg
 by_cases C:o.imm=2
 ·by_cases H:0≤o.b
  ·by_cases I:o.b<n
   ·have F:Q2 n o.b=true:=Cg
    simp[Vg,g,Qg,j,p,z,A,B,D,C,H,I,F]
   ·have F:Q2 n o.b=false:=Cg
    simp[Vg,g,Qg,j,p,z,A,B,D,C,H,I,F]
  ·have F:Q2 n o.b=false:=Cg
   simp[Vg,g,Qg,j,p,z,A,B,D,C,H,F]
 by_cases E:o.imm=1
 ·simp[Vg,g,Qg,j,p,z,A,B,D,C,E]
 by_cases G:o.imm=3
 ·simp[Vg,g,Qg,j,p,z,A,B,D,C,E,G]
 rcases imm3 E C G with L|L
 ·simp[Vg,g,Qg,j,p,z,A,B,D,C,E,G,L]
 ·by_cases K:o.imm<1
  ·simp[Vg,g,Qg,j,p,z,A,B,D,C,E,G,K]
  ·simp[Vg,g,Qg,j,p,z,A,B,D,C,E,G,L,K]
def S5(k:Int):Int:=match N6 k with
 |some s=>s
 |none=>-1
def zhz(k:Int):Mo 92 [.i k] (.i (S5 k)) []:=by
 refine Ni.val rfl (Mq r_ref19_shape Aa U ?_);by_cases D:k=1;· subst D;simp[Ts,S5,N6]
 by_cases E:k=2;· subst E;simp[Ts,S5,N6]
 by_cases F:k=3;· subst F;simp[Ts,S5,N6]
 by_cases G:k=4;· subst G;simp[Ts,S5,N6]
 by_cases H:k=5;· subst H;simp[Ts,S5,N6]
 by_cases I:k=6;· subst I;simp[Ts,S5,N6]
 by_cases K:k=7;· subst K;simp[Ts,S5,N6]
 by_cases L:k=8;· subst L;simp[Ts,S5,N6]
 by_cases M:k=9;· subst M;simp[Ts,S5,N6]
 by_cases g:k=10;· subst g;simp[Ts,S5,N6]
 by_cases j:k=11;· subst j;simp[Ts,S5,N6]
 by_cases p:k=12;· subst p;simp[Ts,S5,N6]
 by_cases z:k=13;· subst z;simp[Ts,S5,N6]
 by_cases A:k=14;· subst A;simp[Ts,S5,N6]
 by_cases B:k=15;· subst B;simp[Ts,S5,N6]
 by_cases C:k=16;· subst C;simp[Ts,S5,N6]
 simp[Ts,S5,N6,D,E,F,G,H,I,K,L,M,g,j,p,z,A,B,C]
def zam(o:Ko):Mo 93 [.agg o.f] (.agg [.i o.d,.i o.e,.i o.a,.i o.b,.i o.c]) []:=by
 refine Ni.val rfl (Mq r_ref19_fields Aa U ?_);simp[zbq,Ko.f]
def zgh(o:Ko):Mo 94 [.agg o.f] (.bool (Pv o)) []:=by
 refine Ni.val rfl (Mq r_ref19_number Aa U ?_);by_cases g:o.kind=1;· simp[vt,Ko.f,Pv,g]
 by_cases j:o.kind=13
 ·by_cases z:1≤o.imm<;>simp[vt,Ko.f,Pv,g,j,z]
 by_cases p:o.kind=15
 ·by_cases z:1≤o.imm<;>simp[vt,Ko.f,Pv,g,j,p,z]
 simp[vt,Ko.f,Pv,g,j,p]
def zho(o:Ko):P6 132 [.agg o.f] (.lst ((Pd o).map .i) (Pd o).length 1):=by
 have F:∀l:List Int,dats (l.map .i)=true:=λl=>Ze (λ_=>rfl) l
 refine S0.mk (by simp[LV.dat,F]) (Mq r_ref19_alike Aa U ?_);have g:o.f=[.i o.kind,.i o.d,.i o.e,.i o.a,.i o.b,.i o.c,.u o.imm]:=rfl;by_cases C:o.kind=6;· simp[ah,g,Pd,C,Np,bor,LV.dat,dats]
 by_cases j:o.kind=14;· simp[ah,g,Pd,j,Np,bor,LV.dat,dats]
 by_cases D:o.kind=8;· simp[ah,g,Pd,D,Np,bor,LV.dat,dats]
 by_cases E:o.kind=9;· simp[ah,g,Pd,E,Np,bor,LV.dat,dats]
 by_cases p:o.kind=10;· simp[ah,g,Pd,p,Np,bor,LV.dat,dats]
 by_cases z:o.kind=11;· simp[ah,g,Pd,z,Np,bor,LV.dat,dats]
 by_cases A:o.kind=12;· simp[ah,g,Pd,A,Np,bor,LV.dat,dats]
 by_cases B:o.kind=13;· simp[ah,g,Pd,B,Np,bor,LV.dat,dats]
 simp[ah,g,Pd,C,D,E,p,z,A,B,j,Np,bor]
def zbl(g:List Vr)(o:Ko)(O:∀v∈Pd o,Vb g v):Mo 95 [.lst (Mz g) g.length 3,.agg o.f] (.bool (bf g o)) []:=by
 refine Ni.val rfl (Mq r_ref19_agree Aa U ?_);have P:o.f=[.i o.kind,.i o.d,.i o.e,.i o.a,.i o.b,.i o.c,.u o.imm]:=rfl;have hl:(Pd o).length≤4:=by
  unfold Pd;repeat' split
  all_goals simp
 simp[zdg,P];rw[←P];refine R8 (zho o) rfl ?_;rw[bf];generalize Pd o=j at *;simp;refine M2 (λY gg gA N=>∃i:Nat,gg=[]∧N+i=j.length+1∧1≤i∧lk Y 0=.lst (Mz g) g.length 3∧lk Y 5=.lst (j.map .i) j.length 1∧lk Y 6=.i i∧∀A,1≤A→A<i→Pr g (gd j A)=Pr g (gd j 0)) (N:=j.length) ⟨1,rfl,J,J,U,U,U,λA h1 h2=>J⟩ ?_;rintro N Y gg gA ⟨i,rfl,hN,Z,D,E,K,Q⟩ Nx L;by_cases R:i<j.length
 ·have S:=Pf (f:=LV.i) (Po (l:=j) (u:=i) R);have B:=Pf (f:=LV.i) (Po (l:=j) (u:=0) J);have T:gd j i∈j:=Im (Po R);have m0:gd j 0∈j:=Im (Po (u:=0) J);obtain⟨a,F,V,qa⟩:=(O _ T).at;obtain⟨b,G,X,qb⟩:=(O _ m0).at;have H:=fg qa;have I:=fg qb;rw[F]at H;rw[G]at I;simp only[Io]at H I;have z:Pr g (gd j i)=(gv g a).limbs:=by rw[F];simp[Pr]
  have p:Pr g (gd j 0)=(gv g b).limbs:=by rw[G];simp[Pr]
  by_cases e:Pr g (gd j i)=Pr g (gd j 0)
  ·have C:=e;rw[z,p]at C;simp[D,E,K,R,Mi S,Mi B,F,G,V,X,Mi H,Mi I,C];refine⟨J,J,L _ _ _ ⟨N-1,J,i+1,rfl,J,J,Ai,Av,U,λA j1 j2=>?_⟩⟩;by_cases ej:A=i
   ·rw[ej];exact e
   ·exact Q A j1 J
  ·have C:=e;rw[z,p]at C;simp[D,E,K,R,Mi S,Mi B,F,G,V,X,Mi H,Mi I,C];refine⟨J,?_⟩;have:(j.all λv=>decide (Pr g v=Pr g (j.headD 0)))=false:=by
    rw[Jz];refine⟨_,T,?_⟩;rw[show j.headD 0=gd j 0 by cases j<;>rfl];simpa using e
   simpa using this
 ·simp[D,E,K,R];intro v M;obtain⟨A,hj,rfl⟩:=Jv.1 M;have e1:j[A]=gd j A:=by simp[gd,Hr,hj]
  have e0:j.head?.getD 0=gd j 0:=by cases j<;>rfl
  rw[e1,e0];by_cases j0:A=0
  ·rw[j0]
  ·exact Q A J J
def znf(g:List Vr)(o:Ko):Mo 50 [.lst (Mz g) g.length 3,.agg o.f] (.bool (Nb g o)) []:=by
 refine Ni.val rfl (Mq r_ref19_One Aa U ?_);have D:o.f=[.i o.kind,.i o.d,.i o.e,.i o.a,.i o.b,.i o.c,.u o.imm]:=rfl;by_cases C:o.kind=17
 ·simp[zc0,D,C];have hf:=zco (Mz g) g.length o;rw[D,C]at hf;refine Mv hf (bors_self _ Bg) ?_;simp[Nb,C]
 simp[zc0,D,C];refine Mv (zhz o.kind) U ?_;simp[D];rw[←D];refine Mv (zam o) (bors_self _ rfl) ?_;cases S:N6 o.kind with
 |none=>simp[S5,S,Nb,C]
 |some s =>
 have s0:¬((s:Int)<0):=J
 simp[S5,S,D,s0];rw[←D];refine Mv (zgh o) (bors_self _ rfl) ?_;cases hn:Pv o with
 |false=>simp[Nb,C,S,hn]
 |true =>
 have gI:=zm0 S;simp[D];refine M2 (λρ gK gL N=>∃i:Nat,gK=[]∧gL=[.cells o.f 0,.cells ((Ny o).map .i) 1]∧N+i=5∧lk ρ 0=.lst (Mz g) g.length 3∧lk ρ 3=.ptr 0 0∧lk ρ 5=.i s∧lk ρ 6=.ptr 1 0∧lk ρ 7=.bool (S3 g o s i)∧lk ρ 8=.i i∧∀Z,Z<i→P9 g.length s Z (gd (Ny o) Z)=true) (N:=5) ⟨0,by simp[Ny,S3,D]⟩ ?_;rintro N ρ gK gL ⟨i,rfl,rfl,hN,j,p,H,B,z,T,hp⟩ Nx V;by_cases hi:5≤i
 case neg =>
  have gE:(i:Int)<5:=J
  have g2:i<5:=J
  have I:=Pf (f:=LV.i) (Po (l:=Ny o) (u:=i) g2);have O:P9 g.length s i (gd (Ny o) i)=true→∀Z,Z<i+1→P9 g.length s Z (gd (Ny o) Z)=true:=λh Z hj=>by
   by_cases e:Z=i
   ·rw[e];exact h
   ·exact hp Z J
  have F:P9 g.length s i (gd (Ny o) i)=false→Nb g o=false:=λh=>by
   simp[Nb,C,S,zlm g2 h]
  have X:=zqd s i;have E:=zmr g o s i;generalize gd (Ny o) i=v at *;have K:0≤(s:Int)/2^i:=Int.ediv_nonneg J (Int.pow_nonneg J);have P:(s:Int)/2^i<9223372036854775808:=Int.lt_of_le_of_lt (Int.ediv_le_self _ J) J;have em:max ((s:Int)/2^i) 0=(s:Int)/2^i:=J
  have hu:(iU (i:Int)).toNat=i:=lu J;have A:i≤64:=J
  cases hb:s.testBit i with
  |false =>
   rw[hb]at X E;simp only[Bool.false_and,Bool.or_false]at E;by_cases v1:v=-1
   ·simp[j,p,H,B,z,T,gE,Mi I,hu,A,em,K,P,X,v1]
    repeat (refine⟨J,?_⟩)
    exact V _ _ _ ⟨N-1,J,i+1,rfl,rfl,J,As,Ae,At,Ad,by simp[z,E],U,O (by simp[P9,hb,v1])⟩
   ·simp[j,p,H,B,z,T,gE,Mi I,hu,A,em,K,P,X,v1]
    repeat (refine⟨J,?_⟩)
    exact F (by simp[P9,hb,v1])
  |true =>
   rw[hb]at X E;simp only[K7]at E;by_cases v0:v<0
   ·simp[j,p,H,B,z,T,gE,Mi I,hu,A,em,K,P,X,v0]
    repeat (refine⟨J,?_⟩)
    exact F Dz
   by_cases v1:(g.length:Int)≤v
   ·simp[j,p,H,B,z,T,gE,Mi I,hu,A,em,K,P,X,v0,v1]
    repeat (refine⟨J,?_⟩)
    exact F Dz
   have hv:Vb g v:=⟨J,J⟩;have ok:=O Dz;obtain⟨k,rfl,Y,ek⟩:=hv.at;have q1:=nk ek;simp only[Io]at q1 E;have v2:¬g.length≤k:=J
   have R:¬(k:Int)<0:=J
   have next:∀L b,S3 g o s (i+1)=b→lk L 0=.lst (Mz g) g.length 3→lk L 3=.ptr 0 0→lk L 5=.i s→lk L 6=.ptr 1 0→lk L 7=.bool b→lk L 8=.i ((i:Int)+1)→Nx L [] [.cells o.f 0,.cells ((Ny o).map .i) 1]:=by
    rintro L b rfl a0 a3 a5 a6 a7 a8;exact V _ _ _ ⟨N-1,J,i+1,rfl,rfl,J,a0,a3,a5,a6,a7,by rw[a8];simp,ok⟩
   by_cases c2:(2:Int)≤(i:Int)
   ·have gg:2≤i:=J
    cases ha:S3 g o s i with
    |false =>
     rw[ha]at E z;simp[gg]at E;simp[j,p,H,B,z,T,gE,Mi I,Mi q1,hu,A,em,K,P,X,v2,Y,c2,R]
     repeat (refine⟨J,?_⟩)
     exact next _ _ E As Ae At Ad U U
    |true =>
     rw[ha]at E z;simp at E;simp[j,p,H,B,z,T,gE,Mi I,hu,A,em,K,P,X,v2,Y,c2,R]
     repeat (refine⟨J,?_⟩)
     exact next _ _ E As Ae At Ad U U
   have gg:¬2≤i:=J
   by_cases M:o.kind=14
   ·cases ha:S3 g o s i with
    |false =>
     rw[ha]at E z;simp[gg,M]at E;simp[j,p,H,B,z,T,gE,Mi I,Mi q1,hu,A,em,K,P,X,v2,Y,c2,R,D,M]
     repeat (refine⟨J,?_⟩)
     rw[←M,←D];exact next _ _ E As Ae At Ad U U
    |true =>
     rw[ha]at E z;simp at E;simp[j,p,H,B,z,T,gE,Mi I,hu,A,em,K,P,X,v2,Y,c2,R,D,M]
     repeat (refine⟨J,?_⟩)
     rw[←M,←D];exact next _ _ E As Ae At Ad U U
   ·simp[gg,M]at E;simp[j,p,H,B,z,T,gE,Mi I,Mi q1,hu,A,em,K,P,X,v2,Y,c2,R,D,M]
    repeat (refine⟨J,?_⟩)
    rw[←D];exact next _ _ E As Ae At Ad Ak U
 have gA:Ry g.length s o=true:=zib λZ hj=>hp Z J
 have gB:=zkl S gA;have ei:i=5:=J
 subst ei;rw[qf S gA]at z;simp[j,p,H,B,z,T];refine M2 (λρ gK gL N=>∃i:Nat,gK=[]∧gL=[.cells o.f 0,.cells ((Ny o).map .i) 1]∧N+i=2∧lk ρ 0=.lst (Mz g) g.length 3∧lk ρ 3=.ptr 0 0∧lk ρ 6=.ptr 1 0∧lk ρ 7=.bool (Nw g o)∧lk ρ 10=.i i∧∀Z,Z<i→Q1 g (Nw g o) (gd (Ny o) Z)=true) (N:=2) ⟨0,by simp[j,p,B,z]⟩ ?_;clear j p H B z T hp V;rintro N ρ gK gL ⟨i,rfl,rfl,hN,j,p,B,z,G,hp⟩ Nx V;by_cases hi:2≤i
 case neg =>
  have gE:(i:Int)<2:=J
  have g5:(i:Int)<5:=J
  have g2:i<2:=J
  have I:=Pf (f:=LV.i) (Po (l:=Ny o) (u:=i) (J:i<5));have O:Q1 g (Nw g o) (gd (Ny o) i)=true→∀Z,Z<i+1→Q1 g (Nw g o) (gd (Ny o) Z)=true:=λh Z hj=>by
   by_cases e:Z=i
   ·rw[e];exact h
   ·exact hp Z J
  have F:Q1 g (Nw g o) (gd (Ny o) i)=false→Nb g o=false:=λh=>by
   have gF:i=0∨i=1:=J
   rcases gF with rfl|rfl
   ·have h:Q1 g (Nw g o) o.d=false:=h;simp[Nb,C,S,h]
   ·have h:Q1 g (Nw g o) o.e=false:=h;simp[Nb,C,S,h]
  have gG:gd (Ny o) i=-1∨Vb g (gd (Ny o) i):=by
   have gF:i=0∨i=1:=J
   rcases gF with rfl|rfl
   ·exact gB.d
   ·exact gB.e
  have next:∀L,Q1 g (Nw g o) (gd (Ny o) i)=true→lk L 0=.lst (Mz g) g.length 3→lk L 3=.ptr 0 0→lk L 6=.ptr 1 0→lk L 7=.bool (Nw g o)→lk L 10=.i ((i:Int)+1)→Nx L [] [.cells o.f 0,.cells ((Ny o).map .i) 1]:=by
   intro L ok a0 a3 a6 a7 gH;exact V _ _ _ ⟨N-1,J,i+1,rfl,rfl,J,a0,a3,a6,a7,by rw[gH];simp,O ok⟩
  generalize gd (Ny o) i=v at *;rcases gG with rfl|hv
  ·simp[j,p,B,z,G,gE,g5,Mi I]
   repeat (refine⟨J,?_⟩)
   exact next _ (by simp[Q1]) As Ae Ad Ak U
  ·obtain⟨k,rfl,Y,ek⟩:=hv.at;have q1:=nk ek;have q2:=kt ek;simp only[Io]at q1 q2;have Q:Oo (gv g k)=(decide ((gv g k).mode=1) || decide ((gv g k).mode=2)):=rfl;have ho:Q1 g (Nw g o) (k:Int)=!(Oo (gv g k) || (Nw g o && !(gv g k).sec)):=by
    have R:decide ((k:Int)<0)=false:=U
    simp[Q1,R]
   have R:(0:Int)≤(k:Int):=J
   by_cases m1:(gv g k).mode=1
   ·simp[j,p,B,z,G,gE,g5,Mi I,Mi q2,Y,R,m1]
    repeat (refine⟨J,?_⟩)
    exact F (by rw[ho,Q];simp[m1])
   by_cases m2:(gv g k).mode=2
   ·simp[j,p,B,z,G,gE,g5,Mi I,Mi q2,Y,R,m1,m2]
    repeat (refine⟨J,?_⟩)
    exact F (by rw[ho,Q];simp[m2])
   cases gD:Nw g o with
   |false =>
    rw[gD]at z ho F next
    simp[j,p,B,z,G,gE,g5,Mi I,Mi q2,Y,R,m1,m2]
    repeat (refine⟨J,?_⟩)
    exact next _ (by rw[ho,Q];simp[m1,m2]) As Ae Ad Ak U
   |true =>
    rw[gD]at z ho F next
    cases gC:(gv g k).sec with
    |false =>
     simp[j,p,B,z,G,gE,g5,Mi I,Mi q1,Mi q2,Y,R,m1,m2,gC]
     repeat (refine⟨J,?_⟩)
     exact F (by rw[ho,gC];simp)
    |true =>
     simp[j,p,B,z,G,gE,g5,Mi I,Mi q1,Mi q2,Y,R,m1,m2,gC]
     repeat (refine⟨J,?_⟩)
     exact next _ (by rw[ho,Q,gC];simp[m1,m2]) As Ae Ad Ak U
 have ei:i=2:=J
 subst ei;have od:Q1 g (Nw g o) o.d=true:=hp 0 J;have oe:Q1 g (Nw g o) o.e=true:=hp 1 J;have gM:o.f.length=7:=rfl;have gO:o.f.take 7=o.f:=rfl;by_cases K:o.e<0
 ·simp[j,p,G,D,K];rw[←D];refine Mv (zbl g o gB.alike) (bors_self _ (by simp[dats,LV.dat,On,D])) ?_;simp[Nb,C,S,hn,gA,od,oe,K]
 ·by_cases P:o.d=o.e
  ·simp[j,p,G,D,K,P];simp[Nb,C,S,K,P]
  ·simp[j,p,G,D,K,P];rw[←D];refine Mv (zbl g o gB.alike) (bors_self _ (by simp[dats,LV.dat,On,D])) ?_;simp[Nb,C,S,hn,gA,od,oe,K,P]
def zgp{q st:Nat}{m:List Bool}{n:Nat}(o:Ko)(j:PartsIn n o)(hn:n=m.length)(hq:L[q]?=some (.dyn (m.map .bool) m.length 1 0 st))
  (k0:Va m o=false→∀D,(∀O,O<L.length→D[O]?=L[O]?)→Q (.bool false) D)
  (k1:Va m o=true→∀D gA,L.length≤D.length→(∀O,O<L.length→O≠q→D[O]?=L[O]?)→D[q]?=some (.dyn ((Rv m o).map .bool) m.length 1 0 gA)→Q (.bool true) D):Oa (.fn 51) [.dy q 0,.agg o.f] L Q:=by
 refine Mq r_ref19_makes Aa U ?_;have E:o.f=[.i o.kind,.i o.d,.i o.e,.i o.a,.i o.b,.i o.c,.u o.imm]:=rfl;have gB:q<L.length:=(Hf.1 hq).1;simp[zcr,E];rw[←E];refine Mv (zam o) (bors_self _ rfl) ?_;simp;have g:∀x,(L++x)[q]?=some (.dyn (m.map .bool) m.length 1 0 st):=λx=>by rw[Mj gB];exact hq
 have P:∀x y,(L++[x,y])[L.length]?=some x:=λx y=>U
 have T:∀x y,(L++[x,y])[L.length+1]?=some y:=λx y=>U
 have gH:L.length≠q:=J
 have gI:L.length+1≠q:=J
 refine M2 (λρ gK D N=>∃i:Nat,gK=[]∧D=L++[.cells o.f 0,.cells ((Ny o).map .i) 1]∧N+i=5∧lk ρ 0=.dy q 0∧lk ρ 3=.ptr L.length 0∧lk ρ 5=.ptr (L.length+1) 0∧lk ρ 6=.i i∧Su m o i=true) (N:=5) ⟨0,by simp[Ny,Su]⟩ ?_;rintro N ρ gK D ⟨i,rfl,rfl,hN,A,B,F,K,G⟩ Nx gC;by_cases hi:5≤i
 case neg =>
  have gG:(i:Int)<5:=J
  have g2:i<5:=J
  have V:=Pf (f:=LV.i) (Po (l:=Ny o) (u:=i) g2);have z:=zkv m o i;rw[G,K7]at z;have Y:Su m o (i+1)=false→Va m o=false:=λh=>by
   rw[←Zb j];unfold Su at h ⊢;rw[Jz]at h ⊢;obtain⟨gL,hj,h⟩:=h;exact⟨gL,by have:=I9.1 hj;exact I9.2 J,h⟩
  have H:gd (Ny o) i=-1∨(0≤gd (Ny o) i∧gd (Ny o) i<n)∨(¬(2≤i)∧o.kind≠14)∨gd (Ny o) i<0:=by
   have gD:i=0∨i=1∨i=2∨i=3∨i=4:=J
   rcases gD with rfl|rfl|rfl|rfl|rfl
   ·rcases j.d with h|h
    ·exact .inl h
    ·exact .inr (.inl h)
   ·rcases j.e with h|h
    ·exact .inl h
    ·exact .inr (.inl h)
   ·by_cases h:o.a<0
    ·exact .inr (.inr (.inr h))
    ·exact .inr (.inl (j.takes o.a (by simp[Q4];omega)))
   ·by_cases h:o.b<0
    ·exact .inr (.inr (.inr h))
    ·exact .inr (.inl (j.takes o.b (by simp[Q4];omega)))
   ·by_cases h:o.c<0
    ·exact .inr (.inr (.inr h))
    ·exact .inr (.inl (j.takes o.c (by simp[Q4];omega)))
  have next:∀X,Su m o (i+1)=true→lk X 0=.dy q 0→lk X 3=.ptr L.length 0→lk X 5=.ptr (L.length+1) 0→lk X 6=.i ((i:Int)+1)→Nx X [] (L++[.cells o.f 0,.cells ((Ny o).map .i) 1]):=by
   intro X ok b0 b3 b5 b6;exact gC _ _ _ ⟨N-1,J,i+1,rfl,rfl,J,b0,b3,b5,by rw[b6];simp,ok⟩
  generalize gd (Ny o) i=v at *;have fr:∀O,O<L.length→(L++[LObj.cells o.f 0,.cells ((Ny o).map .i) 1])[O]?=L[O]?:=λO G=>Mj G
  by_cases R:0≤v
  case neg =>
   have d0:decide (v<0)=true:=Ab
   simp[A,B,F,K,gG,↓T,Mi V,R]
   repeat (refine⟨J,?_⟩)
   exact next _ (by rw[z,d0];rfl) Af Ad Ah U
  have d0:decide (v<0)=false:=Ab
  rw[d0]at z;simp only[Ls,K7]at z;have M:(2≤i∨o.kind=14)→v<m.length:=λh=>by
   rcases H with h|h|h|h<;>omega
  obtain⟨k,rfl⟩:=Hx R;simp only[Io]at z;by_cases Z:(2:Int)≤(i:Int)
  ·have C:2≤i:=J
   have S:k<m.length:=by have:=M (.inl C);omega
   have q1:=Pf (f:=LV.bool) (u7 S);simp[C]at z;cases I:gb m k with
   |true =>
    simp[A,B,F,K,gG,↓P,↓T,↓g,Mi V,R,Z,S,Mi q1,I]
    repeat (refine⟨J,?_⟩)
    exact next _ (by rw[z,I]) Af Ad Ah U
   |false =>
    simp[A,B,F,K,gG,↓P,↓T,↓g,Mi V,R,Z,S,Mi q1,I]
    repeat (refine⟨J,?_⟩)
    exact k0 (Y (by rw[z,I])) _ fr
  have C:¬2≤i:=J
  by_cases p:o.kind=14
  ·have S:k<m.length:=by have:=M (.inr p);omega
   have q1:=Pf (f:=LV.bool) (u7 S);simp[C,p]at z;cases I:gb m k with
   |true =>
    simp[A,B,F,K,gG,↓P,↓T,↓g,Mi V,R,Z,S,Mi q1,I,E,p]
    repeat (refine⟨J,?_⟩)
    rw[←p,←E];exact next _ (by rw[z,I]) Af Ad Ah U
   |false =>
    simp[A,B,F,K,gG,↓P,↓T,↓g,Mi V,R,Z,S,Mi q1,I,E,p]
    repeat (refine⟨J,?_⟩)
    rw[←p,←E];exact k0 (Y (by rw[z,I])) _ fr
  ·simp[C,p]at z;simp[A,B,F,K,gG,↓P,↓T,Mi V,R,Z,E,p]
   repeat (refine⟨J,?_⟩)
   rw[←E];exact next _ z Af Ad Ah U
 have ei:i=5:=J
 subst ei;rw[Zb j]at G;by_cases hd:0≤o.d
 ·have gE:o.d<m.length:=by rcases j.d with h|h<;>omega
  have gg:=ks LV.bool m o.d.toNat true J;simp[A,B,K,↓P,↓g,E,hd,gE,gg]
  repeat (refine⟨J,?_⟩)
  refine k1 G _ (st+1) U (λO G gF=>?_) ?_
  ·rw[Hg J,Mj G]
  ·rw[Hi Ab];simp[Rv,hd]
 ·simp[A,B,K,↓P,↓g,E,hd]
  repeat (refine⟨J,?_⟩)
  refine k1 G _ st U (λO G gF=>Mj G) ?_;rw[g];simp[Rv,hd]
def tt:LC:=(.q [.x 1 0,.K 2 0] (.seq (.q [.f 13 0 1,.l 14 13,.s 15 14,.b 16 .lss 3 15 1,.m 17 16,.nf 18 17 0 1,.nl 19 17 18,.n 20 17 (.lenSl (.t 19)),.nb 21 17 .gtr 3 20 256,.p 22 17 21,.m 23 22,.nf 24 23 1 1,.nl 25 23 24,.n 26 23 (.lenSl (.t 25)),.nb 27 23 .gtr 3 26 4096,.p 28 23 27,.m 29 28,.nf 30 29 2 1,.nl 31 29 30,.n 32 29 (.lenSl (.t 31)),.nb 33 29 .gtr 3 32 4096,.p 34 29 33] (.cond (.t 34) (.q [.K 2 2] .ret) .skip)) (.q [.K 3 0] (.seq (.q [.K 4 0] (.block 0 (.loop (.seq (.q [.m 35 4,.f 36 0 1,.l 37 36,.s 38 37,.c 39 .lss 3 35 38] (.cond (.t 39) .skip (.exit 0))) (.seq (.block 1 (.q [.f 42 0 1,.l 43 42,.m 44 4,.I 45 3 43 44,.L 46 3 45,.z 5 (.alloc [(.i 0),(.bool false),(.i 0)]),.S 3 5 46] (.seq (.q [.f 47 0 5,.l 48 47,.b 49 .lss 3 48 1,.m 50 49,.nf 51 50 0 5,.nl 52 50 51,.nb 53 50 .gtr 3 52 512,.p 54 50 53,.m 55 54,.nf 56 55 2 5,.nl 57 55 56,.nb 58 55 .lss 3 57 0,.p 59 55 58,.m 60 59,.nf 61 60 2 5,.nl 62 60 61,.nb 63 60 .gtr 3 62 3,.p 64 60 63,.m 65 64,.nf 66 65 2 5,.nl 67 65 66,.nb 68 65 .gtr 3 67 0,.mn 69 65 68,.my 70 69 3,.my 71 69 4,.y 72 69 (.bin .lss false 3 (.t 70) (.t 71)),.n 73 65 (.pick (.t 69) (.t 72) .F),.p 74 65 73,.m 75 74,.nf 76 75 2 5,.nl 77 75 76,.nb 78 75 .eql 3 77 1,.mn 79 75 78,.yf 80 79 1 5,.yl 81 79 80,.n 82 75 (.pick (.t 79) (.t 81) .F),.p 83 75 82,.m 84 83,.nf 85 84 2 5,.nl 86 84 85,.nb 87 84 .gtr 3 86 1,.mn 88 84 87,.yf 89 88 1 5,.yl 90 88 89,.y 91 88 (.un .not (.t 90)),.n 92 84 (.pick (.t 88) (.t 91) .F),.p 93 84 92] (.cond (.t 93) (.q [.K 2 2] .ret) .skip)) (.q [.f 94 2 5,.l 95 94,.b 96 .gtr 3 95 0] (.cond (.t 96) (.ops [.m 97 3,.b 98 .add 3 97 1,.m 3 98]) .skip))))) (.ops [.m 40 4,.b 41 .add 3 40 1,.m 4 41])))))) (.seq (.q [.m 99 3,.b 100 .gtr 3 99 12] (.cond (.t 100) (.q [.K 2 2] .ret) .skip)) (.seq (.q [.K 6 0] (.block 2 (.loop (.seq (.q [.m 101 6,.f 102 2 1,.l 103 102,.s 104 103,.c 105 .lss 3 101 104] (.cond (.t 105) .skip (.exit 2))) (.seq (.block 3 (.q [.f 108 2 1,.l 109 108,.m 110 6,.I 111 7 109 110,.L 112 7 111,.z 7 (.alloc [(.i 0),(.i 0),(.i 0),(.i 0),(.i 0),(.i 0),(.u 0)]),.S 7 7 112] (.q [.f 113 0 7,.l 114 113,.b 115 .neq 3 114 17,.m 116 115,.nf 117 116 0 1,.nl 118 116 117,.n 119 116 (.loadN 7 (.t 7)),.n 120 116 (.w 49 [.t 118,.t 119]),.n 121 116 (.un .not (.t 120)),.p 122 116 121,.m 123 122,.nf 124 123 0 1,.nl 125 123 124,.nf 126 123 3 7,.nl 127 123 126,.n 128 123 (.ixAddr 3 (.t 125) (.t 127)),.nf 129 123 2 128,.nl 130 123 129,.nb 131 123 .eql 3 130 3,.p 132 123 131,.m 133 132,.nf 134 133 4 7,.nl 135 133 134,.nb 136 133 .geq 3 135 0,.mn 137 133 136,.yf 138 137 0 1,.yl 139 137 138,.yf 140 137 4 7,.yl 141 137 140,.y 142 137 (.ixAddr 3 (.t 139) (.t 141)),.yf 143 137 2 142,.yl 144 137 143,.y 145 137 (.bin .eql true 3 (.t 144) (.k 3)),.n 146 133 (.pick (.t 137) (.t 145) .F),.p 147 133 146] (.cond (.t 147) (.q [.K 2 2] .ret) .skip)))) (.ops [.m 106 6,.b 107 .add 3 106 1,.m 6 107])))))) (.q [.K 8 0] (.q [.f 148 0 1,.l 149 148,.s 150 149,.z 151 (.mkSl 1 [(.bool false)] (.t 150) (.t 150)),.m 9 151] (.seq (.q [.K 10 0] (.block 4 (.loop (.seq (.q [.m 152 10,.f 153 0 1,.l 154 153,.s 155 154,.c 156 .lss 3 152 155] (.cond (.t 156) .skip (.exit 4))) (.seq (.block 5 (.ops [.m 159 9,.m 160 10,.f 161 0 1,.l 162 161,.m 163 10,.I 164 3 162 163,.f 165 2 164,.l 166 165,.b 167 .eql 3 166 1,.m 168 167,.nf 169 168 0 1,.nl 170 168 169,.mn 171 168 10,.n 172 168 (.ixAddr 3 (.t 170) (.t 171)),.nf 173 168 2 172,.nl 174 168 173,.nb 175 168 .eql 3 174 2,.p 176 168 175,.I 177 1 159 160,.S 1 177 176])) (.ops [.m 157 10,.b 158 .add 3 157 1,.m 10 158])))))) (.seq (.q [.K 11 0] (.block 6 (.loop (.seq (.q [.m 178 11,.f 179 1 1,.l 180 179,.s 181 180,.c 182 .lss 3 178 181] (.cond (.t 182) .skip (.exit 6))) (.seq (.block 7 (.seq (.seq (.draw [(.f 185 0 1,[]),(.l 186 185,[]),(.f 187 1 1,[]),(.l 188 187,[]),(.m 189 11,[]),(.I 190 7 188 189,[]),(.L 191 7 190,[]),(.W 192 50 186 191,[]),(.z 193 (.un .not (.t 192)),[]),(.m 194 193,[]),(.mn 195 194 9,[]),(.nf 196 194 1 1,[]),(.nl 197 194 196,[]),(.mn 198 194 11,[]),(.n 199 194 (.ixAddr 7 (.t 197) (.t 198)),[]),(.n 200 194 (.loadN 7 (.t 199)),[]),(.n 201 194 (.w 51 [.t 195,.t 200]),[]),(.n 202 194 (.un .not (.t 201)),[]),(.p 203 194 202,[])]) (.cond (.t 203) (.q [.K 2 2] .ret) .skip)) (.seq (.q [.f 204 1 1,.l 205 204,.m 206 11,.I 207 7 205 206,.f 208 0 207,.l 209 208] (.block 8 (.q [.b 211 .eql 3 209 15,.m 210 211] (.cond (.t 210) (.ops [.m 212 8,.b 213 .add 3 212 1,.m 8 213]) (.q [.b 215 .eql 3 209 16,.m 214 215] (.cond (.t 214) (.ops [.m 216 8,.b 217 .sub 3 216 1,.m 8 217]) .skip)))))) (.q [.m 218 8,.b 219 .lss 3 218 0,.m 220 219,.mn 221 220 8,.nb 222 220 .gtr 3 221 4,.p 223 220 222] (.cond (.t 223) (.q [.K 2 2] .ret) .skip))))) (.ops [.m 183 11,.b 184 .add 3 183 1,.m 11 184])))))) (.seq (.q [.K 12 0] (.block 9 (.loop (.seq (.q [.m 224 12,.f 225 0 1,.l 226 225,.s 227 226,.c 228 .lss 3 224 227] (.cond (.t 228) .skip (.exit 9))) (.seq (.block 10 (.q [.f 231 0 1,.l 232 231,.m 233 12,.I 234 3 232 233,.f 235 2 234,.l 236 235,.b 237 .eql 3 236 3,.m 238 237,.my 239 238 9,.my 240 238 12,.y 241 238 (.ixAddr 1 (.t 239) (.t 240)),.yl 242 238 241,.y 243 238 (.un .not (.t 242)),.q 244 238 243] (.cond (.t 244) (.q [.K 2 2] .ret) .skip))) (.ops [.m 229 12,.b 230 .add 3 229 1,.m 12 230])))))) (.seq (.q [.m 245 8,.b 246 .neq 3 245 0] (.cond (.t 246) (.q [.K 2 2] .ret) .skip)) (.q [.K 2 0] .ret)))))))))))))
def r_ref19_Check:Mt Tryz.prog 9=some ⟨247,tt.r,[.tmp 2]⟩:=Aa
def z5w(g:List Vr)(A B:List Ko)(jY:g.length≤9223372036854775807):Mo 9 [.agg (Mg g A B)] (.i (Nr g A B)) []:=by
 refine Ni.val rfl (Mq r_ref19_Check Aa U ?_);have gB:Mw g A B=false→Nr g A B=2:=λh=>by simp[Nr,h]
 have H:O6 g=false→Nr g A B=2:=λh=>gB (by simp[Mw,h])
 by_cases a1:(g.length:Int)<1
 ·simp[tt,Mg,a1];exact (H (by unfold O6;split<;>simp;omega)).symm
 by_cases a2:(256:Int)<(g.length:Int)
 ·simp[tt,Mg,a1,a2];exact (H (by unfold O6;split<;>simp;omega)).symm
 by_cases g1:(4096:Int)<(A.length:Int)
 ·simp[tt,Mg,a1,a2,g1];exact (gB (by simp[Mw];omega)).symm
 by_cases g2:(4096:Int)<(B.length:Int)
 ·simp[tt,Mg,a1,a2,g1,g2];exact (gB (by simp[Mw];omega)).symm
 simp[tt,Mg,a1,a2,g1,g2];refine M2 (λρ jp gK N=>∃i gZ:Nat,jp=[]∧N+i=g.length∧gZ≤i∧lk ρ 1=.ptr 0 0∧lk ρ 3=.i gZ∧lk ρ 4=.i i∧0<gK.length∧gK[0]?=some (.cells (Mg g A B) 0)∧Oc i gZ (g.drop i)=Oc 0 0 g) (N:=g.length) ⟨0,0,Bv⟩ ?_;rintro N ρ jp gK ⟨i,gZ,rfl,hN,jZ,p,h3,h4,C,z,hv⟩ Nx G;by_cases I:i<g.length
 ·have hg:=P8 I;have q3:=U3 hg;have M:=S2 I;rw[tl I]at hv;have V:(gv g i).f=[.i (gv g i).limbs,.bool (gv g i).sec,.i (gv g i).mode]:=rfl;generalize gv g i=v at *;have no:Oc i gZ (v::g.drop (i+1))=none→Nr g A B=2:=λh=>H (by rw[h]at hv;simp[O6,←hv])
  have next:∀D O (p':Nat),Oc (i+1) p' (g.drop (i+1))=Oc i gZ (v::g.drop (i+1))→p'≤i+1→lk D 1=.ptr 0 0→lk D 3=.i p'→lk D 4=.i ((i:Int)+1)→0<O.length→O[0]?=some (.cells (Mg g A B) 0)→Nx D [] O:=by
   intro D O p' e jM E b3 b4 bl bG;exact G _ _ _ ⟨N-1,J,i+1,p',rfl,J,jM,E,b3,by rw[b4];simp,bl,bG,by rw[e,hv]⟩
  by_cases E:v.limbs<1
  ·simp[p,h3,h4,I,q3,M,V,↓Mj C,z,Mg,E];exact (no (by simp[Oc,Qw,E])).symm
  by_cases X:512<v.limbs
  ·simp[p,h3,h4,I,q3,M,V,↓Mj C,z,Mg,E,X];exact (no (by simp[Oc,Qw,E,X])).symm
  by_cases b3:v.mode<0
  ·simp[p,h3,h4,I,q3,M,V,↓Mj C,z,Mg,E,X,b3];exact (no (by simp[Oc,Qw,E,X,b3])).symm
  by_cases b4:3<v.mode
  ·simp[p,h3,h4,I,q3,M,V,↓Mj C,z,Mg,E,X,b3,b4];exact (no (by simp[Oc,Qw,E,X,b3,b4])).symm
  by_cases b5:v.mode=0
  ·simp[p,h3,h4,I,q3,M,V,↓Mj C,z,Mg,E,X,b3,b4,b5]
   repeat (refine⟨J,?_⟩)
   exact next _ _ gZ (by simp[Oc,Qw,E,X,b3,b4,b5]) J Ae (by simp[h3]) U U B9
  have g8:0<v.mode:=J
  by_cases b6:(gZ:Int)<(i:Int)
  ·simp[p,h3,h4,I,q3,M,V,↓Mj C,z,Mg,E,X,b3,b4,g8,b6];have gC:gZ<i:=J
   exact (no (by simp[Oc,Qw,E,X,b3,b4,b5,gC])).symm
  have gC:¬gZ<i:=J
  by_cases m1:v.mode=1
  ·cases hs:v.sec with
   |true =>
    simp[p,h3,h4,I,q3,M,V,↓Mj C,z,Mg,E,X,m1,b6,hs];exact (no (by simp[Oc,Qw,E,X,gC,m1,hs])).symm
   |false =>
    simp[p,h3,h4,I,q3,M,V,↓Mj C,z,Mg,E,X,m1,b6,hs]
    repeat (refine⟨J,?_⟩)
    exact next _ _ (gZ+1) (by simp[Oc,Qw,E,X,gC,m1,hs]) J Ae U U U B9
  have jz:1<v.mode:=J
  ·cases hs:v.sec with
   |false =>
    simp[p,h3,h4,I,q3,M,V,↓Mj C,z,Mg,E,X,b3,b4,g8,b6,m1,jz,hs];exact (no E6).symm
   |true =>
    simp[p,h3,h4,I,q3,M,V,↓Mj C,z,Mg,E,X,b3,b4,g8,b6,m1,jz,hs]
    repeat (refine⟨J,?_⟩)
    exact next _ _ (gZ+1) E6 J Ae U U U B9
 rw[Il J]at hv;have R:Oc 0 0 g=some gZ:=by rw[←hv];rfl
 by_cases jA:(12:Int)<(gZ:Int)
 ·simp[p,h3,h4,I,z,Mg,jA];exact (H (by simp[O6,R];omega)).symm
 have c1:1≤g.length:=J
 have c2:g.length≤256:=J
 have c3:gZ≤12:=J
 have jN:O6 g=true:=by simp[O6,R,c1,c2,c3]
 simp[p,h3,h4,I,z,Mg,jA];refine M2 (λρ jp gK N=>∃i:Nat,jp=[]∧N+i=B.length∧lk ρ 1=.ptr 0 0∧lk ρ 6=.i i∧0<gK.length∧gK[0]?=some (.cells (Mg g A B) 0)∧∀j,j<i→Oi g (go B j)=true) (N:=B.length) ⟨0,rfl,J,Ae,U,C,z,λj hj=>J⟩ ?_;clear p h3 h4 z G C;rintro N ρ jp gK ⟨i,rfl,hN,p,h6,C,z,hr⟩ Nx G;by_cases I:i<B.length
 ·have q7:=Wt (Rl I);have M:=Wf I;have V:(go B i).f=[.i (go B i).kind,.i (go B i).d,.i (go B i).e,.i (go B i).a,.i (go B i).b,.i (go B i).c,.u (go B i).imm]:=rfl;have no:Oi g (go B i)=false→Nr g A B=2:=λh=>gB (by
   have:B.all (Oi g)=false:=by
    rw[Jz];exact⟨go B i,Im (Rl I),Cq⟩
   simp[Mw,this])
  have jO:Oi g (go B i)=true→∀j,j<i+1→Oi g (go B j)=true:=λh j hj=>by
   by_cases e:j=i
   ·rw[e];exact h
   ·exact hr j J
  have next:∀D O,Oi g (go B i)=true→lk D 1=.ptr 0 0→lk D 6=.i ((i:Int)+1)→0<O.length→O[0]?=some (.cells (Mg g A B) 0)→Nx D [] O:=by
   intro D O ok E b6 bl bG;exact G _ _ _ ⟨N-1,J,i+1,rfl,J,E,by rw[b6];simp,bl,bG,jO ok⟩
  generalize go B i=o at *;by_cases gg:o.kind=17
  ·simp[p,h6,I,q7,M,V,gg,↓Mj C,z,Mg];have hc:=zco (Mz g) g.length o;rw[V,gg]at hc;refine Mv hc (bors_self _ Bg) ?_;cases hn:Qg g.length o with
   |false =>
    simp;exact (no (by simp[Oi,hn])).symm
   |true =>
    have jB:=zp4 gg hn;have ha:0≤o.a∧o.a<g.length:=by
     simp only[Qg,Hh]at hn;exact bm.1 hn.2.2.2.1
    have hb:o.b<g.length:=by
     simp only[Qg,Hh]at hn;have:=hn.2.2.2.2;split at this
     ·exact (bm.1 this).2
     ·simp at this;omega
    obtain⟨a,ea,gL,qa⟩:=(show Vb g o.a from ha).at;have q2:=kt qa;rw[ea]at q2;simp only[Io]at q2;have g9:Qa g o.a=decide ((gv g a).mode=3):=by rw[ea];simp[Qa]
    by_cases m3:(gv g a).mode=3
    ·simp[p,h6,↓Mj C,z,Mg,ea,gL,Mi q2,m3];exact (no (by rw[Oi,g9];simp[m3])).symm
    by_cases b0:0≤o.b
    ·obtain⟨b,eb,jC,qb⟩:=(show Vb g o.b from ⟨b0,hb⟩).at;have gM:=kt qb;rw[eb]at gM;simp only[Io]at gM;have gO:Qa g o.b=decide ((gv g b).mode=3):=by rw[eb];simp[Qa]
     have jD:(0:Int)≤(b:Int):=J
     by_cases n3:(gv g b).mode=3
     ·simp[p,h6,↓Mj C,z,Mg,ea,gL,Mi q2,m3,eb,jC,jD,Mi gM,n3];exact (no (by rw[Oi,gO];simp[n3])).symm
     ·simp[p,h6,↓Mj C,z,Mg,ea,gL,Mi q2,m3,eb,jC,jD,Mi gM,n3]
      repeat (refine⟨J,?_⟩)
      exact next _ _ (by rw[Oi,g9,gO];simp[gg,hn,m3,n3]) Ae U U B9
    ·have gO:Qa g o.b=false:=by simp[Qa,b0]
     simp[p,h6,↓Mj C,z,Mg,ea,gL,Mi q2,m3,b0]
     repeat (refine⟨J,?_⟩)
     exact next _ _ (by rw[Oi,g9,gO];simp[gg,hn,m3]) Ae U U B9
  ·simp[p,h6,I,q7,M,V,gg,↓Mj C,z,Mg];exact (no (by simp[Oi,gg])).symm
 have jE:B.all (Oi g)=true:=by
  rw[I7];intro o ho;obtain⟨j,hj,rfl⟩:=Jv.1 ho;have e:=Rl hj;rw[Hj hj]at e;rw[Option.some.inj e];exact hr j J
 have lv:g.length≤1048576:=J
 simp[p,h6,I,z,Mg,lv]
 repeat (refine⟨J,?_⟩)
 refine M2 (λρ jp gK N=>∃(i:Nat) (m:List Bool) (q Y:Nat),jp=[]∧N+i=g.length∧lk ρ 1=.ptr 0 0∧lk ρ 8=.i 0∧lk ρ 9=.dy q 0∧lk ρ 10=.i i ∧
   0<gK.length∧0<q∧q<gK.length∧gK[0]?=some (.cells (Mg g A B) 0)∧gK[q]?=some (.dyn (m.map .bool) m.length 1 0 Y)∧m.length=g.length∧∀j,j<i→gb m j=Oo (gv g j)) (N:=g.length)
  ⟨0,List.replicate g.length false,gK.length,0,rfl,J,Ae,U,U,U,U,C,U,B9,by simp[vh],U,U⟩ ?_
 clear p h6 z hr G C;rintro N ρ jp gK ⟨i,m,q,Y,rfl,hN,p,Q,P,gP,C,gE,gF,z,M,K,hm⟩ Nx G;by_cases I:i<g.length
 ·have q2:=kt (P8 I);have jF:=ks LV.bool m i (Oo (gv g i)) J;have next:∀D O Z,lk D 1=.ptr 0 0→lk D 8=.i 0→lk D 9=.dy q 0→lk D 10=.i ((i:Int)+1)→O=gK.set q (.dyn (M5 (m.map .bool) i [.bool (Oo (gv g i))]) m.length 1 0 Z)→Nx D [] O:=by
   rintro D O Z E b8 b9 jP rfl;refine G _ _ _ ⟨N-1,J,i+1,m.set i (Oo (gv g i)),q,Z,rfl,J,E,b8,b9,by rw[jP];simp,C4,gE,by simpa using gF,?_,?_,A8,λj hj=>?_⟩
   ·rw[Hg J];exact z
   ·rw[Hi gF,jF,Js]
   ·rw[zvs _ _ _ _ J];split
    ·rename_i e;rw[e]
    ·exact hm j J
  have gR:Oo (gv g i)=(decide ((gv g i).mode=1) || decide ((gv g i).mode=2)):=rfl;by_cases m1:(gv g i).mode=1
  ·simp[p,P,gP,I,z,M,Mg,Mi q2,m1,K]
   repeat (refine⟨J,?_⟩)
   exact next _ _ (Y+1) Ae A9 Ba U (by rw[gR];simp[m1,K])
  ·simp[p,P,gP,I,z,M,Mg,Mi q2,m1,K]
   repeat (refine⟨J,?_⟩)
   exact next _ _ (Y+1) Ae A9 Ba U (by rw[gR];simp[m1,K])
 have jQ:m=Rp g:=Yj (by simp[Rp,K]) (λj hj=>by
  rw[hm j J];unfold gb Rp;rw[Hr,Jp,P8 J];rfl)
 simp[p,Q,P,gP,I,z,Mg];refine M2 (λρ jp gK N=>∃(i:Nat) (m:List Bool) (L:Int) (q Y:Nat),jp=[]∧N+i=A.length∧lk ρ 1=.ptr 0 0∧lk ρ 8=.i L∧lk ρ 9=.dy q 0∧lk ρ 11=.i i ∧
   0<gK.length∧0<q∧q<gK.length∧gK[0]?=some (.cells (Mg g A B) 0)∧gK[q]?=some (.dyn (m.map .bool) m.length 1 0 Y)∧m.length=g.length∧0≤L∧L≤4∧Oz g m L (A.drop i)=Oz g (Rp g) 0 A) (N:=A.length)
  ⟨0,m,0,q,Y,rfl,J,Ae,A9,Ba,U,C,gE,gF,z,M,K,J,J,by simp[jQ]⟩ ?_
 clear p Q P gP z M G C gE gF K;rintro N ρ jp gK ⟨i,m,L,q,Y,rfl,hN,p,Q,P,S,C,gE,gF,z,M,K,j3,j4,R⟩ Nx G;by_cases I:i<A.length
 ·have q7:=Wt (Rl I);have jG:=Wf I;rw[iy I]at R;have V:(go A i).f=[.i (go A i).kind,.i (go A i).d,.i (go A i).e,.i (go A i).a,.i (go A i).b,.i (go A i).c,.u (go A i).imm]:=rfl;have qk:(M6 A)[i*7]?=some (.i (go A i).kind):=by have:=Sy Ko.f_len (Rl I) (j:=0) J;simpa [M6,Ko.f] using this
  generalize go A i=o at *;have no:Oz g m L (o::A.drop (i+1))=none→Nr g A B=2:=λh=>gB (by
   rw[h]at R;simp[Mw,←R])
  simp[p,S,I,q7,jG,V,z,Mg];rw[←V];refine Mv (znf g o) (bors_self _ (by simp[dats,LV.dat,On,V])) ?_;cases ho:Nb g o with
  |false =>
   simp;exact (no (by simp[Oz,ho])).symm
  |true =>
  have jB:=zto ho;simp[p,P,S,I,q7,jG,z,Mg];refine zgp o jB K.symm M (λht O jH=>?_) (λht O Z j5 jH jR=>?_)
  ·simp;exact (no (by simp[Oz,ho,ht])).symm
  have gD:O[0]?=some (.cells (Mg g A B) 0):=by rw[jH 0 C J];exact z
  have jI:(Rv m o).length=m.length:=by unfold Rv;split<;>simp
  have jS:∀F,F=L+dl o.kind→(F<0∨4<F→Nr g A B=2)∧(0≤F→F≤4→Oz g (Rv m o) F (A.drop (i+1))=Oz g (Rp g) 0 A):=λF e=>by
   subst e;refine⟨λh=>no ?_,λh0 h4=>?_⟩
   ·rw[Oz,Hq];simp only[Hh,Ht];omega
   ·rw[←R,Oz,Hs];simp only[Hh,Ht];exact⟨ho,ht,h0,h4⟩
  have jg:∃T,dl o.kind=T∧-1≤T∧T≤1∧((o.kind=15∧T=1)∨(o.kind≠15∧o.kind=16∧T=-1)∨(o.kind≠15∧o.kind≠16∧T=0)):=by
   by_cases k1:o.kind=15
   ·exact⟨1,by simp[dl,k1],J,J,.inl ⟨k1,rfl⟩⟩
   by_cases k2:o.kind=16
   ·exact⟨-1,by simp[dl,k2],J,J,.inr (.inl ⟨k1,k2,rfl⟩)⟩
   ·exact⟨0,by simp[dl,k1,k2],J,J,.inr (.inr ⟨k1,k2,rfl⟩)⟩
  obtain⟨T,e1,e2,e3,jg⟩:=jg;obtain⟨gS,jK⟩:=jS (L+T) (by rw[e1]);have next:∀(F:Int) (D:Ml),F=L+T→0≤F→F≤4→lk D 1=.ptr 0 0→lk D 8=.i F→lk D 9=.dy q 0→lk D 11=.i ((i:Int)+1)→Nx D [] O:=by
   intro F D e gT gV E b8 b9 jT;refine G _ _ _ ⟨N-1,J,i+1,Rv m o,F,q,Z,rfl,J,E,b8,b9,by rw[jT];simp,J,gE,J,gD,by rw[jI];exact jR,by rw[jI,K],gT,gV,?_⟩;subst e;exact jK gT gV
  rcases jg with ⟨gA,rfl⟩|⟨gA,gQ,rfl⟩|⟨gA,gQ,rfl⟩
  ·have r0:¬L+1<0:=J
   by_cases d4:4<L+1
   ·simp[p,Q,S,I,gD,Mg,Mi qk,gA,r0,d4]
    repeat (refine⟨J,?_⟩)
    exact (gS (.inr d4)).symm
   ·simp[p,Q,S,I,gD,Mg,Mi qk,gA,r0,d4]
    repeat (refine⟨J,?_⟩)
    exact next (L+1) _ J J J Ae U Ba U
  ·by_cases r0:L-1<0
   ·simp[p,Q,S,I,gD,Mg,Mi qk,gA,gQ,r0]
    repeat (refine⟨J,?_⟩)
    exact (gS (.inl J)).symm
   ·have d4:¬4<L-1:=J
    simp[p,Q,S,I,gD,Mg,Mi qk,gA,gQ,r0,d4]
    repeat (refine⟨J,?_⟩)
    exact next (L-1) _ J J J Ae U Ba U
  ·have r0:¬L<0:=J
   have d4:¬4<L:=J
   simp[p,Q,S,I,gD,Mg,Mi qk,gA,gQ,r0,d4]
   repeat (refine⟨J,?_⟩)
   exact next L _ J J J Ae A9 Ba U
 have jV:Oz g (Rp g) 0 A=some (m,L):=by
  rw[Il J]at R;rw[←R];rfl
 have l1:A.length≤4096:=J
 have l2:B.length≤4096:=J
 have gG:Mw g A B=(Ue g m&&decide (L=0)):=by simp[Mw,jN,jE,jV,l1,l2]
 simp[p,Q,P,S,I,z,Mg];refine M2 (λρ jp O N=>∃i:Nat,jp=[]∧O=gK∧N+i=g.length∧lk ρ 1=.ptr 0 0∧lk ρ 8=.i L∧lk ρ 9=.dy q 0∧lk ρ 12=.i i∧∀j,j<i→(gv g j).mode=3→gb m j=true) (N:=g.length) ⟨0,rfl,rfl,J,Ae,A9,Ba,U,λj hj=>J⟩ ?_;clear p Q P S G;rintro N ρ jp O ⟨i,rfl,rfl,hN,p,Q,P,gH,ha⟩ Nx G;by_cases I:i<g.length
 ·have gm:i<m.length:=J
  have q1:=Pf (f:=LV.bool) (u7 gm);have q2:=kt (P8 I);have next:∀D,((gv g i).mode=3→gb m i=true)→lk D 1=.ptr 0 0→lk D 8=.i L→lk D 9=.dy q 0→lk D 12=.i ((i:Int)+1)→Nx D [] O:=by
   intro D ok E b8 b9 jX;refine G _ _ _ ⟨N-1,J,i+1,rfl,rfl,J,E,b8,b9,by rw[jX];simp,λj hj gI=>?_⟩;by_cases e:j=i
   ·subst e;exact ok gI
   ·exact ha j J gI
  by_cases m3:(gv g i).mode=3
  ·cases hb:gb m i with
   |false =>
    simp[p,P,gH,I,z,M,Mg,gm,Mi q1,Mi q2,m3,hb];have:Ue g m=false:=by
     unfold Ue;rw[Jz];exact⟨i,I9.2 I,by simp[m3,hb]⟩
    exact (gB (by rw[gG,this];rfl)).symm
   |true =>
    simp[p,P,gH,I,z,M,Mg,gm,Mi q1,Mi q2,m3,hb]
    repeat (refine⟨J,?_⟩)
    exact next _ (λ_=>hb) Ae A9 Ba U
  ·simp[p,P,gH,I,z,Mg,Mi q2,m3]
   repeat (refine⟨J,?_⟩)
   exact next _ (λh=>absurd h m3) Ae A9 Ba U
 have jL:Ue g m=true:=by
  unfold Ue;rw[I7];intro j hj;have hj:=I9.1 hj;by_cases gI:(gv g j).mode=3
  ·simp[ha j J gI]
  ·simp[gI]
 by_cases d0:L=0
 ·simp[p,Q,gH,I,z,Mg,d0];simp[Nr,gG,jL,d0]
 ·simp[p,Q,gH,I,z,Mg,d0];simp[Nr,gG,d0]
def zan:LC:=(.q [.z 4 (.move (.c (.u 0))),.z 5 (.move (.c (.u 0)))] (.seq (.cond .F (.q [.m 11 0,.z 12 (.cvInt .u32 (.t 11)),.m 13 1,.z 14 (.cvInt .u32 (.t 13)),.W 15 147 12 14,.m 10 15,.X 16 0 10,.X 17 1 10,.m 6 16,.m 7 17] (.q [.m 18 6,.z 19 (.cvInt .u64 (.t 18)),.m 20 7,.z 21 (.cvInt .u64 (.t 20)),.m 4 19,.m 5 21] .ret)) .skip) (.q [.m 23 0,.m 24 1,.W 25 148 23 24,.m 22 25,.X 26 0 22,.X 27 1 22,.m 8 26,.m 9 27] (.q [.m 28 8,.m 29 9,.m 4 28,.m 5 29] .ret))))
def r_math_bits_Mul:Mt Tryz.prog 111=some ⟨30,zan.r,[.tmp 4,.tmp 5]⟩:=Aa
def z8c:LC:=(.q [.z 4 (.move (.c (.u 0))),.z 5 (.move (.c (.u 0)))] (.q [.m 14 0,.u 15 .and 43 14 4294967295,.m 6 15] (.q [.m 16 0,.u 17 .shr 43 16 32,.m 7 17] (.q [.m 18 1,.u 19 .and 43 18 4294967295,.m 8 19] (.q [.m 20 1,.u 21 .shr 43 20 32,.m 9 21] (.q [.m 22 6,.m 23 8,.c 24 .mul 43 22 23,.m 10 24] (.q [.m 25 7,.m 26 8,.c 27 .mul 43 25 26,.m 28 10,.u 29 .shr 43 28 32,.c 30 .add 43 27 29,.m 11 30] (.q [.m 31 11,.u 32 .and 43 31 4294967295,.m 12 32] (.q [.m 33 11,.u 34 .shr 43 33 32,.m 13 34] (.q [.m 35 12,.m 36 6,.m 37 9,.c 38 .mul 43 36 37,.c 39 .add 43 35 38,.m 12 39] (.q [.m 40 7,.m 41 9,.c 42 .mul 43 40 41,.m 43 13,.c 44 .add 43 42 43,.m 45 12,.u 46 .shr 43 45 32,.c 47 .add 43 44 46,.m 4 47] (.q [.m 48 0,.m 49 1,.c 50 .mul 43 48 49,.m 5 50] .ret))))))))))))
def r_math_bits_Mul64:Mt Tryz.prog 148=some ⟨51,z8c.r,[.tmp 4,.tmp 5]⟩:=Aa
def z4r:LC:=(.q [.e 4] (.seq (.q [.m 9 1,.b 10 .lss 3 9 0] (.cond (.t 10) .stuck .skip)) (.q [.m 13 0,.s 14 13,.z 15 (.cvInt .u64 (.t 14)),.m 16 1,.z 17 (.cvInt .u64 (.t 16)),.W 18 111 15 17,.m 12 18,.X 19 0 12,.X 20 1 12,.m 5 19,.m 6 20] (.seq (.q [.m 21 5,.u 22 .gtr 110 21 0,.m 23 22,.mn 24 23 6,.n 25 23 (.bin .gtr true 110 (.t 24) (.c (.u 9223372036854775807))),.p 26 23 25] (.cond (.t 26) .stuck .skip)) (.q [.m 28 6,.z 29 (.cvInt .i64 (.t 28)),.z 30 (.mkSl 1 [(.i 0)] (.t 29) (.t 29)),.m 7 30] (.q [.m 31 7,.m 32 0,.z 33 (.copy 1 (.t 31) (.t 32)),.m 8 33] (.seq (.block 0 (.loop (.seq (.q [.m 34 8,.m 35 7,.s 36 35,.c 37 .lss 3 34 36] (.cond (.t 37) .skip (.exit 0))) (.block 1 (.draw [(.m 38 8,[]),(.m 39 7,[]),(.m 40 8,[]),(.z 41 (.slSl 1 (.t 39) (some (.t 40)) none),[]),(.m 42 7,[]),(.m 43 8,[]),(.z 44 (.slSl 1 (.t 42) none (some (.t 43))),[]),(.z 45 (.copy 1 (.t 41) (.t 44)),[]),(.c 46 .add 3 38 45,[]),(.m 8 46,[])]))))) (.q [.m 47 7,.m 4 47] .ret))))))))
def r_slices_Repeat_int_int:Mt Tryz.prog 151=some ⟨48,z4r.r,[.tmp 4]⟩:=Aa
def zak:LC:=(.q [.x 4 0,.F 8] (.seq (.q [.K 9 0] (.block 0 (.loop (.seq (.q [.m 10 9,.f 11 0 4,.l 12 11,.s 13 12,.c 14 .lss 3 10 13] (.cond (.t 14) .skip (.exit 0))) (.seq (.block 1 (.q [.f 17 0 4,.l 18 17,.m 19 9,.I 20 3 18 19,.f 21 0 20,.l 22 21,.m 23 2,.c 24 .gtr 3 22 23] (.cond (.t 24) (.q [.F 8] .ret) .skip))) (.ops [.m 15 9,.b 16 .add 3 15 1,.m 9 16])))))) (.q [.f 25 0 4,.l 26 25,.s 27 26,.m 28 1,.c 29 .leq 3 27 28,.m 30 29,.yf 31 30 1 4,.yl 32 30 31,.y 33 30 (.lenSl (.t 32)),.my 34 30 3,.y 35 30 (.bin .leq false 3 (.t 33) (.t 34)),.q 36 30 35,.m 37 36,.yf 38 37 2 4,.yl 39 37 38,.y 40 37 (.lenSl (.t 39)),.my 41 37 3,.y 42 37 (.bin .leq false 3 (.t 40) (.t 41)),.q 43 37 42,.m 8 43] .ret)))
def r_kit_LightKern:Mt Tryz.prog 16=some ⟨44,zak.r,[.tmp 8]⟩:=Aa
def zbt:LC:=(.q [.x 1 0,.e 2] (.seq (.q [.L 8 3 1,.w 9 43 8,.b 10 .neq 35 9 0] (.cond (.t 10) (.q [.e 2] .ret) .skip)) (.q [.z 11 (.buildSl 1 1 [(.i 0)] [(0,1,.k (-1))]),.f 12 1 1,.l 13 12,.s 14 13,.W 15 151 11 14,.m 3 15] (.q [.e 4] (.seq (.q [.f 16 1 1,.l 17 16,.s 18 17,.K 19 0] (.block 0 (.loop (.q [.c 20 .lss 3 19 18] (.seq (.cond (.t 20) .skip (.exit 0)) (.seq (.block 1 (.q [.m 21 19,.I 22 7 17 19,.L 23 7 22,.z 6 (.alloc [(.i 0),(.i 0),(.i 0),(.i 0),(.i 0),(.i 0),(.u 0)]),.m 5 21,.S 7 6 23] (.q [.f 24 0 6,.l 25 24] (.block 2 (.q [.b 27 .eql 3 25 15,.m 26 27] (.cond (.t 26) (.ops [.m 28 4,.m 29 5,.z 30 (.buildSl 1 1 [(.i 0)] [(0,1,.t 29)]),.a 31 1 28 30,.m 4 31]) (.q [.b 33 .eql 3 25 16,.m 32 33] (.cond (.t 32) (.q [.m 34 4,.s 35 34,.b 36 .sub 3 35 1,.m 7 36] (.seq (.draw [(.m 37 3,[]),(.m 38 5,[]),(.m 39 3,[]),(.m 40 4,[]),(.m 41 7,[]),(.I 42 1 40 41,[]),(.l 43 42,[]),(.m 44 4,[]),(.m 45 7,[]),(.I 46 1 44 45,[]),(.l 47 46,[]),(.m 48 5,[]),(.I 49 1 37 38,[]),(.S 1 49 47,[]),(.I 50 1 39 43,[]),(.S 1 50 48,[])]) (.ops [.m 51 4,.m 52 7,.z 53 (.slSl 1 (.t 51) none (some (.t 52))),.m 4 53]))) .skip)))))))) (.ops [.b 54 .add 3 19 1,.m 19 54]))))))) (.q [.m 55 3,.m 2 55] .ret))))))
def r_lengths_Ends:Mt Tryz.prog 124=some ⟨56,zbt.r,[.tmp 2]⟩:=Aa
def zed:LC:=(.q [.x 1 0,.e 2] (.seq (.q [.L 7 3 1,.w 8 9 7,.b 9 .neq 35 8 0] (.cond (.t 9) (.q [.e 2] .ret) .skip)) (.q [.f 10 1 1,.l 11 10,.s 12 11,.z 13 (.mkSl 1 [(.i 0)] (.t 12) (.t 12)),.m 3 13] (.q [.e 4] (.seq (.q [.K 5 0] (.block 0 (.loop (.seq (.q [.m 14 5,.f 15 1 1,.l 16 15,.s 17 16,.c 18 .lss 3 14 17] (.cond (.t 18) .skip (.exit 0))) (.seq (.block 1 (.q [.m 21 3,.m 22 5,.I 23 1 21 22,.v (.store 1 (.t 23) (.k (-1)))] (.q [.f 24 1 1,.l 25 24,.m 26 5,.I 27 7 25 26,.f 28 0 27,.l 29 28] (.block 2 (.q [.b 31 .eql 3 29 15,.m 30 31] (.cond (.t 30) (.ops [.m 32 4,.m 33 5,.z 34 (.buildSl 1 1 [(.i 0)] [(0,1,.t 33)]),.a 35 1 32 34,.m 4 35]) (.q [.b 37 .eql 3 29 16,.m 36 37] (.cond (.t 36) (.q [.m 38 4,.m 39 4,.s 40 39,.b 41 .sub 3 40 1,.I 42 1 38 41,.l 43 42,.m 6 43] (.q [.m 44 4,.m 45 4,.s 46 45,.b 47 .sub 3 46 1,.z 48 (.slSl 1 (.t 44) none (some (.t 47))),.m 4 48] (.ops [.m 49 3,.m 50 5,.m 51 3,.m 52 6,.m 53 6,.m 54 5,.I 55 1 49 50,.S 1 55 53,.I 56 1 51 52,.S 1 56 54]))) .skip)))))))) (.ops [.m 19 5,.b 20 .add 3 19 1,.m 5 20])))))) (.q [.m 57 3,.m 2 57] .ret))))))
def r_ref19_Ends:Mt Tryz.prog 142=some ⟨58,zed.r,[.tmp 2]⟩:=Aa
def Zl(a b:UInt64):Mo 148 [.u a,.u b] (.tup [.u (te a b),.u (a*b)]) []:=by
 refine Ni.val rfl (Mq r_math_bits_Mul64 Aa U ?_);simp[z8c];refine⟨?_,zje a b⟩;rw[←qg a b];simp only[zki]
 ac_rfl
def mr(a b:UInt64):Mo 111 [.u a,.u b] (.tup [.u (te a b),.u (a*b)]) []:=by
 refine Ni.val rfl (Mq r_math_bits_Mul Aa U ?_);simp[zan];refine Mv (Zl a b) U ?_;simp
def zky(g:List Vr)(B D:List Ko)(a b c:Int)(T:g.length≤9223372036854775807):Mo 16 [.agg (Mg g B D),.i a,.i b,.i c] (.bool (g.all (λv=>decide (v.limbs≤b))&&(decide ((g.length:Int)≤a)&&(decide ((B.length:Int)≤c)&&decide ((D.length:Int)≤c))))) []:=by
 refine Ni.val rfl (Mq r_kit_LightKern Aa U ?_);simp[zak,Mg];refine M2 (λL R S N=>∃i:Nat,R=[]∧S=[.cells (Mg g B D) 0]∧N+i=g.length∧lk L 1=.i a∧lk L 2=.i b∧lk L 3=.i c∧lk L 4=.ptr 0 0∧lk L 9=.i i∧∀E,E<i→(gv g E).limbs≤b) (N:=g.length) ⟨0,Bv⟩ ?_;rintro N L R S ⟨i,rfl,rfl,V,j,F,C,p,z,M⟩ X G;by_cases H:i<g.length
 ·have O:=fg (P8 H);by_cases gb:b<(gv g i).limbs
  ·simp[j,F,p,z,H,Mg,Mi O,gb];intro h;have:=h _ (bx H);omega
  ·simp[j,F,p,z,H,Mg,Mi O,gb]
   repeat (refine⟨J,?_⟩)
   refine G _ _ _ ⟨N-1,J,i+1,rfl,rfl,J,As,Ah,Au,Ae,U,λE I=>?_⟩;by_cases e:E=i
   ·rw[e];omega
   ·exact M E J
 have A:g.all (λv=>decide (v.limbs≤b))=true:=by
  rw[I7];intro v Q;obtain⟨E,I,rfl⟩:=Jv.1 Q;have e:=P8 I;rw[Hj I]at e;rw[Option.some.inj e];exact Ke (M E J)
 rw[A];by_cases K:(g.length:Int)≤a
 ·by_cases P:(B.length:Int)≤c
  ·simp[j,C,p,z,H,Mg,K,P]
  ·simp[j,C,p,z,H,Mg,K,P]
 ·simp[j,C,p,z,H,Mg,K]
def Qe(x:Int)(n c:Nat):List LV:=(List.replicate c x++List.replicate (n-c) 0).map LV.i
def Y5(x:Int){n c:Nat}(h:c≤n):(Qe x n c).length=n:=by simp[Qe];omega
def Yw(x:Int){n c m:Nat}(hm:m≤c):M5 (Qe x n c) c (((Qe x n c).take c).take m)=Qe x n (c+m):=by
 have g:(Qe x n c).take c=(List.replicate c x).map LV.i:=by
  unfold Qe;rw[Iz,J1 U]
 rw[g,←Me,List.take_replicate,I2 hm];unfold M5;rw[g];have j:(Qe x n c).drop (c+((List.replicate m x).map LV.i).length)=(List.replicate (n-(c+m)) (0:Int)).map LV.i:=by
  unfold Qe;rw[Iz,List.length_map,List.length_replicate,←Kg,List.drop_left' U,←List.map_drop,List.drop_replicate]
  congr 2;omega
 rw[j];unfold Qe;rw[←Iz,←Iz,Kt]
def zv9(x:Int)(n:Nat):Qe x n n=(List.replicate n x).map LV.i:=by simp[Qe]
def X9(x:Int)(n:Nat):List.take (min 1 n) [LV.i x]++List.drop (min 1 n) (M7 [LV.i 0] n)=Qe x n (min 1 n):=by
 have e:∀n,M7 [LV.i 0] n=(List.replicate n (0:Int)).map LV.i:=by
  intro n
  induction n with
  |zero=>rfl
  |succ n g=>simp[M7,g,Jo]
 rw[e];cases n with
 |zero=>simp[Qe]
 |succ n=>simp[Qe,(J:min 1 (n+1)=1),Jo]
def zsi{x:Int}{n q st:Nat}(X:n≤1000000)(A:L[q]?=some (.dyn [.i x] 1 1 g st))
  (k:∀p K j,(∀r,r<L.length→p[r]?=L[r]?)→L.length≤K→p[K]?=some (.dyn ((List.replicate n x).map .i) n 1 0 j)→Q (.dy K 0) p):Oa (.fn 151) [.dy q g,.i n] L Q:=by
 refine Mq r_slices_Repeat_int_int Aa U ?_;have B:q<L.length:=(Hf.1 A).1;have M:¬(n:Int)<0:=J
 simp[z4r,A,M];have H:(iU 1).toNat=1:=lu (n:=1) J;have un:(iU (n:Int)).toNat=n:=lu J;have C:te (iU 1) (iU (n:Int))=0:=by
  apply J7.1;rw[te,H,un,Jn,(J:1*n/18446744073709551616=0)];rfl
 have D:iU 1*iU (n:Int)=iU (n:Int):=by
  apply J7.1;rw[UInt64.toNat_mul,H,un];omega
 have E:¬9223372036854775807<iU (n:Int):=by
  rw[Lp,un];show ¬9223372036854775807<n;omega
 refine Mv (mr (iU 1) (iU (n:Int))) U ?_;simp[C,D,E,un,↓Mj B,A];refine⟨J,J,?_⟩;refine M2 (λO V p P=>∃(c j:Nat),V=[]∧p=L++[.dyn (Qe x n c) n 1 0 j]∧P+c=n∧(c=0→n=0)∧lk O 7=.dy L.length 0∧lk O 8=.i c) (N:=n-min 1 n) ⟨min 1 n,1,rfl,by rw[←X9],J,J,U,U⟩ ?_;rintro P O V p ⟨c,j,rfl,rfl,Y,R,F,I⟩ Z G;by_cases gg:c<n
 ·simp[F,I,gg];have S:=Y5 x (n:=n) (c:=c) J;have z:=Yw x (n:=n) (c:=c) (m:=min c (n-c)) J
  repeat (refine⟨J,?_⟩)
  refine G _ _ _ ⟨P-min c (n-c),J,c+min c (n-c),j+1,rfl,?_,J,J,Ah,U⟩;rw[←z]
 ·have:c=n:=J
  subst this;simp[F,I];exact k _ _ j (λr T=>Mj T) (Hm _) (by rw[←zv9];simp)
def uc{o:Ko}:Pe o=1↔o.kind=15:=Eh
def zqt{o:Ko}:Pe o=2↔o.kind=16:=by
 unfold Pe;by_cases h:o.kind=15
 ·simp[h]
 ·by_cases g:o.kind=16<;>simp[h,g]
def U9(j:List Vr)(g p:List Ko):List Int:=if Mw j g p=true then Y9 Pe g else []
def zfx(p:List Vr)(g G:List Ko)(gO:p.length≤9223372036854775807):P6 124 [.agg (Mg p g G)] (.lst ((U9 p g G).map .i) (U9 p g G).length 1):=by
 have di:∀l:List Int,dats (l.map .i)=true:=λl=>Ze (λ_=>rfl) l
 have gP:dats (Mg p g G)=true:=Ao
 refine S0.mk (by simp[LV.dat,di]) (Mq r_lengths_Ends Aa U ?_);have gQ:(Mg p g G).length=3:=rfl;have gR:(Mg p g G).take 3=Mg p g G:=rfl;simp[zbt,gQ,gR];refine Mv (we p g G gO) (bors_self _ (by simp[dats,LV.dat,gP])) ?_;cases T:Mw p g G with
 |false=>simp[Nr,T,U9,Np,bor]
 |true =>
 have jF:g.length≤4096:=by
  unfold Mw at T;simp only[Hh,Ht]at T;exact T.2.1
 simp[Nr,T,Mg];refine zsi (x:=-1) (st:=0) J U λG' gK gS gA hp gB=>?_
 have jG:2≤gK:=by simpa using hp
 have C:G'[0]?=some (.cells (Mg p g G) 0):=by rw[gA 0 U];rfl
 clear gA hp;have M:gK<G'.length:=(Hf.1 gB).1;simp[C,Mg];obtain⟨hv,_,_,_,ht⟩:O6 p=true∧True∧True∧True∧∃m,Oz p (Rp p) 0 g=some (m,0):=by
  have h:=T;unfold Mw at h;simp only[Hh]at h;refine⟨h.1,trivial,trivial,trivial,?_⟩;have h2:=h.2.2.2.2;split at h2
  ·cases h2
  ·rename_i m dp z;simp only[Hh,Ht]at h2;rw[h2.2]at z;exact⟨m,z⟩
 obtain⟨m0,ht⟩:=ht;have gC:Ul Pe 0 g:=tn g (Rp p) m0 0 (by simpa using ht);have gT:U9 p g G=Y9 Pe g:=by simp[U9,T]
 rw[gT];refine M2 (λρ jN gL N=>∃(i:Nat) (st:List Nat) (j:List Int) (sv:LV) (s' b:Nat),jN=[]∧N+i=g.length∧lk ρ 3=.dy gK 0∧lk ρ 4=sv∧lk ρ 17=.lst (M6 g) g.length 7∧lk ρ 18=.i g.length∧lk ρ 19=.i i∧0<gL.length∧gK<b∧b≤gL.length ∧
   gL[0]?=some (.cells (Mg p g G) 0)∧gL[gK]?=some (.dyn (j.map .i) g.length 1 0 s')∧j.length=g.length∧Pz b gL sv 1 st.length (st.reverse.map λn:Nat=>.i n)∧st.length≤i∧(∀a∈st,a<i)∧Ul Pe st.length (g.drop i)∧T9 Pe i st j (g.drop i)=Y9 Pe g) (N:=g.length)
  ⟨0,[],List.replicate g.length (-1),.nilSl,gS,G'.length,rfl,J,U,U,U,U,U,J,J,Hm _,C,by simpa using gB,U,Pz.nil,U,U,by simpa using gC,by simp[Y9]⟩ ?_
 rintro N ρ jN gL ⟨i,st,j,sv,s',b,rfl,hN,K,V,A,B,D,hl,H,jH,C,O,I,E,gV,P,L,z⟩ Nx X;by_cases gM:i<g.length
 ·have q7:=Wt (Rl gM);have Y:=Wf gM;rw[iy gM]at L z;have hf:(go g i).f=[.i (go g i).kind,.i (go g i).d,.i (go g i).e,.i (go g i).a,.i (go g i).b,.i (go g i).c,.u (go g i).imm]:=rfl;generalize go g i=o at *;unfold Ul at L;unfold T9 at z;have M:gK<gL.length:=J
  by_cases F:o.kind=15
  ·rw[Hs (uc.2 F)]at L z;simp[K,V,A,B,D,gM,q7,Y,hf,F];refine Pz.push E.push_end J Ab J rfl λv' G2 gZ S gD=>?_
   simp[D];refine⟨J,X _ _ _ ⟨N-1,J,i+1,i::st,j,v',s',b,rfl,J,A8,U,Af,Ad,U,J,H,gD,?_,?_,I,?_,Ab,?_,by simpa using L,z⟩⟩
   ·rw[S 0 J,Mj hl];exact C
   ·rw[S gK H,Mj M];exact O
   ·rw[Mc,Iz];exact gZ
   ·intro a ha;rcases Hu.1 ha with rfl|ha
    ·omega
    ·have:=P a ha;omega
  by_cases Q:o.kind=16
  ·rw[Hq (λh=>F (uc.1 h)),Hs (zqt.2 Q)]at L z;cases st with
   |nil=>exact absurd L.1 U
   |cons a st =>
   have jI:=P a (Jf ..);simp only[Ie,Ma]at L;simp[K,V,A,B,D,gM,q7,Y,hf,F,Q];refine E.push_end.lenL ?_;have g8:((a::st).length:Int)-1=(st.length:Nat):=U
   simp[K,V,g8];refine⟨J,E.push_end.ix J (by rw[Ie];omega) λp1 jA R1 m1 jK jL gE g9 jB=>?_⟩;have jC:p1<(gL++[LObj.cells [LV.i 16,LV.i o.d,LV.i o.e,LV.i o.a,LV.i o.b,LV.i o.c,LV.u o.imm] 1]).length:=(Hf.1 gE).1;have Z:R1[st.length]?=some (.i a):=by
    rw[g9 _ U];simp
   have gF:∀x y,((gL++[x]).set gK y)[gK]?=some y:=λx y=>Hi Ab
   have gG:M5 (j.map LV.i) i [.i (a:Int)]=(j.map LV.i).set i (.i (a:Int)):=by
    rw[U7 _ _ _ J,It]
   have gH:M5 ((j.map LV.i).set i (.i (a:Int))) a [.i (i:Int)]=((j.map LV.i).set i (.i (a:Int))).set a (.i (i:Int)):=by
    rw[←It,U7 _ _ _ Ab,It]
   have jg:a<g.length:=J
   simp[gE,Mi Z,K,V];refine E.push_end.ix J (by rw[Ie];omega) λp2 jD R2 m2 jM gD jp jz jE=>?_
   have R:R2[st.length]?=some (.i a):=by
    rw[jz _ U];simp
   simp[jp,Mi R,K,V,↓Mj M,O,gM,jg,I,↓gF,gG,gH];refine⟨J,J,(E.push_end.set_lt H).cut (m:=st.length) U (λK' k'=>k') (λd K' k'=>k') λv' gI=>?_⟩;simp[D];refine⟨J,X _ _ _ ⟨N-1,J,i+1,st,(j.set i a).set a i,v',s'+1+1,b,rfl,J,A8,U,Af,Ad,U,U,H,Ab,?_,?_,Ax,?_,by simp at gV;omega,λa' gg=>by have:=P a' (In _ gg);omega,L.2,z⟩⟩
   ·rw[Hg J,Mj hl];exact C
   ·rw[Hi Ab,It,It]
   ·have e:((a::st).reverse.map λn:Nat=>LV.i n).take (st.length*1)=st.reverse.map λn:Nat=>LV.i n:=by
     rw[Mc,Iz,Kk,J1 U]
    rw[e]at gI;exact gI
  ·rw[Hq (λh=>F (uc.1 h)),Hq (λh=>Q (zqt.1 h))]at L z;simp[K,V,A,B,D,gM,q7,Y,hf,F,Q];refine⟨J,X _ _ _ ⟨N-1,J,i+1,st,j,sv,s',b,rfl,J,A8,by simp[V],Af,Ad,U,U,H,Ab,?_,?_,I,E.push_end,J,λa' gg=>by have:=P a' gg;omega,L.2,z⟩⟩
   ·rw[Mj hl];exact C
   ·rw[Mj M];exact O
 ·rw[Il J]at z;have z:j=Y9 Pe g:=by simpa [T9] using z
  simp[K,A,B,D,gM];refine⟨_,_,_,⟨rfl,rfl,rfl⟩,⟨s',?_⟩,di _⟩;rw[←z,I];exact O
def qz{a b:List Int}(h:a.length=b.length)(p:∀j,j<a.length→gd a j=gd b j):a=b:=by
 apply List.ext_getElem h;intro j g z;have:=p j g;simpa [gd,Hr,g,z] using this
def repI(n:Nat):M7 [.i 0] n=(List.replicate n (0:Int)).map LV.i:=by
 induction n with
 |zero=>rfl
 |succ n g=>simp[M7,g,Jo]
def zkc(C:List Vr)(p H:List Ko)(gE:C.length≤9223372036854775807):P6 142 [.agg (Mg C p H)] (.lst ((U9 C p H).map .i) (U9 C p H).length 1):=by
 have di:∀l:List Int,dats (l.map .i)=true:=λl=>Ze (λ_=>rfl) l
 have gO:dats (Mg C p H)=true:=Ao
 refine S0.mk (by simp[LV.dat,di]) (Mq r_ref19_Ends Aa U ?_);have gP:(Mg C p H).length=3:=rfl;have gQ:(Mg C p H).take 3=Mg C p H:=rfl;simp[zed,gP,gQ];refine Mv (z5w C p H gE) (bors_self _ (by simp[dats,LV.dat,gO])) ?_;cases T:Mw C p H with
 |false=>simp[Nr,T,U9,Np,bor]
 |true =>
 have jC:p.length≤4096:=by
  unfold Mw at T;simp only[Hh,Ht]at T;exact T.2.1
 obtain⟨hv,_,_,_,ht⟩:O6 C=true∧True∧True∧True∧∃m,Oz C (Rp C) 0 p=some (m,0):=by
  have h:=T;unfold Mw at h;simp only[Hh]at h;refine⟨h.1,trivial,trivial,trivial,?_⟩;have h2:=h.2.2.2.2;split at h2
  ·cases h2
  ·rename_i m dp E;simp only[Hh,Ht]at h2;rw[h2.2]at E;exact⟨m,E⟩
 obtain⟨m0,ht⟩:=ht;have gF:Ul Pe 0 p:=tn p (Rp C) m0 0 (by simpa using ht);have gR:U9 C p H=Y9 Pe p:=by simp[U9,T]
 rw[gR];have lo:p.length≤1048576:=J
 simp[Nr,T,Mg,lo];refine⟨J,?_⟩;refine M2 (λρ jI gL N=>∃(i:Nat) (st:List Nat) (z g:List Int) (sv:LV) (V:Nat),jI=[]∧N+i=p.length∧lk ρ 1=.ptr 0 0∧lk ρ 3=.dy 1 0∧lk ρ 4=sv∧lk ρ 5=.i i∧2≤gL.length ∧
   gL[0]?=some (.cells (Mg C p H) 0)∧gL[1]?=some (.dyn (g.map .i) p.length 1 0 V)∧z.length=p.length∧g.length=p.length∧(∀D,D<i→gd g D=gd z D)∧(∀D,i≤D→D<p.length→gd z D=-1)∧Pz 2 gL sv 1 st.length (st.reverse.map λn:Nat=>.i n)∧st.length≤i∧(∀a∈st,a<i)∧Ul Pe st.length (p.drop i)∧T9 Pe i st z (p.drop i)=Y9 Pe p) (N:=p.length)
  ⟨0,[],List.replicate p.length (-1),List.replicate p.length 0,.nilSl,0,rfl,J,U,U,U,U,U,Bv,by simp[repI],U,U,λD X=>J,λD _ X=>by simp[gd,Hr,X],Pz.nil,U,U,by simpa using gF,by simp[Y9]⟩ ?_
 rintro N ρ jI gL ⟨i,st,z,g,sv,V,rfl,hN,Y,R,Z,h5,gS,I,M,gg,A,gA,F,gT,gV,O,L,E⟩ Nx gB;have jD:0<gL.length:=J
 have gE:1<gL.length:=J
 by_cases gM:i<p.length
 ·have qk:(M6 p)[i*7]?=some (.i (go p i).kind):=by have:=Sy Ko.f_len (Rl gM) (j:=0) J;simpa [M6,Ko.f] using this
  rw[iy gM]at L E;generalize go p i=o at *;unfold Ul at L;unfold T9 at E;have K:M5 (g.map LV.i) i [.i (-1)]=(g.map LV.i).set i (.i (-1)):=by
   rw[U7 _ _ _ J,It]
  have s1:∀y,(gL.set 1 y)[1]?=some y:=λy=>Hi J
  have s0:∀y,(gL.set 1 y)[0]?=some (.cells (Mg C p H) 0):=λy=>by rw[Hg J];exact I
  have B:∀y,Pz 2 (gL.set 1 y) sv 1 st.length (st.reverse.map λn:Nat=>.i n):=λy=>gT.set_lt J
  have gG:∀D,D<i+1→gd (g.set i (-1)) D=gd z D:=λD X=>by
   rw[ar _ _ _ _ J];by_cases e:D=i
   ·rw[Hs e,e,F i (Hm _) gM]
   ·rw[Hq e];exact gA D J
  by_cases G:o.kind=15
  ·rw[Hs (uc.2 G)]at L E;simp[Y,R,Z,h5,gM,I,Mg,M,A,K,↓s0,Mi qk,G];refine⟨J,?_⟩;refine Pz.push (B _).push_end J Ab J rfl λv' G2 gZ S g8=>?_
   simp[h5];refine⟨J,gB _ _ _ ⟨N-1,J,i+1,i::st,z,g.set i (-1),v',V+1,rfl,J,Bh,C7,U,U,g8,?_,?_,gg,Af,gG,λD X=>F D J,?_,Ab,?_,by simpa using L,E⟩⟩
   ·rw[S 0 J,Mj Ab,s0]
   ·rw[S 1 J,Mj Ab,s1,It]
   ·rw[Mc,Iz];exact gZ
   ·intro a ha;rcases Hu.1 ha with rfl|ha
    ·omega
    ·have:=O a ha;omega
  by_cases P:o.kind=16
  ·rw[Hq (λh=>G (uc.1 h)),Hs (zqt.2 P)]at L E;cases st with
   |nil=>exact absurd L.1 U
   |cons a st =>
   have jE:=O a (Jf ..);simp only[Ie,Ma]at L;have gH:((a::st).length:Int)-1=(st.length:Nat):=U
   have gI:M5 ((g.map LV.i).set i (.i (-1))) i [.i (a:Int)]=(g.map LV.i).set i (.i (a:Int)):=by
    rw[←It,U7 _ _ _ Ab,It,It,Lh]
   have gK:M5 ((g.map LV.i).set i (.i (a:Int))) a [.i (i:Int)]=((g.map LV.i).set i (.i (a:Int))).set a (.i (i:Int)):=by
    rw[←It,U7 _ _ _ Ab,It]
   have g9:a<p.length:=J
   simp[Y,R,Z,h5,gM,I,Mg,M,A,K,↓s0,Mi qk,G,P];refine⟨J,?_⟩;refine (B _).lenL ?_;simp[Z,gH];refine⟨J,(B _).ix J (by rw[Ie];omega) λp1 jA R1 m1 jF jG jg jp jB=>?_⟩;have gC:R1[st.length]?=some (.i a):=by
    rw[jp _ U];simp
   simp[jg,Mi gC,Z];refine (B _).lenL ?_;simp[Z,gH];refine⟨J,(B _).cut (m:=st.length) U (λK' k'=>k') (λd K' k'=>⟨J,k'⟩) λv' Q=>?_⟩;simp[R,h5,↓s1,gM,g9,A,gI,gK];refine⟨J,J,J,gB _ _ _ ⟨N-1,J,i+1,st,(z.set i a).set a i,(g.set i a).set a i,v',V+1+1+1,rfl,J,Bh,C7,U,U,Ab,?_,?_,Cw,Af,λD X=>?_,λD jH jz=>?_,?_,by simp at gV;omega,λa' gD=>by have:=O a' (In _ gD);omega,L.2,E⟩⟩
   ·exact s0 _
   ·rw[s1,It,It]
   ·rw[ar (g.set i a) a D i Ab,ar g i D a J,ar (z.set i a) a D i Ab,ar z i D a J];split
    ·rfl
    ·split
     ·rfl
     ·exact gA D J
   ·rw[ar (z.set i a) a D i Ab,ar z i D a J,Hq J,Hq J];exact F D J jz
   ·have e:((a::st).reverse.map λn:Nat=>LV.i n).take (st.length*1)=st.reverse.map λn:Nat=>LV.i n:=by
     rw[Mc,Iz,Kk,J1 U]
    rw[e]at Q
    first|exact Q.set_lt (q:=1) J|exact (Q.set_lt (q:=1) J).set_lt (q:=1) J|(have h9:=Q.set_lt (q:=1) (ob:=.dyn (((g.map LV.i).set i (.i (a:Int))).set a (.i (i:Int))) p.length 1 0 (V+1+1+1)) J;rw[Lh]at h9;exact h9)
  ·rw[Hq (λh=>G (uc.1 h)),Hq (λh=>P (zqt.1 h))]at L E;simp[Y,R,Z,h5,gM,I,Mg,M,A,K,↓s0,Mi qk,G,P];refine⟨J,J,gB _ _ _ ⟨N-1,J,i+1,st,z,g.set i (-1),sv,V+1,rfl,J,Bh,C7,A6,U,by simpa using gS,s0 _,?_,gg,Af,gG,λD X=>F D J,B _,J,λa' gD=>by have:=O a' gD;omega,L.2,E⟩⟩;rw[s1,It]
 ·rw[Il J]at E;have E:z=Y9 Pe p:=by simpa [T9] using E
  have ho:g=z:=qz J (λD X=>gA D J);simp[Y,R,h5,gM,I,Mg];refine⟨_,_,_,⟨rfl,rfl,rfl⟩,⟨V,?_⟩,di _⟩;rw[←E,←ho,A];exact M
def z55:LC:=(.q [.K 4 0] (.seq (.q [.m 6 0,.s 7 6,.K 8 0] (.block 0 (.loop (.q [.c 9 .lss 3 8 7] (.seq (.cond (.t 9) .skip (.exit 0)) (.seq (.block 1 (.q [.m 10 8,.m 5 10] (.q [.m 11 1,.m 12 0,.m 13 5,.I 14 1 12 13,.l 15 14,.c 16 .eql 3 11 15] (.cond (.t 16) (.q [.m 17 5,.m 4 17] .ret) .skip)))) (.ops [.b 18 .add 3 8 1,.m 8 18]))))))) (.q [.K 4 (-1)] .ret)))
def r_slices_Index_int_int:Mt Tryz.prog 152=some ⟨19,z55.r,[.tmp 4]⟩:=Aa
def z3y:LC:=(.q [.F 4] (.q [.m 5 0,.m 6 1,.W 7 152 5 6,.b 8 .geq 3 7 0,.m 4 8] .ret))
def r_slices_Contains_int_int:Mt Tryz.prog 125=some ⟨9,z3y.r,[.tmp 4]⟩:=Aa
def zd7:LC:=(.q [.x 2 0,.F 4] (.q [.f 5 1 2,.l 6 5,.f 7 2 2,.l 8 7,.f 9 3 2,.l 10 9,.f 11 4 2,.l 12 11,.f 13 5 2,.l 14 13,.z 15 (.buildSl 1 5 [(.i 0),(.i 0),(.i 0),(.i 0),(.i 0)] [(0,1,.t 6),(1,1,.t 8),(2,1,.t 10),(3,1,.t 12),(4,1,.t 14)]),.m 16 1,.W 17 125 15 16,.m 4 17] .ret))
def r_buffers_has:Mt Tryz.prog 82=some ⟨18,zd7.r,[.tmp 4]⟩:=Aa
def zbn:LC:=(.q [.x 1 0,.F 2] (.q [.f 3 0 1,.l 4 3,.b 5 .lss 3 4 0,.m 2 5] .ret))
def r_buffers_none:Mt Tryz.prog 83=some ⟨6,zbn.r,[.tmp 2]⟩:=Aa
def z4b:LC:=(.q [.x 2 0,.x 3 1,.F 4] (.q [.f 5 0 2,.l 6 5,.f 7 1 3,.l 8 7,.c 9 .leq 3 6 8,.m 10 9,.yf 11 10 0 3,.yl 12 10 11,.yf 13 10 1 2,.yl 14 10 13,.y 15 10 (.bin .leq false 3 (.t 12) (.t 14)),.q 16 10 15,.m 4 16] .ret))
def r_buffers_pair_int_meets:Mt Tryz.prog 84=some ⟨17,z4b.r,[.tmp 4]⟩:=Aa
def z4t:LC:=(.q [.x 2 0,.x 3 1,.z 4 (.alloc [(.i 0),(.i 0)])] (.q [.f 5 0 2,.l 6 5,.f 7 0 3,.l 8 7,.z 9 (.maxi false (.t 6) (.t 8)),.f 10 1 2,.l 11 10,.f 12 1 3,.l 13 12,.z 14 (.maxi true (.t 11) (.t 13)),.z 15 (.build [(.i 0),(.i 0)] [(0,1,.t 9),(1,1,.t 14)]),.S 2 4 15] .ret))
def r_buffers_pair_int_wide:Mt Tryz.prog 85=some ⟨16,z4t.r,[.cellN 4 2]⟩:=Aa
def za8:LC:=(.q [.x 1 0,.e 2] (.q [.L 5 3 1,.w 6 124 5,.m 3 6] (.seq (.q [.K 4 0] (.block 0 (.loop (.seq (.q [.m 7 4,.f 8 1 1,.l 9 8,.s 10 9,.c 11 .lss 3 7 10] (.cond (.t 11) .skip (.exit 0))) (.seq (.block 1 (.q [.f 14 1 1,.l 15 14,.m 16 4,.I 17 7 15 16,.f 18 0 17,.l 19 18,.b 20 .eql 3 19 15] (.cond (.t 20) (.q [.m 21 2,.m 22 4,.m 23 3,.m 24 4,.I 25 1 23 24,.l 26 25,.z 27 (.build [(.i 0),(.i 0)] [(0,1,.t 22),(1,1,.t 26)]),.z 28 (.buildSl 2 1 [(.i 0),(.i 0)] [(0,2,.t 27)]),.a 29 2 21 28,.m 2 29] (.ops [.m 30 3,.m 31 4,.I 32 1 30 31,.l 33 32,.m 4 33])) .skip))) (.ops [.m 12 4,.b 13 .add 3 12 1,.m 4 13])))))) (.q [.m 34 2,.m 2 34] .ret))))
def r_buffers_outer:Mt Tryz.prog 81=some ⟨35,za8.r,[.tmp 2]⟩:=Aa
def zat:LC:=(.q [.x 1 0,.e 2] (.q [.L 12 3 1,.w 13 81 12,.m 3 13] (.q [.e 4] (.seq (.q [.f 14 0 1,.l 15 14,.s 16 15,.K 17 0] (.block 0 (.loop (.q [.c 18 .lss 3 17 16] (.seq (.cond (.t 18) .skip (.exit 0)) (.seq (.block 1 (.q [.m 19 17,.I 20 3 15 17,.L 21 3 20,.z 6 (.alloc [(.i 0),(.bool false),(.i 0)]),.m 5 19,.S 3 6 21] (.q [.z 22 (.build [(.i 0),(.i 0)] [(0,1,.k (-1)),(1,1,.k (-1))]),.z 7 (.alloc [(.i 0),(.i 0)]),.S 2 7 22] (.seq (.q [.f 23 1 1,.l 24 23,.s 25 24,.K 26 0] (.block 2 (.loop (.q [.c 27 .lss 3 26 25] (.seq (.cond (.t 27) .skip (.exit 2)) (.seq (.block 3 (.q [.m 28 26,.I 29 7 24 26,.L 30 7 29,.z 9 (.alloc [(.i 0),(.i 0),(.i 0),(.i 0),(.i 0),(.i 0),(.u 0)]),.m 8 28,.S 7 9 30] (.q [.L 31 7 9,.m 32 5,.W 33 82 31 32] (.cond (.t 33) (.seq (.q [.L 34 2 7,.w 35 83 34] (.cond (.t 35) (.ops [.m 36 8,.f 37 0 7,.S 1 37 36]) .skip)) (.ops [.m 38 8,.f 39 1 7,.S 1 39 38])) .skip)))) (.ops [.b 40 .add 3 26 1,.m 26 40]))))))) (.seq (.q [.m 41 3,.s 42 41,.K 43 0] (.block 4 (.loop (.q [.c 44 .lss 3 43 42] (.seq (.cond (.t 44) .skip (.exit 4)) (.seq (.block 5 (.q [.I 45 2 41 43,.L 46 2 45,.z 11 (.alloc [(.i 0),(.i 0)]),.S 2 11 46] (.q [.L 47 2 7,.w 48 83 47,.z 49 (.un .not (.t 48)),.m 50 49,.y 51 50 (.loadN 2 (.t 7)),.y 52 50 (.loadN 2 (.t 11)),.y 53 50 (.w 84 [.t 51,.t 52]),.q 54 50 53] (.cond (.t 54) (.ops [.L 55 2 7,.L 56 2 11,.W 57 85 55 56,.S 2 7 57]) .skip)))) (.ops [.b 58 .add 3 43 1,.m 43 58]))))))) (.seq (.q [.f 59 2 6,.l 60 59,.b 61 .gtr 3 60 0] (.cond (.t 61) (.ops [.f 62 1 1,.l 63 62,.s 64 63,.z 65 (.build [(.i 0),(.i 0)] [(0,1,.k 0),(1,1,.t 64)]),.S 2 7 65]) .skip)) (.ops [.m 66 4,.L 67 2 7,.z 68 (.buildSl 2 1 [(.i 0),(.i 0)] [(0,2,.t 67)]),.a 69 2 66 68,.m 4 69]))))))) (.ops [.b 70 .add 3 17 1,.m 17 70]))))))) (.q [.m 71 4,.m 2 71] .ret)))))
def r_buffers_spans:Mt Tryz.prog 45=some ⟨72,zat.r,[.tmp 2]⟩:=Aa
def zte(l:List Int)(s:Int)(L:l.length≤9223372036854775807):Mo 152 [.lst (l.map .i) l.length 1,.i s] (.i (Vm (λn=>decide (s=n)) l)) []:=by
 refine Ni.val rfl (Mq r_slices_Index_int_int Aa U ?_);simp[z55];refine M2 (λF K M N=>∃i:Nat,K=[]∧N+i=l.length∧lk F 0=.lst (l.map .i) l.length 1∧lk F 1=.i s∧lk F 7=.i l.length∧lk F 8=.i i∧∀G b,G<i→l[G]?=some b→decide (s=b)=false) (N:=l.length) ⟨0,U⟩ ?_;rintro N F K M ⟨i,rfl,O,j,p,z,A,D⟩ P E;by_cases I:l.length≤i
 ·have H:¬i<l.length:=J
  simp[j,p,z,A,H];rw[zk0 I D]
 ·have H:i<l.length:=J
  have B:=Hj H;by_cases C:s=l[i]
  ·simp[j,p,z,A,H];simp[Mi (Pf (f:=LV.i) B),←C];rw[zvb B Au D]
  ·simp[j,p,z,A,H];simp[Mi (Pf (f:=LV.i) B),A,C];refine⟨J,E _ _ _ ⟨N-1,J,i+1,rfl,J,As,Ae,Ak,U,λG b Q g=>?_⟩⟩;by_cases e:G=i
   ·subst e;rw[B]at g;cases g;simp[C]
   ·exact D G b J g
def zl1(l:List Int)(s:Int)(g:l.length≤9223372036854775807):Mo 125 [.lst (l.map .i) l.length 1,.i s] (.bool (l.any λn=>decide (s=n))) []:=by
 refine Ni.val rfl (Mq r_slices_Contains_int_int Aa U ?_);simp[z3y];refine Mv (zte l s g) (bors_self _ (by simp[dats,LV.dat];exact Ze (λ_=>rfl) l)) ?_;simp;exact znt _ l
def zqj{b:Nat}{v:LV}{esz n:Nat}{l:List LV}(h:Rw b L v esz n l):v=.nilSl∨∃g k,v=.dy g k:=by
 rcases h with ⟨rfl,_⟩|⟨g,k,st,_,rfl,_,_⟩
 ·exact .inl rfl
 ·exact .inr ⟨g,k,rfl⟩
def zhp(o:Ko)(v:Int):Mo 82 [.agg o.f,.i v] (.bool (Rc o v)) []:=by
 refine Ni.val rfl (Mq r_buffers_has Aa U ?_);simp[zd7,Ko.f];refine Mv (zl1 [o.d,o.e,o.a,o.b,o.c] v U) ⟨_,_,rfl,⟨_,_,_,_,rfl,rfl,rfl⟩,bors_self _ rfl⟩ ?_;simp[Rc,eq_comm]
def z4q(g:Sp):Mo 83 [.agg (Ng g)] (.bool (decide (g.1<0))) []:=by
 refine Ni.val rfl (Mq r_buffers_none Aa U ?_);simp[zbn,Ng]
def z6b(g q:Sp):Mo 84 [.agg (Ng g),.agg (Ng q)] (.bool (Wb g q)) []:=by
 refine Ni.val rfl (Mq r_buffers_pair_int_meets Aa U ?_);by_cases h:g.1≤q.2<;>simp[z4b,Ng,Wb,h]
def zfu(g q:Sp):Mo 85 [.agg (Ng g),.agg (Ng q)] (.agg (Ng (Wx g q))) []:=by
 refine Ni.val rfl (Mq r_buffers_pair_int_wide Aa U ?_);simp[z4t,Ng,Wx]
def zes{g p:List Ko}(M:V.length≤9223372036854775807)(hc:Mw V g p=true){f:Fr Ko}(hw:f.wf Pe)(O:g=f.flat) :
  P6 81 [.agg (Mg V g p)] (.lst (Mu (f.tops 0)) (f.tops 0).length 2):=by
 have P:dats (Mg V g p)=true:=Ao
 refine S0.mk E9 (Mq r_buffers_outer Aa U ?_);have Q:(Mg V g p).length=3:=rfl;have R:(Mg V g p).take 3=Mg V g p:=rfl;have S:U9 V g p=f.ends 0:=by rw[U9,Hs hc,O];exact zj0 hw
 have gB:g.length≤4096:=by
  have h:=hc;unfold Mw at h;simp only[Hh,Ht]at h;exact h.2.1
 have gC:(f.ends 0).length=g.length:=by rw[Fr.ends_len,O,Fr.flat_len]
 simp[za8,Q,R];refine R8 (zfx V g p M) (by simp[dats,LV.dat,P]) ?_;rw[S];simp;refine M2 (λρ gD gA N=>∃(i:Nat) (r:Fr Ko) (G:List Sp) (v:LV),gD=[]∧N=r.size∧lk ρ 1=.ptr 0 0∧lk ρ 2=v∧lk ρ 3=.lst ((f.ends 0).map .i) (f.ends 0).length 1∧lk ρ 4=.i i∧0<gA.length∧gA[0]?=some (.cells (Mg V g p) 0)∧i≤g.length∧Go.Sv.Left g (f.ends 0) (f.tops 0) i r G∧Rw 1 gA v 2 G.length (Mu G)∧G.length≤i) (N:=f.size)
  ⟨0,f,[],.nilSl,rfl,rfl,U,U,U,U,U,U,J,⟨Bc,U,hw,U⟩,Rw.nil,U⟩ ?_
 rintro N ρ gD gA ⟨i,r,G,v,rfl,rfl,B,H,C,I,hl,D,hi,K,L,hT⟩ Nx E;have z:=K.len hi;cases r with
 |nil =>
  have gg:¬i<g.length:=by simp[Fr.size]at z;omega
  have ht:f.tops 0=G:=by rw[K.tops];simp[Fr.tops]
  simp[B,H,I,D,Mg,gg];rw[ht];have hb:=L.bor (ul G);rcases zqj L with rfl|⟨gE,k,rfl⟩<;>exact hb
 |op o r =>
  obtain⟨F,T,A⟩:=K.op;have gg:i<g.length:=(Hf.1 F).1;have X:(M6 g)[i*7]?=some (.i o.kind):=Fe
  simp[B,H,C,I,D,Mg,gg,Mi X,T];refine⟨J,E _ _ _ ⟨r.size,by simp[Fr.size],i+1,r,G,v,rfl,rfl,Ad,At,Au,U,hl,D,J,A,L,J⟩⟩
 |loop o b e r =>
  obtain⟨F,T,he,A⟩:=K.loop;have gg:i<g.length:=(Hf.1 F).1;have X:(M6 g)[i*7]?=some (.i o.kind):=Fe
  have ge:i<(f.ends 0).length:=J
  have qe:=Pf (f:=LV.i) he;simp only[Fr.size]at z;simp[B,H,C,I,D,Mg,gg,Mi X,T,ge,Mi qe];refine Rw.push (m:=1) (x:=Ng ((i:Int),((i+b.size+1:Nat):Int))) L.push_end J U J rfl λv' G' Y Z hb=>?_
  simp[C,I,ge,Mi qe];refine⟨J,E _ _ _ ⟨r.size,by simp[Fr.size];omega,i+b.size+2,r,G++[((i:Int),((i+b.size+1:Nat):Int))],v',rfl,rfl,Ad,U,Au,Ab,J,?_,J,A,?_,Ab⟩⟩
  ·rw[Z 0 J,Mj hl];exact D
  ·rw[zoa,Hv,(E7:Mu [((i:Int),((i+b.size+1:Nat):Int))]=Ng ((i:Int),((i+b.size+1:Nat):Int)))];exact Y
def zkm{g:Type}:∀(f:Fr g) (i:Nat),(f.tops i).length≤f.size
 |.nil,_=>Hm _
 |.op _ r,i=>by have:=zkm r (i+1);simp[Fr.tops,Fr.size];omega
 |.loop _ b _ r,i=>by have:=zkm r (i+b.size+2);simp[Fr.tops,Fr.size];omega
def zid{g:List Ko}{j:List Sp}{i:Nat}(h:i<V.length):Qs g j i (V.drop i)=ap g j i (gv V i)::Qs g j (i+1) (V.drop (i+1)):=by
 rw[tl h];rfl
def z9g{g X:List Ko}(jB:V.length≤9223372036854775807)(hc:Mw V g X=true){f:Fr Ko}(hw:f.wf Pe)(hf:g=f.flat) :
  P6 45 [.agg (Mg V g X)] (.lst (Mu (Qs g (f.tops 0) 0 V)) (Qs g (f.tops 0) 0 V).length 2):=by
 have jC:dats (Mg V g X)=true:=Ao
 refine S0.mk E9 (Mq r_buffers_spans Aa U ?_);have jD:(Mg V g X).length=3:=rfl;have jE:(Mg V g X).take 3=Mg V g X:=rfl;have jZ:V.length≤256:=by
  have h:=hc;unfold Mw at h;simp only[Hh]at h;exact (uq h.1).2
 have j3:g.length≤4096:=by
  have h:=hc;unfold Mw at h;simp only[Hh,Ht]at h;exact h.2.1
 simp[zat,jD,jE];refine R8 (zes jB hc hw hf) (by simp[dats,LV.dat,jC]) ?_;simp[Mg];have j4:(f.tops 0).length≤4096:=by have:=zkm f 0;rw[←Fr.flat_len,←hf]at this;omega
 generalize f.tops 0=R at *;refine M2 (λS jA F N=>∃(i:Nat) (gK:List Sp) (v:LV),jA=[]∧N+i=V.length∧lk S 1=.ptr 0 0∧lk S 3=.lst (Mu R) R.length 2∧lk S 4=v∧lk S 15=.lst (Mz V) V.length 3∧lk S 16=.i V.length∧lk S 17=.i i∧0<F.length∧F[0]?=some (.cells (Mg V g X) 0)∧Rw 1 F v 2 gK.length (Mu gK)∧gK.length=i∧Qs g R 0 V=gK++Qs g R i (V.drop i)) (N:=V.length)
  ⟨0,[],.nilSl,rfl,J,U,U,U,U,U,U,U,Bv,Rw.nil,U,U⟩ ?_
 rintro N S jA F ⟨i,gK,v,rfl,hN,L,Y,Z,p,z,A,hl,hG,hR,jF,gB⟩ Nx jG;by_cases jY:i<V.length
 case neg =>
  rw[Il J]at gB;have gB:Qs g R 0 V=gK:=by simpa [Qs] using gB
  simp[Z,p,z,A,jY];rw[gB];have hb:=hR.bor (ul gK);rcases zqj hR with rfl|⟨jz,k,rfl⟩<;>exact hb
 have q3:=U3 (P8 jY);have jH:=S2 jY;rw[zid jY]at gB;have jI:(gv V i).f=[.i (gv V i).limbs,.bool (gv V i).sec,.i (gv V i).mode]:=rfl;have gC:ap g R i (gv V i)=if 0<(gv V i).mode then (0,(g.length:Int)) else Sg (Vd i 0 (-1,-1) g) R:=rfl
 generalize ap g R i (gv V i)=s0 at *;generalize gv V i=x at *;simp[L,p,z,A,jY,q3,jH,jI,↓Mj hl,hG,Mg];refine M2 (λS jA C N=>∃(T:Nat) (s:Sp) (st:Nat),jA=[]∧N+T=g.length∧lk S 1=.ptr 0 0∧lk S 3=.lst (Mu R) R.length 2∧lk S 4=v∧lk S 5=.i i∧lk S 6=.ptr F.length 0∧lk S 7=.ptr (F.length+1) 0∧lk S 15=.lst (Mz V) V.length 3∧lk S 16=.i V.length∧lk S 17=.i i∧lk S 24=.lst (M6 g) g.length 7∧lk S 25=.i g.length∧lk S 26=.i T ∧
   F.length+1<C.length∧C[0]?=some (.cells (Mg V g X) 0)∧C[F.length]?=some (.cells [.i x.limbs,.bool x.sec,.i x.mode] 1)∧C[F.length+1]?=some (.cells (Ng s) st)∧Rw 1 C v 2 gK.length (Mu gK)∧Vd i T s (g.drop T)=Vd i 0 (-1,-1) g) (N:=g.length)
  ⟨0,(-1,-1),1,rfl,J,A1,Bh,A6,U,U,U,Ae,Ak,Af,A1,U,U,U,by rw[Mj hl];exact hG,U,by simp[Ng],hR.push_end,U⟩ ?_
 clear L Y Z p z A;rintro N1 S jA C ⟨T,s,st,rfl,jK,L,Y,Z,h5,h6,M,p,z,A,gD,gE,gF,B,G,hx,O,I,gL⟩ gV P;have Q:0<C.length:=J
 have gg:F.length<C.length:=J
 by_cases g2:T<g.length
 ·have q7:=Wt (Rl g2);have jL:=Wf g2;rw[iy g2]at gL;have gZ:(go g T).f=[.i (go g T).kind,.i (go g T).d,.i (go g T).e,.i (go g T).a,.i (go g T).b,.i (go g T).c,.u (go g T).imm]:=rfl;generalize go g T=o at *;simp[h5,gD,gE,gF,g2,q7,jL,gZ];rw[←gZ];refine Mv (zhp o i) (bors_self _ (by simp[dats,LV.dat,gZ])) ?_;have next:∀j H (s2:Sp) gA,s2=(if Rc o i=true then (if s.1<0 then (T:Int) else s.1,(T:Int)) else s)→lk j 1=.ptr 0 0→lk j 3=.lst (Mu R) R.length 2→lk j 4=v→lk j 5=.i i→lk j 6=.ptr F.length 0→lk j 7=.ptr (F.length+1) 0→lk j 15=.lst (Mz V) V.length 3→lk j 16=.i V.length→lk j 17=.i i→lk j 24=.lst (M6 g) g.length 7→lk j 25=.i g.length→lk j 26=.i ((T:Int)+1) →
    F.length+1<H.length→H[0]?=some (.cells (Mg V g X) 0)→H[F.length]?=some (.cells [.i x.limbs,.bool x.sec,.i x.mode] 1)→H[F.length+1]?=some (.cells (Ng s2) gA)→Rw 1 H v 2 gK.length (Mu gK)→gV j [] H:=by
   rintro j H s2 gA rfl a1 a3 a4 a5 a6 a7 gM gO gP jM jN jO b1 b2 b3 b4 b5;exact P _ _ _ ⟨N1-1,J,T+1,_,gA,rfl,J,a1,a3,a4,a5,a6,a7,gM,gO,gP,jM,jN,by rw[jO];simp,b1,b2,b3,b4,b5,gL⟩
  cases hh:Rc o i with
  |false =>
   simp[gF];refine⟨J,next _ _ s st (by simp[hh]) A1 Bh A6 B3 Bk A0 Ae Ak Af (by simp[gD]) Er U Ab E4 Ej Ci I.push_end⟩
  |true =>
   have D:Ng s=[.i s.1,.i s.2]:=rfl;simp[M,↓Mj B,O,D];rw[←D];refine Mv (z4q s) (bors_self _ rfl) ?_;have gQ:∀y K,((C++[y]).set (F.length+1) K)[F.length+1]?=some K:=λy K=>Hi Ab
   have j5:∀y K w,(((C++[y]).set (F.length+1) K).set (F.length+1) w)[F.length+1]?=some w:=λy K w=>Hi Ab
   have k0:∀y K,((C++[y]).set (F.length+1) K)[0]?=some (.cells (Mg V g X) 0):=λy K=>by rw[Hg J,Mj Q];exact G
   have k1:∀y K,((C++[y]).set (F.length+1) K)[F.length]?=some (.cells [.i x.limbs,.bool x.sec,.i x.mode] 1):=λy K=>by rw[Hg J,Mj gg];exact hx
   have k2:∀y K,Rw 1 ((C++[y]).set (F.length+1) K) v 2 gK.length (Mu gK):=λy K=>I.push_end.set_cells (q:=F.length+1) (st:=st) (c:=Ng s) Ci
   by_cases n0:s.1<0
   ·simp[M,gF,↓Mj B,O,D,n0,↓gQ];refine⟨J,next _ _ ((T:Int),(T:Int)) (st+1+1) (by simp[hh,n0]) A1 Bh A6 B3 Bk A0 Ae Ak Af (by simp[gD]) Er U Ab (k0 _ _) (k1 _ _) (gQ _ _) (k2 _ _)⟩
   ·simp[M,gF,↓Mj B,O,D,n0];refine⟨J,next _ _ (s.1,(T:Int)) (st+1) (by simp[hh,n0]) A1 Bh A6 B3 Bk A0 Ae Ak Af (by simp[gD]) Er U Ab (k0 _ _) (k1 _ _) (gQ _ _) (k2 _ _)⟩
 have jP:s=Vd i 0 (-1,-1) g:=by
  rw[Il J]at gL;simpa [Vd] using gL
 rw[←jP]at gC;simp[Y,gD,gE,gF,g2];clear P gL;refine M2 (λS jA C N=>∃(T:Nat) (E:Sp) (st:Nat),jA=[]∧N+T=R.length∧lk S 1=.ptr 0 0∧lk S 3=.lst (Mu R) R.length 2∧lk S 4=v∧lk S 6=.ptr F.length 0∧lk S 7=.ptr (F.length+1) 0∧lk S 15=.lst (Mz V) V.length 3∧lk S 16=.i V.length∧lk S 17=.i i∧lk S 41=.lst (Mu R) R.length 2∧lk S 42=.i R.length∧lk S 43=.i T ∧
   F.length+1<C.length∧C[0]?=some (.cells (Mg V g X) 0)∧C[F.length]?=some (.cells [.i x.limbs,.bool x.sec,.i x.mode] 1)∧C[F.length+1]?=some (.cells (Ng E) st)∧Rw 1 C v 2 gK.length (Mu gK)∧Sg E (R.drop T)=Sg s R) (N:=R.length)
  ⟨0,s,st,rfl,J,A1,Bh,A6,Bk,A0,Ae,Ak,Af,U,U,U,B,G,hx,O,I,U⟩ ?_
 clear L Y Z h5 h6 M p z A gD gE gF B G hx O I Q gg;rintro N1 S jA C ⟨T,E,st,rfl,jK,L,Y,Z,h6,M,p,z,A,gG,gH,gI,B,G,hx,O,I,gR⟩ gV P;have Q:0<C.length:=J
 have gg:F.length<C.length:=J
 have D:Ng E=[.i E.1,.i E.2]:=rfl;have gQ:∀y K,((C++[y]).set (F.length+1) K)[F.length+1]?=some K:=λy K=>Hi Ab
 have k0:∀y K,((C++[y]).set (F.length+1) K)[0]?=some (.cells (Mg V g X) 0):=λy K=>by rw[Hg J,Mj Q];exact G
 have k1:∀y K,((C++[y]).set (F.length+1) K)[F.length]?=some (.cells [.i x.limbs,.bool x.sec,.i x.mode] 1):=λy K=>by rw[Hg J,Mj gg];exact hx
 have k2:∀y K,Rw 1 ((C++[y]).set (F.length+1) K) v 2 gK.length (Mu gK):=λy K=>I.push_end.set_cells (q:=F.length+1) (st:=st) (c:=Ng E) Ci
 by_cases g3:T<R.length
 ·have q2:=zur (Uh g3);have jQ:=zb g3;rw[eh g3]at gR;have g8:Ng (gs R T)=[.i (gs R T).1,.i (gs R T).2]:=rfl;generalize gs R T=jz at *;have next:∀j H (s2:Sp) gA,s2=Tk E jz→lk j 1=.ptr 0 0→lk j 3=.lst (Mu R) R.length 2→lk j 4=v→lk j 6=.ptr F.length 0→lk j 7=.ptr (F.length+1) 0→lk j 15=.lst (Mz V) V.length 3→lk j 16=.i V.length→lk j 17=.i i→lk j 41=.lst (Mu R) R.length 2→lk j 42=.i R.length→lk j 43=.i ((T:Int)+1) →
    F.length+1<H.length→H[0]?=some (.cells (Mg V g X) 0)→H[F.length]?=some (.cells [.i x.limbs,.bool x.sec,.i x.mode] 1)→H[F.length+1]?=some (.cells (Ng s2) gA)→Rw 1 H v 2 gK.length (Mu gK)→gV j [] H:=by
   rintro j H s2 gA rfl a1 a3 a4 a6 a7 gM gO gP jR jS jT b1 b2 b3 b4 b5;exact P _ _ _ ⟨N1-1,J,T+1,_,gA,rfl,J,a1,a3,a4,a6,a7,gM,gO,gP,jR,jS,by rw[jT];simp,b1,b2,b3,b4,b5,gR⟩
  simp[M,gG,gH,gI,g3,q2,jQ,↓Mj B,O,D];rw[←D];refine Mv (z4q E) (bors_self _ rfl) ?_;have jg:Ng (Wx E jz)=[.i (Wx E jz).1,.i (Wx E jz).2]:=rfl;by_cases n0:E.1<0
  ·simp[n0,gI];refine⟨J,next _ _ E st (by simp[Tk,n0]) A1 Bh A6 Bk A0 Ae Ak Af (by simp[gG]) Ei U Ab E4 Ej Ci I.push_end⟩
  ·simp[n0,M,↓Mj B,O,D];rw[←D,←g8];refine Mv (z6b E jz) (bors_self _ rfl) ?_;cases hm:Wb E jz with
   |false =>
    simp[gI];refine⟨J,next _ _ E st (by simp[Tk,n0,hm]) A1 Bh A6 Bk A0 Ae Ak Af (by simp[gG]) Ei U Ab E4 Ej Ci I.push_end⟩
   |true =>
    simp[M,↓Mj B,O,D,g8];rw[←D,←g8];refine Mv (zfu E jz) (bors_self _ rfl) ?_;simp[M,gI,↓Mj B,O,D,jg];rw[←jg];refine⟨J,next _ _ (Wx E jz) (st+1) (by simp[Tk,n0,hm]) A1 Bh A6 Bk A0 Ae Ak Af (by simp[gG]) Ei U Ab (k0 _ _) (k1 _ _) (gQ _ _) (k2 _ _)⟩
 have jV:E=Sg s R:=by
  rw[Il J]at gR;exact gR
 rw[←jV]at gC;clear P gR;have jp:∀j H v2,lk j 1=.ptr 0 0→lk j 3=.lst (Mu R) R.length 2→lk j 4=v2→lk j 15=.lst (Mz V) V.length 3→lk j 16=.i V.length→lk j 17=.i ((i:Int)+1)→0<H.length→H[0]?=some (.cells (Mg V g X) 0)→Rw 1 H v2 2 (gK.length+1) (Mu gK++Ng s0)→Nx j [] H:=by
  intro j H v2 a1 a3 a4 gM gO gP b1 b2 b3;refine jG _ _ _ ⟨N-1,J,i+1,gK++[s0],v2,rfl,J,a1,a3,a4,gM,gO,by rw[gP];simp,b1,b2,?_,by simp[jF],Dp⟩;rw[zoa,Hv,(E7:Mu [s0]=Ng s0)];exact b3
 by_cases m0:0<x.mode
 ·rw[Hs m0]at gC;have jX:∀K,(C.set (F.length+1) K)[F.length+1]?=some K:=λK=>Hi J
  have k3:∀K,(C.set (F.length+1) K)[0]?=some (.cells (Mg V g X) 0):=λK=>by rw[Hg J];exact G
  have k4:∀K,Rw 1 (C.set (F.length+1) K) v 2 gK.length (Mu gK):=λK=>I.set_cells O
  have gS:Ng s0=[.i 0,.i g.length]:=by rw[gC];rfl
  simp[L,Z,h6,M,gG,gH,gI,g3,hx,m0,G,Mg,O,D,↓jX];refine Rw.push (m:=1) (x:=[.i 0,.i g.length]) (k4 _).push_end J U J rfl λv' H gT g9 hb=>?_
  rw[←gS]at gT;simp[A];refine⟨J,jp _ _ v' A1 Bh U Ae Ak U J ?_ gT⟩;rw[g9 0 J,Mj Ab,k3]
 ·rw[Hq m0]at gC;have gS:Ng s0=[.i E.1,.i E.2]:=by rw[gC];rfl
  simp[L,Z,h6,M,gG,gH,gI,g3,hx,m0,O,D];refine Rw.push (m:=1) (x:=[.i E.1,.i E.2]) I.push_end J U J rfl λv' H gT g9 hb=>?_
  rw[←gS]at gT;simp[A];refine⟨J,jp _ _ v' A1 Bh U Ae Ak U J ?_ gT⟩;rw[g9 0 J,Mj Q];exact G
def zbi:LC:=(.q [.x 1 0,.F 2] (.q [.f 3 2 1,.l 4 3,.b 5 .eql 3 4 1,.m 6 5,.nf 7 6 2 1,.nl 8 6 7,.nb 9 6 .eql 3 8 2,.p 10 6 9,.m 2 10] .ret))
def r_expand_given:Mt Tryz.prog 106=some ⟨11,zbi.r,[.tmp 2]⟩:=Aa
def zai:LC:=(.q [.z 4 (.alloc [.nilSl,.nilSl,.nilSl])] (.q [.m 8 0,.z 9 (.build [.nilSl,.nilSl,.nilSl] [(0,1,.t 8)]),.z 5 (.alloc [.nilSl,.nilSl,.nilSl]),.S 3 5 9] (.seq (.q [.m 10 0,.s 11 10,.K 12 0] (.block 0 (.loop (.q [.c 13 .lss 3 12 11] (.seq (.cond (.t 13) .skip (.exit 0)) (.seq (.block 1 (.q [.m 14 12,.I 15 3 10 12,.L 16 3 15,.z 7 (.alloc [(.i 0),(.bool false),(.i 0)]),.m 6 14,.S 3 7 16] (.q [.L 17 3 7,.w 18 106 17,.z 19 (.un .not (.t 18))] (.cond (.t 19) (.ops [.f 20 1 5,.l 21 20,.m 22 6,.z 23 (.build [(.i 0),(.i 0),(.i 0),(.i 0),(.i 0),(.i 0),(.u 0)] [(0,1,.k 1),(1,1,.t 22),(2,1,.k (-1)),(3,1,.k (-1)),(4,1,.k (-1)),(5,1,.k (-1))]),.z 24 (.buildSl 7 1 [(.i 0),(.i 0),(.i 0),(.i 0),(.i 0),(.i 0),(.u 0)] [(0,7,.t 23)]),.a 25 7 21 24,.f 26 1 5,.S 1 26 25]) .skip)))) (.ops [.b 27 .add 3 12 1,.m 12 27]))))))) (.q [.f 28 1 5,.l 29 28,.m 30 1,.a 31 7 29 30,.f 32 1 5,.S 1 32 31] (.q [.L 33 3 5,.S 3 4 33] .ret)))))
def r_expand_kernel:Mt Tryz.prog 103=some ⟨34,zai.r,[.cellN 4 3]⟩:=Aa
def z76:LC:=(.q [.x 3 1,.F 4] (.seq (.q [.f 5 0 3,.l 6 5,.b 7 .eql 3 6 15,.m 8 7,.nf 9 8 0 3,.nl 10 8 9,.nb 11 8 .eql 3 10 16,.p 12 8 11] (.cond (.t 12) (.q [.F 4] .ret) .skip)) (.q [.m 13 0,.L 14 7 3,.z 15 (.buildSl 7 1 [(.i 0),(.i 0),(.i 0),(.i 0),(.i 0),(.i 0),(.u 0)] [(0,7,.t 14)]),.W 16 103 13 15,.w 17 43 16,.b 18 .eql 35 17 0,.m 4 18] .ret)))
def r_expand_May:Mt Tryz.prog 134=some ⟨19,z76.r,[.tmp 4]⟩:=Aa
def z9t:LC:=(.q [.F 2] (.q [.m 3 0,.b 4 .geq 3 3 1,.m 5 4,.my 6 5 0,.y 7 5 (.bin .leq true 3 (.t 6) (.k 11)),.q 8 5 7,.m 9 8,.mn 10 9 0,.nb 11 9 .eql 3 10 14,.p 12 9 11,.m 2 12] .ret))
def r_expand_Has:Mt Tryz.prog 133=some ⟨13,z9t.r,[.tmp 2]⟩:=Aa
def z6u:LC:=(.q [.K 2 0] (.q [.m 4 0,.m 5 0,.b 6 .quo 3 5 2,.c 7 .sub 3 4 6,.m 3 7] (.q [.m 8 0,.z 9 (.bin .mul true 3 (.k 2) (.t 8)),.m 10 3,.b 11 .add 3 10 1,.z 12 (.bin .mul true 3 (.k 4) (.t 11)),.c 13 .add 3 9 12,.m 2 13] .ret)))
def r_expand_halvesWork:Mt Tryz.prog 135=some ⟨14,z6u.r,[.tmp 2]⟩:=Aa
def zd0:LC:=(.q [.x 3 1,.K 4 0] (.seq (.q [.f 5 0 3,.l 6 5,.w 7 133 6,.z 8 (.un .not (.t 7)),.m 9 8,.mn 10 9 0,.n 11 9 (.loadN 7 (.t 3)),.n 12 9 (.w 134 [.t 10,.t 11]),.n 13 9 (.un .not (.t 12)),.p 14 9 13] (.cond (.t 14) (.q [.K 4 0] .ret) .skip)) (.seq (.q [.f 15 0 3,.l 16 15] (.block 0 (.q [.b 18 .eql 3 16 5,.m 17 18] (.cond (.t 17) (.seq (.draw [(.m 19 0,[]),(.f 20 3 3,[]),(.l 21 20,[]),(.I 22 3 19 21,[]),(.f 23 0 22,[]),(.l 24 23,[]),(.m 25 0,[]),(.f 26 4 3,[]),(.l 27 26,[]),(.I 28 3 25 27,[]),(.f 29 0 28,[]),(.l 30 29,[]),(.c 31 .add 3 24 30,[]),(.m 4 31,[])]) .ret) (.q [.b 33 .eql 3 16 6,.m 32 33] (.cond (.t 32) (.q [.m 34 0,.f 35 3 3,.l 36 35,.I 37 3 34 36,.f 38 0 37,.l 39 38,.w 40 135 39,.m 4 40] .ret) (.seq (.q [.b 42 .eql 3 16 9,.m 41 42] (.cond (.t 41) .skip (.q [.b 43 .eql 3 16 10,.m 41 43] (.cond (.t 41) .skip (.ops [.b 44 .eql 3 16 11,.m 41 44]))))) (.cond (.t 41) (.q [.m 45 0,.f 46 5 3,.l 47 46,.I 48 3 45 47,.f 49 0 48,.l 50 49,.b 51 .add 3 50 1,.z 52 (.bin .mul true 3 (.k 2) (.t 51)),.m 4 52] .ret) .skip)))))))) (.q [.K 4 1] .ret))))
def r_expand_Work:Mt Tryz.prog 96=some ⟨53,zd0.r,[.tmp 4]⟩:=Aa
def z80:LC:=(.q [.K 2 0] (.seq (.q [.m 3 0,.b 4 .lss 3 3 1] (.cond (.t 4) (.q [.K 2 0] .ret) .skip)) (.q [.m 5 0,.b 6 .add 3 5 2,.m 2 6] .ret)))
def r_montgomery_Need:Mt Tryz.prog 136=some ⟨7,z80.r,[.tmp 2]⟩:=Aa
def z5d:LC:=(.q [.x 3 1,.K 4 0] (.seq (.q [.f 5 0 3,.l 6 5,.b 7 .neq 3 6 12,.m 8 7,.mn 9 8 0,.n 10 8 (.loadN 7 (.t 3)),.n 11 8 (.w 134 [.t 9,.t 10]),.n 12 8 (.un .not (.t 11)),.p 13 8 12] (.cond (.t 13) (.q [.K 4 0] .ret) .skip)) (.q [.m 14 0,.f 15 5 3,.l 16 15,.I 17 3 14 16,.f 18 0 17,.l 19 18,.w 20 136 19,.m 4 20] .ret)))
def r_montgomery_Work:Mt Tryz.prog 97=some ⟨21,z5d.r,[.tmp 4]⟩:=Aa
def z9z:LC:=(.q [.x 3 1,.K 4 0] (.seq (.q [.f 6 0 3,.l 7 6,.b 8 .neq 3 7 13,.m 9 8,.mn 10 9 0,.n 11 9 (.loadN 7 (.t 3)),.n 12 9 (.w 134 [.t 10,.t 11]),.n 13 9 (.un .not (.t 12)),.p 14 9 13] (.cond (.t 14) (.q [.K 4 0] .ret) .skip)) (.q [.m 15 0,.f 16 5 3,.l 17 16,.I 18 3 15 17,.f 19 0 18,.l 20 19,.m 5 20] (.seq (.draw [(.f 21 6 3,[]),(.l 22 21,[]),(.z 23 (.bin .shl true 3 (.k 1) (.t 22)),[]),(.z 24 (.bin .add true 3 (.k 3) (.t 23)),[]),(.m 25 5,[]),(.c 26 .mul 3 24 25,[]),(.m 27 0,[]),(.f 28 4 3,[]),(.l 29 28,[]),(.I 30 3 27 29,[]),(.f 31 0 30,[]),(.l 32 31,[]),(.c 33 .add 3 26 32,[]),(.b 34 .add 3 33 1,[]),(.m 35 5,[]),(.w 36 136 35,[(.l 32 31,false),(.l 29 28,false),(.l 22 21,false)]),(.c 37 .add 3 34 36,[]),(.m 4 37,[])]) .ret))))
def r_power_Work:Mt Tryz.prog 98=some ⟨38,z9z.r,[.tmp 4]⟩:=Aa
def zbk:LC:=(.q [.x 3 1,.K 4 0] (.seq (.draw [(.m 6 0,[]),(.L 7 7 3,[]),(.m 9 0,[]),(.L 10 7 3,[]),(.m 12 0,[]),(.L 13 7 3,[]),(.W 8 96 6 7,[(.L 13 7 3,false),(.L 10 7 3,false)]),(.W 11 97 9 10,[(.L 13 7 3,false)]),(.W 14 98 12 13,[]),(.z 15 (.max3 true (.t 8) (.t 11) (.t 14)),[]),(.m 5 15,[])]) (.seq (.q [.m 16 5,.b 17 .gtr 3 16 32768] (.cond (.t 17) (.q [.K 4 0] .ret) .skip)) (.q [.m 18 5,.m 4 18] .ret))))
def r_buffers_Work:Mt Tryz.prog 52=some ⟨19,zbk.r,[.tmp 4]⟩:=Aa
def z9q(v:Vr):Mo 106 [.agg v.f] (.bool (Oo v)) []:=by
 refine Ni.val rfl (Mq r_expand_given Aa U ?_);by_cases g:v.mode=1<;>simp[zbi,Vr.f,Oo,g]
def zog{i:Nat}(h:i<V.length):S6 i (V.drop i)=(if Oo (gv V i)=true then [] else [U5 1 i])++S6 (i+1) (V.drop (i+1)):=by
 rw[tl h,S6];split<;>rfl
def zcu(l:List LV):(LV.agg l).cells=some l:=rfl
def zvz(a b:List Ko):M6 (a++b)=M6 a++M6 b:=by simp[M6]
def z9b(g:List Vr)(p:List Ko)(hl:g.length≤1000000)(hn:p.length≤1000000):P6 103 [.lst (Mz g) g.length 3,.lst (M6 p) p.length 7] (.agg (Mg g (S6 0 g++p) [])):=by
 refine S0.mk (by simp[Mg,LV.dat,dats,On,Sk]) (Mq r_expand_kernel Aa U ?_);simp[zai];refine M2 (λS gC gg N=>∃(i:Nat) (R:List Ko) (v:LV) (st:Nat),gC=[]∧N+i=g.length∧lk S 1=.lst (M6 p) p.length 7∧lk S 4=.ptr 0 0∧lk S 5=.ptr 1 0∧lk S 10=.lst (Mz g) g.length 3∧lk S 11=.i g.length∧lk S 12=.i i ∧
   1<gg.length∧gg[0]?=some (.cells [.nilSl,.nilSl,.nilSl] 0)∧gg[1]?=some (.cells [.lst (Mz g) g.length 3,v,.nilSl] st)∧Rw 2 gg v 7 R.length (M6 R)∧R.length≤i∧S6 0 g=R++S6 i (g.drop i)) (N:=g.length)
  ⟨0,[],.nilSl,1,rfl,J,U,U,U,U,U,U,U,U,U,Rw.nil,U,U⟩ ?_
 rintro N S gC gg ⟨i,R,v,st,rfl,hN,T,V,L,E,F,G,I,K,z,X,gB,j⟩ Nx M;have O:0<gg.length:=J
 by_cases gA:i<g.length
 ·have hg:=P8 gA;have q3:=U3 hg;have Y:=S2 gA;have hf:(gv g i).f=[.i (gv g i).limbs,.bool (gv g i).sec,.i (gv g i).mode]:=rfl;have P:=zog gA;rw[P]at j;simp[E,F,G,gA,q3,Y,hf];rw[←hf];refine Mv (z9q (gv g i)) (bors_self _ rfl) ?_;cases Q:Oo (gv g i) with
  |true =>
   rw[Q]at j;simp[G];refine⟨J,M _ _ _ ⟨N-1,J,i+1,R,v,st,rfl,J,Bn,by simp[V],A1,Av,Ah,U,Ab,by rw[Mj O];exact K,by rw[Mj I];exact z,X.push_end,J,Bd⟩⟩
  |false =>
   rw[Q]at j;simp[L,↓Mj I,z];refine Rw.push (m:=1) (x:=(U5 1 i).f) X.push_end J U J rfl λv' H A B hb=>?_
   have C:H[1]?=some (.cells [.lst (Mz g) g.length 3,v,.nilSl] st):=by rw[B 1 J,Mj I];exact z
   have D:H[0]?=some (.cells [.nilSl,.nilSl,.nilSl] 0):=by rw[B 0 J,Mj O];exact K
   have Z:=A.cells;simp[-LV.cells,L,G,C,Z];refine⟨J,M _ _ _ ⟨N-1,J,i+1,R++[U5 1 i],v',st+1,rfl,J,Bn,by simp[V],A1,Av,Ah,U,Ab,?_,?_,?_,Ab,Bd⟩⟩
   ·rw[Hg J];exact D
   ·rw[Hi J]
   ·rw[zvz,Hv,show M6 [U5 1 (i:Int)]=(U5 1 i).f by simp[M6]];exact A.set_lt J
 ·rw[Il J]at j;have j:S6 0 g=R:=by simpa [S6] using j
  simp[T,L,E,F,G,gA,z];refine⟨J,?_⟩;refine Rw.push (m:=p.length) X J J J (ib p) λv' H A B hb=>?_
  have C:H[1]?=some (.cells [.lst (Mz g) g.length 3,v,.nilSl] st):=by rw[B 1 J];exact z
  have D:H[0]?=some (.cells [.nilSl,.nilSl,.nilSl] 0):=by rw[B 0 J];exact K
  have Z:=A.cells;have s1:∀x,(H.set 1 x)[1]?=some x:=λx=>Hi J
  have s0:∀x,(H.set 1 x)[0]?=some (.cells [.nilSl,.nilSl,.nilSl] 0):=λx=>by rw[Hg J];exact D
  have s2:∀x y,((H.set 1 x).set 0 y)[0]?=some y:=λx y=>Hi (by rw[Js];omega)
  simp[-LV.cells,V,L,↓C,↓s1,↓s0,↓s2,Z,zcu];refine⟨_,_,rfl,⟨rfl,On g⟩,_,_,rfl,?_,_,rfl,.inr ⟨7,rfl⟩⟩;rw[j,zvz,Hv];exact ((A.set_lt J).set_lt J).bor (dats_app (Sk _) (Sk _))
def dh(o:Ko):o.f=M6 [o]:=by simp[M6]
def z8x(p:List Vr)(o:Ko)(A:p.length≤1000000):Mo 134 [.lst (Mz p) p.length 3,.agg o.f] (.bool (Qm p o)) []:=by
 refine Ni.val rfl (Mq r_expand_May Aa U ?_);have z:o.f=[.i o.kind,.i o.d,.i o.e,.i o.a,.i o.b,.i o.c,.u o.imm]:=rfl;by_cases g:o.kind=15
 ·simp[z76,z,g];simp[Qm,mo,g]
 by_cases j:o.kind=16
 ·simp[z76,z,g,j];simp[Qm,mo,j]
 simp[z76,z,g,j];refine Yr (a:=[.lst (Mz p) p.length 3]) (b:=[]) rfl ?_;rw[←z,dh];refine R8 (z9b p [o] A U) (by simp[dats,LV.dat,On,Sk]) ?_;simp;refine Mv (we p _ [] J) (bors_self _ Ao) ?_;simp[Qm,mo,g,j,Nr]
def zkb(k:Int):Mo 133 [.i k] (.bool (So k)) []:=by
 refine Ni.val rfl (Mq r_expand_Has Aa U ?_);by_cases g:1≤k
 ·by_cases j:k≤11<;>simp[z9t,So,g,j]
 ·simp[z9t,So,g]
def zuo(n:Int)(h:0≤n∧n≤512):Mo 135 [.i n] (.i (zp5 n)) []:=by
 refine Ni.val rfl (Mq r_expand_halvesWork Aa U ?_);have g:n.tdiv 2=n/2:=Int.tdiv_eq_ediv_of_nonneg h.1;simp[z6u,zp5,g];omega
def zhm(F:List Vr)(o:Ko)(N:F.length≤1000000):Mo 96 [.lst (Mz F) F.length 3,.agg o.f] (.i (V4 F o)) []:=by
 refine Ni.val rfl (Mq r_expand_Work Aa U ?_);have A:o.f=[.i o.kind,.i o.d,.i o.e,.i o.a,.i o.b,.i o.c,.u o.imm]:=rfl;simp[zd0,A];refine Mv (zkb o.kind) U ?_;cases K:So o.kind with
 |false=>simp[V4,K]
 |true =>
 simp[A];rw[←A];refine Mv (z8x F o N) (bors_self _ (by simp[dats,LV.dat,On,A])) ?_;cases hm:Qm F o with
 |false=>simp[V4,K,hm]
 |true =>
 by_cases G:o.kind=5
 ·obtain⟨B,C,_⟩:=nh (s:=13) hm (by simp[N6,G]);obtain⟨a,g,D,j,E⟩:=eo B (zvv C An);obtain⟨b,L,O,M,P⟩:=eo B (zw5 C An);simp[A,G,g,L,D,O];simp[g]at j E;simp[L]at M P;simp[Mi j,Mi M]
  repeat (refine⟨J,?_⟩)
  simp[V4,hm,G,show So 5=true from rfl,g,L]
 by_cases H:o.kind=6
 ·obtain⟨B,C,_⟩:=nh (s:=13) hm (by simp[N6,H]);obtain⟨a,g,D,j,E⟩:=eo B (zvv C An);simp[A,H,g,D];simp[g]at j E;simp[Mi j];refine Mv (zuo (Pr F (a:Int)) J) U ?_;simp[V4,hm,H,show So 6=true from rfl,g]
 by_cases I:o.kind=9
 ·obtain⟨B,C,_⟩:=nh (s:=21) hm (by simp[N6,I]);obtain⟨a,g,D,j,E⟩:=eo B (vk C An);simp[A,I,g,D];simp[g]at j E;simp[Mi j]
  repeat (refine⟨J,?_⟩)
  simp[V4,hm,I,show So 9=true from rfl,g]
 by_cases p:o.kind=10
 ·obtain⟨B,C,_⟩:=nh (s:=29) hm (by simp[N6,p]);obtain⟨a,g,D,j,E⟩:=eo B (vk C An);simp[A,p,g,D];simp[g]at j E;simp[Mi j]
  repeat (refine⟨J,?_⟩)
  simp[V4,hm,p,show So 10=true from rfl,g]
 by_cases z:o.kind=11
 ·obtain⟨B,C,_⟩:=nh (s:=29) hm (by simp[N6,z]);obtain⟨a,g,D,j,E⟩:=eo B (vk C An);simp[A,z,g,D];simp[g]at j E;simp[Mi j]
  repeat (refine⟨J,?_⟩)
  simp[V4,hm,z,show So 11=true from rfl,g]
 simp[A,G,H,I,p,z];simp[V4,K,hm,G,H,I,p,z]
def z79(n:Int)(h:1≤n∧n≤512):Mo 136 [.i n] (.i (n+2)) []:=by
 refine Ni.val rfl (Mq r_montgomery_Need Aa U ?_);have g:¬n<1:=J
 simp[z80,g];omega
def zd5(g:List Vr)(o:Ko)(D:g.length≤1000000):Mo 97 [.lst (Mz g) g.length 3,.agg o.f] (.i (kw g o)) []:=by
 refine Ni.val rfl (Mq r_montgomery_Work Aa U ?_);have p:o.f=[.i o.kind,.i o.d,.i o.e,.i o.a,.i o.b,.i o.c,.u o.imm]:=rfl;by_cases j:o.kind=12
 case neg=>simp[z5d,p,j,kw]
 simp[z5d,p,j];have A:=z8x g o D;rw[p,j]at A;refine Mv A (bors_self _ Bg) ?_;cases hm:Qm g o with
 |false=>simp[kw,hm]
 |true =>
 obtain⟨E,F,_⟩:=nh (s:=29) hm (by simp[N6,j]);obtain⟨a,z,G,B,C⟩:=eo E (vk F An);simp[z,G];simp[z]at B C;simp[Mi B];refine Mv (z79 (Pr g (a:Int)) C) U ?_;simp[kw,hm,j,z]
def zjy(g:List Vr)(o:Ko)(K:g.length≤1000000):Mo 98 [.lst (Mz g) g.length 3,.agg o.f] (.i (jx g o)) []:=by
 refine Ni.val rfl (Mq r_power_Work Aa U ?_);have p:o.f=[.i o.kind,.i o.d,.i o.e,.i o.a,.i o.b,.i o.c,.u o.imm]:=rfl;by_cases j:o.kind=13
 case neg=>simp[z9z,p,j,jx]
 simp[z9z,p,j];have C:=z8x g o K;rw[p,j]at C;refine Mv C (bors_self _ Bg) ?_;cases hm:Qm g o with
 |false=>simp[jx,hm]
 |true =>
 obtain⟨D,E,F,_⟩:=nh (s:=29) hm (by simp[N6,j]);obtain⟨a,z,L,G,A⟩:=eo D (vk E An);obtain⟨b,B,H,I,M⟩:=eo D (zw5 E An);simp[Pv,j]at F;simp[z,B,L,H];simp[z]at G A;simp[B]at I M;simp[Mi G,Mi I];have N:o.imm.toNat≤6:=by have:=F.2;rw[UInt64.le_iff_toNat_le]at this;exact this
 have hw:∀n,n≤6→(1:Int)≤2^n∧(2:Int)^n≤64:=An
 obtain⟨O,P⟩:=hw _ N;have Q:(0:Int)≤(3+2^o.imm.toNat)*Pr g a:=Int.mul_nonneg J J;have R:(3+2^o.imm.toNat)*Pr g a≤67*512:=Int.mul_le_mul J A.2 J J;refine⟨J,J,J,J,H,J,J,?_⟩;refine Mv (z79 (Pr g (a:Int)) A) U ?_;simp
 repeat (refine⟨J,?_⟩)
 simp[jx,hm,j,z,B]
def Px(g:List Vr)(o:Ko):Int:=if 32768<max (V4 g o) (max (kw g o) (jx g o)) then 0 else max (V4 g o) (max (kw g o) (jx g o))
def z6y(g:List Vr)(o:Ko)(j:g.length≤1000000):Mo 52 [.lst (Mz g) g.length 3,.agg o.f] (.i (Px g o)) []:=by
 refine Ni.val rfl (Mq r_buffers_Work Aa U ?_);have p:o.f=[.i o.kind,.i o.d,.i o.e,.i o.a,.i o.b,.i o.c,.u o.imm]:=rfl;have z:∀{A:Mh},bors A [.lst (Mz g) g.length 3,.agg o.f] [.lst (Mz g) g.length 3,.agg o.f]:=bors_self _ Ch;simp[zbk,p];rw[←p];refine Mv (zhm g o j) z ?_;simp;refine Mv (zd5 g o j) z ?_;simp;refine Mv (zjy g o j) z ?_;simp[Px];omega
def z23:LC:=(.q [.K 4 0] (.seq (.q [.m 6 0,.s 7 6,.K 8 0] (.block 0 (.loop (.q [.c 9 .lss 3 8 7] (.seq (.cond (.t 9) .skip (.exit 0)) (.seq (.block 1 (.q [.m 10 8,.m 5 10] (.q [.m 11 1,.m 12 0,.m 13 5,.I 14 3 12 13,.L 15 3 14,.z 16 (.callV (.t 11) [.t 15])] (.cond (.t 16) (.q [.m 17 5,.m 4 17] .ret) .skip)))) (.ops [.b 18 .add 3 8 1,.m 8 18]))))))) (.q [.K 4 (-1)] .ret)))
def r_slices_IndexFunc_api_Buf_api_Buf:Mt Tryz.prog 174=some ⟨19,z23.r,[.tmp 4]⟩:=Aa
def z1u:LC:=(.q [.F 4] (.q [.m 5 0,.m 6 1,.W 7 174 5 6,.b 8 .geq 3 7 0,.m 4 8] .ret))
def r_slices_ContainsFunc_api_Buf_api_Buf:Mt Tryz.prog 158=some ⟨9,z1u.r,[.tmp 4]⟩:=Aa
def zc8:LC:=(.q [.x 1 0,.K 2 0] (.seq (.q [.f 3 0 1,.l 4 3,.b 5 .gtr 3 4 64,.m 6 5,.nf 7 6 1 1,.nl 8 6 7,.n 9 6 (.lenSl (.t 8)),.nb 10 6 .gtr 3 9 32,.p 11 6 10,.m 12 11,.nf 13 12 2 1,.nl 14 12 13,.n 15 12 (.lenSl (.t 14)),.nb 16 12 .gtr 3 15 65536,.p 17 12 16] (.cond (.t 17) (.q [.K 2 3] .ret) .skip)) (.seq (.q [.f 18 1 1,.l 19 18,.z 20 (.w 158 [.t 19,(.c (.fn (.func 159) [] []))])] (.cond (.t 20) (.q [.K 2 3] .ret) .skip)) (.seq (.q [.f 21 0 1,.l 22 21,.b 23 .lss 3 22 0,.m 24 23,.nf 25 24 1 1,.nl 26 24 25,.n 27 24 (.w 158 [.t 26,(.c (.fn (.func 160) [] []))]),.p 28 24 27] (.cond (.t 28) (.q [.K 2 2] .ret) .skip)) (.q [.K 2 0] .ret)))))
def r_limb_head:Mt Tryz.prog 143=some ⟨29,zc8.r,[.tmp 2]⟩:=Aa
def zd1:LC:=(.q [.x 1 0,.F 2] (.q [.f 3 0 1,.l 4 3,.b 5 .gtr 3 4 65536,.m 2 5] .ret))
def r_limb_head_1:Mt Tryz.prog 159=some ⟨6,zd1.r,[.tmp 2]⟩:=Aa
def zn:LC:=(.q [.x 1 0,.F 2] (.q [.f 3 0 1,.l 4 3,.b 5 .lss 3 4 1,.m 6 5,.nf 7 6 1 1,.nl 8 6 7,.nb 9 6 .lss 3 8 1,.p 10 6 9,.m 11 10,.nf 12 11 1 1,.nl 13 11 12,.nb 14 11 .gtr 3 13 3,.p 15 11 14,.m 2 15] .ret))
def r_limb_head_2:Mt Tryz.prog 160=some ⟨16,zn.r,[.tmp 2]⟩:=Aa
def ze5:LC:=(.q [.x 1 0,.K 2 0,.K 3 0] (.seq (.q [.L 9 3 1,.w 10 143 9,.m 4 10] (.q [.m 11 4,.b 12 .neq 35 11 0] (.cond (.t 12) (.q [.m 13 4,.K 2 0,.m 3 13] .ret) .skip))) (.q [.L 14 3 1,.z 15 (.build [(.i 0),.nilSl,.nilSl,(.bool false),(.bool false),(.bool false),(.bool false),(.bool false),(.bool false),(.bool false),(.bool false),(.bool false),(.bool false),(.bool false),(.bool false),(.bool false),(.bool false),(.bool false),(.bool false),(.bool false),(.bool false),(.bool false),(.bool false),(.bool false),(.bool false),(.bool false),(.bool false),(.bool false),(.bool false),(.bool false),(.bool false),(.bool false),(.bool false),(.bool false),(.bool false),(.bool false),(.bool false),(.bool false),(.bool false),(.bool false),(.bool false),(.bool false),(.bool false),(.bool false),(.bool false),(.bool false),(.bool false),(.bool false),(.bool false),(.bool false),(.bool false),(.bool false),(.bool false),(.bool false),(.bool false),(.bool false),(.bool false),(.bool false),(.bool false),(.bool false),(.bool false),(.bool false),(.bool false),(.bool false),(.bool false),(.bool false),(.bool false),.nilSl] [(0,3,.t 14)]),.x 16 15,.m 5 16] (.seq (.q [.f 17 2 1,.l 18 17,.s 19 18,.K 20 0] (.block 0 (.loop (.q [.c 21 .lss 3 20 19] (.seq (.cond (.t 21) .skip (.exit 0)) (.seq (.block 1 (.q [.m 22 20,.I 23 8 18 20,.L 24 8 23,.z 7 (.alloc [(.i 0),(.i 0),(.i 0),(.i 0),(.i 0),(.i 0),(.i 0),(.u 0)]),.m 6 22,.S 8 7 24] (.q [.m 25 5,.L 26 8 7,.W 27 144 25 26,.m 8 27] (.q [.m 28 8,.b 29 .neq 35 28 0] (.cond (.t 29) (.q [.m 30 6,.m 31 8,.m 2 30,.m 3 31] .ret) .skip))))) (.ops [.b 32 .add 3 20 1,.m 20 32]))))))) (.seq (.q [.m 33 5,.N 34 33,.f 35 67 34,.l 36 35,.s 37 36,.b 38 .gtr 3 37 0] (.cond (.t 38) (.q [.f 39 2 1,.l 40 39,.s 41 40,.m 2 41,.K 3 9] .ret) .skip)) (.q [.f 42 2 1,.l 43 42,.s 44 43,.m 2 44,.K 3 0] .ret))))))
def r_limb_Check:Mt Tryz.prog 104=some ⟨45,ze5.r,[.tmp 2,.tmp 3]⟩:=Aa
def jv:LC:=(.q [.x 2 0,.x 3 1,.F 4] (.seq (.q [.f 6 0 3,.l 7 6,.b 8 .lss 3 7 0,.m 9 8,.nf 10 9 0 3,.nl 11 9 10,.nf 12 9 0 2,.nl 13 9 12,.n 14 9 (.lenSl (.t 13)),.n 15 9 (.bin .geq false 3 (.t 11) (.t 14)),.p 16 9 15,.m 17 16,.nf 18 17 2 3,.nl 19 17 18,.nb 20 17 .lss 3 19 1,.p 21 17 20,.m 22 21,.nf 23 22 2 3,.nl 24 22 23,.nb 25 22 .gtr 3 24 32768,.p 26 22 25,.m 27 26,.nf 28 27 1 3,.nl 29 27 28,.nb 30 27 .lss 3 29 0,.p 31 27 30] (.cond (.t 31) (.q [.F 4] .ret) .skip)) (.q [.f 32 0 2,.l 33 32,.f 34 0 3,.l 35 34,.I 36 3 33 35,.f 37 0 36,.l 38 37,.m 5 38] (.q [.f 39 1 3,.l 40 39,.m 41 5,.c 42 .leq 3 40 41,.m 43 42,.yf 44 43 2 3,.yl 45 43 44,.my 46 43 5,.yf 47 43 1 3,.yl 48 43 47,.y 49 43 (.bin .sub false 3 (.t 46) (.t 48)),.y 50 43 (.bin .leq false 3 (.t 45) (.t 49)),.q 51 43 50,.m 4 51] .ret))))
def r_expand_lies:Mt Tryz.prog 105=some ⟨52,jv.r,[.tmp 4]⟩:=Aa
def zbj:LC:=(.q [.x 3 1,.K 4 0] (.seq (.q [.m 13 0,.z 14 (.w 103 [.t 13,(.c .nilSl)]),.w 15 43 14,.b 16 .neq 35 15 0,.m 17 16,.nf 18 17 0 3,.nl 19 17 18,.n 20 17 (.lenSl (.t 19)),.nb 21 17 .lss 3 20 1,.p 22 17 21,.m 23 22,.nf 24 23 1 3,.nl 25 23 24,.n 26 23 (.lenSl (.t 25)),.mn 27 23 0,.n 28 23 (.lenSl (.t 27)),.n 29 23 (.bin .neq false 3 (.t 26) (.t 28)),.p 30 23 29] (.cond (.t 30) (.q [.K 4 2] .ret) .skip)) (.seq (.q [.f 32 0 3,.l 33 32,.z 34 (.build [(.i 0),.nilSl,.nilSl] [(1,1,.t 33)]),.w 35 104 34,.m 31 35,.X 36 0 31,.X 37 1 31,.m 5 36,.m 6 37] (.q [.m 38 6,.b 39 .neq 35 38 0] (.cond (.t 39) (.q [.K 4 2] .ret) .skip))) (.seq (.q [.m 40 0,.s 41 40,.K 42 0] (.block 0 (.loop (.q [.c 43 .lss 3 42 41] (.seq (.cond (.t 43) .skip (.exit 0)) (.seq (.block 1 (.q [.m 44 42,.I 45 3 40 42,.L 46 3 45,.z 8 (.alloc [(.i 0),(.bool false),(.i 0)]),.m 7 44,.S 3 8 46] (.q [.f 47 1 3,.l 48 47,.m 49 7,.I 50 3 48 49,.L 51 3 50,.z 9 (.alloc [(.i 0),(.i 0),(.i 0)]),.S 3 9 51] (.seq (.q [.L 52 8 3,.L 53 3 9,.W 54 105 52 53,.z 55 (.un .not (.t 54)),.m 56 55,.nf 57 56 2 9,.nl 58 56 57,.nf 59 56 0 8,.nl 60 56 59,.n 61 56 (.bin .neq false 3 (.t 58) (.t 60)),.p 62 56 61] (.cond (.t 62) (.q [.K 4 2] .ret) .skip)) (.q [.f 63 0 3,.l 64 63,.f 65 0 9,.l 66 65,.I 67 3 64 66,.L 68 3 67,.z 10 (.alloc [(.i 0),(.i 0),(.bool false)]),.S 3 10 68] (.q [.f 69 1 10,.l 70 69,.b 71 .eql 3 70 1,.m 72 71,.y 73 72 (.loadN 3 (.t 8)),.y 74 72 (.w 106 [.t 73]),.y 75 72 (.un .not (.t 74)),.q 76 72 75,.m 77 76,.nf 78 77 1 10,.nl 79 77 78,.nb 80 77 .eql 3 79 2,.mn 81 77 80,.y 82 81 (.loadN 3 (.t 8)),.y 83 81 (.w 106 [.t 82]),.n 84 77 (.pick (.t 81) (.t 83) .F),.p 85 77 84,.m 86 85,.nf 87 86 1 8,.nl 88 86 87,.nf 89 86 2 10,.nl 90 86 89,.n 91 86 (.bin .neq false 4 (.t 88) (.t 90)),.p 92 86 91] (.cond (.t 92) (.q [.K 4 2] .ret) .skip))))))) (.ops [.b 93 .add 3 42 1,.m 42 93]))))))) (.seq (.q [.f 94 2 3,.L 95 6 94,.K 96 0] (.block 2 (.loop (.q [.b 97 .lss 3 96 2] (.seq (.cond (.t 97) .skip (.exit 2)) (.seq (.block 3 (.q [.m 98 96,.z 99 (.ixArr true 2 3 (.t 95) (.t 96)),.z 12 (.alloc [(.i 0),(.i 0),(.i 0)]),.m 11 98,.S 3 12 99] (.q [.L 100 8 3,.L 101 3 12,.W 102 105 100 101,.z 103 (.un .not (.t 102)),.m 104 103,.nf 105 104 0 3,.nl 106 104 105,.nf 107 104 0 12,.nl 108 104 107,.n 109 104 (.ixAddr 3 (.t 106) (.t 108)),.nf 110 104 1 109,.nl 111 104 110,.nb 112 104 .eql 3 111 1,.p 113 104 112,.m 114 113,.nf 115 114 0 3,.nl 116 114 115,.nf 117 114 0 12,.nl 118 114 117,.n 119 114 (.ixAddr 3 (.t 116) (.t 118)),.nf 120 114 2 119,.nl 121 114 120,.mn 122 114 11,.nb 123 114 .eql 3 122 1,.n 124 114 (.bin .neq false 4 (.t 121) (.t 123)),.p 125 114 124] (.cond (.t 125) (.q [.K 4 2] .ret) .skip)))) (.ops [.b 126 .add 3 96 1,.m 96 126]))))))) (.q [.K 4 0] .ret))))))
def r_expand_Check:Mt Tryz.prog 56=some ⟨127,zbj.r,[.tmp 4]⟩:=Aa
def z4w:LC:=(.q [.x 3 1,.F 4] (.q [.f 5 1 3,.l 6 5,.b 7 .geq 3 6 0,.m 8 7,.yf 9 8 1 3,.yl 10 8 9,.my 11 8 0,.y 12 8 (.lenSl (.t 11)),.y 13 8 (.bin .lss false 3 (.t 10) (.t 12)),.q 14 8 13,.m 15 14,.my 16 15 0,.yf 17 15 1 3,.yl 18 15 17,.y 19 15 (.ixAddr 3 (.t 16) (.t 18)),.yf 20 15 1 19,.yl 21 15 20,.y 22 15 (.un .not (.t 21)),.q 23 15 22,.m 4 23] .ret))
def r_expand_Public:Mt Tryz.prog 80=some ⟨24,z4w.r,[.tmp 4]⟩:=Aa
def zcj:LC:=(.q [.x 4 1,.x 5 2,.K 6 0,.z 7 (.alloc [(.i 0),(.i 0),(.i 0)])] (.seq (.q [.m 8 0,.L 9 7 4,.W 10 80 8 9] (.cond (.t 10) (.seq (.draw [(.f 11 2 5,[]),(.z 12 (.ixAddrArr 2 3 (.t 11) (.k 0)),[]),(.L 13 3 12,[]),(.K 6 16,[]),(.S 3 7 13,[])]) .ret) .skip)) (.seq (.draw [(.f 14 2 5,[]),(.z 15 (.ixAddrArr 2 3 (.t 14) (.k 1)),[]),(.L 16 3 15,[]),(.K 6 40,[]),(.S 3 7 16,[])]) .ret)))
def r_expand_Base:Mt Tryz.prog 59=some ⟨17,zcj.r,[.tmp 6,.cellN 7 3]⟩:=Aa
def Mr(p:List Bf)(z:List Pc)(g j:Pc):List LV:=[.lst (N0 p) p.length 3,.lst (N5 z) z.length 3,.i g.buf,.i g.at_,.i g.size,.i j.buf,.i j.at_,.i j.size]
def Pc.f_len(p:Pc):p.f.length=3:=rfl
def ki(l:List Pc):dats (N5 l)=true:=mh (λ_=>rfl) l
def dj{l:List Pc}{i:Nat}{v:Pc}(h:l[i]?=some v):((N5 l).drop (i*3)).take 3=v.f:=ld Pc.f_len h
def Vl{l:List Pc}{i:Nat}(h:i<l.length):i*3+3≤(N5 l).length:=uf Pc.f_len h
def Wo{l:List Pc}{n:Nat}(h:n<l.length):l[n]?=some (M3 l n):=by simp[M3,Hr,h]
def bn(g:List Bf)(j:List Pc)(p z:Pc):dats (Mr g j p z)=true:=by simp[Mr,dats,LV.dat,Wu,ki]
def zok{l:List Bf}{f:Nat}{a b:List LV}{O:Bf→Bool}(V:l.length≤9223372036854775807)
  (P:∀v∈l,∀F:LV→Mh→Prop,F (.bool (O v)) L→Oa (.fn f) (a++[.agg v.f]++b) L F) (k:Q (.i (Vm O l)) L):Oa (.fn 174) [.lst (N0 l) l.length 3,.fn (.func f) a b] L Q:=by
 refine Mq r_slices_IndexFunc_api_Buf_api_Buf Aa U ?_;simp[z23];refine M2 (λG T H N=>∃i:Nat,T=[]∧H=L∧N+i=l.length∧lk G 0=.lst (N0 l) l.length 3∧lk G 1=.fn (.func f) a b∧lk G 7=.i l.length∧lk G 8=.i i∧∀I b,I<i→l[I]?=some b→O b=false) (N:=l.length) ⟨0,U⟩ ?_;rintro N G T H ⟨i,rfl,rfl,X,j,p,z,A,B⟩ Y C;by_cases R:l.length≤i
 ·have E:¬i<l.length:=J
  simp[j,p,z,A,E];rw[←zk0 R B];exact k
 ·have E:i<l.length:=J
  have D:=Hj E;have S:=Uk E;simp[j,p,z,A,E,qo D,S];have K:=P l[i] (Ky E);simp only[H7,List.singleton_append]at K;refine K _ ?_;cases M:O l[i] with
  |true =>
   simp;rw[←zvb D M B];exact k
  |false =>
   simp[A];refine⟨J,C _ _ _ ⟨N-1,J,i+1,rfl,rfl,J,As,Ae,Ak,U,λI b Z g=>?_⟩⟩;by_cases e:I=i
   ·subst e;rw[D]at g;cases g;exact M
   ·exact B I b J g
def zbr{l:List Bf}{f:Nat}{a b:List LV}{p:Bf→Bool}(j:l.length≤9223372036854775807)
  (z:∀v∈l,∀g:LV→Mh→Prop,g (.bool (p v)) L→Oa (.fn f) (a++[.agg v.f]++b) L g) (k:Q (.bool (l.any p)) L):Oa (.fn 158) [.lst (N0 l) l.length 3,.fn (.func f) a b] L Q:=by
 refine Mq r_slices_ContainsFunc_api_Buf_api_Buf Aa U ?_;simp[z1u];refine zok j z ?_;simp;rw[znt];exact k
def zi4(b:Bf):Mo 159 [.agg b.f] (.bool (decide (65536<b.size))) []:=by
 refine Ni.val rfl (Mq r_limb_head_1 Aa U ?_);simp[zd1,Bf.f]
def zhl(b:Bf):Mo 160 [.agg b.f] (.bool (decide (b.size<1) || (decide (b.kind<1) || decide (3<b.kind)))) []:=by
 refine Ni.val rfl (Mq r_limb_head_2 Aa U ?_);by_cases g:b.size<1
 ·simp[zn,Bf.f,g]
 by_cases j:b.kind<1
 ·simp[zn,Bf.f,g,j]
 simp[zn,Bf.f,g,j]
def znk(g:List Bf)(C:g.length≤9223372036854775807):Mo 143 [.agg [.i 0,.lst (N0 g) g.length 3,.nilSl]] (.i (Ud g)) []:=by
 refine Ni.val rfl (Mq r_limb_head Aa U ?_);by_cases B:32<g.length
 ·have z:(32:Int)<g.length:=J
  simp[zc8,Ud,B,z]
 have z:¬(32:Int)<g.length:=J
 simp[zc8,B,z];refine zbr (a:=[]) (b:=[]) (p:=λb=>decide (65536<b.size)) C (λv D E k=>Mv (zi4 v) (bors_self _ rfl) k) ?_;by_cases A:(g.any λb=>decide (65536<b.size))=true
 ·simp only[Ud,Hq B,Hs A];rw[A];simp
 simp only[Ud,Hq B,Hq A];rw[Bool.not_eq_true]at A;rw[A];simp;generalize j:(g.any λb=>decide (b.size<1) || (decide (b.kind<1) || decide (3<b.kind)))=F;refine zbr (a:=[]) (b:=[]) (p:=λb=>decide (b.size<1) || (decide (b.kind<1) || decide (3<b.kind))) C (λv D E k=>Mv (zhl v) (bors_self _ rfl) k) ?_;rw[j];cases F with
 |true =>
  simp at j ⊢;obtain⟨x,G,h⟩:=j;exact⟨x,G,λ_ _=>J⟩
 |false=>simp;simpa using j
def Q0(a b:Bool):Qn Tryz.prog false 4 (.bool a) (.bool b)=some (a==b):=by cases a<;>cases b<;>kernel_rfl
def zd9(g:List Bf)(D:g.length≤9223372036854775807):Mo 104 [.agg [.i 0,.lst (N0 g) g.length 3,.nilSl]] (.tup [.i 0,.i (Ud g)]) []:=by
 refine Ni.val rfl (Mq r_limb_Check Aa U ?_);simp[ze5];refine Mv (znk g D) (bors_self _ (by simp[dats,LV.dat,Wu])) ?_;by_cases h:Ud g=0
 ·simp[h];refine M2 (λC I E K=>I=[]∧lk C 1=.ptr 0 0∧lk C 5=.ptr 1 0∧lk C 19=.i 0∧lk C 20=.i 0∧E[0]?=some (.cells [.i 0,.lst (N0 g) g.length 3,.nilSl] 0)∧∃l st,E[1]?=some (.cells ((.i 0)::(.lst (N0 g) g.length 3)::.nilSl::l) st)∧l[64]?=some .nilSl) (N:=0) ⟨rfl,U,U,U,U,U,_,_,rfl,rfl⟩ ?_;rintro K C I E ⟨rfl,F,G,p,z,A,l,st,B,j⟩ L H;simp[F,G,p,z,A,B,Mi j]
 ·simp[h]
def z7s(j:List Bf)(G:List Pc)(H I x:Pc)(K:∀b∈j,b.size≤65536):Mo 105 [.agg (Mr j G H I),.agg x.f] (.bool (Qu j x)) []:=by
 refine Ni.val rfl (Mq r_expand_lies Aa U ?_);by_cases p:x.buf<0
 ·simp[jv,Mr,Pc.f,Qu,p];omega
 by_cases z:(j.length:Int)≤x.buf
 ·simp[jv,Mr,Pc.f,Qu,p,z];omega
 by_cases A:x.size<1
 ·simp[jv,Mr,Pc.f,Qu,p,z,A];omega
 by_cases B:32768<x.size
 ·simp[jv,Mr,Pc.f,Qu,p,z,A,B];omega
 by_cases C:x.at_<0
 ·simp[jv,Mr,Pc.f,Qu,p,z,A,B,C];omega
 obtain⟨n,D⟩:=Hx (J:0≤x.buf);have g:n<j.length:=J
 have E:=sx (Qp g);have O:=Uk g;have P:(0:Int)≤x.buf:=J
 have Q:x.buf<(j.length:Int):=J
 have L:(1:Int)≤x.size:=J
 have M:x.size≤32768:=J
 have N:(0:Int)≤x.at_:=J
 by_cases F:x.at_≤(My j n).size
 ·simp[jv,Mr,Pc.f,Qu,p,z,A,B,C,D,g,Mi E,F];have:=K _ (Im (Qp g));refine⟨λ_=>J,λq=>absurd q J,J,?_⟩;simp[L,M,N]
 ·simp[jv,Mr,Pc.f,Qu,p,z,A,B,C,D,g,Mi E,F]
def ziu{g:List Bf}(h:Ud g=0):∀b∈g,b.size≤65536:=λb z=>by
 unfold Ud at h;by_cases p:32<g.length
 ·rw[Hs p]at h;omega
 by_cases j:(g.any λb=>decide (65536<b.size))=true
 ·rw[Hq p,Hs j]at h;omega
 rw[Bool.not_eq_true,Md]at j;have:=j b z;simp at this;omega
def Uf(g:List Vr)(j:List Bf)(p:List Pc)(z A:Pc):Int:=if Rj g j p z A=true then 0 else 2
def uu{g:List Bf}{x:Pc}(h:Qu g x=true):∃n:Nat,x.buf=n∧n<g.length∧1≤x.size∧x.size≤32768∧0≤x.at_∧x.at_≤(My g n).size∧x.size≤(My g n).size-x.at_:=by
 simp only[Qu,Hh,Ht]at h;obtain⟨A,E,B,C,D,j,p⟩:=h;obtain⟨n,z⟩:=Hx A;rw[z]at j p;exact⟨n,z,J,B,C,D,j,p⟩
def zgg(j:List Vr)(g:List Bf)(B:List Pc)(z A:Pc)(hv:j.length≤1000000)(hb:g.length≤9223372036854775807) :
  Mo 56 [.lst (Mz j) j.length 3,.agg (Mr g B z A)] (.i (Uf j g B z A)) []:=by
 refine Ni.val rfl (Mq r_expand_Check Aa U ?_);have H:Rj j g B z A=false→Uf j g B z A=2:=λh=>by simp[Uf,h]
 simp[zbj];refine zix (args':=[.lst (Mz j) j.length 3,.lst (M6 []) ([]:List Ko).length 7]) (λc r h=>?_) ?_
 ·cases h with
  |cons e1 es=>cases es with
   |cons e2 R=>exact .cons e1 (.cons (by cases e2;exact .lstNil) R)
 refine R8 (z9b j [] hv U) (by simp[dats,LV.dat,On,M6]) ?_;rw[Ip];simp;refine Mv (we j (S6 0 j) [] J) (bors_self _ Ao) ?_;simp only[Nr,ztj];cases gG:O6 j with
 |false=>simp;exact (H (by simp[Rj,gG])).symm
 |true =>
 by_cases g1:(g.length:Int)<1
 ·simp[Mr,g1];exact (H (by simp[Rj,(J:¬1≤g.length)])).symm
 by_cases g2:B.length=j.length
 case neg =>
  have gL:¬(B.length:Int)=(j.length:Int):=J
  simp[Mr,g1,g2,gL];exact (H (by simp[Rj,g2])).symm
 simp[Mr,g1,g2];refine Mv (zd9 g hb) (bors_self _ (by simp[dats,LV.dat,Wu])) ?_;by_cases g3:Ud g=0
 case neg=>simp[g3];exact (H (by simp[Rj,g3])).symm
 simp[g3];have Y:∀b∈g,b.size≤65536:=ziu g3;refine M2 (λρ gV gF N=>∃i:Nat,gV=[]∧N+i=j.length∧lk ρ 3=.ptr 0 0∧lk ρ 40=.lst (Mz j) j.length 3∧lk ρ 41=.i j.length∧lk ρ 42=.i i∧0<gF.length∧gF[0]?=some (.cells (Mr g B z A) 0)∧∀gK,gK<i→Sc g (gv j gK) (M3 B gK)=true) (N:=j.length)
  ⟨0,by simp[Mr,g2]⟩ ?_
 rintro N ρ gV gF ⟨i,rfl,hN,F,K,L,M,hl,hG,Z⟩ Nx S;by_cases g8:i<j.length
 ·have q3:=U3 (P8 g8);have hq:=S2 g8;have gp:i<B.length:=J
  have p3:=dj (Wo gp);have gM:=Vl gp;have gO:(gv j i).f=[.i (gv j i).limbs,.bool (gv j i).sec,.i (gv j i).mode]:=rfl;have gP:(M3 B i).f=[.i (M3 B i).buf,.i (M3 B i).at_,.i (M3 B i).size]:=rfl;have no:Sc g (gv j i) (M3 B i)=false→Uf j g B z A=2:=λh=>H (by
   have:((List.range j.length).all λi=>Sc g (gv j i) (M3 B i))=false:=by
    rw[Jz];exact⟨i,I9.2 g8,Cq⟩
   simp[Rj,this])
  have V:Sc g (gv j i) (M3 B i)=true→∀C G',lk C 3=.ptr 0 0→lk C 40=.lst (Mz j) j.length 3→lk C 41=.i j.length→lk C 42=.i ((i:Int)+1)→0<G'.length→G'[0]?=some (.cells (Mr g B z A) 0)→Nx C [] G':=λh C G' R gg gA gB el eG =>
   S _ _ _ ⟨N-1,J,i+1,rfl,J,R,gg,gA,Dp,el,eG,λgK hj=>by
    by_cases e:gK=i
    ·rw[e];exact h
    ·exact Z gK J⟩
  generalize gv j i=v at *;generalize M3 B i=x at *;have I:∀y:List LObj,(gF++y)[0]?=some _:=λy=>(Mj hl).trans hG
  simp[F,K,L,M,g8,gp,q3,p3,hq,gM,gO,gP,↓I,Mr];have X:=z7s g B z A x Y;rw[Mr,Pc.f]at X;refine Mv X (bors_self _ Bl) ?_;cases E:Qu g x with
  |false=>simp;exact (no (by simp[Sc,E])).symm
  |true =>
  obtain⟨n,P,p,s1,s2,s3,s4,s5⟩:=uu E;by_cases g4:x.size=v.limbs
  case neg=>simp[g4];exact (no (by simp[Sc,g4])).symm
  have b3:=qo (Qp p);have gC:=Uk p;have gQ:(My g n).f=[.i (My g n).size,.i (My g n).kind,.bool (My g n).sec]:=rfl;have gR:Sc g v x=(!(decide ((My g n).kind=1) && !Oo v)&&(!(decide ((My g n).kind=2)&&Oo v)&&(v.sec==(My g n).sec))):=by simp[Sc,E,g4,P]
  rw[gR]at no V;generalize My g n=b at *;simp[g4,F,↓I,Mr,P,p,b3,gC,gQ];have gH:∀{G':Mh} {K':LV→Mh→Prop},K' (.bool (Oo v)) G'→Oa (.fn 106) [.agg [.i v.limbs,.bool v.sec,.i v.mode]] G' K':=λk=>Mv (z9q v) (bors_self _ rfl) k
  have O:∀(h:(!(decide (b.kind=1) && !Oo v)&&(!(decide (b.kind=2)&&Oo v)&&(v.sec==b.sec)))=true) (C:Ml) (x:List LObj),lk C 3=.ptr 0 0→lk C 40=.lst (Mz j) j.length 3→lk C 41=.i j.length→lk C 42=.i ((i:Int)+1)→Nx C [] (gF++x):=λh C x R gg gA gB=>V h _ _ R gg gA gB Ab (I x)
  by_cases G:b.kind=1
  ·simp[G];refine gH ?_;cases hg:Oo v with
   |false=>simp[G,hg]at no ⊢;exact no.symm
   |true =>
    simp[G,hg]at no O ⊢;cases D:(v.sec==b.sec) with
    |false=>simp[Q0,D]at no ⊢;exact (no B4).symm
    |true =>
     simp[Q0,D,M];refine⟨J,O B4 _ _ Ah A8 A1 U⟩
  ·by_cases k2:b.kind=2
   ·simp[k2];refine gH ?_;cases hg:Oo v with
    |true=>simp[k2,hg]at no ⊢;exact no.symm
    |false =>
     simp[k2,hg]at no O ⊢;cases D:(v.sec==b.sec) with
     |false=>simp[Q0,D]at no ⊢;exact (no B4).symm
     |true =>
      simp[Q0,D,M];refine⟨J,O B4 _ _ Ah A8 A1 U⟩
   ·simp[G,k2]at no O ⊢;cases D:(v.sec==b.sec) with
    |false=>simp[Q0,D]at no ⊢;exact (no B4).symm
    |true =>
     simp[Q0,D,M];refine⟨J,O B4 _ _ Ah A8 A1 U⟩
 ·have gi:i=j.length:=J
  subst gi;simp[F,K,L,M,hG,Mr];refine M2 (λρ gV gF N=>∃i:Nat,gV=[]∧N+i=2∧lk ρ 3=.ptr 0 0∧lk ρ 95=.agg [.i z.buf,.i z.at_,.i z.size,.i A.buf,.i A.at_,.i A.size]∧lk ρ 96=.i i∧0<gF.length∧gF[0]?=some (.cells (Mr g B z A) 0)∧(0<i→Q3 g false z=true)∧(1<i→Q3 g true A=true)) (N:=2)
   ⟨0,rfl,rfl,Ah,U,U,hl,hG,λq=>absurd q J,λq=>absurd q J⟩ ?_
  clear F K L M hG hl;rintro N ρ gV gF ⟨i,rfl,g9,F,T,Q,hl,hG,gI,gS⟩ Nx S;have I:∀y:List LObj,(gF++y)[0]?=some _:=λy=>(Mj hl).trans hG
  have hi:i=0∨i=1∨i=2:=J
  rcases hi with rfl|rfl|rfl
  ·have no:Q3 g false z=false→Uf j g B z A=2:=λh=>H Eu
   have V:Q3 g false z=true→∀(C:Ml) (y:List LObj),lk C 3=.ptr 0 0→lk C 95=.agg [.i z.buf,.i z.at_,.i z.size,.i A.buf,.i A.at_,.i A.size]→lk C 96=.i (0+1)→Nx C [] (gF++y):=λh C y R gD gE =>
    S _ _ _ ⟨N-1,J,0+1,rfl,J,R,gD,by rw[gE];rfl,Ab,I y,λ_=>h,λq=>absurd q J⟩
   simp[F,T,Q,↓I,Mr];have X:=z7s g B z A z Y;rw[Mr,Pc.f]at X;refine Mv X (bors_self _ Bl) ?_;cases E:Qu g z with
   |false=>simp;exact (no (by simp[Q3,E])).symm
   |true =>
   obtain⟨n,P,p,s1,s2,s3,s4,s5⟩:=uu E;have b1:=sf (Qp p);have b2:=zq7 (Qp p);have gC:=Uk p;have hW:Q3 g false z=(!decide ((My g n).kind=1)&&((My g n).sec==false)):=by simp[Q3,E,P]
   rw[hW]at no V;generalize My g n=b at *;by_cases G:b.kind=1
   ·simp[F,↓I,Mr,P,p,Mi b1,Mi b2,G];exact (no A3).symm
   cases D:b.sec with
   |true=>simp[F,↓I,Mr,P,p,Mi b1,Mi b2,G,D,Q0];exact (no Ai).symm
   |false =>
    simp[F,↓I,Mr,P,p,Mi b1,Mi b2,G,D,Q,Q0];exact V (by simp[G,D]) _ _ Ah Bn U
  ·have no:Q3 g true A=false→Uf j g B z A=2:=λh=>H Eu
   have V:Q3 g true A=true→∀(C:Ml) (y:List LObj),lk C 3=.ptr 0 0→lk C 95=.agg [.i z.buf,.i z.at_,.i z.size,.i A.buf,.i A.at_,.i A.size]→lk C 96=.i (1+1)→Nx C [] (gF++y):=λh C y R gD gE =>
    S _ _ _ ⟨N-1,J,1+1,rfl,J,R,gD,by rw[gE];rfl,Ab,I y,λ_=>gI J,λ_=>h⟩
   simp[F,T,Q,↓I,Mr];have X:=z7s g B z A A Y;rw[Mr,Pc.f]at X;refine Mv X (bors_self _ Bl) ?_;cases E:Qu g A with
   |false=>simp;exact (no (by simp[Q3,E])).symm
   |true =>
   obtain⟨n,P,p,s1,s2,s3,s4,s5⟩:=uu E;have b1:=sf (Qp p);have b2:=zq7 (Qp p);have gC:=Uk p;have hW:Q3 g true A=(!decide ((My g n).kind=1)&&((My g n).sec==true)):=by simp[Q3,E,P]
   rw[hW]at no V;generalize My g n=b at *;by_cases G:b.kind=1
   ·simp[F,↓I,Mr,P,p,Mi b1,Mi b2,G];exact (no A3).symm
   cases D:b.sec with
   |false=>simp[F,↓I,Mr,P,p,Mi b1,Mi b2,G,D,Q0];exact (no Ai).symm
   |true =>
    simp[F,↓I,Mr,P,p,Mi b1,Mi b2,G,D,Q,Q0];exact V (by simp[G,D]) _ _ Ah Bn U
  ·simp[Q];unfold Uf;rw[Hs];have gZ:((List.range j.length).all λi=>Sc g (gv j i) (M3 B i))=true:=I7.2 λgK hj=>Z gK (I9.1 hj)
   have gT:1≤g.length:=J
   simp[Rj,gG,gT,g2,g3,gI J,gS J];intro gK hj;exact Z gK hj
def Ob(g:List Vr)(d:Int):Bool:=decide (0≤d)&&(decide (d<g.length) && !(gv g d.toNat).sec)
def z9j(j:List Vr)(o:Ko):Mo 80 [.lst (Mz j) j.length 3,.agg o.f] (.bool (Ob j o.d)) []:=by
 refine Ni.val rfl (Mq r_expand_Public Aa U ?_);by_cases p:0≤o.d
 case neg=>simp[z4w,Ko.f,Ob,p]
 by_cases z:o.d<j.length
 case neg=>simp[z4w,Ko.f,Ob,p,z]
 obtain⟨n,A⟩:=Hx p;have g:n<j.length:=J
 have B:=nk (P8 g);have C:=S2 g;simp[z4w,Ko.f,Ob,A,g,Mi B]
def az(g:List Vr)(o:Ko)(j p:Pc):Pc:=if Ob g o.d=true then j else p
def Z6(g:List Vr)(o:Ko):Int:=if Ob g o.d=true then 16 else 40
def zi1(g:List Vr)(o:Ko)(B:List Bf)(C:List Pc)(p z:Pc):Mo 59 [.lst (Mz g) g.length 3,.agg o.f,.agg (Mr B C p z)] (.tup [.i (Z6 g o),.agg (az g o p z).f]) []:=by
 refine Ni.val rfl (Mq r_expand_Base Aa U ?_);have j:o.f=[.i o.kind,.i o.d,.i o.e,.i o.a,.i o.b,.i o.c,.u o.imm]:=rfl;simp[zcj,j];rw[←j];refine Mv (z9j g o) (bors_self _ (by simp[dats,LV.dat,On,j])) ?_;cases A:Ob g o.d with
 |true=>simp[Mr,Pc.f,Z6,az,A]
 |false=>simp[Mr,Pc.f,Z6,az,A]
section
set_option linter.unusedVariables false
def zau:LC:=(.q [.x 1 0,.z 2 (.alloc [(.i 0),(.i 0)]),.F 3] (.q [.z 8 (.build [(.i 0),(.i 0)] [(0,1,.k 1),(1,1,.k 1)]),.S 2 2 8] (.seq (.q [.f 9 1 1,.l 10 9,.s 11 10,.K 12 0] (.block 0 (.loop (.q [.c 13 .lss 3 12 11] (.seq (.cond (.t 13) .skip (.exit 0)) (.seq (.block 1 (.q [.I 14 7 10 12,.L 15 7 14,.z 5 (.alloc [(.i 0),(.i 0),(.i 0),(.i 0),(.i 0),(.i 0),(.u 0)]),.S 7 5 15] (.seq (.q [.f 16 1 5,.l 17 16,.b 18 .lss 3 17 0] (.cond (.t 18) (.exit 1) .skip)) (.q [.f 19 0 1,.l 20 19,.L 21 7 5,.W 22 52 20 21,.m 6 22] (.seq (.q [.m 23 6,.b 24 .eql 3 23 0] (.cond (.t 24) (.q [.L 25 2 2,.S 2 2 25,.F 3] .ret) .skip)) (.q [.K 7 1] (.seq (.q [.f 26 0 1,.l 27 26,.L 28 7 5,.W 29 80 27 28] (.cond (.t 29) (.ops [.K 7 0]) .skip)) (.ops [.m 30 7,.m 31 7,.z 32 (.ixAddrArr 2 1 (.t 2) (.t 31)),.l 33 32,.m 34 6,.z 35 (.maxi true (.t 33) (.t 34)),.z 36 (.ixAddrArr 2 1 (.t 2) (.t 30)),.S 1 36 35])))))))) (.ops [.b 37 .add 3 12 1,.m 12 37]))))))) (.q [.L 38 2 2,.S 2 2 38,.z 3 (.move .T)] .ret))))
def r_buffers_works:Mt Tryz.prog 44=some ⟨39,zau.r,[.cellN 2 2,.tmp 3]⟩:=Aa
def Pj(vs:List Vr)(g:List Ko):(Bool→Int)×Bool:=Pm (Px vs) (λo=>Ob vs o.d) Uu g
def zk9(vs:List Vr)(o:Ko):Px vs o≤32768:=by unfold Px;split<;>omega
def zep(j:List Vr)(g K:List Ko)(hl:j.length≤1000000)(gg:g.length≤1000000):Mo 44 [.agg (Mg j g K)] (.tup [.agg [.i ((Pj j g).1 false),.i ((Pj j g).1 true)],.bool (Pj j g).2]) []:=by
 refine Ni.val rfl (Mq r_buffers_works Aa U ?_);have gA:(Mg j g K).length=3:=rfl;have gB:(Mg j g K).take 3=Mg j g K:=rfl;simp[zau,Mg];refine M2 (λX gC Z N=>∃(i:Nat) (w:Bool→Int) (st:Nat),gC=[]∧N+i=g.length∧lk X 1=.ptr 0 0∧lk X 2=.ptr 1 0∧lk X 10=.lst (M6 g) g.length 7∧lk X 11=.i g.length∧lk X 12=.i i∧1<Z.length∧Z[0]?=some (.cells (Mg j g K) 0)∧Z[1]?=some (.cells [.i (w false),.i (w true)] st)∧Pj j g=Pm (Px j) (λo=>Ob j o.d) w (g.drop i))
  (N:=g.length) ⟨0,Uu,1,rfl,J,U,U,U,U,U,U,Bv,by simp[Uu],rfl⟩ ?_
 rintro N X gC Z ⟨i,w,st,rfl,hN,L,G,B,z,C,D,E,A,hw⟩ Nx M;have F:0<Z.length:=J
 by_cases Y:i<g.length
 ·have q7:=Wt (Rl Y);have O:=Wf Y;have p:(go g i).f=[.i (go g i).kind,.i (go g i).d,.i (go g i).e,.i (go g i).a,.i (go g i).b,.i (go g i).c,.u (go g i).imm]:=rfl;rw[iy Y]at hw;generalize go g i=o at *;by_cases hd:o.d<0
  ·rw[Pm,Hs hd]at hw;simp[L,G,B,z,C,Y,q7,O,p,hd];exact⟨J,M _ _ _ ⟨N-1,J,i+1,w,st,rfl,J,A1,A3,Ad,Ak,U,Ab,by rw[Mn F];exact E,by rw[Mn D];exact A,hw⟩⟩
  ·rw[Pm,Hq hd]at hw;simp[L,G,B,z,C,Y,q7,O,p,hd,↓Mn F,↓Mn D,E,A,Mg];rw[←p];refine Mv (z6y j o hl) (bors_self _ Ch) ?_;by_cases Q:Px j o=0
   ·rw[Hs Q]at hw;simp[G,Q,↓Mn D,A,hw];rw[Hi Ab];simp
   ·rw[Hq Q]at hw;simp[Q,L,↓Mn F,E,Mg,p];rw[←p];refine Mv (z9j j o) (bors_self _ Ch) ?_;have next:∀(H:Ml) P (R:Bool→Int) I,R=Qj w (!Ob j o.d) (Px j o)→lk H 1=.ptr 0 0→lk H 2=.ptr 1 0→lk H 10=.lst (M6 g) g.length 7→lk H 11=.i g.length→lk H 12=.i ((i:Int)+1)→1<P.length→P[0]?=some (.cells (Mg j g K) 0)→P[1]?=some (.cells [.i (R false),.i (R true)] I)→Nx H [] P:=by
     rintro H P R I rfl a1 a2 S T V b1 b2 b3;exact M _ _ _ ⟨N-1,J,i+1,_,I,rfl,J,a1,a2,S,T,by rw[V];simp,b1,b2,b3,hw⟩
    cases hp:Ob j o.d with
    |true =>
     simp[G,C,↓Mn D,A];refine⟨J,next _ _ (Qj w false (Px j o)) (st+1) (by rw[hp];rfl) A1 A3 Ad Ak U Ab ?_ ?_⟩
     ·rw[Hg J,Mn F];exact E
     ·rw[Hi Ab];simp[Qj]
    |false =>
     simp[G,C,↓Mn D,A];refine⟨J,next _ _ (Qj w true (Px j o)) (st+1) (by rw[hp];rfl) A1 A3 Ad Ak U Ab ?_ ?_⟩
     ·rw[Hg J,Mn F];exact E
     ·rw[Hi Ab];simp[Qj]
 ·rw[Il J,Pm]at hw;simp[G,z,C,Y,A,hw];rw[Hi J];simp
end
section
open Go.RowKit Go.Lib Go.Sv
set_option linter.unusedVariables false
def info117:(Tryz.prog.info? 117).map (λi=>(i.zero,i.size,i.bytes))=some (some (.agg #[.int .i64 0,.int .i64 0]),2,16):=Aa
def mixd:Tryz.prog.follows .mixedOrders=true:=Aa
def size117:(Tryz.prog.info? 117).map (·.size)=some 2:=Aa
def info117':∃i0,Tryz.prog.info? 117=some i0∧i0.zero=some (.agg #[.int .i64 0,.int .i64 0])∧i0.size=2∧i0.bytes=16:=by
 have h:=info117;cases hh:Tryz.prog.info? 117 with
 |none=>rw[hh]at h;cases h
 |some i0=>rw[hh]at h;simp at h;exact⟨i0,rfl,h.1,h.2.1,h.2.2⟩
set_option maxHeartbeats 4000000 in
set_option maxRecDepth 1000000 in
def zn0(b off n c vb voff vc:Nat)(vs:List Value)(w:World)(hroom:n+1≤c)(hvl:vs.length=2)(hsp:∀j,j<2→(w.cell? ⟨b,off+n*2+j,none⟩).isSome=true)(hfz:∀j,j<2→w.frozen? ⟨b,off+n*2+j,none⟩=false)
  (hvs:∀j v,vs[j]?=some v→w.cell? ⟨vb,voff+j,none⟩=some v) (h1v:∀v∈vs,v.oneCell'=true) :
  Calls Tryz.prog 131 #[.slice (some ⟨b,off,none⟩) n c,.int .i64 n,.slice (some ⟨vb,voff,none⟩) 1 vc] w λe w'=>e=.returned (.slice (some ⟨b,off,none⟩) (n+1) c)∧w'=w.setCells b (off+n*2) vs:=by
 have mixed:=mixd;obtain⟨i0,hi0,hz0,hz1,hz2⟩:=info117';have hrun:∀ty,(Builtin.append_ #[84,84] ty #[.slice (some ⟨b,off,none⟩) n c,.slice (some ⟨vb,voff,none⟩) 1 vc]).run Tryz.prog w=.ok (.slice (some ⟨b,off,none⟩) (n+1) c) (w.setCells b (off+n*2) vs):=λty=>by
  have:=run_append_room_cells (P:=Tryz.prog) w 84 ty 117 i0 Tryz.underlying84 hi0 b off n c ⟨vb,voff,none⟩ 1 vc vs (by rw[hvl,hz1]) (λj u hj=>by rw[Addr.add_lit];exact hvs j u hj) h1v hroom (λj hj=>by rw[hz1];exact hsp j J) (λj hj=>by rw[hz1];exact hfz j J);rw[hz1]at this;exact this
 clear hsp hfz hvs h1v
 go_enter Tryz.func131,Tryz.ntmps131
 go_wp2_with (at_builtin;refine Lib.wpList_append_run _ rfl _ _ _ _ rfl _ _ rfl rfl _ _ (hrun _) ?_)
 go_ret
 exact⟨rfl,rfl⟩
set_option maxHeartbeats 4000000 in
set_option maxRecDepth 1000000 in
def zeg(base:Option Addr)(n c vb voff vc:Nat)(cs vs:List Value)(w:World)(hnc:n≤c)(hroom:c<n+1)(hb:n≤1000000000)(hcl:cs.length=n*2)(hvl:vs.length=2)(hnil:base=none→n=0)
  (hcs:∀a,base=some a→∀j v,cs[j]?=some v→w.cell? (a.add j)=some v) (hsp:∀a,base=some a→a.spot=none)
  (hvs:∀j v,vs[j]?=some v→w.cell? ⟨vb,voff+j,none⟩=some v) (h1v:∀v∈vs,v.oneCell'=true) :
  Calls Tryz.prog 131 #[.slice base n c,.int .i64 n,.slice (some ⟨vb,voff,none⟩) 1 vc] w λe w' =>
   e=.returned (.slice (some ⟨w.heap.size,0,none⟩) (n+1) (grownCap w (n+1) c 117)) ∧
   w'=w.drew.alloc (.cells (cs.toArray++vs.toArray++Builtin.zeroCells #[.int .i64 0,.int .i64 0] (grownCap w (n+1) c 117-(n+1))) 117):=by
 have mixed:=mixd;obtain⟨i0,hi0,hz0,hz1,hz2⟩:=info117';have hnews:∀w',w'.heap=w.heap→(Builtin.firstCells 2 1 (.slice (some ⟨vb,voff,none⟩) 1 vc)).run Tryz.prog w'=.ok vs.toArray w':=λw' hw=>by
  have:=run_loadCells_list (P:=Tryz.prog) w' ⟨vb,voff,none⟩ vs (λj v hj=>by rw[Addr.add_lit];simp only[World.cell?,hw];exact hvs j v hj);rw[hvl]at this;simpa [Builtin.firstCells] using this
 have hold:(Builtin.firstCells i0.size n (.slice base n c)).run Tryz.prog w.drew=.ok cs.toArray w.drew:=by
  rw[hz1];cases base with
  |none =>
   have h0:=hnil rfl;subst h0;rw[Jj.1 hcl];simp[Builtin.firstCells]
  |some a =>
   have:=run_loadCells_list (P:=Tryz.prog) w.drew a cs (λj v hj=>hcs a rfl j v hj);rw[hcl]at this;simpa [Builtin.firstCells] using this
 have hx:AppX Tryz.prog w 117 i0.size 84 (.slice (some ⟨vb,voff,none⟩) 1 vc) 1 vs.toArray:=⟨_,Tryz.underlying84,.inl ⟨.inr ⟨_,rfl⟩,by simp[Builtin.lenOf],λw' hw=>by rw[hz1];exact hnews w' hw⟩⟩;have hrun:∀ty,(Builtin.append_ #[84,84] ty #[.slice base n c,.slice (some ⟨vb,voff,none⟩) 1 vc]).run Tryz.prog w=.ok (.slice (some ⟨w.heap.size,0,none⟩) (n+1) (grownCap w (n+1) c 117)) (w.drew.alloc (.cells (cs.toArray++vs.toArray++Builtin.zeroCells #[.int .i64 0,.int .i64 0] (grownCap w (n+1) c 117-(n+1))) 117)):=λty =>
  z43 (ty:=ty) (zv:=.agg #[.int .i64 0,.int .i64 0]) (olds:=cs.toArray) Tryz.underlying84 hi0 hx hroom (by rw[hz2];omega) J Tryz.zeroValue117 hold
 clear hx hold hnews hcs hvs h1v;generalize grownCap w (n+1) c 117=G at hrun ⊢;generalize Builtin.zeroCells #[.int .i64 0,.int .i64 0] (G-(n+1))=Z at hrun ⊢
 go_enter Tryz.func131,Tryz.ntmps131
 cases base with
 |none =>
  have h0:=hnil rfl;subst h0
  go_wp2_with (at_builtin;refine Lib.wpList_append_run _ rfl _ _ _ _ rfl _ _ rfl rfl _ _ (hrun _) ?_)
  go_ret
  exact⟨rfl,rfl⟩
 |some a =>
  obtain⟨ab,ao,asp⟩:=a;have:=hsp _ rfl;subst this
  go_wp2_with (at_builtin;refine Lib.wpList_append_run _ rfl _ _ _ _ rfl _ _ rfl rfl _ _ (hrun _) ?_)
  all_goals (go_ret;exact⟨rfl,rfl⟩)
set_option maxHeartbeats 4000000 in
set_option maxRecDepth 1000000 in
def zom(b off len cap i:Nat)(C:List Value)(w:World)(hi:i<len)(j:Nat)(hj:j=i+1)(hl:len≤cap)(hC:C.length=len*2)(hc:∀j u,C[j]?=some u→w.cell? ⟨b,off+j,none⟩=some u)
  (hf:∀j,j<len*2→w.frozen? ⟨b,off+j,none⟩=false) (h1:∀u∈C,u.oneCell'=true) (hb:len≤1000000000) :
  Calls Tryz.prog 86 #[.slice (some ⟨b,off,none⟩) len cap,.int .i64 i,.int .i64 j] w λe w'=>e=.returned (.slice (some ⟨b,off,none⟩) (len-1) cap)∧w'=(w.drew.setCells b (off+i*2) (C.drop (j*2))).setCells b (off+(len-1)*2) [.int .i64 0,.int .i64 0]:=by
 have mixed:=mixd;obtain⟨i0,hi0,hz0,hz1,hz2⟩:=info117';obtain⟨news,hnews⟩:∃news,news=C.drop (j*2):=⟨_,rfl⟩;have hlen:news.length=(len-j)*2:=by rw[hnews,Iw,hC];omega
 obtain⟨A,hA,hsrc⟩:∃A:Addr,(if cap=j then some (⟨b,off,none⟩:Addr) else some ⟨b,off+j*2,none⟩)=some A∧Hid (∀t u,news[t]?=some u→w.drew.cell? (A.add t)=some u):=by
  by_cases h:cap=j
  ·refine⟨⟨b,off,none⟩,Cq,λt u hu=>?_⟩;have h0:news.length=0:=by rw[hlen];omega
   rw[Jj.1 h0]at hu;simp at hu
  ·refine⟨⟨b,off+j*2,none⟩,Cq,λt u hu=>?_⟩;rw[hnews,J9]at hu;rw[Addr.add_lit,(J:off+j*2+t=off+(j*2+t))];exact hc _ u hu
 have hcell:∀j,j<len*2→(w.cell? ⟨b,off+j,none⟩).isSome=true:=λj hj=>by
  rw[hc j _ (Hj J)];rfl
 have s1:Hid (news.length=(len-j)*2):=hlen;have s2:Hid (∀u∈news,u.oneCell'=true):=by
  intro u hu;rw[hnews]at hu;exact h1 u (Jk hu)
 have s3:Hid (∀t,t<news.length→(w.drew.cell? ⟨b,off+i*2+t,none⟩).isSome=true∧w.drew.frozen? ⟨b,off+i*2+t,none⟩=false):=by
  intro t ht;rw[hlen]at ht;rw[Iu];exact⟨hcell (i*2+t) J,hf (i*2+t) J⟩
 obtain⟨W1,hW1⟩:∃W1,W1=w.drew.setCells b (off+i*2) news:=⟨_,rfl⟩;have hcl:∀ty,(Builtin.clear_ #[84] ty #[.slice (some ⟨b,off+(i+(len-j))*2,none⟩) 1 (cap-(i+(len-j)))]).run Tryz.prog W1=.ok (.tuple #[]) (W1.setCells b (off+(i+(len-j))*2) [.int .i64 0,.int .i64 0]):=by
  intro ty;refine zr0 W1 84 117 ty _ _ _ Tryz.underlying84 Tryz.zeroValue117 rfl rfl rfl b _ _ (λt ht=>?_) (λt ht=>?_)
  ·rw[hW1];refine z8k _ _ _ _ (λt2 ht2=>(s3.out t2 ht2).1) _ ?_;rw[(J:off+(i+(len-j))*2+t=off+((i+(len-j))*2+t))];exact hcell _ J
  ·rw[hW1,World.frozen?_setCells,(J:off+(i+(len-j))*2+t=off+((i+(len-j))*2+t))];exact hf _ J
 have hW:Hid (W1=w.drew.setCells b (off+i*2) news):=hW1;have hone:len-(i+(len-j))=1:=J
 have hic:i≤cap:=J
 have hjc:j≤cap:=J
 have HN:Hid (news=C.drop (j*2)):=hnews;have HJ:Hid (j=i+1):=hj;have hij:i<j:=J
 have hjl:j≤len:=J
 clear hW1 hc hf hcell hnews hlen hj
 go_enter Tryz.func86,Tryz.ntmps86
 go_wp2_with fail
 go_region_law_o (refine step_append_room rfl (.tmp 22) (.tmp 25) 84 rfl 117 i0 2 Tryz.underlying84 hi0 hz1 b off i cap Bo A (len-j) (cap-j) news Bo s1.out hsrc.out s2.out J s3.out ?_;rw[←hW.out])
 go_wp2
 go_ret
 have hj:=HJ.out;refine⟨by rw[(J:i+(len-j)=len-1)];rfl,?_⟩;rw[hW.out,HN.out,(J:i+(len-j)=len-1)]
set_option maxHeartbeats 4000000 in
set_option maxRecDepth 1000000 in
def Xw(b off n c i vb voff m vc:Nat)(cs vs:List Value)(w:World)(hi:i<n)(hm:0<m)(hm2:m≤1000)(hnc:n≤c)(hroom:c<n+m)(hbig:n≤1000000000)(hcl:cs.length=n*2)(hvl:vs.length=m*2)
  (hbw:b<w.heap.size) (hvw:vb<w.heap.size)
  (hcs:∀j v,cs[j]?=some v→w.cell? ⟨b,off+j,none⟩=some v) (hvs:∀j v,vs[j]?=some v→w.cell? ⟨vb,voff+j,none⟩=some v) (h1c:∀v∈cs,v.oneCell'=true) (h1v:∀v∈vs,v.oneCell'=true) :
  Calls Tryz.prog 131 #[.slice (some ⟨b,off,none⟩) n c,.int .i64 i,.slice (some ⟨vb,voff,none⟩) m vc] w λe w' =>
   ∃(G:Nat) (ROW:Array Value),n+m≤G∧ROW.size=G*2∧(∀(j:Nat) (u:Value),(cs.take (i*2))[j]?=some u→ROW[j]?=some u)∧e=.returned (.slice (some ⟨w.heap.size,0,none⟩) (n+m) G) ∧
   w'=(((w.alloc (.cells ROW 117)).drew.setCells w.heap.size (i*2) vs).drew).setCells w.heap.size ((i+m)*2) (cs.drop (i*2)):=by
 have mixed:=mixd;have u84:=run_underlying Tryz.underlying84;obtain⟨i0,hi0,hz0,hzs,hzb⟩:=info117';have hz1:¬((m:Int)=0):=J
 have hz2:¬((i:Int)=(n:Int)):=J
 have hz3:(c:Int)<(n:Int)+(m:Int):=J
 have hkk:(n:Int)+(m:Int)-(i:Int)=((n+m-i:Nat):Int):=J
 have hik:i+(n+m-i)=n+m:=J
 have hold:(Builtin.firstCells i0.size i (.slice (some ⟨b,off,none⟩) i c)).run Tryz.prog w.drew=.ok (cs.take (i*2)).toArray w.drew:=by
  rw[hzs];have:=run_loadCells_list (P:=Tryz.prog) w.drew ⟨b,off,none⟩ (cs.take (i*2)) (λj v hj=>by
   rw[Addr.add_lit];rw[List.getElem?_take]at hj;split at hj
   ·exact hcs j v hj
   ·cases hj)
  rw[H4,hcl,I2 J]at this;simpa [Builtin.firstCells] using this
 have hrz:∀ty,(Builtin.append_ #[84,3] ty #[.slice (some ⟨b,off,none⟩) i c,.int .i64 ((n:Int)+(m:Int)-(i:Int))]).run Tryz.prog w =
   .ok (.slice (some ⟨w.heap.size,0,none⟩) (n+m) (grownCap w (n+m) c 117)) (w.drew.alloc (.cells ((cs.take (i*2)).toArray++Builtin.zeroCells (Value.agg #[.int .i64 0,.int .i64 0]).cells (n+m-i)++Builtin.zeroCells (Value.agg #[.int .i64 0,.int .i64 0]).cells (grownCap w (n+m) c 117-(n+m))) 117)):=λty=>by
  have h:=Lib.run_append_grow_zeros w 84 3 ty 117 i0 _ .i64 .i64 Tryz.underlying84 Tryz.underlying3 hi0 hz0 (some ⟨b,off,none⟩) i c (cs.take (i*2)) hold (n+m-i) J J J J (by rw[hzb];omega) (by rw[hzb,hik];exact growslice_fits hroom J);rw[hik]at h;rw[hkk];exact h
 obtain⟨G,hG⟩:∃G,G=grownCap w (n+m) c 117:=⟨_,rfl⟩;obtain⟨ROW,hROW⟩:∃ROW:Array Value,ROW=(cs.take (i*2)).toArray++Builtin.zeroCells (Value.agg #[.int .i64 0,.int .i64 0]).cells (n+m-i)++Builtin.zeroCells (Value.agg #[.int .i64 0,.int .i64 0]).cells (G-(n+m)):=⟨_,rfl⟩;rw[←hG]at hrz;rw[←hROW]at hrz;have hGn:n+m≤G:=by rw[hG];exact grownCap_ge w _ _ _
 have hRl:ROW.size=G*2:=by
  rw[hROW,I3,I3,size_zeroCells,size_zeroCells];simp[Value.cells,hcl];omega
 have hRt:∀(j:Nat) (u:Value),(cs.take (i*2))[j]?=some u→ROW[j]?=some u:=λj u hj=>by
  have hl:j<(cs.take (i*2)).length:=(Hf.1 hj).1;rw[hROW,Array.append_assoc,Je (by simpa using hl)];simpa using hj
 obtain⟨W1,hW1⟩:∃W1,W1=w.drew.alloc (.cells ROW 117):=⟨_,rfl⟩;rw[←hW1]at hrz;have hN:∀j,j<(n+m)*2→(W1.cell? ⟨w.heap.size,j,none⟩).isSome=true:=λj hj=>by
  rw[hW1,World.cell?_alloc_at (w:=w.drew) ROW _ w.heap.size j rfl,Iy J];rfl
 have hNf:∀j,W1.frozen? ⟨w.heap.size,j,none⟩=false:=λj=>by rw[hW1];exact World.frozen?_alloc_at (w:=w.drew) ROW _ w.heap.size j rfl
 have hOb:∀j v,w.cell? ⟨b,j,none⟩=some v→W1.cell? ⟨b,j,none⟩=some v:=λj v h=>by rw[hW1,World.cell?_alloc_past (w:=w.drew) _ b j hbw];exact h
 have hOv:∀j v,w.cell? ⟨vb,j,none⟩=some v→W1.cell? ⟨vb,j,none⟩=some v:=λj v h=>by rw[hW1,World.cell?_alloc_past (w:=w.drew) _ vb j hvw];exact h
 have hcpA:∀(W:World),(∀x,W.cell? x=W1.cell? x)→(∀x,W.frozen? x=W1.frozen? x)→∀ty dc,(Builtin.copy_ #[84,84] ty #[.slice (some ⟨w.heap.size,i*2,none⟩) (n+m-i) dc,.slice (some ⟨vb,voff,none⟩) m vc]).run Tryz.prog W=.ok (goInt (Nat.min m (n+m-i))) (W.setCells w.heap.size (i*2) vs):=λW hWc hWf ty dc =>
  wx W _ _ ty 117 w.heap.size (i*2) (n+m-i) dc ⟨vb,voff,none⟩ m vc 2 vs Tryz.underlying84 size117 Dr
   (λj v hj=>by rw[Addr.add_lit,hWc];exact hOv _ v (hvs j v hj))
   (λj hj=>by rw[hWc];exact hN _ J) (λj hj=>by rw[hWf];exact hNf _) h1v
 have hG63:G≤9223372036854775807:=by
  have:=grownCap_le_maxLen w (n+m) c 117 (by unfold maxLen;omega);rw[←hG]at this;unfold maxLen at this;omega
 have hGi:¬(G=i):=J
 have hGim:¬(G=i+m):=J
 have hci:¬(c=i):=J
 have hbN:b≠w.heap.size:=J
 have hdl:(cs.drop (i*2)).length=(n-i)*2:=Fa
 have hcpB:∀(W:World),(∀x,W.cell? x=(W1.setCells w.heap.size (i*2) vs).cell? x)→(∀x,W.frozen? x=(W1.setCells w.heap.size (i*2) vs).frozen? x)→∀ty dc sc,(Builtin.copy_ #[84,84] ty #[.slice (some ⟨w.heap.size,(i+m)*2,none⟩) (n+m-(i+m)) dc,.slice (some ⟨b,off+i*2,none⟩) (n-i) sc]).run Tryz.prog W=.ok (goInt (Nat.min (n-i) (n+m-(i+m)))) (W.setCells w.heap.size ((i+m)*2) (cs.drop (i*2))):=λW hWc hWf ty dc sc =>
  wx W _ _ ty 117 w.heap.size ((i+m)*2) (n+m-(i+m)) dc ⟨b,off+i*2,none⟩ (n-i) sc 2 (cs.drop (i*2)) Tryz.underlying84 size117 Ds
   (λj v hj=>by
    rw[Addr.add_lit,hWc,World.cell?_setCells_out _ _ _ _ _ (λh _=>absurd h hbN),Iu];exact hOb _ v (hcs (i*2+j) v (by rwa [J9]at hj)))
   (λj hj=>by rw[hWc];exact z8k _ _ _ _ (λt ht=>hN _ J) _ (hN _ J))
   (λj hj=>by rw[hWf,World.frozen?_setCells];exact hNf _) (λv hv=>h1c v (Jk hv))
 subst hW1;have hE1:∀x,((w.alloc (.cells ROW 117)).drew).cell? x=(w.drew.alloc (.cells ROW 117)).cell? x:=λx=>rfl
 have hE2:∀x,((w.alloc (.cells ROW 117)).drew).frozen? x=(w.drew.alloc (.cells ROW 117)).frozen? x:=λx=>rfl
 have hF1:∀x,(((w.alloc (.cells ROW 117)).drew.setCells w.heap.size (i*2) vs).drew).cell? x=((w.drew.alloc (.cells ROW 117)).setCells w.heap.size (i*2) vs).cell? x:=λx=>rfl
 have hF2:∀x,(((w.alloc (.cells ROW 117)).drew.setCells w.heap.size (i*2) vs).drew).frozen? x=((w.drew.alloc (.cells ROW 117)).setCells w.heap.size (i*2) vs).frozen? x:=λx=>rfl
 have hw1:IntKind.i64.wrap ((i:Int)+(m:Int))=(i:Int)+(m:Int):=A5
 have hw2:IntKind.i64.wrap ((n:Int)+(m:Int))=(n:Int)+(m:Int):=A5
 have hw3:IntKind.i64.wrap ((n:Int)+(m:Int)-(i:Int))=(n:Int)+(m:Int)-(i:Int):=A5
 have hb1:(0:Int)≤(i:Int)+(m:Int):=J
 have hin:i≤n:=J
 have htn:((i:Int)+(m:Int)).toNat=i+m:=J
 have hb3:(i:Int)≤(n:Int):=J
 have RR:Hid (ROW.size=G*2∧∀(j:Nat) (u:Value),(cs.take (i*2))[j]?=some u→ROW[j]?=some u):=⟨hRl,hRt⟩;clear hkk hik hold hROW hG hRl hRt
 go_enter Tryz.func131,Tryz.ntmps131
 go_wp2_with (first
  |(at_builtin;refine Lib.wpList_append_run _ rfl _ _ _ _ rfl _ _ rfl rfl _ _ (hrz _) ?_)
  |(at_builtin;refine z4o _ rfl _ _ 84 84 rfl _ _ rfl rfl (hcpA _ hE1 hE2 _ _) ?_)
  |(at_builtin;refine z4o _ rfl _ _ 84 84 rfl _ _ rfl rfl (hcpB _ (λ_=>rfl) (λ_=>rfl) _ _ _) ?_))
 go_region_law_o (refine zcs rfl _ _ 84 84 rfl (.slice (some ⟨w.heap.size,(i+m)*2,none⟩) (n+m-(i+m)) (G-(i+m))) (.slice (some ⟨b,off+i*2,none⟩) (n-i) (c-i)) Bo Bo (hcpB _ hF1 hF2 3 (G-(i+m)) (c-i)) ?_)
 go_wp2
 go_ret
 exact⟨G,ROW,hGn,RR.out.1,RR.out.2,rfl,rfl⟩
set_option maxHeartbeats 4000000 in
set_option maxRecDepth 1000000 in
def zw4(b off n c i vb voff m vc:Nat)(cs vs:List Value)(w w2:World)(hi:i<n)(hm:0<m)(hm2:m≤1000)(hbig:n≤1000000000)(hroom:n+m≤c)(hvb:vb≠b)(hcl:cs.length=n*2)(hvl:vs.length=m*2)
  (hcs:∀j v,cs[j]?=some v→w.cell? ⟨b,off+j,none⟩=some v) (hsp:∀j,j<(n+m)*2→(w.cell? ⟨b,off+j,none⟩).isSome=true) (hfz:∀j,j<(n+m)*2→w.frozen? ⟨b,off+j,none⟩=false)
  (hvs:∀j v,vs[j]?=some v→w.cell? ⟨vb,voff+j,none⟩=some v) (h1c:∀v∈cs,v.oneCell'=true) (h1v:∀v∈vs,v.oneCell'=true) (hw2:w2.heap=w.heap)
  (hov:∀cb,(callFunc 155 #[.slice (some ⟨vb,voff,none⟩) m vc,.slice (some ⟨b,off+(i+m)*2,none⟩) (n+m-(i+m)) cb]).run Tryz.prog w=.ok (.value (.bool false)) w2) :
  Calls Tryz.prog 131 #[.slice (some ⟨b,off,none⟩) n c,.int .i64 i,.slice (some ⟨vb,voff,none⟩) m vc] w λe w' =>
   e=.returned (.slice (some ⟨b,off,none⟩) (n+m) c)∧w'=(w2.drew.setCells b (off+(i+m)*2) (cs.drop (i*2))).setCells b (off+i*2) vs:=by
 have mixed:=mixd;have u84:=run_underlying Tryz.underlying84;have hz1:¬((m:Int)=0):=J
 have hz2:¬((i:Int)=(n:Int)):=J
 have hdl:(cs.drop (i*2)).length=(n-i)*2:=Fa
 have hw1:IntKind.i64.wrap ((i:Int)+(m:Int))=(i:Int)+(m:Int):=A5
 have hw3:IntKind.i64.wrap ((n:Int)+(m:Int))=(n:Int)+(m:Int):=A5
 have hb1:(0:Int)≤(i:Int)+(m:Int):=J
 have hin:i≤n:=J
 have htn:((i:Int)+(m:Int)).toNat=i+m:=J
 have hb2:¬(c=i+m):=J
 have hb3:(i:Int)≤(n:Int)+(m:Int):=J
 have hb4:¬(c=i):=J
 have hC2:∀x,w2.cell? x=w.cell? x:=λx=>by simp only[World.cell?,hw2]
 have hF2:∀x,w2.frozen? x=w.frozen? x:=λx=>by simp only[World.frozen?,hw2]
 have hcp1:∀ty dc sc,(Builtin.copy_ #[84,84] ty #[.slice (some ⟨b,off+(i+m)*2,none⟩) (n+m-(i+m)) dc,.slice (some ⟨b,off+i*2,none⟩) (n+m-i) sc]).run Tryz.prog w2.drew=.ok (goInt (Nat.min (n+m-i) (n+m-(i+m)))) (w2.drew.setCells b (off+(i+m)*2) (cs.drop (i*2))):=λty dc sc =>
  wx w2.drew _ _ ty 117 b (off+(i+m)*2) (n+m-(i+m)) dc ⟨b,off+i*2,none⟩ (n+m-i) sc 2 (cs.drop (i*2)) Tryz.underlying84 size117 Ds
   (λj v hj=>by rw[Addr.add_lit,Iu];exact (hC2 _).trans (hcs (i*2+j) v (by rwa [J9]at hj)))
   (λj hj=>by rw[Iu];show (w2.cell? _).isSome=true;rw[hC2];exact hsp _ J) (λj hj=>by rw[Iu];exact (hF2 _).trans (hfz _ J)) (λv hv=>h1c v (Jk hv))
 obtain⟨W1,hW1⟩:∃W1,W1=w2.drew.setCells b (off+(i+m)*2) (cs.drop (i*2)):=⟨_,rfl⟩;have hsp1:∀k,k<(n+m)*2→(W1.cell? ⟨b,off+k,none⟩).isSome=true:=λk hk=>by
  rw[hW1];refine z8k _ _ _ _ (λt ht=>by show (w2.cell? _).isSome=true;rw[hC2,Iu];exact hsp _ J) _ ?_;show (w2.cell? _).isSome=true;rw[hC2];exact hsp k hk
 have hcp2:∀(W:World),(∀x,W.cell? x=W1.cell? x)→(∀x,W.frozen? x=W1.frozen? x)→∀ty dc,(Builtin.copy_ #[84,84] ty #[.slice (some ⟨b,off+i*2,none⟩) (n+m-i) dc,.slice (some ⟨vb,voff,none⟩) m vc]).run Tryz.prog W=.ok (goInt (Nat.min m (n+m-i))) (W.setCells b (off+i*2) vs):=λW hWc hWf ty dc =>
  wx W _ _ ty 117 b (off+i*2) (n+m-i) dc ⟨vb,voff,none⟩ m vc 2 vs Tryz.underlying84 size117 Dr
   (λj v hj=>by
    rw[Addr.add_lit,hWc,hW1,World.cell?_setCells_out b _ _ _ _ (λh _=>absurd h hvb)];exact (hC2 _).trans (hvs j v hj))
   (λj hj=>by rw[hWc,Iu];exact hsp1 _ J) (λj hj=>by rw[hWf,hW1,World.frozen?_setCells,Iu];exact (hF2 _).trans (hfz _ J)) h1v
 rw[←hW1]at hcp1;have HC:Hid ((∀x,w2.cell? x=w.cell? x)∧(∀x,w2.frozen? x=w.frozen? x)∧w2.heap=w.heap):=⟨hC2,hF2,hw2⟩;clear hC2 hF2 hw2 hcs hvs hsp hfz hsp1 h1c h1v
 go_enter Tryz.func131,Tryz.ntmps131
 go_wp2_with (simp only[hov])
 go_region_law_o (refine zcs rfl _ _ 84 84 rfl _ _ Bo Bo (hcp1 _ _ _) ?_)
 go_wp2_with (at_builtin;refine z4o _ rfl _ _ 84 84 rfl _ _ rfl rfl (hcp2 _ (λ_=>rfl) (λ_=>rfl) _ _) ?_)
 go_ret
 first|exact⟨rfl,rfl⟩|exact⟨rfl,by rw[hW1]⟩
abbrev P2:={x:Value×Value // x.1.oneCell'=true∧x.2.oneCell'=true}
instance:Inhabited P2:=⟨⟨(.bool false,.bool false),rfl,rfl⟩⟩
def Ua(x:P2):List Value:=[x.1.1,x.1.2]
def Pk(ps:List P2):List Value:=ps.flatMap Ua
def wb(x:P2)(ps:List P2):Pk (x::ps)=x.1.1::x.1.2::Pk ps:=rfl
def flatP_nil:Pk []=[]:=rfl
def z77(ps qs:List P2):Pk (ps++qs)=Pk ps++Pk qs:=by simp[Pk]
def flatP_length:∀ps:List P2,(Pk ps).length=ps.length*2
 |[]=>rfl
 |x::ps=>by rw[wb];simp only[Ie,flatP_length ps];omega
def flatP_get:∀(ps:List P2) (t:Nat),(Pk ps)[t]?=(ps[t/2]?).map λx=>if t%2=0 then x.1.1 else x.1.2
 |[],t=>by simp[flatP_nil]
 |x::ps,0=>by simp[wb]
 |x::ps,1=>by simp[wb]
 |x::ps,t+2=>by
  rw[wb,H8,H8,flatP_get ps t,(J:(t+2)/2=t/2+1),H8,(J:(t+2)%2=t%2)]
def flatP_of:∀(n:Nat) (cs:List Value),cs.length=n*2→(∀v∈cs,v.oneCell'=true)→∃ps:List P2,ps.length=n∧Pk ps=cs
 |0,cs,h,_=>⟨[],rfl,by rw[flatP_nil];exact (Ig J).symm⟩
 |n+1,cs,h,h1=>by
  match cs,h,h1 with
  |[],h,_=>simp at h
  |[_],h,_=>simp at h;omega
  |x::y::cs,h,h1 =>
   obtain⟨ps,q1,q2⟩:=flatP_of n cs (by simp at h;omega) (λv hv=>h1 v (by simp[hv]));exact⟨⟨(x,y),h1 x U,h1 y U⟩::ps,by simp[q1],by rw[wb,q2]⟩
def zca(ps:List P2):(«Sort».flatK Ua 2 ps.toArray)=(Pk ps).toArray:=by
 apply Array.ext_getElem?;intro t;rw[show (Pk ps).toArray[t]?=(Pk ps)[t]? from I0,flatP_get];by_cases h:t<ps.length*2
 ·have h2:t/2<ps.length:=J
  rw[Iy Ay,←getElem!_pos («Sort».flatK Ua 2 ps.toArray) t Ay,«Sort».get_flatK _ _ _ t Ay,Hj h2,Jg]
  congr 1
  rw[getElem!_pos ps.toArray (t/2) (by simpa using h2)];have:t%2=0∨t%2=1:=J
  rcases this with e|e
  ·rw[e,Hs rfl];rfl
  ·rw[e,Hq J];rfl
 ·rw[K6 Ab,K8 J];rfl
def rn:Go.Shelf.Ren where
 f:=λx=>match x with
  |35=>179
  |n=>n
 t:=λx=>match x with
  |22=>84
  |23=>117
  |3=>3
  |4=>4
  |0=>0
  |n=>n
 g:=λx=>x
def rn_lays:SlLaysE0.n35 Tryz.prog rn where
 mixed:=mixd
 f35 := ⟨"slices.Reverse[[]keysmith/buffers.pair[int],keysmith/buffers.pair[int]]", An, Tryz.func179.trans (congrArg some Aa)⟩
 t0:=Tryz.underlying0
 a0:=Tryz.isAgg0
 z0:=Tryz.sizeOf0
 v0:=Tryz.zeroValue0
 t3:=Tryz.underlying3
 a3:=Tryz.isAgg3
 z3:=Tryz.sizeOf3
 v3:=Tryz.zeroValue3
 t4:=Tryz.underlying4
 a4:=Tryz.isAgg4
 z4:=Tryz.sizeOf4
 v4:=Tryz.zeroValue4
 t22:=Tryz.underlying84
 a22:=Tryz.isAgg84
 z22:=Tryz.sizeOf84
 v22:=Tryz.zeroValue84
def zsb(w:World)(q b:Nat):Turn w (w.drewN q) b:=⟨rfl,rfl,rfl,Hm _,λ_ _ _=>rfl⟩
def za3(ps:List P2)(pre post:List Value)(b d0 d cap0 cap n:Nat)(w:World)(hd:d=d0+pre.length)(hn:n=ps.length)(hsz:n≤2000000000)(hfit:pre.length+n*2≤cap0*2)(hR:RowIn w b d0 cap0 2 (pre++Pk ps++post)) :
  Calls Tryz.prog 179 #[.slice (some ⟨b,d,none⟩) n cap] w λe w'=>e=.returned (.tuple #[])∧Turn w w' b∧RowIn w' b d0 cap0 2 (pre++Pk ps.reverse++post):=by
 subst hd hn;have hH:«Sort».Holds id w b (d0+pre.length) («Sort».flatK Ua 2 ps.toArray):=by
  intro j hj;rw[zca]at hj ⊢;have hj':j<(Pk ps).length:=by simpa using hj
  rw[flatP_length]at hj';refine⟨?_,?_⟩
  ·rw[Iu];have := hR.cell (pre.length + j) ((Pk ps)[j]'(by rw [flatP_length];exact hj')) (by
    rw[H7,H5 J,Nat.add_sub_cancel_left,Hk (by rw[flatP_length];exact hj'),Hj])
   rw[this,getElem!_pos _ j hj];rfl
  ·rw[Iu];exact hR.free (pre.length+j) J
 have hc:=AnyQ.slices_Reverse (P:=Tryz.prog) (ρ:=rn) rn_lays 2 Tryz.isAgg117 Tryz.sizeOf117 Ua (λ_=>rfl) (λx v hv=>by
  simp only[Ua,Hu,Jm,Ln]at hv;rcases hv with rfl|rfl
  ·exact x.2.1
  ·exact x.2.2) b (d0+pre.length) cap ps.toArray w hH Ab
 have hsz2:ps.toArray.size=ps.length:=U
 rw[hsz2]at hc;refine Calls.mono (show Calls Tryz.prog 179 _ w _ from hc) ?_;rintro e w' ⟨rfl,q,rfl⟩;have e1:«Sort».putRowK Ua 2 («Sort».ahead w q) b (d0+pre.length) ps.toArray.reverse=(w.drewN q).setCells b (d0+pre.length) (Pk ps.reverse):=by
  have:=Go.Lib.putRow_eq_setCells id w b (d0+pre.length) («Sort».flatK Ua 2 ps.toArray) (Pk ps.reverse) q hH (by rw[zca];simp[flatP_length]);rw[List.map_id]at this;rw[←this];unfold «Sort».putRowK;rw[←zca,List.reverse_toArray]
 rw[e1];refine⟨rfl,(zsb w q b).cells (.inl rfl) _ _,RowIn.put (w:=w.drewN q) (cs:=pre++Pk ps++post) ⟨hR.has⟩ pre.length (Pk ps.reverse) (by rw[flatP_length,L5];omega) λj u hj=>?_⟩;have hl1:(Pk ps.reverse).length=(Pk ps).length:=by rw[flatP_length,flatP_length,L5]
 by_cases h1:j<pre.length
 ·rw[Hq J];rw[H7,Hk h1]at hj ⊢;exact hj
 ·rw[H7,H5 J]at hj;by_cases h2:j-pre.length<(Pk ps.reverse).length
  ·rw[Hk h2]at hj;rw[Hs J];exact hj
  ·rw[H5 J,hl1]at hj;rw[Hq J,H7,H5 J,H5 J];exact hj
set_option maxHeartbeats 600000 in
set_option maxRecDepth 1000000 in
def zg5(A B:List P2)(pre:List Value)(b d0 d cap0 cap n r:Nat)(w:World)(hd:d=d0+pre.length)(hr:r=A.length)(hn:n=r+B.length)(hB:0<B.length)(hsz:n≤2000000000)(hcap:n≤cap)(hfit:pre.length+n*2≤cap0*2)(hR:RowIn w b d0 cap0 2 (pre++Pk (A++B))) :
  Calls Tryz.prog 173 #[.slice (some ⟨b,d,none⟩) n cap,.int .i64 r] w λe w'=>e=.returned (.tuple #[])∧Turn w w' b∧RowIn w' b d0 cap0 2 (pre++Pk (B++A)):=by
 have mixed:=mixd;have e179:∀args w,(callFunc 179 args).run Tryz.prog w=.ok (.enter 179 args) w:=enters_of Tryz.func179 Aa rfl;have h1:Calls Tryz.prog 179 #[.slice (some ⟨b,d,none⟩) r cap] w λe w'=>e=.returned (.tuple #[])∧Hid (Turn w w' b∧RowIn w' b d0 cap0 2 (pre++Pk A.reverse++Pk B)) :=
  za3 A pre (Pk B) b d0 d cap0 cap r w hd hr J J (by rw[z77,←H7]at hR;exact hR)
 have h2:∀w1,Hid (Turn w w1 b∧RowIn w1 b d0 cap0 2 (pre++Pk A.reverse++Pk B))→Calls Tryz.prog 179 #[.slice (some ⟨b,d+r*2,none⟩) (n-r) (cap-r)] w1 λe w'=>e=.returned (.tuple #[])∧Hid (Turn w1 w' b∧RowIn w' b d0 cap0 2 (pre++Pk A.reverse++Pk B.reverse++[])):=λw1 hw =>
  za3 B (pre++Pk A.reverse) [] b d0 (d+r*2) cap0 (cap-r) (n-r) w1 (by rw[Hv,flatP_length,L5];omega) J J (by rw[Hv,flatP_length,L5];omega) (by rw[Ip];exact hw.out.2)
 have h3:∀w0 w1,Hid (Turn w0 w1 b∧RowIn w1 b d0 cap0 2 (pre++Pk A.reverse++Pk B.reverse++[]))→Calls Tryz.prog 179 #[.slice (some ⟨b,d,none⟩) n cap] w1 λe w'=>e=.returned (.tuple #[])∧Hid (Turn w1 w' b∧RowIn w' b d0 cap0 2 (pre++Pk (A.reverse++B.reverse).reverse++[])):=λw0 w1 hw =>
  za3 (A.reverse++B.reverse) pre [] b d0 d cap0 cap n w1 hd Ab J J (by have hw:=hw.out.2;rw[Ip]at hw ⊢;rw[z77,←H7];exact hw)
 have hrn:r≤n:=J
 have hrc:r≤cap:=J
 have hcr:¬(cap=r):=J
 have HR:Hid (B++A=(A.reverse++B.reverse).reverse):=(U:B++A=(A.reverse++B.reverse).reverse);clear hR hfit hsz hd hr hn hB
 go_enter Tryz.func173,Tryz.ntmps173
 go_wp2_with (first
  |(go_at_fn 179;refine (h3 _ _ t2).mono ?_;rintro e w3 ⟨rfl,t3⟩)
  |(go_at_fn 179;refine (h2 _ t1).mono ?_;rintro e w2 ⟨rfl,t2⟩)
  |(go_at_fn 179;refine h1.mono ?_;rintro e w1 ⟨rfl,t1⟩))
 go_end0
 refine⟨rfl,(t1.out.1.trans t2.out.1).trans t3.out.1,?_⟩;have r3:=t3.out.2;rw[Ip]at r3;rw[HR.out];exact r3
set_option maxHeartbeats 600000 in
set_option maxRecDepth 1000000 in
def zey(A B:List P2)(pre:List Value)(b d0 d cap0 cap n m:Nat)(w:World)(hd:d=d0+pre.length)(hm:m=B.length)(hn:n=A.length+m)(hB:0<m)(hsz:n≤2000000000)(hcap:n≤cap)(hfit:pre.length+n*2≤cap0*2)(hR:RowIn w b d0 cap0 2 (pre++Pk (A++B))) :
  Calls Tryz.prog 156 #[.slice (some ⟨b,d,none⟩) n cap,.int .i64 m] w λe w'=>e=.returned (.tuple #[])∧Hid (Turn w w' b∧RowIn w' b d0 cap0 2 (pre++Pk (B++A))):=by
 have mixed:=mixd;have e173:∀args w,(callFunc 173 args).run Tryz.prog w=.ok (.enter 173 args) w:=enters_of Tryz.func173 Aa rfl;have hr:(n:Int)-(m:Int)=((n-m:Nat):Int):=J
 have hw:IntKind.i64.wrap ((n:Int)-(m:Int))=(n:Int)-(m:Int):=A5
 have h1:Calls Tryz.prog 173 #[.slice (some ⟨b,d,none⟩) n cap,.int .i64 ((n:Int)-(m:Int))] w λe w'=>e=.returned (.tuple #[])∧Hid (Turn w w' b∧RowIn w' b d0 cap0 2 (pre++Pk (B++A))):=by
  rw[hr];exact zg5 A B pre b d0 d cap0 cap n (n-m) w hd J J J hsz hcap hfit hR
 clear hR hfit hsz hd hn hr hm
 go_enter Tryz.func156,Tryz.ntmps156
 go_wp2_with (go_at_fn 173;refine h1.mono ?_;rintro e w1 ⟨rfl,t1⟩)
 go_end0
 exact⟨rfl,t1⟩
set_option maxHeartbeats 1000000 in
set_option maxRecDepth 1000000 in
def Y6(b off n c i vb voff m vc:Nat)(cs vs:List Value)(w w2:World)(hi:i<n)(hm:0<m)(hm2:m≤1000)(hbig:n≤1000000000)(hroom:n+m≤c)(hvb:vb≠b)(hcl:cs.length=n*2)(hvl:vs.length=m*2)
  (hR:RowIn w b off c 2 cs) (hvs:∀j v,vs[j]?=some v→w.cell? ⟨vb,voff+j,none⟩=some v) (h1c:∀v∈cs,v.oneCell'=true) (h1v:∀v∈vs,v.oneCell'=true) (hw2:Turn w w2 b) (hw2h:w2.heap=w.heap)
  (hov:∀cb,(callFunc 155 #[.slice (some ⟨vb,voff,none⟩) m vc,.slice (some ⟨b,off+(i+m)*2,none⟩) (n+m-(i+m)) cb]).run Tryz.prog w=.ok (.value (.bool true)) w2) :
  Calls Tryz.prog 131 #[.slice (some ⟨b,off,none⟩) n c,.int .i64 i,.slice (some ⟨vb,voff,none⟩) m vc] w λe w' =>
   e=.returned (.slice (some ⟨b,off,none⟩) (n+m) c)∧Hid (Turn w w' b∧RowIn w' b off c 2 (cs.take (i*2)++vs++cs.drop (i*2))):=by
 have mixed:=mixd;have u84:=run_underlying Tryz.underlying84;have e156:∀args w,(callFunc 156 args).run Tryz.prog w=.ok (.enter 156 args) w:=enters_of Tryz.func156 Aa rfl;have hz1:¬((m:Int)=0):=J
 have hz2:¬((i:Int)=(n:Int)):=J
 have hw1:IntKind.i64.wrap ((i:Int)+(m:Int))=(i:Int)+(m:Int):=A5
 have hw3:IntKind.i64.wrap ((n:Int)+(m:Int))=(n:Int)+(m:Int):=A5
 have hb1:(0:Int)≤(i:Int)+(m:Int):=J
 have hin:i≤n:=J
 have htn:((i:Int)+(m:Int)).toNat=i+m:=J
 have hb2:¬(c=i+m):=J
 have hb3:(i:Int)≤(n:Int)+(m:Int):=J
 have hb4:¬(c=i):=J
 have hb5:¬(c=n):=J
 obtain⟨A,ha1,ha2⟩:=flatP_of (n-i) (cs.drop (i*2)) Fa (λv hv=>h1c v (Jk hv));obtain⟨B,hb1',hb2'⟩:=flatP_of m vs hvl h1v;have hR2:RowIn w2 b off c 2 cs:=⟨by obtain⟨a1,a2,a3,a4,a5⟩:=hR.has;exact⟨a1,a2,a3,a4,by rw[hw2h];exact a5⟩⟩;have hcp:∀ty dc,(Builtin.copy_ #[84,84] ty #[.slice (some ⟨b,off+n*2,none⟩) m dc,.slice (some ⟨vb,voff,none⟩) m vc]).run Tryz.prog w2=.ok (goInt (Nat.min m m)) (w2.setCells b (off+n*2) vs):=λty dc =>
  wx w2 _ _ ty 117 b (off+n*2) m dc ⟨vb,voff,none⟩ m vc 2 vs Tryz.underlying84 size117 (by rw[hvl];exact congrArg (· * 2) (Nat.min_self m).symm)
   (λj v hj=>by rw[Addr.add_lit];simp only[World.cell?,hw2h];exact hvs j v hj)
   (λj hj=>by rw[Iu];exact hR2.room _ J) (λj hj=>by rw[Iu];exact hR2.free _ J) h1v
 have hR3:RowIn (w2.setCells b (off+n*2) vs) b off c 2 (cs.take (i*2)++Pk (A++B)):=by
  rw[z77,ha2,hb2',←H7,H9];refine RowIn.put hR2 (n*2) vs J λj u hj=>?_
  by_cases h:j<n*2
  ·rw[Hq J];rw[Hk J]at hj;exact hj
  ·rw[H5 J,hcl]at hj;have:=(Hf.1 hj).1;rw[Hs J];exact hj
 have ht:(cs.take (i*2)).length=i*2:=by rw[H4,hcl];omega
 have h1:=zey A B (cs.take (i*2)) b off (off+i*2) c (c-i) (n+m-i) m (w2.setCells b (off+n*2) vs) (by rw[ht]) hb1'.symm J hm J J (by rw[ht];omega) hR3;rw[z77,hb2',ha2,←H7]at h1;have HT:Hid (Turn w w2 b):=hw2;clear hR hR2 hR3 hvs h1c h1v hw2 hw2h ha1 ha2 hb1' hb2' ht;generalize cs.take (i*2)++vs++cs.drop (i*2)=RR at h1 ⊢;obtain⟨W3,hW3⟩:∃W3,W3=w2.setCells b (off+n*2) vs:=⟨_,rfl⟩;rw[←hW3]at h1 hcp;have HW:Hid (W3=w2.setCells b (off+n*2) vs):=hW3;clear hW3
 go_enter Tryz.func131,Tryz.ntmps131
 go_wp2_with (first
  |(at_builtin;refine z4o _ rfl _ _ 84 84 rfl _ _ rfl rfl (hcp _ _) ?_)
  |(go_at_fn 156;refine h1.mono ?_;rintro e w1 ⟨rfl,t1⟩))
 go_ret
 refine⟨rfl,(HT.out.trans ?_).trans t1.out.1,t1.out.2⟩;rw[HW.out];exact (Turn.refl w2 b).cells (.inl rfl) _ _
def Put(w:World)(b n:Nat)(cs:List Value)(e:Ending)(w':World):Prop :=
 ∃b' d' cap',e=.returned (.slice (some ⟨b',d',none⟩) n cap')∧n≤cap'∧Turn w w' b∧RowIn w' b' d' cap' 2 cs∧(b'=b∨w.heap.size≤b')
def zs2(b off len cap i:Nat)(C:List Value)(w:World)(hi:i<len)(hl:len≤cap)(hb:len≤1000000000)(hR:RowIn w b off cap 2 C)(hC:C.length=len*2)(h1:∀u∈C,u.oneCell'=true) :
  Calls Tryz.prog 86 #[.slice (some ⟨b,off,none⟩) len cap,.int .i64 i,.int .i64 (i+1:Nat)] w (Put w b (len-1) (C.take (i*2)++C.drop ((i+1)*2))):=by
 have hc:len*2≤cap*2:=Hy _ hl;refine (zom b off len cap i C w hi (i+1) rfl hl hC hR.cell (λj hj=>hR.free j J) h1 hb).mono ?_;rintro e w' ⟨rfl,rfl⟩;have hd:(C.drop ((i+1)*2)).length=(len-(i+1))*2:=by rw[Iw,hC];omega
 have ht:(C.take (i*2)).length=i*2:=by rw[H4,hC];omega
 refine⟨b,off,cap,rfl,J,((Turn.refl w b).drew.cells (.inl rfl) _ _).cells (.inl rfl) _ _,RowIn.put (cs:=C.take (i*2)++C.drop ((i+1)*2)) (RowIn.put hR.drew (i*2) _ (by rw[hd];omega) λj u hj=>?_) ((len-1)*2) _ Ab λj u hj=>?_,.inl rfl⟩
 ·by_cases h:j<i*2
  ·rw[Hk J,Ij h]at hj;rw[Hq J];exact hj
  ·rw[H5 J,ht]at hj;have:=(Hf.1 hj).1;rw[Hs J];exact hj
 ·have:=(Hf.1 hj).1;rw[Hv,ht,hd]at this;rw[Hq J];exact hj
def zrz(n c vb voff vc:Nat)(vs:List Value)(w:World)(hvl:vs.length=2)(hvs:∀j v,vs[j]?=some v→w.cell? ⟨vb,voff+j,none⟩=some v)(h1v:∀v∈vs,v.oneCell'=true) :
  Calls Tryz.prog 131 #[.slice none 0 0,.int .i64 (0:Nat),.slice (some ⟨vb,voff,none⟩) 1 vc] w λe w'=>∃A:Array Value,∃G,1≤G∧A.size=G*2∧(∀(j:Nat) (u:Value),vs[j]?=some u→A[j]?=some u)∧e=.returned (.slice (some ⟨w.heap.size,0,none⟩) 1 G)∧w'=w.drew.alloc (.cells A 117):=by
 refine (zeg none 0 0 vb voff vc [] vs w (Hm _) J J rfl hvl (λ_=>rfl) (λa h=>Al) (λa h=>Al) hvs h1v).mono ?_;rintro e w' ⟨rfl,rfl⟩;have hG:=grownCap_ge w 1 0 117;refine⟨_,_,hG,?_,λj u hj=>?_,rfl,rfl⟩
 ·rw[I3,I3,size_zeroCells];simp[hvl];omega
 ·have:=(Hf.1 hj).1;rw[Array.append_assoc,L8 U,Je (by simpa using this)];simpa using hj
def zsc(b off len cap i vb voff vc:Nat)(C vs:List Value)(w:World)(hi:i≤len)(hl:len≤cap)(hb:len≤1000000000)(hvb:vb≠b)(hR:RowIn w b off cap 2 C)(hC:C.length=len*2)(h1:∀u∈C,u.oneCell'=true)
  (hV:RowIn w vb voff 1 2 vs) (hvl:vs.length=2) (h1v:∀u∈vs,u.oneCell'=true) :
  Calls Tryz.prog 131 #[.slice (some ⟨b,off,none⟩) len cap,.int .i64 i,.slice (some ⟨vb,voff,none⟩) 1 vc] w (Put w b (len+1) (C.take (i*2)++vs++C.drop (i*2))):=by
 have hbl:=hR.lt;have ht:(C.take (i*2)).length=i*2:=by rw[H4,hC];omega
 have hd:(C.drop (i*2)).length=(len-i)*2:=by rw[Iw,hC];omega
 by_cases hin:i=len
 ·subst hin;have e1:C.take (i*2)++vs++C.drop (i*2)=C++vs:=by rw[Hz J,K4 J,Ip]
  rw[e1];by_cases hroom:i+1≤cap
  ·have hc:(i+1)*2≤cap*2:=Hy _ hroom;refine (zn0 b off i cap vb voff vc vs w hroom hvl (λj hj=>by rw[Iu];exact hR.room _ J) (λj hj=>by rw[Iu];exact hR.free _ J) hV.cell h1v).mono ?_;rintro e w' ⟨rfl,rfl⟩;refine⟨b,off,cap,rfl,hroom,(Turn.refl w b).cells (.inl rfl) _ _,RowIn.put hR (i*2) vs J λj u hj=>?_,.inl rfl⟩;by_cases h:j<i*2
   ·rw[Hk J]at hj;rw[Hq J];exact hj
   ·rw[H5 J,hC]at hj;have:=(Hf.1 hj).1;rw[Hs J];exact hj
  ·refine (zeg (some ⟨b,off,none⟩) i cap vb voff vc C vs w hl J hb hC hvl (λh=>Al) (λa h j v hj=>by cases h;rw[Addr.add_lit];exact hR.cell j v hj) (λa h=>Bw) hV.cell h1v).mono ?_;rintro e w' ⟨rfl,rfl⟩;have hG:=grownCap_ge w (i+1) cap 117;refine⟨w.heap.size,0,_,rfl,hG,(Turn.refl w b).drew.alloc _,RowIn.new w.drew _ _ _ _ _ ?_ λj u hj=>?_,.inr (Hm _)⟩
   ·rw[I3,I3,size_zeroCells];simp[hvl,hC];omega
   ·have:=(Hf.1 hj).1;rw[Je (by simpa using this)];simpa using hj
 ·by_cases hroom:len+1≤cap
  ·have hc:(len+1)*2≤cap*2:=Hy _ hroom;obtain⟨vsA,eA,loA,hiA,a1,a2,a3,a4⟩:=hV.has;obtain⟨vsB,eB,loB,hiB,b1,b2,b3,b4⟩:=hR.has;have hov:∃r w2,(∀cb,(callFunc 155 #[.slice (some ⟨vb,voff,none⟩) 1 vc,.slice (some ⟨b,off+(i+1)*2,none⟩) (len+1-(i+1)) cb]).run Tryz.prog w=.ok (.value (.bool r)) w2)∧w2.heap=w.heap∧w2.os=w.os∧w2.tape=w.tape∧w2.output=w.output:=by
    have hf:w.frozen? ⟨vb,voff,none⟩=false:=by have:=hV.free 0 J;simpa using this
    obtain⟨r,w2,q1,q2⟩:=zeq (P:=Tryz.prog) w 84 4 117 Tryz.underlying84 2 Tryz.sizeOf117 ⟨vb,voff,none⟩ ⟨b,off+(i+1)*2,none⟩ 1 vc (len+1-(i+1)) 0 hvb eA eB vsA.size vsB.size
     (by simp[World.shape?,a1]) (by simp[World.shape?,b1]) J J hf
    refine⟨r,w2,λcb=>?_,q2⟩;rw[run_callFunc_extern Tryz.func155 Aa Aa Aa (e:=Extern.SlicesOverlaps.overlaps #[84,84] #[4]) Aa];have q1':(Extern.SlicesOverlaps.overlaps #[84,84] #[4] #[.slice (some ⟨vb,voff,none⟩) 1 vc,.slice (some ⟨b,off+(i+1)*2,none⟩) (len+1-(i+1)) cb]).run Tryz.prog w=.ok (.bool r) w2:=q1;rw[q1'];rfl
   obtain⟨r,w2,hov,k1,k2,k3,k4⟩:=hov;have hT2:Turn w w2 b:=⟨k2,k3,k4,by rw[k1];exact Hm _,λk _ _=>by rw[k1]⟩;cases r with
   |true =>
    refine (Y6 b off len cap i vb voff 1 vc C vs w w2 J J J hb hroom hvb hC J hR hV.cell h1 h1v hT2 k1 hov).mono ?_;rintro e w' ⟨rfl,h⟩;exact⟨b,off,cap,rfl,hroom,h.out.1,h.out.2,.inl rfl⟩
   |false =>
    refine (zw4 b off len cap i vb voff 1 vc C vs w w2 J J J hb hroom hvb hC J hR.cell (λj hj=>hR.room j J) (λj hj=>hR.free j J) hV.cell h1 h1v k1 hov).mono ?_;rintro e w' ⟨rfl,rfl⟩;have hR2:RowIn w2.drew b off cap 2 C:=⟨by obtain⟨q1,q2,q3,q4,q5⟩:=hR.has;exact⟨q1,q2,q3,q4,by show w2.heap[b]?=_∧_;rw[k1];exact q5⟩⟩;have hR3:RowIn (w2.drew.setCells b (off+(i+1)*2) (C.drop (i*2))) b off cap 2 (C.take ((i+1)*2)++C.drop (i*2)):=RowIn.put hR2 ((i+1)*2) _ J λj u hj=>by
     by_cases h:j<(i+1)*2
     ·rw[Hq J];rw[Hk Bb,Ij h]at hj;exact hj
     ·rw[H5 Bb,H4,I2 J]at hj;have:=(Hf.1 hj).1;rw[Hs J];exact hj
    refine⟨b,off,cap,rfl,hroom,(hT2.drew.cells (.inl rfl) _ _).cells (.inl rfl) _ _,RowIn.put hR3 (i*2) vs J λj u hj=>?_,.inl rfl⟩;by_cases h:j<i*2
    ·rw[H7,Hk J,Ij h]at hj;rw[Hq J,Hk Bb,Ij J];exact hj
    ·rw[H7,H5 J,ht]at hj;by_cases h2:j<i*2+2
     ·rw[Hk J]at hj;rw[Hs J];exact hj
     ·rw[H5 J,hvl]at hj;rw[Hq J,H5 Bb,H4,I2 J,(J:j-(i+1)*2=j-i*2-2)];exact hj
  ·refine (Xw b off len cap i vb voff 1 vc C vs w J J J hl J hb hC J hbl hV.lt hR.cell hV.cell h1 h1v).mono ?_;rintro e w' ⟨G,ROW,g1,g2,g3,rfl,rfl⟩;have hN:RowIn (w.alloc (.cells ROW 117)) w.heap.size 0 G 2 (C.take (i*2)):=RowIn.new w ROW 117 G 2 _ J g3;have hG:(len+1)*2≤G*2:=Hy _ g1;have hR3:=RowIn.put (cs':=C.take (i*2)++vs) hN.drew (i*2) vs J (λj u hj=>by
    by_cases h:j<i*2
    ·rw[Hk J]at hj;rw[Hq J];exact hj
    ·rw[H5 J,ht]at hj;have:=(Hf.1 hj).1;rw[Hs J];exact hj)
   have hR4:=RowIn.put (cs':=C.take (i*2)++vs++C.drop (i*2)) hR3.drew ((i+1)*2) (C.drop (i*2)) J (λj u hj=>by
    have hl2:(C.take (i*2)++vs).length=(i+1)*2:=by rw[Hv,ht];omega
    by_cases h:j<(i+1)*2
    ·rw[Hk J]at hj;rw[Hq J];exact hj
    ·rw[H5 J,hl2]at hj;have:=(Hf.1 hj).1;rw[Hs J];exact hj)
   rw[Is]at hR4;rw[Is]at hR4;exact⟨w.heap.size,0,G,rfl,g1,((((Turn.refl w b).alloc _).drew.cells (.inr (Hm _)) _ _).drew).cells (.inr (Hm _)) _ _,hR4,.inr (Hm _)⟩
def del_right:lf Tryz.prog 86:=by
 intro w0 C H w args vs v H' hR hV h;have hk:Qc Tryz.prog 86=2:=Aa
 have hz:R7 Tryz.prog 86=2:=Aa
 rw[hk,hz]at h;change Z5 2 H args=.ok v H' at h;unfold Z5 at h;split at h
 ·rename_i o v0 j len esz room i i2;split at h
  ·rename_i hb;simp only[Hh]at hb;obtain⟨b1,b2,b3,b4,_,b6⟩:=hb;have b1:=Hn b1;have b2:i2=i+1:=Hn b2;have b3:=Hn b3;have b4:=Hw b4;have b6:len≤1000000000:=Hw b6;subst b1 b2 b3;split at h
   ·rename_i l hr;have hr:Pa H o v0 0 (len*2)=some l:=hr;unfold rowTo at h;split at h
    ·rename_i t clen ver hg;split at h
     ·rename_i hv;have hv:=Hn hv;subst hv;cases h;cases hV with
      |cons h1 hV =>
      cases hV with
      |cons h2 hV =>
      cases hV with
      |cons h3 hV =>
      cases hV;cases h2;cases h3;cases h1 with
      | @sl _ _ _ _ _ _ L cap hL p1 p2 p3 p4 p5 =>
       obtain⟨cs,c1,c2,c3,c4,c5⟩:=hR.rowIn Tryz.prog hg hL (len:=len) (k:=2) hr (cap:=cap) J;refine jy.of_calls (zs2 L.b (L.d+0) len cap i cs w b4 p3 b6 c1 c4 c5) ?_;rintro e w' ⟨b',d',cap',rfl,q1,q2,q3,q4⟩;have hl:(l.take (i*2)++l.drop ((i+1)*2)).length=(len-1)*2:=by
        have:=c2.length;simp only[Hv,H4,Iw];omega
       obtain⟨C',r1,r2,r3⟩:=hR.rowTo hg hL q2 q3 q4 q1 hl ((c2.take _).append (c2.drop _)) (λa ha=>by
        rcases Ib.1 ha with h|h
        ·exact c3 a (Kr h)
        ·exact c3 a (Jk h))
       exact⟨C',_,rfl,r1,r2,r3⟩
     ·cases h
    ·cases h
   ·cases h
  ·cases h
 ·cases h
def ins_right:lf Tryz.prog 131:=by
 intro w0 C H w args vs v H' hR hV h;have hk:Qc Tryz.prog 131=1:=Aa
 have hz:R7 Tryz.prog 131=2:=Aa
 rw[hk,hz]at h;change Um 2 H args=.ok v H' at h;unfold Um at h;split at h
 ·rename_i i o2 v2 i2 n2 esz2 room2;split at h
  ·rename_i hb;simp only[Hh]at hb;obtain⟨b1,b2,b3,_⟩:=hb;have b1:=Hn b1;have b2:=Hn b2;have b3:=Hn b3;subst b1 b2 b3;split at h
   ·rename_i x hx;cases h;cases hV with
    |cons h1 hV =>
    cases hV with
    |cons h2 hV =>
    cases hV with
    |cons h3 hV =>
    cases hV;cases h1;cases h2;cases h3 with
    | @sl _ _ _ _ _ _ L2 cap2 hL2 p1 p2 p3 p4 p5 =>
     obtain⟨ws,_,s2,s3,s4,_,s6⟩:=hR.read Tryz.prog hx hL2;have hwl:ws.length=2:=by rw[←s2.length];exact s4
     refine jy.of_calls (zrz 0 0 L2.b (L2.d+i2) cap2 ws w hwl (λj u hj=>by
      have:=(Hf.1 hj).1;rw[Iu,s6 j J];exact hj) (s2.one s3)) ?_
     rintro e w' ⟨A,G,g1,g2,g3,rfl,rfl⟩;have htk:A.toList.take 2=ws:=by
      apply List.ext_getElem?;intro j;by_cases hj:j<2
      ·rw[Ij hj];have:=g3 j _ (Hj (J:j<ws.length));rw[Array.getElem?_toList,this,Hj]
      ·rw[K8 Bb,K8 J]
     have hn:Sv.newObj H x=some (H.next,H.push (.cells (Ou x 0 .e) x.length 0 false)):=rfl;obtain⟨C',r1,r2,r3⟩:=hR.drew.newRow hn 117 (0,0) (vs:=A) J (by rw[s4,htk];exact s2) s3 U;refine⟨C',_,rfl,r1,r2,?_⟩;have:=VR.sl (i:=0) (len:=1) (esz:=2) (room:=none) (cap:=G) r3 Aq Aq g1 (λr hr=>by cases hr) (λ_=>Aq);simpa using this
   ·cases h
  ·cases h
 ·rename_i o v0 j len esz room i o2 v2 i2 n2 esz2 room2;split at h
  ·rename_i hb;simp only[Hh,Ki]at hb;obtain⟨b0,b1,b2,b3,b4,b5,_,b7⟩:=hb;have b0:o≠o2:=λe=>by rw[e,Ii]at b0;cases b0
   have b1:=Hn b1;have b2:=Hn b2;have b3:=Hn b3;have b4:=Hn b4;have b5:=Hw b5;have b7:len≤1000000000:=Hw b7;subst b1 b2 b3 b4;split at h
   ·rename_i l hr;have hr:Pa H o v0 0 (len*2)=some l:=hr;split at h
    ·rename_i x hx;unfold rowTo at h;split at h
     ·rename_i t clen ver hg;split at h
      ·rename_i hv;have hv:=Hn hv;subst hv;cases h;cases hV with
       |cons h1 hV =>
       cases hV with
       |cons h2 hV =>
       cases hV with
       |cons h3 hV =>
       cases hV;cases h2;cases h3 with
       | @sl _ _ _ _ _ _ L2 cap2 hL2 a1 a2 a3 a4 a5 =>
        cases h1 with
        | @sl _ _ _ _ _ _ L cap hL p1 p2 p3 p4 p5 =>
         obtain⟨cs,c1,c2,c3,c4,c5⟩:=hR.rowIn Tryz.prog hg hL (len:=len) (k:=2) hr (cap:=cap) J;have hB:w0.heap.size≤L.b:=(hR.obj o _ (hR.fresh _ _ _ hL) hg L hL).2.1 rfl;have hne:L2.b≠L.b:=λe=>b0 (hR.excl _ _ _ _ _ _ hL hL2 e.symm hB)
         obtain⟨ws,_,s2,s3,s4,s5,s6⟩:=hR.read Tryz.prog hx hL2;have hwl:ws.length=2:=by rw[←s2.length];exact s4
         have hV2:RowIn w L2.b (L2.d+i2) 1 2 ws:=by
          obtain⟨t2,clen2,ver2,ro2,hg2,hv2⟩:∃t2 clen2 ver2 ro2,H.get o2=some (.cells t2 clen2 ver2 ro2)∧ver2=v2:=by
           unfold Pa at hx;split at hx
           ·rename_i c2 l2 ve2 r2 hg2;split at hx
            ·rename_i e2;exact⟨_,_,_,_,hg2,(Hn e2).symm⟩
            ·cases hx
           ·cases hx
          subst hv2;obtain⟨f1,_,f3,vs',e,lo,hi,f4,f5,f6,f7⟩:=hR.obj o2 _ (hR.fresh _ _ _ hL2) hg2 L2 hL2;refine⟨vs',e,lo,hi,f4,J,λk q1 q2=>f6 k J J,λk u hk=>?_⟩;have hk2:=(Hf.1 hk).1;have:=s6 k J;rw[fy f4,hk,←Iu]at this;exact this
         refine jy.of_calls (zsc L.b (L.d+0) len cap i L2.b (L2.d+i2) cap2 cs ws w b5 p3 b7 hne c1 c4 c5 hV2 hwl (s2.one s3)) ?_;rintro e w' ⟨b',d',cap',rfl,q1,q2,q3,q4⟩;have hl:(l.take (i*2)++x++l.drop (i*2)).length=(len+1)*2:=by
          have:=c2.length;simp only[Hv,H4,Iw];omega
         obtain⟨C',r1,r2,r3⟩:=hR.rowTo hg hL q2 q3 q4 q1 hl (((c2.take _).append s2).append (c2.drop _)) (λa ha=>by
          rcases Ib.1 ha with h|h
          ·rcases Ib.1 h with h|h
           ·exact c3 a (Kr h)
           ·exact s3 a h
          ·exact c3 a (Jk h))
         exact⟨C',_,rfl,r1,r2,r3⟩
      ·cases h
     ·cases h
    ·cases h
   ·cases h
  ·cases h
 ·cases h
end
section
set_option linter.unusedVariables false
def z6h:LC:=(.q [.z 4 (.alloc [(.i 0),(.i 0),(.i 0)])] (.seq (.q [.m 7 0,.N 8 7,.f 9 1 8,.l 10 9,.s 11 10,.K 12 0] (.block 0 (.loop (.q [.c 13 .lss 3 12 11] (.seq (.cond (.t 13) .skip (.exit 0)) (.seq (.block 1 (.q [.m 14 12,.I 15 2 10 12,.L 16 2 15,.z 6 (.alloc [(.i 0),(.i 0)]),.m 5 14,.S 2 6 16] (.seq (.q [.f 17 1 6,.l 18 17,.f 19 0 6,.l 20 19,.c 21 .sub 3 18 20,.m 22 1,.c 23 .lss 3 21 22] (.cond (.t 23) (.exit 1) .skip)) (.q [.m 24 0,.N 25 24,.f 26 1 25,.l 27 26,.m 28 5,.I 29 2 27 28,.f 30 0 29,.l 31 30,.m 32 1,.c 33 .add 3 31 32,.I 34 2 27 28,.f 35 0 34,.S 1 35 33] (.seq (.seq (.draw [(.m 36 0,[]),(.N 37 36,[]),(.f 38 1 37,[]),(.l 39 38,[]),(.m 40 5,[]),(.I 41 2 39 40,[]),(.f 42 0 41,[]),(.l 43 42,[]),(.f 44 1 6,[]),(.l 45 44,[]),(.c 46 .eql 3 43 45,[])]) (.cond (.t 46) (.ops [.m 47 0,.m 48 0,.N 49 48,.f 50 1 49,.l 51 50,.m 52 5,.m 53 5,.b 54 .add 3 53 1,.V 55 86 51 52 54,.N 56 47,.f 57 1 56,.S 1 57 55]) .skip)) (.seq (.draw [(.m 58 0,[]),(.N 59 58,[]),(.f 60 0 59,[]),(.l 61 60,[]),(.f 62 0 6,[]),(.l 63 62,[]),(.m 64 1,[]),(.z 65 (.build [(.i 0),(.i 0),(.i 0)] [(0,1,.t 61),(1,1,.t 63),(2,1,.t 64)]),[]),(.S 3 4 65,[])]) .ret)))))) (.ops [.b 66 .add 3 12 1,.m 12 66]))))))) (.q [.m 67 0,.N 68 67,.f 69 2 68,.l 70 69,.m 71 1,.c 72 .add 3 70 71,.N 73 67,.f 74 2 73,.S 1 74 72] (.seq (.draw [(.m 75 0,[]),(.N 76 75,[]),(.f 77 0 76,[]),(.l 78 77,[]),(.m 79 0,[]),(.N 80 79,[]),(.f 81 2 80,[]),(.l 82 81,[]),(.m 83 1,[]),(.c 84 .sub 3 82 83,[]),(.m 85 1,[]),(.z 86 (.build [(.i 0),(.i 0),(.i 0)] [(0,1,.t 78),(1,1,.t 84),(2,1,.t 85)]),[]),(.S 3 4 86,[])]) .ret))))
def r_buffers_store_take:Mt Tryz.prog 47=some ⟨87,z6h.r,[.cellN 4 3]⟩:=Aa
def ins_tgt:ef Tryz.prog (.fn 131):=⟨Aa,Aa⟩
def del_tgt:ef Tryz.prog (.fn 86):=⟨Aa,Aa⟩
def ins_k:Qc Tryz.prog 131=1:=Aa
def del_k:Qc Tryz.prog 86=2:=Aa
def ins_z:R7 Tryz.prog 131=2:=Aa
def del_z:R7 Tryz.prog 86=2:=Aa
def Tg(p:Mh)(j:LV)(r:Option Nat)(H:List Hl):Prop:=match r with
 |none=>j=.nilSl∧H=[]
 |some q=>∃g st,j=.dy q g∧p[q]?=some (.dyn (Mu H) H.length 2 g st)
def Tg.old{G G':Mh}{hv:LV}{r:Option Nat}{H:List Hl}(h:Tg G hv r H)(ho:∀q,r=some q→G'[q]?=G[q]?):Tg G' hv r H:=by
 cases r with
 |none=>exact h
 |some q=>obtain⟨gg,st,h1,h2⟩:=h;exact⟨gg,st,h1,by rw[ho q rfl];exact h2⟩
def Tg.len{G:Mh}{hv:LV}{r:Option Nat}{H:List Hl}(h:Tg G hv r H):∀K,lenL G hv K=K H.length:=by
 intro K;cases r with
 |none=>obtain⟨rfl,rfl⟩:=h;rfl
 |some q=>obtain⟨gg,st,rfl,h2⟩:=h;rw[lenL_dy,h2,zkj];simp
def HoB(g:List Hl)(m:Int):Prop:=∀j,j<g.length→0≤(gs g j).1∧(gs g j).1≤(gs g j).2∧(gs g j).2≤m
def z7p{s st:Nat}{n:Int}{hv:LV}{r:Option Nat}{H:List Hl}(hs:L[s]?=some (.cells [.i z,hv,.i P] st))(hh:Tg L hv r H)
  (hz:0≤P∧P≤1000000000) (hn:1≤n∧n≤1000000000) (hb:HoB H 1000000000) (hl:H.length≤1000000)
  (k:∀G' gG gM,(∀x,x<L.length→x≠s→r≠some x→G'[x]?=L[x]?)→L.length≤G'.length→G'[s]?=some (.cells [.i z,gG,.i (Ok n ⟨H,P⟩).2.size] gM)→Tg G' gG r (Ok n ⟨H,P⟩).2.holes→Q (.agg [.i z,.i (Ok n ⟨H,P⟩).1,.i n]) G') :
  Oa (.fn 47) [.ptr s 0,.i n] L Q:=by
 refine Mq r_buffers_store_take Aa U ?_;have gO:=(Hf.1 hs).1;obtain⟨G0,M⟩:∃G0,G0=L++[LObj.cells [LV.i 0,LV.i 0,LV.i 0] 0]:=⟨_,rfl⟩;have o0:∀x,x<L.length→G0[x]?=L[x]?:=λx j=>by rw[M];exact Hk j
 have l0:G0.length=L.length+1:=by rw[M];simp
 have z0:G0[L.length]?=some (.cells [.i 0,.i 0,.i 0] 0):=by rw[M];simp
 have F:∀q,r=some q→q<L.length∧q≠s:=λq E=>by
  subst E;obtain⟨g,gT,_,h2⟩:=hh;refine⟨(Hf.1 h2).1,λe=>?_⟩;rw[e,hs]at h2;cases h2
 have s0:=(o0 s gO).trans hs;have H0:Tg G0 hv r H:=hh.old λq E=>o0 q (F q E).1
 simp[z6h];rw[←M];simp[s0,H0.len];refine M2 (λρ jp A N=>∃(i:Nat),jp=[]∧N+i=H.length∧lk ρ 0=.ptr s 0∧lk ρ 1=.i n∧lk ρ 4=.ptr L.length 0∧lk ρ 10=hv∧lk ρ 11=.i H.length∧lk ρ 12=.i i∧(∀x,x<L.length+1→A[x]?=G0[x]?)∧L.length+1≤A.length∧(∀gL,gL<i→(gs H gL).2-(gs H gL).1<n))
  (N:=H.length) ⟨0,rfl,J,U,U,U,U,U,U,λ_ _=>rfl,J,λgL hj=>J⟩ ?_
 rintro N ρ jp A ⟨i,rfl,hN,h0,O,h4,gC,R,gD,ho,gV,G⟩ Nx gP;have s1:=(ho s J).trans s0;have z1:=(ho _ J).trans z0;have H1:Tg A hv r H:=H0.old λq E=>ho q (by have:=(F q E).1;omega)
 by_cases hi:H.length≤i
 ·have gF:¬i<H.length:=J
  have ls:s<A.length:=J
  simp[h0,O,R,gD,gF,s1];refine⟨J,?_⟩;obtain⟨C,p⟩:∃C,C=A.set s (.cells [.i z,hv,.i (P+n)] (st+1)):=⟨_,rfl⟩;have S:∀x,x≠s→C[x]?=A[x]?:=λx j=>by rw[p,Hg (λe=>j e.symm)]
  have l2:C.length=A.length:=by rw[p];simp
  have s2:C[s]?=some (.cells [.i z,hv,.i (P+n)] (st+1)):=by rw[p];exact Hi ls
  have z2:=(S L.length J).trans z1;rw[←p];simp[h0,O,h4,s2,z2];refine⟨J,?_⟩;rw[Hi J];simp;have I:Ok n ⟨H,P⟩=(P,⟨H,P+n⟩):=by
   unfold Ok;dsimp only;rw[zj7 H (λgL hj=>G gL J)]
  rw[I]at k;refine k _ hv (st+1) (λx j T V=>?_) Ab ?_ (Tg.old hh λq E=>?_)
  ·rw[Hg J,S x T,ho x J,o0 x j]
  ·rw[Hg J];exact s2
  ·have:=F q E;rw[Hg J,S q this.2,ho q J,o0 q this.1]
 ·have gF:i<H.length:=J
  cases r with
  |none=>obtain⟨_,rfl⟩:=hh;simp at gF
  |some q =>
  obtain⟨g,D,rfl,E⟩:=H1;have gH:=zol gF;have gZ:=se H;have gB:min 2 ((Mu H).length-i*2)=2:=J
  have gI:i*2+2≤(Mu H).length:=J
  obtain⟨b1,b2,b3⟩:=hb i gF;obtain⟨xy,g8⟩:∃xy,xy=gs H i:=⟨_,rfl⟩;have lq:q<A.length:=(Hf.1 E).1;have ls:s<A.length:=(Hf.1 s1).1;have gE:=(F q rfl).2;by_cases hw:(gs H i).2-(gs H i).1<n
  ·simp[gC,R,gD,gF,E,gH,Ng,gB,gI,O,h0,hw];refine⟨J,J,gP _ _ _ ⟨N-1,J,i+1,rfl,J,Cs,Bc,Df,by simp[gC],C7,U,λx j=>?_,Ab,λgL hj=>?_⟩⟩
   ·rw[Mn J];exact ho x j
   ·by_cases e:gL=i
    ·rw[e];exact hw
    ·exact G gL J
  ·have g9:n≤(gs H i).2-(gs H i).1:=J
   obtain⟨C,p⟩:∃C,C=A++[LObj.cells [.i (gs H i).1,.i (gs H i).2] 1]:=⟨_,rfl⟩;have S:∀x,x<A.length→C[x]?=A[x]?:=λx j=>by rw[p];exact Hk j
   have l2:C.length=A.length+1:=by rw[p];simp
   have c2:C[A.length]?=some (.cells [.i (gs H i).1,.i (gs H i).2] 1):=by rw[p];simp
   have s2:=(S s ls).trans s1;have q2:=(S q lq).trans E;simp[gC,R,gD,gF,E,gH,Ng,gB,gI,O,h0,hw];refine⟨J,?_⟩;rw[←p];have gQ:i*2+1≤(Mu H).length:=J
   simp[s2,q2,gF,Mi (pk gF),gQ,O];refine⟨J,?_⟩;rw[Xb gF];obtain⟨B,K⟩:∃B,B=H.set i ((gs H i).1+n,(gs H i).2):=⟨_,rfl⟩;have gR:B.length=H.length:=by rw[K,Js]
   have gS:gs B i=((gs H i).1+n,(gs H i).2):=by
    rw[K];simp[gs,gF]
   have g3:i<B.length:=J
   rw[←K,←gR];obtain⟨G3,X⟩:∃G3,G3=C.set q (.dyn (Mu B) B.length 2 g (D+1)):=⟨_,rfl⟩;have o3:∀x,x≠q→G3[x]?=C[x]?:=λx j=>by rw[X,Hg (λe=>j e.symm)]
   have l3:G3.length=C.length:=by rw[X];simp
   have q3:G3[q]?=some (.dyn (Mu B) B.length 2 g (D+1)):=by rw[X];exact Hi J
   have s3:=(o3 s (λe=>gE e.symm)).trans s2;have jg:=(F q rfl).1;have c3:=(o3 A.length J).trans c2;have z3:=(o3 L.length J).trans ((S _ J).trans z1);rw[←X];have Y:=pk g3;rw[gS]at Y;dsimp only at Y;have gK:=zq8 (n:=n) H i gF G hw;by_cases he:(gs H i).1+n=(gs H i).2
   ·simp[h0,O,s3,q3,c3,g3,Mi Y,he];refine⟨J,?_⟩;rw[(J:(i:Int)+1=((i+1:Nat):Int))];refine zlc del_tgt del_k del_right del_z q3 g3 An J ?_;rw[zv7];obtain⟨G4,Z⟩:∃G4,G4=G3.set q (.dyn (Mu (B.take i++B.drop (i+1))) (B.length-1) 2 (g+1) (D+1+1)):=⟨_,rfl⟩;have o4:∀x,x≠q→G4[x]?=G3[x]?:=λx j=>by rw[Z,Hg (λe=>j e.symm)]
    have l4:G4.length=G3.length:=by rw[Z];simp
    have q4:G4[q]?=some (.dyn (Mu (B.take i++B.drop (i+1))) (B.length-1) 2 (g+1) (D+1+1)):=by rw[Z];exact Hi J
    have s4:=(o4 s (λe=>gE e.symm)).trans s3;have c4:=(o4 A.length J).trans c3;have z4:=(o4 L.length J).trans z3;rw[←Z];simp[s4];obtain⟨G5,gg⟩:∃G5,G5=G4.set s (.cells [.i z,.dy q (g+1),.i P] (st+1)):=⟨_,rfl⟩;have o5:∀x,x≠s→G5[x]?=G4[x]?:=λx j=>by rw[gg,Hg (λe=>j e.symm)]
    have l5:G5.length=G4.length:=by rw[gg];simp
    have s5:G5[s]?=some (.cells [.i z,.dy q (g+1),.i P] (st+1)):=by rw[gg];exact Hi J
    have q5:=(o5 q gE).trans q4;have c5:=(o5 A.length J).trans c4;have z5:=(o5 L.length J).trans z4;rw[←gg];simp[h0,O,h4,s5,c5,z5];rw[Hi J];simp;have I:Ok n ⟨H,P⟩=((gs H i).1,⟨B.take i++B.drop (i+1),P⟩):=by
     unfold Ok;dsimp only;rw[gK,Hs he,K,L4 J,List.drop_set_of_lt J]
    rw[I]at k;refine k _ (.dy q (g+1)) (st+1) (λx j T V=>?_) Ab ?_ ⟨g+1,D+1+1,rfl,?_⟩
    ·have gA:x≠q:=λe=>V Dl
     rw[Hg J,o5 x T,o4 x gA,o3 x gA,S x J,ho x J,o0 x j]
    ·rw[Hg J];exact s5
    ·rw[Hg J,q5]
     congr 2
     rw[Hv,H4,Iw];omega
   ·simp[h0,O,h4,s3,q3,c3,z3,g3,Mi Y,he];rw[Hi J];simp;have I:Ok n ⟨H,P⟩=((gs H i).1,⟨B,P⟩):=by
     unfold Ok;dsimp only;rw[gK,Hq he,K,I5,Hs gF]
    rw[I]at k;refine k _ (.dy q g) st (λx j T V=>?_) Ab ?_ ⟨g,D+1,rfl,?_⟩
    ·have gA:x≠q:=λe=>V Dl
     rw[Hg J,o3 x gA,S x J,ho x J,o0 x j]
    ·rw[Hg J];exact s3
    ·rw[Hg J];exact q3
end
end Go.Proofs.YtgjbfhmmgeplmaaGreat
end
