/- The templates: see the main text. -/
import Derived.Test.YtodjkjimaheggaaGreatSvG2
import Derived.Test.YtodjkjimaheggaaGreatProg
import Derived.KernelRfl
import Derived.Test.YtodjkjimaheggaaGreatSvG3
import Derived.Test.YtodjkjimaheggaaGreatSvG4
noncomputable section
namespace Go.Proofs.YtodjkjimaheggaaGreat
open Go.Sv
set_option linter.unusedSimpArgs false
set_option maxRecDepth 10000
def Nq:LC:=(.q [.z 2 (.move (.k 0)),.z 3 (.move .F)] (.seq (.q [.m 4 0] (.block 0 (.q [.z 6 (.bin .eql true 3 (.t 4) (.k 1)),.m 5 6] (.cond (.t 5) (.q [.z 2 (.move (.k 1)),.z 3 (.move .T)] .ret) (.q [.z 8 (.bin .eql true 3 (.t 4) (.k 2)),.m 7 8] (.cond (.t 7) (.q [.z 2 (.move (.k 5)),.z 3 (.move .T)] .ret) (.seq (.q [.z 10 (.bin .eql true 3 (.t 4) (.k 3)),.m 9 10] (.cond (.t 9) .skip (.q [.z 11 (.bin .eql true 3 (.t 4) (.k 4)),.m 9 11] (.cond (.t 9) .skip (.q [.z 12 (.bin .eql true 3 (.t 4) (.k 5)),.m 9 12] (.cond (.t 9) .skip (.q [.z 13 (.bin .eql true 3 (.t 4) (.k 6)),.m 9 13] (.cond (.t 9) .skip (.ops [.z 14 (.bin .eql true 3 (.t 4) (.k 7)),.m 9 14]))))))))) (.cond (.t 9) (.q [.z 2 (.move (.k 13)),.z 3 (.move .T)] .ret) (.seq (.q [.z 16 (.bin .eql true 3 (.t 4) (.k 8)),.m 15 16] (.cond (.t 15) .skip (.q [.z 17 (.bin .eql true 3 (.t 4) (.k 10)),.m 15 17] (.cond (.t 15) .skip (.q [.z 18 (.bin .eql true 3 (.t 4) (.k 11)),.m 15 18] (.cond (.t 15) .skip (.q [.z 19 (.bin .eql true 3 (.t 4) (.k 12)),.m 15 19] (.cond (.t 15) .skip (.ops [.z 20 (.bin .eql true 3 (.t 4) (.k 13)),.m 15 20]))))))))) (.cond (.t 15) (.q [.z 2 (.move (.k 29)),.z 3 (.move .T)] .ret) (.q [.z 22 (.bin .eql true 3 (.t 4) (.k 9)),.m 21 22] (.cond (.t 21) (.q [.z 2 (.move (.k 21)),.z 3 (.move .T)] .ret) (.q [.z 24 (.bin .eql true 3 (.t 4) (.k 14)),.m 23 24] (.cond (.t 23) (.q [.z 2 (.move (.k 19)),.z 3 (.move .T)] .ret) (.seq (.q [.z 26 (.bin .eql true 3 (.t 4) (.k 15)),.m 25 26] (.cond (.t 25) .skip (.ops [.z 27 (.bin .eql true 3 (.t 4) (.k 16)),.m 25 27]))) (.cond (.t 25) (.q [.z 2 (.move (.k 0)),.z 3 (.move .T)] .ret) .skip)))))))))))))))) (.q [.z 2 (.move (.k 0)),.z 3 (.move .F)] .ret)))
theorem r_lengths_shape:Fg Tryz.prog 187=some ⟨28,Nq.r,[.tmp 2,.tmp 3]⟩:=by kernel_rfl
theorem k_lengths_shape:Nq.ok=true:=by kernel_rfl
def z2o:LC:=(.q [.z 1 (.box (.t 0)),.z 2 (.move .F)] (.seq (.q [.f 3 0 1,.l 4 3] (.block 0 (.q [.z 6 (.bin .eql true 3 (.t 4) (.k 1)),.m 5 6] (.cond (.t 5) (.q [.z 2 (.move .T)] .ret) (.q [.z 8 (.bin .eql true 3 (.t 4) (.k 13)),.m 7 8] (.cond (.t 7) (.q [.f 9 6 1,.l 10 9,.z 11 (.bin .geq true 23 (.t 10) (.c (.u 1))),.m 12 11,.y 13 12 (.fieldAddr 6 (.t 1)),.y 14 12 (.load1 (.t 13)),.y 15 12 (.bin .leq true 23 (.t 14) (.c (.u 6))),.z 16 (.pick (.t 12) (.t 15) .F),.m 2 16] .ret) (.q [.z 18 (.bin .eql true 3 (.t 4) (.k 15)),.m 17 18] (.cond (.t 17) (.q [.f 19 6 1,.l 20 19,.z 21 (.bin .geq true 23 (.t 20) (.c (.u 1))),.m 22 21,.y 23 22 (.fieldAddr 6 (.t 1)),.y 24 22 (.load1 (.t 23)),.y 25 22 (.bin .leq true 23 (.t 24) (.c (.u 4096))),.z 26 (.pick (.t 22) (.t 25) .F),.m 2 26] .ret) .skip)))))))) (.q [.f 27 6 1,.l 28 27,.z 29 (.bin .eql true 23 (.t 28) (.c (.u 0))),.m 2 29] .ret)))
theorem r_lengths_number:Fg Tryz.prog 188=some ⟨30,z2o.r,[.tmp 2]⟩:=by kernel_rfl
theorem k_lengths_number:z2o.ok=true:=by kernel_rfl
def z84:LC:=(.q [.z 1 (.box (.t 0)),.z 2 (.alloc [(.i 0),(.i 0),(.i 0),(.i 0),(.i 0)])] (.q [.f 3 1 1,.l 4 3,.f 5 2 1,.l 6 5,.f 7 3 1,.l 8 7,.f 9 4 1,.l 10 9,.f 11 5 1,.l 12 11,.z 13 (.build [(.i 0),(.i 0),(.i 0),(.i 0),(.i 0)] [(0,1,.t 4),(1,1,.t 6),(2,1,.t 8),(3,1,.t 10),(4,1,.t 12)]),.v (.store 5 (.t 2) (.t 13))] .ret))
theorem r_lengths_parts:Fg Tryz.prog 189=some ⟨14,z84.r,[.cellN 2 5]⟩:=by kernel_rfl
theorem k_lengths_parts:z84.ok=true:=by kernel_rfl
def z8q:LC:=(.q [.z 1 (.box (.t 0)),.z 2 (.move .F)] (.q [.f 3 2 1,.l 4 3,.z 5 (.bin .eql true 3 (.t 4) (.k 1)),.m 6 5,.n 7 6 (.fieldAddr 2 (.t 1)),.n 8 6 (.load1 (.t 7)),.n 9 6 (.bin .eql true 3 (.t 8) (.k 2)),.z 10 (.pick (.t 6) .T (.t 9)),.m 2 10] .ret))
theorem r_lengths_given:Fg Tryz.prog 167=some ⟨11,z8q.r,[.tmp 2]⟩:=by kernel_rfl
theorem k_lengths_given:z8q.ok=true:=by kernel_rfl
def z4y:LC:=(.q [.z 3 (.move .F)] (.q [.m 4 0,.z 5 (.bin .geq true 3 (.t 4) (.k 0)),.m 6 5,.my 7 6 0,.y 8 6 (.load1 (.t 1)),.y 9 6 (.lenSl (.t 8)),.y 10 6 (.bin .lss false 3 (.t 7) (.t 9)),.z 11 (.pick (.t 6) (.t 10) .F),.m 3 11] .ret))
theorem r_lengths_need_1:Fg Tryz.prog 186=some ⟨12,z4y.r,[.tmp 3]⟩:=by kernel_rfl
theorem k_lengths_need_1:z4y.ok=true:=by kernel_rfl
def z3n:LC:=(.q [.z 2 (.box (.t 0)),.z 3 (.box (.t 1)),.z 4 (.move .F)] (.q [.z 6 (.mkFunc 186 [] [.t 2]),.m 5 6] (.seq (.q [.f 7 1 3,.l 8 7,.z 9 (.bin .neq true 3 (.t 8) (.k (-1))),.m 10 9,.n 11 10 (.fieldAddr 2 (.t 3)),.n 12 10 (.load1 (.t 11)),.n 13 10 (.bin .neq true 3 (.t 12) (.k (-1))),.z 14 (.pick (.t 10) .T (.t 13)),.m 15 14,.n 16 15 (.fieldAddr 5 (.t 3)),.n 17 15 (.load1 (.t 16)),.n 18 15 (.bin .neq true 3 (.t 17) (.k (-1))),.z 19 (.pick (.t 15) .T (.t 18)),.m 20 19,.mn 21 20 5,.n 22 20 (.fieldAddr 3 (.t 3)),.n 23 20 (.load1 (.t 22)),.n 24 20 (.callV (.t 21) [.t 23]),.n 25 20 (.un .not (.t 24)),.z 26 (.pick (.t 20) .T (.t 25))] (.cond (.t 26) (.q [.z 4 (.move .F)] .ret) .skip)) (.seq (.q [.f 27 6 3,.l 28 27] (.block 0 (.q [.z 30 (.bin .eql true 23 (.t 28) (.c (.u 2))),.m 29 30] (.cond (.t 29) (.q [.m 31 5,.f 32 4 3,.l 33 32,.z 34 (.callV (.t 31) [.t 33]),.m 4 34] .ret) (.seq (.q [.z 36 (.bin .eql true 23 (.t 28) (.c (.u 1))),.m 35 36] (.cond (.t 35) .skip (.ops [.z 37 (.bin .eql true 23 (.t 28) (.c (.u 3))),.m 35 37]))) (.cond (.t 35) (.q [.f 38 4 3,.l 39 38,.z 40 (.bin .eql true 3 (.t 39) (.k (-1))),.m 4 40] .ret) .skip)))))) (.q [.z 4 (.move .F)] .ret)))))
theorem r_lengths_need:Fg Tryz.prog 166=some ⟨41,z3n.r,[.tmp 4]⟩:=by kernel_rfl
theorem k_lengths_need:z3n.ok=true:=by kernel_rfl
def z2k:LC:=(.q [.z 4 (.move (.k 0))] (.seq (.q [.m 6 0,.z 7 (.lenSl (.t 6)),.z 8 (.move (.k 0))] (.block 0 (.loop (.q [.z 9 (.bin .lss false 3 (.t 8) (.t 7))] (.seq (.cond (.t 9) .skip (.exit 0)) (.seq (.block 1 (.q [.m 10 8,.m 5 10] (.q [.m 11 1,.m 12 0,.m 13 5,.z 14 (.ixAddr 1 (.t 12) (.t 13)),.l 15 14,.z 16 (.callV (.t 11) [.t 15])] (.cond (.t 16) (.q [.m 17 5,.m 4 17] .ret) .skip)))) (.ops [.z 18 (.bin .add true 3 (.t 8) (.k 1)),.m 8 18]))))))) (.q [.z 4 (.move (.k (-1)))] .ret)))
theorem r_slices_IndexFunc_int_int:Fg Tryz.prog 192=some ⟨19,z2k.r,[.tmp 4]⟩:=by kernel_rfl
theorem k_slices_IndexFunc_int_int:z2k.ok=true:=by kernel_rfl
def z20:LC:=(.q [.z 4 (.move .F)] (.q [.m 5 0,.m 6 1,.z 7 (.w 192 [.t 5,.t 6]),.z 8 (.bin .geq true 3 (.t 7) (.k 0)),.m 4 8] .ret))
theorem r_slices_ContainsFunc_int_int:Fg Tryz.prog 169=some ⟨9,z20.r,[.tmp 4]⟩:=by kernel_rfl
theorem k_slices_ContainsFunc_int_int:z20.ok=true:=by kernel_rfl
theorem eqbP (a b:Bool):J9 Tryz.prog false 4 (.bool a) (.bool b)=some (a==b):=by cases a<;>cases b<;>kernel_rfl
theorem zgd (k:Int):Fq Tryz.prog 187 [.i k] (.tup [.i (((I9 k).getD 0:Nat):Int),.bool (I9 k).isSome]) []:=by
 refine Fq.val rfl (E8 r_lengths_shape k_lengths_shape (by simp) ?_);by_cases m:k=1;· subst m;simp[Nq,I9]
 by_cases o:k=2;· subst o;simp[Nq,I9]
 by_cases p:k=3;· subst p;simp[Nq,I9]
 by_cases q:k=4;· subst q;simp[Nq,I9]
 by_cases r:k=5;· subst r;simp[Nq,I9]
 by_cases s:k=6;· subst s;simp[Nq,I9]
 by_cases w:k=7;· subst w;simp[Nq,I9]
 by_cases x:k=8;· subst x;simp[Nq,I9]
 by_cases y:k=9;· subst y;simp[Nq,I9]
 by_cases a:k=10;· subst a;simp[Nq,I9]
 by_cases d:k=11;· subst d;simp[Nq,I9]
 by_cases f:k=12;· subst f;simp[Nq,I9]
 by_cases g:k=13;· subst g;simp[Nq,I9]
 by_cases h:k=14;· subst h;simp[Nq,I9]
 by_cases j:k=15;· subst j;simp[Nq,I9]
 by_cases l:k=16;· subst l;simp[Nq,I9]
 simp[Nq,I9,m,o,p,q,r,s,w,x,y,a,d,f,g,h,j,l]
theorem zf9 (o:Ko):Fq Tryz.prog 188 [.agg o.f] (.bool (Jz o)) []:=by
 refine Fq.val rfl (E8 r_lengths_number k_lengths_number (by simp) ?_);by_cases a:o.kind=1;· simp[z2o,Ko.f,Jz,a]
 by_cases d:o.kind=13
 ·by_cases g:1≤o.imm<;>simp[z2o,Ko.f,Jz,a,d,g]
 by_cases f:o.kind=15
 ·by_cases g:1≤o.imm<;>simp[z2o,Ko.f,Jz,a,d,f,g]
 simp[z2o,Ko.f,Jz,a,d,f]
theorem zaz (o:Ko):Fq Tryz.prog 189 [.agg o.f] (.agg [.i o.d,.i o.e,.i o.a,.i o.b,.i o.c]) []:=by
 refine Fq.val rfl (E8 r_lengths_parts k_lengths_parts (by simp) ?_);simp[z84,Ko.f]
theorem zb7 (v:Vr):Fq Tryz.prog 167 [.agg v.f] (.bool (Ka v)) []:=by
 refine Fq.val rfl (E8 r_lengths_given k_lengths_given (by simp) ?_);by_cases a:v.mode=1<;>simp[z8q,Vr.f,Ka,a]
theorem zkx {G:Ev}{p n st:Nat}{c:List LV}(v:Int){K:LV→Ev→Prop}(a:G[p]?=some (.cells [.lst c n 3] st))(k:K (.bool (Pv n v)) G):Fh Tryz.prog (.fn 186) [.i v,.ptr p 0] G K:=by
 refine E8 r_lengths_need_1 k_lengths_need_1 (by simp) ?_;by_cases d:0≤v
 ·by_cases f:v<n<;>simp[z4y,a,Pv,d,f] at k ⊢<;>exact k
 ·simp[z4y,a,Pv,d] at k ⊢;exact k
theorem zbx (c:List LV)(n:Nat)(o:Ko):Fq Tryz.prog 166 [.lst c n 3,.agg o.f] (.bool (Pb n o)) []:=by
 refine Fq.val rfl (E8 r_lengths_need k_lengths_need (by simp) ?_);by_cases a:o.d=-1
 case neg=>simp[z3n,Ko.f,Pb,a]
 by_cases d:o.e=-1
 case neg=>simp[z3n,Ko.f,Pb,a,d]
 by_cases f:o.c=-1
 case neg=>simp[z3n,Ko.f,Pb,a,d,f]
 simp[z3n,Ko.f,a,d,f];refine zkx o.a rfl ?_;cases g:Pv n o.a with
 |false=>simp[Pb,g]
 |true =>
  by_cases i2:o.imm=2
  ·simp[i2];refine zkx o.b rfl ?_;simp[Pb,a,d,f,g,i2]
  by_cases i1:o.imm=1
  ·simp[Pb,a,d,f,g,i2,i1]
  by_cases i3:o.imm=3
  ·simp[Pb,a,d,f,g,i2,i1,i3]
  simp[Pb,a,d,f,g,i2,i1,i3]
theorem zeg {G:Ev}{l:List Int}{f:Nat}{a b:List LV}{p:Int→Bool}{K:LV→Ev→Prop}(B:l.length≤9223372036854775807)
  (A:∀v∈l,∀x:LV→Ev→Prop,x (.bool (p v)) G→Fh Tryz.prog (.fn f) (a++[.i v]++b) G x) (k:K (.i (Tf p l)) G):Fh Tryz.prog (.fn 192) [.lst (l.map .i) l.length 1,.fn (.func f) a b] G K:=by
 refine E8 r_slices_IndexFunc_int_int k_slices_IndexFunc_int_int (by simp) ?_;simp[z2k];refine Iy (fun ρ D G' N=>∃i:Nat,D=[]∧G'=G∧N+i=l.length∧lk ρ 0=.lst (l.map .i) l.length 1∧lk ρ 1=.fn (.func f) a b∧lk ρ 7=.i l.length∧lk ρ 8=.i i∧∀j b,j<i→l[j]?=some b→p b=false) (N:=l.length) ⟨0,by simp⟩ ?_;rintro N ρ D G' ⟨i,rfl,rfl,C,h,m,o,q,r⟩ E s;by_cases hi:l.length≤i
 ·have g:¬i<l.length:=by omega
  simp[h,m,o,q,g];rw[←zt6 hi r];exact k
 ·have g:i<l.length:=by omega
  have w:=Ai g;simp[h,m,o,q,g];simp[Fv (Xn (f:=LV.i) w)];have y:=A l[i] (Dw g);simp only[Bo,List.singleton_append] at y;refine y _ ?_;cases z:p l[i] with
  |true =>
   simp;rw[←Um w z r];exact k
  |false =>
   simp[q];refine⟨by omega,s _ _ _ ⟨N - 1,by omega,i+1,rfl,rfl,by omega,by simp[h],by simp[m],by simp[o],by simp,fun j b F d=>?_⟩⟩;by_cases e:j=i
   ·subst e;rw[w] at d;cases d;exact z
   ·exact r j b (by omega) d
theorem z7j {G:Ev}{l:List Int}{f:Nat}{a b:List LV}{p:Int→Bool}{K:LV→Ev→Prop}(g:l.length≤9223372036854775807)
  (h:∀v∈l,∀d:LV→Ev→Prop,d (.bool (p v)) G→Fh Tryz.prog (.fn f) (a++[.i v]++b) G d) (k:K (.bool (l.any p)) G):Fh Tryz.prog (.fn 169) [.lst (l.map .i) l.length 1,.fn (.func f) a b] G K:=by
 refine E8 r_slices_ContainsFunc_int_int k_slices_ContainsFunc_int_int (by simp) ?_;simp[z20];refine zeg g h ?_;simp;rw[Rb];exact k
def z8b:LC:=(.q [.z 0 (.move (.c .nilMap))] (.q [.z 1 (.move (.c (.fn (.func 207) [] [])))] (.q [.z 2 (.mkMap0),.v (.mapUpd (.int .i64) (.t 2) (.k 6) (.c (.fn (.func 208) [] []))),.v (.mapUpd (.int .i64) (.t 2) (.k 14) (.c (.fn (.func 209) [] []))),.v (.mapUpd (.int .i64) (.t 2) (.k 8) (.c (.fn (.func 210) [] []))),.v (.mapUpd (.int .i64) (.t 2) (.k 9) (.c (.fn (.func 211) [] []))),.m 3 1,.v (.mapUpd (.int .i64) (.t 2) (.k 10) (.t 3)),.m 4 1,.v (.mapUpd (.int .i64) (.t 2) (.k 11) (.t 4)),.m 5 1,.v (.mapUpd (.int .i64) (.t 2) (.k 12) (.t 5)),.v (.mapUpd (.int .i64) (.t 2) (.k 13) (.c (.fn (.func 212) [] []))),.m 6 2,.m 0 6] .ret)))
theorem r_lengths_alike:Fg Tryz.prog 198=some ⟨7,z8b.r,[.tmp 0]⟩:=by kernel_rfl
theorem k_lengths_alike:z8b.ok=true:=by kernel_rfl
def z64:LC:=(.q [.z 1 (.box (.t 0)),.z 2 (.move (.c .nilSl))] (.q [.f 3 1 1,.l 4 3,.f 5 3 1,.l 6 5,.f 7 4 1,.l 8 7,.f 9 5 1,.l 10 9,.z 11 (.buildSl 1 4 [(.i 0),(.i 0),(.i 0),(.i 0)] [(0,1,.t 4),(1,1,.t 6),(2,1,.t 8),(3,1,.t 10)]),.m 2 11] .ret))
theorem r_lengths_alike_1:Fg Tryz.prog 207=some ⟨12,z64.r,[.tmp 2]⟩:=by kernel_rfl
theorem k_lengths_alike_1:z64.ok=true:=by kernel_rfl
def z6i:LC:=(.q [.z 1 (.box (.t 0)),.z 2 (.move (.c .nilSl))] (.q [.f 3 3 1,.l 4 3,.f 5 4 1,.l 6 5,.z 7 (.buildSl 1 2 [(.i 0),(.i 0)] [(0,1,.t 4),(1,1,.t 6)]),.m 2 7] .ret))
theorem r_lengths_alike_2:Fg Tryz.prog 208=some ⟨8,z6i.r,[.tmp 2]⟩:=by kernel_rfl
theorem k_lengths_alike_2:z6i.ok=true:=by kernel_rfl
def z5z:LC:=(.q [.z 1 (.box (.t 0)),.z 2 (.move (.c .nilSl))] (.q [.f 3 1 1,.l 4 3,.f 5 2 1,.l 6 5,.z 7 (.buildSl 1 2 [(.i 0),(.i 0)] [(0,1,.t 4),(1,1,.t 6)]),.m 2 7] .ret))
theorem r_lengths_alike_3:Fg Tryz.prog 209=some ⟨8,z5z.r,[.tmp 2]⟩:=by kernel_rfl
theorem k_lengths_alike_3:z5z.ok=true:=by kernel_rfl
def z6m:LC:=(.q [.z 1 (.box (.t 0)),.z 2 (.move (.c .nilSl))] (.q [.f 3 1 1,.l 4 3,.f 5 3 1,.l 6 5,.f 7 4 1,.l 8 7,.z 9 (.buildSl 1 3 [(.i 0),(.i 0),(.i 0)] [(0,1,.t 4),(1,1,.t 6),(2,1,.t 8)]),.m 2 9] .ret))
theorem r_lengths_alike_4:Fg Tryz.prog 210=some ⟨10,z6m.r,[.tmp 2]⟩:=by kernel_rfl
theorem k_lengths_alike_4:z6m.ok=true:=by kernel_rfl
def z6l:LC:=(.q [.z 1 (.box (.t 0)),.z 2 (.move (.c .nilSl))] (.q [.f 3 1 1,.l 4 3,.f 5 5 1,.l 6 5,.z 7 (.buildSl 1 2 [(.i 0),(.i 0)] [(0,1,.t 4),(1,1,.t 6)]),.m 2 7] .ret))
theorem r_lengths_alike_5:Fg Tryz.prog 211=some ⟨8,z6l.r,[.tmp 2]⟩:=by kernel_rfl
theorem k_lengths_alike_5:z6l.ok=true:=by kernel_rfl
def z62:LC:=(.q [.z 1 (.box (.t 0)),.z 2 (.move (.c .nilSl))] (.q [.f 3 1 1,.l 4 3,.f 5 3 1,.l 6 5,.f 7 5 1,.l 8 7,.z 9 (.buildSl 1 3 [(.i 0),(.i 0),(.i 0)] [(0,1,.t 4),(1,1,.t 6),(2,1,.t 8)]),.m 2 9] .ret))
theorem r_lengths_alike_6:Fg Tryz.prog 212=some ⟨10,z62.r,[.tmp 2]⟩:=by kernel_rfl
theorem k_lengths_alike_6:z62.ok=true:=by kernel_rfl
def z6k:LC:=(.q [.z 4 (.move .F)] (.seq (.draw [(.l 5 1,[]),(.m 6 0,[]),(.z 7 (.ixAddr 3 (.t 5) (.t 6)),[]),(.f 8 0 7,[]),(.l 9 8,[]),(.l 10 1,[]),(.l 11 2,[]),(.z 12 (.ixAddr 1 (.t 11) (.k 0)),[]),(.l 13 12,[]),(.z 14 (.ixAddr 3 (.t 10) (.t 13)),[]),(.f 15 0 14,[]),(.l 16 15,[]),(.z 17 (.bin .neq false 3 (.t 9) (.t 16)),[]),(.m 4 17,[])]) .ret))
theorem r_lengths_agree_1:Fg Tryz.prog 199=some ⟨18,z6k.r,[.tmp 4]⟩:=by kernel_rfl
theorem k_lengths_agree_1:z6k.ok=true:=by kernel_rfl
def Wi:LC:=(.q [.z 2 (.box (.t 0)),.z 3 (.box (.t 1)),.z 4 (.move .F)] (.seq (.draw [(.f 10 0 3,[]),(.l 11 10,[]),(.z 9 (.w 198 []),[(.l 11 10,false)]),(.z 12 (.lookup (.int .i64) .nilFn true (.t 9) (.t 11)),[]),(.m 8 12,[]),(.z 13 (.extract 0 (.t 8)),[]),(.z 14 (.extract 1 (.t 8)),[]),(.m 5 13,[]),(.m 6 14,[])]) (.seq (.q [.m 15 6,.z 16 (.un .not (.t 15))] (.cond (.t 16) (.q [.z 4 (.move .T)] .ret) .skip)) (.q [.m 17 5,.z 18 (.loadN 7 (.t 3)),.z 19 (.callV (.t 17) [.t 18]),.z 7 (.alloc [.nilSl]),.v (.store 1 (.t 7) (.t 19))] (.q [.l 20 7,.z 21 (.mkFunc 199 [] [.t 2,.t 7]),.z 22 (.w 169 [.t 20,.t 21]),.z 23 (.un .not (.t 22)),.m 4 23] .ret)))))
theorem r_lengths_agree:Fg Tryz.prog 191=some ⟨24,Wi.r,[.tmp 4]⟩:=by kernel_rfl
theorem k_lengths_agree:Wi.ok=true:=by kernel_rfl
def Ys:List (LV×LV×Nat):=[(.i 6,.fn (.func 208) [] [],0),(.i 14,.fn (.func 209) [] [],1),(.i 8,.fn (.func 210) [] [],2),(.i 9,.fn (.func 211) [] [],3),(.i 10,.fn (.func 207) [] [],4),(.i 11,.fn (.func 207) [] [],5),(.i 12,.fn (.func 207) [] [],6),(.i 13,.fn (.func 212) [] [],7)]
theorem z16 {G:Ev}{K:LV→Ev→Prop}(k:K (.map G.length) (G++[.map Ys 8 8])):Fh Tryz.prog (.fn 198) [] G K:=by
 refine E8 r_lengths_alike k_lengths_alike (by simp) ?_;simp[z8b];exact k
theorem zfl (o:Ko):Ib Tryz.prog 207 [.agg o.f] (.lst ([o.d,o.a,o.b,o.c].map .i) 4 1):=by
 refine Ib.mk (by simp[LV.dat,dats]) (E8 r_lengths_alike_1 k_lengths_alike_1 (by simp) ?_);simp[z64,Ko.f,Hg,bor]
theorem zv9 (o:Ko):Ib Tryz.prog 208 [.agg o.f] (.lst ([o.a,o.b].map .i) 2 1):=by
 refine Ib.mk (by simp[LV.dat,dats]) (E8 r_lengths_alike_2 k_lengths_alike_2 (by simp) ?_);simp[z6i,Ko.f,Hg,bor]
theorem zux (o:Ko):Ib Tryz.prog 209 [.agg o.f] (.lst ([o.d,o.e].map .i) 2 1):=by
 refine Ib.mk (by simp[LV.dat,dats]) (E8 r_lengths_alike_3 k_lengths_alike_3 (by simp) ?_);simp[z5z,Ko.f,Hg,bor]
theorem zuo (o:Ko):Ib Tryz.prog 210 [.agg o.f] (.lst ([o.d,o.a,o.b].map .i) 3 1):=by
 refine Ib.mk (by simp[LV.dat,dats]) (E8 r_lengths_alike_4 k_lengths_alike_4 (by simp) ?_);simp[z6m,Ko.f,Hg,bor]
theorem zur (o:Ko):Ib Tryz.prog 211 [.agg o.f] (.lst ([o.d,o.c].map .i) 2 1):=by
 refine Ib.mk (by simp[LV.dat,dats]) (E8 r_lengths_alike_5 k_lengths_alike_5 (by simp) ?_);simp[z6l,Ko.f,Hg,bor]
theorem zuc (o:Ko):Ib Tryz.prog 212 [.agg o.f] (.lst ([o.d,o.a,o.c].map .i) 3 1):=by
 refine Ib.mk (by simp[LV.dat,dats]) (E8 r_lengths_alike_6 k_lengths_alike_6 (by simp) ?_);simp[z62,Ko.f,Hg,bor]
def S8 (vs:List Vr)(v:Int):Prop:=0≤v∧v<vs.length
theorem S8.at {vs:List Vr}{v:Int}(h:S8 vs v):∃k:Nat,v=k∧k<vs.length∧vs[k]?=some (gv vs v.toNat):=by
 obtain⟨k,rfl⟩:=Af h.1;have h2:=h.2;exact⟨k,rfl,by omega,by rw[A9];exact Nj (by omega)⟩
theorem zrr {G:Ev}{p q st d:Nat}{vs:List Vr}{L:List Int}(v:Int){K:LV→Ev→Prop}(f:G[p]?=some (.cells [.lst (H6 vs) vs.length 3] st))(g:G[q]?=some (.cells [.lst (L.map .i) L.length 1] d))
  (hv:S8 vs v) (h:S8 vs (L.headD 0)) (r:L≠[]) (k:K (.bool (decide (Je vs v≠Je vs (L.headD 0)))) G):Fh Tryz.prog (.fn 199) [.i v,.ptr p 0,.ptr q 0] G K:=by
 refine E8 r_lengths_agree_1 k_lengths_agree_1 (by simp) ?_;cases L with
 |nil=>exact absurd rfl r
 |cons y L =>
  simp only[List.headD_cons] at h k;obtain⟨a,rfl,j,s⟩:=hv.at;obtain⟨b,rfl,l,w⟩:=h.at;have m:=zp5 s;have o:=zp5 w;simp only[A9] at m o;simp only[Je,A9] at k;simp[z6k,f,g,j,l];simp[Fv m,Fv o,f,g,j,l];rw[←decide_not];exact k
theorem zqp (L:List Int)(x:Int→Int)(y:Int):(!(L.any fun v=>decide (x v≠y)))=L.all fun v=>decide (x v=y):=by
 induction L with
 |nil=>rfl
 |cons a L d =>
  simp only[List.any_cons,Cu,Bool.not_or,d];by_cases h:x a=y<;>simp[h]
theorem zay (vs:List Vr)(o:Ko)(hv:∀v∈Jv o,S8 vs v):Fq Tryz.prog 191 [.lst (H6 vs) vs.length 3,.agg o.f] (.bool (Uw vs o)) []:=by
 refine Fq.val rfl (E8 r_lengths_agree k_lengths_agree (by simp) ?_);have d:o.f=[.i o.kind,.i o.d,.i o.e,.i o.a,.i o.b,.i o.c,.u o.imm]:=rfl;have fin:∀L:List Int,L≠[]→Jv o=L→∀{G:Ev} {p q st w:Nat} {K:LV→Ev→Prop},G[p]?=some (.cells [.lst (H6 vs) vs.length 3] st)→G[q]?=some (.cells [.lst (L.map .i) L.length 1] w)→K (.bool (!Uw vs o)) G →
   Fh Tryz.prog (.fn 169) [.lst (L.map .i) L.length 1,.fn (.func 199) [] [.ptr p 0,.ptr q 0]] G K:=by
  intro L x he G p q st w K z A k;rw[he] at hv;have B:S8 vs (L.headD 0):=by
   cases L with
   |nil=>exact absurd rfl x
   |cons y L=>exact hv y (B5 ..)
  have C:L.length≤9223372036854775807:=by
   rw[←he];unfold Jv;repeat' split
   all_goals simp
  refine z7j (p:=fun v=>decide (Je vs v≠Je vs (L.headD 0))) C (fun v hm D k'=>zrr v z A (hv v hm) B x k') ?_;have:=zqp L (Je vs) (Je vs (L.headD 0));rw[←Bool.not_not (L.any _),this];rw[Uw,he] at k;exact k
 by_cases m:o.kind=6
 ·have he:Jv o=[o.a,o.b]:=by simp[Jv,m]
  simp[Wi,d,m];refine z16 ?_;simp[Ys];have a:=zv9 o;rw[d,m] at a;refine L8 a rfl ?_;simp;refine fin [o.a,o.b] (by simp) he rfl rfl ?_;simp
 by_cases f:o.kind=14
 ·have he:Jv o=[o.d,o.e]:=by simp[Jv,f]
  simp[Wi,d,f];refine z16 ?_;simp[Ys];have a:=zux o;rw[d,f] at a;refine L8 a rfl ?_;simp;refine fin [o.d,o.e] (by simp) he rfl rfl ?_;simp
 by_cases r:o.kind=8
 ·have he:Jv o=[o.d,o.a,o.b]:=by simp[Jv,r]
  simp[Wi,d,r];refine z16 ?_;simp[Ys];have a:=zuo o;rw[d,r] at a;refine L8 a rfl ?_;simp;refine fin [o.d,o.a,o.b] (by simp) he rfl rfl ?_;simp
 by_cases s:o.kind=9
 ·have he:Jv o=[o.d,o.c]:=by simp[Jv,s]
  simp[Wi,d,s];refine z16 ?_;simp[Ys];have a:=zur o;rw[d,s] at a;refine L8 a rfl ?_;simp;refine fin [o.d,o.c] (by simp) he rfl rfl ?_;simp
 by_cases g:o.kind=10
 ·have he:Jv o=[o.d,o.a,o.b,o.c]:=by simp[Jv,g]
  simp[Wi,d,g];refine z16 ?_;simp[Ys];have a:=zfl o;rw[d,g] at a;refine L8 a rfl ?_;simp;refine fin [o.d,o.a,o.b,o.c] (by simp) he rfl rfl ?_;simp
 by_cases h:o.kind=11
 ·have he:Jv o=[o.d,o.a,o.b,o.c]:=by simp[Jv,h]
  simp[Wi,d,h];refine z16 ?_;simp[Ys];have a:=zfl o;rw[d,h] at a;refine L8 a rfl ?_;simp;refine fin [o.d,o.a,o.b,o.c] (by simp) he rfl rfl ?_;simp
 by_cases j:o.kind=12
 ·have he:Jv o=[o.d,o.a,o.b,o.c]:=by simp[Jv,j]
  simp[Wi,d,j];refine z16 ?_;simp[Ys];have a:=zfl o;rw[d,j] at a;refine L8 a rfl ?_;simp;refine fin [o.d,o.a,o.b,o.c] (by simp) he rfl rfl ?_;simp
 by_cases l:o.kind=13
 ·have he:Jv o=[o.d,o.a,o.c]:=by simp[Jv,l]
  simp[Wi,d,l];refine z16 ?_;simp[Ys];have a:=zuc o;rw[d,l] at a;refine L8 a rfl ?_;simp;refine fin [o.d,o.a,o.c] (by simp) he rfl rfl ?_;simp
 have he:Jv o=[]:=by simp[Jv,m,f,r,s,g,h,j,l]
 simp[Wi,d,m,f,r,s,g,h,j,l];refine z16 ?_;simp[Ys,m,f,r,s,g,h,j,l];simp[Uw,he]
def z3t:LC:=(.q [.z 2 (.move (.c .nilSl))] (.seq (.q [.m 3 0,.z 4 (.bin .eql true 60 (.t 3) (.c .nilSl))] (.cond (.t 4) (.q [.z 2 (.move (.c .nilSl))] .ret) .skip)) (.q [.z 5 (.buildSl 1 0 [] []),.m 6 0,.z 7 (.appG 1 (.t 5) (.t 6)),.m 2 7] .ret)))
theorem r_slices_Clone_int_int:Fg Tryz.prog 194=some ⟨8,z3t.r,[.tmp 2]⟩:=by kernel_rfl
theorem k_slices_Clone_int_int:z3t.ok=true:=by kernel_rfl
def z2c:LC:=(.q [.z 4 (.move (.c .nilSl))] (.q [.m 8 0,.m 9 1,.z 10 (.w 192 [.t 8,.t 9]),.m 5 10] (.seq (.q [.m 11 5,.z 12 (.bin .eql true 3 (.t 11) (.k (-1)))] (.cond (.t 12) (.q [.m 13 0,.m 4 13] .ret) .skip)) (.seq (.q [.m 14 5,.z 15 (.bin .add true 3 (.t 14) (.k 1)),.m 6 15] (.block 0 (.loop (.seq (.q [.m 16 6,.m 17 0,.z 18 (.lenSl (.t 17)),.z 19 (.bin .lss false 3 (.t 16) (.t 18))] (.cond (.t 19) .skip (.exit 0))) (.seq (.block 1 (.q [.m 22 0,.m 23 6,.z 24 (.ixAddr 1 (.t 22) (.t 23)),.l 25 24,.m 7 25] (.q [.m 26 1,.m 27 7,.z 28 (.callV (.t 26) [.t 27]),.z 29 (.un .not (.t 28))] (.cond (.t 29) (.q [.m 30 0,.m 31 5,.m 32 7,.z 33 (.ixAddr 1 (.t 30) (.t 31)),.v (.store 1 (.t 33) (.t 32))] (.ops [.m 34 5,.z 35 (.bin .add true 3 (.t 34) (.k 1)),.m 5 35])) .skip)))) (.ops [.m 20 6,.z 21 (.bin .add true 3 (.t 20) (.k 1)),.m 6 21])))))) (.q [.m 36 0,.m 37 5,.z 38 (.slSl 1 (.t 36) (some (.t 37)) none),.v (.clear 1 [(.i 0)] (.t 38))] (.q [.m 39 0,.m 40 5,.z 41 (.slSl 1 (.t 39) none (some (.t 40))),.m 4 41] .ret))))))
theorem r_slices_DeleteFunc_int_int:Fg Tryz.prog 193=some ⟨42,z2c.r,[.tmp 4]⟩:=by kernel_rfl
theorem k_slices_DeleteFunc_int_int:z2c.ok=true:=by kernel_rfl
def z6q:LC:=(.q [.z 2 (.move .F)] (.q [.m 3 0,.z 4 (.bin .lss true 3 (.t 3) (.k 0)),.m 2 4] .ret))
theorem r_lengths_takes_1:Fg Tryz.prog 195=some ⟨5,z6q.r,[.tmp 2]⟩:=by kernel_rfl
theorem k_lengths_takes_1:z6q.ok=true:=by kernel_rfl
def z8g:LC:=(.q [.z 1 (.box (.t 0)),.z 2 (.move (.c .nilSl))] (.q [.z 5 (.loadN 7 (.t 1)),.z 6 (.w 189 [.t 5]),.z 3 (.alloc [(.i 0),(.i 0),(.i 0),(.i 0),(.i 0)]),.v (.store 5 (.t 3) (.t 6))] (.q [.z 7 (.slArr 5 1 (.t 3) (some (.k 2)) none),.z 8 (.w 194 [.t 7]),.z 9 (.w 193 [.t 8,(.c (.fn (.func 195) [] []))]),.m 4 9] (.seq (.q [.f 10 0 1,.l 11 10,.z 12 (.bin .eql true 3 (.t 11) (.k 14))] (.cond (.t 12) (.ops [.m 13 4,.f 14 1 1,.l 15 14,.f 16 2 1,.l 17 16,.z 18 (.buildSl 1 2 [(.i 0),(.i 0)] [(0,1,.t 15),(1,1,.t 17)]),.z 19 (.appG 1 (.t 13) (.t 18)),.m 4 19]) .skip)) (.q [.m 20 4,.m 2 20] .ret)))))
theorem r_lengths_takes:Fg Tryz.prog 170=some ⟨21,z8g.r,[.tmp 2]⟩:=by kernel_rfl
theorem k_lengths_takes:z8g.ok=true:=by kernel_rfl
theorem sl_nil:J9 Tryz.prog true 60 .nilSl .nilSl=some true:=by kernel_rfl
theorem Sj {G:Ev}{l:List Int}{K:LV→Ev→Prop}(a:l.length≤1048576)(d:l≠[])(k:K (.dy G.length 1) (G++[.dyn (l.map .i) l.length 1 1 1])):Fh Tryz.prog (.fn 194) [.lst (l.map .i) l.length 1] G K:=by
 refine E8 r_slices_Clone_int_int k_slices_Clone_int_int (by simp) ?_;simp[z3t,sl_nil,a,d];exact k
theorem zlu {l:List Int}{f:Nat}{p:Int→Bool}(a:l.length≤9223372036854775807)
  (d:∀v∈l,Fq Tryz.prog f [.i v] (.bool (p v)) []):Fq Tryz.prog 192 [.lst (l.map .i) l.length 1,.fn (.func f) [] []] (.i (Tf p l)) [] :=
 Fq.val rfl (zeg a (fun v hv g k=>by
  simp only[D0,Bx];exact E9 (d v hv) (bors_self _ rfl) k) rfl)
theorem zk7 {G:Ev}{q k st:Nat}{l:List Int}{f:Nat}{p:Int→Bool}{K:LV→Ev→Prop}(O:l.length≤9223372036854775807)(B:G[q]?=some (.dyn (l.map .i) l.length 1 k st))
  (L:∀v,Fq Tryz.prog f [.i v] (.bool (p v)) []) (P:l.filter (fun v=>!p v)=l→K (.dy q k) G)
  (Q:∀(m:Nat) (R:List LV) (a:Nat),m=(l.filter (fun v=>!p v)).length→R.length=l.length→R.take m=(l.filter (fun v=>!p v)).map .i→dats R=true→K (.vw q k 0 m) (G.set q (.dyn R l.length 1 k a))) :
  Fh Tryz.prog (.fn 193) [.dy q k,.fn (.func f) [] []] G K:=by
 refine E8 r_slices_DeleteFunc_int_int k_slices_DeleteFunc_int_int (by simp) ?_;have C:q<G.length:=(Aa.1 B).1;have E:∀l:List Int,dats (l.map .i)=true:=fun l=>zca (fun _=>rfl) l
 have d:∀ob,(G.set q ob)[q]?=some ob:=fun ob=>Ah C
 have h:G.set q (.dyn (l.map .i) l.length 1 k st)=G:=zsl B;simp[z2c];refine E9 (zlu O fun v _=>L v) (by simp[bors,bor,LV.dat,dats,B,E]) ?_;rcases zxq p l with ⟨F,z⟩ | ⟨i0,F,S,z⟩
 ·simp[F];exact P z
 have T:¬((i0:Int)=-1):=by omega
 simp[F,T];refine⟨by omega,?_⟩;refine Iy (fun ρ D G' N=>∃(i j:Nat) (c:List Int) (a:Nat),D=[]∧G'=G.set q (.dyn (c.map .i) l.length 1 k a)∧N+j=l.length∧i<j∧j≤l.length∧lk ρ 0=.dy q k∧lk ρ 1=.fn (.func f) [] []∧lk ρ 5=.i i∧lk ρ 6=.i j ∧
   c.length=l.length∧i=((l.take j).filter (fun v=>!p v)).length∧c.take i=(l.take j).filter (fun v=>!p v)∧∀u,j≤u→gd c u=gd l u)
  (N:=l.length - (i0+1)) ⟨i0,i0+1,l,st,rfl,h.symm,by omega,by omega,by omega,by simp,by simp,by simp,by simp,rfl,by rw[z];simp;omega,z.symm,fun u _=>rfl⟩ ?_
 rintro N ρ D G' ⟨i,j,c,a,rfl,rfl,X,U,Y,r,s,w,x,H,hi,A,I⟩ Z y;by_cases g:j<l.length
 ·have g2:i<l.length:=by omega
  have J:=Xn (f:=LV.i) (zc8 (l:=c) (u:=j) (by omega));have V:=I j (Am _);simp[r,s,w,x,d,g];simp[Fv J,r,s,w,x,d,g,V];refine E9 (L (gd l j)) (by simp) ?_;have o:=zp8 (p:=p) g;cases M:p (gd l j) with
  |true =>
   rw[M] at o;simp only[Bs,Bx] at o;simp[x]
   repeat (refine⟨by omega,?_⟩)
   exact y _ _ _ ⟨N - 1,by omega,i,j+1,c,a,rfl,rfl,by omega,by omega,by omega,by simp[r],by simp[s],by simp[w],by simp,H,by rw[o];exact hi,by rw[o];exact A,fun u hu=>I u (by omega)⟩
  |false =>
   rw[M,Ac (by simp)] at o;simp[r,s,w,x,d,g2];rw[lay_set _ _ _ (by omega)]
   repeat (refine⟨by omega,?_⟩)
   refine y _ _ _ ⟨N - 1,by omega,i+1,j+1,_,_,rfl,rfl,by omega,by omega,by omega,by simp[r],by simp[s],by simp,by simp,by simpa using H,?_,?_,fun u hu=>?_⟩
   ·rw[o,Aj,←hi];rfl
   ·rw[o,zll (by omega),A]
   ·rw[zrp (j:=j+1) (by omega) (by omega) u hu,I u (by omega)]
 ·have W:j=l.length:=by omega
  subst W;rw[List.take_length] at hi A;simp[r,s,w,x,d]
  repeat (refine⟨by omega,?_⟩)
  refine Q i _ _ hi ?_ ?_ ?_
  ·rw[zvl (by rw[z7z];simp;omega)];simp[H]
  ·rw[W3 (by simp;omega),←List.map_take,A]
  ·unfold Gm;exact dats_app (dats_app (dats_take _ (E c)) (zst rfl _)) (dats_drop _ (E c))
theorem zu3 (v:Int):Fq Tryz.prog 195 [.i v] (.bool (decide (v<0))) []:=by
 refine Fq.val rfl (E8 r_lengths_takes_1 k_lengths_takes_1 (by simp) ?_);simp[z6q]
theorem zax (o:Ko)(h:o.kind=14→o.a=-1∧o.b=-1):Ib Tryz.prog 170 [.agg o.f] (.lst ((Km o).map .i) (Km o).length 1):=by
 have x:∀l:List Int,dats (l.map .i)=true:=fun l=>zca (fun _=>rfl) l
 refine Ib.mk (by simp[LV.dat,x]) (E8 r_lengths_takes k_lengths_takes (by simp) ?_);have f:o.f=[.i o.kind,.i o.d,.i o.e,.i o.a,.i o.b,.i o.c,.u o.imm]:=rfl;simp[z8g,f];rw[←f];refine E9 (zaz o) (bors_self _ rfl) ?_;simp;refine Sj (l:=[o.a,o.b,o.c]) (by simp) (by simp) ?_;simp;have hlen:([o.a,o.b,o.c].filter fun v=>!decide (v<0)).length≤3:=List.length_filter_le _ _;refine zk7 (l:=[o.a,o.b,o.c]) (p:=fun v=>decide (v<0)) (by simp) rfl zu3 (fun hw=>?_) (fun m R y hm s w hd=>?_)
 ·by_cases a:o.kind=14
  ·have:=List.filter_eq_self.1 hw o.a (by simp);rw[(h a).1] at this;simp at this
  ·have e:Km o=[o.a,o.b,o.c]:=by unfold Km;rw[hw,Ac a];rfl
   simp[f,a,e,Hg,bor,dats,LV.dat]
 ·by_cases a:o.kind=14
  ·have e:Km o=([o.a,o.b,o.c].filter fun v=>!decide (v<0))++[o.d,o.e]:=by unfold Km;rw[Ag a]
   have g:m≤1:=by
    rw[hm,(h a).1,(h a).2];simp;by_cases z:0≤o.c<;>simp[z]
   have d:R.length=3:=s;simp[f,a,d,g,dats,LV.dat];rw[e];have j:(([o.a,o.b,o.c].filter fun v=>!decide (v<0))++[o.d,o.e]).length=m+2:=by rw[Aj,←hm];rfl
   have A:(([o.a,o.b,o.c].filter fun v=>!decide (v<0))++[o.d,o.e]).map LV.i=R.take m++[.i o.d,.i o.e]:=by rw[D3,w];rfl
   have q:(R.take m++[LV.i o.d,LV.i o.e]).length=m+2:=by rw[Aj,Cr];simp;omega
   have B:dats (R.take m++[LV.i o.d,LV.i o.e])=true:=dats_app (dats_take _ hd) rfl;have r:(Gm R m [.i o.d,.i o.e]).length=3:=by unfold Gm;simp;omega
   rw[A,j];refine⟨by omega,⟨_,_,_,⟨?_,rfl,rfl⟩,⟨rfl,rfl,rfl⟩,?_,?_⟩,⟨_,_,_,⟨rfl,rfl,rfl⟩,⟨rfl,rfl,rfl⟩,B⟩⟩
   ·unfold Gm;rw[De];exact (Da q).symm
   ·rw[r];omega
   ·unfold Gm;exact dats_app (dats_app (dats_take _ hd) rfl) (dats_drop _ hd)
  ·have e:Km o=[o.a,o.b,o.c].filter fun v=>!decide (v<0):=by unfold Km;rw[Ac a,Bx]
   simp[f,a,dats,LV.dat];rw[e,←w,←hm];have d:R.length=3:=s;simp[Hg,bor,hd];exact⟨_,_,_,⟨by rw[De],rfl⟩,⟨rfl,rfl,rfl⟩,by rw[d];omega,hd⟩
def z83:LC:=(.q [.z 3 (.move .F)] (.q [.l 4 1,.m 5 0,.z 6 (.ixAddr 3 (.t 4) (.t 5)),.f 7 1 6,.l 8 7,.m 3 8] .ret))
theorem r_lengths_one_1:Fg Tryz.prog 190=some ⟨9,z83.r,[.tmp 3]⟩:=by kernel_rfl
theorem k_lengths_one_1:z83.ok=true:=by kernel_rfl
def z7x:LC:=(.q [.z 2 (.box (.t 0)),.z 3 (.box (.t 1)),.z 4 (.move .F)] (.seq (.q [.f 13 0 3,.l 14 13,.z 15 (.bin .eql true 3 (.t 14) (.k 17))] (.cond (.t 15) (.q [.l 16 2,.z 17 (.loadN 7 (.t 3)),.z 18 (.w 166 [.t 16,.t 17]),.m 4 18] .ret) .skip)) (.q [.f 20 0 3,.l 21 20,.z 22 (.w 187 [.t 21]),.m 19 22,.z 23 (.extract 0 (.t 19)),.z 24 (.extract 1 (.t 19)),.m 5 23,.m 6 24] (.seq (.q [.m 25 6,.z 26 (.un .not (.t 25)),.m 27 26,.n 28 27 (.loadN 7 (.t 3)),.n 29 27 (.w 188 [.t 28]),.n 30 27 (.un .not (.t 29)),.z 31 (.pick (.t 27) .T (.t 30))] (.cond (.t 31) (.q [.z 4 (.move .F)] .ret) .skip)) (.seq (.q [.z 32 (.loadN 7 (.t 3)),.z 33 (.w 189 [.t 32]),.z 34 (.move (.k 0))] (.block 0 (.loop (.q [.z 35 (.bin .lss true 3 (.t 34) (.k 5))] (.seq (.cond (.t 35) .skip (.exit 0)) (.seq (.block 1 (.q [.m 36 34,.z 37 (.ixArr false 5 1 (.t 33) (.t 34)),.m 7 36,.m 8 37] (.q [.m 38 5,.m 39 7,.z 40 (.bin .shr false 3 (.t 38) (.t 39)),.z 41 (.bin .and true 3 (.t 40) (.k 1)),.z 42 (.bin .eql true 3 (.t 41) (.k 1)),.m 9 42] (.q [.m 43 9,.m 44 43,.my 45 44 8,.y 46 44 (.bin .lss true 3 (.t 45) (.k 0)),.my 47 44 46,.mn 48 47 8,.n 49 47 (.load1 (.t 2)),.n 50 47 (.lenSl (.t 49)),.n 51 47 (.bin .geq false 3 (.t 48) (.t 50)),.y 52 44 (.pick (.t 47) .T (.t 51)),.z 53 (.pick (.t 44) (.t 52) .F),.m 54 53,.mn 55 54 9,.n 56 54 (.un .not (.t 55)),.mn 57 54 56,.my 58 57 8,.y 59 57 (.bin .neq true 3 (.t 58) (.k (-1))),.n 60 54 (.pick (.t 57) (.t 59) .F),.z 61 (.pick (.t 54) .T (.t 60))] (.cond (.t 61) (.q [.z 4 (.move .F)] .ret) .skip))))) (.ops [.z 62 (.bin .add true 3 (.t 34) (.k 1)),.m 34 62]))))))) (.q [.z 63 (.loadN 7 (.t 3)),.z 64 (.w 170 [.t 63]),.z 65 (.mkFunc 190 [] [.t 2]),.z 66 (.w 169 [.t 64,.t 65]),.m 10 66] (.seq (.q [.f 67 1 3,.l 68 67,.f 69 2 3,.l 70 69,.z 71 (.buildSl 1 2 [(.i 0),(.i 0)] [(0,1,.t 68),(1,1,.t 70)]),.z 72 (.lenSl (.t 71)),.z 73 (.move (.k 0))] (.block 2 (.loop (.q [.z 74 (.bin .lss false 3 (.t 73) (.t 72))] (.seq (.cond (.t 74) .skip (.exit 2)) (.seq (.block 3 (.q [.z 75 (.ixAddr 1 (.t 71) (.t 73)),.l 76 75,.m 12 76] (.q [.m 77 12,.z 78 (.bin .geq true 3 (.t 77) (.k 0)),.m 79 78,.y 80 79 (.load1 (.t 2)),.my 81 79 12,.y 82 79 (.ixAddr 3 (.t 80) (.t 81)),.y 83 79 (.loadN 3 (.t 82)),.y 84 79 (.w 167 [.t 83]),.my 85 79 84,.mn 86 85 10,.mn 87 85 86,.y 88 87 (.load1 (.t 2)),.my 89 87 12,.y 90 87 (.ixAddr 3 (.t 88) (.t 89)),.y 91 87 (.fieldAddr 1 (.t 90)),.y 92 87 (.load1 (.t 91)),.y 93 87 (.un .not (.t 92)),.n 94 85 (.pick (.t 87) (.t 93) .F),.y 95 79 (.pick (.t 85) .T (.t 94)),.z 96 (.pick (.t 79) (.t 95) .F)] (.cond (.t 96) (.q [.z 4 (.move .F)] .ret) .skip)))) (.ops [.z 97 (.bin .add true 3 (.t 73) (.k 1)),.m 73 97]))))))) (.q [.f 98 2 3,.l 99 98,.z 100 (.bin .lss true 3 (.t 99) (.k 0)),.m 101 100,.n 102 101 (.fieldAddr 1 (.t 3)),.n 103 101 (.load1 (.t 102)),.n 104 101 (.fieldAddr 2 (.t 3)),.n 105 101 (.load1 (.t 104)),.n 106 101 (.bin .neq false 3 (.t 103) (.t 105)),.z 107 (.pick (.t 101) .T (.t 106)),.m 108 107,.y 109 108 (.load1 (.t 2)),.y 110 108 (.loadN 7 (.t 3)),.y 111 108 (.w 191 [.t 109,.t 110]),.z 112 (.pick (.t 108) (.t 111) .F),.m 4 112] .ret))))))))
theorem r_lengths_one:Fg Tryz.prog 168=some ⟨113,z7x.r,[.tmp 4]⟩:=by kernel_rfl
theorem k_lengths_one:z7x.ok=true:=by kernel_rfl
theorem zzl {G:Ev}{p st:Nat}{vs:List Vr}(v:Int){K:LV→Ev→Prop}(f:G[p]?=some (.cells [.lst (H6 vs) vs.length 3] st))(hv:S8 vs v)(k:K (.bool (gv vs v.toNat).sec) G):Fh Tryz.prog (.fn 190) [.i v,.ptr p 0] G K:=by
 refine E8 r_lengths_one_1 k_lengths_one_1 (by simp) ?_;obtain⟨a,rfl,g,h⟩:=hv.at;have d:=zt2 h;simp only[A9] at d k;simp[z83,f,g];simp[Fv d];exact k
theorem zjs (vs:List Vr)(o:Ko):Fq Tryz.prog 168 [.lst (H6 vs) vs.length 3,.agg o.f] (.bool (Gu vs o)) []:=by
 refine Fq.val rfl (E8 r_lengths_one k_lengths_one (by simp) ?_);have r:o.f=[.i o.kind,.i o.d,.i o.e,.i o.a,.i o.b,.i o.c,.u o.imm]:=rfl;by_cases d:o.kind=17
 ·simp[z7x,r,d];have X:=zbx (H6 vs) vs.length o;rw[r,d] at X;refine E9 X (bors_self _ (by simp[dats,LV.dat,Lu])) ?_;simp[Gu,d]
 simp[z7x,r,d];refine E9 (zgd o.kind) (by simp) ?_;cases E:I9 o.kind with
 |none=>simp[Gu,d,E]
 |some s =>
 simp;rw[←r];refine E9 (zf9 o) (bors_self _ rfl) ?_;cases T:Jz o with
 |false=>simp[Gu,d,E,T]
 |true =>
 simp[r];rw[←r];refine E9 (zaz o) (bors_self _ rfl) ?_;have Y:=zx0 E;simp;refine Iy (fun ρ D G N=>∃i:Nat,D=[]∧G=[.cells [.lst (H6 vs) vs.length 3] 0,.cells o.f 0]∧N+i=5∧lk ρ 2=.ptr 0 0∧lk ρ 3=.ptr 1 0∧lk ρ 5=.i s∧lk ρ 33=.agg ((Qe o).map .i)∧lk ρ 34=.i i∧∀j,j<i→Lw vs.length s j (gd (Qe o) j)=true) (N:=5) ⟨0,by simp[Qe]⟩ ?_;rintro N ρ D G ⟨i,rfl,rfl,hN,q,A,U,F,Q,O⟩ Nx B;by_cases hi:5≤i
 case neg =>
  have g:(i:Int)<5:=by omega
  have g2:i<5:=by omega
  have R:=Xn (f:=LV.i) (zc8 (l:=Qe o) (u:=i) g2);have m:Lw vs.length s i (gd (Qe o) i)=true→∀j,j<i+1→Lw vs.length s j (gd (Qe o) j)=true:=fun h j Z=>by
   by_cases e:j=i
   ·rw[e];exact h
   ·exact O j (by omega)
  have bad:Lw vs.length s i (gd (Qe o) i)=false→Gu vs o=false:=fun h=>by
   simp[Gu,d,E,zzz g2 h]
  have pb:=X0 s i;generalize gd (Qe o) i=v at *;have J:0≤(s:Int)/2^i:=Int.ediv_nonneg (by omega) (Int.pow_nonneg (by omega));have P:(s:Int)/2^i<9223372036854775808:=Int.lt_of_le_of_lt (Int.ediv_le_self _ (by omega)) (by omega);have em:max ((s:Int)/2^i) 0=(s:Int)/2^i:=by omega
  simp[q,A,U,F,Q,g,Fv R,em,J,P,pb];refine⟨by omega,fun K=>⟨fun v0=>?_,fun v0=>⟨fun v1=>?_,fun v1=>?_⟩⟩,fun K=>?_⟩
  ·exact bad (by simp[Lw,K,Pv];omega)
  ·exact bad (by simp[Lw,K,Pv];omega)
  ·simp only[K,zmj];exact⟨by omega,B _ _ _ ⟨N - 1,by omega,i+1,rfl,rfl,by omega,by simp[q],by simp[A],by simp[U],by simp[F],by simp,m (by simp[Lw,K,Pv];omega)⟩⟩
  ·simp only[K,zif];exact⟨fun hv=>⟨by omega,B _ _ _ ⟨N - 1,by omega,i+1,rfl,rfl,by omega,by simp[q],by simp[A],by simp[U],by simp[F],by simp,m (by simp[Lw,K,hv])⟩⟩,fun hv=>bad (by simp[Lw,K,hv])⟩
 have L:Mo vs.length s o=true:=zvb fun j Z=>O j (by omega)
 have C:=ztm E L;have g:¬(i:Int)<5:=by omega
 simp[q,A,F,Q,g,r];rw[←r];refine L8 (zax o C.swap) rfl ?_;simp;have V:(Km o).length≤9223372036854775807:=by
  have h1:([o.a,o.b,o.c].filter fun v=>!decide (v<0)).length≤3:=List.length_filter_le _ _;unfold Km;split<;>simp at h1 ⊢<;>omega
 rw[q];refine z7j (p:=fun v=>(gv vs v.toNat).sec) V (fun v hv K' k=>zzl v rfl (C.takes v hv) k) ?_;rw[show (Km o).any (fun v=>(gv vs v.toNat).sec)=I6 vs o from rfl];simp[q,A,r];refine Iy (fun ρ D G N=>∃i:Nat,D=[]∧G=[.cells [.lst (H6 vs) vs.length 3] 0,.cells o.f 0,.dyn ([o.d,o.e].map .i) 2 1 0 0]∧N+i=2∧lk ρ 2=.ptr 0 0∧lk ρ 3=.ptr 1 0∧lk ρ 10=.bool (I6 vs o)∧lk ρ 71=.dy 2 0∧lk ρ 72=.i 2∧lk ρ 73=.i i∧∀j,j<i→Oi vs (I6 vs o) (gd [o.d,o.e] j)=true) (N:=2) ⟨0,by simp[q,A,r]⟩ ?_;rintro N ρ D G ⟨i,rfl,rfl,hN,q,A,w,x,y,z,O⟩ Nx B;by_cases hi:2≤i
 case neg =>
  have g:(i:Int)<2:=by omega
  have g2:i<2:=by omega
  have R:=Xn (f:=LV.i) (zc8 (l:=[o.d,o.e]) (u:=i) g2);have m:Oi vs (I6 vs o) (gd [o.d,o.e] i)=true→∀j,j<i+1→Oi vs (I6 vs o) (gd [o.d,o.e] j)=true:=fun h j Z=>by
   by_cases e:j=i
   ·rw[e];exact h
   ·exact O j (by omega)
  have bad:Oi vs (I6 vs o) (gd [o.d,o.e] i)=false→Gu vs o=false:=fun h=>by
   have M:i=0∨i=1:=by omega
   rcases M with rfl | rfl
   ·have h:Oi vs (I6 vs o) o.d=false:=h;simp[Gu,d,E,h]
   ·have h:Oi vs (I6 vs o) o.e=false:=h;simp[Gu,d,E,h]
  have S:gd [o.d,o.e] i=-1∨S8 vs (gd [o.d,o.e] i):=by
   have M:i=0∨i=1:=by omega
   rcases M with rfl | rfl
   ·exact C.d
   ·exact C.e
  generalize gd [o.d,o.e] i=v at *;simp only[Ct,List.map_nil] at R;rcases S with rfl | hv
  ·simp[q,A,w,x,y,z,g,Fv R];exact⟨by omega,B _ _ _ ⟨N - 1,by omega,i+1,rfl,rfl,by omega,by simp[q],by simp[A],by simp[w],by simp[x],by simp[y],by simp,m (by simp[Oi])⟩⟩
  ·obtain⟨k,rfl,hk,ek⟩:=hv.at;have q3:=ze7 ek;have W:=zt2 ek;have hq:=zqe hk;simp only[A9] at W q3;simp[q,A,w,x,y,z,g,Fv R,hk,q3,hq];refine E9 (zb7 (gv vs k)) (bors_self _ rfl) ?_;cases H:Ka (gv vs k) with
   |true =>
    simp;exact bad (by simp[Oi,H])
   |false =>
    cases a:I6 vs o with
    |false =>
     simp[q,w,z,a];exact⟨by omega,B _ _ _ ⟨N - 1,by omega,i+1,rfl,rfl,by omega,by simp[q],by simp[A],by simp[w,a],by simp[x],by simp[y],by simp,m (by simp[Oi,H,a])⟩⟩
    |true =>
     cases I:(gv vs k).sec with
     |false =>
      simp[q,w,z,a,hk,Fv W,I];exact bad (by simp[Oi,H,a,I])
     |true =>
      simp[q,w,z,a,hk,Fv W,I];exact⟨by omega,B _ _ _ ⟨N - 1,by omega,i+1,rfl,rfl,by omega,by simp[q],by simp[A],by simp[w,a],by simp[x],by simp[y],by simp,m (by simp[Oi,H,a,I])⟩⟩
 have g:¬(i:Int)<2:=by omega
 have od:Oi vs (I6 vs o) o.d=true:=O 0 (by omega);have oe:Oi vs (I6 vs o) o.e=true:=O 1 (by omega);by_cases J:o.e<0
 ·simp[q,A,x,y,z,g,r,J];rw[←r];refine E9 (zay vs o C.alike) (bors_self _ (by simp[dats,LV.dat,Lu,r])) ?_;simp[Gu,d,E,T,L,od,oe,J]
 ·by_cases P:o.d=o.e
  ·simp[q,A,x,y,z,g,r,J,P];simp[Gu,d,E,J,P]
  ·simp[q,A,x,y,z,g,r,J,P];rw[←r];refine E9 (zay vs o C.alike) (bors_self _ (by simp[dats,LV.dat,Lu,r])) ?_;simp[Gu,d,E,T,L,od,oe,J,P]
def z9k:LC:=(.q [.z 2 (.move .F)] (.q [.z 3 (.move (.k 0))] (.seq (.q [.m 6 0,.z 7 (.lenSl (.t 6)),.z 8 (.move (.k 0))] (.block 0 (.loop (.q [.z 9 (.bin .lss false 3 (.t 8) (.t 7))] (.seq (.cond (.t 9) .skip (.exit 0)) (.seq (.block 1 (.q [.m 10 8,.z 11 (.ixAddr 3 (.t 6) (.t 8)),.z 12 (.loadN 3 (.t 11)),.z 5 (.alloc [(.i 0),(.bool false),(.i 0)]),.m 4 10,.v (.store 3 (.t 5) (.t 12))] (.seq (.q [.f 13 0 5,.l 14 13,.z 15 (.bin .lss true 3 (.t 14) (.k 1)),.m 16 15,.n 17 16 (.fieldAddr 0 (.t 5)),.n 18 16 (.load1 (.t 17)),.n 19 16 (.bin .gtr true 3 (.t 18) (.k 512)),.z 20 (.pick (.t 16) .T (.t 19)),.m 21 20,.n 22 21 (.fieldAddr 2 (.t 5)),.n 23 21 (.load1 (.t 22)),.n 24 21 (.bin .lss true 3 (.t 23) (.k 0)),.z 25 (.pick (.t 21) .T (.t 24)),.m 26 25,.n 27 26 (.fieldAddr 2 (.t 5)),.n 28 26 (.load1 (.t 27)),.n 29 26 (.bin .gtr true 3 (.t 28) (.k 3)),.z 30 (.pick (.t 26) .T (.t 29))] (.cond (.t 30) (.q [.z 2 (.move .F)] .ret) .skip)) (.seq (.q [.f 31 2 5,.l 32 31,.z 33 (.bin .eql true 3 (.t 32) (.k 0))] (.cond (.t 33) (.exit 1) .skip)) (.seq (.q [.m 34 3,.m 35 4,.z 36 (.bin .lss false 3 (.t 34) (.t 35)),.m 37 36,.n 38 37 (.fieldAddr 1 (.t 5)),.n 39 37 (.load1 (.t 38)),.n 40 37 (.fieldAddr 2 (.t 5)),.n 41 37 (.load1 (.t 40)),.n 42 37 (.bin .neq true 3 (.t 41) (.k 1)),.n 43 37 (.bin .neq false 4 (.t 39) (.t 42)),.z 44 (.pick (.t 37) .T (.t 43))] (.cond (.t 44) (.q [.z 2 (.move .F)] .ret) .skip)) (.ops [.m 45 3,.z 46 (.bin .add true 3 (.t 45) (.k 1)),.m 3 46])))))) (.ops [.z 47 (.bin .add true 3 (.t 8) (.k 1)),.m 8 47]))))))) (.q [.m 48 0,.z 49 (.lenSl (.t 48)),.z 50 (.bin .geq true 3 (.t 49) (.k 1)),.m 51 50,.my 52 51 0,.y 53 51 (.lenSl (.t 52)),.y 54 51 (.bin .leq true 3 (.t 53) (.k 256)),.z 55 (.pick (.t 51) (.t 54) .F),.m 56 55,.my 57 56 3,.y 58 56 (.bin .leq true 3 (.t 57) (.k 12)),.z 59 (.pick (.t 56) (.t 58) .F),.m 2 59] .ret))))
theorem r_lengths_vars:Fg Tryz.prog 164=some ⟨60,z9k.r,[.tmp 2]⟩:=by kernel_rfl
theorem k_lengths_vars:z9k.ok=true:=by kernel_rfl
theorem zhr (vs:List Vr)(J:vs.length≤9223372036854775807):Fq Tryz.prog 164 [.lst (H6 vs) vs.length 3] (.bool (Kk vs)) []:=by
 refine Fq.val rfl (E8 r_lengths_vars k_lengths_vars (by simp) ?_);simp[z9k];refine Iy (fun ρ D G N=>∃i p:Nat,D=[]∧N+i=vs.length∧p≤i∧lk ρ 0=.lst (H6 vs) vs.length 3∧lk ρ 3=.i p∧lk ρ 6=.lst (H6 vs) vs.length 3∧lk ρ 7=.i vs.length∧lk ρ 8=.i i∧Ol i p (vs.drop i)=Ol 0 0 vs) (N:=vs.length) ⟨0,0,by simp⟩ ?_;rintro N ρ D G ⟨i,p,rfl,K,F,j,o,l,m,r,hv⟩ L C;by_cases g:i<vs.length
 ·have H:=Nj g;have w:=ze7 H;have x:=zqe g;rw[zra g] at hv;have y:(gv vs i).f=[.i (gv vs i).limbs,.bool (gv vs i).sec,.i (gv vs i).mode]:=rfl;generalize gv vs i=v at *;have bad:Ol i p (v::vs.drop (i+1))=none→Kk vs=false:=fun h=>by rw[h] at hv;simp[Kk,←hv]
  by_cases a:v.limbs<1
  ·simp[j,o,l,m,r,g,w,x,y,a];exact bad (by simp[Ol,Yx,a])
  by_cases d:512<v.limbs
  ·simp[j,o,l,m,r,g,w,x,y,a,d];exact bad (by simp[Ol,Yx,a,d])
  by_cases q:v.mode<0
  ·simp[j,o,l,m,r,g,w,x,y,a,d,q];exact bad (by simp[Ol,Yx,a,d,q])
  by_cases s:3<v.mode
  ·simp[j,o,l,m,r,g,w,x,y,a,d,q,s];exact bad (by simp[Ol,Yx,a,d,q,s])
  by_cases z:v.mode=0
  ·simp[j,o,l,m,r,g,w,x,y,a,d,q,s,z];refine⟨by omega,C _ _ _ ⟨N - 1,by omega,i+1,p,rfl,by omega,by omega,by simp[j],by simp[o],by simp[l],by simp[m],by simp,?_⟩⟩;rw[←hv];simp[Ol,Yx,a,d,q,s,z]
  by_cases B:p<i
  ·simp[j,o,l,m,r,g,w,x,y,a,d,q,s,z,B];exact bad (by simp[Ol,Yx,a,d,q,s,z,B])
  by_cases E:v.sec=decide (v.mode=1)
  ·simp[j,o,l,m,r,g,w,x,y,a,d,q,s,z,B,eqbP,E];exact bad (by simp[Ol,Yx,a,d,q,s,z,B,E])
  ·have I:v.sec=!decide (v.mode=1):=by cases M:v.sec<;>cases hm:decide (v.mode=1)<;>simp_all
   simp[j,o,l,m,r,g,w,x,y,a,d,q,s,z,B,eqbP,I];refine⟨by omega,by omega,C _ _ _ ⟨N - 1,by omega,i+1,p+1,rfl,by omega,by omega,by simp[j],by simp,by simp[l],by simp[m],by simp,?_⟩⟩;rw[←hv];simp[Ol,Yx,a,d,q,s,z,B,E]
 ·have O:i=vs.length:=by omega
  rw[Cv (by omega)] at hv;have A:Ol 0 0 vs=some p:=by rw[←hv];rfl
  by_cases g1:1≤vs.length
  ·by_cases g2:vs.length≤256
   ·simp[j,o,l,m,r,g,Kk,A,g1,g2];omega
   ·simp[j,o,l,m,r,g,Kk,A,g1,g2];omega
  ·simp[j,o,l,m,r,g,Kk,A,g1];omega
def z4c:LC:=(.q [.z 3 (.move .F)] (.q [.m 4 0,.z 5 (.bin .geq true 3 (.t 4) (.k 0)),.m 6 5,.y 7 6 (.fieldAddr 0 (.t 1)),.y 8 6 (.load1 (.t 7)),.my 9 6 0,.y 10 6 (.ixAddr 3 (.t 8) (.t 9)),.y 11 6 (.fieldAddr 2 (.t 10)),.y 12 6 (.load1 (.t 11)),.y 13 6 (.bin .eql true 3 (.t 12) (.k 3)),.z 14 (.pick (.t 6) (.t 13) .F),.m 3 14] .ret))
theorem r_lengths_Check_1:Fg Tryz.prog 165=some ⟨15,z4c.r,[.tmp 3]⟩:=by kernel_rfl
theorem k_lengths_Check_1:z4c.ok=true:=by kernel_rfl
def z6c:LC:=(.q [.z 3 (.move .F)] (.q [.l 4 1,.m 5 0,.z 6 (.ixAddr 1 (.t 4) (.t 5)),.l 7 6,.z 8 (.un .not (.t 7)),.m 3 8] .ret))
theorem r_lengths_Check_2:Fg Tryz.prog 171=some ⟨9,z6c.r,[.tmp 3]⟩:=by kernel_rfl
theorem k_lengths_Check_2:z6c.ok=true:=by kernel_rfl
def z8i:LC:=(.q [.z 1 (.box (.t 0)),.z 2 (.move (.k 0))] (.seq (.q [.f 13 0 1,.l 14 13,.z 15 (.w 164 [.t 14]),.z 16 (.un .not (.t 15)),.m 17 16,.n 18 17 (.fieldAddr 1 (.t 1)),.n 19 17 (.load1 (.t 18)),.n 20 17 (.lenSl (.t 19)),.n 21 17 (.bin .gtr true 3 (.t 20) (.k 4096)),.z 22 (.pick (.t 17) .T (.t 21)),.m 23 22,.n 24 23 (.fieldAddr 2 (.t 1)),.n 25 23 (.load1 (.t 24)),.n 26 23 (.lenSl (.t 25)),.n 27 23 (.bin .gtr true 3 (.t 26) (.k 4096)),.z 28 (.pick (.t 23) .T (.t 27))] (.cond (.t 28) (.q [.z 2 (.move (.k 2))] .ret) .skip)) (.q [.z 29 (.mkFunc 165 [] [.t 1]),.m 3 29] (.seq (.q [.f 30 2 1,.l 31 30,.z 32 (.lenSl (.t 31)),.z 33 (.move (.k 0))] (.block 0 (.loop (.q [.z 34 (.bin .lss false 3 (.t 33) (.t 32))] (.seq (.cond (.t 34) .skip (.exit 0)) (.seq (.block 1 (.q [.z 35 (.ixAddr 7 (.t 31) (.t 33)),.z 36 (.loadN 7 (.t 35)),.z 5 (.alloc [(.i 0),(.i 0),(.i 0),(.i 0),(.i 0),(.i 0),(.u 0)]),.v (.store 7 (.t 5) (.t 36))] (.q [.f 37 0 5,.l 38 37,.z 39 (.bin .neq true 3 (.t 38) (.k 17)),.m 40 39,.n 41 40 (.fieldAddr 0 (.t 1)),.n 42 40 (.load1 (.t 41)),.n 43 40 (.loadN 7 (.t 5)),.n 44 40 (.w 166 [.t 42,.t 43]),.n 45 40 (.un .not (.t 44)),.z 46 (.pick (.t 40) .T (.t 45)),.m 47 46,.mn 48 47 3,.n 49 47 (.fieldAddr 3 (.t 5)),.n 50 47 (.load1 (.t 49)),.n 51 47 (.callV (.t 48) [.t 50]),.z 52 (.pick (.t 47) .T (.t 51)),.m 53 52,.mn 54 53 3,.n 55 53 (.fieldAddr 4 (.t 5)),.n 56 53 (.load1 (.t 55)),.n 57 53 (.callV (.t 54) [.t 56]),.z 58 (.pick (.t 53) .T (.t 57))] (.cond (.t 58) (.q [.z 2 (.move (.k 2))] .ret) .skip)))) (.ops [.z 59 (.bin .add true 3 (.t 33) (.k 1)),.m 33 59]))))))) (.q [.f 60 0 1,.l 61 60,.z 62 (.lenSl (.t 61)),.z 63 (.mkSl 1 [(.bool false)] (.t 62) (.t 62)),.z 6 (.alloc [.nilSl]),.v (.store 1 (.t 6) (.t 63))] (.seq (.q [.f 64 0 1,.l 65 64,.z 66 (.lenSl (.t 65)),.z 67 (.move (.k 0))] (.block 2 (.loop (.q [.z 68 (.bin .lss false 3 (.t 67) (.t 66))] (.seq (.cond (.t 68) .skip (.exit 2)) (.seq (.block 3 (.q [.m 69 67,.z 70 (.ixAddr 3 (.t 65) (.t 67)),.z 71 (.loadN 3 (.t 70)),.z 8 (.alloc [(.i 0),(.bool false),(.i 0)]),.m 7 69,.v (.store 3 (.t 8) (.t 71))] (.draw [(.l 72 6,[]),(.m 73 7,[]),(.z 74 (.loadN 3 (.t 8)),[]),(.z 75 (.w 167 [.t 74]),[(.l 72 6,false)]),(.z 76 (.ixAddr 1 (.t 72) (.t 73)),[]),(.v (.store 1 (.t 76) (.t 75)),[])]))) (.ops [.z 77 (.bin .add true 3 (.t 67) (.k 1)),.m 67 77]))))))) (.q [.z 9 (.move (.k 0))] (.seq (.q [.f 78 1 1,.l 79 78,.z 80 (.lenSl (.t 79)),.z 81 (.move (.k 0))] (.block 4 (.loop (.q [.z 82 (.bin .lss false 3 (.t 81) (.t 80))] (.seq (.cond (.t 82) .skip (.exit 4)) (.seq (.block 5 (.q [.z 83 (.ixAddr 7 (.t 79) (.t 81)),.z 84 (.loadN 7 (.t 83)),.z 11 (.alloc [(.i 0),(.i 0),(.i 0),(.i 0),(.i 0),(.i 0),(.u 0)]),.v (.store 7 (.t 11) (.t 84))] (.seq (.q [.f 85 0 1,.l 86 85,.z 87 (.loadN 7 (.t 11)),.z 88 (.w 168 [.t 86,.t 87]),.z 89 (.un .not (.t 88)),.m 90 89,.n 91 90 (.loadN 7 (.t 11)),.n 92 90 (.w 170 [.t 91]),.n 93 90 (.mkFunc 171 [] [.t 6]),.n 94 90 (.w 169 [.t 92,.t 93]),.z 95 (.pick (.t 90) .T (.t 94))] (.cond (.t 95) (.q [.z 2 (.move (.k 2))] .ret) .skip)) (.seq (.q [.f 96 0 11,.l 97 96] (.block 6 (.q [.z 99 (.bin .eql true 3 (.t 97) (.k 15)),.m 98 99] (.cond (.t 98) (.ops [.m 100 9,.z 101 (.bin .add true 3 (.t 100) (.k 1)),.m 9 101]) (.q [.z 103 (.bin .eql true 3 (.t 97) (.k 16)),.m 102 103] (.cond (.t 102) (.ops [.m 104 9,.z 105 (.bin .sub true 3 (.t 104) (.k 1)),.m 9 105]) .skip)))))) (.seq (.q [.m 106 9,.z 107 (.bin .lss true 3 (.t 106) (.k 0)),.m 108 107,.mn 109 108 9,.n 110 108 (.bin .gtr true 3 (.t 109) (.k 4)),.z 111 (.pick (.t 108) .T (.t 110))] (.cond (.t 111) (.q [.z 2 (.move (.k 2))] .ret) .skip)) (.q [.f 112 1 11,.l 113 112,.z 114 (.bin .geq true 3 (.t 113) (.k 0))] (.cond (.t 114) (.ops [.l 115 6,.f 116 1 11,.l 117 116,.z 118 (.ixAddr 1 (.t 115) (.t 117)),.v (.store 1 (.t 118) .T)]) .skip))))))) (.ops [.z 119 (.bin .add true 3 (.t 81) (.k 1)),.m 81 119]))))))) (.seq (.q [.l 120 6,.z 121 (.lenSl (.t 120)),.z 122 (.move (.k 0))] (.block 7 (.loop (.q [.z 123 (.bin .lss false 3 (.t 122) (.t 121))] (.seq (.cond (.t 123) .skip (.exit 7)) (.seq (.block 8 (.q [.m 124 122,.m 12 124] (.q [.m 125 3,.m 126 12,.z 127 (.callV (.t 125) [.t 126]),.m 128 127,.y 129 128 (.load1 (.t 6)),.my 130 128 12,.y 131 128 (.ixAddr 1 (.t 129) (.t 130)),.y 132 128 (.load1 (.t 131)),.y 133 128 (.un .not (.t 132)),.z 134 (.pick (.t 128) (.t 133) .F)] (.cond (.t 134) (.q [.z 2 (.move (.k 2))] .ret) .skip)))) (.ops [.z 135 (.bin .add true 3 (.t 122) (.k 1)),.m 122 135]))))))) (.seq (.q [.m 136 9,.z 137 (.bin .neq true 3 (.t 136) (.k 0))] (.cond (.t 137) (.q [.z 2 (.move (.k 2))] .ret) .skip)) (.q [.z 2 (.move (.k 0))] .ret)))))))))))
theorem r_lengths_Check:Fg Tryz.prog 118=some ⟨138,z8i.r,[.tmp 2]⟩:=by kernel_rfl
theorem k_lengths_Check:z8i.ok=true:=by kernel_rfl
def Jx (vs:List Vr)(os rs:List Ko):List LV:=[.lst (H6 vs) vs.length 3,.lst (Mj os) os.length 7,.lst (Mj rs) rs.length 7]
theorem F4 {G x:Ev}{q:Nat}(h:q<G.length):(G++x)[q]?=G[q]?:=Aq h
theorem zla {α:Type}(f:α→LV)(l:List α)(j:Nat)(x:α)(h:j<l.length):Gm (l.map f) j [f x]=(l.set j x).map f:=by
 unfold Gm;rw[Cg,Ag h];simp[List.map_take,List.map_drop]
theorem repB (n:Nat):Hk [.bool false] n=(List.replicate n false).map LV.bool:=by
 induction n with
 |zero=>rfl
 |succ n a=>simp[Hk,a,Db]
theorem gb_ext {a b:List Bool}(h:a.length=b.length)(he:∀j,j<a.length→gb a j=gb b j):a=b:=by
 apply List.ext_getElem h;intro j d f;have:=he j d;simpa [gb,Ae,d,f] using this
theorem Zv (m:List Bool)(i j:Nat)(b:Bool)(hi:i<m.length):gb (m.set i b) j=if j=i then b else gb m j:=by
 unfold gb;rw[Ae,Ae,Et];by_cases h:i=j
 ·subst h;simp[hi]
 ·rw[Ac h,Ac (fun q=>h q.symm)]
theorem zdo {G:Ev}{p st:Nat}{vs:List Vr}{rest:List LV}(v:Int){K:LV→Ev→Prop}(f:G[p]?=some (.cells (.lst (H6 vs) vs.length 3::rest) st))(hv:v<vs.length)(k:K (.bool (M1 vs v)) G):Fh Tryz.prog (.fn 165) [.i v,.ptr p 0] G K:=by
 refine E8 r_lengths_Check_1 k_lengths_Check_1 (by simp) ?_;by_cases d:0≤v
 ·obtain⟨a,rfl⟩:=Af d;have g:a<vs.length:=by omega
  have h:=vs_at2 (Nj g);simp[z4c,f,g];simp[Fv h];simpa [M1] using k
 ·simp[z4c,f,d];simpa [M1,d] using k
theorem zqi {G:Ev}{p q st d:Nat}{m:List Bool}(v:Int){K:LV→Ev→Prop}(h:G[p]?=some (.cells [.dy q 0] st))(j:G[q]?=some (.dyn (m.map .bool) m.length 1 0 d))(hv:0≤v∧v<m.length)(k:K (.bool (!gb m v.toNat)) G):Fh Tryz.prog (.fn 171) [.i v,.ptr p 0] G K:=by
 refine E8 r_lengths_Check_2 k_lengths_Check_2 (by simp) ?_;obtain⟨a,rfl⟩:=Af hv.1;have g:a<m.length:=by omega
 have l:=Xn (f:=LV.bool) (at_gb g);simp[z6c,h,j,g];simp[Fv l];simpa using k
theorem zb1 (vs:List Vr)(os rs:List Ko)(aI:vs.length≤9223372036854775807):Fq Tryz.prog 118 [.agg (Jx vs os rs)] (.i (Mx vs os rs)) []:=by
 refine Fq.val rfl (E8 r_lengths_Check k_lengths_Check (by simp) ?_);have bad:Io vs os rs=false→Mx vs os rs=2:=fun h=>by simp[Mx,h]
 simp[z8i,Jx];refine E9 (zhr vs aI) (bors_self _ (by simp[dats,LV.dat,Lu])) ?_;cases hv:Kk vs with
 |false=>simp[bad,Io,hv]
 |true =>
 have aJ:=ziv hv;by_cases g1:(4096:Int)<(os.length:Int)
 ·simp[g1];exact (bad (by simp[Io,hv];omega)).symm
 by_cases g2:(4096:Int)<(rs.length:Int)
 ·simp[g1,g2];exact (bad (by simp[Io,hv];omega)).symm
 simp[g1,g2];refine Iy (fun ρ D G N=>∃i:Nat,D=[]∧N+i=rs.length∧lk ρ 1=.ptr 0 0∧lk ρ 3=.fn (.func 165) [] [.ptr 0 0]∧lk ρ 31=.lst (Mj rs) rs.length 7∧lk ρ 32=.i rs.length∧lk ρ 33=.i i∧0<G.length∧G[0]?=some (.cells (Jx vs os rs) 0)∧∀j,j<i→K2 vs (go rs j)=true) (N:=rs.length) ⟨0,by simp[Jx]⟩ ?_;rintro N ρ D G ⟨i,rfl,hN,r,y,ag,ah,aj,H,E,hr⟩ Nx A;by_cases g:i<rs.length
 ·have q7:=zsn (O4 g);have K:=os_lt g;have I:(go rs i).f=[.i (go rs i).kind,.i (go rs i).d,.i (go rs i).e,.i (go rs i).a,.i (go rs i).b,.i (go rs i).c,.u (go rs i).imm]:=rfl;have no:K2 vs (go rs i)=false→Mx vs os rs=2:=fun h=>bad (by
   have:rs.all (K2 vs)=false:=by
    rw[Eu];exact⟨go rs i,A7 (O4 g),by simp[h]⟩
   simp[Io,this])
  have yes:K2 vs (go rs i)=true→∀j,j<i+1→K2 vs (go rs j)=true:=fun h j X=>by
   by_cases e:j=i
   ·rw[e];exact h
   ·exact hr j (by omega)
  generalize go rs i=o at *;by_cases U:o.kind=17
  ·simp[r,y,ag,ah,aj,g,q7,K,I,U,↓F4 H,E,Jx];have hc:=zbx (H6 vs) vs.length o;rw[I,U] at hc;refine E9 hc (bors_self _ (by simp[dats,LV.dat,Lu])) ?_;cases hn:Pb vs.length o with
   |false =>
    simp;exact (no (by simp[K2,hn])).symm
   |true =>
    have ao:=zx3 U hn;have ha:o.a<vs.length:=by
     simp only[Pb,Ab] at hn;exact (z67.1 hn.2.2.2.1).2
    have hb:o.b<vs.length:=by
     simp only[Pb,Ab] at hn;have:=hn.2.2.2.2;split at this
     ·exact (z67.1 this).2
     ·simp at this;omega
    simp[y];refine zdo o.a (by rw[F4 H];exact E) ha ?_;cases ho:M1 vs o.a with
    |true =>
     simp;exact (no (by simp[K2,ho])).symm
    |false =>
     simp[y];refine zdo o.b (by rw[F4 H];exact E) hb ?_;cases aD:M1 vs o.b with
     |true =>
      simp;exact (no (by simp[K2,aD])).symm
     |false =>
      simp[aj];exact⟨by omega,A _ _ _ ⟨N - 1,by omega,i+1,rfl,by omega,by simp[r],by simp[y],by simp[ag],by simp[ah],by simp,by simp,by rw[F4 H];exact E,yes (by simp[K2,U,hn,ho,aD])⟩⟩
  ·simp[r,y,ag,ah,aj,g,q7,K,I,U];exact (no (by simp[K2,U])).symm
 have aE:rs.all (K2 vs)=true:=by
  rw[Cb];intro o ho;obtain⟨j,X,rfl⟩:=Cq.1 ho;have e:=O4 X;rw[Ai X] at e;rw[Option.some.inj e];exact hr j (by omega)
 simp[r,y,ag,ah,aj,g,E,Jx,aJ,↓F4 H];refine⟨by omega,?_⟩;refine Iy (fun ρ D G N=>∃(i:Nat) (m:List Bool) (p q st x:Nat),D=[]∧N+i=vs.length∧lk ρ 1=.ptr 0 0∧lk ρ 3=.fn (.func 165) [] [.ptr 0 0]∧lk ρ 6=.ptr p 0∧lk ρ 65=.lst (H6 vs) vs.length 3∧lk ρ 66=.i vs.length∧lk ρ 67=.i i ∧
   0<G.length∧p<G.length∧0<q∧q<G.length∧G[0]?=some (.cells (Jx vs os rs) 0)∧G[p]?=some (.cells [.dy q 0] st)∧G[q]?=some (.dyn (m.map .bool) m.length 1 0 x)∧m.length=vs.length∧∀j,j<i→gb m j=Ka (gv vs j)) (N:=vs.length)
  ⟨0,List.replicate vs.length false,G.length+1,G.length,1,0,rfl,by omega,by simp[r],by simp[y],by simp,by simp[r],by simp,by simp,by simp,by simp,H,by simp,by rw[F4 H];exact E,by simp,by simp[repB],by simp,by simp⟩ ?_
 clear r y E hr A H;rintro N ρ D G ⟨i,m,p,q,st,x,rfl,hN,r,y,w,aw,ax,ay,H,l,Y,B,E,C,K,L,hm⟩ Nx A;by_cases g:i<vs.length
 ·have hg:=Nj g;have q3:=ze7 hg;have az:=zqe g;have I:(gv vs i).f=[.i (gv vs i).limbs,.bool (gv vs i).sec,.i (gv vs i).mode]:=rfl;simp[r,w,aw,ax,ay,g,q3,az,I,↓F4 l,C];rw[←I];refine E9 (zb7 (gv vs i)) (bors_self _ rfl) ?_;simp[↓F4 l,↓F4 B,C,K,w,ay,g,L];refine⟨by omega,by omega,A _ _ _ ⟨N - 1,by omega,i+1,m.set i (Ka (gv vs i)),p,q,st,x+1,rfl,by omega,by simp[r],by simp[y],by simp[w],by simp[aw],by simp[ax],by simp,by simp,by simp;omega,Y,by simp;omega,?_,?_,?_,by simp[L],fun j X=>?_⟩⟩
  ·rw[Ad (by omega),F4 H];exact E
  ·have aK:p≠q:=fun e=>by rw[e,K] at C;cases C
   rw[Ad (by omega),F4 l];exact C
  ·rw[Ah (by simp;omega),zla _ _ _ _ (by omega),Ce,L]
  ·rw[Zv _ _ _ _ (by omega)];split
   ·rename_i e;rw[e]
   ·exact hm j (by omega)
 have aL:m=Py vs:=gb_ext (by simp[Py,L]) (fun j X=>by
  rw[hm j (by omega)];unfold gb Py;rw[Ae,Cc,Nj (by omega)];rfl)
 simp[r,w,aw,ax,ay,g,E,Jx];refine Iy (fun ρ D G N=>∃(i:Nat) (m:List Bool) (z:Int) (p q st x:Nat),D=[]∧N+i=os.length∧lk ρ 1=.ptr 0 0∧lk ρ 3=.fn (.func 165) [] [.ptr 0 0]∧lk ρ 6=.ptr p 0∧lk ρ 9=.i z∧lk ρ 79=.lst (Mj os) os.length 7∧lk ρ 80=.i os.length∧lk ρ 81=.i i ∧
   0<G.length∧p<G.length∧0<q∧q<G.length∧G[0]?=some (.cells (Jx vs os rs) 0)∧G[p]?=some (.cells [.dy q 0] st)∧G[q]?=some (.dyn (m.map .bool) m.length 1 0 x)∧m.length=vs.length∧0≤z∧z≤4∧Jb vs m z (os.drop i)=Jb vs (Py vs) 0 os) (N:=os.length)
  ⟨0,m,0,p,q,st,x,rfl,by omega,by simp[r],by simp[y],by simp[w],by simp,by simp[r],by simp,by simp,H,l,Y,B,E,C,K,L,by omega,by omega,by simp[aL]⟩ ?_
 clear r y w E C K A H l Y B L;rintro N ρ D G ⟨i,m,z,p,q,st,x,rfl,hN,r,y,w,P,Q,R,S,H,l,Y,B,E,C,K,L,aR,aS,V⟩ Nx A;have aK:p≠q:=fun e=>by rw[e,K] at C;cases C
 by_cases g:i<os.length
 ·have q7:=zsn (O4 g);have az:=os_lt g;rw[Zi g] at V;have I:(go os i).f=[.i (go os i).kind,.i (go os i).d,.i (go os i).e,.i (go os i).a,.i (go os i).b,.i (go os i).c,.u (go os i).imm]:=rfl;generalize go os i=o at *;have no:Jb vs m z (o::os.drop (i+1))=none→Mx vs os rs=2:=fun h=>bad (by
   rw[h] at V;simp[Io,←V])
  simp[r,Q,R,S,g,q7,az,I,↓F4 H,E,Jx];rw[←I];refine E9 (zjs vs o) (bors_self _ (by simp[dats,LV.dat,Lu,I])) ?_;cases ho:Gu vs o with
  |false =>
   simp;exact (no (by simp[Jb,ho])).symm
  |true =>
  have ao:=Wq ho;simp[I];rw[←I];refine L8 (zax o ao.swap) rfl ?_;simp[w];have aM:(Km o).length≤9223372036854775807:=by
   have r:([o.a,o.b,o.c].filter fun v=>!decide (v<0)).length≤3:=List.length_filter_le _ _;unfold Km;split<;>simp at r ⊢<;>omega
  refine z7j (p:=fun v=>!gb m v.toNat) aM (fun v hv K' k=>zqi v (by rw[F4 l];exact C) (by rw[F4 B];exact K) (by have:=ao.takes v hv;omega) k) ?_;cases ht:S4 m o with
  |false =>
   have:((Km o).any fun v=>!gb m v.toNat)=true:=by
    have h:=ht;unfold S4 at h;rw[Eu] at h;obtain⟨v,hv,h⟩:=h;exact Bv.2 ⟨v,hv,by simpa using h⟩
   rw[this];simp;exact (no (by simp[Jb,ho,ht])).symm
  |true =>
  have:((Km o).any fun v=>!gb m v.toNat)=false:=by
   have h:=ht;unfold S4 at h;rw[Cb] at h;rw[D7];intro v hv;simp[h v hv]
  rw[this];have fin:∀s,s=z+dl o.kind→(s<0∨4<s→Mx vs os rs=2)∧(0≤s→s≤4→Jb vs (Nv m o) s (os.drop (i+1))=Jb vs (Py vs) 0 os):=fun s e=>by
   subst e;refine⟨fun h=>no ?_,fun h0 h4=>?_⟩
   ·rw[Jb,Ac];simp only[Ab,Ak];omega
   ·rw[←V,Jb,Ag];simp only[Ab,Ak];exact⟨ho,ht,h0,h4⟩
  have aA:∃M,dl o.kind=M∧-1≤M∧M≤1∧((o.kind=15∧M=1)∨(o.kind≠15∧o.kind=16∧M=-1)∨(o.kind≠15∧o.kind≠16∧M=0)):=by
   by_cases k1:o.kind=15
   ·exact⟨1,by simp[dl,k1],by omega,by omega,.inl ⟨k1,rfl⟩⟩
   by_cases k2:o.kind=16
   ·exact⟨-1,by simp[dl,k2],by omega,by omega,.inr (.inl ⟨k1,k2,rfl⟩)⟩
   ·exact⟨0,by simp[dl,k1,k2],by omega,by omega,.inr (.inr ⟨k1,k2,rfl⟩)⟩
  obtain⟨M,e1,e2,e3,aA⟩:=aA;obtain⟨ap,aF⟩:=fin (z+M) (by rw[e1]);have aT:=ao.d;have Z:0≤o.d→o.d<(m.length:Int):=fun h=>by omega
  have aa:0≤o.d→Gm (m.map LV.bool) o.d.toNat [.bool true]=(m.set o.d.toNat true).map LV.bool:=fun h=>zla LV.bool _ _ true (by omega)
  have next:∀(s:Int) (ρ':Ey) (G':Ev) (ad:Nat),s=z+M→0≤s→s≤4→lk ρ' 1=.ptr 0 0→lk ρ' 3=.fn (.func 165) [] [.ptr 0 0]→lk ρ' 6=.ptr p 0→lk ρ' 9=.i s→lk ρ' 79=.lst (Mj os) os.length 7→lk ρ' 80=.i os.length→lk ρ' 81=.i ((i:Int)+1) →
    G.length≤G'.length→G'[0]?=some (.cells (Jx vs os rs) 0)→G'[p]?=some (.cells [.dy q 0] st)→G'[q]?=some (.dyn ((Nv m o).map .bool) m.length 1 0 ad)→Nx ρ' [] G':=by
   intro s ρ' G' ad e aq ar a1 a3 a6 a9 aN aO aP hle b0 bp bq;have aG:(Nv m o).length=m.length:=by unfold Nv;split<;>simp
   refine A _ _ _ ⟨N - 1,by omega,i+1,Nv m o,s,p,q,st,ad,rfl,by omega,a1,a3,a6,a9,aN,aO,by rw[aP];simp,by omega,by omega,Y,by omega,b0,bp,by rw[aG];exact bq,by rw[aG,L],aq,ar,?_⟩;subst e;exact aF aq ar
  have q0:q≠0:=by omega
  have aB:0≤o.d→Nv m o=m.set o.d.toNat true:=fun h=>by simp[Nv,h]
  have aC:¬0≤o.d→Nv m o=m:=fun h=>by simp[Nv,h]
  rcases aA with ⟨F,rfl⟩ | ⟨F,W,rfl⟩ | ⟨F,W,rfl⟩
  ·have r0:¬z+1<0:=by omega
   by_cases d4:4<z+1
   ·simp[P,I,F,r0,d4]
    repeat (refine⟨by omega,?_⟩)
    exact (ap (.inr d4)).symm
   by_cases d1:0≤o.d
   ·have d2:=Z d1;simp[w,P,S,I,F,r0,d4,↓F4 l,↓F4 B,C,K,d1,d2,aa d1]
    repeat (refine⟨by omega,?_⟩)
    refine next (z+1) _ _ (x+1) rfl (by omega) (by omega) (by simp[r]) (by simp[y]) (by simp[w]) (by simp) (by simp[Q]) (by simp[R]) (by simp) (by simp) ?_ ?_ ?_
    ·rw[Ad (by omega),F4 H];exact E
    ·rw[Ad (by omega),F4 l];exact C
    ·rw[Ah (by simp;omega),aB d1,B0]
   ·simp[w,P,S,I,F,r0,d4,d1]
    repeat (refine⟨by omega,?_⟩)
    exact next (z+1) _ _ x rfl (by omega) (by omega) (by simp[r]) (by simp[y]) (by simp[w]) (by simp) (by simp[Q]) (by simp[R]) (by simp) (by simp) (by rw[F4 H];exact E) (by rw[F4 l];exact C) (by rw[F4 B,aC d1];exact K)
  ·by_cases r0:z - 1<0
   ·simp[P,I,F,W,r0]
    repeat (refine⟨by omega,?_⟩)
    exact (ap (.inl (by omega))).symm
   have d4:¬4<z - 1:=by omega
   by_cases d1:0≤o.d
   ·have d2:=Z d1;simp[w,P,S,I,F,W,r0,d4,↓F4 l,↓F4 B,C,K,d1,d2,aa d1]
    repeat (refine⟨by omega,?_⟩)
    refine next (z - 1) _ _ (x+1) (by omega) (by omega) (by omega) (by simp[r]) (by simp[y]) (by simp[w]) (by simp) (by simp[Q]) (by simp[R]) (by simp) (by simp) ?_ ?_ ?_
    ·rw[Ad (by omega),F4 H];exact E
    ·rw[Ad (by omega),F4 l];exact C
    ·rw[Ah (by simp;omega),aB d1,B0]
   ·simp[w,P,S,I,F,W,r0,d4,d1]
    repeat (refine⟨by omega,?_⟩)
    exact next (z - 1) _ _ x (by omega) (by omega) (by omega) (by simp[r]) (by simp[y]) (by simp[w]) (by simp) (by simp[Q]) (by simp[R]) (by simp) (by simp) (by rw[F4 H];exact E) (by rw[F4 l];exact C) (by rw[F4 B,aC d1];exact K)
  ·have r0:¬z<0:=by omega
   have d4:¬4<z:=by omega
   by_cases d1:0≤o.d
   ·have d2:=Z d1;simp[w,P,S,I,F,W,r0,d4,↓F4 l,↓F4 B,C,K,d1,d2,aa d1]
    repeat (refine⟨by omega,?_⟩)
    refine next z _ _ (x+1) (by omega) (by omega) (by omega) (by simp[r]) (by simp[y]) (by simp[w]) (by simp[P]) (by simp[Q]) (by simp[R]) (by simp) (by simp) ?_ ?_ ?_
    ·rw[Ad (by omega),F4 H];exact E
    ·rw[Ad (by omega),F4 l];exact C
    ·rw[Ah (by simp;omega),aB d1,B0]
   ·simp[w,P,S,I,F,W,r0,d4,d1]
    repeat (refine⟨by omega,?_⟩)
    exact next z _ _ x (by omega) (by omega) (by omega) (by simp[r]) (by simp[y]) (by simp[w]) (by simp[P]) (by simp[Q]) (by simp[R]) (by simp) (by simp) (by rw[F4 H];exact E) (by rw[F4 l];exact C) (by rw[F4 B,aC d1];exact K)
 have aQ:Jb vs (Py vs) 0 os=some (m,z):=by
  rw[Cv (by omega)] at V;rw[←V];rfl
 have l1:os.length≤4096:=by omega
 have l2:rs.length≤4096:=by omega
 have af:Io vs os rs=(Ub vs m&&decide (z=0)):=by simp[Io,hv,aE,aQ,l1,l2]
 simp[r,y,w,Q,R,S,g,C,K];refine Iy (fun ρ D G' N=>∃i:Nat,D=[]∧G'=G∧N+i=vs.length∧lk ρ 1=.ptr 0 0∧lk ρ 3=.fn (.func 165) [] [.ptr 0 0]∧lk ρ 6=.ptr p 0∧lk ρ 9=.i z∧lk ρ 121=.i vs.length∧lk ρ 122=.i i ∧
   ∀j,j<i→(gv vs j).mode=3→gb m j=true) (N:=vs.length) ⟨0,rfl,rfl,by omega,by simp[r],by simp[y],by simp[w],by simp[P],by simp[L],by simp,fun j X=>by omega⟩ ?_
 clear r y w P A;rintro N ρ D G' ⟨i,rfl,rfl,hN,r,y,w,P,T,J,ha⟩ Nx A;by_cases g:i<vs.length
 ·have gm:i<m.length:=by omega
  have q1:=Xn (f:=LV.bool) (at_gb gm);simp[y,T,J,g];refine zdo (i:Int) E (by omega) ?_;cases ho:M1 vs i with
  |false =>
   simp[J];refine⟨by omega,A _ _ _ ⟨N - 1,by omega,i+1,rfl,rfl,by omega,by simp[r],by simp[y],by simp[w],by simp[P],by simp[T],by simp,fun j X O=>?_⟩⟩;by_cases e:j=i
   ·subst e;simp[M1,O] at ho
   ·exact ha j (by omega) O
  |true =>
   cases hb:gb m i with
   |false =>
    simp[w,J,C,K,gm,Fv q1,hb];have O:(gv vs i).mode=3:=by simp[M1] at ho;exact ho
    have:Ub vs m=false:=by
     unfold Ub;rw[Eu];exact⟨i,Cp.2 g,by simp[O,hb]⟩
    exact (bad (by rw[af,this];rfl)).symm
   |true =>
    simp[w,J,C,K,gm,Fv q1,hb];refine⟨by omega,A _ _ _ ⟨N - 1,by omega,i+1,rfl,rfl,by omega,by simp[r],by simp[y],by simp[w],by simp[P],by simp[T],by simp,fun j X O=>?_⟩⟩;by_cases e:j=i
    ·rw[e];exact hb
    ·exact ha j (by omega) O
 have aH:Ub vs m=true:=by
  unfold Ub;rw[Cb];intro j X;have X:=Cp.1 X;by_cases O:(gv vs j).mode=3
  ·simp[ha j (by omega) O]
  ·simp[O]
 by_cases d0:z=0
 ·simp[P,T,J,g,d0];simp[Mx,af,aH,d0]
 ·simp[P,T,J,g,d0];simp[Mx,af,d0]
def z9f:LC:=(.q [.z 1 (.box (.t 0)),.z 2 (.move .F)] (.q [.f 3 2 1,.l 4 3,.z 5 (.bin .eql true 3 (.t 4) (.k 1)),.m 6 5,.n 7 6 (.fieldAddr 2 (.t 1)),.n 8 6 (.load1 (.t 7)),.n 9 6 (.bin .eql true 3 (.t 8) (.k 2)),.z 10 (.pick (.t 6) .T (.t 9)),.m 2 10] .ret))
theorem r_expand_given:Fg Tryz.prog 172=some ⟨11,z9f.r,[.tmp 2]⟩:=by kernel_rfl
theorem k_expand_given:z9f.ok=true:=by kernel_rfl
def z88:LC:=(.q [.z 4 (.alloc [.nilSl,.nilSl,.nilSl])] (.q [.m 8 0,.z 9 (.build [.nilSl,.nilSl,.nilSl] [(0,1,.t 8)]),.z 5 (.alloc [.nilSl,.nilSl,.nilSl]),.v (.store 3 (.t 5) (.t 9))] (.seq (.q [.m 10 0,.z 11 (.lenSl (.t 10)),.z 12 (.move (.k 0))] (.block 0 (.loop (.q [.z 13 (.bin .lss false 3 (.t 12) (.t 11))] (.seq (.cond (.t 13) .skip (.exit 0)) (.seq (.block 1 (.q [.m 14 12,.z 15 (.ixAddr 3 (.t 10) (.t 12)),.z 16 (.loadN 3 (.t 15)),.z 7 (.alloc [(.i 0),(.bool false),(.i 0)]),.m 6 14,.v (.store 3 (.t 7) (.t 16))] (.q [.z 17 (.loadN 3 (.t 7)),.z 18 (.w 172 [.t 17]),.z 19 (.un .not (.t 18))] (.cond (.t 19) (.ops [.f 20 1 5,.l 21 20,.m 22 6,.z 23 (.build [(.i 0),(.i 0),(.i 0),(.i 0),(.i 0),(.i 0),(.u 0)] [(0,1,.k 1),(1,1,.t 22),(2,1,.k (-1)),(3,1,.k (-1)),(4,1,.k (-1)),(5,1,.k (-1))]),.z 24 (.buildSl 7 1 [(.i 0),(.i 0),(.i 0),(.i 0),(.i 0),(.i 0),(.u 0)] [(0,7,.t 23)]),.z 25 (.appG 7 (.t 21) (.t 24)),.f 26 1 5,.v (.store 1 (.t 26) (.t 25))]) .skip)))) (.ops [.z 27 (.bin .add true 3 (.t 12) (.k 1)),.m 12 27]))))))) (.q [.f 28 1 5,.l 29 28,.m 30 1,.z 31 (.appG 7 (.t 29) (.t 30)),.f 32 1 5,.v (.store 1 (.t 32) (.t 31))] (.q [.z 33 (.loadN 3 (.t 5)),.v (.store 3 (.t 4) (.t 33))] .ret)))))
theorem r_expand_kernel:Fg Tryz.prog 119=some ⟨34,z88.r,[.cellN 4 3]⟩:=by kernel_rfl
theorem k_expand_kernel:z88.ok=true:=by kernel_rfl
def z7e:LC:=(.q [.z 3 (.box (.t 1)),.z 4 (.move .F)] (.seq (.q [.f 5 0 3,.l 6 5,.z 7 (.bin .eql true 3 (.t 6) (.k 15)),.m 8 7,.n 9 8 (.fieldAddr 0 (.t 3)),.n 10 8 (.load1 (.t 9)),.n 11 8 (.bin .eql true 3 (.t 10) (.k 16)),.z 12 (.pick (.t 8) .T (.t 11))] (.cond (.t 12) (.q [.z 4 (.move .F)] .ret) .skip)) (.q [.m 13 0,.z 14 (.loadN 7 (.t 3)),.z 15 (.buildSl 7 1 [(.i 0),(.i 0),(.i 0),(.i 0),(.i 0),(.i 0),(.u 0)] [(0,7,.t 14)]),.z 16 (.w 119 [.t 13,.t 15]),.z 17 (.w 118 [.t 16]),.z 18 (.bin .eql true 35 (.t 17) (.k 0)),.m 4 18] .ret)))
theorem r_expand_May:Fg Tryz.prog 55=some ⟨19,z7e.r,[.tmp 4]⟩:=by kernel_rfl
theorem k_expand_May:z7e.ok=true:=by kernel_rfl
def z3c:LC:=(.q [.z 2 (.move (.k 0))] (.seq (.q [.m 3 0,.z 4 (.bin .lss true 3 (.t 3) (.k 1))] (.cond (.t 4) (.q [.z 2 (.move (.k 0))] .ret) .skip)) (.q [.m 5 0,.z 6 (.bin .add true 3 (.t 5) (.k 2)),.m 2 6] .ret)))
theorem r_montgomery_Need:Fg Tryz.prog 21=some ⟨7,z3c.r,[.tmp 2]⟩:=by kernel_rfl
theorem k_montgomery_Need:z3c.ok=true:=by kernel_rfl
def z98:LC:=(.q [.z 3 (.box (.t 1)),.z 4 (.move (.k 0))] (.seq (.q [.f 6 0 3,.l 7 6,.z 8 (.bin .neq true 3 (.t 7) (.k 13)),.m 9 8,.mn 10 9 0,.n 11 9 (.loadN 7 (.t 3)),.n 12 9 (.w 55 [.t 10,.t 11]),.n 13 9 (.un .not (.t 12)),.z 14 (.pick (.t 9) .T (.t 13))] (.cond (.t 14) (.q [.z 4 (.move (.k 0))] .ret) .skip)) (.q [.m 15 0,.f 16 5 3,.l 17 16,.z 18 (.ixAddr 3 (.t 15) (.t 17)),.f 19 0 18,.l 20 19,.m 5 20] (.seq (.draw [(.f 21 6 3,[]),(.l 22 21,[]),(.z 23 (.bin .shl true 3 (.k 1) (.t 22)),[]),(.z 24 (.bin .add true 3 (.k 3) (.t 23)),[]),(.m 25 5,[]),(.z 26 (.bin .mul false 3 (.t 24) (.t 25)),[]),(.m 27 0,[]),(.f 28 4 3,[]),(.l 29 28,[]),(.z 30 (.ixAddr 3 (.t 27) (.t 29)),[]),(.f 31 0 30,[]),(.l 32 31,[]),(.z 33 (.bin .add false 3 (.t 26) (.t 32)),[]),(.z 34 (.bin .add true 3 (.t 33) (.k 1)),[]),(.m 35 5,[]),(.z 36 (.w 21 [.t 35]),[(.l 32 31,false),(.l 29 28,false),(.l 22 21,false)]),(.z 37 (.bin .add false 3 (.t 34) (.t 36)),[]),(.m 4 37,[])]) .ret))))
theorem r_power_Work:Fg Tryz.prog 42=some ⟨38,z98.r,[.tmp 4]⟩:=by kernel_rfl
theorem k_power_Work:z98.ok=true:=by kernel_rfl
theorem zbh (v:Vr):Fq Tryz.prog 172 [.agg v.f] (.bool (Ka v)) []:=by
 refine Fq.val rfl (E8 r_expand_given k_expand_given (by simp) ?_);by_cases a:v.mode=1<;>simp[z9f,Vr.f,Ka,a]
theorem zr6 {vs:List Vr}{i:Nat}(h:i<vs.length):Nf i (vs.drop i)=(if Ka (gv vs i)=true then [] else [Qt 1 i])++Nf (i+1) (vs.drop (i+1)):=by
 rw[zra h,Nf];split<;>rfl
theorem zyu (l:List LV):(LV.agg l).cells=some l:=rfl
theorem zw0 (a b:List Ko):Mj (a++b)=Mj a++Mj b:=by simp[Mj]
theorem zb0 (vs:List Vr)(new:List Ko)(T:vs.length≤1000000)(U:new.length≤1000000):Ib Tryz.prog 119 [.lst (H6 vs) vs.length 3,.lst (Mj new) new.length 7] (.agg (Jx vs (Nf 0 vs++new) [])):=by
 refine Ib.mk (by simp[Jx,LV.dat,dats,Lu,zcb]) (E8 r_expand_kernel k_expand_kernel (by simp) ?_);simp[z88];refine Iy (fun ρ D G N=>∃(i:Nat) (L:List Ko) (v:LV) (st:Nat),D=[]∧N+i=vs.length∧lk ρ 1=.lst (Mj new) new.length 7∧lk ρ 4=.ptr 0 0∧lk ρ 5=.ptr 1 0∧lk ρ 10=.lst (H6 vs) vs.length 3∧lk ρ 11=.i vs.length∧lk ρ 12=.i i ∧
   1<G.length∧G[0]?=some (.cells [.nilSl,.nilSl,.nilSl] 0)∧G[1]?=some (.cells [.lst (H6 vs) vs.length 3,v,.nilSl] st)∧Rw 2 G v 7 L.length (Mj L)∧L.length≤i∧Nf 0 vs=L++Nf i (vs.drop i)) (N:=vs.length)
  ⟨0,[],.nilSl,1,rfl,by omega,by simp,by simp,by simp,by simp,by simp,by simp,by simp,by simp,by simp,Rw.nil,by simp,by simp⟩ ?_
 rintro N ρ D G ⟨i,L,v,st,rfl,V,F,H,z,p,q,r,s,w,d,I,P,a⟩ W A;have B:0<G.length:=by omega
 by_cases g:i<vs.length
 ·have Q:=Nj g;have R:=ze7 Q;have J:=zqe g;have M:(gv vs i).f=[.i (gv vs i).limbs,.bool (gv vs i).sec,.i (gv vs i).mode]:=rfl;have C:=zr6 g;rw[C] at a;simp[p,q,r,g,R,J,M];rw[←M];refine E9 (zbh (gv vs i)) (bors_self _ rfl) ?_;cases E:Ka (gv vs i) with
  |true =>
   rw[E] at a;simp[r];refine⟨by omega,A _ _ _ ⟨N - 1,by omega,i+1,L,v,st,rfl,by omega,by simp[F],by simp[H],by simp[z],by simp[p],by simp[q],by simp,by simp;omega,by rw[F4 B];exact w,by rw[F4 s];exact d,I.push_end,by omega,by simpa using a⟩⟩
  |false =>
   rw[E] at a;simp[z,↓F4 s,d];refine Rw.push (m:=1) (x:=(Qt 1 i).f) I.push_end (by omega) (by simp) (by omega) rfl fun O G' h j S=>?_
   have l:G'[1]?=some (.cells [.lst (H6 vs) vs.length 3,v,.nilSl] st):=by rw[j 1 (by omega),F4 s];exact d
   have o:G'[0]?=some (.cells [.nilSl,.nilSl,.nilSl] 0):=by rw[j 0 (by omega),F4 B];exact w
   have K:=h.cells;simp[-LV.cells,z,r,l,K];refine⟨by omega,A _ _ _ ⟨N - 1,by omega,i+1,L++[Qt 1 i],O,st+1,rfl,by omega,by simp[F],by simp[H],by simp[z],by simp[p],by simp[q],by simp,by simp;omega,?_,?_,?_,by simp;omega,by simpa using a⟩⟩
   ·rw[Ad (by omega)];exact o
   ·rw[Ah (by omega)]
   ·rw[zw0,Aj,show Mj [Qt 1 (i:Int)]=(Qt 1 i).f by simp[Mj]];exact h.set_lt (by omega)
 ·rw[Cv (by omega)] at a;have a:Nf 0 vs=L:=by simpa [Nf] using a
  simp[F,z,p,q,r,g,d];refine⟨by omega,?_⟩;refine Rw.push (m:=new.length) I (by omega) (by omega) (by omega) (osC_len new) fun O G' h j S=>?_
  have l:G'[1]?=some (.cells [.lst (H6 vs) vs.length 3,v,.nilSl] st):=by rw[j 1 (by omega)];exact d
  have o:G'[0]?=some (.cells [.nilSl,.nilSl,.nilSl] 0):=by rw[j 0 (by omega)];exact w
  have K:=h.cells;have s1:∀x,(G'.set 1 x)[1]?=some x:=fun x=>Ah (by omega)
  have s0:∀x,(G'.set 1 x)[0]?=some (.cells [.nilSl,.nilSl,.nilSl] 0):=fun x=>by rw[Ad (by omega)];exact o
  have s2:∀x y,((G'.set 1 x).set 0 y)[0]?=some y:=fun x y=>Ah (by rw[Ce];omega)
  simp[-LV.cells,H,z,↓l,↓s1,↓s0,↓s2,K,zyu];refine⟨_,_,rfl,⟨rfl,Lu vs⟩,_,_,rfl,?_,_,rfl,.inr ⟨7,rfl⟩⟩;rw[a,zw0,Aj];exact ((h.set_lt (by omega)).set_lt (by omega)).bor (dats_app (zcb _) (zcb _))
theorem one_row (o:Ko):o.f=Mj [o]:=by simp[Mj]
theorem zmr (vs:List Vr)(o:Ko)(h:vs.length≤1000000):Fq Tryz.prog 55 [.lst (H6 vs) vs.length 3,.agg o.f] (.bool (Mb vs o)) []:=by
 refine Fq.val rfl (E8 r_expand_May k_expand_May (by simp) ?_);have g:o.f=[.i o.kind,.i o.d,.i o.e,.i o.a,.i o.b,.i o.c,.u o.imm]:=rfl;by_cases d:o.kind=15
 ·simp[z7e,g,d];simp[Mb,zpb,d]
 by_cases f:o.kind=16
 ·simp[z7e,g,d,f];simp[Mb,zpb,f]
 simp[z7e,g,d,f];refine zab (a:=[.lst (H6 vs) vs.length 3]) (b:=[]) rfl ?_;rw[←g,one_row];refine L8 (zb0 vs [o] h (by simp)) (by simp[dats,LV.dat,Lu,zcb]) ?_;simp;refine E9 (zb1 vs _ [] (by omega)) (bors_self _ (by simp[Jx,dats,LV.dat,Lu,zcb])) ?_;simp[Mb,zpb,d,f,Mx]
theorem zet (n:Int)(h:1≤n∧n≤512):Fq Tryz.prog 21 [.i n] (.i (n+2)) []:=by
 refine Fq.val rfl (E8 r_montgomery_Need k_montgomery_Need (by simp) ?_);have a:¬n<1:=by omega
 simp[z3c,a];omega
theorem ze9 (vs:List Vr)(o:Ko)(r:vs.length≤1000000):Fq Tryz.prog 42 [.lst (H6 vs) vs.length 3,.agg o.f] (.i (Gy vs o)) []:=by
 refine Fq.val rfl (E8 r_power_Work k_power_Work (by simp) ?_);have d:o.f=[.i o.kind,.i o.d,.i o.e,.i o.a,.i o.b,.i o.c,.u o.imm]:=rfl;by_cases hk:o.kind=13
 case neg=>simp[z98,d,hk,Gy]
 simp[z98,d,hk];have h:=zmr vs o r;rw[d,hk] at h;refine E9 h (bors_self _ (by simp[dats,LV.dat,Lu])) ?_;cases hm:Mb vs o with
 |false=>simp[Gy,hm]
 |true =>
 obtain⟨hv,j,l,_⟩:=zna (s:=29) hm (by simp[I9,hk]);obtain⟨a,f,w,m,la⟩:=zc0 hv (zj4 j (by decide));obtain⟨b,g,p,q,x⟩:=zc0 hv (zii j (by decide));simp[Jz,hk] at l;simp[f,g,w,p];simp[f] at m la;simp[g] at q x;simp[Fv m,Fv q];have y:o.imm.toNat≤6:=by have:=l.2;rw[Bm] at this;exact this
 have hw:∀n,n≤6→(1:Int)≤2^n∧(2:Int)^n≤64:=by decide
 obtain⟨z,A⟩:=hw _ y;have m1:(0:Int)≤(3+2^o.imm.toNat)*Je vs a:=Int.mul_nonneg (by omega) (by omega);have B:(3+2^o.imm.toNat)*Je vs a≤67*512:=Int.mul_le_mul (by omega) la.2 (by omega) (by omega);refine⟨by omega,by omega,by omega,by omega,p,by omega,by omega,?_⟩;refine E9 (zet (Je vs (a:Int)) la) (by simp) ?_;simp
 repeat (refine⟨by omega,?_⟩)
 simp[Gy,hm,hk,f,g]
def z1k:LC:=(.q [.z 4 (.move (.k 0))] (.seq (.q [.m 6 0,.z 7 (.lenSl (.t 6)),.z 8 (.move (.k 0))] (.block 0 (.loop (.q [.z 9 (.bin .lss false 3 (.t 8) (.t 7))] (.seq (.cond (.t 9) .skip (.exit 0)) (.seq (.block 1 (.q [.m 10 8,.m 5 10] (.q [.m 11 1,.m 12 0,.m 13 5,.z 14 (.ixAddr 3 (.t 12) (.t 13)),.z 15 (.loadN 3 (.t 14)),.z 16 (.callV (.t 11) [.t 15])] (.cond (.t 16) (.q [.m 17 5,.m 4 17] .ret) .skip)))) (.ops [.z 18 (.bin .add true 3 (.t 8) (.k 1)),.m 8 18]))))))) (.q [.z 4 (.move (.k (-1)))] .ret)))
theorem r_slices_IndexFunc_api_Buf_api_Buf:Fg Tryz.prog 213=some ⟨19,z1k.r,[.tmp 4]⟩:=by kernel_rfl
theorem k_slices_IndexFunc_api_Buf_api_Buf:z1k.ok=true:=by kernel_rfl
def z17:LC:=(.q [.z 4 (.move .F)] (.q [.m 5 0,.m 6 1,.z 7 (.w 213 [.t 5,.t 6]),.z 8 (.bin .geq true 3 (.t 7) (.k 0)),.m 4 8] .ret))
theorem r_slices_ContainsFunc_api_Buf_api_Buf:Fg Tryz.prog 200=some ⟨9,z17.r,[.tmp 4]⟩:=by kernel_rfl
theorem k_slices_ContainsFunc_api_Buf_api_Buf:z17.ok=true:=by kernel_rfl
def zaq:LC:=(.q [.z 1 (.box (.t 0)),.z 2 (.move (.k 0))] (.seq (.q [.f 3 0 1,.l 4 3,.z 5 (.bin .gtr true 3 (.t 4) (.k 64)),.m 6 5,.n 7 6 (.fieldAddr 1 (.t 1)),.n 8 6 (.load1 (.t 7)),.n 9 6 (.lenSl (.t 8)),.n 10 6 (.bin .gtr true 3 (.t 9) (.k 32)),.z 11 (.pick (.t 6) .T (.t 10)),.m 12 11,.n 13 12 (.fieldAddr 2 (.t 1)),.n 14 12 (.load1 (.t 13)),.n 15 12 (.lenSl (.t 14)),.n 16 12 (.bin .gtr true 3 (.t 15) (.k 65536)),.z 17 (.pick (.t 12) .T (.t 16))] (.cond (.t 17) (.q [.z 2 (.move (.k 3))] .ret) .skip)) (.seq (.q [.f 18 1 1,.l 19 18,.z 20 (.w 200 [.t 19,(.c (.fn (.func 201) [] []))])] (.cond (.t 20) (.q [.z 2 (.move (.k 3))] .ret) .skip)) (.seq (.q [.f 21 0 1,.l 22 21,.z 23 (.bin .lss true 3 (.t 22) (.k 0)),.m 24 23,.n 25 24 (.fieldAddr 1 (.t 1)),.n 26 24 (.load1 (.t 25)),.n 27 24 (.w 200 [.t 26,(.c (.fn (.func 202) [] []))]),.z 28 (.pick (.t 24) .T (.t 27))] (.cond (.t 28) (.q [.z 2 (.move (.k 2))] .ret) .skip)) (.q [.z 2 (.move (.k 0))] .ret)))))
theorem r_limb_head:Fg Tryz.prog 196=some ⟨29,zaq.r,[.tmp 2]⟩:=by kernel_rfl
theorem k_limb_head:zaq.ok=true:=by kernel_rfl
def zat:LC:=(.q [.z 1 (.box (.t 0)),.z 2 (.move .F)] (.q [.f 3 0 1,.l 4 3,.z 5 (.bin .gtr true 3 (.t 4) (.k 65536)),.m 2 5] .ret))
theorem r_limb_head_1:Fg Tryz.prog 201=some ⟨6,zat.r,[.tmp 2]⟩:=by kernel_rfl
theorem k_limb_head_1:zat.ok=true:=by kernel_rfl
def z5o:LC:=(.q [.z 1 (.box (.t 0)),.z 2 (.move .F)] (.q [.f 3 0 1,.l 4 3,.z 5 (.bin .lss true 3 (.t 4) (.k 1)),.m 6 5,.n 7 6 (.fieldAddr 1 (.t 1)),.n 8 6 (.load1 (.t 7)),.n 9 6 (.bin .lss true 3 (.t 8) (.k 1)),.z 10 (.pick (.t 6) .T (.t 9)),.m 11 10,.n 12 11 (.fieldAddr 1 (.t 1)),.n 13 11 (.load1 (.t 12)),.n 14 11 (.bin .gtr true 3 (.t 13) (.k 3)),.z 15 (.pick (.t 11) .T (.t 14)),.m 2 15] .ret))
theorem r_limb_head_2:Fg Tryz.prog 202=some ⟨16,z5o.r,[.tmp 2]⟩:=by kernel_rfl
theorem k_limb_head_2:z5o.ok=true:=by kernel_rfl
def zbn:LC:=(.q [.z 1 (.box (.t 0)),.z 2 (.move (.k 0)),.z 3 (.move (.k 0))] (.seq (.q [.z 9 (.loadN 3 (.t 1)),.z 10 (.w 196 [.t 9]),.m 4 10] (.q [.m 11 4,.z 12 (.bin .neq true 35 (.t 11) (.k 0))] (.cond (.t 12) (.q [.m 13 4,.z 2 (.move (.k 0)),.m 3 13] .ret) .skip))) (.q [.z 14 (.loadN 3 (.t 1)),.z 15 (.build [(.i 0),.nilSl,.nilSl,(.bool false),(.bool false),(.bool false),(.bool false),(.bool false),(.bool false),(.bool false),(.bool false),(.bool false),(.bool false),(.bool false),(.bool false),(.bool false),(.bool false),(.bool false),(.bool false),(.bool false),(.bool false),(.bool false),(.bool false),(.bool false),(.bool false),(.bool false),(.bool false),(.bool false),(.bool false),(.bool false),(.bool false),(.bool false),(.bool false),(.bool false),(.bool false),(.bool false),(.bool false),(.bool false),(.bool false),(.bool false),(.bool false),(.bool false),(.bool false),(.bool false),(.bool false),(.bool false),(.bool false),(.bool false),(.bool false),(.bool false),(.bool false),(.bool false),(.bool false),(.bool false),(.bool false),(.bool false),(.bool false),(.bool false),(.bool false),(.bool false),(.bool false),(.bool false),(.bool false),(.bool false),(.bool false),(.bool false),(.bool false),.nilSl] [(0,3,.t 14)]),.z 16 (.box (.t 15)),.m 5 16] (.seq (.q [.f 17 2 1,.l 18 17,.z 19 (.lenSl (.t 18)),.z 20 (.move (.k 0))] (.block 0 (.loop (.q [.z 21 (.bin .lss false 3 (.t 20) (.t 19))] (.seq (.cond (.t 21) .skip (.exit 0)) (.seq (.block 1 (.q [.m 22 20,.z 23 (.ixAddr 8 (.t 18) (.t 20)),.z 24 (.loadN 8 (.t 23)),.z 7 (.alloc [(.i 0),(.i 0),(.i 0),(.i 0),(.i 0),(.i 0),(.i 0),(.u 0)]),.m 6 22,.v (.store 8 (.t 7) (.t 24))] (.q [.m 25 5,.z 26 (.loadN 8 (.t 7)),.z 27 (.w 197 [.t 25,.t 26]),.m 8 27] (.q [.m 28 8,.z 29 (.bin .neq true 35 (.t 28) (.k 0))] (.cond (.t 29) (.q [.m 30 6,.m 31 8,.m 2 30,.m 3 31] .ret) .skip))))) (.ops [.z 32 (.bin .add true 3 (.t 20) (.k 1)),.m 20 32]))))))) (.seq (.q [.m 33 5,.z 34 (.nilChk (.t 33)),.f 35 67 34,.l 36 35,.z 37 (.lenSl (.t 36)),.z 38 (.bin .gtr true 3 (.t 37) (.k 0))] (.cond (.t 38) (.q [.f 39 2 1,.l 40 39,.z 41 (.lenSl (.t 40)),.m 2 41,.z 3 (.move (.k 9))] .ret) .skip)) (.q [.f 42 2 1,.l 43 42,.z 44 (.lenSl (.t 43)),.m 2 44,.z 3 (.move (.k 0))] .ret))))))
theorem r_limb_Check:Fg Tryz.prog 174=some ⟨45,zbn.r,[.tmp 2,.tmp 3]⟩:=by kernel_rfl
theorem k_limb_Check:zbn.ok=true:=by kernel_rfl
def z24:LC:=(.q [.z 2 (.box (.t 0)),.z 3 (.box (.t 1)),.z 4 (.move .F)] (.seq (.q [.f 6 0 3,.l 7 6,.z 8 (.bin .lss true 3 (.t 7) (.k 0)),.m 9 8,.n 10 9 (.fieldAddr 0 (.t 3)),.n 11 9 (.load1 (.t 10)),.n 12 9 (.fieldAddr 0 (.t 2)),.n 13 9 (.load1 (.t 12)),.n 14 9 (.lenSl (.t 13)),.n 15 9 (.bin .geq false 3 (.t 11) (.t 14)),.z 16 (.pick (.t 9) .T (.t 15)),.m 17 16,.n 18 17 (.fieldAddr 2 (.t 3)),.n 19 17 (.load1 (.t 18)),.n 20 17 (.bin .lss true 3 (.t 19) (.k 1)),.z 21 (.pick (.t 17) .T (.t 20)),.m 22 21,.n 23 22 (.fieldAddr 2 (.t 3)),.n 24 22 (.load1 (.t 23)),.n 25 22 (.bin .gtr true 3 (.t 24) (.k 32768)),.z 26 (.pick (.t 22) .T (.t 25)),.m 27 26,.n 28 27 (.fieldAddr 1 (.t 3)),.n 29 27 (.load1 (.t 28)),.n 30 27 (.bin .lss true 3 (.t 29) (.k 0)),.z 31 (.pick (.t 27) .T (.t 30))] (.cond (.t 31) (.q [.z 4 (.move .F)] .ret) .skip)) (.q [.f 32 0 2,.l 33 32,.f 34 0 3,.l 35 34,.z 36 (.ixAddr 3 (.t 33) (.t 35)),.f 37 0 36,.l 38 37,.m 5 38] (.q [.f 39 1 3,.l 40 39,.m 41 5,.z 42 (.bin .leq false 3 (.t 40) (.t 41)),.m 43 42,.y 44 43 (.fieldAddr 2 (.t 3)),.y 45 43 (.load1 (.t 44)),.my 46 43 5,.y 47 43 (.fieldAddr 1 (.t 3)),.y 48 43 (.load1 (.t 47)),.y 49 43 (.bin .sub false 3 (.t 46) (.t 48)),.y 50 43 (.bin .leq false 3 (.t 45) (.t 49)),.z 51 (.pick (.t 43) (.t 50) .F),.m 4 51] .ret))))
theorem r_expand_lies:Fg Tryz.prog 175=some ⟨52,z24.r,[.tmp 4]⟩:=by kernel_rfl
theorem k_expand_lies:z24.ok=true:=by kernel_rfl
def z9a:LC:=(.q [.z 3 (.box (.t 1)),.z 4 (.move (.k 0))] (.seq (.q [.m 13 0,.z 14 (.w 119 [.t 13,(.c .nilSl)]),.z 15 (.w 118 [.t 14]),.z 16 (.bin .neq true 35 (.t 15) (.k 0)),.m 17 16,.n 18 17 (.fieldAddr 0 (.t 3)),.n 19 17 (.load1 (.t 18)),.n 20 17 (.lenSl (.t 19)),.n 21 17 (.bin .lss true 3 (.t 20) (.k 1)),.z 22 (.pick (.t 17) .T (.t 21)),.m 23 22,.n 24 23 (.fieldAddr 1 (.t 3)),.n 25 23 (.load1 (.t 24)),.n 26 23 (.lenSl (.t 25)),.mn 27 23 0,.n 28 23 (.lenSl (.t 27)),.n 29 23 (.bin .neq false 3 (.t 26) (.t 28)),.z 30 (.pick (.t 23) .T (.t 29))] (.cond (.t 30) (.q [.z 4 (.move (.k 2))] .ret) .skip)) (.seq (.q [.f 32 0 3,.l 33 32,.z 34 (.build [(.i 0),.nilSl,.nilSl] [(1,1,.t 33)]),.z 35 (.w 174 [.t 34]),.m 31 35,.z 36 (.extract 0 (.t 31)),.z 37 (.extract 1 (.t 31)),.m 5 36,.m 6 37] (.q [.m 38 6,.z 39 (.bin .neq true 35 (.t 38) (.k 0))] (.cond (.t 39) (.q [.z 4 (.move (.k 2))] .ret) .skip))) (.seq (.q [.m 40 0,.z 41 (.lenSl (.t 40)),.z 42 (.move (.k 0))] (.block 0 (.loop (.q [.z 43 (.bin .lss false 3 (.t 42) (.t 41))] (.seq (.cond (.t 43) .skip (.exit 0)) (.seq (.block 1 (.q [.m 44 42,.z 45 (.ixAddr 3 (.t 40) (.t 42)),.z 46 (.loadN 3 (.t 45)),.z 8 (.alloc [(.i 0),(.bool false),(.i 0)]),.m 7 44,.v (.store 3 (.t 8) (.t 46))] (.q [.f 47 1 3,.l 48 47,.m 49 7,.z 50 (.ixAddr 3 (.t 48) (.t 49)),.z 51 (.loadN 3 (.t 50)),.z 9 (.alloc [(.i 0),(.i 0),(.i 0)]),.v (.store 3 (.t 9) (.t 51))] (.seq (.q [.z 52 (.loadN 8 (.t 3)),.z 53 (.loadN 3 (.t 9)),.z 54 (.w 175 [.t 52,.t 53]),.z 55 (.un .not (.t 54)),.m 56 55,.n 57 56 (.fieldAddr 2 (.t 9)),.n 58 56 (.load1 (.t 57)),.n 59 56 (.fieldAddr 0 (.t 8)),.n 60 56 (.load1 (.t 59)),.n 61 56 (.bin .neq false 3 (.t 58) (.t 60)),.z 62 (.pick (.t 56) .T (.t 61))] (.cond (.t 62) (.q [.z 4 (.move (.k 2))] .ret) .skip)) (.q [.f 63 0 3,.l 64 63,.f 65 0 9,.l 66 65,.z 67 (.ixAddr 3 (.t 64) (.t 66)),.z 68 (.loadN 3 (.t 67)),.z 10 (.alloc [(.i 0),(.i 0),(.bool false)]),.v (.store 3 (.t 10) (.t 68))] (.q [.f 69 1 10,.l 70 69,.z 71 (.bin .eql true 3 (.t 70) (.k 1)),.m 72 71,.y 73 72 (.loadN 3 (.t 8)),.y 74 72 (.w 172 [.t 73]),.y 75 72 (.un .not (.t 74)),.z 76 (.pick (.t 72) (.t 75) .F),.m 77 76,.n 78 77 (.fieldAddr 1 (.t 10)),.n 79 77 (.load1 (.t 78)),.n 80 77 (.bin .eql true 3 (.t 79) (.k 2)),.mn 81 77 80,.y 82 81 (.loadN 3 (.t 8)),.y 83 81 (.w 172 [.t 82]),.n 84 77 (.pick (.t 81) (.t 83) .F),.z 85 (.pick (.t 77) .T (.t 84)),.m 86 85,.n 87 86 (.fieldAddr 1 (.t 8)),.n 88 86 (.load1 (.t 87)),.n 89 86 (.fieldAddr 2 (.t 10)),.n 90 86 (.load1 (.t 89)),.n 91 86 (.bin .neq false 4 (.t 88) (.t 90)),.z 92 (.pick (.t 86) .T (.t 91))] (.cond (.t 92) (.q [.z 4 (.move (.k 2))] .ret) .skip))))))) (.ops [.z 93 (.bin .add true 3 (.t 42) (.k 1)),.m 42 93]))))))) (.seq (.q [.f 94 2 3,.z 95 (.loadN 6 (.t 94)),.z 96 (.move (.k 0))] (.block 2 (.loop (.q [.z 97 (.bin .lss true 3 (.t 96) (.k 2))] (.seq (.cond (.t 97) .skip (.exit 2)) (.seq (.block 3 (.q [.m 98 96,.z 99 (.ixArr true 2 3 (.t 95) (.t 96)),.z 12 (.alloc [(.i 0),(.i 0),(.i 0)]),.m 11 98,.v (.store 3 (.t 12) (.t 99))] (.q [.z 100 (.loadN 8 (.t 3)),.z 101 (.loadN 3 (.t 12)),.z 102 (.w 175 [.t 100,.t 101]),.z 103 (.un .not (.t 102)),.m 104 103,.n 105 104 (.fieldAddr 0 (.t 3)),.n 106 104 (.load1 (.t 105)),.n 107 104 (.fieldAddr 0 (.t 12)),.n 108 104 (.load1 (.t 107)),.n 109 104 (.ixAddr 3 (.t 106) (.t 108)),.n 110 104 (.fieldAddr 1 (.t 109)),.n 111 104 (.load1 (.t 110)),.n 112 104 (.bin .eql true 3 (.t 111) (.k 1)),.z 113 (.pick (.t 104) .T (.t 112)),.m 114 113,.n 115 114 (.fieldAddr 0 (.t 3)),.n 116 114 (.load1 (.t 115)),.n 117 114 (.fieldAddr 0 (.t 12)),.n 118 114 (.load1 (.t 117)),.n 119 114 (.ixAddr 3 (.t 116) (.t 118)),.n 120 114 (.fieldAddr 2 (.t 119)),.n 121 114 (.load1 (.t 120)),.mn 122 114 11,.n 123 114 (.bin .eql true 3 (.t 122) (.k 1)),.n 124 114 (.bin .neq false 4 (.t 121) (.t 123)),.z 125 (.pick (.t 114) .T (.t 124))] (.cond (.t 125) (.q [.z 4 (.move (.k 2))] .ret) .skip)))) (.ops [.z 126 (.bin .add true 3 (.t 96) (.k 1)),.m 96 126]))))))) (.q [.z 4 (.move (.k 0))] .ret))))))
theorem r_expand_Check:Fg Tryz.prog 125=some ⟨127,z9a.r,[.tmp 4]⟩:=by kernel_rfl
theorem k_expand_Check:z9a.ok=true:=by kernel_rfl
def z47:LC:=(.q [.z 3 (.box (.t 1)),.z 4 (.move .F)] (.q [.f 5 1 3,.l 6 5,.z 7 (.bin .geq true 3 (.t 6) (.k 0)),.m 8 7,.y 9 8 (.fieldAddr 1 (.t 3)),.y 10 8 (.load1 (.t 9)),.my 11 8 0,.y 12 8 (.lenSl (.t 11)),.y 13 8 (.bin .lss false 3 (.t 10) (.t 12)),.z 14 (.pick (.t 8) (.t 13) .F),.m 15 14,.my 16 15 0,.y 17 15 (.fieldAddr 1 (.t 3)),.y 18 15 (.load1 (.t 17)),.y 19 15 (.ixAddr 3 (.t 16) (.t 18)),.y 20 15 (.fieldAddr 1 (.t 19)),.y 21 15 (.load1 (.t 20)),.y 22 15 (.un .not (.t 21)),.z 23 (.pick (.t 15) (.t 22) .F),.m 4 23] .ret))
theorem r_expand_Public:Fg Tryz.prog 126=some ⟨24,z47.r,[.tmp 4]⟩:=by kernel_rfl
theorem k_expand_Public:z47.ok=true:=by kernel_rfl
def zap:LC:=(.q [.z 4 (.box (.t 1)),.z 5 (.box (.t 2)),.z 6 (.move (.k 0)),.z 7 (.alloc [(.i 0),(.i 0),(.i 0)])] (.seq (.q [.m 8 0,.z 9 (.loadN 7 (.t 4)),.z 10 (.w 126 [.t 8,.t 9])] (.cond (.t 10) (.seq (.draw [(.f 11 2 5,[]),(.z 12 (.ixAddrArr 2 3 (.t 11) (.k 0)),[]),(.z 13 (.loadN 3 (.t 12)),[]),(.z 6 (.move (.k 16)),[]),(.v (.store 3 (.t 7) (.t 13)),[])]) .ret) .skip)) (.seq (.draw [(.f 14 2 5,[]),(.z 15 (.ixAddrArr 2 3 (.t 14) (.k 1)),[]),(.z 16 (.loadN 3 (.t 15)),[]),(.z 6 (.move (.k 40)),[]),(.v (.store 3 (.t 7) (.t 16)),[])]) .ret)))
theorem r_expand_Base:Fg Tryz.prog 59=some ⟨17,zap.r,[.tmp 6,.cellN 7 3]⟩:=by kernel_rfl
theorem k_expand_Base:zap.ok=true:=by kernel_rfl
def z9d:LC:=(.q [.z 6 (.box (.t 1)),.z 7 (.box (.t 2)),.z 10 (.move .F)] (.seq (.q [.m 13 0,.z 14 (.loadN 8 (.t 7)),.z 15 (.w 125 [.t 13,.t 14]),.z 16 (.bin .neq true 35 (.t 15) (.k 0)),.m 17 16,.mn 18 17 4,.n 19 17 (.bin .lss true 3 (.t 18) (.k 1)),.z 20 (.pick (.t 17) .T (.t 19)),.m 21 20,.mn 22 21 3,.n 23 21 (.bin .lss true 3 (.t 22) (.k 0)),.z 24 (.pick (.t 21) .T (.t 23)),.m 25 24,.mn 26 25 3,.n 27 25 (.bin .gtr true 3 (.t 26) (.k 4)),.z 28 (.pick (.t 25) .T (.t 27))] (.cond (.t 28) (.q [.z 10 (.move .F)] .ret) .skip)) (.q [.m 30 0,.z 31 (.loadN 7 (.t 6)),.z 32 (.loadN 8 (.t 7)),.z 33 (.w 59 [.t 30,.t 31,.t 32]),.m 29 33,.z 34 (.extract 0 (.t 29)),.z 35 (.extract 1 (.t 29)),.z 12 (.alloc [(.i 0),(.i 0),(.i 0)]),.m 11 34,.v (.store 3 (.t 12) (.t 35))] (.q [.m 36 4,.f 37 2 12,.l 38 37,.z 39 (.bin .leq false 3 (.t 36) (.t 38)),.m 10 39] .ret))))
theorem r_expand_Ready:Fg Tryz.prog 58=some ⟨40,z9d.r,[.tmp 10]⟩:=by kernel_rfl
theorem k_expand_Ready:z9d.ok=true:=by kernel_rfl
def Iv (bs:List Bf)(f:List Pc)(a d:Pc):List LV:=[.lst (Gb bs) bs.length 3,.lst (Pj f) f.length 3,.i a.buf,.i a.at_,.i a.size,.i d.buf,.i d.at_,.i d.size]
theorem Pc.f_len (p:Pc):p.f.length=3:=rfl
theorem zei (l:List Pc):dats (Pj l)=true:=zdc (fun _=>rfl) l
theorem zea {l:List Pc}{i:Nat}{v:Pc}(h:l[i]?=some v):((Pj l).drop (i*3)).take 3=v.f:=zfk Pc.f_len h
theorem zyb {l:List Pc}{i:Nat}(h:i<l.length):i*3+3≤(Pj l).length:=zyr Pc.f_len h
theorem zn7 {l:List Pc}{n:Nat}(h:n<l.length):l[n]?=some (H7 l n):=by simp[H7,Ae,h]
theorem zcf (bs:List Bf)(a:List Pc)(d f:Pc):dats (Iv bs a d f)=true:=by simp[Iv,dats,LV.dat,Jn,zei]
theorem zqb {G:Ev}{l:List Bf}{f:Nat}{a b:List LV}{p:Bf→Bool}{K:LV→Ev→Prop}(C:l.length≤9223372036854775807)
  (A:∀v∈l,∀x:LV→Ev→Prop,x (.bool (p v)) G→Fh Tryz.prog (.fn f) (a++[.agg v.f]++b) G x) (k:K (.i (Tf p l)) G):Fh Tryz.prog (.fn 213) [.lst (Gb l) l.length 3,.fn (.func f) a b] G K:=by
 refine E8 r_slices_IndexFunc_api_Buf_api_Buf k_slices_IndexFunc_api_Buf_api_Buf (by simp) ?_;simp[z1k];refine Iy (fun ρ D G' N=>∃i:Nat,D=[]∧G'=G∧N+i=l.length∧lk ρ 0=.lst (Gb l) l.length 3∧lk ρ 1=.fn (.func f) a b∧lk ρ 7=.i l.length∧lk ρ 8=.i i∧∀j b,j<i→l[j]?=some b→p b=false) (N:=l.length) ⟨0,by simp⟩ ?_;rintro N ρ D G' ⟨i,rfl,rfl,E,h,m,o,q,r⟩ F s;by_cases hi:l.length≤i
 ·have g:¬i<l.length:=by omega
  simp[h,m,o,q,g];rw[←zt6 hi r];exact k
 ·have g:i<l.length:=by omega
  have w:=Ai g;have B:=Zc g;simp[h,m,o,q,g,zsp w,B];have y:=A l[i] (Dw g);simp only[Bo,List.singleton_append] at y;refine y _ ?_;cases z:p l[i] with
  |true =>
   simp;rw[←Um w z r];exact k
  |false =>
   simp[q];refine⟨by omega,s _ _ _ ⟨N - 1,by omega,i+1,rfl,rfl,by omega,by simp[h],by simp[m],by simp[o],by simp,fun j b H d=>?_⟩⟩;by_cases e:j=i
   ·subst e;rw[w] at d;cases d;exact z
   ·exact r j b (by omega) d
theorem zd2 {G:Ev}{l:List Bf}{f:Nat}{a b:List LV}{p:Bf→Bool}{K:LV→Ev→Prop}(g:l.length≤9223372036854775807)
  (h:∀v∈l,∀d:LV→Ev→Prop,d (.bool (p v)) G→Fh Tryz.prog (.fn f) (a++[.agg v.f]++b) G d) (k:K (.bool (l.any p)) G):Fh Tryz.prog (.fn 200) [.lst (Gb l) l.length 3,.fn (.func f) a b] G K:=by
 refine E8 r_slices_ContainsFunc_api_Buf_api_Buf k_slices_ContainsFunc_api_Buf_api_Buf (by simp) ?_;simp[z17];refine zqb g h ?_;simp;rw[Rb];exact k
theorem zk6 (b:Bf):Fq Tryz.prog 201 [.agg b.f] (.bool (decide (65536<b.size))) []:=by
 refine Fq.val rfl (E8 r_limb_head_1 k_limb_head_1 (by simp) ?_);simp[zat,Bf.f]
theorem zjr (b:Bf):Fq Tryz.prog 202 [.agg b.f] (.bool (decide (b.size<1) || (decide (b.kind<1) || decide (3<b.kind)))) []:=by
 refine Fq.val rfl (E8 r_limb_head_2 k_limb_head_2 (by simp) ?_);by_cases a:b.size<1
 ·simp[z5o,Bf.f,a]
 by_cases d:b.kind<1
 ·simp[z5o,Bf.f,a,d]
 simp[z5o,Bf.f,a,d]
theorem znr (bs:List Bf)(l:bs.length≤9223372036854775807):Fq Tryz.prog 196 [.agg [.i 0,.lst (Gb bs) bs.length 3,.nilSl]] (.i (Tv bs)) []:=by
 refine Fq.val rfl (E8 r_limb_head k_limb_head (by simp) ?_);by_cases j:32<bs.length
 ·have f:(32:Int)<bs.length:=by omega
  simp[zaq,Tv,j,f]
 have f:¬(32:Int)<bs.length:=by omega
 simp[zaq,j,f];refine zd2 (a:=[]) (b:=[]) (p:=fun b=>decide (65536<b.size)) l (fun v hv m k=>E9 (zk6 v) (bors_self _ rfl) k) ?_;by_cases g:(bs.any fun b=>decide (65536<b.size))=true
 ·simp only[Tv,Ac j,Ag g];rw[g];simp
 simp only[Tv,Ac j,Ac g];rw[Bool.not_eq_true] at g;rw[g];simp;generalize d:(bs.any fun b=>decide (b.size<1) || (decide (b.kind<1) || decide (3<b.kind)))=o;refine zd2 (a:=[]) (b:=[]) (p:=fun b=>decide (b.size<1) || (decide (b.kind<1) || decide (3<b.kind))) l (fun v hv m k=>E9 (zjr v) (bors_self _ rfl) k) ?_;rw[d];cases o with
 |true =>
  simp at d ⊢;obtain⟨x,q,h⟩:=d;exact⟨x,q,fun _ _=>by omega⟩
 |false=>simp;simpa using d
theorem Y8 (a b:Bool):J9 Tryz.prog false 4 (.bool a) (.bool b)=some (a==b):=by cases a<;>cases b<;>kernel_rfl
theorem zer (bs:List Bf)(m:bs.length≤9223372036854775807):Fq Tryz.prog 174 [.agg [.i 0,.lst (Gb bs) bs.length 3,.nilSl]] (.tup [.i 0,.i (Tv bs)]) []:=by
 refine Fq.val rfl (E8 r_limb_Check k_limb_Check (by simp) ?_);simp[zbn];refine E9 (znr bs m) (bors_self _ (by simp[dats,LV.dat,Jn])) ?_;by_cases h:Tv bs=0
 ·simp[h];refine Iy (fun ρ D G N=>D=[]∧lk ρ 1=.ptr 0 0∧lk ρ 5=.ptr 1 0∧lk ρ 19=.i 0∧lk ρ 20=.i 0∧G[0]?=some (.cells [.i 0,.lst (Gb bs) bs.length 3,.nilSl] 0)∧∃l st,G[1]?=some (.cells ((.i 0)::(.lst (Gb bs) bs.length 3)::.nilSl::l) st)∧l[64]?=some .nilSl) (N:=0) ⟨rfl,by simp,by simp,by simp,by simp,by simp,_,_,rfl,rfl⟩ ?_;rintro N ρ D G ⟨rfl,o,p,d,f,g,l,st,j,a⟩ r q;simp[o,p,d,f,g,j,Fv a]
 ·simp[h]
theorem z9i (bs:List Bf)(p:List Pc)(r s x:Pc)(w:∀b∈bs,b.size≤65536):Fq Tryz.prog 175 [.agg (Iv bs p r s),.agg x.f] (.bool (Oj bs x)) []:=by
 refine Fq.val rfl (E8 r_expand_lies k_expand_lies (by simp) ?_);by_cases d:x.buf<0
 ·simp[z24,Iv,Pc.f,Oj,d];omega
 by_cases f:(bs.length:Int)≤x.buf
 ·simp[z24,Iv,Pc.f,Oj,d,f];omega
 by_cases g:x.size<1
 ·simp[z24,Iv,Pc.f,Oj,d,f,g];omega
 by_cases h:32768<x.size
 ·simp[z24,Iv,Pc.f,Oj,d,f,g,h];omega
 by_cases j:x.at_<0
 ·simp[z24,Iv,Pc.f,Oj,d,f,g,h,j];omega
 obtain⟨n,l⟩:=Af (show 0≤x.buf by omega);have a:n<bs.length:=by omega
 have m:=Yn (Kl a);have B:=Zc a;have C:(0:Int)≤x.buf:=by omega
 have D:x.buf<(bs.length:Int):=by omega
 have y:(1:Int)≤x.size:=by omega
 have z:x.size≤32768:=by omega
 have A:(0:Int)≤x.at_:=by omega
 by_cases o:x.at_≤(Fk bs n).size
 ·simp[z24,Iv,Pc.f,Oj,d,f,g,h,j,l,a,Fv m,o];have:=w _ (A7 (Kl a));refine⟨fun _=>by omega,fun q=>absurd q (by omega),by omega,?_⟩;simp[y,z,A]
 ·simp[z24,Iv,Pc.f,Oj,d,f,g,h,j,l,a,Fv m,o]
theorem zf4 {bs:List Bf}(h:Tv bs=0):∀b∈bs,b.size≤65536:=fun b f=>by
 unfold Tv at h;by_cases d:32<bs.length
 ·rw[Ag d] at h;omega
 by_cases a:(bs.any fun b=>decide (65536<b.size))=true
 ·rw[Ac d,Ag a] at h;omega
 rw[Bool.not_eq_true,D7] at a;have:=a b f;simp at this;omega
def Ti (vs:List Vr)(bs:List Bf)(a:List Pc)(d f:Pc):Int:=if Ns vs bs a d f=true then 0 else 2
theorem z82 {bs:List Bf}{x:Pc}(h:Oj bs x=true):∃n:Nat,x.buf=n∧n<bs.length∧1≤x.size∧x.size≤32768∧0≤x.at_∧x.at_≤(Fk bs n).size∧x.size≤(Fk bs n).size - x.at_:=by
 simp only[Oj,Ab,Ak] at h;obtain⟨g,o,j,l,m,a,d⟩:=h;obtain⟨n,f⟩:=Af g;rw[f] at a d;exact⟨n,f,by omega,j,l,m,a,d⟩
theorem zit (vs:List Vr)(bs:List Bf)(m:List Pc)(d l:Pc)(hv:vs.length≤1000000)(hb:bs.length≤9223372036854775807) :
  Fq Tryz.prog 125 [.lst (H6 vs) vs.length 3,.agg (Iv bs m d l)] (.i (Ti vs bs m d l)) []:=by
 refine Fq.val rfl (E8 r_expand_Check k_expand_Check (by simp) ?_);have bad:Ns vs bs m d l=false→Ti vs bs m d l=2:=fun h=>by simp[Ti,h]
 simp[z9a];refine zua (args':=[.lst (H6 vs) vs.length 3,.lst (Mj []) ([]:List Ko).length 7]) (fun c r h=>?_) ?_
 ·cases h with
  |cons e1 es=>cases es with
   |cons e2 J=>exact .cons e1 (.cons (by cases e2;exact .lstNil) J)
 refine L8 (zb0 vs [] hv (by simp)) (by simp[dats,LV.dat,Lu,Mj]) ?_;rw[Bx];simp;refine E9 (zb1 vs (Nf 0 vs) [] (by omega)) (bors_self _ (by simp[Jx,dats,LV.dat,Lu,zcb])) ?_;simp only[Mx,Su];cases Z:Kk vs with
 |false=>simp;exact (bad (by simp[Ns,Z])).symm
 |true =>
 by_cases g1:(bs.length:Int)<1
 ·simp[Iv,g1];exact (bad (by simp[Ns,show ¬1≤bs.length by omega])).symm
 by_cases g2:m.length=vs.length
 case neg =>
  have af:¬(m.length:Int)=(vs.length:Int):=by omega
  simp[Iv,g1,g2,af];exact (bad (by simp[Ns,g2])).symm
 simp[Iv,g1,g2];refine E9 (zer bs hb) (bors_self _ (by simp[dats,LV.dat,Jn])) ?_;by_cases g3:Tv bs=0
 case neg=>simp[g3];exact (bad (by simp[Ns,g3])).symm
 simp[g3];have O:∀b∈bs,b.size≤65536:=zf4 g3;refine Iy (fun ρ D G N=>∃i:Nat,D=[]∧N+i=vs.length∧lk ρ 3=.ptr 0 0∧lk ρ 40=.lst (H6 vs) vs.length 3∧lk ρ 41=.i vs.length∧lk ρ 42=.i i∧0<G.length∧G[0]?=some (.cells (Iv bs m d l) 0)∧∀j,j<i→Tj bs (gv vs j) (H7 m j)=true) (N:=vs.length)
  ⟨0,by simp[Iv,g2]⟩ ?_
 rintro N ρ D G ⟨i,rfl,hN,w,B,C,E,hl,Y,P⟩ Nx K;by_cases g:i<vs.length
 ·have q3:=ze7 (Nj g);have hq:=zqe g;have gp:i<m.length:=by omega
  have p3:=zea (zn7 gp);have ag:=zyb gp;have ah:(gv vs i).f=[.i (gv vs i).limbs,.bool (gv vs i).sec,.i (gv vs i).mode]:=rfl;have aj:(H7 m i).f=[.i (H7 m i).buf,.i (H7 m i).at_,.i (H7 m i).size]:=rfl;have no:Tj bs (gv vs i) (H7 m i)=false→Ti vs bs m d l=2:=fun h=>bad (by
   have:((List.range vs.length).all fun i=>Tj bs (gv vs i) (H7 m i))=false:=by
    rw[Eu];exact⟨i,Cp.2 g,by simp[h]⟩
   simp[Ns,this])
  have nx:Tj bs (gv vs i) (H7 m i)=true→∀o G',lk o 3=.ptr 0 0→lk o 40=.lst (H6 vs) vs.length 3→lk o 41=.i vs.length→lk o 42=.i ((i:Int)+1)→0<G'.length→G'[0]?=some (.cells (Iv bs m d l) 0)→Nx o [] G':=fun h o G' J Q R S el eG =>
   K _ _ _ ⟨N - 1,by omega,i+1,rfl,by omega,J,Q,R,by rw[S];simp,el,eG,fun j hj=>by
    by_cases e:j=i
    ·rw[e];exact h
    ·exact P j (by omega)⟩
  generalize gv vs i=v at *;generalize H7 m i=x at *;have A:∀y:List LObj,(G++y)[0]?=some _:=fun y=>(F4 hl).trans Y
  simp[w,B,C,E,g,gp,q3,p3,hq,ag,ah,aj,↓A,Iv];have M:=z9i bs m d l x O;rw[Iv,Pc.f] at M;refine E9 M (bors_self _ (by simp[dats,LV.dat,Jn,zei])) ?_;cases s:Oj bs x with
  |false=>simp;exact (no (by simp[Tj,s])).symm
  |true =>
  obtain⟨n,H,a,s1,s2,s3,s4,s5⟩:=z82 s;by_cases g4:x.size=v.limbs
  case neg=>simp[g4];exact (no (by simp[Tj,g4])).symm
  have b3:=zsp (Kl a);have T:=Zc a;have ao:(Fk bs n).f=[.i (Fk bs n).size,.i (Fk bs n).kind,.bool (Fk bs n).sec]:=rfl;have ap:Tj bs v x=(!(decide ((Fk bs n).kind=1) && !Ka v)&&(!(decide ((Fk bs n).kind=2)&&Ka v)&&(v.sec==(Fk bs n).sec))):=by simp[Tj,s,g4,H]
  rw[ap] at no nx;generalize Fk bs n=b at *;simp[g4,w,↓A,Iv,H,a,b3,T,ao];have aa:∀{G':Ev} {K':LV→Ev→Prop},K' (.bool (Ka v)) G'→Fh Tryz.prog (.fn 172) [.agg [.i v.limbs,.bool v.sec,.i v.mode]] G' K':=fun k=>E9 (zbh v) (bors_self _ rfl) k
  have F:∀(h:(!(decide (b.kind=1) && !Ka v)&&(!(decide (b.kind=2)&&Ka v)&&(v.sec==b.sec)))=true) (o:Ey) (x:List LObj),lk o 3=.ptr 0 0→lk o 40=.lst (H6 vs) vs.length 3→lk o 41=.i vs.length→lk o 42=.i ((i:Int)+1)→Nx o [] (G++x):=fun h o x J Q R S=>nx h _ _ J Q R S (by simp;omega) (A x)
  by_cases z:b.kind=1
  ·simp[z];refine aa ?_;cases hg:Ka v with
   |false=>simp[z,hg] at no ⊢;exact no.symm
   |true =>
    simp[z,hg] at no F ⊢;cases p:(v.sec==b.sec) with
    |false=>simp[Y8,p] at no ⊢;exact (no (by simpa using p)).symm
    |true =>
     simp[Y8,p,E];refine⟨by omega,F (by simpa using p) _ _ (by simp[w]) (by simp[B]) (by simp[C]) (by simp)⟩
  ·by_cases k2:b.kind=2
   ·simp[k2];refine aa ?_;cases hg:Ka v with
    |true=>simp[k2,hg] at no ⊢;exact no.symm
    |false =>
     simp[k2,hg] at no F ⊢;cases p:(v.sec==b.sec) with
     |false=>simp[Y8,p] at no ⊢;exact (no (by simpa using p)).symm
     |true =>
      simp[Y8,p,E];refine⟨by omega,F (by simpa using p) _ _ (by simp[w]) (by simp[B]) (by simp[C]) (by simp)⟩
   ·simp[z,k2] at no F ⊢;cases p:(v.sec==b.sec) with
    |false=>simp[Y8,p] at no ⊢;exact (no (by simpa using p)).symm
    |true =>
     simp[Y8,p,E];refine⟨by omega,F (by simpa using p) _ _ (by simp[w]) (by simp[B]) (by simp[C]) (by simp)⟩
 ·have gi:i=vs.length:=by omega
  subst gi;simp[w,B,C,E,Y,Iv];refine Iy (fun ρ D G N=>∃i:Nat,D=[]∧N+i=2∧lk ρ 3=.ptr 0 0∧lk ρ 95=.agg [.i d.buf,.i d.at_,.i d.size,.i l.buf,.i l.at_,.i l.size]∧lk ρ 96=.i i∧0<G.length∧G[0]?=some (.cells (Iv bs m d l) 0)∧(0<i→Of bs false d=true)∧(1<i→Of bs true l=true)) (N:=2)
   ⟨0,rfl,rfl,by simp[w],by simp,by simp,hl,Y,fun q=>absurd q (by omega),fun q=>absurd q (by omega)⟩ ?_
  clear w B C E Y hl;rintro N ρ D G ⟨i,rfl,ax,w,L,I,hl,Y,ad,aq⟩ Nx K;have A:∀y:List LObj,(G++y)[0]?=some _:=fun y=>(F4 hl).trans Y
  have hi:i=0∨i=1∨i=2:=by omega
  rcases hi with rfl | rfl | rfl
  ·have no:Of bs false d=false→Ti vs bs m d l=2:=fun h=>bad (by simp[Ns,h])
   have nx:Of bs false d=true→∀(o:Ey) (y:List LObj),lk o 3=.ptr 0 0→lk o 95=.agg [.i d.buf,.i d.at_,.i d.size,.i l.buf,.i l.at_,.i l.size]→lk o 96=.i (0+1)→Nx o [] (G++y):=fun h o y J U V =>
    K _ _ _ ⟨N - 1,by omega,0+1,rfl,by omega,J,U,by rw[V];rfl,by simp;omega,A y,fun _=>h,fun q=>absurd q (by omega)⟩
   simp[w,L,I,↓A,Iv];have M:=z9i bs m d l d O;rw[Iv,Pc.f] at M;refine E9 M (bors_self _ (by simp[dats,LV.dat,Jn,zei])) ?_;cases s:Oj bs d with
   |false=>simp;exact (no (by simp[Of,s])).symm
   |true =>
   obtain⟨n,H,a,s1,s2,s3,s4,s5⟩:=z82 s;have W:=zg6 (Kl a);have X:=V5 (Kl a);have T:=Zc a;have hW:Of bs false d=(!decide ((Fk bs n).kind=1)&&((Fk bs n).sec==false)):=by simp[Of,s,H]
   rw[hW] at no nx;generalize Fk bs n=b at *;by_cases z:b.kind=1
   ·simp[w,↓A,Iv,H,a,Fv W,Fv X,z];exact (no (by simp[z])).symm
   cases p:b.sec with
   |true=>simp[w,↓A,Iv,H,a,Fv W,Fv X,z,p,Y8];exact (no (by simp[p])).symm
   |false =>
    simp[w,↓A,Iv,H,a,Fv W,Fv X,z,p,I,Y8];exact nx (by simp[z,p]) _ _ (by simp[w]) (by simp[L]) (by simp)
  ·have no:Of bs true l=false→Ti vs bs m d l=2:=fun h=>bad (by simp[Ns,h])
   have nx:Of bs true l=true→∀(o:Ey) (y:List LObj),lk o 3=.ptr 0 0→lk o 95=.agg [.i d.buf,.i d.at_,.i d.size,.i l.buf,.i l.at_,.i l.size]→lk o 96=.i (1+1)→Nx o [] (G++y):=fun h o y J U V =>
    K _ _ _ ⟨N - 1,by omega,1+1,rfl,by omega,J,U,by rw[V];rfl,by simp;omega,A y,fun _=>ad (by omega),fun _=>h⟩
   simp[w,L,I,↓A,Iv];have M:=z9i bs m d l l O;rw[Iv,Pc.f] at M;refine E9 M (bors_self _ (by simp[dats,LV.dat,Jn,zei])) ?_;cases s:Oj bs l with
   |false=>simp;exact (no (by simp[Of,s])).symm
   |true =>
   obtain⟨n,H,a,s1,s2,s3,s4,s5⟩:=z82 s;have W:=zg6 (Kl a);have X:=V5 (Kl a);have T:=Zc a;have hW:Of bs true l=(!decide ((Fk bs n).kind=1)&&((Fk bs n).sec==true)):=by simp[Of,s,H]
   rw[hW] at no nx;generalize Fk bs n=b at *;by_cases z:b.kind=1
   ·simp[w,↓A,Iv,H,a,Fv W,Fv X,z];exact (no (by simp[z])).symm
   cases p:b.sec with
   |false=>simp[w,↓A,Iv,H,a,Fv W,Fv X,z,p,Y8];exact (no (by simp[p])).symm
   |true =>
    simp[w,↓A,Iv,H,a,Fv W,Fv X,z,p,I,Y8];exact nx (by simp[z,p]) _ _ (by simp[w]) (by simp[L]) (by simp)
  ·simp[I];unfold Ti;rw[Ag];have aw:((List.range vs.length).all fun i=>Tj bs (gv vs i) (H7 m i))=true:=Cb.2 fun j hj=>P j (Cp.1 hj)
   have ar:1≤bs.length:=by omega
   simp[Ns,Z,ar,g2,g3,ad (by omega),aq (by omega)];intro j hj;exact P j hj
def Ly (vs:List Vr)(d:Int):Bool:=decide (0≤d)&&(decide (d<vs.length) && !(gv vs d.toNat).sec)
theorem zge (vs:List Vr)(o:Ko):Fq Tryz.prog 126 [.lst (H6 vs) vs.length 3,.agg o.f] (.bool (Ly vs o.d)) []:=by
 refine Fq.val rfl (E8 r_expand_Public k_expand_Public (by simp) ?_);by_cases d:0≤o.d
 case neg=>simp[z47,Ko.f,Ly,d]
 by_cases f:o.d<vs.length
 case neg=>simp[z47,Ko.f,Ly,d,f]
 obtain⟨n,g⟩:=Af d;have a:n<vs.length:=by omega
 have h:=zt2 (Nj a);have j:=zqe a;simp[z47,Ko.f,Ly,g,a,Fv h]
def Le (vs:List Vr)(o:Ko)(a d:Pc):Pc:=if Ly vs o.d=true then a else d
def Yy (vs:List Vr)(o:Ko):Int:=if Ly vs o.d=true then 16 else 40
theorem zd8 (vs:List Vr)(o:Ko)(bs:List Bf)(j:List Pc)(d g:Pc):Fq Tryz.prog 59 [.lst (H6 vs) vs.length 3,.agg o.f,.agg (Iv bs j d g)] (.tup [.i (Yy vs o),.agg (Le vs o d g).f]) []:=by
 refine Fq.val rfl (E8 r_expand_Base k_expand_Base (by simp) ?_);have a:o.f=[.i o.kind,.i o.d,.i o.e,.i o.a,.i o.b,.i o.c,.u o.imm]:=rfl;simp[zap,a];rw[←a];refine E9 (zge vs o) (bors_self _ (by simp[dats,LV.dat,Lu,a])) ?_;cases h:Ly vs o.d with
 |true=>simp[Iv,Pc.f,Yy,Le,h]
 |false=>simp[Iv,Pc.f,Yy,Le,h]
def Ty (vs:List Vr)(o:Ko)(bs:List Bf)(g:List Pc)(d f:Pc)(deep a:Int):Bool :=
 Ns vs bs g d f&&(decide (1≤a)&&(decide (0≤deep)&&(decide (deep≤4)&&decide (a≤(Le vs o d f).size))))
theorem zi2 (vs:List Vr)(o:Ko)(bs:List Bf)(j:List Pc)(d f:Pc)(deep a:Int)(hv:vs.length≤1000000)(p:bs.length≤9223372036854775807) :
  Fq Tryz.prog 58 [.lst (H6 vs) vs.length 3,.agg o.f,.agg (Iv bs j d f),.i deep,.i a] (.bool (Ty vs o bs j d f deep a)) []:=by
 refine Fq.val rfl (E8 r_expand_Ready k_expand_Ready (by simp) ?_);have m:o.f=[.i o.kind,.i o.d,.i o.e,.i o.a,.i o.b,.i o.c,.u o.imm]:=rfl;have g:Iv bs j d f=[.lst (Gb bs) bs.length 3,.lst (Pj j) j.length 3,.i d.buf,.i d.at_,.i d.size,.i f.buf,.i f.at_,.i f.size]:=rfl;simp[z9d,g,m];rw[←g];refine E9 (zit vs bs j d f hv p) (bors_self _ (by simp[dats,LV.dat,Lu,zcf])) ?_;cases l:Ns vs bs j d f with
 |false=>simp[Ti,l,Ty]
 |true =>
 by_cases g1:1≤a
 case neg=>simp[Ti,l,Ty,g1]
 by_cases g2:0≤deep
 case neg=>simp[Ti,l,Ty,g1,g2]
 by_cases g3:deep≤4
 case neg=>simp[Ti,l,Ty,g1,g2,g3]
 simp[Ti,l,g1,g2,g3,g];refine⟨fun h=>by omega,fun h=>by omega,fun h=>by omega,?_⟩;rw[←m,←g];refine E9 (zd8 vs o bs j d f) (bors_self _ (by simp[dats,LV.dat,Lu,zcf,m])) ?_;simp[Pc.f,Ty,l,g1,g2,g3]
section
def z5y:LC:=(.ops [.m 18 0,.m 19 0,.z 20 (.nilChk (.t 19)),.f 21 0 20,.l 22 21,.m 23 1,.m 24 2,.m 25 3,.m 26 4,.m 27 5,.m 28 6,.m 29 7,.m 30 8,.z 31 (.build [(.i 0),(.i 0),(.i 0),(.i 0),(.i 0),(.i 0),(.i 0),(.u 0)] [(0,1,.t 23),(1,1,.t 24),(2,1,.t 25),(3,1,.t 26),(4,1,.t 27),(5,1,.t 28),(6,1,.t 29),(7,1,.t 30)]),.z 32 (.buildSl 8 1 [(.i 0),(.i 0),(.i 0),(.i 0),(.i 0),(.i 0),(.i 0),(.u 0)] [(0,8,.t 31)]),.z 33 (.appG 8 (.t 22) (.t 32)),.z 34 (.nilChk (.t 18)),.f 35 0 34,.v (.store 1 (.t 35) (.t 33))])
theorem r_expand_Emit_put:Fg Tryz.prog 131=some ⟨36,z5y.r,[]⟩:=by kernel_rfl
theorem k_expand_Emit_put:z5y.ok=true:=by kernel_rfl
def z5c:LC:=(.ops [.m 6 0,.m 7 1,.m 8 2,.z 9 (.w 131 [.t 6,.k 1,.t 7,.k (-1),.k (-1),.k (-1),.k (-1),.k 0,.t 8])])
theorem r_expand_Emit_Const:Fg Tryz.prog 69=some ⟨10,z5c.r,[]⟩:=by kernel_rfl
theorem k_expand_Emit_Const:z5c.ok=true:=by kernel_rfl
def z5g:LC:=(.ops [.m 6 0,.m 7 1,.m 8 2,.z 9 (.w 131 [.t 6,.k 2,.t 7,.k (-1),.t 8,.k (-1),.k (-1),.k 0,.c (.u 0)])])
theorem r_expand_Emit_Move:Fg Tryz.prog 110=some ⟨10,z5g.r,[]⟩:=by kernel_rfl
theorem k_expand_Emit_Move:z5g.ok=true:=by kernel_rfl
def z61:LC:=(.ops [.m 10 0,.m 11 1,.m 12 2,.m 13 3,.m 14 4,.z 15 (.w 131 [.t 10,.t 11,.t 12,.k (-1),.t 13,.t 14,.k (-1),.k 0,.c (.u 0)])])
theorem r_expand_Emit_Two:Fg Tryz.prog 108=some ⟨16,z61.r,[]⟩:=by kernel_rfl
theorem k_expand_Emit_Two:z61.ok=true:=by kernel_rfl
def z5b:LC:=(.ops [.m 10 0,.m 11 1,.m 12 2,.m 13 3,.m 14 4,.z 15 (.cvInt .u64 (.t 14)),.z 16 (.w 131 [.t 10,.t 11,.t 12,.k (-1),.t 13,.k (-1),.k (-1),.k 0,.t 15])])
theorem r_expand_Emit_Shift:Fg Tryz.prog 107=some ⟨17,z5b.r,[]⟩:=by kernel_rfl
theorem k_expand_Emit_Shift:z5b.ok=true:=by kernel_rfl
def z69:LC:=(.ops [.m 10 0,.m 11 1,.m 12 2,.m 13 3,.m 14 4,.z 15 (.w 131 [.t 10,.k 10,.t 11,.t 12,.t 13,.t 14,.k (-1),.k 0,.c (.u 0)])])
theorem r_expand_Emit_Mul:Fg Tryz.prog 132=some ⟨16,z69.r,[]⟩:=by kernel_rfl
theorem k_expand_Emit_Mul:z69.ok=true:=by kernel_rfl
def z5d:LC:=(.ops [.m 14 0,.m 15 1,.m 16 2,.m 17 3,.m 18 4,.m 19 5,.m 20 6,.z 21 (.w 131 [.t 14,.t 15,.t 16,.t 17,.t 18,.t 19,.t 20,.k 0,.c (.u 0)])])
theorem r_expand_Emit_Carry:Fg Tryz.prog 104=some ⟨22,z5d.r,[]⟩:=by kernel_rfl
theorem k_expand_Emit_Carry:z5d.ok=true:=by kernel_rfl
def z6o:LC:=(.ops [.m 10 0,.m 11 1,.m 12 3,.m 13 4,.m 14 2,.z 15 (.w 131 [.t 10,.k 13,.t 11,.k (-1),.t 12,.t 13,.t 14,.k 0,.c (.u 0)])])
theorem r_expand_Emit_Sel:Fg Tryz.prog 113=some ⟨16,z6o.r,[]⟩:=by kernel_rfl
theorem k_expand_Emit_Sel:z6o.ok=true:=by kernel_rfl
def z5k:LC:=(.q [.z 7 (.box (.t 2))] (.ops [.m 10 0,.m 11 1,.m 12 3,.f 13 0 7,.l 14 13,.f 15 1 7,.l 16 15,.m 17 4,.z 18 (.bin .add false 3 (.t 16) (.t 17)),.z 19 (.cvInt .u64 (.t 18)),.z 20 (.w 131 [.t 10,.k 14,.t 11,.k (-1),.t 12,.k (-1),.k (-1),.t 14,.t 19])]))
theorem r_expand_Emit_Load:Fg Tryz.prog 70=some ⟨21,z5k.r,[]⟩:=by kernel_rfl
theorem k_expand_Emit_Load:z5k.ok=true:=by kernel_rfl
def z5e:LC:=(.q [.z 6 (.box (.t 1))] (.ops [.m 10 0,.m 11 2,.m 12 4,.f 13 0 6,.l 14 13,.f 15 1 6,.l 16 15,.m 17 3,.z 18 (.bin .add false 3 (.t 16) (.t 17)),.z 19 (.cvInt .u64 (.t 18)),.z 20 (.w 131 [.t 10,.k 15,.k (-1),.k (-1),.t 11,.t 12,.k (-1),.t 14,.t 19])]))
theorem r_expand_Emit_Store:Fg Tryz.prog 109=some ⟨21,z5e.r,[]⟩:=by kernel_rfl
theorem k_expand_Emit_Store:z5e.ok=true:=by kernel_rfl
def z3w:LC:=(.seq (.q [.m 7 1,.z 8 (.bin .lss true 3 (.t 7) (.k 1))] (.cond (.t 8) .ret .skip)) (.q [.m 9 0,.z 10 (.nilChk (.t 9)),.f 11 1 10,.l 12 11,.m 6 12] (.q [.m 13 0,.m 14 6,.m 15 1,.z 16 (.cvInt .u64 (.t 15)),.z 17 (.w 131 [.t 13,.k 16,.t 14,.k (-1),.k (-1),.k (-1),.k (-1),.k 0,.t 16])] (.q [.m 18 0,.z 19 (.nilChk (.t 18)),.f 20 1 19,.l 21 20,.z 22 (.bin .add true 3 (.t 21) (.k 1)),.z 23 (.nilChk (.t 18)),.f 24 1 23,.v (.store 1 (.t 24) (.t 22))] (.q [.m 25 2,.m 26 6,.z 27 (.callV (.t 25) [.t 26])] (.q [.m 28 0,.z 29 (.nilChk (.t 28)),.f 30 1 29,.l 31 30,.z 32 (.bin .sub true 3 (.t 31) (.k 1)),.z 33 (.nilChk (.t 28)),.f 34 1 33,.v (.store 1 (.t 34) (.t 32))] (.ops [.m 35 0,.z 36 (.w 131 [.t 35,.k 17,.k (-1),.k (-1),.k (-1),.k (-1),.k (-1),.k 0,.c (.u 0)])])))))))
theorem r_expand_Emit_Loop:Fg Tryz.prog 73=some ⟨37,z3w.r,[]⟩:=by kernel_rfl
theorem k_expand_Emit_Loop:z3w.ok=true:=by kernel_rfl
def z5m:LC:=(.q [.z 3 (.box (.t 0)),.z 4 (.box (.t 1)),.z 5 (.box (.t 2))] (.ops [.l 6 3,.f 7 2 4,.l 8 7,.z 9 (.mkFunc 133 [] [.t 3,.t 4,.t 5]),.z 10 (.w 73 [.t 6,.t 8,.t 9])]))
theorem r_expand_Emit_Fill:Fg Tryz.prog 72=some ⟨11,z5m.r,[]⟩:=by kernel_rfl
theorem k_expand_Emit_Fill:z5m.ok=true:=by kernel_rfl
def z4p:LC:=(.ops [.l 5 1,.z 6 (.loadN 3 (.t 2)),.m 7 0,.l 8 3,.z 9 (.w 109 [.t 5,.t 6,.t 7,.k 0,.t 8])])
theorem r_expand_Emit_Fill_1:Fg Tryz.prog 133=some ⟨10,z4p.r,[]⟩:=by kernel_rfl
theorem k_expand_Emit_Fill_1:z4p.ok=true:=by kernel_rfl
def za5:LC:=(.q [.z 3 (.box (.t 0)),.z 6 (.alloc [(.i 0),(.i 0),(.i 0)])] (.q [.f 7 0 3,.l 8 7,.f 9 1 3,.l 10 9,.m 11 1,.z 12 (.bin .add false 3 (.t 10) (.t 11)),.m 13 2,.z 14 (.build [(.i 0),(.i 0),(.i 0)] [(0,1,.t 8),(1,1,.t 12),(2,1,.t 13)]),.v (.store 3 (.t 6) (.t 14))] .ret))
theorem r_expand_Part:Fg Tryz.prog 68=some ⟨15,za5.r,[.cellN 6 3]⟩:=by kernel_rfl
theorem k_expand_Part:za5.ok=true:=by kernel_rfl
section emit
variable {G : Ev} {K : LV → Ev → Prop} {e : Nat} {ops : List Lo} {deep : Int}
theorem zmb {st:Nat}{v:LV}{L:List Lo}(x:G[e]?=some (.cells [v,.i deep] st))(y:H8 0 G v 8 ops.length (Gf ops))(D:ops.length≤1000000){Q:LV→Ev→Prop}
  (k:∀(d:LV) (a:Ev),d.cells=some [d]→a[e]?=some (.cells [v,.i deep] st)→Fp (a.set e (.cells [d,.i deep] (st+1))) e (ops++L) deep→Kp e G (a.set e (.cells [d,.i deep] (st+1)))→(∀(q:Nat) (ob:LObj),(∀R m k st,ob≠LObj.dyn R m 8 k st)→G[q]?=some ob→a[q]?=some ob)→Q d a):H0 G 8 v L.length (Gf L) Q:=by
 have le:e<G.length:=(Aa.1 x).1;refine H8.push2 y (by omega) (by omega) (by omega) (zz8 L) (Ju L) fun d a g l o A B=>?_
 have f:∀(q:Nat) (ob:LObj),(∀R m k st,ob≠LObj.dyn R m 8 k st)→G[q]?=some ob→a[q]?=some ob:=fun q ob ho h=>by
  have p:=(Aa.1 h).1;rw[l q p (fun j r=>?_)]
  ·exact h
  ·obtain⟨R,m,k,st,z⟩:=y.row r;rw[h] at z;exact ho _ _ _ _ (Option.some.inj z)
 have s:=f e _ (fun _ _ _ _ q=>by cases q) x;have w:e<a.length:=(Aa.1 s).1;refine k d a g.cells s ⟨st+1,d,Ah w,?_⟩ ⟨by simpa using o,fun q ob h ho C=>?_⟩ f
 ·rw[zmx,Aj];exact g.set_cells s
 ·rw[Ad (Ne.symm h)];exact f q ob ho C
theorem Vh {kind d f a b c buf:Int}{imm:UInt64}(h:Fp G e ops deep)(o:ops.length≤1000000)(k:∀G',Fp G' e (ops++[⟨kind,d,f,a,b,c,buf,imm⟩]) deep→Kp e G G'→K (.tup []) G') :
  Fh Tryz.prog (.fn 131) [.ptr e 0,.i kind,.i d,.i f,.i a,.i b,.i c,.i buf,.u imm] G K:=by
 obtain⟨st,v,g,p⟩:=h;have le:e<G.length:=(Aa.1 g).1;refine E8 r_expand_Emit_put k_expand_Emit_put (by simp) ?_;have j:∀x,Kp e G (G++x):=fun x=>Kp.app' e G x
 have l:∀x:List LObj,(G++x)[e]?=some (.cells [v,.i deep] st):=fun x=>(E5 le).trans g
 simp[z5y,g];refine zmb (L:=[⟨kind,d,f,a,b,c,buf,imm⟩]) (l _) p.push_end o fun w y m q r s _=>?_
 simp[-LV.cells,m,q];exact k _ r ((j _).trans s)
theorem O3 {d:Int}{n:UInt64}(h:Fp G e ops deep)(a:ops.length≤1000000)(k:∀G',Fp G' e (ops++[cK d n]) deep→Kp e G G'→K (.tup []) G'):Fh Tryz.prog (.fn 69) [.ptr e 0,.i d,.u n] G K:=by
 refine E8 r_expand_Emit_Const k_expand_Emit_Const (by simp) ?_;simp[z5c];refine Vh h a fun G' f hk=>?_
 simpa using k G' f hk
theorem zcq {d a:Int}(h:Fp G e ops deep)(f:ops.length≤1000000)(k:∀G',Fp G' e (ops++[Ik d a]) deep→Kp e G G'→K (.tup []) G'):Fh Tryz.prog (.fn 110) [.ptr e 0,.i d,.i a] G K:=by
 refine E8 r_expand_Emit_Move k_expand_Emit_Move (by simp) ?_;simp[z5g];refine Vh h f fun G' g hk=>?_
 simpa using k G' g hk
theorem Qh {f d a b:Int}(h:Fp G e ops deep)(g:ops.length≤1000000)(k:∀G',Fp G' e (ops++[Ew f d a b]) deep→Kp e G G'→K (.tup []) G'):Fh Tryz.prog (.fn 108) [.ptr e 0,.i f,.i d,.i a,.i b] G K:=by
 refine E8 r_expand_Emit_Two k_expand_Emit_Two (by simp) ?_;simp[z61];refine Vh h g fun G' j hk=>?_
 simpa using k G' j hk
theorem z8a {g d a f:Int}(h:Fp G e ops deep)(j:ops.length≤1000000)(k:∀G',Fp G' e (ops++[Iu g d a f]) deep→Kp e G G'→K (.tup []) G'):Fh Tryz.prog (.fn 107) [.ptr e 0,.i g,.i d,.i a,.i f] G K:=by
 refine E8 r_expand_Emit_Shift k_expand_Emit_Shift (by simp) ?_;simp[z5b];refine Vh h j fun G' l hk=>?_
 simpa using k G' l hk
theorem zhl {hi lo a b:Int}(h:Fp G e ops deep)(d:ops.length≤1000000)(k:∀G',Fp G' e (ops++[Fu hi lo a b]) deep→Kp e G G'→K (.tup []) G'):Fh Tryz.prog (.fn 132) [.ptr e 0,.i hi,.i lo,.i a,.i b] G K:=by
 refine E8 r_expand_Emit_Mul k_expand_Emit_Mul (by simp) ?_;simp[z69];refine Vh h d fun G' f hk=>?_
 simpa using k G' f hk
theorem z72 {f d out a b c:Int}(h:Fp G e ops deep)(g:ops.length≤1000000)(k:∀G',Fp G' e (ops++[Fj f d out a b c]) deep→Kp e G G'→K (.tup []) G'):Fh Tryz.prog (.fn 104) [.ptr e 0,.i f,.i d,.i out,.i a,.i b,.i c] G K:=by
 refine E8 r_expand_Emit_Carry k_expand_Emit_Carry (by simp) ?_;simp[z5d];refine Vh h g fun G' j hk=>?_
 simpa using k G' j hk
theorem zm7 {d c a b:Int}(h:Fp G e ops deep)(f:ops.length≤1000000)(k:∀G',Fp G' e (ops++[F1 d c a b]) deep→Kp e G G'→K (.tup []) G'):Fh Tryz.prog (.fn 113) [.ptr e 0,.i d,.i c,.i a,.i b] G K:=by
 refine E8 r_expand_Emit_Sel k_expand_Emit_Sel (by simp) ?_;simp[z6o];refine Vh h f fun G' g hk=>?_
 simpa using k G' g hk
theorem Lh {d i off:Int}{p:Pc}(g:-1000000000≤p.at_+off∧p.at_+off≤1000000000)(h:Fp G e ops deep)(a:ops.length≤1000000)(k:∀G',Fp G' e (ops++[E6 d p i off]) deep→Kp e G G'→K (.tup []) G'):Fh Tryz.prog (.fn 70) [.ptr e 0,.i d,.agg p.f,.i i,.i off] G K:=by
 refine E8 r_expand_Emit_Load k_expand_Emit_Load (by simp) ?_;simp[z5k,Pc.f]
 repeat (refine⟨by omega,?_⟩)
 refine Vh (h.app _) a fun G' f hk=>?_
 simpa using k G' f ((Kp.app' _ _ _).trans hk)
theorem M4 {i off b:Int}{p:Pc}(f:-1000000000≤p.at_+off∧p.at_+off≤1000000000)(h:Fp G e ops deep)(a:ops.length≤1000000)(k:∀G',Fp G' e (ops++[Ff p i off b]) deep→Kp e G G'→K (.tup []) G'):Fh Tryz.prog (.fn 109) [.ptr e 0,.agg p.f,.i i,.i off,.i b] G K:=by
 refine E8 r_expand_Emit_Store k_expand_Emit_Store (by simp) ?_;simp[z5e,Pc.f]
 repeat (refine⟨by omega,?_⟩)
 refine Vh (h.app _) a fun G' d hk=>?_
 simpa using k G' d ((Kp.app' _ _ _).trans hk)
theorem zsv {times:Int}{f:Nat}{fst cap:List LV}(hd:0≤deep∧deep≤100)(h:Fp G e ops deep)(I:ops.length≤1000000)(J:times<1→K (.tup []) G)
  (L:1≤times→∀r,Fp r e (ops++[Ks deep times]) (deep+1)→Kp e G r→Fh Tryz.prog (.fn f) (fst++.i deep::cap) r fun _ y=>∃d,d.length≤1000000∧Fp y e d (deep+1)∧∀s,Fp s e (d++[Oa]) deep→Kp e y s→K (.tup []) s) :
  Fh Tryz.prog (.fn 73) [.ptr e 0,.i times,.fn (.func f) fst cap] G K:=by
 refine E8 r_expand_Emit_Loop k_expand_Emit_Loop (by simp) ?_;by_cases g:times<1
 ·simpa [z3w,g] using J g
 obtain⟨st,v,M,S⟩:=id h;simp[z3w,g,M];refine Vh h I fun r N z=>?_
 obtain⟨x,v1,l,A⟩:=N;simp[l];have B:e<r.length:=(Aa.1 l).1;refine⟨by omega,?_⟩;have j:∀(a:Ev) (ob:LObj),Kp e a (a.set e ob):=fun a ob=>⟨by simp,fun q o O _ ho=>by rw[Ad (Ne.symm O)];exact ho⟩
 have m:=L (by omega) (r.set e (.cells [v1,.i (deep+1)] (x+1))) ⟨x+1,v1,Ah B,A.set_cells l⟩ (z.trans (j _ _));refine m.mono fun w y hw=>?_
 obtain⟨d,C,P,Q⟩:=hw;obtain⟨D,v2,p,E⟩:=P;simp[p];have F:e<y.length:=(Aa.1 p).1;refine⟨by omega,?_⟩;refine Vh (deep:=deep) ⟨D+1,v2,Ah F,E.set_cells p⟩ C fun s R H=>?_
 simpa using Q s R ((j _ _).trans H)
end emit
end
def z55:LC:=(.q [.m 9 2,.z 10 (.bin .add true 3 (.t 9) (.k 1)),.m 11 2,.z 12 (.bin .add true 3 (.t 11) (.k 2)),.m 13 2,.z 14 (.bin .add true 3 (.t 13) (.k 3)),.m 6 10,.m 7 12,.m 8 14] (.q [.m 15 0,.m 16 8,.z 17 (.w 69 [.t 15,.t 16,.c (.u 3)])] (.q [.m 18 0,.m 19 6,.m 20 2,.m 21 1,.m 22 8,.z 23 (.w 132 [.t 18,.t 19,.t 20,.t 21,.t 22])] (.q [.m 24 0,.m 25 8,.z 26 (.w 69 [.t 24,.t 25,.c (.u 2)])] (.q [.m 27 0,.m 28 2,.m 29 2,.m 30 8,.z 31 (.w 108 [.t 27,.k 7,.t 28,.t 29,.t 30])] (.seq (.q [.z 32 (.move (.k 0))] (.block 0 (.loop (.q [.z 33 (.bin .lss true 3 (.t 32) (.k 5))] (.seq (.cond (.t 33) .skip (.exit 0)) (.seq (.block 1 (.q [.m 34 0,.m 35 6,.m 36 7,.m 37 1,.m 38 2,.z 39 (.w 132 [.t 34,.t 35,.t 36,.t 37,.t 38])] (.q [.m 40 0,.m 41 7,.m 42 8,.m 43 7,.z 44 (.w 108 [.t 40,.k 4,.t 41,.t 42,.t 43])] (.ops [.m 45 0,.m 46 6,.m 47 2,.m 48 2,.m 49 7,.z 50 (.w 132 [.t 45,.t 46,.t 47,.t 48,.t 49])])))) (.ops [.z 51 (.bin .add true 3 (.t 32) (.k 1)),.m 32 51]))))))) (.q [.m 52 0,.m 53 8,.z 54 (.w 69 [.t 52,.t 53,.c (.u 0)])] (.ops [.m 55 0,.m 56 2,.m 57 8,.m 58 2,.z 59 (.w 108 [.t 55,.k 4,.t 56,.t 57,.t 58])]))))))))
theorem r_montgomery_reckon:Fg Tryz.prog 71=some ⟨60,z55.r,[]⟩:=by kernel_rfl
theorem k_montgomery_reckon:z55.ok=true:=by kernel_rfl
theorem ztj {G:Ev}{v:LV}{l:List LV}{n e:Nat}(h:bor G v (.lst l n e)):Hg G v (.lst l n e):=by
 cases v<;>first | exact h | (simp[LV.dat] at h)
theorem zub {G:Ev}{K:LV→Ev→Prop}{e:Nat}{ops:List Lo}{deep n r:Int}(T:0≤r∧r≤1000)(h:Fp G e ops deep)(U:ops.length≤900000)(k:∀G',Fp G' e (ops++Mh n r) deep→Kp e G G'→K (.tup []) G'):Fh Tryz.prog (.fn 71) [.ptr e 0,.i n,.i r] G K:=by
 refine E8 r_montgomery_reckon k_montgomery_reckon (by simp) ?_;simp[z55]
 repeat (refine⟨by omega,?_⟩)
 refine O3 h (by omega) fun V I w=>?_
 simp;refine zhl I (by simp;omega) fun W J x=>?_
 simp;refine O3 J (by simp;omega) fun X L y=>?_
 simp;refine Qh L (by simp;omega) fun Y M d=>?_
 simp;have d:=w.trans (x.trans (y.trans d));refine Iy (fun ρ D G' N=>∃i:Nat,D=[]∧N+i=5∧lk ρ 0=.ptr e 0∧lk ρ 1=.i n∧lk ρ 2=.i r∧lk ρ 6=.i (r+1)∧lk ρ 7=.i (r+2)∧lk ρ 8=.i (r+3)∧lk ρ 32=.i i∧Fp G' e (ops++(Ta n r++Qf n r i)) deep∧Kp e G G') (N:=5)
  ⟨0,rfl,by omega,by simp,by simp,by simp,by simp,by simp,by simp,by simp,by simpa [Ta,Qf] using M,d⟩ ?_
 clear I J L M w x y d;rintro N ρ D Z ⟨i,rfl,hN,f,j,l,m,o,p,a,O,z⟩ Nx C;have A:(Qf n r i).length=3*i:=zhf n r i;have B:(Ta n r).length=4:=rfl;by_cases g:i<5
 ·have Q:(i:Int)<5:=by omega
  simp[f,j,l,m,o,p,a,Q];refine zhl O (by simp[B,A];omega) fun R E q=>?_
  simp[f,j,l,m,o,p,a];refine Qh E (by simp[B,A];omega) fun P F s=>?_
  simp[f,j,l,m,o,p,a];refine zhl F (by simp[B,A];omega) fun G8 S H=>?_
  simp[f,j,l,m,o,p,a];refine⟨by omega,C _ _ _ ⟨N - 1,by omega,i+1,rfl,by omega,by simp[f],by simp[j],by simp[l],by simp[m],by simp[o],by simp[p],by simp,?_,z.trans (q.trans (s.trans H))⟩⟩;rw[zcc];simpa [zq4] using S
 ·have hi:i=5:=by omega
  subst hi;simp[f,j,l,m,o,p,a];refine O3 O (by simp[B,A];omega) fun R E q=>?_
  simp[f,j,l,m,o,p,a];refine Qh E (by simp[B,A];omega) fun P F s=>?_
  simp;refine k P ?_ (z.trans (q.trans s));simpa [Mh] using F
section
def z38:LC:=(.seq (.draw [(.m 6 0,[]),(.z 7 (.nilChk (.t 6)),[]),(.f 8 0 7,[]),(.l 9 8,[]),(.m 10 0,[]),(.z 11 (.nilChk (.t 10)),[]),(.f 12 21 11,[]),(.l 13 12,[]),(.m 14 0,[]),(.z 15 (.nilChk (.t 14)),[]),(.f 16 22 15,[]),(.l 17 16,[]),(.m 18 1,[]),(.m 19 2,[]),(.z 20 (.w 132 [.t 9,.t 13,.t 17,.t 18,.t 19]),[])]) (.seq (.draw [(.m 21 0,[]),(.z 22 (.nilChk (.t 21)),[]),(.f 23 0 22,[]),(.l 24 23,[]),(.m 25 0,[]),(.z 26 (.nilChk (.t 25)),[]),(.f 27 22 26,[]),(.l 28 27,[]),(.m 29 0,[]),(.z 30 (.nilChk (.t 29)),[]),(.f 31 24 30,[]),(.l 32 31,[]),(.m 33 0,[]),(.z 34 (.nilChk (.t 33)),[]),(.f 35 22 34,[]),(.l 36 35,[]),(.m 37 0,[]),(.z 38 (.nilChk (.t 37)),[]),(.f 39 23 38,[]),(.l 40 39,[]),(.m 41 0,[]),(.z 42 (.nilChk (.t 41)),[]),(.f 43 16 42,[]),(.l 44 43,[]),(.z 45 (.w 104 [.t 24,.k 11,.t 28,.t 32,.t 36,.t 40,.t 44]),[])]) (.seq (.draw [(.m 46 0,[]),(.z 47 (.nilChk (.t 46)),[]),(.f 48 0 47,[]),(.l 49 48,[]),(.m 50 0,[]),(.z 51 (.nilChk (.t 50)),[]),(.f 52 22 51,[]),(.l 53 52,[]),(.m 54 0,[]),(.z 55 (.nilChk (.t 54)),[]),(.f 56 25 55,[]),(.l 57 56,[]),(.m 58 0,[]),(.z 59 (.nilChk (.t 58)),[]),(.f 60 22 59,[]),(.l 61 60,[]),(.m 62 0,[]),(.z 63 (.nilChk (.t 62)),[]),(.f 64 19 63,[]),(.l 65 64,[]),(.m 66 0,[]),(.z 67 (.nilChk (.t 66)),[]),(.f 68 16 67,[]),(.l 69 68,[]),(.z 70 (.w 104 [.t 49,.k 11,.t 53,.t 57,.t 61,.t 65,.t 69]),[])]) (.seq (.draw [(.m 71 0,[]),(.z 72 (.nilChk (.t 71)),[]),(.f 73 0 72,[]),(.l 74 73,[]),(.m 75 0,[]),(.z 76 (.nilChk (.t 75)),[]),(.f 77 21 76,[]),(.l 78 77,[]),(.m 79 0,[]),(.z 80 (.nilChk (.t 79)),[]),(.f 81 21 80,[]),(.l 82 81,[]),(.m 83 0,[]),(.z 84 (.nilChk (.t 83)),[]),(.f 85 24 84,[]),(.l 86 85,[]),(.z 87 (.w 108 [.t 74,.k 3,.t 78,.t 82,.t 86]),[])]) (.draw [(.m 88 0,[]),(.z 89 (.nilChk (.t 88)),[]),(.f 90 0 89,[]),(.l 91 90,[]),(.m 92 0,[]),(.z 93 (.nilChk (.t 92)),[]),(.f 94 19 93,[]),(.l 95 94,[]),(.m 96 0,[]),(.z 97 (.nilChk (.t 96)),[]),(.f 98 21 97,[]),(.l 99 98,[]),(.m 100 0,[]),(.z 101 (.nilChk (.t 100)),[]),(.f 102 25 101,[]),(.l 103 102,[]),(.z 104 (.w 108 [.t 91,.k 3,.t 95,.t 99,.t 103]),[])])))))
theorem r_montgomery_product_sum:Fg Tryz.prog 135=some ⟨105,z38.r,[]⟩:=by kernel_rfl
theorem k_montgomery_product_sum:z38.ok=true:=by kernel_rfl
def z36:LC:=(.seq (.draw [(.m 2 0,[]),(.z 3 (.nilChk (.t 2)),[]),(.f 4 0 3,[]),(.l 5 4,[]),(.m 6 0,[]),(.z 7 (.nilChk (.t 6)),[]),(.f 8 23 7,[]),(.l 9 8,[]),(.m 10 0,[]),(.z 11 (.nilChk (.t 10)),[]),(.f 12 13 11,[]),(.z 13 (.loadN 3 (.t 12)),[]),(.m 14 0,[]),(.z 15 (.nilChk (.t 14)),[]),(.f 16 10 15,[]),(.f 17 2 16,[]),(.l 18 17,[]),(.z 19 (.w 70 [.t 5,.t 9,.t 13,.k (-1),.t 18]),[])]) (.draw [(.m 20 0,[]),(.z 21 (.nilChk (.t 20)),[]),(.f 22 0 21,[]),(.l 23 22,[]),(.m 24 0,[]),(.z 25 (.nilChk (.t 24)),[]),(.f 26 23 25,[]),(.l 27 26,[]),(.m 28 0,[]),(.z 29 (.nilChk (.t 28)),[]),(.f 30 24 29,[]),(.l 31 30,[]),(.m 32 0,[]),(.z 33 (.nilChk (.t 32)),[]),(.f 34 23 33,[]),(.l 35 34,[]),(.m 36 0,[]),(.z 37 (.nilChk (.t 36)),[]),(.f 38 19 37,[]),(.l 39 38,[]),(.m 40 0,[]),(.z 41 (.nilChk (.t 40)),[]),(.f 42 16 41,[]),(.l 43 42,[]),(.z 44 (.w 104 [.t 23,.k 11,.t 27,.t 31,.t 35,.t 39,.t 43]),[])]))
theorem r_montgomery_product_top:Fg Tryz.prog 136=some ⟨45,z36.r,[]⟩:=by kernel_rfl
theorem k_montgomery_product_top:z36.ok=true:=by kernel_rfl
def z2j:LC:=(.q [.z 2 (.box (.t 0))] (.seq (.draw [(.l 4 2,[]),(.z 5 (.nilChk (.t 4)),[]),(.f 6 0 5,[]),(.l 7 6,[]),(.l 8 2,[]),(.z 9 (.nilChk (.t 8)),[]),(.f 10 18 9,[]),(.l 11 10,[]),(.l 12 2,[]),(.z 13 (.nilChk (.t 12)),[]),(.f 14 7 13,[]),(.z 15 (.loadN 3 (.t 14)),[]),(.m 16 1,[]),(.z 17 (.w 70 [.t 7,.t 11,.t 15,.t 16,.k 0]),[])]) (.seq (.draw [(.l 18 2,[]),(.z 19 (.nilChk (.t 18)),[]),(.f 20 0 19,[]),(.l 21 20,[]),(.l 22 2,[]),(.z 23 (.nilChk (.t 22)),[]),(.f 24 19 23,[]),(.l 25 24,[]),(.z 26 (.w 69 [.t 21,.t 25,.c (.u 0)]),[])]) (.seq (.draw [(.l 27 2,[]),(.z 28 (.nilChk (.t 27)),[]),(.f 29 0 28,[]),(.l 30 29,[]),(.l 31 2,[]),(.z 32 (.nilChk (.t 31)),[]),(.f 33 10 32,[]),(.f 34 2 33,[]),(.l 35 34,[]),(.z 36 (.mkFunc 134 [] [.t 2]),[]),(.z 37 (.w 73 [.t 30,.t 35,.t 36]),[])]) (.q [.l 38 2,.z 39 (.w 136 [.t 38])] (.seq (.draw [(.l 40 2,[]),(.z 41 (.nilChk (.t 40)),[]),(.f 42 0 41,[]),(.l 43 42,[]),(.l 44 2,[]),(.z 45 (.nilChk (.t 44)),[]),(.f 46 13 45,[]),(.z 47 (.loadN 3 (.t 46)),[]),(.l 48 2,[]),(.z 49 (.nilChk (.t 48)),[]),(.f 50 10 49,[]),(.f 51 2 50,[]),(.l 52 51,[]),(.l 53 2,[]),(.z 54 (.nilChk (.t 53)),[]),(.f 55 23 54,[]),(.l 56 55,[]),(.z 57 (.w 109 [.t 43,.t 47,.k (-1),.t 52,.t 56]),[])]) (.draw [(.l 58 2,[]),(.z 59 (.nilChk (.t 58)),[]),(.f 60 0 59,[]),(.l 61 60,[]),(.l 62 2,[]),(.z 63 (.nilChk (.t 62)),[]),(.f 64 13 63,[]),(.z 65 (.loadN 3 (.t 64)),[]),(.l 66 2,[]),(.z 67 (.nilChk (.t 66)),[]),(.f 68 10 67,[]),(.f 69 2 68,[]),(.l 70 69,[]),(.z 71 (.bin .add true 3 (.t 70) (.k 1)),[]),(.l 72 2,[]),(.z 73 (.nilChk (.t 72)),[]),(.f 74 24 73,[]),(.l 75 74,[]),(.z 76 (.w 109 [.t 61,.t 65,.k (-1),.t 71,.t 75]),[])])))))))
theorem r_montgomery_product_times:Fg Tryz.prog 75=some ⟨77,z2j.r,[]⟩:=by kernel_rfl
theorem k_montgomery_product_times:z2j.ok=true:=by kernel_rfl
def z22:LC:=(.seq (.draw [(.l 3 1,[]),(.z 4 (.nilChk (.t 3)),[]),(.f 5 0 4,[]),(.l 6 5,[]),(.l 7 1,[]),(.z 8 (.nilChk (.t 7)),[]),(.f 9 20 8,[]),(.l 10 9,[]),(.l 11 1,[]),(.z 12 (.nilChk (.t 11)),[]),(.f 13 4 12,[]),(.z 14 (.loadN 3 (.t 13)),[]),(.m 15 0,[]),(.z 16 (.w 70 [.t 6,.t 10,.t 14,.t 15,.k 0]),[])]) (.seq (.draw [(.l 17 1,[]),(.z 18 (.nilChk (.t 17)),[]),(.f 19 0 18,[]),(.l 20 19,[]),(.l 21 1,[]),(.z 22 (.nilChk (.t 21)),[]),(.f 23 23 22,[]),(.l 24 23,[]),(.l 25 1,[]),(.z 26 (.nilChk (.t 25)),[]),(.f 27 13 26,[]),(.z 28 (.loadN 3 (.t 27)),[]),(.m 29 0,[]),(.z 30 (.w 70 [.t 20,.t 24,.t 28,.t 29,.k 0]),[])]) (.seq (.draw [(.l 31 1,[]),(.l 32 1,[]),(.z 33 (.nilChk (.t 32)),[]),(.f 34 20 33,[]),(.l 35 34,[]),(.l 36 1,[]),(.z 37 (.nilChk (.t 36)),[]),(.f 38 18 37,[]),(.l 39 38,[]),(.z 40 (.w 135 [.t 31,.t 35,.t 39]),[])]) (.draw [(.l 41 1,[]),(.z 42 (.nilChk (.t 41)),[]),(.f 43 0 42,[]),(.l 44 43,[]),(.l 45 1,[]),(.z 46 (.nilChk (.t 45)),[]),(.f 47 13 46,[]),(.z 48 (.loadN 3 (.t 47)),[]),(.m 49 0,[]),(.l 50 1,[]),(.z 51 (.nilChk (.t 50)),[]),(.f 52 22 51,[]),(.l 53 52,[]),(.z 54 (.w 109 [.t 44,.t 48,.t 49,.k 0,.t 53]),[])]))))
theorem r_montgomery_product_times_1:Fg Tryz.prog 134=some ⟨55,z22.r,[]⟩:=by kernel_rfl
theorem k_montgomery_product_times_1:z22.ok=true:=by kernel_rfl
def z31:LC:=(.q [.z 1 (.box (.t 0))] (.q [.l 3 1,.z 4 (.nilChk (.t 3)),.f 5 10 4,.f 6 2 5,.l 7 6,.m 2 7] (.seq (.draw [(.l 8 1,[]),(.z 9 (.nilChk (.t 8)),[]),(.f 10 0 9,[]),(.l 11 10,[]),(.l 12 1,[]),(.z 13 (.nilChk (.t 12)),[]),(.f 14 23 13,[]),(.l 15 14,[]),(.l 16 1,[]),(.z 17 (.nilChk (.t 16)),[]),(.f 18 13 17,[]),(.z 19 (.loadN 3 (.t 18)),[]),(.z 20 (.w 70 [.t 11,.t 15,.t 19,.k (-1),.k 0]),[])]) (.seq (.draw [(.l 21 1,[]),(.z 22 (.nilChk (.t 21)),[]),(.f 23 0 22,[]),(.l 24 23,[]),(.l 25 1,[]),(.z 26 (.nilChk (.t 25)),[]),(.f 27 21 26,[]),(.l 28 27,[]),(.l 29 1,[]),(.z 30 (.nilChk (.t 29)),[]),(.f 31 26 30,[]),(.l 32 31,[]),(.l 33 1,[]),(.z 34 (.nilChk (.t 33)),[]),(.f 35 23 34,[]),(.l 36 35,[]),(.l 37 1,[]),(.z 38 (.nilChk (.t 37)),[]),(.f 39 17 38,[]),(.l 40 39,[]),(.z 41 (.w 132 [.t 24,.t 28,.t 32,.t 36,.t 40]),[])]) (.seq (.draw [(.l 42 1,[]),(.z 43 (.nilChk (.t 42)),[]),(.f 44 0 43,[]),(.l 45 44,[]),(.l 46 1,[]),(.z 47 (.nilChk (.t 46)),[]),(.f 48 20 47,[]),(.l 49 48,[]),(.l 50 1,[]),(.z 51 (.nilChk (.t 50)),[]),(.f 52 10 51,[]),(.z 53 (.loadN 3 (.t 52)),[]),(.z 54 (.w 70 [.t 45,.t 49,.t 53,.k (-1),.k 0]),[])]) (.seq (.draw [(.l 55 1,[]),(.z 56 (.nilChk (.t 55)),[]),(.f 57 0 56,[]),(.l 58 57,[]),(.l 59 1,[]),(.z 60 (.nilChk (.t 59)),[]),(.f 61 19 60,[]),(.l 62 61,[]),(.z 63 (.w 69 [.t 58,.t 62,.c (.u 0)]),[])]) (.seq (.draw [(.l 64 1,[]),(.l 65 1,[]),(.z 66 (.nilChk (.t 65)),[]),(.f 67 26 66,[]),(.l 68 67,[]),(.l 69 1,[]),(.z 70 (.nilChk (.t 69)),[]),(.f 71 20 70,[]),(.l 72 71,[]),(.z 73 (.w 135 [.t 64,.t 68,.t 72]),[])]) (.q [.l 74 1,.z 75 (.nilChk (.t 74)),.f 76 0 75,.l 77 76,.m 78 2,.z 79 (.bin .sub true 3 (.t 78) (.k 1)),.z 80 (.mkFunc 137 [] [.t 1]),.z 81 (.w 73 [.t 77,.t 79,.t 80])] (.q [.l 82 1,.z 83 (.w 136 [.t 82])] (.seq (.draw [(.l 84 1,[]),(.z 85 (.nilChk (.t 84)),[]),(.f 86 0 85,[]),(.l 87 86,[]),(.l 88 1,[]),(.z 89 (.nilChk (.t 88)),[]),(.f 90 13 89,[]),(.z 91 (.loadN 3 (.t 90)),[]),(.m 92 2,[]),(.z 93 (.bin .sub true 3 (.t 92) (.k 1)),[]),(.l 94 1,[]),(.z 95 (.nilChk (.t 94)),[]),(.f 96 23 95,[]),(.l 97 96,[]),(.z 98 (.w 109 [.t 87,.t 91,.k (-1),.t 93,.t 97]),[])]) (.seq (.draw [(.l 99 1,[]),(.z 100 (.nilChk (.t 99)),[]),(.f 101 0 100,[]),(.l 102 101,[]),(.l 103 1,[]),(.z 104 (.nilChk (.t 103)),[]),(.f 105 23 104,[]),(.l 106 105,[]),(.l 107 1,[]),(.z 108 (.nilChk (.t 107)),[]),(.f 109 13 108,[]),(.z 110 (.loadN 3 (.t 109)),[]),(.m 111 2,[]),(.z 112 (.bin .add true 3 (.t 111) (.k 1)),[]),(.z 113 (.w 70 [.t 102,.t 106,.t 110,.k (-1),.t 112]),[])]) (.seq (.draw [(.l 114 1,[]),(.z 115 (.nilChk (.t 114)),[]),(.f 116 0 115,[]),(.l 117 116,[]),(.l 118 1,[]),(.z 119 (.nilChk (.t 118)),[]),(.f 120 23 119,[]),(.l 121 120,[]),(.l 122 1,[]),(.z 123 (.nilChk (.t 122)),[]),(.f 124 23 123,[]),(.l 125 124,[]),(.l 126 1,[]),(.z 127 (.nilChk (.t 126)),[]),(.f 128 24 127,[]),(.l 129 128,[]),(.z 130 (.w 108 [.t 117,.k 3,.t 121,.t 125,.t 129]),[])]) (.draw [(.l 131 1,[]),(.z 132 (.nilChk (.t 131)),[]),(.f 133 0 132,[]),(.l 134 133,[]),(.l 135 1,[]),(.z 136 (.nilChk (.t 135)),[]),(.f 137 13 136,[]),(.z 138 (.loadN 3 (.t 137)),[]),(.m 139 2,[]),(.l 140 1,[]),(.z 141 (.nilChk (.t 140)),[]),(.f 142 23 141,[]),(.l 143 142,[]),(.z 144 (.w 109 [.t 134,.t 138,.k (-1),.t 139,.t 143]),[])])))))))))))))
theorem r_montgomery_product_down:Fg Tryz.prog 76=some ⟨145,z31.r,[]⟩:=by kernel_rfl
theorem k_montgomery_product_down:z31.ok=true:=by kernel_rfl
def z28:LC:=(.seq (.draw [(.l 3 1,[]),(.z 4 (.nilChk (.t 3)),[]),(.f 5 0 4,[]),(.l 6 5,[]),(.l 7 1,[]),(.z 8 (.nilChk (.t 7)),[]),(.f 9 20 8,[]),(.l 10 9,[]),(.l 11 1,[]),(.z 12 (.nilChk (.t 11)),[]),(.f 13 10 12,[]),(.z 14 (.loadN 3 (.t 13)),[]),(.m 15 0,[]),(.z 16 (.w 70 [.t 6,.t 10,.t 14,.t 15,.k 1]),[])]) (.seq (.draw [(.l 17 1,[]),(.z 18 (.nilChk (.t 17)),[]),(.f 19 0 18,[]),(.l 20 19,[]),(.l 21 1,[]),(.z 22 (.nilChk (.t 21)),[]),(.f 23 23 22,[]),(.l 24 23,[]),(.l 25 1,[]),(.z 26 (.nilChk (.t 25)),[]),(.f 27 13 26,[]),(.z 28 (.loadN 3 (.t 27)),[]),(.m 29 0,[]),(.z 30 (.w 70 [.t 20,.t 24,.t 28,.t 29,.k 1]),[])]) (.seq (.draw [(.l 31 1,[]),(.l 32 1,[]),(.z 33 (.nilChk (.t 32)),[]),(.f 34 26 33,[]),(.l 35 34,[]),(.l 36 1,[]),(.z 37 (.nilChk (.t 36)),[]),(.f 38 20 37,[]),(.l 39 38,[]),(.z 40 (.w 135 [.t 31,.t 35,.t 39]),[])]) (.draw [(.l 41 1,[]),(.z 42 (.nilChk (.t 41)),[]),(.f 43 0 42,[]),(.l 44 43,[]),(.l 45 1,[]),(.z 46 (.nilChk (.t 45)),[]),(.f 47 13 46,[]),(.z 48 (.loadN 3 (.t 47)),[]),(.m 49 0,[]),(.l 50 1,[]),(.z 51 (.nilChk (.t 50)),[]),(.f 52 22 51,[]),(.l 53 52,[]),(.z 54 (.w 109 [.t 44,.t 48,.t 49,.k 0,.t 53]),[])]))))
theorem r_montgomery_product_down_1:Fg Tryz.prog 137=some ⟨55,z28.r,[]⟩:=by kernel_rfl
theorem k_montgomery_product_down_1:z28.ok=true:=by kernel_rfl
def z2v:LC:=(.q [.z 2 (.box (.t 0)),.z 3 (.box (.t 1))] (.seq (.draw [(.l 4 2,[]),(.z 5 (.nilChk (.t 4)),[]),(.f 6 0 5,[]),(.l 7 6,[]),(.l 8 2,[]),(.z 9 (.nilChk (.t 8)),[]),(.f 10 24 9,[]),(.l 11 10,[]),(.z 12 (.w 69 [.t 7,.t 11,.c (.u 0)]),[])]) (.draw [(.l 13 2,[]),(.z 14 (.nilChk (.t 13)),[]),(.f 15 0 14,[]),(.l 16 15,[]),(.l 17 2,[]),(.z 18 (.nilChk (.t 17)),[]),(.f 19 10 18,[]),(.f 20 2 19,[]),(.l 21 20,[]),(.z 22 (.mkFunc 180 [] [.t 2,.t 3]),[]),(.z 23 (.w 73 [.t 16,.t 21,.t 22]),[])])))
theorem r_montgomery_product_less:Fg Tryz.prog 138=some ⟨24,z2v.r,[]⟩:=by kernel_rfl
theorem k_montgomery_product_less:z2v.ok=true:=by kernel_rfl
def z27:LC:=(.seq (.draw [(.l 4 1,[]),(.z 5 (.nilChk (.t 4)),[]),(.f 6 0 5,[]),(.l 7 6,[]),(.l 8 1,[]),(.z 9 (.nilChk (.t 8)),[]),(.f 10 23 9,[]),(.l 11 10,[]),(.l 12 1,[]),(.z 13 (.nilChk (.t 12)),[]),(.f 14 13 13,[]),(.z 15 (.loadN 3 (.t 14)),[]),(.m 16 0,[]),(.z 17 (.w 70 [.t 7,.t 11,.t 15,.t 16,.k 0]),[])]) (.seq (.draw [(.l 18 1,[]),(.z 19 (.nilChk (.t 18)),[]),(.f 20 0 19,[]),(.l 21 20,[]),(.l 22 1,[]),(.z 23 (.nilChk (.t 22)),[]),(.f 24 20 23,[]),(.l 25 24,[]),(.l 26 1,[]),(.z 27 (.nilChk (.t 26)),[]),(.f 28 10 27,[]),(.z 29 (.loadN 3 (.t 28)),[]),(.m 30 0,[]),(.z 31 (.w 70 [.t 21,.t 25,.t 29,.t 30,.k 0]),[])]) (.seq (.draw [(.l 32 1,[]),(.z 33 (.nilChk (.t 32)),[]),(.f 34 0 33,[]),(.l 35 34,[]),(.l 36 1,[]),(.z 37 (.nilChk (.t 36)),[]),(.f 38 22 37,[]),(.l 39 38,[]),(.l 40 1,[]),(.z 41 (.nilChk (.t 40)),[]),(.f 42 24 41,[]),(.l 43 42,[]),(.l 44 1,[]),(.z 45 (.nilChk (.t 44)),[]),(.f 46 23 45,[]),(.l 47 46,[]),(.l 48 1,[]),(.z 49 (.nilChk (.t 48)),[]),(.f 50 20 49,[]),(.l 51 50,[]),(.l 52 1,[]),(.z 53 (.nilChk (.t 52)),[]),(.f 54 24 53,[]),(.l 55 54,[]),(.z 56 (.w 104 [.t 35,.k 12,.t 39,.t 43,.t 47,.t 51,.t 55]),[])]) (.ops [.l 57 2,.m 58 0,.z 59 (.callV (.t 57) [.t 58])]))))
theorem r_montgomery_product_less_1:Fg Tryz.prog 180=some ⟨60,z27.r,[]⟩:=by kernel_rfl
theorem k_montgomery_product_less_1:z27.ok=true:=by kernel_rfl
def z2y:LC:=(.q [.z 1 (.box (.t 0))] (.q [.l 2 1,.z 3 (.w 138 [.t 2,(.c (.fn (.func 139) [] []))])] (.seq (.draw [(.l 4 1,[]),(.z 5 (.nilChk (.t 4)),[]),(.f 6 0 5,[]),(.l 7 6,[]),(.l 8 1,[]),(.z 9 (.nilChk (.t 8)),[]),(.f 10 23 9,[]),(.l 11 10,[]),(.l 12 1,[]),(.z 13 (.nilChk (.t 12)),[]),(.f 14 13 13,[]),(.z 15 (.loadN 3 (.t 14)),[]),(.l 16 1,[]),(.z 17 (.nilChk (.t 16)),[]),(.f 18 10 17,[]),(.f 19 2 18,[]),(.l 20 19,[]),(.z 21 (.w 70 [.t 7,.t 11,.t 15,.k (-1),.t 20]),[])]) (.seq (.draw [(.l 22 1,[]),(.z 23 (.nilChk (.t 22)),[]),(.f 24 0 23,[]),(.l 25 24,[]),(.l 26 1,[]),(.z 27 (.nilChk (.t 26)),[]),(.f 28 22 27,[]),(.l 29 28,[]),(.l 30 1,[]),(.z 31 (.nilChk (.t 30)),[]),(.f 32 26 31,[]),(.l 33 32,[]),(.l 34 1,[]),(.z 35 (.nilChk (.t 34)),[]),(.f 36 23 35,[]),(.l 37 36,[]),(.l 38 1,[]),(.z 39 (.nilChk (.t 38)),[]),(.f 40 16 39,[]),(.l 41 40,[]),(.l 42 1,[]),(.z 43 (.nilChk (.t 42)),[]),(.f 44 24 43,[]),(.l 45 44,[]),(.z 46 (.w 104 [.t 25,.k 12,.t 29,.t 33,.t 37,.t 41,.t 45]),[])]) (.ops [.l 47 1,.z 48 (.mkFunc 140 [] [.t 1]),.z 49 (.w 138 [.t 47,.t 48])])))))
theorem r_montgomery_product_last:Fg Tryz.prog 77=some ⟨50,z2y.r,[]⟩:=by kernel_rfl
theorem k_montgomery_product_last:z2y.ok=true:=by kernel_rfl
def z2e:LC:=.skip
theorem r_montgomery_product_last_1:Fg Tryz.prog 139=some ⟨2,z2e.r,[]⟩:=by kernel_rfl
theorem k_montgomery_product_last_1:z2e.ok=true:=by kernel_rfl
def z2d:LC:=(.seq (.draw [(.l 3 1,[]),(.z 4 (.nilChk (.t 3)),[]),(.f 5 0 4,[]),(.l 6 5,[]),(.l 7 1,[]),(.z 8 (.nilChk (.t 7)),[]),(.f 9 22 8,[]),(.l 10 9,[]),(.l 11 1,[]),(.z 12 (.nilChk (.t 11)),[]),(.f 13 26 12,[]),(.l 14 13,[]),(.l 15 1,[]),(.z 16 (.nilChk (.t 15)),[]),(.f 17 23 16,[]),(.l 18 17,[]),(.l 19 1,[]),(.z 20 (.nilChk (.t 19)),[]),(.f 21 22 20,[]),(.l 22 21,[]),(.z 23 (.w 113 [.t 6,.t 10,.t 14,.t 18,.t 22]),[])]) (.draw [(.l 24 1,[]),(.z 25 (.nilChk (.t 24)),[]),(.f 26 0 25,[]),(.l 27 26,[]),(.l 28 1,[]),(.z 29 (.nilChk (.t 28)),[]),(.f 30 1 29,[]),(.z 31 (.loadN 3 (.t 30)),[]),(.m 32 0,[]),(.l 33 1,[]),(.z 34 (.nilChk (.t 33)),[]),(.f 35 22 34,[]),(.l 36 35,[]),(.z 37 (.w 109 [.t 27,.t 31,.t 32,.k 0,.t 36]),[])]))
theorem r_montgomery_product_last_2:Fg Tryz.prog 140=some ⟨38,z2d.r,[]⟩:=by kernel_rfl
theorem k_montgomery_product_last_2:z2d.ok=true:=by kernel_rfl
def z1p:LC:=(.q [.z 7 (.box (.t 0)),.z 8 (.box (.t 1)),.z 9 (.box (.t 2)),.z 10 (.box (.t 3)),.z 11 (.box (.t 4)),.z 14 (.move (.c .nilSl))] (.q [.f 19 2 10,.l 20 19,.m 15 20] (.seq (.seq (.draw [(.m 21 15,[]),(.z 22 (.bin .lss true 3 (.t 21) (.k 1)),[]),(.m 23 22,[]),(.n 24 23 (.fieldAddr 2 (.t 7)),[]),(.n 25 23 (.load1 (.t 24)),[]),(.mn 26 23 15,[]),(.n 27 23 (.bin .neq false 3 (.t 25) (.t 26)),[]),(.z 28 (.pick (.t 23) .T (.t 27)),[]),(.m 29 28,[]),(.n 30 29 (.fieldAddr 2 (.t 8)),[]),(.n 31 29 (.load1 (.t 30)),[]),(.mn 32 29 15,[]),(.n 33 29 (.bin .neq false 3 (.t 31) (.t 32)),[]),(.z 34 (.pick (.t 29) .T (.t 33)),[]),(.m 35 34,[]),(.n 36 35 (.fieldAddr 2 (.t 9)),[]),(.n 37 35 (.load1 (.t 36)),[]),(.mn 38 35 15,[]),(.n 39 35 (.bin .neq false 3 (.t 37) (.t 38)),[]),(.z 40 (.pick (.t 35) .T (.t 39)),[]),(.m 41 40,[]),(.n 42 41 (.fieldAddr 2 (.t 11)),[]),(.n 43 41 (.load1 (.t 42)),[]),(.mn 44 41 15,[]),(.n 45 41 (.w 21 [.t 44]),[(.n 43 41 (.load1 (.t 42)),false)]),(.n 46 41 (.bin .lss false 3 (.t 43) (.t 45)),[]),(.z 47 (.pick (.t 41) .T (.t 46)),[]),(.m 48 47,[]),(.mn 49 48 5,[]),(.mn 50 48 6,[]),(.n 51 48 (.w 67 [.t 49,.t 50]),[]),(.n 52 48 (.un .not (.t 51)),[]),(.z 53 (.pick (.t 48) .T (.t 52)),[])]) (.cond (.t 53) (.q [.z 14 (.move (.c .nilSl))] .ret) .skip)) (.seq (.draw [(.m 54 5,[]),(.z 55 (.build [.nilSl,(.i 0)] [(1,1,.t 54)]),[]),(.z 56 (.box (.t 55)),[]),(.z 57 (.loadN 3 (.t 7)),[]),(.z 58 (.loadN 3 (.t 8)),[]),(.z 59 (.loadN 3 (.t 9)),[]),(.z 60 (.loadN 3 (.t 10)),[]),(.z 61 (.loadN 3 (.t 11)),[]),(.m 62 15,[]),(.z 16 (.alloc [.nilPtr]),[(.z 61 (.loadN 3 (.t 11)),false),(.z 60 (.loadN 3 (.t 10)),false),(.z 59 (.loadN 3 (.t 9)),false),(.z 58 (.loadN 3 (.t 8)),false),(.z 57 (.loadN 3 (.t 7)),false),(.z 56 (.box (.t 55)),true)]),(.z 63 (.w 21 [.t 62]),[(.z 16 (.alloc [.nilPtr]),true),(.z 61 (.loadN 3 (.t 11)),false),(.z 60 (.loadN 3 (.t 10)),false),(.z 59 (.loadN 3 (.t 9)),false),(.z 58 (.loadN 3 (.t 8)),false),(.z 57 (.loadN 3 (.t 7)),false),(.z 56 (.box (.t 55)),true)]),(.z 64 (.w 68 [.t 61,.k 0,.t 63]),[(.z 16 (.alloc [.nilPtr]),true),(.z 60 (.loadN 3 (.t 10)),false),(.z 59 (.loadN 3 (.t 9)),false),(.z 58 (.loadN 3 (.t 8)),false),(.z 57 (.loadN 3 (.t 7)),false),(.z 56 (.box (.t 55)),true)]),(.z 65 (.build [.nilPtr,(.i 0),(.i 0),(.i 0),(.i 0),(.i 0),(.i 0),(.i 0),(.i 0),(.i 0),(.i 0),(.i 0),(.i 0),(.i 0),(.i 0),(.i 0),(.i 0),(.i 0),(.i 0),(.i 0),(.i 0),(.i 0),(.i 0),(.i 0),(.i 0),(.i 0),(.i 0)] [(0,1,.t 56),(1,3,.t 57),(4,3,.t 58),(7,3,.t 59),(10,3,.t 60),(13,3,.t 64)]),[]),(.z 66 (.box (.t 65)),[(.z 16 (.alloc [.nilPtr]),true),(.z 60 (.loadN 3 (.t 10)),false),(.z 59 (.loadN 3 (.t 9)),false),(.z 58 (.loadN 3 (.t 8)),false),(.z 57 (.loadN 3 (.t 7)),false),(.z 56 (.box (.t 55)),true)]),(.v (.store 1 (.t 16) (.t 66)),[])]) (.seq (.seq (.draw [(.l 67 16,[]),(.z 68 (.nilChk (.t 67)),[]),(.f 69 16 68,[]),(.l 70 16,[]),(.z 71 (.nilChk (.t 70)),[]),(.f 72 17 71,[]),(.l 73 16,[]),(.z 74 (.nilChk (.t 73)),[]),(.f 75 18 74,[]),(.l 76 16,[]),(.z 77 (.nilChk (.t 76)),[]),(.f 78 19 77,[]),(.l 79 16,[]),(.z 80 (.nilChk (.t 79)),[]),(.f 81 20 80,[]),(.l 82 16,[]),(.z 83 (.nilChk (.t 82)),[]),(.f 84 21 83,[]),(.l 85 16,[]),(.z 86 (.nilChk (.t 85)),[]),(.f 87 22 86,[]),(.l 88 16,[]),(.z 89 (.nilChk (.t 88)),[]),(.f 90 23 89,[]),(.l 91 16,[]),(.z 92 (.nilChk (.t 91)),[]),(.f 93 24 92,[]),(.l 94 16,[]),(.z 95 (.nilChk (.t 94)),[]),(.f 96 25 95,[]),(.l 97 16,[]),(.z 98 (.nilChk (.t 97)),[]),(.f 99 26 98,[]),(.z 100 (.buildSl 1 11 [.nilPtr,.nilPtr,.nilPtr,.nilPtr,.nilPtr,.nilPtr,.nilPtr,.nilPtr,.nilPtr,.nilPtr,.nilPtr] [(0,1,.t 69),(1,1,.t 72),(2,1,.t 75),(3,1,.t 78),(4,1,.t 81),(5,1,.t 84),(6,1,.t 87),(7,1,.t 90),(8,1,.t 93),(9,1,.t 96),(10,1,.t 99)]),[(.l 97 16,false),(.l 94 16,false),(.l 91 16,false),(.l 88 16,false),(.l 85 16,false),(.l 82 16,false),(.l 79 16,false),(.l 76 16,false),(.l 73 16,false),(.l 70 16,false),(.l 67 16,false)]),(.z 101 (.lenSl (.t 100)),[]),(.z 102 (.move (.k 0)),[])]) (.block 0 (.loop (.q [.z 103 (.bin .lss false 3 (.t 102) (.t 101))] (.seq (.cond (.t 103) .skip (.exit 0)) (.seq (.block 1 (.q [.m 104 102,.z 105 (.ixAddr 1 (.t 100) (.t 102)),.l 106 105,.m 17 104,.m 18 106] (.ops [.m 107 18,.m 108 6,.m 109 17,.z 110 (.bin .add false 3 (.t 108) (.t 109)),.z 111 (.nilChk (.t 107)),.v (.store 1 (.t 111) (.t 110))]))) (.ops [.z 112 (.bin .add true 3 (.t 102) (.k 1)),.m 102 112]))))))) (.seq (.draw [(.l 113 16,[]),(.z 114 (.nilChk (.t 113)),[]),(.f 115 0 114,[]),(.l 116 115,[]),(.l 117 16,[]),(.z 118 (.nilChk (.t 117)),[]),(.f 119 16 118,[]),(.l 120 119,[]),(.z 121 (.w 69 [.t 116,.t 120,.c (.u 0)]),[])]) (.seq (.draw [(.l 122 16,[]),(.z 123 (.nilChk (.t 122)),[]),(.f 124 0 123,[]),(.l 125 124,[]),(.l 126 16,[]),(.z 127 (.nilChk (.t 126)),[]),(.f 128 26 127,[]),(.l 129 128,[]),(.z 130 (.loadN 3 (.t 10)),[]),(.z 131 (.w 70 [.t 125,.t 129,.t 130,.k (-1),.k 0]),[])]) (.seq (.draw [(.l 132 16,[]),(.z 133 (.nilChk (.t 132)),[]),(.f 134 0 133,[]),(.l 135 134,[]),(.l 136 16,[]),(.z 137 (.nilChk (.t 136)),[]),(.f 138 26 137,[]),(.l 139 138,[]),(.l 140 16,[]),(.z 141 (.nilChk (.t 140)),[]),(.f 142 17 141,[]),(.l 143 142,[]),(.z 144 (.w 71 [.t 135,.t 139,.t 143]),[])]) (.seq (.draw [(.l 145 16,[]),(.z 146 (.nilChk (.t 145)),[]),(.f 147 0 146,[]),(.l 148 147,[]),(.l 149 16,[]),(.z 150 (.nilChk (.t 149)),[]),(.f 151 13 150,[]),(.z 152 (.loadN 3 (.t 151)),[]),(.l 153 16,[]),(.z 154 (.nilChk (.t 153)),[]),(.f 155 16 154,[]),(.l 156 155,[]),(.z 157 (.w 72 [.t 148,.t 152,.t 156]),[])]) (.q [.l 158 16,.z 159 (.nilChk (.t 158)),.f 160 0 159,.l 161 160,.m 162 15,.z 163 (.mkFunc 74 [] [.t 16]),.z 164 (.w 73 [.t 161,.t 162,.t 163])] (.q [.l 165 16,.z 166 (.w 77 [.t 165])] (.q [.l 167 16,.z 168 (.nilChk (.t 167)),.f 169 0 168,.l 170 169,.z 171 (.nilChk (.t 170)),.f 172 0 171,.l 173 172,.m 14 173] .ret))))))))))))
theorem r_montgomery_Into:Fg Tryz.prog 23=some ⟨174,z1p.r,[.tmp 14]⟩:=by kernel_rfl
theorem k_montgomery_Into:z1p.ok=true:=by kernel_rfl
def z56:LC:=(.q [.l 3 1,.m 4 0,.z 5 (.w 75 [.t 3,.t 4])] (.ops [.l 6 1,.z 7 (.w 76 [.t 6])]))
theorem r_montgomery_Into_1:Fg Tryz.prog 74=some ⟨8,z56.r,[]⟩:=by kernel_rfl
theorem k_montgomery_Into_1:z56.ok=true:=by kernel_rfl
def z4q:LC:=(.q [.z 4 (.move .F)] (.q [.m 5 0,.z 6 (.bin .geq true 3 (.t 5) (.k 0)),.m 7 6,.my 8 7 0,.y 9 7 (.bin .leq true 3 (.t 8) (.k 6)),.z 10 (.pick (.t 7) (.t 9) .F),.m 11 10,.my 12 11 1,.y 13 11 (.bin .geq true 3 (.t 12) (.k 16)),.z 14 (.pick (.t 11) (.t 13) .F),.m 15 14,.my 16 15 1,.y 17 15 (.bin .leq true 3 (.t 16) (.k 50)),.z 18 (.pick (.t 15) (.t 17) .F),.m 4 18] .ret))
theorem r_montgomery_Allowed:Fg Tryz.prog 67=some ⟨19,z4q.r,[.tmp 4]⟩:=by kernel_rfl
theorem k_montgomery_Allowed:z4q.ok=true:=by kernel_rfl
theorem zee {G:Ev}{K:LV→Ev→Prop}{e:Nat}{ops:List Lo}{deep times:Int}{f:Nat}{fst cap:List LV}{B:Fr Lo}(hd:0≤deep∧deep≤100)(h:Fp G e ops deep)(C:ops.length≤900000)(D:B.flat.length≤50000)
  (q:∀(j:Ev) (g:List Lo) (o:LV→Ev→Prop),Fp j e g (deep+1)→Kp e G j→g.length≤900001→(∀l,Fp l e (g++B.flat) (deep+1)→Kp e j l→o (.tup []) l)→Fh Tryz.prog (.fn f) (fst++.i deep::cap) j o)
  (k:∀G',Fp G' e (ops++(Gj deep times B).flat) deep→Kp e G G'→K (.tup []) G'):Fh Tryz.prog (.fn 73) [.ptr e 0,.i times,.fn (.func f) fst cap] G K:=by
 refine zsv hd h (by omega) (fun m=>k G (by rw[N8,Ag m,Bx];exact h) (Kp.refl _ _)) fun r j s p=>q j _ _ s p (by simp;omega) fun l w x=>⟨_,by simp;omega,w,fun y z A=>k y ?_ (p.trans (x.trans A))⟩
 rw[N8,Ac (by omega)];simpa using z
section put
variable {G : Ev} {K : LV → Ev → Prop} {e P st : Nat} {ops : List Lo} {deep R : Int} {d a b n t : Pc}
theorem zrs {x y:Int}(g:G[P]?=some (.cells (L6 e d a b n t R) st))(f:P≠e)(h:Fp G e ops deep)(F:ops.length≤950000)(k:∀G',Fp G' e (ops++Fw R x y) deep→Kp e G G'→K (.tup []) G'):Fh Tryz.prog (.fn 135) [.ptr P 0,.i x,.i y] G K:=by
 refine E8 r_montgomery_product_sum k_montgomery_product_sum (by simp) ?_;unfold L6 at g;simp[z38,g];refine zhl h (by omega) fun H s j=>?_
 have l:=j.cells f g;simp[l];refine z72 s (by simp;omega) fun I w m=>?_
 have o:=m.cells f l;simp[o];refine z72 w (by simp;omega) fun J z p=>?_
 have q:=p.cells f o;simp[q];refine Qh z (by simp;omega) fun L A r=>?_
 have B:=r.cells f q;simp[B];refine Qh A (by simp;omega) fun C D E=>?_
 simp;refine k C (by simpa [Fw] using D) (j.trans (m.trans (p.trans (r.trans E))))
theorem zxs (s:-1000000≤t.at_∧t.at_≤1000000)(w:0≤n.size∧n.size≤1000000)(f:G[P]?=some (.cells (L6 e d a b n t R) st))(g:P≠e)(h:Fp G e ops deep)(x:ops.length≤900000)(k:∀G',Fp G' e (ops++Gr t n.size R) deep→Kp e G G'→K (.tup []) G'):Fh Tryz.prog (.fn 136) [.ptr P 0] G K:=by
 refine E8 r_montgomery_product_top k_montgomery_product_top (by simp) ?_;unfold L6 at f;simp[z36,f];refine Lh (p:=t) (by omega) h (by omega) fun y l j=>?_
 have m:=j.cells g f;simp[m];refine z72 l (by simp;omega) fun o q r=>?_
 simp;refine k o (by simpa [Gr] using q) (j.trans r)
theorem zvi {z sz:Nat}{j:Int}(N:-1000000≤a.at_∧a.at_≤1000000)(O:-1000000≤t.at_∧t.at_≤1000000)(r:G[z]?=some (.cells [.ptr P 0] sz))(g:z≠e)(l:G[P]?=some (.cells (L6 e d a b n t R) st))(f:P≠e)(h:Fp G e ops deep)(Q:ops.length≤900001)(k:∀G',Fp G' e (ops++Ln a t R j) deep→Kp e G G'→K (.tup []) G'):Fh Tryz.prog (.fn 134) [.i j,.ptr z 0] G K:=by
 refine E8 r_montgomery_product_times_1 k_montgomery_product_times_1 (by simp) ?_;have A:=l;unfold L6 at l;simp[z22,r,l];refine Lh (p:=a) (by omega) h (by omega) fun S B m=>?_
 have s:=m.cells g r;have C:=m.cells f A;have w:=m.cells f l;simp[s,w];refine Lh (p:=t) (by omega) B (by simp;omega) fun T D o=>?_
 have x:=o.cells g s;have E:=o.cells f C;have y:=o.cells f w;simp[x,y];refine zrs E f D (by simp;omega) fun U F q=>?_
 have H:=q.cells g x;have I:=q.cells f y;simp[H,I];refine M4 (p:=t) (by omega) F (by simp[Fw];omega) fun J L M=>?_
 simp;refine k J (by simpa [Ln] using L) (m.trans (o.trans (q.trans M)))
theorem Sx {z sz:Nat}{j:Int}(N:-1000000≤n.at_∧n.at_≤1000000)(O:-1000000≤t.at_∧t.at_≤1000000)(r:G[z]?=some (.cells [.ptr P 0] sz))(g:z≠e)(l:G[P]?=some (.cells (L6 e d a b n t R) st))(f:P≠e)(h:Fp G e ops deep)(Q:ops.length≤900001)(k:∀G',Fp G' e (ops++Mm n t R j) deep→Kp e G G'→K (.tup []) G'):Fh Tryz.prog (.fn 137) [.i j,.ptr z 0] G K:=by
 refine E8 r_montgomery_product_down_1 k_montgomery_product_down_1 (by simp) ?_;have A:=l;unfold L6 at l;simp[z28,r,l];refine Lh (p:=n) (by omega) h (by omega) fun S B m=>?_
 have s:=m.cells g r;have C:=m.cells f A;have w:=m.cells f l;simp[s,w];refine Lh (p:=t) (by omega) B (by simp;omega) fun T D o=>?_
 have x:=o.cells g s;have E:=o.cells f C;have y:=o.cells f w;simp[x,y];refine zrs E f D (by simp;omega) fun U F q=>?_
 have H:=q.cells g x;have I:=q.cells f y;simp[H,I];refine M4 (p:=t) (by omega) F (by simp[Fw];omega) fun J L M=>?_
 simp;refine k J (by simpa [Mm] using L) (m.trans (o.trans (q.trans M)))
theorem zyc {i:Int}(hd:0≤deep∧deep≤50)(M:-1000000≤a.at_∧a.at_≤1000000)(hb:-1000000≤b.at_∧b.at_≤1000000)(x:-1000000≤t.at_∧t.at_≤1000000)(N:0≤n.size∧n.size≤1000000)(j:G[P]?=some (.cells (L6 e d a b n t R) st))(f:P≠e)(h:Fp G e ops deep)(hl:ops.length≤800000)
  (k:∀G',Fp G' e (ops++(Li a b t n.size R deep i).flat) deep→Kp e G G'→K (.tup []) G'):Fh Tryz.prog (.fn 75) [.ptr P 0,.i i] G K:=by
 refine E8 r_montgomery_product_times k_montgomery_product_times (by simp) ?_;have O:=j;unfold L6 at j;have q:=(Aa.1 j).1;have le:e<G.length:=by obtain⟨_,_,h,_⟩:=id h;exact (Aa.1 h).1
 have Q:(G++[LObj.cells [.ptr P 0] 0])[G.length]?=some (.cells [.ptr P 0] 0):=Ax;have S:(G++[LObj.cells [.ptr P 0] 0])[P]?=_:=(E5 q).trans O;have T:(G++[LObj.cells [.ptr P 0] 0])[P]?=_:=(E5 q).trans j;have U:=h.app [LObj.cells [.ptr P 0] 0];have V:=Kp.app' e G [LObj.cells [.ptr P 0] 0];have g:G.length≠e:=by omega
 simp[z2j,↓E5 q,j];generalize G++[LObj.cells [.ptr P 0] 0]=G0 at *;generalize G.length=z at *;refine Lh (p:=b) (by omega) U (by omega) fun G1 W l=>?_
 have y:=l.cells g Q;have X:=l.cells f S;have A:=l.cells f T;simp[y,A];refine O3 W (by simp;omega) fun G2 Y m=>?_
 have r:=m.cells g y;have C:=m.cells f X;have D:=m.cells f A;simp[r,D];refine zee (fst:=[]) (cap:=[.ptr z 0]) (B:=E4 (Ln a t R deep)) (by omega) Y (by simp;omega) (by rw[flat_frL];simp[Ln,Fw]) (fun G3 E K' Z F l3 hk=>?_) fun G5 h5 o=>?_
 ·rw[flat_frL] at hk;exact zvi M x (F.cells g r) g (F.cells f C) f Z l3 hk
 have H:=o.cells g r;have q5:=o.cells f C;have I:=o.cells f D;simp[H,I];have aa:(Gj deep n.size (E4 (Ln a t R deep))).flat.length≤100:=by rw[N8];split<;>simp[flat_frL,Ln,Fw]
 refine zxs x N q5 f h5 (by simp;omega) fun G6 h6 s=>?_
 have J:=s.cells g H;have L:=s.cells f I;simp[J,L];refine M4 (p:=t) (by omega) h6 (by simp[Gr];omega) fun G7 h7 w=>?_
 have z7:=w.cells g J;have p7:=w.cells f L;simp[z7,p7]
 repeat (refine⟨by omega,?_⟩)
 refine M4 (p:=t) (by omega) h7 (by simp[Gr];omega) fun G8 h8 k8=>?_
 simp;refine k G8 ?_ (V.trans (l.trans (m.trans (o.trans (s.trans (w.trans k8))))));unfold Li;rw[Hq,Hq,flat_frL,flat_frL];simpa using h8
end put
end
section
section put
variable {G : Ev} {K : LV → Ev → Prop} {e P st : Nat} {ops : List Lo} {deep R : Int} {d a b n t : Pc}
theorem T7 (hd:0≤deep∧deep≤50)(x:-1000000≤n.at_∧n.at_≤1000000)(O:-1000000≤t.at_∧t.at_≤1000000)(hn:0≤n.size∧n.size≤1000000)(m:G[P]?=some (.cells (L6 e d a b n t R) st))(f:P≠e)(h:Fp G e ops deep)(hl:ops.length≤800000)
  (k:∀G',Fp G' e (ops++(Ls n t n.size R deep).flat) deep→Kp e G G'→K (.tup []) G'):Fh Tryz.prog (.fn 76) [.ptr P 0] G K:=by
 refine E8 r_montgomery_product_down k_montgomery_product_down (by simp) ?_;have hQ:=m;unfold L6 at m;have y:=(Aa.1 m).1;have le:e<G.length:=by obtain⟨_,_,h,_⟩:=id h;exact (Aa.1 h).1
 have z0:(G++[LObj.cells [.ptr P 0] 0])[G.length]?=some (.cells [.ptr P 0] 0):=Ax;have q0:(G++[LObj.cells [.ptr P 0] 0])[P]?=_:=(E5 y).trans hQ;have p0:(G++[LObj.cells [.ptr P 0] 0])[P]?=_:=(E5 y).trans m;have h0:=h.app [LObj.cells [.ptr P 0] 0];have k0:=Kp.app' e G [LObj.cells [.ptr P 0] 0];have g:G.length≠e:=by omega
 simp[z31,↓E5 y,m];generalize G++[LObj.cells [.ptr P 0] 0]=G0 at *;generalize G.length=z at *;refine Lh (p:=t) (by omega) h0 (by omega) fun G1 h1 o=>?_
 have Q:=o.cells g z0;have q1:=o.cells f q0;have S:=o.cells f p0;simp[Q,S];refine zhl h1 (by simp;omega) fun G2 h2 q=>?_
 have T:=q.cells g Q;have q2:=q.cells f q1;have U:=q.cells f S;simp[T,U];refine Lh (p:=n) (by omega) h2 (by simp;omega) fun G3 h3 r=>?_
 have V:=r.cells g T;have q3:=r.cells f q2;have W:=r.cells f U;simp[V,W];refine O3 h3 (by simp;omega) fun G4 h4 s=>?_
 have X:=s.cells g V;have Y:=s.cells f q3;have Z:=s.cells f W;simp[X,Z];refine zrs Y f h4 (by simp;omega) fun G5 h5 w=>?_
 have A:=w.cells g X;have q5:=w.cells f Y;have p5:=w.cells f Z;simp[A,p5]
 repeat (refine⟨by omega,?_⟩)
 refine zee (fst:=[]) (cap:=[.ptr z 0]) (B:=E4 (Mm n t R deep)) (by omega) h5 (by simp[Fw];omega) (by rw[flat_frL];simp[Mm,Fw]) (fun G6 aa K' C j l6 hk=>?_) fun G6 C j=>?_
 ·rw[flat_frL] at hk;exact Sx x O (j.cells g A) g (j.cells f q5) f C l6 hk
 have z6:=j.cells g A;have q6:=j.cells f q5;have p6:=j.cells f p5;simp[z6,p6];have ad:(Gj deep (n.size - 1) (E4 (Mm n t R deep))).flat.length≤100:=by rw[N8];split<;>simp[flat_frL,Mm,Fw]
 refine zxs O hn q6 f C (by simp[Fw];omega) fun G7 h7 D=>?_
 have z7:=D.cells g z6;have p7:=D.cells f p6;simp[z7,p7]
 repeat (refine⟨by omega,?_⟩)
 refine M4 (p:=t) (by omega) h7 (by simp[Gr,Fw];omega) fun G8 h8 E=>?_
 have z8:=E.cells g z7;have p8:=E.cells f p7;simp[z8,p8]
 repeat (refine⟨by omega,?_⟩)
 refine Lh (p:=t) (by omega) h8 (by simp[Gr,Fw];omega) fun G9 h9 F=>?_
 have z9:=F.cells g z8;have p9:=F.cells f p8;simp[z9,p9];refine Qh h9 (by simp[Gr,Fw];omega) fun af H l=>?_
 have I:=l.cells g z9;have J:=l.cells f p9;simp[I,J];refine M4 (p:=t) (by omega) H (by simp[Gr,Fw];omega) fun L M N=>?_
 simp;refine k L ?_ (k0.trans (o.trans (q.trans (r.trans (s.trans (w.trans (j.trans (D.trans (E.trans (F.trans (l.trans N)))))))))));unfold Ls;rw[Hq,Hq,flat_frL,flat_frL];simpa using M
theorem Sn {z y sz I f:Nat}{cap:List LV}{x:List Lo}{j:Int}(Z:-1000000≤n.at_∧n.at_≤1000000)(ht:-1000000≤t.at_∧t.at_≤1000000)(D:G[z]?=some (.cells [.ptr P 0] sz))(m:z≠e)(J:G[y]?=some (.cells [.fn (.func f) [] cap] I))(l:y≠e)(B:G[P]?=some (.cells (L6 e d a b n t R) st))(o:P≠e)(h:Fp G e ops deep)(hl:ops.length≤900001)
  (q:∀(r:Ev) (g:List Lo) (E:LV→Ev→Prop),Fp r e g deep→Kp e G r→g.length≤900010→(∀A,Fp A e (g++x) deep→Kp e r A→E (.tup []) A)→Fh Tryz.prog (.fn f) (.i j::cap) r E)
  (k:∀G',Fp G' e (ops++(L9 n t R j++x)) deep→Kp e G G'→K (.tup []) G'):Fh Tryz.prog (.fn 180) [.i j,.ptr z 0,.ptr y 0] G K:=by
 refine E8 r_montgomery_product_less_1 k_montgomery_product_less_1 (by simp) ?_;unfold L6 at B;simp[z27,D,B];refine Lh (p:=t) (by omega) h (by omega) fun r L s=>?_
 have F:=s.cells m D;have M:=s.cells l J;have H:=s.cells o B;simp[F,H];refine Lh (p:=n) (by omega) L (by simp;omega) fun A N w=>?_
 have O:=w.cells m F;have Q:=w.cells l M;have S:=w.cells o H;simp[O,S];refine z72 N (by simp;omega) fun T U C=>?_
 have V:=C.cells l Q;simp[V];refine q T _ _ U (s.trans (w.trans C)) (by simp;omega) fun W X Y=>?_
 simp;refine k W (by simpa [L9] using X) (s.trans (w.trans (C.trans Y)))
theorem zt1 {f:Nat}{cap:List LV}{x:List Lo}(hx:x.length≤10)(hd:0≤deep∧deep≤50)(A:-1000000≤n.at_∧n.at_≤1000000)(L:-1000000≤t.at_∧t.at_≤1000000)(p:G[P]?=some (.cells (L6 e d a b n t R) st))(j:P≠e)(h:Fp G e ops deep)(hl:ops.length≤800000)
  (q:∀(r:Ev) (g:List Lo) (C:LV→Ev→Prop),Fp r e g (deep+1)→Kp e G r→g.length≤900010→(∀D,Fp D e (g++x) (deep+1)→Kp e r D→C (.tup []) D)→Fh Tryz.prog (.fn f) (.i deep::cap) r C)
  (k:∀G',Fp G' e (ops++(N0 n t n.size R deep x).flat) deep→Kp e G G'→K (.tup []) G'):Fh Tryz.prog (.fn 138) [.ptr P 0,.fn (.func f) [] cap] G K:=by
 refine E8 r_montgomery_product_less k_montgomery_product_less (by simp) ?_;have M:=p;unfold L6 at p;have E:=(Aa.1 p).1;have le:e<G.length:=by obtain⟨_,_,h,_⟩:=id h;exact (Aa.1 h).1
 have N:(G++[LObj.cells [.ptr P 0] 0,LObj.cells [.fn (.func f) [] cap] 0])[G.length]?=some (.cells [.ptr P 0] 0):=by simp
 have O:(G++[LObj.cells [.ptr P 0] 0,LObj.cells [.fn (.func f) [] cap] 0])[G.length+1]?=some (.cells [.fn (.func f) [] cap] 0):=by simp
 have Q:(G++[LObj.cells [.ptr P 0] 0,LObj.cells [.fn (.func f) [] cap] 0])[P]?=_:=(E5 E).trans M;have S:(G++[LObj.cells [.ptr P 0] 0,LObj.cells [.fn (.func f) [] cap] 0])[P]?=_:=(E5 E).trans p;have T:=h.app [LObj.cells [.ptr P 0] 0,LObj.cells [.fn (.func f) [] cap] 0];have H:=Kp.app' e G [LObj.cells [.ptr P 0] 0,LObj.cells [.fn (.func f) [] cap] 0];have l:G.length≠e:=by omega
 have m:G.length+1≠e:=by omega
 simp[z2v,↓E5 E,p];generalize G++[LObj.cells [.ptr P 0] 0,LObj.cells [.fn (.func f) [] cap] 0]=G0 at *;generalize G.length+1=y at *;generalize G.length=z at *;refine O3 T (by omega) fun r U o=>?_
 have I:=o.cells l N;have V:=o.cells m O;have W:=o.cells j Q;have X:=o.cells j S;simp[I,X];refine zee (fst:=[]) (cap:=[.ptr z 0,.ptr y 0]) (B:=E4 (L9 n t R deep++x)) (by omega) U (by simp;omega) (by rw[flat_frL];simp[L9];omega) (fun G3 J C Y w Z hk=>?_) fun G5 h5 k5=>?_
 ·rw[flat_frL] at hk;exact Sn A L (w.cells l I) l (w.cells m V) m (w.cells j W) j Y Z (fun G4 s K4 h4 k4 l4 F=>q G4 s K4 h4 (H.trans (o.trans (w.trans k4))) l4 F) hk
 simp;refine k G5 ?_ (H.trans (o.trans k5));unfold N0;rw[Hq,flat_frL];simpa using h5
theorem Xf (hd:0≤deep∧deep≤50)(T:-1000000≤d.at_∧d.at_≤1000000)(j:-1000000≤n.at_∧n.at_≤1000000)(B:-1000000≤t.at_∧t.at_≤1000000)(hn:0≤n.size∧n.size≤1000000)(l:G[P]?=some (.cells (L6 e d a b n t R) st))(f:P≠e)(h:Fp G e ops deep)(hl:ops.length≤700000)
  (k:∀G',Fp G' e (ops++(Pp d n t n.size R deep).flat) deep→Kp e G G'→K (.tup []) G'):Fh Tryz.prog (.fn 77) [.ptr P 0] G K:=by
 refine E8 r_montgomery_product_last k_montgomery_product_last (by simp) ?_;have U:=l;unfold L6 at l;have s:=(Aa.1 l).1;have le:e<G.length:=by obtain⟨_,_,h,_⟩:=id h;exact (Aa.1 h).1
 have V:(G++[LObj.cells [.ptr P 0] 0])[G.length]?=some (.cells [.ptr P 0] 0):=Ax;have C:(G++[LObj.cells [.ptr P 0] 0])[P]?=_:=(E5 s).trans U;have W:(G++[LObj.cells [.ptr P 0] 0])[P]?=_:=(E5 s).trans l;have X:=h.app [LObj.cells [.ptr P 0] 0];have Y:=Kp.app' e G [LObj.cells [.ptr P 0] 0];have g:G.length≠e:=by omega
 simp[z2y,↓E5 s,l];generalize G++[LObj.cells [.ptr P 0] 0]=G0 at *;generalize G.length=z at *;have Z:∀x:List Lo,x.length≤10→(N0 n t n.size R deep x).flat.length≤100:=fun x hx=>by
  unfold N0;rw[Hq,flat_frL,N8];split<;>simp[flat_frL,L9];omega
 refine zt1 (x:=[]) (by simp) hd j B C f X (by omega) (fun D E K' w m l1 hk=>?_) fun D w m=>?_
 ·refine E8 r_montgomery_product_last_1 k_montgomery_product_last_1 (by simp) ?_;simp[z2e];exact hk D (by simpa using w) (Kp.refl _ _)
 have F:=m.cells g V;have q1:=m.cells f C;have H:=m.cells f W;have l1:=Z [] (by simp);simp[F,H];refine Lh (p:=t) (by omega) w (by simp;omega) fun G2 h2 o=>?_
 have I:=o.cells g F;have q2:=o.cells f q1;have J:=o.cells f H;simp[I,J];refine z72 h2 (by simp;omega) fun G3 h3 q=>?_
 have L:=q.cells g I;have q3:=q.cells f q2;have M:=q.cells f J;simp[L,M];refine zt1 (x:=[F1 (R+6) (R+10) (R+7) (R+6),Ff d deep 0 (R+6)]) (by simp) hd j B q3 f h3 (by simp;omega) (fun N O K' y r l4 hk=>?_) fun N y r=>?_
 ·refine E8 r_montgomery_product_last_2 k_montgomery_product_last_2 (by simp) ?_;have Q:=r.cells g L;have S:=r.cells f M;simp[z2d,Q,S];refine zm7 y (by omega) fun G5 h5 A=>?_
  have z5:=A.cells g Q;have p5:=A.cells f S;simp[z5,p5];refine M4 (p:=d) (by omega) h5 (by simp;omega) fun G6 h6 k6=>?_
  simp;exact hk G6 (by simpa using h6) (A.trans k6)
 simp;refine k N ?_ (Y.trans (m.trans (o.trans (q.trans r))));unfold Pp;rw[Hq,Hq,flat_frL];simpa using y
end put
end
section
def Rx (k:Int):Int:=if k<1 then 0 else k+2
def Yu (deep regs:Int):Bool:=decide (0≤deep)&&(decide (deep≤6)&&(decide (16≤regs)&&decide (regs≤50)))
theorem z58 {G:Ev}{K:LV→Ev→Prop}{n:Int}(f:n≤1000000000)(k:K (.i (Rx n)) G):Fh Tryz.prog (.fn 21) [.i n] G K:=by
 refine E8 r_montgomery_Need k_montgomery_Need (by simp) ?_;unfold Rx at k;by_cases g:n<1
 ·rw[Ag g] at k;simpa [z3c,g] using k
 ·rw[Ac g] at k;simp[z3c,g];exact⟨by omega,k⟩
theorem z76 {G:Ev}{K:LV→Ev→Prop}{a b:Int}(k:K (.bool (Yu a b)) G):Fh Tryz.prog (.fn 67) [.i a,.i b] G K:=by
 refine E8 r_montgomery_Allowed k_montgomery_Allowed (by simp) ?_;unfold Yu at k;by_cases g1:0≤a<;>by_cases g2:a≤6<;>by_cases g3:16≤b<;>by_cases g4:b≤50<;>simpa [z4q,g1,g2,g3,g4] using k
theorem z71 {G:Ev}{K:LV→Ev→Prop}{p:Pc}{at_ size:Int}(h:-1000000000≤p.at_+at_∧p.at_+at_≤1000000000)(k:K (.agg (Pc.f ⟨p.buf,p.at_+at_,size⟩)) (G++[LObj.cells p.f 0,LObj.cells [.i p.buf,.i (p.at_+at_),.i size] 1])):Fh Tryz.prog (.fn 68) [.agg p.f,.i at_,.i size] G K:=by
 refine E8 r_expand_Part k_expand_Part (by simp) ?_;simp[za5,Pc.f];exact⟨by omega,by simpa [Pc.f] using k⟩
theorem Rl {G:Ev}{K:LV→Ev→Prop}{e:Nat}{ops:List Lo}{deep times:Int}{f:Nat}{fst cap:List LV}{B:Fr Lo}(hd:0≤deep∧deep≤100)(h:Fp G e ops deep)(C:ops.length≤900000)(D:B.flat.length≤50000)
  (q:∀(j:Ev) (g:List Lo) (o:LV→Ev→Prop),Fp j e g (deep+1)→Kp e G j→g.length≤ops.length+1→(∀l,Fp l e (g++B.flat) (deep+1)→Kp e j l→o (.tup []) l)→Fh Tryz.prog (.fn f) (fst++.i deep::cap) j o)
  (k:∀G',Fp G' e (ops++(Gj deep times B).flat) deep→Kp e G G'→K (.tup []) G'):Fh Tryz.prog (.fn 73) [.ptr e 0,.i times,.fn (.func f) fst cap] G K:=by
 refine zsv hd h (by omega) (fun m=>k G (by rw[N8,Ag m,Bx];exact h) (Kp.refl _ _)) fun r j s p=>q j _ _ s p (by simp) fun l w x=>⟨_,by simp;omega,w,fun y z A=>k y ?_ (p.trans (x.trans A))⟩
 rw[N8,Ac (by omega)];simpa using z
section put
variable {G : Ev} {K : LV → Ev → Prop} {e P st : Nat} {ops : List Lo} {deep R : Int} {d a b n t : Pc}
theorem zl8 {p:Pc}{x:Int}(hd:0≤deep∧deep≤50)(O:-1000000≤p.at_∧p.at_≤1000000)(h:Fp G e ops deep)(Q:ops.length≤800000)
  (k:∀G',Fp G' e (ops++(Kc p x deep).flat) deep→Kp e G G'→K (.tup []) G'):Fh Tryz.prog (.fn 72) [.ptr e 0,.agg p.f,.i x] G K:=by
 refine E8 r_expand_Emit_Fill k_expand_Emit_Fill (by simp) ?_;have le:e<G.length:=by obtain⟨_,_,h,_⟩:=id h;exact (Aa.1 h).1
 have m:(G++[LObj.cells [.ptr e 0] 0,LObj.cells p.f 0,LObj.cells [.i x] 0])[G.length]?=some (.cells [.ptr e 0] 0):=by simp
 have o:(G++[LObj.cells [.ptr e 0] 0,LObj.cells p.f 0,LObj.cells [.i x] 0])[G.length+1]?=some (.cells p.f 0):=by simp
 have q:(G++[LObj.cells [.ptr e 0] 0,LObj.cells p.f 0,LObj.cells [.i x] 0])[G.length+2]?=some (.cells [.i x] 0):=by simp
 have r:=h.app [LObj.cells [.ptr e 0] 0,LObj.cells p.f 0,LObj.cells [.i x] 0];have s:=Kp.app' e G [LObj.cells [.ptr e 0] 0,LObj.cells p.f 0,LObj.cells [.i x] 0];have f:G.length≠e:=by omega
 have g:G.length+1≠e:=by omega
 have j:G.length+2≠e:=by omega
 unfold Pc.f at o q m r s;simp[z5m,Pc.f];generalize G++[LObj.cells [.ptr e 0] 0,LObj.cells [.i p.buf,.i p.at_,.i p.size] 0,LObj.cells [.i x] 0]=S at *;generalize G.length+2=w at *;generalize G.length+1=y at *;generalize G.length=z at *;refine zee (fst:=[]) (cap:=[.ptr z 0,.ptr y 0,.ptr w 0]) (B:=E4 [Ff p deep 0 x]) (by omega) r (by omega) (by rw[flat_frL];simp) (fun T A U C l V hk=>?_) fun D E F=>?_
 ·rw[flat_frL] at hk;refine E8 r_expand_Emit_Fill_1 k_expand_Emit_Fill_1 (by simp) ?_;have H:=l.cells f m;have I:=l.cells g o;have J:=l.cells j q;simp[z4p,H,I,J];refine M4 (p:=p) (by omega) C (by omega) fun L M N=>?_
  simp;exact hk L M N
 simp;exact k D E (s.trans F)
theorem Ss {z sz:Nat}{i:Int}(hd:0≤deep∧deep≤50)(r:-1000000≤a.at_∧a.at_≤1000000)(s:-1000000≤b.at_∧b.at_≤1000000)(g:-1000000≤n.at_∧n.at_≤1000000)(m:-1000000≤t.at_∧t.at_≤1000000)(o:0≤n.size∧n.size≤1000000)(p:G[z]?=some (.cells [.ptr P 0] sz))(j:z≠e)(q:G[P]?=some (.cells (L6 e d a b n t R) st))(f:P≠e)(h:Fp G e ops deep)(D:ops.length≤700000)
  (k:∀G',Fp G' e (ops++((Li a b t n.size R deep i).cat (Ls n t n.size R deep)).flat) deep→Kp e G G'→K (.tup []) G'):Fh Tryz.prog (.fn 74) [.i i,.ptr z 0] G K:=by
 refine E8 r_montgomery_Into_1 k_montgomery_Into_1 (by simp) ?_;simp[z56,p];have E:(Li a b t n.size R deep i).flat.length≤100:=by
  unfold Li;rw[Hq,Hq,flat_frL,N8];split<;>simp[flat_frL,Ln,Fw,Gr]
 refine zyc hd r s m o q f h (by omega) fun F w l=>?_
 have x:=l.cells j p;have y:=l.cells f q;simp[x];refine T7 hd g m o y f w (by simp;omega) fun A B C=>?_
 simp;refine k A ?_ (l.trans C);rw[Hq];simpa using B
end put
def Y9 (d a b n w:Pc)(deep R:Int):Bool:=decide (1≤n.size)&&(decide (d.size=n.size)&&(decide (a.size=n.size)&&(decide (b.size=n.size)&&(decide (Rx n.size≤w.size)&&Yu deep R))))
def znh (d a b n w:Pc)(deep R:Int):List Lo:=if Y9 d a b n w deep R=true then (O2 d a b n ⟨w.buf,w.at_,Rx n.size⟩ n.size R deep).flat else []
def Ng (d a b n w:Pc)(deep R:Int)(i st:Nat):Ev :=
 [.cells [.i d.buf,.i d.at_,.i n.size] 0,.cells [.i a.buf,.i a.at_,.i n.size] 0,.cells [.i b.buf,.i b.at_,.i n.size] 0,.cells [.i n.buf,.i n.at_,.i n.size] 0,.cells [.i w.buf,.i w.at_,.i w.size] 0,.cells [.nilSl,.i deep] 0,.cells [.ptr 9 0] 1,
  .cells [.i w.buf,.i w.at_,.i w.size] 0,.cells [.i w.buf,.i w.at_,.i (Rx n.size)] 1,
  .cells [.ptr 5 0,.i d.buf,.i d.at_,.i n.size,.i a.buf,.i a.at_,.i n.size,.i b.buf,.i b.at_,.i n.size,.i n.buf,.i n.at_,.i n.size,.i w.buf,.i w.at_,.i (Rx n.size),.i (if 0<i then R else 0),.i (if 1<i then R+1 else 0),.i (if 2<i then R+2 else 0),.i (if 3<i then R+3 else 0),.i (if 4<i then R+4 else 0),.i (if 5<i then R+5 else 0),.i (if 6<i then R+6 else 0),.i (if 7<i then R+7 else 0),.i (if 8<i then R+8 else 0),.i (if 9<i then R+9 else 0),.i (if 10<i then R+10 else 0)] st,
  .dyn [.ptr 9 16,.ptr 9 17,.ptr 9 18,.ptr 9 19,.ptr 9 20,.ptr 9 21,.ptr 9 22,.ptr 9 23,.ptr 9 24,.ptr 9 25,.ptr 9 26] 11 1 0 0]
theorem zev {d a b n w:Pc}{deep R:Int}(E:-1000000≤d.at_∧d.at_≤1000000)(ha:-1000000≤a.at_∧a.at_≤1000000)(hb:-1000000≤b.at_∧b.at_≤1000000)(y:-1000000≤n.at_∧n.at_≤1000000)(hw:-1000000≤w.at_∧w.at_≤1000000)(hn:n.size≤1000000) :
  Ib Tryz.prog 23 [.agg d.f,.agg a.f,.agg b.f,.agg n.f,.agg w.f,.i deep,.i R] (.lst (Gf (znh d a b n w deep R)) (znh d a b n w deep R).length 8):=by
 refine Ib.mk (by simp[LV.dat,Ju]) (E8 r_montgomery_Into k_montgomery_Into (by simp) ?_);have bad:Y9 d a b n w deep R=false→znh d a b n w deep R=[]:=fun h=>by unfold znh;rw[h];simp
 by_cases g1:n.size<1
 ·rw[bad (by simp[Y9];omega)];simp[z1p,Pc.f,g1,Gf]
 by_cases g2:d.size=n.size
 rotate_left
 ·rw[bad (by simp[Y9];omega)];simp[z1p,Pc.f,g1,g2,Gf]
 by_cases g3:a.size=n.size
 rotate_left
 ·rw[bad (by simp[Y9];omega)];simp[z1p,Pc.f,g1,g2,g3,Gf]
 by_cases g4:b.size=n.size
 rotate_left
 ·rw[bad (by simp[Y9];omega)];simp[z1p,Pc.f,g1,g2,g3,g4,Gf]
 simp[z1p,Pc.f,g1,g2,g3,g4];refine z58 (by omega) ?_;by_cases g5:w.size<Rx n.size
 ·rw[bad (by simp[Y9];omega)];simp[g5,Gf]
 simp[g5];refine z76 ?_;by_cases g6:Yu deep R=true
 rotate_left
 ·rw[bad (by simp[Y9,g6])];simp[g6,Gf]
 simp[g6];refine z58 (by omega) ?_;simp;refine z71 (p:=w) (by omega) ?_;simp[Pc.f];have hR:16≤R∧R≤50∧0≤deep∧deep≤6:=by simp[Yu] at g6;omega
 refine Iy (fun ρ D G' N=>∃i st:Nat,D=[]∧N+i=11∧lk ρ 6=.i R∧lk ρ 10=.ptr 3 0∧lk ρ 15=.i n.size∧lk ρ 16=.ptr 6 0∧lk ρ 100=.dy 10 0∧lk ρ 101=.i 11∧lk ρ 102=.i i∧G'=Ng d a b n w deep R i st) (N:=11)
  ⟨0,0,rfl,by omega,by simp,by simp,by simp,by simp,by simp,by simp,by simp,by simp[Ng]⟩ ?_
 rintro N ρ D O ⟨i,st,rfl,hN,r,l,m,o,f,j,s,rfl⟩ Nx q;by_cases g:i<11
 ·have hi:i=0∨i=1∨i=2∨i=3∨i=4∨i=5∨i=6∨i=7∨i=8∨i=9∨i=10:=by omega
  rcases hi with rfl | rfl | rfl | rfl | rfl | rfl | rfl | rfl | rfl | rfl | rfl
  all_goals simp[r,l,m,o,f,j,s,Ng]
  ·try (refine⟨by omega,?_⟩)
   exact q _ _ _ ⟨N - 1,by omega,1,st+1,rfl,by omega,by simp[r],by simp[l],by simp[m],by simp[o],by simp[f],by simp[j],by simp,by simp[Ng]⟩
  ·try (refine⟨by omega,?_⟩)
   exact q _ _ _ ⟨N - 1,by omega,2,st+1,rfl,by omega,by simp[r],by simp[l],by simp[m],by simp[o],by simp[f],by simp[j],by simp,by simp[Ng]⟩
  ·try (refine⟨by omega,?_⟩)
   exact q _ _ _ ⟨N - 1,by omega,3,st+1,rfl,by omega,by simp[r],by simp[l],by simp[m],by simp[o],by simp[f],by simp[j],by simp,by simp[Ng]⟩
  ·try (refine⟨by omega,?_⟩)
   exact q _ _ _ ⟨N - 1,by omega,4,st+1,rfl,by omega,by simp[r],by simp[l],by simp[m],by simp[o],by simp[f],by simp[j],by simp,by simp[Ng]⟩
  ·try (refine⟨by omega,?_⟩)
   exact q _ _ _ ⟨N - 1,by omega,5,st+1,rfl,by omega,by simp[r],by simp[l],by simp[m],by simp[o],by simp[f],by simp[j],by simp,by simp[Ng]⟩
  ·try (refine⟨by omega,?_⟩)
   exact q _ _ _ ⟨N - 1,by omega,6,st+1,rfl,by omega,by simp[r],by simp[l],by simp[m],by simp[o],by simp[f],by simp[j],by simp,by simp[Ng]⟩
  ·try (refine⟨by omega,?_⟩)
   exact q _ _ _ ⟨N - 1,by omega,7,st+1,rfl,by omega,by simp[r],by simp[l],by simp[m],by simp[o],by simp[f],by simp[j],by simp,by simp[Ng]⟩
  ·try (refine⟨by omega,?_⟩)
   exact q _ _ _ ⟨N - 1,by omega,8,st+1,rfl,by omega,by simp[r],by simp[l],by simp[m],by simp[o],by simp[f],by simp[j],by simp,by simp[Ng]⟩
  ·try (refine⟨by omega,?_⟩)
   exact q _ _ _ ⟨N - 1,by omega,9,st+1,rfl,by omega,by simp[r],by simp[l],by simp[m],by simp[o],by simp[f],by simp[j],by simp,by simp[Ng]⟩
  ·try (refine⟨by omega,?_⟩)
   exact q _ _ _ ⟨N - 1,by omega,10,st+1,rfl,by omega,by simp[r],by simp[l],by simp[m],by simp[o],by simp[f],by simp[j],by simp,by simp[Ng]⟩
  ·try (refine⟨by omega,?_⟩)
   exact q _ _ _ ⟨N - 1,by omega,11,st+1,rfl,by omega,by simp[r],by simp[l],by simp[m],by simp[o],by simp[f],by simp[j],by simp,by simp[Ng]⟩
 ·have hi:i=11:=by omega
  subst hi;have Q:(Ng d a b n w deep R 11 st)[9]?=some (.cells (L6 5 d a b n ⟨w.buf,w.at_,Rx n.size⟩ R) st):=by simp[Ng,L6,g2,g3,g4]
  have e0:Fp (Ng d a b n w deep R 11 st) 5 [] deep:=⟨0,.nilSl,rfl,H8.nil⟩;have S:(Ng d a b n w deep R 11 st)[6]?=some (.cells [.ptr 9 0] 1):=rfl;have n0:(Ng d a b n w deep R 11 st)[3]?=some (.cells [.i n.buf,.i n.at_,.i n.size] 0):=rfl;generalize Ng d a b n w deep R 11 st=G0 at *;generalize T:(⟨w.buf,w.at_,Rx n.size⟩:Pc)=t at *;have x:-1000000≤t.at_∧t.at_≤1000000:=by rw[←T];exact hw
  have z:0≤n.size∧n.size≤1000000:=by omega
  have F:=Q;unfold L6 at F;simp[r,l,m,o,f,j,s,S,F];refine O3 e0 (by simp) fun G1 h1 C=>?_
  have U:=C.cells (by decide) S;have n1:=C.cells (by decide) n0;have q1:=C.cells (by decide) Q;have V:=C.cells (by decide) F;simp[r,l,m,o,U,V,n1];refine Lh (p:=n) (by omega) h1 (by simp) fun G2 h2 H=>?_
  have W:=H.cells (by decide) U;have q2:=H.cells (by decide) q1;have X:=H.cells (by decide) V;simp[r,l,m,o,W,X];refine zub (by omega) h2 (by simp) fun G3 h3 I=>?_
  have Y:=I.cells (by decide) W;have q3:=I.cells (by decide) q2;have Z:=I.cells (by decide) X;simp[r,l,m,o,Y,Z];have ad:(Mh (R+10) (R+1)).length≤100:=by rw[Mh];simp[Ta,zhf]
  refine zl8 (p:=t) (by omega) x h3 (by simp;omega) fun G4 h4 J=>?_
  have L:=J.cells (by decide) Y;have q4:=J.cells (by decide) q3;have p4:=J.cells (by decide) Z;have af:(Kc t R deep).flat.length≤100:=by unfold Kc;rw[N8];split<;>simp[flat_frL]
  simp[r,l,m,o,L,p4];have ag:(Li a b t n.size R (deep+1) deep).flat.length≤100:=by
   unfold Li;rw[Hq,Hq,flat_frL,N8];split<;>simp[flat_frL,Ln,Fw,Gr]
  have ah:(Ls n t n.size R (deep+1)).flat.length≤100:=by
   unfold Ls;rw[Hq,Hq,flat_frL,N8];split<;>simp[flat_frL,Mm,Fw,Gr]
  refine Rl (fst:=[]) (cap:=[.ptr 6 0]) (B:=(Li a b t n.size R (deep+1) deep).cat (Ls n t n.size R (deep+1))) (by omega) h4 (by simp;omega) (by rw[Hq];simp;omega) (fun O aa K' M A l5 hk=>?_) fun O M A=>?_
  ·exact Ss (deep:=deep+1) (by omega) ha hb y x z (A.cells (by decide) L) (by decide) (A.cells (by decide) q4) (by decide) M (by simp at l5;omega) hk
  have z5:=A.cells (by decide) L;have q5:=A.cells (by decide) q4;have aj:(Gj deep n.size ((Li a b t n.size R (deep+1) deep).cat (Ls n t n.size R (deep+1)))).flat.length≤300:=by
   rw[N8];split
   ·simp
   ·rw[Hq];simp;omega
  simp[r,l,m,o,z5];refine Xf (by omega) E y x z q5 (by decide) M (by simp;omega) fun G6 h6 k6=>?_
  have z6:=k6.cells (by decide) z5;have q6:=k6.cells (by decide) q5;unfold L6 at q6;have hC:znh d a b n w deep R=[cK R 0,E6 (R+10) n (-1) 0]++Mh (R+10) (R+1)++((Kc t R deep).flat++((Gj deep n.size ((Li a b t n.size R (deep+1) deep).cat (Ls n t n.size R (deep+1)))).flat++(Pp d n t n.size R deep).flat)):=by
   unfold znh;rw[Ag (by simp[Y9,g2,g3,g4,g6];omega),T];unfold O2;rw[Hq,Hq,Hq,flat_frL]
  obtain⟨ao,v,e1,e2⟩:=h6;simp[-Hg,r,l,m,o,z6,q6,e1];rw[hC];simpa using ztj e2.bor
end

section
def z95:LC:=(.q [.z 2 (.move (.k 0))] (.seq (.q [.m 3 0,.z 4 (.bin .lss true 3 (.t 3) (.k 1))] (.cond (.t 4) (.q [.z 2 (.move (.k 0))] .ret) .skip)) (.q [.m 5 0,.z 6 (.bin .add true 3 (.t 5) (.k 1)),.m 2 6] .ret)))
theorem r_power_Rest:Fg Tryz.prog 47=some ⟨7,z95.r,[.tmp 2]⟩:=by kernel_rfl
theorem k_power_Rest:z95.ok=true:=by kernel_rfl
def z29:LC:=(.q [.z 4 (.move (.k 0)),.z 5 (.move (.k 0))] (.seq (.q [.m 6 0,.z 7 (.bin .lss true 3 (.t 6) (.k 1)),.m 8 7,.mn 9 8 0,.n 10 8 (.bin .gtr true 3 (.t 9) (.k 512)),.z 11 (.pick (.t 8) .T (.t 10)),.m 12 11,.mn 13 12 1,.n 14 12 (.bin .lss true 3 (.t 13) (.k 1)),.z 15 (.pick (.t 12) .T (.t 14)),.m 16 15,.mn 17 16 1,.n 18 16 (.bin .gtr true 3 (.t 17) (.k 6)),.z 19 (.pick (.t 16) .T (.t 18))] (.cond (.t 19) (.q [.z 4 (.move (.k 0)),.z 5 (.move (.k 0))] .ret) .skip)) (.q [.m 20 0,.z 21 (.bin .mul true 3 (.k 64) (.t 20)),.m 22 1,.z 23 (.bin .add false 3 (.t 21) (.t 22)),.z 24 (.bin .sub true 3 (.t 23) (.k 1)),.m 25 1,.z 26 (.bin .quo false 3 (.t 24) (.t 25)),.m 4 26] (.q [.m 27 4,.m 28 4,.m 29 1,.z 30 (.bin .mul false 3 (.t 28) (.t 29)),.m 31 0,.z 32 (.bin .mul true 3 (.k 64) (.t 31)),.z 33 (.bin .sub false 3 (.t 30) (.t 32)),.m 4 27,.m 5 33] .ret))))
theorem r_power_Windows:Fg Tryz.prog 45=some ⟨34,z29.r,[.tmp 4,.tmp 5]⟩:=by kernel_rfl
theorem k_power_Windows:z29.ok=true:=by kernel_rfl
def z5l:LC:=(.q [.z 6 (.box (.t 0)),.z 7 (.box (.t 1)),.z 8 (.box (.t 2)),.z 12 (.move (.c .nilSl))] (.q [.f 24 2 7,.l 25 24,.z 13 (.alloc [(.i 0)]),.v (.store 1 (.t 13) (.t 25))] (.seq (.seq (.draw [(.l 26 13,[]),(.z 27 (.bin .lss true 3 (.t 26) (.k 1)),[]),(.m 28 27,[]),(.n 29 28 (.fieldAddr 2 (.t 6)),[]),(.n 30 28 (.load1 (.t 29)),[]),(.n 31 28 (.load1 (.t 13)),[]),(.n 32 28 (.bin .neq false 3 (.t 30) (.t 31)),[]),(.z 33 (.pick (.t 28) .T (.t 32)),[]),(.m 34 33,[]),(.n 35 34 (.fieldAddr 2 (.t 8)),[]),(.n 36 34 (.load1 (.t 35)),[]),(.n 37 34 (.load1 (.t 13)),[]),(.n 38 34 (.w 47 [.t 37]),[(.n 36 34 (.load1 (.t 35)),false)]),(.n 39 34 (.bin .lss false 3 (.t 36) (.t 38)),[]),(.z 40 (.pick (.t 34) .T (.t 39)),[]),(.m 41 40,[]),(.mn 42 41 3,[]),(.n 43 41 (.bin .lss true 3 (.t 42) (.k 0)),[]),(.z 44 (.pick (.t 41) .T (.t 43)),[]),(.m 45 44,[]),(.mn 46 45 3,[]),(.n 47 45 (.bin .gtr true 3 (.t 46) (.k 262144)),[]),(.z 48 (.pick (.t 45) .T (.t 47)),[]),(.m 49 48,[]),(.mn 50 49 4,[]),(.mn 51 49 5,[]),(.n 52 49 (.w 67 [.t 50,.t 51]),[]),(.n 53 49 (.un .not (.t 52)),[]),(.z 54 (.pick (.t 49) .T (.t 53)),[])]) (.cond (.t 54) (.q [.z 12 (.move (.c .nilSl))] .ret) .skip)) (.q [.m 55 4,.z 56 (.build [.nilSl,(.i 0)] [(1,1,.t 55)]),.z 57 (.box (.t 56)),.z 14 (.alloc [.nilPtr]),.v (.store 1 (.t 14) (.t 57))] (.q [.z 58 (.loadN 3 (.t 8)),.l 59 13,.z 60 (.bin .add true 3 (.t 59) (.k 1)),.z 61 (.w 68 [.t 58,.k 0,.t 60]),.z 15 (.alloc [(.i 0),(.i 0),(.i 0)]),.v (.store 3 (.t 15) (.t 61))] (.q [.m 62 5,.m 63 5,.z 64 (.bin .add true 3 (.t 63) (.k 1)),.m 65 5,.z 66 (.bin .add true 3 (.t 65) (.k 2)),.m 67 5,.z 68 (.bin .add true 3 (.t 67) (.k 3)),.m 69 5,.z 70 (.bin .add true 3 (.t 69) (.k 4)),.m 71 5,.z 72 (.bin .add true 3 (.t 71) (.k 5)),.m 73 5,.z 74 (.bin .add true 3 (.t 73) (.k 6)),.z 16 (.alloc [(.i 0)]),.z 17 (.alloc [(.i 0)]),.z 18 (.alloc [(.i 0)]),.z 19 (.alloc [(.i 0)]),.z 20 (.alloc [(.i 0)]),.z 21 (.alloc [(.i 0)]),.z 22 (.alloc [(.i 0)]),.v (.store 1 (.t 16) (.t 62)),.v (.store 1 (.t 17) (.t 64)),.v (.store 1 (.t 18) (.t 66)),.v (.store 1 (.t 19) (.t 68)),.v (.store 1 (.t 20) (.t 70)),.v (.store 1 (.t 21) (.t 72)),.v (.store 1 (.t 22) (.t 74))] (.q [.z 75 (.mkFunc 102 [] [.t 14,.t 21,.t 13,.t 18,.t 15,.t 20,.t 7,.t 16]),.z 23 (.alloc [.nilFn]),.v (.store 1 (.t 23) (.t 75))] (.q [.l 76 14,.l 77 16,.z 78 (.w 69 [.t 76,.t 77,.c (.u 0)])] (.q [.l 79 14,.l 80 17,.z 81 (.w 69 [.t 79,.t 80,.c (.u 1)])] (.q [.l 82 14,.z 83 (.loadN 3 (.t 15)),.l 84 16,.z 85 (.w 72 [.t 82,.t 83,.t 84])] (.q [.l 86 14,.m 87 3,.z 88 (.bin .add true 3 (.t 87) (.k 1)),.z 89 (.mkFunc 105 [] [.t 14,.t 13,.t 18,.t 15,.t 19,.t 17,.t 23,.t 22,.t 21,.t 20]),.z 90 (.w 73 [.t 86,.t 88,.t 89])] (.q [.l 91 14,.l 92 13,.z 93 (.mkFunc 114 [] [.t 14,.t 18,.t 15,.t 6]),.z 94 (.w 73 [.t 91,.t 92,.t 93])] (.q [.l 95 14,.z 96 (.nilChk (.t 95)),.f 97 0 96,.l 98 97,.m 12 98] .ret)))))))))))))
theorem r_power_Radix:Fg Tryz.prog 49=some ⟨99,z5l.r,[.tmp 12]⟩:=by kernel_rfl
theorem k_power_Radix:z5l.ok=true:=by kernel_rfl
def z8c:LC:=(.q [.z 9 (.box (.t 0))] (.q [.l 10 1,.l 11 2,.z 12 (.w 69 [.t 10,.t 11,.c (.u 0)])] (.q [.l 13 1,.l 14 3,.z 15 (.mkFunc 103 [] [.t 1,.t 4,.t 5,.t 6,.t 7,.t 2,.t 9]),.z 16 (.w 73 [.t 13,.t 14,.t 15])] (.q [.l 17 1,.l 18 4,.z 19 (.loadN 3 (.t 5)),.l 20 3,.z 21 (.w 70 [.t 17,.t 18,.t 19,.k (-1),.t 20])] (.ops [.l 22 1,.l 23 6,.l 24 2,.l 25 4,.l 26 8,.l 27 2,.z 28 (.w 104 [.t 22,.k 12,.t 23,.t 24,.t 25,.t 26,.t 27])])))))
theorem r_power_Radix_1:Fg Tryz.prog 102=some ⟨29,z8c.r,[]⟩:=by kernel_rfl
theorem k_power_Radix_1:z8c.ok=true:=by kernel_rfl
def z6d:LC:=(.q [.l 9 1,.l 10 2,.z 11 (.loadN 3 (.t 3)),.m 12 0,.z 13 (.w 70 [.t 9,.t 10,.t 11,.t 12,.k 0])] (.q [.l 14 1,.l 15 4,.z 16 (.loadN 3 (.t 5)),.m 17 0,.z 18 (.w 70 [.t 14,.t 15,.t 16,.t 17,.k 0])] (.q [.l 19 1,.l 20 4,.l 21 6,.l 22 2,.l 23 4,.l 24 6,.z 25 (.w 104 [.t 19,.k 12,.t 20,.t 21,.t 22,.t 23,.t 24])] (.ops [.l 26 7,.m 27 0,.z 28 (.callV (.t 26) [.t 27])]))))
theorem r_power_Radix_1_1:Fg Tryz.prog 103=some ⟨29,z6d.r,[]⟩:=by kernel_rfl
theorem k_power_Radix_1_1:z6d.ok=true:=by kernel_rfl
def z8n:LC:=(.q [.l 12 1,.l 13 2,.z 14 (.bin .add true 3 (.t 13) (.k 1)),.z 15 (.mkFunc 106 [] [.t 1,.t 3,.t 4,.t 5,.t 6]),.z 16 (.w 73 [.t 12,.t 14,.t 15])] (.q [.l 17 7,.z 18 (.callV (.t 17) [(.c (.fn (.func 111) [] []))])] (.q [.l 19 1,.l 20 8,.l 21 9,.z 22 (.w 110 [.t 19,.t 20,.t 21])] (.q [.l 23 7,.z 24 (.mkFunc 112 [] [.t 1,.t 10,.t 8,.t 3,.t 4]),.z 25 (.callV (.t 23) [.t 24])] (.q [.l 26 1,.l 27 10,.l 28 8,.l 29 3,.l 30 10,.z 31 (.w 113 [.t 26,.t 27,.t 28,.t 29,.t 30])] (.q [.l 32 1,.z 33 (.loadN 3 (.t 4)),.l 34 2,.l 35 10,.z 36 (.w 109 [.t 32,.t 33,.k (-1),.t 34,.t 35])] (.ops [.l 37 1,.l 38 6,.z 39 (.w 69 [.t 37,.t 38,.c (.u 0)])])))))))
theorem r_power_Radix_2:Fg Tryz.prog 105=some ⟨40,z8n.r,[]⟩:=by kernel_rfl
theorem k_power_Radix_2:z8n.ok=true:=by kernel_rfl
def z6p:LC:=(.q [.l 7 1,.l 8 2,.z 9 (.loadN 3 (.t 3)),.m 10 0,.z 11 (.w 70 [.t 7,.t 8,.t 9,.t 10,.k 0])] (.q [.l 12 1,.l 13 4,.l 14 2,.z 15 (.w 107 [.t 12,.k 9,.t 13,.t 14,.k 63])] (.q [.l 16 1,.l 17 2,.l 18 2,.z 19 (.w 107 [.t 16,.k 8,.t 17,.t 18,.k 1])] (.q [.l 20 1,.l 21 2,.l 22 2,.l 23 5,.z 24 (.w 108 [.t 20,.k 6,.t 21,.t 22,.t 23])] (.q [.l 25 1,.z 26 (.loadN 3 (.t 3)),.m 27 0,.l 28 2,.z 29 (.w 109 [.t 25,.t 26,.t 27,.k 0,.t 28])] (.ops [.l 30 1,.l 31 5,.l 32 4,.z 33 (.w 110 [.t 30,.t 31,.t 32])]))))))
theorem r_power_Radix_2_1:Fg Tryz.prog 106=some ⟨34,z6p.r,[]⟩:=by kernel_rfl
theorem k_power_Radix_2_1:z6p.ok=true:=by kernel_rfl
def z6n:LC:=.skip
theorem r_power_Radix_2_2:Fg Tryz.prog 111=some ⟨2,z6n.r,[]⟩:=by kernel_rfl
theorem k_power_Radix_2_2:z6n.ok=true:=by kernel_rfl
def z6j:LC:=(.q [.l 7 1,.l 8 2,.l 9 3,.l 10 4,.l 11 2,.z 12 (.w 113 [.t 7,.t 8,.t 9,.t 10,.t 11])] (.ops [.l 13 1,.z 14 (.loadN 3 (.t 5)),.m 15 0,.l 16 2,.z 17 (.w 109 [.t 13,.t 14,.t 15,.k 0,.t 16])]))
theorem r_power_Radix_2_3:Fg Tryz.prog 112=some ⟨18,z6j.r,[]⟩:=by kernel_rfl
theorem k_power_Radix_2_3:z6j.ok=true:=by kernel_rfl
def z81:LC:=(.q [.l 6 1,.l 7 2,.z 8 (.loadN 3 (.t 3)),.m 9 0,.z 10 (.w 70 [.t 6,.t 7,.t 8,.t 9,.k 0])] (.ops [.l 11 1,.z 12 (.loadN 3 (.t 4)),.m 13 0,.l 14 2,.z 15 (.w 109 [.t 11,.t 12,.t 13,.k 0,.t 14])]))
theorem r_power_Radix_3:Fg Tryz.prog 114=some ⟨16,z81.r,[]⟩:=by kernel_rfl
theorem k_power_Radix_3:z81.ok=true:=by kernel_rfl
def znk (k:Int):Int:=if k<1 then 0 else k+1
theorem zk3 {G:Ev}{K:LV→Ev→Prop}{n:Int}(a:n≤1000000000)(k:K (.i (znk n)) G):Fh Tryz.prog (.fn 47) [.i n] G K:=by
 refine E8 r_power_Rest k_power_Rest (by simp) ?_;unfold znk at k;by_cases g:n<1
 ·rw[Ag g] at k;simpa [z95,g] using k
 ·rw[Ac g] at k;simp[z95,g];exact⟨by omega,k⟩
def Gc (l w:Int):Int:=if l<1∨512<l∨w<1∨6<w then 0 else (64*l+w - 1)/w
def Hs (l w:Int):Int:=if l<1∨512<l∨w<1∨6<w then 0 else Gc l w*w - 64*l
theorem z7h (l w:Int):Fq Tryz.prog 45 [.i l,.i w] (.tup [.i (Gc l w),.i (Hs l w)]) []:=by
 refine Fq.val rfl (E8 r_power_Windows k_power_Windows (by simp) ?_);by_cases g1:l<1
 ·simp[z29,Gc,Hs,g1]
 by_cases g2:512<l
 ·simp[z29,Gc,Hs,g1,g2]
 by_cases g3:w<1
 ·simp[z29,Gc,Hs,g1,g2,g3]
 by_cases g4:6<w
 ·simp[z29,Gc,Hs,g1,g2,g3,g4]
 have a:(64*l+w - 1).tdiv w=(64*l+w - 1)/w:=Int.tdiv_eq_ediv_of_nonneg (by omega);have hw:w=1∨w=2∨w=3∨w=4∨w=5∨w=6:=by omega
 have f:0≤(64*l+w - 1)/w∧(64*l+w - 1)/w≤40000∧0≤(64*l+w - 1)/w*w∧(64*l+w - 1)/w*w≤40000:=by
  rcases hw with rfl | rfl | rfl | rfl | rfl | rfl<;>omega
 simp[z29,Gc,Hs,g1,g2,g3,g4,a];generalize (64*l+w - 1)/w=q at *;omega
structure RxC (sf:Nat→Nat) (d n r:Pc) (k R:Int) (G:Ev):Prop where
 d:G[0]?=some (.cells d.f (sf 0))
 n:G[1]?=some (.cells n.f (sf 1))
 k:G[3]?=some (.cells [.i k] (sf 3))
 x:G[5]?=some (.cells [.ptr 4 0] (sf 5))
 r:G[8]?=some (.cells r.f (sf 8))
 z:G[9]?=some (.cells [.i R] (sf 9))
 b:G[10]?=some (.cells [.i (R+1)] (sf 10))
 l:G[11]?=some (.cells [.i (R+2)] (sf 11))
 o:G[12]?=some (.cells [.i (R+3)] (sf 12))
 s:G[13]?=some (.cells [.i (R+4)] (sf 13))
 c:G[14]?=some (.cells [.i (R+5)] (sf 14))
 m:G[15]?=some (.cells [.i (R+6)] (sf 15))
 t:G[16]?=some (.cells [.fn (.func 102) [] [.ptr 5 0,.ptr 14 0,.ptr 3 0,.ptr 11 0,.ptr 8 0,.ptr 13 0,.ptr 1 0,.ptr 9 0]] (sf 16))
section rx
variable {sf : Nat → Nat} {d n r : Pc} {k R deep : Int} {G G' : Ev} {K : LV → Ev → Prop} {ops : List Lo}
theorem RxC.kp (h:RxC sf d n r k R G)(q:Kp 4 G G'):RxC sf d n r k R G' :=
 ⟨q.cells (by decide) h.d,q.cells (by decide) h.n,q.cells (by decide) h.k,q.cells (by decide) h.x,q.cells (by decide) h.r,q.cells (by decide) h.z,q.cells (by decide) h.b,q.cells (by decide) h.l,q.cells (by decide) h.o,q.cells (by decide) h.s,q.cells (by decide) h.c,q.cells (by decide) h.m,q.cells (by decide) h.t⟩
structure RxN (d n r:Pc) (k R deep:Int):Prop where
 d:-1000000≤d.at_∧d.at_≤1000000
 n:-1000000≤n.at_∧n.at_≤1000000
 r:-1000000≤r.at_∧r.at_≤1000000
 k:1≤k∧k≤1000000
 D:0≤deep∧deep≤50
theorem ztb {f:Nat}{fst cap:List LV}{X:List Lo}(N:RxC sf d n r k R G)(s:RxN d n r k R deep)(h:Fp G 4 ops deep)(hl:ops.length≤700000)(hX:X.length≤10)
  (S:∀(w:Ev) (a:List Lo) (E:LV→Ev→Prop),RxC sf d n r k R w→Fp w 4 a (deep+1)→a.length≤750000→(∀x,Fp x 4 (a++X) (deep+1)→Kp 4 w x→E (.tup []) x)→Fh Tryz.prog (.fn f) (fst++.i deep::cap) w E)
  (T:∀G',Fp G' 4 (ops++(Oc n r k R deep X).flat) deep→Kp 4 G G'→K (.tup []) G') :
  Fh Tryz.prog (.fn 102) [.fn (.func f) fst cap,.ptr 5 0,.ptr 14 0,.ptr 3 0,.ptr 11 0,.ptr 8 0,.ptr 13 0,.ptr 1 0,.ptr 9 0] G K:=by
 refine E8 r_power_Radix_1 k_power_Radix_1 (by simp) ?_;have l4:16<G.length:=(Aa.1 N.t).1;have O:Kp 4 G (G++[.cells [.fn (.func f) fst cap] 0]):=Kp.app' _ _ _;have U:=h.app [.cells [.fn (.func f) fst cap] 0];have F:=N.kp O;have V:(G++[LObj.cells [.fn (.func f) fst cap] 0])[G.length]?=some (.cells [.fn (.func f) fst cap] 0):=Ax;simp[z8c];generalize G++[LObj.cells [.fn (.func f) fst cap] 0]=G0 at *;generalize G.length=z at *;have g:z≠4:=by omega
 simp[F.x,F.c];refine O3 U (by omega) fun w W H=>?_
 have D:=F.kp H;have Y:=H.cells g V;simp[D.x,D.k];refine Rl (fst:=[]) (cap:=[.ptr 5 0,.ptr 11 0,.ptr 8 0,.ptr 13 0,.ptr 1 0,.ptr 14 0,.ptr z 0]) (B:=E4 (Nh n r R deep++X)) (by have:=s.D;omega) W (by simp;omega) (by rw[flat_frL];simp[Nh];omega) (fun x P E I y Z hk=>?_) fun x I y=>?_
 ·rw[flat_frL] at hk;refine E8 r_power_Radix_1_1 k_power_Radix_1_1 (by simp) ?_;have j:=D.kp y;have e2:=y.cells g Y;have l:=j.r;have o:=j.n;unfold Pc.f at l o;simp at Z;simp[z6d,j.x,j.l,l];refine Lh (p:=r) (by have:=s.r;omega) I (by omega) fun G3 J q=>?_
  have m:=j.kp q;have e3:=q.cells g e2;have o:=m.n;unfold Pc.f at o;simp[m.x,m.s,o];refine Lh (p:=n) (by have:=s.n;omega) J (by simp;omega) fun Q L A=>?_
  have C:=m.kp A;have e4:=A.cells g e3;simp[C.x,C.s,C.c,C.l];refine z72 L (by simp;omega) fun G5 h5 M=>?_
  have c5:=C.kp M;have e5:=M.cells g e4;simp[e5];refine S G5 _ _ c5 h5 (by simp;omega) fun G6 h6 k6=>?_
  simp;refine hk G6 ?_ (q.trans (A.trans (M.trans k6)));simpa [Nh] using h6
 have j:=D.kp y;have hL:(Gj deep k (E4 (Nh n r R deep++X))).flat.length≤20:=by rw[N8];split<;>simp[flat_frL,Nh];omega
 have l:=j.r;unfold Pc.f at l;simp[j.x,j.l,j.k,l];refine Lh (p:=r) (by have:=s.r;have:=s.k;omega) I (by simp;omega) fun G3 J q=>?_
 have m:=j.kp q;simp[m.x,m.s,m.c,m.l,m.z];refine z72 J (by simp;omega) fun Q L A=>?_
 simp;refine T Q ?_ (O.trans (H.trans (y.trans (q.trans A))));unfold Oc;rw[Hq,Hq,flat_frL,flat_frL];simpa using L
theorem zcg {X:List Lo}(a:X.length≤10):(Oc n r k R deep X).flat.length≤30:=by
 unfold Oc;rw[Hq,Hq,flat_frL,flat_frL,N8];split<;>simp[flat_frL,Nh];omega
theorem zl6 {p:Pc}{n l o b D:Int}:(Q8 p n l o b D).flat.length≤10:=by
 unfold Q8;rw[N8];split<;>simp[flat_frL]
theorem rxRound_len:(Tp n r k R deep).flat.length≤100:=by
 have a:=zcg (n:=n) (r:=r) (k:=k) (R:=R) (deep:=deep) (X:=[]) (by simp);have f:=zcg (n:=n) (r:=r) (k:=k) (R:=R) (deep:=deep) (X:=[F1 (R+4) (R+6) (R+2) (R+4),Ff r deep 0 (R+4)]) (by simp);have g:=zl6 (p:=r) (n:=k+1) (l:=R+2) (o:=R+3) (b:=R+1) (D:=deep);unfold Tp;simp only[Hq,flat_frL,Aj,Ar,Bc];omega
theorem zzy {i:Int}(L:RxC sf d n r k R G)(y:RxN d n r k R deep)(h:Fp G 4 ops deep)(hl:ops.length≤600000)
  (kk:∀G',Fp G' 4 (ops++(Tp n r k R deep).flat) deep→Kp 4 G G'→K (.tup []) G') :
  Fh Tryz.prog (.fn 105) [.i i,.ptr 5 0,.ptr 3 0,.ptr 11 0,.ptr 8 0,.ptr 12 0,.ptr 10 0,.ptr 16 0,.ptr 15 0,.ptr 14 0,.ptr 13 0] G K:=by
 refine E8 r_power_Radix_2 k_power_Radix_2 (by simp) ?_;have hk:=y.k;have hD:=y.D;have hr:=y.r;simp[z8n,L.x,L.k];refine⟨by omega,?_⟩;refine Rl (fst:=[]) (cap:=[.ptr 5 0,.ptr 11 0,.ptr 8 0,.ptr 12 0,.ptr 10 0]) (B:=E4 [E6 (R+2) r deep 0,Iu 9 (R+3) (R+2) 63,Iu 8 (R+2) (R+2) 1,Ew 6 (R+2) (R+2) (R+1),Ff r deep 0 (R+2),Ik (R+1) (R+3)]) (by omega) h (by omega) (by rw[flat_frL];simp) (fun Z aa K' N M l2 z=>?_) fun Z N M=>?_
 ·rw[flat_frL] at z;refine E8 r_power_Radix_2_1 k_power_Radix_2_1 (by simp) ?_;have m:=L.kp M;have a:=m.r;unfold Pc.f at a;simp[z6p,m.x,m.l,a];refine Lh (p:=r) (by omega) N (by omega) fun O A C=>?_
  have j:=m.kp C;simp[j.x,j.o,j.l];refine z8a A (by simp;omega) fun G4 P E=>?_
  have q:=j.kp E;simp[q.x,q.o,q.l];refine z8a P (by simp;omega) fun G5 F H=>?_
  have f:=q.kp H;simp[f.x,f.b,f.l];refine Qh F (by simp;omega) fun G6 I s=>?_
  have g:=f.kp s;have a:=g.r;unfold Pc.f at a;simp[g.x,g.l,a];refine M4 (p:=r) (by omega) I (by simp;omega) fun Q J w=>?_
  have x:=g.kp w;simp[x.x,x.b,x.o];refine zcq J (by simp;omega) fun S T U=>?_
  simp;refine z S ?_ (C.trans (E.trans (H.trans (s.trans (w.trans U)))));simpa using T
 have m:=L.kp M;have ag:=zl6 (p:=r) (n:=k+1) (l:=R+2) (o:=R+3) (b:=R+1) (D:=deep);have V:Fp Z 4 (ops++(Q8 r (k+1) (R+2) (R+3) (R+1) deep).flat) deep:=N;simp[m.t];refine ztb (fst:=[]) (cap:=[]) (X:=[]) m y V (by simp;omega) (by simp) (fun O ad K' j A l3 W=>?_) fun O A C=>?_
 ·refine E8 r_power_Radix_2_2 k_power_Radix_2_2 (by simp) ?_;simp[z6n];exact W O (by simpa using A) (Kp.refl _ _)
 have j:=m.kp C;have ah:=zcg (n:=n) (r:=r) (k:=k) (R:=R) (deep:=deep) (X:=[]) (by simp);simp[j.x,j.m,j.c];refine zcq A (by simp;omega) fun G4 P E=>?_
 have q:=j.kp E;simp[q.t];refine ztb (fst:=[]) (cap:=[.ptr 5 0,.ptr 13 0,.ptr 15 0,.ptr 11 0,.ptr 8 0]) (X:=[F1 (R+4) (R+6) (R+2) (R+4),Ff r deep 0 (R+4)]) q y P (by simp;omega) (by simp) (fun G5 af K' f F l5 Y=>?_) fun G5 F H=>?_
 ·refine E8 r_power_Radix_2_3 k_power_Radix_2_3 (by simp) ?_;simp[z6j,f.x,f.s,f.m,f.l];refine zm7 F (by omega) fun G6 I s=>?_
  have g:=f.kp s;have a:=g.r;unfold Pc.f at a;simp[g.x,g.s,a];refine M4 (p:=r) (by omega) I (by simp;omega) fun Q J w=>?_
  simp;exact Y Q (by simpa using J) (s.trans w)
 have f:=q.kp H;have aj:=zcg (n:=n) (r:=r) (k:=k) (R:=R) (deep:=deep) (X:=[F1 (R+4) (R+6) (R+2) (R+4),Ff r deep 0 (R+4)]) (by simp);simp[f.x,f.s,f.m,f.l];refine zm7 F (by simp;omega) fun G6 I s=>?_
 have g:=f.kp s;have a:=g.r;unfold Pc.f at a;simp[g.x,g.s,g.k,a];refine M4 (p:=r) (by omega) I (by simp;omega) fun Q J w=>?_
 have x:=g.kp w;simp[x.x,x.b];refine O3 J (by simp;omega) fun S T U=>?_
 simp;refine kk S ?_ (M.trans (C.trans (E.trans (H.trans (s.trans (w.trans U))))));unfold Tp;simp only[Hq,flat_frL];simpa using T
theorem cpR_any (g:RxC sf d n r k R G)(l:RxN d n r k R deep)(h:Fp G 4 ops deep)(y:ops.length≤600000)
  (o:∀G',Fp G' 4 (ops++[E6 (R+2) r (deep - 1) 0,Ff d (deep - 1) 0 (R+2)]) deep→Kp 4 G G'→K (.tup []) G') :
  Fh Tryz.prog (.fn 114) [.i (deep - 1),.ptr 5 0,.ptr 11 0,.ptr 8 0,.ptr 0 0] G K:=by
 refine E8 r_power_Radix_3 k_power_Radix_3 (by simp) ?_;have a:=g.r;unfold Pc.f at a;simp[z81,g.x,g.l,a];refine Lh (p:=r) (by have:=l.r;omega) h (by omega) fun z q m=>?_
 have j:=g.kp m;have f:=j.d;unfold Pc.f at f;simp[j.x,j.l,f];refine M4 (p:=d) (by have:=l.d;omega) q (by simp;omega) fun s w x=>?_
 simp;exact o s (by simpa using w) (m.trans x)
end rx
def Mp (d n w:Pc)(bits deep R:Int):Bool:=decide (1≤n.size)&&(decide (d.size=n.size)&&(decide (znk n.size≤w.size)&&(decide (0≤bits)&&(decide (bits≤262144)&&Yu deep R))))
def rxC (d n w:Pc)(bits deep R:Int):List Lo:=if Mp d n w bits deep R=true then (Pm d n ⟨w.buf,w.at_,n.size+1⟩ n.size bits R deep).flat else []
theorem zl0 {d n r:Pc}{k bits R D:Int}:(Pm d n r k bits R D).flat.length≤200:=by
 have a:=rxRound_len (n:=n) (r:=r) (k:=k) (R:=R) (deep:=D+1);unfold Pm Kc R5;simp only[Hq,flat_frL,N8,Aj,Ar,Bc];split<;>split<;>split<;>simp[flat_frL]<;>omega
def sfR (i:Nat):Nat:=if i≤1 then 0 else 1
theorem zju {d n w:Pc}{bits deep R:Int}(m:-1000000≤d.at_∧d.at_≤1000000)(o:-1000000≤n.at_∧n.at_≤1000000)(hw:-1000000≤w.at_∧w.at_≤1000000)(hn:n.size≤1000000) :
  Ib Tryz.prog 49 [.agg d.f,.agg n.f,.agg w.f,.i bits,.i deep,.i R] (.lst (Gf (rxC d n w bits deep R)) (rxC d n w bits deep R).length 8):=by
 refine Ib.mk (by simp[LV.dat,Ju]) (E8 r_power_Radix k_power_Radix (by simp) ?_);have bad:Mp d n w bits deep R=false→rxC d n w bits deep R=[]:=fun h=>by unfold rxC;rw[h];simp
 by_cases g1:n.size<1
 ·rw[bad (by simp[Mp];omega)];simp[z5l,Pc.f,g1,Gf]
 by_cases g2:d.size=n.size
 rotate_left
 ·rw[bad (by simp[Mp];omega)];simp[z5l,Pc.f,g1,g2,Gf]
 simp[z5l,Pc.f,g1,g2];refine zk3 (by omega) ?_;have q:znk n.size=n.size+1:=by unfold znk;rw[Ac g1]
 by_cases g5:w.size<znk n.size
 ·rw[bad (by simp[Mp];omega)];simp[g5,Gf]
 by_cases g6:bits<0
 ·rw[bad (by simp[Mp];omega)];simp[g5,g6,Gf]
 by_cases D:262144<bits
 ·rw[bad (by simp[Mp];omega)];simp[g5,g6,D,Gf]
 simp[g5,g6,D];refine z76 ?_;by_cases f:Yu deep R=true
 rotate_left
 ·rw[bad (by simp[Mp,f])];simp[f,Gf]
 simp[f];have hR:16≤R∧R≤50∧0≤deep∧deep≤6:=by simp[Yu] at f;omega
 refine⟨by omega,?_⟩;refine z71 (p:=w) (by omega) ?_;simp[Pc.f]
 repeat (refine⟨by omega,?_⟩)
 refine O3 (ops:=[]) (deep:=deep) ⟨0,.nilSl,rfl,H8.nil⟩ (by simp) fun G1 J L=>?_
 have s:=RxC.kp (sf:=sfR) (d:=d) (n:=n) (r:=⟨w.buf,w.at_,n.size+1⟩) (k:=n.size) (R:=R) ⟨by simp[Pc.f,g2,sfR],rfl,rfl,rfl,rfl,rfl,rfl,rfl,rfl,rfl,rfl,rfl,rfl⟩ L;have a:RxN d n ⟨w.buf,w.at_,n.size+1⟩ n.size R (deep+1):=⟨m,o,hw,by omega,by omega⟩;generalize E:(⟨w.buf,w.at_,n.size+1⟩:Pc)=r at *;have M:r.size=n.size+1:=by rw[←E]
 simp[s.x,s.b];refine O3 J (by simp) fun G2 N O=>?_
 have j:=s.kp O;have g:=j.r;unfold Pc.f at g;simp[j.x,j.z,g];refine zl8 (p:=r) (by omega) a.r N (by simp) fun G3 P Q=>?_
 have x:=j.kp Q;have S:(Kc r R deep).flat.length≤10:=by unfold Kc;rw[N8];split<;>simp[flat_frL]
 simp[x.x];refine⟨by omega,?_⟩;refine Rl (fst:=[]) (cap:=[.ptr 5 0,.ptr 3 0,.ptr 11 0,.ptr 8 0,.ptr 12 0,.ptr 10 0,.ptr 16 0,.ptr 15 0,.ptr 14 0,.ptr 13 0]) (B:=Tp n r n.size R (deep+1)) (by omega) P (by simp;omega) (by have:=rxRound_len (n:=n) (r:=r) (k:=n.size) (R:=R) (deep:=deep+1);omega) (fun T F H y z U hk=>?_) fun T y z=>?_
 ·simp at U;exact zzy (x.kp z) a y (by omega) hk
 have l:=x.kp z;have V:(Gj deep (bits+1) (Tp n r n.size R (deep+1))).flat.length≤110:=by
  have:=rxRound_len (n:=n) (r:=r) (k:=n.size) (R:=R) (deep:=deep+1);rw[N8];split
  ·simp
  ·simp;omega
 simp[l.x,l.k];refine Rl (fst:=[]) (cap:=[.ptr 5 0,.ptr 11 0,.ptr 8 0,.ptr 0 0]) (B:=E4 [E6 (R+2) r deep 0,Ff d deep 0 (R+2)]) (by omega) y (by simp;omega) (by rw[flat_frL];simp) (fun W I H A C X hk=>?_) fun W A C=>?_
 ·rw[flat_frL] at hk;simp at X;have:=cpR_any (K:=H) (deep:=deep+1) (l.kp C) a A (by omega) (by rw[show deep+1 - 1=deep by omega];exact hk);rw[show deep+1 - 1=deep by omega] at this;exact this
 have Y:=l.kp C;obtain⟨Z,v,e1,e2⟩:=A;have hC:rxC d n w bits deep R=[cK R 0]++([cK (R+1) 1]++((Kc r R deep).flat++((Gj deep (bits+1) (Tp n r n.size R (deep+1))).flat++(Gj deep n.size (E4 [E6 (R+2) r deep 0,Ff d deep 0 (R+2)])).flat))):=by
  unfold rxC;rw[Ag (by simp[Mp,g2,f];omega),E];unfold Pm R5;rw[Hq,Hq,Hq,flat_frL];rfl
 simp[-Hg,Y.x,e1];rw[hC];simpa using ztj e2.bor
end
section
def z57:LC:=(.q [.z 5 (.box (.t 1)),.z 6 (.box (.t 2)),.z 7 (.box (.t 3))] (.draw [(.m 8 0,[]),(.z 9 (.nilChk (.t 8)),[]),(.f 10 0 9,[]),(.l 11 10,[]),(.m 12 0,[]),(.z 13 (.nilChk (.t 12)),[]),(.f 14 0 13,[]),(.l 15 14,[]),(.z 16 (.nilChk (.t 15)),[]),(.f 17 0 16,[]),(.l 18 17,[]),(.z 19 (.loadN 3 (.t 5)),[]),(.z 20 (.loadN 3 (.t 6)),[]),(.z 21 (.loadN 3 (.t 7)),[]),(.m 22 0,[]),(.z 23 (.nilChk (.t 22)),[]),(.f 24 7 23,[]),(.z 25 (.loadN 3 (.t 24)),[]),(.m 26 0,[]),(.z 27 (.nilChk (.t 26)),[]),(.f 28 22 27,[]),(.z 29 (.loadN 3 (.t 28)),[]),(.m 30 0,[]),(.z 31 (.nilChk (.t 30)),[]),(.f 32 0 31,[]),(.l 33 32,[]),(.z 34 (.nilChk (.t 33)),[]),(.f 35 1 34,[]),(.l 36 35,[]),(.m 37 0,[]),(.z 38 (.nilChk (.t 37)),[]),(.f 39 36 38,[]),(.l 40 39,[]),(.z 41 (.w 23 [.t 19,.t 20,.t 21,.t 25,.t 29,.t 36,.t 40]),[(.l 18 17,false),(.l 15 14,false),(.l 11 10,false)]),(.z 42 (.appG 8 (.t 18) (.t 41)),[(.l 11 10,false)]),(.z 43 (.nilChk (.t 11)),[]),(.f 44 0 43,[]),(.v (.store 1 (.t 44) (.t 42)),[])]))
theorem r_power_powers_mont:Fg Tryz.prog 155=some ⟨45,z57.r,[]⟩:=by kernel_rfl
theorem k_power_powers_mont:z57.ok=true:=by kernel_rfl
def z4r:LC:=(.q [.z 4 (.box (.t 1))] (.draw [(.m 6 0,[]),(.z 7 (.nilChk (.t 6)),[]),(.f 8 0 7,[]),(.l 9 8,[]),(.m 10 0,[]),(.z 11 (.nilChk (.t 10)),[]),(.f 12 0 11,[]),(.l 13 12,[]),(.z 14 (.nilChk (.t 13)),[]),(.f 15 0 14,[]),(.l 16 15,[]),(.z 17 (.loadN 3 (.t 4)),[]),(.m 18 0,[]),(.z 19 (.nilChk (.t 18)),[]),(.f 20 7 19,[]),(.z 21 (.loadN 3 (.t 20)),[]),(.m 22 0,[]),(.z 23 (.nilChk (.t 22)),[]),(.f 24 22 23,[]),(.z 25 (.loadN 3 (.t 24)),[]),(.m 26 2,[]),(.m 27 0,[]),(.z 28 (.nilChk (.t 27)),[]),(.f 29 0 28,[]),(.l 30 29,[]),(.z 31 (.nilChk (.t 30)),[]),(.f 32 1 31,[]),(.l 33 32,[]),(.m 34 0,[]),(.z 35 (.nilChk (.t 34)),[]),(.f 36 36 35,[]),(.l 37 36,[]),(.z 38 (.w 49 [.t 17,.t 21,.t 25,.t 26,.t 33,.t 37]),[(.l 16 15,false),(.l 13 12,false),(.l 9 8,false)]),(.z 39 (.appG 8 (.t 16) (.t 38)),[(.l 9 8,false)]),(.z 40 (.nilChk (.t 9)),[]),(.f 41 0 40,[]),(.v (.store 1 (.t 41) (.t 39)),[])]))
theorem r_power_powers_radix:Fg Tryz.prog 153=some ⟨42,z4r.r,[]⟩:=by kernel_rfl
theorem k_power_powers_radix:z4r.ok=true:=by kernel_rfl
def z4s:LC:=(.q [.z 4 (.alloc [(.i 0),(.i 0),(.i 0)])] (.seq (.draw [(.m 5 0,[]),(.z 6 (.nilChk (.t 5)),[]),(.f 7 25 6,[]),(.z 8 (.loadN 3 (.t 7)),[]),(.m 9 1,[]),(.m 10 0,[]),(.z 11 (.nilChk (.t 10)),[]),(.f 12 7 11,[]),(.f 13 2 12,[]),(.l 14 13,[]),(.z 15 (.bin .mul false 3 (.t 9) (.t 14)),[]),(.m 16 0,[]),(.z 17 (.nilChk (.t 16)),[]),(.f 18 7 17,[]),(.f 19 2 18,[]),(.l 20 19,[]),(.z 21 (.w 68 [.t 8,.t 15,.t 20]),[]),(.v (.store 3 (.t 4) (.t 21)),[])]) .ret))
theorem r_power_powers_entry:Fg Tryz.prog 154=some ⟨22,z4s.r,[.cellN 4 3]⟩:=by kernel_rfl
theorem k_power_powers_entry:z4s.ok=true:=by kernel_rfl
def z48:LC:=(.q [.z 3 (.box (.t 0)),.z 4 (.box (.t 1)),.z 5 (.box (.t 2))] (.draw [(.l 6 3,[]),(.z 7 (.nilChk (.t 6)),[]),(.f 8 0 7,[]),(.l 9 8,[]),(.l 10 3,[]),(.z 11 (.nilChk (.t 10)),[]),(.f 12 7 11,[]),(.f 13 2 12,[]),(.l 14 13,[]),(.z 15 (.mkFunc 182 [] [.t 3,.t 5,.t 4]),[]),(.z 16 (.w 73 [.t 9,.t 14,.t 15]),[])]))
theorem r_power_powers_copies:Fg Tryz.prog 156=some ⟨17,z48.r,[]⟩:=by kernel_rfl
theorem k_power_powers_copies:z48.ok=true:=by kernel_rfl
def z3j:LC:=(.seq (.draw [(.l 5 1,[]),(.z 6 (.nilChk (.t 5)),[]),(.f 7 0 6,[]),(.l 8 7,[]),(.l 9 1,[]),(.z 10 (.nilChk (.t 9)),[]),(.f 11 31 10,[]),(.l 12 11,[]),(.z 13 (.loadN 3 (.t 2)),[]),(.m 14 0,[]),(.z 15 (.w 70 [.t 8,.t 12,.t 13,.t 14,.k 0]),[])]) (.draw [(.l 16 1,[]),(.z 17 (.nilChk (.t 16)),[]),(.f 18 0 17,[]),(.l 19 18,[]),(.z 20 (.loadN 3 (.t 3)),[]),(.m 21 0,[]),(.l 22 1,[]),(.z 23 (.nilChk (.t 22)),[]),(.f 24 31 23,[]),(.l 25 24,[]),(.z 26 (.w 109 [.t 19,.t 20,.t 21,.k 0,.t 25]),[])]))
theorem r_power_powers_copies_1:Fg Tryz.prog 182=some ⟨27,z3j.r,[]⟩:=by kernel_rfl
theorem k_power_powers_copies_1:z3j.ok=true:=by kernel_rfl
def z51:LC:=(.q [.z 1 (.box (.t 0))] (.q [.l 3 1,.z 4 (.nilChk (.t 3)),.f 5 7 4,.f 6 2 5,.l 7 6,.z 2 (.alloc [(.i 0)]),.v (.store 1 (.t 2) (.t 7))] (.seq (.draw [(.l 8 1,[]),(.l 9 1,[]),(.l 11 2,[]),(.z 12 (.bin .mul true 3 (.k 64) (.t 11)),[]),(.z 10 (.w 154 [.t 9,.k 0]),[(.l 11 2,false),(.l 8 1,false)]),(.z 13 (.w 153 [.t 8,.t 10,.t 12]),[])]) (.seq (.draw [(.l 14 1,[]),(.l 15 1,[]),(.z 16 (.nilChk (.t 15)),[]),(.f 17 16 16,[]),(.z 18 (.loadN 3 (.t 17)),[]),(.l 19 2,[]),(.z 20 (.bin .mul true 3 (.k 128) (.t 19)),[]),(.z 21 (.w 153 [.t 14,.t 18,.t 20]),[])]) (.seq (.draw [(.l 22 1,[]),(.l 23 1,[]),(.z 24 (.nilChk (.t 23)),[]),(.f 25 13 24,[]),(.z 26 (.loadN 3 (.t 25)),[]),(.l 27 1,[]),(.z 28 (.nilChk (.t 27)),[]),(.f 29 4 28,[]),(.z 30 (.loadN 3 (.t 29)),[]),(.l 31 1,[]),(.z 32 (.nilChk (.t 31)),[]),(.f 33 16 32,[]),(.z 34 (.loadN 3 (.t 33)),[]),(.z 35 (.w 155 [.t 22,.t 26,.t 30,.t 34]),[])]) (.seq (.draw [(.l 36 1,[]),(.l 37 1,[]),(.z 38 (.nilChk (.t 37)),[]),(.f 39 10 38,[]),(.z 40 (.loadN 3 (.t 39)),[]),(.l 41 1,[]),(.z 42 (.w 154 [.t 41,.k 0]),[(.z 40 (.loadN 3 (.t 39)),false),(.l 37 1,false),(.l 36 1,false)]),(.z 43 (.w 156 [.t 36,.t 40,.t 42]),[])]) (.seq (.draw [(.l 44 1,[]),(.z 45 (.nilChk (.t 44)),[]),(.f 46 0 45,[]),(.l 47 46,[]),(.l 48 2,[]),(.z 49 (.cvInt .u64 (.t 48)),[]),(.z 50 (.w 69 [.t 47,.k 12,.t 49]),[])]) (.draw [(.l 51 1,[]),(.z 52 (.nilChk (.t 51)),[]),(.f 53 0 52,[]),(.l 54 53,[]),(.l 55 1,[]),(.z 56 (.nilChk (.t 55)),[]),(.f 57 35 56,[]),(.l 58 57,[]),(.z 59 (.bin .shl true 3 (.k 1) (.t 58)),[]),(.z 60 (.bin .sub true 3 (.t 59) (.k 1)),[]),(.z 61 (.mkFunc 157 [] [.t 1,.t 2]),[]),(.z 62 (.w 73 [.t 54,.t 60,.t 61]),[])]))))))))
theorem r_power_powers_fill:Fg Tryz.prog 98=some ⟨63,z51.r,[]⟩:=by kernel_rfl
theorem k_power_powers_fill:z51.ok=true:=by kernel_rfl
def z40:LC:=(.seq (.draw [(.l 4 1,[]),(.l 5 1,[]),(.z 6 (.nilChk (.t 5)),[]),(.f 7 10 6,[]),(.z 8 (.loadN 3 (.t 7)),[]),(.l 9 1,[]),(.z 10 (.nilChk (.t 9)),[]),(.f 11 10 10,[]),(.z 12 (.loadN 3 (.t 11)),[]),(.l 13 1,[]),(.z 14 (.nilChk (.t 13)),[]),(.f 15 13 14,[]),(.z 16 (.loadN 3 (.t 15)),[]),(.z 17 (.w 155 [.t 4,.t 8,.t 12,.t 16]),[])]) (.seq (.draw [(.l 18 1,[]),(.z 19 (.nilChk (.t 18)),[]),(.f 20 0 19,[]),(.l 21 20,[]),(.l 22 2,[]),(.z 23 (.mkFunc 158 [] [.t 1]),[]),(.z 24 (.w 73 [.t 21,.t 22,.t 23]),[])]) (.seq (.draw [(.l 25 1,[]),(.z 26 (.nilChk (.t 25)),[]),(.f 27 0 26,[]),(.l 28 27,[]),(.l 29 2,[]),(.z 30 (.cvInt .u64 (.t 29)),[]),(.z 31 (.w 69 [.t 28,.k 13,.t 30]),[])]) (.ops [.l 32 1,.z 33 (.nilChk (.t 32)),.f 34 0 33,.l 35 34,.z 36 (.w 108 [.t 35,.k 3,.k 12,.k 12,.k 13])]))))
theorem r_power_powers_fill_1:Fg Tryz.prog 157=some ⟨37,z40.r,[]⟩:=by kernel_rfl
theorem k_power_powers_fill_1:z40.ok=true:=by kernel_rfl
def z3h:LC:=(.seq (.draw [(.l 3 1,[]),(.z 4 (.nilChk (.t 3)),[]),(.f 5 0 4,[]),(.l 6 5,[]),(.l 7 1,[]),(.z 8 (.nilChk (.t 7)),[]),(.f 9 31 8,[]),(.l 10 9,[]),(.l 11 1,[]),(.z 12 (.nilChk (.t 11)),[]),(.f 13 10 12,[]),(.z 14 (.loadN 3 (.t 13)),[]),(.m 15 0,[]),(.z 16 (.w 70 [.t 6,.t 10,.t 14,.t 15,.k 0]),[])]) (.q [.l 17 1,.z 18 (.nilChk (.t 17)),.f 19 0 18,.l 20 19,.m 21 0,.z 22 (.w 108 [.t 20,.k 3,.k 13,.k 12,.t 21])] (.draw [(.l 23 1,[]),(.z 24 (.nilChk (.t 23)),[]),(.f 25 0 24,[]),(.l 26 25,[]),(.l 27 1,[]),(.z 28 (.nilChk (.t 27)),[]),(.f 29 25 28,[]),(.z 30 (.loadN 3 (.t 29)),[]),(.l 31 1,[]),(.z 32 (.nilChk (.t 31)),[]),(.f 33 31 32,[]),(.l 34 33,[]),(.z 35 (.w 109 [.t 26,.t 30,.k 13,.k 0,.t 34]),[])])))
theorem r_power_powers_fill_1_1:Fg Tryz.prog 158=some ⟨36,z3h.r,[]⟩:=by kernel_rfl
theorem k_power_powers_fill_1_1:z3h.ok=true:=by kernel_rfl
def Jl (e:Nat)(p:Pw):List LV:=[.ptr e 0,.i p.d.b,.i p.d.a,.i p.d.k,.i p.a.b,.i p.a.a,.i p.a.k,.i p.n.b,.i p.n.a,.i p.n.k,.i p.acc.b,.i p.acc.a,.i p.acc.k,.i p.base.b,.i p.base.a,.i p.base.k,.i p.cur.b,.i p.cur.a,.i p.cur.k,.i p.es.b,.i p.es.a,.i p.es.k,.i p.t.b,.i p.t.a,.i p.t.k,.i p.tab.b,.i p.tab.a,.i p.tab.k,
 .i p.B,.i ((p.B:Int)+1),.i ((p.B:Int)+2),.i ((p.B:Int)+3),.i ((p.B:Int)+4),.i ((p.B:Int)+5),.i ((p.B:Int)+6),.i p.w,.i ((p.B:Int)+10)]
structure PwN (p:Pw):Prop where
 nk:p.n.k=p.k
 dk:p.d.k=p.k
 ak:p.a.k=p.k
 k:1≤p.k∧p.k≤512
 d:p.d.a≤1000000
 a:p.a.a≤1000000
 b:p.b.a≤1000000∧1≤p.b.k∧p.b.k≤512
 n:p.n.a≤1000000
 w:1≤p.w∧p.w≤6
 B:16≤p.B∧p.B≤40
 wa:p.wa≤100000
 ov:p.over≤63
 ti:p.times≤100000
theorem Me {d t:Int}{b:Fr Lo}{m:Nat}(h:b.flat.length≤m):(Gj d t b).flat.length≤m+2:=by
 rw[N8];split
 ·simp
 ·simp;omega
theorem zsd {d a b n t:Pc}{k R D:Int}:(O2 d a b n t k R D).flat.length≤200:=by
 have g:=Me (d:=D+1) (t:=k) (b:=E4 (Ln a t R (D+1))) (m:=8) (by simp[flat_frL,Ln,Fw]);have h:=Me (d:=D+1) (t:=k - 1) (b:=E4 (Mm n t R (D+1))) (m:=8) (by simp[flat_frL,Mm,Fw]);have j:=Me (d:=D) (t:=k) (b:=(Li a b t k R (D+1) D).cat (Ls n t k R (D+1))) (m:=60) (by
  unfold Li Ls;simp only[Hq,flat_frL,Fw,Gr,Aj,Ar,Bc];omega)
 have l:=Me (d:=D) (t:=t.size) (b:=E4 [Ff t D 0 R]) (m:=1) (by simp[flat_frL]);have o:=Me (d:=D) (t:=k) (b:=E4 (L9 n t R D++[])) (m:=3) (by simp[flat_frL,L9]);have q:=Me (d:=D) (t:=k) (b:=E4 (L9 n t R D++[F1 (R+6) (R+10) (R+7) (R+6),Ff d D 0 (R+6)])) (m:=5) (by simp[flat_frL,L9]);have f:=zon (R+10) (R+1);unfold O2 Pp N0 Kc;simp only[Hq,flat_frL,Aj,Ar,Bc,f];omega
section put
variable {G : Ev} {K : LV → Ev → Prop} {e P st : Nat} {ops : List Lo} {deep : Int} {p : Pw}
theorem zfv {x:Nat}(h:x≤1000000):-1000000≤(x:Int)∧(x:Int)≤1000000:=by omega
theorem zeo {d a b:Pn}(f:PwN p)(O:0≤deep∧deep≤6)(hd:d.a≤1000000)(A:a.a≤1000000)(B:b.a≤1000000)(Q:d.k=p.k)(S:a.k=p.k)(kb:b.k=p.k)(y:G[P]?=some (.cells (Jl e p) st))(h:Fp G e ops deep)(T:ops.length≤900000)
  (k:∀G',Fp G' e (ops++(p.mont d a b deep).flat) deep→Kp e G G'→K (.tup []) G'):Fh Tryz.prog (.fn 155) [.ptr P 0,.agg d.p.f,.agg a.p.f,.agg b.p.f] G K:=by
 refine E8 r_power_powers_mont k_power_powers_mont (by simp) ?_;obtain⟨x,v,z,C⟩:=h;have le:e<G.length:=(Aa.1 z).1;have E:P<G.length:=(Aa.1 y).1;have F:=zft p;have j:p.t.a≤1000000:=by have:=f.wa;have:=f.k;have:=f.b;simp only[Pw.t];omega
 have l:=zev (d:=d.p) (a:=a.p) (b:=b.p) (n:=p.n.p) (w:=p.t.p) (deep:=deep) (R:=(p.B:Int)+10) (zfv hd) (zfv A) (zfv B) (zfv f.n) (zfv j) (by have:=f.k;have:=f.nk;show (p.n.k:Int)≤_;omega);have H:znh d.p a.p b.p p.n.p p.t.p deep ((p.B:Int)+10)=(p.mont d a b deep).flat:=by
  have hk:=f.k;have I:=f.nk;have U:=f.B;have hm:Rx p.n.p.size=p.t.k:=by unfold Rx;rw[Ac (by show ¬(p.n.k:Int)<1;omega)];show (p.n.k:Int)+2=((p.k+2:Nat):Int);omega
  unfold znh;rw[Ag (by simp[Y9,Yu,hm];refine⟨?_,?_,?_,?_,?_,by omega⟩<;>simp only[Pn.p]<;>omega),hm];unfold Pw.mont;rw[show p.n.p.size=(p.k:Int) by simp only[Pn.p];omega];rfl
 rw[H] at l;have g:∀x:List LObj,(G++x)[P]?=_:=fun x=>(E5 E).trans y
 have m:∀x:List LObj,(G++x)[e]?=_:=fun x=>(E5 le).trans z
 have o:∀x,Kp e G (G++x):=fun x=>Kp.app' e G x
 unfold Jl at g;simp[z57,Pn.p,Pc.f,↓g,↓m];simp only[Pn.p,Pc.f] at l;refine L8 l (by simp[dats,LV.dat]) ?_;simp[↓g,↓m];have hlen:=zsd (d:=d.p) (a:=a.p) (b:=b.p) (n:=p.n.p) (t:=p.t.p) (k:=p.k) (R:=(p.B:Int)+10) (D:=deep);refine⟨by show (p.mont d a b deep).flat.length≤_;unfold Pw.mont;omega,?_⟩;refine zmb (m _) C.push_end (by omega) fun V W r J L M s=>?_
 have N:=s P _ (fun _ _ _ _ q=>by cases q) (g _);simp[-LV.cells,r,J,N,↓g];exact k _ L ((o _).trans M)
theorem zn5 {d:Pn}{bits:Int}(a:PwN p)(L:0≤deep∧deep≤6)(hd:d.a≤1000000)(M:d.k=p.k)(N:0≤bits∧bits≤262144)(y:G[P]?=some (.cells (Jl e p) st))(h:Fp G e ops deep)(O:ops.length≤900000)
  (k:∀G',Fp G' e (ops++(p.radix d bits deep).flat) deep→Kp e G G'→K (.tup []) G'):Fh Tryz.prog (.fn 153) [.ptr P 0,.agg d.p.f,.i bits] G K:=by
 refine E8 r_power_powers_radix k_power_powers_radix (by simp) ?_;obtain⟨x,v,z,A⟩:=h;have le:e<G.length:=(Aa.1 z).1;have B:P<G.length:=(Aa.1 y).1;have g:p.t.a≤1000000:=by have:=a.wa;have:=a.k;have:=a.b;simp only[Pw.t];omega
 have j:=zju (d:=d.p) (n:=p.n.p) (w:=p.t.p) (bits:=bits) (deep:=deep) (R:=(p.B:Int)+10) (zfv hd) (zfv a.n) (zfv g) (by have:=a.k;have:=a.nk;show (p.n.k:Int)≤_;omega);have C:rxC d.p p.n.p p.t.p bits deep ((p.B:Int)+10)=(p.radix d bits deep).flat:=by
  have hk:=a.k;have E:=a.nk;have Q:=a.B;have hm:znk p.n.p.size=p.k+1:=by unfold znk;rw[Ac (by show ¬(p.n.k:Int)<1;omega)];show (p.n.k:Int)+1=_;omega
  unfold rxC;rw[Ag (by simp[Mp,Yu,hm];refine⟨?_,?_,?_,by omega,by omega,by omega⟩<;>simp only[Pn.p,Pw.t]<;>omega)];unfold Pw.radix;rw[show p.n.p.size=(p.k:Int) by simp only[Pn.p];omega];rfl
 rw[C] at j;have f:∀x:List LObj,(G++x)[P]?=_:=fun x=>(E5 B).trans y
 have l:∀x:List LObj,(G++x)[e]?=_:=fun x=>(E5 le).trans z
 have m:∀x,Kp e G (G++x):=fun x=>Kp.app' e G x
 unfold Jl at f;simp[z4r,Pn.p,Pc.f,↓f,↓l];simp only[Pn.p,Pc.f] at j;refine L8 j (by simp[dats,LV.dat]) ?_;simp[↓f,↓l];have hlen:=zl0 (d:=d.p) (n:=p.n.p) (r:=p.r.p) (k:=p.k) (bits:=bits) (R:=(p.B:Int)+10) (D:=deep);refine⟨by show (p.radix d bits deep).flat.length≤_;unfold Pw.radix;omega,?_⟩;refine zmb (l _) A.push_end (by omega) fun S T o F H I s=>?_
 have J:=s P _ (fun _ _ _ _ q=>by cases q) (f _);simp[-LV.cells,o,F,J,↓f];exact k _ H ((m _).trans I)
theorem zi4 (a:PwN p)(h:G[P]?=some (.cells (Jl e p) st))(k:∀x,K (.agg p.ent.p.f) (G++x)):Fh Tryz.prog (.fn 154) [.ptr P 0,.i 0] G K:=by
 refine E8 r_power_powers_entry k_power_powers_entry (by simp) ?_;have j:P<G.length:=(Aa.1 h).1;have f:∀x:List LObj,(G++x)[P]?=_:=fun x=>(E5 j).trans h
 have l:p.tab.a≤1000000:=by have:=a.wa;have:=a.k;have:=a.b;simp only[Pw.tab];omega
 have hk:=a.k;have g:=a.nk;unfold Jl at f;simp[z4s,↓f];refine z71 (p:=p.tab.p) (by simp only[Pn.p];omega) ?_;simp[↓f,Pc.f,Pn.p];have m:p.ent.p.f=[.i (p.tab.b:Int),.i (p.tab.a:Int),.i (p.n.k:Int)]:=by
  simp only[Pc.f,Pn.p,Pw.ent,g]
 have d:=k [LObj.cells [.i (p.tab.b:Int),.i (p.tab.a:Int),.i (p.n.k:Int)] 1,LObj.cells [.i (p.tab.b:Int),.i (p.tab.a:Int),.i (p.tab.k:Int)] 0,LObj.cells [.i (p.tab.b:Int),.i (p.tab.a:Int),.i (p.n.k:Int)] 1];rw[m] at d;simpa using d
theorem zkj {to fr:Pn}(M:PwN p)(V:0≤deep∧deep≤50)(W:to.a≤1000000)(X:fr.a≤1000000)(C:G[P]?=some (.cells (Jl e p) st))(a:P≠e)(h:Fp G e ops deep)(Y:ops.length≤800000)
  (k:∀G',Fp G' e (ops++(p.copies to fr deep).flat) deep→Kp e G G'→K (.tup []) G'):Fh Tryz.prog (.fn 156) [.ptr P 0,.agg to.p.f,.agg fr.p.f] G K:=by
 refine E8 r_power_powers_copies k_power_powers_copies (by simp) ?_;have le:e<G.length:=by obtain⟨_,_,h,_⟩:=id h;exact (Aa.1 h).1
 have Z:P<G.length:=(Aa.1 C).1;have m:=M.nk;have o:(G++[LObj.cells [.ptr P 0] 0,LObj.cells to.p.f 0,LObj.cells fr.p.f 0])[G.length]?=some (.cells [.ptr P 0] 0):=by simp
 have D:(G++[LObj.cells [.ptr P 0] 0,LObj.cells to.p.f 0,LObj.cells fr.p.f 0])[G.length+1]?=some (.cells to.p.f 0):=by simp
 have E:(G++[LObj.cells [.ptr P 0] 0,LObj.cells to.p.f 0,LObj.cells fr.p.f 0])[G.length+2]?=some (.cells fr.p.f 0):=by simp
 have F:=h.app [LObj.cells [.ptr P 0] 0,LObj.cells to.p.f 0,LObj.cells fr.p.f 0];have q:=Kp.app' e G [LObj.cells [.ptr P 0] 0,LObj.cells to.p.f 0,LObj.cells fr.p.f 0];have H:=q.cells a C;have f:G.length≠e:=by omega
 have g:G.length+1≠e:=by omega
 have r:G.length+2≠e:=by omega
 unfold Pc.f Pn.p at D E o F q H;simp[z48,Pc.f,Pn.p];generalize G++[LObj.cells [.ptr P 0] 0,LObj.cells [.i (to.b:Int),.i (to.a:Int),.i (to.k:Int)] 0,LObj.cells [.i (fr.b:Int),.i (fr.a:Int),.i (fr.k:Int)] 0]=G0 at *;generalize G.length+2=w at *;generalize G.length+1=y at *;generalize G.length=z at *;have d:=H;unfold Jl at d;simp[o,d,m];refine Rl (fst:=[]) (cap:=[.ptr z 0,.ptr w 0,.ptr y 0]) (B:=E4 [E6 (p.B+3) fr.p deep 0,Ff to.p deep 0 (p.B+3)]) (by omega) F (by omega) (by rw[flat_frL];simp) (fun G3 I K' N j l3 hk=>?_) fun s x A=>?_
 ·rw[flat_frL] at hk;refine E8 r_power_powers_copies_1 k_power_powers_copies_1 (by simp) ?_;have J:=j.cells f o;have O:=j.cells g D;have Q:=j.cells r E;have L:=j.cells a d;simp[z3j,J,Q,L];refine Lh (p:=fr.p) (by simp only[Pn.p];omega) N (by omega) fun G4 R l=>?_
  have S:=l.cells f J;have T:=l.cells g O;have U:=l.cells a L;simp[S,T,U];refine M4 (p:=to.p) (by simp only[Pn.p];omega) R (by simp;omega) fun s x A=>?_
  simp;exact hk s (by simpa using x) (l.trans A)
 simp;exact k s x (q.trans A)
theorem Zj {p:Pw}{d a b:Pn}{D:Int}:(p.mont d a b D).flat.length≤200:=zsd
theorem z9x {p:Pw}{d:Pn}{bits D:Int}:(p.radix d bits D).flat.length≤200:=zl0
theorem zcs {p:Pw}{a b:Pn}{D:Int}:(p.copies a b D).flat.length≤4:=Me (m:=2) (by simp[flat_frL])
theorem ziq (a:PwN p):p.acc.a≤1000000∧p.base.a≤1000000∧p.cur.a≤1000000∧p.es.a≤1000000∧p.t.a≤1000000∧p.tab.a≤1000000∧p.ent.a≤1000000:=by
 have d:=a.wa;have f:=a.k;have g:=a.b;simp only[Pw.acc,Pw.base,Pw.cur,Pw.es,Pw.t,Pw.tab,Pw.ent];omega
theorem zxu {z q:Nat}{i:Int}{sz W:Nat}(A:PwN p)(hD:0≤deep∧deep≤5)(L:G[z]?=some (.cells [.ptr P 0] sz))(g:z≠e)(X:G[q]?=some (.cells [.i p.k] W))(l:q≠e)(C:G[P]?=some (.cells (Jl e p) st))(f:P≠e)(h:Fp G e ops (deep+1))(hl:ops.length≤700000)
  (k:∀G',Fp G' e (ops++(p.fillR deep).flat) (deep+1)→Kp e G G'→K (.tup []) G'):Fh Tryz.prog (.fn 157) [.i i,.ptr z 0,.ptr q 0] G K:=by
 refine E8 r_power_powers_fill_1 k_power_powers_fill_1 (by simp) ?_;obtain⟨M,Y,w3,w4,w5,w6,w7⟩:=ziq A;have hk:=A.k;have E:=C;unfold Jl at E;simp[z40,L,E];refine zeo (d:=p.acc) (a:=p.acc) (b:=p.base) A (by omega) M M Y rfl rfl rfl C h (by omega) fun G1 Z o=>?_
 have aa:=Zj (p:=p) (d:=p.acc) (a:=p.acc) (b:=p.base) (D:=deep+1);have F:=o.cells g L;have N:=o.cells l X;have P1:=o.cells f C;have H:=o.cells f E;simp[F,N,H];refine Rl (fst:=[]) (cap:=[.ptr z 0]) (B:=E4 [E6 (p.B+3) p.acc.p (deep+1) 0,Ew 3 13 12 (deep+1),Ff p.tab.p 13 0 (p.B+3)]) (by omega) Z (by simp;omega) (by rw[flat_frL];simp) (fun G3 O K' h3 Q l3 r=>?_) fun G2 h2 w=>?_
 ·rw[flat_frL] at r;refine E8 r_power_powers_fill_1_1 k_power_powers_fill_1_1 (by simp) ?_;simp at l3;have R:=Q.cells g F;have S:=Q.cells f H;simp[z3h,R,S];refine Lh (p:=p.acc.p) (by simp only[Pn.p];omega) h3 (by omega) fun G4 I j=>?_
  have x:=j.cells g R;have y:=j.cells f S;simp[x,y];refine Qh I (by simp;omega) fun T J s=>?_
  have z5:=s.cells g x;have p5:=s.cells f y;simp[z5,p5];refine M4 (p:=p.tab.p) (by simp only[Pn.p];omega) J (by simp;omega) fun G6 h6 k6=>?_
  simp;exact r G6 (by simpa using h6) (j.trans (s.trans k6))
 have ad:=Me (d:=deep+1) (t:=p.k) (b:=E4 [E6 (p.B+3) p.acc.p (deep+1) 0,Ew 3 13 12 (deep+1),Ff p.tab.p 13 0 (p.B+3)]) (m:=3) (by simp[flat_frL]);have U:=w.cells g F;have q2:=w.cells l N;have V:=w.cells f H;simp[U,q2,V];refine O3 h2 (by simp;omega) fun G4 I j=>?_
 have x:=j.cells g U;have y:=j.cells f V;simp[x,y];refine Qh I (by simp;omega) fun T J s=>?_
 simp;refine k T ?_ (o.trans (w.trans (j.trans s)));unfold Pw.fillR;simp only[Hq,flat_frL];simpa using J
theorem zjj {p:Pw}{D:Int}:(p.fillR D).flat.length≤210:=by
 have f:=Zj (p:=p) (d:=p.acc) (a:=p.acc) (b:=p.base) (D:=D+1);have g:=Me (d:=D+1) (t:=p.k) (b:=E4 [E6 (p.B+3) p.acc.p (D+1) 0,Ew 3 13 12 (D+1),Ff p.tab.p 13 0 (p.B+3)]) (m:=3) (by simp[flat_frL]);unfold Pw.fillR;simp only[Hq,flat_frL,Aj,Ar,Bc];omega
theorem Vw (l:PwN p)(hD:0≤deep∧deep≤4)(J:G[P]?=some (.cells (Jl e p) st))(f:P≠e)(h:Fp G e ops deep)(hl:ops.length≤600000)
  (k:∀G',Fp G' e (ops++(p.fill deep).flat) deep→Kp e G G'→K (.tup []) G'):Fh Tryz.prog (.fn 98) [.ptr P 0] G K:=by
 refine E8 r_power_powers_fill k_power_powers_fill (by simp) ?_;obtain⟨w1,w2,Z,w4,w5,w6,w7⟩:=ziq l;have hk:=l.k;have O:=l.nk;have hw:=l.w;have le:e<G.length:=by obtain⟨_,_,h,_⟩:=id h;exact (Aa.1 h).1
 have lP:P<G.length:=(Aa.1 J).1;have s:(G++[LObj.cells [.ptr P 0] 0,LObj.cells [.i 0] 0])[P]?=_:=(E5 lP).trans J;have w:(G++[LObj.cells [.ptr P 0] 0])[P]?=_:=(E5 lP).trans J;unfold Jl at s w;have Q:(G++[LObj.cells [.ptr P 0] 0,LObj.cells [.i p.k] 1])[G.length]?=some (.cells [.ptr P 0] 0):=by simp
 have R:(G++[LObj.cells [.ptr P 0] 0,LObj.cells [.i p.k] 1])[G.length+1]?=some (.cells [.i p.k] 1):=by simp
 have h0:=h.app [LObj.cells [.ptr P 0] 0,LObj.cells [.i p.k] 1];have k0:=Kp.app' e G [LObj.cells [.ptr P 0] 0,LObj.cells [.i p.k] 1];have L:=k0.cells f J;have g:G.length≠e:=by omega
 have j:G.length+1≠e:=by omega
 simp[z51,↓s,↓w,O];generalize G++[LObj.cells [.ptr P 0] 0,LObj.cells [.i (p.k:Int)] 1]=x at *;generalize G.length+1=q at *;generalize G.length=z at *;have p0:=L;unfold Jl at p0;refine⟨by omega,?_⟩;refine zi4 l L fun o=>?_
 have z1:(x++o)[z]?=_:=(E5 (Aa.1 Q).1).trans Q;have q1:(x++o)[q]?=_:=(E5 (Aa.1 R).1).trans R;have S:(x++o)[P]?=_:=(E5 (Aa.1 L).1).trans L;have h1:=h0.app o;have k1:=Kp.app' e x o;generalize x++o=G1 at *;have T:=S;unfold Jl at T;simp[Q,R,z1,q1,T];refine zn5 (d:=p.ent) l (by omega) w7 rfl (by omega) S h1 (by omega) fun G2 h2 y=>?_
 have ad:=z9x (p:=p) (d:=p.ent) (bits:=64*p.k) (D:=deep);have z2:=y.cells g z1;have q2:=y.cells j q1;have P2:=y.cells f S;have p2:=y.cells f T;simp[z2,q2,p2];refine⟨by omega,?_⟩;refine zn5 (d:=p.cur) l (by omega) Z rfl (by omega) P2 h2 (by simp;omega) fun G3 h3 A=>?_
 have af:=z9x (p:=p) (d:=p.cur) (bits:=128*p.k) (D:=deep);have z3:=A.cells g z2;have q3:=A.cells j q2;have P3:=A.cells f P2;have p3:=A.cells f p2;simp[z3,q3,p3];refine zeo (d:=p.base) (a:=p.a) (b:=p.cur) l (by omega) w2 l.a Z rfl l.ak rfl P3 h3 (by simp;omega) fun C h4 E=>?_
 have ag:=Zj (p:=p) (d:=p.base) (a:=p.a) (b:=p.cur) (D:=deep);have M:=E.cells g z3;have N:=E.cells j q3;have U:=E.cells f P3;have p4:=E.cells f p3;simp[M,N,p4];refine zi4 l U fun r=>?_
 have z5:(C++r)[z]?=_:=(E5 (Aa.1 M).1).trans M;have q5:(C++r)[q]?=_:=(E5 (Aa.1 N).1).trans N;have V:(C++r)[P]?=_:=(E5 (Aa.1 U).1).trans U;have h5:=h4.app r;have k5:=Kp.app' e C r;generalize C++r=G5 at *;have W:=V;unfold Jl at W;simp[M,N,p4,z5,q5,W];refine zkj (to:=p.acc) (fr:=p.ent) l (by omega) w1 w7 V f h5 (by simp;omega) fun G6 h6 F=>?_
 have ah:=zcs (p:=p) (a:=p.acc) (b:=p.ent) (D:=deep);have z6:=F.cells g z5;have q6:=F.cells j q5;have P6:=F.cells f V;have p6:=F.cells f W;simp[z6,q6,p6];refine O3 h6 (by simp;omega) fun G7 h7 H=>?_
 have z7:=H.cells g z6;have q7:=H.cells j q6;have P7:=H.cells f P6;have p7:=H.cells f p6;have aj:=Te hw.2;have ao:0<2^p.w:=Dz _;have m:((2:Int)^p.w)=((2^p.w:Nat):Int):=by simp
 simp[z7,q7,p7];refine⟨by omega,by rw[m];omega,by rw[m];omega,?_⟩;rw[m,show ((2^p.w:Nat):Int) - 1=((2^p.w - 1:Nat):Int) by omega];refine Rl (fst:=[]) (cap:=[.ptr z 0,.ptr q 0]) (B:=p.fillR deep) (by omega) h7 (by simp;omega) (by have:=zjj (p:=p) (D:=deep);omega) (fun G8 aa K' X I l8 Y=>?_) fun G8 X I=>?_
 ·simp at l8;exact zxu l (by omega) (I.cells g z7) g (I.cells j q7) j (I.cells f P7) f X (by omega) Y
 simp;refine k G8 ?_ (k0.trans (k1.trans (y.trans (A.trans (E.trans (k5.trans (F.trans (H.trans I))))))));unfold Pw.fill;simp only[Hq,flat_frL];simpa using X
end put
end
end Go.Proofs.YtodjkjimaheggaaGreat
end
