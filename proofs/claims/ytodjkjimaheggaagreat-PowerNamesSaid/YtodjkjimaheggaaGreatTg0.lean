/- The templates: see the main text. -/
import Derived.Test.YtodjkjimaheggaaGreatSvG2
import Derived.Test.YtodjkjimaheggaaGreatProg
import Derived.KernelRfl
import Derived.Test.YtodjkjimaheggaaGreatSvG3
import Derived.Test.YtodjkjimaheggaaGreatSvG4
set_option linter.defProp false
noncomputable section
namespace Go.Proofs.YtodjkjimaheggaaGreat
open Go.Sv
set_option linter.unusedSimpArgs false
set_option maxRecDepth 10000
abbrev F4 := Hg Tryz.prog
abbrev H6 := La Tryz.prog
abbrev F1 := Js Tryz.prog
def Og:LC:=(.q [.z 2 (.move (.k 0)),.z 3 (.move .F)] (.seq (.q [.m 4 0] (.block 0 (.q [.z 6 (.bin .eql true 3 (.t 4) (.k 1)),.m 5 6] (.cond (.t 5) (.q [.z 2 (.move (.k 1)),.z 3 (.move .T)] .ret) (.q [.z 8 (.bin .eql true 3 (.t 4) (.k 2)),.m 7 8] (.cond (.t 7) (.q [.z 2 (.move (.k 5)),.z 3 (.move .T)] .ret) (.seq (.q [.z 10 (.bin .eql true 3 (.t 4) (.k 3)),.m 9 10] (.cond (.t 9) .skip (.q [.z 11 (.bin .eql true 3 (.t 4) (.k 4)),.m 9 11] (.cond (.t 9) .skip (.q [.z 12 (.bin .eql true 3 (.t 4) (.k 5)),.m 9 12] (.cond (.t 9) .skip (.q [.z 13 (.bin .eql true 3 (.t 4) (.k 6)),.m 9 13] (.cond (.t 9) .skip (.ops [.z 14 (.bin .eql true 3 (.t 4) (.k 7)),.m 9 14]))))))))) (.cond (.t 9) (.q [.z 2 (.move (.k 13)),.z 3 (.move .T)] .ret) (.seq (.q [.z 16 (.bin .eql true 3 (.t 4) (.k 8)),.m 15 16] (.cond (.t 15) .skip (.q [.z 17 (.bin .eql true 3 (.t 4) (.k 10)),.m 15 17] (.cond (.t 15) .skip (.q [.z 18 (.bin .eql true 3 (.t 4) (.k 11)),.m 15 18] (.cond (.t 15) .skip (.q [.z 19 (.bin .eql true 3 (.t 4) (.k 12)),.m 15 19] (.cond (.t 15) .skip (.ops [.z 20 (.bin .eql true 3 (.t 4) (.k 13)),.m 15 20]))))))))) (.cond (.t 15) (.q [.z 2 (.move (.k 29)),.z 3 (.move .T)] .ret) (.q [.z 22 (.bin .eql true 3 (.t 4) (.k 9)),.m 21 22] (.cond (.t 21) (.q [.z 2 (.move (.k 21)),.z 3 (.move .T)] .ret) (.q [.z 24 (.bin .eql true 3 (.t 4) (.k 14)),.m 23 24] (.cond (.t 23) (.q [.z 2 (.move (.k 19)),.z 3 (.move .T)] .ret) (.seq (.q [.z 26 (.bin .eql true 3 (.t 4) (.k 15)),.m 25 26] (.cond (.t 25) .skip (.ops [.z 27 (.bin .eql true 3 (.t 4) (.k 16)),.m 25 27]))) (.cond (.t 25) (.q [.z 2 (.move (.k 0)),.z 3 (.move .T)] .ret) .skip)))))))))))))))) (.q [.z 2 (.move (.k 0)),.z 3 (.move .F)] .ret)))
def r_lengths_shape:Fg Tryz.prog 187=some ⟨28,Og.r,[.tmp 2,.tmp 3]⟩:=by kernel_rfl
def zl:LC:=(.q [.z 1 (.box (.t 0)),.z 2 (.move .F)] (.seq (.q [.f 3 0 1,.l 4 3] (.block 0 (.q [.z 6 (.bin .eql true 3 (.t 4) (.k 1)),.m 5 6] (.cond (.t 5) (.q [.z 2 (.move .T)] .ret) (.q [.z 8 (.bin .eql true 3 (.t 4) (.k 13)),.m 7 8] (.cond (.t 7) (.q [.f 9 6 1,.l 10 9,.z 11 (.bin .geq true 23 (.t 10) (.c (.u 1))),.m 12 11,.y 13 12 (.fieldAddr 6 (.t 1)),.y 14 12 (.load1 (.t 13)),.y 15 12 (.bin .leq true 23 (.t 14) (.c (.u 6))),.z 16 (.pick (.t 12) (.t 15) .F),.m 2 16] .ret) (.q [.z 18 (.bin .eql true 3 (.t 4) (.k 15)),.m 17 18] (.cond (.t 17) (.q [.f 19 6 1,.l 20 19,.z 21 (.bin .geq true 23 (.t 20) (.c (.u 1))),.m 22 21,.y 23 22 (.fieldAddr 6 (.t 1)),.y 24 22 (.load1 (.t 23)),.y 25 22 (.bin .leq true 23 (.t 24) (.c (.u 4096))),.z 26 (.pick (.t 22) (.t 25) .F),.m 2 26] .ret) .skip)))))))) (.q [.f 27 6 1,.l 28 27,.z 29 (.bin .eql true 23 (.t 28) (.c (.u 0))),.m 2 29] .ret)))
def r_lengths_number:Fg Tryz.prog 188=some ⟨30,zl.r,[.tmp 2]⟩:=by kernel_rfl
def zb3:LC:=(.q [.z 1 (.box (.t 0)),.z 2 (.alloc [(.i 0),(.i 0),(.i 0),(.i 0),(.i 0)])] (.q [.f 3 1 1,.l 4 3,.f 5 2 1,.l 6 5,.f 7 3 1,.l 8 7,.f 9 4 1,.l 10 9,.f 11 5 1,.l 12 11,.z 13 (.build [(.i 0),(.i 0),(.i 0),(.i 0),(.i 0)] [(0,1,.t 4),(1,1,.t 6),(2,1,.t 8),(3,1,.t 10),(4,1,.t 12)]),.v (.store 5 (.t 2) (.t 13))] .ret))
def r_lengths_parts:Fg Tryz.prog 189=some ⟨14,zb3.r,[.cellN 2 5]⟩:=by kernel_rfl
def zbn:LC:=(.q [.z 1 (.box (.t 0)),.z 2 (.move .F)] (.q [.f 3 2 1,.l 4 3,.z 5 (.bin .eql true 3 (.t 4) (.k 1)),.m 6 5,.n 7 6 (.fieldAddr 2 (.t 1)),.n 8 6 (.load1 (.t 7)),.n 9 6 (.bin .eql true 3 (.t 8) (.k 2)),.z 10 (.pick (.t 6) .T (.t 9)),.m 2 10] .ret))
def r_lengths_given:Fg Tryz.prog 167=some ⟨11,zbn.r,[.tmp 2]⟩:=by kernel_rfl
def z6e:LC:=(.q [.z 3 (.move .F)] (.q [.m 4 0,.z 5 (.bin .geq true 3 (.t 4) (.k 0)),.m 6 5,.my 7 6 0,.y 8 6 (.load1 (.t 1)),.y 9 6 (.lenSl (.t 8)),.y 10 6 (.bin .lss false 3 (.t 7) (.t 9)),.z 11 (.pick (.t 6) (.t 10) .F),.m 3 11] .ret))
def r_lengths_need_1:Fg Tryz.prog 186=some ⟨12,z6e.r,[.tmp 3]⟩:=by kernel_rfl
def xa:LC:=(.q [.z 2 (.box (.t 0)),.z 3 (.box (.t 1)),.z 4 (.move .F)] (.q [.z 6 (.mkFunc 186 [] [.t 2]),.m 5 6] (.seq (.q [.f 7 1 3,.l 8 7,.z 9 (.bin .neq true 3 (.t 8) (.k (-1))),.m 10 9,.n 11 10 (.fieldAddr 2 (.t 3)),.n 12 10 (.load1 (.t 11)),.n 13 10 (.bin .neq true 3 (.t 12) (.k (-1))),.z 14 (.pick (.t 10) .T (.t 13)),.m 15 14,.n 16 15 (.fieldAddr 5 (.t 3)),.n 17 15 (.load1 (.t 16)),.n 18 15 (.bin .neq true 3 (.t 17) (.k (-1))),.z 19 (.pick (.t 15) .T (.t 18)),.m 20 19,.mn 21 20 5,.n 22 20 (.fieldAddr 3 (.t 3)),.n 23 20 (.load1 (.t 22)),.n 24 20 (.callV (.t 21) [.t 23]),.n 25 20 (.un .not (.t 24)),.z 26 (.pick (.t 20) .T (.t 25))] (.cond (.t 26) (.q [.z 4 (.move .F)] .ret) .skip)) (.seq (.q [.f 27 6 3,.l 28 27] (.block 0 (.q [.z 30 (.bin .eql true 23 (.t 28) (.c (.u 2))),.m 29 30] (.cond (.t 29) (.q [.m 31 5,.f 32 4 3,.l 33 32,.z 34 (.callV (.t 31) [.t 33]),.m 4 34] .ret) (.seq (.q [.z 36 (.bin .eql true 23 (.t 28) (.c (.u 1))),.m 35 36] (.cond (.t 35) .skip (.ops [.z 37 (.bin .eql true 23 (.t 28) (.c (.u 3))),.m 35 37]))) (.cond (.t 35) (.q [.f 38 4 3,.l 39 38,.z 40 (.bin .eql true 3 (.t 39) (.k (-1))),.m 4 40] .ret) .skip)))))) (.q [.z 4 (.move .F)] .ret)))))
def r_lengths_need:Fg Tryz.prog 166=some ⟨41,xa.r,[.tmp 4]⟩:=by kernel_rfl
def z3x:LC:=(.q [.z 4 (.move (.k 0))] (.seq (.q [.m 6 0,.z 7 (.lenSl (.t 6)),.z 8 (.move (.k 0))] (.block 0 (.loop (.q [.z 9 (.bin .lss false 3 (.t 8) (.t 7))] (.seq (.cond (.t 9) .skip (.exit 0)) (.seq (.block 1 (.q [.m 10 8,.m 5 10] (.q [.m 11 1,.m 12 0,.m 13 5,.z 14 (.ixAddr 1 (.t 12) (.t 13)),.l 15 14,.z 16 (.callV (.t 11) [.t 15])] (.cond (.t 16) (.q [.m 17 5,.m 4 17] .ret) .skip)))) (.ops [.z 18 (.bin .add true 3 (.t 8) (.k 1)),.m 8 18]))))))) (.q [.z 4 (.move (.k (-1)))] .ret)))
def r_slices_IndexFunc_int_int:Fg Tryz.prog 192=some ⟨19,z3x.r,[.tmp 4]⟩:=by kernel_rfl
def z30:LC:=(.q [.z 4 (.move .F)] (.q [.m 5 0,.m 6 1,.z 7 (.w 192 [.t 5,.t 6]),.z 8 (.bin .geq true 3 (.t 7) (.k 0)),.m 4 8] .ret))
def r_slices_ContainsFunc_int_int:Fg Tryz.prog 169=some ⟨9,z30.r,[.tmp 4]⟩:=by kernel_rfl
def wy (a b:Bool):J6 Tryz.prog false 4 (.bool a) (.bool b)=some (a==b):=by cases a<;>cases b<;>kernel_rfl
def zgf (k:Int):F4 187 [.i k] (.tup [.i (((Jj k).getD 0:Nat):Int),.bool (Jj k).isSome]) []:=by
 refine Hg.val rfl (E9 r_lengths_shape (by kernel_rfl) (by simp) ?_);by_cases m:k=1;· subst m;simp[Og,Jj]
 by_cases o:k=2;· subst o;simp[Og,Jj]
 by_cases p:k=3;· subst p;simp[Og,Jj]
 by_cases q:k=4;· subst q;simp[Og,Jj]
 by_cases r:k=5;· subst r;simp[Og,Jj]
 by_cases s:k=6;· subst s;simp[Og,Jj]
 by_cases w:k=7;· subst w;simp[Og,Jj]
 by_cases x:k=8;· subst x;simp[Og,Jj]
 by_cases y:k=9;· subst y;simp[Og,Jj]
 by_cases a:k=10;· subst a;simp[Og,Jj]
 by_cases d:k=11;· subst d;simp[Og,Jj]
 by_cases f:k=12;· subst f;simp[Og,Jj]
 by_cases g:k=13;· subst g;simp[Og,Jj]
 by_cases h:k=14;· subst h;simp[Og,Jj]
 by_cases j:k=15;· subst j;simp[Og,Jj]
 by_cases l:k=16;· subst l;simp[Og,Jj]
 simp[Og,Jj,m,o,p,q,r,s,w,x,y,a,d,f,g,h,j,l]
def zf8 (o:Ko):F4 188 [.agg o.f] (.bool (Km o)) []:=by
 refine Hg.val rfl (E9 r_lengths_number (by kernel_rfl) (by simp) ?_);by_cases a:o.kind=1;· simp[zl,Ko.f,Km,a]
 by_cases d:o.kind=13
 ·by_cases g:1≤o.imm<;>simp[zl,Ko.f,Km,a,d,g]
 by_cases f:o.kind=15
 ·by_cases g:1≤o.imm<;>simp[zl,Ko.f,Km,a,d,f,g]
 simp[zl,Ko.f,Km,a,d,f]
def zae (o:Ko):F4 189 [.agg o.f] (.agg [.i o.d,.i o.e,.i o.a,.i o.b,.i o.c]) []:=by
 refine Hg.val rfl (E9 r_lengths_parts (by kernel_rfl) (by simp) ?_);simp[zb3,Ko.f]
def zai (v:Vr):F4 167 [.agg v.f] (.bool (Kc v)) []:=by
 refine Hg.val rfl (E9 r_lengths_given (by kernel_rfl) (by simp) ?_);by_cases a:v.mode=1<;>simp[zbn,Vr.f,Kc,a]
def zku {G:Ev}{p n st:Nat}{c:List LV}(v:Int){K:LV→Ev→Prop}(a:G[p]?=some (.cells [.lst c n 3] st))(k:K (.bool (Rp n v)) G):F1 (.fn 186) [.i v,.ptr p 0] G K:=by
 refine E9 r_lengths_need_1 (by kernel_rfl) (by simp) ?_;by_cases d:0≤v
 ·by_cases f:v<n<;>simp[z6e,a,Rp,d,f] at k ⊢<;>exact k
 ·simp[z6e,a,Rp,d] at k ⊢;exact k
def zbg (c:List LV)(n:Nat)(o:Ko):F4 166 [.lst c n 3,.agg o.f] (.bool (Pd n o)) []:=by
 refine Hg.val rfl (E9 r_lengths_need (by kernel_rfl) (by simp) ?_);by_cases a:o.d=-1
 case neg=>simp[xa,Ko.f,Pd,a]
 by_cases d:o.e=-1
 case neg=>simp[xa,Ko.f,Pd,a,d]
 by_cases f:o.c=-1
 case neg=>simp[xa,Ko.f,Pd,a,d,f]
 simp[xa,Ko.f,a,d,f];refine zku o.a rfl ?_;cases g:Rp n o.a with
 |false=>simp[Pd,g]
 |true =>
  by_cases i2:o.imm=2
  ·simp[i2];refine zku o.b rfl ?_;simp[Pd,a,d,f,g,i2]
  by_cases i1:o.imm=1
  ·simp[Pd,a,d,f,g,i2,i1]
  by_cases i3:o.imm=3
  ·simp[Pd,a,d,f,g,i2,i1,i3]
  simp[Pd,a,d,f,g,i2,i1,i3]
def zer {G:Ev}{l:List Int}{f:Nat}{a b:List LV}{p:Int→Bool}{K:LV→Ev→Prop}(B:l.length≤9223372036854775807)
  (A:∀v∈l,∀x:LV→Ev→Prop,x (.bool (p v)) G→F1 (.fn f) (a++[.i v]++b) G x) (k:K (.i (S0 p l)) G):F1 (.fn 192) [.lst (l.map .i) l.length 1,.fn (.func f) a b] G K:=by
 refine E9 r_slices_IndexFunc_int_int (by kernel_rfl) (by simp) ?_;simp[z3x];refine Iw (fun ρ D G' N=>∃i:Nat,D=[]∧G'=G∧N+i=l.length∧lk ρ 0=.lst (l.map .i) l.length 1∧lk ρ 1=.fn (.func f) a b∧lk ρ 7=.i l.length∧lk ρ 8=.i i∧∀j b,j<i→l[j]?=some b→p b=false) (N:=l.length) ⟨0,by simp⟩ ?_;rintro N ρ D G' ⟨i,rfl,rfl,C,h,m,o,q,r⟩ E s;by_cases hi:l.length≤i
 ·have g:¬i<l.length:=by omega
  simp[h,m,o,q,g];rw[←ztg hi r];exact k
 ·have g:i<l.length:=by omega
  have w:=Ah g;simp[h,m,o,q,g];simp[Fu (Vo (f:=LV.i) w)];have y:=A l[i] (Dw g);simp only[Br,List.singleton_append] at y;refine y _ ?_;cases z:p l[i] with
  |true =>
   simp;rw[←Wv w z r];exact k
  |false =>
   simp[q];refine⟨by omega,s _ _ _ ⟨N - 1,by omega,i+1,rfl,rfl,by omega,by simp[h],by simp[m],by simp[o],by simp,fun j b F d=>?_⟩⟩;by_cases e:j=i
   ·subst e;rw[w] at d;cases d;exact z
   ·exact r j b (by omega) d
def z6g {G:Ev}{l:List Int}{f:Nat}{a b:List LV}{p:Int→Bool}{K:LV→Ev→Prop}(g:l.length≤9223372036854775807)
  (h:∀v∈l,∀d:LV→Ev→Prop,d (.bool (p v)) G→F1 (.fn f) (a++[.i v]++b) G d) (k:K (.bool (l.any p)) G):F1 (.fn 169) [.lst (l.map .i) l.length 1,.fn (.func f) a b] G K:=by
 refine E9 r_slices_ContainsFunc_int_int (by kernel_rfl) (by simp) ?_;simp[z30];refine zer g h ?_;simp;rw[zyg];exact k
def zao:LC:=(.q [.z 0 (.move (.c .nilMap))] (.q [.z 1 (.move (.c (.fn (.func 207) [] [])))] (.q [.z 2 (.mkMap0),.v (.mapUpd (.int .i64) (.t 2) (.k 6) (.c (.fn (.func 208) [] []))),.v (.mapUpd (.int .i64) (.t 2) (.k 14) (.c (.fn (.func 209) [] []))),.v (.mapUpd (.int .i64) (.t 2) (.k 8) (.c (.fn (.func 210) [] []))),.v (.mapUpd (.int .i64) (.t 2) (.k 9) (.c (.fn (.func 211) [] []))),.m 3 1,.v (.mapUpd (.int .i64) (.t 2) (.k 10) (.t 3)),.m 4 1,.v (.mapUpd (.int .i64) (.t 2) (.k 11) (.t 4)),.m 5 1,.v (.mapUpd (.int .i64) (.t 2) (.k 12) (.t 5)),.v (.mapUpd (.int .i64) (.t 2) (.k 13) (.c (.fn (.func 212) [] []))),.m 6 2,.m 0 6] .ret)))
def r_lengths_alike:Fg Tryz.prog 198=some ⟨7,zao.r,[.tmp 0]⟩:=by kernel_rfl
def z9b:LC:=(.q [.z 1 (.box (.t 0)),.z 2 (.move (.c .nilSl))] (.q [.f 3 1 1,.l 4 3,.f 5 3 1,.l 6 5,.f 7 4 1,.l 8 7,.f 9 5 1,.l 10 9,.z 11 (.buildSl 1 4 [(.i 0),(.i 0),(.i 0),(.i 0)] [(0,1,.t 4),(1,1,.t 6),(2,1,.t 8),(3,1,.t 10)]),.m 2 11] .ret))
def r_lengths_alike_1:Fg Tryz.prog 207=some ⟨12,z9b.r,[.tmp 2]⟩:=by kernel_rfl
def z95:LC:=(.q [.z 1 (.box (.t 0)),.z 2 (.move (.c .nilSl))] (.q [.f 3 3 1,.l 4 3,.f 5 4 1,.l 6 5,.z 7 (.buildSl 1 2 [(.i 0),(.i 0)] [(0,1,.t 4),(1,1,.t 6)]),.m 2 7] .ret))
def r_lengths_alike_2:Fg Tryz.prog 208=some ⟨8,z95.r,[.tmp 2]⟩:=by kernel_rfl
def z8w:LC:=(.q [.z 1 (.box (.t 0)),.z 2 (.move (.c .nilSl))] (.q [.f 3 1 1,.l 4 3,.f 5 2 1,.l 6 5,.z 7 (.buildSl 1 2 [(.i 0),(.i 0)] [(0,1,.t 4),(1,1,.t 6)]),.m 2 7] .ret))
def r_lengths_alike_3:Fg Tryz.prog 209=some ⟨8,z8w.r,[.tmp 2]⟩:=by kernel_rfl
def z8t:LC:=(.q [.z 1 (.box (.t 0)),.z 2 (.move (.c .nilSl))] (.q [.f 3 1 1,.l 4 3,.f 5 3 1,.l 6 5,.f 7 4 1,.l 8 7,.z 9 (.buildSl 1 3 [(.i 0),(.i 0),(.i 0)] [(0,1,.t 4),(1,1,.t 6),(2,1,.t 8)]),.m 2 9] .ret))
def r_lengths_alike_4:Fg Tryz.prog 210=some ⟨10,z8t.r,[.tmp 2]⟩:=by kernel_rfl
def z8u:LC:=(.q [.z 1 (.box (.t 0)),.z 2 (.move (.c .nilSl))] (.q [.f 3 1 1,.l 4 3,.f 5 5 1,.l 6 5,.z 7 (.buildSl 1 2 [(.i 0),(.i 0)] [(0,1,.t 4),(1,1,.t 6)]),.m 2 7] .ret))
def r_lengths_alike_5:Fg Tryz.prog 211=some ⟨8,z8u.r,[.tmp 2]⟩:=by kernel_rfl
def z92:LC:=(.q [.z 1 (.box (.t 0)),.z 2 (.move (.c .nilSl))] (.q [.f 3 1 1,.l 4 3,.f 5 3 1,.l 6 5,.f 7 5 1,.l 8 7,.z 9 (.buildSl 1 3 [(.i 0),(.i 0),(.i 0)] [(0,1,.t 4),(1,1,.t 6),(2,1,.t 8)]),.m 2 9] .ret))
def r_lengths_alike_6:Fg Tryz.prog 212=some ⟨10,z92.r,[.tmp 2]⟩:=by kernel_rfl
def z93:LC:=(.q [.z 4 (.move .F)] (.seq (.draw [(.l 5 1,[]),(.m 6 0,[]),(.z 7 (.ixAddr 3 (.t 5) (.t 6)),[]),(.f 8 0 7,[]),(.l 9 8,[]),(.l 10 1,[]),(.l 11 2,[]),(.z 12 (.ixAddr 1 (.t 11) (.k 0)),[]),(.l 13 12,[]),(.z 14 (.ixAddr 3 (.t 10) (.t 13)),[]),(.f 15 0 14,[]),(.l 16 15,[]),(.z 17 (.bin .neq false 3 (.t 9) (.t 16)),[]),(.m 4 17,[])]) .ret))
def r_lengths_agree_1:Fg Tryz.prog 199=some ⟨18,z93.r,[.tmp 4]⟩:=by kernel_rfl
def Yo:LC:=(.q [.z 2 (.box (.t 0)),.z 3 (.box (.t 1)),.z 4 (.move .F)] (.seq (.draw [(.f 10 0 3,[]),(.l 11 10,[]),(.z 9 (.w 198 []),[(.l 11 10,false)]),(.z 12 (.lookup (.int .i64) .nilFn true (.t 9) (.t 11)),[]),(.m 8 12,[]),(.z 13 (.extract 0 (.t 8)),[]),(.z 14 (.extract 1 (.t 8)),[]),(.m 5 13,[]),(.m 6 14,[])]) (.seq (.q [.m 15 6,.z 16 (.un .not (.t 15))] (.cond (.t 16) (.q [.z 4 (.move .T)] .ret) .skip)) (.q [.m 17 5,.z 18 (.loadN 7 (.t 3)),.z 19 (.callV (.t 17) [.t 18]),.z 7 (.alloc [.nilSl]),.v (.store 1 (.t 7) (.t 19))] (.q [.l 20 7,.z 21 (.mkFunc 199 [] [.t 2,.t 7]),.z 22 (.w 169 [.t 20,.t 21]),.z 23 (.un .not (.t 22)),.m 4 23] .ret)))))
def r_lengths_agree:Fg Tryz.prog 191=some ⟨24,Yo.r,[.tmp 4]⟩:=by kernel_rfl
def Xw:List (LV×LV×Nat):=[(.i 6,.fn (.func 208) [] [],0),(.i 14,.fn (.func 209) [] [],1),(.i 8,.fn (.func 210) [] [],2),(.i 9,.fn (.func 211) [] [],3),(.i 10,.fn (.func 207) [] [],4),(.i 11,.fn (.func 207) [] [],5),(.i 12,.fn (.func 207) [] [],6),(.i 13,.fn (.func 212) [] [],7)]
def cx {G:Ev}{K:LV→Ev→Prop}(k:K (.map G.length) (G++[.map Xw 8 8])):F1 (.fn 198) [] G K:=by
 refine E9 r_lengths_alike (by kernel_rfl) (by simp) ?_;simp[zao];exact k
def zfj (o:Ko):H6 207 [.agg o.f] (.lst ([o.d,o.a,o.b,o.c].map .i) 4 1):=by
 refine La.mk (by simp[LV.dat,dats]) (E9 r_lengths_alike_1 (by kernel_rfl) (by simp) ?_);simp[z9b,Ko.f,He,bor]
def zuw (o:Ko):H6 208 [.agg o.f] (.lst ([o.a,o.b].map .i) 2 1):=by
 refine La.mk (by simp[LV.dat,dats]) (E9 r_lengths_alike_2 (by kernel_rfl) (by simp) ?_);simp[z95,Ko.f,He,bor]
def zug (o:Ko):H6 209 [.agg o.f] (.lst ([o.d,o.e].map .i) 2 1):=by
 refine La.mk (by simp[LV.dat,dats]) (E9 r_lengths_alike_3 (by kernel_rfl) (by simp) ?_);simp[z8w,Ko.f,He,bor]
def zu0 (o:Ko):H6 210 [.agg o.f] (.lst ([o.d,o.a,o.b].map .i) 3 1):=by
 refine La.mk (by simp[LV.dat,dats]) (E9 r_lengths_alike_4 (by kernel_rfl) (by simp) ?_);simp[z8t,Ko.f,He,bor]
def zuk (o:Ko):H6 211 [.agg o.f] (.lst ([o.d,o.c].map .i) 2 1):=by
 refine La.mk (by simp[LV.dat,dats]) (E9 r_lengths_alike_5 (by kernel_rfl) (by simp) ?_);simp[z8u,Ko.f,He,bor]
def zu3 (o:Ko):H6 212 [.agg o.f] (.lst ([o.d,o.a,o.c].map .i) 3 1):=by
 refine La.mk (by simp[LV.dat,dats]) (E9 r_lengths_alike_6 (by kernel_rfl) (by simp) ?_);simp[z92,Ko.f,He,bor]
def ai (vs:List Vr)(v:Int):Prop:=0≤v∧v<vs.length
def ai.at {vs:List Vr}{v:Int}(h:ai vs v):∃k:Nat,v=k∧k<vs.length∧vs[k]?=some (gv vs v.toNat):=by
 obtain⟨k,rfl⟩:=Af h.1;have h2:=h.2;exact⟨k,rfl,by omega,by rw[A9];exact Nq (by omega)⟩
def zrd {G:Ev}{p q st d:Nat}{vs:List Vr}{L:List Int}(v:Int){K:LV→Ev→Prop}(f:G[p]?=some (.cells [.lst (Hq vs) vs.length 3] st))(g:G[q]?=some (.cells [.lst (L.map .i) L.length 1] d))
  (hv:ai vs v) (h:ai vs (L.headD 0)) (r:L≠[]) (k:K (.bool (decide (Jw vs v≠Jw vs (L.headD 0)))) G):F1 (.fn 199) [.i v,.ptr p 0,.ptr q 0] G K:=by
 refine E9 r_lengths_agree_1 (by kernel_rfl) (by simp) ?_;cases L with
 |nil=>exact absurd rfl r
 |cons y L =>
  simp only[List.headD_cons] at h k;obtain⟨a,rfl,j,s⟩:=hv.at;obtain⟨b,rfl,l,w⟩:=h.at;have m:=zj s;have o:=zj w;simp only[A9] at m o;simp only[Jw,A9] at k;simp[z93,f,g,j,l];simp[Fu m,Fu o,f,g,j,l];rw[←decide_not];exact k
def zrb (L:List Int)(x:Int→Int)(y:Int):(!(L.any fun v=>decide (x v≠y)))=L.all fun v=>decide (x v=y):=by
 induction L with
 |nil=>rfl
 |cons a L d =>
  simp only[List.any_cons,Ct,Bool.not_or,d];by_cases h:x a=y<;>simp[h]
def zag (vs:List Vr)(o:Ko)(hv:∀v∈J0 o,ai vs v):F4 191 [.lst (Hq vs) vs.length 3,.agg o.f] (.bool (Xv vs o)) []:=by
 refine Hg.val rfl (E9 r_lengths_agree (by kernel_rfl) (by simp) ?_);have d:o.f=[.i o.kind,.i o.d,.i o.e,.i o.a,.i o.b,.i o.c,.u o.imm]:=rfl;have fin:∀L:List Int,L≠[]→J0 o=L→∀{G:Ev} {p q st w:Nat} {K:LV→Ev→Prop},G[p]?=some (.cells [.lst (Hq vs) vs.length 3] st)→G[q]?=some (.cells [.lst (L.map .i) L.length 1] w)→K (.bool (!Xv vs o)) G →
   F1 (.fn 169) [.lst (L.map .i) L.length 1,.fn (.func 199) [] [.ptr p 0,.ptr q 0]] G K:=by
  intro L x he G p q st w K z A k;rw[he] at hv;have B:ai vs (L.headD 0):=by
   cases L with
   |nil=>exact absurd rfl x
   |cons y L=>exact hv y (B5 ..)
  have C:L.length≤9223372036854775807:=by
   rw[←he];unfold J0;repeat' split
   all_goals simp
  refine z6g (p:=fun v=>decide (Jw vs v≠Jw vs (L.headD 0))) C (fun v hm D k'=>zrd v z A (hv v hm) B x k') ?_;have:=zrb L (Jw vs) (Jw vs (L.headD 0));rw[←Bool.not_not (L.any _),this];rw[Xv,he] at k;exact k
 by_cases m:o.kind=6
 ·have he:J0 o=[o.a,o.b]:=by simp[J0,m]
  simp[Yo,d,m];refine cx ?_;simp[Xw];have a:=zuw o;rw[d,m] at a;refine Jo a rfl ?_;simp;refine fin [o.a,o.b] (by simp) he rfl rfl ?_;simp
 by_cases f:o.kind=14
 ·have he:J0 o=[o.d,o.e]:=by simp[J0,f]
  simp[Yo,d,f];refine cx ?_;simp[Xw];have a:=zug o;rw[d,f] at a;refine Jo a rfl ?_;simp;refine fin [o.d,o.e] (by simp) he rfl rfl ?_;simp
 by_cases r:o.kind=8
 ·have he:J0 o=[o.d,o.a,o.b]:=by simp[J0,r]
  simp[Yo,d,r];refine cx ?_;simp[Xw];have a:=zu0 o;rw[d,r] at a;refine Jo a rfl ?_;simp;refine fin [o.d,o.a,o.b] (by simp) he rfl rfl ?_;simp
 by_cases s:o.kind=9
 ·have he:J0 o=[o.d,o.c]:=by simp[J0,s]
  simp[Yo,d,s];refine cx ?_;simp[Xw];have a:=zuk o;rw[d,s] at a;refine Jo a rfl ?_;simp;refine fin [o.d,o.c] (by simp) he rfl rfl ?_;simp
 by_cases g:o.kind=10
 ·have he:J0 o=[o.d,o.a,o.b,o.c]:=by simp[J0,g]
  simp[Yo,d,g];refine cx ?_;simp[Xw];have a:=zfj o;rw[d,g] at a;refine Jo a rfl ?_;simp;refine fin [o.d,o.a,o.b,o.c] (by simp) he rfl rfl ?_;simp
 by_cases h:o.kind=11
 ·have he:J0 o=[o.d,o.a,o.b,o.c]:=by simp[J0,h]
  simp[Yo,d,h];refine cx ?_;simp[Xw];have a:=zfj o;rw[d,h] at a;refine Jo a rfl ?_;simp;refine fin [o.d,o.a,o.b,o.c] (by simp) he rfl rfl ?_;simp
 by_cases j:o.kind=12
 ·have he:J0 o=[o.d,o.a,o.b,o.c]:=by simp[J0,j]
  simp[Yo,d,j];refine cx ?_;simp[Xw];have a:=zfj o;rw[d,j] at a;refine Jo a rfl ?_;simp;refine fin [o.d,o.a,o.b,o.c] (by simp) he rfl rfl ?_;simp
 by_cases l:o.kind=13
 ·have he:J0 o=[o.d,o.a,o.c]:=by simp[J0,l]
  simp[Yo,d,l];refine cx ?_;simp[Xw];have a:=zu3 o;rw[d,l] at a;refine Jo a rfl ?_;simp;refine fin [o.d,o.a,o.c] (by simp) he rfl rfl ?_;simp
 have he:J0 o=[]:=by simp[J0,m,f,r,s,g,h,j,l]
 simp[Yo,d,m,f,r,s,g,h,j,l];refine cx ?_;simp[Xw,m,f,r,s,g,h,j,l];simp[Xv,he]
def z57:LC:=(.q [.z 2 (.move (.c .nilSl))] (.seq (.q [.m 3 0,.z 4 (.bin .eql true 60 (.t 3) (.c .nilSl))] (.cond (.t 4) (.q [.z 2 (.move (.c .nilSl))] .ret) .skip)) (.q [.z 5 (.buildSl 1 0 [] []),.m 6 0,.z 7 (.appG 1 (.t 5) (.t 6)),.m 2 7] .ret)))
def r_slices_Clone_int_int:Fg Tryz.prog 194=some ⟨8,z57.r,[.tmp 2]⟩:=by kernel_rfl
def z3l:LC:=(.q [.z 4 (.move (.c .nilSl))] (.q [.m 8 0,.m 9 1,.z 10 (.w 192 [.t 8,.t 9]),.m 5 10] (.seq (.q [.m 11 5,.z 12 (.bin .eql true 3 (.t 11) (.k (-1)))] (.cond (.t 12) (.q [.m 13 0,.m 4 13] .ret) .skip)) (.seq (.q [.m 14 5,.z 15 (.bin .add true 3 (.t 14) (.k 1)),.m 6 15] (.block 0 (.loop (.seq (.q [.m 16 6,.m 17 0,.z 18 (.lenSl (.t 17)),.z 19 (.bin .lss false 3 (.t 16) (.t 18))] (.cond (.t 19) .skip (.exit 0))) (.seq (.block 1 (.q [.m 22 0,.m 23 6,.z 24 (.ixAddr 1 (.t 22) (.t 23)),.l 25 24,.m 7 25] (.q [.m 26 1,.m 27 7,.z 28 (.callV (.t 26) [.t 27]),.z 29 (.un .not (.t 28))] (.cond (.t 29) (.q [.m 30 0,.m 31 5,.m 32 7,.z 33 (.ixAddr 1 (.t 30) (.t 31)),.v (.store 1 (.t 33) (.t 32))] (.ops [.m 34 5,.z 35 (.bin .add true 3 (.t 34) (.k 1)),.m 5 35])) .skip)))) (.ops [.m 20 6,.z 21 (.bin .add true 3 (.t 20) (.k 1)),.m 6 21])))))) (.q [.m 36 0,.m 37 5,.z 38 (.slSl 1 (.t 36) (some (.t 37)) none),.v (.clear 1 [(.i 0)] (.t 38))] (.q [.m 39 0,.m 40 5,.z 41 (.slSl 1 (.t 39) none (some (.t 40))),.m 4 41] .ret))))))
def r_slices_DeleteFunc_int_int:Fg Tryz.prog 193=some ⟨42,z3l.r,[.tmp 4]⟩:=by kernel_rfl
def z8q:LC:=(.q [.z 2 (.move .F)] (.q [.m 3 0,.z 4 (.bin .lss true 3 (.t 3) (.k 0)),.m 2 4] .ret))
def r_lengths_takes_1:Fg Tryz.prog 195=some ⟨5,z8q.r,[.tmp 2]⟩:=by kernel_rfl
def zax:LC:=(.q [.z 1 (.box (.t 0)),.z 2 (.move (.c .nilSl))] (.q [.z 5 (.loadN 7 (.t 1)),.z 6 (.w 189 [.t 5]),.z 3 (.alloc [(.i 0),(.i 0),(.i 0),(.i 0),(.i 0)]),.v (.store 5 (.t 3) (.t 6))] (.q [.z 7 (.slArr 5 1 (.t 3) (some (.k 2)) none),.z 8 (.w 194 [.t 7]),.z 9 (.w 193 [.t 8,(.c (.fn (.func 195) [] []))]),.m 4 9] (.seq (.q [.f 10 0 1,.l 11 10,.z 12 (.bin .eql true 3 (.t 11) (.k 14))] (.cond (.t 12) (.ops [.m 13 4,.f 14 1 1,.l 15 14,.f 16 2 1,.l 17 16,.z 18 (.buildSl 1 2 [(.i 0),(.i 0)] [(0,1,.t 15),(1,1,.t 17)]),.z 19 (.appG 1 (.t 13) (.t 18)),.m 4 19]) .skip)) (.q [.m 20 4,.m 2 20] .ret)))))
def r_lengths_takes:Fg Tryz.prog 170=some ⟨21,zax.r,[.tmp 2]⟩:=by kernel_rfl
def sl_nil:J6 Tryz.prog true 60 .nilSl .nilSl=some true:=by kernel_rfl
def zzz {G:Ev}{l:List Int}{K:LV→Ev→Prop}(a:l.length≤1048576)(d:l≠[])(k:K (.dy G.length 1) (G++[.dyn (l.map .i) l.length 1 1 1])):F1 (.fn 194) [.lst (l.map .i) l.length 1] G K:=by
 refine E9 r_slices_Clone_int_int (by kernel_rfl) (by simp) ?_;simp[z57,sl_nil,a,d];exact k
def zlc {l:List Int}{f:Nat}{p:Int→Bool}(a:l.length≤9223372036854775807)
  (d:∀v∈l,F4 f [.i v] (.bool (p v)) []):F4 192 [.lst (l.map .i) l.length 1,.fn (.func f) [] []] (.i (S0 p l)) [] :=
 Hg.val rfl (zer a (fun v hv g k=>by
  simp only[D0,Bx];exact E5 (d v hv) (bors_self _ rfl) k) rfl)
def zk6 {G:Ev}{q k st:Nat}{l:List Int}{f:Nat}{p:Int→Bool}{K:LV→Ev→Prop}(O:l.length≤9223372036854775807)(B:G[q]?=some (.dyn (l.map .i) l.length 1 k st))
  (L:∀v,F4 f [.i v] (.bool (p v)) []) (P:l.filter (fun v=>!p v)=l→K (.dy q k) G)
  (Q:∀(m:Nat) (R:List LV) (a:Nat),m=(l.filter (fun v=>!p v)).length→R.length=l.length→R.take m=(l.filter (fun v=>!p v)).map .i→dats R=true→K (.vw q k 0 m) (G.set q (.dyn R l.length 1 k a))) :
  F1 (.fn 193) [.dy q k,.fn (.func f) [] []] G K:=by
 refine E9 r_slices_DeleteFunc_int_int (by kernel_rfl) (by simp) ?_;have C:q<G.length:=(Aa.1 B).1;have E:∀l:List Int,dats (l.map .i)=true:=fun l=>uc (fun _=>rfl) l
 have d:∀ob,(G.set q ob)[q]?=some ob:=fun ob=>Ag C
 have h:G.set q (.dyn (l.map .i) l.length 1 k st)=G:=zsh B;simp[z3l];refine E5 (zlc O fun v _=>L v) (by simp[bors,bor,LV.dat,dats,B,E]) ?_;rcases zz6 p l with ⟨F,z⟩|⟨i0,F,S,z⟩
 ·simp[F];exact P z
 have T:¬((i0:Int)=-1):=by omega
 simp[F,T];refine⟨by omega,?_⟩;refine Iw (fun ρ D G' N=>∃(i j:Nat) (c:List Int) (a:Nat),D=[]∧G'=G.set q (.dyn (c.map .i) l.length 1 k a)∧N+j=l.length∧i<j∧j≤l.length∧lk ρ 0=.dy q k∧lk ρ 1=.fn (.func f) [] []∧lk ρ 5=.i i∧lk ρ 6=.i j ∧
   c.length=l.length∧i=((l.take j).filter (fun v=>!p v)).length∧c.take i=(l.take j).filter (fun v=>!p v)∧∀u,j≤u→gd c u=gd l u)
  (N:=l.length - (i0+1)) ⟨i0,i0+1,l,st,rfl,h.symm,by omega,by omega,by omega,by simp,by simp,by simp,by simp,rfl,by rw[z];simp;omega,z.symm,fun u _=>rfl⟩ ?_
 rintro N ρ D G' ⟨i,j,c,a,rfl,rfl,X,U,Y,r,s,w,x,H,hi,A,I⟩ Z y;by_cases g:j<l.length
 ·have g2:i<l.length:=by omega
  have J:=Vo (f:=LV.i) (jv (l:=c) (u:=j) (by omega));have V:=I j (Am _);simp[r,s,w,x,d,g];simp[Fu J,r,s,w,x,d,g,V];refine E5 (L (gd l j)) (by simp) ?_;have o:=zn3 (p:=p) g;cases M:p (gd l j) with
  |true =>
   rw[M] at o;simp only[Bu,Bx] at o;simp[x]
   repeat (refine⟨by omega,?_⟩)
   exact y _ _ _ ⟨N - 1,by omega,i,j+1,c,a,rfl,rfl,by omega,by omega,by omega,by simp[r],by simp[s],by simp[w],by simp,H,by rw[o];exact hi,by rw[o];exact A,fun u hu=>I u (by omega)⟩
  |false =>
   rw[M,Ab (by simp)] at o;simp[r,s,w,x,d,g2];rw[et _ _ _ (by omega)]
   repeat (refine⟨by omega,?_⟩)
   refine y _ _ _ ⟨N - 1,by omega,i+1,j+1,_,_,rfl,rfl,by omega,by omega,by omega,by simp[r],by simp[s],by simp,by simp,by simpa using H,?_,?_,fun u hu=>?_⟩
   ·rw[o,Aj,←hi];rfl
   ·rw[o,zm4 (by omega),A]
   ·rw[zqu (j:=j+1) (by omega) (by omega) u hu,I u (by omega)]
 ·have W:j=l.length:=by omega
  subst W;rw[List.take_length] at hi A;simp[r,s,w,x,d]
  repeat (refine⟨by omega,?_⟩)
  refine Q i _ _ hi ?_ ?_ ?_
  ·rw[zvf (by rw[ye];simp;omega)];simp[H]
  ·rw[U8 (by simp;omega),←List.map_take,A]
  ·unfold Gp;exact dats_app (dats_app (dats_take _ (E c)) (zsp rfl _)) (dats_drop _ (E c))
def zvb (v:Int):F4 195 [.i v] (.bool (decide (v<0))) []:=by
 refine Hg.val rfl (E9 r_lengths_takes_1 (by kernel_rfl) (by simp) ?_);simp[z8q]
def zac (o:Ko)(h:o.kind=14→o.a=-1∧o.b=-1):H6 170 [.agg o.f] (.lst ((Lq o).map .i) (Lq o).length 1):=by
 have x:∀l:List Int,dats (l.map .i)=true:=fun l=>uc (fun _=>rfl) l
 refine La.mk (by simp[LV.dat,x]) (E9 r_lengths_takes (by kernel_rfl) (by simp) ?_);have f:o.f=[.i o.kind,.i o.d,.i o.e,.i o.a,.i o.b,.i o.c,.u o.imm]:=rfl;simp[zax,f];rw[←f];refine E5 (zae o) (bors_self _ rfl) ?_;simp;refine zzz (l:=[o.a,o.b,o.c]) (by simp) (by simp) ?_;simp;have hlen:([o.a,o.b,o.c].filter fun v=>!decide (v<0)).length≤3:=List.length_filter_le _ _;refine zk6 (l:=[o.a,o.b,o.c]) (p:=fun v=>decide (v<0)) (by simp) rfl zvb (fun hw=>?_) (fun m R y hm s w hd=>?_)
 ·by_cases a:o.kind=14
  ·have:=List.filter_eq_self.1 hw o.a (by simp);rw[(h a).1] at this;simp at this
  ·have e:Lq o=[o.a,o.b,o.c]:=by unfold Lq;rw[hw,Ab a];rfl
   simp[f,a,e,He,bor,dats,LV.dat]
 ·by_cases a:o.kind=14
  ·have e:Lq o=([o.a,o.b,o.c].filter fun v=>!decide (v<0))++[o.d,o.e]:=by unfold Lq;rw[Ai a]
   have g:m≤1:=by
    rw[hm,(h a).1,(h a).2];simp;by_cases z:0≤o.c<;>simp[z]
   have d:R.length=3:=s;simp[f,a,d,g,dats,LV.dat];rw[e];have j:(([o.a,o.b,o.c].filter fun v=>!decide (v<0))++[o.d,o.e]).length=m+2:=by rw[Aj,←hm];rfl
   have A:(([o.a,o.b,o.c].filter fun v=>!decide (v<0))++[o.d,o.e]).map LV.i=R.take m++[.i o.d,.i o.e]:=by rw[D3,w];rfl
   have q:(R.take m++[LV.i o.d,LV.i o.e]).length=m+2:=by rw[Aj,Cr];simp;omega
   have B:dats (R.take m++[LV.i o.d,LV.i o.e])=true:=dats_app (dats_take _ hd) rfl;have r:(Gp R m [.i o.d,.i o.e]).length=3:=by unfold Gp;simp;omega
   rw[A,j];refine⟨by omega,⟨_,_,_,⟨?_,rfl,rfl⟩,⟨rfl,rfl,rfl⟩,?_,?_⟩,⟨_,_,_,⟨rfl,rfl,rfl⟩,⟨rfl,rfl,rfl⟩,B⟩⟩
   ·unfold Gp;rw[De];exact (Da q).symm
   ·rw[r];omega
   ·unfold Gp;exact dats_app (dats_app (dats_take _ hd) rfl) (dats_drop _ hd)
  ·have e:Lq o=[o.a,o.b,o.c].filter fun v=>!decide (v<0):=by unfold Lq;rw[Ab a,Bx]
   simp[f,a,dats,LV.dat];rw[e,←w,←hm];have d:R.length=3:=s;simp[He,bor,hd];exact⟨_,_,_,⟨by rw[De],rfl⟩,⟨rfl,rfl,rfl⟩,by rw[d];omega,hd⟩
def zas:LC:=(.q [.z 3 (.move .F)] (.q [.l 4 1,.m 5 0,.z 6 (.ixAddr 3 (.t 4) (.t 5)),.f 7 1 6,.l 8 7,.m 3 8] .ret))
def r_lengths_one_1:Fg Tryz.prog 190=some ⟨9,zas.r,[.tmp 3]⟩:=by kernel_rfl
def z9v:LC:=(.q [.z 2 (.box (.t 0)),.z 3 (.box (.t 1)),.z 4 (.move .F)] (.seq (.q [.f 13 0 3,.l 14 13,.z 15 (.bin .eql true 3 (.t 14) (.k 17))] (.cond (.t 15) (.q [.l 16 2,.z 17 (.loadN 7 (.t 3)),.z 18 (.w 166 [.t 16,.t 17]),.m 4 18] .ret) .skip)) (.q [.f 20 0 3,.l 21 20,.z 22 (.w 187 [.t 21]),.m 19 22,.z 23 (.extract 0 (.t 19)),.z 24 (.extract 1 (.t 19)),.m 5 23,.m 6 24] (.seq (.q [.m 25 6,.z 26 (.un .not (.t 25)),.m 27 26,.n 28 27 (.loadN 7 (.t 3)),.n 29 27 (.w 188 [.t 28]),.n 30 27 (.un .not (.t 29)),.z 31 (.pick (.t 27) .T (.t 30))] (.cond (.t 31) (.q [.z 4 (.move .F)] .ret) .skip)) (.seq (.q [.z 32 (.loadN 7 (.t 3)),.z 33 (.w 189 [.t 32]),.z 34 (.move (.k 0))] (.block 0 (.loop (.q [.z 35 (.bin .lss true 3 (.t 34) (.k 5))] (.seq (.cond (.t 35) .skip (.exit 0)) (.seq (.block 1 (.q [.m 36 34,.z 37 (.ixArr false 5 1 (.t 33) (.t 34)),.m 7 36,.m 8 37] (.q [.m 38 5,.m 39 7,.z 40 (.bin .shr false 3 (.t 38) (.t 39)),.z 41 (.bin .and true 3 (.t 40) (.k 1)),.z 42 (.bin .eql true 3 (.t 41) (.k 1)),.m 9 42] (.q [.m 43 9,.m 44 43,.my 45 44 8,.y 46 44 (.bin .lss true 3 (.t 45) (.k 0)),.my 47 44 46,.mn 48 47 8,.n 49 47 (.load1 (.t 2)),.n 50 47 (.lenSl (.t 49)),.n 51 47 (.bin .geq false 3 (.t 48) (.t 50)),.y 52 44 (.pick (.t 47) .T (.t 51)),.z 53 (.pick (.t 44) (.t 52) .F),.m 54 53,.mn 55 54 9,.n 56 54 (.un .not (.t 55)),.mn 57 54 56,.my 58 57 8,.y 59 57 (.bin .neq true 3 (.t 58) (.k (-1))),.n 60 54 (.pick (.t 57) (.t 59) .F),.z 61 (.pick (.t 54) .T (.t 60))] (.cond (.t 61) (.q [.z 4 (.move .F)] .ret) .skip))))) (.ops [.z 62 (.bin .add true 3 (.t 34) (.k 1)),.m 34 62]))))))) (.q [.z 63 (.loadN 7 (.t 3)),.z 64 (.w 170 [.t 63]),.z 65 (.mkFunc 190 [] [.t 2]),.z 66 (.w 169 [.t 64,.t 65]),.m 10 66] (.seq (.q [.f 67 1 3,.l 68 67,.f 69 2 3,.l 70 69,.z 71 (.buildSl 1 2 [(.i 0),(.i 0)] [(0,1,.t 68),(1,1,.t 70)]),.z 72 (.lenSl (.t 71)),.z 73 (.move (.k 0))] (.block 2 (.loop (.q [.z 74 (.bin .lss false 3 (.t 73) (.t 72))] (.seq (.cond (.t 74) .skip (.exit 2)) (.seq (.block 3 (.q [.z 75 (.ixAddr 1 (.t 71) (.t 73)),.l 76 75,.m 12 76] (.q [.m 77 12,.z 78 (.bin .geq true 3 (.t 77) (.k 0)),.m 79 78,.y 80 79 (.load1 (.t 2)),.my 81 79 12,.y 82 79 (.ixAddr 3 (.t 80) (.t 81)),.y 83 79 (.loadN 3 (.t 82)),.y 84 79 (.w 167 [.t 83]),.my 85 79 84,.mn 86 85 10,.mn 87 85 86,.y 88 87 (.load1 (.t 2)),.my 89 87 12,.y 90 87 (.ixAddr 3 (.t 88) (.t 89)),.y 91 87 (.fieldAddr 1 (.t 90)),.y 92 87 (.load1 (.t 91)),.y 93 87 (.un .not (.t 92)),.n 94 85 (.pick (.t 87) (.t 93) .F),.y 95 79 (.pick (.t 85) .T (.t 94)),.z 96 (.pick (.t 79) (.t 95) .F)] (.cond (.t 96) (.q [.z 4 (.move .F)] .ret) .skip)))) (.ops [.z 97 (.bin .add true 3 (.t 73) (.k 1)),.m 73 97]))))))) (.q [.f 98 2 3,.l 99 98,.z 100 (.bin .lss true 3 (.t 99) (.k 0)),.m 101 100,.n 102 101 (.fieldAddr 1 (.t 3)),.n 103 101 (.load1 (.t 102)),.n 104 101 (.fieldAddr 2 (.t 3)),.n 105 101 (.load1 (.t 104)),.n 106 101 (.bin .neq false 3 (.t 103) (.t 105)),.z 107 (.pick (.t 101) .T (.t 106)),.m 108 107,.y 109 108 (.load1 (.t 2)),.y 110 108 (.loadN 7 (.t 3)),.y 111 108 (.w 191 [.t 109,.t 110]),.z 112 (.pick (.t 108) (.t 111) .F),.m 4 112] .ret))))))))
def r_lengths_one:Fg Tryz.prog 168=some ⟨113,z9v.r,[.tmp 4]⟩:=by kernel_rfl
def zz0 {G:Ev}{p st:Nat}{vs:List Vr}(v:Int){K:LV→Ev→Prop}(f:G[p]?=some (.cells [.lst (Hq vs) vs.length 3] st))(hv:ai vs v)(k:K (.bool (gv vs v.toNat).sec) G):F1 (.fn 190) [.i v,.ptr p 0] G K:=by
 refine E9 r_lengths_one_1 (by kernel_rfl) (by simp) ?_;obtain⟨a,rfl,g,h⟩:=hv.at;have d:=ztb h;simp only[A9] at d k;simp[zas,f,g];simp[Fu d];exact k
def zk0 (vs:List Vr)(o:Ko):F4 168 [.lst (Hq vs) vs.length 3,.agg o.f] (.bool (Hu vs o)) []:=by
 refine Hg.val rfl (E9 r_lengths_one (by kernel_rfl) (by simp) ?_);have r:o.f=[.i o.kind,.i o.d,.i o.e,.i o.a,.i o.b,.i o.c,.u o.imm]:=rfl;by_cases d:o.kind=17
 ·simp[z9v,r,d];have X:=zbg (Hq vs) vs.length o;rw[r,d] at X;refine E5 X (bors_self _ (by simp[dats,LV.dat,Ll])) ?_;simp[Hu,d]
 simp[z9v,r,d];refine E5 (zgf o.kind) (by simp) ?_;cases E:Jj o.kind with
 |none=>simp[Hu,d,E]
 |some s =>
 simp;rw[←r];refine E5 (zf8 o) (bors_self _ rfl) ?_;cases T:Km o with
 |false=>simp[Hu,d,E,T]
 |true =>
 simp[r];rw[←r];refine E5 (zae o) (bors_self _ rfl) ?_;have Y:=zx3 E;simp;refine Iw (fun ρ D G N=>∃i:Nat,D=[]∧G=[.cells [.lst (Hq vs) vs.length 3] 0,.cells o.f 0]∧N+i=5∧lk ρ 2=.ptr 0 0∧lk ρ 3=.ptr 1 0∧lk ρ 5=.i s∧lk ρ 33=.agg ((Pm o).map .i)∧lk ρ 34=.i i∧∀j,j<i→Mc vs.length s j (gd (Pm o) j)=true) (N:=5) ⟨0,by simp[Pm]⟩ ?_;rintro N ρ D G ⟨i,rfl,rfl,hN,q,A,U,F,Q,O⟩ Nx B;by_cases hi:5≤i
 case neg =>
  have g:(i:Int)<5:=by omega
  have g2:i<5:=by omega
  have R:=Vo (f:=LV.i) (jv (l:=Pm o) (u:=i) g2);have m:Mc vs.length s i (gd (Pm o) i)=true→∀j,j<i+1→Mc vs.length s j (gd (Pm o) j)=true:=fun h j Z=>by
   by_cases e:j=i
   ·rw[e];exact h
   ·exact O j (by omega)
  have bad:Mc vs.length s i (gd (Pm o) i)=false→Hu vs o=false:=fun h=>by
   simp[Hu,d,E,zy0 g2 h]
  have pb:=Wq s i;generalize gd (Pm o) i=v at *;have J:0≤(s:Int)/2^i:=Int.ediv_nonneg (by omega) (Int.pow_nonneg (by omega));have P:(s:Int)/2^i<9223372036854775808:=Int.lt_of_le_of_lt (Int.ediv_le_self _ (by omega)) (by omega);have em:max ((s:Int)/2^i) 0=(s:Int)/2^i:=by omega
  simp[q,A,U,F,Q,g,Fu R,em,J,P,pb];refine⟨by omega,fun K=>⟨fun v0=>?_,fun v0=>⟨fun v1=>?_,fun v1=>?_⟩⟩,fun K=>?_⟩
  ·exact bad (by simp[Mc,K,Rp];omega)
  ·exact bad (by simp[Mc,K,Rp];omega)
  ·simp only[K,zmg];exact⟨by omega,B _ _ _ ⟨N - 1,by omega,i+1,rfl,rfl,by omega,by simp[q],by simp[A],by simp[U],by simp[F],by simp,m (by simp[Mc,K,Rp];omega)⟩⟩
  ·simp only[K,zj0];exact⟨fun hv=>⟨by omega,B _ _ _ ⟨N - 1,by omega,i+1,rfl,rfl,by omega,by simp[q],by simp[A],by simp[U],by simp[F],by simp,m (by simp[Mc,K,hv])⟩⟩,fun hv=>bad (by simp[Mc,K,hv])⟩
 have L:Mp vs.length s o=true:=zvk fun j Z=>O j (by omega)
 have C:=ztu E L;have g:¬(i:Int)<5:=by omega
 simp[q,A,F,Q,g,r];rw[←r];refine Jo (zac o C.swap) rfl ?_;simp;have V:(Lq o).length≤9223372036854775807:=by
  have h1:([o.a,o.b,o.c].filter fun v=>!decide (v<0)).length≤3:=List.length_filter_le _ _;unfold Lq;split<;>simp at h1 ⊢<;>omega
 rw[q];refine z6g (p:=fun v=>(gv vs v.toNat).sec) V (fun v hv K' k=>zz0 v rfl (C.takes v hv) k) ?_;rw[show (Lq o).any (fun v=>(gv vs v.toNat).sec)=I9 vs o from rfl];simp[q,A,r];refine Iw (fun ρ D G N=>∃i:Nat,D=[]∧G=[.cells [.lst (Hq vs) vs.length 3] 0,.cells o.f 0,.dyn ([o.d,o.e].map .i) 2 1 0 0]∧N+i=2∧lk ρ 2=.ptr 0 0∧lk ρ 3=.ptr 1 0∧lk ρ 10=.bool (I9 vs o)∧lk ρ 71=.dy 2 0∧lk ρ 72=.i 2∧lk ρ 73=.i i∧∀j,j<i→Ol vs (I9 vs o) (gd [o.d,o.e] j)=true) (N:=2) ⟨0,by simp[q,A,r]⟩ ?_;rintro N ρ D G ⟨i,rfl,rfl,hN,q,A,w,x,y,z,O⟩ Nx B;by_cases hi:2≤i
 case neg =>
  have g:(i:Int)<2:=by omega
  have g2:i<2:=by omega
  have R:=Vo (f:=LV.i) (jv (l:=[o.d,o.e]) (u:=i) g2);have m:Ol vs (I9 vs o) (gd [o.d,o.e] i)=true→∀j,j<i+1→Ol vs (I9 vs o) (gd [o.d,o.e] j)=true:=fun h j Z=>by
   by_cases e:j=i
   ·rw[e];exact h
   ·exact O j (by omega)
  have bad:Ol vs (I9 vs o) (gd [o.d,o.e] i)=false→Hu vs o=false:=fun h=>by
   have M:i=0∨i=1:=by omega
   rcases M with rfl|rfl
   ·have h:Ol vs (I9 vs o) o.d=false:=h;simp[Hu,d,E,h]
   ·have h:Ol vs (I9 vs o) o.e=false:=h;simp[Hu,d,E,h]
  have S:gd [o.d,o.e] i=-1∨ai vs (gd [o.d,o.e] i):=by
   have M:i=0∨i=1:=by omega
   rcases M with rfl|rfl
   ·exact C.d
   ·exact C.e
  generalize gd [o.d,o.e] i=v at *;simp only[C6,List.map_nil] at R;rcases S with rfl|hv
  ·simp[q,A,w,x,y,z,g,Fu R];exact⟨by omega,B _ _ _ ⟨N - 1,by omega,i+1,rfl,rfl,by omega,by simp[q],by simp[A],by simp[w],by simp[x],by simp[y],by simp,m (by simp[Ol])⟩⟩
  ·obtain⟨k,rfl,hk,ek⟩:=hv.at;have q3:=zdp ek;have W:=ztb ek;have hq:=o9 hk;simp only[A9] at W q3;simp[q,A,w,x,y,z,g,Fu R,hk,q3,hq];refine E5 (zai (gv vs k)) (bors_self _ rfl) ?_;cases H:Kc (gv vs k) with
   |true =>
    simp;exact bad (by simp[Ol,H])
   |false =>
    cases a:I9 vs o with
    |false =>
     simp[q,w,z,a];exact⟨by omega,B _ _ _ ⟨N - 1,by omega,i+1,rfl,rfl,by omega,by simp[q],by simp[A],by simp[w,a],by simp[x],by simp[y],by simp,m (by simp[Ol,H,a])⟩⟩
    |true =>
     cases I:(gv vs k).sec with
     |false =>
      simp[q,w,z,a,hk,Fu W,I];exact bad (by simp[Ol,H,a,I])
     |true =>
      simp[q,w,z,a,hk,Fu W,I];exact⟨by omega,B _ _ _ ⟨N - 1,by omega,i+1,rfl,rfl,by omega,by simp[q],by simp[A],by simp[w,a],by simp[x],by simp[y],by simp,m (by simp[Ol,H,a,I])⟩⟩
 have g:¬(i:Int)<2:=by omega
 have od:Ol vs (I9 vs o) o.d=true:=O 0 (by omega);have oe:Ol vs (I9 vs o) o.e=true:=O 1 (by omega);by_cases J:o.e<0
 ·simp[q,A,x,y,z,g,r,J];rw[←r];refine E5 (zag vs o C.alike) (bors_self _ (by simp[dats,LV.dat,Ll,r])) ?_;simp[Hu,d,E,T,L,od,oe,J]
 ·by_cases P:o.d=o.e
  ·simp[q,A,x,y,z,g,r,J,P];simp[Hu,d,E,J,P]
  ·simp[q,A,x,y,z,g,r,J,P];rw[←r];refine E5 (zag vs o C.alike) (bors_self _ (by simp[dats,LV.dat,Ll,r])) ?_;simp[Hu,d,E,T,L,od,oe,J,P]
def zcs:LC:=(.q [.z 2 (.move .F)] (.q [.z 3 (.move (.k 0))] (.seq (.q [.m 6 0,.z 7 (.lenSl (.t 6)),.z 8 (.move (.k 0))] (.block 0 (.loop (.q [.z 9 (.bin .lss false 3 (.t 8) (.t 7))] (.seq (.cond (.t 9) .skip (.exit 0)) (.seq (.block 1 (.q [.m 10 8,.z 11 (.ixAddr 3 (.t 6) (.t 8)),.z 12 (.loadN 3 (.t 11)),.z 5 (.alloc [(.i 0),(.bool false),(.i 0)]),.m 4 10,.v (.store 3 (.t 5) (.t 12))] (.seq (.q [.f 13 0 5,.l 14 13,.z 15 (.bin .lss true 3 (.t 14) (.k 1)),.m 16 15,.n 17 16 (.fieldAddr 0 (.t 5)),.n 18 16 (.load1 (.t 17)),.n 19 16 (.bin .gtr true 3 (.t 18) (.k 512)),.z 20 (.pick (.t 16) .T (.t 19)),.m 21 20,.n 22 21 (.fieldAddr 2 (.t 5)),.n 23 21 (.load1 (.t 22)),.n 24 21 (.bin .lss true 3 (.t 23) (.k 0)),.z 25 (.pick (.t 21) .T (.t 24)),.m 26 25,.n 27 26 (.fieldAddr 2 (.t 5)),.n 28 26 (.load1 (.t 27)),.n 29 26 (.bin .gtr true 3 (.t 28) (.k 3)),.z 30 (.pick (.t 26) .T (.t 29))] (.cond (.t 30) (.q [.z 2 (.move .F)] .ret) .skip)) (.seq (.q [.f 31 2 5,.l 32 31,.z 33 (.bin .eql true 3 (.t 32) (.k 0))] (.cond (.t 33) (.exit 1) .skip)) (.seq (.q [.m 34 3,.m 35 4,.z 36 (.bin .lss false 3 (.t 34) (.t 35)),.m 37 36,.n 38 37 (.fieldAddr 1 (.t 5)),.n 39 37 (.load1 (.t 38)),.n 40 37 (.fieldAddr 2 (.t 5)),.n 41 37 (.load1 (.t 40)),.n 42 37 (.bin .neq true 3 (.t 41) (.k 1)),.n 43 37 (.bin .neq false 4 (.t 39) (.t 42)),.z 44 (.pick (.t 37) .T (.t 43))] (.cond (.t 44) (.q [.z 2 (.move .F)] .ret) .skip)) (.ops [.m 45 3,.z 46 (.bin .add true 3 (.t 45) (.k 1)),.m 3 46])))))) (.ops [.z 47 (.bin .add true 3 (.t 8) (.k 1)),.m 8 47]))))))) (.q [.m 48 0,.z 49 (.lenSl (.t 48)),.z 50 (.bin .geq true 3 (.t 49) (.k 1)),.m 51 50,.my 52 51 0,.y 53 51 (.lenSl (.t 52)),.y 54 51 (.bin .leq true 3 (.t 53) (.k 256)),.z 55 (.pick (.t 51) (.t 54) .F),.m 56 55,.my 57 56 3,.y 58 56 (.bin .leq true 3 (.t 57) (.k 12)),.z 59 (.pick (.t 56) (.t 58) .F),.m 2 59] .ret))))
def r_lengths_vars:Fg Tryz.prog 164=some ⟨60,zcs.r,[.tmp 2]⟩:=by kernel_rfl
def zi8 (vs:List Vr)(J:vs.length≤9223372036854775807):F4 164 [.lst (Hq vs) vs.length 3] (.bool (Kj vs)) []:=by
 refine Hg.val rfl (E9 r_lengths_vars (by kernel_rfl) (by simp) ?_);simp[zcs];refine Iw (fun ρ D G N=>∃i p:Nat,D=[]∧N+i=vs.length∧p≤i∧lk ρ 0=.lst (Hq vs) vs.length 3∧lk ρ 3=.i p∧lk ρ 6=.lst (Hq vs) vs.length 3∧lk ρ 7=.i vs.length∧lk ρ 8=.i i∧Ob i p (vs.drop i)=Ob 0 0 vs) (N:=vs.length) ⟨0,0,by simp⟩ ?_;rintro N ρ D G ⟨i,p,rfl,K,F,j,o,l,m,r,hv⟩ L C;by_cases g:i<vs.length
 ·have H:=Nq g;have w:=zdp H;have x:=o9 g;rw[zrm g] at hv;have y:(gv vs i).f=[.i (gv vs i).limbs,.bool (gv vs i).sec,.i (gv vs i).mode]:=rfl;generalize gv vs i=v at *;have bad:Ob i p (v::vs.drop (i+1))=none→Kj vs=false:=fun h=>by rw[h] at hv;simp[Kj,←hv]
  by_cases a:v.limbs<1
  ·simp[j,o,l,m,r,g,w,x,y,a];exact bad (by simp[Ob,Yt,a])
  by_cases d:512<v.limbs
  ·simp[j,o,l,m,r,g,w,x,y,a,d];exact bad (by simp[Ob,Yt,a,d])
  by_cases q:v.mode<0
  ·simp[j,o,l,m,r,g,w,x,y,a,d,q];exact bad (by simp[Ob,Yt,a,d,q])
  by_cases s:3<v.mode
  ·simp[j,o,l,m,r,g,w,x,y,a,d,q,s];exact bad (by simp[Ob,Yt,a,d,q,s])
  by_cases z:v.mode=0
  ·simp[j,o,l,m,r,g,w,x,y,a,d,q,s,z];refine⟨by omega,C _ _ _ ⟨N - 1,by omega,i+1,p,rfl,by omega,by omega,by simp[j],by simp[o],by simp[l],by simp[m],by simp,?_⟩⟩;rw[←hv];simp[Ob,Yt,a,d,q,s,z]
  by_cases B:p<i
  ·simp[j,o,l,m,r,g,w,x,y,a,d,q,s,z,B];exact bad (by simp[Ob,Yt,a,d,q,s,z,B])
  by_cases E:v.sec=decide (v.mode=1)
  ·simp[j,o,l,m,r,g,w,x,y,a,d,q,s,z,B,wy,E];exact bad (by simp[Ob,Yt,a,d,q,s,z,B,E])
  ·have I:v.sec=!decide (v.mode=1):=by cases M:v.sec<;>cases hm:decide (v.mode=1)<;>simp_all
   simp[j,o,l,m,r,g,w,x,y,a,d,q,s,z,B,wy,I];refine⟨by omega,by omega,C _ _ _ ⟨N - 1,by omega,i+1,p+1,rfl,by omega,by omega,by simp[j],by simp,by simp[l],by simp[m],by simp,?_⟩⟩;rw[←hv];simp[Ob,Yt,a,d,q,s,z,B,E]
 ·have O:i=vs.length:=by omega
  rw[Cu (by omega)] at hv;have A:Ob 0 0 vs=some p:=by rw[←hv];rfl
  by_cases g1:1≤vs.length
  ·by_cases g2:vs.length≤256
   ·simp[j,o,l,m,r,g,Kj,A,g1,g2];omega
   ·simp[j,o,l,m,r,g,Kj,A,g1,g2];omega
  ·simp[j,o,l,m,r,g,Kj,A,g1];omega
def z5h:LC:=(.q [.z 3 (.move .F)] (.q [.m 4 0,.z 5 (.bin .geq true 3 (.t 4) (.k 0)),.m 6 5,.y 7 6 (.fieldAddr 0 (.t 1)),.y 8 6 (.load1 (.t 7)),.my 9 6 0,.y 10 6 (.ixAddr 3 (.t 8) (.t 9)),.y 11 6 (.fieldAddr 2 (.t 10)),.y 12 6 (.load1 (.t 11)),.y 13 6 (.bin .eql true 3 (.t 12) (.k 3)),.z 14 (.pick (.t 6) (.t 13) .F),.m 3 14] .ret))
def r_lengths_Check_1:Fg Tryz.prog 165=some ⟨15,z5h.r,[.tmp 3]⟩:=by kernel_rfl
def z9d:LC:=(.q [.z 3 (.move .F)] (.q [.l 4 1,.m 5 0,.z 6 (.ixAddr 1 (.t 4) (.t 5)),.l 7 6,.z 8 (.un .not (.t 7)),.m 3 8] .ret))
def r_lengths_Check_2:Fg Tryz.prog 171=some ⟨9,z9d.r,[.tmp 3]⟩:=by kernel_rfl
def zb8:LC:=(.q [.z 1 (.box (.t 0)),.z 2 (.move (.k 0))] (.seq (.q [.f 13 0 1,.l 14 13,.z 15 (.w 164 [.t 14]),.z 16 (.un .not (.t 15)),.m 17 16,.n 18 17 (.fieldAddr 1 (.t 1)),.n 19 17 (.load1 (.t 18)),.n 20 17 (.lenSl (.t 19)),.n 21 17 (.bin .gtr true 3 (.t 20) (.k 4096)),.z 22 (.pick (.t 17) .T (.t 21)),.m 23 22,.n 24 23 (.fieldAddr 2 (.t 1)),.n 25 23 (.load1 (.t 24)),.n 26 23 (.lenSl (.t 25)),.n 27 23 (.bin .gtr true 3 (.t 26) (.k 4096)),.z 28 (.pick (.t 23) .T (.t 27))] (.cond (.t 28) (.q [.z 2 (.move (.k 2))] .ret) .skip)) (.q [.z 29 (.mkFunc 165 [] [.t 1]),.m 3 29] (.seq (.q [.f 30 2 1,.l 31 30,.z 32 (.lenSl (.t 31)),.z 33 (.move (.k 0))] (.block 0 (.loop (.q [.z 34 (.bin .lss false 3 (.t 33) (.t 32))] (.seq (.cond (.t 34) .skip (.exit 0)) (.seq (.block 1 (.q [.z 35 (.ixAddr 7 (.t 31) (.t 33)),.z 36 (.loadN 7 (.t 35)),.z 5 (.alloc [(.i 0),(.i 0),(.i 0),(.i 0),(.i 0),(.i 0),(.u 0)]),.v (.store 7 (.t 5) (.t 36))] (.q [.f 37 0 5,.l 38 37,.z 39 (.bin .neq true 3 (.t 38) (.k 17)),.m 40 39,.n 41 40 (.fieldAddr 0 (.t 1)),.n 42 40 (.load1 (.t 41)),.n 43 40 (.loadN 7 (.t 5)),.n 44 40 (.w 166 [.t 42,.t 43]),.n 45 40 (.un .not (.t 44)),.z 46 (.pick (.t 40) .T (.t 45)),.m 47 46,.mn 48 47 3,.n 49 47 (.fieldAddr 3 (.t 5)),.n 50 47 (.load1 (.t 49)),.n 51 47 (.callV (.t 48) [.t 50]),.z 52 (.pick (.t 47) .T (.t 51)),.m 53 52,.mn 54 53 3,.n 55 53 (.fieldAddr 4 (.t 5)),.n 56 53 (.load1 (.t 55)),.n 57 53 (.callV (.t 54) [.t 56]),.z 58 (.pick (.t 53) .T (.t 57))] (.cond (.t 58) (.q [.z 2 (.move (.k 2))] .ret) .skip)))) (.ops [.z 59 (.bin .add true 3 (.t 33) (.k 1)),.m 33 59]))))))) (.q [.f 60 0 1,.l 61 60,.z 62 (.lenSl (.t 61)),.z 63 (.mkSl 1 [(.bool false)] (.t 62) (.t 62)),.z 6 (.alloc [.nilSl]),.v (.store 1 (.t 6) (.t 63))] (.seq (.q [.f 64 0 1,.l 65 64,.z 66 (.lenSl (.t 65)),.z 67 (.move (.k 0))] (.block 2 (.loop (.q [.z 68 (.bin .lss false 3 (.t 67) (.t 66))] (.seq (.cond (.t 68) .skip (.exit 2)) (.seq (.block 3 (.q [.m 69 67,.z 70 (.ixAddr 3 (.t 65) (.t 67)),.z 71 (.loadN 3 (.t 70)),.z 8 (.alloc [(.i 0),(.bool false),(.i 0)]),.m 7 69,.v (.store 3 (.t 8) (.t 71))] (.draw [(.l 72 6,[]),(.m 73 7,[]),(.z 74 (.loadN 3 (.t 8)),[]),(.z 75 (.w 167 [.t 74]),[(.l 72 6,false)]),(.z 76 (.ixAddr 1 (.t 72) (.t 73)),[]),(.v (.store 1 (.t 76) (.t 75)),[])]))) (.ops [.z 77 (.bin .add true 3 (.t 67) (.k 1)),.m 67 77]))))))) (.q [.z 9 (.move (.k 0))] (.seq (.q [.f 78 1 1,.l 79 78,.z 80 (.lenSl (.t 79)),.z 81 (.move (.k 0))] (.block 4 (.loop (.q [.z 82 (.bin .lss false 3 (.t 81) (.t 80))] (.seq (.cond (.t 82) .skip (.exit 4)) (.seq (.block 5 (.q [.z 83 (.ixAddr 7 (.t 79) (.t 81)),.z 84 (.loadN 7 (.t 83)),.z 11 (.alloc [(.i 0),(.i 0),(.i 0),(.i 0),(.i 0),(.i 0),(.u 0)]),.v (.store 7 (.t 11) (.t 84))] (.seq (.q [.f 85 0 1,.l 86 85,.z 87 (.loadN 7 (.t 11)),.z 88 (.w 168 [.t 86,.t 87]),.z 89 (.un .not (.t 88)),.m 90 89,.n 91 90 (.loadN 7 (.t 11)),.n 92 90 (.w 170 [.t 91]),.n 93 90 (.mkFunc 171 [] [.t 6]),.n 94 90 (.w 169 [.t 92,.t 93]),.z 95 (.pick (.t 90) .T (.t 94))] (.cond (.t 95) (.q [.z 2 (.move (.k 2))] .ret) .skip)) (.seq (.q [.f 96 0 11,.l 97 96] (.block 6 (.q [.z 99 (.bin .eql true 3 (.t 97) (.k 15)),.m 98 99] (.cond (.t 98) (.ops [.m 100 9,.z 101 (.bin .add true 3 (.t 100) (.k 1)),.m 9 101]) (.q [.z 103 (.bin .eql true 3 (.t 97) (.k 16)),.m 102 103] (.cond (.t 102) (.ops [.m 104 9,.z 105 (.bin .sub true 3 (.t 104) (.k 1)),.m 9 105]) .skip)))))) (.seq (.q [.m 106 9,.z 107 (.bin .lss true 3 (.t 106) (.k 0)),.m 108 107,.mn 109 108 9,.n 110 108 (.bin .gtr true 3 (.t 109) (.k 4)),.z 111 (.pick (.t 108) .T (.t 110))] (.cond (.t 111) (.q [.z 2 (.move (.k 2))] .ret) .skip)) (.q [.f 112 1 11,.l 113 112,.z 114 (.bin .geq true 3 (.t 113) (.k 0))] (.cond (.t 114) (.ops [.l 115 6,.f 116 1 11,.l 117 116,.z 118 (.ixAddr 1 (.t 115) (.t 117)),.v (.store 1 (.t 118) .T)]) .skip))))))) (.ops [.z 119 (.bin .add true 3 (.t 81) (.k 1)),.m 81 119]))))))) (.seq (.q [.l 120 6,.z 121 (.lenSl (.t 120)),.z 122 (.move (.k 0))] (.block 7 (.loop (.q [.z 123 (.bin .lss false 3 (.t 122) (.t 121))] (.seq (.cond (.t 123) .skip (.exit 7)) (.seq (.block 8 (.q [.m 124 122,.m 12 124] (.q [.m 125 3,.m 126 12,.z 127 (.callV (.t 125) [.t 126]),.m 128 127,.y 129 128 (.load1 (.t 6)),.my 130 128 12,.y 131 128 (.ixAddr 1 (.t 129) (.t 130)),.y 132 128 (.load1 (.t 131)),.y 133 128 (.un .not (.t 132)),.z 134 (.pick (.t 128) (.t 133) .F)] (.cond (.t 134) (.q [.z 2 (.move (.k 2))] .ret) .skip)))) (.ops [.z 135 (.bin .add true 3 (.t 122) (.k 1)),.m 122 135]))))))) (.seq (.q [.m 136 9,.z 137 (.bin .neq true 3 (.t 136) (.k 0))] (.cond (.t 137) (.q [.z 2 (.move (.k 2))] .ret) .skip)) (.q [.z 2 (.move (.k 0))] .ret)))))))))))
def r_lengths_Check:Fg Tryz.prog 118=some ⟨138,zb8.r,[.tmp 2]⟩:=by kernel_rfl
def Jx (vs:List Vr)(os rs:List Ko):List LV:=[.lst (Hq vs) vs.length 3,.lst (Mg os) os.length 7,.lst (Mg rs) rs.length 7]
def F5 {G x:Ev}{q:Nat}(h:q<G.length):(G++x)[q]?=G[q]?:=Aq h
def zlv {α:Type}(f:α→LV)(l:List α)(j:Nat)(x:α)(h:j<l.length):Gp (l.map f) j [f x]=(l.set j x).map f:=by
 unfold Gp;rw[Cg,Ai h];simp[List.map_take,List.map_drop]
def repB (n:Nat):Hm [.bool false] n=(List.replicate n false).map LV.bool:=by
 induction n with
 |zero=>rfl
 |succ n a=>simp[Hm,a,Db]
def nl {a b:List Bool}(h:a.length=b.length)(he:∀j,j<a.length→gb a j=gb b j):a=b:=by
 apply List.ext_getElem h;intro j d f;have:=he j d;simpa [gb,Ae,d,f] using this
def Zc (m:List Bool)(i j:Nat)(b:Bool)(hi:i<m.length):gb (m.set i b) j=if j=i then b else gb m j:=by
 unfold gb;rw[Ae,Ae,Et];by_cases h:i=j
 ·subst h;simp[hi]
 ·rw[Ab h,Ab (fun q=>h q.symm)]
def zdg {G:Ev}{p st:Nat}{vs:List Vr}{rest:List LV}(v:Int){K:LV→Ev→Prop}(f:G[p]?=some (.cells (.lst (Hq vs) vs.length 3::rest) st))(hv:v<vs.length)(k:K (.bool (Mx vs v)) G):F1 (.fn 165) [.i v,.ptr p 0] G K:=by
 refine E9 r_lengths_Check_1 (by kernel_rfl) (by simp) ?_;by_cases d:0≤v
 ·obtain⟨a,rfl⟩:=Af d;have g:a<vs.length:=by omega
  have h:=tg (Nq g);simp[z5h,f,g];simp[Fu h];simpa [Mx] using k
 ·simp[z5h,f,d];simpa [Mx,d] using k
def zru {G:Ev}{p q st d:Nat}{m:List Bool}(v:Int){K:LV→Ev→Prop}(h:G[p]?=some (.cells [.dy q 0] st))(j:G[q]?=some (.dyn (m.map .bool) m.length 1 0 d))(hv:0≤v∧v<m.length)(k:K (.bool (!gb m v.toNat)) G):F1 (.fn 171) [.i v,.ptr p 0] G K:=by
 refine E9 r_lengths_Check_2 (by kernel_rfl) (by simp) ?_;obtain⟨a,rfl⟩:=Af hv.1;have g:a<m.length:=by omega
 have l:=Vo (f:=LV.bool) (ir g);simp[z9d,h,j,g];simp[Fu l];simpa using k
def zah (vs:List Vr)(os rs:List Ko)(aI:vs.length≤9223372036854775807):F4 118 [.agg (Jx vs os rs)] (.i (M0 vs os rs)) []:=by
 refine Hg.val rfl (E9 r_lengths_Check (by kernel_rfl) (by simp) ?_);have bad:Ks vs os rs=false→M0 vs os rs=2:=fun h=>by simp[M0,h]
 simp[zb8,Jx];refine E5 (zi8 vs aI) (bors_self _ (by simp[dats,LV.dat,Ll])) ?_;cases hv:Kj vs with
 |false=>simp[bad,Ks,hv]
 |true =>
 have aJ:=zh8 hv;by_cases g1:(4096:Int)<(os.length:Int)
 ·simp[g1];exact (bad (by simp[Ks,hv];omega)).symm
 by_cases g2:(4096:Int)<(rs.length:Int)
 ·simp[g1,g2];exact (bad (by simp[Ks,hv];omega)).symm
 simp[g1,g2];refine Iw (fun ρ D G N=>∃i:Nat,D=[]∧N+i=rs.length∧lk ρ 1=.ptr 0 0∧lk ρ 3=.fn (.func 165) [] [.ptr 0 0]∧lk ρ 31=.lst (Mg rs) rs.length 7∧lk ρ 32=.i rs.length∧lk ρ 33=.i i∧0<G.length∧G[0]?=some (.cells (Jx vs os rs) 0)∧∀j,j<i→K7 vs (go rs j)=true) (N:=rs.length) ⟨0,by simp[Jx]⟩ ?_;rintro N ρ D G ⟨i,rfl,hN,r,y,ag,ah,aj,H,E,hr⟩ Nx A;by_cases g:i<rs.length
 ·have q7:=ztd (zy g);have K:=j6 g;have I:(go rs i).f=[.i (go rs i).kind,.i (go rs i).d,.i (go rs i).e,.i (go rs i).a,.i (go rs i).b,.i (go rs i).c,.u (go rs i).imm]:=rfl;have no:K7 vs (go rs i)=false→M0 vs os rs=2:=fun h=>bad (by
   have:rs.all (K7 vs)=false:=by
    rw[Eu];exact⟨go rs i,A7 (zy g),by simp[h]⟩
   simp[Ks,this])
  have yes:K7 vs (go rs i)=true→∀j,j<i+1→K7 vs (go rs j)=true:=fun h j X=>by
   by_cases e:j=i
   ·rw[e];exact h
   ·exact hr j (by omega)
  generalize go rs i=o at *;by_cases U:o.kind=17
  ·simp[r,y,ag,ah,aj,g,q7,K,I,U,↓F5 H,E,Jx];have hc:=zbg (Hq vs) vs.length o;rw[I,U] at hc;refine E5 hc (bors_self _ (by simp[dats,LV.dat,Ll])) ?_;cases hn:Pd vs.length o with
   |false =>
    simp;exact (no (by simp[K7,hn])).symm
   |true =>
    have ao:=zxs U hn;have ha:o.a<vs.length:=by
     simp only[Pd,Ac] at hn;exact (oi.1 hn.2.2.2.1).2
    have hb:o.b<vs.length:=by
     simp only[Pd,Ac] at hn;have:=hn.2.2.2.2;split at this
     ·exact (oi.1 this).2
     ·simp at this;omega
    simp[y];refine zdg o.a (by rw[F5 H];exact E) ha ?_;cases ho:Mx vs o.a with
    |true =>
     simp;exact (no (by simp[K7,ho])).symm
    |false =>
     simp[y];refine zdg o.b (by rw[F5 H];exact E) hb ?_;cases aD:Mx vs o.b with
     |true =>
      simp;exact (no (by simp[K7,aD])).symm
     |false =>
      simp[aj];exact⟨by omega,A _ _ _ ⟨N - 1,by omega,i+1,rfl,by omega,by simp[r],by simp[y],by simp[ag],by simp[ah],by simp,by simp,by rw[F5 H];exact E,yes (by simp[K7,U,hn,ho,aD])⟩⟩
  ·simp[r,y,ag,ah,aj,g,q7,K,I,U];exact (no (by simp[K7,U])).symm
 have aE:rs.all (K7 vs)=true:=by
  rw[Cb];intro o ho;obtain⟨j,X,rfl⟩:=Cq.1 ho;have e:=zy X;rw[Ah X] at e;rw[Option.some.inj e];exact hr j (by omega)
 simp[r,y,ag,ah,aj,g,E,Jx,aJ,↓F5 H];refine⟨by omega,?_⟩;refine Iw (fun ρ D G N=>∃(i:Nat) (m:List Bool) (p q st x:Nat),D=[]∧N+i=vs.length∧lk ρ 1=.ptr 0 0∧lk ρ 3=.fn (.func 165) [] [.ptr 0 0]∧lk ρ 6=.ptr p 0∧lk ρ 65=.lst (Hq vs) vs.length 3∧lk ρ 66=.i vs.length∧lk ρ 67=.i i ∧
   0<G.length∧p<G.length∧0<q∧q<G.length∧G[0]?=some (.cells (Jx vs os rs) 0)∧G[p]?=some (.cells [.dy q 0] st)∧G[q]?=some (.dyn (m.map .bool) m.length 1 0 x)∧m.length=vs.length∧∀j,j<i→gb m j=Kc (gv vs j)) (N:=vs.length)
  ⟨0,List.replicate vs.length false,G.length+1,G.length,1,0,rfl,by omega,by simp[r],by simp[y],by simp,by simp[r],by simp,by simp,by simp,by simp,H,by simp,by rw[F5 H];exact E,by simp,by simp[repB],by simp,by simp⟩ ?_
 clear r y E hr A H;rintro N ρ D G ⟨i,m,p,q,st,x,rfl,hN,r,y,w,aw,ax,ay,H,l,Y,B,E,C,K,L,hm⟩ Nx A;by_cases g:i<vs.length
 ·have hg:=Nq g;have q3:=zdp hg;have az:=o9 g;have I:(gv vs i).f=[.i (gv vs i).limbs,.bool (gv vs i).sec,.i (gv vs i).mode]:=rfl;simp[r,w,aw,ax,ay,g,q3,az,I,↓F5 l,C];rw[←I];refine E5 (zai (gv vs i)) (bors_self _ rfl) ?_;simp[↓F5 l,↓F5 B,C,K,w,ay,g,L];refine⟨by omega,by omega,A _ _ _ ⟨N - 1,by omega,i+1,m.set i (Kc (gv vs i)),p,q,st,x+1,rfl,by omega,by simp[r],by simp[y],by simp[w],by simp[aw],by simp[ax],by simp,by simp,by simp;omega,Y,by simp;omega,?_,?_,?_,by simp[L],fun j X=>?_⟩⟩
  ·rw[Ad (by omega),F5 H];exact E
  ·have aK:p≠q:=fun e=>by rw[e,K] at C;cases C
   rw[Ad (by omega),F5 l];exact C
  ·rw[Ag (by simp;omega),zlv _ _ _ _ (by omega),Ce,L]
  ·rw[Zc _ _ _ _ (by omega)];split
   ·rename_i e;rw[e]
   ·exact hm j (by omega)
 have aL:m=R4 vs:=nl (by simp[R4,L]) (fun j X=>by
  rw[hm j (by omega)];unfold gb R4;rw[Ae,Cc,Nq (by omega)];rfl)
 simp[r,w,aw,ax,ay,g,E,Jx];refine Iw (fun ρ D G N=>∃(i:Nat) (m:List Bool) (z:Int) (p q st x:Nat),D=[]∧N+i=os.length∧lk ρ 1=.ptr 0 0∧lk ρ 3=.fn (.func 165) [] [.ptr 0 0]∧lk ρ 6=.ptr p 0∧lk ρ 9=.i z∧lk ρ 79=.lst (Mg os) os.length 7∧lk ρ 80=.i os.length∧lk ρ 81=.i i ∧
   0<G.length∧p<G.length∧0<q∧q<G.length∧G[0]?=some (.cells (Jx vs os rs) 0)∧G[p]?=some (.cells [.dy q 0] st)∧G[q]?=some (.dyn (m.map .bool) m.length 1 0 x)∧m.length=vs.length∧0≤z∧z≤4∧Mo vs m z (os.drop i)=Mo vs (R4 vs) 0 os) (N:=os.length)
  ⟨0,m,0,p,q,st,x,rfl,by omega,by simp[r],by simp[y],by simp[w],by simp,by simp[r],by simp,by simp,H,l,Y,B,E,C,K,L,by omega,by omega,by simp[aL]⟩ ?_
 clear r y w E C K A H l Y B L;rintro N ρ D G ⟨i,m,z,p,q,st,x,rfl,hN,r,y,w,P,Q,R,S,H,l,Y,B,E,C,K,L,aR,aS,V⟩ Nx A;have aK:p≠q:=fun e=>by rw[e,K] at C;cases C
 by_cases g:i<os.length
 ·have q7:=ztd (zy g);have az:=j6 g;rw[er g] at V;have I:(go os i).f=[.i (go os i).kind,.i (go os i).d,.i (go os i).e,.i (go os i).a,.i (go os i).b,.i (go os i).c,.u (go os i).imm]:=rfl;generalize go os i=o at *;have no:Mo vs m z (o::os.drop (i+1))=none→M0 vs os rs=2:=fun h=>bad (by
   rw[h] at V;simp[Ks,←V])
  simp[r,Q,R,S,g,q7,az,I,↓F5 H,E,Jx];rw[←I];refine E5 (zk0 vs o) (bors_self _ (by simp[dats,LV.dat,Ll,I])) ?_;cases ho:Hu vs o with
  |false =>
   simp;exact (no (by simp[Mo,ho])).symm
  |true =>
  have ao:=T9 ho;simp[I];rw[←I];refine Jo (zac o ao.swap) rfl ?_;simp[w];have aM:(Lq o).length≤9223372036854775807:=by
   have r:([o.a,o.b,o.c].filter fun v=>!decide (v<0)).length≤3:=List.length_filter_le _ _;unfold Lq;split<;>simp at r ⊢<;>omega
  refine z6g (p:=fun v=>!gb m v.toNat) aM (fun v hv K' k=>zru v (by rw[F5 l];exact C) (by rw[F5 B];exact K) (by have:=ao.takes v hv;omega) k) ?_;cases ht:gj m o with
  |false =>
   have:((Lq o).any fun v=>!gb m v.toNat)=true:=by
    have h:=ht;unfold gj at h;rw[Eu] at h;obtain⟨v,hv,h⟩:=h;exact Bv.2 ⟨v,hv,by simpa using h⟩
   rw[this];simp;exact (no (by simp[Mo,ho,ht])).symm
  |true =>
  have:((Lq o).any fun v=>!gb m v.toNat)=false:=by
   have h:=ht;unfold gj at h;rw[Cb] at h;rw[D7];intro v hv;simp[h v hv]
  rw[this];have fin:∀s,s=z+dl o.kind→(s<0∨4<s→M0 vs os rs=2)∧(0≤s→s≤4→Mo vs (Qe m o) s (os.drop (i+1))=Mo vs (R4 vs) 0 os):=fun s e=>by
   subst e;refine⟨fun h=>no ?_,fun h0 h4=>?_⟩
   ·rw[Mo,Ab];simp only[Ac,Ao];omega
   ·rw[←V,Mo,Ai];simp only[Ac,Ao];exact⟨ho,ht,h0,h4⟩
  have aA:∃M,dl o.kind=M∧-1≤M∧M≤1∧((o.kind=15∧M=1)∨(o.kind≠15∧o.kind=16∧M=-1)∨(o.kind≠15∧o.kind≠16∧M=0)):=by
   by_cases k1:o.kind=15
   ·exact⟨1,by simp[dl,k1],by omega,by omega,.inl ⟨k1,rfl⟩⟩
   by_cases k2:o.kind=16
   ·exact⟨-1,by simp[dl,k2],by omega,by omega,.inr (.inl ⟨k1,k2,rfl⟩)⟩
   ·exact⟨0,by simp[dl,k1,k2],by omega,by omega,.inr (.inr ⟨k1,k2,rfl⟩)⟩
  obtain⟨M,e1,e2,e3,aA⟩:=aA;obtain⟨ap,aF⟩:=fin (z+M) (by rw[e1]);have aT:=ao.d;have Z:0≤o.d→o.d<(m.length:Int):=fun h=>by omega
  have aa:0≤o.d→Gp (m.map LV.bool) o.d.toNat [.bool true]=(m.set o.d.toNat true).map LV.bool:=fun h=>zlv LV.bool _ _ true (by omega)
  have next:∀(s:Int) (ρ':Ey) (G':Ev) (ad:Nat),s=z+M→0≤s→s≤4→lk ρ' 1=.ptr 0 0→lk ρ' 3=.fn (.func 165) [] [.ptr 0 0]→lk ρ' 6=.ptr p 0→lk ρ' 9=.i s→lk ρ' 79=.lst (Mg os) os.length 7→lk ρ' 80=.i os.length→lk ρ' 81=.i ((i:Int)+1) →
    G.length≤G'.length→G'[0]?=some (.cells (Jx vs os rs) 0)→G'[p]?=some (.cells [.dy q 0] st)→G'[q]?=some (.dyn ((Qe m o).map .bool) m.length 1 0 ad)→Nx ρ' [] G':=by
   intro s ρ' G' ad e aq ar a1 a3 a6 a9 aN aO aP hle b0 bp bq;have aG:(Qe m o).length=m.length:=by unfold Qe;split<;>simp
   refine A _ _ _ ⟨N - 1,by omega,i+1,Qe m o,s,p,q,st,ad,rfl,by omega,a1,a3,a6,a9,aN,aO,by rw[aP];simp,by omega,by omega,Y,by omega,b0,bp,by rw[aG];exact bq,by rw[aG,L],aq,ar,?_⟩;subst e;exact aF aq ar
  have q0:q≠0:=by omega
  have aB:0≤o.d→Qe m o=m.set o.d.toNat true:=fun h=>by simp[Qe,h]
  have aC:¬0≤o.d→Qe m o=m:=fun h=>by simp[Qe,h]
  rcases aA with ⟨F,rfl⟩|⟨F,W,rfl⟩|⟨F,W,rfl⟩
  ·have r0:¬z+1<0:=by omega
   by_cases d4:4<z+1
   ·simp[P,I,F,r0,d4]
    repeat (refine⟨by omega,?_⟩)
    exact (ap (.inr d4)).symm
   by_cases d1:0≤o.d
   ·have d2:=Z d1;simp[w,P,S,I,F,r0,d4,↓F5 l,↓F5 B,C,K,d1,d2,aa d1]
    repeat (refine⟨by omega,?_⟩)
    refine next (z+1) _ _ (x+1) rfl (by omega) (by omega) (by simp[r]) (by simp[y]) (by simp[w]) (by simp) (by simp[Q]) (by simp[R]) (by simp) (by simp) ?_ ?_ ?_
    ·rw[Ad (by omega),F5 H];exact E
    ·rw[Ad (by omega),F5 l];exact C
    ·rw[Ag (by simp;omega),aB d1,B0]
   ·simp[w,P,S,I,F,r0,d4,d1]
    repeat (refine⟨by omega,?_⟩)
    exact next (z+1) _ _ x rfl (by omega) (by omega) (by simp[r]) (by simp[y]) (by simp[w]) (by simp) (by simp[Q]) (by simp[R]) (by simp) (by simp) (by rw[F5 H];exact E) (by rw[F5 l];exact C) (by rw[F5 B,aC d1];exact K)
  ·by_cases r0:z - 1<0
   ·simp[P,I,F,W,r0]
    repeat (refine⟨by omega,?_⟩)
    exact (ap (.inl (by omega))).symm
   have d4:¬4<z - 1:=by omega
   by_cases d1:0≤o.d
   ·have d2:=Z d1;simp[w,P,S,I,F,W,r0,d4,↓F5 l,↓F5 B,C,K,d1,d2,aa d1]
    repeat (refine⟨by omega,?_⟩)
    refine next (z - 1) _ _ (x+1) (by omega) (by omega) (by omega) (by simp[r]) (by simp[y]) (by simp[w]) (by simp) (by simp[Q]) (by simp[R]) (by simp) (by simp) ?_ ?_ ?_
    ·rw[Ad (by omega),F5 H];exact E
    ·rw[Ad (by omega),F5 l];exact C
    ·rw[Ag (by simp;omega),aB d1,B0]
   ·simp[w,P,S,I,F,W,r0,d4,d1]
    repeat (refine⟨by omega,?_⟩)
    exact next (z - 1) _ _ x (by omega) (by omega) (by omega) (by simp[r]) (by simp[y]) (by simp[w]) (by simp) (by simp[Q]) (by simp[R]) (by simp) (by simp) (by rw[F5 H];exact E) (by rw[F5 l];exact C) (by rw[F5 B,aC d1];exact K)
  ·have r0:¬z<0:=by omega
   have d4:¬4<z:=by omega
   by_cases d1:0≤o.d
   ·have d2:=Z d1;simp[w,P,S,I,F,W,r0,d4,↓F5 l,↓F5 B,C,K,d1,d2,aa d1]
    repeat (refine⟨by omega,?_⟩)
    refine next z _ _ (x+1) (by omega) (by omega) (by omega) (by simp[r]) (by simp[y]) (by simp[w]) (by simp[P]) (by simp[Q]) (by simp[R]) (by simp) (by simp) ?_ ?_ ?_
    ·rw[Ad (by omega),F5 H];exact E
    ·rw[Ad (by omega),F5 l];exact C
    ·rw[Ag (by simp;omega),aB d1,B0]
   ·simp[w,P,S,I,F,W,r0,d4,d1]
    repeat (refine⟨by omega,?_⟩)
    exact next z _ _ x (by omega) (by omega) (by omega) (by simp[r]) (by simp[y]) (by simp[w]) (by simp[P]) (by simp[Q]) (by simp[R]) (by simp) (by simp) (by rw[F5 H];exact E) (by rw[F5 l];exact C) (by rw[F5 B,aC d1];exact K)
 have aQ:Mo vs (R4 vs) 0 os=some (m,z):=by
  rw[Cu (by omega)] at V;rw[←V];rfl
 have l1:os.length≤4096:=by omega
 have l2:rs.length≤4096:=by omega
 have af:Ks vs os rs=(Yy vs m&&decide (z=0)):=by simp[Ks,hv,aE,aQ,l1,l2]
 simp[r,y,w,Q,R,S,g,C,K];refine Iw (fun ρ D G' N=>∃i:Nat,D=[]∧G'=G∧N+i=vs.length∧lk ρ 1=.ptr 0 0∧lk ρ 3=.fn (.func 165) [] [.ptr 0 0]∧lk ρ 6=.ptr p 0∧lk ρ 9=.i z∧lk ρ 121=.i vs.length∧lk ρ 122=.i i ∧
   ∀j,j<i→(gv vs j).mode=3→gb m j=true) (N:=vs.length) ⟨0,rfl,rfl,by omega,by simp[r],by simp[y],by simp[w],by simp[P],by simp[L],by simp,fun j X=>by omega⟩ ?_
 clear r y w P A;rintro N ρ D G' ⟨i,rfl,rfl,hN,r,y,w,P,T,J,ha⟩ Nx A;by_cases g:i<vs.length
 ·have gm:i<m.length:=by omega
  have q1:=Vo (f:=LV.bool) (ir gm);simp[y,T,J,g];refine zdg (i:Int) E (by omega) ?_;cases ho:Mx vs i with
  |false =>
   simp[J];refine⟨by omega,A _ _ _ ⟨N - 1,by omega,i+1,rfl,rfl,by omega,by simp[r],by simp[y],by simp[w],by simp[P],by simp[T],by simp,fun j X O=>?_⟩⟩;by_cases e:j=i
   ·subst e;simp[Mx,O] at ho
   ·exact ha j (by omega) O
  |true =>
   cases hb:gb m i with
   |false =>
    simp[w,J,C,K,gm,Fu q1,hb];have O:(gv vs i).mode=3:=by simp[Mx] at ho;exact ho
    have:Yy vs m=false:=by
     unfold Yy;rw[Eu];exact⟨i,Cp.2 g,by simp[O,hb]⟩
    exact (bad (by rw[af,this];rfl)).symm
   |true =>
    simp[w,J,C,K,gm,Fu q1,hb];refine⟨by omega,A _ _ _ ⟨N - 1,by omega,i+1,rfl,rfl,by omega,by simp[r],by simp[y],by simp[w],by simp[P],by simp[T],by simp,fun j X O=>?_⟩⟩;by_cases e:j=i
    ·rw[e];exact hb
    ·exact ha j (by omega) O
 have aH:Yy vs m=true:=by
  unfold Yy;rw[Cb];intro j X;have X:=Cp.1 X;by_cases O:(gv vs j).mode=3
  ·simp[ha j (by omega) O]
  ·simp[O]
 by_cases d0:z=0
 ·simp[P,T,J,g,d0];simp[M0,af,aH,d0]
 ·simp[P,T,J,g,d0];simp[M0,af,d0]
def zco:LC:=(.q [.z 1 (.box (.t 0)),.z 2 (.move .F)] (.q [.f 3 2 1,.l 4 3,.z 5 (.bin .eql true 3 (.t 4) (.k 1)),.m 6 5,.n 7 6 (.fieldAddr 2 (.t 1)),.n 8 6 (.load1 (.t 7)),.n 9 6 (.bin .eql true 3 (.t 8) (.k 2)),.z 10 (.pick (.t 6) .T (.t 9)),.m 2 10] .ret))
def r_expand_given:Fg Tryz.prog 172=some ⟨11,zco.r,[.tmp 2]⟩:=by kernel_rfl
def zbr:LC:=(.q [.z 4 (.alloc [.nilSl,.nilSl,.nilSl])] (.q [.m 8 0,.z 9 (.build [.nilSl,.nilSl,.nilSl] [(0,1,.t 8)]),.z 5 (.alloc [.nilSl,.nilSl,.nilSl]),.v (.store 3 (.t 5) (.t 9))] (.seq (.q [.m 10 0,.z 11 (.lenSl (.t 10)),.z 12 (.move (.k 0))] (.block 0 (.loop (.q [.z 13 (.bin .lss false 3 (.t 12) (.t 11))] (.seq (.cond (.t 13) .skip (.exit 0)) (.seq (.block 1 (.q [.m 14 12,.z 15 (.ixAddr 3 (.t 10) (.t 12)),.z 16 (.loadN 3 (.t 15)),.z 7 (.alloc [(.i 0),(.bool false),(.i 0)]),.m 6 14,.v (.store 3 (.t 7) (.t 16))] (.q [.z 17 (.loadN 3 (.t 7)),.z 18 (.w 172 [.t 17]),.z 19 (.un .not (.t 18))] (.cond (.t 19) (.ops [.f 20 1 5,.l 21 20,.m 22 6,.z 23 (.build [(.i 0),(.i 0),(.i 0),(.i 0),(.i 0),(.i 0),(.u 0)] [(0,1,.k 1),(1,1,.t 22),(2,1,.k (-1)),(3,1,.k (-1)),(4,1,.k (-1)),(5,1,.k (-1))]),.z 24 (.buildSl 7 1 [(.i 0),(.i 0),(.i 0),(.i 0),(.i 0),(.i 0),(.u 0)] [(0,7,.t 23)]),.z 25 (.appG 7 (.t 21) (.t 24)),.f 26 1 5,.v (.store 1 (.t 26) (.t 25))]) .skip)))) (.ops [.z 27 (.bin .add true 3 (.t 12) (.k 1)),.m 12 27]))))))) (.q [.f 28 1 5,.l 29 28,.m 30 1,.z 31 (.appG 7 (.t 29) (.t 30)),.f 32 1 5,.v (.store 1 (.t 32) (.t 31))] (.q [.z 33 (.loadN 3 (.t 5)),.v (.store 3 (.t 4) (.t 33))] .ret)))))
def r_expand_kernel:Fg Tryz.prog 119=some ⟨34,zbr.r,[.cellN 4 3]⟩:=by kernel_rfl
def z7x:LC:=(.q [.z 3 (.box (.t 1)),.z 4 (.move .F)] (.seq (.q [.f 5 0 3,.l 6 5,.z 7 (.bin .eql true 3 (.t 6) (.k 15)),.m 8 7,.n 9 8 (.fieldAddr 0 (.t 3)),.n 10 8 (.load1 (.t 9)),.n 11 8 (.bin .eql true 3 (.t 10) (.k 16)),.z 12 (.pick (.t 8) .T (.t 11))] (.cond (.t 12) (.q [.z 4 (.move .F)] .ret) .skip)) (.q [.m 13 0,.z 14 (.loadN 7 (.t 3)),.z 15 (.buildSl 7 1 [(.i 0),(.i 0),(.i 0),(.i 0),(.i 0),(.i 0),(.u 0)] [(0,7,.t 14)]),.z 16 (.w 119 [.t 13,.t 15]),.z 17 (.w 118 [.t 16]),.z 18 (.bin .eql true 35 (.t 17) (.k 0)),.m 4 18] .ret)))
def r_expand_May:Fg Tryz.prog 55=some ⟨19,z7x.r,[.tmp 4]⟩:=by kernel_rfl
def z2u:LC:=(.q [.z 2 (.move (.k 0))] (.seq (.q [.m 3 0,.z 4 (.bin .lss true 3 (.t 3) (.k 1))] (.cond (.t 4) (.q [.z 2 (.move (.k 0))] .ret) .skip)) (.q [.m 5 0,.z 6 (.bin .add true 3 (.t 5) (.k 2)),.m 2 6] .ret)))
def r_montgomery_Need:Fg Tryz.prog 21=some ⟨7,z2u.r,[.tmp 2]⟩:=by kernel_rfl
def k_montgomery_Need:z2u.ok=true:=by kernel_rfl
def zb4:LC:=(.q [.z 3 (.box (.t 1)),.z 4 (.move (.k 0))] (.seq (.q [.f 6 0 3,.l 7 6,.z 8 (.bin .neq true 3 (.t 7) (.k 13)),.m 9 8,.mn 10 9 0,.n 11 9 (.loadN 7 (.t 3)),.n 12 9 (.w 55 [.t 10,.t 11]),.n 13 9 (.un .not (.t 12)),.z 14 (.pick (.t 9) .T (.t 13))] (.cond (.t 14) (.q [.z 4 (.move (.k 0))] .ret) .skip)) (.q [.m 15 0,.f 16 5 3,.l 17 16,.z 18 (.ixAddr 3 (.t 15) (.t 17)),.f 19 0 18,.l 20 19,.m 5 20] (.seq (.draw [(.f 21 6 3,[]),(.l 22 21,[]),(.z 23 (.bin .shl true 3 (.k 1) (.t 22)),[]),(.z 24 (.bin .add true 3 (.k 3) (.t 23)),[]),(.m 25 5,[]),(.z 26 (.bin .mul false 3 (.t 24) (.t 25)),[]),(.m 27 0,[]),(.f 28 4 3,[]),(.l 29 28,[]),(.z 30 (.ixAddr 3 (.t 27) (.t 29)),[]),(.f 31 0 30,[]),(.l 32 31,[]),(.z 33 (.bin .add false 3 (.t 26) (.t 32)),[]),(.z 34 (.bin .add true 3 (.t 33) (.k 1)),[]),(.m 35 5,[]),(.z 36 (.w 21 [.t 35]),[(.l 32 31,false),(.l 29 28,false),(.l 22 21,false)]),(.z 37 (.bin .add false 3 (.t 34) (.t 36)),[]),(.m 4 37,[])]) .ret))))
def r_power_Work:Fg Tryz.prog 42=some ⟨38,zb4.r,[.tmp 4]⟩:=by kernel_rfl
def zbe (v:Vr):F4 172 [.agg v.f] (.bool (Kc v)) []:=by
 refine Hg.val rfl (E9 r_expand_given (by kernel_rfl) (by simp) ?_);by_cases a:v.mode=1<;>simp[zco,Vr.f,Kc,a]
def zrq {vs:List Vr}{i:Nat}(h:i<vs.length):Nc i (vs.drop i)=(if Kc (gv vs i)=true then [] else [Qn 1 i])++Nc (i+1) (vs.drop (i+1)):=by
 rw[zrm h,Nc];split<;>rfl
def zxr (l:List LV):(LV.agg l).cells=some l:=rfl
def zy7 (a b:List Ko):Mg (a++b)=Mg a++Mg b:=by simp[Mg]
def zad (vs:List Vr)(new:List Ko)(T:vs.length≤1000000)(U:new.length≤1000000):H6 119 [.lst (Hq vs) vs.length 3,.lst (Mg new) new.length 7] (.agg (Jx vs (Nc 0 vs++new) [])):=by
 refine La.mk (by simp[Jx,LV.dat,dats,Ll,vz]) (E9 r_expand_kernel (by kernel_rfl) (by simp) ?_);simp[zbr];refine Iw (fun ρ D G N=>∃(i:Nat) (L:List Ko) (v:LV) (st:Nat),D=[]∧N+i=vs.length∧lk ρ 1=.lst (Mg new) new.length 7∧lk ρ 4=.ptr 0 0∧lk ρ 5=.ptr 1 0∧lk ρ 10=.lst (Hq vs) vs.length 3∧lk ρ 11=.i vs.length∧lk ρ 12=.i i ∧
   1<G.length∧G[0]?=some (.cells [.nilSl,.nilSl,.nilSl] 0)∧G[1]?=some (.cells [.lst (Hq vs) vs.length 3,v,.nilSl] st)∧Rw 2 G v 7 L.length (Mg L)∧L.length≤i∧Nc 0 vs=L++Nc i (vs.drop i)) (N:=vs.length)
  ⟨0,[],.nilSl,1,rfl,by omega,by simp,by simp,by simp,by simp,by simp,by simp,by simp,by simp,by simp,Rw.nil,by simp,by simp⟩ ?_
 rintro N ρ D G ⟨i,L,v,st,rfl,V,F,H,z,p,q,r,s,w,d,I,P,a⟩ W A;have B:0<G.length:=by omega
 by_cases g:i<vs.length
 ·have Q:=Nq g;have R:=zdp Q;have J:=o9 g;have M:(gv vs i).f=[.i (gv vs i).limbs,.bool (gv vs i).sec,.i (gv vs i).mode]:=rfl;have C:=zrq g;rw[C] at a;simp[p,q,r,g,R,J,M];rw[←M];refine E5 (zbe (gv vs i)) (bors_self _ rfl) ?_;cases E:Kc (gv vs i) with
  |true =>
   rw[E] at a;simp[r];refine⟨by omega,A _ _ _ ⟨N - 1,by omega,i+1,L,v,st,rfl,by omega,by simp[F],by simp[H],by simp[z],by simp[p],by simp[q],by simp,by simp;omega,by rw[F5 B];exact w,by rw[F5 s];exact d,I.push_end,by omega,by simpa using a⟩⟩
  |false =>
   rw[E] at a;simp[z,↓F5 s,d];refine Rw.push (m:=1) (x:=(Qn 1 i).f) I.push_end (by omega) (by simp) (by omega) rfl fun O G' h j S=>?_
   have l:G'[1]?=some (.cells [.lst (Hq vs) vs.length 3,v,.nilSl] st):=by rw[j 1 (by omega),F5 s];exact d
   have o:G'[0]?=some (.cells [.nilSl,.nilSl,.nilSl] 0):=by rw[j 0 (by omega),F5 B];exact w
   have K:=h.cells;simp[-LV.cells,z,r,l,K];refine⟨by omega,A _ _ _ ⟨N - 1,by omega,i+1,L++[Qn 1 i],O,st+1,rfl,by omega,by simp[F],by simp[H],by simp[z],by simp[p],by simp[q],by simp,by simp;omega,?_,?_,?_,by simp;omega,by simpa using a⟩⟩
   ·rw[Ad (by omega)];exact o
   ·rw[Ag (by omega)]
   ·rw[zy7,Aj,show Mg [Qn 1 (i:Int)]=(Qn 1 i).f by simp[Mg]];exact h.set_lt (by omega)
 ·rw[Cu (by omega)] at a;have a:Nc 0 vs=L:=by simpa [Nc] using a
  simp[F,z,p,q,r,g,d];refine⟨by omega,?_⟩;refine Rw.push (m:=new.length) I (by omega) (by omega) (by omega) (eg new) fun O G' h j S=>?_
  have l:G'[1]?=some (.cells [.lst (Hq vs) vs.length 3,v,.nilSl] st):=by rw[j 1 (by omega)];exact d
  have o:G'[0]?=some (.cells [.nilSl,.nilSl,.nilSl] 0):=by rw[j 0 (by omega)];exact w
  have K:=h.cells;have s1:∀x,(G'.set 1 x)[1]?=some x:=fun x=>Ag (by omega)
  have s0:∀x,(G'.set 1 x)[0]?=some (.cells [.nilSl,.nilSl,.nilSl] 0):=fun x=>by rw[Ad (by omega)];exact o
  have s2:∀x y,((G'.set 1 x).set 0 y)[0]?=some y:=fun x y=>Ag (by rw[Ce];omega)
  simp[-LV.cells,H,z,↓l,↓s1,↓s0,↓s2,K,zxr];refine⟨_,_,rfl,⟨rfl,Ll vs⟩,_,_,rfl,?_,_,rfl,.inr ⟨7,rfl⟩⟩;rw[a,zy7,Aj];exact ((h.set_lt (by omega)).set_lt (by omega)).bor (dats_app (vz _) (vz _))
def Zh (o:Ko):o.f=Mg [o]:=by simp[Mg]
def zmk (vs:List Vr)(o:Ko)(h:vs.length≤1000000):F4 55 [.lst (Hq vs) vs.length 3,.agg o.f] (.bool (L5 vs o)) []:=by
 refine Hg.val rfl (E9 r_expand_May (by kernel_rfl) (by simp) ?_);have g:o.f=[.i o.kind,.i o.d,.i o.e,.i o.a,.i o.b,.i o.c,.u o.imm]:=rfl;by_cases d:o.kind=15
 ·simp[z7x,g,d];simp[L5,g8,d]
 by_cases f:o.kind=16
 ·simp[z7x,g,d,f];simp[L5,g8,f]
 simp[z7x,g,d,f];refine Ye (a:=[.lst (Hq vs) vs.length 3]) (b:=[]) rfl ?_;rw[←g,Zh];refine Jo (zad vs [o] h (by simp)) (by simp[dats,LV.dat,Ll,vz]) ?_;simp;refine E5 (zah vs _ [] (by omega)) (bors_self _ (by simp[Jx,dats,LV.dat,Ll,vz])) ?_;simp[L5,g8,d,f,M0]
def zew (n:Int)(h:1≤n∧n≤512):F4 21 [.i n] (.i (n+2)) []:=by
 refine Hg.val rfl (E9 r_montgomery_Need k_montgomery_Need (by simp) ?_);have a:¬n<1:=by omega
 simp[z2u,a];omega
def v9 (vs:List Vr)(o:Ko)(r:vs.length≤1000000):F4 42 [.lst (Hq vs) vs.length 3,.agg o.f] (.i (Gs vs o)) []:=by
 refine Hg.val rfl (E9 r_power_Work (by kernel_rfl) (by simp) ?_);have d:o.f=[.i o.kind,.i o.d,.i o.e,.i o.a,.i o.b,.i o.c,.u o.imm]:=rfl;by_cases hk:o.kind=13
 case neg=>simp[zb4,d,hk,Gs]
 simp[zb4,d,hk];have h:=zmk vs o r;rw[d,hk] at h;refine E5 h (bors_self _ (by simp[dats,LV.dat,Ll])) ?_;cases hm:L5 vs o with
 |false=>simp[Gs,hm]
 |true =>
 obtain⟨hv,j,l,_⟩:=zoe (s:=29) hm (by simp[Jj,hk]);obtain⟨a,f,w,m,la⟩:=zb1 hv (xm j (by decide));obtain⟨b,g,p,q,x⟩:=zb1 hv (yw j (by decide));simp[Km,hk] at l;simp[f,g,w,p];simp[f] at m la;simp[g] at q x;simp[Fu m,Fu q];have y:o.imm.toNat≤6:=by have:=l.2;rw[Bq] at this;exact this
 have hw:∀n,n≤6→(1:Int)≤2^n∧(2:Int)^n≤64:=by decide
 obtain⟨z,A⟩:=hw _ y;have m1:(0:Int)≤(3+2^o.imm.toNat)*Jw vs a:=Int.mul_nonneg (by omega) (by omega);have B:(3+2^o.imm.toNat)*Jw vs a≤67*512:=Int.mul_le_mul (by omega) la.2 (by omega) (by omega);refine⟨by omega,by omega,by omega,by omega,p,by omega,by omega,?_⟩;refine E5 (zew (Jw vs (a:Int)) la) (by simp) ?_;simp
 repeat (refine⟨by omega,?_⟩)
 simp[Gs,hm,hk,f,g]
def z2a:LC:=(.q [.z 4 (.move (.k 0))] (.seq (.q [.m 6 0,.z 7 (.lenSl (.t 6)),.z 8 (.move (.k 0))] (.block 0 (.loop (.q [.z 9 (.bin .lss false 3 (.t 8) (.t 7))] (.seq (.cond (.t 9) .skip (.exit 0)) (.seq (.block 1 (.q [.m 10 8,.m 5 10] (.q [.m 11 1,.m 12 0,.m 13 5,.z 14 (.ixAddr 3 (.t 12) (.t 13)),.z 15 (.loadN 3 (.t 14)),.z 16 (.callV (.t 11) [.t 15])] (.cond (.t 16) (.q [.m 17 5,.m 4 17] .ret) .skip)))) (.ops [.z 18 (.bin .add true 3 (.t 8) (.k 1)),.m 8 18]))))))) (.q [.z 4 (.move (.k (-1)))] .ret)))
def r_slices_IndexFunc_api_Buf_api_Buf:Fg Tryz.prog 213=some ⟨19,z2a.r,[.tmp 4]⟩:=by kernel_rfl
def z21:LC:=(.q [.z 4 (.move .F)] (.q [.m 5 0,.m 6 1,.z 7 (.w 213 [.t 5,.t 6]),.z 8 (.bin .geq true 3 (.t 7) (.k 0)),.m 4 8] .ret))
def r_slices_ContainsFunc_api_Buf_api_Buf:Fg Tryz.prog 200=some ⟨9,z21.r,[.tmp 4]⟩:=by kernel_rfl
def zdn:LC:=(.q [.z 1 (.box (.t 0)),.z 2 (.move (.k 0))] (.seq (.q [.f 3 0 1,.l 4 3,.z 5 (.bin .gtr true 3 (.t 4) (.k 64)),.m 6 5,.n 7 6 (.fieldAddr 1 (.t 1)),.n 8 6 (.load1 (.t 7)),.n 9 6 (.lenSl (.t 8)),.n 10 6 (.bin .gtr true 3 (.t 9) (.k 32)),.z 11 (.pick (.t 6) .T (.t 10)),.m 12 11,.n 13 12 (.fieldAddr 2 (.t 1)),.n 14 12 (.load1 (.t 13)),.n 15 12 (.lenSl (.t 14)),.n 16 12 (.bin .gtr true 3 (.t 15) (.k 65536)),.z 17 (.pick (.t 12) .T (.t 16))] (.cond (.t 17) (.q [.z 2 (.move (.k 3))] .ret) .skip)) (.seq (.q [.f 18 1 1,.l 19 18,.z 20 (.w 200 [.t 19,(.c (.fn (.func 201) [] []))])] (.cond (.t 20) (.q [.z 2 (.move (.k 3))] .ret) .skip)) (.seq (.q [.f 21 0 1,.l 22 21,.z 23 (.bin .lss true 3 (.t 22) (.k 0)),.m 24 23,.n 25 24 (.fieldAddr 1 (.t 1)),.n 26 24 (.load1 (.t 25)),.n 27 24 (.w 200 [.t 26,(.c (.fn (.func 202) [] []))]),.z 28 (.pick (.t 24) .T (.t 27))] (.cond (.t 28) (.q [.z 2 (.move (.k 2))] .ret) .skip)) (.q [.z 2 (.move (.k 0))] .ret)))))
def r_limb_head:Fg Tryz.prog 196=some ⟨29,zdn.r,[.tmp 2]⟩:=by kernel_rfl
def zet:LC:=(.q [.z 1 (.box (.t 0)),.z 2 (.move .F)] (.q [.f 3 0 1,.l 4 3,.z 5 (.bin .gtr true 3 (.t 4) (.k 65536)),.m 2 5] .ret))
def r_limb_head_1:Fg Tryz.prog 201=some ⟨6,zet.r,[.tmp 2]⟩:=by kernel_rfl
def z6x:LC:=(.q [.z 1 (.box (.t 0)),.z 2 (.move .F)] (.q [.f 3 0 1,.l 4 3,.z 5 (.bin .lss true 3 (.t 4) (.k 1)),.m 6 5,.n 7 6 (.fieldAddr 1 (.t 1)),.n 8 6 (.load1 (.t 7)),.n 9 6 (.bin .lss true 3 (.t 8) (.k 1)),.z 10 (.pick (.t 6) .T (.t 9)),.m 11 10,.n 12 11 (.fieldAddr 1 (.t 1)),.n 13 11 (.load1 (.t 12)),.n 14 11 (.bin .gtr true 3 (.t 13) (.k 3)),.z 15 (.pick (.t 11) .T (.t 14)),.m 2 15] .ret))
def r_limb_head_2:Fg Tryz.prog 202=some ⟨16,z6x.r,[.tmp 2]⟩:=by kernel_rfl
def zg1:LC:=(.q [.z 1 (.box (.t 0)),.z 2 (.move (.k 0)),.z 3 (.move (.k 0))] (.seq (.q [.z 9 (.loadN 3 (.t 1)),.z 10 (.w 196 [.t 9]),.m 4 10] (.q [.m 11 4,.z 12 (.bin .neq true 35 (.t 11) (.k 0))] (.cond (.t 12) (.q [.m 13 4,.z 2 (.move (.k 0)),.m 3 13] .ret) .skip))) (.q [.z 14 (.loadN 3 (.t 1)),.z 15 (.build [(.i 0),.nilSl,.nilSl,(.bool false),(.bool false),(.bool false),(.bool false),(.bool false),(.bool false),(.bool false),(.bool false),(.bool false),(.bool false),(.bool false),(.bool false),(.bool false),(.bool false),(.bool false),(.bool false),(.bool false),(.bool false),(.bool false),(.bool false),(.bool false),(.bool false),(.bool false),(.bool false),(.bool false),(.bool false),(.bool false),(.bool false),(.bool false),(.bool false),(.bool false),(.bool false),(.bool false),(.bool false),(.bool false),(.bool false),(.bool false),(.bool false),(.bool false),(.bool false),(.bool false),(.bool false),(.bool false),(.bool false),(.bool false),(.bool false),(.bool false),(.bool false),(.bool false),(.bool false),(.bool false),(.bool false),(.bool false),(.bool false),(.bool false),(.bool false),(.bool false),(.bool false),(.bool false),(.bool false),(.bool false),(.bool false),(.bool false),(.bool false),.nilSl] [(0,3,.t 14)]),.z 16 (.box (.t 15)),.m 5 16] (.seq (.q [.f 17 2 1,.l 18 17,.z 19 (.lenSl (.t 18)),.z 20 (.move (.k 0))] (.block 0 (.loop (.q [.z 21 (.bin .lss false 3 (.t 20) (.t 19))] (.seq (.cond (.t 21) .skip (.exit 0)) (.seq (.block 1 (.q [.m 22 20,.z 23 (.ixAddr 8 (.t 18) (.t 20)),.z 24 (.loadN 8 (.t 23)),.z 7 (.alloc [(.i 0),(.i 0),(.i 0),(.i 0),(.i 0),(.i 0),(.i 0),(.u 0)]),.m 6 22,.v (.store 8 (.t 7) (.t 24))] (.q [.m 25 5,.z 26 (.loadN 8 (.t 7)),.z 27 (.w 197 [.t 25,.t 26]),.m 8 27] (.q [.m 28 8,.z 29 (.bin .neq true 35 (.t 28) (.k 0))] (.cond (.t 29) (.q [.m 30 6,.m 31 8,.m 2 30,.m 3 31] .ret) .skip))))) (.ops [.z 32 (.bin .add true 3 (.t 20) (.k 1)),.m 20 32]))))))) (.seq (.q [.m 33 5,.z 34 (.nilChk (.t 33)),.f 35 67 34,.l 36 35,.z 37 (.lenSl (.t 36)),.z 38 (.bin .gtr true 3 (.t 37) (.k 0))] (.cond (.t 38) (.q [.f 39 2 1,.l 40 39,.z 41 (.lenSl (.t 40)),.m 2 41,.z 3 (.move (.k 9))] .ret) .skip)) (.q [.f 42 2 1,.l 43 42,.z 44 (.lenSl (.t 43)),.m 2 44,.z 3 (.move (.k 0))] .ret))))))
def r_limb_Check:Fg Tryz.prog 174=some ⟨45,zg1.r,[.tmp 2,.tmp 3]⟩:=by kernel_rfl
def ka:LC:=(.q [.z 2 (.box (.t 0)),.z 3 (.box (.t 1)),.z 4 (.move .F)] (.seq (.q [.f 6 0 3,.l 7 6,.z 8 (.bin .lss true 3 (.t 7) (.k 0)),.m 9 8,.n 10 9 (.fieldAddr 0 (.t 3)),.n 11 9 (.load1 (.t 10)),.n 12 9 (.fieldAddr 0 (.t 2)),.n 13 9 (.load1 (.t 12)),.n 14 9 (.lenSl (.t 13)),.n 15 9 (.bin .geq false 3 (.t 11) (.t 14)),.z 16 (.pick (.t 9) .T (.t 15)),.m 17 16,.n 18 17 (.fieldAddr 2 (.t 3)),.n 19 17 (.load1 (.t 18)),.n 20 17 (.bin .lss true 3 (.t 19) (.k 1)),.z 21 (.pick (.t 17) .T (.t 20)),.m 22 21,.n 23 22 (.fieldAddr 2 (.t 3)),.n 24 22 (.load1 (.t 23)),.n 25 22 (.bin .gtr true 3 (.t 24) (.k 32768)),.z 26 (.pick (.t 22) .T (.t 25)),.m 27 26,.n 28 27 (.fieldAddr 1 (.t 3)),.n 29 27 (.load1 (.t 28)),.n 30 27 (.bin .lss true 3 (.t 29) (.k 0)),.z 31 (.pick (.t 27) .T (.t 30))] (.cond (.t 31) (.q [.z 4 (.move .F)] .ret) .skip)) (.q [.f 32 0 2,.l 33 32,.f 34 0 3,.l 35 34,.z 36 (.ixAddr 3 (.t 33) (.t 35)),.f 37 0 36,.l 38 37,.m 5 38] (.q [.f 39 1 3,.l 40 39,.m 41 5,.z 42 (.bin .leq false 3 (.t 40) (.t 41)),.m 43 42,.y 44 43 (.fieldAddr 2 (.t 3)),.y 45 43 (.load1 (.t 44)),.my 46 43 5,.y 47 43 (.fieldAddr 1 (.t 3)),.y 48 43 (.load1 (.t 47)),.y 49 43 (.bin .sub false 3 (.t 46) (.t 48)),.y 50 43 (.bin .leq false 3 (.t 45) (.t 49)),.z 51 (.pick (.t 43) (.t 50) .F),.m 4 51] .ret))))
def r_expand_lies:Fg Tryz.prog 175=some ⟨52,ka.r,[.tmp 4]⟩:=by kernel_rfl
def zcz:LC:=(.q [.z 3 (.box (.t 1)),.z 4 (.move (.k 0))] (.seq (.q [.m 13 0,.z 14 (.w 119 [.t 13,(.c .nilSl)]),.z 15 (.w 118 [.t 14]),.z 16 (.bin .neq true 35 (.t 15) (.k 0)),.m 17 16,.n 18 17 (.fieldAddr 0 (.t 3)),.n 19 17 (.load1 (.t 18)),.n 20 17 (.lenSl (.t 19)),.n 21 17 (.bin .lss true 3 (.t 20) (.k 1)),.z 22 (.pick (.t 17) .T (.t 21)),.m 23 22,.n 24 23 (.fieldAddr 1 (.t 3)),.n 25 23 (.load1 (.t 24)),.n 26 23 (.lenSl (.t 25)),.mn 27 23 0,.n 28 23 (.lenSl (.t 27)),.n 29 23 (.bin .neq false 3 (.t 26) (.t 28)),.z 30 (.pick (.t 23) .T (.t 29))] (.cond (.t 30) (.q [.z 4 (.move (.k 2))] .ret) .skip)) (.seq (.q [.f 32 0 3,.l 33 32,.z 34 (.build [(.i 0),.nilSl,.nilSl] [(1,1,.t 33)]),.z 35 (.w 174 [.t 34]),.m 31 35,.z 36 (.extract 0 (.t 31)),.z 37 (.extract 1 (.t 31)),.m 5 36,.m 6 37] (.q [.m 38 6,.z 39 (.bin .neq true 35 (.t 38) (.k 0))] (.cond (.t 39) (.q [.z 4 (.move (.k 2))] .ret) .skip))) (.seq (.q [.m 40 0,.z 41 (.lenSl (.t 40)),.z 42 (.move (.k 0))] (.block 0 (.loop (.q [.z 43 (.bin .lss false 3 (.t 42) (.t 41))] (.seq (.cond (.t 43) .skip (.exit 0)) (.seq (.block 1 (.q [.m 44 42,.z 45 (.ixAddr 3 (.t 40) (.t 42)),.z 46 (.loadN 3 (.t 45)),.z 8 (.alloc [(.i 0),(.bool false),(.i 0)]),.m 7 44,.v (.store 3 (.t 8) (.t 46))] (.q [.f 47 1 3,.l 48 47,.m 49 7,.z 50 (.ixAddr 3 (.t 48) (.t 49)),.z 51 (.loadN 3 (.t 50)),.z 9 (.alloc [(.i 0),(.i 0),(.i 0)]),.v (.store 3 (.t 9) (.t 51))] (.seq (.q [.z 52 (.loadN 8 (.t 3)),.z 53 (.loadN 3 (.t 9)),.z 54 (.w 175 [.t 52,.t 53]),.z 55 (.un .not (.t 54)),.m 56 55,.n 57 56 (.fieldAddr 2 (.t 9)),.n 58 56 (.load1 (.t 57)),.n 59 56 (.fieldAddr 0 (.t 8)),.n 60 56 (.load1 (.t 59)),.n 61 56 (.bin .neq false 3 (.t 58) (.t 60)),.z 62 (.pick (.t 56) .T (.t 61))] (.cond (.t 62) (.q [.z 4 (.move (.k 2))] .ret) .skip)) (.q [.f 63 0 3,.l 64 63,.f 65 0 9,.l 66 65,.z 67 (.ixAddr 3 (.t 64) (.t 66)),.z 68 (.loadN 3 (.t 67)),.z 10 (.alloc [(.i 0),(.i 0),(.bool false)]),.v (.store 3 (.t 10) (.t 68))] (.q [.f 69 1 10,.l 70 69,.z 71 (.bin .eql true 3 (.t 70) (.k 1)),.m 72 71,.y 73 72 (.loadN 3 (.t 8)),.y 74 72 (.w 172 [.t 73]),.y 75 72 (.un .not (.t 74)),.z 76 (.pick (.t 72) (.t 75) .F),.m 77 76,.n 78 77 (.fieldAddr 1 (.t 10)),.n 79 77 (.load1 (.t 78)),.n 80 77 (.bin .eql true 3 (.t 79) (.k 2)),.mn 81 77 80,.y 82 81 (.loadN 3 (.t 8)),.y 83 81 (.w 172 [.t 82]),.n 84 77 (.pick (.t 81) (.t 83) .F),.z 85 (.pick (.t 77) .T (.t 84)),.m 86 85,.n 87 86 (.fieldAddr 1 (.t 8)),.n 88 86 (.load1 (.t 87)),.n 89 86 (.fieldAddr 2 (.t 10)),.n 90 86 (.load1 (.t 89)),.n 91 86 (.bin .neq false 4 (.t 88) (.t 90)),.z 92 (.pick (.t 86) .T (.t 91))] (.cond (.t 92) (.q [.z 4 (.move (.k 2))] .ret) .skip))))))) (.ops [.z 93 (.bin .add true 3 (.t 42) (.k 1)),.m 42 93]))))))) (.seq (.q [.f 94 2 3,.z 95 (.loadN 6 (.t 94)),.z 96 (.move (.k 0))] (.block 2 (.loop (.q [.z 97 (.bin .lss true 3 (.t 96) (.k 2))] (.seq (.cond (.t 97) .skip (.exit 2)) (.seq (.block 3 (.q [.m 98 96,.z 99 (.ixArr true 2 3 (.t 95) (.t 96)),.z 12 (.alloc [(.i 0),(.i 0),(.i 0)]),.m 11 98,.v (.store 3 (.t 12) (.t 99))] (.q [.z 100 (.loadN 8 (.t 3)),.z 101 (.loadN 3 (.t 12)),.z 102 (.w 175 [.t 100,.t 101]),.z 103 (.un .not (.t 102)),.m 104 103,.n 105 104 (.fieldAddr 0 (.t 3)),.n 106 104 (.load1 (.t 105)),.n 107 104 (.fieldAddr 0 (.t 12)),.n 108 104 (.load1 (.t 107)),.n 109 104 (.ixAddr 3 (.t 106) (.t 108)),.n 110 104 (.fieldAddr 1 (.t 109)),.n 111 104 (.load1 (.t 110)),.n 112 104 (.bin .eql true 3 (.t 111) (.k 1)),.z 113 (.pick (.t 104) .T (.t 112)),.m 114 113,.n 115 114 (.fieldAddr 0 (.t 3)),.n 116 114 (.load1 (.t 115)),.n 117 114 (.fieldAddr 0 (.t 12)),.n 118 114 (.load1 (.t 117)),.n 119 114 (.ixAddr 3 (.t 116) (.t 118)),.n 120 114 (.fieldAddr 2 (.t 119)),.n 121 114 (.load1 (.t 120)),.mn 122 114 11,.n 123 114 (.bin .eql true 3 (.t 122) (.k 1)),.n 124 114 (.bin .neq false 4 (.t 121) (.t 123)),.z 125 (.pick (.t 114) .T (.t 124))] (.cond (.t 125) (.q [.z 4 (.move (.k 2))] .ret) .skip)))) (.ops [.z 126 (.bin .add true 3 (.t 96) (.k 1)),.m 96 126]))))))) (.q [.z 4 (.move (.k 0))] .ret))))))
def r_expand_Check:Fg Tryz.prog 125=some ⟨127,zcz.r,[.tmp 4]⟩:=by kernel_rfl
def z4v:LC:=(.q [.z 3 (.box (.t 1)),.z 4 (.move .F)] (.q [.f 5 1 3,.l 6 5,.z 7 (.bin .geq true 3 (.t 6) (.k 0)),.m 8 7,.y 9 8 (.fieldAddr 1 (.t 3)),.y 10 8 (.load1 (.t 9)),.my 11 8 0,.y 12 8 (.lenSl (.t 11)),.y 13 8 (.bin .lss false 3 (.t 10) (.t 12)),.z 14 (.pick (.t 8) (.t 13) .F),.m 15 14,.my 16 15 0,.y 17 15 (.fieldAddr 1 (.t 3)),.y 18 15 (.load1 (.t 17)),.y 19 15 (.ixAddr 3 (.t 16) (.t 18)),.y 20 15 (.fieldAddr 1 (.t 19)),.y 21 15 (.load1 (.t 20)),.y 22 15 (.un .not (.t 21)),.z 23 (.pick (.t 15) (.t 22) .F),.m 4 23] .ret))
def r_expand_Public:Fg Tryz.prog 126=some ⟨24,z4v.r,[.tmp 4]⟩:=by kernel_rfl
def zds:LC:=(.q [.z 4 (.box (.t 1)),.z 5 (.box (.t 2)),.z 6 (.move (.k 0)),.z 7 (.alloc [(.i 0),(.i 0),(.i 0)])] (.seq (.q [.m 8 0,.z 9 (.loadN 7 (.t 4)),.z 10 (.w 126 [.t 8,.t 9])] (.cond (.t 10) (.seq (.draw [(.f 11 2 5,[]),(.z 12 (.ixAddrArr 2 3 (.t 11) (.k 0)),[]),(.z 13 (.loadN 3 (.t 12)),[]),(.z 6 (.move (.k 16)),[]),(.v (.store 3 (.t 7) (.t 13)),[])]) .ret) .skip)) (.seq (.draw [(.f 14 2 5,[]),(.z 15 (.ixAddrArr 2 3 (.t 14) (.k 1)),[]),(.z 16 (.loadN 3 (.t 15)),[]),(.z 6 (.move (.k 40)),[]),(.v (.store 3 (.t 7) (.t 16)),[])]) .ret)))
def r_expand_Base:Fg Tryz.prog 59=some ⟨17,zds.r,[.tmp 6,.cellN 7 3]⟩:=by kernel_rfl
def zcm:LC:=(.q [.z 6 (.box (.t 1)),.z 7 (.box (.t 2)),.z 10 (.move .F)] (.seq (.q [.m 13 0,.z 14 (.loadN 8 (.t 7)),.z 15 (.w 125 [.t 13,.t 14]),.z 16 (.bin .neq true 35 (.t 15) (.k 0)),.m 17 16,.mn 18 17 4,.n 19 17 (.bin .lss true 3 (.t 18) (.k 1)),.z 20 (.pick (.t 17) .T (.t 19)),.m 21 20,.mn 22 21 3,.n 23 21 (.bin .lss true 3 (.t 22) (.k 0)),.z 24 (.pick (.t 21) .T (.t 23)),.m 25 24,.mn 26 25 3,.n 27 25 (.bin .gtr true 3 (.t 26) (.k 4)),.z 28 (.pick (.t 25) .T (.t 27))] (.cond (.t 28) (.q [.z 10 (.move .F)] .ret) .skip)) (.q [.m 30 0,.z 31 (.loadN 7 (.t 6)),.z 32 (.loadN 8 (.t 7)),.z 33 (.w 59 [.t 30,.t 31,.t 32]),.m 29 33,.z 34 (.extract 0 (.t 29)),.z 35 (.extract 1 (.t 29)),.z 12 (.alloc [(.i 0),(.i 0),(.i 0)]),.m 11 34,.v (.store 3 (.t 12) (.t 35))] (.q [.m 36 4,.f 37 2 12,.l 38 37,.z 39 (.bin .leq false 3 (.t 36) (.t 38)),.m 10 39] .ret))))
def r_expand_Ready:Fg Tryz.prog 58=some ⟨40,zcm.r,[.tmp 10]⟩:=by kernel_rfl
def Ii (bs:List Bf)(f:List Pc)(a d:Pc):List LV:=[.lst (Ga bs) bs.length 3,.lst (Om f) f.length 3,.i a.buf,.i a.at_,.i a.size,.i d.buf,.i d.at_,.i d.size]
def Pc.f_len (p:Pc):p.f.length=3:=rfl
def xy (l:List Pc):dats (Om l)=true:=tx (fun _=>rfl) l
def w8 {l:List Pc}{i:Nat}{v:Pc}(h:l[i]?=some v):((Om l).drop (i*3)).take 3=v.f:=va Pc.f_len h
def O4 {l:List Pc}{i:Nat}(h:i<l.length):i*3+3≤(Om l).length:=O6 Pc.f_len h
def yx {l:List Pc}{n:Nat}(h:n<l.length):l[n]?=some (H7 l n):=by simp[H7,Ae,h]
def o7 (bs:List Bf)(a:List Pc)(d f:Pc):dats (Ii bs a d f)=true:=by simp[Ii,dats,LV.dat,Jf,xy]
def zqc {G:Ev}{l:List Bf}{f:Nat}{a b:List LV}{p:Bf→Bool}{K:LV→Ev→Prop}(C:l.length≤9223372036854775807)
  (A:∀v∈l,∀x:LV→Ev→Prop,x (.bool (p v)) G→F1 (.fn f) (a++[.agg v.f]++b) G x) (k:K (.i (S0 p l)) G):F1 (.fn 213) [.lst (Ga l) l.length 3,.fn (.func f) a b] G K:=by
 refine E9 r_slices_IndexFunc_api_Buf_api_Buf (by kernel_rfl) (by simp) ?_;simp[z2a];refine Iw (fun ρ D G' N=>∃i:Nat,D=[]∧G'=G∧N+i=l.length∧lk ρ 0=.lst (Ga l) l.length 3∧lk ρ 1=.fn (.func f) a b∧lk ρ 7=.i l.length∧lk ρ 8=.i i∧∀j b,j<i→l[j]?=some b→p b=false) (N:=l.length) ⟨0,by simp⟩ ?_;rintro N ρ D G' ⟨i,rfl,rfl,E,h,m,o,q,r⟩ F s;by_cases hi:l.length≤i
 ·have g:¬i<l.length:=by omega
  simp[h,m,o,q,g];rw[←ztg hi r];exact k
 ·have g:i<l.length:=by omega
  have w:=Ah g;have B:=Yp g;simp[h,m,o,q,g,zsx w,B];have y:=A l[i] (Dw g);simp only[Br,List.singleton_append] at y;refine y _ ?_;cases z:p l[i] with
  |true =>
   simp;rw[←Wv w z r];exact k
  |false =>
   simp[q];refine⟨by omega,s _ _ _ ⟨N - 1,by omega,i+1,rfl,rfl,by omega,by simp[h],by simp[m],by simp[o],by simp,fun j b H d=>?_⟩⟩;by_cases e:j=i
   ·subst e;rw[w] at d;cases d;exact z
   ·exact r j b (by omega) d
def zcr {G:Ev}{l:List Bf}{f:Nat}{a b:List LV}{p:Bf→Bool}{K:LV→Ev→Prop}(g:l.length≤9223372036854775807)
  (h:∀v∈l,∀d:LV→Ev→Prop,d (.bool (p v)) G→F1 (.fn f) (a++[.agg v.f]++b) G d) (k:K (.bool (l.any p)) G):F1 (.fn 200) [.lst (Ga l) l.length 3,.fn (.func f) a b] G K:=by
 refine E9 r_slices_ContainsFunc_api_Buf_api_Buf (by kernel_rfl) (by simp) ?_;simp[z21];refine zqc g h ?_;simp;rw[zyg];exact k
def zk5 (b:Bf):F4 201 [.agg b.f] (.bool (decide (65536<b.size))) []:=by
 refine Hg.val rfl (E9 r_limb_head_1 (by kernel_rfl) (by simp) ?_);simp[zet,Bf.f]
def zjq (b:Bf):F4 202 [.agg b.f] (.bool (decide (b.size<1) || (decide (b.kind<1) || decide (3<b.kind)))) []:=by
 refine Hg.val rfl (E9 r_limb_head_2 (by kernel_rfl) (by simp) ?_);by_cases a:b.size<1
 ·simp[z6x,Bf.f,a]
 by_cases d:b.kind<1
 ·simp[z6x,Bf.f,a,d]
 simp[z6x,Bf.f,a,d]
def zou (bs:List Bf)(l:bs.length≤9223372036854775807):F4 196 [.agg [.i 0,.lst (Ga bs) bs.length 3,.nilSl]] (.i (Ta bs)) []:=by
 refine Hg.val rfl (E9 r_limb_head (by kernel_rfl) (by simp) ?_);by_cases j:32<bs.length
 ·have f:(32:Int)<bs.length:=by omega
  simp[zdn,Ta,j,f]
 have f:¬(32:Int)<bs.length:=by omega
 simp[zdn,j,f];refine zcr (a:=[]) (b:=[]) (p:=fun b=>decide (65536<b.size)) l (fun v hv m k=>E5 (zk5 v) (bors_self _ rfl) k) ?_;by_cases g:(bs.any fun b=>decide (65536<b.size))=true
 ·simp only[Ta,Ab j,Ai g];rw[g];simp
 simp only[Ta,Ab j,Ab g];rw[Bool.not_eq_true] at g;rw[g];simp;generalize d:(bs.any fun b=>decide (b.size<1) || (decide (b.kind<1) || decide (3<b.kind)))=o;refine zcr (a:=[]) (b:=[]) (p:=fun b=>decide (b.size<1) || (decide (b.kind<1) || decide (3<b.kind))) l (fun v hv m k=>E5 (zjq v) (bors_self _ rfl) k) ?_;rw[d];cases o with
 |true =>
  simp at d ⊢;obtain⟨x,q,h⟩:=d;exact⟨x,q,fun _ _=>by omega⟩
 |false=>simp;simpa using d
def X9 (a b:Bool):J6 Tryz.prog false 4 (.bool a) (.bool b)=some (a==b):=by cases a<;>cases b<;>kernel_rfl
def zej (bs:List Bf)(m:bs.length≤9223372036854775807):F4 174 [.agg [.i 0,.lst (Ga bs) bs.length 3,.nilSl]] (.tup [.i 0,.i (Ta bs)]) []:=by
 refine Hg.val rfl (E9 r_limb_Check (by kernel_rfl) (by simp) ?_);simp[zg1];refine E5 (zou bs m) (bors_self _ (by simp[dats,LV.dat,Jf])) ?_;by_cases h:Ta bs=0
 ·simp[h];refine Iw (fun ρ D G N=>D=[]∧lk ρ 1=.ptr 0 0∧lk ρ 5=.ptr 1 0∧lk ρ 19=.i 0∧lk ρ 20=.i 0∧G[0]?=some (.cells [.i 0,.lst (Ga bs) bs.length 3,.nilSl] 0)∧∃l st,G[1]?=some (.cells ((.i 0)::(.lst (Ga bs) bs.length 3)::.nilSl::l) st)∧l[64]?=some .nilSl) (N:=0) ⟨rfl,by simp,by simp,by simp,by simp,by simp,_,_,rfl,rfl⟩ ?_;rintro N ρ D G ⟨rfl,o,p,d,f,g,l,st,j,a⟩ r q;simp[o,p,d,f,g,j,Fu a]
 ·simp[h]
def z8f (bs:List Bf)(p:List Pc)(r s x:Pc)(w:∀b∈bs,b.size≤65536):F4 175 [.agg (Ii bs p r s),.agg x.f] (.bool (Oc bs x)) []:=by
 refine Hg.val rfl (E9 r_expand_lies (by kernel_rfl) (by simp) ?_);by_cases d:x.buf<0
 ·simp[ka,Ii,Pc.f,Oc,d];omega
 by_cases f:(bs.length:Int)≤x.buf
 ·simp[ka,Ii,Pc.f,Oc,d,f];omega
 by_cases g:x.size<1
 ·simp[ka,Ii,Pc.f,Oc,d,f,g];omega
 by_cases h:32768<x.size
 ·simp[ka,Ii,Pc.f,Oc,d,f,g,h];omega
 by_cases j:x.at_<0
 ·simp[ka,Ii,Pc.f,Oc,d,f,g,h,j];omega
 obtain⟨n,l⟩:=Af (show 0≤x.buf by omega);have a:n<bs.length:=by omega
 have m:=Yf (Kl a);have B:=Yp a;have C:(0:Int)≤x.buf:=by omega
 have D:x.buf<(bs.length:Int):=by omega
 have y:(1:Int)≤x.size:=by omega
 have z:x.size≤32768:=by omega
 have A:(0:Int)≤x.at_:=by omega
 by_cases o:x.at_≤(Fk bs n).size
 ·simp[ka,Ii,Pc.f,Oc,d,f,g,h,j,l,a,Fu m,o];have:=w _ (A7 (Kl a));refine⟨fun _=>by omega,fun q=>absurd q (by omega),by omega,?_⟩;simp[y,z,A]
 ·simp[ka,Ii,Pc.f,Oc,d,f,g,h,j,l,a,Fu m,o]
def zfe {bs:List Bf}(h:Ta bs=0):∀b∈bs,b.size≤65536:=fun b f=>by
 unfold Ta at h;by_cases d:32<bs.length
 ·rw[Ai d] at h;omega
 by_cases a:(bs.any fun b=>decide (65536<b.size))=true
 ·rw[Ab d,Ai a] at h;omega
 rw[Bool.not_eq_true,D7] at a;have:=a b f;simp at this;omega
def Tj (vs:List Vr)(bs:List Bf)(a:List Pc)(d f:Pc):Int:=if Nk vs bs a d f=true then 0 else 2
def y5 {bs:List Bf}{x:Pc}(h:Oc bs x=true):∃n:Nat,x.buf=n∧n<bs.length∧1≤x.size∧x.size≤32768∧0≤x.at_∧x.at_≤(Fk bs n).size∧x.size≤(Fk bs n).size - x.at_:=by
 simp only[Oc,Ac,Ao] at h;obtain⟨g,o,j,l,m,a,d⟩:=h;obtain⟨n,f⟩:=Af g;rw[f] at a d;exact⟨n,f,by omega,j,l,m,a,d⟩
def zi5 (vs:List Vr)(bs:List Bf)(m:List Pc)(d l:Pc)(hv:vs.length≤1000000)(hb:bs.length≤9223372036854775807) :
  F4 125 [.lst (Hq vs) vs.length 3,.agg (Ii bs m d l)] (.i (Tj vs bs m d l)) []:=by
 refine Hg.val rfl (E9 r_expand_Check (by kernel_rfl) (by simp) ?_);have bad:Nk vs bs m d l=false→Tj vs bs m d l=2:=fun h=>by simp[Tj,h]
 simp[zcz];refine zf5 (args':=[.lst (Hq vs) vs.length 3,.lst (Mg []) ([]:List Ko).length 7]) (fun c r h=>?_) ?_
 ·cases h with
  |cons e1 es=>cases es with
   |cons e2 J=>exact .cons e1 (.cons (by cases e2;exact .lstNil) J)
 refine Jo (zad vs [] hv (by simp)) (by simp[dats,LV.dat,Ll,Mg]) ?_;rw[Bx];simp;refine E5 (zah vs (Nc 0 vs) [] (by omega)) (bors_self _ (by simp[Jx,dats,LV.dat,Ll,vz])) ?_;simp only[M0,zyz];cases Z:Kj vs with
 |false=>simp;exact (bad (by simp[Nk,Z])).symm
 |true =>
 by_cases g1:(bs.length:Int)<1
 ·simp[Ii,g1];exact (bad (by simp[Nk,show ¬1≤bs.length by omega])).symm
 by_cases g2:m.length=vs.length
 case neg =>
  have af:¬(m.length:Int)=(vs.length:Int):=by omega
  simp[Ii,g1,g2,af];exact (bad (by simp[Nk,g2])).symm
 simp[Ii,g1,g2];refine E5 (zej bs hb) (bors_self _ (by simp[dats,LV.dat,Jf])) ?_;by_cases g3:Ta bs=0
 case neg=>simp[g3];exact (bad (by simp[Nk,g3])).symm
 simp[g3];have O:∀b∈bs,b.size≤65536:=zfe g3;refine Iw (fun ρ D G N=>∃i:Nat,D=[]∧N+i=vs.length∧lk ρ 3=.ptr 0 0∧lk ρ 40=.lst (Hq vs) vs.length 3∧lk ρ 41=.i vs.length∧lk ρ 42=.i i∧0<G.length∧G[0]?=some (.cells (Ii bs m d l) 0)∧∀j,j<i→Su bs (gv vs j) (H7 m j)=true) (N:=vs.length)
  ⟨0,by simp[Ii,g2]⟩ ?_
 rintro N ρ D G ⟨i,rfl,hN,w,B,C,E,hl,Y,P⟩ Nx K;by_cases g:i<vs.length
 ·have q3:=zdp (Nq g);have hq:=o9 g;have gp:i<m.length:=by omega
  have p3:=w8 (yx gp);have ag:=O4 gp;have ah:(gv vs i).f=[.i (gv vs i).limbs,.bool (gv vs i).sec,.i (gv vs i).mode]:=rfl;have aj:(H7 m i).f=[.i (H7 m i).buf,.i (H7 m i).at_,.i (H7 m i).size]:=rfl;have no:Su bs (gv vs i) (H7 m i)=false→Tj vs bs m d l=2:=fun h=>bad (by
   have:((List.range vs.length).all fun i=>Su bs (gv vs i) (H7 m i))=false:=by
    rw[Eu];exact⟨i,Cp.2 g,by simp[h]⟩
   simp[Nk,this])
  have nx:Su bs (gv vs i) (H7 m i)=true→∀o G',lk o 3=.ptr 0 0→lk o 40=.lst (Hq vs) vs.length 3→lk o 41=.i vs.length→lk o 42=.i ((i:Int)+1)→0<G'.length→G'[0]?=some (.cells (Ii bs m d l) 0)→Nx o [] G':=fun h o G' J Q R S el eG =>
   K _ _ _ ⟨N - 1,by omega,i+1,rfl,by omega,J,Q,R,by rw[S];simp,el,eG,fun j hj=>by
    by_cases e:j=i
    ·rw[e];exact h
    ·exact P j (by omega)⟩
  generalize gv vs i=v at *;generalize H7 m i=x at *;have A:∀y:List LObj,(G++y)[0]?=some _:=fun y=>(F5 hl).trans Y
  simp[w,B,C,E,g,gp,q3,p3,hq,ag,ah,aj,↓A,Ii];have M:=z8f bs m d l x O;rw[Ii,Pc.f] at M;refine E5 M (bors_self _ (by simp[dats,LV.dat,Jf,xy])) ?_;cases s:Oc bs x with
  |false=>simp;exact (no (by simp[Su,s])).symm
  |true =>
  obtain⟨n,H,a,s1,s2,s3,s4,s5⟩:=y5 s;by_cases g4:x.size=v.limbs
  case neg=>simp[g4];exact (no (by simp[Su,g4])).symm
  have b3:=zsx (Kl a);have T:=Yp a;have ao:(Fk bs n).f=[.i (Fk bs n).size,.i (Fk bs n).kind,.bool (Fk bs n).sec]:=rfl;have ap:Su bs v x=(!(decide ((Fk bs n).kind=1) && !Kc v)&&(!(decide ((Fk bs n).kind=2)&&Kc v)&&(v.sec==(Fk bs n).sec))):=by simp[Su,s,g4,H]
  rw[ap] at no nx;generalize Fk bs n=b at *;simp[g4,w,↓A,Ii,H,a,b3,T,ao];have aa:∀{G':Ev} {K':LV→Ev→Prop},K' (.bool (Kc v)) G'→F1 (.fn 172) [.agg [.i v.limbs,.bool v.sec,.i v.mode]] G' K':=fun k=>E5 (zbe v) (bors_self _ rfl) k
  have F:∀(h:(!(decide (b.kind=1) && !Kc v)&&(!(decide (b.kind=2)&&Kc v)&&(v.sec==b.sec)))=true) (o:Ey) (x:List LObj),lk o 3=.ptr 0 0→lk o 40=.lst (Hq vs) vs.length 3→lk o 41=.i vs.length→lk o 42=.i ((i:Int)+1)→Nx o [] (G++x):=fun h o x J Q R S=>nx h _ _ J Q R S (by simp;omega) (A x)
  by_cases z:b.kind=1
  ·simp[z];refine aa ?_;cases hg:Kc v with
   |false=>simp[z,hg] at no ⊢;exact no.symm
   |true =>
    simp[z,hg] at no F ⊢;cases p:(v.sec==b.sec) with
    |false=>simp[X9,p] at no ⊢;exact (no (by simpa using p)).symm
    |true =>
     simp[X9,p,E];refine⟨by omega,F (by simpa using p) _ _ (by simp[w]) (by simp[B]) (by simp[C]) (by simp)⟩
  ·by_cases k2:b.kind=2
   ·simp[k2];refine aa ?_;cases hg:Kc v with
    |true=>simp[k2,hg] at no ⊢;exact no.symm
    |false =>
     simp[k2,hg] at no F ⊢;cases p:(v.sec==b.sec) with
     |false=>simp[X9,p] at no ⊢;exact (no (by simpa using p)).symm
     |true =>
      simp[X9,p,E];refine⟨by omega,F (by simpa using p) _ _ (by simp[w]) (by simp[B]) (by simp[C]) (by simp)⟩
   ·simp[z,k2] at no F ⊢;cases p:(v.sec==b.sec) with
    |false=>simp[X9,p] at no ⊢;exact (no (by simpa using p)).symm
    |true =>
     simp[X9,p,E];refine⟨by omega,F (by simpa using p) _ _ (by simp[w]) (by simp[B]) (by simp[C]) (by simp)⟩
 ·have gi:i=vs.length:=by omega
  subst gi;simp[w,B,C,E,Y,Ii];refine Iw (fun ρ D G N=>∃i:Nat,D=[]∧N+i=2∧lk ρ 3=.ptr 0 0∧lk ρ 95=.agg [.i d.buf,.i d.at_,.i d.size,.i l.buf,.i l.at_,.i l.size]∧lk ρ 96=.i i∧0<G.length∧G[0]?=some (.cells (Ii bs m d l) 0)∧(0<i→Oh bs false d=true)∧(1<i→Oh bs true l=true)) (N:=2)
   ⟨0,rfl,rfl,by simp[w],by simp,by simp,hl,Y,fun q=>absurd q (by omega),fun q=>absurd q (by omega)⟩ ?_
  clear w B C E Y hl;rintro N ρ D G ⟨i,rfl,ax,w,L,I,hl,Y,ad,aq⟩ Nx K;have A:∀y:List LObj,(G++y)[0]?=some _:=fun y=>(F5 hl).trans Y
  have hi:i=0∨i=1∨i=2:=by omega
  rcases hi with rfl|rfl|rfl
  ·have no:Oh bs false d=false→Tj vs bs m d l=2:=fun h=>bad (by simp[Nk,h])
   have nx:Oh bs false d=true→∀(o:Ey) (y:List LObj),lk o 3=.ptr 0 0→lk o 95=.agg [.i d.buf,.i d.at_,.i d.size,.i l.buf,.i l.at_,.i l.size]→lk o 96=.i (0+1)→Nx o [] (G++y):=fun h o y J U V =>
    K _ _ _ ⟨N - 1,by omega,0+1,rfl,by omega,J,U,by rw[V];rfl,by simp;omega,A y,fun _=>h,fun q=>absurd q (by omega)⟩
   simp[w,L,I,↓A,Ii];have M:=z8f bs m d l d O;rw[Ii,Pc.f] at M;refine E5 M (bors_self _ (by simp[dats,LV.dat,Jf,xy])) ?_;cases s:Oc bs d with
   |false=>simp;exact (no (by simp[Oh,s])).symm
   |true =>
   obtain⟨n,H,a,s1,s2,s3,s4,s5⟩:=y5 s;have W:=jz (Kl a);have X:=Wi (Kl a);have T:=Yp a;have hW:Oh bs false d=(!decide ((Fk bs n).kind=1)&&((Fk bs n).sec==false)):=by simp[Oh,s,H]
   rw[hW] at no nx;generalize Fk bs n=b at *;by_cases z:b.kind=1
   ·simp[w,↓A,Ii,H,a,Fu W,Fu X,z];exact (no (by simp[z])).symm
   cases p:b.sec with
   |true=>simp[w,↓A,Ii,H,a,Fu W,Fu X,z,p,X9];exact (no (by simp[p])).symm
   |false =>
    simp[w,↓A,Ii,H,a,Fu W,Fu X,z,p,I,X9];exact nx (by simp[z,p]) _ _ (by simp[w]) (by simp[L]) (by simp)
  ·have no:Oh bs true l=false→Tj vs bs m d l=2:=fun h=>bad (by simp[Nk,h])
   have nx:Oh bs true l=true→∀(o:Ey) (y:List LObj),lk o 3=.ptr 0 0→lk o 95=.agg [.i d.buf,.i d.at_,.i d.size,.i l.buf,.i l.at_,.i l.size]→lk o 96=.i (1+1)→Nx o [] (G++y):=fun h o y J U V =>
    K _ _ _ ⟨N - 1,by omega,1+1,rfl,by omega,J,U,by rw[V];rfl,by simp;omega,A y,fun _=>ad (by omega),fun _=>h⟩
   simp[w,L,I,↓A,Ii];have M:=z8f bs m d l l O;rw[Ii,Pc.f] at M;refine E5 M (bors_self _ (by simp[dats,LV.dat,Jf,xy])) ?_;cases s:Oc bs l with
   |false=>simp;exact (no (by simp[Oh,s])).symm
   |true =>
   obtain⟨n,H,a,s1,s2,s3,s4,s5⟩:=y5 s;have W:=jz (Kl a);have X:=Wi (Kl a);have T:=Yp a;have hW:Oh bs true l=(!decide ((Fk bs n).kind=1)&&((Fk bs n).sec==true)):=by simp[Oh,s,H]
   rw[hW] at no nx;generalize Fk bs n=b at *;by_cases z:b.kind=1
   ·simp[w,↓A,Ii,H,a,Fu W,Fu X,z];exact (no (by simp[z])).symm
   cases p:b.sec with
   |false=>simp[w,↓A,Ii,H,a,Fu W,Fu X,z,p,X9];exact (no (by simp[p])).symm
   |true =>
    simp[w,↓A,Ii,H,a,Fu W,Fu X,z,p,I,X9];exact nx (by simp[z,p]) _ _ (by simp[w]) (by simp[L]) (by simp)
  ·simp[I];unfold Tj;rw[Ai];have aw:((List.range vs.length).all fun i=>Su bs (gv vs i) (H7 m i))=true:=Cb.2 fun j hj=>P j (Cp.1 hj)
   have ar:1≤bs.length:=by omega
   simp[Nk,Z,ar,g2,g3,ad (by omega),aq (by omega)];intro j hj;exact P j hj
def Ls (vs:List Vr)(d:Int):Bool:=decide (0≤d)&&(decide (d<vs.length) && !(gv vs d.toNat).sec)
def zgn (vs:List Vr)(o:Ko):F4 126 [.lst (Hq vs) vs.length 3,.agg o.f] (.bool (Ls vs o.d)) []:=by
 refine Hg.val rfl (E9 r_expand_Public (by kernel_rfl) (by simp) ?_);by_cases d:0≤o.d
 case neg=>simp[z4v,Ko.f,Ls,d]
 by_cases f:o.d<vs.length
 case neg=>simp[z4v,Ko.f,Ls,d,f]
 obtain⟨n,g⟩:=Af d;have a:n<vs.length:=by omega
 have h:=ztb (Nq a);have j:=o9 a;simp[z4v,Ko.f,Ls,g,a,Fu h]
def K2 (vs:List Vr)(o:Ko)(a d:Pc):Pc:=if Ls vs o.d=true then a else d
def Xs (vs:List Vr)(o:Ko):Int:=if Ls vs o.d=true then 16 else 40
def zck (vs:List Vr)(o:Ko)(bs:List Bf)(j:List Pc)(d g:Pc):F4 59 [.lst (Hq vs) vs.length 3,.agg o.f,.agg (Ii bs j d g)] (.tup [.i (Xs vs o),.agg (K2 vs o d g).f]) []:=by
 refine Hg.val rfl (E9 r_expand_Base (by kernel_rfl) (by simp) ?_);have a:o.f=[.i o.kind,.i o.d,.i o.e,.i o.a,.i o.b,.i o.c,.u o.imm]:=rfl;simp[zds,a];rw[←a];refine E5 (zgn vs o) (bors_self _ (by simp[dats,LV.dat,Ll,a])) ?_;cases h:Ls vs o.d with
 |true=>simp[Ii,Pc.f,Xs,K2,h]
 |false=>simp[Ii,Pc.f,Xs,K2,h]
def Ns (vs:List Vr)(o:Ko)(bs:List Bf)(g:List Pc)(d f:Pc)(deep a:Int):Bool :=
 Nk vs bs g d f&&(decide (1≤a)&&(decide (0≤deep)&&(decide (deep≤4)&&decide (a≤(K2 vs o d f).size))))
def zid (vs:List Vr)(o:Ko)(bs:List Bf)(j:List Pc)(d f:Pc)(deep a:Int)(hv:vs.length≤1000000)(p:bs.length≤9223372036854775807) :
  F4 58 [.lst (Hq vs) vs.length 3,.agg o.f,.agg (Ii bs j d f),.i deep,.i a] (.bool (Ns vs o bs j d f deep a)) []:=by
 refine Hg.val rfl (E9 r_expand_Ready (by kernel_rfl) (by simp) ?_);have m:o.f=[.i o.kind,.i o.d,.i o.e,.i o.a,.i o.b,.i o.c,.u o.imm]:=rfl;have g:Ii bs j d f=[.lst (Ga bs) bs.length 3,.lst (Om j) j.length 3,.i d.buf,.i d.at_,.i d.size,.i f.buf,.i f.at_,.i f.size]:=rfl;simp[zcm,g,m];rw[←g];refine E5 (zi5 vs bs j d f hv p) (bors_self _ (by simp[dats,LV.dat,Ll,o7])) ?_;cases l:Nk vs bs j d f with
 |false=>simp[Tj,l,Ns]
 |true =>
 by_cases g1:1≤a
 case neg=>simp[Tj,l,Ns,g1]
 by_cases g2:0≤deep
 case neg=>simp[Tj,l,Ns,g1,g2]
 by_cases g3:deep≤4
 case neg=>simp[Tj,l,Ns,g1,g2,g3]
 simp[Tj,l,g1,g2,g3,g];refine⟨fun h=>by omega,fun h=>by omega,fun h=>by omega,?_⟩;rw[←m,←g];refine E5 (zck vs o bs j d f) (bors_self _ (by simp[dats,LV.dat,Ll,o7,m])) ?_;simp[Pc.f,Ns,l,g1,g2,g3]
section
def z90:LC:=(.ops [.m 18 0,.m 19 0,.z 20 (.nilChk (.t 19)),.f 21 0 20,.l 22 21,.m 23 1,.m 24 2,.m 25 3,.m 26 4,.m 27 5,.m 28 6,.m 29 7,.m 30 8,.z 31 (.build [(.i 0),(.i 0),(.i 0),(.i 0),(.i 0),(.i 0),(.i 0),(.u 0)] [(0,1,.t 23),(1,1,.t 24),(2,1,.t 25),(3,1,.t 26),(4,1,.t 27),(5,1,.t 28),(6,1,.t 29),(7,1,.t 30)]),.z 32 (.buildSl 8 1 [(.i 0),(.i 0),(.i 0),(.i 0),(.i 0),(.i 0),(.i 0),(.u 0)] [(0,8,.t 31)]),.z 33 (.appG 8 (.t 22) (.t 32)),.z 34 (.nilChk (.t 18)),.f 35 0 34,.v (.store 1 (.t 35) (.t 33))])
def r_expand_Emit_put:Fg Tryz.prog 131=some ⟨36,z90.r,[]⟩:=by kernel_rfl
def z7a:LC:=(.ops [.m 6 0,.m 7 1,.m 8 2,.z 9 (.w 131 [.t 6,.k 1,.t 7,.k (-1),.k (-1),.k (-1),.k (-1),.k 0,.t 8])])
def r_expand_Emit_Const:Fg Tryz.prog 69=some ⟨10,z7a.r,[]⟩:=by kernel_rfl
def z81:LC:=(.ops [.m 6 0,.m 7 1,.m 8 2,.z 9 (.w 131 [.t 6,.k 2,.t 7,.k (-1),.t 8,.k (-1),.k (-1),.k 0,.c (.u 0)])])
def r_expand_Emit_Move:Fg Tryz.prog 110=some ⟨10,z81.r,[]⟩:=by kernel_rfl
def z8r:LC:=(.ops [.m 10 0,.m 11 1,.m 12 2,.m 13 3,.m 14 4,.z 15 (.w 131 [.t 10,.t 11,.t 12,.k (-1),.t 13,.t 14,.k (-1),.k 0,.c (.u 0)])])
def r_expand_Emit_Two:Fg Tryz.prog 108=some ⟨16,z8r.r,[]⟩:=by kernel_rfl
def z7d:LC:=(.ops [.m 10 0,.m 11 1,.m 12 2,.m 13 3,.m 14 4,.z 15 (.cvInt .u64 (.t 14)),.z 16 (.w 131 [.t 10,.t 11,.t 12,.k (-1),.t 13,.k (-1),.k (-1),.k 0,.t 15])])
def r_expand_Emit_Shift:Fg Tryz.prog 107=some ⟨17,z7d.r,[]⟩:=by kernel_rfl
def z9i:LC:=(.ops [.m 10 0,.m 11 1,.m 12 2,.m 13 3,.m 14 4,.z 15 (.w 131 [.t 10,.k 10,.t 11,.t 12,.t 13,.t 14,.k (-1),.k 0,.c (.u 0)])])
def r_expand_Emit_Mul:Fg Tryz.prog 132=some ⟨16,z9i.r,[]⟩:=by kernel_rfl
def z7s:LC:=(.ops [.m 14 0,.m 15 1,.m 16 2,.m 17 3,.m 18 4,.m 19 5,.m 20 6,.z 21 (.w 131 [.t 14,.t 15,.t 16,.t 17,.t 18,.t 19,.t 20,.k 0,.c (.u 0)])])
def r_expand_Emit_Carry:Fg Tryz.prog 104=some ⟨22,z7s.r,[]⟩:=by kernel_rfl
def z8z:LC:=(.ops [.m 10 0,.m 11 1,.m 12 3,.m 13 4,.m 14 2,.z 15 (.w 131 [.t 10,.k 13,.t 11,.k (-1),.t 12,.t 13,.t 14,.k 0,.c (.u 0)])])
def r_expand_Emit_Sel:Fg Tryz.prog 113=some ⟨16,z8z.r,[]⟩:=by kernel_rfl
def z8c:LC:=(.q [.z 7 (.box (.t 2))] (.ops [.m 10 0,.m 11 1,.m 12 3,.f 13 0 7,.l 14 13,.f 15 1 7,.l 16 15,.m 17 4,.z 18 (.bin .add false 3 (.t 16) (.t 17)),.z 19 (.cvInt .u64 (.t 18)),.z 20 (.w 131 [.t 10,.k 14,.t 11,.k (-1),.t 12,.k (-1),.k (-1),.t 14,.t 19])]))
def r_expand_Emit_Load:Fg Tryz.prog 70=some ⟨21,z8c.r,[]⟩:=by kernel_rfl
def z7t:LC:=(.q [.z 6 (.box (.t 1))] (.ops [.m 10 0,.m 11 2,.m 12 4,.f 13 0 6,.l 14 13,.f 15 1 6,.l 16 15,.m 17 3,.z 18 (.bin .add false 3 (.t 16) (.t 17)),.z 19 (.cvInt .u64 (.t 18)),.z 20 (.w 131 [.t 10,.k 15,.k (-1),.k (-1),.t 11,.t 12,.k (-1),.t 14,.t 19])]))
def r_expand_Emit_Store:Fg Tryz.prog 109=some ⟨21,z7t.r,[]⟩:=by kernel_rfl
def z4o:LC:=(.seq (.q [.m 7 1,.z 8 (.bin .lss true 3 (.t 7) (.k 1))] (.cond (.t 8) .ret .skip)) (.q [.m 9 0,.z 10 (.nilChk (.t 9)),.f 11 1 10,.l 12 11,.m 6 12] (.q [.m 13 0,.m 14 6,.m 15 1,.z 16 (.cvInt .u64 (.t 15)),.z 17 (.w 131 [.t 13,.k 16,.t 14,.k (-1),.k (-1),.k (-1),.k (-1),.k 0,.t 16])] (.q [.m 18 0,.z 19 (.nilChk (.t 18)),.f 20 1 19,.l 21 20,.z 22 (.bin .add true 3 (.t 21) (.k 1)),.z 23 (.nilChk (.t 18)),.f 24 1 23,.v (.store 1 (.t 24) (.t 22))] (.q [.m 25 2,.m 26 6,.z 27 (.callV (.t 25) [.t 26])] (.q [.m 28 0,.z 29 (.nilChk (.t 28)),.f 30 1 29,.l 31 30,.z 32 (.bin .sub true 3 (.t 31) (.k 1)),.z 33 (.nilChk (.t 28)),.f 34 1 33,.v (.store 1 (.t 34) (.t 32))] (.ops [.m 35 0,.z 36 (.w 131 [.t 35,.k 17,.k (-1),.k (-1),.k (-1),.k (-1),.k (-1),.k 0,.c (.u 0)])])))))))
def r_expand_Emit_Loop:Fg Tryz.prog 73=some ⟨37,z4o.r,[]⟩:=by kernel_rfl
def z8b:LC:=(.q [.z 3 (.box (.t 0)),.z 4 (.box (.t 1)),.z 5 (.box (.t 2))] (.ops [.l 6 3,.f 7 2 4,.l 8 7,.z 9 (.mkFunc 133 [] [.t 3,.t 4,.t 5]),.z 10 (.w 73 [.t 6,.t 8,.t 9])]))
def r_expand_Emit_Fill:Fg Tryz.prog 72=some ⟨11,z8b.r,[]⟩:=by kernel_rfl
def z6n:LC:=(.ops [.l 5 1,.z 6 (.loadN 3 (.t 2)),.m 7 0,.l 8 3,.z 9 (.w 109 [.t 5,.t 6,.t 7,.k 0,.t 8])])
def r_expand_Emit_Fill_1:Fg Tryz.prog 133=some ⟨10,z6n.r,[]⟩:=by kernel_rfl
def zei:LC:=(.q [.z 3 (.box (.t 0)),.z 6 (.alloc [(.i 0),(.i 0),(.i 0)])] (.q [.f 7 0 3,.l 8 7,.f 9 1 3,.l 10 9,.m 11 1,.z 12 (.bin .add false 3 (.t 10) (.t 11)),.m 13 2,.z 14 (.build [(.i 0),(.i 0),(.i 0)] [(0,1,.t 8),(1,1,.t 12),(2,1,.t 13)]),.v (.store 3 (.t 6) (.t 14))] .ret))
def r_expand_Part:Fg Tryz.prog 68=some ⟨15,zei.r,[.cellN 6 3]⟩:=by kernel_rfl
section emit
variable {G : Ev} {K : LV → Ev → Prop} {e : Nat} {ops : List Lo} {deep : Int}
def zlm {st:Nat}{v:LV}{L:List Lo}(x:G[e]?=some (.cells [v,.i deep] st))(y:H0 0 G v 8 ops.length (Gi ops))(D:ops.length≤1000000){Q:LV→Ev→Prop}
  (k:∀(d:LV) (a:Ev),d.cells=some [d]→a[e]?=some (.cells [v,.i deep] st)→Fo (a.set e (.cells [d,.i deep] (st+1))) e (ops++L) deep→Kp e G (a.set e (.cells [d,.i deep] (st+1)))→(∀(q:Nat) (ob:LObj),(∀R m k st,ob≠LObj.dyn R m 8 k st)→G[q]?=some ob→a[q]?=some ob)→Q d a):Hz G 8 v L.length (Gi L) Q:=by
 have le:e<G.length:=(Aa.1 x).1;refine H0.push2 y (by omega) (by omega) (by omega) (Rh L) (Jv L) fun d a g l o A B=>?_
 have f:∀(q:Nat) (ob:LObj),(∀R m k st,ob≠LObj.dyn R m 8 k st)→G[q]?=some ob→a[q]?=some ob:=fun q ob ho h=>by
  have p:=(Aa.1 h).1;rw[l q p (fun j r=>?_)]
  ·exact h
  ·obtain⟨R,m,k,st,z⟩:=y.row r;rw[h] at z;exact ho _ _ _ _ (Option.some.inj z)
 have s:=f e _ (fun _ _ _ _ q=>by cases q) x;have w:e<a.length:=(Aa.1 s).1;refine k d a g.cells s ⟨st+1,d,Ag w,?_⟩ ⟨by simpa using o,fun q ob h ho C=>?_⟩ f
 ·rw[zlu,Aj];exact g.set_cells s
 ·rw[Ad (Ne.symm h)];exact f q ob ho C
def V7 {kind d f a b c buf:Int}{imm:UInt64}(h:Fo G e ops deep)(o:ops.length≤1000000)(k:∀G',Fo G' e (ops++[⟨kind,d,f,a,b,c,buf,imm⟩]) deep→Kp e G G'→K (.tup []) G') :
  F1 (.fn 131) [.ptr e 0,.i kind,.i d,.i f,.i a,.i b,.i c,.i buf,.u imm] G K:=by
 obtain⟨st,v,g,p⟩:=h;have le:e<G.length:=(Aa.1 g).1;refine E9 r_expand_Emit_put (by kernel_rfl) (by simp) ?_;have j:∀x,Kp e G (G++x):=fun x=>Kp.app' e G x
 have l:∀x:List LObj,(G++x)[e]?=some (.cells [v,.i deep] st):=fun x=>(E6 le).trans g
 simp[z90,g];refine zlm (L:=[⟨kind,d,f,a,b,c,buf,imm⟩]) (l _) p.push_end o fun w y m q r s _=>?_
 simp[-LV.cells,m,q];exact k _ r ((j _).trans s)
def Ou {d:Int}{n:UInt64}(h:Fo G e ops deep)(a:ops.length≤1000000)(k:∀G',Fo G' e (ops++[cK d n]) deep→Kp e G G'→K (.tup []) G'):F1 (.fn 69) [.ptr e 0,.i d,.u n] G K:=by
 refine E9 r_expand_Emit_Const (by kernel_rfl) (by simp) ?_;simp[z7a];refine V7 h a fun G' f hk=>?_
 simpa using k G' f hk
def uk {d a:Int}(h:Fo G e ops deep)(f:ops.length≤1000000)(k:∀G',Fo G' e (ops++[Ij d a]) deep→Kp e G G'→K (.tup []) G'):F1 (.fn 110) [.ptr e 0,.i d,.i a] G K:=by
 refine E9 r_expand_Emit_Move (by kernel_rfl) (by simp) ?_;simp[z81];refine V7 h f fun G' g hk=>?_
 simpa using k G' g hk
def Qc {f d a b:Int}(h:Fo G e ops deep)(g:ops.length≤1000000)(k:∀G',Fo G' e (ops++[Ew f d a b]) deep→Kp e G G'→K (.tup []) G'):F1 (.fn 108) [.ptr e 0,.i f,.i d,.i a,.i b] G K:=by
 refine E9 r_expand_Emit_Two (by kernel_rfl) (by simp) ?_;simp[z8r];refine V7 h g fun G' j hk=>?_
 simpa using k G' j hk
def mw {g d a f:Int}(h:Fo G e ops deep)(j:ops.length≤1000000)(k:∀G',Fo G' e (ops++[It g d a f]) deep→Kp e G G'→K (.tup []) G'):F1 (.fn 107) [.ptr e 0,.i g,.i d,.i a,.i f] G K:=by
 refine E9 r_expand_Emit_Shift (by kernel_rfl) (by simp) ?_;simp[z7d];refine V7 h j fun G' l hk=>?_
 simpa using k G' l hk
def zhx {hi lo a b:Int}(h:Fo G e ops deep)(d:ops.length≤1000000)(k:∀G',Fo G' e (ops++[Ft hi lo a b]) deep→Kp e G G'→K (.tup []) G'):F1 (.fn 132) [.ptr e 0,.i hi,.i lo,.i a,.i b] G K:=by
 refine E9 r_expand_Emit_Mul (by kernel_rfl) (by simp) ?_;simp[z9i];refine V7 h d fun G' f hk=>?_
 simpa using k G' f hk
def il {f d out a b c:Int}(h:Fo G e ops deep)(g:ops.length≤1000000)(k:∀G',Fo G' e (ops++[Fj f d out a b c]) deep→Kp e G G'→K (.tup []) G'):F1 (.fn 104) [.ptr e 0,.i f,.i d,.i out,.i a,.i b,.i c] G K:=by
 refine E9 r_expand_Emit_Carry (by kernel_rfl) (by simp) ?_;simp[z7s];refine V7 h g fun G' j hk=>?_
 simpa using k G' j hk
def zma {d c a b:Int}(h:Fo G e ops deep)(f:ops.length≤1000000)(k:∀G',Fo G' e (ops++[Fx d c a b]) deep→Kp e G G'→K (.tup []) G'):F1 (.fn 113) [.ptr e 0,.i d,.i c,.i a,.i b] G K:=by
 refine E9 r_expand_Emit_Sel (by kernel_rfl) (by simp) ?_;simp[z8z];refine V7 h f fun G' g hk=>?_
 simpa using k G' g hk
def Ln {d i off:Int}{p:Pc}(g:-1000000000≤p.at_+off∧p.at_+off≤1000000000)(h:Fo G e ops deep)(a:ops.length≤1000000)(k:∀G',Fo G' e (ops++[E7 d p i off]) deep→Kp e G G'→K (.tup []) G'):F1 (.fn 70) [.ptr e 0,.i d,.agg p.f,.i i,.i off] G K:=by
 refine E9 r_expand_Emit_Load (by kernel_rfl) (by simp) ?_;simp[z8c,Pc.f]
 repeat (refine⟨by omega,?_⟩)
 refine V7 (h.app _) a fun G' f hk=>?_
 simpa using k G' f ((Kp.app' _ _ _).trans hk)
def Mq {i off b:Int}{p:Pc}(f:-1000000000≤p.at_+off∧p.at_+off≤1000000000)(h:Fo G e ops deep)(a:ops.length≤1000000)(k:∀G',Fo G' e (ops++[Ff p i off b]) deep→Kp e G G'→K (.tup []) G'):F1 (.fn 109) [.ptr e 0,.agg p.f,.i i,.i off,.i b] G K:=by
 refine E9 r_expand_Emit_Store (by kernel_rfl) (by simp) ?_;simp[z7t,Pc.f]
 repeat (refine⟨by omega,?_⟩)
 refine V7 (h.app _) a fun G' d hk=>?_
 simpa using k G' d ((Kp.app' _ _ _).trans hk)
def ztq {times:Int}{f:Nat}{fst cap:List LV}(hd:0≤deep∧deep≤100)(h:Fo G e ops deep)(I:ops.length≤1000000)(J:times<1→K (.tup []) G)
  (L:1≤times→∀r,Fo r e (ops++[Ky deep times]) (deep+1)→Kp e G r→F1 (.fn f) (fst++.i deep::cap) r fun _ y=>∃d,d.length≤1000000∧Fo y e d (deep+1)∧∀s,Fo s e (d++[N8]) deep→Kp e y s→K (.tup []) s) :
  F1 (.fn 73) [.ptr e 0,.i times,.fn (.func f) fst cap] G K:=by
 refine E9 r_expand_Emit_Loop (by kernel_rfl) (by simp) ?_;by_cases g:times<1
 ·simpa [z4o,g] using J g
 obtain⟨st,v,M,S⟩:=id h;simp[z4o,g,M];refine V7 h I fun r N z=>?_
 obtain⟨x,v1,l,A⟩:=N;simp[l];have B:e<r.length:=(Aa.1 l).1;refine⟨by omega,?_⟩;have j:∀(a:Ev) (ob:LObj),Kp e a (a.set e ob):=fun a ob=>⟨by simp,fun q o O _ ho=>by rw[Ad (Ne.symm O)];exact ho⟩
 have m:=L (by omega) (r.set e (.cells [v1,.i (deep+1)] (x+1))) ⟨x+1,v1,Ag B,A.set_cells l⟩ (z.trans (j _ _));refine m.mono fun w y hw=>?_
 obtain⟨d,C,P,Q⟩:=hw;obtain⟨D,v2,p,E⟩:=P;simp[p];have F:e<y.length:=(Aa.1 p).1;refine⟨by omega,?_⟩;refine V7 (deep:=deep) ⟨D+1,v2,Ag F,E.set_cells p⟩ C fun s R H=>?_
 simpa using Q s R ((j _ _).trans H)
end emit
end
def z7n:LC:=(.q [.m 9 2,.z 10 (.bin .add true 3 (.t 9) (.k 1)),.m 11 2,.z 12 (.bin .add true 3 (.t 11) (.k 2)),.m 13 2,.z 14 (.bin .add true 3 (.t 13) (.k 3)),.m 6 10,.m 7 12,.m 8 14] (.q [.m 15 0,.m 16 8,.z 17 (.w 69 [.t 15,.t 16,.c (.u 3)])] (.q [.m 18 0,.m 19 6,.m 20 2,.m 21 1,.m 22 8,.z 23 (.w 132 [.t 18,.t 19,.t 20,.t 21,.t 22])] (.q [.m 24 0,.m 25 8,.z 26 (.w 69 [.t 24,.t 25,.c (.u 2)])] (.q [.m 27 0,.m 28 2,.m 29 2,.m 30 8,.z 31 (.w 108 [.t 27,.k 7,.t 28,.t 29,.t 30])] (.seq (.q [.z 32 (.move (.k 0))] (.block 0 (.loop (.q [.z 33 (.bin .lss true 3 (.t 32) (.k 5))] (.seq (.cond (.t 33) .skip (.exit 0)) (.seq (.block 1 (.q [.m 34 0,.m 35 6,.m 36 7,.m 37 1,.m 38 2,.z 39 (.w 132 [.t 34,.t 35,.t 36,.t 37,.t 38])] (.q [.m 40 0,.m 41 7,.m 42 8,.m 43 7,.z 44 (.w 108 [.t 40,.k 4,.t 41,.t 42,.t 43])] (.ops [.m 45 0,.m 46 6,.m 47 2,.m 48 2,.m 49 7,.z 50 (.w 132 [.t 45,.t 46,.t 47,.t 48,.t 49])])))) (.ops [.z 51 (.bin .add true 3 (.t 32) (.k 1)),.m 32 51]))))))) (.q [.m 52 0,.m 53 8,.z 54 (.w 69 [.t 52,.t 53,.c (.u 0)])] (.ops [.m 55 0,.m 56 2,.m 57 8,.m 58 2,.z 59 (.w 108 [.t 55,.k 4,.t 56,.t 57,.t 58])]))))))))
def r_montgomery_reckon:Fg Tryz.prog 71=some ⟨60,z7n.r,[]⟩:=by kernel_rfl
def zts {G:Ev}{v:LV}{l:List LV}{n e:Nat}(h:bor G v (.lst l n e)):He G v (.lst l n e):=by
 cases v<;>first|exact h|(simp[LV.dat] at h)
def zuc {G:Ev}{K:LV→Ev→Prop}{e:Nat}{ops:List Lo}{deep n r:Int}(T:0≤r∧r≤1000)(h:Fo G e ops deep)(U:ops.length≤900000)(k:∀G',Fo G' e (ops++Mi n r) deep→Kp e G G'→K (.tup []) G'):F1 (.fn 71) [.ptr e 0,.i n,.i r] G K:=by
 refine E9 r_montgomery_reckon (by kernel_rfl) (by simp) ?_;simp[z7n]
 repeat (refine⟨by omega,?_⟩)
 refine Ou h (by omega) fun V I w=>?_
 simp;refine zhx I (by simp;omega) fun W J x=>?_
 simp;refine Ou J (by simp;omega) fun X L y=>?_
 simp;refine Qc L (by simp;omega) fun Y M d=>?_
 simp;have d:=w.trans (x.trans (y.trans d));refine Iw (fun ρ D G' N=>∃i:Nat,D=[]∧N+i=5∧lk ρ 0=.ptr e 0∧lk ρ 1=.i n∧lk ρ 2=.i r∧lk ρ 6=.i (r+1)∧lk ρ 7=.i (r+2)∧lk ρ 8=.i (r+3)∧lk ρ 32=.i i∧Fo G' e (ops++(Sx n r++Pu n r i)) deep∧Kp e G G') (N:=5)
  ⟨0,rfl,by omega,by simp,by simp,by simp,by simp,by simp,by simp,by simp,by simpa [Sx,Pu] using M,d⟩ ?_
 clear I J L M w x y d;rintro N ρ D Z ⟨i,rfl,hN,f,j,l,m,o,p,a,O,z⟩ Nx C;have A:(Pu n r i).length=3*i:=zhw n r i;have B:(Sx n r).length=4:=rfl;by_cases g:i<5
 ·have Q:(i:Int)<5:=by omega
  simp[f,j,l,m,o,p,a,Q];refine zhx O (by simp[B,A];omega) fun R E q=>?_
  simp[f,j,l,m,o,p,a];refine Qc E (by simp[B,A];omega) fun P F s=>?_
  simp[f,j,l,m,o,p,a];refine zhx F (by simp[B,A];omega) fun G8 S H=>?_
  simp[f,j,l,m,o,p,a];refine⟨by omega,C _ _ _ ⟨N - 1,by omega,i+1,rfl,by omega,by simp[f],by simp[j],by simp[l],by simp[m],by simp[o],by simp[p],by simp,?_,z.trans (q.trans (s.trans H))⟩⟩;rw[zcc];simpa [jt] using S
 ·have hi:i=5:=by omega
  subst hi;simp[f,j,l,m,o,p,a];refine Ou O (by simp[B,A];omega) fun R E q=>?_
  simp[f,j,l,m,o,p,a];refine Qc E (by simp[B,A];omega) fun P F s=>?_
  simp;refine k P ?_ (z.trans (q.trans s));simpa [Mi] using F
section
def z4l:LC:=(.seq (.draw [(.m 6 0,[]),(.z 7 (.nilChk (.t 6)),[]),(.f 8 0 7,[]),(.l 9 8,[]),(.m 10 0,[]),(.z 11 (.nilChk (.t 10)),[]),(.f 12 21 11,[]),(.l 13 12,[]),(.m 14 0,[]),(.z 15 (.nilChk (.t 14)),[]),(.f 16 22 15,[]),(.l 17 16,[]),(.m 18 1,[]),(.m 19 2,[]),(.z 20 (.w 132 [.t 9,.t 13,.t 17,.t 18,.t 19]),[])]) (.seq (.draw [(.m 21 0,[]),(.z 22 (.nilChk (.t 21)),[]),(.f 23 0 22,[]),(.l 24 23,[]),(.m 25 0,[]),(.z 26 (.nilChk (.t 25)),[]),(.f 27 22 26,[]),(.l 28 27,[]),(.m 29 0,[]),(.z 30 (.nilChk (.t 29)),[]),(.f 31 24 30,[]),(.l 32 31,[]),(.m 33 0,[]),(.z 34 (.nilChk (.t 33)),[]),(.f 35 22 34,[]),(.l 36 35,[]),(.m 37 0,[]),(.z 38 (.nilChk (.t 37)),[]),(.f 39 23 38,[]),(.l 40 39,[]),(.m 41 0,[]),(.z 42 (.nilChk (.t 41)),[]),(.f 43 16 42,[]),(.l 44 43,[]),(.z 45 (.w 104 [.t 24,.k 11,.t 28,.t 32,.t 36,.t 40,.t 44]),[])]) (.seq (.draw [(.m 46 0,[]),(.z 47 (.nilChk (.t 46)),[]),(.f 48 0 47,[]),(.l 49 48,[]),(.m 50 0,[]),(.z 51 (.nilChk (.t 50)),[]),(.f 52 22 51,[]),(.l 53 52,[]),(.m 54 0,[]),(.z 55 (.nilChk (.t 54)),[]),(.f 56 25 55,[]),(.l 57 56,[]),(.m 58 0,[]),(.z 59 (.nilChk (.t 58)),[]),(.f 60 22 59,[]),(.l 61 60,[]),(.m 62 0,[]),(.z 63 (.nilChk (.t 62)),[]),(.f 64 19 63,[]),(.l 65 64,[]),(.m 66 0,[]),(.z 67 (.nilChk (.t 66)),[]),(.f 68 16 67,[]),(.l 69 68,[]),(.z 70 (.w 104 [.t 49,.k 11,.t 53,.t 57,.t 61,.t 65,.t 69]),[])]) (.seq (.draw [(.m 71 0,[]),(.z 72 (.nilChk (.t 71)),[]),(.f 73 0 72,[]),(.l 74 73,[]),(.m 75 0,[]),(.z 76 (.nilChk (.t 75)),[]),(.f 77 21 76,[]),(.l 78 77,[]),(.m 79 0,[]),(.z 80 (.nilChk (.t 79)),[]),(.f 81 21 80,[]),(.l 82 81,[]),(.m 83 0,[]),(.z 84 (.nilChk (.t 83)),[]),(.f 85 24 84,[]),(.l 86 85,[]),(.z 87 (.w 108 [.t 74,.k 3,.t 78,.t 82,.t 86]),[])]) (.draw [(.m 88 0,[]),(.z 89 (.nilChk (.t 88)),[]),(.f 90 0 89,[]),(.l 91 90,[]),(.m 92 0,[]),(.z 93 (.nilChk (.t 92)),[]),(.f 94 19 93,[]),(.l 95 94,[]),(.m 96 0,[]),(.z 97 (.nilChk (.t 96)),[]),(.f 98 21 97,[]),(.l 99 98,[]),(.m 100 0,[]),(.z 101 (.nilChk (.t 100)),[]),(.f 102 25 101,[]),(.l 103 102,[]),(.z 104 (.w 108 [.t 91,.k 3,.t 95,.t 99,.t 103]),[])])))))
def r_montgomery_product_sum:Fg Tryz.prog 135=some ⟨105,z4l.r,[]⟩:=by kernel_rfl
def z4j:LC:=(.seq (.draw [(.m 2 0,[]),(.z 3 (.nilChk (.t 2)),[]),(.f 4 0 3,[]),(.l 5 4,[]),(.m 6 0,[]),(.z 7 (.nilChk (.t 6)),[]),(.f 8 23 7,[]),(.l 9 8,[]),(.m 10 0,[]),(.z 11 (.nilChk (.t 10)),[]),(.f 12 13 11,[]),(.z 13 (.loadN 3 (.t 12)),[]),(.m 14 0,[]),(.z 15 (.nilChk (.t 14)),[]),(.f 16 10 15,[]),(.f 17 2 16,[]),(.l 18 17,[]),(.z 19 (.w 70 [.t 5,.t 9,.t 13,.k (-1),.t 18]),[])]) (.draw [(.m 20 0,[]),(.z 21 (.nilChk (.t 20)),[]),(.f 22 0 21,[]),(.l 23 22,[]),(.m 24 0,[]),(.z 25 (.nilChk (.t 24)),[]),(.f 26 23 25,[]),(.l 27 26,[]),(.m 28 0,[]),(.z 29 (.nilChk (.t 28)),[]),(.f 30 24 29,[]),(.l 31 30,[]),(.m 32 0,[]),(.z 33 (.nilChk (.t 32)),[]),(.f 34 23 33,[]),(.l 35 34,[]),(.m 36 0,[]),(.z 37 (.nilChk (.t 36)),[]),(.f 38 19 37,[]),(.l 39 38,[]),(.m 40 0,[]),(.z 41 (.nilChk (.t 40)),[]),(.f 42 16 41,[]),(.l 43 42,[]),(.z 44 (.w 104 [.t 23,.k 11,.t 27,.t 31,.t 35,.t 39,.t 43]),[])]))
def r_montgomery_product_top:Fg Tryz.prog 136=some ⟨45,z4j.r,[]⟩:=by kernel_rfl
def z3z:LC:=(.q [.z 2 (.box (.t 0))] (.seq (.draw [(.l 4 2,[]),(.z 5 (.nilChk (.t 4)),[]),(.f 6 0 5,[]),(.l 7 6,[]),(.l 8 2,[]),(.z 9 (.nilChk (.t 8)),[]),(.f 10 18 9,[]),(.l 11 10,[]),(.l 12 2,[]),(.z 13 (.nilChk (.t 12)),[]),(.f 14 7 13,[]),(.z 15 (.loadN 3 (.t 14)),[]),(.m 16 1,[]),(.z 17 (.w 70 [.t 7,.t 11,.t 15,.t 16,.k 0]),[])]) (.seq (.draw [(.l 18 2,[]),(.z 19 (.nilChk (.t 18)),[]),(.f 20 0 19,[]),(.l 21 20,[]),(.l 22 2,[]),(.z 23 (.nilChk (.t 22)),[]),(.f 24 19 23,[]),(.l 25 24,[]),(.z 26 (.w 69 [.t 21,.t 25,.c (.u 0)]),[])]) (.seq (.draw [(.l 27 2,[]),(.z 28 (.nilChk (.t 27)),[]),(.f 29 0 28,[]),(.l 30 29,[]),(.l 31 2,[]),(.z 32 (.nilChk (.t 31)),[]),(.f 33 10 32,[]),(.f 34 2 33,[]),(.l 35 34,[]),(.z 36 (.mkFunc 134 [] [.t 2]),[]),(.z 37 (.w 73 [.t 30,.t 35,.t 36]),[])]) (.q [.l 38 2,.z 39 (.w 136 [.t 38])] (.seq (.draw [(.l 40 2,[]),(.z 41 (.nilChk (.t 40)),[]),(.f 42 0 41,[]),(.l 43 42,[]),(.l 44 2,[]),(.z 45 (.nilChk (.t 44)),[]),(.f 46 13 45,[]),(.z 47 (.loadN 3 (.t 46)),[]),(.l 48 2,[]),(.z 49 (.nilChk (.t 48)),[]),(.f 50 10 49,[]),(.f 51 2 50,[]),(.l 52 51,[]),(.l 53 2,[]),(.z 54 (.nilChk (.t 53)),[]),(.f 55 23 54,[]),(.l 56 55,[]),(.z 57 (.w 109 [.t 43,.t 47,.k (-1),.t 52,.t 56]),[])]) (.draw [(.l 58 2,[]),(.z 59 (.nilChk (.t 58)),[]),(.f 60 0 59,[]),(.l 61 60,[]),(.l 62 2,[]),(.z 63 (.nilChk (.t 62)),[]),(.f 64 13 63,[]),(.z 65 (.loadN 3 (.t 64)),[]),(.l 66 2,[]),(.z 67 (.nilChk (.t 66)),[]),(.f 68 10 67,[]),(.f 69 2 68,[]),(.l 70 69,[]),(.z 71 (.bin .add true 3 (.t 70) (.k 1)),[]),(.l 72 2,[]),(.z 73 (.nilChk (.t 72)),[]),(.f 74 24 73,[]),(.l 75 74,[]),(.z 76 (.w 109 [.t 61,.t 65,.k (-1),.t 71,.t 75]),[])])))))))
def r_montgomery_product_times:Fg Tryz.prog 75=some ⟨77,z3z.r,[]⟩:=by kernel_rfl
def z3a:LC:=(.seq (.draw [(.l 3 1,[]),(.z 4 (.nilChk (.t 3)),[]),(.f 5 0 4,[]),(.l 6 5,[]),(.l 7 1,[]),(.z 8 (.nilChk (.t 7)),[]),(.f 9 20 8,[]),(.l 10 9,[]),(.l 11 1,[]),(.z 12 (.nilChk (.t 11)),[]),(.f 13 4 12,[]),(.z 14 (.loadN 3 (.t 13)),[]),(.m 15 0,[]),(.z 16 (.w 70 [.t 6,.t 10,.t 14,.t 15,.k 0]),[])]) (.seq (.draw [(.l 17 1,[]),(.z 18 (.nilChk (.t 17)),[]),(.f 19 0 18,[]),(.l 20 19,[]),(.l 21 1,[]),(.z 22 (.nilChk (.t 21)),[]),(.f 23 23 22,[]),(.l 24 23,[]),(.l 25 1,[]),(.z 26 (.nilChk (.t 25)),[]),(.f 27 13 26,[]),(.z 28 (.loadN 3 (.t 27)),[]),(.m 29 0,[]),(.z 30 (.w 70 [.t 20,.t 24,.t 28,.t 29,.k 0]),[])]) (.seq (.draw [(.l 31 1,[]),(.l 32 1,[]),(.z 33 (.nilChk (.t 32)),[]),(.f 34 20 33,[]),(.l 35 34,[]),(.l 36 1,[]),(.z 37 (.nilChk (.t 36)),[]),(.f 38 18 37,[]),(.l 39 38,[]),(.z 40 (.w 135 [.t 31,.t 35,.t 39]),[])]) (.draw [(.l 41 1,[]),(.z 42 (.nilChk (.t 41)),[]),(.f 43 0 42,[]),(.l 44 43,[]),(.l 45 1,[]),(.z 46 (.nilChk (.t 45)),[]),(.f 47 13 46,[]),(.z 48 (.loadN 3 (.t 47)),[]),(.m 49 0,[]),(.l 50 1,[]),(.z 51 (.nilChk (.t 50)),[]),(.f 52 22 51,[]),(.l 53 52,[]),(.z 54 (.w 109 [.t 44,.t 48,.t 49,.k 0,.t 53]),[])]))))
def r_montgomery_product_times_1:Fg Tryz.prog 134=some ⟨55,z3a.r,[]⟩:=by kernel_rfl
def z44:LC:=(.q [.z 1 (.box (.t 0))] (.q [.l 3 1,.z 4 (.nilChk (.t 3)),.f 5 10 4,.f 6 2 5,.l 7 6,.m 2 7] (.seq (.draw [(.l 8 1,[]),(.z 9 (.nilChk (.t 8)),[]),(.f 10 0 9,[]),(.l 11 10,[]),(.l 12 1,[]),(.z 13 (.nilChk (.t 12)),[]),(.f 14 23 13,[]),(.l 15 14,[]),(.l 16 1,[]),(.z 17 (.nilChk (.t 16)),[]),(.f 18 13 17,[]),(.z 19 (.loadN 3 (.t 18)),[]),(.z 20 (.w 70 [.t 11,.t 15,.t 19,.k (-1),.k 0]),[])]) (.seq (.draw [(.l 21 1,[]),(.z 22 (.nilChk (.t 21)),[]),(.f 23 0 22,[]),(.l 24 23,[]),(.l 25 1,[]),(.z 26 (.nilChk (.t 25)),[]),(.f 27 21 26,[]),(.l 28 27,[]),(.l 29 1,[]),(.z 30 (.nilChk (.t 29)),[]),(.f 31 26 30,[]),(.l 32 31,[]),(.l 33 1,[]),(.z 34 (.nilChk (.t 33)),[]),(.f 35 23 34,[]),(.l 36 35,[]),(.l 37 1,[]),(.z 38 (.nilChk (.t 37)),[]),(.f 39 17 38,[]),(.l 40 39,[]),(.z 41 (.w 132 [.t 24,.t 28,.t 32,.t 36,.t 40]),[])]) (.seq (.draw [(.l 42 1,[]),(.z 43 (.nilChk (.t 42)),[]),(.f 44 0 43,[]),(.l 45 44,[]),(.l 46 1,[]),(.z 47 (.nilChk (.t 46)),[]),(.f 48 20 47,[]),(.l 49 48,[]),(.l 50 1,[]),(.z 51 (.nilChk (.t 50)),[]),(.f 52 10 51,[]),(.z 53 (.loadN 3 (.t 52)),[]),(.z 54 (.w 70 [.t 45,.t 49,.t 53,.k (-1),.k 0]),[])]) (.seq (.draw [(.l 55 1,[]),(.z 56 (.nilChk (.t 55)),[]),(.f 57 0 56,[]),(.l 58 57,[]),(.l 59 1,[]),(.z 60 (.nilChk (.t 59)),[]),(.f 61 19 60,[]),(.l 62 61,[]),(.z 63 (.w 69 [.t 58,.t 62,.c (.u 0)]),[])]) (.seq (.draw [(.l 64 1,[]),(.l 65 1,[]),(.z 66 (.nilChk (.t 65)),[]),(.f 67 26 66,[]),(.l 68 67,[]),(.l 69 1,[]),(.z 70 (.nilChk (.t 69)),[]),(.f 71 20 70,[]),(.l 72 71,[]),(.z 73 (.w 135 [.t 64,.t 68,.t 72]),[])]) (.q [.l 74 1,.z 75 (.nilChk (.t 74)),.f 76 0 75,.l 77 76,.m 78 2,.z 79 (.bin .sub true 3 (.t 78) (.k 1)),.z 80 (.mkFunc 137 [] [.t 1]),.z 81 (.w 73 [.t 77,.t 79,.t 80])] (.q [.l 82 1,.z 83 (.w 136 [.t 82])] (.seq (.draw [(.l 84 1,[]),(.z 85 (.nilChk (.t 84)),[]),(.f 86 0 85,[]),(.l 87 86,[]),(.l 88 1,[]),(.z 89 (.nilChk (.t 88)),[]),(.f 90 13 89,[]),(.z 91 (.loadN 3 (.t 90)),[]),(.m 92 2,[]),(.z 93 (.bin .sub true 3 (.t 92) (.k 1)),[]),(.l 94 1,[]),(.z 95 (.nilChk (.t 94)),[]),(.f 96 23 95,[]),(.l 97 96,[]),(.z 98 (.w 109 [.t 87,.t 91,.k (-1),.t 93,.t 97]),[])]) (.seq (.draw [(.l 99 1,[]),(.z 100 (.nilChk (.t 99)),[]),(.f 101 0 100,[]),(.l 102 101,[]),(.l 103 1,[]),(.z 104 (.nilChk (.t 103)),[]),(.f 105 23 104,[]),(.l 106 105,[]),(.l 107 1,[]),(.z 108 (.nilChk (.t 107)),[]),(.f 109 13 108,[]),(.z 110 (.loadN 3 (.t 109)),[]),(.m 111 2,[]),(.z 112 (.bin .add true 3 (.t 111) (.k 1)),[]),(.z 113 (.w 70 [.t 102,.t 106,.t 110,.k (-1),.t 112]),[])]) (.seq (.draw [(.l 114 1,[]),(.z 115 (.nilChk (.t 114)),[]),(.f 116 0 115,[]),(.l 117 116,[]),(.l 118 1,[]),(.z 119 (.nilChk (.t 118)),[]),(.f 120 23 119,[]),(.l 121 120,[]),(.l 122 1,[]),(.z 123 (.nilChk (.t 122)),[]),(.f 124 23 123,[]),(.l 125 124,[]),(.l 126 1,[]),(.z 127 (.nilChk (.t 126)),[]),(.f 128 24 127,[]),(.l 129 128,[]),(.z 130 (.w 108 [.t 117,.k 3,.t 121,.t 125,.t 129]),[])]) (.draw [(.l 131 1,[]),(.z 132 (.nilChk (.t 131)),[]),(.f 133 0 132,[]),(.l 134 133,[]),(.l 135 1,[]),(.z 136 (.nilChk (.t 135)),[]),(.f 137 13 136,[]),(.z 138 (.loadN 3 (.t 137)),[]),(.m 139 2,[]),(.l 140 1,[]),(.z 141 (.nilChk (.t 140)),[]),(.f 142 23 141,[]),(.l 143 142,[]),(.z 144 (.w 109 [.t 134,.t 138,.k (-1),.t 139,.t 143]),[])])))))))))))))
def r_montgomery_product_down:Fg Tryz.prog 76=some ⟨145,z44.r,[]⟩:=by kernel_rfl
def z3n:LC:=(.seq (.draw [(.l 3 1,[]),(.z 4 (.nilChk (.t 3)),[]),(.f 5 0 4,[]),(.l 6 5,[]),(.l 7 1,[]),(.z 8 (.nilChk (.t 7)),[]),(.f 9 20 8,[]),(.l 10 9,[]),(.l 11 1,[]),(.z 12 (.nilChk (.t 11)),[]),(.f 13 10 12,[]),(.z 14 (.loadN 3 (.t 13)),[]),(.m 15 0,[]),(.z 16 (.w 70 [.t 6,.t 10,.t 14,.t 15,.k 1]),[])]) (.seq (.draw [(.l 17 1,[]),(.z 18 (.nilChk (.t 17)),[]),(.f 19 0 18,[]),(.l 20 19,[]),(.l 21 1,[]),(.z 22 (.nilChk (.t 21)),[]),(.f 23 23 22,[]),(.l 24 23,[]),(.l 25 1,[]),(.z 26 (.nilChk (.t 25)),[]),(.f 27 13 26,[]),(.z 28 (.loadN 3 (.t 27)),[]),(.m 29 0,[]),(.z 30 (.w 70 [.t 20,.t 24,.t 28,.t 29,.k 1]),[])]) (.seq (.draw [(.l 31 1,[]),(.l 32 1,[]),(.z 33 (.nilChk (.t 32)),[]),(.f 34 26 33,[]),(.l 35 34,[]),(.l 36 1,[]),(.z 37 (.nilChk (.t 36)),[]),(.f 38 20 37,[]),(.l 39 38,[]),(.z 40 (.w 135 [.t 31,.t 35,.t 39]),[])]) (.draw [(.l 41 1,[]),(.z 42 (.nilChk (.t 41)),[]),(.f 43 0 42,[]),(.l 44 43,[]),(.l 45 1,[]),(.z 46 (.nilChk (.t 45)),[]),(.f 47 13 46,[]),(.z 48 (.loadN 3 (.t 47)),[]),(.m 49 0,[]),(.l 50 1,[]),(.z 51 (.nilChk (.t 50)),[]),(.f 52 22 51,[]),(.l 53 52,[]),(.z 54 (.w 109 [.t 44,.t 48,.t 49,.k 0,.t 53]),[])]))))
def r_montgomery_product_down_1:Fg Tryz.prog 137=some ⟨55,z3n.r,[]⟩:=by kernel_rfl
def z49:LC:=(.q [.z 2 (.box (.t 0)),.z 3 (.box (.t 1))] (.seq (.draw [(.l 4 2,[]),(.z 5 (.nilChk (.t 4)),[]),(.f 6 0 5,[]),(.l 7 6,[]),(.l 8 2,[]),(.z 9 (.nilChk (.t 8)),[]),(.f 10 24 9,[]),(.l 11 10,[]),(.z 12 (.w 69 [.t 7,.t 11,.c (.u 0)]),[])]) (.draw [(.l 13 2,[]),(.z 14 (.nilChk (.t 13)),[]),(.f 15 0 14,[]),(.l 16 15,[]),(.l 17 2,[]),(.z 18 (.nilChk (.t 17)),[]),(.f 19 10 18,[]),(.f 20 2 19,[]),(.l 21 20,[]),(.z 22 (.mkFunc 180 [] [.t 2,.t 3]),[]),(.z 23 (.w 73 [.t 16,.t 21,.t 22]),[])])))
def r_montgomery_product_less:Fg Tryz.prog 138=some ⟨24,z49.r,[]⟩:=by kernel_rfl
def z3m:LC:=(.seq (.draw [(.l 4 1,[]),(.z 5 (.nilChk (.t 4)),[]),(.f 6 0 5,[]),(.l 7 6,[]),(.l 8 1,[]),(.z 9 (.nilChk (.t 8)),[]),(.f 10 23 9,[]),(.l 11 10,[]),(.l 12 1,[]),(.z 13 (.nilChk (.t 12)),[]),(.f 14 13 13,[]),(.z 15 (.loadN 3 (.t 14)),[]),(.m 16 0,[]),(.z 17 (.w 70 [.t 7,.t 11,.t 15,.t 16,.k 0]),[])]) (.seq (.draw [(.l 18 1,[]),(.z 19 (.nilChk (.t 18)),[]),(.f 20 0 19,[]),(.l 21 20,[]),(.l 22 1,[]),(.z 23 (.nilChk (.t 22)),[]),(.f 24 20 23,[]),(.l 25 24,[]),(.l 26 1,[]),(.z 27 (.nilChk (.t 26)),[]),(.f 28 10 27,[]),(.z 29 (.loadN 3 (.t 28)),[]),(.m 30 0,[]),(.z 31 (.w 70 [.t 21,.t 25,.t 29,.t 30,.k 0]),[])]) (.seq (.draw [(.l 32 1,[]),(.z 33 (.nilChk (.t 32)),[]),(.f 34 0 33,[]),(.l 35 34,[]),(.l 36 1,[]),(.z 37 (.nilChk (.t 36)),[]),(.f 38 22 37,[]),(.l 39 38,[]),(.l 40 1,[]),(.z 41 (.nilChk (.t 40)),[]),(.f 42 24 41,[]),(.l 43 42,[]),(.l 44 1,[]),(.z 45 (.nilChk (.t 44)),[]),(.f 46 23 45,[]),(.l 47 46,[]),(.l 48 1,[]),(.z 49 (.nilChk (.t 48)),[]),(.f 50 20 49,[]),(.l 51 50,[]),(.l 52 1,[]),(.z 53 (.nilChk (.t 52)),[]),(.f 54 24 53,[]),(.l 55 54,[]),(.z 56 (.w 104 [.t 35,.k 12,.t 39,.t 43,.t 47,.t 51,.t 55]),[])]) (.ops [.l 57 2,.m 58 0,.z 59 (.callV (.t 57) [.t 58])]))))
def r_montgomery_product_less_1:Fg Tryz.prog 180=some ⟨60,z3m.r,[]⟩:=by kernel_rfl
def z45:LC:=(.q [.z 1 (.box (.t 0))] (.q [.l 2 1,.z 3 (.w 138 [.t 2,(.c (.fn (.func 139) [] []))])] (.seq (.draw [(.l 4 1,[]),(.z 5 (.nilChk (.t 4)),[]),(.f 6 0 5,[]),(.l 7 6,[]),(.l 8 1,[]),(.z 9 (.nilChk (.t 8)),[]),(.f 10 23 9,[]),(.l 11 10,[]),(.l 12 1,[]),(.z 13 (.nilChk (.t 12)),[]),(.f 14 13 13,[]),(.z 15 (.loadN 3 (.t 14)),[]),(.l 16 1,[]),(.z 17 (.nilChk (.t 16)),[]),(.f 18 10 17,[]),(.f 19 2 18,[]),(.l 20 19,[]),(.z 21 (.w 70 [.t 7,.t 11,.t 15,.k (-1),.t 20]),[])]) (.seq (.draw [(.l 22 1,[]),(.z 23 (.nilChk (.t 22)),[]),(.f 24 0 23,[]),(.l 25 24,[]),(.l 26 1,[]),(.z 27 (.nilChk (.t 26)),[]),(.f 28 22 27,[]),(.l 29 28,[]),(.l 30 1,[]),(.z 31 (.nilChk (.t 30)),[]),(.f 32 26 31,[]),(.l 33 32,[]),(.l 34 1,[]),(.z 35 (.nilChk (.t 34)),[]),(.f 36 23 35,[]),(.l 37 36,[]),(.l 38 1,[]),(.z 39 (.nilChk (.t 38)),[]),(.f 40 16 39,[]),(.l 41 40,[]),(.l 42 1,[]),(.z 43 (.nilChk (.t 42)),[]),(.f 44 24 43,[]),(.l 45 44,[]),(.z 46 (.w 104 [.t 25,.k 12,.t 29,.t 33,.t 37,.t 41,.t 45]),[])]) (.ops [.l 47 1,.z 48 (.mkFunc 140 [] [.t 1]),.z 49 (.w 138 [.t 47,.t 48])])))))
def r_montgomery_product_last:Fg Tryz.prog 77=some ⟨50,z45.r,[]⟩:=by kernel_rfl
def z3k:LC:=.skip
def r_montgomery_product_last_1:Fg Tryz.prog 139=some ⟨2,z3k.r,[]⟩:=by kernel_rfl
def z3o:LC:=(.seq (.draw [(.l 3 1,[]),(.z 4 (.nilChk (.t 3)),[]),(.f 5 0 4,[]),(.l 6 5,[]),(.l 7 1,[]),(.z 8 (.nilChk (.t 7)),[]),(.f 9 22 8,[]),(.l 10 9,[]),(.l 11 1,[]),(.z 12 (.nilChk (.t 11)),[]),(.f 13 26 12,[]),(.l 14 13,[]),(.l 15 1,[]),(.z 16 (.nilChk (.t 15)),[]),(.f 17 23 16,[]),(.l 18 17,[]),(.l 19 1,[]),(.z 20 (.nilChk (.t 19)),[]),(.f 21 22 20,[]),(.l 22 21,[]),(.z 23 (.w 113 [.t 6,.t 10,.t 14,.t 18,.t 22]),[])]) (.draw [(.l 24 1,[]),(.z 25 (.nilChk (.t 24)),[]),(.f 26 0 25,[]),(.l 27 26,[]),(.l 28 1,[]),(.z 29 (.nilChk (.t 28)),[]),(.f 30 1 29,[]),(.z 31 (.loadN 3 (.t 30)),[]),(.m 32 0,[]),(.l 33 1,[]),(.z 34 (.nilChk (.t 33)),[]),(.f 35 22 34,[]),(.l 36 35,[]),(.z 37 (.w 109 [.t 27,.t 31,.t 32,.k 0,.t 36]),[])]))
def r_montgomery_product_last_2:Fg Tryz.prog 140=some ⟨38,z3o.r,[]⟩:=by kernel_rfl
def uz:LC:=(.q [.z 7 (.box (.t 0)),.z 8 (.box (.t 1)),.z 9 (.box (.t 2)),.z 10 (.box (.t 3)),.z 11 (.box (.t 4)),.z 14 (.move (.c .nilSl))] (.q [.f 19 2 10,.l 20 19,.m 15 20] (.seq (.seq (.draw [(.m 21 15,[]),(.z 22 (.bin .lss true 3 (.t 21) (.k 1)),[]),(.m 23 22,[]),(.n 24 23 (.fieldAddr 2 (.t 7)),[]),(.n 25 23 (.load1 (.t 24)),[]),(.mn 26 23 15,[]),(.n 27 23 (.bin .neq false 3 (.t 25) (.t 26)),[]),(.z 28 (.pick (.t 23) .T (.t 27)),[]),(.m 29 28,[]),(.n 30 29 (.fieldAddr 2 (.t 8)),[]),(.n 31 29 (.load1 (.t 30)),[]),(.mn 32 29 15,[]),(.n 33 29 (.bin .neq false 3 (.t 31) (.t 32)),[]),(.z 34 (.pick (.t 29) .T (.t 33)),[]),(.m 35 34,[]),(.n 36 35 (.fieldAddr 2 (.t 9)),[]),(.n 37 35 (.load1 (.t 36)),[]),(.mn 38 35 15,[]),(.n 39 35 (.bin .neq false 3 (.t 37) (.t 38)),[]),(.z 40 (.pick (.t 35) .T (.t 39)),[]),(.m 41 40,[]),(.n 42 41 (.fieldAddr 2 (.t 11)),[]),(.n 43 41 (.load1 (.t 42)),[]),(.mn 44 41 15,[]),(.n 45 41 (.w 21 [.t 44]),[(.n 43 41 (.load1 (.t 42)),false)]),(.n 46 41 (.bin .lss false 3 (.t 43) (.t 45)),[]),(.z 47 (.pick (.t 41) .T (.t 46)),[]),(.m 48 47,[]),(.mn 49 48 5,[]),(.mn 50 48 6,[]),(.n 51 48 (.w 67 [.t 49,.t 50]),[]),(.n 52 48 (.un .not (.t 51)),[]),(.z 53 (.pick (.t 48) .T (.t 52)),[])]) (.cond (.t 53) (.q [.z 14 (.move (.c .nilSl))] .ret) .skip)) (.seq (.draw [(.m 54 5,[]),(.z 55 (.build [.nilSl,(.i 0)] [(1,1,.t 54)]),[]),(.z 56 (.box (.t 55)),[]),(.z 57 (.loadN 3 (.t 7)),[]),(.z 58 (.loadN 3 (.t 8)),[]),(.z 59 (.loadN 3 (.t 9)),[]),(.z 60 (.loadN 3 (.t 10)),[]),(.z 61 (.loadN 3 (.t 11)),[]),(.m 62 15,[]),(.z 16 (.alloc [.nilPtr]),[(.z 61 (.loadN 3 (.t 11)),false),(.z 60 (.loadN 3 (.t 10)),false),(.z 59 (.loadN 3 (.t 9)),false),(.z 58 (.loadN 3 (.t 8)),false),(.z 57 (.loadN 3 (.t 7)),false),(.z 56 (.box (.t 55)),true)]),(.z 63 (.w 21 [.t 62]),[(.z 16 (.alloc [.nilPtr]),true),(.z 61 (.loadN 3 (.t 11)),false),(.z 60 (.loadN 3 (.t 10)),false),(.z 59 (.loadN 3 (.t 9)),false),(.z 58 (.loadN 3 (.t 8)),false),(.z 57 (.loadN 3 (.t 7)),false),(.z 56 (.box (.t 55)),true)]),(.z 64 (.w 68 [.t 61,.k 0,.t 63]),[(.z 16 (.alloc [.nilPtr]),true),(.z 60 (.loadN 3 (.t 10)),false),(.z 59 (.loadN 3 (.t 9)),false),(.z 58 (.loadN 3 (.t 8)),false),(.z 57 (.loadN 3 (.t 7)),false),(.z 56 (.box (.t 55)),true)]),(.z 65 (.build [.nilPtr,(.i 0),(.i 0),(.i 0),(.i 0),(.i 0),(.i 0),(.i 0),(.i 0),(.i 0),(.i 0),(.i 0),(.i 0),(.i 0),(.i 0),(.i 0),(.i 0),(.i 0),(.i 0),(.i 0),(.i 0),(.i 0),(.i 0),(.i 0),(.i 0),(.i 0),(.i 0)] [(0,1,.t 56),(1,3,.t 57),(4,3,.t 58),(7,3,.t 59),(10,3,.t 60),(13,3,.t 64)]),[]),(.z 66 (.box (.t 65)),[(.z 16 (.alloc [.nilPtr]),true),(.z 60 (.loadN 3 (.t 10)),false),(.z 59 (.loadN 3 (.t 9)),false),(.z 58 (.loadN 3 (.t 8)),false),(.z 57 (.loadN 3 (.t 7)),false),(.z 56 (.box (.t 55)),true)]),(.v (.store 1 (.t 16) (.t 66)),[])]) (.seq (.seq (.draw [(.l 67 16,[]),(.z 68 (.nilChk (.t 67)),[]),(.f 69 16 68,[]),(.l 70 16,[]),(.z 71 (.nilChk (.t 70)),[]),(.f 72 17 71,[]),(.l 73 16,[]),(.z 74 (.nilChk (.t 73)),[]),(.f 75 18 74,[]),(.l 76 16,[]),(.z 77 (.nilChk (.t 76)),[]),(.f 78 19 77,[]),(.l 79 16,[]),(.z 80 (.nilChk (.t 79)),[]),(.f 81 20 80,[]),(.l 82 16,[]),(.z 83 (.nilChk (.t 82)),[]),(.f 84 21 83,[]),(.l 85 16,[]),(.z 86 (.nilChk (.t 85)),[]),(.f 87 22 86,[]),(.l 88 16,[]),(.z 89 (.nilChk (.t 88)),[]),(.f 90 23 89,[]),(.l 91 16,[]),(.z 92 (.nilChk (.t 91)),[]),(.f 93 24 92,[]),(.l 94 16,[]),(.z 95 (.nilChk (.t 94)),[]),(.f 96 25 95,[]),(.l 97 16,[]),(.z 98 (.nilChk (.t 97)),[]),(.f 99 26 98,[]),(.z 100 (.buildSl 1 11 [.nilPtr,.nilPtr,.nilPtr,.nilPtr,.nilPtr,.nilPtr,.nilPtr,.nilPtr,.nilPtr,.nilPtr,.nilPtr] [(0,1,.t 69),(1,1,.t 72),(2,1,.t 75),(3,1,.t 78),(4,1,.t 81),(5,1,.t 84),(6,1,.t 87),(7,1,.t 90),(8,1,.t 93),(9,1,.t 96),(10,1,.t 99)]),[(.l 97 16,false),(.l 94 16,false),(.l 91 16,false),(.l 88 16,false),(.l 85 16,false),(.l 82 16,false),(.l 79 16,false),(.l 76 16,false),(.l 73 16,false),(.l 70 16,false),(.l 67 16,false)]),(.z 101 (.lenSl (.t 100)),[]),(.z 102 (.move (.k 0)),[])]) (.block 0 (.loop (.q [.z 103 (.bin .lss false 3 (.t 102) (.t 101))] (.seq (.cond (.t 103) .skip (.exit 0)) (.seq (.block 1 (.q [.m 104 102,.z 105 (.ixAddr 1 (.t 100) (.t 102)),.l 106 105,.m 17 104,.m 18 106] (.ops [.m 107 18,.m 108 6,.m 109 17,.z 110 (.bin .add false 3 (.t 108) (.t 109)),.z 111 (.nilChk (.t 107)),.v (.store 1 (.t 111) (.t 110))]))) (.ops [.z 112 (.bin .add true 3 (.t 102) (.k 1)),.m 102 112]))))))) (.seq (.draw [(.l 113 16,[]),(.z 114 (.nilChk (.t 113)),[]),(.f 115 0 114,[]),(.l 116 115,[]),(.l 117 16,[]),(.z 118 (.nilChk (.t 117)),[]),(.f 119 16 118,[]),(.l 120 119,[]),(.z 121 (.w 69 [.t 116,.t 120,.c (.u 0)]),[])]) (.seq (.draw [(.l 122 16,[]),(.z 123 (.nilChk (.t 122)),[]),(.f 124 0 123,[]),(.l 125 124,[]),(.l 126 16,[]),(.z 127 (.nilChk (.t 126)),[]),(.f 128 26 127,[]),(.l 129 128,[]),(.z 130 (.loadN 3 (.t 10)),[]),(.z 131 (.w 70 [.t 125,.t 129,.t 130,.k (-1),.k 0]),[])]) (.seq (.draw [(.l 132 16,[]),(.z 133 (.nilChk (.t 132)),[]),(.f 134 0 133,[]),(.l 135 134,[]),(.l 136 16,[]),(.z 137 (.nilChk (.t 136)),[]),(.f 138 26 137,[]),(.l 139 138,[]),(.l 140 16,[]),(.z 141 (.nilChk (.t 140)),[]),(.f 142 17 141,[]),(.l 143 142,[]),(.z 144 (.w 71 [.t 135,.t 139,.t 143]),[])]) (.seq (.draw [(.l 145 16,[]),(.z 146 (.nilChk (.t 145)),[]),(.f 147 0 146,[]),(.l 148 147,[]),(.l 149 16,[]),(.z 150 (.nilChk (.t 149)),[]),(.f 151 13 150,[]),(.z 152 (.loadN 3 (.t 151)),[]),(.l 153 16,[]),(.z 154 (.nilChk (.t 153)),[]),(.f 155 16 154,[]),(.l 156 155,[]),(.z 157 (.w 72 [.t 148,.t 152,.t 156]),[])]) (.q [.l 158 16,.z 159 (.nilChk (.t 158)),.f 160 0 159,.l 161 160,.m 162 15,.z 163 (.mkFunc 74 [] [.t 16]),.z 164 (.w 73 [.t 161,.t 162,.t 163])] (.q [.l 165 16,.z 166 (.w 77 [.t 165])] (.q [.l 167 16,.z 168 (.nilChk (.t 167)),.f 169 0 168,.l 170 169,.z 171 (.nilChk (.t 170)),.f 172 0 171,.l 173 172,.m 14 173] .ret))))))))))))
def r_montgomery_Into:Fg Tryz.prog 23=some ⟨174,uz.r,[.tmp 14]⟩:=by kernel_rfl
def z77:LC:=(.q [.l 3 1,.m 4 0,.z 5 (.w 75 [.t 3,.t 4])] (.ops [.l 6 1,.z 7 (.w 76 [.t 6])]))
def r_montgomery_Into_1:Fg Tryz.prog 74=some ⟨8,z77.r,[]⟩:=by kernel_rfl
def z6w:LC:=(.q [.z 4 (.move .F)] (.q [.m 5 0,.z 6 (.bin .geq true 3 (.t 5) (.k 0)),.m 7 6,.my 8 7 0,.y 9 7 (.bin .leq true 3 (.t 8) (.k 6)),.z 10 (.pick (.t 7) (.t 9) .F),.m 11 10,.my 12 11 1,.y 13 11 (.bin .geq true 3 (.t 12) (.k 16)),.z 14 (.pick (.t 11) (.t 13) .F),.m 15 14,.my 16 15 1,.y 17 15 (.bin .leq true 3 (.t 16) (.k 50)),.z 18 (.pick (.t 15) (.t 17) .F),.m 4 18] .ret))
def r_montgomery_Allowed:Fg Tryz.prog 67=some ⟨19,z6w.r,[.tmp 4]⟩:=by kernel_rfl
def zeu {G:Ev}{K:LV→Ev→Prop}{e:Nat}{ops:List Lo}{deep times:Int}{f:Nat}{fst cap:List LV}{B:Fr Lo}(hd:0≤deep∧deep≤100)(h:Fo G e ops deep)(C:ops.length≤900000)(D:B.flat.length≤50000)
  (q:∀(j:Ev) (g:List Lo) (o:LV→Ev→Prop),Fo j e g (deep+1)→Kp e G j→g.length≤900001→(∀l,Fo l e (g++B.flat) (deep+1)→Kp e j l→o (.tup []) l)→F1 (.fn f) (fst++.i deep::cap) j o)
  (k:∀G',Fo G' e (ops++(Gk deep times B).flat) deep→Kp e G G'→K (.tup []) G'):F1 (.fn 73) [.ptr e 0,.i times,.fn (.func f) fst cap] G K:=by
 refine ztq hd h (by omega) (fun m=>k G (by rw[Nt,Ai m,Bx];exact h) (Kp.refl _ _)) fun r j s p=>q j _ _ s p (by simp;omega) fun l w x=>⟨_,by simp;omega,w,fun y z A=>k y ?_ (p.trans (x.trans A))⟩
 rw[Nt,Ab (by omega)];simpa using z
section put
variable {G : Ev} {K : LV → Ev → Prop} {e P st : Nat} {ops : List Lo} {deep R : Int} {d a b n t : Pc}
def zqg {x y:Int}(g:G[P]?=some (.cells (L7 e d a b n t R) st))(f:P≠e)(h:Fo G e ops deep)(F:ops.length≤950000)(k:∀G',Fo G' e (ops++Fw R x y) deep→Kp e G G'→K (.tup []) G'):F1 (.fn 135) [.ptr P 0,.i x,.i y] G K:=by
 refine E9 r_montgomery_product_sum (by kernel_rfl) (by simp) ?_;unfold L7 at g;simp[z4l,g];refine zhx h (by omega) fun H s j=>?_
 have l:=j.cells f g;simp[l];refine il s (by simp;omega) fun I w m=>?_
 have o:=m.cells f l;simp[o];refine il w (by simp;omega) fun J z p=>?_
 have q:=p.cells f o;simp[q];refine Qc z (by simp;omega) fun L A r=>?_
 have B:=r.cells f q;simp[B];refine Qc A (by simp;omega) fun C D E=>?_
 simp;refine k C (by simpa [Fw] using D) (j.trans (m.trans (p.trans (r.trans E))))
def zxh (s:-1000000≤t.at_∧t.at_≤1000000)(w:0≤n.size∧n.size≤1000000)(f:G[P]?=some (.cells (L7 e d a b n t R) st))(g:P≠e)(h:Fo G e ops deep)(x:ops.length≤900000)(k:∀G',Fo G' e (ops++Gt t n.size R) deep→Kp e G G'→K (.tup []) G'):F1 (.fn 136) [.ptr P 0] G K:=by
 refine E9 r_montgomery_product_top (by kernel_rfl) (by simp) ?_;unfold L7 at f;simp[z4j,f];refine Ln (p:=t) (by omega) h (by omega) fun y l j=>?_
 have m:=j.cells g f;simp[m];refine il l (by simp;omega) fun o q r=>?_
 simp;refine k o (by simpa [Gt] using q) (j.trans r)
def zu5 {z sz:Nat}{j:Int}(N:-1000000≤a.at_∧a.at_≤1000000)(O:-1000000≤t.at_∧t.at_≤1000000)(r:G[z]?=some (.cells [.ptr P 0] sz))(g:z≠e)(l:G[P]?=some (.cells (L7 e d a b n t R) st))(f:P≠e)(h:Fo G e ops deep)(Q:ops.length≤900001)(k:∀G',Fo G' e (ops++Lr a t R j) deep→Kp e G G'→K (.tup []) G'):F1 (.fn 134) [.i j,.ptr z 0] G K:=by
 refine E9 r_montgomery_product_times_1 (by kernel_rfl) (by simp) ?_;have A:=l;unfold L7 at l;simp[z3a,r,l];refine Ln (p:=a) (by omega) h (by omega) fun S B m=>?_
 have s:=m.cells g r;have C:=m.cells f A;have w:=m.cells f l;simp[s,w];refine Ln (p:=t) (by omega) B (by simp;omega) fun T D o=>?_
 have x:=o.cells g s;have E:=o.cells f C;have y:=o.cells f w;simp[x,y];refine zqg E f D (by simp;omega) fun U F q=>?_
 have H:=q.cells g x;have I:=q.cells f y;simp[H,I];refine Mq (p:=t) (by omega) F (by simp[Fw];omega) fun J L M=>?_
 simp;refine k J (by simpa [Lr] using L) (m.trans (o.trans (q.trans M)))
def zvz {z sz:Nat}{j:Int}(N:-1000000≤n.at_∧n.at_≤1000000)(O:-1000000≤t.at_∧t.at_≤1000000)(r:G[z]?=some (.cells [.ptr P 0] sz))(g:z≠e)(l:G[P]?=some (.cells (L7 e d a b n t R) st))(f:P≠e)(h:Fo G e ops deep)(Q:ops.length≤900001)(k:∀G',Fo G' e (ops++Mh n t R j) deep→Kp e G G'→K (.tup []) G'):F1 (.fn 137) [.i j,.ptr z 0] G K:=by
 refine E9 r_montgomery_product_down_1 (by kernel_rfl) (by simp) ?_;have A:=l;unfold L7 at l;simp[z3n,r,l];refine Ln (p:=n) (by omega) h (by omega) fun S B m=>?_
 have s:=m.cells g r;have C:=m.cells f A;have w:=m.cells f l;simp[s,w];refine Ln (p:=t) (by omega) B (by simp;omega) fun T D o=>?_
 have x:=o.cells g s;have E:=o.cells f C;have y:=o.cells f w;simp[x,y];refine zqg E f D (by simp;omega) fun U F q=>?_
 have H:=q.cells g x;have I:=q.cells f y;simp[H,I];refine Mq (p:=t) (by omega) F (by simp[Fw];omega) fun J L M=>?_
 simp;refine k J (by simpa [Mh] using L) (m.trans (o.trans (q.trans M)))
def zzh {i:Int}(hd:0≤deep∧deep≤50)(M:-1000000≤a.at_∧a.at_≤1000000)(hb:-1000000≤b.at_∧b.at_≤1000000)(x:-1000000≤t.at_∧t.at_≤1000000)(N:0≤n.size∧n.size≤1000000)(j:G[P]?=some (.cells (L7 e d a b n t R) st))(f:P≠e)(h:Fo G e ops deep)(hl:ops.length≤800000)
  (k:∀G',Fo G' e (ops++(Lk a b t n.size R deep i).flat) deep→Kp e G G'→K (.tup []) G'):F1 (.fn 75) [.ptr P 0,.i i] G K:=by
 refine E9 r_montgomery_product_times (by kernel_rfl) (by simp) ?_;have O:=j;unfold L7 at j;have q:=(Aa.1 j).1;have le:e<G.length:=by obtain⟨_,_,h,_⟩:=id h;exact (Aa.1 h).1
 have Q:(G++[LObj.cells [.ptr P 0] 0])[G.length]?=some (.cells [.ptr P 0] 0):=Aw;have S:(G++[LObj.cells [.ptr P 0] 0])[P]?=_:=(E6 q).trans O;have T:(G++[LObj.cells [.ptr P 0] 0])[P]?=_:=(E6 q).trans j;have U:=h.app [LObj.cells [.ptr P 0] 0];have V:=Kp.app' e G [LObj.cells [.ptr P 0] 0];have g:G.length≠e:=by omega
 simp[z3z,↓E6 q,j];generalize G++[LObj.cells [.ptr P 0] 0]=G0 at *;generalize G.length=z at *;refine Ln (p:=b) (by omega) U (by omega) fun G1 W l=>?_
 have y:=l.cells g Q;have X:=l.cells f S;have A:=l.cells f T;simp[y,A];refine Ou W (by simp;omega) fun G2 Y m=>?_
 have r:=m.cells g y;have C:=m.cells f X;have D:=m.cells f A;simp[r,D];refine zeu (fst:=[]) (cap:=[.ptr z 0]) (B:=E4 (Lr a t R deep)) (by omega) Y (by simp;omega) (by rw[flat_frL];simp[Lr,Fw]) (fun G3 E K' Z F l3 hk=>?_) fun G5 h5 o=>?_
 ·rw[flat_frL] at hk;exact zu5 M x (F.cells g r) g (F.cells f C) f Z l3 hk
 have H:=o.cells g r;have q5:=o.cells f C;have I:=o.cells f D;simp[H,I];have aa:(Gk deep n.size (E4 (Lr a t R deep))).flat.length≤100:=by rw[Nt];split<;>simp[flat_frL,Lr,Fw]
 refine zxh x N q5 f h5 (by simp;omega) fun G6 h6 s=>?_
 have J:=s.cells g H;have L:=s.cells f I;simp[J,L];refine Mq (p:=t) (by omega) h6 (by simp[Gt];omega) fun G7 h7 w=>?_
 have z7:=w.cells g J;have p7:=w.cells f L;simp[z7,p7]
 repeat (refine⟨by omega,?_⟩)
 refine Mq (p:=t) (by omega) h7 (by simp[Gt];omega) fun G8 h8 k8=>?_
 simp;refine k G8 ?_ (V.trans (l.trans (m.trans (o.trans (s.trans (w.trans k8))))));unfold Lk;rw[Hi,Hi,flat_frL,flat_frL];simpa using h8
end put
end
section
section put
variable {G : Ev} {K : LV → Ev → Prop} {e P st : Nat} {ops : List Lo} {deep R : Int} {d a b n t : Pc}
def Ua (hd:0≤deep∧deep≤50)(x:-1000000≤n.at_∧n.at_≤1000000)(O:-1000000≤t.at_∧t.at_≤1000000)(hn:0≤n.size∧n.size≤1000000)(m:G[P]?=some (.cells (L7 e d a b n t R) st))(f:P≠e)(h:Fo G e ops deep)(hl:ops.length≤800000)
  (k:∀G',Fo G' e (ops++(Ly n t n.size R deep).flat) deep→Kp e G G'→K (.tup []) G'):F1 (.fn 76) [.ptr P 0] G K:=by
 refine E9 r_montgomery_product_down (by kernel_rfl) (by simp) ?_;have hQ:=m;unfold L7 at m;have y:=(Aa.1 m).1;have le:e<G.length:=by obtain⟨_,_,h,_⟩:=id h;exact (Aa.1 h).1
 have z0:(G++[LObj.cells [.ptr P 0] 0])[G.length]?=some (.cells [.ptr P 0] 0):=Aw;have q0:(G++[LObj.cells [.ptr P 0] 0])[P]?=_:=(E6 y).trans hQ;have p0:(G++[LObj.cells [.ptr P 0] 0])[P]?=_:=(E6 y).trans m;have h0:=h.app [LObj.cells [.ptr P 0] 0];have k0:=Kp.app' e G [LObj.cells [.ptr P 0] 0];have g:G.length≠e:=by omega
 simp[z44,↓E6 y,m];generalize G++[LObj.cells [.ptr P 0] 0]=G0 at *;generalize G.length=z at *;refine Ln (p:=t) (by omega) h0 (by omega) fun G1 h1 o=>?_
 have Q:=o.cells g z0;have q1:=o.cells f q0;have S:=o.cells f p0;simp[Q,S];refine zhx h1 (by simp;omega) fun G2 h2 q=>?_
 have T:=q.cells g Q;have q2:=q.cells f q1;have U:=q.cells f S;simp[T,U];refine Ln (p:=n) (by omega) h2 (by simp;omega) fun G3 h3 r=>?_
 have V:=r.cells g T;have q3:=r.cells f q2;have W:=r.cells f U;simp[V,W];refine Ou h3 (by simp;omega) fun G4 h4 s=>?_
 have X:=s.cells g V;have Y:=s.cells f q3;have Z:=s.cells f W;simp[X,Z];refine zqg Y f h4 (by simp;omega) fun G5 h5 w=>?_
 have A:=w.cells g X;have q5:=w.cells f Y;have p5:=w.cells f Z;simp[A,p5]
 repeat (refine⟨by omega,?_⟩)
 refine zeu (fst:=[]) (cap:=[.ptr z 0]) (B:=E4 (Mh n t R deep)) (by omega) h5 (by simp[Fw];omega) (by rw[flat_frL];simp[Mh,Fw]) (fun G6 aa K' C j l6 hk=>?_) fun G6 C j=>?_
 ·rw[flat_frL] at hk;exact zvz x O (j.cells g A) g (j.cells f q5) f C l6 hk
 have z6:=j.cells g A;have q6:=j.cells f q5;have p6:=j.cells f p5;simp[z6,p6];have ad:(Gk deep (n.size - 1) (E4 (Mh n t R deep))).flat.length≤100:=by rw[Nt];split<;>simp[flat_frL,Mh,Fw]
 refine zxh O hn q6 f C (by simp[Fw];omega) fun G7 h7 D=>?_
 have z7:=D.cells g z6;have p7:=D.cells f p6;simp[z7,p7]
 repeat (refine⟨by omega,?_⟩)
 refine Mq (p:=t) (by omega) h7 (by simp[Gt,Fw];omega) fun G8 h8 E=>?_
 have z8:=E.cells g z7;have p8:=E.cells f p7;simp[z8,p8]
 repeat (refine⟨by omega,?_⟩)
 refine Ln (p:=t) (by omega) h8 (by simp[Gt,Fw];omega) fun G9 h9 F=>?_
 have z9:=F.cells g z8;have p9:=F.cells f p8;simp[z9,p9];refine Qc h9 (by simp[Gt,Fw];omega) fun af H l=>?_
 have I:=l.cells g z9;have J:=l.cells f p9;simp[I,J];refine Mq (p:=t) (by omega) H (by simp[Gt,Fw];omega) fun L M N=>?_
 simp;refine k L ?_ (k0.trans (o.trans (q.trans (r.trans (s.trans (w.trans (j.trans (D.trans (E.trans (F.trans (l.trans N)))))))))));unfold Ly;rw[Hi,Hi,flat_frL,flat_frL];simpa using M
def zxo {z y sz I f:Nat}{cap:List LV}{x:List Lo}{j:Int}(Z:-1000000≤n.at_∧n.at_≤1000000)(ht:-1000000≤t.at_∧t.at_≤1000000)(D:G[z]?=some (.cells [.ptr P 0] sz))(m:z≠e)(J:G[y]?=some (.cells [.fn (.func f) [] cap] I))(l:y≠e)(B:G[P]?=some (.cells (L7 e d a b n t R) st))(o:P≠e)(h:Fo G e ops deep)(hl:ops.length≤900001)
  (q:∀(r:Ev) (g:List Lo) (E:LV→Ev→Prop),Fo r e g deep→Kp e G r→g.length≤900010→(∀A,Fo A e (g++x) deep→Kp e r A→E (.tup []) A)→F1 (.fn f) (.i j::cap) r E)
  (k:∀G',Fo G' e (ops++(Lz n t R j++x)) deep→Kp e G G'→K (.tup []) G'):F1 (.fn 180) [.i j,.ptr z 0,.ptr y 0] G K:=by
 refine E9 r_montgomery_product_less_1 (by kernel_rfl) (by simp) ?_;unfold L7 at B;simp[z3m,D,B];refine Ln (p:=t) (by omega) h (by omega) fun r L s=>?_
 have F:=s.cells m D;have M:=s.cells l J;have H:=s.cells o B;simp[F,H];refine Ln (p:=n) (by omega) L (by simp;omega) fun A N w=>?_
 have O:=w.cells m F;have Q:=w.cells l M;have S:=w.cells o H;simp[O,S];refine il N (by simp;omega) fun T U C=>?_
 have V:=C.cells l Q;simp[V];refine q T _ _ U (s.trans (w.trans C)) (by simp;omega) fun W X Y=>?_
 simp;refine k W (by simpa [Lz] using X) (s.trans (w.trans (C.trans Y)))
def zt5 {f:Nat}{cap:List LV}{x:List Lo}(hx:x.length≤10)(hd:0≤deep∧deep≤50)(A:-1000000≤n.at_∧n.at_≤1000000)(L:-1000000≤t.at_∧t.at_≤1000000)(p:G[P]?=some (.cells (L7 e d a b n t R) st))(j:P≠e)(h:Fo G e ops deep)(hl:ops.length≤800000)
  (q:∀(r:Ev) (g:List Lo) (C:LV→Ev→Prop),Fo r e g (deep+1)→Kp e G r→g.length≤900010→(∀D,Fo D e (g++x) (deep+1)→Kp e r D→C (.tup []) D)→F1 (.fn f) (.i deep::cap) r C)
  (k:∀G',Fo G' e (ops++(Nn n t n.size R deep x).flat) deep→Kp e G G'→K (.tup []) G'):F1 (.fn 138) [.ptr P 0,.fn (.func f) [] cap] G K:=by
 refine E9 r_montgomery_product_less (by kernel_rfl) (by simp) ?_;have M:=p;unfold L7 at p;have E:=(Aa.1 p).1;have le:e<G.length:=by obtain⟨_,_,h,_⟩:=id h;exact (Aa.1 h).1
 have N:(G++[LObj.cells [.ptr P 0] 0,LObj.cells [.fn (.func f) [] cap] 0])[G.length]?=some (.cells [.ptr P 0] 0):=by simp
 have O:(G++[LObj.cells [.ptr P 0] 0,LObj.cells [.fn (.func f) [] cap] 0])[G.length+1]?=some (.cells [.fn (.func f) [] cap] 0):=by simp
 have Q:(G++[LObj.cells [.ptr P 0] 0,LObj.cells [.fn (.func f) [] cap] 0])[P]?=_:=(E6 E).trans M;have S:(G++[LObj.cells [.ptr P 0] 0,LObj.cells [.fn (.func f) [] cap] 0])[P]?=_:=(E6 E).trans p;have T:=h.app [LObj.cells [.ptr P 0] 0,LObj.cells [.fn (.func f) [] cap] 0];have H:=Kp.app' e G [LObj.cells [.ptr P 0] 0,LObj.cells [.fn (.func f) [] cap] 0];have l:G.length≠e:=by omega
 have m:G.length+1≠e:=by omega
 simp[z49,↓E6 E,p];generalize G++[LObj.cells [.ptr P 0] 0,LObj.cells [.fn (.func f) [] cap] 0]=G0 at *;generalize G.length+1=y at *;generalize G.length=z at *;refine Ou T (by omega) fun r U o=>?_
 have I:=o.cells l N;have V:=o.cells m O;have W:=o.cells j Q;have X:=o.cells j S;simp[I,X];refine zeu (fst:=[]) (cap:=[.ptr z 0,.ptr y 0]) (B:=E4 (Lz n t R deep++x)) (by omega) U (by simp;omega) (by rw[flat_frL];simp[Lz];omega) (fun G3 J C Y w Z hk=>?_) fun G5 h5 k5=>?_
 ·rw[flat_frL] at hk;exact zxo A L (w.cells l I) l (w.cells m V) m (w.cells j W) j Y Z (fun G4 s K4 h4 k4 l4 F=>q G4 s K4 h4 (H.trans (o.trans (w.trans k4))) l4 F) hk
 simp;refine k G5 ?_ (H.trans (o.trans k5));unfold Nn;rw[Hi,flat_frL];simpa using h5
def V9 (hd:0≤deep∧deep≤50)(T:-1000000≤d.at_∧d.at_≤1000000)(j:-1000000≤n.at_∧n.at_≤1000000)(B:-1000000≤t.at_∧t.at_≤1000000)(hn:0≤n.size∧n.size≤1000000)(l:G[P]?=some (.cells (L7 e d a b n t R) st))(f:P≠e)(h:Fo G e ops deep)(hl:ops.length≤700000)
  (k:∀G',Fo G' e (ops++(Qb d n t n.size R deep).flat) deep→Kp e G G'→K (.tup []) G'):F1 (.fn 77) [.ptr P 0] G K:=by
 refine E9 r_montgomery_product_last (by kernel_rfl) (by simp) ?_;have U:=l;unfold L7 at l;have s:=(Aa.1 l).1;have le:e<G.length:=by obtain⟨_,_,h,_⟩:=id h;exact (Aa.1 h).1
 have V:(G++[LObj.cells [.ptr P 0] 0])[G.length]?=some (.cells [.ptr P 0] 0):=Aw;have C:(G++[LObj.cells [.ptr P 0] 0])[P]?=_:=(E6 s).trans U;have W:(G++[LObj.cells [.ptr P 0] 0])[P]?=_:=(E6 s).trans l;have X:=h.app [LObj.cells [.ptr P 0] 0];have Y:=Kp.app' e G [LObj.cells [.ptr P 0] 0];have g:G.length≠e:=by omega
 simp[z45,↓E6 s,l];generalize G++[LObj.cells [.ptr P 0] 0]=G0 at *;generalize G.length=z at *;have Z:∀x:List Lo,x.length≤10→(Nn n t n.size R deep x).flat.length≤100:=fun x hx=>by
  unfold Nn;rw[Hi,flat_frL,Nt];split<;>simp[flat_frL,Lz];omega
 refine zt5 (x:=[]) (by simp) hd j B C f X (by omega) (fun D E K' w m l1 hk=>?_) fun D w m=>?_
 ·refine E9 r_montgomery_product_last_1 (by kernel_rfl) (by simp) ?_;simp[z3k];exact hk D (by simpa using w) (Kp.refl _ _)
 have F:=m.cells g V;have q1:=m.cells f C;have H:=m.cells f W;have l1:=Z [] (by simp);simp[F,H];refine Ln (p:=t) (by omega) w (by simp;omega) fun G2 h2 o=>?_
 have I:=o.cells g F;have q2:=o.cells f q1;have J:=o.cells f H;simp[I,J];refine il h2 (by simp;omega) fun G3 h3 q=>?_
 have L:=q.cells g I;have q3:=q.cells f q2;have M:=q.cells f J;simp[L,M];refine zt5 (x:=[Fx (R+6) (R+10) (R+7) (R+6),Ff d deep 0 (R+6)]) (by simp) hd j B q3 f h3 (by simp;omega) (fun N O K' y r l4 hk=>?_) fun N y r=>?_
 ·refine E9 r_montgomery_product_last_2 (by kernel_rfl) (by simp) ?_;have Q:=r.cells g L;have S:=r.cells f M;simp[z3o,Q,S];refine zma y (by omega) fun G5 h5 A=>?_
  have z5:=A.cells g Q;have p5:=A.cells f S;simp[z5,p5];refine Mq (p:=d) (by omega) h5 (by simp;omega) fun G6 h6 k6=>?_
  simp;exact hk G6 (by simpa using h6) (A.trans k6)
 simp;refine k N ?_ (Y.trans (m.trans (o.trans (q.trans r))));unfold Qb;rw[Hi,Hi,flat_frL];simpa using y
end put
end
section
def Ry (k:Int):Int:=if k<1 then 0 else k+2
def Yg (deep regs:Int):Bool:=decide (0≤deep)&&(decide (deep≤6)&&(decide (16≤regs)&&decide (regs≤50)))
def z4h {G:Ev}{K:LV→Ev→Prop}{n:Int}(f:n≤1000000000)(k:K (.i (Ry n)) G):F1 (.fn 21) [.i n] G K:=by
 refine E9 r_montgomery_Need k_montgomery_Need (by simp) ?_;unfold Ry at k;by_cases g:n<1
 ·rw[Ai g] at k;simpa [z2u,g] using k
 ·rw[Ab g] at k;simp[z2u,g];exact⟨by omega,k⟩
def z64 {G:Ev}{K:LV→Ev→Prop}{a b:Int}(k:K (.bool (Yg a b)) G):F1 (.fn 67) [.i a,.i b] G K:=by
 refine E9 r_montgomery_Allowed (by kernel_rfl) (by simp) ?_;unfold Yg at k;by_cases g1:0≤a<;>by_cases g2:a≤6<;>by_cases g3:16≤b<;>by_cases g4:b≤50<;>simpa [z6w,g1,g2,g3,g4] using k
def z5u {G:Ev}{K:LV→Ev→Prop}{p:Pc}{at_ size:Int}(h:-1000000000≤p.at_+at_∧p.at_+at_≤1000000000)(k:K (.agg (Pc.f ⟨p.buf,p.at_+at_,size⟩)) (G++[LObj.cells p.f 0,LObj.cells [.i p.buf,.i (p.at_+at_),.i size] 1])):F1 (.fn 68) [.agg p.f,.i at_,.i size] G K:=by
 refine E9 r_expand_Part (by kernel_rfl) (by simp) ?_;simp[zei,Pc.f];exact⟨by omega,by simpa [Pc.f] using k⟩
def Q8 {G:Ev}{K:LV→Ev→Prop}{e:Nat}{ops:List Lo}{deep times:Int}{f:Nat}{fst cap:List LV}{B:Fr Lo}(hd:0≤deep∧deep≤100)(h:Fo G e ops deep)(C:ops.length≤900000)(D:B.flat.length≤50000)
  (q:∀(j:Ev) (g:List Lo) (o:LV→Ev→Prop),Fo j e g (deep+1)→Kp e G j→g.length≤ops.length+1→(∀l,Fo l e (g++B.flat) (deep+1)→Kp e j l→o (.tup []) l)→F1 (.fn f) (fst++.i deep::cap) j o)
  (k:∀G',Fo G' e (ops++(Gk deep times B).flat) deep→Kp e G G'→K (.tup []) G'):F1 (.fn 73) [.ptr e 0,.i times,.fn (.func f) fst cap] G K:=by
 refine ztq hd h (by omega) (fun m=>k G (by rw[Nt,Ai m,Bx];exact h) (Kp.refl _ _)) fun r j s p=>q j _ _ s p (by simp) fun l w x=>⟨_,by simp;omega,w,fun y z A=>k y ?_ (p.trans (x.trans A))⟩
 rw[Nt,Ab (by omega)];simpa using z
section put
variable {G : Ev} {K : LV → Ev → Prop} {e P st : Nat} {ops : List Lo} {deep R : Int} {d a b n t : Pc}
def zm0 {p:Pc}{x:Int}(hd:0≤deep∧deep≤50)(O:-1000000≤p.at_∧p.at_≤1000000)(h:Fo G e ops deep)(Q:ops.length≤800000)
  (k:∀G',Fo G' e (ops++(Ke p x deep).flat) deep→Kp e G G'→K (.tup []) G'):F1 (.fn 72) [.ptr e 0,.agg p.f,.i x] G K:=by
 refine E9 r_expand_Emit_Fill (by kernel_rfl) (by simp) ?_;have le:e<G.length:=by obtain⟨_,_,h,_⟩:=id h;exact (Aa.1 h).1
 have m:(G++[LObj.cells [.ptr e 0] 0,LObj.cells p.f 0,LObj.cells [.i x] 0])[G.length]?=some (.cells [.ptr e 0] 0):=by simp
 have o:(G++[LObj.cells [.ptr e 0] 0,LObj.cells p.f 0,LObj.cells [.i x] 0])[G.length+1]?=some (.cells p.f 0):=by simp
 have q:(G++[LObj.cells [.ptr e 0] 0,LObj.cells p.f 0,LObj.cells [.i x] 0])[G.length+2]?=some (.cells [.i x] 0):=by simp
 have r:=h.app [LObj.cells [.ptr e 0] 0,LObj.cells p.f 0,LObj.cells [.i x] 0];have s:=Kp.app' e G [LObj.cells [.ptr e 0] 0,LObj.cells p.f 0,LObj.cells [.i x] 0];have f:G.length≠e:=by omega
 have g:G.length+1≠e:=by omega
 have j:G.length+2≠e:=by omega
 unfold Pc.f at o q m r s;simp[z8b,Pc.f];generalize G++[LObj.cells [.ptr e 0] 0,LObj.cells [.i p.buf,.i p.at_,.i p.size] 0,LObj.cells [.i x] 0]=S at *;generalize G.length+2=w at *;generalize G.length+1=y at *;generalize G.length=z at *;refine zeu (fst:=[]) (cap:=[.ptr z 0,.ptr y 0,.ptr w 0]) (B:=E4 [Ff p deep 0 x]) (by omega) r (by omega) (by rw[flat_frL];simp) (fun T A U C l V hk=>?_) fun D E F=>?_
 ·rw[flat_frL] at hk;refine E9 r_expand_Emit_Fill_1 (by kernel_rfl) (by simp) ?_;have H:=l.cells f m;have I:=l.cells g o;have J:=l.cells j q;simp[z6n,H,I,J];refine Mq (p:=p) (by omega) C (by omega) fun L M N=>?_
  simp;exact hk L M N
 simp;exact k D E (s.trans F)
def zz7 {z sz:Nat}{i:Int}(hd:0≤deep∧deep≤50)(r:-1000000≤a.at_∧a.at_≤1000000)(s:-1000000≤b.at_∧b.at_≤1000000)(g:-1000000≤n.at_∧n.at_≤1000000)(m:-1000000≤t.at_∧t.at_≤1000000)(o:0≤n.size∧n.size≤1000000)(p:G[z]?=some (.cells [.ptr P 0] sz))(j:z≠e)(q:G[P]?=some (.cells (L7 e d a b n t R) st))(f:P≠e)(h:Fo G e ops deep)(D:ops.length≤700000)
  (k:∀G',Fo G' e (ops++((Lk a b t n.size R deep i).cat (Ly n t n.size R deep)).flat) deep→Kp e G G'→K (.tup []) G'):F1 (.fn 74) [.i i,.ptr z 0] G K:=by
 refine E9 r_montgomery_Into_1 (by kernel_rfl) (by simp) ?_;simp[z77,p];have E:(Lk a b t n.size R deep i).flat.length≤100:=by
  unfold Lk;rw[Hi,Hi,flat_frL,Nt];split<;>simp[flat_frL,Lr,Fw,Gt]
 refine zzh hd r s m o q f h (by omega) fun F w l=>?_
 have x:=l.cells j p;have y:=l.cells f q;simp[x];refine Ua hd g m o y f w (by simp;omega) fun A B C=>?_
 simp;refine k A ?_ (l.trans C);rw[Hi];simpa using B
end put
def Yd (d a b n w:Pc)(deep R:Int):Bool:=decide (1≤n.size)&&(decide (d.size=n.size)&&(decide (a.size=n.size)&&(decide (b.size=n.size)&&(decide (Ry n.size≤w.size)&&Yg deep R))))
def jg (d a b n w:Pc)(deep R:Int):List Lo:=if Yd d a b n w deep R=true then (O2 d a b n ⟨w.buf,w.at_,Ry n.size⟩ n.size R deep).flat else []
def Nb (d a b n w:Pc)(deep R:Int)(i st:Nat):Ev :=
 [.cells [.i d.buf,.i d.at_,.i n.size] 0,.cells [.i a.buf,.i a.at_,.i n.size] 0,.cells [.i b.buf,.i b.at_,.i n.size] 0,.cells [.i n.buf,.i n.at_,.i n.size] 0,.cells [.i w.buf,.i w.at_,.i w.size] 0,.cells [.nilSl,.i deep] 0,.cells [.ptr 9 0] 1,
  .cells [.i w.buf,.i w.at_,.i w.size] 0,.cells [.i w.buf,.i w.at_,.i (Ry n.size)] 1,
  .cells [.ptr 5 0,.i d.buf,.i d.at_,.i n.size,.i a.buf,.i a.at_,.i n.size,.i b.buf,.i b.at_,.i n.size,.i n.buf,.i n.at_,.i n.size,.i w.buf,.i w.at_,.i (Ry n.size),.i (if 0<i then R else 0),.i (if 1<i then R+1 else 0),.i (if 2<i then R+2 else 0),.i (if 3<i then R+3 else 0),.i (if 4<i then R+4 else 0),.i (if 5<i then R+5 else 0),.i (if 6<i then R+6 else 0),.i (if 7<i then R+7 else 0),.i (if 8<i then R+8 else 0),.i (if 9<i then R+9 else 0),.i (if 10<i then R+10 else 0)] st,
  .dyn [.ptr 9 16,.ptr 9 17,.ptr 9 18,.ptr 9 19,.ptr 9 20,.ptr 9 21,.ptr 9 22,.ptr 9 23,.ptr 9 24,.ptr 9 25,.ptr 9 26] 11 1 0 0]
def zdv {d a b n w:Pc}{deep R:Int}(E:-1000000≤d.at_∧d.at_≤1000000)(ha:-1000000≤a.at_∧a.at_≤1000000)(hb:-1000000≤b.at_∧b.at_≤1000000)(y:-1000000≤n.at_∧n.at_≤1000000)(hw:-1000000≤w.at_∧w.at_≤1000000)(hn:n.size≤1000000) :
  H6 23 [.agg d.f,.agg a.f,.agg b.f,.agg n.f,.agg w.f,.i deep,.i R] (.lst (Gi (jg d a b n w deep R)) (jg d a b n w deep R).length 8):=by
 refine La.mk (by simp[LV.dat,Jv]) (E9 r_montgomery_Into (by kernel_rfl) (by simp) ?_);have bad:Yd d a b n w deep R=false→jg d a b n w deep R=[]:=fun h=>by unfold jg;rw[h];simp
 by_cases g1:n.size<1
 ·rw[bad (by simp[Yd];omega)];simp[uz,Pc.f,g1,Gi]
 by_cases g2:d.size=n.size
 rotate_left
 ·rw[bad (by simp[Yd];omega)];simp[uz,Pc.f,g1,g2,Gi]
 by_cases g3:a.size=n.size
 rotate_left
 ·rw[bad (by simp[Yd];omega)];simp[uz,Pc.f,g1,g2,g3,Gi]
 by_cases g4:b.size=n.size
 rotate_left
 ·rw[bad (by simp[Yd];omega)];simp[uz,Pc.f,g1,g2,g3,g4,Gi]
 simp[uz,Pc.f,g1,g2,g3,g4];refine z4h (by omega) ?_;by_cases g5:w.size<Ry n.size
 ·rw[bad (by simp[Yd];omega)];simp[g5,Gi]
 simp[g5];refine z64 ?_;by_cases g6:Yg deep R=true
 rotate_left
 ·rw[bad (by simp[Yd,g6])];simp[g6,Gi]
 simp[g6];refine z4h (by omega) ?_;simp;refine z5u (p:=w) (by omega) ?_;simp[Pc.f];have hR:16≤R∧R≤50∧0≤deep∧deep≤6:=by simp[Yg] at g6;omega
 refine Iw (fun ρ D G' N=>∃i st:Nat,D=[]∧N+i=11∧lk ρ 6=.i R∧lk ρ 10=.ptr 3 0∧lk ρ 15=.i n.size∧lk ρ 16=.ptr 6 0∧lk ρ 100=.dy 10 0∧lk ρ 101=.i 11∧lk ρ 102=.i i∧G'=Nb d a b n w deep R i st) (N:=11)
  ⟨0,0,rfl,by omega,by simp,by simp,by simp,by simp,by simp,by simp,by simp,by simp[Nb]⟩ ?_
 rintro N ρ D O ⟨i,st,rfl,hN,r,l,m,o,f,j,s,rfl⟩ Nx q;by_cases g:i<11
 ·have hi:i=0∨i=1∨i=2∨i=3∨i=4∨i=5∨i=6∨i=7∨i=8∨i=9∨i=10:=by omega
  rcases hi with rfl|rfl|rfl|rfl|rfl|rfl|rfl|rfl|rfl|rfl|rfl
  all_goals simp[r,l,m,o,f,j,s,Nb]
  ·try (refine⟨by omega,?_⟩)
   exact q _ _ _ ⟨N - 1,by omega,1,st+1,rfl,by omega,by simp[r],by simp[l],by simp[m],by simp[o],by simp[f],by simp[j],by simp,by simp[Nb]⟩
  ·try (refine⟨by omega,?_⟩)
   exact q _ _ _ ⟨N - 1,by omega,2,st+1,rfl,by omega,by simp[r],by simp[l],by simp[m],by simp[o],by simp[f],by simp[j],by simp,by simp[Nb]⟩
  ·try (refine⟨by omega,?_⟩)
   exact q _ _ _ ⟨N - 1,by omega,3,st+1,rfl,by omega,by simp[r],by simp[l],by simp[m],by simp[o],by simp[f],by simp[j],by simp,by simp[Nb]⟩
  ·try (refine⟨by omega,?_⟩)
   exact q _ _ _ ⟨N - 1,by omega,4,st+1,rfl,by omega,by simp[r],by simp[l],by simp[m],by simp[o],by simp[f],by simp[j],by simp,by simp[Nb]⟩
  ·try (refine⟨by omega,?_⟩)
   exact q _ _ _ ⟨N - 1,by omega,5,st+1,rfl,by omega,by simp[r],by simp[l],by simp[m],by simp[o],by simp[f],by simp[j],by simp,by simp[Nb]⟩
  ·try (refine⟨by omega,?_⟩)
   exact q _ _ _ ⟨N - 1,by omega,6,st+1,rfl,by omega,by simp[r],by simp[l],by simp[m],by simp[o],by simp[f],by simp[j],by simp,by simp[Nb]⟩
  ·try (refine⟨by omega,?_⟩)
   exact q _ _ _ ⟨N - 1,by omega,7,st+1,rfl,by omega,by simp[r],by simp[l],by simp[m],by simp[o],by simp[f],by simp[j],by simp,by simp[Nb]⟩
  ·try (refine⟨by omega,?_⟩)
   exact q _ _ _ ⟨N - 1,by omega,8,st+1,rfl,by omega,by simp[r],by simp[l],by simp[m],by simp[o],by simp[f],by simp[j],by simp,by simp[Nb]⟩
  ·try (refine⟨by omega,?_⟩)
   exact q _ _ _ ⟨N - 1,by omega,9,st+1,rfl,by omega,by simp[r],by simp[l],by simp[m],by simp[o],by simp[f],by simp[j],by simp,by simp[Nb]⟩
  ·try (refine⟨by omega,?_⟩)
   exact q _ _ _ ⟨N - 1,by omega,10,st+1,rfl,by omega,by simp[r],by simp[l],by simp[m],by simp[o],by simp[f],by simp[j],by simp,by simp[Nb]⟩
  ·try (refine⟨by omega,?_⟩)
   exact q _ _ _ ⟨N - 1,by omega,11,st+1,rfl,by omega,by simp[r],by simp[l],by simp[m],by simp[o],by simp[f],by simp[j],by simp,by simp[Nb]⟩
 ·have hi:i=11:=by omega
  subst hi;have Q:(Nb d a b n w deep R 11 st)[9]?=some (.cells (L7 5 d a b n ⟨w.buf,w.at_,Ry n.size⟩ R) st):=by simp[Nb,L7,g2,g3,g4]
  have e0:Fo (Nb d a b n w deep R 11 st) 5 [] deep:=⟨0,.nilSl,rfl,H0.nil⟩;have S:(Nb d a b n w deep R 11 st)[6]?=some (.cells [.ptr 9 0] 1):=rfl;have n0:(Nb d a b n w deep R 11 st)[3]?=some (.cells [.i n.buf,.i n.at_,.i n.size] 0):=rfl;generalize Nb d a b n w deep R 11 st=G0 at *;generalize T:(⟨w.buf,w.at_,Ry n.size⟩:Pc)=t at *;have x:-1000000≤t.at_∧t.at_≤1000000:=by rw[←T];exact hw
  have z:0≤n.size∧n.size≤1000000:=by omega
  have F:=Q;unfold L7 at F;simp[r,l,m,o,f,j,s,S,F];refine Ou e0 (by simp) fun G1 h1 C=>?_
  have U:=C.cells (by decide) S;have n1:=C.cells (by decide) n0;have q1:=C.cells (by decide) Q;have V:=C.cells (by decide) F;simp[r,l,m,o,U,V,n1];refine Ln (p:=n) (by omega) h1 (by simp) fun G2 h2 H=>?_
  have W:=H.cells (by decide) U;have q2:=H.cells (by decide) q1;have X:=H.cells (by decide) V;simp[r,l,m,o,W,X];refine zuc (by omega) h2 (by simp) fun G3 h3 I=>?_
  have Y:=I.cells (by decide) W;have q3:=I.cells (by decide) q2;have Z:=I.cells (by decide) X;simp[r,l,m,o,Y,Z];have ad:(Mi (R+10) (R+1)).length≤100:=by rw[Mi];simp[Sx,zhw]
  refine zm0 (p:=t) (by omega) x h3 (by simp;omega) fun G4 h4 J=>?_
  have L:=J.cells (by decide) Y;have q4:=J.cells (by decide) q3;have p4:=J.cells (by decide) Z;have af:(Ke t R deep).flat.length≤100:=by unfold Ke;rw[Nt];split<;>simp[flat_frL]
  simp[r,l,m,o,L,p4];have ag:(Lk a b t n.size R (deep+1) deep).flat.length≤100:=by
   unfold Lk;rw[Hi,Hi,flat_frL,Nt];split<;>simp[flat_frL,Lr,Fw,Gt]
  have ah:(Ly n t n.size R (deep+1)).flat.length≤100:=by
   unfold Ly;rw[Hi,Hi,flat_frL,Nt];split<;>simp[flat_frL,Mh,Fw,Gt]
  refine Q8 (fst:=[]) (cap:=[.ptr 6 0]) (B:=(Lk a b t n.size R (deep+1) deep).cat (Ly n t n.size R (deep+1))) (by omega) h4 (by simp;omega) (by rw[Hi];simp;omega) (fun O aa K' M A l5 hk=>?_) fun O M A=>?_
  ·exact zz7 (deep:=deep+1) (by omega) ha hb y x z (A.cells (by decide) L) (by decide) (A.cells (by decide) q4) (by decide) M (by simp at l5;omega) hk
  have z5:=A.cells (by decide) L;have q5:=A.cells (by decide) q4;have aj:(Gk deep n.size ((Lk a b t n.size R (deep+1) deep).cat (Ly n t n.size R (deep+1)))).flat.length≤300:=by
   rw[Nt];split
   ·simp
   ·rw[Hi];simp;omega
  simp[r,l,m,o,z5];refine V9 (by omega) E y x z q5 (by decide) M (by simp;omega) fun G6 h6 k6=>?_
  have z6:=k6.cells (by decide) z5;have q6:=k6.cells (by decide) q5;unfold L7 at q6;have hC:jg d a b n w deep R=[cK R 0,E7 (R+10) n (-1) 0]++Mi (R+10) (R+1)++((Ke t R deep).flat++((Gk deep n.size ((Lk a b t n.size R (deep+1) deep).cat (Ly n t n.size R (deep+1)))).flat++(Qb d n t n.size R deep).flat)):=by
   unfold jg;rw[Ai (by simp[Yd,g2,g3,g4,g6];omega),T];unfold O2;rw[Hi,Hi,Hi,flat_frL]
  obtain⟨ao,v,e1,e2⟩:=h6;simp[-He,r,l,m,o,z6,q6,e1];rw[hC];simpa using zts e2.bor
end

section
def zbp:LC:=(.q [.z 2 (.move (.k 0))] (.seq (.q [.m 3 0,.z 4 (.bin .lss true 3 (.t 3) (.k 1))] (.cond (.t 4) (.q [.z 2 (.move (.k 0))] .ret) .skip)) (.q [.m 5 0,.z 6 (.bin .add true 3 (.t 5) (.k 1)),.m 2 6] .ret)))
def r_power_Rest:Fg Tryz.prog 47=some ⟨7,zbp.r,[.tmp 2]⟩:=by kernel_rfl
def uu:LC:=(.q [.z 4 (.move (.k 0)),.z 5 (.move (.k 0))] (.seq (.q [.m 6 0,.z 7 (.bin .lss true 3 (.t 6) (.k 1)),.m 8 7,.mn 9 8 0,.n 10 8 (.bin .gtr true 3 (.t 9) (.k 512)),.z 11 (.pick (.t 8) .T (.t 10)),.m 12 11,.mn 13 12 1,.n 14 12 (.bin .lss true 3 (.t 13) (.k 1)),.z 15 (.pick (.t 12) .T (.t 14)),.m 16 15,.mn 17 16 1,.n 18 16 (.bin .gtr true 3 (.t 17) (.k 6)),.z 19 (.pick (.t 16) .T (.t 18))] (.cond (.t 19) (.q [.z 4 (.move (.k 0)),.z 5 (.move (.k 0))] .ret) .skip)) (.q [.m 20 0,.z 21 (.bin .mul true 3 (.k 64) (.t 20)),.m 22 1,.z 23 (.bin .add false 3 (.t 21) (.t 22)),.z 24 (.bin .sub true 3 (.t 23) (.k 1)),.m 25 1,.z 26 (.bin .quo false 3 (.t 24) (.t 25)),.m 4 26] (.q [.m 27 4,.m 28 4,.m 29 1,.z 30 (.bin .mul false 3 (.t 28) (.t 29)),.m 31 0,.z 32 (.bin .mul true 3 (.k 64) (.t 31)),.z 33 (.bin .sub false 3 (.t 30) (.t 32)),.m 4 27,.m 5 33] .ret))))
def r_power_Windows:Fg Tryz.prog 45=some ⟨34,uu.r,[.tmp 4,.tmp 5]⟩:=by kernel_rfl
def z73:LC:=(.q [.z 6 (.box (.t 0)),.z 7 (.box (.t 1)),.z 8 (.box (.t 2)),.z 12 (.move (.c .nilSl))] (.q [.f 24 2 7,.l 25 24,.z 13 (.alloc [(.i 0)]),.v (.store 1 (.t 13) (.t 25))] (.seq (.seq (.draw [(.l 26 13,[]),(.z 27 (.bin .lss true 3 (.t 26) (.k 1)),[]),(.m 28 27,[]),(.n 29 28 (.fieldAddr 2 (.t 6)),[]),(.n 30 28 (.load1 (.t 29)),[]),(.n 31 28 (.load1 (.t 13)),[]),(.n 32 28 (.bin .neq false 3 (.t 30) (.t 31)),[]),(.z 33 (.pick (.t 28) .T (.t 32)),[]),(.m 34 33,[]),(.n 35 34 (.fieldAddr 2 (.t 8)),[]),(.n 36 34 (.load1 (.t 35)),[]),(.n 37 34 (.load1 (.t 13)),[]),(.n 38 34 (.w 47 [.t 37]),[(.n 36 34 (.load1 (.t 35)),false)]),(.n 39 34 (.bin .lss false 3 (.t 36) (.t 38)),[]),(.z 40 (.pick (.t 34) .T (.t 39)),[]),(.m 41 40,[]),(.mn 42 41 3,[]),(.n 43 41 (.bin .lss true 3 (.t 42) (.k 0)),[]),(.z 44 (.pick (.t 41) .T (.t 43)),[]),(.m 45 44,[]),(.mn 46 45 3,[]),(.n 47 45 (.bin .gtr true 3 (.t 46) (.k 262144)),[]),(.z 48 (.pick (.t 45) .T (.t 47)),[]),(.m 49 48,[]),(.mn 50 49 4,[]),(.mn 51 49 5,[]),(.n 52 49 (.w 67 [.t 50,.t 51]),[]),(.n 53 49 (.un .not (.t 52)),[]),(.z 54 (.pick (.t 49) .T (.t 53)),[])]) (.cond (.t 54) (.q [.z 12 (.move (.c .nilSl))] .ret) .skip)) (.q [.m 55 4,.z 56 (.build [.nilSl,(.i 0)] [(1,1,.t 55)]),.z 57 (.box (.t 56)),.z 14 (.alloc [.nilPtr]),.v (.store 1 (.t 14) (.t 57))] (.q [.z 58 (.loadN 3 (.t 8)),.l 59 13,.z 60 (.bin .add true 3 (.t 59) (.k 1)),.z 61 (.w 68 [.t 58,.k 0,.t 60]),.z 15 (.alloc [(.i 0),(.i 0),(.i 0)]),.v (.store 3 (.t 15) (.t 61))] (.q [.m 62 5,.m 63 5,.z 64 (.bin .add true 3 (.t 63) (.k 1)),.m 65 5,.z 66 (.bin .add true 3 (.t 65) (.k 2)),.m 67 5,.z 68 (.bin .add true 3 (.t 67) (.k 3)),.m 69 5,.z 70 (.bin .add true 3 (.t 69) (.k 4)),.m 71 5,.z 72 (.bin .add true 3 (.t 71) (.k 5)),.m 73 5,.z 74 (.bin .add true 3 (.t 73) (.k 6)),.z 16 (.alloc [(.i 0)]),.z 17 (.alloc [(.i 0)]),.z 18 (.alloc [(.i 0)]),.z 19 (.alloc [(.i 0)]),.z 20 (.alloc [(.i 0)]),.z 21 (.alloc [(.i 0)]),.z 22 (.alloc [(.i 0)]),.v (.store 1 (.t 16) (.t 62)),.v (.store 1 (.t 17) (.t 64)),.v (.store 1 (.t 18) (.t 66)),.v (.store 1 (.t 19) (.t 68)),.v (.store 1 (.t 20) (.t 70)),.v (.store 1 (.t 21) (.t 72)),.v (.store 1 (.t 22) (.t 74))] (.q [.z 75 (.mkFunc 102 [] [.t 14,.t 21,.t 13,.t 18,.t 15,.t 20,.t 7,.t 16]),.z 23 (.alloc [.nilFn]),.v (.store 1 (.t 23) (.t 75))] (.q [.l 76 14,.l 77 16,.z 78 (.w 69 [.t 76,.t 77,.c (.u 0)])] (.q [.l 79 14,.l 80 17,.z 81 (.w 69 [.t 79,.t 80,.c (.u 1)])] (.q [.l 82 14,.z 83 (.loadN 3 (.t 15)),.l 84 16,.z 85 (.w 72 [.t 82,.t 83,.t 84])] (.q [.l 86 14,.m 87 3,.z 88 (.bin .add true 3 (.t 87) (.k 1)),.z 89 (.mkFunc 105 [] [.t 14,.t 13,.t 18,.t 15,.t 19,.t 17,.t 23,.t 22,.t 21,.t 20]),.z 90 (.w 73 [.t 86,.t 88,.t 89])] (.q [.l 91 14,.l 92 13,.z 93 (.mkFunc 114 [] [.t 14,.t 18,.t 15,.t 6]),.z 94 (.w 73 [.t 91,.t 92,.t 93])] (.q [.l 95 14,.z 96 (.nilChk (.t 95)),.f 97 0 96,.l 98 97,.m 12 98] .ret)))))))))))))
def r_power_Radix:Fg Tryz.prog 49=some ⟨99,z73.r,[.tmp 12]⟩:=by kernel_rfl
def zaw:LC:=(.q [.z 9 (.box (.t 0))] (.q [.l 10 1,.l 11 2,.z 12 (.w 69 [.t 10,.t 11,.c (.u 0)])] (.q [.l 13 1,.l 14 3,.z 15 (.mkFunc 103 [] [.t 1,.t 4,.t 5,.t 6,.t 7,.t 2,.t 9]),.z 16 (.w 73 [.t 13,.t 14,.t 15])] (.q [.l 17 1,.l 18 4,.z 19 (.loadN 3 (.t 5)),.l 20 3,.z 21 (.w 70 [.t 17,.t 18,.t 19,.k (-1),.t 20])] (.ops [.l 22 1,.l 23 6,.l 24 2,.l 25 4,.l 26 8,.l 27 2,.z 28 (.w 104 [.t 22,.k 12,.t 23,.t 24,.t 25,.t 26,.t 27])])))))
def r_power_Radix_1:Fg Tryz.prog 102=some ⟨29,zaw.r,[]⟩:=by kernel_rfl
def z8y:LC:=(.q [.l 9 1,.l 10 2,.z 11 (.loadN 3 (.t 3)),.m 12 0,.z 13 (.w 70 [.t 9,.t 10,.t 11,.t 12,.k 0])] (.q [.l 14 1,.l 15 4,.z 16 (.loadN 3 (.t 5)),.m 17 0,.z 18 (.w 70 [.t 14,.t 15,.t 16,.t 17,.k 0])] (.q [.l 19 1,.l 20 4,.l 21 6,.l 22 2,.l 23 4,.l 24 6,.z 25 (.w 104 [.t 19,.k 12,.t 20,.t 21,.t 22,.t 23,.t 24])] (.ops [.l 26 7,.m 27 0,.z 28 (.callV (.t 26) [.t 27])]))))
def r_power_Radix_1_1:Fg Tryz.prog 103=some ⟨29,z8y.r,[]⟩:=by kernel_rfl
def zb9:LC:=(.q [.l 12 1,.l 13 2,.z 14 (.bin .add true 3 (.t 13) (.k 1)),.z 15 (.mkFunc 106 [] [.t 1,.t 3,.t 4,.t 5,.t 6]),.z 16 (.w 73 [.t 12,.t 14,.t 15])] (.q [.l 17 7,.z 18 (.callV (.t 17) [(.c (.fn (.func 111) [] []))])] (.q [.l 19 1,.l 20 8,.l 21 9,.z 22 (.w 110 [.t 19,.t 20,.t 21])] (.q [.l 23 7,.z 24 (.mkFunc 112 [] [.t 1,.t 10,.t 8,.t 3,.t 4]),.z 25 (.callV (.t 23) [.t 24])] (.q [.l 26 1,.l 27 10,.l 28 8,.l 29 3,.l 30 10,.z 31 (.w 113 [.t 26,.t 27,.t 28,.t 29,.t 30])] (.q [.l 32 1,.z 33 (.loadN 3 (.t 4)),.l 34 2,.l 35 10,.z 36 (.w 109 [.t 32,.t 33,.k (-1),.t 34,.t 35])] (.ops [.l 37 1,.l 38 6,.z 39 (.w 69 [.t 37,.t 38,.c (.u 0)])])))))))
def r_power_Radix_2:Fg Tryz.prog 105=some ⟨40,zb9.r,[]⟩:=by kernel_rfl
def z9e:LC:=(.q [.l 7 1,.l 8 2,.z 9 (.loadN 3 (.t 3)),.m 10 0,.z 11 (.w 70 [.t 7,.t 8,.t 9,.t 10,.k 0])] (.q [.l 12 1,.l 13 4,.l 14 2,.z 15 (.w 107 [.t 12,.k 9,.t 13,.t 14,.k 63])] (.q [.l 16 1,.l 17 2,.l 18 2,.z 19 (.w 107 [.t 16,.k 8,.t 17,.t 18,.k 1])] (.q [.l 20 1,.l 21 2,.l 22 2,.l 23 5,.z 24 (.w 108 [.t 20,.k 6,.t 21,.t 22,.t 23])] (.q [.l 25 1,.z 26 (.loadN 3 (.t 3)),.m 27 0,.l 28 2,.z 29 (.w 109 [.t 25,.t 26,.t 27,.k 0,.t 28])] (.ops [.l 30 1,.l 31 5,.l 32 4,.z 33 (.w 110 [.t 30,.t 31,.t 32])]))))))
def r_power_Radix_2_1:Fg Tryz.prog 106=some ⟨34,z9e.r,[]⟩:=by kernel_rfl
def z99:LC:=.skip
def r_power_Radix_2_2:Fg Tryz.prog 111=some ⟨2,z99.r,[]⟩:=by kernel_rfl
def z9h:LC:=(.q [.l 7 1,.l 8 2,.l 9 3,.l 10 4,.l 11 2,.z 12 (.w 113 [.t 7,.t 8,.t 9,.t 10,.t 11])] (.ops [.l 13 1,.z 14 (.loadN 3 (.t 5)),.m 15 0,.l 16 2,.z 17 (.w 109 [.t 13,.t 14,.t 15,.k 0,.t 16])]))
def r_power_Radix_2_3:Fg Tryz.prog 112=some ⟨18,z9h.r,[]⟩:=by kernel_rfl
def zb0:LC:=(.q [.l 6 1,.l 7 2,.z 8 (.loadN 3 (.t 3)),.m 9 0,.z 10 (.w 70 [.t 6,.t 7,.t 8,.t 9,.k 0])] (.ops [.l 11 1,.z 12 (.loadN 3 (.t 4)),.m 13 0,.l 14 2,.z 15 (.w 109 [.t 11,.t 12,.t 13,.k 0,.t 14])]))
def r_power_Radix_3:Fg Tryz.prog 114=some ⟨16,zb0.r,[]⟩:=by kernel_rfl
def Ys (k:Int):Int:=if k<1 then 0 else k+1
def z8p {G:Ev}{K:LV→Ev→Prop}{n:Int}(a:n≤1000000000)(k:K (.i (Ys n)) G):F1 (.fn 47) [.i n] G K:=by
 refine E9 r_power_Rest (by kernel_rfl) (by simp) ?_;unfold Ys at k;by_cases g:n<1
 ·rw[Ai g] at k;simpa [zbp,g] using k
 ·rw[Ab g] at k;simp[zbp,g];exact⟨by omega,k⟩
def Je (l w:Int):Int:=if l<1∨512<l∨w<1∨6<w then 0 else (64*l+w - 1)/w
def Jn (l w:Int):Int:=if l<1∨512<l∨w<1∨6<w then 0 else Je l w*w - 64*l
def z6k (l w:Int):F4 45 [.i l,.i w] (.tup [.i (Je l w),.i (Jn l w)]) []:=by
 refine Hg.val rfl (E9 r_power_Windows (by kernel_rfl) (by simp) ?_);by_cases g1:l<1
 ·simp[uu,Je,Jn,g1]
 by_cases g2:512<l
 ·simp[uu,Je,Jn,g1,g2]
 by_cases g3:w<1
 ·simp[uu,Je,Jn,g1,g2,g3]
 by_cases g4:6<w
 ·simp[uu,Je,Jn,g1,g2,g3,g4]
 have a:(64*l+w - 1).tdiv w=(64*l+w - 1)/w:=Int.tdiv_eq_ediv_of_nonneg (by omega);have hw:w=1∨w=2∨w=3∨w=4∨w=5∨w=6:=by omega
 have f:0≤(64*l+w - 1)/w∧(64*l+w - 1)/w≤40000∧0≤(64*l+w - 1)/w*w∧(64*l+w - 1)/w*w≤40000:=by
  rcases hw with rfl|rfl|rfl|rfl|rfl|rfl<;>omega
 simp[uu,Je,Jn,g1,g2,g3,g4,a];generalize (64*l+w - 1)/w=q at *;omega
structure RxC (sf:Nat→Nat) (d n r:Pc) (k R:Int) (G:Ev):Prop where
 d:G[0]?=some (.cells d.f (sf 0))
 n:G[1]?=some (.cells n.f (sf 1))
 k:G[3]?=some (.cells [.i k] (sf 3))
 x:G[5]?=some (.cells [.ptr 4 0] (sf 5))
 r:G[8]?=some (.cells r.f (sf 8))
 z:G[9]?=some (.cells [.i R] (sf 9))
 b:G[10]?=some (.cells [.i (R+1)] (sf 10))
 l:G[11]?=some (.cells [.i (R+2)] (sf 11))
 o:G[12]?=some (.cells [.i (R+3)] (sf 12))
 s:G[13]?=some (.cells [.i (R+4)] (sf 13))
 c:G[14]?=some (.cells [.i (R+5)] (sf 14))
 m:G[15]?=some (.cells [.i (R+6)] (sf 15))
 t:G[16]?=some (.cells [.fn (.func 102) [] [.ptr 5 0,.ptr 14 0,.ptr 3 0,.ptr 11 0,.ptr 8 0,.ptr 13 0,.ptr 1 0,.ptr 9 0]] (sf 16))
section rx
variable {sf : Nat → Nat} {d n r : Pc} {k R deep : Int} {G G' : Ev} {K : LV → Ev → Prop} {ops : List Lo}
def RxC.kp (h:RxC sf d n r k R G)(q:Kp 4 G G'):RxC sf d n r k R G' :=
 ⟨q.cells (by decide) h.d,q.cells (by decide) h.n,q.cells (by decide) h.k,q.cells (by decide) h.x,q.cells (by decide) h.r,q.cells (by decide) h.z,q.cells (by decide) h.b,q.cells (by decide) h.l,q.cells (by decide) h.o,q.cells (by decide) h.s,q.cells (by decide) h.c,q.cells (by decide) h.m,q.cells (by decide) h.t⟩
structure RxN (d n r:Pc) (k R deep:Int):Prop where
 d:-1000000≤d.at_∧d.at_≤1000000
 n:-1000000≤n.at_∧n.at_≤1000000
 r:-1000000≤r.at_∧r.at_≤1000000
 k:1≤k∧k≤1000000
 D:0≤deep∧deep≤50
def zss {f:Nat}{fst cap:List LV}{X:List Lo}(N:RxC sf d n r k R G)(s:RxN d n r k R deep)(h:Fo G 4 ops deep)(hl:ops.length≤700000)(hX:X.length≤10)
  (S:∀(w:Ev) (a:List Lo) (E:LV→Ev→Prop),RxC sf d n r k R w→Fo w 4 a (deep+1)→a.length≤750000→(∀x,Fo x 4 (a++X) (deep+1)→Kp 4 w x→E (.tup []) x)→F1 (.fn f) (fst++.i deep::cap) w E)
  (T:∀G',Fo G' 4 (ops++(Oa n r k R deep X).flat) deep→Kp 4 G G'→K (.tup []) G') :
  F1 (.fn 102) [.fn (.func f) fst cap,.ptr 5 0,.ptr 14 0,.ptr 3 0,.ptr 11 0,.ptr 8 0,.ptr 13 0,.ptr 1 0,.ptr 9 0] G K:=by
 refine E9 r_power_Radix_1 (by kernel_rfl) (by simp) ?_;have l4:16<G.length:=(Aa.1 N.t).1;have O:Kp 4 G (G++[.cells [.fn (.func f) fst cap] 0]):=Kp.app' _ _ _;have U:=h.app [.cells [.fn (.func f) fst cap] 0];have F:=N.kp O;have V:(G++[LObj.cells [.fn (.func f) fst cap] 0])[G.length]?=some (.cells [.fn (.func f) fst cap] 0):=Aw;simp[zaw];generalize G++[LObj.cells [.fn (.func f) fst cap] 0]=G0 at *;generalize G.length=z at *;have g:z≠4:=by omega
 simp[F.x,F.c];refine Ou U (by omega) fun w W H=>?_
 have D:=F.kp H;have Y:=H.cells g V;simp[D.x,D.k];refine Q8 (fst:=[]) (cap:=[.ptr 5 0,.ptr 11 0,.ptr 8 0,.ptr 13 0,.ptr 1 0,.ptr 14 0,.ptr z 0]) (B:=E4 (Nu n r R deep++X)) (by have:=s.D;omega) W (by simp;omega) (by rw[flat_frL];simp[Nu];omega) (fun x P E I y Z hk=>?_) fun x I y=>?_
 ·rw[flat_frL] at hk;refine E9 r_power_Radix_1_1 (by kernel_rfl) (by simp) ?_;have j:=D.kp y;have e2:=y.cells g Y;have l:=j.r;have o:=j.n;unfold Pc.f at l o;simp at Z;simp[z8y,j.x,j.l,l];refine Ln (p:=r) (by have:=s.r;omega) I (by omega) fun G3 J q=>?_
  have m:=j.kp q;have e3:=q.cells g e2;have o:=m.n;unfold Pc.f at o;simp[m.x,m.s,o];refine Ln (p:=n) (by have:=s.n;omega) J (by simp;omega) fun Q L A=>?_
  have C:=m.kp A;have e4:=A.cells g e3;simp[C.x,C.s,C.c,C.l];refine il L (by simp;omega) fun G5 h5 M=>?_
  have c5:=C.kp M;have e5:=M.cells g e4;simp[e5];refine S G5 _ _ c5 h5 (by simp;omega) fun G6 h6 k6=>?_
  simp;refine hk G6 ?_ (q.trans (A.trans (M.trans k6)));simpa [Nu] using h6
 have j:=D.kp y;have hL:(Gk deep k (E4 (Nu n r R deep++X))).flat.length≤20:=by rw[Nt];split<;>simp[flat_frL,Nu];omega
 have l:=j.r;unfold Pc.f at l;simp[j.x,j.l,j.k,l];refine Ln (p:=r) (by have:=s.r;have:=s.k;omega) I (by simp;omega) fun G3 J q=>?_
 have m:=j.kp q;simp[m.x,m.s,m.c,m.l,m.z];refine il J (by simp;omega) fun Q L A=>?_
 simp;refine T Q ?_ (O.trans (H.trans (y.trans (q.trans A))));unfold Oa;rw[Hi,Hi,flat_frL,flat_frL];simpa using L
def zca {X:List Lo}(a:X.length≤10):(Oa n r k R deep X).flat.length≤30:=by
 unfold Oa;rw[Hi,Hi,flat_frL,flat_frL,Nt];split<;>simp[flat_frL,Nu];omega
def zmc {p:Pc}{n l o b D:Int}:(Qi p n l o b D).flat.length≤10:=by
 unfold Qi;rw[Nt];split<;>simp[flat_frL]
def rxRound_len:(Tb n r k R deep).flat.length≤100:=by
 have a:=zca (n:=n) (r:=r) (k:=k) (R:=R) (deep:=deep) (X:=[]) (by simp);have f:=zca (n:=n) (r:=r) (k:=k) (R:=R) (deep:=deep) (X:=[Fx (R+4) (R+6) (R+2) (R+4),Ff r deep 0 (R+4)]) (by simp);have g:=zmc (p:=r) (n:=k+1) (l:=R+2) (o:=R+3) (b:=R+1) (D:=deep);unfold Tb;simp only[Hi,flat_frL,Aj,Ar,Bc];omega
def zwh {i:Int}(L:RxC sf d n r k R G)(y:RxN d n r k R deep)(h:Fo G 4 ops deep)(hl:ops.length≤600000)
  (kk:∀G',Fo G' 4 (ops++(Tb n r k R deep).flat) deep→Kp 4 G G'→K (.tup []) G') :
  F1 (.fn 105) [.i i,.ptr 5 0,.ptr 3 0,.ptr 11 0,.ptr 8 0,.ptr 12 0,.ptr 10 0,.ptr 16 0,.ptr 15 0,.ptr 14 0,.ptr 13 0] G K:=by
 refine E9 r_power_Radix_2 (by kernel_rfl) (by simp) ?_;have hk:=y.k;have hD:=y.D;have hr:=y.r;simp[zb9,L.x,L.k];refine⟨by omega,?_⟩;refine Q8 (fst:=[]) (cap:=[.ptr 5 0,.ptr 11 0,.ptr 8 0,.ptr 12 0,.ptr 10 0]) (B:=E4 [E7 (R+2) r deep 0,It 9 (R+3) (R+2) 63,It 8 (R+2) (R+2) 1,Ew 6 (R+2) (R+2) (R+1),Ff r deep 0 (R+2),Ij (R+1) (R+3)]) (by omega) h (by omega) (by rw[flat_frL];simp) (fun Z aa K' N M l2 z=>?_) fun Z N M=>?_
 ·rw[flat_frL] at z;refine E9 r_power_Radix_2_1 (by kernel_rfl) (by simp) ?_;have m:=L.kp M;have a:=m.r;unfold Pc.f at a;simp[z9e,m.x,m.l,a];refine Ln (p:=r) (by omega) N (by omega) fun O A C=>?_
  have j:=m.kp C;simp[j.x,j.o,j.l];refine mw A (by simp;omega) fun G4 P E=>?_
  have q:=j.kp E;simp[q.x,q.o,q.l];refine mw P (by simp;omega) fun G5 F H=>?_
  have f:=q.kp H;simp[f.x,f.b,f.l];refine Qc F (by simp;omega) fun G6 I s=>?_
  have g:=f.kp s;have a:=g.r;unfold Pc.f at a;simp[g.x,g.l,a];refine Mq (p:=r) (by omega) I (by simp;omega) fun Q J w=>?_
  have x:=g.kp w;simp[x.x,x.b,x.o];refine uk J (by simp;omega) fun S T U=>?_
  simp;refine z S ?_ (C.trans (E.trans (H.trans (s.trans (w.trans U)))));simpa using T
 have m:=L.kp M;have ag:=zmc (p:=r) (n:=k+1) (l:=R+2) (o:=R+3) (b:=R+1) (D:=deep);have V:Fo Z 4 (ops++(Qi r (k+1) (R+2) (R+3) (R+1) deep).flat) deep:=N;simp[m.t];refine zss (fst:=[]) (cap:=[]) (X:=[]) m y V (by simp;omega) (by simp) (fun O ad K' j A l3 W=>?_) fun O A C=>?_
 ·refine E9 r_power_Radix_2_2 (by kernel_rfl) (by simp) ?_;simp[z99];exact W O (by simpa using A) (Kp.refl _ _)
 have j:=m.kp C;have ah:=zca (n:=n) (r:=r) (k:=k) (R:=R) (deep:=deep) (X:=[]) (by simp);simp[j.x,j.m,j.c];refine uk A (by simp;omega) fun G4 P E=>?_
 have q:=j.kp E;simp[q.t];refine zss (fst:=[]) (cap:=[.ptr 5 0,.ptr 13 0,.ptr 15 0,.ptr 11 0,.ptr 8 0]) (X:=[Fx (R+4) (R+6) (R+2) (R+4),Ff r deep 0 (R+4)]) q y P (by simp;omega) (by simp) (fun G5 af K' f F l5 Y=>?_) fun G5 F H=>?_
 ·refine E9 r_power_Radix_2_3 (by kernel_rfl) (by simp) ?_;simp[z9h,f.x,f.s,f.m,f.l];refine zma F (by omega) fun G6 I s=>?_
  have g:=f.kp s;have a:=g.r;unfold Pc.f at a;simp[g.x,g.s,a];refine Mq (p:=r) (by omega) I (by simp;omega) fun Q J w=>?_
  simp;exact Y Q (by simpa using J) (s.trans w)
 have f:=q.kp H;have aj:=zca (n:=n) (r:=r) (k:=k) (R:=R) (deep:=deep) (X:=[Fx (R+4) (R+6) (R+2) (R+4),Ff r deep 0 (R+4)]) (by simp);simp[f.x,f.s,f.m,f.l];refine zma F (by simp;omega) fun G6 I s=>?_
 have g:=f.kp s;have a:=g.r;unfold Pc.f at a;simp[g.x,g.s,g.k,a];refine Mq (p:=r) (by omega) I (by simp;omega) fun Q J w=>?_
 have x:=g.kp w;simp[x.x,x.b];refine Ou J (by simp;omega) fun S T U=>?_
 simp;refine kk S ?_ (M.trans (C.trans (E.trans (H.trans (s.trans (w.trans U))))));unfold Tb;simp only[Hi,flat_frL];simpa using T
def bi (g:RxC sf d n r k R G)(l:RxN d n r k R deep)(h:Fo G 4 ops deep)(y:ops.length≤600000)
  (o:∀G',Fo G' 4 (ops++[E7 (R+2) r (deep - 1) 0,Ff d (deep - 1) 0 (R+2)]) deep→Kp 4 G G'→K (.tup []) G') :
  F1 (.fn 114) [.i (deep - 1),.ptr 5 0,.ptr 11 0,.ptr 8 0,.ptr 0 0] G K:=by
 refine E9 r_power_Radix_3 (by kernel_rfl) (by simp) ?_;have a:=g.r;unfold Pc.f at a;simp[zb0,g.x,g.l,a];refine Ln (p:=r) (by have:=l.r;omega) h (by omega) fun z q m=>?_
 have j:=g.kp m;have f:=j.d;unfold Pc.f at f;simp[j.x,j.l,f];refine Mq (p:=d) (by have:=l.d;omega) q (by simp;omega) fun s w x=>?_
 simp;exact o s (by simpa using w) (m.trans x)
end rx
def Ka (d n w:Pc)(bits deep R:Int):Bool:=decide (1≤n.size)&&(decide (d.size=n.size)&&(decide (Ys n.size≤w.size)&&(decide (0≤bits)&&(decide (bits≤262144)&&Yg deep R))))
def R5 (d n w:Pc)(bits deep R:Int):List Lo:=if Ka d n w bits deep R=true then (Pf d n ⟨w.buf,w.at_,n.size+1⟩ n.size bits R deep).flat else []
def zkr {d n r:Pc}{k bits R D:Int}:(Pf d n r k bits R D).flat.length≤200:=by
 have a:=rxRound_len (n:=n) (r:=r) (k:=k) (R:=R) (deep:=D+1);unfold Pf Ke Rr;simp only[Hi,flat_frL,Nt,Aj,Ar,Bc];split<;>split<;>split<;>simp[flat_frL]<;>omega
def sfR (i:Nat):Nat:=if i≤1 then 0 else 1
def zcn {d n w:Pc}{bits deep R:Int}(m:-1000000≤d.at_∧d.at_≤1000000)(o:-1000000≤n.at_∧n.at_≤1000000)(hw:-1000000≤w.at_∧w.at_≤1000000)(hn:n.size≤1000000) :
  H6 49 [.agg d.f,.agg n.f,.agg w.f,.i bits,.i deep,.i R] (.lst (Gi (R5 d n w bits deep R)) (R5 d n w bits deep R).length 8):=by
 refine La.mk (by simp[LV.dat,Jv]) (E9 r_power_Radix (by kernel_rfl) (by simp) ?_);have bad:Ka d n w bits deep R=false→R5 d n w bits deep R=[]:=fun h=>by unfold R5;rw[h];simp
 by_cases g1:n.size<1
 ·rw[bad (by simp[Ka];omega)];simp[z73,Pc.f,g1,Gi]
 by_cases g2:d.size=n.size
 rotate_left
 ·rw[bad (by simp[Ka];omega)];simp[z73,Pc.f,g1,g2,Gi]
 simp[z73,Pc.f,g1,g2];refine z8p (by omega) ?_;have q:Ys n.size=n.size+1:=by unfold Ys;rw[Ab g1]
 by_cases g5:w.size<Ys n.size
 ·rw[bad (by simp[Ka];omega)];simp[g5,Gi]
 by_cases g6:bits<0
 ·rw[bad (by simp[Ka];omega)];simp[g5,g6,Gi]
 by_cases D:262144<bits
 ·rw[bad (by simp[Ka];omega)];simp[g5,g6,D,Gi]
 simp[g5,g6,D];refine z64 ?_;by_cases f:Yg deep R=true
 rotate_left
 ·rw[bad (by simp[Ka,f])];simp[f,Gi]
 simp[f];have hR:16≤R∧R≤50∧0≤deep∧deep≤6:=by simp[Yg] at f;omega
 refine⟨by omega,?_⟩;refine z5u (p:=w) (by omega) ?_;simp[Pc.f]
 repeat (refine⟨by omega,?_⟩)
 refine Ou (ops:=[]) (deep:=deep) ⟨0,.nilSl,rfl,H0.nil⟩ (by simp) fun G1 J L=>?_
 have s:=RxC.kp (sf:=sfR) (d:=d) (n:=n) (r:=⟨w.buf,w.at_,n.size+1⟩) (k:=n.size) (R:=R) ⟨by simp[Pc.f,g2,sfR],rfl,rfl,rfl,rfl,rfl,rfl,rfl,rfl,rfl,rfl,rfl,rfl⟩ L;have a:RxN d n ⟨w.buf,w.at_,n.size+1⟩ n.size R (deep+1):=⟨m,o,hw,by omega,by omega⟩;generalize E:(⟨w.buf,w.at_,n.size+1⟩:Pc)=r at *;have M:r.size=n.size+1:=by rw[←E]
 simp[s.x,s.b];refine Ou J (by simp) fun G2 N O=>?_
 have j:=s.kp O;have g:=j.r;unfold Pc.f at g;simp[j.x,j.z,g];refine zm0 (p:=r) (by omega) a.r N (by simp) fun G3 P Q=>?_
 have x:=j.kp Q;have S:(Ke r R deep).flat.length≤10:=by unfold Ke;rw[Nt];split<;>simp[flat_frL]
 simp[x.x];refine⟨by omega,?_⟩;refine Q8 (fst:=[]) (cap:=[.ptr 5 0,.ptr 3 0,.ptr 11 0,.ptr 8 0,.ptr 12 0,.ptr 10 0,.ptr 16 0,.ptr 15 0,.ptr 14 0,.ptr 13 0]) (B:=Tb n r n.size R (deep+1)) (by omega) P (by simp;omega) (by have:=rxRound_len (n:=n) (r:=r) (k:=n.size) (R:=R) (deep:=deep+1);omega) (fun T F H y z U hk=>?_) fun T y z=>?_
 ·simp at U;exact zwh (x.kp z) a y (by omega) hk
 have l:=x.kp z;have V:(Gk deep (bits+1) (Tb n r n.size R (deep+1))).flat.length≤110:=by
  have:=rxRound_len (n:=n) (r:=r) (k:=n.size) (R:=R) (deep:=deep+1);rw[Nt];split
  ·simp
  ·simp;omega
 simp[l.x,l.k];refine Q8 (fst:=[]) (cap:=[.ptr 5 0,.ptr 11 0,.ptr 8 0,.ptr 0 0]) (B:=E4 [E7 (R+2) r deep 0,Ff d deep 0 (R+2)]) (by omega) y (by simp;omega) (by rw[flat_frL];simp) (fun W I H A C X hk=>?_) fun W A C=>?_
 ·rw[flat_frL] at hk;simp at X;have:=bi (K:=H) (deep:=deep+1) (l.kp C) a A (by omega) (by rw[show deep+1 - 1=deep by omega];exact hk);rw[show deep+1 - 1=deep by omega] at this;exact this
 have Y:=l.kp C;obtain⟨Z,v,e1,e2⟩:=A;have hC:R5 d n w bits deep R=[cK R 0]++([cK (R+1) 1]++((Ke r R deep).flat++((Gk deep (bits+1) (Tb n r n.size R (deep+1))).flat++(Gk deep n.size (E4 [E7 (R+2) r deep 0,Ff d deep 0 (R+2)])).flat))):=by
  unfold R5;rw[Ai (by simp[Ka,g2,f];omega),E];unfold Pf Rr;rw[Hi,Hi,Hi,flat_frL];rfl
 simp[-He,Y.x,e1];rw[hC];simpa using zts e2.bor
end
section
def z7l:LC:=(.q [.z 5 (.box (.t 1)),.z 6 (.box (.t 2)),.z 7 (.box (.t 3))] (.draw [(.m 8 0,[]),(.z 9 (.nilChk (.t 8)),[]),(.f 10 0 9,[]),(.l 11 10,[]),(.m 12 0,[]),(.z 13 (.nilChk (.t 12)),[]),(.f 14 0 13,[]),(.l 15 14,[]),(.z 16 (.nilChk (.t 15)),[]),(.f 17 0 16,[]),(.l 18 17,[]),(.z 19 (.loadN 3 (.t 5)),[]),(.z 20 (.loadN 3 (.t 6)),[]),(.z 21 (.loadN 3 (.t 7)),[]),(.m 22 0,[]),(.z 23 (.nilChk (.t 22)),[]),(.f 24 7 23,[]),(.z 25 (.loadN 3 (.t 24)),[]),(.m 26 0,[]),(.z 27 (.nilChk (.t 26)),[]),(.f 28 22 27,[]),(.z 29 (.loadN 3 (.t 28)),[]),(.m 30 0,[]),(.z 31 (.nilChk (.t 30)),[]),(.f 32 0 31,[]),(.l 33 32,[]),(.z 34 (.nilChk (.t 33)),[]),(.f 35 1 34,[]),(.l 36 35,[]),(.m 37 0,[]),(.z 38 (.nilChk (.t 37)),[]),(.f 39 36 38,[]),(.l 40 39,[]),(.z 41 (.w 23 [.t 19,.t 20,.t 21,.t 25,.t 29,.t 36,.t 40]),[(.l 18 17,false),(.l 15 14,false),(.l 11 10,false)]),(.z 42 (.appG 8 (.t 18) (.t 41)),[(.l 11 10,false)]),(.z 43 (.nilChk (.t 11)),[]),(.f 44 0 43,[]),(.v (.store 1 (.t 44) (.t 42)),[])]))
def r_power_powers_mont:Fg Tryz.prog 155=some ⟨45,z7l.r,[]⟩:=by kernel_rfl
def z6s:LC:=(.q [.z 4 (.box (.t 1))] (.draw [(.m 6 0,[]),(.z 7 (.nilChk (.t 6)),[]),(.f 8 0 7,[]),(.l 9 8,[]),(.m 10 0,[]),(.z 11 (.nilChk (.t 10)),[]),(.f 12 0 11,[]),(.l 13 12,[]),(.z 14 (.nilChk (.t 13)),[]),(.f 15 0 14,[]),(.l 16 15,[]),(.z 17 (.loadN 3 (.t 4)),[]),(.m 18 0,[]),(.z 19 (.nilChk (.t 18)),[]),(.f 20 7 19,[]),(.z 21 (.loadN 3 (.t 20)),[]),(.m 22 0,[]),(.z 23 (.nilChk (.t 22)),[]),(.f 24 22 23,[]),(.z 25 (.loadN 3 (.t 24)),[]),(.m 26 2,[]),(.m 27 0,[]),(.z 28 (.nilChk (.t 27)),[]),(.f 29 0 28,[]),(.l 30 29,[]),(.z 31 (.nilChk (.t 30)),[]),(.f 32 1 31,[]),(.l 33 32,[]),(.m 34 0,[]),(.z 35 (.nilChk (.t 34)),[]),(.f 36 36 35,[]),(.l 37 36,[]),(.z 38 (.w 49 [.t 17,.t 21,.t 25,.t 26,.t 33,.t 37]),[(.l 16 15,false),(.l 13 12,false),(.l 9 8,false)]),(.z 39 (.appG 8 (.t 16) (.t 38)),[(.l 9 8,false)]),(.z 40 (.nilChk (.t 9)),[]),(.f 41 0 40,[]),(.v (.store 1 (.t 41) (.t 39)),[])]))
def r_power_powers_radix:Fg Tryz.prog 153=some ⟨42,z6s.r,[]⟩:=by kernel_rfl
def z6r:LC:=(.q [.z 4 (.alloc [(.i 0),(.i 0),(.i 0)])] (.seq (.draw [(.m 5 0,[]),(.z 6 (.nilChk (.t 5)),[]),(.f 7 25 6,[]),(.z 8 (.loadN 3 (.t 7)),[]),(.m 9 1,[]),(.m 10 0,[]),(.z 11 (.nilChk (.t 10)),[]),(.f 12 7 11,[]),(.f 13 2 12,[]),(.l 14 13,[]),(.z 15 (.bin .mul false 3 (.t 9) (.t 14)),[]),(.m 16 0,[]),(.z 17 (.nilChk (.t 16)),[]),(.f 18 7 17,[]),(.f 19 2 18,[]),(.l 20 19,[]),(.z 21 (.w 68 [.t 8,.t 15,.t 20]),[]),(.v (.store 3 (.t 4) (.t 21)),[])]) .ret))
def r_power_powers_entry:Fg Tryz.prog 154=some ⟨22,z6r.r,[.cellN 4 3]⟩:=by kernel_rfl
def z61:LC:=(.q [.z 3 (.box (.t 0)),.z 4 (.box (.t 1)),.z 5 (.box (.t 2))] (.draw [(.l 6 3,[]),(.z 7 (.nilChk (.t 6)),[]),(.f 8 0 7,[]),(.l 9 8,[]),(.l 10 3,[]),(.z 11 (.nilChk (.t 10)),[]),(.f 12 7 11,[]),(.f 13 2 12,[]),(.l 14 13,[]),(.z 15 (.mkFunc 182 [] [.t 3,.t 5,.t 4]),[]),(.z 16 (.w 73 [.t 9,.t 14,.t 15]),[])]))
def r_power_powers_copies:Fg Tryz.prog 156=some ⟨17,z61.r,[]⟩:=by kernel_rfl
def z4m:LC:=(.seq (.draw [(.l 5 1,[]),(.z 6 (.nilChk (.t 5)),[]),(.f 7 0 6,[]),(.l 8 7,[]),(.l 9 1,[]),(.z 10 (.nilChk (.t 9)),[]),(.f 11 31 10,[]),(.l 12 11,[]),(.z 13 (.loadN 3 (.t 2)),[]),(.m 14 0,[]),(.z 15 (.w 70 [.t 8,.t 12,.t 13,.t 14,.k 0]),[])]) (.draw [(.l 16 1,[]),(.z 17 (.nilChk (.t 16)),[]),(.f 18 0 17,[]),(.l 19 18,[]),(.z 20 (.loadN 3 (.t 3)),[]),(.m 21 0,[]),(.l 22 1,[]),(.z 23 (.nilChk (.t 22)),[]),(.f 24 31 23,[]),(.l 25 24,[]),(.z 26 (.w 109 [.t 19,.t 20,.t 21,.k 0,.t 25]),[])]))
def r_power_powers_copies_1:Fg Tryz.prog 182=some ⟨27,z4m.r,[]⟩:=by kernel_rfl
def z7g:LC:=(.q [.z 1 (.box (.t 0))] (.q [.l 3 1,.z 4 (.nilChk (.t 3)),.f 5 7 4,.f 6 2 5,.l 7 6,.z 2 (.alloc [(.i 0)]),.v (.store 1 (.t 2) (.t 7))] (.seq (.draw [(.l 8 1,[]),(.l 9 1,[]),(.l 11 2,[]),(.z 12 (.bin .mul true 3 (.k 64) (.t 11)),[]),(.z 10 (.w 154 [.t 9,.k 0]),[(.l 11 2,false),(.l 8 1,false)]),(.z 13 (.w 153 [.t 8,.t 10,.t 12]),[])]) (.seq (.draw [(.l 14 1,[]),(.l 15 1,[]),(.z 16 (.nilChk (.t 15)),[]),(.f 17 16 16,[]),(.z 18 (.loadN 3 (.t 17)),[]),(.l 19 2,[]),(.z 20 (.bin .mul true 3 (.k 128) (.t 19)),[]),(.z 21 (.w 153 [.t 14,.t 18,.t 20]),[])]) (.seq (.draw [(.l 22 1,[]),(.l 23 1,[]),(.z 24 (.nilChk (.t 23)),[]),(.f 25 13 24,[]),(.z 26 (.loadN 3 (.t 25)),[]),(.l 27 1,[]),(.z 28 (.nilChk (.t 27)),[]),(.f 29 4 28,[]),(.z 30 (.loadN 3 (.t 29)),[]),(.l 31 1,[]),(.z 32 (.nilChk (.t 31)),[]),(.f 33 16 32,[]),(.z 34 (.loadN 3 (.t 33)),[]),(.z 35 (.w 155 [.t 22,.t 26,.t 30,.t 34]),[])]) (.seq (.draw [(.l 36 1,[]),(.l 37 1,[]),(.z 38 (.nilChk (.t 37)),[]),(.f 39 10 38,[]),(.z 40 (.loadN 3 (.t 39)),[]),(.l 41 1,[]),(.z 42 (.w 154 [.t 41,.k 0]),[(.z 40 (.loadN 3 (.t 39)),false),(.l 37 1,false),(.l 36 1,false)]),(.z 43 (.w 156 [.t 36,.t 40,.t 42]),[])]) (.seq (.draw [(.l 44 1,[]),(.z 45 (.nilChk (.t 44)),[]),(.f 46 0 45,[]),(.l 47 46,[]),(.l 48 2,[]),(.z 49 (.cvInt .u64 (.t 48)),[]),(.z 50 (.w 69 [.t 47,.k 12,.t 49]),[])]) (.draw [(.l 51 1,[]),(.z 52 (.nilChk (.t 51)),[]),(.f 53 0 52,[]),(.l 54 53,[]),(.l 55 1,[]),(.z 56 (.nilChk (.t 55)),[]),(.f 57 35 56,[]),(.l 58 57,[]),(.z 59 (.bin .shl true 3 (.k 1) (.t 58)),[]),(.z 60 (.bin .sub true 3 (.t 59) (.k 1)),[]),(.z 61 (.mkFunc 157 [] [.t 1,.t 2]),[]),(.z 62 (.w 73 [.t 54,.t 60,.t 61]),[])]))))))))
def r_power_powers_fill:Fg Tryz.prog 98=some ⟨63,z7g.r,[]⟩:=by kernel_rfl
def z5z:LC:=(.seq (.draw [(.l 4 1,[]),(.l 5 1,[]),(.z 6 (.nilChk (.t 5)),[]),(.f 7 10 6,[]),(.z 8 (.loadN 3 (.t 7)),[]),(.l 9 1,[]),(.z 10 (.nilChk (.t 9)),[]),(.f 11 10 10,[]),(.z 12 (.loadN 3 (.t 11)),[]),(.l 13 1,[]),(.z 14 (.nilChk (.t 13)),[]),(.f 15 13 14,[]),(.z 16 (.loadN 3 (.t 15)),[]),(.z 17 (.w 155 [.t 4,.t 8,.t 12,.t 16]),[])]) (.seq (.draw [(.l 18 1,[]),(.z 19 (.nilChk (.t 18)),[]),(.f 20 0 19,[]),(.l 21 20,[]),(.l 22 2,[]),(.z 23 (.mkFunc 158 [] [.t 1]),[]),(.z 24 (.w 73 [.t 21,.t 22,.t 23]),[])]) (.seq (.draw [(.l 25 1,[]),(.z 26 (.nilChk (.t 25)),[]),(.f 27 0 26,[]),(.l 28 27,[]),(.l 29 2,[]),(.z 30 (.cvInt .u64 (.t 29)),[]),(.z 31 (.w 69 [.t 28,.k 13,.t 30]),[])]) (.ops [.l 32 1,.z 33 (.nilChk (.t 32)),.f 34 0 33,.l 35 34,.z 36 (.w 108 [.t 35,.k 3,.k 12,.k 12,.k 13])]))))
def r_power_powers_fill_1:Fg Tryz.prog 157=some ⟨37,z5z.r,[]⟩:=by kernel_rfl
def z4u:LC:=(.seq (.draw [(.l 3 1,[]),(.z 4 (.nilChk (.t 3)),[]),(.f 5 0 4,[]),(.l 6 5,[]),(.l 7 1,[]),(.z 8 (.nilChk (.t 7)),[]),(.f 9 31 8,[]),(.l 10 9,[]),(.l 11 1,[]),(.z 12 (.nilChk (.t 11)),[]),(.f 13 10 12,[]),(.z 14 (.loadN 3 (.t 13)),[]),(.m 15 0,[]),(.z 16 (.w 70 [.t 6,.t 10,.t 14,.t 15,.k 0]),[])]) (.q [.l 17 1,.z 18 (.nilChk (.t 17)),.f 19 0 18,.l 20 19,.m 21 0,.z 22 (.w 108 [.t 20,.k 3,.k 13,.k 12,.t 21])] (.draw [(.l 23 1,[]),(.z 24 (.nilChk (.t 23)),[]),(.f 25 0 24,[]),(.l 26 25,[]),(.l 27 1,[]),(.z 28 (.nilChk (.t 27)),[]),(.f 29 25 28,[]),(.z 30 (.loadN 3 (.t 29)),[]),(.l 31 1,[]),(.z 32 (.nilChk (.t 31)),[]),(.f 33 31 32,[]),(.l 34 33,[]),(.z 35 (.w 109 [.t 26,.t 30,.k 13,.k 0,.t 34]),[])])))
def r_power_powers_fill_1_1:Fg Tryz.prog 158=some ⟨36,z4u.r,[]⟩:=by kernel_rfl
def Ji (e:Nat)(p:Pw):List LV:=[.ptr e 0,.i p.d.b,.i p.d.a,.i p.d.k,.i p.a.b,.i p.a.a,.i p.a.k,.i p.n.b,.i p.n.a,.i p.n.k,.i p.acc.b,.i p.acc.a,.i p.acc.k,.i p.base.b,.i p.base.a,.i p.base.k,.i p.cur.b,.i p.cur.a,.i p.cur.k,.i p.es.b,.i p.es.a,.i p.es.k,.i p.t.b,.i p.t.a,.i p.t.k,.i p.tab.b,.i p.tab.a,.i p.tab.k,
 .i p.B,.i ((p.B:Int)+1),.i ((p.B:Int)+2),.i ((p.B:Int)+3),.i ((p.B:Int)+4),.i ((p.B:Int)+5),.i ((p.B:Int)+6),.i p.w,.i ((p.B:Int)+10)]
structure PwN (p:Pw):Prop where
 nk:p.n.k=p.k
 dk:p.d.k=p.k
 ak:p.a.k=p.k
 k:1≤p.k∧p.k≤512
 d:p.d.a≤1000000
 a:p.a.a≤1000000
 b:p.b.a≤1000000∧1≤p.b.k∧p.b.k≤512
 n:p.n.a≤1000000
 w:1≤p.w∧p.w≤6
 B:16≤p.B∧p.B≤40
 wa:p.wa≤100000
 ov:p.over≤63
 ti:p.times≤100000
def Me {d t:Int}{b:Fr Lo}{m:Nat}(h:b.flat.length≤m):(Gk d t b).flat.length≤m+2:=by
 rw[Nt];split
 ·simp
 ·simp;omega
def zsd {d a b n t:Pc}{k R D:Int}:(O2 d a b n t k R D).flat.length≤200:=by
 have g:=Me (d:=D+1) (t:=k) (b:=E4 (Lr a t R (D+1))) (m:=8) (by simp[flat_frL,Lr,Fw]);have h:=Me (d:=D+1) (t:=k - 1) (b:=E4 (Mh n t R (D+1))) (m:=8) (by simp[flat_frL,Mh,Fw]);have j:=Me (d:=D) (t:=k) (b:=(Lk a b t k R (D+1) D).cat (Ly n t k R (D+1))) (m:=60) (by
  unfold Lk Ly;simp only[Hi,flat_frL,Fw,Gt,Aj,Ar,Bc];omega)
 have l:=Me (d:=D) (t:=t.size) (b:=E4 [Ff t D 0 R]) (m:=1) (by simp[flat_frL]);have o:=Me (d:=D) (t:=k) (b:=E4 (Lz n t R D++[])) (m:=3) (by simp[flat_frL,Lz]);have q:=Me (d:=D) (t:=k) (b:=E4 (Lz n t R D++[Fx (R+6) (R+10) (R+7) (R+6),Ff d D 0 (R+6)])) (m:=5) (by simp[flat_frL,Lz]);have f:=zp7 (R+10) (R+1);unfold O2 Qb Nn Ke;simp only[Hi,flat_frL,Aj,Ar,Bc,f];omega
section put
variable {G : Ev} {K : LV → Ev → Prop} {e P st : Nat} {ops : List Lo} {deep : Int} {p : Pw}
def jf {x:Nat}(h:x≤1000000):-1000000≤(x:Int)∧(x:Int)≤1000000:=by omega
def xz {d a b:Pn}(f:PwN p)(O:0≤deep∧deep≤6)(hd:d.a≤1000000)(A:a.a≤1000000)(B:b.a≤1000000)(Q:d.k=p.k)(S:a.k=p.k)(kb:b.k=p.k)(y:G[P]?=some (.cells (Ji e p) st))(h:Fo G e ops deep)(T:ops.length≤900000)
  (k:∀G',Fo G' e (ops++(p.mont d a b deep).flat) deep→Kp e G G'→K (.tup []) G'):F1 (.fn 155) [.ptr P 0,.agg d.p.f,.agg a.p.f,.agg b.p.f] G K:=by
 refine E9 r_power_powers_mont (by kernel_rfl) (by simp) ?_;obtain⟨x,v,z,C⟩:=h;have le:e<G.length:=(Aa.1 z).1;have E:P<G.length:=(Aa.1 y).1;have F:=jw p;have j:p.t.a≤1000000:=by have:=f.wa;have:=f.k;have:=f.b;simp only[Pw.t];omega
 have l:=zdv (d:=d.p) (a:=a.p) (b:=b.p) (n:=p.n.p) (w:=p.t.p) (deep:=deep) (R:=(p.B:Int)+10) (jf hd) (jf A) (jf B) (jf f.n) (jf j) (by have:=f.k;have:=f.nk;show (p.n.k:Int)≤_;omega);have H:jg d.p a.p b.p p.n.p p.t.p deep ((p.B:Int)+10)=(p.mont d a b deep).flat:=by
  have hk:=f.k;have I:=f.nk;have U:=f.B;have hm:Ry p.n.p.size=p.t.k:=by unfold Ry;rw[Ab (by show ¬(p.n.k:Int)<1;omega)];show (p.n.k:Int)+2=((p.k+2:Nat):Int);omega
  unfold jg;rw[Ai (by simp[Yd,Yg,hm];refine⟨?_,?_,?_,?_,?_,by omega⟩<;>simp only[Pn.p]<;>omega),hm];unfold Pw.mont;rw[show p.n.p.size=(p.k:Int) by simp only[Pn.p];omega];rfl
 rw[H] at l;have g:∀x:List LObj,(G++x)[P]?=_:=fun x=>(E6 E).trans y
 have m:∀x:List LObj,(G++x)[e]?=_:=fun x=>(E6 le).trans z
 have o:∀x,Kp e G (G++x):=fun x=>Kp.app' e G x
 unfold Ji at g;simp[z7l,Pn.p,Pc.f,↓g,↓m];simp only[Pn.p,Pc.f] at l;refine Jo l (by simp[dats,LV.dat]) ?_;simp[↓g,↓m];have hlen:=zsd (d:=d.p) (a:=a.p) (b:=b.p) (n:=p.n.p) (t:=p.t.p) (k:=p.k) (R:=(p.B:Int)+10) (D:=deep);refine⟨by show (p.mont d a b deep).flat.length≤_;unfold Pw.mont;omega,?_⟩;refine zlm (m _) C.push_end (by omega) fun V W r J L M s=>?_
 have N:=s P _ (fun _ _ _ _ q=>by cases q) (g _);simp[-LV.cells,r,J,N,↓g];exact k _ L ((o _).trans M)
def zo0 {d:Pn}{bits:Int}(a:PwN p)(L:0≤deep∧deep≤6)(hd:d.a≤1000000)(M:d.k=p.k)(N:0≤bits∧bits≤262144)(y:G[P]?=some (.cells (Ji e p) st))(h:Fo G e ops deep)(O:ops.length≤900000)
  (k:∀G',Fo G' e (ops++(p.radix d bits deep).flat) deep→Kp e G G'→K (.tup []) G'):F1 (.fn 153) [.ptr P 0,.agg d.p.f,.i bits] G K:=by
 refine E9 r_power_powers_radix (by kernel_rfl) (by simp) ?_;obtain⟨x,v,z,A⟩:=h;have le:e<G.length:=(Aa.1 z).1;have B:P<G.length:=(Aa.1 y).1;have g:p.t.a≤1000000:=by have:=a.wa;have:=a.k;have:=a.b;simp only[Pw.t];omega
 have j:=zcn (d:=d.p) (n:=p.n.p) (w:=p.t.p) (bits:=bits) (deep:=deep) (R:=(p.B:Int)+10) (jf hd) (jf a.n) (jf g) (by have:=a.k;have:=a.nk;show (p.n.k:Int)≤_;omega);have C:R5 d.p p.n.p p.t.p bits deep ((p.B:Int)+10)=(p.radix d bits deep).flat:=by
  have hk:=a.k;have E:=a.nk;have Q:=a.B;have hm:Ys p.n.p.size=p.k+1:=by unfold Ys;rw[Ab (by show ¬(p.n.k:Int)<1;omega)];show (p.n.k:Int)+1=_;omega
  unfold R5;rw[Ai (by simp[Ka,Yg,hm];refine⟨?_,?_,?_,by omega,by omega,by omega⟩<;>simp only[Pn.p,Pw.t]<;>omega)];unfold Pw.radix;rw[show p.n.p.size=(p.k:Int) by simp only[Pn.p];omega];rfl
 rw[C] at j;have f:∀x:List LObj,(G++x)[P]?=_:=fun x=>(E6 B).trans y
 have l:∀x:List LObj,(G++x)[e]?=_:=fun x=>(E6 le).trans z
 have m:∀x,Kp e G (G++x):=fun x=>Kp.app' e G x
 unfold Ji at f;simp[z6s,Pn.p,Pc.f,↓f,↓l];simp only[Pn.p,Pc.f] at j;refine Jo j (by simp[dats,LV.dat]) ?_;simp[↓f,↓l];have hlen:=zkr (d:=d.p) (n:=p.n.p) (r:=p.r.p) (k:=p.k) (bits:=bits) (R:=(p.B:Int)+10) (D:=deep);refine⟨by show (p.radix d bits deep).flat.length≤_;unfold Pw.radix;omega,?_⟩;refine zlm (l _) A.push_end (by omega) fun S T o F H I s=>?_
 have J:=s P _ (fun _ _ _ _ q=>by cases q) (f _);simp[-LV.cells,o,F,J,↓f];exact k _ H ((m _).trans I)
def zi3 (a:PwN p)(h:G[P]?=some (.cells (Ji e p) st))(k:∀x,K (.agg p.ent.p.f) (G++x)):F1 (.fn 154) [.ptr P 0,.i 0] G K:=by
 refine E9 r_power_powers_entry (by kernel_rfl) (by simp) ?_;have j:P<G.length:=(Aa.1 h).1;have f:∀x:List LObj,(G++x)[P]?=_:=fun x=>(E6 j).trans h
 have l:p.tab.a≤1000000:=by have:=a.wa;have:=a.k;have:=a.b;simp only[Pw.tab];omega
 have hk:=a.k;have g:=a.nk;unfold Ji at f;simp[z6r,↓f];refine z5u (p:=p.tab.p) (by simp only[Pn.p];omega) ?_;simp[↓f,Pc.f,Pn.p];have m:p.ent.p.f=[.i (p.tab.b:Int),.i (p.tab.a:Int),.i (p.n.k:Int)]:=by
  simp only[Pc.f,Pn.p,Pw.ent,g]
 have d:=k [LObj.cells [.i (p.tab.b:Int),.i (p.tab.a:Int),.i (p.n.k:Int)] 1,LObj.cells [.i (p.tab.b:Int),.i (p.tab.a:Int),.i (p.tab.k:Int)] 0,LObj.cells [.i (p.tab.b:Int),.i (p.tab.a:Int),.i (p.n.k:Int)] 1];rw[m] at d;simpa using d
def zkj {to fr:Pn}(M:PwN p)(V:0≤deep∧deep≤50)(W:to.a≤1000000)(X:fr.a≤1000000)(C:G[P]?=some (.cells (Ji e p) st))(a:P≠e)(h:Fo G e ops deep)(Y:ops.length≤800000)
  (k:∀G',Fo G' e (ops++(p.copies to fr deep).flat) deep→Kp e G G'→K (.tup []) G'):F1 (.fn 156) [.ptr P 0,.agg to.p.f,.agg fr.p.f] G K:=by
 refine E9 r_power_powers_copies (by kernel_rfl) (by simp) ?_;have le:e<G.length:=by obtain⟨_,_,h,_⟩:=id h;exact (Aa.1 h).1
 have Z:P<G.length:=(Aa.1 C).1;have m:=M.nk;have o:(G++[LObj.cells [.ptr P 0] 0,LObj.cells to.p.f 0,LObj.cells fr.p.f 0])[G.length]?=some (.cells [.ptr P 0] 0):=by simp
 have D:(G++[LObj.cells [.ptr P 0] 0,LObj.cells to.p.f 0,LObj.cells fr.p.f 0])[G.length+1]?=some (.cells to.p.f 0):=by simp
 have E:(G++[LObj.cells [.ptr P 0] 0,LObj.cells to.p.f 0,LObj.cells fr.p.f 0])[G.length+2]?=some (.cells fr.p.f 0):=by simp
 have F:=h.app [LObj.cells [.ptr P 0] 0,LObj.cells to.p.f 0,LObj.cells fr.p.f 0];have q:=Kp.app' e G [LObj.cells [.ptr P 0] 0,LObj.cells to.p.f 0,LObj.cells fr.p.f 0];have H:=q.cells a C;have f:G.length≠e:=by omega
 have g:G.length+1≠e:=by omega
 have r:G.length+2≠e:=by omega
 unfold Pc.f Pn.p at D E o F q H;simp[z61,Pc.f,Pn.p];generalize G++[LObj.cells [.ptr P 0] 0,LObj.cells [.i (to.b:Int),.i (to.a:Int),.i (to.k:Int)] 0,LObj.cells [.i (fr.b:Int),.i (fr.a:Int),.i (fr.k:Int)] 0]=G0 at *;generalize G.length+2=w at *;generalize G.length+1=y at *;generalize G.length=z at *;have d:=H;unfold Ji at d;simp[o,d,m];refine Q8 (fst:=[]) (cap:=[.ptr z 0,.ptr w 0,.ptr y 0]) (B:=E4 [E7 (p.B+3) fr.p deep 0,Ff to.p deep 0 (p.B+3)]) (by omega) F (by omega) (by rw[flat_frL];simp) (fun G3 I K' N j l3 hk=>?_) fun s x A=>?_
 ·rw[flat_frL] at hk;refine E9 r_power_powers_copies_1 (by kernel_rfl) (by simp) ?_;have J:=j.cells f o;have O:=j.cells g D;have Q:=j.cells r E;have L:=j.cells a d;simp[z4m,J,Q,L];refine Ln (p:=fr.p) (by simp only[Pn.p];omega) N (by omega) fun G4 R l=>?_
  have S:=l.cells f J;have T:=l.cells g O;have U:=l.cells a L;simp[S,T,U];refine Mq (p:=to.p) (by simp only[Pn.p];omega) R (by simp;omega) fun s x A=>?_
  simp;exact hk s (by simpa using x) (l.trans A)
 simp;exact k s x (q.trans A)
def ba {p:Pw}{d a b:Pn}{D:Int}:(p.mont d a b D).flat.length≤200:=zsd
def ve {p:Pw}{d:Pn}{bits D:Int}:(p.radix d bits D).flat.length≤200:=zkr
def zc4 {p:Pw}{a b:Pn}{D:Int}:(p.copies a b D).flat.length≤4:=Me (m:=2) (by simp[flat_frL])
def oh (a:PwN p):p.acc.a≤1000000∧p.base.a≤1000000∧p.cur.a≤1000000∧p.es.a≤1000000∧p.t.a≤1000000∧p.tab.a≤1000000∧p.ent.a≤1000000:=by
 have d:=a.wa;have f:=a.k;have g:=a.b;simp only[Pw.acc,Pw.base,Pw.cur,Pw.es,Pw.t,Pw.tab,Pw.ent];omega
def zzk {z q:Nat}{i:Int}{sz W:Nat}(A:PwN p)(hD:0≤deep∧deep≤5)(L:G[z]?=some (.cells [.ptr P 0] sz))(g:z≠e)(X:G[q]?=some (.cells [.i p.k] W))(l:q≠e)(C:G[P]?=some (.cells (Ji e p) st))(f:P≠e)(h:Fo G e ops (deep+1))(hl:ops.length≤700000)
  (k:∀G',Fo G' e (ops++(p.fillR deep).flat) (deep+1)→Kp e G G'→K (.tup []) G'):F1 (.fn 157) [.i i,.ptr z 0,.ptr q 0] G K:=by
 refine E9 r_power_powers_fill_1 (by kernel_rfl) (by simp) ?_;obtain⟨M,Y,w3,w4,w5,w6,w7⟩:=oh A;have hk:=A.k;have E:=C;unfold Ji at E;simp[z5z,L,E];refine xz (d:=p.acc) (a:=p.acc) (b:=p.base) A (by omega) M M Y rfl rfl rfl C h (by omega) fun G1 Z o=>?_
 have aa:=ba (p:=p) (d:=p.acc) (a:=p.acc) (b:=p.base) (D:=deep+1);have F:=o.cells g L;have N:=o.cells l X;have P1:=o.cells f C;have H:=o.cells f E;simp[F,N,H];refine Q8 (fst:=[]) (cap:=[.ptr z 0]) (B:=E4 [E7 (p.B+3) p.acc.p (deep+1) 0,Ew 3 13 12 (deep+1),Ff p.tab.p 13 0 (p.B+3)]) (by omega) Z (by simp;omega) (by rw[flat_frL];simp) (fun G3 O K' h3 Q l3 r=>?_) fun G2 h2 w=>?_
 ·rw[flat_frL] at r;refine E9 r_power_powers_fill_1_1 (by kernel_rfl) (by simp) ?_;simp at l3;have R:=Q.cells g F;have S:=Q.cells f H;simp[z4u,R,S];refine Ln (p:=p.acc.p) (by simp only[Pn.p];omega) h3 (by omega) fun G4 I j=>?_
  have x:=j.cells g R;have y:=j.cells f S;simp[x,y];refine Qc I (by simp;omega) fun T J s=>?_
  have z5:=s.cells g x;have p5:=s.cells f y;simp[z5,p5];refine Mq (p:=p.tab.p) (by simp only[Pn.p];omega) J (by simp;omega) fun G6 h6 k6=>?_
  simp;exact r G6 (by simpa using h6) (j.trans (s.trans k6))
 have ad:=Me (d:=deep+1) (t:=p.k) (b:=E4 [E7 (p.B+3) p.acc.p (deep+1) 0,Ew 3 13 12 (deep+1),Ff p.tab.p 13 0 (p.B+3)]) (m:=3) (by simp[flat_frL]);have U:=w.cells g F;have q2:=w.cells l N;have V:=w.cells f H;simp[U,q2,V];refine Ou h2 (by simp;omega) fun G4 I j=>?_
 have x:=j.cells g U;have y:=j.cells f V;simp[x,y];refine Qc I (by simp;omega) fun T J s=>?_
 simp;refine k T ?_ (o.trans (w.trans (j.trans s)));unfold Pw.fillR;simp only[Hi,flat_frL];simpa using J
def zhm {p:Pw}{D:Int}:(p.fillR D).flat.length≤210:=by
 have f:=ba (p:=p) (d:=p.acc) (a:=p.acc) (b:=p.base) (D:=D+1);have g:=Me (d:=D+1) (t:=p.k) (b:=E4 [E7 (p.B+3) p.acc.p (D+1) 0,Ew 3 13 12 (D+1),Ff p.tab.p 13 0 (p.B+3)]) (m:=3) (by simp[flat_frL]);unfold Pw.fillR;simp only[Hi,flat_frL,Aj,Ar,Bc];omega
def V4 (l:PwN p)(hD:0≤deep∧deep≤4)(J:G[P]?=some (.cells (Ji e p) st))(f:P≠e)(h:Fo G e ops deep)(hl:ops.length≤600000)
  (k:∀G',Fo G' e (ops++(p.fill deep).flat) deep→Kp e G G'→K (.tup []) G'):F1 (.fn 98) [.ptr P 0] G K:=by
 refine E9 r_power_powers_fill (by kernel_rfl) (by simp) ?_;obtain⟨w1,w2,Z,w4,w5,w6,w7⟩:=oh l;have hk:=l.k;have O:=l.nk;have hw:=l.w;have le:e<G.length:=by obtain⟨_,_,h,_⟩:=id h;exact (Aa.1 h).1
 have lP:P<G.length:=(Aa.1 J).1;have s:(G++[LObj.cells [.ptr P 0] 0,LObj.cells [.i 0] 0])[P]?=_:=(E6 lP).trans J;have w:(G++[LObj.cells [.ptr P 0] 0])[P]?=_:=(E6 lP).trans J;unfold Ji at s w;have Q:(G++[LObj.cells [.ptr P 0] 0,LObj.cells [.i p.k] 1])[G.length]?=some (.cells [.ptr P 0] 0):=by simp
 have R:(G++[LObj.cells [.ptr P 0] 0,LObj.cells [.i p.k] 1])[G.length+1]?=some (.cells [.i p.k] 1):=by simp
 have h0:=h.app [LObj.cells [.ptr P 0] 0,LObj.cells [.i p.k] 1];have k0:=Kp.app' e G [LObj.cells [.ptr P 0] 0,LObj.cells [.i p.k] 1];have L:=k0.cells f J;have g:G.length≠e:=by omega
 have j:G.length+1≠e:=by omega
 simp[z7g,↓s,↓w,O];generalize G++[LObj.cells [.ptr P 0] 0,LObj.cells [.i (p.k:Int)] 1]=x at *;generalize G.length+1=q at *;generalize G.length=z at *;have p0:=L;unfold Ji at p0;refine⟨by omega,?_⟩;refine zi3 l L fun o=>?_
 have z1:(x++o)[z]?=_:=(E6 (Aa.1 Q).1).trans Q;have q1:(x++o)[q]?=_:=(E6 (Aa.1 R).1).trans R;have S:(x++o)[P]?=_:=(E6 (Aa.1 L).1).trans L;have h1:=h0.app o;have k1:=Kp.app' e x o;generalize x++o=G1 at *;have T:=S;unfold Ji at T;simp[Q,R,z1,q1,T];refine zo0 (d:=p.ent) l (by omega) w7 rfl (by omega) S h1 (by omega) fun G2 h2 y=>?_
 have ad:=ve (p:=p) (d:=p.ent) (bits:=64*p.k) (D:=deep);have z2:=y.cells g z1;have q2:=y.cells j q1;have P2:=y.cells f S;have p2:=y.cells f T;simp[z2,q2,p2];refine⟨by omega,?_⟩;refine zo0 (d:=p.cur) l (by omega) Z rfl (by omega) P2 h2 (by simp;omega) fun G3 h3 A=>?_
 have af:=ve (p:=p) (d:=p.cur) (bits:=128*p.k) (D:=deep);have z3:=A.cells g z2;have q3:=A.cells j q2;have P3:=A.cells f P2;have p3:=A.cells f p2;simp[z3,q3,p3];refine xz (d:=p.base) (a:=p.a) (b:=p.cur) l (by omega) w2 l.a Z rfl l.ak rfl P3 h3 (by simp;omega) fun C h4 E=>?_
 have ag:=ba (p:=p) (d:=p.base) (a:=p.a) (b:=p.cur) (D:=deep);have M:=E.cells g z3;have N:=E.cells j q3;have U:=E.cells f P3;have p4:=E.cells f p3;simp[M,N,p4];refine zi3 l U fun r=>?_
 have z5:(C++r)[z]?=_:=(E6 (Aa.1 M).1).trans M;have q5:(C++r)[q]?=_:=(E6 (Aa.1 N).1).trans N;have V:(C++r)[P]?=_:=(E6 (Aa.1 U).1).trans U;have h5:=h4.app r;have k5:=Kp.app' e C r;generalize C++r=G5 at *;have W:=V;unfold Ji at W;simp[M,N,p4,z5,q5,W];refine zkj (to:=p.acc) (fr:=p.ent) l (by omega) w1 w7 V f h5 (by simp;omega) fun G6 h6 F=>?_
 have ah:=zc4 (p:=p) (a:=p.acc) (b:=p.ent) (D:=deep);have z6:=F.cells g z5;have q6:=F.cells j q5;have P6:=F.cells f V;have p6:=F.cells f W;simp[z6,q6,p6];refine Ou h6 (by simp;omega) fun G7 h7 H=>?_
 have z7:=H.cells g z6;have q7:=H.cells j q6;have P7:=H.cells f P6;have p7:=H.cells f p6;have aj:=S5 hw.2;have ao:0<2^p.w:=Dz _;have m:((2:Int)^p.w)=((2^p.w:Nat):Int):=by simp
 simp[z7,q7,p7];refine⟨by omega,by rw[m];omega,by rw[m];omega,?_⟩;rw[m,show ((2^p.w:Nat):Int) - 1=((2^p.w - 1:Nat):Int) by omega];refine Q8 (fst:=[]) (cap:=[.ptr z 0,.ptr q 0]) (B:=p.fillR deep) (by omega) h7 (by simp;omega) (by have:=zhm (p:=p) (D:=deep);omega) (fun G8 aa K' X I l8 Y=>?_) fun G8 X I=>?_
 ·simp at l8;exact zzk l (by omega) (I.cells g z7) g (I.cells j q7) j (I.cells f P7) f X (by omega) Y
 simp;refine k G8 ?_ (k0.trans (k1.trans (y.trans (A.trans (E.trans (k5.trans (F.trans (H.trans I))))))));unfold Pw.fill;simp only[Hi,flat_frL];simpa using X
end put
end
section
def z4s:LC:=(.q [.z 3 (.box (.t 0)),.z 4 (.box (.t 1)),.z 5 (.box (.t 2))] (.seq (.draw [(.l 6 3,[]),(.z 7 (.nilChk (.t 6)),[]),(.f 8 0 7,[]),(.l 9 8,[]),(.l 10 3,[]),(.z 11 (.nilChk (.t 10)),[]),(.f 12 32 11,[]),(.l 13 12,[]),(.l 14 3,[]),(.z 15 (.nilChk (.t 14)),[]),(.f 16 28 15,[]),(.l 17 16,[]),(.z 18 (.w 110 [.t 9,.t 13,.t 17]),[])]) (.seq (.draw [(.l 19 3,[]),(.z 20 (.nilChk (.t 19)),[]),(.f 21 0 20,[]),(.l 22 21,[]),(.f 23 2 4,[]),(.l 24 23,[]),(.z 25 (.mkFunc 159 [] [.t 3,.t 4,.t 5]),[]),(.z 26 (.w 73 [.t 22,.t 24,.t 25]),[])]) (.q [.l 27 5,.z 28 (.bin .eql true 3 (.t 27) (.k 0))] (.cond (.t 28) (.draw [(.l 29 3,[]),(.z 30 (.nilChk (.t 29)),[]),(.f 31 0 30,[]),(.l 32 31,[]),(.l 33 3,[]),(.z 34 (.nilChk (.t 33)),[]),(.f 35 19 34,[]),(.z 36 (.loadN 3 (.t 35)),[]),(.l 37 3,[]),(.z 38 (.nilChk (.t 37)),[]),(.f 39 28 38,[]),(.l 40 39,[]),(.z 41 (.w 109 [.t 32,.t 36,.k (-1),.k 0,.t 40]),[])]) (.draw [(.l 42 3,[]),(.z 43 (.nilChk (.t 42)),[]),(.f 44 0 43,[]),(.l 45 44,[]),(.l 46 3,[]),(.z 47 (.nilChk (.t 46)),[]),(.f 48 19 47,[]),(.z 49 (.loadN 3 (.t 48)),[]),(.f 50 2 4,[]),(.l 51 50,[]),(.l 52 3,[]),(.z 53 (.nilChk (.t 52)),[]),(.f 54 32 53,[]),(.l 55 54,[]),(.z 56 (.w 109 [.t 45,.t 49,.k (-1),.t 51,.t 55]),[])]))))))
def r_power_powers_exponent:Fg Tryz.prog 99=some ⟨57,z4s.r,[]⟩:=by kernel_rfl
def z4b:LC:=(.seq (.draw [(.l 5 1,[]),(.z 6 (.nilChk (.t 5)),[]),(.f 7 0 6,[]),(.l 8 7,[]),(.l 9 1,[]),(.z 10 (.nilChk (.t 9)),[]),(.f 11 31 10,[]),(.l 12 11,[]),(.z 13 (.loadN 3 (.t 2)),[]),(.m 14 0,[]),(.z 15 (.w 70 [.t 8,.t 12,.t 13,.t 14,.k 0]),[])]) (.seq (.q [.l 16 3,.z 17 (.bin .eql true 3 (.t 16) (.k 0))] (.cond (.t 17) (.seq (.draw [(.l 18 1,[]),(.z 19 (.nilChk (.t 18)),[]),(.f 20 0 19,[]),(.l 21 20,[]),(.l 22 1,[]),(.z 23 (.nilChk (.t 22)),[]),(.f 24 19 23,[]),(.z 25 (.loadN 3 (.t 24)),[]),(.m 26 0,[]),(.l 27 1,[]),(.z 28 (.nilChk (.t 27)),[]),(.f 29 31 28,[]),(.l 30 29,[]),(.z 31 (.w 109 [.t 21,.t 25,.t 26,.k 1,.t 30]),[])]) .ret) .skip)) (.seq (.draw [(.l 32 1,[]),(.z 33 (.nilChk (.t 32)),[]),(.f 34 0 33,[]),(.l 35 34,[]),(.l 36 1,[]),(.z 37 (.nilChk (.t 36)),[]),(.f 38 30 37,[]),(.l 39 38,[]),(.l 40 1,[]),(.z 41 (.nilChk (.t 40)),[]),(.f 42 31 41,[]),(.l 43 42,[]),(.l 44 3,[]),(.z 45 (.bin .sub true 3 (.k 64) (.t 44)),[]),(.z 46 (.w 107 [.t 35,.k 8,.t 39,.t 43,.t 45]),[])]) (.seq (.draw [(.l 47 1,[]),(.z 48 (.nilChk (.t 47)),[]),(.f 49 0 48,[]),(.l 50 49,[]),(.l 51 1,[]),(.z 52 (.nilChk (.t 51)),[]),(.f 53 30 52,[]),(.l 54 53,[]),(.l 55 1,[]),(.z 56 (.nilChk (.t 55)),[]),(.f 57 30 56,[]),(.l 58 57,[]),(.l 59 1,[]),(.z 60 (.nilChk (.t 59)),[]),(.f 61 32 60,[]),(.l 62 61,[]),(.z 63 (.w 108 [.t 50,.k 6,.t 54,.t 58,.t 62]),[])]) (.seq (.draw [(.l 64 1,[]),(.z 65 (.nilChk (.t 64)),[]),(.f 66 0 65,[]),(.l 67 66,[]),(.l 68 1,[]),(.z 69 (.nilChk (.t 68)),[]),(.f 70 19 69,[]),(.z 71 (.loadN 3 (.t 70)),[]),(.m 72 0,[]),(.l 73 1,[]),(.z 74 (.nilChk (.t 73)),[]),(.f 75 30 74,[]),(.l 76 75,[]),(.z 77 (.w 109 [.t 67,.t 71,.t 72,.k 0,.t 76]),[])]) (.draw [(.l 78 1,[]),(.z 79 (.nilChk (.t 78)),[]),(.f 80 0 79,[]),(.l 81 80,[]),(.l 82 1,[]),(.z 83 (.nilChk (.t 82)),[]),(.f 84 32 83,[]),(.l 85 84,[]),(.l 86 1,[]),(.z 87 (.nilChk (.t 86)),[]),(.f 88 31 87,[]),(.l 89 88,[]),(.l 90 3,[]),(.z 91 (.w 107 [.t 81,.k 9,.t 85,.t 89,.t 90]),[])]))))))
def r_power_powers_exponent_1:Fg Tryz.prog 159=some ⟨92,z4b.r,[]⟩:=by kernel_rfl
def z6o:LC:=(.q [.z 1 (.box (.t 0))] (.seq (.draw [(.l 2 1,[]),(.z 3 (.nilChk (.t 2)),[]),(.f 4 0 3,[]),(.l 5 4,[]),(.l 6 1,[]),(.z 7 (.nilChk (.t 6)),[]),(.f 8 30 7,[]),(.l 9 8,[]),(.l 10 1,[]),(.z 11 (.nilChk (.t 10)),[]),(.f 12 28 11,[]),(.l 13 12,[]),(.z 14 (.w 110 [.t 5,.t 9,.t 13]),[])]) (.seq (.draw [(.l 15 1,[]),(.z 16 (.nilChk (.t 15)),[]),(.f 17 0 16,[]),(.l 18 17,[]),(.l 19 1,[]),(.z 20 (.nilChk (.t 19)),[]),(.f 21 19 20,[]),(.f 22 2 21,[]),(.l 23 22,[]),(.z 24 (.mkFunc 183 [] [.t 1]),[]),(.z 25 (.w 73 [.t 18,.t 23,.t 24]),[])]) (.seq (.draw [(.l 26 1,[]),(.z 27 (.nilChk (.t 26)),[]),(.f 28 0 27,[]),(.l 29 28,[]),(.l 30 1,[]),(.z 31 (.nilChk (.t 30)),[]),(.f 32 29 31,[]),(.l 33 32,[]),(.l 34 1,[]),(.z 35 (.nilChk (.t 34)),[]),(.f 36 29 35,[]),(.l 37 36,[]),(.z 38 (.w 107 [.t 29,.k 8,.t 33,.t 37,.k 1]),[])]) (.draw [(.l 39 1,[]),(.z 40 (.nilChk (.t 39)),[]),(.f 41 0 40,[]),(.l 42 41,[]),(.l 43 1,[]),(.z 44 (.nilChk (.t 43)),[]),(.f 45 29 44,[]),(.l 46 45,[]),(.l 47 1,[]),(.z 48 (.nilChk (.t 47)),[]),(.f 49 29 48,[]),(.l 50 49,[]),(.l 51 1,[]),(.z 52 (.nilChk (.t 51)),[]),(.f 53 30 52,[]),(.l 54 53,[]),(.z 55 (.w 108 [.t 42,.k 6,.t 46,.t 50,.t 54]),[])])))))
def r_power_powers_shift:Fg Tryz.prog 162=some ⟨56,z6o.r,[]⟩:=by kernel_rfl
def z58:LC:=(.seq (.draw [(.l 3 1,[]),(.z 4 (.nilChk (.t 3)),[]),(.f 5 0 4,[]),(.l 6 5,[]),(.l 7 1,[]),(.z 8 (.nilChk (.t 7)),[]),(.f 9 31 8,[]),(.l 10 9,[]),(.l 11 1,[]),(.z 12 (.nilChk (.t 11)),[]),(.f 13 19 12,[]),(.z 14 (.loadN 3 (.t 13)),[]),(.m 15 0,[]),(.z 16 (.w 70 [.t 6,.t 10,.t 14,.t 15,.k 0]),[])]) (.seq (.draw [(.l 17 1,[]),(.z 18 (.nilChk (.t 17)),[]),(.f 19 0 18,[]),(.l 20 19,[]),(.l 21 1,[]),(.z 22 (.nilChk (.t 21)),[]),(.f 23 32 22,[]),(.l 24 23,[]),(.l 25 1,[]),(.z 26 (.nilChk (.t 25)),[]),(.f 27 31 26,[]),(.l 28 27,[]),(.z 29 (.w 107 [.t 20,.k 9,.t 24,.t 28,.k 63]),[])]) (.seq (.draw [(.l 30 1,[]),(.z 31 (.nilChk (.t 30)),[]),(.f 32 0 31,[]),(.l 33 32,[]),(.l 34 1,[]),(.z 35 (.nilChk (.t 34)),[]),(.f 36 31 35,[]),(.l 37 36,[]),(.l 38 1,[]),(.z 39 (.nilChk (.t 38)),[]),(.f 40 31 39,[]),(.l 41 40,[]),(.z 42 (.w 107 [.t 33,.k 8,.t 37,.t 41,.k 1]),[])]) (.seq (.draw [(.l 43 1,[]),(.z 44 (.nilChk (.t 43)),[]),(.f 45 0 44,[]),(.l 46 45,[]),(.l 47 1,[]),(.z 48 (.nilChk (.t 47)),[]),(.f 49 31 48,[]),(.l 50 49,[]),(.l 51 1,[]),(.z 52 (.nilChk (.t 51)),[]),(.f 53 31 52,[]),(.l 54 53,[]),(.l 55 1,[]),(.z 56 (.nilChk (.t 55)),[]),(.f 57 30 56,[]),(.l 58 57,[]),(.z 59 (.w 108 [.t 46,.k 6,.t 50,.t 54,.t 58]),[])]) (.seq (.draw [(.l 60 1,[]),(.z 61 (.nilChk (.t 60)),[]),(.f 62 0 61,[]),(.l 63 62,[]),(.l 64 1,[]),(.z 65 (.nilChk (.t 64)),[]),(.f 66 19 65,[]),(.z 67 (.loadN 3 (.t 66)),[]),(.m 68 0,[]),(.l 69 1,[]),(.z 70 (.nilChk (.t 69)),[]),(.f 71 31 70,[]),(.l 72 71,[]),(.z 73 (.w 109 [.t 63,.t 67,.t 68,.k 0,.t 72]),[])]) (.draw [(.l 74 1,[]),(.z 75 (.nilChk (.t 74)),[]),(.f 76 0 75,[]),(.l 77 76,[]),(.l 78 1,[]),(.z 79 (.nilChk (.t 78)),[]),(.f 80 30 79,[]),(.l 81 80,[]),(.l 82 1,[]),(.z 83 (.nilChk (.t 82)),[]),(.f 84 32 83,[]),(.l 85 84,[]),(.z 86 (.w 110 [.t 77,.t 81,.t 85]),[])]))))))
def r_power_powers_shift_1:Fg Tryz.prog 183=some ⟨87,z58.r,[]⟩:=by kernel_rfl
def z7u:LC:=(.q [.z 1 (.box (.t 0))] (.q [.l 3 1,.z 4 (.nilChk (.t 3)),.f 5 7 4,.f 6 2 5,.l 7 6,.z 2 (.alloc [(.i 0)]),.v (.store 1 (.t 2) (.t 7))] (.q [.l 8 1,.z 9 (.nilChk (.t 8)),.f 10 0 9,.l 11 10,.z 12 (.w 69 [.t 11,.k 12,.c (.u 0)])] (.draw [(.l 13 1,[]),(.z 14 (.nilChk (.t 13)),[]),(.f 15 0 14,[]),(.l 16 15,[]),(.l 17 1,[]),(.z 18 (.nilChk (.t 17)),[]),(.f 19 35 18,[]),(.l 20 19,[]),(.z 21 (.bin .shl true 3 (.k 1) (.t 20)),[]),(.z 22 (.mkFunc 184 [] [.t 1,.t 2]),[]),(.z 23 (.w 73 [.t 16,.t 21,.t 22]),[])]))))
def r_power_powers_scan:Fg Tryz.prog 163=some ⟨24,z7u.r,[]⟩:=by kernel_rfl
def z6b:LC:=(.seq (.draw [(.l 4 1,[]),(.z 5 (.nilChk (.t 4)),[]),(.f 6 0 5,[]),(.l 7 6,[]),(.l 8 1,[]),(.z 9 (.nilChk (.t 8)),[]),(.f 10 33 9,[]),(.l 11 10,[]),(.l 12 1,[]),(.z 13 (.nilChk (.t 12)),[]),(.f 14 29 13,[]),(.l 15 14,[]),(.m 16 0,[]),(.z 17 (.w 108 [.t 7,.k 7,.t 11,.t 15,.t 16]),[])]) (.seq (.draw [(.l 18 1,[]),(.z 19 (.nilChk (.t 18)),[]),(.f 20 0 19,[]),(.l 21 20,[]),(.l 22 1,[]),(.z 23 (.nilChk (.t 22)),[]),(.f 24 32 23,[]),(.l 25 24,[]),(.l 26 1,[]),(.z 27 (.nilChk (.t 26)),[]),(.f 28 33 27,[]),(.l 29 28,[]),(.l 30 1,[]),(.z 31 (.nilChk (.t 30)),[]),(.f 32 28 31,[]),(.l 33 32,[]),(.l 34 1,[]),(.z 35 (.nilChk (.t 34)),[]),(.f 36 33 35,[]),(.l 37 36,[]),(.l 38 1,[]),(.z 39 (.nilChk (.t 38)),[]),(.f 40 28 39,[]),(.l 41 40,[]),(.z 42 (.w 104 [.t 21,.k 12,.t 25,.t 29,.t 33,.t 37,.t 41]),[])]) (.seq (.draw [(.l 43 1,[]),(.z 44 (.nilChk (.t 43)),[]),(.f 45 0 44,[]),(.l 46 45,[]),(.l 47 2,[]),(.z 48 (.mkFunc 185 [] [.t 1]),[]),(.z 49 (.w 73 [.t 46,.t 47,.t 48]),[])]) (.seq (.draw [(.l 50 1,[]),(.z 51 (.nilChk (.t 50)),[]),(.f 52 0 51,[]),(.l 53 52,[]),(.l 54 2,[]),(.z 55 (.cvInt .u64 (.t 54)),[]),(.z 56 (.w 69 [.t 53,.k 13,.t 55]),[])]) (.ops [.l 57 1,.z 58 (.nilChk (.t 57)),.f 59 0 58,.l 60 59,.z 61 (.w 108 [.t 60,.k 3,.k 12,.k 12,.k 13])])))))
def r_power_powers_scan_1:Fg Tryz.prog 184=some ⟨62,z6b.r,[]⟩:=by kernel_rfl
def z50:LC:=(.q [.l 3 1,.z 4 (.nilChk (.t 3)),.f 5 0 4,.l 6 5,.m 7 0,.z 8 (.w 108 [.t 6,.k 3,.k 13,.k 12,.t 7])] (.seq (.draw [(.l 9 1,[]),(.z 10 (.nilChk (.t 9)),[]),(.f 11 0 10,[]),(.l 12 11,[]),(.l 13 1,[]),(.z 14 (.nilChk (.t 13)),[]),(.f 15 31 14,[]),(.l 16 15,[]),(.l 17 1,[]),(.z 18 (.nilChk (.t 17)),[]),(.f 19 25 18,[]),(.z 20 (.loadN 3 (.t 19)),[]),(.z 21 (.w 70 [.t 12,.t 16,.t 20,.k 13,.k 0]),[])]) (.seq (.draw [(.l 22 1,[]),(.z 23 (.nilChk (.t 22)),[]),(.f 24 0 23,[]),(.l 25 24,[]),(.l 26 1,[]),(.z 27 (.nilChk (.t 26)),[]),(.f 28 34 27,[]),(.l 29 28,[]),(.l 30 1,[]),(.z 31 (.nilChk (.t 30)),[]),(.f 32 16 31,[]),(.z 33 (.loadN 3 (.t 32)),[]),(.m 34 0,[]),(.z 35 (.w 70 [.t 25,.t 29,.t 33,.t 34,.k 0]),[])]) (.seq (.draw [(.l 36 1,[]),(.z 37 (.nilChk (.t 36)),[]),(.f 38 0 37,[]),(.l 39 38,[]),(.l 40 1,[]),(.z 41 (.nilChk (.t 40)),[]),(.f 42 31 41,[]),(.l 43 42,[]),(.l 44 1,[]),(.z 45 (.nilChk (.t 44)),[]),(.f 46 33 45,[]),(.l 47 46,[]),(.l 48 1,[]),(.z 49 (.nilChk (.t 48)),[]),(.f 50 34 49,[]),(.l 51 50,[]),(.l 52 1,[]),(.z 53 (.nilChk (.t 52)),[]),(.f 54 31 53,[]),(.l 55 54,[]),(.z 56 (.w 113 [.t 39,.t 43,.t 47,.t 51,.t 55]),[])]) (.draw [(.l 57 1,[]),(.z 58 (.nilChk (.t 57)),[]),(.f 59 0 58,[]),(.l 60 59,[]),(.l 61 1,[]),(.z 62 (.nilChk (.t 61)),[]),(.f 63 16 62,[]),(.z 64 (.loadN 3 (.t 63)),[]),(.m 65 0,[]),(.l 66 1,[]),(.z 67 (.nilChk (.t 66)),[]),(.f 68 31 67,[]),(.l 69 68,[]),(.z 70 (.w 109 [.t 60,.t 64,.t 65,.k 0,.t 69]),[])])))))
def r_power_powers_scan_1_1:Fg Tryz.prog 185=some ⟨71,z50.r,[]⟩:=by kernel_rfl
def z85:LC:=(.q [.z 2 (.box (.t 0))] (.seq (.draw [(.l 4 2,[]),(.l 5 2,[]),(.z 6 (.nilChk (.t 5)),[]),(.f 7 10 6,[]),(.z 8 (.loadN 3 (.t 7)),[]),(.l 9 2,[]),(.z 10 (.w 154 [.t 9,.k 0]),[(.z 8 (.loadN 3 (.t 7)),false),(.l 5 2,false),(.l 4 2,false)]),(.z 11 (.w 156 [.t 4,.t 8,.t 10]),[])]) (.q [.l 12 2,.z 13 (.nilChk (.t 12)),.f 14 0 13,.l 15 14,.m 16 1,.z 17 (.mkFunc 160 [] [.t 2]),.z 18 (.w 73 [.t 15,.t 16,.t 17])] (.seq (.draw [(.l 19 2,[]),(.z 20 (.nilChk (.t 19)),[]),(.f 21 0 20,[]),(.l 22 21,[]),(.l 23 2,[]),(.z 24 (.nilChk (.t 23)),[]),(.f 25 31 24,[]),(.l 26 25,[]),(.z 27 (.w 69 [.t 22,.t 26,.c (.u 1)]),[])]) (.seq (.draw [(.l 28 2,[]),(.z 29 (.nilChk (.t 28)),[]),(.f 30 0 29,[]),(.l 31 30,[]),(.l 32 2,[]),(.z 33 (.nilChk (.t 32)),[]),(.f 34 16 33,[]),(.z 35 (.loadN 3 (.t 34)),[]),(.l 36 2,[]),(.z 37 (.nilChk (.t 36)),[]),(.f 38 28 37,[]),(.l 39 38,[]),(.z 40 (.w 72 [.t 31,.t 35,.t 39]),[])]) (.seq (.draw [(.l 41 2,[]),(.z 42 (.nilChk (.t 41)),[]),(.f 43 0 42,[]),(.l 44 43,[]),(.l 45 2,[]),(.z 46 (.nilChk (.t 45)),[]),(.f 47 16 46,[]),(.z 48 (.loadN 3 (.t 47)),[]),(.l 49 2,[]),(.z 50 (.nilChk (.t 49)),[]),(.f 51 31 50,[]),(.l 52 51,[]),(.z 53 (.w 109 [.t 44,.t 48,.k (-1),.k 0,.t 52]),[])]) (.draw [(.l 54 2,[]),(.l 55 2,[]),(.z 56 (.nilChk (.t 55)),[]),(.f 57 1 56,[]),(.z 58 (.loadN 3 (.t 57)),[]),(.l 59 2,[]),(.z 60 (.nilChk (.t 59)),[]),(.f 61 10 60,[]),(.z 62 (.loadN 3 (.t 61)),[]),(.l 63 2,[]),(.z 64 (.nilChk (.t 63)),[]),(.f 65 16 64,[]),(.z 66 (.loadN 3 (.t 65)),[]),(.z 67 (.w 155 [.t 54,.t 58,.t 62,.t 66]),[])])))))))
def r_power_powers_run:Fg Tryz.prog 100=some ⟨68,z85.r,[]⟩:=by kernel_rfl
def z6t:LC:=(.seq (.draw [(.l 3 1,[]),(.z 4 (.nilChk (.t 3)),[]),(.f 5 0 4,[]),(.l 6 5,[]),(.l 7 1,[]),(.z 8 (.nilChk (.t 7)),[]),(.f 9 29 8,[]),(.l 10 9,[]),(.l 11 1,[]),(.z 12 (.nilChk (.t 11)),[]),(.f 13 28 12,[]),(.l 14 13,[]),(.z 15 (.w 110 [.t 6,.t 10,.t 14]),[])]) (.seq (.draw [(.l 16 1,[]),(.z 17 (.nilChk (.t 16)),[]),(.f 18 0 17,[]),(.l 19 18,[]),(.l 20 1,[]),(.z 21 (.nilChk (.t 20)),[]),(.f 22 35 21,[]),(.l 23 22,[]),(.z 24 (.mkFunc 161 [] [.t 1]),[]),(.z 25 (.w 73 [.t 19,.t 23,.t 24]),[])]) (.q [.l 26 1,.z 27 (.w 163 [.t 26])] (.draw [(.l 28 1,[]),(.l 29 1,[]),(.z 30 (.nilChk (.t 29)),[]),(.f 31 10 30,[]),(.z 32 (.loadN 3 (.t 31)),[]),(.l 33 1,[]),(.z 34 (.nilChk (.t 33)),[]),(.f 35 10 34,[]),(.z 36 (.loadN 3 (.t 35)),[]),(.l 37 1,[]),(.z 38 (.nilChk (.t 37)),[]),(.f 39 16 38,[]),(.z 40 (.loadN 3 (.t 39)),[]),(.z 41 (.w 155 [.t 28,.t 32,.t 36,.t 40]),[])]))))
def r_power_powers_run_1:Fg Tryz.prog 160=some ⟨42,z6t.r,[]⟩:=by kernel_rfl
def z54:LC:=(.seq (.draw [(.l 3 1,[]),(.l 4 1,[]),(.z 5 (.nilChk (.t 4)),[]),(.f 6 10 5,[]),(.z 7 (.loadN 3 (.t 6)),[]),(.l 8 1,[]),(.z 9 (.nilChk (.t 8)),[]),(.f 10 10 9,[]),(.z 11 (.loadN 3 (.t 10)),[]),(.l 12 1,[]),(.z 13 (.nilChk (.t 12)),[]),(.f 14 10 13,[]),(.z 15 (.loadN 3 (.t 14)),[]),(.z 16 (.w 155 [.t 3,.t 7,.t 11,.t 15]),[])]) (.ops [.l 17 1,.z 18 (.w 162 [.t 17])]))
def r_power_powers_run_1_1:Fg Tryz.prog 161=some ⟨19,z54.r,[]⟩:=by kernel_rfl
section put
variable {G : Ev} {K : LV → Ev → Prop} {e P st : Nat} {ops : List Lo} {deep : Int} {p : Pw}
def box1 {x:LObj}(f:G[P]?=some (.cells (Ji e p) st))(a:P≠e)(h:Fo G e ops deep) :
  Fo (G++[x]) e ops deep∧Kp e G (G++[x])∧(G++[x])[P]?=some (.cells (Ji e p) st)∧(G++[x])[G.length]?=some x∧G.length≠e:=by
 have le:e<G.length:=by obtain⟨_,_,h,_⟩:=id h;exact (Aa.1 h).1
 have d:=Kp.app' e G [x];exact⟨h.app _,d,d.cells a f,Aw,by omega⟩
def zwc (hN:PwN p)(hD:0≤deep∧deep≤50)(hP:G[P]?=some (.cells (Ji e p) st))(a:P≠e)(h:Fo G e ops deep)(hl:ops.length≤700000)
  (k:∀G',Fo G' e (ops++(p.shift deep).flat) deep→Kp e G G'→K (.tup []) G'):F1 (.fn 162) [.ptr P 0] G K:=by
 refine E9 r_power_powers_shift (by kernel_rfl) (by simp) ?_;obtain⟨w1,w2,w3,w4,w5,w6,w7⟩:=oh hN;obtain⟨h0,k0,P0,L,d⟩:=box1 (x:=.cells [.ptr P 0] 0) hP a h;simp[z6o];generalize G++[LObj.cells [.ptr P 0] 0]=G0 at *;generalize G.length=z at *;have r:=P0;unfold Ji at r;simp[L,r];refine uk h0 (by omega) fun G1 h1 s=>?_
 have w:=s.cells d L;have y:=s.cells a r;simp[w,y];refine Q8 (fst:=[]) (cap:=[.ptr z 0]) (B:=E4 [E7 (p.B+3) p.es.p deep 0,It 9 (p.B+4) (p.B+3) 63,It 8 (p.B+3) (p.B+3) 1,Ew 6 (p.B+3) (p.B+3) (p.B+2),Ff p.es.p deep 0 (p.B+3),Ij (p.B+2) (p.B+4)]) (by omega) h1 (by simp;omega) (by rw[flat_frL];simp) (fun G3 M K' h3 N l3 g=>?_) fun G2 h2 A=>?_
 ·rw[flat_frL] at g;refine E9 r_power_powers_shift_1 (by kernel_rfl) (by simp) ?_;simp at l3;have O:=N.cells d w;have Q:=N.cells a y;simp[z58,O,Q];refine Ln (p:=p.es.p) (by simp only[Pn.p];omega) h3 (by omega) fun G4 C f=>?_
  have m:=f.cells d O;have q:=f.cells a Q;simp[m,q];refine mw C (by simp;omega) fun R E j=>?_
  have S:=j.cells d m;have T:=j.cells a q;simp[S,T];refine mw E (by simp;omega) fun G6 h6 F=>?_
  have U:=F.cells d S;have V:=F.cells a T;simp[U,V];refine Qc h6 (by simp;omega) fun G7 h7 H=>?_
  have W:=H.cells d U;have X:=H.cells a V;simp[W,X];refine Mq (p:=p.es.p) (by simp only[Pn.p];omega) h7 (by simp;omega) fun G8 h8 I=>?_
  have z8:=I.cells d W;have p8:=I.cells a X;simp[z8,p8];refine uk h8 (by simp;omega) fun G9 h9 k9=>?_
  simp;exact g G9 (by simpa using h9) (f.trans (j.trans (F.trans (H.trans (I.trans k9)))))
 have aa:=zmc (p:=p.es.p) (n:=p.es.k) (l:=p.B+3) (o:=p.B+4) (b:=p.B+2) (D:=deep);have J:Fo G2 e (ops++[Ij (p.B+2) p.B]++(Qi p.es.p p.es.k (p.B+3) (p.B+4) (p.B+2) deep).flat) deep:=h2;have Y:=A.cells d w;have Z:=A.cells a y;simp[Y,Z];refine mw J (by simp;omega) fun G4 C f=>?_
 have m:=f.cells d Y;have q:=f.cells a Z;simp[m,q];refine Qc C (by simp;omega) fun R E j=>?_
 simp;refine k R ?_ (k0.trans (s.trans (A.trans (f.trans j))));unfold Pw.shift;simp only[Hi,flat_frL];simpa using E
def zxd {p:Pw}{D:Int}:(p.shift D).flat.length≤20:=by
 have a:=zmc (p:=p.es.p) (n:=p.es.k) (l:=p.B+3) (o:=p.B+4) (b:=p.B+2) (D:=D);unfold Pw.shift;simp only[Hi,flat_frL,Aj,Ar,Bc];omega
def ft (H:PwN p)(hD:0≤deep∧deep≤50)(hP:G[P]?=some (.cells (Ji e p) st))(a:P≠e)(h:Fo G e ops deep)(hl:ops.length≤700000)
  (k:∀G',Fo G' e (ops++(p.exp deep).flat) deep→Kp e G G'→K (.tup []) G'):F1 (.fn 99) [.ptr P 0,.agg p.b.p.f,.i p.over] G K:=by
 refine E9 r_power_powers_exponent (by kernel_rfl) (by simp) ?_;obtain⟨w1,w2,w3,w4,w5,w6,w7⟩:=oh H;have hb:=H.b;have aa:=H.ov;have le:e<G.length:=by obtain⟨_,_,h,_⟩:=id h;exact (Aa.1 h).1
 have I:(G++[LObj.cells [.ptr P 0] 0,LObj.cells p.b.p.f 0,LObj.cells [.i p.over] 0])[G.length]?=some (.cells [.ptr P 0] 0):=by simp
 have J:(G++[LObj.cells [.ptr P 0] 0,LObj.cells p.b.p.f 0,LObj.cells [.i p.over] 0])[G.length+1]?=some (.cells p.b.p.f 0):=by simp
 have T:(G++[LObj.cells [.ptr P 0] 0,LObj.cells p.b.p.f 0,LObj.cells [.i p.over] 0])[G.length+2]?=some (.cells [.i p.over] 0):=by simp
 have U:=h.app [LObj.cells [.ptr P 0] 0,LObj.cells p.b.p.f 0,LObj.cells [.i p.over] 0];have L:=Kp.app' e G [LObj.cells [.ptr P 0] 0,LObj.cells p.b.p.f 0,LObj.cells [.i p.over] 0];have C:=L.cells a hP;have f:G.length≠e:=by omega
 have r:G.length+1≠e:=by omega
 have g:G.length+2≠e:=by omega
 unfold Pc.f Pn.p at J T I U L C;simp[z4s,Pc.f,Pn.p];generalize G++[LObj.cells [.ptr P 0] 0,LObj.cells [.i (p.b.b:Int),.i (p.b.a:Int),.i (p.b.k:Int)] 0,LObj.cells [.i (p.over:Int)] 0]=G0 at *;generalize G.length+2=x at *;generalize G.length+1=y at *;generalize G.length=z at *;unfold Ji at C;simp[I,J,C];refine uk U (by omega) fun G1 h1 s=>?_
 have M:=s.cells f I;have N:=s.cells r J;have V:=s.cells g T;have O:=s.cells a C;simp[M,N,O];refine Q8 (fst:=[]) (cap:=[.ptr z 0,.ptr y 0,.ptr x 0]) (B:=E4 (p.expB deep)) (by omega) h1 (by simp;omega) (by rw[flat_frL];unfold Pw.expB;split<;>simp) (fun G3 W K' h3 D l3 j=>?_) fun G2 X w=>?_
 ·rw[flat_frL] at j;refine E9 r_power_powers_exponent_1 (by kernel_rfl) (by simp) ?_;simp at l3;have Y:=D.cells f M;have y3:=D.cells r N;have x3:=D.cells g V;have Z:=D.cells a O;simp[z4b,Y,y3,Z];refine Ln (p:=p.b.p) (by simp only[Pn.p];omega) h3 (by omega) fun G4 h4 A=>?_
  have Q:=A.cells f Y;have R:=A.cells g x3;have S:=A.cells a Z;unfold Pw.expB at j;by_cases ov:p.over=0
  ·rw[Ai ov] at j;simp[Q,R,S,ov];refine Mq (p:=p.es.p) (by simp only[Pn.p];omega) h4 (by simp;omega) fun l q o=>?_
   simp;exact j l (by simpa using q) (A.trans o)
  rw[Ab ov] at j;simp[Q,R,S,ov];refine⟨by omega,?_⟩;refine mw h4 (by simp;omega) fun l q o=>?_
  have z5:=o.cells f Q;have x5:=o.cells g R;have p5:=o.cells a S;simp[z5,p5];refine Qc q (by simp;omega) fun G6 h6 E=>?_
  have z6:=E.cells f z5;have x6:=E.cells g x5;have p6:=E.cells a p5;simp[z6,p6];refine Mq (p:=p.es.p) (by simp only[Pn.p];omega) h6 (by simp;omega) fun G7 h7 F=>?_
  have z7:=F.cells f z6;have x7:=F.cells g x6;have p7:=F.cells a p6;simp[z7,x7,p7];refine mw h7 (by simp;omega) fun G8 h8 k8=>?_
  simp;exact j G8 (by simpa using h8) (A.trans (o.trans (E.trans (F.trans k8))))
 have ad:=Me (d:=deep) (t:=p.b.k) (b:=E4 (p.expB deep)) (m:=5) (by rw[flat_frL];unfold Pw.expB;split<;>simp);have z2:=w.cells f M;have y2:=w.cells r N;have x2:=w.cells g V;have p2:=w.cells a O;have fin:∀l,Fo l e (ops++[Ij (p.B+4) p.B]++(Gk deep p.b.k (E4 (p.expB deep))).flat++p.expE) deep→Kp e G2 l→K (.tup []) l:=fun l q o=>by
  refine k l ?_ (L.trans (s.trans (w.trans o)));unfold Pw.exp;simp only[Hi,flat_frL];simpa using q
 unfold Pw.expE at fin;by_cases ov:p.over=0
 ·rw[Ai ov] at fin;simp[z2,x2,p2,ov];refine Mq (p:=p.es.p) (by simp only[Pn.p];omega) X (by simp;omega) fun l q o=>?_
  simp;exact fin l (by simpa using q) o
 ·rw[Ab ov] at fin;simp[z2,x2,y2,p2,ov];refine Mq (p:=p.es.p) (by simp only[Pn.p];omega) X (by simp;omega) fun l q o=>?_
  simp;exact fin l (by simpa using q) o
def zxi {p:Pw}{D:Int}:(p.exp D).flat.length≤20:=by
 have a:=Me (d:=D) (t:=p.b.k) (b:=E4 (p.expB D)) (m:=5) (by rw[flat_frL];unfold Pw.expB;split<;>simp);have f:p.expE.length≤1:=by unfold Pw.expE;split<;>simp
 unfold Pw.exp;simp only[Hi,flat_frL,Aj,Ar,Bc];omega
def Sk {z q:Nat}{sz sq:Nat}(J:PwN p)(hD:0≤deep∧deep≤50)(L:G[z]?=some (.cells [.ptr P 0] sz))(a:z≠e)(hq:G[q]?=some (.cells [.i p.k] sq))(g:q≠e)(hP:G[P]?=some (.cells (Ji e p) st))(f:P≠e)(h:Fo G e ops (deep+1))(hl:ops.length≤700000)
  (k:∀G',Fo G' e (ops++(p.scanR deep).flat) (deep+1)→Kp e G G'→K (.tup []) G'):F1 (.fn 184) [.i deep,.ptr z 0,.ptr q 0] G K:=by
 refine E9 r_power_powers_scan_1 (by kernel_rfl) (by simp) ?_;obtain⟨w1,w2,w3,w4,w5,w6,w7⟩:=oh J;have hk:=J.k;have A:=hP;unfold Ji at A;simp[z6b,L,A];refine Qc h (by omega) fun G0 h0 r=>?_
 have M:=r.cells a L;have q0:=r.cells g hq;have N:=r.cells f A;simp[M,N];refine il h0 (by simp;omega) fun G1 h1 s=>?_
 have C:=s.cells a M;have O:=s.cells g q0;have D:=s.cells f N;simp[C,O,D];refine Q8 (fst:=[]) (cap:=[.ptr z 0]) (B:=E4 (p.scanB (deep+1))) (by omega) h1 (by simp;omega) (by rw[flat_frL];simp[Pw.scanB]) (fun G3 Q K' h3 R l3 l=>?_) fun G2 h2 w=>?_
 ·rw[flat_frL] at l;refine E9 r_power_powers_scan_1_1 (by kernel_rfl) (by simp) ?_;simp at l3;have S:=R.cells a C;have T:=R.cells f D;simp[z50,S,T];refine Qc h3 (by omega) fun G4 E j=>?_
  have x:=j.cells a S;have y:=j.cells f T;simp[x,y];refine Ln (p:=p.tab.p) (by simp only[Pn.p];omega) E (by simp;omega) fun U F o=>?_
  have V:=o.cells a x;have W:=o.cells f y;simp[V,W];refine Ln (p:=p.cur.p) (by simp only[Pn.p];omega) F (by simp;omega) fun G6 h6 H=>?_
  have X:=H.cells a V;have Y:=H.cells f W;simp[X,Y];refine zma h6 (by simp;omega) fun G7 h7 I=>?_
  have z7:=I.cells a X;have p7:=I.cells f Y;simp[z7,p7];refine Mq (p:=p.cur.p) (by simp only[Pn.p];omega) h7 (by simp;omega) fun G8 h8 k8=>?_
  simp;exact l G8 (by simpa [Pw.scanB] using h8) (j.trans (o.trans (H.trans (I.trans k8))))
 have aa:=Me (d:=deep+1) (t:=p.k) (b:=E4 (p.scanB (deep+1))) (m:=5) (by simp[flat_frL,Pw.scanB]);have Z:=w.cells a C;have q2:=w.cells g O;have p2:=w.cells f D;simp[Z,q2,p2];refine Ou h2 (by simp;omega) fun G4 E j=>?_
 have x:=j.cells a Z;have y:=j.cells f p2;simp[x,y];refine Qc E (by simp;omega) fun U F o=>?_
 simp;refine k U ?_ (r.trans (s.trans (w.trans (j.trans o))));unfold Pw.scanR;simp only[Hi,flat_frL];simpa using F
def zoh {p:Pw}{D:Int}:(p.scanR D).flat.length≤20:=by
 have a:=Me (d:=D+1) (t:=p.k) (b:=E4 (p.scanB (D+1))) (m:=5) (by simp[flat_frL,Pw.scanB]);unfold Pw.scanR;simp only[Hi,flat_frL,Aj,Ar,Bc];omega
def Ub (s:PwN p)(X:0≤deep∧deep≤40)(j:G[P]?=some (.cells (Ji e p) st))(a:P≠e)(h:Fo G e ops deep)(Y:ops.length≤600000)
  (k:∀G',Fo G' e (ops++(p.scan deep).flat) deep→Kp e G G'→K (.tup []) G'):F1 (.fn 163) [.ptr P 0] G K:=by
 refine E9 r_power_powers_scan (by kernel_rfl) (by simp) ?_;have hk:=s.k;have w:=s.nk;have hw:=s.w;have le:e<G.length:=by obtain⟨_,_,h,_⟩:=id h;exact (Aa.1 h).1
 have x:P<G.length:=(Aa.1 j).1;have l:(G++[LObj.cells [.ptr P 0] 0,LObj.cells [.i 0] 0])[P]?=_:=(E6 x).trans j;have m:(G++[LObj.cells [.ptr P 0] 0])[P]?=_:=(E6 x).trans j;have d:(G++[LObj.cells [.ptr P 0] 0,LObj.cells [.i p.k] 1])[P]?=_:=(E6 x).trans j;unfold Ji at l m d;have N:(G++[LObj.cells [.ptr P 0] 0,LObj.cells [.i p.k] 1])[G.length]?=some (.cells [.ptr P 0] 0):=by simp
 have O:(G++[LObj.cells [.ptr P 0] 0,LObj.cells [.i p.k] 1])[G.length+1]?=some (.cells [.i p.k] 1):=by simp
 have Q:=h.app [LObj.cells [.ptr P 0] 0,LObj.cells [.i p.k] 1];have H:=Kp.app' e G [LObj.cells [.ptr P 0] 0,LObj.cells [.i p.k] 1];have R:=H.cells a j;have f:G.length≠e:=by omega
 have g:G.length+1≠e:=by omega
 simp[z7u,↓l,↓m,↓d,w];generalize G++[LObj.cells [.ptr P 0] 0,LObj.cells [.i (p.k:Int)] 1]=Z at *;generalize G.length+1=q at *;generalize G.length=z at *;refine Ou Q (by omega) fun G7 S o=>?_
 have I:=o.cells f N;have J:=o.cells g O;have T:=o.cells a R;have U:=o.cells a d;have y:=S5 hw.2;have A:((2:Int)^p.w)=((2^p.w:Nat):Int):=by simp
 simp[I,J,U];rw[A];have C:(-9223372036854775808:Int)≤((2^p.w:Nat):Int)∧((2^p.w:Nat):Int)<9223372036854775808:=by
  generalize 2^p.w=W at y ⊢;omega
 refine⟨by omega,C,?_⟩;refine Q8 (fst:=[]) (cap:=[.ptr z 0,.ptr q 0]) (B:=p.scanR deep) (by omega) S (by simp;omega) (by have:=zoh (p:=p) (D:=deep);omega) (fun L M K' E r V F=>?_) fun L E r=>?_
 ·simp at V;exact Sk s (by omega) (r.cells f I) f (r.cells g J) g (r.cells a T) a E (by omega) F
 simp;refine k L ?_ (H.trans (o.trans r));unfold Pw.scan;simp only[Hi,flat_frL];simpa using E
def zs5 {p:Pw}{D:Int}:(p.scan D).flat.length≤30:=by
 have a:=Me (d:=D) (t:=(2^p.w:Nat)) (b:=p.scanR D) zoh;unfold Pw.scan;simp only[Hi,flat_frL,Aj,Ar,Bc];omega
def zlg {p:Pw}{D:Int}:(p.runW D).flat.length≤220:=by
 have f:=ba (p:=p) (d:=p.acc) (a:=p.acc) (b:=p.acc) (D:=D);have g:=zxd (p:=p) (D:=D);unfold Pw.runW;simp only[Hi,Aj];omega
def zm6 {p:Pw}{D:Int}:(p.runR D).flat.length≤500:=by
 have f:=ba (p:=p) (d:=p.acc) (a:=p.acc) (b:=p.cur) (D:=D);have g:=Me (d:=D) (t:=p.w) (b:=p.runW (D+1)) zlg;have h:=zs5 (p:=p) (D:=D);unfold Pw.runR;simp only[Hi,flat_frL,Aj,Ar,Bc];omega
def Va {z:Nat}{i:Int}{sz:Nat}(l:PwN p)(hD:0≤deep∧deep≤5)(J:G[z]?=some (.cells [.ptr P 0] sz))(g:z≠e)(L:G[P]?=some (.cells (Ji e p) st))(f:P≠e)(h:Fo G e ops deep)(hl:ops.length≤500000)
  (k:∀G',Fo G' e (ops++(p.runR deep).flat) deep→Kp e G G'→K (.tup []) G'):F1 (.fn 160) [.i i,.ptr z 0] G K:=by
 refine E9 r_power_powers_run_1 (by kernel_rfl) (by simp) ?_;obtain⟨m,w2,T,w4,w5,w6,w7⟩:=oh l;have hw:=l.w;have r:=L;unfold Ji at r;simp[z6t,J,r];refine uk h (by omega) fun G1 U o=>?_
 have s:=o.cells g J;have M:=o.cells f L;have w:=o.cells f r;simp[s,w];refine Q8 (fst:=[]) (cap:=[.ptr z 0]) (B:=p.runW (deep+1)) (by omega) U (by simp;omega) (by have:=zlg (p:=p) (D:=deep+1);omega) (fun G3 N K' V x W y=>?_) fun G2 X q=>?_
 ·refine E9 r_power_powers_run_1_1 (by kernel_rfl) (by simp) ?_;simp at W;have O:=x.cells g s;have Q:=x.cells f M;have Y:=x.cells f w;simp[z54,O,Y];refine xz (d:=p.acc) (a:=p.acc) (b:=p.acc) l (by omega) m m m rfl rfl rfl Q V (by omega) fun Z A j=>?_
  have aa:=ba (p:=p) (d:=p.acc) (a:=p.acc) (b:=p.acc) (D:=deep+1);have C:=j.cells g O;have E:=j.cells f Q;simp[C];refine zwc l (by omega) E f A (by simp;omega) fun F H I=>?_
  simp;refine y F ?_ (j.trans I);unfold Pw.runW;rw[Hi];simpa using H
 have ad:=Me (d:=deep) (t:=p.w) (b:=p.runW (deep+1)) zlg;have R:=q.cells g s;have S:=q.cells f M;have p2:=q.cells f w;simp[R];refine Ub l (by omega) S f X (by simp;omega) fun Z A j=>?_
 have af:=zs5 (p:=p) (D:=deep);have C:=j.cells g R;have E:=j.cells f S;have p4:=j.cells f p2;simp[C,p4];refine xz (d:=p.acc) (a:=p.acc) (b:=p.cur) l (by omega) m m T rfl rfl rfl E A (by simp;omega) fun F H I=>?_
 simp;refine k F ?_ (o.trans (q.trans (j.trans I)));unfold Pw.runR;simp only[Hi,flat_frL];simpa using H
def cu (j:PwN p)(hD:0≤deep∧deep≤4)(Y:G[P]?=some (.cells (Ji e p) st))(f:P≠e)(h:Fo G e ops deep)(hl:ops.length≤400000)
  (k:∀G',Fo G' e (ops++(p.run deep).flat) deep→Kp e G G'→K (.tup []) G'):F1 (.fn 100) [.ptr P 0,.i p.times] G K:=by
 refine E9 r_power_powers_run (by kernel_rfl) (by simp) ?_;obtain⟨M,w2,Z,w4,w5,w6,w7⟩:=oh j;have aa:=j.ti;obtain⟨h0,k0,q,r,g⟩:=box1 (x:=.cells [.ptr P 0] 0) Y f h;simp[z85];generalize G++[LObj.cells [.ptr P 0] 0]=s at *;generalize G.length=z at *;have E:=q;unfold Ji at E;simp[r,E];refine zi3 j q fun o=>?_
 have N:(s++o)[z]?=_:=(E6 (Aa.1 r).1).trans r;have F:(s++o)[P]?=_:=(E6 (Aa.1 q).1).trans q;have h1:=h0.app o;have k1:=Kp.app' e s o;generalize s++o=G1 at *;have H:=F;unfold Ji at H;simp[r,N,E,H];refine zkj (to:=p.acc) (fr:=p.ent) j (by omega) M w7 F f h1 (by omega) fun G2 h2 w=>?_
 have ad:=zc4 (p:=p) (a:=p.acc) (b:=p.ent) (D:=deep);have I:=w.cells g N;have O:=w.cells f F;have Q:=w.cells f H;simp[I,Q];refine Q8 (fst:=[]) (cap:=[.ptr z 0]) (B:=p.runR (deep+1)) (by omega) h2 (by simp;omega) (by have:=zm6 (p:=p) (D:=deep+1);omega) (fun G3 R K' J l l3 L=>?_) fun G3 J l=>?_
 ·simp at l3;exact Va j (by omega) (l.cells g I) g (l.cells f O) f J (by omega) L
 have af:=Me (d:=deep) (t:=p.times) (b:=p.runR (deep+1)) zm6;have S:=l.cells g I;have P3:=l.cells f O;have T:=l.cells f Q;simp[S,T];refine Ou J (by simp;omega) fun G4 h4 y=>?_
 have U:=y.cells g S;have P4:=y.cells f P3;have V:=y.cells f T;simp[U,V];refine zm0 (p:=p.cur.p) (by omega) (by simp only[Pn.p];omega) h4 (by simp;omega) fun G5 h5 A=>?_
 have ag:(Ke p.cur.p p.B deep).flat.length≤3:=Me (m:=1) (by simp[flat_frL]);have W:=A.cells g U;have P5:=A.cells f P4;have X:=A.cells f V;simp[W,X];refine Mq (p:=p.cur.p) (by simp only[Pn.p];omega) h5 (by simp;omega) fun G6 h6 C=>?_
 have z6:=C.cells g W;have P6:=C.cells f P5;have p6:=C.cells f X;simp[z6,p6];refine xz (d:=p.d) (a:=p.acc) (b:=p.cur) j (by omega) j.d M Z j.dk rfl rfl P6 h6 (by simp;omega) fun G7 h7 k7=>?_
 simp;refine k G7 ?_ (k0.trans (k1.trans (w.trans (l.trans (y.trans (A.trans (C.trans k7)))))));unfold Pw.run;simp only[Hi,flat_frL];simpa using h7
end put
end
end Go.Proofs.YtodjkjimaheggaaGreat
end
