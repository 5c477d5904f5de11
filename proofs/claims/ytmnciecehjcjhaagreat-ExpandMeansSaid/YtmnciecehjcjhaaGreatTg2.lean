/- The templates: see the main text. -/
import Derived.Test.YtmnciecehjcjhaaGreatTg0
import Derived.Test.YtmnciecehjcjhaaGreatTg1
import Derived.Test.YtmnciecehjcjhaaGreatSvG3
import Derived.Test.YtmnciecehjcjhaaGreatProg
import Derived.KernelRfl
import Derived.Test.YtmnciecehjcjhaaGreatSvG2
set_option linter.defProp false
noncomputable section
namespace Go.Proofs.YtmnciecehjcjhaaGreat
open Go.Sv
set_option linter.unusedSimpArgs false
set_option maxRecDepth 10000
variable{g j A D U vO uR:Nat}{z B X vT:Int}{M:Bool}{T:UInt64}{uY:List Nat}{E:List LV}{I:Pd}{P:LV}{Z:LV→Pd→Prop}{vQ:List Vr}{Y:List Bf}{uZ:List Lo}{vL uF:Pc}
def zet:LC:=(.q [.F 4] (.seq (.q [.K 5 0] (.block 0 (.loop (.seq (.q [.m 6 5,.m 7 0,.s 8 7,.c 9 .lss 3 6 8] (.cond (.t 9) .skip (.exit 0))) (.seq (.block 1 (.q [.m 12 0,.m 13 5,.I 14 3 12 13,.f 15 0 14,.l 16 15,.m 17 1,.c 18 .gtr 3 16 17] (.cond (.t 18) (.q [.F 4] .ret) .skip))) (.ops [.m 10 5,.b 11 .add 3 10 1,.m 5 11])))))) (.q [.m 19 0,.s 20 19,.b 21 .leq 3 20 12,.m 4 21] .ret)))
def r_law22_light:Pk Tryz.prog 7=some ⟨22,zet.r,[.tmp 4]⟩:=Aa
def zks(g:List Vr)(n:Int)(L:g.length≤9223372036854775807):Pl 7 [.lst (Py g) g.length 3,.i n] (.bool ((g.all λv=>decide (v.limbs≤n))&&decide (g.length≤12))) []:=by
 refine P4.val rfl (Pj r_law22_light Aa (by simp) ?_);simp[zet];refine Qt (λI K M N=>∃i:Nat,K=[]∧N+i=g.length∧lk I 0=.lst (Py g) g.length 3∧lk I 1=.i n∧lk I 5=.i i∧∀A,A<i→(gv g A).limbs≤n) (N:=g.length) ⟨0,by simp⟩ ?_;rintro N I K M ⟨i,rfl,O,j,z,B,F⟩ P C;by_cases E:i<g.length
 ·have G:=zl (Vf E);have Q:=mz E;by_cases e:n<(gv g i).limbs
  ·simp[j,z,B,E,Pe G,e];intro h;have:=h _ (Kj (Vf E));omega
  ·simp[j,z,B,E,Pe G,e];refine⟨J,C _ _ _ ⟨N-1,J,i+1,rfl,J,Am,Aq,by simp,λA D=>?_⟩⟩;by_cases q:A=i
   ·rw[q];omega
   ·exact F A J
 ·have ha:(g.all λv=>decide (v.limbs≤n))=true:=Li.2 λv hv=>by
   obtain⟨A,D,rfl⟩:=L5.1 hv;have H:=Vf D;rw[J7 D]at H;rw[Option.some.inj H];simpa using F A J
  simp[j,z,B,E,ha];omega
section
def z9f:LC:=(.ops [.m 18 0,.m 19 0,.N 20 19,.f 21 0 20,.l 22 21,.m 23 1,.m 24 2,.m 25 3,.m 26 4,.m 27 5,.m 28 6,.m 29 7,.m 30 8,.z 31 (.build [(.i 0),(.i 0),(.i 0),(.i 0),(.i 0),(.i 0),(.i 0),(.u 0)] [(0,1,.t 23),(1,1,.t 24),(2,1,.t 25),(3,1,.t 26),(4,1,.t 27),(5,1,.t 28),(6,1,.t 29),(7,1,.t 30)]),.z 32 (.buildSl 8 1 [(.i 0),(.i 0),(.i 0),(.i 0),(.i 0),(.i 0),(.i 0),(.u 0)] [(0,8,.t 31)]),.a 33 8 22 32,.N 34 18,.f 35 0 34,.S 1 35 33])
def r_expand_Emit_put:Pk Tryz.prog 97=some ⟨36,z9f.r,[]⟩:=Aa
def z7z:LC:=(.ops [.m 6 0,.m 7 1,.m 8 2,.z 9 (.w 97 [.t 6,.k 1,.t 7,.k (-1),.k (-1),.k (-1),.k (-1),.k 0,.t 8])])
def r_expand_Emit_Const:Pk Tryz.prog 59=some ⟨10,z7z.r,[]⟩:=Aa
def z8s:LC:=(.ops [.m 6 0,.m 7 1,.m 8 2,.z 9 (.w 97 [.t 6,.k 2,.t 7,.k (-1),.t 8,.k (-1),.k (-1),.k 0,.c (.u 0)])])
def r_expand_Emit_Move:Pk Tryz.prog 117=some ⟨10,z8s.r,[]⟩:=Aa
def za3:LC:=(.ops [.m 10 0,.m 11 1,.m 12 2,.m 13 3,.m 14 4,.z 15 (.w 97 [.t 10,.t 11,.t 12,.k (-1),.t 13,.t 14,.k (-1),.k 0,.c (.u 0)])])
def r_expand_Emit_Two:Pk Tryz.prog 111=some ⟨16,za3.r,[]⟩:=Aa
def z82:LC:=(.ops [.m 10 0,.m 11 1,.m 12 2,.m 13 3,.m 14 4,.z 15 (.cvInt .u64 (.t 14)),.z 16 (.w 97 [.t 10,.t 11,.t 12,.k (-1),.t 13,.k (-1),.k (-1),.k 0,.t 15])])
def r_expand_Emit_Shift:Pk Tryz.prog 115=some ⟨17,z82.r,[]⟩:=Aa
def z9k:LC:=(.ops [.m 10 0,.m 11 1,.m 12 2,.m 13 3,.m 14 4,.z 15 (.w 97 [.t 10,.k 10,.t 11,.t 12,.t 13,.t 14,.k (-1),.k 0,.c (.u 0)])])
def r_expand_Emit_Mul:Pk Tryz.prog 110=some ⟨16,z9k.r,[]⟩:=Aa
def z89:LC:=(.ops [.m 14 0,.m 15 1,.m 16 2,.m 17 3,.m 18 4,.m 19 5,.m 20 6,.z 21 (.w 97 [.t 14,.t 15,.t 16,.t 17,.t 18,.t 19,.t 20,.k 0,.c (.u 0)])])
def r_expand_Emit_Carry:Pk Tryz.prog 105=some ⟨22,z89.r,[]⟩:=Aa
def z9v:LC:=(.ops [.m 10 0,.m 11 1,.m 12 3,.m 13 4,.m 14 2,.z 15 (.w 97 [.t 10,.k 13,.t 11,.k (-1),.t 12,.t 13,.t 14,.k 0,.c (.u 0)])])
def r_expand_Emit_Sel:Pk Tryz.prog 119=some ⟨16,z9v.r,[]⟩:=Aa
def z8f:LC:=(.q [.x 7 2] (.ops [.m 10 0,.m 11 1,.m 12 3,.f 13 0 7,.l 14 13,.f 15 1 7,.l 16 15,.m 17 4,.c 18 .add 3 16 17,.z 19 (.cvInt .u64 (.t 18)),.z 20 (.w 97 [.t 10,.k 14,.t 11,.k (-1),.t 12,.k (-1),.k (-1),.t 14,.t 19])]))
def r_expand_Emit_Load:Pk Tryz.prog 108=some ⟨21,z8f.r,[]⟩:=Aa
def z88:LC:=(.q [.x 6 1] (.ops [.m 10 0,.m 11 2,.m 12 4,.f 13 0 6,.l 14 13,.f 15 1 6,.l 16 15,.m 17 3,.c 18 .add 3 16 17,.z 19 (.cvInt .u64 (.t 18)),.z 20 (.w 97 [.t 10,.k 15,.k (-1),.k (-1),.t 11,.t 12,.k (-1),.t 14,.t 19])]))
def r_expand_Emit_Store:Pk Tryz.prog 98=some ⟨21,z88.r,[]⟩:=Aa
def z58:LC:=(.seq (.q [.m 7 1,.b 8 .lss 3 7 1] (.cond (.t 8) .ret .skip)) (.q [.m 9 0,.N 10 9,.f 11 1 10,.l 12 11,.m 6 12] (.q [.m 13 0,.m 14 6,.m 15 1,.z 16 (.cvInt .u64 (.t 15)),.z 17 (.w 97 [.t 13,.k 16,.t 14,.k (-1),.k (-1),.k (-1),.k (-1),.k 0,.t 16])] (.q [.m 18 0,.N 19 18,.f 20 1 19,.l 21 20,.b 22 .add 3 21 1,.N 23 18,.f 24 1 23,.S 1 24 22] (.q [.m 25 2,.m 26 6,.z 27 (.callV (.t 25) [.t 26])] (.q [.m 28 0,.N 29 28,.f 30 1 29,.l 31 30,.b 32 .sub 3 31 1,.N 33 28,.f 34 1 33,.S 1 34 32] (.ops [.m 35 0,.z 36 (.w 97 [.t 35,.k 17,.k (-1),.k (-1),.k (-1),.k (-1),.k (-1),.k 0,.c (.u 0)])])))))))
def r_expand_Emit_Loop:Pk Tryz.prog 106=some ⟨37,z58.r,[]⟩:=Aa
def z8r:LC:=(.q [.x 3 0,.x 4 1,.x 5 2] (.ops [.l 6 3,.f 7 2 4,.l 8 7,.z 9 (.mkFunc 142 [] [.t 3,.t 4,.t 5]),.V 10 106 6 8 9]))
def r_expand_Emit_Fill:Pk Tryz.prog 99=some ⟨11,z8r.r,[]⟩:=Aa
def z7f:LC:=(.ops [.l 5 1,.L 6 3 2,.m 7 0,.l 8 3,.z 9 (.w 98 [.t 5,.t 6,.t 7,.k 0,.t 8])])
def r_expand_Emit_Fill_1:Pk Tryz.prog 142=some ⟨10,z7f.r,[]⟩:=Aa
def zeg:LC:=(.q [.x 3 0,.z 6 (.alloc [(.i 0),(.i 0),(.i 0)])] (.q [.f 7 0 3,.l 8 7,.f 9 1 3,.l 10 9,.m 11 1,.c 12 .add 3 10 11,.m 13 2,.z 14 (.build [(.i 0),(.i 0),(.i 0)] [(0,1,.t 8),(1,1,.t 12),(2,1,.t 13)]),.S 3 6 14] .ret))
def r_expand_Part:Pk Tryz.prog 63=some ⟨15,zeg.r,[.cellN 6 3]⟩:=Aa
section emit
variable {G : Pd} {K : LV → Pd → Prop} {e : Nat} {ops : List Lo} {deep : Int}
def u9{st:Nat}{v:LV}{L:List Lo}(M:G[e]?=some (.cells [v,.i deep] st))(O:R5 0 G v 8 ops.length (Tu ops))(V:ops.length≤1000000)
  (k:∀(z:LV) (j:Pd),z.cells=some [z]→j[e]?=some (.cells [v,.i deep] st)→P5 (j.set e (.cells [z,.i deep] (st+1))) e (ops++L) deep→Kp e G (j.set e (.cells [z,.i deep] (st+1)))→(∀(q:Nat) (g:LObj),(∀Q m k st,g≠LObj.dyn Q m 8 k st)→G[q]?=some g→j[q]?=some g)→Z z j):Rq G 8 v L.length (Tu L) Z:=by
 have X:e<G.length:=(Jy.1 M).1;refine R5.push2 O J J J (zxl L) (W9 L) λz j B D E R T=>?_
 have A:∀(q:Nat) (g:LObj),(∀Q m k st,g≠LObj.dyn Q m 8 k st)→G[q]?=some g→j[q]?=some g:=λq g ho C=>by
  have F:=(Jy.1 C).1;rw[D q F (λY r=>?_)]
  ·exact C
  ·obtain⟨Q,m,k,st,P⟩:=O.row r;rw[C]at P;exact ho _ _ _ _ (Option.some.inj P)
 have H:=A e _ (λ_ _ _ _ q=>Hm) M;have I:e<j.length:=(Jy.1 H).1;refine k z j B.cells H ⟨st+1,z,J3 I,?_⟩ ⟨Cm,λq g C ho U=>?_⟩ A
 ·rw[znt,J9];exact B.set_cells H
 ·rw[Jz (Ne.symm C)];exact A q g ho U
def xp{d a b c:Int}(h:P5 G e ops deep)(E:ops.length≤1000000)(k:∀g,P5 g e (ops++[⟨z,d,B,a,b,c,X,T⟩]) deep→Kp e G g→K (.tup []) g) :
  Ql (.fn 97) [.ptr e 0,.i z,.i d,.i B,.i a,.i b,.i c,.i X,.u T] G K:=by
 obtain⟨st,v,j,F⟩:=h;have H:e<G.length:=(Jy.1 j).1;refine Pj r_expand_Emit_put Aa N ?_;have A:∀x,Kp e G (G++x):=λx=>Kp.app' e G x
 have C:∀x:List LObj,(G++x)[e]?=some (.cells [v,.i deep] st):=λx=>(Ph H).trans j
 simp[z9f,j];refine u9 (L:=[⟨z,d,B,a,b,c,X,T⟩]) (C _) F.push_end E λP Q D I M O _=>?_
 simp[-LV.cells,D,I];exact k _ M ((A _).trans O)
def z9d{d:Int}{n:UInt64}(h:P5 G e ops deep)(j:ops.length≤1000000)(k:∀g,P5 g e (ops++[cK d n]) deep→Kp e G g→K (.tup []) g):Ql (.fn 59) [.ptr e 0,.i d,.u n] G K:=by
 refine Pj r_expand_Emit_Const Aa N ?_;simp[z7z];refine xp h j λg z hk=>?_
 simpa using k g z hk
def znd{d a:Int}(h:P5 G e ops deep)(j:ops.length≤1000000)(k:∀g,P5 g e (ops++[Ub d a]) deep→Kp e G g→K (.tup []) g):Ql (.fn 117) [.ptr e 0,.i d,.i a] G K:=by
 refine Pj r_expand_Emit_Move Aa N ?_;simp[z8s];refine xp h j λg z hk=>?_
 simpa using k g z hk
def zjw{kd d a b:Int}(h:P5 G e ops deep)(j:ops.length≤1000000)(k:∀g,P5 g e (ops++[Pv kd d a b]) deep→Kp e G g→K (.tup []) g):Ql (.fn 111) [.ptr e 0,.i kd,.i d,.i a,.i b] G K:=by
 refine Pj r_expand_Emit_Two Aa N ?_;simp[za3];refine xp h j λg z hk=>?_
 simpa using k g z hk
def zfo{kd d a:Int}(h:P5 G e ops deep)(j:ops.length≤1000000)(k:∀g,P5 g e (ops++[S8 kd d a z]) deep→Kp e G g→K (.tup []) g):Ql (.fn 115) [.ptr e 0,.i kd,.i d,.i a,.i z] G K:=by
 refine Pj r_expand_Emit_Shift Aa N ?_;simp[z82];refine xp h j λg A hk=>?_
 simpa using k g A hk
def Mul_any{hi a b:Int}(h:P5 G e ops deep)(j:ops.length≤1000000)(k:∀g,P5 g e (ops++[S0 hi z a b]) deep→Kp e G g→K (.tup []) g):Ql (.fn 110) [.ptr e 0,.i hi,.i z,.i a,.i b] G K:=by
 refine Pj r_expand_Emit_Mul Aa N ?_;simp[z9k];refine xp h j λg A hk=>?_
 simpa using k g A hk
def zjv{d a b c:Int}(h:P5 G e ops deep)(j:ops.length≤1000000)(k:∀g,P5 g e (ops++[Qy z d B a b c]) deep→Kp e G g→K (.tup []) g):Ql (.fn 105) [.ptr e 0,.i z,.i d,.i B,.i a,.i b,.i c] G K:=by
 refine Pj r_expand_Emit_Carry Aa N ?_;simp[z89];refine xp h j λg A hk=>?_
 simpa using k g A hk
def zrx{d c a b:Int}(h:P5 G e ops deep)(j:ops.length≤1000000)(k:∀g,P5 g e (ops++[R1 d c a b]) deep→Kp e G g→K (.tup []) g):Ql (.fn 119) [.ptr e 0,.i d,.i c,.i a,.i b] G K:=by
 refine Pj r_expand_Emit_Sel Aa N ?_;simp[z9v];refine xp h j λg z hk=>?_
 simpa using k g z hk
def mq{d i:Int}{p:Pc}(B:-1000000000≤p.at_+z∧p.at_+z≤1000000000)(h:P5 G e ops deep)(j:ops.length≤1000000)(k:∀g,P5 g e (ops++[P7 d p i z]) deep→Kp e G g→K (.tup []) g):Ql (.fn 108) [.ptr e 0,.i d,.agg p.f,.i i,.i z] G K:=by
 refine Pj r_expand_Emit_Load Aa N ?_;simp[z8f,Pc.f]
 repeat (refine⟨J,?_⟩)
 refine xp (h.app _) j λg A hk=>?_
 simpa using k g A ((Kp.app' _ _ _).trans hk)
def z4d{i b:Int}{p:Pc}(B:-1000000000≤p.at_+z∧p.at_+z≤1000000000)(h:P5 G e ops deep)(j:ops.length≤1000000)(k:∀g,P5 g e (ops++[Qn p i z b]) deep→Kp e G g→K (.tup []) g):Ql (.fn 98) [.ptr e 0,.agg p.f,.i i,.i z,.i b] G K:=by
 refine Pj r_expand_Emit_Store Aa N ?_;simp[z88,Pc.f]
 repeat (refine⟨J,?_⟩)
 refine xp (h.app _) j λg A hk=>?_
 simpa using k g A ((Kp.app' _ _ _).trans hk)
def zuj{f:Nat}{cap:List LV}(hd:0≤deep∧deep≤100)(h:P5 G e ops deep)(Y:ops.length≤1000000)(Z:z<1→K (.tup []) G)
  (k1:1≤z→∀D,P5 D e (ops++[Wr deep z]) (deep+1)→Kp e G D→Ql (.fn f) (E++.i deep::cap) D λ_ I=>∃g,g.length≤1000000∧P5 I e g (deep+1)∧∀F,P5 F e (g++[Vi]) deep→Kp e I F→K (.tup []) F) :
  Ql (.fn 106) [.ptr e 0,.i z,.fn (.func f) E cap] G K:=by
 refine Pj r_expand_Emit_Loop Aa N ?_;by_cases gg:z<1
 ·simpa [z58,gg] using Z gg
 obtain⟨st,v,h1,h2⟩:=id h;simp[z58,gg,h1];refine xp h Y λD e1 L=>?_
 obtain⟨H,V,A,M⟩:=e1;simp[A];have O:e<D.length:=(Jy.1 A).1;refine⟨J,?_⟩;have j:∀(a:Pd) (X:LObj),Kp e a (a.set e X):=λa X=>⟨N,λq o hq _ ho=>by rw[Jz (Ne.symm hq)];exact ho⟩
 have B:=k1 J (D.set e (.cells [V,.i (deep+1)] (H+1))) ⟨H+1,V,J3 O,M.set_cells A⟩ (L.trans (j _ _));refine B.mono λw I hw=>?_
 obtain⟨g,P,e2,k2⟩:=hw;obtain⟨Q,v2,C,R⟩:=e2;simp[C];have T:e<I.length:=(Jy.1 C).1;refine⟨J,?_⟩;refine xp (deep:=deep) ⟨Q+1,v2,J3 T,R.set_cells C⟩ P λF e3 U=>?_
 simpa using k2 F e3 ((j _ _).trans U)
end emit
end

section
def z9h{G:Pd}{K:LV→Pd→Prop}{e:Nat}{ops:List Lo}{deep:Int}{f:Nat}{fst cap:List LV}{B:Fr Lo}(hd:0≤deep∧deep≤100)(h:P5 G e ops deep)(U:ops.length≤900000)(V:B.flat.length≤50000)
  (hb:∀(j:Pd) (g:List Lo) (E:LV→Pd→Prop),P5 j e g (deep+1)→Kp e G j→g.length≤900001→(∀A,P5 A e (g++B.flat) (deep+1)→Kp e j A→E (.tup []) A)→Ql (.fn f) (fst++.i deep::cap) j E)
  (k:∀C,P5 C e (ops++(Ri deep z B).flat) deep→Kp e G C→K (.tup []) C):Ql (.fn 106) [.ptr e 0,.i z,.fn (.func f) fst cap] G K:=by
 refine zuj hd h J (λD=>k G (by rw[zcn,J6 D,Ls];exact h) (Kp.refl _ _)) λH j I F=>hb j _ _ I F Ab λA L M=>⟨_,Ab,L,λO Q T=>k O ?_ (F.trans (M.trans T))⟩
 rw[zcn,J1 J];simpa using Q
section put
variable {G : Pd} {K : LV → Pd → Prop} {e P st : Nat} {ops : List Lo} {deep R : Int} {d a b n t : Pc}
end put
end
def z6z:LC:=(.q [.m 3 0,.s 4 3,.m 2 4] (.ops [.m 5 0,.m 6 2,.m 7 2,.z 8 (.cvInt .u64 (.t 7)),.w 9 163 8,.z 10 (.w 162 [.t 5,.k 0,.t 6,.t 9])]))
def r_slices_Sort_int_int:Pk Tryz.prog 143=some ⟨11,z6z.r,[]⟩:=Aa
def z3t:LC:=(.q [.z 8 (.move .T)] (.q [.z 9 (.move .T)] (.block 0 (.loop (.block 1 (.q [.m 19 2,.m 20 1,.c 21 .sub 3 19 20,.m 10 21] (.seq (.q [.m 22 10,.b 23 .leq 3 22 12] (.cond (.t 23) (.q [.m 24 0,.m 25 1,.m 26 2,.V 27 178 24 25 26] .ret) .skip)) (.seq (.q [.m 28 3,.b 29 .eql 3 28 0] (.cond (.t 29) (.q [.m 30 0,.m 31 1,.m 32 2,.V 33 179 30 31 32] .ret) .skip)) (.seq (.q [.m 34 8,.z 35 (.un .not (.t 34))] (.cond (.t 35) (.q [.m 36 0,.m 37 1,.m 38 2,.V 39 180 36 37 38] (.ops [.m 40 3,.b 41 .sub 3 40 1,.m 3 41])) .skip)) (.q [.m 43 0,.m 44 1,.m 45 2,.V 46 181 43 44 45,.m 42 46,.X 47 0 42,.X 48 1 42,.m 11 47,.m 12 48] (.seq (.q [.m 49 12,.b 50 .eql 200 49 2] (.cond (.t 50) (.q [.m 51 0,.m 52 1,.m 53 2,.V 54 182 51 52 53] (.q [.m 55 2,.b 56 .sub 3 55 1,.m 57 11,.m 58 1,.c 59 .sub 3 57 58,.c 60 .sub 3 56 59,.m 11 60] (.ops [.K 12 1]))) .skip)) (.seq (.q [.m 61 8,.m 62 61,.my 63 62 9,.q 64 62 63,.m 65 64,.my 66 65 12,.y 67 65 (.bin .eql true 200 (.t 66) (.k 1)),.q 68 65 67] (.cond (.t 68) (.q [.m 69 0,.m 70 1,.m 71 2,.V 72 183 69 70 71] (.cond (.t 72) .ret .skip)) .skip)) (.seq (.seq (.draw [(.m 73 1,[]),(.b 74 .gtr 3 73 0,[]),(.m 75 74,[]),(.my 76 75 0,[]),(.my 77 75 1,[]),(.y 78 75 (.bin .sub true 3 (.t 77) (.k 1)),[]),(.y 79 75 (.ixAddr 1 (.t 76) (.t 78)),[]),(.yl 80 75 79,[]),(.my 81 75 0,[]),(.my 82 75 11,[]),(.y 83 75 (.ixAddr 1 (.t 81) (.t 82)),[]),(.yl 84 75 83,[]),(.y 85 75 (.w 184 [.t 80,.t 84]),[]),(.y 86 75 (.un .not (.t 85)),[]),(.q 87 75 86,[])]) (.cond (.t 87) (.q [.m 88 0,.m 89 1,.m 90 2,.m 91 11,.z 92 (.w 185 [.t 88,.t 89,.t 90,.t 91]),.m 13 92] (.q [.m 93 13,.m 1 93] (.exit 1))) .skip)) (.q [.m 95 0,.m 96 1,.m 97 2,.m 98 11,.z 99 (.w 186 [.t 95,.t 96,.t 97,.t 98]),.m 94 99,.X 100 0 94,.X 101 1 94,.m 14 100,.m 15 101] (.q [.m 102 15,.m 9 102] (.q [.m 103 14,.m 104 1,.c 105 .sub 3 103 104,.m 106 2,.m 107 14,.c 108 .sub 3 106 107,.m 16 105,.m 17 108] (.q [.m 109 10,.b 110 .quo 3 109 8,.m 18 110] (.q [.m 111 16,.m 112 17,.c 113 .lss 3 111 112] (.cond (.t 113) (.q [.m 114 16,.m 115 18,.c 116 .geq 3 114 115,.m 8 116] (.q [.m 117 0,.m 118 1,.m 119 14,.m 120 3,.z 121 (.w 162 [.t 117,.t 118,.t 119,.t 120])] (.ops [.m 122 14,.b 123 .add 3 122 1,.m 1 123]))) (.q [.m 124 17,.m 125 18,.c 126 .geq 3 124 125,.m 8 126] (.q [.m 127 0,.m 128 14,.b 129 .add 3 128 1,.m 130 2,.m 131 3,.z 132 (.w 162 [.t 127,.t 129,.t 130,.t 131])] (.ops [.m 133 14,.m 2 133]))))))))))))))))))))))
def r_slices_pdqsortOrdered_int:Pk Tryz.prog 162=some ⟨134,z3t.r,[]⟩:=Aa
def z2j:LC:=(.q [.m 8 1,.b 9 .add 3 8 1,.m 6 9] (.block 0 (.loop (.seq (.q [.m 10 6,.m 11 2,.c 12 .lss 3 10 11] (.cond (.t 12) .skip (.exit 0))) (.seq (.block 1 (.q [.m 15 6,.m 7 15] (.block 2 (.loop (.seq (.seq (.draw [(.m 16 7,[]),(.m 17 1,[]),(.c 18 .gtr 3 16 17,[]),(.m 19 18,[]),(.my 20 19 0,[]),(.my 21 19 7,[]),(.y 22 19 (.ixAddr 1 (.t 20) (.t 21)),[]),(.yl 23 19 22,[]),(.my 24 19 0,[]),(.my 25 19 7,[]),(.y 26 19 (.bin .sub true 3 (.t 25) (.k 1)),[]),(.y 27 19 (.ixAddr 1 (.t 24) (.t 26)),[]),(.yl 28 19 27,[]),(.y 29 19 (.w 184 [.t 23,.t 28]),[]),(.q 30 19 29,[])]) (.cond (.t 30) .skip (.exit 2))) (.seq (.block 3 (.draw [(.m 33 0,[]),(.m 34 7,[]),(.m 35 0,[]),(.m 36 7,[]),(.b 37 .sub 3 36 1,[]),(.m 38 0,[]),(.m 39 7,[]),(.b 40 .sub 3 39 1,[]),(.I 41 1 38 40,[]),(.l 42 41,[]),(.m 43 0,[]),(.m 44 7,[]),(.I 45 1 43 44,[]),(.l 46 45,[]),(.I 47 1 33 34,[]),(.S 1 47 42,[]),(.I 48 1 35 37,[]),(.S 1 48 46,[])])) (.ops [.m 31 7,.b 32 .sub 3 31 1,.m 7 32]))))))) (.ops [.m 13 6,.b 14 .add 3 13 1,.m 6 14]))))))
def r_slices_insertionSortOrdered_int:Pk Tryz.prog 178=some ⟨49,z2j.r,[]⟩:=Aa
def zdj:LC:=(.q [.F 4] (.q [.m 5 0,.w 6 195 5,.m 7 6,.my 8 7 1,.y 9 7 (.w 195 [.t 8]),.y 10 7 (.un .not (.t 9)),.q 11 7 10,.m 12 11,.mn 13 12 0,.mn 14 12 1,.n 15 12 (.bin .lss false 3 (.t 13) (.t 14)),.p 16 12 15,.m 4 16] .ret))
def r_cmp_Less_int:Pk Tryz.prog 184=some ⟨17,zdj.r,[.tmp 4]⟩:=Aa
def zbh:LC:=(.q [.F 2] (.q [.m 3 0,.m 4 0,.c 5 .neq 3 3 4,.m 2 5] .ret))
def r_cmp_isNaN_int:Pk Tryz.prog 195=some ⟨6,zbh.r,[.tmp 2]⟩:=Aa
def zbj:LC:=(.q [.K 2 0] (.seq (.cond .F (.q [.m 3 0,.z 4 (.cvInt .u32 (.t 3)),.w 5 187 4,.m 2 5] .ret) .skip) (.q [.m 6 0,.w 7 188 6,.m 2 7] .ret)))
def r_math_bits_Len:Pk Tryz.prog 163=some ⟨8,zbj.r,[.tmp 2]⟩:=Aa
def z28:LC:=(.q [.K 2 0] (.seq (.q [.m 3 0,.u 4 .geq 23 3 4294967296] (.cond (.t 4) (.q [.m 5 0,.u 6 .shr 23 5 32,.m 0 6] (.ops [.K 2 32])) .skip)) (.seq (.q [.m 7 0,.u 8 .geq 23 7 65536] (.cond (.t 8) (.q [.m 9 0,.u 10 .shr 23 9 16,.m 0 10] (.ops [.m 11 2,.b 12 .add 3 11 16,.m 2 12])) .skip)) (.seq (.q [.m 13 0,.u 14 .geq 23 13 256] (.cond (.t 14) (.q [.m 15 0,.u 16 .shr 23 15 8,.m 0 16] (.ops [.m 17 2,.b 18 .add 3 17 8,.m 2 18])) .skip)) (.q [.m 19 2,.m 20 0,.z 21 (.cvInt .u8 (.t 20)),.z 22 (.ixStr (.c (.str [0,1,2,2,3,3,3,3,4,4,4,4,4,4,4,4,5,5,5,5,5,5,5,5,5,5,5,5,5,5,5,5,6,6,6,6,6,6,6,6,6,6,6,6,6,6,6,6,6,6,6,6,6,6,6,6,6,6,6,6,6,6,6,6,7,7,7,7,7,7,7,7,7,7,7,7,7,7,7,7,7,7,7,7,7,7,7,7,7,7,7,7,7,7,7,7,7,7,7,7,7,7,7,7,7,7,7,7,7,7,7,7,7,7,7,7,7,7,7,7,7,7,7,7,7,7,7,7,8,8,8,8,8,8,8,8,8,8,8,8,8,8,8,8,8,8,8,8,8,8,8,8,8,8,8,8,8,8,8,8,8,8,8,8,8,8,8,8,8,8,8,8,8,8,8,8,8,8,8,8,8,8,8,8,8,8,8,8,8,8,8,8,8,8,8,8,8,8,8,8,8,8,8,8,8,8,8,8,8,8,8,8,8,8,8,8,8,8,8,8,8,8,8,8,8,8,8,8,8,8,8,8,8,8,8,8,8,8,8,8,8,8,8,8,8,8,8,8,8,8,8,8,8,8,8,8])) (.t 21)),.z 23 (.cvInt .i64 (.t 22)),.c 24 .add 3 19 23,.m 2 24] .ret)))))
def r_math_bits_Len64:Pk Tryz.prog 188=some ⟨25,z28.r,[.tmp 2]⟩:=Aa
def vt(a:Int):Pl 195 [.i a] (.bool false) []:=by
 refine P4.val rfl (Pj r_cmp_isNaN_int Aa N ?_);simp[zbh]
def Less_ok(a b:Int):Pl 184 [.i a,.i b] (.bool (decide (a<b))) []:=by
 refine P4.val rfl (Pj r_cmp_Less_int Aa N ?_);simp[zdj];refine Pr (vt a) N ?_;simp
def zzo(l:List Int)(hl:l.length≤1000)(V:Pd)(p k st:Nat)(hp:V[p]?=some (.dyn (l.map .i) l.length 1 k st))(gI:LV→Pd→Prop)
  (hK:∀g j,g.length=l.length→(∀x,x∈g↔x∈l)→sTo g l.length→gI (.tup []) (V.set p (.dyn (g.map .i) l.length 1 k j))) :
  Ql (.fn 178) [.dy p k,.i 0,.i l.length] V gI:=by
 refine Pj r_slices_insertionSortOrdered_int Aa (by simp) ?_;simp[z2j];have X:p<V.length:=(Jy.1 hp).1;have F:V=V.set p (.dyn (l.map .i) l.length 1 k st):=by
  have:=(Jy.1 hp).2;rw[←this,List.set_getElem_self]
 have G:∀x,(V.set p x)[p]?=some x:=λx=>by simp[X]
 refine Qt (λK gg L N=>∃(i:Nat) (g:List Int) (j:Nat),gg=[]∧L=V.set p (.dyn (g.map .i) l.length 1 k j)∧N+i=l.length+1∧1≤i∧lk K 0=.dy p k∧lk K 1=.i 0∧lk K 2=.i l.length∧lk K 6=.i i∧g.length=l.length∧(∀x,x∈g↔x∈l)∧sTo g i)
  (N:=l.length) ⟨1,l,st,rfl,F,J,J,by simp,by simp,by simp,by simp,rfl,λ_=>Iff.rfl,λu v D E=>J⟩ ?_
 rintro N K gg L ⟨i,g,j,rfl,rfl,hN,gF,C,D,E,H,z,A,M⟩ Nx Y;by_cases hi:l.length≤i
 ·have gG:¬i<l.length:=J
  simp[E,H,gG];exact hK g j z A λu v Z hv=>M u v Z J
 ·have gG:i<l.length:=J
  simp[E,H,gG];refine Qt (λK gg L N=>∃(gD:Nat) (g:List Int) (j:Nat),gg=[]∧L=V.set p (.dyn (g.map .i) l.length 1 k j)∧N=gD∧gD≤i∧lk K 0=.dy p k∧lk K 1=.i 0∧lk K 2=.i l.length∧lk K 6=.i i∧lk K 7=.i gD∧g.length=l.length∧(∀x,x∈g↔x∈l)∧tn g i gD)
   (N:=i) ⟨i,g,j,rfl,rfl,rfl,J8 _,Af,At,Ax,A1,by simp,z,A,zzn M⟩ ?_
  rintro B K gg L ⟨gD,g,j,rfl,rfl,rfl,O,C,D,E,H,P,z,A,M⟩ gH Q;have R:∀I,lk I 0=.dy p k→lk I 1=.i 0→lk I 2=.i l.length→lk I 6=.i (i+1)→(B=0∨gd g (B-1)≤gd g B)→Nx I [] (V.set p (.dyn (g.map .i) l.length 1 k j)):=λI f0 f1 f2 f6 h =>
   Y _ _ _ ⟨N-1,J,i+1,g,j,rfl,rfl,J,J,f0,f1,f2,by simp[f6],z,A,oq O M h⟩
  by_cases hj:B=0
  ·have T:¬0<B:=J
   simp[D,P,H,T];exact⟨J,R _ Af At Ax (by simp) (.inl hj)⟩
  ·have T:0<B:=J
   have hc:=W4 (f:=LV.i) (Xl (l:=g) (u:=B) J);have U:=W4 (f:=LV.i) (Xl (l:=g) (u:=B-1) J);have e1:((B:Int)-1).toNat=B-1:=J
   have g1:B<l.length:=J
   have g2:(1:Int)≤B:=J
   have g3:(B:Int)-1<l.length:=J
   simp[C,D,P,T,G,g1];simp[Pe hc,C,P,G,e1,g2];refine⟨J,J,?_⟩;simp[Pe U];refine Pr (Less_ok (gd g B) (gd g (B-1))) (by simp) ?_;by_cases hb:gd g B<gd g (B-1)
   ·simp[hb,C,P];refine⟨J,?_⟩;simp[G,g2,g3,Pe U,Pe hc,g1,C,P,e1];refine⟨J,?_⟩;rw[zt1 g B _ J,zt1 _ (B-1) _ Ab];have e2:((B-1:Nat):Int)=B-1:=J
    refine⟨Ab,J,Q _ _ _ ⟨B-1,J,B-1,swp g B,_,rfl,rfl,rfl,J,Af,At,Ax,A1,by simp[e2],by rw[zmd,z],λx=>by rw[swp_mem T J,A],swp_but T O J M hb⟩⟩
   ·simp[hb,H];exact⟨J,R _ Af At Ax (by simp) (.inr J)⟩
def ul(n:Nat)(h:n≤4):Pl 188 [.u (UInt64.ofNat n)] (.i ([0,1,2,2,3].getD n 0)) []:=by
 refine P4.val rfl (Pj r_math_bits_Len64 Aa N ?_)
 match n,h with
 |0,_ =>
  simp[z28];simp[show (uB 0).toNat=0 from Gp]
 |1,_ =>
  simp[z28];simp[show (uB 1).toNat=1 from Gp]
 |2,_ =>
  simp[z28];simp[show (uB 2).toNat=2 from Gp]
 |3,_ =>
  simp[z28];simp[show (uB 3).toNat=3 from Gp]
 |4,_ =>
  simp[z28];simp[show (uB 4).toNat=4 from Gp]
def Len_ok(n:Nat)(h:n≤4):Pl 163 [.u (UInt64.ofNat n)] (.i ([0,1,2,2,3].getD n 0)) []:=by
 refine P4.val rfl (Pj r_math_bits_Len Aa N ?_);simp[zbj];refine Pr (ul n h) N ?_;simp
def pdq_ok(l:List Int)(x:Int)(P:l.length≤4)(A:Pd)(p k st:Nat)(C:A[p]?=some (.dyn (l.map .i) l.length 1 k st))(M:LV→Pd→Prop)
  (D:∀j g,j.length=l.length→(∀x,x∈j↔x∈l)→sTo j l.length→M (.tup []) (A.set p (.dyn (j.map .i) l.length 1 k g))) :
  Ql (.fn 162) [.dy p k,.i 0,.i l.length,.i x] A M:=by
 refine Pj r_slices_pdqsortOrdered_int Aa (by simp) ?_;simp[z3t];refine Qt (λB O z Q=>O=[]∧z=A∧lk B 0=.dy p k∧lk B 1=.i 0∧lk B 2=.i l.length) (N:=0) (by simp) ?_;rintro Q B O z ⟨rfl,rfl,E,F,G⟩ R H;have T:(l.length:Int)≤12:=J
 simp[E,F,G,T];refine⟨J,zzo l J z p k st C _ λj g I K L=>?_⟩;simp;exact D j g I K L
def iU_of{n:Nat}(h:n≤4):iU (n:Int)=UInt64.ofNat n:=Le.1 (by rw[Zr J,UInt64.toNat_ofNat_of_lt' (by simp[UInt64.size];omega)])
def Sort_ok(l:List Int)(z:l.length≤4)(B:Pd)(p k st:Nat)(A:B[p]?=some (.dyn (l.map .i) l.length 1 k st))(G:LV→Pd→Prop)
  (C:∀j g,j.length=l.length→(∀x,x∈j↔x∈l)→sTo j l.length→G (.tup []) (B.set p (.dyn (j.map .i) l.length 1 k g))) :
  Ql (.fn 143) [.dy p k] B G:=by
 refine Pj r_slices_Sort_int_int Aa N ?_;simp[z6z,A];rw[iU_of z];refine Pr (Len_ok l.length z) N ?_;simp;refine pdq_ok l _ z B p k st A _ λj g D E F=>?_
 simp;exact C j g D E F
section
def z5r:LC:=(.q [.x 5 0] (.seq (.q [.m 10 4,.f 11 0 5,.f 12 2 11,.l 13 12,.c 14 .lss 3 10 13] (.cond (.t 14) (.q [.m 15 1,.m 16 2,.f 17 0 5,.L 18 3 17,.m 19 3,.m 20 4,.z 21 (.w 108 [.t 15,.t 16,.t 18,.t 19,.t 20])] .ret) .skip)) (.ops [.m 22 1,.m 23 2,.f 24 3 5,.l 25 24,.V 26 117 22 23 25])))
def r_expand_row_limb:Pk Tryz.prog 101=some ⟨27,z5r.r,[]⟩:=Aa
def z8b:LC:=(.q [.x 3 1,.z 4 (.alloc [(.i 0),(.i 0),(.i 0),(.i 0)])] (.seq (.draw [(.L 5 3 3,[]),(.m 6 0,[]),(.N 7 6,[]),(.f 8 1 7,[]),(.l 9 8,[]),(.z 10 (.build [(.i 0),(.i 0),(.i 0),(.i 0)] [(0,3,.t 5),(3,1,.t 9)]),[]),(.S 4 4 10,[])]) .ret))
def r_expand_coder_row:Pk Tryz.prog 100=some ⟨11,z8b.r,[.cellN 4 4]⟩:=Aa
def z79:LC:=(.q [.x 6 2] (.q [.m 13 1,.z 14 (.buildSl 1 2 [(.i 0),(.i 0)] [(0,1,.k 0),(1,1,.t 13)]),.m 8 14] (.seq (.q [.m 15 3,.s 16 15,.K 17 0] (.block 0 (.loop (.q [.c 18 .lss 3 17 16] (.seq (.cond (.t 18) .skip (.exit 0)) (.seq (.block 1 (.q [.I 19 4 15 17,.L 20 4 19,.z 10 (.alloc [(.i 0),(.i 0),(.i 0),(.i 0)]),.S 4 10 20] (.ops [.m 21 8,.f 22 0 10,.f 23 2 22,.l 24 23,.m 25 1,.z 26 (.maxi false (.t 24) (.t 25)),.z 27 (.buildSl 1 1 [(.i 0)] [(0,1,.t 26)]),.a 28 1 21 27,.m 8 28]))) (.ops [.b 29 .add 3 17 1,.m 17 29]))))))) (.q [.m 30 8,.w 31 143 30] (.q [.m 32 8,.m 33 8,.s 34 33,.b 35 .sub 3 34 1,.z 36 (.slSl 1 (.t 32) none (some (.t 35))),.s 37 36,.K 38 0] (.block 2 (.loop (.q [.c 39 .lss 3 38 37] (.seq (.cond (.t 39) .skip (.exit 2)) (.seq (.block 3 (.q [.m 40 38,.I 41 1 36 38,.l 42 41,.z 12 (.alloc [(.i 0)]),.m 11 40,.S 1 12 42] (.draw [(.m 43 0,[]),(.m 44 8,[]),(.m 45 11,[]),(.b 46 .add 3 45 1,[]),(.I 47 1 44 46,[]),(.l 48 47,[]),(.l 49 12,[]),(.c 50 .sub 3 48 49,[]),(.z 51 (.mkFunc 144 [] [.t 6,.t 12]),[]),(.V 52 106 43 50 51,[])]))) (.ops [.b 53 .add 3 38 1,.m 38 53])))))))))))
def r_expand_Emit_ranges:Pk Tryz.prog 102=some ⟨54,z79.r,[]⟩:=Aa
def z5k:LC:=(.ops [.l 4 1,.m 5 0,.l 6 2,.z 7 (.callV (.t 4) [.t 5,.t 6])])
def r_expand_Emit_ranges_1:Pk Tryz.prog 144=some ⟨8,z5k.r,[]⟩:=Aa
def Px(e:Nat)(R:Int)(d d2 a b c w:Pc):List LV :=
 [.ptr e 0,.i R,.i (R+1),.i (R+2),.i (R+3),.i (R+4),.i (R+5),.i (R+6),.i (R+7),.i (R+8),.i (R+9),.i (R+10),.i (R+11),
  .i d.buf,.i d.at_,.i d.size,.i d2.buf,.i d2.at_,.i d2.size,.i a.buf,.i a.at_,.i a.size,.i b.buf,.i b.at_,.i b.size,.i c.buf,.i c.at_,.i c.size,.i w.buf,.i w.at_,.i w.size]
def Xk(p:Pc)(R:Int):List LV:=[.i p.buf,.i p.at_,.i p.size,.i R]
section put
variable {G : Pd} {K : LV → Pd → Prop} {e P st : Nat} {ops : List Lo} {deep R : Int} {d d2 a b c w p : Pc}
def Sg{G1:Pd}(h:P5 G e ops deep)(ho:∀x,x<G.length→G1[x]?=G[x]?)(A:G.length≤G1.length):P5 G1 e ops deep∧Kp e G G1:=by
 obtain⟨B,C,g,j⟩:=id h;have D:e<G.length:=(Jy.1 g).1;exact⟨⟨B,C,(ho e D).trans g,j.keep λq H E=>ho q (j.lt E).2⟩,A,λq F _ _ z=>(ho q (Jy.1 z).1).trans z⟩
def zfx(g:G[P]?=some (.cells (Px e R d d2 a b c w) st))(k:∀j,(∀x,x<G.length→j[x]?=G[x]?)→G.length≤j.length→K (.agg (Xk p R)) j):Ql (.fn 100) [.ptr P 0,.agg p.f] G K:=by
 refine Pj r_expand_coder_row Aa N ?_;have z:=(Jy.1 g).1;unfold Px at g;simp[z8b,Pc.f,↓Ph z,g];exact k _ (λx A=>J4 A) N
def zns{x i:Int}(E:-1000000000≤p.at_+z∧p.at_+z≤1000000000)(h:P5 G e ops deep)(C:ops.length≤1000000)(k:∀g,P5 g e (ops++[Ty p R x i z]) deep→Kp e G g→K (.tup []) g) :
  Ql (.fn 101) [.agg (Xk p R),.ptr e 0,.i x,.i i,.i z] G K:=by
 refine Pj r_expand_row_limb Aa N ?_;unfold Ty at k;by_cases D:z<p.size
 ·rw[J6 D]at k;simp[z5r,Xk,D];refine mq (p:=p) E (h.app _) C λj A B=>?_
  simp;exact k j A ((Kp.app' _ _ _).trans B)
 ·rw[J1 D]at k;simp[z5r,Xk,D];refine znd (h.app _) C λj A B=>?_
  simp;exact k j A ((Kp.app' _ _ _).trans B)
def zse{f y:Nat}{cap:List LV}{D:Int}(C:G[g]?=some (.cells [.fn (.func f) [] cap] j))(E:G[y]?=some (.cells [.i z] A))
  (F:Ql (.fn f) (.i D::.i z::cap) G λ_ B=>K (.tup []) B):Ql (.fn 144) [.i D,.ptr g 0,.ptr y 0] G K:=by
 refine Pj r_expand_Emit_ranges_1 Aa N ?_;simp[z5k,C,E];refine F.mono λv B h=>?_
 simpa using h
def zuk{D:Int}{body:Int→List Lo}:∀(l:List Int) (x y:Int),(Qc D body (l++[x,y])).flat=(Qc D body (l++[x])).flat++(Ri D (y-x) (P0 (body x))).flat
 |[],x,y=>by simp[Qc,Fr.cat,R4,Fr.flat]
 |[a],x,y=>by
  show (Qc D body [a,x,y]).flat=(Qc D body [a,x]).flat++_;simp[Qc,R4,Fr.flat]
 |a::g::l,x,y=>by
  have j:=zuk (D:=D) (body:=body) (g::l) x y;show ((Ri D (g-a) (P0 (body a))).cat (Qc D body (g::l++[x,y]))).flat=((Ri D (g-a) (P0 (body a))).cat (Qc D body (g::l++[x]))).flat++_;rw[R4,j,R4,K0]
def rwC(R:Int)(rs:List Pc):List LV:=rs.flatMap λp=>Xk p R
def zmg{n:Int}{f q:Nat}{cap:List LV}{body:Int→List Lo}{rs:List Pc}{L:List Int}(hd:0≤deep∧deep≤50)(hn:0≤n∧n≤1000000)(hr:rs.length≤2)(gG:∀p∈rs,0≤p.size∧p.size≤1000000)(hL:L.Pairwise (·≤·))(hm:∀x,x∈[0,n]++rs.map (λp=>min p.size n)↔x∈L)(hb:∀x,(body x).length≤100)
  (hq:G[q]?=some (.dyn (rwC R rs) rs.length 4 0 g)) (h:P5 G e ops deep) (hl:ops.length≤800000)
  (gH:∀(G1:Pd) (H:List Lo) (O:Int) (K':LV→Pd→Prop),P5 G1 e H (deep+1)→Kp e G G1→H.length≤900010→0≤O∧O≤1000000→(∀G2,P5 G2 e (H++body O) (deep+1)→Kp e G1 G2→K' (.tup []) G2)→Ql (.fn f) (.i deep::.i O::cap) G1 K')
  (k:∀G',P5 G' e (ops++(Qc deep body L).flat) deep→Kp e G G'→K (.tup []) G') :
  Ql (.fn 102) [.ptr e 0,.i n,.fn (.func f) [] cap,.dy q 0] G K:=by
 refine Pj r_expand_Emit_ranges Aa (by simp) ?_;have lq:=(Jy.1 hq).1;have le:e<G.length:=Ah
 simp[z79,↓Ph lq,hq];refine Qt (λρ D G1 N=>∃(i:Nat) (v:LV),D=[]∧N+i=rs.length∧lk ρ 0=.ptr e 0∧lk ρ 1=.i n∧lk ρ 6=.ptr G.length 0∧lk ρ 8=v∧lk ρ 15=.dy q 0∧lk ρ 16=.i rs.length∧lk ρ 17=.i i∧G.length+1≤G1.length∧(∀x,x<G.length→G1[x]?=G[x]?)∧G1[G.length]?=some (.cells [.fn (.func f) [] cap] 0)∧R5 (G.length+1) G1 v 1 (2+i) (([0,n]++(rs.take i).map λp=>min p.size n).map .i)) (N:=rs.length)
  ⟨0,.dy (G.length+1) 0,rfl,rfl,by simp,by simp,by simp,by simp,by simp,by simp,by simp,by simp,λx z=>J4 z,by simp,rfl,by simp,.inr ⟨G.length+1,0,0,J8 _,rfl,by simp⟩⟩ ?_
 rintro N ρ D G1 ⟨i,v,rfl,hN,h0,h1,h6,Y,gg,Q,T,gl,go,gz,hD⟩ Nx U;by_cases gZ:i<rs.length
 ·have hg:=J7 gZ;have q4:=zaf (f:=λp=>Xk p R) (k:=4) (λ_=>rfl) hg;have l4:=zqu (f:=λp=>Xk p R) (k:=4) (λ_=>rfl) gZ;have gI:rs[i]∈rs:=Mm gZ;have jg:rs.take (i+1)=rs.take i++[rs[i]]:=K9 gZ;generalize rs[i]=p at *;have jz:G1[q]?=_:=(go q lq).trans hq;have jA:((rwC R rs).drop (i*4)).take 4=Xk p R:=q4;have jB:i*4+4≤(rwC R rs).length:=l4;have hp:=gG p gI;simp[h0,h1,h6,Y,gg,Q,T,gZ,jz,jA,jB,Xk];refine R5.push2 (c:=1) (x:=[LV.i (min p.size n)]) hD.push_end J Ab J rfl rfl λv' G2 jC jD jE _ _=>?_
  simp[T];have nv:∀x,x<G.length+1→∀E,v≠.dy x E:=λx z E e=>Gr
  have ff:∀x,x<G.length+1→G2[x]?=G1[x]?:=λx z=>by
   rw[jD x Ab (nv x z)];exact J4 J
  simp at jE;refine⟨J,U _ _ _ ⟨N-1,J,i+1,v',rfl,J,by simp[h0],by simp[h1],by simp[h6],by simp,B1,Em,by simp,J,λx z=>(ff x J).trans (go x z),(ff _ J).trans gz,?_⟩⟩;rw[jg,(J:2+(i+1)=2+i+1)];simpa using jC
 have gi:i=rs.length:=J
 subst gi;rw[Mw]at hD;obtain⟨gK,hE⟩:∃gK,[0,n]++rs.map (λp=>min p.size n)=gK:=⟨_,rfl⟩;rw[hE]at hD hm;have jF:gK.length=2+rs.length:=by rw[←hE];simp;omega
 have jG:∀x∈gK,0≤x∧x≤1000000:=by
  rw[←hE];intro x z;rcases Kx.1 z with z|z
  ·simp at z;omega
  ·obtain⟨p,hp,rfl⟩:=N0.1 z;have:=gG p hp;omega
 clear U hE;obtain⟨_,_,⟨_,hz,_⟩|⟨F,M,se,jO,rfl,V⟩⟩:=hD
 ·omega
 rw[←jF]at V;simp[Y,Q,T];refine Sort_ok gK J _ F M se V _ λj s1 e1 e2 e3=>?_
 have gL:=(Jy.1 V).1;have X:(G1.set F (.dyn (j.map .i) gK.length 1 M s1))[F]?=some (.dyn (j.map .i) gK.length 1 M s1):=J3 gL;have gM:(G1.set F (.dyn (j.map .i) gK.length 1 M s1))[G.length]?=_:=(Jz J).trans gz;have gO:∀x,x<G.length→(G1.set F (.dyn (j.map .i) gK.length 1 M s1))[x]?=G[x]?:=λx z=>(Jz J).trans (go x z)
 have jH:G.length+1≤(G1.set F (.dyn (j.map .i) gK.length 1 M s1)).length:=by simpa using gl
 generalize G1.set F (.dyn (j.map .i) gK.length 1 M s1)=G2 at *;clear gz go gl V gL;obtain⟨C,A⟩:=Sg h gO J;have Z:∀x∈j,0≤x∧x≤1000000:=λx z=>jG x ((e2 x).1 z)
 rw[←e1]at X;obtain⟨gY,hM⟩:∃gY,rs.length+1=gY:=⟨_,rfl⟩;have gR:j.length=gY+1:=J
 rw[gR]at X;rw[←seg_eq (D:=deep) (body:=body) (l:=j) (by rw[e1];exact e3) hL λx=>(e2 x).trans (hm x)]at k;simp[Y,X];refine⟨J,?_⟩;refine Qt (λρ D I N=>∃(E:Nat),D=[]∧N+E=gY∧lk ρ 0=.ptr e 0∧lk ρ 6=.ptr G.length 0∧lk ρ 8=.dy F M∧lk ρ 36=.vw F M 0 gY∧lk ρ 37=.i gY∧lk ρ 38=.i E∧I[G.length]?=some (.cells [.fn (.func f) [] cap] 0)∧I[F]?=some (.dyn (j.map .i) (gY+1) 1 M s1)∧P5 I e (ops++(Qc deep body (j.take (E+1))).flat) deep∧Kp e G I) (N:=gY)
  ⟨0,rfl,rfl,by simp[h0],by simp[h6],Gh,by simp,by simp,by simp,gM,X,?_,A⟩ ?_
 ·have:(Qc deep body (j.take (0+1))).flat=[]:=by
   cases j with
   |nil=>rfl
   |cons x l=>rfl
  rw[this,Ls];exact C
 clear h0 h1 h6 Y gg Q T gM X C A gO jH;rintro N ρ D I ⟨E,rfl,hN,h0,h6,Y,gT,gD,gF,gz,X,C,A⟩ Nx U;by_cases gZ:E<gY
 ·have z:=Xl (l:=j) (u:=E) J;have hy:=Xl (l:=j) (u:=E+1) J;have mx:=Z _ (Kj z);have my:=Z _ (Kj hy);have t1:j.take (E+1)=j.take E++[gd j E]:=by rw[List.take_add_one,z];rfl
  have t2:j.take (E+2)=j.take E++[gd j E,gd j (E+1)]:=by rw[List.take_add_one,hy,Option.toList,t1];simp
  have jI:=W4 (f:=LV.i) z;have jK:=W4 (f:=LV.i) hy;generalize gd j E=x at *;generalize gd j (E+1)=y at *;have lz:=(Jy.1 gz).1;have lp:=(Jy.1 X).1;have g1:∀ob:List LObj,(I++ob)[F]?=_:=λob=>(Ph lp).trans X
  have g2:∀ob:List LObj,(I++ob)[G.length]?=_:=λob=>(Ph lz).trans gz
  have jM:(Qc deep body (j.take (E+1))).flat.length≤2000:=by
   have:=zn8 (D:=deep) hb (j.take (E+1));have h2:(j.take (E+1)).length≤4:=Ab
   have h3:=Kq (100+2) h2;omega
  simp[h0,h6,Y,gT,gD,gF,gZ,X,↓g1,Pe jI,Pe jK,gR];refine⟨J,J,J,?_⟩;have gU:G.length≠e:=J
  have jP:e<I.length:=by have:=A.1;omega
  have jL:I.length≠e:=J
  refine z9h (fst:=[]) (cap:=[.ptr G.length 0,.ptr I.length 0]) (B:=P0 (body x)) J (C.app _) Ab (by rw[flat_frL];have:=hb x;omega) (λG4 gV K' h4 k4 l4 hk=>?_) λG4 h4 k4=>?_
  ·refine zse (k4.cells gU (g2 _)) (k4.cells jL Kg) ?_;refine gH G4 gV x _ h4 (A.trans ((Kp.app' _ _ _).trans k4)) J mx λG5 h5 k5=>?_
   exact hk G5 (by rw[flat_frL];exact h5) k5
  ·simp[gF];refine⟨J,U _ _ _ ⟨N-1,J,E+1,rfl,J,by simp[h0],by simp[h6],Gh,by simp[gT],by simp[gD],by simp,k4.cells gU (g2 _),k4.2 F _ J (λ_ _ _ _ q=>Hm) (g1 _),?_,A.trans ((Kp.app' _ _ _).trans k4)⟩⟩;rw[(J:E+1+1=E+2),t2,zuk,←t1,←K0];exact h4
 ·have gi:E=gY:=J
  subst gi;rw[Kk J]at C;simp[gD,gF];exact k I C A
end put
end
section
def z7g:LC:=(.q [.x 7 0,.x 8 1,.x 9 2,.x 10 3,.x 11 4,.x 13 6] (.seq (.draw [(.l 16 7,[]),(.L 17 3 10,[]),(.l 20 7,[]),(.L 21 3 11,[]),(.z 14 (.alloc [.nilFn]),[(.L 21 3 11,false),(.l 20 7,false),(.L 17 3 10,false),(.l 16 7,false)]),(.z 15 (.alloc [.nilFn]),[(.z 14 (.alloc [.nilFn]),true),(.L 21 3 11,false),(.l 20 7,false),(.L 17 3 10,false),(.l 16 7,false)]),(.W 18 100 16 17,[(.z 15 (.alloc [.nilFn]),true),(.z 14 (.alloc [.nilFn]),true),(.L 21 3 11,false),(.l 20 7,false)]),(.z 19 (.mkFunc 101 [.t 18] []),[]),(.W 22 100 20 21,[(.z 15 (.alloc [.nilFn]),true),(.z 14 (.alloc [.nilFn]),true)]),(.z 23 (.mkFunc 101 [.t 22] []),[]),(.S 1 14 19,[]),(.S 1 15 23,[])]) (.seq (.draw [(.l 24 7,[]),(.N 25 24,[]),(.f 26 0 25,[]),(.l 27 26,[]),(.l 28 7,[]),(.N 29 28,[]),(.f 30 2 29,[]),(.l 31 30,[]),(.z 32 (.w 59 [.t 27,.t 31,.c (.u 0)]),[])]) (.draw [(.l 33 7,[]),(.N 34 33,[]),(.f 35 0 34,[]),(.l 36 35,[]),(.m 37 5,[]),(.z 38 (.mkFunc 104 [] [.t 14,.t 7,.t 15,.t 8,.t 13,.t 9]),[]),(.l 39 7,[]),(.L 40 3 10,[]),(.l 42 7,[]),(.L 43 3 11,[]),(.W 41 100 39 40,[(.L 43 3 11,false),(.l 42 7,false),(.l 36 35,false),(.l 33 7,false)]),(.W 44 100 42 43,[(.l 36 35,false),(.l 33 7,false)]),(.z 45 (.buildSl 4 2 [(.i 0),(.i 0),(.i 0),(.i 0),(.i 0),(.i 0),(.i 0),(.i 0)] [(0,4,.t 41),(4,4,.t 44)]),[(.l 36 35,false),(.l 33 7,false)]),(.z 46 (.w 102 [.t 36,.t 37,.t 38,.t 45]),[])]))))
def r_expand_coder_chain:Pk Tryz.prog 62=some ⟨47,z7g.r,[]⟩:=Aa
def z5n:LC:=(.seq (.draw [(.l 10 2,[]),(.l 11 3,[]),(.N 12 11,[]),(.f 13 0 12,[]),(.l 14 13,[]),(.l 15 3,[]),(.N 16 15,[]),(.f 17 3 16,[]),(.z 18 (.ixAddrArr 10 1 (.t 17) (.k 0)),[]),(.l 19 18,[]),(.m 20 0,[]),(.m 21 1,[]),(.z 22 (.callV (.t 10) [.t 14,.t 19,.t 20,.t 21]),[])]) (.seq (.draw [(.l 23 4,[]),(.l 24 3,[]),(.N 25 24,[]),(.f 26 0 25,[]),(.l 27 26,[]),(.l 28 3,[]),(.N 29 28,[]),(.f 30 3 29,[]),(.z 31 (.ixAddrArr 10 1 (.t 30) (.k 1)),[]),(.l 32 31,[]),(.m 33 0,[]),(.m 34 1,[]),(.z 35 (.callV (.t 23) [.t 27,.t 32,.t 33,.t 34]),[])]) (.seq (.draw [(.l 36 3,[]),(.N 37 36,[]),(.f 38 0 37,[]),(.l 39 38,[]),(.l 40 5,[]),(.l 41 3,[]),(.N 42 41,[]),(.f 43 3 42,[]),(.z 44 (.ixAddrArr 10 1 (.t 43) (.k 2)),[]),(.l 45 44,[]),(.l 46 3,[]),(.N 47 46,[]),(.f 48 2 47,[]),(.l 49 48,[]),(.l 50 3,[]),(.N 51 50,[]),(.f 52 3 51,[]),(.z 53 (.ixAddrArr 10 1 (.t 52) (.k 0)),[]),(.l 54 53,[]),(.l 55 3,[]),(.N 56 55,[]),(.f 57 3 56,[]),(.z 58 (.ixAddrArr 10 1 (.t 57) (.k 1)),[]),(.l 59 58,[]),(.l 60 3,[]),(.N 61 60,[]),(.f 62 2 61,[]),(.l 63 62,[]),(.z 64 (.w 105 [.t 39,.t 40,.t 45,.t 49,.t 54,.t 59,.t 63]),[])]) (.q [.l 65 6] (.cond (.t 65) (.draw [(.l 66 3,[]),(.N 67 66,[]),(.f 68 0 67,[]),(.l 69 68,[]),(.L 70 3 7,[]),(.m 71 0,[]),(.m 72 1,[]),(.l 73 3,[]),(.N 74 73,[]),(.f 75 3 74,[]),(.z 76 (.ixAddrArr 10 1 (.t 75) (.k 2)),[]),(.l 77 76,[]),(.z 78 (.w 98 [.t 69,.t 70,.t 71,.t 72,.t 77]),[])]) .skip)))))
def r_expand_coder_chain_1:Pk Tryz.prog 104=some ⟨79,z5n.r,[]⟩:=Aa
def z6w:LC:=(.q [.x 3 0,.x 4 1,.x 5 2] (.q [.l 7 3,.L 8 3 5,.W 9 100 7 8,.z 10 (.mkFunc 101 [.t 9] []),.z 6 (.alloc [.nilFn]),.S 1 6 10] (.draw [(.l 11 3,[]),(.N 12 11,[]),(.f 13 0 12,[]),(.l 14 13,[]),(.f 15 2 4,[]),(.l 16 15,[]),(.z 17 (.mkFunc 103 [] [.t 6,.t 3,.t 4]),[]),(.l 18 3,[]),(.L 19 3 5,[]),(.W 20 100 18 19,[(.l 16 15,false),(.l 14 13,false),(.l 11 3,false)]),(.z 21 (.buildSl 4 1 [(.i 0),(.i 0),(.i 0),(.i 0)] [(0,4,.t 20)]),[(.l 16 15,false),(.l 14 13,false),(.l 11 3,false)]),(.z 22 (.w 102 [.t 14,.t 16,.t 17,.t 21]),[])])))
def r_expand_coder_copies:Pk Tryz.prog 61=some ⟨23,z6w.r,[]⟩:=Aa
def z5b:LC:=(.seq (.draw [(.l 7 2,[]),(.l 8 3,[]),(.N 9 8,[]),(.f 10 0 9,[]),(.l 11 10,[]),(.l 12 3,[]),(.N 13 12,[]),(.f 14 3 13,[]),(.z 15 (.ixAddrArr 10 1 (.t 14) (.k 0)),[]),(.l 16 15,[]),(.m 17 0,[]),(.m 18 1,[]),(.z 19 (.callV (.t 7) [.t 11,.t 16,.t 17,.t 18]),[])]) (.draw [(.l 20 3,[]),(.N 21 20,[]),(.f 22 0 21,[]),(.l 23 22,[]),(.L 24 3 4,[]),(.m 25 0,[]),(.m 26 1,[]),(.l 27 3,[]),(.N 28 27,[]),(.f 29 3 28,[]),(.z 30 (.ixAddrArr 10 1 (.t 29) (.k 0)),[]),(.l 31 30,[]),(.z 32 (.w 98 [.t 23,.t 24,.t 25,.t 26,.t 31]),[])]))
def r_expand_coder_copies_1:Pk Tryz.prog 103=some ⟨33,z5b.r,[]⟩:=Aa
section put
variable {G : Pd} {K : LV → Pd → Prop} {e P st : Nat} {ops : List Lo} {deep R : Int} {d d2 a b c w p q to : Pc}
def zsw(ho:0≤B∧B≤1000000)(hp:-1000000≤p.at_∧p.at_≤1000000)(ht:-1000000≤to.at_∧to.at_≤1000000)
  (Q:G[g]?=some (.cells [.fn (.func 101) [.agg (Xk p R)] []] D)) (O:G[j]?=some (.cells [.ptr P 0] U)) (T:j≠e) (V:G[A]?=some (.cells to.f vO)) (X:A≠e)
  (E:G[P]?=some (.cells (Px e R d d2 a b c w) st)) (H:P≠e) (h:P5 G e ops deep) (hl:ops.length≤900010) (k:∀I,P5 I e (ops++il to p R z B) deep→Kp e G I→K (.tup []) I) :
  Ql (.fn 103) [.i z,.i B,.ptr g 0,.ptr j 0,.ptr A 0] G K:=by
 refine Pj r_expand_coder_copies_1 Aa N ?_;have hQ:=E;unfold Px at E;simp[z5b,Q,O,E];refine zns (p:=p) J h J λG1 Y F=>?_
 have L:=F.cells T O;have C:=F.cells X V;have M:=F.cells H E;unfold Pc.f at C;simp[L,C,M];refine z4d (p:=to) J Y Ab λZ e2 k2=>?_
 simp;exact k Z (by simpa [il] using e2) (F.trans k2)
def za6(hd:0≤deep∧deep≤50)(hp:-1000000≤p.at_∧p.at_≤1000000)(F:0≤p.size∧p.size≤1000000)(ht:-1000000≤to.at_∧to.at_≤1000000)(H:0≤to.size∧to.size≤1000000)
  (hP:G[P]?=some (.cells (Px e R d d2 a b c w) st)) (I:P≠e) (h:P5 G e ops deep) (hl:ops.length≤800000) (k:∀Y,P5 Y e (ops++(Sd to p R deep).flat) deep→Kp e G Y→K (.tup []) Y) :
  Ql (.fn 61) [.ptr P 0,.agg to.f,.agg p.f] G K:=by
 refine Pj r_expand_coder_copies Aa N ?_;have hQ:=hP;have lP:=(Jy.1 hP).1;have le:e<G.length:=Ah
 obtain⟨A,g⟩:∃A,A=G++[LObj.cells [.ptr P 0] 0,LObj.cells [.i to.buf,.i to.at_,.i to.size] 0,LObj.cells [.i p.buf,.i p.at_,.i p.size] 0]:=⟨_,rfl⟩;have o0:∀x,x<G.length→A[x]?=G[x]?:=λx M=>by rw[g];exact J4 M
 have l0:A.length=G.length+3:=Ay
 have a1:A[G.length]?=some (.cells [.ptr P 0] 0):=Ay
 have a2:A[G.length+1]?=some (.cells [.i to.buf,.i to.at_,.i to.size] 0):=Ay
 have a3:A[G.length+2]?=some (.cells [.i p.buf,.i p.at_,.i p.size] 0):=Ay
 have aP:=(o0 P lP).trans hQ;obtain⟨e0,k0⟩:=Sg h o0 J;simp[z6w,Pc.f];rw[←g];refine zfx (p:=p) aP λO Q l1=>?_
 have b1:=(Q _ J).trans a1;have b2:=(Q _ J).trans a2;have b3:=(Q _ J).trans a3;have X:=(Q _ J).trans aP;obtain⟨e1,k1⟩:=Sg e0 Q J;have Z:=X;unfold Px at X;obtain⟨T,j⟩:∃T,T=O++[LObj.cells [.fn (.func 101) [.agg (Xk p R)] []] 1]:=⟨_,rfl⟩;have B:∀x,x<O.length→T[x]?=O[x]?:=λx M=>by rw[j];exact J4 M
 have l2:T.length=O.length+1:=by rw[j];simp
 have c1:=(B _ J).trans b1;have c2:=(B _ J).trans b2;have c3:=(B _ J).trans b3;have cP:=(B _ J).trans X;have cQ:=(B _ J).trans Z;have c4:T[O.length]?=some (.cells [.fn (.func 101) [.agg (Xk p R)] []] 1):=by rw[j];exact Kg
 obtain⟨e2,k2⟩:=Sg e1 B J;simp[b1,b2,b3,X]
 try rw[←j]
 simp[c1,c2,c3,cP];refine zfx (p:=p) cQ λU C l3=>?_
 obtain⟨V,z⟩:∃V,V=U++[LObj.dyn [.i p.buf,.i p.at_,.i p.size,.i R] 1 4 0 0]:=⟨_,rfl⟩;have D:∀x,x<U.length→V[x]?=U[x]?:=λx M=>by rw[z];exact J4 M
 have l4:V.length=U.length+1:=Da
 have f1:=(C _ J).trans c1;have f2:=(C _ J).trans c2;have fP:=(C _ J).trans cP;have g1:=(D _ J).trans f1;have g2:=(D _ J).trans f2;have g4:=(D _ J).trans ((C _ J).trans c4);have gP:=(D _ J).trans fP;have gQ:=(D _ J).trans ((C _ J).trans cQ);have g5:V[U.length]?=some (.dyn (rwC R [p]) [p].length 4 0 0):=by rw[z];exact Kg
 obtain⟨e3,k3⟩:=Sg e2 C J;obtain⟨e4,k4⟩:=Sg e3 D J;simp[Xk,c1,c2,c3,cP,f1,f2,fP]
 try rw[←z]
 simp[g1,g2,gP];refine zmg (rs:=[p]) (L:=bj to.size p.size) (body:=il to p R deep) hd H N (by simpa using F) (zwz H.1 F.1) (λx=>jl) (λx=>by simp[il]) g5 e4 hl (λG5 gg gD K' e5 E l5 ho hk=>?_) λG5 e5 E=>?_
 ·exact zsw (p:=p) (to:=to) ho hp ht (E.cells J g4) (E.cells J g1) J (E.cells J g2) J (E.cells I gQ) I e5 l5 hk
 ·simp;exact k G5 e5 (k0.trans (k1.trans (k2.trans (k3.trans (k4.trans E)))))
def zwp{s2 s3 s4 s5 s6:Nat}(ho:0≤X∧X≤1000000)(hp:-1000000≤p.at_∧p.at_≤1000000)(hq:-1000000≤q.at_∧q.at_≤1000000)(ht:-1000000≤to.at_∧to.at_≤1000000)
  (h1:G[g]?=some (.cells [.fn (.func 101) [.agg (Xk p R)] []] uR)) (h2:G[j]?=some (.cells [.ptr P 0] s2)) (Y:j≠e) (h3:G[A]?=some (.cells [.fn (.func 101) [.agg (Xk q R)] []] s3)) (n3:A≠e) (h4:G[D]?=some (.cells [.i z] s4)) (n4:D≠e) (h5:G[U]?=some (.cells [.bool M] s5)) (Z:U≠e) (h6:G[vO]?=some (.cells to.f s6)) (n6:vO≠e)
  (hP:G[P]?=some (.cells (Px e R d d2 a b c w) st)) (E:P≠e) (h:P5 G e ops deep) (hl:ops.length≤900010) (k:∀G',P5 G' e (ops++fj z to p q M R B X) deep→Kp e G G'→K (.tup []) G') :
  Ql (.fn 104) [.i B,.i X,.ptr g 0,.ptr j 0,.ptr A 0,.ptr D 0,.ptr U 0,.ptr vO 0] G K:=by
 refine Pj r_expand_coder_chain_1 Aa N ?_;unfold Px at hP;simp[z5n,h1,h2,hP];refine zns (p:=p) J h J λG1 e1 C=>?_
 have I:=C.cells Y h2;have gg:=C.cells n3 h3;have gD:=C.cells n4 h4;have gF:=C.cells Z h5;have gG:=C.cells n6 h6;have L:=C.cells E hP;simp[I,gg,L];refine zns (p:=q) J e1 Ab λG2 e2 F=>?_
 have O:=F.cells Y I;have gH:=F.cells n4 gD;have gI:=F.cells Z gF;have gK:=F.cells n6 gG;have Q:=F.cells E L;simp[O,gH,Q];refine zjv e2 Ab λG3 e3 H=>?_
 have gL:=H.cells Y O;have T:=H.cells Z gI;have V:=H.cells n6 gK;have gM:=H.cells E Q;cases M with
 |false =>
  simp[T];exact k G3 (by simpa [fj] using e3) (C.trans (F.trans H))
 |true =>
  unfold Pc.f at V;simp[T,gL,V,gM];refine z4d (p:=to) J e3 Ab λG4 e4 k4=>?_
  simp;exact k G4 (by simpa [fj] using e4) (C.trans (F.trans (H.trans k4)))
def ir{kd n:Int}{keep:Bool}(hd:0≤deep∧deep≤50)(hn:0≤n∧n≤1000000)(hp:-1000000≤p.at_∧p.at_≤1000000)(U:0≤p.size∧p.size≤1000000)(hq:-1000000≤q.at_∧q.at_≤1000000)(V:0≤q.size∧q.size≤1000000)(ht:-1000000≤to.at_∧to.at_≤1000000)
  (hP:G[P]?=some (.cells (Px e R d d2 a b c w) st)) (F:P≠e) (h:P5 G e ops deep) (hl:ops.length≤700000) (k:∀G',P5 G' e (ops++(R7 kd to p q n keep R deep).flat) deep→Kp e G G'→K (.tup []) G') :
  Ql (.fn 62) [.ptr P 0,.i kd,.agg to.f,.agg p.f,.agg q.f,.i n,.bool keep] G K:=by
 refine Pj r_expand_coder_chain Aa N ?_;have hQ:=hP;have lP:=(Jy.1 hP).1;have le:e<G.length:=Ah
 obtain⟨z,g⟩:∃z,z=G++[LObj.cells [.ptr P 0] 0,LObj.cells [.i kd] 0,LObj.cells [.i to.buf,.i to.at_,.i to.size] 0,LObj.cells [.i p.buf,.i p.at_,.i p.size] 0,LObj.cells [.i q.buf,.i q.at_,.i q.size] 0,LObj.cells [.bool keep] 0,LObj.cells [.nilFn] 0,LObj.cells [.nilFn] 0]:=⟨_,rfl⟩;have o0:∀x,x<G.length→z[x]?=G[x]?:=λx X=>by rw[g];exact J4 X
 have l0:z.length=G.length+8:=Ay
 have a0:z[G.length]?=some (.cells [.ptr P 0] 0):=Ay
 have a1:z[G.length+1]?=some (.cells [.i kd] 0):=Ay
 have a2:z[G.length+2]?=some (.cells [.i to.buf,.i to.at_,.i to.size] 0):=Ay
 have a3:z[G.length+3]?=some (.cells [.i p.buf,.i p.at_,.i p.size] 0):=Ay
 have a4:z[G.length+4]?=some (.cells [.i q.buf,.i q.at_,.i q.size] 0):=Ay
 have a5:z[G.length+5]?=some (.cells [.bool keep] 0):=Ay
 have a6:z[G.length+6]?=some (.cells [.nilFn] 0):=Ay
 have a7:z[G.length+7]?=some (.cells [.nilFn] 0):=Ay
 have aP:=(o0 P lP).trans hQ;obtain⟨e0,k0⟩:=Sg h o0 J;simp[z7g,Pc.f];rw[←g];refine zfx (p:=p) aP λG1 B l1=>?_
 have b0:=(B _ J).trans a0;have b1:=(B _ J).trans a1;have b2:=(B _ J).trans a2;have b3:=(B _ J).trans a3;have b4:=(B _ J).trans a4;have b5:=(B _ J).trans a5;have b6:=(B _ J).trans a6;have b7:=(B _ J).trans a7;have bP:=(B _ J).trans aP;obtain⟨e1,k1⟩:=Sg e0 B J;simp[a0,a4,a6,a7,b0,b4,b6,b7];refine zfx (p:=q) bP λG2 C l2=>?_
 have c0:=(C _ J).trans b0;have c1:=(C _ J).trans b1;have c2:=(C _ J).trans b2;have c3:=(C _ J).trans b3;have c4:=(C _ J).trans b4;have c5:=(C _ J).trans b5;have c6:=(C _ J).trans b6;have c7:=(C _ J).trans b7;have cP:=(C _ J).trans bP;obtain⟨e2,k2⟩:=Sg e1 C J;obtain⟨T,D⟩:∃T,T=(G2.set (G.length+6) (.cells [.fn (.func 101) [.agg (Xk p R)] []] 1)).set (G.length+7) (.cells [.fn (.func 101) [.agg (Xk q R)] []] 1):=⟨_,rfl⟩;have l3:T.length=G2.length:=by rw[D];simp
 have Q:∀x,x≠G.length+6→x≠G.length+7→T[x]?=G2[x]?:=λx h6 h7=>by rw[D,Jz (Ne.symm h7),Jz (Ne.symm h6)]
 have d0:=(Q _ J J).trans c0;have d1:=(Q _ J J).trans c1;have gF:=(Q _ J J).trans c2;have d3:=(Q _ J J).trans c3;have d4:=(Q _ J J).trans c4;have d5:=(Q _ J J).trans c5;have dP:=(Q _ J J).trans cP;have d7:T[G.length+7]?=some (.cells [.fn (.func 101) [.agg (Xk q R)] []] 1):=by rw[D];exact J3 Ab
 have d6:T[G.length+6]?=some (.cells [.fn (.func 101) [.agg (Xk p R)] []] 1):=by rw[D,Jz J];exact J3 J
 obtain⟨e3,k3⟩:=Sg (G1:=T) h (λx X=>(Q x J J).trans ((C x J).trans ((B x J).trans (o0 x X)))) J;have gG:=dP;unfold Px at dP;have m1:¬G.length+6=P:=J
 have m2:¬G.length+7=P:=J
 have gK:=cP;unfold Px at cP;simp[b6,b7,c0,c6,c7,cP,m1,m2]
 try rw[←D]
 refine z9d e3 J λG4 e4 A=>?_
 have j:∀gM,G.length+gM≠e:=λgM=>J
 have Y:=A.cells (j 0) d0;have f1:=A.cells (j 1) d1;have f2:=A.cells (j 2) gF;have f3:=A.cells (j 3) d3;have f4:=A.cells (j 4) d4;have f5:=A.cells (j 5) d5;have f6:=A.cells (j 6) d6;have f7:=A.cells (j 7) d7;have fQ:=A.cells F gG;have fP:=A.cells F dP;have l4:=A.1;rw[M6]at Y;simp[Y,f3,f4,fP];refine zfx (p:=p) fQ λG5 E l5=>?_
 have g0:=(E _ J).trans Y;have g1:=(E _ J).trans f1;have g2:=(E _ J).trans f2;have g4:=(E _ J).trans f4;have g5:=(E _ J).trans f5;have g6:=(E _ J).trans f6;have g7:=(E _ J).trans f7;have gQ:=(E _ J).trans fQ;have gP:=(E _ J).trans fP;obtain⟨e5,k5⟩:=Sg e4 E J;simp[Y,f4,fP,g0,g4,gP];refine zfx (p:=q) gQ λZ H l6=>?_
 have gg:=(H _ J).trans g0;have h1:=(H _ J).trans g1;have h2:=(H _ J).trans g2;have h5:=(H _ J).trans g5;have h6:=(H _ J).trans g6;have h7:=(H _ J).trans g7;have gH:=(H _ J).trans gQ;have gD:=(H _ J).trans gP;obtain⟨e6,k6⟩:=Sg e5 H J;obtain⟨G7,I⟩:∃G7,G7=Z++[LObj.dyn [.i p.buf,.i p.at_,.i p.size,.i R,.i q.buf,.i q.at_,.i q.size,.i R] 2 4 0 0]:=⟨_,rfl⟩;have M:∀x,x<Z.length→G7[x]?=Z[x]?:=λx X=>by rw[I];exact J4 X
 have l7:G7.length=Z.length+1:=by rw[I];simp
 have r0:=(M _ J).trans gg;have r1:=(M _ J).trans h1;have r2:=(M _ J).trans h2;have r5:=(M _ J).trans h5;have r6:=(M _ J).trans h6;have r7:=(M _ J).trans h7;have rQ:=(M _ J).trans gH;have r9:G7[Z.length]?=some (.dyn (rwC R [p,q]) [p,q].length 4 0 0):=by rw[I];exact Kg
 obtain⟨e7,k7⟩:=Sg e6 M J;have rP:=(M _ J).trans gD;simp[Xk,Y,fP,g0,gP,gg,gD]
 try rw[←I]
 simp[r0,rP];refine zmg (rs:=[p,q]) (L:=bx n p.size q.size) (body:=fj kd to p q keep R deep) hd hn N (by simp;exact⟨U,V⟩) (zws hn.1 U.1 V.1) (λx=>i4) (λx=>Fa) r9 e7 Ab (λG8 gI gL K' e8 O l8 ho hk=>?_) λG8 e8 O=>?_
 ·exact zwp (p:=p) (q:=q) (to:=to) ho hp hq ht (O.cells (j 6) r6) (by simpa using O.cells (by have:=j 0;simpa using this) r0) (by have:=j 0;simpa using this) (O.cells (j 7) r7) (j 7) (O.cells (j 1) r1) (j 1) (O.cells (j 5) r5) (j 5) (O.cells (j 2) r2) (j 2) (O.cells F rQ) F e8 l8 hk
 ·simp;refine k G8 ?_ (k3.trans (A.trans (k5.trans (k6.trans (k7.trans O)))));unfold R7;rw[R4,flat_frL,←K0];exact e8
end put
end
section
section put
variable {G : Pd} {K : LV → Pd → Prop} {e P st : Nat} {ops : List Lo} {deep R : Int} {d a b n t : Pc}
end put
end
section
def zkz{G:Pd}{K:LV→Pd→Prop}{p:Pc}(h:-1000000000≤p.at_+z∧p.at_+z≤1000000000)(k:K (.agg (Pc.f ⟨p.buf,p.at_+z,B⟩)) (G++[LObj.cells p.f 0,LObj.cells [.i p.buf,.i (p.at_+z),.i B] 1])):Ql (.fn 63) [.agg p.f,.i z,.i B] G K:=by
 refine Pj r_expand_Part Aa N ?_;simp[zeg,Pc.f];exact⟨J,by simpa [Pc.f] using k⟩
def zna{G:Pd}{K:LV→Pd→Prop}{e:Nat}{ops:List Lo}{deep:Int}{f:Nat}{fst cap:List LV}{B:Fr Lo}(hd:0≤deep∧deep≤100)(h:P5 G e ops deep)(T:ops.length≤900000)(U:B.flat.length≤50000)
  (hb:∀(G1:Pd) (g:List Lo) (D:LV→Pd→Prop),P5 G1 e g (deep+1)→Kp e G G1→g.length≤ops.length+1→(∀j,P5 j e (g++B.flat) (deep+1)→Kp e G1 j→D (.tup []) j)→Ql (.fn f) (fst++.i deep::cap) G1 D)
  (k:∀A,P5 A e (ops++(Ri deep z B).flat) deep→Kp e G A→K (.tup []) A):Ql (.fn 106) [.ptr e 0,.i z,.fn (.func f) fst cap] G K:=by
 refine zuj hd h J (λC=>k G (by rw[zcn,J6 C,Ls];exact h) (Kp.refl _ _)) λF G1 H E=>hb G1 _ _ H E N λj I L=>⟨_,Ab,I,λM O Q=>k M ?_ (E.trans (L.trans Q))⟩
 rw[zcn,J1 J];simpa using O
section put
variable {G : Pd} {K : LV → Pd → Prop} {e P st : Nat} {ops : List Lo} {deep R : Int} {d a b n t : Pc}
def zo5{p:Pc}{x:Int}(hd:0≤deep∧deep≤50)(hp:-1000000≤p.at_∧p.at_≤1000000)(h:P5 G e ops deep)(hl:ops.length≤800000)
  (k:∀g,P5 g e (ops++(Uo p x deep).flat) deep→Kp e G g→K (.tup []) g):Ql (.fn 99) [.ptr e 0,.agg p.f,.i x] G K:=by
 refine Pj r_expand_Emit_Fill Aa N ?_;have le:e<G.length:=Ah
 have D:(G++[LObj.cells [.ptr e 0] 0,LObj.cells p.f 0,LObj.cells [.i x] 0])[G.length]?=some (.cells [.ptr e 0] 0):=N
 have E:(G++[LObj.cells [.ptr e 0] 0,LObj.cells p.f 0,LObj.cells [.i x] 0])[G.length+1]?=some (.cells p.f 0):=N
 have F:(G++[LObj.cells [.ptr e 0] 0,LObj.cells p.f 0,LObj.cells [.i x] 0])[G.length+2]?=some (.cells [.i x] 0):=N
 have H:=h.app [LObj.cells [.ptr e 0] 0,LObj.cells p.f 0,LObj.cells [.i x] 0];have I:=Kp.app' e G [LObj.cells [.ptr e 0] 0,LObj.cells p.f 0,LObj.cells [.i x] 0];have j:G.length≠e:=J
 have z:G.length+1≠e:=J
 have A:G.length+2≠e:=J
 unfold Pc.f at E F D H I;simp[z8r,Pc.f];generalize G++[LObj.cells [.ptr e 0] 0,LObj.cells [.i p.buf,.i p.at_,.i p.size] 0,LObj.cells [.i x] 0]=G0 at *;generalize G.length+2=w at *;generalize G.length+1=y at *;generalize G.length=gg at *;refine z9h (fst:=[]) (cap:=[.ptr gg 0,.ptr y 0,.ptr w 0]) (B:=P0 [Qn p deep 0 x]) J H J (by rw[flat_frL];simp) (λG3 L K' M C l3 hk=>?_) λO Q T=>?_
 ·rw[flat_frL]at hk;refine Pj r_expand_Emit_Fill_1 Aa N ?_;have U:=C.cells j D;have V:=C.cells z E;have X:=C.cells A F;simp[z7f,U,V,X];refine z4d (p:=p) J M J λY Z k4=>?_
  simp;exact hk Y Z k4
 simp;exact k O Q (I.trans T)
end put
end
section
def z5l:LC:=(.q [.x 4 0,.x 5 1,.x 6 2,.x 7 3] (.seq (.draw [(.l 13 4,[]),(.N 14 13,[]),(.f 15 0 14,[]),(.l 16 15,[]),(.L 17 3 5,[]),(.l 18 4,[]),(.N 19 18,[]),(.f 20 1 19,[]),(.l 21 20,[]),(.V 22 99 16 17 21,[])]) (.seq (.draw [(.l 23 4,[]),(.N 24 23,[]),(.f 25 3 24,[]),(.z 26 (.ixAddrArr 10 1 (.t 25) (.k 0)),[]),(.l 27 26,[]),(.l 28 4,[]),(.N 29 28,[]),(.f 30 3 29,[]),(.z 31 (.ixAddrArr 10 1 (.t 30) (.k 1)),[]),(.l 32 31,[]),(.l 33 4,[]),(.N 34 33,[]),(.f 35 3 34,[]),(.z 36 (.ixAddrArr 10 1 (.t 35) (.k 2)),[]),(.l 37 36,[]),(.l 38 4,[]),(.N 39 38,[]),(.f 40 3 39,[]),(.z 41 (.ixAddrArr 10 1 (.t 40) (.k 3)),[]),(.l 42 41,[]),(.l 43 4,[]),(.N 44 43,[]),(.f 45 3 44,[]),(.z 46 (.ixAddrArr 10 1 (.t 45) (.k 4)),[]),(.l 47 46,[]),(.z 8 (.alloc [(.i 0)]),[(.l 47 46,false),(.l 43 4,false),(.l 42 41,false),(.l 38 4,false),(.l 37 36,false),(.l 33 4,false),(.l 32 31,false),(.l 28 4,false),(.l 27 26,false),(.l 23 4,false)]),(.z 9 (.alloc [(.i 0)]),[(.z 8 (.alloc [(.i 0)]),true),(.l 47 46,false),(.l 43 4,false),(.l 42 41,false),(.l 38 4,false),(.l 37 36,false),(.l 33 4,false),(.l 32 31,false),(.l 28 4,false),(.l 27 26,false),(.l 23 4,false)]),(.z 10 (.alloc [(.i 0)]),[(.z 9 (.alloc [(.i 0)]),true),(.z 8 (.alloc [(.i 0)]),true),(.l 47 46,false),(.l 43 4,false),(.l 42 41,false),(.l 38 4,false),(.l 37 36,false),(.l 33 4,false),(.l 32 31,false),(.l 28 4,false),(.l 27 26,false),(.l 23 4,false)]),(.z 11 (.alloc [(.i 0)]),[(.z 10 (.alloc [(.i 0)]),true),(.z 9 (.alloc [(.i 0)]),true),(.z 8 (.alloc [(.i 0)]),true),(.l 47 46,false),(.l 43 4,false),(.l 42 41,false),(.l 38 4,false),(.l 37 36,false),(.l 33 4,false),(.l 32 31,false),(.l 28 4,false),(.l 27 26,false),(.l 23 4,false)]),(.z 12 (.alloc [(.i 0)]),[(.z 11 (.alloc [(.i 0)]),true),(.z 10 (.alloc [(.i 0)]),true),(.z 9 (.alloc [(.i 0)]),true),(.z 8 (.alloc [(.i 0)]),true),(.l 47 46,false),(.l 43 4,false),(.l 42 41,false),(.l 38 4,false),(.l 37 36,false),(.l 33 4,false),(.l 32 31,false),(.l 28 4,false),(.l 27 26,false),(.l 23 4,false)]),(.S 1 8 27,[(.l 47 46,false),(.l 43 4,false),(.l 42 41,false),(.l 38 4,false),(.l 37 36,false),(.l 33 4,false),(.l 32 31,false),(.l 28 4,false)]),(.S 1 9 32,[(.l 47 46,false),(.l 43 4,false),(.l 42 41,false),(.l 38 4,false),(.l 37 36,false),(.l 33 4,false)]),(.S 1 10 37,[(.l 47 46,false),(.l 43 4,false),(.l 42 41,false),(.l 38 4,false)]),(.S 1 11 42,[(.l 47 46,false),(.l 43 4,false)]),(.S 1 12 47,[])]) (.draw [(.l 48 4,[]),(.N 49 48,[]),(.f 50 0 49,[]),(.l 51 50,[]),(.f 52 2 6,[]),(.l 53 52,[]),(.z 54 (.mkFunc 107 [] [.t 4,.t 8,.t 6,.t 9,.t 7,.t 11,.t 10,.t 12,.t 5]),[]),(.V 55 106 51 53 54,[])]))))
def r_expand_coder_product:Pk Tryz.prog 64=some ⟨56,z5l.r,[]⟩:=Aa
def z4w:LC:=(.q [.x 10 0] (.seq (.draw [(.l 11 1,[]),(.N 12 11,[]),(.f 13 0 12,[]),(.l 14 13,[]),(.l 15 2,[]),(.L 16 3 3,[]),(.l 17 10,[]),(.z 18 (.w 108 [.t 14,.t 15,.t 16,.t 17,.k 0]),[])]) (.seq (.draw [(.l 19 1,[]),(.N 20 19,[]),(.f 21 0 20,[]),(.l 22 21,[]),(.l 23 4,[]),(.z 24 (.w 59 [.t 22,.t 23,.c (.u 0)]),[])]) (.seq (.draw [(.l 25 1,[]),(.N 26 25,[]),(.f 27 0 26,[]),(.l 28 27,[]),(.f 29 2 5,[]),(.l 30 29,[]),(.z 31 (.mkFunc 109 [] [.t 1,.t 6,.t 5,.t 7,.t 2,.t 10,.t 8,.t 9,.t 4]),[]),(.V 32 106 28 30 31,[])]) (.draw [(.l 33 1,[]),(.N 34 33,[]),(.f 35 0 34,[]),(.l 36 35,[]),(.L 37 3 9,[]),(.l 38 10,[]),(.f 39 2 5,[]),(.l 40 39,[]),(.l 41 4,[]),(.z 42 (.w 98 [.t 36,.t 37,.t 38,.t 40,.t 41]),[])])))))
def r_expand_coder_product_1:Pk Tryz.prog 107=some ⟨43,z4w.r,[]⟩:=Aa
def z48:LC:=(.seq (.draw [(.l 11 1,[]),(.N 12 11,[]),(.f 13 0 12,[]),(.l 14 13,[]),(.l 15 2,[]),(.L 16 3 3,[]),(.m 17 0,[]),(.z 18 (.w 108 [.t 14,.t 15,.t 16,.t 17,.k 0]),[])]) (.seq (.draw [(.l 19 1,[]),(.N 20 19,[]),(.f 21 0 20,[]),(.l 22 21,[]),(.l 23 4,[]),(.l 24 2,[]),(.l 25 5,[]),(.l 26 2,[]),(.z 27 (.w 110 [.t 22,.t 23,.t 24,.t 25,.t 26]),[])]) (.seq (.draw [(.l 28 1,[]),(.N 29 28,[]),(.f 30 0 29,[]),(.l 31 30,[]),(.l 32 6,[]),(.m 33 0,[]),(.z 34 (.w 111 [.t 31,.k 3,.k 8,.t 32,.t 33]),[])]) (.seq (.draw [(.l 35 1,[]),(.N 36 35,[]),(.f 37 0 36,[]),(.l 38 37,[]),(.l 39 7,[]),(.L 40 3 8,[]),(.z 41 (.w 108 [.t 38,.t 39,.t 40,.k 8,.k 0]),[])]) (.seq (.draw [(.l 42 1,[]),(.N 43 42,[]),(.f 44 0 43,[]),(.l 45 44,[]),(.l 46 2,[]),(.l 47 1,[]),(.N 48 47,[]),(.f 49 2 48,[]),(.l 50 49,[]),(.l 51 2,[]),(.l 52 7,[]),(.l 53 1,[]),(.N 54 53,[]),(.f 55 1 54,[]),(.l 56 55,[]),(.z 57 (.w 105 [.t 45,.k 11,.t 46,.t 50,.t 51,.t 52,.t 56]),[])]) (.seq (.draw [(.l 58 1,[]),(.N 59 58,[]),(.f 60 0 59,[]),(.l 61 60,[]),(.l 62 4,[]),(.l 63 4,[]),(.l 64 1,[]),(.N 65 64,[]),(.f 66 2 65,[]),(.l 67 66,[]),(.z 68 (.w 111 [.t 61,.k 3,.t 62,.t 63,.t 67]),[])]) (.seq (.draw [(.l 69 1,[]),(.N 70 69,[]),(.f 71 0 70,[]),(.l 72 71,[]),(.l 73 2,[]),(.l 74 1,[]),(.N 75 74,[]),(.f 76 2 75,[]),(.l 77 76,[]),(.l 78 2,[]),(.l 79 9,[]),(.l 80 1,[]),(.N 81 80,[]),(.f 82 1 81,[]),(.l 83 82,[]),(.z 84 (.w 105 [.t 72,.k 11,.t 73,.t 77,.t 78,.t 79,.t 83]),[])]) (.seq (.draw [(.l 85 1,[]),(.N 86 85,[]),(.f 87 0 86,[]),(.l 88 87,[]),(.l 89 9,[]),(.l 90 4,[]),(.l 91 1,[]),(.N 92 91,[]),(.f 93 2 92,[]),(.l 94 93,[]),(.z 95 (.w 111 [.t 88,.k 3,.t 89,.t 90,.t 94]),[])]) (.draw [(.l 96 1,[]),(.N 97 96,[]),(.f 98 0 97,[]),(.l 99 98,[]),(.L 100 3 8,[]),(.l 101 2,[]),(.z 102 (.w 98 [.t 99,.t 100,.k 8,.k 0,.t 101]),[])])))))))))
def r_expand_coder_product_1_1:Pk Tryz.prog 109=some ⟨103,z48.r,[]⟩:=Aa
def z6x:LC:=(.q [.m 12 0,.N 13 12,.f 14 19 13,.f 15 2 14,.l 16 15,.m 2 16] (.q [.m 17 2,.b 18 .quo 3 17 2,.m 3 18] (.q [.m 19 2,.m 20 3,.c 21 .sub 3 19 20,.m 4 21] (.q [.m 22 0,.N 23 22,.f 24 28 23,.L 25 3 24,.m 26 2,.z 27 (.bin .mul true 3 (.k 2) (.t 26)),.z 28 (.w 63 [.t 25,.k 0,.t 27]),.z 5 (.alloc [(.i 0),(.i 0),(.i 0)]),.S 3 5 28] (.seq (.q [.m 29 3,.b 30 .eql 3 29 0] (.cond (.t 30) (.seq (.draw [(.m 31 0,[]),(.L 32 3 5,[]),(.m 33 0,[]),(.N 34 33,[]),(.f 35 19 34,[]),(.L 36 3 35,[]),(.m 37 0,[]),(.N 38 37,[]),(.f 39 22 38,[]),(.L 40 3 39,[]),(.z 41 (.w 64 [.t 31,.t 32,.t 36,.t 40]),[])]) (.seq (.draw [(.m 42 0,[]),(.m 43 0,[]),(.N 44 43,[]),(.f 45 13 44,[]),(.L 46 3 45,[]),(.L 47 3 5,[]),(.V 48 61 42 46 47,[])]) .ret)) .skip)) (.seq (.draw [(.L 49 3 5,[]),(.m 50 3,[]),(.z 51 (.bin .mul true 3 (.k 2) (.t 50)),[]),(.L 53 3 5,[]),(.m 54 3,[]),(.z 55 (.bin .mul true 3 (.k 2) (.t 54)),[]),(.m 56 4,[]),(.z 57 (.bin .mul true 3 (.k 2) (.t 56)),[]),(.z 6 (.alloc [(.i 0),(.i 0),(.i 0)]),[(.L 53 3 5,false),(.L 49 3 5,false)]),(.z 7 (.alloc [(.i 0),(.i 0),(.i 0)]),[(.z 6 (.alloc [(.i 0),(.i 0),(.i 0)]),true),(.L 53 3 5,false),(.L 49 3 5,false)]),(.z 52 (.w 63 [.t 49,.k 0,.t 51]),[(.z 7 (.alloc [(.i 0),(.i 0),(.i 0)]),true),(.z 6 (.alloc [(.i 0),(.i 0),(.i 0)]),true),(.L 53 3 5,false)]),(.V 58 63 53 55 57,[(.z 7 (.alloc [(.i 0),(.i 0),(.i 0)]),true),(.z 6 (.alloc [(.i 0),(.i 0),(.i 0)]),true)]),(.S 3 6 52,[]),(.S 3 7 58,[])]) (.seq (.draw [(.m 59 0,[]),(.L 60 3 6,[]),(.m 61 0,[]),(.N 62 61,[]),(.f 63 19 62,[]),(.L 64 3 63,[]),(.m 65 3,[]),(.m 67 0,[]),(.N 68 67,[]),(.f 69 22 68,[]),(.L 70 3 69,[]),(.m 71 3,[]),(.z 66 (.w 63 [.t 64,.k 0,.t 65]),[(.L 70 3 69,false),(.L 60 3 6,false)]),(.z 72 (.w 63 [.t 70,.k 0,.t 71]),[(.L 60 3 6,false)]),(.z 73 (.w 64 [.t 59,.t 60,.t 66,.t 72]),[])]) (.seq (.draw [(.m 74 0,[]),(.L 75 3 7,[]),(.m 76 0,[]),(.N 77 76,[]),(.f 78 19 77,[]),(.L 79 3 78,[]),(.m 80 3,[]),(.m 81 4,[]),(.m 83 0,[]),(.N 84 83,[]),(.f 85 22 84,[]),(.L 86 3 85,[]),(.m 87 3,[]),(.m 88 4,[]),(.V 82 63 79 80 81,[(.L 86 3 85,false),(.L 75 3 7,false)]),(.V 89 63 86 87 88,[(.L 75 3 7,false)]),(.z 90 (.w 64 [.t 74,.t 75,.t 82,.t 89]),[])]) (.seq (.draw [(.m 91 0,[]),(.N 92 91,[]),(.f 93 28 92,[]),(.L 94 3 93,[]),(.m 95 2,[]),(.z 96 (.bin .mul true 3 (.k 2) (.t 95)),[]),(.m 97 4,[]),(.b 98 .add 3 97 1,[]),(.m 100 0,[]),(.N 101 100,[]),(.f 102 28 101,[]),(.L 103 3 102,[]),(.m 104 2,[]),(.z 105 (.bin .mul true 3 (.k 2) (.t 104)),[]),(.m 106 4,[]),(.c 107 .add 3 105 106,[]),(.b 108 .add 3 107 1,[]),(.m 109 4,[]),(.b 110 .add 3 109 1,[]),(.m 112 0,[]),(.N 113 112,[]),(.f 114 28 113,[]),(.L 115 3 114,[]),(.m 116 2,[]),(.z 117 (.bin .mul true 3 (.k 2) (.t 116)),[]),(.m 118 4,[]),(.b 119 .add 3 118 1,[]),(.z 120 (.bin .mul true 3 (.k 2) (.t 119)),[]),(.c 121 .add 3 117 120,[]),(.m 122 4,[]),(.b 123 .add 3 122 1,[]),(.z 124 (.bin .mul true 3 (.k 2) (.t 123)),[]),(.z 8 (.alloc [(.i 0),(.i 0),(.i 0)]),[(.L 115 3 114,false),(.L 103 3 102,false),(.L 94 3 93,false)]),(.z 9 (.alloc [(.i 0),(.i 0),(.i 0)]),[(.z 8 (.alloc [(.i 0),(.i 0),(.i 0)]),true),(.L 115 3 114,false),(.L 103 3 102,false),(.L 94 3 93,false)]),(.z 10 (.alloc [(.i 0),(.i 0),(.i 0)]),[(.z 9 (.alloc [(.i 0),(.i 0),(.i 0)]),true),(.z 8 (.alloc [(.i 0),(.i 0),(.i 0)]),true),(.L 115 3 114,false),(.L 103 3 102,false),(.L 94 3 93,false)]),(.V 99 63 94 96 98,[(.z 10 (.alloc [(.i 0),(.i 0),(.i 0)]),true),(.z 9 (.alloc [(.i 0),(.i 0),(.i 0)]),true),(.z 8 (.alloc [(.i 0),(.i 0),(.i 0)]),true),(.L 115 3 114,false),(.L 103 3 102,false)]),(.V 111 63 103 108 110,[(.z 10 (.alloc [(.i 0),(.i 0),(.i 0)]),true),(.z 9 (.alloc [(.i 0),(.i 0),(.i 0)]),true),(.z 8 (.alloc [(.i 0),(.i 0),(.i 0)]),true),(.L 115 3 114,false)]),(.V 125 63 115 121 124,[(.z 10 (.alloc [(.i 0),(.i 0),(.i 0)]),true),(.z 9 (.alloc [(.i 0),(.i 0),(.i 0)]),true),(.z 8 (.alloc [(.i 0),(.i 0),(.i 0)]),true)]),(.S 3 8 99,[]),(.S 3 9 111,[]),(.S 3 10 125,[])]) (.seq (.draw [(.m 126 0,[]),(.L 127 3 8,[]),(.m 128 0,[]),(.N 129 128,[]),(.f 130 19 129,[]),(.L 131 3 130,[]),(.m 132 3,[]),(.m 134 0,[]),(.N 135 134,[]),(.f 136 19 135,[]),(.L 137 3 136,[]),(.m 138 3,[]),(.m 139 4,[]),(.m 141 4,[]),(.b 142 .add 3 141 1,[]),(.z 133 (.w 63 [.t 131,.k 0,.t 132]),[(.L 137 3 136,false),(.L 127 3 8,false)]),(.V 140 63 137 138 139,[(.L 127 3 8,false)]),(.z 143 (.w 62 [.t 126,.k 11,.t 127,.t 133,.t 140,.t 142,.T]),[])]) (.seq (.draw [(.m 144 0,[]),(.L 145 3 9,[]),(.m 146 0,[]),(.N 147 146,[]),(.f 148 22 147,[]),(.L 149 3 148,[]),(.m 150 3,[]),(.m 152 0,[]),(.N 153 152,[]),(.f 154 22 153,[]),(.L 155 3 154,[]),(.m 156 3,[]),(.m 157 4,[]),(.m 159 4,[]),(.b 160 .add 3 159 1,[]),(.z 151 (.w 63 [.t 149,.k 0,.t 150]),[(.L 155 3 154,false),(.L 145 3 9,false)]),(.V 158 63 155 156 157,[(.L 145 3 9,false)]),(.z 161 (.w 62 [.t 144,.k 11,.t 145,.t 151,.t 158,.t 160,.T]),[])]) (.q [.m 162 0,.L 163 3 10,.L 164 3 8,.L 165 3 9,.z 166 (.w 64 [.t 162,.t 163,.t 164,.t 165])] (.q [.m 167 0,.L 168 3 10,.L 169 3 10,.L 170 3 6,.f 171 2 10,.l 172 171,.z 173 (.w 62 [.t 167,.k 12,.t 168,.t 169,.t 170,.t 172,.T])] (.q [.m 174 0,.L 175 3 10,.L 176 3 10,.L 177 3 7,.f 178 2 10,.l 179 178,.z 180 (.w 62 [.t 174,.k 12,.t 175,.t 176,.t 177,.t 179,.T])] (.q [.L 181 3 5,.m 182 3,.m 183 2,.z 184 (.bin .mul true 3 (.k 2) (.t 183)),.m 185 3,.c 186 .sub 3 184 185,.V 187 63 181 182 186,.z 11 (.alloc [(.i 0),(.i 0),(.i 0)]),.S 3 11 187] (.q [.m 188 0,.L 189 3 11,.L 190 3 11,.L 191 3 10,.f 192 2 11,.l 193 192,.z 194 (.w 62 [.t 188,.k 11,.t 189,.t 190,.t 191,.t 193,.T])] (.draw [(.m 195 0,[]),(.m 196 0,[]),(.N 197 196,[]),(.f 198 13 197,[]),(.L 199 3 198,[]),(.L 200 3 5,[]),(.V 201 61 195 199 200,[])])))))))))))))))))
def r_expand_coder_halves:Pk Tryz.prog 65=some ⟨202,z6x.r,[]⟩:=Aa
def z8k:LC:=(.seq (.draw [(.m 4 0,[]),(.N 5 4,[]),(.f 6 0 5,[]),(.l 7 6,[]),(.m 8 0,[]),(.N 9 8,[]),(.f 10 13 9,[]),(.L 11 3 10,[]),(.m 12 1,[]),(.z 13 (.w 98 [.t 7,.t 11,.k (-1),.k 0,.t 12]),[])]) (.draw [(.m 14 0,[]),(.N 15 14,[]),(.f 16 0 15,[]),(.l 17 16,[]),(.m 18 0,[]),(.N 19 18,[]),(.f 20 13 19,[]),(.L 21 3 20,[]),(.m 22 0,[]),(.N 23 22,[]),(.f 24 13 23,[]),(.f 25 2 24,[]),(.l 26 25,[]),(.b 27 .sub 3 26 1,[]),(.m 29 0,[]),(.N 30 29,[]),(.f 31 1 30,[]),(.l 32 31,[]),(.z 28 (.w 63 [.t 21,.k 1,.t 27]),[(.l 32 31,false),(.l 17 16,false)]),(.V 33 99 17 28 32,[])]))
def r_expand_coder_one:Pk Tryz.prog 60=some ⟨34,z8k.r,[]⟩:=Aa
def Ce(e:Nat)(G:Pd):List (Nat×List LV)→Prop
 |[]=>True
 |(g,l)::r=>(g≠e∧∃s,G[g]?=some (.cells l s))∧Ce e G r
def Ce.keep{e:Nat}{G G':Pd}(k:Kp e G G'):∀{l:List (Nat×List LV)},Ce e G l→Ce e G' l
 |[],_=>trivial
 |(_,_)::_,⟨⟨n,s,h⟩,r⟩=>⟨⟨n,s,k.cells n h⟩,r.keep k⟩
def Ce.hit{e:Nat}{G:Pd}{z s:Nat}{l:List LV}{r:List (Nat×List LV)}(n:z≠e)(h:G[z]?=some (.cells l s))(k:Ce e G r):Ce e G ((z,l)::r):=⟨⟨n,s,h⟩,k⟩
section put
variable {G : Pd} {K : LV → Pd → Prop} {e P st : Nat} {ops : List Lo} {deep R : Int} {d d2 a b c w p q to : Pc}
def zpn{X Y:Nat}(hq:-1000000≤q.at_∧q.at_≤1000000)(ht:-1000000≤to.at_∧to.at_≤1000000)(gg:Ce e G [(P,Px e R d d2 a b c w),(g,[.ptr P 0]),(j,[.i (R+5)]),(A,q.f),(D,[.i (R+4)]),(U,[.i (R+2)]),(vO,[.i z]),(uR,[.i (R+6)]),(X,to.f),(Y,[.i (R+3)])])(h:P5 G e ops deep)(hl:ops.length≤900001)(hj:B=z+1)
  (k:∀V,P5 V e (ops++Su to q R z) deep→Kp e G V→K (.tup []) V):Ql (.fn 109) [.i B,.ptr g 0,.ptr j 0,.ptr A 0,.ptr D 0,.ptr U 0,.ptr vO 0,.ptr uR 0,.ptr X 0,.ptr Y 0] G K:=by
 refine Pj r_expand_coder_product_1_1 Aa N ?_;subst hj;have C0:=gg;obtain⟨⟨_,_,C⟩,⟨_,_,H⟩,⟨_,_,I⟩,⟨_,_,E⟩,⟨_,_,L⟩,⟨_,_,M⟩,⟨_,_,O⟩,⟨_,_,Q⟩,⟨_,_,F⟩,⟨_,_,T⟩,_⟩:=gg;unfold Px at C;unfold Pc.f at E F;simp[z48,C,H,I,E,L,M,O,Q,F,T];refine mq (p:=q) J h J λG1 h1 Z=>?_
 have C1:=C0.keep Z;obtain⟨⟨_,_,C⟩,⟨_,_,H⟩,⟨_,_,I⟩,⟨_,_,E⟩,⟨_,_,L⟩,⟨_,_,M⟩,⟨_,_,O⟩,⟨_,_,Q⟩,⟨_,_,F⟩,⟨_,_,T⟩,_⟩:=id C1;unfold Px at C;unfold Pc.f at E F;simp[C,H,I,E,L,M,O,Q,F,T];refine Mul_any h1 Ab λG2 h2 k2=>?_
 have C2:=C1.keep k2;obtain⟨⟨_,_,C⟩,⟨_,_,H⟩,⟨_,_,I⟩,⟨_,_,E⟩,⟨_,_,L⟩,⟨_,_,M⟩,⟨_,_,O⟩,⟨_,_,Q⟩,⟨_,_,F⟩,⟨_,_,T⟩,_⟩:=id C2;unfold Px at C;unfold Pc.f at E F;simp[C,H,I,E,L,M,O,Q,F,T];refine zjw h2 Ab λG3 h3 k3=>?_
 have C3:=C2.keep k3;obtain⟨⟨_,_,C⟩,⟨_,_,H⟩,⟨_,_,I⟩,⟨_,_,E⟩,⟨_,_,L⟩,⟨_,_,M⟩,⟨_,_,O⟩,⟨_,_,Q⟩,⟨_,_,F⟩,⟨_,_,T⟩,_⟩:=id C3;unfold Px at C;unfold Pc.f at E F;simp[C,H,I,E,L,M,O,Q,F,T];refine mq (p:=to) J h3 Ab λG4 h4 k4=>?_
 have C4:=C3.keep k4;obtain⟨⟨_,_,C⟩,⟨_,_,H⟩,⟨_,_,I⟩,⟨_,_,E⟩,⟨_,_,L⟩,⟨_,_,M⟩,⟨_,_,O⟩,⟨_,_,Q⟩,⟨_,_,F⟩,⟨_,_,T⟩,_⟩:=id C4;unfold Px at C;unfold Pc.f at E F;simp[C,H,I,E,L,M,O,Q,F,T];refine zjv h4 Ab λG5 h5 k5=>?_
 have C5:=C4.keep k5;obtain⟨⟨_,_,C⟩,⟨_,_,H⟩,⟨_,_,I⟩,⟨_,_,E⟩,⟨_,_,L⟩,⟨_,_,M⟩,⟨_,_,O⟩,⟨_,_,Q⟩,⟨_,_,F⟩,⟨_,_,T⟩,_⟩:=id C5;unfold Px at C;unfold Pc.f at E F;simp[C,H,I,E,L,M,O,Q,F,T];refine zjw h5 Ab λG6 h6 k6=>?_
 have C6:=C5.keep k6;obtain⟨⟨_,_,C⟩,⟨_,_,H⟩,⟨_,_,I⟩,⟨_,_,E⟩,⟨_,_,L⟩,⟨_,_,M⟩,⟨_,_,O⟩,⟨_,_,Q⟩,⟨_,_,F⟩,⟨_,_,T⟩,_⟩:=id C6;unfold Px at C;unfold Pc.f at E F;simp[C,H,I,E,L,M,O,Q,F,T];refine zjv h6 Ab λG7 h7 k7=>?_
 have C7:=C6.keep k7;obtain⟨⟨_,_,C⟩,⟨_,_,H⟩,⟨_,_,I⟩,⟨_,_,E⟩,⟨_,_,L⟩,⟨_,_,M⟩,⟨_,_,O⟩,⟨_,_,Q⟩,⟨_,_,F⟩,⟨_,_,T⟩,_⟩:=id C7;unfold Px at C;unfold Pc.f at E F;simp[C,H,I,E,L,M,O,Q,F,T];refine zjw h7 Ab λG8 h8 k8=>?_
 have C8:=C7.keep k8;obtain⟨⟨_,_,C⟩,⟨_,_,H⟩,⟨_,_,I⟩,⟨_,_,E⟩,⟨_,_,L⟩,⟨_,_,M⟩,⟨_,_,O⟩,⟨_,_,Q⟩,⟨_,_,F⟩,⟨_,_,T⟩,_⟩:=id C8;unfold Px at C;unfold Pc.f at E F;simp[C,H,I,E,L,M,O,Q,F,T];refine z4d (p:=to) J h8 Ab λG9 h9 k9=>?_
 simp;exact k G9 (by simpa [Su] using h9) (Z.trans (k2.trans (k3.trans (k4.trans (k5.trans (k6.trans (k7.trans (k8.trans k9))))))))
def zoo{zw zt:Nat}(hD:0≤z∧z≤50)(hp:-1000000≤p.at_∧p.at_≤1000000)(hq:-1000000≤q.at_∧q.at_≤1000000)(gD:0≤q.size∧q.size≤1000000)(ht:-1000000≤to.at_∧to.at_≤1000000)(gG:Ce e G [(P,Px e R d d2 a b c w),(g,[.ptr P 0]),(j,[.i (R+2)]),(A,p.f),(D,[.i (R+3)]),(U,q.f),(vO,[.i (R+5)]),(uR,[.i (R+4)]),(zw,[.i (R+6)]),(zt,to.f)])(h:P5 G e ops (z+1))(hl:ops.length≤800001)
  (k:∀G',P5 G' e (ops++(Zq to p q R z).flat) (z+1)→Kp e G G'→K (.tup []) G'):Ql (.fn 107) [.i z,.ptr g 0,.ptr j 0,.ptr A 0,.ptr D 0,.ptr U 0,.ptr vO 0,.ptr uR 0,.ptr zw 0,.ptr zt 0] G K:=by
 refine Pj r_expand_coder_product_1 Aa N ?_;have le:e<G.length:=Ah
 have Y:G.length≠e:=J
 obtain⟨G0,L⟩:∃G0,G0=G++[LObj.cells [.i z] 0]:=⟨_,rfl⟩;have o0:∀x,x<G.length→G0[x]?=G[x]?:=λx hx=>by rw[L];exact J4 hx
 have I:G0[G.length]?=some (.cells [.i z] 0):=by rw[L];exact Kg
 obtain⟨h0,k0⟩:=Sg h o0 (by rw[L];simp);have C0:=Ce.hit Y I (gG.keep k0);obtain⟨⟨Y,sI,I⟩,⟨Z,sP,C⟩,⟨n0,s0,M⟩,⟨n1,s1,O⟩,⟨n2,s2,H⟩,⟨n3,s3,Q⟩,⟨n4,s4,E⟩,⟨n5,s5,T⟩,⟨n6,s6,V⟩,⟨n7,s7,X⟩,⟨n8,s8,F⟩,_⟩:=id C0;unfold Px at C;unfold Pc.f at H E F;simp[z4w];rw[←L];simp[C,M,O,H,Q,E,T,V,X,F,I];refine mq (p:=p) J h0 J λG1 h1 k1=>?_
 have C1:=C0.keep k1;obtain⟨⟨Y,sI,I⟩,⟨Z,sP,C⟩,⟨n0,s0,M⟩,⟨n1,s1,O⟩,⟨n2,s2,H⟩,⟨n3,s3,Q⟩,⟨n4,s4,E⟩,⟨n5,s5,T⟩,⟨n6,s6,V⟩,⟨n7,s7,X⟩,⟨n8,s8,F⟩,_⟩:=id C1;unfold Px at C;unfold Pc.f at H E F;simp[C,M,O,H,Q,E,T,V,X,F,I];refine z9d h1 Ab λG2 h2 k2=>?_
 have C2:=C1.keep k2;obtain⟨⟨Y,sI,I⟩,⟨Z,sP,C⟩,⟨n0,s0,M⟩,⟨n1,s1,O⟩,⟨n2,s2,H⟩,⟨n3,s3,Q⟩,⟨n4,s4,E⟩,⟨n5,s5,T⟩,⟨n6,s6,V⟩,⟨n7,s7,X⟩,⟨n8,s8,F⟩,_⟩:=id C2;unfold Px at C;unfold Pc.f at H E F;simp[C,M,O,H,Q,E,T,V,X,F,I];refine z9h (fst:=[]) (cap:=[.ptr g 0,.ptr vO 0,.ptr U 0,.ptr uR 0,.ptr j 0,.ptr G.length 0,.ptr zw 0,.ptr zt 0,.ptr D 0]) (B:=P0 (Su to q R z)) J h2 Ab (by rw[flat_frL];simp[Su]) (λG3 gg K' h3 k3 l3 hk=>?_) λG3 h3 k3=>?_
 ·rw[flat_frL]at hk;obtain⟨⟨Y,sI,I⟩,⟨Z,sP,C⟩,⟨n0,s0,M⟩,⟨n1,s1,O⟩,⟨n2,s2,H⟩,⟨n3,s3,Q⟩,⟨n4,s4,E⟩,⟨n5,s5,T⟩,⟨n6,s6,V⟩,⟨n7,s7,X⟩,⟨n8,s8,F⟩,_⟩:=C2.keep k3;exact zpn hq ht (.hit Z C (.hit n0 M (.hit n5 T (.hit n4 E (.hit n6 V (.hit n1 O (.hit Y I (.hit n7 X (.hit n8 F (.hit n3 Q trivial)))))))))) h3 l3 rfl hk
 have C3:=C2.keep k3;obtain⟨⟨Y,sI,I⟩,⟨Z,sP,C⟩,⟨n0,s0,M⟩,⟨n1,s1,O⟩,⟨n2,s2,H⟩,⟨n3,s3,Q⟩,⟨n4,s4,E⟩,⟨n5,s5,T⟩,⟨n6,s6,V⟩,⟨n7,s7,X⟩,⟨n8,s8,F⟩,_⟩:=id C3;unfold Px at C;unfold Pc.f at H E F;simp[C,M,O,H,Q,E,T,V,X,F,I];have gF:(Ri (z+1) q.size (P0 (Su to q R z))).flat.length≤100:=by rw[zcn];split<;>simp[flat_frL,Su]
 refine z4d (p:=to) J h3 Ab λG4 h4 k4=>?_
 simp;refine k G4 ?_ (k0.trans (k1.trans (k2.trans (k3.trans k4))));unfold Zq;rw[R4,R4,flat_frL,flat_frL];simpa using h4
def z87(hd:0≤deep∧deep≤40)(hp:-1000000≤p.at_∧p.at_≤1000000)(hq:-1000000≤q.at_∧q.at_≤1000000)(O:0≤q.size∧q.size≤1000000)(ht:-1000000≤to.at_∧to.at_≤1000000)
  (hP:G[P]?=some (.cells (Px e R d d2 a b c w) st)) (M:P≠e) (h:P5 G e ops deep) (hl:ops.length≤700000) (k:∀Q,P5 Q e (ops++(Sm to p q R deep).flat) deep→Kp e G Q→K (.tup []) Q) :
  Ql (.fn 64) [.ptr P 0,.agg to.f,.agg p.f,.agg q.f] G K:=by
 refine Pj r_expand_coder_product Aa N ?_;have lP:=(Jy.1 hP).1;have le:e<G.length:=Ah
 obtain⟨A,z⟩:∃A,A=G++[LObj.cells [.ptr P 0] 0,LObj.cells [.i to.buf,.i to.at_,.i to.size] 0,LObj.cells [.i p.buf,.i p.at_,.i p.size] 0,LObj.cells [.i q.buf,.i q.at_,.i q.size] 0]:=⟨_,rfl⟩;have o0:∀x,x<G.length→A[x]?=G[x]?:=λx T=>by rw[z];exact J4 T
 have l0:A.length=G.length+4:=Da
 have H:A[G.length]?=some (.cells [.ptr P 0] 0):=Da
 have C:A[G.length+1]?=some (.cells to.f 0):=by rw[z];simp[Pc.f]
 have D:A[G.length+2]?=some (.cells p.f 0):=by rw[z];simp[Pc.f]
 have E:A[G.length+3]?=some (.cells q.f 0):=by rw[z];simp[Pc.f]
 obtain⟨e0,k0⟩:=Sg h o0 J;have C0:Ce e A [(P,Px e R d d2 a b c w),(G.length,[.ptr P 0]),(G.length+1,to.f),(G.length+2,p.f),(G.length+3,q.f)]:=.hit M (k0.cells M hP) (.hit J H (.hit J C (.hit J D (.hit J E trivial))));obtain⟨⟨_,_,F⟩,_⟩:=id C0;unfold Px at F;unfold Pc.f at C D E;simp[z5l,Pc.f];rw[←z];simp[F,H,C,D,E];clear H C D E F;refine zo5 (p:=to) J ht e0 J λj h1 U=>?_
 have C1:=C0.keep U;have l1:=U.1;obtain⟨⟨_,sP,F⟩,⟨_,s0,H⟩,⟨_,s1,C⟩,⟨_,s2,D⟩,⟨_,s3,E⟩,_⟩:=id C1;unfold Px at F;unfold Pc.f at C D E;obtain⟨I,g⟩:∃I,I=j++[LObj.cells [.i (R+2)] 1,LObj.cells [.i (R+3)] 1,LObj.cells [.i (R+4)] 1,LObj.cells [.i (R+5)] 1,LObj.cells [.i (R+6)] 1]:=⟨_,rfl⟩;have o2:∀x,x<j.length→I[x]?=j[x]?:=λx T=>by rw[g];exact J4 T
 obtain⟨h2,k2⟩:=Sg h1 o2 Ay;have C2:=C1.keep k2;obtain⟨⟨_,uP,V⟩,⟨_,u0,b0⟩,⟨_,u1,X⟩,⟨_,u2,Y⟩,⟨_,u3,Z⟩,_⟩:=id C2;unfold Px at V;unfold Pc.f at X Y Z;have y0:I[j.length]?=some (.cells [.i (R+2)] 1):=Ay
 have y1:I[j.length+1]?=some (.cells [.i (R+3)] 1):=Ay
 have y2:I[j.length+2]?=some (.cells [.i (R+4)] 1):=Ay
 have y3:I[j.length+3]?=some (.cells [.i (R+5)] 1):=Ay
 have y4:I[j.length+4]?=some (.cells [.i (R+6)] 1):=Ay
 have gg:P<j.length:=J
 have gD:G.length<j.length:=J
 simp[H,F,↓Ph gg,↓Ph gD];rw[←g];simp[b0,X,Y,Z,V];clear H C D E F b0 X Y Z V;have gG:(Uo to R deep).flat.length≤3:=Yb (m:=1) Bx;have gH:(Zq to p q R deep).flat.length≤14:=by
  have:=Yb (d:=deep+1) (t:=q.size) (b:=P0 (Su to q R deep)) (m:=9) (by simp[flat_frL,Su]);unfold Zq;simp only[R4,flat_frL,J9,Kh,Kz];omega
 refine zna (fst:=[]) (cap:=[.ptr G.length 0,.ptr j.length 0,.ptr (G.length+2) 0,.ptr (j.length+1) 0,.ptr (G.length+3) 0,.ptr (j.length+3) 0,.ptr (j.length+2) 0,.ptr (j.length+4) 0,.ptr (G.length+1) 0]) (B:=Zq to p q R deep) J h2 Ab J (λG3 gF K' h3 L l3 hk=>?_) λG3 h3 L=>?_
 ·obtain⟨⟨nP,sP,F⟩,⟨n0,s0,H⟩,⟨n1,s1,C⟩,⟨n2,s2,D⟩,⟨n3,s3,E⟩,_⟩:=C2.keep L;have q:∀gI,j.length+gI≠e:=λgI=>J
  exact zoo J hp hq O ht (.hit nP F (.hit n0 H (.hit (q 0) (L.cells (q 0) y0) (.hit n2 D (.hit (q 1) (L.cells (q 1) y1) (.hit n3 E (.hit (q 3) (L.cells (q 3) y3) (.hit (q 2) (L.cells (q 2) y2) (.hit (q 4) (L.cells (q 4) y4) (.hit n1 C trivial)))))))))) h3 (by simp at l3;omega) hk
 simp;refine k G3 ?_ (k0.trans (U.trans (k2.trans L)));unfold Sm;rw[R4,←K0];exact h3
end put
end
section
set_option linter.unusedVariables false
def P2(p:Pc)(x k:Int):Pc:=⟨p.buf,p.at_+x,k⟩
def ju(d a b w:Pc)(h R D:Int):Fr Lo :=
 if h=0 then (Sm (P2 w 0 (2*a.size)) a b R D).cat (Sd d (P2 w 0 (2*a.size)) R D)
 else (Sm (P2 (P2 w 0 (2*a.size)) 0 (2*h)) (P2 a 0 h) (P2 b 0 h) R D).cat ((Sm (P2 (P2 w 0 (2*a.size)) (2*h) (2*(a.size-h))) (P2 a h (a.size-h)) (P2 b h (a.size-h)) R D).cat
  ((R7 11 (P2 w (2*a.size) (a.size-h+1)) (P2 a 0 h) (P2 a h (a.size-h)) (a.size-h+1) true R D).cat ((R7 11 (P2 w (2*a.size+(a.size-h)+1) (a.size-h+1)) (P2 b 0 h) (P2 b h (a.size-h)) (a.size-h+1) true R D).cat
  ((Sm (P2 w (2*a.size+2*(a.size-h+1)) (2*(a.size-h+1))) (P2 w (2*a.size) (a.size-h+1)) (P2 w (2*a.size+(a.size-h)+1) (a.size-h+1)) R D).cat
  ((R7 12 (P2 w (2*a.size+2*(a.size-h+1)) (2*(a.size-h+1))) (P2 w (2*a.size+2*(a.size-h+1)) (2*(a.size-h+1))) (P2 (P2 w 0 (2*a.size)) 0 (2*h)) (2*(a.size-h+1)) true R D).cat
  ((R7 12 (P2 w (2*a.size+2*(a.size-h+1)) (2*(a.size-h+1))) (P2 w (2*a.size+2*(a.size-h+1)) (2*(a.size-h+1))) (P2 (P2 w 0 (2*a.size)) (2*h) (2*(a.size-h))) (2*(a.size-h+1)) true R D).cat
  ((R7 11 (P2 (P2 w 0 (2*a.size)) h (2*a.size-h)) (P2 (P2 w 0 (2*a.size)) h (2*a.size-h)) (P2 w (2*a.size+2*(a.size-h+1)) (2*(a.size-h+1))) (2*a.size-h) true R D).cat
  (Sd d (P2 w 0 (2*a.size)) R D))))))))
section put
variable {G : Pd} {K : LV → Pd → Prop} {e P st : Nat} {ops : List Lo} {deep R : Int} {d d2 a b c w p q to : Pc}
def Vy{x k:Int}(h:-1000000000≤p.at_+x∧p.at_+x≤1000000000)(j:∀(g:Pd) (r:Pc),r=P2 p x k→r.at_=p.at_+x→r.size=k→(∀x,x<G.length→g[x]?=G[x]?)→G.length≤g.length→K (.agg r.f) g):Ql (.fn 63) [.agg p.f,.i x,.i k] G K :=
 zkz h (j _ _ rfl rfl rfl (λx z=>J4 z) N)
def zy1{r:Int}(hd:0≤deep∧deep≤40)(V:-1000000≤d.at_∧d.at_≤900000)(D:0≤d.size∧d.size≤1000000)(j:G[P]?=some (.cells (Px e R d d2 a b c w) st))(g:P≠e)(h:P5 G e ops deep)(X:ops.length≤700000)(k:∀z,P5 z e (ops++[Qn d (-1) 0 r]++(Uo (P2 d 1 (d.size-1)) R deep).flat) deep→Kp e G z→K (.tup []) z) :
  Ql (.fn 60) [.ptr P 0,.i r] G K:=by
 refine Pj r_expand_coder_one Aa N ?_;unfold Px at j;simp[z8k,j];refine z4d (p:=d) J h J λY E B=>?_
 have A:=B.cells g j;simp[A]
 repeat (refine⟨J,?_⟩)
 refine Vy (p:=d) J λZ F H a2 s2 I L=>?_
 obtain⟨M,C⟩:=Sg E I L;have O:=C.cells g A;simp[A,O];refine zo5 (p:=F) J J M Ab λQ T U=>?_
 simp;subst H;exact k Q (by simpa using T) (B.trans (C.trans U))
set_option maxHeartbeats 2000000 in
def zxf{h:Int}(hd:0≤deep∧deep≤40)(ht:a.size.tdiv 2=h)(hh:0≤h∧h≤a.size)(ha:0≤a.at_∧a.at_≤100000)(hb:0≤b.at_∧b.at_≤100000)(GQ:0≤d.at_∧d.at_≤100000)(hw:0≤w.at_∧w.at_≤100000)(GR:1≤a.size∧a.size≤10000)(GU:b.size=a.size)(GV:0≤d.size∧d.size≤100000)
  (hP:G[P]?=some (.cells (Px e R d d2 a b c w) st)) (g:P≠e) (h0:P5 G e ops deep) (hl:ops.length≤600000) (k:∀G',P5 G' e (ops++(ju d a b w h R deep).flat) deep→Kp e G G'→K (.tup []) G') :
  Ql (.fn 65) [.ptr P 0] G K:=by
 refine Pj r_expand_coder_halves Aa N ?_;have lP:=(Jy.1 hP).1;have le:e<G.length:=by obtain⟨_,_,h,_⟩:=id h0;exact (Jy.1 h).1
 have DI:=hP;unfold Px at DI;simp[z6x,DI,ht]
 repeat (refine⟨J,?_⟩)
 refine Vy (p:=w) J λB DE eA aA sA o1 l1=>?_
 obtain⟨h1,k1⟩:=Sg h0 o1 l1;have Q1:=k1.cells g hP;obtain⟨G2,BQ⟩:∃G2,G2=B++[LObj.cells [.i DE.buf,.i DE.at_,.i DE.size] 1]:=⟨_,rfl⟩;have o2:∀x,x<B.length→G2[x]?=B[x]?:=λx hx=>by rw[BQ];exact J4 hx
 have l2:G2.length=B.length+1:=by rw[BQ];simp
 obtain⟨h2,k2⟩:=Sg h1 o2 J;have zA:G2[B.length]?=some (.cells DE.f 1):=by rw[BQ];exact Kg
 have C:B.length≠e:=J
 have Q2:=k2.cells g Q1;have z9:=Q2;have Ag:=zA;unfold Px at z9;unfold Pc.f at Ag;simp[Pc.f];rw[←BQ];by_cases GX:h=0
 ·subst GX;have hA:DE=P2 w 0 (2*a.size):=eA;simp[z9,Ag];have q1:=zbi (R:=R) (D:=deep) (to:=DE) (a:=a) (b:=b);refine z87 (to:=DE) (p:=a) (q:=b) hd J J J J Q2 g h2 J λG3 h3 k3=>?_
  have Q3:=k3.cells g Q2;have DX:=k3.cells g z9;have DY:=k3.cells C Ag;simp[DX,DY];refine za6 (to:=d) (p:=DE) J J J J J Q3 g h3 (by simp only[J9];omega) λG4 h4 k4=>?_
  simp;refine k G4 ?_ (k1.trans (k2.trans (k3.trans k4)));unfold ju;rw[J6 rfl,R4,←hA,←K0];exact h4
 ·clear DI;obtain⟨G3,zB⟩:∃G3,G3=B++[LObj.cells [.i DE.buf,.i DE.at_,.i DE.size] 1,LObj.cells [.i 0,.i 0,.i 0] 0,LObj.cells [.i 0,.i 0,.i 0] 0]:=⟨_,rfl⟩;have o3:∀x,x<B.length→G3[x]?=B[x]?:=λx hx=>by rw[zB];exact J4 hx
  have l3:G3.length=B.length+3:=by rw[zB];simp
  obtain⟨h3,k3⟩:=Sg h1 o3 J;have yA:G3[B.length]?=some (.cells DE.f 1):=by rw[zB];simp[Pc.f]
  have yl:G3[B.length+1]?=some (.cells [.i 0,.i 0,.i 0] 0):=by rw[zB];simp
  have yu:G3[B.length+2]?=some (.cells [.i 0,.i 0,.i 0] 0):=by rw[zB];simp
  have Q3:=k3.cells g Q1;have DF:=Q3;have Aj:=yA;unfold Px at DF;unfold Pc.f at Aj;simp[GX,z9,Ag]
  repeat (refine⟨J,?_⟩)
  rw[←zB];refine Vy (p:=DE) (x:=0) J λG4 LO EF GY GZ o4 l4=>?_
  obtain⟨h4,k4⟩:=Sg h3 o4 l4;have BR:=k4.cells C Aj;have DZ:=k4.cells g DF;have Q4:=k4.cells g Q3;have D0:=(o4 _ J).trans yl;have D3:=(o4 _ J).trans yu;simp[Aj,BR,yl,yu,D0,D3];refine Vy (p:=DE) (x:=2*h) J λG5 UP EG Hg Hj o5 l5=>?_
  obtain⟨h5,k5⟩:=Sg h4 o5 l5;have D4:=k5.cells C BR;have D5:=k5.cells g DZ;have Q5:=k5.cells g Q4;have EH:G5[B.length+1]?=_:=(o5 _ J).trans ((o4 _ J).trans yl);have EI:G5[B.length+2]?=_:=(o5 _ J).trans ((o4 _ J).trans yu);obtain⟨G6,BL⟩:∃G6,G6=(G5.set (B.length+1) (.cells [.i LO.buf,.i LO.at_,.i LO.size] 1)).set (B.length+2) (.cells [.i UP.buf,.i UP.at_,.i UP.size] 1):=⟨_,rfl⟩;have l6:G6.length=G5.length:=by rw[BL];simp
  have o6:∀x,x≠B.length+1→x≠B.length+2→G6[x]?=G5[x]?:=λx n1 n2=>by rw[BL,Jz (Ne.symm n2),Jz (Ne.symm n1)]
  have y6:G6[B.length+1]?=some (.cells LO.f 1):=by rw[BL,Jz J];exact J3 J
  have y7:G6[B.length+2]?=some (.cells UP.f 1):=by rw[BL];exact J3 Ab
  have y5:G6[B.length]?=some (.cells DE.f 1):=(o6 _ J J).trans ((o5 _ J).trans ((o4 _ J).trans yA));obtain⟨h6,k6⟩:=Sg (G1:=G6) h1 (λx hx=>(o6 x J J).trans ((o5 x J).trans ((o4 x J).trans (o3 x hx)))) J;have z:B.length+1≠e:=J
  have A:B.length+2≠e:=J
  have Q6:=k6.cells g Q1;have Az:=Q6;have AA:=y5;have gO:=y6;have gR:=y7;unfold Px at Az;unfold Pc.f at AA gO gR;have m1:¬B.length+1=P:=J
  have m2:¬B.length+2=P:=J
  simp[Aj,BR,D4,D5,D0,D3,EH,EI,Pc.f,m1,m2];rw[←BL];have y8:(G5.set (B.length+1) (.cells [.i LO.buf,.i LO.at_,.i LO.size] 1))[B.length+1]?=some (.cells [.i LO.buf,.i LO.at_,.i LO.size] 1):=J3 J;simp[y8];refine Vy (p:=a) (x:=0) J λG7 a0 EK Hz HA o7 l7=>?_
  obtain⟨h7,k7⟩:=Sg h6 o7 l7;have BT:=k7.cells C AA;have zC:=k7.cells z gO;have zD:=k7.cells A gR;have BU:=k7.cells g Az;have Q7:=k7.cells g Q6;simp[AA,gO,gR,Az,BT,zC,zD,BU];refine Vy (p:=b) (x:=0) J λG8 b0 EL HB HC o8 l8=>?_
  obtain⟨h8,k8⟩:=Sg h7 o8 l8;have DG:=k8.cells C BT;have BV:=k8.cells z zC;have BX:=k8.cells A zD;have DH:=k8.cells g BU;have Q8:=k8.cells g Q7;simp[AA,gO,gR,Az,BT,zC,zD,BU,DG,BV,BX,DH];have:=zbi (R:=R) (D:=deep) (to:=LO) (a:=a0) (b:=b0);refine z87 (to:=LO) (p:=a0) (q:=b0) hd J J J J Q8 g h8 Bh λG9 h9 k9=>?_
  have l9:=k9.1;have AB:=k9.cells C DG;have gT:=k9.cells z BV;have gU:=k9.cells A BX;have AC:=k9.cells g DH;have Q9:=k9.cells g Q8;simp[AB,gT,gU,AC];refine Vy (p:=a) (x:=h) J λHD a1 EM HE HF EO EP=>?_
  obtain⟨EQ,BM⟩:=Sg h9 EO EP;have zE:=BM.cells C AB;have gV:=BM.cells z gT;have gY:=BM.cells A gU;have zG:=BM.cells g AC;have ET:=BM.cells g Q9;simp[AB,gT,gU,AC,zE,gV,gY,zG];refine Vy (p:=b) (x:=h) J λHG b1 EV HI HK EX EY=>?_
  obtain⟨EZ,BO⟩:=Sg EQ EX EY;have BY:=BO.cells C zE;have AD:=BO.cells z gV;have AE:=BO.cells A gY;have BZ:=BO.cells g zG;have D6:=BO.cells g ET;simp[AB,gT,gU,AC,zE,gV,gY,zG,BY,AD,AE,BZ];have:=zbi (R:=R) (D:=deep) (to:=UP) (a:=a1) (b:=b1);refine z87 (to:=UP) (p:=a1) (q:=b1) hd J J J J D6 g EZ Bh λj D7 zH=>?_
  have HL:=zH.1;have zI:=zH.cells C BY;have gZ:=zH.cells z AD;have jg:=zH.cells A AE;have jz:=zH.cells g BZ;have D8:=zH.cells g D6;have D9:=(Jy.1 jz).1;simp[zI,gZ,jg,jz,↓Ph D9]
  repeat (refine⟨J,?_⟩)
  obtain⟨zK,gD⟩:∃zK,zK=j++[LObj.cells [.i 0,.i 0,.i 0] 0,LObj.cells [.i 0,.i 0,.i 0] 0,LObj.cells [.i 0,.i 0,.i 0] 0]:=⟨_,rfl⟩;have Eg:∀x,x<j.length→zK[x]?=j[x]?:=λx hx=>by rw[gD];exact J4 hx
  have HM:zK.length=j.length+3:=In
  obtain⟨E4,B2⟩:=Sg D7 Eg J;have z0:zK[j.length]?=some (.cells [.i 0,.i 0,.i 0] 0):=In
  have z1:zK[j.length+1]?=some (.cells [.i 0,.i 0,.i 0] 0):=In
  have z2:zK[j.length+2]?=some (.cells [.i 0,.i 0,.i 0] 0):=In
  rw[←gD];have jA:=B2.cells C zI;have I:=B2.cells z gZ;have L:=B2.cells A jg;have jB:=B2.cells g jz;have E5:=B2.cells g D8;refine Vy (p:=w) (x:=2*a.size) J λHO SS E6 HP HQ B4 E7=>?_
  obtain⟨E8,B5⟩:=Sg E4 B4 E7;have jC:=B5.cells C jA;have M:=B5.cells z I;have O:=B5.cells A L;have jD:=B5.cells g jB;have E9:=B5.cells g E5;have jE:=(B4 _ J).trans z0;have jF:=(B4 _ J).trans z1;have jG:=(B4 _ J).trans z2;simp[z0,z1,z2,jE,jF,jG,jA,I,L,jB,jC,M,O,jD];refine Vy (p:=w) (x:=2*a.size+(a.size-h)+1) J λHR TT Fg HT HU B6 Fj=>?_
  obtain⟨FA,B7⟩:=Sg E8 B6 Fj;have zL:=B7.cells C jC;have jH:=B7.cells z M;have jI:=B7.cells A O;have zM:=B7.cells g jD;have FB:=B7.cells g E9;have zO:=(B6 _ J).trans jE;have zQ:=(B6 _ J).trans jF;have zT:=(B6 _ J).trans jG;simp[z0,z1,z2,jE,jF,jG,zO,zQ,zT,jA,I,L,jB,jC,M,O,jD,zL,jH,jI,zM];refine Vy (p:=w) (x:=2*a.size+2*(a.size-h+1)) J λB8 MM FC HV HX B9 FD=>?_
  obtain⟨HY,Cg⟩:=Sg FA B9 FD;have DK:=Cg.cells C zL;have CQ:=Cg.cells z jH;have CR:=Cg.cells A jI;have DL:=Cg.cells g zM;have HZ:=Cg.cells g FB;have DM:=(B9 _ J).trans zO;have DO:=(B9 _ J).trans zQ;have DP:=(B9 _ J).trans zT;obtain⟨zz,gF⟩:∃zz,zz=((B8.set j.length (.cells [.i SS.buf,.i SS.at_,.i SS.size] 1)).set (j.length+1) (.cells [.i TT.buf,.i TT.at_,.i TT.size] 1)).set (j.length+2) (.cells [.i MM.buf,.i MM.at_,.i MM.size] 1):=⟨_,rfl⟩;have H0:zz.length=B8.length:=by rw[gF];simp
  have FE:∀x,x<j.length→zz[x]?=B8[x]?:=λx hx=>by rw[gF,Jz J,Jz J,Jz J]
  have y0:zz[j.length]?=some (.cells SS.f 1):=by rw[gF,Jz J,Jz J];exact J3 J
  have y1:zz[j.length+1]?=some (.cells TT.f 1):=by rw[gF,Jz J];exact J3 Ab
  have y2:zz[j.length+2]?=some (.cells MM.f 1):=by rw[gF];exact J3 Ab
  have p0:(B8.set j.length (.cells [.i SS.buf,.i SS.at_,.i SS.size] 1))[j.length]?=some (.cells [.i SS.buf,.i SS.at_,.i SS.size] 1):=J3 J;have p1:((B8.set j.length (.cells [.i SS.buf,.i SS.at_,.i SS.size] 1)).set (j.length+1) (.cells [.i TT.buf,.i TT.at_,.i TT.size] 1))[j.length]?=some (.cells [.i SS.buf,.i SS.at_,.i SS.size] 1):=by rw[Jz J];exact p0
  obtain⟨FF,BP⟩:=Sg (G1:=zz) D7 (λx hx=>(FE x J).trans ((B9 x J).trans ((B6 x J).trans ((B4 x J).trans (Eg x hx))))) J;have E:j.length≠e:=J
  have F:j.length+1≠e:=J
  have H:j.length+2≠e:=J
  have m3:¬j.length=P:=J
  have m4:¬j.length+1=P:=J
  have m5:¬j.length+2=P:=J
  have FG:=BP.cells g D8;have zU:=BP.cells g jz;have zV:=BP.cells C zI;have jK:=BP.cells z gZ;have jL:=BP.cells A jg;have Q:=y0;have T:=y1;have U:=y2;unfold Pc.f at Q T U;simp[z0,z1,z2,jE,jF,jG,zO,zQ,zT,DM,DO,DP,jA,I,L,jB,jC,M,O,jD,zL,jH,jI,zM,DK,CQ,CR,DL,Pc.f,m3,m4,m5];simp[p0]
  repeat (refine⟨J,?_⟩)
  rw[←gF];refine Vy (p:=a) (x:=0) J λH4 c0 FH H5 H6 FI FK=>?_
  obtain⟨FL,jM⟩:=Sg FF FI FK;have zX:=jM.cells C zV;have jO:=jM.cells z jK;have jP:=jM.cells A jL;have jQ:=jM.cells E Q;have jR:=jM.cells F T;have jT:=jM.cells H U;have zY:=jM.cells g zU;have FM:=jM.cells g FG;simp[zV,jK,jL,Q,T,U,zU,zX,jO,jP,jQ,jR,jT,zY];refine Vy (p:=a) (x:=h) J λH7 c1 FO H8 H9 FP FQ=>?_
  obtain⟨FT,jU⟩:=Sg FL FP FQ;have Cj:=jU.cells C zX;have AF:=jU.cells z jO;have AG:=jU.cells A jP;have AH:=jU.cells E jQ;have AI:=jU.cells F jR;have AK:=jU.cells H jT;have Cz:=jU.cells g zY;have Ej:=jU.cells g FM;simp[zV,jK,jL,Q,T,U,zU,zX,jO,jP,jQ,jR,jT,zY,Cj,AF,AG,AH,AI,AK,Cz];have:=Wm (R:=R) (D:=deep) (to:=SS) (a:=c0) (b:=c1) (kd:=11) (n:=a.size-h+1) (keep:=true);refine ir (kd:=11) (n:=a.size-h+1) (to:=SS) (p:=c0) (q:=c1) (keep:=true) J J J J J J J Ej g FT Bh λIg FU gH=>?_
  have Ij:=gH.1;have jV:=gH.cells C Cj;have V:=gH.cells z AF;have X:=gH.cells A AG;have Y:=gH.cells E AH;have Z:=gH.cells F AI;have gg:=gH.cells H AK;have jX:=gH.cells g Cz;have FV:=gH.cells g Ej;simp[jV,V,X,Y,Z,gg,jX]
  repeat (refine⟨J,?_⟩)
  refine Vy (p:=b) (x:=0) J λIz d0 FX IA IB FY FZ=>?_
  obtain⟨F0,jY⟩:=Sg FU FY FZ;have zZ:=jY.cells C jV;have jZ:=jY.cells z V;have j4:=jY.cells A X;have j5:=jY.cells E Y;have j6:=jY.cells F Z;have j7:=jY.cells H gg;have z7:=jY.cells g jX;have F1:=jY.cells g FV;simp[jV,V,X,Y,Z,gg,jX,zZ,jZ,j4,j5,j6,j7,z7];refine Vy (p:=b) (x:=h) J λIC d1 F2 ID IE F3 F4=>?_
  obtain⟨F5,j8⟩:=Sg F0 F3 F4;have CA:=j8.cells C zZ;have AL:=j8.cells z jZ;have AM:=j8.cells A j4;have AO:=j8.cells E j5;have AP:=j8.cells F j6;have AQ:=j8.cells H j7;have CB:=j8.cells g z7;have Ez:=j8.cells g F1;simp[jV,V,X,Y,Z,gg,jX,zZ,jZ,j4,j5,j6,j7,z7,CA,AL,AM,AO,AP,AQ,CB];have:=Wm (R:=R) (D:=deep) (to:=TT) (a:=d0) (b:=d1) (kd:=11) (n:=a.size-h+1) (keep:=true);refine ir (kd:=11) (n:=a.size-h+1) (to:=TT) (p:=d0) (q:=d1) (keep:=true) J J J J J J J Ez g F5 Bh λIF F6 gI=>?_
  have IG:=gI.1;have CC:=gI.cells C CA;have AT:=gI.cells z AL;have AU:=gI.cells A AM;have AX:=gI.cells E AO;have AY:=gI.cells F AP;have AZ:=gI.cells H AQ;have CD:=gI.cells g CB;have EA:=gI.cells g Ez;simp[CC,AT,AU,AX,AY,AZ,CD]
  repeat (refine⟨J,?_⟩)
  have:=zbi (R:=R) (D:=deep) (to:=MM) (a:=SS) (b:=TT);refine z87 (to:=MM) (p:=SS) (q:=TT) hd J J J J EA g F6 Bh λIH F7 gK=>?_
  have II:=gK.1;have CE:=gK.cells C CC;have A2:=gK.cells z AT;have A3:=gK.cells A AU;have A4:=gK.cells E AX;have A5:=gK.cells F AY;have A6:=gK.cells H AZ;have CF:=gK.cells g CD;have EB:=gK.cells g EA;simp[CE,A2,A3,A4,A5,A6,CF];have:=Wm (R:=R) (D:=deep) (to:=MM) (a:=MM) (b:=LO) (kd:=12) (n:=MM.size) (keep:=true);refine ir (kd:=12) (n:=MM.size) (to:=MM) (p:=MM) (q:=LO) (keep:=true) J J J J J J J EB g F7 Bh λIK F8 gL=>?_
  have IL:=gL.1;have CG:=gL.cells C CE;have A7:=gL.cells z A2;have A8:=gL.cells A A3;have A9:=gL.cells E A4;have Bg:=gL.cells F A5;have Bj:=gL.cells H A6;have CH:=gL.cells g CF;have EC:=gL.cells g EB;simp[CG,A7,A8,A9,Bg,Bj,CH];have:=Wm (R:=R) (D:=deep) (to:=MM) (a:=MM) (b:=UP) (kd:=12) (n:=MM.size) (keep:=true);refine ir (kd:=12) (n:=MM.size) (to:=MM) (p:=MM) (q:=UP) (keep:=true) J J J J J J J EC g F8 Bh λIM F9 gM=>?_
  have IP:=gM.1;have CI:=gM.cells C CG;have Bz:=gM.cells z A7;have BA:=gM.cells A A8;have BB:=gM.cells E A9;have BC:=gM.cells F Bg;have BD:=gM.cells H Bj;have CK:=gM.cells g CH;have Gg:=gM.cells g EC;simp[CI,Bz,BA,BB,BC,BD,CK]
  repeat (refine⟨J,?_⟩)
  refine Vy (p:=DE) (x:=h) J λCL RR Gj IQ IR Gz GC=>?_
  obtain⟨GD,j9⟩:=Sg F9 Gz GC;have DQ:=j9.cells C CI;have CT:=j9.cells z Bz;have CU:=j9.cells A BA;have CV:=j9.cells E BB;have CX:=j9.cells F BC;have CY:=j9.cells H BD;have DT:=j9.cells g CK;have GF:=j9.cells g Gg;obtain⟨ED,BE⟩:∃G',G'=CL++[LObj.cells [.i RR.buf,.i RR.at_,.i RR.size] 1]:=⟨_,rfl⟩;have GG:∀x,x<CL.length→ED[x]?=CL[x]?:=λx hx=>by rw[BE];exact J4 hx
  have zR:ED[CL.length]?=some (.cells RR.f 1):=by rw[BE];exact Kg
  obtain⟨GH,zg⟩:=Sg GD GG (by rw[BE];simp);have GI:CL.length≠e:=J
  have CO:=zg.cells C DQ;have BF:=zg.cells z CT;have BG:=zg.cells A CU;have BH:=zg.cells E CV;have BI:=zg.cells F CX;have BK:=zg.cells H CY;have CP:=zg.cells g DT;have EE:=zg.cells g GF;have zj:=zR;unfold Pc.f at zj;simp[Pc.f];rw[←BE];simp[CO,BF,BG,BH,BI,BK,CP,zj];have:=Wm (R:=R) (D:=deep) (to:=RR) (a:=RR) (b:=MM) (kd:=11) (n:=RR.size) (keep:=true);refine ir (kd:=11) (n:=RR.size) (to:=RR) (p:=RR) (q:=MM) (keep:=true) J J J J J J J EE g GH Bh λIT GK gG=>?_
  have IU:=gG.1;have DU:=gG.cells C CO;have CZ:=gG.cells z BF;have C9:=gG.cells A BG;have Dg:=gG.cells E BH;have Dz:=gG.cells F BI;have DA:=gG.cells H BK;have DB:=gG.cells GI zj;have DV:=gG.cells g CP;have GL:=gG.cells g EE;simp[DU,CZ,C9,Dg,Dz,DA,DB,DV];have:=zft (R:=R) (D:=deep) (to:=d) (fr:=DE);refine za6 (to:=d) (p:=DE) J J J J J GL g GK (by simp only[J9];omega) λGM GO GP=>?_
  simp;refine k GM ?_ (k1.trans (k6.trans (k7.trans (k8.trans (k9.trans (BM.trans (BO.trans (zH.trans (BP.trans (jM.trans (jU.trans (gH.trans (jY.trans (j8.trans (gI.trans (gK.trans (gL.trans (gM.trans (j9.trans (zg.trans (gG.trans (GP))))))))))))))))))))));clear BQ zB BL gD gF;subst eA EF EG EK EL EM EV E6 Fg FC FH FO FX F2 Gj;unfold ju;rw[J1 GX];simp only[R4];simp only[←K0];exact GO
end put
end
def z7q{g:List Pc}(h:Wp vQ Y g vL uF=true){i:Nat}(hi:i<vQ.length):i<g.length∧0≤(Vn g i).at_∧(Vn g i).at_≤65536∧1≤(Vn g i).size∧(Vn g i).size≤32768:=by
 simp only[Wp,J2,Kb]at h;obtain⟨_,_,D,z,ha,_⟩:=h;have j:=Li.1 ha i (Mf.2 hi);simp only[js,J2]at j;obtain⟨n,_,hn,A,B,C,E,F⟩:=z3y j.1;have:=z7s z _ (Kj (T7 hn));exact⟨J,C,J,A,B⟩
def zye{o:Ko}{B:List Pc}(h:Wp vQ Y B vL uF=true):0≤(Z3 vQ o vL uF).at_∧(Z3 vQ o vL uF).at_≤65536:=by
 simp only[Wp,J2,Kb]at h;obtain⟨_,_,_,j,_,z,A⟩:=h;simp only[Yh,J2]at z A;unfold Z3;split
 ·obtain⟨n,_,hn,C,D,g,E,F⟩:=z3y z.1;have:=z7s j _ (Kj (T7 hn));exact⟨g,J⟩
 ·obtain⟨n,_,hn,C,D,g,E,F⟩:=z3y A.1;have:=z7s j _ (Kj (T7 hn));exact⟨g,J⟩
section
set_option linter.unusedVariables false
def z36:LC:=(.q [.x 3 1] (.seq (.draw [(.m 5 0,[]),(.N 6 5,[]),(.f 7 0 6,[]),(.l 8 7,[]),(.m 9 0,[]),(.N 10 9,[]),(.f 11 1 10,[]),(.l 12 11,[]),(.z 13 (.w 59 [.t 8,.t 12,.c (.u 0)]),[])]) (.q [.f 14 0 3,.l 15 14] (.block 0 (.q [.b 17 .eql 3 15 1,.m 16 17] (.cond (.t 16) (.seq (.draw [(.m 18 0,[]),(.N 19 18,[]),(.f 20 0 19,[]),(.l 21 20,[]),(.m 22 0,[]),(.N 23 22,[]),(.f 24 3 23,[]),(.z 25 (.ixAddrArr 10 1 (.t 24) (.k 0)),[]),(.l 26 25,[]),(.f 27 6 3,[]),(.l 28 27,[]),(.V 29 59 21 26 28,[])]) (.ops [.m 30 0,.m 31 0,.N 32 31,.f 33 3 32,.z 34 (.ixAddrArr 10 1 (.t 33) (.k 0)),.l 35 34,.W 36 60 30 35])) (.q [.b 38 .eql 3 15 2,.m 37 38] (.cond (.t 37) (.draw [(.m 39 0,[]),(.m 40 0,[]),(.N 41 40,[]),(.f 42 13 41,[]),(.L 43 3 42,[]),(.m 44 0,[]),(.N 45 44,[]),(.f 46 19 45,[]),(.L 47 3 46,[]),(.V 48 61 39 43 47,[])]) (.q [.b 50 .eql 3 15 3,.m 49 50] (.cond (.t 49) (.draw [(.m 51 0,[]),(.m 52 0,[]),(.N 53 52,[]),(.f 54 13 53,[]),(.L 55 3 54,[]),(.m 56 0,[]),(.N 57 56,[]),(.f 58 19 57,[]),(.L 59 3 58,[]),(.m 60 0,[]),(.N 61 60,[]),(.f 62 22 61,[]),(.L 63 3 62,[]),(.m 64 0,[]),(.N 65 64,[]),(.f 66 13 65,[]),(.f 67 2 66,[]),(.l 68 67,[]),(.z 69 (.w 62 [.t 51,.k 11,.t 55,.t 59,.t 63,.t 68,.T]),[])]) (.q [.b 71 .eql 3 15 4,.m 70 71] (.cond (.t 70) (.draw [(.m 72 0,[]),(.m 73 0,[]),(.N 74 73,[]),(.f 75 13 74,[]),(.L 76 3 75,[]),(.m 77 0,[]),(.N 78 77,[]),(.f 79 19 78,[]),(.L 80 3 79,[]),(.m 81 0,[]),(.N 82 81,[]),(.f 83 22 82,[]),(.L 84 3 83,[]),(.m 85 0,[]),(.N 86 85,[]),(.f 87 13 86,[]),(.f 88 2 87,[]),(.l 89 88,[]),(.z 90 (.w 62 [.t 72,.k 12,.t 76,.t 80,.t 84,.t 89,.T]),[])]) (.q [.b 92 .eql 3 15 5,.m 91 92] (.cond (.t 91) (.seq (.draw [(.m 93 0,[]),(.N 94 93,[]),(.f 95 28 94,[]),(.L 96 3 95,[]),(.m 97 0,[]),(.N 98 97,[]),(.f 99 19 98,[]),(.f 100 2 99,[]),(.l 101 100,[]),(.m 102 0,[]),(.N 103 102,[]),(.f 104 22 103,[]),(.f 105 2 104,[]),(.l 106 105,[]),(.c 107 .add 3 101 106,[]),(.z 4 (.alloc [(.i 0),(.i 0),(.i 0)]),[(.l 106 105,false),(.l 101 100,false),(.L 96 3 95,false)]),(.z 108 (.w 63 [.t 96,.k 0,.t 107]),[(.z 4 (.alloc [(.i 0),(.i 0),(.i 0)]),true)]),(.S 3 4 108,[])]) (.seq (.draw [(.m 109 0,[]),(.L 110 3 4,[]),(.m 111 0,[]),(.N 112 111,[]),(.f 113 19 112,[]),(.L 114 3 113,[]),(.m 115 0,[]),(.N 116 115,[]),(.f 117 22 116,[]),(.L 118 3 117,[]),(.z 119 (.w 64 [.t 109,.t 110,.t 114,.t 118]),[])]) (.draw [(.m 120 0,[]),(.m 121 0,[]),(.N 122 121,[]),(.f 123 13 122,[]),(.L 124 3 123,[]),(.L 125 3 4,[]),(.V 126 61 120 124 125,[])]))) (.q [.b 128 .eql 3 15 6,.m 127 128] (.cond (.t 127) (.ops [.m 129 0,.w 130 65 129]) (.q [.b 132 .eql 3 15 7,.m 131 132] (.cond (.t 131) (.seq (.draw [(.m 133 0,[]),(.m 134 0,[]),(.N 135 134,[]),(.f 136 13 135,[]),(.L 137 3 136,[]),(.m 138 0,[]),(.N 139 138,[]),(.f 140 19 139,[]),(.L 141 3 140,[]),(.m 142 0,[]),(.N 143 142,[]),(.f 144 22 143,[]),(.L 145 3 144,[]),(.m 146 0,[]),(.N 147 146,[]),(.f 148 19 147,[]),(.f 149 2 148,[]),(.l 150 149,[]),(.m 151 0,[]),(.N 152 151,[]),(.f 153 22 152,[]),(.f 154 2 153,[]),(.l 155 154,[]),(.z 156 (.maxi true (.t 150) (.t 155)),[]),(.z 157 (.w 62 [.t 133,.k 12,.t 137,.t 141,.t 145,.t 156,.F]),[])]) (.ops [.m 158 0,.m 159 0,.N 160 159,.f 161 2 160,.l 162 161,.W 163 60 158 162])) (.q [.b 165 .eql 3 15 8,.m 164 165] (.cond (.t 164) (.ops [.m 166 0,.w 167 66 166]) (.q [.b 169 .eql 3 15 9,.m 168 169] (.cond (.t 168) (.ops [.m 170 0,.w 171 67 170]) (.q [.b 173 .eql 3 15 10,.m 172 173] (.cond (.t 172) (.ops [.m 174 0,.w 175 68 174]) (.q [.b 177 .eql 3 15 11,.m 176 177] (.cond (.t 176) (.ops [.m 178 0,.w 179 69 178]) (.q [.b 181 .eql 3 15 14,.m 180 181] (.cond (.t 180) (.ops [.m 182 0,.w 183 70 182]) .skip))))))))))))))))))))))))))))
def r_expand_coder_code:Pk Tryz.prog 33=some ⟨184,z36.r,[]⟩:=Aa
def k_expand_coder_code:z36.ok=true:=Aa
def Zm(kd:Int)(g:UInt64)(d a b w:Pc)(R D:Int):List Lo :=
 cK R 0::(if kd=1 then cK (R+2) g::Qn d (-1) 0 (R+2)::(Uo (P2 d 1 (d.size-1)) R D).flat else if kd=2 then (Sd d a R D).flat
  else if kd=3 then (R7 11 d a b d.size true R D).flat else if kd=4 then (R7 12 d a b d.size true R D).flat
  else if kd=5 then (Sm (P2 w 0 (a.size+b.size)) a b R D).flat++(Sd d (P2 w 0 (a.size+b.size)) R D).flat
  else if kd=6 then (ju d a b w (a.size/2) R D).flat
  else (R7 12 d a b (max a.size b.size) false R D).flat++Qn d (-1) 0 (R+1)::(Uo (P2 d 1 (d.size-1)) R D).flat)
def U9(p:Pc):Prop:=0≤p.at_∧p.at_≤100000∧0≤p.size∧p.size≤32768
section put
variable {G : Pd} {K : LV → Pd → Prop} {e P st : Nat} {ops : List Lo} {deep R : Int} {d d2 a b c w p q to : Pc}
def qy{o:Ko}(hk:1≤o.kind∧o.kind≤7)(hd:0≤deep∧deep≤40)(pd:U9 d)(pa:U9 a)(pb:U9 b)(pw:U9 w)(h6:o.kind=6→1≤a.size∧a.size≤10000∧b.size=a.size)
  (hP:G[P]?=some (.cells (Px e R d d2 a b c w) st)) (g:P≠e) (h:P5 G e ops deep) (hl:ops.length≤500000) (k:∀G',P5 G' e (ops++Zm o.kind o.imm d a b w R deep) deep→Kp e G G'→K (.tup []) G') :
  Ql (.fn 33) [.ptr P 0,.agg o.f] G K:=by
 refine Pj r_expand_coder_code k_expand_coder_code N ?_;obtain⟨d1,gD,d3,d4⟩:=pd;obtain⟨a1,a2,a3,a4⟩:=pa;obtain⟨b1,b2,b3,b4⟩:=pb;obtain⟨w1,w2,w3,w4⟩:=pw;have hf:o.f=[.i o.kind,.i o.d,.i o.e,.i o.a,.i o.b,.i o.c,.u o.imm]:=rfl;have lP:=(Jy.1 hP).1;have le:e<G.length:=Ah
 obtain⟨X,C⟩:∃X,X=G++[LObj.cells o.f 0]:=⟨_,rfl⟩;have o0:∀x,x<G.length→X[x]?=G[x]?:=λx T=>by rw[C];exact J4 T
 have z0:X[G.length]?=some (.cells o.f 0):=by rw[C];exact Kg
 obtain⟨h0,k0⟩:=Sg h o0 Fh;have nz:G.length≠e:=J
 have Q0:=k0.cells g hP;have f0:=Q0;unfold Px at f0;simp[z36];rw[←C];rw[hf]at z0;simp[f0,z0];refine z9d h0 J λH M U=>?_
 have I:=U.cells g Q0;have A:=U.cells g f0;have L:=U.cells nz z0;have gg:=(Jy.1 A).1;simp[L];have O:=k0.trans U;by_cases g1:o.kind=1
 ·simp[g1,L,A];refine z9d M Ab λj B z=>?_
  have Q2:=z.cells g I;have f2:=z.cells g A;simp[f2];refine zy1 (d:=d) J J J Q2 g B Ab λQ h3 k3=>?_
  simp;exact k Q (by simpa [Zm,g1] using h3) (O.trans (z.trans k3))
 by_cases g2:o.kind=2
 ·simp[g2,L,A];refine za6 (to:=d) (p:=a) J J J J J I g M Ab λj B z=>?_
  simp;exact k j (by simpa [Zm,g2] using B) (O.trans z)
 by_cases g3:o.kind=3
 ·simp[g3,L,A];refine ir (to:=d) (p:=a) (q:=b) J J J J J J J I g M Ab λj B z=>?_
  simp;exact k j (by simpa [Zm,g3] using B) (O.trans z)
 by_cases g4:o.kind=4
 ·simp[g4,L,A];refine ir (to:=d) (p:=a) (q:=b) J J J J J J J I g M Ab λj B z=>?_
  simp;exact k j (by simpa [Zm,g4] using B) (O.trans z)
 by_cases g5:o.kind=5
 ·simp[g5,L,A,↓Ph gg]
  repeat (refine⟨J,?_⟩)
  obtain⟨j,E⟩:∃j,j=H++[LObj.cells [.i 0,.i 0,.i 0] 0]:=⟨_,rfl⟩;have o2:∀x,x<H.length→j[x]?=H[x]?:=λx T=>by rw[E];exact J4 T
  have y2:j[H.length]?=some (.cells [.i 0,.i 0,.i 0] 0):=by rw[E];exact Kg
  have l2:j.length=H.length+1:=by rw[E];simp
  rw[←E];refine Vy (p:=w) (x:=0) J λQ Y qA aA sA o3 l3=>?_
  have y3:=(o3 _ J).trans y2;obtain⟨V,F⟩:∃V,V=Q.set H.length (.cells [.i Y.buf,.i Y.at_,.i Y.size] 1):=⟨_,rfl⟩;have l4:V.length=Q.length:=by rw[F];simp
  have y4:V[H.length]?=some (.cells [.i Y.buf,.i Y.at_,.i Y.size] 1):=by rw[F];exact J3 J
  obtain⟨h4,k4⟩:=Sg (G1:=V) M (λx T=>by rw[F,Jz J];exact (o3 x J).trans (o2 x T)) J;have Q4:=k4.cells g I;have f4:=k4.cells g A;have nA:H.length≠e:=by have:=U.1;have:=k0.1;omega
  simp[y2,y3,Pc.f];rw[←F];simp[y4,f4];refine z87 (to:=Y) (p:=a) (q:=b) J J J J J Q4 g h4 Ab λG5 h5 Z=>?_
  have Q5:=Z.cells g Q4;have f5:=Z.cells g f4;have y5:=Z.cells nA y4;have:=zbi (R:=R) (D:=deep) (to:=Y) (a:=a) (b:=b);simp[y5,f5];refine za6 (to:=d) (p:=Y) J J J J J Q5 g h5 Ab λG6 h6 k6=>?_
  simp;exact k G6 (by simpa [Zm,g5,qA] using h6) (O.trans (k4.trans (Z.trans k6)))
 by_cases g6:o.kind=6
 ·simp[g6,L,A];obtain⟨gF,gG,gH⟩:=h6 g6;refine zxf (d:=d) (a:=a) (b:=b) (w:=w) (h:=a.size/2) J (O4 J) J J J J J J J J I g M Ab λj B z=>?_
  simp;exact k j (by simpa [Zm,g6] using B) (O.trans z)
 ·have g7:o.kind=7:=J
  simp[g7,L,A];have:=Wm (R:=R) (D:=deep) (to:=d) (a:=a) (b:=b) (kd:=12) (n:=max a.size b.size) (keep:=false);refine ir (to:=d) (p:=a) (q:=b) J J J J J J J I g M Ab λj B z=>?_
  have Q2:=z.cells g I;have f2:=z.cells g A;simp[f2];refine zy1 (d:=d) J J J Q2 g B Ab λQ h3 k3=>?_
  simp;exact k Q (by simpa [Zm,g7] using h3) (O.trans (z.trans k3))
end put
end
section
set_option linter.unusedVariables false
def zei:LC:=(.q [.x 5 1,.x 6 2,.e 8,.K 9 0] (.seq (.seq (.draw [(.m 16 0,[]),(.L 17 7 5,[]),(.L 18 8 6,[]),(.m 19 3,[]),(.m 20 0,[]),(.L 21 7 5,[]),(.W 22 11 20 21,[(.L 18 8 6,false),(.L 17 7 5,false)]),(.z 23 (.w 31 [.t 16,.t 17,.t 18,.t 19,.t 22]),[]),(.z 24 (.un .not (.t 23)),[])]) (.cond (.t 24) (.q [.e 8,.K 9 2] .ret) .skip)) (.q [.m 26 0,.L 27 7 5,.L 28 8 6,.V 29 32 26 27 28,.m 25 29,.X 30 0 25,.X 31 1 25,.z 11 (.alloc [(.i 0),(.i 0),(.i 0)]),.m 10 30,.S 3 11 31] (.q [.m 32 3,.z 33 (.build [.nilSl,(.i 0)] [(1,1,.t 32)]),.x 34 33,.m 35 10,.m 36 10,.b 37 .add 3 36 1,.L 38 3 11,.z 39 (.build [.nilPtr,(.i 0),(.i 0),(.i 0),(.i 0),(.i 0),(.i 0),(.i 0),(.i 0),(.i 0),(.i 0),(.i 0),(.i 0),(.i 0),(.i 0),(.i 0),(.i 0),(.i 0),(.i 0),(.i 0),(.i 0),(.i 0),(.i 0),(.i 0),(.i 0),(.i 0),(.i 0),(.i 0),(.i 0),(.i 0),(.i 0)] [(0,1,.t 34),(1,1,.t 35),(2,1,.t 37),(28,3,.t 38)]),.x 40 39,.m 12 40] (.seq (.q [.K 41 0] (.block 0 (.loop (.q [.b 42 .lss 3 41 10] (.seq (.cond (.t 42) .skip (.exit 0)) (.seq (.block 1 (.q [.m 43 41,.m 13 43] (.ops [.m 44 12,.m 45 13,.m 46 10,.b 47 .add 3 46 2,.m 48 13,.c 49 .add 3 47 48,.N 50 44,.f 51 3 50,.z 52 (.ixAddrArr 10 1 (.t 51) (.t 45)),.S 1 52 49]))) (.ops [.b 53 .add 3 41 1,.m 41 53]))))))) (.seq (.q [.f 54 1 5,.l 55 54,.f 56 2 5,.l 57 56,.f 58 3 5,.l 59 58,.f 60 4 5,.l 61 60,.f 62 5 5,.l 63 62,.z 64 (.buildSl 1 5 [(.i 0),(.i 0),(.i 0),(.i 0),(.i 0)] [(0,1,.t 55),(1,1,.t 57),(2,1,.t 59),(3,1,.t 61),(4,1,.t 63)]),.s 65 64,.K 66 0] (.block 2 (.loop (.q [.c 67 .lss 3 66 65] (.seq (.cond (.t 67) .skip (.exit 2)) (.seq (.block 3 (.q [.m 68 66,.I 69 1 64 66,.l 70 69,.m 14 68,.m 15 70] (.q [.m 71 15,.b 72 .geq 3 71 0] (.cond (.t 72) (.draw [(.m 73 12,[]),(.N 74 73,[]),(.f 75 13 74,[]),(.m 76 12,[]),(.N 77 76,[]),(.f 78 16 77,[]),(.m 79 12,[]),(.N 80 79,[]),(.f 81 19 80,[]),(.m 82 12,[]),(.N 83 82,[]),(.f 84 22 83,[]),(.m 85 12,[]),(.N 86 85,[]),(.f 87 25 86,[]),(.z 88 (.buildSl 1 5 [.nilPtr,.nilPtr,.nilPtr,.nilPtr,.nilPtr] [(0,1,.t 75),(1,1,.t 78),(2,1,.t 81),(3,1,.t 84),(4,1,.t 87)]),[]),(.m 89 14,[]),(.I 90 1 88 89,[]),(.l 91 90,[]),(.f 92 1 6,[]),(.l 93 92,[]),(.m 94 15,[]),(.I 95 3 93 94,[]),(.L 96 3 95,[]),(.N 97 91,[]),(.S 3 97 96,[])]) .skip)))) (.ops [.b 98 .add 3 66 1,.m 66 98]))))))) (.q [.m 99 12,.L 100 7 5,.W 101 33 99 100] (.q [.m 102 12,.N 103 102,.f 104 0 103,.l 105 104,.N 106 105,.f 107 0 106,.l 108 107,.m 8 108,.K 9 0] .ret))))))))
def r_expand_Code:Pk Tryz.prog 12=some ⟨109,zei.r,[.tmp 8,.tmp 9]⟩:=Aa
def Ua(g:List Pc)(v:Int):Pc:=if 0≤v then Vn g v.toNat else ⟨0,0,0⟩
def tu{o:Ko}{B:List Pc}(h:Wp vQ Y B vL uF=true):U9 (Z3 vQ o vL uF):=by
 simp only[Wp,J2,Kb]at h;obtain⟨_,_,_,j,_,z,A⟩:=h;simp only[Yh,J2]at z A;unfold Z3;split
 ·obtain⟨n,_,hn,C,D,g,E,F⟩:=z3y z.1;have:=z7s j _ (Kj (T7 hn));exact⟨g,J,J,J⟩
 ·obtain⟨n,_,hn,C,D,g,E,F⟩:=z3y A.1;have:=z7s j _ (Kj (T7 hn));exact⟨g,J,J,J⟩
def zm1{g:List Pc}(h:Wp vQ Y g vL uF=true){v:Int}(hi:0≤v∧v<vQ.length):(Ua g v).size=Qs vQ v∧1≤Qs vQ v∧Qs vQ v≤512:=by
 simp only[Wp,J2,Kb]at h;obtain⟨hv,_,z,A,ha,_⟩:=h;have j:=Li.1 ha v.toNat (Mf.2 J);simp only[js,J2,Kb]at j;refine⟨?_,zv0 hv hi.1 hi.2⟩;unfold Ua Qs;rw[J6 hi.1];exact j.2.1
def pW(g:List Pc)(k i:Nat)(v:Int):Pc:=if k<i then Ua g v else ⟨0,0,0⟩
def mi(o:Ko)(B:List Bf)(C:List Pc)(z A w:Pc)(j g:Int)(i st:Nat):Pd :=
 [.cells [.i o.kind,.i o.d,.i o.e,.i o.a,.i o.b,.i o.c,.u o.imm] 0,.cells [.lst (Rz B) B.length 3,.lst (Yl C) C.length 3,.i z.buf,.i z.at_,.i z.size,.i A.buf,.i A.at_,.i A.size] 0,.cells [.i w.buf,.i w.at_,.i w.size] 1,.cells [.nilSl,.i j] 0,
  .cells [.ptr 3 0,.i g,.i (g+1),if 0<i then .i (g+2) else .i 0,if 1<i then .i (g+3) else .i 0,if 2<i then .i (g+4) else .i 0,if 3<i then .i (g+5) else .i 0,if 4<i then .i (g+6) else .i 0,if 5<i then .i (g+7) else .i 0,if 6<i then .i (g+8) else .i 0,if 7<i then .i (g+9) else .i 0,if 8<i then .i (g+10) else .i 0,if 9<i then .i (g+11) else .i 0,
   .i 0,.i 0,.i 0,.i 0,.i 0,.i 0,.i 0,.i 0,.i 0,.i 0,.i 0,.i 0,.i 0,.i 0,.i 0,.i w.buf,.i w.at_,.i w.size] st]
def zs{n s i:Nat}{v:Int}(h:To n s i v=true):v=-1∨(0≤v∧v<n):=y9 h
end
def zh0:LC:=(.q [.x 1 0,.e 2] (.q [.L 10 3 1,.w 11 39 10,.m 9 11,.X 12 0 9,.X 13 1 9,.m 3 12,.m 4 13] (.seq (.q [.m 14 4,.b 15 .neq 37 14 0] (.cond (.t 15) (.q [.e 2] .ret) .skip)) (.q [.f 16 2 1,.l 17 16,.s 18 17,.z 19 (.mkSl 1 [(.i 0)] (.t 18) (.t 18)),.m 5 19] (.q [.e 6] (.seq (.q [.K 7 0] (.block 0 (.loop (.seq (.q [.m 20 7,.f 21 2 1,.l 22 21,.s 23 22,.c 24 .lss 3 20 23] (.cond (.t 24) .skip (.exit 0))) (.seq (.block 1 (.q [.m 27 5,.m 28 7,.I 29 1 27 28,.v (.store 1 (.t 29) (.k (-1)))] (.q [.f 30 2 1,.l 31 30,.m 32 7,.I 33 8 31 32,.f 34 0 33,.l 35 34] (.block 2 (.q [.b 37 .eql 3 35 16,.m 36 37] (.cond (.t 36) (.ops [.m 38 6,.m 39 7,.z 40 (.buildSl 1 1 [(.i 0)] [(0,1,.t 39)]),.a 41 1 38 40,.m 6 41]) (.q [.b 43 .eql 3 35 17,.m 42 43] (.cond (.t 42) (.q [.m 44 6,.m 45 6,.s 46 45,.b 47 .sub 3 46 1,.I 48 1 44 47,.l 49 48,.m 8 49] (.q [.m 50 6,.m 51 6,.s 52 51,.b 53 .sub 3 52 1,.z 54 (.slSl 1 (.t 50) none (some (.t 53))),.m 6 54] (.ops [.m 55 5,.m 56 7,.m 57 5,.m 58 8,.m 59 8,.m 60 7,.I 61 1 55 56,.S 1 61 59,.I 62 1 57 58,.S 1 62 60]))) .skip)))))))) (.ops [.m 25 7,.b 26 .add 3 25 1,.m 7 26])))))) (.q [.m 63 5,.m 2 63] .ret)))))))
def r_ref12_Ends:Pk Tryz.prog 44=some ⟨64,zh0.r,[.tmp 2]⟩:=Aa
def zfi:LC:=(.q [.x 1 0,.K 2 0] (.q [.L 11 3 1,.w 12 39 11,.m 10 12,.X 13 0 10,.X 14 1 10,.m 3 13,.m 4 14] (.seq (.q [.m 15 4,.b 16 .neq 37 15 0] (.cond (.t 16) (.q [.K 2 0] .ret) .skip)) (.q [.e 5] (.q [.K 6 0] (.q [.e 7] (.seq (.q [.K 8 0] (.block 0 (.loop (.seq (.q [.m 17 8,.f 18 2 1,.l 19 18,.s 20 19,.c 21 .lss 3 17 20] (.cond (.t 21) .skip (.exit 0))) (.seq (.block 1 (.q [.f 24 2 1,.l 25 24,.m 26 8,.I 27 8 25 26,.f 28 0 27,.l 29 28] (.block 2 (.q [.b 34 .eql 3 29 16,.m 33 34] (.cond (.t 33) (.seq (.draw [(.m 35 5,[]),(.m 36 6,[]),(.z 37 (.buildSl 1 1 [(.i 0)] [(0,1,.t 36)]),[]),(.m 39 7,[]),(.f 40 2 1,[]),(.l 41 40,[]),(.m 42 8,[]),(.I 43 8 41 42,[]),(.f 44 7 43,[]),(.l 45 44,[]),(.z 46 (.cvInt .i64 (.t 45)),[]),(.z 47 (.buildSl 1 1 [(.i 0)] [(0,1,.t 46)]),[(.l 45 44,false),(.l 41 40,false),(.z 37 (.buildSl 1 1 [(.i 0)] [(0,1,.t 36)]),true)]),(.a 38 1 35 37,[(.z 47 (.buildSl 1 1 [(.i 0)] [(0,1,.t 46)]),true),(.l 45 44,false),(.l 41 40,false)]),(.a 48 1 39 47,[]),(.m 5 38,[]),(.m 7 48,[])]) (.ops [.K 6 1])) (.q [.b 50 .eql 3 29 17,.m 49 50] (.cond (.t 49) (.q [.m 51 5,.s 52 51,.b 53 .sub 3 52 1,.m 9 53] (.seq (.q [.m 54 6,.m 55 7,.m 56 9,.I 57 1 55 56,.l 58 57,.z 59 (.bin .quo true 3 (.k 1125899906842624) (.t 58)),.c 60 .gtr 3 54 59] (.cond (.t 60) (.ops [.K 6 1125899906842624]) (.ops [.m 61 6,.m 62 7,.m 63 9,.I 64 1 62 63,.l 65 64,.c 66 .mul 3 61 65,.m 6 66]))) (.q [.m 67 6,.m 68 5,.m 69 9,.I 70 1 68 69,.l 71 70,.c 72 .add 3 67 71,.z 73 (.maxi false (.k 1125899906842624) (.t 72)),.m 6 73] (.draw [(.m 74 5,[]),(.m 75 9,[]),(.z 76 (.slSl 1 (.t 74) none (some (.t 75))),[]),(.m 77 7,[]),(.m 78 9,[]),(.z 79 (.slSl 1 (.t 77) none (some (.t 78))),[]),(.m 5 76,[]),(.m 7 79,[])])))) (.ops [.m 30 6,.b 31 .add 3 30 1,.z 32 (.maxi false (.k 1125899906842624) (.t 31)),.m 6 32])))))))) (.ops [.m 22 8,.b 23 .add 3 22 1,.m 8 23])))))) (.q [.m 80 6,.m 2 80] .ret))))))))
def r_ref12_Steps:Pk Tryz.prog 42=some ⟨81,zfi.r,[.tmp 2]⟩:=Aa
def zbr:LC:=(.q [.x 2 0,.F 4] (.seq (.q [.m 7 1,.s 8 7,.f 9 1 2,.l 10 9,.s 11 10,.c 12 .neq 3 8 11] (.cond (.t 12) (.q [.F 4] .ret) .skip)) (.seq (.q [.K 5 0] (.block 0 (.loop (.seq (.q [.m 13 5,.m 14 1,.s 15 14,.c 16 .lss 3 13 15] (.cond (.t 16) .skip (.exit 0))) (.seq (.block 1 (.q [.f 19 1 2,.l 20 19,.m 21 5,.I 22 3 20 21,.f 23 0 22,.l 24 23,.m 6 24] (.seq (.q [.f 25 1 2,.l 26 25,.m 27 5,.I 28 3 26 27,.f 29 1 28,.l 30 29,.b 31 .eql 3 30 3] (.cond (.t 31) (.ops [.K 6 0]) .skip)) (.q [.m 32 1,.m 33 5,.I 34 1 32 33,.l 35 34,.s 36 35,.m 37 6,.c 38 .neq 3 36 37] (.cond (.t 38) (.q [.F 4] .ret) .skip))))) (.ops [.m 17 5,.b 18 .add 3 17 1,.m 5 18])))))) (.q [.z 4 (.move .T)] .ret))))
def r_ref12_Rows:Pk Tryz.prog 43=some ⟨39,zbr.r,[.tmp 4]⟩:=Aa
def zma{g:Int}{z:List Bf}:∀(l:List Lo) (i:Nat) (m:List Bool) (A:List Int),(gy g z i m A l).2=0→∀o∈l,R6 g z o=true
 |[],_,_,_,_,o,ho=>by cases ho
 |o::l,i,m,A,h,x,B=>by
  unfold gy at h;by_cases j:(Wx g z m A o).1=0
  ·rw[J6 j]at h;rcases Ka.1 B with rfl|B
   ·cases C:R6 g z x with
    |true=>rfl
    |false =>
     unfold Wx at j;rw[J6 C]at j;exact absurd (show (2:Int)=0 from j) Ac
   ·exact zma l _ _ _ h x B
  ·rw[J1 j]at h;exact absurd h j
def z7r{os:List Lo}(h:(Tf z Y os).2=0):0≤z∧z≤64∧Y.length≤32∧os.length≤65536∧(∀b∈Y,1≤b.size∧b.size≤65536)∧∀o∈os,R6 z Y o=true:=by
 unfold Tf at h;split at h
 ·exact absurd h Ac
 split at h
 ·exact absurd h Ac
 split at h
 ·exact absurd h Ac
 split at h
 ·exact absurd h Ac
 rename_i A g B j;refine⟨J,J,J,J,λb hb=>?_,zma _ _ _ _ h⟩;rw[La]at g j;have C:¬65536<b.size:=λq=>g ⟨b,hb,by simpa using q⟩
 have D:¬b.size<1:=λq=>j ⟨b,hb,by simp[q]⟩
 omega
def zmj{o:Lo}(h:R6 z Y o=true)(k:o.kind=16):1≤o.imm.toNat∧o.imm.toNat≤1048576:=by
 unfold R6 at h;simp[k,Re]at h;obtain⟨_,_,_,_,_,_,_,g,j⟩:=h;have g:=L4.1 g;have j:=L4.1 j;exact⟨g,j⟩
def skC(l:List Nat):List LV:=l.reverse.map λ(a:Nat)=>LV.i (a:Int)
def zo2(a:Nat)(l:List Nat):skC (a::l)=skC l++[.i (a:Int)]:=by simp[skC]
def zsy(l:List Nat):(skC l).length=l.length:=by simp[skC]
def wi{l:List Lo}{i:Nat}{v:Lo}(h:l[i]?=some v):(Tu l)[i*8]?=some (.i v.kind):=by have:=zph h (j:=0) J;simpa [Lo.f] using this
def lo_at7{l:List Lo}{i:Nat}{v:Lo}(h:l[i]?=some v):(Tu l)[i*8+7]?=some (.u v.imm):=by have:=zph h (j:=7) J;simpa [Lo.f] using this
def zwa{l:List LV}{i:Nat}{x:LV}(h:i<l.length):Qj l i [x]=l.set i x:=by
 rw[K3,J6 h];simp[Qj]
def layI(l:List Int)(i:Nat)(x:Int)(h:i<l.length):Qj (l.map LV.i) i [.i x]=(l.set i x).map LV.i:=by
 rw[Ll,K3,J6 Aw];simp[Qj]
def repIs(n:Nat):Rl [.i 0] n=(List.replicate n (0:Int)).map LV.i:=by
 induction n with
 |zero=>rfl
 |succ n g=>rw[Rl,g,Na];rfl
def zmi{os:List Lo}(hc:(Tf z Y os).2=0)(hb:Yv Sr 0 os):Rk 44 [.agg (Pm z Y os)] (.lst ((X2 0 [] (List.replicate os.length 0) os).map .i) os.length 1):=by
 obtain⟨_,_,_,gL,_,gD⟩:=z7r hc;refine Uy.mk Is (Pj r_ref12_Ends Aa (by simp) ?_);simp[zh0,Pm];refine Pr (z4j z Y os) (bors_self _ Bm) ?_;obtain⟨gK,hE⟩:∃gK,X2 0 [] (List.replicate os.length 0) os=gK:=⟨_,rfl⟩;have gM:gK.length=os.length:=by rw[←hE,endsR_len];simp
 rw[hE];simp[hc];refine⟨J,?_⟩;refine Qt (λρ gT Z N=>∃(i st:Nat) (j:List Int) (B:List Nat) (v:LV),gT=[]∧N+i=os.length∧lk ρ 1=.ptr 0 0∧lk ρ 5=.dy 1 0∧lk ρ 6=v∧lk ρ 7=.i i∧Z[0]?=some (.cells (Pm z Y os) 0)∧Z[1]?=some (.dyn (j.map .i) os.length 1 0 st)∧j.length=os.length∧Ra 2 Z v 1 B.length (skC B)∧2≤Z.length ∧
   (∀a∈B,a<i)∧B.length≤i∧Yv Sr B.length (os.drop i)∧X2 i B j (os.drop i)=gK) (N:=os.length)
  ⟨0,0,List.replicate os.length 0,[],.nilSl,rfl,J,by simp,by simp,by simp,by simp,Ch,by simp[repIs],by simp,Ra.nil,by simp,by simp,by simp,Gy,by simpa using hE⟩ ?_
 clear hb;rintro N ρ gT Z ⟨i,st,j,B,v,rfl,hN,I,H,R,O,D,F,g,gF,T,G,K,hb,E⟩ Nx L;by_cases gg:i<os.length
 case neg =>
  rw[L6 J]at E;have:j=gK:=E;subst this;simp[I,H,O,D,Pm,gg,P9,bor,F,b9]
 have ho:=zgs gg;have M:=wi ho;have gO:=gD _ (Kj ho);rw[zhw gg]at E hb;generalize mh os i=o at *;have l0:0<Z.length:=J
 have l1:1<Z.length:=J
 have gR:=zn1 gg;unfold X2 at E;unfold Yv at hb;have P:∀x:LObj,(Z.set 1 x)[0]?=some (.cells (Pm z Y os) 0):=λx=>by rw[Jz J];exact D
 have s1:∀x:LObj,(Z.set 1 x)[1]?=some x:=λx=>J3 l1
 have Q:∀x:LObj,Ra 2 (Z.set 1 x) v 1 B.length (skC B):=λx=>gF.set_lt J
 by_cases A:o.kind=16
 ·rw[J6 A]at E;rw[J6 (by simp[Sr,A])]at hb;simp[I,H,R,O,D,F,Pm,gg,g,layI,↓P,Pe M,A]
  repeat (refine⟨J,?_⟩)
  refine Ra.push (x:=[.i (i:Int)]) (Q _).push_end J Ab J rfl rfl λv' G5 gG U gH _=>?_
  simp[O];refine⟨J,L _ _ _ ⟨N-1,J,i+1,st+1,j.set i (-1),i::B,v',rfl,J,Bn,A1,by simp,by simp,?_,?_,Be,by rw[zo2];exact gG,by simp at gH;omega,λa ha=>?_,Ab,hb,E⟩⟩
  ·rw[U 0 J,Ph (by simpa using l0)];exact P _
  ·rw[U 1 J,Ph (by simpa using l1),←Ll];exact s1 _
  ·rcases Ka.1 ha with rfl|ha
   ·omega
   ·have:=G a ha;omega
 by_cases C:o.kind=17
 ·rw[J1 A,J6 C]at E;rw[J1 (by simp[Sr,C]),J6 (by simp[Sr,C])]at hb;obtain⟨hd,hb⟩:=hb;cases B with
  |nil=>simp at hd
  |cons a B =>
  have ha:=G a (K2 ..);simp[I,H,R,O,D,F,Pm,gg,g,layI,↓P,Pe M,A,C]
  repeat (refine⟨J,?_⟩)
  refine (Q _).lenL ?_;simp;refine⟨by simp at K;omega,(Q _).at1 J Ab λw hw=>?_⟩;simp;refine hw _ ?_;have V:(skC (a::B))[B.length]?=some (.i (a:Int)):=by
   rw[zo2,Kl (by rw[zsy];exact J8 _)];simp[zsy]
  simp only[Kr];refine⟨_,V,?_⟩;simp[R];refine (Q _).lenL ?_;simp;refine⟨by simp at K;omega,(Q _).cut (m:=B.length) (by simp) (λK' k'=>k') (λd K' k'=>⟨J,k'⟩) λv' X=>?_⟩;have gI:a<os.length:=J
  simp[H,O,↓s1,gg,g,zwa,gI];rw[zo2,M9 (by rw[zsy];omega)]at X
  repeat (refine⟨J,?_⟩)
  refine L _ _ _ ⟨N-1,J,i+1,st+1+1+1,((j.set i (-1)).set i a).set a i,B,v',rfl,J,Bn,A1,by simp,by simp,?_,?_,Be,?_,by simpa using T,λx V=>by have:=G x (Kf _ V);omega,by simp at K;omega,?_,E⟩
  ·exact P _
  ·rw[J3 (by simpa using l1)];simp
  ·have h:=X.set_lt (q:=1) (ob:=.dyn ((((j.map LV.i).set i (.i (-1))).set i (.i a)).set a (.i i)) os.length 1 0 (st+1+1+1)) J;rw[List.set_set]at h;simpa using h
  ·simpa using hb
 rw[J1 A,J1 C]at E;rw[J1 (by simp[Sr,A];split<;>simp),J1 (by simp[Sr,A,C])]at hb;simp[I,H,R,O,D,F,Pm,gg,g,layI,↓P,Pe M,A,C]
 repeat (refine⟨J,?_⟩)
 refine L _ _ _ ⟨N-1,J,i+1,st+1,j.set i (-1),B,v,rfl,J,Bn,A1,Cn,by simp,P _,?_,Be,Q _,by simpa using T,λx V=>by have:=G x V;omega,J,hb.2,E⟩;rw[←Ll];exact s1 _
def s1C(l:List (Int×Int)):List LV:=l.reverse.map λe=>LV.i e.1
def s2C(l:List (Int×Int)):List LV:=l.reverse.map λe=>LV.i e.2
def zhi(a:Int×Int)(l:List (Int×Int)):s1C (a::l)=s1C l++[.i a.1]:=by simp[s1C]
def zhv(a:Int×Int)(l:List (Int×Int)):s2C (a::l)=s2C l++[.i a.2]:=by simp[s2C]
def zmz(l:List (Int×Int)):(s1C l).length=l.length:=by simp[s1C]
def zn7(l:List (Int×Int)):(s2C l).length=l.length:=by simp[s2C]
def zl1{os:List Lo}(hc:(Tf z Y os).2=0)(hb:Yv Sr 0 os):Pl 42 [.agg (Pm z Y os)] (.i (Yf [] 0 os)) []:=by
 obtain⟨_,_,_,jG,_,gT⟩:=z7r hc;refine P4.val rfl (Pj r_ref12_Steps Aa (by simp) ?_);simp[zfi,Pm];refine Pr (z4j z Y os) (bors_self _ Bm) ?_;obtain⟨jF,B⟩:∃jF,Yf [] 0 os=jF:=⟨_,rfl⟩;rw[B];simp[hc];refine Qt (λρ jL gF N=>∃(i:Nat) (s:Int) (g:List (Int×Int)) (v w:LV),jL=[]∧N+i=os.length∧lk ρ 1=.ptr 0 0∧lk ρ 5=v∧lk ρ 6=.i s∧lk ρ 7=w∧lk ρ 8=.i i∧gF[0]?=some (.cells (Pm z Y os) 0)∧Ra 1 gF v 1 g.length (s1C g)∧Ra 1 gF w 1 g.length (s2C g)∧(∀q,ku v=some q→ku w≠some q)∧1≤gF.length ∧
   (0≤s∧s≤1125899906842624)∧(∀e∈g,(0≤e.1∧e.1≤1125899906842624)∧1≤e.2∧e.2≤1048576)∧g.length≤i∧Yv Sr g.length (os.drop i)∧Yf g s (os.drop i)=jF) (N:=os.length)
  ⟨0,0,[],.nilSl,.nilSl,rfl,J,by simp,by simp,by simp,by simp,by simp,Ch,Ra.nil,Ra.nil,by simp[ku],by simp,by simp,by simp,by simp,Gy,by simpa using B⟩ ?_
 clear hb B;rintro N ρ jL gF ⟨i,s,g,v,w,rfl,hN,O,L,Q,P,R,j,hv,hw,C,T,⟨gG,D⟩,H,gU,hb,B⟩ Nx M;by_cases gV:i<os.length
 case neg =>
  rw[L6 J]at B;have:s=jF:=B;subst this;simp[O,L,Q,R,j,Pm,gV]
 have ho:=zgs gV;have U:=wi ho;have gY:=lo_at7 ho;have gZ:=gT _ (Kj ho);rw[zhw gV]at B hb;generalize mh os i=o at *;have l0:0<gF.length:=J
 have jH:=zn1 gV;have jE:i*8+7<(Tu os).length:=J
 unfold Yf at B;unfold Yv at hb;by_cases A:o.kind=16
 ·rw[J6 A]at B;rw[J6 (by simp[Sr,A])]at hb;obtain⟨t1,t2⟩:=zmj gZ A;have e1:0≤((o.imm.toNat:Nat):Int):=J
  have q0:∀x:List LObj,(gF++x)[0]?=some (.cells (Pm z Y os) 0):=λx=>(Ph l0).trans j
  have z0:∀(x:List LObj) (h:0<(gF++x).length),(gF++x)[0]=.cells (Pm z Y os) 0:=λx h=>Option.some.inj ((J7 h).symm.trans (q0 x))
  simp[O,L,Q,P,R,j,Pm,gV,Pe U,Pe gY,A,↓q0,z0];refine⟨J,?_⟩;refine Ra.push2 (x:=[.i s]) hv.push_end J (by simp) J rfl rfl λV G5 X Z jg jz=>?_
  simp at jg;have gH:G5[0]?=some (.cells (Pm z Y os) 0):=by rw[Z 0 (by simp) (λe=>by have:=(hv.row e).1;omega)];exact q0 _
  have jA:G5[gF.length+1]?=some (.dyn [.i (o.imm.toNat:Int)] 1 1 0 0):=by
   rw[Z _ (by simp) (λe=>by have:=(hv.row e).2.1;omega),Kl J,(J:gF.length+1-gF.length=1)];rfl
  have gI:Ra 1 G5 w 1 g.length (s2C g):=(hw.push_end (ob:=[.dyn [.i s] 1 1 0 0,.dyn [.i (o.imm.toNat:Int)] 1 1 0 0])).frame2 λq G=>Z q (by have:=(hw.row G).2.1;simp;omega) (λe=>C q e G)
  simp[gH,jA,Pm,z0];refine Ra.push2 (x:=[.i (o.imm.toNat:Int)]) gI J J J rfl rfl λw' G6 jB gK jI jC=>?_
  have gL:∀q,ku V=some q→ku w≠some q:=λq G e=>by
   rcases jz with h|h
   ·exact C q (by rw[←h];exact G) e
   ·rw[h]at G;have:=(hw.row e).2.1;have G:=Option.some.inj G;simp at G;omega
  have jD:Ra 1 G6 V 1 (g.length+1) (s1C g++[.i s]):=X.frame2 λq G=>gK q (X.row G).2.1 (gL q G)
  have gM:G6[0]?=some (.cells (Pm z Y os) 0):=by rw[gK 0 J (λe=>by have:=(gI.row e).1;omega)];exact gH
  simp[gM,Pm,R];refine⟨J,M _ _ _ ⟨N-1,J,i+1,1,(s,(o.imm.toNat:Int))::g,V,w',rfl,J,Br,by simp,by simp,by simp,by simp,gM,by rw[zhi];exact jD,by rw[zhv];exact jB,λq G=>?_,J,⟨J,J⟩,λe he=>?_,Ab,hb,B⟩⟩
  ·rcases jC with h|h
   ·rw[h];exact gL q G
   ·rw[h];have:=(X.row G).2.1;intro e;have e:=Option.some.inj e;omega
  ·rcases Ka.1 he with rfl|he
   ·exact⟨⟨gG,D⟩,by show (1:Int)≤_;omega,by show _≤(1048576:Int);omega⟩
   ·exact H e he
 by_cases E:o.kind=17
 ·rw[J1 A,J6 E]at B;rw[J1 (by simp[Sr,E]),J6 (by simp[Sr,E])]at hb;obtain⟨hd,hb⟩:=hb;cases g with
  |nil=>simp at hd
  |cons a g =>
  obtain⟨a0,K⟩:=a;obtain⟨⟨b0,b1⟩,b2,b3⟩:=H _ (K2 ..);dsimp only at b0 b1 b2 b3 B;have gO:(s1C ((a0,K)::g))[g.length]?=some (.i a0):=by
   rw[zhi,Kl (by rw[zmz];exact J8 _)];simp[zmz]
  have gR:(s2C ((a0,K)::g))[g.length]?=some (.i K):=by
   rw[zhv,Kl (by rw[zn7];exact J8 _)];simp[zn7]
  simp[O,L,Q,P,R,j,Pm,gV,Pe U,A,E];refine hv.lenL ?_;simp[P,Q];simp at gU;refine⟨J,hw.at1 J Ab λx hx=>?_⟩;simp;refine hx _ ?_;simp only[Kr];refine⟨_,gR,?_⟩;simp[Q];have ht:Int.tdiv 1125899906842624 K=1125899906842624/K:=O4 J;rw[ht];have t0:0≤1125899906842624/K:=Int.ediv_nonneg J J;have t1:1125899906842624/K≤1125899906842624:=Int.ediv_le_self _ J;refine⟨J,J,λq=>?_,λq=>?_⟩
  ·rw[J6 q]at B;simp[L];refine hv.at1 J Ab λy hy=>?_
   simp;refine hy _ ?_;simp only[Kr];refine⟨_,gO,?_⟩;simp[L]
   repeat (refine⟨J,?_⟩)
   refine hv.cut2 (m:=g.length) (by simp) (λK' F=>F) (λd K' F=>F) λV D gg=>?_
   simp[P];refine hw.cut2 (m:=g.length) (by simp) (λK' F=>F) (λd K' F=>F) λw' I gD=>?_
   rw[zhi,M9 (by rw[zmz];omega)]at D;rw[zhv,M9 (by rw[zn7];omega)]at I;simp[R,j,Pm];refine⟨J,M _ _ _ ⟨N-1,J,i+1,_,g,V,w',rfl,J,Br,by simp,by simp,by simp,by simp,j,D,I,λq=>by rw[gg,gD];exact C q,T,⟨J,J⟩,λe he=>H e (Kf _ he),J,Gy,B⟩⟩
  ·rw[J1 J]at B;have hm:0≤s*K:=Int.mul_nonneg gG J;have jK:s*K≤1125899906842624:=Ot (Int.mul_le_mul_of_nonneg_right (J:s≤1125899906842624/K) J) (Int.ediv_mul_le _ J);simp[Q,P];refine hw.at1 J Ab λjM hz=>?_
   simp;refine hz _ ?_;simp only[Kr];refine⟨_,gR,?_⟩;simp[L]
   repeat (refine⟨J,?_⟩)
   refine hv.at1 J Ab λy hy=>?_
   simp;refine hy _ ?_;simp only[Kr];refine⟨_,gO,?_⟩;simp[L]
   repeat (refine⟨J,?_⟩)
   refine hv.cut2 (m:=g.length) (by simp) (λK' F=>F) (λd K' F=>F) λV D gg=>?_
   simp[P];refine hw.cut2 (m:=g.length) (by simp) (λK' F=>F) (λd K' F=>F) λw' I gD=>?_
   rw[zhi,M9 (by rw[zmz];omega)]at D;rw[zhv,M9 (by rw[zn7];omega)]at I;simp[R,j,Pm];refine⟨J,M _ _ _ ⟨N-1,J,i+1,_,g,V,w',rfl,J,Br,by simp,by simp,by simp,by simp,j,D,I,λq=>by rw[gg,gD];exact C q,T,⟨J,J⟩,λe he=>H e (Kf _ he),J,Gy,B⟩⟩
 rw[J1 A,J1 E]at B;rw[J1 (by simp[Sr,A];split<;>simp),J1 (by simp[Sr,A,E])]at hb;simp[O,L,Q,P,R,j,Pm,gV,Pe U,A,E]
 repeat (refine⟨J,?_⟩)
 refine M _ _ _ ⟨N-1,J,i+1,_,g,v,w,rfl,J,Br,Dx,by simp,by simp[P],by simp,j,hv,hw,C,T,⟨J,J⟩,H,J,hb.2,B⟩
section
def z94:LC:=(.q [.z 4 (.move (.c (.u 0)))] (.seq (.q [.m 5 1,.b 6 .lss 3 5 0] (.cond (.t 6) (.q [.z 4 (.move (.c (.u 0)))] .ret) .skip)) (.q [.m 7 0,.N 8 7,.f 9 3 8,.l 10 9,.m 11 1,.I 12 1 10 11,.l 13 12,.m 4 13] .ret)))
def r_ref12_run_at:Pk Tryz.prog 82=some ⟨14,z94.r,[.tmp 4]⟩:=Aa
def zda:LC:=(.q [.F 4] (.q [.m 17 0,.N 18 17,.f 19 0 18,.f 20 2 19,.l 21 20,.m 22 1,.I 23 8 21 22,.L 24 8 23,.z 5 (.alloc [(.i 0),(.i 0),(.i 0),(.i 0),(.i 0),(.i 0),(.i 0),(.u 0)]),.S 8 5 24] (.seq (.draw [(.m 25 0,[]),(.f 26 3 5,[]),(.l 27 26,[]),(.m 29 0,[]),(.f 30 4 5,[]),(.l 31 30,[]),(.m 33 0,[]),(.f 34 5 5,[]),(.l 35 34,[]),(.W 28 82 25 27,[(.l 35 34,false),(.l 31 30,false)]),(.W 32 82 29 31,[(.l 35 34,false)]),(.W 36 82 33 35,[]),(.u 37 .rem 23 36 2,[]),(.u 38 .eql 23 37 1,[]),(.m 6 28,[]),(.m 7 32,[]),(.m 8 38,[])]) (.q [.K 9 (-1)] (.q [.z 10 (.move (.c (.u 0))),.z 11 (.move (.c (.u 0)))] (.seq (.q [.f 39 0 5,.l 40 39] (.block 0 (.q [.b 42 .eql 3 40 1,.m 41 42] (.cond (.t 41) (.ops [.f 43 7 5,.l 44 43,.m 10 44]) (.q [.b 46 .eql 3 40 2,.m 45 46] (.cond (.t 45) (.ops [.m 47 6,.m 10 47]) (.q [.b 49 .eql 3 40 3,.m 48 49] (.cond (.t 48) (.ops [.m 50 6,.m 51 7,.c 52 .add 23 50 51,.m 10 52]) (.q [.b 54 .eql 3 40 4,.m 53 54] (.cond (.t 53) (.ops [.m 55 6,.m 56 7,.c 57 .sub 23 55 56,.m 10 57]) (.q [.b 59 .eql 3 40 5,.m 58 59] (.cond (.t 58) (.ops [.m 60 6,.m 61 7,.c 62 .and 23 60 61,.m 10 62]) (.q [.b 64 .eql 3 40 6,.m 63 64] (.cond (.t 63) (.ops [.m 65 6,.m 66 7,.c 67 .or 23 65 66,.m 10 67]) (.q [.b 69 .eql 3 40 7,.m 68 69] (.cond (.t 68) (.ops [.m 70 6,.m 71 7,.c 72 .xor 23 70 71,.m 10 72]) (.q [.b 74 .eql 3 40 8,.m 73 74] (.cond (.t 73) (.ops [.m 75 6,.f 76 7 5,.l 77 76,.c 78 .shl 23 75 77,.m 10 78]) (.q [.b 80 .eql 3 40 9,.m 79 80] (.cond (.t 79) (.ops [.m 81 6,.f 82 7 5,.l 83 82,.c 84 .shr 23 81 83,.m 10 84]) (.q [.b 86 .eql 3 40 10,.m 85 86] (.cond (.t 85) (.ops [.m 88 6,.m 89 7,.W 90 48 88 89,.m 87 90,.X 91 0 87,.X 92 1 87,.m 10 91,.m 11 92]) (.q [.b 94 .eql 3 40 11,.m 93 94] (.cond (.t 93) (.q [.m 96 6,.m 97 7,.m 98 8,.V 99 49 96 97 98,.m 95 99,.X 100 0 95,.X 101 1 95,.m 12 100,.m 13 101] (.ops [.m 102 12,.m 103 13,.w 104 83 103,.m 10 102,.m 11 104])) (.q [.b 106 .eql 3 40 12,.m 105 106] (.cond (.t 105) (.q [.m 108 6,.m 109 7,.m 110 8,.V 111 84 108 109 110,.m 107 111,.X 112 0 107,.X 113 1 107,.m 14 112,.m 15 113] (.ops [.m 114 14,.m 115 15,.w 116 83 115,.m 10 114,.m 11 116])) (.q [.b 118 .eql 3 40 13,.m 117 118] (.cond (.t 117) (.q [.m 119 7,.m 10 119] (.q [.m 120 8] (.cond (.t 120) (.ops [.m 121 6,.m 10 121]) .skip))) (.seq (.q [.b 123 .eql 3 40 14,.m 122 123] (.cond (.t 122) .skip (.ops [.b 124 .eql 3 40 15,.m 122 124]))) (.cond (.t 122) (.q [.f 125 7 5,.l 126 125,.m 127 6,.c 128 .add 23 126 127,.m 16 128] (.seq (.seq (.draw [(.m 129 16,[]),(.m 130 0,[]),(.N 131 130,[]),(.f 132 4 131,[]),(.l 133 132,[]),(.f 134 6 5,[]),(.l 135 134,[]),(.I 136 1 133 135,[]),(.l 137 136,[]),(.s 138 137,[]),(.z 139 (.cvInt .u64 (.t 138)),[]),(.c 140 .geq 23 129 139,[])]) (.cond (.t 140) (.q [.F 4] .ret) .skip)) (.q [.m 141 16,.z 142 (.cvInt .i64 (.t 141)),.m 9 142] (.q [.f 143 0 5,.l 144 143,.b 145 .eql 3 144 15] (.cond (.t 145) (.draw [(.m 146 0,[]),(.N 147 146,[]),(.f 148 4 147,[]),(.l 149 148,[]),(.f 150 6 5,[]),(.l 151 150,[]),(.I 152 1 149 151,[]),(.l 153 152,[]),(.m 154 16,[]),(.m 155 7,[]),(.I 156 1 153 154,[]),(.S 1 156 155,[])]) (.draw [(.m 157 0,[]),(.N 158 157,[]),(.f 159 4 158,[]),(.l 160 159,[]),(.f 161 6 5,[]),(.l 162 161,[]),(.I 163 1 160 162,[]),(.l 164 163,[]),(.m 165 16,[]),(.I 166 1 164 165,[]),(.l 167 166,[]),(.m 10 167,[])])))))) .skip)))))))))))))))))))))))))))))) (.seq (.q [.f 168 1 5,.l 169 168,.b 170 .geq 3 169 0] (.cond (.t 170) (.draw [(.m 171 0,[]),(.N 172 171,[]),(.f 173 3 172,[]),(.l 174 173,[]),(.f 175 1 5,[]),(.l 176 175,[]),(.m 177 10,[]),(.I 178 1 174 176,[]),(.S 1 178 177,[])]) .skip)) (.seq (.q [.f 179 2 5,.l 180 179,.b 181 .geq 3 180 0] (.cond (.t 181) (.draw [(.m 182 0,[]),(.N 183 182,[]),(.f 184 3 183,[]),(.l 185 184,[]),(.f 186 2 5,[]),(.l 187 186,[]),(.m 188 11,[]),(.I 189 1 185 187,[]),(.S 1 189 188,[])]) .skip)) (.q [.m 190 0,.m 191 0,.N 192 191,.f 193 5 192,.l 194 193,.m 195 1,.m 196 9,.z 197 (.build [(.i 0),(.i 0)] [(0,1,.t 195),(1,1,.t 196)]),.z 198 (.buildSl 2 1 [(.i 0),(.i 0)] [(0,2,.t 197)]),.a 199 2 194 198,.N 200 190,.f 201 5 200,.S 1 201 199] (.q [.z 4 (.move .T)] .ret))))))))))
def r_ref12_run_do:Pk Tryz.prog 45=some ⟨202,zda.r,[.tmp 4]⟩:=Aa
def mo(bs:List Bf)(X:List (List UInt64)):Bool:=decide (X.length=bs.length∧∀i,i<bs.length→((X.getD i []).length:Int)=if (Ps bs i).kind=3 then 0 else (Ps bs i).size)
def zmk(regs:Int)(bs:List Bf)(os:List Lo)(F:List (List UInt64))(hX:F.length≤9223372036854775807):Pl 43 [.agg (Pm regs bs os),LN F] (.bool (mo bs F)) []:=by
 refine P4.val rfl (Pj r_ref12_Rows Aa (by simp) ?_);by_cases I:F.length=bs.length
 case neg =>
  have T:¬(F.length:Int)=bs.length:=J
  simp[zbr,Pm,mo,I,T]
 simp[zbr,Pm,I];refine Qt (λY gg G N=>∃i:Nat,gg=[]∧G=[.cells (Pm regs bs os) 0]∧N+i=bs.length∧lk Y 1=LN F∧lk Y 2=.ptr 0 0∧lk Y 5=.i i∧∀B,B<i→((F.getD B []).length:Int)=if (Ps bs B).kind=3 then 0 else (Ps bs B).size) (N:=bs.length)
  ⟨0,rfl,Ch,J,Bn,by simp,by simp,λB h=>J⟩ ?_
 rintro N Y gg G ⟨i,rfl,rfl,hN,C,D,K,X⟩ Nx M;by_cases R:i<bs.length
 case neg =>
  have:mo bs F=true:=by
   unfold mo;exact L3 ⟨I,λB Z=>X B J⟩
  simp[C,D,K,I,R,this]
 have P:=zel (T7 R);have Q:=zle (T7 R);have O:i<F.length:=J
 have j:¬F.length≤i:=J
 obtain⟨x,U⟩:∃x,F.getD i []=x:=⟨_,rfl⟩;have z:F[i]=x:=by rw[←U];simp[O]
 have A:¬(x.length:Int)=(if (Ps bs i).kind=3 then 0 else (Ps bs i).size)→mo bs F=false:=λh=>by
  unfold mo;exact Nv (λq=>h (by rw[←U];exact q.2 i R))
 have g:(x.length:Int)=(if (Ps bs i).kind=3 then 0 else (Ps bs i).size)→∀B,B<i+1→((F.getD B []).length:Int)=if (Ps bs B).kind=3 then 0 else (Ps bs B).size:=λh B Z=>by
  by_cases q:B=i
  ·rw[q,U];exact h
  ·exact X B J
 by_cases H:(Ps bs i).kind=3
 ·rw[J6 H]at A g;by_cases e:(x.length:Int)=0
  ·have V:x=[]:=Kn J;have E:=g e;subst V;simp[C,D,K,Pm,R,O,j,Pe P,Pe Q,H,z]
   repeat (refine⟨J,?_⟩)
   exact M _ _ _ ⟨N-1,J,i+1,rfl,Ch,J,Af,At,by simp,E⟩
  ·have e':x≠[]:=λq=>e Hd
   simp[C,D,K,Pm,R,O,j,Pe P,Pe Q,H,z,e',A e]
 ·rw[J1 H]at A g;by_cases e:(x.length:Int)=(Ps bs i).size
  ·simp[C,D,K,Pm,R,O,j,Pe P,Pe Q,H,z,e]
   repeat (refine⟨J,?_⟩)
   exact M _ _ _ ⟨N-1,J,i+1,rfl,Ch,J,Af,At,by simp,g e⟩
  ·simp[C,D,K,Pm,R,O,j,Pe P,Pe Q,H,z,e,A e]
def Xt(l:List (Int×Int)):List LV:=l.flatMap λe=>[.i e.1,.i e.2]
def d8(a b:List (Int×Int)):Xt (a++b)=Xt a++Xt b:=by simp[Xt]
structure MsH (G:Pd) (x pr pb kb:Nat) (qs:List Nat) (b:Nat) (regs:Int) (bs:List Bf) (os:List Lo) (L:LV) (s:Ms):Prop where
 xc:∃st,G[x]?=some (.cells [.i regs,.lst (Rz bs) bs.length 3,.lst (Tu os) os.length 8,.dy pr 0,.dy pb kb,L] st)
 rr:∃st,G[pr]?=some (.dyn (s.r.map .u) s.r.length 1 0 st)
 bb:∃st,G[pb]?=some (.dyn (qs.map λq=>.dy q 0) qs.length 1 kb st)
 row:∀j,j<qs.length→∃st,G[qs.getD j 0]?=some (.dyn ((s.bufs.getD j []).map .u) (s.bufs.getD j []).length 1 0 st)
 bl:s.bufs.length=qs.length
 lt:x<b∧pr<b∧pb<b∧x≠pr∧x≠pb∧pr≠pb
 qlt:∀q∈qs,q<b∧q≠x∧q≠pr∧q≠pb
 nd:qs.Nodup
 ev:Ra b G L 2 s.l.length (Xt s.l)
 bG:b≤G.length
section msh
variable {G G' : Pd} {x pr pb kb : Nat} {qs : List Nat} {b : Nat} {regs : Int} {bs : List Bf} {os : List Lo} {L : LV} {s : Ms}
def MsH.keep(h:MsH G x pr pb kb qs b regs bs os L s)(hf:∀q,q<G.length→G'[q]?=G[q]?)(hl:G.length≤G'.length):MsH G' x pr pb kb qs b regs bs os L s:=by
 have e:∀{q:Nat} {ob:LObj},G[q]?=some ob→G'[q]?=some ob:=λj=>by rw[hf _ (Jy.1 j).1];exact j
 refine⟨?_,?_,?_,λgg hj=>?_,h.bl,h.lt,h.qlt,h.nd,h.ev.frame λq _ j=>hf q j,K8 h.bG hl⟩
 ·obtain⟨st,h⟩:=h.xc;exact⟨st,e h⟩
 ·obtain⟨st,h⟩:=h.rr;exact⟨st,e h⟩
 ·obtain⟨st,h⟩:=h.bb;exact⟨st,e h⟩
 ·obtain⟨st,h⟩:=h.row gg hj;exact⟨st,e h⟩
def zg5{r:Int}(h:MsH G x pr pb kb qs b regs bs os L s)(A:r<s.r.length)(k:Z (.u (atR s.r r)) G):Ql (.fn 82) [.ptr x 0,.i r] G Z:=by
 refine Pj r_ref12_run_at Aa N ?_;obtain⟨B,g⟩:=h.xc;obtain⟨C,j⟩:=h.rr;unfold atR at k;by_cases z:r<0
 ·rw[J6 z]at k;simp[z94,z];exact k
 ·rw[J1 z]at k;obtain⟨n,rfl⟩:=J5 (J:0≤r);have hn:n<s.r.length:=J
  have q:(s.r.map LV.u)[n]?=some (.u (s.r.getD n 0)):=by simp[hn,J0]
  rw[Kr]at k;rw[show s.r.getD n 0=s.r[n] from by simp[J0,hn]]at k;simp[z94,g,j,hn,(J:¬((n:Int)<0))];exact k
def MsH.putr(h:MsH G x pr pb kb qs b regs bs os L s){i:Int}{v:UInt64}{st:Nat}:MsH (G.set pr (.dyn ((Po s.r i v).map .u) s.r.length 1 0 st)) x pr pb kb qs b regs bs os L ⟨s.i,s.first,Po s.r i v,s.bufs,s.l⟩:=by
 obtain⟨l1,l2,l3,l4,l5,l6⟩:=h.lt;have j:pr<G.length:=by obtain⟨st,h⟩:=h.rr;exact (Jy.1 h).1
 have gg:(Po s.r i v).length=s.r.length:=Gv
 have ne:∀{q:Nat} {ob:LObj},q≠pr→(G.set pr ob)[q]?=G[q]?:=λhq=>Jz (Ne.symm hq)
 refine⟨?_,⟨st,?_⟩,?_,λgD hj=>?_,h.bl,h.lt,h.qlt,h.nd,h.ev.set_lt l2,by rw[Mj];exact h.bG⟩
 ·obtain⟨st,h⟩:=h.xc;exact⟨st,by rw[ne l4];exact h⟩
 ·rw[J3 j];show _=some (LObj.dyn ((Po s.r i v).map .u) (Po s.r i v).length 1 0 st);rw[gg]
 ·obtain⟨st,h⟩:=h.bb;exact⟨st,by rw[ne (Ne.symm l6)];exact h⟩
 ·obtain⟨st,h'⟩:=h.row gD hj;refine⟨st,?_⟩;rw[ne (h.qlt _ Hu).2.2.1];exact h'
def MsH.sto(h:MsH G x pr pb kb qs b regs bs os L s){j:Nat}{row:List UInt64}{st:Nat}(hj:j<qs.length):MsH (G.set (qs.getD j 0) (.dyn (row.map .u) row.length 1 0 st)) x pr pb kb qs b regs bs os L ⟨s.i,s.first,s.r,s.bufs.set j row,s.l⟩:=by
 obtain⟨l1,l2,l3,l4,l5,l6⟩:=h.lt;obtain⟨q1,q2,q3,q4⟩:=h.qlt (qs.getD j 0) Hu;have gD:qs.getD j 0<G.length:=by obtain⟨st,h⟩:=h.row j hj;exact (Jy.1 h).1
 have ne:∀{q:Nat} {ob:LObj},q≠qs.getD j 0→(G.set (qs.getD j 0) ob)[q]?=G[q]?:=λhq=>Jz (Ne.symm hq)
 refine⟨?_,?_,?_,λk hk=>?_,by simpa using h.bl,h.lt,h.qlt,h.nd,h.ev.set_lt q1,by rw[Mj];exact h.bG⟩
 ·obtain⟨st,h⟩:=h.xc;exact⟨st,by rw[ne (Ne.symm q2)];exact h⟩
 ·obtain⟨st,h⟩:=h.rr;exact⟨st,by rw[ne (Ne.symm q3)];exact h⟩
 ·obtain⟨st,h⟩:=h.bb;exact⟨st,by rw[ne (Ne.symm q4)];exact h⟩
 ·show ∃gg,_=some (LObj.dyn (((s.bufs.set j row).getD k []).map .u) ((s.bufs.set j row).getD k []).length 1 0 gg);rw[ay _ _ _ _ _ (by rw[h.bl];exact hj)];by_cases e:k=j
  ·subst e;rw[J6 rfl];exact⟨st,J3 gD⟩
  ·rw[J1 e];obtain⟨gg,h'⟩:=h.row k hk;refine⟨gg,?_⟩;rw[ne (λq=>e ?_)]
   ·exact h'
   ·simp only[J0,J7 hk,J7 hj,L0]at q;exact (List.getElem_inj h.nd).1 q
end msh
def ziq{regs:Int}{bs:List Bf}{o:Lo}(h:R6 regs bs o=true):(o.d=-1∨0≤o.d∧o.d<regs)∧(o.e=-1∨0≤o.e∧o.e<regs)∧(o.a=-1∨0≤o.a∧o.a<regs)∧(o.b=-1∨0≤o.b∧o.b<regs)∧(o.c=-1∨0≤o.c∧o.c<regs)∧(o.kind=14∨o.kind=15→0≤o.buf∧o.buf<bs.length):=by
 unfold R6 at h;simp only[J2]at h;obtain⟨_,d,e,a,b,c,_,m⟩:=h;have f:∀{x:Int} {t:Bool},Tb regs x t=true→x=-1∨0≤x∧x<regs:=λ{x t} h=>by
  unfold Tb at h;cases t with
  |true=>simp at h;exact .inr h
  |false=>simp at h;exact .inl h
 refine⟨f d,f e,?_,f b,f c,λk=>?_⟩
 ·simp only[Lf,J2,Kb]at a;exact a.elim f λq=>.inl q.2
 ·rw[J6 (by unfold Re;simpa using k)]at m;simp only[J2,Kb]at m;exact⟨m.1,m.2.1⟩
def PhiD(x pr pb kb:Nat)(qs:List Nat)(b:Nat)(regs:Int)(bs:List Bf)(os:List Lo)(L:LV)(s:Ms)(o:Lo)(z:Pd)(j:Pf)(B:List Nat)(G:Pd):Prop :=
 B=[]∧lk j 0=.ptr x 0∧lk j 1=.i s.i∧∃(A:Nat) (d e:UInt64) (pl:Int) (g:List (List UInt64)),lk j 5=.ptr A 0∧b≤A∧G[A]?=some (.cells o.f 1)∧lk j 9=.i pl∧lk j 10=.u d∧lk j 11=.u e ∧
  MsH G x pr pb kb qs b regs bs os L ⟨s.i,s.first,s.r,g,s.l⟩∧Xb o s=some ⟨s.i+1,s.first,Po (Po s.r o.d d) o.e e,g,s.l++[((s.i:Int),pl)]⟩∧∀q,q<b→q ∉ qs→G[q]?=z[q]?
def do_any{G:Pd}{x pr pb kb:Nat}{qs:List Nat}{b:Nat}{regs:Int}{bs:List Bf}{os:List Lo}{L:LV}{s:Ms}{o:Lo}(h:MsH G x pr pb kb qs b regs bs os L s)(ho:os[s.i]?=some o)(hf:R6 regs bs o=true)(j8:o.kind≠16)(j9:o.kind≠17)(zg:(s.r.length:Int)=regs)(zj:qs.length=bs.length)(zz:s.l.length≤900000000)
  (gZ:∀x∈s.bufs,x.length≤65536)
  (kn:Xb o s=none→∀G',Z (.bool false) G') (ks:∀s' G' L',Xb o s=some s'→MsH G' x pr pb kb qs b regs bs os L' s'→(∀q,q<b→q≠x→q≠pr→q ∉ qs→G'[q]?=G[q]?)→Z (.bool true) G'):Ql (.fn 45) [.ptr x 0,.i s.i] G Z:=by
 obtain⟨rd,re,ra,rb,rc,rm⟩:=ziq hf;have zB:1≤o.kind∧o.kind≤17:=by
  unfold R6 at hf;simp only[J2,Kb]at hf;exact hf.1
 have hC:o.f=[.i o.kind,.i o.d,.i o.e,.i o.a,.i o.b,.i o.c,.i o.buf,.u o.imm]:=rfl;have jg:=h.bG;obtain⟨s1,h1⟩:=h.xc;have lx:x<G.length:=(Jy.1 h1).1;have jM:=zco ho;have jO:=zn1 (Jy.1 ho).1;have jz:s.i<os.length:=(Jy.1 ho).1;refine Pj r_ref12_run_do Aa N ?_;rw[zda,zew,zew,zew,zew,zew];refine ax (PhiD x pr pb kb qs b regs bs os L s o G) (λNx F=>?_) (λρ j6 G2 hΦ=>?_)
 ·simp[h1,jz,jM,jO,hC];have j:(G++[LObj.cells o.f 1])[G.length]?=some (.cells o.f 1):=Kg;have E:MsH (G++[LObj.cells o.f 1]) x pr pb kb qs b regs bs os L s:=h.keep (λq H=>Ph H) N;have B:∀q,q<b→q ∉ qs→(G++[LObj.cells o.f 1])[q]?=G[q]?:=λq H _=>Ph (Kt H jg)
  have gO:b≤G.length:=jg;rw[hC]at j E B;generalize G++[LObj.cells [.i o.kind,.i o.d,.i o.e,.i o.a,.i o.b,.i o.c,.i o.buf,.u o.imm] 1]=G1 at *;generalize G.length=jP at *;refine zg5 (r:=o.a) E J ?_;simp[j];refine zg5 (r:=o.b) E J ?_;simp[j];refine zg5 (r:=o.c) E J ?_;have gD:o.kind≠14→o.kind≠15→Xb o s=some ⟨s.i+1,s.first,Po (Po s.r o.d (P6 o (atR s.r o.a) (atR s.r o.b) (decide (atR s.r o.c%2=1))).1) o.e (P6 o (atR s.r o.a) (atR s.r o.b) (decide (atR s.r o.c%2=1))).2,s.bufs,s.l++[((s.i:Int),(-1:Int))]⟩:=λe1 e2=>by
   unfold Xb;rw[J1 e1,J1 e2]
  generalize gR:atR s.r o.a=z at *;generalize jQ:atR s.r o.b=A at *;generalize zC:atR s.r o.c=vc at *;by_cases km:o.kind=14∨o.kind=15
  ·obtain⟨m0,m1⟩:=rm km;obtain⟨Q,gF⟩:=J5 m0;have I:Q<qs.length:=J
   obtain⟨s3,h3⟩:=E.row Q I;obtain⟨s4,h4⟩:=E.bb;obtain⟨s5,h5⟩:=E.xc;have gK:(qs.map λq=>LV.dy q 0)[Q]?=some (.dy (qs.getD Q 0) 0):=by simp[J0,I]
   have gT:V8 s.bufs o.buf=s.bufs.getD Q []:=by unfold V8;rw[gF];rfl
   have jA:(s.bufs.getD Q []).length≤65536:=gZ _ (by simp[J0,h.bl,I]);have jB:=λ(jR:List UInt64) (jT:Nat)=>E.sto (row:=jR) (st:=jT) I
   have zD:=(h.qlt (qs.getD Q 0) (by simp[J0,I])).1;have jU:qs.getD Q 0∈qs:=by simp[J0,I]
   have zE:qs.getD Q 0<G1.length:=(Jy.1 h3).1;have gg:iU (((s.bufs.getD Q []).length:Nat):Int)≤o.imm+z↔(s.bufs.getD Q []).length≤(o.imm+z).toNat:=by
    rw[L4,Zr J]
   generalize s.bufs.getD Q []=K at *;generalize qs.getD Q 0=qn at *;generalize hn:(o.imm+z).toNat=n at *;by_cases C:n<K.length
   case neg =>
    have jC:K.length≤n:=J
    have jD:Xb o s=none:=by
     unfold Xb;rw[gT,gR,hn,J1 C,J1 C];rcases km with k|k
     ·rw[J6 k]
     ·rw[J1 J,J6 k]
    rcases km with k|k
    ·simp[j,k,h3,h4,h5,gF,I,Pe gK,Xf,gg,jC,Pm];exact kn jD _
    ·simp[j,k,h3,h4,h5,gF,I,Pe gK,Xf,gg,jC,Pm];exact kn jD _
   have gL:¬K.length≤n:=J
   rcases km with k|k
   ·have gU:Xb o s=some ⟨s.i+1,s.first,Po (Po s.r o.d K[n]) o.e 0,s.bufs,s.l++[((s.i:Int),(n:Int))]⟩:=by
     unfold Xb;rw[gT,gR,hn,J6 k,J6 C];simp[J0,C]
    simp[j,k,h3,h4,h5,gF,I,Pe gK,Xf,gg,gL,hn,C,Pm]
    repeat (refine⟨J,?_⟩)
    exact F _ _ _ ⟨rfl,N,N,jP,_,_,(n:Int),s.bufs,N,gO,j,N,N,N,E,gU,B⟩
   ·have gU:Xb o s=some ⟨s.i+1,s.first,Po (Po s.r o.d 0) o.e 0,s.bufs.set Q (K.set n A),s.l++[((s.i:Int),(n:Int))]⟩:=by
     unfold Xb;rw[gT,gR,jQ,hn,J1 J,J6 k,J6 C,gF];rfl
    have e1:Qj (K.map LV.u) n [.u A]=(K.set n A).map LV.u:=by
     rw[zwa Cp,Ll]
    simp[j,k,h3,h4,h5,gF,I,Pe gK,Xf,gg,gL,hn,C,Pm,e1]
    repeat (refine⟨J,?_⟩)
    have O:=jB (K.set n A) (s3+1);simp only[Ll,Mj]at O;refine F _ _ _ ⟨rfl,N,N,jP,0,0,(n:Int),s.bufs.set Q (K.set n A),N,gO,?_,N,N,N,O,gU,λq H D=>?_⟩
    ·rw[Jz (λe=>by rw[e,j]at h3;cases h3)];exact j
    ·rw[Jz (λe=>D (by rw[←e];exact jU))];exact B q H D
  have jV:o.kind≠14:=λq=>km (.inl q)
  have jX:o.kind≠15:=λq=>km (.inr q)
  have gD:=gD jV jX;have g:∀(ρ':Pf),lk ρ' 0=.ptr x 0→lk ρ' 1=.i s.i→lk ρ' 5=.ptr jP 0→lk ρ' 9=.i (-1)→lk ρ' 10=.u (P6 o z A (decide (vc%2=1))).1→lk ρ' 11=.u (P6 o z A (decide (vc%2=1))).2→Nx ρ' [] G1:=by
   intro ρ' R T a5 U gG M;exact F _ _ _ ⟨rfl,R,T,jP,_,_,-1,s.bufs,a5,gO,j,U,gG,M,E,gD,B⟩
  clear gD F h E kn ks;by_cases k1:o.kind=1
  ·have hv:∀c,P6 o z A c=(o.imm,0):=λc=>by unfold P6;simp[k1]
   rw[hv]at g;simp[j,k1];exact g _ N N N N Bb N
  by_cases k2:o.kind=2
  ·have hv:∀c,P6 o z A c=(z,0):=λc=>by unfold P6;simp[k2]
   rw[hv]at g;simp[j,k2];exact g _ N N N N Bb N
  by_cases k3:o.kind=3
  ·have hv:∀c,P6 o z A c=(z+A,0):=λc=>by unfold P6;simp[k3]
   rw[hv]at g;simp[j,k3];exact g _ N N N N Bb N
  by_cases k4:o.kind=4
  ·have hv:∀c,P6 o z A c=(z-A,0):=λc=>by unfold P6;simp[k4]
   rw[hv]at g;simp[j,k4];exact g _ N N N N Bb N
  by_cases k5:o.kind=5
  ·have hv:∀c,P6 o z A c=(z &&& A,0):=λc=>by unfold P6;simp[k5]
   rw[hv]at g;simp[j,k5];exact g _ N N N N Bb N
  by_cases k6:o.kind=6
  ·have hv:∀c,P6 o z A c=(z ||| A,0):=λc=>by unfold P6;simp[k6]
   rw[hv]at g;simp[j,k6];exact g _ N N N N Bb N
  by_cases k7:o.kind=7
  ·have hv:∀c,P6 o z A c=(z ^^^ A,0):=λc=>by unfold P6;simp[k7]
   rw[hv]at g;simp[j,k7];exact g _ N N N N Bb N
  by_cases k8:o.kind=8
  ·have hv:∀c,P6 o z A c=(UInt64.ofNat (z.toNat*2^o.imm.toNat),0):=λc=>by unfold P6;simp[k8]
   rw[hv]at g;simp[j,k8];exact g _ N N N N Bb N
  by_cases k9:o.kind=9
  ·have hv:∀c,P6 o z A c=(UInt64.ofNat (z.toNat/2^o.imm.toNat),0):=λc=>by unfold P6;simp[k9]
   rw[hv]at g;simp[j,k9];exact g _ N N N N Bb N
  by_cases jE:o.kind=10
  ·have hv:∀c,P6 o z A c=(V2 z A,z*A):=λc=>by unfold P6;simp[jE]
   rw[hv]at g;simp[j,jE];refine Pr (zgi z A) (bors_self _ rfl) ?_;simp;exact g _ N N N N N N
  by_cases jF:o.kind=11
  ·have hv:∀c,P6 o z A c=((Pq z A c).1,Qp (Pq z A c).2):=λc=>by unfold P6;simp[jF]
   rw[hv]at g;simp[j,jF,zjn];refine Pr (z4s z A (decide (vc%2=1))) (bors_self _ rfl) ?_;simp;refine Pr (zgv _) (bors_self _ rfl) ?_;simp;exact g _ N N N N N N
  by_cases jG:o.kind=12
  ·have hv:∀c,P6 o z A c=((Rh z A c).1,Qp (Rh z A c).2):=λc=>by unfold P6;simp[jG]
   rw[hv]at g;simp[j,jG,zjn];refine Pr (zgz z A (decide (vc%2=1))) (bors_self _ rfl) ?_;simp;refine Pr (zgv _) (bors_self _ rfl) ?_;simp;exact g _ N N N N N N
  by_cases gV:o.kind=13
  ·have hv:∀c,P6 o z A c=(if c then z else A,0):=λc=>by unfold P6;simp[gV]
   rw[hv]at g;by_cases c1:vc%2=1
   ·simp[j,gV,c1,zjn];exact g _ N N N N (by simp[c1]) N
   ·simp[j,gV,c1,zjn];exact g _ N N N N (by simp[c1]) N
  omega
 ·obtain⟨rfl,R,T,jP,d,e,pl,gM,a5,bz,hz,U,gG,M,hm,gD,B⟩:=hΦ;rw[gD]at ks;rw[hC]at hz;have jH:∀(i:Int) (v:UInt64) (r:List UInt64),(Po r i v).length=r.length:=λi v r=>Gv
  refine ax (λρ j6 G'=>j6=[]∧lk ρ 0=.ptr x 0∧lk ρ 1=.i s.i∧lk ρ 5=.ptr jP 0∧G'[jP]?=some (.cells [.i o.kind,.i o.d,.i o.e,.i o.a,.i o.b,.i o.c,.i o.buf,.u o.imm] 1)∧lk ρ 9=.i pl∧lk ρ 11=.u e∧MsH G' x pr pb kb qs b regs bs os L ⟨s.i,s.first,Po s.r o.d d,gM,s.l⟩∧∀q,q<b→q≠pr→q ∉ qs→G'[q]?=G[q]?) (λNx F=>?_) (λρ j6 G3 h3=>?_)
  ·obtain⟨t1,V⟩:=hm.xc;obtain⟨t2,X⟩:=hm.rr;dsimp only at X;by_cases d0:0≤o.d
   ·obtain⟨dn,Y⟩:=J5 d0;have gH:dn<s.r.length:=J
    have e1:Qj (s.r.map LV.u) dn [.u d]=(Po s.r o.d d).map LV.u:=by
     rw[zwa (by simpa using gH),Po,J6 d0,Y,Ll];rfl
    have O:=hm.putr (i:=o.d) (v:=d) (st:=t2+1);dsimp only at O;simp[R,T,a5,U,gG,hz,V,X,Y,gH,e1];rw[←Y];refine⟨J,F _ _ _ ⟨rfl,?_,?_,?_,?_,?_,?_,O,λq H P D=>?_⟩⟩
    ·simp[R]
    ·simp[T]
    ·simp[a5]
    rotate_left
    ·simp[U]
    ·simp[M]
    rotate_left
    ·rw[Jz (λe=>by rw[e,hz]at X;cases X)];exact hz
    ·rw[Jz (Ne.symm P)];exact B q H D
   ·have e1:Po s.r o.d d=s.r:=by unfold Po;rw[J1 d0]
    simp[R,T,a5,U,gG,hz,d0];refine F _ _ _ ⟨rfl,?_,?_,?_,hz,?_,?_,e1.symm ▸ hm,λq H _ D=>B q H D⟩
    all_goals simp[R,T,a5,U,M]
  clear R T a5 U gG M hm B hz;obtain⟨rfl,R,T,a5,hz,U,M,hm,B⟩:=h3;have jA:=jH o.d d s.r;generalize Po s.r o.d d=r1 at *;refine ax (λρ j6 G'=>j6=[]∧lk ρ 0=.ptr x 0∧lk ρ 1=.i s.i∧lk ρ 9=.i pl∧MsH G' x pr pb kb qs b regs bs os L ⟨s.i,s.first,Po r1 o.e e,gM,s.l⟩∧∀q,q<b→q≠pr→q ∉ qs→G'[q]?=G[q]?) (λNx F=>?_) (λρ j6 G4 h4=>?_)
  ·obtain⟨t1,V⟩:=hm.xc;obtain⟨t2,X⟩:=hm.rr;dsimp only at X;by_cases d0:0≤o.e
   ·obtain⟨dn,Y⟩:=J5 d0;have gH:dn<r1.length:=J
    have e1:Qj (r1.map LV.u) dn [.u e]=(Po r1 o.e e).map LV.u:=by
     rw[zwa (by simpa using gH),Po,J6 d0,Y,Ll];rfl
    have O:=hm.putr (i:=o.e) (v:=e) (st:=t2+1);dsimp only at O;simp[R,T,a5,U,M,hz,V,X,Y,gH,e1];rw[←Y];refine⟨J,F _ _ _ ⟨rfl,?_,?_,?_,O,λq H P D=>?_⟩⟩
    ·simp[R]
    ·simp[T]
    ·simp[U]
    rw[Jz (Ne.symm P)];exact B q H P D
   ·have e1:Po r1 o.e e=r1:=by unfold Po;rw[J1 d0]
    simp[R,T,a5,U,M,hz,d0];refine F _ _ _ ⟨rfl,?_,?_,?_,e1.symm ▸ hm,λq H P D=>B q H P D⟩
    all_goals simp[R,T,U]
  clear R T a5 U M hm B hz;obtain⟨rfl,R,T,U,hm,B⟩:=h4;generalize Po r1 o.e e=r2 at *;obtain⟨t1,V⟩:=hm.xc;have jY:x<G4.length:=(Jy.1 V).1;have q1:∀y:List LObj,(G4++y)[x]?=_:=λy=>(Ph jY).trans V
  simp[R,T,U,V,↓q1];refine Ra.push2 (x:=[.i (s.i:Int),.i pl]) hm.ev.push_end J (by simp;have:=hm.bG;omega) (by show s.l.length≤_;omega) rfl rfl λL' G5 jI gY jZ zG=>?_
  have j7:=hm.bG;have jK:G5[x]?=_:=(gY x Ab (λe=>by have:=(hm.ev.row e).1;have:=h.lt.1;omega)).trans (q1 _);have j4:L'.cells=some [L']:=jI.cells;simp[-LV.cells,j4,jK];refine ks _ _ L' rfl ?_ ?_
  ·obtain⟨l1,l2,l3,l4,l5,l6⟩:=hm.lt;have jL:x<G5.length:=(Jy.1 jK).1;have ne:∀{q:Nat} {ob:LObj},q≠x→(G5.set x ob)[q]?=G5[q]?:=λH=>Jz (Ne.symm H)
   have gI:∀{q:Nat} {ob:LObj},q<b→G4[q]?=some ob→G5[q]?=some ob:=λ{q ob} H ho=>by
    rw[gY q Ab (λe=>Fi),Ph (Jy.1 ho).1];exact ho
   refine⟨⟨t1+1,J3 jL⟩,?_,?_,λzH hj=>?_,hm.bl,hm.lt,hm.qlt,hm.nd,?_,by rw[Mj];simp at jZ;omega⟩
   ·obtain⟨st,h⟩:=hm.rr;exact⟨st,by rw[ne (Ne.symm l4)];exact gI l2 h⟩
   ·obtain⟨st,h⟩:=hm.bb;exact⟨st,by rw[ne (Ne.symm l5)];exact gI l3 h⟩
   ·obtain⟨st,h⟩:=hm.row zH hj;have H:=hm.qlt (qs.getD zH 0) Hu;exact⟨st,by rw[ne H.2.1];exact gI H.1 h⟩
   ·show Ra b _ L' 2 (s.l++[((s.i:Int),pl)]).length (Xt (s.l++[((s.i:Int),pl)]));rw[d8,J9];exact jI.set_lt l1
  ·intro q H j5 P D;rw[Jz (Ne.symm j5),gY q Ab (λe=>Fi),Ph J];exact B q H P D
end
def zif:LC:=(.q [.x 2 0,.e 4,.e 5,.K 6 0] (.q [.L 18 3 2,.w 19 39 18,.m 17 19,.X 20 0 17,.X 21 1 17,.m 7 20,.m 8 21] (.seq (.q [.m 22 8,.b 23 .eql 37 22 0,.m 24 23,.y 25 24 (.loadN 3 (.t 2)),.y 26 24 (.w 42 [.t 25]),.y 27 24 (.bin .gtr true 3 (.t 26) (.k 16777216)),.q 28 24 27] (.cond (.t 28) (.ops [.K 8 10]) .skip)) (.seq (.q [.m 29 8,.b 30 .eql 37 29 0,.m 31 30,.y 32 31 (.loadN 3 (.t 2)),.my 33 31 1,.y 34 31 (.w 43 [.t 32,.t 33]),.y 35 31 (.un .not (.t 34)),.q 36 31 35] (.cond (.t 36) (.ops [.K 8 2]) .skip)) (.seq (.q [.m 37 8,.b 38 .neq 37 37 0] (.cond (.t 38) (.q [.m 39 8,.e 4,.e 5,.m 6 39] .ret) .skip)) (.seq (.draw [(.L 40 3 2,[]),(.f 41 0 2,[]),(.l 42 41,[]),(.z 43 (.mkSl 1 [(.u 0)] (.t 42) (.t 42)),[(.l 42 41,false),(.L 40 3 2,false)]),(.z 44 (.build [(.i 0),.nilSl,.nilSl,.nilSl,.nilSl,.nilSl] [(0,3,.t 40),(3,1,.t 43)]),[]),(.x 45 44,[(.z 43 (.mkSl 1 [(.u 0)] (.t 42) (.t 42)),true),(.l 42 41,false),(.L 40 3 2,false)]),(.m 9 45,[])]) (.seq (.q [.K 10 0] (.block 0 (.loop (.seq (.q [.m 46 10,.m 47 1,.s 48 47,.c 49 .lss 3 46 48] (.cond (.t 49) .skip (.exit 0))) (.seq (.block 1 (.q [.f 52 1 2,.l 53 52,.m 54 10,.I 55 3 53 54,.f 56 0 55,.l 57 56,.z 58 (.mkSl 1 [(.u 0)] (.t 57) (.t 57)),.m 11 58] (.q [.m 59 11,.m 60 1,.m 61 10,.I 62 1 60 61,.l 63 62,.z 64 (.copy 1 (.t 59) (.t 63))] (.ops [.m 65 9,.m 66 9,.N 67 66,.f 68 4 67,.l 69 68,.m 70 11,.z 71 (.buildSl 1 1 [.nilSl] [(0,1,.t 70)]),.a 72 1 69 71,.N 73 65,.f 74 4 73,.S 1 74 72])))) (.ops [.m 50 10,.b 51 .add 3 50 1,.m 10 51])))))) (.q [.L 75 3 2,.w 76 44 75,.m 12 76] (.q [.z 13 (.move .T)] (.seq (.q [.K 14 0] (.block 2 (.loop (.seq (.q [.m 77 14,.f 78 2 2,.l 79 78,.s 80 79,.c 81 .lss 3 77 80] (.cond (.t 81) .skip (.exit 2))) (.seq (.block 3 (.q [.f 84 2 2,.l 85 84,.m 86 14,.I 87 8 85 86,.L 88 8 87,.z 15 (.alloc [(.i 0),(.i 0),(.i 0),(.i 0),(.i 0),(.i 0),(.i 0),(.u 0)]),.S 8 15 88] (.q [.f 89 0 15,.l 90 89] (.block 4 (.q [.b 100 .eql 3 90 16,.m 99 100] (.cond (.t 99) (.seq (.q [.m 101 13] (.cond (.t 101) (.draw [(.m 102 9,[]),(.N 103 102,[]),(.f 104 3 103,[]),(.l 105 104,[]),(.f 106 1 15,[]),(.l 107 106,[]),(.I 108 1 105 107,[]),(.v (.store 1 (.t 108) (.c (.u 0))),[])]) .skip)) (.q [.m 109 9,.m 110 9,.N 111 110,.f 112 5 111,.l 113 112,.m 114 14,.z 115 (.build [(.i 0),(.i 0)] [(0,1,.t 114),(1,1,.k (-1))]),.z 116 (.buildSl 2 1 [(.i 0),(.i 0)] [(0,2,.t 115)]),.a 117 2 113 116,.N 118 109,.f 119 5 118,.S 1 119 117] (.ops [.z 13 (.move .T)]))) (.q [.b 121 .eql 3 90 17,.m 120 121] (.cond (.t 120) (.seq (.draw [(.f 122 2 2,[]),(.l 123 122,[]),(.m 124 12,[]),(.m 125 14,[]),(.I 126 1 124 125,[]),(.l 127 126,[]),(.I 128 8 123 127,[]),(.L 129 8 128,[]),(.z 16 (.alloc [(.i 0),(.i 0),(.i 0),(.i 0),(.i 0),(.i 0),(.i 0),(.u 0)]),[(.L 129 8 128,false),(.l 127 126,false),(.l 123 122,false)]),(.S 8 16 129,[])]) (.seq (.draw [(.m 130 9,[]),(.N 131 130,[]),(.f 132 3 131,[]),(.l 133 132,[]),(.f 134 1 16,[]),(.l 135 134,[]),(.I 136 1 133 135,[]),(.l 137 136,[]),(.u 138 .add 23 137 1,[]),(.f 139 7 16,[]),(.l 140 139,[]),(.c 141 .lss 23 138 140,[])]) (.cond (.t 141) (.seq (.draw [(.m 142 9,[]),(.N 143 142,[]),(.f 144 3 143,[]),(.l 145 144,[]),(.f 146 1 16,[]),(.l 147 146,[]),(.I 148 1 145 147,[]),(.l 149 148,[]),(.u 150 .add 23 149 1,[]),(.I 151 1 145 147,[]),(.S 1 151 150,[])]) (.q [.F 13] (.ops [.m 152 12,.m 153 14,.I 154 1 152 153,.l 155 154,.b 156 .sub 3 155 1,.m 14 156]))) .skip))) (.q [.m 91 9,.m 92 14,.W 93 45 91 92,.z 94 (.un .not (.t 93))] (.cond (.t 94) (.seq (.draw [(.m 95 9,[]),(.N 96 95,[]),(.f 97 5 96,[]),(.l 98 97,[]),(.e 4,[]),(.m 5 98,[]),(.K 6 11,[])]) .ret) .skip)))))))))) (.ops [.m 82 14,.b 83 .add 3 82 1,.m 14 83])))))) (.seq (.draw [(.m 157 9,[]),(.N 158 157,[]),(.f 159 4 158,[]),(.l 160 159,[]),(.m 161 9,[]),(.N 162 161,[]),(.f 163 5 162,[]),(.l 164 163,[]),(.m 4 160,[]),(.m 5 164,[]),(.K 6 0,[])]) .ret)))))))))))
def r_ref12_Run:Pk Tryz.prog 19=some ⟨165,zif.r,[.tmp 4,.tmp 5,.tmp 6]⟩:=Aa
def MsH.push_ev{G:Pd}{x pb kb:Nat}{b:Nat}{regs:Int}{bs:List Bf}{os:List Lo}{L:LV}{s:Ms}{K:LV→Pd→Prop}{tmp:LObj}{i pl:Int}(hG:I=G++[tmp])(hm:MsH G x j pb kb uY b regs bs os L s)(gH:s.l.length≤1000000000)
  (k:∀(L':LV) (G5:Pd),L'.cells=some [L']→(∀q,q<b→G5[q]?=G[q]?)→(∀(gg:Nat),MsH (G5.set x (.cells [.i regs,.lst (Rz bs) bs.length 3,.lst (Tu os) os.length 8,.dy j 0,.dy pb kb,L'] gg)) x j pb kb uY b regs bs os L' ⟨s.i,s.first,s.r,s.bufs,s.l++[(i,pl)]⟩)→K L' G5):Rq I 2 L 1 [.i i,.i pl] K:=by
 subst hG;obtain⟨l1,l2,l3,l4,l5,l6⟩:=hm.lt;have gK:=hm.bG;refine Ra.push2 (x:=[.i i,.i pl]) hm.ev.push_end J Ab gH rfl rfl λL' G5 gD gI gF gL=>?_
 have keep:∀{q:Nat},q<b→G5[q]?=G[q]?:=λ{q} hq=>by
  rw[gI q Ab (λe=>Fi),Ph J]
 refine k L' G5 gD.cells (λq hq=>keep hq) λgg=>?_
 have gG:x<G5.length:=by simp at gF;omega
 have ne:∀{q:Nat} {ob:LObj},q≠x→(G5.set x ob)[q]?=G5[q]?:=λhq=>Jz (Ne.symm hq)
 refine⟨⟨gg,J3 gG⟩,?_,?_,λgM hj=>?_,hm.bl,hm.lt,hm.qlt,hm.nd,?_,by rw[Mj];simp at gF;omega⟩
 ·obtain⟨st,h⟩:=hm.rr;exact⟨st,by rw[ne (Ne.symm l4),keep l2];exact h⟩
 ·obtain⟨st,h⟩:=hm.bb;exact⟨st,by rw[ne (Ne.symm l5),keep l3];exact h⟩
 ·obtain⟨st,h⟩:=hm.row gM hj;have hq:=hm.qlt (uY.getD gM 0) Hu;exact⟨st,by rw[ne hq.2.1,keep hq.1];exact h⟩
 ·show Ra b _ L' 2 (s.l++[(i,pl)]).length (Xt (s.l++[(i,pl)]));rw[d8,J9];exact gD.set_lt l1
def MsH.ctl{G:Pd}{x pb kb:Nat}{b:Nat}{regs:Int}{bs:List Bf}{os:List Lo}{L:LV}{s:Ms}(h:MsH G x j pb kb uY b regs bs os L s){i:Nat}{f:Bool}:MsH G x j pb kb uY b regs bs os L ⟨i,f,s.r,s.bufs,s.l⟩:=⟨h.xc,h.rr,h.bb,h.row,h.bl,h.lt,h.qlt,h.nd,h.ev,h.bG⟩
def zr2{C:Pd}:∀(g:List Nat) (j:List (List UInt64)),j.length=g.length→(∀z,z<g.length→∃st,C[g.getD z 0]?=some (.dyn ((j.getD z []).map .u) (j.getD z []).length 1 0 st))→bors C (g.map λq=>.dy q 0) (j.map LU)
 |[],j,h,_=>by
  have:j=[]:=Kn h;subst this;simp
 |q::g,[],h,_=>Cc
 |q::g,x::j,h,A=>by
  obtain⟨st,B⟩:=A 0 N;simp only[List.getD_cons_zero]at B;rw[Mt,Mt];refine⟨_,_,rfl,⟨_,_,_,st,rfl,B,N⟩,zr2 g j Aw λz D=>?_⟩;have:=A (z+1) Ab;simpa only[List.getD_cons_succ] using this
def xd(n:Nat):Rl [.u 0] n=(List.replicate n (0:UInt64)).map LV.u:=by
 induction n with
 |zero=>rfl
 |succ n g=>rw[Rl,g,Na];rfl
def ug(x:List UInt64)(n:Nat)(h:x.length≤n):Qj ((List.replicate n (0:UInt64)).map LV.u) 0 ((x.map LV.u).take (min x.length n))=(x++List.replicate (n-x.length) 0).map LV.u:=by
 rw[Mh h,Kk N,zm6,Ng]
 congr 1
 simp
def zgg{bs:List Bf}{os:List Lo}{X:List (List UInt64)}{es:List Int}{s':Ms}(hc:(Tf z bs os).2=0)(hb:Yv Sr 0 os)(AO:Yf [] 0 os≤16777216)(hX:mo bs X=true)(j5:1≤bs.length)(j6:X2 0 [] (List.replicate os.length 0) os=es)
  (hE:∀i o,os[i]?=some o→o.kind=17→0≤es.getD i 0∧∃p,os[(es.getD i 0).toNat]?=some p∧p.kind=16) (hT:g≤800000000) (j:Rr os es g (Sc z bs X)=some s') (AH:s'.i=os.length) :
  Rk 19 [.agg (Pm z bs os),LN X] (.tup [LN s'.bufs,.lst (Xt s'.l) s'.l.length 2,.i 0]):=by
 obtain⟨zU,AI,AP,AQ,jD,j7⟩:=z7r hc;have jK:X.length=bs.length∧∀i,i<bs.length→((X.getD i []).length:Int)=if (Ps bs i).kind=3 then 0 else (Ps bs i).size:=by
  unfold mo at hX;exact Mn hX
 obtain⟨jK,j8⟩:=jK;obtain⟨r,rfl⟩:=J5 zU;have zV:∀l:List (Int×Int),dats (Xt l)=true:=λl=>zae (f:=λe:Int×Int=>[.i e.1,.i e.2]) (λ_=>rfl) l
 refine Uy.mkS (by simp[LV.dat,dats,zV,LN,zxh]) (Pj r_ref12_Run Aa (by simp) ?_);have AT:dats (Pm r bs os)=true:=zhs _ _ _;have j9:¬(16777216:Int)<Yf [] 0 os:=J
 simp[zif,Pm];refine Pr (z4j r bs os) (bors_self _ Bm) ?_;simp[hc];refine Pr (zl1 hc hb) (bors_self _ Bm) ?_;simp[j9];refine Pr (zmk r bs os X J) (bors_self _ (by simp[dats,LV.dat,Pm,V3,W9,zxh])) ?_;simp[hX];refine⟨J,?_⟩;refine Qt (λρ AK gH N=>∃(i:Nat) (B:List Nat) (v:LV),AK=[]∧N+i=bs.length∧B.length=i∧lk ρ 1=LN X∧lk ρ 2=.ptr 0 0∧lk ρ 9=.ptr 2 0∧lk ρ 10=.i i∧gH[0]?=some (.cells (Pm r bs os) 0)∧(∃st,gH[1]?=some (.dyn ((List.replicate r (0:UInt64)).map .u) r 1 0 st))∧(∃st,gH[2]?=some (.cells [.i r,.lst (Rz bs) bs.length 3,.lst (Tu os) os.length 8,.dy 1 0,v,.nilSl] st))∧3≤gH.length ∧
   ((i=0∧v=.nilSl)∨∃O st,v=.dy O (i-1)∧3≤O∧O ∉ B∧1≤i∧gH[O]?=some (.dyn (B.map λq=>.dy q 0) i 1 (i-1) st))∧(∀q∈B,3≤q)∧B.Nodup∧∀V,V<i→∃st,gH[B.getD V 0]?=some (.dyn ((X5 (Ps bs V) (X.getD V [])).map .u) (X5 (Ps bs V) (X.getD V [])).length 1 0 st)) (N:=bs.length)
  ⟨0,[],.nilSl,rfl,J,rfl,by simp,by simp,by simp,by simp,Ch,⟨0,by simp[xd]⟩,⟨0,by simp⟩,by simp,.inl ⟨rfl,rfl⟩,by simp,by simp,λV h=>J⟩ ?_
 rintro N ρ AK gH ⟨i,B,v,rfl,hN,Z,h1,M,H,gR,A,⟨s1,gT⟩,⟨s2,jg⟩,AU,hv,jz,zg,gG⟩ Nx I;have gU:lk ρ 1=.lst (X.map LU) X.length 1:=h1;by_cases j4:i<bs.length
 ·have q0:=zel (T7 j4);have gx:i<X.length:=J
  obtain⟨x,hx⟩:∃x,X.getD i []=x:=⟨_,rfl⟩;have zX:X[i]=x:=by rw[←hx];simp[gx]
  have hm:Ps bs i∈bs:=Kj (T7 j4);obtain⟨b1,b2⟩:=jD _ hm;have zj:=j8 i j4;rw[hx]at zj;obtain⟨n,hn⟩:=J5 (J:0≤(Ps bs i).size);have zY:x.length≤n:=by split at zj<;>omega
  have zz:X5 (Ps bs i) (X.getD i [])=x++List.replicate (n-x.length) 0:=by unfold X5;rw[hx,hn];rfl
  have jE:(x++List.replicate (n-x.length) (0:UInt64)).length=n:=Ab
  have l0:0<gH.length:=J
  have l2:2<gH.length:=J
  have p0:∀y:List LObj,(gH++y)[0]?=_:=λy=>(Ph l0).trans A
  have p2:∀y:List LObj,(gH++y)[2]?=_:=λy=>(Ph l2).trans jg
  have zB:=ug x n zY;simp only[List.map_replicate]at zB;have AX:n≤65536:=J
  simp[gU,M,H,gR,A,Pm,j4,gx,Pe q0,hn,zX,xd,zB,↓p2];refine⟨J,?_⟩;have zC:∀q∈B,q<gH.length:=λq hq=>by
   obtain⟨V,hj,rfl⟩:=L5.1 hq;obtain⟨st,h⟩:=gG V J;have h:=(Jy.1 h).1;simpa [J0,hj] using h
  have zZ:∀V,V<i→(B++[gH.length]).getD V 0=B.getD V 0:=λV hj=>by simp[J0,J4 (J:V<B.length)]
  have z7:(B++[gH.length]).getD i 0=gH.length:=by
   rw[J0,Kl J,(J:i-B.length=0)];rfl
  have zD:(B++[gH.length]).Nodup:=by
   rw[List.nodup_append];exact⟨zg,by simp,λa ha b hb=>by simp at hb;rw[hb];have:=zC a ha;omega⟩
  rcases hv with ⟨rfl,rfl⟩|⟨O,jL,rfl,gI,jA,z9,gK⟩
  ·have Ag:B=[]:=Kn Z;subst Ag;simp[H,↓p2,gR];refine I _ _ _ ⟨N-1,J,1,[gH.length],.dy (gH.length+2) 0,rfl,J,rfl,by simp[gU],Bc,A1,by simp,?_,⟨s1,?_⟩,⟨s2+1,?_⟩,by simp,.inr ⟨gH.length+2,0,rfl,J,by simp,J,?_⟩,Ab,by simp,λV hj=>⟨1,?_⟩⟩
   ·rw[Jz J];exact p0 _
   ·rw[Jz J,Ph J];exact gT
   ·exact J3 (by simp)
   ·rw[Jz J,Kl J,(J:gH.length+2-gH.length=2)];rfl
   ·have Aj:V=0:=J
    subst Aj;rw[zz];rw[Jz Ab];simp only[List.getD_cons_zero];rw[Kl J,Nb,jE];simp
  ·have lp:O<gH.length:=(Jy.1 gK).1;have pp:∀y:List LObj,(gH++y)[O]?=_:=λy=>(Ph lp).trans gK
   have Az:∀(y:List LObj) (ob:LObj),((gH++y).set O ob)[2]?=_:=λy ob=>(Jz J).trans (p2 y)
   simp[H,↓pp,↓Az,gR]
   repeat (refine⟨J,?_⟩)
   refine I _ _ _ ⟨N-1,J,i+1,B++[gH.length],.dy O i,rfl,J,Ei,by simp[gU],Bc,A1,by simp,?_,⟨s1,?_⟩,⟨s2+1,?_⟩,Ab,.inr ⟨O,jL+1,rfl,gI,by simp[jA];omega,J,?_⟩,λq hq=>?_,zD,λV hj=>?_⟩
   ·rw[Jz J,Jz J];exact p0 _
   ·rw[Jz J,Jz J,Ph J];exact gT
   ·rw[J3 Ab,(J:i-1+1=i)]
   ·rw[Jz J,J3 Ab,(J:i-1+1=i)];simp
   ·rcases Kx.1 hq with hq|hq
    ·exact jz q hq
    ·simp at hq;omega
   ·by_cases e:V=i
    ·subst e;rw[z7,zz,jE];refine⟨1,?_⟩;rw[Jz J,Jz J,Kl J,Nb];simp
    ·obtain⟨st,h⟩:=gG V J;refine⟨st,?_⟩;have jM:B.getD V 0∈B:=by simp[J0,(J:V<B.length)]
     have:=jz _ jM;rw[zZ V J,Jz J,Jz (λe=>jA (by rw[e];exact jM)),Ph (zC _ jM)];exact h
 have hi:i=bs.length:=J
 subst hi;rcases hv with ⟨e,_⟩|⟨O,jL,rfl,gI,jA,z9,gK⟩
 ·omega
 have ge:¬bs.length<bs.length:=J
 have zE:MsH gH 2 1 O (bs.length-1) B gH.length r bs os .nilSl (Sc r bs X):=by
  have l1:=(Jy.1 gT).1;have l2:=(Jy.1 jg).1;have lp:=(Jy.1 gK).1;refine⟨⟨s2,jg⟩,⟨s1,by simpa [Sc] using gT⟩,⟨jL,by rw[Z];exact gK⟩,λV hj=>?_,by simp[Sc,x6,Z],⟨l2,l1,lp,J,J,J⟩,λq hq=>?_,zg,Ra.nil,J8 _⟩
  ·obtain⟨st,h⟩:=gG V J;refine⟨st,?_⟩;have AA:(Sc r bs X).bufs.getD V []=X5 (Ps bs V) (X.getD V []):=by simp[Sc,Vu,J0,(J:V<bs.length)]
   rw[AA];exact h
  ·obtain⟨V,hj,rfl⟩:=L5.1 hq;obtain⟨st,h⟩:=gG V J;have h:=(Jy.1 h).1;have:=jz _ hq;exact⟨by simpa [J0,hj] using h,J,J,λe=>jA (by rw[←e];exact hq)⟩
 have jF:∀x∈(Sc r bs X).bufs,x.length≤65536:=λx hx=>by
  simp only[Sc,Vu,N0,Mf]at hx;obtain⟨V,hj,rfl⟩:=hx;have hm:Ps bs V∈bs:=Kj (T7 hj);obtain⟨b1,b2⟩:=jD _ hm;have:=j8 V hj;unfold X5;rw[J9,List.length_replicate];split at this<;>omega
 simp[gU,M,H,gR,jK,A,Pm];refine Ux (zmi hc hb) Ga ?_;rw[j6];have AL:B.length=bs.length:=Z;generalize AY:gH.length=b at *;simp;refine Qt (λρ AK G' N=>∃(s:Ms) (zT:LV),AK=[]∧Rr os es N s=some s'∧lk ρ 2=.ptr 0 0∧lk ρ 9=.ptr 2 0∧lk ρ 12=.lst (es.map .i) os.length 1∧lk ρ 13=.bool s.first∧lk ρ 14=.i s.i∧G'[0]?=some (.cells (Pm r bs os) 0)∧MsH G' 2 1 O (bs.length-1) B b r bs os zT s∧s.l.length+N≤g∧s.i≤os.length∧s.r.length=r∧∀x∈s.bufs,x.length≤65536) (N:=g)
  ⟨Sc r bs X,.nilSl,rfl,j,Bc,A1,by simp,Ek,Ek,A,zE,Ek,Ek,Ek,jF⟩ ?_
 clear j zE h1 gU M H gR A gT jg gK I Nx jF;rintro N ρ AK P ⟨s,zT,rfl,j,M,H,gg,Q,K,A,Y,AZ,A2,gL,gM⟩ Nx I;by_cases j4:s.i<os.length
 case neg =>
  have AB:=zud (os:=os) (es:=es) (s:=s) (Me J) N;rw[AB]at j;have jO:s=s':=Option.some.inj j;subst jO;obtain⟨t1,D⟩:=Y.xc;obtain⟨t2,j5⟩:=Y.bb;simp[M,H,K,A,Pm,j4,D];intro c a hs ha;have AM:s.bufs.length=bs.length:=by rw[Y.bl,Z]
  have h:=tup3_ok hs j5 (zr2 B s.bufs Y.bl Y.row) Y.ev.bor (by simp) ha;rw[←Y.bl]at h;exact h
 have ho:=zgs j4;have gV:=zco ho;have gY:=zn1 j4;have jP:=j7 _ (Kj ho);generalize mh os s.i=o at *;cases N with
 |zero =>
  have jO:s=s':=Option.some.inj j;subst jO;omega
 |succ N =>
 have hC:o.f=[.i o.kind,.i o.d,.i o.e,.i o.a,.i o.b,.i o.c,.i o.buf,.u o.imm]:=rfl;change (match Tk os es s with|none=>none|some s'=>Rr os es N s')=some s' at j;have l0:0<P.length:=by have:=Y.bG;omega
 have p0:∀y:List LObj,(P++y)[0]?=_:=λy=>(Ph l0).trans A
 have L:(P++[LObj.cells o.f 1])[P.length]?=some (.cells o.f 1):=Kg;have E:MsH (P++[LObj.cells o.f 1]) 2 1 O (bs.length-1) B b r bs os zT s:=Y.keep (λq hq=>Ph hq) (by simp);have gD:=p0 [.cells o.f 1];have A3:b≤P.length:=Y.bG;have z0:∀(y:List LObj) (h:0<(P++y).length),(P++y)[0]=.cells (Pm r bs os) 0:=λy h=>Option.some.inj ((J7 h).symm.trans (p0 y))
 have p1:∃st,∀y:List LObj,(P++y)[1]?=some (.dyn (s.r.map .u) s.r.length 1 0 st):=by
  obtain⟨st,h⟩:=Y.rr;exact⟨st,λy=>(Ph (Jy.1 h).1).trans h⟩
 have p2:∃st,∀y:List LObj,(P++y)[2]?=some (.cells [.i r,.lst (Rz bs) bs.length 3,.lst (Tu os) os.length 8,.dy 1 0,.dy O (bs.length-1),zT] st):=by
  obtain⟨st,h⟩:=Y.xc;exact⟨st,λy=>(Ph (Jy.1 h).1).trans h⟩
 obtain⟨t1,p1⟩:=p1;obtain⟨t2,p2⟩:=p2;obtain⟨rd,re,ra,rb,rc,rm⟩:=ziq jP;by_cases F:o.kind=16
 ·have R:Tk os es s=some ⟨s.i+1,true,if s.first then Po s.r o.d 0 else s.r,s.bufs,s.l++[((s.i:Int),(-1:Int))]⟩:=by
   unfold Tk;rw[ho];dsimp only;rw[J6 F]
  rw[R]at j;dsimp only at j;obtain⟨d0,dr⟩:=(z33 jP).2.2 F;obtain⟨dn,C⟩:=J5 d0;have gF:dn<s.r.length:=J
  have zG:=Y.lt;have A4:∀(G7:Pd) (s2:Ms),MsH G7 2 1 O (bs.length-1) B b r bs os zT s2→G7[0]?=some (.cells (Pm r bs os) 0)→s2.l=s.l→s2.i=s.i→(⟨s2.i+1,true,s2.r,s2.bufs,s2.l++[((s.i:Int),(-1:Int))]⟩:Ms)=⟨s.i+1,true,if s.first then Po s.r o.d 0 else s.r,s.bufs,s.l++[((s.i:Int),(-1:Int))]⟩→True:=λ_ _ _ _ _ _ _=>trivial
  cases hf:s.first with
  |true =>
   rw[hf]at j Q;rw[J6 rfl]at j;obtain⟨t2,jQ⟩:=E.rr;obtain⟨t1,D⟩:=E.xc;have e1:Qj (s.r.map LV.u) dn [.u 0]=(Po s.r o.d 0).map LV.u:=by
    rw[zwa (by simpa using gF),Po,J6 d0,C,Ll];rfl
   have gO:=E.putr (i:=o.d) (v:=0) (st:=t2+1);rw[hC]at D jQ E gO gD L;have zH:∀ob:LObj,((P++[LObj.cells [.i o.kind,.i o.d,.i o.e,.i o.a,.i o.b,.i o.c,.i o.buf,.u o.imm] 1]).set 1 ob)[0]?=some (.cells (Pm r bs os) 0):=λob=>(Jz J).trans gD
   rw[F,C]at D jQ L zH gO;simp[M,H,Q,K,A,Pm,j4,gV,gY,hC,F,C,L,D,jQ,gF,e1];refine⟨J,MsH.push_ev rfl gO (by show s.l.length≤_;omega) λL' G5 jR gZ jB=>?_⟩;obtain⟨t3,AC⟩:=gO.xc;have jT:G5[2]?=_:=(gZ 2 J).trans AC;simp[-LV.cells,jR,jT,K];have jU:G5[0]?=some (.cells (Pm r bs os) 0):=(gZ 0 J).trans (zH _);rw[←C]at jB;refine⟨J,I _ _ _ ⟨N,J,_,L',rfl,j,Bc,A1,B1,by simp,by simp,?_,(jB (t3+1)).ctl,Ab,Im,by show (Po s.r o.d 0).length=_;rw[zeh];exact gL,gM⟩⟩;rw[Jz J];exact jU
  |false =>
   rw[hf]at j Q;rw[J1 Ac]at j;obtain⟨t1,D⟩:=E.xc;rw[hC]at D E gD L;rw[F]at D L E gD;simp[M,H,Q,K,A,Pm,j4,gV,gY,hC,F,L,D];refine MsH.push_ev (by rw[K0];rfl) E J λL' G5 jR gZ jB=>?_
   have jT:G5[2]?=_:=(gZ 2 J).trans D;simp[-LV.cells,jR,jT,K];have jU:G5[0]?=some (.cells (Pm r bs os) 0):=(gZ 0 J).trans gD;refine⟨J,I _ _ _ ⟨N,J,_,L',rfl,j,Bc,A1,B1,by simp,by simp,?_,(jB (t1+1)).ctl,Ab,Im,gL,gM⟩⟩;rw[Jz J];exact jU
 by_cases G:o.kind=17
 ·obtain⟨c0,p,hp,AD⟩:=hE s.i o ho G;obtain⟨kn,jV⟩:=J5 c0;have zI:s.i<es.length:=by rw[←j6,endsR_len];simpa using j4
  have jG:(es.map LV.i)[s.i]?=some (.i (kn:Int)):=by
   rw[←jV];simp[J0,zI]
  rw[jV]at hp;rw[Kr]at hp;have AE:=j7 _ (Kj hp);have zK:=zco hp;have jX:kn<os.length:=(Jy.1 hp).1;have jH:=zn1 jX;obtain⟨d0,dr⟩:=(z33 AE).2.2 AD;obtain⟨dn,C⟩:=J5 d0;have gF:dn<s.r.length:=J
  have R:Tk os es s=if atR s.r p.d+1<p.imm then some ⟨kn,false,Po s.r p.d (atR s.r p.d+1),s.bufs,s.l⟩ else some ⟨s.i+1,s.first,s.r,s.bufs,s.l⟩:=by
   unfold Tk;rw[ho];dsimp only;rw[J1 F,J6 G,jV,Kr,hp]
  have AF:atR s.r p.d=s.r.getD dn 0:=by unfold atR;rw[J1 J,C];rfl
  have zL:s.r[dn]=atR s.r p.d:=by rw[AF];simp[J0,gF]
  generalize atR s.r p.d=xv at *;rw[R]at j;have zG:=Y.lt;have jC:p.f=[.i p.kind,.i p.d,.i p.e,.i p.a,.i p.b,.i p.c,.i p.buf,.u p.imm]:=rfl;have A5:0<P.length:=l0;have jY:MsH (P++[LObj.cells o.f 1,LObj.cells p.f 1]) 2 1 O (bs.length-1) B b r bs os zT s:=Y.keep (λq hq=>Ph hq) (by simp);have gI:=p0 [.cells o.f 1,.cells p.f 1];have jZ:(P++[LObj.cells o.f 1,LObj.cells p.f 1])[P.length+1]?=some (.cells p.f 1):=by
   rw[Kl J,(J:P.length+1-P.length=1)];rfl
  have e1:Qj (s.r.map LV.u) dn [.u (xv+1)]=(Po s.r p.d (xv+1)).map LV.u:=by
   rw[zwa (by simpa using gF),Po,J6 d0,C,Ll];rfl
  have zM:=jY.putr (i:=p.d) (v:=xv+1) (st:=t1+1);rw[hC,jC,G,C]at jY gI zM;rw[jC,hC,G,C]at jZ;rw[hC,G]at L;rw[C]at e1 j;have jI:p.imm≤xv+1↔¬xv+1<p.imm:=by simp
  by_cases T:xv+1<p.imm
  ·rw[J6 T]at j;simp[M,H,gg,Q,K,A,Pm,j4,gV,gY,hC,G,L,↓p0,↓p1,↓p2,z0,Pe jG,jX,zK,jH,jC,jZ,C,gF,zL,jI,T,e1,Xf]
   repeat (refine⟨J,?_⟩)
   refine I _ _ _ ⟨N,J,_,zT,rfl,j,Bc,A1,B1,by simp,by simp,?_,?_,by show s.l.length+N≤g;omega,by show kn≤_;omega,by show (Po s.r (dn:Int) (xv+1)).length=_;rw[zeh];exact gL,gM⟩
   ·rw[Jz J];exact gI
   ·exact zM.ctl
  ·rw[J1 T]at j;simp[M,H,gg,Q,K,A,Pm,j4,gV,gY,hC,G,L,↓p0,↓p1,↓p2,z0,Pe jG,jX,zK,jH,jC,jZ,C,gF,zL,jI,T,e1,Xf]
   repeat (refine⟨J,?_⟩)
   exact I _ _ _ ⟨N,J,_,zT,rfl,j,Bc,A1,B1,Em,by simp,gI,jY.ctl,by show s.l.length+N≤g;omega,Im,gL,gM⟩
 have R:Tk os es s=Xb o s:=by
  unfold Tk;rw[ho];dsimp only;rw[J1 F,J1 G]
 rw[R]at j;simp[M,H,K,A,Pm,j4,gV,gY,hC,F,G];rw[hC]at E gD;cases hd:Xb o s with
 |none=>rw[hd]at j;cases j
 |some s1 =>
 rw[hd]at j;dsimp only at j;have U:=doR_len hd;refine do_any E ho jP F G (by rw[gL]) (by rw[Z]) J gM (λe=>by rw[hd]at e;cases e) λs2 G6 L2 e gO zO=>?_
 rw[hd]at e;obtain rfl:=Option.some.inj e;have AG:G6[0]?=some (.cells (Pm r bs os) 0):=by
  have T:=Y.lt;rw[zO 0 J J J (λe=>by have:=jz 0 e;omega)];exact gD
 have zQ:∀x∈s1.bufs,x.length≤65536:=λx hx=>by
  have h1:x.length∈s1.bufs.map List.length:=List.mem_map_of_mem hx;rw[U.b]at h1;obtain⟨y,hy,e⟩:=N0.1 h1;rw[←e];exact gM y hy
 have e1:=U.i;have e2:=U.l;simp[K];refine⟨J,I _ _ _ ⟨N,J,s1,L2,rfl,j,Bc,A1,B1,by simp[Q,U.f],by simp[e1],AG,gO,J,J,by rw[U.r];exact gL,zQ⟩⟩

def th{f:Fr Lo}{bs:List Bf}{X:List (List UInt64)}{gD:Fs→Prop}{c:Cf}(hc:CfOk c)(K:c.nb=bs.length)(g:f.AllH c 0)(F:(Tf ((64:Nat):Int) bs f.flat).2=0)(R:f.stp≤16777216)
  (hX:mo bs X=true) (G:1≤bs.length) (hx:Tx (lf (Sc 64 bs X)) f (X9 (Sc 64 bs X)) gD) :
  ∃(z:Ms) (t:Fs),Rep bs.length (lf (Sc 64 bs X)) z t∧gD t∧(∀b,¬c.S b→z.bufs.getD b []=(Sc 64 bs X).bufs.getD b [])∧z.bufs.length=bs.length∧z.l.length≤800000000 ∧
   Rk 19 [.agg (Pm ((64:Nat):Int) bs f.flat),LN X] (.tup [LN z.bufs,.lst (Xt z.l) z.l.length 2,.i 0]) ∧
   ∀Y:List (List UInt64),mo bs Y=true→(∀i,i<bs.length→(X.getD i []).length=(Y.getD i []).length)→∃A:Ms,A.bufs.length=bs.length∧z.l=A.l∧Rk 19 [.agg (Pm ((64:Nat):Int) bs f.flat),LN Y] (.tup [LN A.bufs,.lst (Xt A.l) A.l.length 2,.i 0]):=by
 have j:=allH_wf g;have B:f.regs bs.length []=true:=K ▸ zf1 hc N g;have E:f.costZ≤800000000:=by have:=costZ_le f;omega
 obtain⟨gF,T,t,U,L,V,Z,h5,h6⟩:=run_all j B E hx;have C:Yv Sr 0 f.flat:=by
  have h:=sh (f:=f) (d:=0) (rest:=[]) j (by unfold Yv;rfl)
  rwa [Ls]at h
 have H:Yf [] 0 f.flat≤16777216:=by rw[wv j B J];omega
 have I:X2 0 [] (List.replicate f.flat.length 0) f.flat=f.ends 0:=by rw[Fr.flat_len];exact zw3 j
 have D:∀(i:Nat) (o:Lo),f.flat[i]?=some o→o.kind=17→0≤(f.ends 0).getD i 0∧∃p,f.flat[((f.ends 0).getD i 0).toNat]?=some p∧p.kind=16:=λi o ho hk=>by
  obtain⟨k,p,e1,e2,e3⟩:=ends_at f 0 i o j ho hk;rw[J0,e1];exact⟨N,p,by simpa using e2,e3⟩
 have gg:∀gG:List (List UInt64),(Sc 64 bs gG).bufs.length=bs.length:=λgG=>by simp[Sc,Vu]
 have no:∀b,¬c.S b→∀o∈f.flat,¬(o.kind=15∧o.buf.toNat=b):=λb hb o ho hk=>hb (hk.2 ▸ (allH_flat g o ho).sto hk.1)
 have M:T.bufs.length=bs.length:=by
  have h:=Z.bl;exact h
 refine⟨T,t,Z,h5,λb hb=>(zvi (no b hb) gF _ _ L).1,M,J,zgg F C H hX G I D U L V,λY hY O=>?_⟩;obtain⟨A,k1,P⟩:=Lock.run_some (ib j) (λo ho=>(allH_flat g o ho).low hc) gF _ _ _ (zw0 (bs:=bs) (X:=X) (Y:=Y) O) L;have Q:A.bufs.length=bs.length:=by
  have:=congrArg List.length P.bufs;simp only[List.length_map]at this;omega
 exact⟨A,Q,P.l,zgg F C H hY G I D U k1 (by rw[←P.i];exact V)⟩
def z66:LC:=(.q [.x 3 0,.x 4 1,.F 6] (.seq (.q [.f 9 0 4,.l 10 9,.b 11 .eql 3 10 16] (.cond (.t 11) (.q [.F 6] .ret) .skip)) (.seq (.q [.f 12 0 4,.l 13 12,.b 14 .eql 3 13 14] (.cond (.t 14) (.q [.f 15 1 3,.l 16 15,.f 17 6 4,.l 18 17,.I 19 3 16 18,.f 20 2 19,.l 21 20,.m 6 21] .ret) .skip)) (.q [.L 22 8 4,.w 23 79 22,.m 7 23] (.seq (.q [.K 8 0] (.block 0 (.loop (.seq (.q [.m 24 8,.m 25 7,.s 26 25,.c 27 .lss 3 24 26] (.cond (.t 27) .skip (.exit 0))) (.seq (.block 1 (.q [.m 30 2,.m 31 7,.m 32 8,.I 33 1 31 32,.l 34 33,.I 35 1 30 34,.l 36 35] (.cond (.t 36) (.q [.z 6 (.move .T)] .ret) .skip))) (.ops [.m 28 8,.b 29 .add 3 28 1,.m 8 29])))))) (.q [.F 6] .ret))))))
def r_ref13_secret:Pk Tryz.prog 81=some ⟨37,z66.r,[.tmp 6]⟩:=Aa
def zd7:LC:=(.q [.x 1 0,.e 2] (.q [.L 11 3 1,.w 12 39 11,.m 10 12,.X 13 0 10,.X 14 1 10,.m 3 13,.m 4 14] (.seq (.q [.m 15 4,.b 16 .neq 37 15 0] (.cond (.t 16) (.q [.e 2] .ret) .skip)) (.q [.f 17 0 1,.l 18 17,.z 19 (.mkSl 1 [(.bool false)] (.t 18) (.t 18)),.m 5 19] (.seq (.q [.z 6 (.move .T)] (.block 0 (.loop (.seq (.q [.m 20 6] (.cond (.t 20) .skip (.exit 0))) (.block 1 (.q [.F 6] (.q [.K 7 0] (.block 2 (.loop (.seq (.q [.m 21 7,.f 22 2 1,.l 23 22,.s 24 23,.c 25 .lss 3 21 24] (.cond (.t 25) .skip (.exit 2))) (.seq (.block 3 (.q [.f 28 2 1,.l 29 28,.m 30 7,.I 31 8 29 30,.L 32 8 31,.w 33 78 32,.m 8 33] (.q [.K 9 0] (.block 4 (.loop (.seq (.q [.m 34 9,.m 35 8,.s 36 35,.c 37 .lss 3 34 36] (.cond (.t 37) .skip (.exit 4))) (.seq (.block 5 (.seq (.draw [(.m 40 5,[]),(.m 41 8,[]),(.m 42 9,[]),(.I 43 1 41 42,[]),(.l 44 43,[]),(.I 45 1 40 44,[]),(.l 46 45,[]),(.z 47 (.un .not (.t 46)),[]),(.m 48 47,[]),(.y 49 48 (.loadN 3 (.t 1)),[]),(.yf 50 48 2 1,[]),(.yl 51 48 50,[]),(.my 52 48 7,[]),(.y 53 48 (.ixAddr 8 (.t 51) (.t 52)),[]),(.y 54 48 (.loadN 8 (.t 53)),[]),(.my 55 48 5,[]),(.y 56 48 (.w 81 [.t 49,.t 54,.t 55]),[]),(.q 57 48 56,[])]) (.cond (.t 57) (.ops [.m 58 5,.m 59 8,.m 60 9,.I 61 1 59 60,.l 62 61,.I 63 1 58 62,.v (.store 1 (.t 63) .T),.z 6 (.move .T)]) .skip))) (.ops [.m 38 9,.b 39 .add 3 38 1,.m 9 39])))))))) (.ops [.m 26 7,.b 27 .add 3 26 1,.m 7 27])))))))))))) (.q [.m 64 5,.m 2 64] .ret))))))
def r_ref13_Secret:Pk Tryz.prog 40=some ⟨65,zd7.r,[.tmp 2]⟩:=Aa
def zfj:LC:=(.q [.x 1 0,.K 2 0,.K 3 0] (.q [.L 11 3 1,.w 12 39 11,.m 10 12,.X 13 0 10,.X 14 1 10,.m 4 13,.m 5 14] (.seq (.q [.m 15 5,.b 16 .neq 37 15 0] (.cond (.t 16) (.q [.m 17 4,.m 18 5,.m 2 17,.m 3 18] .ret) .skip)) (.q [.L 19 3 1,.w 20 40 19,.m 6 20] (.seq (.q [.K 7 0] (.block 0 (.loop (.seq (.q [.m 21 7,.f 22 2 1,.l 23 22,.s 24 23,.c 25 .lss 3 21 24] (.cond (.t 25) .skip (.exit 0))) (.seq (.block 1 (.q [.f 28 2 1,.l 29 28,.m 30 7,.I 31 8 29 30,.L 32 8 31,.z 8 (.alloc [(.i 0),(.i 0),(.i 0),(.i 0),(.i 0),(.i 0),(.i 0),(.u 0)]),.S 8 8 32] (.q [.f 33 0 8,.l 34 33,.b 35 .eql 3 34 14,.m 36 35,.nf 37 36 0 8,.nl 38 36 37,.nb 39 36 .eql 3 38 15,.p 40 36 39,.m 9 40] (.q [.m 41 9,.m 42 41,.yf 43 42 3 8,.yl 44 42 43,.y 45 42 (.bin .geq true 3 (.t 44) (.k 0)),.q 46 42 45,.m 47 46,.my 48 47 6,.yf 49 47 3 8,.yl 50 47 49,.y 51 47 (.ixAddr 1 (.t 48) (.t 50)),.yl 52 47 51,.q 53 47 52,.m 54 53,.nf 55 54 0 8,.nl 56 54 55,.nb 57 54 .eql 3 56 15,.mn 58 54 57,.my 59 58 6,.yf 60 58 4 8,.yl 61 58 60,.y 62 58 (.ixAddr 1 (.t 59) (.t 61)),.yl 63 58 62,.n 64 54 (.pick (.t 58) (.t 63) .F),.mn 65 54 64,.yf 66 65 1 1,.yl 67 65 66,.yf 68 65 6 8,.yl 69 65 68,.y 70 65 (.ixAddr 3 (.t 67) (.t 69)),.yf 71 65 2 70,.yl 72 65 71,.y 73 65 (.un .not (.t 72)),.n 74 54 (.pick (.t 65) (.t 73) .F),.p 75 54 74,.m 76 75,.nf 77 76 0 8,.nl 78 76 77,.nb 79 76 .eql 3 78 16,.mn 80 76 79,.my 81 80 6,.yf 82 80 1 8,.yl 83 80 82,.y 84 80 (.ixAddr 1 (.t 81) (.t 83)),.yl 85 80 84,.n 86 76 (.pick (.t 80) (.t 85) .F),.p 87 76 86] (.cond (.t 87) (.q [.m 88 7,.m 2 88,.K 3 12] .ret) .skip))))) (.ops [.m 26 7,.b 27 .add 3 26 1,.m 7 27])))))) (.q [.f 89 2 1,.l 90 89,.s 91 90,.m 2 91,.K 3 0] .ret))))))
def r_ref13_Check:Pk Tryz.prog 17=some ⟨92,zfj.r,[.tmp 2,.tmp 3]⟩:=Aa
def x4{o:Lo}(h:R6 z Y o=true)(hk:o.kind=14∨o.kind=15):0≤o.buf∧o.buf.toNat<Y.length:=by
 unfold R6 at h;simp only[J2,Kb]at h;obtain⟨⟨j,A⟩,d,e,a,b,c,f,g⟩:=h;rw[J6 (by rcases hk with q|q<;>simp[Re,q])]at g;simp only[J2,Kb]at g;omega
def zjd{r:Nat}{os:List Lo}{m:List Bool}{o:Lo}(U:R6 r Y o=true)(hm:m.length=r) :
  Rk 81 [.agg (Pm r Y os),.agg o.f,.lst (m.map .bool) r 1] (.bool (Z7 Y m o)):=by
 refine Uy.mk rfl (Pj r_ref13_secret Aa (by simp) ?_);have I:o.f=[.i o.kind,.i o.d,.i o.e,.i o.a,.i o.b,.i o.c,.i o.buf,.u o.imm]:=rfl;obtain⟨Z,_,_⟩:=z33 U;generalize g:Z7 Y m o=gG;unfold Z7 at g;by_cases z:o.kind=16
 ·rw[J6 z]at g;simp[z66,Pm,I,z,g]
 rw[J1 z]at g;by_cases j:o.kind=14
 ·rw[J6 j]at g;obtain⟨b0,K⟩:=x4 U (.inl j);obtain⟨bn,G⟩:=J5 b0;rw[G]at K g;simp only[Kr]at K g;have q2:=zuq (T7 K);simp[z66,Pm,I,j,G,K,Pe q2,g]
 rw[J1 j]at g;simp[z66,Pm,I,z,j];refine Ux (by rw[←I];exact zdd o) Dm ?_;simp;have gg:=zlx o;refine Qt (λX gD gF N=>∃P:Nat,gD=[]∧N+P=(Rb o).length∧lk X 2=.lst (m.map .bool) r 1∧lk X 7=.lst ((Rb o).map .i) (Rb o).length 1∧lk X 8=.i P∧∀x∈(Rb o).take P,Rm m x=false) (N:=(Rb o).length)
  ⟨0,rfl,J,by simp,by simp,by simp,by simp⟩ ?_
 rintro N X gD gF ⟨P,rfl,hN,L,M,Q,R⟩ Nx T;by_cases F:P<(Rb o).length
 ·have V:=W4 (f:=LV.i) (Xl F);have H:=zgd F;have C:=zju F;generalize gd (Rb o) P=x at *;obtain⟨x0,xr⟩:=Z x C;obtain⟨O,rfl⟩:=J5 x0;have D:O<r:=J
  have A:(m.map LV.bool)[O]?=some (.bool (Rm m (O:Int))):=by simp[Rm,hm,D]
  cases B:Rm m (O:Int) with
  |true =>
   rw[B]at A;rw[show (Rb o).any (Rm m)=true from La.2 ⟨_,C,B⟩]at g;subst g;simp[L,M,Q,F,Pe V,D,Pe A]
  |false =>
   rw[B]at A;simp[L,M,Q,F,Pe V,D,Pe A];refine⟨J,T _ _ _ ⟨N-1,J,P+1,rfl,J,Dx,Bc,by simp,λy E=>?_⟩⟩;rw[H]at E;rcases Kx.1 E with E|E
   ·exact R y E
   ·simp at E;rw[E];exact B
 ·rw[Kk J]at R;have:(Rb o).any (Rm m)=false:=by rw[Nk];intro x hx;simp[R x hx]
  rw[this]at g;subst g;simp[L,M,Q,F]
def zg0(l:List Bool):dats (l.map .bool)=true:=by induction l<;>simp_all [dats,LV.dat]
def zki{r:Nat}{os:List Lo}(hc:(Tf r Y os).2=0) :
  Rk 40 [.agg (Pm r Y os)] (.lst ((ba r Y os).map .bool) r 1):=by
 obtain⟨jH,jE,jI,jK,jF,gD⟩:=z7r hc;refine Uy.mk (by simp[LV.dat,zg0]) (Pj r_ref13_Secret Aa (by simp) ?_);have gY:dats (Pm r Y os)=true:=zhs _ _ _;simp[zd7,Pm];refine Pr (z4j r Y os) (bors_self _ Bm) ?_;simp[hc];refine⟨J,?_⟩;have gF:∀o∈os,∀x∈Pu o,0≤x∧x<(r:Int):=λo ho=>(z33 (gD o ho)).2.1
 refine Qt (λT gV gU N=>∃(st n:Nat) (m:List Bool) (D:Bool),gV=[]∧N=(if D=true then n+1 else 0)∧lk T 1=.ptr 0 0∧lk T 5=.dy 1 0∧lk T 6=.bool D∧gU[0]?=some (.cells (Pm r Y os) 0)∧gU[1]?=some (.dyn (m.map .bool) r 1 0 st)∧m.length=r∧(D=true→Wg m<n)∧(if D=true then Ze Y os n m else m)=ba r Y os) (N:=r+1+1)
  ⟨0,r+1,List.replicate r false,true,rfl,by simp,by simp,by simp,by simp,Ch,by simp[repBs],by simp,λ_=>?_,by simp[ba]⟩ ?_
 ·have:Wg (List.replicate r false)≤r:=by unfold Wg;exact K8 (List.countP_le_length) (by simp)
  omega
 rintro N T gV gU ⟨st,n,m,D,rfl,hN,G,F,I,g,j,gG,gH,hL⟩ Nx gZ;cases D with
 |false =>
  simp at hL;simp[F,I];exact⟨_,_,_,⟨rfl,rfl,rfl⟩,⟨st,by rw[j,hL]⟩,zg0 _⟩
 |true =>
 simp at hN gH hL;subst hN;obtain⟨n,rfl⟩:∃k,n=k+1:=⟨n-1,J⟩;rw[Ze]at hL;simp[F,I];refine Qt (λT gV gU N=>∃(i st:Nat) (Z:List Bool) (z:Bool),gV=[]∧N+i=os.length∧lk T 1=.ptr 0 0∧lk T 5=.dy 1 0∧lk T 6=.bool z∧lk T 7=.i i∧gU[0]?=some (.cells (Pm r Y os) 0)∧gU[1]?=some (.dyn (Z.map .bool) r 1 0 st)∧Z.length=r∧cg Y (os.drop i) (Z,z)=cg Y os (m,false)) (N:=os.length)
  ⟨0,st,m,false,rfl,J,Bd,Ae,by simp,by simp,g,j,gG,by simp⟩ ?_
 clear G F I g j;rintro N T gV gU ⟨i,gI,Z,z,rfl,hN,G,F,I,K,g,j,U,H⟩ jL gK;have l0:=(Jy.1 g).1;have l1:=(Jy.1 j).1;by_cases jD:i<os.length
 case neg =>
  rw[L6 J,cg]at H;rw[←H]at hL;have gL:=zur Y os (m,false) (by rw[gG];exact gF);rw[←H]at gL;have jg:¬i<os.length:=jD;simp[G,K,g,Pm,jg];refine gZ _ _ _ ⟨if z=true then n+1 else 0,by split<;>omega,gI,n,Z,z,rfl,rfl,Bd,Ae,Bn,g,j,U,λhm=>?_,by simpa using hL⟩;have:=gL.2 hm;simp at this;omega
 have ho:=zgs jD;have V:mh os i∈os:=Kj ho;rw[zhw jD,cg]at H;have gM:=zco ho;have gO:=zn1 jD;generalize mh os i=o at *;have hC:o.f=[.i o.kind,.i o.d,.i o.e,.i o.a,.i o.b,.i o.c,.i o.buf,.u o.imm]:=rfl;simp[G,K,g,Pm,jD,gM,gO];refine Ux (zde o) (by simp[dats,LV.dat,hC]) ?_;simp;have jz:=gF o V;refine Qt (λT gV gU N=>∃(gg st:Nat) (E:List Bool) (B:Bool),gV=[]∧N+gg=(Pu o).length∧lk T 1=.ptr 0 0∧lk T 5=.dy 1 0∧lk T 6=.bool B∧lk T 7=.i i∧lk T 8=.lst ((Pu o).map .i) (Pu o).length 1∧lk T 9=.i gg∧gU[0]?=some (.cells (Pm r Y os) 0)∧gU[1]?=some (.dyn (E.map .bool) r 1 0 st)∧E.length=r∧mkS Y o ((Pu o).drop gg) (E,B)=mkS Y o (Pu o) (Z,z)) (N:=(Pu o).length)
  ⟨0,gI,Z,z,rfl,J,Bd,Ae,Bn,Bi,by simp,by simp,g,j,U,by simp⟩ ?_
 clear G F I K g j l0 l1;rintro N3 T gV G3 ⟨gg,L,E,B,rfl,jM,G,F,I,K,h8,h9,g,j,C,A⟩ jO M;have l0:=(Jy.1 g).1;have l1:=(Jy.1 j).1;have jG:=zlt o;by_cases X:gg<(Pu o).length
 ·have hg:=W4 (f:=LV.i) (Xl X);have jA:(Pu o).drop gg=gd (Pu o) gg::(Pu o).drop (gg+1):=by
   rw[Lt X];simp[gd,J0,X]
  have jB:=zju X;rw[jA,mkS]at A;generalize gd (Pu o) gg=x at *;obtain⟨x0,xr⟩:=jz x jB;obtain⟨P,rfl⟩:=J5 x0;have Q:P<r:=J
  have R:(E.map LV.bool)[P]?=some (.bool (Rm E (P:Int))):=by simp[Rm,C,Q]
  cases O:Rm E (P:Int) with
  |true =>
   rw[O]at R;simp[O]at A;simp[G,F,K,h8,h9,X,Pe hg,g,j,Q,Pe R];refine⟨J,M _ _ _ ⟨N3-1,J,gg+1,L,E,B,rfl,J,Bd,Ae,Bn,Bi,by simp[h8],by simp,g,j,C,A⟩⟩
  |false =>
   rw[O]at R;have gR:=zjd (os:=os) (gD o V) C;simp[G,F,K,h8,h9,X,Pe hg,g,j,Q,Pe R,Pm,jD,gM,gO];have hb:bors G3 [.agg (Pm r Y os),.agg o.f,.dy 1 0] [.agg (Pm r Y os),.agg o.f,.lst (E.map .bool) r 1]:=⟨_,_,rfl,⟨_,rfl,bors_self _ gY⟩,_,_,rfl,⟨_,rfl,bors_self _ (by simp[hC,dats,LV.dat])⟩,_,_,rfl,⟨_,r,1,L,rfl,j,zg0 _⟩,rfl⟩;refine CallL_B gR hb rfl ?_;have e1:Qj (E.map LV.bool) P [.bool true]=(E.set P true).map LV.bool:=by
    rw[show Qj (E.map LV.bool) P [.bool true]=(E.map LV.bool).set P (.bool true) by rw[K3,J6 Ab];simp[Qj],Ll]
   cases gT:Z7 Y E o with
   |false =>
    simp[O,gT]at A;simp[h9];refine⟨J,M _ _ _ ⟨N3-1,J,gg+1,L,E,B,rfl,J,Bd,Ae,Bn,Bi,by simp[h8],by simp,g,j,C,A⟩⟩
   |true =>
    simp[O,gT]at A;simp[F,h8,h9,X,Pe hg,j,Q,C,e1];refine⟨J,J,M _ _ _ ⟨N3-1,J,gg+1,L+1,E.set P true,true,rfl,J,Bd,Ae,by simp,Bi,by simp[h8],by simp,?_,?_,Af,A⟩⟩
    ·rw[Jz J];exact g
    ·rw[←Ll];exact J3 l1
 ·have jC:¬gg<(Pu o).length:=X;rw[L6 J,mkS]at A;rw[←A]at H;simp[K,h8,h9,jC];refine⟨J,gK _ _ _ ⟨N-1,J,i+1,L,E,B,rfl,J,Bd,Ae,Bn,by simp,g,j,C,H⟩⟩
def zdk{r:Nat}{gU:Int→Bool}(hc:(Tf r Y uZ).2=0)(gH:ag Y gU uZ)(gI:∀o∈uZ,rq Y gU o=true) :
  Rk 17 [.agg (Pm r Y uZ)] (.tup [.i uZ.length,.i 0]):=by
 obtain⟨gV,gO,gY,gZ,gR,X⟩:=z7r hc;refine Uy.mk rfl (Pj r_ref13_Check Aa (by simp) ?_);have jg:dats (Pm r Y uZ)=true:=zhs _ _ _;simp[zfj,Pm];refine Pr (z4j r Y uZ) (bors_self _ Bm) ?_;simp[hc];refine Ux (zki hc) Bm ?_;have gg:Zl (ba r Y uZ) gU:=ztu (λo ho x F=>((z33 (X o ho)).1 x F).1) (λo ho x F=>((z33 (X o ho)).2.1 x F).1) gH _ _ (Zl.none _ _);have jz:(ba r Y uZ).length=r:=by unfold ba;rw[zu1];simp
 generalize ba r Y uZ=gK at *;simp;refine Qt (λρ jA gT N=>∃i:Nat,jA=[]∧N+i=uZ.length∧lk ρ 1=.ptr 0 0∧lk ρ 6=.lst (gK.map .bool) r 1∧lk ρ 7=.i i∧gT[0]?=some (.cells (Pm r Y uZ) 0)) (N:=uZ.length)
  ⟨0,rfl,J,by simp,by simp,by simp,Ch⟩ ?_
 rintro N ρ jA gT ⟨i,rfl,hN,j,D,M,g⟩ Nx gL;have l0:=(Jy.1 g).1;by_cases gD:i<uZ.length
 case neg =>
  have gM:¬i<uZ.length:=gD;simp[j,M,g,Pm,gM]
 have ho:=zgs gD;have R:mh uZ i∈uZ:=Kj ho;have z:=zco ho;have A:=zn1 gD;have hf:=X _ R;have H:=gI _ R;generalize mh uZ i=o at *;have T:o.f=[.i o.kind,.i o.d,.i o.e,.i o.a,.i o.b,.i o.c,.i o.buf,.u o.imm]:=rfl;have U:∀x:List LObj,(gT++x)[0]?=some _:=λx=>(Ph l0).trans g
 obtain⟨ht,hm,hd⟩:=z33 hf;have gF:o.kind=15→0≤o.b:=λq=>(ht o.b (by unfold Rb;simp[q];split<;>simp)).1
 have H:=nu gg gF (λq=>(hd q).1) H;have ix:∀x:Int,0≤x→x<r→∃n:Nat,x=n∧n<r∧(gK.map LV.bool)[n]?=some (.bool (Rm gK x)):=λx h0 j=>by
  obtain⟨n,rfl⟩:=J5 h0
  exact ⟨n, rfl, by omega, by have : n < gK.length := by omega
                              simp[Rm,this]⟩
 have next:∀(ρ':Pf) (G':Pd),lk ρ' 1=.ptr 0 0→lk ρ' 6=.lst (gK.map .bool) r 1→lk ρ' 7=.i ((i:Int)+1)→G'[0]?=some (.cells (Pm r Y uZ) 0)→Nx ρ' [] G':=λρ' G' a1 a6 a7 b0=>gL _ _ _ ⟨N-1,J,i+1,rfl,J,a1,a6,by rw[a7];simp,b0⟩
 have V:∀x:List LObj,(gT++x)[0]?=some (.cells (Pm r Y uZ) 0):=λx=>(Ph l0).trans g
 unfold rq at H;by_cases O:o.kind=14
 ·by_cases ha:0≤o.a
  ·have I:=ht o.a (by unfold Rb;rw[J1 J,J1 J,J1 J,J6 J];simp);simp[O,Re,ha]at H;obtain⟨n,hn,G,F⟩:=ix o.a I.1 I.2;rw[H]at F;simp[j,D,M,g,Pm,gD,z,A,T,↓U,O,hn,G,Pe F];refine⟨J,next _ _ Am At (by simp) (V _)⟩
  ·simp[j,D,M,g,Pm,gD,z,A,T,↓U,O,ha];refine⟨J,next _ _ Am At (by simp) (V _)⟩
 by_cases B:o.kind=15
 ·have gG:=ht o.b (by unfold Rb;simp[B];split<;>simp);obtain⟨b0,b1⟩:=x4 hf (.inr B);obtain⟨bn,P⟩:=J5 b0;rw[P]at b1;simp only[Kr]at b1;have q2:=zuq (T7 b1);obtain⟨nb,Q,E,C⟩:=ix o.b gG.1 gG.2;simp[B,Re,P]at H;by_cases ha:0≤o.a
  ·have I:=ht o.a (by unfold Rb;rw[J1 J,J1 J,J1 J,J1 J,J6 J];simp);obtain⟨n,hn,G,F⟩:=ix o.a I.1 I.2;rw[H.1.resolve_left J]at F;cases Z:Rm gK o.b with
   |false =>
    rw[Z]at C;simp[j,D,M,g,Pm,gD,z,A,T,↓U,B,hn,G,Pe F,Q,E,Pe C];refine⟨J,next _ _ Am At (by simp) (V _)⟩
   |true =>
    rw[Z]at C;have K:(Ps Y bn).sec=true:=by simpa [Z] using H.2
    rw[K]at q2;simp[j,D,M,g,Pm,gD,z,A,T,↓U,B,hn,G,Pe F,Q,E,Pe C,P,b1,Pe q2];refine⟨J,next _ _ Am At (by simp) (V _)⟩
  ·cases Z:Rm gK o.b with
   |false =>
    rw[Z]at C;simp[j,D,M,g,Pm,gD,z,A,T,↓U,B,ha,Q,E,Pe C];refine⟨J,next _ _ Am At (by simp) (V _)⟩
   |true =>
    rw[Z]at C;have K:(Ps Y bn).sec=true:=by simpa [Z] using H.2
    rw[K]at q2;simp[j,D,M,g,Pm,gD,z,A,T,↓U,B,ha,Q,E,Pe C,P,b1,Pe q2];refine⟨J,next _ _ Am At (by simp) (V _)⟩
 by_cases L:o.kind=16
 ·obtain⟨n,hn,G,F⟩:=ix o.d (hd L).1 (hd L).2;simp[L,Re]at H;rw[H]at F;simp[j,D,M,g,Pm,gD,z,A,T,↓U,L,hn,G,Pe F];refine⟨J,next _ _ Am At (by simp) (V _)⟩
 ·simp[j,D,M,g,Pm,gD,z,A,T,↓U,O,B,L];refine⟨J,next _ _ Am At (by simp) (V _)⟩
section
def zxg{p:Pn}{x k:Nat}:P2 p.p (x:Nat) (k:Nat)=(Pb p x k).p:=by
 simp[P2,Pb,Pn.p]
def zrt{p:Pn}{x k:Nat}{l:Int}:P2 (P2 p.p 0 l) (x:Nat) (k:Nat)=(Pb p x k).p:=by
 simp[P2,Pb,Pn.p]
def hal_T{d a b w:Pn}{R D:Nat}{n:Nat}(ha:a.k=n):ju d.p a.p b.p w.p ((n:Int)/2) R D=U4 d a b w n R D:=by
 have j:a.p.size=(n:Int):=by show ((a.k:Nat):Int)=_;rw[ha]
 have F:(n:Int)/2=((n/2:Nat):Int):=J
 have em:(n:Int)-((n/2:Nat):Int)=((n-n/2:Nat):Int):=J
 have G:2*(n:Int)=((2*n:Nat):Int):=J
 unfold ju U4;simp only[j,F,em,G];have H:n/2≤2*n:=J
 generalize n-n/2=m;generalize n/2=h at *;generalize 2*n=g at *;by_cases E:h=0
 ·subst E;rw[J6 N,J6 rfl];have I:P2 w.p 0 (g:Nat)=(Pb w 0 g).p:=zxg;rw[I]
 ·rw[J1 J,J1 E];have z:2*(h:Int)=((2*h:Nat):Int):=J
  have A:2*(m:Int)=((2*m:Nat):Int):=J
  have B:(m:Int)+1=((m+1:Nat):Int):=J
  have C:2*(((m+1:Nat):Int))=((2*(m+1):Nat):Int):=J
  have U:(0:Int)=((0:Nat):Int):=rfl;have K:(g:Int)+(m:Int)+1=((g+(m+1):Nat):Int):=J
  have L:(g:Int)+((2*(m+1):Nat):Int)=((g+2*(m+1):Nat):Int):=J
  have M:(g:Int)-(h:Int)=((g-h:Nat):Int):=J
  have O:∀x:Nat,P2 (P2 w.p 0 (g:Nat)) 0 (x:Nat)=(Pb w 0 x).p:=λx=>zrt (x:=0)
  have P:∀x:Nat,P2 a.p 0 (x:Nat)=(Pb a 0 x).p:=λx=>zxg (x:=0)
  have Q:∀x:Nat,P2 b.p 0 (x:Nat)=(Pb b 0 x).p:=λx=>zxg (x:=0)
  have T:∀x:Nat,P2 w.p 0 (x:Nat)=(Pb w 0 x).p:=λx=>zxg (x:=0)
  simp only[z,A,B,C,K,L,M,O,P,Q,zrt,zxg];rw[T g]
def r7(s:Bool):Nat:=if s=true then 40 else 16
def wn7(n:Nat)(s:Bool):Pn:=⟨if s=true then 8 else 7,0,2*n+4*(n-n/2+1)⟩
section v7
variable {n : Nat} {s : Bool}
def flat_z{R:Nat}{f:Fr Lo}:((zeF R).cat f).flat=cK R 0::f.flat:=by
 rw[R4];simp[zeF,flat_frL]
end v7
end
section
def bq_bp{W:Int}{i k:Nat}(hv:Tg vQ=true)(hi:i<vQ.length)(hk:(k:Int)=(gv vQ i).limbs):Bp (Qx vQ W) (bq i k)∧Bw (Qx vQ W) (bq i k):=by
 have hb:=zo hv hi;refine⟨⟨by rw[plB_len];show i<_;omega,?_,?_⟩,?_⟩
 ·show ((0+k:Nat):Int)≤(Ps _ i).size;rw[ce hi];simp only;omega
 ·show (Ps _ i).size≤_;rw[ce hi];simp only;omega
 ·show (Ps _ i).kind≠1;rw[ce hi];simp
def og(bs:List Bf)(X:List (List UInt64)):Prop:=X.length=bs.length∧∀i,i<bs.length→((X.getD i []).length:Int)=(Ps bs i).size
def zup{vs:List Vr}{W:Int}{X:List (List UInt64)}(g:og (Qx vs W) X):mo (Qx vs W) X=true:=by
 unfold mo;refine L3 ⟨g.1,λi hi=>?_⟩;rw[g.2 i hi];have:(Ps (Qx vs W) i).kind=2:=by
  rw[plB_len]at hi;by_cases q:i<vs.length
  ·rw[ce q]
  ·by_cases j:i=vs.length
   ·rw[j,plB_w0]
   ·rw[(J:i=vs.length+1),plB_w1]
 rw[this];simp
def row_end{X:List (List UInt64)}{g:Ms}{t:Fs}(A:og Y X)(r:Rep Y.length (lf (Sc 64 Y X)) g t){i k:Nat}(hi:i<Y.length)(hk:(k:Int)=(Ps Y i).size) :
  (g.bufs.getD i []).length=k∧val (g.bufs.getD i [])=vl (pl t.m (bq i k)) k∧∀j,j<k→(g.bufs.getD i []).getD j 0=t.m i j:=by
 have z:=zms (A.2 i hi) hi;have B:(g.bufs.getD i []).length=k:=by rw[r.len i hi,z];omega
 refine⟨B,(vl_get J λj C=>?_).symm,λj C=>?_⟩
 ·show t.m i (0+j)=_;rw[Kw];have hm:=r.m i j hi;rw[z]at hm;exact (hm J).symm
 ·have hm:=r.m i j hi;rw[z]at hm;exact hm J
section v7
variable {n : Nat} {s : Bool}
def c7(n:Nat)(s:Bool):Cf:=⟨9,(r7 s:Nat),24,0,7,8,8,λx=>x<7∨x=(wn7 n s).b,λx=>(2≤x∧x<7)∨x=(wn7 n s).b⟩
end v7
end
def zcp:LC:=(.q [.K 4 0] (.seq (.q [.m 6 1,.b 7 .lss 3 6 1] (.cond (.t 7) (.q [.K 4 0] .ret) .skip)) (.q [.m 8 0,.m 9 1,.c 10 .rem 3 8 9,.m 5 10] (.seq (.q [.m 11 5,.b 12 .lss 3 11 0] (.cond (.t 12) (.ops [.m 13 5,.m 14 1,.c 15 .add 3 13 14,.m 5 15]) .skip)) (.q [.m 16 5,.m 4 16] .ret)))))
def r_kit_Pick:Pk Tryz.prog 10=some ⟨17,zcp.r,[.tmp 4]⟩:=Aa
def k_kit_Pick:zcp.ok=true:=Aa
def zm5:LC:=(.q [.e 4] (.q [.m 7 1,.z 8 (.mkSl 1 [(.u 0)] (.t 7) (.t 7)),.m 5 8] (.seq (.q [.K 6 0] (.block 0 (.loop (.seq (.q [.m 9 6,.m 10 1,.c 11 .lss 3 9 10,.m 12 11,.my 13 12 0,.y 14 12 (.lenSl (.t 13)),.y 15 12 (.bin .gtr true 3 (.t 14) (.k 0)),.q 16 12 15] (.cond (.t 16) .skip (.exit 0))) (.seq (.block 1 (.draw [(.m 19 5,[]),(.m 20 6,[]),(.m 21 0,[]),(.m 22 6,[]),(.m 23 0,[]),(.s 24 23,[]),(.c 25 .rem 3 22 24,[]),(.I 26 1 21 25,[]),(.l 27 26,[]),(.m 28 6,[]),(.m 29 0,[]),(.s 30 29,[]),(.c 31 .quo 3 28 30,[]),(.b 32 .mul 3 31 2,[]),(.z 33 (.bin .add true 3 (.k 1) (.t 32)),[]),(.z 34 (.cvInt .u64 (.t 33)),[]),(.c 35 .mul 23 27 34,[]),(.m 36 6,[]),(.m 37 0,[]),(.s 38 37,[]),(.c 39 .quo 3 36 38,[]),(.z 40 (.cvInt .u64 (.t 39)),[]),(.c 41 .add 23 35 40,[]),(.I 42 1 19 20,[]),(.S 1 42 41,[])])) (.ops [.m 17 6,.b 18 .add 3 17 1,.m 6 18])))))) (.q [.m 43 5,.m 4 43] .ret))))
def r_kit_Fill:Pk Tryz.prog 41=some ⟨44,zm5.r,[.tmp 4]⟩:=Aa
def zs8(n m:Int)(hm:1≤m∧m<1000000):∃k:Nat,(k:Int)<m∧Pl 10 [.i n,.i m] (.i k) []:=by
 have j:¬m<1:=J
 have z:m≠0:=J
 have A:n.tmod m<m:=Int.tmod_lt_of_pos n J;have B:-m<n.tmod m:=by
  have h:=Int.tmod_lt_of_pos (-n) (J:0<m);rw[Int.neg_tmod]at h;omega
 by_cases g:n.tmod m<0
 ·obtain⟨k,hk⟩:=J5 (J:0≤n.tmod m+m);refine⟨k,J,P4.val rfl (Pj r_kit_Pick k_kit_Pick N ?_)⟩;simp[zcp,j,z,g];omega
 ·obtain⟨k,hk⟩:=J5 (J:0≤n.tmod m);refine⟨k,J,P4.val rfl (Pj r_kit_Pick k_kit_Pick N ?_)⟩;simp[zcp,j,z,g,hk];omega
def zis(l:List UInt64)(n:Nat)(hn:n≤1000000)(U:l.length≤1000000)(g:l≠[]):Pl 41 [LU l,.i n] (.dy 0 0) [RU (zt8 l n)]:=by
 refine P4.row (Pj r_kit_Fill Aa (by simp) ?_);have z:0<l.length:=List.length_pos_iff.2 g;simp[zm5];refine⟨J,?_⟩;refine Qt (λI R T L=>∃(i st:Nat) (m:List UInt64),R=[]∧L+i=n∧lk I 0=LU l∧lk I 1=.i n∧lk I 5=.dy 0 0∧lk I 6=.i i∧T[0]?=some (.dyn (m.map .u) n 1 0 st)∧m.length=n∧∀B,B<i→m.getD B 0=zyy l B) (N:=n)
  ⟨0,0,List.replicate n 0,rfl,J,by simp,by simp,by simp,by simp,by simp[xd],by simp,by simp⟩ ?_
 rintro L I R T ⟨i,st,m,rfl,V,C,A,D,K,E,j,hv⟩ X F;by_cases Y:i<n
 ·have hi:i%l.length<l.length:=L8 _ z;have G:(l.length:Int)≠0:=J
  simp[C,A,D,K,Y,z,E,j,LU,G,hi];have M:(i:Int)/(l.length:Int)=((i/l.length:Nat):Int):=by simp
  have O:(i:Int).tmod (l.length:Int)=((i%l.length:Nat):Int):=by rw[O3 J];simp
  have P:i/l.length≤i:=Oj _ _;have H:zyy l i=l.getD (i%l.length) 0*iU (1+((i/l.length:Nat):Int)*2)+iU ((i/l.length:Nat):Int):=by unfold zyy;rw[J1 g]
  simp only[M,O,Kr];generalize i/l.length=q at *;refine⟨g,J,J,g,J,J,J,g,J,J,J,F _ _ _ ⟨L-1,J,i+1,st+1,m.set i (zyy l i),rfl,J,Af,Al,At,by simp,?_,Am,λB Z=>?_⟩⟩
  ·have Q:=(Jy.1 E).1;rw[J3 Q,H]
   congr 2
   rw[show ∀x:LV,Qj (m.map LV.u) i [x]=(m.map LV.u).set i x from λx=>by rw[K3,J6 Ab];simp[Qj],Ll,Xf,zke];simp[J0]
  ·rw[ay _ _ _ _ _ J];split
   ·rename_i q;rw[q]
   ·exact hv B J
 ·have hi:i=n:=J
  subst hi;have:m=zt8 l i:=by
   refine List.ext_getElem (by rw[j,zin]) λB A h2=>?_
   have:=hv B J;rw[J0,J7 A]at this;simpa [zt8] using this
  simp[C,A,D,K];exact .inr ⟨0,_,_,rfl,by rw[←this,j];exact E⟩
def lpsL_snoc:∀(n:Nat) (i:Int),R0 (n+1) i=R0 n i++[⟨16,i+n,-1,-1,-1,-1,0,1⟩]
 |0,i=>by simp[R0]
 |n+1,i=>by
  rw[R0,lpsL_snoc n (i+1),R0,K6]
  congr 4
  simp;omega
def lpsL_len:∀(n:Nat) (i:Int),(R0 n i).length=n
 |0,_=>rfl
 |n+1,i=>by rw[R0,Kh,lpsL_len]
def zig:LC:=(.q [.z 4 (.alloc [.nilSl,.nilSl,(.i 0),(.i 0),(.i 0),(.i 0),(.i 0),(.i 0)])] (.q [.z 5 (.alloc [.nilSl,.nilSl,(.i 0),(.i 0),(.i 0),(.i 0),(.i 0),(.i 0)])] (.seq (.q [.K 6 0] (.block 0 (.loop (.seq (.q [.m 8 6,.m 9 0,.s 10 9,.c 11 .lss 3 8 10] (.cond (.t 11) .skip (.exit 0))) (.seq (.block 1 (.seq (.draw [(.f 14 0 5,[]),(.l 15 14,[]),(.m 16 0,[]),(.m 17 6,[]),(.I 18 3 16 17,[]),(.f 19 0 18,[]),(.l 20 19,[]),(.m 21 0,[]),(.m 22 6,[]),(.I 23 3 21 22,[]),(.f 24 1 23,[]),(.l 25 24,[]),(.z 26 (.build [(.i 0),(.i 0),(.bool false)] [(0,1,.t 20),(1,1,.k 2),(2,1,.t 25)]),[]),(.z 27 (.buildSl 3 1 [(.i 0),(.i 0),(.bool false)] [(0,3,.t 26)]),[(.l 25 24,false),(.l 20 19,false),(.l 15 14,false)]),(.a 28 3 15 27,[]),(.f 29 0 5,[]),(.S 1 29 28,[])]) (.draw [(.f 30 1 5,[]),(.l 31 30,[]),(.m 32 6,[]),(.m 33 0,[]),(.m 34 6,[]),(.I 35 3 33 34,[]),(.f 36 0 35,[]),(.l 37 36,[]),(.z 38 (.build [(.i 0),(.i 0),(.i 0)] [(0,1,.t 32),(2,1,.t 37)]),[]),(.z 39 (.buildSl 3 1 [(.i 0),(.i 0),(.i 0)] [(0,3,.t 38)]),[(.l 37 36,false),(.l 31 30,false)]),(.a 40 3 31 39,[]),(.f 41 1 5,[]),(.S 1 41 40,[])]))) (.ops [.m 12 6,.b 13 .add 3 12 1,.m 6 13])))))) (.seq (.q [.K 7 0] (.block 2 (.loop (.seq (.q [.m 42 7,.b 43 .lss 3 42 2] (.cond (.t 43) .skip (.exit 2))) (.seq (.block 3 (.q [.f 46 0 5,.l 47 46,.m 48 1,.m 49 7,.b 50 .eql 3 49 1,.z 51 (.build [(.i 0),(.i 0),(.bool false)] [(0,1,.t 48),(1,1,.k 2),(2,1,.t 50)]),.z 52 (.buildSl 3 1 [(.i 0),(.i 0),(.bool false)] [(0,3,.t 51)]),.a 53 3 47 52,.f 54 0 5,.S 1 54 53] (.ops [.m 55 7,.m 56 0,.s 57 56,.m 58 7,.c 59 .add 3 57 58,.m 60 1,.z 61 (.build [(.i 0),(.i 0),(.i 0)] [(0,1,.t 59),(2,1,.t 60)]),.f 62 2 5,.z 63 (.ixAddrArr 2 3 (.t 62) (.t 55)),.S 3 63 61]))) (.ops [.m 44 7,.b 45 .add 3 44 1,.m 7 45])))))) (.q [.L 64 8 5,.S 8 4 64] .ret)))))
def r_kit_Plain:Pk Tryz.prog 13=some ⟨65,zig.r,[.cellN 4 8]⟩:=Aa
def zsu{i:Nat}(h:i<vQ.length):Xu (vQ.take (i+1))=Xu (vQ.take i)++[⟨(gv vQ i).limbs,2,(gv vQ i).sec⟩]:=by
 have g:=Vf h;obtain⟨_,e⟩:=Jy.1 g;rw[K9 h,Xu,Ng,e];rfl
def vp(g:List Vr)(i:Nat):List Pc:=(List.range i).map λi:Nat=>⟨(i:Int),0,(gv g i).limbs⟩
def kc(g:List Vr)(i:Nat):vp g (i+1)=vp g i++[⟨(i:Int),0,(gv g i).limbs⟩]:=by simp[vp,List.range_succ]
def pcC_app(a b:List Pc):Yl (a++b)=Yl a++Yl b:=by simp[Yl]
def wkC(n w:Int):Nat→List LV
 |0=>[.i 0,.i 0,.i 0,.i 0,.i 0,.i 0]
 |1=>[.i n,.i 0,.i w,.i 0,.i 0,.i 0]
 |_=>[.i n,.i 0,.i w,.i (n+1),.i 0,.i w]
def wkB(w:Int):Nat→List Bf
 |0=>[]
 |1=>[⟨w,2,false⟩]
 |_=>[⟨w,2,false⟩,⟨w,2,true⟩]
def zgx(vs:List Vr)(w:Int)(hl:vs.length≤1000000):Rk 13 [.lst (Py vs) vs.length 3,.i w] (.agg (Sj (Xu vs++[⟨w,2,false⟩,⟨w,2,true⟩]) (Vg vs) ⟨vs.length,0,w⟩ ⟨(vs.length:Int)+1,0,w⟩)):=by
 refine Uy.mk (by simp[LV.dat,zcl]) (Pj r_kit_Plain Aa (by simp) ?_);simp[zig];refine Qt (λρ jB P N=>∃(i st X:Nat) (O C:LV),jB=[]∧N+i=vs.length∧lk ρ 0=.lst (Py vs) vs.length 3∧lk ρ 1=.i w∧lk ρ 4=.ptr 0 0∧lk ρ 5=.ptr 1 0∧lk ρ 6=.i i∧2≤P.length ∧
   P[0]?=some (.cells [.nilSl,.nilSl,.i 0,.i 0,.i 0,.i 0,.i 0,.i 0] X)∧P[1]?=some (.cells [O,C,.i 0,.i 0,.i 0,.i 0,.i 0,.i 0] st) ∧
   R5 2 P O 3 i (Rz (Xu (vs.take i)))∧R5 2 P C 3 i (Yl (vp vs i))∧∀q A z j,O=.dy q A→C=.dy z j→q≠z) (N:=vs.length)
  ⟨0,0,0,.nilSl,.nilSl,rfl,J,by simp,by simp,by simp,by simp,by simp,by simp,by simp,by simp,by simpa [Xu,Rz] using R5.nil,by simpa [vp,Yl] using R5.nil,λq A z j e=>Ar⟩ ?_
 rintro N ρ jB P ⟨i,st,X,O,C,rfl,hN,L,R,T,M,h6,gH,Q,E,H,D,B⟩ Nx Y;by_cases gY:i<vs.length
 ·have q0:=zl (Vf gY);have q1:=ziv (Vf gY);have hq:=mz gY;have l1:1<P.length:=J
  have p1:∀x:List LObj,(P++x)[1]?=_:=λx=>(Ph l1).trans E
  have p0:∀x:List LObj,(P++x)[0]?=_:=λx=>(Ph J).trans Q
  simp[L,M,h6,E,↓p1,gY,Pe q0,Pe q1];have D1:=H.push_end (ob:=[LObj.dyn [.i (gv vs i).limbs,.i 2,.bool (gv vs i).sec] 1 3 0 0]);have U:=D.push_end (ob:=[LObj.dyn [.i (gv vs i).limbs,.i 2,.bool (gv vs i).sec] 1 3 0 0]);have m0:=p0 [LObj.dyn [.i (gv vs i).limbs,.i 2,.bool (gv vs i).sec] 1 3 0 0];have m1:=p1 [LObj.dyn [.i (gv vs i).limbs,.i 2,.bool (gv vs i).sec] 1 3 0 0];have ml:(P++[LObj.dyn [.i (gv vs i).limbs,.i 2,.bool (gv vs i).sec] 1 3 0 0]).length=P.length+1:=by simp
  have I:=λq A (e:C=.dy q A)=>(D.lt e).2
  generalize P++[LObj.dyn [.i (gv vs i).limbs,.i 2,.bool (gv vs i).sec] 1 3 0 0]=GA at *;refine D1.push2 (c:=1) (x:=(⟨(gv vs i).limbs,2,(gv vs i).sec⟩:Bf).f) J J J rfl rfl λg V K Z gI s1 gK=>?_
  have n1:∀q,q<2→∀A,O≠.dy q A:=λq hq A e=>Gs
  have n2:∀q,q<2→∀A,C≠.dy q A:=λq hq A e=>by have:=(U.lt e).1;omega
  have gg:=(Z 0 J (n1 0 J)).trans m0;have gD:=(Z 1 J (n1 1 J)).trans m1;have gF:=U.keep (G':=V) (λq A e=>Z q (U.lt e).2 (λj G=>B q j q A G e rfl));have F:∀q A z j,g=.dy q A→C=.dy z j→q≠z:=λq A z j e G=>by
   rcases s1 q A e with h|⟨j2,h⟩
   ·have:=I z j G;omega
   ·exact B q j2 z j h G
  have gG:=K.cells;have gL:=U.cells;simp[-LV.cells,L,M,h6,gD,gG];have gM:=K.set_lt (q:=1) (ob:=.cells [g,C,.i 0,.i 0,.i 0,.i 0,.i 0,.i 0] (st+1)) J;have gZ:=gF.set_lt (q:=1) (ob:=.cells [g,C,.i 0,.i 0,.i 0,.i 0,.i 0,.i 0] (st+1)) J;have k0:(V.set 1 (.cells [g,C,.i 0,.i 0,.i 0,.i 0,.i 0,.i 0] (st+1)))[0]?=_:=(Jz J).trans gg;have k1:(V.set 1 (.cells [g,C,.i 0,.i 0,.i 0,.i 0,.i 0,.i 0] (st+1)))[1]?=_:=J3 J;have kl:(V.set 1 (.cells [g,C,.i 0,.i 0,.i 0,.i 0,.i 0,.i 0] (st+1))).length=V.length:=by simp
  generalize V.set 1 (.cells [g,C,.i 0,.i 0,.i 0,.i 0,.i 0,.i 0] (st+1))=G2 at *;have r1:∀x:List LObj,(G2++x)[1]?=_:=λx=>(Ph J).trans k1
  have r0:∀x:List LObj,(G2++x)[0]?=_:=λx=>(Ph J).trans k0
  simp[L,M,h6,k1,↓r1,gY,Pe q0];have E1:=gM.push_end (ob:=[LObj.dyn [.i (i:Int),.i 0,.i (gv vs i).limbs] 1 3 0 0]);have E2:=gZ.push_end (ob:=[LObj.dyn [.i (i:Int),.i 0,.i (gv vs i).limbs] 1 3 0 0]);have w0:=r0 [LObj.dyn [.i (i:Int),.i 0,.i (gv vs i).limbs] 1 3 0 0];have w1:=r1 [LObj.dyn [.i (i:Int),.i 0,.i (gv vs i).limbs] 1 3 0 0];have wl:(G2++[LObj.dyn [.i (i:Int),.i 0,.i (gv vs i).limbs] 1 3 0 0]).length=G2.length+1:=by simp
  have gO:=λq A (e:g=.dy q A)=>(gM.lt e).2
  generalize G2++[LObj.dyn [.i (i:Int),.i 0,.i (gv vs i).limbs] 1 3 0 0]=GB at *;refine E2.push2 (c:=1) (x:=(⟨(i:Int),0,(gv vs i).limbs⟩:Pc).f) J J J rfl rfl λgR G3 gT f2 jC s2 jD=>?_
  have jg:=(f2 0 J (n2 0 J)).trans w0;have jz:=(f2 1 J (n2 1 J)).trans w1;have jA:=E1.keep (G':=G3) (λq A e=>f2 q (E1.lt e).2 (λj G=>F q A q j e G rfl));have gU:∀q A z j,g=.dy q A→gR=.dy z j→q≠z:=λq A z j e G=>by
   rcases s2 z j G with h|⟨j2,h⟩
   ·have:=gO q A e;omega
   ·exact F q A z j2 e h
  have gV:=gT.cells;simp[-LV.cells,L,M,h6,jz,gV];refine⟨J,Y _ _ _ ⟨N-1,J,i+1,st+1+1,X,g,gR,rfl,J,Dx,Cn,Ho,Bc,by simp,Ab,?_,?_,?_,?_,gU⟩⟩
  ·rw[Jz J];exact jg
  ·rw[J3 J]
  ·rw[zsu gY,bfC_app];exact jA.set_lt J
  ·rw[kc,pcC_app];exact gT.set_lt J
 ·have gi:i=vs.length:=J
  subst gi;simp[L,R,T,M,h6,E];refine Qt (λρ jB P N=>∃(A st X:Nat) (O C:LV),jB=[]∧N+A=2∧lk ρ 0=.lst (Py vs) vs.length 3∧lk ρ 1=.i w∧lk ρ 4=.ptr 0 0∧lk ρ 5=.ptr 1 0∧lk ρ 7=.i A∧2≤P.length ∧
    P[0]?=some (.cells [.nilSl,.nilSl,.i 0,.i 0,.i 0,.i 0,.i 0,.i 0] X)∧P[1]?=some (.cells (O::C::wkC vs.length w A) st) ∧
    R5 2 P O 3 (vs.length+A) (Rz (Xu vs++wkB w A))∧R5 2 P C 3 vs.length (Yl (Vg vs))∧∀q A z j,O=.dy q A→C=.dy z j→q≠z) (N:=2)
   ⟨0,st,X,O,C,rfl,J,Dx,Cn,Ho,Bc,by simp,gH,Q,E,by simpa [wkB] using H,D,B⟩ ?_
  clear L R T M h6 gH Q E H D B gY Y Nx;rintro N ρ jB P ⟨A,st,X,O,C,rfl,jE,L,R,T,M,h7,gH,Q,E,H,D,B⟩ Nx Y;have p1:∀x:List LObj,(P++x)[1]?=_:=λx=>(Ph J).trans E
  have p0:∀x:List LObj,(P++x)[0]?=_:=λx=>(Ph J).trans Q
  have hj:A=0∨A=1∨A=2:=J
  rcases hj with rfl|rfl|rfl
  ·have D1:=H.push_end (ob:=[LObj.dyn [.i w,.i 2,.bool false] 1 3 0 0]);have U:=D.push_end (ob:=[LObj.dyn [.i w,.i 2,.bool false] 1 3 0 0]);simp[L,R,T,M,h7,E,↓p1,wkC];have m0:=p0 [LObj.dyn [.i w,.i 2,.bool false] 1 3 0 0];have m1:=p1 [LObj.dyn [.i w,.i 2,.bool false] 1 3 0 0];have ml:(P++[LObj.dyn [.i w,.i 2,.bool false] 1 3 0 0]).length=P.length+1:=by simp
   have I:=λq A (e:C=.dy q A)=>(D.lt e).2
   generalize P++[LObj.dyn [.i w,.i 2,.bool false] 1 3 0 0]=GA at *;refine D1.push2 (c:=1) (x:=(⟨w,2,false⟩:Bf).f) J J J rfl rfl λg V K Z gI s1 gK=>?_
   have n1:∀q,q<2→∀A,O≠.dy q A:=λq hq A e=>Gs
   have gg:=(Z 0 J (n1 0 J)).trans m0;have gD:=(Z 1 J (n1 1 J)).trans m1;have gF:=U.keep (G':=V) (λq A e=>Z q (U.lt e).2 (λj G=>B q j q A G e rfl));have F:∀q A z j,g=.dy q A→C=.dy z j→q≠z:=λq A z j e G=>by
    rcases s1 q A e with h|⟨j2,h⟩
    ·have:=I z j G;omega
    ·exact B q j2 z j h G
   have gG:=K.cells;have gL:=U.cells;have x1:∀x,(V.set 1 x)[1]?=some x:=λx=>J3 J
   simp[-LV.cells,L,R,T,M,h7,gD,gG,↓x1,wkC];simp[Qj]
   repeat (refine⟨J,?_⟩)
   refine Y _ _ _ ⟨N-1,J,0+1,st+1+1,X,g,C,rfl,J,Dx,Cn,Ho,Bc,by simp,Ab,?_,?_,?_,?_,F⟩
   ·rw[Jz J];exact gg
   ·rw[J3 J];simp[wkC]
   ·have hW:Rz (Xu vs++wkB w (0+1))=Rz (Xu vs++wkB w 0)++(⟨w,2,false⟩:Bf).f:=by simp[Rz,wkB]
    rw[hW];exact K.set_lt J
   ·exact gF.set_lt J
  ·have D1:=H.push_end (ob:=[LObj.dyn [.i w,.i 2,.bool true] 1 3 0 0]);have U:=D.push_end (ob:=[LObj.dyn [.i w,.i 2,.bool true] 1 3 0 0]);simp[L,R,T,M,h7,E,↓p1,wkC];have m0:=p0 [LObj.dyn [.i w,.i 2,.bool true] 1 3 0 0];have m1:=p1 [LObj.dyn [.i w,.i 2,.bool true] 1 3 0 0];have ml:(P++[LObj.dyn [.i w,.i 2,.bool true] 1 3 0 0]).length=P.length+1:=by simp
   have I:=λq A (e:C=.dy q A)=>(D.lt e).2
   generalize P++[LObj.dyn [.i w,.i 2,.bool true] 1 3 0 0]=GA at *;refine D1.push2 (c:=1) (x:=(⟨w,2,true⟩:Bf).f) J J J rfl rfl λg V K Z gI s1 gK=>?_
   have n1:∀q,q<2→∀A,O≠.dy q A:=λq hq A e=>Gs
   have gg:=(Z 0 J (n1 0 J)).trans m0;have gD:=(Z 1 J (n1 1 J)).trans m1;have gF:=U.keep (G':=V) (λq A e=>Z q (U.lt e).2 (λj G=>B q j q A G e rfl));have F:∀q A z j,g=.dy q A→C=.dy z j→q≠z:=λq A z j e G=>by
    rcases s1 q A e with h|⟨j2,h⟩
    ·have:=I z j G;omega
    ·exact B q j2 z j h G
   have gG:=K.cells;have gL:=U.cells;have x1:∀x,(V.set 1 x)[1]?=some x:=λx=>J3 J
   simp[-LV.cells,L,R,T,M,h7,gD,gG,↓x1,wkC];simp[Qj]
   repeat (refine⟨J,?_⟩)
   refine Y _ _ _ ⟨N-1,J,1+1,st+1+1,X,g,C,rfl,J,Dx,Cn,Ho,Bc,by simp,Ab,?_,?_,?_,?_,F⟩
   ·rw[Jz J];exact gg
   ·rw[J3 J];simp[wkC]
   ·have hW:Rz (Xu vs++wkB w (1+1))=Rz (Xu vs++wkB w 1)++(⟨w,2,true⟩:Bf).f:=by simp[Rz,wkB]
    rw[hW];exact K.set_lt J
   ·exact gF.set_lt J
  ·have jF:=H.bor;have gV:=D.bor;have y0:∀x,(P.set 0 x)[0]?=some x:=λx=>J3 J
   simp[L,R,T,M,h7,Q,E,wkC,↓y0];have b1:=(H.set_lt (q:=0) (ob:=.cells [O,C,.i vs.length,.i 0,.i w,.i (vs.length+1),.i 0,.i w] (X+1)) J).bor;have b2:=(D.set_lt (q:=0) (ob:=.cells [O,C,.i vs.length,.i 0,.i w,.i (vs.length+1),.i 0,.i w] (X+1)) J).bor;refine⟨_,_,rfl,?_,_,rfl,?_⟩
   ·have e1:(Xu vs++[(⟨w,2,false⟩:Bf),⟨w,2,true⟩]).length=vs.length+2:=by simp[Xu]
    rw[e1];exact b1
   ·have e2:(Vg vs).length=vs.length:=by simp[Vg]
    rw[e2];exact b2

def zbo:LC:=(.q [.K 4 0] (.seq (.q [.m 8 0,.s 9 8,.m 10 1,.s 11 10,.z 12 (.maxi true (.t 9) (.t 11)),.b 13 .sub 3 12 1,.m 5 13] (.block 0 (.loop (.seq (.q [.m 14 5,.b 15 .geq 3 14 0] (.cond (.t 15) .skip (.exit 0))) (.seq (.block 1 (.q [.m 18 0,.m 19 5,.W 20 46 18 19,.m 21 1,.m 22 5,.W 23 46 21 22,.m 6 20,.m 7 23] (.seq (.q [.m 24 6,.m 25 7,.c 26 .lss 23 24 25] (.cond (.t 26) (.q [.K 4 (-1)] .ret) .skip)) (.q [.m 27 6,.m 28 7,.c 29 .gtr 23 27 28] (.cond (.t 29) (.q [.K 4 1] .ret) .skip))))) (.ops [.m 16 5,.b 17 .sub 3 16 1,.m 5 17])))))) (.q [.K 4 0] .ret)))
def r_ref02_Compare:Pk Tryz.prog 20=some ⟨30,zbo.r,[.tmp 4]⟩:=Aa
def zio:LC:=(.q [.e 4,.K 5 0] (.seq (.q [.m 10 0,.m 11 1,.W 12 20 10 11,.b 13 .lss 3 12 0] (.cond (.t 13) (.q [.e 4,.K 5 2] .ret) .skip)) (.q [.e 6] (.q [.F 7] (.seq (.q [.K 8 0] (.block 0 (.loop (.seq (.q [.m 14 8,.m 15 0,.s 16 15,.m 17 1,.s 18 17,.z 19 (.maxi true (.t 16) (.t 18)),.c 20 .lss 3 14 19] (.cond (.t 20) .skip (.exit 0))) (.seq (.block 1 (.q [.z 9 (.move (.c (.u 0)))] (.q [.m 24 0,.m 25 8,.W 26 46 24 25,.m 27 1,.m 28 8,.W 29 46 27 28,.m 30 7,.V 31 84 26 29 30,.m 23 31,.X 32 0 23,.X 33 1 23,.m 9 32,.m 7 33] (.ops [.m 34 6,.m 35 9,.z 36 (.buildSl 1 1 [(.u 0)] [(0,1,.t 35)]),.a 37 1 34 36,.m 6 37])))) (.ops [.m 21 8,.b 22 .add 3 21 1,.m 8 22])))))) (.q [.m 38 6,.w 39 47 38,.m 4 39,.K 5 0] .ret))))))
def r_ref02_Sub:Pk Tryz.prog 122=some ⟨40,zio.r,[.tmp 4,.tmp 5]⟩:=Aa
def zh3:LC:=(.q [.K 2 0] (.q [.m 3 0,.w 4 47 3,.m 0 4] (.seq (.q [.m 5 0,.s 6 5,.b 7 .eql 3 6 0] (.cond (.t 7) (.q [.K 2 0] .ret) .skip)) (.q [.m 8 0,.s 9 8,.b 10 .sub 3 9 1,.z 11 (.bin .mul true 3 (.k 64) (.t 10)),.m 12 0,.m 13 0,.s 14 13,.b 15 .sub 3 14 1,.I 16 1 12 15,.l 17 16,.w 18 147 17,.c 19 .add 3 11 18,.m 2 19] .ret))))
def r_ref02_Bits:Pk Tryz.prog 120=some ⟨20,zh3.r,[.tmp 2]⟩:=Aa
def zeb:LC:=(.q [.F 4] (.q [.m 5 1,.b 6 .geq 3 5 0,.m 7 6,.my 8 7 0,.my 9 7 1,.y 10 7 (.bin .quo true 3 (.t 9) (.k 64)),.y 11 7 (.w 46 [.t 8,.t 10]),.my 12 7 1,.y 13 7 (.bin .rem true 3 (.t 12) (.k 64)),.y 14 7 (.cvInt .u64 (.t 13)),.y 15 7 (.bin .shr false 23 (.t 11) (.t 14)),.y 16 7 (.bin .and true 23 (.t 15) (.c (.u 1))),.y 17 7 (.bin .eql true 23 (.t 16) (.c (.u 1))),.q 18 7 17,.m 4 18] .ret))
def r_ref02_Bit:Pk Tryz.prog 75=some ⟨19,zeb.r,[.tmp 4]⟩:=Aa
def zo6(a:List UInt64)(ha:a.length≤1000000):Pl 120 [LU a] (.i (R2 (val a))) []:=by
 refine P4.val rfl (Pj r_ref02_Bits Aa N ?_);simp[zh3];refine Pr (tk a J) N ?_;have B:=z68 a;cases hn:(P1 (val a)).length with
 |zero =>
  have A:val a=0:=zxa.1 (Kn hn);simp[RU,A,toL_zero,blen_zero]
 |succ n =>
  have hb:=wg (Trm_toL (val a)) hn;rw[Uv]at hb;have j:¬((n:Int)+1=0):=J
  have z:((n:Int)+1-1).toNat=n:=J
  have g:P1 (val a)≠[]:=λe=>by rw[e]at hn;simp at hn
  simp[RU,hn,j,z,g];refine⟨J,J,J,J,?_⟩;refine Pr (zo4 ((P1 (val a)).getD n 0)) (by simp[hn]) ?_;have C:R2 ((P1 (val a)).getD n 0).toNat≤64:=zs6 (UInt64.toNat_lt _);rw[hb];generalize R2 ((P1 (val a)).getD n 0).toNat=x at *;simp;omega
def z8d(a:List UInt64)(i:Int)(hi:i<9223372036854775808):Pl 75 [LU a,.i i] (.bool (decide (0≤i)&&(val a).testBit i.toNat)) []:=by
 refine P4.val rfl (Pj r_ref02_Bit Aa N ?_);by_cases j:0≤i
 ·obtain⟨n,rfl⟩:=J5 j;have hb:=bit_at a n;have z:(n:Int)/64=(n/64:Nat):=J
  have A:(n:Int).tmod 64=(n%64:Nat):=by rw[O3 J];omega
  have hu:=bit_u' (a.getD (n/64) 0) (n%64);rw[hb]at hu;have g:(iU ((n%64:Nat):Int)).toNat=n%64:=Zr J;simp[zeb];refine⟨J,?_⟩;rw[z];refine Pr (z38 a (n/64:Nat)) N ?_;simp;rw[z,A,g];simp at hu;simp only[Kr,K4,Lj];rw[hu];cases (val a).testBit n<;>simp
 ·simp[zeb,j]
def z1m(a b:List UInt64)(ha:a.length≤1000000)(hb:b.length≤1000000):Pl 20 [LU a,LU b] (.i (Sn (val a) (val b))) []:=by
 refine P4.val rfl (Pj r_ref02_Compare Aa (by simp) ?_);simp[zbo];refine⟨J,?_⟩;refine Qt (λC D E N=>D=[]∧N≤1000000∧lk C 0=LU a∧lk C 1=LU b∧lk C 5=.i ((N:Int)-1)∧Sn (val a) (val b)=Sn (val (a.take N)) (val (b.take N))) (N:=max a.length b.length) ⟨by simp,J,by simp,by simp,Ab,by rw[z4z J,z4z J]⟩ ?_;rintro N C D E ⟨rfl,F,B,j,g,hc⟩ G z;cases N with
 |zero =>
  simp[g];rw[hc];simp[val,Sn]
 |succ N =>
  have e:((N+1:Nat):Int)-1=N:=J
  rw[e]at g;simp[B,j,g];refine Pr (z38 a N) (by simp) ?_;simp[j,g];refine Pr (z38 b N) (by simp) ?_;rw[ta]at hc;simp at hc;simp;rw[hc];generalize a[N]?.getD 0=x at *;generalize b[N]?.getD 0=y at *;refine⟨λl=>by rw[J6 l],λl=>⟨λA=>by rw[J1 (O9.2 l),J6 A],λA=>?_⟩⟩;rw[J1 (O9.2 l),J1 (O9.2 A)]at hc;simp[g];exact⟨J,z _ _ _ ⟨N,J,rfl,J,Ao,Am,by simp,hc⟩⟩
def z8q(a b:List UInt64)(ha:a.length≤1000000)(hb:b.length≤1000000):Pl 122 [LU a,LU b] (.tup [.dy 0 0,.i (if val a<val b then 2 else 0)]) [RU (if val a<val b then [] else P1 (val a-val b))]:=by
 refine P4.rowE (Pj r_ref02_Sub Aa (by simp) ?_);simp[zio];refine Pr (z1m a b ha hb) (by simp) ?_;by_cases z:val a<val b
 ·simp[zfr,z,Uc]
 simp[zfr,zi9,z];refine Qt (λH Q R I=>∃(i:Nat) (c:Bool) (g:List UInt64),Q=[]∧I+i=max a.length b.length∧lk H 0=LU a∧lk H 1=LU b∧lk H 8=.i i∧lk H 7=.bool c∧Uc R (lk H 6) g∧g.length=i ∧
  val g+val (b.take i)=val (a.take i)+2^(64*i)*c.toNat) (N:=max a.length b.length) ⟨0,false,[],by simp[Uc,val]⟩ ?_
 rintro I H Q R ⟨i,c,g,rfl,T,D,B,C,K,E,j,hv⟩ U F;by_cases L:I=0
 ·subst L;have G:¬(i:Int)<max (a.length:Int) (b.length:Int):=J
  simp[D,B,C,G];obtain⟨M,O⟩:=sub_end (m:=i) J J j hv;refine z9a (tk g J) (zwv E.bor) ?_;have hc:c=false:=by cases c with
   |true=>exact absurd (M.1 rfl) z
   |false=>rfl
  rw[O hc];simpa using Uc.new
 ·have A:(i:Int)<max (a.length:Int) (b.length:Int):=J
  simp[D,B,C,A];refine Pr (z38 a i) (by simp) ?_;simp[B,C];refine Pr (z38 b i) (by simp) ?_;simp[K];refine Pr (zgz (a.getD i 0) (b.getD i 0) c) (by simp) ?_;simp[E];refine ztv (E.app _) (xs:=[(Rh (a.getD i 0) (b.getD i 0) c).1]) rfl (by simp) J (λV X P _=>?_);simp[C];refine⟨J,F _ _ _ ⟨I-1,J,i+1,(Rh (a.getD i 0) (b.getD i 0) c).2,_,rfl,J,At,Ao,by simp,by simp,by simpa using P,Am,qt j hv⟩⟩
def zi6:LC:=(.q [.e 4] (.q [.m 15 0,.w 16 47 15,.m 17 1,.w 18 47 17,.m 0 16,.m 1 18] (.q [.m 19 0,.s 20 19,.m 21 1,.s 22 21,.c 23 .add 3 20 22,.z 24 (.mkSl 1 [(.u 0)] (.t 23) (.t 23)),.m 5 24] (.seq (.q [.K 6 0] (.block 0 (.loop (.seq (.q [.m 25 6,.m 26 0,.s 27 26,.c 28 .lss 3 25 27] (.cond (.t 28) .skip (.exit 0))) (.seq (.block 1 (.q [.z 7 (.move (.c (.u 0)))] (.seq (.q [.K 8 0] (.block 2 (.loop (.seq (.q [.m 31 8,.m 32 1,.s 33 32,.c 34 .lss 3 31 33] (.cond (.t 34) .skip (.exit 2))) (.seq (.block 3 (.seq (.draw [(.m 38 0,[]),(.m 39 6,[]),(.I 40 1 38 39,[]),(.l 41 40,[]),(.m 42 1,[]),(.m 43 8,[]),(.I 44 1 42 43,[]),(.l 45 44,[]),(.W 46 48 41 45,[]),(.m 37 46,[]),(.X 47 0 37,[]),(.X 48 1 37,[]),(.m 9 47,[]),(.m 10 48,[])]) (.q [.m 50 5,.m 51 6,.m 52 8,.c 53 .add 3 51 52,.I 54 1 50 53,.l 55 54,.m 56 10,.z 57 (.w 49 [.t 55,.t 56,.F]),.m 49 57,.X 58 0 49,.X 59 1 49,.m 11 58,.m 12 59] (.q [.m 61 11,.m 62 7,.z 63 (.w 49 [.t 61,.t 62,.F]),.m 60 63,.X 64 0 60,.X 65 1 60,.m 13 64,.m 14 65] (.q [.m 66 5,.m 67 6,.m 68 8,.c 69 .add 3 67 68,.m 70 13,.I 71 1 66 69,.S 1 71 70] (.q [.m 73 9,.m 74 12,.z 75 (.w 49 [.t 73,.c (.u 0),.t 74]),.m 72 75,.X 76 0 72,.X 77 1 72,.m 7 76] (.ops [.m 79 7,.m 80 14,.z 81 (.w 49 [.t 79,.c (.u 0),.t 80]),.m 78 81,.X 82 0 78,.X 83 1 78,.m 7 82]))))))) (.ops [.m 35 8,.b 36 .add 3 35 1,.m 8 36])))))) (.ops [.m 84 5,.m 85 6,.m 86 1,.s 87 86,.c 88 .add 3 85 87,.m 89 7,.I 90 1 84 88,.S 1 90 89])))) (.ops [.m 29 6,.b 30 .add 3 29 1,.m 6 30])))))) (.q [.m 91 5,.w 92 47 91,.m 4 92] .ret)))))
def r_ref02_Mul:Pk Tryz.prog 23=some ⟨93,zi6.r,[.tmp 4]⟩:=Aa
def zod(G H:List UInt64)(gL:G.length≤500000)(gM:H.length≤500000):Pl 23 [LU G,LU H] (.dy 0 0) [RU (P1 (val G*val H))]:=by
 refine P4.row (Pj r_ref02_Mul Aa (by simp) ?_);simp[zi6];refine Pr (tk G J) (by simp) ?_;simp[RU];refine Pr (tk H J) (by simp) ?_;have T:=z68 G;have U:=z68 H;obtain⟨a,V⟩:∃a,P1 (val G)=a:=⟨_,rfl⟩;obtain⟨b,X⟩:∃b,P1 (val H)=b:=⟨_,rfl⟩;have va:val G=val a:=by rw[←V,Uv]
 have vb:val H=val b:=by rw[←X,Uv]
 rw[V]at T;rw[X]at U;rw[V,X,va,vb];have ha:a.length≤500000:=J
 have hb:b.length≤500000:=J
 simp[RU];refine⟨J,J,J,?_⟩;have Y:((a.length:Int)+b.length).toNat=a.length+b.length:=J
 simp[Y,repU];refine Qt (λL gH gI N=>∃(i:Nat) (g:List UInt64) (st:Nat),gH=[]∧N+i=a.length∧gI=[.dyn (g.map .u) (a.length+b.length) 1 0 st]∧lk L 0=LU a∧lk L 1=LU b∧lk L 5=.dy 0 0∧lk L 6=.i i∧zfl a b i 0 g 0) (N:=a.length) ⟨0,List.replicate (a.length+b.length) 0,0,by simp[ig]⟩ ?_;rintro N L gH gI ⟨i,g,st,rfl,hN,rfl,I,M,E,D,K⟩ Nx Z;have O:=K.1;by_cases hz:N=0
 ·have hi:i=a.length:=J
  subst hi;simp[D,I,E];refine z9a (tk g J) (zwv (Uc.bor (l:=g) (.inr ⟨0,0,st,rfl,Br⟩))) ?_;rw[py K];simp;exact .inr ⟨1,0,0,rfl,Fp⟩
 have hi:i<a.length:=J
 simp[D,I,hi];refine Qt (λL gH gI gK=>∃(k:Nat) (g:List UInt64) (j:UInt64) (st:Nat),gH=[]∧gK+k=b.length∧gI=[.dyn (g.map .u) (a.length+b.length) 1 0 st]∧lk L 0=LU a∧lk L 1=LU b∧lk L 5=.dy 0 0∧lk L 6=.i i∧lk L 7=.u j∧lk L 8=.i k∧zfl a b i k g j) (N:=b.length) ⟨0,g,0,st,by simp[I,M,E,D,K]⟩ ?_;rintro gK L gH gI ⟨k,g,j,st,rfl,gO,rfl,I,M,E,D,h7,P,K⟩ Mx gg;have O:=K.1;by_cases gR:gK=0
 ·have hk:k=b.length:=J
  subst hk;have B:i+b.length<g.length:=J
  have z:((i:Int)+b.length).toNat=i+b.length:=J
  have A:=w8 g (i+b.length) j B;simp[P,E,D,M,h7,z,A];refine⟨J,J,J,J,J,?_⟩;exact Z _ _ _ ⟨N-1,J,i+1,g.set (i+b.length) j,st+1,rfl,J,by simp,Bn,Bc,Ax,by simp,i7 hi K⟩
 have hk:k<b.length:=J
 have B:i+k<g.length:=J
 have z:((i:Int)+k).toNat=i+k:=J
 have C:=ik hi hk K;have A:=w8 g (i+k) (V4 (g.getD (i+k) 0) (a.getD i 0) (b.getD k 0) j).1 B;have F:(V4 (g.getD (i+k) 0) (a.getD i 0) (b.getD k 0) j).1=(Pq (Pq (g.getD (i+k) 0) (a.getD i 0*b.getD k 0) false).1 j false).1:=rfl;have Q:(V4 (g.getD (i+k) 0) (a.getD i 0) (b.getD k 0) j).2=(Pq (Pq (V2 (a.getD i 0) (b.getD k 0)) 0 (Pq (g.getD (i+k) 0) (a.getD i 0*b.getD k 0) false).2).1 0 (Pq (Pq (g.getD (i+k) 0) (a.getD i 0*b.getD k 0) false).1 j false).2).1:=rfl;have gD:a[i]=a.getD i 0:=by simp[hi]
 have gF:b[k]=b.getD k 0:=by simp[hk]
 have gG:g[i+k]=g.getD (i+k) 0:=Ao
 generalize a.getD i 0=x at *;generalize b.getD k 0=y at *;generalize g.getD (i+k) 0=o at *;simp[P,I,M,hk,D,hi];rw[gD,gF];refine Pr (zgi x y) (by simp) ?_;simp[E,D,P,z,B];rw[gG];refine⟨J,J,J,?_⟩;refine Pr (z4s o (x*y) false) (by simp) ?_;generalize Pq o (x*y) false=R at *;simp[h7];refine Pr (z4s R.1 j false) (by simp) ?_;generalize Pq R.1 j false=r2 at *;rw[F]at A;simp[E,D,P,z,A];refine⟨J,J,J,J,?_⟩;refine Pr (z4s (V2 x y) 0 R.2) (by simp) ?_;generalize Pq (V2 x y) 0 R.2=r3 at *;simp;refine Pr (z4s r3.1 0 r2.2) (by simp) ?_;generalize Pq r3.1 0 r2.2=r4 at *;simp[P];refine⟨J,?_⟩;rw[F,Q]at C;exact gg _ _ _ ⟨gK-1,J,k+1,g.set (i+k) r2.1,r4.1,st+1,rfl,J,by simp,Bn,Bc,Ax,At,by simp,by simp,C⟩
def zbt:LC:=(.q [.x 3 0,.z 6 (.alloc [(.i 0),.nilSl,.nilSl])] (.q [.f 10 0 3,.l 11 10,.z 12 (.build [(.i 0),.nilSl,.nilSl] [(0,1,.k 64),(1,1,.t 11)]),.z 7 (.alloc [(.i 0),.nilSl,.nilSl]),.S 3 7 12] (.seq (.q [.K 8 0] (.block 0 (.loop (.seq (.q [.m 13 8,.m 14 2,.c 15 .lss 3 13 14] (.cond (.t 15) .skip (.exit 0))) (.seq (.block 1 (.ops [.f 18 2 7,.l 19 18,.m 20 8,.z 21 (.build [(.i 0),(.i 0),(.i 0),(.i 0),(.i 0),(.i 0),(.i 0),(.u 0)] [(0,1,.k 16),(1,1,.t 20),(2,1,.k (-1)),(3,1,.k (-1)),(4,1,.k (-1)),(5,1,.k (-1)),(7,1,.c (.u 1))]),.z 22 (.buildSl 8 1 [(.i 0),(.i 0),(.i 0),(.i 0),(.i 0),(.i 0),(.i 0),(.u 0)] [(0,8,.t 21)]),.a 23 8 19 22,.f 24 2 7,.S 1 24 23])) (.ops [.m 16 8,.b 17 .add 3 16 1,.m 8 17])))))) (.q [.f 25 2 7,.l 26 25,.m 27 1,.a 28 8 26 27,.f 29 2 7,.S 1 29 28] (.seq (.q [.K 9 0] (.block 2 (.loop (.seq (.q [.m 30 9,.m 31 2,.c 32 .lss 3 30 31] (.cond (.t 32) .skip (.exit 2))) (.seq (.block 3 (.ops [.f 35 2 7,.l 36 35,.z 37 (.build [(.i 0),(.i 0),(.i 0),(.i 0),(.i 0),(.i 0),(.i 0),(.u 0)] [(0,1,.k 17),(1,1,.k (-1)),(2,1,.k (-1)),(3,1,.k (-1)),(4,1,.k (-1)),(5,1,.k (-1))]),.z 38 (.buildSl 8 1 [(.i 0),(.i 0),(.i 0),(.i 0),(.i 0),(.i 0),(.i 0),(.u 0)] [(0,8,.t 37)]),.a 39 8 36 38,.f 40 2 7,.S 1 40 39])) (.ops [.m 33 9,.b 34 .add 3 33 1,.m 9 34])))))) (.q [.L 41 3 7,.S 3 6 41] .ret))))))
def r_law22_program:Pk Tryz.prog 16=some ⟨42,zbt.r,[.cellN 6 3]⟩:=Aa
def z8l:LC:=(.q [.x 2 0,.e 4] (.q [.e 5] (.seq (.q [.K 6 0] (.block 0 (.loop (.seq (.q [.m 7 6,.f 8 0 2,.l 9 8,.s 10 9,.c 11 .lss 3 7 10] (.cond (.t 11) .skip (.exit 0))) (.seq (.block 1 (.draw [(.m 14 5,[]),(.z 15 (.buildSl 1 0 [] []),[]),(.m 16 1,[]),(.m 18 6,[]),(.z 19 (.cvInt .u64 (.t 18)),[]),(.u 20 .mul 23 19 1234567891011,[]),(.z 21 (.buildSl 1 1 [(.u 0)] [(0,1,.t 20)]),[(.z 15 (.buildSl 1 0 [] []),true)]),(.f 23 0 2,[]),(.l 24 23,[]),(.m 25 6,[]),(.I 26 3 24 25,[]),(.f 27 0 26,[]),(.l 28 27,[]),(.a 17 1 15 16,[(.l 28 27,false),(.l 24 23,false),(.z 21 (.buildSl 1 1 [(.u 0)] [(0,1,.t 20)]),true)]),(.a 22 1 17 21,[(.l 28 27,false),(.l 24 23,false)]),(.W 29 41 22 28,[]),(.z 30 (.buildSl 1 1 [.nilSl] [(0,1,.t 29)]),[]),(.a 31 1 14 30,[]),(.m 5 31,[])])) (.ops [.m 12 6,.b 13 .add 3 12 1,.m 6 13])))))) (.q [.m 32 5,.m 4 32] .ret))))
def r_law22_rows:Pk Tryz.prog 18=some ⟨33,z8l.r,[.tmp 4]⟩:=Aa
def k_law22_rows:z8l.ok=true:=Aa
def zhc{bs:List Bf}{P:LV}{W:List LV}{L:List Lo}{deep:Nat}(hd:deep≤100)(hL:L.length≤1000000)(hW:∃a b c d e f,W=[.i a,.i b,.i c,.i d,.i e,.i f]) :
  Rk 16 [.agg (.lst (Rz bs) bs.length 3::P::W),.lst (Tu L) L.length 8,.i deep] (.agg (Pm ((64:Nat):Int) bs (R0 deep 0++(L++List.replicate deep Vi)))):=by
 obtain⟨w1,w2,w3,w4,w5,w6,rfl⟩:=hW;refine Uy.mk (by simp[LV.dat,zhs]) (Pj r_law22_program Aa (by simp) ?_);simp[zbt];refine Qt (λM Z O X=>∃(i st E:Nat) (v:LV),Z=[]∧X+i=deep∧lk M 1=.lst (Tu L) L.length 8∧lk M 2=.i deep∧lk M 6=.ptr 1 0∧lk M 7=.ptr 2 0∧lk M 8=.i i∧3≤O.length∧O[1]?=some (.cells [.i 0,.nilSl,.nilSl] E)∧O[2]?=some (.cells [.i 64,.lst (Rz bs) bs.length 3,v] st)∧R5 3 O v 8 (R0 i 0).length (Tu (R0 i 0))) (N:=deep)
  ⟨0,1,0,.nilSl,rfl,J,by simp,by simp,by simp,by simp,by simp,by simp,by simp,by simp,R5.nil⟩ ?_
 rintro X M Z O ⟨i,st,E,v,rfl,hN,U,F,G,C,V,hl,K,H,hv⟩ Nx I;by_cases gg:i<deep
 ·have g':(i:Int)<deep:=J
  simp[U,F,G,C,V,H,gg];refine hv.push_end.push (c:=1) J Ab (by rw[lpsL_len];omega) (by simp) rfl λQ G5 g j D=>?_
  have z:=(j 2 J).trans ((Ph J).trans H);have A:=(j 1 J).trans ((Ph J).trans K);have B:=g.cells;simp[-LV.cells,B,C,z,V];refine⟨J,I _ _ _ ⟨X-1,J,i+1,st+1,E,Q,rfl,J,Cr,Ae,Bd,Af,by simp,by simp at D ⊢;omega,?_,?_,?_⟩⟩
  ·rw[Jz J];exact A
  ·exact J3 (Jy.1 z).1
  ·rw[lpsL_snoc,J9,znt,Int.zero_add];exact g.set_lt J
 ·have hi:i=deep:=J
  subst hi;simp[U,F,G,C,V,H];refine⟨J,?_⟩;refine hv.push (c:=L.length) J J (by rw[lpsL_len];omega) (zxl L) (W9 L) λQ G5 g j D=>?_
  have z:=(j 2 J).trans H;have A:=(j 1 J).trans K;have B:=g.cells;simp[-LV.cells,B,C,z];have R:=(Jy.1 z).1;refine Qt (λM Z O X=>∃(T st E:Nat) (v:LV),Z=[]∧X+T=i∧lk M 2=.i i∧lk M 6=.ptr 1 0∧lk M 7=.ptr 2 0∧lk M 9=.i T∧3≤O.length∧O[1]?=some (.cells [.i 0,.nilSl,.nilSl] E)∧O[2]?=some (.cells [.i 64,.lst (Rz bs) bs.length 3,v] st)∧R5 3 O v 8 (R0 i 0++(L++List.replicate T Vi)).length (Tu (R0 i 0++(L++List.replicate T Vi)))) (N:=i)
   ⟨0,st+1,E,Q,rfl,J,Ae,Bd,Af,by simp,Ab,?_,J3 R,?_⟩ ?_
  ·rw[Jz J];exact A
  ·simp only[List.replicate_zero,Ls,J9];rw[znt];exact g.set_lt J
  clear U F G C V hl K H hv z A R g j D B I Nx;rintro X M Z O ⟨T,st,E,v,rfl,hN,F,G,C,Y,hl,K,H,hv⟩ Nx I;by_cases gg:T<i
  ·simp[F,G,C,Y,H,gg];refine hv.push_end.push (c:=1) J Ab (by simp[lpsL_len];omega) (by simp) rfl λQ G5 g j D=>?_
   have z:=(j 2 J).trans ((Ph J).trans H);have A:=(j 1 J).trans ((Ph J).trans K);have B:=g.cells;simp[-LV.cells,B,C,z,Y];refine⟨J,I _ _ _ ⟨X-1,J,T+1,st+1,E,Q,rfl,J,Ae,Bd,Af,by simp,by simp at D ⊢;omega,?_,?_,?_⟩⟩
   ·rw[Jz J];exact A
   ·exact J3 (Jy.1 z).1
   ·rw[show R0 i 0++(L++List.replicate (T+1) Vi)=(R0 i 0++(L++List.replicate T Vi))++[Vi] by rw[List.replicate_succ'];simp,J9,znt];exact g.set_lt J
  ·have hj:T=i:=J
   subst hj;have hb:=(hv.set_lt (q:=1) (ob:=.cells [.i 64,.lst (Rz bs) bs.length 3,v] (E+1)) J).bor;simp[-P9,F,G,C,Y,H,K];rw[J3 (Jy.1 K).1];refine⟨by simp,_,_,rfl,⟨rfl,rfl⟩,_,_,rfl,⟨rfl,by simp[LV.dat,V3]⟩,_,_,rfl,hb,rfl⟩
def zwr{bs:List Bf}{w4 w5 w6:Int}{fill:List UInt64}(hs:∀b∈bs,0≤b.size∧b.size≤1000000)(hb:bs.length≤1000)(gG:fill.length≤1000)
  (kk:∀(X:List (List UInt64)) (p A st:Nat) (F:Pd),X.length=bs.length→(∀i,i<bs.length→((X.getD i []).length:Int)=(Ps bs i).size)→(∀q,q<I.length→F[q]?=I[q]?)→I.length≤p→I.length≤F.length→bs≠[]→F[p]?=some (.dyn (X.map LU) X.length 1 A st)→Z (.dy p A) F) (G:bs≠[]) :
  Ql (.fn 18) [.agg [.lst (Rz bs) bs.length 3,P,.i z,.i B,.i vT,.i w4,.i w5,.i w6],.lst (fill.map .u) fill.length 1] I Z:=by
 refine Pj r_law22_rows k_law22_rows (by simp) ?_;simp[z8l];refine Qt (λρ gI D N=>∃(i R:Nat) (v:LV) (X:List (List UInt64)),gI=[]∧N+i=bs.length∧lk ρ 1=.lst (fill.map .u) fill.length 1∧lk ρ 2=.ptr I.length 0∧lk ρ 5=v∧lk ρ 6=.i i∧I.length<D.length∧(∀q,q<I.length→D[q]?=I[q]?) ∧
   D[I.length]?=some (.cells [.lst (Rz bs) bs.length 3,P,.i z,.i B,.i vT,.i w4,.i w5,.i w6] R)∧X.length=i∧(∀T,T<i→((X.getD T []).length:Int)=(Ps bs T).size)∧R5 (I.length+1) D v 1 i (X.map LU)) (N:=bs.length)
  ⟨0,0,.nilSl,[],rfl,J,by simp,by simp,by simp,by simp,by simp,λq E=>J4 E,by simp,rfl,λT h=>J,R5.nil⟩ ?_
 rintro N ρ gI D ⟨i,R,v,X,rfl,hN,h1,U,h5,V,H,K,C,j,hX,hD⟩ Nx Y;by_cases gF:i<bs.length
 ·have q0:=zel (T7 gF);have E:=znw gF;have hz:=hs _ (Kj (T7 gF));have pp:∀x:List LObj,(D++x)[I.length]?=_:=λx=>(Ph H).trans C
  simp[h1,U,h5,V,C,↓pp,gF,Pe q0];refine⟨J,J,?_⟩;obtain⟨gH,L⟩:=J5 hz.1;rw[L];generalize U7 (iU ↑i) 1234567891011=g;have o1:(D++[LObj.dyn (fill.map .u++[.u g]) (fill.length+1) 1 2 2,LObj.dyn [.u g] 1 1 0 0])[D.length]?=some (.dyn ((fill++[g]).map .u) (fill++[g]).length 1 2 2):=by
   rw[Kl (J8 _),Nb];simp
  have o2:=λq (E:q<D.length)=>(Ph (x:=[LObj.dyn (fill.map .u++[.u g]) (fill.length+1) 1 2 2,LObj.dyn [.u g] 1 1 0 0]) E)
  have o3:=hD.push_end (ob:=[LObj.dyn (fill.map .u++[.u g]) (fill.length+1) 1 2 2,LObj.dyn [.u g] 1 1 0 0]);have o4:(D++[LObj.dyn (fill.map .u++[.u g]) (fill.length+1) 1 2 2,LObj.dyn [.u g] 1 1 0 0]).length=D.length+2:=by simp
  generalize D++[LObj.dyn (fill.map .u++[.u g]) (fill.length+1) 1 2 2,LObj.dyn [.u g] 1 1 0 0]=GA at *;refine Pr (zis (fill++[g]) gH J Ab (by simp)) ⟨_,_,rfl,⟨_,_,_,_,rfl,o1,zeu _⟩,_,_,rfl,⟨rfl,rfl⟩,rfl⟩ ?_;have M:=zin (fill++[g]) gH;generalize zt8 (fill++[g]) gH=gK at *;simp[RU];refine R5.push (c:=1) (x:=[LU gK]) (o3.push_end) J Ab J rfl (by simp[dats,LV.dat,zeu]) λv' F gg O gD=>?_
  simp at gD;simp[V];refine⟨J,Y _ _ _ ⟨N-1,J,i+1,R,v',X++[gK],rfl,J,by simp[h1],Cr,by simp,by simp,J,?_,?_,Am,?_,?_⟩⟩
  ·intro q E;rw[O q J,Ph J,o2 q J];exact K q E
  ·rw[O _ J,Ph J,o2 _ H];exact C
  ·intro T hj;by_cases e:T=i
   ·subst e;rw[J0,←j,Kg,j,L];simp[M]
   ·rw[J0,J4 J,←J0];exact hX T J
  ·rw[Ng];exact gg
 ·have gi:i=bs.length:=J
  subst gi;obtain⟨_,_,⟨_,e0,_⟩|⟨p,A,st,hp,rfl,Q⟩⟩:=hD
  ·exact absurd (Kn e0) G
  simp[U,h5,V,C];exact kk X p A st D j (λi hi=>hX i hi) K J J G (by rw[j];exact Q)
def fi:LC:=(.q [.x 3 1,.F 4] (.q [.m 6 0,.s 7 6,.m 5 7] (.seq (.q [.f 8 1 3,.l 9 8,.b 10 .neq 3 9 (-1),.m 11 10,.nf 12 11 2 3,.nl 13 11 12,.nb 14 11 .neq 3 13 (-1),.p 15 11 14,.m 16 15,.nf 17 16 5 3,.nl 18 16 17,.nb 19 16 .neq 3 18 (-1),.p 20 16 19,.m 21 20,.nf 22 21 3 3,.nl 23 21 22,.nb 24 21 .lss 3 23 0,.p 25 21 24,.m 26 25,.nf 27 26 3 3,.nl 28 26 27,.mn 29 26 5,.n 30 26 (.bin .geq false 3 (.t 28) (.t 29)),.p 31 26 30,.m 32 31,.nf 33 32 6 3,.nl 34 32 33,.n 35 32 (.bin .lss true 23 (.t 34) (.c (.u 1))),.p 36 32 35,.m 37 36,.nf 38 37 6 3,.nl 39 37 38,.n 40 37 (.bin .gtr true 23 (.t 39) (.c (.u 3))),.p 41 37 40] (.cond (.t 41) (.q [.F 4] .ret) .skip)) (.seq (.q [.f 42 6 3,.l 43 42,.u 44 .eql 23 43 2] (.cond (.t 44) (.q [.f 45 4 3,.l 46 45,.b 47 .geq 3 46 0,.m 48 47,.yf 49 48 4 3,.yl 50 48 49,.my 51 48 5,.y 52 48 (.bin .lss false 3 (.t 50) (.t 51)),.q 53 48 52,.m 4 53] .ret) .skip)) (.q [.f 54 4 3,.l 55 54,.b 56 .eql 3 55 (-1),.m 4 56] .ret)))))
def r_ref19_need:Pk Tryz.prog 50=some ⟨57,fi.r,[.tmp 4]⟩:=Aa
def Yg:LC:=(.q [.K 2 0] (.seq (.q [.m 3 0] (.block 0 (.q [.b 5 .eql 3 3 1,.m 4 5] (.cond (.t 4) (.q [.K 2 1] .ret) (.q [.b 7 .eql 3 3 2,.m 6 7] (.cond (.t 6) (.q [.K 2 5] .ret) (.seq (.q [.b 9 .eql 3 3 3,.m 8 9] (.cond (.t 8) .skip (.q [.b 10 .eql 3 3 4,.m 8 10] (.cond (.t 8) .skip (.q [.b 11 .eql 3 3 5,.m 8 11] (.cond (.t 8) .skip (.q [.b 12 .eql 3 3 6,.m 8 12] (.cond (.t 8) .skip (.ops [.b 13 .eql 3 3 7,.m 8 13]))))))))) (.cond (.t 8) (.q [.K 2 13] .ret) (.seq (.q [.b 15 .eql 3 3 8,.m 14 15] (.cond (.t 14) .skip (.q [.b 16 .eql 3 3 10,.m 14 16] (.cond (.t 14) .skip (.q [.b 17 .eql 3 3 11,.m 14 17] (.cond (.t 14) .skip (.q [.b 18 .eql 3 3 12,.m 14 18] (.cond (.t 14) .skip (.ops [.b 19 .eql 3 3 13,.m 14 19]))))))))) (.cond (.t 14) (.q [.K 2 29] .ret) (.q [.b 21 .eql 3 3 9,.m 20 21] (.cond (.t 20) (.q [.K 2 21] .ret) (.q [.b 23 .eql 3 3 14,.m 22 23] (.cond (.t 22) (.q [.K 2 19] .ret) (.seq (.q [.b 25 .eql 3 3 15,.m 24 25] (.cond (.t 24) .skip (.ops [.b 26 .eql 3 3 16,.m 24 26]))) (.cond (.t 24) (.q [.K 2 0] .ret) .skip)))))))))))))))) (.q [.K 2 (-1)] .ret)))
def r_ref19_shape:Pk Tryz.prog 51=some ⟨27,Yg.r,[.tmp 2]⟩:=Aa
def zd9:LC:=(.q [.x 1 0,.z 2 (.alloc [(.i 0),(.i 0),(.i 0),(.i 0),(.i 0)])] (.q [.f 3 1 1,.l 4 3,.f 5 2 1,.l 6 5,.f 7 3 1,.l 8 7,.f 9 4 1,.l 10 9,.f 11 5 1,.l 12 11,.z 13 (.build [(.i 0),(.i 0),(.i 0),(.i 0),(.i 0)] [(0,1,.t 4),(1,1,.t 6),(2,1,.t 8),(3,1,.t 10),(4,1,.t 12)]),.S 5 2 13] .ret))
def r_ref19_fields:Pk Tryz.prog 52=some ⟨14,zd9.r,[.cellN 2 5]⟩:=Aa
def z4h:LC:=(.q [.x 1 0,.F 2] (.seq (.q [.f 3 0 1,.l 4 3] (.block 0 (.q [.b 6 .eql 3 4 1,.m 5 6] (.cond (.t 5) (.q [.z 2 (.move .T)] .ret) (.q [.b 8 .eql 3 4 13,.m 7 8] (.cond (.t 7) (.q [.f 9 6 1,.l 10 9,.u 11 .geq 23 10 1,.m 12 11,.yf 13 12 6 1,.yl 14 12 13,.y 15 12 (.bin .leq true 23 (.t 14) (.c (.u 6))),.q 16 12 15,.m 2 16] .ret) (.q [.b 18 .eql 3 4 15,.m 17 18] (.cond (.t 17) (.q [.f 19 6 1,.l 20 19,.u 21 .geq 23 20 1,.m 22 21,.yf 23 22 6 1,.yl 24 22 23,.y 25 22 (.bin .leq true 23 (.t 24) (.c (.u 4096))),.q 26 22 25,.m 2 26] .ret) .skip)))))))) (.q [.f 27 6 1,.l 28 27,.u 29 .eql 23 28 0,.m 2 29] .ret)))
def r_ref19_number:Pk Tryz.prog 53=some ⟨30,z4h.r,[.tmp 2]⟩:=Aa
def z1u:LC:=(.q [.x 1 0,.e 2] (.seq (.q [.f 3 0 1,.l 4 3] (.block 0 (.q [.b 6 .eql 3 4 6,.m 5 6] (.cond (.t 5) (.q [.f 7 3 1,.l 8 7,.f 9 4 1,.l 10 9,.z 11 (.buildSl 1 2 [(.i 0),(.i 0)] [(0,1,.t 8),(1,1,.t 10)]),.m 2 11] .ret) (.q [.b 13 .eql 3 4 14,.m 12 13] (.cond (.t 12) (.q [.f 14 1 1,.l 15 14,.f 16 2 1,.l 17 16,.z 18 (.buildSl 1 2 [(.i 0),(.i 0)] [(0,1,.t 15),(1,1,.t 17)]),.m 2 18] .ret) (.q [.b 20 .eql 3 4 8,.m 19 20] (.cond (.t 19) (.q [.f 21 1 1,.l 22 21,.f 23 3 1,.l 24 23,.f 25 4 1,.l 26 25,.z 27 (.buildSl 1 3 [(.i 0),(.i 0),(.i 0)] [(0,1,.t 22),(1,1,.t 24),(2,1,.t 26)]),.m 2 27] .ret) (.q [.b 29 .eql 3 4 9,.m 28 29] (.cond (.t 28) (.q [.f 30 1 1,.l 31 30,.f 32 5 1,.l 33 32,.z 34 (.buildSl 1 2 [(.i 0),(.i 0)] [(0,1,.t 31),(1,1,.t 33)]),.m 2 34] .ret) (.seq (.q [.b 36 .eql 3 4 10,.m 35 36] (.cond (.t 35) .skip (.q [.b 37 .eql 3 4 11,.m 35 37] (.cond (.t 35) .skip (.ops [.b 38 .eql 3 4 12,.m 35 38]))))) (.cond (.t 35) (.q [.f 39 1 1,.l 40 39,.f 41 3 1,.l 42 41,.f 43 4 1,.l 44 43,.f 45 5 1,.l 46 45,.z 47 (.buildSl 1 4 [(.i 0),(.i 0),(.i 0),(.i 0)] [(0,1,.t 40),(1,1,.t 42),(2,1,.t 44),(3,1,.t 46)]),.m 2 47] .ret) (.q [.b 49 .eql 3 4 13,.m 48 49] (.cond (.t 48) (.q [.f 50 1 1,.l 51 50,.f 52 3 1,.l 53 52,.f 54 5 1,.l 55 54,.z 56 (.buildSl 1 3 [(.i 0),(.i 0),(.i 0)] [(0,1,.t 51),(1,1,.t 53),(2,1,.t 55)]),.m 2 56] .ret) .skip)))))))))))))) (.q [.e 2] .ret)))
def r_ref19_alike:Pk Tryz.prog 85=some ⟨57,z1u.r,[.tmp 2]⟩:=Aa
def zes:LC:=(.q [.x 3 1,.F 4] (.q [.L 7 7 3,.w 8 85 7,.m 5 8] (.seq (.q [.K 6 1] (.block 0 (.loop (.seq (.q [.m 9 6,.m 10 5,.s 11 10,.c 12 .lss 3 9 11] (.cond (.t 12) .skip (.exit 0))) (.seq (.block 1 (.seq (.draw [(.m 15 0,[]),(.m 16 5,[]),(.m 17 6,[]),(.I 18 1 16 17,[]),(.l 19 18,[]),(.I 20 3 15 19,[]),(.f 21 0 20,[]),(.l 22 21,[]),(.m 23 0,[]),(.m 24 5,[]),(.z 25 (.ixAddr 1 (.t 24) (.k 0)),[]),(.l 26 25,[]),(.I 27 3 23 26,[]),(.f 28 0 27,[]),(.l 29 28,[]),(.c 30 .neq 3 22 29,[])]) (.cond (.t 30) (.q [.F 4] .ret) .skip))) (.ops [.m 13 6,.b 14 .add 3 13 1,.m 6 14])))))) (.q [.z 4 (.move .T)] .ret))))
def r_ref19_agree:Pk Tryz.prog 54=some ⟨31,zes.r,[.tmp 4]⟩:=Aa
def zdt:LC:=(.q [.x 3 1,.F 4] (.seq (.q [.f 11 0 3,.l 12 11,.b 13 .eql 3 12 17] (.cond (.t 13) (.q [.m 14 0,.L 15 7 3,.W 16 50 14 15,.m 4 16] .ret) .skip)) (.seq (.draw [(.f 17 0 3,[]),(.l 18 17,[]),(.L 20 7 3,[]),(.z 6 (.alloc [(.i 0),(.i 0),(.i 0),(.i 0),(.i 0)]),[(.L 20 7 3,false),(.l 18 17,false)]),(.w 19 51 18,[(.z 6 (.alloc [(.i 0),(.i 0),(.i 0),(.i 0),(.i 0)]),true),(.L 20 7 3,false)]),(.w 21 52 20,[(.z 6 (.alloc [(.i 0),(.i 0),(.i 0),(.i 0),(.i 0)]),true)]),(.m 5 19,[]),(.S 5 6 21,[])]) (.seq (.q [.m 22 5,.b 23 .lss 3 22 0,.m 24 23,.n 25 24 (.loadN 7 (.t 3)),.n 26 24 (.w 53 [.t 25]),.n 27 24 (.un .not (.t 26)),.p 28 24 27] (.cond (.t 28) (.q [.F 4] .ret) .skip)) (.q [.F 7] (.seq (.q [.K 8 0] (.block 0 (.loop (.seq (.q [.m 29 8,.b 30 .lss 3 29 5] (.cond (.t 30) .skip (.exit 0))) (.seq (.block 1 (.q [.m 33 5,.m 34 8,.z 35 (.cvInt .u64 (.t 34)),.c 36 .shr 3 33 35,.b 37 .and 3 36 1,.b 38 .eql 3 37 1,.m 9 38] (.seq (.q [.m 39 9,.m 40 39,.my 41 40 8,.y 42 40 (.ixAddrArr 5 1 (.t 6) (.t 41)),.yl 43 40 42,.y 44 40 (.bin .lss true 3 (.t 43) (.k 0)),.my 45 40 44,.mn 46 45 8,.n 47 45 (.ixAddrArr 5 1 (.t 6) (.t 46)),.nl 48 45 47,.mn 49 45 0,.n 50 45 (.lenSl (.t 49)),.n 51 45 (.bin .geq false 3 (.t 48) (.t 50)),.y 52 40 (.pick (.t 45) .T (.t 51)),.q 53 40 52,.m 54 53,.mn 55 54 9,.n 56 54 (.un .not (.t 55)),.mn 57 54 56,.my 58 57 8,.y 59 57 (.ixAddrArr 5 1 (.t 6) (.t 58)),.yl 60 57 59,.y 61 57 (.bin .neq true 3 (.t 60) (.k (-1))),.n 62 54 (.pick (.t 57) (.t 61) .F),.p 63 54 62] (.cond (.t 63) (.q [.F 4] .ret) .skip)) (.q [.m 64 9,.m 65 64,.my 66 65 8,.y 67 65 (.bin .geq true 3 (.t 66) (.k 2)),.my 68 65 67,.nf 69 68 0 3,.nl 70 68 69,.nb 71 68 .eql 3 70 14,.y 72 65 (.pick (.t 68) .T (.t 71)),.q 73 65 72] (.cond (.t 73) (.ops [.m 74 7,.m 75 74,.mn 76 75 0,.mn 77 75 8,.n 78 75 (.ixAddrArr 5 1 (.t 6) (.t 77)),.nl 79 75 78,.n 80 75 (.ixAddr 3 (.t 76) (.t 79)),.nf 81 75 1 80,.nl 82 75 81,.p 83 75 82,.m 7 83]) .skip))))) (.ops [.m 31 8,.b 32 .add 3 31 1,.m 8 32])))))) (.seq (.q [.K 10 0] (.block 2 (.loop (.seq (.q [.m 84 10,.b 85 .lss 3 84 2] (.cond (.t 85) .skip (.exit 2))) (.seq (.block 3 (.q [.m 88 10,.z 89 (.ixAddrArr 5 1 (.t 6) (.t 88)),.l 90 89,.b 91 .geq 3 90 0,.m 92 91,.my 93 92 0,.my 94 92 10,.y 95 92 (.ixAddrArr 5 1 (.t 6) (.t 94)),.yl 96 92 95,.y 97 92 (.ixAddr 3 (.t 93) (.t 96)),.yf 98 92 2 97,.yl 99 92 98,.y 100 92 (.bin .eql true 3 (.t 99) (.k 1)),.my 101 92 100,.mn 102 101 0,.mn 103 101 10,.n 104 101 (.ixAddrArr 5 1 (.t 6) (.t 103)),.nl 105 101 104,.n 106 101 (.ixAddr 3 (.t 102) (.t 105)),.nf 107 101 2 106,.nl 108 101 107,.nb 109 101 .eql 3 108 2,.y 110 92 (.pick (.t 101) .T (.t 109)),.my 111 92 110,.mn 112 111 7,.mn 113 111 112,.my 114 113 0,.my 115 113 10,.y 116 113 (.ixAddrArr 5 1 (.t 6) (.t 115)),.yl 117 113 116,.y 118 113 (.ixAddr 3 (.t 114) (.t 117)),.yf 119 113 1 118,.yl 120 113 119,.y 121 113 (.un .not (.t 120)),.n 122 111 (.pick (.t 113) (.t 121) .F),.y 123 92 (.pick (.t 111) .T (.t 122)),.q 124 92 123] (.cond (.t 124) (.q [.F 4] .ret) .skip))) (.ops [.m 86 10,.b 87 .add 3 86 1,.m 10 87])))))) (.q [.f 125 2 3,.l 126 125,.b 127 .lss 3 126 0,.m 128 127,.nf 129 128 1 3,.nl 130 128 129,.nf 131 128 2 3,.nl 132 128 131,.n 133 128 (.bin .neq false 3 (.t 130) (.t 132)),.p 134 128 133,.m 135 134,.my 136 135 0,.y 137 135 (.loadN 7 (.t 3)),.y 138 135 (.w 54 [.t 136,.t 137]),.q 139 135 138,.m 4 139] .ret))))))))
def r_ref19_One:Pk Tryz.prog 27=some ⟨140,zdt.r,[.tmp 4]⟩:=Aa
def imm3{n:UInt64}(g:n≠1)(j:n≠2)(z:n≠3):n<1∨3<n:=by
 have A:n.toNat≠1:=λh=>g (Le.1 h)
 have B:n.toNat≠2:=λh=>j (Le.1 h)
 have C:n.toNat≠3:=λh=>z (Le.1 h)
 rw[Lq,Lq];show n.toNat<1∨3<n.toNat;omega
def zmv(c:List LV)(n:Nat)(o:Ko):Pl 50 [.lst c n 3,.agg o.f] (.bool (Up n o)) []:=by
 refine P4.val rfl (Pj r_ref19_need Aa N ?_);have g:o.f=[.i o.kind,.i o.d,.i o.e,.i o.a,.i o.b,.i o.c,.u o.imm]:=rfl;by_cases j:o.d=-1
 case neg=>simp[fi,g,Up,j]
 by_cases z:o.e=-1
 case neg=>simp[fi,g,Up,j,z]
 by_cases A:o.c=-1
 case neg=>simp[fi,g,Up,j,z,A]
 by_cases B:o.a<0
 ·have:Tv n o.a=false:=Do
  simp[fi,g,Up,j,z,A,B,this]
 by_cases C:(n:Int)≤o.a
 ·have:Tv n o.a=false:=Do
  simp[fi,g,Up,j,z,A,B,C,this]
 have ha:Tv n o.a=true:=Do
 by_cases D:o.imm=2
 ·by_cases G:0≤o.b
  ·by_cases H:o.b<n
   ·have hb:Tv n o.b=true:=Do
    simp[fi,g,Up,j,z,A,B,C,ha,D,G,H,hb]
   ·have hb:Tv n o.b=false:=Do
    simp[fi,g,Up,j,z,A,B,C,ha,D,G,H,hb]
  ·have hb:Tv n o.b=false:=Do
   simp[fi,g,Up,j,z,A,B,C,ha,D,G,hb]
 by_cases E:o.imm=1
 ·simp[fi,g,Up,j,z,A,B,C,ha,D,E]
 by_cases F:o.imm=3
 ·simp[fi,g,Up,j,z,A,B,C,ha,D,E,F]
 rcases imm3 E D F with K|K
 ·simp[fi,g,Up,j,z,A,B,C,ha,D,E,F,K]
 ·by_cases I:o.imm<1
  ·simp[fi,g,Up,j,z,A,B,C,ha,D,E,F,I]
  ·simp[fi,g,Up,j,z,A,B,C,ha,D,E,F,K,I]
def Xq(k:Int):Int:=match Qm k with
 |some s=>s
 |none=>-1
def zl2(k:Int):Pl 51 [.i k] (.i (Xq k)) []:=by
 refine P4.val rfl (Pj r_ref19_shape Aa N ?_);by_cases E:k=1;· subst E;simp[Yg,Xq,Qm]
 by_cases F:k=2;· subst F;simp[Yg,Xq,Qm]
 by_cases G:k=3;· subst G;simp[Yg,Xq,Qm]
 by_cases H:k=4;· subst H;simp[Yg,Xq,Qm]
 by_cases I:k=5;· subst I;simp[Yg,Xq,Qm]
 by_cases K:k=6;· subst K;simp[Yg,Xq,Qm]
 by_cases L:k=7;· subst L;simp[Yg,Xq,Qm]
 by_cases M:k=8;· subst M;simp[Yg,Xq,Qm]
 by_cases O:k=9;· subst O;simp[Yg,Xq,Qm]
 by_cases g:k=10;· subst g;simp[Yg,Xq,Qm]
 by_cases j:k=11;· subst j;simp[Yg,Xq,Qm]
 by_cases z:k=12;· subst z;simp[Yg,Xq,Qm]
 by_cases A:k=13;· subst A;simp[Yg,Xq,Qm]
 by_cases B:k=14;· subst B;simp[Yg,Xq,Qm]
 by_cases C:k=15;· subst C;simp[Yg,Xq,Qm]
 by_cases D:k=16;· subst D;simp[Yg,Xq,Qm]
 simp[Yg,Xq,Qm,E,F,G,H,I,K,L,M,O,g,j,z,A,B,C,D]
def zi3(o:Ko):Pl 52 [.agg o.f] (.agg [.i o.d,.i o.e,.i o.a,.i o.b,.i o.c]) []:=by
 refine P4.val rfl (Pj r_ref19_fields Aa N ?_);simp[zd9,Ko.f]
def zj2(o:Ko):Pl 53 [.agg o.f] (.bool (T1 o)) []:=by
 refine P4.val rfl (Pj r_ref19_number Aa N ?_);by_cases g:o.kind=1;· simp[z4h,Ko.f,T1,g]
 by_cases j:o.kind=13
 ·by_cases A:1≤o.imm<;>simp[z4h,Ko.f,T1,g,j,A]
 by_cases z:o.kind=15
 ·by_cases A:1≤o.imm<;>simp[z4h,Ko.f,T1,g,j,z,A]
 simp[z4h,Ko.f,T1,g,j,z]
def zky(o:Ko):Rk 85 [.agg o.f] (.lst ((Rj o).map .i) (Rj o).length 1):=by
 have G:∀l:List Int,dats (l.map .i)=true:=λl=>yp (λ_=>rfl) l
 refine Uy.mk (by simp[LV.dat,G]) (Pj r_ref19_alike Aa N ?_);have g:o.f=[.i o.kind,.i o.d,.i o.e,.i o.a,.i o.b,.i o.c,.u o.imm]:=rfl;by_cases D:o.kind=6;· simp[z1u,g,Rj,D,P9,bor,LV.dat,dats]
 by_cases j:o.kind=14;· simp[z1u,g,Rj,j,P9,bor,LV.dat,dats]
 by_cases E:o.kind=8;· simp[z1u,g,Rj,E,P9,bor,LV.dat,dats]
 by_cases F:o.kind=9;· simp[z1u,g,Rj,F,P9,bor,LV.dat,dats]
 by_cases z:o.kind=10;· simp[z1u,g,Rj,z,P9,bor,LV.dat,dats]
 by_cases A:o.kind=11;· simp[z1u,g,Rj,A,P9,bor,LV.dat,dats]
 by_cases B:o.kind=12;· simp[z1u,g,Rj,B,P9,bor,LV.dat,dats]
 by_cases C:o.kind=13;· simp[z1u,g,Rj,C,P9,bor,LV.dat,dats]
 simp[z1u,g,Rj,D,E,F,z,A,B,C,j,P9,bor]
def zdf(g:List Vr)(o:Ko)(hv:∀v∈Rj o,mw g v):Pl 54 [.lst (Py g) g.length 3,.agg o.f] (.bool (oz g o)) []:=by
 refine P4.val rfl (Pj r_ref19_agree Aa (by simp) ?_);have P:o.f=[.i o.kind,.i o.d,.i o.e,.i o.a,.i o.b,.i o.c,.u o.imm]:=rfl;have hl:(Rj o).length≤4:=by
  unfold Rj;repeat' split
  all_goals simp
 simp[zes,P];rw[←P];refine Ux (zky o) rfl ?_;rw[oz];generalize Rj o=j at *;simp;refine Qt (λV gg gD N=>∃i:Nat,gg=[]∧N+i=j.length+1∧1≤i∧lk V 0=.lst (Py g) g.length 3∧lk V 5=.lst (j.map .i) j.length 1∧lk V 6=.i i∧∀B,1≤B→B<i→Qs g (gd j B)=Qs g (gd j 0)) (N:=j.length) ⟨1,rfl,J,J,by simp,by simp,by simp,λB h1 h2=>J⟩ ?_;rintro N V gg gD ⟨i,rfl,hN,X,E,F,L,Q⟩ Nx M;by_cases R:i<j.length
 ·have T:=W4 (f:=LV.i) (Xl (l:=j) (u:=i) R);have C:=W4 (f:=LV.i) (Xl (l:=j) (u:=0) J);have U:gd j i∈j:=Kj (Xl R);have Y:gd j 0∈j:=Kj (Xl (u:=0) J);obtain⟨a,G,ha,Z⟩:=(hv _ U).at;obtain⟨b,H,hb,qb⟩:=(hv _ Y).at;have I:=zl Z;have K:=zl qb;rw[G]at I;rw[H]at K;simp only[Kr]at I K;have A:Qs g (gd j i)=(gv g a).limbs:=by rw[G];simp[Qs]
  have z:Qs g (gd j 0)=(gv g b).limbs:=by rw[H];simp[Qs]
  by_cases e:Qs g (gd j i)=Qs g (gd j 0)
  ·have D:=e;rw[A,z]at D;simp[E,F,L,R,Pe T,Pe C,G,H,ha,hb,Pe I,Pe K,D];refine⟨J,J,M _ _ _ ⟨N-1,J,i+1,rfl,J,J,Ax,Ae,by simp,λB j1 j2=>?_⟩⟩;by_cases ej:B=i
   ·rw[ej];exact e
   ·exact Q B j1 J
  ·have D:=e;rw[A,z]at D;simp[E,F,L,R,Pe T,Pe C,G,H,ha,hb,Pe I,Pe K,D];refine⟨J,?_⟩;have:(j.all λv=>decide (Qs g v=Qs g (j.headD 0)))=false:=by
    rw[N6];refine⟨_,U,?_⟩;rw[show j.headD 0=gd j 0 by cases j<;>rfl];simpa using e
   simpa using this
 ·simp[E,F,L,R];intro v O;obtain⟨B,hj,rfl⟩:=L5.1 O;have e1:j[B]=gd j B:=by simp[gd,J0,hj]
  have e0:j.head?.getD 0=gd j 0:=by cases j<;>rfl
  rw[e1,e0];by_cases j0:B=0
  ·rw[j0]
  ·exact Q B J J
end Go.Proofs.YtmnciecehjcjhaaGreat
end
