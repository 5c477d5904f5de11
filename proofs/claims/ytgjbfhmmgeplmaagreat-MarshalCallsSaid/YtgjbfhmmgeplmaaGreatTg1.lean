/- The templates: see the main text. -/
import Derived.Test.YtgjbfhmmgeplmaaGreatSvG3
import Derived.Test.YtgjbfhmmgeplmaaGreatTg0
import Derived.Test.YtgjbfhmmgeplmaaGreatSvG2
import Derived.Test.YtgjbfhmmgeplmaaGreatProg
import Derived.KernelRfl
set_option linter.defProp false
noncomputable section
namespace Go.Proofs.YtgjbfhmmgeplmaaGreat
open Go.Sv
set_option linter.unusedSimpArgs false
set_option maxRecDepth 10000
variable{g j:Nat}{F:M4}{K:LV}{P:LV→M4→Prop}{V:List Vr}
section
set_option linter.unusedVariables false
def z0w:LC:=(.q [.m 10 1,.b 11 .add 3 10 1,.m 8 11] (.block 0 (.loop (.seq (.q [.m 12 8,.m 13 2,.c 14 .lss 3 12 13] (.cond (.t 14) .skip (.exit 0))) (.seq (.block 1 (.q [.m 17 8,.m 9 17] (.block 2 (.loop (.seq (.seq (.draw [(.m 18 9,[]),(.m 19 1,[]),(.c 20 .gtr 3 18 19,[]),(.m 21 20,[]),(.my 22 21 3,[]),(.my 23 21 0,[]),(.my 24 21 9,[]),(.y 25 21 (.ixAddr 1 (.t 23) (.t 24)),[]),(.yl 26 21 25,[]),(.my 27 21 0,[]),(.my 28 21 9,[]),(.y 29 21 (.bin .sub true 3 (.t 28) (.k 1)),[]),(.y 30 21 (.ixAddr 1 (.t 27) (.t 29)),[]),(.yl 31 21 30,[]),(.y 32 21 (.callV (.t 22) [.t 26,.t 31]),[]),(.y 33 21 (.bin .lss true 3 (.t 32) (.k 0)),[]),(.q 34 21 33,[])]) (.cond (.t 34) .skip (.exit 2))) (.seq (.block 3 (.draw [(.m 37 0,[]),(.m 38 9,[]),(.m 39 0,[]),(.m 40 9,[]),(.b 41 .sub 3 40 1,[]),(.m 42 0,[]),(.m 43 9,[]),(.b 44 .sub 3 43 1,[]),(.I 45 1 42 44,[]),(.l 46 45,[]),(.m 47 0,[]),(.m 48 9,[]),(.I 49 1 47 48,[]),(.l 50 49,[]),(.I 51 1 37 38,[]),(.S 1 51 46,[]),(.I 52 1 39 41,[]),(.S 1 52 50,[])])) (.ops [.m 35 9,.b 36 .sub 3 35 1,.m 9 36]))))))) (.ops [.m 15 8,.b 16 .add 3 15 1,.m 8 16]))))))
def r_slices_insertionSortCmpFunc_int:Nf Tryz.prog 171=some ⟨53,z0w.r,[]⟩:=Aa
def k_slices_insertionSortCmpFunc_int:z0w.ok=true:=Aa
def z1m:LC:=(.q [.K 6 20] (.q [.m 10 6,.K 7 0,.m 8 10] (.seq (.block 0 (.loop (.seq (.q [.m 11 8,.m 12 1,.c 13 .leq 3 11 12] (.cond (.t 13) .skip (.exit 0))) (.block 1 (.q [.m 14 0,.m 15 7,.m 16 8,.m 17 2,.z 18 (.w 171 [.t 14,.t 15,.t 16,.t 17])] (.q [.m 19 8,.m 7 19] (.ops [.m 20 8,.m 21 6,.c 22 .add 3 20 21,.m 8 22]))))))) (.q [.m 23 0,.m 24 7,.m 25 1,.m 26 2,.z 27 (.w 171 [.t 23,.t 24,.t 25,.t 26])] (.block 2 (.loop (.seq (.q [.m 28 6,.m 29 1,.c 30 .lss 3 28 29] (.cond (.t 30) .skip (.exit 2))) (.block 3 (.q [.m 31 6,.z 32 (.bin .mul true 3 (.k 2) (.t 31)),.K 7 0,.m 8 32] (.seq (.block 4 (.loop (.seq (.q [.m 33 8,.m 34 1,.c 35 .leq 3 33 34] (.cond (.t 35) .skip (.exit 4))) (.block 5 (.q [.m 36 0,.m 37 7,.m 38 7,.m 39 6,.c 40 .add 3 38 39,.m 41 8,.m 42 2,.z 43 (.w 172 [.t 36,.t 37,.t 40,.t 41,.t 42])] (.q [.m 44 8,.m 7 44] (.ops [.m 45 8,.m 46 6,.z 47 (.bin .mul true 3 (.k 2) (.t 46)),.c 48 .add 3 45 47,.m 8 48]))))))) (.seq (.q [.m 49 7,.m 50 6,.c 51 .add 3 49 50,.m 9 51] (.q [.m 52 9,.m 53 1,.c 54 .lss 3 52 53] (.cond (.t 54) (.ops [.m 55 0,.m 56 7,.m 57 9,.m 58 1,.m 59 2,.z 60 (.w 172 [.t 55,.t 56,.t 57,.t 58,.t 59])]) .skip))) (.ops [.m 61 6,.b 62 .mul 3 61 2,.m 6 62]))))))))))))
def r_slices_stableCmpFunc_int:Nf Tryz.prog 153=some ⟨63,z1m.r,[]⟩:=Aa
def k_slices_stableCmpFunc_int:z1m.ok=true:=Aa
def z0z:LC:=(.ops [.m 4 0,.m 5 0,.s 6 5,.m 7 1,.V 8 153 4 6 7])
def r_slices_SortStableFunc_int_int:Nf Tryz.prog 126=some ⟨9,z0z.r,[]⟩:=Aa
def k_slices_SortStableFunc_int_int:z0z.ok=true:=Aa
def zvd{a b:Int}:Td a b<0↔a<b:=by
 unfold Td;split
 ·simp;assumption
 ·split<;>simp<;>omega
section sort
variable {g : Nat} {cap : List LV} {f : Int → Int} {Q : Int → Prop} {p kv : Nat}
def ae(g:Nat)(cap:List LV)(f:Int→Int)(Q:Int→Prop)(p kv:Nat)(A:M4)(n:Nat):Prop :=
 ∀(z:List Int) (j:Nat) (x y:Int) (B:LV→M4→Prop),Q x→Q y→B (.i (Td (f x) (f y))) (A.set p (.dyn (z.map .i) n 1 kv j))→O6 (.fn g) (.i x::.i y::cap) (A.set p (.dyn (z.map .i) n 1 kv j)) B
def zd0(l:List Int)(a b:Nat)(hb:b≤l.length)(hl:l.length≤100000)(ha:a≤100000)(O:M4)(hc:ae g cap f Q p kv O l.length)(st:Nat)(hQ:∀x∈l,Q x)(hp:O[p]?=some (.dyn (l.map .i) l.length 1 kv st))(gI:LV→M4→Prop)
  (hK:∀(z:List Int) (A:Nat),z.Perm l→(∀u,(u<a∨b≤u)→gd z u=gd l u)→uh f z a b→gI (.tup []) (O.set p (.dyn (z.map .i) l.length 1 kv A))) :
  O6 (.fn 171) [.dy p kv,.i a,.i b,.fn (.func g) [] cap] O gI:=by
 refine Nd r_slices_insertionSortCmpFunc_int k_slices_insertionSortCmpFunc_int (by simp) ?_;simp[z0w];refine⟨J,?_⟩;have gg:p<O.length:=(H7.1 hp).1;have G:O=O.set p (.dyn (l.map .i) l.length 1 kv st):=by
  have:=(H7.1 hp).2;rw[←this,List.set_getElem_self]
 have P:∀x,(O.set p x)[p]?=some x:=λx=>by simp[gg]
 refine Ns (λL gD R N=>∃(i:Nat) (z:List Int) (A:Nat),gD=[]∧R=O.set p (.dyn (z.map .i) l.length 1 kv A)∧N=b-i∧a+1≤i∧(i≤b∨i=a+1)∧lk L 0=.dy p kv∧lk L 1=.i a∧lk L 2=.i b∧lk L 3=.fn (.func g) [] cap∧lk L 8=.i i∧z.Perm l∧(∀u,(u<a∨b≤u)→gd z u=gd l u)∧uh f z a i)
  (N:=b-(a+1)) ⟨a+1,l,st,rfl,G,rfl,J,J,by simp,by simp,by simp,by simp,by simp,List.Perm.refl _,λ_ _=>rfl,λu v D E F=>J⟩ ?_
 rintro N L gD R ⟨i,z,A,rfl,rfl,rfl,gE,gF,D,E,F,M,H,j,C,S⟩ Nx gj;have T:=j.length_eq;by_cases hi:b≤i
 ·have g1:¬i<b:=J
  simp[F,H,g1];exact hK z A j C λu v D gB hv=>S u v D gB J
 ·have g1:i<b:=J
  simp[F,H,g1];refine Ns (λL gD R N=>∃(B:Nat) (z:List Int) (A:Nat),gD=[]∧R=O.set p (.dyn (z.map .i) l.length 1 kv A)∧N=B-a∧a≤B∧B≤i∧lk L 0=.dy p kv∧lk L 1=.i a∧lk L 2=.i b∧lk L 3=.fn (.func g) [] cap∧lk L 8=.i i∧lk L 9=.i B∧z.Perm l∧(∀u,(u<a∨b≤u)→gd z u=gd l u)∧Ym f z a i B)
   (N:=i-a) ⟨i,z,A,rfl,rfl,rfl,J,If _,Bc,Aw,Ci,Av,Ba,by simp,j,C,zus S⟩ ?_
  rintro gK L gD R ⟨B,z,A,rfl,rfl,rfl,gG,U,D,E,F,M,H,h9,j,C,S⟩ gH V;have T:=j.length_eq;have X:∀I,lk I 0=.dy p kv→lk I 1=.i a→lk I 2=.i b→lk I 3=.fn (.func g) [] cap→lk I 8=.i ((i:Int)+1)→(B=a∨f (gd z (B-1))≤f (gd z B))→Nx I [] (O.set p (.dyn (z.map .i) l.length 1 kv A)):=λI f0 f1 f2 f3 f8 h =>
   gj _ _ _ ⟨_,J,i+1,z,A,rfl,rfl,rfl,J,J,f0,f1,f2,f3,by simp[f8],j,C,Y8 U S h⟩
  by_cases hj:B=a
  ·have g0:¬(a:Int)<B:=J
   have gC:¬a<B:=J
   simp[E,H,h9,g0,gC];exact⟨J,X _ Bc Aw Ci Av (by simp) (.inl hj)⟩
  ·have g0:a<B:=J
   have Y:=So (f:=LV.i) (U7 (l:=z) (u:=B) J);have Z:=So (f:=LV.i) (U7 (l:=z) (u:=B-1) J);have e1:((B:Int)-1).toNat=B-1:=J
   have g2:B<l.length:=J
   have g3:(1:Int)≤B:=J
   have g4:(B:Int)-1<l.length:=J
   have g5:(0:Int)≤(B:Int)-1:=J
   have gw:(-9223372036854775808≤(B:Int)-1∧(B:Int)-1<9223372036854775808):=J
   have qa:Q (gd z B):=hQ _ (j.mem_iff.1 (I8.2 ⟨B,U7 J⟩));have qb:Q (gd z (B-1)):=hQ _ (j.mem_iff.1 (I8.2 ⟨B-1,U7 J⟩));simp[D,E,M,h9,g0,P,g2,M9 Y,M9 Z,e1,g3,g4,g5,gw];refine hc z A _ _ _ qa qb ?_;by_cases K:f (gd z B)<f (gd z (B-1))
   ·have hz:Td (f (gd z B)) (f (gd z (B-1)))<0:=zvd.2 K;simp[hz,D,h9,P,g2,M9 Y,M9 Z,e1,g3,g4,g5,gw];have e2:((B-1:Nat):Int)=B-1:=J
    refine⟨J,?_⟩;rw[zu z B _ J,zu _ (B-1) _ Ab];refine⟨Ab,V _ _ _ ⟨_,J,B-1,xr z B,_,rfl,rfl,rfl,J,J,Bc,Aw,Ci,Av,Ba,by simp[e2],(Z2 J J).trans j,λu hu=>?_,Zb g0 U J S K⟩⟩;rw[zli J J,Ii J,Ii J];exact C u hu
   ·have hz:¬Td (f (gd z B)) (f (gd z (B-1)))<0:=λh=>K (zvd.1 h)
    simp[hz,H];exact⟨J,X _ Bc Aw Ci Av (by simp) (.inr J)⟩
end sort
end
section
set_option linter.unusedVariables false
def z3z:LC:=(.q [.z 4 (.move (.c .nilPtr))] (.seq (.q [.m 5 0,.N 6 5,.f 7 0 6,.f 8 0 7,.l 9 8,.m 10 1,.I 11 3 9 10,.f 12 1 11,.l 13 12] (.cond (.t 13) (.q [.m 14 0,.N 15 14,.f 16 5 15,.z 17 (.ixAddrArr 2 1 (.t 16) (.k 1)),.l 18 17,.m 4 18] .ret) .skip)) (.q [.m 19 0,.N 20 19,.f 21 5 20,.z 22 (.ixAddrArr 2 1 (.t 21) (.k 0)),.l 23 22,.m 4 23] .ret)))
def r_buffers_planner_of:Nf Tryz.prog 90=some ⟨24,z3z.r,[.tmp 4]⟩:=Aa
def z43:LC:=(.q [.K 5 0] (.seq (.draw [(.l 6 2,[]),(.N 7 6,[]),(.f 8 3 7,[]),(.l 9 8,[]),(.m 10 0,[]),(.I 11 2 9 10,[]),(.f 12 0 11,[]),(.l 13 12,[]),(.l 14 2,[]),(.N 15 14,[]),(.f 16 3 15,[]),(.l 17 16,[]),(.m 18 1,[]),(.I 19 2 17 18,[]),(.f 20 0 19,[]),(.l 21 20,[]),(.W 22 128 13 21,[]),(.m 5 22,[])]) .ret))
def r_buffers_planner_order_1:Nf Tryz.prog 127=some ⟨23,z43.r,[.tmp 5]⟩:=Aa
section stable
variable {g : Nat} {cap : List LV} {f : Int → Int} {Q : Int → Prop} {p kv : Nat}
def zqd(G:M4)(K:LV→M4→Prop)(z:K (.tup []) G):O6 (.fn 171) [.nilSl,.i 0,.i 0,.fn (.func g) [] cap] G K:=by
 refine Nd r_slices_insertionSortCmpFunc_int k_slices_insertionSortCmpFunc_int (by simp) ?_;simp[z0w];refine Ns (λA E j F=>E=[]∧j=G∧lk A 2=.i 0∧lk A 8=.i 1) (N:=0) ⟨rfl,rfl,by simp,by simp⟩ ?_;rintro F A E j ⟨rfl,rfl,B,C⟩ H D;simp[B,C];exact z
def zsz(G:M4)(K:LV→M4→Prop)(F:K (.tup []) G):O6 (.fn 126) [.nilSl,.fn (.func g) [] cap] G K:=by
 refine Nd r_slices_SortStableFunc_int_int k_slices_SortStableFunc_int_int (by simp) ?_;simp[z0z];refine Nd r_slices_stableCmpFunc_int k_slices_stableCmpFunc_int (by simp) ?_;simp[z1m];refine Ns (λj D B H=>D=[]∧B=G∧lk j 0=.nilSl∧lk j 1=.i 0∧lk j 2=.fn (.func g) [] cap∧lk j 6=.i 20∧lk j 7=.i 0∧lk j 8=.i 20) (N:=0) ⟨rfl,rfl,by simp,by simp,by simp,by simp,by simp,by simp⟩ ?_;rintro H j D B ⟨rfl,rfl,I,z,L,A,M,O⟩ R C;simp[I,z,L,A,M,O];refine zqd _ _ ?_;simp;refine Ns (λj D E H=>D=[]∧E=B∧lk j 1=.i 0∧lk j 6=.i 20) (N:=0) ⟨rfl,rfl,As,Af⟩ ?_;rintro H j D E ⟨rfl,rfl,z,A⟩ R C;simp[z,A];exact F
def ae.set{G:M4}{n:Nat}(h:ae g cap f Q p kv G n)(o:LObj):ae g cap f Q p kv (G.set p o) n:=by
 intro l' gg x y K qx qy hk;rw[List.set_set]at hk ⊢;exact h l' gg x y K qx qy hk
def ztp(l:List Int)(hl:l.length≤20)(G:M4)(hc:ae g cap f Q p kv G l.length)(st:Nat)(hQ:∀x∈l,Q x)(X:G[p]?=some (.dyn (l.map .i) l.length 1 kv st))(K:LV→M4→Prop)
  (hK:∀(A:List Int) (z:Nat),A.Perm l→uh f A 0 l.length→K (.tup []) (G.set p (.dyn (A.map .i) l.length 1 kv z))) :
  O6 (.fn 126) [.dy p kv,.fn (.func g) [] cap] G K:=by
 refine Nd r_slices_SortStableFunc_int_int k_slices_SortStableFunc_int_int (by simp) ?_;simp[z0z,X];refine Nd r_slices_stableCmpFunc_int k_slices_stableCmpFunc_int (by simp) ?_;simp[z1m];have gj:p<G.length:=(H7.1 X).1;refine Ns (λF gg M N=>gg=[]∧lk F 0=.dy p kv∧lk F 1=.i l.length∧lk F 2=.fn (.func g) [] cap∧lk F 6=.i 20∧((N=1∧M=G∧lk F 7=.i 0∧lk F 8=.i 20) ∨
   (N=0∧l.length=20∧lk F 7=.i 20∧lk F 8=.i 40∧∃A z,A.Perm l∧uh f A 0 l.length∧M=G.set p (.dyn (A.map .i) l.length 1 kv z)))) (N:=1)
  ⟨rfl,by simp,by simp,by simp,by simp,.inl ⟨rfl,rfl,by simp,by simp⟩⟩ ?_
 rintro N F gg M ⟨rfl,Y,C,Z,B,⟨rfl,rfl,h7,R⟩|⟨rfl,gD,h7,R,O,D,j,S,rfl⟩⟩ Nx I
 ·by_cases e:l.length=20
  ·have T:(20:Int)≤l.length:=J
   simp[Y,C,Z,B,h7,R,T];refine zd0 l 0 20 J J J M hc st hQ X _ λA z j _ S=>?_
   simp[B,R];exact I _ _ _ ⟨0,J,rfl,Bo,Ae,Ct,Ax,.inr ⟨rfl,e,by simp,by simp,A,z,j,by rw[e];exact S,rfl⟩⟩
  ·have T:¬(20:Int)≤l.length:=J
   simp[Y,C,Z,B,h7,R,T];refine zd0 l 0 l.length J J J M hc st hQ X _ λA z j _ S=>?_
   simp;refine Ns (λF gg U N=>gg=[]∧U=M.set p (.dyn (A.map .i) l.length 1 kv z)∧lk F 1=.i l.length∧lk F 6=.i 20) (N:=0) ⟨rfl,rfl,Ae,Ax⟩ ?_;rintro N F gg U ⟨rfl,rfl,C,B⟩ Nx I;have g2:¬(20:Int)<l.length:=J
   simp[C,B,g2];exact hK _ _ j S
 ·have T:¬(40:Int)≤l.length:=J
  have L:=j.length_eq;simp[Y,C,Z,B,h7,R,T];have gB:(G.set p (.dyn (O.map .i) l.length 1 kv D))[p]?=some (.dyn (O.map .i) O.length 1 kv D):=by rw[Ia gj,L]
  have V:=λK2=>zd0 O 20 O.length J J J (G.set p (.dyn (O.map .i) l.length 1 kv D)) (by rw[L];exact hc.set _) D (λx hx=>hQ x (j.mem_iff.1 hx)) gB K2
  simp only[L]at V;refine V _ λA z E H _=>?_
  simp;refine Ns (λF gg U N=>gg=[]∧U=G.set p (.dyn (A.map .i) l.length 1 kv z)∧lk F 1=.i l.length∧lk F 6=.i 20) (N:=0) ⟨rfl,rfl,Ae,Ax⟩ ?_;rintro N F gg U ⟨rfl,rfl,C,B⟩ Nx I;have g2:¬(20:Int)<l.length:=J
  simp[C,B,g2];refine hK _ _ (E.trans j) λu v hu gC hv=>?_
  rw[H u J,H v J];exact S u v hu gC hv
end stable
def P8(vs:List Vr)(os rs:List Ko)(ss:List Sp)(plv:LV)(s0 s1:Nat):List LV:=[.lst (Nr vs) vs.length 3,.lst (Oi os) os.length 7,.lst (Oi rs) rs.length 7,.lst (Nn ss) ss.length 2,plv,.ptr s0 0,.ptr s1 0]
section pln
variable {G : M4} {K : LV → M4 → Prop} {P pst : Nat} {vs : List Vr} {os rs : List Ko} {ss : List Sp} {plv : LV} {s0 s1 : Nat}
def zce(C:G[P]?=some (.cells (P8 vs os rs ss plv s0 s1) pst)){v:Nat}(A:v<vs.length)(k:K (.ptr (if (gv vs v).sec=true then s1 else s0) 0) G):O6 (.fn 90) [.ptr P 0,.i v] G K:=by
 refine Nd r_buffers_planner_of Aa N ?_;have B:=xd (Qp A);have z:=Ty A;have j:v*3+1<(Nr vs).length:=J
 cases D:(gv vs v).sec with
 |true =>
  rw[D]at k B;simp[z3z,C,P8,A,M9 B,z,j];exact k
 |false =>
  rw[D]at k B;simp[z3z,C,P8,A,M9 B,z,j];exact k
def zoz{cst:Nat}(B:G[P]?=some (.cells (P8 vs os rs ss plv s0 s1) pst))(C:G[j]?=some (.cells [.ptr P 0] cst)){v w:Int}(D:0≤v∧v<ss.length)(hw:0≤w∧w<ss.length)(k:K (.i (Td (gs ss v.toNat).1 (gs ss w.toNat).1)) G) :
  O6 (.fn 127) [.i v,.i w,.ptr j 0] G K:=by
 refine Nd r_buffers_planner_order_1 Aa N ?_;have z:v.toNat<ss.length:=J
 have A:w.toNat<ss.length:=J
 have E:=tq z;have F:=tq A;simp[z43,B,C,P8,D,hw,M9 E,M9 F];refine Nb (zjm (gs ss v.toNat).1 (gs ss w.toNat).1) N ?_;simp;exact k
end pln
end
section
set_option linter.unusedVariables false
def z4l:LC:=(.q [.x 1 0,.e 2] (.seq (.q [.l 5 1,.N 6 5,.f 7 0 6,.f 8 0 7,.l 9 8,.s 10 9,.K 11 0] (.block 0 (.loop (.q [.c 12 .lss 3 11 10] (.seq (.cond (.t 12) .skip (.exit 0)) (.seq (.block 1 (.q [.m 13 11,.I 14 3 9 11,.L 15 3 14,.z 4 (.alloc [(.i 0),(.bool false),(.i 0)]),.m 3 13,.S 3 4 15] (.q [.f 16 2 4,.l 17 16,.b 18 .eql 3 17 0] (.cond (.t 18) (.ops [.m 19 2,.m 20 3,.z 21 (.buildSl 1 1 [(.i 0)] [(0,1,.t 20)]),.a 22 1 19 21,.m 2 22]) .skip)))) (.ops [.b 23 .add 3 11 1,.m 11 23]))))))) (.q [.m 24 2,.z 25 (.mkFunc 127 [] [.t 1]),.W 26 126 24 25] (.q [.m 27 2,.m 2 27] .ret))))
def r_buffers_planner_order:Nf Tryz.prog 87=some ⟨28,z4l.r,[.tmp 2]⟩:=Aa
section pln
variable {G : M4} {K : LV → M4 → Prop} {P pst : Nat} {vs : List Vr} {os rs : List Ko} {ss : List Sp} {plv : LV} {s0 s1 : Nat}
def zes(hP:G[P]?=some (.cells (P8 vs os rs ss plv s0 s1) pst))(gK:vs.length≤20)(gL:ss.length=vs.length)
  (k:∀(hv:LV) (o:List Nat) (z:M4),o.Perm (Tb vs vs.length)→(o.Pairwise λv w=>(gs ss v).1≤(gs ss w).1)→Rg G.length z hv 1 o.length (o.map λ(v:Nat)=>LV.i (v:Int))→(∀x,x<G.length→z[x]?=G[x]?)→G.length≤z.length→K hv z) :
  O6 (.fn 87) [.ptr P 0] G K:=by
 refine Nd r_buffers_planner_order Aa (by simp) ?_;have gg:=(H7.1 hP).1;obtain⟨I,A⟩:∃I,I=G++[LObj.cells [.ptr P 0] 0]:=⟨_,rfl⟩;have o0:∀x,x<G.length→I[x]?=G[x]?:=λx g=>by rw[A];exact Ic g
 have l0:I.length=G.length+1:=by rw[A];simp
 have c0:I[G.length]?=some (.cells [.ptr P 0] 0):=by rw[A];simp
 have P0:=(o0 P gg).trans hP;simp[z4l];rw[←A];simp[c0,P0,P8];refine Ns (λρ gP z N=>∃(i:Nat) (v:LV),gP=[]∧N+i=vs.length∧lk ρ 1=.ptr G.length 0∧lk ρ 2=v∧lk ρ 9=.lst (Nr vs) vs.length 3∧lk ρ 10=.i vs.length∧lk ρ 11=.i i∧(∀x,x<G.length+1→z[x]?=I[x]?)∧G.length+1≤z.length∧Rg (G.length+1) z v 1 (Tb vs i).length ((Tb vs i).map λ(v:Nat)=>LV.i (v:Int)))
  (N:=vs.length) ⟨0,.nilSl,rfl,J,by simp,by simp,by simp,by simp,by simp,λ_ _=>rfl,J,Rg.nil⟩ ?_
 rintro N ρ gP z ⟨i,v,rfl,hN,O,L,h9,j,B,M,hl,hD⟩ Nx R;by_cases gI:i<vs.length
 ·have q3:=V9 (Qp gI);have S:=Ty gI;have T:(gv vs i).f=[.i (gv vs i).limbs,.bool (gv vs i).sec,.i (gv vs i).mode]:=rfl;have C:=zcz vs i;have gj:=zep vs i;generalize gv vs i=x at *;by_cases h0:x.mode=0
  ·rw[Ij h0]at C;simp[O,L,h9,j,B,gI,q3,S,T,h0];refine Rg.push (c:=1) (x:=[.i i]) hD.push_end J Ab J rfl rfl λv' G2 gB gC gD=>?_
   simp[B];refine⟨J,R _ _ _ ⟨N-1,J,i+1,v',rfl,J,Cd,by simp,by simp[h9],Au,by simp,λx g=>?_,by simp at gD;omega,?_⟩⟩
   ·rw[gC x g,Ic J];exact M x g
   ·rw[C];simpa using gB
  ·rw[Ii h0]at C;simp[O,L,h9,j,B,gI,q3,S,T,h0];refine⟨J,R _ _ _ ⟨N-1,J,i+1,v,rfl,J,Cd,Br,by simp[h9],Au,by simp,λx g=>?_,Ab,?_⟩⟩
   ·rw[Ic J];exact M x g
   ·rw[C,Jf];exact hD.push_end
 ·have gE:i=vs.length:=J
  subst gE;have gj:=zep vs vs.length;have U:∀v,v∈Tb vs vs.length→v<vs.length:=λv h=>(zbr.1 h).1
  have cG:=(M _ J).trans c0;have PG:=(M P J).trans P0;generalize hz:Tb vs vs.length=gH at *;simp[O,L,j,B];obtain⟨hd,gM,⟨rfl,hn,hL⟩|⟨q,V,st,hq,rfl,D⟩⟩:=hD
  ·refine zsz _ _ ?_;have:gH=[]:=by simpa using hL
   subst this;simp[L];exact k _ [] _ (List.Perm.refl _) List.Pairwise.nil Rg.nil (λx g=>(M x J).trans (o0 x g)) J
  ·have E:(gH.map λ(v:Nat)=>(v:Int)).length=gH.length:=by simp
   have F:z[q]?=some (.dyn ((gH.map λ(v:Nat)=>(v:Int)).map .i) (gH.map λ(v:Nat)=>(v:Int)).length 1 V st):=by rw[E,List.map_map];exact D
   have gF:=(H7.1 D).1;refine ztp (f:=λx=>(gs ss x.toNat).1) (Q:=λx=>0≤x∧x<ss.length) (gH.map λ(v:Nat)=>(v:Int)) J _ ?_ st ?_ F _ λl' gG H hs=>?_
   ·intro l2 gO x y K2 qx qy hk;refine zoz (P:=P) (vs:=vs) (os:=os) (rs:=rs) (plv:=plv) (s0:=s0) (s1:=s1) (pst:=pst) (cst:=0) ?_ ?_ qx qy hk
    ·rw[H8 J];exact PG
    ·rw[H8 J];exact cG
   ·intro x g;obtain⟨v,hv,rfl⟩:=Kh.1 g;have:=U v hv;omega
   ·obtain⟨o,rfl,X⟩:=ci H;have Y:=X.length_eq;have Z:=ac (f:=λx=>(gs ss x.toNat).1) (l:=o.map λ(v:Nat)=>(v:Int)) (by rw[J0,Y,←E];exact hs);rw[List.pairwise_map]at Z;simp[L];refine k _ o _ X (by simpa using Z) ⟨Un (λ_=>rfl) o,by simp,.inr ⟨q,V,gG,J,rfl,?_⟩⟩ (λx g=>?_) Ab
    ·rw[Ia gF,←Y];simp
    ·rw[H8 J,M x J,o0 x g]
end pln
end
section
set_option linter.unusedVariables false
def R6(l:List Nat):List LV:=l.map λ(v:Nat)=>LV.i (v:Int)
def jw(l:List Nat):(R6 l).length=l.length:=by simp[R6]
def zvt{l:List Nat}{i v:Nat}(h:l[i]?=some v):(R6 l)[i]?=some (.i v):=by simp[R6,h]
def ub(x:List Nat)(v:Nat)(y:List Nat):(x++v::y)[x.length]?=some v:=N
section delf
variable {g : Nat} {cap : List LV} {over : Nat → Bool} {I : List Nat → List Nat → M4 → Prop}
def Zp(g:Nat)(cap:List LV)(over:Nat→Bool)(rw:Option Nat)(I:List Nat→List Nat→M4→Prop):Prop :=
 ∀(x y:List Nat) (v:Nat) (z:M4) (A:LV→M4→Prop),I x (v::y) z→(∀q,rw=some q→q<z.length)→(∀j,I (if over v=true then x else x++[v]) y j→(∀q,rw=some q→j[q]?=z[q]?)→A (.bool (over v)) j)→O6 (.fn g) (.i v::cap) z A
def zp4{b:Nat}{l:List Nat}(D:N7 b F K 1 l.length (R6 l))(hl:l.length≤1000000)(U:I [] l F)(V:Zp g cap over (Rs K) I)
  (X:∀z,I l [] z→N7 b z K 1 l.length (R6 l)→P (.i (-1)) z)
  (Y:∀x v y z,l=x++v::y→over v=true→I x y z→N7 b z K 1 l.length (R6 l)→P (.i x.length) z) :
  O6 (.fn 121) [K,.fn (.func g) [] cap] F P:=by
 refine Nd r_slices_IndexFunc_int_int k_slices_IndexFunc_int_int (by simp) ?_;simp[z1l];refine D.lenL ?_;refine Ns (λR gg z N=>∃(x y:List Nat),l=x++y∧gg=[]∧N=y.length∧lk R 0=K∧lk R 1=.fn (.func g) [] cap∧lk R 7=.i l.length∧lk R 8=.i x.length∧I x y z∧N7 b z K 1 l.length (R6 l)) (N:=l.length)
  ⟨[],l,rfl,rfl,rfl,by simp,by simp,by simp,by simp,U,D⟩ ?_
 rintro N R gg z ⟨x,y,A,rfl,rfl,S,H,L,M,E,j⟩ Nx O;cases y with
 |nil =>
  have e:l=x:=Bh
  subst e;simp[L,M];exact X _ E j
 |cons v y =>
  have T:l.length=x.length+(y.length+1):=by rw[A];simp
  have Z:(x.length:Int)<l.length:=J
  simp[S,H,L,M,Z];refine j.at1 J J λa ha=>?_
  simp;refine ha _ ?_;simp only[I6];refine⟨_,zvt (by rw[A];exact ub x v y),?_⟩;simp[H];refine V x y v z _ E (λq hq=>(j.row hq).2.1) λG2 B Q=>?_
  have C:=j.frame2 Q;by_cases G:over v=true
  ·rw[Ij G]at B;simp[G];exact Y x v y _ A G B C
  ·rw[Ii G]at B;simp[G,M];refine⟨J,O _ _ _ ⟨y.length,by simp,x++[v],y,by rw[A];simp,rfl,rfl,by simp[S],Ba,Br,by simp,B,C⟩⟩
def znf{b:Nat}{l:List Nat}(gE:N7 b F K 1 l.length (R6 l))(hl:l.length≤1000000)(hI:I [] l F)(hc:Zp g cap over (Rs K) I)
  (H:∀x y F q D,Rs K=some q→I x y F→I x y (F.set q D))
  (k:∀x O B,I x [] B→N7 b B O 1 x.length (R6 x)→Rs O=Rs K→P O B) :
  O6 (.fn 88) [K,.fn (.func g) [] cap] F P:=by
 refine Nd r_slices_DeleteFunc_int_int k_slices_DeleteFunc_int_int (by simp) ?_;simp[z1i];refine zp4 gE hl hI hc (λB E j=>?_) λx v y G1 G T X C=>?_
 ·simp;exact k l _ _ E j rfl
 ·have Y:l.length=x.length+(y.length+1):=by rw[G];simp
  have Z:Rs K≠none:=by
   rcases C with ⟨rfl,L,_⟩|⟨p,k,gP,m,st,h1,h2,h3,h4,U,Q,⟨rfl,_⟩|rfl⟩
   ·omega
   ·simp[Rs]
   ·simp[Rs]
  have gx:¬((x.length:Int)=-1):=J
  simp[gx];refine⟨J,?_⟩;have gg:l.drop (l.length-y.length)=y:=by
   have e:l=(x++[v])++y:=by rw[G];simp
   rw[(Ab:l.length-y.length=(x++[v]).length),e,List.drop_left]
  refine Ns (λρ gQ B N=>∃(x y V:List Nat),gQ=[]∧N=y.length∧lk ρ 0=K∧lk ρ 1=.fn (.func g) [] cap∧lk ρ 5=.i x.length∧lk ρ 6=.i ((l.length:Int)-y.length)∧x.length+y.length<l.length∧V.length=l.length∧V.take x.length=x∧V.drop (l.length-y.length)=y∧I x y B∧N7 b B K 1 l.length (R6 V)) (N:=y.length)
   ⟨x,y,l,rfl,rfl,by simp,by simp,by simp,Ab,J,rfl,by rw[G];simp,gg,X,C⟩ ?_
  clear gg G X C T Y gx x y v;rintro N ρ gQ B ⟨x,y,V,rfl,rfl,L,h1,U,Q,gj,hL,hx,hy,E,j⟩ Nx gB;cases y with
  |nil =>
   simp at gj;have g1:¬((l.length:Int)<l.length):=J
   simp[L,Q];refine j.lenL ?_;simp[L,U];refine j.tail1 (i:=x.length) J Z (λK' R=>R) (λK' R=>R) λp gF gP m st hp hG hR z=>?_
   have A:∀D,I x [] (B.set p D):=λD=>H x [] B p D hp E
   have gM:=(H7.1 hG).1;simp[L,U,hG,hR];have gO:x.length≤V.length:=J
   have gG:(R6 V).take x.length=R6 x:=by rw[←hx];simp[R6]
   refine (z (st+1)).cut2 (m:=x.length) J (λK' R=>R) (λd K' R=>R) λv' gC gH=>?_
   simp;refine k x v' _ (A _) ?_ gH;rw[K0,Lt (by rw[Iu,jw];omega),Lr,Nat.min_self,gG]at gC;exact gC
  |cons v y =>
   simp at gj;have gI:V[l.length-(y.length+1)]?=some v:=by
    have:=congrArg (λgR=>gR[0]?) hy;simpa using this
   have gD:V.drop (l.length-y.length)=y:=by
    have:=congrArg (List.drop 1) hy;rw[J6]at this;simpa [(J:l.length-(y.length+1)+1=l.length-y.length)] using this
   have e6:(l.length:Int)-((v::y).length:Nat)=((l.length-(y.length+1):Nat):Int):=Ab
   rw[e6]at Q;have g1:((l.length-(y.length+1):Nat):Int)<l.length:=J
   simp[L,Q];refine j.lenL ?_;have g2:l.length-(y.length+1)<l.length:=J
   refine⟨λ_=>?_,λh=>absurd h J⟩;refine j.at1 J J λa ha=>?_
   simp;refine ha _ ?_;simp only[I6];refine⟨_,zvt gI,?_⟩;simp[h1];refine hc x y v B _ E (λq hq=>(j.row hq).2.1) λG2 A gK=>?_
   have z:=j.frame2 gK;by_cases T:over v=true
   ·rw[Ij T]at A;simp[T,Q];refine⟨J,gB _ _ _ ⟨y.length,by simp,x,y,V,rfl,rfl,Br,by simp[h1],Ck,Ab,J,hL,hx,gD,A,z⟩⟩
   ·rw[Ii T]at A;simp[T,L,U,Q];refine z.ixw1 J J λp gF gP m st hp hG hR M=>?_
    have gL:∀D,I (x++[v]) y (G2.set p D):=λD=>H _ _ _ p D hp A
    simp only[I6]at hR M ⊢;simp[U,Q,hG,hR];have S:(R6 V).set x.length (.i v)=R6 (V.set x.length v):=by simp[R6,Lw]
    refine⟨J,J,gB _ _ _ ⟨y.length,by simp,x++[v],y,V.set x.length v,rfl,rfl,Br,by simp[h1],by simp,Ab,Ab,by simp[hL],?_,?_,gL _,?_⟩⟩
    ·rw[Im,List.length_singleton,Mg,Mt J,hx,Ia J];simp
    ·rw[List.drop_set_of_lt J];exact gD
    ·rw[←S];exact M _ _ rfl
end delf
end
section
set_option linter.unusedVariables false
def z31:LC:=(.q [.F 4] (.seq (.draw [(.l 6 1,[]),(.N 7 6,[]),(.f 8 3 7,[]),(.l 9 8,[]),(.m 10 0,[]),(.I 11 2 9 10,[]),(.f 12 1 11,[]),(.l 13 12,[]),(.l 14 1,[]),(.N 15 14,[]),(.f 16 3 15,[]),(.l 17 16,[]),(.l 18 2,[]),(.I 19 2 17 18,[]),(.f 20 0 19,[]),(.l 21 20,[]),(.c 22 .lss 3 13 21,[]),(.m 5 22,[])]) (.seq (.q [.m 23 5] (.cond (.t 23) (.draw [(.l 24 1,[]),(.m 25 0,[]),(.l 27 1,[]),(.N 28 27,[]),(.f 29 4 28,[]),(.l 30 29,[]),(.m 31 0,[]),(.I 32 3 30 31,[]),(.L 33 3 32,[]),(.W 26 90 24 25,[(.L 33 3 32,false),(.l 30 29,false),(.l 27 1,false)]),(.W 34 91 26 33,[])]) .skip)) (.q [.m 35 5,.m 4 35] .ret))))
def r_buffers_planner_run_1:Nf Tryz.prog 89=some ⟨36,z31.r,[.tmp 4]⟩:=Aa
def fu(G:M4)(s:Nat)(g:Int)(r:Option Nat)(x:St):Prop:=∃j st,G[s]?=some (.cells [.i g,j,.i x.size] st)∧T9 G j r x.holes
def bI(b:Bool):Int:=if b=true then 1 else 0
structure PS (G:M4) (s:Bool→Nat) (r:Bool→Option Nat) (base:Int) (ps:Bool→St):Prop where
 st:∀b,fu G (s b) (base+bI b) (r b) (ps b)
 ne:s false≠s true
 rne:∀q,r false=some q→r true≠some q
section ps
variable {G G' : M4} {s : Bool → Nat} {r : Bool → Option Nat} {base : Int} {ps : Bool → St}
def PS.cell(h:PS G s r base ps)(b:Bool):∃hv st,G[s b]?=some (.cells [.i (base+bI b),hv,.i (ps b).size] st):=by
 obtain⟨hv,st,h1,_⟩:=h.st b;exact⟨hv,st,h1⟩
def PS.row(h:PS G s r base ps){b:Bool}{q:Nat}(hq:r b=some q):∃R m k st,G[q]?=some (.dyn R m 2 k st):=by
 obtain⟨hv,st,h1,h2⟩:=h.st b;rw[hq]at h2;obtain⟨gg,gj,_,h3⟩:=h2;exact⟨_,_,_,_,h3⟩
def PS.lt(h:PS G s r base ps){b:Bool}{q:Nat}(hq:r b=some q):q<G.length:=by
 obtain⟨R,m,k,st,h3⟩:=h.row hq;exact (H7.1 h3).1
def PS.slt(h:PS G s r base ps)(b:Bool):s b<G.length:=by
 obtain⟨hv,st,h1⟩:=h.cell b;exact (H7.1 h1).1
def PS.nes(h:PS G s r base ps){b c:Bool}(e:b≠c):s b≠s c:=by
 have:=h.ne;cases b<;>cases c
 ·exact absurd rfl e
 ·exact this
 ·exact this.symm
 ·exact absurd rfl e
def PS.ner(h:PS G s r base ps){b c:Bool}(e:b≠c){q:Nat}(hb:r b=some q):r c≠some q:=by
 have:=h.rne;cases b<;>cases c
 ·exact absurd rfl e
 ·exact this q hb
 ·exact λhc=>this q hc hb
 ·exact absurd rfl e
def PS.sr(h:PS G s r base ps){b c:Bool}{q:Nat}(hb:r b=some q):q≠s c:=λe=>by
 obtain⟨R,m,k,st,h3⟩:=h.row hb;obtain⟨hv,gg,h1⟩:=h.cell c;rw[e,h1]at h3;cases h3
def fu.old{q:Nat}{buf:Int}{ro:Option Nat}{x:St}(h:fu G q buf ro x)(h1:G'[q]?=G[q]?)(h2:∀y,ro=some y→G'[y]?=G[y]?):fu G' q buf ro x:=by
 obtain⟨hv,st,a,b⟩:=h;exact⟨hv,st,by rw[h1];exact a,b.old h2⟩
def PS.old(h:PS G s r base ps)(h1:∀b,G'[s b]?=G[s b]?)(h2:∀b y,r b=some y→G'[y]?=G[y]?):PS G' s r base ps :=
 ⟨λb=>(h.st b).old (h1 b) (h2 b),h.ne,h.rne⟩
def PS.push(h:PS G s r base ps)(ob:List LObj):PS (G++ob) s r base ps :=
 h.old (λb=>Ic (h.slt b)) λb y hy=>Ic (h.lt hy)
def PS.setO(h:PS G s r base ps){q:Nat}(h1:∀b,q≠s b)(h2:∀b,r b≠some q)(ob:LObj):PS (G.set q ob) s r base ps :=
 h.old (λb=>H8 (h1 b)) λb y hy=>H8 λe=>h2 b (by rw[hy,e])
def PS.cne(h:PS G s r base ps){q st:Nat}{c:List LV}(hq:G[q]?=some (.cells c st))(hc:c.length≠3):(∀b,q≠s b)∧∀b,r b≠some q:=by
 refine⟨λb e=>?_,λb e=>?_⟩
 ·obtain⟨hv,gg,h1⟩:=h.cell b;rw[e,h1]at hq;cases hq;exact hc rfl
 ·obtain⟨R,m,k,gg,h3⟩:=h.row e;rw[h3]at hq;cases hq
def PS.take{K:LV→M4→Prop}(h:PS G s r base ps)(b:Bool){n:Int}(hz:0≤(ps b).size∧(ps b).size≤1000000000)(hn:1≤n∧n≤1000000000)(hh:∀x∈(ps b).holes,0≤x.1∧x.1<x.2∧x.2≤(ps b).size)(hl:(ps b).holes.length≤1000000)
  (k:∀G',PS G' s r base (Sm ps b (Pk n (ps b)).2)→(∀x,x<G.length→x≠s b→r b≠some x→G'[x]?=G[x]?)→G.length≤G'.length→K (.agg [.i (base+bI b),.i (Pk n (ps b)).1,.i n]) G') :
  O6 (.fn 47) [.ptr (s b) 0,.i n] G K:=by
 obtain⟨hv,st,h1,h2⟩:=h.st b;have hb:HoB (ps b).holes 1000000000:=λgC hj=>by
  have:=hh _ (I8.2 ⟨gC,Xn hj⟩);omega
 refine z7n h1 h2 hz hn hb hl λG' j gg ho hlen gj gB=>?_
 refine k G' ⟨λc=>?_,h.ne,h.rne⟩ ho hlen;by_cases e:c=b
 ·subst e;rw[zbp];exact⟨j,gg,gj,gB⟩
 ·rw[zgc _ _ e];refine (h.st c).old (ho _ (h.slt c) (h.nes e) λq=>h.sr q rfl) λy hy=>ho _ (h.lt hy) (h.sr hy) (h.ner e hy)
def PS.give{K:LV→M4→Prop}(h:PS G s r base ps)(b:Bool){pb a n:Int}(ha:0≤a∧a≤1000000000)(hn:0≤n∧n≤1000000000)(hl:(ps b).holes.length≤100000)
  (k:∀G' r' (i gE:Nat),PS G' s r' base (Sm ps b ⟨jk i gE (a,a+n) (ps b).holes,(ps b).size⟩)→(∀x,x<G.length→x≠s b→r b≠some x→G'[x]?=G[x]?)→G.length≤G'.length→(∀c q,r' c=some q→r c=some q∨G.length≤q)→K (.tup []) G') :
  O6 (.fn 91) [.ptr (s b) 0,.agg [.i pb,.i a,.i n]] G K:=by
 obtain⟨hv,st,h1,h2⟩:=h.st b;refine zir h1 h2 ha hn hl λG' gg r' gj i gE ho hlen gB gC gD=>?_
 have j:∀c q,(if c=b then r' else r c)=some q→r c=some q∨G.length≤q:=λc q e=>by
  by_cases ec:c=b
  ·rw[Ij ec]at e;rw[ec];exact gD q e
  ·rw[Ii ec]at e;exact .inl e
 refine k G' (λc=>if c=b then r' else r c) i gE ⟨λc=>?_,h.ne,λq e1 e2=>?_⟩ ho hlen j
 ·by_cases e:c=b
  ·subst e;rw[zbp,Ij rfl];exact⟨gg,gj,gB,gC⟩
  ·rw[zgc _ _ e,Ii e];refine (h.st c).old (ho _ (h.slt c) (h.nes e) λq=>h.sr q rfl) λy hy=>ho _ (h.lt hy) (h.sr hy) (h.ner e hy)
 ·have f1:=j false q e1;have f2:=j true q e2;cases b with
  |false =>
   rw[Ii Ad]at e2;rcases f1 with f1|f1
   ·exact h.rne q f1 e2
   ·have:=h.lt e2;omega
  |true =>
   rw[Ii Ad]at e1;rcases f2 with f2|f2
   ·exact h.rne q e1 f2
   ·have:=h.lt e1;omega
end ps
end
section
set_option linter.unusedVariables false
def Pv(vs:List Vr)(i:Nat):Int:=(gv vs i).limbs
def Ra(vs:List Vr)(i:Nat):Bool:=(gv vs i).sec
def Uj(ss:List Sp)(i:Nat):Int:=(gs ss i).1
def Xg(ss:List Sp)(i:Nat):Int:=(gs ss i).2
def Wl(G0:M4)(s:Bool→Nat)(r0:Bool→Option Nat)(rw:Option Nat)(base:Int)(wk:Bool→Int)(vs:List Vr)(ss:List Sp)(done:List Nat)(iv:Nat→Hl)(g:Int)(x y:List Nat)(A:M4):Prop :=
 ∃r j,PS A s r base j∧Plan0 wk (Uj ss) (Xg ss) (Pv vs) (Ra vs) done (x++y) iv j g∧oj done (x++y) j∧(∀z,z<G0.length→(∀b,z≠s b)→(∀b,r0 b≠some z)→rw≠some z→A[z]?=G0[z]?)∧G0.length≤A.length∧(∀c q,r c=some q→r0 c=some q∨G0.length≤q)
def mf(s:Bool→Nat)(c:Bool):(if c=true then s true else s false)=s c:=by cases c<;>rfl
section run
variable {G0 : M4} {P pst pc cst vc vst : Nat} {vs : List Vr} {os rs : List Ko} {ss : List Sp} {pl ver plst : Nat} {pls : List Pc} {s : Bool → Nat} {r0 : Bool → Option Nat} {ps0 : Bool → St} {rw : Option Nat} {base : Nat} {wk : Bool → Int} {done : List Nat} {iv : Nat → Hl} {v : Nat}
def Zo(gE:G0[P]?=some (.cells (P8 vs os rs ss (.dy pl ver) (s false) (s true)) pst))(gF:G0[pc]?=some (.cells [.ptr P 0] cst))(gG:G0[vc]?=some (.cells [.i v] vst))(j:G0[pl]?=some (.dyn (Oc pls) vs.length 3 ver plst))
  (A:PS G0 s r0 base ps0) (I:∀q,rw=some q→∃gR m k st,G0[q]?=some (.dyn gR m 1 k st)) (hv:v<vs.length) (gV:ss.length=vs.length) (K:∀w∈done,base≤w∧w<vs.length) (gS:pls.length=vs.length)
  (gH:∀w∈done,Of pls w=S8 base iv (Pv vs) (Ra vs) w) (U:∀w∈done,1≤Pv vs w) (gX:wk false+wk true+(done.map (Pv vs)).sum≤1000000) (gY:done.length≤1000) (gZ:vs.length≤1000) :
  Zp 89 [.ptr pc 0,.ptr vc 0] (λw=>decide (Xg ss w<Uj ss v)) rw (Wl G0 s r0 rw base wk vs ss done iv (Uj ss v)):=by
 rintro x y w gU jF ⟨r,ps,V,g,D,X,Y,L⟩ Z k;have B:∀F,F<G0.length→(∀b,F≠s b)→(∀b,r0 b≠some F)→rw≠some F→gU[F]?=G0[F]?:=X;have z:∀(F:Nat) (c:List LV) (st:Nat),G0[F]?=some (LObj.cells c st)→c.length≠3→gU[F]?=some (LObj.cells c st):=λF c st G hc=>by
  obtain⟨n1,n2⟩:=A.cne G hc;rw[B F (H7.1 G).1 n1 n2 λe=>?_]
  ·exact G
  ·obtain⟨gR,m,k,gI,C⟩:=I F e;rw[C]at G;cases G
 have hP:=z _ _ _ gE (by simp[P8]);have hc:=z _ _ _ gF N;have M:=z _ _ _ gG N;have O:gU[pl]?=some (.dyn (Oc pls) vs.length 3 ver plst):=by
  rw[B pl (H7.1 j).1 (λb e=>?_) (λb e=>?_) λe=>?_]
  ·exact j
  ·obtain⟨hv,st,T⟩:=A.cell b;rw[e,T]at j;cases j
  ·obtain⟨gR,m,k,st,C⟩:=A.row e;rw[C]at j;cases j
  ·obtain⟨gR,m,k,st,C⟩:=I pl e;rw[C]at j;cases j
 have E:w∈done:=g.sub w N;obtain⟨g8,hw⟩:=K w E;have gw:w<ss.length:=J
 have Q:v<ss.length:=J
 have q1:=zd9 gw;have q2:=tq Q;have q3:=mo (Wy (l:=pls) (n:=w) J);have q4:=Vw (l:=pls) (i:=w) J;have gg:(Of pls w).f=[.i (Of pls w).buf,.i (Of pls w).at_,.i (Of pls w).size]:=rfl;have gK:=gH w E;have g9:=U w E;have jg:=qq ss;have g5:w*2+1<(Nn ss).length:=J
 have g6:v*2<(Nn ss).length:=J
 refine Nd r_buffers_planner_run_1 Aa N ?_;by_cases R:Xg ss w<Uj ss v
 ·have S:(gs ss w).2<(gs ss v).1:=R;rw[Ij Ev,show (λw=>decide (Xg ss w<Uj ss v)) w=true by simpa using R]at k;simp[z31,hP,hc,M,O,P8,gw,Q,hw,M9 q1,M9 q2,S,q3,q4,gg];refine zce hP hw ?_;rw[mf];simp[hP,hc,M,O,P8,gw,hw,q3,q4,gg];have gj:Of pls w=⟨(base:Int)+(if Ra vs w=true then 1 else 0),(iv w).1,Pv vs w⟩:=by rw[gK,zlt J]
  rw[gj];dsimp only;have gL:=g.wide w E;have jz:=g.inn w E;have gT:=g.sz;have gB:=λb=>(g.ok b).1
  have jA:=gB false;have jB:=gB true;have jC:(ps (Ra vs w)).size≤1000000:=by cases Ra vs w<;>omega
  have gM:=D (Ra vs w);simp at gM;refine V.give (Ra vs w) J J J λG' r' i jE H gC jD gO=>?_
  simp;have gP:((iv w).1,(iv w).1+Pv vs w)=iv w:=by rw[←gL]
  rw[gP]at H;have gD:∀F,F<G0.length→(∀b,r0 b≠some F)→∀c,r c≠some F:=λF G hn c e=>by
   rcases L c F e with h|h
   ·exact hn c h
   ·omega
  refine k G' ⟨r',_,H,g.give i jE (K6 _) R,D.give _ _ _ _ _,λF G T h2 C=>?_,J,λc q hq=>?_⟩ λq hq=>?_
  ·rw[gC F J (T _) (gD F G h2 _)];exact B F G T h2 C
  ·rcases gO c q hq with h|h
   ·exact L c q h
   ·exact .inr J
  ·obtain⟨gR,m,k2,gI,C⟩:=I q hq;have gQ:=(H7.1 C).1;refine gC q (Z q hq) (λe=>?_) (gD q gQ (λb e=>?_) _)
   ·obtain⟨hv,st,T⟩:=A.cell (Ra vs w);rw[e,T]at C;cases C
   ·obtain⟨gR,m,k,st,h4⟩:=A.row e;rw[h4]at C;cases C
 ·have S:¬(gs ss w).2<(gs ss v).1:=R;rw[Ii Ev,show (λw=>decide (Xg ss w<Uj ss v)) w=false by simpa using R]at k;simp[z31,hP,hc,M,O,P8,gw,Q,hw,M9 q1,M9 q2,S];refine k gU ⟨r,ps,V,?_,?_,X,Y,L⟩ λ_ _=>rfl
  ·rw[I0];exact g
  ·rw[I0];exact D
def Wl.setO{x y:List Nat}{G:M4}{q:Nat}{cur:Int}{b0:Int}(gg:PS G0 s r0 b0 ps0)(hq:rw=some q)(gD:∃R m k st,G0[q]?=some (.dyn R m 1 k st))(h:Wl G0 s r0 rw b0 wk vs ss done iv cur x y G)(ob:LObj):Wl G0 s r0 rw b0 wk vs ss done iv cur x y (G.set q ob):=by
 obtain⟨r,ps,gE,gj,gB,gF,hlen,gC⟩:=h;obtain⟨R,m,k,st,h3⟩:=gD;have gG:=(H7.1 h3).1;refine⟨r,ps,gE.setO (λb e=>?_) (λb e=>?_) ob,gj,gB,λz hz h1 h2 h4=>?_,by simpa using hlen,gC⟩
 ·obtain⟨hv,st,h1⟩:=gg.cell b;rw[e,h1]at h3;cases h3
 ·rcases gC b q e with h|h
  ·obtain⟨R,m,k,st,h4⟩:=gg.row h;rw[h4]at h3;cases h3
  ·omega
 ·rw[H8 (λe=>h4 (by rw[hq,e]))];exact gF z hz h1 h2 h4
end run
end
section
set_option linter.unusedVariables false
def z61:LC:=(.q [.x 1 0] (.q [.e 2] (.q [.l 5 1,.w 6 87 5,.s 7 6,.K 8 0] (.block 0 (.loop (.q [.c 9 .lss 3 8 7] (.seq (.cond (.t 9) .skip (.exit 0)) (.seq (.block 1 (.q [.I 10 1 6 8,.l 11 10,.z 4 (.alloc [(.i 0)]),.S 1 4 11] (.q [.m 12 2,.z 13 (.mkFunc 89 [] [.t 1,.t 4]),.W 14 88 12 13,.m 2 14] (.seq (.draw [(.l 15 1,[]),(.N 16 15,[]),(.f 17 4 16,[]),(.l 18 17,[]),(.l 19 4,[]),(.l 20 1,[]),(.l 21 4,[]),(.l 23 1,[]),(.N 24 23,[]),(.f 25 0 24,[]),(.f 26 0 25,[]),(.l 27 26,[]),(.l 28 4,[]),(.I 29 3 27 28,[]),(.f 30 0 29,[]),(.l 31 30,[]),(.W 22 90 20 21,[(.l 31 30,false),(.l 28 4,false),(.l 27 26,false),(.l 23 1,false),(.l 19 4,false),(.l 18 17,false),(.l 15 1,false)]),(.W 32 47 22 31,[(.l 19 4,false),(.l 18 17,false),(.l 15 1,false)]),(.I 33 3 18 19,[]),(.S 3 33 32,[])]) (.ops [.m 34 2,.l 35 4,.z 36 (.buildSl 1 1 [(.i 0)] [(0,1,.t 35)]),.a 37 1 34 36,.m 2 37]))))) (.ops [.b 38 .add 3 8 1,.m 8 38])))))))))
def r_buffers_planner_run:Nf Tryz.prog 48=some ⟨39,z61.r,[]⟩:=Aa
def Rg.toStD{b:Nat}{G:M4}{v:LV}{n:Nat}{l:List LV}(h:Rg b G v 1 n l):N7 b G v 1 n l:=by
 obtain⟨h1,h2,⟨rfl,rfl,rfl⟩|⟨p,k,st,hb,rfl,hp⟩⟩:=h
 ·exact N7.nil
 ·exact N7.dy hb hp h2 h1
section run
variable {G : M4} {P pst : Nat} {vs : List Vr} {os rs : List Ko} {ss : List Sp} {pl ver plst : Nat} {pls : List Pc} {s : Bool → Nat} {base : Nat} {wk : Bool → Int} {K : LV → M4 → Prop}
def zia(hP:G[P]?=some (.cells (P8 vs os rs ss (.dy pl ver) (s false) (s true)) pst))(jQ:G[pl]?=some (.dyn (Oc pls) vs.length 3 ver plst))(zA:PS G s (λ_=>none) base (λb=>⟨[],wk b⟩))
  (zB:vs.length≤20) (jR:ss.length=vs.length) (jS:pls.length=vs.length) (zC:∀b,1≤wk b) (gD:∀v,v<vs.length→((gv vs v).mode=0↔base≤v)) (gE:∀v,v<vs.length→1≤Pv vs v∧Pv vs v≤100000)
  (z8:wk false+wk true+((Tb vs vs.length).map (Pv vs)).sum≤1000000) (jT:∀i,i<base→i<vs.length→Of pls i=⟨i,0,Pv vs i⟩)
  (k:∀F iv ps done z gj r g,Plan0 wk (Uj ss) (Xg ss) (Pv vs) (Ra vs) done z iv ps gj→done.Perm (Tb vs vs.length)→PS F s r base ps→F[pl]?=some (.dyn (Oc (Uc vs base iv)) vs.length 3 ver g) →
   (∀C,C<G.length→(∀b,C≠s b)→C≠pl→F[C]?=G[C]?)→G.length≤F.length→(∀c q,r c=some q→G.length≤q)→K (.tup []) F) :
  O6 (.fn 48) [.ptr P 0] G K:=by
 refine Nd r_buffers_planner_run Aa (by simp) ?_;have zD:=(H7.1 hP).1;have jU:=(H7.1 jQ).1;obtain⟨G0,gF⟩:∃G0,G0=G++[LObj.cells [.ptr P 0] 0]:=⟨_,rfl⟩;have o0:∀x,x<G.length→G0[x]?=G[x]?:=λx hx=>by rw[gF];exact Ic hx
 have l0:G0.length=G.length+1:=by rw[gF];simp
 have c0:G0[G.length]?=some (.cells [.ptr P 0] 0):=by rw[gF];simp
 have P0:=(o0 P zD).trans hP;have zE:=(o0 pl jU).trans jQ;have jV:PS G0 s (λ_=>none) base (λb=>⟨[],wk b⟩):=by rw[gF];exact zA.push _
 simp[z61];rw[←gF];refine zes P0 zB jR λhv o G1 B gG hD o1 l1=>?_
 have P1:=(o1 P J).trans P0;have c1:=(o1 G.length J).trans c0;have jz:=(o1 pl J).trans zE;have jA:PS G1 s (λ_=>none) base (λb=>⟨[],wk b⟩):=jV.old (λb=>o1 _ (jV.slt b)) λb y hy=>by cases hy
 have hO:N7 G0.length G1 hv 1 o.length (R6 o):=Rg.toStD hD;have gH:∀w∈o,base≤w∧w<vs.length:=λw hw=>by
  obtain⟨D,h2⟩:=zbr.1 (B.mem_iff.1 hw);exact⟨(gD w D).1 h2,D⟩
 have zG:o.Nodup:=B.nodup_iff.2 (zm2 _ _);have z9:o.length≤20:=by
  have:=B.length_eq;have:=zep vs vs.length;omega
 have gX:∀t,wk false+wk true+((o.take t).map (Pv vs)).sum≤1000000:=λt=>by
  have e:=zr7 (B.map (Pv vs));have:=zp0 (l:=o.map (Pv vs)) (λx hx=>by
   obtain⟨w,hw,rfl⟩:=Kh.1 hx;have:=(gE w (gH w hw).2).1;omega) t
  rw[←L0]at this;omega
 obtain⟨gI,jB⟩:∃gI,∀w∈o,gI≤Uj ss w:=by
  cases o with
  |nil=>exact⟨0,by simp⟩
  |cons w o' =>
   refine⟨Uj ss w,λx hx=>?_⟩;rcases Ik.1 hx with rfl|hx
   ·exact K6 _
   ·exact (Jy.1 gG).1 x hx
 simp;refine hO.lenL ?_;refine Ns (λρ AK F N=>∃(t:Nat) (z:List Nat) (bv:LV) (r:Bool→Option Nat) (ps:Bool→St) (iv:Nat→Hl) (j:List Pc) (g:Nat) (gj:Int),AK=[]∧N+t=o.length∧lk ρ 1=.ptr G.length 0∧lk ρ 2=bv∧lk ρ 6=hv∧lk ρ 7=.i o.length∧lk ρ 8=.i t ∧
   N7 G1.length F bv 1 z.length (R6 z)∧PS F s r base ps∧Plan0 wk (Uj ss) (Xg ss) (Pv vs) (Ra vs) (o.take t) z iv ps gj∧(∀w∈o.drop t,gj≤Uj ss w)∧oj (o.take t) z ps ∧
   (∀C,C<G1.length→(∀b,C≠s b)→C≠pl→F[C]?=G1[C]?)∧G1.length≤F.length∧(∀c q,r c=some q→G1.length≤q)∧F[pl]?=some (.dyn (Oc j) vs.length 3 ver g)∧j.length=vs.length ∧
   (∀i,i<vs.length→(i<base∨i∈o.take t)→Of j i=S8 base iv (Pv vs) (Ra vs) i))
  (N:=o.length) ⟨0,[],.nilSl,λ_=>none,λb=>⟨[],wk b⟩,λ_=>(0,0),pls,plst,gI,rfl,rfl,by simp,by simp,by simp,by simp,by simp,N7.nil,jA,ztz zC,jB,λs=>by simp,λ_ _ _ _=>rfl,If _,λc q H=>(by cases H),jz,jS,λi hi h=>?_⟩ ?_
 ·rcases h with h|h
  ·rw[jT i h hi,zp8 J]
  ·simp at h
 rintro N ρ AK F ⟨t,z,bv,r,ps,iv,j,g,gj,rfl,hN,D,h2,h6,h7,h8,hB,gY,S,jX,gZ,gK,Ag,jC,gL,T,gP⟩ Nx zH;have jY:=λ(C:Nat) (c:List LV) (st:Nat) (E:G1[C]?=some (LObj.cells c st)) (hc:c.length≠3)=>jA.cne E hc
 have jZ:∀(C:Nat) (c:List LV) (st:Nat),G1[C]?=some (LObj.cells c st)→C≠pl:=λC c st E e=>by rw[e,jz]at E;cases E
 have P':=(gK P J (jY _ _ _ P1 (by simp[P8])).1 (jZ _ _ _ P1)).trans P1;have c':=(gK G.length J (jY _ _ _ c1 (by simp)).1 (jZ _ _ _ c1)).trans c1;by_cases zX:t<o.length
 case neg =>
  have e:t=o.length:=J
  subst e;simp[h7,h8];rw[Ls]at S gP;have zI:j=Uc vs base iv:=jv (by rw[T,m9]) λi hi=>by
   rw[zi7 J];have jD:i<vs.length:=J
   refine gP i jD ?_;by_cases q:i<base
   ·exact .inl q
   ·exact .inr (B.mem_iff.2 (zbr.2 ⟨jD,(gD i jD).2 J⟩))
  rw[zI]at gL;refine k F iv ps o z gj r g S B gY gL (λC E D h2=>?_) J λc q H=>by have:=jC c q H;omega
  rw[gK C J D h2,o1 C J,o0 C E]
 have jE:o[t]?=some o[t]:=Ib zX;obtain⟨v,gQ⟩:∃v,v=o[t]:=⟨_,rfl⟩;rw[←gQ]at jE;have zK:v∈o:=by rw[gQ];exact Km zX
 obtain⟨Aj,Q⟩:=gH v zK;have zL:N7 G0.length F hv 1 o.length (R6 o):=hO.frame2 λq H=>by
  obtain⟨a1,a2,jg,m,k2,gR,U⟩:=hO.row H;refine gK q a2 (λb e=>?_) λe=>?_
  ·obtain⟨hv,st,D⟩:=jA.cell b;rw[e,D]at U;cases U
  ·rw[e,jz]at U;cases U
 simp[h6,h7,h8,zX];refine zL.at1 J J λa ha=>?_
 simp;refine ha _ ?_;simp only[I6];refine⟨_,zvt jE,?_⟩;simp[D,h2];obtain⟨G2,gB⟩:∃G2,G2=F++[LObj.cells [.i v] 1]:=⟨_,rfl⟩;have o2:∀x,x<F.length→G2[x]?=F[x]?:=λx hx=>by rw[gB];exact Ic hx
 have l2:G2.length=F.length+1:=Do
 have v2:G2[F.length]?=some (.cells [.i v] 1):=Do
 have P2:=(o2 P J).trans P';have c2:=(o2 G.length J).trans c';have M:=(o2 pl J).trans gL;have gC:PS G2 s r base ps:=by rw[gB];exact gY.push _
 have jF:N7 G1.length G2 bv 1 z.length (R6 z):=by rw[gB];exact hB.push_end
 have gS:∀q,Rs bv=some q→∃jg m k st,G2[q]?=some (.dyn jg m 1 k st):=λq H=>(jF.row H).2.2
 rw[←gB];have jG:∀w∈o.take t,base≤w∧w<vs.length:=λw hw=>gH w (Lm hw)
 have j4:v∈o.drop t:=by rw[Iz zX,←gQ];simp
 have Az:z.length≤20:=by
  have:=gZ false;rw[Iu]at this;omega
 have zM:v ∉ o.take t:=λhm=>by
  have:=Jr t o ▸ zG;exact (List.nodup_append.1 this).2.2 v hm v j4 rfl
 refine znf (over:=λw=>decide (Xg ss w<Uj ss v)) (I:=Wl G2 s r (Rs bv) base wk vs ss (o.take t) iv (Uj ss v)) jF J
  ⟨r,ps,gC,S.raise (jX v j4),gZ,λ_ _ _ _ _=>rfl,If _,λ_ _ h=>.inl h⟩
  (Zo P2 c2 v2 M gC gS Q jR jG T (λw hw=>gP w (jG w hw).2 (.inr hw)) (λw hw=>(gE w (jG w hw).2).1) (gX t) Cc J)
  (λx y G q ob H h=>Wl.setO gC H (gS q H) h ob) λx gT G3 zO jH zY=>?_
 obtain⟨r3,V,L,A,X,gM,AA,j5⟩:=zO;rw[Jf]at A X;have O:∀(C:Nat) (c:List LV) (st:Nat),G2[C]?=some (LObj.cells c st)→c.length≠3→G3[C]?=some (LObj.cells c st):=λC c st E hc=>by
  obtain⟨n1,n2⟩:=gC.cne E hc;rw[gM C (H7.1 E).1 n1 n2 λe=>?_]
  ·exact E
  ·obtain⟨jg,m,k,gR,h3⟩:=gS C e;rw[h3]at E;cases E
 have P3:=O _ _ _ P2 (by simp[P8]);have c3:=O _ _ _ c2 (by simp);have v3:=O _ _ _ v2 (by simp);have jI:∀b,pl≠s b:=λb e=>by
  obtain⟨hv,st,D⟩:=gC.cell b;rw[e,D]at M;cases M
 have Y:G3[pl]?=some (.dyn (Oc j) vs.length 3 ver g):=by
  rw[gM pl (H7.1 M).1 jI (λb e=>?_) λe=>?_]
  ·exact M
  ·obtain⟨jg,m,k,st,h3⟩:=gC.row e;rw[h3]at M;cases M
  ·obtain⟨jg,m,k,st,h3⟩:=gS pl e;rw[h3]at M;cases M
 have q0:=dv (Qp Q);have AB:=Ty Q;have zZ:v*3<(Nr vs).length:=J
 obtain⟨g8,z6⟩:=gE v Q;simp[D,h2,P3,c3,v3,Y,P8,Q,M9 q0];refine zce P3 Q ?_;rw[mf];simp[D,P3,c3,v3,P8,Q,Y,M9 q0];have jK:=λb=>(A.ok b).1
 have AC:=A.sz;have zP:=gX t;have AD:=jK false;have AE:=jK true;have AF:(V (Ra vs v)).size≤1000000:=by cases Ra vs v<;>omega
 have zQ:=X (Ra vs v);rw[Iu]at zQ;have z7:=L.slt (Ra vs v);refine L.take (Ra vs v) (n:=Pv vs v) ⟨jK _,J⟩ ⟨g8,J⟩ (λx hx=>A.hole _ hx) J λG4 j6 gU AG=>?_
 have nz:∀(C:Nat) (c:List LV) (st:Nat),G3[C]?=some (LObj.cells c st)→c.length≠3→G4[C]?=some (LObj.cells c st):=λC c st E hc=>by
  obtain⟨n1,n2⟩:=L.cne E hc;rw[gU C (H7.1 E).1 (n1 _) (n2 _)];exact E
 have P4:=nz _ _ _ P3 (by simp[P8]);have c4:=nz _ _ _ c3 (by simp);have v4:=nz _ _ _ v3 (by simp);have gV:G4[pl]?=some (.dyn (Oc j) vs.length 3 ver g):=by
  rw[gU pl (H7.1 Y).1 (jI _) λe=>?_]
  ·exact Y
  ·obtain⟨jg,m,k,st,h3⟩:=L.row e;rw[h3]at Y;cases Y
 have j7:N7 G1.length G4 gT 1 x.length (R6 x):=jH.frame2 λq H=>by
  obtain⟨a1,a2,jg,m,k2,gR,U⟩:=jH.row H;refine gU q a2 (λe=>?_) λe=>?_
  ·obtain⟨hv,st,D⟩:=L.cell (Ra vs v);rw[e,D]at U;cases U
  ·obtain⟨jg,m,k,st,h3⟩:=L.row e;rw[h3]at U;cases U
 have j8:=Vw (l:=j) (i:=v) J;simp[D,P3,c3,v3,Y,P4,c4,v4,gV,P8,Q,j8];have j9:=zvp (f:=Pc.f) Pc.f_len (l:=j) (i:=v) ⟨(base:Int)+bI (Ra vs v),(Pk (Pv vs v) (V (Ra vs v))).1,Pv vs v⟩ J;rw[show Nu (Oc j) (v*3) [LV.i ((base:Int)+bI (Ra vs v)),LV.i (Pk (Pv vs v) (V (Ra vs v))).1,LV.i (Pv vs v)]=Oc (j.set v ⟨(base:Int)+bI (Ra vs v),(Pk (Pv vs v) (V (Ra vs v))).1,Pv vs v⟩) from j9];obtain⟨R,jL⟩:∃R,R=j.set v ⟨(base:Int)+bI (Ra vs v),(Pk (Pv vs v) (V (Ra vs v))).1,Pv vs v⟩:=⟨_,rfl⟩;rw[←jL];have jM:=(H7.1 gV).1;obtain⟨G5,gO⟩:∃G5,G5=G4.set pl (.dyn (Oc R) vs.length 3 ver (g+1)):=⟨_,rfl⟩;have o5:∀x,x≠pl→G5[x]?=G4[x]?:=λx hx=>by rw[gO,H8 (λe=>hx e.symm)]
 have l5:G5.length=G4.length:=by rw[gO];simp
 have zR:G5[pl]?=some (.dyn (Oc R) vs.length 3 ver (g+1)):=by rw[gO];exact Ia jM
 have v5:G5[F.length]?=some (.cells [.i v] 1):=by rw[o5 _ (λe=>by rw[e,gV]at v4;cases v4)];exact v4
 have zg:N7 G1.length G5 gT 1 x.length (R6 x):=j7.frame2 λq H=>by
  obtain⟨a1,a2,jg,m,k2,gR,U⟩:=j7.row H;exact o5 q λe=>by rw[e,gV]at U;cases U
 have jO:∀c q,r3 c=some q→G1.length≤q:=λc q H=>by
  rcases j5 c q H with h|h
  ·exact jC c q h
  ·omega
 have jP:PS G5 s r3 base (Sm V (Ra vs v) (Pk (Pv vs v) (V (Ra vs v))).2):=by
  rw[gO];exact j6.setO jI (λb e=>by have:=jO b pl e;omega) _
 rw[←gO];simp[v5];have AH:x.length≤20:=J
 refine N7.push2 (x:=[.i v]) zg.push_end J Ab J rfl rfl λzS G6 zT g9 zU AI=>?_
 have zj:∀q,q<G5.length→Rs gT≠some q→G6[q]?=G5[q]?:=λq H hn=>by rw[g9 q Ab hn,Ic H]
 clear g9;simp at zU;simp[h8];have Z:∀C ob,G5[C]?=some ob→(∀jg m k st,ob≠LObj.dyn jg m 1 k st)→G6[C]?=some ob:=λC ob E hn=>by
  rw[zj C (H7.1 E).1 λe=>?_]
  ·exact E
  ·obtain⟨_,_,jg,m,k2,gR,U⟩:=zg.row e;rw[E]at U;exact hn _ _ _ _ (Option.some.inj U)
 have gg:o.take (t+1)=o.take t++[v]:=by rw[Mg,jE];rfl
 refine⟨J,zH _ _ _ ⟨N-1,J,t+1,x++[v],zS,r3,_,_,R,g+1,Uj ss v,rfl,J,Bc,by simp,Bu,Fo,by simp,?_,jP.old (λb=>?_) (λb y hy=>?_),gg ▸ A.take zM g8,λw hw=>?_,gg ▸ X.take _ _,λC E n1 n2=>?_,J,jO,Z _ _ zR D0,by rw[jL];simpa using T,λi hi h=>?_⟩⟩
 ·have e:R6 (x++[v])=R6 x++[.i v]:=by simp[R6]
  rw[e,Im];exact zT
 ·obtain⟨hv,st,D⟩:=jP.cell b;rw[D];exact Z _ _ D D0
 ·obtain⟨jg,m,k,st,D⟩:=jP.row hy;rw[D];exact Z _ _ D D0
 ·have zV:=Jr t o ▸ gG;have hd:=(Mo.1 zV).2.1;rw[Iz zX,←gQ]at hd;exact (Jy.1 hd).1 w hw
 ·have zz:∀q,Rs gT=some q→G1.length≤q:=λq H=>(jH.row H).1
  rw[zj C J (λe=>by have:=zz C e;omega),o5 C n2,gU C J (n1 _) (λe=>by have:=jO _ C e;omega),gM C J n1 (λb e=>by have:=jC b C e;omega) (λe=>by have:=(jF.row e).1;omega),o2 C J];exact gK C E n1 n2
 ·rw[jL,zpa J];by_cases e:i=v
  ·subst e;rw[Ij rfl,zlt J];simp[Xe,bI]
  ·rw[Ii e,js e];refine gP i hi ?_;rcases h with h|h
   ·exact .inl h
   ·rw[gg]at h;rcases I2.1 h with h|h
    ·exact .inr h
    ·exact absurd (Kw.1 h) e
end run
end
section
set_option linter.unusedVariables false
def z4g:LC:=(.q [.e 2] (.seq (.q [.m 6 0,.N 7 6,.f 8 0 7,.f 9 0 8,.l 10 9,.s 11 10,.K 12 0] (.block 0 (.loop (.q [.c 13 .lss 3 12 11] (.seq (.cond (.t 13) .skip (.exit 0)) (.seq (.block 1 (.q [.m 14 12,.I 15 3 10 12,.L 16 3 15,.z 4 (.alloc [(.i 0),(.bool false),(.i 0)]),.m 3 14,.S 3 4 16] (.seq (.q [.f 17 2 4,.l 18 17,.b 19 .eql 3 18 0] (.cond (.t 19) (.exit 0) .skip)) (.q [.K 5 1] (.seq (.q [.f 20 2 4,.l 21 20,.b 22 .eql 3 21 3] (.cond (.t 22) (.ops [.K 5 2]) .skip)) (.q [.m 23 2,.f 24 0 4,.l 25 24,.m 26 5,.f 27 1 4,.l 28 27,.z 29 (.build [(.i 0),(.i 0),(.bool false)] [(0,1,.t 25),(1,1,.t 26),(2,1,.t 28)]),.z 30 (.buildSl 3 1 [(.i 0),(.i 0),(.bool false)] [(0,3,.t 29)]),.a 31 3 23 30,.m 2 31] (.draw [(.m 32 0,[]),(.N 33 32,[]),(.f 34 4 33,[]),(.l 35 34,[]),(.m 36 3,[]),(.m 37 3,[]),(.f 38 0 4,[]),(.l 39 38,[]),(.z 40 (.build [(.i 0),(.i 0),(.i 0)] [(0,1,.t 37),(2,1,.t 39)]),[]),(.I 41 3 35 36,[]),(.S 3 41 40,[])]))))))) (.ops [.b 42 .add 3 12 1,.m 12 42]))))))) (.q [.m 43 2,.m 2 43] .ret)))
def r_buffers_planner_params:Nf Tryz.prog 46=some ⟨44,z4g.r,[.tmp 2]⟩:=Aa
def Te(vs:List Vr)(n:Nat):List Bf:=(List.range n).map λi=>Q2 (gv vs i)
def zst(vs:List Vr)(n:Nat):Te vs (n+1)=Te vs n++[Q2 (gv vs n)]:=by simp[Te,Mq]
def zhi(a b:List Bf):Om (a++b)=Om a++Om b:=by simp[Om]
section par
variable {G : M4} {P pst : Nat} {vs : List Vr} {os rs : List Ko} {ss : List Sp} {pl ver plst : Nat} {pls : List Pc} {s0 s1 : LV} {base : Nat} {K : LV → M4 → Prop}
def zee(hP:G[P]?=some (.cells [.lst (Nr vs) vs.length 3,.lst (Oi os) os.length 7,.lst (Oi rs) rs.length 7,.lst (Nn ss) ss.length 2,.dy pl ver,s0,s1] pst))(gB:G[pl]?=some (.dyn (Oc pls) vs.length 3 ver plst))(gG:pls.length=vs.length)
  (gC:∀v,v<vs.length→((gv vs v).mode=0↔base≤v)) (gO:base≤vs.length) (gR:vs.length≤100000)
  (k:∀hv B g j,N7 G.length B hv 3 base (Om (Te vs base))→B[pl]?=some (.dyn (Oc g) vs.length 3 ver j)→g.length=vs.length→(∀i,i<base→Of g i=⟨i,0,Pv vs i⟩)→(∀A,A<G.length→A≠pl→B[A]?=G[A]?)→G.length≤B.length→K hv B) :
  O6 (.fn 46) [.ptr P 0] G K:=by
 refine Nd r_buffers_planner_params Aa (by simp) ?_;have T:=(H7.1 hP).1;have Q:=(H7.1 gB).1;have gD:P≠pl:=λe=>by rw[e,gB]at hP;cases hP
 simp[z4g,hP];refine Ns (λρ gU B N=>∃(i:Nat) (v:LV) (g:List Pc) (j:Nat),gU=[]∧N+i=base∧lk ρ 0=.ptr P 0∧lk ρ 2=v∧lk ρ 10=.lst (Nr vs) vs.length 3∧lk ρ 11=.i vs.length∧lk ρ 12=.i i∧N7 G.length B v 3 i (Om (Te vs i))∧B[pl]?=some (.dyn (Oc g) vs.length 3 ver j)∧g.length=vs.length∧(∀gH,gH<i→Of g gH=⟨gH,0,Pv vs gH⟩)∧(∀A,A<G.length→A≠pl→B[A]?=G[A]?)∧G.length≤B.length)
  (N:=base) ⟨0,.nilSl,pls,plst,rfl,J,by simp,by simp,by simp,by simp,by simp,N7.nil,gB,gG,λgH hj=>J,λ_ _ _=>rfl,If _⟩ ?_
 rintro N ρ gU B ⟨i,v,g,j,rfl,hN,h0,h2,U,R,S,hD,F,H,gg,ho,hl⟩ Nx gI;have P':=(ho P T gD).trans hP;have I:=(H7.1 F).1;by_cases gM:i<vs.length
 case neg =>
  have e:i=base:=J
  subst e;simp[h2,R,S,gM];exact k _ _ _ _ hD F H gg ho hl
 have q3:=V9 (Qp gM);have gE:=Ty gM;have hm:=gC i gM;have gK:=zst vs i;have gL:Pv vs i=(gv vs i).limbs:=rfl;have gF:(gv vs i).f=[.i (gv vs i).limbs,.bool (gv vs i).sec,.i (gv vs i).mode]:=rfl;generalize gv vs i=x at *;by_cases V:x.mode=0
 ·have e:i=base:=by
   have:=hm.1 V;omega
  subst e;simp[h2,U,R,S,gM,q3,gE,gF,V];exact k _ _ _ _ hD.push_end (by rw[M5 I];exact F) H gg (λA E h1=>by rw[M5 J];exact ho A E h1) Ab
 have gS:i<base:=by
  have:¬base≤i:=λq=>V (hm.2 q)
  omega
 obtain⟨G1,gj⟩:∃G1,G1=B++[LObj.cells [.i x.limbs,.bool x.sec,.i x.mode] 1]:=⟨_,rfl⟩;have o1:∀A,A<B.length→G1[A]?=B[A]?:=λA E=>by rw[gj];exact Ic E
 have l1:G1.length=B.length+1:=by rw[gj];simp
 have x1:G1[B.length]?=some (.cells [.i x.limbs,.bool x.sec,.i x.mode] 1):=by rw[gj];simp
 have P1:=(o1 P J).trans P';have gT:=(o1 pl I).trans F;have D1:N7 G.length G1 v 3 i (Om (Te vs i)):=by rw[gj];exact hD.push_end
 by_cases h3:x.mode=3
 ·simp[h2,U,R,S,gM,q3,gE,gF,V,h3];obtain⟨L,C⟩:∃L,L=B++[LObj.cells [LV.i x.limbs,LV.bool x.sec,LV.i 3] 1,LObj.dyn [LV.i x.limbs,LV.i 2,LV.bool x.sec] 1 3 0 0]:=⟨_,rfl⟩;have o2:∀A,A<B.length→L[A]?=B[A]?:=λA E=>by rw[C];exact Ic E
  have l2:L.length=B.length+2:=by rw[C];simp
  have x2:L[B.length]?=some (.cells [.i x.limbs,.bool x.sec,.i 3] 1):=by rw[C];simp
  have D2:N7 G.length L v 3 i (Om (Te vs i)):=by rw[C];exact hD.push_end
  rw[←C];refine N7.push2 (x:=[.i x.limbs,.i 2,.bool x.sec]) D2 J J J rfl rfl λv3 G3 D3 z l3 gP=>?_
  have M:∀A ob,L[A]?=some ob→(∀q,Rs v=some q→q≠A)→G3[A]?=some ob:=λA ob E hn=>by
   rw[z A (H7.1 E).1 λe=>hn A e rfl];exact E
  have D:∀A,A<G.length→Rs v≠some A:=λA E e=>by have:=(D2.row e).1;omega
  have x3:=M _ _ x2 λq hq e=>by
   obtain⟨_,_,gV,m,k2,gQ,a3⟩:=D2.row hq;rw[e,x2]at a3;cases a3
  have P3:G3[P]?=G[P]?:=Gf
  rw[hP]at P3;have X:G3[pl]?=some (.dyn (Oc g) vs.length 3 ver j):=Gi
  have O:=(H7.1 X).1;have Y:=Vw (l:=g) (i:=i) J;simp[h0,P3,x3,X,gM,Y,S];have Z:=zvp (f:=Pc.f) Pc.f_len (l:=g) (i:=i) ⟨i,0,x.limbs⟩ J;rw[show Nu (Oc g) (i*3) [LV.i (i:Int),LV.i 0,LV.i x.limbs]=Oc (g.set i ⟨i,0,x.limbs⟩) from Z];refine⟨J,gI _ _ _ ⟨N-1,J,i+1,v3,g.set i ⟨i,0,x.limbs⟩,j+1,rfl,J,F4,by simp,Ck,by simp[R],by simp,?_,Ia O,Cv,λgH hj=>?_,λA E hn=>?_,Ab⟩⟩
  ·rw[gK,zhi];have e:Om [Q2 x]=[.i x.limbs,.i 2,.bool x.sec]:=by simp[Om,Q2,Bf.f,h3]
   rw[e];exact D3.set_lt Q
  ·rw[zpa J];by_cases e:gH=i
   ·rw[Ij e,e,gL]
   ·rw[Ii e];exact gg gH J
  ·rw[H8 (λe=>hn e.symm),z A J (D A E),o2 A J];exact ho A E hn
 ·simp[h2,U,R,S,gM,q3,gE,gF,V,h3];obtain⟨L,C⟩:∃L,L=B++[LObj.cells [LV.i x.limbs,LV.bool x.sec,LV.i x.mode] 1,LObj.dyn [LV.i x.limbs,LV.i 1,LV.bool x.sec] 1 3 0 0]:=⟨_,rfl⟩;have o2:∀A,A<B.length→L[A]?=B[A]?:=λA E=>by rw[C];exact Ic E
  have l2:L.length=B.length+2:=by rw[C];simp
  have x2:L[B.length]?=some (.cells [.i x.limbs,.bool x.sec,.i x.mode] 1):=by rw[C];simp
  have D2:N7 G.length L v 3 i (Om (Te vs i)):=by rw[C];exact hD.push_end
  rw[←C];refine N7.push2 (x:=[.i x.limbs,.i 1,.bool x.sec]) D2 J J J rfl rfl λv3 G3 D3 z l3 gP=>?_
  have M:∀A ob,L[A]?=some ob→(∀q,Rs v=some q→q≠A)→G3[A]?=some ob:=λA ob E hn=>by
   rw[z A (H7.1 E).1 λe=>hn A e rfl];exact E
  have D:∀A,A<G.length→Rs v≠some A:=λA E e=>by have:=(D2.row e).1;omega
  have x3:=M _ _ x2 λq hq e=>by
   obtain⟨_,_,gV,m,k2,gQ,a3⟩:=D2.row hq;rw[e,x2]at a3;cases a3
  have P3:G3[P]?=G[P]?:=Gf
  rw[hP]at P3;have X:G3[pl]?=some (.dyn (Oc g) vs.length 3 ver j):=Gi
  have O:=(H7.1 X).1;have Y:=Vw (l:=g) (i:=i) J;simp[h0,P3,x3,X,gM,Y,S];have Z:=zvp (f:=Pc.f) Pc.f_len (l:=g) (i:=i) ⟨i,0,x.limbs⟩ J;rw[show Nu (Oc g) (i*3) [LV.i (i:Int),LV.i 0,LV.i x.limbs]=Oc (g.set i ⟨i,0,x.limbs⟩) from Z];refine⟨J,gI _ _ _ ⟨N-1,J,i+1,v3,g.set i ⟨i,0,x.limbs⟩,j+1,rfl,J,F4,by simp,Ck,by simp[R],by simp,?_,Ia O,Cv,λgH hj=>?_,λA E hn=>?_,Ab⟩⟩
  ·rw[gK,zhi];have e:Om [Q2 x]=[.i x.limbs,.i 1,.bool x.sec]:=by simp[Om,Q2,Bf.f,h3]
   rw[e];exact D3.set_lt Q
  ·rw[zpa J];by_cases e:gH=i
   ·rw[Ij e,e,gL]
   ·rw[Ii e];exact gg gH J
  ·rw[H8 (λe=>hn e.symm),z A J (D A E),o2 A J];exact ho A E hn
end par
end
section
set_option linter.unusedVariables false
def za1:LC:=(.q [.x 1 0,.z 2 (.alloc [.nilSl,.nilSl,(.i 0),(.i 0),(.i 0),(.i 0),(.i 0),(.i 0)]),.K 3 0] (.seq (.q [.L 15 3 1,.w 16 43 15,.m 4 16] (.q [.m 17 4,.b 18 .neq 35 17 0] (.cond (.t 18) (.q [.z 19 (.build [.nilSl,.nilSl,(.i 0),(.i 0),(.i 0),(.i 0),(.i 0),(.i 0)] []),.m 20 4,.S 8 2 19,.m 3 20] .ret) .skip))) (.q [.L 22 3 1,.w 23 44 22,.m 21 23,.X 24 0 21,.X 25 1 21,.z 5 (.alloc [(.i 0),(.i 0)]),.S 2 5 24,.m 6 25] (.q [.z 26 (.ixAddrArr 2 1 (.t 5) (.k 0)),.l 27 26,.z 28 (.ixAddrArr 2 1 (.t 5) (.k 1)),.l 29 28,.c 30 .add 3 27 29,.m 7 30] (.seq (.q [.f 31 0 1,.l 32 31,.s 33 32,.K 34 0] (.block 0 (.loop (.q [.c 35 .lss 3 34 33] (.seq (.cond (.t 35) .skip (.exit 0)) (.seq (.block 1 (.q [.I 36 3 32 34,.L 37 3 36,.z 9 (.alloc [(.i 0),(.bool false),(.i 0)]),.S 3 9 37] (.q [.f 38 2 9,.l 39 38,.b 40 .eql 3 39 0] (.cond (.t 40) (.ops [.m 41 7,.f 42 0 9,.l 43 42,.c 44 .add 3 41 43,.m 7 44]) .skip)))) (.ops [.b 45 .add 3 34 1,.m 34 45]))))))) (.seq (.q [.m 46 6,.z 47 (.un .not (.t 46)),.m 48 47,.mn 49 48 7,.nb 50 48 .gtr 3 49 65536,.p 51 48 50] (.cond (.t 51) (.q [.z 52 (.build [.nilSl,.nilSl,(.i 0),(.i 0),(.i 0),(.i 0),(.i 0),(.i 0)] []),.S 8 2 52,.K 3 10] .ret) .skip)) (.seq (.draw [(.L 53 3 1,[]),(.L 54 3 1,[]),(.f 56 0 1,[]),(.l 57 56,[]),(.s 58 57,[]),(.z 59 (.mkSl 3 [(.i 0),(.i 0),(.i 0)] (.t 58) (.t 58)),[(.l 57 56,false),(.L 54 3 1,false),(.L 53 3 1,false)]),(.w 55 45 54,[(.z 59 (.mkSl 3 [(.i 0),(.i 0),(.i 0)] (.t 58) (.t 58)),true),(.l 57 56,false),(.L 53 3 1,false)]),(.z 60 (.build [.nilSl,.nilSl,.nilSl,.nilSl,.nilSl,.nilPtr,.nilPtr] [(0,3,.t 53),(3,1,.t 55),(4,1,.t 59)]),[]),(.x 61 60,[(.z 59 (.mkSl 3 [(.i 0),(.i 0),(.i 0)] (.t 58) (.t 58)),true),(.l 57 56,false),(.L 53 3 1,false)]),(.m 10 61,[])]) (.q [.m 62 10,.w 63 46 62,.z 64 (.build [.nilSl,.nilSl,(.i 0),(.i 0),(.i 0),(.i 0),(.i 0),(.i 0)] [(0,1,.t 63)]),.z 11 (.alloc [.nilSl,.nilSl,(.i 0),(.i 0),(.i 0),(.i 0),(.i 0),(.i 0)]),.S 8 11 64] (.seq (.q [.K 65 0] (.block 2 (.loop (.q [.b 66 .lss 3 65 2] (.seq (.cond (.t 66) .skip (.exit 2)) (.seq (.block 3 (.q [.m 67 65,.m 12 67] (.seq (.draw [(.m 68 10,[]),(.m 69 12,[]),(.f 70 0 11,[]),(.l 71 70,[]),(.s 72 71,[]),(.m 73 12,[]),(.c 74 .add 3 72 73,[]),(.z 75 (.build [(.i 0),.nilSl,(.i 0)] [(0,1,.t 74)]),[]),(.x 76 75,[(.l 71 70,false)]),(.N 77 68,[]),(.f 78 5 77,[]),(.z 79 (.ixAddrArr 2 1 (.t 78) (.t 69)),[]),(.S 1 79 76,[])]) (.draw [(.m 80 12,[]),(.m 81 10,[]),(.m 82 12,[]),(.N 83 81,[]),(.f 84 5 83,[]),(.z 85 (.ixAddrArr 2 1 (.t 84) (.t 82)),[]),(.l 86 85,[]),(.m 87 12,[]),(.z 88 (.ixAddrArr 2 1 (.t 5) (.t 87)),[]),(.l 89 88,[]),(.f 91 2 11,[]),(.W 90 47 86 89,[]),(.z 92 (.ixAddrArr 2 3 (.t 91) (.t 80)),[]),(.S 3 92 90,[])])))) (.ops [.b 93 .add 3 65 1,.m 65 93]))))))) (.q [.m 94 10,.w 95 48 94] (.seq (.q [.m 96 10,.N 97 96,.f 98 5 97,.L 99 2 98,.K 100 0] (.block 4 (.loop (.q [.b 101 .lss 3 100 2] (.seq (.cond (.t 101) .skip (.exit 4)) (.seq (.block 5 (.q [.m 102 100,.z 103 (.ixArr false 2 1 (.t 99) (.t 100)),.m 13 102,.m 14 103] (.draw [(.f 104 0 11,[]),(.l 105 104,[]),(.m 106 14,[]),(.N 107 106,[]),(.f 108 2 107,[]),(.l 109 108,[]),(.m 110 13,[]),(.b 111 .eql 3 110 1,[]),(.z 112 (.build [(.i 0),(.i 0),(.bool false)] [(0,1,.t 109),(1,1,.k 3),(2,1,.t 111)]),[]),(.z 113 (.buildSl 3 1 [(.i 0),(.i 0),(.bool false)] [(0,3,.t 112)]),[(.l 109 108,false),(.l 105 104,false)]),(.a 114 3 105 113,[]),(.f 115 0 11,[]),(.S 1 115 114,[])]))) (.ops [.b 116 .add 3 100 1,.m 100 116]))))))) (.q [.m 117 10,.N 118 117,.f 119 4 118,.l 120 119,.f 121 1 11,.S 1 121 120] (.q [.L 122 8 11,.S 8 2 122,.K 3 0] .ret)))))))))))))
def r_buffers_Build:Nf Tryz.prog 8=some ⟨123,za1.r,[.cellN 2 8,.tmp 3]⟩:=Aa
def Y9(vs:List Vr)(z:List Ko)(D:List Bf)(ps:List Pc)(E F:Pc):Prop :=
 ∃(g:Nat) (f:Fr Ko) (C:Nat→Hl) (j:Bool→St) (done A:List Nat) (B:Int),Qc 0 0 vs=some g∧f.wf Qv∧z=f.flat∧Plan0 (S0 vs z).1 (Uj (Tv z (f.tops 0) 0 vs)) (Xg (Tv z (f.tops 0) 0 vs)) (Pv vs) (Ra vs) done A C j B ∧
  (∀i,g≤i→i<vs.length→i∈done)∧D=Sn vs g j∧ps=Uc vs g C∧E=Vl g (S0 vs z).1 false∧F=Vl g (S0 vs z).1 true∧(j false).size+(j true).size≤65536
def Yu(g:List Vr)(j D:List Ko)(v:LV):Prop :=
 ∃z A B C e,v=.tup [.agg (Nj z A B C),.i e]∧((e≠0∧z=[]∧A=[]∧B=⟨0,0,0⟩∧C=⟨0,0,0⟩)∨(e=0∧Ng g j D=true∧(S0 g j).2=true∧Y9 g j z A B C))
def zpg{A B:List Ko}{e:Int}(C:e≠0):∃j,Yu V A B j∧j.dat=true∧∃r,j=LV.tup r∧∃d,r=[d,LV.i e]∧∃r,d=LV.agg r∧∃d z,r=d::z∧(d=LV.nilSl∨∃g,d=LV.lst [] 0 g)∧∃d,z=[d,LV.i 0,LV.i 0,LV.i 0,LV.i 0,LV.i 0,LV.i 0]∧(d=LV.nilSl∨∃g,d=LV.lst [] 0 g) :=
 ⟨.tup [.agg (Nj [] [] ⟨0,0,0⟩ ⟨0,0,0⟩),.i e],⟨_,_,_,_,_,rfl,.inl ⟨C,rfl,rfl,rfl,rfl⟩⟩,by simp[LV.dat,dats,Qj],_,rfl,_,rfl,_,rfl,_,_,rfl,.inr ⟨3,rfl⟩,_,rfl,.inr ⟨3,rfl⟩⟩
structure Mid (vs:List Vr) (os rs:List Ko) (ss:List Sp) (P O pl b base:Nat) (hb:LV) (wk:Bool→Int) (pls:List Pc) (plst:Nat) (q0 q1:LV) (W:List LV) (G:M4):Prop where
 c1:G[1]?=some (.cells [.nilSl,.nilSl,.i 0,.i 0,.i 0,.i 0,.i 0,.i 0] 0)
 c2:G[2]?=some (.cells [.i (wk false),.i (wk true)] 1)
 cO:∃so,G[O]?=some (.cells (hb::.nilSl::W) so)
 cP:∃sp,G[P]?=some (.cells [.lst (Nr vs) vs.length 3,.lst (Oi os) os.length 7,.lst (Oi rs) rs.length 7,.lst (Nn ss) ss.length 2,.dy pl 0,q0,q1] sp)
 cpl:G[pl]?=some (.dyn (Oc pls) vs.length 3 0 plst)
 hD:N7 b G hb 3 base (Om (Te vs base))
 bO:2<O∧O<G.length
 bP:2<P∧P<O
def wq(j:M4)(z s:Nat)(g n:Int):Prop:=z<s∧∃st,j[s]?=some (.cells [.i g,.nilSl,.i n] st)
structure Mie (P O pl b:Nat) (pv:List LV) (sp s0 s1 plst:Nat) (z0 z1:Int) (b0 b1:Int) (n:Nat) (pls:List Pc) (W:List LV) (m:Nat) (L:List Bf) (G:M4):Prop where
 c1:G[1]?=some (.cells [.nilSl,.nilSl,.i 0,.i 0,.i 0,.i 0,.i 0,.i 0] 0)
 cP:G[P]?=some (.cells pv sp)
 cs0:∃h st,G[s0]?=some (.cells [.i b0,h,.i z0] st)
 cs1:∃h st,G[s1]?=some (.cells [.i b1,h,.i z1] st)
 cpl:G[pl]?=some (.dyn (Oc pls) n 3 0 plst)
 cO:∃hv so,G[O]?=some (.cells (hv::.nilSl::W) so)∧N7 b G hv 3 m (Om L)
 bO:2<P∧P<O∧O<s0∧O<s1
 bl:pl<b
def z9f(vs:List Vr)(B C:List Ko)(AG:vs.length≤20):FnW Tryz.prog 8 [.agg (M3 vs B C)] (Yu vs B C):=by
 have zE:dats (M3 vs B C)=true:=Ai
 refine FnW.mk (Nd r_buffers_Build Aa (by simp) ?_);have jQ:(M3 vs B C).length=3:=rfl;have jR:(M3 vs B C).take 3=M3 vs B C:=rfl;simp[za1,jQ,jR];refine Nb (ny vs B C J) (bors_self _ (by simp[dats,LV.dat,zE])) ?_;cases hc:Ng vs B C with
 |false =>
  simp[N3,hc];exact zpg (e:=2) Ad
 |true =>
 obtain⟨f,zG,zH,_⟩:=Yi hc;have zI:P6 vs=true:=by
  have h:=hc;unfold Ng at h;simp only[H9]at h;exact h.1
 have A1:B.length≤4096:=by
  have h:=hc;unfold Ng at h;simp only[H9,Il]at h;exact h.2.1
 obtain⟨g,jS,AZ,AH,jT⟩:=zib zI;have gj:∀v,v<vs.length→((gv vs v).mode=0↔g≤v):=λv hv=>by
  have:=jT v hv;constructor
  ·intro h0;have:¬v<g:=λq=>(this.2 q) h0
   omega
  ·intro hq;refine Decidable.byContradiction λhn=>?_
   have:=this.1 hn;omega
 have gP:∀v,v<vs.length→1≤Pv vs v∧Pv vs v≤512:=λv hv=>by
  have:=Ve zI _ (Vt hv);unfold Pv;omega
 have gI:∀b,1≤(S0 vs B).1 b:=λb=>zb0 _ _ B mz b
 have gQ:∀b,(S0 vs B).1 b≤32768:=λb=>zlg _ _ (zrw vs) B mz (λc=>by show (1:Int)≤32768;decide) b
 simp[N3,hc,jQ,jR];refine Nb (zfv vs B C J J) (bors_self _ (by simp[dats,LV.dat,zE])) ?_;obtain⟨z,gR⟩:∃z,z=(S0 vs B).1:=⟨_,rfl⟩;obtain⟨gS,jG⟩:∃gS,gS=(S0 vs B).2:=⟨_,rfl⟩;rw[←gR]at gI gQ;rw[←gR,←jG];have A2:=gI false;have A3:=gI true;have A4:=gQ false;have A5:=gQ true;simp[M3];refine⟨J,?_⟩;have zc:∀i,i≤vs.length→0≤((Tb vs i).map (Pv vs)).sum∧((Tb vs i).map (Pv vs)).sum≤i*512:=by
  intro i
  induction i with
  |zero=>intro _;simp[Tb]
  |succ i ih =>
   intro hi;have:=ih J;have:=gP i J;rw[zcz,Ju,List.sum_append];split<;>simp<;>omega
 refine Ns (λρ AF jD N=>∃(i:Nat),AF=[]∧N+i=vs.length∧lk ρ 1=.ptr 0 0∧lk ρ 2=.ptr 1 0∧lk ρ 5=.ptr 2 0∧lk ρ 6=.bool gS∧lk ρ 7=.i (z false+z true+((Tb vs i).map (Pv vs)).sum)∧lk ρ 32=.lst (Nr vs) vs.length 3∧lk ρ 33=.i vs.length∧lk ρ 34=.i i ∧
   2<jD.length∧jD[0]?=some (.cells (M3 vs B C) 0)∧jD[1]?=some (.cells [.nilSl,.nilSl,.i 0,.i 0,.i 0,.i 0,.i 0,.i 0] 0)∧jD[2]?=some (.cells [.i (z false),.i (z true)] 1))
  (N:=vs.length) ⟨0,rfl,J,by simp,by simp,by simp,by simp,by simp[Tb],by simp,by simp,by simp,by simp,Cz,by simp,by simp⟩ ?_
 rintro N ρ AF jD ⟨i,rfl,hN,h1,h2,h5,h6,h7,gT,gD,gM,A6,g0,g1,g2⟩ Nx Y;by_cases A0:i<vs.length
 ·have q3:=V9 (Qp A0);have zK:=Ty A0;have hz:=zcz vs i;have A7:=zc i J;have A8:=gP i A0;have AI:Pv vs i=(gv vs i).limbs:=rfl;have zL:(gv vs i).f=[.i (gv vs i).limbs,.bool (gv vs i).sec,.i (gv vs i).mode]:=rfl;generalize gv vs i=x at *;by_cases m0:x.mode=0
  ·rw[Ij m0]at hz;simp[h7,gT,gD,gM,A0,q3,zK,zL,m0];refine⟨J,J,Y _ _ _ ⟨N-1,J,i+1,rfl,J,by simp[h1],Cy,By,Bu,?_,by simp[gT],Fv,by simp,Ab,by rw[M5 J];exact g0,by rw[M5 J];exact g1,by rw[M5 J];exact g2⟩⟩;rw[hz];simp[AI];omega
  ·rw[Ii m0,Jf]at hz;simp[h7,gT,gD,gM,A0,q3,zK,zL,m0];exact⟨J,Y _ _ _ ⟨N-1,J,i+1,rfl,J,by simp[h1],Cy,By,Bu,by rw[hz];simp[h7],by simp[gT],Fv,by simp,Ab,by rw[M5 J];exact g0,by rw[M5 J];exact g1,by rw[M5 J];exact g2⟩⟩
 have e:i=vs.length:=J
 subst e;have A9:=zc vs.length (If _);clear Y;generalize jH:((Tb vs vs.length).map (Pv vs)).sum=zs at *;by_cases gU:gS=true∧z false+z true+zs≤65536
 case neg =>
  cases gS with
  |false =>
   simp[h2,h6,h7,gD,gM,g1];rw[Ia J];simp;exact zpg (e:=10) Ad
  |true =>
   have AK:65536<z false+z true+zs:=by
    have:¬(z false+z true+zs≤65536):=λq=>gU ⟨rfl,q⟩
    omega
   simp[h2,h6,h7,gD,gM,g1,AK];rw[Ia J];simp;exact zpg (e:=10) Ad
 obtain⟨rfl,gU⟩:=gU;have zM:¬65536<z false+z true+zs:=J
 have gV:0<jD.length:=J
 simp[h1,h2,h6,h7,gD,gM,g0,g1,zM,jQ,jR,M3,↓M5 gV];refine⟨J,?_⟩;refine Qo (z9o J hc zG zH) (by simp[dats,LV.dat,Ph,R7]) ?_;obtain⟨I,jU⟩:∃I,I=Tv B (f.tops 0) 0 vs:=⟨_,rfl⟩;rw[←jU];have gx : ∀(a b : LObj) (h : 0<(jD ++ [a, b]).length), (jD ++ [a, b])[0]'h = LObj.cells (M3 vs B C) 0 := λa b h => by
  rw[List.getElem_append_left gV];exact (H7.1 g0).2
 simp[h1,g0,gx,↓M5 gV,M3];obtain⟨gC,zO⟩:∃gC,gC=jD.length+1:=⟨_,rfl⟩;obtain⟨pl,gX⟩:∃pl,pl=jD.length:=⟨_,rfl⟩;obtain⟨z0,zP⟩:∃z0,z0=List.replicate vs.length (⟨0,0,0⟩:Pc):=⟨_,rfl⟩;have zQ:z0.length=vs.length:=by rw[zP];simp
 have zR:∀n,Ni [LV.i 0,LV.i 0,LV.i 0] n=Oc (List.replicate n (⟨0,0,0⟩:Pc)):=by
  intro n
  induction n with
  |zero=>rfl
  |succ n ih=>rw[Ni,ih,Kb];rfl
 rw[zR,←zP,←zO];obtain⟨G1,gY⟩:∃G1,G1=jD++[LObj.dyn (Oc z0) vs.length 3 0 0,LObj.cells [LV.lst (Nr vs) vs.length 3,LV.lst (Oi B) B.length 7,LV.lst (Oi C) C.length 7,LV.lst (Nn I) I.length 2,LV.dy jD.length 0,LV.nilPtr,LV.nilPtr] 0]:=⟨_,rfl⟩;rw[←gY];have o1:∀x,x<jD.length→G1[x]?=jD[x]?:=λx hx=>by rw[gY];exact Ic hx
 have l1:G1.length=jD.length+2:=by rw[gY];simp
 have AL:G1[pl]?=some (.dyn (Oc z0) vs.length 3 0 0):=by rw[gY,gX];simp
 have P1:G1[gC]?=some (.cells [LV.lst (Nr vs) vs.length 3,LV.lst (Oi B) B.length 7,LV.lst (Oi C) C.length 7,LV.lst (Nn I) I.length 2,LV.dy pl 0,LV.nilPtr,LV.nilPtr] 0):=by rw[gY,zO,gX];simp
 have a0:=(o1 0 J).trans g0;have a1:=(o1 1 J).trans g1;have a2:=(o1 2 J).trans g2;rw[←gX];refine zee P1 AL zQ gj AH J λhb G2 gO gg zS zT zU AM o2 l2=>?_
 have P2:=(o2 gC J J).trans P1;have b0:=(o2 0 J J).trans a0;have b1:=(o2 1 J J).trans a1;have b2:=(o2 2 J J).trans a2;have AO:=zS.cells;simp[-LV.cells,AO,zdq];obtain⟨O,hO⟩:∃O,O=G2.length:=⟨_,rfl⟩;have zV:=(H7.1 P2).1;have zX:=(H7.1 zT).1;have jI:Mid vs B C I gC O pl G1.length g hb z gO gg .nilPtr .nilPtr [.i 0,.i 0,.i 0,.i 0,.i 0,.i 0] (G2++[LObj.cells [hb,.nilSl,.i 0,.i 0,.i 0,.i 0,.i 0,.i 0] 1]) :=
  ⟨by rw[M5 J];exact b1,by rw[M5 J];exact b2,⟨1,by rw[hO];simp⟩,⟨0,by rw[M5 zV];exact P2⟩,by rw[M5 zX];exact zT,zS.push_end,Ab,J⟩
 rw[←hO];refine Ns (λρ AF D N=>AF=[]∧lk ρ 2=.ptr 1 0∧lk ρ 5=.ptr 2 0∧lk ρ 10=.ptr gC 0∧lk ρ 11=.ptr O 0 ∧
   ((N=2∧lk ρ 65=.i 0∧Mid vs B C I gC O pl G1.length g hb z gO gg .nilPtr .nilPtr [.i 0,.i 0,.i 0,.i 0,.i 0,.i 0] D) ∨
    (N=1∧lk ρ 65=.i 1∧∃R,wq D O R g (z false)∧Mid vs B C I gC O pl G1.length g hb z gO gg (.ptr R 0) .nilPtr [.i g,.i 0,.i (z false),.i 0,.i 0,.i 0] D) ∨
    (N=0∧lk ρ 65=.i 2∧∃R s1,R≠s1∧wq D O R g (z false)∧wq D O s1 (g+1) (z true)∧Mid vs B C I gC O pl G1.length g hb z gO gg (.ptr R 0) (.ptr s1 0) [.i g,.i 0,.i (z false),.i (g+1),.i 0,.i (z true)] D)))
  (N:=2) ⟨rfl,Cy,By,by simp,by simp,.inl ⟨rfl,by simp,jI⟩⟩ ?_
 clear h1 h2 h5 h6 h7 gT gD gM jI;rintro N ρ AF D ⟨rfl,h2,h5,K,E,⟨rfl,Z,hM⟩|⟨rfl,Z,R,jV,hM⟩|⟨rfl,Z,R,s1,zY,jV,AP,hM⟩⟩ Nx Y
 ·obtain⟨m1,m2,⟨so,P⟩,⟨sp,V⟩,j,X,bO,bP⟩:=hM;simp[K,E,Z,P,V];refine X.lenL ?_;have lO:O<D.length:=bO.2;have lP:gC<D.length:=J
  simp[↓M5 lO,↓M5 lP,P,V];refine⟨J,?_⟩;obtain⟨G3,S⟩:∃G3,G3=List.set (D++[LObj.cells [.i (g:Int),.nilSl,.i 0] 0]) gC (LObj.cells [.lst (Nr vs) vs.length 3,.lst (Oi B) B.length 7,.lst (Oi C) C.length 7,.lst (Nn I) I.length 2,.dy pl 0,(.ptr D.length 0),.nilPtr] (sp+1)):=⟨_,rfl⟩;have o3:∀x,x<D.length→x≠gC→G3[x]?=D[x]?:=λx hx hn=>by rw[S,H8 (λe=>hn e.symm),M5 hx]
  have l3:G3.length=D.length+1:=E8
  have P3:G3[gC]?=some (.cells [.lst (Nr vs) vs.length 3,.lst (Oi B) B.length 7,.lst (Oi C) C.length 7,.lst (Nn I) I.length 2,.dy pl 0,(.ptr D.length 0),.nilPtr] (sp+1)):=by rw[S];exact Ia Ab
  have s3:G3[D.length]?=some (.cells [.i (g:Int),.nilSl,.i 0] 0):=by rw[S,H8 J];simp
  have O3:=(o3 O lO J).trans P;have jX:=(o3 2 J J).trans m2;rw[←S];simp[h5,E,P3,O3,jX];refine z7n (r:=none) (H:=[]) (hv:=.nilSl) s3 ⟨rfl,rfl⟩ J J (λBB hj=>by simp at hj) (by simp) λG4 AQ jY o4 l4 s4 jZ=>?_
  obtain⟨rfl,_⟩:=jZ;have e1:(Pk (z false) ⟨[],0⟩).1=0:=rfl;have e2:(Pk (z false) ⟨[],0⟩).2.size=(z false):=by simp[Pk,Wg]
  rw[e2]at s4;have P4:=(o4 gC J J (by simp)).trans P3;have O4:=(o4 O J J (by simp)).trans O3;have j4:O<G4.length:=J
  simp[E,Z,P3,P4,O3,O4,e1];obtain⟨G5,gB⟩:∃G5,G5=List.set G4 O (LObj.cells (hb::.nilSl::[.i g,.i 0,.i (z false),.i 0,.i 0,.i 0]) (so+1)):=⟨_,rfl⟩;have o5:∀x,x≠O→G5[x]?=G4[x]?:=λx hn=>by rw[gB,H8 (λe=>hn e.symm)]
  have l5:G5.length=G4.length:=Do
  have O5:G5[O]?=some (.cells (hb::.nilSl::[.i g,.i 0,.i (z false),.i 0,.i 0,.i 0]) (so+1)):=by rw[gB];exact Ia j4
  rw[←gB];have F:∀x,x<D.length→x≠gC→x≠O→G5[x]?=D[x]?:=λx hx n1 n2=>by rw[o5 x n2,o4 x J J (by simp),o3 x hx n1]
  have gK:=(H7.1 j).1;have gE:pl≠gC:=λe=>by rw[e,V]at j;cases j
  have gF:pl≠O:=λe=>Ft
  have j5:Mid vs B C I gC O pl G1.length g hb z gO gg (.ptr D.length 0) .nilPtr [.i g,.i 0,.i (z false),.i 0,.i 0,.i 0] G5 :=
   ⟨by rw[F 1 J J J];exact m1,by rw[F 2 J J J];exact m2,⟨_,O5⟩,⟨_,by rw[o5 gC J];exact P4⟩,by rw[F pl gK gE gF];exact j,
    X.frame2 λq hq=>by
     obtain⟨_,a2,jK,m,k2,Q,L⟩:=X.row hq;exact F q a2 (λe=>by rw[e,V]at L;cases L) (λe=>Fu),J,bP⟩
  have ns:wq G5 O D.length g (z false):=⟨lO,jY,by rw[o5 _ J];exact s4⟩;exact Y _ _ _ ⟨1,J,rfl,Cy,By,Bs,Aw,.inr (.inl ⟨rfl,Ct,D.length,ns,j5⟩)⟩
 ·obtain⟨m1,m2,⟨so,P⟩,⟨sp,V⟩,j,X,bO,bP⟩:=hM;simp[K,E,Z,P,V];refine X.lenL ?_;have lO:O<D.length:=bO.2;have lP:gC<D.length:=J
  simp[↓M5 lO,↓M5 lP,P,V];refine⟨J,?_⟩;obtain⟨G3,S⟩:∃G3,G3=List.set (D++[LObj.cells [.i ((g:Int)+1),.nilSl,.i 0] 0]) gC (LObj.cells [.lst (Nr vs) vs.length 3,.lst (Oi B) B.length 7,.lst (Oi C) C.length 7,.lst (Nn I) I.length 2,.dy pl 0,(.ptr R 0),(.ptr D.length 0)] (sp+1)):=⟨_,rfl⟩;have o3:∀x,x<D.length→x≠gC→G3[x]?=D[x]?:=λx hx hn=>by rw[S,H8 (λe=>hn e.symm),M5 hx]
  have l3:G3.length=D.length+1:=E8
  have P3:G3[gC]?=some (.cells [.lst (Nr vs) vs.length 3,.lst (Oi B) B.length 7,.lst (Oi C) C.length 7,.lst (Nn I) I.length 2,.dy pl 0,(.ptr R 0),(.ptr D.length 0)] (sp+1)):=by rw[S];exact Ia Ab
  have s3:G3[D.length]?=some (.cells [.i ((g:Int)+1),.nilSl,.i 0] 0):=by rw[S,H8 J];simp
  have O3:=(o3 O lO J).trans P;have jX:=(o3 2 J J).trans m2;rw[←S];simp[h5,E,P3,O3,jX];refine z7n (r:=none) (H:=[]) (hv:=.nilSl) s3 ⟨rfl,rfl⟩ J J (λBB hj=>by simp at hj) (by simp) λG4 AQ jY o4 l4 s4 jZ=>?_
  obtain⟨rfl,_⟩:=jZ;have e1:(Pk (z true) ⟨[],0⟩).1=0:=rfl;have e2:(Pk (z true) ⟨[],0⟩).2.size=(z true):=by simp[Pk,Wg]
  rw[e2]at s4;have P4:=(o4 gC J J (by simp)).trans P3;have O4:=(o4 O J J (by simp)).trans O3;have j4:O<G4.length:=J
  simp[E,Z,P3,P4,O3,O4,e1];obtain⟨G5,gB⟩:∃G5,G5=List.set G4 O (LObj.cells (hb::.nilSl::[.i g,.i 0,.i (z false),.i (g+1),.i 0,.i (z true)]) (so+1)):=⟨_,rfl⟩;have o5:∀x,x≠O→G5[x]?=G4[x]?:=λx hn=>by rw[gB,H8 (λe=>hn e.symm)]
  have l5:G5.length=G4.length:=Do
  have O5:G5[O]?=some (.cells (hb::.nilSl::[.i g,.i 0,.i (z false),.i (g+1),.i 0,.i (z true)]) (so+1)):=by rw[gB];exact Ia j4
  rw[←gB];have F:∀x,x<D.length→x≠gC→x≠O→G5[x]?=D[x]?:=λx hx n1 n2=>by rw[o5 x n2,o4 x J J (by simp),o3 x hx n1]
  have gK:=(H7.1 j).1;have gE:pl≠gC:=λe=>by rw[e,V]at j;cases j
  have gF:pl≠O:=λe=>Ft
  have j5:Mid vs B C I gC O pl G1.length g hb z gO gg (.ptr R 0) (.ptr D.length 0) [.i g,.i 0,.i (z false),.i (g+1),.i 0,.i (z true)] G5 :=
   ⟨by rw[F 1 J J J];exact m1,by rw[F 2 J J J];exact m2,⟨_,O5⟩,⟨_,by rw[o5 gC J];exact P4⟩,by rw[F pl gK gE gF];exact j,
    X.frame2 λq hq=>by
     obtain⟨_,a2,jK,m,k2,Q,L⟩:=X.row hq;exact F q a2 (λe=>by rw[e,V]at L;cases L) (λe=>Fu),J,bP⟩
  have ns:wq G5 O D.length (g+1) (z true):=⟨lO,jY,by rw[o5 _ J];exact s4⟩;obtain⟨gZ,j6,gL⟩:=jV;have zZ:=(H7.1 gL).1;have ms:wq G5 O R g (z false):=⟨gZ,j6,by rw[F R zZ J J];exact gL⟩;exact Y _ _ _ ⟨0,J,rfl,Cy,By,Bs,Aw,.inr (.inr ⟨rfl,Ct,R,D.length,J,ms,ns,j5⟩)⟩
 ·obtain⟨m1,m2,⟨so,P⟩,⟨sp,V⟩,j,X,bO,bP⟩:=hM;obtain⟨gZ,j6,gL⟩:=jV;obtain⟨z6,AS,z7⟩:=AP;obtain⟨s,hs⟩:∃s:Bool→Nat,s=λb=>if b=true then s1 else R:=⟨_,rfl⟩
  have g8:s false=R:=by rw[hs];rfl
  have g9:s true=s1:=by rw[hs];rfl
  have z8:PS D s (λ_=>none) g (λb=>⟨[],z b⟩):=by
   refine⟨λb=>?_,by rw[g8,g9];exact zY,λq hq=>by cases hq⟩;cases b with
   |false=>exact⟨.nilSl,j6,by rw[g8];simpa [bI] using gL,rfl,rfl⟩
   |true=>exact⟨.nilSl,AS,by rw[g9];simpa [bI] using z7,rfl,rfl⟩
  have z9:D[gC]?=some (.cells (P8 vs B C I (.dy pl 0) (s false) (s true)) sp):=by rw[g8,g9];exact V
  have Ag:I.length=vs.length:=by
   rw[jU];have:∀(l:List Vr) (i:Nat),(Tv B (f.tops 0) i l).length=l.length:=by
    intro l
    induction l with
    |nil=>intro i;rfl
    |cons v l ih=>intro i;simp[Tv,ih]
   exact this vs 0
  simp[K,Z];refine zia z9 j z8 AG Ag zU gI gj (λv hv=>by have:=gP v hv;omega) (by rw[jH];omega) (λi hi Bg=>AM i hi) λG5 iv A done Aj AT r G jg jz jL jM jA Bj Bz=>?_
  have gK:=(H7.1 j).1;have gE:gC≠pl:=λe=>by rw[←e,V]at j;cases j
  have gF:O≠pl:=λe=>by rw[←e,P]at j;cases j
  have j7:∀x,x≤O→∀b,x≠s b:=λx hx b=>by cases b<;>simp only[g8,g9]<;>omega
  have P5:=(jA gC J (j7 gC J) gE).trans V;have O5:=(jA O J (j7 O J) gF).trans P;have jO:pl≠1:=λe=>by rw[e,m1]at j;cases j
  have Az:=(jA 1 J (j7 1 J) (λe=>jO e.symm)).trans m1;have AA:pl<G1.length:=J
  have D5:N7 G1.length G5 hb 3 g (Om (Te vs g)):=X.frame2 λq hq=>by
   obtain⟨a1,a2,jK,m,k2,Q,L⟩:=X.row hq;refine jA q a2 (λb e=>?_) J;obtain⟨hv,st,h1⟩:=z8.cell b;rw[e,h1]at L;cases L
  obtain⟨t0,u0,q0⟩:=jL.cell false;obtain⟨t1,u1,q1⟩:=jL.cell true;rw[g8]at q0;rw[g9]at q1;simp[K,P5];have jP:Mie gC O pl G1.length [.lst (Nr vs) vs.length 3,.lst (Oi B) B.length 7,.lst (Oi C) C.length 7,.lst (Nn I) I.length 2,.dy pl 0,.ptr R 0,.ptr s1 0] sp R s1 G (A false).size (A true).size (g+bI false) (g+bI true) vs.length (Uc vs g iv) [.i g,.i 0,.i (z false),.i (g+1),.i 0,.i (z true)] g (Te vs g) G5 :=
   ⟨Az,P5,⟨_,_,q0⟩,⟨_,_,q1⟩,jM,⟨_,_,O5,D5⟩,⟨J,J,gZ,z6⟩,AA⟩
  clear Y;refine Ns (λρ AF jD N=>AF=[]∧lk ρ 2=.ptr 1 0∧lk ρ 10=.ptr gC 0∧lk ρ 11=.ptr O 0∧lk ρ 99=.agg [.ptr R 0,.ptr s1 0] ∧
    ((N=2∧lk ρ 100=.i 0∧Mie gC O pl G1.length [.lst (Nr vs) vs.length 3,.lst (Oi B) B.length 7,.lst (Oi C) C.length 7,.lst (Nn I) I.length 2,.dy pl 0,.ptr R 0,.ptr s1 0] sp R s1 G (A false).size (A true).size (g+bI false) (g+bI true) vs.length (Uc vs g iv) [.i g,.i 0,.i (z false),.i (g+1),.i 0,.i (z true)] g (Te vs g) jD)∨(N=1∧lk ρ 100=.i 1∧Mie gC O pl G1.length [.lst (Nr vs) vs.length 3,.lst (Oi B) B.length 7,.lst (Oi C) C.length 7,.lst (Nn I) I.length 2,.dy pl 0,.ptr R 0,.ptr s1 0] sp R s1 G (A false).size (A true).size (g+bI false) (g+bI true) vs.length (Uc vs g iv) [.i g,.i 0,.i (z false),.i (g+1),.i 0,.i (z true)] (g+1) (Te vs g++[⟨(A false).size,3,false⟩]) jD)∨(N=0∧lk ρ 100=.i 2∧Mie gC O pl G1.length [.lst (Nr vs) vs.length 3,.lst (Oi B) B.length 7,.lst (Oi C) C.length 7,.lst (Nn I) I.length 2,.dy pl 0,.ptr R 0,.ptr s1 0] sp R s1 G (A false).size (A true).size (g+bI false) (g+bI true) vs.length (Uc vs g iv) [.i g,.i 0,.i (z false),.i (g+1),.i 0,.i (z true)] (g+2) (Te vs g++[⟨(A false).size,3,false⟩]++[⟨(A true).size,3,true⟩]) jD)))
   (N:=2) ⟨rfl,Cy,Bs,Aw,by simp,.inl ⟨rfl,by simp,jP⟩⟩ ?_
  clear jP h2 K E Z Az P5 O5 D5 q0 q1 m1 m2 P V z9 j X jM jA ;rintro N ρ AF G6 ⟨rfl,h2,K,E,jB,⟨rfl,M,⟨m1,V,⟨x0,y0,q0⟩,⟨x1,y1,q1⟩,j,⟨hv,so,P,X⟩,jE,jF⟩⟩|⟨rfl,M,⟨m1,V,⟨x0,y0,q0⟩,⟨x1,y1,q1⟩,j,⟨hv,so,P,X⟩,jE,jF⟩⟩|⟨rfl,M,⟨m1,V,⟨x0,y0,q0⟩,⟨x1,y1,q1⟩,j,⟨hv,so,P,X⟩,jE,jF⟩⟩⟩ Nx Y
  ·have lO:O<G6.length:=(H7.1 P).1;have lS:R<G6.length:=(H7.1 q0).1;simp[K,E,jB,M,V,P,q0,↓M5 lO,↓M5 lS];have lP:gC<G6.length:=J
   have jC:=(H7.1 j).1;refine N7.push2 (x:=[.i (A false).size,.i 3,.bool false]) X.push_end J Ab J rfl rfl λj8 G7 D7 gG l7 AU=>?_
   simp at l7;have T:∀j9 ob,G6[j9]?=some ob→(∀jK m k st,ob≠LObj.dyn jK m 3 k st)→G7[j9]?=some ob:=λj9 ob hz hn=>by
    have zg:=(H7.1 hz).1;rw[gG j9 Ab λe=>?_,M5 zg]
    ·exact hz
    ·obtain⟨_,_,jK,m,k2,Q,L⟩:=X.row e;rw[hz]at L;exact hn _ _ _ _ (Option.some.inj L)
   have nc:∀(c:List LV) (st:Nat),∀jK m k Q,LObj.cells c st≠LObj.dyn jK m 3 k Q:=λc st jK m k Q e=>Aq
   have zj:=T _ _ m1 (nc _ _);have zz:=T _ _ V (nc _ _);have gH:=T _ _ P (nc _ _);have zA:=T _ _ q0 (nc _ _);have zB:=T _ _ q1 (nc _ _);have U:G7[pl]?=some (.dyn (Oc (Uc vs g iv)) vs.length 3 0 G):=by
    rw[gG pl Ab λe=>by have:=(X.row e).1;omega,M5 jC];exact j
   have zC:=D7.cells;simp[-LV.cells,E,M,gH,zC,zdq];have zD:O<G7.length:=J
   refine Y _ _ _ ⟨1,J,rfl,Cy,Bs,Aw,by simp[jB],.inr (.inl ⟨rfl,Av,by rw[H8 J];exact zj,by rw[H8 J];exact zz,⟨x0,y0,by rw[H8 J];exact zA⟩,⟨x1,y1,by rw[H8 J];exact zB⟩,by rw[H8 (λe=>by rw[←e,gH]at U;cases U)];exact U,⟨j8,so+1,Ia zD,?_⟩,jE,jF⟩)⟩;have e:Om (Te vs g++[⟨(A false).size,3,false⟩])=Om (Te vs g)++[.i (A false).size,.i 3,.bool false]:=by rw[zhi];rfl
   rw[e];exact D7.frame2 λq hq=>by
    obtain⟨_,_,jK,m,k2,Q,L⟩:=D7.row hq;exact H8 λe=>by rw[←e,gH]at L;cases L
  ·have lO:O<G6.length:=(H7.1 P).1;have lS:s1<G6.length:=(H7.1 q1).1;simp[K,E,jB,M,V,P,q1,↓M5 lO,↓M5 lS];have lP:gC<G6.length:=J
   have jC:=(H7.1 j).1;refine N7.push2 (x:=[.i (A true).size,.i 3,.bool true]) X.push_end J Ab J rfl rfl λj8 G7 D7 gG l7 AU=>?_
   simp at l7;have T:∀j9 ob,G6[j9]?=some ob→(∀jK m k st,ob≠LObj.dyn jK m 3 k st)→G7[j9]?=some ob:=λj9 ob hz hn=>by
    have zg:=(H7.1 hz).1;rw[gG j9 Ab λe=>?_,M5 zg]
    ·exact hz
    ·obtain⟨_,_,jK,m,k2,Q,L⟩:=X.row e;rw[hz]at L;exact hn _ _ _ _ (Option.some.inj L)
   have nc:∀(c:List LV) (st:Nat),∀jK m k Q,LObj.cells c st≠LObj.dyn jK m 3 k Q:=λc st jK m k Q e=>Aq
   have zj:=T _ _ m1 (nc _ _);have zz:=T _ _ V (nc _ _);have gH:=T _ _ P (nc _ _);have zA:=T _ _ q0 (nc _ _);have zB:=T _ _ q1 (nc _ _);have U:G7[pl]?=some (.dyn (Oc (Uc vs g iv)) vs.length 3 0 G):=by
    rw[gG pl Ab λe=>by have:=(X.row e).1;omega,M5 jC];exact j
   have zC:=D7.cells;simp[-LV.cells,E,M,gH,zC,zdq];have zD:O<G7.length:=J
   refine Y _ _ _ ⟨0,J,rfl,Cy,Bs,Aw,by simp[jB],.inr (.inr ⟨rfl,Av,by rw[H8 J];exact zj,by rw[H8 J];exact zz,⟨x0,y0,by rw[H8 J];exact zA⟩,⟨x1,y1,by rw[H8 J];exact zB⟩,by rw[H8 (λe=>by rw[←e,gH]at U;cases U)];exact U,⟨j8,so+1,Ia zD,?_⟩,jE,jF⟩)⟩;have e:Om (Te vs g++[⟨(A false).size,3,false⟩]++[⟨(A true).size,3,true⟩])=Om (Te vs g++[⟨(A false).size,3,false⟩])++[.i (A true).size,.i 3,.bool true]:=by rw[zhi];rfl
   rw[e];exact D7.frame2 λq hq=>by
    obtain⟨_,_,jK,m,k2,Q,L⟩:=D7.row hq;exact H8 λe=>by rw[←e,gH]at L;cases L
  ·have lO:O<G6.length:=(H7.1 P).1;have l1:1<G6.length:=J
   have nO:O≠1:=J
   have f1:∀x,(G6.set O x)[O]?=some x:=λx=>Ia lO
   have f2:∀x,(G6.set O x)[1]?=some (.cells [.nilSl,.nilSl,.i 0,.i 0,.i 0,.i 0,.i 0,.i 0] 0):=λx=>by rw[H8 nO];exact m1
   have f3:∀x y,((G6.set O x).set 1 y)[1]?=some y:=λx y=>Ia Ab
   have fo:∀x y j9,j9≠O→j9≠1→((G6.set O x).set 1 y)[j9]?=G6[j9]?:=λx y j9 n1 n2=>by rw[H8 (λe=>n2 e.symm),H8 (λe=>n1 e.symm)]
   have AB:pl≠O:=λe=>Ft
   have AC:∀x y,N7 G1.length ((G6.set O x).set 1 y) hv 3 (g+2) (Om (Te vs g++[⟨(A false).size,3,false⟩]++[⟨(A true).size,3,true⟩])):=λx y=>X.frame2 λq hq=>by
    obtain⟨_,_,jK,m,k2,Q,L⟩:=X.row hq;exact fo x y q (λe=>Fu) (λe=>by rw[e,m1]at L;cases L)
   have AD:∀x y,((G6.set O x).set 1 y)[pl]?=some (.dyn (Oc (Uc vs g iv)) vs.length 3 0 G):=λx y=>by rw[fo x y pl AB jO];exact j
   simp[-bor,-bors,h2,K,E,jB,M,V,P,m1,f1,f2,f3];have AX:Te vs g++[⟨(A false).size,3,false⟩]++[⟨(A true).size,3,true⟩]=Sn vs g A:=by simp[Sn,Te]
   rw[AX]at AC;have AE:(Sn vs g A).length=g+2:=zbm vs g A;have BA:=jg.sz;have AY:(done.map (Pv vs)).sum=zs:=by rw[←jH];exact zr7 (jz.map _)
   refine⟨_,⟨Sn vs g A,Uc vs g iv,Vl g z false,Vl g z true,0,rfl,.inr ⟨rfl,hc,jG.symm,g,f,iv,A,done,Aj,AT,jS,zG,zH,by rw[←gR,←jU];exact jg,λi h1 h2=>jz.mem_iff.2 (zbr.2 ⟨h2,(gj i h2).2 h1⟩),rfl,rfl,by rw[←gR],by rw[←gR],J⟩⟩,by simp[LV.dat,dats,Qj],_,rfl,⟨_,_,rfl,⟨_,rfl,?_⟩,bors_self _ rfl⟩⟩;refine⟨_,_,rfl,?_,_,_,rfl,?_,?_⟩
   ·have:=(AC (.cells [hv,.dy pl 0,.i g,.i 0,.i (z false),.i (g+1),.i 0,.i (z true)] (so+1)) (.cells [hv,.dy pl 0,.i g,.i 0,.i (z false),.i (g+1),.i 0,.i (z true)] 1)).bor;rw[AE];exact this
   ·exact⟨_,_,_,_,by rw[m9],AD _ _,ze6 _⟩
   ·simp[Vl]
end
section
set_option linter.unusedVariables false
def z6c:LC:=(.q [.x 2 0,.x 3 1,.F 4] (.q [.f 5 0 2,.l 6 5,.f 7 0 3,.l 8 7,.c 9 .eql 3 6 8,.m 10 9,.yf 11 10 1 2,.yl 12 10 11,.yf 13 10 1 2,.yl 14 10 13,.yf 15 10 2 2,.yl 16 10 15,.y 17 10 (.bin .add false 3 (.t 14) (.t 16)),.y 18 10 (.bin .sub true 3 (.t 17) (.k 1)),.y 19 10 (.build [(.i 0),(.i 0)] [(0,1,.t 12),(1,1,.t 18)]),.yf 20 10 1 3,.yl 21 10 20,.yf 22 10 1 3,.yl 23 10 22,.yf 24 10 2 3,.yl 25 10 24,.y 26 10 (.bin .add false 3 (.t 23) (.t 25)),.y 27 10 (.bin .sub true 3 (.t 26) (.k 1)),.y 28 10 (.build [(.i 0),(.i 0)] [(0,1,.t 21),(1,1,.t 27)]),.y 29 10 (.w 84 [.t 19,.t 28]),.q 30 10 29,.m 4 30] .ret))
def r_buffers_common:Nf Tryz.prog 107=some ⟨31,z6c.r,[.tmp 4]⟩:=Aa
def zba:LC:=(.q [.x 2 0,.F 3] (.q [.f 4 0 2,.l 5 4,.f 6 0 1,.l 7 6,.c 8 .eql 3 5 7,.m 3 8] .ret))
def r_buffers_own_1:Nf Tryz.prog 109=some ⟨9,zba.r,[.tmp 3]⟩:=Aa
def z1v:LC:=(.q [.K 4 0] (.seq (.q [.m 6 0,.s 7 6,.K 8 0] (.block 0 (.loop (.q [.c 9 .lss 3 8 7] (.seq (.cond (.t 9) .skip (.exit 0)) (.seq (.block 1 (.q [.m 10 8,.m 5 10] (.q [.m 11 1,.m 12 0,.m 13 5,.I 14 3 12 13,.L 15 3 14,.z 16 (.callV (.t 11) [.t 15])] (.cond (.t 16) (.q [.m 17 5,.m 4 17] .ret) .skip)))) (.ops [.b 18 .add 3 8 1,.m 8 18]))))))) (.q [.K 4 (-1)] .ret)))
def r_slices_IndexFunc_api_Place_api_Place:Nf Tryz.prog 145=some ⟨19,z1v.r,[.tmp 4]⟩:=Aa
def z1p:LC:=(.q [.F 4] (.q [.m 5 0,.m 6 1,.W 7 145 5 6,.b 8 .geq 3 7 0,.m 4 8] .ret))
def r_slices_ContainsFunc_api_Place_api_Place:Nf Tryz.prog 108=some ⟨9,z1p.r,[.tmp 4]⟩:=Aa
def z8s:LC:=(.q [.x 3 0,.x 5 2,.F 6] (.q [.f 11 1 3,.l 12 11,.m 13 1,.I 14 3 12 13,.L 15 3 14,.z 7 (.alloc [(.i 0),(.i 0),(.i 0)]),.S 3 7 15] (.q [.f 16 0 3,.l 17 16,.f 18 0 7,.l 19 18,.I 20 3 17 19,.L 21 3 20,.z 8 (.alloc [(.i 0),(.i 0),(.bool false)]),.S 3 8 21] (.q [.K 9 1] (.seq (.q [.f 22 2 5,.l 23 22,.b 24 .eql 3 23 3] (.cond (.t 24) (.ops [.K 9 2]) .skip)) (.q [.f 25 1 3,.l 26 25,.m 27 1,.z 28 (.slSl 3 (.t 26) none (some (.t 27))),.z 29 (.mkFunc 109 [] [.t 7]),.W 30 108 28 29,.z 31 (.un .not (.t 30)),.m 10 31] (.q [.m 32 10,.m 33 32,.y 34 33 (.loadN 3 (.t 8)),.yf 35 33 2 7,.yl 36 33 35,.my 37 33 9,.yf 38 33 1 5,.yl 39 33 38,.y 40 33 (.build [(.i 0),(.i 0),(.bool false)] [(0,1,.t 36),(1,1,.t 37),(2,1,.t 39)]),.y 41 33 (.bin .eql false 95 (.t 34) (.t 40)),.q 42 33 41,.m 43 42,.yf 44 43 1 7,.yl 45 43 44,.y 46 43 (.bin .eql true 3 (.t 45) (.k 0)),.q 47 43 46,.m 6 47] .ret)))))))
def r_buffers_own:Nf Tryz.prog 58=some ⟨48,z8s.r,[.tmp 6]⟩:=Aa
def zag:LC:=(.q [.x 2 0,.x 3 1,.F 4] (.q [.L 10 3 2,.w 11 45 10,.m 5 11] (.seq (.q [.f 12 1 3,.l 13 12,.s 14 13,.K 15 0] (.block 0 (.loop (.q [.c 16 .lss 3 15 14] (.seq (.cond (.t 16) .skip (.exit 0)) (.seq (.block 1 (.q [.m 17 15,.I 18 3 13 15,.L 19 3 18,.z 7 (.alloc [(.i 0),(.i 0),(.i 0)]),.m 6 17,.S 3 7 19] (.seq (.q [.L 20 3 7,.f 21 2 3,.z 22 (.ixAddrArr 2 3 (.t 21) (.k 0)),.L 23 3 22,.W 24 107 20 23,.m 25 24,.n 26 25 (.loadN 3 (.t 7)),.nf 27 25 2 3,.n 28 25 (.ixAddrArr 2 3 (.t 27) (.k 1)),.n 29 25 (.loadN 3 (.t 28)),.n 30 25 (.w 107 [.t 26,.t 29]),.p 31 25 30] (.cond (.t 31) (.q [.F 4] .ret) .skip)) (.q [.f 32 1 3,.l 33 32,.m 34 6,.z 35 (.slSl 3 (.t 33) none (some (.t 34))),.s 36 35,.K 37 0] (.block 2 (.loop (.q [.c 38 .lss 3 37 36] (.seq (.cond (.t 38) .skip (.exit 2)) (.seq (.block 3 (.q [.m 39 37,.I 40 3 35 37,.L 41 3 40,.z 9 (.alloc [(.i 0),(.i 0),(.i 0)]),.m 8 39,.S 3 9 41] (.seq (.draw [(.L 42 3 7,[]),(.L 43 3 9,[]),(.W 44 107 42 43,[]),(.m 45 44,[]),(.my 46 45 5,[]),(.my 47 45 6,[]),(.y 48 45 (.ixAddr 2 (.t 46) (.t 47)),[]),(.y 49 45 (.loadN 2 (.t 48)),[]),(.y 50 45 (.w 83 [.t 49]),[]),(.y 51 45 (.un .not (.t 50)),[]),(.q 52 45 51,[]),(.m 53 52,[]),(.my 54 53 5,[]),(.my 55 53 8,[]),(.y 56 53 (.ixAddr 2 (.t 54) (.t 55)),[]),(.y 57 53 (.loadN 2 (.t 56)),[]),(.y 58 53 (.w 83 [.t 57]),[]),(.y 59 53 (.un .not (.t 58)),[]),(.q 60 53 59,[]),(.m 61 60,[]),(.my 62 61 5,[]),(.my 63 61 6,[]),(.y 64 61 (.ixAddr 2 (.t 62) (.t 63)),[]),(.y 65 61 (.loadN 2 (.t 64)),[]),(.my 66 61 5,[]),(.my 67 61 8,[]),(.y 68 61 (.ixAddr 2 (.t 66) (.t 67)),[]),(.y 69 61 (.loadN 2 (.t 68)),[]),(.y 70 61 (.w 84 [.t 65,.t 69]),[]),(.q 71 61 70,[])]) (.cond (.t 71) (.q [.F 4] .ret) .skip)))) (.ops [.b 72 .add 3 37 1,.m 37 72])))))))))) (.ops [.b 73 .add 3 15 1,.m 15 73]))))))) (.q [.f 74 2 3,.z 75 (.ixAddrArr 2 3 (.t 74) (.k 0)),.L 76 3 75,.f 77 2 3,.z 78 (.ixAddrArr 2 3 (.t 77) (.k 1)),.L 79 3 78,.W 80 107 76 79,.z 81 (.un .not (.t 80)),.m 4 81] .ret))))
def r_buffers_apart:Nf Tryz.prog 57=some ⟨82,zag.r,[.tmp 4]⟩:=Aa
def PcB(x:Pc):Prop:=0≤x.at_∧x.at_≤1000000∧0≤x.size∧x.size≤1000000
instance (x y:Pc):Decidable (Vx x y):=by unfold Vx;infer_instance
def z3r{x y:Pc}(g:PcB x)(j:PcB y):Na 107 [.agg x.f,.agg y.f] (.bool (decide (Vx x y))) []:=by
 obtain⟨A,B,C,D⟩:=g;obtain⟨E,F,G,H⟩:=j;refine Np.val rfl (Nd r_buffers_common Aa N ?_);by_cases h:x.buf=y.buf
 ·simp[z6c,Pc.f,h]
  repeat (refine⟨J,?_⟩)
  refine Nb (z67 (x.at_,x.at_+x.size-1) (y.at_,y.at_+y.size-1)) (bors_self _ rfl) ?_;have e:og (x.at_,x.at_+x.size-1) (y.at_,y.at_+y.size-1)=decide (Vx x y):=by
   rw[Jn];simp[og,Vx,h];omega
  simp[e]
 ·have z:¬Vx x y:=λq=>h q.1
  simp[z6c,Pc.f,h,z]
def zv2{c st:Nat}{x y:Pc}(j:F[c]?=some (.cells x.f st))(z:y.buf≠x.buf)(k:P (.bool false) (F++[.cells y.f 0])):O6 (.fn 109) [.agg y.f,.ptr c 0] F P:=by
 refine Nd r_buffers_own_1 Aa N ?_;have A:=(H7.1 j).1;have B:x.f=[.i x.buf,.i x.at_,.i x.size]:=rfl;have g:y.f=[.i y.buf,.i y.at_,.i y.size]:=rfl;rw[B]at j;rw[g]at k;simp[zba,g,↓M5 A,j,z];exact k
def zta{c st:Nat}{x:Pc}{l:List Pc}(H:F[c]?=some (.cells x.f st))(U:l.length≤1000000)(z:∀y∈l,y.buf≠x.buf)(k:∀g,F.length≤g.length→(∀j,j<F.length→g[j]?=F[j]?)→P (.i (-1)) g) :
  O6 (.fn 145) [.lst (Oc l) l.length 3,.fn (.func 109) [] [.ptr c 0]] F P:=by
 refine Nd r_slices_IndexFunc_api_Place_api_Place Aa (by simp) ?_;have A:=(H7.1 H).1;simp[z1v];refine Ns (λI T g O=>∃(i:Nat),T=[]∧O+i=l.length∧lk I 0=.lst (Oc l) l.length 3∧lk I 1=.fn (.func 109) [] [.ptr c 0]∧lk I 7=.i l.length∧lk I 8=.i i∧F.length≤g.length∧∀j,j<F.length→g[j]?=F[j]?) (N:=l.length)
  ⟨0,rfl,J,by simp,by simp,by simp,by simp,If _,λ_ _=>rfl⟩ ?_
 rintro O I T g ⟨i,rfl,V,K,L,B,C,D,E⟩ X G;by_cases M:i<l.length
 ·have Q:=mo (Wy M);have R:=Vw M;have Y:(Of l i).f=[.i (Of l i).buf,.i (Of l i).at_,.i (Of l i).size]:=rfl;simp[K,L,B,C,M,Q,R];refine zv2 ((E c A).trans H) (z _ (I8.2 ⟨i,Wy M⟩)) ?_;simp[C];exact⟨J,G _ _ _ ⟨O-1,J,i+1,rfl,J,Bs,Br,Ax,by simp,Ab,λj S=>by rw[M5 J];exact E j S⟩⟩
 ·simp[B,C,M];exact k g D E
def zlo{c st:Nat}{x:Pc}{l:List Pc}(z:F[c]?=some (.cells x.f st))(A:l.length≤1000000)(j:∀y∈l,y.buf≠x.buf)(k:∀g,F.length≤g.length→(∀B,B<F.length→g[B]?=F[B]?)→P (.bool false) g) :
  O6 (.fn 108) [.lst (Oc l) l.length 3,.fn (.func 109) [] [.ptr c 0]] F P:=by
 refine Nd r_slices_ContainsFunc_api_Place_api_Place Aa N ?_;simp[z1p];refine zta z A j λg C D=>?_
 simp;exact k g C D
def Yp:List (Option Bool)→Option Bool
 |[]=>some true
 |o::l=>match o with
  |some true=>Yp l
  |some false=>some false
  |none=>none
def bufEq(a b d e:Int)(c f:Bool):Q9 Tryz.prog false 95 (.agg [.int .i64 a,.int .i64 b,.bool c]) (.agg [.int .i64 d,.int .i64 e,.bool f])=Yp [some (ji a d),some (ji b e),some (c==f)]:=by cases c<;>cases f<;>kernel_rfl
def bc(a b:Int)(c:Bool):Q9 Tryz.prog false 95 (.agg (toAs [.i a,.i b,.bool c])) (.agg (toAs [.i a,.i b,.bool c]))=some true:=by
 refine Eq.trans (bufEq a b a b c c) ?_;simp only[oi];simp[Yp]
def zjb{D:List Bf}{g:List Pc}{E F:Pc}{v:Vr}{i:Nat}(hi:i<g.length)(gg:g.length≤1000000)(hx:Of g i=⟨i,0,v.limbs⟩)(z:i<D.length)(hb:Ou D i=Q2 v)(S:∀j,j<i→(Of g j).buf≠i) :
  Na 58 [.agg (Nj D g E F),.i i,.agg v.f] (.bool true) []:=by
 have A:Nj D g E F=[.lst (Om D) D.length 3,.lst (Oc g) g.length 3,.i E.buf,.i E.at_,.i E.size,.i F.buf,.i F.at_,.i F.size]:=rfl;have T:=mo (Wy hi);have Z:=Vw hi;have U:=zw (ay z);have G:=kg z;rw[hx]at T;rw[hb]at U;have H:v.f=[.i v.limbs,.bool v.sec,.i v.mode]:=rfl;refine Np.val rfl (Nd r_buffers_own Aa N ?_);have I:((Oc g).take (i*3))=Oc (g.take i):=ry Pc.f_len g i;have V:(g.take i).length=i:=Ab
 have K:∀(Y:M4) (gj:LV→M4→Prop) (c st:Nat),Y[c]?=some (.cells [.i i,.i 0,.i v.limbs] st)→(∀L,Y.length≤L.length→(∀gB,gB<Y.length→L[gB]?=Y[gB]?)→gj (.bool false) L) →
   O6 (.fn 108) [.lst (Oc (g.take i)) i 3,.fn (.func 109) [] [.ptr c 0]] Y gj:=λY gj c st hc hk=>by
  have:=zlo (x:=⟨i,0,v.limbs⟩) (l:=g.take i) hc J (λy hy=>by
   obtain⟨j,X⟩:=I8.1 hy;have M:j<i:=by have:=(H7.1 X).1;omega
   rw[I4 M,Wy J]at X;have hn:=S j M;rw[←Option.some.inj X];exact hn) hk
  rw[V]at this;exact this
 by_cases R:v.mode=3
 ·have B:(Q2 v).f=[.i v.limbs,.i 2,.bool v.sec]:=by simp[Q2,Bf.f,R]
  simp[z8s,A,H,T,Z,U,G,hi,z,Pc.f,B,R];rw[I];refine⟨J,K _ _ _ 1 N λL h1 C=>?_⟩;have O:=C 1 N;have P:=C 2 N;have Q:=C 3 N;simp at O P Q;simp[O,P,Q,jl];exact bc _ _ _
 ·have B:(Q2 v).f=[.i v.limbs,.i 1,.bool v.sec]:=by simp[Q2,Bf.f,R]
  simp[z8s,A,H,T,Z,U,G,hi,z,Pc.f,B,R];rw[I];refine⟨J,K _ _ _ 1 N λL h1 C=>?_⟩;have O:=C 1 N;have P:=C 2 N;have Q:=C 3 N;simp at O P Q;simp[O,P,Q,jl];exact bc _ _ _
def ba(g:List Pc)(n:Nat):(Oc g).take (n*3)=Oc (g.take n):=ry Pc.f_len g n
def cu{j:List Pc}{i:Nat}(h:g<i)(hi:i≤j.length):Of (j.take i) g=Of j g:=by
 unfold Of;rw[Ie,Ie,I4 h]
structure ApB (vs:List Vr) (ss:List Sp) (ps:List Pc) (w0 w1:Pc):Prop where
 bd:∀i,i<ps.length→PcB (Of ps i)
 b0:PcB w0
 b1:PcB w1
 n0:∀i,i<ps.length→¬Vx (Of ps i) w0
 n1:∀i,i<ps.length→¬Vx (Of ps i) w1
 nw:¬Vx w0 w1
 np:∀i j,j<i→i<ps.length→Vx (Of ps i) (Of ps j)→Xg ss i<Uj ss j∨Xg ss j<Uj ss i
def zg4{M rs:List Ko}{U:List Bf}{g:List Pc}{D E:Pc}(O:V.length≤1000000)(hc:Ng V M rs=true){f:Fr Ko}(hw:f.wf Qv)(hf:M=f.flat)(g9:g.length=V.length)(R:ApB V (Tv M (f.tops 0) 0 V) g D E) :
  Na 57 [.agg (M3 V M rs),.agg (Nj U g D E)] (.bool true) []:=by
 have gH:dats (M3 V M rs)=true:=Ai
 have gI:(M3 V M rs).length=3:=rfl;have gK:(M3 V M rs).take 3=M3 V M rs:=rfl;have B:Nj U g D E=[.lst (Om U) U.length 3,.lst (Oc g) g.length 3,.i D.buf,.i D.at_,.i D.size,.i E.buf,.i E.at_,.i E.size]:=rfl;refine Np.val rfl (Nd r_buffers_apart Aa (by simp) ?_);simp[zag,gI,gK];refine Qo (z9o J hc hw hf) (by simp[dats,LV.dat,gH]) ?_;have gZ:(Tv M (f.tops 0) 0 V).length=V.length:=by
  have:∀(l:List Vr) (i:Nat),(Tv M (f.tops 0) i l).length=l.length:=by
   intro l
   induction l with
   |nil=>intro i;rfl
   |cons v l ih=>intro i;simp[Tv,ih]
  exact this V 0
 generalize Tv M (f.tops 0) 0 V=j at *;simp[B];have gj:D.f=[.i D.buf,.i D.at_,.i D.size]:=rfl;have gB:E.f=[.i E.buf,.i E.at_,.i E.size]:=rfl;refine Ns (λT g8 gC N=>∃(i:Nat),g8=[]∧N+i=g.length∧lk T 3=.ptr 1 0∧lk T 5=.lst (Nn j) j.length 2∧lk T 13=.lst (Oc g) g.length 3∧lk T 14=.i g.length∧lk T 15=.i i∧1<gC.length∧gC[1]?=some (.cells (Nj U g D E) 0))
  (N:=g.length) ⟨0,rfl,J,by simp,by simp,by simp,by simp,by simp,by simp,Ax⟩ ?_
 rintro N T g8 gC ⟨i,rfl,hN,K,P,C,z,A,O,g1⟩ Nx gL;by_cases gG:i<g.length
 case neg =>
  simp[K,z,A,gG,g1,B];rw[←gj,←gB];refine Nb (z3r R.b0 R.b1) (bors_self _ rfl) ?_;simp[R.nw]
 have q3:=mo (Wy gG);have hq:=Vw gG;have X:=R.bd i gG;have n0:=R.n0 i gG;have n1:=R.n1 i gG;have np:=λF hj=>R.np i F hj gG
 have G:(Of g i).f=[.i (Of g i).buf,.i (Of g i).at_,.i (Of g i).size]:=rfl;generalize Of g i=x at *;simp[K,C,z,A,gG,q3,hq,G,↓M5 O,g1,B];rw[←G,←gj];refine Nb (z3r X R.b0) (bors_self _ rfl) ?_;simp[n0,K,↓M5 O,g1,B,G];rw[←G,←gB];refine Nb (z3r X R.b1) (bors_self _ rfl) ?_;simp[n1,K,↓M5 O,g1,B,G];have gM:((Oc g).take (i*3))=Oc (g.take i):=ba g i;have jg:(g.take i).length=i:=Ab
 rw[gM];refine⟨J,?_⟩;obtain⟨G1,S⟩:∃G1,G1=gC++[LObj.cells [.i x.buf,.i x.at_,.i x.size] 1]:=⟨_,rfl⟩;have x1:G1[gC.length]?=some (.cells [.i x.buf,.i x.at_,.i x.size] 1):=E8
 have p1:G1[1]?=some (.cells (Nj U g D E) 0):=by rw[S,M5 O];exact g1
 have l1:G1.length=gC.length+1:=E8
 rw[←S];refine Ns (λT g8 G' N=>∃(F:Nat),g8=[]∧N+F=i∧lk T 3=.ptr 1 0∧lk T 5=.lst (Nn j) j.length 2∧lk T 6=.i i∧lk T 7=.ptr gC.length 0∧lk T 13=.lst (Oc g) g.length 3∧lk T 14=.i g.length∧lk T 15=.i i∧lk T 35=.lst (Oc (g.take i)) i 3∧lk T 36=.i i∧lk T 37=.i F∧gC.length+1≤G'.length∧G'[1]?=some (.cells (Nj U g D E) 0)∧G'[gC.length]?=some (.cells [.i x.buf,.i x.at_,.i x.size] 1))
  (N:=i) ⟨0,rfl,J,Bs,Bk,by simp,by simp,Ae,As,Af,by simp,by simp,by simp,J,p1,x1⟩ ?_
 clear K P C z A;rintro N1 T g8 G' ⟨F,rfl,jz,K,P,h6,h7,C,z,A,Q,H,I,jA,p',x'⟩ gO gD;have gE:gC.length<G'.length:=J
 by_cases g2:F<i
 case neg =>
  simp[A,H,I,g2];exact⟨J,gL _ _ _ ⟨N-1,J,i+1,rfl,J,Bs,Bk,Ae,As,by simp,J,p'⟩⟩
 have r3:=mo (Wy (l:=g.take i) (n:=F) J);have hr:=Vw (l:=g.take i) (i:=F) J;rw[cu g2 J]at r3;have gP:=R.bd F J;have gQ:=np F g2;have gF:(Of g F).f=[.i (Of g F).buf,.i (Of g F).at_,.i (Of g F).size]:=rfl;generalize Of g F=y at *;have next:∀L G2,lk L 3=.ptr 1 0→lk L 5=.lst (Nn j) j.length 2→lk L 6=.i i→lk L 7=.ptr gC.length 0→lk L 13=.lst (Oc g) g.length 3→lk L 14=.i g.length→lk L 15=.i i→lk L 35=.lst (Oc (g.take i)) i 3→lk L 36=.i i→lk L 37=.i ((F:Int)+1)→G2=G'++[LObj.cells [.i y.buf,.i y.at_,.i y.size] 1]→gO L [] G2:=by
  rintro L G2 a3 a5 a6 a7 gR gS gT gU gV gX rfl;exact gD _ _ _ ⟨N1-1,J,F+1,rfl,J,a3,a5,a6,a7,gR,gS,gT,gU,gV,by rw[gX];simp,Ab,by rw[M5 J];exact p',by rw[M5 gE];exact x'⟩
 simp[h7,Q,H,I,g2,r3,hr,gF,↓M5 gE,x'];rw[←G,←gF];refine Nb (z3r X gP) (bors_self _ rfl) ?_;have ti:=zwt (Xn (l:=j) (n:=i) J);have tj:=zwt (Xn (l:=j) (n:=F) J);have li:=c9 (l:=j) (i:=i) J;have lj:=c9 (l:=j) (i:=F) J;have si:i<j.length:=J
 have sj:F<j.length:=J
 by_cases Y:Vx x y
 case neg =>
  simp[Y,I];exact⟨J,next _ _ Bs Bk Bu Fo Ae As Af Bq Ba (by simp) rfl⟩
 have gY:=gQ Y;have Z:Ov (gs j i)=[.i (gs j i).1,.i (gs j i).2]:=rfl;have gg:Ov (gs j F)=[.i (gs j F).1,.i (gs j F).2]:=rfl;simp[Y,P,h6,si,ti,li,Z];rw[←Z];refine Nb (z4p (gs j i)) (bors_self _ rfl) ?_;by_cases ni:(gs j i).1<0
 ·simp[ni,I];exact⟨J,next _ _ Bs Bk Bu Fo Ae As Af Bq Ba (by simp) rfl⟩
 simp[ni,P,sj,tj,lj,gg];rw[←gg];refine Nb (z4p (gs j F)) (bors_self _ rfl) ?_;by_cases nj:(gs j F).1<0
 ·simp[nj,I];exact⟨J,next _ _ Bs Bk Bu Fo Ae As Af Bq Ba (by simp) rfl⟩
 simp[nj,P,h6,si,ti,li,sj,tj,lj];rw[←Z,←gg];refine Nb (z67 (gs j i) (gs j F)) (bors_self _ rfl) ?_;have hm:og (gs j i) (gs j F)=false:=by
  unfold Uj Xg at gY;simp[og];omega
 simp[hm,I];exact⟨J,next _ _ Bs Bk Bu Fo Ae As Af Bq Ba (by simp) rfl⟩
end
section
set_option linter.unusedVariables false
def z4s:LC:=(.q [.x 2 0,.x 3 1,.K 4 0] (.seq (.q [.L 15 3 2,.w 16 43 15,.m 5 16] (.q [.m 17 5,.b 18 .neq 35 17 0] (.cond (.t 18) (.q [.m 19 5,.m 4 19] .ret) .skip))) (.seq (.q [.f 20 0 2,.l 21 20,.L 22 8 3,.W 23 56 21 22,.b 24 .neq 35 23 0,.m 25 24,.n 26 25 (.loadN 3 (.t 2)),.n 27 25 (.loadN 8 (.t 3)),.n 28 25 (.w 57 [.t 26,.t 27]),.n 29 25 (.un .not (.t 28)),.p 30 25 29] (.cond (.t 30) (.q [.K 4 2] .ret) .skip)) (.q [.f 31 0 3,.l 32 31,.s 33 32,.z 34 (.mkSl 1 [(.bool false)] (.t 33) (.t 33)),.m 6 34] (.seq (.q [.f 35 0 2,.l 36 35,.s 37 36,.K 38 0] (.block 0 (.loop (.q [.c 39 .lss 3 38 37] (.seq (.cond (.t 39) .skip (.exit 0)) (.seq (.block 1 (.q [.m 40 38,.I 41 3 36 38,.L 42 3 41,.z 8 (.alloc [(.i 0),(.bool false),(.i 0)]),.m 7 40,.S 3 8 42] (.seq (.q [.f 43 2 8,.l 44 43,.b 45 .eql 3 44 0] (.cond (.t 45) (.exit 1) .skip)) (.seq (.q [.L 46 8 3,.m 47 7,.L 48 3 8,.V 49 58 46 47 48,.z 50 (.un .not (.t 49))] (.cond (.t 50) (.q [.K 4 2] .ret) .skip)) (.ops [.m 51 6,.f 52 1 3,.l 53 52,.m 54 7,.I 55 3 53 54,.f 56 0 55,.l 57 56,.I 58 1 51 57,.v (.store 1 (.t 58) .T)]))))) (.ops [.b 59 .add 3 38 1,.m 38 59]))))))) (.seq (.q [.f 60 0 3,.l 61 60,.s 62 61,.K 63 0] (.block 2 (.loop (.q [.c 64 .lss 3 63 62] (.seq (.cond (.t 64) .skip (.exit 2)) (.seq (.block 3 (.q [.m 65 63,.I 66 3 61 63,.L 67 3 66,.z 10 (.alloc [(.i 0),(.i 0),(.bool false)]),.m 9 65,.S 3 10 67] (.q [.m 68 6,.m 69 9,.I 70 1 68 69,.l 71 70,.z 72 (.un .not (.t 71)),.m 73 72,.yf 74 73 1 10,.yl 75 73 74,.y 76 73 (.bin .neq true 3 (.t 75) (.k 3)),.q 77 73 76] (.cond (.t 77) (.q [.K 4 2] .ret) .skip)))) (.ops [.b 78 .add 3 63 1,.m 63 78]))))))) (.seq (.q [.f 79 1 2,.l 80 79,.s 81 80,.K 82 0] (.block 4 (.loop (.q [.c 83 .lss 3 82 81] (.seq (.cond (.t 83) .skip (.exit 4)) (.seq (.block 5 (.q [.I 84 7 80 82,.L 85 7 84,.z 12 (.alloc [(.i 0),(.i 0),(.i 0),(.i 0),(.i 0),(.i 0),(.u 0)]),.S 7 12 85] (.q [.f 87 0 2,.l 88 87,.L 89 7 12,.L 90 8 3,.V 91 59 88 89 90,.m 86 91,.X 92 0 86,.X 93 1 86,.z 14 (.alloc [(.i 0),(.i 0),(.i 0)]),.m 13 92,.S 3 14 93] (.seq (.draw [(.f 94 1 12,[]),(.l 95 94,[]),(.b 96 .geq 3 95 0,[]),(.m 97 96,[]),(.yf 98 97 0 2,[]),(.yl 99 97 98,[]),(.y 100 97 (.loadN 7 (.t 12)),[]),(.yf 102 97 2 14,[]),(.yl 103 97 102,[]),(.y 101 97 (.w 52 [.t 99,.t 100]),[(.yl 103 97 102,false)]),(.y 104 97 (.bin .gtr false 3 (.t 101) (.t 103)),[]),(.q 105 97 104,[])]) (.cond (.t 105) (.q [.K 4 2] .ret) .skip))))) (.ops [.b 106 .add 3 82 1,.m 82 106]))))))) (.q [.K 4 0] .ret))))))))
def r_buffers_Check:Nf Tryz.prog 13=some ⟨107,z4s.r,[.tmp 4]⟩:=Aa
def k_buffers_Check:z4s.ok=true:=Aa
section made
variable {vs : List Vr} {os rs : List Ko} {bs : List Bf} {ps : List Pc} {w0 w1 : Pc}
structure MadeF (vs:List Vr) (os:List Ko) (bs:List Bf) (ps:List Pc) (w0 w1:Pc) (base:Nat) (f:Fr Ko):Prop where
 plan:Uy vs bs ps w0 w1=true
 wf:f.wf Qv
 flat:os=f.flat
 pl:ps.length=vs.length
 bl:bs.length=base+2
 bb:base≤vs.length
 mode:∀v,v<vs.length→((gv vs v).mode=0↔base≤v)
 apart:ApB vs (Tv os (f.tops 0) 0 vs) ps w0 w1
 par:∀i,i<base→Of ps i=⟨i,0,(gv vs i).limbs⟩
 parb:∀i,i<base→Ou bs i=Q2 (gv vs i)
 var:∀i,base≤i→i<vs.length→base≤(Of ps i).buf
 tmp:∀i,base≤i→i<bs.length→(Ou bs i).kind=3
 sz:∀i,i<ps.length→(Of ps i).size=(gv vs i).limbs
 w0s:w0.size=(S0 vs os).1 false
 w1s:w1.size=(S0 vs os).1 true
def Y9.facts(hv:P6 vs=true)(h:Y9 vs os bs ps w0 w1):∃base f,MadeF vs os bs ps w0 w1 base f:=by
 obtain⟨base,f,iv,gj,done,busy,cur,hr,gI,gK,j,hd,rfl,rfl,rfl,rfl,hs⟩:=h;obtain⟨r,gF,gO,gL,hp⟩:=zib hv;rw[hr]at gF;obtain rfl:=Option.some.inj gF;have gB:∀b,(S0 vs os).1 b≤32768:=λb=>zlg _ _ (zrw vs) os mz (λ_=>by show (1:Int)≤32768;decide) b
 have gC:∀b,1≤(S0 vs os).1 b:=λb=>zb0 _ _ os mz b
 have gG:∀v,v<vs.length→1≤(gv vs v).limbs∧(gv vs v).limbs≤512:=λv gD=>by
  have:=Ve hv _ (Vt gD);omega
 have gE:∀v,v<vs.length→((gv vs v).mode=0↔base≤v):=λv gD=>by
  have:=hp v gD;constructor
  ·intro h0;have:¬v<base:=λq=>(this.2 q) h0
   omega
  ·intro hq;refine Decidable.byContradiction λhn=>?_
   have:=this.1 hn;omega
 have gg:∀i,i<vs.length→Of (Uc vs base iv) i=S8 base iv (Pv vs) (Ra vs) i:=λi hi=>zi7 hi
 have z0:=(j.ok false).1;have z1:=(j.ok true).1;refine⟨base,f,⟨zvj hv hr j hd hs gB,gI,gK,m9 _ _ _,zbm _ _ _,gL,gE,⟨?_,?_,?_,?_,?_,works_apart,?_⟩,?_,λi hi=>zjs hi,?_,?_,?_,rfl,rfl⟩⟩
 ·intro i hi;rw[m9]at hi;rw[gg i hi];have hl:=gG i hi;by_cases q:i<base
  ·rw[zp8 J];refine⟨K6 _,D4,by show 0≤(gv vs i).limbs;omega,by show (gv vs i).limbs≤1000000;omega⟩
  ·rw[zlt J];have gM:=j.inn i (hd i J hi);have hw:=j.wide i (hd i J hi);have gP:(gj (Ra vs i)).size≤65536:=by cases Ra vs i<;>omega
   have gQ:Pv vs i=(gv vs i).limbs:=rfl;exact⟨gM.1,by show (iv i).1≤1000000;omega,by show 0≤Pv vs i;omega,by show Pv vs i≤1000000;omega⟩
 ·have:=gC false;have:=gB false;exact⟨K6 _,D4,by show 0≤(S0 vs os).1 false;omega,by show (S0 vs os).1 false≤1000000;omega⟩
 ·have:=gC true;have:=gB true;exact⟨K6 _,D4,by show 0≤(S0 vs os).1 true;omega,by show (S0 vs os).1 true≤1000000;omega⟩
 ·intro i hi;rw[m9]at hi;rw[gg i hi];exact zrb j (n:=vs.length) (λi h1 h2=>hd i J h2) hi false
 ·intro i hi;rw[m9]at hi;rw[gg i hi];exact zrb j (n:=vs.length) (λi h1 h2=>hd i J h2) hi true
 ·intro i gR hj hi gH;rw[m9]at hi;rw[gg i hi,gg gR J]at gH;exact zx6 j (n:=vs.length) (λi h1 h2=>hd i J h2) hi J J gH
 ·intro i hi;rw[gg i J,zp8 J];rfl
 ·intro i h1 h2;rw[gg i h2,zlt J];show (base:Int)≤(base:Int)+(if Ra vs i=true then 1 else 0);split<;>omega
 ·intro i h1 h2;rw[zbm]at h2;have t0:=zer (vs:=vs) (r:=base) (ps:=gj) false;have t1:=zer (vs:=vs) (r:=base) (ps:=gj) true;by_cases e:i=base
  ·subst e;rw[show Ou (Sn vs i gj) i=Ou (Sn vs i gj) (i+(if false=true then 1 else 0)) from rfl,t0]
  ·have e2:i=base+1:=J
   subst e2;rw[show Ou (Sn vs base gj) (base+1)=Ou (Sn vs base gj) (base+(if true=true then 1 else 0)) from rfl,t1]
 ·intro i hi;rw[m9]at hi;rw[gg i hi];unfold S8;split<;>rfl
def z9h{f:Fr Ko}(Z:vs.length≤1000000)(hc:Ng vs os rs=true)(gY:(S0 vs os).2=true)(h:MadeF vs os bs ps w0 w1 g f)(gZ:∀v∈vs,0≤v.mode):Na 13 [.agg (M3 vs os rs),.agg (Nj bs ps w0 w1)] (.i 0) []:=by
 have g8:dats (M3 vs os rs)=true:=Ai
 have gE:(M3 vs os rs).length=3:=rfl;have gF:(M3 vs os rs).take 3=M3 vs os rs:=rfl;have S:(Nj bs ps w0 w1).length=8:=rfl;have T:(Nj bs ps w0 w1).take 8=Nj bs ps w0 w1:=rfl;have K:Nj bs ps w0 w1=[.lst (Om bs) bs.length 3,.lst (Oc ps) ps.length 3,.i w0.buf,.i w0.at_,.i w0.size,.i w1.buf,.i w1.at_,.i w1.size]:=rfl;have jK:os.length≤4096:=by
  have h:=hc;unfold Ng at h;simp only[H9,Il]at h;exact h.2.1
 have jL:bs.length≤1000002:=by have:=h.bl;have:=h.bb;omega
 refine Np.val rfl (Nd r_buffers_Check k_buffers_Check (by simp) ?_);simp[z4s,gE,gF,S,T];refine Nb (ny vs os rs J) (bors_self _ (by simp[dats,LV.dat,g8])) ?_;simp[N3,hc,gE,gF,S,T,M3];refine Nb (zas vs bs ps w0 w1 Z J) (bors_self _ (by simp[dats,LV.dat,Ph,Qj])) ?_;simp[ku,h.plan,gE,gF,S,T];refine Nb (zg4 Z hc h.wf h.flat h.pl h.apart) (bors_self _ (by simp[dats,LV.dat,Ph,R7,Qj])) ?_;simp[K];refine⟨J,?_⟩;have gI:∀n,Ni [LV.bool false] n=(List.replicate n false).map .bool:=by
  intro n
  induction n with
  |zero=>rfl
  |succ n ih=>rw[Ni,ih,Kb];rfl
 rw[gI];refine Ns (λY gX R N=>∃(i:Nat) (m:List Bool) (st:Nat),gX=[]∧N+i=vs.length∧lk Y 2=.ptr 0 0∧lk Y 3=.ptr 1 0∧lk Y 6=.dy 2 0∧lk Y 36=.lst (Nr vs) vs.length 3∧lk Y 37=.i vs.length∧lk Y 38=.i i∧2<R.length∧R[0]?=some (.cells (M3 vs os rs) 0)∧R[1]?=some (.cells (Nj bs ps w0 w1) 0)∧R[2]?=some (.dyn (m.map .bool) bs.length 1 0 st) ∧
   m.length=bs.length∧∀j,j<bs.length→m[j]?=some (decide (j<i∧j<g)))
  (N:=vs.length) ⟨0,List.replicate bs.length false,0,rfl,J,by simp,by simp,by simp,by simp,by simp,by simp,by simp,Cz,Bs,by simp,by simp,λj hj=>by simp[hj]⟩ ?_
 rintro N Y gX R ⟨i,m,st,rfl,hN,D,C,U,M,O,V,A,L,H,g2,gG,hm⟩ Nx E;have B:0<R.length:=J
 have z:1<R.length:=J
 by_cases X:i<vs.length
 ·have q3:=V9 (Qp X);have gK:=Ty X;have gL:=h.mode i X;have I:(gv vs i).f=[.i (gv vs i).limbs,.bool (gv vs i).sec,.i (gv vs i).mode]:=rfl;by_cases m0:(gv vs i).mode=0
  ·have jM:=gL.1 m0;simp[D,C,M,O,V,X,q3,gK,I,m0];exact⟨J,E _ _ _ ⟨N-1,J,i+1,m,st,rfl,J,Bc,Ae,Ck,Av,Cd,by simp,Ab,by rw[M5 B];exact L,by rw[M5 z];exact H,by rw[M5 A];exact g2,gG,λj hj=>Gg⟩⟩
  ·have gM:i<g:=by
    have:¬g≤i:=λq=>m0 (gL.2 q)
    omega
   simp[D,C,M,O,V,X,q3,gK,I,m0,↓M5 B,↓M5 z,L,H,S,T];rw[←I];have gO:=h.par i gM;have gP:=h.parb i gM;have gQ:=h.bl;refine Nb (zjb (i:=i) (by rw[h.pl];exact X) (by rw[h.pl];exact Z) gO J gP λj hj=>?_) (bors_self _ (by simp[dats,LV.dat,Qj,I])) ?_
   ·rw[h.par j J];show ((j:Nat):Int)≠i;omega
   have gp:i<ps.length:=by rw[h.pl];exact X
   have c0:=V2 Pc.f_len (Wy gp) (j:=0) J;rw[gO]at c0;have g9:(Oc ps)[i*3]?=some (.i (i:Int)):=Ed
   have jO:=Vw gp;have jI:i*3<(Oc ps).length:=J
   have gR:i<bs.length:=J
   simp[C,U,↓M5 z,↓M5 A,H,g2,K,gp,M9 g9,gR,V,gG];have gS:=xe LV.bool m i true J;rw[gS]
   repeat (refine⟨J,?_⟩)
   refine E _ _ _ ⟨N-1,J,i+1,m.set i true,st+1,rfl,J,Bc,Ae,Ck,Av,Cd,by simp,Ab,?_,?_,?_,by simpa using gG,λj hj=>?_⟩
   ·rw[H8 J,M5 B];exact L
   ·rw[H8 J,M5 z];exact H
   ·rw[Ia Ab]
   ·rw[L4];by_cases e:i=j
    ·subst e;rw[Ij rfl,Ij J];simp;omega
    ·rw[Ii e,hm j hj];exact congrArg some (Lp.2 J)
 have jg:i=vs.length:=J
 subst jg;simp[D,C,M,O,V,H,K];clear E;have jP:=h.bb;have gQ:=h.bl;have jz:∀j,j<bs.length→m[j]?=some (decide (j<g)):=λj hj=>Gg
 clear hm;refine Ns (λY gX R N=>∃(i:Nat),gX=[]∧N+i=bs.length∧lk Y 2=.ptr 0 0∧lk Y 3=.ptr 1 0∧lk Y 6=.dy 2 0∧lk Y 61=.lst (Om bs) bs.length 3∧lk Y 62=.i bs.length∧lk Y 63=.i i∧2<R.length∧R[0]?=some (.cells (M3 vs os rs) 0)∧R[1]?=some (.cells (Nj bs ps w0 w1) 0)∧R[2]?=some (.dyn (m.map .bool) bs.length 1 0 st))
  (N:=bs.length) ⟨0,rfl,J,Bc,Ae,Ck,by simp,by simp,by simp,A,L,H,g2⟩ ?_
 clear D C U M O V A L H g2 B z X hN;rintro N Y gX R ⟨i,rfl,hN,D,C,U,P,Q,gg,A,L,H,g2⟩ Nx E;have B:0<R.length:=J
 have z:1<R.length:=J
 by_cases X:i<bs.length
 ·have b3:=zw (ay X);have gT:=kg X;have I:(Ou bs i).f=[.i (Ou bs i).size,.i (Ou bs i).kind,.bool (Ou bs i).sec]:=rfl;have gj:=So (f:=LV.bool) (jz i X);have nx:∀G G2,lk G 2=.ptr 0 0→lk G 3=.ptr 1 0→lk G 6=.dy 2 0→lk G 61=.lst (Om bs) bs.length 3→lk G 62=.i bs.length→lk G 63=.i ((i:Int)+1)→(∃x,G2=R++[x])→Nx G [] G2:=by
   rintro G G2 a2 a3 a6 jA jB jC ⟨x,rfl⟩;exact E _ _ _ ⟨N-1,J,i+1,rfl,J,a2,a3,a6,jA,jB,by rw[jC];simp,Ab,by rw[M5 B];exact L,by rw[M5 z];exact H,by rw[M5 A];exact g2⟩
  by_cases hb:i<g
  ·rw[show decide (i<g)=true by simpa using hb]at gj;simp[D,C,U,P,Q,gg,X,b3,gT,I,↓M5 A,g2,M9 gj];exact⟨J,nx _ _ Bc Ae Ck Bk Bq (by simp) ⟨_,rfl⟩⟩
  ·have hk:=h.tmp i J X;rw[show decide (i<g)=false by simpa using hb]at gj;simp[D,C,U,P,Q,gg,X,b3,gT,I,↓M5 A,g2,M9 gj,hk];exact⟨J,nx _ _ Bc Ae Ck Bk Bq (by simp) ⟨_,rfl⟩⟩
 simp[D,C,P,Q,gg,X,L,M3];clear E X;refine Ns (λY gX R N=>∃(i:Nat),gX=[]∧N+i=os.length∧lk Y 2=.ptr 0 0∧lk Y 3=.ptr 1 0∧lk Y 80=.lst (Oi os) os.length 7∧lk Y 81=.i os.length∧lk Y 82=.i i∧2<R.length∧R[0]?=some (.cells (M3 vs os rs) 0)∧R[1]?=some (.cells (Nj bs ps w0 w1) 0))
  (N:=os.length) ⟨0,rfl,J,Bc,Ae,by simp,by simp,by simp,A,L,H⟩ ?_
 clear D C U P Q gg A L H g2 B z hN;rintro N Y gX R ⟨i,rfl,hN,D,C,gH,gB,gC,A,L,H⟩ Nx E;have B:0<R.length:=J
 have z:1<R.length:=J
 by_cases X:i<os.length
 ·have q7:=mc (Vg X);have jD:=mg X;have jE:go os i∈os:=I8.2 ⟨i,Vg X⟩;have F:(go os i).f=[.i (go os i).kind,.i (go os i).d,.i (go os i).e,.i (go os i).a,.i (go os i).b,.i (go os i).c,.u (go os i).imm]:=rfl;generalize go os i=o at *;simp[D,C,gH,gB,gC,X,q7,jD,F,↓M5 B,↓M5 z,L,H,S,T,M3];rw[←F];refine Nb (zja vs o bs ps w0 w1) (bors_self _ (by simp[dats,LV.dat,Ph,Qj,F])) ?_;have gU:(dr vs o w0 w1).f=[.i (dr vs o w0 w1).buf,.i (dr vs o w0 w1).at_,.i (dr vs o w0 w1).size]:=rfl;have nx:∀G G2,lk G 2=.ptr 0 0→lk G 3=.ptr 1 0→lk G 80=.lst (Oi os) os.length 7→lk G 81=.i os.length→lk G 82=.i ((i:Int)+1)→(∃x,G2=R++x)→Nx G [] G2:=by
   rintro G G2 a2 a3 jF jG jH ⟨x,rfl⟩;exact E _ _ _ ⟨N-1,J,i+1,rfl,J,a2,a3,jF,jG,by rw[jH];simp,Ab,by rw[M5 B];exact L,by rw[M5 z];exact H⟩
  by_cases hd:0≤o.d
  ·obtain⟨jQ,gD⟩:=zlp (W6 vs) (λo=>Rz vs o.d) os mz gY o jE hd;have jR:W6 vs o≤(dr vs o w0 w1).size:=by
    unfold dr;cases hp:Rz vs o.d with
    |true =>
     rw[hp]at gD;rw[Ij rfl,h.w0s];exact gD
    |false =>
     rw[hp]at gD;rw[Ii Ad,h.w1s];exact gD
   have gV:¬(dr vs o w0 w1).size<W6 vs o:=J
   simp[gU,F,D,C,hd,↓M5 B,↓M5 z,L,H,M3];rw[←F];refine Nb (zav vs o Z) (bors_self _ (by simp[dats,LV.dat,Ph,F])) ?_;simp[F,gV,gC];exact⟨J,nx _ _ Bc Ae Fk (by simp[gB]) (by simp) ⟨_,rfl⟩⟩
  ·simp[gU,F,D,C,hd,gC];exact⟨J,nx _ _ Bc Ae Fk (by simp[gB]) (by simp) ⟨_,rfl⟩⟩
 simp[gB,gC,X]
def zfs(B:vs.length≤1000000)(E:bs.length≤1000000)(h:Ng vs os rs=false∨Uy vs bs ps w0 w1=false):Na 13 [.agg (M3 vs os rs),.agg (Nj bs ps w0 w1)] (.i 2) []:=by
 have C:dats (M3 vs os rs)=true:=Ai
 have g:(M3 vs os rs).length=3:=rfl;have j:(M3 vs os rs).take 3=M3 vs os rs:=rfl;have z:(Nj bs ps w0 w1).length=8:=rfl;have A:(Nj bs ps w0 w1).take 8=Nj bs ps w0 w1:=rfl;refine Np.val rfl (Nd r_buffers_Check k_buffers_Check N ?_);simp[z4s,g,j,z,A];refine Nb (ny vs os rs J) (bors_self _ (by simp[dats,LV.dat,C])) ?_;cases D:Ng vs os rs with
 |false=>simp[N3,D]
 |true =>
  rcases h with h|h
  ·rw[D]at h;cases h
  ·simp[N3,D,g,j,z,A,M3];refine Nb (zas vs bs ps w0 w1 B J) (bors_self _ (by simp[dats,LV.dat,Ph,Qj])) ?_;simp[ku,h]
end made
end
def zfj:LC:=(.q [.e 2] (.q [.m 4 0,.s 5 4,.m 3 5] (.seq (.block 0 (.loop (.seq (.q [.m 6 3,.b 7 .gtr 3 6 0,.m 8 7,.my 9 8 0,.my 10 8 3,.y 11 8 (.bin .sub true 3 (.t 10) (.k 1)),.y 12 8 (.ixAddr 1 (.t 9) (.t 11)),.yl 13 8 12,.y 14 8 (.bin .eql true 43 (.t 13) (.c (.u 0))),.q 15 8 14] (.cond (.t 15) .skip (.exit 0))) (.block 1 (.ops [.m 16 3,.b 17 .sub 3 16 1,.m 3 17]))))) (.q [.z 18 (.buildSl 1 0 [] []),.m 19 0,.m 20 3,.z 21 (.slSl 1 (.t 19) none (some (.t 20))),.a 22 1 18 21,.m 2 22] .ret))))
def r_ref02_Trim:Nf Tryz.prog 63=some ⟨23,zfj.r,[.tmp 2]⟩:=Aa
def zbz:LC:=(.q [.e 2] (.seq (.block 0 (.loop (.seq (.q [.m 3 0,.s 4 3,.b 5 .gtr 3 4 0,.m 6 5,.my 7 6 0,.my 8 6 0,.y 9 6 (.lenSl (.t 8)),.y 10 6 (.bin .sub true 3 (.t 9) (.k 1)),.y 11 6 (.ixAddr 1 (.t 7) (.t 10)),.yl 12 6 11,.y 13 6 (.bin .eql true 43 (.t 12) (.c (.u 0))),.q 14 6 13] (.cond (.t 14) .skip (.exit 0))) (.block 1 (.ops [.m 15 0,.m 16 0,.s 17 16,.b 18 .sub 3 17 1,.z 19 (.slSl 1 (.t 15) none (some (.t 18))),.m 0 19]))))) (.q [.m 20 0,.m 2 20] .ret)))
def r_nat_row_trim:Nf Tryz.prog 113=some ⟨21,zbz.r,[.tmp 2]⟩:=Aa
def zjk:LC:=(.q [.e 2] (.q [.z 3 (.buildSl 1 0 [] []),.m 4 0,.w 5 113 4,.a 6 1 3 5,.m 2 6] .ret))
def r_nat_Trim:Nf Tryz.prog 66=some ⟨7,zjk.r,[.tmp 2]⟩:=Aa
def z6p(a:List UInt64)(L:a.length≤1048576):Na 63 [LU a] (.dy 0 0) [RU (Oe (val a))]:=by
 refine Np.row (Nd r_ref02_Trim Aa (by simp) ?_);simp[zfj];refine zx0 (λG I K z=>I=[]∧K=[]∧z≤a.length∧lk G 0=LU a∧lk G 3=.i z∧val (a.take z)=val a) (N:=a.length) (by simp) ?_;rintro z G I K ⟨rfl,rfl,M,C,D,F⟩;simp at C;have A:(z=0∨a.getD (z-1) 0≠0)→Oe (val a)=a.take z:=by
  intro h;rw[←F];refine toL_val ?_;rcases h with rfl|h
  ·exact .inl (by simp)
  ·by_cases E:z=0
   ·subst E;exact .inl (by simp)
   ·have:z=(z-1)+1:=J
    rw[this,z5t J];exact zsd h
 by_cases E:z=0
 ·subst E;have B:=A (.inl rfl);simp at D B;simp[C,D,B,Rj];exact⟨0,1,⟨rfl,rfl⟩,by simp⟩
 ·obtain⟨n,rfl⟩:∃n,z=n+1:=⟨z-1,J⟩;have g:n<a.length:=J
  have H:((n:Int)+1-1).toNat=n:=J
  simp[C,D,g,H];refine⟨J,λj=>⟨J,n,J,J,rfl,?_⟩,λj=>⟨J,J,J,?_⟩⟩
  ·rw[←F,z8v g];simp[g,j]
  ·have B:=A (.inr (by simpa [g] using j));refine .inr ⟨0,1,1,rfl,?_⟩;rw[B];simp[L0];omega
def zhy(a:List UInt64)(h:P (LU (Oe (val a))) F)(O:a.length≤1048576):O6 (.fn 113) [LU a] F P:=by
 refine Nd r_nat_row_trim Aa (by simp) ?_;simp[zbz];refine zx0 (λL M G z=>M=[]∧G=F∧z≤a.length∧lk L 0=LU (a.take z)∧val (a.take z)=val a) (N:=a.length) (by simp) ?_;rintro z L M G ⟨rfl,rfl,I,C,H⟩;have j:(a.take z).length=z:=Ab
 simp[j,-List.map_take,-List.length_take]at C;have B:(z=0∨a.getD (z-1) 0≠0)→Oe (val a)=a.take z:=by
  intro h;rw[←H];refine toL_val ?_;rcases h with rfl|h
  ·exact .inl (by simp)
  ·by_cases E:z=0
   ·subst E;exact .inl (by simp)
   ·have:z=(z-1)+1:=J
    rw[this,z5t J];exact zsd h
 by_cases E:z=0
 ·subst E;have D:=B (.inl rfl);simp at C D;simp[D]at h;simp[C,h]
 ·obtain⟨n,rfl⟩:∃n,z=n+1:=⟨z-1,J⟩;have g:n<a.length:=J
  have K:((n:Int)+1-1).toNat=n:=J
  simp[C,g,K];refine⟨J,J,λA=>⟨J,n,J,J,⟨by rw[Lr];congr 1;omega,J⟩,?_⟩,λA=>?_⟩
  ·rw[←H,z8v g];simp[g,A]
  ·have D:=B (.inr (by simpa [g] using A));rw[D]at h;simpa [j,I] using h
def z8p(a:List UInt64)(g:a.length≤1048576):Na 66 [LU a] (.dy 0 0) [RU (Oe (val a))]:=by
 have j:=en a;refine Np.row (Nd r_nat_Trim Aa N ?_);simp[zjk];refine zhy a ?_ g;simp;exact⟨J,.inr ⟨0,1,1,rfl,N⟩⟩
def zd7:LC:=(.q [.e 4,.K 5 0] (.seq (.q [.m 7 1,.b 8 .lss 3 7 0,.m 9 8,.mn 10 9 1,.nb 11 9 .gtr 3 10 512,.p 12 9 11] (.cond (.t 12) (.q [.e 4,.K 5 2] .ret) .skip)) (.q [.m 13 0,.w 14 66 13,.m 6 14] (.seq (.q [.m 15 6,.s 16 15,.m 17 1,.c 18 .gtr 3 16 17] (.cond (.t 18) (.q [.e 4,.K 5 3] .ret) .skip)) (.q [.m 19 6,.m 20 1,.m 21 6,.s 22 21,.c 23 .sub 3 20 22,.z 24 (.appZ 1 [(.u 0)] (.t 19) (.t 23)),.m 4 24,.K 5 0] .ret)))))
def r_nat_Fit:Nf Tryz.prog 61=some ⟨25,zd7.r,[.tmp 4,.tmp 5]⟩:=Aa
def zdo:LC:=(.q [.e 4] (.seq (.q [.K 6 0] (.block 0 (.loop (.q [.b 7 .lss 3 6 8] (.seq (.cond (.t 7) .skip (.exit 0)) (.seq (.block 1 (.q [.m 8 6,.m 5 8] (.ops [.m 9 0,.m 10 1,.m 11 5,.z 12 (.bin .mul true 3 (.k 8) (.t 11)),.c 13 .shr 43 10 12,.z 14 (.cvInt .u8 (.t 13)),.z 15 (.buildSl 1 1 [(.b 0)] [(0,1,.t 14)]),.a 16 1 9 15,.m 0 16]))) (.ops [.b 17 .add 3 6 1,.m 6 17]))))))) (.q [.m 18 0,.m 4 18] .ret)))
def r_marshal_put:Nf Tryz.prog 67=some ⟨19,zdo.r,[.tmp 4]⟩:=Aa
def zaq:LC:=(.q [.z 4 (.move (.c (.str []))),.K 5 0] (.q [.m 12 0,.m 13 1,.W 14 61 12 13,.m 11 14,.X 15 0 11,.X 16 1 11,.m 6 15,.m 7 16] (.seq (.q [.m 17 7,.b 18 .neq 35 17 0] (.cond (.t 18) (.q [.m 19 7,.z 4 (.move (.c (.str []))),.m 5 19] .ret) .skip)) (.q [.e 8] (.seq (.q [.m 20 6,.s 21 20,.K 22 0] (.block 0 (.loop (.q [.c 23 .lss 3 22 21] (.seq (.cond (.t 23) .skip (.exit 0)) (.seq (.block 1 (.q [.I 24 1 20 22,.l 25 24,.m 10 25] (.ops [.m 26 8,.m 27 10,.W 28 67 26 27,.m 8 28]))) (.ops [.b 29 .add 3 22 1,.m 22 29]))))))) (.q [.m 30 8,.z 31 (.cvStr (.t 30)),.m 4 31,.K 5 0] .ret))))))
def r_marshal_Bytes:Nf Tryz.prog 28=some ⟨32,zaq.r,[.tmp 4,.tmp 5]⟩:=Aa
def z6j:LC:=(.q [.e 2,.K 3 0] (.seq (.block 0 (.q [.m 7 0,.z 8 (.lenStr (.t 7)),.b 9 .rem 3 8 8,.b 10 .neq 3 9 0,.m 6 10] (.cond (.t 6) (.q [.e 2,.K 3 2] .ret) (.q [.m 12 0,.z 13 (.lenStr (.t 12)),.b 14 .gtr 3 13 4096,.m 11 14] (.cond (.t 11) (.q [.e 2,.K 3 3] .ret) .skip))))) (.q [.z 4 (.alloc [.nilSl])] (.seq (.q [.m 15 0,.z 16 (.cvBytes (.t 15)),.z 17 (.w 68 [.t 16,.k 8])] (.block 1 (.rangeF (.t 17) [18] (.ops [.m 5 18]) (.block 2 (.draw [(.l 19 4,[]),(.m 20 5,[]),(.w 21 69 20,[(.l 19 4,false)]),(.z 22 (.buildSl 1 1 [(.u 0)] [(0,1,.t 21)]),[(.l 19 4,false)]),(.a 23 1 19 22,[]),(.S 1 4 23,[])]))))) (.q [.l 24 4,.w 25 66 24,.m 2 25,.K 3 0] .ret)))))
def r_marshal_Nat:Nf Tryz.prog 30=some ⟨26,z6j.r,[.tmp 2,.tmp 3]⟩:=Aa
def zc2:LC:=(.q [.z 2 (.move (.c (.u 0)))] (.seq (.q [.m 5 0,.s 6 5,.K 7 0] (.block 0 (.loop (.q [.c 8 .lss 3 7 6] (.seq (.cond (.t 8) .skip (.exit 0)) (.seq (.block 1 (.q [.m 9 7,.I 10 1 5 7,.l 11 10,.m 3 9,.m 4 11] (.ops [.m 12 2,.m 13 4,.z 14 (.cvInt .u64 (.t 13)),.m 15 3,.z 16 (.bin .mul true 3 (.k 8) (.t 15)),.c 17 .shl 43 14 16,.c 18 .or 43 12 17,.m 2 18]))) (.ops [.b 19 .add 3 7 1,.m 7 19]))))))) (.q [.m 20 2,.m 2 20] .ret)))
def r_marshal_limb:Nf Tryz.prog 69=some ⟨21,zc2.r,[.tmp 2]⟩:=Aa
def z4c:LC:=(.q [.x 2 0,.x 3 1,.z 4 (.move (.c .nilFn))] (.seq (.q [.l 5 3,.b 6 .lss 3 5 1] (.cond (.t 6) .stuck .skip)) (.q [.z 8 (.mkFunc 114 [] [.t 2,.t 3]),.m 4 8] .ret)))
def r_slices_Chunk_byte_byte:Nf Tryz.prog 68=some ⟨9,z4c.r,[.tmp 4]⟩:=Aa
def z3t:LC:=(.q [.K 4 0] (.block 0 (.loop (.seq (.q [.m 6 4,.l 7 1,.s 8 7,.c 9 .lss 3 6 8] (.cond (.t 9) .skip (.exit 0))) (.seq (.block 1 (.seq (.draw [(.l 13 2,[]),(.l 14 1,[]),(.m 15 4,[]),(.z 16 (.slSl 1 (.t 14) (some (.t 15)) none),[]),(.s 17 16,[]),(.z 18 (.maxi false (.t 13) (.t 17)),[]),(.m 5 18,[])]) (.q [.m 19 0,.l 20 1,.m 21 4,.m 22 4,.m 23 5,.c 24 .add 3 22 23,.m 25 4,.m 26 5,.c 27 .add 3 25 26,.z 28 (.slSl3 1 (.t 20) (some (.t 21)) (some (.t 24)) (.t 27)),.z 29 (.callV (.t 19) [.t 28]),.z 30 (.un .not (.t 29))] (.cond (.t 30) .ret .skip)))) (.ops [.m 10 4,.l 11 2,.c 12 .add 3 10 11,.m 4 12]))))))
def r_slices_Chunk_byte_byte_1:Nf Tryz.prog 114=some ⟨31,z3t.r,[]⟩:=Aa
def z55:LC:=(.q [.F 4] (.seq (.q [.m 6 0,.s 7 6,.m 8 1,.s 9 8,.c 10 .neq 3 7 9] (.cond (.t 10) (.q [.F 4] .ret) .skip)) (.seq (.q [.K 5 0] (.block 0 (.loop (.seq (.q [.m 11 5,.m 12 0,.s 13 12,.c 14 .lss 3 11 13] (.cond (.t 14) .skip (.exit 0))) (.seq (.block 1 (.seq (.draw [(.m 17 0,[]),(.m 18 5,[]),(.I 19 1 17 18,[]),(.l 20 19,[]),(.m 21 1,[]),(.m 22 5,[]),(.I 23 1 21 22,[]),(.l 24 23,[]),(.c 25 .neq 43 20 24,[])]) (.cond (.t 25) (.q [.F 4] .ret) .skip))) (.ops [.m 15 5,.b 16 .add 3 15 1,.m 5 16])))))) (.q [.z 4 (.move .T)] .ret))))
def r_kit_Same_uint64:Nf Tryz.prog 34=some ⟨26,z55.r,[.tmp 4]⟩:=Aa
def zew(a:List UInt64)(n:Int)(A:a.length≤1000000):Na 61 [LU a,.i n] (.tup [.dy 0 0,.i (Og a n)]) [RU (N4 a n)]:=by
 refine Np.rowE (Nd r_nat_Fit Aa N ?_);have B:=en a;by_cases g:n<0
 ·have e:Og a n=2:=Ij (.inl g);simp[zd7,g,e,N4,Rj]
 ·by_cases z:512<n
  ·have e:Og a n=2:=Ij (.inr z);simp[zd7,g,z,e,N4,Rj]
  ·simp[zd7,g,z];refine zdl (z8p a J) N ?_;by_cases j:n<(Oe (val a)).length
   ·have e:Og a n=3:=by unfold Og;rw[Ii J,Ij j]
    simp[RU,j,e,N4,Rj]
   ·have e:Og a n=0:=by unfold Og;rw[Ii J,Ii j]
    simp[RU,j,e,N4];refine⟨J,λC=>⟨J,J,J,J,.inr ⟨0,1,1,rfl,?_⟩⟩⟩;rw[repU];simp
def zj0{v:LV}{l:List UInt8}{n:UInt64}(h:Qd F v l)(I:l.length≤1000000)(k:∀g j,Qd j g (l++Xh n 8)→P g j):O6 (.fn 67) [v,.u n] F P:=by
 refine Nd r_marshal_put Aa (by simp) ?_;simp[zdo];refine Ns (λD H F N=>∃i:Nat,H=[]∧N+i=8∧lk D 1=.u n∧lk D 6=.i i∧Qd F (lk D 0) (l++Xh n i)) (N:=8) ⟨0,by simpa [Xh] using h⟩ ?_;rintro N D H F ⟨i,rfl,K,B,z,C⟩ L A;by_cases M:N=0
 ·have hi:i=8:=J
  subst hi;simp[z];exact k _ _ C
 ·have hi:(i:Int)<8:=J
  simp[z,B,hi];refine⟨J,J,?_⟩;have E:(8*(i:Int)).toNat=8*i:=J
  refine zk6 (C.app _) (xs:=[uB (Py n (8*i))]) rfl Aw (by simp[z6k];omega) (λg j G _=>?_);simp[z];refine⟨J,A _ _ _ ⟨N-1,J,i+1,rfl,J,Ax,by simp,by simpa [Xh] using G⟩⟩
def z9p(a:List UInt64)(n:Int)(F:a.length≤1000000):Na 28 [LU a,.i n] (.tup [.str (T3 (N4 a n)),.i (Og a n)]) []:=by
 refine Np.val rfl (Nd r_marshal_Bytes Aa (by simp) ?_);simp[zaq];refine Nb (zew a n F) (by simp) ?_;by_cases B:Og a n=0
 ·have z:(N4 a n).length≤1000:=by
   have:=zcl B;omega
  generalize N4 a n=x at z;simp[B,RU];refine Ns (λD H I N=>∃i:Nat,H=[]∧N+i=x.length∧lk D 20=LU x∧lk D 21=.i x.length∧lk D 22=.i i∧Qd I (lk D 8) (T3 (x.take i))) (N:=x.length) ⟨0,by simp[T3,Qd]⟩ ?_;rintro N D H I ⟨i,rfl,K,A,g,j,E⟩ L C;by_cases M:N=0
  ·have hi:i=x.length:=J
   subst hi;simp[j,g];refine Qd.str E ?_;simp
  ·have hi:i<x.length:=J
   simp[j,g,A,hi];refine zj0 E (by rw[bytesUs_length];simp;omega) (λO P G=>?_);simp[j];refine⟨J,C _ _ _ ⟨N-1,J,i+1,rfl,J,Af,Ay,by simp,?_⟩⟩;rw[zfp hi];simpa [hi] using G
 ·have e:N4 a n=[]:=Ii B;simp[B,e,RU,T3]
def zb1(s:List UInt8)(F:s.length≤8):Na 69 [LB s] (.u (Qw s s.length)) []:=by
 refine Np.val rfl (Nd r_marshal_limb Aa (by simp) ?_);simp[zc2];refine Ns (λz E G N=>∃i:Nat,E=[]∧N+i=s.length∧lk z 5=LB s∧lk z 6=.i s.length∧lk z 7=.i i∧lk z 2=.u (Qw s i)) (N:=s.length) ⟨0,by simp[Qw]⟩ ?_;rintro N z E G ⟨i,rfl,H,A,g,B,C⟩ I j;by_cases K:N=0
 ·have hi:i=s.length:=J
  subst hi;simp[B,g,C]
 ·have hi:i<s.length:=J
  simp[B,g,A,C,hi];refine⟨J,J,J,j _ _ _ ⟨N-1,J,i+1,rfl,J,Af,Ay,by simp,?_⟩⟩;have D:(8*(i:Int)).toNat=8*i:=J
  simp[Qw,hi,D]

def zdw:LC:=(.q [.e 2,.K 3 0] (.seq (.block 0 (.loop (.seq (.q [.m 7 0,.z 8 (.bin .neq true 9 (.t 7) (.c (.str [])))] (.cond (.t 8) .skip (.exit 0))) (.block 1 (.seq (.q [.m 9 0,.z 10 (.lenStr (.t 9)),.b 11 .lss 3 10 8] (.cond (.t 11) (.q [.e 2,.K 3 2] .ret) .skip)) (.q [.m 12 0,.z 13 (.slStr (.t 12) none (some (.k 8))),.z 14 (.cvBytes (.t 13)),.w 15 69 14,.m 4 15] (.q [.m 16 0,.z 17 (.slStr (.t 16) (some (.k 8)) none),.m 0 17] (.seq (.q [.m 18 4,.u 19 .gtr 43 18 512,.m 20 19,.mn 21 20 0,.n 22 20 (.lenStr (.t 21)),.n 23 20 (.cvInt .u64 (.t 22)),.mn 24 20 4,.n 25 20 (.bin .mul true 43 (.c (.u 8)) (.t 24)),.n 26 20 (.bin .lss false 43 (.t 23) (.t 25)),.p 27 20 26] (.cond (.t 27) (.q [.e 2,.K 3 2] .ret) .skip)) (.q [.m 29 0,.m 30 4,.z 31 (.bin .mul true 43 (.c (.u 8)) (.t 30)),.z 32 (.slStr (.t 29) none (some (.t 31))),.w 33 30 32,.m 28 33,.X 34 0 28,.X 35 1 28,.m 5 34,.m 6 35] (.seq (.q [.m 36 6,.b 37 .neq 35 36 0] (.cond (.t 37) (.q [.m 38 6,.e 2,.m 3 38] .ret) .skip)) (.q [.m 39 2,.m 40 5,.z 41 (.buildSl 1 1 [.nilSl] [(0,1,.t 40)]),.a 42 1 39 41,.m 2 42] (.ops [.m 43 0,.m 44 4,.z 45 (.bin .mul true 43 (.c (.u 8)) (.t 44)),.z 46 (.slStr (.t 43) (some (.t 45)) none),.m 0 46])))))))))))) (.q [.m 47 2,.m 2 47,.K 3 0] .ret)))
def r_marshal_Row:Nf Tryz.prog 32=some ⟨48,zdw.r,[.tmp 2,.tmp 3]⟩:=Aa
def zaa:LC:=(.q [.F 6] (.seq (.q [.K 7 0] (.block 0 (.loop (.seq (.q [.m 8 7,.m 9 0,.s 10 9,.c 11 .lss 3 8 10] (.cond (.t 11) .skip (.exit 0))) (.seq (.block 1 (.q [.m 14 0,.m 15 7,.I 16 1 14 15,.l 17 16,.s 18 17,.m 19 2,.c 20 .gtr 3 18 19] (.cond (.t 20) (.q [.F 6] .ret) .skip))) (.ops [.m 12 7,.b 13 .add 3 12 1,.m 7 13])))))) (.q [.m 21 0,.s 22 21,.m 23 1,.c 24 .leq 3 22 23,.m 6 24] .ret)))
def r_kit_LightNats:Nf Tryz.prog 17=some ⟨25,zaa.r,[.tmp 6]⟩:=Aa
def z7o:LC:=(.q [.F 4] (.seq (.q [.m 9 0,.s 10 9,.m 11 1,.s 12 11,.c 13 .neq 3 10 12] (.cond (.t 13) (.q [.F 4] .ret) .skip)) (.seq (.q [.K 5 0] (.block 0 (.loop (.seq (.q [.m 14 5,.m 15 0,.s 16 15,.c 17 .lss 3 14 16] (.cond (.t 17) .skip (.exit 0))) (.seq (.block 1 (.q [.K 6 0] (.block 2 (.loop (.seq (.seq (.draw [(.m 20 6,[]),(.m 21 0,[]),(.m 22 5,[]),(.I 23 1 21 22,[]),(.l 24 23,[]),(.s 25 24,[]),(.m 26 1,[]),(.m 27 5,[]),(.I 28 1 26 27,[]),(.l 29 28,[]),(.s 30 29,[]),(.z 31 (.maxi true (.t 25) (.t 30)),[]),(.c 32 .lss 3 20 31,[])]) (.cond (.t 32) .skip (.exit 2))) (.seq (.block 3 (.q [.z 7 (.move (.c (.u 0))),.z 8 (.move (.c (.u 0)))] (.seq (.q [.m 35 6,.m 36 0,.m 37 5,.I 38 1 36 37,.l 39 38,.s 40 39,.c 41 .lss 3 35 40] (.cond (.t 41) (.ops [.m 42 0,.m 43 5,.I 44 1 42 43,.l 45 44,.m 46 6,.I 47 1 45 46,.l 48 47,.m 7 48]) .skip)) (.seq (.q [.m 49 6,.m 50 1,.m 51 5,.I 52 1 50 51,.l 53 52,.s 54 53,.c 55 .lss 3 49 54] (.cond (.t 55) (.ops [.m 56 1,.m 57 5,.I 58 1 56 57,.l 59 58,.m 60 6,.I 61 1 59 60,.l 62 61,.m 8 62]) .skip)) (.q [.m 63 7,.m 64 8,.c 65 .neq 43 63 64] (.cond (.t 65) (.q [.F 4] .ret) .skip)))))) (.ops [.m 33 6,.b 34 .add 3 33 1,.m 6 34]))))))) (.ops [.m 18 5,.b 19 .add 3 18 1,.m 5 19])))))) (.q [.z 4 (.move .T)] .ret))))
def r_kit_SameNats:Nf Tryz.prog 35=some ⟨66,z7o.r,[.tmp 4]⟩:=Aa
def zfx(l:List (List UInt64))(n m:Int)(I:l.length≤9223372036854775807):Na 17 [LN l,.i n,.i m] (.bool (decide (l.length≤n∧∀x∈l,(x.length:Int)≤m))) []:=by
 refine Np.val rfl (Nd r_kit_LightNats Aa (by simp) ?_);simp[zaa];refine Ns (λF H K N=>∃i:Nat,H=[]∧N+i=l.length∧lk F 0=LN l∧lk F 1=.i n∧lk F 2=.i m∧lk F 7=.i i∧∀x∈l.take i,(x.length:Int)≤m) (N:=l.length) ⟨0,by simp⟩ ?_;rintro N F H K ⟨i,rfl,L,j,z,B,C,hm⟩ M D;by_cases O:N=0
 ·have hi:i=l.length:=J
  subst hi;rw[Ls]at hm;simp[j,z,C];exact λ_=>hm
 ·have hi:i<l.length:=J
  by_cases A:m<((l.getD i []).length:Int)
  ·have G:¬(l.length≤n∧∀x∈l,(x.length:Int)≤m):=λh=>by
    have:=h.2 (l.getD i []) (by simp[hi]);omega
   simp[hi]at A;simp[j,z,B,C,hi,A];simpa using G
  ·have E:∀x∈l.take (i+1),(x.length:Int)≤m:=by
    intro x g;rw[J3 hi]at g;rcases I2.1 g with h|h
    ·exact hm x h
    ·simp at h;subst h;simpa [hi] using A
   simp[hi]at A;have g:¬m<(l[i].length:Int):=J
   simp[j,z,B,C,hi,g];exact⟨J,D _ _ _ ⟨N-1,J,i+1,rfl,J,Au,As,Ax,by simp,E⟩⟩
def z9a(a b:List UInt64)(I:a.length≤1000000000):Na 34 [LU a,LU b] (.bool (decide (a=b))) []:=by
 refine Np.val rfl (Nd r_kit_Same_uint64 Aa (by simp) ?_);by_cases g:a.length=b.length
 ·simp[z55,g];refine Ns (λG H K N=>∃i:Nat,H=[]∧N+i=a.length∧lk G 0=LU a∧lk G 1=LU b∧lk G 5=.i i∧a.take i=b.take i) (N:=a.length) ⟨0,Ay⟩ ?_;rintro N G H K ⟨i,rfl,L,A,C,D,F⟩ M E;by_cases O:N=0
  ·have hi:i=a.length:=J
   subst hi;have e:a=b:=by rwa [Ls,g,Ls]at F
   subst e;simp[A,D]
  ·have hi:i<a.length:=J
   have j:i<b.length:=J
   by_cases B:a[i]=b[i]
   ·simp[A,C,D,hi,j,B];refine⟨J,E _ _ _ ⟨N-1,J,i+1,rfl,J,Af,Ae,by simp,?_⟩⟩;rw[J3 hi,J3 j,F,B]
   ·have e:a≠b:=λe=>B (by subst e;rfl)
    simp[A,C,D,hi,j,B,e]
 ·have e:a≠b:=λe=>g Co
  have z:¬(a.length:Int)=b.length:=J
  simp[z55,g,z,e]
def du(a b:List (List UInt64))(hl:a.length≤1000000000)(ha:∀x∈a,x.length≤1000000000)(hb:∀x∈b,x.length≤1000000000):Na 35 [LN a,LN b] (.bool (decide (a.map val=b.map val))) []:=by
 refine Np.val rfl (Nd r_kit_SameNats Aa (by simp) ?_);by_cases j:a.length=b.length
 ·simp[z7o,j];refine Ns (λR gB gC N=>∃i:Nat,gB=[]∧N+i=a.length∧lk R 0=LN a∧lk R 1=LN b∧lk R 5=.i i∧∀gj,gj<i→val (a.getD gj [])=val (b.getD gj [])) (N:=a.length) ⟨0,Au⟩ ?_;rintro N R gB gC ⟨i,rfl,hN,T,h1,U,ht⟩ Nx V;by_cases hz:N=0
  ·have hi:i=a.length:=J
   subst hi;have e:=i5 j ht;simp[T,U,e]
  ·have hi:i<a.length:=J
   have z:i<b.length:=J
   simp[T,U,hi];obtain⟨x,X⟩:∃x,a.getD i []=x:=⟨_,rfl⟩;obtain⟨y,Y⟩:∃y,b.getD i []=y:=⟨_,rfl⟩;have A:a[i]=x:=by simpa [hi] using X
   have B:b[i]=y:=by simpa [z] using Y
   have lx:x.length≤1000000000:=ha x (by rw[←A];simp);have ly:y.length≤1000000000:=hb y (by rw[←B];simp);refine Ns (λR gB gC N=>∃k:Nat,gB=[]∧N+k=max x.length y.length∧lk R 0=LN a∧lk R 1=LN b∧lk R 5=.i i∧lk R 6=.i k∧val (x.take k)=val (y.take k)) (N:=max x.length y.length) ⟨0,by simp[T,h1,U]⟩ ?_;rintro gD R gB gC ⟨k,rfl,hM,C,D,F,S,Z⟩ Mx G;have next:x.getD k 0=y.getD k 0→val (x.take (k+1))=val (y.take (k+1)):=λe=>by rw[ze9,ze9,e,Z]
   have I:x.getD k 0=y.getD k 0→(k<x.length∨k<y.length)→∃E,E<gD∧E+(k+1)=max x.length y.length∧val (x.take (k+1))=val (y.take (k+1)):=λe h=>⟨gD-1,J,J,next e⟩
   have g:x.getD k 0≠y.getD k 0→a.map val≠b.map val:=λe=>ik (i:=i) (k:=k) (by rw[X,Y];exact e)
   by_cases K:k<x.length<;>by_cases L:k<y.length
   ·have H:(k:Int)<max (x.length:Int) (y.length:Int):=J
    simp[K,L]at next g I
    simp[C,D,F,S,hi,z,A,B,K,L,H];refine⟨λe=>⟨J,?_⟩,g⟩;obtain⟨E,M,O,P⟩:=I e;exact G _ _ _ ⟨E,M,k+1,rfl,O,Ae,Bc,Ci,by simp,P⟩
   ·have H:(k:Int)<max (x.length:Int) (y.length:Int):=J
    have ey:y[k]?=none:=Ab
    simp[K,ey]at next g I
    simp[C,D,F,S,hi,z,A,B,K,L,H];refine⟨λe=>⟨J,?_⟩,g⟩;obtain⟨E,M,O,P⟩:=I e;exact G _ _ _ ⟨E,M,k+1,rfl,O,Ae,Bc,Ci,by simp,P⟩
   ·have H:(k:Int)<max (x.length:Int) (y.length:Int):=J
    have ex:x[k]?=none:=Ab
    simp[L,ex]at next g I
    simp[C,D,F,S,hi,z,A,B,K,L,H];refine⟨λe=>⟨J,?_⟩,g⟩;obtain⟨E,M,O,P⟩:=I e;exact G _ _ _ ⟨E,M,k+1,rfl,O,Ae,Bc,Ci,by simp,P⟩
   ·have H:¬(k:Int)<max (x.length:Int) (y.length:Int):=J
    rw[zf8 J,zf8 J]at Z;simp[C,D,F,S,hi,z,A,B,H];refine⟨J,V _ _ _ ⟨N-1,J,i+1,rfl,J,Ae,Bc,by simp,λgj hj=>?_⟩⟩;by_cases gg:gj=i
    ·subst gg;rw[X,Y];exact Z
    ·exact ht gj J
 ·have e:a.map val≠b.map val:=λe=>j (by simpa using congrArg List.length e)
  have Q:¬(a.length:Int)=b.length:=J
  simp[z7o,j,Q,e]







def RV(g:M4)(v:LV)(l:List UInt64):Prop:=v=LU l∨(v=.nilSl∧l=[])∨∃q st,v=.dy q 0∧g[q]?=some (.dyn (l.map .u) l.length 1 0 st)
def zay:LC:=(.q [.x 2 0,.e 4] (.seq (.q [.L 8 3 2,.w 9 43 8,.b 10 .neq 35 9 0] (.cond (.t 10) (.q [.e 4] .ret) .skip)) (.q [.e 5] (.seq (.q [.f 11 0 2,.l 12 11,.s 13 12,.K 14 0] (.block 0 (.loop (.q [.c 15 .lss 3 14 13] (.seq (.cond (.t 15) .skip (.exit 0)) (.seq (.block 1 (.q [.m 16 14,.I 17 3 12 14,.L 18 3 17,.z 7 (.alloc [(.i 0),(.bool false),(.i 0)]),.m 6 16,.S 3 7 18] (.q [.m 19 1,.L 20 3 7,.z 21 (.callV (.t 19) [.t 20])] (.cond (.t 21) (.ops [.m 22 5,.m 23 6,.z 24 (.buildSl 1 1 [(.i 0)] [(0,1,.t 23)]),.a 25 1 22 24,.m 5 25]) .skip)))) (.ops [.b 26 .add 3 14 1,.m 14 26]))))))) (.q [.m 27 5,.m 4 27] .ret)))))
def r_lengths_those:Nf Tryz.prog 146=some ⟨28,zay.r,[.tmp 4]⟩:=Aa
def zfr:LC:=(.q [.x 1 0,.e 2] (.q [.L 3 3 1,.z 4 (.w 146 [.t 3,(.c (.fn (.func 75) [] []))]),.m 2 4] .ret))
def r_lengths_In:Nf Tryz.prog 110=some ⟨5,zfr.r,[.tmp 2]⟩:=Aa
def Qi(l:List Nat):List LV:=l.map λn:Nat=>.i n
def qf(l:List Nat):dats (Qi l)=true:=Un (λ_=>rfl) l
def zw4{l:List Nat}{j:Nat}(h:j<l.length):(Qi l)[j]?=some (.i (l.getD j 0)):=by
 simp[Qi,Ie,h]
def am(g:List Vr)(j z:List Ko)(f:Nat)(p:Vr→Bool)(Y:∀v:Vr,Na f [.agg v.f] (.bool (p v)) [])(H:g.length≤9223372036854775807) :
  Qh 146 [.agg (M3 g j z),.fn (.func f) [] []] (.lst (Qi (if Ng g j z=true then Q8 p g g.length else [])) (if Ng g j z=true then Q8 p g g.length else []).length 1):=by
 have I:dats (M3 g j z)=true:=Ai
 refine Sf.mk Ga (Nd r_lengths_those Aa (by simp) ?_);have K:(M3 g j z).length=3:=rfl;have L:(M3 g j z).take 3=M3 g j z:=rfl;simp[zay,K,L];refine Nb (ny g j z H) (bors_self _ Fb) ?_;cases M:Ng g j z with
 |false=>simp[N3,M,O1,bor,Qi]
 |true =>
 have Z:g.length≤256:=by
  have h:=M;unfold Ng at h;simp only[H9]at h;exact (oh h.1).2
 simp[N3,M,M3];refine Ns (λT gD gg X=>∃(i:Nat) (v:LV),gD=[]∧X+i=g.length∧lk T 1=.fn (.func f) [] []∧lk T 5=v∧lk T 12=.lst (Nr g) g.length 3∧lk T 13=.i g.length∧lk T 14=.i i∧0<gg.length∧Rw 1 gg v 1 (Q8 p g i).length (Qi (Q8 p g i))) (N:=g.length)
  ⟨0,.nilSl,rfl,J,by simp,by simp,by simp,by simp,by simp,by simp,by simpa [Q8,Qi] using Rw.nil⟩ ?_
 rintro X T gD gg ⟨i,v,rfl,hN,O,P,A,B,C,hl,G⟩ Nx F;have gj:=ng p g i;by_cases gB:i<g.length
 ·have q3:=V9 (Qp gB);have Q:=Ty gB;have D:(gv g i).f=[.i (gv g i).limbs,.bool (gv g i).sec,.i (gv g i).mode]:=rfl;have E:=fp p g i;have R:=Y (gv g i);generalize gv g i=x at *;simp[O,A,B,C,gB,q3,Q,D];rw[←D];refine Nb R (bors_self _ (by simp[dats,LV.dat,D])) ?_;cases U:p x with
  |false =>
   simp[C];rw[U]at E;simp at E;refine⟨J,F _ _ _ ⟨X-1,J,i+1,v,rfl,J,Cd,Bk,Af,Ax,by simp,by simp,by rw[E];exact G.push_end⟩⟩
  |true =>
   simp[P];rw[U]at E;simp at E;refine Rw.push (m:=1) (x:=[.i i]) G.push_end J (by simp) J rfl λv' G' S gC V=>?_
   simp[C];refine⟨J,F _ _ _ ⟨X-1,J,i+1,v',rfl,J,Cd,by simp,Af,Ax,by simp,J,?_⟩⟩;rw[E];simpa [Qi] using S
 ·have hi:i=g.length:=J
  subst hi;simp[P,A,B,C];have V:=G.bor (qf _);rcases G with ⟨rfl,_⟩|⟨p,k,st,_,rfl,_,_⟩<;>exact V
def zl0(vs:List Vr)(g j:List Ko)(z:vs.length≤9223372036854775807):Qh 110 [.agg (M3 vs g j)] (.lst (Qi (Xa vs g j)) (Xa vs g j).length 1):=by
 have A:dats (M3 vs g j)=true:=Ai
 refine Sf.mk Ga (Nd r_lengths_In Aa N ?_);have B:(M3 vs g j).length=3:=rfl;have C:(M3 vs g j).take 3=M3 vs g j:=rfl;simp[zfr,B,C];refine Qo (am vs g j _ Ob (λv=>z6a v) z) (by simp[dats,LV.dat,A]) ?_;simp[O1,bor,LV.dat,qf,Xa,za8]

section
section
variable {l w : Int} {n : UInt64} {a b c : Nat}
end
end
def ze1:LC:=(.q [.x 2 0,.K 4 0] (.seq (.q [.L 9 3 2,.w 10 43 9,.m 5 10] (.q [.m 11 5,.b 12 .neq 35 11 0] (.cond (.t 12) (.q [.m 13 5,.m 4 13] .ret) .skip))) (.q [.L 14 3 2,.w 15 110 14,.m 6 15] (.seq (.q [.m 16 6,.s 17 16,.m 18 1,.s 19 18,.c 20 .neq 3 17 19] (.cond (.t 20) (.q [.K 4 2] .ret) .skip)) (.seq (.q [.m 21 6,.s 22 21,.K 23 0] (.block 0 (.loop (.q [.c 24 .lss 3 23 22] (.seq (.cond (.t 24) .skip (.exit 0)) (.seq (.block 1 (.q [.m 25 23,.I 26 1 21 23,.l 27 26,.m 7 25,.m 8 27] (.seq (.draw [(.m 28 1,[]),(.m 29 7,[]),(.I 30 1 28 29,[]),(.l 31 30,[]),(.f 34 0 2,[]),(.l 35 34,[]),(.m 36 8,[]),(.I 37 3 35 36,[]),(.f 38 0 37,[]),(.l 39 38,[]),(.w 32 66 31,[(.l 39 38,false),(.l 35 34,false)]),(.s 33 32,[]),(.c 40 .gtr 3 33 39,[])]) (.cond (.t 40) (.q [.K 4 3] .ret) .skip)))) (.ops [.b 41 .add 3 23 1,.m 23 41]))))))) (.q [.K 4 0] .ret))))))
def r_denote_Fits:Nf Tryz.prog 60=some ⟨42,ze1.r,[.tmp 4]⟩:=Aa
def Pf(l:List (List UInt64)):dats (l.map LU)=true:=Un (λ_=>zrc _) l
def zk{l:List (List UInt64)}{i:Nat}(h:i<l.length):(l.map LU)[i]?=some (LU (l.getD i [])):=by
 simp[Ie,h]
def zqo{l:List (List UInt64)}{i:Nat}:(l.map val).getD i 0=val (l.getD i []):=by
 by_cases h:i<l.length
 ·simp[Ie,h]
 ·simp[Ie,h,val]
def Ww{l:List (List UInt64)}{m:Nat}(hi:∀x∈l,x.length≤m)(i:Nat):(l.getD i []).length≤m:=by
 by_cases h:i<l.length
 ·rw[Ie,Ib h];exact hi _ (Km h)
 ·simp[Ie,h]
def lu(vs:List Vr)(B C:List Ko)(g:List (List UInt64))(O:vs.length≤9223372036854775807)(hi:∀x∈g,x.length≤1000) :
  Na 60 [.agg (M3 vs B C),LN g] (.i (Qb vs B C (g.map val))) []:=by
 have P:dats (M3 vs B C)=true:=Ai
 refine Np.val rfl (Nd r_denote_Fits Aa (by simp) ?_);have Q:(M3 vs B C).length=3:=rfl;have R:(M3 vs B C).take 3=M3 vs B C:=rfl;simp[ze1,Q,R];refine Nb (ny vs B C O) (bors_self _ (by simp[dats,LV.dat,P])) ?_;cases G:Ng vs B C with
 |false=>simp[N3,G,Qb]
 |true =>
 simp[N3,G,Q,R];refine Qo (zl0 vs B C O) (by simp[dats,LV.dat,P]) ?_;have hz:Xa vs B C=Sv.inV vs:=by simp[Xa,G]
 have hv:P6 vs=true:=by unfold Ng at G;simp only[H9]at G;exact G.1
 have gG:vs.length≤256:=(oh hv).2;have gH:=Sv.inV_len vs;rw[hz];by_cases S:(Sv.inV vs).length=g.length
 case neg =>
  have L:¬((Sv.inV vs).length:Int)=g.length:=J
  simp[LN,S,L,Qb,G]
 have L:(Sv.inV vs).length=(g.map val).length:=by simpa using S
 have K:=zi9 L;simp[LN,S];refine Ns (λρ gK gI N=>∃i:Nat,gK=[]∧N+i=g.length∧lk ρ 1=.lst (g.map LU) g.length 1∧lk ρ 2=.ptr 0 0∧lk ρ 21=.lst (Qi (Sv.inV vs)) g.length 1∧lk ρ 22=.i g.length∧lk ρ 23=.i i∧0<gI.length∧gI[0]?=some (.cells (M3 vs B C) 0)∧∀V,V<i→(g.map val).getD V 0<da (gv vs ((Sv.inV vs).getD V 0)).limbs) (N:=g.length)
  ⟨0,rfl,J,by simp,by simp,by simp,by simp,by simp,by simp,Cz,λV hj=>J⟩ ?_
 rintro N ρ gK gI ⟨i,rfl,hN,X,Y,D,E,H,hl,Z,hb⟩ Nx gg;by_cases gF:i<g.length
 ·have hx:=zk gF;have gj:=Ww hi i;have T:(g.map val).getD i 0=val (g.getD i []):=zqo;have q1:=zw4 (l:=Sv.inV vs) (j:=i) J;have A:=X4 (vs:=vs) (j:=i) J;have I:(g.map val).getD i 0<da (gv vs ((Sv.inV vs).getD i 0)).limbs↔((Oe (val (g.getD i []))).length:Int)≤(gv vs ((Sv.inV vs).getD i 0)).limbs:=by
   rw[T];have:=(Ve hv _ (Vt A)).1;exact (zlb _ _ J).symm
  obtain⟨u,hu⟩:∃u,(Sv.inV vs).getD i 0=u:=⟨_,rfl⟩;obtain⟨x,U⟩:∃x,g.getD i []=x:=⟨_,rfl⟩;rw[hu]at q1 A I;rw[U]at hx gj T I;have gB:g[i]=x:=by rw[←U];simp[gF]
  have q0:=dv (Qp A);simp[X,Y,D,E,H,gF,Z,M3,M9 q1,M9 hx,A,M9 q0];refine Nb (z8p x J) (by simp[gB]) ?_;have next:∀M G',lk M 1=.lst (g.map LU) g.length 1→lk M 2=.ptr 0 0→lk M 21=.lst (Qi (Sv.inV vs)) g.length 1→lk M 22=.i g.length→lk M 23=.i ((i:Int)+1)→0<G'.length→G'[0]?=some (.cells (M3 vs B C) 0)→((Oe (val x)).length:Int)≤(gv vs u).limbs→Nx M [] G':=by
   intro M G' a1 a2 gC gD gE b1 b2 b3;refine gg _ _ _ ⟨N-1,J,i+1,rfl,J,a1,a2,gC,gD,by rw[gE];simp,b1,b2,λV hj=>?_⟩;by_cases e:V=i
   ·subst e;rw[hu];exact I.2 b3
   ·exact hb V J
  by_cases F:((Oe (val x)).length:Int)≤(gv vs u).limbs
  ·have z:¬(gv vs u).limbs<((Oe (val x)).length:Int):=J
   simp[RU,X,Y,D,E,H,Z,M3,M9 q0,A,z];refine⟨J,next _ _ Dh Bo Bc Aw (by simp) hl Z F⟩
  ·have z:(gv vs u).limbs<((Oe (val x)).length:Int):=J
   have hf:n4 vs (g.map val)=false:=by
    rw[Bool.eq_false_iff];intro h;have:=K.1 h i (by simpa using gF);rw[hu]at this;exact F (I.1 this)
   simp[RU,X,Y,D,E,H,Z,M3,M9 q0,A,z,Qb,G,S,hf]
 ·have hf:n4 vs (g.map val)=true:=K.2 λV hj=>hb V (by simp at hj;omega)
  simp[D,E,H,gF,Qb,G,S,hf]
section
set_option linter.unusedVariables false
def z34:LC:=(.q [.e 4] (.seq (.q [.m 9 1,.b 10 .lss 3 9 0] (.cond (.t 10) .stuck .skip)) (.q [.m 13 0,.s 14 13,.z 15 (.cvInt .u64 (.t 14)),.m 16 1,.z 17 (.cvInt .u64 (.t 16)),.W 18 111 15 17,.m 12 18,.X 19 0 12,.X 20 1 12,.m 5 19,.m 6 20] (.seq (.q [.m 21 5,.u 22 .gtr 110 21 0,.m 23 22,.mn 24 23 6,.n 25 23 (.bin .gtr true 110 (.t 24) (.c (.u 9223372036854775807))),.p 26 23 25] (.cond (.t 26) .stuck .skip)) (.q [.m 28 6,.z 29 (.cvInt .i64 (.t 28)),.z 30 (.mkSl 1 [(.u 0)] (.t 29) (.t 29)),.m 7 30] (.q [.m 31 7,.m 32 0,.z 33 (.copy 1 (.t 31) (.t 32)),.m 8 33] (.seq (.block 0 (.loop (.seq (.q [.m 34 8,.m 35 7,.s 36 35,.c 37 .lss 3 34 36] (.cond (.t 37) .skip (.exit 0))) (.block 1 (.draw [(.m 38 8,[]),(.m 39 7,[]),(.m 40 8,[]),(.z 41 (.slSl 1 (.t 39) (some (.t 40)) none),[]),(.m 42 7,[]),(.m 43 8,[]),(.z 44 (.slSl 1 (.t 42) none (some (.t 43))),[]),(.z 45 (.copy 1 (.t 41) (.t 44)),[]),(.c 46 .add 3 38 45,[]),(.m 8 46,[])]))))) (.q [.m 47 7,.m 4 47] .ret))))))))
def r_slices_Repeat_uint64_uint64:Nf Tryz.prog 62=some ⟨48,z34.r,[.tmp 4]⟩:=Aa
def z5m:LC:=(.q [.x 4 0,.x 5 1,.e 8,.K 9 0] (.seq (.q [.L 18 3 4,.L 19 8 5,.W 20 13 18 19,.m 10 20] (.q [.m 21 10,.b 22 .neq 35 21 0] (.cond (.t 22) (.q [.m 23 10,.e 8,.m 9 23] .ret) .skip))) (.seq (.q [.L 24 3 4,.m 25 2,.W 26 60 24 25,.m 11 26] (.q [.m 27 11,.b 28 .neq 35 27 0] (.cond (.t 28) (.q [.m 29 11,.e 8,.m 9 29] .ret) .skip))) (.q [.f 30 0 5,.l 31 30,.s 32 31,.z 33 (.mkSl 1 [.nilSl] (.t 32) (.t 32)),.m 12 33] (.seq (.q [.f 34 0 4,.l 35 34,.s 36 35,.K 37 0] (.block 0 (.loop (.q [.c 38 .lss 3 37 36] (.seq (.cond (.t 38) .skip (.exit 0)) (.seq (.block 1 (.q [.m 39 37,.I 40 3 35 37,.L 41 3 40,.z 14 (.alloc [(.i 0),(.bool false),(.i 0)]),.m 13 39,.S 3 14 41] (.q [.f 42 1 5,.l 43 42,.m 44 13,.I 45 3 43 44,.L 46 3 45,.z 15 (.alloc [(.i 0),(.i 0),(.i 0)]),.S 3 15 46] (.q [.f 47 2 14,.l 48 47] (.block 2 (.seq (.q [.b 50 .eql 3 48 1,.m 49 50] (.cond (.t 49) .skip (.ops [.b 51 .eql 3 48 2,.m 49 51]))) (.cond (.t 49) (.seq (.draw [(.m 53 2,[]),(.z 54 (.ixAddr 1 (.t 53) (.k 0)),[]),(.l 55 54,[]),(.f 56 2 15,[]),(.l 57 56,[]),(.W 58 61 55 57,[]),(.m 52 58,[]),(.X 59 0 52,[]),(.X 60 1 52,[]),(.m 16 59,[]),(.m 17 60,[])]) (.seq (.q [.m 61 17,.b 62 .neq 35 61 0] (.cond (.t 62) (.q [.m 63 17,.e 8,.m 9 63] .ret) .skip)) (.draw [(.m 64 12,[]),(.f 65 0 15,[]),(.l 66 65,[]),(.m 67 16,[]),(.m 68 2,[]),(.z 69 (.slSl 1 (.t 68) (some (.k 1)) none),[]),(.I 70 1 64 66,[]),(.S 1 70 67,[]),(.m 2 69,[])]))) (.q [.b 72 .eql 3 48 3,.m 71 72] (.cond (.t 71) (.draw [(.m 73 12,[]),(.f 74 0 15,[]),(.l 75 74,[]),(.m 76 3,[]),(.z 77 (.buildSl 1 1 [(.u 0)] [(0,1,.t 76)]),[(.l 75 74,false)]),(.f 78 2 15,[]),(.l 79 78,[]),(.W 80 62 77 79,[(.l 75 74,false)]),(.I 81 1 73 75,[]),(.S 1 81 80,[])]) .skip))))))))) (.ops [.b 82 .add 3 37 1,.m 37 82]))))))) (.q [.m 83 12,.m 8 83,.K 9 0] .ret))))))
def r_marshal_Rows:Nf Tryz.prog 18=some ⟨84,z5m.r,[.tmp 8,.tmp 9]⟩:=Aa
def k_marshal_Rows:z5m.ok=true:=Aa
def Q7(x:UInt64)(n c:Nat):List LV:=(List.replicate c x++List.replicate (n-c) 0).map LV.u
def Y6(x:UInt64){n c:Nat}(h:c≤n):(Q7 x n c).length=n:=by simp[Q7];omega
def Z7(x:UInt64){n c m:Nat}(hm:m≤c):Nu (Q7 x n c) c (((Q7 x n c).take c).take m)=Q7 x n (c+m):=by
 have g:(Q7 x n c).take c=(List.replicate c x).map LV.u:=by
  unfold Q7;rw[Ju,Li N]
 rw[g,←L0,List.take_replicate,Jt hm];unfold Nu;rw[g];have j:(Q7 x n c).drop (c+((List.replicate m x).map LV.u).length)=(List.replicate (n-(c+m)) (0:UInt64)).map LV.u:=by
  unfold Q7;rw[Ju,J0,List.length_replicate,←J6,List.drop_left' N,←List.map_drop,List.drop_replicate]
  congr 2;omega
 rw[j];unfold Q7;rw[←Ju,←Ju,Kt]
def zxc(x:UInt64)(n:Nat):Q7 x n n=(List.replicate n x).map LV.u:=by simp[Q7]
def Zw(x:UInt64)(n:Nat):List.take (min 1 n) [LV.u x]++List.drop (min 1 n) (Ni [LV.u 0] n)=Q7 x n (min 1 n):=by
 have e:∀n,Ni [LV.u 0] n=(List.replicate n (0:UInt64)).map LV.u:=by
  intro n
  induction n with
  |zero=>rfl
  |succ n g=>simp[Ni,g,Kb]
 rw[e];cases n with
 |zero=>simp[Q7]
 |succ n=>simp[Q7,(J:min 1 (n+1)=1),Kb]
def zp3(x:UInt64)(n:Nat)(R:n≤1000000):Na 62 [LU [x],.i n] (.dy 0 0) [RU (List.replicate n x)]:=by
 refine Np.row (Nd r_slices_Repeat_uint64_uint64 Aa (by simp) ?_);have I:¬(n:Int)<0:=J
 simp[z34,I];have E:(iU 1).toNat=1:=pp (n:=1) J;have un:(iU (n:Int)).toNat=n:=pp J;have z:lg (iU 1) (iU (n:Int))=0:=by
  apply Jj.1;rw[lg,E,un,Js,(J:1*n/18446744073709551616=0)];rfl
 have A:iU 1*iU (n:Int)=iU (n:Int):=by
  apply Jj.1;rw[L8,E,un];omega
 have B:¬9223372036854775807<iU (n:Int):=by
  rw[Kr,un];show ¬9223372036854775807<n;omega
 refine Nb (Yq (iU 1) (iU (n:Int))) (by simp) ?_;simp[z,A,B,un];refine⟨J,J,?_⟩;refine Ns (λL Q F M=>∃(c g:Nat),Q=[]∧F=[.dyn (Q7 x n c) n 1 0 g]∧M+c=n∧(c=0→n=0)∧lk L 7=.dy 0 0∧lk L 8=.i c) (N:=n-min 1 n) ⟨min 1 n,1,rfl,by rw[←Zw],J,J,by simp,by simp⟩ ?_;rintro M L Q F ⟨c,g,rfl,rfl,S,O,C,H⟩ T D;by_cases U:c<n
 ·simp[C,H,U];have P:=Y6 x (n:=n) (c:=c) J;have j:=Z7 x (n:=n) (c:=c) (m:=min c (n-c)) J
  repeat (refine⟨J,?_⟩)
  refine D _ _ _ ⟨M-min c (n-c),J,c+min c (n-c),g+1,rfl,?_,J,J,Ae,by simp⟩;rw[←j]
 ·have:c=n:=J
  subst this;simp[C,H];exact .inr ⟨0,0,g,rfl,by rw[←zxc];simp⟩
def zmc(x:UInt64)(n:Int)(h:0≤n∧n≤1000000):Na 62 [LU [x],.i n] (.dy 0 0) [RU (List.replicate n.toNat x)]:=by
 obtain⟨m,rfl⟩:=Ir h.1;exact zp3 x m J
section rows
variable {G : M4} {K : LV → M4 → Prop} {vs : List Vr} {os rs : List Ko} {bs : List Bf} {ps : List Pc} {w0 w1 : Pc} {base : Nat} {f : Fr Ko} {ins : List (List UInt64)} {fill : UInt64}
def Rk(vs:List Vr)(i:Nat):Nat:=(Q8 Ob vs i).length
def z9g(jI:vs.length≤100000)(hc:Ng vs os rs=true)(gU:(S0 vs os).2=true)(hM:MadeF vs os bs ps w0 w1 base f)(hi:∀x∈ins,x.length≤1000)(jK:ins.length≤1000)
  (k1:Qb vs os rs (ins.map val)≠0→∀z,G.length≤z.length→(∀I,I<G.length→z[I]?=G[I]?)→K (.tup [.nilSl,.i (Qb vs os rs (ins.map val))]) z)
  (k0:Qb vs os rs (ins.map val)=0→∀z q gK st L,bw vs base fill ins L→G.length≤q→z[q]?=some (.dyn (L.map LU) bs.length 1 gK st)→G.length≤z.length→(∀I,I<G.length→z[I]?=G[I]?)→K (.tup [.dy q gK,.i 0]) z) :
  O6 (.fn 18) [.agg (M3 vs os rs),.agg (Nj bs ps w0 w1),LN ins,.u fill] G K:=by
 have gL:dats (M3 vs os rs)=true:=Ai
 have gM:(M3 vs os rs).length=3:=rfl;have gO:(M3 vs os rs).take 3=M3 vs os rs:=rfl;have gV:(Nj bs ps w0 w1).length=8:=rfl;have gX:(Nj bs ps w0 w1).take 8=Nj bs ps w0 w1:=rfl;have B:Nj bs ps w0 w1=[.lst (Om bs) bs.length 3,.lst (Oc ps) ps.length 3,.i w0.buf,.i w0.at_,.i w0.size,.i w1.buf,.i w1.at_,.i w1.size]:=rfl;have hv:P6 vs=true:=Be
 have gY:∀i,i<vs.length→1≤(gv vs i).limbs∧(gv vs i).limbs≤512∧0≤(gv vs i).mode∧(gv vs i).mode≤3:=λi hi=>Ve hv _ (Vt hi)
 have jL:=hM.bl;have jM:=hM.bb;refine Nd r_marshal_Rows k_marshal_Rows (by simp) ?_;obtain⟨R,M⟩:∃R,R=G++[LObj.cells (M3 vs os rs) 0,LObj.cells (Nj bs ps w0 w1) 0]:=⟨_,rfl⟩;have o1:∀x,x<G.length→R[x]?=G[x]?:=λx hx=>by rw[M];exact Ic hx
 have l1:R.length=G.length+2:=Dy
 have a1:R[G.length]?=some (.cells (M3 vs os rs) 0):=Dy
 have b1:R[G.length+1]?=some (.cells (Nj bs ps w0 w1) 0):=Dy
 simp[z5m];rw[←M];simp[a1,b1,gM,gO,gV,gX];refine Nb (z9h J hc gU hM (λv gZ=>(Ve hv v gZ).2.2.1)) (bors_self _ (by simp[dats,LV.dat,gL,Qj])) ?_;simp[a1,gM,gO];refine Nb (lu vs os rs ins J hi) (bors_self _ (by simp[dats,LV.dat,gL,LN,Pf])) ?_;by_cases g:Qb vs os rs (ins.map val)=0
 case neg =>
  simp[g];exact k1 g R J o1
 have k0:=k0 g;have gC:(Sv.inV vs).length=ins.length:=by
  unfold Qb at g;rw[Ij hc]at g;split at g
  ·rename_i h;simpa using h
  ·omega
 have gD:∀H,H<ins.length→val (ins.getD H [])<da (gv vs ((Sv.inV vs).getD H 0)).limbs:=by
  have T:n4 vs (ins.map val)=true:=by
   unfold Qb at g;rw[Ij hc,Ij Ek]at g;split at g
   ·assumption
   ·omega
  have:=(zi9 (ns:=ins.map val) Ek).1 T;intro H hj;have:=this H (by simpa using hj)
  rwa [zqo]at this
 simp[g,b1,a1,B,M3];refine⟨J,?_⟩;obtain⟨G2,U⟩:∃G2,G2=R++[LObj.dyn (Ni [LV.nilSl] bs.length) bs.length 1 0 0]:=⟨_,rfl⟩;have o2:∀x,x<R.length→G2[x]?=R[x]?:=λx hx=>by rw[U];exact Ic hx
 have l2:G2.length=G.length+3:=by rw[U];simp;omega
 have r2:G2[G.length+2]?=some (.dyn (Ni [LV.nilSl] bs.length) bs.length 1 0 0):=by rw[U,←l1];simp
 have a2:=(o2 _ J).trans a1;have b2:=(o2 _ J).trans b1;rw[←U,l1];simp[a2,M3];refine fk r2 (λc r h=>zs3 _ _ h) ?_;obtain⟨G3,V⟩:∃G3,G3=G2.set (G.length+2) (.dyn (List.replicate bs.length (.lst [] 0 1)) bs.length 1 0 (0+1)):=⟨_,rfl⟩;have o3:∀x,x≠G.length+2→G3[x]?=G2[x]?:=λx hx=>by rw[V,H8 (λe=>hx e.symm)]
 have l3:G3.length=G.length+3:=by rw[V,Jz,l2]
 have r3:G3[G.length+2]?=some (.dyn ((List.replicate bs.length ([]:List UInt64)).map LU) bs.length 1 0 (0+1)):=by
  rw[V,Ia J];simp[LU]
 have b3:=(o3 _ J).trans b2;rw[←V];have g8:∀i,i<vs.length→Ob (gv vs i)=true→Rk vs i<ins.length∧(Sv.inV vs).getD (Rk vs i) 0=i:=λi g9 hg=>by
  have:=those_at (p:=Ob) (vs:=vs) vs.length i g9 hg;rw[←za8,gC]at this;exact this
 refine Ns (λρ jT z N=>∃(i:Nat) (L:List (List UInt64)) (st:Nat),jT=[]∧N+i=vs.length∧lk ρ 2=LN (ins.drop (Rk vs i))∧lk ρ 3=.u fill∧lk ρ 5=.ptr (G.length+1) 0∧lk ρ 12=.dy (G.length+2) 0∧lk ρ 35=.lst (Nr vs) vs.length 3∧lk ρ 36=.i vs.length∧lk ρ 37=.i i ∧
   z[G.length+1]?=some (.cells (Nj bs ps w0 w1) 0)∧z[G.length+2]?=some (.dyn (L.map LU) bs.length 1 0 st)∧L.length=bs.length∧(∀H,H<i→H<base→L.getD H []=Si vs fill ins H)∧(∀H,(i≤H∨base≤H)→L.getD H []=[])∧(∀I,I<G.length→z[I]?=G[I]?)∧G.length+3≤z.length)
  (N:=vs.length) ⟨0,List.replicate bs.length [],0+1,rfl,J,by simp[Rk,Q8,LN],by simp,by simp,by simp,by simp,by simp,by simp,b3,r3,by simp,λH hj=>J,λH _=>by simp[Ie,List.getElem?_replicate];split<;>rfl,λI X=>by rw[o3 I J,o2 I J,o1 I X],J⟩ ?_
 rintro N ρ jT z ⟨i,L,st,rfl,hN,T,h3,h5,j,C,A,D,bb,rr,O,gE,gF,ho,jO⟩ Nx gP;by_cases gQ:i<vs.length
 case neg =>
  simp[j,A,D,gQ];have jP:i=vs.length:=J
  exact k0 z _ _ st L ⟨J,λH hj=>gE H J hj,λH hj=>gF H (.inr hj)⟩ J rr J ho
 have q3:=V9 (Qp gQ);have Y:=Ty gQ;have Z:(gv vs i).f=[.i (gv vs i).limbs,.bool (gv vs i).sec,.i (gv vs i).mode]:=rfl;have gp:i<ps.length:=by rw[hM.pl];exact gQ
 have p3:=mo (Wy gp);have gg:=Vw gp;have gG:(Of ps i).f=[.i (Of ps i).buf,.i (Of ps i).at_,.i (Of ps i).size]:=rfl;have gR:=hM.mode i gQ;have jg:=hM.sz i gp;have gS:=hM.par i;obtain⟨v1,v2,v3,v4⟩:=gY i gQ;have jz:=g8 i gQ;have F:Rk vs (i+1)=Rk vs i+if Ob (gv vs i)=true then 1 else 0:=by
  unfold Rk;rw[fp,Im];split<;>simp
 have E:Si vs fill ins i=if (gv vs i).mode=3 then List.replicate (gv vs i).limbs.toNat fill else N4 (ins.getD (Rk vs i) []) (gv vs i).limbs:=rfl
 have S:G.length+1<z.length:=J
 have lr:G.length+2<z.length:=J
 by_cases m0:(gv vs i).mode=0
 ·have hg:Ob (gv vs i)=false:=by simp[Ob,m0]
  rw[Ii Es]at F;have jQ:=gR.1 m0;simp[h5,C,A,D,gQ,q3,Y,Z,m0,↓M5 S,bb,B,gp,p3,gg,gG];exact⟨J,gP _ _ _ ⟨N-1,J,i+1,L,st,rfl,J,by simp[T,F],Fp,By,Au,Ae,Af,by simp,by rw[M5 S];exact bb,by rw[M5 lr];exact rr,O,λH h1 T=>gE H J T,λH h1=>gF H J,λI X=>by rw[M5 J];exact ho I X,Ab⟩⟩
 have jA:i<base:=by
  have:¬base≤i:=λq=>m0 (gR.2 q)
  omega
 have jB:=gS jA;rw[jB]at gG jg p3;rw[gG]at p3;have P:i<bs.length:=J
 have next:∀ρ' G4 (gB:List UInt64) gH,gB=Si vs fill ins i→lk ρ' 2=LN (ins.drop (Rk vs (i+1)))→lk ρ' 3=.u fill→lk ρ' 5=.ptr (G.length+1) 0→lk ρ' 12=.dy (G.length+2) 0→lk ρ' 35=.lst (Nr vs) vs.length 3→lk ρ' 36=.i vs.length→lk ρ' 37=.i ((i:Int)+1) →
   G4[G.length+1]?=some (.cells (Nj bs ps w0 w1) 0)→G4[G.length+2]?=some (.dyn ((L.set i gB).map LU) bs.length 1 0 gH)→(∀I,I<G.length→G4[I]?=G[I]?)→G.length+3≤G4.length→Nx ρ' [] G4:=by
  rintro ρ' G4 gB gH rfl c2 c3 c5 jC jD jE jF c1 cr cf cl;refine gP _ _ _ ⟨N-1,J,i+1,L.set i (Si vs fill ins i),gH,rfl,J,c2,c3,c5,jC,jD,jE,by rw[jF];simp,c1,cr,by simpa using O,λH h1 T=>?_,λH h1=>?_,cf,cl⟩
  ·rw[zou _ _ _ _ _ J];by_cases e:H=i
   ·rw[Ij e,e]
   ·rw[Ii e];exact gE H J T
  ·rw[zou _ _ _ _ _ J,Ii J];exact gF H J
 have Q:∀gB:List UInt64,Nu (L.map LU) i [LU gB]=(L.set i gB).map LU:=λgB=>xe LU L i gB J
 by_cases m3:(gv vs i).mode=3
 ·have hg:Ob (gv vs i)=false:=by simp[Ob,m3]
  rw[Ii Es]at F;rw[Ij m3]at E;simp[h3,h5,j,C,A,D,gQ,q3,Y,Z,m3,↓M5 S,↓M5 lr,bb,rr,B,gp,p3,gg];have jR:z.length+2<(z++[LObj.cells [LV.i (gv vs i).limbs,LV.bool (gv vs i).sec,LV.i 3] 1,LObj.cells [LV.i (i:Int),LV.i 0,LV.i (gv vs i).limbs] 1,LObj.dyn [LV.u fill] 1 1 0 0]).length:=by simp
  refine Nb (zmc fill (gv vs i).limbs J) ⟨_,_,rfl,⟨[.u fill],1,1,0,rfl,by simp,rfl⟩,bors_self _ rfl⟩ ?_;have jG:frV [RU (List.replicate (gv vs i).limbs.toNat fill)] (.dy 0 0)=LU (List.replicate (gv vs i).limbs.toNat fill):=by simp[RU,LU]
  rw[jG];simp[↓M5 lr,rr,P,O,D];rw[show Nu (L.map LU) i [LV.lst (List.replicate (gv vs i).limbs.toNat (LV.u fill)) (gv vs i).limbs.toNat 1]=(L.set i (List.replicate (gv vs i).limbs.toNat fill)).map LU by rw[←Q];simp[LU]]
  repeat (refine⟨J,?_⟩)
  refine next _ _ _ (st+1) E.symm (by simp[T,F]) Fp By Au Ae Af (by simp) ?_ ?_ (λI X=>?_) Ab
  ·rw[H8 J,M5 S];exact bb
  ·exact Ia Ab
  ·rw[H8 J,M5 J];exact ho I X
 ·have hg:Ob (gv vs i)=true:=by simp[Ob];omega
  rw[Ij hg]at F;rw[Ii m3]at E;obtain⟨gI,jH⟩:=jz hg;have gT:Og (ins.getD (Rk vs i) []) (gv vs i).limbs=0:=zve ⟨v1,v2⟩ (by have:=gD _ gI;rwa [jH]at this);have hx:(ins.drop (Rk vs i))=ins.getD (Rk vs i) []::ins.drop (Rk vs i+1):=by
   rw[Iz gI,Ie,Ib gI];rfl
  have jS:=Ww hi (Rk vs i);generalize ins.getD (Rk vs i) []=x at *;have gj:lk ρ 2=.lst (LU x::(ins.drop (Rk vs i+1)).map LU) ((ins.drop (Rk vs i+1)).length+1) 1:=by rw[T,hx];simp[LN]
  rcases (J:(gv vs i).mode=1∨(gv vs i).mode=2) with m1|m1
  ·simp[gj,h3,h5,j,C,A,D,gQ,q3,Y,Z,m1,↓M5 S,↓M5 lr,bb,rr,B,gp,p3,gg];refine Nb (zew x (gv vs i).limbs J) (bors_self _ Ao) ?_;rw[show frV [RU (N4 x (gv vs i).limbs)] (.tup [.dy 0 0,.i (Og x (gv vs i).limbs)])=.tup [LU (N4 x (gv vs i).limbs),.i (Og x (gv vs i).limbs)] from rfl,gT];generalize N4 x (gv vs i).limbs=gB at *;simp[gj,j,D,↓M5 S,↓M5 lr,rr,P,O];rw[show Nu (L.map LU) i [LV.lst (gB.map LV.u) gB.length 1]=(L.set i gB).map LU by rw[←Q];rfl]
   repeat (refine⟨J,?_⟩)
   refine next _ _ _ (st+1) E.symm (by simp[F,LN];exact Io (by simp)) Fp By Au Ae Af (by simp) ?_ ?_ (λI X=>?_) Ab
   ·rw[H8 J,M5 S];exact bb
   ·exact Ia Ab
   ·rw[H8 J,M5 J];exact ho I X
  ·simp[gj,h3,h5,j,C,A,D,gQ,q3,Y,Z,m1,↓M5 S,↓M5 lr,bb,rr,B,gp,p3,gg];refine Nb (zew x (gv vs i).limbs J) (bors_self _ Ao) ?_;rw[show frV [RU (N4 x (gv vs i).limbs)] (.tup [.dy 0 0,.i (Og x (gv vs i).limbs)])=.tup [LU (N4 x (gv vs i).limbs),.i (Og x (gv vs i).limbs)] from rfl,gT];generalize N4 x (gv vs i).limbs=gB at *;simp[gj,j,D,↓M5 S,↓M5 lr,rr,P,O];rw[show Nu (L.map LU) i [LV.lst (gB.map LV.u) gB.length 1]=(L.set i gB).map LU by rw[←Q];rfl]
   repeat (refine⟨J,?_⟩)
   refine next _ _ _ (st+1) E.symm (by simp[F,LN];exact Io (by simp)) Fp By Au Ae Af (by simp) ?_ ?_ (λI X=>?_) Ab
   ·rw[H8 J,M5 S];exact bb
   ·exact Ia Ab
   ·rw[H8 J,M5 J];exact ho I X
end rows
end
section
set_option linter.unusedVariables false
def zeb:LC:=(.q [.x 3 0,.x 4 1,.e 6,.K 7 0] (.seq (.q [.L 12 3 3,.L 13 8 4,.W 14 13 12 13,.m 8 14] (.q [.m 15 8,.b 16 .neq 35 15 0] (.cond (.t 16) (.q [.m 17 8,.e 6,.m 7 17] .ret) .skip))) (.seq (.q [.m 18 2,.s 19 18,.f 20 0 4,.l 21 20,.s 22 21,.c 23 .neq 3 19 22] (.cond (.t 23) (.q [.e 6,.K 7 2] .ret) .skip)) (.seq (.q [.f 24 0 3,.l 25 24,.s 26 25,.K 27 0] (.block 0 (.loop (.q [.c 28 .lss 3 27 26] (.seq (.cond (.t 28) .skip (.exit 0)) (.seq (.block 1 (.q [.m 29 27,.I 30 3 25 27,.L 31 3 30,.z 10 (.alloc [(.i 0),(.bool false),(.i 0)]),.m 9 29,.S 3 10 31] (.seq (.q [.f 32 2 10,.l 33 32,.b 34 .neq 3 33 3] (.cond (.t 34) (.exit 1) .skip)) (.q [.m 35 2,.f 36 1 4,.l 37 36,.m 38 9,.I 39 3 37 38,.f 40 0 39,.l 41 40,.I 42 1 35 41,.l 43 42,.m 11 43] (.seq (.q [.m 44 11,.s 45 44,.f 46 0 10,.l 47 46,.c 48 .neq 3 45 47] (.cond (.t 48) (.q [.e 6,.K 7 2] .ret) .skip)) (.ops [.m 49 6,.m 50 11,.w 51 66 50,.z 52 (.buildSl 1 1 [.nilSl] [(0,1,.t 51)]),.a 53 1 49 52,.m 6 53])))))) (.ops [.b 54 .add 3 27 1,.m 27 54]))))))) (.q [.m 55 6,.m 6 55,.K 7 0] .ret)))))
def r_marshal_Out:Nf Tryz.prog 23=some ⟨56,zeb.r,[.tmp 6,.tmp 7]⟩:=Aa
def z5g:LC:=(.q [.x 2 0,.F 4] (.seq (.q [.m 7 1,.s 8 7,.f 9 0 2,.l 10 9,.s 11 10,.c 12 .neq 3 8 11] (.cond (.t 12) (.q [.F 4] .ret) .skip)) (.seq (.q [.f 13 0 2,.l 14 13,.s 15 14,.K 16 0] (.block 0 (.loop (.q [.c 17 .lss 3 16 15] (.seq (.cond (.t 17) .skip (.exit 0)) (.seq (.block 1 (.q [.m 18 16,.I 19 3 14 16,.L 20 3 19,.z 6 (.alloc [(.i 0),(.i 0),(.bool false)]),.m 5 18,.S 3 6 20] (.q [.f 21 1 6,.l 22 21,.b 23 .eql 3 22 3,.m 24 23,.my 25 24 1,.my 26 24 5,.y 27 24 (.ixAddr 1 (.t 25) (.t 26)),.yl 28 24 27,.y 29 24 (.w 64 [.t 28,(.c (.fn (.func 65) [] []))]),.q 30 24 29] (.cond (.t 30) (.q [.F 4] .ret) .skip)))) (.ops [.b 31 .add 3 16 1,.m 16 31]))))))) (.q [.z 4 (.move .T)] .ret))))
def r_marshal_Noughts:Nf Tryz.prog 20=some ⟨32,z5g.r,[.tmp 4]⟩:=Aa
def z6w:LC:=(.q [.F 2] (.q [.m 3 0,.u 4 .neq 43 3 0,.m 2 4] .ret))
def r_marshal_Noughts_1:Nf Tryz.prog 65=some ⟨5,z6w.r,[.tmp 2]⟩:=Aa
def z2l:LC:=(.q [.K 4 0] (.seq (.q [.m 6 0,.s 7 6,.K 8 0] (.block 0 (.loop (.q [.c 9 .lss 3 8 7] (.seq (.cond (.t 9) .skip (.exit 0)) (.seq (.block 1 (.q [.m 10 8,.m 5 10] (.q [.m 11 1,.m 12 0,.m 13 5,.I 14 1 12 13,.l 15 14,.z 16 (.callV (.t 11) [.t 15])] (.cond (.t 16) (.q [.m 17 5,.m 4 17] .ret) .skip)))) (.ops [.b 18 .add 3 8 1,.m 8 18]))))))) (.q [.K 4 (-1)] .ret)))
def r_slices_IndexFunc_uint64_uint64:Nf Tryz.prog 112=some ⟨19,z2l.r,[.tmp 4]⟩:=Aa
def z26:LC:=(.q [.F 4] (.q [.m 5 0,.m 6 1,.W 7 112 5 6,.b 8 .geq 3 7 0,.m 4 8] .ret))
def r_slices_ContainsFunc_uint64_uint64:Nf Tryz.prog 64=some ⟨9,z26.r,[.tmp 4]⟩:=Aa
def N9(vs:List Vr)(bs:List Bf)(L:List (List UInt64)):Bool:=decide (L.length=bs.length)&&(Sv.outV vs).all λg=>decide (((L.getD g []).length:Int)=(gv vs g).limbs)
def Y4(vs:List Vr)(L:List (List UInt64))(i:Nat):List LV:=(Q8 (λv=>decide (v.mode=3)) vs i).map λg=>LU (Oe (val (L.getD g [])))
section rows
variable {G : M4} {K : LV → M4 → Prop} {vs : List Vr} {os rs : List Ko} {bs : List Bf} {ps : List Pc} {w0 w1 : Pc} {base : Nat} {f : Fr Ko} {L : List (List UInt64)} {rv : LV}
def z4q(jC:vs.length≤100000)(hc:Ng vs os rs=true)(gI:(S0 vs os).2=true)(Y:MadeF vs os bs ps w0 w1 base f)(hL:∀x∈L,x.length≤1000000)(jD:L.length≤1000000000)
  (gK:rv=LN L∨∃q g st,rv=.dy q g∧G[q]?=some (.dyn (L.map LU) L.length 1 g st))
  (k1:N9 vs bs L=false→∀z,G.length≤z.length→(∀A,A<G.length→z[A]?=G[A]?)→K (.tup [.nilSl,.i 2]) z)
  (k0:N9 vs bs L=true→∀z v,Rg G.length z v 1 (Sv.outV vs).length (Y4 vs L vs.length)→G.length≤z.length→(∀A,A<G.length→z[A]?=G[A]?)→K (.tup [v,.i 0]) z) :
  O6 (.fn 23) [.agg (M3 vs os rs),.agg (Nj bs ps w0 w1),rv] G K:=by
 have gL:dats (M3 vs os rs)=true:=Ai
 have gM:(M3 vs os rs).length=3:=rfl;have gO:(M3 vs os rs).take 3=M3 vs os rs:=rfl;have gP:(Nj bs ps w0 w1).length=8:=rfl;have gQ:(Nj bs ps w0 w1).take 8=Nj bs ps w0 w1:=rfl;have C:Nj bs ps w0 w1=[.lst (Om bs) bs.length 3,.lst (Oc ps) ps.length 3,.i w0.buf,.i w0.at_,.i w0.size,.i w1.buf,.i w1.at_,.i w1.size]:=rfl;have hv:P6 vs=true:=Be
 have gR:∀i,i<vs.length→1≤(gv vs i).limbs∧(gv vs i).limbs≤512∧0≤(gv vs i).mode∧(gv vs i).mode≤3:=λi hi=>Ve hv _ (Vt hi)
 have jE:=Y.bl;have jF:=Y.bb;refine Nd r_marshal_Out Aa (by simp) ?_;obtain⟨T,D⟩:∃T,T=G++[LObj.cells (M3 vs os rs) 0,LObj.cells (Nj bs ps w0 w1) 0]:=⟨_,rfl⟩;have o1:∀x,x<G.length→T[x]?=G[x]?:=λx hx=>by rw[D];exact Ic hx
 have l1:T.length=G.length+2:=by rw[D];simp
 have a1:T[G.length]?=some (.cells (M3 vs os rs) 0):=by rw[D];simp
 have b1:T[G.length+1]?=some (.cells (Nj bs ps w0 w1) 0):=by rw[D];simp
 simp[zeb];rw[←D];simp[a1,b1,gM,gO,gP,gQ];refine Nb (z9h J hc gI Y (λv gS=>(Ve hv v gS).2.2.1)) (bors_self _ (by simp[dats,LV.dat,gL,Qj])) ?_;have RV:∀B:M4,(∀A,A<G.length→B[A]?=G[A]?)→rv=LN L∨∃q g st,rv=.dy q g∧B[q]?=some (.dyn (L.map LU) L.length 1 g st):=λB h=>by
  rcases gK with h1|⟨q,g,st,h1,E⟩
  ·exact .inl h1
  ·exact .inr ⟨q,g,st,h1,by rw[h q (H7.1 E).1];exact E⟩
 have Z:∀(B:M4) (KN:Nat→Prop),(∀A,A<G.length→B[A]?=G[A]?)→KN L.length→lenL B rv KN:=λB KN h hk=>by
  rcases RV B h with rfl|⟨q,g,st,rfl,E⟩
  ·simpa [LN] using hk
  ·rw[lenL_dy,E,ze3];exact⟨rfl,hk⟩
 have gT:∀(B:M4) (i:Nat) (KV:LV→Prop),(∀A,A<G.length→B[A]?=G[A]?)→i<L.length→(∀a,(∀K':LV→Prop,K' (LU (L.getD i []))→Vn B a K')→KV a)→Wh B 1 rv (i:Int) KV:=λB i KV h hi hk=>by
  have e:(L.map LU)[i]?=some (LU (L.getD i [])):=So (f:=LU) (by rw[Ie,Ib hi];rfl);rcases RV B h with rfl|⟨q,g,st,rfl,E⟩
  ·rw[LN,zpb];refine⟨rfl,J,J,hk _ λK' U=>?_⟩;rw[read1_cptr];simp only[I6,K0];exact⟨_,e,U⟩
  ·rw[zoj,E,ze3];refine⟨rfl,rfl,J,J,hk _ λK' U=>?_⟩;rw[read1_dptr,E];refine⟨rfl,?_⟩;simp only[I6,K0];exact⟨_,e,U⟩
 simp;refine Z T _ o1 ?_;by_cases I:L.length=bs.length
 case neg =>
  have gU:¬(L.length:Int)=bs.length:=J
  have F:N9 vs bs L=false:=by simp[N9,I]
  simp[b1,C,gU,I];exact k1 F T J o1
 simp[a1,b1,C,I,M3];refine Ns (λρ jL z N=>∃(i:Nat) (v:LV),jL=[]∧N+i=vs.length∧lk ρ 2=rv∧lk ρ 4=.ptr (G.length+1) 0∧lk ρ 6=v∧lk ρ 25=.lst (Nr vs) vs.length 3∧lk ρ 26=.i vs.length∧lk ρ 27=.i i∧z[G.length+1]?=some (.cells (Nj bs ps w0 w1) 0)∧(∀A,A<G.length→z[A]?=G[A]?)∧G.length+2≤z.length ∧
   Rg (G.length+2) z v 1 (Q8 (λv=>decide (v.mode=3)) vs i).length (Y4 vs L i)∧∀S,S<i→(gv vs S).mode=3→((L.getD S []).length:Int)=(gv vs S).limbs)
  (N:=vs.length) ⟨0,.nilSl,rfl,J,by simp,by simp,by simp,by simp,by simp,by simp,b1,o1,J,Rg.nil,λS hj=>J⟩ ?_
 rintro N ρ jL z ⟨i,v,rfl,hN,E,h4,h6,M,H,O,bb,ho,jG,hD,V⟩ Nx gg;by_cases gH:i<vs.length
 case neg =>
  have gV:i=vs.length:=J
  subst gV;have F:N9 vs bs L=true:=by
   simp only[N9,I,decide_true,Kg,I7,Il];intro S hj;have gX:=zut hj;have gY:=(Ki.1 hj).2;exact V S gX (by simpa using gY)
  simp[h6,H,O];rw[ot]at k0;refine k0 F z v ?_ J ho;obtain⟨d1,d2,⟨rfl,d3,d4⟩|⟨p,k,st,hp,rfl,d3⟩⟩:=hD
  ·exact⟨d1,d2,.inl ⟨rfl,d3,d4⟩⟩
  ·exact⟨d1,d2,.inr ⟨p,k,st,J,rfl,d3⟩⟩
 have q3:=V9 (Qp gH);have gj:=Ty gH;have gB:(gv vs i).f=[.i (gv vs i).limbs,.bool (gv vs i).sec,.i (gv vs i).mode]:=rfl;have gp:i<ps.length:=by rw[Y.pl];exact gH
 have gZ:=Y.mode i gH;have gC:=Y.par i;obtain⟨v1,v2,v3,v4⟩:=gR i gH;have P:Y4 vs L (i+1)=Y4 vs L i++if (gv vs i).mode=3 then [LU (Oe (val (L.getD i [])))] else []:=by
  unfold Y4;rw[fp,Ju];by_cases h:(gv vs i).mode=3<;>simp[h]
 have Q:(Q8 (λv=>decide (v.mode=3)) vs (i+1)).length=(Q8 (λv=>decide (v.mode=3)) vs i).length+if (gv vs i).mode=3 then 1 else 0:=by
  rw[fp,Im];by_cases h:(gv vs i).mode=3<;>simp[h]
 have lb:G.length+1<z.length:=J
 by_cases X:(gv vs i).mode=3
 case neg =>
  rw[Ii X,Jf]at P;rw[Ii X]at Q;simp[M,H,O,gH,q3,gj,gB,X];exact⟨J,gg _ _ _ ⟨N-1,J,i+1,v,rfl,J,Aw,F3,Bu,Av,Ba,by simp,by rw[M5 lb];exact bb,λA hz=>by rw[M5 J];exact ho A hz,Ab,by rw[P,Q];exact hD.push_end,λS hj h3=>by
   by_cases e:S=i
   ·rw[e]at h3;exact absurd h3 X
   ·exact V S J h3⟩⟩
 have g8:i<base:=by
  have:¬base≤i:=λq=>by have:=gZ.2 q;omega
  omega
 have g9:=gC g8;have c0:=V2 Pc.f_len (Wy gp) (j:=0) J;rw[g9]at c0;have jg:(Oc ps)[i*3]?=some (.i (i:Int)):=Ed
 have jH:=Vw gp;have gD:i*3<(Oc ps).length:=J
 have jz:i<L.length:=J
 have jI:(L.getD i []).length≤1000000:=Ww hL i;have gE:∀x:LObj,∀A,A<G.length→(z++[x])[A]?=G[A]?:=λx A hz=>by rw[M5 J];exact ho A hz
 simp[E,h4,M,H,O,gH,q3,gj,gB,X,↓M5 lb,bb,C,gp,M9 jg,gD];refine gT _ i _ (gE _) jz λa ha=>?_
 simp;refine ha _ ?_;have jK:∀x,(z++[x])[z.length]?=some x:=λx=>by simp
 by_cases R:((L.getD i []).length:Int)=(gv vs i).limbs
 case neg =>
  have F:N9 vs bs L=false:=by
   cases h:N9 vs bs L with
   |false=>rfl
   |true =>
    simp only[N9,H9,I7,Il]at h;exact absurd (h.2 i (Ki.2 ⟨Ji.2 gH,by simpa using X⟩)) R
  generalize L.getD i []=x at *;simp[R];exact k1 F _ Ab (gE _)
 rw[Ij X]at P Q;have gF:∀S,S<i+1→(gv vs S).mode=3→((L.getD S []).length:Int)=(gv vs S).limbs:=λS hj h3=>by
  by_cases e:S=i
  ·rw[e];exact R
  ·exact V S J h3
 generalize L.getD i []=x at *;simp[R,h6];refine Nb (z8p x J) (bors_self _ Ao) ?_;rw[show frV [RU (Oe (val x))] (.dy 0 0)=LU (Oe (val x)) from rfl];generalize Oe (val x)=y at *;simp;refine Rg.push (c:=1) (x:=[LU y]) hD.push_end J Ab Ez rfl (by simp[dats,zrc]) λv' B jA gG jB=>?_
 simp at jB;simp[O];refine⟨J,gg _ _ _ ⟨N-1,J,i+1,v',rfl,J,Aw,F3,by simp,Av,Ba,by simp,?_,λA hz=>?_,J,by rw[P,Q];exact jA,gF⟩⟩
 ·rw[gG _ J,M5 J];exact bb
 ·rw[gG A J,M5 J];exact ho A hz
end rows
def Qg(n:UInt64):Bool:=decide (n≠0)
def zne(n:UInt64):Na 65 [.u n] (.bool (Qg n)) []:=by
 refine Np.val rfl (Nd r_marshal_Noughts_1 Aa N ?_);simp[z6w,Qg]
def zyb(l:List UInt64)(Q:l.length≤1000000000):Na 112 [LU l,.fn (.func 65) [] []] (.i (Vv Qg l)) []:=by
 refine Np.val rfl (Nd r_slices_IndexFunc_uint64_uint64 Aa (by simp) ?_);simp[z2l];refine Ns (λI P G N=>∃i:Nat,P=[]∧N+i=l.length∧lk I 0=.lst (l.map .u) l.length 1∧lk I 1=.fn (.func 65) [] []∧lk I 7=.i l.length∧lk I 8=.i i∧∀M b,M<i→l[M]?=some b→Qg b=false) (N:=l.length) ⟨0,by simp⟩ ?_;rintro N I P G ⟨i,rfl,R,A,B,C,z,D⟩ S E;by_cases hi:l.length≤i
 ·have O:¬i<l.length:=J
  simp[A,B,C,z,O];rw[zge hi D]
 ·have O:i<l.length:=J
  have F:=Ib O;simp[A,B,C,z,O,M9 (So (f:=LV.u) F)];refine Nb (zne l[i]) (by simp) ?_;by_cases H:Qg l[i]=true
  ·simp[H,z];rw[zs0 F H D]
  ·have j:Qg l[i]=false:=Cv
   simp[j,z];refine⟨J,E _ _ _ ⟨N-1,J,i+1,rfl,J,Af,Ax,Ae,by simp,λM b T g=>?_⟩⟩;by_cases e:M=i
   ·subst e;rw[F]at g;cases g;exact j
   ·exact D M b J g
def zmn(l:List UInt64)(g:l.length≤1000000000):Na 64 [LU l,.fn (.func 65) [] []] (.bool (l.any Qg)) []:=by
 refine Np.val rfl (Nd r_slices_ContainsFunc_uint64_uint64 Aa N ?_);simp[z26];refine Nb (zyb l g) (bors_self _ Ao) ?_;simp;rw[←zkl]
def W8(bs:List Bf)(L:List (List UInt64)):Bool:=decide (L.length=bs.length)&&(List.range bs.length).all λi=>!(decide ((Ou bs i).kind=3)&&(L.getD i []).any Qg)
def m7(bs:List Bf)(ps:List Pc)(w0 w1:Pc)(L:List (List UInt64))(gg:bs.length≤1000000)(hL:∀x∈L,x.length≤1000000):Na 20 [.agg (Nj bs ps w0 w1),LN L] (.bool (W8 bs L)) []:=by
 have A:Nj bs ps w0 w1=[.lst (Om bs) bs.length 3,.lst (Oc ps) ps.length 3,.i w0.buf,.i w0.at_,.i w0.size,.i w1.buf,.i w1.at_,.i w1.size]:=rfl;refine Np.val rfl (Nd r_marshal_Noughts Aa (by simp) ?_);by_cases B:L.length=bs.length
 case neg =>
  have O:¬(L.length:Int)=bs.length:=J
  simp[z5g,A,LN,O,B,W8]
 simp[z5g,A,LN,B];refine Ns (λV gB G N=>∃i:Nat,gB=[]∧N+i=bs.length∧lk V 1=.lst (L.map LU) bs.length 1∧lk V 14=.lst (Om bs) bs.length 3∧lk V 15=.i bs.length∧lk V 16=.i i∧∀H,H<i→(!(decide ((Ou bs H).kind=3)&&(L.getD H []).any Qg))=true) (N:=bs.length) ⟨0,rfl,J,by simp,by simp,by simp,by simp,λH P=>J⟩ ?_;rintro N V gB G ⟨i,rfl,hN,I,j,g,z,X⟩ Nx Q;by_cases Y:i<bs.length
 case neg =>
  have R:i=bs.length:=J
  subst R;simp[g,z];simp only[W8,B,decide_true,Kg];rw[I7];intro H P;exact X H (Ji.1 P)
 have Z:=zw (ay Y);have D:=kg Y;have E:(Ou bs i).f=[.i (Ou bs i).size,.i (Ou bs i).kind,.bool (Ou bs i).sec]:=rfl;have nx:∀C G2,lk C 1=.lst (L.map LU) bs.length 1→lk C 14=.lst (Om bs) bs.length 3→lk C 15=.i bs.length→lk C 16=.i ((i:Int)+1)→(!(decide ((Ou bs i).kind=3)&&(L.getD i []).any Qg))=true→Nx C [] G2:=λC G2 a1 S T U h =>
  Q _ _ _ ⟨N-1,J,i+1,rfl,J,a1,S,T,by rw[U];simp,λH P=>by
   by_cases e:H=i
   ·rw[e];exact h
   ·exact X H J⟩
 by_cases M:(Ou bs i).kind=3
 case neg =>
  simp[I,j,g,z,Y,Z,D,E,M];exact⟨J,nx _ _ Db Au Ay (by simp) Av⟩
 have e:(L.map LU)[i]?=some (LU (L.getD i [])):=So (f:=LU) (by rw[Ie,Ib J];rfl);have gj:(L.getD i []).length≤1000000:=Ww hL i;have F:(L.getD i []).any Qg=true→W8 bs L=false:=λh=>by
  cases hq:W8 bs L with
  |false=>rfl
  |true =>
   simp only[W8,H9,I7]at hq;have:=hq.2 i (Ji.2 Y);rw[h]at this;simp[M]at this
 have hx:L[i]?.getD []=L.getD i []:=by rw[Ie]
 generalize L.getD i []=x at *;simp[I,j,g,z,Y,Z,D,E,M,hx];refine⟨J,?_⟩;refine Nb (zmn x J) (bors_self _ Ao) ?_;cases ha:x.any Qg with
 |false =>
  simp[z];exact⟨J,nx _ _ Db Au Ay (by simp) (by simp[ha])⟩
 |true =>
  simp[F ha]
end




end Go.Proofs.YtgjbfhmmgeplmaaGreat
end
