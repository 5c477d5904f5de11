/- The templates: see the main text. -/
import Derived.Test.YtgjbfhmmgeplmaaGreatSvG3
import Derived.Test.YtgjbfhmmgeplmaaGreatTg1
import Derived.Test.YtgjbfhmmgeplmaaGreatTg0
import Derived.Test.YtgjbfhmmgeplmaaGreatSvG2
import Derived.Test.YtgjbfhmmgeplmaaGreatProg
import Derived.KernelRfl
set_option linter.defProp false
noncomputable section
namespace Go.Proofs.YtgjbfhmmgeplmaaGreat
open Go.Sv
set_option linter.unusedSimpArgs false
set_option maxRecDepth 10000
variable{g j:Nat}{M:Mu}{O:LV}{S:LV→Mu→Prop}{X:List Vr}
section
set_option linter.unusedVariables false
def z0u:LC:=(.q [.m 10 1,.b 11 .add 3 10 1,.m 8 11] (.block 0 (.loop (.seq (.q [.m 12 8,.m 13 2,.c 14 .lss 3 12 13] (.cond (.t 14) .skip (.exit 0))) (.seq (.block 1 (.q [.m 17 8,.m 9 17] (.block 2 (.loop (.seq (.seq (.draw [(.m 18 9,[]),(.m 19 1,[]),(.c 20 .gtr 3 18 19,[]),(.m 21 20,[]),(.my 22 21 3,[]),(.my 23 21 0,[]),(.my 24 21 9,[]),(.y 25 21 (.ixAddr 1 (.t 23) (.t 24)),[]),(.yl 26 21 25,[]),(.my 27 21 0,[]),(.my 28 21 9,[]),(.y 29 21 (.bin .sub true 3 (.t 28) (.k 1)),[]),(.y 30 21 (.ixAddr 1 (.t 27) (.t 29)),[]),(.yl 31 21 30,[]),(.y 32 21 (.callV (.t 22) [.t 26,.t 31]),[]),(.y 33 21 (.bin .lss true 3 (.t 32) (.k 0)),[]),(.q 34 21 33,[])]) (.cond (.t 34) .skip (.exit 2))) (.seq (.block 3 (.draw [(.m 37 0,[]),(.m 38 9,[]),(.m 39 0,[]),(.m 40 9,[]),(.b 41 .sub 3 40 1,[]),(.m 42 0,[]),(.m 43 9,[]),(.b 44 .sub 3 43 1,[]),(.I 45 1 42 44,[]),(.l 46 45,[]),(.m 47 0,[]),(.m 48 9,[]),(.I 49 1 47 48,[]),(.l 50 49,[]),(.I 51 1 37 38,[]),(.S 1 51 46,[]),(.I 52 1 39 41,[]),(.S 1 52 50,[])])) (.ops [.m 35 9,.b 36 .sub 3 35 1,.m 9 36]))))))) (.ops [.m 15 8,.b 16 .add 3 15 1,.m 8 16]))))))
def r_slices_insertionSortCmpFunc_int:M4 Tryz.prog 171=some ⟨53,z0u.r,[]⟩:=Aa
def k_slices_insertionSortCmpFunc_int:z0u.ok=true:=Aa
def z1e:LC:=(.q [.K 6 20] (.q [.m 10 6,.K 7 0,.m 8 10] (.seq (.block 0 (.loop (.seq (.q [.m 11 8,.m 12 1,.c 13 .leq 3 11 12] (.cond (.t 13) .skip (.exit 0))) (.block 1 (.q [.m 14 0,.m 15 7,.m 16 8,.m 17 2,.z 18 (.w 171 [.t 14,.t 15,.t 16,.t 17])] (.q [.m 19 8,.m 7 19] (.ops [.m 20 8,.m 21 6,.c 22 .add 3 20 21,.m 8 22]))))))) (.q [.m 23 0,.m 24 7,.m 25 1,.m 26 2,.z 27 (.w 171 [.t 23,.t 24,.t 25,.t 26])] (.block 2 (.loop (.seq (.q [.m 28 6,.m 29 1,.c 30 .lss 3 28 29] (.cond (.t 30) .skip (.exit 2))) (.block 3 (.q [.m 31 6,.z 32 (.bin .mul true 3 (.k 2) (.t 31)),.K 7 0,.m 8 32] (.seq (.block 4 (.loop (.seq (.q [.m 33 8,.m 34 1,.c 35 .leq 3 33 34] (.cond (.t 35) .skip (.exit 4))) (.block 5 (.q [.m 36 0,.m 37 7,.m 38 7,.m 39 6,.c 40 .add 3 38 39,.m 41 8,.m 42 2,.z 43 (.w 172 [.t 36,.t 37,.t 40,.t 41,.t 42])] (.q [.m 44 8,.m 7 44] (.ops [.m 45 8,.m 46 6,.z 47 (.bin .mul true 3 (.k 2) (.t 46)),.c 48 .add 3 45 47,.m 8 48]))))))) (.seq (.q [.m 49 7,.m 50 6,.c 51 .add 3 49 50,.m 9 51] (.q [.m 52 9,.m 53 1,.c 54 .lss 3 52 53] (.cond (.t 54) (.ops [.m 55 0,.m 56 7,.m 57 9,.m 58 1,.m 59 2,.z 60 (.w 172 [.t 55,.t 56,.t 57,.t 58,.t 59])]) .skip))) (.ops [.m 61 6,.b 62 .mul 3 61 2,.m 6 62]))))))))))))
def r_slices_stableCmpFunc_int:M4 Tryz.prog 153=some ⟨63,z1e.r,[]⟩:=Aa
def k_slices_stableCmpFunc_int:z1e.ok=true:=Aa
def z0x:LC:=(.ops [.m 4 0,.m 5 0,.s 6 5,.m 7 1,.V 8 153 4 6 7])
def r_slices_SortStableFunc_int_int:M4 Tryz.prog 126=some ⟨9,z0x.r,[]⟩:=Aa
def k_slices_SortStableFunc_int_int:z0x.ok=true:=Aa
def ztd{a b:Int}:Se a b<0↔a<b:=by
 unfold Se;split
 ·simp;assumption
 ·split<;>simp<;>omega
section sort
variable {g : Nat} {cap : List LV} {f : Int → Int} {Q : Int → Prop} {p kv : Nat}
def Y0(g:Nat)(cap:List LV)(f:Int→Int)(Q:Int→Prop)(p kv:Nat)(A:Mu)(n:Nat):Prop :=
 ∀(z:List Int) (j:Nat) (x y:Int) (B:LV→Mu→Prop),Q x→Q y→B (.i (Se (f x) (f y))) (A.set p (.dyn (z.map .i) n 1 kv j))→O0 (.fn g) (.i x::.i y::cap) (A.set p (.dyn (z.map .i) n 1 kv j)) B
def zbw(l:List Int)(a b:Nat)(hb:b≤l.length)(hl:l.length≤100000)(ha:a≤100000)(O:Mu)(hc:Y0 g cap f Q p kv O l.length)(st:Nat)(hQ:∀x∈l,Q x)(hp:O[p]?=some (.dyn (l.map .i) l.length 1 kv st))(gI:LV→Mu→Prop)
  (hK:∀(z:List Int) (A:Nat),z.Perm l→(∀u,(u<a∨b≤u)→gd z u=gd l u)→q9 f z a b→gI (.tup []) (O.set p (.dyn (z.map .i) l.length 1 kv A))) :
  O0 (.fn 171) [.dy p kv,.i a,.i b,.fn (.func g) [] cap] O gI:=by
 refine M2 r_slices_insertionSortCmpFunc_int k_slices_insertionSortCmpFunc_int (by simp) ?_;simp[z0u];refine⟨J,?_⟩;have gg:p<O.length:=(H5.1 hp).1;have G:O=O.set p (.dyn (l.map .i) l.length 1 kv st):=by
  have:=(H5.1 hp).2;rw[←this,List.set_getElem_self]
 have P:∀x,(O.set p x)[p]?=some x:=λx=>by simp[gg]
 refine Nm (λL gD R N=>∃(i:Nat) (z:List Int) (A:Nat),gD=[]∧R=O.set p (.dyn (z.map .i) l.length 1 kv A)∧N=b-i∧a+1≤i∧(i≤b∨i=a+1)∧lk L 0=.dy p kv∧lk L 1=.i a∧lk L 2=.i b∧lk L 3=.fn (.func g) [] cap∧lk L 8=.i i∧z.Perm l∧(∀u,(u<a∨b≤u)→gd z u=gd l u)∧q9 f z a i)
  (N:=b-(a+1)) ⟨a+1,l,st,rfl,G,rfl,J,J,by simp,by simp,by simp,by simp,by simp,List.Perm.refl _,λ_ _=>rfl,λu v D E F=>J⟩ ?_
 rintro N L gD R ⟨i,z,A,rfl,rfl,rfl,gE,gF,D,E,F,M,H,j,C,S⟩ Nx gj;have T:=j.length_eq;by_cases hi:b≤i
 ·have g1:¬i<b:=J
  simp[F,H,g1];exact hK z A j C λu v D gB hv=>S u v D gB J
 ·have g1:i<b:=J
  simp[F,H,g1];refine Nm (λL gD R N=>∃(B:Nat) (z:List Int) (A:Nat),gD=[]∧R=O.set p (.dyn (z.map .i) l.length 1 kv A)∧N=B-a∧a≤B∧B≤i∧lk L 0=.dy p kv∧lk L 1=.i a∧lk L 2=.i b∧lk L 3=.fn (.func g) [] cap∧lk L 8=.i i∧lk L 9=.i B∧z.Perm l∧(∀u,(u<a∨b≤u)→gd z u=gd l u)∧Xh f z a i B)
   (N:=i-a) ⟨i,z,A,rfl,rfl,rfl,J,Ie _,Be,Aq,Ch,At,Ay,by simp,j,C,zst S⟩ ?_
  rintro gK L gD R ⟨B,z,A,rfl,rfl,rfl,gG,U,D,E,F,M,H,h9,j,C,S⟩ gH V;have T:=j.length_eq;have X:∀I,lk I 0=.dy p kv→lk I 1=.i a→lk I 2=.i b→lk I 3=.fn (.func g) [] cap→lk I 8=.i ((i:Int)+1)→(B=a∨f (gd z (B-1))≤f (gd z B))→Nx I [] (O.set p (.dyn (z.map .i) l.length 1 kv A)):=λI f0 f1 f2 f3 f8 h =>
   gj _ _ _ ⟨_,J,i+1,z,A,rfl,rfl,rfl,J,J,f0,f1,f2,f3,by simp[f8],j,C,Xz U S h⟩
  by_cases hj:B=a
  ·have g0:¬(a:Int)<B:=J
   have gC:¬a<B:=J
   simp[E,H,h9,g0,gC];exact⟨J,X _ Be Aq Ch At (by simp) (.inl hj)⟩
  ·have g0:a<B:=J
   have Y:=Rm (f:=LV.i) (Ug (l:=z) (u:=B) J);have Z:=Rm (f:=LV.i) (Ug (l:=z) (u:=B-1) J);have e1:((B:Int)-1).toNat=B-1:=J
   have g2:B<l.length:=J
   have g3:(1:Int)≤B:=J
   have g4:(B:Int)-1<l.length:=J
   have g5:(0:Int)≤(B:Int)-1:=J
   have gw:(-9223372036854775808≤(B:Int)-1∧(B:Int)-1<9223372036854775808):=J
   have qa:Q (gd z B):=hQ _ (j.mem_iff.1 (I3.2 ⟨B,Ug J⟩));have qb:Q (gd z (B-1)):=hQ _ (j.mem_iff.1 (I3.2 ⟨B-1,Ug J⟩));simp[D,E,M,h9,g0,P,g2,Mx Y,Mx Z,e1,g3,g4,g5,gw];refine hc z A _ _ _ qa qb ?_;by_cases K:f (gd z B)<f (gd z (B-1))
   ·have hz:Se (f (gd z B)) (f (gd z (B-1)))<0:=ztd.2 K;simp[hz,D,h9,P,g2,Mx Y,Mx Z,e1,g3,g4,g5,gw];have e2:((B-1:Nat):Int)=B-1:=J
    refine⟨J,?_⟩;rw[xz z B _ J,xz _ (B-1) _ Ab];refine⟨Ab,V _ _ _ ⟨_,J,B-1,ux z B,_,rfl,rfl,rfl,J,J,Be,Aq,Ch,At,Ay,by simp[e2],(Yr J J).trans j,λu hu=>?_,X3 g0 U J S K⟩⟩;rw[zjz J J,Ig J,Ig J];exact C u hu
   ·have hz:¬Se (f (gd z B)) (f (gd z (B-1)))<0:=λh=>K (ztd.1 h)
    simp[hz,H];exact⟨J,X _ Be Aq Ch At (by simp) (.inr J)⟩
end sort
end
section
set_option linter.unusedVariables false
def z3m:LC:=(.q [.z 4 (.move (.c .nilPtr))] (.seq (.q [.m 5 0,.N 6 5,.f 7 0 6,.f 8 0 7,.l 9 8,.m 10 1,.I 11 3 9 10,.f 12 1 11,.l 13 12] (.cond (.t 13) (.q [.m 14 0,.N 15 14,.f 16 5 15,.z 17 (.ixAddrArr 2 1 (.t 16) (.k 1)),.l 18 17,.m 4 18] .ret) .skip)) (.q [.m 19 0,.N 20 19,.f 21 5 20,.z 22 (.ixAddrArr 2 1 (.t 21) (.k 0)),.l 23 22,.m 4 23] .ret)))
def r_buffers_planner_of:M4 Tryz.prog 90=some ⟨24,z3m.r,[.tmp 4]⟩:=Aa
def z3q:LC:=(.q [.K 5 0] (.seq (.draw [(.l 6 2,[]),(.N 7 6,[]),(.f 8 3 7,[]),(.l 9 8,[]),(.m 10 0,[]),(.I 11 2 9 10,[]),(.f 12 0 11,[]),(.l 13 12,[]),(.l 14 2,[]),(.N 15 14,[]),(.f 16 3 15,[]),(.l 17 16,[]),(.m 18 1,[]),(.I 19 2 17 18,[]),(.f 20 0 19,[]),(.l 21 20,[]),(.W 22 128 13 21,[]),(.m 5 22,[])]) .ret))
def r_buffers_planner_order_1:M4 Tryz.prog 127=some ⟨23,z3q.r,[.tmp 5]⟩:=Aa
section stable
variable {g : Nat} {cap : List LV} {f : Int → Int} {Q : Int → Prop} {p kv : Nat}
def zor(G:Mu)(K:LV→Mu→Prop)(z:K (.tup []) G):O0 (.fn 171) [.nilSl,.i 0,.i 0,.fn (.func g) [] cap] G K:=by
 refine M2 r_slices_insertionSortCmpFunc_int k_slices_insertionSortCmpFunc_int (by simp) ?_;simp[z0u];refine Nm (λA E j F=>E=[]∧j=G∧lk A 2=.i 0∧lk A 8=.i 1) (N:=0) ⟨rfl,rfl,by simp,by simp⟩ ?_;rintro F A E j ⟨rfl,rfl,B,C⟩ H D;simp[B,C];exact z
def zr3(G:Mu)(K:LV→Mu→Prop)(F:K (.tup []) G):O0 (.fn 126) [.nilSl,.fn (.func g) [] cap] G K:=by
 refine M2 r_slices_SortStableFunc_int_int k_slices_SortStableFunc_int_int (by simp) ?_;simp[z0x];refine M2 r_slices_stableCmpFunc_int k_slices_stableCmpFunc_int (by simp) ?_;simp[z1e];refine Nm (λj D B H=>D=[]∧B=G∧lk j 0=.nilSl∧lk j 1=.i 0∧lk j 2=.fn (.func g) [] cap∧lk j 6=.i 20∧lk j 7=.i 0∧lk j 8=.i 20) (N:=0) ⟨rfl,rfl,by simp,by simp,by simp,by simp,by simp,by simp⟩ ?_;rintro H j D B ⟨rfl,rfl,I,z,L,A,M,O⟩ R C;simp[I,z,L,A,M,O];refine zor _ _ ?_;simp;refine Nm (λj D E H=>D=[]∧E=B∧lk j 1=.i 0∧lk j 6=.i 20) (N:=0) ⟨rfl,rfl,Ar,Ae⟩ ?_;rintro H j D E ⟨rfl,rfl,z,A⟩ R C;simp[z,A];exact F
def Y0.set{G:Mu}{n:Nat}(h:Y0 g cap f Q p kv G n)(o:LObj):Y0 g cap f Q p kv (G.set p o) n:=by
 intro l' gg x y K qx qy hk;rw[List.set_set]at hk ⊢;exact h l' gg x y K qx qy hk
def zrt(l:List Int)(hl:l.length≤20)(G:Mu)(hc:Y0 g cap f Q p kv G l.length)(st:Nat)(hQ:∀x∈l,Q x)(X:G[p]?=some (.dyn (l.map .i) l.length 1 kv st))(K:LV→Mu→Prop)
  (hK:∀(A:List Int) (z:Nat),A.Perm l→q9 f A 0 l.length→K (.tup []) (G.set p (.dyn (A.map .i) l.length 1 kv z))) :
  O0 (.fn 126) [.dy p kv,.fn (.func g) [] cap] G K:=by
 refine M2 r_slices_SortStableFunc_int_int k_slices_SortStableFunc_int_int (by simp) ?_;simp[z0x,X];refine M2 r_slices_stableCmpFunc_int k_slices_stableCmpFunc_int (by simp) ?_;simp[z1e];have gj:p<G.length:=(H5.1 X).1;refine Nm (λF gg M N=>gg=[]∧lk F 0=.dy p kv∧lk F 1=.i l.length∧lk F 2=.fn (.func g) [] cap∧lk F 6=.i 20∧((N=1∧M=G∧lk F 7=.i 0∧lk F 8=.i 20) ∨
   (N=0∧l.length=20∧lk F 7=.i 20∧lk F 8=.i 40∧∃A z,A.Perm l∧q9 f A 0 l.length∧M=G.set p (.dyn (A.map .i) l.length 1 kv z)))) (N:=1)
  ⟨rfl,by simp,by simp,by simp,by simp,.inl ⟨rfl,rfl,by simp,by simp⟩⟩ ?_
 rintro N F gg M ⟨rfl,Y,C,Z,B,⟨rfl,rfl,h7,R⟩|⟨rfl,gD,h7,R,O,D,j,S,rfl⟩⟩ Nx I
 ·by_cases e:l.length=20
  ·have T:(20:Int)≤l.length:=J
   simp[Y,C,Z,B,h7,R,T];refine zbw l 0 20 J J J M hc st hQ X _ λA z j _ S=>?_
   simp[B,R];exact I _ _ _ ⟨0,J,rfl,Bl,Ad,Cl,Al,.inr ⟨rfl,e,by simp,by simp,A,z,j,by rw[e];exact S,rfl⟩⟩
  ·have T:¬(20:Int)≤l.length:=J
   simp[Y,C,Z,B,h7,R,T];refine zbw l 0 l.length J J J M hc st hQ X _ λA z j _ S=>?_
   simp;refine Nm (λF gg U N=>gg=[]∧U=M.set p (.dyn (A.map .i) l.length 1 kv z)∧lk F 1=.i l.length∧lk F 6=.i 20) (N:=0) ⟨rfl,rfl,Ad,Al⟩ ?_;rintro N F gg U ⟨rfl,rfl,C,B⟩ Nx I;have g2:¬(20:Int)<l.length:=J
   simp[C,B,g2];exact hK _ _ j S
 ·have T:¬(40:Int)≤l.length:=J
  have L:=j.length_eq;simp[Y,C,Z,B,h7,R,T];have gB:(G.set p (.dyn (O.map .i) l.length 1 kv D))[p]?=some (.dyn (O.map .i) O.length 1 kv D):=by rw[Ia gj,L]
  have V:=λK2=>zbw O 20 O.length J J J (G.set p (.dyn (O.map .i) l.length 1 kv D)) (by rw[L];exact hc.set _) D (λx hx=>hQ x (j.mem_iff.1 hx)) gB K2
  simp only[L]at V;refine V _ λA z E H _=>?_
  simp;refine Nm (λF gg U N=>gg=[]∧U=G.set p (.dyn (A.map .i) l.length 1 kv z)∧lk F 1=.i l.length∧lk F 6=.i 20) (N:=0) ⟨rfl,rfl,Ad,Al⟩ ?_;rintro N F gg U ⟨rfl,rfl,C,B⟩ Nx I;have g2:¬(20:Int)<l.length:=J
  simp[C,B,g2];refine hK _ _ (E.trans j) λu v hu gC hv=>?_
  rw[H u J,H v J];exact S u v hu gC hv
end stable
def Pl(vs:List Vr)(os rs:List Ko)(ss:List Sp)(plv:LV)(s0 s1:Nat):List LV:=[.lst (Nb vs) vs.length 3,.lst (N3 os) os.length 7,.lst (N3 rs) rs.length 7,.lst (M9 ss) ss.length 2,plv,.ptr s0 0,.ptr s1 0]
section pln
variable {G : Mu} {K : LV → Mu → Prop} {P pst : Nat} {vs : List Vr} {os rs : List Ko} {ss : List Sp} {plv : LV} {s0 s1 : Nat}
def zb8(C:G[P]?=some (.cells (Pl vs os rs ss plv s0 s1) pst)){v:Nat}(A:v<vs.length)(k:K (.ptr (if (gv vs v).sec=true then s1 else s0) 0) G):O0 (.fn 90) [.ptr P 0,.i v] G K:=by
 refine M2 r_buffers_planner_of Aa N ?_;have B:=us (Qa A);have z:=S6 A;have j:v*3+1<(Nb vs).length:=J
 cases D:(gv vs v).sec with
 |true =>
  rw[D]at k B;simp[z3m,C,Pl,A,Mx B,z,j];exact k
 |false =>
  rw[D]at k B;simp[z3m,C,Pl,A,Mx B,z,j];exact k
def zng{cst:Nat}(B:G[P]?=some (.cells (Pl vs os rs ss plv s0 s1) pst))(C:G[j]?=some (.cells [.ptr P 0] cst)){v w:Int}(D:0≤v∧v<ss.length)(hw:0≤w∧w<ss.length)(k:K (.i (Se (gs ss v.toNat).1 (gs ss w.toNat).1)) G) :
  O0 (.fn 127) [.i v,.i w,.ptr j 0] G K:=by
 refine M2 r_buffers_planner_order_1 Aa N ?_;have z:v.toNat<ss.length:=J
 have A:w.toNat<ss.length:=J
 have E:=na z;have F:=na A;simp[z3q,B,C,Pl,D,hw,Mx E,Mx F];refine M5 (zi3 (gs ss v.toNat).1 (gs ss w.toNat).1) N ?_;simp;exact k
end pln
end
section
set_option linter.unusedVariables false
def z47:LC:=(.q [.x 1 0,.e 2] (.seq (.q [.l 5 1,.N 6 5,.f 7 0 6,.f 8 0 7,.l 9 8,.s 10 9,.K 11 0] (.block 0 (.loop (.q [.c 12 .lss 3 11 10] (.seq (.cond (.t 12) .skip (.exit 0)) (.seq (.block 1 (.q [.m 13 11,.I 14 3 9 11,.L 15 3 14,.z 4 (.alloc [(.i 0),(.bool false),(.i 0)]),.m 3 13,.S 3 4 15] (.q [.f 16 2 4,.l 17 16,.b 18 .eql 3 17 0] (.cond (.t 18) (.ops [.m 19 2,.m 20 3,.z 21 (.buildSl 1 1 [(.i 0)] [(0,1,.t 20)]),.a 22 1 19 21,.m 2 22]) .skip)))) (.ops [.b 23 .add 3 11 1,.m 11 23]))))))) (.q [.m 24 2,.z 25 (.mkFunc 127 [] [.t 1]),.W 26 126 24 25] (.q [.m 27 2,.m 2 27] .ret))))
def r_buffers_planner_order:M4 Tryz.prog 87=some ⟨28,z47.r,[.tmp 2]⟩:=Aa
section pln
variable {G : Mu} {K : LV → Mu → Prop} {P pst : Nat} {vs : List Vr} {os rs : List Ko} {ss : List Sp} {plv : LV} {s0 s1 : Nat}
def zdj(hP:G[P]?=some (.cells (Pl vs os rs ss plv s0 s1) pst))(gK:vs.length≤20)(gL:ss.length=vs.length)
  (k:∀(hv:LV) (o:List Nat) (z:Mu),o.Perm (Sj vs vs.length)→(o.Pairwise λv w=>(gs ss v).1≤(gs ss w).1)→Rq G.length z hv 1 o.length (o.map λ(v:Nat)=>LV.i (v:Int))→(∀x,x<G.length→z[x]?=G[x]?)→G.length≤z.length→K hv z) :
  O0 (.fn 87) [.ptr P 0] G K:=by
 refine M2 r_buffers_planner_order Aa (by simp) ?_;have gg:=(H5.1 hP).1;obtain⟨I,A⟩:∃I,I=G++[LObj.cells [.ptr P 0] 0]:=⟨_,rfl⟩;have o0:∀x,x<G.length→I[x]?=G[x]?:=λx g=>by rw[A];exact Ib g
 have l0:I.length=G.length+1:=by rw[A];simp
 have c0:I[G.length]?=some (.cells [.ptr P 0] 0):=by rw[A];simp
 have P0:=(o0 P gg).trans hP;simp[z47];rw[←A];simp[c0,P0,Pl];refine Nm (λρ gP z N=>∃(i:Nat) (v:LV),gP=[]∧N+i=vs.length∧lk ρ 1=.ptr G.length 0∧lk ρ 2=v∧lk ρ 9=.lst (Nb vs) vs.length 3∧lk ρ 10=.i vs.length∧lk ρ 11=.i i∧(∀x,x<G.length+1→z[x]?=I[x]?)∧G.length+1≤z.length∧Rq (G.length+1) z v 1 (Sj vs i).length ((Sj vs i).map λ(v:Nat)=>LV.i (v:Int)))
  (N:=vs.length) ⟨0,.nilSl,rfl,J,by simp,by simp,by simp,by simp,by simp,λ_ _=>rfl,J,Rq.nil⟩ ?_
 rintro N ρ gP z ⟨i,v,rfl,hN,O,L,h9,j,B,M,hl,hD⟩ Nx R;by_cases gI:i<vs.length
 ·have q3:=U4 (Qa gI);have S:=S6 gI;have T:(gv vs i).f=[.i (gv vs i).limbs,.bool (gv vs i).sec,.i (gv vs i).mode]:=rfl;have C:=zbv vs i;have gj:=zdg vs i;generalize gv vs i=x at *;by_cases h0:x.mode=0
  ·rw[Ih h0]at C;simp[O,L,h9,j,B,gI,q3,S,T,h0];refine Rq.push (c:=1) (x:=[.i i]) hD.push_end J Ab J rfl rfl λv' G2 gB gC gD=>?_
   simp[B];refine⟨J,R _ _ _ ⟨N-1,J,i+1,v',rfl,J,B3,by simp,by simp[h9],Av,by simp,λx g=>?_,by simp at gD;omega,?_⟩⟩
   ·rw[gC x g,Ib J];exact M x g
   ·rw[C];simpa using gB
  ·rw[Ig h0]at C;simp[O,L,h9,j,B,gI,q3,S,T,h0];refine⟨J,R _ _ _ ⟨N-1,J,i+1,v,rfl,J,B3,Dz,by simp[h9],Av,by simp,λx g=>?_,Ab,?_⟩⟩
   ·rw[Ib J];exact M x g
   ·rw[C,Jd];exact hD.push_end
 ·have gE:i=vs.length:=J
  subst gE;have gj:=zdg vs vs.length;have U:∀v,v∈Sj vs vs.length→v<vs.length:=λv h=>(zao.1 h).1
  have cG:=(M _ J).trans c0;have PG:=(M P J).trans P0;generalize hz:Sj vs vs.length=gH at *;simp[O,L,j,B];obtain⟨hd,gM,⟨rfl,hn,hL⟩|⟨q,V,st,hq,rfl,D⟩⟩:=hD
  ·refine zr3 _ _ ?_;have:gH=[]:=by simpa using hL
   subst this;simp[L];exact k _ [] _ (List.Perm.refl _) List.Pairwise.nil Rq.nil (λx g=>(M x J).trans (o0 x g)) J
  ·have E:(gH.map λ(v:Nat)=>(v:Int)).length=gH.length:=by simp
   have F:z[q]?=some (.dyn ((gH.map λ(v:Nat)=>(v:Int)).map .i) (gH.map λ(v:Nat)=>(v:Int)).length 1 V st):=by rw[E,List.map_map];exact D
   have gF:=(H5.1 D).1;refine zrt (f:=λx=>(gs ss x.toNat).1) (Q:=λx=>0≤x∧x<ss.length) (gH.map λ(v:Nat)=>(v:Int)) J _ ?_ st ?_ F _ λl' gG H hs=>?_
   ·intro l2 gO x y K2 qx qy hk;refine zng (P:=P) (vs:=vs) (os:=os) (rs:=rs) (plv:=plv) (s0:=s0) (s1:=s1) (pst:=pst) (cst:=0) ?_ ?_ qx qy hk
    ·rw[H6 J];exact PG
    ·rw[H6 J];exact cG
   ·intro x g;obtain⟨v,hv,rfl⟩:=Lz.1 g;have:=U v hv;omega
   ·obtain⟨o,rfl,X⟩:=Zs H;have Y:=X.length_eq;have Z:=Yz (f:=λx=>(gs ss x.toNat).1) (l:=o.map λ(v:Nat)=>(v:Int)) (by rw[List.length_map,Y,←E];exact hs);rw[List.pairwise_map]at Z;simp[L];refine k _ o _ X (by simpa using Z) ⟨Wi (λ_=>rfl) o,by simp,.inr ⟨q,V,gG,J,rfl,?_⟩⟩ (λx g=>?_) Ab
    ·rw[Ia gF,←Y];simp
    ·rw[H6 J,M x J,o0 x g]
end pln
end
section
set_option linter.unusedVariables false
def Rd(l:List Nat):List LV:=l.map λ(v:Nat)=>LV.i (v:Int)
def gf(l:List Nat):(Rd l).length=l.length:=by simp[Rd]
def ztr{l:List Nat}{i v:Nat}(h:l[i]?=some v):(Rd l)[i]?=some (.i v):=by simp[Rd,h]
def qr(x:List Nat)(v:Nat)(y:List Nat):(x++v::y)[x.length]?=some v:=N
section delf
variable {g : Nat} {cap : List LV} {over : Nat → Bool} {I : List Nat → List Nat → Mu → Prop}
def Yf(g:Nat)(cap:List LV)(over:Nat→Bool)(rw:Option Nat)(I:List Nat→List Nat→Mu→Prop):Prop :=
 ∀(x y:List Nat) (v:Nat) (z:Mu) (A:LV→Mu→Prop),I x (v::y) z→(∀q,rw=some q→q<z.length)→(∀j,I (if over v=true then x else x++[v]) y j→(∀q,rw=some q→j[q]?=z[q]?)→A (.bool (over v)) j)→O0 (.fn g) (.i v::cap) z A
def znl{b:Nat}{l:List Nat}(D:Nt b M O 1 l.length (Rd l))(hl:l.length≤1000000)(U:I [] l M)(V:Yf g cap over (Q9 O) I)
  (X:∀z,I l [] z→Nt b z O 1 l.length (Rd l)→S (.i (-1)) z)
  (Y:∀x v y z,l=x++v::y→over v=true→I x y z→Nt b z O 1 l.length (Rd l)→S (.i x.length) z) :
  O0 (.fn 121) [O,.fn (.func g) [] cap] M S:=by
 refine M2 r_slices_IndexFunc_int_int k_slices_IndexFunc_int_int (by simp) ?_;simp[z1d];refine D.lenL ?_;refine Nm (λQ gg z N=>∃(x y:List Nat),l=x++y∧gg=[]∧N=y.length∧lk Q 0=O∧lk Q 1=.fn (.func g) [] cap∧lk Q 7=.i l.length∧lk Q 8=.i x.length∧I x y z∧Nt b z O 1 l.length (Rd l)) (N:=l.length)
  ⟨[],l,rfl,rfl,rfl,by simp,by simp,by simp,by simp,U,D⟩ ?_
 rintro N Q gg z ⟨x,y,A,rfl,rfl,R,G,H,K,E,j⟩ Nx L;cases y with
 |nil =>
  have e:l=x:=Bi
  subst e;simp[H,K];exact X _ E j
 |cons v y =>
  have T:l.length=x.length+(y.length+1):=by rw[A];simp
  have Z:(x.length:Int)<l.length:=J
  simp[R,G,H,K,Z];refine j.at1 J J λa ha=>?_
  simp;refine ha _ ?_;simp only[I4];refine⟨_,ztr (by rw[A];exact qr x v y),?_⟩;simp[G];refine V x y v z _ E (λq hq=>(j.row hq).2.1) λG2 B P=>?_
  have C:=j.frame2 P;by_cases F:over v=true
  ·rw[Ih F]at B;simp[F];exact Y x v y _ A F B C
  ·rw[Ig F]at B;simp[F,K];refine⟨J,L _ _ _ ⟨y.length,by simp,x++[v],y,by rw[A];simp,rfl,rfl,by simp[R],As,Ay,by simp,B,C⟩⟩
def zm1{b:Nat}{l:List Nat}(gE:Nt b M O 1 l.length (Rd l))(hl:l.length≤1000000)(hI:I [] l M)(hc:Yf g cap over (Q9 O) I)
  (G:∀x y M q D,Q9 O=some q→I x y M→I x y (M.set q D))
  (k:∀x L B,I x [] B→Nt b B L 1 x.length (Rd x)→Q9 L=Q9 O→S L B) :
  O0 (.fn 88) [O,.fn (.func g) [] cap] M S:=by
 refine M2 r_slices_DeleteFunc_int_int k_slices_DeleteFunc_int_int (by simp) ?_;simp[z1b];refine znl gE hl hI hc (λB E j=>?_) λx v y G1 F T X C=>?_
 ·simp;exact k l _ _ E j rfl
 ·have Y:l.length=x.length+(y.length+1):=by rw[F];simp
  have Z:Q9 O≠none:=by
   rcases C with ⟨rfl,H,_⟩|⟨p,k,gP,m,st,h1,h2,h3,h4,U,P,⟨rfl,_⟩|rfl⟩
   ·omega
   ·simp[Q9]
   ·simp[Q9]
  have gx:¬((x.length:Int)=-1):=J
  simp[gx];refine⟨J,?_⟩;have gg:l.drop (l.length-y.length)=y:=by
   have e:l=(x++[v])++y:=by rw[F];simp
   rw[(Ab:l.length-y.length=(x++[v]).length),e,List.drop_left]
  refine Nm (λρ gQ B N=>∃(x y V:List Nat),gQ=[]∧N=y.length∧lk ρ 0=O∧lk ρ 1=.fn (.func g) [] cap∧lk ρ 5=.i x.length∧lk ρ 6=.i ((l.length:Int)-y.length)∧x.length+y.length<l.length∧V.length=l.length∧V.take x.length=x∧V.drop (l.length-y.length)=y∧I x y B∧Nt b B O 1 l.length (Rd V)) (N:=y.length)
   ⟨x,y,l,rfl,rfl,by simp,by simp,by simp,Ab,J,rfl,by rw[F];simp,gg,X,C⟩ ?_
  clear gg F X C T Y gx x y v;rintro N ρ gQ B ⟨x,y,V,rfl,rfl,H,h1,U,P,gj,hL,hx,hy,E,j⟩ Nx gB;cases y with
  |nil =>
   simp at gj;have g1:¬((l.length:Int)<l.length):=J
   simp[H,P];refine j.lenL ?_;simp[H,U];refine j.tail1 (i:=x.length) J Z (λK' Q=>Q) (λK' Q=>Q) λp gF gP m st hp hG hR z=>?_
   have A:∀D,I x [] (B.set p D):=λD=>G x [] B p D hp E
   have gM:=(H5.1 hG).1;simp[H,U,hG,hR];have gO:x.length≤V.length:=J
   have gG:(Rd V).take x.length=Rd x:=by rw[←hx];simp[Rd]
   refine (z (st+1)).cut2 (m:=x.length) J (λK' Q=>Q) (λd K' Q=>Q) λv' gC gH=>?_
   simp;refine k x v' _ (A _) ?_ gH;rw[Kr,Lk (by rw[Ir,gf];omega),Lj,Nat.min_self,gG]at gC;exact gC
  |cons v y =>
   simp at gj;have gI:V[l.length-(y.length+1)]?=some v:=by
    have:=congrArg (λgR=>gR[0]?) hy;simpa using this
   have gD:V.drop (l.length-y.length)=y:=by
    have:=congrArg (List.drop 1) hy;rw[Kh]at this;simpa [(J:l.length-(y.length+1)+1=l.length-y.length)] using this
   have e6:(l.length:Int)-((v::y).length:Nat)=((l.length-(y.length+1):Nat):Int):=Ab
   rw[e6]at P;have g1:((l.length-(y.length+1):Nat):Int)<l.length:=J
   simp[H,P];refine j.lenL ?_;have g2:l.length-(y.length+1)<l.length:=J
   refine⟨λ_=>?_,λh=>absurd h J⟩;refine j.at1 J J λa ha=>?_
   simp;refine ha _ ?_;simp only[I4];refine⟨_,ztr gI,?_⟩;simp[h1];refine hc x y v B _ E (λq hq=>(j.row hq).2.1) λG2 A gK=>?_
   have z:=j.frame2 gK;by_cases T:over v=true
   ·rw[Ih T]at A;simp[T,P];refine⟨J,gB _ _ _ ⟨y.length,by simp,x,y,V,rfl,rfl,Ay,by simp[h1],B9,Ab,J,hL,hx,gD,A,z⟩⟩
   ·rw[Ig T]at A;simp[T,H,U,P];refine z.ixw1 J J λp gF gP m st hp hG hR K=>?_
    have gL:∀D,I (x++[v]) y (G2.set p D):=λD=>G _ _ _ p D hp A
    simp only[I4]at hR K ⊢;simp[U,P,hG,hR];have R:(Rd V).set x.length (.i v)=Rd (V.set x.length v):=by simp[Rd,Ln]
    refine⟨J,J,gB _ _ _ ⟨y.length,by simp,x++[v],y,V.set x.length v,rfl,rfl,Ay,by simp[h1],by simp,Ab,Ab,by simp[hL],?_,?_,gL _,?_⟩⟩
    ·rw[Il,List.length_singleton,L6,Mi J,hx,Ia J];simp
    ·rw[List.drop_set_of_lt J];exact gD
    ·rw[←R];exact K _ _ rfl
end delf
end
section
set_option linter.unusedVariables false
def z2n:LC:=(.q [.F 4] (.seq (.draw [(.l 6 1,[]),(.N 7 6,[]),(.f 8 3 7,[]),(.l 9 8,[]),(.m 10 0,[]),(.I 11 2 9 10,[]),(.f 12 1 11,[]),(.l 13 12,[]),(.l 14 1,[]),(.N 15 14,[]),(.f 16 3 15,[]),(.l 17 16,[]),(.l 18 2,[]),(.I 19 2 17 18,[]),(.f 20 0 19,[]),(.l 21 20,[]),(.c 22 .lss 3 13 21,[]),(.m 5 22,[])]) (.seq (.q [.m 23 5] (.cond (.t 23) (.draw [(.l 24 1,[]),(.m 25 0,[]),(.l 27 1,[]),(.N 28 27,[]),(.f 29 4 28,[]),(.l 30 29,[]),(.m 31 0,[]),(.I 32 3 30 31,[]),(.L 33 3 32,[]),(.W 26 90 24 25,[(.L 33 3 32,false),(.l 30 29,false),(.l 27 1,false)]),(.W 34 91 26 33,[])]) .skip)) (.q [.m 35 5,.m 4 35] .ret))))
def r_buffers_planner_run_1:M4 Tryz.prog 89=some ⟨36,z2n.r,[.tmp 4]⟩:=Aa
def cp(G:Mu)(s:Nat)(g:Int)(r:Option Nat)(x:St):Prop:=∃j st,G[s]?=some (.cells [.i g,j,.i x.size] st)∧Tc G j r x.holes
def bI(b:Bool):Int:=if b=true then 1 else 0
structure PS (G:Mu) (s:Bool→Nat) (r:Bool→Option Nat) (base:Int) (ps:Bool→St):Prop where
 st:∀b,cp G (s b) (base+bI b) (r b) (ps b)
 ne:s false≠s true
 rne:∀q,r false=some q→r true≠some q
section ps
variable {G G' : Mu} {s : Bool → Nat} {r : Bool → Option Nat} {base : Int} {ps : Bool → St}
def PS.cell(h:PS G s r base ps)(b:Bool):∃hv st,G[s b]?=some (.cells [.i (base+bI b),hv,.i (ps b).size] st):=by
 obtain⟨hv,st,h1,_⟩:=h.st b;exact⟨hv,st,h1⟩
def PS.row(h:PS G s r base ps){b:Bool}{q:Nat}(hq:r b=some q):∃R m k st,G[q]?=some (.dyn R m 2 k st):=by
 obtain⟨hv,st,h1,h2⟩:=h.st b;rw[hq]at h2;obtain⟨gg,gj,_,h3⟩:=h2;exact⟨_,_,_,_,h3⟩
def PS.lt(h:PS G s r base ps){b:Bool}{q:Nat}(hq:r b=some q):q<G.length:=by
 obtain⟨R,m,k,st,h3⟩:=h.row hq;exact (H5.1 h3).1
def PS.slt(h:PS G s r base ps)(b:Bool):s b<G.length:=by
 obtain⟨hv,st,h1⟩:=h.cell b;exact (H5.1 h1).1
def PS.nes(h:PS G s r base ps){b c:Bool}(e:b≠c):s b≠s c:=by
 have:=h.ne;cases b<;>cases c
 ·exact absurd rfl e
 ·exact this
 ·exact this.symm
 ·exact absurd rfl e
def PS.ner(h:PS G s r base ps){b c:Bool}(e:b≠c){q:Nat}(hb:r b=some q):r c≠some q:=by
 have:=h.rne;cases b<;>cases c
 ·exact absurd rfl e
 ·exact this q hb
 ·exact λhc=>this q hc hb
 ·exact absurd rfl e
def PS.sr(h:PS G s r base ps){b c:Bool}{q:Nat}(hb:r b=some q):q≠s c:=λe=>by
 obtain⟨R,m,k,st,h3⟩:=h.row hb;obtain⟨hv,gg,h1⟩:=h.cell c;rw[e,h1]at h3;cases h3
def cp.old{q:Nat}{buf:Int}{ro:Option Nat}{x:St}(h:cp G q buf ro x)(h1:G'[q]?=G[q]?)(h2:∀y,ro=some y→G'[y]?=G[y]?):cp G' q buf ro x:=by
 obtain⟨hv,st,a,b⟩:=h;exact⟨hv,st,by rw[h1];exact a,b.old h2⟩
def PS.old(h:PS G s r base ps)(h1:∀b,G'[s b]?=G[s b]?)(h2:∀b y,r b=some y→G'[y]?=G[y]?):PS G' s r base ps :=
 ⟨λb=>(h.st b).old (h1 b) (h2 b),h.ne,h.rne⟩
def PS.push(h:PS G s r base ps)(ob:List LObj):PS (G++ob) s r base ps :=
 h.old (λb=>Ib (h.slt b)) λb y hy=>Ib (h.lt hy)
def PS.setO(h:PS G s r base ps){q:Nat}(h1:∀b,q≠s b)(h2:∀b,r b≠some q)(ob:LObj):PS (G.set q ob) s r base ps :=
 h.old (λb=>H6 (h1 b)) λb y hy=>H6 λe=>h2 b (by rw[hy,e])
def PS.cne(h:PS G s r base ps){q st:Nat}{c:List LV}(hq:G[q]?=some (.cells c st))(hc:c.length≠3):(∀b,q≠s b)∧∀b,r b≠some q:=by
 refine⟨λb e=>?_,λb e=>?_⟩
 ·obtain⟨hv,gg,h1⟩:=h.cell b;rw[e,h1]at hq;cases hq;exact hc rfl
 ·obtain⟨R,m,k,gg,h3⟩:=h.row e;rw[h3]at hq;cases hq
def PS.take{K:LV→Mu→Prop}(h:PS G s r base ps)(b:Bool){n:Int}(hz:0≤(ps b).size∧(ps b).size≤1000000000)(hn:1≤n∧n≤1000000000)(hh:∀x∈(ps b).holes,0≤x.1∧x.1<x.2∧x.2≤(ps b).size)(hl:(ps b).holes.length≤1000000)
  (k:∀G',PS G' s r base (Rp ps b (Oz n (ps b)).2)→(∀x,x<G.length→x≠s b→r b≠some x→G'[x]?=G[x]?)→G.length≤G'.length→K (.agg [.i (base+bI b),.i (Oz n (ps b)).1,.i n]) G') :
  O0 (.fn 47) [.ptr (s b) 0,.i n] G K:=by
 obtain⟨hv,st,h1,h2⟩:=h.st b;have hb:HoB (ps b).holes 1000000000:=λgC hj=>by
  have:=hh _ (I3.2 ⟨gC,Wb hj⟩);omega
 refine z71 h1 h2 hz hn hb hl λG' j gg ho hlen gj gB=>?_
 refine k G' ⟨λc=>?_,h.ne,h.rne⟩ ho hlen;by_cases e:c=b
 ·subst e;rw[zam];exact⟨j,gg,gj,gB⟩
 ·rw[zez _ _ e];refine (h.st c).old (ho _ (h.slt c) (h.nes e) λq=>h.sr q rfl) λy hy=>ho _ (h.lt hy) (h.sr hy) (h.ner e hy)
def PS.give{K:LV→Mu→Prop}(h:PS G s r base ps)(b:Bool){pb a n:Int}(ha:0≤a∧a≤1000000000)(hn:0≤n∧n≤1000000000)(hl:(ps b).holes.length≤100000)
  (k:∀G' r' (i gE:Nat),PS G' s r' base (Rp ps b ⟨cn i gE (a,a+n) (ps b).holes,(ps b).size⟩)→(∀x,x<G.length→x≠s b→r b≠some x→G'[x]?=G[x]?)→G.length≤G'.length→(∀c q,r' c=some q→r c=some q∨G.length≤q)→K (.tup []) G') :
  O0 (.fn 91) [.ptr (s b) 0,.agg [.i pb,.i a,.i n]] G K:=by
 obtain⟨hv,st,h1,h2⟩:=h.st b;refine zhe h1 h2 ha hn hl λG' gg r' gj i gE ho hlen gB gC gD=>?_
 have j:∀c q,(if c=b then r' else r c)=some q→r c=some q∨G.length≤q:=λc q e=>by
  by_cases ec:c=b
  ·rw[Ih ec]at e;rw[ec];exact gD q e
  ·rw[Ig ec]at e;exact .inl e
 refine k G' (λc=>if c=b then r' else r c) i gE ⟨λc=>?_,h.ne,λq e1 e2=>?_⟩ ho hlen j
 ·by_cases e:c=b
  ·subst e;rw[zam,Ih rfl];exact⟨gg,gj,gB,gC⟩
  ·rw[zez _ _ e,Ig e];refine (h.st c).old (ho _ (h.slt c) (h.nes e) λq=>h.sr q rfl) λy hy=>ho _ (h.lt hy) (h.sr hy) (h.ner e hy)
 ·have f1:=j false q e1;have f2:=j true q e2;cases b with
  |false =>
   rw[Ig Ah]at e2;rcases f1 with f1|f1
   ·exact h.rne q f1 e2
   ·have:=h.lt e2;omega
  |true =>
   rw[Ig Ah]at e1;rcases f2 with f2|f2
   ·exact h.rne q e1 f2
   ·have:=h.lt e1;omega
end ps
end
section
set_option linter.unusedVariables false
def Pf(vs:List Vr)(i:Nat):Int:=(gv vs i).limbs
def Qm(vs:List Vr)(i:Nat):Bool:=(gv vs i).sec
def Tl(ss:List Sp)(i:Nat):Int:=(gs ss i).1
def Wc(ss:List Sp)(i:Nat):Int:=(gs ss i).2
def Vq(G0:Mu)(s:Bool→Nat)(r0:Bool→Option Nat)(rw:Option Nat)(base:Int)(wk:Bool→Int)(vs:List Vr)(ss:List Sp)(done:List Nat)(iv:Nat→Hl)(g:Int)(x y:List Nat)(A:Mu):Prop :=
 ∃r j,PS A s r base j∧Plan0 wk (Tl ss) (Wc ss) (Pf vs) (Qm vs) done (x++y) iv j g∧ki done (x++y) j∧(∀z,z<G0.length→(∀b,z≠s b)→(∀b,r0 b≠some z)→rw≠some z→A[z]?=G0[z]?)∧G0.length≤A.length∧(∀c q,r c=some q→r0 c=some q∨G0.length≤q)
def i6(s:Bool→Nat)(c:Bool):(if c=true then s true else s false)=s c:=by cases c<;>rfl
section run
variable {G0 : Mu} {P pst pc cst vc vst : Nat} {vs : List Vr} {os rs : List Ko} {ss : List Sp} {pl ver plst : Nat} {pls : List Pc} {s : Bool → Nat} {r0 : Bool → Option Nat} {ps0 : Bool → St} {rw : Option Nat} {base : Nat} {wk : Bool → Int} {done : List Nat} {iv : Nat → Hl} {v : Nat}
def Ye(gE:G0[P]?=some (.cells (Pl vs os rs ss (.dy pl ver) (s false) (s true)) pst))(gF:G0[pc]?=some (.cells [.ptr P 0] cst))(gG:G0[vc]?=some (.cells [.i v] vst))(j:G0[pl]?=some (.dyn (N0 pls) vs.length 3 ver plst))
  (A:PS G0 s r0 base ps0) (I:∀q,rw=some q→∃gR m k st,G0[q]?=some (.dyn gR m 1 k st)) (hv:v<vs.length) (gV:ss.length=vs.length) (K:∀w∈done,base≤w∧w<vs.length) (gS:pls.length=vs.length)
  (gH:∀w∈done,N4 pls w=R9 base iv (Pf vs) (Qm vs) w) (U:∀w∈done,1≤Pf vs w) (gX:wk false+wk true+(done.map (Pf vs)).sum≤1000000) (gY:done.length≤1000) (gZ:vs.length≤1000) :
  Yf 89 [.ptr pc 0,.ptr vc 0] (λw=>decide (Wc ss w<Tl ss v)) rw (Vq G0 s r0 rw base wk vs ss done iv (Tl ss v)):=by
 rintro x y w gU jF ⟨r,ps,V,g,D,X,Y,L⟩ Z k;have B:∀F,F<G0.length→(∀b,F≠s b)→(∀b,r0 b≠some F)→rw≠some F→gU[F]?=G0[F]?:=X;have z:∀(F:Nat) (c:List LV) (st:Nat),G0[F]?=some (LObj.cells c st)→c.length≠3→gU[F]?=some (LObj.cells c st):=λF c st G hc=>by
  obtain⟨n1,n2⟩:=A.cne G hc;rw[B F (H5.1 G).1 n1 n2 λe=>?_]
  ·exact G
  ·obtain⟨gR,m,k,gI,C⟩:=I F e;rw[C]at G;cases G
 have hP:=z _ _ _ gE (by simp[Pl]);have hc:=z _ _ _ gF N;have M:=z _ _ _ gG N;have O:gU[pl]?=some (.dyn (N0 pls) vs.length 3 ver plst):=by
  rw[B pl (H5.1 j).1 (λb e=>?_) (λb e=>?_) λe=>?_]
  ·exact j
  ·obtain⟨hv,st,T⟩:=A.cell b;rw[e,T]at j;cases j
  ·obtain⟨gR,m,k,st,C⟩:=A.row e;rw[C]at j;cases j
  ·obtain⟨gR,m,k,st,C⟩:=I pl e;rw[C]at j;cases j
 have E:w∈done:=g.sub w N;obtain⟨g8,hw⟩:=K w E;have gw:w<ss.length:=J
 have Q:v<ss.length:=J
 have q1:=zc6 gw;have q2:=na Q;have q3:=om (Wm (l:=pls) (n:=w) J);have q4:=T6 (l:=pls) (i:=w) J;have gg:(N4 pls w).f=[.i (N4 pls w).buf,.i (N4 pls w).at_,.i (N4 pls w).size]:=rfl;have gK:=gH w E;have g9:=U w E;have jg:=mr ss;have g5:w*2+1<(M9 ss).length:=J
 have g6:v*2<(M9 ss).length:=J
 refine M2 r_buffers_planner_run_1 Aa N ?_;by_cases R:Wc ss w<Tl ss v
 ·have S:(gs ss w).2<(gs ss v).1:=R;rw[Ih C7,show (λw=>decide (Wc ss w<Tl ss v)) w=true by simpa using R]at k;simp[z2n,hP,hc,M,O,Pl,gw,Q,hw,Mx q1,Mx q2,S,q3,q4,gg];refine zb8 hP hw ?_;rw[i6];simp[hP,hc,M,O,Pl,gw,hw,q3,q4,gg];have gj:N4 pls w=⟨(base:Int)+(if Qm vs w=true then 1 else 0),(iv w).1,Pf vs w⟩:=by rw[gK,zkd J]
  rw[gj];dsimp only;have gL:=g.wide w E;have jz:=g.inn w E;have gT:=g.sz;have gB:=λb=>(g.ok b).1
  have jA:=gB false;have jB:=gB true;have jC:(ps (Qm vs w)).size≤1000000:=by cases Qm vs w<;>omega
  have gM:=D (Qm vs w);simp at gM;refine V.give (Qm vs w) J J J λG' r' i jE H gC jD gO=>?_
  simp;have gP:((iv w).1,(iv w).1+Pf vs w)=iv w:=by rw[←gL]
  rw[gP]at H;have gD:∀F,F<G0.length→(∀b,r0 b≠some F)→∀c,r c≠some F:=λF G hn c e=>by
   rcases L c F e with h|h
   ·exact hn c h
   ·omega
  refine k G' ⟨r',_,H,g.give i jE (Kt _) R,D.give _ _ _ _ _,λF G T h2 C=>?_,J,λc q hq=>?_⟩ λq hq=>?_
  ·rw[gC F J (T _) (gD F G h2 _)];exact B F G T h2 C
  ·rcases gO c q hq with h|h
   ·exact L c q h
   ·exact .inr J
  ·obtain⟨gR,m,k2,gI,C⟩:=I q hq;have gQ:=(H5.1 C).1;refine gC q (Z q hq) (λe=>?_) (gD q gQ (λb e=>?_) _)
   ·obtain⟨hv,st,T⟩:=A.cell (Qm vs w);rw[e,T]at C;cases C
   ·obtain⟨gR,m,k,st,h4⟩:=A.row e;rw[h4]at C;cases C
 ·have S:¬(gs ss w).2<(gs ss v).1:=R;rw[Ig C7,show (λw=>decide (Wc ss w<Tl ss v)) w=false by simpa using R]at k;simp[z2n,hP,hc,M,O,Pl,gw,Q,hw,Mx q1,Mx q2,S];refine k gU ⟨r,ps,V,?_,?_,X,Y,L⟩ λ_ _=>rfl
  ·rw[Iz];exact g
  ·rw[Iz];exact D
def Vq.setO{x y:List Nat}{G:Mu}{q:Nat}{cur:Int}{b0:Int}(gg:PS G0 s r0 b0 ps0)(hq:rw=some q)(gD:∃R m k st,G0[q]?=some (.dyn R m 1 k st))(h:Vq G0 s r0 rw b0 wk vs ss done iv cur x y G)(ob:LObj):Vq G0 s r0 rw b0 wk vs ss done iv cur x y (G.set q ob):=by
 obtain⟨r,ps,gE,gj,gB,gF,hlen,gC⟩:=h;obtain⟨R,m,k,st,h3⟩:=gD;have gG:=(H5.1 h3).1;refine⟨r,ps,gE.setO (λb e=>?_) (λb e=>?_) ob,gj,gB,λz hz h1 h2 h4=>?_,by simpa using hlen,gC⟩
 ·obtain⟨hv,st,h1⟩:=gg.cell b;rw[e,h1]at h3;cases h3
 ·rcases gC b q e with h|h
  ·obtain⟨R,m,k,st,h4⟩:=gg.row h;rw[h4]at h3;cases h3
  ·omega
 ·rw[H6 (λe=>h4 (by rw[hq,e]))];exact gF z hz h1 h2 h4
end run
end
section
set_option linter.unusedVariables false
def z5j:LC:=(.q [.x 1 0] (.q [.e 2] (.q [.l 5 1,.w 6 87 5,.s 7 6,.K 8 0] (.block 0 (.loop (.q [.c 9 .lss 3 8 7] (.seq (.cond (.t 9) .skip (.exit 0)) (.seq (.block 1 (.q [.I 10 1 6 8,.l 11 10,.z 4 (.alloc [(.i 0)]),.S 1 4 11] (.q [.m 12 2,.z 13 (.mkFunc 89 [] [.t 1,.t 4]),.W 14 88 12 13,.m 2 14] (.seq (.draw [(.l 15 1,[]),(.N 16 15,[]),(.f 17 4 16,[]),(.l 18 17,[]),(.l 19 4,[]),(.l 20 1,[]),(.l 21 4,[]),(.l 23 1,[]),(.N 24 23,[]),(.f 25 0 24,[]),(.f 26 0 25,[]),(.l 27 26,[]),(.l 28 4,[]),(.I 29 3 27 28,[]),(.f 30 0 29,[]),(.l 31 30,[]),(.W 22 90 20 21,[(.l 31 30,false),(.l 28 4,false),(.l 27 26,false),(.l 23 1,false),(.l 19 4,false),(.l 18 17,false),(.l 15 1,false)]),(.W 32 47 22 31,[(.l 19 4,false),(.l 18 17,false),(.l 15 1,false)]),(.I 33 3 18 19,[]),(.S 3 33 32,[])]) (.ops [.m 34 2,.l 35 4,.z 36 (.buildSl 1 1 [(.i 0)] [(0,1,.t 35)]),.a 37 1 34 36,.m 2 37]))))) (.ops [.b 38 .add 3 8 1,.m 8 38])))))))))
def r_buffers_planner_run:M4 Tryz.prog 48=some ⟨39,z5j.r,[]⟩:=Aa
def Rq.toStD{b:Nat}{G:Mu}{v:LV}{n:Nat}{l:List LV}(h:Rq b G v 1 n l):Nt b G v 1 n l:=by
 obtain⟨h1,h2,⟨rfl,rfl,rfl⟩|⟨p,k,st,hb,rfl,hp⟩⟩:=h
 ·exact Nt.nil
 ·exact Nt.dy hb hp h2 h1
section run
variable {G : Mu} {P pst : Nat} {vs : List Vr} {os rs : List Ko} {ss : List Sp} {pl ver plst : Nat} {pls : List Pc} {s : Bool → Nat} {base : Nat} {wk : Bool → Int} {K : LV → Mu → Prop}
def zh0(hP:G[P]?=some (.cells (Pl vs os rs ss (.dy pl ver) (s false) (s true)) pst))(jQ:G[pl]?=some (.dyn (N0 pls) vs.length 3 ver plst))(zz:PS G s (λ_=>none) base (λb=>⟨[],wk b⟩))
  (zA:vs.length≤20) (jR:ss.length=vs.length) (jS:pls.length=vs.length) (zB:∀b,1≤wk b) (gD:∀v,v<vs.length→((gv vs v).mode=0↔base≤v)) (gE:∀v,v<vs.length→1≤Pf vs v∧Pf vs v≤100000)
  (z7:wk false+wk true+((Sj vs vs.length).map (Pf vs)).sum≤1000000) (jT:∀i,i<base→i<vs.length→N4 pls i=⟨i,0,Pf vs i⟩)
  (k:∀F iv ps done z gj r g,Plan0 wk (Tl ss) (Wc ss) (Pf vs) (Qm vs) done z iv ps gj→done.Perm (Sj vs vs.length)→PS F s r base ps→F[pl]?=some (.dyn (N0 (Te vs base iv)) vs.length 3 ver g) →
   (∀C,C<G.length→(∀b,C≠s b)→C≠pl→F[C]?=G[C]?)→G.length≤F.length→(∀c q,r c=some q→G.length≤q)→K (.tup []) F) :
  O0 (.fn 48) [.ptr P 0] G K:=by
 refine M2 r_buffers_planner_run Aa (by simp) ?_;have zC:=(H5.1 hP).1;have jU:=(H5.1 jQ).1;obtain⟨G0,gF⟩:∃G0,G0=G++[LObj.cells [.ptr P 0] 0]:=⟨_,rfl⟩;have o0:∀x,x<G.length→G0[x]?=G[x]?:=λx hx=>by rw[gF];exact Ib hx
 have l0:G0.length=G.length+1:=by rw[gF];simp
 have c0:G0[G.length]?=some (.cells [.ptr P 0] 0):=by rw[gF];simp
 have P0:=(o0 P zC).trans hP;have zD:=(o0 pl jU).trans jQ;have jV:PS G0 s (λ_=>none) base (λb=>⟨[],wk b⟩):=by rw[gF];exact zz.push _
 simp[z5j];rw[←gF];refine zdj P0 zA jR λhv o G1 B gG hD o1 l1=>?_
 have P1:=(o1 P J).trans P0;have c1:=(o1 G.length J).trans c0;have jz:=(o1 pl J).trans zD;have jA:PS G1 s (λ_=>none) base (λb=>⟨[],wk b⟩):=jV.old (λb=>o1 _ (jV.slt b)) λb y hy=>by cases hy
 have hO:Nt G0.length G1 hv 1 o.length (Rd o):=Rq.toStD hD;have gH:∀w∈o,base≤w∧w<vs.length:=λw hw=>by
  obtain⟨D,h2⟩:=zao.1 (B.mem_iff.1 hw);exact⟨(gD w D).1 h2,D⟩
 have zE:o.Nodup:=B.nodup_iff.2 (zkn _ _);have z8:o.length≤20:=by
  have:=B.length_eq;have:=zdg vs vs.length;omega
 have gX:∀t,wk false+wk true+((o.take t).map (Pf vs)).sum≤1000000:=λt=>by
  have e:=zpj (B.map (Pf vs));have:=znh (l:=o.map (Pf vs)) (λx hx=>by
   obtain⟨w,hw,rfl⟩:=Lz.1 hx;have:=(gE w (gH w hw).2).1;omega) t
  rw[←Lr]at this;omega
 obtain⟨gI,jB⟩:∃gI,∀w∈o,gI≤Tl ss w:=by
  cases o with
  |nil=>exact⟨0,by simp⟩
  |cons w o' =>
   refine⟨Tl ss w,λx hx=>?_⟩;rcases Ij.1 hx with rfl|hx
   ·exact Kt _
   ·exact (Jv.1 gG).1 x hx
 simp;refine hO.lenL ?_;refine Nm (λρ AI F N=>∃(t:Nat) (z:List Nat) (bv:LV) (r:Bool→Option Nat) (ps:Bool→St) (iv:Nat→Hl) (j:List Pc) (g:Nat) (gj:Int),AI=[]∧N+t=o.length∧lk ρ 1=.ptr G.length 0∧lk ρ 2=bv∧lk ρ 6=hv∧lk ρ 7=.i o.length∧lk ρ 8=.i t ∧
   Nt G1.length F bv 1 z.length (Rd z)∧PS F s r base ps∧Plan0 wk (Tl ss) (Wc ss) (Pf vs) (Qm vs) (o.take t) z iv ps gj∧(∀w∈o.drop t,gj≤Tl ss w)∧ki (o.take t) z ps ∧
   (∀C,C<G1.length→(∀b,C≠s b)→C≠pl→F[C]?=G1[C]?)∧G1.length≤F.length∧(∀c q,r c=some q→G1.length≤q)∧F[pl]?=some (.dyn (N0 j) vs.length 3 ver g)∧j.length=vs.length ∧
   (∀i,i<vs.length→(i<base∨i∈o.take t)→N4 j i=R9 base iv (Pf vs) (Qm vs) i))
  (N:=o.length) ⟨0,[],.nilSl,λ_=>none,λb=>⟨[],wk b⟩,λ_=>(0,0),pls,plst,gI,rfl,rfl,by simp,by simp,by simp,by simp,by simp,Nt.nil,jA,zs3 zB,jB,λs=>by simp,λ_ _ _ _=>rfl,Ie _,λc q H=>(by cases H),jz,jS,λi hi h=>?_⟩ ?_
 ·rcases h with h|h
  ·rw[jT i h hi,znp J]
  ·simp at h
 rintro N ρ AI F ⟨t,z,bv,r,ps,iv,j,g,gj,rfl,hN,D,h2,h6,h7,h8,hB,gY,S,jX,gZ,gK,z9,jC,gL,T,gP⟩ Nx zG;have jY:=λ(C:Nat) (c:List LV) (st:Nat) (E:G1[C]?=some (LObj.cells c st)) (hc:c.length≠3)=>jA.cne E hc
 have jZ:∀(C:Nat) (c:List LV) (st:Nat),G1[C]?=some (LObj.cells c st)→C≠pl:=λC c st E e=>by rw[e,jz]at E;cases E
 have P':=(gK P J (jY _ _ _ P1 (by simp[Pl])).1 (jZ _ _ _ P1)).trans P1;have c':=(gK G.length J (jY _ _ _ c1 (by simp)).1 (jZ _ _ _ c1)).trans c1;by_cases zV:t<o.length
 case neg =>
  have e:t=o.length:=J
  subst e;simp[h7,h8];rw[Ma]at S gP;have zH:j=Te vs base iv:=gc (by rw[T,jk]) λi hi=>by
   rw[zgy J];have jD:i<vs.length:=J
   refine gP i jD ?_;by_cases q:i<base
   ·exact .inl q
   ·exact .inr (B.mem_iff.2 (zao.2 ⟨jD,(gD i jD).2 J⟩))
  rw[zH]at gL;refine k F iv ps o z gj r g S B gY gL (λC E D h2=>?_) J λc q H=>by have:=jC c q H;omega
  rw[gK C J D h2,o1 C J,o0 C E]
 have jE:o[t]?=some o[t]:=H8 zV;obtain⟨v,gQ⟩:∃v,v=o[t]:=⟨_,rfl⟩;rw[←gQ]at jE;have zI:v∈o:=by rw[gQ];exact K3 zV
 obtain⟨Ag,Q⟩:=gH v zI;have zK:Nt G0.length F hv 1 o.length (Rd o):=hO.frame2 λq H=>by
  obtain⟨a1,a2,jg,m,k2,gR,U⟩:=hO.row H;refine gK q a2 (λb e=>?_) λe=>?_
  ·obtain⟨hv,st,D⟩:=jA.cell b;rw[e,D]at U;cases U
  ·rw[e,jz]at U;cases U
 simp[h6,h7,h8,zV];refine zK.at1 J J λa ha=>?_
 simp;refine ha _ ?_;simp only[I4];refine⟨_,ztr jE,?_⟩;simp[D,h2];obtain⟨G2,gB⟩:∃G2,G2=F++[LObj.cells [.i v] 1]:=⟨_,rfl⟩;have o2:∀x,x<F.length→G2[x]?=F[x]?:=λx hx=>by rw[gB];exact Ib hx
 have l2:G2.length=F.length+1:=C9
 have v2:G2[F.length]?=some (.cells [.i v] 1):=C9
 have P2:=(o2 P J).trans P';have c2:=(o2 G.length J).trans c';have M:=(o2 pl J).trans gL;have gC:PS G2 s r base ps:=by rw[gB];exact gY.push _
 have jF:Nt G1.length G2 bv 1 z.length (Rd z):=by rw[gB];exact hB.push_end
 have gS:∀q,Q9 bv=some q→∃jg m k st,G2[q]?=some (.dyn jg m 1 k st):=λq H=>(jF.row H).2.2
 rw[←gB];have jG:∀w∈o.take t,base≤w∧w<vs.length:=λw hw=>gH w (Lf hw)
 have j3:v∈o.drop t:=by rw[Iw zV,←gQ];simp
 have Aj:z.length≤20:=by
  have:=gZ false;rw[Ir]at this;omega
 have zL:v ∉ o.take t:=λhm=>by
  have:=Jp t o ▸ zE;exact (List.nodup_append.1 this).2.2 v hm v j3 rfl
 refine zm1 (over:=λw=>decide (Wc ss w<Tl ss v)) (I:=Vq G2 s r (Q9 bv) base wk vs ss (o.take t) iv (Tl ss v)) jF J
  ⟨r,ps,gC,S.raise (jX v j3),gZ,λ_ _ _ _ _=>rfl,Ie _,λ_ _ h=>.inl h⟩
  (Ye P2 c2 v2 M gC gS Q jR jG T (λw hw=>gP w (jG w hw).2 (.inr hw)) (λw hw=>(gE w (jG w hw).2).1) (gX t) B2 J)
  (λx y G q ob H h=>Vq.setO gC H (gS q H) h ob) λx gT G3 zM jH zX=>?_
 obtain⟨r3,V,L,A,X,gM,Az,j4⟩:=zM;rw[Jd]at A X;have O:∀(C:Nat) (c:List LV) (st:Nat),G2[C]?=some (LObj.cells c st)→c.length≠3→G3[C]?=some (LObj.cells c st):=λC c st E hc=>by
  obtain⟨n1,n2⟩:=gC.cne E hc;rw[gM C (H5.1 E).1 n1 n2 λe=>?_]
  ·exact E
  ·obtain⟨jg,m,k,gR,h3⟩:=gS C e;rw[h3]at E;cases E
 have P3:=O _ _ _ P2 (by simp[Pl]);have c3:=O _ _ _ c2 (by simp);have v3:=O _ _ _ v2 (by simp);have jI:∀b,pl≠s b:=λb e=>by
  obtain⟨hv,st,D⟩:=gC.cell b;rw[e,D]at M;cases M
 have Y:G3[pl]?=some (.dyn (N0 j) vs.length 3 ver g):=by
  rw[gM pl (H5.1 M).1 jI (λb e=>?_) λe=>?_]
  ·exact M
  ·obtain⟨jg,m,k,st,h3⟩:=gC.row e;rw[h3]at M;cases M
  ·obtain⟨jg,m,k,st,h3⟩:=gS pl e;rw[h3]at M;cases M
 have q0:=bn (Qa Q);have AA:=S6 Q;have zY:v*3<(Nb vs).length:=J
 obtain⟨g8,zZ⟩:=gE v Q;simp[D,h2,P3,c3,v3,Y,Pl,Q,Mx q0];refine zb8 P3 Q ?_;rw[i6];simp[D,P3,c3,v3,Pl,Q,Y,Mx q0];have jK:=λb=>(A.ok b).1
 have AB:=A.sz;have zO:=gX t;have AC:=jK false;have AD:=jK true;have AE:(V (Qm vs v)).size≤1000000:=by cases Qm vs v<;>omega
 have zP:=X (Qm vs v);rw[Ir]at zP;have z6:=L.slt (Qm vs v);refine L.take (Qm vs v) (n:=Pf vs v) ⟨jK _,J⟩ ⟨g8,J⟩ (λx hx=>A.hole _ hx) J λG4 j5 gU AF=>?_
 have nz:∀(C:Nat) (c:List LV) (st:Nat),G3[C]?=some (LObj.cells c st)→c.length≠3→G4[C]?=some (LObj.cells c st):=λC c st E hc=>by
  obtain⟨n1,n2⟩:=L.cne E hc;rw[gU C (H5.1 E).1 (n1 _) (n2 _)];exact E
 have P4:=nz _ _ _ P3 (by simp[Pl]);have c4:=nz _ _ _ c3 (by simp);have v4:=nz _ _ _ v3 (by simp);have gV:G4[pl]?=some (.dyn (N0 j) vs.length 3 ver g):=by
  rw[gU pl (H5.1 Y).1 (jI _) λe=>?_]
  ·exact Y
  ·obtain⟨jg,m,k,st,h3⟩:=L.row e;rw[h3]at Y;cases Y
 have j6:Nt G1.length G4 gT 1 x.length (Rd x):=jH.frame2 λq H=>by
  obtain⟨a1,a2,jg,m,k2,gR,U⟩:=jH.row H;refine gU q a2 (λe=>?_) λe=>?_
  ·obtain⟨hv,st,D⟩:=L.cell (Qm vs v);rw[e,D]at U;cases U
  ·obtain⟨jg,m,k,st,h3⟩:=L.row e;rw[h3]at U;cases U
 have j7:=T6 (l:=j) (i:=v) J;simp[D,P3,c3,v3,Y,P4,c4,v4,gV,Pl,Q,j7];have j8:=zto (f:=Pc.f) Pc.f_len (l:=j) (i:=v) ⟨(base:Int)+bI (Qm vs v),(Oz (Pf vs v) (V (Qm vs v))).1,Pf vs v⟩ J;rw[show Nh (N0 j) (v*3) [LV.i ((base:Int)+bI (Qm vs v)),LV.i (Oz (Pf vs v) (V (Qm vs v))).1,LV.i (Pf vs v)]=N0 (j.set v ⟨(base:Int)+bI (Qm vs v),(Oz (Pf vs v) (V (Qm vs v))).1,Pf vs v⟩) from j8];obtain⟨R,jL⟩:∃R,R=j.set v ⟨(base:Int)+bI (Qm vs v),(Oz (Pf vs v) (V (Qm vs v))).1,Pf vs v⟩:=⟨_,rfl⟩;rw[←jL];have jM:=(H5.1 gV).1;obtain⟨G5,gO⟩:∃G5,G5=G4.set pl (.dyn (N0 R) vs.length 3 ver (g+1)):=⟨_,rfl⟩;have o5:∀x,x≠pl→G5[x]?=G4[x]?:=λx hx=>by rw[gO,H6 (λe=>hx e.symm)]
 have l5:G5.length=G4.length:=by rw[gO];simp
 have zQ:G5[pl]?=some (.dyn (N0 R) vs.length 3 ver (g+1)):=by rw[gO];exact Ia jM
 have v5:G5[F.length]?=some (.cells [.i v] 1):=by rw[o5 _ (λe=>by rw[e,gV]at v4;cases v4)];exact v4
 have j9:Nt G1.length G5 gT 1 x.length (Rd x):=j6.frame2 λq H=>by
  obtain⟨a1,a2,jg,m,k2,gR,U⟩:=j6.row H;exact o5 q λe=>by rw[e,gV]at U;cases U
 have jO:∀c q,r3 c=some q→G1.length≤q:=λc q H=>by
  rcases j4 c q H with h|h
  ·exact jC c q h
  ·omega
 have jP:PS G5 s r3 base (Rp V (Qm vs v) (Oz (Pf vs v) (V (Qm vs v))).2):=by
  rw[gO];exact j5.setO jI (λb e=>by have:=jO b pl e;omega) _
 rw[←gO];simp[v5];have AG:x.length≤20:=J
 refine Nt.push2 (x:=[.i v]) j9.push_end J Ab J rfl rfl λzR G6 zS g9 zT AH=>?_
 have zg:∀q,q<G5.length→Q9 gT≠some q→G6[q]?=G5[q]?:=λq H hn=>by rw[g9 q Ab hn,Ib H]
 clear g9;simp at zT;simp[h8];have Z:∀C ob,G5[C]?=some ob→(∀jg m k st,ob≠LObj.dyn jg m 1 k st)→G6[C]?=some ob:=λC ob E hn=>by
  rw[zg C (H5.1 E).1 λe=>?_]
  ·exact E
  ·obtain⟨_,_,jg,m,k2,gR,U⟩:=j9.row e;rw[E]at U;exact hn _ _ _ _ (Option.some.inj U)
 have gg:o.take (t+1)=o.take t++[v]:=by rw[L6,jE];rfl
 refine⟨J,zG _ _ _ ⟨N-1,J,t+1,x++[v],zR,r3,_,_,R,g+1,Tl ss v,rfl,J,Be,by simp,Bo,E5,by simp,?_,jP.old (λb=>?_) (λb y hy=>?_),gg ▸ A.take zL g8,λw hw=>?_,gg ▸ X.take _ _,λC E n1 n2=>?_,J,jO,Z _ _ zQ Do,by rw[jL];simpa using T,λi hi h=>?_⟩⟩
 ·have e:Rd (x++[v])=Rd x++[.i v]:=by simp[Rd]
  rw[e,Il];exact zS
 ·obtain⟨hv,st,D⟩:=jP.cell b;rw[D];exact Z _ _ D Do
 ·obtain⟨jg,m,k,st,D⟩:=jP.row hy;rw[D];exact Z _ _ D Do
 ·have zU:=Jp t o ▸ gG;have hd:=(Md.1 zU).2.1;rw[Iw zV,←gQ]at hd;exact (Jv.1 hd).1 w hw
 ·have zj:∀q,Q9 gT=some q→G1.length≤q:=λq H=>(jH.row H).1
  rw[zg C J (λe=>by have:=zj C e;omega),o5 C n2,gU C J (n1 _) (λe=>by have:=jO _ C e;omega),gM C J n1 (λb e=>by have:=jC b C e;omega) (λe=>by have:=(jF.row e).1;omega),o2 C J];exact gK C E n1 n2
 ·rw[jL,znr J];by_cases e:i=v
  ·subst e;rw[Ih rfl,zkd J];simp[Wr,bI]
  ·rw[Ig e,fy e];refine gP i hi ?_;rcases h with h|h
   ·exact .inl h
   ·rw[gg]at h;rcases Iy.1 h with h|h
    ·exact .inr h
    ·exact absurd (Kl.1 h) e
end run
end
section
set_option linter.unusedVariables false
def z43:LC:=(.q [.e 2] (.seq (.q [.m 6 0,.N 7 6,.f 8 0 7,.f 9 0 8,.l 10 9,.s 11 10,.K 12 0] (.block 0 (.loop (.q [.c 13 .lss 3 12 11] (.seq (.cond (.t 13) .skip (.exit 0)) (.seq (.block 1 (.q [.m 14 12,.I 15 3 10 12,.L 16 3 15,.z 4 (.alloc [(.i 0),(.bool false),(.i 0)]),.m 3 14,.S 3 4 16] (.seq (.q [.f 17 2 4,.l 18 17,.b 19 .eql 3 18 0] (.cond (.t 19) (.exit 0) .skip)) (.q [.K 5 1] (.seq (.q [.f 20 2 4,.l 21 20,.b 22 .eql 3 21 3] (.cond (.t 22) (.ops [.K 5 2]) .skip)) (.q [.m 23 2,.f 24 0 4,.l 25 24,.m 26 5,.f 27 1 4,.l 28 27,.z 29 (.build [(.i 0),(.i 0),(.bool false)] [(0,1,.t 25),(1,1,.t 26),(2,1,.t 28)]),.z 30 (.buildSl 3 1 [(.i 0),(.i 0),(.bool false)] [(0,3,.t 29)]),.a 31 3 23 30,.m 2 31] (.draw [(.m 32 0,[]),(.N 33 32,[]),(.f 34 4 33,[]),(.l 35 34,[]),(.m 36 3,[]),(.m 37 3,[]),(.f 38 0 4,[]),(.l 39 38,[]),(.z 40 (.build [(.i 0),(.i 0),(.i 0)] [(0,1,.t 37),(2,1,.t 39)]),[]),(.I 41 3 35 36,[]),(.S 3 41 40,[])]))))))) (.ops [.b 42 .add 3 12 1,.m 12 42]))))))) (.q [.m 43 2,.m 2 43] .ret)))
def r_buffers_planner_params:M4 Tryz.prog 46=some ⟨44,z43.r,[.tmp 2]⟩:=Aa
def Sf(vs:List Vr)(n:Nat):List Bf:=(List.range n).map λi=>P8 (gv vs i)
def zqx(vs:List Vr)(n:Nat):Sf vs (n+1)=Sf vs n++[P8 (gv vs n)]:=by simp[Sf,Mg]
def xk(a b:List Bf):Ok (a++b)=Ok a++Ok b:=by simp[Ok]
section par
variable {G : Mu} {P pst : Nat} {vs : List Vr} {os rs : List Ko} {ss : List Sp} {pl ver plst : Nat} {pls : List Pc} {s0 s1 : LV} {base : Nat} {K : LV → Mu → Prop}
def zd7(hP:G[P]?=some (.cells [.lst (Nb vs) vs.length 3,.lst (N3 os) os.length 7,.lst (N3 rs) rs.length 7,.lst (M9 ss) ss.length 2,.dy pl ver,s0,s1] pst))(gB:G[pl]?=some (.dyn (N0 pls) vs.length 3 ver plst))(gG:pls.length=vs.length)
  (gC:∀v,v<vs.length→((gv vs v).mode=0↔base≤v)) (gO:base≤vs.length) (gR:vs.length≤100000)
  (k:∀hv B g j,Nt G.length B hv 3 base (Ok (Sf vs base))→B[pl]?=some (.dyn (N0 g) vs.length 3 ver j)→g.length=vs.length→(∀i,i<base→N4 g i=⟨i,0,Pf vs i⟩)→(∀A,A<G.length→A≠pl→B[A]?=G[A]?)→G.length≤B.length→K hv B) :
  O0 (.fn 46) [.ptr P 0] G K:=by
 refine M2 r_buffers_planner_params Aa (by simp) ?_;have T:=(H5.1 hP).1;have Q:=(H5.1 gB).1;have gD:P≠pl:=λe=>by rw[e,gB]at hP;cases hP
 simp[z43,hP];refine Nm (λρ gU B N=>∃(i:Nat) (v:LV) (g:List Pc) (j:Nat),gU=[]∧N+i=base∧lk ρ 0=.ptr P 0∧lk ρ 2=v∧lk ρ 10=.lst (Nb vs) vs.length 3∧lk ρ 11=.i vs.length∧lk ρ 12=.i i∧Nt G.length B v 3 i (Ok (Sf vs i))∧B[pl]?=some (.dyn (N0 g) vs.length 3 ver j)∧g.length=vs.length∧(∀gH,gH<i→N4 g gH=⟨gH,0,Pf vs gH⟩)∧(∀A,A<G.length→A≠pl→B[A]?=G[A]?)∧G.length≤B.length)
  (N:=base) ⟨0,.nilSl,pls,plst,rfl,J,by simp,by simp,by simp,by simp,by simp,Nt.nil,gB,gG,λgH hj=>J,λ_ _ _=>rfl,Ie _⟩ ?_
 rintro N ρ gU B ⟨i,v,g,j,rfl,hN,h0,h2,U,R,S,hD,F,H,gg,ho,hl⟩ Nx gI;have P':=(ho P T gD).trans hP;have I:=(H5.1 F).1;by_cases gM:i<vs.length
 case neg =>
  have e:i=base:=J
  subst e;simp[h2,R,S,gM];exact k _ _ _ _ hD F H gg ho hl
 have q3:=U4 (Qa gM);have gE:=S6 gM;have hm:=gC i gM;have gK:=zqx vs i;have gL:Pf vs i=(gv vs i).limbs:=rfl;have gF:(gv vs i).f=[.i (gv vs i).limbs,.bool (gv vs i).sec,.i (gv vs i).mode]:=rfl;generalize gv vs i=x at *;by_cases V:x.mode=0
 ·have e:i=base:=by
   have:=hm.1 V;omega
  subst e;simp[h2,U,R,S,gM,q3,gE,gF,V];exact k _ _ _ _ hD.push_end (by rw[Mv I];exact F) H gg (λA E h1=>by rw[Mv J];exact ho A E h1) Ab
 have gS:i<base:=by
  have:¬base≤i:=λq=>V (hm.2 q)
  omega
 obtain⟨G1,gj⟩:∃G1,G1=B++[LObj.cells [.i x.limbs,.bool x.sec,.i x.mode] 1]:=⟨_,rfl⟩;have o1:∀A,A<B.length→G1[A]?=B[A]?:=λA E=>by rw[gj];exact Ib E
 have l1:G1.length=B.length+1:=by rw[gj];simp
 have x1:G1[B.length]?=some (.cells [.i x.limbs,.bool x.sec,.i x.mode] 1):=by rw[gj];simp
 have P1:=(o1 P J).trans P';have gT:=(o1 pl I).trans F;have D1:Nt G.length G1 v 3 i (Ok (Sf vs i)):=by rw[gj];exact hD.push_end
 by_cases h3:x.mode=3
 ·simp[h2,U,R,S,gM,q3,gE,gF,V,h3];obtain⟨L,C⟩:∃L,L=B++[LObj.cells [LV.i x.limbs,LV.bool x.sec,LV.i 3] 1,LObj.dyn [LV.i x.limbs,LV.i 2,LV.bool x.sec] 1 3 0 0]:=⟨_,rfl⟩;have o2:∀A,A<B.length→L[A]?=B[A]?:=λA E=>by rw[C];exact Ib E
  have l2:L.length=B.length+2:=by rw[C];simp
  have x2:L[B.length]?=some (.cells [.i x.limbs,.bool x.sec,.i 3] 1):=by rw[C];simp
  have D2:Nt G.length L v 3 i (Ok (Sf vs i)):=by rw[C];exact hD.push_end
  rw[←C];refine Nt.push2 (x:=[.i x.limbs,.i 2,.bool x.sec]) D2 J J J rfl rfl λv3 G3 D3 z l3 gP=>?_
  have M:∀A ob,L[A]?=some ob→(∀q,Q9 v=some q→q≠A)→G3[A]?=some ob:=λA ob E hn=>by
   rw[z A (H5.1 E).1 λe=>hn A e rfl];exact E
  have D:∀A,A<G.length→Q9 v≠some A:=λA E e=>by have:=(D2.row e).1;omega
  have x3:=M _ _ x2 λq hq e=>by
   obtain⟨_,_,gV,m,k2,gQ,a3⟩:=D2.row hq;rw[e,x2]at a3;cases a3
  have P3:G3[P]?=G[P]?:=Fu
  rw[hP]at P3;have X:G3[pl]?=some (.dyn (N0 g) vs.length 3 ver j):=Fx
  have O:=(H5.1 X).1;have Y:=T6 (l:=g) (i:=i) J;simp[h0,P3,x3,X,gM,Y,S];have Z:=zto (f:=Pc.f) Pc.f_len (l:=g) (i:=i) ⟨i,0,x.limbs⟩ J;rw[show Nh (N0 g) (i*3) [LV.i (i:Int),LV.i 0,LV.i x.limbs]=N0 (g.set i ⟨i,0,x.limbs⟩) from Z];refine⟨J,gI _ _ _ ⟨N-1,J,i+1,v3,g.set i ⟨i,0,x.limbs⟩,j+1,rfl,J,Fi,by simp,B9,by simp[R],by simp,?_,Ia O,Dd,λgH hj=>?_,λA E hn=>?_,Ab⟩⟩
  ·rw[gK,xk];have e:Ok [P8 x]=[.i x.limbs,.i 2,.bool x.sec]:=by simp[Ok,P8,Bf.f,h3]
   rw[e];exact D3.set_lt Q
  ·rw[znr J];by_cases e:gH=i
   ·rw[Ih e,e,gL]
   ·rw[Ig e];exact gg gH J
  ·rw[H6 (λe=>hn e.symm),z A J (D A E),o2 A J];exact ho A E hn
 ·simp[h2,U,R,S,gM,q3,gE,gF,V,h3];obtain⟨L,C⟩:∃L,L=B++[LObj.cells [LV.i x.limbs,LV.bool x.sec,LV.i x.mode] 1,LObj.dyn [LV.i x.limbs,LV.i 1,LV.bool x.sec] 1 3 0 0]:=⟨_,rfl⟩;have o2:∀A,A<B.length→L[A]?=B[A]?:=λA E=>by rw[C];exact Ib E
  have l2:L.length=B.length+2:=by rw[C];simp
  have x2:L[B.length]?=some (.cells [.i x.limbs,.bool x.sec,.i x.mode] 1):=by rw[C];simp
  have D2:Nt G.length L v 3 i (Ok (Sf vs i)):=by rw[C];exact hD.push_end
  rw[←C];refine Nt.push2 (x:=[.i x.limbs,.i 1,.bool x.sec]) D2 J J J rfl rfl λv3 G3 D3 z l3 gP=>?_
  have M:∀A ob,L[A]?=some ob→(∀q,Q9 v=some q→q≠A)→G3[A]?=some ob:=λA ob E hn=>by
   rw[z A (H5.1 E).1 λe=>hn A e rfl];exact E
  have D:∀A,A<G.length→Q9 v≠some A:=λA E e=>by have:=(D2.row e).1;omega
  have x3:=M _ _ x2 λq hq e=>by
   obtain⟨_,_,gV,m,k2,gQ,a3⟩:=D2.row hq;rw[e,x2]at a3;cases a3
  have P3:G3[P]?=G[P]?:=Fu
  rw[hP]at P3;have X:G3[pl]?=some (.dyn (N0 g) vs.length 3 ver j):=Fx
  have O:=(H5.1 X).1;have Y:=T6 (l:=g) (i:=i) J;simp[h0,P3,x3,X,gM,Y,S];have Z:=zto (f:=Pc.f) Pc.f_len (l:=g) (i:=i) ⟨i,0,x.limbs⟩ J;rw[show Nh (N0 g) (i*3) [LV.i (i:Int),LV.i 0,LV.i x.limbs]=N0 (g.set i ⟨i,0,x.limbs⟩) from Z];refine⟨J,gI _ _ _ ⟨N-1,J,i+1,v3,g.set i ⟨i,0,x.limbs⟩,j+1,rfl,J,Fi,by simp,B9,by simp[R],by simp,?_,Ia O,Dd,λgH hj=>?_,λA E hn=>?_,Ab⟩⟩
  ·rw[gK,xk];have e:Ok [P8 x]=[.i x.limbs,.i 1,.bool x.sec]:=by simp[Ok,P8,Bf.f,h3]
   rw[e];exact D3.set_lt Q
  ·rw[znr J];by_cases e:gH=i
   ·rw[Ih e,e,gL]
   ·rw[Ig e];exact gg gH J
  ·rw[H6 (λe=>hn e.symm),z A J (D A E),o2 A J];exact ho A E hn
end par
end
section
set_option linter.unusedVariables false
def z96:LC:=(.q [.x 1 0,.z 2 (.alloc [.nilSl,.nilSl,(.i 0),(.i 0),(.i 0),(.i 0),(.i 0),(.i 0)]),.K 3 0] (.seq (.q [.L 15 3 1,.w 16 43 15,.m 4 16] (.q [.m 17 4,.b 18 .neq 35 17 0] (.cond (.t 18) (.q [.z 19 (.build [.nilSl,.nilSl,(.i 0),(.i 0),(.i 0),(.i 0),(.i 0),(.i 0)] []),.m 20 4,.S 8 2 19,.m 3 20] .ret) .skip))) (.q [.L 22 3 1,.w 23 44 22,.m 21 23,.X 24 0 21,.X 25 1 21,.z 5 (.alloc [(.i 0),(.i 0)]),.S 2 5 24,.m 6 25] (.q [.z 26 (.ixAddrArr 2 1 (.t 5) (.k 0)),.l 27 26,.z 28 (.ixAddrArr 2 1 (.t 5) (.k 1)),.l 29 28,.c 30 .add 3 27 29,.m 7 30] (.seq (.q [.f 31 0 1,.l 32 31,.s 33 32,.K 34 0] (.block 0 (.loop (.q [.c 35 .lss 3 34 33] (.seq (.cond (.t 35) .skip (.exit 0)) (.seq (.block 1 (.q [.I 36 3 32 34,.L 37 3 36,.z 9 (.alloc [(.i 0),(.bool false),(.i 0)]),.S 3 9 37] (.q [.f 38 2 9,.l 39 38,.b 40 .eql 3 39 0] (.cond (.t 40) (.ops [.m 41 7,.f 42 0 9,.l 43 42,.c 44 .add 3 41 43,.m 7 44]) .skip)))) (.ops [.b 45 .add 3 34 1,.m 34 45]))))))) (.seq (.q [.m 46 6,.z 47 (.un .not (.t 46)),.m 48 47,.mn 49 48 7,.nb 50 48 .gtr 3 49 65536,.p 51 48 50] (.cond (.t 51) (.q [.z 52 (.build [.nilSl,.nilSl,(.i 0),(.i 0),(.i 0),(.i 0),(.i 0),(.i 0)] []),.S 8 2 52,.K 3 10] .ret) .skip)) (.seq (.draw [(.L 53 3 1,[]),(.L 54 3 1,[]),(.f 56 0 1,[]),(.l 57 56,[]),(.s 58 57,[]),(.z 59 (.mkSl 3 [(.i 0),(.i 0),(.i 0)] (.t 58) (.t 58)),[(.l 57 56,false),(.L 54 3 1,false),(.L 53 3 1,false)]),(.w 55 45 54,[(.z 59 (.mkSl 3 [(.i 0),(.i 0),(.i 0)] (.t 58) (.t 58)),true),(.l 57 56,false),(.L 53 3 1,false)]),(.z 60 (.build [.nilSl,.nilSl,.nilSl,.nilSl,.nilSl,.nilPtr,.nilPtr] [(0,3,.t 53),(3,1,.t 55),(4,1,.t 59)]),[]),(.x 61 60,[(.z 59 (.mkSl 3 [(.i 0),(.i 0),(.i 0)] (.t 58) (.t 58)),true),(.l 57 56,false),(.L 53 3 1,false)]),(.m 10 61,[])]) (.q [.m 62 10,.w 63 46 62,.z 64 (.build [.nilSl,.nilSl,(.i 0),(.i 0),(.i 0),(.i 0),(.i 0),(.i 0)] [(0,1,.t 63)]),.z 11 (.alloc [.nilSl,.nilSl,(.i 0),(.i 0),(.i 0),(.i 0),(.i 0),(.i 0)]),.S 8 11 64] (.seq (.q [.K 65 0] (.block 2 (.loop (.q [.b 66 .lss 3 65 2] (.seq (.cond (.t 66) .skip (.exit 2)) (.seq (.block 3 (.q [.m 67 65,.m 12 67] (.seq (.draw [(.m 68 10,[]),(.m 69 12,[]),(.f 70 0 11,[]),(.l 71 70,[]),(.s 72 71,[]),(.m 73 12,[]),(.c 74 .add 3 72 73,[]),(.z 75 (.build [(.i 0),.nilSl,(.i 0)] [(0,1,.t 74)]),[]),(.x 76 75,[(.l 71 70,false)]),(.N 77 68,[]),(.f 78 5 77,[]),(.z 79 (.ixAddrArr 2 1 (.t 78) (.t 69)),[]),(.S 1 79 76,[])]) (.draw [(.m 80 12,[]),(.m 81 10,[]),(.m 82 12,[]),(.N 83 81,[]),(.f 84 5 83,[]),(.z 85 (.ixAddrArr 2 1 (.t 84) (.t 82)),[]),(.l 86 85,[]),(.m 87 12,[]),(.z 88 (.ixAddrArr 2 1 (.t 5) (.t 87)),[]),(.l 89 88,[]),(.f 91 2 11,[]),(.W 90 47 86 89,[]),(.z 92 (.ixAddrArr 2 3 (.t 91) (.t 80)),[]),(.S 3 92 90,[])])))) (.ops [.b 93 .add 3 65 1,.m 65 93]))))))) (.q [.m 94 10,.w 95 48 94] (.seq (.q [.m 96 10,.N 97 96,.f 98 5 97,.L 99 2 98,.K 100 0] (.block 4 (.loop (.q [.b 101 .lss 3 100 2] (.seq (.cond (.t 101) .skip (.exit 4)) (.seq (.block 5 (.q [.m 102 100,.z 103 (.ixArr false 2 1 (.t 99) (.t 100)),.m 13 102,.m 14 103] (.draw [(.f 104 0 11,[]),(.l 105 104,[]),(.m 106 14,[]),(.N 107 106,[]),(.f 108 2 107,[]),(.l 109 108,[]),(.m 110 13,[]),(.b 111 .eql 3 110 1,[]),(.z 112 (.build [(.i 0),(.i 0),(.bool false)] [(0,1,.t 109),(1,1,.k 3),(2,1,.t 111)]),[]),(.z 113 (.buildSl 3 1 [(.i 0),(.i 0),(.bool false)] [(0,3,.t 112)]),[(.l 109 108,false),(.l 105 104,false)]),(.a 114 3 105 113,[]),(.f 115 0 11,[]),(.S 1 115 114,[])]))) (.ops [.b 116 .add 3 100 1,.m 100 116]))))))) (.q [.m 117 10,.N 118 117,.f 119 4 118,.l 120 119,.f 121 1 11,.S 1 121 120] (.q [.L 122 8 11,.S 8 2 122,.K 3 0] .ret)))))))))))))
def r_buffers_Build:M4 Tryz.prog 8=some ⟨123,z96.r,[.cellN 2 8,.tmp 3]⟩:=Aa
def X0(vs:List Vr)(z:List Ko)(D:List Bf)(ps:List Pc)(E F:Pc):Prop :=
 ∃(g:Nat) (f:Fr Ko) (C:Nat→Hl) (j:Bool→St) (done A:List Nat) (B:Int),Pp 0 0 vs=some g∧f.wf Qc∧z=f.flat∧Plan0 (R0 vs z).1 (Tl (S4 z (f.tops 0) 0 vs)) (Wc (S4 z (f.tops 0) 0 vs)) (Pf vs) (Qm vs) done A C j B ∧
  (∀i,g≤i→i<vs.length→i∈done)∧D=Ru vs g j∧ps=Te vs g C∧E=Ur g (R0 vs z).1 false∧F=Ur g (R0 vs z).1 true∧(j false).size+(j true).size≤65536
def Xo(g:List Vr)(j D:List Ko)(v:LV):Prop :=
 ∃z A B C e,v=.tup [.agg (Nc z A B C),.i e]∧((e≠0∧z=[]∧A=[]∧B=⟨0,0,0⟩∧C=⟨0,0,0⟩)∨(e=0∧M3 g j D=true∧(R0 g j).2=true∧X0 g j z A B C))
def znx{A B:List Ko}{e:Int}(C:e≠0):∃j,Xo X A B j∧j.dat=true∧∃r,j=LV.tup r∧∃d,r=[d,LV.i e]∧∃r,d=LV.agg r∧∃d z,r=d::z∧(d=LV.nilSl∨∃g,d=LV.lst [] 0 g)∧∃d,z=[d,LV.i 0,LV.i 0,LV.i 0,LV.i 0,LV.i 0,LV.i 0]∧(d=LV.nilSl∨∃g,d=LV.lst [] 0 g) :=
 ⟨.tup [.agg (Nc [] [] ⟨0,0,0⟩ ⟨0,0,0⟩),.i e],⟨_,_,_,_,_,rfl,.inl ⟨C,rfl,rfl,rfl,rfl⟩⟩,by simp[LV.dat,dats,fe],_,rfl,_,rfl,_,rfl,_,_,rfl,.inr ⟨3,rfl⟩,_,rfl,.inr ⟨3,rfl⟩⟩
structure Mid (vs:List Vr) (os rs:List Ko) (ss:List Sp) (P O pl b base:Nat) (hb:LV) (wk:Bool→Int) (pls:List Pc) (plst:Nat) (q0 q1:LV) (W:List LV) (G:Mu):Prop where
 c1:G[1]?=some (.cells [.nilSl,.nilSl,.i 0,.i 0,.i 0,.i 0,.i 0,.i 0] 0)
 c2:G[2]?=some (.cells [.i (wk false),.i (wk true)] 1)
 cO:∃so,G[O]?=some (.cells (hb::.nilSl::W) so)
 cP:∃sp,G[P]?=some (.cells [.lst (Nb vs) vs.length 3,.lst (N3 os) os.length 7,.lst (N3 rs) rs.length 7,.lst (M9 ss) ss.length 2,.dy pl 0,q0,q1] sp)
 cpl:G[pl]?=some (.dyn (N0 pls) vs.length 3 0 plst)
 hD:Nt b G hb 3 base (Ok (Sf vs base))
 bO:2<O∧O<G.length
 bP:2<P∧P<O
def tt(j:Mu)(z s:Nat)(g n:Int):Prop:=z<s∧∃st,j[s]?=some (.cells [.i g,.nilSl,.i n] st)
structure Mie (P O pl b:Nat) (pv:List LV) (sp s0 s1 plst:Nat) (z0 z1:Int) (b0 b1:Int) (n:Nat) (pls:List Pc) (W:List LV) (m:Nat) (L:List Bf) (G:Mu):Prop where
 c1:G[1]?=some (.cells [.nilSl,.nilSl,.i 0,.i 0,.i 0,.i 0,.i 0,.i 0] 0)
 cP:G[P]?=some (.cells pv sp)
 cs0:∃h st,G[s0]?=some (.cells [.i b0,h,.i z0] st)
 cs1:∃h st,G[s1]?=some (.cells [.i b1,h,.i z1] st)
 cpl:G[pl]?=some (.dyn (N0 pls) n 3 0 plst)
 cO:∃hv so,G[O]?=some (.cells (hv::.nilSl::W) so)∧Nt b G hv 3 m (Ok L)
 bO:2<P∧P<O∧O<s0∧O<s1
 bl:pl<b
def zef(vs:List Vr)(B C:List Ko)(AF:vs.length≤20):yh Tryz.prog 8 [.agg (Mt vs B C)] (Xo vs B C):=by
 have zD:dats (Mt vs B C)=true:=Af
 refine yh.mk (M2 r_buffers_Build Aa (by simp) ?_);have jQ:(Mt vs B C).length=3:=rfl;have jR:(Mt vs B C).take 3=Mt vs B C:=rfl;simp[z96,jQ,jR];refine M5 (te vs B C J) (bors_self _ (by simp[dats,LV.dat,zD])) ?_;cases hc:M3 vs B C with
 |false =>
  simp[Np,hc];exact znx (e:=2) Ah
 |true =>
 obtain⟨f,zE,zG,_⟩:=Xb hc;have zH:Ps vs=true:=by
  have h:=hc;unfold M3 at h;simp only[H7]at h;exact h.1
 have A0:B.length≤4096:=by
  have h:=hc;unfold M3 at h;simp only[H7,Ii]at h;exact h.2.1
 obtain⟨g,jS,AY,AG,jT⟩:=zh1 zH;have gj:∀v,v<vs.length→((gv vs v).mode=0↔g≤v):=λv hv=>by
  have:=jT v hv;constructor
  ·intro h0;have:¬v<g:=λq=>(this.2 q) h0
   omega
  ·intro hq;refine Decidable.byContradiction λhn=>?_
   have:=this.1 hn;omega
 have gP:∀v,v<vs.length→1≤Pf vs v∧Pf vs v≤512:=λv hv=>by
  have:=Wd zH _ (X9 hv);unfold Pf;omega
 have gI:∀b,1≤(R0 vs B).1 b:=λb=>yg _ _ B mb b
 have gQ:∀b,(R0 vs B).1 b≤32768:=λb=>zjx _ _ (zq5 vs) B mb (λc=>by show (1:Int)≤32768;decide) b
 simp[Np,hc,jQ,jR];refine M5 (zej vs B C J J) (bors_self _ (by simp[dats,LV.dat,zD])) ?_;obtain⟨z,gR⟩:∃z,z=(R0 vs B).1:=⟨_,rfl⟩;obtain⟨gS,jG⟩:∃gS,gS=(R0 vs B).2:=⟨_,rfl⟩;rw[←gR]at gI gQ;rw[←gR,←jG];have A1:=gI false;have A2:=gI true;have A3:=gQ false;have A4:=gQ true;simp[Mt];refine⟨J,?_⟩;have zc:∀i,i≤vs.length→0≤((Sj vs i).map (Pf vs)).sum∧((Sj vs i).map (Pf vs)).sum≤i*512:=by
  intro i
  induction i with
  |zero=>intro _;simp[Sj]
  |succ i ih =>
   intro hi;have:=ih J;have:=gP i J;rw[zbv,Js,List.sum_append];split<;>simp<;>omega
 refine Nm (λρ AE jD N=>∃(i:Nat),AE=[]∧N+i=vs.length∧lk ρ 1=.ptr 0 0∧lk ρ 2=.ptr 1 0∧lk ρ 5=.ptr 2 0∧lk ρ 6=.bool gS∧lk ρ 7=.i (z false+z true+((Sj vs i).map (Pf vs)).sum)∧lk ρ 32=.lst (Nb vs) vs.length 3∧lk ρ 33=.i vs.length∧lk ρ 34=.i i ∧
   2<jD.length∧jD[0]?=some (.cells (Mt vs B C) 0)∧jD[1]?=some (.cells [.nilSl,.nilSl,.i 0,.i 0,.i 0,.i 0,.i 0,.i 0] 0)∧jD[2]?=some (.cells [.i (z false),.i (z true)] 1))
  (N:=vs.length) ⟨0,rfl,J,by simp,by simp,by simp,by simp,by simp[Sj],by simp,by simp,by simp,by simp,Cu,by simp,by simp⟩ ?_
 rintro N ρ AE jD ⟨i,rfl,hN,h1,h2,h5,h6,h7,gT,gD,gM,A5,g0,g1,g2⟩ Nx Y;by_cases AZ:i<vs.length
 ·have q3:=U4 (Qa AZ);have zI:=S6 AZ;have hz:=zbv vs i;have A6:=zc i J;have A7:=gP i AZ;have AH:Pf vs i=(gv vs i).limbs:=rfl;have zK:(gv vs i).f=[.i (gv vs i).limbs,.bool (gv vs i).sec,.i (gv vs i).mode]:=rfl;generalize gv vs i=x at *;by_cases m0:x.mode=0
  ·rw[Ih m0]at hz;simp[h7,gT,gD,gM,AZ,q3,zI,zK,m0];refine⟨J,J,Y _ _ _ ⟨N-1,J,i+1,rfl,J,by simp[h1],Bm,Bs,Bo,?_,by simp[gT],Fa,by simp,Ab,by rw[Mv J];exact g0,by rw[Mv J];exact g1,by rw[Mv J];exact g2⟩⟩;rw[hz];simp[AH];omega
  ·rw[Ig m0,Jd]at hz;simp[h7,gT,gD,gM,AZ,q3,zI,zK,m0];exact⟨J,Y _ _ _ ⟨N-1,J,i+1,rfl,J,by simp[h1],Bm,Bs,Bo,by rw[hz];simp[h7],by simp[gT],Fa,by simp,Ab,by rw[Mv J];exact g0,by rw[Mv J];exact g1,by rw[Mv J];exact g2⟩⟩
 have e:i=vs.length:=J
 subst e;have A8:=zc vs.length (Ie _);clear Y;generalize jH:((Sj vs vs.length).map (Pf vs)).sum=zs at *;by_cases gU:gS=true∧z false+z true+zs≤65536
 case neg =>
  cases gS with
  |false =>
   simp[h2,h6,h7,gD,gM,g1];rw[Ia J];simp;exact znx (e:=10) Ah
  |true =>
   have AI:65536<z false+z true+zs:=by
    have:¬(z false+z true+zs≤65536):=λq=>gU ⟨rfl,q⟩
    omega
   simp[h2,h6,h7,gD,gM,g1,AI];rw[Ia J];simp;exact znx (e:=10) Ah
 obtain⟨rfl,gU⟩:=gU;have zL:¬65536<z false+z true+zs:=J
 have gV:0<jD.length:=J
 simp[h1,h2,h6,h7,gD,gM,g0,g1,zL,jQ,jR,Mt,↓Mv gV];refine⟨J,?_⟩;refine Rj (z8w J hc zE zG) (by simp[dats,LV.dat,O9,Rz]) ?_;obtain⟨I,jU⟩:∃I,I=S4 B (f.tops 0) 0 vs:=⟨_,rfl⟩;rw[←jU];have gx : ∀(a b : LObj) (h : 0<(jD ++ [a, b]).length), (jD ++ [a, b])[0]'h = LObj.cells (Mt vs B C) 0 := λa b h => by
  rw[List.getElem_append_left gV];exact (H5.1 g0).2
 simp[h1,g0,gx,↓Mv gV,Mt];obtain⟨gC,zM⟩:∃gC,gC=jD.length+1:=⟨_,rfl⟩;obtain⟨pl,gX⟩:∃pl,pl=jD.length:=⟨_,rfl⟩;obtain⟨z0,zO⟩:∃z0,z0=List.replicate vs.length (⟨0,0,0⟩:Pc):=⟨_,rfl⟩;have zP:z0.length=vs.length:=by rw[zO];simp
 have zQ:∀n,Na [LV.i 0,LV.i 0,LV.i 0] n=N0 (List.replicate n (⟨0,0,0⟩:Pc)):=by
  intro n
  induction n with
  |zero=>rfl
  |succ n ih=>rw[Na,ih,J0];rfl
 rw[zQ,←zO,←zM];obtain⟨G1,gY⟩:∃G1,G1=jD++[LObj.dyn (N0 z0) vs.length 3 0 0,LObj.cells [LV.lst (Nb vs) vs.length 3,LV.lst (N3 B) B.length 7,LV.lst (N3 C) C.length 7,LV.lst (M9 I) I.length 2,LV.dy jD.length 0,LV.nilPtr,LV.nilPtr] 0]:=⟨_,rfl⟩;rw[←gY];have o1:∀x,x<jD.length→G1[x]?=jD[x]?:=λx hx=>by rw[gY];exact Ib hx
 have l1:G1.length=jD.length+2:=by rw[gY];simp
 have AK:G1[pl]?=some (.dyn (N0 z0) vs.length 3 0 0):=by rw[gY,gX];simp
 have P1:G1[gC]?=some (.cells [LV.lst (Nb vs) vs.length 3,LV.lst (N3 B) B.length 7,LV.lst (N3 C) C.length 7,LV.lst (M9 I) I.length 2,LV.dy pl 0,LV.nilPtr,LV.nilPtr] 0):=by rw[gY,zM,gX];simp
 have a0:=(o1 0 J).trans g0;have a1:=(o1 1 J).trans g1;have a2:=(o1 2 J).trans g2;rw[←gX];refine zd7 P1 AK zP gj AG J λhb G2 gO gg zR zS zT AL o2 l2=>?_
 have P2:=(o2 gC J J).trans P1;have b0:=(o2 0 J J).trans a0;have b1:=(o2 1 J J).trans a1;have b2:=(o2 2 J J).trans a2;have AM:=zR.cells;simp[-LV.cells,AM,zcl];obtain⟨O,hO⟩:∃O,O=G2.length:=⟨_,rfl⟩;have zU:=(H5.1 P2).1;have zV:=(H5.1 zS).1;have jI:Mid vs B C I gC O pl G1.length g hb z gO gg .nilPtr .nilPtr [.i 0,.i 0,.i 0,.i 0,.i 0,.i 0] (G2++[LObj.cells [hb,.nilSl,.i 0,.i 0,.i 0,.i 0,.i 0,.i 0] 1]) :=
  ⟨by rw[Mv J];exact b1,by rw[Mv J];exact b2,⟨1,by rw[hO];simp⟩,⟨0,by rw[Mv zU];exact P2⟩,by rw[Mv zV];exact zS,zR.push_end,Ab,J⟩
 rw[←hO];refine Nm (λρ AE D N=>AE=[]∧lk ρ 2=.ptr 1 0∧lk ρ 5=.ptr 2 0∧lk ρ 10=.ptr gC 0∧lk ρ 11=.ptr O 0 ∧
   ((N=2∧lk ρ 65=.i 0∧Mid vs B C I gC O pl G1.length g hb z gO gg .nilPtr .nilPtr [.i 0,.i 0,.i 0,.i 0,.i 0,.i 0] D) ∨
    (N=1∧lk ρ 65=.i 1∧∃R,tt D O R g (z false)∧Mid vs B C I gC O pl G1.length g hb z gO gg (.ptr R 0) .nilPtr [.i g,.i 0,.i (z false),.i 0,.i 0,.i 0] D) ∨
    (N=0∧lk ρ 65=.i 2∧∃R s1,R≠s1∧tt D O R g (z false)∧tt D O s1 (g+1) (z true)∧Mid vs B C I gC O pl G1.length g hb z gO gg (.ptr R 0) (.ptr s1 0) [.i g,.i 0,.i (z false),.i (g+1),.i 0,.i (z true)] D)))
  (N:=2) ⟨rfl,Bm,Bs,by simp,by simp,.inl ⟨rfl,by simp,jI⟩⟩ ?_
 clear h1 h2 h5 h6 h7 gT gD gM jI;rintro N ρ AE D ⟨rfl,h2,h5,K,E,⟨rfl,Z,hM⟩|⟨rfl,Z,R,jV,hM⟩|⟨rfl,Z,R,s1,zX,jV,AO,hM⟩⟩ Nx Y
 ·obtain⟨m1,m2,⟨so,P⟩,⟨sp,V⟩,j,X,bO,bP⟩:=hM;simp[K,E,Z,P,V];refine X.lenL ?_;have lO:O<D.length:=bO.2;have lP:gC<D.length:=J
  simp[↓Mv lO,↓Mv lP,P,V];refine⟨J,?_⟩;obtain⟨G3,S⟩:∃G3,G3=List.set (D++[LObj.cells [.i (g:Int),.nilSl,.i 0] 0]) gC (LObj.cells [.lst (Nb vs) vs.length 3,.lst (N3 B) B.length 7,.lst (N3 C) C.length 7,.lst (M9 I) I.length 2,.dy pl 0,(.ptr D.length 0),.nilPtr] (sp+1)):=⟨_,rfl⟩;have o3:∀x,x<D.length→x≠gC→G3[x]?=D[x]?:=λx hx hn=>by rw[S,H6 (λe=>hn e.symm),Mv hx]
  have l3:G3.length=D.length+1:=by rw[S];simp
  have P3:G3[gC]?=some (.cells [.lst (Nb vs) vs.length 3,.lst (N3 B) B.length 7,.lst (N3 C) C.length 7,.lst (M9 I) I.length 2,.dy pl 0,(.ptr D.length 0),.nilPtr] (sp+1)):=by rw[S];exact Ia Ab
  have s3:G3[D.length]?=some (.cells [.i (g:Int),.nilSl,.i 0] 0):=by rw[S,H6 J];simp
  have O3:=(o3 O lO J).trans P;have jX:=(o3 2 J J).trans m2;rw[←S];simp[h5,E,P3,O3,jX];refine z71 (r:=none) (H:=[]) (hv:=.nilSl) s3 ⟨rfl,rfl⟩ J J (λBA hj=>by simp at hj) (by simp) λG4 AP jY o4 l4 s4 jZ=>?_
  obtain⟨rfl,_⟩:=jZ;have e1:(Oz (z false) ⟨[],0⟩).1=0:=rfl;have e2:(Oz (z false) ⟨[],0⟩).2.size=(z false):=by simp[Oz,Vi]
  rw[e2]at s4;have P4:=(o4 gC J J (by simp)).trans P3;have O4:=(o4 O J J (by simp)).trans O3;have j3:O<G4.length:=J
  simp[E,Z,P3,P4,O3,O4,e1];obtain⟨G5,gB⟩:∃G5,G5=List.set G4 O (LObj.cells (hb::.nilSl::[.i g,.i 0,.i (z false),.i 0,.i 0,.i 0]) (so+1)):=⟨_,rfl⟩;have o5:∀x,x≠O→G5[x]?=G4[x]?:=λx hn=>by rw[gB,H6 (λe=>hn e.symm)]
  have l5:G5.length=G4.length:=C9
  have O5:G5[O]?=some (.cells (hb::.nilSl::[.i g,.i 0,.i (z false),.i 0,.i 0,.i 0]) (so+1)):=by rw[gB];exact Ia j3
  rw[←gB];have F:∀x,x<D.length→x≠gC→x≠O→G5[x]?=D[x]?:=λx hx n1 n2=>by rw[o5 x n2,o4 x J J (by simp),o3 x hx n1]
  have gK:=(H5.1 j).1;have gE:pl≠gC:=λe=>by rw[e,V]at j;cases j
  have gF:pl≠O:=λe=>E8
  have j4:Mid vs B C I gC O pl G1.length g hb z gO gg (.ptr D.length 0) .nilPtr [.i g,.i 0,.i (z false),.i 0,.i 0,.i 0] G5 :=
   ⟨by rw[F 1 J J J];exact m1,by rw[F 2 J J J];exact m2,⟨_,O5⟩,⟨_,by rw[o5 gC J];exact P4⟩,by rw[F pl gK gE gF];exact j,
    X.frame2 λq hq=>by
     obtain⟨_,a2,jK,m,k2,Q,L⟩:=X.row hq;exact F q a2 (λe=>by rw[e,V]at L;cases L) (λe=>E9),J,bP⟩
  have ns:tt G5 O D.length g (z false):=⟨lO,jY,by rw[o5 _ J];exact s4⟩;exact Y _ _ _ ⟨1,J,rfl,Bm,Bs,Bc,Aq,.inr (.inl ⟨rfl,Cl,D.length,ns,j4⟩)⟩
 ·obtain⟨m1,m2,⟨so,P⟩,⟨sp,V⟩,j,X,bO,bP⟩:=hM;simp[K,E,Z,P,V];refine X.lenL ?_;have lO:O<D.length:=bO.2;have lP:gC<D.length:=J
  simp[↓Mv lO,↓Mv lP,P,V];refine⟨J,?_⟩;obtain⟨G3,S⟩:∃G3,G3=List.set (D++[LObj.cells [.i ((g:Int)+1),.nilSl,.i 0] 0]) gC (LObj.cells [.lst (Nb vs) vs.length 3,.lst (N3 B) B.length 7,.lst (N3 C) C.length 7,.lst (M9 I) I.length 2,.dy pl 0,(.ptr R 0),(.ptr D.length 0)] (sp+1)):=⟨_,rfl⟩;have o3:∀x,x<D.length→x≠gC→G3[x]?=D[x]?:=λx hx hn=>by rw[S,H6 (λe=>hn e.symm),Mv hx]
  have l3:G3.length=D.length+1:=by rw[S];simp
  have P3:G3[gC]?=some (.cells [.lst (Nb vs) vs.length 3,.lst (N3 B) B.length 7,.lst (N3 C) C.length 7,.lst (M9 I) I.length 2,.dy pl 0,(.ptr R 0),(.ptr D.length 0)] (sp+1)):=by rw[S];exact Ia Ab
  have s3:G3[D.length]?=some (.cells [.i ((g:Int)+1),.nilSl,.i 0] 0):=by rw[S,H6 J];simp
  have O3:=(o3 O lO J).trans P;have jX:=(o3 2 J J).trans m2;rw[←S];simp[h5,E,P3,O3,jX];refine z71 (r:=none) (H:=[]) (hv:=.nilSl) s3 ⟨rfl,rfl⟩ J J (λBA hj=>by simp at hj) (by simp) λG4 AP jY o4 l4 s4 jZ=>?_
  obtain⟨rfl,_⟩:=jZ;have e1:(Oz (z true) ⟨[],0⟩).1=0:=rfl;have e2:(Oz (z true) ⟨[],0⟩).2.size=(z true):=by simp[Oz,Vi]
  rw[e2]at s4;have P4:=(o4 gC J J (by simp)).trans P3;have O4:=(o4 O J J (by simp)).trans O3;have j3:O<G4.length:=J
  simp[E,Z,P3,P4,O3,O4,e1];obtain⟨G5,gB⟩:∃G5,G5=List.set G4 O (LObj.cells (hb::.nilSl::[.i g,.i 0,.i (z false),.i (g+1),.i 0,.i (z true)]) (so+1)):=⟨_,rfl⟩;have o5:∀x,x≠O→G5[x]?=G4[x]?:=λx hn=>by rw[gB,H6 (λe=>hn e.symm)]
  have l5:G5.length=G4.length:=C9
  have O5:G5[O]?=some (.cells (hb::.nilSl::[.i g,.i 0,.i (z false),.i (g+1),.i 0,.i (z true)]) (so+1)):=by rw[gB];exact Ia j3
  rw[←gB];have F:∀x,x<D.length→x≠gC→x≠O→G5[x]?=D[x]?:=λx hx n1 n2=>by rw[o5 x n2,o4 x J J (by simp),o3 x hx n1]
  have gK:=(H5.1 j).1;have gE:pl≠gC:=λe=>by rw[e,V]at j;cases j
  have gF:pl≠O:=λe=>E8
  have j4:Mid vs B C I gC O pl G1.length g hb z gO gg (.ptr R 0) (.ptr D.length 0) [.i g,.i 0,.i (z false),.i (g+1),.i 0,.i (z true)] G5 :=
   ⟨by rw[F 1 J J J];exact m1,by rw[F 2 J J J];exact m2,⟨_,O5⟩,⟨_,by rw[o5 gC J];exact P4⟩,by rw[F pl gK gE gF];exact j,
    X.frame2 λq hq=>by
     obtain⟨_,a2,jK,m,k2,Q,L⟩:=X.row hq;exact F q a2 (λe=>by rw[e,V]at L;cases L) (λe=>E9),J,bP⟩
  have ns:tt G5 O D.length (g+1) (z true):=⟨lO,jY,by rw[o5 _ J];exact s4⟩;obtain⟨gZ,j5,gL⟩:=jV;have zY:=(H5.1 gL).1;have ms:tt G5 O R g (z false):=⟨gZ,j5,by rw[F R zY J J];exact gL⟩;exact Y _ _ _ ⟨0,J,rfl,Bm,Bs,Bc,Aq,.inr (.inr ⟨rfl,Cl,R,D.length,J,ms,ns,j4⟩)⟩
 ·obtain⟨m1,m2,⟨so,P⟩,⟨sp,V⟩,j,X,bO,bP⟩:=hM;obtain⟨gZ,j5,gL⟩:=jV;obtain⟨zZ,AQ,z6⟩:=AO;obtain⟨s,hs⟩:∃s:Bool→Nat,s=λb=>if b=true then s1 else R:=⟨_,rfl⟩
  have g8:s false=R:=by rw[hs];rfl
  have g9:s true=s1:=by rw[hs];rfl
  have z7:PS D s (λ_=>none) g (λb=>⟨[],z b⟩):=by
   refine⟨λb=>?_,by rw[g8,g9];exact zX,λq hq=>by cases hq⟩;cases b with
   |false=>exact⟨.nilSl,j5,by rw[g8];simpa [bI] using gL,rfl,rfl⟩
   |true=>exact⟨.nilSl,AQ,by rw[g9];simpa [bI] using z6,rfl,rfl⟩
  have z8:D[gC]?=some (.cells (Pl vs B C I (.dy pl 0) (s false) (s true)) sp):=by rw[g8,g9];exact V
  have z9:I.length=vs.length:=by
   rw[jU];have:∀(l:List Vr) (i:Nat),(S4 B (f.tops 0) i l).length=l.length:=by
    intro l
    induction l with
    |nil=>intro i;rfl
    |cons v l ih=>intro i;simp[S4,ih]
   exact this vs 0
  simp[K,Z];refine zh0 z8 j z7 AF z9 zT gI gj (λv hv=>by have:=gP v hv;omega) (by rw[jH];omega) (λi hi A9=>AL i hi) λG5 iv A done Ag AS r G jg jz jL jM jA Bg Bj=>?_
  have gK:=(H5.1 j).1;have gE:gC≠pl:=λe=>by rw[←e,V]at j;cases j
  have gF:O≠pl:=λe=>by rw[←e,P]at j;cases j
  have j6:∀x,x≤O→∀b,x≠s b:=λx hx b=>by cases b<;>simp only[g8,g9]<;>omega
  have P5:=(jA gC J (j6 gC J) gE).trans V;have O5:=(jA O J (j6 O J) gF).trans P;have jO:pl≠1:=λe=>by rw[e,m1]at j;cases j
  have Aj:=(jA 1 J (j6 1 J) (λe=>jO e.symm)).trans m1;have Az:pl<G1.length:=J
  have D5:Nt G1.length G5 hb 3 g (Ok (Sf vs g)):=X.frame2 λq hq=>by
   obtain⟨a1,a2,jK,m,k2,Q,L⟩:=X.row hq;refine jA q a2 (λb e=>?_) J;obtain⟨hv,st,h1⟩:=z7.cell b;rw[e,h1]at L;cases L
  obtain⟨t0,u0,q0⟩:=jL.cell false;obtain⟨t1,u1,q1⟩:=jL.cell true;rw[g8]at q0;rw[g9]at q1;simp[K,P5];have jP:Mie gC O pl G1.length [.lst (Nb vs) vs.length 3,.lst (N3 B) B.length 7,.lst (N3 C) C.length 7,.lst (M9 I) I.length 2,.dy pl 0,.ptr R 0,.ptr s1 0] sp R s1 G (A false).size (A true).size (g+bI false) (g+bI true) vs.length (Te vs g iv) [.i g,.i 0,.i (z false),.i (g+1),.i 0,.i (z true)] g (Sf vs g) G5 :=
   ⟨Aj,P5,⟨_,_,q0⟩,⟨_,_,q1⟩,jM,⟨_,_,O5,D5⟩,⟨J,J,gZ,zZ⟩,Az⟩
  clear Y;refine Nm (λρ AE jD N=>AE=[]∧lk ρ 2=.ptr 1 0∧lk ρ 10=.ptr gC 0∧lk ρ 11=.ptr O 0∧lk ρ 99=.agg [.ptr R 0,.ptr s1 0] ∧
    ((N=2∧lk ρ 100=.i 0∧Mie gC O pl G1.length [.lst (Nb vs) vs.length 3,.lst (N3 B) B.length 7,.lst (N3 C) C.length 7,.lst (M9 I) I.length 2,.dy pl 0,.ptr R 0,.ptr s1 0] sp R s1 G (A false).size (A true).size (g+bI false) (g+bI true) vs.length (Te vs g iv) [.i g,.i 0,.i (z false),.i (g+1),.i 0,.i (z true)] g (Sf vs g) jD)∨(N=1∧lk ρ 100=.i 1∧Mie gC O pl G1.length [.lst (Nb vs) vs.length 3,.lst (N3 B) B.length 7,.lst (N3 C) C.length 7,.lst (M9 I) I.length 2,.dy pl 0,.ptr R 0,.ptr s1 0] sp R s1 G (A false).size (A true).size (g+bI false) (g+bI true) vs.length (Te vs g iv) [.i g,.i 0,.i (z false),.i (g+1),.i 0,.i (z true)] (g+1) (Sf vs g++[⟨(A false).size,3,false⟩]) jD)∨(N=0∧lk ρ 100=.i 2∧Mie gC O pl G1.length [.lst (Nb vs) vs.length 3,.lst (N3 B) B.length 7,.lst (N3 C) C.length 7,.lst (M9 I) I.length 2,.dy pl 0,.ptr R 0,.ptr s1 0] sp R s1 G (A false).size (A true).size (g+bI false) (g+bI true) vs.length (Te vs g iv) [.i g,.i 0,.i (z false),.i (g+1),.i 0,.i (z true)] (g+2) (Sf vs g++[⟨(A false).size,3,false⟩]++[⟨(A true).size,3,true⟩]) jD)))
   (N:=2) ⟨rfl,Bm,Bc,Aq,by simp,.inl ⟨rfl,by simp,jP⟩⟩ ?_
  clear jP h2 K E Z Aj P5 O5 D5 q0 q1 m1 m2 P V z8 j X jM jA ;rintro N ρ AE G6 ⟨rfl,h2,K,E,jB,⟨rfl,M,⟨m1,V,⟨x0,y0,q0⟩,⟨x1,y1,q1⟩,j,⟨hv,so,P,X⟩,jE,jF⟩⟩|⟨rfl,M,⟨m1,V,⟨x0,y0,q0⟩,⟨x1,y1,q1⟩,j,⟨hv,so,P,X⟩,jE,jF⟩⟩|⟨rfl,M,⟨m1,V,⟨x0,y0,q0⟩,⟨x1,y1,q1⟩,j,⟨hv,so,P,X⟩,jE,jF⟩⟩⟩ Nx Y
  ·have lO:O<G6.length:=(H5.1 P).1;have lS:R<G6.length:=(H5.1 q0).1;simp[K,E,jB,M,V,P,q0,↓Mv lO,↓Mv lS];have lP:gC<G6.length:=J
   have jC:=(H5.1 j).1;refine Nt.push2 (x:=[.i (A false).size,.i 3,.bool false]) X.push_end J Ab J rfl rfl λj7 G7 D7 gG l7 AT=>?_
   simp at l7;have T:∀j8 ob,G6[j8]?=some ob→(∀jK m k st,ob≠LObj.dyn jK m 3 k st)→G7[j8]?=some ob:=λj8 ob hz hn=>by
    have j9:=(H5.1 hz).1;rw[gG j8 Ab λe=>?_,Mv j9]
    ·exact hz
    ·obtain⟨_,_,jK,m,k2,Q,L⟩:=X.row e;rw[hz]at L;exact hn _ _ _ _ (Option.some.inj L)
   have nc:∀(c:List LV) (st:Nat),∀jK m k Q,LObj.cells c st≠LObj.dyn jK m 3 k Q:=λc st jK m k Q e=>An
   have zg:=T _ _ m1 (nc _ _);have zj:=T _ _ V (nc _ _);have gH:=T _ _ P (nc _ _);have zz:=T _ _ q0 (nc _ _);have zA:=T _ _ q1 (nc _ _);have U:G7[pl]?=some (.dyn (N0 (Te vs g iv)) vs.length 3 0 G):=by
    rw[gG pl Ab λe=>by have:=(X.row e).1;omega,Mv jC];exact j
   have zB:=D7.cells;simp[-LV.cells,E,M,gH,zB,zcl];have zC:O<G7.length:=J
   refine Y _ _ _ ⟨1,J,rfl,Bm,Bc,Aq,by simp[jB],.inr (.inl ⟨rfl,At,by rw[H6 J];exact zg,by rw[H6 J];exact zj,⟨x0,y0,by rw[H6 J];exact zz⟩,⟨x1,y1,by rw[H6 J];exact zA⟩,by rw[H6 (λe=>by rw[←e,gH]at U;cases U)];exact U,⟨j7,so+1,Ia zC,?_⟩,jE,jF⟩)⟩;have e:Ok (Sf vs g++[⟨(A false).size,3,false⟩])=Ok (Sf vs g)++[.i (A false).size,.i 3,.bool false]:=by rw[xk];rfl
   rw[e];exact D7.frame2 λq hq=>by
    obtain⟨_,_,jK,m,k2,Q,L⟩:=D7.row hq;exact H6 λe=>by rw[←e,gH]at L;cases L
  ·have lO:O<G6.length:=(H5.1 P).1;have lS:s1<G6.length:=(H5.1 q1).1;simp[K,E,jB,M,V,P,q1,↓Mv lO,↓Mv lS];have lP:gC<G6.length:=J
   have jC:=(H5.1 j).1;refine Nt.push2 (x:=[.i (A true).size,.i 3,.bool true]) X.push_end J Ab J rfl rfl λj7 G7 D7 gG l7 AT=>?_
   simp at l7;have T:∀j8 ob,G6[j8]?=some ob→(∀jK m k st,ob≠LObj.dyn jK m 3 k st)→G7[j8]?=some ob:=λj8 ob hz hn=>by
    have j9:=(H5.1 hz).1;rw[gG j8 Ab λe=>?_,Mv j9]
    ·exact hz
    ·obtain⟨_,_,jK,m,k2,Q,L⟩:=X.row e;rw[hz]at L;exact hn _ _ _ _ (Option.some.inj L)
   have nc:∀(c:List LV) (st:Nat),∀jK m k Q,LObj.cells c st≠LObj.dyn jK m 3 k Q:=λc st jK m k Q e=>An
   have zg:=T _ _ m1 (nc _ _);have zj:=T _ _ V (nc _ _);have gH:=T _ _ P (nc _ _);have zz:=T _ _ q0 (nc _ _);have zA:=T _ _ q1 (nc _ _);have U:G7[pl]?=some (.dyn (N0 (Te vs g iv)) vs.length 3 0 G):=by
    rw[gG pl Ab λe=>by have:=(X.row e).1;omega,Mv jC];exact j
   have zB:=D7.cells;simp[-LV.cells,E,M,gH,zB,zcl];have zC:O<G7.length:=J
   refine Y _ _ _ ⟨0,J,rfl,Bm,Bc,Aq,by simp[jB],.inr (.inr ⟨rfl,At,by rw[H6 J];exact zg,by rw[H6 J];exact zj,⟨x0,y0,by rw[H6 J];exact zz⟩,⟨x1,y1,by rw[H6 J];exact zA⟩,by rw[H6 (λe=>by rw[←e,gH]at U;cases U)];exact U,⟨j7,so+1,Ia zC,?_⟩,jE,jF⟩)⟩;have e:Ok (Sf vs g++[⟨(A false).size,3,false⟩]++[⟨(A true).size,3,true⟩])=Ok (Sf vs g++[⟨(A false).size,3,false⟩])++[.i (A true).size,.i 3,.bool true]:=by rw[xk];rfl
   rw[e];exact D7.frame2 λq hq=>by
    obtain⟨_,_,jK,m,k2,Q,L⟩:=D7.row hq;exact H6 λe=>by rw[←e,gH]at L;cases L
  ·have lO:O<G6.length:=(H5.1 P).1;have l1:1<G6.length:=J
   have nO:O≠1:=J
   have f1:∀x,(G6.set O x)[O]?=some x:=λx=>Ia lO
   have f2:∀x,(G6.set O x)[1]?=some (.cells [.nilSl,.nilSl,.i 0,.i 0,.i 0,.i 0,.i 0,.i 0] 0):=λx=>by rw[H6 nO];exact m1
   have f3:∀x y,((G6.set O x).set 1 y)[1]?=some y:=λx y=>Ia Ab
   have fo:∀x y j8,j8≠O→j8≠1→((G6.set O x).set 1 y)[j8]?=G6[j8]?:=λx y j8 n1 n2=>by rw[H6 (λe=>n2 e.symm),H6 (λe=>n1 e.symm)]
   have AA:pl≠O:=λe=>E8
   have AB:∀x y,Nt G1.length ((G6.set O x).set 1 y) hv 3 (g+2) (Ok (Sf vs g++[⟨(A false).size,3,false⟩]++[⟨(A true).size,3,true⟩])):=λx y=>X.frame2 λq hq=>by
    obtain⟨_,_,jK,m,k2,Q,L⟩:=X.row hq;exact fo x y q (λe=>E9) (λe=>by rw[e,m1]at L;cases L)
   have AC:∀x y,((G6.set O x).set 1 y)[pl]?=some (.dyn (N0 (Te vs g iv)) vs.length 3 0 G):=λx y=>by rw[fo x y pl AA jO];exact j
   simp[-bor,-bors,h2,K,E,jB,M,V,P,m1,f1,f2,f3];have AU:Sf vs g++[⟨(A false).size,3,false⟩]++[⟨(A true).size,3,true⟩]=Ru vs g A:=by simp[Ru,Sf]
   rw[AU]at AB;have AD:(Ru vs g A).length=g+2:=zaj vs g A;have Bz:=jg.sz;have AX:(done.map (Pf vs)).sum=zs:=by rw[←jH];exact zpj (jz.map _)
   refine⟨_,⟨Ru vs g A,Te vs g iv,Ur g z false,Ur g z true,0,rfl,.inr ⟨rfl,hc,jG.symm,g,f,iv,A,done,Ag,AS,jS,zE,zG,by rw[←gR,←jU];exact jg,λi h1 h2=>jz.mem_iff.2 (zao.2 ⟨h2,(gj i h2).2 h1⟩),rfl,rfl,by rw[←gR],by rw[←gR],J⟩⟩,by simp[LV.dat,dats,fe],_,rfl,⟨_,_,rfl,⟨_,rfl,?_⟩,bors_self _ rfl⟩⟩;refine⟨_,_,rfl,?_,_,_,rfl,?_,?_⟩
   ·have:=(AB (.cells [hv,.dy pl 0,.i g,.i 0,.i (z false),.i (g+1),.i 0,.i (z true)] (so+1)) (.cells [hv,.dy pl 0,.i g,.i 0,.i (z false),.i (g+1),.i 0,.i (z true)] 1)).bor;rw[AD];exact this
   ·exact⟨_,_,_,_,by rw[jk],AC _ _,yz _⟩
   ·simp[Ur]
end
section
set_option linter.unusedVariables false
def z5u:LC:=(.q [.x 2 0,.x 3 1,.F 4] (.q [.f 5 0 2,.l 6 5,.f 7 0 3,.l 8 7,.c 9 .eql 3 6 8,.m 10 9,.yf 11 10 1 2,.yl 12 10 11,.yf 13 10 1 2,.yl 14 10 13,.yf 15 10 2 2,.yl 16 10 15,.y 17 10 (.bin .add false 3 (.t 14) (.t 16)),.y 18 10 (.bin .sub true 3 (.t 17) (.k 1)),.y 19 10 (.build [(.i 0),(.i 0)] [(0,1,.t 12),(1,1,.t 18)]),.yf 20 10 1 3,.yl 21 10 20,.yf 22 10 1 3,.yl 23 10 22,.yf 24 10 2 3,.yl 25 10 24,.y 26 10 (.bin .add false 3 (.t 23) (.t 25)),.y 27 10 (.bin .sub true 3 (.t 26) (.k 1)),.y 28 10 (.build [(.i 0),(.i 0)] [(0,1,.t 21),(1,1,.t 27)]),.y 29 10 (.w 84 [.t 19,.t 28]),.q 30 10 29,.m 4 30] .ret))
def r_buffers_common:M4 Tryz.prog 107=some ⟨31,z5u.r,[.tmp 4]⟩:=Aa
def za8:LC:=(.q [.x 2 0,.F 3] (.q [.f 4 0 2,.l 5 4,.f 6 0 1,.l 7 6,.c 8 .eql 3 5 7,.m 3 8] .ret))
def r_buffers_own_1:M4 Tryz.prog 109=some ⟨9,za8.r,[.tmp 3]⟩:=Aa
def z1m:LC:=(.q [.K 4 0] (.seq (.q [.m 6 0,.s 7 6,.K 8 0] (.block 0 (.loop (.q [.c 9 .lss 3 8 7] (.seq (.cond (.t 9) .skip (.exit 0)) (.seq (.block 1 (.q [.m 10 8,.m 5 10] (.q [.m 11 1,.m 12 0,.m 13 5,.I 14 3 12 13,.L 15 3 14,.z 16 (.callV (.t 11) [.t 15])] (.cond (.t 16) (.q [.m 17 5,.m 4 17] .ret) .skip)))) (.ops [.b 18 .add 3 8 1,.m 8 18]))))))) (.q [.K 4 (-1)] .ret)))
def r_slices_IndexFunc_api_Place_api_Place:M4 Tryz.prog 145=some ⟨19,z1m.r,[.tmp 4]⟩:=Aa
def z1h:LC:=(.q [.F 4] (.q [.m 5 0,.m 6 1,.W 7 145 5 6,.b 8 .geq 3 7 0,.m 4 8] .ret))
def r_slices_ContainsFunc_api_Place_api_Place:M4 Tryz.prog 108=some ⟨9,z1h.r,[.tmp 4]⟩:=Aa
def z83:LC:=(.q [.x 3 0,.x 5 2,.F 6] (.q [.f 11 1 3,.l 12 11,.m 13 1,.I 14 3 12 13,.L 15 3 14,.z 7 (.alloc [(.i 0),(.i 0),(.i 0)]),.S 3 7 15] (.q [.f 16 0 3,.l 17 16,.f 18 0 7,.l 19 18,.I 20 3 17 19,.L 21 3 20,.z 8 (.alloc [(.i 0),(.i 0),(.bool false)]),.S 3 8 21] (.q [.K 9 1] (.seq (.q [.f 22 2 5,.l 23 22,.b 24 .eql 3 23 3] (.cond (.t 24) (.ops [.K 9 2]) .skip)) (.q [.f 25 1 3,.l 26 25,.m 27 1,.z 28 (.slSl 3 (.t 26) none (some (.t 27))),.z 29 (.mkFunc 109 [] [.t 7]),.W 30 108 28 29,.z 31 (.un .not (.t 30)),.m 10 31] (.q [.m 32 10,.m 33 32,.y 34 33 (.loadN 3 (.t 8)),.yf 35 33 2 7,.yl 36 33 35,.my 37 33 9,.yf 38 33 1 5,.yl 39 33 38,.y 40 33 (.build [(.i 0),(.i 0),(.bool false)] [(0,1,.t 36),(1,1,.t 37),(2,1,.t 39)]),.y 41 33 (.bin .eql false 95 (.t 34) (.t 40)),.q 42 33 41,.m 43 42,.yf 44 43 1 7,.yl 45 43 44,.y 46 43 (.bin .eql true 3 (.t 45) (.k 0)),.q 47 43 46,.m 6 47] .ret)))))))
def r_buffers_own:M4 Tryz.prog 58=some ⟨48,z83.r,[.tmp 6]⟩:=Aa
def z9j:LC:=(.q [.x 2 0,.x 3 1,.F 4] (.q [.L 10 3 2,.w 11 45 10,.m 5 11] (.seq (.q [.f 12 1 3,.l 13 12,.s 14 13,.K 15 0] (.block 0 (.loop (.q [.c 16 .lss 3 15 14] (.seq (.cond (.t 16) .skip (.exit 0)) (.seq (.block 1 (.q [.m 17 15,.I 18 3 13 15,.L 19 3 18,.z 7 (.alloc [(.i 0),(.i 0),(.i 0)]),.m 6 17,.S 3 7 19] (.seq (.q [.L 20 3 7,.f 21 2 3,.z 22 (.ixAddrArr 2 3 (.t 21) (.k 0)),.L 23 3 22,.W 24 107 20 23,.m 25 24,.n 26 25 (.loadN 3 (.t 7)),.nf 27 25 2 3,.n 28 25 (.ixAddrArr 2 3 (.t 27) (.k 1)),.n 29 25 (.loadN 3 (.t 28)),.n 30 25 (.w 107 [.t 26,.t 29]),.p 31 25 30] (.cond (.t 31) (.q [.F 4] .ret) .skip)) (.q [.f 32 1 3,.l 33 32,.m 34 6,.z 35 (.slSl 3 (.t 33) none (some (.t 34))),.s 36 35,.K 37 0] (.block 2 (.loop (.q [.c 38 .lss 3 37 36] (.seq (.cond (.t 38) .skip (.exit 2)) (.seq (.block 3 (.q [.m 39 37,.I 40 3 35 37,.L 41 3 40,.z 9 (.alloc [(.i 0),(.i 0),(.i 0)]),.m 8 39,.S 3 9 41] (.seq (.draw [(.L 42 3 7,[]),(.L 43 3 9,[]),(.W 44 107 42 43,[]),(.m 45 44,[]),(.my 46 45 5,[]),(.my 47 45 6,[]),(.y 48 45 (.ixAddr 2 (.t 46) (.t 47)),[]),(.y 49 45 (.loadN 2 (.t 48)),[]),(.y 50 45 (.w 83 [.t 49]),[]),(.y 51 45 (.un .not (.t 50)),[]),(.q 52 45 51,[]),(.m 53 52,[]),(.my 54 53 5,[]),(.my 55 53 8,[]),(.y 56 53 (.ixAddr 2 (.t 54) (.t 55)),[]),(.y 57 53 (.loadN 2 (.t 56)),[]),(.y 58 53 (.w 83 [.t 57]),[]),(.y 59 53 (.un .not (.t 58)),[]),(.q 60 53 59,[]),(.m 61 60,[]),(.my 62 61 5,[]),(.my 63 61 6,[]),(.y 64 61 (.ixAddr 2 (.t 62) (.t 63)),[]),(.y 65 61 (.loadN 2 (.t 64)),[]),(.my 66 61 5,[]),(.my 67 61 8,[]),(.y 68 61 (.ixAddr 2 (.t 66) (.t 67)),[]),(.y 69 61 (.loadN 2 (.t 68)),[]),(.y 70 61 (.w 84 [.t 65,.t 69]),[]),(.q 71 61 70,[])]) (.cond (.t 71) (.q [.F 4] .ret) .skip)))) (.ops [.b 72 .add 3 37 1,.m 37 72])))))))))) (.ops [.b 73 .add 3 15 1,.m 15 73]))))))) (.q [.f 74 2 3,.z 75 (.ixAddrArr 2 3 (.t 74) (.k 0)),.L 76 3 75,.f 77 2 3,.z 78 (.ixAddrArr 2 3 (.t 77) (.k 1)),.L 79 3 78,.W 80 107 76 79,.z 81 (.un .not (.t 80)),.m 4 81] .ret))))
def r_buffers_apart:M4 Tryz.prog 57=some ⟨82,z9j.r,[.tmp 4]⟩:=Aa
def yj(x:Pc):Prop:=0≤x.at_∧x.at_≤1000000∧0≤x.size∧x.size≤1000000
instance (x y:Pc):Decidable (Vd x y):=by unfold Vd;infer_instance
def z3g{x y:Pc}(g:yj x)(j:yj y):M0 107 [.agg x.f,.agg y.f] (.bool (decide (Vd x y))) []:=by
 obtain⟨A,B,C,D⟩:=g;obtain⟨E,F,G,H⟩:=j;refine Nf.val rfl (M2 r_buffers_common Aa N ?_);by_cases h:x.buf=y.buf
 ·simp[z5u,Pc.f,h]
  repeat (refine⟨J,?_⟩)
  refine M5 (z5p (x.at_,x.at_+x.size-1) (y.at_,y.at_+y.size-1)) (bors_self _ rfl) ?_;have e:jo (x.at_,x.at_+x.size-1) (y.at_,y.at_+y.size-1)=decide (Vd x y):=by
   rw[Jj];simp[jo,Vd,h];omega
  simp[e]
 ·have z:¬Vd x y:=λq=>h q.1
  simp[z5u,Pc.f,h,z]
def zt2{c st:Nat}{x y:Pc}(j:M[c]?=some (.cells x.f st))(z:y.buf≠x.buf)(k:S (.bool false) (M++[.cells y.f 0])):O0 (.fn 109) [.agg y.f,.ptr c 0] M S:=by
 refine M2 r_buffers_own_1 Aa N ?_;have A:=(H5.1 j).1;have B:x.f=[.i x.buf,.i x.at_,.i x.size]:=rfl;have g:y.f=[.i y.buf,.i y.at_,.i y.size]:=rfl;rw[B]at j;rw[g]at k;simp[za8,g,↓Mv A,j,z];exact k
def zre{c st:Nat}{x:Pc}{l:List Pc}(G:M[c]?=some (.cells x.f st))(U:l.length≤1000000)(z:∀y∈l,y.buf≠x.buf)(k:∀g,M.length≤g.length→(∀j,j<M.length→g[j]?=M[j]?)→S (.i (-1)) g) :
  O0 (.fn 145) [.lst (N0 l) l.length 3,.fn (.func 109) [] [.ptr c 0]] M S:=by
 refine M2 r_slices_IndexFunc_api_Place_api_Place Aa (by simp) ?_;have A:=(H5.1 G).1;simp[z1m];refine Nm (λH T g O=>∃(i:Nat),T=[]∧O+i=l.length∧lk H 0=.lst (N0 l) l.length 3∧lk H 1=.fn (.func 109) [] [.ptr c 0]∧lk H 7=.i l.length∧lk H 8=.i i∧M.length≤g.length∧∀j,j<M.length→g[j]?=M[j]?) (N:=l.length)
  ⟨0,rfl,J,by simp,by simp,by simp,by simp,Ie _,λ_ _=>rfl⟩ ?_
 rintro O H T g ⟨i,rfl,V,I,K,B,C,D,E⟩ X F;by_cases L:i<l.length
 ·have P:=om (Wm L);have Q:=T6 L;have Y:(N4 l i).f=[.i (N4 l i).buf,.i (N4 l i).at_,.i (N4 l i).size]:=rfl;simp[I,K,B,C,L,P,Q];refine zt2 ((E c A).trans G) (z _ (I3.2 ⟨i,Wm L⟩)) ?_;simp[C];exact⟨J,F _ _ _ ⟨O-1,J,i+1,rfl,J,Cp,Bc,Al,by simp,Ab,λj R=>by rw[Mv J];exact E j R⟩⟩
 ·simp[B,C,L];exact k g D E
def zk6{c st:Nat}{x:Pc}{l:List Pc}(z:M[c]?=some (.cells x.f st))(A:l.length≤1000000)(j:∀y∈l,y.buf≠x.buf)(k:∀g,M.length≤g.length→(∀B,B<M.length→g[B]?=M[B]?)→S (.bool false) g) :
  O0 (.fn 108) [.lst (N0 l) l.length 3,.fn (.func 109) [] [.ptr c 0]] M S:=by
 refine M2 r_slices_ContainsFunc_api_Place_api_Place Aa N ?_;simp[z1h];refine zre z A j λg C D=>?_
 simp;exact k g C D
def Xk:List (Option Bool)→Option Bool
 |[]=>some true
 |o::l=>match o with
  |some true=>Xk l
  |some false=>some false
  |none=>none
def x6(a b d e:Int)(c f:Bool):Qo Tryz.prog false 95 (.agg [.int .i64 a,.int .i64 b,.bool c]) (.agg [.int .i64 d,.int .i64 e,.bool f])=Xk [some (fi a d),some (fi b e),some (c==f)]:=by cases c<;>cases f<;>kernel_rfl
def Zf(a b:Int)(c:Bool):Qo Tryz.prog false 95 (.agg (toAs [.i a,.i b,.bool c])) (.agg (toAs [.i a,.i b,.bool c]))=some true:=by
 refine Eq.trans (x6 a b a b c c) ?_;simp only[mc];simp[Xk]
def zhu{D:List Bf}{g:List Pc}{E F:Pc}{v:Vr}{i:Nat}(hi:i<g.length)(gg:g.length≤1000000)(hx:N4 g i=⟨i,0,v.limbs⟩)(z:i<D.length)(hb:Of D i=P8 v)(S:∀j,j<i→(N4 g j).buf≠i) :
  M0 58 [.agg (Nc D g E F),.i i,.agg v.f] (.bool true) []:=by
 have A:Nc D g E F=[.lst (Ok D) D.length 3,.lst (N0 g) g.length 3,.i E.buf,.i E.at_,.i E.size,.i F.buf,.i F.at_,.i F.size]:=rfl;have T:=om (Wm hi);have Z:=T6 hi;have U:=xf (au z);have G:=lu z;rw[hx]at T;rw[hb]at U;have H:v.f=[.i v.limbs,.bool v.sec,.i v.mode]:=rfl;refine Nf.val rfl (M2 r_buffers_own Aa N ?_);have I:((N0 g).take (i*3))=N0 (g.take i):=mh Pc.f_len g i;have V:(g.take i).length=i:=Ab
 have K:∀(Y:Mu) (gj:LV→Mu→Prop) (c st:Nat),Y[c]?=some (.cells [.i i,.i 0,.i v.limbs] st)→(∀L,Y.length≤L.length→(∀gB,gB<Y.length→L[gB]?=Y[gB]?)→gj (.bool false) L) →
   O0 (.fn 108) [.lst (N0 (g.take i)) i 3,.fn (.func 109) [] [.ptr c 0]] Y gj:=λY gj c st hc hk=>by
  have:=zk6 (x:=⟨i,0,v.limbs⟩) (l:=g.take i) hc J (λy hy=>by
   obtain⟨j,X⟩:=I3.1 hy;have M:j<i:=by have:=(H5.1 X).1;omega
   rw[I1 M,Wm J]at X;have hn:=S j M;rw[←Option.some.inj X];exact hn) hk
  rw[V]at this;exact this
 by_cases R:v.mode=3
 ·have B:(P8 v).f=[.i v.limbs,.i 2,.bool v.sec]:=by simp[P8,Bf.f,R]
  simp[z83,A,H,T,Z,U,G,hi,z,Pc.f,B,R];rw[I];refine⟨J,K _ _ _ 1 N λL h1 C=>?_⟩;have O:=C 1 N;have P:=C 2 N;have Q:=C 3 N;simp at O P Q;simp[O,P,Q,fj];exact Zf _ _ _
 ·have B:(P8 v).f=[.i v.limbs,.i 1,.bool v.sec]:=by simp[P8,Bf.f,R]
  simp[z83,A,H,T,Z,U,G,hi,z,Pc.f,B,R];rw[I];refine⟨J,K _ _ _ 1 N λL h1 C=>?_⟩;have O:=C 1 N;have P:=C 2 N;have Q:=C 3 N;simp at O P Q;simp[O,P,Q,fj];exact Zf _ _ _
def Ze(g:List Pc)(n:Nat):(N0 g).take (n*3)=N0 (g.take n):=mh Pc.f_len g n
def Z1{j:List Pc}{i:Nat}(h:g<i)(hi:i≤j.length):N4 (j.take i) g=N4 j g:=by
 unfold N4;rw[H9,H9,I1 h]
structure ApB (vs:List Vr) (ss:List Sp) (ps:List Pc) (w0 w1:Pc):Prop where
 bd:∀i,i<ps.length→yj (N4 ps i)
 b0:yj w0
 b1:yj w1
 n0:∀i,i<ps.length→¬Vd (N4 ps i) w0
 n1:∀i,i<ps.length→¬Vd (N4 ps i) w1
 nw:¬Vd w0 w1
 np:∀i j,j<i→i<ps.length→Vd (N4 ps i) (N4 ps j)→Wc ss i<Tl ss j∨Wc ss j<Tl ss i
def zer{M rs:List Ko}{U:List Bf}{g:List Pc}{D E:Pc}(O:X.length≤1000000)(hc:M3 X M rs=true){f:Fr Ko}(hw:f.wf Qc)(hf:M=f.flat)(g9:g.length=X.length)(R:ApB X (S4 M (f.tops 0) 0 X) g D E) :
  M0 57 [.agg (Mt X M rs),.agg (Nc U g D E)] (.bool true) []:=by
 have gH:dats (Mt X M rs)=true:=Af
 have gI:(Mt X M rs).length=3:=rfl;have gK:(Mt X M rs).take 3=Mt X M rs:=rfl;have B:Nc U g D E=[.lst (Ok U) U.length 3,.lst (N0 g) g.length 3,.i D.buf,.i D.at_,.i D.size,.i E.buf,.i E.at_,.i E.size]:=rfl;refine Nf.val rfl (M2 r_buffers_apart Aa (by simp) ?_);simp[z9j,gI,gK];refine Rj (z8w J hc hw hf) (by simp[dats,LV.dat,gH]) ?_;have gZ:(S4 M (f.tops 0) 0 X).length=X.length:=by
  have:∀(l:List Vr) (i:Nat),(S4 M (f.tops 0) i l).length=l.length:=by
   intro l
   induction l with
   |nil=>intro i;rfl
   |cons v l ih=>intro i;simp[S4,ih]
  exact this X 0
 generalize S4 M (f.tops 0) 0 X=j at *;simp[B];have gj:D.f=[.i D.buf,.i D.at_,.i D.size]:=rfl;have gB:E.f=[.i E.buf,.i E.at_,.i E.size]:=rfl;refine Nm (λT g8 gC N=>∃(i:Nat),g8=[]∧N+i=g.length∧lk T 3=.ptr 1 0∧lk T 5=.lst (M9 j) j.length 2∧lk T 13=.lst (N0 g) g.length 3∧lk T 14=.i g.length∧lk T 15=.i i∧1<gC.length∧gC[1]?=some (.cells (Nc U g D E) 0))
  (N:=g.length) ⟨0,rfl,J,by simp,by simp,by simp,by simp,by simp,by simp,Al⟩ ?_
 rintro N T g8 gC ⟨i,rfl,hN,K,P,C,z,A,O,g1⟩ Nx gL;by_cases gG:i<g.length
 case neg =>
  simp[K,z,A,gG,g1,B];rw[←gj,←gB];refine M5 (z3g R.b0 R.b1) (bors_self _ rfl) ?_;simp[R.nw]
 have q3:=om (Wm gG);have hq:=T6 gG;have V:=R.bd i gG;have n0:=R.n0 i gG;have n1:=R.n1 i gG;have np:=λF hj=>R.np i F hj gG
 have G:(N4 g i).f=[.i (N4 g i).buf,.i (N4 g i).at_,.i (N4 g i).size]:=rfl;generalize N4 g i=x at *;simp[K,C,z,A,gG,q3,hq,G,↓Mv O,g1,B];rw[←G,←gj];refine M5 (z3g V R.b0) (bors_self _ rfl) ?_;simp[n0,K,↓Mv O,g1,B,G];rw[←G,←gB];refine M5 (z3g V R.b1) (bors_self _ rfl) ?_;simp[n1,K,↓Mv O,g1,B,G];have gM:((N0 g).take (i*3))=N0 (g.take i):=Ze g i;have jg:(g.take i).length=i:=Ab
 rw[gM];refine⟨J,?_⟩;obtain⟨G1,S⟩:∃G1,G1=gC++[LObj.cells [.i x.buf,.i x.at_,.i x.size] 1]:=⟨_,rfl⟩;have x1:G1[gC.length]?=some (.cells [.i x.buf,.i x.at_,.i x.size] 1):=by rw[S];simp
 have p1:G1[1]?=some (.cells (Nc U g D E) 0):=by rw[S,Mv O];exact g1
 have l1:G1.length=gC.length+1:=by rw[S];simp
 rw[←S];refine Nm (λT g8 G' N=>∃(F:Nat),g8=[]∧N+F=i∧lk T 3=.ptr 1 0∧lk T 5=.lst (M9 j) j.length 2∧lk T 6=.i i∧lk T 7=.ptr gC.length 0∧lk T 13=.lst (N0 g) g.length 3∧lk T 14=.i g.length∧lk T 15=.i i∧lk T 35=.lst (N0 (g.take i)) i 3∧lk T 36=.i i∧lk T 37=.i F∧gC.length+1≤G'.length∧G'[1]?=some (.cells (Nc U g D E) 0)∧G'[gC.length]?=some (.cells [.i x.buf,.i x.at_,.i x.size] 1))
  (N:=i) ⟨0,rfl,J,Bc,Ba,by simp,by simp,Ad,Ar,Ae,by simp,by simp,by simp,J,p1,x1⟩ ?_
 clear K P C z A;rintro N1 T g8 G' ⟨F,rfl,jz,K,P,h6,h7,C,z,A,Q,H,I,jA,p',x'⟩ gO gD;have gE:gC.length<G'.length:=J
 by_cases g2:F<i
 case neg =>
  simp[A,H,I,g2];exact⟨J,gL _ _ _ ⟨N-1,J,i+1,rfl,J,Bc,Ba,Ad,Ar,by simp,J,p'⟩⟩
 have r3:=om (Wm (l:=g.take i) (n:=F) J);have hr:=T6 (l:=g.take i) (i:=F) J;rw[Z1 g2 J]at r3;have gP:=R.bd F J;have gQ:=np F g2;have gF:(N4 g F).f=[.i (N4 g F).buf,.i (N4 g F).at_,.i (N4 g F).size]:=rfl;generalize N4 g F=y at *;have next:∀L G2,lk L 3=.ptr 1 0→lk L 5=.lst (M9 j) j.length 2→lk L 6=.i i→lk L 7=.ptr gC.length 0→lk L 13=.lst (N0 g) g.length 3→lk L 14=.i g.length→lk L 15=.i i→lk L 35=.lst (N0 (g.take i)) i 3→lk L 36=.i i→lk L 37=.i ((F:Int)+1)→G2=G'++[LObj.cells [.i y.buf,.i y.at_,.i y.size] 1]→gO L [] G2:=by
  rintro L G2 a3 a5 a6 a7 gR gS gT gU gV gX rfl;exact gD _ _ _ ⟨N1-1,J,F+1,rfl,J,a3,a5,a6,a7,gR,gS,gT,gU,gV,by rw[gX];simp,Ab,by rw[Mv J];exact p',by rw[Mv gE];exact x'⟩
 simp[h7,Q,H,I,g2,r3,hr,gF,↓Mv gE,x'];rw[←G,←gF];refine M5 (z3g V gP) (bors_self _ rfl) ?_;have ti:=zuo (Wb (l:=j) (n:=i) J);have tj:=zuo (Wb (l:=j) (n:=F) J);have li:=Z8 (l:=j) (i:=i) J;have lj:=Z8 (l:=j) (i:=F) J;have si:i<j.length:=J
 have sj:F<j.length:=J
 by_cases Y:Vd x y
 case neg =>
  simp[Y,I];exact⟨J,next _ _ Bc Ba Bo E5 Ad Ar Ae Bx Ay (by simp) rfl⟩
 have gY:=gQ Y;have Z:Od (gs j i)=[.i (gs j i).1,.i (gs j i).2]:=rfl;have gg:Od (gs j F)=[.i (gs j F).1,.i (gs j F).2]:=rfl;simp[Y,P,h6,si,ti,li,Z];rw[←Z];refine M5 (z4b (gs j i)) (bors_self _ rfl) ?_;by_cases ni:(gs j i).1<0
 ·simp[ni,I];exact⟨J,next _ _ Bc Ba Bo E5 Ad Ar Ae Bx Ay (by simp) rfl⟩
 simp[ni,P,sj,tj,lj,gg];rw[←gg];refine M5 (z4b (gs j F)) (bors_self _ rfl) ?_;by_cases nj:(gs j F).1<0
 ·simp[nj,I];exact⟨J,next _ _ Bc Ba Bo E5 Ad Ar Ae Bx Ay (by simp) rfl⟩
 simp[nj,P,h6,si,ti,li,sj,tj,lj];rw[←Z,←gg];refine M5 (z5p (gs j i) (gs j F)) (bors_self _ rfl) ?_;have hm:jo (gs j i) (gs j F)=false:=by
  unfold Tl Wc at gY;simp[jo];omega
 simp[hm,I];exact⟨J,next _ _ Bc Ba Bo E5 Ad Ar Ae Bx Ay (by simp) rfl⟩
end
section
set_option linter.unusedVariables false
def za4:LC:=(.q [.x 2 0,.x 3 1,.K 4 0] (.seq (.q [.L 15 3 2,.w 16 43 15,.m 5 16] (.q [.m 17 5,.b 18 .neq 35 17 0] (.cond (.t 18) (.q [.m 19 5,.m 4 19] .ret) .skip))) (.seq (.q [.f 20 0 2,.l 21 20,.L 22 8 3,.W 23 56 21 22,.b 24 .neq 35 23 0,.m 25 24,.n 26 25 (.loadN 3 (.t 2)),.n 27 25 (.loadN 8 (.t 3)),.n 28 25 (.w 57 [.t 26,.t 27]),.n 29 25 (.un .not (.t 28)),.p 30 25 29] (.cond (.t 30) (.q [.K 4 2] .ret) .skip)) (.q [.f 31 0 3,.l 32 31,.s 33 32,.z 34 (.mkSl 1 [(.bool false)] (.t 33) (.t 33)),.m 6 34] (.seq (.q [.f 35 0 2,.l 36 35,.s 37 36,.K 38 0] (.block 0 (.loop (.q [.c 39 .lss 3 38 37] (.seq (.cond (.t 39) .skip (.exit 0)) (.seq (.block 1 (.q [.m 40 38,.I 41 3 36 38,.L 42 3 41,.z 8 (.alloc [(.i 0),(.bool false),(.i 0)]),.m 7 40,.S 3 8 42] (.seq (.q [.f 43 2 8,.l 44 43,.b 45 .eql 3 44 0] (.cond (.t 45) (.exit 1) .skip)) (.seq (.q [.L 46 8 3,.m 47 7,.L 48 3 8,.V 49 58 46 47 48,.z 50 (.un .not (.t 49))] (.cond (.t 50) (.q [.K 4 2] .ret) .skip)) (.ops [.m 51 6,.f 52 1 3,.l 53 52,.m 54 7,.I 55 3 53 54,.f 56 0 55,.l 57 56,.I 58 1 51 57,.v (.store 1 (.t 58) .T)]))))) (.ops [.b 59 .add 3 38 1,.m 38 59]))))))) (.seq (.q [.f 60 0 3,.l 61 60,.s 62 61,.K 63 0] (.block 2 (.loop (.q [.c 64 .lss 3 63 62] (.seq (.cond (.t 64) .skip (.exit 2)) (.seq (.block 3 (.q [.m 65 63,.I 66 3 61 63,.L 67 3 66,.z 10 (.alloc [(.i 0),(.i 0),(.bool false)]),.m 9 65,.S 3 10 67] (.q [.m 68 6,.m 69 9,.I 70 1 68 69,.l 71 70,.z 72 (.un .not (.t 71)),.m 73 72,.yf 74 73 1 10,.yl 75 73 74,.y 76 73 (.bin .neq true 3 (.t 75) (.k 3)),.q 77 73 76] (.cond (.t 77) (.q [.K 4 2] .ret) .skip)))) (.ops [.b 78 .add 3 63 1,.m 63 78]))))))) (.seq (.q [.f 79 1 2,.l 80 79,.s 81 80,.K 82 0] (.block 4 (.loop (.q [.c 83 .lss 3 82 81] (.seq (.cond (.t 83) .skip (.exit 4)) (.seq (.block 5 (.q [.I 84 7 80 82,.L 85 7 84,.z 12 (.alloc [(.i 0),(.i 0),(.i 0),(.i 0),(.i 0),(.i 0),(.u 0)]),.S 7 12 85] (.q [.f 87 0 2,.l 88 87,.L 89 7 12,.L 90 8 3,.V 91 59 88 89 90,.m 86 91,.X 92 0 86,.X 93 1 86,.z 14 (.alloc [(.i 0),(.i 0),(.i 0)]),.m 13 92,.S 3 14 93] (.seq (.draw [(.f 94 1 12,[]),(.l 95 94,[]),(.b 96 .geq 3 95 0,[]),(.m 97 96,[]),(.yf 98 97 0 2,[]),(.yl 99 97 98,[]),(.y 100 97 (.loadN 7 (.t 12)),[]),(.yf 102 97 2 14,[]),(.yl 103 97 102,[]),(.y 101 97 (.w 52 [.t 99,.t 100]),[(.yl 103 97 102,false)]),(.y 104 97 (.bin .gtr false 3 (.t 101) (.t 103)),[]),(.q 105 97 104,[])]) (.cond (.t 105) (.q [.K 4 2] .ret) .skip))))) (.ops [.b 106 .add 3 82 1,.m 82 106]))))))) (.q [.K 4 0] .ret))))))))
def r_buffers_Check:M4 Tryz.prog 13=some ⟨107,za4.r,[.tmp 4]⟩:=Aa
section made
variable {vs : List Vr} {os rs : List Ko} {bs : List Bf} {ps : List Pc} {w0 w1 : Pc}
structure MadeF (vs:List Vr) (os:List Ko) (bs:List Bf) (ps:List Pc) (w0 w1:Pc) (base:Nat) (f:Fr Ko):Prop where
 plan:Vo vs bs ps w0 w1=true
 wf:f.wf Qc
 flat:os=f.flat
 pl:ps.length=vs.length
 bl:bs.length=base+2
 bb:base≤vs.length
 mode:∀v,v<vs.length→((gv vs v).mode=0↔base≤v)
 apart:ApB vs (S4 os (f.tops 0) 0 vs) ps w0 w1
 par:∀i,i<base→N4 ps i=⟨i,0,(gv vs i).limbs⟩
 parb:∀i,i<base→Of bs i=P8 (gv vs i)
 var:∀i,base≤i→i<vs.length→base≤(N4 ps i).buf
 tmp:∀i,base≤i→i<bs.length→(Of bs i).kind=3
 sz:∀i,i<ps.length→(N4 ps i).size=(gv vs i).limbs
 w0s:w0.size=(R0 vs os).1 false
 w1s:w1.size=(R0 vs os).1 true
def X0.facts(hv:Ps vs=true)(h:X0 vs os bs ps w0 w1):∃base f,MadeF vs os bs ps w0 w1 base f:=by
 obtain⟨base,f,iv,gj,done,busy,cur,hr,gI,gK,j,hd,rfl,rfl,rfl,rfl,hs⟩:=h;obtain⟨r,gF,gO,gL,hp⟩:=zh1 hv;rw[hr]at gF;obtain rfl:=Option.some.inj gF;have gB:∀b,(R0 vs os).1 b≤32768:=λb=>zjx _ _ (zq5 vs) os mb (λ_=>by show (1:Int)≤32768;decide) b
 have gC:∀b,1≤(R0 vs os).1 b:=λb=>yg _ _ os mb b
 have gG:∀v,v<vs.length→1≤(gv vs v).limbs∧(gv vs v).limbs≤512:=λv gD=>by
  have:=Wd hv _ (X9 gD);omega
 have gE:∀v,v<vs.length→((gv vs v).mode=0↔base≤v):=λv gD=>by
  have:=hp v gD;constructor
  ·intro h0;have:¬v<base:=λq=>(this.2 q) h0
   omega
  ·intro hq;refine Decidable.byContradiction λhn=>?_
   have:=this.1 hn;omega
 have gg:∀i,i<vs.length→N4 (Te vs base iv) i=R9 base iv (Pf vs) (Qm vs) i:=λi hi=>zgy hi
 have z0:=(j.ok false).1;have z1:=(j.ok true).1;refine⟨base,f,⟨zti hv hr j hd hs gB,gI,gK,jk _ _ _,zaj _ _ _,gL,gE,⟨?_,?_,?_,?_,?_,works_apart,?_⟩,?_,λi hi=>zi9 hi,?_,?_,?_,rfl,rfl⟩⟩
 ·intro i hi;rw[jk]at hi;rw[gg i hi];have hl:=gG i hi;by_cases q:i<base
  ·rw[znp J];refine⟨Kt _,Dq,by show 0≤(gv vs i).limbs;omega,by show (gv vs i).limbs≤1000000;omega⟩
  ·rw[zkd J];have gM:=j.inn i (hd i J hi);have hw:=j.wide i (hd i J hi);have gP:(gj (Qm vs i)).size≤65536:=by cases Qm vs i<;>omega
   have gQ:Pf vs i=(gv vs i).limbs:=rfl;exact⟨gM.1,by show (iv i).1≤1000000;omega,by show 0≤Pf vs i;omega,by show Pf vs i≤1000000;omega⟩
 ·have:=gC false;have:=gB false;exact⟨Kt _,Dq,by show 0≤(R0 vs os).1 false;omega,by show (R0 vs os).1 false≤1000000;omega⟩
 ·have:=gC true;have:=gB true;exact⟨Kt _,Dq,by show 0≤(R0 vs os).1 true;omega,by show (R0 vs os).1 true≤1000000;omega⟩
 ·intro i hi;rw[jk]at hi;rw[gg i hi];exact zpl j (n:=vs.length) (λi h1 h2=>hd i J h2) hi false
 ·intro i hi;rw[jk]at hi;rw[gg i hi];exact zpl j (n:=vs.length) (λi h1 h2=>hd i J h2) hi true
 ·intro i gR hj hi gH;rw[jk]at hi;rw[gg i hi,gg gR J]at gH;exact zv1 j (n:=vs.length) (λi h1 h2=>hd i J h2) hi J J gH
 ·intro i hi;rw[gg i J,znp J];rfl
 ·intro i h1 h2;rw[gg i h2,zkd J];show (base:Int)≤(base:Int)+(if Qm vs i=true then 1 else 0);split<;>omega
 ·intro i h1 h2;rw[zaj]at h2;have t0:=zdi (vs:=vs) (r:=base) (ps:=gj) false;have t1:=zdi (vs:=vs) (r:=base) (ps:=gj) true;by_cases e:i=base
  ·subst e;rw[show Of (Ru vs i gj) i=Of (Ru vs i gj) (i+(if false=true then 1 else 0)) from rfl,t0]
  ·have e2:i=base+1:=J
   subst e2;rw[show Of (Ru vs base gj) (base+1)=Of (Ru vs base gj) (base+(if true=true then 1 else 0)) from rfl,t1]
 ·intro i hi;rw[jk]at hi;rw[gg i hi];unfold R9;split<;>rfl
def z8o{f:Fr Ko}(Z:vs.length≤1000000)(hc:M3 vs os rs=true)(gY:(R0 vs os).2=true)(h:MadeF vs os bs ps w0 w1 g f)(gZ:∀v∈vs,0≤v.mode):M0 13 [.agg (Mt vs os rs),.agg (Nc bs ps w0 w1)] (.i 0) []:=by
 have g8:dats (Mt vs os rs)=true:=Af
 have gE:(Mt vs os rs).length=3:=rfl;have gF:(Mt vs os rs).take 3=Mt vs os rs:=rfl;have S:(Nc bs ps w0 w1).length=8:=rfl;have T:(Nc bs ps w0 w1).take 8=Nc bs ps w0 w1:=rfl;have K:Nc bs ps w0 w1=[.lst (Ok bs) bs.length 3,.lst (N0 ps) ps.length 3,.i w0.buf,.i w0.at_,.i w0.size,.i w1.buf,.i w1.at_,.i w1.size]:=rfl;have jK:os.length≤4096:=by
  have h:=hc;unfold M3 at h;simp only[H7,Ii]at h;exact h.2.1
 have jL:bs.length≤1000002:=by have:=h.bl;have:=h.bb;omega
 refine Nf.val rfl (M2 r_buffers_Check Aa (by simp) ?_);simp[za4,gE,gF,S,T];refine M5 (te vs os rs J) (bors_self _ (by simp[dats,LV.dat,g8])) ?_;simp[Np,hc,gE,gF,S,T,Mt];refine M5 (zge vs bs ps w0 w1 Z J) (bors_self _ (by simp[dats,LV.dat,O9,fe])) ?_;simp[je,h.plan,gE,gF,S,T];refine M5 (zer Z hc h.wf h.flat h.pl h.apart) (bors_self _ (by simp[dats,LV.dat,O9,Rz,fe])) ?_;simp[K];refine⟨J,?_⟩;have gI:∀n,Na [LV.bool false] n=(List.replicate n false).map .bool:=by
  intro n
  induction n with
  |zero=>rfl
  |succ n ih=>rw[Na,ih,J0];rfl
 rw[gI];refine Nm (λY gX R N=>∃(i:Nat) (m:List Bool) (st:Nat),gX=[]∧N+i=vs.length∧lk Y 2=.ptr 0 0∧lk Y 3=.ptr 1 0∧lk Y 6=.dy 2 0∧lk Y 36=.lst (Nb vs) vs.length 3∧lk Y 37=.i vs.length∧lk Y 38=.i i∧2<R.length∧R[0]?=some (.cells (Mt vs os rs) 0)∧R[1]?=some (.cells (Nc bs ps w0 w1) 0)∧R[2]?=some (.dyn (m.map .bool) bs.length 1 0 st) ∧
   m.length=bs.length∧∀j,j<bs.length→m[j]?=some (decide (j<i∧j<g)))
  (N:=vs.length) ⟨0,List.replicate bs.length false,0,rfl,J,by simp,by simp,by simp,by simp,by simp,by simp,by simp,Cu,Bc,by simp,by simp,λj hj=>by simp[hj]⟩ ?_
 rintro N Y gX R ⟨i,m,st,rfl,hN,D,C,U,M,O,V,A,L,H,g2,gG,hm⟩ Nx E;have B:0<R.length:=J
 have z:1<R.length:=J
 by_cases X:i<vs.length
 ·have q3:=U4 (Qa X);have gK:=S6 X;have gL:=h.mode i X;have I:(gv vs i).f=[.i (gv vs i).limbs,.bool (gv vs i).sec,.i (gv vs i).mode]:=rfl;by_cases m0:(gv vs i).mode=0
  ·have jM:=gL.1 m0;simp[D,C,M,O,V,X,q3,gK,I,m0];exact⟨J,E _ _ _ ⟨N-1,J,i+1,m,st,rfl,J,Be,Ad,B9,At,B3,by simp,Ab,by rw[Mv B];exact L,by rw[Mv z];exact H,by rw[Mv A];exact g2,gG,λj hj=>Fv⟩⟩
  ·have gM:i<g:=by
    have:¬g≤i:=λq=>m0 (gL.2 q)
    omega
   simp[D,C,M,O,V,X,q3,gK,I,m0,↓Mv B,↓Mv z,L,H,S,T];rw[←I];have gO:=h.par i gM;have gP:=h.parb i gM;have gQ:=h.bl;refine M5 (zhu (i:=i) (by rw[h.pl];exact X) (by rw[h.pl];exact Z) gO J gP λj hj=>?_) (bors_self _ (by simp[dats,LV.dat,fe,I])) ?_
   ·rw[h.par j J];show ((j:Nat):Int)≠i;omega
   have gp:i<ps.length:=by rw[h.pl];exact X
   have c0:=U5 Pc.f_len (Wm gp) (j:=0) J;rw[gO]at c0;have g9:(N0 ps)[i*3]?=some (.i (i:Int)):=by simpa [N0,Pc.f] using c0
   have jO:=T6 gp;have jI:i*3<(N0 ps).length:=J
   have gR:i<bs.length:=J
   simp[C,U,↓Mv z,↓Mv A,H,g2,K,gp,Mx g9,gR,V,gG];have gS:=tl LV.bool m i true J;rw[gS]
   repeat (refine⟨J,?_⟩)
   refine E _ _ _ ⟨N-1,J,i+1,m.set i true,st+1,rfl,J,Be,Ad,B9,At,B3,by simp,Ab,?_,?_,?_,by simpa using gG,λj hj=>?_⟩
   ·rw[H6 J,Mv B];exact L
   ·rw[H6 J,Mv z];exact H
   ·rw[Ia Ab]
   ·rw[Lt];by_cases e:i=j
    ·subst e;rw[Ih rfl,Ih J];simp;omega
    ·rw[Ig e,hm j hj];exact congrArg some (Ly.2 J)
 have jg:i=vs.length:=J
 subst jg;simp[D,C,M,O,V,H,K];clear E;have jP:=h.bb;have gQ:=h.bl;have jz:∀j,j<bs.length→m[j]?=some (decide (j<g)):=λj hj=>Fv
 clear hm;refine Nm (λY gX R N=>∃(i:Nat),gX=[]∧N+i=bs.length∧lk Y 2=.ptr 0 0∧lk Y 3=.ptr 1 0∧lk Y 6=.dy 2 0∧lk Y 61=.lst (Ok bs) bs.length 3∧lk Y 62=.i bs.length∧lk Y 63=.i i∧2<R.length∧R[0]?=some (.cells (Mt vs os rs) 0)∧R[1]?=some (.cells (Nc bs ps w0 w1) 0)∧R[2]?=some (.dyn (m.map .bool) bs.length 1 0 st))
  (N:=bs.length) ⟨0,rfl,J,Be,Ad,B9,by simp,by simp,by simp,A,L,H,g2⟩ ?_
 clear D C U M O V A L H g2 B z X hN;rintro N Y gX R ⟨i,rfl,hN,D,C,U,P,Q,gg,A,L,H,g2⟩ Nx E;have B:0<R.length:=J
 have z:1<R.length:=J
 by_cases X:i<bs.length
 ·have b3:=xf (au X);have gT:=lu X;have I:(Of bs i).f=[.i (Of bs i).size,.i (Of bs i).kind,.bool (Of bs i).sec]:=rfl;have gj:=Rm (f:=LV.bool) (jz i X);have nx:∀G G2,lk G 2=.ptr 0 0→lk G 3=.ptr 1 0→lk G 6=.dy 2 0→lk G 61=.lst (Ok bs) bs.length 3→lk G 62=.i bs.length→lk G 63=.i ((i:Int)+1)→(∃x,G2=R++[x])→Nx G [] G2:=by
   rintro G G2 a2 a3 a6 jA jB jC ⟨x,rfl⟩;exact E _ _ _ ⟨N-1,J,i+1,rfl,J,a2,a3,a6,jA,jB,by rw[jC];simp,Ab,by rw[Mv B];exact L,by rw[Mv z];exact H,by rw[Mv A];exact g2⟩
  by_cases hb:i<g
  ·rw[show decide (i<g)=true by simpa using hb]at gj;simp[D,C,U,P,Q,gg,X,b3,gT,I,↓Mv A,g2,Mx gj];exact⟨J,nx _ _ Be Ad B9 Ba Bx (by simp) ⟨_,rfl⟩⟩
  ·have hk:=h.tmp i J X;rw[show decide (i<g)=false by simpa using hb]at gj;simp[D,C,U,P,Q,gg,X,b3,gT,I,↓Mv A,g2,Mx gj,hk];exact⟨J,nx _ _ Be Ad B9 Ba Bx (by simp) ⟨_,rfl⟩⟩
 simp[D,C,P,Q,gg,X,L,Mt];clear E X;refine Nm (λY gX R N=>∃(i:Nat),gX=[]∧N+i=os.length∧lk Y 2=.ptr 0 0∧lk Y 3=.ptr 1 0∧lk Y 80=.lst (N3 os) os.length 7∧lk Y 81=.i os.length∧lk Y 82=.i i∧2<R.length∧R[0]?=some (.cells (Mt vs os rs) 0)∧R[1]?=some (.cells (Nc bs ps w0 w1) 0))
  (N:=os.length) ⟨0,rfl,J,Be,Ad,by simp,by simp,by simp,A,L,H⟩ ?_
 clear D C U P Q gg A L H g2 B z hN;rintro N Y gX R ⟨i,rfl,hN,D,C,gH,gB,gC,A,L,H⟩ Nx E;have B:0<R.length:=J
 have z:1<R.length:=J
 by_cases X:i<os.length
 ·have q7:=ir (Uj X);have jD:=iz X;have jE:go os i∈os:=I3.2 ⟨i,Uj X⟩;have F:(go os i).f=[.i (go os i).kind,.i (go os i).d,.i (go os i).e,.i (go os i).a,.i (go os i).b,.i (go os i).c,.u (go os i).imm]:=rfl;generalize go os i=o at *;simp[D,C,gH,gB,gC,X,q7,jD,F,↓Mv B,↓Mv z,L,H,S,T,Mt];rw[←F];refine M5 (zht vs o bs ps w0 w1) (bors_self _ (by simp[dats,LV.dat,O9,fe,F])) ?_;have gU:(bf vs o w0 w1).f=[.i (bf vs o w0 w1).buf,.i (bf vs o w0 w1).at_,.i (bf vs o w0 w1).size]:=rfl;have nx:∀G G2,lk G 2=.ptr 0 0→lk G 3=.ptr 1 0→lk G 80=.lst (N3 os) os.length 7→lk G 81=.i os.length→lk G 82=.i ((i:Int)+1)→(∃x,G2=R++x)→Nx G [] G2:=by
   rintro G G2 a2 a3 jF jG jH ⟨x,rfl⟩;exact E _ _ _ ⟨N-1,J,i+1,rfl,J,a2,a3,jF,jG,by rw[jH];simp,Ab,by rw[Mv B];exact L,by rw[Mv z];exact H⟩
  by_cases hd:0≤o.d
  ·obtain⟨jQ,gD⟩:=zk7 (Vl vs) (λo=>Q6 vs o.d) os mb gY o jE hd;have jR:Vl vs o≤(bf vs o w0 w1).size:=by
    unfold bf;cases hp:Q6 vs o.d with
    |true =>
     rw[hp]at gD;rw[Ih rfl,h.w0s];exact gD
    |false =>
     rw[hp]at gD;rw[Ig Ah,h.w1s];exact gD
   have gV:¬(bf vs o w0 w1).size<Vl vs o:=J
   simp[gU,F,D,C,hd,↓Mv B,↓Mv z,L,H,Mt];rw[←F];refine M5 (z9v vs o Z) (bors_self _ (by simp[dats,LV.dat,O9,F])) ?_;simp[F,gV,gC];exact⟨J,nx _ _ Be Ad Ez (by simp[gB]) (by simp) ⟨_,rfl⟩⟩
  ·simp[gU,F,D,C,hd,gC];exact⟨J,nx _ _ Be Ad Ez (by simp[gB]) (by simp) ⟨_,rfl⟩⟩
 simp[gB,gC,X]
end made
end
def ze9:LC:=(.q [.e 2] (.q [.m 4 0,.s 5 4,.m 3 5] (.seq (.block 0 (.loop (.seq (.q [.m 6 3,.b 7 .gtr 3 6 0,.m 8 7,.my 9 8 0,.my 10 8 3,.y 11 8 (.bin .sub true 3 (.t 10) (.k 1)),.y 12 8 (.ixAddr 1 (.t 9) (.t 11)),.yl 13 8 12,.y 14 8 (.bin .eql true 43 (.t 13) (.c (.u 0))),.q 15 8 14] (.cond (.t 15) .skip (.exit 0))) (.block 1 (.ops [.m 16 3,.b 17 .sub 3 16 1,.m 3 17]))))) (.q [.z 18 (.buildSl 1 0 [] []),.m 19 0,.m 20 3,.z 21 (.slSl 1 (.t 19) none (some (.t 20))),.a 22 1 18 21,.m 2 22] .ret))))
def r_ref02_Trim:M4 Tryz.prog 63=some ⟨23,ze9.r,[.tmp 2]⟩:=Aa
def zav:LC:=(.q [.e 2] (.seq (.block 0 (.loop (.seq (.q [.m 3 0,.s 4 3,.b 5 .gtr 3 4 0,.m 6 5,.my 7 6 0,.my 8 6 0,.y 9 6 (.lenSl (.t 8)),.y 10 6 (.bin .sub true 3 (.t 9) (.k 1)),.y 11 6 (.ixAddr 1 (.t 7) (.t 10)),.yl 12 6 11,.y 13 6 (.bin .eql true 43 (.t 12) (.c (.u 0))),.q 14 6 13] (.cond (.t 14) .skip (.exit 0))) (.block 1 (.ops [.m 15 0,.m 16 0,.s 17 16,.b 18 .sub 3 17 1,.z 19 (.slSl 1 (.t 15) none (some (.t 18))),.m 0 19]))))) (.q [.m 20 0,.m 2 20] .ret)))
def r_nat_row_trim:M4 Tryz.prog 113=some ⟨21,zav.r,[.tmp 2]⟩:=Aa
def zi2:LC:=(.q [.e 2] (.q [.z 3 (.buildSl 1 0 [] []),.m 4 0,.w 5 113 4,.a 6 1 3 5,.m 2 6] .ret))
def r_nat_Trim:M4 Tryz.prog 66=some ⟨7,zi2.r,[.tmp 2]⟩:=Aa
def zcs(a:List UInt64)(L:a.length≤1048576):M0 63 [LU a] (.dy 0 0) [RU (Ow (val a))]:=by
 refine Nf.row (M2 r_ref02_Trim Aa (by simp) ?_);simp[ze9];refine zuv (λG I K z=>I=[]∧K=[]∧z≤a.length∧lk G 0=LU a∧lk G 3=.i z∧val (a.take z)=val a) (N:=a.length) (by simp) ?_;rintro z G I K ⟨rfl,rfl,M,C,D,F⟩;simp at C;have A:(z=0∨a.getD (z-1) 0≠0)→Ow (val a)=a.take z:=by
  intro h;rw[←F];refine toL_val ?_;rcases h with rfl|h
  ·exact .inl (by simp)
  ·by_cases E:z=0
   ·subst E;exact .inl (by simp)
   ·have:z=(z-1)+1:=J
    rw[this,z77 J];exact zqk h
 by_cases E:z=0
 ·subst E;have B:=A (.inl rfl);simp at D B;simp[C,D,B,W6];exact⟨0,1,⟨rfl,rfl⟩,by simp⟩
 ·obtain⟨n,rfl⟩:∃n,z=n+1:=⟨z-1,J⟩;have g:n<a.length:=J
  have H:((n:Int)+1-1).toNat=n:=J
  simp[C,D,g,H];refine⟨J,λj=>⟨J,n,J,J,rfl,?_⟩,λj=>⟨J,J,J,?_⟩⟩
  ·rw[←F,z85 g];simp[g,j]
  ·have B:=A (.inr (by simpa [g] using j));refine .inr ⟨0,1,1,rfl,?_⟩;rw[B];simp[Lr];omega
def zgq(a:List UInt64)(h:S (LU (Ow (val a))) M)(O:a.length≤1048576):O0 (.fn 113) [LU a] M S:=by
 refine M2 r_nat_row_trim Aa (by simp) ?_;simp[zav];refine zuv (λK L F z=>L=[]∧F=M∧z≤a.length∧lk K 0=LU (a.take z)∧val (a.take z)=val a) (N:=a.length) (by simp) ?_;rintro z K L F ⟨rfl,rfl,H,C,G⟩;have j:(a.take z).length=z:=Ab
 simp[j,-List.map_take,-List.length_take]at C;have B:(z=0∨a.getD (z-1) 0≠0)→Ow (val a)=a.take z:=by
  intro h;rw[←G];refine toL_val ?_;rcases h with rfl|h
  ·exact .inl (by simp)
  ·by_cases E:z=0
   ·subst E;exact .inl (by simp)
   ·have:z=(z-1)+1:=J
    rw[this,z77 J];exact zqk h
 by_cases E:z=0
 ·subst E;have D:=B (.inl rfl);simp at C D;simp[D]at h;simp[C,h]
 ·obtain⟨n,rfl⟩:∃n,z=n+1:=⟨z-1,J⟩;have g:n<a.length:=J
  have I:((n:Int)+1-1).toNat=n:=J
  simp[C,g,I];refine⟨J,J,λA=>⟨J,n,J,J,⟨by rw[Lj];congr 1;omega,J⟩,?_⟩,λA=>?_⟩
  ·rw[←G,z85 g];simp[g,A]
  ·have D:=B (.inr (by simpa [g] using A));rw[D]at h;simpa [j,H] using h
def zbe(a:List UInt64)(g:a.length≤1048576):M0 66 [LU a] (.dy 0 0) [RU (Ow (val a))]:=by
 have j:=wm a;refine Nf.row (M2 r_nat_Trim Aa N ?_);simp[zi2];refine zgq a ?_ g;simp;exact⟨J,.inr ⟨0,1,1,rfl,N⟩⟩
def zc4:LC:=(.q [.e 4,.K 5 0] (.seq (.q [.m 7 1,.b 8 .lss 3 7 0,.m 9 8,.mn 10 9 1,.nb 11 9 .gtr 3 10 512,.p 12 9 11] (.cond (.t 12) (.q [.e 4,.K 5 2] .ret) .skip)) (.q [.m 13 0,.w 14 66 13,.m 6 14] (.seq (.q [.m 15 6,.s 16 15,.m 17 1,.c 18 .gtr 3 16 17] (.cond (.t 18) (.q [.e 4,.K 5 3] .ret) .skip)) (.q [.m 19 6,.m 20 1,.m 21 6,.s 22 21,.c 23 .sub 3 20 22,.z 24 (.appZ 1 [(.u 0)] (.t 19) (.t 23)),.m 4 24,.K 5 0] .ret)))))
def r_nat_Fit:M4 Tryz.prog 61=some ⟨25,zc4.r,[.tmp 4,.tmp 5]⟩:=Aa
def zc8:LC:=(.q [.F 4] (.seq (.q [.K 5 0] (.block 0 (.loop (.seq (.q [.m 8 5,.m 9 0,.s 10 9,.c 11 .lss 3 8 10,.m 12 11,.mn 13 12 5,.mn 14 12 1,.n 15 12 (.lenSl (.t 14)),.n 16 12 (.bin .lss false 3 (.t 13) (.t 15)),.p 17 12 16] (.cond (.t 17) .skip (.exit 0))) (.seq (.block 1 (.q [.z 6 (.move (.c (.u 0))),.z 7 (.move (.c (.u 0)))] (.seq (.q [.m 20 5,.m 21 0,.s 22 21,.c 23 .lss 3 20 22] (.cond (.t 23) (.ops [.m 24 0,.m 25 5,.I 26 1 24 25,.l 27 26,.m 6 27]) .skip)) (.seq (.q [.m 28 5,.m 29 1,.s 30 29,.c 31 .lss 3 28 30] (.cond (.t 31) (.ops [.m 32 1,.m 33 5,.I 34 1 32 33,.l 35 34,.m 7 35]) .skip)) (.q [.m 36 6,.m 37 7,.c 38 .neq 43 36 37] (.cond (.t 38) (.q [.F 4] .ret) .skip)))))) (.ops [.m 18 5,.b 19 .add 3 18 1,.m 5 19])))))) (.q [.z 4 (.move .T)] .ret)))
def r_kit_Natural:M4 Tryz.prog 24=some ⟨39,zc8.r,[.tmp 4]⟩:=Aa
def zij(a:List UInt64)(n:Int)(A:a.length≤1000000):M0 61 [LU a,.i n] (.tup [.dy 0 0,.i (Nz a n)]) [RU (Nr a n)]:=by
 refine Nf.rowE (M2 r_nat_Fit Aa N ?_);have B:=wm a;by_cases g:n<0
 ·have e:Nz a n=2:=Ih (.inl g);simp[zc4,g,e,Nr,W6]
 ·by_cases z:512<n
  ·have e:Nz a n=2:=Ih (.inr z);simp[zc4,g,z,e,Nr,W6]
  ·simp[zc4,g,z];refine zli (zbe a J) N ?_;by_cases j:n<(Ow (val a)).length
   ·have e:Nz a n=3:=by unfold Nz;rw[Ig J,Ih j]
    simp[RU,j,e,Nr,W6]
   ·have e:Nz a n=0:=by unfold Nz;rw[Ig J,Ig j]
    simp[RU,j,e,Nr];refine⟨J,λC=>⟨J,J,J,J,.inr ⟨0,1,1,rfl,?_⟩⟩⟩;rw[yu];simp
def lg(a b:List UInt64)(R:a.length≤1000000)(S:b.length≤1000000):M0 24 [LU a,LU b] (.bool (decide (val a=val b))) []:=by
 refine Nf.val rfl (M2 r_kit_Natural Aa (by simp) ?_);simp[zc8];refine Nm (λL Q T N=>∃i:Nat,Q=[]∧N+i=max a.length b.length∧lk L 0=LU a∧lk L 1=LU b∧lk L 5=.i i∧val (a.take i)=val (b.take i)) (N:=max a.length b.length) ⟨0,by simp⟩ ?_;rintro N L Q T ⟨i,rfl,U,z,A,I,K⟩ V B;have next:a.getD i 0=b.getD i 0→val (a.take (i+1))=val (b.take (i+1)):=λe=>by rw[zd4,zd4,e,K]
 have g:a.getD i 0≠b.getD i 0→val a≠val b:=λe M=>e (val_getD M i)
 have C:a.getD i 0=b.getD i 0→(i<a.length∨i<b.length)→∃j,j<N∧j+(i+1)=max a.length b.length∧val (a.take (i+1))=val (b.take (i+1)):=λe h=>⟨N-1,J,J,next e⟩
 by_cases D:i<a.length<;>by_cases E:i<b.length
 ·simp[D,E]at next g C
  simp[z,A,I,D,E];refine⟨λe=>⟨J,?_⟩,g⟩;obtain⟨j,F,G,H⟩:=C e;exact B _ _ _ ⟨j,F,i+1,rfl,G,Ar,Ae,by simp,H⟩
 ·have O:b[i]?=none:=Ab
  simp[D,O]at next g C
  simp[z,A,I,D,E];refine⟨λe=>⟨J,?_⟩,g⟩;obtain⟨j,F,G,H⟩:=C e;exact B _ _ _ ⟨j,F,i+1,rfl,G,Ar,Ae,by simp,H⟩
 ·have P:a[i]?=none:=Ab
  simp[E,P]at next g C
  simp[z,A,I,D,E];refine⟨λe=>⟨J,?_⟩,g⟩;obtain⟨j,F,G,H⟩:=C e;exact B _ _ _ ⟨j,F,i+1,rfl,G,Ar,Ae,by simp,H⟩
 ·simp[z,A,I,D,E];rw[←zdz (a:=a) (n:=i) J,←zdz (a:=b) (n:=i) J,K]
def z9e:LC:=(.q [.F 6] (.seq (.q [.K 7 0] (.block 0 (.loop (.seq (.q [.m 8 7,.m 9 0,.s 10 9,.c 11 .lss 3 8 10] (.cond (.t 11) .skip (.exit 0))) (.seq (.block 1 (.q [.m 14 0,.m 15 7,.I 16 1 14 15,.l 17 16,.s 18 17,.m 19 2,.c 20 .gtr 3 18 19] (.cond (.t 20) (.q [.F 6] .ret) .skip))) (.ops [.m 12 7,.b 13 .add 3 12 1,.m 7 13])))))) (.q [.m 21 0,.s 22 21,.m 23 1,.c 24 .leq 3 22 23,.m 6 24] .ret)))
def r_kit_LightNats:M4 Tryz.prog 17=some ⟨25,z9e.r,[.tmp 6]⟩:=Aa
def z8q(l:List (List UInt64))(n m:Int)(I:l.length≤9223372036854775807):M0 17 [LN l,.i n,.i m] (.bool (decide (l.length≤n∧∀x∈l,(x.length:Int)≤m))) []:=by
 refine Nf.val rfl (M2 r_kit_LightNats Aa (by simp) ?_);simp[z9e];refine Nm (λF H K N=>∃i:Nat,H=[]∧N+i=l.length∧lk F 0=LN l∧lk F 1=.i n∧lk F 2=.i m∧lk F 7=.i i∧∀x∈l.take i,(x.length:Int)≤m) (N:=l.length) ⟨0,by simp⟩ ?_;rintro N F H K ⟨i,rfl,L,j,z,B,C,hm⟩ M D;by_cases O:N=0
 ·have hi:i=l.length:=J
  subst hi;rw[Ma]at hm;simp[j,z,C];exact λ_=>hm
 ·have hi:i<l.length:=J
  by_cases A:m<((l.getD i []).length:Int)
  ·have G:¬(l.length≤n∧∀x∈l,(x.length:Int)≤m):=λh=>by
    have:=h.2 (l.getD i []) (by simp[hi]);omega
   simp[hi]at A;simp[j,z,B,C,hi,A];simpa using G
  ·have E:∀x∈l.take (i+1),(x.length:Int)≤m:=by
    intro x g;rw[Le hi]at g;rcases Iy.1 g with h|h
    ·exact hm x h
    ·simp at h;subst h;simpa [hi] using A
   simp[hi]at A;have g:¬m<(l[i].length:Int):=J
   simp[j,z,B,C,hi,g];exact⟨J,D _ _ _ ⟨N-1,J,i+1,rfl,J,Av,Ar,Al,by simp,E⟩⟩







def RV(g:Mu)(v:LV)(l:List UInt64):Prop:=v=LU l∨(v=.nilSl∧l=[])∨∃q st,v=.dy q 0∧g[q]?=some (.dyn (l.map .u) l.length 1 0 st)
def z9y:LC:=(.q [.x 2 0,.e 4] (.seq (.q [.L 8 3 2,.w 9 43 8,.b 10 .neq 35 9 0] (.cond (.t 10) (.q [.e 4] .ret) .skip)) (.q [.e 5] (.seq (.q [.f 11 0 2,.l 12 11,.s 13 12,.K 14 0] (.block 0 (.loop (.q [.c 15 .lss 3 14 13] (.seq (.cond (.t 15) .skip (.exit 0)) (.seq (.block 1 (.q [.m 16 14,.I 17 3 12 14,.L 18 3 17,.z 7 (.alloc [(.i 0),(.bool false),(.i 0)]),.m 6 16,.S 3 7 18] (.q [.m 19 1,.L 20 3 7,.z 21 (.callV (.t 19) [.t 20])] (.cond (.t 21) (.ops [.m 22 5,.m 23 6,.z 24 (.buildSl 1 1 [(.i 0)] [(0,1,.t 23)]),.a 25 1 22 24,.m 5 25]) .skip)))) (.ops [.b 26 .add 3 14 1,.m 14 26]))))))) (.q [.m 27 5,.m 4 27] .ret)))))
def r_lengths_those:M4 Tryz.prog 146=some ⟨28,z9y.r,[.tmp 4]⟩:=Aa
def zee:LC:=(.q [.x 1 0,.e 2] (.q [.L 3 3 1,.z 4 (.w 146 [.t 3,(.c (.fn (.func 75) [] []))]),.m 2 4] .ret))
def r_lengths_In:M4 Tryz.prog 110=some ⟨5,zee.r,[.tmp 2]⟩:=Aa
def Oa(l:List Nat):List LV:=l.map λn:Nat=>.i n
def bc(l:List Nat):dats (Oa l)=true:=Wi (λ_=>rfl) l
def qv{l:List Nat}{j:Nat}(h:j<l.length):(Oa l)[j]?=some (.i (l.getD j 0)):=by
 simp[Oa,H9,h]
def Y3(g:List Vr)(j z:List Ko)(f:Nat)(p:Vr→Bool)(Y:∀v:Vr,M0 f [.agg v.f] (.bool (p v)) [])(H:g.length≤9223372036854775807) :
  Qi 146 [.agg (Mt g j z),.fn (.func f) [] []] (.lst (Oa (if M3 g j z=true then On p g g.length else [])) (if M3 g j z=true then On p g g.length else []).length 1):=by
 have I:dats (Mt g j z)=true:=Af
 refine S0.mk Dv (M2 r_lengths_those Aa (by simp) ?_);have K:(Mt g j z).length=3:=rfl;have L:(Mt g j z).take 3=Mt g j z:=rfl;simp[z9y,K,L];refine M5 (te g j z H) (bors_self _ Er) ?_;cases M:M3 g j z with
 |false=>simp[Np,M,Oc,bor,Oa]
 |true =>
 have Z:g.length≤256:=by
  have h:=M;unfold M3 at h;simp only[H7]at h;exact (ks h.1).2
 simp[Np,M,Mt];refine Nm (λT gD gg X=>∃(i:Nat) (v:LV),gD=[]∧X+i=g.length∧lk T 1=.fn (.func f) [] []∧lk T 5=v∧lk T 12=.lst (Nb g) g.length 3∧lk T 13=.i g.length∧lk T 14=.i i∧0<gg.length∧Rw 1 gg v 1 (On p g i).length (Oa (On p g i))) (N:=g.length)
  ⟨0,.nilSl,rfl,J,by simp,by simp,by simp,by simp,by simp,by simp,Dp⟩ ?_
 rintro X T gD gg ⟨i,v,rfl,hN,O,P,A,B,C,hl,G⟩ Nx F;have gj:=x5 p g i;by_cases gB:i<g.length
 ·have q3:=U4 (Qa gB);have Q:=S6 gB;have D:(gv g i).f=[.i (gv g i).limbs,.bool (gv g i).sec,.i (gv g i).mode]:=rfl;have E:=ji p g i;have R:=Y (gv g i);generalize gv g i=x at *;simp[O,A,B,C,gB,q3,Q,D];rw[←D];refine M5 R (bors_self _ (by simp[dats,LV.dat,D])) ?_;cases U:p x with
  |false =>
   simp[C];rw[U]at E;simp at E;refine⟨J,F _ _ _ ⟨X-1,J,i+1,v,rfl,J,B3,Ba,Ae,Al,by simp,by simp,by rw[E];exact G.push_end⟩⟩
  |true =>
   simp[P];rw[U]at E;simp at E;refine Rw.push (m:=1) (x:=[.i i]) G.push_end J (by simp) J rfl λv' G' S gC V=>?_
   simp[C];refine⟨J,F _ _ _ ⟨X-1,J,i+1,v',rfl,J,B3,by simp,Ae,Al,by simp,J,?_⟩⟩;rw[E];simpa [Oa] using S
 ·have hi:i=g.length:=J
  subst hi;simp[P,A,B,C];have V:=G.bor (bc _);rcases G with ⟨rfl,_⟩|⟨p,k,st,_,rfl,_,_⟩<;>exact V
def zjh(vs:List Vr)(g j:List Ko)(z:vs.length≤9223372036854775807):Qi 110 [.agg (Mt vs g j)] (.lst (Oa (U0 vs g j)) (U0 vs g j).length 1):=by
 have A:dats (Mt vs g j)=true:=Af
 refine S0.mk Dv (M2 r_lengths_In Aa N ?_);have B:(Mt vs g j).length=3:=rfl;have C:(Mt vs g j).take 3=Mt vs g j:=rfl;simp[zee,B,C];refine Rj (Y3 vs g j _ Ny (λv=>z5s v) z) (by simp[dats,LV.dat,A]) ?_;simp[Oc,bor,LV.dat,bc,U0,iw]

section
section
variable {l w : Int} {n : UInt64} {a b c : Nat}
end
end
def zcw:LC:=(.q [.x 2 0,.K 4 0] (.seq (.q [.L 9 3 2,.w 10 43 9,.m 5 10] (.q [.m 11 5,.b 12 .neq 35 11 0] (.cond (.t 12) (.q [.m 13 5,.m 4 13] .ret) .skip))) (.q [.L 14 3 2,.w 15 110 14,.m 6 15] (.seq (.q [.m 16 6,.s 17 16,.m 18 1,.s 19 18,.c 20 .neq 3 17 19] (.cond (.t 20) (.q [.K 4 2] .ret) .skip)) (.seq (.q [.m 21 6,.s 22 21,.K 23 0] (.block 0 (.loop (.q [.c 24 .lss 3 23 22] (.seq (.cond (.t 24) .skip (.exit 0)) (.seq (.block 1 (.q [.m 25 23,.I 26 1 21 23,.l 27 26,.m 7 25,.m 8 27] (.seq (.draw [(.m 28 1,[]),(.m 29 7,[]),(.I 30 1 28 29,[]),(.l 31 30,[]),(.f 34 0 2,[]),(.l 35 34,[]),(.m 36 8,[]),(.I 37 3 35 36,[]),(.f 38 0 37,[]),(.l 39 38,[]),(.w 32 66 31,[(.l 39 38,false),(.l 35 34,false)]),(.s 33 32,[]),(.c 40 .gtr 3 33 39,[])]) (.cond (.t 40) (.q [.K 4 3] .ret) .skip)))) (.ops [.b 41 .add 3 23 1,.m 23 41]))))))) (.q [.K 4 0] .ret))))))
def r_denote_Fits:M4 Tryz.prog 60=some ⟨42,zcw.r,[.tmp 4]⟩:=Aa
def wt(l:List (List UInt64)):dats (l.map LU)=true:=Wi (λ_=>Xp _) l
def wn{l:List (List UInt64)}{i:Nat}(h:i<l.length):(l.map LU)[i]?=some (LU (l.getD i [])):=by
 simp[H9,h]
def zkh{l:List (List UInt64)}{i:Nat}:(l.map val).getD i 0=val (l.getD i []):=by
 by_cases h:i<l.length
 ·simp[H9,h]
 ·simp[H9,h,val]
def Tq{l:List (List UInt64)}{m:Nat}(hi:∀x∈l,x.length≤m)(i:Nat):(l.getD i []).length≤m:=by
 by_cases h:i<l.length
 ·rw[H9,H8 h];exact hi _ (K3 h)
 ·simp[H9,h]
def ip(vs:List Vr)(B C:List Ko)(g:List (List UInt64))(O:vs.length≤9223372036854775807)(hi:∀x∈g,x.length≤1000) :
  M0 60 [.agg (Mt vs B C),LN g] (.i (Pu vs B C (g.map val))) []:=by
 have P:dats (Mt vs B C)=true:=Af
 refine Nf.val rfl (M2 r_denote_Fits Aa (by simp) ?_);have Q:(Mt vs B C).length=3:=rfl;have R:(Mt vs B C).take 3=Mt vs B C:=rfl;simp[zcw,Q,R];refine M5 (te vs B C O) (bors_self _ (by simp[dats,LV.dat,P])) ?_;cases G:M3 vs B C with
 |false=>simp[Np,G,Pu]
 |true =>
 simp[Np,G,Q,R];refine Rj (zjh vs B C O) (by simp[dats,LV.dat,P]) ?_;have hz:U0 vs B C=Sv.inV vs:=by simp[U0,G]
 have hv:Ps vs=true:=by unfold M3 at G;simp only[H7]at G;exact G.1
 have gG:vs.length≤256:=(ks hv).2;have gH:=Sv.inV_len vs;rw[hz];by_cases S:(Sv.inV vs).length=g.length
 case neg =>
  have L:¬((Sv.inV vs).length:Int)=g.length:=J
  simp[LN,S,L,Pu,G]
 have L:(Sv.inV vs).length=(g.map val).length:=by simpa using S
 have K:=zcy L;simp[LN,S];refine Nm (λρ gK gI N=>∃i:Nat,gK=[]∧N+i=g.length∧lk ρ 1=.lst (g.map LU) g.length 1∧lk ρ 2=.ptr 0 0∧lk ρ 21=.lst (Oa (Sv.inV vs)) g.length 1∧lk ρ 22=.i g.length∧lk ρ 23=.i i∧0<gI.length∧gI[0]?=some (.cells (Mt vs B C) 0)∧∀V,V<i→(g.map val).getD V 0<Y8 (gv vs ((Sv.inV vs).getD V 0)).limbs) (N:=g.length)
  ⟨0,rfl,J,by simp,by simp,by simp,by simp,by simp,by simp,Cu,λV hj=>J⟩ ?_
 rintro N ρ gK gI ⟨i,rfl,hN,X,Y,D,E,H,hl,Z,hb⟩ Nx gg;by_cases gF:i<g.length
 ·have hx:=wn gF;have gj:=Tq hi i;have T:(g.map val).getD i 0=val (g.getD i []):=zkh;have q1:=qv (l:=Sv.inV vs) (j:=i) J;have A:=Ww (vs:=vs) (j:=i) J;have I:(g.map val).getD i 0<Y8 (gv vs ((Sv.inV vs).getD i 0)).limbs↔((Ow (val (g.getD i []))).length:Int)≤(gv vs ((Sv.inV vs).getD i 0)).limbs:=by
   rw[T];have:=(Wd hv _ (X9 A)).1;exact (zjs _ _ J).symm
  obtain⟨u,hu⟩:∃u,(Sv.inV vs).getD i 0=u:=⟨_,rfl⟩;obtain⟨x,U⟩:∃x,g.getD i []=x:=⟨_,rfl⟩;rw[hu]at q1 A I;rw[U]at hx gj T I;have gB:g[i]=x:=by rw[←U];simp[gF]
  have q0:=bn (Qa A);simp[X,Y,D,E,H,gF,Z,Mt,Mx q1,Mx hx,A,Mx q0];refine M5 (zbe x J) (by simp[gB]) ?_;have next:∀M G',lk M 1=.lst (g.map LU) g.length 1→lk M 2=.ptr 0 0→lk M 21=.lst (Oa (Sv.inV vs)) g.length 1→lk M 22=.i g.length→lk M 23=.i ((i:Int)+1)→0<G'.length→G'[0]?=some (.cells (Mt vs B C) 0)→((Ow (val x)).length:Int)≤(gv vs u).limbs→Nx M [] G':=by
   intro M G' a1 a2 gC gD gE b1 b2 b3;refine gg _ _ _ ⟨N-1,J,i+1,rfl,J,a1,a2,gC,gD,by rw[gE];simp,b1,b2,λV hj=>?_⟩;by_cases e:V=i
   ·subst e;rw[hu];exact I.2 b3
   ·exact hb V J
  by_cases F:((Ow (val x)).length:Int)≤(gv vs u).limbs
  ·have z:¬(gv vs u).limbs<((Ow (val x)).length:Int):=J
   simp[RU,X,Y,D,E,H,Z,Mt,Mx q0,A,z];refine⟨J,next _ _ Dk Bl Be Aq (by simp) hl Z F⟩
  ·have z:(gv vs u).limbs<((Ow (val x)).length:Int):=J
   have hf:dv vs (g.map val)=false:=by
    rw[Bool.eq_false_iff];intro h;have:=K.1 h i (by simpa using gF);rw[hu]at this;exact F (I.1 this)
   simp[RU,X,Y,D,E,H,Z,Mt,Mx q0,A,z,Pu,G,S,hf]
 ·have hf:dv vs (g.map val)=true:=K.2 λV hj=>hb V (by simp at hj;omega)
  simp[D,E,H,gF,Pu,G,S,hf]
section
set_option linter.unusedVariables false
def z2r:LC:=(.q [.e 4] (.seq (.q [.m 9 1,.b 10 .lss 3 9 0] (.cond (.t 10) .stuck .skip)) (.q [.m 13 0,.s 14 13,.z 15 (.cvInt .u64 (.t 14)),.m 16 1,.z 17 (.cvInt .u64 (.t 16)),.W 18 111 15 17,.m 12 18,.X 19 0 12,.X 20 1 12,.m 5 19,.m 6 20] (.seq (.q [.m 21 5,.u 22 .gtr 110 21 0,.m 23 22,.mn 24 23 6,.n 25 23 (.bin .gtr true 110 (.t 24) (.c (.u 9223372036854775807))),.p 26 23 25] (.cond (.t 26) .stuck .skip)) (.q [.m 28 6,.z 29 (.cvInt .i64 (.t 28)),.z 30 (.mkSl 1 [(.u 0)] (.t 29) (.t 29)),.m 7 30] (.q [.m 31 7,.m 32 0,.z 33 (.copy 1 (.t 31) (.t 32)),.m 8 33] (.seq (.block 0 (.loop (.seq (.q [.m 34 8,.m 35 7,.s 36 35,.c 37 .lss 3 34 36] (.cond (.t 37) .skip (.exit 0))) (.block 1 (.draw [(.m 38 8,[]),(.m 39 7,[]),(.m 40 8,[]),(.z 41 (.slSl 1 (.t 39) (some (.t 40)) none),[]),(.m 42 7,[]),(.m 43 8,[]),(.z 44 (.slSl 1 (.t 42) none (some (.t 43))),[]),(.z 45 (.copy 1 (.t 41) (.t 44)),[]),(.c 46 .add 3 38 45,[]),(.m 8 46,[])]))))) (.q [.m 47 7,.m 4 47] .ret))))))))
def r_slices_Repeat_uint64_uint64:M4 Tryz.prog 62=some ⟨48,z2r.r,[.tmp 4]⟩:=Aa
def zat:LC:=(.q [.x 4 0,.x 5 1,.e 8,.K 9 0] (.seq (.q [.L 18 3 4,.L 19 8 5,.W 20 13 18 19,.m 10 20] (.q [.m 21 10,.b 22 .neq 35 21 0] (.cond (.t 22) (.q [.m 23 10,.e 8,.m 9 23] .ret) .skip))) (.seq (.q [.L 24 3 4,.m 25 2,.W 26 60 24 25,.m 11 26] (.q [.m 27 11,.b 28 .neq 35 27 0] (.cond (.t 28) (.q [.m 29 11,.e 8,.m 9 29] .ret) .skip))) (.q [.f 30 0 5,.l 31 30,.s 32 31,.z 33 (.mkSl 1 [.nilSl] (.t 32) (.t 32)),.m 12 33] (.seq (.q [.f 34 0 4,.l 35 34,.s 36 35,.K 37 0] (.block 0 (.loop (.q [.c 38 .lss 3 37 36] (.seq (.cond (.t 38) .skip (.exit 0)) (.seq (.block 1 (.q [.m 39 37,.I 40 3 35 37,.L 41 3 40,.z 14 (.alloc [(.i 0),(.bool false),(.i 0)]),.m 13 39,.S 3 14 41] (.q [.f 42 1 5,.l 43 42,.m 44 13,.I 45 3 43 44,.L 46 3 45,.z 15 (.alloc [(.i 0),(.i 0),(.i 0)]),.S 3 15 46] (.q [.f 47 2 14,.l 48 47] (.block 2 (.seq (.q [.b 50 .eql 3 48 1,.m 49 50] (.cond (.t 49) .skip (.ops [.b 51 .eql 3 48 2,.m 49 51]))) (.cond (.t 49) (.seq (.draw [(.m 53 2,[]),(.z 54 (.ixAddr 1 (.t 53) (.k 0)),[]),(.l 55 54,[]),(.f 56 2 15,[]),(.l 57 56,[]),(.W 58 61 55 57,[]),(.m 52 58,[]),(.X 59 0 52,[]),(.X 60 1 52,[]),(.m 16 59,[]),(.m 17 60,[])]) (.seq (.q [.m 61 17,.b 62 .neq 35 61 0] (.cond (.t 62) (.q [.m 63 17,.e 8,.m 9 63] .ret) .skip)) (.draw [(.m 64 12,[]),(.f 65 0 15,[]),(.l 66 65,[]),(.m 67 16,[]),(.m 68 2,[]),(.z 69 (.slSl 1 (.t 68) (some (.k 1)) none),[]),(.I 70 1 64 66,[]),(.S 1 70 67,[]),(.m 2 69,[])]))) (.q [.b 72 .eql 3 48 3,.m 71 72] (.cond (.t 71) (.draw [(.m 73 12,[]),(.f 74 0 15,[]),(.l 75 74,[]),(.m 76 3,[]),(.z 77 (.buildSl 1 1 [(.u 0)] [(0,1,.t 76)]),[(.l 75 74,false)]),(.f 78 2 15,[]),(.l 79 78,[]),(.W 80 62 77 79,[(.l 75 74,false)]),(.I 81 1 73 75,[]),(.S 1 81 80,[])]) .skip))))))))) (.ops [.b 82 .add 3 37 1,.m 37 82]))))))) (.q [.m 83 12,.m 8 83,.K 9 0] .ret))))))
def r_marshal_Rows:M4 Tryz.prog 18=some ⟨84,zat.r,[.tmp 8,.tmp 9]⟩:=Aa
def Ql(x:UInt64)(n c:Nat):List LV:=(List.replicate c x++List.replicate (n-c) 0).map LV.u
def Xx(x:UInt64){n c:Nat}(h:c≤n):(Ql x n c).length=n:=by simp[Ql];omega
def Yv(x:UInt64){n c m:Nat}(hm:m≤c):Nh (Ql x n c) c (((Ql x n c).take c).take m)=Ql x n (c+m):=by
 have g:(Ql x n c).take c=(List.replicate c x).map LV.u:=by
  unfold Ql;rw[Js,K7 N]
 rw[g,←Lr,List.take_replicate,Jr hm];unfold Nh;rw[g];have j:(Ql x n c).drop (c+((List.replicate m x).map LV.u).length)=(List.replicate (n-(c+m)) (0:UInt64)).map LV.u:=by
  unfold Ql;rw[Js,List.length_map,List.length_replicate,←Kh,List.drop_left' N,←List.map_drop,List.drop_replicate]
  congr 2;omega
 rw[j];unfold Ql;rw[←Js,←Js,Kj]
def zv7(x:UInt64)(n:Nat):Ql x n n=(List.replicate n x).map LV.u:=by simp[Ql]
def Ym(x:UInt64)(n:Nat):List.take (min 1 n) [LV.u x]++List.drop (min 1 n) (Na [LV.u 0] n)=Ql x n (min 1 n):=by
 have e:∀n,Na [LV.u 0] n=(List.replicate n (0:UInt64)).map LV.u:=by
  intro n
  induction n with
  |zero=>rfl
  |succ n g=>simp[Na,g,J0]
 rw[e];cases n with
 |zero=>simp[Ql]
 |succ n=>simp[Ql,(J:min 1 (n+1)=1),J0]
def znk(x:UInt64)(n:Nat)(R:n≤1000000):M0 62 [LU [x],.i n] (.dy 0 0) [RU (List.replicate n x)]:=by
 refine Nf.row (M2 r_slices_Repeat_uint64_uint64 Aa (by simp) ?_);have I:¬(n:Int)<0:=J
 simp[z2r,I];have E:(iU 1).toNat=1:=vg (n:=1) J;have un:(iU (n:Int)).toNat=n:=vg J;have z:dg (iU 1) (iU (n:Int))=0:=by
  apply Jm.1;rw[dg,E,un,Jq,(J:1*n/18446744073709551616=0)];rfl
 have A:iU 1*iU (n:Int)=iU (n:Int):=by
  apply Jm.1;rw[UInt64.toNat_mul,E,un];omega
 have B:¬9223372036854775807<iU (n:Int):=by
  rw[Ll,un];show ¬9223372036854775807<n;omega
 refine M5 (Xl (iU 1) (iU (n:Int))) (by simp) ?_;simp[z,A,B,un];refine⟨J,J,?_⟩;refine Nm (λL Q F M=>∃(c g:Nat),Q=[]∧F=[.dyn (Ql x n c) n 1 0 g]∧M+c=n∧(c=0→n=0)∧lk L 7=.dy 0 0∧lk L 8=.i c) (N:=n-min 1 n) ⟨min 1 n,1,rfl,by rw[←Ym],J,J,by simp,by simp⟩ ?_;rintro M L Q F ⟨c,g,rfl,rfl,S,O,C,H⟩ T D;by_cases U:c<n
 ·simp[C,H,U];have P:=Xx x (n:=n) (c:=c) J;have j:=Yv x (n:=n) (c:=c) (m:=min c (n-c)) J
  repeat (refine⟨J,?_⟩)
  refine D _ _ _ ⟨M-min c (n-c),J,c+min c (n-c),g+1,rfl,?_,J,J,Ad,by simp⟩;rw[←j]
 ·have:c=n:=J
  subst this;simp[C,H];exact .inr ⟨0,0,g,rfl,by rw[←zv7];simp⟩
def zkx(x:UInt64)(n:Int)(h:0≤n∧n≤1000000):M0 62 [LU [x],.i n] (.dy 0 0) [RU (List.replicate n.toNat x)]:=by
 obtain⟨m,rfl⟩:=Ip h.1;exact znk x m J
section rows
variable {G : Mu} {K : LV → Mu → Prop} {vs : List Vr} {os rs : List Ko} {bs : List Bf} {ps : List Pc} {w0 w1 : Pc} {base : Nat} {f : Fr Ko} {ins : List (List UInt64)} {fill : UInt64}
def T2(vs:List Vr)(i:Nat):Nat:=(On Ny vs i).length
def zeg(jI:vs.length≤100000)(hc:M3 vs os rs=true)(gU:(R0 vs os).2=true)(hM:MadeF vs os bs ps w0 w1 base f)(hi:∀x∈ins,x.length≤1000)(jK:ins.length≤1000)
  (k1:Pu vs os rs (ins.map val)≠0→∀z,G.length≤z.length→(∀I,I<G.length→z[I]?=G[I]?)→K (.tup [.nilSl,.i (Pu vs os rs (ins.map val))]) z)
  (k0:Pu vs os rs (ins.map val)=0→∀z q gK st Q,RowsM vs base fill ins Q→G.length≤q→z[q]?=some (.dyn (Q.map LU) bs.length 1 gK st)→G.length≤z.length→(∀I,I<G.length→z[I]?=G[I]?)→K (.tup [.dy q gK,.i 0]) z) :
  O0 (.fn 18) [.agg (Mt vs os rs),.agg (Nc bs ps w0 w1),LN ins,.u fill] G K:=by
 have gL:dats (Mt vs os rs)=true:=Af
 have gM:(Mt vs os rs).length=3:=rfl;have gO:(Mt vs os rs).take 3=Mt vs os rs:=rfl;have gV:(Nc bs ps w0 w1).length=8:=rfl;have gX:(Nc bs ps w0 w1).take 8=Nc bs ps w0 w1:=rfl;have B:Nc bs ps w0 w1=[.lst (Ok bs) bs.length 3,.lst (N0 ps) ps.length 3,.i w0.buf,.i w0.at_,.i w0.size,.i w1.buf,.i w1.at_,.i w1.size]:=rfl;have hv:Ps vs=true:=Ce
 have gY:∀i,i<vs.length→1≤(gv vs i).limbs∧(gv vs i).limbs≤512∧0≤(gv vs i).mode∧(gv vs i).mode≤3:=λi hi=>Wd hv _ (X9 hi)
 have jL:=hM.bl;have jM:=hM.bb;refine M2 r_marshal_Rows Aa (by simp) ?_;obtain⟨R,L⟩:∃R,R=G++[LObj.cells (Mt vs os rs) 0,LObj.cells (Nc bs ps w0 w1) 0]:=⟨_,rfl⟩;have o1:∀x,x<G.length→R[x]?=G[x]?:=λx hx=>by rw[L];exact Ib hx
 have l1:R.length=G.length+2:=by rw[L];simp
 have a1:R[G.length]?=some (.cells (Mt vs os rs) 0):=by rw[L];simp
 have b1:R[G.length+1]?=some (.cells (Nc bs ps w0 w1) 0):=by rw[L];simp
 simp[zat];rw[←L];simp[a1,b1,gM,gO,gV,gX];refine M5 (z8o J hc gU hM (λv gZ=>(Wd hv v gZ).2.2.1)) (bors_self _ (by simp[dats,LV.dat,gL,fe])) ?_;simp[a1,gM,gO];refine M5 (ip vs os rs ins J hi) (bors_self _ (by simp[dats,LV.dat,gL,LN,wt])) ?_;by_cases g:Pu vs os rs (ins.map val)=0
 case neg =>
  simp[g];exact k1 g R J o1
 have k0:=k0 g;have gC:(Sv.inV vs).length=ins.length:=by
  unfold Pu at g;rw[Ih hc]at g;split at g
  ·rename_i h;simpa using h
  ·omega
 have gD:∀H,H<ins.length→val (ins.getD H [])<Y8 (gv vs ((Sv.inV vs).getD H 0)).limbs:=by
  have T:dv vs (ins.map val)=true:=by
   unfold Pu at g;rw[Ih hc,Ih Eb]at g;split at g
   ·assumption
   ·omega
  have:=(zcy (ns:=ins.map val) Eb).1 T;intro H hj;have:=this H (by simpa using hj)
  rwa [zkh]at this
 simp[g,b1,a1,B,Mt];refine⟨J,?_⟩;obtain⟨G2,U⟩:∃G2,G2=R++[LObj.dyn (Na [LV.nilSl] bs.length) bs.length 1 0 0]:=⟨_,rfl⟩;have o2:∀x,x<R.length→G2[x]?=R[x]?:=λx hx=>by rw[U];exact Ib hx
 have l2:G2.length=G.length+3:=by rw[U];simp;omega
 have r2:G2[G.length+2]?=some (.dyn (Na [LV.nilSl] bs.length) bs.length 1 0 0):=by rw[U,←l1];simp
 have a2:=(o2 _ J).trans a1;have b2:=(o2 _ J).trans b1;rw[←U,l1];simp[a2,Mt];refine cm r2 (λc r h=>zqc _ _ h) ?_;obtain⟨G3,V⟩:∃G3,G3=G2.set (G.length+2) (.dyn (List.replicate bs.length (.lst [] 0 1)) bs.length 1 0 (0+1)):=⟨_,rfl⟩;have o3:∀x,x≠G.length+2→G3[x]?=G2[x]?:=λx hx=>by rw[V,H6 (λe=>hx e.symm)]
 have l3:G3.length=G.length+3:=by rw[V,J2,l2]
 have r3:G3[G.length+2]?=some (.dyn ((List.replicate bs.length ([]:List UInt64)).map LU) bs.length 1 0 (0+1)):=by
  rw[V,Ia J];simp[LU]
 have b3:=(o3 _ J).trans b2;rw[←V];have g8:∀i,i<vs.length→Ny (gv vs i)=true→T2 vs i<ins.length∧(Sv.inV vs).getD (T2 vs i) 0=i:=λi g9 hg=>by
  have:=those_at (p:=Ny) (vs:=vs) vs.length i g9 hg;rw[←iw,gC]at this;exact this
 refine Nm (λρ jT z N=>∃(i:Nat) (Q:List (List UInt64)) (st:Nat),jT=[]∧N+i=vs.length∧lk ρ 2=LN (ins.drop (T2 vs i))∧lk ρ 3=.u fill∧lk ρ 5=.ptr (G.length+1) 0∧lk ρ 12=.dy (G.length+2) 0∧lk ρ 35=.lst (Nb vs) vs.length 3∧lk ρ 36=.i vs.length∧lk ρ 37=.i i ∧
   z[G.length+1]?=some (.cells (Nc bs ps w0 w1) 0)∧z[G.length+2]?=some (.dyn (Q.map LU) bs.length 1 0 st)∧Q.length=bs.length∧(∀H,H<i→H<base→Q.getD H []=Qw vs fill ins H)∧(∀H,(i≤H∨base≤H)→Q.getD H []=[])∧(∀I,I<G.length→z[I]?=G[I]?)∧G.length+3≤z.length)
  (N:=vs.length) ⟨0,List.replicate bs.length [],0+1,rfl,J,by simp[T2,On,LN],by simp,by simp,by simp,by simp,by simp,by simp,b3,r3,by simp,λH hj=>J,λH _=>by simp[H9,List.getElem?_replicate];split<;>rfl,λI X=>by rw[o3 I J,o2 I J,o1 I X],J⟩ ?_
 rintro N ρ jT z ⟨i,Q,st,rfl,hN,T,h3,h5,j,C,A,D,bb,rr,M,gE,gF,ho,jO⟩ Nx gP;by_cases gQ:i<vs.length
 case neg =>
  simp[j,A,D,gQ];have jP:i=vs.length:=J
  exact k0 z _ _ st Q ⟨J,λH hj=>gE H J hj,λH hj=>gF H (.inr hj)⟩ J rr J ho
 have q3:=U4 (Qa gQ);have Y:=S6 gQ;have Z:(gv vs i).f=[.i (gv vs i).limbs,.bool (gv vs i).sec,.i (gv vs i).mode]:=rfl;have gp:i<ps.length:=by rw[hM.pl];exact gQ
 have p3:=om (Wm gp);have gg:=T6 gp;have gG:(N4 ps i).f=[.i (N4 ps i).buf,.i (N4 ps i).at_,.i (N4 ps i).size]:=rfl;have gR:=hM.mode i gQ;have jg:=hM.sz i gp;have gS:=hM.par i;obtain⟨v1,v2,v3,v4⟩:=gY i gQ;have jz:=g8 i gQ;have F:T2 vs (i+1)=T2 vs i+if Ny (gv vs i)=true then 1 else 0:=by
  unfold T2;rw[ji,Il];split<;>simp
 have E:Qw vs fill ins i=if (gv vs i).mode=3 then List.replicate (gv vs i).limbs.toNat fill else Nr (ins.getD (T2 vs i) []) (gv vs i).limbs:=rfl
 have S:G.length+1<z.length:=J
 have lr:G.length+2<z.length:=J
 by_cases m0:(gv vs i).mode=0
 ·have hg:Ny (gv vs i)=false:=by simp[Ny,m0]
  rw[Ig (by rw[hg];decide)]at F;have jQ:=gR.1 m0;simp[h5,C,A,D,gQ,q3,Y,Z,m0,↓Mv S,bb,B,gp,p3,gg,gG];exact⟨J,gP _ _ _ ⟨N-1,J,i+1,Q,st,rfl,J,by simp[T,F],E6,Bs,Av,Ad,Ae,by simp,by rw[Mv S];exact bb,by rw[Mv lr];exact rr,M,λH h1 T=>gE H J T,λH h1=>gF H J,λI X=>by rw[Mv J];exact ho I X,Ab⟩⟩
 have jA:i<base:=by
  have:¬base≤i:=λq=>m0 (gR.2 q)
  omega
 have jB:=gS jA;rw[jB]at gG jg p3;rw[gG]at p3;have O:i<bs.length:=J
 have next:∀ρ' G4 (gB:List UInt64) gH,gB=Qw vs fill ins i→lk ρ' 2=LN (ins.drop (T2 vs (i+1)))→lk ρ' 3=.u fill→lk ρ' 5=.ptr (G.length+1) 0→lk ρ' 12=.dy (G.length+2) 0→lk ρ' 35=.lst (Nb vs) vs.length 3→lk ρ' 36=.i vs.length→lk ρ' 37=.i ((i:Int)+1) →
   G4[G.length+1]?=some (.cells (Nc bs ps w0 w1) 0)→G4[G.length+2]?=some (.dyn ((Q.set i gB).map LU) bs.length 1 0 gH)→(∀I,I<G.length→G4[I]?=G[I]?)→G.length+3≤G4.length→Nx ρ' [] G4:=by
  rintro ρ' G4 gB gH rfl c2 c3 c5 jC jD jE jF c1 cr cf cl;refine gP _ _ _ ⟨N-1,J,i+1,Q.set i (Qw vs fill ins i),gH,rfl,J,c2,c3,c5,jC,jD,jE,by rw[jF];simp,c1,cr,Eu,λH h1 T=>?_,λH h1=>?_,cf,cl⟩
  ·rw[zd9 _ _ _ _ _ J];by_cases e:H=i
   ·rw[Ih e,e]
   ·rw[Ig e];exact gE H J T
  ·rw[zd9 _ _ _ _ _ J,Ig J];exact gF H J
 have P:∀gB:List UInt64,Nh (Q.map LU) i [LU gB]=(Q.set i gB).map LU:=λgB=>tl LU Q i gB J
 by_cases m3:(gv vs i).mode=3
 ·have hg:Ny (gv vs i)=false:=by simp[Ny,m3]
  rw[Ig (by rw[hg];decide)]at F;rw[Ih m3]at E;simp[h3,h5,j,C,A,D,gQ,q3,Y,Z,m3,↓Mv S,↓Mv lr,bb,rr,B,gp,p3,gg];have jR:z.length+2<(z++[LObj.cells [LV.i (gv vs i).limbs,LV.bool (gv vs i).sec,LV.i 3] 1,LObj.cells [LV.i (i:Int),LV.i 0,LV.i (gv vs i).limbs] 1,LObj.dyn [LV.u fill] 1 1 0 0]).length:=by simp
  refine M5 (zkx fill (gv vs i).limbs J) ⟨_,_,rfl,⟨[.u fill],1,1,0,rfl,by simp,rfl⟩,bors_self _ rfl⟩ ?_;have jG:frV [RU (List.replicate (gv vs i).limbs.toNat fill)] (.dy 0 0)=LU (List.replicate (gv vs i).limbs.toNat fill):=by simp[RU,LU]
  rw[jG];simp[↓Mv lr,rr,O,M,D];rw[show Nh (Q.map LU) i [LV.lst (List.replicate (gv vs i).limbs.toNat (LV.u fill)) (gv vs i).limbs.toNat 1]=(Q.set i (List.replicate (gv vs i).limbs.toNat fill)).map LU by rw[←P];simp[LU]]
  repeat (refine⟨J,?_⟩)
  refine next _ _ _ (st+1) E.symm (by simp[T,F]) E6 Bs Av Ad Ae (by simp) ?_ ?_ (λI X=>?_) Ab
  ·rw[H6 J,Mv S];exact bb
  ·exact Ia Ab
  ·rw[H6 J,Mv J];exact ho I X
 ·have hg:Ny (gv vs i)=true:=by simp[Ny];omega
  rw[Ih hg]at F;rw[Ig m3]at E;obtain⟨gI,jH⟩:=jz hg;have gT:Nz (ins.getD (T2 vs i) []) (gv vs i).limbs=0:=xi ⟨v1,v2⟩ (by have:=gD _ gI;rwa [jH]at this);have hx:(ins.drop (T2 vs i))=ins.getD (T2 vs i) []::ins.drop (T2 vs i+1):=by
   rw[Iw gI,H9,H8 gI];rfl
  have jS:=Tq hi (T2 vs i);generalize ins.getD (T2 vs i) []=x at *;have gj:lk ρ 2=.lst (LU x::(ins.drop (T2 vs i+1)).map LU) ((ins.drop (T2 vs i+1)).length+1) 1:=by rw[T,hx];simp[LN]
  rcases (J:(gv vs i).mode=1∨(gv vs i).mode=2) with m1|m1
  ·simp[gj,h3,h5,j,C,A,D,gQ,q3,Y,Z,m1,↓Mv S,↓Mv lr,bb,rr,B,gp,p3,gg];refine M5 (zij x (gv vs i).limbs J) (bors_self _ Au) ?_;rw[show frV [RU (Nr x (gv vs i).limbs)] (.tup [.dy 0 0,.i (Nz x (gv vs i).limbs)])=.tup [LU (Nr x (gv vs i).limbs),.i (Nz x (gv vs i).limbs)] from rfl,gT];generalize Nr x (gv vs i).limbs=gB at *;simp[gj,j,D,↓Mv S,↓Mv lr,rr,O,M];rw[show Nh (Q.map LU) i [LV.lst (gB.map LV.u) gB.length 1]=(Q.set i gB).map LU by rw[←P];rfl]
   repeat (refine⟨J,?_⟩)
   refine next _ _ _ (st+1) E.symm (by simp[F,LN];exact Io (by simp)) E6 Bs Av Ad Ae (by simp) ?_ ?_ (λI X=>?_) Ab
   ·rw[H6 J,Mv S];exact bb
   ·exact Ia Ab
   ·rw[H6 J,Mv J];exact ho I X
  ·simp[gj,h3,h5,j,C,A,D,gQ,q3,Y,Z,m1,↓Mv S,↓Mv lr,bb,rr,B,gp,p3,gg];refine M5 (zij x (gv vs i).limbs J) (bors_self _ Au) ?_;rw[show frV [RU (Nr x (gv vs i).limbs)] (.tup [.dy 0 0,.i (Nz x (gv vs i).limbs)])=.tup [LU (Nr x (gv vs i).limbs),.i (Nz x (gv vs i).limbs)] from rfl,gT];generalize Nr x (gv vs i).limbs=gB at *;simp[gj,j,D,↓Mv S,↓Mv lr,rr,O,M];rw[show Nh (Q.map LU) i [LV.lst (gB.map LV.u) gB.length 1]=(Q.set i gB).map LU by rw[←P];rfl]
   repeat (refine⟨J,?_⟩)
   refine next _ _ _ (st+1) E.symm (by simp[F,LN];exact Io (by simp)) E6 Bs Av Ad Ae (by simp) ?_ ?_ (λI X=>?_) Ab
   ·rw[H6 J,Mv S];exact bb
   ·exact Ia Ab
   ·rw[H6 J,Mv J];exact ho I X
end rows
end
section
set_option linter.unusedVariables false
def zd5:LC:=(.q [.x 3 0,.x 4 1,.e 6,.K 7 0] (.seq (.q [.L 12 3 3,.L 13 8 4,.W 14 13 12 13,.m 8 14] (.q [.m 15 8,.b 16 .neq 35 15 0] (.cond (.t 16) (.q [.m 17 8,.e 6,.m 7 17] .ret) .skip))) (.seq (.q [.m 18 2,.s 19 18,.f 20 0 4,.l 21 20,.s 22 21,.c 23 .neq 3 19 22] (.cond (.t 23) (.q [.e 6,.K 7 2] .ret) .skip)) (.seq (.q [.f 24 0 3,.l 25 24,.s 26 25,.K 27 0] (.block 0 (.loop (.q [.c 28 .lss 3 27 26] (.seq (.cond (.t 28) .skip (.exit 0)) (.seq (.block 1 (.q [.m 29 27,.I 30 3 25 27,.L 31 3 30,.z 10 (.alloc [(.i 0),(.bool false),(.i 0)]),.m 9 29,.S 3 10 31] (.seq (.q [.f 32 2 10,.l 33 32,.b 34 .neq 3 33 3] (.cond (.t 34) (.exit 1) .skip)) (.q [.m 35 2,.f 36 1 4,.l 37 36,.m 38 9,.I 39 3 37 38,.f 40 0 39,.l 41 40,.I 42 1 35 41,.l 43 42,.m 11 43] (.seq (.q [.m 44 11,.s 45 44,.f 46 0 10,.l 47 46,.c 48 .neq 3 45 47] (.cond (.t 48) (.q [.e 6,.K 7 2] .ret) .skip)) (.ops [.m 49 6,.m 50 11,.w 51 66 50,.z 52 (.buildSl 1 1 [.nilSl] [(0,1,.t 51)]),.a 53 1 49 52,.m 6 53])))))) (.ops [.b 54 .add 3 27 1,.m 27 54]))))))) (.q [.m 55 6,.m 6 55,.K 7 0] .ret)))))
def r_marshal_Out:M4 Tryz.prog 23=some ⟨56,zd5.r,[.tmp 6,.tmp 7]⟩:=Aa
def z4z:LC:=(.q [.x 2 0,.F 4] (.seq (.q [.m 7 1,.s 8 7,.f 9 0 2,.l 10 9,.s 11 10,.c 12 .neq 3 8 11] (.cond (.t 12) (.q [.F 4] .ret) .skip)) (.seq (.q [.f 13 0 2,.l 14 13,.s 15 14,.K 16 0] (.block 0 (.loop (.q [.c 17 .lss 3 16 15] (.seq (.cond (.t 17) .skip (.exit 0)) (.seq (.block 1 (.q [.m 18 16,.I 19 3 14 16,.L 20 3 19,.z 6 (.alloc [(.i 0),(.i 0),(.bool false)]),.m 5 18,.S 3 6 20] (.q [.f 21 1 6,.l 22 21,.b 23 .eql 3 22 3,.m 24 23,.my 25 24 1,.my 26 24 5,.y 27 24 (.ixAddr 1 (.t 25) (.t 26)),.yl 28 24 27,.y 29 24 (.w 64 [.t 28,(.c (.fn (.func 65) [] []))]),.q 30 24 29] (.cond (.t 30) (.q [.F 4] .ret) .skip)))) (.ops [.b 31 .add 3 16 1,.m 16 31]))))))) (.q [.z 4 (.move .T)] .ret))))
def r_marshal_Noughts:M4 Tryz.prog 20=some ⟨32,z4z.r,[.tmp 4]⟩:=Aa
def z6b:LC:=(.q [.F 2] (.q [.m 3 0,.u 4 .neq 43 3 0,.m 2 4] .ret))
def r_marshal_Noughts_1:M4 Tryz.prog 65=some ⟨5,z6b.r,[.tmp 2]⟩:=Aa
def z2c:LC:=(.q [.K 4 0] (.seq (.q [.m 6 0,.s 7 6,.K 8 0] (.block 0 (.loop (.q [.c 9 .lss 3 8 7] (.seq (.cond (.t 9) .skip (.exit 0)) (.seq (.block 1 (.q [.m 10 8,.m 5 10] (.q [.m 11 1,.m 12 0,.m 13 5,.I 14 1 12 13,.l 15 14,.z 16 (.callV (.t 11) [.t 15])] (.cond (.t 16) (.q [.m 17 5,.m 4 17] .ret) .skip)))) (.ops [.b 18 .add 3 8 1,.m 8 18]))))))) (.q [.K 4 (-1)] .ret)))
def r_slices_IndexFunc_uint64_uint64:M4 Tryz.prog 112=some ⟨19,z2c.r,[.tmp 4]⟩:=Aa
def z1y:LC:=(.q [.F 4] (.q [.m 5 0,.m 6 1,.W 7 112 5 6,.b 8 .geq 3 7 0,.m 4 8] .ret))
def r_slices_ContainsFunc_uint64_uint64:M4 Tryz.prog 64=some ⟨9,z1y.r,[.tmp 4]⟩:=Aa
def Oe(vs:List Vr)(bs:List Bf)(L:List (List UInt64)):Bool:=decide (L.length=bs.length)&&(Sv.outV vs).all λg=>decide (((L.getD g []).length:Int)=(gv vs g).limbs)
def V8(vs:List Vr)(L:List (List UInt64))(i:Nat):List LV:=(On (λv=>decide (v.mode=3)) vs i).map λg=>LU (Ow (val (L.getD g [])))
section rows
variable {G : Mu} {K : LV → Mu → Prop} {vs : List Vr} {os rs : List Ko} {bs : List Bf} {ps : List Pc} {w0 w1 : Pc} {base : Nat} {f : Fr Ko} {L : List (List UInt64)} {rv : LV}
def zfx(jC:vs.length≤100000)(hc:M3 vs os rs=true)(gI:(R0 vs os).2=true)(Y:MadeF vs os bs ps w0 w1 base f)(hL:∀x∈L,x.length≤1000000)(jD:L.length≤1000000000)
  (gK:rv=LN L∨∃q g st,rv=.dy q g∧G[q]?=some (.dyn (L.map LU) L.length 1 g st))
  (k1:Oe vs bs L=false→∀z,G.length≤z.length→(∀A,A<G.length→z[A]?=G[A]?)→K (.tup [.nilSl,.i 2]) z)
  (k0:Oe vs bs L=true→∀z v,Rq G.length z v 1 (Sv.outV vs).length (V8 vs L vs.length)→G.length≤z.length→(∀A,A<G.length→z[A]?=G[A]?)→K (.tup [v,.i 0]) z) :
  O0 (.fn 23) [.agg (Mt vs os rs),.agg (Nc bs ps w0 w1),rv] G K:=by
 have gL:dats (Mt vs os rs)=true:=Af
 have gM:(Mt vs os rs).length=3:=rfl;have gO:(Mt vs os rs).take 3=Mt vs os rs:=rfl;have gP:(Nc bs ps w0 w1).length=8:=rfl;have gQ:(Nc bs ps w0 w1).take 8=Nc bs ps w0 w1:=rfl;have C:Nc bs ps w0 w1=[.lst (Ok bs) bs.length 3,.lst (N0 ps) ps.length 3,.i w0.buf,.i w0.at_,.i w0.size,.i w1.buf,.i w1.at_,.i w1.size]:=rfl;have hv:Ps vs=true:=Ce
 have gR:∀i,i<vs.length→1≤(gv vs i).limbs∧(gv vs i).limbs≤512∧0≤(gv vs i).mode∧(gv vs i).mode≤3:=λi hi=>Wd hv _ (X9 hi)
 have jE:=Y.bl;have jF:=Y.bb;refine M2 r_marshal_Out Aa (by simp) ?_;obtain⟨T,D⟩:∃T,T=G++[LObj.cells (Mt vs os rs) 0,LObj.cells (Nc bs ps w0 w1) 0]:=⟨_,rfl⟩;have o1:∀x,x<G.length→T[x]?=G[x]?:=λx hx=>by rw[D];exact Ib hx
 have l1:T.length=G.length+2:=by rw[D];simp
 have a1:T[G.length]?=some (.cells (Mt vs os rs) 0):=by rw[D];simp
 have b1:T[G.length+1]?=some (.cells (Nc bs ps w0 w1) 0):=by rw[D];simp
 simp[zd5];rw[←D];simp[a1,b1,gM,gO,gP,gQ];refine M5 (z8o J hc gI Y (λv gS=>(Wd hv v gS).2.2.1)) (bors_self _ (by simp[dats,LV.dat,gL,fe])) ?_;have RV:∀B:Mu,(∀A,A<G.length→B[A]?=G[A]?)→rv=LN L∨∃q g st,rv=.dy q g∧B[q]?=some (.dyn (L.map LU) L.length 1 g st):=λB h=>by
  rcases gK with h1|⟨q,g,st,h1,E⟩
  ·exact .inl h1
  ·exact .inr ⟨q,g,st,h1,by rw[h q (H5.1 E).1];exact E⟩
 have Z:∀(B:Mu) (KN:Nat→Prop),(∀A,A<G.length→B[A]?=G[A]?)→KN L.length→lenL B rv KN:=λB KN h hk=>by
  rcases RV B h with rfl|⟨q,g,st,rfl,E⟩
  ·simpa [LN] using hk
  ·rw[lenL_dy,E,v6];exact⟨rfl,hk⟩
 have gT:∀(B:Mu) (i:Nat) (KV:LV→Prop),(∀A,A<G.length→B[A]?=G[A]?)→i<L.length→(∀a,(∀K':LV→Prop,K' (LU (L.getD i []))→Ui B a K')→KV a)→Vm B 1 rv (i:Int) KV:=λB i KV h hi hk=>by
  have e:(L.map LU)[i]?=some (LU (L.getD i [])):=Rm (f:=LU) (by rw[H9,H8 hi];rfl);rcases RV B h with rfl|⟨q,g,st,rfl,E⟩
  ·rw[LN,zns];refine⟨rfl,J,J,hk _ λK' U=>?_⟩;rw[read1_cptr];simp only[I4,Kr];exact⟨_,e,U⟩
  ·rw[wh,E,v6];refine⟨rfl,rfl,J,J,hk _ λK' U=>?_⟩;rw[read1_dptr,E];refine⟨rfl,?_⟩;simp only[I4,Kr];exact⟨_,e,U⟩
 simp;refine Z T _ o1 ?_;by_cases I:L.length=bs.length
 case neg =>
  have gU:¬(L.length:Int)=bs.length:=J
  have F:Oe vs bs L=false:=by simp[Oe,I]
  simp[b1,C,gU,I];exact k1 F T J o1
 simp[a1,b1,C,I,Mt];refine Nm (λρ jL z N=>∃(i:Nat) (v:LV),jL=[]∧N+i=vs.length∧lk ρ 2=rv∧lk ρ 4=.ptr (G.length+1) 0∧lk ρ 6=v∧lk ρ 25=.lst (Nb vs) vs.length 3∧lk ρ 26=.i vs.length∧lk ρ 27=.i i∧z[G.length+1]?=some (.cells (Nc bs ps w0 w1) 0)∧(∀A,A<G.length→z[A]?=G[A]?)∧G.length+2≤z.length ∧
   Rq (G.length+2) z v 1 (On (λv=>decide (v.mode=3)) vs i).length (V8 vs L i)∧∀S,S<i→(gv vs S).mode=3→((L.getD S []).length:Int)=(gv vs S).limbs)
  (N:=vs.length) ⟨0,.nilSl,rfl,J,by simp,by simp,by simp,by simp,by simp,by simp,b1,o1,J,Rq.nil,λS hj=>J⟩ ?_
 rintro N ρ jL z ⟨i,v,rfl,hN,E,h4,h6,M,H,O,bb,ho,jG,hD,V⟩ Nx gg;by_cases gH:i<vs.length
 case neg =>
  have gV:i=vs.length:=J
  subst gV;have F:Oe vs bs L=true:=by
   simp only[Oe,I,decide_true,Kf,I9,Ii];intro S hj;have gX:=zsu hj;have gY:=(Kz.1 hj).2;exact V S gX (by simpa using gY)
  simp[h6,H,O];rw[vu]at k0;refine k0 F z v ?_ J ho;obtain⟨d1,d2,⟨rfl,d3,d4⟩|⟨p,k,st,hp,rfl,d3⟩⟩:=hD
  ·exact⟨d1,d2,.inl ⟨rfl,d3,d4⟩⟩
  ·exact⟨d1,d2,.inr ⟨p,k,st,J,rfl,d3⟩⟩
 have q3:=U4 (Qa gH);have gj:=S6 gH;have gB:(gv vs i).f=[.i (gv vs i).limbs,.bool (gv vs i).sec,.i (gv vs i).mode]:=rfl;have gp:i<ps.length:=by rw[Y.pl];exact gH
 have gZ:=Y.mode i gH;have gC:=Y.par i;obtain⟨v1,v2,v3,v4⟩:=gR i gH;have P:V8 vs L (i+1)=V8 vs L i++if (gv vs i).mode=3 then [LU (Ow (val (L.getD i [])))] else []:=by
  unfold V8;rw[ji,Js];by_cases h:(gv vs i).mode=3<;>simp[h]
 have Q:(On (λv=>decide (v.mode=3)) vs (i+1)).length=(On (λv=>decide (v.mode=3)) vs i).length+if (gv vs i).mode=3 then 1 else 0:=by
  rw[ji,Il];by_cases h:(gv vs i).mode=3<;>simp[h]
 have lb:G.length+1<z.length:=J
 by_cases X:(gv vs i).mode=3
 case neg =>
  rw[Ig X,Jd]at P;rw[Ig X]at Q;simp[M,H,O,gH,q3,gj,gB,X];exact⟨J,gg _ _ _ ⟨N-1,J,i+1,v,rfl,J,Aq,By,Bo,At,Ay,by simp,by rw[Mv lb];exact bb,λA hz=>by rw[Mv J];exact ho A hz,Ab,by rw[P,Q];exact hD.push_end,λS hj h3=>by
   by_cases e:S=i
   ·rw[e]at h3;exact absurd h3 X
   ·exact V S J h3⟩⟩
 have g8:i<base:=by
  have:¬base≤i:=λq=>by have:=gZ.2 q;omega
  omega
 have g9:=gC g8;have c0:=U5 Pc.f_len (Wm gp) (j:=0) J;rw[g9]at c0;have jg:(N0 ps)[i*3]?=some (.i (i:Int)):=by simpa [N0,Pc.f] using c0
 have jH:=T6 gp;have gD:i*3<(N0 ps).length:=J
 have jz:i<L.length:=J
 have jI:(L.getD i []).length≤1000000:=Tq hL i;have gE:∀x:LObj,∀A,A<G.length→(z++[x])[A]?=G[A]?:=λx A hz=>by rw[Mv J];exact ho A hz
 simp[E,h4,M,H,O,gH,q3,gj,gB,X,↓Mv lb,bb,C,gp,Mx jg,gD];refine gT _ i _ (gE _) jz λa ha=>?_
 simp;refine ha _ ?_;have jK:∀x,(z++[x])[z.length]?=some x:=λx=>by simp
 by_cases R:((L.getD i []).length:Int)=(gv vs i).limbs
 case neg =>
  have F:Oe vs bs L=false:=by
   cases h:Oe vs bs L with
   |false=>rfl
   |true =>
    simp only[Oe,H7,I9,Ii]at h;exact absurd (h.2 i (Kz.2 ⟨Jk.2 gH,by simpa using X⟩)) R
  generalize L.getD i []=x at *;simp[R];exact k1 F _ Ab (gE _)
 rw[Ih X]at P Q;have gF:∀S,S<i+1→(gv vs S).mode=3→((L.getD S []).length:Int)=(gv vs S).limbs:=λS hj h3=>by
  by_cases e:S=i
  ·rw[e];exact R
  ·exact V S J h3
 generalize L.getD i []=x at *;simp[R,h6];refine M5 (zbe x J) (bors_self _ Au) ?_;rw[show frV [RU (Ow (val x))] (.dy 0 0)=LU (Ow (val x)) from rfl];generalize Ow (val x)=y at *;simp;refine Rq.push (c:=1) (x:=[LU y]) hD.push_end J Ab (by have:=x5 (λv=>decide (v.mode=3)) vs i;omega) rfl (by simp[dats,Xp]) λv' B jA gG jB=>?_
 simp at jB;simp[O];refine⟨J,gg _ _ _ ⟨N-1,J,i+1,v',rfl,J,Aq,By,by simp,At,Ay,by simp,?_,λA hz=>?_,J,by rw[P,Q];exact jA,gF⟩⟩
 ·rw[gG _ J,Mv J];exact bb
 ·rw[gG A J,Mv J];exact ho A hz
end rows
def Ri(n:UInt64):Bool:=decide (n≠0)
def zm0(n:UInt64):M0 65 [.u n] (.bool (Ri n)) []:=by
 refine Nf.val rfl (M2 r_marshal_Noughts_1 Aa N ?_);simp[z6b,Ri]
def zw4(l:List UInt64)(Q:l.length≤1000000000):M0 112 [LU l,.fn (.func 65) [] []] (.i (Uy Ri l)) []:=by
 refine Nf.val rfl (M2 r_slices_IndexFunc_uint64_uint64 Aa (by simp) ?_);simp[z2c];refine Nm (λI P G N=>∃i:Nat,P=[]∧N+i=l.length∧lk I 0=.lst (l.map .u) l.length 1∧lk I 1=.fn (.func 65) [] []∧lk I 7=.i l.length∧lk I 8=.i i∧∀M b,M<i→l[M]?=some b→Ri b=false) (N:=l.length) ⟨0,by simp⟩ ?_;rintro N I P G ⟨i,rfl,R,A,B,C,z,D⟩ S E;by_cases hi:l.length≤i
 ·have O:¬i<l.length:=J
  simp[A,B,C,z,O];rw[zf1 hi D]
 ·have O:i<l.length:=J
  have F:=H8 O;simp[A,B,C,z,O,Mx (Rm (f:=LV.u) F)];refine M5 (zm0 l[i]) (by simp) ?_;by_cases H:Ri l[i]=true
  ·simp[H,z];rw[zq9 F H D]
  ·have j:Ri l[i]=false:=Dd
   simp[j,z];refine⟨J,E _ _ _ ⟨N-1,J,i+1,rfl,J,Ae,Al,Ad,by simp,λM b T g=>?_⟩⟩;by_cases e:M=i
   ·subst e;rw[F]at g;cases g;exact j
   ·exact D M b J g
def zl8(l:List UInt64)(g:l.length≤1000000000):M0 64 [LU l,.fn (.func 65) [] []] (.bool (l.any Ri)) []:=by
 refine Nf.val rfl (M2 r_slices_ContainsFunc_uint64_uint64 Aa N ?_);simp[z1y];refine M5 (zw4 l g) (bors_self _ Au) ?_;simp;rw[←zj2]
def kn(bs:List Bf)(L:List (List UInt64)):Bool:=decide (L.length=bs.length)&&(List.range bs.length).all λi=>!(decide ((Of bs i).kind=3)&&(L.getD i []).any Ri)
def zck(bs:List Bf)(ps:List Pc)(w0 w1:Pc)(L:List (List UInt64))(gg:bs.length≤1000000)(hL:∀x∈L,x.length≤1000000):M0 20 [.agg (Nc bs ps w0 w1),LN L] (.bool (kn bs L)) []:=by
 have A:Nc bs ps w0 w1=[.lst (Ok bs) bs.length 3,.lst (N0 ps) ps.length 3,.i w0.buf,.i w0.at_,.i w0.size,.i w1.buf,.i w1.at_,.i w1.size]:=rfl;refine Nf.val rfl (M2 r_marshal_Noughts Aa (by simp) ?_);by_cases B:L.length=bs.length
 case neg =>
  have O:¬(L.length:Int)=bs.length:=J
  simp[z4z,A,LN,O,B,kn]
 simp[z4z,A,LN,B];refine Nm (λV gB G N=>∃i:Nat,gB=[]∧N+i=bs.length∧lk V 1=.lst (L.map LU) bs.length 1∧lk V 14=.lst (Ok bs) bs.length 3∧lk V 15=.i bs.length∧lk V 16=.i i∧∀H,H<i→(!(decide ((Of bs H).kind=3)&&(L.getD H []).any Ri))=true) (N:=bs.length) ⟨0,rfl,J,by simp,by simp,by simp,by simp,λH P=>J⟩ ?_;rintro N V gB G ⟨i,rfl,hN,I,j,g,z,X⟩ Nx Q;by_cases Y:i<bs.length
 case neg =>
  have R:i=bs.length:=J
  subst R;simp[g,z];simp only[kn,B,decide_true,Kf];rw[I9];intro H P;exact X H (Jk.1 P)
 have Z:=xf (au Y);have D:=lu Y;have E:(Of bs i).f=[.i (Of bs i).size,.i (Of bs i).kind,.bool (Of bs i).sec]:=rfl;have nx:∀C G2,lk C 1=.lst (L.map LU) bs.length 1→lk C 14=.lst (Ok bs) bs.length 3→lk C 15=.i bs.length→lk C 16=.i ((i:Int)+1)→(!(decide ((Of bs i).kind=3)&&(L.getD i []).any Ri))=true→Nx C [] G2:=λC G2 a1 S T U h =>
  Q _ _ _ ⟨N-1,J,i+1,rfl,J,a1,S,T,by rw[U];simp,λH P=>by
   by_cases e:H=i
   ·rw[e];exact h
   ·exact X H J⟩
 by_cases M:(Of bs i).kind=3
 case neg =>
  simp[I,j,g,z,Y,Z,D,E,M];exact⟨J,nx _ _ Cp Av Bd (by simp) At⟩
 have e:(L.map LU)[i]?=some (LU (L.getD i [])):=Rm (f:=LU) (by rw[H9,H8 J];rfl);have gj:(L.getD i []).length≤1000000:=Tq hL i;have F:(L.getD i []).any Ri=true→kn bs L=false:=λh=>by
  cases hq:kn bs L with
  |false=>rfl
  |true =>
   simp only[kn,H7,I9]at hq;have:=hq.2 i (Jk.2 Y);rw[h]at this;simp[M]at this
 have hx:L[i]?.getD []=L.getD i []:=by rw[H9]
 generalize L.getD i []=x at *;simp[I,j,g,z,Y,Z,D,E,M,hx];refine⟨J,?_⟩;refine M5 (zl8 x J) (bors_self _ Au) ?_;cases ha:x.any Ri with
 |false =>
  simp[z];exact⟨J,nx _ _ Cp Av Bd (by simp) (by simp[ha])⟩
 |true =>
  simp[F ha]
end




end Go.Proofs.YtgjbfhmmgeplmaaGreat
end
