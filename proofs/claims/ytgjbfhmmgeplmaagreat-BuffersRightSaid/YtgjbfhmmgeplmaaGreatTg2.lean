/- The templates: see the main text. -/
import Derived.Test.YtgjbfhmmgeplmaaGreatTg1
import Derived.Test.YtgjbfhmmgeplmaaGreatSvG2
import Derived.Test.YtgjbfhmmgeplmaaGreatTg0
import Derived.Test.YtgjbfhmmgeplmaaGreatSvG3
import Derived.Test.YtgjbfhmmgeplmaaGreatProg
import Derived.KernelRfl
set_option linter.defProp false
noncomputable section
namespace Go.Proofs.YtgjbfhmmgeplmaaGreat
open Go.Sv
set_option linter.unusedSimpArgs false
set_option maxRecDepth 10000
variable{g j C:Nat}{z P:Int}{K:LV}{L:Mh}{Q:LV→Mh→Prop}{V:List Vr}
section
set_option linter.unusedVariables false
def zab:LC:=(.q [.F 2] (.q [.m 3 0,.m 4 0,.c 5 .neq 3 3 4,.m 2 5] .ret))
def r_cmp_isNaN_int:Mt Tryz.prog 154=some ⟨6,zab.r,[.tmp 2]⟩:=Aa
def z85:LC:=(.q [.K 4 0] (.q [.m 7 0,.w 8 154 7,.m 5 8] (.q [.m 9 1,.w 10 154 9,.m 6 10] (.seq (.q [.m 11 5] (.cond (.t 11) (.seq (.q [.m 12 6] (.cond (.t 12) (.q [.K 4 0] .ret) .skip)) (.q [.K 4 (-1)] .ret)) .skip)) (.seq (.q [.m 13 6] (.cond (.t 13) (.q [.K 4 1] .ret) .skip)) (.seq (.q [.m 14 0,.m 15 1,.c 16 .lss 3 14 15] (.cond (.t 16) (.q [.K 4 (-1)] .ret) .skip)) (.seq (.q [.m 17 0,.m 18 1,.c 19 .gtr 3 17 18] (.cond (.t 19) (.q [.K 4 1] .ret) .skip)) (.q [.K 4 0] .ret))))))))
def r_cmp_Compare_int:Mt Tryz.prog 128=some ⟨20,z85.r,[.tmp 4]⟩:=Aa
def z53:LC:=(.q [.x 2 0,.x 3 1,.K 4 0] (.q [.f 5 0 2,.l 6 5,.f 7 0 3,.l 8 7,.W 9 128 6 8,.m 4 9] .ret))
def r_buffers_store_give_1:Mt Tryz.prog 130=some ⟨10,z53.r,[.tmp 4]⟩:=Aa
def z0j:LC:=(.q [.x 4 1,.K 6 0,.F 7] (.q [.m 12 0,.s 13 12,.m 8 13] (.q [.m 14 8,.K 9 0,.m 10 14] (.seq (.block 0 (.loop (.seq (.q [.m 15 9,.m 16 10,.c 17 .lss 3 15 16] (.cond (.t 17) .skip (.exit 0))) (.block 1 (.q [.m 18 9,.m 19 10,.c 20 .add 3 18 19,.z 21 (.cvInt .u64 (.t 20)),.u 22 .shr 110 21 1,.z 23 (.cvInt .i64 (.t 22)),.m 11 23] (.seq (.draw [(.m 24 2,[]),(.m 25 0,[]),(.m 26 11,[]),(.I 27 2 25 26,[]),(.L 28 2 27,[]),(.L 29 2 4,[]),(.z 30 (.callV (.t 24) [.t 28,.t 29]),[]),(.b 31 .lss 3 30 0,[])]) (.cond (.t 31) (.ops [.m 32 11,.b 33 .add 3 32 1,.m 9 33]) (.ops [.m 34 11,.m 10 34])))))))) (.seq (.draw [(.m 35 9,[]),(.m 36 9,[]),(.m 37 8,[]),(.c 38 .lss 3 36 37,[]),(.m 39 38,[]),(.my 40 39 2,[]),(.my 41 39 0,[]),(.my 42 39 9,[]),(.y 43 39 (.ixAddr 2 (.t 41) (.t 42)),[]),(.y 44 39 (.loadN 2 (.t 43)),[]),(.y 45 39 (.loadN 2 (.t 4)),[]),(.y 46 39 (.callV (.t 40) [.t 44,.t 45]),[]),(.y 47 39 (.bin .eql true 3 (.t 46) (.k 0)),[]),(.q 48 39 47,[]),(.m 6 35,[]),(.m 7 48,[])]) .ret)))))
def r_slices_BinarySearchFunc_buffers_pair_int_buffers_pair_int_buffers_pair_int:Mt Tryz.prog 129=some ⟨49,z0j.r,[.tmp 6,.tmp 7]⟩:=Aa
def z6i:LC:=(.q [.x 3 1] (.q [.f 7 1 3,.l 8 7,.f 9 1 3,.l 10 9,.f 11 2 3,.l 12 11,.c 13 .add 3 10 12,.z 14 (.build [(.i 0),(.i 0)] [(0,1,.t 8),(1,1,.t 13)]),.z 4 (.alloc [(.i 0),(.i 0)]),.S 2 4 14] (.seq (.draw [(.m 16 0,[]),(.N 17 16,[]),(.f 18 1 17,[]),(.l 19 18,[]),(.L 20 2 4,[]),(.z 21 (.w 129 [.t 19,.t 20,(.c (.fn (.func 130) [] []))]),[]),(.m 15 21,[]),(.X 22 0 15,[]),(.X 23 1 15,[]),(.m 5 22,[]),(.m 6 23,[])]) (.seq (.draw [(.m 24 0,[]),(.m 25 0,[]),(.N 26 25,[]),(.f 27 1 26,[]),(.l 28 27,[]),(.m 29 5,[]),(.L 30 2 4,[]),(.z 31 (.buildSl 2 1 [(.i 0),(.i 0)] [(0,2,.t 30)]),[(.L 30 2 4,false),(.l 28 27,false)]),(.V 32 131 28 29 31,[]),(.N 33 24,[]),(.f 34 1 33,[]),(.S 1 34 32,[])]) (.q [.m 35 5,.b 36 .sub 3 35 1,.z 37 (.maxi true (.k 0) (.t 36)),.m 5 37] (.block 0 (.loop (.seq (.q [.m 38 5,.b 39 .add 3 38 1,.m 40 0,.N 41 40,.f 42 1 41,.l 43 42,.s 44 43,.c 45 .lss 3 39 44] (.cond (.t 45) .skip (.exit 0))) (.block 1 (.seq (.seq (.draw [(.m 46 0,[]),(.N 47 46,[]),(.f 48 1 47,[]),(.l 49 48,[]),(.m 50 5,[]),(.I 51 2 49 50,[]),(.f 52 1 51,[]),(.l 53 52,[]),(.m 54 0,[]),(.N 55 54,[]),(.f 56 1 55,[]),(.l 57 56,[]),(.m 58 5,[]),(.b 59 .add 3 58 1,[]),(.I 60 2 57 59,[]),(.f 61 0 60,[]),(.l 62 61,[]),(.c 63 .neq 3 53 62,[])]) (.cond (.t 63) (.q [.m 64 5,.b 65 .add 3 64 1,.m 5 65] (.exit 1)) .skip)) (.seq (.draw [(.m 66 0,[]),(.N 67 66,[]),(.f 68 1 67,[]),(.l 69 68,[]),(.m 70 5,[]),(.m 71 0,[]),(.N 72 71,[]),(.f 73 1 72,[]),(.l 74 73,[]),(.m 75 5,[]),(.b 76 .add 3 75 1,[]),(.I 77 2 74 76,[]),(.f 78 1 77,[]),(.l 79 78,[]),(.I 80 2 69 70,[]),(.f 81 1 80,[]),(.S 1 81 79,[])]) (.ops [.m 82 0,.m 83 0,.N 84 83,.f 85 1 84,.l 86 85,.m 87 5,.b 88 .add 3 87 1,.m 89 5,.b 90 .add 3 89 2,.V 91 86 86 88 90,.N 92 82,.f 93 1 92,.S 1 93 91]))))))))))))
def r_buffers_store_give:Mt Tryz.prog 91=some ⟨94,z6i.r,[]⟩:=Aa
def Ps(a b:Int):Int:=if a<b then -1 else if b<a then 1 else 0
def zq3(a:Int):Mo 154 [.i a] (.bool false) []:=by
 refine Ni.val rfl (Mq r_cmp_isNaN_int Aa U ?_);simp[zab]
def zie(a b:Int):Mo 128 [.i a,.i b] (.i (Ps a b)) []:=by
 refine Ni.val rfl (Mq r_cmp_Compare_int Aa U ?_);simp[z85];refine Mv (zq3 a) U ?_;simp;refine Mv (zq3 b) U ?_;unfold Ps;by_cases h:a<b
 ·simp[h]
 ·by_cases g:b<a
  ·simp[h,g]
  ·simp[h,g]
def zqn(x y:Sp):Mo 130 [.agg (Ng x),.agg (Ng y)] (.i (Ps x.1 y.1)) []:=by
 refine Ni.val rfl (Mq r_buffers_store_give_1 Aa U ?_);simp[z53,Ng];refine Mv (zie x.1 y.1) U ?_;simp
def zrt{r:Option Nat}{H:List Hl}(h:Hl)(R:Tg L K r H)(hl:H.length≤1000000)
  (k:∀X (i:Nat) b,(∀x,x<L.length→X[x]?=L[x]?)→L.length≤X.length→i≤H.length→Q (.tup [.i i,.bool b]) X) :
  Oa (.fn 129) [K,.agg (Ng h),.fn (.func 130) [] []] L Q:=by
 refine Mq r_slices_BinarySearchFunc_buffers_pair_int_buffers_pair_int_buffers_pair_int Aa U ?_;obtain⟨z,g⟩:∃z,z=L++[LObj.cells (Ng h) 0]:=⟨_,rfl⟩;have Y:∀x,x<L.length→z[x]?=L[x]?:=λx hx=>by rw[g];exact Hk hx
 have l0:z.length=L.length+1:=by rw[g];simp
 have z0:z[L.length]?=some (.cells (Ng h) 0):=by rw[g];simp
 have Z:∀q,r=some q→q<L.length:=λq A=>by
  subst A;obtain⟨G,gB,_,B⟩:=R;exact (Hf.1 B).1
 have H0:Tg z K r H:=R.old λq A=>Y q (Z q A)
 have I:(Ng h).length=2:=rfl;have M:(Ng h).take 2=Ng h:=rfl;simp[z0j];rw[←g];simp[H0.len];refine M2 (λρ gD G1 N=>∃(i F:Nat),gD=[]∧N+i=F∧i≤F∧F≤H.length∧lk ρ 0=K∧lk ρ 2=.fn (.func 130) [] []∧lk ρ 4=.ptr L.length 0∧lk ρ 8=.i H.length∧lk ρ 9=.i i∧lk ρ 10=.i F∧G1=z)
  (N:=H.length) ⟨0,H.length,rfl,J,J,J,U,U,U,U,U,U,rfl⟩ ?_
 rintro N ρ gD G1 ⟨i,F,rfl,hN,gC,hj,O,B,C,S,T,j,rfl⟩ Nx P;by_cases gE:i<F
 ·have p:(Pb (iU ((i:Int)+F)) 1).toNat=(i+F)/2:=by
   rw[wu,(J:(i:Int)+F=((i+F:Nat):Int)),lu J]
  obtain⟨m,hm⟩:∃m,m=(i+F)/2:=⟨_,rfl⟩;rw[←hm]at p;have gm:m<H.length:=J
  cases r with
  |none=>obtain⟨_,rfl⟩:=R;simp at gm
  |some q =>
  obtain⟨G,gg,rfl,A⟩:=H0;have D:=zol gm;have gA:=se H;have E:m*2+2≤(Mu H).length:=J
  simp[O,B,C,T,j,gE,p,A,gm,D,E];refine⟨J,J,?_⟩;simp[C,z0,I,M];refine Mv (zqn (gs H m) h) (by simp[dats,LV.dat,Ng]) ?_;by_cases hc:Ps (gs H m).1 h.1<0
  ·simp[hc];refine⟨J,P _ _ _ ⟨F-(m+1),J,m+1,F,rfl,J,J,hj,Bc,Ad,Au,by simp[S],U,As,rfl⟩⟩
  ·simp[hc];exact P _ _ _ ⟨m-i,J,i,m,rfl,J,J,J,Bc,Ad,Au,by simp[S],Bn,U,rfl⟩
 ·have g1:¬i<F:=gE;by_cases V:i<H.length
  ·cases r with
   |none=>obtain⟨_,rfl⟩:=R;simp at V
   |some q =>
   obtain⟨G,gg,rfl,A⟩:=H0;have D:=zol V;have gA:=se H;have E:i*2+2≤(Mu H).length:=J
   simp[O,B,C,S,T,j,g1,V,A,D,E];simp[C,z0,I,M];refine Mv (zqn (gs H i) h) (by simp[dats,LV.dat,Ng]) ?_;simp;exact k _ i _ Y J J
  ·simp[O,B,C,S,T,j,g1,V];exact k _ i false Y J J
def zs7{r:Option Nat}{H:List Hl}{h:Hl}{i:Nat}(G:Tg L K r H)(I:L[g]?=some (.dyn (Ng h) 1 2 j C))(B:r≠some g)(M:i≤H.length)(P:H.length≤1000000000)
  (k:∀z (A p D:Nat),(∀x,x<L.length→r≠some x→z[x]?=L[x]?)→L.length≤z.length→(r=some A∨L.length≤A)→z[A]?=some (.dyn (Mu (H.take i++h::H.drop i)) (H.length+1) 2 p D)→Q (.dy A p) z) :
  Oa (.fn 131) [K,.i i,.dy g j] L Q:=by
 cases r with
 |none =>
  obtain⟨rfl,rfl⟩:=G;obtain rfl:i=0:=by simpa using M
  refine zlh ins_tgt ins_k ins_right ins_z I An ?_;refine k _ L.length 0 0 (λx N _=>Hk N) U (.inr (Hm _)) ?_;simp[Mu]
 |some q =>
  obtain⟨E,st,rfl,O⟩:=G;have F:=(Hf.1 O).1;refine zvo ins_tgt ins_k ins_right ins_z O I (λe=>B Dl) M An P ?_;rw[ga];refine k _ q (E+1) (st+1) (λx N R=>?_) U (.inl rfl) (Hi F);rw[Hg (λe=>R Dl)]
def zhi{s st:Nat}{pb a n:Int}{r:Option Nat}{H:List Hl}(hs:L[s]?=some (.cells [.i z,K,.i P] st))(hh:Tg L K r H)
  (ha:0≤a∧a≤1000000000) (hn:0≤n∧n≤1000000000) (hl:H.length≤100000)
  (k:∀G' gD r' C (i g9:Nat),(∀x,x<L.length→x≠s→r≠some x→G'[x]?=L[x]?)→L.length≤G'.length→G'[s]?=some (.cells [.i z,gD,.i P] C)→Tg G' gD r' (cf i g9 (a,a+n) H)→(∀q,r'=some q→r=some q∨L.length≤q)→Q (.tup []) G') :
  Oa (.fn 91) [.ptr s 0,.agg [.i pb,.i a,.i n]] L Q:=by
 refine Mq r_buffers_store_give Aa U ?_;have gI:=(Hf.1 hs).1;have E:∀q,r=some q→q<L.length∧q≠s:=λq hq=>by
  subst hq;obtain⟨G,gR,_,h2⟩:=hh;refine⟨(Hf.1 h2).1,λe=>?_⟩;rw[e,hs]at h2;cases h2
 simp[z6i];refine⟨J,?_⟩;obtain⟨G0,I⟩:∃G0,G0=L++[LObj.cells [.i pb,.i a,.i n] 0,LObj.cells [.i a,.i (a+n)] 1]:=⟨_,rfl⟩;have o0:∀x,x<L.length→G0[x]?=L[x]?:=λx D=>by rw[I];exact Hk D
 have l0:G0.length=L.length+2:=by rw[I];simp
 have z0:G0[L.length+1]?=some (.cells [.i a,.i (a+n)] 1):=by rw[I];simp
 have s0:=(o0 s gI).trans hs;have H0:Tg G0 K r H:=hh.old λq hq=>o0 q (E q hq).1
 rw[←I];simp[s0,z0];refine zrt (a,a+n) H0 J λY i bb o1 l1 hi=>?_
 have s1:=(o1 s J).trans s0;have z1:=(o1 _ J).trans z0;have H1:Tg Y K r H:=H0.old λq hq=>o1 q (by have:=(E q hq).1;omega)
 simp[s1,z1,↓Mn (J:s<Y.length),↓Mn (J:L.length+1<Y.length)];obtain⟨G2,M⟩:∃G2,G2=Y++[LObj.dyn [.i a,.i (a+n)] 1 2 0 0]:=⟨_,rfl⟩;have o2:∀x,x<Y.length→G2[x]?=Y[x]?:=λx D=>by rw[M];exact Hk D
 have l2:G2.length=Y.length+1:=by rw[M];simp
 have d2:G2[Y.length]?=some (.dyn (Ng (a,a+n)) 1 2 0 0):=by rw[M];simp[Ng]
 have s2:=(o2 s J).trans s1;have H2:Tg G2 K r H:=H1.old λq hq=>o2 q (by have:=(E q hq).1;omega)
 rw[←M];refine zs7 (h:=(a,a+n)) H2 d2 (λe=>by have:=(E _ e).1;omega) hi J λG3 q G gK o3 l3 gA q3=>?_
 have s3:=(o3 s J (λe=>(E _ e).2 rfl)).trans s2;have O:q≠s:=by
  rcases gA with e|e
  ·exact (E _ e).2
  ·omega
 simp[s3];obtain⟨R,S⟩:∃R,R=G3.set s (.cells [.i z,.dy q G,.i P] (st+1)):=⟨_,rfl⟩;have o4:∀x,x≠s→R[x]?=G3[x]?:=λx D=>by rw[S,Hg (λe=>D e.symm)]
 have l4:R.length=G3.length:=by rw[S];simp
 have s4:R[s]?=some (.cells [.i z,.dy q G,.i P] (st+1)):=by rw[S];exact Hi J
 have q4:=(o4 q O).trans q3;rw[←S];refine⟨J,?_⟩;obtain⟨T,gB⟩:∃T,T=H.take i++(a,a+n)::H.drop i:=⟨_,rfl⟩;have gL:T.length=H.length+1:=by rw[gB];simp;omega
 rw[←gB,←gL]at q4;have hF:cf i (i-1) (a,a+n) H=T.take (i-1)++Rq (T.drop (i-1)):=by rw[gB];rfl
 have gS:s<R.length:=J
 have gT:q<R.length:=(Hf.1 q4).1;refine M2 (λρ g8 Z N=>∃(g:Nat) (A:List Hl) (j C p:Nat),g8=[]∧N=A.length-g∧lk ρ 0=.ptr s 0∧lk ρ 5=.i g∧Z[s]?=some (.cells [.i z,.dy q j,.i P] C)∧Z[q]?=some (.dyn (Mu A) A.length 2 j p) ∧
   (∀x,x≠s→x≠q→Z[x]?=R[x]?)∧Z.length=R.length∧A.take g++Rq (A.drop g)=T.take (i-1)++Rq (T.drop (i-1))∧A.length≤100001∧g≤A.length)
  (N:=T.length-(i-1)) ⟨i-1,T,G,st+1,gK,rfl,rfl,U,Ab,s4,q4,λ_ _ _=>rfl,rfl,rfl,J,J⟩ ?_
 rintro N ρ g8 Z ⟨g,A,j,C,p,rfl,rfl,h0,h5,s5,q5,o5,l5,hj,gM,gV⟩ Nx gE;by_cases gQ:g+1<A.length
 ·have g1:(g:Int)+1<A.length:=J
  have gi:g<A.length:=J
  have e1:((g:Int)+1).toNat=g+1:=J
  have gz:(0:Int)≤(g:Int)+1:=J
  have gw:(-9223372036854775808≤(g:Int)+1∧(g:Int)+1<9223372036854775808):=J
  have c1:=zci gi;have c2:=pk gQ;have c3:=zci gQ;have gZ:=se A;by_cases he:(gs A g).2=(gs A (g+1)).1
  ·simp[h0,h5,s5,q5,g1,gi,gw,e1,gz,Mi c1,Mi c2,Mi c3,he];refine⟨J,?_⟩;rw[Ys gi];obtain⟨B,gC⟩:∃B,B=A.set g ((gs A g).1,(gs A (g+1)).2):=⟨_,rfl⟩;have gO:B.length=A.length:=by rw[gC,Js]
   have gg:=zr6 gQ he;rw[←gC]at gg;rw[←gC,←gO];obtain⟨G6,V⟩:∃G6,G6=Z.set q (.dyn (Mu B) B.length 2 j (p+1)):=⟨_,rfl⟩;have o6:∀x,x≠q→G6[x]?=Z[x]?:=λx D=>by rw[V,Hg (λe=>D e.symm)]
   have l6:G6.length=Z.length:=by rw[V];simp
   have q6:G6[q]?=some (.dyn (Mu B) B.length 2 j (p+1)):=by rw[V];exact Hi J
   have s6:=(o6 s (λe=>O e.symm)).trans s5;rw[←V];simp[h0,h5,s6,gw];refine⟨J,?_⟩;rw[(J:(g:Int)+1=((g+1:Nat):Int)),(J:(g:Int)+2=((g+1+1:Nat):Int))];refine zlc del_tgt del_k del_right del_z q6 J An J ?_;rw[zv7];obtain⟨G7,X⟩:∃G7,G7=G6.set q (.dyn (Mu (B.take (g+1)++B.drop (g+1+1))) (B.length-1) 2 (j+1) (p+1+1)):=⟨_,rfl⟩;have o7:∀x,x≠q→G7[x]?=G6[x]?:=λx D=>by rw[X,Hg (λe=>D e.symm)]
   have l7:G7.length=G6.length:=by rw[X];simp
   have q7:G7[q]?=some (.dyn (Mu (B.take (g+1)++B.drop (g+1+1))) (B.length-1) 2 (j+1) (p+1+1)):=by rw[X];exact Hi J
   have s7:=(o7 s (λe=>O e.symm)).trans s6;rw[←X];have gP:(B.take (g+1)++B.drop (g+1+1)).length=B.length-1:=by rw[Hv,H4,Iw];omega
   simp[h0,s7];refine gE _ _ _ ⟨_,?_,g,B.take (g+1)++B.drop (g+1+1),j+1,C+1,p+1+1,rfl,rfl,Cs,B3,Hi J,?_,λx D F=>?_,Ab,gg.trans hj,J,J⟩
   ·omega
   ·rw[Hg (λe=>O e.symm),gP];exact q7
   ·rw[Hg (λe=>D e.symm),o7 x F,o6 x F,o5 x D F]
  ·simp[h0,h5,s5,q5,g1,gi,gw,e1,gz,Mi c1,Mi c2,Mi c3,he];exact gE _ _ _ ⟨_,J,g+1,A,j,C,p,rfl,rfl,Cs,U,s5,q5,o5,l5,(zrw gQ he).trans hj,gM,J⟩
 ·have g1:¬(g:Int)+1<A.length:=J
  simp[h0,h5,s5,q5,g1];have gF:=zu2 (H:=A) (i:=g) J;rw[gF,←hF]at hj;refine⟨J,?_⟩;refine k _ (.dy q j) (some q) C i (i-1) (λx D gG gH=>?_) J s5 ⟨j,p,rfl,?_⟩ (λq2 e=>?_)
  ·have F:x≠q:=λe=>by
    rcases gA with e2|e2
    ·exact gH (by rw[e2,e])
    ·omega
   rw[o5 x gG F,o4 x gG,o3 x J gH,o2 x J,o1 x J,o0 x D]
  ·rw[←hj];exact q5
  ·cases e;rcases gA with e2|e2
   ·exact .inl e2
   ·exact .inr J
end
section
set_option linter.unusedVariables false
def z0w:LC:=(.q [.m 10 1,.b 11 .add 3 10 1,.m 8 11] (.block 0 (.loop (.seq (.q [.m 12 8,.m 13 2,.c 14 .lss 3 12 13] (.cond (.t 14) .skip (.exit 0))) (.seq (.block 1 (.q [.m 17 8,.m 9 17] (.block 2 (.loop (.seq (.seq (.draw [(.m 18 9,[]),(.m 19 1,[]),(.c 20 .gtr 3 18 19,[]),(.m 21 20,[]),(.my 22 21 3,[]),(.my 23 21 0,[]),(.my 24 21 9,[]),(.y 25 21 (.ixAddr 1 (.t 23) (.t 24)),[]),(.yl 26 21 25,[]),(.my 27 21 0,[]),(.my 28 21 9,[]),(.y 29 21 (.bin .sub true 3 (.t 28) (.k 1)),[]),(.y 30 21 (.ixAddr 1 (.t 27) (.t 29)),[]),(.yl 31 21 30,[]),(.y 32 21 (.callV (.t 22) [.t 26,.t 31]),[]),(.y 33 21 (.bin .lss true 3 (.t 32) (.k 0)),[]),(.q 34 21 33,[])]) (.cond (.t 34) .skip (.exit 2))) (.seq (.block 3 (.draw [(.m 37 0,[]),(.m 38 9,[]),(.m 39 0,[]),(.m 40 9,[]),(.b 41 .sub 3 40 1,[]),(.m 42 0,[]),(.m 43 9,[]),(.b 44 .sub 3 43 1,[]),(.I 45 1 42 44,[]),(.l 46 45,[]),(.m 47 0,[]),(.m 48 9,[]),(.I 49 1 47 48,[]),(.l 50 49,[]),(.I 51 1 37 38,[]),(.S 1 51 46,[]),(.I 52 1 39 41,[]),(.S 1 52 50,[])])) (.ops [.m 35 9,.b 36 .sub 3 35 1,.m 9 36]))))))) (.ops [.m 15 8,.b 16 .add 3 15 1,.m 8 16]))))))
def r_slices_insertionSortCmpFunc_int:Mt Tryz.prog 171=some ⟨53,z0w.r,[]⟩:=Aa
def k_slices_insertionSortCmpFunc_int:z0w.ok=true:=Aa
def wa:LC:=(.q [.K 6 20] (.q [.m 10 6,.K 7 0,.m 8 10] (.seq (.block 0 (.loop (.seq (.q [.m 11 8,.m 12 1,.c 13 .leq 3 11 12] (.cond (.t 13) .skip (.exit 0))) (.block 1 (.q [.m 14 0,.m 15 7,.m 16 8,.m 17 2,.z 18 (.w 171 [.t 14,.t 15,.t 16,.t 17])] (.q [.m 19 8,.m 7 19] (.ops [.m 20 8,.m 21 6,.c 22 .add 3 20 21,.m 8 22]))))))) (.q [.m 23 0,.m 24 7,.m 25 1,.m 26 2,.z 27 (.w 171 [.t 23,.t 24,.t 25,.t 26])] (.block 2 (.loop (.seq (.q [.m 28 6,.m 29 1,.c 30 .lss 3 28 29] (.cond (.t 30) .skip (.exit 2))) (.block 3 (.q [.m 31 6,.z 32 (.bin .mul true 3 (.k 2) (.t 31)),.K 7 0,.m 8 32] (.seq (.block 4 (.loop (.seq (.q [.m 33 8,.m 34 1,.c 35 .leq 3 33 34] (.cond (.t 35) .skip (.exit 4))) (.block 5 (.q [.m 36 0,.m 37 7,.m 38 7,.m 39 6,.c 40 .add 3 38 39,.m 41 8,.m 42 2,.z 43 (.w 172 [.t 36,.t 37,.t 40,.t 41,.t 42])] (.q [.m 44 8,.m 7 44] (.ops [.m 45 8,.m 46 6,.z 47 (.bin .mul true 3 (.k 2) (.t 46)),.c 48 .add 3 45 47,.m 8 48]))))))) (.seq (.q [.m 49 7,.m 50 6,.c 51 .add 3 49 50,.m 9 51] (.q [.m 52 9,.m 53 1,.c 54 .lss 3 52 53] (.cond (.t 54) (.ops [.m 55 0,.m 56 7,.m 57 9,.m 58 1,.m 59 2,.z 60 (.w 172 [.t 55,.t 56,.t 57,.t 58,.t 59])]) .skip))) (.ops [.m 61 6,.b 62 .mul 3 61 2,.m 6 62]))))))))))))
def r_slices_stableCmpFunc_int:Mt Tryz.prog 153=some ⟨63,wa.r,[]⟩:=Aa
def k_slices_stableCmpFunc_int:wa.ok=true:=Aa
def xf:LC:=(.ops [.m 4 0,.m 5 0,.s 6 5,.m 7 1,.V 8 153 4 6 7])
def r_slices_SortStableFunc_int_int:Mt Tryz.prog 126=some ⟨9,xf.r,[]⟩:=Aa
def k_slices_SortStableFunc_int_int:xf.ok=true:=Aa
def i4{a b:Int}:Ps a b<0↔a<b:=by
 unfold Ps;split
 ·simp;assumption
 ·split<;>simp<;>omega
section sort
variable {g : Nat} {cap : List LV} {f : Int → Int} {Q : Int → Prop} {p kv : Nat}
def Pu(g:Nat)(cap:List LV)(f:Int→Int)(Q:Int→Prop)(p kv:Nat)(A:Mh)(n:Nat):Prop :=
 ∀(z:List Int) (j:Nat) (x y:Int) (B:LV→Mh→Prop),Q x→Q y→B (.i (Ps (f x) (f y))) (A.set p (.dyn (z.map .i) n 1 kv j))→Oa (.fn g) (.i x::.i y::cap) (A.set p (.dyn (z.map .i) n 1 kv j)) B
def z92(l:List Int)(a b:Nat)(hb:b≤l.length)(hl:l.length≤100000)(ha:a≤100000)(O:Mh)(hc:Pu g cap f Q p kv O l.length)(st:Nat)(hQ:∀x∈l,Q x)(hp:O[p]?=some (.dyn (l.map .i) l.length 1 kv st))(gK:LV→Mh→Prop)
  (hK:∀(z:List Int) (A:Nat),z.Perm l→(∀u,(u<a∨b≤u)→gd z u=gd l u)→kTo f z a b→gK (.tup []) (O.set p (.dyn (z.map .i) l.length 1 kv A))) :
  Oa (.fn 171) [.dy p kv,.i a,.i b,.fn (.func g) [] cap] O gK:=by
 refine Mq r_slices_insertionSortCmpFunc_int k_slices_insertionSortCmpFunc_int U ?_;simp[z0w];refine⟨J,?_⟩;have gA:p<O.length:=(Hf.1 hp).1;have G:O=O.set p (.dyn (l.map .i) l.length 1 kv st):=by
  have:=(Hf.1 hp).2;rw[←this,J5]
 have P:∀x,(O.set p x)[p]?=some x:=λx=>by simp[gA]
 refine M2 (λL gE R N=>∃(i:Nat) (z:List Int) (A:Nat),gE=[]∧R=O.set p (.dyn (z.map .i) l.length 1 kv A)∧N=b-i∧a+1≤i∧(i≤b∨i=a+1)∧lk L 0=.dy p kv∧lk L 1=.i a∧lk L 2=.i b∧lk L 3=.fn (.func g) [] cap∧lk L 8=.i i∧z.Perm l∧(∀u,(u<a∨b≤u)→gd z u=gd l u)∧kTo f z a i)
  (N:=b-(a+1)) ⟨a+1,l,st,rfl,G,rfl,J,J,U,U,U,U,U,List.Perm.refl _,λ_ _=>rfl,λu v D E F=>J⟩ ?_
 rintro N L gE R ⟨i,z,A,rfl,rfl,rfl,gF,gG,D,E,F,M,H,j,C,S⟩ Nx gB;have T:=j.length_eq;by_cases hi:b≤i
 ·have g1:¬i<b:=J
  simp[F,H,g1];exact hK z A j C λu v D gC hv=>S u v D gC J
 ·have g1:i<b:=J
  simp[F,H,g1];refine M2 (λL gE R N=>∃(B:Nat) (z:List Int) (A:Nat),gE=[]∧R=O.set p (.dyn (z.map .i) l.length 1 kv A)∧N=B-a∧a≤B∧B≤i∧lk L 0=.dy p kv∧lk L 1=.i a∧lk L 2=.i b∧lk L 3=.fn (.func g) [] cap∧lk L 8=.i i∧lk L 9=.i B∧z.Perm l∧(∀u,(u<a∨b≤u)→gd z u=gd l u)∧Xk f z a i B)
   (N:=i-a) ⟨i,z,A,rfl,rfl,rfl,J,Hm _,Ai,Av,Ah,A0,At,U,j,C,zsx S⟩ ?_
  rintro gL L gE R ⟨B,z,A,rfl,rfl,rfl,gH,V,D,E,F,M,H,h9,j,C,S⟩ gI X;have T:=j.length_eq;have Y:∀I,lk I 0=.dy p kv→lk I 1=.i a→lk I 2=.i b→lk I 3=.fn (.func g) [] cap→lk I 8=.i ((i:Int)+1)→(B=a∨f (gd z (B-1))≤f (gd z B))→Nx I [] (O.set p (.dyn (z.map .i) l.length 1 kv A)):=λI f0 f1 f2 f3 f8 h =>
   gB _ _ _ ⟨_,J,i+1,z,A,rfl,rfl,rfl,J,J,f0,f1,f2,f3,by simp[f8],j,C,X4 V S h⟩
  by_cases hj:B=a
  ·have g0:¬(a:Int)<B:=J
   have gD:¬a<B:=J
   simp[E,H,h9,g0,gD];exact⟨J,Y _ Ai Av Ah A0 U (.inl hj)⟩
  ·have g0:a<B:=J
   have Z:=Pf (f:=LV.i) (Po (l:=z) (u:=B) J);have gg:=Pf (f:=LV.i) (Po (l:=z) (u:=B-1) J);have e1:((B:Int)-1).toNat=B-1:=J
   have g2:B<l.length:=J
   have g3:(1:Int)≤B:=J
   have g4:(B:Int)-1<l.length:=J
   have g5:(0:Int)≤(B:Int)-1:=J
   have gw:(-9223372036854775808≤(B:Int)-1∧(B:Int)-1<9223372036854775808):=J
   have qa:Q (gd z B):=hQ _ (j.mem_iff.1 (Ic.2 ⟨B,Po J⟩));have qb:Q (gd z (B-1)):=hQ _ (j.mem_iff.1 (Ic.2 ⟨B-1,Po J⟩));simp[D,E,M,h9,g0,P,g2,Mi Z,Mi gg,e1,g3,g4,g5,gw];refine hc z A _ _ _ qa qb ?_;by_cases K:f (gd z B)<f (gd z (B-1))
   ·have hz:Ps (f (gd z B)) (f (gd z (B-1)))<0:=i4.2 K;simp[hz,D,h9,P,g2,Mi Z,Mi gg,e1,g3,g4,g5,gw];have e2:((B-1:Nat):Int)=B-1:=J
    refine⟨J,?_⟩;rw[U7 z B _ J,U7 _ (B-1) _ Ab];refine⟨Ab,X _ _ _ ⟨_,J,B-1,ay z B,_,rfl,rfl,rfl,J,J,Ai,Av,Ah,A0,At,by simp[e2],(Yt J J).trans j,λu hu=>?_,X7 g0 V J S K⟩⟩;rw[zk8 J J,Hq J,Hq J];exact C u hu
   ·have hz:¬Ps (f (gd z B)) (f (gd z (B-1)))<0:=λh=>K (i4.1 h)
    simp[hz,H];exact⟨J,Y _ Ai Av Ah A0 U (.inr J)⟩
end sort
end
section
set_option linter.unusedVariables false
def z3u:LC:=(.q [.z 4 (.move (.c .nilPtr))] (.seq (.q [.m 5 0,.N 6 5,.f 7 0 6,.f 8 0 7,.l 9 8,.m 10 1,.I 11 3 9 10,.f 12 1 11,.l 13 12] (.cond (.t 13) (.q [.m 14 0,.N 15 14,.f 16 5 15,.z 17 (.ixAddrArr 2 1 (.t 16) (.k 1)),.l 18 17,.m 4 18] .ret) .skip)) (.q [.m 19 0,.N 20 19,.f 21 5 20,.z 22 (.ixAddrArr 2 1 (.t 21) (.k 0)),.l 23 22,.m 4 23] .ret)))
def r_buffers_planner_of:Mt Tryz.prog 90=some ⟨24,z3u.r,[.tmp 4]⟩:=Aa
def z3x:LC:=(.q [.K 5 0] (.seq (.draw [(.l 6 2,[]),(.N 7 6,[]),(.f 8 3 7,[]),(.l 9 8,[]),(.m 10 0,[]),(.I 11 2 9 10,[]),(.f 12 0 11,[]),(.l 13 12,[]),(.l 14 2,[]),(.N 15 14,[]),(.f 16 3 15,[]),(.l 17 16,[]),(.m 18 1,[]),(.I 19 2 17 18,[]),(.f 20 0 19,[]),(.l 21 20,[]),(.W 22 128 13 21,[]),(.m 5 22,[])]) .ret))
def r_buffers_planner_order_1:Mt Tryz.prog 127=some ⟨23,z3x.r,[.tmp 5]⟩:=Aa
section stable
variable {g : Nat} {cap : List LV} {f : Int → Int} {Q : Int → Prop} {p kv : Nat}
def zoy(G:Mh)(K:LV→Mh→Prop)(z:K (.tup []) G):Oa (.fn 171) [.nilSl,.i 0,.i 0,.fn (.func g) [] cap] G K:=by
 refine Mq r_slices_insertionSortCmpFunc_int k_slices_insertionSortCmpFunc_int U ?_;simp[z0w];refine M2 (λA E j F=>E=[]∧j=G∧lk A 2=.i 0∧lk A 8=.i 1) (N:=0) ⟨rfl,rfl,U,U⟩ ?_;rintro F A E j ⟨rfl,rfl,B,C⟩ H D;simp[B,C];exact z
def zr7(G:Mh)(K:LV→Mh→Prop)(F:K (.tup []) G):Oa (.fn 126) [.nilSl,.fn (.func g) [] cap] G K:=by
 refine Mq r_slices_SortStableFunc_int_int k_slices_SortStableFunc_int_int U ?_;simp[xf];refine Mq r_slices_stableCmpFunc_int k_slices_stableCmpFunc_int U ?_;simp[wa];refine M2 (λj D B H=>D=[]∧B=G∧lk j 0=.nilSl∧lk j 1=.i 0∧lk j 2=.fn (.func g) [] cap∧lk j 6=.i 20∧lk j 7=.i 0∧lk j 8=.i 20) (N:=0) ⟨rfl,rfl,U,U,U,U,U,U⟩ ?_;rintro H j D B ⟨rfl,rfl,I,z,L,A,M,O⟩ R C;simp[I,z,L,A,M,O];refine zoy _ _ ?_;simp;refine M2 (λj D E H=>D=[]∧E=B∧lk j 1=.i 0∧lk j 6=.i 20) (N:=0) ⟨rfl,rfl,Ak,Af⟩ ?_;rintro H j D E ⟨rfl,rfl,z,A⟩ R C;simp[z,A];exact F
def Pu.set{G:Mh}{n:Nat}(h:Pu g cap f Q p kv G n)(o:LObj):Pu g cap f Q p kv (G.set p o) n:=by
 intro l' gg x y K qx qy hk;rw[Lh]at hk ⊢;exact h l' gg x y K qx qy hk
def zs1(l:List Int)(hl:l.length≤20)(G:Mh)(hc:Pu g cap f Q p kv G l.length)(st:Nat)(hQ:∀x∈l,Q x)(Y:G[p]?=some (.dyn (l.map .i) l.length 1 kv st))(K:LV→Mh→Prop)
  (hK:∀(A:List Int) (z:Nat),A.Perm l→kTo f A 0 l.length→K (.tup []) (G.set p (.dyn (A.map .i) l.length 1 kv z))) :
  Oa (.fn 126) [.dy p kv,.fn (.func g) [] cap] G K:=by
 refine Mq r_slices_SortStableFunc_int_int k_slices_SortStableFunc_int_int U ?_;simp[xf,Y];refine Mq r_slices_stableCmpFunc_int k_slices_stableCmpFunc_int U ?_;simp[wa];have gA:p<G.length:=(Hf.1 Y).1;refine M2 (λF gg M N=>gg=[]∧lk F 0=.dy p kv∧lk F 1=.i l.length∧lk F 2=.fn (.func g) [] cap∧lk F 6=.i 20∧((N=1∧M=G∧lk F 7=.i 0∧lk F 8=.i 20) ∨
   (N=0∧l.length=20∧lk F 7=.i 20∧lk F 8=.i 40∧∃A z,A.Perm l∧kTo f A 0 l.length∧M=G.set p (.dyn (A.map .i) l.length 1 kv z)))) (N:=1)
  ⟨rfl,U,U,U,U,.inl ⟨rfl,rfl,U,U⟩⟩ ?_
 rintro N F gg M ⟨rfl,Z,C,h2,B,⟨rfl,rfl,h7,R⟩|⟨rfl,gD,h7,R,O,D,j,S,rfl⟩⟩ Nx I
 ·by_cases e:l.length=20
  ·have T:(20:Int)≤l.length:=J
   simp[Z,C,h2,B,h7,R,T];refine z92 l 0 20 J J J M hc st hQ Y _ λA z j _ S=>?_
   simp[B,R];exact I _ _ _ ⟨0,J,rfl,A6,Au,Bp,Ad,.inr ⟨rfl,e,U,U,A,z,j,by rw[e];exact S,rfl⟩⟩
  ·have T:¬(20:Int)≤l.length:=J
   simp[Z,C,h2,B,h7,R,T];refine z92 l 0 l.length J J J M hc st hQ Y _ λA z j _ S=>?_
   simp;refine M2 (λF gg V N=>gg=[]∧V=M.set p (.dyn (A.map .i) l.length 1 kv z)∧lk F 1=.i l.length∧lk F 6=.i 20) (N:=0) ⟨rfl,rfl,Au,Ad⟩ ?_;rintro N F gg V ⟨rfl,rfl,C,B⟩ Nx I;have g2:¬(20:Int)<l.length:=J
   simp[C,B,g2];exact hK _ _ j S
 ·have T:¬(40:Int)≤l.length:=J
  have L:=j.length_eq;simp[Z,C,h2,B,h7,R,T];have gB:(G.set p (.dyn (O.map .i) l.length 1 kv D))[p]?=some (.dyn (O.map .i) O.length 1 kv D):=by rw[Hi gA,L]
  have X:=λK2=>z92 O 20 O.length J J J (G.set p (.dyn (O.map .i) l.length 1 kv D)) (by rw[L];exact hc.set _) D (λx hx=>hQ x (j.mem_iff.1 hx)) gB K2
  simp only[L]at X;refine X _ λA z E H _=>?_
  simp;refine M2 (λF gg V N=>gg=[]∧V=G.set p (.dyn (A.map .i) l.length 1 kv z)∧lk F 1=.i l.length∧lk F 6=.i 20) (N:=0) ⟨rfl,rfl,Au,Ad⟩ ?_;rintro N F gg V ⟨rfl,rfl,C,B⟩ Nx I;have g2:¬(20:Int)<l.length:=J
  simp[C,B,g2];refine hK _ _ (E.trans j) λu v hu gC hv=>?_
  rw[H u J,H v J];exact S u v hu gC hv
end stable
def Pg(vs:List Vr)(os rs:List Ko)(ss:List Sp)(plv:LV)(s0 s1:Nat):List LV:=[.lst (Mz vs) vs.length 3,.lst (M6 os) os.length 7,.lst (M6 rs) rs.length 7,.lst (Mu ss) ss.length 2,plv,.ptr s0 0,.ptr s1 0]
section pln
variable {G : Mh} {K : LV → Mh → Prop} {P pst : Nat} {vs : List Vr} {os rs : List Ko} {ss : List Sp} {plv : LV} {s0 s1 : Nat}
def zbv(C:G[P]?=some (.cells (Pg vs os rs ss plv s0 s1) pst)){v:Nat}(A:v<vs.length)(k:K (.ptr (if (gv vs v).sec=true then s1 else s0) 0) G):Oa (.fn 90) [.ptr P 0,.i v] G K:=by
 refine Mq r_buffers_planner_of Aa U ?_;have B:=nk (P8 A);have z:=S2 A;have j:v*3+1<(Mz vs).length:=J
 cases D:(gv vs v).sec with
 |true =>
  rw[D]at k B;simp[z3u,C,Pg,A,Mi B,z,j];exact k
 |false =>
  rw[D]at k B;simp[z3u,C,Pg,A,Mi B,z,j];exact k
def znp{cst:Nat}(B:G[P]?=some (.cells (Pg vs os rs ss plv s0 s1) pst))(C:G[j]?=some (.cells [.ptr P 0] cst)){v w:Int}(D:0≤v∧v<ss.length)(hw:0≤w∧w<ss.length)(k:K (.i (Ps (gs ss v.toNat).1 (gs ss w.toNat).1)) G) :
  Oa (.fn 127) [.i v,.i w,.ptr j 0] G K:=by
 refine Mq r_buffers_planner_order_1 Aa U ?_;have z:v.toNat<ss.length:=J
 have A:w.toNat<ss.length:=J
 have E:=pk z;have F:=pk A;simp[z3x,B,C,Pg,D,hw,Mi E,Mi F];refine Mv (zie (gs ss v.toNat).1 (gs ss w.toNat).1) U ?_;simp;exact k
end pln
end
section
set_option linter.unusedVariables false
def z2y:LC:=(.q [.K 10 0] (.block 0 (.loop (.seq (.q [.m 11 10,.m 12 3,.c 13 .lss 3 11 12] (.cond (.t 13) .skip (.exit 0))) (.seq (.block 1 (.draw [(.m 16 0,[]),(.m 17 1,[]),(.m 18 10,[]),(.c 19 .add 3 17 18,[]),(.m 20 0,[]),(.m 21 2,[]),(.m 22 10,[]),(.c 23 .add 3 21 22,[]),(.m 24 0,[]),(.m 25 2,[]),(.m 26 10,[]),(.c 27 .add 3 25 26,[]),(.I 28 1 24 27,[]),(.l 29 28,[]),(.m 30 0,[]),(.m 31 1,[]),(.m 32 10,[]),(.c 33 .add 3 31 32,[]),(.I 34 1 30 33,[]),(.l 35 34,[]),(.I 36 1 16 19,[]),(.S 1 36 29,[]),(.I 37 1 20 23,[]),(.S 1 37 35,[])])) (.ops [.m 14 10,.b 15 .add 3 14 1,.m 10 15]))))))
def r_slices_swapRangeCmpFunc_int:Mt Tryz.prog 180=some ⟨38,z2y.r,[]⟩:=Aa
def z3q:LC:=(.q [.m 12 2,.m 13 1,.c 14 .sub 3 12 13,.m 10 14] (.q [.m 15 3,.m 16 2,.c 17 .sub 3 15 16,.m 11 17] (.seq (.block 0 (.loop (.seq (.q [.m 18 10,.m 19 11,.c 20 .neq 3 18 19] (.cond (.t 20) .skip (.exit 0))) (.block 1 (.q [.m 21 10,.m 22 11,.c 23 .gtr 3 21 22] (.cond (.t 23) (.q [.m 24 0,.m 25 2,.m 26 10,.c 27 .sub 3 25 26,.m 28 2,.m 29 11,.m 30 4,.z 31 (.w 180 [.t 24,.t 27,.t 28,.t 29,.t 30])] (.ops [.m 32 10,.m 33 11,.c 34 .sub 3 32 33,.m 10 34])) (.q [.m 35 0,.m 36 2,.m 37 10,.c 38 .sub 3 36 37,.m 39 2,.m 40 11,.c 41 .add 3 39 40,.m 42 10,.c 43 .sub 3 41 42,.m 44 10,.m 45 4,.z 46 (.w 180 [.t 35,.t 38,.t 43,.t 44,.t 45])] (.ops [.m 47 11,.m 48 10,.c 49 .sub 3 47 48,.m 11 49])))))))) (.ops [.m 50 0,.m 51 2,.m 52 10,.c 53 .sub 3 51 52,.m 54 2,.m 55 10,.m 56 4,.z 57 (.w 180 [.t 50,.t 53,.t 54,.t 55,.t 56])]))))
def r_slices_rotateCmpFunc_int:Mt Tryz.prog 178=some ⟨58,z3q.r,[]⟩:=Aa
def Tq:LC:=(.seq (.q [.m 25 2,.m 26 1,.c 27 .sub 3 25 26,.b 28 .eql 3 27 1] (.cond (.t 28) (.q [.m 29 2,.m 10 29] (.q [.m 30 3,.m 11 30] (.seq (.block 0 (.loop (.seq (.q [.m 31 10,.m 32 11,.c 33 .lss 3 31 32] (.cond (.t 33) .skip (.exit 0))) (.block 1 (.q [.m 34 10,.m 35 11,.c 36 .add 3 34 35,.z 37 (.cvInt .u64 (.t 36)),.u 38 .shr 110 37 1,.z 39 (.cvInt .i64 (.t 38)),.m 12 39] (.seq (.draw [(.m 40 4,[]),(.m 41 0,[]),(.m 42 12,[]),(.I 43 1 41 42,[]),(.l 44 43,[]),(.m 45 0,[]),(.m 46 1,[]),(.I 47 1 45 46,[]),(.l 48 47,[]),(.z 49 (.callV (.t 40) [.t 44,.t 48]),[]),(.b 50 .lss 3 49 0,[])]) (.cond (.t 50) (.ops [.m 51 12,.b 52 .add 3 51 1,.m 10 52]) (.ops [.m 53 12,.m 11 53])))))))) (.seq (.q [.m 54 1,.m 13 54] (.block 2 (.loop (.seq (.q [.m 55 13,.m 56 10,.b 57 .sub 3 56 1,.c 58 .lss 3 55 57] (.cond (.t 58) .skip (.exit 2))) (.seq (.block 3 (.draw [(.m 61 0,[]),(.m 62 13,[]),(.m 63 0,[]),(.m 64 13,[]),(.b 65 .add 3 64 1,[]),(.m 66 0,[]),(.m 67 13,[]),(.b 68 .add 3 67 1,[]),(.I 69 1 66 68,[]),(.l 70 69,[]),(.m 71 0,[]),(.m 72 13,[]),(.I 73 1 71 72,[]),(.l 74 73,[]),(.I 75 1 61 62,[]),(.S 1 75 70,[]),(.I 76 1 63 65,[]),(.S 1 76 74,[])])) (.ops [.m 59 13,.b 60 .add 3 59 1,.m 13 60])))))) .ret)))) .skip)) (.seq (.q [.m 77 3,.m 78 2,.c 79 .sub 3 77 78,.b 80 .eql 3 79 1] (.cond (.t 80) (.q [.m 81 1,.m 14 81] (.q [.m 82 2,.m 15 82] (.seq (.block 4 (.loop (.seq (.q [.m 83 14,.m 84 15,.c 85 .lss 3 83 84] (.cond (.t 85) .skip (.exit 4))) (.block 5 (.q [.m 86 14,.m 87 15,.c 88 .add 3 86 87,.z 89 (.cvInt .u64 (.t 88)),.u 90 .shr 110 89 1,.z 91 (.cvInt .i64 (.t 90)),.m 16 91] (.seq (.draw [(.m 92 4,[]),(.m 93 0,[]),(.m 94 2,[]),(.I 95 1 93 94,[]),(.l 96 95,[]),(.m 97 0,[]),(.m 98 16,[]),(.I 99 1 97 98,[]),(.l 100 99,[]),(.z 101 (.callV (.t 92) [.t 96,.t 100]),[]),(.b 102 .lss 3 101 0,[]),(.z 103 (.un .not (.t 102)),[])]) (.cond (.t 103) (.ops [.m 104 16,.b 105 .add 3 104 1,.m 14 105]) (.ops [.m 106 16,.m 15 106])))))))) (.seq (.q [.m 107 2,.m 17 107] (.block 6 (.loop (.seq (.q [.m 108 17,.m 109 14,.c 110 .gtr 3 108 109] (.cond (.t 110) .skip (.exit 6))) (.seq (.block 7 (.draw [(.m 113 0,[]),(.m 114 17,[]),(.m 115 0,[]),(.m 116 17,[]),(.b 117 .sub 3 116 1,[]),(.m 118 0,[]),(.m 119 17,[]),(.b 120 .sub 3 119 1,[]),(.I 121 1 118 120,[]),(.l 122 121,[]),(.m 123 0,[]),(.m 124 17,[]),(.I 125 1 123 124,[]),(.l 126 125,[]),(.I 127 1 113 114,[]),(.S 1 127 122,[]),(.I 128 1 115 117,[]),(.S 1 128 126,[])])) (.ops [.m 111 17,.b 112 .sub 3 111 1,.m 17 112])))))) .ret)))) .skip)) (.q [.m 129 1,.m 130 3,.c 131 .add 3 129 130,.z 132 (.cvInt .u64 (.t 131)),.u 133 .shr 110 132 1,.z 134 (.cvInt .i64 (.t 133)),.m 18 134] (.q [.m 135 18,.m 136 2,.c 137 .add 3 135 136,.m 19 137] (.q [.K 20 0,.K 21 0] (.seq (.q [.m 138 2,.m 139 18,.c 140 .gtr 3 138 139] (.cond (.t 140) (.q [.m 141 19,.m 142 3,.c 143 .sub 3 141 142,.m 20 143] (.ops [.m 144 18,.m 21 144])) (.q [.m 145 1,.m 20 145] (.ops [.m 146 2,.m 21 146])))) (.q [.m 147 19,.b 148 .sub 3 147 1,.m 22 148] (.seq (.block 8 (.loop (.seq (.q [.m 149 20,.m 150 21,.c 151 .lss 3 149 150] (.cond (.t 151) .skip (.exit 8))) (.block 9 (.q [.m 152 20,.m 153 21,.c 154 .add 3 152 153,.z 155 (.cvInt .u64 (.t 154)),.u 156 .shr 110 155 1,.z 157 (.cvInt .i64 (.t 156)),.m 23 157] (.seq (.draw [(.m 158 4,[]),(.m 159 0,[]),(.m 160 22,[]),(.m 161 23,[]),(.c 162 .sub 3 160 161,[]),(.I 163 1 159 162,[]),(.l 164 163,[]),(.m 165 0,[]),(.m 166 23,[]),(.I 167 1 165 166,[]),(.l 168 167,[]),(.z 169 (.callV (.t 158) [.t 164,.t 168]),[]),(.b 170 .lss 3 169 0,[]),(.z 171 (.un .not (.t 170)),[])]) (.cond (.t 171) (.ops [.m 172 23,.b 173 .add 3 172 1,.m 20 173]) (.ops [.m 174 23,.m 21 174])))))))) (.q [.m 175 19,.m 176 20,.c 177 .sub 3 175 176,.m 24 177] (.seq (.q [.m 178 20,.m 179 2,.c 180 .lss 3 178 179,.m 181 180,.my 182 181 2,.my 183 181 24,.y 184 181 (.bin .lss false 3 (.t 182) (.t 183)),.q 185 181 184] (.cond (.t 185) (.ops [.m 186 0,.m 187 20,.m 188 2,.m 189 24,.m 190 4,.z 191 (.w 178 [.t 186,.t 187,.t 188,.t 189,.t 190])]) .skip)) (.seq (.q [.m 192 1,.m 193 20,.c 194 .lss 3 192 193,.m 195 194,.my 196 195 20,.my 197 195 18,.y 198 195 (.bin .lss false 3 (.t 196) (.t 197)),.q 199 195 198] (.cond (.t 199) (.ops [.m 200 0,.m 201 1,.m 202 20,.m 203 18,.m 204 4,.z 205 (.w 172 [.t 200,.t 201,.t 202,.t 203,.t 204])]) .skip)) (.q [.m 206 18,.m 207 24,.c 208 .lss 3 206 207,.m 209 208,.my 210 209 24,.my 211 209 3,.y 212 209 (.bin .lss false 3 (.t 210) (.t 211)),.q 213 209 212] (.cond (.t 213) (.ops [.m 214 0,.m 215 18,.m 216 24,.m 217 3,.m 218 4,.z 219 (.w 172 [.t 214,.t 215,.t 216,.t 217,.t 218])]) .skip)))))))))))))
def r_slices_symMergeCmpFunc_int:Mt Tryz.prog 172=some ⟨220,Tq.r,[]⟩:=Aa
def k_slices_symMergeCmpFunc_int:Tq.ok=true:=Aa
section turn
variable {p kv L : Nat} {G : Mh} {c : LV}
def z8r(R P gB gC S:List Int)(hn:P.length=gC.length)(hL:(R++(P++(gB++(gC++S)))).length=L)(gE:L≤100000)(l:List Int)(hl:l=R++(P++(gB++(gC++S))))(st a b n:Nat)(ha:a=R.length)(hb:b=R.length+P.length+gB.length)(gF:n=P.length)
  (hp:G[p]?=some (.dyn (l.map .i) L 1 kv st)) (gG:LV→Mh→Prop) (hK:∀j,gG (.tup []) (G.set p (.dyn ((R++(gC++(gB++(P++S)))).map .i) L 1 kv j))) :
  Oa (.fn 180) [.dy p kv,.i a,.i b,.i n,c] G gG:=by
 refine Mq r_slices_swapRangeCmpFunc_int Aa U ?_;simp[z2y];have T:p<G.length:=(Hf.1 hp).1;have C:G=G.set p (.dyn (l.map .i) L 1 kv st):=by
  have:=(Hf.1 hp).2;rw[←this,J5]
 have V:∀x,(G.set p x)[p]?=some x:=λx=>Bn
 obtain⟨gD,hT⟩:∃gD,gD=R++(gC++(gB++(P++S))):=⟨_,rfl⟩;rw[←hT]at hK;simp at hL;refine M2 (λρ gH G' N=>∃(i:Nat) (D B I E A:List Int) (j:Nat),gH=[]∧G'=G.set p (.dyn (A.map .i) L 1 kv j)∧N=B.length∧A=D++(B++(I++(E++S)))∧B.length=E.length∧D.length=a+i∧D.length+B.length+I.length=b+i∧B.length+i=n∧A.length=L∧D++(E++(I++(B++S)))=gD ∧
   lk ρ 0=.dy p kv∧lk ρ 1=.i a∧lk ρ 2=.i b∧lk ρ 3=.i n∧lk ρ 10=.i i)
  (N:=P.length) ⟨0,R,P,gB,gC,l,st,rfl,C,rfl,hl,hn,J,J,J,Ck,hT.symm,U,U,U,U,U⟩ ?_
 rintro N ρ gH G' ⟨i,D,B,I,E,A,j,rfl,rfl,rfl,K,F,e1,e2,e3,z,M,h0,h1,h2,X,O⟩ Nx Y;cases B with
 |nil =>
  have hY:E=[]:=by cases E with
   |nil=>rfl
   |cons _ _=>simp at F
  subst hY;have Z:¬i<n:=by simp at e3;omega
  simp[X,O,Z];have:A=gD:=by rw[K,←M]
  rw[this];exact hK j
 |cons x X2 =>
  cases E with
  |nil=>simp at F
  |cons y Y2 =>
   have H:A=D++x::((X2++I)++y::(Y2++S)):=by rw[K];simp
   simp at e2 e3 F;have b1:a+i<L:=by rw[←z,H];simp;omega
   have b2:b+i<L:=by rw[←z,H];simp;omega
   have Z:i<n:=J
   have gg:=Pf (f:=LV.i) (Po (l:=A) (u:=a+i) J);have gA:=Pf (f:=LV.i) (Po (l:=A) (u:=b+i) J);have w0:(a:Int)+i<L:=J
   have w1:(b:Int)+i<L:=J
   have t0:((a:Int)+i).toNat=a+i:=J
   have t1:((b:Int)+i).toNat=b+i:=J
   have ne:b+i≠a+i:=J
   have v0:(0:Int)≤(a:Int)+i:=J
   have v1:(0:Int)≤(b:Int)+i:=J
   have u0:-9223372036854775808≤(a:Int)+i∧(a:Int)+i<9223372036854775808:=J
   have u1:-9223372036854775808≤(b:Int)+i∧(b:Int)+i<9223372036854775808:=J
   simp[h0,h1,h2,X,O,Z,V,Mi gg,Mi gA,t0,t1,w0,w1,v0,v1,u0,u1];rw[U7 A (a+i) _ J,U7 _ (b+i) _ Ab];refine⟨J,Ab,J,Y _ _ _ ⟨X2.length,U,i+1,D++[y],X2,I++[x],Y2,ud A (a+i) (b+i),j+1+1,rfl,rfl,rfl,?_,J,Ab,Ab,J,by simp[ud,z],by rw[←M];simp,Cs,Cb,Bp,by simp[X],U⟩⟩;rw[H,zv3 J Ab];simp
def zro(gD gB gC gF:List Int)(hX:gB≠[])(hY:gC≠[])(hL:(gD++(gB++(gC++gF))).length=L)(R:L≤100000)(l:List Int)(hl:l=gD++(gB++(gC++gF)))(st a m b:Nat)(ha:a=gD.length)(hm:m=gD.length+gB.length)(hb:b=gD.length+gB.length+gC.length)
  (hp:G[p]?=some (.dyn (l.map .i) L 1 kv st)) (gI:LV→Mh→Prop) (hK:∀C,gI (.tup []) (G.set p (.dyn ((gD++(gC++(gB++gF))).map .i) L 1 kv C))) :
  Oa (.fn 178) [.dy p kv,.i a,.i m,.i b,c] G gI:=by
 refine Mq r_slices_rotateCmpFunc_int Aa U ?_;simp[z3q];have gE:p<G.length:=(Hf.1 hp).1;have S:G=G.set p (.dyn (l.map .i) L 1 kv st):=by
  have:=(Hf.1 hp).2;rw[←this,J5]
 have M:∀x,(G.set p x)[p]?=some x:=λx=>Er
 obtain⟨gG,hT⟩:∃gG,gG=gD++(gC++(gB++gF)):=⟨_,rfl⟩;rw[←hT]at hK;simp at hL;have x0:0<gB.length:=List.length_pos_iff.2 hX;have y0:0<gC.length:=List.length_pos_iff.2 hY;refine⟨J,J,?_⟩;refine M2 (λρ gK G' N=>∃(B H I K T:List Int) (C z j:Nat),gK=[]∧G'=G.set p (.dyn (T.map .i) L 1 kv C)∧N=z+j∧T=B++(H++(I++K))∧B.length+H.length=m∧T.length=L∧0<z∧0<j∧z=H.length∧j=I.length∧B++(I++(H++K))=gG ∧
   lk ρ 0=.dy p kv∧lk ρ 2=.i m∧lk ρ 4=c∧lk ρ 10=.i z∧lk ρ 11=.i j)
  (N:=gB.length+gC.length) ⟨gD,gB,gC,gF,l,st,_,_,rfl,S,rfl,hl,J,Ck,x0,y0,rfl,rfl,hT.symm,U,U,U,Ab,Ab⟩ ?_
 rintro N ρ gK G' ⟨B,H,I,K,T,C,z,j,rfl,rfl,rfl,O,e1,gg,x1,y1,ex,ey,V,h0,h2,h4,E,F⟩ Nx gA;have A:=gg;rw[O]at A;simp at A;have ea:(m:Int)-z=(B.length:Nat):=J
 have gH:∀x,(G.set p x)[p]?=some x:=M;have X:∀x y:LObj,(G.set p x).set p y=G.set p y:=λx y=>Lh ..
 have r1:(B.length:Int)<9223372036854775808:=J
 by_cases g:z=j
 ·subst g;simp[h0,h2,h4,E,F,ea,r1];refine z8r (L:=L) B H [] I K J Ab R T B6 C B.length m _ rfl Ab ex (M _) _ λP=>?_
  rw[X,J2,V];simp;exact hK _
 ·have gz:¬(z:Int)=j:=J
  by_cases g2:j<z
  ·have gy:(j:Int)<z:=J
   simp[h0,h2,h4,E,F,gz,gy,ea,r1];obtain⟨Z,X2,rfl,f1⟩:∃Z X2,H=Z++X2∧Z.length=j:=⟨H.take j,H.drop j,(H9 ..).symm,Ab⟩;simp at ex e1 A;refine z8r (L:=L) B Z X2 I K J Ab R T B6 C B.length m _ rfl J f1.symm (M _) _ λP=>?_
   obtain⟨Y,D⟩:∃Y,Y=B++(I++(X2++(Z++K))):=⟨_,rfl⟩;rw[X,←D];simp[E,F];refine⟨J,gA _ _ _ ⟨z-j+j,J,B++I,X2,Z,K,Y,P,z-j,j,rfl,rfl,rfl,by rw[D];simp,Ab,by rw[D];simp;omega,J,y1,J,f1.symm,by rw[←V];simp,Cs,Bp,Df,Ab,Ah⟩⟩
  ·have g3:z<j:=J
   obtain⟨Y1,Y2,rfl,f1,f2⟩:∃Y1 Y2,I=Y1++Y2∧Y2.length=z∧Y1.length=j-z:=⟨I.take (j-z),I.drop (j-z),(H9 ..).symm,Ab,Ab⟩;simp at ey e1 A;have eb:(m:Int)+j-z=(m+j-z:Nat):=J
   have r2:-9223372036854775808≤(m:Int)+j∧(m:Int)+j<9223372036854775808:=J
   have r3:-9223372036854775808≤((m+j-z:Nat):Int)∧((m+j-z:Nat):Int)<9223372036854775808:=J
   simp[h0,h2,h4,E,F,gz,g2,ea,r1,r2,eb];refine⟨r3.2,z8r (L:=L) B H Y1 Y2 K J Ab R T B6 C B.length (m+j-z) _ rfl J ex (M _) _ λP=>?_⟩;obtain⟨Y,D⟩:∃Y,Y=B++(Y2++(Y1++(H++K))):=⟨_,rfl⟩;rw[X,←D];simp[E,F];refine⟨J,gA _ _ _ ⟨j-z+z,J,B,Y2,Y1,H++K,Y,P,z,j-z,rfl,rfl,J,D,J,by rw[D];simp;omega,x1,J,f1.symm,f2.symm,by rw[←V];simp,Cs,Bp,Df,Av,Ab⟩⟩
end turn
section merge
variable {g : Nat} {cap : List LV} {f : Int → Int} {Q : Int → Prop} {p kv L : Nat} {G : Mh}
def zrc(A Y gD:List Int)(x:Int)(hS:Nq f Y)(hL:(A++(x::(Y++gD))).length=L)(gL:L≤100000)(l:List Int)(hl:l=A++(x::(Y++gD)))(st a m b:Nat)(ha:a=A.length)(hm:m=A.length+1)(hb:b=A.length+1+Y.length)
  (hc:Pu g cap f Q p kv G L) (hQ:∀x∈l,Q x) (hp:G[p]?=some (.dyn (l.map .i) L 1 kv st)) (gO:LV→Mh→Prop) (hK:∀gM B,gM.Perm (x::Y)→Nq f gM→gO (.tup []) (G.set p (.dyn ((A++(gM++gD)).map .i) L 1 kv B))) :
  Oa (.fn 172) [.dy p kv,.i a,.i m,.i b,.fn (.func g) [] cap] G gO:=by
 refine Mq r_slices_symMergeCmpFunc_int k_slices_symMergeCmpFunc_int U ?_;have gE:p<G.length:=(Hf.1 hp).1;have M:G=G.set p (.dyn (l.map .i) L 1 kv st):=by
  have:=(Hf.1 hp).2;rw[←this,J5]
 have O:∀x,(G.set p x)[p]?=some x:=λx=>Er
 have m1:(m:Int)-a=1:=J
 simp at hL;have gF:l.length=L:=Ck
 simp[Tq,m1];refine M2 (λρ gK G' N=>∃(i K:Nat),gK=[]∧G'=G.set p (.dyn (l.map .i) L 1 kv st)∧N+i=K∧m≤i∧K≤b∧(∀y∈Y.take (i-m),f y≤f x)∧(∀y∈Y.drop (K-m),f x≤f y) ∧
   lk ρ 0=.dy p kv∧lk ρ 1=.i a∧lk ρ 4=.fn (.func g) [] cap∧lk ρ 10=.i i∧lk ρ 11=.i K)
  (N:=b-m) ⟨m,b,rfl,M,J,J,J,U,by rw[K4 J];simp,U,U,U,U,U⟩ ?_
 rintro N ρ gK G' ⟨i,K,rfl,rfl,hN,hi,hj,P,R,D,h1,h4,j,S⟩ Nx C;by_cases gG:i<K
 ·have E:(Pb (iU ((i:Int)+K)) 1).toNat=(i+K)/2:=by
   rw[wu,(J:(i:Int)+K=((i+K:Nat):Int)),lu J]
  obtain⟨q,hq⟩:∃q,q=(i+K)/2:=⟨_,rfl⟩;rw[←hq]at E;have gg:gd l q=gd Y (q-m):=by
   rw[hl,uw J,(J:q-A.length=(q-m)+1)];exact zfa (X:=Y) J
  have gA:gd l a=x:=by rw[hl];exact wi ha
  have T:=Pf (f:=LV.i) (Po (l:=l) (u:=q) J);have V:=Pf (f:=LV.i) (Po (l:=l) (u:=a) J);have w0:q<L:=J
  have w1:a<L:=J
  have qa:Q (gd l q):=hQ _ (Ic.2 ⟨q,Po J⟩);have qb:Q (gd l a):=hQ _ (Ic.2 ⟨a,Po J⟩);have r1:-9223372036854775808≤(i:Int)+K∧(i:Int)+K<9223372036854775808:=J
  have r2:q<9223372036854775808:=J
  simp[D,h1,h4,j,S,gG,E,O,Mi T,Mi V,w0,w1,r1,r2];refine hc l st _ _ _ qa qb ?_;by_cases z:f (gd l q)<f (gd l a)
  ·have hz:Ps (f (gd l q)) (f (gd l a))<0:=i4.2 z;simp[hz,j];refine⟨J,C _ _ _ ⟨K-(q+1),J,q+1,K,rfl,rfl,J,J,hj,λy hy=>?_,R,Ai,Cb,Df,U,by simp[S]⟩⟩;rw[(J:q+1-m=(q-m)+1)]at hy;have:=hS.take_le (t:=q-m) J y hy;rw[gA]at z;rw[gg]at z;omega
  ·have hz:¬Ps (f (gd l q)) (f (gd l a))<0:=λh=>z (i4.1 h)
   simp[hz,j];refine C _ _ _ ⟨q-i,J,i,q,rfl,rfl,J,J,J,P,λy hy=>?_,Ai,Cb,Df,As,U⟩;have:=hS.drop_ge (t:=q-m) J y hy;rw[gA]at z;rw[gg]at z;omega
 ·obtain rfl:i=K:=J
  simp[D,h1,h4,j,S,O];obtain⟨t,ht⟩:∃t,t=i-m:=⟨_,rfl⟩;rw[←ht]at P R;have gH:=zj1 hS P R;have gI:(Y.take t++x::Y.drop t).Perm (x::Y):=by
   have:=Jc (a:=x) (l₁:=Y.take t) (l₂:=Y.drop t)
   rwa [H9]at this
  refine M2 (λρ gK G' N=>∃(k:Nat) (F P2 H:List Int) (B:Nat),gK=[]∧G'=G.set p (.dyn (H.map .i) L 1 kv B)∧N=P2.length∧F++P2=Y.take t∧H=(A++F)++x::(P2++(Y.drop t++gD))∧H.length=L∧k=A.length+F.length ∧
    lk ρ 0=.dy p kv∧lk ρ 10=.i i∧lk ρ 13=.i k)
   (N:=t) ⟨a,[],Y.take t,l,st,rfl,rfl,Bb,rfl,?_,gF,by simp[ha],Ai,As,U⟩ ?_
  ·rw[←H7 (Y.take t),H9,hl];simp
  rintro N ρ gK G' ⟨k,F,P2,H,B,rfl,rfl,rfl,hP,Z,I,hk,D,j,gB⟩ Nx C;have gC:F.length+P2.length=t:=by
   have:=congrArg List.length hP;simp at this;omega
  have i1:-9223372036854775808≤(i:Int)-1∧(i:Int)-1<9223372036854775808:=J
  cases P2 with
  |nil =>
   have c1:¬(k:Int)<(i:Int)-1:=by simp at gC;omega
   simp[j,gB,i1,c1];rw[Z,←Ip F,hP,(U:A++Y.take t++x::([]++(Y.drop t++gD))=A++((Y.take t++x::Y.drop t)++gD))];exact hK _ _ gI gH
  |cons y P2 =>
   simp at gC;have c1:(k:Int)<(i:Int)-1:=J
   have k1:k+1<L:=by rw[←I,Z];simp;omega
   have T:=Pf (f:=LV.i) (Po (l:=H) (u:=k) J);have V:=Pf (f:=LV.i) (Po (l:=H) (u:=k+1) J);have t1:((k:Int)+1).toNat=k+1:=J
   have w0:k<L:=J
   have w1:(k:Int)+1<L:=J
   have v1:(0:Int)≤(k:Int)+1:=J
   have u1:-9223372036854775808≤(k:Int)+1∧(k:Int)+1<9223372036854775808:=J
   simp[D,j,gB,i1,c1,O,Mi T,Mi V,t1,w0,w1,v1,u1];rw[U7 H k _ J,U7 _ (k+1) _ Ab];refine⟨J,Ab,C _ _ _ ⟨P2.length,U,k+1,F++[y],P2,ud H k (k+1),B+1+1,rfl,rfl,rfl,by rw[←hP];simp,?_,by simp[ud,I],Ab,Ai,As,U⟩⟩;have:=zv3 (A:=A++F) (X:=[]) (x:=x) (y:=y) (Y:=P2++(Y.drop t++gD)) (a:=k) (b:=k+1) Ab Ab;rw[Z];simp at this ⊢;exact this
def zrl(X z gE:List Int)(y:Int)(hX:1<z.length)(hS:Nq f z)(hL:(X++(z++(y::gE))).length=L)(gP:L≤100000)(l:List Int)(hl:l=X++(z++(y::gE)))(st a m b:Nat)(ha:a=X.length)(hm:m=X.length+z.length)(hb:b=X.length+z.length+1)
  (hc:Pu g cap f Q p kv G L) (hQ:∀x∈l,Q x) (hp:G[p]?=some (.dyn (l.map .i) L 1 kv st)) (gR:LV→Mh→Prop) (hK:∀gQ C,gQ.Perm (z++[y])→Nq f gQ→gR (.tup []) (G.set p (.dyn ((X++(gQ++gE)).map .i) L 1 kv C))) :
  Oa (.fn 172) [.dy p kv,.i a,.i m,.i b,.fn (.func g) [] cap] G gR:=by
 refine Mq r_slices_symMergeCmpFunc_int k_slices_symMergeCmpFunc_int U ?_;have gF:p<G.length:=(Hf.1 hp).1;have M:G=G.set p (.dyn (l.map .i) L 1 kv st):=by
  have:=(Hf.1 hp).2;rw[←this,J5]
 have O:∀x,(G.set p x)[p]?=some x:=λx=>by simp[gF]
 simp at hL;have m0:-9223372036854775808≤(m:Int)-a∧(m:Int)-a<9223372036854775808:=J
 have m1:¬(m:Int)-a=1:=J
 have m2:(b:Int)-m=1:=J
 have gG:l.length=L:=Ck
 simp[Tq,m0,m1,m2];refine M2 (λY gO Z N=>∃(i K:Nat),gO=[]∧Z=G.set p (.dyn (l.map .i) L 1 kv st)∧N+i=K∧a≤i∧K≤m∧(∀u∈z.take (i-a),f u≤f y)∧(∀u∈z.drop (K-a),f y≤f u) ∧
   lk Y 0=.dy p kv∧lk Y 2=.i m∧lk Y 4=.fn (.func g) [] cap∧lk Y 14=.i i∧lk Y 15=.i K)
  (N:=m-a) ⟨a,m,rfl,M,J,J,J,U,by rw[K4 J];simp,U,U,U,U,U⟩ ?_
 rintro N Y gO Z ⟨i,K,rfl,rfl,hN,hi,hj,P,R,F,h2,h4,j,S⟩ Nx D;by_cases gH:i<K
 ·have H:(Pb (iU ((i:Int)+K)) 1).toNat=(i+K)/2:=by
   rw[wu,(J:(i:Int)+K=((i+K:Nat):Int)),lu J]
  obtain⟨q,hq⟩:∃q,q=(i+K)/2:=⟨_,rfl⟩;rw[←hq]at H;have gg:gd l q=gd z (q-a):=by
   rw[hl,uw J,zfa J,ha]
  have gA:gd l m=y:=by rw[hl,←H7];exact wi Ab
  have T:=Pf (f:=LV.i) (Po (l:=l) (u:=q) J);have V:=Pf (f:=LV.i) (Po (l:=l) (u:=m) J);have w0:q<L:=J
  have w1:m<L:=J
  have qa:Q (gd l q):=hQ _ (Ic.2 ⟨q,Po J⟩);have qb:Q (gd l m):=hQ _ (Ic.2 ⟨m,Po J⟩);have r1:-9223372036854775808≤(i:Int)+K∧(i:Int)+K<9223372036854775808:=J
  have r2:q<9223372036854775808:=J
  simp[F,h2,h4,j,S,gH,H,O,Mi T,Mi V,w0,w1,r1,r2];refine hc l st _ _ _ qb qa ?_;by_cases A:f (gd l m)<f (gd l q)
  ·have hz:Ps (f (gd l m)) (f (gd l q))<0:=i4.2 A;simp[hz,j];refine D _ _ _ ⟨q-i,J,i,q,rfl,rfl,J,J,J,P,λu hu=>?_,Ah,Bp,Df,As,U⟩;have:=hS.drop_ge (t:=q-a) J u hu;rw[gA]at A;rw[gg]at A;omega
  ·have hz:¬Ps (f (gd l m)) (f (gd l q))<0:=λh=>A (i4.1 h)
   have gI:0≤Ps (f (gd l m)) (f (gd l q)):=J
   simp[hz,gI,j];refine⟨J,D _ _ _ ⟨K-(q+1),J,q+1,K,rfl,rfl,J,J,hj,λu hu=>?_,R,Ah,Bp,Df,U,by simp[S]⟩⟩;rw[(J:q+1-a=(q-a)+1)]at hu;have:=hS.take_le (t:=q-a) J u hu;rw[gA]at A;rw[gg]at A;omega
 ·obtain rfl:i=K:=J
  simp[F,h2,h4,j,S,O];obtain⟨t,ht⟩:∃t,t=i-a:=⟨_,rfl⟩;rw[←ht]at P R;have gK:=zj1 hS P R;have gL:(z.take t++y::z.drop t).Perm (z++[y]):=by
   have:=(Jc (a:=y) (l₁:=z.take t) (l₂:=z.drop t)).trans (List.perm_append_singleton y (z.take t++z.drop t)).symm
   rwa [H9]at this
  refine M2 (λY gO Z N=>∃(k:Nat) (B P2 E:List Int) (C:Nat),gO=[]∧Z=G.set p (.dyn (E.map .i) L 1 kv C)∧N=B.length∧B++P2=z.drop t∧E=(X++(z.take t++B))++y::(P2++gE)∧E.length=L∧k=X.length+t+B.length ∧
    lk Y 0=.dy p kv∧lk Y 14=.i i∧lk Y 17=.i k)
   (N:=z.length-t) ⟨m,z.drop t,[],l,st,rfl,rfl,U,U,?_,gG,Ab,Ah,As,U⟩ ?_
  ·rw[H9,hl];simp
  rintro N Y gO Z ⟨k,B,P2,E,C,rfl,rfl,rfl,hP,gB,I,hk,F,j,gC⟩ Nx D;have gM:B.length+P2.length=z.length-t:=by
   have:=congrArg List.length hP;simp at this;omega
  rcases List.eq_nil_or_concat B with rfl|⟨B,u,rfl⟩
  ·have c1:¬i<k:=by simp at hk;omega
   simp[j,gC,c1];rw[gB,←Ip (z.take t),(U:X++(z.take t++[]++[])++y::(P2++gE)=X++((z.take t++y::P2)++gE)),show P2=z.drop t by simpa using hP];exact hK _ _ gL gK
  ·simp at gM hk;have gD:E=(X++(z.take t++B))++u::y::(P2++gE):=Dp
   have c1:i<k:=J
   have k0:(X++(z.take t++B)).length+1=k:=Ab
   have k1:k<L:=by rw[←I,gD,Hv];simp only[Ie];omega
   have T:=Pf (f:=LV.i) (Po (l:=E) (u:=k) J);have V:=Pf (f:=LV.i) (Po (l:=E) (u:=k-1) J);have t1:((k:Int)-1).toNat=k-1:=J
   have w1:(k:Int)-1<L:=J
   have v1:(1:Int)≤k:=J
   have v2:(0:Int)≤(k:Int)-1:=J
   have u1:-9223372036854775808≤(k:Int)-1∧(k:Int)-1<9223372036854775808:=J
   have e2:((k-1:Nat):Int)=k-1:=J
   simp[F,j,gC,c1,O,Mi T,Mi V,t1,k1,w1,v1,v2,u1];rw[U7 E k _ J,U7 _ (k-1) _ Ab];refine⟨J,Ab,D _ _ _ ⟨B.length,U,k-1,B,u::P2,ay E k,C+1+1,rfl,rfl,rfl,by rw[←hP];simp,?_,by simp[ay,I],J,Ah,As,by simp[e2]⟩⟩;rw[gD,eq J];simp
def Rf:LC→LC
 |.seq _ b=>b
 |c=>c
def Nh:Nat→LC
 |0=>Tq
 |k+1=>Rf (Nh k)
def O8:LC→LC
 |.seq a _=>a
 |c=>c
def V8(g:Nat)(cap:List LV)(f:Int→Int)(Q:Int→Prop)(p kv L n:Nat):Prop :=
 ∀(B j z C:List Int),j.length+z.length≤n→0<j.length→0<z.length→Nq f j→Nq f z→(B++(j++(z++C))).length=L→L≤100000→∀(l:List Int),l=B++(j++(z++C))→∀(G:Mh) (st a m b:Nat),a=B.length→m=B.length+j.length→b=B.length+j.length+z.length →
  Pu g cap f Q p kv G L→(∀x∈l,Q x)→G[p]?=some (.dyn (l.map .i) L 1 kv st)→∀(E:LV→Mh→Prop),(∀D A,D.Perm (j++z)→Nq f D→E (.tup []) (G.set p (.dyn ((B++(D++C)).map .i) L 1 kv A))) →
  Oa (.fn 172) [.dy p kv,.i a,.i m,.i b,.fn (.func g) [] cap] G E
def Nq.one{X Y:List Int}(sX:Nq f X)(sY:Nq f Y)(h:X=[]∨Y=[]):Nq f (X++Y):=by
 rcases h with rfl|rfl
 ·exact sY
 ·rw[Ip];exact sX
def uy{n:Nat}(ih:V8 g cap f Q p kv L n)(P B D E Z:List Int)(hn:D.length+E.length≤n)(R:Nq f D)(S:Nq f E)(hL:(P++(B++(D++(E++Z)))).length=L)(F:L≤100000)(H:p<G.length)(hc:Pu g cap f Q p kv G L)(l:List Int)(T:l=P++(B++(D++(E++Z))))(hQ:∀x∈l,Q x)
  (st C e b:Nat) (gg:C=P.length+B.length) (he:e=C+D.length) (hb:b=e+E.length) (O:Ml) (I:lk O 0=.dy p kv) (K:lk O 3=.i b) (M:lk O 4=.fn (.func g) [] cap) (j:lk O 18=.i C) (z:lk O 24=.i e)
  (gA:LV→Mh→Prop) (V:∀X A,X.Perm (D++E)→Nq f X→gA (.tup []) (G.set p (.dyn ((P++(B++(X++Z))).map .i) L 1 kv A))) :
  wp Tryz.prog 172 220 none (Nh 11) O [] (G.set p (.dyn (l.map .i) L 1 kv st)) (Rr [] gA):=by
 have skip:D=[]∨E=[]→gA (.tup []) (G.set p (.dyn (l.map .i) L 1 kv st)):=λh=>by
  have:=V (D++E) st (List.Perm.refl _) (Nq.one R S h);rw[T];simpa using this
 by_cases N:C<e
 ·by_cases Y:e<b
  ·simp[Tq,Nh,Rf,I,K,M,j,z,N,Y];refine ih (P++B) D E Z hn J J R S (by simpa using hL) F l (by simpa using T) _ st C e b Ab Ab Ab (hc.set _) hQ (Hi H) _ λX A hZ sZ=>?_
   rw[Lh];simp;have:=V X A hZ sZ;simpa using this
  ·simp[Tq,Nh,Rf,I,K,M,j,z,N,Y];exact skip (.inr (Jj.1 J))
 ·simp[Tq,Nh,Rf,I,K,M,j,z,N];exact skip (.inl (Jj.1 J))
def vj{n:Nat}(ih:V8 g cap f Q p kv L n)(gg C D X Y gG:List Int)(gA:C.length+D.length≤n)(hn:X.length+Y.length≤n)(P:Nq f C)(R:Nq f D)(sX:Nq f X)(sY:Nq f Y)(hL:(gg++(C++(D++(X++(Y++gG))))).length=L)(S:L≤100000)(T:p<G.length)(hc:Pu g cap f Q p kv G L)(l:List Int)(hl:l=gg++(C++(D++(X++(Y++gG)))))(hQ:∀x∈l,Q x)
  (st a s F e b:Nat) (ha:a=gg.length) (hs:s=a+C.length) (gI:F=s+D.length) (he:e=F+X.length) (hb:b=e+Y.length) (Z:Ml) (M:lk Z 0=.dy p kv) (h1:lk Z 1=.i a) (N:lk Z 3=.i b) (O:lk Z 4=.fn (.func g) [] cap) (A:lk Z 18=.i F) (H:lk Z 20=.i s) (B:lk Z 24=.i e)
  (gH:LV→Mh→Prop) (hK:∀E gB z,E.Perm (C++D)→Nq f E→gB.Perm (X++Y)→Nq f gB→gH (.tup []) (G.set p (.dyn ((gg++(E++(gB++gG))).map .i) L 1 kv z))) :
  wp Tryz.prog 172 220 none (Nh 10) Z [] (G.set p (.dyn (l.map .i) L 1 kv st)) (Rr [] gH):=by
 have gC:=hL;simp at gC;have go:∀j (z:Nat) (E:List Int),E.Perm (C++D)→Nq f E→lk j 0=.dy p kv→lk j 3=.i b→lk j 4=.fn (.func g) [] cap→lk j 18=.i F→lk j 24=.i e →
   wp Tryz.prog 172 220 none (Nh 11) j [] (G.set p (.dyn ((gg++(E++(X++(Y++gG)))).map .i) L 1 kv z)) (Rr [] gH):=λj z E V sZ f0 f3 f4 I K =>
  have gK:E.length=C.length+D.length:=by rw[V.length_eq];simp
  uy ih gg E X Y gG hn sX sY Ab S T hc _ rfl (λx hx=>hQ x (by rw[hl];simp[V.mem_iff]at hx ⊢;rcases hx with h|(h|h)|h<;>simp[h])) z F e b J he hb j f0 f3 f4 I K gH λgB gD gE gF=>hK E gB gD V sZ gE gF
 have skip:C=[]∨D=[]→∀j,lk j 0=.dy p kv→lk j 3=.i b→lk j 4=.fn (.func g) [] cap→lk j 18=.i F→lk j 24=.i e →
   wp Tryz.prog 172 220 none (Nh 11) j [] (G.set p (.dyn (l.map .i) L 1 kv st)) (Rr [] gH):=λh j f0 f3 f4 I K=>by
  have:=go j st (C++D) (List.Perm.refl _) (Nq.one P R h) f0 f3 f4 I K;rw[hl];simpa using this
 obtain⟨gL,hT⟩:∃gL,gL=Nh 11:=⟨_,rfl⟩;rw[←hT]at go skip;rw[show Nh 10=.seq (O8 (Nh 10)) gL by rw[hT];rfl];clear hT;by_cases g1:a<s
 ·by_cases g2:s<F
  ·simp[Tq,Nh,Rf,O8,M,h1,N,O,A,H,B,g1,g2];refine ih gg C D (X++(Y++gG)) gA J J P R hL S l hl _ st a s F ha J J (hc.set _) hQ (Hi T) _ λgB z V sZ=>?_
   rw[Lh];simp;have:=λj=>go j z gB V sZ
   simp at this;exact this _ A0 Db Bc Af Ad
  ·simp[Tq,Nh,Rf,O8,M,h1,N,O,A,H,B,g1,g2];exact skip (.inr (Jj.1 J)) _ A0 Db Bc Af Ad
 ·simp[Tq,Nh,Rf,O8,M,h1,N,O,A,H,B,g1];exact skip (.inl (Jj.1 J)) _ A0 Db Bc Af Ad
def yk{n:Nat}(ih:V8 g cap f Q p kv L n)(X E D B F Y:List Int)(Z:E.length+B.length≤n)(hn:D.length+F.length≤n)(gg:Nq f E)(gA:Nq f D)(gB:Nq f B)(gC:Nq f F)(hL:(X++(E++(D++(B++(F++Y))))).length=L)(O:L≤100000)(P:p<G.length)(hc:Pu g cap f Q p kv G L)(l:List Int)(hl:l=X++(E++(D++(B++(F++Y)))))(hQ:∀x∈l,Q x)
  (st a s m S e b nn:Nat) (ha:a=X.length) (hs:s=a+E.length) (hm:m=s+D.length) (he:e=m+B.length) (hb:b=e+F.length) (gD:S=s+B.length) (gK:nn=s+e) (T:Ml) (I:lk T 0=.dy p kv) (K:lk T 1=.i a) (h2:lk T 2=.i m) (M:lk T 3=.i b) (N:lk T 4=.fn (.func g) [] cap) (z:lk T 18=.i S) (H:lk T 19=.i nn) (A:lk T 20=.i s)
  (gI:LV→Mh→Prop) (hK:∀Z1 gL j,Z1.Perm (E++B)→Nq f Z1→gL.Perm (D++F)→Nq f gL→gI (.tup []) (G.set p (.dyn ((X++(Z1++(gL++Y))).map .i) L 1 kv j))) :
  wp Tryz.prog 172 220 none (Nh 8) T [] (G.set p (.dyn (l.map .i) L 1 kv st)) (Rr [] gI):=by
 have gE:=hL;simp at gE;have go:∀C (j:Nat) (V:List Int),V=X++(E++(B++(D++(F++Y))))→lk C 0=.dy p kv→lk C 1=.i a→lk C 3=.i b→lk C 4=.fn (.func g) [] cap→lk C 18=.i S→lk C 20=.i s→lk C 24=.i e →
   wp Tryz.prog 172 220 none (Nh 10) C [] (G.set p (.dyn (V.map .i) L 1 kv j)) (Rr [] gI):=λC j V R f0 f1 f3 f4 gF gG gH =>
  vj ih X E B D F Y Z hn gg gB gA gC Ab O P hc V R (λx hx=>hQ x (by rw[hl];rw[R]at hx;simp at hx ⊢;rcases hx with h|h|h|h|h|h<;>simp[h])) j a s S e b ha hs gD J hb C f0 f1 f3 f4 gF gG gH gI hK
 have same:D=[]∨B=[]→l=X++(E++(B++(D++(F++Y)))):=λh=>by
  rcases h with rfl|rfl<;>simpa using hl
 have en:(nn:Int)-s=e:=J
 have er:(e:Int)<9223372036854775808:=J
 obtain⟨gM,hT⟩:∃gM,gM=Nh 10:=⟨_,rfl⟩;rw[←hT]at go;rw[show Nh 8=.seq (O8 (Nh 8)) (.seq (O8 (Nh 9)) gM) by rw[hT];rfl];clear hT;by_cases g1:s<m
 ·by_cases g2:m<e
  ·simp[Tq,Nh,Rf,O8,I,K,h2,M,N,z,H,A,en,er,g1,g2];refine zro (L:=L) (X++E) D B (F++Y) (λh=>by simp[h]at hm;omega) (λh=>by simp[h]at he;omega) (by simpa using hL) O l (by simpa using hl) st s m e Ab Ab Ab (Hi P) _ λj=>?_
   rw[Lh];simp;have:=λC=>go C j _ rfl
   simp at this;exact this _ Ax A8 A0 Db Ak Af U
  ·simp[Tq,Nh,Rf,O8,I,K,h2,M,N,z,H,A,en,er,g1,g2];exact go _ _ _ (same (.inr (Jj.1 J))) Ax A8 A0 Db Ak Af U
 ·simp[Tq,Nh,Rf,O8,I,K,h2,M,N,z,H,A,en,er,g1];exact go _ _ _ (same (.inl (Jj.1 J))) Ax A8 A0 Db Ak Af U
def Xs(H j A Y:List Int)(I:Nq f j)(K:Nq f A)(l:List Int)(D:l=H++(j++(A++Y)))(a m b i z s e:Nat)(M:a=H.length)(hm:m=H.length+j.length)(Z:b=H.length+j.length+A.length)(q1:a≤s)(q2:s≤m)(q3:m≤e)(q4:e≤b)(N:i=s-a)(O:z=e-m)
  (P:s=a∨e=b∨f (gd l (s-1))≤f (gd l e)) (R:e=m∨s=m∨f (gd l (e-1))≤f (gd l s)):∀u∈j.take i++A.take z,∀w∈j.drop i++A.drop z,f u≤f w:=by
 have E:∀t,a≤t→t<m→gd l t=gd j (t-a):=λt S T=>by
  rw[D,uw J,zfa J,M]
 have F:∀t,m≤t→t<b→gd l t=gd A (t-m):=λt S T=>by
  rw[D,uw J,uw J,zfa J];congr 1;omega
 have V:i=0∨z=A.length∨f (gd j (i-1))≤f (gd A z):=by
  by_cases B:i=0
  ·exact .inl B
  by_cases C:z=A.length
  ·exact .inr (.inl C)
  rcases P with h|h|h
  ·omega
  ·omega
  ·rw[E _ J J,F _ J J,(J:s-1-a=i-1),←O]at h;exact .inr (.inr h)
 have X:z=0∨i=j.length∨f (gd A (z-1))≤f (gd j i):=by
  by_cases B:z=0
  ·exact .inl B
  by_cases C:i=j.length
  ·exact .inr (.inl C)
  rcases R with h|h|h
  ·omega
  ·omega
  ·rw[F (e-1) J J,E s J J,(J:e-1-m=z-1),←N]at h;exact .inr (.inr h)
 exact ww I K (s:=i) (e:=z) J J V X
def symF{n:Nat}(ih:V8 g cap f Q p kv L n)(F j z Y:List Int)(hn:j.length+z.length≤n+1)(hX:1<j.length)(hY:1<z.length)(K:Nq f j)(M:Nq f z)(hL:(F++(j++(z++Y))).length=L)(N:L≤100000)(l:List Int)(O:l=F++(j++(z++Y)))(P:p<G.length)(st a m b H I:Nat)(Z:a=F.length)(hm:m=F.length+j.length)(hb:b=F.length+j.length+z.length)(gA:H=(a+b)/2)(gB:I=H+m)
  (hc:Pu g cap f Q p kv G L) (hQ:∀x∈l,Q x)
  (gC:LV→Mh→Prop) (hK:∀gg B,gg.Perm (j++z)→Nq f gg→gC (.tup []) (G.set p (.dyn ((F++(gg++Y)).map .i) L 1 kv B))) :
  ∀(C:Ml) (s e:Nat),a≤s→s≤m→m≤e→e≤b→s+e=I→(s=a∨e=b∨f (gd l (s-1))≤f (gd l e))→(e=m∨s=m∨f (gd l (e-1))≤f (gd l s))→lk C 0=.dy p kv→lk C 1=.i a→lk C 2=.i m→lk C 3=.i b→lk C 4=.fn (.func g) [] cap→lk C 18=.i H→lk C 19=.i I→lk C 20=.i s →
   wp Tryz.prog 172 220 none (Nh 8) C [] (G.set p (.dyn (l.map .i) L 1 kv st)) (Rr [] gC):=by
 have R:=hL;simp at R;have S:l.length=L:=by rw[O];simp;omega
 intro C s e q1 q2 q3 q4 q5 q6 q7 h0 h1 h2 h3 h4 T V X;obtain⟨i,hi⟩:∃i,i=s-a:=⟨_,rfl⟩;obtain⟨A,hj⟩:∃A,A=e-m:=⟨_,rfl⟩;have hf:=Xs F j z Y K M l O a m b i A s e Z hm hb q1 q2 q3 q4 hi hj q6 q7;have gD:(j.take i).length=i:=Bb
 have gE:(z.take A).length=A:=Bb
 have gF:(j.drop i).length=j.length-i:=Iw;have gG:(z.drop A).length=z.length-A:=Iw;have D:l=F++(j.take i++(j.drop i++(z.take A++(z.drop A++Y)))):=by
  rw[O,←H7 (j.take i),H9,←H7 (z.take A),H9]
 have k1:(j.take i).length+(z.take A).length≤n:=J
 have k2:(j.drop i).length+(z.drop A).length≤n:=J
 refine yk ih F (j.take i) (j.drop i) (z.take A) (z.drop A) Y k1 k2 (K.take i) (K.drop i) (M.take A) (M.drop A) (by rw[←D];exact S) N P hc l D hQ st a s m H e b I Z J J J J J J C h0 h1 h2 h3 h4 T V X gC λZ1 gg B p1 s1 p2 s2=>?_
 have E:=(p1.append p2).trans (zp8 (j.take i) (j.drop i) (z.take A) (z.drop A));rw[H9,H9]at E;have:=hK (Z1++gg) B E (X6 p1 p2 s1 s2 hf);simpa using this
def symS(gP:LC)(gG gH gI gQ:List Int)(hL:(gG++(gH++(gI++gQ))).length=L)(gK:L≤100000)(l:List Int)(hl:l=gG++(gH++(gI++gQ)))(Z:p<G.length)(st a m b S j:Nat)(ha:a=gG.length)(hm:m=gG.length+gH.length)(hb:b=gG.length+gH.length+gI.length)(gL:S=(a+b)/2)(gM:j=S+m)
  (hc:Pu g cap f Q p kv G L) (hQ:∀x∈l,Q x) (gR:LV→Mh→Prop)
  (gg:∀(A:Ml) (s e:Nat),a≤s→s≤m→m≤e→e≤b→s+e=j→(s=a∨e=b∨f (gd l (s-1))≤f (gd l e))→(e=m∨s=m∨f (gd l (e-1))≤f (gd l s))→lk A 0=.dy p kv→lk A 1=.i a→lk A 2=.i m→lk A 3=.i b→lk A 4=.fn (.func g) [] cap→lk A 18=.i S→lk A 19=.i j→lk A 20=.i s →
   wp Tryz.prog 172 220 none gP A [] (G.set p (.dyn (l.map .i) L 1 kv st)) (Rr [] gR)) :
  ∀(A:Ml) (B C:Nat),a≤B→B≤C→C≤m→C+m≤j→j≤b+B→(B=a∨B+b=j)→(C=m∨C+m=j)→lk A 0=.dy p kv→lk A 1=.i a→lk A 2=.i m→lk A 3=.i b→lk A 4=.fn (.func g) [] cap→lk A 18=.i S→lk A 19=.i j→lk A 20=.i B→lk A 21=.i C→lk A 22=.i ((j:Int)-1) →
   wp Tryz.prog 172 220 none (.seq (O8 (Nh 7)) gP) A [] (G.set p (.dyn (l.map .i) L 1 kv st)) (Rr [] gR):=by
 have gA:=hL;simp at gA;have gO:l.length=L:=Ck
 have gB:∀x,(G.set p x)[p]?=some x:=λx=>A6
 intro A B C b1 b2 b3 b4 b5 b6 b7 K M O P R D E z F H;simp[Tq,Nh,Rf,O8];refine M2 (λA gS G' N=>∃(s r:Nat),gS=[]∧G'=G.set p (.dyn (l.map .i) L 1 kv st)∧N+s=r∧B≤s∧r≤C∧(s=B∨f (gd l (s-1))≤f (gd l (j-s)))∧(r=C∨f (gd l (j-1-r))≤f (gd l r)) ∧
   lk A 0=.dy p kv∧lk A 1=.i a∧lk A 2=.i m∧lk A 3=.i b∧lk A 4=.fn (.func g) [] cap∧lk A 18=.i S∧lk A 19=.i j∧lk A 20=.i s∧lk A 21=.i r∧lk A 22=.i ((j:Int)-1))
  (N:=C-B) ⟨B,C,rfl,rfl,J,J,J,.inl rfl,.inl rfl,K,M,O,P,R,D,E,z,F,H⟩ ?_
 rintro N A gS G' ⟨s,r,rfl,rfl,hN,hs,hr,T,V,K,M,O,P,R,D,E,z,F,H⟩ Nx X;by_cases gC:s<r
 ·have I:(Pb (iU ((s:Int)+r)) 1).toNat=(s+r)/2:=by
   rw[wu,(J:(s:Int)+r=((s+r:Nat):Int)),lu J]
  obtain⟨q,hq⟩:∃q,q=(s+r)/2:=⟨_,rfl⟩;rw[←hq]at I;obtain⟨w,hw⟩:∃w,w=j-1-q:=⟨_,rfl⟩;have ew:(j:Int)-1-q=w:=J
  have gD:=Pf (f:=LV.i) (Po (l:=l) (u:=w) J);have gE:=Pf (f:=LV.i) (Po (l:=l) (u:=q) J);have w0:w<L:=J
  have w1:q<L:=J
  have qa:Q (gd l w):=hQ _ (Ic.2 ⟨w,Po J⟩);have qb:Q (gd l q):=hQ _ (Ic.2 ⟨q,Po J⟩);have r1:-9223372036854775808≤(s:Int)+r∧(s:Int)+r<9223372036854775808:=J
  have r2:q<9223372036854775808:=J
  have r3:(w:Int)<9223372036854775808:=J
  simp[K,M,O,P,R,z,F,H,gC,I,gB,ew,r3,Mi gD,Mi gE,w0,w1,r1,r2];refine hc l st _ _ _ qa qb ?_;by_cases Y:f (gd l w)<f (gd l q)
  ·have hz:Ps (f (gd l w)) (f (gd l q))<0:=i4.2 Y;simp[hz,z];refine X _ _ _ ⟨q-s,J,s,q,rfl,rfl,J,hs,J,T,.inr ?_,A8,A0,Bc,Ba,C7,Ai,Av,Ak,U,At⟩;rw[←hw];omega
  ·have hz:¬Ps (f (gd l w)) (f (gd l q))<0:=λh=>Y (i4.1 h)
   have gF:0≤Ps (f (gd l w)) (f (gd l q)):=J
   simp[hz,gF,z];refine⟨J,X _ _ _ ⟨r-(q+1),J,q+1,r,rfl,rfl,J,J,hr,.inr ?_,V,A8,A0,Bc,Ba,C7,Ai,Av,U,Ah,At⟩⟩;rw[(J:j-(q+1)=w),(J:q+1-1=q)];omega
 ·obtain rfl:s=r:=J
  simp[z,F];refine gg _ s (j-s) J J J J J ?_ ?_ A8 A0 Bc Ba C7 Ai Av Ak
  ·rcases T with h|h
   ·omega
   ·exact .inr (.inr h)
  ·rcases V with h|h
   ·omega
   ·rw[(J:j-1-s=j-s-1)]at h;exact .inr (.inr h)
def zse{n:Nat}(ih:V8 g cap f Q p kv L n)(M I K T:List Int)(hn:I.length+K.length≤n+1)(hX:1<I.length)(hY:1<K.length)(sX:Nq f I)(sY:Nq f K)(N:(M++(I++(K++T))).length=L)(F:L≤100000)(l:List Int)(O:l=M++(I++(K++T)))(G:Mh)(st a m b:Nat)(V:a=M.length)(hm:m=M.length+I.length)(X:b=M.length+I.length+K.length)
  (Y:Pu g cap f Q p kv G L) (Z:∀x∈l,Q x) (hp:G[p]?=some (.dyn (l.map .i) L 1 kv st)) (gg:LV→Mh→Prop) (hK:∀gA P,gA.Perm (I++K)→Nq f gA→gg (.tup []) (G.set p (.dyn ((M++(gA++T)).map .i) L 1 kv P))) :
  Oa (.fn 172) [.dy p kv,.i a,.i m,.i b,.fn (.func g) [] cap] G gg:=by
 refine Mq r_slices_symMergeCmpFunc_int k_slices_symMergeCmpFunc_int U ?_;have C:p<G.length:=(Hf.1 hp).1;have D:G=G.set p (.dyn (l.map .i) L 1 kv st):=by
  have:=(Hf.1 hp).2;rw[←this,J5]
 have gB:∀x,(G.set p x)[p]?=some x:=λx=>Au
 have R:=N;simp at R;have gC:l.length=L:=by rw[O];simp;omega
 obtain⟨z,E⟩:∃z,z=(a+b)/2:=⟨_,rfl⟩;obtain⟨A,H⟩:∃A,A=z+m:=⟨_,rfl⟩;have m0:-9223372036854775808≤(m:Int)-a∧(m:Int)-a<9223372036854775808:=J
 have m1:¬(m:Int)-a=1:=J
 have m2:-9223372036854775808≤(b:Int)-m∧(b:Int)-m<9223372036854775808:=J
 have m3:¬(b:Int)-m=1:=J
 have B:(Pb (iU ((a:Int)+b)) 1).toNat=z:=by
  rw[wu,(J:(a:Int)+b=((a+b:Nat):Int)),lu J,E]
 have r1:-9223372036854775808≤(a:Int)+b∧(a:Int)+b<9223372036854775808:=J
 have r2:z<9223372036854775808:=J
 have en:(z:Int)+m=A:=J
 have r3:A<9223372036854775808:=J
 have j:=symS (Nh 8) M I K T N F l O C st a m b z A V hm X E H Y Z gg (symF ih M I K T hn hX hY sX sY N F l O C st a m b z A V hm X E H Y Z gg hK);obtain⟨gD,S⟩:∃gD,gD=LC.seq (O8 (Nh 7)) (Nh 8):=⟨_,rfl⟩;rw[←S]at j;rw[show Tq=.seq (O8 (Nh 0)) (.seq (O8 (Nh 1)) (.seq (O8 (Nh 2)) (.seq (O8 (Nh 3)) (.seq (O8 (Nh 4)) (.seq (O8 (Nh 5)) (.seq (O8 (Nh 6)) gD)))))) by rw[S];rfl];clear S;rw[D];by_cases gm:z<m
 ·have e0:(A:Int)-b=(A-b:Nat):=J
  have r4:A-b<9223372036854775808:=J
  simp[Tq,Nh,Rf,O8,m0,m1,m2,m3,B,r1,r2,en,r3,gm,e0,r4];exact⟨J,J,J,j _ (A-b) z J J J J J J J U U U U U U U U U U⟩
 ·simp[Tq,Nh,Rf,O8,m0,m1,m2,m3,B,r1,r2,en,r3,gm];exact⟨J,J,j _ a m J J J J J J J U U U U U U U U U U⟩
def symMerge_any:∀n,V8 g cap f Q p kv L n:=by
 intro n
 induction n with
 |zero=>intro P I K R h1 h2 h3;omega
 |succ n S =>
  intro P I K R T V X M N z j l A G st a m b B hm C D E F Y H
  match I,V with
  |[x],_=>exact zrc P K R x N A4 j l Du st a m b B Dq C4 D E F Y H
  |x::O::I,_ =>
   match K,X with
   |[y],_=>exact zrl P (x::O::I) R y U M A4 j l Du st a m b B hm C4 D E F Y H
   |y::Z::K,_=>exact zse S P (x::O::I) (y::Z::K) R T U U M N z j l A G st a m b B hm C D E F Y H
end merge
end
section
set_option linter.unusedVariables false
section stable
variable {g : Nat} {cap : List LV} {f : Int → Int} {Q : Int → Prop} {p kv : Nat} {G : Mh}
def Zr{l:List Int}{k:Nat}(h:kTo f l 0 k):Nq f (l.take k):=by
 refine J4.2 λi B z A j=>?_
 simp at z A;have:=h i B J j J;simpa [gd,(J:i<l.length),(J:B<l.length)] using this
def Xz{l:List Int}{k:Nat}(h:kTo f l k l.length):Nq f (l.drop k):=by
 refine J4.2 λi B j z A=>?_
 simp at j z;have:=h (k+i) (k+B) J J J;simpa [gd,(J:k+i<l.length),(J:k+B<l.length)] using this
def zla(l:List Int)(n a b:Nat)(A:l.length=n)(B:b≤n)(C:n≤100000)(D:a≤100000)(E:Pu g cap f Q p kv G n)(st:Nat)(F:∀x∈l,Q x)(H:G[p]?=some (.dyn (l.map .i) n 1 kv st))(I:LV→Mh→Prop)
  (K:∀(j:List Int) (z:Nat),j.Perm l→(∀u,(u<a∨b≤u)→gd j u=gd l u)→kTo f j a b→I (.tup []) (G.set p (.dyn (j.map .i) n 1 kv z))) :
  Oa (.fn 171) [.dy p kv,.i a,.i b,.fn (.func g) [] cap] G I:=by
 subst A;exact z92 l a b B C D G E st F H I K
def zvf(l:List Int)(n:Nat)(B:l.length=n)(C:20<n)(D:n≤40)(E:kTo f l 0 20)(F:kTo f l 20 n)(H:Pu g cap f Q p kv G n)(st:Nat)(I:∀x∈l,Q x)(K:G[p]?=some (.dyn (l.map .i) n 1 kv st))(L:LV→Mh→Prop)
  (M:∀(z:List Int) (j:Nat),z.Perm l→kTo f z 0 n→L (.tup []) (G.set p (.dyn (z.map .i) n 1 kv j))) :
  Oa (.fn 172) [.dy p kv,.i (0:Nat),.i (20:Nat),.i n,.fn (.func g) [] cap] G L:=by
 have e:=H9 20 l;have O:(l.take 20).length=20:=Bb
 have P:(l.drop 20).length=n-20:=by rw[Iw];omega
 refine symMerge_any n [] (l.take 20) (l.drop 20) [] J J J (Zr E) (Xz (by rw[B];exact F)) Ab J l U G st 0 20 n U Ab Ab H I K L λR j A N=>?_
 rw[e]at A;simp;have:=N.kTo;rw[A.length_eq,B]at this;exact M R j A this
def ztl(l:List Int)(n:Nat)(hn:l.length=n)(gG:20<n)(gH:n≤40)(hc:Pu g cap f Q p kv G n)(st:Nat)(hQ:∀x∈l,Q x)(hp:G[p]?=some (.dyn (l.map .i) n 1 kv st))(gV:LV→Mh→Prop)
  (hK:∀(Y:List Int) (gA:Nat),Y.Perm l→kTo f Y 0 n→gV (.tup []) (G.set p (.dyn (Y.map .i) n 1 kv gA))) :
  Oa (.fn 126) [.dy p kv,.fn (.func g) [] cap] G gV:=by
 refine Mq r_slices_SortStableFunc_int_int k_slices_SortStableFunc_int_int U ?_;simp[xf,hp,hn];refine Mq r_slices_stableCmpFunc_int k_slices_stableCmpFunc_int U ?_;simp[wa];have gQ:p<G.length:=(Hf.1 hp).1;have gB:G=G.set p (.dyn (l.map .i) n 1 kv st):=by
  have:=(Hf.1 hp).2;rw[←this,J5]
 have S:∀x,(G.set p x)[p]?=some x:=λx=>by simp[gQ]
 have T:∀x y:LObj,(G.set p x).set p y=G.set p y:=λx y=>Lh ..
 refine M2 (λL gP P N=>∃(gF x y:Nat) (Y:List Int) (gA:Nat),gP=[]∧P=G.set p (.dyn (Y.map .i) n 1 kv gA)∧x=20*gF∧y=20*gF+20∧N+gF=2∧20*gF≤n∧Y.Perm l∧(1≤gF→kTo f Y 0 20)∧(2≤gF→kTo f Y 20 40) ∧
   lk L 0=.dy p kv∧lk L 1=.i n∧lk L 2=.fn (.func g) [] cap∧lk L 6=.i 20∧lk L 7=.i x∧lk L 8=.i y) (N:=2)
  ⟨0,0,20,l,st,rfl,gB,rfl,rfl,rfl,J,List.Perm.refl _,J,J,U,U,U,U,U,U⟩ ?_
 rintro N L gP P ⟨gF,x,y,l1,gI,rfl,rfl,hx,hy,hN,hj,V,gC,gK,F,D,H,B,h7,X⟩ Nx M;have gD:l1.length=n:=by rw[V.length_eq,hn]
 have gE:∀x∈l1,Q x:=λx hx=>hQ x (V.mem_iff.1 hx)
 by_cases gb:y≤n
 ·have gj:gF<2:=J
  simp[F,D,H,B,h7,X,gb];refine zla l1 n x y gD gb J J (hc.set _) gI gE (S _) _ λR K C j Z=>?_
  rw[T];simp[B,X];refine⟨J,M _ _ _ ⟨1-gF,J,gF+1,y,y+20,R,K,rfl,rfl,J,J,J,J,C.trans V,λ_=>?_,λq=>?_,Ah,Ai,At,Ad,U,U⟩⟩
  ·by_cases q:gF=0
   ·subst q;rw[hx,hy]at Z;exact Z
   ·intro u v hu O hv;rw[j u J,j v J];exact gC J u v hu O hv
  ·obtain rfl:gF=1:=J
   rw[hx,hy]at Z;exact Z
 ·have gj:1≤gF:=J
  simp[F,D,H,B,h7,X,gb];refine zla l1 n x n gD (Hm _) J J (hc.set _) gI gE (S _) _ λR K C j Z=>?_
  rw[T];simp;have t0:kTo f R 0 20:=λu v hu O hv=>by
   rw[j u J,j v J];exact gC gj u v hu O hv
  have t1:kTo f R 20 n:=by
   by_cases q:gF=1
   ·subst q;rw[hx]at Z;exact Z
   ·intro u v hu O hv;rw[j u J,j v J];exact gK J u v hu O J
  have gL:R.length=n:=by rw[C.length_eq,gD]
  have gM:∀x∈R,Q x:=λx hx=>gE x (C.mem_iff.1 hx)
  have gg:=C.trans V;clear Z gC gK j M;refine M2 (λL gP P N=>gP=[]∧lk L 0=.dy p kv∧lk L 1=.i n∧lk L 2=.fn (.func g) [] cap∧((N=1∧lk L 6=.i 20∧P=G.set p (.dyn (R.map .i) n 1 kv K))∨(N=0∧lk L 6=.i 40∧∃I A,I.Perm l∧kTo f I 0 n∧P=G.set p (.dyn (I.map .i) n 1 kv A)))) (N:=1)
   ⟨rfl,Ah,Ai,At,.inl ⟨rfl,Ad,rfl⟩⟩ ?_
  rintro N L gP P ⟨rfl,F,D,H,⟨rfl,B,rfl⟩|⟨rfl,B,I,A,z,E,rfl⟩⟩ Nx M
  ·have g1:(20:Int)<n:=J
   simp[F,D,H,B,g1];refine M2 (λL gP P N=>gP=[]∧lk L 0=.dy p kv∧lk L 1=.i n∧lk L 2=.fn (.func g) [] cap∧lk L 6=.i 20∧((N=1∧lk L 7=.i 0∧lk L 8=.i 40∧P=G.set p (.dyn (R.map .i) n 1 kv K))∨(N=0∧n=40∧lk L 7=.i 40∧lk L 8=.i 80∧∃I A,I.Perm l∧kTo f I 0 n∧P=G.set p (.dyn (I.map .i) n 1 kv A)))) (N:=1)
    ⟨rfl,Ah,Ai,At,Ad,.inl ⟨rfl,U,U,rfl⟩⟩ ?_
   rintro N L gP P ⟨rfl,F,D,H,B,⟨rfl,h7,X,rfl⟩|⟨rfl,gS,h7,X,I,A,z,E,rfl⟩⟩ gT gO
   ·by_cases q:n=40
    ·have g2:(40:Int)≤n:=J
     simp[F,D,H,B,h7,X,g2];have gR:(40:Int)=(n:Nat):=J
     rw[gR];refine zvf R n gL gG gH t0 t1 (hc.set _) K gM (S _) _ λI A z E=>?_
     rw[T];simp[B,X];exact gO _ _ _ ⟨0,J,rfl,Ah,Ai,At,Ad,.inr ⟨rfl,q,U,U,I,A,z.trans gg,E,rfl⟩⟩
    ·have g2:¬(40:Int)≤n:=J
     simp[F,D,H,B,h7,X,g2,g1];refine zvf R n gL gG gH t0 t1 (hc.set _) K gM (S _) _ λI A z E=>?_
     rw[T];simp[B];exact M _ _ _ ⟨0,J,rfl,Ah,Ai,At,.inr ⟨rfl,U,I,A,z.trans gg,E,rfl⟩⟩
   ·have g2:¬(80:Int)≤n:=J
    have g3:¬(60:Int)<n:=J
    simp[F,D,H,B,h7,X,g2,g3];exact M _ _ _ ⟨0,J,rfl,Ah,Ai,At,.inr ⟨rfl,U,I,A,z,E,rfl⟩⟩
  ·have g1:¬(40:Int)<n:=J
   simp[D,B,g1];exact hK _ _ z E
def zrg(l:List Int)(F:l.length≤40)(G:Mh)(A:Pu g cap f Q p kv G l.length)(st:Nat)(B:∀x∈l,Q x)(C:G[p]?=some (.dyn (l.map .i) l.length 1 kv st))(E:LV→Mh→Prop)
  (D:∀(j:List Int) (z:Nat),j.Perm l→kTo f j 0 l.length→E (.tup []) (G.set p (.dyn (j.map .i) l.length 1 kv z))) :
  Oa (.fn 126) [.dy p kv,.fn (.func g) [] cap] G E:=by
 by_cases h:l.length≤20
 ·exact zs1 l h G A st B C E D
 ·exact ztl l _ rfl J F A st B C E D
end stable
end
section
set_option linter.unusedVariables false
def z4k:LC:=(.q [.x 1 0,.e 2] (.seq (.q [.l 5 1,.N 6 5,.f 7 0 6,.f 8 0 7,.l 9 8,.s 10 9,.K 11 0] (.block 0 (.loop (.q [.c 12 .lss 3 11 10] (.seq (.cond (.t 12) .skip (.exit 0)) (.seq (.block 1 (.q [.m 13 11,.I 14 3 9 11,.L 15 3 14,.z 4 (.alloc [(.i 0),(.bool false),(.i 0)]),.m 3 13,.S 3 4 15] (.q [.f 16 2 4,.l 17 16,.b 18 .eql 3 17 0] (.cond (.t 18) (.ops [.m 19 2,.m 20 3,.z 21 (.buildSl 1 1 [(.i 0)] [(0,1,.t 20)]),.a 22 1 19 21,.m 2 22]) .skip)))) (.ops [.b 23 .add 3 11 1,.m 11 23]))))))) (.q [.m 24 2,.z 25 (.mkFunc 127 [] [.t 1]),.W 26 126 24 25] (.q [.m 27 2,.m 2 27] .ret))))
def r_buffers_planner_order:Mt Tryz.prog 87=some ⟨28,z4k.r,[.tmp 2]⟩:=Aa
section pln
variable {G : Mh} {K : LV → Mh → Prop} {P pst : Nat} {vs : List Vr} {os rs : List Ko} {ss : List Sp} {plv : LV} {s0 s1 : Nat}
def zdq(hP:G[P]?=some (.cells (Pg vs os rs ss plv s0 s1) pst))(gK:vs.length≤40)(gL:ss.length=vs.length)
  (k:∀(hv:LV) (o:List Nat) (p:Mh),o.Perm (Qk vs vs.length)→(o.Pairwise λv w=>(gs ss v).1≤(gs ss w).1)→Tn G.length p hv 1 o.length (o.map λ(v:Nat)=>LV.i (v:Int))→(∀x,x<G.length→p[x]?=G[x]?)→G.length≤p.length→K hv p) :
  Oa (.fn 87) [.ptr P 0] G K:=by
 refine Mq r_buffers_planner_order Aa U ?_;have gg:=(Hf.1 hP).1;obtain⟨H,z⟩:∃H,H=G++[LObj.cells [.ptr P 0] 0]:=⟨_,rfl⟩;have o0:∀x,x<G.length→H[x]?=G[x]?:=λx g=>by rw[z];exact Hk g
 have l0:H.length=G.length+1:=by rw[z];simp
 have c0:H[G.length]?=some (.cells [.ptr P 0] 0):=by rw[z];simp
 have P0:=(o0 P gg).trans hP;simp[z4k];rw[←z];simp[c0,P0,Pg];refine M2 (λρ gP p N=>∃(i:Nat) (v:LV),gP=[]∧N+i=vs.length∧lk ρ 1=.ptr G.length 0∧lk ρ 2=v∧lk ρ 9=.lst (Mz vs) vs.length 3∧lk ρ 10=.i vs.length∧lk ρ 11=.i i∧(∀x,x<G.length+1→p[x]?=H[x]?)∧G.length+1≤p.length∧Tn (G.length+1) p v 1 (Qk vs i).length ((Qk vs i).map λ(v:Nat)=>LV.i (v:Int)))
  (N:=vs.length) ⟨0,.nilSl,rfl,J,U,U,U,U,U,λ_ _=>rfl,J,Tn.nil⟩ ?_
 rintro N ρ gP p ⟨i,v,rfl,hN,M,I,h9,j,A,L,hl,hD⟩ Nx O;by_cases gI:i<vs.length
 ·have q3:=U3 (P8 gI);have R:=S2 gI;have S:(gv vs i).f=[.i (gv vs i).limbs,.bool (gv vs i).sec,.i (gv vs i).mode]:=rfl;have B:=xj vs i;have gA:=zdn vs i;generalize gv vs i=x at *;by_cases h0:x.mode=0
  ·rw[Hs h0]at B;simp[M,I,h9,j,A,gI,q3,R,S,h0];refine Tn.push (c:=1) (x:=[.i i]) hD.push_end J Ab J rfl rfl λv' G2 gB gC gD=>?_
   simp[A];refine⟨J,O _ _ _ ⟨N-1,J,i+1,v',rfl,J,A0,U,Ep,As,U,λx g=>?_,by simp at gD;omega,?_⟩⟩
   ·rw[gC x g,Hk J];exact L x g
   ·rw[B];simpa using gB
  ·rw[Hq h0]at B;simp[M,I,h9,j,A,gI,q3,R,S,h0];refine⟨J,O _ _ _ ⟨N-1,J,i+1,v,rfl,J,A0,Ax,Ep,As,U,λx g=>?_,Ab,?_⟩⟩
   ·rw[Hk J];exact L x g
   ·rw[B,Ip];exact hD.push_end
 ·have gE:i=vs.length:=J
  subst gE;have gA:=zdn vs vs.length;have T:∀v,v∈Qk vs vs.length→v<vs.length:=λv h=>(zba.1 h).1
  have cG:=(L _ J).trans c0;have PG:=(L P J).trans P0;generalize hz:Qk vs vs.length=gH at *;simp[M,I,j,A];obtain⟨hd,gM,⟨rfl,hn,hL⟩|⟨q,V,st,hq,rfl,C⟩⟩:=hD
  ·refine zr7 _ _ ?_;have:gH=[]:=by simpa using hL
   subst this;simp[I];exact k _ [] _ (List.Perm.refl _) List.Pairwise.nil Tn.nil (λx g=>(L x J).trans (o0 x g)) J
  ·have D:(gH.map λ(v:Nat)=>(v:Int)).length=gH.length:=U
   have E:p[q]?=some (.dyn ((gH.map λ(v:Nat)=>(v:Int)).map .i) (gH.map λ(v:Nat)=>(v:Int)).length 1 V st):=by rw[D,List.map_map];exact C
   have gF:=(Hf.1 C).1;refine zrg (f:=λx=>(gs ss x.toNat).1) (Q:=λx=>0≤x∧x<ss.length) (gH.map λ(v:Nat)=>(v:Int)) J _ ?_ st ?_ E _ λl' gG F hs=>?_
   ·intro l2 gO x y K2 qx qy hk;refine znp (P:=P) (vs:=vs) (os:=os) (rs:=rs) (plv:=plv) (s0:=s0) (s1:=s1) (pst:=pst) (cst:=0) ?_ ?_ qx qy hk
    ·rw[Hg J];exact PG
    ·rw[Hg J];exact cG
   ·intro x g;obtain⟨v,hv,rfl⟩:=Li.1 g;have:=T v hv;omega
   ·obtain⟨o,rfl,X⟩:=Zt F;have Y:=X.length_eq;have Z:=Yz (f:=λx=>(gs ss x.toNat).1) (l:=o.map λ(v:Nat)=>(v:Int)) (by rw[List.length_map,Y,←D];exact hs);rw[List.pairwise_map]at Z;simp[I];refine k _ o _ X (by simpa using Z) ⟨Ze (λ_=>rfl) o,U,.inr ⟨q,V,gG,J,rfl,?_⟩⟩ (λx g=>?_) Ab
    ·rw[Hi gF,←Y];simp
    ·rw[Hg J,L x J,o0 x g]
end pln
end
section
set_option linter.unusedVariables false
def Rk(l:List Nat):List LV:=l.map λ(v:Nat)=>LV.i (v:Int)
def ft(l:List Nat):(Rk l).length=l.length:=by simp[Rk]
def ztx{l:List Nat}{i v:Nat}(h:l[i]?=some v):(Rk l)[i]?=some (.i v):=by simp[Rk,h]
def qc(x:List Nat)(v:Nat)(y:List Nat):(x++v::y)[x.length]?=some v:=U
section delf
variable {g : Nat} {cap : List LV} {over : Nat → Bool} {I : List Nat → List Nat → Mh → Prop}
def Yl(g:Nat)(cap:List LV)(over:Nat→Bool)(rw:Option Nat)(I:List Nat→List Nat→Mh→Prop):Prop :=
 ∀(x y:List Nat) (v:Nat) (p:Mh) (z:LV→Mh→Prop),I x (v::y) p→(∀q,rw=some q→q<p.length)→(∀j,I (if over v=true then x else x++[v]) y j→(∀q,rw=some q→j[q]?=p[q]?)→z (.bool (over v)) j)→Oa (.fn g) (.i v::cap) p z
def znu{b:Nat}{l:List Nat}(C:M4 b L K 1 l.length (Rk l))(hl:l.length≤1000000)(T:I [] l L)(V:Yl g cap over (Q5 K) I)
  (X:∀p,I l [] p→M4 b p K 1 l.length (Rk l)→Q (.i (-1)) p)
  (Y:∀x v y p,l=x++v::y→over v=true→I x y p→M4 b p K 1 l.length (Rk l)→Q (.i x.length) p) :
  Oa (.fn 121) [K,.fn (.func g) [] cap] L Q:=by
 refine Mq r_slices_IndexFunc_int_int k_slices_IndexFunc_int_int U ?_;simp[z1h];refine C.lenL ?_;refine M2 (λP gg p N=>∃(x y:List Nat),l=x++y∧gg=[]∧N=y.length∧lk P 0=K∧lk P 1=.fn (.func g) [] cap∧lk P 7=.i l.length∧lk P 8=.i x.length∧I x y p∧M4 b p K 1 l.length (Rk l)) (N:=l.length)
  ⟨[],l,rfl,rfl,rfl,U,U,U,U,T,C⟩ ?_
 rintro N P gg p ⟨x,y,z,rfl,rfl,R,F,G,H,D,j⟩ Nx M;cases y with
 |nil =>
  have e:l=x:=A4
  subst e;simp[G,H];exact X _ D j
 |cons v y =>
  have S:l.length=x.length+(y.length+1):=by rw[z];simp
  have Z:(x.length:Int)<l.length:=J
  simp[R,F,G,H,Z];refine j.at1 J J λa ha=>?_
  simp;refine ha _ ?_;simp only[Io];refine⟨_,ztx (by rw[z];exact qc x v y),?_⟩;simp[F];refine V x y v p _ D (λq hq=>(j.row hq).2.1) λG2 A O=>?_
  have B:=j.frame2 O;by_cases E:over v=true
  ·rw[Hs E]at A;simp[E];exact Y x v y _ z E A B
  ·rw[Hq E]at A;simp[E,H];refine⟨J,M _ _ _ ⟨y.length,U,x++[v],y,by rw[z];simp,rfl,rfl,C7,Ah,A3,U,A,B⟩⟩
def zm8{b:Nat}{l:List Nat}(gE:M4 b L K 1 l.length (Rk l))(hl:l.length≤1000000)(hI:I [] l L)(hc:Yl g cap over (Q5 K) I)
  (F:∀x y L q C,Q5 K=some q→I x y L→I x y (L.set q C))
  (k:∀x M A,I x [] A→M4 b A M 1 x.length (Rk x)→Q5 M=Q5 K→Q M A) :
  Oa (.fn 88) [K,.fn (.func g) [] cap] L Q:=by
 refine Mq r_slices_DeleteFunc_int_int k_slices_DeleteFunc_int_int U ?_;simp[z1f];refine znu gE hl hI hc (λA D j=>?_) λx v y G1 E S X B=>?_
 ·simp;exact k l _ _ D j rfl
 ·have Y:l.length=x.length+(y.length+1):=by rw[E];simp
  have Z:Q5 K≠none:=by
   rcases B with ⟨rfl,G,_⟩|⟨gM,k,gQ,m,st,h1,h2,h3,h4,T,O,⟨rfl,_⟩|rfl⟩
   ·omega
   ·simp[Q5]
   ·simp[Q5]
  have gx:¬((x.length:Int)=-1):=J
  simp[gx];refine⟨J,?_⟩;have gg:l.drop (l.length-y.length)=y:=by
   have e:l=(x++[v])++y:=by rw[E];simp
   rw[(Ab:l.length-y.length=(x++[v]).length),e,List.drop_left]
  refine M2 (λρ gR A N=>∃(x y V:List Nat),gR=[]∧N=y.length∧lk ρ 0=K∧lk ρ 1=.fn (.func g) [] cap∧lk ρ 5=.i x.length∧lk ρ 6=.i ((l.length:Int)-y.length)∧x.length+y.length<l.length∧V.length=l.length∧V.take x.length=x∧V.drop (l.length-y.length)=y∧I x y A∧M4 b A K 1 l.length (Rk V)) (N:=y.length)
   ⟨x,y,l,rfl,rfl,U,U,U,Ab,J,rfl,by rw[E];simp,gg,X,B⟩ ?_
  clear gg E X B S Y gx x y v;rintro N ρ gR A ⟨x,y,V,rfl,rfl,G,h1,T,O,gA,hL,hx,hy,D,j⟩ Nx gB;cases y with
  |nil =>
   simp at gA;have g1:¬((l.length:Int)<l.length):=J
   simp[G,O];refine j.lenL ?_;simp[G,T];refine j.tail1 (i:=x.length) J Z (λK' P=>P) (λK' P=>P) λgM gF gQ m st hp hG hR p=>?_
   have z:∀C,I x [] (A.set gM C):=λC=>F x [] A gM C hp D
   have gO:=(Hf.1 hG).1;simp[G,T,hG,hR];have gP:x.length≤V.length:=J
   have gG:(Rk V).take x.length=Rk x:=by rw[←hx];simp[Rk]
   refine (p (st+1)).cut2 (m:=x.length) J (λK' P=>P) (λd K' P=>P) λv' gC gH=>?_
   simp;refine k x v' _ (z _) ?_ gH;rw[Kk,K0 (by rw[H4,ft];omega),Km,Nat.min_self,gG]at gC;exact gC
  |cons v y =>
   simp at gA;have gI:V[l.length-(y.length+1)]?=some v:=by
    have:=congrArg (λgS=>gS[0]?) hy;simpa using this
   have gD:V.drop (l.length-y.length)=y:=by
    have:=congrArg (List.drop 1) hy;rw[Kg]at this;simpa [(J:l.length-(y.length+1)+1=l.length-y.length)] using this
   have e6:(l.length:Int)-((v::y).length:Nat)=((l.length-(y.length+1):Nat):Int):=Ab
   rw[e6]at O;have g1:((l.length-(y.length+1):Nat):Int)<l.length:=J
   simp[G,O];refine j.lenL ?_;have g2:l.length-(y.length+1)<l.length:=J
   refine⟨λ_=>?_,λh=>absurd h J⟩;refine j.at1 J J λa ha=>?_
   simp;refine ha _ ?_;simp only[Io];refine⟨_,ztx gI,?_⟩;simp[h1];refine hc x y v A _ D (λq hq=>(j.row hq).2.1) λG2 z gK=>?_
   have p:=j.frame2 gK;by_cases S:over v=true
   ·rw[Hs S]at z;simp[S,O];refine⟨J,gB _ _ _ ⟨y.length,U,x,y,V,rfl,rfl,A3,Cb,Bn,Ab,J,hL,hx,gD,z,p⟩⟩
   ·rw[Hq S]at z;simp[S,G,T,O];refine p.ixw1 J J λgM gF gQ m st hp hG hR H=>?_
    have gL:∀C,I (x++[v]) y (G2.set gM C):=λC=>F _ _ _ gM C hp z
    simp only[Io]at hR H ⊢;simp[T,O,hG,hR];have R:(Rk V).set x.length (.i v)=Rk (V.set x.length v):=by simp[Rk,It]
    refine⟨J,J,gB _ _ _ ⟨y.length,U,x++[v],y,V.set x.length v,rfl,rfl,A3,Cb,U,Ab,Ab,by simp[hL],?_,?_,gL _,?_⟩⟩
    ·rw[Hv,List.length_singleton,Lq,L4 J,hx,Hi J];simp
    ·rw[List.drop_set_of_lt J];exact gD
    ·rw[←R];exact H _ _ rfl
end delf
end
section
set_option linter.unusedVariables false
def z2t:LC:=(.q [.F 4] (.seq (.draw [(.l 6 1,[]),(.N 7 6,[]),(.f 8 3 7,[]),(.l 9 8,[]),(.m 10 0,[]),(.I 11 2 9 10,[]),(.f 12 1 11,[]),(.l 13 12,[]),(.l 14 1,[]),(.N 15 14,[]),(.f 16 3 15,[]),(.l 17 16,[]),(.l 18 2,[]),(.I 19 2 17 18,[]),(.f 20 0 19,[]),(.l 21 20,[]),(.c 22 .lss 3 13 21,[]),(.m 5 22,[])]) (.seq (.q [.m 23 5] (.cond (.t 23) (.draw [(.l 24 1,[]),(.m 25 0,[]),(.l 27 1,[]),(.N 28 27,[]),(.f 29 4 28,[]),(.l 30 29,[]),(.m 31 0,[]),(.I 32 3 30 31,[]),(.L 33 3 32,[]),(.W 26 90 24 25,[(.L 33 3 32,false),(.l 30 29,false),(.l 27 1,false)]),(.W 34 91 26 33,[])]) .skip)) (.q [.m 35 5,.m 4 35] .ret))))
def r_buffers_planner_run_1:Mt Tryz.prog 89=some ⟨36,z2t.r,[.tmp 4]⟩:=Aa
def ci(G:Mh)(s:Nat)(g:Int)(r:Option Nat)(x:St):Prop:=∃j st,G[s]?=some (.cells [.i g,j,.i x.size] st)∧Tg G j r x.holes
def bI(b:Bool):Int:=if b=true then 1 else 0
structure PS (G:Mh) (s:Bool→Nat) (r:Bool→Option Nat) (base:Int) (ps:Bool→St):Prop where
 st:∀b,ci G (s b) (base+bI b) (r b) (ps b)
 ne:s false≠s true
 rne:∀q,r false=some q→r true≠some q
section ps
variable {G G' : Mh} {s : Bool → Nat} {r : Bool → Option Nat} {base : Int} {ps : Bool → St}
def PS.cell(h:PS G s r base ps)(b:Bool):∃hv st,G[s b]?=some (.cells [.i (base+bI b),hv,.i (ps b).size] st):=by
 obtain⟨hv,st,h1,_⟩:=h.st b;exact⟨hv,st,h1⟩
def PS.row(h:PS G s r base ps){b:Bool}{q:Nat}(hq:r b=some q):∃gB m k st,G[q]?=some (.dyn gB m 2 k st):=by
 obtain⟨hv,st,h1,R⟩:=h.st b;rw[hq]at R;obtain⟨gg,gA,_,h3⟩:=R;exact⟨_,_,_,_,h3⟩
def PS.lt(h:PS G s r base ps){b:Bool}{q:Nat}(R:r b=some q):q<G.length:=by
 obtain⟨gg,m,k,st,h3⟩:=h.row R;exact (Hf.1 h3).1
def PS.slt(h:PS G s r base ps)(b:Bool):s b<G.length:=by
 obtain⟨hv,st,h1⟩:=h.cell b;exact (Hf.1 h1).1
def PS.nes(h:PS G s r base ps){b c:Bool}(e:b≠c):s b≠s c:=by
 have:=h.ne;cases b<;>cases c
 ·exact absurd rfl e
 ·exact this
 ·exact this.symm
 ·exact absurd rfl e
def PS.ner(h:PS G s r base ps){b c:Bool}(e:b≠c){q:Nat}(hb:r b=some q):r c≠some q:=by
 have:=h.rne;cases b<;>cases c
 ·exact absurd rfl e
 ·exact this q hb
 ·exact λhc=>this q hc hb
 ·exact absurd rfl e
def PS.sr(h:PS G s r base ps){b c:Bool}{q:Nat}(hb:r b=some q):q≠s c:=λe=>by
 obtain⟨gA,m,k,st,R⟩:=h.row hb;obtain⟨hv,gg,h1⟩:=h.cell c;rw[e,h1]at R;cases R
def ci.old{q:Nat}{buf:Int}{ro:Option Nat}{x:St}(h:ci G q buf ro x)(h1:G'[q]?=G[q]?)(h2:∀y,ro=some y→G'[y]?=G[y]?):ci G' q buf ro x:=by
 obtain⟨hv,st,a,b⟩:=h;exact⟨hv,st,by rw[h1];exact a,b.old h2⟩
def PS.old(h:PS G s r base ps)(h1:∀b,G'[s b]?=G[s b]?)(h2:∀b y,r b=some y→G'[y]?=G[y]?):PS G' s r base ps :=
 ⟨λb=>(h.st b).old (h1 b) (h2 b),h.ne,h.rne⟩
def PS.push(h:PS G s r base ps)(ob:List LObj):PS (G++ob) s r base ps :=
 h.old (λb=>Hk (h.slt b)) λb y hy=>Hk (h.lt hy)
def PS.setO(h:PS G s r base ps){q:Nat}(h1:∀b,q≠s b)(h2:∀b,r b≠some q)(ob:LObj):PS (G.set q ob) s r base ps :=
 h.old (λb=>Hg (h1 b)) λb y hy=>Hg λe=>h2 b (by rw[hy,e])
def PS.cne(h:PS G s r base ps){q st:Nat}{c:List LV}(R:G[q]?=some (.cells c st))(hc:c.length≠3):(∀b,q≠s b)∧∀b,r b≠some q:=by
 refine⟨λb e=>?_,λb e=>?_⟩
 ·obtain⟨hv,gg,h1⟩:=h.cell b;rw[e,h1]at R;cases R;exact hc rfl
 ·obtain⟨gA,m,k,gg,h3⟩:=h.row e;rw[h3]at R;cases R
def PS.take{K:LV→Mh→Prop}(h:PS G s r base ps)(b:Bool){n:Int}(hz:0≤(ps b).size∧(ps b).size≤1000000000)(hn:1≤n∧n≤1000000000)(hh:∀x∈(ps b).holes,0≤x.1∧x.1<x.2∧x.2≤(ps b).size)(hl:(ps b).holes.length≤1000000)
  (k:∀G',PS G' s r base (Rx ps b (Ok n (ps b)).2)→(∀x,x<G.length→x≠s b→r b≠some x→G'[x]?=G[x]?)→G.length≤G'.length→K (.agg [.i (base+bI b),.i (Ok n (ps b)).1,.i n]) G') :
  Oa (.fn 47) [.ptr (s b) 0,.i n] G K:=by
 obtain⟨hv,st,h1,h2⟩:=h.st b;have hb:HoB (ps b).holes 1000000000:=λgC hj=>by
  have:=hh _ (Ic.2 ⟨gC,Uh hj⟩);omega
 refine z7p h1 h2 hz hn hb hl λG' j gg ho hlen gA gB=>?_
 refine k G' ⟨λc=>?_,h.ne,h.rne⟩ ho hlen;by_cases e:c=b
 ·subst e;rw[zb7];exact⟨j,gg,gA,gB⟩
 ·rw[zf4 _ _ e];refine (h.st c).old (ho _ (h.slt c) (h.nes e) λq=>h.sr q rfl) λy hy=>ho _ (h.lt hy) (h.sr hy) (h.ner e hy)
def PS.give{K:LV→Mh→Prop}(h:PS G s r base ps)(b:Bool){pb a n:Int}(ha:0≤a∧a≤1000000000)(hn:0≤n∧n≤1000000000)(hl:(ps b).holes.length≤100000)
  (k:∀G' r' (i gE:Nat),PS G' s r' base (Rx ps b ⟨cf i gE (a,a+n) (ps b).holes,(ps b).size⟩)→(∀x,x<G.length→x≠s b→r b≠some x→G'[x]?=G[x]?)→G.length≤G'.length→(∀c q,r' c=some q→r c=some q∨G.length≤q)→K (.tup []) G') :
  Oa (.fn 91) [.ptr (s b) 0,.agg [.i pb,.i a,.i n]] G K:=by
 obtain⟨hv,st,h1,h2⟩:=h.st b;refine zhi h1 h2 ha hn hl λG' gg r' gA i gE ho hlen gB gC gD=>?_
 have j:∀c q,(if c=b then r' else r c)=some q→r c=some q∨G.length≤q:=λc q e=>by
  by_cases ec:c=b
  ·rw[Hs ec]at e;rw[ec];exact gD q e
  ·rw[Hq ec]at e;exact .inl e
 refine k G' (λc=>if c=b then r' else r c) i gE ⟨λc=>?_,h.ne,λq e1 e2=>?_⟩ ho hlen j
 ·by_cases e:c=b
  ·subst e;rw[zb7,Hs rfl];exact⟨gg,gA,gB,gC⟩
  ·rw[zf4 _ _ e,Hq e];refine (h.st c).old (ho _ (h.slt c) (h.nes e) λq=>h.sr q rfl) λy hy=>ho _ (h.lt hy) (h.sr hy) (h.ner e hy)
 ·have f1:=j false q e1;have f2:=j true q e2;cases b with
  |false =>
   rw[Hq An]at e2;rcases f1 with f1|f1
   ·exact h.rne q f1 e2
   ·have:=h.lt e2;omega
  |true =>
   rw[Hq An]at e1;rcases f2 with f2|f2
   ·exact h.rne q e1 f2
   ·have:=h.lt e1;omega
end ps
end
section
set_option linter.unusedVariables false
def Nz(vs:List Vr)(i:Nat):Int:=(gv vs i).limbs
def Ql(vs:List Vr)(i:Nat):Bool:=(gv vs i).sec
def Tj(ss:List Sp)(i:Nat):Int:=(gs ss i).1
def Vq(ss:List Sp)(i:Nat):Int:=(gs ss i).2
def Vs(G0:Mh)(s:Bool→Nat)(r0:Bool→Option Nat)(rw:Option Nat)(base:Int)(wk:Bool→Int)(vs:List Vr)(ss:List Sp)(done:List Nat)(iv:Nat→Hl)(g:Int)(x y:List Nat)(z:Mh):Prop :=
 ∃r j,PS z s r base j∧Plan0 wk (Tj ss) (Vq ss) (Nz vs) (Ql vs) done (x++y) iv j g∧kj done (x++y) j∧(∀p,p<G0.length→(∀b,p≠s b)→(∀b,r0 b≠some p)→rw≠some p→z[p]?=G0[p]?)∧G0.length≤z.length∧(∀c q,r c=some q→r0 c=some q∨G0.length≤q)
def i3(s:Bool→Nat)(c:Bool):(if c=true then s true else s false)=s c:=by cases c<;>rfl
section run
variable {G0 : Mh} {P pst pc cst vc vst : Nat} {vs : List Vr} {os rs : List Ko} {ss : List Sp} {pl ver plst : Nat} {pls : List Pc} {s : Bool → Nat} {r0 : Bool → Option Nat} {ps0 : Bool → St} {rw : Option Nat} {base : Nat} {wk : Bool → Int} {done : List Nat} {iv : Nat → Hl} {v : Nat}
def Yk(gE:G0[P]?=some (.cells (Pg vs os rs ss (.dy pl ver) (s false) (s true)) pst))(gF:G0[pc]?=some (.cells [.ptr P 0] cst))(gG:G0[vc]?=some (.cells [.i v] vst))(j:G0[pl]?=some (.dyn (N5 pls) vs.length 3 ver plst))
  (z:PS G0 s r0 base ps0) (H:∀q,rw=some q→∃gR m k st,G0[q]?=some (.dyn gR m 1 k st)) (hv:v<vs.length) (gZ:ss.length=vs.length) (I:∀w∈done,base≤w∧w<vs.length) (gS:pls.length=vs.length)
  (gH:∀w∈done,M3 pls w=Sb base iv (Nz vs) (Ql vs) w) (S:∀w∈done,1≤Nz vs w) (g8:wk false+wk true+(done.map (Nz vs)).sum≤1000000) (g9:done.length≤1000) (jg:vs.length≤1000) :
  Yl 89 [.ptr pc 0,.ptr vc 0] (λw=>decide (Vq ss w<Tj ss v)) rw (Vs G0 s r0 rw base wk vs ss done iv (Tj ss v)):=by
 rintro x y w gV jH ⟨r,ps,T,g,C,V,X,K⟩ Y k;have A:∀E,E<G0.length→(∀b,E≠s b)→(∀b,r0 b≠some E)→rw≠some E→gV[E]?=G0[E]?:=V;have p:∀(E:Nat) (c:List LV) (st:Nat),G0[E]?=some (LObj.cells c st)→c.length≠3→gV[E]?=some (LObj.cells c st):=λE c st F Z=>by
  obtain⟨n1,n2⟩:=z.cne F Z;rw[A E (Hf.1 F).1 n1 n2 λe=>?_]
  ·exact F
  ·obtain⟨gR,m,k,gI,B⟩:=H E e;rw[B]at F;cases F
 have hP:=p _ _ _ gE (by simp[Pg]);have Z:=p _ _ _ gF U;have L:=p _ _ _ gG U;have M:gV[pl]?=some (.dyn (N5 pls) vs.length 3 ver plst):=by
  rw[A pl (Hf.1 j).1 (λb e=>?_) (λb e=>?_) λe=>?_]
  ·exact j
  ·obtain⟨hv,st,R⟩:=z.cell b;rw[e,R]at j;cases j
  ·obtain⟨gR,m,k,st,B⟩:=z.row e;rw[B]at j;cases j
  ·obtain⟨gR,m,k,st,B⟩:=H pl e;rw[B]at j;cases j
 have D:w∈done:=g.sub w U;obtain⟨jp,hw⟩:=I w D;have gw:w<ss.length:=J
 have N:v<ss.length:=J
 have q1:=zci gw;have q2:=pk N;have q3:=dj (Wo (l:=pls) (n:=w) J);have q4:=Vl (l:=pls) (i:=w) J;have gg:(M3 pls w).f=[.i (M3 pls w).buf,.i (M3 pls w).at_,.i (M3 pls w).size]:=rfl;have gK:=gH w D;have jz:=S w D;have jA:=se ss;have g5:w*2+1<(Mu ss).length:=J
 have g6:v*2<(Mu ss).length:=J
 refine Mq r_buffers_planner_run_1 Aa U ?_;by_cases O:Vq ss w<Tj ss v
 ·have Q:(gs ss w).2<(gs ss v).1:=O;rw[Hs B6,show (λw=>decide (Vq ss w<Tj ss v)) w=true by simpa using O]at k;simp[z2t,hP,Z,L,M,Pg,gw,N,hw,Mi q1,Mi q2,Q,q3,q4,gg];refine zbv hP hw ?_;rw[i3];simp[hP,Z,L,M,Pg,gw,hw,q3,q4,gg];have gA:M3 pls w=⟨(base:Int)+(if Ql vs w=true then 1 else 0),(iv w).1,Nz vs w⟩:=by rw[gK,zkn J]
  rw[gA];dsimp only;have gL:=g.wide w D;have jB:=g.inn w D;have gT:=g.sz;have gB:=λb=>(g.ok b).1
  have jC:=gB false;have jD:=gB true;have jE:(ps (Ql vs w)).size≤1000000:=by cases Ql vs w<;>omega
  have gM:=C (Ql vs w);simp at gM;refine T.give (Ql vs w) J J J λG' r' i jG G gC jF gO=>?_
  simp;have gP:((iv w).1,(iv w).1+Nz vs w)=iv w:=by rw[←gL]
  rw[gP]at G;have gD:∀E,E<G0.length→(∀b,r0 b≠some E)→∀c,r c≠some E:=λE F hn c e=>by
   rcases K c E e with h|h
   ·exact hn c h
   ·omega
  refine k G' ⟨r',_,G,g.give i jG (Jl _) O,C.give _ _ _ _ _,λE F R h2 B=>?_,J,λc q hq=>?_⟩ λq hq=>?_
  ·rw[gC E J (R _) (gD E F h2 _)];exact A E F R h2 B
  ·rcases gO c q hq with h|h
   ·exact K c q h
   ·exact .inr J
  ·obtain⟨gR,m,k2,gI,B⟩:=H q hq;have gQ:=(Hf.1 B).1;refine gC q (Y q hq) (λe=>?_) (gD q gQ (λb e=>?_) _)
   ·obtain⟨hv,st,R⟩:=z.cell (Ql vs w);rw[e,R]at B;cases B
   ·obtain⟨gR,m,k,st,h4⟩:=z.row e;rw[h4]at B;cases B
 ·have Q:¬(gs ss w).2<(gs ss v).1:=O;rw[Hq B6,show (λw=>decide (Vq ss w<Tj ss v)) w=false by simpa using O]at k;simp[z2t,hP,Z,L,M,Pg,gw,N,hw,Mi q1,Mi q2,Q];refine k gV ⟨r,ps,T,?_,?_,V,X,K⟩ λ_ _=>rfl
  ·rw[H7];exact g
  ·rw[H7];exact C
def Vs.setO{x y:List Nat}{G:Mh}{q:Nat}{gA:Int}{b0:Int}(R:PS G0 s r0 b0 ps0)(hq:rw=some q)(gD:∃gG m k st,G0[q]?=some (.dyn gG m 1 k st))(h:Vs G0 s r0 rw b0 wk vs ss done iv gA x y G)(ob:LObj):Vs G0 s r0 rw b0 wk vs ss done iv gA x y (G.set q ob):=by
 obtain⟨r,ps,gE,gg,gB,gF,hlen,gC⟩:=h;obtain⟨gG,m,k,st,h3⟩:=gD;have gH:=(Hf.1 h3).1;refine⟨r,ps,gE.setO (λb e=>?_) (λb e=>?_) ob,gg,gB,λz hz h1 h2 h4=>?_,by simpa using hlen,gC⟩
 ·obtain⟨hv,st,h1⟩:=R.cell b;rw[e,h1]at h3;cases h3
 ·rcases gC b q e with h|h
  ·obtain⟨gG,m,k,st,h4⟩:=R.row h;rw[h4]at h3;cases h3
  ·omega
 ·rw[Hg (λe=>h4 (by rw[hq,e]))];exact gF z hz h1 h2 h4
end run
end
section
set_option linter.unusedVariables false
def z63:LC:=(.q [.x 1 0] (.q [.e 2] (.q [.l 5 1,.w 6 87 5,.s 7 6,.K 8 0] (.block 0 (.loop (.q [.c 9 .lss 3 8 7] (.seq (.cond (.t 9) .skip (.exit 0)) (.seq (.block 1 (.q [.I 10 1 6 8,.l 11 10,.z 4 (.alloc [(.i 0)]),.S 1 4 11] (.q [.m 12 2,.z 13 (.mkFunc 89 [] [.t 1,.t 4]),.W 14 88 12 13,.m 2 14] (.seq (.draw [(.l 15 1,[]),(.N 16 15,[]),(.f 17 4 16,[]),(.l 18 17,[]),(.l 19 4,[]),(.l 20 1,[]),(.l 21 4,[]),(.l 23 1,[]),(.N 24 23,[]),(.f 25 0 24,[]),(.f 26 0 25,[]),(.l 27 26,[]),(.l 28 4,[]),(.I 29 3 27 28,[]),(.f 30 0 29,[]),(.l 31 30,[]),(.W 22 90 20 21,[(.l 31 30,false),(.l 28 4,false),(.l 27 26,false),(.l 23 1,false),(.l 19 4,false),(.l 18 17,false),(.l 15 1,false)]),(.W 32 47 22 31,[(.l 19 4,false),(.l 18 17,false),(.l 15 1,false)]),(.I 33 3 18 19,[]),(.S 3 33 32,[])]) (.ops [.m 34 2,.l 35 4,.z 36 (.buildSl 1 1 [(.i 0)] [(0,1,.t 35)]),.a 37 1 34 36,.m 2 37]))))) (.ops [.b 38 .add 3 8 1,.m 8 38])))))))))
def r_buffers_planner_run:Mt Tryz.prog 48=some ⟨39,z63.r,[]⟩:=Aa
def Tn.toStD{b:Nat}{G:Mh}{v:LV}{n:Nat}{l:List LV}(h:Tn b G v 1 n l):M4 b G v 1 n l:=by
 obtain⟨p,h2,⟨rfl,rfl,rfl⟩|⟨gg,k,st,hb,rfl,hp⟩⟩:=h
 ·exact M4.nil
 ·exact M4.dy hb hp h2 p
section run
variable {G : Mh} {P pst : Nat} {vs : List Vr} {os rs : List Ko} {ss : List Sp} {pl ver plst : Nat} {pls : List Pc} {s : Bool → Nat} {base : Nat} {wk : Bool → Int} {K : LV → Mh → Prop}
def zh2(hP:G[P]?=some (.cells (Pg vs os rs ss (.dy pl ver) (s false) (s true)) pst))(jR:G[pl]?=some (.dyn (N5 pls) vs.length 3 ver plst))(pA:PS G s (λ_=>none) base (λb=>⟨[],wk b⟩))
  (pB:vs.length≤40) (jS:ss.length=vs.length) (jT:pls.length=vs.length) (pC:∀b,1≤wk b) (gD:∀v,v<vs.length→((gv vs v).mode=0↔base≤v)) (gE:∀v,v<vs.length→1≤Nz vs v∧Nz vs v≤100000)
  (p9:wk false+wk true+((Qk vs vs.length).map (Nz vs)).sum≤1000000) (jV:∀i,i<base→i<vs.length→M3 pls i=⟨i,0,Nz vs i⟩)
  (k:∀E iv ps done p gA r g,Plan0 wk (Tj ss) (Vq ss) (Nz vs) (Ql vs) done p iv ps gA→done.Perm (Qk vs vs.length)→PS E s r base ps→E[pl]?=some (.dyn (N5 (Th vs base iv)) vs.length 3 ver g) →
   (∀B,B<G.length→(∀b,B≠s b)→B≠pl→E[B]?=G[B]?)→G.length≤E.length→(∀c q,r c=some q→G.length≤q)→K (.tup []) E) :
  Oa (.fn 48) [.ptr P 0] G K:=by
 refine Mq r_buffers_planner_run Aa U ?_;have pD:=(Hf.1 hP).1;have jX:=(Hf.1 jR).1;obtain⟨G0,gF⟩:∃G0,G0=G++[LObj.cells [.ptr P 0] 0]:=⟨_,rfl⟩;have o0:∀x,x<G.length→G0[x]?=G[x]?:=λx hx=>by rw[gF];exact Hk hx
 have l0:G0.length=G.length+1:=by rw[gF];simp
 have c0:G0[G.length]?=some (.cells [.ptr P 0] 0):=by rw[gF];simp
 have P0:=(o0 P pD).trans hP;have pE:=(o0 pl jX).trans jR;have jY:PS G0 s (λ_=>none) base (λb=>⟨[],wk b⟩):=by rw[gF];exact pA.push _
 simp[z63];rw[←gF];refine zdq P0 pB jS λhv o G1 A gG hD o1 l1=>?_
 have P1:=(o1 P J).trans P0;have c1:=(o1 G.length J).trans c0;have jB:=(o1 pl J).trans pE;have jC:PS G1 s (λ_=>none) base (λb=>⟨[],wk b⟩):=jY.old (λb=>o1 _ (jY.slt b)) λb y hy=>by cases hy
 have hO:M4 G0.length G1 hv 1 o.length (Rk o):=Tn.toStD hD;have gH:∀w∈o,base≤w∧w<vs.length:=λw hw=>by
  obtain⟨C,h2⟩:=zba.1 (A.mem_iff.1 hw);exact⟨(gD w C).1 h2,C⟩
 have pF:o.Nodup:=A.nodup_iff.2 (zkw _ _);have zg:o.length≤40:=by
  have:=A.length_eq;have:=zdn vs vs.length;omega
 have g8:∀t,wk false+wk true+((o.take t).map (Nz vs)).sum≤1000000:=λt=>by
  have e:=zpp (A.map (Nz vs));have:=znq (l:=o.map (Nz vs)) (λx hx=>by
   obtain⟨w,hw,rfl⟩:=Li.1 hx;have:=(gE w (gH w hw).2).1;omega) t
  rw[←Me]at this;omega
 obtain⟨gI,jD⟩:∃gI,∀w∈o,gI≤Tj ss w:=by
  cases o with
  |nil=>exact⟨0,U⟩
  |cons w o' =>
   refine⟨Tj ss w,λx hx=>?_⟩;rcases Hu.1 hx with rfl|hx
   ·exact Jl _
   ·exact (Ja.1 gG).1 x hx
 simp;refine hO.lenL ?_;refine M2 (λρ zK E N=>∃(t:Nat) (p:List Nat) (bv:LV) (r:Bool→Option Nat) (ps:Bool→St) (iv:Nat→Hl) (j:List Pc) (g:Nat) (gA:Int),zK=[]∧N+t=o.length∧lk ρ 1=.ptr G.length 0∧lk ρ 2=bv∧lk ρ 6=hv∧lk ρ 7=.i o.length∧lk ρ 8=.i t ∧
   M4 G1.length E bv 1 p.length (Rk p)∧PS E s r base ps∧Plan0 wk (Tj ss) (Vq ss) (Nz vs) (Ql vs) (o.take t) p iv ps gA∧(∀w∈o.drop t,gA≤Tj ss w)∧kj (o.take t) p ps ∧
   (∀B,B<G1.length→(∀b,B≠s b)→B≠pl→E[B]?=G1[B]?)∧G1.length≤E.length∧(∀c q,r c=some q→G1.length≤q)∧E[pl]?=some (.dyn (N5 j) vs.length 3 ver g)∧j.length=vs.length ∧
   (∀i,i<vs.length→(i<base∨i∈o.take t)→M3 j i=Sb base iv (Nz vs) (Ql vs) i))
  (N:=o.length) ⟨0,[],.nilSl,λ_=>none,λb=>⟨[],wk b⟩,λ_=>(0,0),pls,plst,gI,rfl,rfl,U,U,U,U,U,M4.nil,jC,zs8 pC,jD,λs=>U,λ_ _ _ _=>rfl,Hm _,λc q F=>(by cases F),jB,jT,λi hi h=>?_⟩ ?_
 ·rcases h with h|h
  ·rw[jV i h hi,zo0 J]
  ·simp at h
 rintro N ρ zK E ⟨t,p,bv,r,ps,iv,j,g,gA,rfl,hN,C,h2,h6,h7,h8,hB,g9,R,jZ,jg,gK,zj,jE,gL,S,gP⟩ Nx pG;have j3:=λ(B:Nat) (c:List LV) (st:Nat) (D:G1[B]?=some (LObj.cells c st)) (hc:c.length≠3)=>jC.cne D hc
 have j4:∀(B:Nat) (c:List LV) (st:Nat),G1[B]?=some (LObj.cells c st)→B≠pl:=λB c st D e=>by rw[e,jB]at D;cases D
 have P':=(gK P J (j3 _ _ _ P1 (by simp[Pg])).1 (j4 _ _ _ P1)).trans P1;have c':=(gK G.length J (j3 _ _ _ c1 U).1 (j4 _ _ _ c1)).trans c1;by_cases pV:t<o.length
 case neg =>
  have e:t=o.length:=J
  subst e;simp[h7,h8];rw[Lv]at R gP;have pH:j=Th vs base iv:=fq (by rw[S,kb]) λi hi=>by
   rw[zh0 J];have jF:i<vs.length:=J
   refine gP i jF ?_;by_cases q:i<base
   ·exact .inl q
   ·exact .inr (A.mem_iff.2 (zba.2 ⟨jF,(gD i jF).2 J⟩))
  rw[pH]at gL;refine k E iv ps o p gA r g R A g9 gL (λB D C h2=>?_) J λc q F=>by have:=jE c q F;omega
  rw[gK B J C h2,o1 B J,o0 B D]
 have jG:o[t]?=some o[t]:=Hj pV;obtain⟨v,gQ⟩:∃v,v=o[t]:=⟨_,rfl⟩;rw[←gQ]at jG;have pI:v∈o:=by rw[gQ];exact Ky pV
 obtain⟨zp,O⟩:=gH v pI;have pK:M4 G0.length E hv 1 o.length (Rk o):=hO.frame2 λq F=>by
  obtain⟨a1,a2,jA,m,k2,gR,T⟩:=hO.row F;refine gK q a2 (λb e=>?_) λe=>?_
  ·obtain⟨hv,st,C⟩:=jC.cell b;rw[e,C]at T;cases T
  ·rw[e,jB]at T;cases T
 simp[h6,h7,h8,pV];refine pK.at1 J J λa ha=>?_
 simp;refine ha _ ?_;simp only[Io];refine⟨_,ztx jG,?_⟩;simp[C,h2];obtain⟨G2,gB⟩:∃G2,G2=E++[LObj.cells [.i v] 1]:=⟨_,rfl⟩;have o2:∀x,x<E.length→G2[x]?=E[x]?:=λx hx=>by rw[gB];exact Hk hx
 have l2:G2.length=E.length+1:=Dp
 have v2:G2[E.length]?=some (.cells [.i v] 1):=Dp
 have P2:=(o2 P J).trans P';have c2:=(o2 G.length J).trans c';have L:=(o2 pl J).trans gL;have gC:PS G2 s r base ps:=by rw[gB];exact g9.push _
 have jH:M4 G1.length G2 bv 1 p.length (Rk p):=by rw[gB];exact hB.push_end
 have gS:∀q,Q5 bv=some q→∃jA m k st,G2[q]?=some (.dyn jA m 1 k st):=λq F=>(jH.row F).2.2
 rw[←gB];have jI:∀w∈o.take t,base≤w∧w<vs.length:=λw hw=>gH w (Kr hw)
 have j5:v∈o.drop t:=by rw[If pV,←gQ];simp
 have zz:p.length≤40:=by
  have:=jg false;rw[H4]at this;omega
 have pL:v ∉ o.take t:=λhm=>by
  have:=H9 t o ▸ pF;exact (List.nodup_append.1 this).2.2 v hm v j5 rfl
 refine zm8 (over:=λw=>decide (Vq ss w<Tj ss v)) (I:=Vs G2 s r (Q5 bv) base wk vs ss (o.take t) iv (Tj ss v)) jH J
  ⟨r,ps,gC,R.raise (jZ v j5),jg,λ_ _ _ _ _=>rfl,Hm _,λ_ _ h=>.inl h⟩
  (Yk P2 c2 v2 L gC gS O jS jI S (λw hw=>gP w (jI w hw).2 (.inr hw)) (λw hw=>(gE w (jI w hw).2).1) (g8 t) Bb J)
  (λx y G q ob F h=>Vs.setO gC F (gS q F) h ob) λx gT G3 pM jK pX=>?_
 obtain⟨r3,V,H,z,X,gM,zA,j6⟩:=pM;rw[Ip]at z X;have M:∀(B:Nat) (c:List LV) (st:Nat),G2[B]?=some (LObj.cells c st)→c.length≠3→G3[B]?=some (LObj.cells c st):=λB c st D hc=>by
  obtain⟨n1,n2⟩:=gC.cne D hc;rw[gM B (Hf.1 D).1 n1 n2 λe=>?_]
  ·exact D
  ·obtain⟨jA,m,k,gR,h3⟩:=gS B e;rw[h3]at D;cases D
 have P3:=M _ _ _ P2 (by simp[Pg]);have c3:=M _ _ _ c2 U;have v3:=M _ _ _ v2 U;have jL:∀b,pl≠s b:=λb e=>by
  obtain⟨hv,st,C⟩:=gC.cell b;rw[e,C]at L;cases L
 have Y:G3[pl]?=some (.dyn (N5 j) vs.length 3 ver g):=by
  rw[gM pl (Hf.1 L).1 jL (λb e=>?_) λe=>?_]
  ·exact L
  ·obtain⟨jA,m,k,st,h3⟩:=gC.row e;rw[h3]at L;cases L
  ·obtain⟨jA,m,k,st,h3⟩:=gS pl e;rw[h3]at L;cases L
 have q0:=fg (P8 O);have zB:=S2 O;have pY:v*3<(Mz vs).length:=J
 obtain⟨jp,pZ⟩:=gE v O;simp[C,h2,P3,c3,v3,Y,Pg,O,Mi q0];refine zbv P3 O ?_;rw[i3];simp[C,P3,c3,v3,Pg,O,Y,Mi q0];have jM:=λb=>(z.ok b).1
 have zC:=z.sz;have pN:=g8 t;have zD:=jM false;have zE:=jM true;have zF:(V (Ql vs v)).size≤1000000:=by cases Ql vs v<;>omega
 have pO:=X (Ql vs v);rw[H4]at pO;have p8:=H.slt (Ql vs v);refine H.take (Ql vs v) (n:=Nz vs v) ⟨jM _,J⟩ ⟨jp,J⟩ (λx hx=>z.hole _ hx) J λG4 j7 gV zG=>?_
 have nz:∀(B:Nat) (c:List LV) (st:Nat),G3[B]?=some (LObj.cells c st)→c.length≠3→G4[B]?=some (LObj.cells c st):=λB c st D hc=>by
  obtain⟨n1,n2⟩:=H.cne D hc;rw[gV B (Hf.1 D).1 (n1 _) (n2 _)];exact D
 have P4:=nz _ _ _ P3 (by simp[Pg]);have c4:=nz _ _ _ c3 U;have v4:=nz _ _ _ v3 U;have gZ:G4[pl]?=some (.dyn (N5 j) vs.length 3 ver g):=by
  rw[gV pl (Hf.1 Y).1 (jL _) λe=>?_]
  ·exact Y
  ·obtain⟨jA,m,k,st,h3⟩:=H.row e;rw[h3]at Y;cases Y
 have j8:M4 G1.length G4 gT 1 x.length (Rk x):=jK.frame2 λq F=>by
  obtain⟨a1,a2,jA,m,k2,gR,T⟩:=jK.row F;refine gV q a2 (λe=>?_) λe=>?_
  ·obtain⟨hv,st,C⟩:=H.cell (Ql vs v);rw[e,C]at T;cases T
  ·obtain⟨jA,m,k,st,h3⟩:=H.row e;rw[h3]at T;cases T
 have j9:=Vl (l:=j) (i:=v) J;simp[C,P3,c3,v3,Y,P4,c4,v4,gZ,Pg,O,j9];have pg:=ztu (f:=Pc.f) Pc.f_len (l:=j) (i:=v) ⟨(base:Int)+bI (Ql vs v),(Ok (Nz vs v) (V (Ql vs v))).1,Nz vs v⟩ J;rw[show M5 (N5 j) (v*3) [LV.i ((base:Int)+bI (Ql vs v)),LV.i (Ok (Nz vs v) (V (Ql vs v))).1,LV.i (Nz vs v)]=N5 (j.set v ⟨(base:Int)+bI (Ql vs v),(Ok (Nz vs v) (V (Ql vs v))).1,Nz vs v⟩) from pg];obtain⟨Q,jN⟩:∃Q,Q=j.set v ⟨(base:Int)+bI (Ql vs v),(Ok (Nz vs v) (V (Ql vs v))).1,Nz vs v⟩:=⟨_,rfl⟩;rw[←jN];have jO:=(Hf.1 gZ).1;obtain⟨G5,gO⟩:∃G5,G5=G4.set pl (.dyn (N5 Q) vs.length 3 ver (g+1)):=⟨_,rfl⟩;have o5:∀x,x≠pl→G5[x]?=G4[x]?:=λx hx=>by rw[gO,Hg (λe=>hx e.symm)]
 have l5:G5.length=G4.length:=by rw[gO];simp
 have pP:G5[pl]?=some (.dyn (N5 Q) vs.length 3 ver (g+1)):=by rw[gO];exact Hi jO
 have v5:G5[E.length]?=some (.cells [.i v] 1):=by rw[o5 _ (λe=>by rw[e,gZ]at v4;cases v4)];exact v4
 have pj:M4 G1.length G5 gT 1 x.length (Rk x):=j8.frame2 λq F=>by
  obtain⟨a1,a2,jA,m,k2,gR,T⟩:=j8.row F;exact o5 q λe=>by rw[e,gZ]at T;cases T
 have jP:∀c q,r3 c=some q→G1.length≤q:=λc q F=>by
  rcases j6 c q F with h|h
  ·exact jE c q h
  ·omega
 have jQ:PS G5 s r3 base (Rx V (Ql vs v) (Ok (Nz vs v) (V (Ql vs v))).2):=by
  rw[gO];exact j7.setO jL (λb e=>by have:=jP b pl e;omega) _
 rw[←gO];simp[v5];have zH:x.length≤40:=J
 refine M4.push2 (x:=[.i v]) pj.push_end J Ab J rfl rfl λpQ G6 pR jz pS zI=>?_
 have pp:∀q,q<G5.length→Q5 gT≠some q→G6[q]?=G5[q]?:=λq F hn=>by rw[jz q Ab hn,Hk F]
 clear jz;simp at pS;simp[h8];have Z:∀B ob,G5[B]?=some ob→(∀jA m k st,ob≠LObj.dyn jA m 1 k st)→G6[B]?=some ob:=λB ob D hn=>by
  rw[pp B (Hf.1 D).1 λe=>?_]
  ·exact D
  ·obtain⟨_,_,jA,m,k2,gR,T⟩:=pj.row e;rw[D]at T;exact hn _ _ _ _ (Option.some.inj T)
 have gg:o.take (t+1)=o.take t++[v]:=by rw[Lq,jG];rfl
 refine⟨J,pG _ _ _ ⟨N-1,J,t+1,x++[v],pQ,r3,_,_,Q,g+1,Tj ss v,rfl,J,Au,U,Bk,Cd,U,?_,jQ.old (λb=>?_) (λb y hy=>?_),gg ▸ z.take pL jp,λw hw=>?_,gg ▸ X.take _ _,λB D n1 n2=>?_,J,jP,Z _ _ pP De,by rw[jN];simpa using S,λi hi h=>?_⟩⟩
 ·have e:Rk (x++[v])=Rk x++[.i v]:=by simp[Rk]
  rw[e,Hv];exact pR
 ·obtain⟨hv,st,C⟩:=jQ.cell b;rw[C];exact Z _ _ C De
 ·obtain⟨jA,m,k,st,C⟩:=jQ.row hy;rw[C];exact Z _ _ C De
 ·have pT:=H9 t o ▸ gG;have hd:=(Kf.1 pT).2.1;rw[If pV,←gQ]at hd;exact (Ja.1 hd).1 w hw
 ·have pz:∀q,Q5 gT=some q→G1.length≤q:=λq F=>(jK.row F).1
  rw[pp B J (λe=>by have:=pz B e;omega),o5 B n2,gV B J (n1 _) (λe=>by have:=jP _ B e;omega),gM B J n1 (λb e=>by have:=jE b B e;omega) (λe=>by have:=(jH.row e).1;omega),o2 B J];exact gK B D n1 n2
 ·rw[jN,zo2 J];by_cases e:i=v
  ·subst e;rw[Hs rfl,zkn J];simp[We,bI]
  ·rw[Hq e,fm e];refine gP i hi ?_;rcases h with h|h
   ·exact .inl h
   ·rw[gg]at h;rcases Ib.1 h with h|h
    ·exact .inr h
    ·exact absurd (J8.1 h) e
end run
end
section
set_option linter.unusedVariables false
def z4e:LC:=(.q [.e 2] (.seq (.q [.m 6 0,.N 7 6,.f 8 0 7,.f 9 0 8,.l 10 9,.s 11 10,.K 12 0] (.block 0 (.loop (.q [.c 13 .lss 3 12 11] (.seq (.cond (.t 13) .skip (.exit 0)) (.seq (.block 1 (.q [.m 14 12,.I 15 3 10 12,.L 16 3 15,.z 4 (.alloc [(.i 0),(.bool false),(.i 0)]),.m 3 14,.S 3 4 16] (.seq (.q [.f 17 2 4,.l 18 17,.b 19 .eql 3 18 0] (.cond (.t 19) (.exit 0) .skip)) (.q [.K 5 1] (.seq (.q [.f 20 2 4,.l 21 20,.b 22 .eql 3 21 3] (.cond (.t 22) (.ops [.K 5 2]) .skip)) (.q [.m 23 2,.f 24 0 4,.l 25 24,.m 26 5,.f 27 1 4,.l 28 27,.z 29 (.build [(.i 0),(.i 0),(.bool false)] [(0,1,.t 25),(1,1,.t 26),(2,1,.t 28)]),.z 30 (.buildSl 3 1 [(.i 0),(.i 0),(.bool false)] [(0,3,.t 29)]),.a 31 3 23 30,.m 2 31] (.draw [(.m 32 0,[]),(.N 33 32,[]),(.f 34 4 33,[]),(.l 35 34,[]),(.m 36 3,[]),(.m 37 3,[]),(.f 38 0 4,[]),(.l 39 38,[]),(.z 40 (.build [(.i 0),(.i 0),(.i 0)] [(0,1,.t 37),(2,1,.t 39)]),[]),(.I 41 3 35 36,[]),(.S 3 41 40,[])]))))))) (.ops [.b 42 .add 3 12 1,.m 12 42]))))))) (.q [.m 43 2,.m 2 43] .ret)))
def r_buffers_planner_params:Mt Tryz.prog 46=some ⟨44,z4e.r,[.tmp 2]⟩:=Aa
def Sl(vs:List Vr)(n:Nat):List Bf:=(List.range n).map λi=>Pt (gv vs i)
def zr1(vs:List Vr)(n:Nat):Sl vs (n+1)=Sl vs n++[Pt (gv vs n)]:=by simp[Sl,List.range_succ]
def xc(a b:List Bf):N0 (a++b)=N0 a++N0 b:=by simp[N0]
section par
variable {G : Mh} {P pst : Nat} {vs : List Vr} {os rs : List Ko} {ss : List Sp} {pl ver plst : Nat} {pls : List Pc} {s0 s1 : LV} {base : Nat} {K : LV → Mh → Prop}
def zdc(hP:G[P]?=some (.cells [.lst (Mz vs) vs.length 3,.lst (M6 os) os.length 7,.lst (M6 rs) rs.length 7,.lst (Mu ss) ss.length 2,.dy pl ver,s0,s1] pst))(gB:G[pl]?=some (.dyn (N5 pls) vs.length 3 ver plst))(gG:pls.length=vs.length)
  (gC:∀v,v<vs.length→((gv vs v).mode=0↔base≤v)) (gO:base≤vs.length) (gR:vs.length≤100000)
  (k:∀hv A g j,M4 G.length A hv 3 base (N0 (Sl vs base))→A[pl]?=some (.dyn (N5 g) vs.length 3 ver j)→g.length=vs.length→(∀i,i<base→M3 g i=⟨i,0,Nz vs i⟩)→(∀z,z<G.length→z≠pl→A[z]?=G[z]?)→G.length≤A.length→K hv A) :
  Oa (.fn 46) [.ptr P 0] G K:=by
 refine Mq r_buffers_planner_params Aa U ?_;have S:=(Hf.1 hP).1;have O:=(Hf.1 gB).1;have gD:P≠pl:=λe=>by rw[e,gB]at hP;cases hP
 simp[z4e,hP];refine M2 (λρ gV A N=>∃(i:Nat) (v:LV) (g:List Pc) (j:Nat),gV=[]∧N+i=base∧lk ρ 0=.ptr P 0∧lk ρ 2=v∧lk ρ 10=.lst (Mz vs) vs.length 3∧lk ρ 11=.i vs.length∧lk ρ 12=.i i∧M4 G.length A v 3 i (N0 (Sl vs i))∧A[pl]?=some (.dyn (N5 g) vs.length 3 ver j)∧g.length=vs.length∧(∀gH,gH<i→M3 g gH=⟨gH,0,Nz vs gH⟩)∧(∀z,z<G.length→z≠pl→A[z]?=G[z]?)∧G.length≤A.length)
  (N:=base) ⟨0,.nilSl,pls,plst,rfl,J,U,U,U,U,U,M4.nil,gB,gG,λgH hj=>J,λ_ _ _=>rfl,Hm _⟩ ?_
 rintro N ρ gV A ⟨i,v,g,j,rfl,hN,h0,h2,T,Q,R,hD,E,F,gg,ho,hl⟩ Nx gI;have P':=(ho P S gD).trans hP;have H:=(Hf.1 E).1;by_cases gM:i<vs.length
 case neg =>
  have e:i=base:=J
  subst e;simp[h2,Q,R,gM];exact k _ _ _ _ hD E F gg ho hl
 have q3:=U3 (P8 gM);have gE:=S2 gM;have hm:=gC i gM;have gK:=zr1 vs i;have gL:Nz vs i=(gv vs i).limbs:=rfl;have gF:(gv vs i).f=[.i (gv vs i).limbs,.bool (gv vs i).sec,.i (gv vs i).mode]:=rfl;generalize gv vs i=x at *;by_cases V:x.mode=0
 ·have e:i=base:=by
   have:=hm.1 V;omega
  subst e;simp[h2,T,Q,R,gM,q3,gE,gF,V];exact k _ _ _ _ hD.push_end (by rw[Mn H];exact E) F gg (λz D h1=>by rw[Mn J];exact ho z D h1) Ab
 have gS:i<base:=by
  have:¬base≤i:=λq=>V (hm.2 q)
  omega
 obtain⟨G1,gA⟩:∃G1,G1=A++[LObj.cells [.i x.limbs,.bool x.sec,.i x.mode] 1]:=⟨_,rfl⟩;have o1:∀z,z<A.length→G1[z]?=A[z]?:=λz D=>by rw[gA];exact Hk D
 have l1:G1.length=A.length+1:=by rw[gA];simp
 have x1:G1[A.length]?=some (.cells [.i x.limbs,.bool x.sec,.i x.mode] 1):=by rw[gA];simp
 have P1:=(o1 P J).trans P';have gT:=(o1 pl H).trans E;have D1:M4 G.length G1 v 3 i (N0 (Sl vs i)):=by rw[gA];exact hD.push_end
 by_cases h3:x.mode=3
 ·simp[h2,T,Q,R,gM,q3,gE,gF,V,h3];obtain⟨I,B⟩:∃I,I=A++[LObj.cells [LV.i x.limbs,LV.bool x.sec,LV.i 3] 1,LObj.dyn [LV.i x.limbs,LV.i 2,LV.bool x.sec] 1 3 0 0]:=⟨_,rfl⟩;have o2:∀z,z<A.length→I[z]?=A[z]?:=λz D=>by rw[B];exact Hk D
  have l2:I.length=A.length+2:=by rw[B];simp
  have x2:I[A.length]?=some (.cells [.i x.limbs,.bool x.sec,.i 3] 1):=by rw[B];simp
  have D2:M4 G.length I v 3 i (N0 (Sl vs i)):=by rw[B];exact hD.push_end
  rw[←B];refine M4.push2 (x:=[.i x.limbs,.i 2,.bool x.sec]) D2 J J J rfl rfl λv3 G3 D3 p l3 gP=>?_
  have L:∀z ob,I[z]?=some ob→(∀q,Q5 v=some q→q≠z)→G3[z]?=some ob:=λz ob D hn=>by
   rw[p z (Hf.1 D).1 λe=>hn z e rfl];exact D
  have C:∀z,z<G.length→Q5 v≠some z:=λz D e=>by have:=(D2.row e).1;omega
  have x3:=L _ _ x2 λq hq e=>by
   obtain⟨_,_,gZ,m,k2,gQ,a3⟩:=D2.row hq;rw[e,x2]at a3;cases a3
  have P3:G3[P]?=G[P]?:=Fg
  rw[hP]at P3;have X:G3[pl]?=some (.dyn (N5 g) vs.length 3 ver j):=Fj
  have M:=(Hf.1 X).1;have Y:=Vl (l:=g) (i:=i) J;simp[h0,P3,x3,X,gM,Y,R];have Z:=ztu (f:=Pc.f) Pc.f_len (l:=g) (i:=i) ⟨i,0,x.limbs⟩ J;rw[show M5 (N5 g) (i*3) [LV.i (i:Int),LV.i 0,LV.i x.limbs]=N5 (g.set i ⟨i,0,x.limbs⟩) from Z];refine⟨J,gI _ _ _ ⟨N-1,J,i+1,v3,g.set i ⟨i,0,x.limbs⟩,j+1,rfl,J,Cs,U,Bn,A9,U,?_,Hi M,Cl,λgH hj=>?_,λz D hn=>?_,Ab⟩⟩
  ·rw[gK,xc];have e:N0 [Pt x]=[.i x.limbs,.i 2,.bool x.sec]:=by simp[N0,Pt,Bf.f,h3]
   rw[e];exact D3.set_lt O
  ·rw[zo2 J];by_cases e:gH=i
   ·rw[Hs e,e,gL]
   ·rw[Hq e];exact gg gH J
  ·rw[Hg (λe=>hn e.symm),p z J (C z D),o2 z J];exact ho z D hn
 ·simp[h2,T,Q,R,gM,q3,gE,gF,V,h3];obtain⟨I,B⟩:∃I,I=A++[LObj.cells [LV.i x.limbs,LV.bool x.sec,LV.i x.mode] 1,LObj.dyn [LV.i x.limbs,LV.i 1,LV.bool x.sec] 1 3 0 0]:=⟨_,rfl⟩;have o2:∀z,z<A.length→I[z]?=A[z]?:=λz D=>by rw[B];exact Hk D
  have l2:I.length=A.length+2:=by rw[B];simp
  have x2:I[A.length]?=some (.cells [.i x.limbs,.bool x.sec,.i x.mode] 1):=by rw[B];simp
  have D2:M4 G.length I v 3 i (N0 (Sl vs i)):=by rw[B];exact hD.push_end
  rw[←B];refine M4.push2 (x:=[.i x.limbs,.i 1,.bool x.sec]) D2 J J J rfl rfl λv3 G3 D3 p l3 gP=>?_
  have L:∀z ob,I[z]?=some ob→(∀q,Q5 v=some q→q≠z)→G3[z]?=some ob:=λz ob D hn=>by
   rw[p z (Hf.1 D).1 λe=>hn z e rfl];exact D
  have C:∀z,z<G.length→Q5 v≠some z:=λz D e=>by have:=(D2.row e).1;omega
  have x3:=L _ _ x2 λq hq e=>by
   obtain⟨_,_,gZ,m,k2,gQ,a3⟩:=D2.row hq;rw[e,x2]at a3;cases a3
  have P3:G3[P]?=G[P]?:=Fg
  rw[hP]at P3;have X:G3[pl]?=some (.dyn (N5 g) vs.length 3 ver j):=Fj
  have M:=(Hf.1 X).1;have Y:=Vl (l:=g) (i:=i) J;simp[h0,P3,x3,X,gM,Y,R];have Z:=ztu (f:=Pc.f) Pc.f_len (l:=g) (i:=i) ⟨i,0,x.limbs⟩ J;rw[show M5 (N5 g) (i*3) [LV.i (i:Int),LV.i 0,LV.i x.limbs]=N5 (g.set i ⟨i,0,x.limbs⟩) from Z];refine⟨J,gI _ _ _ ⟨N-1,J,i+1,v3,g.set i ⟨i,0,x.limbs⟩,j+1,rfl,J,Cs,U,Bn,A9,U,?_,Hi M,Cl,λgH hj=>?_,λz D hn=>?_,Ab⟩⟩
  ·rw[gK,xc];have e:N0 [Pt x]=[.i x.limbs,.i 1,.bool x.sec]:=by simp[N0,Pt,Bf.f,h3]
   rw[e];exact D3.set_lt O
  ·rw[zo2 J];by_cases e:gH=i
   ·rw[Hs e,e,gL]
   ·rw[Hq e];exact gg gH J
  ·rw[Hg (λe=>hn e.symm),p z J (C z D),o2 z J];exact ho z D hn
end par
end
section
set_option linter.unusedVariables false
def z9s:LC:=(.q [.x 1 0,.z 2 (.alloc [.nilSl,.nilSl,(.i 0),(.i 0),(.i 0),(.i 0),(.i 0),(.i 0)]),.K 3 0] (.seq (.q [.L 15 3 1,.w 16 43 15,.m 4 16] (.q [.m 17 4,.b 18 .neq 35 17 0] (.cond (.t 18) (.q [.z 19 (.build [.nilSl,.nilSl,(.i 0),(.i 0),(.i 0),(.i 0),(.i 0),(.i 0)] []),.m 20 4,.S 8 2 19,.m 3 20] .ret) .skip))) (.q [.L 22 3 1,.w 23 44 22,.m 21 23,.X 24 0 21,.X 25 1 21,.z 5 (.alloc [(.i 0),(.i 0)]),.S 2 5 24,.m 6 25] (.q [.z 26 (.ixAddrArr 2 1 (.t 5) (.k 0)),.l 27 26,.z 28 (.ixAddrArr 2 1 (.t 5) (.k 1)),.l 29 28,.c 30 .add 3 27 29,.m 7 30] (.seq (.q [.f 31 0 1,.l 32 31,.s 33 32,.K 34 0] (.block 0 (.loop (.q [.c 35 .lss 3 34 33] (.seq (.cond (.t 35) .skip (.exit 0)) (.seq (.block 1 (.q [.I 36 3 32 34,.L 37 3 36,.z 9 (.alloc [(.i 0),(.bool false),(.i 0)]),.S 3 9 37] (.q [.f 38 2 9,.l 39 38,.b 40 .eql 3 39 0] (.cond (.t 40) (.ops [.m 41 7,.f 42 0 9,.l 43 42,.c 44 .add 3 41 43,.m 7 44]) .skip)))) (.ops [.b 45 .add 3 34 1,.m 34 45]))))))) (.seq (.q [.m 46 6,.z 47 (.un .not (.t 46)),.m 48 47,.mn 49 48 7,.nb 50 48 .gtr 3 49 65536,.p 51 48 50] (.cond (.t 51) (.q [.z 52 (.build [.nilSl,.nilSl,(.i 0),(.i 0),(.i 0),(.i 0),(.i 0),(.i 0)] []),.S 8 2 52,.K 3 10] .ret) .skip)) (.seq (.draw [(.L 53 3 1,[]),(.L 54 3 1,[]),(.f 56 0 1,[]),(.l 57 56,[]),(.s 58 57,[]),(.z 59 (.mkSl 3 [(.i 0),(.i 0),(.i 0)] (.t 58) (.t 58)),[(.l 57 56,false),(.L 54 3 1,false),(.L 53 3 1,false)]),(.w 55 45 54,[(.z 59 (.mkSl 3 [(.i 0),(.i 0),(.i 0)] (.t 58) (.t 58)),true),(.l 57 56,false),(.L 53 3 1,false)]),(.z 60 (.build [.nilSl,.nilSl,.nilSl,.nilSl,.nilSl,.nilPtr,.nilPtr] [(0,3,.t 53),(3,1,.t 55),(4,1,.t 59)]),[]),(.x 61 60,[(.z 59 (.mkSl 3 [(.i 0),(.i 0),(.i 0)] (.t 58) (.t 58)),true),(.l 57 56,false),(.L 53 3 1,false)]),(.m 10 61,[])]) (.q [.m 62 10,.w 63 46 62,.z 64 (.build [.nilSl,.nilSl,(.i 0),(.i 0),(.i 0),(.i 0),(.i 0),(.i 0)] [(0,1,.t 63)]),.z 11 (.alloc [.nilSl,.nilSl,(.i 0),(.i 0),(.i 0),(.i 0),(.i 0),(.i 0)]),.S 8 11 64] (.seq (.q [.K 65 0] (.block 2 (.loop (.q [.b 66 .lss 3 65 2] (.seq (.cond (.t 66) .skip (.exit 2)) (.seq (.block 3 (.q [.m 67 65,.m 12 67] (.seq (.draw [(.m 68 10,[]),(.m 69 12,[]),(.f 70 0 11,[]),(.l 71 70,[]),(.s 72 71,[]),(.m 73 12,[]),(.c 74 .add 3 72 73,[]),(.z 75 (.build [(.i 0),.nilSl,(.i 0)] [(0,1,.t 74)]),[]),(.x 76 75,[(.l 71 70,false)]),(.N 77 68,[]),(.f 78 5 77,[]),(.z 79 (.ixAddrArr 2 1 (.t 78) (.t 69)),[]),(.S 1 79 76,[])]) (.draw [(.m 80 12,[]),(.m 81 10,[]),(.m 82 12,[]),(.N 83 81,[]),(.f 84 5 83,[]),(.z 85 (.ixAddrArr 2 1 (.t 84) (.t 82)),[]),(.l 86 85,[]),(.m 87 12,[]),(.z 88 (.ixAddrArr 2 1 (.t 5) (.t 87)),[]),(.l 89 88,[]),(.f 91 2 11,[]),(.W 90 47 86 89,[]),(.z 92 (.ixAddrArr 2 3 (.t 91) (.t 80)),[]),(.S 3 92 90,[])])))) (.ops [.b 93 .add 3 65 1,.m 65 93]))))))) (.q [.m 94 10,.w 95 48 94] (.seq (.q [.m 96 10,.N 97 96,.f 98 5 97,.L 99 2 98,.K 100 0] (.block 4 (.loop (.q [.b 101 .lss 3 100 2] (.seq (.cond (.t 101) .skip (.exit 4)) (.seq (.block 5 (.q [.m 102 100,.z 103 (.ixArr false 2 1 (.t 99) (.t 100)),.m 13 102,.m 14 103] (.draw [(.f 104 0 11,[]),(.l 105 104,[]),(.m 106 14,[]),(.N 107 106,[]),(.f 108 2 107,[]),(.l 109 108,[]),(.m 110 13,[]),(.b 111 .eql 3 110 1,[]),(.z 112 (.build [(.i 0),(.i 0),(.bool false)] [(0,1,.t 109),(1,1,.k 3),(2,1,.t 111)]),[]),(.z 113 (.buildSl 3 1 [(.i 0),(.i 0),(.bool false)] [(0,3,.t 112)]),[(.l 109 108,false),(.l 105 104,false)]),(.a 114 3 105 113,[]),(.f 115 0 11,[]),(.S 1 115 114,[])]))) (.ops [.b 116 .add 3 100 1,.m 100 116]))))))) (.q [.m 117 10,.N 118 117,.f 119 4 118,.l 120 119,.f 121 1 11,.S 1 121 120] (.q [.L 122 8 11,.S 8 2 122,.K 3 0] .ret)))))))))))))
def r_buffers_Build:Mt Tryz.prog 8=some ⟨123,z9s.r,[.cellN 2 8,.tmp 3]⟩:=Aa
def U8(vs:List Vr)(p:List Ko)(C:List Bf)(ps:List Pc)(D E:Pc):Prop :=
 ∃(g:Nat) (f:Fr Ko) (B:Nat→Hl) (j:Bool→St) (done z:List Nat) (A:Int),Oc 0 0 vs=some g∧f.wf Pe∧p=f.flat∧Plan0 (Pj vs p).1 (Tj (Qs p (f.tops 0) 0 vs)) (Vq (Qs p (f.tops 0) 0 vs)) (Nz vs) (Ql vs) done z B j A ∧
  (∀i,g≤i→i<vs.length→i∈done)∧C=Rd vs g j∧ps=Th vs g B∧D=Ur g (Pj vs p).1 false∧E=Ur g (Pj vs p).1 true∧(j false).size+(j true).size≤65536∧(j false).size+(j true).size≤(Pj vs p).1 false+(Pj vs p).1 true+((Qk vs vs.length).map (Nz vs)).sum
def ym(g:List Vr)(j p:List Ko)(e:Int):Prop :=
 (Mw g j p=false∧e=2)∨(Mw g j p=true∧e=10∧((Pj g j).2=false∨65536<(Pj g j).1 false+(Pj g j).1 true+((Qk g g.length).map (Nz g)).sum))
def Z0(g:List Vr)(j C:List Ko)(v:LV):Prop :=
 ∃p z A B e,v=.tup [.agg (Mr p z A B),.i e]∧((ym g j C e∧p=[]∧z=[]∧A=⟨0,0,0⟩∧B=⟨0,0,0⟩)∨(e=0∧Mw g j C=true∧(Pj g j).2=true∧U8 g j p z A B))
def zo7{p z:List Ko}{e:Int}(B:ym V p z e):∃j,Z0 V p z j∧j.dat=true∧∃r,j=LV.tup r∧∃d,r=[d,LV.i e]∧∃r,d=LV.agg r∧∃d A,r=d::A∧(d=LV.nilSl∨∃g,d=LV.lst [] 0 g)∧∃d,A=[d,LV.i 0,LV.i 0,LV.i 0,LV.i 0,LV.i 0,LV.i 0]∧(d=LV.nilSl∨∃g,d=LV.lst [] 0 g) :=
 ⟨.tup [.agg (Mr [] [] ⟨0,0,0⟩ ⟨0,0,0⟩),.i e],⟨_,_,_,_,_,rfl,.inl ⟨B,rfl,rfl,rfl,rfl⟩⟩,by simp[LV.dat,dats,bn],_,rfl,_,rfl,_,rfl,_,_,rfl,.inr ⟨3,rfl⟩,_,rfl,.inr ⟨3,rfl⟩⟩
structure Mid (vs:List Vr) (os rs:List Ko) (ss:List Sp) (P O pl b base:Nat) (hb:LV) (wk:Bool→Int) (pls:List Pc) (plst:Nat) (q0 q1:LV) (W:List LV) (G:Mh):Prop where
 c1:G[1]?=some (.cells [.nilSl,.nilSl,.i 0,.i 0,.i 0,.i 0,.i 0,.i 0] 0)
 c2:G[2]?=some (.cells [.i (wk false),.i (wk true)] 1)
 cO:∃so,G[O]?=some (.cells (hb::.nilSl::W) so)
 cP:∃sp,G[P]?=some (.cells [.lst (Mz vs) vs.length 3,.lst (M6 os) os.length 7,.lst (M6 rs) rs.length 7,.lst (Mu ss) ss.length 2,.dy pl 0,q0,q1] sp)
 cpl:G[pl]?=some (.dyn (N5 pls) vs.length 3 0 plst)
 hD:M4 b G hb 3 base (N0 (Sl vs base))
 bO:2<O∧O<G.length
 bP:2<P∧P<O
def su(j:Mh)(p s:Nat)(g n:Int):Prop:=p<s∧∃st,j[s]?=some (.cells [.i g,.nilSl,.i n] st)
structure Mie (P O pl b:Nat) (pv:List LV) (sp s0 s1 plst:Nat) (z0 z1:Int) (b0 b1:Int) (n:Nat) (pls:List Pc) (W:List LV) (m:Nat) (L:List Bf) (G:Mh):Prop where
 c1:G[1]?=some (.cells [.nilSl,.nilSl,.i 0,.i 0,.i 0,.i 0,.i 0,.i 0] 0)
 cP:G[P]?=some (.cells pv sp)
 cs0:∃h st,G[s0]?=some (.cells [.i b0,h,.i z0] st)
 cs1:∃h st,G[s1]?=some (.cells [.i b1,h,.i z1] st)
 cpl:G[pl]?=some (.dyn (N5 pls) n 3 0 plst)
 cO:∃hv so,G[O]?=some (.cells (hv::.nilSl::W) so)∧M4 b G hv 3 m (N0 L)
 bO:2<P∧P<O∧O<s0∧O<s1
 bl:pl<b
def zdw(j:List Vr)(B D:List Ko)(zK:j.length≤40):xd Tryz.prog 8 [.agg (Mg j B D)] (Z0 j B D):=by
 have pG:dats (Mg j B D)=true:=Ao
 refine xd.mk (Mq r_buffers_Build Aa U ?_);have jT:(Mg j B D).length=3:=rfl;have jV:(Mg j B D).take 3=Mg j B D:=rfl;simp[z9s,jT,jV];refine Mv (we j B D J) (bors_self _ (by simp[dats,LV.dat,pG])) ?_;cases hc:Mw j B D with
 |false =>
  simp[Nr,hc];exact zo7 (e:=2) (.inl ⟨hc,rfl⟩)
 |true =>
 obtain⟨f,pH,pI,_⟩:=Xg hc;have pK:O6 j=true:=by
  have h:=hc;unfold Mw at h;simp only[Hh]at h;exact h.1
 have z7:B.length≤4096:=by
  have h:=hc;unfold Mw at h;simp only[Hh,Ht]at h;exact h.2.1
 obtain⟨g,jX,zZ,zL,jY⟩:=zh3 pK;have gC:∀v,v<j.length→((gv j v).mode=0↔g≤v):=λv hv=>by
  have:=jY v hv;constructor
  ·intro h0;have:¬v<g:=λq=>(this.2 q) h0
   omega
  ·intro hq;refine Decidable.byContradiction λhn=>?_
   have:=this.1 hn;omega
 have gT:∀v,v<j.length→1≤Nz j v∧Nz j v≤512:=λv hv=>by
  have:=oz pK _ (bx hv);unfold Nz;omega
 have gM:∀b,1≤(Pj j B).1 b:=λb=>vq _ _ B Uu b
 have gV:∀b,(Pj j B).1 b≤32768:=λb=>zk7 _ _ (zk9 j) B Uu (λc=>by show (1:Int)≤32768;decide) b
 simp[Nr,hc,jT,jV];refine Mv (zep j B D J J) (bors_self _ (by simp[dats,LV.dat,pG])) ?_;obtain⟨z,gK⟩:∃z,z=(Pj j B).1:=⟨_,rfl⟩;obtain⟨gZ,g8⟩:∃gZ,gZ=(Pj j B).2:=⟨_,rfl⟩;rw[←gK]at gM gV;rw[←gK,←g8];have z8:=gM false;have z9:=gM true;have Ag:=gV false;have Aj:=gV true;simp[Mg];refine⟨J,?_⟩;have zc:∀i,i≤j.length→0≤((Qk j i).map (Nz j)).sum∧((Qk j i).map (Nz j)).sum≤i*512:=by
  intro i
  induction i with
  |zero=>intro _;simp[Qk]
  |succ i ih =>
   intro hi;have:=ih J;have:=gT i J;rw[xj,Iz,Ll];split<;>simp<;>omega
 refine M2 (λρ zI jK N=>∃(i:Nat),zI=[]∧N+i=j.length∧lk ρ 1=.ptr 0 0∧lk ρ 2=.ptr 1 0∧lk ρ 5=.ptr 2 0∧lk ρ 6=.bool gZ∧lk ρ 7=.i (z false+z true+((Qk j i).map (Nz j)).sum)∧lk ρ 32=.lst (Mz j) j.length 3∧lk ρ 33=.i j.length∧lk ρ 34=.i i ∧
   2<jK.length∧jK[0]?=some (.cells (Mg j B D) 0)∧jK[1]?=some (.cells [.nilSl,.nilSl,.i 0,.i 0,.i 0,.i 0,.i 0,.i 0] 0)∧jK[2]?=some (.cells [.i (z false),.i (z true)] 1))
  (N:=j.length) ⟨0,rfl,J,U,U,U,U,by simp[Qk],U,U,U,U,Bv,U,U⟩ ?_
 rintro N ρ zI jK ⟨i,rfl,hN,h1,h2,h5,h6,h7,g9,gF,gR,Az,g0,g1,g2⟩ Nx gg;by_cases z6:i<j.length
 ·have q3:=U3 (P8 z6);have pL:=S2 z6;have hz:=xj j i;have AA:=zc i J;have AB:=gT i z6;have zM:Nz j i=(gv j i).limbs:=rfl;have pM:(gv j i).f=[.i (gv j i).limbs,.bool (gv j i).sec,.i (gv j i).mode]:=rfl;generalize gv j i=x at *;by_cases m0:x.mode=0
  ·rw[Hs m0]at hz;simp[h7,g9,gF,gR,z6,q3,pL,pM,m0];refine⟨J,J,gg _ _ _ ⟨N-1,J,i+1,rfl,J,Cb,Bp,B3,Bk,?_,by simp[g9],by simp[gF],U,Ab,by rw[Mn J];exact g0,by rw[Mn J];exact g1,by rw[Mn J];exact g2⟩⟩;rw[hz];simp[zM];omega
  ·rw[Hq m0,Ip]at hz;simp[h7,g9,gF,gR,z6,q3,pL,pM,m0];exact⟨J,gg _ _ _ ⟨N-1,J,i+1,rfl,J,Cb,Bp,B3,Bk,by rw[hz];simp[h7],by simp[g9],by simp[gF],U,Ab,by rw[Mn J];exact g0,by rw[Mn J];exact g1,by rw[Mn J];exact g2⟩⟩
 have e:i=j.length:=J
 subst e;have AC:=zc j.length (Hm _);clear gg;generalize gO:((Qk j j.length).map (Nz j)).sum=zs at *;by_cases jg:gZ=true∧z false+z true+zs≤65536
 case neg =>
  cases gZ with
  |false =>
   simp[h2,h6,h7,gF,gR,g1];rw[Hi J];simp;exact zo7 (e:=10) (.inr ⟨hc,rfl,.inl g8.symm⟩)
  |true =>
   have pN:65536<z false+z true+zs:=by
    have:¬(z false+z true+zs≤65536):=λq=>jg ⟨rfl,q⟩
    omega
   simp[h2,h6,h7,gF,gR,g1,pN];rw[Hi J];simp;exact zo7 (e:=10) (.inr ⟨hc,rfl,.inr (by rw[←gK,gO];exact pN)⟩)
 obtain⟨rfl,jg⟩:=jg;have pO:¬65536<z false+z true+zs:=J
 have jp:0<jK.length:=J
 simp[h1,h2,h6,h7,gF,gR,g0,g1,pO,jT,jV,Mg,↓Mn jp];refine⟨J,?_⟩;refine R8 (z9g J hc pH pI) (by simp[dats,LV.dat,On,Sk]) ?_;obtain⟨K,jZ⟩:∃K,K=Qs B (f.tops 0) 0 j:=⟨_,rfl⟩;rw[←jZ];have gx : ∀(a b : LObj) (h : 0<(jK ++ [a, b]).length), (jK ++ [a, b])[0]'h = LObj.cells (Mg j B D) 0 := λa b h => by
  rw[Mf jp];exact (Hf.1 g0).2
 simp[h1,g0,gx,↓Mn jp,Mg];obtain⟨gE,pP⟩:∃gE,gE=jK.length+1:=⟨_,rfl⟩;obtain⟨C,jz⟩:∃C,C=jK.length:=⟨_,rfl⟩;obtain⟨z0,pQ⟩:∃z0,z0=List.replicate j.length (⟨0,0,0⟩:Pc):=⟨_,rfl⟩;have pR:z0.length=j.length:=by rw[pQ];simp
 have pS:∀n,M7 [LV.i 0,LV.i 0,LV.i 0] n=N5 (List.replicate n (⟨0,0,0⟩:Pc)):=by
  intro n
  induction n with
  |zero=>rfl
  |succ n ih=>rw[M7,ih,Jo];rfl
 rw[pS,←pQ,←pP];obtain⟨G1,jA⟩:∃G1,G1=jK++[LObj.dyn (N5 z0) j.length 3 0 0,LObj.cells [LV.lst (Mz j) j.length 3,LV.lst (M6 B) B.length 7,LV.lst (M6 D) D.length 7,LV.lst (Mu K) K.length 2,LV.dy jK.length 0,LV.nilPtr,LV.nilPtr] 0]:=⟨_,rfl⟩;rw[←jA];have o1:∀x,x<jK.length→G1[x]?=jK[x]?:=λx hx=>by rw[jA];exact Hk hx
 have l1:G1.length=jK.length+2:=by rw[jA];simp
 have zN:G1[C]?=some (.dyn (N5 z0) j.length 3 0 0):=by rw[jA,jz];simp
 have P1:G1[gE]?=some (.cells [LV.lst (Mz j) j.length 3,LV.lst (M6 B) B.length 7,LV.lst (M6 D) D.length 7,LV.lst (Mu K) K.length 2,LV.dy C 0,LV.nilPtr,LV.nilPtr] 0):=by rw[jA,pP,jz];simp
 have a0:=(o1 0 J).trans g0;have a1:=(o1 1 J).trans g1;have a2:=(o1 2 J).trans g2;rw[←jz];refine zdc P1 zN pR gC zL J λhb G2 gS gB pT pV pX zO o2 l2=>?_
 have P2:=(o2 gE J J).trans P1;have b0:=(o2 0 J J).trans a0;have b1:=(o2 1 J J).trans a1;have b2:=(o2 2 J J).trans a2;have zP:=pT.cells;simp[-LV.cells,zP,zcu];obtain⟨P,hO⟩:∃P,P=G2.length:=⟨_,rfl⟩;have pY:=(Hf.1 P2).1;have pZ:=(Hf.1 pV).1;have jN:Mid j B D K gE P C G1.length g hb z gS gB .nilPtr .nilPtr [.i 0,.i 0,.i 0,.i 0,.i 0,.i 0] (G2++[LObj.cells [hb,.nilSl,.i 0,.i 0,.i 0,.i 0,.i 0,.i 0] 1]) :=
  ⟨by rw[Mn J];exact b1,by rw[Mn J];exact b2,⟨1,by rw[hO];simp⟩,⟨0,by rw[Mn pY];exact P2⟩,by rw[Mn pZ];exact pV,pT.push_end,Ab,J⟩
 rw[←hO];refine M2 (λρ zI E N=>zI=[]∧lk ρ 2=.ptr 1 0∧lk ρ 5=.ptr 2 0∧lk ρ 10=.ptr gE 0∧lk ρ 11=.ptr P 0 ∧
   ((N=2∧lk ρ 65=.i 0∧Mid j B D K gE P C G1.length g hb z gS gB .nilPtr .nilPtr [.i 0,.i 0,.i 0,.i 0,.i 0,.i 0] E) ∨
    (N=1∧lk ρ 65=.i 1∧∃S,su E P S g (z false)∧Mid j B D K gE P C G1.length g hb z gS gB (.ptr S 0) .nilPtr [.i g,.i 0,.i (z false),.i 0,.i 0,.i 0] E) ∨
    (N=0∧lk ρ 65=.i 2∧∃S s1,S≠s1∧su E P S g (z false)∧su E P s1 (g+1) (z true)∧Mid j B D K gE P C G1.length g hb z gS gB (.ptr S 0) (.ptr s1 0) [.i g,.i 0,.i (z false),.i (g+1),.i 0,.i (z true)] E)))
  (N:=2) ⟨rfl,Bp,B3,U,U,.inl ⟨rfl,U,jN⟩⟩ ?_
 clear h1 h2 h5 h6 h7 g9 gF gR jN;rintro N ρ zI E ⟨rfl,h2,h5,L,F,⟨rfl,gA,hM⟩|⟨rfl,gA,S,j3,hM⟩|⟨rfl,gA,S,s1,p8,j3,zQ,hM⟩⟩ Nx gg
 ·obtain⟨m1,m2,⟨so,Q⟩,⟨sp,Y⟩,p,Z,bO,bP⟩:=hM;simp[L,F,gA,Q,Y];refine Z.lenL ?_;have lO:P<E.length:=bO.2;have lP:gE<E.length:=J
  simp[↓Mn lO,↓Mn lP,Q,Y];refine⟨J,?_⟩;obtain⟨G3,T⟩:∃G3,G3=List.set (E++[LObj.cells [.i (g:Int),.nilSl,.i 0] 0]) gE (LObj.cells [.lst (Mz j) j.length 3,.lst (M6 B) B.length 7,.lst (M6 D) D.length 7,.lst (Mu K) K.length 2,.dy C 0,(.ptr E.length 0),.nilPtr] (sp+1)):=⟨_,rfl⟩;have o3:∀x,x<E.length→x≠gE→G3[x]?=E[x]?:=λx hx hn=>by rw[T,Hg (λe=>hn e.symm),Mn hx]
  have l3:G3.length=E.length+1:=by rw[T];simp
  have P3:G3[gE]?=some (.cells [.lst (Mz j) j.length 3,.lst (M6 B) B.length 7,.lst (M6 D) D.length 7,.lst (Mu K) K.length 2,.dy C 0,(.ptr E.length 0),.nilPtr] (sp+1)):=by rw[T];exact Hi Ab
  have s3:G3[E.length]?=some (.cells [.i (g:Int),.nilSl,.i 0] 0):=by rw[T,Hg J];simp
  have O3:=(o3 P lO J).trans Q;have j4:=(o3 2 J J).trans m2;rw[←T];simp[h5,F,P3,O3,j4];refine z7p (r:=none) (H:=[]) (hv:=.nilSl) s3 ⟨rfl,rfl⟩ J J (λAH hj=>by simp at hj) U λG4 zR j5 o4 l4 s4 j6=>?_
  obtain⟨rfl,_⟩:=j6;have e1:(Ok (z false) ⟨[],0⟩).1=0:=rfl;have e2:(Ok (z false) ⟨[],0⟩).2.size=(z false):=by simp[Ok,Vk]
  rw[e2]at s4;have P4:=(o4 gE J J U).trans P3;have O4:=(o4 P J J U).trans O3;have j7:P<G4.length:=J
  simp[F,gA,P3,P4,O3,O4,e1];obtain⟨G5,gD⟩:∃G5,G5=List.set G4 P (LObj.cells (hb::.nilSl::[.i g,.i 0,.i (z false),.i 0,.i 0,.i 0]) (so+1)):=⟨_,rfl⟩;have o5:∀x,x≠P→G5[x]?=G4[x]?:=λx hn=>by rw[gD,Hg (λe=>hn e.symm)]
  have l5:G5.length=G4.length:=by rw[gD];simp
  have O5:G5[P]?=some (.cells (hb::.nilSl::[.i g,.i 0,.i (z false),.i 0,.i 0,.i 0]) (so+1)):=by rw[gD];exact Hi j7
  rw[←gD];have G:∀x,x<E.length→x≠gE→x≠P→G5[x]?=E[x]?:=λx hx n1 n2=>by rw[o5 x n2,o4 x J J U,o3 x hx n1]
  have gP:=(Hf.1 p).1;have gG:C≠gE:=λe=>by rw[e,Y]at p;cases p
  have gH:C≠P:=λe=>Em
  have j8:Mid j B D K gE P C G1.length g hb z gS gB (.ptr E.length 0) .nilPtr [.i g,.i 0,.i (z false),.i 0,.i 0,.i 0] G5 :=
   ⟨by rw[G 1 J J J];exact m1,by rw[G 2 J J J];exact m2,⟨_,O5⟩,⟨_,by rw[o5 gE J];exact P4⟩,by rw[G C gP gG gH];exact p,
    Z.frame2 λq hq=>by
     obtain⟨_,a2,jO,m,k2,R,M⟩:=Z.row hq;exact G q a2 (λe=>by rw[e,Y]at M;cases M) (λe=>En),J,bP⟩
  have ns:su G5 P E.length g (z false):=⟨lO,j5,by rw[o5 _ J];exact s4⟩;exact gg _ _ _ ⟨1,J,rfl,Bp,B3,A1,Ah,.inr (.inl ⟨rfl,by simp[gA],E.length,ns,j8⟩)⟩
 ·obtain⟨m1,m2,⟨so,Q⟩,⟨sp,Y⟩,p,Z,bO,bP⟩:=hM;simp[L,F,gA,Q,Y];refine Z.lenL ?_;have lO:P<E.length:=bO.2;have lP:gE<E.length:=J
  simp[↓Mn lO,↓Mn lP,Q,Y];refine⟨J,?_⟩;obtain⟨G3,T⟩:∃G3,G3=List.set (E++[LObj.cells [.i ((g:Int)+1),.nilSl,.i 0] 0]) gE (LObj.cells [.lst (Mz j) j.length 3,.lst (M6 B) B.length 7,.lst (M6 D) D.length 7,.lst (Mu K) K.length 2,.dy C 0,(.ptr S 0),(.ptr E.length 0)] (sp+1)):=⟨_,rfl⟩;have o3:∀x,x<E.length→x≠gE→G3[x]?=E[x]?:=λx hx hn=>by rw[T,Hg (λe=>hn e.symm),Mn hx]
  have l3:G3.length=E.length+1:=by rw[T];simp
  have P3:G3[gE]?=some (.cells [.lst (Mz j) j.length 3,.lst (M6 B) B.length 7,.lst (M6 D) D.length 7,.lst (Mu K) K.length 2,.dy C 0,(.ptr S 0),(.ptr E.length 0)] (sp+1)):=by rw[T];exact Hi Ab
  have s3:G3[E.length]?=some (.cells [.i ((g:Int)+1),.nilSl,.i 0] 0):=by rw[T,Hg J];simp
  have O3:=(o3 P lO J).trans Q;have j4:=(o3 2 J J).trans m2;rw[←T];simp[h5,F,P3,O3,j4];refine z7p (r:=none) (H:=[]) (hv:=.nilSl) s3 ⟨rfl,rfl⟩ J J (λAH hj=>by simp at hj) U λG4 zR j5 o4 l4 s4 j6=>?_
  obtain⟨rfl,_⟩:=j6;have e1:(Ok (z true) ⟨[],0⟩).1=0:=rfl;have e2:(Ok (z true) ⟨[],0⟩).2.size=(z true):=by simp[Ok,Vk]
  rw[e2]at s4;have P4:=(o4 gE J J U).trans P3;have O4:=(o4 P J J U).trans O3;have j7:P<G4.length:=J
  simp[F,gA,P3,P4,O3,O4,e1];obtain⟨G5,gD⟩:∃G5,G5=List.set G4 P (LObj.cells (hb::.nilSl::[.i g,.i 0,.i (z false),.i (g+1),.i 0,.i (z true)]) (so+1)):=⟨_,rfl⟩;have o5:∀x,x≠P→G5[x]?=G4[x]?:=λx hn=>by rw[gD,Hg (λe=>hn e.symm)]
  have l5:G5.length=G4.length:=by rw[gD];simp
  have O5:G5[P]?=some (.cells (hb::.nilSl::[.i g,.i 0,.i (z false),.i (g+1),.i 0,.i (z true)]) (so+1)):=by rw[gD];exact Hi j7
  rw[←gD];have G:∀x,x<E.length→x≠gE→x≠P→G5[x]?=E[x]?:=λx hx n1 n2=>by rw[o5 x n2,o4 x J J U,o3 x hx n1]
  have gP:=(Hf.1 p).1;have gG:C≠gE:=λe=>by rw[e,Y]at p;cases p
  have gH:C≠P:=λe=>Em
  have j8:Mid j B D K gE P C G1.length g hb z gS gB (.ptr S 0) (.ptr E.length 0) [.i g,.i 0,.i (z false),.i (g+1),.i 0,.i (z true)] G5 :=
   ⟨by rw[G 1 J J J];exact m1,by rw[G 2 J J J];exact m2,⟨_,O5⟩,⟨_,by rw[o5 gE J];exact P4⟩,by rw[G C gP gG gH];exact p,
    Z.frame2 λq hq=>by
     obtain⟨_,a2,jO,m,k2,R,M⟩:=Z.row hq;exact G q a2 (λe=>by rw[e,Y]at M;cases M) (λe=>En),J,bP⟩
  have ns:su G5 P E.length (g+1) (z true):=⟨lO,j5,by rw[o5 _ J];exact s4⟩;obtain⟨jB,j9,gQ⟩:=j3;have p9:=(Hf.1 gQ).1;have ms:su G5 P S g (z false):=⟨jB,j9,by rw[G S p9 J J];exact gQ⟩;exact gg _ _ _ ⟨0,J,rfl,Bp,B3,A1,Ah,.inr (.inr ⟨rfl,by simp[gA],S,E.length,J,ms,ns,j8⟩)⟩
 ·obtain⟨m1,m2,⟨so,Q⟩,⟨sp,Y⟩,p,Z,bO,bP⟩:=hM;obtain⟨jB,j9,gQ⟩:=j3;obtain⟨zg,zS,zj⟩:=zQ;obtain⟨s,hs⟩:∃s:Bool→Nat,s=λb=>if b=true then s1 else S:=⟨_,rfl⟩
  have jC:s false=S:=by rw[hs];rfl
  have jD:s true=s1:=by rw[hs];rfl
  have zp:PS E s (λ_=>none) g (λb=>⟨[],z b⟩):=by
   refine⟨λb=>?_,by rw[jC,jD];exact p8,λq hq=>by cases hq⟩;cases b with
   |false=>exact⟨.nilSl,j9,by rw[jC];simpa [bI] using gQ,rfl,rfl⟩
   |true=>exact⟨.nilSl,zS,by rw[jD];simpa [bI] using zj,rfl,rfl⟩
  have zz:E[gE]?=some (.cells (Pg j B D K (.dy C 0) (s false) (s true)) sp):=by rw[jC,jD];exact Y
  have zA:K.length=j.length:=by
   rw[jZ];have:∀(l:List Vr) (i:Nat),(Qs B (f.tops 0) i l).length=l.length:=by
    intro l
    induction l with
    |nil=>intro i;rfl
    |cons v l ih=>intro i;simp[Qs,ih]
   exact this j 0
  simp[L,gA];refine zh2 zz p zp zK zA pX gM gC (λv hv=>by have:=gT v hv;omega) (by rw[gO];omega) (λi hi AD=>zO i hi) λG5 iv A done zB zT r I jE jF jP jQ jG AE AF=>?_
  have gP:=(Hf.1 p).1;have gG:gE≠C:=λe=>by rw[←e,Y]at p;cases p
  have gH:P≠C:=λe=>by rw[←e,Q]at p;cases p
  have pg:∀x,x≤P→∀b,x≠s b:=λx hx b=>by cases b<;>simp only[jC,jD]<;>omega
  have P5:=(jG gE J (pg gE J) gG).trans Y;have O5:=(jG P J (pg P J) gH).trans Q;have jR:C≠1:=λe=>by rw[e,m1]at p;cases p
  have zC:=(jG 1 J (pg 1 J) (λe=>jR e.symm)).trans m1;have zD:C<G1.length:=J
  have D5:M4 G1.length G5 hb 3 g (N0 (Sl j g)):=Z.frame2 λq hq=>by
   obtain⟨a1,a2,jO,m,k2,R,M⟩:=Z.row hq;refine jG q a2 (λb e=>?_) J;obtain⟨hv,st,h1⟩:=zp.cell b;rw[e,h1]at M;cases M
  obtain⟨t0,u0,q0⟩:=jP.cell false;obtain⟨t1,u1,q1⟩:=jP.cell true;rw[jC]at q0;rw[jD]at q1;simp[L,P5];have jS:Mie gE P C G1.length [.lst (Mz j) j.length 3,.lst (M6 B) B.length 7,.lst (M6 D) D.length 7,.lst (Mu K) K.length 2,.dy C 0,.ptr S 0,.ptr s1 0] sp S s1 I (A false).size (A true).size (g+bI false) (g+bI true) j.length (Th j g iv) [.i g,.i 0,.i (z false),.i (g+1),.i 0,.i (z true)] g (Sl j g) G5 :=
   ⟨zC,P5,⟨_,_,q0⟩,⟨_,_,q1⟩,jQ,⟨_,_,O5,D5⟩,⟨J,J,jB,zg⟩,zD⟩
  clear gg;refine M2 (λρ zI jK N=>zI=[]∧lk ρ 2=.ptr 1 0∧lk ρ 10=.ptr gE 0∧lk ρ 11=.ptr P 0∧lk ρ 99=.agg [.ptr S 0,.ptr s1 0] ∧
    ((N=2∧lk ρ 100=.i 0∧Mie gE P C G1.length [.lst (Mz j) j.length 3,.lst (M6 B) B.length 7,.lst (M6 D) D.length 7,.lst (Mu K) K.length 2,.dy C 0,.ptr S 0,.ptr s1 0] sp S s1 I (A false).size (A true).size (g+bI false) (g+bI true) j.length (Th j g iv) [.i g,.i 0,.i (z false),.i (g+1),.i 0,.i (z true)] g (Sl j g) jK)∨(N=1∧lk ρ 100=.i 1∧Mie gE P C G1.length [.lst (Mz j) j.length 3,.lst (M6 B) B.length 7,.lst (M6 D) D.length 7,.lst (Mu K) K.length 2,.dy C 0,.ptr S 0,.ptr s1 0] sp S s1 I (A false).size (A true).size (g+bI false) (g+bI true) j.length (Th j g iv) [.i g,.i 0,.i (z false),.i (g+1),.i 0,.i (z true)] (g+1) (Sl j g++[⟨(A false).size,3,false⟩]) jK)∨(N=0∧lk ρ 100=.i 2∧Mie gE P C G1.length [.lst (Mz j) j.length 3,.lst (M6 B) B.length 7,.lst (M6 D) D.length 7,.lst (Mu K) K.length 2,.dy C 0,.ptr S 0,.ptr s1 0] sp S s1 I (A false).size (A true).size (g+bI false) (g+bI true) j.length (Th j g iv) [.i g,.i 0,.i (z false),.i (g+1),.i 0,.i (z true)] (g+2) (Sl j g++[⟨(A false).size,3,false⟩]++[⟨(A true).size,3,true⟩]) jK)))
   (N:=2) ⟨rfl,Bp,A1,Ah,U,.inl ⟨rfl,U,jS⟩⟩ ?_
  clear jS h2 L F gA zC P5 O5 D5 q0 q1 m1 m2 Q Y zz p Z jQ jG ;rintro N ρ zI G6 ⟨rfl,h2,L,F,jH,⟨rfl,O,⟨m1,Y,⟨x0,y0,q0⟩,⟨x1,y1,q1⟩,p,⟨hv,so,Q,Z⟩,jL,jM⟩⟩|⟨rfl,O,⟨m1,Y,⟨x0,y0,q0⟩,⟨x1,y1,q1⟩,p,⟨hv,so,Q,Z⟩,jL,jM⟩⟩|⟨rfl,O,⟨m1,Y,⟨x0,y0,q0⟩,⟨x1,y1,q1⟩,p,⟨hv,so,Q,Z⟩,jL,jM⟩⟩⟩ Nx gg
  ·have lO:P<G6.length:=(Hf.1 Q).1;have lS:S<G6.length:=(Hf.1 q0).1;simp[L,F,jH,O,Y,Q,q0,↓Mn lO,↓Mn lS];have lP:gE<G6.length:=J
   have jI:=(Hf.1 p).1;refine M4.push2 (x:=[.i (A false).size,.i 3,.bool false]) Z.push_end J Ab J rfl rfl λpj G7 D7 gI l7 zV=>?_
   simp at l7;have V:∀pp ob,G6[pp]?=some ob→(∀jO m k st,ob≠LObj.dyn jO m 3 k st)→G7[pp]?=some ob:=λpp ob hz hn=>by
    have pz:=(Hf.1 hz).1;rw[gI pp Ab λe=>?_,Mn pz]
    ·exact hz
    ·obtain⟨_,_,jO,m,k2,R,M⟩:=Z.row e;rw[hz]at M;exact hn _ _ _ _ (Option.some.inj M)
   have nc:∀(c:List LV) (st:Nat),∀jO m k R,LObj.cells c st≠LObj.dyn jO m 3 k R:=λc st jO m k R e=>Ar
   have pA:=V _ _ m1 (nc _ _);have pB:=V _ _ Y (nc _ _);have gL:=V _ _ Q (nc _ _);have pC:=V _ _ q0 (nc _ _);have pD:=V _ _ q1 (nc _ _);have X:G7[C]?=some (.dyn (N5 (Th j g iv)) j.length 3 0 I):=by
    rw[gI C Ab λe=>by have:=(Z.row e).1;omega,Mn jI];exact p
   have pE:=D7.cells;simp[-LV.cells,F,O,gL,pE,zcu];have pF:P<G7.length:=J
   refine gg _ _ _ ⟨1,J,rfl,Bp,A1,Ah,by simp[jH],.inr (.inl ⟨rfl,Bc,by rw[Hg J];exact pA,by rw[Hg J];exact pB,⟨x0,y0,by rw[Hg J];exact pC⟩,⟨x1,y1,by rw[Hg J];exact pD⟩,by rw[Hg (λe=>by rw[←e,gL]at X;cases X)];exact X,⟨pj,so+1,Hi pF,?_⟩,jL,jM⟩)⟩;have e:N0 (Sl j g++[⟨(A false).size,3,false⟩])=N0 (Sl j g)++[.i (A false).size,.i 3,.bool false]:=by rw[xc];rfl
   rw[e];exact D7.frame2 λq hq=>by
    obtain⟨_,_,jO,m,k2,R,M⟩:=D7.row hq;exact Hg λe=>by rw[←e,gL]at M;cases M
  ·have lO:P<G6.length:=(Hf.1 Q).1;have lS:s1<G6.length:=(Hf.1 q1).1;simp[L,F,jH,O,Y,Q,q1,↓Mn lO,↓Mn lS];have lP:gE<G6.length:=J
   have jI:=(Hf.1 p).1;refine M4.push2 (x:=[.i (A true).size,.i 3,.bool true]) Z.push_end J Ab J rfl rfl λpj G7 D7 gI l7 zV=>?_
   simp at l7;have V:∀pp ob,G6[pp]?=some ob→(∀jO m k st,ob≠LObj.dyn jO m 3 k st)→G7[pp]?=some ob:=λpp ob hz hn=>by
    have pz:=(Hf.1 hz).1;rw[gI pp Ab λe=>?_,Mn pz]
    ·exact hz
    ·obtain⟨_,_,jO,m,k2,R,M⟩:=Z.row e;rw[hz]at M;exact hn _ _ _ _ (Option.some.inj M)
   have nc:∀(c:List LV) (st:Nat),∀jO m k R,LObj.cells c st≠LObj.dyn jO m 3 k R:=λc st jO m k R e=>Ar
   have pA:=V _ _ m1 (nc _ _);have pB:=V _ _ Y (nc _ _);have gL:=V _ _ Q (nc _ _);have pC:=V _ _ q0 (nc _ _);have pD:=V _ _ q1 (nc _ _);have X:G7[C]?=some (.dyn (N5 (Th j g iv)) j.length 3 0 I):=by
    rw[gI C Ab λe=>by have:=(Z.row e).1;omega,Mn jI];exact p
   have pE:=D7.cells;simp[-LV.cells,F,O,gL,pE,zcu];have pF:P<G7.length:=J
   refine gg _ _ _ ⟨0,J,rfl,Bp,A1,Ah,by simp[jH],.inr (.inr ⟨rfl,Bc,by rw[Hg J];exact pA,by rw[Hg J];exact pB,⟨x0,y0,by rw[Hg J];exact pC⟩,⟨x1,y1,by rw[Hg J];exact pD⟩,by rw[Hg (λe=>by rw[←e,gL]at X;cases X)];exact X,⟨pj,so+1,Hi pF,?_⟩,jL,jM⟩)⟩;have e:N0 (Sl j g++[⟨(A false).size,3,false⟩]++[⟨(A true).size,3,true⟩])=N0 (Sl j g++[⟨(A false).size,3,false⟩])++[.i (A true).size,.i 3,.bool true]:=by rw[xc];rfl
   rw[e];exact D7.frame2 λq hq=>by
    obtain⟨_,_,jO,m,k2,R,M⟩:=D7.row hq;exact Hg λe=>by rw[←e,gL]at M;cases M
  ·have lO:P<G6.length:=(Hf.1 Q).1;have l1:1<G6.length:=J
   have nO:P≠1:=J
   have f1:∀x,(G6.set P x)[P]?=some x:=λx=>Hi lO
   have f2:∀x,(G6.set P x)[1]?=some (.cells [.nilSl,.nilSl,.i 0,.i 0,.i 0,.i 0,.i 0,.i 0] 0):=λx=>by rw[Hg nO];exact m1
   have f3:∀x y,((G6.set P x).set 1 y)[1]?=some y:=λx y=>Hi Ab
   have fo:∀x y pp,pp≠P→pp≠1→((G6.set P x).set 1 y)[pp]?=G6[pp]?:=λx y pp n1 n2=>by rw[Hg (λe=>n2 e.symm),Hg (λe=>n1 e.symm)]
   have zE:C≠P:=λe=>Em
   have zF:∀x y,M4 G1.length ((G6.set P x).set 1 y) hv 3 (g+2) (N0 (Sl j g++[⟨(A false).size,3,false⟩]++[⟨(A true).size,3,true⟩])):=λx y=>Z.frame2 λq hq=>by
    obtain⟨_,_,jO,m,k2,R,M⟩:=Z.row hq;exact fo x y q (λe=>En) (λe=>by rw[e,m1]at M;cases M)
   have zG:∀x y,((G6.set P x).set 1 y)[C]?=some (.dyn (N5 (Th j g iv)) j.length 3 0 I):=λx y=>by rw[fo x y C zE jR];exact p
   simp[-bor,-bors,h2,L,F,jH,O,Y,Q,m1,f1,f2,f3];have zX:Sl j g++[⟨(A false).size,3,false⟩]++[⟨(A true).size,3,true⟩]=Rd j g A:=by simp[Rd,Sl]
   rw[zX]at zF;have zH:(Rd j g A).length=g+2:=zb3 j g A;have AG:=jE.sz;have zY:(done.map (Nz j)).sum=zs:=by rw[←gO];exact zpp (jF.map _)
   refine⟨_,⟨Rd j g A,Th j g iv,Ur g z false,Ur g z true,0,rfl,.inr ⟨rfl,hc,g8.symm,g,f,iv,A,done,zB,zT,jX,pH,pI,by rw[←gK,←jZ];exact jE,λi h1 h2=>jF.mem_iff.2 (zba.2 ⟨h2,(gC i h2).2 h1⟩),rfl,rfl,by rw[←gK],by rw[←gK],J,by rw[←gK,gO];omega⟩⟩,by simp[LV.dat,dats,bn],_,rfl,⟨_,_,rfl,⟨_,rfl,?_⟩,bors_self _ rfl⟩⟩;refine⟨_,_,rfl,?_,_,_,rfl,?_,?_⟩
   ·have:=(zF (.cells [hv,.dy C 0,.i g,.i 0,.i (z false),.i (g+1),.i 0,.i (z true)] (so+1)) (.cells [hv,.dy C 0,.i g,.i 0,.i (z false),.i (g+1),.i 0,.i (z true)] 1)).bor;rw[zH];exact this
   ·exact⟨_,_,_,_,by rw[kb],zG _ _,ki _⟩
   ·simp[Ur]
end
section
set_option linter.unusedVariables false
def z6f:LC:=(.q [.x 2 0,.x 3 1,.F 4] (.q [.f 5 0 2,.l 6 5,.f 7 0 3,.l 8 7,.c 9 .eql 3 6 8,.m 10 9,.yf 11 10 1 2,.yl 12 10 11,.yf 13 10 1 2,.yl 14 10 13,.yf 15 10 2 2,.yl 16 10 15,.y 17 10 (.bin .add false 3 (.t 14) (.t 16)),.y 18 10 (.bin .sub true 3 (.t 17) (.k 1)),.y 19 10 (.build [(.i 0),(.i 0)] [(0,1,.t 12),(1,1,.t 18)]),.yf 20 10 1 3,.yl 21 10 20,.yf 22 10 1 3,.yl 23 10 22,.yf 24 10 2 3,.yl 25 10 24,.y 26 10 (.bin .add false 3 (.t 23) (.t 25)),.y 27 10 (.bin .sub true 3 (.t 26) (.k 1)),.y 28 10 (.build [(.i 0),(.i 0)] [(0,1,.t 21),(1,1,.t 27)]),.y 29 10 (.w 84 [.t 19,.t 28]),.q 30 10 29,.m 4 30] .ret))
def r_buffers_common:Mt Tryz.prog 107=some ⟨31,z6f.r,[.tmp 4]⟩:=Aa
def zar:LC:=(.q [.x 2 0,.F 3] (.q [.f 4 0 2,.l 5 4,.f 6 0 1,.l 7 6,.c 8 .eql 3 5 7,.m 3 8] .ret))
def r_buffers_own_1:Mt Tryz.prog 109=some ⟨9,zar.r,[.tmp 3]⟩:=Aa
def z1q:LC:=(.q [.K 4 0] (.seq (.q [.m 6 0,.s 7 6,.K 8 0] (.block 0 (.loop (.q [.c 9 .lss 3 8 7] (.seq (.cond (.t 9) .skip (.exit 0)) (.seq (.block 1 (.q [.m 10 8,.m 5 10] (.q [.m 11 1,.m 12 0,.m 13 5,.I 14 3 12 13,.L 15 3 14,.z 16 (.callV (.t 11) [.t 15])] (.cond (.t 16) (.q [.m 17 5,.m 4 17] .ret) .skip)))) (.ops [.b 18 .add 3 8 1,.m 8 18]))))))) (.q [.K 4 (-1)] .ret)))
def r_slices_IndexFunc_api_Place_api_Place:Mt Tryz.prog 145=some ⟨19,z1q.r,[.tmp 4]⟩:=Aa
def z1k:LC:=(.q [.F 4] (.q [.m 5 0,.m 6 1,.W 7 145 5 6,.b 8 .geq 3 7 0,.m 4 8] .ret))
def r_slices_ContainsFunc_api_Place_api_Place:Mt Tryz.prog 108=some ⟨9,z1k.r,[.tmp 4]⟩:=Aa
def z8l:LC:=(.q [.x 3 0,.x 5 2,.F 6] (.q [.f 11 1 3,.l 12 11,.m 13 1,.I 14 3 12 13,.L 15 3 14,.z 7 (.alloc [(.i 0),(.i 0),(.i 0)]),.S 3 7 15] (.q [.f 16 0 3,.l 17 16,.f 18 0 7,.l 19 18,.I 20 3 17 19,.L 21 3 20,.z 8 (.alloc [(.i 0),(.i 0),(.bool false)]),.S 3 8 21] (.q [.K 9 1] (.seq (.q [.f 22 2 5,.l 23 22,.b 24 .eql 3 23 3] (.cond (.t 24) (.ops [.K 9 2]) .skip)) (.q [.f 25 1 3,.l 26 25,.m 27 1,.z 28 (.slSl 3 (.t 26) none (some (.t 27))),.z 29 (.mkFunc 109 [] [.t 7]),.W 30 108 28 29,.z 31 (.un .not (.t 30)),.m 10 31] (.q [.m 32 10,.m 33 32,.y 34 33 (.loadN 3 (.t 8)),.yf 35 33 2 7,.yl 36 33 35,.my 37 33 9,.yf 38 33 1 5,.yl 39 33 38,.y 40 33 (.build [(.i 0),(.i 0),(.bool false)] [(0,1,.t 36),(1,1,.t 37),(2,1,.t 39)]),.y 41 33 (.bin .eql false 95 (.t 34) (.t 40)),.q 42 33 41,.m 43 42,.yf 44 43 1 7,.yl 45 43 44,.y 46 43 (.bin .eql true 3 (.t 45) (.k 0)),.q 47 43 46,.m 6 47] .ret)))))))
def r_buffers_own:Mt Tryz.prog 58=some ⟨48,z8l.r,[.tmp 6]⟩:=Aa
def za4:LC:=(.q [.x 2 0,.x 3 1,.F 4] (.q [.L 10 3 2,.w 11 45 10,.m 5 11] (.seq (.q [.f 12 1 3,.l 13 12,.s 14 13,.K 15 0] (.block 0 (.loop (.q [.c 16 .lss 3 15 14] (.seq (.cond (.t 16) .skip (.exit 0)) (.seq (.block 1 (.q [.m 17 15,.I 18 3 13 15,.L 19 3 18,.z 7 (.alloc [(.i 0),(.i 0),(.i 0)]),.m 6 17,.S 3 7 19] (.seq (.q [.L 20 3 7,.f 21 2 3,.z 22 (.ixAddrArr 2 3 (.t 21) (.k 0)),.L 23 3 22,.W 24 107 20 23,.m 25 24,.n 26 25 (.loadN 3 (.t 7)),.nf 27 25 2 3,.n 28 25 (.ixAddrArr 2 3 (.t 27) (.k 1)),.n 29 25 (.loadN 3 (.t 28)),.n 30 25 (.w 107 [.t 26,.t 29]),.p 31 25 30] (.cond (.t 31) (.q [.F 4] .ret) .skip)) (.q [.f 32 1 3,.l 33 32,.m 34 6,.z 35 (.slSl 3 (.t 33) none (some (.t 34))),.s 36 35,.K 37 0] (.block 2 (.loop (.q [.c 38 .lss 3 37 36] (.seq (.cond (.t 38) .skip (.exit 2)) (.seq (.block 3 (.q [.m 39 37,.I 40 3 35 37,.L 41 3 40,.z 9 (.alloc [(.i 0),(.i 0),(.i 0)]),.m 8 39,.S 3 9 41] (.seq (.draw [(.L 42 3 7,[]),(.L 43 3 9,[]),(.W 44 107 42 43,[]),(.m 45 44,[]),(.my 46 45 5,[]),(.my 47 45 6,[]),(.y 48 45 (.ixAddr 2 (.t 46) (.t 47)),[]),(.y 49 45 (.loadN 2 (.t 48)),[]),(.y 50 45 (.w 83 [.t 49]),[]),(.y 51 45 (.un .not (.t 50)),[]),(.q 52 45 51,[]),(.m 53 52,[]),(.my 54 53 5,[]),(.my 55 53 8,[]),(.y 56 53 (.ixAddr 2 (.t 54) (.t 55)),[]),(.y 57 53 (.loadN 2 (.t 56)),[]),(.y 58 53 (.w 83 [.t 57]),[]),(.y 59 53 (.un .not (.t 58)),[]),(.q 60 53 59,[]),(.m 61 60,[]),(.my 62 61 5,[]),(.my 63 61 6,[]),(.y 64 61 (.ixAddr 2 (.t 62) (.t 63)),[]),(.y 65 61 (.loadN 2 (.t 64)),[]),(.my 66 61 5,[]),(.my 67 61 8,[]),(.y 68 61 (.ixAddr 2 (.t 66) (.t 67)),[]),(.y 69 61 (.loadN 2 (.t 68)),[]),(.y 70 61 (.w 84 [.t 65,.t 69]),[]),(.q 71 61 70,[])]) (.cond (.t 71) (.q [.F 4] .ret) .skip)))) (.ops [.b 72 .add 3 37 1,.m 37 72])))))))))) (.ops [.b 73 .add 3 15 1,.m 15 73]))))))) (.q [.f 74 2 3,.z 75 (.ixAddrArr 2 3 (.t 74) (.k 0)),.L 76 3 75,.f 77 2 3,.z 78 (.ixAddrArr 2 3 (.t 77) (.k 1)),.L 79 3 78,.W 80 107 76 79,.z 81 (.un .not (.t 80)),.m 4 81] .ret))))
def r_buffers_apart:Mt Tryz.prog 57=some ⟨82,za4.r,[.tmp 4]⟩:=Aa
def ox(x:Pc):Prop:=0≤x.at_∧x.at_≤1000000∧0≤x.size∧x.size≤1000000
instance (x y:Pc):Decidable (Te x y):=by unfold Te;infer_instance
def zu{x y:Pc}(g:ox x)(j:ox y):Mo 107 [.agg x.f,.agg y.f] (.bool (decide (Te x y))) []:=by
 obtain⟨z,A,B,C⟩:=g;obtain⟨D,E,F,G⟩:=j;refine Ni.val rfl (Mq r_buffers_common Aa U ?_);by_cases h:x.buf=y.buf
 ·simp[z6f,Pc.f,h]
  repeat (refine⟨J,?_⟩)
  refine Mv (z6b (x.at_,x.at_+x.size-1) (y.at_,y.at_+y.size-1)) (bors_self _ rfl) ?_;have e:Wb (x.at_,x.at_+x.size-1) (y.at_,y.at_+y.size-1)=decide (Te x y):=by
   rw[I1];simp[Wb,Te,h];omega
  simp[e]
 ·have p:¬Te x y:=λq=>h q.1
  simp[z6f,Pc.f,h,p]
def zt5{c st:Nat}{x y:Pc}(j:L[c]?=some (.cells x.f st))(p:y.buf≠x.buf)(k:Q (.bool false) (L++[.cells y.f 0])):Oa (.fn 109) [.agg y.f,.ptr c 0] L Q:=by
 refine Mq r_buffers_own_1 Aa U ?_;have z:=(Hf.1 j).1;have A:x.f=[.i x.buf,.i x.at_,.i x.size]:=rfl;have g:y.f=[.i y.buf,.i y.at_,.i y.size]:=rfl;rw[A]at j;rw[g]at k;simp[zar,g,↓Mn z,j,p];exact k
def zrn{c st:Nat}{x:Pc}{l:List Pc}(F:L[c]?=some (.cells x.f st))(T:l.length≤1000000)(p:∀y∈l,y.buf≠x.buf)(k:∀g,L.length≤g.length→(∀j,j<L.length→g[j]?=L[j]?)→Q (.i (-1)) g) :
  Oa (.fn 145) [.lst (N5 l) l.length 3,.fn (.func 109) [] [.ptr c 0]] L Q:=by
 refine Mq r_slices_IndexFunc_api_Place_api_Place Aa U ?_;have z:=(Hf.1 F).1;simp[z1q];refine M2 (λG S g M=>∃(i:Nat),S=[]∧M+i=l.length∧lk G 0=.lst (N5 l) l.length 3∧lk G 1=.fn (.func 109) [] [.ptr c 0]∧lk G 7=.i l.length∧lk G 8=.i i∧L.length≤g.length∧∀j,j<L.length→g[j]?=L[j]?) (N:=l.length)
  ⟨0,rfl,J,U,U,U,U,Hm _,λ_ _=>rfl⟩ ?_
 rintro M G S g ⟨i,rfl,V,H,I,A,B,C,D⟩ X E;by_cases K:i<l.length
 ·have O:=dj (Wo K);have P:=Vl K;have Y:(M3 l i).f=[.i (M3 l i).buf,.i (M3 l i).at_,.i (M3 l i).size]:=rfl;simp[H,I,A,B,K,O,P];refine zt5 ((D c z).trans F) (p _ (Ic.2 ⟨i,Wo K⟩)) ?_;simp[B];exact⟨J,E _ _ _ ⟨M-1,J,i+1,rfl,J,At,Ax,Af,U,Ab,λj R=>by rw[Mn J];exact D j R⟩⟩
 ·simp[A,B,K];exact k g C D
def zkh{c st:Nat}{x:Pc}{l:List Pc}(p:L[c]?=some (.cells x.f st))(z:l.length≤1000000)(j:∀y∈l,y.buf≠x.buf)(k:∀g,L.length≤g.length→(∀A,A<L.length→g[A]?=L[A]?)→Q (.bool false) g) :
  Oa (.fn 108) [.lst (N5 l) l.length 3,.fn (.func 109) [] [.ptr c 0]] L Q:=by
 refine Mq r_slices_ContainsFunc_api_Place_api_Place Aa U ?_;simp[z1k];refine zrn p z j λg B C=>?_
 simp;exact k g B C
def Xn:List (Option Bool)→Option Bool
 |[]=>some true
 |o::l=>match o with
  |some true=>Xn l
  |some false=>some false
  |none=>none
def wy(a b d e:Int)(c f:Bool):Qn Tryz.prog false 95 (.agg [.int .i64 a,.int .i64 b,.bool c]) (.agg [.int .i64 d,.int .i64 e,.bool f])=Xn [some (e9 a d),some (e9 b e),some (c==f)]:=by cases c<;>cases f<;>kernel_rfl
def Zg(a b:Int)(c:Bool):Qn Tryz.prog false 95 (.agg (toAs [.i a,.i b,.bool c])) (.agg (toAs [.i a,.i b,.bool c]))=some true:=by
 refine Eq.trans (wy a b a b c c) ?_;simp only[jh];simp[Xn]
def zi3{C:List Bf}{g:List Pc}{D E:Pc}{v:Vr}{i:Nat}(P:i<g.length)(gg:g.length≤1000000)(hx:M3 g i=⟨i,0,v.limbs⟩)(p:i<C.length)(hb:My C i=Pt v)(R:∀j,j<i→(M3 g j).buf≠i) :
  Mo 58 [.agg (Mr C g D E),.i i,.agg v.f] (.bool true) []:=by
 have z:Mr C g D E=[.lst (N0 C) C.length 3,.lst (N5 g) g.length 3,.i D.buf,.i D.at_,.i D.size,.i E.buf,.i E.at_,.i E.size]:=rfl;have S:=dj (Wo P);have Z:=Vl P;have T:=qo (Qp p);have F:=Uk p;rw[hx]at S;rw[hb]at T;have G:v.f=[.i v.limbs,.bool v.sec,.i v.mode]:=rfl;refine Ni.val rfl (Mq r_buffers_own Aa U ?_);have H:((N5 g).take (i*3))=N5 (g.take i):=mj Pc.f_len g i;have V:(g.take i).length=i:=Ab
 have I:∀(Y:Mh) (gA:LV→Mh→Prop) (c st:Nat),Y[c]?=some (.cells [.i i,.i 0,.i v.limbs] st)→(∀K,Y.length≤K.length→(∀gB,gB<Y.length→K[gB]?=Y[gB]?)→gA (.bool false) K) →
   Oa (.fn 108) [.lst (N5 (g.take i)) i 3,.fn (.func 109) [] [.ptr c 0]] Y gA:=λY gA c st hc hk=>by
  have:=zkh (x:=⟨i,0,v.limbs⟩) (l:=g.take i) hc J (λy hy=>by
   obtain⟨j,X⟩:=Ic.1 hy;have L:j<i:=by have:=(Hf.1 X).1;omega
   rw[Ij L,Wo J]at X;have hn:=R j L;rw[←Option.some.inj X];exact hn) hk
  rw[V]at this;exact this
 by_cases Q:v.mode=3
 ·have A:(Pt v).f=[.i v.limbs,.i 2,.bool v.sec]:=by simp[Pt,Bf.f,Q]
  simp[z8l,z,G,S,Z,T,F,P,p,Pc.f,A,Q];rw[H];refine⟨J,I _ _ _ 1 U λK h1 B=>?_⟩;have M:=B 1 U;have N:=B 2 U;have O:=B 3 U;simp at M N O;simp[M,N,O,fa];exact Zg _ _ _
 ·have A:(Pt v).f=[.i v.limbs,.i 1,.bool v.sec]:=by simp[Pt,Bf.f,Q]
  simp[z8l,z,G,S,Z,T,F,P,p,Pc.f,A,Q];rw[H];refine⟨J,I _ _ _ 1 U λK h1 B=>?_⟩;have M:=B 1 U;have N:=B 2 U;have O:=B 3 U;simp at M N O;simp[M,N,O,fa];exact Zg _ _ _
def Zc(g:List Pc)(n:Nat):(N5 g).take (n*3)=N5 (g.take n):=mj Pc.f_len g n
def Z3{j:List Pc}{i:Nat}(h:g<i)(p:i≤j.length):M3 (j.take i) g=M3 j g:=by
 unfold M3;rw[Hr,Hr,Ij h]
structure ApB (vs:List Vr) (ss:List Sp) (ps:List Pc) (w0 w1:Pc):Prop where
 bd:∀i,i<ps.length→ox (M3 ps i)
 b0:ox w0
 b1:ox w1
 n0:∀i,i<ps.length→¬Te (M3 ps i) w0
 n1:∀i,i<ps.length→¬Te (M3 ps i) w1
 nw:¬Te w0 w1
 np:∀i j,j<i→i<ps.length→Te (M3 ps i) (M3 ps j)→Vq ss i<Tj ss j∨Vq ss j<Tj ss i
def zex{L rs:List Ko}{T:List Bf}{g:List Pc}{C D:Pc}(M:V.length≤1000000)(hc:Mw V L rs=true){f:Fr Ko}(hw:f.wf Pe)(hf:L=f.flat)(jz:g.length=V.length)(Q:ApB V (Qs L (f.tops 0) 0 V) g C D) :
  Mo 57 [.agg (Mg V L rs),.agg (Mr T g C D)] (.bool true) []:=by
 have gH:dats (Mg V L rs)=true:=Ao
 have gI:(Mg V L rs).length=3:=rfl;have gK:(Mg V L rs).take 3=Mg V L rs:=rfl;have A:Mr T g C D=[.lst (N0 T) T.length 3,.lst (N5 g) g.length 3,.i C.buf,.i C.at_,.i C.size,.i D.buf,.i D.at_,.i D.size]:=rfl;refine Ni.val rfl (Mq r_buffers_apart Aa U ?_);simp[za4,gI,gK];refine R8 (z9g J hc hw hf) (by simp[dats,LV.dat,gH]) ?_;have jg:(Qs L (f.tops 0) 0 V).length=V.length:=by
  have:∀(l:List Vr) (i:Nat),(Qs L (f.tops 0) i l).length=l.length:=by
   intro l
   induction l with
   |nil=>intro i;rfl
   |cons v l ih=>intro i;simp[Qs,ih]
  exact this V 0
 generalize Qs L (f.tops 0) 0 V=j at *;simp[A];have gA:C.f=[.i C.buf,.i C.at_,.i C.size]:=rfl;have gB:D.f=[.i D.buf,.i D.at_,.i D.size]:=rfl;refine M2 (λS jp gC N=>∃(i:Nat),jp=[]∧N+i=g.length∧lk S 3=.ptr 1 0∧lk S 5=.lst (Mu j) j.length 2∧lk S 13=.lst (N5 g) g.length 3∧lk S 14=.i g.length∧lk S 15=.i i∧1<gC.length∧gC[1]?=some (.cells (Mr T g C D) 0))
  (N:=g.length) ⟨0,rfl,J,U,U,U,U,U,U,Af⟩ ?_
 rintro N S jp gC ⟨i,rfl,hN,I,O,B,p,z,M,g1⟩ Nx gL;by_cases gG:i<g.length
 case neg =>
  simp[I,p,z,gG,g1,A];rw[←gA,←gB];refine Mv (zu Q.b0 Q.b1) (bors_self _ rfl) ?_;simp[Q.nw]
 have q3:=dj (Wo gG);have hq:=Vl gG;have X:=Q.bd i gG;have n0:=Q.n0 i gG;have n1:=Q.n1 i gG;have np:=λE hj=>Q.np i E hj gG
 have F:(M3 g i).f=[.i (M3 g i).buf,.i (M3 g i).at_,.i (M3 g i).size]:=rfl;generalize M3 g i=x at *;simp[I,B,p,z,gG,q3,hq,F,↓Mn M,g1,A];rw[←F,←gA];refine Mv (zu X Q.b0) (bors_self _ rfl) ?_;simp[n0,I,↓Mn M,g1,A,F];rw[←F,←gB];refine Mv (zu X Q.b1) (bors_self _ rfl) ?_;simp[n1,I,↓Mn M,g1,A,F];have gM:((N5 g).take (i*3))=N5 (g.take i):=Zc g i;have jA:(g.take i).length=i:=Ab
 rw[gM];refine⟨J,?_⟩;obtain⟨G1,R⟩:∃G1,G1=gC++[LObj.cells [.i x.buf,.i x.at_,.i x.size] 1]:=⟨_,rfl⟩;have x1:G1[gC.length]?=some (.cells [.i x.buf,.i x.at_,.i x.size] 1):=by rw[R];simp
 have p1:G1[1]?=some (.cells (Mr T g C D) 0):=by rw[R,Mn M];exact g1
 have l1:G1.length=gC.length+1:=by rw[R];simp
 rw[←R];refine M2 (λS jp G' N=>∃(E:Nat),jp=[]∧N+E=i∧lk S 3=.ptr 1 0∧lk S 5=.lst (Mu j) j.length 2∧lk S 6=.i i∧lk S 7=.ptr gC.length 0∧lk S 13=.lst (N5 g) g.length 3∧lk S 14=.i g.length∧lk S 15=.i i∧lk S 35=.lst (N5 (g.take i)) i 3∧lk S 36=.i i∧lk S 37=.i E∧gC.length+1≤G'.length∧G'[1]?=some (.cells (Mr T g C D) 0)∧G'[gC.length]?=some (.cells [.i x.buf,.i x.at_,.i x.size] 1))
  (N:=i) ⟨0,rfl,J,Ax,Bc,U,U,Ad,Ae,Ak,U,U,U,J,p1,x1⟩ ?_
 clear I O B p z;rintro N1 S jp G' ⟨E,rfl,jB,I,O,h6,h7,B,p,z,P,G,H,jC,p',x'⟩ gO gD;have gE:gC.length<G'.length:=J
 by_cases g2:E<i
 case neg =>
  simp[z,G,H,g2];exact⟨J,gL _ _ _ ⟨N-1,J,i+1,rfl,J,Ax,Bc,Ad,Ae,U,J,p'⟩⟩
 have r3:=dj (Wo (l:=g.take i) (n:=E) J);have hr:=Vl (l:=g.take i) (i:=E) J;rw[Z3 g2 J]at r3;have gP:=Q.bd E J;have gQ:=np E g2;have gF:(M3 g E).f=[.i (M3 g E).buf,.i (M3 g E).at_,.i (M3 g E).size]:=rfl;generalize M3 g E=y at *;have next:∀K G2,lk K 3=.ptr 1 0→lk K 5=.lst (Mu j) j.length 2→lk K 6=.i i→lk K 7=.ptr gC.length 0→lk K 13=.lst (N5 g) g.length 3→lk K 14=.i g.length→lk K 15=.i i→lk K 35=.lst (N5 (g.take i)) i 3→lk K 36=.i i→lk K 37=.i ((E:Int)+1)→G2=G'++[LObj.cells [.i y.buf,.i y.at_,.i y.size] 1]→gO K [] G2:=by
  rintro K G2 a3 a5 a6 a7 gR gS gT gV gZ g8 rfl;exact gD _ _ _ ⟨N1-1,J,E+1,rfl,J,a3,a5,a6,a7,gR,gS,gT,gV,gZ,by rw[g8];simp,Ab,by rw[Mn J];exact p',by rw[Mn gE];exact x'⟩
 simp[h7,P,G,H,g2,r3,hr,gF,↓Mn gE,x'];rw[←F,←gF];refine Mv (zu X gP) (bors_self _ rfl) ?_;have ti:=zur (Uh (l:=j) (n:=i) J);have tj:=zur (Uh (l:=j) (n:=E) J);have li:=zb (l:=j) (i:=i) J;have lj:=zb (l:=j) (i:=E) J;have si:i<j.length:=J
 have sj:E<j.length:=J
 by_cases Y:Te x y
 case neg =>
  simp[Y,H];exact⟨J,next _ _ Ax Bc Bk Cd Ad Ae Ak Ba A3 U rfl⟩
 have g9:=gQ Y;have Z:Ng (gs j i)=[.i (gs j i).1,.i (gs j i).2]:=rfl;have gg:Ng (gs j E)=[.i (gs j E).1,.i (gs j E).2]:=rfl;simp[Y,O,h6,si,ti,li,Z];rw[←Z];refine Mv (z4q (gs j i)) (bors_self _ rfl) ?_;by_cases ni:(gs j i).1<0
 ·simp[ni,H];exact⟨J,next _ _ Ax Bc Bk Cd Ad Ae Ak Ba A3 U rfl⟩
 simp[ni,O,sj,tj,lj,gg];rw[←gg];refine Mv (z4q (gs j E)) (bors_self _ rfl) ?_;by_cases nj:(gs j E).1<0
 ·simp[nj,H];exact⟨J,next _ _ Ax Bc Bk Cd Ad Ae Ak Ba A3 U rfl⟩
 simp[nj,O,h6,si,ti,li,sj,tj,lj];rw[←Z,←gg];refine Mv (z6b (gs j i) (gs j E)) (bors_self _ rfl) ?_;have hm:Wb (gs j i) (gs j E)=false:=by
  unfold Tj Vq at g9;simp[Wb];omega
 simp[hm,H];exact⟨J,next _ _ Ax Bc Bk Cd Ad Ae Ak Ba A3 U rfl⟩
end
section
set_option linter.unusedVariables false
def zal:LC:=(.q [.x 2 0,.x 3 1,.K 4 0] (.seq (.q [.L 15 3 2,.w 16 43 15,.m 5 16] (.q [.m 17 5,.b 18 .neq 35 17 0] (.cond (.t 18) (.q [.m 19 5,.m 4 19] .ret) .skip))) (.seq (.q [.f 20 0 2,.l 21 20,.L 22 8 3,.W 23 56 21 22,.b 24 .neq 35 23 0,.m 25 24,.n 26 25 (.loadN 3 (.t 2)),.n 27 25 (.loadN 8 (.t 3)),.n 28 25 (.w 57 [.t 26,.t 27]),.n 29 25 (.un .not (.t 28)),.p 30 25 29] (.cond (.t 30) (.q [.K 4 2] .ret) .skip)) (.q [.f 31 0 3,.l 32 31,.s 33 32,.z 34 (.mkSl 1 [(.bool false)] (.t 33) (.t 33)),.m 6 34] (.seq (.q [.f 35 0 2,.l 36 35,.s 37 36,.K 38 0] (.block 0 (.loop (.q [.c 39 .lss 3 38 37] (.seq (.cond (.t 39) .skip (.exit 0)) (.seq (.block 1 (.q [.m 40 38,.I 41 3 36 38,.L 42 3 41,.z 8 (.alloc [(.i 0),(.bool false),(.i 0)]),.m 7 40,.S 3 8 42] (.seq (.q [.f 43 2 8,.l 44 43,.b 45 .eql 3 44 0] (.cond (.t 45) (.exit 1) .skip)) (.seq (.q [.L 46 8 3,.m 47 7,.L 48 3 8,.V 49 58 46 47 48,.z 50 (.un .not (.t 49))] (.cond (.t 50) (.q [.K 4 2] .ret) .skip)) (.ops [.m 51 6,.f 52 1 3,.l 53 52,.m 54 7,.I 55 3 53 54,.f 56 0 55,.l 57 56,.I 58 1 51 57,.v (.store 1 (.t 58) .T)]))))) (.ops [.b 59 .add 3 38 1,.m 38 59]))))))) (.seq (.q [.f 60 0 3,.l 61 60,.s 62 61,.K 63 0] (.block 2 (.loop (.q [.c 64 .lss 3 63 62] (.seq (.cond (.t 64) .skip (.exit 2)) (.seq (.block 3 (.q [.m 65 63,.I 66 3 61 63,.L 67 3 66,.z 10 (.alloc [(.i 0),(.i 0),(.bool false)]),.m 9 65,.S 3 10 67] (.q [.m 68 6,.m 69 9,.I 70 1 68 69,.l 71 70,.z 72 (.un .not (.t 71)),.m 73 72,.yf 74 73 1 10,.yl 75 73 74,.y 76 73 (.bin .neq true 3 (.t 75) (.k 3)),.q 77 73 76] (.cond (.t 77) (.q [.K 4 2] .ret) .skip)))) (.ops [.b 78 .add 3 63 1,.m 63 78]))))))) (.seq (.q [.f 79 1 2,.l 80 79,.s 81 80,.K 82 0] (.block 4 (.loop (.q [.c 83 .lss 3 82 81] (.seq (.cond (.t 83) .skip (.exit 4)) (.seq (.block 5 (.q [.I 84 7 80 82,.L 85 7 84,.z 12 (.alloc [(.i 0),(.i 0),(.i 0),(.i 0),(.i 0),(.i 0),(.u 0)]),.S 7 12 85] (.q [.f 87 0 2,.l 88 87,.L 89 7 12,.L 90 8 3,.V 91 59 88 89 90,.m 86 91,.X 92 0 86,.X 93 1 86,.z 14 (.alloc [(.i 0),(.i 0),(.i 0)]),.m 13 92,.S 3 14 93] (.seq (.draw [(.f 94 1 12,[]),(.l 95 94,[]),(.b 96 .geq 3 95 0,[]),(.m 97 96,[]),(.yf 98 97 0 2,[]),(.yl 99 97 98,[]),(.y 100 97 (.loadN 7 (.t 12)),[]),(.yf 102 97 2 14,[]),(.yl 103 97 102,[]),(.y 101 97 (.w 52 [.t 99,.t 100]),[(.yl 103 97 102,false)]),(.y 104 97 (.bin .gtr false 3 (.t 101) (.t 103)),[]),(.q 105 97 104,[])]) (.cond (.t 105) (.q [.K 4 2] .ret) .skip))))) (.ops [.b 106 .add 3 82 1,.m 82 106]))))))) (.q [.K 4 0] .ret))))))))
def r_buffers_Check:Mt Tryz.prog 13=some ⟨107,zal.r,[.tmp 4]⟩:=Aa
section made
variable {vs : List Vr} {os rs : List Ko} {bs : List Bf} {ps : List Pc} {w0 w1 : Pc}
structure MadeF (vs:List Vr) (os:List Ko) (bs:List Bf) (ps:List Pc) (w0 w1:Pc) (base:Nat) (f:Fr Ko):Prop where
 plan:Rj vs bs ps w0 w1=true
 wf:f.wf Pe
 flat:os=f.flat
 pl:ps.length=vs.length
 bl:bs.length=base+2
 bb:base≤vs.length
 mode:∀v,v<vs.length→((gv vs v).mode=0↔base≤v)
 apart:ApB vs (Qs os (f.tops 0) 0 vs) ps w0 w1
 par:∀i,i<base→M3 ps i=⟨i,0,(gv vs i).limbs⟩
 parb:∀i,i<base→My bs i=Pt (gv vs i)
 var:∀i,base≤i→i<vs.length→base≤(M3 ps i).buf
 tmp:∀i,base≤i→i<bs.length→(My bs i).kind=3
 sz:∀i,i<ps.length→(M3 ps i).size=(gv vs i).limbs
 w0s:w0.size=(Pj vs os).1 false
 w1s:w1.size=(Pj vs os).1 true
 sum:(My bs base).size+(My bs (base+1)).size≤(Pj vs os).1 false+(Pj vs os).1 true+((Qk vs vs.length).map (Nz vs)).sum
def U8.facts(hv:O6 vs=true)(h:U8 vs os bs ps w0 w1):∃base f,MadeF vs os bs ps w0 w1 base f:=by
 obtain⟨base,f,iv,gg,done,busy,gP,hr,gI,gK,j,hd,rfl,rfl,rfl,rfl,hs,gL⟩:=h;obtain⟨r,gF,gQ,gM,hp⟩:=zh3 hv;rw[hr]at gF;obtain rfl:=Option.some.inj gF;have gB:∀b,(Pj vs os).1 b≤32768:=λb=>zk7 _ _ (zk9 vs) os Uu (λ_=>by show (1:Int)≤32768;decide) b
 have gC:∀b,1≤(Pj vs os).1 b:=λb=>vq _ _ os Uu b
 have gG:∀v,v<vs.length→1≤(gv vs v).limbs∧(gv vs v).limbs≤512:=λv gD=>by
  have:=oz hv _ (bx gD);omega
 have gE:∀v,v<vs.length→((gv vs v).mode=0↔base≤v):=λv gD=>by
  have:=hp v gD;constructor
  ·intro h0;have:¬v<base:=λq=>(this.2 q) h0
   omega
  ·intro hq;refine Decidable.byContradiction λhn=>?_
   have:=this.1 hn;omega
 have gA:∀i,i<vs.length→M3 (Th vs base iv) i=Sb base iv (Nz vs) (Ql vs) i:=λi hi=>zh0 hi
 have z0:=(j.ok false).1;have z1:=(j.ok true).1;refine⟨base,f,⟨ztn hv hr j hd hs gB,gI,gK,kb _ _ _,zb3 _ _ _,gM,gE,⟨?_,?_,?_,?_,?_,works_apart,?_⟩,?_,λi hi=>zik hi,?_,?_,?_,rfl,rfl,?_⟩⟩
 ·intro i hi;rw[kb]at hi;rw[gA i hi];have hl:=gG i hi;by_cases q:i<base
  ·rw[zo0 J];refine⟨Jl _,Dg,by show 0≤(gv vs i).limbs;omega,by show (gv vs i).limbs≤1000000;omega⟩
  ·rw[zkn J];have gO:=j.inn i (hd i J hi);have hw:=j.wide i (hd i J hi);have gR:(gg (Ql vs i)).size≤65536:=by cases Ql vs i<;>omega
   have gS:Nz vs i=(gv vs i).limbs:=rfl;exact⟨gO.1,by show (iv i).1≤1000000;omega,by show 0≤Nz vs i;omega,by show Nz vs i≤1000000;omega⟩
 ·have:=gC false;have:=gB false;exact⟨Jl _,Dg,by show 0≤(Pj vs os).1 false;omega,by show (Pj vs os).1 false≤1000000;omega⟩
 ·have:=gC true;have:=gB true;exact⟨Jl _,Dg,by show 0≤(Pj vs os).1 true;omega,by show (Pj vs os).1 true≤1000000;omega⟩
 ·intro i hi;rw[kb]at hi;rw[gA i hi];exact zpr j (n:=vs.length) (λi h1 h2=>hd i J h2) hi false
 ·intro i hi;rw[kb]at hi;rw[gA i hi];exact zpr j (n:=vs.length) (λi h1 h2=>hd i J h2) hi true
 ·intro i gT hj hi gH;rw[kb]at hi;rw[gA i hi,gA gT J]at gH;exact zv4 j (n:=vs.length) (λi h1 h2=>hd i J h2) hi J J gH
 ·intro i hi;rw[gA i J,zo0 J];rfl
 ·intro i h1 h2;rw[gA i h2,zkn J];show (base:Int)≤(base:Int)+(if Ql vs i=true then 1 else 0);split<;>omega
 ·intro i h1 h2;rw[zb3]at h2;have t0:=x8 (vs:=vs) (r:=base) (ps:=gg) false;have t1:=x8 (vs:=vs) (r:=base) (ps:=gg) true;by_cases e:i=base
  ·subst e;rw[show My (Rd vs i gg) i=My (Rd vs i gg) (i+(if false=true then 1 else 0)) from rfl,t0]
  ·have e2:i=base+1:=J
   subst e2;rw[show My (Rd vs base gg) (base+1)=My (Rd vs base gg) (base+(if true=true then 1 else 0)) from rfl,t1]
 ·intro i hi;rw[kb]at hi;rw[gA i hi];unfold Sb;split<;>rfl
 ·have t0:=x8 (vs:=vs) (r:=base) (ps:=gg) false;have t1:=x8 (vs:=vs) (r:=base) (ps:=gg) true;rw[show My (Rd vs base gg) base=My (Rd vs base gg) (base+(if false=true then 1 else 0)) from rfl,t0,show My (Rd vs base gg) (base+1)=My (Rd vs base gg) (base+(if true=true then 1 else 0)) from rfl,t1];exact gL
def zen{f:Fr Ko}(Z:vs.length≤1000000)(hc:Mw vs os rs=true)(g9:(Pj vs os).2=true)(h:MadeF vs os bs ps w0 w1 g f)(jg:∀v∈vs,0≤v.mode):Mo 13 [.agg (Mg vs os rs),.agg (Mr bs ps w0 w1)] (.i 0) []:=by
 have jp:dats (Mg vs os rs)=true:=Ao
 have gE:(Mg vs os rs).length=3:=rfl;have gF:(Mg vs os rs).take 3=Mg vs os rs:=rfl;have R:(Mr bs ps w0 w1).length=8:=rfl;have S:(Mr bs ps w0 w1).take 8=Mr bs ps w0 w1:=rfl;have I:Mr bs ps w0 w1=[.lst (N0 bs) bs.length 3,.lst (N5 ps) ps.length 3,.i w0.buf,.i w0.at_,.i w0.size,.i w1.buf,.i w1.at_,.i w1.size]:=rfl;have jM:os.length≤4096:=by
  have h:=hc;unfold Mw at h;simp only[Hh,Ht]at h;exact h.2.1
 have jN:bs.length≤1000002:=by have:=h.bl;have:=h.bb;omega
 refine Ni.val rfl (Mq r_buffers_Check Aa U ?_);simp[zal,gE,gF,R,S];refine Mv (we vs os rs J) (bors_self _ (by simp[dats,LV.dat,jp])) ?_;simp[Nr,hc,gE,gF,R,S,Mg];refine Mv (zgg vs bs ps w0 w1 Z J) (bors_self _ (by simp[dats,LV.dat,On,bn])) ?_;simp[Uf,h.plan,gE,gF,R,S];refine Mv (zex Z hc h.wf h.flat h.pl h.apart) (bors_self _ (by simp[dats,LV.dat,On,Sk,bn])) ?_;simp[I];refine⟨J,?_⟩;have gI:∀n,M7 [LV.bool false] n=(List.replicate n false).map .bool:=by
  intro n
  induction n with
  |zero=>rfl
  |succ n ih=>rw[M7,ih,Jo];rfl
 rw[gI];refine M2 (λY g8 Q N=>∃(i:Nat) (m:List Bool) (st:Nat),g8=[]∧N+i=vs.length∧lk Y 2=.ptr 0 0∧lk Y 3=.ptr 1 0∧lk Y 6=.dy 2 0∧lk Y 36=.lst (Mz vs) vs.length 3∧lk Y 37=.i vs.length∧lk Y 38=.i i∧2<Q.length∧Q[0]?=some (.cells (Mg vs os rs) 0)∧Q[1]?=some (.cells (Mr bs ps w0 w1) 0)∧Q[2]?=some (.dyn (m.map .bool) bs.length 1 0 st) ∧
   m.length=bs.length∧∀j,j<bs.length→m[j]?=some (decide (j<i∧j<g)))
  (N:=vs.length) ⟨0,List.replicate bs.length false,0,rfl,J,U,U,U,U,U,U,U,Bv,Ax,U,U,λj hj=>by simp[hj]⟩ ?_
 rintro N Y g8 Q ⟨i,m,st,rfl,hN,C,B,T,L,M,V,z,K,G,g2,gG,hm⟩ Nx D;have A:0<Q.length:=J
 have p:1<Q.length:=J
 by_cases X:i<vs.length
 ·have q3:=U3 (P8 X);have gK:=S2 X;have gL:=h.mode i X;have H:(gv vs i).f=[.i (gv vs i).limbs,.bool (gv vs i).sec,.i (gv vs i).mode]:=rfl;by_cases m0:(gv vs i).mode=0
  ·have jO:=gL.1 m0;simp[C,B,L,M,V,X,q3,gK,H,m0];exact⟨J,D _ _ _ ⟨N-1,J,i+1,m,st,rfl,J,Au,Ad,Bn,A1,A0,U,Ab,by rw[Mn A];exact K,by rw[Mn p];exact G,by rw[Mn z];exact g2,gG,λj hj=>Fh⟩⟩
  ·have gM:i<g:=by
    have:¬g≤i:=λq=>m0 (gL.2 q)
    omega
   simp[C,B,L,M,V,X,q3,gK,H,m0,↓Mn A,↓Mn p,K,G,R,S];rw[←H];have gO:=h.par i gM;have gP:=h.parb i gM;have gQ:=h.bl;refine Mv (zi3 (i:=i) (by rw[h.pl];exact X) (by rw[h.pl];exact Z) gO J gP λj hj=>?_) (bors_self _ (by simp[dats,LV.dat,bn,H])) ?_
   ·rw[h.par j J];show ((j:Nat):Int)≠i;omega
   have gp:i<ps.length:=by rw[h.pl];exact X
   have c0:=Sy Pc.f_len (Wo gp) (j:=0) J;rw[gO]at c0;have jz:(N5 ps)[i*3]?=some (.i (i:Int)):=by simpa [N5,Pc.f] using c0
   have jP:=Vl gp;have jL:i*3<(N5 ps).length:=J
   have gR:i<bs.length:=J
   simp[B,T,↓Mn p,↓Mn z,G,g2,I,gp,Mi jz,gR,V,gG];have gS:=ks LV.bool m i true J;rw[gS]
   repeat (refine⟨J,?_⟩)
   refine D _ _ _ ⟨N-1,J,i+1,m.set i true,st+1,rfl,J,Au,Ad,Bn,A1,A0,U,Ab,?_,?_,?_,by simpa using gG,λj hj=>?_⟩
   ·rw[Hg J,Mn A];exact K
   ·rw[Hg J,Mn p];exact G
   ·rw[Hi Ab]
   ·rw[Ks];by_cases e:i=j
    ·subst e;rw[Hs rfl,Hs J];simp;omega
    ·rw[Hq e,hm j hj];exact congrArg some (J6.2 J)
 have jA:i=vs.length:=J
 subst jA;simp[C,B,L,M,V,G,I];clear D;have jQ:=h.bb;have gQ:=h.bl;have jB:∀j,j<bs.length→m[j]?=some (decide (j<g)):=λj hj=>Fh
 clear hm;refine M2 (λY g8 Q N=>∃(i:Nat),g8=[]∧N+i=bs.length∧lk Y 2=.ptr 0 0∧lk Y 3=.ptr 1 0∧lk Y 6=.dy 2 0∧lk Y 61=.lst (N0 bs) bs.length 3∧lk Y 62=.i bs.length∧lk Y 63=.i i∧2<Q.length∧Q[0]?=some (.cells (Mg vs os rs) 0)∧Q[1]?=some (.cells (Mr bs ps w0 w1) 0)∧Q[2]?=some (.dyn (m.map .bool) bs.length 1 0 st))
  (N:=bs.length) ⟨0,rfl,J,Au,Ad,Bn,U,U,U,z,K,G,g2⟩ ?_
 clear C B T L M V z K G g2 A p X hN;rintro N Y g8 Q ⟨i,rfl,hN,C,B,T,O,P,gg,z,K,G,g2⟩ Nx D;have A:0<Q.length:=J
 have p:1<Q.length:=J
 by_cases X:i<bs.length
 ·have b3:=qo (Qp X);have gT:=Uk X;have H:(My bs i).f=[.i (My bs i).size,.i (My bs i).kind,.bool (My bs i).sec]:=rfl;have gA:=Pf (f:=LV.bool) (jB i X);have nx:∀F G2,lk F 2=.ptr 0 0→lk F 3=.ptr 1 0→lk F 6=.dy 2 0→lk F 61=.lst (N0 bs) bs.length 3→lk F 62=.i bs.length→lk F 63=.i ((i:Int)+1)→(∃x,G2=Q++[x])→Nx F [] G2:=by
   rintro F G2 a2 a3 a6 jC jD jE ⟨x,rfl⟩;exact D _ _ _ ⟨N-1,J,i+1,rfl,J,a2,a3,a6,jC,jD,by rw[jE];simp,Ab,by rw[Mn A];exact K,by rw[Mn p];exact G,by rw[Mn z];exact g2⟩
  by_cases hb:i<g
  ·rw[(C6:decide (i<g)=true)]at gA;simp[C,B,T,O,P,gg,X,b3,gT,H,↓Mn z,g2,Mi gA];exact⟨J,nx _ _ Au Ad Bn Bc Ba U ⟨_,rfl⟩⟩
  ·have hk:=h.tmp i J X;rw[(C6:decide (i<g)=false)]at gA;simp[C,B,T,O,P,gg,X,b3,gT,H,↓Mn z,g2,Mi gA,hk];exact⟨J,nx _ _ Au Ad Bn Bc Ba U ⟨_,rfl⟩⟩
 simp[C,B,O,P,gg,X,K,Mg];clear D X;refine M2 (λY g8 Q N=>∃(i:Nat),g8=[]∧N+i=os.length∧lk Y 2=.ptr 0 0∧lk Y 3=.ptr 1 0∧lk Y 80=.lst (M6 os) os.length 7∧lk Y 81=.i os.length∧lk Y 82=.i i∧2<Q.length∧Q[0]?=some (.cells (Mg vs os rs) 0)∧Q[1]?=some (.cells (Mr bs ps w0 w1) 0))
  (N:=os.length) ⟨0,rfl,J,Au,Ad,U,U,U,z,K,G⟩ ?_
 clear C B T O P gg z K G g2 A p hN;rintro N Y g8 Q ⟨i,rfl,hN,C,B,gH,gB,gC,z,K,G⟩ Nx D;have A:0<Q.length:=J
 have p:1<Q.length:=J
 by_cases X:i<os.length
 ·have q7:=Wt (Rl X);have jF:=Wf X;have jG:go os i∈os:=Ic.2 ⟨i,Rl X⟩;have E:(go os i).f=[.i (go os i).kind,.i (go os i).d,.i (go os i).e,.i (go os i).a,.i (go os i).b,.i (go os i).c,.u (go os i).imm]:=rfl;generalize go os i=o at *;simp[C,B,gH,gB,gC,X,q7,jF,E,↓Mn A,↓Mn p,K,G,R,S,Mg];rw[←E];refine Mv (zi1 vs o bs ps w0 w1) (bors_self _ (by simp[dats,LV.dat,On,bn,E])) ?_;have gV:(az vs o w0 w1).f=[.i (az vs o w0 w1).buf,.i (az vs o w0 w1).at_,.i (az vs o w0 w1).size]:=rfl;have nx:∀F G2,lk F 2=.ptr 0 0→lk F 3=.ptr 1 0→lk F 80=.lst (M6 os) os.length 7→lk F 81=.i os.length→lk F 82=.i ((i:Int)+1)→(∃x,G2=Q++x)→Nx F [] G2:=by
   rintro F G2 a2 a3 jH jI jK ⟨x,rfl⟩;exact D _ _ _ ⟨N-1,J,i+1,rfl,J,a2,a3,jH,jI,by rw[jK];simp,Ab,by rw[Mn A];exact K,by rw[Mn p];exact G⟩
  by_cases hd:0≤o.d
  ·obtain⟨jR,gD⟩:=zf7 (Px vs) (λo=>Ob vs o.d) os Uu g9 o jG hd;have jS:Px vs o≤(az vs o w0 w1).size:=by
    unfold az;cases hp:Ob vs o.d with
    |true =>
     rw[hp]at gD;rw[Hs rfl,h.w0s];exact gD
    |false =>
     rw[hp]at gD;rw[Hq An,h.w1s];exact gD
   have gZ:¬(az vs o w0 w1).size<Px vs o:=J
   simp[gV,E,C,B,hd,↓Mn A,↓Mn p,K,G,Mg];rw[←E];refine Mv (z6y vs o Z) (bors_self _ (by simp[dats,LV.dat,On,E])) ?_;simp[E,gZ,gC];exact⟨J,nx _ _ Au Ad Ei (by simp[gB]) U ⟨_,rfl⟩⟩
  ·simp[gV,E,C,B,hd,gC];exact⟨J,nx _ _ Au Ad Ei (by simp[gB]) U ⟨_,rfl⟩⟩
 simp[gB,gC,X]
end made
end
section
set_option linter.unusedVariables false
def uo:LC:=(.q [.x 2 0,.F 4] (.q [.f 5 1 2,.l 6 5,.m 7 1,.c 8 .eql 3 6 7,.m 9 8,.nf 10 9 2 2,.nl 11 9 10,.mn 12 9 1,.n 13 9 (.bin .eql false 3 (.t 11) (.t 12)),.p 14 9 13,.m 15 14,.nf 16 15 3 2,.nl 17 15 16,.mn 18 15 1,.n 19 15 (.bin .eql false 3 (.t 17) (.t 18)),.p 20 15 19,.m 21 20,.nf 22 21 4 2,.nl 23 21 22,.mn 24 21 1,.n 25 21 (.bin .eql false 3 (.t 23) (.t 24)),.p 26 21 25,.m 27 26,.nf 28 27 5 2,.nl 29 27 28,.mn 30 27 1,.n 31 27 (.bin .eql false 3 (.t 29) (.t 30)),.p 32 27 31,.m 4 32] .ret))
def r_ref25_has:Mt Tryz.prog 141=some ⟨33,uo.r,[.tmp 4]⟩:=Aa
def z5p:LC:=(.q [.x 2 0,.x 3 1,.F 4] (.q [.f 5 0 2,.l 6 5,.f 7 0 3,.l 8 7,.c 9 .eql 3 6 8,.m 10 9,.yf 11 10 1 2,.yl 12 10 11,.yf 13 10 1 3,.yl 14 10 13,.yf 15 10 2 3,.yl 16 10 15,.y 17 10 (.bin .add false 3 (.t 14) (.t 16)),.y 18 10 (.bin .lss false 3 (.t 12) (.t 17)),.q 19 10 18,.m 20 19,.yf 21 20 1 3,.yl 22 20 21,.yf 23 20 1 2,.yl 24 20 23,.yf 25 20 2 2,.yl 26 20 25,.y 27 20 (.bin .add false 3 (.t 24) (.t 26)),.y 28 20 (.bin .lss false 3 (.t 22) (.t 27)),.q 29 20 28,.m 4 29] .ret))
def r_ref25_common:Mt Tryz.prog 54=some ⟨30,z5p.r,[.tmp 4]⟩:=Aa
def zei:LC:=(.q [.x 2 0,.z 4 (.alloc [(.i 0),(.i 0)])] (.q [.z 9 (.build [(.i 0),(.i 0)] [(0,1,.k (-1)),(1,1,.k (-1))]),.z 5 (.alloc [(.i 0),(.i 0)]),.S 2 5 9] (.seq (.q [.K 6 0] (.block 0 (.loop (.seq (.q [.m 10 6,.f 11 1 2,.l 12 11,.s 13 12,.c 14 .lss 3 10 13] (.cond (.t 14) .skip (.exit 0))) (.seq (.block 1 (.q [.f 17 1 2,.l 18 17,.m 19 6,.I 20 7 18 19,.L 21 7 20,.m 22 1,.W 23 141 21 22] (.cond (.t 23) (.seq (.q [.z 24 (.ixAddrArr 2 1 (.t 5) (.k 0)),.l 25 24,.b 26 .lss 3 25 0] (.cond (.t 26) (.ops [.m 27 6,.z 28 (.ixAddrArr 2 1 (.t 5) (.k 0)),.S 1 28 27]) .skip)) (.ops [.m 29 6,.z 30 (.ixAddrArr 2 1 (.t 5) (.k 1)),.S 1 30 29])) .skip))) (.ops [.m 15 6,.b 16 .add 3 15 1,.m 6 16])))))) (.q [.L 31 3 2,.w 32 142 31,.m 7 32] (.seq (.q [.K 8 0] (.block 2 (.loop (.seq (.q [.m 33 8,.f 34 1 2,.l 35 34,.s 36 35,.c 37 .lss 3 33 36,.m 38 37,.y 39 38 (.ixAddrArr 2 1 (.t 5) (.k 0)),.yl 40 38 39,.y 41 38 (.bin .geq true 3 (.t 40) (.k 0)),.q 42 38 41] (.cond (.t 42) .skip (.exit 2))) (.seq (.block 3 (.seq (.q [.f 45 1 2,.l 46 45,.m 47 8,.I 48 7 46 47,.f 49 0 48,.l 50 49,.b 51 .neq 3 50 15] (.cond (.t 51) (.exit 3) .skip)) (.seq (.seq (.draw [(.z 52 (.ixAddrArr 2 1 (.t 5) (.k 0)),[]),(.l 53 52,[]),(.m 54 7,[]),(.m 55 8,[]),(.I 56 1 54 55,[]),(.l 57 56,[]),(.c 58 .leq 3 53 57,[]),(.m 59 58,[]),(.y 60 59 (.ixAddrArr 2 1 (.t 5) (.k 1)),[]),(.yl 61 59 60,[]),(.my 62 59 8,[]),(.y 63 59 (.bin .geq false 3 (.t 61) (.t 62)),[]),(.q 64 59 63,[])]) (.cond (.t 64) (.draw [(.z 65 (.ixAddrArr 2 1 (.t 5) (.k 0)),[]),(.l 66 65,[]),(.m 67 8,[]),(.z 68 (.maxi false (.t 66) (.t 67)),[]),(.z 69 (.ixAddrArr 2 1 (.t 5) (.k 1)),[]),(.l 70 69,[]),(.m 71 7,[]),(.m 72 8,[]),(.I 73 1 71 72,[]),(.l 74 73,[]),(.z 75 (.maxi true (.t 70) (.t 74)),[]),(.z 76 (.ixAddrArr 2 1 (.t 5) (.k 0)),[]),(.S 1 76 68,[(.l 74 73,false)]),(.z 77 (.ixAddrArr 2 1 (.t 5) (.k 1)),[]),(.S 1 77 75,[])]) .skip)) (.ops [.m 78 7,.m 79 8,.I 80 1 78 79,.l 81 80,.m 8 81])))) (.ops [.m 43 8,.b 44 .add 3 43 1,.m 8 44])))))) (.q [.L 82 2 5,.S 2 4 82] .ret))))))
def r_ref25_span:Mt Tryz.prog 102=some ⟨83,zei.r,[.cellN 4 2]⟩:=Aa
def zem:LC:=(.q [.x 1 0,.e 2] (.q [.e 3] (.seq (.q [.K 4 0] (.block 0 (.loop (.seq (.q [.m 5 4,.f 6 0 1,.l 7 6,.s 8 7,.c 9 .lss 3 5 8,.m 10 9,.y 11 10 (.loadN 3 (.t 1)),.y 12 10 (.w 9 [.t 11]),.y 13 10 (.bin .eql true 35 (.t 12) (.k 0)),.q 14 10 13] (.cond (.t 14) .skip (.exit 0))) (.seq (.block 1 (.q [.f 17 0 1,.l 18 17,.m 19 4,.I 20 3 18 19,.f 21 2 20,.l 22 21,.b 23 .gtr 3 22 0] (.cond (.t 23) (.ops [.m 24 3,.f 25 1 1,.l 26 25,.s 27 26,.z 28 (.build [(.i 0),(.i 0)] [(0,1,.k 0),(1,1,.t 27)]),.z 29 (.buildSl 2 1 [(.i 0),(.i 0)] [(0,2,.t 28)]),.a 30 2 24 29,.m 3 30]) (.ops [.m 31 3,.L 32 3 1,.m 33 4,.W 34 102 32 33,.z 35 (.buildSl 2 1 [(.i 0),(.i 0)] [(0,2,.t 34)]),.a 36 2 31 35,.m 3 36])))) (.ops [.m 15 4,.b 16 .add 3 15 1,.m 4 16])))))) (.q [.m 37 3,.m 2 37] .ret))))
def r_ref25_Live:Mt Tryz.prog 55=some ⟨38,zem.r,[.tmp 2]⟩:=Aa
def zlp(o:Ko)(v:Int):Mo 141 [.agg o.f,.i v] (.bool (Rc o v)) []:=by
 refine Ni.val rfl (Mq r_ref25_has Aa U ?_);by_cases g:o.d=v
 ·simp[uo,Ko.f,Rc,g]
 by_cases j:o.e=v
 ·simp[uo,Ko.f,Rc,g,j]
 by_cases p:o.a=v
 ·simp[uo,Ko.f,Rc,g,j,p]
 by_cases z:o.b=v
 ·simp[uo,Ko.f,Rc,g,j,p,z]
 simp[uo,Ko.f,Rc,g,j,p,z]
def z4n{x y:Pc}(z:ox x)(A:ox y):Mo 54 [.agg x.f,.agg y.f] (.bool (decide (Te x y))) []:=by
 obtain⟨B,C,D,E⟩:=z;obtain⟨F,G,H,I⟩:=A;refine Ni.val rfl (Mq r_ref25_common Aa U ?_);have g:-9223372036854775808≤y.at_+y.size∧y.at_+y.size<9223372036854775808:=J
 have j:-9223372036854775808≤x.at_+x.size∧x.at_+x.size<9223372036854775808:=J
 by_cases h:x.buf=y.buf
 ·by_cases p:x.at_<y.at_+y.size
  ·simp[z5p,Pc.f,h,p,g,j,Te]
  ·simp[z5p,Pc.f,h,p,g,j,Te]
 ·simp[z5p,Pc.f,h,Te]
section kern
variable {vs : List Vr} {os rs : List Ko}
def zjd(gH:vs.length≤9223372036854775807)(hc:Mw vs os rs=true){f:Fr Ko}(hw:f.wf Pe)(hf:os=f.flat)(v:Nat) :
  Mo 102 [.agg (Mg vs os rs),.i v] (.agg (Ng (Sg (Vd v 0 (-1,-1) os) (f.tops 0)))) []:=by
 have gI:dats (Mg vs os rs)=true:=Ao
 have gE:(Mg vs os rs).length=3:=rfl;have gK:(Mg vs os rs).take 3=Mg vs os rs:=rfl;have gL:U9 vs os rs=f.ends 0:=by rw[U9,Hs hc,hf];exact zj0 hw
 have gS:os.length≤4096:=by
  have h:=hc;unfold Mw at h;simp only[Hh,Ht]at h;exact h.2.1
 have gT:(f.ends 0).length=os.length:=by rw[Fr.ends_len,hf,Fr.flat_len]
 refine Ni.val rfl (Mq r_ref25_span Aa U ?_);simp[zei,gE,gK];refine M2 (λρ gR Z N=>∃(j:Nat) (s:Sp) (st:Nat),gR=[]∧N+j=os.length∧lk ρ 1=.i v∧lk ρ 2=.ptr 0 0∧lk ρ 4=.ptr 1 0∧lk ρ 5=.ptr 2 0∧lk ρ 6=.i j ∧
   2<Z.length∧Z[0]?=some (.cells (Mg vs os rs) 0)∧Z[1]?=some (.cells [.i 0,.i 0] 0)∧Z[2]?=some (.cells (Ng s) st)∧Vd v j s (os.drop j)=Vd v 0 (-1,-1) os) (N:=os.length)
  ⟨0,(-1,-1),1,rfl,J,U,U,U,U,U,U,Bv,U,by simp[Ng],U⟩ ?_
 rintro N ρ gR Z ⟨j,s,st,rfl,hN,h1,z,C,A,h6,T,B,I,D,L⟩ Nx M;have p:Ng s=[.i s.1,.i s.2]:=rfl;have E:∀V,(Z.set 2 V)[2]?=some V:=λV=>Hi T
 have O:∀V,(Z.set 2 V)[0]?=some (.cells (Mg vs os rs) 0):=λV=>by rw[Hg J];exact B
 have P:∀V,(Z.set 2 V)[1]?=some (.cells [.i 0,.i 0] 0):=λV=>by rw[Hg J];exact I
 by_cases gB:j<os.length
 ·have q7:=Wt (Rl gB);have gM:=Wf gB;rw[iy gB]at L;have gC:(go os j).f=[.i (go os j).kind,.i (go os j).d,.i (go os j).e,.i (go os j).a,.i (go os j).b,.i (go os j).c,.u (go os j).imm]:=rfl;generalize go os j=o at *;simp[h1,z,h6,B,Mg,gB,q7,gM,gC];rw[←gC];refine Mv (zlp o v) (bors_self _ (by simp[dats,LV.dat,gC])) ?_;have next:∀F H (s2:Sp) G,s2=(if Rc o v=true then (if s.1<0 then (j:Int) else s.1,(j:Int)) else s)→lk F 1=.i v→lk F 2=.ptr 0 0→lk F 4=.ptr 1 0→lk F 5=.ptr 2 0→lk F 6=.i ((j:Int)+1) →
    2<H.length→H[0]?=some (.cells (Mg vs os rs) 0)→H[1]?=some (.cells [.i 0,.i 0] 0)→H[2]?=some (.cells (Ng s2) G)→Nx F [] H:=by
   rintro F H s2 G rfl a1 a2 a4 a5 a6 b0 b1 b2 b3;exact M _ _ _ ⟨N-1,J,j+1,_,G,rfl,J,a1,a2,a4,a5,by rw[a6];simp,b0,b1,b2,b3,L⟩
  cases hh:Rc o v with
  |false =>
   simp[h6];exact⟨J,next _ _ s st (by simp[hh]) Cb Ak Au Af U T B I D⟩
  |true =>
   by_cases K:s.1<0
   ·simp[A,h6,D,p,K,↓E];exact⟨J,next _ _ ((j:Int),(j:Int)) (st+1+1) (by simp[hh,K]) Cb Ak Au Af U Ab (O _) (P _) (E _)⟩
   ·simp[A,h6,D,p,K];exact⟨J,next _ _ (s.1,(j:Int)) (st+1) (by simp[hh,K]) Cb Ak Au Af U Ab (O _) (P _) (E _)⟩
 have gF:s=Vd v 0 (-1,-1) os:=by
  rw[Il J]at L;simpa [Vd] using L
 rw[←gF];simp[z,h6,B,Mg,gB,gE];have gO:[LV.lst (Mz vs) vs.length 3,LV.lst (M6 os) os.length 7,LV.lst (M6 rs) rs.length 7]=Mg vs os rs:=rfl;rw[gO];refine R8 (zkc vs os rs gH) (by simp[dats,LV.dat,gI]) ?_;rw[gL];simp;clear L M;refine M2 (λρ gR Z N=>∃(i:Nat) (r:Fr Ko) (gV:List Sp) (g:Sp) (st:Nat),gR=[]∧N=r.size∧lk ρ 2=.ptr 0 0∧lk ρ 4=.ptr 1 0∧lk ρ 5=.ptr 2 0∧lk ρ 7=.lst ((f.ends 0).map .i) (f.ends 0).length 1∧lk ρ 8=.i i ∧
   2<Z.length∧Z[0]?=some (.cells (Mg vs os rs) 0)∧Z[1]?=some (.cells [.i 0,.i 0] 0)∧Z[2]?=some (.cells (Ng g) st)∧i≤os.length∧Go.Sv.Left os (f.ends 0) (f.tops 0) i r gV∧Sg g (r.tops i)=Sg s (f.tops 0)) (N:=f.size)
  ⟨0,f,[],s,st,rfl,rfl,Ak,Au,Af,U,U,T,B,I,D,J,⟨by simp[hf],U,hw,U⟩,rfl⟩ ?_
 clear h1 z C A h6 T B I D E O P gB hN gF p;rintro N ρ gR Z ⟨i,r,gV,g,st,rfl,rfl,z,C,A,h7,h8,T,B,I,D,hi,hL,Q⟩ Nx M;have gg:=hL.len hi;have p:Ng g=[.i g.1,.i g.2]:=rfl;have E:∀V,(Z.set 2 V)[2]?=some V:=λV=>Hi T
 have O:∀V,(Z.set 2 V)[0]?=some (.cells (Mg vs os rs) 0):=λV=>by rw[Hg J];exact B
 have P:∀V,(Z.set 2 V)[1]?=some (.cells [.i 0,.i 0] 0):=λV=>by rw[Hg J];exact I
 cases r with
 |nil =>
  have gB:¬i<os.length:=by simp[Fr.size]at gg;omega
  have R:g=Sg s (f.tops 0):=Q;rw[←R];simp[z,C,A,h8,B,I,D,Mg,gB,p];rw[Hi J];simp
 |op o r =>
  obtain⟨ho,hk,gD⟩:=hL.op;have gB:i<os.length:=(Hf.1 ho).1;have qk:(M6 os)[i*7]?=some (.i o.kind):=Fb
  by_cases K:0≤g.1
  ·simp[z,C,A,h7,h8,B,D,Mg,gB,p,K,Mi qk,hk];exact⟨J,M _ _ _ ⟨r.size,by simp[Fr.size],i+1,r,gV,g,st,rfl,rfl,Ak,Au,Af,Cd,U,T,B,I,D,J,gD,Q⟩⟩
  ·have R:g=Sg s (f.tops 0):=Ff
   rw[←R];simp[z,C,A,h8,B,I,D,Mg,gB,p,K];rw[Hi J];simp
 |loop o b e r =>
  obtain⟨ho,hk,he,gD⟩:=hL.loop;have gB:i<os.length:=(Hf.1 ho).1;have qk:(M6 os)[i*7]?=some (.i o.kind):=Fb
  have ge:i<(f.ends 0).length:=J
  have qe:=Pf (f:=LV.i) he;simp only[Fr.size]at gg;have gP:∀gA:Sp,Ng gA=[.i gA.1,.i gA.2]:=λgA=>rfl
  by_cases K:0≤g.1
  ·obtain⟨gA,hp⟩:∃gA:Sp,gA=((i:Int),((i+b.size+1:Nat):Int)):=⟨_,rfl⟩;have X:gA.1=i:=by rw[hp]
   have Y:gA.2=((i+b.size+1:Nat):Int):=by rw[hp]
   have gG:Sg (Tk g gA) (r.tops (i+b.size+2))=Sg s (f.tops 0):=by rw[←Q,hp];rfl
   have n1:¬g.1<0:=J
   have next:∀F H (s2:Sp) G,s2=Tk g gA→lk F 2=.ptr 0 0→lk F 4=.ptr 1 0→lk F 5=.ptr 2 0→lk F 7=.lst ((f.ends 0).map .i) (f.ends 0).length 1→lk F 8=.i (((i+b.size+1:Nat):Int)+1) →
     2<H.length→H[0]?=some (.cells (Mg vs os rs) 0)→H[1]?=some (.cells [.i 0,.i 0] 0)→H[2]?=some (.cells (Ng s2) G)→Nx F [] H:=by
    rintro F H s2 G rfl a2 a4 a5 a7 a8 b0 b1 b2 b3;exact M _ _ _ ⟨r.size,by simp[Fr.size];omega,i+b.size+2,r,_,_,G,rfl,rfl,a2,a4,a5,a7,by rw[a8];simp;omega,b0,b1,b2,b3,J,gD,gG⟩
   generalize hq:((i+b.size+1:Nat):Int)=q at *;by_cases m1:g.1≤q
   ·by_cases m2:(i:Int)≤g.2
    ·have S:Tk g gA=Wx g gA:=by simp[Tk,Wb,n1,X,Y,m1,m2]
     simp[z,C,A,h7,h8,B,D,Mg,gB,p,K,Mi qk,hk,ge,Mi qe,m1,m2,↓E];have gQ:Ng (Wx g gA)=[.i (min g.1 i),.i (max g.2 q)]:=by rw[gP,←X,←Y];rfl
     refine⟨J,next _ _ (Wx g gA) (st+1+1) S.symm Ak Au Af Cd U Ab (O _) (P _) (by rw[E,gQ])⟩
    ·have S:Tk g gA=g:=by simp[Tk,Wb,n1,X,Y,m1,m2]
     simp[z,C,A,h7,h8,B,D,Mg,gB,p,K,Mi qk,hk,ge,Mi qe,m1,m2];exact⟨J,next _ _ g st S.symm Ak Au Af Cd U T B I D⟩
   ·have S:Tk g gA=g:=by simp[Tk,Wb,n1,X,Y,m1]
    simp[z,C,A,h7,h8,B,D,Mg,gB,p,K,Mi qk,hk,ge,Mi qe,m1];exact⟨J,next _ _ g st S.symm Ak Au Af Cd U T B I D⟩
  ·have R:g=Sg s (f.tops 0):=Ff
   rw[←R];simp[z,C,A,h8,B,I,D,Mg,gB,p,K];rw[Hi J];simp
def zk5(F:vs.length≤9223372036854775807)(G:Mw vs os rs=true){f:Fr Ko}(hw:f.wf Pe)(hf:os=f.flat) :
  P6 55 [.agg (Mg vs os rs)] (.lst (Mu (Qs os (f.tops 0) 0 vs)) (Qs os (f.tops 0) 0 vs).length 2):=by
 have H:dats (Mg vs os rs)=true:=Ao
 refine S0.mk E9 (Mq r_ref25_Live Aa U ?_);have X:(Mg vs os rs).length=3:=rfl;have Y:(Mg vs os rs).take 3=Mg vs os rs:=rfl;have I:[LV.lst (Mz vs) vs.length 3,LV.lst (M6 os) os.length 7,LV.lst (M6 rs) rs.length 7]=Mg vs os rs:=rfl;have gD:vs.length≤256:=by
  have h:=G;unfold Mw at h;simp only[Hh]at h;exact (uq h.1).2
 have gE:os.length≤4096:=by
  have h:=G;unfold Mw at h;simp only[Hh,Ht]at h;exact h.2.1
 simp[zem,X,Y];generalize hT:f.tops 0=K at *;refine M2 (λρ gG gC N=>∃(i:Nat) (Q:List Sp) (v:LV),gG=[]∧N+i=vs.length∧lk ρ 1=.ptr 0 0∧lk ρ 3=v∧lk ρ 4=.i i∧0<gC.length∧gC[0]?=some (.cells (Mg vs os rs) 0)∧Rw 1 gC v 2 Q.length (Mu Q)∧Q.length=i∧Qs os K 0 vs=Q++Qs os K i (vs.drop i)) (N:=vs.length)
  ⟨0,[],.nilSl,rfl,J,U,U,U,U,Bv,Rw.nil,U,U⟩ ?_
 rintro N ρ gG gC ⟨i,Q,v,rfl,hN,D,R,A,hl,E,S,Z,g⟩ Nx gg;by_cases gA:i<vs.length
 case neg =>
  rw[Il J]at g;have g:Qs os K 0 vs=Q:=by simpa [Qs] using g
  simp[D,R,A,E,Mg,gA];rw[g];have hb:=S.bor (ul Q);rcases zqj S with rfl|⟨gH,k,rfl⟩<;>exact hb
 rw[zid gA]at g;have p:ap os K i (gv vs i)=if 0<(gv vs i).mode then (0,(os.length:Int)) else Sg (Vd i 0 (-1,-1) os) K:=rfl
 have L:∀M B T,lk M 1=.ptr 0 0→lk M 3=T→lk M 4=.i ((i:Int)+1)→0<B.length→B[0]?=some (.cells (Mg vs os rs) 0)→Rw 1 B T 2 (Q.length+1) (Mu Q++Ng (ap os K i (gv vs i)))→Nx M [] B:=by
  intro M B T a1 a3 a4 b1 b2 b3;refine gg _ _ _ ⟨N-1,J,i+1,Q++[ap os K i (gv vs i)],T,rfl,J,a1,a3,by rw[a4];simp,b1,b2,?_,A6,by rw[g];simp⟩;rw[zoa,Hv,(E7:Mu [ap os K i (gv vs i)]=Ng (ap os K i (gv vs i)))];exact b3
 have qm:=Sy Vr.f_len (P8 gA) (j:=2) J;have O:(Mz vs)[i*3+2]?=some (.i (gv vs i).mode):=by simpa [Mz,Vr.f] using qm
 have gF:=S2 gA;have P:i*3+2<(Mz vs).length:=J
 simp[D,A,E,Mg,gA];rw[I];refine Mv (z5w vs os rs F) (bors_self _ (by simp[dats,LV.dat,H])) ?_;by_cases V:0<(gv vs i).mode
 ·rw[Hs V]at p;simp[Nr,G,D,R,A,E,Mg,gA,Mi O,P,V];refine Rw.push (m:=1) (x:=[.i 0,.i os.length]) S.push_end J U J rfl λv' B z C hb=>?_
  rw[show [LV.i 0,LV.i (os.length:Nat)]=Ng (ap os K i (gv vs i)) by rw[p];rfl]at z;simp[A];refine⟨J,L _ _ v' Ai U U J ?_ z⟩;rw[C 0 J,Mj hl];exact E
 ·rw[Hq V]at p;simp[Nr,G,D,R,A,E,Mg,gA,Mi O,P,V];rw[I];refine Mv (zjd F G hw hf i) (bors_self _ (by simp[dats,LV.dat,H])) ?_;rw[hT];obtain⟨q,hq⟩:∃q,q=Sg (Vd i 0 (-1,-1) os) K:=⟨_,rfl⟩;rw[←hq]at p ⊢;have gB:Ng q=[.i q.1,.i q.2]:=rfl;simp[R,A,gB];refine Rw.push (m:=1) (x:=Ng q) S.push_end J U J rfl λv' B z C hb=>?_
  rw[←p]at z;simp[A];refine⟨J,L _ _ v' Ai U U J ?_ z⟩;rw[C 0 J,Mj hl];exact E
end kern
end






def vn:LC:=(.q [.x 1 0,.e 2] (.seq (.block 0 (.q [.f 4 0 1,.l 5 4,.b 6 .eql 3 5 2,.m 7 6,.nf 8 7 0 1,.nl 9 7 8,.nb 10 7 .eql 3 9 8,.p 11 7 10,.m 12 11,.nf 13 12 0 1,.nl 14 12 13,.nb 15 12 .eql 3 14 9,.p 16 12 15,.m 3 16] (.cond (.t 3) (.q [.f 17 3 1,.l 18 17,.z 19 (.buildSl 1 1 [(.i 0)] [(0,1,.t 18)]),.m 2 19] .ret) (.q [.f 21 0 1,.l 22 21,.b 23 .geq 3 22 3,.m 24 23,.yf 25 24 0 1,.yl 26 24 25,.y 27 24 (.bin .leq true 3 (.t 26) (.k 7)),.q 28 24 27,.m 29 28,.nf 30 29 0 1,.nl 31 29 30,.nb 32 29 .eql 3 31 10,.p 33 29 32,.m 20 33] (.cond (.t 20) (.q [.f 34 3 1,.l 35 34,.f 36 4 1,.l 37 36,.z 38 (.buildSl 1 2 [(.i 0),(.i 0)] [(0,1,.t 35),(1,1,.t 37)]),.m 2 38] .ret) (.q [.f 40 0 1,.l 41 40,.b 42 .eql 3 41 11,.m 43 42,.nf 44 43 0 1,.nl 45 43 44,.nb 46 43 .eql 3 45 12,.p 47 43 46,.m 48 47,.nf 49 48 0 1,.nl 50 48 49,.nb 51 48 .eql 3 50 13,.p 52 48 51,.m 39 52] (.cond (.t 39) (.q [.f 53 3 1,.l 54 53,.f 55 4 1,.l 56 55,.f 57 5 1,.l 58 57,.z 59 (.buildSl 1 3 [(.i 0),(.i 0),(.i 0)] [(0,1,.t 54),(1,1,.t 56),(2,1,.t 58)]),.m 2 59] .ret) (.q [.f 61 0 1,.l 62 61,.b 63 .eql 3 62 14,.m 64 63,.yf 65 64 3 1,.yl 66 64 65,.y 67 64 (.bin .neq true 3 (.t 66) (.k (-1))),.q 68 64 67,.m 60 68] (.cond (.t 60) (.q [.f 69 3 1,.l 70 69,.z 71 (.buildSl 1 1 [(.i 0)] [(0,1,.t 70)]),.m 2 71] .ret) (.q [.f 73 0 1,.l 74 73,.b 75 .eql 3 74 15,.m 76 75,.yf 77 76 3 1,.yl 78 76 77,.y 79 76 (.bin .neq true 3 (.t 78) (.k (-1))),.q 80 76 79,.m 72 80] (.cond (.t 72) (.q [.f 81 3 1,.l 82 81,.f 83 4 1,.l 84 83,.z 85 (.buildSl 1 2 [(.i 0),(.i 0)] [(0,1,.t 82),(1,1,.t 84)]),.m 2 85] .ret) (.q [.f 87 0 1,.l 88 87,.b 89 .eql 3 88 15,.m 86 89] (.cond (.t 86) (.q [.f 90 4 1,.l 91 90,.z 92 (.buildSl 1 1 [(.i 0)] [(0,1,.t 91)]),.m 2 92] .ret) .skip))))))))))))) (.q [.e 2] .ret)))
def r_ref12_Takes:Mt Tryz.prog 139=some ⟨93,vn.r,[.tmp 2]⟩:=Aa
def sm:LC:=(.q [.x 1 0,.e 2] (.seq (.block 0 (.q [.f 4 0 1,.l 5 4,.b 6 .eql 3 5 10,.m 7 6,.nf 8 7 0 1,.nl 9 7 8,.nb 10 7 .eql 3 9 11,.p 11 7 10,.m 12 11,.nf 13 12 0 1,.nl 14 12 13,.nb 15 12 .eql 3 14 12,.p 16 12 15,.m 3 16] (.cond (.t 3) (.q [.f 17 1 1,.l 18 17,.f 19 2 1,.l 20 19,.z 21 (.buildSl 1 2 [(.i 0),(.i 0)] [(0,1,.t 18),(1,1,.t 20)]),.m 2 21] .ret) (.q [.f 23 0 1,.l 24 23,.b 25 .eql 3 24 15,.m 26 25,.nf 27 26 0 1,.nl 28 26 27,.nb 29 26 .eql 3 28 17,.p 30 26 29,.m 22 30] (.cond (.t 22) (.q [.e 2] .ret) .skip))))) (.q [.f 31 1 1,.l 32 31,.z 33 (.buildSl 1 1 [(.i 0)] [(0,1,.t 32)]),.m 2 33] .ret)))
def r_ref12_Makes:Mt Tryz.prog 138=some ⟨34,sm.r,[.tmp 2]⟩:=Aa
def z8s:LC:=(.q [.x 3 0,.F 6] (.seq (.q [.m 7 2,.z 8 (.un .not (.t 7))] (.cond (.t 8) (.q [.m 9 1,.b 10 .eql 3 9 (-1),.m 6 10] .ret) .skip)) (.q [.m 11 1,.b 12 .geq 3 11 0,.m 13 12,.my 14 13 1,.yf 15 13 0 3,.yl 16 13 15,.y 17 13 (.bin .lss false 3 (.t 14) (.t 16)),.q 18 13 17,.m 6 18] .ret)))
def r_ref12_field:Mt Tryz.prog 157=some ⟨19,z8s.r,[.tmp 6]⟩:=Aa
def xw:LC:=(.q [.x 2 0,.x 3 1,.F 4] (.q [.f 12 0 3,.l 13 12,.m 5 13] (.seq (.q [.m 14 5,.b 15 .lss 3 14 1,.m 16 15,.mn 17 16 5,.nb 18 16 .gtr 3 17 17,.p 19 16 18] (.cond (.t 19) (.q [.F 4] .ret) .skip)) (.q [.m 20 5,.b 21 .eql 3 20 14,.m 22 21,.mn 23 22 5,.nb 24 22 .eql 3 23 15,.p 25 22 24,.m 6 25] (.q [.m 26 5,.b 27 .neq 3 26 15,.m 28 27,.my 29 28 5,.y 30 28 (.bin .neq true 3 (.t 29) (.k 17)),.q 31 28 30,.m 7 31] (.q [.m 32 5,.b 33 .eql 3 32 10,.m 34 33,.mn 35 34 5,.nb 36 34 .eql 3 35 11,.p 37 34 36,.m 38 37,.mn 39 38 5,.nb 40 38 .eql 3 39 12,.p 41 38 40,.m 8 41] (.q [.m 42 5,.b 43 .neq 3 42 1,.m 44 43,.my 45 44 5,.y 46 44 (.bin .neq true 3 (.t 45) (.k 16)),.q 47 44 46,.m 48 47,.my 49 48 5,.y 50 48 (.bin .neq true 3 (.t 49) (.k 17)),.q 51 48 50,.m 9 51] (.q [.m 52 5,.b 53 .geq 3 52 3,.m 54 53,.my 55 54 5,.y 56 54 (.bin .leq true 3 (.t 55) (.k 7)),.q 57 54 56,.m 58 57,.mn 59 58 5,.nb 60 58 .geq 3 59 10,.mn 61 58 60,.my 62 61 5,.y 63 61 (.bin .leq true 3 (.t 62) (.k 13)),.n 64 58 (.pick (.t 61) (.t 63) .F),.p 65 58 64,.m 66 65,.mn 67 66 5,.nb 68 66 .eql 3 67 15,.p 69 66 68,.m 10 69] (.q [.m 70 5,.b 71 .geq 3 70 11,.m 72 71,.my 73 72 5,.y 74 72 (.bin .leq true 3 (.t 73) (.k 13)),.q 75 72 74,.m 11 75] (.seq (.q [.L 76 3 2,.f 77 1 3,.l 78 77,.m 79 7,.V 80 157 76 78 79,.z 81 (.un .not (.t 80)),.m 82 81,.n 83 82 (.loadN 3 (.t 2)),.nf 84 82 2 3,.nl 85 82 84,.mn 86 82 8,.n 87 82 (.w 157 [.t 83,.t 85,.t 86]),.n 88 82 (.un .not (.t 87)),.p 89 82 88,.m 90 89,.n 91 90 (.loadN 3 (.t 2)),.nf 92 90 3 3,.nl 93 90 92,.mn 94 90 9,.n 95 90 (.w 157 [.t 91,.t 93,.t 94]),.n 96 90 (.un .not (.t 95)),.mn 97 90 96,.my 98 97 6,.my 99 97 98,.yf 100 99 3 3,.yl 101 99 100,.y 102 99 (.bin .eql true 3 (.t 101) (.k (-1))),.y 103 97 (.pick (.t 99) (.t 102) .F),.y 104 97 (.un .not (.t 103)),.n 105 90 (.pick (.t 97) (.t 104) .F),.p 106 90 105,.m 107 106,.n 108 107 (.loadN 3 (.t 2)),.nf 109 107 4 3,.nl 110 107 109,.mn 111 107 10,.n 112 107 (.w 157 [.t 108,.t 110,.t 111]),.n 113 107 (.un .not (.t 112)),.p 114 107 113,.m 115 114,.n 116 115 (.loadN 3 (.t 2)),.nf 117 115 5 3,.nl 118 115 117,.mn 119 115 11,.n 120 115 (.w 157 [.t 116,.t 118,.t 119]),.n 121 115 (.un .not (.t 120)),.p 122 115 121,.m 123 122,.mn 124 123 8,.mn 125 123 124,.yf 126 125 1 3,.yl 127 125 126,.yf 128 125 2 3,.yl 129 125 128,.y 130 125 (.bin .eql false 3 (.t 127) (.t 129)),.n 131 123 (.pick (.t 125) (.t 130) .F),.p 132 123 131] (.cond (.t 132) (.q [.F 4] .ret) .skip)) (.seq (.block 0 (.q [.m 134 6,.m 133 134] (.cond (.t 133) (.seq (.q [.f 135 6 3,.l 136 135,.b 137 .lss 3 136 0,.m 138 137,.nf 139 138 6 3,.nl 140 138 139,.nf 141 138 1 2,.nl 142 138 141,.n 143 138 (.lenSl (.t 142)),.n 144 138 (.bin .geq false 3 (.t 140) (.t 143)),.p 145 138 144,.m 146 145,.mn 147 146 5,.nb 148 146 .eql 3 147 15,.mn 149 146 148,.yf 150 149 1 2,.yl 151 149 150,.yf 152 149 6 3,.yl 153 149 152,.y 154 149 (.ixAddr 3 (.t 151) (.t 153)),.yf 155 149 1 154,.yl 156 149 155,.y 157 149 (.bin .eql true 3 (.t 156) (.k 1)),.n 158 146 (.pick (.t 149) (.t 157) .F),.p 159 146 158] (.cond (.t 159) (.q [.F 4] .ret) .skip)) (.seq (.draw [(.f 160 3 3,[]),(.l 161 160,[]),(.b 162 .neq 3 161 (-1),[]),(.m 163 162,[]),(.nf 164 163 7 3,[]),(.nl 165 163 164,[]),(.nf 166 163 1 2,[]),(.nl 167 163 166,[]),(.nf 168 163 6 3,[]),(.nl 169 163 168,[]),(.n 170 163 (.ixAddr 3 (.t 167) (.t 169)),[]),(.nf 171 163 0 170,[]),(.nl 172 163 171,[]),(.n 173 163 (.cvInt .u64 (.t 172)),[]),(.n 174 163 (.bin .lss false 43 (.t 165) (.t 173)),[]),(.p 175 163 174,[]),(.m 4 175,[])]) .ret)) (.q [.f 177 6 3,.l 178 177,.b 179 .neq 3 178 0,.m 176 179] (.cond (.t 176) (.q [.F 4] .ret) (.q [.m 181 5,.b 182 .eql 3 181 1,.m 180 182] (.cond (.t 180) (.q [.z 4 (.move .T)] .ret) (.q [.m 184 5,.b 185 .eql 3 184 8,.m 186 185,.mn 187 186 5,.nb 188 186 .eql 3 187 9,.p 189 186 188,.m 183 189] (.cond (.t 183) (.q [.f 190 7 3,.l 191 190,.u 192 .geq 43 191 1,.m 193 192,.yf 194 193 7 3,.yl 195 193 194,.y 196 193 (.bin .leq true 43 (.t 195) (.c (.u 63))),.q 197 193 196,.m 4 197] .ret) (.q [.m 199 5,.b 200 .eql 3 199 16,.m 198 200] (.cond (.t 198) (.q [.f 201 7 3,.l 202 201,.u 203 .geq 43 202 1,.m 204 203,.yf 205 204 7 3,.yl 206 204 205,.y 207 204 (.bin .leq true 43 (.t 206) (.c (.u 1048576))),.q 208 204 207,.m 4 208] .ret) .skip))))))))))) (.q [.f 209 7 3,.l 210 209,.u 211 .eql 43 210 0,.m 4 211] .ret))))))))))))
def r_ref12_fields:Mt Tryz.prog 137=some ⟨212,xw.r,[.tmp 4]⟩:=Aa
def k_ref12_fields:xw.ok=true:=Aa
def zij:LC:=(.q [.F 4] (.seq (.q [.K 5 0] (.block 0 (.loop (.seq (.q [.m 6 5,.m 7 0,.s 8 7,.c 9 .lss 3 6 8] (.cond (.t 9) .skip (.exit 0))) (.seq (.block 1 (.q [.m 12 0,.m 13 5,.I 14 1 12 13,.l 15 14,.m 16 1,.c 17 .eql 3 15 16] (.cond (.t 17) (.q [.z 4 (.move .T)] .ret) .skip))) (.ops [.m 10 5,.b 11 .add 3 10 1,.m 5 11])))))) (.q [.F 4] .ret)))
def r_ref12_in:Mt Tryz.prog 140=some ⟨18,zij.r,[.tmp 4]⟩:=Aa
def ze1(k:Int):k<1∨k=1∨k=2∨k=3∨k=4∨k=5∨k=6∨k=7∨k=8∨k=9∨k=10∨k=11∨k=12∨k=13∨k=14∨k=15∨k=16∨k=17∨17<k:=J
def kf(l:List Int):dats (l.map .i)=true:=Ze (λ_=>rfl) l
def zi6(o:Lo):P6 139 [.agg o.f] (.lst ((Qz o).map .i) (Qz o).length 1):=by
 refine S0.mk (by simp[LV.dat,kf]) (Mq r_ref12_Takes Aa U ?_);have C:o.f=[.i o.kind,.i o.d,.i o.e,.i o.a,.i o.b,.i o.c,.i o.buf,.u o.imm]:=rfl;rcases ze1 o.kind with h|h|h|h|h|h|h|h|h|h|h|h|h|h|h|h|h|h|h
 case inr.inr.inr.inr.inr.inr.inr.inr.inr.inr.inr.inr.inr.inr.inl|inr.inr.inr.inr.inr.inr.inr.inr.inr.inr.inr.inr.inr.inr.inr.inl =>
  by_cases G:o.a=-1<;>simp[vn,C,Qz,h,G,Np,bor,LV.dat,dats]
 case inl|inr.inr.inr.inr.inr.inr.inr.inr.inr.inr.inr.inr.inr.inr.inr.inr.inr.inr =>
  have D:o.kind≠2:=J
  have H:¬(3≤o.kind∧o.kind≤7):=J
  have E:o.kind≠8:=J
  have F:o.kind≠9:=J
  have g:o.kind≠10:=J
  have j:o.kind≠11:=J
  have p:o.kind≠12:=J
  have z:o.kind≠13:=J
  have A:o.kind≠14:=J
  have B:o.kind≠15:=J
  by_cases I:3≤o.kind
  ·have K:¬o.kind≤7:=λq=>H ⟨I,q⟩
   simp[vn,C,Qz,I,K,D,E,F,g,j,p,z,A,B,Np,bor,LV.dat,dats]
  ·simp[vn,C,Qz,I,D,E,F,g,j,p,z,A,B,Np,bor,LV.dat,dats]
 all_goals simp[vn,C,Qz,h,Np,bor,LV.dat,dats]
def zhg(o:Lo):P6 138 [.agg o.f] (.lst ((Ov o).map .i) (Ov o).length 1):=by
 refine S0.mk (by simp[LV.dat,kf]) (Mq r_ref12_Makes Aa U ?_);have g:o.f=[.i o.kind,.i o.d,.i o.e,.i o.a,.i o.b,.i o.c,.i o.buf,.u o.imm]:=rfl;by_cases j:o.kind=10;· simp[sm,g,Ov,j,Np,bor,LV.dat,dats]
 by_cases p:o.kind=11;· simp[sm,g,Ov,p,Np,bor,LV.dat,dats]
 by_cases z:o.kind=12;· simp[sm,g,Ov,z,Np,bor,LV.dat,dats]
 by_cases A:o.kind=15;· simp[sm,g,Ov,A,Np,bor,LV.dat,dats]
 by_cases B:o.kind=17;· simp[sm,g,Ov,B,Np,bor,LV.dat,dats]
 simp[sm,g,Ov,j,p,z,A,B,Np,bor,LV.dat,dats]
def zi7(g:Int)(x y:LV)(r:Int)(b:Bool):Mo 157 [.agg [.i g,x,y],.i r,.bool b] (.bool (Sz g r b)) []:=by
 refine Ni.val rfl (Mq r_ref12_field Aa U ?_);cases b with
 |false=>simp[z8s,Sz]
 |true=>by_cases j:0≤r<;>simp[z8s,Sz,j]
def znn(l:List Int)(n:Int)(G:l.length≤1000000000):Mo 140 [.lst (l.map .i) l.length 1,.i n] (.bool (l.contains n)) []:=by
 refine Ni.val rfl (Mq r_ref12_in Aa U ?_);simp[zij];refine M2 (λD F H N=>∃i:Nat,F=[]∧N+i=l.length∧lk D 0=.lst (l.map .i) l.length 1∧lk D 1=.i n∧lk D 5=.i i∧∀x∈l.take i,¬x=n) (N:=l.length) ⟨0,rfl,J,U,U,U,U⟩ ?_;rintro N D F H ⟨i,rfl,I,j,p,z,A⟩ K B;by_cases C:i<l.length
 ·have q:(l.map LV.i)[i]?=some (.i l[i]):=Au
  have hm:l[i]∈l:=Ky C;have E:l.take (i+1)=l.take i++[l[i]]:=I8 C;generalize l[i]=x at *;by_cases e:x=n
  ·subst e;simp[j,p,z,C,Mi q,hm]
  ·simp[j,p,z,C,Mi q,e];refine⟨J,B _ _ _ ⟨N-1,J,i+1,rfl,J,As,Ae,U,λy g=>?_⟩⟩;rw[E]at g;rcases Ib.1 g with g|g
   ·exact A y g
   ·simp at g;rw[g];exact e
 ·rw[Hz J]at A;have:¬n∈l:=λh=>A n h rfl
  simp[j,p,z,C,this]
def Pn(g:Int)(j:List Bf)(p:List Lo):List LV:=[.i g,.lst (N0 j) j.length 3,.lst (yd p) p.length 8]
def Xt(g:Int)(j:List Bf)(p:List Lo):dats (Pn g j p)=true:=by simp[Pn,dats,LV.dat,Wu,zkr]
def znx(g:Int)(j:List Bf)(o:Lo):Bool:=(Sz g o.d (Ye o.kind)&&(Sz g o.e (Up o.kind)&&((Sz g o.a (Yd o.kind) || (Ux o.kind&&decide (o.a=-1)))&&(Sz g o.b (yo o.kind)&&(Sz g o.c (xe o.kind)&&(!(Up o.kind&&decide (o.d=o.e)) &&
  (if Ux o.kind=true then decide (0≤o.buf)&&(decide (o.buf<j.length)&&(!(decide (o.kind=15)&&decide ((My j o.buf.toNat).kind=1))&&(!decide (o.a=-1) || decide (o.imm<iU (My j o.buf.toNat).size))))
   else decide (o.buf=0)&&(if o.kind=1 then true else if o.kind=8∨o.kind=9 then decide (1≤o.imm)&&decide (o.imm≤63) else if o.kind=16 then decide (1≤o.imm)&&decide (o.imm≤1048576) else decide (o.imm=0)))))))))
def bg{g:List Bf}{j:List Lo}{r:Int}{b:Bool}(p:Sz z r b=false→Q (.bool false) L)(A:Sz z r b=true→Q (.bool true) L):Oa (.fn 157) [.agg [.i z,.lst (N0 g) g.length 3,.lst (yd j) j.length 8],.i r,.bool b] L Q:=by
 refine Mv (zi7 z _ _ r b) (bors_self _ (by simp[dats,LV.dat,Wu,zkr])) ?_;cases e:Sz z r b with
 |false=>simpa using p e
 |true=>simpa using A e
set_option maxHeartbeats 4000000 in
def zfc(p:Int)(z:List Bf)(V:List Lo)(o:Lo):Mo 137 [.agg (Pn p z V),.agg o.f] (.bool (du p z o)) []:=by
 refine Ni.val rfl ?_;have H:o.f=[.i o.kind,.i o.d,.i o.e,.i o.a,.i o.b,.i o.c,.i o.buf,.u o.imm]:=rfl;by_cases T:o.kind<1
 ·have I:¬1≤o.kind:=J
  refine Mq r_ref12_fields k_ref12_fields U ?_;simp[xw,Pn,H,T,I,du]
 by_cases K:17<o.kind
 ·have I:¬o.kind≤17:=J
  refine Mq r_ref12_fields k_ref12_fields U ?_;simp[xw,Pn,H,T,K,I,du]
 have X:1≤o.kind∧o.kind≤17:=J
 have Y:du p z o=znx p z o:=by
  unfold du znx;simp[X]
 rw[Y];refine Mq r_ref12_fields k_ref12_fields U ?_;unfold znx;rcases ze1 o.kind with h|h|h|h|h|h|h|h|h|h|h|h|h|h|h|h|h|h|h
 case inl|inr.inr.inr.inr.inr.inr.inr.inr.inr.inr.inr.inr.inr.inr.inr.inr.inr.inr=>omega
 all_goals
  simp[xw,Pn,H,h,Ye,Up,Yd,yo,xe,Ux];refine bg (λe=>Cr) λL=>?_
  simp;refine bg (λe=>Cr) λM=>?_
  simp
 case inr.inr.inr.inr.inr.inr.inr.inr.inr.inr.inr.inr.inr.inr.inl|inr.inr.inr.inr.inr.inr.inr.inr.inr.inr.inr.inr.inr.inr.inr.inl =>
  refine bg (λA=>?_) λA=>?_
  ·by_cases B:o.a=-1
   case neg=>simp[B,A]
   simp[B];refine bg (λe=>Cr) λC=>?_
   simp;refine bg (λe=>Cr) λD=>?_
   simp;by_cases E:o.buf<0
   ·have N:¬0≤o.buf:=J
    simp[E,N]
   obtain⟨n,F⟩:=Hx (J:0≤o.buf);have G:¬(n:Int)<0:=J
   by_cases j:n<z.length
   ·have q:=Qp j;have O:=sx q;have P:=sf q;have Q:=Uk j;have g:¬z.length≤n:=J
    by_cases R:(My z n).kind=1<;>simp[G,g,F,j,Mi O,B,Mi P,R,L,M,A,C,D]
   ·have g:z.length≤n:=J
    simp[G,g,F,j]
  ·have B:¬o.a=-1:=λq=>by rw[q]at A;simp[Sz]at A
   simp;refine bg (λe=>Cr) λC=>?_
   simp;refine bg (λe=>Cr) λD=>?_
   simp;by_cases E:o.buf<0
   ·have N:¬0≤o.buf:=J
    simp[E,N]
   obtain⟨n,F⟩:=Hx (J:0≤o.buf);have G:¬(n:Int)<0:=J
   by_cases j:n<z.length
   ·have q:=Qp j;have O:=sx q;have P:=sf q;have Q:=Uk j;have g:¬z.length≤n:=J
    by_cases R:(My z n).kind=1<;>simp[G,g,F,j,Mi O,B,Mi P,R,L,M,A,C,D]
   ·have g:z.length≤n:=J
    simp[G,g,F,j]
 all_goals
  refine bg (λe=>Cr) λA=>?_
  simp;refine bg (λe=>Cr) λC=>?_
  simp;refine bg (λe=>Cr) λD=>?_
  by_cases E:o.buf=0<;>by_cases S:1≤o.imm<;>simp[L,M,A,C,D,E,S]
  all_goals first|exact⟨λa b=>absurd a b,λa _=>a⟩|(rintro q;rw[q]at S;exact absurd S An)
def yu:LC:=(.q [.x 1 0,.K 2 0,.K 3 0] (.seq (.q [.f 15 0 1,.l 16 15,.b 17 .gtr 3 16 64,.m 18 17,.nf 19 18 1 1,.nl 20 18 19,.n 21 18 (.lenSl (.t 20)),.nb 22 18 .gtr 3 21 32,.p 23 18 22,.m 24 23,.nf 25 24 2 1,.nl 26 24 25,.n 27 24 (.lenSl (.t 26)),.nb 28 24 .gtr 3 27 65536,.p 29 24 28] (.cond (.t 29) (.q [.K 2 0,.K 3 3] .ret) .skip)) (.seq (.q [.K 4 0] (.block 0 (.loop (.seq (.q [.m 30 4,.f 31 1 1,.l 32 31,.s 33 32,.c 34 .lss 3 30 33] (.cond (.t 34) .skip (.exit 0))) (.seq (.block 1 (.q [.f 37 1 1,.l 38 37,.m 39 4,.I 40 3 38 39,.f 41 0 40,.l 42 41,.b 43 .gtr 3 42 65536] (.cond (.t 43) (.q [.K 2 0,.K 3 3] .ret) .skip))) (.ops [.m 35 4,.b 36 .add 3 35 1,.m 4 36])))))) (.seq (.q [.f 44 0 1,.l 45 44,.b 46 .lss 3 45 0] (.cond (.t 46) (.q [.K 2 0,.K 3 2] .ret) .skip)) (.seq (.q [.K 5 0] (.block 2 (.loop (.seq (.q [.m 47 5,.f 48 1 1,.l 49 48,.s 50 49,.c 51 .lss 3 47 50] (.cond (.t 51) .skip (.exit 2))) (.seq (.block 3 (.q [.f 54 1 1,.l 55 54,.m 56 5,.I 57 3 55 56,.f 58 0 57,.l 59 58,.b 60 .lss 3 59 1,.m 61 60,.nf 62 61 1 1,.nl 63 61 62,.mn 64 61 5,.n 65 61 (.ixAddr 3 (.t 63) (.t 64)),.nf 66 61 1 65,.nl 67 61 66,.nb 68 61 .lss 3 67 1,.p 69 61 68,.m 70 69,.nf 71 70 1 1,.nl 72 70 71,.mn 73 70 5,.n 74 70 (.ixAddr 3 (.t 72) (.t 73)),.nf 75 70 1 74,.nl 76 70 75,.nb 77 70 .gtr 3 76 3,.p 78 70 77] (.cond (.t 78) (.q [.K 2 0,.K 3 2] .ret) .skip))) (.ops [.m 52 5,.b 53 .add 3 52 1,.m 5 53])))))) (.q [.f 79 0 1,.l 80 79,.z 81 (.mkSl 1 [(.bool false)] (.t 80) (.t 80)),.m 6 81] (.q [.e 7] (.seq (.q [.K 8 0] (.block 4 (.loop (.seq (.q [.m 82 8,.f 83 2 1,.l 84 83,.s 85 84,.c 86 .lss 3 82 85] (.cond (.t 86) .skip (.exit 4))) (.seq (.block 5 (.q [.f 89 2 1,.l 90 89,.m 91 8,.I 92 8 90 91,.L 93 8 92,.z 9 (.alloc [(.i 0),(.i 0),(.i 0),(.i 0),(.i 0),(.i 0),(.i 0),(.u 0)]),.S 8 9 93] (.seq (.q [.L 94 3 1,.L 95 8 9,.W 96 137 94 95,.z 97 (.un .not (.t 96))] (.cond (.t 97) (.q [.m 98 8,.m 2 98,.K 3 2] .ret) .skip)) (.seq (.q [.f 99 0 9,.l 100 99,.b 101 .eql 3 100 17] (.cond (.t 101) (.seq (.q [.m 102 7,.s 103 102,.b 104 .eql 3 103 0] (.cond (.t 104) (.q [.m 105 8,.m 2 105,.K 3 9] .ret) .skip)) (.q [.m 106 6,.m 107 7,.m 108 7,.s 109 108,.b 110 .sub 3 109 1,.I 111 1 107 110,.l 112 111,.I 113 1 106 112,.v (.store 1 (.t 113) .F)] (.q [.m 114 7,.m 115 7,.s 116 115,.b 117 .sub 3 116 1,.z 118 (.slSl 1 (.t 114) none (some (.t 117))),.m 7 118] (.exit 5)))) .skip)) (.seq (.draw [(.L 119 8 9,[]),(.L 121 8 9,[]),(.w 120 138 119,[(.L 121 8 9,false)]),(.w 122 139 121,[]),(.m 10 120,[]),(.m 11 122,[])]) (.seq (.q [.K 12 0] (.block 6 (.loop (.seq (.q [.m 123 12,.m 124 10,.s 125 124,.c 126 .lss 3 123 125] (.cond (.t 126) .skip (.exit 6))) (.seq (.block 7 (.q [.m 129 7,.m 130 10,.m 131 12,.I 132 1 130 131,.l 133 132,.W 134 140 129 133] (.cond (.t 134) (.q [.m 135 8,.m 2 135,.K 3 9] .ret) .skip))) (.ops [.m 127 12,.b 128 .add 3 127 1,.m 12 128])))))) (.seq (.q [.f 136 0 9,.l 137 136,.b 138 .eql 3 137 16,.m 139 138,.my 140 139 6,.yf 141 139 1 9,.yl 142 139 141,.y 143 139 (.ixAddr 1 (.t 140) (.t 142)),.yl 144 139 143,.q 145 139 144] (.cond (.t 145) (.q [.m 146 8,.m 2 146,.K 3 9] .ret) .skip)) (.seq (.q [.f 147 0 9,.l 148 147,.b 149 .eql 3 148 16,.m 150 149,.my 151 150 7,.y 152 150 (.lenSl (.t 151)),.y 153 150 (.bin .eql true 3 (.t 152) (.k 8)),.q 154 150 153] (.cond (.t 154) (.q [.m 155 8,.m 2 155,.K 3 10] .ret) .skip)) (.seq (.q [.K 13 0] (.block 8 (.loop (.seq (.q [.m 156 13,.m 157 11,.s 158 157,.c 159 .lss 3 156 158] (.cond (.t 159) .skip (.exit 8))) (.seq (.block 9 (.q [.m 162 6,.m 163 11,.m 164 13,.I 165 1 163 164,.l 166 165,.I 167 1 162 166,.l 168 167,.z 169 (.un .not (.t 168))] (.cond (.t 169) (.q [.m 170 8,.m 2 170,.K 3 5] .ret) .skip))) (.ops [.m 160 13,.b 161 .add 3 160 1,.m 13 161])))))) (.seq (.q [.K 14 0] (.block 10 (.loop (.seq (.q [.m 171 14,.m 172 10,.s 173 172,.c 174 .lss 3 171 173] (.cond (.t 174) .skip (.exit 10))) (.seq (.block 11 (.ops [.m 177 6,.m 178 10,.m 179 14,.I 180 1 178 179,.l 181 180,.I 182 1 177 181,.v (.store 1 (.t 182) .T)])) (.ops [.m 175 14,.b 176 .add 3 175 1,.m 14 176])))))) (.q [.f 183 0 9,.l 184 183,.b 185 .eql 3 184 16] (.cond (.t 185) (.ops [.m 186 7,.f 187 1 9,.l 188 187,.z 189 (.buildSl 1 1 [(.i 0)] [(0,1,.t 188)]),.a 190 1 186 189,.m 7 190]) .skip)))))))))))) (.ops [.m 87 8,.b 88 .add 3 87 1,.m 8 88])))))) (.seq (.q [.m 191 7,.s 192 191,.b 193 .gtr 3 192 0] (.cond (.t 193) (.q [.f 194 2 1,.l 195 194,.s 196 195,.m 2 196,.K 3 9] .ret) .skip)) (.q [.f 197 2 1,.l 198 197,.s 199 198,.m 2 199,.K 3 0] .ret))))))))))
def r_ref12_Check:Mt Tryz.prog 100=some ⟨200,yu.r,[.tmp 2,.tmp 3]⟩:=Aa
def zi8{m:List Bool}{l:List Int}(h:∀x∈l,Sd m x=true):(l.any λr=>!Sd m r)=false:=by
 rw[Md];intro x g;simp[h x g]
def zlu{m:List Bool}{l:List Int}{x:Int}(g:x∈l)(h:Sd m x=false):(l.any λr=>!Sd m r)=true:=by
 rw[Jh];exact⟨x,g,Cq⟩
def w9{l:List Int}(h:g<l.length):l.take (g+1)=l.take g++[gd l g]:=by
 rw[I8 h];simp[gd,Hr,h]
def xu{l:List Int}(h:g<l.length):gd l g∈l:=by
 simp[gd,Hr,h]
def zm7{j:List Bf}{o:Lo}(h:du z j o=true):(∀x∈Qz o,0≤x∧x<z)∧(∀x∈Ov o,0≤x∧x<z)∧(o.kind=16→0≤o.d∧o.d<z):=by
 unfold du at h;simp only[Hh,Ht]at h;obtain⟨⟨p,A⟩,d,e,a,b,c,_⟩:=h;have f1:∀x,Sz z x true=true→0≤x∧x<z:=λx h=>by
  unfold Sz at h;simpa using h
 rcases ze1 o.kind with h|h|h|h|h|h|h|h|h|h|h|h|h|h|h|h|h|h|h
 case inl=>omega
 case inr.inr.inr.inr.inr.inr.inr.inr.inr.inr.inr.inr.inr.inr.inr.inr.inr.inr=>omega
 case inr.inr.inr.inr.inr.inr.inr.inr.inr.inr.inr.inr.inr.inr.inl|inr.inr.inr.inr.inr.inr.inr.inr.inr.inr.inr.inr.inr.inr.inr.inl =>
  simp[h,Ye,Up,Yd,yo,xe,Ux,Sz]at d e a b c;by_cases g:o.a=-1<;>simp[g]at a<;>simp[Qz,Ov,h,g]<;>omega
 all_goals
  simp[h,Ye,Up,Yd,yo,xe,Ux,Sz]at d e a b c;simp[Qz,Ov,h]
  try omega
def zrm(o:Lo):(Ov o).length≤2:=by
 unfold Ov;repeat' split
 all_goals simp
def zsd(o:Lo):(Qz o).length≤3:=by
 unfold Qz;repeat' split
 all_goals simp
def zi2(L:Int)(A:List Bf)(T:List Lo):Mo 100 [.agg (Pn L A T)] (.tup [.i (Td L A T).1,.i (Td L A T).2]) []:=by
 refine Ni.val rfl (Mq r_ref12_Check Aa U ?_);by_cases g1:64<L
 ·simp[yu,Pn,Td,g1]
 by_cases g2:32<A.length
 ·have jA:(32:Int)<A.length:=J
  simp[yu,Pn,Td,g1,g2,jA]
 have jA:¬(32:Int)<A.length:=J
 by_cases g3:65536<T.length
 ·have jH:(65536:Int)<T.length:=J
  simp[yu,Pn,Td,g1,g2,jA,g3,jH]
 have jH:¬(65536:Int)<T.length:=J
 obtain⟨pC,B⟩:∃pC,Td L A T=pC:=⟨_,rfl⟩;rw[B];unfold Td at B;rw[Hq J]at B;simp[yu,Pn,g1,g2,jA,g3,jH];refine M2 (λK gT gD N=>∃i:Nat,gT=[]∧gD=[.cells (Pn L A T) 0]∧N+i=A.length∧lk K 1=.ptr 0 0∧lk K 4=.i i∧∀M,M<i→¬65536<(My A M).size) (N:=A.length) ⟨0,rfl,E5,J,U,U,λM h=>J⟩ ?_;rintro N K gT gD ⟨i,rfl,rfl,hN,p,h4,P⟩ Nx gI;by_cases gS:i<A.length
 ·have q0:=sx (Qp gS);have hm:My A i∈A:=Im (Qp gS);by_cases e:65536<(My A i).size
  ·have X:(A.any λb=>decide (65536<b.size))=true:=Jh.2 ⟨_,hm,C8⟩;rw[Hs X]at B;subst B;simp[p,h4,Pn,gS,Mi q0,e]
  ·simp[p,h4,Pn,gS,Mi q0,e];refine⟨J,gI _ _ _ ⟨N-1,J,i+1,rfl,E5,J,Ae,U,λM hj=>?_⟩⟩;by_cases q:M=i
   ·rw[q];exact e
   ·exact P M J
 have X:¬(A.any λb=>decide (65536<b.size))=true:=by
  rw[Jh];rintro⟨b,hb,h⟩;obtain⟨M,hj,rfl⟩:=Jv.1 hb;have:=P M J;have h2:=Qp hj;rw[Hj hj]at h2;rw[←Option.some.inj h2]at this;exact this Ay
 rw[Hq X]at B;clear X P;by_cases g4:L<0
 ·rw[Hs g4]at B;subst B;simp[p,h4,Pn,gS,g4]
 rw[Hq g4]at B;have e0:¬i<A.length:=gS;simp[p,h4,Pn,e0,g4];refine M2 (λK gT gD N=>∃i:Nat,gT=[]∧gD=[.cells (Pn L A T) 0]∧N+i=A.length∧lk K 1=.ptr 0 0∧lk K 5=.i i∧∀M,M<i→¬((My A M).size<1∨(My A M).kind<1∨3<(My A M).kind)) (N:=A.length) ⟨0,rfl,E5,J,Ae,U,λM h=>J⟩ ?_;clear p h4 hN gI Nx K N e0 gS;rintro N K gT gD ⟨i,rfl,rfl,hN,p,h5,P⟩ Nx gI;by_cases gS:i<A.length
 ·have q0:=sx (Qp gS);have q1:=sf (Qp gS);have hm:My A i∈A:=Im (Qp gS);have jI:((My A i).size<1∨(My A i).kind<1∨3<(My A i).kind)→pC=(0,2):=λe=>by
   have X:(A.any λb=>decide (b.size<1) || (decide (b.kind<1) || decide (3<b.kind)))=true:=Jh.2 ⟨_,hm,C8⟩;rw[Hs X]at B;exact B.symm
  by_cases e1:(My A i).size<1
  ·rw[jI (.inl e1)];simp[p,h5,Pn,gS,Mi q0,Mi q1,e1]
  by_cases e2:(My A i).kind<1
  ·rw[jI (.inr (.inl e2))];simp[p,h5,Pn,gS,Mi q0,Mi q1,e1,e2]
  by_cases e3:3<(My A i).kind
  ·rw[jI (.inr (.inr e3))];simp[p,h5,Pn,gS,Mi q0,Mi q1,e1,e2,e3]
  simp[p,h5,Pn,gS,Mi q0,Mi q1,e1,e2,e3];refine⟨J,gI _ _ _ ⟨N-1,J,i+1,rfl,E5,J,Ae,U,λM hj=>?_⟩⟩;by_cases q:M=i
  ·rw[q];omega
  ·exact P M J
 have X:¬(A.any λb=>decide (b.size<1) || (decide (b.kind<1) || decide (3<b.kind)))=true:=by
  rw[Jh];rintro⟨b,hb,h⟩;obtain⟨M,hj,rfl⟩:=Jv.1 hb;have:=P M J;have h2:=Qp hj;rw[Hj hj]at h2;rw[←Option.some.inj h2]at this;exact this Ay
 rw[Hq X]at B;clear X P;obtain⟨r,rfl⟩:=Hx (J:0≤L);have pA:r≤64:=J
 simp[p,h5,Pn,gS];refine⟨J,?_⟩;refine M2 (λK gT gD N=>∃(i st:Nat) (m:List Bool) (C:List Int) (v:LV),gT=[]∧N+i=T.length∧lk K 1=.ptr 0 0∧lk K 6=.dy 1 0∧lk K 7=v∧lk K 8=.i i∧gD[0]?=some (.cells (Pn r A T) 0)∧gD[1]?=some (.dyn (m.map .bool) r 1 0 st)∧m.length=r∧M4 2 gD v 1 C.length (C.map .i)∧2≤gD.length ∧
   (∀x∈C,0≤x∧x<r)∧C.length≤8∧xg r A i m C (T.drop i)=pC) (N:=T.length)
  ⟨0,0,List.replicate r false,[],.nilSl,rfl,J,Ae,U,U,U,E5,by simp[x4],U,M4.nil,U,U,U,D6⟩ ?_
 clear p h5 hN gI Nx K N B gS;rintro N K gT gD ⟨i,st,m,C,v,rfl,hN,p,E,I,D,gK,jZ,gL,jK,pD,jB,jP,B⟩ Nx gI;by_cases gS:i<T.length
 case neg =>
  rw[Il J]at B;unfold xg at B;by_cases hn:C=[]
  ·rw[Hs hn]at B;subst B hn;simp[p,D,gK,Pn,gS,I];refine jK.lenL ?_;simp[p,gK,Pn];omega
  ·rw[Hq hn]at B;subst B;have P:0<(C.length:Int):=by
    have:=List.length_pos_iff.2 hn;omega
   simp[p,D,gK,Pn,gS,I];refine jK.lenL ?_;simp[P,p,gK,Pn];exact⟨λ_=>J,hn⟩
 have ho:=Zz gS;rw[Y0 gS]at B;unfold xg at B;have j3:=Yx ho;have j4:=zd gS;generalize glo T i=o at *;have hC:o.f=[.i o.kind,.i o.d,.i o.e,.i o.a,.i o.b,.i o.c,.i o.buf,.u o.imm]:=rfl;have l0:0<gD.length:=J
 have l1:1<gD.length:=J
 have p0:∀x:List LObj,(gD++x)[0]?=some _:=λx=>(Mn l0).trans gK
 simp[p,D,gK,Pn,gS,j3,j4,hC,↓p0];have jQ:=zfc r A T o;rw[Pn,hC]at jQ;refine Mv jQ (bors_self _ (by simp[dats,LV.dat,Wu,zkr])) ?_;cases hf:du r A o with
 |false =>
  have j5:(Wa r A m C o)=(2,m,C):=by unfold Wa;rw[Hs hf]
  rw[j5]at B;simp at B;subst B;simp[D]
 |true =>
 obtain⟨jR,jS,jT⟩:=zm7 hf;have pE:T.length≤65536:=J
 have gM:∀(l:List LV) (i:Nat) (x:LV),i<l.length→M5 l i [x]=l.set i x:=λl i x h=>by
  rw[I5,Hs h];simp[M5]
 have next:∀(ρ':Ml) (G':Mh) (m':List Bool) (F:List Int) (v':LV) (jL:Nat),Wa r A m C o=(0,m',F)→lk ρ' 1=.ptr 0 0→lk ρ' 6=.dy 1 0→lk ρ' 7=v'→lk ρ' 8=.i ((i:Int)+1)→G'[0]?=some (.cells (Pn r A T) 0)→G'[1]?=some (.dyn (m'.map .bool) r 1 0 jL)→m'.length=r→M4 2 G' v' 1 F.length (F.map .i)→2≤G'.length→(∀x∈F,0≤x∧x<(r:Int))→F.length≤8→Nx ρ' [] G':=by
  intro ρ' G' m' F v' jL hs a1 a6 a7 a8 b0 b1 b2 b3 b4 b5 b6;rw[hs]at B;exact gI _ _ _ ⟨N-1,J,i+1,jL,m',F,v',rfl,J,a1,a6,a7,by rw[a8];simp,b0,b1,b2,b3,b4,b5,b6,D6⟩
 have q0:∀x:List LObj,(gD++x)[0]?=some (.cells (Pn r A T) 0):=λx=>(Mn l0).trans gK
 have q1:∀x:List LObj,(gD++x)[1]?=some (.dyn (m.map .bool) r 1 0 st):=λx=>(Mn l1).trans jZ
 have gE:∀x,M4 2 (gD++x) v 1 C.length (C.map .i):=λx=>jK.push_end
 by_cases gV:o.kind=17
 ·have jC:C=[]→Wa r A m C o=(9,m,C):=λe=>by
   unfold Wa;rw[Hq (by rw[hf];decide),Hs gV,e];rfl
  have jD:∀l' d,C=l'++[d]→Wa r A m C o=(0,m.set d.toNat false,l'):=λl' d e=>by
   unfold Wa;rw[Hq (by rw[hf];decide),Hs gV,e];simp
  simp[gV,I];refine (gE _).lenL ?_;by_cases hn:C=[]
  ·rw[jC hn]at B;subst hn;simp at B;subst B;simp[D]
  ·obtain⟨F,d,rfl⟩:∃F d,C=F++[d]:=⟨C.dropLast,C.getLast hn,(List.dropLast_concat_getLast hn).symm⟩;obtain⟨d0,dr⟩:=jB d U;obtain⟨dn,rfl⟩:=Hx d0;have gZ:dn<r:=J
   have j6:F.length≤8:=by simp at jP;omega
   have g:=jD F dn rfl;simp only[Io]at g;simp;refine (gE _).lenL ?_;simp;refine⟨J,(gE _).at1 J Ab λa X=>?_⟩;simp;refine X _ ?_;have e1:M5 (m.map LV.bool) dn [.bool false]=(m.set dn false).map LV.bool:=by
    rw[gM _ _ _ Ab,It]
   have hx:(List.map LV.i F++[LV.i (dn:Int)])[F.length]?=some (.i (dn:Int)):=by
    rw[H5 U];simp
   have jF:∀(x:List LObj) (ob:LObj),M4 2 ((gD++x).set 1 ob) v 1 (F++[(dn:Int)]).length ((F++[(dn:Int)]).map .i):=λx ob=>(gE x).set_lt J
   rw[Iz,List.map_singleton];simp only[Io];refine⟨_,hx,?_⟩;simp[E,↓q1,gZ,gL,e1,I];refine⟨J,(jF _ _).lenL ?_⟩;simp;refine⟨J,(jF _ _).cut (m:=F.length) U (λK' k'=>k') (λd K' k'=>⟨J,k'⟩) λv' jV=>?_⟩;simp[D];rw[Iz,J1 U]at jV;refine⟨J,next _ _ (m.set dn false) F v' (st+1) g Ae Av U U ?_ ?_ (by simpa using gL) jV Ab (λx hx=>jB x (by simp[hx])) j6⟩
   ·rw[Hg J];exact q0 _
   ·rw[←It];exact Hi Ab
 have g:Wa r A m C o=(if (Ov o).any (λr=>C.contains r)=true then (9,m,C)
   else if o.kind=16∧Sd m o.d=true then (9,m,C)
   else if o.kind=16∧C.length=8 then (10,m,C)
   else if (Qz o).any (λr=>!Sd m r)=true then (5,m,C)
   else (0,(Ov o).foldl (λm r=>m.set r.toNat true) m,if o.kind=16 then C++[o.d] else C)):=by
  unfold Wa;rw[Hq (by rw[hf];decide),Hq gV]
 simp[gV];refine R8 (zhg o) (by simp[dats,LV.dat]) ?_;simp;refine R8 (zi6 o) (by simp[dats,LV.dat]) ?_;simp;have jM:=q0 [.cells o.f 1];have Y:=q1 [.cells o.f 1];have gO:(gD++[LObj.cells o.f 1])[gD.length]?=some (.cells o.f 1):=Iq;have g8:=gE [.cells o.f 1];have j7:(gD++[LObj.cells o.f 1]).length=gD.length+1:=U
 rw[hC]at jM Y gO g8 j7;generalize gD++[LObj.cells [.i o.kind,.i o.d,.i o.e,.i o.a,.i o.b,.i o.c,.i o.buf,.u o.imm] 1]=G1 at *;generalize gD.length=jY at *;have pF:=zrm o;have pG:=zsd o;have pH:=hC ▸ gO;refine M2 (λK gT gD N=>∃M:Nat,gT=[]∧N+M=(Ov o).length∧lk K 1=.ptr 0 0∧lk K 6=.dy 1 0∧lk K 7=v∧lk K 8=.i i∧lk K 9=.ptr jY 0∧lk K 10=.lst ((Ov o).map .i) (Ov o).length 1∧lk K 11=.lst ((Qz o).map .i) (Qz o).length 1∧lk K 12=.i M∧gD=G1∧∀x∈(Ov o).take M,¬x∈C) (N:=(Ov o).length)
  ⟨0,rfl,J,Ae,Av,Ax,Ai,U,U,U,U,rfl,U⟩ ?_
 clear p E I D;rintro N2 K gT G2 ⟨M,rfl,pI,p,E,I,D,Q,j,G,gP,rfl,P⟩ pK jG;by_cases V:M<(Ov o).length
 ·have hg:=Pf (f:=LV.i) (Po V);have ht:=w9 V;have H:=xu V;generalize gd (Ov o) M=x at *;simp[I,j,gP,V,Mi hg];refine Mv (znn C x J) ⟨_,_,rfl,g8.bor,U⟩ ?_;by_cases hx:x∈C
  ·have X:((Ov o).any λr=>C.contains r)=true:=Jh.2 ⟨x,H,by simpa using hx⟩;rw[g,Hs X]at B;simp at B;subst B;simp[hx,D]
  ·simp[hx,gP];refine⟨J,jG _ _ _ ⟨N2-1,J,M+1,rfl,J,Ae,Av,Ax,Ai,A9,As,A3,U,rfl,λy R=>?_⟩⟩;rw[ht]at R;rcases Ib.1 R with R|R
   ·exact P y R
   ·simp at R;rw[R];exact hx
 rw[Hz J]at P;have X:¬((Ov o).any λr=>C.contains r)=true:=by
  rw[Jh];rintro⟨x,hx,h⟩;exact P x hx Ay
 rw[Hq X]at g;clear X P jG;by_cases O:o.kind=16
 ·obtain⟨d0,dr⟩:=jT O;obtain⟨dn,gZ⟩:=Hx d0;have jN:dn<r:=J
  have jE:(m.map LV.bool)[dn]?=some (.bool (Sd m o.d)):=by
   simp[Sd,gZ,gL,jN]
  cases Z:Sd m o.d with
  |true =>
   rw[Z]at jE;rw[g,Hs (show o.kind=16∧Sd m o.d=true from ⟨O,Z⟩)]at B;simp at B;subst B;simp[E,D,Q,j,gP,V,gO,O,gZ,jN,Y,Mi jE]
  |false =>
  rw[Z]at jE;rw[Hq (show ¬(o.kind=16∧Sd m o.d=true) by rw[Z];simp)]at g;simp[E,D,Q,j,gP,V,gO,O,gZ,jN,Y,Mi jE,I];refine g8.lenL ?_;by_cases l8:C.length=8
  ·rw[g,Hs (show o.kind=16∧C.length=8 from ⟨O,l8⟩)]at B;simp at B;subst B;simp[l8,D]
  rw[Hq (show ¬(o.kind=16∧C.length=8) from λq=>l8 q.2)]at g;refine⟨λq=>absurd q J,λ_=>?_⟩;rw[Hs O]at g;refine M2 (λK gT gD N=>∃M:Nat,gT=[]∧N+M=(Qz o).length∧lk K 1=.ptr 0 0∧lk K 6=.dy 1 0∧lk K 7=v∧lk K 8=.i i∧lk K 9=.ptr jY 0∧lk K 10=.lst ((Ov o).map .i) (Ov o).length 1∧lk K 11=.lst ((Qz o).map .i) (Qz o).length 1∧lk K 13=.i M∧gD=G2∧∀x∈(Qz o).take M,Sd m x=true) (N:=(Qz o).length)
   ⟨0,rfl,J,Ae,Av,Ax,Ai,A9,As,A3,U,rfl,U⟩ ?_
  clear p E I D Q j G gP;rintro N3 K gT G3 ⟨M,rfl,j8,p,E,I,D,Q,j,G,gg,rfl,P⟩ j9 gF;by_cases V:M<(Qz o).length
  ·have hg:=Pf (f:=LV.i) (Po V);have ht:=w9 V;have H:=xu V;generalize gd (Qz o) M=x at *;obtain⟨x0,xr⟩:=jR x H;obtain⟨xn,rfl⟩:=Hx x0;have S:xn<r:=J
   have gA:(m.map LV.bool)[xn]?=some (.bool (Sd m (xn:Int))):=by simp[Sd,gL,S]
   cases z:Sd m (xn:Int) with
   |false =>
    have X:=zlu H z;rw[g,Hs X]at B;simp at B;subst B;rw[z]at gA;simp[E,D,G,gg,V,Mi hg,Y,S,Mi gA]
   |true =>
    rw[z]at gA;simp[E,D,G,gg,V,Mi hg,Y,S,Mi gA];refine⟨J,gF _ _ _ ⟨N3-1,J,M+1,rfl,J,Ae,Av,Ax,Ai,A9,As,A3,U,rfl,λy R=>?_⟩⟩;rw[ht]at R;rcases Ib.1 R with R|R
    ·exact P y R
    ·simp at R;rw[R];exact z
  rw[Hz J]at P;rw[Hq (by rw[zi8 P];simp)]at g;clear gF P;simp[p,E,I,D,Q,j,G,gg,V];refine M2 (λK gT gD N=>∃(M gB:Nat) (m2:List Bool),gT=[]∧N+M=(Ov o).length∧lk K 1=.ptr 0 0∧lk K 6=.dy 1 0∧lk K 7=v∧lk K 8=.i i∧lk K 9=.ptr jY 0∧lk K 10=.lst ((Ov o).map .i) (Ov o).length 1∧lk K 14=.i M∧gD.length=G3.length∧(∀q,q≠1→gD[q]?=G3[q]?)∧gD[1]?=some (.dyn (m2.map .bool) r 1 0 gB)∧m2.length=r∧m2=((Ov o).take M).foldl (λm r=>m.set r.toNat true) m) (N:=(Ov o).length)
   ⟨0,st,m,rfl,J,Ae,Av,Ax,Ai,A9,As,U,rfl,λ_ _=>rfl,Y,gL,U⟩ ?_
  clear p E I D Q j G gg;rintro N4 K gT G4 ⟨M,gB,m2,rfl,pg,p,E,I,D,Q,j,g9,jO,gC,gG,gQ,gR⟩ pj gH;by_cases gk:M<(Ov o).length
  ·have hg:=Pf (f:=LV.i) (Po gk);have ht:=w9 gk;have H:=xu gk;generalize gd (Ov o) M=x at *;obtain⟨x0,xr⟩:=jS x H;obtain⟨xn,rfl⟩:=Hx x0;have S:xn<r:=J
   have e1:M5 (m2.map LV.bool) xn [.bool true]=(m2.set xn true).map LV.bool:=by
    rw[gM _ _ _ Ab,It]
   simp[E,j,g9,gk,Mi hg,gG,S,gQ,e1];refine⟨J,J,gH _ _ _ ⟨N4-1,J,M+1,gB+1,m2.set xn true,rfl,J,Ae,Av,Ax,Ai,A9,As,U,by simp[jO],λq hq=>?_,?_,by simp[gQ],?_⟩⟩
   ·rw[Hg (Ne.symm hq)];exact gC q hq
   ·rw[←It];exact Hi (by have:=(Hf.1 gG).1;exact this)
   ·rw[ht,List.foldl_append,←gR];simp
  rw[Hz J]at gR;have jg:M4 2 G4 v 1 C.length (C.map .i):=g8.frame λq h _=>gC q J
  have jp:G4[0]?=some (.cells (Pn r A T) 0):=(gC 0 J).trans jM;have jz:G4[jY]?=_:=(gC jY J).trans gO;rw[←gR]at g;clear gH;simp[p,E,I,D,Q,j,g9,gk,jz,O];refine M4.push (x:=[.i o.d]) jg.push_end J Ab J rfl rfl λv' G5 pp jX pz _=>?_
  simp[D];have pB:=(Hf.1 gG).1;refine⟨J,next _ _ m2 (C++[o.d]) v' gB g Ae Av U U ?_ ?_ gQ (by simpa using pp) (by simp at pz;omega) (λx hx=>?_) Ab⟩
  ·rw[jX 0 J,Mn J];exact jp
  ·rw[jX 1 J,Mn J];exact gG
  ·rcases Ib.1 hx with hx|hx
   ·exact jB x hx
   ·simp at hx;rw[hx];exact jT O
 rw[Hq (show ¬(o.kind=16∧Sd m o.d=true) from λq=>O q.1),Hq (show ¬(o.kind=16∧C.length=8) from λq=>O q.1),Hq O]at g;simp[p,E,I,D,Q,j,G,gP,V,gO,O];refine M2 (λK gT gD N=>∃M:Nat,gT=[]∧N+M=(Qz o).length∧lk K 1=.ptr 0 0∧lk K 6=.dy 1 0∧lk K 7=v∧lk K 8=.i i∧lk K 9=.ptr jY 0∧lk K 10=.lst ((Ov o).map .i) (Ov o).length 1∧lk K 11=.lst ((Qz o).map .i) (Qz o).length 1∧lk K 13=.i M∧gD=G2∧∀x∈(Qz o).take M,Sd m x=true) (N:=(Qz o).length)
  ⟨0,rfl,J,Ae,Av,Ax,Ai,A9,As,A3,U,rfl,U⟩ ?_
 clear p E I D Q j G gP;rintro N3 K gT G3 ⟨M,rfl,j8,p,E,I,D,Q,j,G,gg,rfl,P⟩ j9 gF;by_cases V:M<(Qz o).length
 ·have hg:=Pf (f:=LV.i) (Po V);have ht:=w9 V;have H:=xu V;generalize gd (Qz o) M=x at *;obtain⟨x0,xr⟩:=jR x H;obtain⟨xn,rfl⟩:=Hx x0;have S:xn<r:=J
  have gA:(m.map LV.bool)[xn]?=some (.bool (Sd m (xn:Int))):=by simp[Sd,gL,S]
  cases z:Sd m (xn:Int) with
  |false =>
   have X:=zlu H z;rw[g,Hs X]at B;simp at B;subst B;rw[z]at gA;simp[E,D,G,gg,V,Mi hg,Y,S,Mi gA]
  |true =>
   rw[z]at gA;simp[E,D,G,gg,V,Mi hg,Y,S,Mi gA];refine⟨J,gF _ _ _ ⟨N3-1,J,M+1,rfl,J,Ae,Av,Ax,Ai,A9,As,A3,U,rfl,λy R=>?_⟩⟩;rw[ht]at R;rcases Ib.1 R with R|R
   ·exact P y R
   ·simp at R;rw[R];exact z
 rw[Hz J]at P;rw[Hq (by rw[zi8 P];simp)]at g;clear gF P;simp[p,E,I,D,Q,j,G,gg,V];refine M2 (λK gT gD N=>∃(M gB:Nat) (m2:List Bool),gT=[]∧N+M=(Ov o).length∧lk K 1=.ptr 0 0∧lk K 6=.dy 1 0∧lk K 7=v∧lk K 8=.i i∧lk K 9=.ptr jY 0∧lk K 10=.lst ((Ov o).map .i) (Ov o).length 1∧lk K 14=.i M∧gD.length=G3.length∧(∀q,q≠1→gD[q]?=G3[q]?)∧gD[1]?=some (.dyn (m2.map .bool) r 1 0 gB)∧m2.length=r∧m2=((Ov o).take M).foldl (λm r=>m.set r.toNat true) m) (N:=(Ov o).length)
  ⟨0,st,m,rfl,J,Ae,Av,Ax,Ai,A9,As,U,rfl,λ_ _=>rfl,Y,gL,U⟩ ?_
 clear p E I D Q j G gg;rintro N4 K gT G4 ⟨M,gB,m2,rfl,pg,p,E,I,D,Q,j,g9,jO,gC,gG,gQ,gR⟩ pj gH;by_cases gk:M<(Ov o).length
 ·have hg:=Pf (f:=LV.i) (Po gk);have ht:=w9 gk;have H:=xu gk;generalize gd (Ov o) M=x at *;obtain⟨x0,xr⟩:=jS x H;obtain⟨xn,rfl⟩:=Hx x0;have S:xn<r:=J
  have e1:M5 (m2.map LV.bool) xn [.bool true]=(m2.set xn true).map LV.bool:=by
   rw[gM _ _ _ Ab,It]
  simp[E,j,g9,gk,Mi hg,gG,S,gQ,e1];refine⟨J,J,gH _ _ _ ⟨N4-1,J,M+1,gB+1,m2.set xn true,rfl,J,Ae,Av,Ax,Ai,A9,As,U,by simp[jO],λq hq=>?_,?_,by simp[gQ],?_⟩⟩
  ·rw[Hg (Ne.symm hq)];exact gC q hq
  ·rw[←It];exact Hi (by have:=(Hf.1 gG).1;exact this)
  ·rw[ht,List.foldl_append,←gR];simp
 rw[Hz J]at gR;have jg:M4 2 G4 v 1 C.length (C.map .i):=g8.frame λq h _=>gC q J
 have jp:G4[0]?=some (.cells (Pn r A T) 0):=(gC 0 J).trans jM;have jz:G4[jY]?=_:=(gC jY J).trans gO;rw[←gR]at g;clear gH;simp[p,E,I,D,Q,j,g9,gk,jz,O];refine⟨J,next _ _ m2 C v gB g Ae Av Ax U jp gG gQ jg J jB jP⟩
def zao:LC:=(.q [.F 2] (.q [.K 3 0] (.seq (.q [.K 4 0] (.block 0 (.loop (.seq (.q [.m 6 4,.m 7 0,.s 8 7,.c 9 .lss 3 6 8] (.cond (.t 9) .skip (.exit 0))) (.seq (.block 1 (.q [.m 12 0,.m 13 4,.I 14 3 12 13,.L 15 3 14,.z 5 (.alloc [(.i 0),(.bool false),(.i 0)]),.S 3 5 15] (.seq (.q [.f 16 0 5,.l 17 16,.b 18 .lss 3 17 1,.m 19 18,.nf 20 19 0 5,.nl 21 19 20,.nb 22 19 .gtr 3 21 512,.p 23 19 22,.m 24 23,.nf 25 24 2 5,.nl 26 24 25,.nb 27 24 .lss 3 26 0,.p 28 24 27,.m 29 28,.nf 30 29 2 5,.nl 31 29 30,.nb 32 29 .gtr 3 31 3,.p 33 29 32,.m 34 33,.nf 35 34 2 5,.nl 36 34 35,.nb 37 34 .gtr 3 36 0,.mn 38 34 37,.my 39 38 3,.my 40 38 4,.y 41 38 (.bin .lss false 3 (.t 39) (.t 40)),.n 42 34 (.pick (.t 38) (.t 41) .F),.p 43 34 42,.m 44 43,.nf 45 44 2 5,.nl 46 44 45,.nb 47 44 .eql 3 46 1,.mn 48 44 47,.yf 49 48 1 5,.yl 50 48 49,.n 51 44 (.pick (.t 48) (.t 50) .F),.p 52 44 51,.m 53 52,.nf 54 53 2 5,.nl 55 53 54,.nb 56 53 .gtr 3 55 1,.mn 57 53 56,.yf 58 57 1 5,.yl 59 57 58,.y 60 57 (.un .not (.t 59)),.n 61 53 (.pick (.t 57) (.t 60) .F),.p 62 53 61] (.cond (.t 62) (.q [.F 2] .ret) .skip)) (.q [.f 63 2 5,.l 64 63,.b 65 .gtr 3 64 0] (.cond (.t 65) (.ops [.m 66 3,.b 67 .add 3 66 1,.m 3 67]) .skip))))) (.ops [.m 10 4,.b 11 .add 3 10 1,.m 4 11])))))) (.q [.m 68 0,.s 69 68,.b 70 .geq 3 69 1,.m 71 70,.my 72 71 0,.y 73 71 (.lenSl (.t 72)),.y 74 71 (.bin .leq true 3 (.t 73) (.k 256)),.q 75 71 74,.m 76 75,.my 77 76 3,.y 78 76 (.bin .leq true 3 (.t 77) (.k 12)),.q 79 76 78,.m 2 79] .ret))))
def r_ref22_varsMay:Mt Tryz.prog 99=some ⟨80,zao.r,[.tmp 2]⟩:=Aa
def lc:LC:=(.q [.x 2 0,.x 3 1,.F 4] (.seq (.draw [(.f 5 0 3,[]),(.l 6 5,[]),(.b 7 .geq 3 6 0,[]),(.m 8 7,[]),(.yf 9 8 0 3,[]),(.yl 10 8 9,[]),(.yf 11 8 0 2,[]),(.yl 12 8 11,[]),(.y 13 8 (.lenSl (.t 12)),[]),(.y 14 8 (.bin .lss false 3 (.t 10) (.t 13)),[]),(.q 15 8 14,[]),(.m 16 15,[]),(.yf 17 16 2 3,[]),(.yl 18 16 17,[]),(.y 19 16 (.bin .geq true 3 (.t 18) (.k 1)),[]),(.q 20 16 19,[]),(.m 21 20,[]),(.yf 22 21 2 3,[]),(.yl 23 21 22,[]),(.y 24 21 (.bin .leq true 3 (.t 23) (.k 32768)),[]),(.q 25 21 24,[]),(.m 26 25,[]),(.yf 27 26 1 3,[]),(.yl 28 26 27,[]),(.y 29 26 (.bin .geq true 3 (.t 28) (.k 0)),[]),(.q 30 26 29,[]),(.m 31 30,[]),(.yf 32 31 1 3,[]),(.yl 33 31 32,[]),(.yf 34 31 0 2,[]),(.yl 35 31 34,[]),(.yf 36 31 0 3,[]),(.yl 37 31 36,[]),(.y 38 31 (.ixAddr 3 (.t 35) (.t 37)),[]),(.yf 39 31 0 38,[]),(.yl 40 31 39,[]),(.y 41 31 (.bin .leq false 3 (.t 33) (.t 40)),[]),(.q 42 31 41,[]),(.m 43 42,[]),(.yf 44 43 2 3,[]),(.yl 45 43 44,[]),(.yf 46 43 0 2,[]),(.yl 47 43 46,[]),(.yf 48 43 0 3,[]),(.yl 49 43 48,[]),(.y 50 43 (.ixAddr 3 (.t 47) (.t 49)),[]),(.yf 51 43 0 50,[]),(.yl 52 43 51,[]),(.yf 53 43 1 3,[]),(.yl 54 43 53,[]),(.y 55 43 (.bin .sub false 3 (.t 52) (.t 54)),[]),(.y 56 43 (.bin .leq false 3 (.t 45) (.t 55)),[]),(.q 57 43 56,[]),(.m 4 57,[])]) .ret))
def r_ref22_placeMay:Mt Tryz.prog 101=some ⟨58,lc.r,[.tmp 4]⟩:=Aa
def zdf:LC:=(.q [.x 3 1,.K 4 0] (.seq (.q [.m 13 0,.w 14 99 13,.z 15 (.un .not (.t 14)),.m 16 15,.nf 17 16 0 3,.nl 18 16 17,.n 19 16 (.lenSl (.t 18)),.nb 20 16 .lss 3 19 1,.p 21 16 20,.m 22 21,.nf 23 22 1 3,.nl 24 22 23,.n 25 22 (.lenSl (.t 24)),.mn 26 22 0,.n 27 22 (.lenSl (.t 26)),.n 28 22 (.bin .neq false 3 (.t 25) (.t 27)),.p 29 22 28] (.cond (.t 29) (.q [.K 4 2] .ret) .skip)) (.q [.f 31 0 3,.l 32 31,.z 33 (.build [(.i 0),.nilSl,.nilSl] [(1,1,.t 32)]),.w 34 100 33,.m 30 34,.X 35 0 30,.X 36 1 30,.m 5 35,.m 6 36] (.seq (.q [.m 37 6,.b 38 .neq 35 37 0] (.cond (.t 38) (.q [.K 4 2] .ret) .skip)) (.seq (.q [.K 7 0] (.block 0 (.loop (.seq (.q [.m 39 7,.m 40 0,.s 41 40,.c 42 .lss 3 39 41] (.cond (.t 42) .skip (.exit 0))) (.seq (.block 1 (.seq (.draw [(.f 45 1 3,[]),(.l 46 45,[]),(.m 47 7,[]),(.I 48 3 46 47,[]),(.L 49 3 48,[]),(.m 50 0,[]),(.m 51 7,[]),(.I 52 3 50 51,[]),(.L 53 3 52,[]),(.z 8 (.alloc [(.i 0),(.i 0),(.i 0)]),[(.L 53 3 52,false),(.L 49 3 48,false),(.l 46 45,false)]),(.z 9 (.alloc [(.i 0),(.bool false),(.i 0)]),[(.z 8 (.alloc [(.i 0),(.i 0),(.i 0)]),true),(.L 53 3 52,false),(.L 49 3 48,false),(.l 46 45,false)]),(.S 3 8 49,[(.L 53 3 52,false)]),(.S 3 9 53,[])]) (.seq (.q [.L 54 8 3,.L 55 3 8,.W 56 101 54 55,.z 57 (.un .not (.t 56)),.m 58 57,.nf 59 58 2 8,.nl 60 58 59,.nf 61 58 0 9,.nl 62 58 61,.n 63 58 (.bin .neq false 3 (.t 60) (.t 62)),.p 64 58 63] (.cond (.t 64) (.q [.K 4 2] .ret) .skip)) (.q [.f 65 0 3,.l 66 65,.f 67 0 8,.l 68 67,.I 69 3 66 68,.L 70 3 69,.z 10 (.alloc [(.i 0),(.i 0),(.bool false)]),.S 3 10 70] (.q [.f 71 2 9,.l 72 71,.b 73 .eql 3 72 1,.m 74 73,.nf 75 74 2 9,.nl 76 74 75,.nb 77 74 .eql 3 76 2,.p 78 74 77,.m 11 78] (.q [.f 79 1 10,.l 80 79,.b 81 .eql 3 80 1,.m 82 81,.my 83 82 11,.y 84 82 (.un .not (.t 83)),.q 85 82 84,.m 86 85,.nf 87 86 1 10,.nl 88 86 87,.nb 89 86 .eql 3 88 2,.mn 90 86 89,.my 91 90 11,.n 92 86 (.pick (.t 90) (.t 91) .F),.p 93 86 92,.m 94 93,.nf 95 94 1 9,.nl 96 94 95,.nf 97 94 2 10,.nl 98 94 97,.n 99 94 (.bin .neq false 4 (.t 96) (.t 98)),.p 100 94 99] (.cond (.t 100) (.q [.K 4 2] .ret) .skip))))))) (.ops [.m 43 7,.b 44 .add 3 43 1,.m 7 44])))))) (.seq (.q [.K 12 0] (.block 2 (.loop (.seq (.q [.m 101 12,.b 102 .lss 3 101 2] (.cond (.t 102) .skip (.exit 2))) (.seq (.block 3 (.seq (.draw [(.L 105 8 3,[]),(.m 106 12,[]),(.f 107 2 3,[]),(.z 108 (.ixAddrArr 2 3 (.t 107) (.t 106)),[]),(.L 109 3 108,[]),(.W 110 101 105 109,[]),(.z 111 (.un .not (.t 110)),[]),(.m 112 111,[]),(.nf 113 112 0 3,[]),(.nl 114 112 113,[]),(.mn 115 112 12,[]),(.nf 116 112 2 3,[]),(.n 117 112 (.ixAddrArr 2 3 (.t 116) (.t 115)),[]),(.nf 118 112 0 117,[]),(.nl 119 112 118,[]),(.n 120 112 (.ixAddr 3 (.t 114) (.t 119)),[]),(.nf 121 112 1 120,[]),(.nl 122 112 121,[]),(.nb 123 112 .eql 3 122 1,[]),(.p 124 112 123,[]),(.m 125 124,[]),(.nf 126 125 0 3,[]),(.nl 127 125 126,[]),(.mn 128 125 12,[]),(.nf 129 125 2 3,[]),(.n 130 125 (.ixAddrArr 2 3 (.t 129) (.t 128)),[]),(.nf 131 125 0 130,[]),(.nl 132 125 131,[]),(.n 133 125 (.ixAddr 3 (.t 127) (.t 132)),[]),(.nf 134 125 2 133,[]),(.nl 135 125 134,[]),(.mn 136 125 12,[]),(.nb 137 125 .eql 3 136 1,[]),(.n 138 125 (.bin .neq false 4 (.t 135) (.t 137)),[]),(.p 139 125 138,[])]) (.cond (.t 139) (.q [.K 4 2] .ret) .skip))) (.ops [.m 103 12,.b 104 .add 3 103 1,.m 12 104])))))) (.q [.K 4 0] .ret)))))))
def r_ref22_Check:Mt Tryz.prog 53=some ⟨140,zdf.r,[.tmp 4]⟩:=Aa
def z5n:LC:=(.q [.x 3 1,.F 4] (.q [.f 5 1 3,.l 6 5,.b 7 .geq 3 6 0,.m 8 7,.yf 9 8 1 3,.yl 10 8 9,.my 11 8 0,.y 12 8 (.lenSl (.t 11)),.y 13 8 (.bin .lss false 3 (.t 10) (.t 12)),.q 14 8 13,.m 15 14,.my 16 15 0,.yf 17 15 1 3,.yl 18 15 17,.y 19 15 (.ixAddr 3 (.t 16) (.t 18)),.yf 20 15 1 19,.yl 21 15 20,.y 22 15 (.un .not (.t 21)),.q 23 15 22,.m 4 23] .ret))
def r_ref22_Public:Mt Tryz.prog 11=some ⟨24,z5n.r,[.tmp 4]⟩:=Aa
def zeo(g:List Vr)(hl:g.length≤9223372036854775807):Mo 99 [.lst (Mz g) g.length 3] (.bool (O6 g)) []:=by
 refine Ni.val rfl (Mq r_ref22_varsMay Aa U ?_);simp[zao];refine M2 (λZ gA gB N=>∃i V:Nat,gA=[]∧N+i=g.length∧V≤i∧lk Z 0=.lst (Mz g) g.length 3∧lk Z 3=.i V∧lk Z 4=.i i∧Oc i V (g.drop i)=Oc 0 0 g) (N:=g.length) ⟨0,0,U⟩ ?_;rintro N Z gA gB ⟨i,V,rfl,hN,gg,z,C,E,P⟩ Nx S;by_cases R:i<g.length
 ·have hg:=P8 R;have I:=U3 hg;have K:=S2 R;rw[tl R]at P;have L:(gv g i).f=[.i (gv g i).limbs,.bool (gv g i).sec,.i (gv g i).mode]:=rfl;generalize gv g i=v at *;have B:Oc i V (v::g.drop (i+1))=none→O6 g=false:=λh=>by rw[h]at P;simp[O6,←P]
  by_cases j:v.limbs<1
  ·simp[z,C,E,R,I,K,L,j];exact B (by simp[Oc,Qw,j])
  by_cases p:512<v.limbs
  ·simp[z,C,E,R,I,K,L,j,p];exact B (by simp[Oc,Qw,j,p])
  by_cases A:v.mode<0
  ·simp[z,C,E,R,I,K,L,j,p,A];exact B (by simp[Oc,Qw,j,p,A])
  by_cases D:3<v.mode
  ·simp[z,C,E,R,I,K,L,j,p,A,D];exact B (by simp[Oc,Qw,j,p,A,D])
  by_cases F:v.mode=0
  ·simp[z,C,E,R,I,K,L,j,p,A,D,F];refine⟨J,S _ _ _ ⟨N-1,J,i+1,V,rfl,J,J,Ak,Au,U,?_⟩⟩;rw[←P];simp[Oc,Qw,j,p,A,D,F]
  have G:0<v.mode:=J
  by_cases M:V<i
  ·simp[z,C,E,R,I,K,L,j,p,A,D,F,G,M];exact B (by simp[Oc,Qw,j,p,A,D,F,M])
  by_cases Q:v.mode=1
  ·have H:¬1<v.mode:=J
   cases O:v.sec with
   |true =>
    simp[z,C,E,R,I,K,L,j,p,A,D,F,G,M,Q,H,O];exact B (by simp[Oc,Qw,j,p,A,D,F,M,O,Q])
   |false =>
    simp[z,C,E,R,I,K,L,j,p,A,D,F,G,M,Q,H,O];refine⟨J,J,S _ _ _ ⟨N-1,J,i+1,V+1,rfl,J,J,Ak,U,U,?_⟩⟩;rw[←P];simp[Oc,Qw,j,p,A,D,F,M,O,Q]
  ·have H:1<v.mode:=J
   cases O:v.sec with
   |false =>
    simp[z,C,E,R,I,K,L,j,p,A,D,F,G,M,Q,H,O];exact B (by simp[Oc,Qw,j,p,A,D,F,M,O,Q])
   |true =>
    simp[z,C,E,R,I,K,L,j,p,A,D,F,G,M,Q,H,O];refine⟨J,J,S _ _ _ ⟨N-1,J,i+1,V+1,rfl,J,J,Ak,U,U,?_⟩⟩;rw[←P];simp[Oc,Qw,j,p,A,D,F,M,O,Q]
 ·have ei:i=g.length:=J
  rw[Il J]at P;have T:Oc 0 0 g=some V:=by rw[←P];rfl
  by_cases X:1≤g.length
  ·by_cases Y:g.length≤256
   ·simp[z,C,E,R,O6,T,X,Y];omega
   ·simp[z,C,E,R,O6,T,X,Y];omega
  ·simp[z,C,E,R,O6,T,X];omega
def z56(j:List Bf)(G:List Pc)(H I x:Pc)(K:∀b∈j,b.size≤65536):Mo 101 [.agg (Mr j G H I),.agg x.f] (.bool (Qu j x)) []:=by
 refine Ni.val rfl (Mq r_ref22_placeMay Aa U ?_);by_cases p:0≤x.buf
 case neg=>simp[lc,Mr,Pc.f,Qu,p]
 by_cases A:x.buf<(j.length:Int)
 case neg=>simp[lc,Mr,Pc.f,Qu,p,A]
 by_cases z:1≤x.size
 case neg=>simp[lc,Mr,Pc.f,Qu,p,A,z]
 by_cases B:x.size≤32768
 case neg=>simp[lc,Mr,Pc.f,Qu,p,A,z,B]
 by_cases C:0≤x.at_
 case neg=>simp[lc,Mr,Pc.f,Qu,p,A,z,B,C]
 obtain⟨n,D⟩:=Hx p;have g:n<j.length:=J
 have E:=sx (Qp g);have L:=Uk g;have:=K _ (Im (Qp g));by_cases F:x.at_≤(My j n).size
 ·simp[lc,Mr,Pc.f,Qu,z,B,C,D,g,Mi E,F]
  try omega
 ·simp[lc,Mr,Pc.f,Qu,z,B,C,D,g,Mi E,F]
def zt6(g:List Bf):(Td 0 g []).2=Ud g:=by
 unfold Td Ud;by_cases j:32<g.length
 ·rw[Hs J,Hs j]
 rw[Hq Ab,Hq j];split
 ·rfl
 ·rw[Hq J];split
  ·rfl
  ·rfl
def zhw(C:List Vr)(j:List Bf)(E:List Pc)(O P:Pc)(hv:C.length≤1000000) :
  Mo 53 [.lst (Mz C) C.length 3,.agg (Mr j E O P)] (.i (Uf C j E O P)) []:=by
 refine Ni.val rfl (Mq r_ref22_Check Aa U ?_);have X:Rj C j E O P=false→Uf C j E O P=2:=λh=>by simp[Uf,h]
 simp[zdf];refine Mv (zeo C J) (bors_self _ Bg) ?_;cases gD:O6 C with
 |false=>simp;exact (X (by simp[Rj,gD])).symm
 |true =>
 by_cases g1:(j.length:Int)<1
 ·simp[Mr,g1];exact (X (by simp[Rj,(J:¬1≤j.length)])).symm
 by_cases g2:E.length=C.length
 case neg =>
  have gH:¬(E.length:Int)=(C.length:Int):=J
  simp[Mr,g1,g2,gH];exact (X (by simp[Rj,g2])).symm
 simp[Mr,g1,g2];refine zix (args':=[.agg (Pn 0 j [])]) (λc r h=>?_) ?_
 ·cases h with
  |cons e1 es=>cases e1 with
   |agg e1=>cases e1 with
    |cons a1 e1=>cases e1 with
     |cons a2 e1=>cases e1 with
      |cons a3 e1=>exact .cons (.agg (.cons a1 (.cons a2 (.cons (by cases a3;exact .lstNil) e1)))) es
 refine Mv (zi2 0 j []) (bors_self _ (by simp[dats,LV.dat,Xt])) ?_;rw[zt6];by_cases g3:Ud j=0
 case neg=>simp[g3];exact (X (by simp[Rj,g3])).symm
 simp[g3];have gA:∀b∈j,b.size≤65536:=ziu g3;refine M2 (λρ gR gC N=>∃i:Nat,gR=[]∧N+i=C.length∧lk ρ 3=.ptr 0 0∧lk ρ 0=.lst (Mz C) C.length 3∧lk ρ 7=.i i∧0<gC.length∧gC[0]?=some (.cells (Mr j E O P) 0)∧∀gG,gG<i→Sc j (gv C gG) (M3 E gG)=true) (N:=C.length)
  ⟨0,by simp[Mr,g2]⟩ ?_
 rintro N ρ gR gC ⟨i,rfl,hN,A,G,S,hl,Q,gE⟩ Nx gg;by_cases gS:i<C.length
 ·have q3:=U3 (P8 gS);have hq:=S2 gS;have gp:i<E.length:=J
  have p3:=dj (Wo gp);have gI:=Vl gp;have gK:(gv C i).f=[.i (gv C i).limbs,.bool (gv C i).sec,.i (gv C i).mode]:=rfl;have gL:(M3 E i).f=[.i (M3 E i).buf,.i (M3 E i).at_,.i (M3 E i).size]:=rfl;have no:Sc j (gv C i) (M3 E i)=false→Uf C j E O P=2:=λh=>X (by
   have:((List.range C.length).all λi=>Sc j (gv C i) (M3 E i))=false:=by
    rw[Jz];exact⟨i,I9.2 gS,Cq⟩
   simp[Rj,this])
  have nx:Sc j (gv C i) (M3 E i)=true→∀M G',lk M 3=.ptr 0 0→lk M 0=.lst (Mz C) C.length 3→lk M 7=.i ((i:Int)+1)→0<G'.length→G'[0]?=some (.cells (Mr j E O P) 0)→Nx M [] G':=λh M G' e3 e0 e7 el eG =>
   gg _ _ _ ⟨N-1,J,i+1,rfl,J,e3,e0,by rw[e7];simp,el,eG,λgG hj=>by
    by_cases e:gG=i
    ·rw[e];exact h
    ·exact gE gG J⟩
  generalize gv C i=v at *;generalize M3 E i=x at *;have R:∀y:List LObj,(gC++y)[0]?=some _:=λy=>(Mj hl).trans Q
  have gM : ∀(y : Mh) (h : 0<(gC ++ y).length), (gC ++ y)[0]'h = .cells (Mr j E O P) 0 := λy h => (Hf.1 (R y)).2
  simp[A,G,S,gS,gp,q3,p3,hq,gI,gK,gL,Q,↓R,gM,Mr];have hL:=z56 j E O P x gA;rw[Mr,Pc.f]at hL;refine Mv hL (bors_self _ Bl) ?_;cases H:Qu j x with
  |false=>simp;exact (no (by simp[Sc,H])).symm
  |true =>
  obtain⟨n,F,g,s1,s2,s3,s4,s5⟩:=uu H;by_cases T:x.size=v.limbs
  case neg=>simp[T];exact (no (by simp[Sc,T])).symm
  have Y:=qo (Qp g);have B:=Uk g;have D:(My j n).f=[.i (My j n).size,.i (My j n).kind,.bool (My j n).sec]:=rfl;have gO:Sc j v x=(!(decide ((My j n).kind=1) && !Oo v)&&(!(decide ((My j n).kind=2)&&Oo v)&&(v.sec==(My j n).sec))):=by simp[Sc,H,T,F]
  rw[gO]at no nx;generalize My j n=b at *;have Z:∀(h:(!(decide (b.kind=1) && !Oo v)&&(!(decide (b.kind=2)&&Oo v)&&(v.sec==b.sec)))=true) (M:Ml) (x:List LObj),lk M 3=.ptr 0 0→lk M 0=.lst (Mz C) C.length 3→lk M 7=.i ((i:Int)+1)→Nx M [] (gC++x):=λh M x e3 e0 e7=>nx h _ _ e3 e0 e7 Ab (R x)
  by_cases K:v.mode=1
  ·have V:Oo v=true:=by simp[Oo,K]
   by_cases p:b.kind=1
   ·cases z:(v.sec==b.sec) with
    |false=>simp[T,A,G,S,↓R,Mr,F,g,Y,B,D,K,K,p,Q0,z];exact (no Ek).symm
    |true =>
     simp[T,A,G,S,↓R,Mr,F,g,Y,B,D,K,K,p,Q0,z];exact⟨J,Z Ek _ _ Af A3 U⟩
   ·by_cases L:b.kind=2
    ·simp[T,A,G,S,↓R,Mr,F,g,Y,B,D,K,K,p,L];exact (no (by simp[L,V])).symm
    ·cases z:(v.sec==b.sec) with
     |false=>simp[T,A,G,S,↓R,Mr,F,g,Y,B,D,K,K,p,L,Q0,z];exact (no By).symm
     |true =>
      simp[T,A,G,S,↓R,Mr,F,g,Y,B,D,K,K,p,L,Q0,z];exact⟨J,Z By _ _ Af A3 U⟩
  ·by_cases m2:v.mode=2
   ·have V:Oo v=true:=by simp[Oo,m2]
    by_cases p:b.kind=1
    ·cases z:(v.sec==b.sec) with
     |false=>simp[T,A,G,S,↓R,Mr,F,g,Y,B,D,K,m2,p,Q0,z];exact (no Ek).symm
     |true =>
      simp[T,A,G,S,↓R,Mr,F,g,Y,B,D,K,m2,p,Q0,z];exact⟨J,Z Ek _ _ Af A3 U⟩
    ·by_cases L:b.kind=2
     ·simp[T,A,G,S,↓R,Mr,F,g,Y,B,D,K,m2,p,L];exact (no (by simp[L,V])).symm
     ·cases z:(v.sec==b.sec) with
      |false=>simp[T,A,G,S,↓R,Mr,F,g,Y,B,D,K,m2,p,L,Q0,z];exact (no By).symm
      |true =>
       simp[T,A,G,S,↓R,Mr,F,g,Y,B,D,K,m2,p,L,Q0,z];exact⟨J,Z By _ _ Af A3 U⟩
   ·have V:Oo v=false:=by simp[Oo,K,m2]
    by_cases p:b.kind=1
    ·simp[T,A,G,S,↓R,Mr,F,g,Y,B,D,K,m2,p];exact (no (by simp[p,V])).symm
    ·by_cases L:b.kind=2
     ·cases z:(v.sec==b.sec) with
      |false=>simp[T,A,G,S,↓R,Mr,F,g,Y,B,D,K,m2,p,L,Q0,z];exact (no By).symm
      |true =>
       simp[T,A,G,S,↓R,Mr,F,g,Y,B,D,K,m2,p,L,Q0,z];exact⟨J,Z By _ _ Af A3 U⟩
     ·cases z:(v.sec==b.sec) with
      |false=>simp[T,A,G,S,↓R,Mr,F,g,Y,B,D,K,m2,p,L,Q0,z];exact (no By).symm
      |true =>
       simp[T,A,G,S,↓R,Mr,F,g,Y,B,D,K,m2,p,L,Q0,z];exact⟨J,Z By _ _ Af A3 U⟩
 ·have gi:i=C.length:=J
  subst gi;simp[A,G,S,Q,Mr];refine M2 (λρ gR gC N=>∃i:Nat,gR=[]∧N+i=2∧lk ρ 3=.ptr 0 0∧lk ρ 12=.i i∧0<gC.length∧gC[0]?=some (.cells (Mr j E O P) 0)∧(0<i→Q3 j false O=true)∧(1<i→Q3 j true P=true)) (N:=2)
   ⟨0,rfl,rfl,Af,U,hl,Q,λq=>absurd q J,λq=>absurd q J⟩ ?_
  clear A G S Q hl;rintro N ρ gR gC ⟨i,rfl,gT,A,I,hl,Q,gF,gP⟩ Nx gg;have R:∀y:List LObj,(gC++y)[0]?=some _:=λy=>(Mj hl).trans Q
  have hi:i=0∨i=1∨i=2:=J
  rcases hi with rfl|rfl|rfl
  ·have no:Q3 j false O=false→Uf C j E O P=2:=λh=>X Eu
   have nx:Q3 j false O=true→∀(M:Ml),lk M 3=.ptr 0 0→lk M 12=.i (0+1)→Nx M [] gC:=λh M e3 gB =>
    gg _ _ _ ⟨N-1,J,0+1,rfl,J,e3,by rw[gB];rfl,hl,Q,λ_=>h,λq=>absurd q J⟩
   simp[A,I,Q,Mr];have hL:=z56 j E O P O gA;rw[Mr,Pc.f]at hL;refine Mv hL (bors_self _ Bl) ?_;cases H:Qu j O with
   |false=>simp[A,I,Q,Mr];exact (no (by simp[Q3,H])).symm
   |true =>
   obtain⟨n,F,g,s1,s2,s3,s4,s5⟩:=uu H;have b1:=sf (Qp g);have b2:=zq7 (Qp g);have B:=Uk g;have hW:Q3 j false O=(!decide ((My j n).kind=1)&&((My j n).sec==false)):=by simp[Q3,H,F]
   rw[hW]at no nx;generalize My j n=b at *;by_cases p:b.kind=1
   ·simp[A,I,Q,Mr,F,g,Mi b1,Mi b2,p];exact (no Ae).symm
   cases z:b.sec with
   |true=>simp[A,I,Q,Mr,F,g,Mi b1,Mi b2,p,z,Q0];exact (no Ak).symm
   |false =>
    simp[A,I,Q,Mr,F,g,Mi b1,Mi b2,p,z,Q0];exact nx (by simp[p,z]) _ Af U
  ·have no:Q3 j true P=false→Uf C j E O P=2:=λh=>X Eu
   have nx:Q3 j true P=true→∀(M:Ml),lk M 3=.ptr 0 0→lk M 12=.i (1+1)→Nx M [] gC:=λh M e3 gB =>
    gg _ _ _ ⟨N-1,J,1+1,rfl,J,e3,by rw[gB];rfl,hl,Q,λ_=>gF J,λ_=>h⟩
   simp[A,I,Q,Mr];have hL:=z56 j E O P P gA;rw[Mr,Pc.f]at hL;refine Mv hL (bors_self _ Bl) ?_;cases H:Qu j P with
   |false=>simp[A,I,Q,Mr];exact (no (by simp[Q3,H])).symm
   |true =>
   obtain⟨n,F,g,s1,s2,s3,s4,s5⟩:=uu H;have b1:=sf (Qp g);have b2:=zq7 (Qp g);have B:=Uk g;have hW:Q3 j true P=(!decide ((My j n).kind=1)&&((My j n).sec==true)):=by simp[Q3,H,F]
   rw[hW]at no nx;generalize My j n=b at *;by_cases p:b.kind=1
   ·simp[A,I,Q,Mr,F,g,Mi b1,Mi b2,p];exact (no Ae).symm
   cases z:b.sec with
   |false=>simp[A,I,Q,Mr,F,g,Mi b1,Mi b2,p,z,Q0];exact (no Ak).symm
   |true =>
    simp[A,I,Q,Mr,F,g,Mi b1,Mi b2,p,z,Q0];exact nx (by simp[p,z]) _ Af U
  ·simp[I];unfold Uf;rw[Hs];have gQ:1≤j.length:=J
   simp[Rj,gD,gQ,g2,g3,gF J,gP J];intro gG hj;exact gE gG hj
def zap(j:List Vr)(o:Ko):Mo 11 [.lst (Mz j) j.length 3,.agg o.f] (.bool (Ob j o.d)) []:=by
 refine Ni.val rfl (Mq r_ref22_Public Aa U ?_);by_cases p:0≤o.d
 case neg=>simp[z5n,Ko.f,Ob,p]
 by_cases z:o.d<j.length
 case neg=>simp[z5n,Ko.f,Ob,p,z]
 obtain⟨n,A⟩:=Hx p;have g:n<j.length:=J
 have B:=nk (P8 g);have C:=S2 g;simp[z5n,Ko.f,Ob,A,g,Mi B]
end Go.Proofs.YtgjbfhmmgeplmaaGreat
end
