/- The templates: see the main text. -/
import Derived.Test.YtodjkjimaheggaaGreatSvG3
import Derived.Test.YtodjkjimaheggaaGreatSvG2
import Derived.Test.YtodjkjimaheggaaGreatTg0
import Derived.Test.YtodjkjimaheggaaGreatSvG4
import Derived.Test.YtodjkjimaheggaaGreatProg
import Derived.KernelRfl
set_option linter.defProp false
noncomputable section
namespace Go.Proofs.YtodjkjimaheggaaGreat
open Go.Sv
set_option linter.unusedSimpArgs false
set_option maxRecDepth 10000
variable{g j:Nat}{z B V vX uT:Int}{P:Bool}{Y uV:List UInt64}{vz:List Nat}{vg:List (List UInt64)}{G:M9}{O uP:LV}{v9:LV→M9→Prop}{vQ:List Vr}{Z:List Bf}{vY:List Lo}
def zkz:LC:=(.q [.x 2 0,.e 4,.e 5,.K 6 0] (.q [.L 18 3 2,.w 19 78 18,.m 17 19,.X 20 0 17,.X 21 1 17,.m 7 20,.m 8 21] (.seq (.q [.m 22 8,.b 23 .eql 35 22 0,.m 24 23,.y 25 24 (.loadN 3 (.t 2)),.y 26 24 (.w 85 [.t 25]),.y 27 24 (.bin .gtr true 3 (.t 26) (.k 16777216)),.q 28 24 27] (.cond (.t 28) (.ops [.K 8 10]) .skip)) (.seq (.q [.m 29 8,.b 30 .eql 35 29 0,.m 31 30,.y 32 31 (.loadN 3 (.t 2)),.my 33 31 1,.y 34 31 (.w 86 [.t 32,.t 33]),.y 35 31 (.un .not (.t 34)),.q 36 31 35] (.cond (.t 36) (.ops [.K 8 2]) .skip)) (.seq (.q [.m 37 8,.b 38 .neq 35 37 0] (.cond (.t 38) (.q [.m 39 8,.e 4,.e 5,.m 6 39] .ret) .skip)) (.seq (.draw [(.L 40 3 2,[]),(.f 41 0 2,[]),(.l 42 41,[]),(.z 43 (.mkSl 1 [(.u 0)] (.t 42) (.t 42)),[(.l 42 41,false),(.L 40 3 2,false)]),(.z 44 (.build [(.i 0),.nilSl,.nilSl,.nilSl,.nilSl,.nilSl] [(0,3,.t 40),(3,1,.t 43)]),[]),(.x 45 44,[(.z 43 (.mkSl 1 [(.u 0)] (.t 42) (.t 42)),true),(.l 42 41,false),(.L 40 3 2,false)]),(.m 9 45,[])]) (.seq (.q [.K 10 0] (.block 0 (.loop (.seq (.q [.m 46 10,.m 47 1,.s 48 47,.c 49 .lss 3 46 48] (.cond (.t 49) .skip (.exit 0))) (.seq (.block 1 (.q [.f 52 1 2,.l 53 52,.m 54 10,.I 55 3 53 54,.f 56 0 55,.l 57 56,.z 58 (.mkSl 1 [(.u 0)] (.t 57) (.t 57)),.m 11 58] (.q [.m 59 11,.m 60 1,.m 61 10,.I 62 1 60 61,.l 63 62,.z 64 (.copy 1 (.t 59) (.t 63))] (.ops [.m 65 9,.m 66 9,.N 67 66,.f 68 4 67,.l 69 68,.m 70 11,.z 71 (.buildSl 1 1 [.nilSl] [(0,1,.t 70)]),.a 72 1 69 71,.N 73 65,.f 74 4 73,.S 1 74 72])))) (.ops [.m 50 10,.b 51 .add 3 50 1,.m 10 51])))))) (.q [.L 75 3 2,.w 76 87 75,.m 12 76] (.q [.z 13 (.move .T)] (.seq (.q [.K 14 0] (.block 2 (.loop (.seq (.q [.m 77 14,.f 78 2 2,.l 79 78,.s 80 79,.c 81 .lss 3 77 80] (.cond (.t 81) .skip (.exit 2))) (.seq (.block 3 (.q [.f 84 2 2,.l 85 84,.m 86 14,.I 87 8 85 86,.L 88 8 87,.z 15 (.alloc [(.i 0),(.i 0),(.i 0),(.i 0),(.i 0),(.i 0),(.i 0),(.u 0)]),.S 8 15 88] (.q [.f 89 0 15,.l 90 89] (.block 4 (.q [.b 100 .eql 3 90 16,.m 99 100] (.cond (.t 99) (.seq (.q [.m 101 13] (.cond (.t 101) (.draw [(.m 102 9,[]),(.N 103 102,[]),(.f 104 3 103,[]),(.l 105 104,[]),(.f 106 1 15,[]),(.l 107 106,[]),(.I 108 1 105 107,[]),(.v (.store 1 (.t 108) (.c (.u 0))),[])]) .skip)) (.q [.m 109 9,.m 110 9,.N 111 110,.f 112 5 111,.l 113 112,.m 114 14,.z 115 (.build [(.i 0),(.i 0)] [(0,1,.t 114),(1,1,.k (-1))]),.z 116 (.buildSl 2 1 [(.i 0),(.i 0)] [(0,2,.t 115)]),.a 117 2 113 116,.N 118 109,.f 119 5 118,.S 1 119 117] (.ops [.z 13 (.move .T)]))) (.q [.b 121 .eql 3 90 17,.m 120 121] (.cond (.t 120) (.seq (.draw [(.f 122 2 2,[]),(.l 123 122,[]),(.m 124 12,[]),(.m 125 14,[]),(.I 126 1 124 125,[]),(.l 127 126,[]),(.I 128 8 123 127,[]),(.L 129 8 128,[]),(.z 16 (.alloc [(.i 0),(.i 0),(.i 0),(.i 0),(.i 0),(.i 0),(.i 0),(.u 0)]),[(.L 129 8 128,false),(.l 127 126,false),(.l 123 122,false)]),(.S 8 16 129,[])]) (.seq (.draw [(.m 130 9,[]),(.N 131 130,[]),(.f 132 3 131,[]),(.l 133 132,[]),(.f 134 1 16,[]),(.l 135 134,[]),(.I 136 1 133 135,[]),(.l 137 136,[]),(.u 138 .add 23 137 1,[]),(.f 139 7 16,[]),(.l 140 139,[]),(.c 141 .lss 23 138 140,[])]) (.cond (.t 141) (.seq (.draw [(.m 142 9,[]),(.N 143 142,[]),(.f 144 3 143,[]),(.l 145 144,[]),(.f 146 1 16,[]),(.l 147 146,[]),(.I 148 1 145 147,[]),(.l 149 148,[]),(.u 150 .add 23 149 1,[]),(.I 151 1 145 147,[]),(.S 1 151 150,[])]) (.q [.F 13] (.ops [.m 152 12,.m 153 14,.I 154 1 152 153,.l 155 154,.b 156 .sub 3 155 1,.m 14 156]))) .skip))) (.q [.m 91 9,.m 92 14,.W 93 88 91 92,.z 94 (.un .not (.t 93))] (.cond (.t 94) (.seq (.draw [(.m 95 9,[]),(.N 96 95,[]),(.f 97 5 96,[]),(.l 98 97,[]),(.e 4,[]),(.m 5 98,[]),(.K 6 11,[])]) .ret) .skip)))))))))) (.ops [.m 82 14,.b 83 .add 3 82 1,.m 14 83])))))) (.seq (.draw [(.m 157 9,[]),(.N 158 157,[]),(.f 159 4 158,[]),(.l 160 159,[]),(.m 161 9,[]),(.N 162 161,[]),(.f 163 5 162,[]),(.l 164 163,[]),(.m 4 160,[]),(.m 5 164,[]),(.K 6 0,[])]) .ret)))))))))))
def r_ref12_Run:Nm Tryz.prog 29=some ⟨165,zkz.r,[.tmp 4,.tmp 5,.tmp 6]⟩:=Aa
def MsH.push_ev{G:M9}{x pb kb:Nat}{b:Nat}{regs:Int}{bs:List Bf}{os:List Lo}{L:LV}{s:Ms}{K:LV→M9→Prop}{tmp:LObj}{G':M9}{i pl:Int}(hG:G'=G++[tmp])(hm:MsH G x j pb kb vz b regs bs os L s)(gD:s.l.length≤1000000000)
  (k:∀(L':LV) (G5:M9),L'.cells=some [L']→(∀q,q<b→G5[q]?=G[q]?)→(∀(gg:Nat),MsH (G5.set x (.cells [.i regs,.lst (P7 bs) bs.length 3,.lst (Qu os) os.length 8,.dy j 0,.dy pb kb,L'] gg)) x j pb kb vz b regs bs os L' ⟨s.i,s.first,s.r,s.bufs,s.l++[(i,pl)]⟩)→K L' G5):Pu G' 2 L 1 [.i i,.i pl] K:=by
 subst hG;obtain⟨l1,l2,l3,l4,l5,l6⟩:=hm.lt;have gF:=hm.bG;refine O7.push2 (x:=[.i i,.i pl]) hm.ev.push_end J Ab gD rfl rfl λL' G5 gz gE gA gG=>?_
 have keep:∀{q:Nat},q<b→G5[q]?=G[q]?:=λ{q} hq=>by
  rw[gE q Ab (λe=>D6),Nv J]
 refine k L' G5 gz.cells (λq hq=>keep hq) λgg=>?_
 have gC:x<G5.length:=by simp at gA;omega
 have ne:∀{q:Nat} {ob:LObj},q≠x→(G5.set x ob)[q]?=G5[q]?:=λhq=>Hy (Ne.symm hq)
 refine⟨⟨gg,H8 gC⟩,?_,?_,λgH hj=>?_,hm.bl,hm.lt,hm.qlt,hm.nd,?_,by rw[J9];simp at gA;omega⟩
 ·obtain⟨st,h⟩:=hm.rr;exact⟨st,by rw[ne (Ne.symm l4),keep l2];exact h⟩
 ·obtain⟨st,h⟩:=hm.bb;exact⟨st,by rw[ne (Ne.symm l5),keep l3];exact h⟩
 ·obtain⟨st,h⟩:=hm.row gH hj;have hq:=hm.qlt (vz.getD gH 0) F4;exact⟨st,by rw[ne hq.2.1,keep hq.1];exact h⟩
 ·show O7 b _ L' 2 (s.l++[(i,pl)]).length (Tz (s.l++[(i,pl)]));rw[zz9,Ia];exact gz.set_lt l1
def MsH.ctl{G:M9}{x pb kb:Nat}{b:Nat}{regs:Int}{bs:List Bf}{os:List Lo}{L:LV}{s:Ms}(h:MsH G x j pb kb vz b regs bs os L s){i:Nat}{f:Bool}:MsH G x j pb kb vz b regs bs os L ⟨i,f,s.r,s.bufs,s.l⟩:=⟨h.xc,h.rr,h.bb,h.row,h.bl,h.lt,h.qlt,h.nd,h.ev,h.bG⟩
def zpe{C:M9}:∀(g:List Nat) (j:List (List UInt64)),j.length=g.length→(∀z,z<g.length→∃st,C[g.getD z 0]?=some (.dyn ((j.getD z []).map .u) (j.getD z []).length 1 0 st))→bors C (g.map λq=>.dy q 0) (j.map LU)
 |[],j,h,_=>by
  have:j=[]:=Iq h;subst this;simp
 |q::g,[],h,_=>By
 |q::g,x::j,h,A=>by
  obtain⟨st,B⟩:=A 0 N;simp only[List.getD_cons_zero]at B;rw[Kk,Kk];refine⟨_,_,rfl,⟨_,_,_,st,rfl,B,N⟩,zpe g j Ax λz D=>?_⟩;have:=A (z+1) Ab;simpa only[List.getD_cons_succ] using this
def oi(n:Nat):Ph [.u 0] n=(List.replicate n (0:UInt64)).map LV.u:=by
 induction n with
 |zero=>rfl
 |succ n g=>rw[Ph,g,Kz];rfl
def me(x:List UInt64)(n:Nat)(h:x.length≤n):Oo ((List.replicate n (0:UInt64)).map LV.u) 0 ((x.map LV.u).take (min x.length n))=(x++List.replicate (n-x.length) 0).map LV.u:=by
 rw[J8 h,Il N,zmw,K8]
 congr 1
 simp
def z8d{bs:List Bf}{os:List Lo}{X:List (List UInt64)}{es:List Int}{s':Ms}(hc:(Qp z bs os).2=0)(hb:Vs Ql 0 os)(AD:V8 [] 0 os≤16777216)(hX:Xu bs X=true)(jR:1≤bs.length)(jT:Vk 0 [] (List.replicate os.length 0) os=es)
  (hE:∀i o,os[i]?=some o→o.kind=17→0≤es.getD i 0∧∃p,os[(es.getD i 0).toNat]?=some p∧p.kind=16) (hT:g≤800000000) (j:Py os es g (O6 z bs X)=some s') (Aj:s'.i=os.length) :
  Oz 29 [.agg (Ni z bs os),LN X] (.tup [LN s'.bufs,.lst (Tz s'.l) s'.l.length 2,.i 0]):=by
 obtain⟨zG,Az,AE,AF,gZ,jU⟩:=z7i hc;have jB:X.length=bs.length∧∀i,i<bs.length→((X.getD i []).length:Int)=if (Nw bs i).kind=3 then 0 else (Nw bs i).size:=by
  unfold Xu at hX;exact Kl hX
 obtain⟨jB,jV⟩:=jB;obtain⟨r,rfl⟩:=H0 zG;have zH:∀l:List (Int×Int),dats (Tz l)=true:=λl=>zw (f:=λe:Int×Int=>[.i e.1,.i e.2]) (λ_=>rfl) l
 refine Sd.mkS (by simp[LV.dat,dats,zH,LN,zzh]) (Nn r_ref12_Run Aa (by simp) ?_);have AG:dats (Ni r bs os)=true:=zhs _ _ _;have jX:¬(16777216:Int)<V8 [] 0 os:=J
 simp[zkz,Ni];refine Ns (z4m r bs os) (bors_self _ Bc) ?_;simp[hc];refine Ns (zl4 hc hb) (bors_self _ Bc) ?_;simp[jX];refine Ns (zns r bs os X J) (bors_self _ (by simp[dats,LV.dat,Ni,T9,Ud,zzh])) ?_;simp[hX];refine⟨J,?_⟩;refine O8 (λρ AA gD N=>∃(i:Nat) (B:List Nat) (v:LV),AA=[]∧N+i=bs.length∧B.length=i∧lk ρ 1=LN X∧lk ρ 2=.ptr 0 0∧lk ρ 9=.ptr 2 0∧lk ρ 10=.i i∧gD[0]?=some (.cells (Ni r bs os) 0)∧(∃st,gD[1]?=some (.dyn ((List.replicate r (0:UInt64)).map .u) r 1 0 st))∧(∃st,gD[2]?=some (.cells [.i r,.lst (P7 bs) bs.length 3,.lst (Qu os) os.length 8,.dy 1 0,v,.nilSl] st))∧3≤gD.length ∧
   ((i=0∧v=.nilSl)∨∃O st,v=.dy O (i-1)∧3≤O∧O ∉ B∧1≤i∧gD[O]?=some (.dyn (B.map λq=>.dy q 0) i 1 (i-1) st))∧(∀q∈B,3≤q)∧B.Nodup∧∀V,V<i→∃st,gD[B.getD V 0]?=some (.dyn ((V2 (Nw bs V) (X.getD V [])).map .u) (V2 (Nw bs V) (X.getD V [])).length 1 0 st)) (N:=bs.length)
  ⟨0,[],.nilSl,rfl,J,rfl,by simp,by simp,by simp,by simp,B0,⟨0,by simp[oi]⟩,⟨0,by simp⟩,by simp,.inl ⟨rfl,rfl⟩,by simp,by simp,λV h=>J⟩ ?_
 rintro N ρ AA gD ⟨i,B,v,rfl,hN,Z,h1,M,H,gK,A,⟨s1,gL⟩,⟨s2,gR⟩,AH,hv,gT,jY,gC⟩ Nx I;have gM:lk ρ 1=.lst (X.map LU) X.length 1:=h1;by_cases jQ:i<bs.length
 ·have q0:=zfo (Sl jQ);have gx:i<X.length:=J
  obtain⟨x,hx⟩:∃x,X.getD i []=x:=⟨_,rfl⟩;have zI:X[i]=x:=by rw[←hx];simp[gx]
  have hm:Nw bs i∈bs:=Io (Sl jQ);obtain⟨b1,b2⟩:=gZ _ hm;have jZ:=jV i jQ;rw[hx]at jZ;obtain⟨n,hn⟩:=H0 (J:0≤(Nw bs i).size);have zK:x.length≤n:=by split at jZ<;>omega
  have j4:V2 (Nw bs i) (X.getD i [])=x++List.replicate (n-x.length) 0:=by unfold V2;rw[hx,hn];rfl
  have g8:(x++List.replicate (n-x.length) (0:UInt64)).length=n:=Ab
  have l0:0<gD.length:=J
  have l2:2<gD.length:=J
  have p0:∀y:List LObj,(gD++y)[0]?=_:=λy=>(Nv l0).trans A
  have p2:∀y:List LObj,(gD++y)[2]?=_:=λy=>(Nv l2).trans gR
  have j5:=me x n zK;simp only[List.map_replicate]at j5;have AI:n≤65536:=J
  simp[gM,M,H,gK,A,Ni,jQ,gx,Nd q0,hn,zI,oi,j5,↓p2];refine⟨J,?_⟩;have j6:∀q∈B,q<gD.length:=λq hq=>by
   obtain⟨V,hj,rfl⟩:=J6.1 hq;obtain⟨st,h⟩:=gC V J;have h:=(Hv.1 h).1;simpa [Hw,hj] using h
  have zL:∀V,V<i→(B++[gD.length]).getD V 0=B.getD V 0:=λV hj=>by simp[Hw,Ib (J:V<B.length)]
  have zM:(B++[gD.length]).getD i 0=gD.length:=by
   rw[Hw,Im J,(J:i-B.length=0)];rfl
  have j7:(B++[gD.length]).Nodup:=by
   rw[List.nodup_append];exact⟨jY,by simp,λa ha b hb=>by simp at hb;rw[hb];have:=j6 a ha;omega⟩
  rcases hv with ⟨rfl,rfl⟩|⟨O,jC,rfl,gE,gU,zO,gF⟩
  ·have zP:B=[]:=Iq Z;subst zP;simp[H,↓p2,gK];refine I _ _ _ ⟨N-1,J,1,[gD.length],.dy (gD.length+2) 0,rfl,J,rfl,by simp[gM],Ay,Bd,by simp,?_,⟨s1,?_⟩,⟨s2+1,?_⟩,by simp,.inr ⟨gD.length+2,0,rfl,J,by simp,J,?_⟩,Ab,by simp,λV hj=>⟨1,?_⟩⟩
   ·rw[Hy J];exact p0 _
   ·rw[Hy J,Nv J];exact gL
   ·exact H8 (by simp)
   ·rw[Hy J,Im J,(J:gD.length+2-gD.length=2)];rfl
   ·have zQ:V=0:=J
    subst zQ;rw[j4];rw[Hy Ab];simp only[List.getD_cons_zero];rw[Im J,Lk,g8];simp
  ·have lp:O<gD.length:=(Hv.1 gF).1;have pp:∀y:List LObj,(gD++y)[O]?=_:=λy=>(Nv lp).trans gF
   have zR:∀(y:List LObj) (ob:LObj),((gD++y).set O ob)[2]?=_:=λy ob=>(Hy J).trans (p2 y)
   simp[H,↓pp,↓zR,gK]
   repeat (refine⟨J,?_⟩)
   refine I _ _ _ ⟨N-1,J,i+1,B++[gD.length],.dy O i,rfl,J,Ea,by simp[gM],Ay,Bd,by simp,?_,⟨s1,?_⟩,⟨s2+1,?_⟩,Ab,.inr ⟨O,jC+1,rfl,gE,by simp[gU];omega,J,?_⟩,λq hq=>?_,j7,λV hj=>?_⟩
   ·rw[Hy J,Hy J];exact p0 _
   ·rw[Hy J,Hy J,Nv J];exact gL
   ·rw[H8 Ab,(J:i-1+1=i)]
   ·rw[Hy J,H8 Ab,(J:i-1+1=i)];simp
   ·rcases Is.1 hq with hq|hq
    ·exact gT q hq
    ·simp at hq;omega
   ·by_cases e:V=i
    ·subst e;rw[zM,j4,g8];refine⟨1,?_⟩;rw[Hy J,Hy J,Im J,Lk];simp
    ·obtain⟨st,h⟩:=gC V J;refine⟨st,?_⟩;have jD:B.getD V 0∈B:=by simp[Hw,(J:V<B.length)]
     have:=gT _ jD;rw[zL V J,Hy J,Hy (λe=>gU (by rw[e];exact jD)),Nv (j6 _ jD)];exact h
 have hi:i=bs.length:=J
 subst hi;rcases hv with ⟨e,_⟩|⟨O,jC,rfl,gE,gU,zO,gF⟩
 ·omega
 have ge:¬bs.length<bs.length:=J
 have j8:MsH gD 2 1 O (bs.length-1) B gD.length r bs os .nilSl (O6 r bs X):=by
  have l1:=(Hv.1 gL).1;have l2:=(Hv.1 gR).1;have lp:=(Hv.1 gF).1;refine⟨⟨s2,gR⟩,⟨s1,by simpa [O6] using gL⟩,⟨jC,by rw[Z];exact gF⟩,λV hj=>?_,by simp[O6,qe,Z],⟨l2,l1,lp,J,J,J⟩,λq hq=>?_,jY,O7.nil,H9 _⟩
  ·obtain⟨st,h⟩:=gC V J;refine⟨st,?_⟩;have zT:(O6 r bs X).bufs.getD V []=V2 (Nw bs V) (X.getD V []):=by simp[O6,S0,Hw,(J:V<bs.length)]
   rw[zT];exact h
  ·obtain⟨V,hj,rfl⟩:=J6.1 hq;obtain⟨st,h⟩:=gC V J;have h:=(Hv.1 h).1;have:=gT _ hq;exact⟨by simpa [Hw,hj] using h,J,J,λe=>gU (by rw[←e];exact hq)⟩
 have g9:∀x∈(O6 r bs X).bufs,x.length≤65536:=λx hx=>by
  simp only[O6,S0,Mv,Kh]at hx;obtain⟨V,hj,rfl⟩:=hx;have hm:Nw bs V∈bs:=Io (Sl hj);obtain⟨b1,b2⟩:=gZ _ hm;have:=jV V hj;unfold V2;rw[Ia,List.length_replicate];split at this<;>omega
 simp[gM,M,H,gK,jB,A,Ni];refine R6 (zn4 hc hb) Em ?_;rw[jT];have AB:B.length=bs.length:=Z;generalize AK:gD.length=b at *;simp;refine O8 (λρ AA G' N=>∃(s:Ms) (zE:LV),AA=[]∧Py os es N s=some s'∧lk ρ 2=.ptr 0 0∧lk ρ 9=.ptr 2 0∧lk ρ 12=.lst (es.map .i) os.length 1∧lk ρ 13=.bool s.first∧lk ρ 14=.i s.i∧G'[0]?=some (.cells (Ni r bs os) 0)∧MsH G' 2 1 O (bs.length-1) B b r bs os zE s∧s.l.length+N≤g∧s.i≤os.length∧s.r.length=r∧∀x∈s.bufs,x.length≤65536) (N:=g)
  ⟨O6 r bs X,.nilSl,rfl,j,Ay,Bd,by simp,Di,Di,A,j8,Di,Di,Di,g9⟩ ?_
 clear j j8 h1 gM M H gK A gL gR gF I Nx g9;rintro N ρ AA P ⟨s,zE,rfl,j,M,H,gg,Q,K,A,Y,AL,AM,gG,gH⟩ Nx I;by_cases jQ:s.i<os.length
 case neg =>
  have zU:=zv5 (os:=os) (es:=es) (s:=s) (Ke J) N;rw[zU]at j;have jE:s=s':=Option.some.inj j;subst jE;obtain⟨t1,D⟩:=Y.xc;obtain⟨t2,jR⟩:=Y.bb;simp[M,H,K,A,Ni,jQ,D];intro c a hs ha;have AC:s.bufs.length=bs.length:=by rw[Y.bl,Z]
  have h:=tup3_ok hs jR (zpe B s.bufs Y.bl Y.row) Y.ev.bor (by simp) ha;rw[←Y.bl]at h;exact h
 have ho:=zh2 jQ;have gO:=zcl ho;have gP:=zne jQ;have jF:=jU _ (Io ho);generalize ko os s.i=o at *;cases N with
 |zero =>
  have jE:s=s':=Option.some.inj j;subst jE;omega
 |succ N =>
 have hC:o.f=[.i o.kind,.i o.d,.i o.e,.i o.a,.i o.b,.i o.c,.i o.buf,.u o.imm]:=rfl;change (match Rh os es s with|none=>none|some s'=>Py os es N s')=some s' at j;have l0:0<P.length:=by have:=Y.bG;omega
 have p0:∀y:List LObj,(P++y)[0]?=_:=λy=>(Nv l0).trans A
 have L:(P++[LObj.cells o.f 1])[P.length]?=some (.cells o.f 1):=Ir;have E:MsH (P++[LObj.cells o.f 1]) 2 1 O (bs.length-1) B b r bs os zE s:=Y.keep (λq hq=>Nv hq) (by simp);have gz:=p0 [.cells o.f 1];have AO:b≤P.length:=Y.bG;have z0:∀(y:List LObj) (h:0<(P++y).length),(P++y)[0]=.cells (Ni r bs os) 0:=λy h=>Option.some.inj ((H7 h).symm.trans (p0 y))
 have p1:∃st,∀y:List LObj,(P++y)[1]?=some (.dyn (s.r.map .u) s.r.length 1 0 st):=by
  obtain⟨st,h⟩:=Y.rr;exact⟨st,λy=>(Nv (Hv.1 h).1).trans h⟩
 have p2:∃st,∀y:List LObj,(P++y)[2]?=some (.cells [.i r,.lst (P7 bs) bs.length 3,.lst (Qu os) os.length 8,.dy 1 0,.dy O (bs.length-1),zE] st):=by
  obtain⟨st,h⟩:=Y.xc;exact⟨st,λy=>(Nv (Hv.1 h).1).trans h⟩
 obtain⟨t1,p1⟩:=p1;obtain⟨t2,p2⟩:=p2;obtain⟨rd,re,ra,rb,rc,rm⟩:=zj6 jF;by_cases F:o.kind=16
 ·have R:Rh os es s=some ⟨s.i+1,true,if s.first then Nl s.r o.d 0 else s.r,s.bufs,s.l++[((s.i:Int),(-1:Int))]⟩:=by
   unfold Rh;rw[ho];dsimp only;rw[H6 F]
  rw[R]at j;dsimp only at j;obtain⟨d0,dr⟩:=(z37 jF).2.2 F;obtain⟨dn,C⟩:=H0 d0;have gA:dn<s.r.length:=J
  have j9:=Y.lt;have AP:∀(G7:M9) (s2:Ms),MsH G7 2 1 O (bs.length-1) B b r bs os zE s2→G7[0]?=some (.cells (Ni r bs os) 0)→s2.l=s.l→s2.i=s.i→(⟨s2.i+1,true,s2.r,s2.bufs,s2.l++[((s.i:Int),(-1:Int))]⟩:Ms)=⟨s.i+1,true,if s.first then Nl s.r o.d 0 else s.r,s.bufs,s.l++[((s.i:Int),(-1:Int))]⟩→True:=λ_ _ _ _ _ _ _=>trivial
  cases hf:s.first with
  |true =>
   rw[hf]at j Q;rw[H6 rfl]at j;obtain⟨t2,jG⟩:=E.rr;obtain⟨t1,D⟩:=E.xc;have e1:Oo (s.r.map LV.u) dn [.u 0]=(Nl s.r o.d 0).map LV.u:=by
    rw[zxf (by simpa using gA),Nl,H6 d0,C,Ji];rfl
   have gI:=E.putr (i:=o.d) (v:=0) (st:=t2+1);rw[hC]at D jG E gI gz L;have zg:∀ob:LObj,((P++[LObj.cells [.i o.kind,.i o.d,.i o.e,.i o.a,.i o.b,.i o.c,.i o.buf,.u o.imm] 1]).set 1 ob)[0]?=some (.cells (Ni r bs os) 0):=λob=>(Hy J).trans gz
   rw[F,C]at D jG L zg gI;simp[M,H,Q,K,A,Ni,jQ,gO,gP,hC,F,C,L,D,jG,gA,e1];refine⟨J,MsH.push_ev rfl gI (by show s.l.length≤_;omega) λL' G5 jH gQ gV=>?_⟩;obtain⟨t3,zV⟩:=gI.xc;have jI:G5[2]?=_:=(gQ 2 J).trans zV;simp[-LV.cells,jH,jI,K];have jK:G5[0]?=some (.cells (Ni r bs os) 0):=(gQ 0 J).trans (zg _);rw[←C]at gV;refine⟨J,I _ _ _ ⟨N,J,_,L',rfl,j,Ay,Bd,B7,by simp,by simp,?_,(gV (t3+1)).ctl,Ab,Gj,by show (Nl s.r o.d 0).length=_;rw[zfr];exact gG,gH⟩⟩;rw[Hy J];exact jK
  |false =>
   rw[hf]at j Q;rw[Hx Ad]at j;obtain⟨t1,D⟩:=E.xc;rw[hC]at D E gz L;rw[F]at D L E gz;simp[M,H,Q,K,A,Ni,jQ,gO,gP,hC,F,L,D];refine MsH.push_ev (by rw[Jp];rfl) E J λL' G5 jH gQ gV=>?_
   have jI:G5[2]?=_:=(gQ 2 J).trans D;simp[-LV.cells,jH,jI,K];have jK:G5[0]?=some (.cells (Ni r bs os) 0):=(gQ 0 J).trans gz;refine⟨J,I _ _ _ ⟨N,J,_,L',rfl,j,Ay,Bd,B7,by simp,by simp,?_,(gV (t1+1)).ctl,Ab,Gj,gG,gH⟩⟩;rw[Hy J];exact jK
 by_cases G:o.kind=17
 ·obtain⟨c0,p,hp,zX⟩:=hE s.i o ho G;obtain⟨kn,jL⟩:=H0 c0;have zj:s.i<es.length:=by rw[←jT,endsR_len];simpa using jQ
  have jg:(es.map LV.i)[s.i]?=some (.i (kn:Int)):=by
   rw[←jL];simp[Hw,zj]
  rw[jL]at hp;rw[In]at hp;have zY:=jU _ (Io hp);have zz:=zcl hp;have jM:kn<os.length:=(Hv.1 hp).1;have jz:=zne jM;obtain⟨d0,dr⟩:=(z37 zY).2.2 zX;obtain⟨dn,C⟩:=H0 d0;have gA:dn<s.r.length:=J
  have R:Rh os es s=if atR s.r p.d+1<p.imm then some ⟨kn,false,Nl s.r p.d (atR s.r p.d+1),s.bufs,s.l⟩ else some ⟨s.i+1,s.first,s.r,s.bufs,s.l⟩:=by
   unfold Rh;rw[ho];dsimp only;rw[Hx F,H6 G,jL,In,hp]
  have zZ:atR s.r p.d=s.r.getD dn 0:=by unfold atR;rw[Hx J,C];rfl
  have zA:s.r[dn]=atR s.r p.d:=by rw[zZ];simp[Hw,gA]
  generalize atR s.r p.d=xv at *;rw[R]at j;have j9:=Y.lt;have gY:p.f=[.i p.kind,.i p.d,.i p.e,.i p.a,.i p.b,.i p.c,.i p.buf,.u p.imm]:=rfl;have AQ:0<P.length:=l0;have jO:MsH (P++[LObj.cells o.f 1,LObj.cells p.f 1]) 2 1 O (bs.length-1) B b r bs os zE s:=Y.keep (λq hq=>Nv hq) (by simp);have gE:=p0 [.cells o.f 1,.cells p.f 1];have jP:(P++[LObj.cells o.f 1,LObj.cells p.f 1])[P.length+1]?=some (.cells p.f 1):=by
   rw[Im J,(J:P.length+1-P.length=1)];rfl
  have e1:Oo (s.r.map LV.u) dn [.u (xv+1)]=(Nl s.r p.d (xv+1)).map LV.u:=by
   rw[zxf (by simpa using gA),Nl,H6 d0,C,Ji];rfl
  have zB:=jO.putr (i:=p.d) (v:=xv+1) (st:=t1+1);rw[hC,gY,G,C]at jO gE zB;rw[gY,hC,G,C]at jP;rw[hC,G]at L;rw[C]at e1 j;have jA:p.imm≤xv+1↔¬xv+1<p.imm:=by simp
  by_cases T:xv+1<p.imm
  ·rw[H6 T]at j;simp[M,H,gg,Q,K,A,Ni,jQ,gO,gP,hC,G,L,↓p0,↓p1,↓p2,z0,Nd jg,jM,zz,jz,gY,jP,C,gA,zA,jA,T,e1,Vb]
   repeat (refine⟨J,?_⟩)
   refine I _ _ _ ⟨N,J,_,zE,rfl,j,Ay,Bd,B7,by simp,by simp,?_,?_,by show s.l.length+N≤g;omega,by show kn≤_;omega,by show (Nl s.r (dn:Int) (xv+1)).length=_;rw[zfr];exact gG,gH⟩
   ·rw[Hy J];exact gE
   ·exact zB.ctl
  ·rw[Hx T]at j;simp[M,H,gg,Q,K,A,Ni,jQ,gO,gP,hC,G,L,↓p0,↓p1,↓p2,z0,Nd jg,jM,zz,jz,gY,jP,C,gA,zA,jA,T,e1,Vb]
   repeat (refine⟨J,?_⟩)
   exact I _ _ _ ⟨N,J,_,zE,rfl,j,Ay,Bd,B7,F0,by simp,gE,jO.ctl,by show s.l.length+N≤g;omega,Gj,gG,gH⟩
 have R:Rh os es s=U5 o s:=by
  unfold Rh;rw[ho];dsimp only;rw[Hx F,Hx G]
 rw[R]at j;simp[M,H,K,A,Ni,jQ,gO,gP,hC,F,G];rw[hC]at E gz;cases hd:U5 o s with
 |none=>rw[hd]at j;cases j
 |some s1 =>
 rw[hd]at j;dsimp only at j;have U:=y7 hd;refine do_any E ho jF F G (by rw[gG]) (by rw[Z]) J gH (λe=>by rw[hd]at e;cases e) λs2 G6 L2 e gI zC=>?_
 rw[hd]at e;obtain rfl:=Option.some.inj e;have Ag:G6[0]?=some (.cells (Ni r bs os) 0):=by
  have T:=Y.lt;rw[zC 0 J J J (λe=>by have:=gT 0 e;omega)];exact gz
 have zD:∀x∈s1.bufs,x.length≤65536:=λx hx=>by
  have h1:x.length∈s1.bufs.map List.length:=List.mem_map_of_mem hx;rw[U.b]at h1;obtain⟨y,hy,e⟩:=Mv.1 h1;rw[←e];exact gH y hy
 have e1:=U.i;have e2:=U.l;simp[K];refine⟨J,I _ _ _ ⟨N,J,s1,L2,rfl,j,Ay,Bd,B7,by simp[Q,U.f],by simp[e1],Ag,gI,J,J,by rw[U.r];exact gG,zD⟩⟩

def zvs{f:Fr Lo}{bs:List Bf}{X Y:List (List UInt64)}{gz:Fs→Prop}{c:Cf}(U:CfOk c)(L:c.nb=bs.length)(g:f.AllH c 0)(F:(Qp ((64:Nat):Int) bs f.flat).2=0)(V:f.stp≤16777216)
  (hX:Xu bs X=true) (hY:Xu bs Y=true) (G:1≤bs.length) (M:∀i,i<bs.length→(X.getD i []).length=(Y.getD i []).length) (hx:Tx (Xo (O6 64 bs X)) f (Qz (O6 64 bs X)) gz) :
  ∃(D z:Ms) (t:Fs),Rep bs.length (Xo (O6 64 bs X)) D t∧gz t∧(∀b,¬c.S b→D.bufs.getD b []=(O6 64 bs X).bufs.getD b [])∧D.bufs.length=bs.length∧z.bufs.length=bs.length∧D.l=z.l ∧
   Oz 29 [.agg (Ni ((64:Nat):Int) bs f.flat),LN X] (.tup [LN D.bufs,.lst (Tz D.l) D.l.length 2,.i 0]) ∧
   Oz 29 [.agg (Ni ((64:Nat):Int) bs f.flat),LN Y] (.tup [LN z.bufs,.lst (Tz z.l) z.l.length 2,.i 0]):=by
 have j:=allH_wf g;have A:f.regs bs.length []=true:=L ▸ zbe U N g;have E:f.costZ≤800000000:=by have:=costZ_le f;omega
 obtain⟨gA,Z,t,h1,O,h3,h4,h5,_⟩:=Z2 j A E hx;obtain⟨z,k1,P⟩:=Lock.run_some (zow j) (λo ho=>(allH_flat g o ho).low U) gA _ _ _ (zmb (bs:=bs) (X:=X) (Y:=Y) M) O;have B:Vs Ql 0 f.flat:=by
  have h:=zvc (f:=f) (d:=0) (rest:=[]) j (by unfold Vs;rfl)
  rwa [Jm]at h
 have H:V8 [] 0 f.flat≤16777216:=by rw[zw8 j A J];omega
 have I:Vk 0 [] (List.replicate f.flat.length 0) f.flat=f.ends 0:=by rw[Fr.flat_len];exact zm1 j
 have C:∀(i:Nat) (o:Lo),f.flat[i]?=some o→o.kind=17→0≤(f.ends 0).getD i 0∧∃p,f.flat[((f.ends 0).getD i 0).toNat]?=some p∧p.kind=16:=λi o ho K=>by
  obtain⟨k,p,e1,e2,e3⟩:=ends_at f 0 i o j ho K;rw[Hw,e1];exact⟨N,p,by simpa using e2,e3⟩
 have gg:∀gC:List (List UInt64),(O6 64 bs gC).bufs.length=bs.length:=λgC=>by simp[O6,S0]
 have no:∀b,¬c.S b→∀o∈f.flat,¬(o.kind=15∧o.buf.toNat=b):=λb Q o ho K=>Q (K.2 ▸ (allH_flat g o ho).sto K.1)
 have R:Z.bufs.length=bs.length:=by
  have h:=h4.bl;exact h
 have T:z.bufs.length=bs.length:=by
  have:=congrArg List.length P.bufs;simp only[List.length_map]at this;omega
 refine⟨Z,z,t,h4,h5,λb Q=>(zod (no b Q) gA _ _ O).1,R,T,P.l,z8d F B H hX G I C h1 O h3,z8d F B H hY G I C h1 k1 (by rw[←P.i];exact h3)⟩
section
structure PwV (vs:List Vr) (o:Ko) (d a b c:Nat):Prop where
 hk:o.kind=13
 hv:Qx vs=true
 ho:Oc vs o=true
 fd:o.d=d∧d<vs.length
 fa:o.a=a∧a<vs.length
 fb:o.b=b∧b<vs.length
 fc:o.c=c∧c<vs.length
 e:o.e=-1
 la:(gv vs a).limbs=(gv vs d).limbs
 lc:(gv vs c).limbs=(gv vs d).limbs
 w:1≤o.imm.toNat∧o.imm.toNat≤6
 md:Sc (gv vs d)=false
 sec:(gv vs d).sec=false→(gv vs a).sec=false∧(gv vs b).sec=false∧(gv vs c).sec=false
def lpsL_len':∀(n:Nat) (i:Int),(P8 n i).length=n
 |0,_=>rfl
 |n+1,i=>by rw[P8,Ih,lpsL_len']
section pl
variable {vs : List Vr} {o : Ko} {d a b c : Nat}
def qq(h:PwV vs o d a b c):R8 vs o=(4*(gv vs d).limbs+(gv vs b).limbs+3)+(gv vs d).limbs*((2^o.imm.toNat:Nat):Int):=by
 unfold R8;have hm:Sw vs o=true:=by rw[zvk,h.hv,h.ho];simp[zor,h.hk]
 rw[H6 (by rw[hm];simp[h.hk])];have g:Pl vs o.c=(gv vs d).limbs:=by unfold Pl;rw[h.fc.1,In,h.lc]
 have j:Pl vs o.b=(gv vs b).limbs:=by unfold Pl;rw[h.fb.1,In]
 rw[g,j]
 push_cast
 generalize (2:Int)^o.imm.toNat=x;generalize (gv vs d).limbs=y
 grind
def Pq(vs:List Vr)(o:Ko):Pw:=pwOf vs o (Sq vs) ⟨vs.length,0,R8 vs o⟩ ⟨(vs.length:Int)+1,0,R8 vs o⟩
def O4(vs:List Vr)(d:Nat):Nat:=if (gv vs d).sec=true then vs.length+1 else vs.length
def pub_d(h:PwV vs o d a b c):R4 vs o.d=!(gv vs d).sec:=by
 unfold R4;rw[h.fd.1];have:=h.fd.2;simp[this]
structure PwF (vs:List Vr) (o:Ko) (d a b c:Nat) (p:Pw):Prop where
 pd:p.d=⟨d,0,(gv vs d).limbs.toNat⟩
 pa:p.a=⟨a,0,(gv vs d).limbs.toNat⟩
 pb:p.b=⟨b,0,(gv vs b).limbs.toNat⟩
 pn:p.n=⟨c,0,(gv vs d).limbs.toNat⟩
 wb:p.wb=O4 vs d
 wa:p.wa=0
 k:p.k=(gv vs d).limbs.toNat
 w:p.w=o.imm.toNat
 ti:p.times*p.w=64*p.b.k+p.over
 ov:p.over≤63∧p.over<p.w
 t4:p.times≤40000
 B:p.B=if (gv vs d).sec=true then 40 else 16
def pwF(h:PwV vs o d a b c):PwF vs o d a b c (Pq vs o):=by
 have K:=Tp h.hv h.fb.2;have E:o.d.toNat=d:=by have:=h.fd.1;omega
 have F:o.a.toNat=a:=by have:=h.fa.1;omega
 have g:o.b.toNat=b:=by have:=h.fb.1;omega
 have C:o.c.toNat=c:=by have:=h.fc.1;omega
 have G:=zev h.fd.2;have H:=zev h.fa.2;have j:=zev h.fb.2;have D:=zev h.fc.2;have z:((gv vs b).limbs.toNat:Int)=(gv vs b).limbs:=J
 obtain⟨t,v,A,B,I,L,M,O⟩:=zn (l:=(gv vs b).limbs.toNat) (w:=o.imm.toNat) J h.w;rw[z]at A B;refine⟨?_,?_,?_,?_,?_,?_,?_,rfl,?_,?_,?_,?_⟩
 ·show Sn _=_;rw[E,G];simp[Sn]
 ·show Sn _=_;rw[F,H];simp[Sn,h.la]
 ·show Sn _=_;rw[g,j];simp[Sn]
 ·show Sn _=_;rw[C,D];simp[Sn,h.lc]
 ·show (V7 vs o _ _).buf.toNat=_;unfold V7 O4;rw[pub_d h];cases (gv vs d).sec<;>simp<;>omega
 ·show (V7 vs o _ _).at_.toNat=_;unfold V7;split<;>rfl
 ·show (Q0 _ _).size.toNat=_;rw[C,D];simp[h.lc]
 ·show (Xm (Q0 _ _).size _).toNat*o.imm.toNat=64*(Sn (Q0 _ _)).k+(Ym (Q0 _ _).size _).toNat;rw[g,j,A,B];simp only[Sn,In];exact I
 ·show (Ym (Q0 _ _).size _).toNat≤63∧(Ym (Q0 _ _).size _).toNat<o.imm.toNat;rw[g,j,B];simp only[In];omega
 ·show (Xm (Q0 _ _).size _).toNat≤40000;rw[g,j,A];simp only[In];omega
 ·show (wx vs o).toNat=_;unfold wx;rw[pub_d h];cases (gv vs d).sec<;>simp
def zyt(h:PwV vs o d a b c):1≤R8 vs o∧R8 vs o≤40000∧R8 vs o=((4*(gv vs d).limbs.toNat+(gv vs b).limbs.toNat+3+(gv vs d).limbs.toNat*2^o.imm.toNat:Nat):Int):=by
 have hd:=Tp h.hv h.fd.2;have A:=Tp h.hv h.fb.2;have g:=zay h.w.2;have e:R8 vs o=((4*(gv vs d).limbs.toNat+(gv vs b).limbs.toNat+3+(gv vs d).limbs.toNat*2^o.imm.toNat:Nat):Int):=by
  rw[qq h];obtain⟨x,j⟩:=H0 (J:0≤(gv vs d).limbs);obtain⟨y,z⟩:=H0 (J:0≤(gv vs b).limbs);rw[j,z];simp only[In]
  push_cast;rfl
 have hm:(gv vs d).limbs.toNat*2^o.imm.toNat≤512*64:=J1 J g;rw[e];omega
structure PwL (vs:List Vr) (o:Ko):Prop where
 n:vs.length≤30
 m:∀i,i<vs.length→(gv vs i).mode=0
 w:R8 vs o≤32768
def wb_at:Nw (N0 vs (R8 vs o)) (O4 vs d)=⟨R8 vs o,2,(gv vs d).sec⟩:=by
 unfold O4;cases g:(gv vs d).sec with
 |true=>rw[H6 rfl,plB_w1]
 |false=>rw[Hx N,plB_w0]
def zxr(vs:List Vr)(d:Nat):vs.length≤O4 vs d∧O4 vs d<vs.length+2:=by unfold O4;split<;>omega
def zy3{i:Nat}{n:Nat}(hv:Qx vs=true)(hi:i<vs.length)(g:(n:Int)=(gv vs i).limbs){W:Int}:Bp (N0 vs W) ⟨i,0,n⟩∧Bw (N0 vs W) ⟨i,0,n⟩:=by
 have j:=Tp hv hi;refine⟨⟨by rw[plB_len];simp only;omega,?_,?_⟩,?_⟩
 ·simp only;rw[Up hi];simp only;omega
 ·simp only;rw[Up hi];simp only;omega
 ·unfold Bw;rw[Up hi];simp
def pl_G(h:PwV vs o d a b c):PwG (N0 vs (R8 vs o)) (Pq vs o):=by
 have f:=pwF h;have hd:=Tp h.hv h.fd.2;have A:=Tp h.hv h.fb.2;have j:=h.la;have z:=h.lc;have hw:=zyt h;generalize Pq vs o=p at *;have g:((gv vs d).limbs.toNat:Int)=(gv vs d).limbs:=J
 refine⟨?_,?_,?_,?_,?_,?_,?_,?_,?_,?_,?_,?_,?_,?_,f.ov.1,?_⟩
 ·rw[f.B];split<;>omega
 ·rw[f.pd];exact (zy3 h.hv h.fd.2 g).1
 ·rw[f.pd];exact (zy3 h.hv h.fd.2 g).2
 ·rw[f.pa];exact (zy3 h.hv h.fa.2 J).1
 ·rw[f.pb];exact (zy3 h.hv h.fb.2 J).1
 ·rw[f.pn];exact (zy3 h.hv h.fc.2 J).1
 ·rw[f.wb,plB_len];exact (zxr vs d).2
 ·rw[f.wb,wb_at,f.wa,f.k,f.pb,f.w];simp only;rw[hw.2.2];omega
 ·rw[f.wb,wb_at];simp only;omega
 ·rw[f.wb,wb_at];simp
 ·rw[f.k];omega
 ·rw[f.pn];simp only;omega
 ·rw[f.w];exact h.w
 ·have:=f.t4;omega
 ·rw[f.pb];simp only;omega
def i6(vs:List Vr)(d a b c:Nat):Cf:=⟨vs.length+2,if (gv vs d).sec=true then 40 else 16,24,0,7,12,13,λx=>x=d∨x=a∨x=b∨x=c∨x=O4 vs d,λx=>x=d∨x=O4 vs d⟩
def cfP_ok:CfOk (i6 vs d a b c):=by
 refine⟨?_,by simp[i6],by simp[i6]⟩;simp only[i6];split<;>omega
def pl_C(h:PwV vs o d a b c):PwC (i6 vs d a b c) (Pq vs o):=by
 have f:=pwF h;have hd:=Tp h.hv h.fd.2;have g:=Tp h.hv h.fb.2;have j:=h.fd.2;have z:=h.fa.2;have A:=h.fb.2;have B:=h.fc.2;have hw:=zxr vs d;generalize Pq vs o=p at *;refine⟨?_,by simp[i6],?_,?_,?_,?_,?_,?_,?_,?_,?_,?_,?_⟩
 ·rw[f.B];simp only[i6];split<;>omega
 ·rw[f.pd];exact⟨Ds,.inl rfl⟩
 ·rw[f.pa];exact⟨Ds,.inr (.inl rfl)⟩
 ·rw[f.pb];exact⟨Ds,.inr (.inr (.inl rfl))⟩
 ·rw[f.pn];exact⟨Ds,.inr (.inr (.inr (.inl rfl)))⟩
 ·rw[f.wb];exact .inr (.inr (.inr (.inr rfl)))
 ·rw[f.wb];exact .inr rfl
 ·rw[f.wb];simp only[i6];omega
 ·rw[f.k];omega
 ·rw[f.w];exact h.w.2
 ·have:=f.t4;omega
 ·rw[f.pb];simp only;omega
def zq2(bs:List Bf)(X:List (List UInt64)):Prop:=X.length=bs.length∧∀i,i<bs.length→((X.getD i []).length:Int)=(Nw bs i).size
def pl_S(h:PwV vs o d a b c){X:List (List UInt64)}(z:zq2 (N0 vs (R8 vs o)) X):PwS (Xo (O6 64 (N0 vs (R8 vs o)) X)) (Pq vs o):=by
 have f:=pwF h;have g:=pl_G h;have hd:=Tp h.hv h.fd.2;have A:=h.fd.2;have B:=h.fa.2;have C:=h.fb.2;have D:=h.fc.2;have hw:=zxr vs d;have hi:∀q:Pn,Bp (N0 vs (R8 vs o)) q→q.in_ (Xo (O6 64 (N0 vs (R8 vs o)) X)):=λq j=>zui (z.2 _ j.b) j
 generalize Pq vs o=p at *;refine⟨g.B,hi _ g.d,hi _ g.a,hi _ g.b,hi _ g.n,hi _ ⟨g.wb,?_,g.w6⟩,g.k.1,g.k.2,?_,?_,?_,?_,?_,?_,?_,?_,g.w,f.ov.1,f.ti⟩
 ·have:=g.wz;simp only[Pw.wk];omega
 ·rw[f.pd,f.k]
 ·rw[f.pa,f.k]
 ·rw[f.pn,f.k]
 ·rw[f.pd,f.wb];simp only;omega
 ·rw[f.pa,f.wb];simp only;omega
 ·rw[f.pb,f.wb];simp only;omega
 ·rw[f.pn,f.wb];simp only;omega
 ·rw[f.pd,f.pn];by_cases q:d=c
  ·exact .inr ⟨q,rfl⟩
  ·exact .inl (.inl q)
def zpq{X:List (List UInt64)}(g:zq2 (N0 vs (R8 vs o)) X):Xu (N0 vs (R8 vs o)) X=true:=by
 unfold Xu;refine Jj ⟨g.1,λi hi=>?_⟩;rw[g.2 i hi];have:(Nw (N0 vs (R8 vs o)) i).kind=2:=by
  rw[plB_len]at hi;by_cases q:i<vs.length
  ·rw[Up q]
  ·by_cases j:i=vs.length
   ·rw[j,plB_w0]
   ·rw[(J:i=vs.length+1),plB_w1]
 rw[this];simp
def gc(h:PwV vs o d a b c)(U:PwL vs o)(hk:(gv vs d).limbs≤3)(V:(gv vs b).limbs=1)(hd:g≤4){X Y:List (List UInt64)}(j:zq2 (N0 vs (R8 vs o)) X)(Z:zq2 (N0 vs (R8 vs o)) Y) :
  ∃(z B:Ms),z.bufs.length=vs.length+2∧B.bufs.length=vs.length+2∧z.l=B.l∧(∀i,i<vs.length+2→i≠d→i≠O4 vs d→z.bufs.getD i []=X.getD i []) ∧
   (z.bufs.getD d []).length=(gv vs d).limbs.toNat∧((X.getD c []).getD 0 0%2=1→val (X.getD a [])<val (X.getD c [])→val (z.bufs.getD d [])=val (X.getD a [])^val (X.getD b [])%val (X.getD c [])) ∧
   Oz 29 [.agg (Ni ((64:Nat):Int) (N0 vs (R8 vs o)) ((Pq vs o).prog g).flat),LN X] (.tup [LN z.bufs,.lst (Tz z.l) z.l.length 2,.i 0]) ∧
   Oz 29 [.agg (Ni ((64:Nat):Int) (N0 vs (R8 vs o)) ((Pq vs o).prog g).flat),LN Y] (.tup [LN B.bufs,.lst (Tz B.l) B.l.length 2,.i 0]):=by
 have f:=pwF h;have gz:=pl_G h;have hc:=pl_C h;have hS:=pl_S h j;have gg:=Tp h.hv h.fd.2;have hw:=zyt h;have A:(N0 vs (R8 vs o)).length=vs.length+2:=plB_len;have l1:=h.fd.2;have l2:=h.fa.2;have l3:=h.fb.2;have l4:=h.fc.2;have E:=zo1 (W:=R8 vs o) h.hv ⟨hw.1,U.w⟩;have G:(Pq vs o).times≤64:=by
  have h1:=f.ti;have h2:=f.ov;have h3:=f.w;have h4:=h.w;rw[f.pb,V]at h1;have h5:(Pq vs o).times*(Pq vs o).w≤64+((Pq vs o).w-1):=by
   have e:((⟨b,0,(1:Int).toNat⟩:Pn).k)=1:=rfl;rw[h1,e];omega
  generalize (Pq vs o).times=t at *;generalize (Pq vs o).w=w at *;have H:w=1∨w=2∨w=3∨w=4∨w=5∨w=6:=J
  rcases H with rfl|rfl|rfl|rfl|rfl|rfl<;>omega
 have hp:=Pw.prog_all (p:=Pq vs o) (e:=g) hc rfl rfl hd;have F:=Pw.prog_stp (p:=Pq vs o) (e:=g) hd (by rw[f.k];omega) (by rw[f.w];exact h.w.2) G (by rw[f.pb,V];exact L6 1);have I:((Pq vs o).prog g).flat.length≤65536:=by
  unfold Pw.prog;rw[wrap_flat];have:=ua (p:=Pq vs o) (D:=g);have K:(P8 g 0).length=g:=lpsL_len' g 0;simp[K];omega
 have L:=Pw.prog_chk gz hd (by rw[A];have:=U.n;omega) E I;have M:=Pw.prog_ex (s0:=Qz (O6 64 (N0 vs (R8 vs o)) X)) hS hd;obtain⟨z,B,t,r1,r2,r3,r4,r5,r6,r7,r8⟩:=zvs (X:=X) (Y:=Y) cfP_ok Eg hp L F (zpq j) (zpq Z) J (λi hi=>by have:=j.2 i hi;have:=Z.2 i hi;omega) M;rw[A]at r4 r5;have C:(z.bufs.getD d []).length=(gv vs d).limbs.toNat:=by
  rw[r1.len d J,zew (j.2 d J) J,Up h.fd.2]
 refine⟨z,B,r4,r5,r6,λi hi O P=>?_,C,λho Q=>?_,r7,r8⟩
 ·rw[r3 i (λq=>by rcases q with q|q;exact O q;exact P q),zfe (j.2 i J) J]
 ·have R:∀i,i<vs.length→((X.getD i []).length:Int)=(gv vs i).limbs:=λi hi=>by
   have:=j.2 i J;rw[Up hi]at this;exact this
  have va:vl (pl (Qz (O6 64 (N0 vs (R8 vs o)) X)).m (Pq vs o).a) (Pq vs o).k=val (X.getD a []):=by
   rw[f.pa,f.k];exact zi5 (p:=⟨a,0,_⟩) (j.2 a J) Bt rfl (by simp only;have:=R a l2;have:=h.la;omega)
  have vb:vl (pl (Qz (O6 64 (N0 vs (R8 vs o)) X)).m (Pq vs o).b) (Pq vs o).b.k=val (X.getD b []):=by
   rw[f.pb];exact zi5 (p:=⟨b,0,_⟩) (j.2 b J) Bt rfl (by simp only;have:=R b l3;omega)
  have vn:vl (pl (Qz (O6 64 (N0 vs (R8 vs o)) X)).m (Pq vs o).n) (Pq vs o).k=val (X.getD c []):=by
   rw[f.pn,f.k];exact zi5 (p:=⟨c,0,_⟩) (j.2 c J) Bt rfl (by simp only;have:=R c l4;have:=h.lc;omega)
  have vo:pl (Qz (O6 64 (N0 vs (R8 vs o)) X)).m (Pq vs o).n 0=(X.getD c []).getD 0 0:=by
   rw[f.pn];show (Qz (O6 64 (N0 vs (R8 vs o)) X)).m c (0+0)=_;rw[zt5 (j.2 c J) J]
  obtain⟨_,hv⟩:=r2 ⟨by rw[vo];exact ho,by rw[va,vn];exact Q⟩;rw[va,vb,vn]at hv;have T:(Pq vs o).k=(gv vs d).limbs.toNat:=f.k;rw[←hv,f.pd,T];refine (vl_get J λi hi=>?_).symm;show t.m d (0+i)=_;rw[Iz];have hm:=r1.m d i J;rw[zew (j.2 d J) J,Up h.fd.2]at hm;exact (hm Bt).symm
end pl
end
def uo{f:Fr Lo}{bs:List Bf}{X:List (List UInt64)}{Q:Fs→Prop}{c:Cf}(V:CfOk c)(L:c.nb=bs.length)(g:f.AllH c 0)(F:(Qp ((64:Nat):Int) bs f.flat).2=0)(Z:f.stp≤16777216)
  (hX:Xu bs X=true) (G:1≤bs.length) (hx:Tx (Xo (O6 64 bs X)) f (Qz (O6 64 bs X)) Q) :
  ∃(z:Ms) (t:Fs),Rep bs.length (Xo (O6 64 bs X)) z t∧Q t∧(∀b,¬c.S b→z.bufs.getD b []=(O6 64 bs X).bufs.getD b [])∧z.bufs.length=bs.length∧z.l.length≤800000000 ∧
   Oz 29 [.agg (Ni ((64:Nat):Int) bs f.flat),LN X] (.tup [LN z.bufs,.lst (Tz z.l) z.l.length 2,.i 0]) ∧
   ∀Y:List (List UInt64),Xu bs Y=true→(∀i,i<bs.length→(X.getD i []).length=(Y.getD i []).length)→∃A:Ms,A.bufs.length=bs.length∧z.l=A.l∧Oz 29 [.agg (Ni ((64:Nat):Int) bs f.flat),LN Y] (.tup [LN A.bufs,.lst (Tz A.l) A.l.length 2,.i 0]):=by
 have j:=allH_wf g;have B:f.regs bs.length []=true:=L ▸ zbe V N g;have E:f.costZ≤800000000:=by have:=costZ_le f;omega
 obtain⟨gz,s',t,h1,M,h3,h4,h5,h6⟩:=Z2 j B E hx;have C:Vs Ql 0 f.flat:=by
  have h:=zvc (f:=f) (d:=0) (rest:=[]) j (by unfold Vs;rfl)
  rwa [Jm]at h
 have H:V8 [] 0 f.flat≤16777216:=by rw[zw8 j B J];omega
 have I:Vk 0 [] (List.replicate f.flat.length 0) f.flat=f.ends 0:=by rw[Fr.flat_len];exact zm1 j
 have D:∀(i:Nat) (o:Lo),f.flat[i]?=some o→o.kind=17→0≤(f.ends 0).getD i 0∧∃p,f.flat[((f.ends 0).getD i 0).toNat]?=some p∧p.kind=16:=λi o ho K=>by
  obtain⟨k,p,e1,e2,e3⟩:=ends_at f 0 i o j ho K;rw[Hw,e1];exact⟨N,p,by simpa using e2,e3⟩
 have gg:∀gA:List (List UInt64),(O6 64 bs gA).bufs.length=bs.length:=λgA=>by simp[O6,S0]
 have no:∀b,¬c.S b→∀o∈f.flat,¬(o.kind=15∧o.buf.toNat=b):=λb O o ho K=>O (K.2 ▸ (allH_flat g o ho).sto K.1)
 have P:s'.bufs.length=bs.length:=by
  have h:=h4.bl;exact h
 refine⟨s',t,h4,h5,λb O=>(zod (no b O) gz _ _ M).1,P,J,z8d F C H hX G I D h1 M h3,λY hY R=>?_⟩;obtain⟨A,k1,T⟩:=Lock.run_some (zow j) (λo ho=>(allH_flat g o ho).low V) gz _ _ _ (zmb (bs:=bs) (X:=X) (Y:=Y) R) M;have U:A.bufs.length=bs.length:=by
  have:=congrArg List.length T.bufs;simp only[List.length_map]at this;omega
 exact⟨A,U,T.l,z8d F C H hY G I D h1 k1 (by rw[←T.i];exact h3)⟩

def zbj:LC:=(.q [.K 4 0] (.seq (.q [.m 8 0,.s 9 8,.m 10 1,.s 11 10,.z 12 (.maxi true (.t 9) (.t 11)),.b 13 .sub 3 12 1,.m 5 13] (.block 0 (.loop (.seq (.q [.m 14 5,.b 15 .geq 3 14 0] (.cond (.t 15) .skip (.exit 0))) (.seq (.block 1 (.q [.m 18 0,.m 19 5,.W 20 130 18 19,.m 21 1,.m 22 5,.W 23 130 21 22,.m 6 20,.m 7 23] (.seq (.q [.m 24 6,.m 25 7,.c 26 .lss 23 24 25] (.cond (.t 26) (.q [.K 4 (-1)] .ret) .skip)) (.q [.m 27 6,.m 28 7,.c 29 .gtr 23 27 28] (.cond (.t 29) (.q [.K 4 1] .ret) .skip))))) (.ops [.m 16 5,.b 17 .sub 3 16 1,.m 5 17])))))) (.q [.K 4 0] .ret)))
def r_ref02_Compare:Nm Tryz.prog 66=some ⟨30,zbj.r,[.tmp 4]⟩:=Aa
def zjh:LC:=(.q [.e 4,.K 5 0] (.seq (.q [.m 10 0,.m 11 1,.W 12 66 10 11,.b 13 .lss 3 12 0] (.cond (.t 13) (.q [.e 4,.K 5 2] .ret) .skip)) (.q [.e 6] (.q [.F 7] (.seq (.q [.K 8 0] (.block 0 (.loop (.seq (.q [.m 14 8,.m 15 0,.s 16 15,.m 17 1,.s 18 17,.z 19 (.maxi true (.t 16) (.t 18)),.c 20 .lss 3 14 19] (.cond (.t 20) .skip (.exit 0))) (.seq (.block 1 (.q [.z 9 (.move (.c (.u 0)))] (.q [.m 24 0,.m 25 8,.W 26 130 24 25,.m 27 1,.m 28 8,.W 29 130 27 28,.m 30 7,.V 31 147 26 29 30,.m 23 31,.X 32 0 23,.X 33 1 23,.m 9 32,.m 7 33] (.ops [.m 34 6,.m 35 9,.z 36 (.buildSl 1 1 [(.u 0)] [(0,1,.t 35)]),.a 37 1 34 36,.m 6 37])))) (.ops [.m 21 8,.b 22 .add 3 21 1,.m 8 22])))))) (.q [.m 38 6,.w 39 84 38,.m 4 39,.K 5 0] .ret))))))
def r_ref02_Sub:Nm Tryz.prog 83=some ⟨40,zjh.r,[.tmp 4,.tmp 5]⟩:=Aa
def zgv:LC:=(.q [.K 2 0] (.q [.m 3 0,.w 4 84 3,.m 0 4] (.seq (.q [.m 5 0,.s 6 5,.b 7 .eql 3 6 0] (.cond (.t 7) (.q [.K 2 0] .ret) .skip)) (.q [.m 8 0,.s 9 8,.b 10 .sub 3 9 1,.z 11 (.bin .mul true 3 (.k 64) (.t 10)),.m 12 0,.m 13 0,.s 14 13,.b 15 .sub 3 14 1,.I 16 1 12 15,.l 17 16,.w 18 146 17,.c 19 .add 3 11 18,.m 2 19] .ret))))
def r_ref02_Bits:Nm Tryz.prog 80=some ⟨20,zgv.r,[.tmp 2]⟩:=Aa
def zdt:LC:=(.q [.F 4] (.q [.m 5 1,.b 6 .geq 3 5 0,.m 7 6,.my 8 7 0,.my 9 7 1,.y 10 7 (.bin .quo true 3 (.t 9) (.k 64)),.y 11 7 (.w 130 [.t 8,.t 10]),.my 12 7 1,.y 13 7 (.bin .rem true 3 (.t 12) (.k 64)),.y 14 7 (.cvInt .u64 (.t 13)),.y 15 7 (.bin .shr false 23 (.t 11) (.t 14)),.y 16 7 (.bin .and true 23 (.t 15) (.c (.u 1))),.y 17 7 (.bin .eql true 23 (.t 16) (.c (.u 1))),.q 18 7 17,.m 4 18] .ret))
def r_ref02_Bit:Nm Tryz.prog 82=some ⟨19,zdt.r,[.tmp 4]⟩:=Aa
def zgr:LC:=(.q [.F 4] (.q [.m 5 0,.m 6 1,.W 7 66 5 6,.b 8 .eql 3 7 0,.m 4 8] .ret))
def r_ref02_Same:Nm Tryz.prog 150=some ⟨9,zgr.r,[.tmp 4]⟩:=Aa
def znb(a:List UInt64)(D:a.length≤1000000):Nj 80 [LU a] (.i (P6 (val a))) []:=by
 refine Od.val rfl (Nn r_ref02_Bits Aa N ?_);simp[zgv];refine Ns (bm a J) N ?_;have E:=z2u a;cases g:(Nu (val a)).length with
 |zero =>
  have C:val a=0:=zg0.1 (Iq g);simp[RU,C,toL_zero,blen_zero]
 |succ n =>
  have B:=lj (Trm_toL (val a)) g;rw[Sg]at B;have z:¬((n:Int)+1=0):=J
  have A:((n:Int)+1-1).toNat=n:=J
  have j:Nu (val a)≠[]:=λe=>by rw[e]at g;simp at g
  simp[RU,g,z,A,j];refine⟨J,J,J,J,?_⟩;refine Ns (znz ((Nu (val a)).getD n 0)) Av ?_;have F:P6 ((Nu (val a)).getD n 0).toNat≤64:=zu1 (UInt64.toNat_lt _);rw[B];generalize P6 ((Nu (val a)).getD n 0).toNat=x at *;simp;omega
def zgg(a:List UInt64)(i:Int)(hi:i<9223372036854775808):Nj 82 [LU a,.i i] (.bool (decide (0≤i)&&(val a).testBit i.toNat)) []:=by
 refine Od.val rfl (Nn r_ref02_Bit Aa N ?_);by_cases j:0≤i
 ·obtain⟨n,rfl⟩:=H0 j;have A:=bit_at a n;have z:(n:Int)/64=(n/64:Nat):=J
  have B:(n:Int).tmod 64=(n%64:Nat):=by rw[M4 J];omega
  have hu:=bit_u' (a.getD (n/64) 0) (n%64);rw[A]at hu;have g:(iU ((n%64:Nat):Int)).toNat=n%64:=Vu J;simp[zdt];refine⟨J,?_⟩;rw[z];refine Ns (z3d a (n/64:Nat)) N ?_;simp;rw[z,B,g];simp at hu;simp only[In,Jr,Jo];rw[hu];cases (val a).testBit n<;>simp
 ·simp[zdt,j]
def z25(a b:List UInt64)(F:a.length≤1000000)(G:b.length≤1000000):Nj 66 [LU a,LU b] (.i (Qi (val a) (val b))) []:=by
 refine Od.val rfl (Nn r_ref02_Compare Aa (by simp) ?_);simp[zbj];refine⟨J,?_⟩;refine O8 (λD E H N=>E=[]∧N≤1000000∧lk D 0=LU a∧lk D 1=LU b∧lk D 5=.i ((N:Int)-1)∧Qi (val a) (val b)=Qi (val (a.take N)) (val (b.take N))) (N:=max a.length b.length) ⟨by simp,J,by simp,by simp,Ab,by rw[z4y J,z4y J]⟩ ?_;rintro N D E H ⟨rfl,I,C,z,j,g⟩ K A;cases N with
 |zero =>
  simp[j];rw[g];simp[val,Qi]
 |succ N =>
  have e:((N+1:Nat):Int)-1=N:=J
  rw[e]at j;simp[C,z,j];refine Ns (z3d a N) (by simp) ?_;simp[z,j];refine Ns (z3d b N) (by simp) ?_;rw[ou]at g;simp at g;simp;rw[g];generalize a[N]?.getD 0=x at *;generalize b[N]?.getD 0=y at *;refine⟨λl=>by rw[H6 l],λl=>⟨λB=>by rw[Hx (M7.2 l),H6 B],λB=>?_⟩⟩;rw[Hx (M7.2 l),Hx (M7.2 B)]at g;simp[j];exact⟨J,A _ _ _ ⟨N,J,rfl,J,Al,Ae,by simp,g⟩⟩
def zo3(a b:List UInt64)(g:a.length≤1000000)(j:b.length≤1000000):Nj 150 [LU a,LU b] (.bool (decide (val a=val b))) []:=by
 refine Od.val rfl (Nn r_ref02_Same Aa N ?_);simp[zgr];refine Ns (z25 a b g j) N ?_;simp[zu8]
def zbk(a b:List UInt64)(K:a.length≤1000000)(L:b.length≤1000000):Nj 83 [LU a,LU b] (.tup [.dy 0 0,.i (if val a<val b then 2 else 0)]) [RU (if val a<val b then [] else Nu (val a-val b))]:=by
 refine Od.rowE (Nn r_ref02_Sub Aa (by simp) ?_);simp[zjh];refine Ns (z25 a b K L) (by simp) ?_;by_cases z:val a<val b
 ·simp[zo5,z,Q9]
 simp[zo5,zib,z];refine O8 (λH U V I=>∃(i:Nat) (c:Bool) (g:List UInt64),U=[]∧I+i=max a.length b.length∧lk H 0=LU a∧lk H 1=LU b∧lk H 8=.i i∧lk H 7=.bool c∧Q9 V (lk H 6) g∧g.length=i ∧
  val g+val (b.take i)=val (a.take i)+2^(64*i)*c.toNat) (N:=max a.length b.length) ⟨0,false,[],by simp[Q9,val]⟩ ?_
 rintro I H U V ⟨i,c,g,rfl,X,D,B,C,M,E,j,hv⟩ Y F;by_cases O:I=0
 ·subst O;have G:¬(i:Int)<max (a.length:Int) (b.length:Int):=J
  simp[D,B,C,G];obtain⟨P,Q⟩:=sub_end (m:=i) J J j hv;refine z9d (bm g J) (zxi E.bor) ?_;have R:c=false:=by cases c with
   |true=>exact absurd (P.1 rfl) z
   |false=>rfl
  rw[Q R];simpa using Q9.new
 ·have A:(i:Int)<max (a.length:Int) (b.length:Int):=J
  simp[D,B,C,A];refine Ns (z3d a i) (by simp) ?_;simp[B,C];refine Ns (z3d b i) (by simp) ?_;simp[M];refine Ns (zgi (a.getD i 0) (b.getD i 0) c) (by simp) ?_;simp[E];refine zun (E.app _) (xs:=[(Ot (a.getD i 0) (b.getD i 0) c).1]) rfl (by simp) J (λZ G' T _=>?_);simp[C];refine⟨J,F _ _ _ ⟨I-1,J,i+1,(Ot (a.getD i 0) (b.getD i 0) c).2,_,rfl,J,Ao,An,by simp,by simp,by simpa using T,Ah,ul j hv⟩⟩
def zkn:LC:=(.q [.e 4] (.q [.m 15 0,.w 16 84 15,.m 17 1,.w 18 84 17,.m 0 16,.m 1 18] (.q [.m 19 0,.s 20 19,.m 21 1,.s 22 21,.c 23 .add 3 20 22,.z 24 (.mkSl 1 [(.u 0)] (.t 23) (.t 23)),.m 5 24] (.seq (.q [.K 6 0] (.block 0 (.loop (.seq (.q [.m 25 6,.m 26 0,.s 27 26,.c 28 .lss 3 25 27] (.cond (.t 28) .skip (.exit 0))) (.seq (.block 1 (.q [.z 7 (.move (.c (.u 0)))] (.seq (.q [.K 8 0] (.block 2 (.loop (.seq (.q [.m 31 8,.m 32 1,.s 33 32,.c 34 .lss 3 31 33] (.cond (.t 34) .skip (.exit 2))) (.seq (.block 3 (.seq (.draw [(.m 38 0,[]),(.m 39 6,[]),(.I 40 1 38 39,[]),(.l 41 40,[]),(.m 42 1,[]),(.m 43 8,[]),(.I 44 1 42 43,[]),(.l 45 44,[]),(.W 46 91 41 45,[]),(.m 37 46,[]),(.X 47 0 37,[]),(.X 48 1 37,[]),(.m 9 47,[]),(.m 10 48,[])]) (.q [.m 50 5,.m 51 6,.m 52 8,.c 53 .add 3 51 52,.I 54 1 50 53,.l 55 54,.m 56 10,.z 57 (.w 92 [.t 55,.t 56,.F]),.m 49 57,.X 58 0 49,.X 59 1 49,.m 11 58,.m 12 59] (.q [.m 61 11,.m 62 7,.z 63 (.w 92 [.t 61,.t 62,.F]),.m 60 63,.X 64 0 60,.X 65 1 60,.m 13 64,.m 14 65] (.q [.m 66 5,.m 67 6,.m 68 8,.c 69 .add 3 67 68,.m 70 13,.I 71 1 66 69,.S 1 71 70] (.q [.m 73 9,.m 74 12,.z 75 (.w 92 [.t 73,.c (.u 0),.t 74]),.m 72 75,.X 76 0 72,.X 77 1 72,.m 7 76] (.ops [.m 79 7,.m 80 14,.z 81 (.w 92 [.t 79,.c (.u 0),.t 80]),.m 78 81,.X 82 0 78,.X 83 1 78,.m 7 82]))))))) (.ops [.m 35 8,.b 36 .add 3 35 1,.m 8 36])))))) (.ops [.m 84 5,.m 85 6,.m 86 1,.s 87 86,.c 88 .add 3 85 87,.m 89 7,.I 90 1 84 88,.S 1 90 89])))) (.ops [.m 29 6,.b 30 .add 3 29 1,.m 6 30])))))) (.q [.m 91 5,.w 92 84 91,.m 4 92] .ret)))))
def r_ref02_Mul:Nm Tryz.prog 31=some ⟨93,zkn.r,[.tmp 4]⟩:=Aa
def zh8(G H:List UInt64)(gH:G.length≤500000)(gI:H.length≤500000):Nj 31 [LU G,LU H] (.dy 0 0) [RU (Nu (val G*val H))]:=by
 refine Od.row (Nn r_ref02_Mul Aa (by simp) ?_);simp[zkn];refine Ns (bm G J) (by simp) ?_;simp[RU];refine Ns (bm H J) (by simp) ?_;have U:=z2u G;have V:=z2u H;obtain⟨a,X⟩:∃a,Nu (val G)=a:=⟨_,rfl⟩;obtain⟨b,Y⟩:∃b,Nu (val H)=b:=⟨_,rfl⟩;have va:val G=val a:=by rw[←X,Sg]
 have vb:val H=val b:=by rw[←Y,Sg]
 rw[X]at U;rw[Y]at V;rw[X,Y,va,vb];have ha:a.length≤500000:=J
 have hb:b.length≤500000:=J
 simp[RU];refine⟨J,J,J,?_⟩;have Z:((a.length:Int)+b.length).toNat=a.length+b.length:=J
 simp[Z,repU];refine O8 (λL gE gF N=>∃(i:Nat) (g:List UInt64) (st:Nat),gE=[]∧N+i=a.length∧gF=[.dyn (g.map .u) (a.length+b.length) 1 0 st]∧lk L 0=LU a∧lk L 1=LU b∧lk L 5=.dy 0 0∧lk L 6=.i i∧xj a b i 0 g 0) (N:=a.length) ⟨0,List.replicate (a.length+b.length) 0,0,by simp[ga]⟩ ?_;rintro N L gE gF ⟨i,g,st,rfl,hN,rfl,I,M,E,D,K⟩ Nx gg;have O:=K.1;by_cases hz:N=0
 ·have hi:i=a.length:=J
  subst hi;simp[D,I,E];refine z9d (bm g J) (zxi (Q9.bor (l:=g) (.inr ⟨0,0,st,rfl,D5⟩))) ?_;rw[mv K];simp;exact .inr ⟨1,0,0,rfl,Ct⟩
 have hi:i<a.length:=J
 simp[D,I,hi];refine O8 (λL gE gF gG=>∃(k:Nat) (g:List UInt64) (j:UInt64) (st:Nat),gE=[]∧gG+k=b.length∧gF=[.dyn (g.map .u) (a.length+b.length) 1 0 st]∧lk L 0=LU a∧lk L 1=LU b∧lk L 5=.dy 0 0∧lk L 6=.i i∧lk L 7=.u j∧lk L 8=.i k∧xj a b i k g j) (N:=b.length) ⟨0,g,0,st,by simp[I,M,E,D,K]⟩ ?_;rintro gG L gE gF ⟨k,g,j,st,rfl,gK,rfl,I,M,E,D,h7,P,K⟩ Mx gz;have O:=K.1;by_cases gL:gG=0
 ·have Q:k=b.length:=J
  subst Q;have B:i+b.length<g.length:=J
  have z:((i:Int)+b.length).toNat=i+b.length:=J
  have A:=tp g (i+b.length) j B;simp[P,E,D,M,h7,z,A];refine⟨J,J,J,J,J,?_⟩;exact gg _ _ _ ⟨N-1,J,i+1,g.set (i+b.length) j,st+1,rfl,J,by simp,A0,Ay,Af,by simp,fj hi K⟩
 have Q:k<b.length:=J
 have B:i+k<g.length:=J
 have z:((i:Int)+k).toNat=i+k:=J
 have C:=f9 hi Q K;have A:=tp g (i+k) (Uf (g.getD (i+k) 0) (a.getD i 0) (b.getD k 0) j).1 B;have F:(Uf (g.getD (i+k) 0) (a.getD i 0) (b.getD k 0) j).1=(Nr (Nr (g.getD (i+k) 0) (a.getD i 0*b.getD k 0) false).1 j false).1:=rfl;have R:(Uf (g.getD (i+k) 0) (a.getD i 0) (b.getD k 0) j).2=(Nr (Nr (Ty (a.getD i 0) (b.getD k 0)) 0 (Nr (g.getD (i+k) 0) (a.getD i 0*b.getD k 0) false).2).1 0 (Nr (Nr (g.getD (i+k) 0) (a.getD i 0*b.getD k 0) false).1 j false).2).1:=rfl;have gA:a[i]=a.getD i 0:=by simp[hi]
 have gC:b[k]=b.getD k 0:=F0
 have gD:g[i+k]=g.getD (i+k) 0:=An
 generalize a.getD i 0=x at *;generalize b.getD k 0=y at *;generalize g.getD (i+k) 0=o at *;simp[P,I,M,Q,D,hi];rw[gA,gC];refine Ns (zgu x y) (by simp) ?_;simp[E,D,P,z,B];rw[gD];refine⟨J,J,J,?_⟩;refine Ns (z4z o (x*y) false) (by simp) ?_;generalize Nr o (x*y) false=T at *;simp[h7];refine Ns (z4z T.1 j false) (by simp) ?_;generalize Nr T.1 j false=r2 at *;rw[F]at A;simp[E,D,P,z,A];refine⟨J,J,J,J,?_⟩;refine Ns (z4z (Ty x y) 0 T.2) (by simp) ?_;generalize Nr (Ty x y) 0 T.2=r3 at *;simp;refine Ns (z4z r3.1 0 r2.2) (by simp) ?_;generalize Nr r3.1 0 r2.2=r4 at *;simp[P];refine⟨J,?_⟩;rw[F,R]at C;exact gz _ _ _ ⟨gG-1,J,k+1,g.set (i+k) r2.1,r4.1,st+1,rfl,J,by simp,A0,Ay,Af,Ao,by simp,by simp,C⟩
def zkj:LC:=(.q [.e 4,.e 5,.K 6 0] (.seq (.q [.m 10 1,.z 11 (.w 66 [.t 10,(.c .nilSl)]),.b 12 .eql 3 11 0] (.cond (.t 12) (.q [.e 4,.e 5,.K 6 2] .ret) .skip)) (.q [.m 13 0,.s 14 13,.z 15 (.mkSl 1 [(.u 0)] (.t 14) (.t 14)),.z 16 (.buildSl 1 0 [] []),.m 7 15,.m 8 16] (.seq (.q [.m 17 0,.w 18 80 17,.b 19 .sub 3 18 1,.m 9 19] (.block 0 (.loop (.seq (.q [.m 20 9,.b 21 .geq 3 20 0] (.cond (.t 21) .skip (.exit 0))) (.seq (.block 1 (.q [.m 24 8,.m 25 8,.W 26 81 24 25,.m 8 26] (.seq (.q [.m 27 0,.m 28 9,.W 29 82 27 28] (.cond (.t 29) (.ops [.m 30 8,.z 31 (.buildSl 1 1 [(.u 0)] [(0,1,.c (.u 1))]),.W 32 81 30 31,.m 8 32]) .skip)) (.q [.m 33 8,.m 34 1,.W 35 66 33 34,.b 36 .geq 3 35 0] (.cond (.t 36) (.q [.m 38 8,.m 39 1,.W 40 83 38 39,.m 37 40,.X 41 0 37,.X 42 1 37,.m 8 41] (.ops [.m 43 7,.m 44 9,.b 45 .quo 3 44 64,.m 46 7,.m 47 9,.b 48 .quo 3 47 64,.I 49 1 46 48,.l 50 49,.m 51 9,.b 52 .rem 3 51 64,.z 53 (.cvInt .u64 (.t 52)),.z 54 (.bin .shl true 23 (.c (.u 1)) (.t 53)),.c 55 .or 23 50 54,.I 56 1 43 45,.S 1 56 55])) .skip))))) (.ops [.m 22 9,.b 23 .sub 3 22 1,.m 9 23])))))) (.q [.m 57 7,.w 58 84 57,.m 59 8,.w 60 84 59,.m 4 58,.m 5 60,.K 6 0] .ret)))))
def r_ref02_Div:Nm Tryz.prog 28=some ⟨61,zkj.r,[.tmp 4,.tmp 5,.tmp 6]⟩:=Aa
def mw(g:M9)(v:LV)(r:List UInt64):Prop:=(v=.dy 1 0∧r=[]∧∃st,g[1]?=some (.dyn [] 0 1 0 st))∨v=LU r
def mw.bor{G:M9}{v:LV}{r:List UInt64}(h:mw G v r):bor G v (LU r):=by
 rcases h with ⟨rfl,rfl,st,hg⟩|rfl
 ·exact⟨_,_,_,st,rfl,hg,N⟩
 ·exact⟨rfl,N⟩
def z85(a b:List UInt64)(ha:a.length≤10000)(hb:b.length≤10000):Nj 28 [LU a,LU b] (.tup [.dy 0 0,.dy 1 0,.i (if val b=0 then 2 else 0)]) [RU (if val b=0 then [] else Nu (val a/val b)),RU (if val b=0 then [] else Nu (val a%val b))]:=by
 refine Od.row2E (Nn r_ref02_Div Aa (by simp) ?_);simp[zkj];refine Ns (z25 b [] J (by simp)) (zub (by simp) (.inr ⟨1,by simp⟩)) ?_;by_cases h0:val b=0
 ·simp[h0,val,zu8,Q9];exact⟨_,_,⟨rfl,rfl⟩,rfl,rfl,by simp⟩
 simp[h0,val,zu8,repU];refine⟨J,?_⟩;refine Ns (znb a J) (by simp) ?_;have gA:=zu1 (val_lt a);simp;refine⟨J,?_⟩;refine O8 (λρ gO gC N=>∃(q r:List UInt64) (v:LV) (st:Nat),gO=[]∧N≤64*a.length∧lk ρ 0=LU a∧lk ρ 1=LU b∧lk ρ 7=.dy 0 0∧gC[0]?=some (.dyn (q.map .u) a.length 1 0 st)∧q.length=a.length∧lk ρ 8=v∧mw gC v r∧lk ρ 9=.i ((N:Int)-1)∧r.length≤b.length∧zh7 (val a) (val b) N q (val r)) (N:=P6 (val a)) ⟨List.replicate a.length 0,[],.dy 1 0,0,by simp[mw,val,gA];exact zzv⟩ ?_;rintro N ρ gO gC ⟨q,r,v,st,rfl,hN,F,O,U,X,z,h8,hr,P,gD,Y⟩ Nx M;cases N with
 |zero =>
  obtain⟨e1,e2⟩:=w8 Y;simp[P,U];refine z9d (bm q J) (zxi (Q9.bor (l:=q) (.inr ⟨0,0,st,rfl,by rw[z];exact X⟩))) ?_;have gE:mw (gC++[RU (Nu (val q))]) v r:=by
   rcases hr with ⟨x,y,s,gP⟩|x
   ·exact .inl ⟨x,y,s,xg gP _⟩
   ·exact .inr x
  simp[h8];refine z9d (bm r J) (zxi gE.bor) ?_;rw[e1,e2];simp;exact⟨_,_,⟨rfl,rfl⟩,.inr ⟨_,0,0,rfl,Ct⟩,.inr ⟨_,0,0,rfl,Ct⟩,by simp⟩
 |succ n =>
  have e:((n+1:Nat):Int)-1=n:=J
  rw[e]at P;have Z:((n:Int)/64).toNat=n/64:=J
  have gg:(n:Int).tmod 64=(n%64:Nat):=by rw[M4 J];omega
  have gz:(iU ((n:Int)%64)).toNat=n%64:=by rw[(J:(n:Int)%64=(n%64:Nat))];exact Vu J
  have Q:n/64<a.length:=J
  have D:n/64<q.length:=J
  have hB:0<val b:=J
  have gG:val r<val b:=by rw[Y.1];exact I4 _ hB
  have gF:=d6 gD;have gH:=val_lt b;have gI:2^(64*(b.length+1))=2^(64*b.length)*18446744073709551616:=zwu _;obtain⟨s,C⟩:∃s,2*val r+((val a).testBit n).toNat=s:=⟨_,rfl⟩;have gK:((val a).testBit n).toNat≤1:=M8 _;have gL:(Nu s).length≤b.length+1:=jm J;have E:val (Nu s)=s:=Sg s;have gM:(Nu (val r+val r)).length≤b.length+1:=jm J;have hk:∀q':List UInt64,s<val b→zh7 (val a) (val b) n q' s→(Nu s).length≤b.length:=λq' h _=>jm J
  have R:(Nu (s-val b)).length≤b.length:=jm J;have G:∀x,(gC++x)[0]?=some (.dyn (q.map .u) a.length 1 0 st):=λx=>xg X x
  have T : ∀(x : M9) (h : 0<(gC ++ x).length), (gC ++ x)[0]'h = .dyn (q.map .u) a.length 1 0 st := λx h => (Hv.1 (G x)).2
  simp[h8,P];refine Ns (zav r r J J) (zub hr.bor hr.bor) ?_;simp[RU,F,P];refine Ns (zgg a n J) (by simp) ?_;cases g:(val a).testBit n
  ·rw[g]at C;have es:val r+val r=s:=by simp at C;omega
   simp[g,es,O];refine Ns (z25 (Nu s) b J J) (by simp) ?_;rw[E];by_cases A:val b≤s
   ·have j:0≤Qi s (val b):=zib.2 A;have H:¬s<val b:=J
    have I:=zw7 (q:=q) hB D Y (by rw[g,C];exact A);rw[g,C]at I;have K:=tp q (n/64) (i5 (q.getD (n/64) 0) (R0 1 (n%64))) D;have V:q[n/64]=q.getD (n/64) 0:=Ao
    generalize q.getD (n/64) 0=x at *;simp[j,O];refine Ns (zbk (Nu s) b J J) (by simp) ?_;rw[E];simp[RU,H,U,P,Z,gg,gz,X,G,T,Q,z,V,K];refine⟨J,J,J,J,J,J,J,M _ _ _ ⟨n,J,q.set (n/64) (i5 x (R0 1 (n%64))),Nu (s-val b),LU (Nu (s-val b)),st+1,rfl,J,Ak,D5,Bm,by rw[gset X];simp,Ae,by simp,.inr rfl,by simp,R,by rw[Sg];exact I⟩⟩
   ·have L:s<val b:=J
    have j:¬0≤Qi s (val b):=λh=>A (zib.1 h)
    have B:=zwg (q:=q) hB Y (by rw[g,C];exact L);rw[g,C]at B;simp[j,P];exact⟨J,M _ _ _ ⟨n,J,q,Nu s,LU (Nu s),st,rfl,J,Ak,D5,Bm,X,z,by simp,.inr rfl,by simp,hk q L (by rw[g,C]at *;exact B),by rw[E];exact B⟩⟩
  ·rw[g]at C;have es:val (Nu (val r+val r))+val [1]=s:=by rw[Sg,zn0];simp at C ⊢;omega
   simp[g];refine Ns (zav (Nu (val r+val r)) [1] J (by simp)) (zub (by simp) (Q9.bor (l:=[1]) (.inr ⟨_,0,0,rfl,by simp⟩))) ?_;rw[es];simp[RU,O];refine Ns (z25 (Nu s) b J J) (by simp) ?_;rw[E];by_cases A:val b≤s
   ·have j:0≤Qi s (val b):=zib.2 A;have H:¬s<val b:=J
    have I:=zw7 (q:=q) hB D Y (by rw[g,C];exact A);rw[g,C]at I;have K:=tp q (n/64) (i5 (q.getD (n/64) 0) (R0 1 (n%64))) D;have V:q[n/64]=q.getD (n/64) 0:=Ao
    generalize q.getD (n/64) 0=x at *;simp[j,O];refine Ns (zbk (Nu s) b J J) (by simp) ?_;rw[E];simp[RU,H,U,P,Z,gg,gz,X,G,T,Q,z,V,K];refine⟨J,J,J,J,J,J,J,M _ _ _ ⟨n,J,q.set (n/64) (i5 x (R0 1 (n%64))),Nu (s-val b),LU (Nu (s-val b)),st+1,rfl,J,Ak,D5,Bm,by rw[gset (G _)];simp,Ae,by simp,.inr rfl,by simp,R,by rw[Sg];exact I⟩⟩
   ·have L:s<val b:=J
    have j:¬0≤Qi s (val b):=λh=>A (zib.1 h)
    have B:=zwg (q:=q) hB Y (by rw[g,C];exact L);rw[g,C]at B;simp[j,P];exact⟨J,M _ _ _ ⟨n,J,q,Nu s,LU (Nu s),st,rfl,J,Ak,D5,Bm,(G _),z,by simp,.inr rfl,by simp,hk q L (by rw[g,C]at *;exact B),by rw[E];exact B⟩⟩
def zgk:LC:=(.q [.e 4,.K 5 0] (.q [.m 10 0,.m 11 1,.W 12 28 10 11,.m 9 12,.X 13 0 9,.X 14 1 9,.X 15 2 9,.m 6 13,.m 7 14,.m 8 15] (.q [.m 16 7,.m 17 8,.m 4 16,.m 5 17] .ret)))
def r_ref03_rest:Nm Tryz.prog 93=some ⟨18,zgk.r,[.tmp 4,.tmp 5]⟩:=Aa
def zk6:LC:=(.q [.e 6,.K 7 0] (.q [.m 15 0,.m 16 2,.W 17 93 15 16,.m 14 17,.X 18 0 14,.X 19 1 14,.m 8 18,.m 9 19] (.seq (.q [.m 20 9,.b 21 .neq 35 20 0] (.cond (.t 21) (.q [.m 22 9,.e 6,.m 7 22] .ret) .skip)) (.q [.m 24 1,.m 25 2,.W 26 93 24 25,.m 23 26,.X 27 0 23,.X 28 1 23,.m 10 27,.m 11 28] (.q [.m 30 8,.m 31 2,.W 32 81 30 31,.m 33 10,.W 34 83 32 33,.m 29 34,.X 35 0 29,.X 36 1 29,.m 12 35,.m 13 36] (.q [.m 37 12,.m 38 2,.W 39 93 37 38,.X 40 0 39,.X 41 1 39,.m 6 40,.m 7 41] .ret))))))
def r_ref03_Sub:Nm Tryz.prog 152=some ⟨42,zk6.r,[.tmp 6,.tmp 7]⟩:=Aa
def zje:LC:=(.q [.e 6,.K 7 0] (.q [.m 8 0,.m 9 1,.W 10 31 8 9,.m 11 2,.W 12 93 10 11,.X 13 0 12,.X 14 1 12,.m 6 13,.m 7 14] .ret))
def r_ref03_Mul:Nm Tryz.prog 54=some ⟨15,zje.r,[.tmp 6,.tmp 7]⟩:=Aa
def zka:LC:=(.q [.e 4] (.q [.m 8 0,.w 9 84 8,.m 10 1,.w 11 84 10,.m 0 9,.m 1 11] (.seq (.block 0 (.loop (.seq (.q [.m 12 1,.s 13 12,.b 14 .gtr 3 13 0] (.cond (.t 14) .skip (.exit 0))) (.block 1 (.q [.m 16 0,.m 17 1,.W 18 28 16 17,.m 15 18,.X 19 0 15,.X 20 1 15,.X 21 2 15,.m 5 19,.m 6 20,.m 7 21] (.ops [.m 22 1,.m 23 6,.m 0 22,.m 1 23])))))) (.q [.m 24 0,.m 4 24] .ret))))
def r_ref03_Gcd:Nm Tryz.prog 151=some ⟨25,zka.r,[.tmp 4]⟩:=Aa
def ztr(a b:List UInt64):(Nu (val a+val b)).length≤max a.length b.length+1:=by
 refine jm ?_;have g:=d6 (a:=a) (n:=max a.length b.length) J;have j:=d6 (a:=b) (n:=max a.length b.length) J;rw[zwu];omega
def zso(a b:List UInt64):(Nu (val a*val b)).length≤a.length+b.length:=by
 refine jm ?_;have g:=val_lt a;have j:=val_lt b;rw[Lj,Ku];exact Nat.mul_lt_mul'' g j
def zzd(a n:List UInt64)(h:val n≠0):(Nu (val a%val n)).length≤n.length:=vh (I4 _ J)
def z3c(a n:List UInt64)(g:a.length≤10000)(j:n.length≤10000):Nj 93 [LU a,LU n] (.tup [.dy 0 0,.i (mE (val n))]) [RU (mR (val n) (val a%val n))]:=by
 refine Od.rowE (Nn r_ref03_rest Aa N ?_);simp[zgk];refine vk (z85 a n g j) N ?_;by_cases h:val n=0
 ·simp[h,mE,mR];exact .inr ⟨1,0,0,rfl,Ct⟩
 ·simp[h,mE,mR];exact .inr ⟨1,0,0,rfl,Ct⟩
def zgw(a b n:List UInt64)(g:a.length≤4000)(j:b.length≤4000)(z:n.length≤4000):Nj 54 [LU a,LU b,LU n] (.tup [.dy 0 0,.i (mE (val n))]) [RU (mR (val n) (val a*val b%val n))]:=by
 refine Od.rowE (Nn r_ref03_Mul Aa N ?_);have A:=zso a b;simp[zje];refine Ns (zh8 a b J J) N ?_;simp[RU];refine vk (z3c (Nu (val a*val b)) n J J) N ?_;simp[Sg];exact .inr ⟨0,0,0,rfl,Ct⟩
def zpl(a b n:List UInt64)(z:a.length≤4000)(A:b.length≤4000)(B:n.length≤4000):Nj 152 [LU a,LU b,LU n] (.tup [.dy 0 0,.i (mE (val n))]) [RU (mR (val n) (X5 (val a) (val b) (val n)))]:=by
 refine Od.rowE (Nn r_ref03_Sub Aa N ?_);simp[zk6];refine Ns (z3c a n J J) N ?_;by_cases h:val n=0
 ·simp[RU,h,mE,mR,Q9]
 have C:=zzd a n h;have D:=zzd b n h;simp[RU,Vm h,Vz h];refine Ns (z3c b n J J) N ?_;simp[RU,Vm h,Vz h];have j:=ztr (Nu (val a%val n)) n;refine Ns (zav (Nu (val a%val n)) n J J) N ?_;have g:¬val a%val n+val n<val b%val n:=by have:=I4 (val b) (J:0<val n);omega
 simp[RU];rw[Sg];rw[Sg]at j;refine Ns (zbk (Nu (val a%val n+val n)) (Nu (val b%val n)) J J) N ?_;have E:(Nu (val a%val n+val n-val b%val n)).length≤(Nu (val a%val n+val n)).length:=zg9 (by rw[Sg];omega);simp[RU,Sg,g];refine vk (z3c (Nu (val a%val n+val n-val b%val n)) n J J) N ?_;simp[Sg,Vm h,Vz h];exact .inr ⟨0,0,0,rfl,by simp[RU,X5]⟩
def zrx(g j:List UInt64)(L:g.length≤4000)(M:j.length≤4000):Oz 151 [LU g,LU j] (LU (Nu (Nat.gcd (val g) (val j)))):=by
 refine Sd.mk (by simp[LV.dat]) (Nn r_ref03_Gcd Aa (by simp) ?_);have O:=z2u g;have P:=z2u j;simp[zka];refine Ns (bm g J) (by simp) ?_;simp[RU];refine Ns (bm j J) (by simp) ?_;simp[RU];refine O8 (λH K Q z=>∃x,K=[]∧lk H 0=LU (Nu x)∧lk H 1=LU (Nu z)∧Nat.gcd x z=Nat.gcd (val g) (val j)∧(Nu x).length≤4000∧(Nu z).length≤4000) (N:=val j) ⟨val g,Ab⟩ ?_;rintro z H K Q ⟨x,rfl,F,A,B,R,I⟩ T C;by_cases D:z=0
 ·subst D;simp[toL_zero]at A;simp at B;simp[F,A,B]
 ·have G:Nu z≠[]:=λe=>D (zg0.1 e)
  have E:0<(Nu z).length:=Lu.2 G;simp[F,A,G,E];refine Ns (z85 (Nu x) (Nu z) J J) (by simp) ?_;have U:(Nu (x%z)).length≤(Nu z).length:=vh Gu;simp[RU,Sg,D];exact C _ _ _ ⟨x%z,I4 _ J,z,rfl,At,by simp,by rw[←B,Lt x z,M6 z x,Lt],I,J⟩
def zdl:LC:=(.q [.F 2] (.q [.m 3 0,.s 4 3,.b 5 .gtr 3 4 0,.m 6 5,.my 7 6 0,.y 8 6 (.ixAddr 1 (.t 7) (.k 0)),.yl 9 6 8,.y 10 6 (.bin .rem true 23 (.t 9) (.c (.u 2))),.y 11 6 (.bin .eql true 23 (.t 10) (.c (.u 1))),.q 12 6 11,.m 2 12] .ret))
def r_ref03_odd:Nm Tryz.prog 89=some ⟨13,zdl.r,[.tmp 2]⟩:=Aa
def zeu:LC:=(.q [.e 2] (.q [.m 4 0,.b 5 .add 3 4 1,.z 6 (.mkSl 1 [(.u 0)] (.t 5) (.t 5)),.m 3 6] (.q [.m 7 3,.m 8 0,.I 9 1 7 8,.v (.store 1 (.t 9) (.c (.u 1)))] (.q [.m 10 3,.m 2 10] .ret))))
def r_ref03_power:Nm Tryz.prog 94=some ⟨11,zeu.r,[.tmp 2]⟩:=Aa
def z7h:LC:=(.q [.e 4,.K 5 0] (.seq (.q [.m 6 0,.b 7 .lss 3 6 0,.m 8 7,.mn 9 8 0,.nb 10 8 .gtr 3 9 512,.p 11 8 10] (.cond (.t 11) (.q [.e 4,.K 5 2] .ret) .skip)) (.q [.m 12 0,.w 13 94 12,.m 14 1,.W 15 93 13 14,.X 16 0 15,.X 17 1 15,.m 4 16,.m 5 17] .ret)))
def r_ref03_Radix:Nm Tryz.prog 33=some ⟨18,z7h.r,[.tmp 4,.tmp 5]⟩:=Aa
def zq4(n:List UInt64):Nj 89 [LU n] (.bool (Rk n)) []:=by
 refine Od.val rfl (Nn r_ref03_odd Aa N ?_);cases n with
 |nil=>simp[zdl,Rk]
 |cons x l =>
  have h:(0:Int)<(l.length:Int)+1:=J
  simp[zdl,h,Rk,zg6]
def zlr(k:Nat)(A:k≤512):Nj 94 [.i k] (.dy 0 0) [RU (List.replicate k 0++[1])]:=by
 refine Od.row (Nn r_ref03_power Aa N ?_);have j:((k:Int)+1).toNat=k+1:=J
 have g:=tp (List.replicate (k+1) 0) k 1 N;have e:(List.replicate (k+1) (0:UInt64)).set k 1=List.replicate k 0++[1]:=by
  rw[List.replicate_succ'];simp[List.set_append]
 rw[e]at g;have z:Ph [LV.u 0] (k+1)=(List.replicate (k+1) (0:UInt64)).map .u:=repU _;simp only[List.map_replicate]at g z;simp[zeu,j,z,g];refine⟨J,J,J,J,?_⟩;exact .inr ⟨0,0,1,rfl,N⟩
def zlj(l:Int)(n:List UInt64)(B:n.length≤4000):Nj 33 [.i l,LU n] (.tup [.dy 0 0,.i (rdE l (val n))]) [RU (rdR l (val n))]:=by
 refine Od.rowE (Nn r_ref03_Radix Aa N ?_);by_cases j:l<0
 ·simp[z7h,j,rdE,rdR,Q9]
 by_cases g:512<l
 ·simp[z7h,j,g,rdE,rdR,Q9]
 obtain⟨k,rfl⟩:=H0 (J:0≤l);have z:¬((k:Int)<0):=J
 simp[z7h,g,z];refine Ns (zlr k J) N ?_;simp[RU];refine vk (z3c (List.replicate k 0++[1]) n Ab J) N ?_;have A:¬(512<(k:Int)):=g;simp[rdE,rdR,A,z,io];exact .inr ⟨0,0,0,rfl,Ct⟩
def zaw:LC:=(.q [.e 4,.K 5 0] (.q [.m 20 0,.m 21 1,.W 22 93 20 21,.m 19 22,.X 23 0 19,.X 24 1 19,.m 6 23,.m 7 24] (.seq (.q [.m 25 7,.b 26 .neq 35 25 0] (.cond (.t 26) (.q [.m 27 7,.e 4,.m 5 27] .ret) .skip)) (.seq (.q [.m 28 6,.m 29 1,.W 30 151 28 29,.z 31 (.buildSl 1 1 [(.u 0)] [(0,1,.c (.u 1))]),.W 32 150 30 31,.z 33 (.un .not (.t 32))] (.cond (.t 33) (.q [.e 4,.K 5 5] .ret) .skip)) (.q [.m 34 1,.w 35 84 34,.m 36 6,.m 8 35,.m 9 36] (.q [.z 37 (.buildSl 1 0 [] []),.z 38 (.buildSl 1 1 [(.u 0)] [(0,1,.c (.u 1))]),.m 10 37,.m 11 38] (.seq (.block 0 (.loop (.seq (.q [.m 39 9,.s 40 39,.b 41 .gtr 3 40 0] (.cond (.t 41) .skip (.exit 0))) (.block 1 (.q [.m 43 8,.m 44 9,.W 45 28 43 44,.m 42 45,.X 46 0 42,.X 47 1 42,.X 48 2 42,.m 12 46,.m 13 47,.m 14 48] (.q [.m 50 12,.m 51 11,.m 52 1,.V 53 54 50 51 52,.m 49 53,.X 54 0 49,.X 55 1 49,.m 15 54,.m 16 55] (.q [.m 57 10,.m 58 15,.m 59 1,.V 60 152 57 58 59,.m 56 60,.X 61 0 56,.X 62 1 56,.m 17 61,.m 18 62] (.q [.m 63 9,.m 64 13,.m 8 63,.m 9 64] (.ops [.m 65 11,.m 66 17,.m 10 65,.m 11 66]))))))))) (.q [.m 67 10,.m 68 1,.W 69 93 67 68,.X 70 0 69,.X 71 1 69,.m 4 70,.m 5 71] .ret))))))))
def r_ref03_Inverse:Nm Tryz.prog 90=some ⟨72,zaw.r,[.tmp 4,.tmp 5]⟩:=Aa
def zdf:LC:=(.q [.e 6,.K 7 0] (.q [.m 13 2,.m 14 1,.W 15 33 13 14,.m 12 15,.X 16 0 12,.X 17 1 12,.m 8 16,.m 9 17] (.seq (.q [.m 18 9,.b 19 .neq 35 18 0,.m 20 19,.mn 21 20 1,.n 22 20 (.w 89 [.t 21]),.n 23 20 (.un .not (.t 22)),.p 24 20 23] (.cond (.t 24) (.q [.e 6,.K 7 2] .ret) .skip)) (.q [.m 26 8,.m 27 1,.W 28 90 26 27,.m 25 28,.X 29 0 25,.X 30 1 25,.m 10 29,.m 11 30] (.q [.m 31 0,.m 32 10,.m 33 1,.V 34 54 31 32 33,.X 35 0 34,.X 36 1 34,.m 6 35,.m 7 36] .ret)))))
def r_ref03_Reduce:Nm Tryz.prog 30=some ⟨37,zdf.r,[.tmp 6,.tmp 7]⟩:=Aa
def RV(g:M9)(v:LV)(l:List UInt64):Prop:=v=LU l∨(v=.nilSl∧l=[])∨∃q st,v=.dy q 0∧g[q]?=some (.dyn (l.map .u) l.length 1 0 st)
def RV.bor{G:M9}{v:LV}{l:List UInt64}(h:RV G v l):bor G v (LU l):=by
 rcases h with rfl|⟨rfl,rfl⟩|⟨q,st,rfl,hg⟩
 ·exact⟨rfl,N⟩
 ·exact .inr ⟨1,N⟩
 ·exact⟨_,_,_,st,rfl,hg,N⟩
def ln{v d g j:LV}(h:Go.Sv.bor G v d)(A:Go.Sv.bor G O uP)(z:Go.Sv.bor G g j):bors G [v,O,g] [d,uP,j]:=⟨d,_,rfl,h,zub A z⟩
def zh9(a n:List UInt64)(ha:a.length≤4000)(hn:n.length≤4000):Oz 90 [LU a,LU n] (.tup [LU (ivR (val a) (val n)),.i (y4 (val a) (val n))]):=by
 refine Sd.mk (by simp[LV.dat]) (Nn r_ref03_Inverse Aa (by simp) ?_);simp[zaw];refine Ns (z3c a n J J) (by simp) ?_;by_cases h:val n=0
 ·simp[RU,h,mE,mR,y4,ivR]
 have R:=zzd a n h;rw[←ivR_mod,←zk];generalize val a%val n=x at *;simp[RU,Vm h,Vz h];refine R6 (zrx (Nu x) n J J) (by simp) ?_;have T:(Nu (Nat.gcd x (val n))).length≤n.length:=zg9 (Nat.gcd_le_right _ J);rw[Sg];simp;refine Ns (zo3 (Nu (Nat.gcd x (val n))) [1] J (by simp)) (zub (by simp) (Q9.bor (l:=[1]) (.inr ⟨_,0,0,rfl,by simp⟩))) ?_;rw[Sg,zn0];have U:(1:UInt64).toNat=1:=rfl;rw[U];by_cases g:Nat.gcd x (val n)=1
 rotate_left
 ·simp[g,y4,ivR,h]
 rw[Jj g];simp;refine Ns (bm n J) (by simp) ?_;have F:=z2u n;simp[RU];refine O8 (λM gg V j=>∃(u:Nat) (S B:List UInt64) (G C:LV),gg=[]∧lk M 1=LU n∧lk M 8=LU (Nu u)∧lk M 9=LU (Nu j)∧lk M 10=G∧lk M 11=C∧RV V G S∧RV V C B∧(Nu u).length≤n.length∧(Nu j).length≤n.length∧S.length≤4000∧B.length≤4000∧EU (val n) x u j (val S) (val B)) (N:=x)
  ⟨val n,[],[1],.dy 1 0,.dy 2 0,by simp,by simp,by simp,by simp,by simp,by simp,.inr (.inr ⟨1,0,rfl,by simp⟩),.inr (.inr ⟨2,0,rfl,by simp⟩),F,R,by simp,by simp,by simpa [val] using zv4 (val n) x⟩ ?_
 rintro j M gg V ⟨u,S,B,G,C,rfl,D,X,E,z,A,O,P,l1,Y,l3,Z,H⟩ Nx I;by_cases K:j=0
 ·subst K;have hu:=sw H;rw[g]at hu;subst hu;have hi:=t7 h H;rw[toL_zero]at E;simp[E,D,z];refine Ns (z3c S n J J) (zub O.bor (by simp)) ?_;simp[RU,Vm h,Vz h,y4,ivR,h,g,hi]
 ·have Q:Nu j≠[]:=λe=>K (zg0.1 e)
  have L:0<(Nu j).length:=Lu.2 Q;have q1:(Nu (u/j)).length≤(Nu u).length:=zg9 (by rw[Sg];exact L5 _ _);have q2:=vh (b:=n) (I4 (u/j*val B) (J:0<val n));simp[X,E,Q,L];refine Ns (z85 (Nu u) (Nu j) J J) (by simp) ?_;simp[RU,Sg,K,A,D];refine Ns (zgw (Nu (u/j)) B n J J J) (ln (by simp) P.bor (by simp)) ?_;simp[RU,Sg,Vm h,Vz h,z,D];refine Ns (zpl S (Nu (u/j*val B%val n)) n J J J) (ln O.bor (by simp) (by simp)) ?_;simp[RU,Sg,Vm h,Vz h,E,A];exact I _ _ _ ⟨u%j,I4 _ J,j,B,Nu (X5 (val S) (u/j*val B%val n) (val n)),C,_,rfl,Ao,by simp,by simp,by simp,by simp,P,.inl rfl,Y,by have:=vh (b:=Nu j) (n:=u%j) Gu;omega,Z,by have:=vh (b:=n) (zq (a:=val S) (b:=u/j*val B%val n) h);omega,by rw[Sg];exact aw h H⟩
def zyk{n:List UInt64}(h:Rk n=true)(k:Nat):y4 (2^(64*k)%val n) (val n)=0∧ivR (2^(64*k)%val n) (val n)=Nu (R7 (2^(64*k)%val n) (val n))∧R7 (2^(64*k)%val n) (val n)<val n:=by
 have g:=ztk h;have j:=zd5 (zo2 h) (64*k);exact⟨by simp[y4,g,j],by simp[ivR,g,j],(zkp g j).1⟩
def ziu(t n:List UInt64)(l:Int)(E:t.length≤4000)(F:n.length≤4000):Nj 30 [LU t,LU n,.i l] (.tup [.dy 0 0,.i (reE n l)]) [RU (Wc t n l)]:=by
 refine Od.rowE (Nn r_ref03_Reduce Aa N ?_);simp[zdf];refine Ns (zlj l n J) N ?_;by_cases z:l<0∨512<l
 ·have g:¬(0≤l∧l≤512):=J
  simp[RU,rdE,rdR,z,reE,Wc,g,Q9]
 have g:0≤l∧l≤512:=J
 by_cases j:val n=0
 ·have h:Rk n=false:=by rw[zn2,j];rfl
  simp[RU,rdE,rdR,z,mE_0 j,mR_0 j,reE,Wc,h,Q9]
 simp[RU,rdE,rdR,z,Vm j,Vz j];refine Ns (zq4 n) N ?_;cases h:Rk n
 ·simp[h,reE,Wc,Q9]
 obtain⟨A,B,C⟩:=zyk h l.toNat;have hm:=vh (b:=n) (I4 (2^(64*l.toNat)) (J:0<val n));have D:=vh (b:=n) C;simp[h];refine R6 (zh9 (Nu (2^(64*l.toNat)%val n)) n J J) N ?_;rw[Sg,A,B];simp;refine vk (zgw t (Nu (R7 (2^(64*l.toNat)%val n) (val n))) n J J J) N ?_;simp[Sg,Vm j,Vz j,reE,Wc,h,g];exact .inr ⟨_,0,0,rfl,Ct⟩
def zcr:LC:=(.q [.K 4 0] (.seq (.q [.m 6 1,.b 7 .lss 3 6 1] (.cond (.t 7) (.q [.K 4 0] .ret) .skip)) (.q [.m 8 0,.m 9 1,.c 10 .rem 3 8 9,.m 5 10] (.seq (.q [.m 11 5,.b 12 .lss 3 11 0] (.cond (.t 12) (.ops [.m 13 5,.m 14 1,.c 15 .add 3 13 14,.m 5 15]) .skip)) (.q [.m 16 5,.m 4 16] .ret)))))
def r_kit_Pick:Nm Tryz.prog 17=some ⟨17,zcr.r,[.tmp 4]⟩:=Aa
def k_kit_Pick:zcr.ok=true:=Aa
def zm3:LC:=(.q [.e 4] (.q [.m 7 1,.z 8 (.mkSl 1 [(.u 0)] (.t 7) (.t 7)),.m 5 8] (.seq (.q [.K 6 0] (.block 0 (.loop (.seq (.q [.m 9 6,.m 10 1,.c 11 .lss 3 9 10,.m 12 11,.my 13 12 0,.y 14 12 (.lenSl (.t 13)),.y 15 12 (.bin .gtr true 3 (.t 14) (.k 0)),.q 16 12 15] (.cond (.t 16) .skip (.exit 0))) (.seq (.block 1 (.draw [(.m 19 5,[]),(.m 20 6,[]),(.m 21 0,[]),(.m 22 6,[]),(.m 23 0,[]),(.s 24 23,[]),(.c 25 .rem 3 22 24,[]),(.I 26 1 21 25,[]),(.l 27 26,[]),(.m 28 6,[]),(.m 29 0,[]),(.s 30 29,[]),(.c 31 .quo 3 28 30,[]),(.b 32 .mul 3 31 2,[]),(.z 33 (.bin .add true 3 (.k 1) (.t 32)),[]),(.z 34 (.cvInt .u64 (.t 33)),[]),(.c 35 .mul 23 27 34,[]),(.m 36 6,[]),(.m 37 0,[]),(.s 38 37,[]),(.c 39 .quo 3 36 38,[]),(.z 40 (.cvInt .u64 (.t 39)),[]),(.c 41 .add 23 35 40,[]),(.I 42 1 19 20,[]),(.S 1 42 41,[])])) (.ops [.m 17 6,.b 18 .add 3 17 1,.m 6 18])))))) (.q [.m 43 5,.m 4 43] .ret))))
def r_kit_Fill:Nm Tryz.prog 26=some ⟨44,zm3.r,[.tmp 4]⟩:=Aa
def zbc:LC:=(.q [.x 3 0,.z 6 (.alloc [(.i 0),.nilSl,.nilSl])] (.q [.f 10 0 3,.l 11 10,.z 12 (.build [(.i 0),.nilSl,.nilSl] [(0,1,.k 64),(1,1,.t 11)]),.z 7 (.alloc [(.i 0),.nilSl,.nilSl]),.S 3 7 12] (.seq (.q [.K 8 0] (.block 0 (.loop (.seq (.q [.m 13 8,.m 14 2,.c 15 .lss 3 13 14] (.cond (.t 15) .skip (.exit 0))) (.seq (.block 1 (.ops [.f 18 2 7,.l 19 18,.m 20 8,.z 21 (.build [(.i 0),(.i 0),(.i 0),(.i 0),(.i 0),(.i 0),(.i 0),(.u 0)] [(0,1,.k 16),(1,1,.t 20),(2,1,.k (-1)),(3,1,.k (-1)),(4,1,.k (-1)),(5,1,.k (-1)),(7,1,.c (.u 1))]),.z 22 (.buildSl 8 1 [(.i 0),(.i 0),(.i 0),(.i 0),(.i 0),(.i 0),(.i 0),(.u 0)] [(0,8,.t 21)]),.a 23 8 19 22,.f 24 2 7,.S 1 24 23])) (.ops [.m 16 8,.b 17 .add 3 16 1,.m 8 17])))))) (.q [.f 25 2 7,.l 26 25,.m 27 1,.a 28 8 26 27,.f 29 2 7,.S 1 29 28] (.seq (.q [.K 9 0] (.block 2 (.loop (.seq (.q [.m 30 9,.m 31 2,.c 32 .lss 3 30 31] (.cond (.t 32) .skip (.exit 2))) (.seq (.block 3 (.ops [.f 35 2 7,.l 36 35,.z 37 (.build [(.i 0),(.i 0),(.i 0),(.i 0),(.i 0),(.i 0),(.i 0),(.u 0)] [(0,1,.k 17),(1,1,.k (-1)),(2,1,.k (-1)),(3,1,.k (-1)),(4,1,.k (-1)),(5,1,.k (-1))]),.z 38 (.buildSl 8 1 [(.i 0),(.i 0),(.i 0),(.i 0),(.i 0),(.i 0),(.i 0),(.u 0)] [(0,8,.t 37)]),.a 39 8 36 38,.f 40 2 7,.S 1 40 39])) (.ops [.m 33 9,.b 34 .add 3 33 1,.m 9 34])))))) (.q [.L 41 3 7,.S 3 6 41] .ret))))))
def r_law23_program:Nm Tryz.prog 24=some ⟨42,zbc.r,[.cellN 6 3]⟩:=Aa
def ztc(n m:Int)(hm:1≤m∧m<1000000):∃k:Nat,(k:Int)<m∧Nj 17 [.i n,.i m] (.i k) []:=by
 have j:¬m<1:=J
 have z:m≠0:=J
 have B:n.tmod m<m:=Int.tmod_lt_of_pos n J;have C:-m<n.tmod m:=by
  have h:=Int.tmod_lt_of_pos (-n) (J:0<m);rw[Int.neg_tmod]at h;omega
 by_cases g:n.tmod m<0
 ·obtain⟨k,A⟩:=H0 (J:0≤n.tmod m+m);refine⟨k,J,Od.val rfl (Nn r_kit_Pick k_kit_Pick N ?_)⟩;simp[zcr,j,z,g];omega
 ·obtain⟨k,A⟩:=H0 (J:0≤n.tmod m);refine⟨k,J,Od.val rfl (Nn r_kit_Pick k_kit_Pick N ?_)⟩;simp[zcr,j,z,g,A];omega
def zjd(l:List UInt64)(n:Nat)(U:n≤1000000)(V:l.length≤1000000)(g:l≠[]):Nj 26 [LU l,.i n] (.dy 0 0) [RU (zst l n)]:=by
 refine Od.row (Nn r_kit_Fill Aa (by simp) ?_);have z:0<l.length:=Lu.2 g;simp[zm3];refine⟨J,?_⟩;refine O8 (λI R T L=>∃(i st:Nat) (m:List UInt64),R=[]∧L+i=n∧lk I 0=LU l∧lk I 1=.i n∧lk I 5=.dy 0 0∧lk I 6=.i i∧T[0]?=some (.dyn (m.map .u) n 1 0 st)∧m.length=n∧∀B,B<i→m.getD B 0=Wt l B) (N:=n)
  ⟨0,0,List.replicate n 0,rfl,J,by simp,by simp,by simp,by simp,by simp[oi],by simp,by simp⟩ ?_
 rintro L I R T ⟨i,st,m,rfl,X,C,A,D,K,E,j,hv⟩ Y F;by_cases Z:i<n
 ·have hi:i%l.length<l.length:=I4 _ z;have G:(l.length:Int)≠0:=J
  simp[C,A,D,K,Z,z,E,j,LU,G,hi];have M:(i:Int)/(l.length:Int)=((i/l.length:Nat):Int):=by simp
  have O:(i:Int).tmod (l.length:Int)=((i%l.length:Nat):Int):=by rw[M4 J];simp
  have P:i/l.length≤i:=L5 _ _;have H:Wt l i=l.getD (i%l.length) 0*iU (1+((i/l.length:Nat):Int)*2)+iU ((i/l.length:Nat):Int):=by unfold Wt;rw[Hx g]
  simp only[M,O,In];generalize i/l.length=q at *;refine⟨g,J,J,g,J,J,J,g,J,J,J,F _ _ _ ⟨L-1,J,i+1,st+1,m.set i (Wt l i),rfl,J,Al,At,Ao,by simp,?_,Ah,λB hj=>?_⟩⟩
  ·have Q:=(Hv.1 E).1;rw[H8 Q,H]
   congr 2
   rw[show ∀x:LV,Oo (m.map LV.u) i [x]=(m.map LV.u).set i x from λx=>by rw[I5,H6 Ab];simp[Oo],Ji,Vb,zkl];simp[Hw]
  ·rw[Wn _ _ _ _ _ J];split
   ·rename_i q;rw[q]
   ·exact hv B J
 ·have hi:i=n:=J
  subst hi;have:m=zst l i:=by
   refine List.ext_getElem (by rw[j,ziq]) λB A h2=>?_
   have:=hv B J;rw[Hw,H7 A]at this;simpa [zst] using this
  simp[C,A,D,K];exact .inr ⟨0,_,_,rfl,by rw[←this,j];exact E⟩
def lpsL_snoc:∀(n:Nat) (i:Int),P8 (n+1) i=P8 n i++[⟨16,i+n,-1,-1,-1,-1,0,1⟩]
 |0,i=>by simp[P8]
 |n+1,i=>by
  rw[P8,lpsL_snoc n (i+1),P8,I7]
  congr 4
  simp;omega
def lpsL_len:∀(n:Nat) (i:Int),(P8 n i).length=n
 |0,_=>rfl
 |n+1,i=>by rw[P8,Ih,lpsL_len]
def zhd{bs:List Bf}{P:LV}{W:List LV}{L:List Lo}{deep:Nat}(hd:deep≤100)(hL:L.length≤1000000)(hW:∃a b c d e f,W=[.i a,.i b,.i c,.i d,.i e,.i f]) :
  Oz 24 [.agg (.lst (P7 bs) bs.length 3::P::W),.lst (Qu L) L.length 8,.i deep] (.agg (Ni ((64:Nat):Int) bs (P8 deep 0++(L++List.replicate deep Tj)))):=by
 obtain⟨w1,w2,w3,w4,w5,w6,rfl⟩:=hW;refine Sd.mk (by simp[LV.dat,zhs]) (Nn r_law23_program Aa (by simp) ?_);simp[zbc];refine O8 (λM Z O X=>∃(i st E:Nat) (v:LV),Z=[]∧X+i=deep∧lk M 1=.lst (Qu L) L.length 8∧lk M 2=.i deep∧lk M 6=.ptr 1 0∧lk M 7=.ptr 2 0∧lk M 8=.i i∧3≤O.length∧O[1]?=some (.cells [.i 0,.nilSl,.nilSl] E)∧O[2]?=some (.cells [.i 64,.lst (P7 bs) bs.length 3,v] st)∧Qf 3 O v 8 (P8 i 0).length (Qu (P8 i 0))) (N:=deep)
  ⟨0,1,0,.nilSl,rfl,J,by simp,by simp,by simp,by simp,by simp,by simp,by simp,by simp,Qf.nil⟩ ?_
 rintro X M Z O ⟨i,st,E,v,rfl,hN,U,F,G,C,V,hl,K,H,hv⟩ Nx I;by_cases gg:i<deep
 ·have g':(i:Int)<deep:=J
  simp[U,F,G,C,V,H,gg];refine hv.push_end.push (c:=1) J Ab (by rw[lpsL_len];omega) (by simp) rfl λQ G5 g j D=>?_
  have z:=(j 2 J).trans ((Nv J).trans H);have A:=(j 1 J).trans ((Nv J).trans K);have B:=g.cells;simp[-LV.cells,B,C,z,V];refine⟨J,I _ _ _ ⟨X-1,J,i+1,st+1,E,Q,rfl,J,Bm,Ak,Bh,Al,by simp,by simp at D ⊢;omega,?_,?_,?_⟩⟩
  ·rw[Hy J];exact A
  ·exact H8 (Hv.1 z).1
  ·rw[lpsL_snoc,Ia,zof,Int.zero_add];exact g.set_lt J
 ·have hi:i=deep:=J
  subst hi;simp[U,F,G,C,V,H];refine⟨J,?_⟩;refine hv.push (c:=L.length) J J (by rw[lpsL_len];omega) (zyq L) (Ud L) λQ G5 g j D=>?_
  have z:=(j 2 J).trans H;have A:=(j 1 J).trans K;have B:=g.cells;simp[-LV.cells,B,C,z];have R:=(Hv.1 z).1;refine O8 (λM Z O X=>∃(T st E:Nat) (v:LV),Z=[]∧X+T=i∧lk M 2=.i i∧lk M 6=.ptr 1 0∧lk M 7=.ptr 2 0∧lk M 9=.i T∧3≤O.length∧O[1]?=some (.cells [.i 0,.nilSl,.nilSl] E)∧O[2]?=some (.cells [.i 64,.lst (P7 bs) bs.length 3,v] st)∧Qf 3 O v 8 (P8 i 0++(L++List.replicate T Tj)).length (Qu (P8 i 0++(L++List.replicate T Tj)))) (N:=i)
   ⟨0,st+1,E,Q,rfl,J,Ak,Bh,Al,by simp,Ab,?_,H8 R,?_⟩ ?_
  ·rw[Hy J];exact A
  ·simp only[List.replicate_zero,Jm,Ia];rw[zof];exact g.set_lt J
  clear U F G C V hl K H hv z A R g j D B I Nx;rintro X M Z O ⟨T,st,E,v,rfl,hN,F,G,C,Y,hl,K,H,hv⟩ Nx I;by_cases gg:T<i
  ·simp[F,G,C,Y,H,gg];refine hv.push_end.push (c:=1) J Ab (by simp[lpsL_len];omega) (by simp) rfl λQ G5 g j D=>?_
   have z:=(j 2 J).trans ((Nv J).trans H);have A:=(j 1 J).trans ((Nv J).trans K);have B:=g.cells;simp[-LV.cells,B,C,z,Y];refine⟨J,I _ _ _ ⟨X-1,J,T+1,st+1,E,Q,rfl,J,Ak,Bh,Al,by simp,by simp at D ⊢;omega,?_,?_,?_⟩⟩
   ·rw[Hy J];exact A
   ·exact H8 (Hv.1 z).1
   ·rw[show P8 i 0++(L++List.replicate (T+1) Tj)=(P8 i 0++(L++List.replicate T Tj))++[Tj] by rw[List.replicate_succ'];simp,Ia,zof];exact g.set_lt J
  ·have hj:T=i:=J
   subst hj;have hb:=(hv.set_lt (q:=1) (ob:=.cells [.i 64,.lst (P7 bs) bs.length 3,v] (E+1)) J).bor;simp[-Of,F,G,C,Y,H,K];rw[H8 (Hv.1 K).1];refine⟨by simp,_,_,rfl,⟨rfl,rfl⟩,_,_,rfl,⟨rfl,by simp[LV.dat,T9]⟩,_,_,rfl,hb,rfl⟩
def qu:LC:=(.q [.x 1 0,.e 2] (.q [.f 6 3 1,.l 7 6,.f 8 5 1,.l 9 8,.z 10 (.build [(.i 0),(.i 0),(.i 0)] [(0,1,.k 2),(1,1,.t 7),(2,1,.t 9)]),.f 11 4 1,.l 12 11,.f 13 5 1,.l 14 13,.z 15 (.build [(.i 0),(.i 0),(.i 0)] [(0,1,.k 2),(1,1,.t 12),(2,1,.t 14)]),.z 16 (.buildSl 3 2 [(.i 0),(.i 0),(.i 0),(.i 0),(.i 0),(.i 0)] [(0,3,.t 10),(3,3,.t 15)]),.m 3 16] (.q [.f 17 5 1,.l 18 17,.z 19 (.build [(.i 0),(.i 0),(.i 0)] [(0,1,.k 1),(1,1,.t 18),(2,1,.k (-1))]),.z 4 (.alloc [(.i 0),(.i 0),(.i 0)]),.S 3 4 19] (.seq (.q [.f 20 0 1,.l 21 20] (.block 0 (.q [.b 23 .eql 3 21 9,.m 22 23] (.cond (.t 22) (.q [.f 24 5 1,.l 25 24,.z 26 (.build [(.i 0),(.i 0),(.i 0)] [(0,1,.k 3),(1,1,.t 25),(2,1,.k (-1))]),.z 27 (.buildSl 3 1 [(.i 0),(.i 0),(.i 0)] [(0,3,.t 26)]),.m 2 27] .ret) (.seq (.q [.b 29 .eql 3 21 10,.m 28 29] (.cond (.t 28) .skip (.ops [.b 30 .eql 3 21 11,.m 28 30]))) (.cond (.t 28) (.q [.m 31 3,.m 2 31] .ret) (.q [.b 33 .eql 3 21 12,.m 32 33] (.cond (.t 32) (.seq (.draw [(.L 34 3 4,[]),(.m 35 3,[]),(.z 36 (.ixAddr 3 (.t 35) (.k 0)),[]),(.L 37 3 36,[]),(.m 38 3,[]),(.z 39 (.ixAddr 3 (.t 38) (.k 1)),[]),(.L 40 3 39,[]),(.z 41 (.buildSl 3 3 [(.i 0),(.i 0),(.i 0),(.i 0),(.i 0),(.i 0),(.i 0),(.i 0),(.i 0)] [(0,3,.t 34),(3,3,.t 37),(6,3,.t 40)]),[(.L 40 3 39,false),(.L 37 3 36,false),(.L 34 3 4,false)]),(.m 2 41,[])]) .ret) (.q [.b 43 .eql 3 21 13,.m 42 43] (.cond (.t 42) (.seq (.draw [(.L 44 3 4,[]),(.m 45 3,[]),(.z 46 (.ixAddr 3 (.t 45) (.k 0)),[]),(.L 47 3 46,[]),(.z 48 (.buildSl 3 2 [(.i 0),(.i 0),(.i 0),(.i 0),(.i 0),(.i 0)] [(0,3,.t 44),(3,3,.t 47)]),[(.L 47 3 46,false),(.L 44 3 4,false)]),(.m 2 48,[])]) .ret) (.q [.b 50 .eql 3 21 17,.m 49 50] (.cond (.t 49) (.q [.K 5 (-1)] (.seq (.q [.f 51 6 1,.l 52 51,.u 53 .eql 23 52 2] (.cond (.t 53) (.ops [.f 54 4 1,.l 55 54,.m 5 55]) .skip)) (.q [.f 56 6 1,.l 57 56,.u 58 .geq 23 57 1,.m 59 58,.yf 60 59 6 1,.yl 61 59 60,.y 62 59 (.bin .leq true 23 (.t 61) (.c (.u 3))),.q 63 59 62] (.cond (.t 63) (.q [.f 64 6 1,.l 65 64,.z 66 (.cvInt .i64 (.t 65)),.f 67 3 1,.l 68 67,.m 69 5,.z 70 (.build [(.i 0),(.i 0),(.i 0)] [(0,1,.t 66),(1,1,.t 68),(2,1,.t 69)]),.z 71 (.buildSl 3 1 [(.i 0),(.i 0),(.i 0)] [(0,3,.t 70)]),.m 2 71] .ret) .skip)))) .skip)))))))))))) (.q [.e 2] .ret)))))
def g:Nm Tryz.prog 127=some ⟨72,qu.r,[.tmp 2]⟩:=Aa
def x4:LC:=(.q [.x 2 0,.F 4] (.seq (.q [.f 5 1 2,.l 6 5,.b 7 .lss 3 6 0,.m 8 7,.nf 9 8 1 2,.nl 10 8 9,.mn 11 8 1,.n 12 8 (.lenSl (.t 11)),.n 13 8 (.bin .geq false 3 (.t 10) (.t 12)),.p 14 8 13,.m 15 14,.nf 16 15 0 2,.nl 17 15 16,.nb 18 15 .eql 3 17 2,.mn 19 15 18,.yf 20 19 2 2,.yl 21 19 20,.y 22 19 (.bin .lss true 3 (.t 21) (.k 0)),.my 23 19 22,.nf 24 23 2 2,.nl 25 23 24,.mn 26 23 1,.n 27 23 (.lenSl (.t 26)),.n 28 23 (.bin .geq false 3 (.t 25) (.t 27)),.y 29 19 (.pick (.t 23) .T (.t 28)),.n 30 15 (.pick (.t 19) (.t 29) .F),.p 31 15 30] (.cond (.t 31) (.q [.F 4] .ret) .skip)) (.seq (.q [.f 32 0 2,.l 33 32] (.block 0 (.q [.b 35 .eql 3 33 1,.m 34 35] (.cond (.t 34) (.q [.m 36 1,.f 37 1 2,.l 38 37,.I 39 1 36 38,.l 40 39,.z 41 (.w 82 [.t 40,.k 0]),.m 4 41] .ret) (.q [.b 43 .eql 3 33 3,.m 42 43] (.cond (.t 42) (.q [.m 44 1,.f 45 1 2,.l 46 45,.I 47 1 44 46,.l 48 47,.w 49 84 48,.s 50 49,.b 51 .gtr 3 50 0,.m 4 51] .ret) (.q [.b 53 .eql 3 33 2,.m 52 53] (.cond (.t 52) (.seq (.draw [(.m 54 1,[]),(.f 55 1 2,[]),(.l 56 55,[]),(.I 57 1 54 56,[]),(.l 58 57,[]),(.m 59 1,[]),(.f 60 2 2,[]),(.l 61 60,[]),(.I 62 1 59 61,[]),(.l 63 62,[]),(.W 64 66 58 63,[]),(.b 65 .lss 3 64 0,[]),(.m 4 65,[])]) .ret) .skip)))))))) (.q [.F 4] .ret))))
def g:Nm Tryz.prog 128=some ⟨66,x4.r,[.tmp 4]⟩:=Aa
def zfj:LC:=(.q [.x 3 0,.x 4 1,.e 6] (.q [.e 7,.e 8,.e 9,.e 10] (.seq (.q [.f 13 3 4,.l 14 13,.b 15 .geq 3 14 0] (.cond (.t 15) (.ops [.m 16 2,.f 17 3 4,.l 18 17,.I 19 1 16 18,.l 20 19,.m 7 20]) .skip)) (.seq (.q [.f 21 4 4,.l 22 21,.b 23 .geq 3 22 0] (.cond (.t 23) (.ops [.m 24 2,.f 25 4 4,.l 26 25,.I 27 1 24 26,.l 28 27,.m 8 28]) .skip)) (.seq (.q [.f 29 5 4,.l 30 29,.b 31 .geq 3 30 0] (.cond (.t 31) (.ops [.m 32 2,.f 33 5 4,.l 34 33,.I 35 1 32 34,.l 36 35,.m 9 36]) .skip)) (.q [.f 37 0 3,.l 38 37,.f 39 1 4,.l 40 39,.I 41 3 38 40,.f 42 0 41,.l 43 42,.m 11 43] (.seq (.q [.f 44 0 4,.l 45 44] (.block 0 (.q [.b 47 .eql 3 45 1,.m 46 47] (.cond (.t 46) (.ops [.f 48 6 4,.l 49 48,.z 50 (.buildSl 1 1 [(.u 0)] [(0,1,.t 49)]),.m 10 50]) (.q [.b 52 .eql 3 45 2,.m 51 52] (.cond (.t 51) (.ops [.m 53 7,.m 10 53]) (.q [.b 55 .eql 3 45 3,.m 54 55] (.cond (.t 54) (.ops [.m 56 7,.m 57 8,.W 58 81 56 57,.m 10 58]) (.q [.b 60 .eql 3 45 4,.m 59 60] (.cond (.t 59) (.q [.m 61 7,.m 62 11,.W 63 176 61 62,.m 64 11,.w 65 177 64,.W 66 81 63 65,.m 12 66] (.ops [.m 68 12,.m 69 8,.m 70 11,.W 71 176 69 70,.W 72 83 68 71,.m 67 72,.X 73 0 67,.X 74 1 67,.m 10 73])) (.seq (.q [.b 76 .eql 3 45 5,.m 75 76] (.cond (.t 75) .skip (.ops [.b 77 .eql 3 45 6,.m 75 77]))) (.cond (.t 75) (.ops [.m 78 7,.m 79 8,.W 80 31 78 79,.m 10 80]) (.q [.b 82 .eql 3 45 7,.m 81 82] (.cond (.t 81) (.q [.m 83 7,.m 84 8,.W 85 66 83 84,.b 86 .lss 3 85 0] (.cond (.t 86) (.ops [.z 87 (.buildSl 1 1 [(.u 0)] [(0,1,.c (.u 1))]),.m 10 87]) .skip)) (.q [.b 89 .eql 3 45 8,.m 88 89] (.cond (.t 88) (.q [.m 90 8,.m 10 90] (.q [.m 91 9,.z 92 (.w 82 [.t 91,.k 0])] (.cond (.t 92) (.ops [.m 93 7,.m 10 93]) .skip))) (.q [.b 95 .eql 3 45 9,.m 94 95] (.cond (.t 94) (.ops [.m 97 7,.m 98 9,.W 99 28 97 98,.m 96 99,.X 100 0 96,.X 101 1 96,.X 102 2 96,.m 10 101]) (.q [.b 104 .eql 3 45 10,.m 103 104] (.cond (.t 103) (.ops [.m 106 7,.m 107 8,.m 108 9,.V 109 178 106 107 108,.m 105 109,.X 110 0 105,.X 111 1 105,.m 10 110]) (.q [.b 113 .eql 3 45 11,.m 112 113] (.cond (.t 112) (.ops [.m 115 7,.m 116 8,.m 117 9,.V 118 152 115 116 117,.m 114 118,.X 119 0 114,.X 120 1 114,.m 10 119]) (.q [.b 122 .eql 3 45 12,.m 121 122] (.cond (.t 121) (.draw [(.m 124 7,[]),(.m 125 8,[]),(.m 127 9,[]),(.f 128 0 3,[]),(.l 129 128,[]),(.f 130 5 4,[]),(.l 131 130,[]),(.I 132 3 129 131,[]),(.f 133 0 132,[]),(.l 134 133,[]),(.W 126 31 124 125,[(.l 134 133,false),(.l 131 130,false),(.l 129 128,false)]),(.V 135 30 126 127 134,[]),(.m 123 135,[]),(.X 136 0 123,[]),(.X 137 1 123,[]),(.m 10 136,[])]) (.q [.b 139 .eql 3 45 13,.m 138 139] (.cond (.t 138) (.ops [.m 141 7,.m 142 8,.m 143 9,.V 144 179 141 142 143,.m 140 144,.X 145 0 140,.X 146 1 140,.m 10 145]) .skip)))))))))))))))))))))))))) (.q [.m 147 10,.m 148 11,.W 149 176 147 148,.m 6 149] .ret))))))))
def g:Nm Tryz.prog 129=some ⟨150,zfj.r,[.tmp 6]⟩:=Aa
def zes:LC:=(.q [.x 4 1,.e 6,.e 7,.F 8] (.q [.m 13 0,.s 14 13,.z 15 (.mkSl 1 [.nilSl] (.t 14) (.t 14)),.m 9 15] (.seq (.q [.K 10 0] (.block 0 (.loop (.seq (.q [.m 16 10,.m 17 0,.s 18 17,.c 19 .lss 3 16 18] (.cond (.t 19) .skip (.exit 0))) (.seq (.block 1 (.ops [.m 22 9,.m 23 10,.m 24 2,.m 25 10,.I 26 1 24 25,.l 27 26,.I 28 1 22 23,.S 1 28 27])) (.ops [.m 20 10,.b 21 .add 3 20 1,.m 10 21])))))) (.q [.L 29 7 4,.w 30 127 29,.m 11 30] (.seq (.q [.K 12 0] (.block 2 (.loop (.seq (.q [.m 31 12,.m 32 11,.s 33 32,.c 34 .lss 3 31 33] (.cond (.t 34) .skip (.exit 2))) (.seq (.block 3 (.q [.m 37 11,.m 38 12,.I 39 3 37 38,.L 40 3 39,.m 41 9,.W 42 128 40 41,.z 43 (.un .not (.t 42))] (.cond (.t 43) (.q [.e 6,.e 7,.F 8] .ret) .skip))) (.ops [.m 35 12,.b 36 .add 3 35 1,.m 12 36])))))) (.seq (.q [.f 44 0 4,.l 45 44,.b 46 .eql 3 45 14] (.cond (.t 46) (.seq (.q [.m 47 9,.f 48 5 4,.l 49 48,.I 50 1 47 49,.l 51 50,.z 52 (.w 82 [.t 51,.k 0])] (.cond (.t 52) (.seq (.draw [(.m 53 9,[]),(.f 54 2 4,[]),(.l 55 54,[]),(.I 56 1 53 55,[]),(.l 57 56,[]),(.m 58 9,[]),(.f 59 1 4,[]),(.l 60 59,[]),(.I 61 1 58 60,[]),(.l 62 61,[]),(.m 6 57,[]),(.m 7 62,[]),(.z 8 (.move .T),[])]) .ret) .skip)) (.seq (.draw [(.m 63 9,[]),(.f 64 1 4,[]),(.l 65 64,[]),(.I 66 1 63 65,[]),(.l 67 66,[]),(.m 68 9,[]),(.f 69 2 4,[]),(.l 70 69,[]),(.I 71 1 68 70,[]),(.l 72 71,[]),(.m 6 67,[]),(.m 7 72,[]),(.z 8 (.move .T),[])]) .ret)) .skip)) (.q [.m 73 0,.z 74 (.build [.nilSl,.nilSl,.nilSl] [(0,1,.t 73)]),.L 75 7 4,.m 76 9,.V 77 129 74 75 76,.m 6 77,.e 7,.z 8 (.move .T)] .ret)))))))
def g:Nm Tryz.prog 65=some ⟨78,zes.r,[.tmp 6,.tmp 7,.tmp 8]⟩:=Aa
def zjo:LC:=(.q [.e 4] (.q [.m 5 0,.m 6 0,.s 7 6,.m 8 1,.z 9 (.maxi true (.k 0) (.t 8)),.z 10 (.maxi false (.t 7) (.t 9)),.z 11 (.slSl 1 (.t 5) none (some (.t 10))),.w 12 84 11,.m 4 12] .ret))
def g:Nm Tryz.prog 176=some ⟨13,zjo.r,[.tmp 4]⟩:=Aa
def zg1{l:List (List UInt64)}{i:Nat}(h:i<l.length):(l.map LU)[i]?=some (LU (l.getD i [])):=by
 simp[Hw,h]
def cm{l:List (List UInt64)}{i:Nat}:(l.map val).getD i 0=val (l.getD i []):=by
 by_cases h:i<l.length
 ·simp[Hw,h]
 ·simp[Hw,h,val]
def zf9{l:List (List UInt64)}{m:Nat}(hi:∀x∈l,x.length≤m)(i:Nat):(l.getD i []).length≤m:=by
 by_cases h:i<l.length
 ·rw[Hw,H7 h];exact hi _ (K3 h)
 ·simp[Hw,h]
def zyp(o:Ko):Oz 127 [.agg o.f] (.lst (Yl (Xy o)) (Xy o).length 3):=by
 refine Sd.mk (by simp[LV.dat,sc]) (Nn j Aa N ?_);by_cases H:o.kind=9
 ·simp[qu,Ko.f,H];simp[Xy,H,Yl,Ur,Of,bor,dats,LV.dat]
 by_cases z:o.kind=10∨o.kind=11
 ·rcases z with k|k
  all_goals
   simp[qu,Ko.f,k];simp[Xy,k,Yl,Ur,Of,bor,dats,LV.dat]
 by_cases A:o.kind=12
 ·simp[qu,Ko.f,A];simp[Xy,A,Yl,Ur,Of,bor,dats,LV.dat]
 by_cases B:o.kind=13
 ·simp[qu,Ko.f,B];simp[Xy,B,Yl,Ur,Of,bor,dats,LV.dat]
 have C:¬o.kind=10:=λh=>z (.inl h)
 have D:¬o.kind=11:=λh=>z (.inr h)
 by_cases g:o.kind=17
 ·by_cases E:o.imm=2
  ·simp[qu,Ko.f,g,E];simp[Xy,g,E,Yl,Ur,Of,bor,dats,LV.dat]
  by_cases F:o.imm=1
  ·simp[qu,Ko.f,g,F];simp[Xy,g,F,Yl,Ur,Of,bor,dats,LV.dat]
  by_cases G:o.imm=3
  ·simp[qu,Ko.f,g,G];simp[Xy,g,G,Yl,Ur,Of,bor,dats,LV.dat]
  by_cases I:1≤o.imm
  ·have K:¬o.imm≤3:=λh=>by
    rw[J3]at I h;have L:o.imm.toNat≠1:=λe=>F (Jh.1 e)
    have M:o.imm.toNat≠2:=λe=>E (Jh.1 e)
    have O:o.imm.toNat≠3:=λe=>G (Jh.1 e)
    have P:(1:UInt64).toNat=1:=rfl;have Q:(3:UInt64).toNat=3:=rfl;omega
   simp[qu,Ko.f,g,F,E,G,I,K,Xy,Yl,Of,bor]
  ·simp[qu,Ko.f,g,F,E,G,I,Xy,Yl,Of,bor]
 ·simp[qu,Ko.f,H,C,D,A,B,g,Xy,Yl,Of,bor]
def zyi(f:Fc)(A:List (List UInt64))(hv:∀x∈A,x.length≤1000):Nj 128 [.agg (Ur f),LN A] (.bool (Xt f (A.map val))) []:=by
 refine Od.val rfl (Nn B Aa N ?_);obtain⟨k,a,b⟩:=f;have gg:(A.map val).length=A.length:=N
 by_cases K:0≤a∧a<A.length
 case neg =>
  have j:Rp A.length a=false:=by
   rw[Bool.eq_false_iff];intro h;exact K (jk.1 h)
  by_cases T:a<0
  ·simp[x4,Ur,LN,T,Xt,j]
  ·have a1:(A.length:Int)≤a:=J
   simp[x4,Ur,LN,T,a1,Xt,j]
 obtain⟨n,rfl⟩:=H0 K.1;have D:n<A.length:=J
 have z:¬A.length≤n:=J
 have C:¬(n:Int)<0:=J
 have j:Rp A.length (n:Int)=true:=jk.2 K;have qa:=zg1 D;have L:=zf9 hv n;have H:gN (A.map val) n=val (A.getD n []):=by rw[gN_at J];exact cm
 obtain⟨x,U⟩:∃x,A.getD n []=x:=⟨_,rfl⟩;have E:A[n]=x:=by rw[←U];simp[D]
 rw[U]at qa L H;by_cases V:k=1
 ·simp[x4,Ur,LN,V,D,z,C];refine Ns (zgg x 0 J) Af ?_;simp[Xt,j,H,Nat.testBit_zero]
 by_cases X:k=3
 ·simp[x4,Ur,LN,X,D,z,C];refine Ns (bm x J) Af ?_;have F:0<(Nu (val x)).length↔0<val x:=by
   by_cases h:val x=0
   ·rw[h,toL_zero];simp
   ·rw[zge h];simp;omega
  simp[RU,Xt,j,H];exact F
 by_cases I:k=2
 ·by_cases M:0≤b∧b<A.length
  ·obtain⟨m,rfl⟩:=H0 M.1;have hm:m<A.length:=J
   have O:¬A.length≤m:=J
   have P:¬(m:Int)<0:=J
   have g:Rp A.length (m:Int)=true:=jk.2 M;have Q:=zf9 hv m;have G:gN (A.map val) m=val (A.getD m []):=by rw[gN_at J];exact cm
   obtain⟨y,Y⟩:∃y,A.getD m []=y:=⟨_,rfl⟩;have R:A[m]=y:=by rw[←Y];simp[hm]
   rw[Y]at Q G;simp[x4,Ur,LN,I,D,z,C,hm,O,P];refine Ns (z25 x y J J) (by simp[E,R]) ?_;simp[Xt,j,g,H,G,zo5]
  ·have g:Rp A.length b=false:=by
    rw[Bool.eq_false_iff];intro h;exact M (jk.1 h)
   by_cases Z:b<0
   ·simp[x4,Ur,LN,I,D,z,C,Z,Xt,g]
   ·have b1:(A.length:Int)≤b:=J
    simp[x4,Ur,LN,I,D,z,C,Z,b1,Xt,g]
 ·simp[x4,Ur,LN,V,I,X,D,z,Xt]
def zop(a:List UInt64)(m:Nat)(h:m≤a.length):val (a.take m)=val a%2^(64*m):=by
 have e:=val_append (a.take m) (a.drop m);rw[Mg,J4,J8 h]at e;have g:=val_lt (a.take m);rw[J4,J8 h]at g;rw[e,Nat.add_mul_mod_self_left,Iw g]
def sx(a:List UInt64)(n:Int):val (a.take (min (max 0 n) (a.length:Int)).toNat)=val a%yi n:=by
 by_cases h:(a.length:Int)≤n
 ·rw[(J:(min (max 0 n) (a.length:Int)).toNat=a.length),K2,yi,Iw];exact I0 (val_lt a) (La Ad J)
 ·rw[(J:(min (max 0 n) (a.length:Int)).toNat=n.toNat)];exact zop a _ J
def sLow_ok(a:List UInt64)(n:Int)(z:a.length≤1000000):Nj 176 [LU a,.i n] (.dy 0 0) [RU (Nu (val a%yi n))]:=by
 refine Od.row (Nn g Aa N ?_);simp[zjo];refine⟨J,J,?_⟩;rw[←sx a n];obtain⟨m,hm⟩:∃m,(min (a.length:Int) (max 0 n)).toNat=m:=⟨_,rfl⟩;have j:(min (max 0 n) (a.length:Int)).toNat=m:=by rw[Int.min_comm];exact hm
 have A:m≤a.length:=J
 have e:(a.take m).length=m:=Ab
 try simp only[hm,j]
 refine vk (bm (a.take m) J) (by simp[hm,j,e]) ?_;simp;exact .inr ⟨0,0,0,rfl,rfl⟩
def zzk{m:Nat}(g:Y.length≤m)(j:uV.length≤m):val Y*val uV<2^(64*(2*m)):=by
 rw[(J:64*(2*m)=64*m+64*m),Ku];exact Nat.mul_lt_mul'' (d6 g) (d6 j)
def yy{m:Nat}(g:Y.length≤m)(j:uV.length≤m):(Nu (val Y*val uV)).length≤2*m:=jm (zzk g j)
def zu5{o:Ko}(C:o.kind=12)(ho:Oc vQ o=true):∃d a b c:Nat,o.d=d∧o.a=a∧o.b=b∧o.c=c∧o.e=-1∧d<vQ.length∧a<vQ.length∧b<vQ.length∧c<vQ.length∧(gv vQ d).limbs=(gv vQ c).limbs∧(gv vQ a).limbs=(gv vQ c).limbs∧(gv vQ b).limbs=(gv vQ c).limbs:=by
 obtain⟨j,_,g⟩:=zp1 (s:=29) ho (by simp[P1,C]);obtain⟨d,hd⟩:=H0 (zt2 j Ad).1;obtain⟨a,D⟩:=H0 (ztu j Ad).1;obtain⟨b,E⟩:=H0 (zsw j Ad).1;obtain⟨c,F⟩:=H0 (zoq j Ad).1;have G:=(zt2 j Ad).2;have H:=(ztu j Ad).2;have I:=(zsw j Ad).2;have K:=(zoq j Ad).2;have he:o.e=-1:=by
  simp only[Tw,Hz]at j;exact zjv j.2.1 Ad
 have g:∀v∈[o.d,o.a,o.b,o.c],Pl vQ v=Pl vQ o.d:=by
  have:Qm o=[o.d,o.a,o.b,o.c]:=by simp[Qm,C]
  unfold sm at g;rw[this]at g;intro v hv;simpa using Jy.1 g v hv
 have z:=g o.a N;have A:=g o.b N;have B:=g o.c N;simp only[Pl]at z A B;rw[D,hd]at z;rw[E,hd]at A;rw[F,hd]at B;simp only[In]at z A B;exact⟨d,a,b,c,hd,D,E,F,he,J,J,J,J,J,J,J⟩
def il{o:Ko}(M:o.kind=12)(ho:Oc vQ o=true)(hV:vg.length=vQ.length)(B:∀x∈vg,x.length≤1000) :
  Nj 129 [.agg [.lst (Ob vQ) vQ.length 3,.lst [] 0 7,.lst [] 0 7],.agg o.f,LN vg] (.dy 0 0) [RU (Nu (val (Wc (Nu (val (vg.getD o.a.toNat [])*val (vg.getD o.b.toNat []))) (vg.getD o.c.toNat []) (Pl vQ o.c))%yi (Pl vQ o.d)))]:=by
 obtain⟨d,a,b,c,O,P,Q,C,ee,D,la,lb,E,_,_,_⟩:=zu5 M ho;have T:=zg1 (l:=vg) (i:=a) J;have U:=zg1 (l:=vg) (i:=b) J;have V:=zg1 (l:=vg) (i:=c) J;have X:=zf9 B a;have Y:=zf9 B b;have nc:=zf9 B c;have Z:=vd (T2 D);have F:=vd (T2 E);have G:Pl vQ o.d=(gv vQ d).limbs:=by rw[Pl,O];rfl
 have H:Pl vQ o.c=(gv vQ c).limbs:=by rw[Pl,C];rfl
 refine Od.row (Nn g Aa N ?_);rw[G,H,P,Q,C];simp only[In];have j:a<vg.length:=J
 have z:b<vg.length:=J
 have A:c<vg.length:=J
 have xa:vg[a]=vg.getD a []:=by simp[Hw,j]
 have xb:vg[b]=vg.getD b []:=by simp[Hw,z]
 have xc:vg[c]=vg.getD c []:=by simp[Hw,A]
 generalize vg.getD a []=K at *;generalize vg.getD b []=L at *;generalize vg.getD c []=R at *;have gg:=ju D;have gz:=ju E;simp[zfj,Ko.f,LN,M,O,P,Q,C,D,E,j,z,A,Nd T,Nd U,Nd V,Nd Z,Nd F];have gA:(Nu (val K*val L)).length≤2000:=by
  have:=yy X Y;omega
 refine Ns (zh8 K L J J) (by simp[xa,xb]) ?_;simp[RU];refine Ns (ziu (Nu (val K*val L)) R (gv vQ c).limbs J J) (by simp[xc]) ?_;simp[RU];have I:(Wc (Nu (val K*val L)) R (gv vQ c).limbs).length≤1000000:=by
  unfold Wc;split
  ·rename_i h;have:=vh (I4 (val (Nu (val K*val L))*R7 (2^(64*(gv vQ c).limbs.toNat)%val R) (val R)) (Nat.pos_of_ne_zero (ztk h.1)));omega
  ·simp
 refine vk (sLow_ok (Wc (Nu (val K*val L)) R (gv vQ c).limbs) (gv vQ d).limbs I) N ?_;simp[RU];exact .inr ⟨_,0,0,rfl,N⟩
def mtL(vs:List Vr)(o:Ko)(X:List (List UInt64)):List UInt64 :=
 if Vp o ((X.take vs.length).map val)=true then Nu (val (Wc (Nu (val (X.getD o.a.toNat [])*val (X.getD o.b.toNat []))) (X.getD o.c.toNat []) (Pl vs o.c))%yi (Pl vs o.d)) else []
def zlk{vs:List Vr}{o:Ko}{X:List (List UInt64)}(T:o.kind=12)(hv:Qx vs=true)(ho:Oc vs o=true)(hX:vs.length≤X.length)(hl:∀x∈X,x.length≤1000) :
  Oz 65 [.lst (Ob vs) vs.length 3,.agg o.f,LN X] (.tup [LU (mtL vs o X),LU [],.bool (Vp o ((X.take vs.length).map val))]):=by
 refine Sd.mk (by simp[LV.dat,dats,y5]) (Nn z Aa (by simp) ?_);have gI:vs.length≤256:=(zf2 hv).2;have Q:o.f=[.i o.kind,.i o.d,.i o.e,.i o.a,.i o.b,.i o.c,.u o.imm]:=rfl;have C:(X.take vs.length).length=vs.length:=Ab
 have K:∀x∈X.take vs.length,x.length≤1000:=λx H=>hl x (Mm H)
 have D:∀i,i<vs.length→(X.take vs.length).getD i []=X.getD i []:=λi hi=>by
  rw[Hw,Ju hi,←Hw]
 obtain⟨A,U⟩:∃A,X.take vs.length=A:=⟨_,rfl⟩;have V:mtL vs o X=if Vp o (A.map val)=true then Nu (val (Wc (Nu (val (A.getD o.a.toNat [])*val (A.getD o.b.toNat []))) (A.getD o.c.toNat []) (Pl vs o.c))%yi (Pl vs o.d)) else []:=by
  obtain⟨d,a,b,c,ed,ea,eb,ec,ee,ld,la,lb,lc,_,_,_⟩:=zu5 T ho;rw[mtL,U,ea,eb,ec,←U];simp only[In];rw[D _ la,D _ lb,D _ lc]
 rw[U,V];obtain⟨gM,hR⟩:∃gM,Nu (val (Wc (Nu (val (A.getD o.a.toNat [])*val (A.getD o.b.toNat []))) (A.getD o.c.toNat []) (Pl vs o.c))%yi (Pl vs o.d))=gM:=⟨_,rfl⟩;rw[hR];clear V;rw[U]at C K;simp[zes];refine⟨J,?_⟩;refine O8 (λR gH gA N=>∃(i st:Nat) (gG:List LV),gH=[]∧N+i=vs.length∧lk R 0=.lst (Ob vs) vs.length 3∧lk R 2=LN X∧lk R 4=.ptr 0 0∧lk R 9=.dy 1 0∧lk R 10=.i i∧gA[0]?=some (.cells o.f 0)∧gA[1]?=some (.dyn gG vs.length 1 0 st)∧gG.length=vs.length∧∀Y,Y<i→gG[Y]?=some (LU (X.getD Y []))) (N:=vs.length)
  ⟨0,0,Ph [.nilSl] vs.length,rfl,J,by simp,by simp[LN],by simp,by simp,by simp,by simp,by simp,by simp[z5s],λY h=>J⟩ ?_
 rintro N R gH gA ⟨i,st,gG,rfl,hN,E,h2,F,I,L,j,g,hC,M⟩ Nx G;have l1:=(Hv.1 g).1;by_cases gz:i<vs.length
 ·have gX:i<X.length:=J
  have q:=zg1 gX;simp[E,h2,F,I,L,gz,gX,LN,Nd q,g,hC];refine⟨J,J,G _ _ _ ⟨N-1,J,i+1,st+1,gG.set i (LU (X.getD i [])),rfl,J,Af,by simp[h2,LN],Ak,A0,by simp,?_,?_,by simp[hC],λY hj=>?_⟩⟩
  ·rw[Hy J];exact j
  ·rw[H8 l1,I5,H6 J];simp[Oo,Hw,gX]
  ·by_cases e:Y=i
   ·subst e;rw[H8 J]
   ·rw[Hy J];exact M Y J
 have gi:i=vs.length:=J
 subst gi;have gC:gG=A.map LU:=by
  refine Mc λY=>?_
  by_cases hj:Y<vs.length
  ·rw[M Y hj,zg1 J,←U,D Y hj]
  ·rw[Ke J,Ke (by rw[List.length_map];omega)]
 subst gC;clear M;simp[E,F,L,j,Q];rw[←Q];refine R6 (zyp o) (by simp[Q,dats,LV.dat]) ?_;obtain⟨B,hL⟩:∃B,Xy o=B:=⟨_,rfl⟩;have gK:B.length≤3:=by rw[←hL];simp[Xy,T]
 have hM:Vp o (A.map val)=B.all λf=>Xt f (A.map val):=by rw[Vp,hL]
 rw[hM,hL];simp;refine O8 (λR gH gA N=>∃(i:Nat),gH=[]∧N+i=B.length∧lk R 0=.lst (Ob vs) vs.length 3∧lk R 4=.ptr 0 0∧lk R 9=.dy 1 0∧lk R 11=.lst (Yl B) B.length 3∧lk R 12=.i i∧gA[0]?=some (.cells o.f 0)∧gA[1]?=some (.dyn (A.map LU) vs.length 1 0 st)∧∀f∈B.take i,Xt f (A.map val)=true) (N:=B.length)
  ⟨0,rfl,J,Af,Ak,A0,by simp,by simp,j,g,by simp⟩ ?_
 clear E h2 F I L j g G l1 gz;rintro N2 R gH gA ⟨i,rfl,gL,E,F,I,O,P,j,g,hh⟩ Nx G;by_cases gz:i<B.length
 ·have hg:=H7 gz;have q:=zbf (f:=Ur) (k:=3) (λ_=>rfl) hg;have ql:=zu0 (f:=Ur) (k:=3) (λ_=>rfl) gz;have Z:B[i]∈B:=K3 gz;have gD:B.take (i+1)=B.take i++[B[i]]:=Jg gz;generalize B[i]=f at *;have q':((Yl B).drop (i*3)).take 3=Ur f:=q;have gE:i*3+3≤(Yl B).length:=ql;simp[E,F,I,O,P,gz,q',gE];refine Ns (zyi f A K) ⟨_,_,rfl,⟨_,rfl,bors_self _ (by simp[Ur,dats,LV.dat])⟩,_,_,rfl,⟨_,_,_,_,by rw[LN,C],g,uv (λa=>pk a) A⟩,rfl⟩ ?_;cases hb:Xt f (A.map val) with
  |false =>
   have:(B.all λf=>Xt f (A.map val))=false:=by
    rw[Bool.eq_false_iff];intro h;have:=Jy.1 h f Z;rw[hb]at this;cases this
   simp[this];exact⟨_,_,⟨rfl,rfl⟩,.inr ⟨1,rfl⟩,_,rfl,.inr ⟨1,rfl⟩⟩
  |true =>
   simp[P];refine⟨J,G _ _ _ ⟨N2-1,J,i+1,rfl,J,Af,Ak,A0,D5,by simp,j,g,λx H=>?_⟩⟩;rw[gD]at H;rcases Is.1 H with H|H
   ·exact hh x H
   ·rw[M2.1 H];exact hb
 have gg:(B.all λf=>Xt f (A.map val))=true:=by
  rw[Il J]at hh;exact Jy.2 hh
 rw[gg,H6 rfl];have hS:=il T ho C K;rw[hR]at hS;have gF:[LV.i 12,.i o.d,.i o.e,.i o.a,.i o.b,.i o.c,.u o.imm]=o.f:=by rw[Q,T]
 simp[E,F,I,O,P,gz,j,Q,T];rw[gF];refine Ns hS ⟨_,_,rfl,⟨_,rfl,⟨_,_,rfl,?_,_,_,rfl,.inr ⟨_,rfl⟩,_,_,rfl,.inr ⟨_,rfl⟩,rfl⟩⟩,_,_,rfl,⟨_,rfl,bors_self _ (by simp[Q,dats,LV.dat])⟩,_,_,rfl,⟨_,_,_,_,by rw[LN,C],g,uv (λa=>pk a) A⟩,rfl⟩ ?_
 ·simp[bor,Ro]
 ·simp[RU];exact⟨_,_,⟨rfl,rfl⟩,rfl,_,rfl,.inr ⟨1,rfl⟩⟩
section
structure MtV (vs:List Vr) (o:Ko) (d a b c:Nat):Prop where
 hk:o.kind=12
 hv:Qx vs=true
 ho:Oc vs o=true
 fd:o.d=d∧d<vs.length
 fa:o.a=a∧a<vs.length
 fb:o.b=b∧b<vs.length
 fc:o.c=c∧c<vs.length
 e:o.e=-1
 la:(gv vs a).limbs=(gv vs d).limbs
 lb:(gv vs b).limbs=(gv vs d).limbs
 lc:(gv vs c).limbs=(gv vs d).limbs
 md:Sc (gv vs d)=false
 sec:(gv vs d).sec=false→(gv vs a).sec=false∧(gv vs b).sec=false∧(gv vs c).sec=false
def mtV{vs:List Vr}{o:Ko}(A:o.kind=12)(hv:Qx vs=true)(ho:Oc vs o=true):∃d a b c,MtV vs o d a b c:=by
 obtain⟨d,a,b,c,hd,B,C,D,he,I,K,L,M,P,Q,R⟩:=zu5 A ho;have j:Sj vs (O5 vs o) o.d=true:=by
  unfold Oc at ho;rw[Hx J]at ho;rw[show P1 o.kind=some 29 by simp[P1,A]]at ho;simp only[Hz]at ho;exact ho.2.2.1
 unfold Sj at j;rw[hd]at j;simp only[In,Je,Ie,Jq,Bool.or_eq_false_iff,Bool.and_eq_false_iff,Bool.not_eq_false']at j;have z:=j.resolve_left J;refine⟨d,a,b,c,A,hv,ho,⟨hd,I⟩,⟨B,K⟩,⟨C,L⟩,⟨D,M⟩,he,J,J,J,z.1,λO=>?_⟩;have g:O5 vs o=false:=by
  rcases z.2 with h|h
  ·exact h
  ·rw[O]at h;cases h
 unfold O5 at g;rw[Lq]at g;have E:T6 o=[o.a,o.b,o.c]:=by
  unfold T6;rw[Hx J,B,C,D];simp
 rw[E,B,C,D]at g;have F:=g a N;have G:=g b N;have H:=g c N;simp only[In,Bool.not_eq_true]at F G H;exact⟨F,G,H⟩
section pl
variable {vs : List Vr} {o : Ko} {d a b c : Nat}
def z7k(h:MtV vs o d a b c):Nt vs o=(gv vs d).limbs+2:=by
 unfold Nt;have hm:Sw vs o=true:=by rw[zvk,h.hv,h.ho];simp[zor,h.hk]
 rw[H6 (by rw[hm];simp[h.hk]),Pl,h.fc.1,In,h.lc]
def ag(h:MtV vs o d a b c):R4 vs o.d=!(gv vs d).sec:=by
 unfold R4;rw[h.fd.1];have:=h.fd.2;simp[this]
def Y4(vs:List Vr)(d:Nat):Nat:=if (gv vs d).sec=true then 40 else 16
def Px(vs:List Vr)(d i:Nat):Pn:=⟨i,0,(gv vs d).limbs.toNat⟩
def mtW(vs:List Vr)(d:Nat):Pn:=⟨O4 vs d,0,(gv vs d).limbs.toNat+2⟩
def jv(vs:List Vr)(d a b c e:Nat):Fr Lo:=zqf (Px vs d d) (Px vs d a) (Px vs d b) (Px vs d c) (mtW vs d) ((gv vs d).limbs.toNat-1) (Y4 vs d) e
def Td(vs:List Vr)(d a b c e:Nat):Fr Lo:=zx5 (Px vs d d) (Px vs d a) (Px vs d b) (Px vs d c) (mtW vs d) ((gv vs d).limbs.toNat-1) (Y4 vs d) e
def aa(vs:List Vr)(d a b c e:Nat):(Td vs d a b c e).flat=P8 e 0++((jv vs d a b c e).flat++List.replicate e Tj):=wrap_flat e 0 _
def zzm{e:Nat}:(jv vs d a b c e).flat.length≤200:=zuu
def xy(h:MtV vs o d a b c)(hm:∀i,i<vs.length→(gv vs i).mode=0)(A:vs.length≤30){deep:Nat}(hd:deep≤4):Wx vs o (N0 vs (Nt vs o)) (Sq vs) ⟨vs.length,0,Nt vs o⟩ ⟨(vs.length:Int)+1,0,Nt vs o⟩ deep=(jv vs d a b c deep).flat∧c7 vs o (N0 vs (Nt vs o)) (Sq vs) ⟨vs.length,0,Nt vs o⟩ ⟨(vs.length:Int)+1,0,Nt vs o⟩ deep=0:=by
 have hw:=z7k h;have B:=Tp h.hv h.fd.2;have z:jn vs o (N0 vs (Nt vs o)) (Sq vs) ⟨vs.length,0,Nt vs o⟩ ⟨(vs.length:Int)+1,0,Nt vs o⟩ deep (Nt vs o)=true:=by
  unfold jn;rw[zxb h.hv hm A ⟨J,J⟩];have C:(V7 vs o ⟨vs.length,0,Nt vs o⟩ ⟨(vs.length:Int)+1,0,Nt vs o⟩).size=Nt vs o:=by unfold V7;split<;>rfl
  rw[C];simp;omega
 unfold Wx c7;rw[H6 z,H6 z];refine⟨?_,rfl⟩;have D:o.d.toNat=d:=by have:=h.fd.1;omega
 have E:o.a.toNat=a:=by have:=h.fa.1;omega
 have F:o.b.toNat=b:=by have:=h.fb.1;omega
 have G:o.c.toNat=c:=by have:=h.fc.1;omega
 have H:wx vs o=((Y4 vs d:Nat):Int):=by
  unfold wx Y4;rw[ag h];cases (gv vs d).sec<;>simp
 have I:V7 vs o ⟨vs.length,0,Nt vs o⟩ ⟨(vs.length:Int)+1,0,Nt vs o⟩=⟨(O4 vs d:Nat),0,Nt vs o⟩:=by
  unfold V7 O4;rw[ag h];cases (gv vs d).sec<;>simp
 have g:lz (gv vs d).limbs=(gv vs d).limbs+2:=by unfold lz;rw[Hx J]
 rw[D,E,F,G,zev h.fd.2,zev h.fa.2,zev h.fb.2,zev h.fc.2,I,H,h.la,h.lb,h.lc];have j:m7 ⟨(d:Int),0,(gv vs d).limbs⟩ ⟨(a:Int),0,(gv vs d).limbs⟩ ⟨(b:Int),0,(gv vs d).limbs⟩ ⟨(c:Int),0,(gv vs d).limbs⟩ ⟨(O4 vs d:Nat),0,Nt vs o⟩ deep ((Y4 vs d:Nat):Int)=true:=by
  have K:16≤Y4 vs d∧Y4 vs d≤40:=Es
  simp[m7,g,zmc,hw];omega
 unfold zpp;rw[H6 j];have L:(((gv vs d).limbs.toNat:Nat):Int)=(gv vs d).limbs:=J
 have M:(((gv vs d).limbs.toNat-1+1:Nat):Int)=(gv vs d).limbs:=J
 unfold jv zqf Px mtW Pn.p;simp only[g,M];rw[(J:(((gv vs d).limbs.toNat+2:Nat):Int)=(gv vs d).limbs+2),L];rfl
def bh(vs:List Vr)(d a b c:Nat):Cf:=⟨vs.length+2,if (gv vs d).sec=true then 40 else 16,24,0,7,12,13,λx=>x=d∨x=a∨x=b∨x=c∨x=O4 vs d,λx=>x=d∨x=O4 vs d⟩
def am(h:MtV vs o d a b c){lo:Int}{e:Nat}(j:lo≤(e:Int))(he:e≤4):(jv vs d a b c e).AllH { bh vs d a b c with lo:=lo } e:=by
 have g:=Tp h.hv h.fd.2;have z:=h.fd.2;have A:=h.fa.2;have B:=h.fb.2;have C:=h.fc.2;have hw:=zxr vs d;unfold jv zqf;refine zil ?_ ⟨?_,.inl rfl⟩ ⟨?_,.inr (.inl rfl)⟩ ⟨?_,.inr (.inr (.inl rfl))⟩ ⟨?_,.inr (.inr (.inr (.inl rfl)))⟩ ⟨?_,.inr (.inr (.inr (.inr rfl)))⟩ ⟨?_,.inr rfl⟩ J ?_ ?_
 ·simp only[bh];unfold Y4;split<;>omega
 all_goals simp only[bh,Px,mtW]
 all_goals omega
def zyg(h:MtV vs o d a b c){e:Nat}(he:e≤4):(Td vs d a b c e).AllH (bh vs d a b c) 0:=by
 refine wrap_allH e 0 _ (by simp[bh]) (by simp only[bh];omega) ?_;rw[Int.zero_add];exact am (lo:=0) h J he
def g:CfOk (bh vs d a b c):=by
 refine⟨?_,by simp[bh],by simp[bh]⟩;simp only[bh];split<;>omega
def zw4{W:Int}:Nw (N0 vs W) (O4 vs d)=⟨W,2,(gv vs d).sec⟩:=by
 unfold O4;cases g:(gv vs d).sec with
 |true=>rw[H6 rfl,plB_w1]
 |false=>rw[Hx N,plB_w0]
def zo9(h:MtV vs o d a b c){i:Nat}(hi:i<vs.length)(j:(gv vs i).limbs=(gv vs d).limbs){W:Int}:Bp (N0 vs W) (Px vs d i)∧Bw (N0 vs W) (Px vs d i):=by
 have g:=Tp h.hv h.fd.2;exact zy3 h.hv hi J
def o7(h:MtV vs o d a b c):Bp (N0 vs (Nt vs o)) (mtW vs d)∧Bw (N0 vs (Nt vs o)) (mtW vs d):=by
 have g:=Tp h.hv h.fd.2;have hw:=z7k h;have j:=(zxr vs d).2;refine⟨⟨by rw[plB_len];exact j,?_,?_⟩,?_⟩
 ·show (((0+((gv vs d).limbs.toNat+2):Nat)):Int)≤(Nw _ (O4 vs d)).size;rw[zw4];simp only;omega
 ·show (Nw _ (O4 vs d)).size≤_;rw[zw4];simp only;omega
 ·show (Nw _ (O4 vs d)).kind≠1;rw[zw4];simp
def az(h:MtV vs o d a b c)(B:vs.length≤30){e:Nat}(he:e≤4):(Qp ((64:Nat):Int) (N0 vs (Nt vs o)) (Td vs d a b c e).flat).2=0:=by
 have z:=Tp h.hv h.fd.2;have hw:=z7k h;have j:Gd (N0 vs (Nt vs o)) [] [] (Td vs d a b c e) []:=by
  unfold Td;refine lg J Es (zo9 h h.fd.2 rfl).1 (zo9 h h.fd.2 rfl).2 (zo9 h h.fa.2 h.la).1 (zo9 h h.fb.2 h.lb).1 (zo9 h h.fc.2 h.lc).1 (o7 h).1 (o7 h).2 ?_ ?_
  ·show (gv vs d).limbs.toNat-1+2<(gv vs d).limbs.toNat+2;omega
  ·show 0<(gv vs d).limbs.toNat;omega
 have g:(Td vs d a b c e).flat.length≤65536:=by
  rw[aa];have C:=zzm (vs:=vs) (d:=d) (a:=a) (b:=b) (c:=c) (e:=e);have A:(P8 e 0).length=e:=lpsL_len' e 0;simp[A];omega
 have:=Zu (bs:=N0 vs (Nt vs o)) (f:=Td vs d a b c e) (S':=[]) (by rw[plB_len];omega) g (zo1 h.hv ⟨J,J⟩) j;rw[show (((64:Nat):Int))=64 from rfl,this]
def zm4{W:Int}{X:List (List UInt64)}(g:zq2 (N0 vs W) X):Xu (N0 vs W) X=true:=by
 unfold Xu;refine Jj ⟨g.1,λi hi=>?_⟩;rw[g.2 i hi];have:(Nw (N0 vs W) i).kind=2:=by
  rw[plB_len]at hi;by_cases q:i<vs.length
  ·rw[Up q]
  ·by_cases j:i=vs.length
   ·rw[j,plB_w0]
   ·rw[(J:i=vs.length+1),plB_w1]
 rw[this];simp
def mr{deep:Nat}(h:MtV vs o d a b c)(hn:vs.length≤30)(hk:(gv vs d).limbs≤6)(hd:deep≤4){X:List (List UInt64)}(z:zq2 (N0 vs (Nt vs o)) X) :
  ∃(j:Ms),j.bufs.length=vs.length+2∧j.l.length≤800000000∧(∀i,i<vs.length+2→i≠d→i≠O4 vs d→j.bufs.getD i []=X.getD i []) ∧
   (j.bufs.getD d []).length=(gv vs d).limbs.toNat∧((X.getD c []).getD 0 0%2=1→val (X.getD a [])<val (X.getD c [])→val (j.bufs.getD d [])<val (X.getD c [])∧val (j.bufs.getD d [])=val (Wc (Nu (val (X.getD a [])*val (X.getD b []))) (X.getD c []) (gv vs d).limbs)) ∧
   Oz 29 [.agg (Ni ((64:Nat):Int) (N0 vs (Nt vs o)) (Td vs d a b c deep).flat),LN X] (.tup [LN j.bufs,.lst (Tz j.l) j.l.length 2,.i 0]) ∧
   ∀gg:List (List UInt64),zq2 (N0 vs (Nt vs o)) gg→∃B:Ms,B.bufs.length=vs.length+2∧j.l=B.l∧Oz 29 [.agg (Ni ((64:Nat):Int) (N0 vs (Nt vs o)) (Td vs d a b c deep).flat),LN gg] (.tup [LN B.bufs,.lst (Tz B.l) B.l.length 2,.i 0]):=by
 have gz:=Tp h.hv h.fd.2;have hw:=z7k h;have A:(N0 vs (Nt vs o)).length=vs.length+2:=plB_len;have l1:=h.fd.2;have l2:=h.fa.2;have l3:=h.fb.2;have l4:=h.fc.2;have gA:=zxr vs d;have E:16≤Y4 vs d:=Es
 have bd:=zo9 (W:=Nt vs o) h h.fd.2 rfl;have ba:=zo9 (W:=Nt vs o) h h.fa.2 h.la;have bb:=zo9 (W:=Nt vs o) h h.fb.2 h.lb;have bc:=zo9 (W:=Nt vs o) h h.fc.2 h.lc;have bw:=o7 h;have hi:∀q:Pn,Bp (N0 vs (Nt vs o)) q→q.in_ (Xo (O6 64 (N0 vs (Nt vs o)) X)):=λq Z=>zui (z.2 _ Z.b) Z
 have F:=hi _ bd.1;have ia:=hi _ ba.1;have ib:=hi _ bb.1;have ic:=hi _ bc.1;have iw:=hi _ bw.1;have G:(Td vs d a b c deep).stp≤16777216:=gy J (by show (gv vs d).limbs.toNat+2≤12;omega) J;have xl:∀i,i<vs.length→((X.getD i []).length:Int)=(gv vs i).limbs:=λi hi=>by
  have:=z.2 i J;rw[Up hi]at this;exact this
 have L:∀i,i<vs.length→(gv vs i).limbs=(gv vs d).limbs→vl (pl (Qz (O6 64 (N0 vs (Nt vs o)) X)).m (Px vs d i)) ((gv vs d).limbs.toNat-1+1)=val (X.getD i []):=λi hi hl=>by
  have hx:=xl i hi;exact zi5 (p:=Px vs d i) (z.2 i J) (by show i<_;omega) rfl (by show (X.getD i []).length=_;omega)
 have va:=L a l2 h.la;have vb:=L b l3 h.lb;have M:=L c l4 h.lc;have vo:pl (Qz (O6 64 (N0 vs (Nt vs o)) X)).m (Px vs d c) 0=(X.getD c []).getD 0 0:=by
  show (Qz (O6 64 (N0 vs (Nt vs o)) X)).m c (0+0)=_;rw[zt5 (z.2 c J) J]
 have g:(gv vs d).limbs.toNat-1+1=(gv vs d).limbs.toNat:=J
 have O:Tx (Xo (O6 64 (N0 vs (Nt vs o)) X)) (Td vs d a b c deep) (Qz (O6 64 (N0 vs (Nt vs o)) X)) λt=>(X.getD c []).getD 0 0%2=1→val (X.getD a [])<val (X.getD c []) →
   vl (pl t.m (Px vs d d)) ((gv vs d).limbs.toNat-1+1)<val (X.getD c [])∧vl (pl t.m (Px vs d d)) ((gv vs d).limbs.toNat-1+1)=val (Wc (Nu (val (X.getD a [])*val (X.getD b []))) (X.getD c []) (gv vs d).limbs):=by
  by_cases I:(X.getD c []).getD 0 0%2=1∧val (X.getD a [])<val (X.getD c [])
  ·have P:=np (sz:=Xo (O6 64 (N0 vs (Nt vs o)) X)) (s0:=Qz (O6 64 (N0 vs (Nt vs o)) X)) (d:=Px vs d d) (a:=Px vs d a) (b:=Px vs d b) (n:=Px vs d c) (t:=mtW vs d) (k:=(gv vs d).limbs.toNat-1) (R:=Y4 vs d) (e:=deep) J F ia ib ic iw Be Be Be Be Ge
    (by by_cases q : d = c
        ·exact .inr ⟨q,rfl⟩
        ·exact .inl (.inl q)) (.inl (by show d≠O4 vs d;omega)) (.inl (by show O4 vs d≠a;omega)) (.inl (by show O4 vs d≠b;omega)) (.inl (by show O4 vs d≠c;omega)) (by rw[vo];exact I.1) (by rw[va,M];exact I.2)
   refine P.mono λt ⟨_,T,Q,Q',p3⟩ _ _=>?_
   rw[va,vb,M]at p3;rw[M]at T;refine⟨T,?_⟩;have H:Rk (X.getD c [])=true:=by unfold Rk;exact Jj I.1
   have hm:=sa (t:=Nu (val (X.getD a [])*val (X.getD b []))) (n:=X.getD c []) (k:=(gv vs d).limbs.toNat) (D:=vl (pl t.m (Px vs d d)) ((gv vs d).limbs.toNat-1+1)) (Q:=Q) (Q':=Q') H J (by rw[Sg,←g];exact p3) T;rw[(J:(((gv vs d).limbs.toNat:Nat):Int)=(gv vs d).limbs)]at hm;exact hm.symm
  ·have P:=zyd (sz:=Xo (O6 64 (N0 vs (Nt vs o)) X)) (s0:=Qz (O6 64 (N0 vs (Nt vs o)) X)) (d:=Px vs d d) (a:=Px vs d a) (b:=Px vs d b) (n:=Px vs d c) (t:=mtW vs d) (k:=(gv vs d).limbs.toNat-1) (R:=Y4 vs d) (e:=deep) E J F ia ib ic iw Be Be Be Be Ge (by show (gv vs d).limbs.toNat+2<1000000;omega);exact P.mono λt _ h1 h2=>absurd ⟨h1,h2⟩ I
 obtain⟨j,t,r1,r2,r3,r4,r6,r7,r8⟩:=uo (X:=X) K Eg (zyg h hd) (az h hn hd) G (zm4 z) J O;rw[A]at r4;have C:(j.bufs.getD d []).length=(gv vs d).limbs.toNat:=by
  rw[r1.len d J,zew (z.2 d J) J,Up h.fd.2]
 have U:vl (pl t.m (Px vs d d)) ((gv vs d).limbs.toNat-1+1)=val (j.bufs.getD d []):=by
  rw[g];refine vl_get J λi hi=>?_
  show t.m d (0+i)=_;rw[Iz];have hm:=r1.m d i J;rw[zew (z.2 d J) J,Up h.fd.2]at hm;exact (hm Bt).symm
 rw[U]at r2;refine⟨j,r4,r6,λi hi V Y=>?_,C,r2,r7,λgg hY=>?_⟩
 ·rw[r3 i (λq=>by rcases q with q|q;exact V q;exact Y q),zfe (z.2 i J) J]
 ·obtain⟨B,e1,e2,e3⟩:=r8 gg (zm4 hY) λi hi=>by have:=z.2 i hi;have:=hY.2 i hi;omega
  exact⟨B,J,e2,e3⟩
end pl
end
def zkk:LC:=(.q [.z 4 (.alloc [.nilSl,.nilSl,(.i 0),(.i 0),(.i 0),(.i 0),(.i 0),(.i 0)])] (.q [.z 5 (.alloc [.nilSl,.nilSl,(.i 0),(.i 0),(.i 0),(.i 0),(.i 0),(.i 0)])] (.seq (.q [.K 6 0] (.block 0 (.loop (.seq (.q [.m 8 6,.m 9 0,.s 10 9,.c 11 .lss 3 8 10] (.cond (.t 11) .skip (.exit 0))) (.seq (.block 1 (.seq (.draw [(.f 14 0 5,[]),(.l 15 14,[]),(.m 16 0,[]),(.m 17 6,[]),(.I 18 3 16 17,[]),(.f 19 0 18,[]),(.l 20 19,[]),(.m 21 0,[]),(.m 22 6,[]),(.I 23 3 21 22,[]),(.f 24 1 23,[]),(.l 25 24,[]),(.z 26 (.build [(.i 0),(.i 0),(.bool false)] [(0,1,.t 20),(1,1,.k 2),(2,1,.t 25)]),[]),(.z 27 (.buildSl 3 1 [(.i 0),(.i 0),(.bool false)] [(0,3,.t 26)]),[(.l 25 24,false),(.l 20 19,false),(.l 15 14,false)]),(.a 28 3 15 27,[]),(.f 29 0 5,[]),(.S 1 29 28,[])]) (.draw [(.f 30 1 5,[]),(.l 31 30,[]),(.m 32 6,[]),(.m 33 0,[]),(.m 34 6,[]),(.I 35 3 33 34,[]),(.f 36 0 35,[]),(.l 37 36,[]),(.z 38 (.build [(.i 0),(.i 0),(.i 0)] [(0,1,.t 32),(2,1,.t 37)]),[]),(.z 39 (.buildSl 3 1 [(.i 0),(.i 0),(.i 0)] [(0,3,.t 38)]),[(.l 37 36,false),(.l 31 30,false)]),(.a 40 3 31 39,[]),(.f 41 1 5,[]),(.S 1 41 40,[])]))) (.ops [.m 12 6,.b 13 .add 3 12 1,.m 6 13])))))) (.seq (.q [.K 7 0] (.block 2 (.loop (.seq (.q [.m 42 7,.b 43 .lss 3 42 2] (.cond (.t 43) .skip (.exit 2))) (.seq (.block 3 (.q [.f 46 0 5,.l 47 46,.m 48 1,.m 49 7,.b 50 .eql 3 49 1,.z 51 (.build [(.i 0),(.i 0),(.bool false)] [(0,1,.t 48),(1,1,.k 2),(2,1,.t 50)]),.z 52 (.buildSl 3 1 [(.i 0),(.i 0),(.bool false)] [(0,3,.t 51)]),.a 53 3 47 52,.f 54 0 5,.S 1 54 53] (.ops [.m 55 7,.m 56 0,.s 57 56,.m 58 7,.c 59 .add 3 57 58,.m 60 1,.z 61 (.build [(.i 0),(.i 0),(.i 0)] [(0,1,.t 59),(2,1,.t 60)]),.f 62 2 5,.z 63 (.ixAddrArr 2 3 (.t 62) (.t 55)),.S 3 63 61]))) (.ops [.m 44 7,.b 45 .add 3 44 1,.m 7 45])))))) (.q [.L 64 8 5,.S 8 4 64] .ret)))))
def r_kit_Plain:Nm Tryz.prog 19=some ⟨65,zkk.r,[.cellN 4 8]⟩:=Aa
def z87:LC:=(.q [.x 2 0,.e 4] (.q [.e 5] (.seq (.q [.K 6 0] (.block 0 (.loop (.seq (.q [.m 7 6,.f 8 0 2,.l 9 8,.s 10 9,.c 11 .lss 3 7 10] (.cond (.t 11) .skip (.exit 0))) (.seq (.block 1 (.draw [(.m 14 5,[]),(.z 15 (.buildSl 1 0 [] []),[]),(.m 16 1,[]),(.m 18 6,[]),(.z 19 (.cvInt .u64 (.t 18)),[]),(.u 20 .mul 23 19 1234567891011,[]),(.z 21 (.buildSl 1 1 [(.u 0)] [(0,1,.t 20)]),[(.z 15 (.buildSl 1 0 [] []),true)]),(.f 23 0 2,[]),(.l 24 23,[]),(.m 25 6,[]),(.I 26 3 24 25,[]),(.f 27 0 26,[]),(.l 28 27,[]),(.a 17 1 15 16,[(.l 28 27,false),(.l 24 23,false),(.z 21 (.buildSl 1 1 [(.u 0)] [(0,1,.t 20)]),true)]),(.a 22 1 17 21,[(.l 28 27,false),(.l 24 23,false)]),(.W 29 26 22 28,[]),(.z 30 (.buildSl 1 1 [.nilSl] [(0,1,.t 29)]),[]),(.a 31 1 14 30,[]),(.m 5 31,[])])) (.ops [.m 12 6,.b 13 .add 3 12 1,.m 6 13])))))) (.q [.m 32 5,.m 4 32] .ret))))
def r_law23_rows:Nm Tryz.prog 62=some ⟨33,z87.r,[.tmp 4]⟩:=Aa
def k_law23_rows:z87.ok=true:=Aa
def zu6{i:Nat}(h:i<vQ.length):Vn (vQ.take (i+1))=Vn (vQ.take i)++[⟨(gv vQ i).limbs,2,(gv vQ i).sec⟩]:=by
 have g:=T2 h;obtain⟨_,e⟩:=Hv.1 g;rw[Jg h,Vn,K8,e];rfl
def oc(g:List Vr)(i:Nat):List Pc:=(List.range i).map λi:Nat=>⟨(i:Int),0,(gv g i).limbs⟩
def gf(g:List Vr)(i:Nat):oc g (i+1)=oc g i++[⟨(i:Int),0,(gv g i).limbs⟩]:=by simp[oc,List.range_succ]
def pcC_app(a b:List Pc):Wo (a++b)=Wo a++Wo b:=by simp[Wo]
def wkC(n w:Int):Nat→List LV
 |0=>[.i 0,.i 0,.i 0,.i 0,.i 0,.i 0]
 |1=>[.i n,.i 0,.i w,.i 0,.i 0,.i 0]
 |_=>[.i n,.i 0,.i w,.i (n+1),.i 0,.i w]
def wkB(w:Int):Nat→List Bf
 |0=>[]
 |1=>[⟨w,2,false⟩]
 |_=>[⟨w,2,false⟩,⟨w,2,true⟩]
def zgx(vs:List Vr)(w:Int)(hl:vs.length≤1000000):Oz 19 [.lst (Ob vs) vs.length 3,.i w] (.agg (Qe (Vn vs++[⟨w,2,false⟩,⟨w,2,true⟩]) (Sq vs) ⟨vs.length,0,w⟩ ⟨(vs.length:Int)+1,0,w⟩)):=by
 refine Sd.mk (by simp[LV.dat,zcf]) (Nn r_kit_Plain Aa (by simp) ?_);simp[zkk];refine O8 (λρ gV P N=>∃(i st X:Nat) (O C:LV),gV=[]∧N+i=vs.length∧lk ρ 0=.lst (Ob vs) vs.length 3∧lk ρ 1=.i w∧lk ρ 4=.ptr 0 0∧lk ρ 5=.ptr 1 0∧lk ρ 6=.i i∧2≤P.length ∧
   P[0]?=some (.cells [.nilSl,.nilSl,.i 0,.i 0,.i 0,.i 0,.i 0,.i 0] X)∧P[1]?=some (.cells [O,C,.i 0,.i 0,.i 0,.i 0,.i 0,.i 0] st) ∧
   Qf 2 P O 3 i (P7 (Vn (vs.take i)))∧Qf 2 P C 3 i (Wo (oc vs i))∧∀q A z j,O=.dy q A→C=.dy z j→q≠z) (N:=vs.length)
  ⟨0,0,0,.nilSl,.nilSl,rfl,J,by simp,by simp,by simp,by simp,by simp,by simp,by simp,by simp,by simpa [Vn,P7] using Qf.nil,by simpa [oc,Wo] using Qf.nil,λq A z j e=>Aq⟩ ?_
 rintro N ρ gV P ⟨i,st,X,O,C,rfl,hN,L,R,T,M,h6,gD,Q,E,H,D,B⟩ Nx Y;by_cases gP:i<vs.length
 ·have q0:=vd (T2 gP);have q1:=zl3 (T2 gP);have hq:=ju gP;have l1:1<P.length:=J
  have p1:∀x:List LObj,(P++x)[1]?=_:=λx=>(Nv l1).trans E
  have p0:∀x:List LObj,(P++x)[0]?=_:=λx=>(Nv J).trans Q
  simp[L,M,h6,E,↓p1,gP,Nd q0,Nd q1];have D1:=H.push_end (ob:=[LObj.dyn [.i (gv vs i).limbs,.i 2,.bool (gv vs i).sec] 1 3 0 0]);have U:=D.push_end (ob:=[LObj.dyn [.i (gv vs i).limbs,.i 2,.bool (gv vs i).sec] 1 3 0 0]);have m0:=p0 [LObj.dyn [.i (gv vs i).limbs,.i 2,.bool (gv vs i).sec] 1 3 0 0];have m1:=p1 [LObj.dyn [.i (gv vs i).limbs,.i 2,.bool (gv vs i).sec] 1 3 0 0];have ml:(P++[LObj.dyn [.i (gv vs i).limbs,.i 2,.bool (gv vs i).sec] 1 3 0 0]).length=P.length+1:=by simp
  have I:=λq A (e:C=.dy q A)=>(D.lt e).2
  generalize P++[LObj.dyn [.i (gv vs i).limbs,.i 2,.bool (gv vs i).sec] 1 3 0 0]=GA at *;refine D1.push2 (c:=1) (x:=(⟨(gv vs i).limbs,2,(gv vs i).sec⟩:Bf).f) J J J rfl rfl λg V K Z gE s1 gF=>?_
  have n1:∀q,q<2→∀A,O≠.dy q A:=λq hq A e=>E5
  have n2:∀q,q<2→∀A,C≠.dy q A:=λq hq A e=>by have:=(U.lt e).1;omega
  have gg:=(Z 0 J (n1 0 J)).trans m0;have gz:=(Z 1 J (n1 1 J)).trans m1;have gA:=U.keep (G':=V) (λq A e=>Z q (U.lt e).2 (λj G=>B q j q A G e rfl));have F:∀q A z j,g=.dy q A→C=.dy z j→q≠z:=λq A z j e G=>by
   rcases s1 q A e with h|⟨j2,h⟩
   ·have:=I z j G;omega
   ·exact B q j2 z j h G
  have gC:=K.cells;have gG:=U.cells;simp[-LV.cells,L,M,h6,gz,gC];have gH:=K.set_lt (q:=1) (ob:=.cells [g,C,.i 0,.i 0,.i 0,.i 0,.i 0,.i 0] (st+1)) J;have gQ:=gA.set_lt (q:=1) (ob:=.cells [g,C,.i 0,.i 0,.i 0,.i 0,.i 0,.i 0] (st+1)) J;have k0:(V.set 1 (.cells [g,C,.i 0,.i 0,.i 0,.i 0,.i 0,.i 0] (st+1)))[0]?=_:=(Hy J).trans gg;have k1:(V.set 1 (.cells [g,C,.i 0,.i 0,.i 0,.i 0,.i 0,.i 0] (st+1)))[1]?=_:=H8 J;have kl:(V.set 1 (.cells [g,C,.i 0,.i 0,.i 0,.i 0,.i 0,.i 0] (st+1))).length=V.length:=by simp
  generalize V.set 1 (.cells [g,C,.i 0,.i 0,.i 0,.i 0,.i 0,.i 0] (st+1))=G2 at *;have r1:∀x:List LObj,(G2++x)[1]?=_:=λx=>(Nv J).trans k1
  have r0:∀x:List LObj,(G2++x)[0]?=_:=λx=>(Nv J).trans k0
  simp[L,M,h6,k1,↓r1,gP,Nd q0];have E1:=gH.push_end (ob:=[LObj.dyn [.i (i:Int),.i 0,.i (gv vs i).limbs] 1 3 0 0]);have E2:=gQ.push_end (ob:=[LObj.dyn [.i (i:Int),.i 0,.i (gv vs i).limbs] 1 3 0 0]);have w0:=r0 [LObj.dyn [.i (i:Int),.i 0,.i (gv vs i).limbs] 1 3 0 0];have w1:=r1 [LObj.dyn [.i (i:Int),.i 0,.i (gv vs i).limbs] 1 3 0 0];have wl:(G2++[LObj.dyn [.i (i:Int),.i 0,.i (gv vs i).limbs] 1 3 0 0]).length=G2.length+1:=by simp
  have gI:=λq A (e:g=.dy q A)=>(gH.lt e).2
  generalize G2++[LObj.dyn [.i (i:Int),.i 0,.i (gv vs i).limbs] 1 3 0 0]=GB at *;refine E2.push2 (c:=1) (x:=(⟨(i:Int),0,(gv vs i).limbs⟩:Pc).f) J J J rfl rfl λgK G3 gL f2 gY s2 gZ=>?_
  have gR:=(f2 0 J (n2 0 J)).trans w0;have gT:=(f2 1 J (n2 1 J)).trans w1;have gU:=E1.keep (G':=G3) (λq A e=>f2 q (E1.lt e).2 (λj G=>F q A q j e G rfl));have gM:∀q A z j,g=.dy q A→gK=.dy z j→q≠z:=λq A z j e G=>by
   rcases s2 z j G with h|⟨j2,h⟩
   ·have:=gI q A e;omega
   ·exact F q A z j2 e h
  have gO:=gL.cells;simp[-LV.cells,L,M,h6,gT,gO];refine⟨J,Y _ _ _ ⟨N-1,J,i+1,st+1+1,X,g,gK,rfl,J,C8,Bl,Ch,Ay,by simp,Ab,?_,?_,?_,?_,gM⟩⟩
  ·rw[Hy J];exact gR
  ·rw[H8 J]
  ·rw[zu6 gP,xp];exact gU.set_lt J
  ·rw[gf,pcC_app];exact gL.set_lt J
 ·have gi:i=vs.length:=J
  subst gi;simp[L,R,T,M,h6,E];refine O8 (λρ gV P N=>∃(A st X:Nat) (O C:LV),gV=[]∧N+A=2∧lk ρ 0=.lst (Ob vs) vs.length 3∧lk ρ 1=.i w∧lk ρ 4=.ptr 0 0∧lk ρ 5=.ptr 1 0∧lk ρ 7=.i A∧2≤P.length ∧
    P[0]?=some (.cells [.nilSl,.nilSl,.i 0,.i 0,.i 0,.i 0,.i 0,.i 0] X)∧P[1]?=some (.cells (O::C::wkC vs.length w A) st) ∧
    Qf 2 P O 3 (vs.length+A) (P7 (Vn vs++wkB w A))∧Qf 2 P C 3 vs.length (Wo (Sq vs))∧∀q A z j,O=.dy q A→C=.dy z j→q≠z) (N:=2)
   ⟨0,st,X,O,C,rfl,J,C8,Bl,Ch,Ay,by simp,gD,Q,E,by simpa [wkB] using H,D,B⟩ ?_
  clear L R T M h6 gD Q E H D B gP Y Nx;rintro N ρ gV P ⟨A,st,X,O,C,rfl,g8,L,R,T,M,h7,gD,Q,E,H,D,B⟩ Nx Y;have p1:∀x:List LObj,(P++x)[1]?=_:=λx=>(Nv J).trans E
  have p0:∀x:List LObj,(P++x)[0]?=_:=λx=>(Nv J).trans Q
  have hj:A=0∨A=1∨A=2:=J
  rcases hj with rfl|rfl|rfl
  ·have D1:=H.push_end (ob:=[LObj.dyn [.i w,.i 2,.bool false] 1 3 0 0]);have U:=D.push_end (ob:=[LObj.dyn [.i w,.i 2,.bool false] 1 3 0 0]);simp[L,R,T,M,h7,E,↓p1,wkC];have m0:=p0 [LObj.dyn [.i w,.i 2,.bool false] 1 3 0 0];have m1:=p1 [LObj.dyn [.i w,.i 2,.bool false] 1 3 0 0];have ml:(P++[LObj.dyn [.i w,.i 2,.bool false] 1 3 0 0]).length=P.length+1:=by simp
   have I:=λq A (e:C=.dy q A)=>(D.lt e).2
   generalize P++[LObj.dyn [.i w,.i 2,.bool false] 1 3 0 0]=GA at *;refine D1.push2 (c:=1) (x:=(⟨w,2,false⟩:Bf).f) J J J rfl rfl λg V K Z gE s1 gF=>?_
   have n1:∀q,q<2→∀A,O≠.dy q A:=λq hq A e=>E5
   have gg:=(Z 0 J (n1 0 J)).trans m0;have gz:=(Z 1 J (n1 1 J)).trans m1;have gA:=U.keep (G':=V) (λq A e=>Z q (U.lt e).2 (λj G=>B q j q A G e rfl));have F:∀q A z j,g=.dy q A→C=.dy z j→q≠z:=λq A z j e G=>by
    rcases s1 q A e with h|⟨j2,h⟩
    ·have:=I z j G;omega
    ·exact B q j2 z j h G
   have gC:=K.cells;have gG:=U.cells;have x1:∀x,(V.set 1 x)[1]?=some x:=λx=>H8 J
   simp[-LV.cells,L,R,T,M,h7,gz,gC,↓x1,wkC];simp[Oo]
   repeat (refine⟨J,?_⟩)
   refine Y _ _ _ ⟨N-1,J,0+1,st+1+1,X,g,C,rfl,J,C8,Bl,Ch,Ay,by simp,Ab,?_,?_,?_,?_,F⟩
   ·rw[Hy J];exact gg
   ·rw[H8 J];simp[wkC]
   ·have hW:P7 (Vn vs++wkB w (0+1))=P7 (Vn vs++wkB w 0)++(⟨w,2,false⟩:Bf).f:=by simp[P7,wkB]
    rw[hW];exact K.set_lt J
   ·exact gA.set_lt J
  ·have D1:=H.push_end (ob:=[LObj.dyn [.i w,.i 2,.bool true] 1 3 0 0]);have U:=D.push_end (ob:=[LObj.dyn [.i w,.i 2,.bool true] 1 3 0 0]);simp[L,R,T,M,h7,E,↓p1,wkC];have m0:=p0 [LObj.dyn [.i w,.i 2,.bool true] 1 3 0 0];have m1:=p1 [LObj.dyn [.i w,.i 2,.bool true] 1 3 0 0];have ml:(P++[LObj.dyn [.i w,.i 2,.bool true] 1 3 0 0]).length=P.length+1:=by simp
   have I:=λq A (e:C=.dy q A)=>(D.lt e).2
   generalize P++[LObj.dyn [.i w,.i 2,.bool true] 1 3 0 0]=GA at *;refine D1.push2 (c:=1) (x:=(⟨w,2,true⟩:Bf).f) J J J rfl rfl λg V K Z gE s1 gF=>?_
   have n1:∀q,q<2→∀A,O≠.dy q A:=λq hq A e=>E5
   have gg:=(Z 0 J (n1 0 J)).trans m0;have gz:=(Z 1 J (n1 1 J)).trans m1;have gA:=U.keep (G':=V) (λq A e=>Z q (U.lt e).2 (λj G=>B q j q A G e rfl));have F:∀q A z j,g=.dy q A→C=.dy z j→q≠z:=λq A z j e G=>by
    rcases s1 q A e with h|⟨j2,h⟩
    ·have:=I z j G;omega
    ·exact B q j2 z j h G
   have gC:=K.cells;have gG:=U.cells;have x1:∀x,(V.set 1 x)[1]?=some x:=λx=>H8 J
   simp[-LV.cells,L,R,T,M,h7,gz,gC,↓x1,wkC];simp[Oo]
   repeat (refine⟨J,?_⟩)
   refine Y _ _ _ ⟨N-1,J,1+1,st+1+1,X,g,C,rfl,J,C8,Bl,Ch,Ay,by simp,Ab,?_,?_,?_,?_,F⟩
   ·rw[Hy J];exact gg
   ·rw[H8 J];simp[wkC]
   ·have hW:P7 (Vn vs++wkB w (1+1))=P7 (Vn vs++wkB w 1)++(⟨w,2,true⟩:Bf).f:=by simp[P7,wkB]
    rw[hW];exact K.set_lt J
   ·exact gA.set_lt J
  ·have g9:=H.bor;have gO:=D.bor;have y0:∀x,(P.set 0 x)[0]?=some x:=λx=>H8 J
   simp[L,R,T,M,h7,Q,E,wkC,↓y0];have b1:=(H.set_lt (q:=0) (ob:=.cells [O,C,.i vs.length,.i 0,.i w,.i (vs.length+1),.i 0,.i w] (X+1)) J).bor;have b2:=(D.set_lt (q:=0) (ob:=.cells [O,C,.i vs.length,.i 0,.i w,.i (vs.length+1),.i 0,.i w] (X+1)) J).bor;refine⟨_,_,rfl,?_,_,rfl,?_⟩
   ·have e1:(Vn vs++[(⟨w,2,false⟩:Bf),⟨w,2,true⟩]).length=vs.length+2:=by simp[Vn]
    rw[e1];exact b1
   ·have e2:(Sq vs).length=vs.length:=by simp[Sq]
    rw[e2];exact b2
def qo{bs:List Bf}{w6:Int}{fill:List UInt64}(hs:∀b∈bs,0≤b.size∧b.size≤1000000)(hb:bs.length≤1000)(gC:fill.length≤1000)
  (kk:∀(X:List (List UInt64)) (p A st:Nat) (F:M9),X.length=bs.length→(∀i,i<bs.length→((X.getD i []).length:Int)=(Nw bs i).size)→(∀q,q<G.length→F[q]?=G[q]?)→G.length≤p→G.length≤F.length→bs≠[]→F[p]?=some (.dyn (X.map LU) X.length 1 A st)→v9 (.dy p A) F) (H:bs≠[]) :
  Pm (.fn 62) [.agg [.lst (P7 bs) bs.length 3,O,.i z,.i B,.i V,.i vX,.i uT,.i w6],.lst (fill.map .u) fill.length 1] G v9:=by
 refine Nn r_law23_rows k_law23_rows (by simp) ?_;simp[z87];refine O8 (λρ gE D N=>∃(i R:Nat) (v:LV) (X:List (List UInt64)),gE=[]∧N+i=bs.length∧lk ρ 1=.lst (fill.map .u) fill.length 1∧lk ρ 2=.ptr G.length 0∧lk ρ 5=v∧lk ρ 6=.i i∧G.length<D.length∧(∀q,q<G.length→D[q]?=G[q]?) ∧
   D[G.length]?=some (.cells [.lst (P7 bs) bs.length 3,O,.i z,.i B,.i V,.i vX,.i uT,.i w6] R)∧X.length=i∧(∀T,T<i→((X.getD T []).length:Int)=(Nw bs T).size)∧Qf (G.length+1) D v 1 i (X.map LU)) (N:=bs.length)
  ⟨0,0,.nilSl,[],rfl,J,by simp,by simp,by simp,by simp,by simp,λq E=>Ib E,by simp,rfl,λT h=>J,Qf.nil⟩ ?_
 rintro N ρ gE D ⟨i,R,v,X,rfl,hN,h1,U,h5,Y,I,K,C,j,hX,hD⟩ Nx Z;by_cases gA:i<bs.length
 ·have q0:=zfo (Sl gA);have E:=zh gA;have hz:=hs _ (Io (Sl gA));have pp:∀x:List LObj,(D++x)[G.length]?=_:=λx=>(Nv I).trans C
  simp[h1,U,h5,Y,C,↓pp,gA,Nd q0];refine⟨J,J,?_⟩;obtain⟨gD,L⟩:=H0 hz.1;rw[L];generalize S8 (iU ↑i) 1234567891011=g;have o1:(D++[LObj.dyn (fill.map .u++[.u g]) (fill.length+1) 1 2 2,LObj.dyn [.u g] 1 1 0 0])[D.length]?=some (.dyn ((fill++[g]).map .u) (fill++[g]).length 1 2 2):=by
   rw[Im (H9 _),Lk];simp
  have o2:=λq (E:q<D.length)=>(Nv (x:=[LObj.dyn (fill.map .u++[.u g]) (fill.length+1) 1 2 2,LObj.dyn [.u g] 1 1 0 0]) E)
  have o3:=hD.push_end (ob:=[LObj.dyn (fill.map .u++[.u g]) (fill.length+1) 1 2 2,LObj.dyn [.u g] 1 1 0 0]);have o4:(D++[LObj.dyn (fill.map .u++[.u g]) (fill.length+1) 1 2 2,LObj.dyn [.u g] 1 1 0 0]).length=D.length+2:=by simp
  generalize D++[LObj.dyn (fill.map .u++[.u g]) (fill.length+1) 1 2 2,LObj.dyn [.u g] 1 1 0 0]=GA at *;refine Ns (zjd (fill++[g]) gD J Ab (by simp)) ⟨_,_,rfl,⟨_,_,_,_,rfl,o1,y5 _⟩,_,_,rfl,⟨rfl,rfl⟩,rfl⟩ ?_;have M:=ziq (fill++[g]) gD;generalize zst (fill++[g]) gD=gF at *;simp[RU];refine Qf.push (c:=1) (x:=[LU gF]) (o3.push_end) J Ab J rfl (by simp[dats,LV.dat,y5]) λv' F gg P gz=>?_
  simp at gz;simp[Y];refine⟨J,Z _ _ _ ⟨N-1,J,i+1,R,v',X++[gF],rfl,J,by simp[h1],Bm,by simp,by simp,J,?_,?_,Ah,?_,?_⟩⟩
  ·intro q E;rw[P q J,Nv J,o2 q J];exact K q E
  ·rw[P _ J,Nv J,o2 _ I];exact C
  ·intro T hj;by_cases e:T=i
   ·subst e;rw[Hw,←j,Ir,j,L];simp[M]
   ·rw[Hw,Ib J,←Hw];exact hX T J
  ·rw[K8];exact gg
 ·have gi:i=bs.length:=J
  subst gi;obtain⟨_,_,⟨_,e0,_⟩|⟨p,A,st,hp,rfl,Q⟩⟩:=hD
  ·exact absurd (Iq e0) H
  simp[U,h5,Y,C];exact kk X p A st D j (λi hi=>hX i hi) K J J H (by rw[j];exact Q)
def z9w:LC:=(.q [.e 4,.K 5 0] (.seq (.q [.m 6 1,.b 7 .lss 3 6 0,.m 8 7,.mn 9 8 1,.nb 10 8 .gtr 3 9 512,.p 11 8 10] (.cond (.t 11) (.q [.e 4,.K 5 2] .ret) .skip)) (.q [.m 12 0,.w 13 84 12,.m 0 13] (.seq (.q [.m 14 0,.s 15 14,.m 16 1,.c 17 .gtr 3 15 16] (.cond (.t 17) (.q [.e 4,.K 5 3] .ret) .skip)) (.q [.m 18 0,.m 19 1,.m 20 0,.s 21 20,.c 22 .sub 3 19 21,.z 23 (.appZ 1 [(.u 0)] (.t 18) (.t 22)),.m 4 23,.K 5 0] .ret)))))
def r_ref02_Fit:Nm Tryz.prog 95=some ⟨24,z9w.r,[.tmp 4,.tmp 5]⟩:=Aa
def zgp(a:List UInt64)(n:Int)(A:a.length≤1000000):Nj 95 [LU a,.i n] (.tup [.dy 0 0,.i (Sx a n)]) [RU (Vq a n)]:=by
 refine Od.rowE (Nn r_ref02_Fit Aa N ?_);have B:=z2u a;by_cases g:n<0
 ·have e:Sx a n=2:=H6 (.inl g);simp[z9w,g,e,Vq,Q9]
 ·by_cases z:512<n
  ·have e:Sx a n=2:=H6 (.inr z);simp[z9w,g,z,e,Vq,Q9]
  ·simp[z9w,g,z];refine z9d (bm a J) N ?_;by_cases j:n<(Nu (val a)).length
   ·have e:Sx a n=3:=by unfold Sx;rw[Hx J,H6 j]
    simp[RU,j,e,Vq,Q9]
   ·have e:Sx a n=0:=by unfold Sx;rw[Hx J,Hx j]
    simp[RU,j,e,Vq];refine⟨J,λC=>⟨J,J,J,J,.inr ⟨0,1,1,rfl,?_⟩⟩⟩;rw[repU];simp
def fit_ok{a:List UInt64}{k:Nat}(h:val a<2^(64*(k+1)))(g:k≤5):Sx a ((k:Int)+1)=0:=by
 have:=jm h;unfold Sx;rw[Hx J,Hx J]

def ziz{l:List (List UInt64)}{i:Nat}(h:i<l.length):(l.map LU)[i]?=some (LU (l.getD i [])):=by
 rw[Jz,H7 h,Hw,H7 h];rfl
def zcx:LC:=(.q [.x 4 1] (.q [.f 11 3 4,.l 12 11,.f 13 4 4,.l 14 13,.z 15 (.buildSl 1 2 [(.i 0),(.i 0)] [(0,1,.t 12),(1,1,.t 14)]),.s 16 15,.K 17 0] (.block 0 (.loop (.q [.c 18 .lss 3 17 16] (.seq (.cond (.t 18) .skip (.exit 0)) (.seq (.block 1 (.q [.I 19 1 15 17,.l 20 19,.m 7 20] (.q [.m 21 7,.b 22 .geq 3 21 0,.m 23 22,.my 24 23 7,.yf 25 23 5 4,.yl 26 23 25,.y 27 23 (.bin .neq false 3 (.t 24) (.t 26)),.q 28 23 27,.m 29 28,.yf 30 29 0 4,.yl 31 29 30,.y 32 29 (.bin .neq true 3 (.t 31) (.k 9)),.q 33 29 32,.m 34 33,.yf 35 34 0 4,.yl 36 34 35,.y 37 34 (.bin .eql true 3 (.t 36) (.k 13)),.my 38 34 37,.my 39 38 7,.yf 40 38 4 4,.yl 41 38 40,.y 42 38 (.bin .eql false 3 (.t 39) (.t 41)),.y 43 34 (.pick (.t 38) (.t 42) .F),.y 44 34 (.un .not (.t 43)),.q 45 34 44] (.cond (.t 45) (.seq (.draw [(.m 47 2,[]),(.m 48 7,[]),(.I 49 1 47 48,[]),(.l 50 49,[]),(.m 51 2,[]),(.f 52 5 4,[]),(.l 53 52,[]),(.I 54 1 51 53,[]),(.l 55 54,[]),(.W 56 28 50 55,[]),(.m 46 56,[]),(.X 57 0 46,[]),(.X 58 1 46,[]),(.X 59 2 46,[]),(.m 8 57,[]),(.m 9 58,[]),(.m 10 59,[])]) (.q [.m 60 10,.b 61 .eql 35 60 0] (.cond (.t 61) (.ops [.m 63 2,.m 64 7,.m 65 9,.m 66 0,.m 67 7,.I 68 3 66 67,.f 69 0 68,.l 70 69,.W 71 95 65 70,.m 62 71,.X 72 0 62,.X 73 1 62,.I 74 1 63 64,.S 1 74 72]) .skip))) .skip)))) (.ops [.b 75 .add 3 17 1,.m 17 75]))))))))
def g:Nm Tryz.prog 63=some ⟨76,zcx.r,[]⟩:=Aa
def zhl{vs:List Vr}{o:Ko}{X:List (List UInt64)}{p st a b c:Nat}(hX:vs.length≤X.length)(ea:o.a=a)(eb:o.b=b)(ec:o.c=c)(la:a<vs.length)(lb:b<vs.length)(lc:c<vs.length)(hk:o.kind≠9)
  (gY:(gv vs a).limbs=(gv vs c).limbs) (gZ:o.kind=13∨(gv vs b).limbs=(gv vs c).limbs) (jL:1≤(gv vs c).limbs∧(gv vs c).limbs≤6) (O:∀i,i<vs.length→((X.getD i []).length:Int)=(gv vs i).limbs) (hG:G[p]?=some (.dyn (X.map LU) X.length 1 g st))
  (kk:∀(P:List (List UInt64)) (Q:Nat) (gL:M9),P.length=X.length→(∀i,(P.getD i []).length=(X.getD i []).length)→gL[p]?=some (.dyn (P.map LU) X.length 1 g Q)→(∀q,q<G.length→q≠p→gL[q]?=G[q]?)→G.length≤gL.length→v9 (.tup []) gL) :
  Pm (.fn 63) [.lst (Ob vs) vs.length 3,.agg o.f,.dy p g] G v9:=by
 have hf:o.f=[.i o.kind,.i o.d,.i o.e,.i o.a,.i o.b,.i o.c,.u o.imm]:=rfl;have g8:=(Hv.1 hG).1;refine Nn L Aa (by simp) ?_;simp[zcx,hf,ea,eb,ec];refine O8 (λρ jP gL N=>∃(gM st:Nat) (P:List (List UInt64)),jP=[]∧N+gM=2∧lk ρ 0=.lst (Ob vs) vs.length 3∧lk ρ 2=.dy p g∧lk ρ 4=.ptr G.length 0∧lk ρ 15=.dy (G.length+1) 0∧lk ρ 16=.i 2∧lk ρ 17=.i gM∧gL[G.length]?=some (.cells o.f 0)∧gL[G.length+1]?=some (.dyn [.i a,.i b] 2 1 0 0)∧P.length=X.length∧(∀i,(P.getD i []).length=(X.getD i []).length)∧gL[p]?=some (.dyn (P.map LU) X.length 1 g st)∧(∀q,q<G.length→q≠p→gL[q]?=G[q]?)) (N:=2)
  ⟨0,st,X,rfl,rfl,by simp,by simp,by simp,by simp,by simp,by simp,by simp[hf,ea,eb,ec],by simp,rfl,λ_=>rfl,(Ib g8).trans hG,λq hq _=>Ib hq⟩ ?_
 rintro N ρ jP gL ⟨gM,st,P,rfl,hN,M,I,U,z,j,A,g0,R,V,B,C,H⟩ Nx g9;have jM:=(Hv.1 R).1;by_cases jI:gM<2
 ·obtain⟨i,li,Y,jg⟩:∃i:Nat,i<vs.length∧([LV.i a,.i b])[gM]?=some (.i i)∧(i≠b∨o.kind≠13∨i=b)∧((gv vs i).limbs=(gv vs c).limbs∨(i=b∧o.kind=13)):=by
   have hj:gM=0∨gM=1:=J
   rcases hj with rfl|rfl
   ·exact⟨a,la,rfl,J,.inl gY⟩
   ·exact⟨b,lb,rfl,J,gZ.symm.imp id λe=>⟨rfl,e⟩⟩
  have nx:∀(ρ':Na) (G':M9) (Q:Nat) (Y':List (List UInt64)),lk ρ' 0=.lst (Ob vs) vs.length 3→lk ρ' 2=.dy p g→lk ρ' 4=.ptr G.length 0→lk ρ' 15=.dy (G.length+1) 0→lk ρ' 16=.i 2→lk ρ' 17=.i ((gM:Int)+1)→G'[G.length]?=some (.cells o.f 0)→G'[G.length+1]?=some (.dyn [.i a,.i b] 2 1 0 0)→Y'.length=X.length→(∀i,(Y'.getD i []).length=(X.getD i []).length)→G'[p]?=some (.dyn (Y'.map LU) X.length 1 g Q)→(∀q,q<G.length→q≠p→G'[q]?=G[q]?)→Nx ρ' [] G' :=
   λρ' G' Q Y' e0 e2 e4 jz jA jB f0 f1 y1 y2 f2 f3=>g9 _ _ _ ⟨N-1,J,gM+1,Q,Y',rfl,J,e0,e2,e4,jz,jA,by rw[jB];simp,f0,f1,y1,y2,f2,f3⟩
  have gj:(gM:Int)<2:=J
  have K:=g0;rw[hf,ea,eb,ec]at g0;have gO:¬o.kind=9:=hk;by_cases jO:i=c
  ·have D:(i:Int)=(c:Int):=J
   simp[M,I,U,z,j,A,jI,gj,g0,R,Nd Y,D];exact⟨J,nx _ _ _ _ Ay A0 Bm Ae Ah (by simp) K R V B C H⟩
  have D:¬(i:Int)=(c:Int):=J
  by_cases gA:o.kind=13∧i=b
  ·obtain⟨E,rfl⟩:=gA;simp[M,I,U,z,j,A,jI,gj,g0,R,Nd Y,D,E];exact⟨J,nx _ _ _ _ Ay A0 Bm Ae Ah (by simp) K R V B C H⟩
  have gC:(gv vs i).limbs=(gv vs c).limbs:=jg.2.resolve_right λq=>gA ⟨q.2,q.1⟩
  have gD:(P.map LU)[i]?=some (LU (P.getD i [])):=ziz J;have gE:(P.map LU)[c]?=some (LU (P.getD c [])):=ziz J;have Z:i<X.length:=J
  have gP:c<X.length:=J
  have gF:(P.getD i []).length=(gv vs c).limbs:=by rw[B,O i li,gC]
  have gG:(P.getD c []).length=(gv vs c).limbs:=by rw[B,O c lc]
  have gQ:(Ob vs)[i*3]?=some (.i (gv vs c).limbs):=by rw[←gC];exact vd (T2 li)
  have jC:(o.kind=13∧¬(i:Int)=(b:Int))∨¬o.kind=13:=by
   by_cases q:o.kind=13
   ·exact .inl ⟨q,λe=>gA ⟨q,J⟩⟩
   ·exact .inr q
  obtain⟨gK,hA⟩:∃gK,P.getD i []=gK:=⟨_,rfl⟩;obtain⟨gg,hC⟩:∃gg,P.getD c []=gg:=⟨_,rfl⟩;have gR:P[i]?.getD []=gK:=by rw[←Hw];exact hA
  have gT:P[c]?.getD []=gg:=by rw[←Hw];exact hC
  rw[hA]at gD gF;rw[hC]at gE gG;have jD:(X.getD i []).length=(gv vs c).limbs:=by rw[O i li,gC]
  obtain⟨kn,jE,jF⟩:∃kn:Nat,(gv vs c).limbs=(kn:Int)+1∧kn≤5:=⟨(gv vs c).limbs.toNat-1,J,J⟩;have gz:∀gU:List UInt64,val gU<val gg→Sx gU (gv vs c).limbs=0:=λgU hR=>by
   rw[jE];exact fit_ok (Nat.lt_trans hR (d6 J)) jF
  have hD:=z85 gK gg J J;rcases jC with ⟨E,gV⟩|E
  ·simp[M,I,U,z,j,A,jI,gj,g0,R,Nd Y,D,gO,E,gV,C,Nd gD,Nd gE,Z,gP,gR,gT];refine⟨J,J,?_⟩;refine Ns hD (by simp) ?_;by_cases T:val gg=0
   ·simp[T,A,RU];exact⟨J,nx _ _ _ _ Ay A0 Bm Ae Ah (by simp) K R V B C H⟩
   have gH:val (Nu (val gK%val gg))<val gg:=Gu
   have jG:(Nu (val gK%val gg)).length≤1000:=Gx
   simp[T,RU];generalize Nu (val gK%val gg)=gU at *;simp[M,I,li,Nd gQ];refine Ns (zgp gU (gv vs c).limbs J) (by simp) ?_;have jH:=(zkq (gz gU gH)).1;generalize Vq gU (gv vs c).limbs=jK at *;have F:=zhq LU P i jK J;simp only[LU]at F;simp[I,A,C,RU,Z,V];refine⟨J,J,nx _ _ (st+1) (P.set i jK) Ay A0 Bm Ae Ah (by simp) ?_ ?_ Fl (λx=>?_) ?_ (λx hx gI=>?_)⟩
   ·rw[Hy J];exact K
   ·rw[Hy J];exact R
   ·rw[Wn _ _ _ _ _ J];by_cases e:x=i
    ·rw[H6 e,e];omega
    ·rw[Hx e];exact B x
   ·rw[H8 J,F]
   ·rw[Hy J];exact H x hx gI
  ·simp[M,I,U,z,j,A,jI,gj,g0,R,Nd Y,D,gO,E,C,Nd gD,Nd gE,Z,gP,gR,gT];refine⟨J,J,?_⟩;refine Ns hD (by simp) ?_;by_cases T:val gg=0
   ·simp[T,A,RU];exact⟨J,nx _ _ _ _ Ay A0 Bm Ae Ah (by simp) K R V B C H⟩
   have gH:val (Nu (val gK%val gg))<val gg:=Gu
   have jG:(Nu (val gK%val gg)).length≤1000:=Gx
   simp[T,RU];generalize Nu (val gK%val gg)=gU at *;simp[M,I,li,Nd gQ];refine Ns (zgp gU (gv vs c).limbs J) (by simp) ?_;have jH:=(zkq (gz gU gH)).1;generalize Vq gU (gv vs c).limbs=jK at *;have F:=zhq LU P i jK J;simp only[LU]at F;simp[I,A,C,RU,Z,V];refine⟨J,J,nx _ _ (st+1) (P.set i jK) Ay A0 Bm Ae Ah (by simp) ?_ ?_ Fl (λx=>?_) ?_ (λx hx gI=>?_)⟩
   ·rw[Hy J];exact K
   ·rw[Hy J];exact R
   ·rw[Wn _ _ _ _ _ J];by_cases e:x=i
    ·rw[H6 e,e];omega
    ·rw[Hx e];exact B x
   ·rw[H8 J,F]
   ·rw[Hy J];exact H x hx gI
 ·have gj:¬(gM:Int)<2:=J
  simp[j,A,jI,gj];exact kk P st gL V B C H J
def Uh(c:Nat)(q:Nat)(i:Nat)(l:List LV):List LV:=if c<i then l.set c (.dy q 0) else l
def zz5{c q i:Nat}{l:List LV}{x:LV}(j:l.length=i)(h:i≠c):Uh c q (i+1) (l++[x])=Uh c q i l++[x]:=by
 unfold Uh;by_cases g:c<i
 ·rw[H6 J,H6 g,List.set_append_left _ _ J]
 ·rw[Hx J,Hx g]
def ol{q i:Nat}{l:List LV}{x:LV}(g:l.length=i):Uh i q (i+1) (l++[x])=l++[.dy q 0]:=by
 unfold Uh;rw[H6 J,K6 _ _ J,g,Lk];rfl
def pi{bs:List Bf}{w6:Int}{fill:List UInt64}(c:Nat)(hc:c<bs.length)(hs:∀b∈bs,0≤b.size∧b.size≤1000000)(hb:bs.length≤1000)(gH:fill.length≤1000)
  (kk:∀(X:List (List UInt64)) (p C st q sq:Nat) (L:M9),X.length=bs.length→(∀i,i<bs.length→((X.getD i []).length:Int)=(Nw bs i).size)→(∀q,q<G.length→L[q]?=G[q]?)→G.length≤p→G.length≤q→p≠q→L[p]?=some (.dyn ((X.map LU).set c (.dy q 0)) X.length 1 C st)→L[q]?=some (.dyn ((X.getD c []).map .u) (X.getD c []).length 1 0 sq)→v9 (.dy p C) L) :
  Pm (.fn 62) [.agg [.lst (P7 bs) bs.length 3,O,.i z,.i B,.i V,.i vX,.i uT,.i w6],.lst (fill.map .u) fill.length 1] G v9:=by
 refine Nn r_law23_rows k_law23_rows (by simp) ?_;simp[z87];refine O8 (λρ gL Z N=>∃(i s0 q sq:Nat) (v:LV) (X:List (List UInt64)),gL=[]∧N+i=bs.length∧lk ρ 1=.lst (fill.map .u) fill.length 1∧lk ρ 2=.ptr G.length 0∧lk ρ 5=v∧lk ρ 6=.i i∧G.length<Z.length∧(∀q,q<G.length→Z[q]?=G[q]?) ∧
   Z[G.length]?=some (.cells [.lst (P7 bs) bs.length 3,O,.i z,.i B,.i V,.i vX,.i uT,.i w6] s0)∧X.length=i∧(∀j,j<i→((X.getD j []).length:Int)=(Nw bs j).size)∧W4 (G.length+1) Z v 1 i (Uh c q i (X.map LU)) ∧
   (c<i→G.length<q∧(∀j,v≠.dy q j)∧Z[q]?=some (.dyn ((X.getD c []).map .u) (X.getD c []).length 1 0 sq))) (N:=bs.length)
  ⟨0,0,0,0,.nilSl,[],rfl,J,by simp,by simp,by simp,by simp,by simp,λq H=>Ib H,by simp,rfl,λj h=>J,by simpa [Uh] using W4.nil,λh=>J⟩ ?_
 rintro N ρ gL Z ⟨i,s0,q,sq,v,X,rfl,hN,h1,M,h5,h6,R,T,D,g,hX,hD,gg⟩ Nx gz;by_cases gG:i<bs.length
 ·have q0:=zfo (Sl gG);have H:=zh gG;have hz:=hs _ (Io (Sl gG));have pp:∀x:List LObj,(Z++x)[G.length]?=_:=λx=>(Nv R).trans D
  simp[h1,M,h5,h6,D,↓pp,gG,Nd q0];refine⟨J,J,?_⟩;obtain⟨gI,gA⟩:=H0 hz.1;rw[gA];generalize S8 (iU ↑i) 1234567891011=A;have o1:(Z++[LObj.dyn (fill.map .u++[.u A]) (fill.length+1) 1 2 2,LObj.dyn [.u A] 1 1 0 0])[Z.length]?=some (.dyn ((fill++[A]).map .u) (fill++[A]).length 1 2 2):=by
   rw[Im (H9 _),Lk];simp
  have o2:=λq (H:q<Z.length)=>(Nv (x:=[LObj.dyn (fill.map .u++[.u A]) (fill.length+1) 1 2 2,LObj.dyn [.u A] 1 1 0 0]) H)
  have o3:=hD.push_end (ob:=[LObj.dyn (fill.map .u++[.u A]) (fill.length+1) 1 2 2,LObj.dyn [.u A] 1 1 0 0]);have o4:(Z++[LObj.dyn (fill.map .u++[.u A]) (fill.length+1) 1 2 2,LObj.dyn [.u A] 1 1 0 0]).length=Z.length+2:=by simp
  generalize Z++[LObj.dyn (fill.map .u++[.u A]) (fill.length+1) 1 2 2,LObj.dyn [.u A] 1 1 0 0]=I at *;have gE:=ziq (fill++[A]) gI;have gC:=zjd (fill++[A]) gI J Ab (by simp);generalize zst (fill++[A]) gI=gF at *;have gD:=λq j (e:v=.dy q j)=>(hD.lt e).2
  have P:∀j,j<i+1→(((X++[gF]).getD j []).length:Int)=(Nw bs j).size:=λj hj=>by
   by_cases e:j=i
   ·subst e;rw[Hw,←g,Ir,g,gA];simp[gE]
   ·rw[Hw,Ib J,←Hw];exact hX j J
  have same:c<i→(X++[gF]).getD c []=X.getD c []:=λh=>by rw[Hw,Ib J,←Hw]
  by_cases ec:i=c
  ·refine vk gC ⟨_,_,rfl,⟨_,_,_,_,rfl,o1,y5 _⟩,_,_,rfl,⟨rfl,rfl⟩,rfl⟩ ?_;simp[RU];refine W4.push (c:=1) (x:=[LV.dy I.length 0]) (o3.push_end) J Ab J rfl λv' L E K U Y=>?_
   simp at U;simp[h6];have nv:∀q j,v'=.dy q j→q=I.length+2∨∃j',v=.dy q j':=λq j e=>by simpa using Y q j e
   have fr:∀q,q<I.length→(∀j,v≠.dy q j)→L[q]?=I[q]?:=λq h1 M=>by
    rw[K q Ab M];exact Nv J
   have F:∀q,q<G.length+1→∀j,v≠.dy q j:=λq H j e=>by have:=(hD.lt e).1;omega
   refine⟨J,gz _ _ _ ⟨N-1,J,i+1,s0,I.length,0,v',X++[gF],rfl,J,by simp[h1],Ay,by simp,by simp,J,?_,?_,Av,P,?_,λ_=>⟨J,λj e=>?_,?_⟩⟩⟩
   ·intro q H;rw[fr q J (F q J),o2 q J];exact T q H
   ·rw[fr _ J (F _ J),o2 _ R];exact D
   ·rw[K8,List.map_singleton,←ec,ol Av];rw[ec]at E ⊢;have e2:Uh c q c (X.map LU)=X.map LU:=by unfold Uh;rw[Hx J]
    rw[e2]at E;exact E
   ·rcases nv _ _ e with e|⟨j',e⟩
    ·omega
    ·have:=gD _ _ e;omega
   ·rw[K I.length (by simp) (λj e=>by have:=gD _ _ e;omega),Im (H9 _),Lk,←ec,Hw,←g,Ir];rfl
  ·refine Ns gC ⟨_,_,rfl,⟨_,_,_,_,rfl,o1,y5 _⟩,_,_,rfl,⟨rfl,rfl⟩,rfl⟩ ?_;simp[RU];refine W4.push (c:=1) (x:=[LU gF]) (o3.push_end) J Ab J rfl λv' L E K U Y=>?_
   simp at U;simp[h6];have fr:∀q,q<I.length→(∀j,v≠.dy q j)→L[q]?=I[q]?:=λq h1 M=>by
    rw[K q Ab M];exact Nv J
   have F:∀q,q<G.length+1→∀j,v≠.dy q j:=λq H j e=>by have:=(hD.lt e).1;omega
   refine⟨J,gz _ _ _ ⟨N-1,J,i+1,s0,q,sq,v',X++[gF],rfl,J,by simp[h1],Ay,by simp,by simp,J,?_,?_,Av,P,?_,λgK=>?_⟩⟩
   ·intro q H;rw[fr q J (F q J),o2 q J];exact T q H
   ·rw[fr _ J (F _ J),o2 _ R];exact D
   ·rw[K8,List.map_singleton,zz5 Av ec];exact E
   ·obtain⟨a1,a2,a3⟩:=gg J;have ql:=(Hv.1 a3).1;refine⟨a1,λj e=>?_,?_⟩
    ·have e':q=(I++[LObj.dyn [LU gF] 1 1 0 0]).length∨∃j',v=.dy q j':=Y q j e;rcases e' with e'|⟨j',e'⟩
     ·simp at e';omega
     ·exact a2 j' e'
    ·rw[fr q J a2,o2 q ql,same J];exact a3
 ·have gi:i=bs.length:=J
  subst gi;obtain⟨a1,a2,a3⟩:=gg hc;obtain⟨_,⟨_,e0,_⟩|⟨p,C,st,hp,rfl,Q⟩⟩:=hD
  ·omega
  simp[M,h5,h6,D];have e2:Uh c q bs.length (X.map LU)=(X.map LU).set c (.dy q 0):=by unfold Uh;rw[H6 hc]
  rw[e2]at Q;exact kk X p C st q sq Z g (λi hi=>hX i hi) T J J (λe=>a2 C Er) (by rw[g];exact Q) a3
def zbh:LC:=(.q [.F 2] (.q [.K 3 0] (.seq (.q [.K 4 0] (.block 0 (.loop (.seq (.q [.m 6 4,.m 7 0,.s 8 7,.c 9 .lss 3 6 8] (.cond (.t 9) .skip (.exit 0))) (.seq (.block 1 (.q [.m 12 0,.m 13 4,.I 14 3 12 13,.L 15 3 14,.z 5 (.alloc [(.i 0),(.bool false),(.i 0)]),.S 3 5 15] (.seq (.q [.f 16 0 5,.l 17 16,.b 18 .lss 3 17 1,.m 19 18,.nf 20 19 0 5,.nl 21 19 20,.nb 22 19 .gtr 3 21 512,.p 23 19 22,.m 24 23,.nf 25 24 2 5,.nl 26 24 25,.nb 27 24 .lss 3 26 0,.p 28 24 27,.m 29 28,.nf 30 29 2 5,.nl 31 29 30,.nb 32 29 .gtr 3 31 3,.p 33 29 32,.m 34 33,.nf 35 34 2 5,.nl 36 34 35,.nb 37 34 .gtr 3 36 0,.mn 38 34 37,.my 39 38 3,.my 40 38 4,.y 41 38 (.bin .lss false 3 (.t 39) (.t 40)),.n 42 34 (.pick (.t 38) (.t 41) .F),.p 43 34 42,.m 44 43,.nf 45 44 2 5,.nl 46 44 45,.nb 47 44 .eql 3 46 1,.mn 48 44 47,.yf 49 48 1 5,.yl 50 48 49,.n 51 44 (.pick (.t 48) (.t 50) .F),.p 52 44 51,.m 53 52,.nf 54 53 2 5,.nl 55 53 54,.nb 56 53 .gtr 3 55 1,.mn 57 53 56,.yf 58 57 1 5,.yl 59 57 58,.y 60 57 (.un .not (.t 59)),.n 61 53 (.pick (.t 57) (.t 60) .F),.p 62 53 61] (.cond (.t 62) (.q [.F 2] .ret) .skip)) (.q [.f 63 2 5,.l 64 63,.b 65 .gtr 3 64 0] (.cond (.t 65) (.ops [.m 66 3,.b 67 .add 3 66 1,.m 3 67]) .skip))))) (.ops [.m 10 4,.b 11 .add 3 10 1,.m 4 11])))))) (.q [.m 68 0,.s 69 68,.b 70 .geq 3 69 1,.m 71 70,.my 72 71 0,.y 73 71 (.lenSl (.t 72)),.y 74 71 (.bin .leq true 3 (.t 73) (.k 256)),.q 75 71 74,.m 76 75,.my 77 76 3,.y 78 76 (.bin .leq true 3 (.t 77) (.k 12)),.q 79 76 78,.m 2 79] .ret))))
def g:Nm Tryz.prog 56=some ⟨80,zbh.r,[.tmp 2]⟩:=Aa
def z6c:LC:=(.q [.x 3 1,.F 4] (.q [.f 5 1 3,.l 6 5,.b 7 .geq 3 6 0,.m 8 7,.yf 9 8 1 3,.yl 10 8 9,.my 11 8 0,.y 12 8 (.lenSl (.t 11)),.y 13 8 (.bin .lss false 3 (.t 10) (.t 12)),.q 14 8 13,.m 15 14,.my 16 15 0,.yf 17 15 1 3,.yl 18 15 17,.y 19 15 (.ixAddr 3 (.t 16) (.t 18)),.yf 20 15 1 19,.yl 21 15 20,.y 22 15 (.un .not (.t 21)),.q 23 15 22,.m 4 23] .ret))
def g:Nm Tryz.prog 61=some ⟨24,z6c.r,[.tmp 4]⟩:=Aa
def zhe(g:List Vr)(hl:g.length≤9223372036854775807):Nj 56 [.lst (Ob g) g.length 3] (.bool (Qx g)) []:=by
 refine Od.val rfl (Nn F Aa (by simp) ?_);simp[zbh];refine O8 (λZ gz gA N=>∃i p:Nat,gz=[]∧N+i=g.length∧p≤i∧lk Z 0=.lst (Ob g) g.length 3∧lk Z 3=.i p∧lk Z 4=.i i∧Rz i p (g.drop i)=Rz 0 0 g) (N:=g.length) ⟨0,0,by simp⟩ ?_;rintro N Z gz gA ⟨i,p,rfl,hN,gg,A,D,G,hv⟩ Nx U;by_cases T:i<g.length
 ·have hg:=T2 T;have L:=zcb hg;have M:=ju T;rw[zom T]at hv;have O:(gv g i).f=[.i (gv g i).limbs,.bool (gv g i).sec,.i (gv g i).mode]:=rfl;generalize gv g i=v at *;have C:Rz i p (v::g.drop (i+1))=none→Qx g=false:=λh=>by rw[h]at hv;simp[Qx,←hv]
  by_cases j:v.limbs<1
  ·simp[A,D,G,T,L,M,O,j];exact C (by simp[Rz,Vl,j])
  by_cases z:512<v.limbs
  ·simp[A,D,G,T,L,M,O,j,z];exact C (by simp[Rz,Vl,j,z])
  by_cases B:v.mode<0
  ·simp[A,D,G,T,L,M,O,j,z,B];exact C (by simp[Rz,Vl,j,z,B])
  by_cases E:3<v.mode
  ·simp[A,D,G,T,L,M,O,j,z,B,E];exact C (by simp[Rz,Vl,j,z,B,E])
  by_cases H:v.mode=0
  ·simp[A,D,G,T,L,M,O,j,z,B,E,H];refine⟨J,U _ _ _ ⟨N-1,J,i+1,p,rfl,J,J,At,Ao,by simp,?_⟩⟩;rw[←hv];simp[Rz,Vl,j,z,B,E,H]
  have I:0<v.mode:=J
  by_cases P:p<i
  ·simp[A,D,G,T,L,M,O,j,z,B,E,H,I,P];exact C (by simp[Rz,Vl,j,z,B,E,H,P])
  by_cases R:v.mode=1
  ·have K:¬1<v.mode:=J
   cases Q:v.sec with
   |true =>
    simp[A,D,G,T,L,M,O,j,z,B,E,H,I,P,R,K,Q];exact C (by simp[Rz,Vl,j,z,B,E,H,P,Q,R])
   |false =>
    simp[A,D,G,T,L,M,O,j,z,B,E,H,I,P,R,K,Q];refine⟨J,J,U _ _ _ ⟨N-1,J,i+1,p+1,rfl,J,J,At,by simp,by simp,?_⟩⟩;rw[←hv];simp[Rz,Vl,j,z,B,E,H,P,Q,R]
  ·have K:1<v.mode:=J
   cases Q:v.sec with
   |false =>
    simp[A,D,G,T,L,M,O,j,z,B,E,H,I,P,R,K,Q];exact C (by simp[Rz,Vl,j,z,B,E,H,P,Q,R])
   |true =>
    simp[A,D,G,T,L,M,O,j,z,B,E,H,I,P,R,K,Q];refine⟨J,J,U _ _ _ ⟨N-1,J,i+1,p+1,rfl,J,J,At,by simp,by simp,?_⟩⟩;rw[←hv];simp[Rz,Vl,j,z,B,E,H,P,Q,R]
 ·have ei:i=g.length:=J
  rw[J0 J]at hv;have V:Rz 0 0 g=some p:=by rw[←hv];rfl
  by_cases X:1≤g.length
  ·by_cases Y:g.length≤256
   ·simp[A,D,G,T,Qx,V,X,Y];omega
   ·simp[A,D,G,T,Qx,V,X,Y];omega
  ·simp[A,D,G,T,Qx,V,X];omega
def zc5(vs:List Vr)(o:Ko):Nj 61 [.lst (Ob vs) vs.length 3,.agg o.f] (.bool (R4 vs o.d)) []:=by
 refine Od.val rfl (Nn g Aa N ?_);by_cases z:0≤o.d
 case neg=>simp[z6c,Ko.f,R4,z]
 by_cases A:o.d<vs.length
 case neg=>simp[z6c,Ko.f,R4,z,A]
 obtain⟨n,B⟩:=H0 z;have j:n<vs.length:=J
 have C:=zl3 (T2 j);have D:=ju j;simp[z6c,Ko.f,R4,B,j,Nd C]
def Za:LC:=(.q [.x 3 1,.F 4] (.q [.m 6 0,.s 7 6,.m 5 7] (.seq (.q [.f 8 1 3,.l 9 8,.b 10 .neq 3 9 (-1),.m 11 10,.nf 12 11 2 3,.nl 13 11 12,.nb 14 11 .neq 3 13 (-1),.p 15 11 14,.m 16 15,.nf 17 16 5 3,.nl 18 16 17,.nb 19 16 .neq 3 18 (-1),.p 20 16 19,.m 21 20,.nf 22 21 3 3,.nl 23 21 22,.nb 24 21 .lss 3 23 0,.p 25 21 24,.m 26 25,.nf 27 26 3 3,.nl 28 26 27,.mn 29 26 5,.n 30 26 (.bin .geq false 3 (.t 28) (.t 29)),.p 31 26 30,.m 32 31,.nf 33 32 6 3,.nl 34 32 33,.n 35 32 (.bin .lss true 23 (.t 34) (.c (.u 1))),.p 36 32 35,.m 37 36,.nf 38 37 6 3,.nl 39 37 38,.n 40 37 (.bin .gtr true 23 (.t 39) (.c (.u 3))),.p 41 37 40] (.cond (.t 41) (.q [.F 4] .ret) .skip)) (.seq (.q [.f 42 6 3,.l 43 42,.u 44 .eql 23 43 2] (.cond (.t 44) (.q [.f 45 4 3,.l 46 45,.b 47 .geq 3 46 0,.m 48 47,.yf 49 48 4 3,.yl 50 48 49,.my 51 48 5,.y 52 48 (.bin .lss false 3 (.t 50) (.t 51)),.q 53 48 52,.m 4 53] .ret) .skip)) (.q [.f 54 4 3,.l 55 54,.b 56 .eql 3 55 (-1),.m 4 56] .ret)))))
def g:Nm Tryz.prog 120=some ⟨57,Za.r,[.tmp 4]⟩:=Aa
def Wk:LC:=(.q [.K 2 0] (.seq (.q [.m 3 0] (.block 0 (.q [.b 5 .eql 3 3 1,.m 4 5] (.cond (.t 4) (.q [.K 2 1] .ret) (.q [.b 7 .eql 3 3 2,.m 6 7] (.cond (.t 6) (.q [.K 2 5] .ret) (.seq (.q [.b 9 .eql 3 3 3,.m 8 9] (.cond (.t 8) .skip (.q [.b 10 .eql 3 3 4,.m 8 10] (.cond (.t 8) .skip (.q [.b 11 .eql 3 3 5,.m 8 11] (.cond (.t 8) .skip (.q [.b 12 .eql 3 3 6,.m 8 12] (.cond (.t 8) .skip (.ops [.b 13 .eql 3 3 7,.m 8 13]))))))))) (.cond (.t 8) (.q [.K 2 13] .ret) (.seq (.q [.b 15 .eql 3 3 8,.m 14 15] (.cond (.t 14) .skip (.q [.b 16 .eql 3 3 10,.m 14 16] (.cond (.t 14) .skip (.q [.b 17 .eql 3 3 11,.m 14 17] (.cond (.t 14) .skip (.q [.b 18 .eql 3 3 12,.m 14 18] (.cond (.t 14) .skip (.ops [.b 19 .eql 3 3 13,.m 14 19]))))))))) (.cond (.t 14) (.q [.K 2 29] .ret) (.q [.b 21 .eql 3 3 9,.m 20 21] (.cond (.t 20) (.q [.K 2 21] .ret) (.q [.b 23 .eql 3 3 14,.m 22 23] (.cond (.t 22) (.q [.K 2 19] .ret) (.seq (.q [.b 25 .eql 3 3 15,.m 24 25] (.cond (.t 24) .skip (.ops [.b 26 .eql 3 3 16,.m 24 26]))) (.cond (.t 24) (.q [.K 2 0] .ret) .skip)))))))))))))))) (.q [.K 2 (-1)] .ret)))
def g:Nm Tryz.prog 121=some ⟨27,Wk.r,[.tmp 2]⟩:=Aa
def zd0:LC:=(.q [.x 1 0,.z 2 (.alloc [(.i 0),(.i 0),(.i 0),(.i 0),(.i 0)])] (.q [.f 3 1 1,.l 4 3,.f 5 2 1,.l 6 5,.f 7 3 1,.l 8 7,.f 9 4 1,.l 10 9,.f 11 5 1,.l 12 11,.z 13 (.build [(.i 0),(.i 0),(.i 0),(.i 0),(.i 0)] [(0,1,.t 4),(1,1,.t 6),(2,1,.t 8),(3,1,.t 10),(4,1,.t 12)]),.S 5 2 13] .ret))
def g:Nm Tryz.prog 122=some ⟨14,zd0.r,[.cellN 2 5]⟩:=Aa
def z4l:LC:=(.q [.x 1 0,.F 2] (.seq (.q [.f 3 0 1,.l 4 3] (.block 0 (.q [.b 6 .eql 3 4 1,.m 5 6] (.cond (.t 5) (.q [.z 2 (.move .T)] .ret) (.q [.b 8 .eql 3 4 13,.m 7 8] (.cond (.t 7) (.q [.f 9 6 1,.l 10 9,.u 11 .geq 23 10 1,.m 12 11,.yf 13 12 6 1,.yl 14 12 13,.y 15 12 (.bin .leq true 23 (.t 14) (.c (.u 6))),.q 16 12 15,.m 2 16] .ret) (.q [.b 18 .eql 3 4 15,.m 17 18] (.cond (.t 17) (.q [.f 19 6 1,.l 20 19,.u 21 .geq 23 20 1,.m 22 21,.yf 23 22 6 1,.yl 24 22 23,.y 25 22 (.bin .leq true 23 (.t 24) (.c (.u 4096))),.q 26 22 25,.m 2 26] .ret) .skip)))))))) (.q [.f 27 6 1,.l 28 27,.u 29 .eql 23 28 0,.m 2 29] .ret)))
def g:Nm Tryz.prog 123=some ⟨30,z4l.r,[.tmp 2]⟩:=Aa
def vq:LC:=(.q [.x 1 0,.e 2] (.seq (.q [.f 3 0 1,.l 4 3] (.block 0 (.q [.b 6 .eql 3 4 6,.m 5 6] (.cond (.t 5) (.q [.f 7 3 1,.l 8 7,.f 9 4 1,.l 10 9,.z 11 (.buildSl 1 2 [(.i 0),(.i 0)] [(0,1,.t 8),(1,1,.t 10)]),.m 2 11] .ret) (.q [.b 13 .eql 3 4 14,.m 12 13] (.cond (.t 12) (.q [.f 14 1 1,.l 15 14,.f 16 2 1,.l 17 16,.z 18 (.buildSl 1 2 [(.i 0),(.i 0)] [(0,1,.t 15),(1,1,.t 17)]),.m 2 18] .ret) (.q [.b 20 .eql 3 4 8,.m 19 20] (.cond (.t 19) (.q [.f 21 1 1,.l 22 21,.f 23 3 1,.l 24 23,.f 25 4 1,.l 26 25,.z 27 (.buildSl 1 3 [(.i 0),(.i 0),(.i 0)] [(0,1,.t 22),(1,1,.t 24),(2,1,.t 26)]),.m 2 27] .ret) (.q [.b 29 .eql 3 4 9,.m 28 29] (.cond (.t 28) (.q [.f 30 1 1,.l 31 30,.f 32 5 1,.l 33 32,.z 34 (.buildSl 1 2 [(.i 0),(.i 0)] [(0,1,.t 31),(1,1,.t 33)]),.m 2 34] .ret) (.seq (.q [.b 36 .eql 3 4 10,.m 35 36] (.cond (.t 35) .skip (.q [.b 37 .eql 3 4 11,.m 35 37] (.cond (.t 35) .skip (.ops [.b 38 .eql 3 4 12,.m 35 38]))))) (.cond (.t 35) (.q [.f 39 1 1,.l 40 39,.f 41 3 1,.l 42 41,.f 43 4 1,.l 44 43,.f 45 5 1,.l 46 45,.z 47 (.buildSl 1 4 [(.i 0),(.i 0),(.i 0),(.i 0)] [(0,1,.t 40),(1,1,.t 42),(2,1,.t 44),(3,1,.t 46)]),.m 2 47] .ret) (.q [.b 49 .eql 3 4 13,.m 48 49] (.cond (.t 48) (.q [.f 50 1 1,.l 51 50,.f 52 3 1,.l 53 52,.f 54 5 1,.l 55 54,.z 56 (.buildSl 1 3 [(.i 0),(.i 0),(.i 0)] [(0,1,.t 51),(1,1,.t 53),(2,1,.t 55)]),.m 2 56] .ret) .skip)))))))))))))) (.q [.e 2] .ret)))
def g:Nm Tryz.prog 173=some ⟨57,vq.r,[.tmp 2]⟩:=Aa
def zey:LC:=(.q [.x 3 1,.F 4] (.q [.L 7 7 3,.w 8 173 7,.m 5 8] (.seq (.q [.K 6 1] (.block 0 (.loop (.seq (.q [.m 9 6,.m 10 5,.s 11 10,.c 12 .lss 3 9 11] (.cond (.t 12) .skip (.exit 0))) (.seq (.block 1 (.seq (.draw [(.m 15 0,[]),(.m 16 5,[]),(.m 17 6,[]),(.I 18 1 16 17,[]),(.l 19 18,[]),(.I 20 3 15 19,[]),(.f 21 0 20,[]),(.l 22 21,[]),(.m 23 0,[]),(.m 24 5,[]),(.z 25 (.ixAddr 1 (.t 24) (.k 0)),[]),(.l 26 25,[]),(.I 27 3 23 26,[]),(.f 28 0 27,[]),(.l 29 28,[]),(.c 30 .neq 3 22 29,[])]) (.cond (.t 30) (.q [.F 4] .ret) .skip))) (.ops [.m 13 6,.b 14 .add 3 13 1,.m 6 14])))))) (.q [.z 4 (.move .T)] .ret))))
def g:Nm Tryz.prog 124=some ⟨31,zey.r,[.tmp 4]⟩:=Aa
def zdw:LC:=(.q [.x 3 1,.F 4] (.seq (.q [.f 11 0 3,.l 12 11,.b 13 .eql 3 12 17] (.cond (.t 13) (.q [.m 14 0,.L 15 7 3,.W 16 120 14 15,.m 4 16] .ret) .skip)) (.seq (.draw [(.f 17 0 3,[]),(.l 18 17,[]),(.L 20 7 3,[]),(.z 6 (.alloc [(.i 0),(.i 0),(.i 0),(.i 0),(.i 0)]),[(.L 20 7 3,false),(.l 18 17,false)]),(.w 19 121 18,[(.z 6 (.alloc [(.i 0),(.i 0),(.i 0),(.i 0),(.i 0)]),true),(.L 20 7 3,false)]),(.w 21 122 20,[(.z 6 (.alloc [(.i 0),(.i 0),(.i 0),(.i 0),(.i 0)]),true)]),(.m 5 19,[]),(.S 5 6 21,[])]) (.seq (.q [.m 22 5,.b 23 .lss 3 22 0,.m 24 23,.n 25 24 (.loadN 7 (.t 3)),.n 26 24 (.w 123 [.t 25]),.n 27 24 (.un .not (.t 26)),.p 28 24 27] (.cond (.t 28) (.q [.F 4] .ret) .skip)) (.q [.F 7] (.seq (.q [.K 8 0] (.block 0 (.loop (.seq (.q [.m 29 8,.b 30 .lss 3 29 5] (.cond (.t 30) .skip (.exit 0))) (.seq (.block 1 (.q [.m 33 5,.m 34 8,.z 35 (.cvInt .u64 (.t 34)),.c 36 .shr 3 33 35,.b 37 .and 3 36 1,.b 38 .eql 3 37 1,.m 9 38] (.seq (.q [.m 39 9,.m 40 39,.my 41 40 8,.y 42 40 (.ixAddrArr 5 1 (.t 6) (.t 41)),.yl 43 40 42,.y 44 40 (.bin .lss true 3 (.t 43) (.k 0)),.my 45 40 44,.mn 46 45 8,.n 47 45 (.ixAddrArr 5 1 (.t 6) (.t 46)),.nl 48 45 47,.mn 49 45 0,.n 50 45 (.lenSl (.t 49)),.n 51 45 (.bin .geq false 3 (.t 48) (.t 50)),.y 52 40 (.pick (.t 45) .T (.t 51)),.q 53 40 52,.m 54 53,.mn 55 54 9,.n 56 54 (.un .not (.t 55)),.mn 57 54 56,.my 58 57 8,.y 59 57 (.ixAddrArr 5 1 (.t 6) (.t 58)),.yl 60 57 59,.y 61 57 (.bin .neq true 3 (.t 60) (.k (-1))),.n 62 54 (.pick (.t 57) (.t 61) .F),.p 63 54 62] (.cond (.t 63) (.q [.F 4] .ret) .skip)) (.q [.m 64 9,.m 65 64,.my 66 65 8,.y 67 65 (.bin .geq true 3 (.t 66) (.k 2)),.my 68 65 67,.nf 69 68 0 3,.nl 70 68 69,.nb 71 68 .eql 3 70 14,.y 72 65 (.pick (.t 68) .T (.t 71)),.q 73 65 72] (.cond (.t 73) (.ops [.m 74 7,.m 75 74,.mn 76 75 0,.mn 77 75 8,.n 78 75 (.ixAddrArr 5 1 (.t 6) (.t 77)),.nl 79 75 78,.n 80 75 (.ixAddr 3 (.t 76) (.t 79)),.nf 81 75 1 80,.nl 82 75 81,.p 83 75 82,.m 7 83]) .skip))))) (.ops [.m 31 8,.b 32 .add 3 31 1,.m 8 32])))))) (.seq (.q [.K 10 0] (.block 2 (.loop (.seq (.q [.m 84 10,.b 85 .lss 3 84 2] (.cond (.t 85) .skip (.exit 2))) (.seq (.block 3 (.q [.m 88 10,.z 89 (.ixAddrArr 5 1 (.t 6) (.t 88)),.l 90 89,.b 91 .geq 3 90 0,.m 92 91,.my 93 92 0,.my 94 92 10,.y 95 92 (.ixAddrArr 5 1 (.t 6) (.t 94)),.yl 96 92 95,.y 97 92 (.ixAddr 3 (.t 93) (.t 96)),.yf 98 92 2 97,.yl 99 92 98,.y 100 92 (.bin .eql true 3 (.t 99) (.k 1)),.my 101 92 100,.mn 102 101 0,.mn 103 101 10,.n 104 101 (.ixAddrArr 5 1 (.t 6) (.t 103)),.nl 105 101 104,.n 106 101 (.ixAddr 3 (.t 102) (.t 105)),.nf 107 101 2 106,.nl 108 101 107,.nb 109 101 .eql 3 108 2,.y 110 92 (.pick (.t 101) .T (.t 109)),.my 111 92 110,.mn 112 111 7,.mn 113 111 112,.my 114 113 0,.my 115 113 10,.y 116 113 (.ixAddrArr 5 1 (.t 6) (.t 115)),.yl 117 113 116,.y 118 113 (.ixAddr 3 (.t 114) (.t 117)),.yf 119 113 1 118,.yl 120 113 119,.y 121 113 (.un .not (.t 120)),.n 122 111 (.pick (.t 113) (.t 121) .F),.y 123 92 (.pick (.t 111) .T (.t 122)),.q 124 92 123] (.cond (.t 124) (.q [.F 4] .ret) .skip))) (.ops [.m 86 10,.b 87 .add 3 86 1,.m 10 87])))))) (.q [.f 125 2 3,.l 126 125,.b 127 .lss 3 126 0,.m 128 127,.nf 129 128 1 3,.nl 130 128 129,.nf 131 128 2 3,.nl 132 128 131,.n 133 128 (.bin .neq false 3 (.t 130) (.t 132)),.p 134 128 133,.m 135 134,.my 136 135 0,.y 137 135 (.loadN 7 (.t 3)),.y 138 135 (.w 124 [.t 136,.t 137]),.q 139 135 138,.m 4 139] .ret))))))))
def g:Nm Tryz.prog 57=some ⟨140,zdw.r,[.tmp 4]⟩:=Aa
def imm3{n:UInt64}(g:n≠1)(j:n≠2)(z:n≠3):n<1∨3<n:=by
 have A:n.toNat≠1:=λh=>g (Jh.1 h)
 have B:n.toNat≠2:=λh=>j (Jh.1 h)
 have C:n.toNat≠3:=λh=>z (Jh.1 h)
 rw[Jn,Jn];show n.toNat<1∨3<n.toNat;omega
def zn9(c:List LV)(n:Nat)(o:Ko):Nj 120 [.lst c n 3,.agg o.f] (.bool (Si n o)) []:=by
 refine Od.val rfl (Nn B Aa N ?_);have g:o.f=[.i o.kind,.i o.d,.i o.e,.i o.a,.i o.b,.i o.c,.u o.imm]:=rfl;by_cases j:o.d=-1
 case neg=>simp[Za,g,Si,j]
 by_cases z:o.e=-1
 case neg=>simp[Za,g,Si,j,z]
 by_cases A:o.c=-1
 case neg=>simp[Za,g,Si,j,z,A]
 by_cases C:o.a<0
 ·have:Rp n o.a=false:=Co
  simp[Za,g,Si,j,z,A,C,this]
 by_cases D:(n:Int)≤o.a
 ·have:Rp n o.a=false:=Co
  simp[Za,g,Si,j,z,A,C,D,this]
 have F:Rp n o.a=true:=Co
 by_cases E:o.imm=2
 ·by_cases K:0≤o.b
  ·by_cases L:o.b<n
   ·have H:Rp n o.b=true:=Co
    simp[Za,g,Si,j,z,A,C,D,F,E,K,L,H]
   ·have H:Rp n o.b=false:=Co
    simp[Za,g,Si,j,z,A,C,D,F,E,K,L,H]
  ·have H:Rp n o.b=false:=Co
   simp[Za,g,Si,j,z,A,C,D,F,E,K,H]
 by_cases G:o.imm=1
 ·simp[Za,g,Si,j,z,A,C,D,F,E,G]
 by_cases I:o.imm=3
 ·simp[Za,g,Si,j,z,A,C,D,F,E,G,I]
 rcases imm3 G E I with O|O
 ·simp[Za,g,Si,j,z,A,C,D,F,E,G,I,O]
 ·by_cases M:o.imm<1
  ·simp[Za,g,Si,j,z,A,C,D,F,E,G,I,M]
  ·simp[Za,g,Si,j,z,A,C,D,F,E,G,I,O,M]
def Ve(k:Int):Int:=match P1 k with
 |some s=>s
 |none=>-1
def zlp(k:Int):Nj 121 [.i k] (.i (Ve k)) []:=by
 refine Od.val rfl (Nn g Aa N ?_);by_cases F:k=1;· subst F;simp[Wk,Ve,P1]
 by_cases G:k=2;· subst G;simp[Wk,Ve,P1]
 by_cases H:k=3;· subst H;simp[Wk,Ve,P1]
 by_cases I:k=4;· subst I;simp[Wk,Ve,P1]
 by_cases K:k=5;· subst K;simp[Wk,Ve,P1]
 by_cases L:k=6;· subst L;simp[Wk,Ve,P1]
 by_cases M:k=7;· subst M;simp[Wk,Ve,P1]
 by_cases O:k=8;· subst O;simp[Wk,Ve,P1]
 by_cases P:k=9;· subst P;simp[Wk,Ve,P1]
 by_cases j:k=10;· subst j;simp[Wk,Ve,P1]
 by_cases z:k=11;· subst z;simp[Wk,Ve,P1]
 by_cases A:k=12;· subst A;simp[Wk,Ve,P1]
 by_cases B:k=13;· subst B;simp[Wk,Ve,P1]
 by_cases C:k=14;· subst C;simp[Wk,Ve,P1]
 by_cases D:k=15;· subst D;simp[Wk,Ve,P1]
 by_cases E:k=16;· subst E;simp[Wk,Ve,P1]
 simp[Wk,Ve,P1,F,G,H,I,K,L,M,O,P,j,z,A,B,C,D,E]
def zl0(o:Ko):Nj 122 [.agg o.f] (.agg [.i o.d,.i o.e,.i o.a,.i o.b,.i o.c]) []:=by
 refine Od.val rfl (Nn g Aa N ?_);simp[zd0,Ko.f]
def zk8(o:Ko):Nj 123 [.agg o.f] (.bool (Rv o)) []:=by
 refine Od.val rfl (Nn g Aa N ?_);by_cases j:o.kind=1;· simp[z4l,Ko.f,Rv,j]
 by_cases z:o.kind=13
 ·by_cases B:1≤o.imm<;>simp[z4l,Ko.f,Rv,j,z,B]
 by_cases A:o.kind=15
 ·by_cases B:1≤o.imm<;>simp[z4l,Ko.f,Rv,j,z,A,B]
 simp[z4l,Ko.f,Rv,j,z,A]
def zld(o:Ko):Oz 173 [.agg o.f] (.lst ((Qm o).map .i) (Qm o).length 1):=by
 have H:∀l:List Int,dats (l.map .i)=true:=λl=>uv (λ_=>rfl) l
 refine Sd.mk (by simp[LV.dat,H]) (Nn g Aa N ?_);have j:o.f=[.i o.kind,.i o.d,.i o.e,.i o.a,.i o.b,.i o.c,.u o.imm]:=rfl;by_cases E:o.kind=6;· simp[vq,j,Qm,E,Of,bor,LV.dat,dats]
 by_cases z:o.kind=14;· simp[vq,j,Qm,z,Of,bor,LV.dat,dats]
 by_cases F:o.kind=8;· simp[vq,j,Qm,F,Of,bor,LV.dat,dats]
 by_cases G:o.kind=9;· simp[vq,j,Qm,G,Of,bor,LV.dat,dats]
 by_cases A:o.kind=10;· simp[vq,j,Qm,A,Of,bor,LV.dat,dats]
 by_cases B:o.kind=11;· simp[vq,j,Qm,B,Of,bor,LV.dat,dats]
 by_cases C:o.kind=12;· simp[vq,j,Qm,C,Of,bor,LV.dat,dats]
 by_cases D:o.kind=13;· simp[vq,j,Qm,D,Of,bor,LV.dat,dats]
 simp[vq,j,Qm,E,F,G,A,B,C,D,z,Of,bor]
def zd8(g:List Vr)(o:Ko)(hv:∀v∈Qm o,jf g v):Nj 124 [.lst (Ob g) g.length 3,.agg o.f] (.bool (sm g o)) []:=by
 refine Od.val rfl (Nn z Aa (by simp) ?_);have Q:o.f=[.i o.kind,.i o.d,.i o.e,.i o.a,.i o.b,.i o.c,.u o.imm]:=rfl;have hl:(Qm o).length≤4:=by
  unfold Qm;repeat' split
  all_goals simp
 simp[zey,Q];rw[←Q];refine R6 (zld o) rfl ?_;rw[sm];generalize Qm o=j at *;simp;refine O8 (λZ gz gA N=>∃i:Nat,gz=[]∧N+i=j.length+1∧1≤i∧lk Z 0=.lst (Ob g) g.length 3∧lk Z 5=.lst (j.map .i) j.length 1∧lk Z 6=.i i∧∀C,1≤C→C<i→Pl g (gd j C)=Pl g (gd j 0)) (N:=j.length) ⟨1,rfl,J,J,by simp,by simp,by simp,λC h1 h2=>J⟩ ?_;rintro N Z gz gA ⟨i,rfl,hN,gg,F,G,M,R⟩ Nx O;by_cases T:i<j.length
 ·have U:=Xf (f:=LV.i) (Xp (l:=j) (u:=i) T);have D:=Xf (f:=LV.i) (Xp (l:=j) (u:=0) J);have V:gd j i∈j:=Io (Xp T);have m0:gd j 0∈j:=Io (Xp (u:=0) J);obtain⟨a,H,X,qa⟩:=(hv _ V).at;obtain⟨b,I,Y,qb⟩:=(hv _ m0).at;have K:=vd qa;have L:=vd qb;rw[H]at K;rw[I]at L;simp only[In]at K L;have B:Pl g (gd j i)=(gv g a).limbs:=by rw[H];simp[Pl]
  have A:Pl g (gd j 0)=(gv g b).limbs:=by rw[I];simp[Pl]
  by_cases e:Pl g (gd j i)=Pl g (gd j 0)
  ·have E:=e;rw[B,A]at E;simp[F,G,M,T,Nd U,Nd D,H,I,X,Y,Nd K,Nd L,E];refine⟨J,J,O _ _ _ ⟨N-1,J,i+1,rfl,J,J,Ak,Bh,by simp,λC j1 j2=>?_⟩⟩;by_cases ej:C=i
   ·rw[ej];exact e
   ·exact R C j1 J
  ·have E:=e;rw[B,A]at E;simp[F,G,M,T,Nd U,Nd D,H,I,X,Y,Nd K,Nd L,E];refine⟨J,?_⟩;have:(j.all λv=>decide (Pl g v=Pl g (j.headD 0)))=false:=by
    rw[Md];refine⟨_,V,?_⟩;rw[show j.headD 0=gd j 0 by cases j<;>rfl];simpa using e
   simpa using this
 ·simp[F,G,M,T];intro v P;obtain⟨C,hj,rfl⟩:=J6.1 P;have e1:j[C]=gd j C:=by simp[gd,Hw,hj]
  have e0:j.head?.getD 0=gd j 0:=by cases j<;>rfl
  rw[e1,e0];by_cases j0:C=0
  ·rw[j0]
  ·exact R C J J
def zpa(g:List Vr)(o:Ko):Nj 57 [.lst (Ob g) g.length 3,.agg o.f] (.bool (Oc g o)) []:=by
 refine Od.val rfl (Nn gz Aa (by simp) ?_);have E:o.f=[.i o.kind,.i o.d,.i o.e,.i o.a,.i o.b,.i o.c,.u o.imm]:=rfl;by_cases D:o.kind=17
 ·simp[zdw,E,D];have hf:=zn9 (Ob g) g.length o;rw[E,D]at hf;refine Ns hf (bors_self _ Ba) ?_;simp[Oc,D]
 simp[zdw,E,D];refine Ns (zlp o.kind) (by simp) ?_;simp[E];rw[←E];refine Ns (zl0 o) (bors_self _ rfl) ?_;cases U:P1 o.kind with
 |none=>simp[Ve,U,Oc,D]
 |some s =>
 have s0:¬((s:Int)<0):=J
 simp[Ve,U,E,s0];rw[←E];refine Ns (zk8 o) (bors_self _ rfl) ?_;cases hn:Rv o with
 |false=>simp[Oc,D,U,hn]
 |true =>
 have gL:=zsd U;simp[E];refine O8 (λρ gM gO N=>∃i:Nat,gM=[]∧gO=[.cells o.f 0,.cells ((Qw o).map .i) 1]∧N+i=5∧lk ρ 0=.lst (Ob g) g.length 3∧lk ρ 3=.ptr 0 0∧lk ρ 5=.i s∧lk ρ 6=.ptr 1 0∧lk ρ 7=.bool (Vc g o s i)∧lk ρ 8=.i i∧∀gg,gg<i→Rn g.length s gg (gd (Qw o) gg)=true) (N:=5) ⟨0,by simp[Qw,Vc,E]⟩ ?_;rintro N ρ gM gO ⟨i,rfl,rfl,hN,j,z,I,C,A,V,hp⟩ Nx X;by_cases hi:5≤i
 case neg =>
  have gG:(i:Int)<5:=J
  have g2:i<5:=J
  have K:=Xf (f:=LV.i) (Xp (l:=Qw o) (u:=i) g2);have P:Rn g.length s i (gd (Qw o) i)=true→∀gg,gg<i+1→Rn g.length s gg (gd (Qw o) gg)=true:=λh gg hj=>by
   by_cases e:gg=i
   ·rw[e];exact h
   ·exact hp gg J
  have G:Rn g.length s i (gd (Qw o) i)=false→Oc g o=false:=λh=>by
   simp[Oc,D,U,zq5 g2 h]
  have Y:=zwh s i;have F:=zp6 g o s i;generalize gd (Qw o) i=v at *;have L:0≤(s:Int)/2^i:=Int.ediv_nonneg J (Int.pow_nonneg J);have Q:(s:Int)/2^i<9223372036854775808:=Int.lt_of_le_of_lt (Int.ediv_le_self _ J) J;have em:max ((s:Int)/2^i) 0=(s:Int)/2^i:=J
  have hu:(iU (i:Int)).toNat=i:=Vu J;have B:i≤64:=J
  cases hb:s.testBit i with
  |false =>
   rw[hb]at Y F;simp only[Bool.false_and,Bool.or_false]at F;by_cases v1:v=-1
   ·simp[j,z,I,C,A,V,gG,Nd K,hu,B,em,L,Q,Y,v1]
    repeat (refine⟨J,?_⟩)
    exact X _ _ _ ⟨N-1,J,i+1,rfl,rfl,J,Ah,Ae,A0,Al,by simp[A,F],by simp,P (by simp[Rn,hb,v1])⟩
   ·simp[j,z,I,C,A,V,gG,Nd K,hu,B,em,L,Q,Y,v1]
    repeat (refine⟨J,?_⟩)
    exact G (by simp[Rn,hb,v1])
  |true =>
   rw[hb]at Y F;simp only[Ly]at F;by_cases v0:v<0
   ·simp[j,z,I,C,A,V,gG,Nd K,hu,B,em,L,Q,Y,v0]
    repeat (refine⟨J,?_⟩)
    exact G Ff
   by_cases v1:(g.length:Int)≤v
   ·simp[j,z,I,C,A,V,gG,Nd K,hu,B,em,L,Q,Y,v0,v1]
    repeat (refine⟨J,?_⟩)
    exact G Ff
   have hv:jf g v:=⟨J,J⟩;have ok:=P Ff;obtain⟨k,rfl,Z,ek⟩:=hv.at;have q1:=zl3 ek;simp only[In]at q1 F;have v2:¬g.length≤k:=J
   have T:¬(k:Int)<0:=J
   have next:∀M b,Vc g o s (i+1)=b→lk M 0=.lst (Ob g) g.length 3→lk M 3=.ptr 0 0→lk M 5=.i s→lk M 6=.ptr 1 0→lk M 7=.bool b→lk M 8=.i ((i:Int)+1)→Nx M [] [.cells o.f 0,.cells ((Qw o).map .i) 1]:=by
    rintro M b rfl a0 a3 a5 a6 a7 a8;exact X _ _ _ ⟨N-1,J,i+1,rfl,rfl,J,a0,a3,a5,a6,a7,by rw[a8];simp,ok⟩
   by_cases c2:(2:Int)≤(i:Int)
   ·have gA:2≤i:=J
    cases ha:Vc g o s i with
    |false =>
     rw[ha]at F A;simp[gA]at F;simp[j,z,I,C,A,V,gG,Nd K,Nd q1,hu,B,em,L,Q,Y,v2,Z,c2,T]
     repeat (refine⟨J,?_⟩)
     exact next _ _ F Ah Ae A0 Al (by simp) (by simp)
    |true =>
     rw[ha]at F A;simp at F;simp[j,z,I,C,A,V,gG,Nd K,hu,B,em,L,Q,Y,v2,Z,c2,T]
     repeat (refine⟨J,?_⟩)
     exact next _ _ F Ah Ae A0 Al (by simp) (by simp)
   have gA:¬2≤i:=J
   by_cases O:o.kind=14
   ·cases ha:Vc g o s i with
    |false =>
     rw[ha]at F A;simp[gA,O]at F;simp[j,z,I,C,A,V,gG,Nd K,Nd q1,hu,B,em,L,Q,Y,v2,Z,c2,T,E,O]
     repeat (refine⟨J,?_⟩)
     rw[←O,←E];exact next _ _ F Ah Ae A0 Al (by simp) (by simp)
    |true =>
     rw[ha]at F A;simp at F;simp[j,z,I,C,A,V,gG,Nd K,hu,B,em,L,Q,Y,v2,Z,c2,T,E,O]
     repeat (refine⟨J,?_⟩)
     rw[←O,←E];exact next _ _ F Ah Ae A0 Al (by simp) (by simp)
   ·simp[gA,O]at F;simp[j,z,I,C,A,V,gG,Nd K,Nd q1,hu,B,em,L,Q,Y,v2,Z,c2,T,E,O]
    repeat (refine⟨J,?_⟩)
    rw[←E];exact next _ _ F Ah Ae A0 Al At (by simp)
 have gC:Tw g.length s o=true:=zls λgg hj=>hp gg J
 have gD:=zob U gC;have ei:i=5:=J
 subst ei;rw[secU_5 U gC]at A;simp[j,z,I,C,A,V];refine O8 (λρ gM gO N=>∃i:Nat,gM=[]∧gO=[.cells o.f 0,.cells ((Qw o).map .i) 1]∧N+i=2∧lk ρ 0=.lst (Ob g) g.length 3∧lk ρ 3=.ptr 0 0∧lk ρ 6=.ptr 1 0∧lk ρ 7=.bool (O5 g o)∧lk ρ 10=.i i∧∀gg,gg<i→Sj g (O5 g o) (gd (Qw o) gg)=true) (N:=2) ⟨0,by simp[j,z,C,A]⟩ ?_;clear j z I C A V hp X;rintro N ρ gM gO ⟨i,rfl,rfl,hN,j,z,C,A,H,hp⟩ Nx X;by_cases hi:2≤i
 case neg =>
  have gG:(i:Int)<2:=J
  have g5:(i:Int)<5:=J
  have g2:i<2:=J
  have K:=Xf (f:=LV.i) (Xp (l:=Qw o) (u:=i) (J:i<5));have P:Sj g (O5 g o) (gd (Qw o) i)=true→∀gg,gg<i+1→Sj g (O5 g o) (gd (Qw o) gg)=true:=λh gg hj=>by
   by_cases e:gg=i
   ·rw[e];exact h
   ·exact hp gg J
  have G:Sj g (O5 g o) (gd (Qw o) i)=false→Oc g o=false:=λh=>by
   have gH:i=0∨i=1:=J
   rcases gH with rfl|rfl
   ·have h:Sj g (O5 g o) o.d=false:=h;simp[Oc,D,U,h]
   ·have h:Sj g (O5 g o) o.e=false:=h;simp[Oc,D,U,h]
  have gI:gd (Qw o) i=-1∨jf g (gd (Qw o) i):=by
   have gH:i=0∨i=1:=J
   rcases gH with rfl|rfl
   ·exact gD.d
   ·exact gD.e
  have next:∀M,Sj g (O5 g o) (gd (Qw o) i)=true→lk M 0=.lst (Ob g) g.length 3→lk M 3=.ptr 0 0→lk M 6=.ptr 1 0→lk M 7=.bool (O5 g o)→lk M 10=.i ((i:Int)+1)→Nx M [] [.cells o.f 0,.cells ((Qw o).map .i) 1]:=by
   intro M ok a0 a3 a6 a7 gK;exact X _ _ _ ⟨N-1,J,i+1,rfl,rfl,J,a0,a3,a6,a7,by rw[gK];simp,P ok⟩
  generalize gd (Qw o) i=v at *;rcases gI with rfl|hv
  ·simp[j,z,C,A,H,gG,g5,Nd K]
   repeat (refine⟨J,?_⟩)
   exact next _ (by simp[Sj]) Ah Ae Al At (by simp)
  ·obtain⟨k,rfl,Z,ek⟩:=hv.at;have q1:=zl3 ek;have q2:=ud ek;simp only[In]at q1 q2;have R:Sc (gv g k)=(decide ((gv g k).mode=1) || decide ((gv g k).mode=2)):=rfl;have ho:Sj g (O5 g o) (k:Int)=!(Sc (gv g k) || (O5 g o && !(gv g k).sec)):=by
    have T:decide ((k:Int)<0)=false:=by simp
    simp[Sj,T]
   have T:(0:Int)≤(k:Int):=J
   by_cases m1:(gv g k).mode=1
   ·simp[j,z,C,A,H,gG,g5,Nd K,Nd q2,Z,T,m1]
    repeat (refine⟨J,?_⟩)
    exact G (by rw[ho,R];simp[m1])
   by_cases m2:(gv g k).mode=2
   ·simp[j,z,C,A,H,gG,g5,Nd K,Nd q2,Z,T,m1,m2]
    repeat (refine⟨J,?_⟩)
    exact G (by rw[ho,R];simp[m2])
   cases gF:O5 g o with
   |false =>
    rw[gF]at A ho G next
    simp[j,z,C,A,H,gG,g5,Nd K,Nd q2,Z,T,m1,m2]
    repeat (refine⟨J,?_⟩)
    exact next _ (by rw[ho,R];simp[m1,m2]) Ah Ae Al At (by simp)
   |true =>
    rw[gF]at A ho G next
    cases gE:(gv g k).sec with
    |false =>
     simp[j,z,C,A,H,gG,g5,Nd K,Nd q1,Nd q2,Z,T,m1,m2,gE]
     repeat (refine⟨J,?_⟩)
     exact G (by rw[ho,gE];simp)
    |true =>
     simp[j,z,C,A,H,gG,g5,Nd K,Nd q1,Nd q2,Z,T,m1,m2,gE]
     repeat (refine⟨J,?_⟩)
     exact next _ (by rw[ho,R,gE];simp[m1,m2]) Ah Ae Al At (by simp)
 have ei:i=2:=J
 subst ei;have od:Sj g (O5 g o) o.d=true:=hp 0 J;have oe:Sj g (O5 g o) o.e=true:=hp 1 J;have gP:o.f.length=7:=rfl;have gQ:o.f.take 7=o.f:=rfl;by_cases L:o.e<0
 ·simp[j,z,H,E,L];rw[←E];refine Ns (zd8 g o gD.alike) (bors_self _ (by simp[dats,LV.dat,Ro,E])) ?_;simp[Oc,D,U,hn,gC,od,oe,L]
 ·by_cases Q:o.d=o.e
  ·simp[j,z,H,E,L,Q];simp[Oc,D,U,L,Q]
  ·simp[j,z,H,E,L,Q];rw[←E];refine Ns (zd8 g o gD.alike) (bors_self _ (by simp[dats,LV.dat,Ro,E])) ?_;simp[Oc,D,U,hn,gC,od,oe,L,Q]
def zfn:LC:=(.q [.x 3 1,.F 4] (.q [.m 5 0,.w 6 56 5,.m 7 6,.my 8 7 0,.y 9 7 (.loadN 7 (.t 3)),.y 10 7 (.w 57 [.t 8,.t 9]),.q 11 7 10,.m 4 11] .ret))
def g:Nm Tryz.prog 16=some ⟨12,zfn.r,[.tmp 4]⟩:=Aa
def z9n:LC:=(.q [.F 6] (.seq (.q [.K 7 0] (.block 0 (.loop (.seq (.q [.m 11 7,.m 12 0,.s 13 12,.c 14 .lss 3 11 13] (.cond (.t 14) .skip (.exit 0))) (.seq (.block 1 (.seq (.seq (.draw [(.m 17 0,[]),(.m 18 7,[]),(.I 19 8 17 18,[]),(.f 20 1 19,[]),(.l 21 20,[]),(.m 22 0,[]),(.m 23 7,[]),(.I 24 8 22 23,[]),(.f 25 2 24,[]),(.l 26 25,[]),(.m 27 0,[]),(.m 28 7,[]),(.I 29 8 27 28,[]),(.f 30 3 29,[]),(.l 31 30,[]),(.m 32 0,[]),(.m 33 7,[]),(.I 34 8 32 33,[]),(.f 35 4 34,[]),(.l 36 35,[]),(.m 37 0,[]),(.m 38 7,[]),(.I 39 8 37 38,[]),(.f 40 5 39,[]),(.l 41 40,[]),(.z 42 (.buildSl 1 5 [(.i 0),(.i 0),(.i 0),(.i 0),(.i 0)] [(0,1,.t 21),(1,1,.t 26),(2,1,.t 31),(3,1,.t 36),(4,1,.t 41)]),[(.l 41 40,false),(.l 36 35,false),(.l 31 30,false),(.l 26 25,false),(.l 21 20,false)]),(.s 43 42,[]),(.K 44 0,[])]) (.block 2 (.loop (.q [.c 45 .lss 3 44 43] (.seq (.cond (.t 45) .skip (.exit 2)) (.seq (.block 3 (.q [.I 46 1 42 44,.l 47 46,.m 9 47] (.q [.m 48 9,.b 49 .eql 3 48 (-1),.m 50 49,.mn 51 50 9,.nb 52 50 .geq 3 51 8,.mn 53 50 52,.my 54 53 9,.y 55 53 (.bin .lss true 3 (.t 54) (.k 16)),.n 56 50 (.pick (.t 53) (.t 55) .F),.p 57 50 56,.m 58 57,.mn 59 58 2,.mn 60 58 59,.my 61 60 9,.y 62 60 (.bin .geq true 3 (.t 61) (.k 16)),.n 63 58 (.pick (.t 60) (.t 62) .F),.mn 64 58 63,.my 65 64 9,.y 66 64 (.bin .lss true 3 (.t 65) (.k 40)),.n 67 58 (.pick (.t 64) (.t 66) .F),.p 68 58 67,.m 69 68,.mn 70 69 2,.n 71 69 (.un .not (.t 70)),.mn 72 69 71,.my 73 72 9,.y 74 72 (.bin .geq true 3 (.t 73) (.k 40)),.n 75 69 (.pick (.t 72) (.t 74) .F),.mn 76 69 75,.my 77 76 9,.y 78 76 (.bin .lss true 3 (.t 77) (.k 64)),.n 79 69 (.pick (.t 76) (.t 78) .F),.p 80 69 79,.m 81 80,.mn 82 81 9,.mn 83 81 1,.n 84 81 (.bin .geq false 3 (.t 82) (.t 83)),.mn 85 81 84,.my 86 85 9,.y 87 85 (.bin .lss true 3 (.t 86) (.k 8)),.n 88 81 (.pick (.t 85) (.t 87) .F),.p 89 81 88,.m 10 89] (.q [.m 90 10,.z 91 (.un .not (.t 90))] (.cond (.t 91) (.q [.F 6] .ret) .skip))))) (.ops [.b 92 .add 3 44 1,.m 44 92]))))))) (.seq (.draw [(.m 93 0,[]),(.m 94 7,[]),(.I 95 8 93 94,[]),(.f 96 1 95,[]),(.l 97 96,[]),(.b 98 .geq 3 97 0,[]),(.m 99 98,[]),(.my 100 99 0,[]),(.my 101 99 7,[]),(.y 102 99 (.ixAddr 8 (.t 100) (.t 101)),[]),(.yf 103 99 1 102,[]),(.yl 104 99 103,[]),(.y 105 99 (.bin .lss true 3 (.t 104) (.k 8)),[]),(.q 106 99 105,[]),(.m 107 0,[]),(.m 108 7,[]),(.I 109 8 107 108,[]),(.f 110 0 109,[]),(.l 111 110,[]),(.b 112 .eql 3 111 16,[]),(.c 113 .neq 4 106 112,[])]) (.cond (.t 113) (.q [.F 6] .ret) .skip)))) (.ops [.m 15 7,.b 16 .add 3 15 1,.m 7 16])))))) (.q [.z 6 (.move .T)] .ret)))
def g:Nm Tryz.prog 60=some ⟨114,z9n.r,[.tmp 6]⟩:=Aa
def zl5(j:List Vr)(o:Ko)(A:j.length≤9223372036854775807):Nj 16 [.lst (Ob j) j.length 3,.agg o.f] (.bool (Qx j&&Oc j o)) []:=by
 refine Od.val rfl (Nn g Aa N ?_);have z:o.f=[.i o.kind,.i o.d,.i o.e,.i o.a,.i o.b,.i o.c,.u o.imm]:=rfl;simp[zfn,z];refine Ns (zhe j A) (bors_self _ Ba) ?_;cases hv:Qx j with
 |false=>simp
 |true =>
  simp[z];rw[←z];refine Ns (zpa j o) (bors_self _ (by simp[dats,LV.dat,Ro,z])) ?_;simp
def Uk(g:Int)(j:Bool)(r:Int):Prop:=r=-1∨(8≤r∧r<16)∨(j=true∧16≤r∧r<40)∨(j=false∧40≤r∧r<64)∨(g≤r∧r<8)
def zel(L:List Lo)(deep:Int)(H:Bool)(hl:L.length≤9223372036854775807)(gM:0≤deep)(hr:∀o∈L,(∀r∈[o.d,o.e,o.a,o.b,o.c],Uk deep H r)∧((0≤o.d∧o.d<8)↔o.kind=16)) :
  Nj 60 [.lst (Qu L) L.length 8,.i deep,.bool H] (.bool true) []:=by
 refine Od.val rfl (Nn I Aa (by simp) ?_);simp[z9n];refine O8 (λU gL gz N=>∃i:Nat,gL=[]∧N+i=L.length∧lk U 0=.lst (Qu L) L.length 8∧lk U 1=.i deep∧lk U 2=.bool H∧lk U 7=.i i) (N:=L.length) ⟨0,by simp⟩ ?_;rintro N U gL gz ⟨i,rfl,hN,A,B,C,E⟩ Nx gA;by_cases gC:i<L.length
 ·have ho:=zh2 gC;have hm:=hr _ (Io ho);have o0:=zqh ho (j:=0) J;have Y:=zqh ho (j:=1) J;have o2:=zqh ho (j:=2) J;have o3:=zqh ho (j:=3) J;have o4:=zqh ho (j:=4) J;have o5:=zqh ho (j:=5) J;have gO:=zne gC;generalize ko L i=o at *;simp[Lo.f]at o0 Y o2 o3 o4 o5;obtain⟨gD,Z⟩:=hm;simp[A,B,C,E,gC,Nd Y,Nd o2,Nd o3,Nd o4,Nd o5];have V:(gz++[LObj.dyn [.i o.d,.i o.e,.i o.a,.i o.b,.i o.c] 5 1 0 0])[gz.length]?=some (.dyn [.i o.d,.i o.e,.i o.a,.i o.b,.i o.c] 5 1 0 0):=Ir;generalize gz++[LObj.dyn [.i o.d,.i o.e,.i o.a,.i o.b,.i o.c] 5 1 0 0]=G2 at *;generalize gz.length=gQ at *;refine O8 (λU gL gz N=>∃j:Nat,gL=[]∧N+j=5∧lk U 0=.lst (Qu L) L.length 8∧lk U 1=.i deep∧lk U 2=.bool H∧lk U 7=.i i∧lk U 42=.dy gQ 0∧lk U 43=.i 5∧lk U 44=.i j∧gz=G2) (N:=5)
   ⟨0,rfl,rfl,At,An,Al,Af,by simp,by simp,by simp,rfl⟩ ?_
  clear A B C E;rintro N2 U gL G3 ⟨j,rfl,gP,A,B,C,E,z,g,F,rfl⟩ gE gg;by_cases P:j<5
  ·have D:(j:Int)<5:=J
   obtain⟨x,K,gF⟩:∃x,([LV.i o.d,.i o.e,.i o.a,.i o.b,.i o.c])[j]?=some (.i x)∧x∈[o.d,o.e,o.a,o.b,o.c]:=by
    have hj:j=0∨j=1∨j=2∨j=3∨j=4:=J
    rcases hj with rfl|rfl|rfl|rfl|rfl<;>exact⟨_,rfl,by simp⟩
   have hx:=gD x gF;have O:∀(G:Na),lk G 0=.lst (Qu L) L.length 8→lk G 1=.i deep→lk G 2=.bool H→lk G 7=.i i→lk G 42=.dy gQ 0→lk G 43=.i 5→lk G 44=.i ((j:Int)+1)→gE G [] G3:=λG a0 a1 a2 a7 gG gH gI=>gg _ _ _ ⟨N2-1,J,j+1,rfl,J,a0,a1,a2,a7,gG,gH,by rw[gI];simp,rfl⟩
   rcases hx with e|⟨Q,R⟩|⟨rfl,Q,R⟩|⟨rfl,Q,R⟩|⟨Q,R⟩
   ·subst e;simp[A,B,C,E,z,g,F,V,P,D,Nd K];exact⟨J,O _ At An Al Af Ae Av (by simp)⟩
   ·have T:¬x=-1:=J
    simp[A,B,C,E,z,g,F,V,P,D,Nd K,T,Q,R];exact⟨J,O _ At An Al Af Ae Av (by simp)⟩
   ·have T:¬x=-1:=J
    have X:8≤x:=J
    have n3:¬x<16:=J
    simp[A,B,C,E,z,g,F,V,P,D,Nd K,T,X,n3,Q,R];exact⟨J,O _ At An Al Af Ae Av (by simp)⟩
   ·have T:¬x=-1:=J
    have X:8≤x:=J
    have n3:¬x<16:=J
    simp[A,B,C,E,z,g,F,V,P,D,Nd K,T,X,n3,Q,R];exact⟨J,O _ At An Al Af Ae Av (by simp)⟩
   ·have T:¬x=-1:=J
    have X:¬8≤x:=J
    have n4:¬16≤x:=J
    have n5:¬40≤x:=J
    cases H with
    |true =>
     simp[A,B,C,E,z,g,F,V,P,D,Nd K,T,X,n4,n5,Q,R];exact⟨J,O _ At An Al Af Ae Av (by simp)⟩
    |false =>
     simp[A,B,C,E,z,g,F,V,P,D,Nd K,T,X,n4,n5,Q,R];exact⟨J,O _ At An Al Af Ae Av (by simp)⟩
  ·have D:¬(j:Int)<5:=J
   have O:∀(G:Na) (G':M9),lk G 0=.lst (Qu L) L.length 8→lk G 1=.i deep→lk G 2=.bool H→lk G 7=.i ((i:Int)+1)→Nx G [] G':=λG G' a0 a1 a2 a7=>gA _ _ _ ⟨N-1,J,i+1,rfl,J,a0,a1,a2,by rw[a7];simp⟩
   by_cases M:o.kind=16
   ·obtain⟨m1,m2⟩:=Z.2 M;simp[A,B,C,E,g,F,P,D,gC,Nd o0,Nd Y,M,m1,m2,qz];exact⟨J,O _ _ At An Al (by simp)⟩
   ·have gK:¬(0≤o.d∧o.d<8):=λq=>M (Z.1 q)
    by_cases m1:0≤o.d
    ·have m2:¬o.d<8:=λq=>gK ⟨m1,q⟩
     simp[A,B,C,E,g,F,P,D,gC,Nd o0,Nd Y,M,m1,m2,qz];exact⟨J,O _ _ At An Al (by simp)⟩
    ·simp[A,B,C,E,g,F,P,D,gC,Nd o0,Nd Y,M,m1,qz];exact⟨J,O _ _ At An Al (by simp)⟩
 ·simp[A,E,gC]
def ze{c:Cf}{f:Fr Lo}(B:f.AllH c z)(R:0≤z)(E:c.lo=z)(F:c.hi=7)(T:8≤c.pa∧c.pb<16)(G:(P=true∧16≤c.R∧c.R+c.w≤40)∨(P=false∧40≤c.R∧c.R+c.w≤64)) :
  ∀o∈f.flat,(∀r∈[o.d,o.e,o.a,o.b,o.c],Uk z P r)∧((0≤o.d∧o.d<8)↔o.kind=16):=by
 intro o ho;have h:=allH_flat B o ho;have rg:∀{x:Int},Q4 c x→Uk z P x∧16≤x:=λ{x} h=>by
  unfold Q4 at h;unfold Uk;rcases G with ⟨e,q⟩|⟨e,q⟩
  ·exact⟨.inr (.inr (.inl ⟨e,J,J⟩)),J⟩
  ·exact⟨.inr (.inr (.inr (.inl ⟨e,J,J⟩))),J⟩
 have H:∀{x:Int},T1 c x→Uk z P x:=λ{x} h=>by
  unfold T1 at h;unfold Uk;rcases h with h|h
  ·exact .inr (.inr (.inr (.inr J)))
  ·exact .inr (.inl J)
 have j:∀{x:Int},Tv c x→Uk z P x:=λ{x} h=>by
  rcases h with h|h|h
  ·exact .inl h
  ·exact (rg h).1
  ·exact H h
 have m1:Uk z P (-1):=.inl rfl;rcases h with h|rfl|⟨I,⟨K,D,L,M,O,Q,_⟩,U,V⟩
 ·have A:Uk z P o.d∧Uk z P o.e∧¬(0≤o.d∧o.d<8):=by
   rcases h.m with ⟨m1,C,_⟩|⟨_,m1,C,_⟩
   ·refine⟨?_,?_,?_⟩
    ·rcases m1 with e|e
     ·exact .inl e
     ·exact (rg e).1
    ·rcases C with e|e
     ·exact .inl e
     ·exact (rg e).1
    ·rcases m1 with e|e
     ·omega
     ·have:=(rg e).2;omega
   ·exact⟨.inr (.inl J),.inl C,J⟩
  refine⟨λx g=>?_,λq=>absurd q A.2.2,λq=>absurd q h.k.1⟩;simp only[Ig,Ka,L7]at g;rcases g with rfl|rfl|rfl|rfl|rfl
  ·exact A.1
  ·exact A.2.1
  ·exact j h.a
  ·exact j h.b
  ·exact j h.z
 ·refine⟨λx g=>?_,by simp[Tj]⟩;simp[Tj]at g;subst g;exact m1
 ·refine⟨λx g=>?_,?_⟩
  ·simp only[D,L,M,O,Q,Ig,Ka,L7]at g;rcases g with rfl|rfl|rfl|rfl|rfl
   ·exact .inr (.inr (.inr (.inr J)))
   all_goals exact m1
  ·rw[D];exact⟨λ_=>K,λ_=>J⟩
def z62:LC:=(.q [.x 3 0,.x 4 1,.F 6] (.seq (.q [.f 9 0 4,.l 10 9,.b 11 .eql 3 10 16] (.cond (.t 11) (.q [.F 6] .ret) .skip)) (.seq (.q [.f 12 0 4,.l 13 12,.b 14 .eql 3 13 14] (.cond (.t 14) (.q [.f 15 1 3,.l 16 15,.f 17 6 4,.l 18 17,.I 19 3 16 18,.f 20 2 19,.l 21 20,.m 6 21] .ret) .skip)) (.q [.L 22 8 4,.w 23 143 22,.m 7 23] (.seq (.q [.K 8 0] (.block 0 (.loop (.seq (.q [.m 24 8,.m 25 7,.s 26 25,.c 27 .lss 3 24 26] (.cond (.t 27) .skip (.exit 0))) (.seq (.block 1 (.q [.m 30 2,.m 31 7,.m 32 8,.I 33 1 31 32,.l 34 33,.I 35 1 30 34,.l 36 35] (.cond (.t 36) (.q [.z 6 (.move .T)] .ret) .skip))) (.ops [.m 28 8,.b 29 .add 3 28 1,.m 8 29])))))) (.q [.F 6] .ret))))))
def r_ref13_secret:Nm Tryz.prog 145=some ⟨37,z62.r,[.tmp 6]⟩:=Aa
def zd2:LC:=(.q [.x 1 0,.e 2] (.q [.L 11 3 1,.w 12 78 11,.m 10 12,.X 13 0 10,.X 14 1 10,.m 3 13,.m 4 14] (.seq (.q [.m 15 4,.b 16 .neq 35 15 0] (.cond (.t 16) (.q [.e 2] .ret) .skip)) (.q [.f 17 0 1,.l 18 17,.z 19 (.mkSl 1 [(.bool false)] (.t 18) (.t 18)),.m 5 19] (.seq (.q [.z 6 (.move .T)] (.block 0 (.loop (.seq (.q [.m 20 6] (.cond (.t 20) .skip (.exit 0))) (.block 1 (.q [.F 6] (.q [.K 7 0] (.block 2 (.loop (.seq (.q [.m 21 7,.f 22 2 1,.l 23 22,.s 24 23,.c 25 .lss 3 21 24] (.cond (.t 25) .skip (.exit 2))) (.seq (.block 3 (.q [.f 28 2 1,.l 29 28,.m 30 7,.I 31 8 29 30,.L 32 8 31,.w 33 142 32,.m 8 33] (.q [.K 9 0] (.block 4 (.loop (.seq (.q [.m 34 9,.m 35 8,.s 36 35,.c 37 .lss 3 34 36] (.cond (.t 37) .skip (.exit 4))) (.seq (.block 5 (.seq (.draw [(.m 40 5,[]),(.m 41 8,[]),(.m 42 9,[]),(.I 43 1 41 42,[]),(.l 44 43,[]),(.I 45 1 40 44,[]),(.l 46 45,[]),(.z 47 (.un .not (.t 46)),[]),(.m 48 47,[]),(.y 49 48 (.loadN 3 (.t 1)),[]),(.yf 50 48 2 1,[]),(.yl 51 48 50,[]),(.my 52 48 7,[]),(.y 53 48 (.ixAddr 8 (.t 51) (.t 52)),[]),(.y 54 48 (.loadN 8 (.t 53)),[]),(.my 55 48 5,[]),(.y 56 48 (.w 145 [.t 49,.t 54,.t 55]),[]),(.q 57 48 56,[])]) (.cond (.t 57) (.ops [.m 58 5,.m 59 8,.m 60 9,.I 61 1 59 60,.l 62 61,.I 63 1 58 62,.v (.store 1 (.t 63) .T),.z 6 (.move .T)]) .skip))) (.ops [.m 38 9,.b 39 .add 3 38 1,.m 9 39])))))))) (.ops [.m 26 7,.b 27 .add 3 26 1,.m 7 27])))))))))))) (.q [.m 64 5,.m 2 64] .ret))))))
def r_ref13_Secret:Nm Tryz.prog 79=some ⟨65,zd2.r,[.tmp 2]⟩:=Aa
def zf5:LC:=(.q [.x 1 0,.K 2 0,.K 3 0] (.q [.L 11 3 1,.w 12 78 11,.m 10 12,.X 13 0 10,.X 14 1 10,.m 4 13,.m 5 14] (.seq (.q [.m 15 5,.b 16 .neq 35 15 0] (.cond (.t 16) (.q [.m 17 4,.m 18 5,.m 2 17,.m 3 18] .ret) .skip)) (.q [.L 19 3 1,.w 20 79 19,.m 6 20] (.seq (.q [.K 7 0] (.block 0 (.loop (.seq (.q [.m 21 7,.f 22 2 1,.l 23 22,.s 24 23,.c 25 .lss 3 21 24] (.cond (.t 25) .skip (.exit 0))) (.seq (.block 1 (.q [.f 28 2 1,.l 29 28,.m 30 7,.I 31 8 29 30,.L 32 8 31,.z 8 (.alloc [(.i 0),(.i 0),(.i 0),(.i 0),(.i 0),(.i 0),(.i 0),(.u 0)]),.S 8 8 32] (.q [.f 33 0 8,.l 34 33,.b 35 .eql 3 34 14,.m 36 35,.nf 37 36 0 8,.nl 38 36 37,.nb 39 36 .eql 3 38 15,.p 40 36 39,.m 9 40] (.q [.m 41 9,.m 42 41,.yf 43 42 3 8,.yl 44 42 43,.y 45 42 (.bin .geq true 3 (.t 44) (.k 0)),.q 46 42 45,.m 47 46,.my 48 47 6,.yf 49 47 3 8,.yl 50 47 49,.y 51 47 (.ixAddr 1 (.t 48) (.t 50)),.yl 52 47 51,.q 53 47 52,.m 54 53,.nf 55 54 0 8,.nl 56 54 55,.nb 57 54 .eql 3 56 15,.mn 58 54 57,.my 59 58 6,.yf 60 58 4 8,.yl 61 58 60,.y 62 58 (.ixAddr 1 (.t 59) (.t 61)),.yl 63 58 62,.n 64 54 (.pick (.t 58) (.t 63) .F),.mn 65 54 64,.yf 66 65 1 1,.yl 67 65 66,.yf 68 65 6 8,.yl 69 65 68,.y 70 65 (.ixAddr 3 (.t 67) (.t 69)),.yf 71 65 2 70,.yl 72 65 71,.y 73 65 (.un .not (.t 72)),.n 74 54 (.pick (.t 65) (.t 73) .F),.p 75 54 74,.m 76 75,.nf 77 76 0 8,.nl 78 76 77,.nb 79 76 .eql 3 78 16,.mn 80 76 79,.my 81 80 6,.yf 82 80 1 8,.yl 83 80 82,.y 84 80 (.ixAddr 1 (.t 81) (.t 83)),.yl 85 80 84,.n 86 76 (.pick (.t 80) (.t 85) .F),.p 87 76 86] (.cond (.t 87) (.q [.m 88 7,.m 2 88,.K 3 12] .ret) .skip))))) (.ops [.m 26 7,.b 27 .add 3 26 1,.m 7 27])))))) (.q [.f 89 2 1,.l 90 89,.s 91 90,.m 2 91,.K 3 0] .ret))))))
def r_ref13_Check:Nm Tryz.prog 25=some ⟨92,zf5.r,[.tmp 2,.tmp 3]⟩:=Aa
def m6{o:Lo}(h:P9 z Z o=true)(g:o.kind=14∨o.kind=15):0≤o.buf∧o.buf.toNat<Z.length:=by
 unfold P9 at h;simp only[Hz,Ie]at h;obtain⟨⟨A,B⟩,d,e,a,b,c,f,j⟩:=h;rw[H6 (by rcases g with q|q<;>simp[Pg,q])]at j;simp only[Hz,Ie]at j;omega
def zkx{r:Nat}{os:List Lo}{m:List Bool}{o:Lo}(U:P9 r Z o=true)(hm:m.length=r) :
  Oz 145 [.agg (Ni r Z os),.agg o.f,.lst (m.map .bool) r 1] (.bool (X2 Z m o)):=by
 refine Sd.mk rfl (Nn r_ref13_secret Aa (by simp) ?_);have I:o.f=[.i o.kind,.i o.d,.i o.e,.i o.a,.i o.b,.i o.c,.i o.buf,.u o.imm]:=rfl;obtain⟨Y,_,_⟩:=z37 U;generalize g:X2 Z m o=gC;unfold X2 at g;by_cases z:o.kind=16
 ·rw[H6 z]at g;simp[z62,Ni,I,z,g]
 rw[Hx z]at g;by_cases j:o.kind=14
 ·rw[H6 j]at g;obtain⟨b0,K⟩:=m6 U (.inl j);obtain⟨bn,G⟩:=H0 b0;rw[G]at K g;simp only[In]at K g;have q2:=zuo (Sl K);simp[z62,Ni,I,j,G,K,Nd q2,g]
 rw[Hx j]at g;simp[z62,Ni,I,z,j];refine R6 (by rw[←I];exact zdd o) Ca ?_;simp;have gg:=zm0 o;refine O8 (λX gz gA N=>∃P:Nat,gz=[]∧N+P=(Ov o).length∧lk X 2=.lst (m.map .bool) r 1∧lk X 7=.lst ((Ov o).map .i) (Ov o).length 1∧lk X 8=.i P∧∀x∈(Ov o).take P,Pj m x=false) (N:=(Ov o).length)
  ⟨0,rfl,J,by simp,by simp,by simp,by simp⟩ ?_
 rintro N X gz gA ⟨P,rfl,hN,L,M,Q,R⟩ Nx T;by_cases F:P<(Ov o).length
 ·have V:=Xf (f:=LV.i) (Xp F);have H:=zgd F;have C:=zjj F;generalize gd (Ov o) P=x at *;obtain⟨x0,xr⟩:=Y x C;obtain⟨O,rfl⟩:=H0 x0;have D:O<r:=J
  have A:(m.map LV.bool)[O]?=some (.bool (Pj m (O:Int))):=by simp[Pj,hm,D]
  cases B:Pj m (O:Int) with
  |true =>
   rw[B]at A;rw[show (Ov o).any (Pj m)=true from Jc.2 ⟨_,C,B⟩]at g;subst g;simp[L,M,Q,F,Nd V,D,Nd A]
  |false =>
   rw[B]at A;simp[L,M,Q,F,Nd V,D,Nd A];refine⟨J,T _ _ _ ⟨N-1,J,P+1,rfl,J,C8,Ay,by simp,λy E=>?_⟩⟩;rw[H]at E;rcases Is.1 E with E|E
   ·exact R y E
   ·simp at E;rw[E];exact B
 ·rw[Il J]at R;have:(Ov o).any (Pj m)=false:=by rw[Lq];intro x hx;simp[R x hx]
  rw[this]at g;subst g;simp[L,M,Q,F]
def zgc(l:List Bool):dats (l.map .bool)=true:=by induction l<;>simp_all [dats,LV.dat]
def zj2{r:Nat}{os:List Lo}(hc:(Qp r Z os).2=0) :
  Oz 79 [.agg (Ni r Z os)] (.lst ((Yj r Z os).map .bool) r 1):=by
 obtain⟨jz,g8,jA,jB,g9,gz⟩:=z7i hc;refine Sd.mk (by simp[LV.dat,zgc]) (Nn r_ref13_Secret Aa (by simp) ?_);have gP:dats (Ni r Z os)=true:=zhs _ _ _;simp[zd2,Ni];refine Ns (z4m r Z os) (bors_self _ Bc) ?_;simp[hc];refine⟨J,?_⟩;have gA:∀o∈os,∀x∈Ng o,0≤x∧x<(r:Int):=λo ho=>(z37 (gz o ho)).2.1
 refine O8 (λT gO gM N=>∃(st n:Nat) (m:List Bool) (D:Bool),gO=[]∧N=(if D=true then n+1 else 0)∧lk T 1=.ptr 0 0∧lk T 5=.dy 1 0∧lk T 6=.bool D∧gM[0]?=some (.cells (Ni r Z os) 0)∧gM[1]?=some (.dyn (m.map .bool) r 1 0 st)∧m.length=r∧(D=true→Ue m<n)∧(if D=true then Xd Z os n m else m)=Yj r Z os) (N:=r+1+1)
  ⟨0,r+1,List.replicate r false,true,rfl,by simp,by simp,by simp,by simp,B0,by simp[repBs],by simp,λ_=>?_,by simp[Yj]⟩ ?_
 ·have:Ue (List.replicate r false)≤r:=by unfold Ue;exact I8 (List.countP_le_length) (by simp)
  omega
 rintro N T gO gM ⟨st,n,m,D,rfl,hN,G,F,I,g,j,gC,gD,hL⟩ Nx gQ;cases D with
 |false =>
  simp at hL;simp[F,I];exact⟨_,_,_,⟨rfl,rfl,rfl⟩,⟨st,by rw[j,hL]⟩,zgc _⟩
 |true =>
 simp at hN gD hL;subst hN;obtain⟨n,rfl⟩:∃k,n=k+1:=⟨n-1,J⟩;rw[Xd]at hL;simp[F,I];refine O8 (λT gO gM N=>∃(i st:Nat) (Y:List Bool) (z:Bool),gO=[]∧N+i=os.length∧lk T 1=.ptr 0 0∧lk T 5=.dy 1 0∧lk T 6=.bool z∧lk T 7=.i i∧gM[0]?=some (.cells (Ni r Z os) 0)∧gM[1]?=some (.dyn (Y.map .bool) r 1 0 st)∧Y.length=r∧cz Z (os.drop i) (Y,z)=cz Z os (m,false)) (N:=os.length)
  ⟨0,st,m,false,rfl,J,Bh,Ak,by simp,by simp,g,j,gC,by simp⟩ ?_
 clear G F I g j;rintro N T gO gM ⟨i,gE,Y,z,rfl,hN,G,F,I,K,g,j,U,H⟩ jC gF;have l0:=(Hv.1 g).1;have l1:=(Hv.1 j).1;by_cases gZ:i<os.length
 case neg =>
  rw[J0 J,cz]at H;rw[←H]at hL;have gG:=zw0 Z os (m,false) (by rw[gC];exact gA);rw[←H]at gG;have gR:¬i<os.length:=gZ;simp[G,K,g,Ni,gR];refine gQ _ _ _ ⟨if z=true then n+1 else 0,by split<;>omega,gE,n,Y,z,rfl,rfl,Bh,Ak,A0,g,j,U,λhm=>?_,by simpa using hL⟩;have:=gG.2 hm;simp at this;omega
 have ho:=zh2 gZ;have V:ko os i∈os:=Io ho;rw[zhy gZ,cz]at H;have gH:=zcl ho;have gI:=zne gZ;generalize ko os i=o at *;have hC:o.f=[.i o.kind,.i o.d,.i o.e,.i o.a,.i o.b,.i o.c,.i o.buf,.u o.imm]:=rfl;simp[G,K,g,Ni,gZ,gH,gI];refine R6 (zde o) (by simp[dats,LV.dat,hC]) ?_;simp;have gT:=gA o V;refine O8 (λT gO gM N=>∃(gg st:Nat) (E:List Bool) (B:Bool),gO=[]∧N+gg=(Ng o).length∧lk T 1=.ptr 0 0∧lk T 5=.dy 1 0∧lk T 6=.bool B∧lk T 7=.i i∧lk T 8=.lst ((Ng o).map .i) (Ng o).length 1∧lk T 9=.i gg∧gM[0]?=some (.cells (Ni r Z os) 0)∧gM[1]?=some (.dyn (E.map .bool) r 1 0 st)∧E.length=r∧mkS Z o ((Ng o).drop gg) (E,B)=mkS Z o (Ng o) (Y,z)) (N:=(Ng o).length)
  ⟨0,gE,Y,z,rfl,J,Bh,Ak,A0,Bi,by simp,by simp,g,j,U,by simp⟩ ?_
 clear G F I K g j l0 l1;rintro N3 T gO G3 ⟨gg,L,E,B,rfl,jD,G,F,I,K,h8,h9,g,j,C,A⟩ jE M;have l0:=(Hv.1 g).1;have l1:=(Hv.1 j).1;have jg:=zm9 o;by_cases X:gg<(Ng o).length
 ·have hg:=Xf (f:=LV.i) (Xp X);have gU:(Ng o).drop gg=gd (Ng o) gg::(Ng o).drop (gg+1):=by
   rw[Js X];simp[gd,Hw,X]
  have gV:=zjj X;rw[gU,mkS]at A;generalize gd (Ng o) gg=x at *;obtain⟨x0,xr⟩:=gT x gV;obtain⟨P,rfl⟩:=H0 x0;have Q:P<r:=J
  have R:(E.map LV.bool)[P]?=some (.bool (Pj E (P:Int))):=by simp[Pj,C,Q]
  cases O:Pj E (P:Int) with
  |true =>
   rw[O]at R;simp[O]at A;simp[G,F,K,h8,h9,X,Nd hg,g,j,Q,Nd R];refine⟨J,M _ _ _ ⟨N3-1,J,gg+1,L,E,B,rfl,J,Bh,Ak,A0,Bi,by simp[h8],by simp,g,j,C,A⟩⟩
  |false =>
   rw[O]at R;have gK:=zkx (os:=os) (gz o V) C;simp[G,F,K,h8,h9,X,Nd hg,g,j,Q,Nd R,Ni,gZ,gH,gI];have hb:bors G3 [.agg (Ni r Z os),.agg o.f,.dy 1 0] [.agg (Ni r Z os),.agg o.f,.lst (E.map .bool) r 1]:=⟨_,_,rfl,⟨_,rfl,bors_self _ gP⟩,_,_,rfl,⟨_,rfl,bors_self _ (by simp[hC,dats,LV.dat])⟩,_,_,rfl,⟨_,r,1,L,rfl,j,zgc _⟩,rfl⟩;refine yp gK hb rfl ?_;have e1:Oo (E.map LV.bool) P [.bool true]=(E.set P true).map LV.bool:=by
    rw[show Oo (E.map LV.bool) P [.bool true]=(E.map LV.bool).set P (.bool true) by rw[I5,H6 Ab];simp[Oo],Ji]
   cases gL:X2 Z E o with
   |false =>
    simp[O,gL]at A;simp[h9];refine⟨J,M _ _ _ ⟨N3-1,J,gg+1,L,E,B,rfl,J,Bh,Ak,A0,Bi,by simp[h8],by simp,g,j,C,A⟩⟩
   |true =>
    simp[O,gL]at A;simp[F,h8,h9,X,Nd hg,j,Q,C,e1];refine⟨J,J,M _ _ _ ⟨N3-1,J,gg+1,L+1,E.set P true,true,rfl,J,Bh,Ak,by simp,Bi,by simp[h8],by simp,?_,?_,Al,A⟩⟩
    ·rw[Hy J];exact g
    ·rw[←Ji];exact H8 l1
 ·have gY:¬gg<(Ng o).length:=X;rw[J0 J,mkS]at A;rw[←A]at H;simp[K,h8,h9,gY];refine⟨J,gF _ _ _ ⟨N-1,J,i+1,L,E,B,rfl,J,Bh,Ak,A0,by simp,g,j,C,H⟩⟩
def zd7{r:Nat}{gM:Int→Bool}(hc:(Qp r Z vY).2=0)(gD:Yh Z gM vY)(gE:∀o∈vY,qx Z gM o=true) :
  Oz 25 [.agg (Ni r Z vY)] (.tup [.i vY.length,.i 0]):=by
 obtain⟨gO,gI,gP,gQ,gK,X⟩:=z7i hc;refine Sd.mk rfl (Nn r_ref13_Check Aa (by simp) ?_);have gR:dats (Ni r Z vY)=true:=zhs _ _ _;simp[zf5,Ni];refine Ns (z4m r Z vY) (bors_self _ Bc) ?_;simp[hc];refine R6 (zj2 hc) Bc ?_;have gg:X0 (Yj r Z vY) gM:=zuv (λo ho x F=>((z37 (X o ho)).1 x F).1) (λo ho x F=>((z37 (X o ho)).2.1 x F).1) gD _ _ (X0.none _ _);have gT:(Yj r Z vY).length=r:=by unfold Yj;rw[zuk];simp
 generalize Yj r Z vY=gF at *;simp;refine O8 (λρ gU gL N=>∃i:Nat,gU=[]∧N+i=vY.length∧lk ρ 1=.ptr 0 0∧lk ρ 6=.lst (gF.map .bool) r 1∧lk ρ 7=.i i∧gL[0]?=some (.cells (Ni r Z vY) 0)) (N:=vY.length)
  ⟨0,rfl,J,by simp,by simp,by simp,B0⟩ ?_
 rintro N ρ gU gL ⟨i,rfl,hN,j,D,M,g⟩ Nx gG;have l0:=(Hv.1 g).1;by_cases gz:i<vY.length
 case neg =>
  have gH:¬i<vY.length:=gz;simp[j,M,g,Ni,gH]
 have ho:=zh2 gz;have R:ko vY i∈vY:=Io ho;have z:=zcl ho;have A:=zne gz;have hf:=X _ R;have H:=gE _ R;generalize ko vY i=o at *;have T:o.f=[.i o.kind,.i o.d,.i o.e,.i o.a,.i o.b,.i o.c,.i o.buf,.u o.imm]:=rfl;have U:∀x:List LObj,(gL++x)[0]?=some _:=λx=>(Nv l0).trans g
 obtain⟨ht,hm,hd⟩:=z37 hf;have gA:o.kind=15→0≤o.b:=λq=>(ht o.b (by unfold Ov;simp[q];split<;>simp)).1
 have H:=s8 gg gA (λq=>(hd q).1) H;have ix:∀x:Int,0≤x→x<r→∃n:Nat,x=n∧n<r∧(gF.map LV.bool)[n]?=some (.bool (Pj gF x)):=λx h0 j=>by
  obtain⟨n,rfl⟩:=H0 h0;exact ⟨n, rfl, by omega, by have : n < gF.length := by omega
                              simp[Pj,this]⟩
 have next:∀(ρ':Na) (G':M9),lk ρ' 1=.ptr 0 0→lk ρ' 6=.lst (gF.map .bool) r 1→lk ρ' 7=.i ((i:Int)+1)→G'[0]?=some (.cells (Ni r Z vY) 0)→Nx ρ' [] G':=λρ' G' a1 a6 a7 b0=>gG _ _ _ ⟨N-1,J,i+1,rfl,J,a1,a6,by rw[a7];simp,b0⟩
 have V:∀x:List LObj,(gL++x)[0]?=some (.cells (Ni r Z vY) 0):=λx=>(Nv l0).trans g
 unfold qx at H;by_cases O:o.kind=14
 ·by_cases ha:0≤o.a
  ·have I:=ht o.a (by unfold Ov;rw[Hx J,Hx J,Hx J,H6 J];simp);simp[O,Pg,ha]at H;obtain⟨n,hn,G,F⟩:=ix o.a I.1 I.2;rw[H]at F;simp[j,D,M,g,Ni,gz,z,A,T,↓U,O,hn,G,Nd F];refine⟨J,next _ _ Ah Ao (by simp) (V _)⟩
  ·simp[j,D,M,g,Ni,gz,z,A,T,↓U,O,ha];refine⟨J,next _ _ Ah Ao (by simp) (V _)⟩
 by_cases B:o.kind=15
 ·have gC:=ht o.b (by unfold Ov;simp[B];split<;>simp);obtain⟨b0,b1⟩:=m6 hf (.inr B);obtain⟨bn,P⟩:=H0 b0;rw[P]at b1;simp only[In]at b1;have q2:=zuo (Sl b1);obtain⟨nb,Q,E,C⟩:=ix o.b gC.1 gC.2;simp[B,Pg,P]at H;by_cases ha:0≤o.a
  ·have I:=ht o.a (by unfold Ov;rw[Hx J,Hx J,Hx J,Hx J,H6 J];simp);obtain⟨n,hn,G,F⟩:=ix o.a I.1 I.2;rw[H.1.resolve_left J]at F;cases Y:Pj gF o.b with
   |false =>
    rw[Y]at C;simp[j,D,M,g,Ni,gz,z,A,T,↓U,B,hn,G,Nd F,Q,E,Nd C];refine⟨J,next _ _ Ah Ao (by simp) (V _)⟩
   |true =>
    rw[Y]at C;have K:(Nw Z bn).sec=true:=by simpa [Y] using H.2
    rw[K]at q2;simp[j,D,M,g,Ni,gz,z,A,T,↓U,B,hn,G,Nd F,Q,E,Nd C,P,b1,Nd q2];refine⟨J,next _ _ Ah Ao (by simp) (V _)⟩
  ·cases Y:Pj gF o.b with
   |false =>
    rw[Y]at C;simp[j,D,M,g,Ni,gz,z,A,T,↓U,B,ha,Q,E,Nd C];refine⟨J,next _ _ Ah Ao (by simp) (V _)⟩
   |true =>
    rw[Y]at C;have K:(Nw Z bn).sec=true:=by simpa [Y] using H.2
    rw[K]at q2;simp[j,D,M,g,Ni,gz,z,A,T,↓U,B,ha,Q,E,Nd C,P,b1,Nd q2];refine⟨J,next _ _ Ah Ao (by simp) (V _)⟩
 by_cases L:o.kind=16
 ·obtain⟨n,hn,G,F⟩:=ix o.d (hd L).1 (hd L).2;simp[L,Pg]at H;rw[H]at F;simp[j,D,M,g,Ni,gz,z,A,T,↓U,L,hn,G,Nd F];refine⟨J,next _ _ Ah Ao (by simp) (V _)⟩
 ·simp[j,D,M,g,Ni,gz,z,A,T,↓U,O,B,L];refine⟨J,next _ _ Ah Ao (by simp) (V _)⟩
def z52:LC:=(.q [.F 4] (.seq (.q [.m 6 0,.s 7 6,.m 8 1,.s 9 8,.c 10 .neq 3 7 9] (.cond (.t 10) (.q [.F 4] .ret) .skip)) (.seq (.q [.K 5 0] (.block 0 (.loop (.seq (.q [.m 11 5,.m 12 0,.s 13 12,.c 14 .lss 3 11 13] (.cond (.t 14) .skip (.exit 0))) (.seq (.block 1 (.seq (.draw [(.m 17 0,[]),(.m 18 5,[]),(.I 19 2 17 18,[]),(.L 20 2 19,[]),(.m 21 1,[]),(.m 22 5,[]),(.I 23 2 21 22,[]),(.L 24 2 23,[]),(.c 25 .neq 107 20 24,[])]) (.cond (.t 25) (.q [.F 4] .ret) .skip))) (.ops [.m 15 5,.b 16 .add 3 15 1,.m 5 16])))))) (.q [.z 4 (.move .T)] .ret))))
def g:Nm Tryz.prog 64=some ⟨26,z52.r,[.tmp 4]⟩:=Aa
def cr:List (Option Bool)→Option Bool
 |[]=>some true
 |o::l=>match o with
  |some true=>cr l
  |some false=>some false
  |none=>none
def g:∀l:List Bool,cr (l.map some)=some (l.all id)
 |[]=>rfl
 |true::l=>by rw[Kk,cr,g l];rfl
 |false::l=>rfl
def evEq(a b d e:Int):Sa Tryz.prog false 107 (.agg [.int .i64 a,.int .i64 b]) (.agg [.int .i64 d,.int .i64 e])=cr [some (de a d),some (de b e)]:=Aa
def evEq2(a b:Int):Sa Tryz.prog false 107 (.agg (toAs [.i a,.i b])) (.agg (toAs [.i a,.i b]))=some true:=by
 have h:=evEq a b a b;have e:[some (de a a),some (de b b)]=[de a a,de b b].map some:=rfl;rw[e,g]at h;refine Eq.trans h ?_;simp only[z84,Ki,List.all_nil,Bool.and_true,id];simp
def ev_two{l:List (Int×Int)}{i:Nat}{e:Int×Int}(h:l[i]?=some e):((Tz l).drop (i*2)).take 2=[.i e.1,.i e.2]:=zbf (f:=λe:Int×Int=>[LV.i e.1,.i e.2]) (λ_=>rfl) h
def ev_lt{l:List (Int×Int)}{i:Nat}(h:i<l.length):i*2+2≤(Tz l).length:=zu0 (f:=λe:Int×Int=>[LV.i e.1,.i e.2]) (λ_=>rfl) h
def fv(l:List (Int×Int))(I:l.length≤9000000000000000000):Nj 64 [.lst (Tz l) l.length 2,.lst (Tz l) l.length 2] (.bool true) []:=by
 refine Od.val rfl (Nn g Aa (by simp) ?_);simp[z52];refine O8 (λC H K N=>∃i:Nat,H=[]∧N+i=l.length∧lk C 0=.lst (Tz l) l.length 2∧lk C 1=.lst (Tz l) l.length 2∧lk C 5=.i i) (N:=l.length) ⟨0,by simp⟩ ?_;rintro N C H K ⟨i,rfl,L,j,z,A⟩ M B;by_cases D:i<l.length
 ·have E:=H7 D;have F:=ev_two E;have G:=ev_lt D;simp[j,z,A,D,F,G];refine⟨_,rfl,rfl,evEq2 _ _,?_⟩;simp[A];exact⟨J,B _ _ _ ⟨N-1,J,i+1,rfl,J,Ah,Ae,by simp⟩⟩
 ·simp[j,z,A,D]
def z5c:LC:=(.q [.x 7 1,.F 12] (.q [.m 30 0,.m 31 3,.W 32 19 30 31,.z 13 (.alloc [.nilSl,.nilSl,(.i 0),(.i 0),(.i 0),(.i 0),(.i 0),(.i 0)]),.S 8 13 32] (.q [.L 33 8 13,.m 34 2,.m 35 4,.V 36 24 33 34 35,.z 14 (.alloc [(.i 0),.nilSl,.nilSl]),.S 3 14 36] (.q [.L 38 3 14,.w 39 25 38,.m 37 39,.X 40 0 37,.X 41 1 37,.m 15 40,.m 16 41] (.seq (.q [.m 42 16,.b 43 .neq 35 42 0,.m 44 43,.mn 45 44 2,.mn 46 44 4,.mn 47 44 0,.n 48 44 (.loadN 7 (.t 7)),.n 49 44 (.w 61 [.t 47,.t 48]),.n 50 44 (.w 60 [.t 45,.t 46,.t 49]),.n 51 44 (.un .not (.t 50)),.p 52 44 51] (.cond (.t 52) (.q [.F 12] .ret) .skip)) (.q [.L 53 8 13,.m 54 5,.W 55 62 53 54,.m 17 55] (.seq (.q [.f 56 5 7,.l 57 56,.b 58 .geq 3 57 0,.m 59 58,.my 60 59 5,.y 61 59 (.lenSl (.t 60)),.y 62 59 (.bin .gtr true 3 (.t 61) (.k 0)),.q 63 59 62] (.cond (.t 63) (.draw [(.m 64 17,[]),(.f 65 5 7,[]),(.l 66 65,[]),(.I 67 1 64 66,[]),(.l 68 67,[]),(.m 69 17,[]),(.f 70 5 7,[]),(.l 71 70,[]),(.I 72 1 69 71,[]),(.l 73 72,[]),(.z 74 (.ixAddr 1 (.t 73) (.k 0)),[]),(.l 75 74,[]),(.m 76 5,[]),(.z 77 (.ixAddr 1 (.t 76) (.k 0)),[]),(.l 78 77,[]),(.u 79 .and 23 78 1,[]),(.c 80 .or 23 75 79,[]),(.z 81 (.ixAddr 1 (.t 68) (.k 0)),[]),(.S 1 81 80,[])]) .skip)) (.seq (.q [.K 18 0] (.block 0 (.loop (.seq (.q [.m 82 18,.b 83 .lss 3 82 2,.m 84 83,.my 85 84 5,.y 86 84 (.lenSl (.t 85)),.y 87 84 (.bin .gtr true 3 (.t 86) (.k 1)),.q 88 84 87,.m 89 88,.my 90 89 5,.y 91 89 (.ixAddr 1 (.t 90) (.k 1)),.yl 92 89 91,.y 93 89 (.bin .rem true 23 (.t 92) (.c (.u 2))),.y 94 89 (.bin .eql true 23 (.t 93) (.c (.u 0))),.q 95 89 94] (.cond (.t 95) .skip (.exit 0))) (.seq (.block 1 (.ops [.m 98 0,.L 99 7 7,.m 100 17,.V 101 63 98 99 100])) (.ops [.m 96 18,.b 97 .add 3 96 1,.m 18 97])))))) (.q [.L 103 3 14,.m 104 17,.W 105 29 103 104,.m 102 105,.X 106 0 102,.X 107 1 102,.X 108 2 102,.m 19 106,.m 20 107,.m 21 108] (.seq (.draw [(.L 110 3 14,[]),(.L 111 8 13,[]),(.z 112 (.w 62 [.t 111,(.c .nilSl)]),[(.L 110 3 14,false)]),(.W 113 29 110 112,[]),(.m 109 113,[]),(.X 114 0 109,[]),(.X 115 1 109,[]),(.X 116 2 109,[]),(.m 22 114,[]),(.m 23 115,[]),(.m 24 116,[])]) (.seq (.q [.m 117 21,.b 118 .neq 35 117 0,.m 119 118,.mn 120 119 24,.nb 121 119 .neq 35 120 0,.p 122 119 121,.m 123 122,.mn 124 123 22,.n 125 123 (.lenSl (.t 124)),.mn 126 123 19,.n 127 123 (.lenSl (.t 126)),.n 128 123 (.bin .neq false 3 (.t 125) (.t 127)),.p 129 123 128,.m 130 129,.mn 131 130 20,.mn 132 130 23,.n 133 130 (.w 64 [.t 131,.t 132]),.n 134 130 (.un .not (.t 133)),.p 135 130 134] (.cond (.t 135) (.q [.F 12] .ret) .skip)) (.q [.m 137 0,.L 138 7 7,.m 139 17,.V 140 65 137 138 139,.m 136 140,.X 141 0 136,.X 142 1 136,.X 143 2 136,.m 25 141,.m 26 142,.m 27 143] (.q [.K 28 1] (.seq (.q [.m 144 0,.L 145 7 7,.W 146 61 144 145] (.cond (.t 146) (.ops [.K 28 0]) .skip)) (.seq (.q [.K 29 0] (.block 2 (.loop (.seq (.q [.m 147 29,.m 148 19,.s 149 148,.c 150 .lss 3 147 149] (.cond (.t 150) .skip (.exit 2))) (.seq (.block 3 (.block 4 (.q [.m 154 29,.f 155 1 7,.l 156 155,.c 157 .eql 3 154 156,.m 153 157] (.cond (.t 153) (.q [.m 158 27,.m 159 158,.my 160 159 19,.my 161 159 29,.y 162 159 (.ixAddr 1 (.t 160) (.t 161)),.yl 163 159 162,.my 164 159 25,.y 165 159 (.w 66 [.t 163,.t 164]),.y 166 159 (.bin .neq true 3 (.t 165) (.k 0)),.q 167 159 166] (.cond (.t 167) (.q [.F 12] .ret) .skip)) (.q [.m 169 29,.f 170 2 7,.l 171 170,.c 172 .eql 3 169 171,.m 168 172] (.cond (.t 168) (.q [.m 173 27,.m 174 173,.my 175 174 19,.my 176 174 29,.y 177 174 (.ixAddr 1 (.t 175) (.t 176)),.yl 178 174 177,.my 179 174 26,.y 180 174 (.w 66 [.t 178,.t 179]),.y 181 174 (.bin .neq true 3 (.t 180) (.k 0)),.q 182 174 181] (.cond (.t 182) (.q [.F 12] .ret) .skip)) (.q [.m 184 29,.m 185 0,.s 186 185,.m 187 28,.c 188 .add 3 186 187,.c 189 .eql 3 184 188,.m 183 189] (.cond (.t 183) .skip (.seq (.draw [(.m 191 19,[]),(.m 192 29,[]),(.I 193 1 191 192,[]),(.l 194 193,[]),(.m 195 17,[]),(.m 196 29,[]),(.I 197 1 195 196,[]),(.l 198 197,[]),(.W 199 53 194 198,[]),(.z 200 (.un .not (.t 199)),[]),(.m 190 200,[])]) (.cond (.t 190) (.q [.F 12] .ret) .skip)))))))))) (.ops [.m 151 29,.b 152 .add 3 151 1,.m 29 152])))))) (.q [.z 12 (.move .T)] .ret))))))))))))))))
def g:Nm Tryz.prog 20=some ⟨201,z5c.r,[.tmp 12]⟩:=Aa
def qw(l:List (Int×Int)):dats (Tz l)=true:=zw (f:=λe:Int×Int=>[LV.i e.1,.i e.2]) (λ_=>rfl) l
def zvh{vs:List Vr}{o:Ko}{d a b c:Nat}(h:MtV vs o d a b c):1≤Nt vs o∧Nt vs o≤32768:=by
 have g:=Tp h.hv h.fd.2;have hw:=z7k h;omega
def zwt{vs:List Vr}{o:Ko}{d a b c:Nat}(h:MtV vs o d a b c){i:Nat}(hi:i<vs.length+2):(Nw (N0 vs (Nt vs o)) i).size≤1000:=by
 have hd:=Tp h.hv h.fd.2;have hw:=z7k h;by_cases q:i<vs.length
 ·rw[Up q];have:=Tp h.hv q;show (gv vs i).limbs≤1000;omega
 ·have e:i=vs.length∨i=vs.length+1:=J
  rcases e with rfl|rfl
  ·rw[plB_w0];simp only;omega
  ·rw[plB_w1];simp only;omega
def sd{vs:List Vr}{o:Ko}{d a b c:Nat}{X:List (List UInt64)}(h:MtV vs o d a b c)(T:X.length=vs.length+2)(C:∀i,i<vs.length+2→((X.getD i []).length:Int)=(Nw (N0 vs (Nt vs o)) i).size)
  (O:(X.getD c []).getD 0 0%2=1→val (X.getD a [])<val (X.getD c [])→val Y<val (X.getD c [])∧val Y=val (Wc (Nu (val (X.getD a [])*val (X.getD b []))) (X.getD c []) (gv vs d).limbs)) (hm:Vp o ((X.take vs.length).map val)=true):val Y=val (mtL vs o X):=by
 obtain⟨L,P⟩:=h.fa;obtain⟨Q,U⟩:=h.fb;obtain⟨j,D⟩:=h.fc;obtain⟨R,V⟩:=h.fd;have E:∀i,i<vs.length→gN ((X.take vs.length).map val) (i:Int)=val (X.getD i []):=λi hi=>by
  unfold gN;rw[Hx J,In,Hw,Jz,Ju hi,Hw,H7 J];rfl
 have F:=hm;unfold Vp Xy at hm;rw[h.hk,L,j]at hm;simp[Xt]at hm;obtain⟨⟨_,z⟩,⟨_,_,A⟩,_⟩:=hm;rw[←Lw,E c D]at z;rw[←Lw,E a P,E c D]at A;have B:(X.getD c []).getD 0 0%2=1:=by
  have h:=zn2 (X.getD c []);have M:Rk (X.getD c [])=true:=by
   rw[h,Nat.testBit_zero];exact Jj z
  unfold Rk at M;exact Kl M
 obtain⟨G,hv⟩:=O B A;have g:=C c J;rw[Up D]at g;have g:((X.getD c []).length:Int)=(gv vs c).limbs:=g;have H:Pl vs o.d=(gv vs d).limbs:=by rw[Pl,R];rfl
 have I:Pl vs o.c=(gv vs d).limbs:=by rw[Pl,j,←h.lc];rfl
 have K:=d6 (a:=X.getD c []) (n:=(gv vs d).limbs.toNat) (by rw[←h.lc];omega);unfold mtL;rw[H6 F,L,Q,j,H,←j,I,j];simp only[In];rw[Sg,←hv,yi,Iw (Nat.lt_trans G K)]
def zqy{vs:List Vr}{o:Ko}{d a b c deep:Nat}(h:MtV vs o d a b c)(hd:deep≤4)(j:(Qp ((64:Nat):Int) (N0 vs (Nt vs o)) (Td vs d a b c deep).flat).2=0) :
  Oz 25 [.agg (Ni ((64:Nat):Int) (N0 vs (Nt vs o)) (Td vs d a b c deep).flat)] (.tup [.i (Td vs d a b c deep).flat.length,.i 0]):=by
 have g:=allH_flat (zyg h hd);have A:=C (vs:=vs) (d:=d) (a:=a) (b:=b) (c:=c);have hw:=zw4 (vs:=vs) (W:=Nt vs o) (d:=d);cases B:(gv vs d).sec with
 |true =>
  have E:∀n,(bh vs d a b c).S n→(Nw (N0 vs (Nt vs o)) n).sec=true:=λn D=>by
   rcases D with rfl|rfl
   ·rw[Up h.fd.2];exact B
   ·rw[hw];exact B
  exact zd7 j (λx z=>(g x z).closedS A ((z7i j).2.2.2.2.2 x z)) (λx z=>(g x z).safeS A E)
 |false =>
  obtain⟨F,G,H⟩:=h.sec B;have I:∀n,(bh vs d a b c).L n→(Nw (N0 vs (Nt vs o)) n).sec=false:=λn D=>by
   rcases D with rfl|rfl|rfl|rfl|rfl
   ·rw[Up h.fd.2];exact B
   ·rw[Up h.fa.2];exact F
   ·rw[Up h.fb.2];exact G
   ·rw[Up h.fc.2];exact H
   ·rw[hw];exact B
  exact zd7 j (λx z=>(g x z).closedP I) (λx _=>safeP)
def sg{vs:List Vr}{o:Ko}{d a b c:Nat}{deep:Nat}(h:MtV vs o d a b c)(hd:deep≤4):∀x∈(jv vs d a b c deep).flat,(∀r∈[x.d,x.e,x.a,x.b,x.c],Uk deep (!(gv vs d).sec) r)∧((0≤x.d∧x.d<8)↔x.kind=16):=by
 refine ze (am (lo:=(deep:Int)) h (Int.le_refl _) hd) J rfl rfl (by simp[bh]) ?_;simp only[bh];cases (gv vs d).sec<;>simp
set_option maxHeartbeats 2000000 in
def zlb{vs:List Vr}{o:Ko}{d a b c deep:Nat}{fill:List UInt64}(h:MtV vs o d a b c)(hn:vs.length≤30)(j4:(gv vs d).limbs≤6)(hd:deep≤4)(zZ:fill.length≤40) :
  Nj 20 [.lst (Ob vs) vs.length 3,.agg o.f,.lst (Qu (jv vs d a b c deep).flat) (jv vs d a b c deep).flat.length 8,.i (Nt vs o),.i deep,LU fill] (.bool true) []:=by
 refine Od.val rfl (zwd gF Aa (by simp) ?_);have Y:o.f=[.i o.kind,.i o.d,.i o.e,.i o.a,.i o.b,.i o.c,.u o.imm]:=rfl;have j5:=zvh h;have K:(N0 vs (Nt vs o)).length=vs.length+2:=plB_len;have j6:=zzm (vs:=vs) (d:=d) (a:=a) (b:=b) (c:=c) (e:=deep);have gY:Oz 19 [.lst (Ob vs) vs.length 3,.i (Nt vs o)] (.agg (Qe (N0 vs (Nt vs o)) (Sq vs) ⟨vs.length,0,Nt vs o⟩ ⟨(vs.length:Int)+1,0,Nt vs o⟩)):=zgx vs (Nt vs o) J;have gZ:Qe (N0 vs (Nt vs o)) (Sq vs) ⟨vs.length,0,Nt vs o⟩ ⟨(vs.length:Int)+1,0,Nt vs o⟩=[.lst (P7 (N0 vs (Nt vs o))) (N0 vs (Nt vs o)).length 3,.lst (Wo (Sq vs)) (Sq vs).length 3,.i vs.length,.i 0,.i (Nt vs o),.i ((vs.length:Int)+1),.i 0,.i (Nt vs o)]:=rfl;have jI:(Td vs d a b c deep).flat=P8 deep 0++((jv vs d a b c deep).flat++List.replicate deep Tj):=aa vs d a b c deep;have gG:Ni ((64:Nat):Int) (N0 vs (Nt vs o)) (Td vs d a b c deep).flat=[.i 64,.lst (P7 (N0 vs (Nt vs o))) (N0 vs (Nt vs o)).length 3,.lst (Qu (Td vs d a b c deep).flat) (Td vs d a b c deep).flat.length 8]:=rfl;have gQ:=zo1 (W:=Nt vs o) h.hv j5;refine ax (Φ:=λQ jF O=>∃(X:List (List UInt64)) (p j st q sq:Nat),X.length=vs.length+2∧(∀i,i<vs.length+2→((X.getD i []).length:Int)=(Nw (N0 vs (Nt vs o)) i).size)∧jF=[]∧lk Q 0=.lst (Ob vs) vs.length 3∧lk Q 5=LU fill∧lk Q 7=.ptr 0 0∧lk Q 13=.ptr 1 0∧lk Q 14=.ptr 2 0∧lk Q 17=.dy p j∧3≤p∧3≤q∧p≠q∧3≤O.length ∧
   O[0]?=some (.cells o.f 0)∧O[1]?=some (.cells (Qe (N0 vs (Nt vs o)) (Sq vs) ⟨vs.length,0,Nt vs o⟩ ⟨(vs.length:Int)+1,0,Nt vs o⟩) 1)∧O[2]?=some (.cells (Ni ((64:Nat):Int) (N0 vs (Nt vs o)) (Td vs d a b c deep).flat) 1)∧O[p]?=some (.dyn ((X.map LU).set c (.dy q 0)) X.length 1 j st)∧O[q]?=some (.dyn ((X.getD c []).map .u) (X.getD c []).length 1 0 sq)) 6 _ rfl (λNX gC=>?_) (λQ jF O hΦ=>?_)
 ·simp[z5c,X9,Y];rw[←Y];refine R6 gY Ba ?_;simp[gZ];have jK:=zhd (bs:=N0 vs (Nt vs o)) (P:=.lst (Wo (Sq vs)) (Sq vs).length 3) (W:=[.i vs.length,.i 0,.i (Nt vs o),.i ((vs.length:Int)+1),.i 0,.i (Nt vs o)]) (L:=(jv vs d a b c deep).flat) (deep:=deep) J J ⟨_,_,_,_,_,_,rfl⟩;rw[←jI]at jK;refine R6 jK (by simp[dats,LV.dat,Ud,T9,zfh]) ?_;rw[gG];simp;have zU:(Td vs d a b c deep).flat.length≤65536:=by
   have h2:(P8 deep 0).length=deep:=lpsL_len' deep 0;rw[jI];simp[h2];omega
  have j7:=az h hn hd;have hC:Oz 25 [.agg (Ni ((64:Nat):Int) (N0 vs (Nt vs o)) (Td vs d a b c deep).flat)] (.tup [.i (Td vs d a b c deep).flat.length,.i 0]):=zqy h hd j7;rw[gG]at hC;refine R6 hC (by simp[dats,LV.dat,Ud,T9]) ?_;simp[Y];rw[←Y];refine Ns (zc5 vs o) (bors_self _ (by simp[dats,LV.dat,Ro,Y])) ?_;rw[ag h];simp;refine Ns (zel (jv vs d a b c deep).flat deep (!(gv vs d).sec) J J (sg h hd)) (bors_self _ (by simp[dats,LV.dat,Ud])) ?_;simp[LU];refine pi c (by rw[K];have:=h.fc.2;omega) (λx hx=>by have:=gQ x hx;omega) (by rw[K];omega) J (λX p j st q sq O hX A H hp hq gH M V=>?_);rw[K]at hX A;simp at hp hq H;have z:=H 0 J;have gD:=H 1 J;have gE:=H 2 J;simp at z gD gE;have j8:=(Hv.1 V).1;have j9:((X.getD c []).length:Int)=(gv vs c).limbs:=by
   have:=A c F7;rw[Up h.fc.2]at this;exact this
  have Ag:=Tp h.hv h.fc.2;have I:c<X.length:=F7
  have jL:((X.map LU).set c (.dy q 0))[c]?=some (.dy q 0):=H8 Dm;have gR:=z;rw[Y,h.fc.1]at z;by_cases g8:fill=[]
  ·subst g8;simp[z];exact gC _ _ _ ⟨X,p,j,st,q,sq,hX,A,rfl,by simp,by simp[LU],by simp,by simp,by simp,by simp,hp,hq,gH,J,gR,gD,gE,M,V⟩
  have zg:0<fill.length:=Lu.2 g8;have Aj:¬fill.length=0:=J
  have xc:X[c]=X.getD c []:=by simp[Hw,I]
  have jM:X[c]?.getD []=X.getD c []:=by simp[Hw]
  obtain⟨zV,hC⟩:∃zV,X.getD c []=zV:=⟨_,rfl⟩;rw[hC]at V j9 xc jM;have j6:1≤zV.length:=J
  simp[z,M,V,zg,g8,I,Nd jL,xc,jM];refine⟨J,J,gC _ _ _ ⟨X.set c (i5 (zV[0]?.getD 0) (Rr fill[0] 1)::zV.tail),p,j,st,q,sq+1,by simp[hX],λi hi=>?_,rfl,by simp,by simp[LU],by simp,by simp,by simp,by simp,hp,hq,gH,Ab,?_,?_,?_,?_,?_⟩⟩
  ·rw[Wn _ _ _ _ _ I];by_cases e:i=c
   ·rw[H6 e,e,Up h.fc.2];show _=(gv vs c).limbs;rw[Ih,List.length_tail];omega
   ·rw[Hx e];exact A i hi
  ·rw[Hy J];exact gR
  ·rw[Hy J];exact gD
  ·rw[Hy J];exact gE
  ·rw[Hy J,M];simp[Ji]
  ·rw[H8 j8,Wn _ _ _ _ _ I,H6 rfl];simp;omega
 obtain⟨X,p,j,st,q,sq,hX,A,rfl,D,h5,E,B,C,g,hp,hq,gH,g9,z,gD,gE,M,V⟩:=hΦ;have lp:=(Hv.1 M).1;have lq:=(Hv.1 V).1;have I:c<X.length:=F7
 have jO:(X.map LU).take c++LU (X.getD c [])::(X.map LU).drop (c+1)=X.map LU:=by
  have:=I5 (l:=X.map LU) (i:=c) (a:=LU (X.getD c []));rw[H6 Dm]at this;rw[←this];refine Mc λjZ=>?_
  rw[Mb];by_cases e:c=jZ
  ·subst e;rw[H6 rfl,H6 Dm,ziz I]
  ·rw[Hx e]
 refine W_fzD (a:=(X.map LU).take c) (b:=(X.map LU).drop (c+1)) (p:=q) (q:=p) V (by rw[M,I5,H6 Dm]) (Ne.symm gH) ?_;have k0:((O.set q (.dead (sq+1))).set p (.dyn ((X.map LU).take c++LU (X.getD c [])::(X.map LU).drop (c+1)) X.length 1 j (st+1)))[0]?=_:=(Hy J).trans ((Hy J).trans z);have k1:((O.set q (.dead (sq+1))).set p (.dyn ((X.map LU).take c++LU (X.getD c [])::(X.map LU).drop (c+1)) X.length 1 j (st+1)))[1]?=_:=(Hy J).trans ((Hy J).trans gD);have k2:((O.set q (.dead (sq+1))).set p (.dyn ((X.map LU).take c++LU (X.getD c [])::(X.map LU).drop (c+1)) X.length 1 j (st+1)))[2]?=_:=(Hy J).trans ((Hy J).trans gE);have kp:((O.set q (.dead (sq+1))).set p (.dyn ((X.map LU).take c++LU (X.getD c [])::(X.map LU).drop (c+1)) X.length 1 j (st+1)))[p]?=some (.dyn (X.map LU) X.length 1 j (st+1)):=by
  rw[H8 (by simpa using lp),jO]
 have kl:3≤((O.set q (.dead (sq+1))).set p (.dyn ((X.map LU).take c++LU (X.getD c [])::(X.map LU).drop (c+1)) X.length 1 j (st+1))).length:=by simpa using g9
 have gT:LV.lst ((X.getD c []).map .u) (X.getD c []).length 1=LU (X.getD c []):=rfl;rw[gT];generalize (O.set q (.dead (sq+1))).set p (.dyn ((X.map LU).take c++LU (X.getD c [])::(X.map LU).drop (c+1)) X.length 1 j (st+1))=O at *;clear M V jO z gD gE g9 lp lq gT;generalize st+1=st at *;refine ax (Φ:=λQ jF O=>∃(X:List (List UInt64)) (st:Nat),X.length=vs.length+2∧(∀i,i<vs.length+2→((X.getD i []).length:Int)=(Nw (N0 vs (Nt vs o)) i).size)∧jF=[]∧lk Q 0=.lst (Ob vs) vs.length 3∧lk Q 7=.ptr 0 0∧lk Q 13=.ptr 1 0∧lk Q 14=.ptr 2 0∧lk Q 17=.dy p j∧3≤O.length ∧
   O[0]?=some (.cells o.f 0)∧O[1]?=some (.cells (Qe (N0 vs (Nt vs o)) (Sq vs) ⟨vs.length,0,Nt vs o⟩ ⟨(vs.length:Int)+1,0,Nt vs o⟩) 1)∧O[2]?=some (.cells (Ni ((64:Nat):Int) (N0 vs (Nt vs o)) (Td vs d a b c deep).flat) 1)∧O[p]?=some (.dyn (X.map LU) X.length 1 j st)) 0 _ rfl (λNX gC=>?_) (λQ jF O hΦ=>?_)
 ·simp[z5c,X9,D,h5,E,B,C,g];refine O8 (λQ jF O N=>∃(i:Nat) (X:List (List UInt64)) (st:Nat),N+i=2∧X.length=vs.length+2∧(∀i,i<vs.length+2→((X.getD i []).length:Int)=(Nw (N0 vs (Nt vs o)) i).size)∧jF=[]∧lk Q 0=.lst (Ob vs) vs.length 3∧lk Q 5=LU fill∧lk Q 7=.ptr 0 0∧lk Q 13=.ptr 1 0∧lk Q 14=.ptr 2 0∧lk Q 17=.dy p j∧lk Q 18=.i i∧3≤O.length ∧
   O[0]?=some (.cells o.f 0)∧O[1]?=some (.cells (Qe (N0 vs (Nt vs o)) (Sq vs) ⟨vs.length,0,Nt vs o⟩ ⟨(vs.length:Int)+1,0,Nt vs o⟩) 1)∧O[2]?=some (.cells (Ni ((64:Nat):Int) (N0 vs (Nt vs o)) (Td vs d a b c deep).flat) 1)∧O[p]?=some (.dyn (X.map LU) X.length 1 j st)) (N:=2)
   ⟨0,X,st,rfl,hX,A,rfl,Ao,by simp[h5],Af,An,Al,Av,by simp,kl,k0,k1,k2,kp⟩ ?_
  clear I hX A D h5 E B C g kl k0 k1 k2 kp;rintro N Q jF O ⟨i,X,st,hN,hX,A,rfl,D,h5,E,B,C,g,gM,kl,k0,k1,k2,kp⟩ Nx jg;have Az:((i:Int)<2)↔i<2:=J
  have step:i<2→(1:Int)<fill.length→Pm (.fn 63) [.lst (Ob vs) vs.length 3,.agg o.f,.dy p j] O λv G'=>∀G,lk G 0=.lst (Ob vs) vs.length 3→lk G 5=LU fill→lk G 7=.ptr 0 0→lk G 13=.ptr 1 0→lk G 14=.ptr 2 0→lk G 17=.dy p j→lk G 18=.i ((i:Int)+1)→Nx G [] G':=λhi _=>by
   refine zhl (vs:=vs) (o:=o) (X:=X) (a:=a) (b:=b) (c:=c) J h.fa.1 h.fb.1 h.fc.1 h.fa.2 h.fb.2 h.fc.2 (by rw[h.hk];decide) (h.la.trans h.lc.symm) (.inr (h.lb.trans h.lc.symm)) ⟨(Tp h.hv h.fc.2).1,by rw[h.lc];omega⟩ (λjZ hj=>?_) kp (λzj zz G' hY jz M H g9 G e0 e5 e7 jA jB gI zA=>?_)
   ·have:=A jZ J;rw[Up hj]at this;exact this
   ·exact jg _ _ _ ⟨N-1,J,i+1,zj,zz,J,J,λjZ hj=>by rw[jz];exact A jZ hj,rfl,e0,e5,e7,jA,jB,gI,by rw[zA];simp,J,(H 0 J J).trans k0,(H 1 J J).trans k1,(H 2 J J).trans k2,by rw[M,hY]⟩
  have done:∀G,lk G 0=.lst (Ob vs) vs.length 3→lk G 7=.ptr 0 0→lk G 13=.ptr 1 0→lk G 14=.ptr 2 0→lk G 17=.dy p j→NX G [] O:=λG e0 e7 jA jB gI=>gC _ _ _ ⟨X,st,hX,A,rfl,e0,e7,jA,jB,gI,kl,k0,k1,k2,kp⟩
  by_cases jG:i<2
  ·have g':(i:Int)<2:=J
   by_cases g2:1<fill.length
   ·have gO:(1:Int)<fill.length:=J
    simp[D,h5,E,B,C,g,gM,jG,g',g2,gO,LU,k0,Y];rw[←Y];refine⟨λ_=>((step jG gO).mono λv G' hk=>?_),λ_=>?_⟩
    ·simp[gM];exact⟨J,hk _ Ao (by simp[h5,LU]) Af An Al Av (by simp)⟩
    ·exact done _ Ao Af An Al Av
   ·have gO:¬(1:Int)<fill.length:=J
    simp[D,h5,E,B,C,g,gM,jG,g',g2,gO,LU];exact done _ Ao Af An Al Av
  ·have g':¬(i:Int)<2:=J
   simp[D,h5,E,B,C,g,gM,jG,g'];exact done _ Ao Af An Al Av
 clear I hX A D h5 E B C g kl k0 k1 k2 kp hq gH;obtain⟨X,st,hX,A,rfl,D,E,B,C,g,kl,k0,k1,k2,kp⟩:=hΦ;refine W_fz (t:=17) kp g ?_;have n0:(O.set p (.dead (st+1)))[0]?=_:=(Hy J).trans k0;have n1:(O.set p (.dead (st+1)))[1]?=_:=(Hy J).trans k1;have n2:(O.set p (.dead (st+1)))[2]?=_:=(Hy J).trans k2;have nl:3≤(O.set p (.dead (st+1))).length:=by simpa using kl
 generalize O.set p (.dead (st+1))=O at *;clear k0 k1 k2 kp kl g;have zB:zq2 (N0 vs (Nt vs o)) X:=⟨by rw[K];exact hX,λi hi=>A i J⟩;obtain⟨sX,r1,rl,r2,r3,r4,rX,rY⟩:=mr h hn j4 hd zB;have jC:LN X=.lst (X.map LU) X.length 1:=rfl;have gz:dats [LN X]=true:=Ca
 rw[gG,jC]at rX;rw[jC]at gz;simp only[dats,Bool.and_true]at gz;refine ax (Φ:=λQ jF O=>jF=[]∧lk Q 0=.lst (Ob vs) vs.length 3∧lk Q 7=.ptr 0 0∧lk Q 17=LN X∧lk Q 19=LN sX.bufs∧O[0]?=some (.cells o.f 0)) 2 _ rfl (λNX gC=>?_) (λQ jF O hΦ=>?_)
 ·rw[gG]at n2;simp[z5c,X9,D,E,B,C,n0,n1,n2];refine R6 rX (by simp[dats,LV.dat,Ud,T9,gz]) ?_;simp[B,C,n1,n2,gZ];refine zmj (args':=[.agg [.lst (P7 (N0 vs (Nt vs o))) (N0 vs (Nt vs o)).length 3,.lst (Wo (Sq vs)) (Sq vs).length 3,.i vs.length,.i 0,.i (Nt vs o),.i ((vs.length:Int)+1),.i 0,.i (Nt vs o)],.lst (([]:List UInt64).map .u) ([]:List UInt64).length 1]) (λc r ha=>?_) ?_
  ·cases ha with
   |cons e1 es=>cases es with
    |cons e2 es=>exact .cons e1 (.cons (nil_lst e2) es)
  refine qo (fill:=[]) (λx hx=>by have:=gQ x hx;omega) (by rw[K];omega) (by simp) (λzj p2 zX jP G2 hY jz H AA zY _ M=>?_) (by intro e;rw[e]at K;simp at K);have m0:=(H 0 J).trans n0;have m1:=(H 1 J).trans n1;have m2:=(H 2 J).trans n2;simp[B,C,n1,n2,m1,m2,gZ];obtain⟨sY,y1,y2,jQ⟩:=rY zj ⟨hY,jz⟩;have jR:LN zj=.lst (zj.map LU) zj.length 1:=rfl;have gK:dats [LN zj]=true:=Ca
  rw[gG,jR,←y2]at jQ;rw[jR]at gK;simp only[dats,Bool.and_true]at gK;refine zv3 (a:=[.agg [.i 64,.lst (P7 (N0 vs (Nt vs o))) (N0 vs (Nt vs o)).length 3,.lst (Qu (Td vs d a b c deep).flat) (Td vs d a b c deep).flat.length 8]]) (b:=[]) M ?_;refine R6 jQ (by simp[dats,LV.dat,Ud,T9,gK]) ?_;have zC:p2≠0:=J
  have j0:(G2.set p2 (.dead (jP+1)))[0]?=_:=(Hy zC).trans m0;generalize G2.set p2 (.dead (jP+1))=G3 at *;simp[r1,y1];refine Ns (fv sX.l J) (bors_self _ (by simp[dats,LV.dat,qw])) ?_;simp;exact gC _ _ _ ⟨rfl,Ao,Af,by simp[LN],by simp[LN,r1],j0⟩
 clear D E B C n0 n1 n2 nl;obtain⟨rfl,D,E,g,F,z⟩:=hΦ;have hM:=zlk (X:=X) h.hk h.hv h.ho J (λx hx=>by
  obtain⟨jZ,hj,rfl⟩:=List.getElem_of_mem hx;have e1:=A jZ J;have e2:=zwt h (i:=jZ) J;rw[Hw,H7 hj]at e1;simp only[Jx]at e1;omega)
 rw[jC]at hM g;refine S5 _ ?_;simp[z5c,X9,D,E,g,F,z,Y];rw[←Y];refine R6 hM (by simp[dats,LV.dat,Ro,Y,gz]) ?_;simp[D,E,z,Y];rw[←Y];refine Ns (zc5 vs o) (bors_self _ (by simp[dats,LV.dat,Ro,Y])) ?_;rw[ag h];have jT:(O4 vs d:Int)-vs.length=if (gv vs d).sec=true then 1 else 0:=by
  unfold O4;split<;>omega
 have zD:=sd h hX A r4;generalize zE:Vp o ((X.take vs.length).map val)=gP at *;have jU:Vp o (List.take vs.length (List.map val X))=gP:=by rw[←Lw];exact zE
 generalize zG:mtL vs o X=dv at *;have zH:dv.length≤1000000:=by
  have AB:=Tp h.hv h.fd.2;have zI:Pl vs o.d=(gv vs d).limbs:=by rw[Pl,h.fd.1];rfl
  rw[←zG];unfold mtL;split
  ·have hb:=(I4 (val (Wc (Nu (val (X.getD o.a.toNat [])*val (X.getD o.b.toNat []))) (X.getD o.c.toNat []) (Pl vs o.c))) (show 0<2^(64*(gv vs d).limbs.toNat) from K7 _));have:=jm hb;rw[zI,yi];omega
  ·simp
 cases hs:(gv vs d).sec
 all_goals
  simp[hs]at jT;simp[F];refine O8 (λQ jF O N=>∃i:Nat,jF=[]∧N+i=vs.length+2∧lk Q 0=.lst (Ob vs) vs.length 3∧lk Q 7=.ptr 0 0∧lk Q 17=.lst (X.map LU) X.length 1∧lk Q 19=.lst (sX.bufs.map LU) (vs.length+2) 1∧lk Q 25=LU dv∧lk Q 27=.bool gP∧lk Q 28=.i ((O4 vs d:Int)-vs.length)∧lk Q 29=.i i∧O[0]?=some (.cells o.f 0)) (N:=vs.length+2)
   ⟨0,rfl,J,Ao,Af,Av,by simp[F,LN,r1],by simp[LU],by simp[jU],by simp[jT],by simp,z⟩ ?_
  clear D E g F z;rintro N Q jF O ⟨i,rfl,hN,D,E,g,F,R,T,U,Z,z⟩ Nx jg;have nx:i<vs.length+2→∀G:Na,lk G 0=.lst (Ob vs) vs.length 3→lk G 7=.ptr 0 0→lk G 17=.lst (X.map LU) X.length 1→lk G 19=.lst (sX.bufs.map LU) (vs.length+2) 1→lk G 25=LU dv→lk G 27=.bool gP→lk G 28=.i ((O4 vs d:Int)-vs.length)→lk G 29=.i ((i:Int)+1)→Nx G [] O :=
   λhi G e0 e7 gI zK zL zM zO zP=>jg _ _ _ ⟨N-1,J,i+1,rfl,J,e0,e7,gI,zK,zL,zM,zO,by rw[zP];simp,z⟩
  rw[Y,h.fd.1,h.e]at z;by_cases jG:i<vs.length+2
  ·have g':(i:Int)<(vs.length:Int)+2:=J
   have gX:i<X.length:=J
   have gB:i<sX.bufs.length:=J
   have jV:=ziz gX;have jD:=ziz gB;have gA:=nx jG;have jX:¬(i:Int)=-1:=J
   by_cases jY:i=d
   ·subst jY;cases gP with
    |false =>
     simp[D,E,g,F,R,T,U,Z,jG,g',z];exact⟨J,gA _ Ao Af Av Ak Bl Ch Bm (by simp)⟩
    |true =>
     have gU:=zD rfl;obtain⟨jH,hO⟩:∃jH,sX.bufs.getD i []=jH:=⟨_,rfl⟩;have jE:sX.bufs[i]?.getD []=jH:=by rw[←Hw];exact hO
     rw[hO]at gU r3;simp[D,E,g,F,R,T,U,Z,jG,g',z,Nd jD,LU,jE];refine⟨J,?_⟩;refine Ns (z25 jH dv J zH) (by simp) ?_;rw[gU,zzj];simp[Z];exact⟨J,gA _ Ao Af Av Ak Bl Ch Bm (by simp)⟩
   ·have gV:¬(i:Int)=(d:Int):=J
    by_cases zQ:i=O4 vs d
    ·have gL:(i:Int)=(vs.length:Int)+((O4 vs d:Int)-vs.length):=J
     simp[D,E,g,F,R,T,U,Z,jG,g',z,gV,jX,←gL];exact⟨J,J,gA _ Ao Af Av Ak Bl Ch Bm (by simp)⟩
    ·have gL:¬(i:Int)=(vs.length:Int)+((O4 vs d:Int)-vs.length):=J
     have gg:=r2 i jG jY zQ;obtain⟨jH,hO⟩:∃jH,X.getD i []=jH:=⟨_,rfl⟩;rw[hO]at gg jV;rw[gg]at jD;have jE:sX.bufs[i]?.getD []=jH:=by rw[←Hw];exact gg
     have zR:X[i]?.getD []=jH:=by rw[←Hw];exact hO
     have zT:jH.length≤1000000000:=by
      have:=A i jG;have:=zwt h jG;rw[hO]at *;omega
     simp[D,E,g,F,R,T,U,Z,jG,g',z,gV,jX,gL,Nd jD,Nd jV,jE,zR];refine⟨J,J,J,?_⟩;refine Ns (zu7 jH jH zT) (by simp) ?_;simp[Z];exact⟨J,gA _ Ao Af Av Ak Bl Ch Bm (by simp)⟩
  ·have g':¬(i:Int)<(vs.length:Int)+2:=J
   simp[D,E,g,F,R,T,U,Z,jG,g']
def gg:Tryz.prog.follows .mixedOrders=true:=Aa
def g:runA Tryz.prog noO 10000 13=true:=Aa
def j:Nj 13 [] (.bool true) []:=Od.lives ⟨Aa,Aa⟩ Aa (zx2 z g)
def z8x:LC:=(.q [.e 2] (.q [.z 3 (.buildSl 3 0 [] []),.m 4 0,.a 5 3 3 4,.m 2 5] .ret))
def g:Nm Tryz.prog 14=some ⟨6,z8x.r,[.tmp 2]⟩:=Aa
def z3b:LC:=(.q [.x 5 1,.F 8] (.seq (.q [.z 14 (.w 13 []),.z 15 (.un .not (.t 14))] (.cond (.t 15) (.q [.F 8] .ret) .skip)) (.seq (.q [.m 16 0,.s 17 16,.b 18 .gtr 3 17 12,.m 19 18,.mn 20 19 3,.n 21 19 (.lenSl (.t 20)),.nb 22 19 .gtr 3 21 40,.p 23 19 22] (.cond (.t 23) (.q [.z 8 (.move .T)] .ret) .skip)) (.q [.m 24 0,.w 25 14 24,.m 0 25] (.q [.K 9 0] (.seq (.q [.K 10 0] (.block 0 (.loop (.seq (.q [.m 26 10,.m 27 0,.s 28 27,.c 29 .lss 3 26 28] (.cond (.t 29) .skip (.exit 0))) (.seq (.block 1 (.q [.m 32 0,.m 33 10,.I 34 3 32 33,.f 35 2 34,.v (.store 1 (.t 35) (.k 0))] (.ops [.m 36 9,.m 37 0,.m 38 10,.I 39 3 37 38,.f 40 0 39,.l 41 40,.z 42 (.maxi true (.t 36) (.t 41)),.m 9 42]))) (.ops [.m 30 10,.b 31 .add 3 30 1,.m 10 31])))))) (.q [.m 43 0,.L 44 7 5,.W 45 15 43 44,.m 11 45] (.seq (.q [.m 46 0,.L 47 7 5,.W 48 16 46 47,.z 49 (.un .not (.t 48)),.m 50 49,.nf 51 50 0 5,.nl 52 50 51,.nb 53 50 .neq 3 52 12,.p 54 50 53] (.cond (.t 54) (.q [.m 55 11,.b 56 .eql 3 55 0,.m 8 56] .ret) .skip)) (.seq (.q [.m 57 9,.b 58 .gtr 3 57 6] (.cond (.t 58) (.q [.z 8 (.move .T)] .ret) .skip)) (.q [.m 59 2,.z 60 (.w 17 [.t 59,.k 5]),.m 2 60] (.seq (.q [.m 61 11,.b 62 .lss 3 61 1,.m 63 62,.mn 64 63 11,.mn 65 63 9,.n 66 63 (.bin .mul true 3 (.k 8) (.t 65)),.nb 67 63 .add 3 66 16,.n 68 63 (.bin .gtr false 3 (.t 64) (.t 67)),.p 69 63 68] (.cond (.t 69) (.q [.F 8] .ret) .skip)) (.seq (.draw [(.m 71 0,[]),(.L 72 7 5,[]),(.m 73 0,[]),(.m 74 11,[]),(.m 76 2,[]),(.W 75 19 73 74,[(.L 72 7 5,false)]),(.z 77 (.w 18 [.t 71,.t 72,.t 75,.t 76]),[]),(.m 70 77,[]),(.X 78 0 70,[]),(.X 79 1 70,[]),(.m 12 78,[]),(.m 13 79,[])]) (.q [.m 80 13,.b 81 .eql 35 80 0,.m 82 81,.my 83 82 0,.y 84 82 (.loadN 7 (.t 5)),.my 85 82 12,.my 86 82 11,.my 87 82 2,.my 88 82 3,.y 89 82 (.w 20 [.t 83,.t 84,.t 85,.t 86,.t 87,.t 88]),.q 90 82 89,.m 8 90] .ret)))))))))))))
def g:Nm Tryz.prog 3=some ⟨91,z3b.r,[.tmp 8]⟩:=Aa
def xw(v:Vr):Vr:=⟨v.limbs,v.sec,0⟩
def g:∀(l:List Vr) (i:Nat),i<l.length→Oo (Ob l) (i*3+2) [.i 0]=Ob (l.set i (xw (gv l i)))
 |[],i,h=>By
 |v::l,0,_=>by
  simp[Oo,Ob,xw,gv,Vr.f]
 |v::l,i+1,h=>by
  have j:=g l i Ax;have e:∀w:List Vr,Ob (v::w)=v.f++Ob w:=λw=>by simp[Ob]
  have z:gv (v::l) (i+1)=gv l i:=rfl;rw[M1,e,e,z,←j];unfold Oo;rw[show (i+1)*3+2=v.f.length+(i*3+2) by rw[Vr.f_len];omega,List.take_length_add_append,Kg,List.drop_length_add_append];simp
def zlt(l:List Vr):(Ob l).all LV.scal=true:=by
 induction l with
 |nil=>rfl
 |cons x l g=>simp only[Ob,Kw]at g ⊢;rw[List.all_append,g];rfl
def zxy(l:List Vr)(h:l.length≤1048576):Nj 14 [.lst (Ob l) l.length 3] (.dy 0 0) [.dyn (Ob l) l.length 3 0 0]:=by
 refine Od.mk rfl (Nn g Aa N ?_) (λj z e=>?_)
 ·simp[z8x,h];exact⟨[.dy 0 1],rfl,rfl,by simp[V5,zlt]⟩
 ·cases j with
  |zero=>simp at e;subst e;exact⟨_,_,_,rfl,zlt l⟩
  |succ j=>simp at e
def z8l(C:List Vr)(o:Ko)(dp:Int)(fill:List UInt64)(_:C.length≤9223372036854775807)(_:U0 dp)(_:fill.length≤9223372036854775807):Pm (.fn 3) [.lst (Ob C) C.length 3,.agg o.f,.i dp,LU fill] [] λv _=>v=.bool true:=by
 refine zwd z Aa (by simp) ?_;have A:o.f=[.i o.kind,.i o.d,.i o.e,.i o.a,.i o.b,.i o.c,.u o.imm]:=rfl;refine ax (Φ:=λρ gR gF=>∃(g:List Vr) (j:Int) (p st:Nat),g.length=C.length∧C.length≤12∧fill.length≤40∧(∀v∈g,v.mode=0∧v.limbs≤j)∧0≤j∧(j=0∨∃v∈g,v.limbs=j)∧1≤p∧gR=[]∧lk ρ 0=.dy p 0∧lk ρ 2=.i dp∧lk ρ 3=LU fill∧lk ρ 5=.ptr 0 0∧lk ρ 9=.i j∧1≤gF.length∧gF[0]?=some (.cells o.f 0)∧gF[p]?=some (.dyn (Ob g) g.length 3 0 st)) 5 _ rfl (λNX gG=>?_) (λρ gR gF hΦ=>?_)
 ·simp[z3b,X9,A];refine Ns D (by simp) ?_;by_cases g1:(12:Int)<C.length
  ·simp[g1]
  by_cases g2:(40:Int)<fill.length
  ·simp[g1,g2,LU]
  simp[g1,g2,LU];refine vk (zxy C J) (bors_self _ Ba) ?_;simp;refine O8 (λρ gR gF N=>∃(i st:Nat) (j:Int) (g:List Vr),gR=[]∧N+i=C.length∧g.length=C.length∧(∀H,H<i→(gv g H).mode=0∧(gv g H).limbs≤j)∧0≤j∧(j=0∨∃H,H<i∧(gv g H).limbs=j)∧lk ρ 0=.dy 1 0∧lk ρ 2=.i dp∧lk ρ 3=LU fill∧lk ρ 5=.ptr 0 0∧lk ρ 9=.i j∧lk ρ 10=.i i∧gF=[.cells o.f 0,.dyn (Ob g) C.length 3 0 st]) (N:=C.length)
   ⟨0,0,0,C,rfl,J,rfl,λH hj=>J,J,.inl rfl,by simp,by simp,by simp[LU],by simp,by simp,by simp,At⟩ ?_
  rintro N ρ gR gF ⟨i,st,j,g,rfl,hN,I,E,gg,K,Q,O,R,B,L,T,rfl⟩ Nx gH;by_cases g9:i<C.length
  ·have gu:i<g.length:=J
   have gz:=U g i gu;have h1:=ju gu;have M:=vd (T2 (l:=g.set i (xw (gv g i))) (n:=i) (by simpa using gu));have V:gv (g.set i (xw (gv g i))) i=xw (gv g i):=by
    unfold gv;rw[Wn _ _ _ _ _ gu,H6 rfl]
   rw[V]at M;have M:(Ob (g.set i (xw (gv g i))))[i*3]?=some (.i (gv g i).limbs):=M;simp[Q,O,R,B,L,T,g9];rw[gz];refine⟨J,?_⟩;simp[Nd M,L,T];refine⟨J,gH _ _ _ ⟨N-1,J,i+1,st+1,max j (gv g i).limbs,g.set i (xw (gv g i)),rfl,J,A0,λH hj=>?_,J,?_,F0,D5,Bl,An,by simp,by simp,rfl⟩⟩
   ·by_cases e:H=i
    ·rw[e,V];exact⟨rfl,by show (gv g i).limbs≤_;omega⟩
    ·have:=E H J;have e2:gv (g.set i (xw (gv g i))) H=gv g H:=by unfold gv;rw[Wn _ _ _ _ _ gu,Hx e]
     rw[e2];exact⟨this.1,J⟩
   ·by_cases hc:j<(gv g i).limbs
    ·exact .inr ⟨i,J,by rw[V];show (gv g i).limbs=_;omega⟩
    ·rcases K with e|⟨H,hj,e⟩
     ·exact .inl J
     ·refine .inr ⟨H,J,?_⟩;have e2:gv (g.set i (xw (gv g i))) H=gv g H:=by unfold gv;rw[Wn _ _ _ _ _ gu,Hx J]
      rw[e2,e];omega
  ·simp[Q,O,R,B,L,T,g9];refine gG _ _ _ ⟨g,j,1,st,I,J,J,λv hv=>?_,gg,K.imp id (λ⟨H,hj,e⟩=>⟨_,zve J,e⟩),J,rfl,F0,D5,Bl,An,C8,by simp,by simp,A0⟩;obtain⟨H,hj,rfl⟩:=o8 hv;exact E H J
 obtain⟨g,j,p,st,I,gT,gI,E,gg,K,hp,rfl,Q,O,R,B,L,gK,gA,gC⟩:=hΦ;refine W_fz (t:=0) gC Q ?_;have P:(gF.set p (.dead (st+1)))[0]?=_:=(Hy J).trans gA;generalize gF.set p (.dead (st+1))=gF at *;clear gC gA gK Q hp;have gD:dats [LV.lst (Ob g) g.length 3,.agg o.f]=true:=by simp[dats,LV.dat,Ro,A]
 refine S5 _ ?_;simp[z3b,X9,O,R,B,L,P,A];rw[←A];refine Ns (z8g g o J) (bors_self _ gD) ?_;simp[B,P,A];rw[←A];refine Ns (zl5 g o J) (bors_self _ gD) ?_;have gL:¬((Qx g&&Oc g o)=true∧o.kind=12)→Nt g o=0:=λq=>by
  unfold Nt;rw[zvk,Hx];intro e;simp only[Hz,Ie]at e q;exact q ⟨e.2.2,e.1⟩
 by_cases hA:(Qx g&&Oc g o)=true∧o.kind=12
 ·obtain⟨hA,hk⟩:=hA;have X:=hA;rw[Hz]at X;obtain⟨d,a,b,c,h⟩:=mtV hk X.1 X.2;have gM:=zvh h;have gV:=z7k h;rw[hA];have gU:(gv g d).limbs≤j:=(E _ (zve h.fd.2)).2;have gY:=Tp h.hv h.fd.2;have Y:=P;rw[A,hk]at Y;have c1:¬Nt g o<1:=J
  have gO:j≤512:=by
   rcases K with e|⟨v,gP,e⟩
   ·omega
   ·have:=zk0 h.hv v gP;omega
  by_cases gE:(6:Int)<j
  ·simp[O,B,Y,L,gE]
  have c2:¬8*j+16<Nt g o:=J
  have c0:1≤Nt g o:=gM.1;simp[O,B,Y,L,gE];obtain⟨dq,gZ,gQ⟩:=ztc dp 5 J;refine Ns gQ (by simp) ?_;have Z:Oz 19 [.lst (Ob g) g.length 3,.i (Nt g o)] (.agg (Qe (N0 g (Nt g o)) (Sq g) ⟨g.length,0,Nt g o⟩ ⟨(g.length:Int)+1,0,Nt g o⟩)):=zgx g (Nt g o) J;have F:=zfa g o (N0 g (Nt g o)) (Sq g) ⟨g.length,0,Nt g o⟩ ⟨(g.length:Int)+1,0,Nt g o⟩ dq J (by rw[plB_len];omega);have hR:=zlb (fill:=fill) (deep:=dq) h J J J gI;obtain⟨e1,e2⟩:=xy h (λi hi=>(E _ (zve hi)).1) J (deep:=dq) J;rw[e1,e2]at F;have g8:Qe (N0 g (Nt g o)) (Sq g) ⟨g.length,0,Nt g o⟩ ⟨(g.length:Int)+1,0,Nt g o⟩=[.lst (P7 (N0 g (Nt g o))) (N0 g (Nt g o)).length 3,.lst (Wo (Sq g)) (Sq g).length 3,.i g.length,.i 0,.i (Nt g o),.i ((g.length:Int)+1),.i 0,.i (Nt g o)]:=rfl;simp[B,L,P,A,c1,c2]
  try rw[←A]
  refine⟨J,J,?_⟩;refine R6 Z Ba ?_;simp[B,P,A];rw[←A];refine R6 F (by simp[dats,LV.dat,Ro,A,zcf]) ?_;simp[R,B,P,A];rw[←A];refine Ns hR (bors_self _ (by simp[dats,LV.dat,Ro,A,Ud,LU,y5])) ?_;simp
 ·have hw:=gL hA;by_cases G:(Qx g&&Oc g o)=true
  ·have hk:¬o.kind=12:=λe=>hA ⟨G,e⟩
   rw[G];simp[B,P,A,hk,hw]
  ·have G:(Qx g&&Oc g o)=false:=Bs
   rw[G];simp[B,P,A,hw]
end Go.Proofs.YtodjkjimaheggaaGreat
end
