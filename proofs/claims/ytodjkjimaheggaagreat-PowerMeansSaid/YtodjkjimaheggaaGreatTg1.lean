/- The templates: see the main text. -/
import Derived.Test.YtodjkjimaheggaaGreatSvG3
import Derived.Test.YtodjkjimaheggaaGreatSvG2
import Derived.Test.YtodjkjimaheggaaGreatTg0
import Derived.Test.YtodjkjimaheggaaGreatSvG4
set_option linter.defProp false
noncomputable section
namespace Go.Proofs.YtodjkjimaheggaaGreat
open Go.Sv
set_option linter.unusedSimpArgs false
set_option maxRecDepth 10000
variable{g j A:Nat}{z B V vV uU:Int}{vB:List Nat}{uZ:List (List UInt64)}{E vY:List LV}{F:M7}{O:LV}{Y:LV→M7→Prop}{vP:List Vr}{Z:List Bf}{vK:Pc}
def zjf:LC:=(.q [.x 2 0,.e 4,.e 5,.K 6 0] (.q [.L 18 3 2,.w 19 78 18,.m 17 19,.X 20 0 17,.X 21 1 17,.m 7 20,.m 8 21] (.seq (.q [.m 22 8,.b 23 .eql 35 22 0,.m 24 23,.y 25 24 (.loadN 3 (.t 2)),.y 26 24 (.w 85 [.t 25]),.y 27 24 (.bin .gtr true 3 (.t 26) (.k 16777216)),.q 28 24 27] (.cond (.t 28) (.ops [.K 8 10]) .skip)) (.seq (.q [.m 29 8,.b 30 .eql 35 29 0,.m 31 30,.y 32 31 (.loadN 3 (.t 2)),.my 33 31 1,.y 34 31 (.w 86 [.t 32,.t 33]),.y 35 31 (.un .not (.t 34)),.q 36 31 35] (.cond (.t 36) (.ops [.K 8 2]) .skip)) (.seq (.q [.m 37 8,.b 38 .neq 35 37 0] (.cond (.t 38) (.q [.m 39 8,.e 4,.e 5,.m 6 39] .ret) .skip)) (.seq (.draw [(.L 40 3 2,[]),(.f 41 0 2,[]),(.l 42 41,[]),(.z 43 (.mkSl 1 [(.u 0)] (.t 42) (.t 42)),[(.l 42 41,false),(.L 40 3 2,false)]),(.z 44 (.build [(.i 0),.nilSl,.nilSl,.nilSl,.nilSl,.nilSl] [(0,3,.t 40),(3,1,.t 43)]),[]),(.x 45 44,[(.z 43 (.mkSl 1 [(.u 0)] (.t 42) (.t 42)),true),(.l 42 41,false),(.L 40 3 2,false)]),(.m 9 45,[])]) (.seq (.q [.K 10 0] (.block 0 (.loop (.seq (.q [.m 46 10,.m 47 1,.s 48 47,.c 49 .lss 3 46 48] (.cond (.t 49) .skip (.exit 0))) (.seq (.block 1 (.q [.f 52 1 2,.l 53 52,.m 54 10,.I 55 3 53 54,.f 56 0 55,.l 57 56,.z 58 (.mkSl 1 [(.u 0)] (.t 57) (.t 57)),.m 11 58] (.q [.m 59 11,.m 60 1,.m 61 10,.I 62 1 60 61,.l 63 62,.z 64 (.copy 1 (.t 59) (.t 63))] (.ops [.m 65 9,.m 66 9,.N 67 66,.f 68 4 67,.l 69 68,.m 70 11,.z 71 (.buildSl 1 1 [.nilSl] [(0,1,.t 70)]),.a 72 1 69 71,.N 73 65,.f 74 4 73,.S 1 74 72])))) (.ops [.m 50 10,.b 51 .add 3 50 1,.m 10 51])))))) (.q [.L 75 3 2,.w 76 87 75,.m 12 76] (.q [.z 13 (.move .T)] (.seq (.q [.K 14 0] (.block 2 (.loop (.seq (.q [.m 77 14,.f 78 2 2,.l 79 78,.s 80 79,.c 81 .lss 3 77 80] (.cond (.t 81) .skip (.exit 2))) (.seq (.block 3 (.q [.f 84 2 2,.l 85 84,.m 86 14,.I 87 8 85 86,.L 88 8 87,.z 15 (.alloc [(.i 0),(.i 0),(.i 0),(.i 0),(.i 0),(.i 0),(.i 0),(.u 0)]),.S 8 15 88] (.q [.f 89 0 15,.l 90 89] (.block 4 (.q [.b 100 .eql 3 90 16,.m 99 100] (.cond (.t 99) (.seq (.q [.m 101 13] (.cond (.t 101) (.draw [(.m 102 9,[]),(.N 103 102,[]),(.f 104 3 103,[]),(.l 105 104,[]),(.f 106 1 15,[]),(.l 107 106,[]),(.I 108 1 105 107,[]),(.v (.store 1 (.t 108) (.c (.u 0))),[])]) .skip)) (.q [.m 109 9,.m 110 9,.N 111 110,.f 112 5 111,.l 113 112,.m 114 14,.z 115 (.build [(.i 0),(.i 0)] [(0,1,.t 114),(1,1,.k (-1))]),.z 116 (.buildSl 2 1 [(.i 0),(.i 0)] [(0,2,.t 115)]),.a 117 2 113 116,.N 118 109,.f 119 5 118,.S 1 119 117] (.ops [.z 13 (.move .T)]))) (.q [.b 121 .eql 3 90 17,.m 120 121] (.cond (.t 120) (.seq (.draw [(.f 122 2 2,[]),(.l 123 122,[]),(.m 124 12,[]),(.m 125 14,[]),(.I 126 1 124 125,[]),(.l 127 126,[]),(.I 128 8 123 127,[]),(.L 129 8 128,[]),(.z 16 (.alloc [(.i 0),(.i 0),(.i 0),(.i 0),(.i 0),(.i 0),(.i 0),(.u 0)]),[(.L 129 8 128,false),(.l 127 126,false),(.l 123 122,false)]),(.S 8 16 129,[])]) (.seq (.draw [(.m 130 9,[]),(.N 131 130,[]),(.f 132 3 131,[]),(.l 133 132,[]),(.f 134 1 16,[]),(.l 135 134,[]),(.I 136 1 133 135,[]),(.l 137 136,[]),(.u 138 .add 23 137 1,[]),(.f 139 7 16,[]),(.l 140 139,[]),(.c 141 .lss 23 138 140,[])]) (.cond (.t 141) (.seq (.draw [(.m 142 9,[]),(.N 143 142,[]),(.f 144 3 143,[]),(.l 145 144,[]),(.f 146 1 16,[]),(.l 147 146,[]),(.I 148 1 145 147,[]),(.l 149 148,[]),(.u 150 .add 23 149 1,[]),(.I 151 1 145 147,[]),(.S 1 151 150,[])]) (.q [.F 13] (.ops [.m 152 12,.m 153 14,.I 154 1 152 153,.l 155 154,.b 156 .sub 3 155 1,.m 14 156]))) .skip))) (.q [.m 91 9,.m 92 14,.W 93 88 91 92,.z 94 (.un .not (.t 93))] (.cond (.t 94) (.seq (.draw [(.m 95 9,[]),(.N 96 95,[]),(.f 97 5 96,[]),(.l 98 97,[]),(.e 4,[]),(.m 5 98,[]),(.K 6 11,[])]) .ret) .skip)))))))))) (.ops [.m 82 14,.b 83 .add 3 82 1,.m 14 83])))))) (.seq (.draw [(.m 157 9,[]),(.N 158 157,[]),(.f 159 4 158,[]),(.l 160 159,[]),(.m 161 9,[]),(.N 162 161,[]),(.f 163 5 162,[]),(.l 164 163,[]),(.m 4 160,[]),(.m 5 164,[]),(.K 6 0,[])]) .ret)))))))))))
def r_ref12_Run:Ng Tryz.prog 29=some ⟨165,zjf.r,[.tmp 4,.tmp 5,.tmp 6]⟩:=Aa
def MsH.push_ev{G:M7}{x pb kb:Nat}{b:Nat}{regs:Int}{bs:List Bf}{os:List Lo}{L:LV}{s:Ms}{K:LV→M7→Prop}{tmp:LObj}{G':M7}{i pl:Int}(hG:G'=G++[tmp])(hm:MsH G x j pb kb vB b regs bs os L s)(gD:s.l.length≤1000000000)
  (k:∀(L':LV) (G5:M7),L'.cells=some [L']→(∀q,q<b→G5[q]?=G[q]?)→(∀(gg:Nat),MsH (G5.set x (.cells [.i regs,.lst (Qc bs) bs.length 3,.lst (Qh os) os.length 8,.dy j 0,.dy pb kb,L'] gg)) x j pb kb vB b regs bs os L' ⟨s.i,s.first,s.r,s.bufs,s.l++[(i,pl)]⟩)→K L' G5):Ps G' 2 L 1 [.i i,.i pl] K:=by
 subst hG;obtain⟨l1,l2,l3,l4,l5,l6⟩:=hm.lt;have gF:=hm.bG;refine O8.push2 (x:=[.i i,.i pl]) hm.ev.push_end J Ab gD rfl rfl λL' G5 gz gE gA gG=>?_
 have keep:∀{q:Nat},q<b→G5[q]?=G[q]?:=λ{q} hq=>by
  rw[gE q Ab (λe=>Ea),Nh J]
 refine k L' G5 gz.cells (λq hq=>keep hq) λgg=>?_
 have gC:x<G5.length:=by simp at gA;omega
 have ne:∀{q:Nat} {ob:LObj},q≠x→(G5.set x ob)[q]?=G5[q]?:=λhq=>Hw (Ne.symm hq)
 refine⟨⟨gg,H0 gC⟩,?_,?_,λgH hj=>?_,hm.bl,hm.lt,hm.qlt,hm.nd,?_,by rw[J3];simp at gA;omega⟩
 ·obtain⟨st,h⟩:=hm.rr;exact⟨st,by rw[ne (Ne.symm l4),keep l2];exact h⟩
 ·obtain⟨st,h⟩:=hm.bb;exact⟨st,by rw[ne (Ne.symm l5),keep l3];exact h⟩
 ·obtain⟨st,h⟩:=hm.row gH hj;have hq:=hm.qlt (vB.getD gH 0) F9;exact⟨st,by rw[ne hq.2.1,keep hq.1];exact h⟩
 ·show O8 b _ L' 2 (s.l++[(i,pl)]).length (U3 (s.l++[(i,pl)]));rw[Z1,H9];exact gz.set_lt l1
def MsH.ctl{G:M7}{x pb kb:Nat}{b:Nat}{regs:Int}{bs:List Bf}{os:List Lo}{L:LV}{s:Ms}(h:MsH G x j pb kb vB b regs bs os L s){i:Nat}{f:Bool}:MsH G x j pb kb vB b regs bs os L ⟨i,f,s.r,s.bufs,s.l⟩:=⟨h.xc,h.rr,h.bb,h.row,h.bl,h.lt,h.qlt,h.nd,h.ev,h.bG⟩
def zrc{C:M7}:∀(g:List Nat) (j:List (List UInt64)),j.length=g.length→(∀z,z<g.length→∃st,C[g.getD z 0]?=some (.dyn ((j.getD z []).map .u) (j.getD z []).length 1 0 st))→bors C (g.map λq=>.dy q 0) (j.map LU)
 |[],j,h,_=>by
  have:j=[]:=Ip h;subst this;simp
 |q::g,[],h,_=>Bq
 |q::g,x::j,h,A=>by
  obtain⟨st,B⟩:=A 0 N;simp only[List.getD_cons_zero]at B;rw[Kk,Kk];refine⟨_,_,rfl,⟨_,_,_,st,rfl,B,N⟩,zrc g j Ax λz D=>?_⟩;have:=A (z+1) Ab;simpa only[List.getD_cons_succ] using this
def uh(n:Nat):Pl [.u 0] n=(List.replicate n (0:UInt64)).map LV.u:=by
 induction n with
 |zero=>rfl
 |succ n g=>rw[Pl,g,K0];rfl
def ow(x:List UInt64)(n:Nat)(h:x.length≤n):Oq ((List.replicate n (0:UInt64)).map LV.u) 0 ((x.map LV.u).take (min x.length n))=(x++List.replicate (n-x.length) 0).map LV.u:=by
 rw[J8 h,Im N,zni,Le]
 congr 1
 simp
def zhs{bs:List Bf}{os:List Lo}{X:List (List UInt64)}{es:List Int}{s':Ms}(hc:(Ra z bs os).2=0)(hb:Xl Qz 0 os)(AE:Wx [] 0 os≤16777216)(hX:kv bs X=true)(jT:1≤bs.length)(jU:Wh 0 [] (List.replicate os.length 0) os=es)
  (hE:∀i o,os[i]?=some o→o.kind=17→0≤es.getD i 0∧∃p,os[(es.getD i 0).toNat]?=some p∧p.kind=16) (hT:g≤800000000) (j:Pq os es g (Qf z bs X)=some s') (Az:s'.i=os.length) :
  O1 29 [.agg (Nk z bs os),LN X] (.tup [LN s'.bufs,.lst (U3 s'.l) s'.l.length 2,.i 0]):=by
 obtain⟨zH,AA,AF,AG,gZ,jV⟩:=z81 hc;have jC:X.length=bs.length∧∀i,i<bs.length→((X.getD i []).length:Int)=if (Ns bs i).kind=3 then 0 else (Ns bs i).size:=by
  unfold kv at hX;exact Ka hX
 obtain⟨jC,jX⟩:=jC;obtain⟨r,rfl⟩:=Hz zH;have zI:∀l:List (Int×Int),dats (U3 l)=true:=λl=>zak (f:=λe:Int×Int=>[.i e.1,.i e.2]) (λ_=>rfl) l
 refine R7.mkS (by simp[LV.dat,dats,zI,LN,Yr]) (Ni r_ref12_Run Aa (by simp) ?_);have AH:dats (Nk r bs os)=true:=zj4 _ _ _;have jY:¬(16777216:Int)<Wx [] 0 os:=J
 simp[zjf,Nk];refine Nt (z4q r bs os) (bors_self _ Bh) ?_;simp[hc];refine Nt (zm9 hc hb) (bors_self _ Bh) ?_;simp[jY];refine Nt (zp6 r bs os X J) (bors_self _ (by simp[dats,LV.dat,Nk,Ts,Tu,Yr])) ?_;simp[hX];refine⟨J,?_⟩;refine O5 (λρ AB gD N=>∃(i:Nat) (B:List Nat) (v:LV),AB=[]∧N+i=bs.length∧B.length=i∧lk ρ 1=LN X∧lk ρ 2=.ptr 0 0∧lk ρ 9=.ptr 2 0∧lk ρ 10=.i i∧gD[0]?=some (.cells (Nk r bs os) 0)∧(∃st,gD[1]?=some (.dyn ((List.replicate r (0:UInt64)).map .u) r 1 0 st))∧(∃st,gD[2]?=some (.cells [.i r,.lst (Qc bs) bs.length 3,.lst (Qh os) os.length 8,.dy 1 0,v,.nilSl] st))∧3≤gD.length ∧
   ((i=0∧v=.nilSl)∨∃O st,v=.dy O (i-1)∧3≤O∧O ∉ B∧1≤i∧gD[O]?=some (.dyn (B.map λq=>.dy q 0) i 1 (i-1) st))∧(∀q∈B,3≤q)∧B.Nodup∧∀V,V<i→∃st,gD[B.getD V 0]?=some (.dyn ((V7 (Ns bs V) (X.getD V [])).map .u) (V7 (Ns bs V) (X.getD V [])).length 1 0 st)) (N:=bs.length)
  ⟨0,[],.nilSl,rfl,J,rfl,by simp,by simp,by simp,by simp,B4,⟨0,by simp[uh]⟩,⟨0,by simp⟩,by simp,.inl ⟨rfl,rfl⟩,by simp,by simp,λV h=>J⟩ ?_
 rintro N ρ AB gD ⟨i,B,v,rfl,hN,Z,h1,M,H,gK,A,⟨s1,gL⟩,⟨s2,gR⟩,AI,hv,gT,jZ,gC⟩ Nx I;have gM:lk ρ 1=.lst (X.map LU) X.length 1:=h1;by_cases jR:i<bs.length
 ·have q0:=zgp (Sx jR);have gx:i<X.length:=J
  obtain⟨x,hx⟩:∃x,X.getD i []=x:=⟨_,rfl⟩;have zK:X[i]=x:=by rw[←hx];simp[gx]
  have hm:Ns bs i∈bs:=Iq (Sx jR);obtain⟨b1,b2⟩:=gZ _ hm;have j4:=jX i jR;rw[hx]at j4;obtain⟨n,hn⟩:=Hz (J:0≤(Ns bs i).size);have zL:x.length≤n:=by split at j4<;>omega
  have j5:V7 (Ns bs i) (X.getD i [])=x++List.replicate (n-x.length) 0:=by unfold V7;rw[hx,hn];rfl
  have g9:(x++List.replicate (n-x.length) (0:UInt64)).length=n:=Ab
  have l0:0<gD.length:=J
  have l2:2<gD.length:=J
  have p0:∀y:List LObj,(gD++y)[0]?=_:=λy=>(Nh l0).trans A
  have p2:∀y:List LObj,(gD++y)[2]?=_:=λy=>(Nh l2).trans gR
  have j6:=ow x n zL;simp only[List.map_replicate]at j6;have AK:n≤65536:=J
  simp[gM,M,H,gK,A,Nk,jR,gx,Nb q0,hn,zK,uh,j6,↓p2];refine⟨J,?_⟩;have j7:∀q∈B,q<gD.length:=λq hq=>by
   obtain⟨V,hj,rfl⟩:=J6.1 hq;obtain⟨st,h⟩:=gC V J;have h:=(Hu.1 h).1;simpa [Hv,hj] using h
  have zM:∀V,V<i→(B++[gD.length]).getD V 0=B.getD V 0:=λV hj=>by simp[Hv,H8 (J:V<B.length)]
  have zO:(B++[gD.length]).getD i 0=gD.length:=by
   rw[Hv,Ij J,(J:i-B.length=0)];rfl
  have j8:(B++[gD.length]).Nodup:=by
   rw[List.nodup_append];exact⟨jZ,by simp,λa ha b hb=>by simp at hb;rw[hb];have:=j7 a ha;omega⟩
  rcases hv with ⟨rfl,rfl⟩|⟨O,jD,rfl,gE,gU,zP,gF⟩
  ·have zQ:B=[]:=Ip Z;subst zQ;simp[H,↓p2,gK];refine I _ _ _ ⟨N-1,J,1,[gD.length],.dy (gD.length+2) 0,rfl,J,rfl,by simp[gM],A9,Ba,by simp,?_,⟨s1,?_⟩,⟨s2+1,?_⟩,by simp,.inr ⟨gD.length+2,0,rfl,J,by simp,J,?_⟩,Ab,by simp,λV hj=>⟨1,?_⟩⟩
   ·rw[Hw J];exact p0 _
   ·rw[Hw J,Nh J];exact gL
   ·exact H0 (by simp)
   ·rw[Hw J,Ij J,(J:gD.length+2-gD.length=2)];rfl
   ·have zR:V=0:=J
    subst zR;rw[j5];rw[Hw Ab];simp only[List.getD_cons_zero];rw[Ij J,Ll,g9];simp
  ·have lp:O<gD.length:=(Hu.1 gF).1;have pp:∀y:List LObj,(gD++y)[O]?=_:=λy=>(Nh lp).trans gF
   have zT:∀(y:List LObj) (ob:LObj),((gD++y).set O ob)[2]?=_:=λy ob=>(Hw J).trans (p2 y)
   simp[H,↓pp,↓zT,gK]
   repeat (refine⟨J,?_⟩)
   refine I _ _ _ ⟨N-1,J,i+1,B++[gD.length],.dy O i,rfl,J,Eg,by simp[gM],A9,Ba,by simp,?_,⟨s1,?_⟩,⟨s2+1,?_⟩,Ab,.inr ⟨O,jD+1,rfl,gE,by simp[gU];omega,J,?_⟩,λq hq=>?_,j8,λV hj=>?_⟩
   ·rw[Hw J,Hw J];exact p0 _
   ·rw[Hw J,Hw J,Nh J];exact gL
   ·rw[H0 Ab,(J:i-1+1=i)]
   ·rw[Hw J,H0 Ab,(J:i-1+1=i)];simp
   ·rcases Ir.1 hq with hq|hq
    ·exact gT q hq
    ·simp at hq;omega
   ·by_cases e:V=i
    ·subst e;rw[zO,j5,g9];refine⟨1,?_⟩;rw[Hw J,Hw J,Ij J,Ll];simp
    ·obtain⟨st,h⟩:=gC V J;refine⟨st,?_⟩;have jE:B.getD V 0∈B:=by simp[Hv,(J:V<B.length)]
     have:=gT _ jE;rw[zM V J,Hw J,Hw (λe=>gU (by rw[e];exact jE)),Nh (j7 _ jE)];exact h
 have hi:i=bs.length:=J
 subst hi;rcases hv with ⟨e,_⟩|⟨O,jD,rfl,gE,gU,zP,gF⟩
 ·omega
 have ge:¬bs.length<bs.length:=J
 have j9:MsH gD 2 1 O (bs.length-1) B gD.length r bs os .nilSl (Qf r bs X):=by
  have l1:=(Hu.1 gL).1;have l2:=(Hu.1 gR).1;have lp:=(Hu.1 gF).1;refine⟨⟨s2,gR⟩,⟨s1,by simpa [Qf] using gL⟩,⟨jD,by rw[Z];exact gF⟩,λV hj=>?_,by simp[Qf,ng,Z],⟨l2,l1,lp,J,J,J⟩,λq hq=>?_,jZ,O8.nil,Ia _⟩
  ·obtain⟨st,h⟩:=gC V J;refine⟨st,?_⟩;have zU:(Qf r bs X).bufs.getD V []=V7 (Ns bs V) (X.getD V []):=by simp[Qf,Tt,Hv,(J:V<bs.length)]
   rw[zU];exact h
  ·obtain⟨V,hj,rfl⟩:=J6.1 hq;obtain⟨st,h⟩:=gC V J;have h:=(Hu.1 h).1;have:=gT _ hq;exact⟨by simpa [Hv,hj] using h,J,J,λe=>gU (by rw[←e];exact hq)⟩
 have jg:∀x∈(Qf r bs X).bufs,x.length≤65536:=λx hx=>by
  simp only[Qf,Tt,Mu,Kh]at hx;obtain⟨V,hj,rfl⟩:=hx;have hm:Ns bs V∈bs:=Iq (Sx hj);obtain⟨b1,b2⟩:=gZ _ hm;have:=jX V hj;unfold V7;rw[H9,List.length_replicate];split at this<;>omega
 simp[gM,M,H,gK,jC,A,Nk];refine Rm (zo0 hc hb) Et ?_;rw[jU];have AC:B.length=bs.length:=Z;generalize AL:gD.length=b at *;simp;refine O5 (λρ AB G' N=>∃(s:Ms) (zG:LV),AB=[]∧Pq os es N s=some s'∧lk ρ 2=.ptr 0 0∧lk ρ 9=.ptr 2 0∧lk ρ 12=.lst (es.map .i) os.length 1∧lk ρ 13=.bool s.first∧lk ρ 14=.i s.i∧G'[0]?=some (.cells (Nk r bs os) 0)∧MsH G' 2 1 O (bs.length-1) B b r bs os zG s∧s.l.length+N≤g∧s.i≤os.length∧s.r.length=r∧∀x∈s.bufs,x.length≤65536) (N:=g)
  ⟨Qf r bs X,.nilSl,rfl,j,A9,Ba,by simp,Dr,Dr,A,j9,Dr,Dr,Dr,jg⟩ ?_
 clear j j9 h1 gM M H gK A gL gR gF I Nx jg;rintro N ρ AB P ⟨s,zG,rfl,j,M,H,gg,Q,K,A,Y,AM,AO,gG,gH⟩ Nx I;by_cases jR:s.i<os.length
 case neg =>
  have zV:=zwj (os:=os) (es:=es) (s:=s) (Ke J) N;rw[zV]at j;have jF:s=s':=Option.some.inj j;subst jF;obtain⟨t1,D⟩:=Y.xc;obtain⟨t2,jT⟩:=Y.bb;simp[M,H,K,A,Nk,jR,D];intro c a hs ha;have AD:s.bufs.length=bs.length:=by rw[Y.bl,Z]
  have h:=tup3_ok hs jT (zrc B s.bufs Y.bl Y.row) Y.ev.bor (by simp) ha;rw[←Y.bl]at h;exact h
 have ho:=zhv jR;have gO:=zdh ho;have gP:=zo3 jR;have jG:=jV _ (Iq ho);generalize lj os s.i=o at *;cases N with
 |zero =>
  have jF:s=s':=Option.some.inj j;subst jF;omega
 |succ N =>
 have hC:o.f=[.i o.kind,.i o.d,.i o.e,.i o.a,.i o.b,.i o.c,.i o.buf,.u o.imm]:=rfl;change (match Rq os es s with|none=>none|some s'=>Pq os es N s')=some s' at j;have l0:0<P.length:=by have:=Y.bG;omega
 have p0:∀y:List LObj,(P++y)[0]?=_:=λy=>(Nh l0).trans A
 have L:(P++[LObj.cells o.f 1])[P.length]?=some (.cells o.f 1):=Il;have E:MsH (P++[LObj.cells o.f 1]) 2 1 O (bs.length-1) B b r bs os zG s:=Y.keep (λq hq=>Nh hq) (by simp);have gz:=p0 [.cells o.f 1];have AP:b≤P.length:=Y.bG;have z0:∀(y:List LObj) (h:0<(P++y).length),(P++y)[0]=.cells (Nk r bs os) 0:=λy h=>Option.some.inj ((H6 h).symm.trans (p0 y))
 have p1:∃st,∀y:List LObj,(P++y)[1]?=some (.dyn (s.r.map .u) s.r.length 1 0 st):=by
  obtain⟨st,h⟩:=Y.rr;exact⟨st,λy=>(Nh (Hu.1 h).1).trans h⟩
 have p2:∃st,∀y:List LObj,(P++y)[2]?=some (.cells [.i r,.lst (Qc bs) bs.length 3,.lst (Qh os) os.length 8,.dy 1 0,.dy O (bs.length-1),zG] st):=by
  obtain⟨st,h⟩:=Y.xc;exact⟨st,λy=>(Nh (Hu.1 h).1).trans h⟩
 obtain⟨t1,p1⟩:=p1;obtain⟨t2,p2⟩:=p2;obtain⟨rd,re,ra,rb,rc,rm⟩:=zke jG;by_cases F:o.kind=16
 ·have R:Rq os es s=some ⟨s.i+1,true,if s.first then Nm s.r o.d 0 else s.r,s.bufs,s.l++[((s.i:Int),(-1:Int))]⟩:=by
   unfold Rq;rw[ho];dsimp only;rw[H7 F]
  rw[R]at j;dsimp only at j;obtain⟨d0,dr⟩:=(z36 jG).2.2 F;obtain⟨dn,C⟩:=Hz d0;have gA:dn<s.r.length:=J
  have zg:=Y.lt;have AQ:∀(G7:M7) (s2:Ms),MsH G7 2 1 O (bs.length-1) B b r bs os zG s2→G7[0]?=some (.cells (Nk r bs os) 0)→s2.l=s.l→s2.i=s.i→(⟨s2.i+1,true,s2.r,s2.bufs,s2.l++[((s.i:Int),(-1:Int))]⟩:Ms)=⟨s.i+1,true,if s.first then Nm s.r o.d 0 else s.r,s.bufs,s.l++[((s.i:Int),(-1:Int))]⟩→True:=λ_ _ _ _ _ _ _=>trivial
  cases hf:s.first with
  |true =>
   rw[hf]at j Q;rw[H7 rfl]at j;obtain⟨t2,jH⟩:=E.rr;obtain⟨t1,D⟩:=E.xc;have e1:Oq (s.r.map LV.u) dn [.u 0]=(Nm s.r o.d 0).map LV.u:=by
    rw[zye (by simpa using gA),Nm,H7 d0,C,Ji];rfl
   have gI:=E.putr (i:=o.d) (v:=0) (st:=t2+1);rw[hC]at D jH E gI gz L;have zj:∀ob:LObj,((P++[LObj.cells [.i o.kind,.i o.d,.i o.e,.i o.a,.i o.b,.i o.c,.i o.buf,.u o.imm] 1]).set 1 ob)[0]?=some (.cells (Nk r bs os) 0):=λob=>(Hw J).trans gz
   rw[F,C]at D jH L zj gI;simp[M,H,Q,K,A,Nk,jR,gO,gP,hC,F,C,L,D,jH,gA,e1];refine⟨J,MsH.push_ev rfl gI (by show s.l.length≤_;omega) λL' G5 jI gQ gV=>?_⟩;obtain⟨t3,zX⟩:=gI.xc;have jK:G5[2]?=_:=(gQ 2 J).trans zX;simp[-LV.cells,jI,jK,K];have jL:G5[0]?=some (.cells (Nk r bs os) 0):=(gQ 0 J).trans (zj _);rw[←C]at gV;refine⟨J,I _ _ _ ⟨N,J,_,L',rfl,j,A9,Ba,Cc,by simp,by simp,?_,(gV (t3+1)).ctl,Ab,Gn,by show (Nm s.r o.d 0).length=_;rw[zfv];exact gG,gH⟩⟩;rw[Hw J];exact jL
  |false =>
   rw[hf]at j Q;rw[Hx Ac]at j;obtain⟨t1,D⟩:=E.xc;rw[hC]at D E gz L;rw[F]at D L E gz;simp[M,H,Q,K,A,Nk,jR,gO,gP,hC,F,L,D];refine MsH.push_ev (by rw[Jj];rfl) E J λL' G5 jI gQ gV=>?_
   have jK:G5[2]?=_:=(gQ 2 J).trans D;simp[-LV.cells,jI,jK,K];have jL:G5[0]?=some (.cells (Nk r bs os) 0):=(gQ 0 J).trans gz;refine⟨J,I _ _ _ ⟨N,J,_,L',rfl,j,A9,Ba,Cc,by simp,by simp,?_,(gV (t1+1)).ctl,Ab,Gn,gG,gH⟩⟩;rw[Hw J];exact jL
 by_cases G:o.kind=17
 ·obtain⟨c0,p,hp,zY⟩:=hE s.i o ho G;obtain⟨kn,jM⟩:=Hz c0;have zz:s.i<es.length:=by rw[←jU,endsR_len];simpa using jR
  have jz:(es.map LV.i)[s.i]?=some (.i (kn:Int)):=by
   rw[←jM];simp[Hv,zz]
  rw[jM]at hp;rw[In]at hp;have zZ:=jV _ (Iq hp);have zA:=zdh hp;have jO:kn<os.length:=(Hu.1 hp).1;have jA:=zo3 jO;obtain⟨d0,dr⟩:=(z36 zZ).2.2 zY;obtain⟨dn,C⟩:=Hz d0;have gA:dn<s.r.length:=J
  have R:Rq os es s=if atR s.r p.d+1<p.imm then some ⟨kn,false,Nm s.r p.d (atR s.r p.d+1),s.bufs,s.l⟩ else some ⟨s.i+1,s.first,s.r,s.bufs,s.l⟩:=by
   unfold Rq;rw[ho];dsimp only;rw[Hx F,H7 G,jM,In,hp]
  have Ag:atR s.r p.d=s.r.getD dn 0:=by unfold atR;rw[Hx J,C];rfl
  have zB:s.r[dn]=atR s.r p.d:=by rw[Ag];simp[Hv,gA]
  generalize atR s.r p.d=xv at *;rw[R]at j;have zg:=Y.lt;have gY:p.f=[.i p.kind,.i p.d,.i p.e,.i p.a,.i p.b,.i p.c,.i p.buf,.u p.imm]:=rfl;have AT:0<P.length:=l0;have jP:MsH (P++[LObj.cells o.f 1,LObj.cells p.f 1]) 2 1 O (bs.length-1) B b r bs os zG s:=Y.keep (λq hq=>Nh hq) (by simp);have gE:=p0 [.cells o.f 1,.cells p.f 1];have jQ:(P++[LObj.cells o.f 1,LObj.cells p.f 1])[P.length+1]?=some (.cells p.f 1):=by
   rw[Ij J,(J:P.length+1-P.length=1)];rfl
  have e1:Oq (s.r.map LV.u) dn [.u (xv+1)]=(Nm s.r p.d (xv+1)).map LV.u:=by
   rw[zye (by simpa using gA),Nm,H7 d0,C,Ji];rfl
  have zC:=jP.putr (i:=p.d) (v:=xv+1) (st:=t1+1);rw[hC,gY,G,C]at jP gE zC;rw[gY,hC,G,C]at jQ;rw[hC,G]at L;rw[C]at e1 j;have jB:p.imm≤xv+1↔¬xv+1<p.imm:=by simp
  by_cases T:xv+1<p.imm
  ·rw[H7 T]at j;simp[M,H,gg,Q,K,A,Nk,jR,gO,gP,hC,G,L,↓p0,↓p1,↓p2,z0,Nb jz,jO,zA,jA,gY,jQ,C,gA,zB,jB,T,e1,Vc]
   repeat (refine⟨J,?_⟩)
   refine I _ _ _ ⟨N,J,_,zG,rfl,j,A9,Ba,Cc,by simp,by simp,?_,?_,by show s.l.length+N≤g;omega,by show kn≤_;omega,by show (Nm s.r (dn:Int) (xv+1)).length=_;rw[zfv];exact gG,gH⟩
   ·rw[Hw J];exact gE
   ·exact zC.ctl
  ·rw[Hx T]at j;simp[M,H,gg,Q,K,A,Nk,jR,gO,gP,hC,G,L,↓p0,↓p1,↓p2,z0,Nb jz,jO,zA,jA,gY,jQ,C,gA,zB,jB,T,e1,Vc]
   repeat (refine⟨J,?_⟩)
   exact I _ _ _ ⟨N,J,_,zG,rfl,j,A9,Ba,Cc,F6,by simp,gE,jP.ctl,by show s.l.length+N≤g;omega,Gn,gG,gH⟩
 have R:Rq os es s=Vm o s:=by
  unfold Rq;rw[ho];dsimp only;rw[Hx F,Hx G]
 rw[R]at j;simp[M,H,K,A,Nk,jR,gO,gP,hC,F,G];rw[hC]at E gz;cases hd:Vm o s with
 |none=>rw[hd]at j;cases j
 |some s1 =>
 rw[hd]at j;dsimp only at j;have U:=doR_len hd;refine do_any E ho jG F G (by rw[gG]) (by rw[Z]) J gH (λe=>by rw[hd]at e;cases e) λs2 G6 L2 e gI zD=>?_
 rw[hd]at e;obtain rfl:=Option.some.inj e;have Aj:G6[0]?=some (.cells (Nk r bs os) 0):=by
  have T:=Y.lt;rw[zD 0 J J J (λe=>by have:=gT 0 e;omega)];exact gz
 have zE:∀x∈s1.bufs,x.length≤65536:=λx hx=>by
  have h1:x.length∈s1.bufs.map List.length:=List.mem_map_of_mem hx;rw[U.b]at h1;obtain⟨y,hy,e⟩:=Mu.1 h1;rw[←e];exact gH y hy
 have e1:=U.i;have e2:=U.l;simp[K];refine⟨J,I _ _ _ ⟨N,J,s1,L2,rfl,j,A9,Ba,Cc,by simp[Q,U.f],by simp[e1],Aj,gI,J,J,by rw[U.r];exact gG,zE⟩⟩

def zdp:LC:=(.q [.K 4 0] (.seq (.q [.m 6 1,.b 7 .lss 3 6 1] (.cond (.t 7) (.q [.K 4 0] .ret) .skip)) (.q [.m 8 0,.m 9 1,.c 10 .rem 3 8 9,.m 5 10] (.seq (.q [.m 11 5,.b 12 .lss 3 11 0] (.cond (.t 12) (.ops [.m 13 5,.m 14 1,.c 15 .add 3 13 14,.m 5 15]) .skip)) (.q [.m 16 5,.m 4 16] .ret)))))
def r_kit_Pick:Ng Tryz.prog 17=some ⟨17,zdp.r,[.tmp 4]⟩:=Aa
def k_kit_Pick:zdp.ok=true:=Aa
def zn5:LC:=(.q [.e 4] (.q [.m 7 1,.z 8 (.mkSl 1 [(.u 0)] (.t 7) (.t 7)),.m 5 8] (.seq (.q [.K 6 0] (.block 0 (.loop (.seq (.q [.m 9 6,.m 10 1,.c 11 .lss 3 9 10,.m 12 11,.my 13 12 0,.y 14 12 (.lenSl (.t 13)),.y 15 12 (.bin .gtr true 3 (.t 14) (.k 0)),.q 16 12 15] (.cond (.t 16) .skip (.exit 0))) (.seq (.block 1 (.draw [(.m 19 5,[]),(.m 20 6,[]),(.m 21 0,[]),(.m 22 6,[]),(.m 23 0,[]),(.s 24 23,[]),(.c 25 .rem 3 22 24,[]),(.I 26 1 21 25,[]),(.l 27 26,[]),(.m 28 6,[]),(.m 29 0,[]),(.s 30 29,[]),(.c 31 .quo 3 28 30,[]),(.b 32 .mul 3 31 2,[]),(.z 33 (.bin .add true 3 (.k 1) (.t 32)),[]),(.z 34 (.cvInt .u64 (.t 33)),[]),(.c 35 .mul 23 27 34,[]),(.m 36 6,[]),(.m 37 0,[]),(.s 38 37,[]),(.c 39 .quo 3 36 38,[]),(.z 40 (.cvInt .u64 (.t 39)),[]),(.c 41 .add 23 35 40,[]),(.I 42 1 19 20,[]),(.S 1 42 41,[])])) (.ops [.m 17 6,.b 18 .add 3 17 1,.m 6 18])))))) (.q [.m 43 5,.m 4 43] .ret))))
def r_kit_Fill:Ng Tryz.prog 26=some ⟨44,zn5.r,[.tmp 4]⟩:=Aa
def zuw(n m:Int)(hm:1≤m∧m<1000000):∃k:Nat,(k:Int)<m∧Nl 17 [.i n,.i m] (.i k) []:=by
 have j:¬m<1:=J
 have z:m≠0:=J
 have B:n.tmod m<m:=Int.tmod_lt_of_pos n J;have C:-m<n.tmod m:=by
  have h:=Int.tmod_lt_of_pos (-n) (J:0<m);rw[Int.neg_tmod]at h;omega
 by_cases g:n.tmod m<0
 ·obtain⟨k,A⟩:=Hz (J:0≤n.tmod m+m);refine⟨k,J,Of.val rfl (Ni r_kit_Pick k_kit_Pick N ?_)⟩;simp[zdp,j,z,g];omega
 ·obtain⟨k,A⟩:=Hz (J:0≤n.tmod m);refine⟨k,J,Of.val rfl (Ni r_kit_Pick k_kit_Pick N ?_)⟩;simp[zdp,j,z,g,A];omega
def zm3(l:List UInt64)(n:Nat)(U:n≤1000000)(V:l.length≤1000000)(g:l≠[]):Nl 26 [LU l,.i n] (.dy 0 0) [RU (zu4 l n)]:=by
 refine Of.row (Ni r_kit_Fill Aa (by simp) ?_);have z:0<l.length:=List.length_pos_iff.2 g;simp[zn5];refine⟨J,?_⟩;refine O5 (λI R T L=>∃(i st:Nat) (m:List UInt64),R=[]∧L+i=n∧lk I 0=LU l∧lk I 1=.i n∧lk I 5=.dy 0 0∧lk I 6=.i i∧T[0]?=some (.dyn (m.map .u) n 1 0 st)∧m.length=n∧∀B,B<i→m.getD B 0=Xg l B) (N:=n)
  ⟨0,0,List.replicate n 0,rfl,J,by simp,by simp,by simp,by simp,by simp[uh],by simp,by simp⟩ ?_
 rintro L I R T ⟨i,st,m,rfl,X,C,A,D,K,E,j,hv⟩ Y F;by_cases Z:i<n
 ·have hi:i%l.length<l.length:=J1 _ z;have G:(l.length:Int)≠0:=J
  simp[C,A,D,K,Z,z,E,j,LU,G,hi];have M:(i:Int)/(l.length:Int)=((i/l.length:Nat):Int):=by simp
  have O:(i:Int).tmod (l.length:Int)=((i%l.length:Nat):Int):=by rw[M3 J];simp
  have P:i/l.length≤i:=Mn _ _;have H:Xg l i=l.getD (i%l.length) 0*iU (1+((i/l.length:Nat):Int)*2)+iU ((i/l.length:Nat):Int):=by unfold Xg;rw[Hx g]
  simp only[M,O,In];generalize i/l.length=q at *;refine⟨g,J,J,g,J,J,J,g,J,J,J,F _ _ _ ⟨L-1,J,i+1,st+1,m.set i (Xg l i),rfl,J,Al,As,At,by simp,?_,Af,λB hj=>?_⟩⟩
  ·have Q:=(Hu.1 E).1;rw[H0 Q,H]
   congr 2
   rw[show ∀x:LV,Oq (m.map LV.u) i [x]=(m.map LV.u).set i x from λx=>by rw[I5,H7 Ab];simp[Oq],Ji,Vc,zlj];simp[Hv]
  ·rw[Wd _ _ _ _ _ J];split
   ·rename_i q;rw[q]
   ·exact hv B J
 ·have hi:i=n:=J
  subst hi;have:m=zu4 l i:=by
   refine List.ext_getElem (by rw[j,zk6]) λB A h2=>?_
   have:=hv B J;rw[Hv,H6 A]at this;simpa [zu4] using this
  simp[C,A,D,K];exact .inr ⟨0,_,_,rfl,by rw[←this,j];exact E⟩
def lpsL_snoc:∀(n:Nat) (i:Int),Qk (n+1) i=Qk n i++[⟨16,i+n,-1,-1,-1,-1,0,1⟩]
 |0,i=>by simp[Qk]
 |n+1,i=>by
  rw[Qk,lpsL_snoc n (i+1),Qk,I6]
  congr 4
  simp;omega
def lpsL_len:∀(n:Nat) (i:Int),(Qk n i).length=n
 |0,_=>rfl
 |n+1,i=>by rw[Qk,Ig,lpsL_len]
def zku:LC:=(.q [.z 4 (.alloc [.nilSl,.nilSl,(.i 0),(.i 0),(.i 0),(.i 0),(.i 0),(.i 0)])] (.q [.z 5 (.alloc [.nilSl,.nilSl,(.i 0),(.i 0),(.i 0),(.i 0),(.i 0),(.i 0)])] (.seq (.q [.K 6 0] (.block 0 (.loop (.seq (.q [.m 8 6,.m 9 0,.s 10 9,.c 11 .lss 3 8 10] (.cond (.t 11) .skip (.exit 0))) (.seq (.block 1 (.seq (.draw [(.f 14 0 5,[]),(.l 15 14,[]),(.m 16 0,[]),(.m 17 6,[]),(.I 18 3 16 17,[]),(.f 19 0 18,[]),(.l 20 19,[]),(.m 21 0,[]),(.m 22 6,[]),(.I 23 3 21 22,[]),(.f 24 1 23,[]),(.l 25 24,[]),(.z 26 (.build [(.i 0),(.i 0),(.bool false)] [(0,1,.t 20),(1,1,.k 2),(2,1,.t 25)]),[]),(.z 27 (.buildSl 3 1 [(.i 0),(.i 0),(.bool false)] [(0,3,.t 26)]),[(.l 25 24,false),(.l 20 19,false),(.l 15 14,false)]),(.a 28 3 15 27,[]),(.f 29 0 5,[]),(.S 1 29 28,[])]) (.draw [(.f 30 1 5,[]),(.l 31 30,[]),(.m 32 6,[]),(.m 33 0,[]),(.m 34 6,[]),(.I 35 3 33 34,[]),(.f 36 0 35,[]),(.l 37 36,[]),(.z 38 (.build [(.i 0),(.i 0),(.i 0)] [(0,1,.t 32),(2,1,.t 37)]),[]),(.z 39 (.buildSl 3 1 [(.i 0),(.i 0),(.i 0)] [(0,3,.t 38)]),[(.l 37 36,false),(.l 31 30,false)]),(.a 40 3 31 39,[]),(.f 41 1 5,[]),(.S 1 41 40,[])]))) (.ops [.m 12 6,.b 13 .add 3 12 1,.m 6 13])))))) (.seq (.q [.K 7 0] (.block 2 (.loop (.seq (.q [.m 42 7,.b 43 .lss 3 42 2] (.cond (.t 43) .skip (.exit 2))) (.seq (.block 3 (.q [.f 46 0 5,.l 47 46,.m 48 1,.m 49 7,.b 50 .eql 3 49 1,.z 51 (.build [(.i 0),(.i 0),(.bool false)] [(0,1,.t 48),(1,1,.k 2),(2,1,.t 50)]),.z 52 (.buildSl 3 1 [(.i 0),(.i 0),(.bool false)] [(0,3,.t 51)]),.a 53 3 47 52,.f 54 0 5,.S 1 54 53] (.ops [.m 55 7,.m 56 0,.s 57 56,.m 58 7,.c 59 .add 3 57 58,.m 60 1,.z 61 (.build [(.i 0),(.i 0),(.i 0)] [(0,1,.t 59),(2,1,.t 60)]),.f 62 2 5,.z 63 (.ixAddrArr 2 3 (.t 62) (.t 55)),.S 3 63 61]))) (.ops [.m 44 7,.b 45 .add 3 44 1,.m 7 45])))))) (.q [.L 64 8 5,.S 8 4 64] .ret)))))
def r_kit_Plain:Ng Tryz.prog 19=some ⟨65,zku.r,[.cellN 4 8]⟩:=Aa
def zth{i:Nat}(h:i<vP.length):Uu (vP.take (i+1))=Uu (vP.take i)++[⟨(gv vP i).limbs,2,(gv vP i).sec⟩]:=by
 have g:=Tw h;obtain⟨_,e⟩:=Hu.1 g;rw[Jg h,Uu,Le,e];rfl
def tn(g:List Vr)(i:Nat):List Pc:=(List.range i).map λi:Nat=>⟨(i:Int),0,(gv g i).limbs⟩
def zz8(g:List Vr)(i:Nat):tn g (i+1)=tn g i++[⟨(i:Int),0,(gv g i).limbs⟩]:=by simp[tn,List.range_succ]
def pcC_app(a b:List Pc):Vp (a++b)=Vp a++Vp b:=by simp[Vp]
def wkC(n w:Int):Nat→List LV
 |0=>[.i 0,.i 0,.i 0,.i 0,.i 0,.i 0]
 |1=>[.i n,.i 0,.i w,.i 0,.i 0,.i 0]
 |_=>[.i n,.i 0,.i w,.i (n+1),.i 0,.i w]
def wkB(w:Int):Nat→List Bf
 |0=>[]
 |1=>[⟨w,2,false⟩]
 |_=>[⟨w,2,false⟩,⟨w,2,true⟩]
def zc8(vs:List Vr)(w:Int)(hl:vs.length≤1000000):O1 19 [.lst (N0 vs) vs.length 3,.i w] (.agg (Qj (Uu vs++[⟨w,2,false⟩,⟨w,2,true⟩]) (Re vs) ⟨vs.length,0,w⟩ ⟨(vs.length:Int)+1,0,w⟩)):=by
 refine R7.mk (by simp[LV.dat,zap]) (Ni r_kit_Plain Aa (by simp) ?_);simp[zku];refine O5 (λρ gV P N=>∃(i st X:Nat) (O C:LV),gV=[]∧N+i=vs.length∧lk ρ 0=.lst (N0 vs) vs.length 3∧lk ρ 1=.i w∧lk ρ 4=.ptr 0 0∧lk ρ 5=.ptr 1 0∧lk ρ 6=.i i∧2≤P.length ∧
   P[0]?=some (.cells [.nilSl,.nilSl,.i 0,.i 0,.i 0,.i 0,.i 0,.i 0] X)∧P[1]?=some (.cells [O,C,.i 0,.i 0,.i 0,.i 0,.i 0,.i 0] st) ∧
   Qn 2 P O 3 i (Qc (Uu (vs.take i)))∧Qn 2 P C 3 i (Vp (tn vs i))∧∀q A z j,O=.dy q A→C=.dy z j→q≠z) (N:=vs.length)
  ⟨0,0,0,.nilSl,.nilSl,rfl,J,by simp,by simp,by simp,by simp,by simp,by simp,by simp,by simp,by simpa [Uu,Qc] using Qn.nil,by simpa [tn,Vp] using Qn.nil,λq A z j e=>Ar⟩ ?_
 rintro N ρ gV P ⟨i,st,X,O,C,rfl,hN,L,R,T,M,h6,gD,Q,E,H,D,B⟩ Nx Y;by_cases gP:i<vs.length
 ·have q0:=sn (Tw gP);have q1:=zkw (Tw gP);have hq:=rh gP;have l1:1<P.length:=J
  have p1:∀x:List LObj,(P++x)[1]?=_:=λx=>(Nh l1).trans E
  have p0:∀x:List LObj,(P++x)[0]?=_:=λx=>(Nh J).trans Q
  simp[L,M,h6,E,↓p1,gP,Nb q0,Nb q1];have D1:=H.push_end (ob:=[LObj.dyn [.i (gv vs i).limbs,.i 2,.bool (gv vs i).sec] 1 3 0 0]);have U:=D.push_end (ob:=[LObj.dyn [.i (gv vs i).limbs,.i 2,.bool (gv vs i).sec] 1 3 0 0]);have m0:=p0 [LObj.dyn [.i (gv vs i).limbs,.i 2,.bool (gv vs i).sec] 1 3 0 0];have m1:=p1 [LObj.dyn [.i (gv vs i).limbs,.i 2,.bool (gv vs i).sec] 1 3 0 0];have ml:(P++[LObj.dyn [.i (gv vs i).limbs,.i 2,.bool (gv vs i).sec] 1 3 0 0]).length=P.length+1:=by simp
  have I:=λq A (e:C=.dy q A)=>(D.lt e).2
  generalize P++[LObj.dyn [.i (gv vs i).limbs,.i 2,.bool (gv vs i).sec] 1 3 0 0]=GA at *;refine D1.push2 (c:=1) (x:=(⟨(gv vs i).limbs,2,(gv vs i).sec⟩:Bf).f) J J J rfl rfl λg V K Z gE s1 gF=>?_
  have n1:∀q,q<2→∀A,O≠.dy q A:=λq hq A e=>Fa
  have n2:∀q,q<2→∀A,C≠.dy q A:=λq hq A e=>by have:=(U.lt e).1;omega
  have gg:=(Z 0 J (n1 0 J)).trans m0;have gz:=(Z 1 J (n1 1 J)).trans m1;have gA:=U.keep (G':=V) (λq A e=>Z q (U.lt e).2 (λj G=>B q j q A G e rfl));have F:∀q A z j,g=.dy q A→C=.dy z j→q≠z:=λq A z j e G=>by
   rcases s1 q A e with h|⟨j2,h⟩
   ·have:=I z j G;omega
   ·exact B q j2 z j h G
  have gC:=K.cells;have gG:=U.cells;simp[-LV.cells,L,M,h6,gz,gC];have gH:=K.set_lt (q:=1) (ob:=.cells [g,C,.i 0,.i 0,.i 0,.i 0,.i 0,.i 0] (st+1)) J;have gQ:=gA.set_lt (q:=1) (ob:=.cells [g,C,.i 0,.i 0,.i 0,.i 0,.i 0,.i 0] (st+1)) J;have k0:(V.set 1 (.cells [g,C,.i 0,.i 0,.i 0,.i 0,.i 0,.i 0] (st+1)))[0]?=_:=(Hw J).trans gg;have k1:(V.set 1 (.cells [g,C,.i 0,.i 0,.i 0,.i 0,.i 0,.i 0] (st+1)))[1]?=_:=H0 J;have kl:(V.set 1 (.cells [g,C,.i 0,.i 0,.i 0,.i 0,.i 0,.i 0] (st+1))).length=V.length:=by simp
  generalize V.set 1 (.cells [g,C,.i 0,.i 0,.i 0,.i 0,.i 0,.i 0] (st+1))=G2 at *;have r1:∀x:List LObj,(G2++x)[1]?=_:=λx=>(Nh J).trans k1
  have r0:∀x:List LObj,(G2++x)[0]?=_:=λx=>(Nh J).trans k0
  simp[L,M,h6,k1,↓r1,gP,Nb q0];have E1:=gH.push_end (ob:=[LObj.dyn [.i (i:Int),.i 0,.i (gv vs i).limbs] 1 3 0 0]);have E2:=gQ.push_end (ob:=[LObj.dyn [.i (i:Int),.i 0,.i (gv vs i).limbs] 1 3 0 0]);have w0:=r0 [LObj.dyn [.i (i:Int),.i 0,.i (gv vs i).limbs] 1 3 0 0];have w1:=r1 [LObj.dyn [.i (i:Int),.i 0,.i (gv vs i).limbs] 1 3 0 0];have wl:(G2++[LObj.dyn [.i (i:Int),.i 0,.i (gv vs i).limbs] 1 3 0 0]).length=G2.length+1:=by simp
  have gI:=λq A (e:g=.dy q A)=>(gH.lt e).2
  generalize G2++[LObj.dyn [.i (i:Int),.i 0,.i (gv vs i).limbs] 1 3 0 0]=GB at *;refine E2.push2 (c:=1) (x:=(⟨(i:Int),0,(gv vs i).limbs⟩:Pc).f) J J J rfl rfl λgK G3 gL f2 gY s2 gZ=>?_
  have gR:=(f2 0 J (n2 0 J)).trans w0;have gT:=(f2 1 J (n2 1 J)).trans w1;have gU:=E1.keep (G':=G3) (λq A e=>f2 q (E1.lt e).2 (λj G=>F q A q j e G rfl));have gM:∀q A z j,g=.dy q A→gK=.dy z j→q≠z:=λq A z j e G=>by
   rcases s2 z j G with h|⟨j2,h⟩
   ·have:=gI q A e;omega
   ·exact F q A z j2 e h
  have gO:=gL.cells;simp[-LV.cells,L,M,h6,gT,gO];refine⟨J,Y _ _ _ ⟨N-1,J,i+1,st+1+1,X,g,gK,rfl,J,Bz,B8,Bn,A9,by simp,Ab,?_,?_,?_,?_,gM⟩⟩
  ·rw[Hw J];exact gR
  ·rw[H0 J]
  ·rw[zth gP,bfC_app];exact gU.set_lt J
  ·rw[zz8,pcC_app];exact gL.set_lt J
 ·have gi:i=vs.length:=J
  subst gi;simp[L,R,T,M,h6,E];refine O5 (λρ gV P N=>∃(A st X:Nat) (O C:LV),gV=[]∧N+A=2∧lk ρ 0=.lst (N0 vs) vs.length 3∧lk ρ 1=.i w∧lk ρ 4=.ptr 0 0∧lk ρ 5=.ptr 1 0∧lk ρ 7=.i A∧2≤P.length ∧
    P[0]?=some (.cells [.nilSl,.nilSl,.i 0,.i 0,.i 0,.i 0,.i 0,.i 0] X)∧P[1]?=some (.cells (O::C::wkC vs.length w A) st) ∧
    Qn 2 P O 3 (vs.length+A) (Qc (Uu vs++wkB w A))∧Qn 2 P C 3 vs.length (Vp (Re vs))∧∀q A z j,O=.dy q A→C=.dy z j→q≠z) (N:=2)
   ⟨0,st,X,O,C,rfl,J,Bz,B8,Bn,A9,by simp,gD,Q,E,by simpa [wkB] using H,D,B⟩ ?_
  clear L R T M h6 gD Q E H D B gP Y Nx;rintro N ρ gV P ⟨A,st,X,O,C,rfl,g9,L,R,T,M,h7,gD,Q,E,H,D,B⟩ Nx Y;have p1:∀x:List LObj,(P++x)[1]?=_:=λx=>(Nh J).trans E
  have p0:∀x:List LObj,(P++x)[0]?=_:=λx=>(Nh J).trans Q
  have hj:A=0∨A=1∨A=2:=J
  rcases hj with rfl|rfl|rfl
  ·have D1:=H.push_end (ob:=[LObj.dyn [.i w,.i 2,.bool false] 1 3 0 0]);have U:=D.push_end (ob:=[LObj.dyn [.i w,.i 2,.bool false] 1 3 0 0]);simp[L,R,T,M,h7,E,↓p1,wkC];have m0:=p0 [LObj.dyn [.i w,.i 2,.bool false] 1 3 0 0];have m1:=p1 [LObj.dyn [.i w,.i 2,.bool false] 1 3 0 0];have ml:(P++[LObj.dyn [.i w,.i 2,.bool false] 1 3 0 0]).length=P.length+1:=by simp
   have I:=λq A (e:C=.dy q A)=>(D.lt e).2
   generalize P++[LObj.dyn [.i w,.i 2,.bool false] 1 3 0 0]=GA at *;refine D1.push2 (c:=1) (x:=(⟨w,2,false⟩:Bf).f) J J J rfl rfl λg V K Z gE s1 gF=>?_
   have n1:∀q,q<2→∀A,O≠.dy q A:=λq hq A e=>Fa
   have gg:=(Z 0 J (n1 0 J)).trans m0;have gz:=(Z 1 J (n1 1 J)).trans m1;have gA:=U.keep (G':=V) (λq A e=>Z q (U.lt e).2 (λj G=>B q j q A G e rfl));have F:∀q A z j,g=.dy q A→C=.dy z j→q≠z:=λq A z j e G=>by
    rcases s1 q A e with h|⟨j2,h⟩
    ·have:=I z j G;omega
    ·exact B q j2 z j h G
   have gC:=K.cells;have gG:=U.cells;have x1:∀x,(V.set 1 x)[1]?=some x:=λx=>H0 J
   simp[-LV.cells,L,R,T,M,h7,gz,gC,↓x1,wkC];simp[Oq]
   repeat (refine⟨J,?_⟩)
   refine Y _ _ _ ⟨N-1,J,0+1,st+1+1,X,g,C,rfl,J,Bz,B8,Bn,A9,by simp,Ab,?_,?_,?_,?_,F⟩
   ·rw[Hw J];exact gg
   ·rw[H0 J];simp[wkC]
   ·have hW:Qc (Uu vs++wkB w (0+1))=Qc (Uu vs++wkB w 0)++(⟨w,2,false⟩:Bf).f:=by simp[Qc,wkB]
    rw[hW];exact K.set_lt J
   ·exact gA.set_lt J
  ·have D1:=H.push_end (ob:=[LObj.dyn [.i w,.i 2,.bool true] 1 3 0 0]);have U:=D.push_end (ob:=[LObj.dyn [.i w,.i 2,.bool true] 1 3 0 0]);simp[L,R,T,M,h7,E,↓p1,wkC];have m0:=p0 [LObj.dyn [.i w,.i 2,.bool true] 1 3 0 0];have m1:=p1 [LObj.dyn [.i w,.i 2,.bool true] 1 3 0 0];have ml:(P++[LObj.dyn [.i w,.i 2,.bool true] 1 3 0 0]).length=P.length+1:=by simp
   have I:=λq A (e:C=.dy q A)=>(D.lt e).2
   generalize P++[LObj.dyn [.i w,.i 2,.bool true] 1 3 0 0]=GA at *;refine D1.push2 (c:=1) (x:=(⟨w,2,true⟩:Bf).f) J J J rfl rfl λg V K Z gE s1 gF=>?_
   have n1:∀q,q<2→∀A,O≠.dy q A:=λq hq A e=>Fa
   have gg:=(Z 0 J (n1 0 J)).trans m0;have gz:=(Z 1 J (n1 1 J)).trans m1;have gA:=U.keep (G':=V) (λq A e=>Z q (U.lt e).2 (λj G=>B q j q A G e rfl));have F:∀q A z j,g=.dy q A→C=.dy z j→q≠z:=λq A z j e G=>by
    rcases s1 q A e with h|⟨j2,h⟩
    ·have:=I z j G;omega
    ·exact B q j2 z j h G
   have gC:=K.cells;have gG:=U.cells;have x1:∀x,(V.set 1 x)[1]?=some x:=λx=>H0 J
   simp[-LV.cells,L,R,T,M,h7,gz,gC,↓x1,wkC];simp[Oq]
   repeat (refine⟨J,?_⟩)
   refine Y _ _ _ ⟨N-1,J,1+1,st+1+1,X,g,C,rfl,J,Bz,B8,Bn,A9,by simp,Ab,?_,?_,?_,?_,F⟩
   ·rw[Hw J];exact gg
   ·rw[H0 J];simp[wkC]
   ·have hW:Qc (Uu vs++wkB w (1+1))=Qc (Uu vs++wkB w 1)++(⟨w,2,true⟩:Bf).f:=by simp[Qc,wkB]
    rw[hW];exact K.set_lt J
   ·exact gA.set_lt J
  ·have jg:=H.bor;have gO:=D.bor;have y0:∀x,(P.set 0 x)[0]?=some x:=λx=>H0 J
   simp[L,R,T,M,h7,Q,E,wkC,↓y0];have b1:=(H.set_lt (q:=0) (ob:=.cells [O,C,.i vs.length,.i 0,.i w,.i (vs.length+1),.i 0,.i w] (X+1)) J).bor;have b2:=(D.set_lt (q:=0) (ob:=.cells [O,C,.i vs.length,.i 0,.i w,.i (vs.length+1),.i 0,.i w] (X+1)) J).bor;refine⟨_,_,rfl,?_,_,rfl,?_⟩
   ·have e1:(Uu vs++[(⟨w,2,false⟩:Bf),⟨w,2,true⟩]).length=vs.length+2:=by simp[Uu]
    rw[e1];exact b1
   ·have e2:(Re vs).length=vs.length:=by simp[Re]
    rw[e2];exact b2

def zd0:LC:=(.q [.K 4 0] (.seq (.q [.m 8 0,.s 9 8,.m 10 1,.s 11 10,.z 12 (.maxi true (.t 9) (.t 11)),.b 13 .sub 3 12 1,.m 5 13] (.block 0 (.loop (.seq (.q [.m 14 5,.b 15 .geq 3 14 0] (.cond (.t 15) .skip (.exit 0))) (.seq (.block 1 (.q [.m 18 0,.m 19 5,.W 20 130 18 19,.m 21 1,.m 22 5,.W 23 130 21 22,.m 6 20,.m 7 23] (.seq (.q [.m 24 6,.m 25 7,.c 26 .lss 23 24 25] (.cond (.t 26) (.q [.K 4 (-1)] .ret) .skip)) (.q [.m 27 6,.m 28 7,.c 29 .gtr 23 27 28] (.cond (.t 29) (.q [.K 4 1] .ret) .skip))))) (.ops [.m 16 5,.b 17 .sub 3 16 1,.m 5 17])))))) (.q [.K 4 0] .ret)))
def r_ref02_Compare:Ng Tryz.prog 66=some ⟨30,zd0.r,[.tmp 4]⟩:=Aa
def zjd:LC:=(.q [.e 4,.K 5 0] (.seq (.q [.m 10 0,.m 11 1,.W 12 66 10 11,.b 13 .lss 3 12 0] (.cond (.t 13) (.q [.e 4,.K 5 2] .ret) .skip)) (.q [.e 6] (.q [.F 7] (.seq (.q [.K 8 0] (.block 0 (.loop (.seq (.q [.m 14 8,.m 15 0,.s 16 15,.m 17 1,.s 18 17,.z 19 (.maxi true (.t 16) (.t 18)),.c 20 .lss 3 14 19] (.cond (.t 20) .skip (.exit 0))) (.seq (.block 1 (.q [.z 9 (.move (.c (.u 0)))] (.q [.m 24 0,.m 25 8,.W 26 130 24 25,.m 27 1,.m 28 8,.W 29 130 27 28,.m 30 7,.V 31 147 26 29 30,.m 23 31,.X 32 0 23,.X 33 1 23,.m 9 32,.m 7 33] (.ops [.m 34 6,.m 35 9,.z 36 (.buildSl 1 1 [(.u 0)] [(0,1,.t 35)]),.a 37 1 34 36,.m 6 37])))) (.ops [.m 21 8,.b 22 .add 3 21 1,.m 8 22])))))) (.q [.m 38 6,.w 39 84 38,.m 4 39,.K 5 0] .ret))))))
def r_ref02_Sub:Ng Tryz.prog 83=some ⟨40,zjd.r,[.tmp 4,.tmp 5]⟩:=Aa
def zi3:LC:=(.q [.K 2 0] (.q [.m 3 0,.w 4 84 3,.m 0 4] (.seq (.q [.m 5 0,.s 6 5,.b 7 .eql 3 6 0] (.cond (.t 7) (.q [.K 2 0] .ret) .skip)) (.q [.m 8 0,.s 9 8,.b 10 .sub 3 9 1,.z 11 (.bin .mul true 3 (.k 64) (.t 10)),.m 12 0,.m 13 0,.s 14 13,.b 15 .sub 3 14 1,.I 16 1 12 15,.l 17 16,.w 18 146 17,.c 19 .add 3 11 18,.m 2 19] .ret))))
def r_ref02_Bits:Ng Tryz.prog 80=some ⟨20,zi3.r,[.tmp 2]⟩:=Aa
def zes:LC:=(.q [.F 4] (.q [.m 5 1,.b 6 .geq 3 5 0,.m 7 6,.my 8 7 0,.my 9 7 1,.y 10 7 (.bin .quo true 3 (.t 9) (.k 64)),.y 11 7 (.w 130 [.t 8,.t 10]),.my 12 7 1,.y 13 7 (.bin .rem true 3 (.t 12) (.k 64)),.y 14 7 (.cvInt .u64 (.t 13)),.y 15 7 (.bin .shr false 23 (.t 11) (.t 14)),.y 16 7 (.bin .and true 23 (.t 15) (.c (.u 1))),.y 17 7 (.bin .eql true 23 (.t 16) (.c (.u 1))),.q 18 7 17,.m 4 18] .ret))
def r_ref02_Bit:Ng Tryz.prog 82=some ⟨19,zes.r,[.tmp 4]⟩:=Aa
def zg6(a:List UInt64)(D:a.length≤1000000):Nl 80 [LU a] (.i (Pu (val a))) []:=by
 refine Of.val rfl (Ni r_ref02_Bits Aa N ?_);simp[zi3];refine Nt (nq a J) N ?_;have E:=z6k a;cases g:(O4 (val a)).length with
 |zero =>
  have C:val a=0:=zyl.1 (Ip g);simp[RU,C,toL_zero,blen_zero]
 |succ n =>
  have B:=ss (zs (val a)) g;rw[X5]at B;have z:¬((n:Int)+1=0):=J
  have A:((n:Int)+1-1).toNat=n:=J
  have j:O4 (val a)≠[]:=λe=>by rw[e]at g;simp at g
  simp[RU,g,z,A,j];refine⟨J,J,J,J,?_⟩;refine Nt (zp5 ((O4 (val a)).getD n 0)) Av ?_;have F:Pu ((O4 (val a)).getD n 0).toNat≤64:=zpn (UInt64.toNat_lt _);rw[B];generalize Pu ((O4 (val a)).getD n 0).toNat=x at *;simp;omega
def zc7(a:List UInt64)(i:Int)(hi:i<9223372036854775808):Nl 82 [LU a,.i i] (.bool (decide (0≤i)&&(val a).testBit i.toNat)) []:=by
 refine Of.val rfl (Ni r_ref02_Bit Aa N ?_);by_cases j:0≤i
 ·obtain⟨n,rfl⟩:=Hz j;have A:=bit_at a n;have z:(n:Int)/64=(n/64:Nat):=J
  have B:(n:Int).tmod 64=(n%64:Nat):=by rw[M3 J];omega
  have hu:=bit_u' (a.getD (n/64) 0) (n%64);rw[A]at hu;have g:(iU ((n%64:Nat):Int)).toNat=n%64:=V4 J;simp[zes];refine⟨J,?_⟩;rw[z];refine Nt (z3a a (n/64:Nat)) N ?_;simp;rw[z,B,g];simp at hu;simp only[In,Jq,Jo];rw[hu];cases (val a).testBit n<;>simp
 ·simp[zes,j]
def z2p(a b:List UInt64)(F:a.length≤1000000)(G:b.length≤1000000):Nl 66 [LU a,LU b] (.i (Qs (val a) (val b))) []:=by
 refine Of.val rfl (Ni r_ref02_Compare Aa (by simp) ?_);simp[zd0];refine⟨J,?_⟩;refine O5 (λD E H N=>E=[]∧N≤1000000∧lk D 0=LU a∧lk D 1=LU b∧lk D 5=.i ((N:Int)-1)∧Qs (val a) (val b)=Qs (val (a.take N)) (val (b.take N))) (N:=max a.length b.length) ⟨by simp,J,by simp,by simp,Ab,by rw[z38 J,z38 J]⟩ ?_;rintro N D E H ⟨rfl,I,C,z,j,g⟩ K A;cases N with
 |zero =>
  simp[j];rw[g];simp[val,Qs]
 |succ N =>
  have e:((N+1:Nat):Int)-1=N:=J
  rw[e]at j;simp[C,z,j];refine Nt (z3a a N) (by simp) ?_;simp[z,j];refine Nt (z3a b N) (by simp) ?_;rw[qv]at g;simp at g;simp;rw[g];generalize a[N]?.getD 0=x at *;generalize b[N]?.getD 0=y at *;refine⟨λl=>by rw[H7 l],λl=>⟨λB=>by rw[Hx (M5.2 l),H7 B],λB=>?_⟩⟩;rw[Hx (M5.2 l),Hx (M5.2 B)]at g;simp[j];exact⟨J,A _ _ _ ⟨N,J,rfl,J,Al,Ae,by simp,g⟩⟩
def zhz(a b:List UInt64)(K:a.length≤1000000)(L:b.length≤1000000):Nl 83 [LU a,LU b] (.tup [.dy 0 0,.i (if val a<val b then 2 else 0)]) [RU (if val a<val b then [] else O4 (val a-val b))]:=by
 refine Of.rowE (Ni r_ref02_Sub Aa (by simp) ?_);simp[zjd];refine Nt (z2p a b K L) (by simp) ?_;by_cases z:val a<val b
 ·simp[zoe,z,Se]
 simp[zoe,zkx,z];refine O5 (λH U V I=>∃(i:Nat) (c:Bool) (g:List UInt64),U=[]∧I+i=max a.length b.length∧lk H 0=LU a∧lk H 1=LU b∧lk H 8=.i i∧lk H 7=.bool c∧Se V (lk H 6) g∧g.length=i ∧
  val g+val (b.take i)=val (a.take i)+2^(64*i)*c.toNat) (N:=max a.length b.length) ⟨0,false,[],by simp[Se,val]⟩ ?_
 rintro I H U V ⟨i,c,g,rfl,X,D,B,C,M,E,j,hv⟩ Y F;by_cases O:I=0
 ·subst O;have G:¬(i:Int)<max (a.length:Int) (b.length:Int):=J
  simp[D,B,C,G];obtain⟨P,Q⟩:=y5 (m:=i) J J j hv;refine z9x (nq g J) (zyd E.bor) ?_;have R:c=false:=by cases c with
   |true=>exact absurd (P.1 rfl) z
   |false=>rfl
  rw[Q R];simpa using Se.new
 ·have A:(i:Int)<max (a.length:Int) (b.length:Int):=J
  simp[D,B,C,A];refine Nt (z3a a i) (by simp) ?_;simp[B,C];refine Nt (z3a b i) (by simp) ?_;simp[M];refine Nt (zhl (a.getD i 0) (b.getD i 0) c) (by simp) ?_;simp[E];refine zw0 (E.app _) (xs:=[(Ov (a.getD i 0) (b.getD i 0) c).1]) rfl (by simp) J (λZ G' T _=>?_);simp[C];refine⟨J,F _ _ _ ⟨I-1,J,i+1,(Ov (a.getD i 0) (b.getD i 0) c).2,_,rfl,J,At,Ao,by simp,by simp,by simpa using T,Af,pt j hv⟩⟩
def zkz:LC:=(.q [.e 4] (.q [.m 15 0,.w 16 84 15,.m 17 1,.w 18 84 17,.m 0 16,.m 1 18] (.q [.m 19 0,.s 20 19,.m 21 1,.s 22 21,.c 23 .add 3 20 22,.z 24 (.mkSl 1 [(.u 0)] (.t 23) (.t 23)),.m 5 24] (.seq (.q [.K 6 0] (.block 0 (.loop (.seq (.q [.m 25 6,.m 26 0,.s 27 26,.c 28 .lss 3 25 27] (.cond (.t 28) .skip (.exit 0))) (.seq (.block 1 (.q [.z 7 (.move (.c (.u 0)))] (.seq (.q [.K 8 0] (.block 2 (.loop (.seq (.q [.m 31 8,.m 32 1,.s 33 32,.c 34 .lss 3 31 33] (.cond (.t 34) .skip (.exit 2))) (.seq (.block 3 (.seq (.draw [(.m 38 0,[]),(.m 39 6,[]),(.I 40 1 38 39,[]),(.l 41 40,[]),(.m 42 1,[]),(.m 43 8,[]),(.I 44 1 42 43,[]),(.l 45 44,[]),(.W 46 91 41 45,[]),(.m 37 46,[]),(.X 47 0 37,[]),(.X 48 1 37,[]),(.m 9 47,[]),(.m 10 48,[])]) (.q [.m 50 5,.m 51 6,.m 52 8,.c 53 .add 3 51 52,.I 54 1 50 53,.l 55 54,.m 56 10,.z 57 (.w 92 [.t 55,.t 56,.F]),.m 49 57,.X 58 0 49,.X 59 1 49,.m 11 58,.m 12 59] (.q [.m 61 11,.m 62 7,.z 63 (.w 92 [.t 61,.t 62,.F]),.m 60 63,.X 64 0 60,.X 65 1 60,.m 13 64,.m 14 65] (.q [.m 66 5,.m 67 6,.m 68 8,.c 69 .add 3 67 68,.m 70 13,.I 71 1 66 69,.S 1 71 70] (.q [.m 73 9,.m 74 12,.z 75 (.w 92 [.t 73,.c (.u 0),.t 74]),.m 72 75,.X 76 0 72,.X 77 1 72,.m 7 76] (.ops [.m 79 7,.m 80 14,.z 81 (.w 92 [.t 79,.c (.u 0),.t 80]),.m 78 81,.X 82 0 78,.X 83 1 78,.m 7 82]))))))) (.ops [.m 35 8,.b 36 .add 3 35 1,.m 8 36])))))) (.ops [.m 84 5,.m 85 6,.m 86 1,.s 87 86,.c 88 .add 3 85 87,.m 89 7,.I 90 1 84 88,.S 1 90 89])))) (.ops [.m 29 6,.b 30 .add 3 29 1,.m 6 30])))))) (.q [.m 91 5,.w 92 84 91,.m 4 92] .ret)))))
def r_ref02_Mul:Ng Tryz.prog 31=some ⟨93,zkz.r,[.tmp 4]⟩:=Aa
def zso(G H:List UInt64)(gH:G.length≤500000)(gI:H.length≤500000):Nl 31 [LU G,LU H] (.dy 0 0) [RU (O4 (val G*val H))]:=by
 refine Of.row (Ni r_ref02_Mul Aa (by simp) ?_);simp[zkz];refine Nt (nq G J) (by simp) ?_;simp[RU];refine Nt (nq H J) (by simp) ?_;have U:=z6k G;have V:=z6k H;obtain⟨a,X⟩:∃a,O4 (val G)=a:=⟨_,rfl⟩;obtain⟨b,Y⟩:∃b,O4 (val H)=b:=⟨_,rfl⟩;have va:val G=val a:=by rw[←X,X5]
 have vb:val H=val b:=by rw[←Y,X5]
 rw[X]at U;rw[Y]at V;rw[X,Y,va,vb];have ha:a.length≤500000:=J
 have hb:b.length≤500000:=J
 simp[RU];refine⟨J,J,J,?_⟩;have Z:((a.length:Int)+b.length).toNat=a.length+b.length:=J
 simp[Z,repU];refine O5 (λL gE gF N=>∃(i:Nat) (g:List UInt64) (st:Nat),gE=[]∧N+i=a.length∧gF=[.dyn (g.map .u) (a.length+b.length) 1 0 st]∧lk L 0=LU a∧lk L 1=LU b∧lk L 5=.dy 0 0∧lk L 6=.i i∧zfj a b i 0 g 0) (N:=a.length) ⟨0,List.replicate (a.length+b.length) 0,0,by simp[fu]⟩ ?_;rintro N L gE gF ⟨i,g,st,rfl,hN,rfl,I,M,E,D,K⟩ Nx gg;have O:=K.1;by_cases hz:N=0
 ·have hi:i=a.length:=J
  subst hi;simp[D,I,E];refine z9x (nq g J) (zyd (Se.bor (l:=g) (.inr ⟨0,0,st,rfl,Dl⟩))) ?_;rw[uv K];simp;exact .inr ⟨1,0,0,rfl,Eh⟩
 have hi:i<a.length:=J
 simp[D,I,hi];refine O5 (λL gE gF gG=>∃(k:Nat) (g:List UInt64) (j:UInt64) (st:Nat),gE=[]∧gG+k=b.length∧gF=[.dyn (g.map .u) (a.length+b.length) 1 0 st]∧lk L 0=LU a∧lk L 1=LU b∧lk L 5=.dy 0 0∧lk L 6=.i i∧lk L 7=.u j∧lk L 8=.i k∧zfj a b i k g j) (N:=b.length) ⟨0,g,0,st,by simp[I,M,E,D,K]⟩ ?_;rintro gG L gE gF ⟨k,g,j,st,rfl,gK,rfl,I,M,E,D,h7,P,K⟩ Mx gz;have O:=K.1;by_cases gL:gG=0
 ·have Q:k=b.length:=J
  subst Q;have B:i+b.length<g.length:=J
  have z:((i:Int)+b.length).toNat=i+b.length:=J
  have A:=layU g (i+b.length) j B;simp[P,E,D,M,h7,z,A];refine⟨J,J,J,J,J,?_⟩;exact gg _ _ _ ⟨N-1,J,i+1,g.set (i+b.length) j,st+1,rfl,J,by simp,Bd,A9,Ak,by simp,fj hi K⟩
 have Q:k<b.length:=J
 have B:i+k<g.length:=J
 have z:((i:Int)+k).toNat=i+k:=J
 have C:=gr hi Q K;have A:=layU g (i+k) (Ut (g.getD (i+k) 0) (a.getD i 0) (b.getD k 0) j).1 B;have F:(Ut (g.getD (i+k) 0) (a.getD i 0) (b.getD k 0) j).1=(Nr (Nr (g.getD (i+k) 0) (a.getD i 0*b.getD k 0) false).1 j false).1:=rfl;have R:(Ut (g.getD (i+k) 0) (a.getD i 0) (b.getD k 0) j).2=(Nr (Nr (T2 (a.getD i 0) (b.getD k 0)) 0 (Nr (g.getD (i+k) 0) (a.getD i 0*b.getD k 0) false).2).1 0 (Nr (Nr (g.getD (i+k) 0) (a.getD i 0*b.getD k 0) false).1 j false).2).1:=rfl;have gA:a[i]=a.getD i 0:=by simp[hi]
 have gC:b[k]=b.getD k 0:=F6
 have gD:g[i+k]=g.getD (i+k) 0:=Ao
 generalize a.getD i 0=x at *;generalize b.getD k 0=y at *;generalize g.getD (i+k) 0=o at *;simp[P,I,M,Q,D,hi];rw[gA,gC];refine Nt (zi6 x y) (by simp) ?_;simp[E,D,P,z,B];rw[gD];refine⟨J,J,J,?_⟩;refine Nt (z53 o (x*y) false) (by simp) ?_;generalize Nr o (x*y) false=T at *;simp[h7];refine Nt (z53 T.1 j false) (by simp) ?_;generalize Nr T.1 j false=r2 at *;rw[F]at A;simp[E,D,P,z,A];refine⟨J,J,J,J,?_⟩;refine Nt (z53 (T2 x y) 0 T.2) (by simp) ?_;generalize Nr (T2 x y) 0 T.2=r3 at *;simp;refine Nt (z53 r3.1 0 r2.2) (by simp) ?_;generalize Nr r3.1 0 r2.2=r4 at *;simp[P];refine⟨J,?_⟩;rw[F,R]at C;exact gz _ _ _ ⟨gG-1,J,k+1,g.set (i+k) r2.1,r4.1,st+1,rfl,J,by simp,Bd,A9,Ak,At,by simp,by simp,C⟩
def zlw:LC:=(.q [.e 4,.e 5,.K 6 0] (.seq (.q [.m 10 1,.z 11 (.w 66 [.t 10,(.c .nilSl)]),.b 12 .eql 3 11 0] (.cond (.t 12) (.q [.e 4,.e 5,.K 6 2] .ret) .skip)) (.q [.m 13 0,.s 14 13,.z 15 (.mkSl 1 [(.u 0)] (.t 14) (.t 14)),.z 16 (.buildSl 1 0 [] []),.m 7 15,.m 8 16] (.seq (.q [.m 17 0,.w 18 80 17,.b 19 .sub 3 18 1,.m 9 19] (.block 0 (.loop (.seq (.q [.m 20 9,.b 21 .geq 3 20 0] (.cond (.t 21) .skip (.exit 0))) (.seq (.block 1 (.q [.m 24 8,.m 25 8,.W 26 81 24 25,.m 8 26] (.seq (.q [.m 27 0,.m 28 9,.W 29 82 27 28] (.cond (.t 29) (.ops [.m 30 8,.z 31 (.buildSl 1 1 [(.u 0)] [(0,1,.c (.u 1))]),.W 32 81 30 31,.m 8 32]) .skip)) (.q [.m 33 8,.m 34 1,.W 35 66 33 34,.b 36 .geq 3 35 0] (.cond (.t 36) (.q [.m 38 8,.m 39 1,.W 40 83 38 39,.m 37 40,.X 41 0 37,.X 42 1 37,.m 8 41] (.ops [.m 43 7,.m 44 9,.b 45 .quo 3 44 64,.m 46 7,.m 47 9,.b 48 .quo 3 47 64,.I 49 1 46 48,.l 50 49,.m 51 9,.b 52 .rem 3 51 64,.z 53 (.cvInt .u64 (.t 52)),.z 54 (.bin .shl true 23 (.c (.u 1)) (.t 53)),.c 55 .or 23 50 54,.I 56 1 43 45,.S 1 56 55])) .skip))))) (.ops [.m 22 9,.b 23 .sub 3 22 1,.m 9 23])))))) (.q [.m 57 7,.w 58 84 57,.m 59 8,.w 60 84 59,.m 4 58,.m 5 60,.K 6 0] .ret)))))
def r_ref02_Div:Ng Tryz.prog 28=some ⟨61,zlw.r,[.tmp 4,.tmp 5,.tmp 6]⟩:=Aa
def ua(g:M7)(v:LV)(r:List UInt64):Prop:=(v=.dy 1 0∧r=[]∧∃st,g[1]?=some (.dyn [] 0 1 0 st))∨v=LU r
def ua.bor{G:M7}{v:LV}{r:List UInt64}(h:ua G v r):bor G v (LU r):=by
 rcases h with ⟨rfl,rfl,st,hg⟩|rfl
 ·exact⟨_,_,_,st,rfl,hg,N⟩
 ·exact⟨rfl,N⟩
def zi7(a b:List UInt64)(ha:a.length≤10000)(hb:b.length≤10000):Nl 28 [LU a,LU b] (.tup [.dy 0 0,.dy 1 0,.i (if val b=0 then 2 else 0)]) [RU (if val b=0 then [] else O4 (val a/val b)),RU (if val b=0 then [] else O4 (val a%val b))]:=by
 refine Of.row2E (Ni r_ref02_Div Aa (by simp) ?_);simp[zlw];refine Nt (z2p b [] J (by simp)) (cw (by simp) (.inr ⟨1,by simp⟩)) ?_;by_cases h0:val b=0
 ·simp[h0,val,Zk,Se];exact⟨_,_,⟨rfl,rfl⟩,rfl,rfl,by simp⟩
 simp[h0,val,Zk,repU];refine⟨J,?_⟩;refine Nt (zg6 a J) (by simp) ?_;have gA:=zpn (val_lt a);simp;refine⟨J,?_⟩;refine O5 (λρ gO gC N=>∃(q r:List UInt64) (v:LV) (st:Nat),gO=[]∧N≤64*a.length∧lk ρ 0=LU a∧lk ρ 1=LU b∧lk ρ 7=.dy 0 0∧gC[0]?=some (.dyn (q.map .u) a.length 1 0 st)∧q.length=a.length∧lk ρ 8=v∧ua gC v r∧lk ρ 9=.i ((N:Int)-1)∧r.length≤b.length∧zia (val a) (val b) N q (val r)) (N:=Pu (val a)) ⟨List.replicate a.length 0,[],.dy 1 0,0,by simp[ua,val,gA];exact zzr⟩ ?_;rintro N ρ gO gC ⟨q,r,v,st,rfl,hN,F,O,U,X,z,h8,hr,P,gD,Y⟩ Nx M;cases N with
 |zero =>
  obtain⟨e1,e2⟩:=div_end Y;simp[P,U];refine z9x (nq q J) (zyd (Se.bor (l:=q) (.inr ⟨0,0,st,rfl,by rw[z];exact X⟩))) ?_;have gE:ua (gC++[RU (O4 (val q))]) v r:=by
   rcases hr with ⟨x,y,s,gP⟩|x
   ·exact .inl ⟨x,y,s,gapp gP _⟩
   ·exact .inr x
  simp[h8];refine z9x (nq r J) (zyd gE.bor) ?_;rw[e1,e2];simp;exact⟨_,_,⟨rfl,rfl⟩,.inr ⟨_,0,0,rfl,Eh⟩,.inr ⟨_,0,0,rfl,Eh⟩,by simp⟩
 |succ n =>
  have e:((n+1:Nat):Int)-1=n:=J
  rw[e]at P;have Z:((n:Int)/64).toNat=n/64:=J
  have gg:(n:Int).tmod 64=(n%64:Nat):=by rw[M3 J];omega
  have gz:(iU ((n:Int)%64)).toNat=n%64:=by rw[(J:(n:Int)%64=(n%64:Nat))];exact V4 J
  have Q:n/64<a.length:=J
  have D:n/64<q.length:=J
  have hB:0<val b:=J
  have gG:val r<val b:=by rw[Y.1];exact J1 _ hB
  have gF:=z5c gD;have gH:=val_lt b;have gI:2^(64*(b.length+1))=2^(64*b.length)*18446744073709551616:=Xy _;obtain⟨s,C⟩:∃s,2*val r+((val a).testBit n).toNat=s:=⟨_,rfl⟩;have gK:((val a).testBit n).toNat≤1:=M6 _;have gL:(O4 s).length≤b.length+1:=z2c J;have E:val (O4 s)=s:=X5 s;have gM:(O4 (val r+val r)).length≤b.length+1:=z2c J;have hk:∀q':List UInt64,s<val b→zia (val a) (val b) n q' s→(O4 s).length≤b.length:=λq' h _=>z2c J
  have R:(O4 (s-val b)).length≤b.length:=z2c J;have G:∀x,(gC++x)[0]?=some (.dyn (q.map .u) a.length 1 0 st):=λx=>gapp X x
  have T : ∀(x : M7) (h : 0<(gC ++ x).length), (gC ++ x)[0]'h = .dyn (q.map .u) a.length 1 0 st := λx h => (Hu.1 (G x)).2
  simp[h8,P];refine Nt (zib r r J J) (cw hr.bor hr.bor) ?_;simp[RU,F,P];refine Nt (zc7 a n J) (by simp) ?_;cases g:(val a).testBit n
  ·rw[g]at C;have es:val r+val r=s:=by simp at C;omega
   simp[g,es,O];refine Nt (z2p (O4 s) b J J) (by simp) ?_;rw[E];by_cases A:val b≤s
   ·have j:0≤Qs s (val b):=zkx.2 A;have H:¬s<val b:=J
    have I:=zvw (q:=q) hB D Y (by rw[g,C];exact A);rw[g,C]at I;have K:=layU q (n/64) (ke (q.getD (n/64) 0) (Sk 1 (n%64))) D;have V:q[n/64]=q.getD (n/64) 0:=At
    generalize q.getD (n/64) 0=x at *;simp[j,O];refine Nt (zhz (O4 s) b J J) (by simp) ?_;rw[E];simp[RU,H,U,P,Z,gg,gz,X,G,T,Q,z,V,K];refine⟨J,J,J,J,J,J,J,M _ _ _ ⟨n,J,q.set (n/64) (ke x (Sk 1 (n%64))),O4 (s-val b),LU (O4 (s-val b)),st+1,rfl,J,Ah,Dl,Bv,by rw[gset X];simp,Ae,by simp,.inr rfl,by simp,R,by rw[X5];exact I⟩⟩
   ·have L:s<val b:=J
    have j:¬0≤Qs s (val b):=λh=>A (zkx.1 h)
    have B:=zwd (q:=q) hB Y (by rw[g,C];exact L);rw[g,C]at B;simp[j,P];exact⟨J,M _ _ _ ⟨n,J,q,O4 s,LU (O4 s),st,rfl,J,Ah,Dl,Bv,X,z,by simp,.inr rfl,by simp,hk q L (by rw[g,C]at *;exact B),by rw[E];exact B⟩⟩
  ·rw[g]at C;have es:val (O4 (val r+val r))+val [1]=s:=by rw[X5,ztj];simp at C ⊢;omega
   simp[g];refine Nt (zib (O4 (val r+val r)) [1] J (by simp)) (cw (by simp) (Se.bor (l:=[1]) (.inr ⟨_,0,0,rfl,by simp⟩))) ?_;rw[es];simp[RU,O];refine Nt (z2p (O4 s) b J J) (by simp) ?_;rw[E];by_cases A:val b≤s
   ·have j:0≤Qs s (val b):=zkx.2 A;have H:¬s<val b:=J
    have I:=zvw (q:=q) hB D Y (by rw[g,C];exact A);rw[g,C]at I;have K:=layU q (n/64) (ke (q.getD (n/64) 0) (Sk 1 (n%64))) D;have V:q[n/64]=q.getD (n/64) 0:=At
    generalize q.getD (n/64) 0=x at *;simp[j,O];refine Nt (zhz (O4 s) b J J) (by simp) ?_;rw[E];simp[RU,H,U,P,Z,gg,gz,X,G,T,Q,z,V,K];refine⟨J,J,J,J,J,J,J,M _ _ _ ⟨n,J,q.set (n/64) (ke x (Sk 1 (n%64))),O4 (s-val b),LU (O4 (s-val b)),st+1,rfl,J,Ah,Dl,Bv,by rw[gset (G _)];simp,Ae,by simp,.inr rfl,by simp,R,by rw[X5];exact I⟩⟩
   ·have L:s<val b:=J
    have j:¬0≤Qs s (val b):=λh=>A (zkx.1 h)
    have B:=zwd (q:=q) hB Y (by rw[g,C];exact L);rw[g,C]at B;simp[j,P];exact⟨J,M _ _ _ ⟨n,J,q,O4 s,LU (O4 s),st,rfl,J,Ah,Dl,Bv,(G _),z,by simp,.inr rfl,by simp,hk q L (by rw[g,C]at *;exact B),by rw[E];exact B⟩⟩
def zi4:LC:=(.q [.e 4,.K 5 0] (.q [.m 10 0,.m 11 1,.W 12 28 10 11,.m 9 12,.X 13 0 9,.X 14 1 9,.X 15 2 9,.m 6 13,.m 7 14,.m 8 15] (.q [.m 16 7,.m 17 8,.m 4 16,.m 5 17] .ret)))
def r_ref03_rest:Ng Tryz.prog 93=some ⟨18,zi4.r,[.tmp 4,.tmp 5]⟩:=Aa
def zjb:LC:=(.q [.e 6,.K 7 0] (.q [.m 8 0,.m 9 1,.W 10 31 8 9,.m 11 2,.W 12 93 10 11,.X 13 0 12,.X 14 1 12,.m 6 13,.m 7 14] .ret))
def r_ref03_Mul:Ng Tryz.prog 54=some ⟨15,zjb.r,[.tmp 6,.tmp 7]⟩:=Aa
def ztm(a b:List UInt64):(O4 (val a*val b)).length≤a.length+b.length:=by
 refine z2c ?_;have g:=val_lt a;have j:=val_lt b;rw[Lk,Kq];exact Nat.mul_lt_mul'' g j
def zg1(a n:List UInt64)(g:a.length≤10000)(j:n.length≤10000):Nl 93 [LU a,LU n] (.tup [.dy 0 0,.i (mE (val n))]) [RU (mR (val n) (val a%val n))]:=by
 refine Of.rowE (Ni r_ref03_rest Aa N ?_);simp[zi4];refine zf9 (zi7 a n g j) N ?_;by_cases h:val n=0
 ·simp[h,mE,mR];exact .inr ⟨1,0,0,rfl,Eh⟩
 ·simp[h,mE,mR];exact .inr ⟨1,0,0,rfl,Eh⟩
def zhe(a b n:List UInt64)(g:a.length≤4000)(j:b.length≤4000)(z:n.length≤4000):Nl 54 [LU a,LU b,LU n] (.tup [.dy 0 0,.i (mE (val n))]) [RU (mR (val n) (val a*val b%val n))]:=by
 refine Of.rowE (Ni r_ref03_Mul Aa N ?_);have A:=ztm a b;simp[zjb];refine Nt (zso a b J J) N ?_;simp[RU];refine zf9 (zg1 (O4 (val a*val b)) n J J) N ?_;simp[X5];exact .inr ⟨0,0,0,rfl,Eh⟩
def zjj:LC:=(.q [.e 6,.K 7 0] (.q [.z 12 (.buildSl 1 1 [(.u 0)] [(0,1,.c (.u 1))]),.m 13 2,.W 14 93 12 13,.m 11 14,.X 15 0 11,.X 16 1 11,.m 8 15,.m 9 16] (.seq (.q [.m 17 9,.b 18 .neq 35 17 0] (.cond (.t 18) (.q [.m 19 9,.e 6,.m 7 19] .ret) .skip)) (.seq (.q [.m 20 1,.w 21 80 20,.b 22 .sub 3 21 1,.m 10 22] (.block 0 (.loop (.seq (.q [.m 23 10,.b 24 .geq 3 23 0] (.cond (.t 24) .skip (.exit 0))) (.seq (.block 1 (.q [.m 28 8,.m 29 8,.m 30 2,.V 31 54 28 29 30,.m 27 31,.X 32 0 27,.X 33 1 27,.m 8 32] (.q [.m 34 1,.m 35 10,.W 36 82 34 35] (.cond (.t 36) (.ops [.m 38 8,.m 39 0,.m 40 2,.V 41 54 38 39 40,.m 37 41,.X 42 0 37,.X 43 1 37,.m 8 42]) .skip)))) (.ops [.m 25 10,.b 26 .sub 3 25 1,.m 10 26])))))) (.q [.m 44 8,.m 6 44,.K 7 0] .ret)))))
def r_ref03_Pow:Ng Tryz.prog 179=some ⟨45,zjj.r,[.tmp 6,.tmp 7]⟩:=Aa
def zsx(a x n:List UInt64)(O:a.length≤2000)(P:x.length≤2000)(Q:n.length≤2000):O1 179 [LU a,LU x,LU n] (.tup [LU (mR (val n) (val a^val x%val n)),.i (mE (val n))]):=by
 refine R7.mk (by simp[LV.dat]) (Ni r_ref03_Pow Aa (by simp) ?_);simp[zjj];refine Nt (zg1 [1] n (by simp) J) (cw (Se.bor (l:=[1]) (.inr ⟨_,0,0,rfl,by simp⟩)) (by simp)) ?_;by_cases h:val n=0
 ·simp[RU,h,mE,mR]
 have z:=λy=>zdo (b:=n) (J1 y (J:0<val n))
 simp[RU,mE_p h,mR_p h,ztj];refine Nt (zg6 x J) (by simp) ?_;have F:=zpn (val_lt x);simp;refine⟨J,?_⟩;refine O5 (λK M R N=>M=[]∧N≤64*x.length∧lk K 0=LU a∧lk K 1=LU x∧lk K 2=LU n∧lk K 8=LU (O4 (val a^(val x/2^N)%val n))∧lk K 10=.i ((N:Int)-1)) (N:=Pu (val x)) ⟨by simp,F,by simp,by simp,by simp,by simp[←zzj],by simp⟩ ?_;rintro N K M R ⟨rfl,T,G,H,C,D,g⟩ U A;cases N with
 |zero =>
  simp at D g;simp[D,g]
 |succ N =>
  have e:((N+1:Nat):Int)-1=N:=J
  rw[e]at g;obtain⟨r,E⟩:∃r,val a^(val x/2^(N+1))%val n=r:=⟨_,rfl⟩;have L:(O4 r).length≤n.length:=by rw[←E];exact z _
  rw[E]at D;simp[g,D,C];refine Nt (zhe (O4 r) (O4 r) n J J J) (by simp) ?_;simp[RU,X5,mE_p h,mR_p h,H,g];refine Nt (zc7 x N J) (by simp) ?_;cases j:(val x).testBit N
  ·have I:=pow_sq E.symm j;simp[j,g];refine⟨J,A _ _ _ ⟨N,J,rfl,J,A6,Ba,Al,Bd,by simp⟩⟩
  ·have I:=pow_sqm E.symm j;have B:=I;simp at B;simp[j,G,C];refine Nt (zhe (O4 (r*r%val n)) a n (by have:=z (r*r);omega) J J) (by simp) ?_;simp[RU,X5,mE_p h,mR_p h,g];refine⟨J,A _ _ _ ⟨N,J,rfl,J,A6,Ba,Al,Ao,by simp⟩⟩
def RV(g:M7)(v:LV)(l:List UInt64):Prop:=v=LU l∨(v=.nilSl∧l=[])∨∃q st,v=.dy q 0∧g[q]?=some (.dyn (l.map .u) l.length 1 0 st)
def zaq:LC:=(.q [.e 4,.K 5 0] (.seq (.q [.m 6 1,.b 7 .lss 3 6 0,.m 8 7,.mn 9 8 1,.nb 10 8 .gtr 3 9 512,.p 11 8 10] (.cond (.t 11) (.q [.e 4,.K 5 2] .ret) .skip)) (.q [.m 12 0,.w 13 84 12,.m 0 13] (.seq (.q [.m 14 0,.s 15 14,.m 16 1,.c 17 .gtr 3 15 16] (.cond (.t 17) (.q [.e 4,.K 5 3] .ret) .skip)) (.q [.m 18 0,.m 19 1,.m 20 0,.s 21 20,.c 22 .sub 3 19 21,.z 23 (.appZ 1 [(.u 0)] (.t 18) (.t 22)),.m 4 23,.K 5 0] .ret)))))
def r_ref02_Fit:Ng Tryz.prog 95=some ⟨24,zaq.r,[.tmp 4,.tmp 5]⟩:=Aa
def zcr(a:List UInt64)(n:Int)(A:a.length≤1000000):Nl 95 [LU a,.i n] (.tup [.dy 0 0,.i (Sm a n)]) [RU (S0 a n)]:=by
 refine Of.rowE (Ni r_ref02_Fit Aa N ?_);have B:=z6k a;by_cases g:n<0
 ·have e:Sm a n=2:=H7 (.inl g);simp[zaq,g,e,S0,Se]
 ·by_cases z:512<n
  ·have e:Sm a n=2:=H7 (.inr z);simp[zaq,g,z,e,S0,Se]
  ·simp[zaq,g,z];refine z9x (nq a J) N ?_;by_cases j:n<(O4 (val a)).length
   ·have e:Sm a n=3:=by unfold Sm;rw[Hx J,H7 j]
    simp[RU,j,e,S0,Se]
   ·have e:Sm a n=0:=by unfold Sm;rw[Hx J,Hx j]
    simp[RU,j,e,S0];refine⟨J,λC=>⟨J,J,J,J,.inr ⟨0,1,1,rfl,?_⟩⟩⟩;rw[repU];simp
def m8{a:List UInt64}{n:Int}(h:Sm a n=0):val (S0 a n)=val a:=by
 unfold S0;rw[H7 h,val_append,val_rep0,X5,Nat.mul_zero,Kl]
def Yy{a:List UInt64}{k:Nat}(h:val a<2^(64*(k+1)))(g:k≤5):Sm a ((k:Int)+1)=0:=by
 have:=z2c h;unfold Sm;rw[Hx J,Hx J]

section
def zco:LC:=(.q [.K 2 0] (.seq (.q [.m 3 0,.b 4 .lss 3 3 1] (.cond (.t 4) (.q [.K 2 0] .ret) .skip)) (.q [.m 5 0,.b 6 .add 3 5 1,.m 2 6] .ret)))
def r_power_Rest:Ng Tryz.prog 47=some ⟨7,zco.r,[.tmp 2]⟩:=Aa
def z34:LC:=(.q [.K 4 0,.K 5 0] (.seq (.q [.m 6 0,.b 7 .lss 3 6 1,.m 8 7,.mn 9 8 0,.nb 10 8 .gtr 3 9 512,.p 11 8 10,.m 12 11,.mn 13 12 1,.nb 14 12 .lss 3 13 1,.p 15 12 14,.m 16 15,.mn 17 16 1,.nb 18 16 .gtr 3 17 6,.p 19 16 18] (.cond (.t 19) (.q [.K 4 0,.K 5 0] .ret) .skip)) (.q [.m 20 0,.z 21 (.bin .mul true 3 (.k 64) (.t 20)),.m 22 1,.c 23 .add 3 21 22,.b 24 .sub 3 23 1,.m 25 1,.c 26 .quo 3 24 25,.m 4 26] (.q [.m 27 4,.m 28 4,.m 29 1,.c 30 .mul 3 28 29,.m 31 0,.z 32 (.bin .mul true 3 (.k 64) (.t 31)),.c 33 .sub 3 30 32,.m 4 27,.m 5 33] .ret))))
def r_power_Windows:Ng Tryz.prog 45=some ⟨34,z34.r,[.tmp 4,.tmp 5]⟩:=Aa
def z7y:LC:=(.q [.x 6 0,.x 7 1,.x 8 2,.e 12] (.q [.f 24 2 7,.l 25 24,.z 13 (.alloc [(.i 0)]),.S 1 13 25] (.seq (.seq (.draw [(.l 26 13,[]),(.b 27 .lss 3 26 1,[]),(.m 28 27,[]),(.nf 29 28 2 6,[]),(.nl 30 28 29,[]),(.nl 31 28 13,[]),(.n 32 28 (.bin .neq false 3 (.t 30) (.t 31)),[]),(.p 33 28 32,[]),(.m 34 33,[]),(.nf 35 34 2 8,[]),(.nl 36 34 35,[]),(.nl 37 34 13,[]),(.n 38 34 (.w 47 [.t 37]),[(.nl 36 34 35,false)]),(.n 39 34 (.bin .lss false 3 (.t 36) (.t 38)),[]),(.p 40 34 39,[]),(.m 41 40,[]),(.mn 42 41 3,[]),(.nb 43 41 .lss 3 42 0,[]),(.p 44 41 43,[]),(.m 45 44,[]),(.mn 46 45 3,[]),(.nb 47 45 .gtr 3 46 262144,[]),(.p 48 45 47,[]),(.m 49 48,[]),(.mn 50 49 4,[]),(.mn 51 49 5,[]),(.n 52 49 (.w 67 [.t 50,.t 51]),[]),(.n 53 49 (.un .not (.t 52)),[]),(.p 54 49 53,[])]) (.cond (.t 54) (.q [.e 12] .ret) .skip)) (.q [.m 55 4,.z 56 (.build [.nilSl,(.i 0)] [(1,1,.t 55)]),.x 57 56,.z 14 (.alloc [.nilPtr]),.S 1 14 57] (.q [.L 58 3 8,.l 59 13,.b 60 .add 3 59 1,.z 61 (.w 68 [.t 58,.k 0,.t 60]),.z 15 (.alloc [(.i 0),(.i 0),(.i 0)]),.S 3 15 61] (.q [.m 62 5,.m 63 5,.b 64 .add 3 63 1,.m 65 5,.b 66 .add 3 65 2,.m 67 5,.b 68 .add 3 67 3,.m 69 5,.b 70 .add 3 69 4,.m 71 5,.b 72 .add 3 71 5,.m 73 5,.b 74 .add 3 73 6,.z 16 (.alloc [(.i 0)]),.z 17 (.alloc [(.i 0)]),.z 18 (.alloc [(.i 0)]),.z 19 (.alloc [(.i 0)]),.z 20 (.alloc [(.i 0)]),.z 21 (.alloc [(.i 0)]),.z 22 (.alloc [(.i 0)]),.S 1 16 62,.S 1 17 64,.S 1 18 66,.S 1 19 68,.S 1 20 70,.S 1 21 72,.S 1 22 74] (.q [.z 75 (.mkFunc 102 [] [.t 14,.t 21,.t 13,.t 18,.t 15,.t 20,.t 7,.t 16]),.z 23 (.alloc [.nilFn]),.S 1 23 75] (.q [.l 76 14,.l 77 16,.z 78 (.w 69 [.t 76,.t 77,.c (.u 0)])] (.q [.l 79 14,.l 80 17,.z 81 (.w 69 [.t 79,.t 80,.c (.u 1)])] (.q [.l 82 14,.L 83 3 15,.l 84 16,.V 85 72 82 83 84] (.q [.l 86 14,.m 87 3,.b 88 .add 3 87 1,.z 89 (.mkFunc 105 [] [.t 14,.t 13,.t 18,.t 15,.t 19,.t 17,.t 23,.t 22,.t 21,.t 20]),.V 90 73 86 88 89] (.q [.l 91 14,.l 92 13,.z 93 (.mkFunc 114 [] [.t 14,.t 18,.t 15,.t 6]),.V 94 73 91 92 93] (.q [.l 95 14,.N 96 95,.f 97 0 96,.l 98 97,.m 12 98] .ret)))))))))))))
def r_power_Radix:Ng Tryz.prog 49=some ⟨99,z7y.r,[.tmp 12]⟩:=Aa
def zcn:LC:=(.q [.x 9 0] (.q [.l 10 1,.l 11 2,.z 12 (.w 69 [.t 10,.t 11,.c (.u 0)])] (.q [.l 13 1,.l 14 3,.z 15 (.mkFunc 103 [] [.t 1,.t 4,.t 5,.t 6,.t 7,.t 2,.t 9]),.V 16 73 13 14 15] (.q [.l 17 1,.l 18 4,.L 19 3 5,.l 20 3,.z 21 (.w 70 [.t 17,.t 18,.t 19,.k (-1),.t 20])] (.ops [.l 22 1,.l 23 6,.l 24 2,.l 25 4,.l 26 8,.l 27 2,.z 28 (.w 104 [.t 22,.k 12,.t 23,.t 24,.t 25,.t 26,.t 27])])))))
def r_power_Radix_1:Ng Tryz.prog 102=some ⟨29,zcn.r,[]⟩:=Aa
def z9u:LC:=(.q [.l 9 1,.l 10 2,.L 11 3 3,.m 12 0,.z 13 (.w 70 [.t 9,.t 10,.t 11,.t 12,.k 0])] (.q [.l 14 1,.l 15 4,.L 16 3 5,.m 17 0,.z 18 (.w 70 [.t 14,.t 15,.t 16,.t 17,.k 0])] (.q [.l 19 1,.l 20 4,.l 21 6,.l 22 2,.l 23 4,.l 24 6,.z 25 (.w 104 [.t 19,.k 12,.t 20,.t 21,.t 22,.t 23,.t 24])] (.ops [.l 26 7,.m 27 0,.z 28 (.callV (.t 26) [.t 27])]))))
def r_power_Radix_1_1:Ng Tryz.prog 103=some ⟨29,z9u.r,[]⟩:=Aa
def zcv:LC:=(.q [.l 12 1,.l 13 2,.b 14 .add 3 13 1,.z 15 (.mkFunc 106 [] [.t 1,.t 3,.t 4,.t 5,.t 6]),.V 16 73 12 14 15] (.q [.l 17 7,.z 18 (.callV (.t 17) [(.c (.fn (.func 111) [] []))])] (.q [.l 19 1,.l 20 8,.l 21 9,.V 22 110 19 20 21] (.q [.l 23 7,.z 24 (.mkFunc 112 [] [.t 1,.t 10,.t 8,.t 3,.t 4]),.z 25 (.callV (.t 23) [.t 24])] (.q [.l 26 1,.l 27 10,.l 28 8,.l 29 3,.l 30 10,.z 31 (.w 113 [.t 26,.t 27,.t 28,.t 29,.t 30])] (.q [.l 32 1,.L 33 3 4,.l 34 2,.l 35 10,.z 36 (.w 109 [.t 32,.t 33,.k (-1),.t 34,.t 35])] (.ops [.l 37 1,.l 38 6,.z 39 (.w 69 [.t 37,.t 38,.c (.u 0)])])))))))
def r_power_Radix_2:Ng Tryz.prog 105=some ⟨40,zcv.r,[]⟩:=Aa
def z9q:LC:=(.q [.l 7 1,.l 8 2,.L 9 3 3,.m 10 0,.z 11 (.w 70 [.t 7,.t 8,.t 9,.t 10,.k 0])] (.q [.l 12 1,.l 13 4,.l 14 2,.z 15 (.w 107 [.t 12,.k 9,.t 13,.t 14,.k 63])] (.q [.l 16 1,.l 17 2,.l 18 2,.z 19 (.w 107 [.t 16,.k 8,.t 17,.t 18,.k 1])] (.q [.l 20 1,.l 21 2,.l 22 2,.l 23 5,.z 24 (.w 108 [.t 20,.k 6,.t 21,.t 22,.t 23])] (.q [.l 25 1,.L 26 3 3,.m 27 0,.l 28 2,.z 29 (.w 109 [.t 25,.t 26,.t 27,.k 0,.t 28])] (.ops [.l 30 1,.l 31 5,.l 32 4,.V 33 110 30 31 32]))))))
def r_power_Radix_2_1:Ng Tryz.prog 106=some ⟨34,z9q.r,[]⟩:=Aa
def z9p:LC:=.skip
def r_power_Radix_2_2:Ng Tryz.prog 111=some ⟨2,z9p.r,[]⟩:=Aa
def zad:LC:=(.q [.l 7 1,.l 8 2,.l 9 3,.l 10 4,.l 11 2,.z 12 (.w 113 [.t 7,.t 8,.t 9,.t 10,.t 11])] (.ops [.l 13 1,.L 14 3 5,.m 15 0,.l 16 2,.z 17 (.w 109 [.t 13,.t 14,.t 15,.k 0,.t 16])]))
def r_power_Radix_2_3:Ng Tryz.prog 112=some ⟨18,zad.r,[]⟩:=Aa
def zd2:LC:=(.q [.l 6 1,.l 7 2,.L 8 3 3,.m 9 0,.z 10 (.w 70 [.t 6,.t 7,.t 8,.t 9,.k 0])] (.ops [.l 11 1,.L 12 3 4,.m 13 0,.l 14 2,.z 15 (.w 109 [.t 11,.t 12,.t 13,.k 0,.t 14])]))
def r_power_Radix_3:Ng Tryz.prog 114=some ⟨16,zd2.r,[]⟩:=Aa
def zt9(k:Int):Int:=if k<1 then 0 else k+1
def zmf{G:M7}{K:LV→M7→Prop}{n:Int}(j:n≤1000000000)(k:K (.i (zt9 n)) G):Ot (.fn 47) [.i n] G K:=by
 refine Ni r_power_Rest Aa N ?_;unfold zt9 at k;by_cases g:n<1
 ·rw[H7 g]at k;simpa [zco,g] using k
 ·rw[Hx g]at k;simp[zco,g];exact⟨J,k⟩
def R5(l w:Int):Int:=if l<1∨512<l∨w<1∨6<w then 0 else (64*l+w-1)/w
def Sj(l w:Int):Int:=if l<1∨512<l∨w<1∨6<w then 0 else R5 l w*w-64*l
def zbj(l w:Int):Nl 45 [.i l,.i w] (.tup [.i (R5 l w),.i (Sj l w)]) []:=by
 refine Of.val rfl (Ni r_power_Windows Aa N ?_);by_cases g:l<1
 ·simp[z34,R5,Sj,g]
 by_cases j:512<l
 ·simp[z34,R5,Sj,g,j]
 by_cases z:w<1
 ·simp[z34,R5,Sj,g,j,z]
 by_cases A:6<w
 ·simp[z34,R5,Sj,g,j,z,A]
 have B:(64*l+w-1).tdiv w=(64*l+w-1)/w:=Int.tdiv_eq_ediv_of_nonneg J;have hw:w=1∨w=2∨w=3∨w=4∨w=5∨w=6:=J
 have C:0≤(64*l+w-1)/w∧(64*l+w-1)/w≤40000∧0≤(64*l+w-1)/w*w∧(64*l+w-1)/w*w≤40000:=by
  rcases hw with rfl|rfl|rfl|rfl|rfl|rfl<;>omega
 simp[z34,R5,Sj,g,j,z,A,B];generalize (64*l+w-1)/w=q at *;omega
structure RxC (sf:Nat→Nat) (d n r:Pc) (k R:Int) (G:M7):Prop where
 d:G[0]?=some (.cells d.f (sf 0))
 n:G[1]?=some (.cells n.f (sf 1))
 k:G[3]?=some (.cells [.i k] (sf 3))
 x:G[5]?=some (.cells [.ptr 4 0] (sf 5))
 r:G[8]?=some (.cells r.f (sf 8))
 z:G[9]?=some (.cells [.i R] (sf 9))
 b:G[10]?=some (.cells [.i (R+1)] (sf 10))
 l:G[11]?=some (.cells [.i (R+2)] (sf 11))
 o:G[12]?=some (.cells [.i (R+3)] (sf 12))
 s:G[13]?=some (.cells [.i (R+4)] (sf 13))
 c:G[14]?=some (.cells [.i (R+5)] (sf 14))
 m:G[15]?=some (.cells [.i (R+6)] (sf 15))
 t:G[16]?=some (.cells [.fn (.func 102) [] [.ptr 5 0,.ptr 14 0,.ptr 3 0,.ptr 11 0,.ptr 8 0,.ptr 13 0,.ptr 1 0,.ptr 9 0]] (sf 16))
section rx
variable {sf : Nat → Nat} {d n r : Pc} {k R deep : Int} {G G' : M7} {K : LV → M7 → Prop} {ops : List Lo}
def RxC.kp(h:RxC sf d n r k R G)(q:Kp 4 G G'):RxC sf d n r k R G' :=
 ⟨q.cells Ac h.d,q.cells Ac h.n,q.cells Ac h.k,q.cells Ac h.x,q.cells Ac h.r,q.cells Ac h.z,q.cells Ac h.b,q.cells Ac h.l,q.cells Ac h.o,q.cells Ac h.s,q.cells Ac h.c,q.cells Ac h.m,q.cells Ac h.t⟩
structure RxN (d n r:Pc) (k R deep:Int):Prop where
 d:-1000000≤d.at_∧d.at_≤1000000
 n:-1000000≤n.at_∧n.at_≤1000000
 r:-1000000≤r.at_∧r.at_≤1000000
 k:1≤k∧k≤1000000
 D:0≤deep∧deep≤50
def zx3{f:Nat}{fst cap:List LV}{X:List Lo}(hC:RxC sf d n r k R G)(F:RxN d n r k R deep)(h:Ny G 4 ops deep)(hl:ops.length≤700000)(hX:X.length≤10)
  (hb:∀(H:M7) (g:List Lo) (Q:LV→M7→Prop),RxC sf d n r k R H→Ny H 4 g (deep+1)→g.length≤750000→(∀I,Ny I 4 (g++X) (deep+1)→Kp 4 H I→Q (.tup []) I)→Ot (.fn f) (fst++.i deep::cap) H Q)
  (kk:∀G',Ny G' 4 (ops++(Ws n r k R deep X).flat) deep→Kp 4 G G'→K (.tup []) G') :
  Ot (.fn 102) [.fn (.func f) fst cap,.ptr 5 0,.ptr 14 0,.ptr 3 0,.ptr 11 0,.ptr 8 0,.ptr 13 0,.ptr 1 0,.ptr 9 0] G K:=by
 refine Ni r_power_Radix_1 Aa N ?_;have l4:16<G.length:=(Hu.1 hC.t).1;have k0:Kp 4 G (G++[.cells [.fn (.func f) fst cap] 0]):=Kp.app' _ _ _;have h0:=h.app [.cells [.fn (.func f) fst cap] 0];have T:=hC.kp k0;have e0:(G++[LObj.cells [.fn (.func f) fst cap] 0])[G.length]?=some (.cells [.fn (.func f) fst cap] 0):=Il;simp[zcn];generalize G++[LObj.cells [.fn (.func f) fst cap] 0]=G0 at *;generalize G.length=gz at *;have j:gz≠4:=J
 simp[T.x,T.c];refine Xs h0 J λH h1 U=>?_
 have P:=T.kp U;have e1:=U.cells j e0;simp[P.x,P.k];refine bt (fst:=[]) (cap:=[.ptr 5 0,.ptr 11 0,.ptr 8 0,.ptr 13 0,.ptr 1 0,.ptr 14 0,.ptr gz 0]) (B:=Nd (Wc n r R deep++X)) (by have:=F.D;omega) h1 Ab (by rw[flat_frL];simp[Wc];omega) (λI gg Q V L l2 hk=>?_) λI V L=>?_
 ·rw[flat_frL]at hk;refine Ni r_power_Radix_1_1 Aa N ?_;have z:=P.kp L;have e2:=L.cells j e1;have A:=z.r;have D:=z.n;unfold Pc.f at A D;simp at l2;simp[z9u,z.x,z.l,A];refine Tz (p:=r) (by have:=F.r;omega) V J λG3 Y E=>?_
  have C:=z.kp E;have e3:=E.cells j e2;have D:=C.n;unfold Pc.f at D;simp[C.x,C.s,D];refine Tz (p:=n) (by have:=F.n;omega) Y Ab λG4 Z M=>?_
  have O:=C.kp M;have e4:=M.cells j e3;simp[O.x,O.s,O.c,O.l];refine z71 Z Ab λG5 h5 k5=>?_
  have c5:=O.kp k5;have e5:=k5.cells j e4;simp[e5];refine hb G5 _ _ c5 h5 Ab λG6 h6 k6=>?_
  simp;refine hk G6 ?_ (E.trans (M.trans (k5.trans k6)));simpa [Wc] using h6
 have z:=P.kp L;have hL:(Oz deep k (Nd (Wc n r R deep++X))).flat.length≤20:=by rw[V6];split<;>simp[flat_frL,Wc];omega
 have A:=z.r;unfold Pc.f at A;simp[z.x,z.l,z.k,A];refine Tz (p:=r) (by have:=F.r;have:=F.k;omega) V Ab λG3 Y E=>?_
 have C:=z.kp E;simp[C.x,C.s,C.c,C.l,C.z];refine z71 Y Ab λG4 Z M=>?_
 simp;refine kk G4 ?_ (k0.trans (U.trans (L.trans (E.trans M))));unfold Ws;rw[P8,P8,flat_frL,flat_frL];simpa using Z
def zda{X:List Lo}(g:X.length≤10):(Ws n r k R deep X).flat.length≤30:=by
 unfold Ws;rw[P8,P8,flat_frL,flat_frL,V6];split<;>simp[flat_frL,Wc];omega
def zpc{p:Pc}{n l o b D:Int}:(cr p n l o b D).flat.length≤10:=by
 unfold cr;rw[V6];split<;>simp[flat_frL]
def rxRound_len:(m6 n r k R deep).flat.length≤100:=by
 have g:=zda (n:=n) (r:=r) (k:=k) (R:=R) (deep:=deep) (X:=[]) N;have j:=zda (n:=n) (r:=r) (k:=k) (R:=R) (deep:=deep) (X:=[Oc (R+4) (R+6) (R+2) (R+4),Nn r deep 0 (R+4)]) N;have z:=zpc (p:=r) (n:=k+1) (l:=R+2) (o:=R+3) (b:=R+1) (D:=deep);unfold m6;simp only[P8,flat_frL,H9,Ig,Ix];omega
def zza{i:Int}(Z:RxC sf d n r k R G)(L:RxN d n r k R deep)(h:Ny G 4 ops deep)(hl:ops.length≤600000)
  (kk:∀G',Ny G' 4 (ops++(m6 n r k R deep).flat) deep→Kp 4 G G'→K (.tup []) G') :
  Ot (.fn 105) [.i i,.ptr 5 0,.ptr 3 0,.ptr 11 0,.ptr 8 0,.ptr 12 0,.ptr 10 0,.ptr 16 0,.ptr 15 0,.ptr 14 0,.ptr 13 0] G K:=by
 refine Ni r_power_Radix_2 Aa N ?_;have hk:=L.k;have hD:=L.D;have hr:=L.r;simp[zcv,Z.x,Z.k];refine⟨J,?_⟩;refine bt (fst:=[]) (cap:=[.ptr 5 0,.ptr 11 0,.ptr 8 0,.ptr 12 0,.ptr 10 0]) (B:=Nd [Nj (R+2) r deep 0,Q6 9 (R+3) (R+2) 63,Q6 8 (R+2) (R+2) 1,M8 6 (R+2) (R+2) (R+1),Nn r deep 0 (R+2),Qv (R+1) (R+3)]) J h J Ce (λG2 gC K' h2 k2 l2 M=>?_) λG2 h2 k2=>?_
 ·rw[flat_frL]at M;refine Ni r_power_Radix_2_1 Aa N ?_;have C:=Z.kp k2;have g:=C.r;unfold Pc.f at g;simp[z9q,C.x,C.l,g];refine Tz (p:=r) J h2 J λG3 O P=>?_
  have A:=C.kp P;simp[A.x,A.o,A.l];refine z8n O Ab λG4 h4 Q=>?_
  have E:=A.kp Q;simp[E.x,E.o,E.l];refine z8n h4 Ab λG5 T U=>?_
  have j:=E.kp U;simp[j.x,j.b,j.l];refine Y6 T Ab λG6 V F=>?_
  have z:=j.kp F;have g:=z.r;unfold Pc.f at g;simp[z.x,z.l,g];refine Va (p:=r) J V Ab λG7 Y H=>?_
  have I:=z.kp H;simp[I.x,I.b,I.o];refine zdn Y Ab λG8 h8 k8=>?_
  simp;refine M G8 ?_ (P.trans (Q.trans (U.trans (F.trans (H.trans k8)))));simpa using h8
 have C:=Z.kp k2;have gF:=zpc (p:=r) (n:=k+1) (l:=R+2) (o:=R+3) (b:=R+1) (D:=deep);have gg:Ny G2 4 (ops++(cr r (k+1) (R+2) (R+3) (R+1) deep).flat) deep:=h2;simp[C.t];refine zx3 (fst:=[]) (cap:=[]) (X:=[]) C L gg Ab N (λG3 gD K' A O l3 gz=>?_) λG3 O P=>?_
 ·refine Ni r_power_Radix_2_2 Aa N ?_;simp[z9p];exact gz G3 (by simpa using O) (Kp.refl _ _)
 have A:=C.kp P;have gG:=zda (n:=n) (r:=r) (k:=k) (R:=R) (deep:=deep) (X:=[]) N;simp[A.x,A.m,A.c];refine zdn O Ab λG4 h4 Q=>?_
 have E:=A.kp Q;simp[E.t];refine zx3 (fst:=[]) (cap:=[.ptr 5 0,.ptr 13 0,.ptr 15 0,.ptr 11 0,.ptr 8 0]) (X:=[Oc (R+4) (R+6) (R+2) (R+4),Nn r deep 0 (R+4)]) E L h4 Ab N (λG5 gE K' j T l5 gA=>?_) λG5 T U=>?_
 ·refine Ni r_power_Radix_2_3 Aa N ?_;simp[zad,j.x,j.s,j.m,j.l];refine zof T J λG6 V F=>?_
  have z:=j.kp F;have g:=z.r;unfold Pc.f at g;simp[z.x,z.s,g];refine Va (p:=r) J V Ab λG7 Y H=>?_
  simp;exact gA G7 (by simpa using Y) (F.trans H)
 have j:=E.kp U;have gH:=zda (n:=n) (r:=r) (k:=k) (R:=R) (deep:=deep) (X:=[Oc (R+4) (R+6) (R+2) (R+4),Nn r deep 0 (R+4)]) N;simp[j.x,j.s,j.m,j.l];refine zof T Ab λG6 V F=>?_
 have z:=j.kp F;have g:=z.r;unfold Pc.f at g;simp[z.x,z.s,z.k,g];refine Va (p:=r) J V Ab λG7 Y H=>?_
 have I:=z.kp H;simp[I.x,I.b];refine Xs Y Ab λG8 h8 k8=>?_
 simp;refine kk G8 ?_ (k2.trans (P.trans (Q.trans (U.trans (F.trans (H.trans k8))))));unfold m6;simp only[P8,flat_frL];simpa using h8
def cpR_any(z:RxC sf d n r k R G)(B:RxN d n r k R deep)(h:Ny G 4 ops deep)(L:ops.length≤600000)
  (D:∀G',Ny G' 4 (ops++[Nj (R+2) r (deep-1) 0,Nn d (deep-1) 0 (R+2)]) deep→Kp 4 G G'→K (.tup []) G') :
  Ot (.fn 114) [.i (deep-1),.ptr 5 0,.ptr 11 0,.ptr 8 0,.ptr 0 0] G K:=by
 refine Ni r_power_Radix_3 Aa N ?_;have g:=z.r;unfold Pc.f at g;simp[zd2,z.x,z.l,g];refine Tz (p:=r) (by have:=B.r;omega) h J λM E C=>?_
 have A:=z.kp C;have j:=A.d;unfold Pc.f at j;simp[A.x,A.l,j];refine Va (p:=d) (by have:=B.d;omega) E Ab λF H I=>?_
 simp;exact D F Bt (C.trans I)
end rx
def U9(d n w:Pc)(bits deep R:Int):Bool:=decide (1≤n.size)&&(decide (d.size=n.size)&&(decide (zt9 n.size≤w.size)&&(decide (0≤bits)&&(decide (bits≤262144)&&xf deep R))))
def rxC(d n w:Pc)(bits deep R:Int):List Lo:=if U9 d n w bits deep R=true then (Yt d n ⟨w.buf,w.at_,n.size+1⟩ n.size bits R deep).flat else []
def znh{d n r:Pc}{k bits R D:Int}:(Yt d n r k bits R D).flat.length≤200:=by
 have g:=rxRound_len (n:=n) (r:=r) (k:=k) (R:=R) (deep:=D+1);unfold Yt S5 ep;simp only[P8,flat_frL,V6,H9,Ig,Ix];split<;>split<;>split<;>simp[flat_frL]<;>omega
def sfR(i:Nat):Nat:=if i≤1 then 0 else 1
def zmg{d n w:Pc}{bits deep R:Int}(L:-1000000≤d.at_∧d.at_≤1000000)(M:-1000000≤n.at_∧n.at_≤1000000)(hw:-1000000≤w.at_∧w.at_≤1000000)(hn:n.size≤1000000) :
  O1 49 [.agg d.f,.agg n.f,.agg w.f,.i bits,.i deep,.i R] (.lst (Qh (rxC d n w bits deep R)) (rxC d n w bits deep R).length 8):=by
 refine R7.mk (by simp[LV.dat,Tu]) (Ni r_power_Radix Aa N ?_);have g:U9 d n w bits deep R=false→rxC d n w bits deep R=[]:=λh=>by unfold rxC;rw[h];simp
 by_cases C:n.size<1
 ·rw[g Di];simp[z7y,Pc.f,C,Qh]
 by_cases D:d.size=n.size
 rotate_left
 ·rw[g Di];simp[z7y,Pc.f,C,D,Qh]
 simp[z7y,Pc.f,C,D];refine zmf J ?_;have O:zt9 n.size=n.size+1:=by unfold zt9;rw[Hx C]
 by_cases E:w.size<zt9 n.size
 ·rw[g Di];simp[E,Qh]
 by_cases P:bits<0
 ·rw[g Di];simp[E,P,Qh]
 by_cases Z:262144<bits
 ·rw[g Di];simp[E,P,Z,Qh]
 simp[E,P,Z];refine z74 ?_;by_cases z:xf deep R=true
 rotate_left
 ·rw[g (by simp[U9,z])];simp[z,Qh]
 simp[z];have hR:16≤R∧R≤50∧0≤deep∧deep≤6:=by simp[xf]at z;omega
 refine⟨J,?_⟩;refine z6f (p:=w) J ?_;simp[Pc.f]
 repeat (refine⟨J,?_⟩)
 refine Xs (ops:=[]) (deep:=deep) ⟨0,.nilSl,rfl,Qn.nil⟩ N λG1 h1 k1=>?_
 have Q:=RxC.kp (sf:=sfR) (d:=d) (n:=n) (r:=⟨w.buf,w.at_,n.size+1⟩) (k:=n.size) (R:=R) ⟨by simp[Pc.f,D,sfR],rfl,rfl,rfl,rfl,rfl,rfl,rfl,rfl,rfl,rfl,rfl,rfl⟩ k1;have j:RxN d n ⟨w.buf,w.at_,n.size+1⟩ n.size R (deep+1):=⟨L,M,hw,J,J⟩;generalize hr:(⟨w.buf,w.at_,n.size+1⟩:Pc)=r at *;have gA:r.size=n.size+1:=by rw[←hr]
 simp[Q.x,Q.b];refine Xs h1 N λG2 h2 k2=>?_
 have F:=Q.kp k2;have A:=F.r;unfold Pc.f at A;simp[F.x,F.z,A];refine zop (p:=r) J j.r h2 N λG3 h3 k3=>?_
 have T:=F.kp k3;have gC:(S5 r R deep).flat.length≤10:=F7
 simp[T.x];refine⟨J,?_⟩;refine bt (fst:=[]) (cap:=[.ptr 5 0,.ptr 3 0,.ptr 11 0,.ptr 8 0,.ptr 12 0,.ptr 10 0,.ptr 16 0,.ptr 15 0,.ptr 14 0,.ptr 13 0]) (B:=m6 n r n.size R (deep+1)) J h3 Ab (by have:=rxRound_len (n:=n) (r:=r) (k:=n.size) (R:=R) (deep:=deep+1);omega) (λG4 gg K' U V l4 H=>?_) λG4 U V=>?_
 ·simp at l4;exact zza (T.kp V) j U J H
 have I:=T.kp V;have gD:(Oz deep (bits+1) (m6 n r n.size R (deep+1))).flat.length≤110:=by
  have:=rxRound_len (n:=n) (r:=r) (k:=n.size) (R:=R) (deep:=deep+1);rw[V6];split
  ·simp
  ·simp;omega
 simp[I.x,I.k];refine bt (fst:=[]) (cap:=[.ptr 5 0,.ptr 11 0,.ptr 8 0,.ptr 0 0]) (B:=Nd [Nj (R+2) r deep 0,Nn d deep 0 (R+2)]) J U Ab Ce (λG5 gz K' X Y l5 H=>?_) λG5 X Y=>?_
 ·rw[flat_frL]at H;simp at l5;have:=cpR_any (K:=K') (deep:=deep+1) (I.kp Y) j X J (by rw[(J:deep+1-1=deep)];exact H);rw[(J:deep+1-1=deep)]at this;exact this
 have c5:=I.kp Y;obtain⟨gE,v,e1,e2⟩:=X;have hC:rxC d n w bits deep R=[cK R 0]++([cK (R+1) 1]++((S5 r R deep).flat++((Oz deep (bits+1) (m6 n r n.size R (deep+1))).flat++(Oz deep n.size (Nd [Nj (R+2) r deep 0,Nn d deep 0 (R+2)])).flat))):=by
  unfold rxC;rw[H7 (by simp[U9,D,z];omega),hr];unfold Yt ep;rw[P8,P8,P8,flat_frL];rfl
 simp[-N9,c5.x,e1];rw[hC];simpa using zvm e2.bor
end
section
def z88:LC:=(.q [.x 5 1,.x 6 2,.x 7 3] (.draw [(.m 8 0,[]),(.N 9 8,[]),(.f 10 0 9,[]),(.l 11 10,[]),(.m 12 0,[]),(.N 13 12,[]),(.f 14 0 13,[]),(.l 15 14,[]),(.N 16 15,[]),(.f 17 0 16,[]),(.l 18 17,[]),(.L 19 3 5,[]),(.L 20 3 6,[]),(.L 21 3 7,[]),(.m 22 0,[]),(.N 23 22,[]),(.f 24 7 23,[]),(.L 25 3 24,[]),(.m 26 0,[]),(.N 27 26,[]),(.f 28 22 27,[]),(.L 29 3 28,[]),(.m 30 0,[]),(.N 31 30,[]),(.f 32 0 31,[]),(.l 33 32,[]),(.N 34 33,[]),(.f 35 1 34,[]),(.l 36 35,[]),(.m 37 0,[]),(.N 38 37,[]),(.f 39 36 38,[]),(.l 40 39,[]),(.z 41 (.w 23 [.t 19,.t 20,.t 21,.t 25,.t 29,.t 36,.t 40]),[(.l 18 17,false),(.l 15 14,false),(.l 11 10,false)]),(.a 42 8 18 41,[(.l 11 10,false)]),(.N 43 11,[]),(.f 44 0 43,[]),(.S 1 44 42,[])]))
def r_power_powers_mont:Ng Tryz.prog 155=some ⟨45,z88.r,[]⟩:=Aa
def z7i:LC:=(.q [.x 4 1] (.draw [(.m 6 0,[]),(.N 7 6,[]),(.f 8 0 7,[]),(.l 9 8,[]),(.m 10 0,[]),(.N 11 10,[]),(.f 12 0 11,[]),(.l 13 12,[]),(.N 14 13,[]),(.f 15 0 14,[]),(.l 16 15,[]),(.L 17 3 4,[]),(.m 18 0,[]),(.N 19 18,[]),(.f 20 7 19,[]),(.L 21 3 20,[]),(.m 22 0,[]),(.N 23 22,[]),(.f 24 22 23,[]),(.L 25 3 24,[]),(.m 26 2,[]),(.m 27 0,[]),(.N 28 27,[]),(.f 29 0 28,[]),(.l 30 29,[]),(.N 31 30,[]),(.f 32 1 31,[]),(.l 33 32,[]),(.m 34 0,[]),(.N 35 34,[]),(.f 36 36 35,[]),(.l 37 36,[]),(.z 38 (.w 49 [.t 17,.t 21,.t 25,.t 26,.t 33,.t 37]),[(.l 16 15,false),(.l 13 12,false),(.l 9 8,false)]),(.a 39 8 16 38,[(.l 9 8,false)]),(.N 40 9,[]),(.f 41 0 40,[]),(.S 1 41 39,[])]))
def r_power_powers_radix:Ng Tryz.prog 153=some ⟨42,z7i.r,[]⟩:=Aa
def z7k:LC:=(.q [.z 4 (.alloc [(.i 0),(.i 0),(.i 0)])] (.seq (.draw [(.m 5 0,[]),(.N 6 5,[]),(.f 7 25 6,[]),(.L 8 3 7,[]),(.m 9 1,[]),(.m 10 0,[]),(.N 11 10,[]),(.f 12 7 11,[]),(.f 13 2 12,[]),(.l 14 13,[]),(.c 15 .mul 3 9 14,[]),(.m 16 0,[]),(.N 17 16,[]),(.f 18 7 17,[]),(.f 19 2 18,[]),(.l 20 19,[]),(.V 21 68 8 15 20,[]),(.S 3 4 21,[])]) .ret))
def r_power_powers_entry:Ng Tryz.prog 154=some ⟨22,z7k.r,[.cellN 4 3]⟩:=Aa
def z6w:LC:=(.q [.x 3 0,.x 4 1,.x 5 2] (.draw [(.l 6 3,[]),(.N 7 6,[]),(.f 8 0 7,[]),(.l 9 8,[]),(.l 10 3,[]),(.N 11 10,[]),(.f 12 7 11,[]),(.f 13 2 12,[]),(.l 14 13,[]),(.z 15 (.mkFunc 182 [] [.t 3,.t 5,.t 4]),[]),(.V 16 73 9 14 15,[])]))
def r_power_powers_copies:Ng Tryz.prog 156=some ⟨17,z6w.r,[]⟩:=Aa
def z59:LC:=(.seq (.draw [(.l 5 1,[]),(.N 6 5,[]),(.f 7 0 6,[]),(.l 8 7,[]),(.l 9 1,[]),(.N 10 9,[]),(.f 11 31 10,[]),(.l 12 11,[]),(.L 13 3 2,[]),(.m 14 0,[]),(.z 15 (.w 70 [.t 8,.t 12,.t 13,.t 14,.k 0]),[])]) (.draw [(.l 16 1,[]),(.N 17 16,[]),(.f 18 0 17,[]),(.l 19 18,[]),(.L 20 3 3,[]),(.m 21 0,[]),(.l 22 1,[]),(.N 23 22,[]),(.f 24 31 23,[]),(.l 25 24,[]),(.z 26 (.w 109 [.t 19,.t 20,.t 21,.k 0,.t 25]),[])]))
def r_power_powers_copies_1:Ng Tryz.prog 182=some ⟨27,z59.r,[]⟩:=Aa
def z89:LC:=(.q [.x 1 0] (.q [.l 3 1,.N 4 3,.f 5 7 4,.f 6 2 5,.l 7 6,.z 2 (.alloc [(.i 0)]),.S 1 2 7] (.seq (.draw [(.l 8 1,[]),(.l 9 1,[]),(.l 11 2,[]),(.z 12 (.bin .mul true 3 (.k 64) (.t 11)),[]),(.z 10 (.w 154 [.t 9,.k 0]),[(.l 11 2,false),(.l 8 1,false)]),(.V 13 153 8 10 12,[])]) (.seq (.draw [(.l 14 1,[]),(.l 15 1,[]),(.N 16 15,[]),(.f 17 16 16,[]),(.L 18 3 17,[]),(.l 19 2,[]),(.z 20 (.bin .mul true 3 (.k 128) (.t 19)),[]),(.V 21 153 14 18 20,[])]) (.seq (.draw [(.l 22 1,[]),(.l 23 1,[]),(.N 24 23,[]),(.f 25 13 24,[]),(.L 26 3 25,[]),(.l 27 1,[]),(.N 28 27,[]),(.f 29 4 28,[]),(.L 30 3 29,[]),(.l 31 1,[]),(.N 32 31,[]),(.f 33 16 32,[]),(.L 34 3 33,[]),(.z 35 (.w 155 [.t 22,.t 26,.t 30,.t 34]),[])]) (.seq (.draw [(.l 36 1,[]),(.l 37 1,[]),(.N 38 37,[]),(.f 39 10 38,[]),(.L 40 3 39,[]),(.l 41 1,[]),(.z 42 (.w 154 [.t 41,.k 0]),[(.L 40 3 39,false),(.l 37 1,false),(.l 36 1,false)]),(.V 43 156 36 40 42,[])]) (.seq (.draw [(.l 44 1,[]),(.N 45 44,[]),(.f 46 0 45,[]),(.l 47 46,[]),(.l 48 2,[]),(.z 49 (.cvInt .u64 (.t 48)),[]),(.z 50 (.w 69 [.t 47,.k 12,.t 49]),[])]) (.draw [(.l 51 1,[]),(.N 52 51,[]),(.f 53 0 52,[]),(.l 54 53,[]),(.l 55 1,[]),(.N 56 55,[]),(.f 57 35 56,[]),(.l 58 57,[]),(.z 59 (.bin .shl true 3 (.k 1) (.t 58)),[]),(.b 60 .sub 3 59 1,[]),(.z 61 (.mkFunc 157 [] [.t 1,.t 2]),[]),(.V 62 73 54 60 61,[])]))))))))
def r_power_powers_fill:Ng Tryz.prog 98=some ⟨63,z89.r,[]⟩:=Aa
def z6u:LC:=(.seq (.draw [(.l 4 1,[]),(.l 5 1,[]),(.N 6 5,[]),(.f 7 10 6,[]),(.L 8 3 7,[]),(.l 9 1,[]),(.N 10 9,[]),(.f 11 10 10,[]),(.L 12 3 11,[]),(.l 13 1,[]),(.N 14 13,[]),(.f 15 13 14,[]),(.L 16 3 15,[]),(.z 17 (.w 155 [.t 4,.t 8,.t 12,.t 16]),[])]) (.seq (.draw [(.l 18 1,[]),(.N 19 18,[]),(.f 20 0 19,[]),(.l 21 20,[]),(.l 22 2,[]),(.z 23 (.mkFunc 158 [] [.t 1]),[]),(.V 24 73 21 22 23,[])]) (.seq (.draw [(.l 25 1,[]),(.N 26 25,[]),(.f 27 0 26,[]),(.l 28 27,[]),(.l 29 2,[]),(.z 30 (.cvInt .u64 (.t 29)),[]),(.z 31 (.w 69 [.t 28,.k 13,.t 30]),[])]) (.ops [.l 32 1,.N 33 32,.f 34 0 33,.l 35 34,.z 36 (.w 108 [.t 35,.k 3,.k 12,.k 12,.k 13])]))))
def r_power_powers_fill_1:Ng Tryz.prog 157=some ⟨37,z6u.r,[]⟩:=Aa
def z5i:LC:=(.seq (.draw [(.l 3 1,[]),(.N 4 3,[]),(.f 5 0 4,[]),(.l 6 5,[]),(.l 7 1,[]),(.N 8 7,[]),(.f 9 31 8,[]),(.l 10 9,[]),(.l 11 1,[]),(.N 12 11,[]),(.f 13 10 12,[]),(.L 14 3 13,[]),(.m 15 0,[]),(.z 16 (.w 70 [.t 6,.t 10,.t 14,.t 15,.k 0]),[])]) (.q [.l 17 1,.N 18 17,.f 19 0 18,.l 20 19,.m 21 0,.z 22 (.w 108 [.t 20,.k 3,.k 13,.k 12,.t 21])] (.draw [(.l 23 1,[]),(.N 24 23,[]),(.f 25 0 24,[]),(.l 26 25,[]),(.l 27 1,[]),(.N 28 27,[]),(.f 29 25 28,[]),(.L 30 3 29,[]),(.l 31 1,[]),(.N 32 31,[]),(.f 33 31 32,[]),(.l 34 33,[]),(.z 35 (.w 109 [.t 26,.t 30,.k 13,.k 0,.t 34]),[])])))
def r_power_powers_fill_1_1:Ng Tryz.prog 158=some ⟨36,z5i.r,[]⟩:=Aa
def Rx(e:Nat)(p:Pw):List LV:=[.ptr e 0,.i p.d.b,.i p.d.a,.i p.d.k,.i p.a.b,.i p.a.a,.i p.a.k,.i p.n.b,.i p.n.a,.i p.n.k,.i p.acc.b,.i p.acc.a,.i p.acc.k,.i p.base.b,.i p.base.a,.i p.base.k,.i p.cur.b,.i p.cur.a,.i p.cur.k,.i p.es.b,.i p.es.a,.i p.es.k,.i p.t.b,.i p.t.a,.i p.t.k,.i p.tab.b,.i p.tab.a,.i p.tab.k,
 .i p.B,.i ((p.B:Int)+1),.i ((p.B:Int)+2),.i ((p.B:Int)+3),.i ((p.B:Int)+4),.i ((p.B:Int)+5),.i ((p.B:Int)+6),.i p.w,.i ((p.B:Int)+10)]
structure PwN (p:Pw):Prop where
 nk:p.n.k=p.k
 dk:p.d.k=p.k
 ak:p.a.k=p.k
 k:1≤p.k∧p.k≤512
 d:p.d.a≤1000000
 a:p.a.a≤1000000
 b:p.b.a≤1000000∧1≤p.b.k∧p.b.k≤512
 n:p.n.a≤1000000
 w:1≤p.w∧p.w≤6
 B:16≤p.B∧p.B≤40
 wa:p.wa≤100000
 ov:p.over≤63
 ti:p.times≤100000
def U0{d t:Int}{b:Fr Lo}{m:Nat}(h:b.flat.length≤m):(Oz d t b).flat.length≤m+2:=by
 rw[V6];split
 ·simp
 ·simp;omega
def zxm{d a b n t:Pc}{k R D:Int}:(Xz d a b n t k R D).flat.length≤200:=by
 have j:=U0 (d:=D+1) (t:=k) (b:=Nd (Ud a t R (D+1))) (m:=8) (by simp[flat_frL,Ud,Oa]);have z:=U0 (d:=D+1) (t:=k-1) (b:=Nd (Uv n t R (D+1))) (m:=8) (by simp[flat_frL,Uv,Oa]);have A:=U0 (d:=D) (t:=k) (b:=(T9 a b t k R (D+1) D).cat (Ul n t k R (D+1))) (m:=60) (by
  unfold T9 Ul;simp only[P8,flat_frL,Oa,O6,H9,Ig,Ix];omega)
 have B:=U0 (d:=D) (t:=t.size) (b:=Nd [Nn t D 0 R]) (m:=1) Cp;have C:=U0 (d:=D) (t:=k) (b:=Nd (Ub n t R D++[])) (m:=3) (by simp[flat_frL,Ub]);have E:=U0 (d:=D) (t:=k) (b:=Nd (Ub n t R D++[Oc (R+6) (R+10) (R+7) (R+6),Nn d D 0 (R+6)])) (m:=5) (by simp[flat_frL,Ub]);have g:=zq3 (R+10) (R+1);unfold Xz Yc Wf S5;simp only[P8,flat_frL,H9,Ig,Ix,g];omega
section put
variable {G : M7} {K : LV → M7 → Prop} {e P st : Nat} {ops : List Lo} {deep : Int} {p : Pw}
def zi1{x:Nat}(h:x≤1000000):-1000000≤(x:Int)∧(x:Int)≤1000000:=J
def zga{d a b:Pn}(g:PwN p)(hD:0≤deep∧deep≤6)(hd:d.a≤1000000)(O:a.a≤1000000)(Q:b.a≤1000000)(kd:d.k=p.k)(ka:a.k=p.k)(kb:b.k=p.k)(I:G[P]?=some (.cells (Rx e p) st))(h:Ny G e ops deep)(hl:ops.length≤900000)
  (k:∀z,Ny z e (ops++(p.mont d a b deep).flat) deep→Kp e G z→K (.tup []) z):Ot (.fn 155) [.ptr P 0,.agg d.p.f,.agg a.p.f,.agg b.p.f] G K:=by
 refine Ni r_power_powers_mont Aa N ?_;obtain⟨x,v,L,T⟩:=h;have U:e<G.length:=(Hu.1 L).1;have V:P<G.length:=(Hu.1 I).1;have X:=zi2 p;have A:p.t.a≤1000000:=Em
 have B:=zfk (d:=d.p) (a:=a.p) (b:=b.p) (n:=p.n.p) (w:=p.t.p) (deep:=deep) (R:=(p.B:Int)+10) (zi1 hd) (zi1 O) (zi1 Q) (zi1 g.n) (zi1 A) Fk;have Y:zr6 d.p a.p b.p p.n.p p.t.p deep ((p.B:Int)+10)=(p.mont d a b deep).flat:=by
  have hk:=g.k;have Z:=g.nk;have hB:=g.B;have hm:ie p.n.p.size=p.t.k:=by unfold ie;rw[Hx (by show ¬(p.n.k:Int)<1;omega)];show (p.n.k:Int)+2=((p.k+2:Nat):Int);omega
  unfold zr6;rw[H7 (by simp[wr,xf,hm];refine⟨?_,?_,?_,?_,?_,J⟩<;>simp only[Pn.p]<;>omega),hm];unfold Pw.mont;rw[(Am:p.n.p.size=(p.k:Int))];rfl
 rw[Y]at B;have j:∀x:List LObj,(G++x)[P]?=_:=λx=>(Nh V).trans I
 have C:∀x:List LObj,(G++x)[e]?=_:=λx=>(Nh U).trans L
 have E:∀x,Kp e G (G++x):=λx=>Kp.app' e G x
 unfold Rx at j;simp[z88,Pn.p,Pc.f,↓j,↓C];simp only[Pn.p,Pc.f]at B;refine Rm B Bo ?_;simp[↓j,↓C];have M:=zxm (d:=d.p) (a:=a.p) (b:=b.p) (n:=p.n.p) (t:=p.t.p) (k:=p.k) (R:=(p.B:Int)+10) (D:=deep);refine⟨by show (p.mont d a b deep).flat.length≤_;unfold Pw.mont;omega,?_⟩;refine zow (C _) T.push_end J λv' G5 F h5 hE hK H=>?_
 have p5:=H P _ (λ_ _ _ _ q=>Ew) (j _);simp[-LV.cells,F,h5,p5,↓j];exact k _ hE ((E _).trans hK)
def zqw{d:Pn}{bits:Int}(g:PwN p)(hD:0≤deep∧deep≤6)(hd:d.a≤1000000)(kd:d.k=p.k)(hb:0≤bits∧bits≤262144)(I:G[P]?=some (.cells (Rx e p) st))(h:Ny G e ops deep)(hl:ops.length≤900000)
  (k:∀z,Ny z e (ops++(p.radix d bits deep).flat) deep→Kp e G z→K (.tup []) z):Ot (.fn 153) [.ptr P 0,.agg d.p.f,.i bits] G K:=by
 refine Ni r_power_powers_radix Aa N ?_;obtain⟨x,v,L,O⟩:=h;have Q:e<G.length:=(Hu.1 L).1;have T:P<G.length:=(Hu.1 I).1;have A:p.t.a≤1000000:=Em
 have B:=zmg (d:=d.p) (n:=p.n.p) (w:=p.t.p) (bits:=bits) (deep:=deep) (R:=(p.B:Int)+10) (zi1 hd) (zi1 g.n) (zi1 A) Fk;have U:rxC d.p p.n.p p.t.p bits deep ((p.B:Int)+10)=(p.radix d bits deep).flat:=by
  have hk:=g.k;have V:=g.nk;have hB:=g.B;have hm:zt9 p.n.p.size=p.k+1:=by unfold zt9;rw[Hx (by show ¬(p.n.k:Int)<1;omega)];show (p.n.k:Int)+1=_;omega
  unfold rxC;rw[H7 (by simp[U9,xf,hm];refine⟨?_,?_,?_,J,J,J⟩<;>simp only[Pn.p,Pw.t]<;>omega)];unfold Pw.radix;rw[(Am:p.n.p.size=(p.k:Int))];rfl
 rw[U]at B;have j:∀x:List LObj,(G++x)[P]?=_:=λx=>(Nh T).trans I
 have C:∀x:List LObj,(G++x)[e]?=_:=λx=>(Nh Q).trans L
 have E:∀x,Kp e G (G++x):=λx=>Kp.app' e G x
 unfold Rx at j;simp[z7i,Pn.p,Pc.f,↓j,↓C];simp only[Pn.p,Pc.f]at B;refine Rm B Bo ?_;simp[↓j,↓C];have M:=znh (d:=d.p) (n:=p.n.p) (r:=p.r.p) (k:=p.k) (bits:=bits) (R:=(p.B:Int)+10) (D:=deep);refine⟨by show (p.radix d bits deep).flat.length≤_;unfold Pw.radix;omega,?_⟩;refine zow (C _) O.push_end J λv' G5 F X Y Z H=>?_
 have p5:=H P _ (λ_ _ _ _ q=>Ew) (j _);simp[-LV.cells,F,X,p5,↓j];exact k _ Y ((E _).trans Z)
def zkm(g:PwN p)(B:G[P]?=some (.cells (Rx e p) st))(k:∀x,K (.agg p.ent.p.f) (G++x)):Ot (.fn 154) [.ptr P 0,.i 0] G K:=by
 refine Ni r_power_powers_entry Aa N ?_;have C:P<G.length:=(Hu.1 B).1;have z:∀x:List LObj,(G++x)[P]?=_:=λx=>(Nh C).trans B
 have D:p.tab.a≤1000000:=by have:=g.wa;have:=g.k;have:=g.b;simp only[Pw.tab];omega
 have F:=g.k;have A:=g.nk;unfold Rx at z;simp[z7k,↓z];refine z6f (p:=p.tab.p) Am ?_;simp[↓z,Pc.f,Pn.p];have E:p.ent.p.f=[.i (p.tab.b:Int),.i (p.tab.a:Int),.i (p.n.k:Int)]:=by
  simp only[Pc.f,Pn.p,Pw.ent,A]
 have j:=k [LObj.cells [.i (p.tab.b:Int),.i (p.tab.a:Int),.i (p.n.k:Int)] 1,LObj.cells [.i (p.tab.b:Int),.i (p.tab.a:Int),.i (p.tab.k:Int)] 0,LObj.cells [.i (p.tab.b:Int),.i (p.tab.a:Int),.i (p.n.k:Int)] 1];rw[E]at j;simpa using j
def zne{to fr:Pn}(hN:PwN p)(hD:0≤deep∧deep≤50)(ht:to.a≤1000000)(hf:fr.a≤1000000)(R:G[P]?=some (.cells (Rx e p) st))(g:P≠e)(h:Ny G e ops deep)(hl:ops.length≤800000)
  (k:∀E,Ny E e (ops++(p.copies to fr deep).flat) deep→Kp e G E→K (.tup []) E):Ot (.fn 156) [.ptr P 0,.agg to.p.f,.agg fr.p.f] G K:=by
 refine Ni r_power_powers_copies Aa N ?_;have le:e<G.length:=Aq
 have lP:P<G.length:=(Hu.1 R).1;have F:=hN.nk;have H:(G++[LObj.cells [.ptr P 0] 0,LObj.cells to.p.f 0,LObj.cells fr.p.f 0])[G.length]?=some (.cells [.ptr P 0] 0):=N
 have T:(G++[LObj.cells [.ptr P 0] 0,LObj.cells to.p.f 0,LObj.cells fr.p.f 0])[G.length+1]?=some (.cells to.p.f 0):=N
 have U:(G++[LObj.cells [.ptr P 0] 0,LObj.cells to.p.f 0,LObj.cells fr.p.f 0])[G.length+2]?=some (.cells fr.p.f 0):=N
 have V:=h.app [LObj.cells [.ptr P 0] 0,LObj.cells to.p.f 0,LObj.cells fr.p.f 0];have I:=Kp.app' e G [LObj.cells [.ptr P 0] 0,LObj.cells to.p.f 0,LObj.cells fr.p.f 0];have X:=I.cells g R;have z:G.length≠e:=J
 have A:G.length+1≠e:=J
 have L:G.length+2≠e:=J
 unfold Pc.f Pn.p at T U H V I X;simp[z6w,Pc.f,Pn.p];generalize G++[LObj.cells [.ptr P 0] 0,LObj.cells [.i (to.b:Int),.i (to.a:Int),.i (to.k:Int)] 0,LObj.cells [.i (fr.b:Int),.i (fr.a:Int),.i (fr.k:Int)] 0]=G0 at *;generalize G.length+2=w at *;generalize G.length+1=y at *;generalize G.length=gg at *;have j:=X;unfold Rx at j;simp[H,j,F];refine bt (fst:=[]) (cap:=[.ptr gg 0,.ptr w 0,.ptr y 0]) (B:=Nd [Nj (p.B+3) fr.p deep 0,Nn to.p deep 0 (p.B+3)]) J V J Ce (λG3 Y K' h3 C l3 Z=>?_) λM O Q=>?_
 ·rw[flat_frL]at Z;refine Ni r_power_powers_copies_1 Aa N ?_;have z3:=C.cells z H;have y3:=C.cells A T;have x3:=C.cells L U;have p3:=C.cells g j;simp[z59,z3,x3,p3];refine Tz (p:=fr.p) Am h3 J λG4 h4 D=>?_
  have z4:=D.cells z z3;have y4:=D.cells A y3;have p4:=D.cells g p3;simp[z4,y4,p4];refine Va (p:=to.p) Am h4 Ab λM O Q=>?_
  simp;exact Z M (by simpa using O) (D.trans Q)
 simp;exact k M O (I.trans Q)
def z7q{p:Pw}{d a b:Pn}{D:Int}:(p.mont d a b D).flat.length≤200:=zxm
def za4{p:Pw}{d:Pn}{bits D:Int}:(p.radix d bits D).flat.length≤200:=znh
def zd8{p:Pw}{a b:Pn}{D:Int}:(p.copies a b D).flat.length≤4:=U0 (m:=2) Cp
def zlu(g:PwN p):p.acc.a≤1000000∧p.base.a≤1000000∧p.cur.a≤1000000∧p.es.a≤1000000∧p.t.a≤1000000∧p.tab.a≤1000000∧p.ent.a≤1000000:=by
 have j:=g.wa;have z:=g.k;have A:=g.b;simp only[Pw.acc,Pw.base,Pw.cur,Pw.es,Pw.t,Pw.tab,Pw.ent];omega
def iq{q:Nat}{i:Int}(R:PwN p)(hD:0≤deep∧deep≤5)(hz:G[g]?=some (.cells [.ptr P 0] j))(C:g≠e)(hq:G[q]?=some (.cells [.i p.k] A))(F:q≠e)(T:G[P]?=some (.cells (Rx e p) st))(z:P≠e)(h:Ny G e ops (deep+1))(hl:ops.length≤700000)
  (k:∀U,Ny U e (ops++(p.fillR deep).flat) (deep+1)→Kp e G U→K (.tup []) U):Ot (.fn 157) [.i i,.ptr g 0,.ptr q 0] G K:=by
 refine Ni r_power_powers_fill_1 Aa N ?_;obtain⟨w1,w2,w3,w4,w5,w6,w7⟩:=zlu R;have hk:=R.k;have V:=T;unfold Rx at V;simp[z6u,hz,V];refine zga (d:=p.acc) (a:=p.acc) (b:=p.base) R J w1 w1 w2 rfl rfl rfl T h J λG1 h1 H=>?_
 have gz:=z7q (p:=p) (d:=p.acc) (a:=p.acc) (b:=p.base) (D:=deep+1);have X:=H.cells C hz;have q1:=H.cells F hq;have P1:=H.cells z T;have Y:=H.cells z V;simp[X,q1,Y];refine bt (fst:=[]) (cap:=[.ptr g 0]) (B:=Nd [Nj (p.B+3) p.acc.p (deep+1) 0,M8 3 13 12 (deep+1),Nn p.tab.p 13 0 (p.B+3)]) J h1 Ab Ce (λG3 gg K' h3 k3 l3 I=>?_) λG2 h2 M=>?_
 ·rw[flat_frL]at I;refine Ni r_power_powers_fill_1_1 Aa N ?_;simp at l3;have z3:=k3.cells C X;have p3:=k3.cells z Y;simp[z5i,z3,p3];refine Tz (p:=p.acc.p) Am h3 J λG4 Z E=>?_
  have O:=E.cells C z3;have Q:=E.cells z p3;simp[O,Q];refine Y6 Z Ab λG5 h5 L=>?_
  have z5:=L.cells C O;have p5:=L.cells z Q;simp[z5,p5];refine Va (p:=p.tab.p) Am h5 Ab λG6 h6 k6=>?_
  simp;exact I G6 (by simpa using h6) (E.trans (L.trans k6))
 have gA:=U0 (d:=deep+1) (t:=p.k) (b:=Nd [Nj (p.B+3) p.acc.p (deep+1) 0,M8 3 13 12 (deep+1),Nn p.tab.p 13 0 (p.B+3)]) (m:=3) Cp;have z2:=M.cells C X;have q2:=M.cells F q1;have p2:=M.cells z Y;simp[z2,q2,p2];refine Xs h2 Ab λG4 Z E=>?_
 have O:=E.cells C z2;have Q:=E.cells z p2;simp[O,Q];refine Y6 Z Ab λG5 h5 L=>?_
 simp;refine k G5 ?_ (H.trans (M.trans (E.trans L)));unfold Pw.fillR;simp only[P8,flat_frL];simpa using h5
def zjs{p:Pw}{D:Int}:(p.fillR D).flat.length≤210:=by
 have g:=z7q (p:=p) (d:=p.acc) (a:=p.acc) (b:=p.base) (D:=D+1);have j:=U0 (d:=D+1) (t:=p.k) (b:=Nd [Nj (p.B+3) p.acc.p (D+1) 0,M8 3 13 12 (D+1),Nn p.tab.p 13 0 (p.B+3)]) (m:=3) Cp;unfold Pw.fillR;simp only[P8,flat_frL,H9,Ig,Ix];omega
def wi(A:PwN p)(hD:0≤deep∧deep≤4)(X:G[P]?=some (.cells (Rx e p) st))(g:P≠e)(h:Ny G e ops deep)(hl:ops.length≤600000)
  (k:∀G',Ny G' e (ops++(p.fill deep).flat) deep→Kp e G G'→K (.tup []) G'):Ot (.fn 98) [.ptr P 0] G K:=by
 refine Ni r_power_powers_fill Aa N ?_;obtain⟨w1,w2,w3,w4,w5,w6,w7⟩:=zlu A;have hk:=A.k;have gg:=A.nk;have hw:=A.w;have le:e<G.length:=Aq
 have lP:P<G.length:=(Hu.1 X).1;have H:(G++[LObj.cells [.ptr P 0] 0,LObj.cells [.i 0] 0])[P]?=_:=(Nh lP).trans X;have I:(G++[LObj.cells [.ptr P 0] 0])[P]?=_:=(Nh lP).trans X;unfold Rx at H I;have z0:(G++[LObj.cells [.ptr P 0] 0,LObj.cells [.i p.k] 1])[G.length]?=some (.cells [.ptr P 0] 0):=N
 have q0:(G++[LObj.cells [.ptr P 0] 0,LObj.cells [.i p.k] 1])[G.length+1]?=some (.cells [.i p.k] 1):=N
 have h0:=h.app [LObj.cells [.ptr P 0] 0,LObj.cells [.i p.k] 1];have k0:=Kp.app' e G [LObj.cells [.ptr P 0] 0,LObj.cells [.i p.k] 1];have Y:=k0.cells g X;have j:G.length≠e:=J
 have z:G.length+1≠e:=J
 simp[z89,↓H,↓I,gg];generalize G++[LObj.cells [.ptr P 0] 0,LObj.cells [.i (p.k:Int)] 1]=L at *;generalize G.length+1=q at *;generalize G.length=gC at *;have p0:=Y;unfold Rx at p0;refine⟨J,?_⟩;refine zkm A Y λE=>?_
 have z1:(L++E)[gC]?=_:=(Nh (Hu.1 z0).1).trans z0;have q1:(L++E)[q]?=_:=(Nh (Hu.1 q0).1).trans q0;have P1:(L++E)[P]?=_:=(Nh (Hu.1 Y).1).trans Y;have h1:=h0.app E;have k1:=Kp.app' e L E;generalize L++E=G1 at *;have p1:=P1;unfold Rx at p1;simp[z0,q0,z1,q1,p1];refine zqw (d:=p.ent) A J w7 rfl J P1 h1 J λG2 h2 M=>?_
 have gD:=za4 (p:=p) (d:=p.ent) (bits:=64*p.k) (D:=deep);have z2:=M.cells j z1;have q2:=M.cells z q1;have P2:=M.cells g P1;have p2:=M.cells g p1;simp[z2,q2,p2];refine⟨J,?_⟩;refine zqw (d:=p.cur) A J w3 rfl J P2 h2 Ab λG3 h3 O=>?_
 have gE:=za4 (p:=p) (d:=p.cur) (bits:=128*p.k) (D:=deep);have z3:=O.cells j z2;have q3:=O.cells z q2;have P3:=O.cells g P2;have p3:=O.cells g p2;simp[z3,q3,p3];refine zga (d:=p.base) (a:=p.a) (b:=p.cur) A J w2 A.a w3 rfl A.ak rfl P3 h3 Ab λQ h4 R=>?_
 have gF:=z7q (p:=p) (d:=p.base) (a:=p.a) (b:=p.cur) (D:=deep);have Z:=R.cells j z3;have q4:=R.cells z q3;have P4:=R.cells g P3;have p4:=R.cells g p3;simp[Z,q4,p4];refine zkm A P4 λF=>?_
 have z5:(Q++F)[gC]?=_:=(Nh (Hu.1 Z).1).trans Z;have q5:(Q++F)[q]?=_:=(Nh (Hu.1 q4).1).trans q4;have P5:(Q++F)[P]?=_:=(Nh (Hu.1 P4).1).trans P4;have h5:=h4.app F;have k5:=Kp.app' e Q F;generalize Q++F=G5 at *;have p5:=P5;unfold Rx at p5;simp[Z,q4,p4,z5,q5,p5];refine zne (to:=p.acc) (fr:=p.ent) A J w1 w7 P5 g h5 Ab λG6 h6 T=>?_
 have gG:=zd8 (p:=p) (a:=p.acc) (b:=p.ent) (D:=deep);have z6:=T.cells j z5;have q6:=T.cells z q5;have P6:=T.cells g P5;have p6:=T.cells g p5;simp[z6,q6,p6];refine Xs h6 Ab λG7 h7 U=>?_
 have z7:=U.cells j z6;have q7:=U.cells z q6;have P7:=U.cells g P6;have p7:=U.cells g p6;have gH:=ko hw.2;have gI:0<2^p.w:=Kn _;have C:((2:Int)^p.w)=((2^p.w:Nat):Int):=N
 simp[z7,q7,p7];refine⟨J,Gq,Gq,?_⟩;rw[C,(J:((2^p.w:Nat):Int)-1=((2^p.w-1:Nat):Int))];refine bt (fst:=[]) (cap:=[.ptr gC 0,.ptr q 0]) (B:=p.fillR deep) J h7 Ab (by have:=zjs (p:=p) (D:=deep);omega) (λG8 gA K' h8 V l8 gz=>?_) λG8 h8 V=>?_
 ·simp at l8;exact iq A J (V.cells j z7) j (V.cells z q7) z (V.cells g P7) g h8 J gz
 simp;refine k G8 ?_ (k0.trans (k1.trans (M.trans (O.trans (R.trans (k5.trans (T.trans (U.trans V))))))));unfold Pw.fill;simp only[P8,flat_frL];simpa using h8
end put
end
section
def z5d:LC:=(.q [.x 3 0,.x 4 1,.x 5 2] (.seq (.draw [(.l 6 3,[]),(.N 7 6,[]),(.f 8 0 7,[]),(.l 9 8,[]),(.l 10 3,[]),(.N 11 10,[]),(.f 12 32 11,[]),(.l 13 12,[]),(.l 14 3,[]),(.N 15 14,[]),(.f 16 28 15,[]),(.l 17 16,[]),(.V 18 110 9 13 17,[])]) (.seq (.draw [(.l 19 3,[]),(.N 20 19,[]),(.f 21 0 20,[]),(.l 22 21,[]),(.f 23 2 4,[]),(.l 24 23,[]),(.z 25 (.mkFunc 159 [] [.t 3,.t 4,.t 5]),[]),(.V 26 73 22 24 25,[])]) (.q [.l 27 5,.b 28 .eql 3 27 0] (.cond (.t 28) (.draw [(.l 29 3,[]),(.N 30 29,[]),(.f 31 0 30,[]),(.l 32 31,[]),(.l 33 3,[]),(.N 34 33,[]),(.f 35 19 34,[]),(.L 36 3 35,[]),(.l 37 3,[]),(.N 38 37,[]),(.f 39 28 38,[]),(.l 40 39,[]),(.z 41 (.w 109 [.t 32,.t 36,.k (-1),.k 0,.t 40]),[])]) (.draw [(.l 42 3,[]),(.N 43 42,[]),(.f 44 0 43,[]),(.l 45 44,[]),(.l 46 3,[]),(.N 47 46,[]),(.f 48 19 47,[]),(.L 49 3 48,[]),(.f 50 2 4,[]),(.l 51 50,[]),(.l 52 3,[]),(.N 53 52,[]),(.f 54 32 53,[]),(.l 55 54,[]),(.z 56 (.w 109 [.t 45,.t 49,.k (-1),.t 51,.t 55]),[])]))))))
def r_power_powers_exponent:Ng Tryz.prog 99=some ⟨57,z5d.r,[]⟩:=Aa
def z4i:LC:=(.seq (.draw [(.l 5 1,[]),(.N 6 5,[]),(.f 7 0 6,[]),(.l 8 7,[]),(.l 9 1,[]),(.N 10 9,[]),(.f 11 31 10,[]),(.l 12 11,[]),(.L 13 3 2,[]),(.m 14 0,[]),(.z 15 (.w 70 [.t 8,.t 12,.t 13,.t 14,.k 0]),[])]) (.seq (.q [.l 16 3,.b 17 .eql 3 16 0] (.cond (.t 17) (.seq (.draw [(.l 18 1,[]),(.N 19 18,[]),(.f 20 0 19,[]),(.l 21 20,[]),(.l 22 1,[]),(.N 23 22,[]),(.f 24 19 23,[]),(.L 25 3 24,[]),(.m 26 0,[]),(.l 27 1,[]),(.N 28 27,[]),(.f 29 31 28,[]),(.l 30 29,[]),(.z 31 (.w 109 [.t 21,.t 25,.t 26,.k 1,.t 30]),[])]) .ret) .skip)) (.seq (.draw [(.l 32 1,[]),(.N 33 32,[]),(.f 34 0 33,[]),(.l 35 34,[]),(.l 36 1,[]),(.N 37 36,[]),(.f 38 30 37,[]),(.l 39 38,[]),(.l 40 1,[]),(.N 41 40,[]),(.f 42 31 41,[]),(.l 43 42,[]),(.l 44 3,[]),(.z 45 (.bin .sub true 3 (.k 64) (.t 44)),[]),(.z 46 (.w 107 [.t 35,.k 8,.t 39,.t 43,.t 45]),[])]) (.seq (.draw [(.l 47 1,[]),(.N 48 47,[]),(.f 49 0 48,[]),(.l 50 49,[]),(.l 51 1,[]),(.N 52 51,[]),(.f 53 30 52,[]),(.l 54 53,[]),(.l 55 1,[]),(.N 56 55,[]),(.f 57 30 56,[]),(.l 58 57,[]),(.l 59 1,[]),(.N 60 59,[]),(.f 61 32 60,[]),(.l 62 61,[]),(.z 63 (.w 108 [.t 50,.k 6,.t 54,.t 58,.t 62]),[])]) (.seq (.draw [(.l 64 1,[]),(.N 65 64,[]),(.f 66 0 65,[]),(.l 67 66,[]),(.l 68 1,[]),(.N 69 68,[]),(.f 70 19 69,[]),(.L 71 3 70,[]),(.m 72 0,[]),(.l 73 1,[]),(.N 74 73,[]),(.f 75 30 74,[]),(.l 76 75,[]),(.z 77 (.w 109 [.t 67,.t 71,.t 72,.k 0,.t 76]),[])]) (.draw [(.l 78 1,[]),(.N 79 78,[]),(.f 80 0 79,[]),(.l 81 80,[]),(.l 82 1,[]),(.N 83 82,[]),(.f 84 32 83,[]),(.l 85 84,[]),(.l 86 1,[]),(.N 87 86,[]),(.f 88 31 87,[]),(.l 89 88,[]),(.l 90 3,[]),(.z 91 (.w 107 [.t 81,.k 9,.t 85,.t 89,.t 90]),[])]))))))
def r_power_powers_exponent_1:Ng Tryz.prog 159=some ⟨92,z4i.r,[]⟩:=Aa
def z7n:LC:=(.q [.x 1 0] (.seq (.draw [(.l 2 1,[]),(.N 3 2,[]),(.f 4 0 3,[]),(.l 5 4,[]),(.l 6 1,[]),(.N 7 6,[]),(.f 8 30 7,[]),(.l 9 8,[]),(.l 10 1,[]),(.N 11 10,[]),(.f 12 28 11,[]),(.l 13 12,[]),(.V 14 110 5 9 13,[])]) (.seq (.draw [(.l 15 1,[]),(.N 16 15,[]),(.f 17 0 16,[]),(.l 18 17,[]),(.l 19 1,[]),(.N 20 19,[]),(.f 21 19 20,[]),(.f 22 2 21,[]),(.l 23 22,[]),(.z 24 (.mkFunc 183 [] [.t 1]),[]),(.V 25 73 18 23 24,[])]) (.seq (.draw [(.l 26 1,[]),(.N 27 26,[]),(.f 28 0 27,[]),(.l 29 28,[]),(.l 30 1,[]),(.N 31 30,[]),(.f 32 29 31,[]),(.l 33 32,[]),(.l 34 1,[]),(.N 35 34,[]),(.f 36 29 35,[]),(.l 37 36,[]),(.z 38 (.w 107 [.t 29,.k 8,.t 33,.t 37,.k 1]),[])]) (.draw [(.l 39 1,[]),(.N 40 39,[]),(.f 41 0 40,[]),(.l 42 41,[]),(.l 43 1,[]),(.N 44 43,[]),(.f 45 29 44,[]),(.l 46 45,[]),(.l 47 1,[]),(.N 48 47,[]),(.f 49 29 48,[]),(.l 50 49,[]),(.l 51 1,[]),(.N 52 51,[]),(.f 53 30 52,[]),(.l 54 53,[]),(.z 55 (.w 108 [.t 42,.k 6,.t 46,.t 50,.t 54]),[])])))))
def r_power_powers_shift:Ng Tryz.prog 162=some ⟨56,z7n.r,[]⟩:=Aa
def z5v:LC:=(.seq (.draw [(.l 3 1,[]),(.N 4 3,[]),(.f 5 0 4,[]),(.l 6 5,[]),(.l 7 1,[]),(.N 8 7,[]),(.f 9 31 8,[]),(.l 10 9,[]),(.l 11 1,[]),(.N 12 11,[]),(.f 13 19 12,[]),(.L 14 3 13,[]),(.m 15 0,[]),(.z 16 (.w 70 [.t 6,.t 10,.t 14,.t 15,.k 0]),[])]) (.seq (.draw [(.l 17 1,[]),(.N 18 17,[]),(.f 19 0 18,[]),(.l 20 19,[]),(.l 21 1,[]),(.N 22 21,[]),(.f 23 32 22,[]),(.l 24 23,[]),(.l 25 1,[]),(.N 26 25,[]),(.f 27 31 26,[]),(.l 28 27,[]),(.z 29 (.w 107 [.t 20,.k 9,.t 24,.t 28,.k 63]),[])]) (.seq (.draw [(.l 30 1,[]),(.N 31 30,[]),(.f 32 0 31,[]),(.l 33 32,[]),(.l 34 1,[]),(.N 35 34,[]),(.f 36 31 35,[]),(.l 37 36,[]),(.l 38 1,[]),(.N 39 38,[]),(.f 40 31 39,[]),(.l 41 40,[]),(.z 42 (.w 107 [.t 33,.k 8,.t 37,.t 41,.k 1]),[])]) (.seq (.draw [(.l 43 1,[]),(.N 44 43,[]),(.f 45 0 44,[]),(.l 46 45,[]),(.l 47 1,[]),(.N 48 47,[]),(.f 49 31 48,[]),(.l 50 49,[]),(.l 51 1,[]),(.N 52 51,[]),(.f 53 31 52,[]),(.l 54 53,[]),(.l 55 1,[]),(.N 56 55,[]),(.f 57 30 56,[]),(.l 58 57,[]),(.z 59 (.w 108 [.t 46,.k 6,.t 50,.t 54,.t 58]),[])]) (.seq (.draw [(.l 60 1,[]),(.N 61 60,[]),(.f 62 0 61,[]),(.l 63 62,[]),(.l 64 1,[]),(.N 65 64,[]),(.f 66 19 65,[]),(.L 67 3 66,[]),(.m 68 0,[]),(.l 69 1,[]),(.N 70 69,[]),(.f 71 31 70,[]),(.l 72 71,[]),(.z 73 (.w 109 [.t 63,.t 67,.t 68,.k 0,.t 72]),[])]) (.draw [(.l 74 1,[]),(.N 75 74,[]),(.f 76 0 75,[]),(.l 77 76,[]),(.l 78 1,[]),(.N 79 78,[]),(.f 80 30 79,[]),(.l 81 80,[]),(.l 82 1,[]),(.N 83 82,[]),(.f 84 32 83,[]),(.l 85 84,[]),(.V 86 110 77 81 85,[])]))))))
def r_power_powers_shift_1:Ng Tryz.prog 183=some ⟨87,z5v.r,[]⟩:=Aa
def z8p:LC:=(.q [.x 1 0] (.q [.l 3 1,.N 4 3,.f 5 7 4,.f 6 2 5,.l 7 6,.z 2 (.alloc [(.i 0)]),.S 1 2 7] (.q [.l 8 1,.N 9 8,.f 10 0 9,.l 11 10,.z 12 (.w 69 [.t 11,.k 12,.c (.u 0)])] (.draw [(.l 13 1,[]),(.N 14 13,[]),(.f 15 0 14,[]),(.l 16 15,[]),(.l 17 1,[]),(.N 18 17,[]),(.f 19 35 18,[]),(.l 20 19,[]),(.z 21 (.bin .shl true 3 (.k 1) (.t 20)),[]),(.z 22 (.mkFunc 184 [] [.t 1,.t 2]),[]),(.V 23 73 16 21 22,[])]))))
def r_power_powers_scan:Ng Tryz.prog 163=some ⟨24,z8p.r,[]⟩:=Aa
def z6z:LC:=(.seq (.draw [(.l 4 1,[]),(.N 5 4,[]),(.f 6 0 5,[]),(.l 7 6,[]),(.l 8 1,[]),(.N 9 8,[]),(.f 10 33 9,[]),(.l 11 10,[]),(.l 12 1,[]),(.N 13 12,[]),(.f 14 29 13,[]),(.l 15 14,[]),(.m 16 0,[]),(.z 17 (.w 108 [.t 7,.k 7,.t 11,.t 15,.t 16]),[])]) (.seq (.draw [(.l 18 1,[]),(.N 19 18,[]),(.f 20 0 19,[]),(.l 21 20,[]),(.l 22 1,[]),(.N 23 22,[]),(.f 24 32 23,[]),(.l 25 24,[]),(.l 26 1,[]),(.N 27 26,[]),(.f 28 33 27,[]),(.l 29 28,[]),(.l 30 1,[]),(.N 31 30,[]),(.f 32 28 31,[]),(.l 33 32,[]),(.l 34 1,[]),(.N 35 34,[]),(.f 36 33 35,[]),(.l 37 36,[]),(.l 38 1,[]),(.N 39 38,[]),(.f 40 28 39,[]),(.l 41 40,[]),(.z 42 (.w 104 [.t 21,.k 12,.t 25,.t 29,.t 33,.t 37,.t 41]),[])]) (.seq (.draw [(.l 43 1,[]),(.N 44 43,[]),(.f 45 0 44,[]),(.l 46 45,[]),(.l 47 2,[]),(.z 48 (.mkFunc 185 [] [.t 1]),[]),(.V 49 73 46 47 48,[])]) (.seq (.draw [(.l 50 1,[]),(.N 51 50,[]),(.f 52 0 51,[]),(.l 53 52,[]),(.l 54 2,[]),(.z 55 (.cvInt .u64 (.t 54)),[]),(.z 56 (.w 69 [.t 53,.k 13,.t 55]),[])]) (.ops [.l 57 1,.N 58 57,.f 59 0 58,.l 60 59,.z 61 (.w 108 [.t 60,.k 3,.k 12,.k 12,.k 13])])))))
def r_power_powers_scan_1:Ng Tryz.prog 184=some ⟨62,z6z.r,[]⟩:=Aa
def z5j:LC:=(.q [.l 3 1,.N 4 3,.f 5 0 4,.l 6 5,.m 7 0,.z 8 (.w 108 [.t 6,.k 3,.k 13,.k 12,.t 7])] (.seq (.draw [(.l 9 1,[]),(.N 10 9,[]),(.f 11 0 10,[]),(.l 12 11,[]),(.l 13 1,[]),(.N 14 13,[]),(.f 15 31 14,[]),(.l 16 15,[]),(.l 17 1,[]),(.N 18 17,[]),(.f 19 25 18,[]),(.L 20 3 19,[]),(.z 21 (.w 70 [.t 12,.t 16,.t 20,.k 13,.k 0]),[])]) (.seq (.draw [(.l 22 1,[]),(.N 23 22,[]),(.f 24 0 23,[]),(.l 25 24,[]),(.l 26 1,[]),(.N 27 26,[]),(.f 28 34 27,[]),(.l 29 28,[]),(.l 30 1,[]),(.N 31 30,[]),(.f 32 16 31,[]),(.L 33 3 32,[]),(.m 34 0,[]),(.z 35 (.w 70 [.t 25,.t 29,.t 33,.t 34,.k 0]),[])]) (.seq (.draw [(.l 36 1,[]),(.N 37 36,[]),(.f 38 0 37,[]),(.l 39 38,[]),(.l 40 1,[]),(.N 41 40,[]),(.f 42 31 41,[]),(.l 43 42,[]),(.l 44 1,[]),(.N 45 44,[]),(.f 46 33 45,[]),(.l 47 46,[]),(.l 48 1,[]),(.N 49 48,[]),(.f 50 34 49,[]),(.l 51 50,[]),(.l 52 1,[]),(.N 53 52,[]),(.f 54 31 53,[]),(.l 55 54,[]),(.z 56 (.w 113 [.t 39,.t 43,.t 47,.t 51,.t 55]),[])]) (.draw [(.l 57 1,[]),(.N 58 57,[]),(.f 59 0 58,[]),(.l 60 59,[]),(.l 61 1,[]),(.N 62 61,[]),(.f 63 16 62,[]),(.L 64 3 63,[]),(.m 65 0,[]),(.l 66 1,[]),(.N 67 66,[]),(.f 68 31 67,[]),(.l 69 68,[]),(.z 70 (.w 109 [.t 60,.t 64,.t 65,.k 0,.t 69]),[])])))))
def r_power_powers_scan_1_1:Ng Tryz.prog 185=some ⟨71,z5j.r,[]⟩:=Aa
def z95:LC:=(.q [.x 2 0] (.seq (.draw [(.l 4 2,[]),(.l 5 2,[]),(.N 6 5,[]),(.f 7 10 6,[]),(.L 8 3 7,[]),(.l 9 2,[]),(.z 10 (.w 154 [.t 9,.k 0]),[(.L 8 3 7,false),(.l 5 2,false),(.l 4 2,false)]),(.V 11 156 4 8 10,[])]) (.q [.l 12 2,.N 13 12,.f 14 0 13,.l 15 14,.m 16 1,.z 17 (.mkFunc 160 [] [.t 2]),.V 18 73 15 16 17] (.seq (.draw [(.l 19 2,[]),(.N 20 19,[]),(.f 21 0 20,[]),(.l 22 21,[]),(.l 23 2,[]),(.N 24 23,[]),(.f 25 31 24,[]),(.l 26 25,[]),(.z 27 (.w 69 [.t 22,.t 26,.c (.u 1)]),[])]) (.seq (.draw [(.l 28 2,[]),(.N 29 28,[]),(.f 30 0 29,[]),(.l 31 30,[]),(.l 32 2,[]),(.N 33 32,[]),(.f 34 16 33,[]),(.L 35 3 34,[]),(.l 36 2,[]),(.N 37 36,[]),(.f 38 28 37,[]),(.l 39 38,[]),(.V 40 72 31 35 39,[])]) (.seq (.draw [(.l 41 2,[]),(.N 42 41,[]),(.f 43 0 42,[]),(.l 44 43,[]),(.l 45 2,[]),(.N 46 45,[]),(.f 47 16 46,[]),(.L 48 3 47,[]),(.l 49 2,[]),(.N 50 49,[]),(.f 51 31 50,[]),(.l 52 51,[]),(.z 53 (.w 109 [.t 44,.t 48,.k (-1),.k 0,.t 52]),[])]) (.draw [(.l 54 2,[]),(.l 55 2,[]),(.N 56 55,[]),(.f 57 1 56,[]),(.L 58 3 57,[]),(.l 59 2,[]),(.N 60 59,[]),(.f 61 10 60,[]),(.L 62 3 61,[]),(.l 63 2,[]),(.N 64 63,[]),(.f 65 16 64,[]),(.L 66 3 65,[]),(.z 67 (.w 155 [.t 54,.t 58,.t 62,.t 66]),[])])))))))
def r_power_powers_run:Ng Tryz.prog 100=some ⟨68,z95.r,[]⟩:=Aa
def z7o:LC:=(.seq (.draw [(.l 3 1,[]),(.N 4 3,[]),(.f 5 0 4,[]),(.l 6 5,[]),(.l 7 1,[]),(.N 8 7,[]),(.f 9 29 8,[]),(.l 10 9,[]),(.l 11 1,[]),(.N 12 11,[]),(.f 13 28 12,[]),(.l 14 13,[]),(.V 15 110 6 10 14,[])]) (.seq (.draw [(.l 16 1,[]),(.N 17 16,[]),(.f 18 0 17,[]),(.l 19 18,[]),(.l 20 1,[]),(.N 21 20,[]),(.f 22 35 21,[]),(.l 23 22,[]),(.z 24 (.mkFunc 161 [] [.t 1]),[]),(.V 25 73 19 23 24,[])]) (.q [.l 26 1,.w 27 163 26] (.draw [(.l 28 1,[]),(.l 29 1,[]),(.N 30 29,[]),(.f 31 10 30,[]),(.L 32 3 31,[]),(.l 33 1,[]),(.N 34 33,[]),(.f 35 10 34,[]),(.L 36 3 35,[]),(.l 37 1,[]),(.N 38 37,[]),(.f 39 16 38,[]),(.L 40 3 39,[]),(.z 41 (.w 155 [.t 28,.t 32,.t 36,.t 40]),[])]))))
def r_power_powers_run_1:Ng Tryz.prog 160=some ⟨42,z7o.r,[]⟩:=Aa
def z5u:LC:=(.seq (.draw [(.l 3 1,[]),(.l 4 1,[]),(.N 5 4,[]),(.f 6 10 5,[]),(.L 7 3 6,[]),(.l 8 1,[]),(.N 9 8,[]),(.f 10 10 9,[]),(.L 11 3 10,[]),(.l 12 1,[]),(.N 13 12,[]),(.f 14 10 13,[]),(.L 15 3 14,[]),(.z 16 (.w 155 [.t 3,.t 7,.t 11,.t 15]),[])]) (.ops [.l 17 1,.w 18 162 17]))
def r_power_powers_run_1_1:Ng Tryz.prog 161=some ⟨19,z5u.r,[]⟩:=Aa
section put
variable {G : M7} {K : LV → M7 → Prop} {e P st : Nat} {ops : List Lo} {deep : Int} {p : Pw}
def box1{x:LObj}(z:G[P]?=some (.cells (Rx e p) st))(g:P≠e)(h:Ny G e ops deep) :
  Ny (G++[x]) e ops deep∧Kp e G (G++[x])∧(G++[x])[P]?=some (.cells (Rx e p) st)∧(G++[x])[G.length]?=some x∧G.length≠e:=by
 have A:e<G.length:=Aq
 have j:=Kp.app' e G [x];exact⟨h.app _,j,j.cells g z,Il,J⟩
def ew(hN:PwN p)(hD:0≤deep∧deep≤50)(hP:G[P]?=some (.cells (Rx e p) st))(g:P≠e)(h:Ny G e ops deep)(hl:ops.length≤700000)
  (k:∀H,Ny H e (ops++(p.shift deep).flat) deep→Kp e G H→K (.tup []) H):Ot (.fn 162) [.ptr P 0] G K:=by
 refine Ni r_power_powers_shift Aa N ?_;obtain⟨w1,w2,w3,w4,w5,w6,w7⟩:=zlu hN;obtain⟨h0,k0,P0,Z,j⟩:=box1 (x:=.cells [.ptr P 0] 0) hP g h;simp[z7n];generalize G++[LObj.cells [.ptr P 0] 0]=G0 at *;generalize G.length=gA at *;have I:=P0;unfold Rx at I;simp[Z,I];refine zdn h0 J λG1 h1 L=>?_
 have M:=L.cells j Z;have O:=L.cells g I;simp[M,O];refine bt (fst:=[]) (cap:=[.ptr gA 0]) (B:=Nd [Nj (p.B+3) p.es.p deep 0,Q6 9 (p.B+4) (p.B+3) 63,Q6 8 (p.B+3) (p.B+3) 1,M8 6 (p.B+3) (p.B+3) (p.B+2),Nn p.es.p deep 0 (p.B+3),Qv (p.B+2) (p.B+4)]) J h1 Ab Ce (λG3 gg K' h3 k3 l3 A=>?_) λG2 h2 Q=>?_
 ·rw[flat_frL]at A;refine Ni r_power_powers_shift_1 Aa N ?_;simp at l3;have z3:=k3.cells j M;have p3:=k3.cells g O;simp[z5v,z3,p3];refine Tz (p:=p.es.p) Am h3 J λG4 R z=>?_
  have E:=z.cells j z3;have F:=z.cells g p3;simp[E,F];refine z8n R Ab λG5 T C=>?_
  have z5:=C.cells j E;have p5:=C.cells g F;simp[z5,p5];refine z8n T Ab λG6 h6 U=>?_
  have z6:=U.cells j z5;have p6:=U.cells g p5;simp[z6,p6];refine Y6 h6 Ab λG7 h7 V=>?_
  have z7:=V.cells j z6;have p7:=V.cells g p6;simp[z7,p7];refine Va (p:=p.es.p) Am h7 Ab λG8 h8 X=>?_
  have z8:=X.cells j z7;have p8:=X.cells g p7;simp[z8,p8];refine zdn h8 Ab λG9 h9 k9=>?_
  simp;exact A G9 (by simpa using h9) (z.trans (C.trans (U.trans (V.trans (X.trans k9)))))
 have gz:=zpc (p:=p.es.p) (n:=p.es.k) (l:=p.B+3) (o:=p.B+4) (b:=p.B+2) (D:=deep);have Y:Ny G2 e (ops++[Qv (p.B+2) p.B]++(cr p.es.p p.es.k (p.B+3) (p.B+4) (p.B+2) deep).flat) deep:=h2;have z2:=Q.cells j M;have p2:=Q.cells g O;simp[z2,p2];refine z8n Y Ab λG4 R z=>?_
 have E:=z.cells j z2;have F:=z.cells g p2;simp[E,F];refine Y6 R Ab λG5 T C=>?_
 simp;refine k G5 ?_ (k0.trans (L.trans (Q.trans (z.trans C))));unfold Pw.shift;simp only[P8,flat_frL];simpa using T
def io{p:Pw}{D:Int}:(p.shift D).flat.length≤20:=by
 have g:=zpc (p:=p.es.p) (n:=p.es.k) (l:=p.B+3) (o:=p.B+4) (b:=p.B+2) (D:=D);unfold Pw.shift;simp only[P8,flat_frL,H9,Ig,Ix];omega
def exp_put(V:PwN p)(hD:0≤deep∧deep≤50)(hP:G[P]?=some (.cells (Rx e p) st))(g:P≠e)(h:Ny G e ops deep)(hl:ops.length≤700000)
  (k:∀X,Ny X e (ops++(p.exp deep).flat) deep→Kp e G X→K (.tup []) X):Ot (.fn 99) [.ptr P 0,.agg p.b.p.f,.i p.over] G K:=by
 refine Ni r_power_powers_exponent Aa N ?_;obtain⟨w1,w2,w3,w4,w5,w6,w7⟩:=zlu V;have hb:=V.b;have gz:=V.ov;have le:e<G.length:=Aq
 have Y:(G++[LObj.cells [.ptr P 0] 0,LObj.cells p.b.p.f 0,LObj.cells [.i p.over] 0])[G.length]?=some (.cells [.ptr P 0] 0):=N
 have Z:(G++[LObj.cells [.ptr P 0] 0,LObj.cells p.b.p.f 0,LObj.cells [.i p.over] 0])[G.length+1]?=some (.cells p.b.p.f 0):=N
 have x0:(G++[LObj.cells [.ptr P 0] 0,LObj.cells p.b.p.f 0,LObj.cells [.i p.over] 0])[G.length+2]?=some (.cells [.i p.over] 0):=N
 have h0:=h.app [LObj.cells [.ptr P 0] 0,LObj.cells p.b.p.f 0,LObj.cells [.i p.over] 0];have k0:=Kp.app' e G [LObj.cells [.ptr P 0] 0,LObj.cells p.b.p.f 0,LObj.cells [.i p.over] 0];have Q:=k0.cells g hP;have j:G.length≠e:=J
 have I:G.length+1≠e:=J
 have z:G.length+2≠e:=J
 unfold Pc.f Pn.p at Z x0 Y h0 k0 Q;simp[z5d,Pc.f,Pn.p];generalize G++[LObj.cells [.ptr P 0] 0,LObj.cells [.i (p.b.b:Int),.i (p.b.a:Int),.i (p.b.k:Int)] 0,LObj.cells [.i (p.over:Int)] 0]=G0 at *;generalize G.length+2=x at *;generalize G.length+1=y at *;generalize G.length=gC at *;unfold Rx at Q;simp[Y,Z,Q];refine zdn h0 J λG1 h1 L=>?_
 have z1:=L.cells j Y;have y1:=L.cells I Z;have x1:=L.cells z x0;have p1:=L.cells g Q;simp[z1,y1,p1];refine bt (fst:=[]) (cap:=[.ptr gC 0,.ptr y 0,.ptr x 0]) (B:=Nd (p.expB deep)) J h1 Ab Co (λG3 gg K' h3 R l3 A=>?_) λG2 h2 M=>?_
 ·rw[flat_frL]at A;refine Ni r_power_powers_exponent_1 Aa N ?_;simp at l3;have z3:=R.cells j z1;have y3:=R.cells I y1;have x3:=R.cells z x1;have p3:=R.cells g p1;simp[z4i,z3,y3,p3];refine Tz (p:=p.b.p) Am h3 J λG4 h4 O=>?_
  have z4:=O.cells j z3;have x4:=O.cells z x3;have p4:=O.cells g p3;unfold Pw.expB at A;by_cases F:p.over=0
  ·rw[H7 F]at A;simp[z4,x4,p4,F];refine Va (p:=p.es.p) Am h4 Ab λC H D=>?_
   simp;exact A C Bt (O.trans D)
  rw[Hx F]at A;simp[z4,x4,p4,F];refine⟨J,?_⟩;refine z8n h4 Ab λC H D=>?_
  have z5:=D.cells j z4;have x5:=D.cells z x4;have p5:=D.cells g p4;simp[z5,p5];refine Y6 H Ab λG6 h6 T=>?_
  have z6:=T.cells j z5;have x6:=T.cells z x5;have p6:=T.cells g p5;simp[z6,p6];refine Va (p:=p.es.p) Am h6 Ab λG7 h7 U=>?_
  have z7:=U.cells j z6;have x7:=U.cells z x6;have p7:=U.cells g p6;simp[z7,x7,p7];refine z8n h7 Ab λG8 h8 k8=>?_
  simp;exact A G8 (by simpa using h8) (O.trans (D.trans (T.trans (U.trans k8))))
 have gA:=U0 (d:=deep) (t:=p.b.k) (b:=Nd (p.expB deep)) (m:=5) Co;have z2:=M.cells j z1;have y2:=M.cells I y1;have x2:=M.cells z x1;have p2:=M.cells g p1;have E:∀C,Ny C e (ops++[Qv (p.B+4) p.B]++(Oz deep p.b.k (Nd (p.expB deep))).flat++p.expE) deep→Kp e G2 C→K (.tup []) C:=λC H D=>by
  refine k C ?_ (k0.trans (L.trans (M.trans D)));unfold Pw.exp;simp only[P8,flat_frL];simpa using H
 unfold Pw.expE at E;by_cases F:p.over=0
 ·rw[H7 F]at E;simp[z2,x2,p2,F];refine Va (p:=p.es.p) Am h2 Ab λC H D=>?_
  simp;exact E C Bt D
 ·rw[Hx F]at E;simp[z2,x2,y2,p2,F];refine Va (p:=p.es.p) Am h2 Ab λC H D=>?_
  simp;exact E C Bt D
def di{p:Pw}{D:Int}:(p.exp D).flat.length≤20:=by
 have g:=U0 (d:=D) (t:=p.b.k) (b:=Nd (p.expB D)) (m:=5) Co;have j:p.expE.length≤1:=by unfold Pw.expE;split<;>simp
 unfold Pw.exp;simp only[P8,flat_frL,H9,Ig,Ix];omega
def fo{q:Nat}(hN:PwN p)(hD:0≤deep∧deep≤50)(hz:G[g]?=some (.cells [.ptr P 0] j))(z:g≠e)(hq:G[q]?=some (.cells [.i p.k] A))(D:q≠e)(hP:G[P]?=some (.cells (Rx e p) st))(C:P≠e)(h:Ny G e ops (deep+1))(hl:ops.length≤700000)
  (k:∀R,Ny R e (ops++(p.scanR deep).flat) (deep+1)→Kp e G R→K (.tup []) R):Ot (.fn 184) [.i deep,.ptr g 0,.ptr q 0] G K:=by
 refine Ni r_power_powers_scan_1 Aa N ?_;obtain⟨w1,w2,w3,w4,w5,w6,w7⟩:=zlu hN;have hk:=hN.k;have T:=hP;unfold Rx at T;simp[z6z,hz,T];refine Y6 h J λG0 h0 I=>?_
 have z0:=I.cells z hz;have q0:=I.cells D hq;have p0:=I.cells C T;simp[z0,p0];refine z71 h0 Ab λG1 h1 L=>?_
 have U:=L.cells z z0;have q1:=L.cells D q0;have V:=L.cells C p0;simp[U,q1,V];refine bt (fst:=[]) (cap:=[.ptr g 0]) (B:=Nd (p.scanB (deep+1))) J h1 Ab (by rw[flat_frL];simp[Pw.scanB]) (λG3 gg K' h3 k3 l3 F=>?_) λG2 h2 M=>?_
 ·rw[flat_frL]at F;refine Ni r_power_powers_scan_1_1 Aa N ?_;simp at l3;have z3:=k3.cells z U;have p3:=k3.cells C V;simp[z5j,z3,p3];refine Y6 h3 J λG4 X E=>?_
  have O:=E.cells z z3;have Q:=E.cells C p3;simp[O,Q];refine Tz (p:=p.tab.p) Am X Ab λG5 Y H=>?_
  have z5:=H.cells z O;have p5:=H.cells C Q;simp[z5,p5];refine Tz (p:=p.cur.p) Am Y Ab λG6 h6 Z=>?_
  have z6:=Z.cells z z5;have p6:=Z.cells C p5;simp[z6,p6];refine zof h6 Ab λG7 h7 k7=>?_
  have z7:=k7.cells z z6;have p7:=k7.cells C p6;simp[z7,p7];refine Va (p:=p.cur.p) Am h7 Ab λG8 h8 k8=>?_
  simp;exact F G8 (by simpa [Pw.scanB] using h8) (E.trans (H.trans (Z.trans (k7.trans k8))))
 have gz:=U0 (d:=deep+1) (t:=p.k) (b:=Nd (p.scanB (deep+1))) (m:=5) (by simp[flat_frL,Pw.scanB]);have z2:=M.cells z U;have q2:=M.cells D q1;have p2:=M.cells C V;simp[z2,q2,p2];refine Xs h2 Ab λG4 X E=>?_
 have O:=E.cells z z2;have Q:=E.cells C p2;simp[O,Q];refine Y6 X Ab λG5 Y H=>?_
 simp;refine k G5 ?_ (I.trans (L.trans (M.trans (E.trans H))));unfold Pw.scanR;simp only[P8,flat_frL];simpa using Y
def zrh{p:Pw}{D:Int}:(p.scanR D).flat.length≤20:=by
 have g:=U0 (d:=D+1) (t:=p.k) (b:=Nd (p.scanB (D+1))) (m:=5) (by simp[flat_frL,Pw.scanB]);unfold Pw.scanR;simp only[P8,flat_frL,H9,Ig,Ix];omega
def ve(L:PwN p)(hD:0≤deep∧deep≤40)(C:G[P]?=some (.cells (Rx e p) st))(g:P≠e)(h:Ny G e ops deep)(hl:ops.length≤600000)
  (k:∀M,Ny M e (ops++(p.scan deep).flat) deep→Kp e G M→K (.tup []) M):Ot (.fn 163) [.ptr P 0] G K:=by
 refine Ni r_power_powers_scan Aa N ?_;have hk:=L.k;have O:=L.nk;have hw:=L.w;have le:e<G.length:=Aq
 have Q:P<G.length:=(Hu.1 C).1;have E:(G++[LObj.cells [.ptr P 0] 0,LObj.cells [.i 0] 0])[P]?=_:=(Nh Q).trans C;have F:(G++[LObj.cells [.ptr P 0] 0])[P]?=_:=(Nh Q).trans C;have j:(G++[LObj.cells [.ptr P 0] 0,LObj.cells [.i p.k] 1])[P]?=_:=(Nh Q).trans C;unfold Rx at E F j;have z0:(G++[LObj.cells [.ptr P 0] 0,LObj.cells [.i p.k] 1])[G.length]?=some (.cells [.ptr P 0] 0):=N
 have q0:(G++[LObj.cells [.ptr P 0] 0,LObj.cells [.i p.k] 1])[G.length+1]?=some (.cells [.i p.k] 1):=N
 have h0:=h.app [LObj.cells [.ptr P 0] 0,LObj.cells [.i p.k] 1];have Y:=Kp.app' e G [LObj.cells [.ptr P 0] 0,LObj.cells [.i p.k] 1];have P0:=Y.cells g C;have z:G.length≠e:=J
 have A:G.length+1≠e:=J
 simp[z8p,↓E,↓F,↓j,O];generalize G++[LObj.cells [.ptr P 0] 0,LObj.cells [.i (p.k:Int)] 1]=G0 at *;generalize G.length+1=q at *;generalize G.length=gz at *;refine Xs h0 J λG7 h7 H=>?_
 have Z:=H.cells z z0;have q7:=H.cells A q0;have P7:=H.cells g P0;have p7:=H.cells g j;have R:=ko hw.2;have T:((2:Int)^p.w)=((2^p.w:Nat):Int):=N
 simp[Z,q7,p7];rw[T];have U:(-9223372036854775808:Int)≤((2^p.w:Nat):Int)∧((2^p.w:Nat):Int)<9223372036854775808:=by
  generalize 2^p.w=W at R ⊢;omega
 refine⟨J,U,?_⟩;refine bt (fst:=[]) (cap:=[.ptr gz 0,.ptr q 0]) (B:=p.scanR deep) J h7 Ab (by have:=zrh (p:=p) (D:=deep);omega) (λG8 gg K' V I l8 X=>?_) λG8 V I=>?_
 ·simp at l8;exact fo L J (I.cells z Z) z (I.cells A q7) A (I.cells g P7) g V J X
 simp;refine k G8 ?_ (Y.trans (H.trans I));unfold Pw.scan;simp only[P8,flat_frL];simpa using V
def zxi{p:Pw}{D:Int}:(p.scan D).flat.length≤30:=by
 have g:=U0 (d:=D) (t:=(2^p.w:Nat)) (b:=p.scanR D) zrh;unfold Pw.scan;simp only[P8,flat_frL,H9,Ig,Ix];omega
def zph{p:Pw}{D:Int}:(p.runW D).flat.length≤220:=by
 have g:=z7q (p:=p) (d:=p.acc) (a:=p.acc) (b:=p.acc) (D:=D);have j:=io (p:=p) (D:=D);unfold Pw.runW;simp only[P8,H9];omega
def zoy{p:Pw}{D:Int}:(p.runR D).flat.length≤500:=by
 have g:=z7q (p:=p) (d:=p.acc) (a:=p.acc) (b:=p.cur) (D:=D);have j:=U0 (d:=D) (t:=p.w) (b:=p.runW (D+1)) zph;have z:=zxi (p:=p) (D:=D);unfold Pw.runR;simp only[P8,flat_frL,H9,Ig,Ix];omega
def qp{i:Int}(E:PwN p)(hD:0≤deep∧deep≤5)(hz:G[g]?=some (.cells [.ptr P 0] j))(A:g≠e)(hP:G[P]?=some (.cells (Rx e p) st))(z:P≠e)(h:Ny G e ops deep)(hl:ops.length≤500000)
  (k:∀L,Ny L e (ops++(p.runR deep).flat) deep→Kp e G L→K (.tup []) L):Ot (.fn 160) [.i i,.ptr g 0] G K:=by
 refine Ni r_power_powers_run_1 Aa N ?_;obtain⟨F,w2,w3,w4,w5,w6,w7⟩:=zlu E;have hw:=E.w;have M:=hP;unfold Rx at M;simp[z7o,hz,M];refine zdn h J λG1 h1 H=>?_
 have O:=H.cells A hz;have P1:=H.cells z hP;have Q:=H.cells z M;simp[O,Q];refine bt (fst:=[]) (cap:=[.ptr g 0]) (B:=p.runW (deep+1)) J h1 Ab (by have:=zph (p:=p) (D:=deep+1);omega) (λG3 gg K' h3 R l3 T=>?_) λG2 h2 I=>?_
 ·refine Ni r_power_powers_run_1_1 Aa N ?_;simp at l3;have z3:=R.cells A O;have P3:=R.cells z P1;have p3:=R.cells z Q;simp[z5u,z3,p3];refine zga (d:=p.acc) (a:=p.acc) (b:=p.acc) E J F F F rfl rfl rfl P3 h3 J λG4 U C=>?_
  have gz:=z7q (p:=p) (d:=p.acc) (a:=p.acc) (b:=p.acc) (D:=deep+1);have V:=C.cells A z3;have X:=C.cells z P3;simp[V];refine ew E J X z U Ab λY Z k5=>?_
  simp;refine T Y ?_ (C.trans k5);unfold Pw.runW;rw[P8];simpa using Z
 have gA:=U0 (d:=deep) (t:=p.w) (b:=p.runW (deep+1)) zph;have z2:=I.cells A O;have P2:=I.cells z P1;have p2:=I.cells z Q;simp[z2];refine ve E J P2 z h2 Ab λG4 U C=>?_
 have gC:=zxi (p:=p) (D:=deep);have V:=C.cells A z2;have X:=C.cells z P2;have p4:=C.cells z p2;simp[V,p4];refine zga (d:=p.acc) (a:=p.acc) (b:=p.cur) E J F F w3 rfl rfl rfl X U Ab λY Z k5=>?_
 simp;refine k Y ?_ (H.trans (I.trans (C.trans k5)));unfold Pw.runR;simp only[P8,flat_frL];simpa using Z
def run_put(z:PwN p)(hD:0≤deep∧deep≤4)(hP:G[P]?=some (.cells (Rx e p) st))(g:P≠e)(h:Ny G e ops deep)(hl:ops.length≤400000)
  (k:∀Q,Ny Q e (ops++(p.run deep).flat) deep→Kp e G Q→K (.tup []) Q):Ot (.fn 100) [.ptr P 0,.i p.times] G K:=by
 refine Ni r_power_powers_run Aa N ?_;obtain⟨Z,w2,w3,w4,w5,w6,w7⟩:=zlu z;have gz:=z.ti;obtain⟨h0,k0,E,F,j⟩:=box1 (x:=.cells [.ptr P 0] 0) hP g h;simp[z95];generalize G++[LObj.cells [.ptr P 0] 0]=H at *;generalize G.length=gE at *;have R:=E;unfold Rx at R;simp[F,R];refine zkm z E λC=>?_
 have z1:(H++C)[gE]?=_:=(Nh (Hu.1 F).1).trans F;have T:(H++C)[P]?=_:=(Nh (Hu.1 E).1).trans E;have h1:=h0.app C;have k1:=Kp.app' e H C;generalize H++C=G1 at *;have U:=T;unfold Rx at U;simp[F,z1,R,U];refine zne (to:=p.acc) (fr:=p.ent) z J Z w7 T g h1 J λG2 h2 I=>?_
 have gA:=zd8 (p:=p) (a:=p.acc) (b:=p.ent) (D:=deep);have V:=I.cells j z1;have P2:=I.cells g T;have p2:=I.cells g U;simp[V,p2];refine bt (fst:=[]) (cap:=[.ptr gE 0]) (B:=p.runR (deep+1)) J h2 Ab (by have:=zoy (p:=p) (D:=deep+1);omega) (λG3 gg K' X A l3 Y=>?_) λG3 X A=>?_
 ·simp at l3;exact qp z J (A.cells j V) j (A.cells g P2) g X J Y
 have gC:=U0 (d:=deep) (t:=p.times) (b:=p.runR (deep+1)) zoy;have z3:=A.cells j V;have P3:=A.cells g P2;have p3:=A.cells g p2;simp[z3,p3];refine Xs X Ab λG4 h4 L=>?_
 have z4:=L.cells j z3;have P4:=L.cells g P3;have p4:=L.cells g p3;simp[z4,p4];refine zop (p:=p.cur.p) J Am h4 Ab λG5 h5 M=>?_
 have gD:(S5 p.cur.p p.B deep).flat.length≤3:=U0 (m:=1) Cp;have z5:=M.cells j z4;have P5:=M.cells g P4;have p5:=M.cells g p4;simp[z5,p5];refine Va (p:=p.cur.p) Am h5 Ab λG6 h6 O=>?_
 have z6:=O.cells j z5;have P6:=O.cells g P5;have p6:=O.cells g p5;simp[z6,p6];refine zga (d:=p.d) (a:=p.acc) (b:=p.cur) z J z.d Z w3 z.dk rfl rfl P6 h6 Ab λG7 h7 k7=>?_
 simp;refine k G7 ?_ (k0.trans (k1.trans (I.trans (A.trans (L.trans (M.trans (O.trans k7)))))));unfold Pw.run;simp only[P8,flat_frL];simpa using h7
end put
end
section
def zhy:LC:=(.q [.x 5 1,.x 6 2,.e 8,.K 9 0] (.seq (.seq (.draw [(.m 21 0,[]),(.L 22 7 5,[]),(.L 23 8 6,[]),(.m 24 3,[]),(.m 25 0,[]),(.L 26 7 5,[]),(.W 27 42 25 26,[(.L 23 8 6,false),(.L 22 7 5,false)]),(.z 28 (.w 58 [.t 21,.t 22,.t 23,.t 24,.t 27]),[]),(.z 29 (.un .not (.t 28)),[])]) (.cond (.t 29) (.q [.e 8,.K 9 2] .ret) .skip)) (.q [.m 31 0,.L 32 7 5,.L 33 8 6,.V 34 59 31 32 33,.m 30 34,.X 35 0 30,.X 36 1 30,.z 11 (.alloc [(.i 0),(.i 0),(.i 0)]),.m 10 35,.S 3 11 36] (.q [.f 37 1 6,.l 38 37,.f 39 4 5,.l 40 39,.I 41 3 38 40,.L 42 3 41,.z 12 (.alloc [(.i 0),(.i 0),(.i 0)]),.S 3 12 42] (.seq (.draw [(.m 43 3,[]),(.z 44 (.build [.nilSl,(.i 0)] [(1,1,.t 43)]),[]),(.x 45 44,[]),(.f 46 1 6,[]),(.l 47 46,[]),(.f 48 1 5,[]),(.l 49 48,[]),(.I 50 3 47 49,[]),(.L 51 3 50,[]),(.f 52 1 6,[]),(.l 53 52,[]),(.f 54 3 5,[]),(.l 55 54,[]),(.I 56 3 53 55,[]),(.L 57 3 56,[]),(.f 58 1 6,[]),(.l 59 58,[]),(.f 60 5 5,[]),(.l 61 60,[]),(.I 62 3 59 61,[]),(.L 63 3 62,[]),(.f 64 6 5,[]),(.l 65 64,[]),(.z 66 (.cvInt .i64 (.t 65)),[]),(.m 67 10,[]),(.b 68 .add 3 67 10,[]),(.z 69 (.build [.nilPtr,(.i 0),(.i 0),(.i 0),(.i 0),(.i 0),(.i 0),(.i 0),(.i 0),(.i 0),(.i 0),(.i 0),(.i 0),(.i 0),(.i 0),(.i 0),(.i 0),(.i 0),(.i 0),(.i 0),(.i 0),(.i 0),(.i 0),(.i 0),(.i 0),(.i 0),(.i 0),(.i 0),(.i 0),(.i 0),(.i 0),(.i 0),(.i 0),(.i 0),(.i 0),(.i 0),(.i 0)] [(0,1,.t 45),(1,3,.t 51),(4,3,.t 57),(7,3,.t 63),(35,1,.t 66),(36,1,.t 68)]),[]),(.x 70 69,[(.l 65 64,false),(.L 63 3 62,false),(.l 61 60,false),(.l 59 58,false),(.L 57 3 56,false),(.l 55 54,false),(.l 53 52,false),(.L 51 3 50,false),(.l 49 48,false),(.l 47 46,false),(.x 45 44,true)]),(.m 13 70,[])]) (.q [.m 71 13,.N 72 71,.f 73 7 72,.f 74 2 73,.l 75 74,.z 15 (.alloc [(.i 0)]),.m 14 75,.v (.store 1 (.t 15) (.k 0))] (.q [.z 76 (.mkFunc 97 [] [.t 15,.t 11]),.m 16 76] (.seq (.draw [(.m 77 13,[]),(.m 78 13,[]),(.m 79 13,[]),(.m 80 13,[]),(.m 81 16,[]),(.m 82 14,[]),(.m 84 16,[]),(.m 85 14,[]),(.m 87 16,[]),(.m 88 14,[]),(.m 90 16,[]),(.f 91 2 12,[]),(.l 92 91,[]),(.b 93 .add 3 92 1,[]),(.z 83 (.callV (.t 81) [.t 82]),[(.l 92 91,false)]),(.z 86 (.callV (.t 84) [.t 85]),[(.l 92 91,false)]),(.z 89 (.callV (.t 87) [.t 88]),[(.l 92 91,false)]),(.z 94 (.callV (.t 90) [.t 93]),[]),(.N 95 77,[]),(.f 96 10 95,[]),(.S 3 96 83,[]),(.N 97 78,[]),(.f 98 13 97,[]),(.S 3 98 86,[]),(.N 99 79,[]),(.f 100 16 99,[]),(.S 3 100 89,[]),(.N 101 80,[]),(.f 102 19 101,[]),(.S 3 102 94,[])]) (.seq (.draw [(.m 103 13,[]),(.m 104 13,[]),(.m 105 16,[]),(.m 106 14,[]),(.m 109 16,[]),(.m 110 14,[]),(.m 111 13,[]),(.N 112 111,[]),(.f 113 35 112,[]),(.l 114 113,[]),(.c 115 .shl 3 110 114,[]),(.w 107 21 106,[(.l 114 113,false)]),(.z 108 (.callV (.t 105) [.t 107]),[(.l 114 113,false)]),(.z 116 (.callV (.t 109) [.t 115]),[]),(.N 117 103,[]),(.f 118 22 117,[]),(.S 3 118 108,[]),(.N 119 104,[]),(.f 120 25 119,[]),(.S 3 120 116,[])]) (.seq (.seq (.draw [(.m 121 13,[]),(.N 122 121,[]),(.f 123 28 122,[]),(.m 124 13,[]),(.N 125 124,[]),(.f 126 29 125,[]),(.m 127 13,[]),(.N 128 127,[]),(.f 129 30 128,[]),(.m 130 13,[]),(.N 131 130,[]),(.f 132 31 131,[]),(.m 133 13,[]),(.N 134 133,[]),(.f 135 32 134,[]),(.m 136 13,[]),(.N 137 136,[]),(.f 138 33 137,[]),(.m 139 13,[]),(.N 140 139,[]),(.f 141 34 140,[]),(.z 142 (.buildSl 1 7 [.nilPtr,.nilPtr,.nilPtr,.nilPtr,.nilPtr,.nilPtr,.nilPtr] [(0,1,.t 123),(1,1,.t 126),(2,1,.t 129),(3,1,.t 132),(4,1,.t 135),(5,1,.t 138),(6,1,.t 141)]),[]),(.s 143 142,[]),(.K 144 0,[])]) (.block 0 (.loop (.q [.c 145 .lss 3 144 143] (.seq (.cond (.t 145) .skip (.exit 0)) (.seq (.block 1 (.q [.m 146 144,.I 147 1 142 144,.l 148 147,.m 17 146,.m 18 148] (.ops [.m 149 18,.m 150 10,.m 151 17,.c 152 .add 3 150 151,.N 153 149,.S 1 153 152]))) (.ops [.b 154 .add 3 144 1,.m 144 154]))))))) (.seq (.draw [(.f 156 2 12,[]),(.l 157 156,[]),(.m 158 13,[]),(.N 159 158,[]),(.f 160 35 159,[]),(.l 161 160,[]),(.W 162 45 157 161,[]),(.m 155 162,[]),(.X 163 0 155,[]),(.X 164 1 155,[]),(.m 19 163,[]),(.m 20 164,[])]) (.seq (.draw [(.m 165 13,[]),(.N 166 165,[]),(.f 167 0 166,[]),(.l 168 167,[]),(.m 169 13,[]),(.N 170 169,[]),(.f 171 28 170,[]),(.l 172 171,[]),(.z 173 (.w 69 [.t 168,.t 172,.c (.u 0)]),[])]) (.q [.m 174 13,.w 175 98 174] (.q [.m 176 13,.L 177 3 12,.m 178 20,.V 179 99 176 177 178] (.q [.m 180 13,.m 181 19,.W 182 100 180 181] (.q [.m 183 13,.N 184 183,.f 185 0 184,.l 186 185,.N 187 186,.f 188 0 187,.l 189 188,.m 8 189,.K 9 0] .ret))))))))))))))))
def r_power_Code:Ng Tryz.prog 44=some ⟨190,zhy.r,[.tmp 8,.tmp 9]⟩:=Aa
def ze7:LC:=(.q [.z 4 (.alloc [(.i 0),(.i 0),(.i 0)])] (.q [.l 5 1,.m 6 0,.c 7 .add 3 5 6,.S 1 1 7] (.q [.L 8 3 2,.l 9 1,.m 10 0,.c 11 .sub 3 9 10,.m 12 0,.V 13 68 8 11 12,.S 3 4 13] .ret)))
def r_power_Code_1:Ng Tryz.prog 97=some ⟨14,ze7.r,[.cellN 4 3]⟩:=Aa
def Ob(p:Pc):Pn:=⟨p.buf.toNat,p.at_.toNat,p.size.toNat⟩
def qk{p:Pc}(g:0≤p.buf)(j:0≤p.at_)(z:0≤p.size):(Ob p).p=p:=by
 unfold Ob Pn.p;rw[Mp g,Mp j,Mp z]
def zdb{g:List Pc}{F:Pc}(h:Wa vP Z g vK F=true){i:Nat}(hi:i<vP.length):i<g.length∧(Ob (Qm g i)).p=Qm g i∧Bp Z (Ob (Qm g i))∧(Qm g i).size=(gv vP i).limbs∧(gv vP i).sec=(Ns Z (Qm g i).buf.toNat).sec∧((Ns Z (Qm g i).buf.toNat).kind=1→Sd (gv vP i)=true)∧0≤(Qm g i).at_∧(Qm g i).at_≤65536:=by
 have C:=h;simp only[Wa,Hy,Ic]at C;obtain⟨_,_,R,H,I,_⟩:=C;have D:=Jv.1 I i (Kh.2 hi);simp only[mc,Hy,Ic,Jf,Mf,I4,Bool.not_eq_false',Ls]at D;obtain⟨z,A,j,L,M⟩:=D;obtain⟨n,O,P,T,U,E,V,X⟩:=z8l z;have Q:=zh1 H _ (Iq (Sx P));have B:0≤(Qm g i).buf:=J
 refine⟨J,qk B E J,⟨Bu,?_,?_⟩,A,M,λq=>?_,E,J⟩
 ·have e:(Ob (Qm g i)).b=n:=Bu
  rw[e];simp only[Ob];omega
 ·have e:(Ob (Qm g i)).b=n:=Bu
  rw[e];omega
 ·rcases j with j|j
  ·exact absurd q j
  ·exact j
def jv{o:Ko}{E:List Pc}{g:Pc}(h:Wa vP Z E vK g=true):(Ob (Ty vP o vK g)).p=Ty vP o vK g∧Bp Z (Ob (Ty vP o vK g))∧Bw Z (Ob (Ty vP o vK g))∧(Ns Z (Ob (Ty vP o vK g)).b).sec=!Sc vP o.d∧0≤(Ty vP o vK g).at_∧(Ty vP o vK g).at_≤65536:=by
 have A:=h;simp only[Wa,Hy,Ic]at A;obtain⟨_,_,Q,F,_,H,I⟩:=A;have j:∀(b:Bool) (w:Pc),Wm Z b w=true→(Ob w).p=w∧Bp Z (Ob w)∧Bw Z (Ob w)∧(Ns Z (Ob w).b).sec=b∧0≤w.at_∧w.at_≤65536:=λb w hw=>by
  simp only[Wm,Hy,Jf,I4,Ls]at hw;obtain⟨z,B,C⟩:=hw;obtain⟨n,L,M,R,T,D,U,V⟩:=z8l z;have O:=zh1 F _ (Iq (Sx M));have e:(Ob w).b=n:=Bu
  have P:w.buf.toNat=n:=J
  rw[P]at B C;refine⟨qk J D J,⟨J,?_,?_⟩,?_,?_,D,J⟩
  ·rw[e];simp only[Ob];omega
  ·rw[e];omega
  ·unfold Bw;rw[e];exact B
  ·rw[e];exact C
 unfold Ty;cases X:Sc vP o.d with
 |true=>simpa using j false vK H
 |false=>simpa using j true g I
def Sw(vs:List Vr)(o:Ko)(g:List Pc)(j z:Pc):Pw :=
 ⟨Ob (Qm g o.d.toNat),Ob (Qm g o.a.toNat),Ob (Qm g o.b.toNat),Ob (Qm g o.c.toNat),(Ty vs o j z).buf.toNat,(Ty vs o j z).at_.toNat,(Qm g o.c.toNat).size.toNat,o.imm.toNat,(R5 (Qm g o.b.toNat).size o.imm.toNat).toNat,(Sj (Qm g o.b.toNat).size o.imm.toNat).toNat,(xx vs o).toNat⟩
def zzz(vs:List Vr)(o:Ko)(bs:List Bf)(g:List Pc)(j z:Pc)(deep:Int):List Lo:=if mg vs o bs g j z deep (Nq vs o)=true then ((Sw vs o g j z).code deep).flat else []
def zvp(vs:List Vr)(o:Ko)(bs:List Bf)(g:List Pc)(j z:Pc)(deep:Int):Int:=if mg vs o bs g j z deep (Nq vs o)=true then 0 else 2
def Zt{l:Nat}{w:Nat}(C:1≤l∧l≤512)(hw:1≤w∧w≤6):∃t v:Nat,R5 l w=t∧Sj l w=v∧t*w=64*l+v∧v≤63∧v<w∧t≤40000:=by
 have z:R5 l w=(64*(l:Int)+w-1)/w:=by unfold R5;rw[Hx J]
 have g:Sj l w=R5 l w*w-64*l:=by unfold Sj;rw[Hx J]
 have j:0≤(64*(l:Int)+w-1)/w∧(64*(l:Int)+w-1)/w≤40000∧0≤(64*(l:Int)+w-1)/w*w-64*l∧(64*(l:Int)+w-1)/w*w-64*l<w:=by
  have A:w=1∨w=2∨w=3∨w=4∨w=5∨w=6:=J
  rcases A with rfl|rfl|rfl|rfl|rfl|rfl<;>omega
 rw[z]at g;obtain⟨t,B⟩:=Hz j.1;rw[B]at z g j;obtain⟨v,hv⟩:=Hz j.2.2.1;rw[hv]at g j;refine⟨t,v,z,g,?_,J,J,J⟩;have:((t*w:Nat):Int)=((64*l+v:Nat):Int):=by push_cast;omega
 exact_mod_cast this
def zpf{p:Pw}{D:Int}:(p.code D).flat.length≤3000:=by
 have g:=za4 (p:=p) (d:=p.ent) (bits:=64*p.k) (D:=D);have j:=za4 (p:=p) (d:=p.cur) (bits:=128*p.k) (D:=D);have z:=z7q (p:=p) (d:=p.base) (a:=p.a) (b:=p.cur) (D:=D);have A:=zd8 (p:=p) (a:=p.acc) (b:=p.ent) (D:=D);have B:=U0 (d:=D) (t:=(2^p.w-1:Nat)) (b:=p.fillR D) zjs;have C:=di (p:=p) (D:=D);have E:=U0 (d:=D) (t:=p.times) (b:=p.runR (D+1)) zoy;have F:(S5 p.cur.p p.B D).flat.length≤3:=U0 (m:=1) Cp;have H:=z7q (p:=p) (d:=p.d) (a:=p.acc) (b:=p.cur) (D:=D);unfold Pw.code Pw.fill Pw.run;simp only[P8,flat_frL,H9,Ig,Ix];omega
section next
variable {G : M7} {K : LV → M7 → Prop}
def o7{w:Pc}{x n:Int}(hw:-1000000≤w.at_∧w.at_≤1000000)(P:0≤x∧x≤1000000)(Q:0≤n∧n≤1000000)(B:G[6]?=some (.cells [.i x] g))(E:G[2]?=some (.cells w.f j))
  (k:∀y,K (.agg (Pc.f ⟨w.buf,w.at_+x,n⟩)) ((G++y).set 6 (.cells [.i (x+n)] (g+1)))):Ot (.fn 97) [.i n,.ptr 6 0,.ptr 2 0] G K:=by
 refine Ni r_power_Code_1 Aa N ?_;have F:6<G.length:=(Hu.1 B).1;have H:∀y:List LObj,(G++y)[6]?=_:=λy=>(Nh F).trans B
 have C:∀y:List LObj,(G++y)[2]?=_:=λy=>(Nh J).trans E
 have I:∀(y:List LObj) (o:LObj),((G++y).set 6 o)[6]?=some o:=λy o=>H0 Ab
 have D:∀(y:List LObj) (o:LObj),((G++y).set 6 o)[2]?=some (.cells w.f j):=λy o=>by rw[Hw J];exact C y
 unfold Pc.f at C D;simp[ze7,↓H,↓I,↓D];refine⟨J,J,?_⟩;refine z6f (p:=w) J ?_;have L:∀(c:LObj) (y:List LObj) (o:LObj),((G++c::y).set 6 o)[G.length]?=some c:=λc y o=>by
  rw[Hw J];simp
 have M:∀(c z:LObj) (y:List LObj) (o:LObj),((G++c::y).set 6 o).set G.length z=(G++z::y).set 6 o:=λc z y o=>by
  rw[List.set_comm _ _ J];simp
 have e:∀y O:List LObj,((G++y).set 6 (.cells [.i (x+n)] (g+1)))++O=(G++(y++O)).set 6 (.cells [.i (x+n)] (g+1)):=λy O=>by rw[←Jj];exact (List.set_append_left _ _ Ab).symm
 have A:¬6=G.length:=J
 simp[Pc.f,e,↓L,↓M,A];exact k _
structure CdH (L0 L1 L2 L3 L4:List LV) (PC:List LV) (s5:Nat) (x:Int) (s6:Nat) (G:M7):Prop where
 g0:G[0]?=some (.cells L0 0)
 g1:G[1]?=some (.cells L1 0)
 g2:G[2]?=some (.cells L2 1)
 g3:G[3]?=some (.cells L3 1)
 g4:G[4]?=some (.cells L4 0)
 g5:G[5]?=some (.cells PC s5)
 g6:G[6]?=some (.cells [.i x] s6)
def CdH.st{L1 L2 L3 L4 PC:List LV}{s5 s6:Nat}{x:Int}(h:CdH vY L1 L2 L3 L4 PC s5 x s6 G)(gg:List LV)(s':Nat):CdH vY L1 L2 L3 L4 gg s' x s6 (G.set 5 (.cells gg s')):=by
 have l6:6<G.length:=(Hu.1 h.g6).1;have a:∀i:Nat,i≠5→(G.set 5 (.cells gg s'))[i]?=G[i]?:=λi hi=>Hw (Ne.symm hi)
 exact⟨(a 0 J).trans h.g0,(a 1 J).trans h.g1,(a 2 J).trans h.g2,(a 3 J).trans h.g3,(a 4 J).trans h.g4,H0 J,(a 6 J).trans h.g6⟩
def CdH.app{L1 L2 L3 L4 PC:List LV}{s5 s6:Nat}{x:Int}(h:CdH vY L1 L2 L3 L4 PC s5 x s6 G)(y:List LObj):CdH vY L1 L2 L3 L4 PC s5 x s6 (G++y):=by
 have l6:6<G.length:=(Hu.1 h.g6).1;have a:∀i:Nat,i≤6→(G++y)[i]?=G[i]?:=λi hi=>Nh J
 exact⟨(a 0 J).trans h.g0,(a 1 J).trans h.g1,(a 2 J).trans h.g2,(a 3 J).trans h.g3,(a 4 J).trans h.g4,(a 5 J).trans h.g5,(a 6 J).trans h.g6⟩
def zya{j z A:List LV}{s5 s6:Nat}{x n:Int}{w:Pc}(g:CdH E vY w.f j z A s5 x s6 G)(hw:-1000000≤w.at_∧w.at_≤1000000)(C:0≤x∧x≤1000000)(D:0≤n∧n≤1000000)
  (k:∀B,CdH E vY w.f j z A s5 (x+n) (s6+1) B→K (.agg (Pc.f ⟨w.buf,w.at_+x,n⟩)) B):Ot (.fn 97) [.i n,.ptr 6 0,.ptr 2 0] G K:=by
 refine o7 hw C D g.g6 g.g2 λy=>k _ ?_
 have F:6<G.length:=(Hu.1 g.g6).1;have a:∀i:Nat,i<6→((G++y).set 6 (.cells [.i (x+n)] (s6+1)))[i]?=G[i]?:=λi hi=>by
  rw[Hw J,Nh J]
 exact⟨(a 0 J).trans g.g0,(a 1 J).trans g.g1,(a 2 J).trans g.g2,(a 3 J).trans g.g3,(a 4 J).trans g.g4,(a 5 J).trans g.g5,H0 Ab⟩
end next
def pwI(p:Pw)(i:Nat):List LV:=[.ptr 4 0,.i p.d.b,.i p.d.a,.i p.d.k,.i p.a.b,.i p.a.a,.i p.a.k,.i p.n.b,.i p.n.a,.i p.k,.i p.acc.b,.i p.acc.a,.i p.acc.k,.i p.base.b,.i p.base.a,.i p.base.k,.i p.cur.b,.i p.cur.a,.i p.cur.k,.i p.es.b,.i p.es.a,.i p.es.k,.i p.t.b,.i p.t.a,.i p.t.k,.i p.tab.b,.i p.tab.a,.i p.tab.k,
 .i (if 0<i then (p.B:Int) else 0),.i (if 1<i then (p.B:Int)+1 else 0),.i (if 2<i then (p.B:Int)+2 else 0),.i (if 3<i then (p.B:Int)+3 else 0),.i (if 4<i then (p.B:Int)+4 else 0),.i (if 5<i then (p.B:Int)+5 else 0),.i (if 6<i then (p.B:Int)+6 else 0),.i p.w,.i ((p.B:Int)+10)]
def zfa(vs:List Vr)(o:Ko)(bs:List Bf)(j:List Pc)(E F:Pc)(deep:Int)(hv:vs.length≤1000000)(hb:bs.length≤9223372036854775807) :
  O1 44 [.lst (N0 vs) vs.length 3,.agg o.f,.agg (Qj bs j E F),.i deep] (.tup [.lst (Qh (zzz vs o bs j E F deep)) (zzz vs o bs j E F deep).length 8,.i (zvp vs o bs j E F deep)]):=by
 refine R7.mk (by simp[dats,LV.dat,Tu]) (Ni r_power_Code Aa (by simp) ?_);have Q:o.f=[.i o.kind,.i o.d,.i o.e,.i o.a,.i o.b,.i o.c,.u o.imm]:=rfl;have I:Qj bs j E F=[.lst (Qc bs) bs.length 3,.lst (Vp j) j.length 3,.i E.buf,.i E.at_,.i E.size,.i F.buf,.i F.at_,.i F.size]:=rfl;simp[zhy,I,Q];rw[←Q];refine Nt (zb6 vs o hv) (bors_self _ (by simp[dats,LV.dat,Rg,Q])) ?_;simp[I,Q];rw[←Q,←I];refine Nt (zm2 vs o bs j E F deep (Nq vs o) hv hb) (bors_self _ (by simp[dats,LV.dat,Rg,zap,Q])) ?_;unfold zzz zvp;cases hr:mg vs o bs j E F deep (Nq vs o) with
 |false =>
  simp[Qh]
 |true =>
 have gG:=hr;simp only[mg,Hy,Ic]at gG;obtain⟨hP,hw,jQ,jR,jT⟩:=gG;have hm:o.kind=13∧Um vs o=true:=by
  unfold Nq at hw;split at hw
  ·rename_i h;simpa using h
  ·omega
 obtain⟨gH,hp,V,gz⟩:=zsl (s:=29) hm.2 (by simp[Pz,hm.1]);obtain⟨d,ed,hd⟩:∃d:Nat,o.d=d∧d<vs.length:=by
  have h:=zu5 hp Ac;obtain⟨d,e⟩:=Hz h.1;exact⟨d,e,J⟩
 obtain⟨a,ea,ha⟩:∃d:Nat,o.a=d∧d<vs.length:=by
  have h:=zv7 hp Ac;obtain⟨d,e⟩:=Hz h.1;exact⟨d,e,J⟩
 obtain⟨b,eb,gU⟩:∃d:Nat,o.b=d∧d<vs.length:=by
  have h:=zl9 hp Ac;obtain⟨d,e⟩:=Hz h.1;exact⟨d,e,J⟩
 obtain⟨c,ec,hc⟩:∃d:Nat,o.c=d∧d<vs.length:=by
  have h:=zko hp Ac;obtain⟨d,e⟩:=Hz h.1;exact⟨d,e,J⟩
 have M:1≤o.imm.toNat∧o.imm.toNat≤6:=by
  simp only[Q8,hm.1]at V;have h:1≤o.imm∧o.imm≤6:=by simpa using V
  rw[Jc,Jc]at h;exact h
 obtain⟨ld,pd,_,sd,_,_,d3,d4⟩:=zdb hP hd;obtain⟨la,pa,_,sa,_,_,a3,a4⟩:=zdb hP ha;obtain⟨lb,pb,_,sb,_,_,b3,b4⟩:=zdb hP gU;obtain⟨lc,pc,_,sc,_,_,c3,c4⟩:=zdb hP hc;obtain⟨pw,_,_,_,w3,w4⟩:=jv (o:=o) hP;have td:=zg9 (zqf ld);have ta:=zg9 (zqf la);have tb:=zg9 (zqf lb);have tc:=zg9 (zqf lc);have qd:=zzd ld;have qa:=zzd la;have qb:=zzd lb;have qc:=zzd lc;simp[I,Q];rw[←Q,←I];refine Nt (ze4 vs o bs j E F) (bors_self _ (by simp[dats,LV.dat,Rg,zap,Q])) ?_;obtain⟨p,g⟩:∃p,Sw vs o j E F=p:=⟨_,rfl⟩;have gV:o.d.toNat=d:=J
 have gY:o.a.toNat=a:=J
 have gA:o.b.toNat=b:=J
 have gI:o.c.toNat=c:=J
 have L:∀i,Qd vs (i:Nat)=(gv vs i).limbs:=λi=>by unfold Qd;rw[In]
 have gK:∀v∈[o.d,o.a,o.c],Qd vs v=Qd vs o.d:=by
  have e:Qq o=[o.d,o.a,o.c]:=by simp[Qq,hm.1]
  unfold mi at gz;rw[e]at gz;intro v hv;simpa using Jv.1 gz v hv
 have gZ:=gK o.a (by simp);have g9:=gK o.c (by simp);rw[ea,ed,L,L]at gZ;rw[ec,ed,L,L]at g9;obtain⟨_,_,_,_,jg,jz⟩:=zcw gH (zl9 hp Ac);obtain⟨_,_,_,_,jA,jB⟩:=zcw gH (zko hp Ac);rw[eb,L,←sb]at jg jz;rw[ec,L,←sc]at jA jB;obtain⟨tt,tv,gC,gD,jU,jV,jX,jY⟩:=Zt (l:=(Ob (Qm j b)).k) (w:=o.imm.toNat) Bu M;have gL:(((Ob (Qm j b)).k:Nat):Int)=(Qm j b).size:=Bu
 have jZ:(((Ob (Qm j c)).k:Nat):Int)=(Qm j c).size:=Bu
 have hR:xx vs o=16∨xx vs o=40:=by unfold xx;split<;>simp
 have f1:p.d=Ob (Qm j d):=by rw[←g];simp only[Sw,gV]
 have f2:p.a=Ob (Qm j a):=by rw[←g];simp only[Sw,gY]
 have f3:p.b=Ob (Qm j b):=by rw[←g];simp only[Sw,gA]
 have f4:p.n=Ob (Qm j c):=by rw[←g];simp only[Sw,gI]
 have f5:p.k=p.n.k:=by rw[f4,←g];simp only[Sw,gI,Ob]
 have R:p.w=o.imm.toNat:=by rw[←g];rfl
 have f7:(p.B:Int)=xx vs o:=by rw[←g];simp only[Sw];omega
 have f8:(p.times:Int)=R5 (p.b.k:Int) p.w:=by rw[f3,R,gC,←g];simp only[Sw,gA];rw[←gL,gC];rfl
 have f9:(p.over:Int)=Sj (p.b.k:Int) p.w:=by rw[f3,R,gD,←g];simp only[Sw,gA];rw[←gL,gD];rfl
 have gM:(Ty vs o E F).buf=p.wb∧(Ty vs o E F).at_=p.wa:=by
  have h:=congrArg Pc.buf pw;have h':=congrArg Pc.at_ pw;rw[←g];simp only[Sw];exact⟨h.symm,h'.symm⟩
 have hN:PwN p:=by
  have q1:=congrArg Pc.at_ pd;have q2:=congrArg Pc.at_ pa;have q3:=congrArg Pc.at_ pb;have q4:=congrArg Pc.at_ pc;have q5:=congrArg Pc.size pd;have q6:=congrArg Pc.size pa;simp only[Pn.p]at q1 q2 q3 q4 q5 q6;refine⟨f5.symm,?_,?_,?_,?_,?_,?_,?_,?_,?_,?_,?_,?_⟩
  ·rw[f5,f1,f4];omega
  ·rw[f5,f2,f4];omega
  ·rw[f5,f4];omega
  ·rw[f1];omega
  ·rw[f2];omega
  ·rw[f3];omega
  ·rw[f4];omega
  ·rw[R];exact M
  ·omega
  ·omega
  ·rw[R,f3,gD]at f9;omega
  ·rw[R,f3,gC]at f8;omega
 rw[←pd,←f1]at td;rw[←pa,←f2]at ta;rw[←pb,←f3]at tb;rw[←pc,←f4]at tc;have hW:∃X:Int,(Ty vs o E F).f=[.i (p.wb:Int),.i (p.wa:Int),.i X]:=⟨(Ty vs o E F).size,by unfold Pc.f;rw[gM.1,gM.2]⟩;obtain⟨X,hW⟩:=hW;rw[←f7,hW];have jC:o.imm.toNat<9223372036854775808:=J
 simp only[Pn.p,Pc.f]at td ta tb tc;simp[I,Q,ed,ea,eb,ec,ld,la,lb,lc,td,ta,tb,tc,qd,qa,qb,qc,jC];have hk:=hN.k;have z:=hN.nk;have j4:=hN.b;have j5:=hN.wa;refine⟨J,J,?_⟩;rw[z];refine zya (w:=⟨p.wb,p.wa,X⟩) (s5:=0) (s6:=1) ⟨rfl,rfl,rfl,rfl,rfl,rfl,rfl⟩ Bb J J λG1 c1=>?_
 simp[c1.g3,Pc.f,z];refine zya (w:=⟨p.wb,p.wa,X⟩) c1 Bb J J λG2 c2=>?_
 simp[c1.g3,c2.g3,Pc.f,z];refine zya (w:=⟨p.wb,p.wa,X⟩) c2 Bb J J λG3 c3=>?_
 simp[c1.g3,c2.g3,c3.g3,Pc.f,z];refine zya (w:=⟨p.wb,p.wa,X⟩) c3 Bb J J λG4 c4=>?_
 have l6:6<G4.length:=(Hu.1 c4.g6).1;have s5:∀H,(G4.set 5 H)[5]?=some H:=λH=>H0 J
 have g4:=c4.g5;have gE:=c4.g3;simp[↓gE,↓g4,↓s5,Pc.f,z];have jD:=ko M.2;have jE:(p.k:Int)*2^o.imm.toNat=((p.k*2^p.w:Nat):Int):=by rw[R];push_cast;rfl
 have jP:p.k*2^p.w≤512*64:=Jn hk.2 (by rw[R];exact jD);rw[jE];generalize hK:p.k*2^p.w=kw at *;have jF:ie (p.k:Int)=p.k+2:=by unfold ie;rw[Hx J]
 refine⟨J,J,?_⟩;refine z4v J ?_;rw[jF];simp[↓gE,↓g4,↓s5,Pc.f,z];refine zya (w:=⟨p.wb,p.wa,X⟩) (c4.st _ _) Bb J J λG5 c5=>?_
 have g5:=c5.g5;simp[↓g5,↓s5,Pc.f,z];refine zya (w:=⟨p.wb,p.wa,X⟩) c5 Bb J J λG6 c6=>?_
 have g6:=c6.g5;have jG:6<G6.length:=(Hu.1 c6.g6).1;have s6:∀H,(G6.set 5 H)[5]?=some H:=λH=>H0 J
 simp[↓g6,↓s6,Pc.f,z];have c7:=λj9=>((c6.st j9 6).app [LObj.dyn [.ptr 5 28,.ptr 5 29,.ptr 5 30,.ptr 5 31,.ptr 5 32,.ptr 5 33,.ptr 5 34] 7 1 0 0])
 have d7:∀H:LObj,(G6.set 5 H++[LObj.dyn [.ptr 5 28,.ptr 5 29,.ptr 5 30,.ptr 5 31,.ptr 5 32,.ptr 5 33,.ptr 5 34] 7 1 0 0])[G6.length]?=some (LObj.dyn [.ptr 5 28,.ptr 5 29,.ptr 5 30,.ptr 5 31,.ptr 5 32,.ptr 5 33,.ptr 5 34] 7 1 0 0):=λH=>by
  rw[Ij (by simp)];simp
 obtain⟨gT,hz,j6⟩:∃gT,G6.length=gT∧6<gT:=⟨_,rfl,jG⟩;rw[hz]at d7 ⊢;refine O5 (λρ D G' N=>∃i st:Nat,D=[]∧N+i=7∧lk ρ 10=.i p.B∧lk ρ 12=.ptr 3 0∧lk ρ 13=.ptr 5 0∧lk ρ 142=.dy gT 0∧lk ρ 143=.i 7∧lk ρ 144=.i i ∧
   G'[3]?=some (.cells p.b.p.f 1)∧G'[4]?=some (.cells [.nilSl,.i deep] 0)∧G'[5]?=some (.cells (pwI p i) st)∧G'[gT]?=some (LObj.dyn [.ptr 5 28,.ptr 5 29,.ptr 5 30,.ptr 5 31,.ptr 5 32,.ptr 5 33,.ptr 5 34] 7 1 0 0)) (N:=7)
  ⟨0,6,rfl,J,by simp,by simp,by simp,by simp,by simp,by simp,(c7 _).g3,(c7 _).g4,?_,d7 _⟩ ?_
 ·refine Eq.trans (c7 _).g5 ?_;simp[pwI,R,Pw.acc,Pw.base,Pw.cur,Pw.es,Pw.t,Pw.tab];have jH:(kw:Int)=(p.k:Int)*2^p.w:=by rw[←hK];push_cast;rfl
  rw[←R];refine⟨J,J,J,J,jH⟩
 clear c1 c2 c3 c4 c5 c6 c7 d7 g4 gE g5 g6 s5 s6;rintro N ρ D T ⟨i,st,rfl,j7,A,B,C,O,P,Y,q3,q4,q5,qz⟩ Nx jI;have lz:gT<T.length:=(Hu.1 qz).1;have n3:∀H,(T.set 5 H)[3]?=T[3]?:=λH=>Hw J
 have n4:∀H,(T.set 5 H)[4]?=T[4]?:=λH=>Hw J
 have n5:∀H,(T.set 5 H)[5]?=some H:=λH=>H0 J
 have nz:∀H,(T.set 5 H)[gT]?=T[gT]?:=λH=>Hw J
 by_cases zg:i<7
 ·have hi:i=0∨i=1∨i=2∨i=3∨i=4∨i=5∨i=6:=J
  have nx:∀(Z:M9) (H:LObj),lk Z 10=.i p.B→lk Z 12=.ptr 3 0→lk Z 13=.ptr 5 0→lk Z 142=.dy gT 0→lk Z 143=.i 7→lk Z 144=.i ((i+1:Nat):Int)→H=.cells (pwI p (i+1)) (st+1)→Nx Z [] (T.set 5 H):=λZ H jK jL jM gO gP gQ hX=>jI _ _ _ ⟨N-1,J,i+1,st+1,rfl,J,jK,jL,jM,gO,gP,gQ,(n3 H).trans q3,(n4 H).trans q4,by rw[n5,hX],(nz H).trans qz⟩
  unfold pwI at q5;rcases hi with rfl|rfl|rfl|rfl|rfl|rfl|rfl
  all_goals simp[A,B,C,O,P,Y,↓q5,↓qz]
  all_goals (try (refine⟨J,?_⟩))
  all_goals exact nx _ _ As Ao Al Dl Dk (by simp) (by simp[pwI])
 have hi:i=7:=J
 subst hi;have jO:pwI p 7=Rx 4 p:=by simp[pwI,Rx,z]
 rw[jO]at q5;have gF:=q5;have U:=q3;unfold Rx at gF;unfold Pc.f Pn.p at U;have gg:=zbj (p.b.k:Int) (p.w:Int);rw[←f8,←f9]at gg;simp[A,B,C,O,P,Y,U,gF];refine Nt gg (by simp) ?_;simp[A,B,C,U,gF];refine Xs (ops:=[]) (deep:=deep) ⟨0,.nilSl,q4,Qn.nil⟩ (by simp) λH1 h1 k1=>?_
 have p1:=k1.cells Ac q5;have b1:=k1.cells Ac U;simp[A,B,C];refine wi hN J p1 Ac h1 (by simp) λH2 h2 k2=>?_
 have p2:=k2.cells Ac p1;have b2:=k2.cells Ac b1;have l2:(p.fill deep).flat.length≤1000:=by
  have h1:=za4 (p:=p) (d:=p.ent) (bits:=64*p.k) (D:=deep);have h2:=za4 (p:=p) (d:=p.cur) (bits:=128*p.k) (D:=deep);have h3:=z7q (p:=p) (d:=p.base) (a:=p.a) (b:=p.cur) (D:=deep);have h4:=zd8 (p:=p) (a:=p.acc) (b:=p.ent) (D:=deep);have h5:=U0 (d:=deep) (t:=(2^p.w-1:Nat)) (b:=p.fillR deep) zjs;unfold Pw.fill;simp only[P8,flat_frL,H9,Ig,Ix];omega
 simp[A,B,C,b2];refine exp_put hN J p2 Ac h2 Ab λH3 h3 k3=>?_
 have l3:=di (p:=p) (D:=deep);have p3:=k3.cells Ac p2;simp[A,B,C];refine run_put hN J p3 Ac h3 Ab λH4 h4 k4=>?_
 have p4:=k4.cells Ac p3;unfold Rx at p4;obtain⟨j8,v,e1,e2⟩:=h4;have hC:((p.code deep).flat:List Lo)=[cK p.B 0]++(p.fill deep).flat++(p.exp deep).flat++(p.run deep).flat:=by
  unfold Pw.code;simp only[P8,flat_frL];simp
 have gR:=e2.bor;rw[Lz,←hC]at gR;simp[-N9,A,B,C,p4,e1];rw[g];exact gR
end
def pj{f:Fr Lo}{bs:List Bf}{X:List (List UInt64)}{gz:Fs→Prop}{c:Cf}(U:CfOk c)(L:c.nb=bs.length)(g:f.AllH c 0)(F:(Ra ((64:Nat):Int) bs f.flat).2=0)(V:f.stp≤16777216)
  (hX:kv bs X=true) (G:1≤bs.length) (hx:Tx (yi (Qf 64 bs X)) f (S7 (Qf 64 bs X)) gz) :
  ∃(z:Ms) (t:Fs),Rep bs.length (yi (Qf 64 bs X)) z t∧gz t∧(∀b,¬c.S b→z.bufs.getD b []=(Qf 64 bs X).bufs.getD b [])∧z.bufs.length=bs.length∧z.l.length≤800000000 ∧
   O1 29 [.agg (Nk ((64:Nat):Int) bs f.flat),LN X] (.tup [LN z.bufs,.lst (U3 z.l) z.l.length 2,.i 0]) ∧
   ∀Y:List (List UInt64),kv bs Y=true→(∀i,i<bs.length→(X.getD i []).length=(Y.getD i []).length)→∃A:Ms,A.bufs.length=bs.length∧z.l=A.l∧O1 29 [.agg (Nk ((64:Nat):Int) bs f.flat),LN Y] (.tup [LN A.bufs,.lst (U3 A.l) A.l.length 2,.i 0]):=by
 have j:=allH_wf g;have B:f.regs bs.length []=true:=L ▸ zfb U N g;have E:f.costZ≤800000000:=by have:=costZ_le f;omega
 obtain⟨gA,Z,t,h1,M,h3,h4,h5,h6⟩:=run_all j B E hx;have C:Xl Qz 0 f.flat:=by
  have h:=tj (f:=f) (d:=0) (rest:=[]) j (by unfold Xl;rfl)
  rwa [Jp]at h
 have H:Wx [] 0 f.flat≤16777216:=by rw[ns j B J];omega
 have I:Wh 0 [] (List.replicate f.flat.length 0) f.flat=f.ends 0:=by rw[Fr.flat_len];exact zyv j
 have D:∀(i:Nat) (o:Lo),f.flat[i]?=some o→o.kind=17→0≤(f.ends 0).getD i 0∧∃p,f.flat[((f.ends 0).getD i 0).toNat]?=some p∧p.kind=16:=λi o ho K=>by
  obtain⟨k,p,e1,e2,e3⟩:=ends_at f 0 i o j ho K;rw[Hv,e1];exact⟨N,p,by simpa using e2,e3⟩
 have gg:∀gC:List (List UInt64),(Qf 64 bs gC).bufs.length=bs.length:=λgC=>by simp[Qf,Tt]
 have no:∀b,¬c.S b→∀o∈f.flat,¬(o.kind=15∧o.buf.toNat=b):=λb O o ho K=>O (K.2 ▸ (allH_flat g o ho).sto K.1)
 have P:Z.bufs.length=bs.length:=by
  have h:=h4.bl;exact h
 refine⟨Z,t,h4,h5,λb O=>(zwy (no b O) gA _ _ M).1,P,J,zhs F C H hX G I D h1 M h3,λY hY Q=>?_⟩;obtain⟨A,k1,R⟩:=Lock.run_some (g8 j) (λo ho=>(allH_flat g o ho).low U) gA _ _ _ (zys (bs:=bs) (X:=X) (Y:=Y) Q) M;have T:A.bufs.length=bs.length:=by
  have:=congrArg List.length R.bufs;simp only[List.length_map]at this;omega
 exact⟨A,T,R.l,zhs F C H hY G I D h1 k1 (by rw[←R.i];exact h3)⟩
section
structure PwV (vs:List Vr) (o:Ko) (d a b c:Nat):Prop where
 hk:o.kind=13
 hv:Rb vs=true
 ho:Og vs o=true
 fd:o.d=d∧d<vs.length
 fa:o.a=a∧a<vs.length
 fb:o.b=b∧b<vs.length
 fc:o.c=c∧c<vs.length
 e:o.e=-1
 la:(gv vs a).limbs=(gv vs d).limbs
 lc:(gv vs c).limbs=(gv vs d).limbs
 w:1≤o.imm.toNat∧o.imm.toNat≤6
 md:Sd (gv vs d)=false
 sec:(gv vs d).sec=false→(gv vs a).sec=false∧(gv vs b).sec=false∧(gv vs c).sec=false
def pwV{vs:List Vr}{o:Ko}(D:o.kind=13)(hv:Rb vs=true)(ho:Og vs o=true):∃d a b c,PwV vs o d a b c:=by
 obtain⟨B,C,z⟩:=zq5 (s:=29) ho (by simp[Pz,D]);obtain⟨d,hd⟩:=Hz (zu5 B Ac).1;obtain⟨a,F⟩:=Hz (zv7 B Ac).1;obtain⟨b,K⟩:=Hz (zl9 B Ac).1;obtain⟨c,G⟩:=Hz (zko B Ac).1;have R:=(zu5 B Ac).2;have T:=(zv7 B Ac).2;have U:=(zl9 B Ac).2;have V:=(zko B Ac).2;have he:o.e=-1:=by
  simp only[T7,Hy]at B;exact zky B.2.1 Ac
 have z:∀v∈[o.d,o.a,o.c],Qd vs v=Qd vs o.d:=by
  have:Qq o=[o.d,o.a,o.c]:=by simp[Qq,D]
  unfold mi at z;rw[this]at z;intro v hv;simpa using Jv.1 z v hv
 have H:=z o.a N;have I:=z o.c N;simp only[Qd]at H I;rw[F,hd]at H;rw[G,hd]at I;simp only[In]at H I;have E:1≤o.imm.toNat∧o.imm.toNat≤6:=by
  simp only[Q8,D]at C;have h:1≤o.imm∧o.imm≤6:=Cm
  rw[Jc,Jc]at h;exact h
 have j:Su vs (O7 vs o) o.d=true:=by
  unfold Og at ho;rw[Hx J]at ho;rw[show Pz o.kind=some 29 by simp[Pz,D]]at ho;simp only[Hy]at ho;exact ho.2.2.1
 unfold Su at j;rw[hd]at j;simp only[In,Jd,Ic,Jf,Bool.or_eq_false_iff,Mf,Bool.not_eq_false']at j;have A:=j.resolve_left J;refine⟨d,a,b,c,D,hv,ho,⟨hd,J⟩,⟨F,J⟩,⟨K,J⟩,⟨G,J⟩,he,H,I,E,A.1,λQ=>?_⟩;have g:O7 vs o=false:=by
  rcases A.2 with h|h
  ·exact h
  ·rw[Q]at h;cases h
 unfold O7 at g;rw[Lq]at g;have L:T8 o=[o.a,o.b,o.c]:=by
  unfold T8;rw[Hx J,F,K,G];simp
 rw[L,F,K,G]at g;have M:=g a N;have O:=g b N;have P:=g c N;simp only[In,Bool.not_eq_true]at M O P;exact⟨M,O,P⟩
def lpsL_len':∀(n:Nat) (i:Int),(Qk n i).length=n
 |0,_=>rfl
 |n+1,i=>by rw[Qk,Ig,lpsL_len']
section pl
variable {vs : List Vr} {o : Ko} {d a b c : Nat}
def zvk(h:PwV vs o d a b c):Nq vs o=(4*(gv vs d).limbs+(gv vs b).limbs+3)+(gv vs d).limbs*((2^o.imm.toNat:Nat):Int):=by
 unfold Nq;have hm:Um vs o=true:=by rw[Yv,h.hv,h.ho];simp[zq4,h.hk]
 rw[H7 (by rw[hm];simp[h.hk])];have g:Qd vs o.c=(gv vs d).limbs:=by unfold Qd;rw[h.fc.1,In,h.lc]
 have j:Qd vs o.b=(gv vs b).limbs:=by unfold Qd;rw[h.fb.1,In]
 rw[g,j]
 push_cast
 generalize (2:Int)^o.imm.toNat=x;generalize (gv vs d).limbs=y
 grind
def Nu(vs:List Vr)(o:Ko):Pw:=Sw vs o (Re vs) ⟨vs.length,0,Nq vs o⟩ ⟨(vs.length:Int)+1,0,Nq vs o⟩
def Rc(vs:List Vr)(d:Nat):Nat:=if (gv vs d).sec=true then vs.length+1 else vs.length
def Zn(h:PwV vs o d a b c):Sc vs o.d=!(gv vs d).sec:=by
 unfold Sc;rw[h.fd.1];have:=h.fd.2;simp[this]
structure PwF (vs:List Vr) (o:Ko) (d a b c:Nat) (p:Pw):Prop where
 pd:p.d=⟨d,0,(gv vs d).limbs.toNat⟩
 pa:p.a=⟨a,0,(gv vs d).limbs.toNat⟩
 pb:p.b=⟨b,0,(gv vs b).limbs.toNat⟩
 pn:p.n=⟨c,0,(gv vs d).limbs.toNat⟩
 wb:p.wb=Rc vs d
 wa:p.wa=0
 k:p.k=(gv vs d).limbs.toNat
 w:p.w=o.imm.toNat
 ti:p.times*p.w=64*p.b.k+p.over
 ov:p.over≤63∧p.over<p.w
 t4:p.times≤40000
 B:p.B=if (gv vs d).sec=true then 40 else 16
def pwF(h:PwV vs o d a b c):PwF vs o d a b c (Nu vs o):=by
 have K:=We h.hv h.fb.2;have E:o.d.toNat=d:=by have:=h.fd.1;omega
 have F:o.a.toNat=a:=by have:=h.fa.1;omega
 have g:o.b.toNat=b:=by have:=h.fb.1;omega
 have C:o.c.toNat=c:=by have:=h.fc.1;omega
 have G:=zsw h.fd.2;have H:=zsw h.fa.2;have j:=zsw h.fb.2;have D:=zsw h.fc.2;have z:((gv vs b).limbs.toNat:Int)=(gv vs b).limbs:=J
 obtain⟨t,v,A,B,I,L,M,O⟩:=Zt (l:=(gv vs b).limbs.toNat) (w:=o.imm.toNat) J h.w;rw[z]at A B;refine⟨?_,?_,?_,?_,?_,?_,?_,rfl,?_,?_,?_,?_⟩
 ·show Ob _=_;rw[E,G];simp[Ob]
 ·show Ob _=_;rw[F,H];simp[Ob,h.la]
 ·show Ob _=_;rw[g,j];simp[Ob]
 ·show Ob _=_;rw[C,D];simp[Ob,h.lc]
 ·show (Ty vs o _ _).buf.toNat=_;unfold Ty Rc;rw[Zn h];cases (gv vs d).sec<;>simp<;>omega
 ·show (Ty vs o _ _).at_.toNat=_;unfold Ty;split<;>rfl
 ·show (Qm _ _).size.toNat=_;rw[C,D];simp[h.lc]
 ·show (R5 (Qm _ _).size _).toNat*o.imm.toNat=64*(Ob (Qm _ _)).k+(Sj (Qm _ _).size _).toNat;rw[g,j,A,B];simp only[Ob,In];exact I
 ·show (Sj (Qm _ _).size _).toNat≤63∧(Sj (Qm _ _).size _).toNat<o.imm.toNat;rw[g,j,B];simp only[In];omega
 ·show (R5 (Qm _ _).size _).toNat≤40000;rw[g,j,A];simp only[In];omega
 ·show (xx vs o).toNat=_;unfold xx;rw[Zn h];cases (gv vs d).sec<;>simp
def zck(h:PwV vs o d a b c):1≤Nq vs o∧Nq vs o≤40000∧Nq vs o=((4*(gv vs d).limbs.toNat+(gv vs b).limbs.toNat+3+(gv vs d).limbs.toNat*2^o.imm.toNat:Nat):Int):=by
 have hd:=We h.hv h.fd.2;have A:=We h.hv h.fb.2;have g:=ko h.w.2;have e:Nq vs o=((4*(gv vs d).limbs.toNat+(gv vs b).limbs.toNat+3+(gv vs d).limbs.toNat*2^o.imm.toNat:Nat):Int):=by
  rw[zvk h];obtain⟨x,j⟩:=Hz (J:0≤(gv vs d).limbs);obtain⟨y,z⟩:=Hz (J:0≤(gv vs b).limbs);rw[j,z];simp only[In]
  push_cast;rfl
 have hm:(gv vs d).limbs.toNat*2^o.imm.toNat≤512*64:=Jn J g;rw[e];omega
structure PwL (vs:List Vr) (o:Ko):Prop where
 n:vs.length≤30
 m:∀i,i<vs.length→(gv vs i).mode=0
 w:Nq vs o≤32768
def pl_plan(h:PwV vs o d a b c)(g:PwL vs o):Wa vs (On vs (Nq vs o)) (Re vs) ⟨vs.length,0,Nq vs o⟩ ⟨(vs.length:Int)+1,0,Nq vs o⟩=true :=
 zyy h.hv g.m g.n ⟨(zck h).1,g.w⟩
def zxk{deep:Int}(h:PwV vs o d a b c)(g:PwL vs o)(hd:0≤deep∧deep≤4):mg vs o (On vs (Nq vs o)) (Re vs) ⟨vs.length,0,Nq vs o⟩ ⟨(vs.length:Int)+1,0,Nq vs o⟩ deep (Nq vs o)=true:=by
 unfold mg;rw[pl_plan h g];have hw:=zck h;have j:(Ty vs o ⟨vs.length,0,Nq vs o⟩ ⟨(vs.length:Int)+1,0,Nq vs o⟩).size=Nq vs o:=by unfold Ty;split<;>rfl
 rw[j];simp[hw.1,hd]
def wb_at:Ns (On vs (Nq vs o)) (Rc vs d)=⟨Nq vs o,2,(gv vs d).sec⟩:=by
 unfold Rc;cases g:(gv vs d).sec with
 |true=>rw[H7 rfl,plB_w1]
 |false=>rw[Hx N,plB_w0]
def pe(vs:List Vr)(d:Nat):vs.length≤Rc vs d∧Rc vs d<vs.length+2:=by unfold Rc;split<;>omega
def Xj{i:Nat}{n:Nat}(hv:Rb vs=true)(hi:i<vs.length)(g:(n:Int)=(gv vs i).limbs){W:Int}:Bp (On vs W) ⟨i,0,n⟩∧Bw (On vs W) ⟨i,0,n⟩:=by
 have j:=We hv hi;refine⟨⟨by rw[plB_len];simp only;omega,?_,?_⟩,?_⟩
 ·simp only;rw[V0 hi];simp only;omega
 ·simp only;rw[V0 hi];simp only;omega
 ·unfold Bw;rw[V0 hi];simp
def pl_G(h:PwV vs o d a b c):PwG (On vs (Nq vs o)) (Nu vs o):=by
 have f:=pwF h;have hd:=We h.hv h.fd.2;have A:=We h.hv h.fb.2;have j:=h.la;have z:=h.lc;have hw:=zck h;generalize Nu vs o=p at *;have g:((gv vs d).limbs.toNat:Int)=(gv vs d).limbs:=J
 refine⟨?_,?_,?_,?_,?_,?_,?_,?_,?_,?_,?_,?_,?_,?_,f.ov.1,?_⟩
 ·rw[f.B];split<;>omega
 ·rw[f.pd];exact (Xj h.hv h.fd.2 g).1
 ·rw[f.pd];exact (Xj h.hv h.fd.2 g).2
 ·rw[f.pa];exact (Xj h.hv h.fa.2 J).1
 ·rw[f.pb];exact (Xj h.hv h.fb.2 J).1
 ·rw[f.pn];exact (Xj h.hv h.fc.2 J).1
 ·rw[f.wb,plB_len];exact (pe vs d).2
 ·rw[f.wb,wb_at,f.wa,f.k,f.pb,f.w];simp only;rw[hw.2.2];omega
 ·rw[f.wb,wb_at];simp only;omega
 ·rw[f.wb,wb_at];simp
 ·rw[f.k];omega
 ·rw[f.pn];simp only;omega
 ·rw[f.w];exact h.w
 ·have:=f.t4;omega
 ·rw[f.pb];simp only;omega
def Ww(vs:List Vr)(d a b c:Nat):Cf:=⟨vs.length+2,if (gv vs d).sec=true then 40 else 16,24,0,7,12,13,λx=>x=d∨x=a∨x=b∨x=c∨x=Rc vs d,λx=>x=d∨x=Rc vs d⟩
def cfP_ok:CfOk (Ww vs d a b c):=by
 refine⟨?_,by simp[Ww],by simp[Ww]⟩;simp only[Ww];split<;>omega
def pl_C(h:PwV vs o d a b c):PwC (Ww vs d a b c) (Nu vs o):=by
 have f:=pwF h;have hd:=We h.hv h.fd.2;have g:=We h.hv h.fb.2;have j:=h.fd.2;have z:=h.fa.2;have A:=h.fb.2;have B:=h.fc.2;have hw:=pe vs d;generalize Nu vs o=p at *;refine⟨?_,by simp[Ww],?_,?_,?_,?_,?_,?_,?_,?_,?_,?_,?_⟩
 ·rw[f.B];simp only[Ww];split<;>omega
 ·rw[f.pd];exact⟨Cr,.inl rfl⟩
 ·rw[f.pa];exact⟨Cr,.inr (.inl rfl)⟩
 ·rw[f.pb];exact⟨Cr,.inr (.inr (.inl rfl))⟩
 ·rw[f.pn];exact⟨Cr,.inr (.inr (.inr (.inl rfl)))⟩
 ·rw[f.wb];exact .inr (.inr (.inr (.inr rfl)))
 ·rw[f.wb];exact .inr rfl
 ·rw[f.wb];simp only[Ww];omega
 ·rw[f.k];omega
 ·rw[f.w];exact h.w.2
 ·have:=f.t4;omega
 ·rw[f.pb];simp only;omega
def ztu(bs:List Bf)(X:List (List UInt64)):Prop:=X.length=bs.length∧∀i,i<bs.length→((X.getD i []).length:Int)=(Ns bs i).size
def pl_S(h:PwV vs o d a b c){X:List (List UInt64)}(z:ztu (On vs (Nq vs o)) X):PwS (yi (Qf 64 (On vs (Nq vs o)) X)) (Nu vs o):=by
 have f:=pwF h;have g:=pl_G h;have hd:=We h.hv h.fd.2;have A:=h.fd.2;have B:=h.fa.2;have C:=h.fb.2;have D:=h.fc.2;have hw:=pe vs d;have hi:∀q:Pn,Bp (On vs (Nq vs o)) q→q.in_ (yi (Qf 64 (On vs (Nq vs o)) X)):=λq j=>nj (z.2 _ j.b) j
 generalize Nu vs o=p at *;refine⟨g.B,hi _ g.d,hi _ g.a,hi _ g.b,hi _ g.n,hi _ ⟨g.wb,?_,g.w6⟩,g.k.1,g.k.2,?_,?_,?_,?_,?_,?_,?_,?_,g.w,f.ov.1,f.ti⟩
 ·have:=g.wz;simp only[Pw.wk];omega
 ·rw[f.pd,f.k]
 ·rw[f.pa,f.k]
 ·rw[f.pn,f.k]
 ·rw[f.pd,f.wb];simp only;omega
 ·rw[f.pa,f.wb];simp only;omega
 ·rw[f.pb,f.wb];simp only;omega
 ·rw[f.pn,f.wb];simp only;omega
 ·rw[f.pd,f.pn];by_cases q:d=c
  ·exact .inr ⟨q,rfl⟩
  ·exact .inl (.inl q)
def zqu{X:List (List UInt64)}(g:ztu (On vs (Nq vs o)) X):kv (On vs (Nq vs o)) X=true:=by
 unfold kv;refine Js ⟨g.1,λi hi=>?_⟩;rw[g.2 i hi];have:(Ns (On vs (Nq vs o)) i).kind=2:=by
  rw[plB_len]at hi;by_cases q:i<vs.length
  ·rw[V0 q]
  ·by_cases j:i=vs.length
   ·rw[j,plB_w0]
   ·rw[(J:i=vs.length+1),plB_w1]
 rw[this];simp
def ztd{deep:Nat}(h:PwV vs o d a b c)(T:PwL vs o)(hk:(gv vs d).limbs≤3)(U:(gv vs b).limbs=1)(hd:deep≤4){X:List (List UInt64)}(j:ztu (On vs (Nq vs o)) X) :
  ∃(g:Ms),g.bufs.length=vs.length+2∧g.l.length≤800000000∧(∀i,i<vs.length+2→i≠d→i≠Rc vs d→g.bufs.getD i []=X.getD i []) ∧
   (g.bufs.getD d []).length=(gv vs d).limbs.toNat∧((X.getD c []).getD 0 0%2=1→val (X.getD a [])<val (X.getD c [])→val (g.bufs.getD d [])=val (X.getD a [])^val (X.getD b [])%val (X.getD c [])) ∧
   O1 29 [.agg (Nk ((64:Nat):Int) (On vs (Nq vs o)) ((Nu vs o).prog deep).flat),LN X] (.tup [LN g.bufs,.lst (U3 g.l) g.l.length 2,.i 0]) ∧
   ∀gg:List (List UInt64),ztu (On vs (Nq vs o)) gg→∃A:Ms,A.bufs.length=vs.length+2∧g.l=A.l∧O1 29 [.agg (Nk ((64:Nat):Int) (On vs (Nq vs o)) ((Nu vs o).prog deep).flat),LN gg] (.tup [LN A.bufs,.lst (U3 A.l) A.l.length 2,.i 0]):=by
 have f:=pwF h;have gA:=pl_G h;have hc:=pl_C h;have hS:=pl_S h j;have gz:=We h.hv h.fd.2;have hw:=zck h;have z:(On vs (Nq vs o)).length=vs.length+2:=plB_len;have l1:=h.fd.2;have l2:=h.fa.2;have l3:=h.fb.2;have l4:=h.fc.2;have C:=zoo (W:=Nq vs o) h.hv ⟨hw.1,T.w⟩;have F:(Nu vs o).times≤64:=by
  have V:=f.ti;have h2:=f.ov;have h3:=f.w;have h4:=h.w;rw[f.pb,U]at V;have h5:(Nu vs o).times*(Nu vs o).w≤64+((Nu vs o).w-1):=by
   have e:((⟨b,0,(1:Int).toNat⟩:Pn).k)=1:=rfl;rw[V,e];omega
  generalize (Nu vs o).times=t at *;generalize (Nu vs o).w=w at *;have G:w=1∨w=2∨w=3∨w=4∨w=5∨w=6:=J
  rcases G with rfl|rfl|rfl|rfl|rfl|rfl<;>omega
 have hp:=Pw.prog_all (p:=Nu vs o) (e:=deep) hc rfl rfl hd;have E:=Pw.prog_stp (p:=Nu vs o) (e:=deep) hd (by rw[f.k];omega) (by rw[f.w];exact h.w.2) F (by rw[f.pb,U];exact L5 1);have H:((Nu vs o).prog deep).flat.length≤65536:=by
  unfold Pw.prog;rw[wrap_flat];have:=zpf (p:=Nu vs o) (D:=deep);have I:(Qk deep 0).length=deep:=lpsL_len' deep 0;simp[I];omega
 have K:=Pw.prog_chk gA hd (by rw[z];have:=T.n;omega) C H;have L:=Pw.prog_ex (s0:=S7 (Qf 64 (On vs (Nq vs o)) X)) hS hd;obtain⟨g,t,Y,r2,r3,Z,r6,r7,r8⟩:=pj (X:=X) cfP_ok (by rw[z];rfl) hp K E (zqu j) J L;rw[z]at Z;have B:(g.bufs.getD d []).length=(gv vs d).limbs.toNat:=by
  rw[Y.len d J,zoz (j.2 d J) J,V0 h.fd.2]
 refine⟨g,Z,r6,λi hi M O=>?_,B,λho P=>?_,r7,λgg hY=>?_⟩
 ·rw[r3 i (λq=>by rcases q with q|q;exact M q;exact O q),zld (j.2 i J) J]
 ·have Q:∀i,i<vs.length→((X.getD i []).length:Int)=(gv vs i).limbs:=λi hi=>by
   have:=j.2 i J;rw[V0 hi]at this;exact this
  have va:vl (pl (S7 (Qf 64 (On vs (Nq vs o)) X)).m (Nu vs o).a) (Nu vs o).k=val (X.getD a []):=by
   rw[f.pa,f.k];exact zot (p:=⟨a,0,_⟩) (j.2 a J) Bb rfl (by simp only;have:=Q a l2;have:=h.la;omega)
  have vb:vl (pl (S7 (Qf 64 (On vs (Nq vs o)) X)).m (Nu vs o).b) (Nu vs o).b.k=val (X.getD b []):=by
   rw[f.pb];exact zot (p:=⟨b,0,_⟩) (j.2 b J) Bb rfl (by simp only;have:=Q b l3;omega)
  have vn:vl (pl (S7 (Qf 64 (On vs (Nq vs o)) X)).m (Nu vs o).n) (Nu vs o).k=val (X.getD c []):=by
   rw[f.pn,f.k];exact zot (p:=⟨c,0,_⟩) (j.2 c J) Bb rfl (by simp only;have:=Q c l4;have:=h.lc;omega)
  have vo:pl (S7 (Qf 64 (On vs (Nq vs o)) X)).m (Nu vs o).n 0=(X.getD c []).getD 0 0:=by
   rw[f.pn];show (S7 (Qf 64 (On vs (Nq vs o)) X)).m c (0+0)=_;rw[bo (j.2 c J) J]
  obtain⟨_,hv⟩:=r2 ⟨by rw[vo];exact ho,by rw[va,vn];exact P⟩;rw[va,vb,vn]at hv;have R:(Nu vs o).k=(gv vs d).limbs.toNat:=f.k;rw[←hv,f.pd,R];refine (vl_get J λi hi=>?_).symm;show t.m d (0+i)=_;rw[Iy];have hm:=Y.m d i J;rw[zoz (j.2 d J) J,V0 h.fd.2]at hm;exact (hm Bb).symm
 ·obtain⟨A,e1,e2,e3⟩:=r8 gg (zqu hY) λi hi=>by have:=j.2 i hi;have:=hY.2 i hi;omega
  exact⟨A,J,e2,e3⟩
def fp{deep:Nat}(h:PwV vs o d a b c)(z:PwL vs o)(A:(gv vs d).limbs≤3)(B:(gv vs b).limbs=1)(hd:deep≤4){X Y:List (List UInt64)}(C:ztu (On vs (Nq vs o)) X)(D:ztu (On vs (Nq vs o)) Y) :
  ∃(g j:Ms),g.bufs.length=vs.length+2∧j.bufs.length=vs.length+2∧g.l=j.l∧(∀i,i<vs.length+2→i≠d→i≠Rc vs d→g.bufs.getD i []=X.getD i []) ∧
   (g.bufs.getD d []).length=(gv vs d).limbs.toNat∧((X.getD c []).getD 0 0%2=1→val (X.getD a [])<val (X.getD c [])→val (g.bufs.getD d [])=val (X.getD a [])^val (X.getD b [])%val (X.getD c [])) ∧
   O1 29 [.agg (Nk ((64:Nat):Int) (On vs (Nq vs o)) ((Nu vs o).prog deep).flat),LN X] (.tup [LN g.bufs,.lst (U3 g.l) g.l.length 2,.i 0]) ∧
   O1 29 [.agg (Nk ((64:Nat):Int) (On vs (Nq vs o)) ((Nu vs o).prog deep).flat),LN Y] (.tup [LN j.bufs,.lst (U3 j.l) j.l.length 2,.i 0]):=by
 obtain⟨g,E,_,F,G,H,I,K⟩:=ztd (deep:=deep) h z A B hd C;obtain⟨j,L,M,O⟩:=K Y D;exact⟨g,j,E,L,M,F,G,H,I,O⟩
end pl
end
def zhc:LC:=(.q [.e 4] (.q [.m 6 0,.z 7 (.build [(.i 0),(.bool false),(.i 0)] [(0,1,.t 6),(1,1,.T)]),.z 5 (.alloc [(.i 0),(.bool false),(.i 0)]),.S 3 5 7] (.q [.L 8 3 5,.m 9 1,.z 10 (.build [(.i 0),(.bool false),(.i 0)] [(0,1,.t 9),(1,1,.T)]),.L 11 3 5,.L 12 3 5,.z 13 (.buildSl 3 4 [(.i 0),(.bool false),(.i 0),(.i 0),(.bool false),(.i 0),(.i 0),(.bool false),(.i 0),(.i 0),(.bool false),(.i 0)] [(0,3,.t 8),(3,3,.t 10),(6,3,.t 11),(9,3,.t 12)]),.m 4 13] .ret)))
def r_law24_four:Ng Tryz.prog 41=some ⟨14,zhc.r,[.tmp 4]⟩:=Aa
def zl3:LC:=(.q [.z 2 (.alloc [(.i 0),(.i 0),(.i 0),(.i 0),(.i 0),(.i 0),(.u 0)])] (.q [.m 3 0,.z 4 (.build [(.i 0),(.i 0),(.i 0),(.i 0),(.i 0),(.i 0),(.u 0)] [(0,1,.k 13),(1,1,.k 3),(2,1,.k (-1)),(3,1,.k 0),(4,1,.k 1),(5,1,.k 2),(6,1,.t 3)]),.S 7 2 4] .ret))
def r_law24_pow:Ng Tryz.prog 43=some ⟨5,zl3.r,[.cellN 2 7]⟩:=Aa
def zcy:LC:=(.q [.x 3 0,.z 6 (.alloc [(.i 0),.nilSl,.nilSl])] (.q [.f 10 0 3,.l 11 10,.z 12 (.build [(.i 0),.nilSl,.nilSl] [(0,1,.k 64),(1,1,.t 11)]),.z 7 (.alloc [(.i 0),.nilSl,.nilSl]),.S 3 7 12] (.seq (.q [.K 8 0] (.block 0 (.loop (.seq (.q [.m 13 8,.m 14 2,.c 15 .lss 3 13 14] (.cond (.t 15) .skip (.exit 0))) (.seq (.block 1 (.ops [.f 18 2 7,.l 19 18,.m 20 8,.z 21 (.build [(.i 0),(.i 0),(.i 0),(.i 0),(.i 0),(.i 0),(.i 0),(.u 0)] [(0,1,.k 16),(1,1,.t 20),(2,1,.k (-1)),(3,1,.k (-1)),(4,1,.k (-1)),(5,1,.k (-1)),(7,1,.c (.u 1))]),.z 22 (.buildSl 8 1 [(.i 0),(.i 0),(.i 0),(.i 0),(.i 0),(.i 0),(.i 0),(.u 0)] [(0,8,.t 21)]),.a 23 8 19 22,.f 24 2 7,.S 1 24 23])) (.ops [.m 16 8,.b 17 .add 3 16 1,.m 8 17])))))) (.q [.f 25 2 7,.l 26 25,.m 27 1,.a 28 8 26 27,.f 29 2 7,.S 1 29 28] (.seq (.q [.K 9 0] (.block 2 (.loop (.seq (.q [.m 30 9,.m 31 2,.c 32 .lss 3 30 31] (.cond (.t 32) .skip (.exit 2))) (.seq (.block 3 (.ops [.f 35 2 7,.l 36 35,.z 37 (.build [(.i 0),(.i 0),(.i 0),(.i 0),(.i 0),(.i 0),(.i 0),(.u 0)] [(0,1,.k 17),(1,1,.k (-1)),(2,1,.k (-1)),(3,1,.k (-1)),(4,1,.k (-1)),(5,1,.k (-1))]),.z 38 (.buildSl 8 1 [(.i 0),(.i 0),(.i 0),(.i 0),(.i 0),(.i 0),(.i 0),(.u 0)] [(0,8,.t 37)]),.a 39 8 36 38,.f 40 2 7,.S 1 40 39])) (.ops [.m 33 9,.b 34 .add 3 33 1,.m 9 34])))))) (.q [.L 41 3 7,.S 3 6 41] .ret))))))
def r_law24_program:Ng Tryz.prog 52=some ⟨42,zcy.r,[.cellN 6 3]⟩:=Aa
def z8s:LC:=(.q [.x 2 0,.e 4] (.q [.e 5] (.seq (.q [.K 6 0] (.block 0 (.loop (.seq (.q [.m 7 6,.f 8 0 2,.l 9 8,.s 10 9,.c 11 .lss 3 7 10] (.cond (.t 11) .skip (.exit 0))) (.seq (.block 1 (.draw [(.m 14 5,[]),(.z 15 (.buildSl 1 0 [] []),[]),(.m 16 1,[]),(.m 18 6,[]),(.z 19 (.cvInt .u64 (.t 18)),[]),(.u 20 .mul 23 19 1234567891011,[]),(.z 21 (.buildSl 1 1 [(.u 0)] [(0,1,.t 20)]),[(.z 15 (.buildSl 1 0 [] []),true)]),(.f 23 0 2,[]),(.l 24 23,[]),(.m 25 6,[]),(.I 26 3 24 25,[]),(.f 27 0 26,[]),(.l 28 27,[]),(.a 17 1 15 16,[(.l 28 27,false),(.l 24 23,false),(.z 21 (.buildSl 1 1 [(.u 0)] [(0,1,.t 20)]),true)]),(.a 22 1 17 21,[(.l 28 27,false),(.l 24 23,false)]),(.W 29 26 22 28,[]),(.z 30 (.buildSl 1 1 [.nilSl] [(0,1,.t 29)]),[]),(.a 31 1 14 30,[]),(.m 5 31,[])])) (.ops [.m 12 6,.b 13 .add 3 12 1,.m 6 13])))))) (.q [.m 32 5,.m 4 32] .ret))))
def r_law24_rows:Ng Tryz.prog 101=some ⟨33,z8s.r,[.tmp 4]⟩:=Aa
def k_law24_rows:z8s.ok=true:=Aa
def zea:LC:=(.q [.e 12,.F 13] (.q [.m 27 0,.m 28 1,.W 29 41 27 28,.m 14 29] (.q [.m 30 14,.m 31 2,.w 32 43 31,.W 33 42 30 32,.m 15 33] (.seq (.q [.m 34 15,.b 35 .lss 3 34 1] (.cond (.t 35) (.q [.e 12,.F 13] .ret) .skip)) (.q [.m 36 14,.m 37 15,.W 38 19 36 37,.z 16 (.alloc [.nilSl,.nilSl,(.i 0),(.i 0),(.i 0),(.i 0),(.i 0),(.i 0)]),.S 8 16 38] (.seq (.draw [(.m 40 14,[]),(.m 41 2,[]),(.L 43 8 16,[]),(.w 42 43 41,[(.L 43 8 16,false)]),(.z 44 (.w 44 [.t 40,.t 42,.t 43,.k 0]),[]),(.m 39 44,[]),(.X 45 0 39,[]),(.X 46 1 39,[]),(.m 17 45,[]),(.m 18 46,[])]) (.q [.L 47 8 16,.z 48 (.buildSl 1 1 [(.u 0)] [(0,1,.c (.u 3))]),.W 49 101 47 48,.m 19 49] (.seq (.q [.m 50 3,.m 51 4,.m 52 5,.z 53 (.buildSl 1 3 [.nilSl,.nilSl,.nilSl] [(0,1,.t 50),(1,1,.t 51),(2,1,.t 52)]),.s 54 53,.K 55 0] (.block 0 (.loop (.q [.c 56 .lss 3 55 54] (.seq (.cond (.t 56) .skip (.exit 0)) (.seq (.block 1 (.q [.m 57 55,.I 58 1 53 55,.l 59 58,.m 20 57,.m 21 59] (.q [.m 61 21,.m 62 14,.m 63 20,.I 64 3 62 63,.f 65 0 64,.l 66 65,.W 67 95 61 66,.m 60 67,.X 68 0 60,.X 69 1 60,.m 22 68,.m 23 69] (.seq (.q [.m 70 23,.b 71 .neq 35 70 0] (.cond (.t 71) (.q [.e 12,.F 13] .ret) .skip)) (.ops [.m 72 19,.m 73 20,.m 74 22,.I 75 1 72 73,.S 1 75 74]))))) (.ops [.b 76 .add 3 55 1,.m 55 76]))))))) (.q [.L 78 8 16,.m 79 17,.z 80 (.w 52 [.t 78,.t 79,.k 0]),.m 81 19,.W 82 29 80 81,.m 77 82,.X 83 0 77,.X 84 1 77,.X 85 2 77,.m 24 83,.m 25 84,.m 26 85] (.seq (.q [.m 86 18,.b 87 .neq 35 86 0,.m 88 87,.mn 89 88 26,.nb 90 88 .neq 35 89 0,.p 91 88 90] (.cond (.t 91) (.q [.e 12,.F 13] .ret) .skip)) (.q [.m 92 24,.z 93 (.ixAddr 1 (.t 92) (.k 3)),.l 94 93,.m 12 94,.z 13 (.move .T)] .ret)))))))))))
def r_law24_raised:Ng Tryz.prog 48=some ⟨95,zea.r,[.tmp 12,.tmp 13]⟩:=Aa
def zbg{bs:List Bf}{P:LV}{W:List LV}{L:List Lo}{deep:Nat}(hd:deep≤100)(hL:L.length≤1000000)(hW:∃a b c d e f,W=[.i a,.i b,.i c,.i d,.i e,.i f]) :
  O1 52 [.agg (.lst (Qc bs) bs.length 3::P::W),.lst (Qh L) L.length 8,.i deep] (.agg (Nk ((64:Nat):Int) bs (Qk deep 0++(L++List.replicate deep T1)))):=by
 obtain⟨w1,w2,w3,w4,w5,w6,rfl⟩:=hW;refine R7.mk (by simp[LV.dat,zj4]) (Ni r_law24_program Aa (by simp) ?_);simp[zcy];refine O5 (λM Z O X=>∃(i st E:Nat) (v:LV),Z=[]∧X+i=deep∧lk M 1=.lst (Qh L) L.length 8∧lk M 2=.i deep∧lk M 6=.ptr 1 0∧lk M 7=.ptr 2 0∧lk M 8=.i i∧3≤O.length∧O[1]?=some (.cells [.i 0,.nilSl,.nilSl] E)∧O[2]?=some (.cells [.i 64,.lst (Qc bs) bs.length 3,v] st)∧Qn 3 O v 8 (Qk i 0).length (Qh (Qk i 0))) (N:=deep)
  ⟨0,1,0,.nilSl,rfl,J,by simp,by simp,by simp,by simp,by simp,by simp,by simp,by simp,Qn.nil⟩ ?_
 rintro X M Z O ⟨i,st,E,v,rfl,hN,U,F,G,C,V,hl,K,H,hv⟩ Nx I;by_cases gg:i<deep
 ·have g':(i:Int)<deep:=J
  simp[U,F,G,C,V,H,gg];refine hv.push_end.push (c:=1) J Ab (by rw[lpsL_len];omega) (by simp) rfl λQ G5 g j D=>?_
  have z:=(j 2 J).trans ((Nh J).trans H);have A:=(j 1 J).trans ((Nh J).trans K);have B:=g.cells;simp[-LV.cells,B,C,z,V];refine⟨J,I _ _ _ ⟨X-1,J,i+1,st+1,E,Q,rfl,J,Bv,Ah,A6,Al,by simp,by simp at D ⊢;omega,?_,?_,?_⟩⟩
  ·rw[Hw J];exact A
  ·exact H0 (Hu.1 z).1
  ·rw[lpsL_snoc,H9,zo7,Int.zero_add];exact g.set_lt J
 ·have hi:i=deep:=J
  subst hi;simp[U,F,G,C,V,H];refine⟨J,?_⟩;refine hv.push (c:=L.length) J J (by rw[lpsL_len];omega) (bg L) (Tu L) λQ G5 g j D=>?_
  have z:=(j 2 J).trans H;have A:=(j 1 J).trans K;have B:=g.cells;simp[-LV.cells,B,C,z];have R:=(Hu.1 z).1;refine O5 (λM Z O X=>∃(T st E:Nat) (v:LV),Z=[]∧X+T=i∧lk M 2=.i i∧lk M 6=.ptr 1 0∧lk M 7=.ptr 2 0∧lk M 9=.i T∧3≤O.length∧O[1]?=some (.cells [.i 0,.nilSl,.nilSl] E)∧O[2]?=some (.cells [.i 64,.lst (Qc bs) bs.length 3,v] st)∧Qn 3 O v 8 (Qk i 0++(L++List.replicate T T1)).length (Qh (Qk i 0++(L++List.replicate T T1)))) (N:=i)
   ⟨0,st+1,E,Q,rfl,J,Ah,A6,Al,by simp,Ab,?_,H0 R,?_⟩ ?_
  ·rw[Hw J];exact A
  ·simp only[List.replicate_zero,Jp,H9];rw[zo7];exact g.set_lt J
  clear U F G C V hl K H hv z A R g j D B I Nx;rintro X M Z O ⟨T,st,E,v,rfl,hN,F,G,C,Y,hl,K,H,hv⟩ Nx I;by_cases gg:T<i
  ·simp[F,G,C,Y,H,gg];refine hv.push_end.push (c:=1) J Ab (by simp[lpsL_len];omega) (by simp) rfl λQ G5 g j D=>?_
   have z:=(j 2 J).trans ((Nh J).trans H);have A:=(j 1 J).trans ((Nh J).trans K);have B:=g.cells;simp[-LV.cells,B,C,z,Y];refine⟨J,I _ _ _ ⟨X-1,J,T+1,st+1,E,Q,rfl,J,Ah,A6,Al,by simp,by simp at D ⊢;omega,?_,?_,?_⟩⟩
   ·rw[Hw J];exact A
   ·exact H0 (Hu.1 z).1
   ·rw[show Qk i 0++(L++List.replicate (T+1) T1)=(Qk i 0++(L++List.replicate T T1))++[T1] by rw[List.replicate_succ'];simp,H9,zo7];exact g.set_lt J
  ·have hj:T=i:=J
   subst hj;have hb:=(hv.set_lt (q:=1) (ob:=.cells [.i 64,.lst (Qc bs) bs.length 3,v] (E+1)) J).bor;simp[-N9,F,G,C,Y,H,K];rw[H0 (Hu.1 K).1];refine⟨by simp,_,_,rfl,⟨rfl,rfl⟩,_,_,rfl,⟨rfl,by simp[LV.dat,Ts]⟩,_,_,rfl,hb,rfl⟩
def zna{bs:List Bf}{w6:Int}{fill:List UInt64}(hs:∀b∈bs,0≤b.size∧b.size≤1000000)(hb:bs.length≤1000)(gD:fill.length≤1000)
  (kk:∀(X:List (List UInt64)) (p A st:Nat) (G:M7),X.length=bs.length→(∀i,i<bs.length→((X.getD i []).length:Int)=(Ns bs i).size)→(∀q,q<F.length→G[q]?=F[q]?)→F.length≤p→F.length≤G.length→bs≠[]→G[p]?=some (.dyn (X.map LU) X.length 1 A st)→Y (.dy p A) G) (H:bs≠[]) :
  Ot (.fn 101) [.agg [.lst (Qc bs) bs.length 3,O,.i z,.i B,.i V,.i vV,.i uU,.i w6],.lst (fill.map .u) fill.length 1] F Y:=by
 refine Ni r_law24_rows k_law24_rows (by simp) ?_;simp[z8s];refine O5 (λρ gF D N=>∃(i R:Nat) (v:LV) (X:List (List UInt64)),gF=[]∧N+i=bs.length∧lk ρ 1=.lst (fill.map .u) fill.length 1∧lk ρ 2=.ptr F.length 0∧lk ρ 5=v∧lk ρ 6=.i i∧F.length<D.length∧(∀q,q<F.length→D[q]?=F[q]?) ∧
   D[F.length]?=some (.cells [.lst (Qc bs) bs.length 3,O,.i z,.i B,.i V,.i vV,.i uU,.i w6] R)∧X.length=i∧(∀T,T<i→((X.getD T []).length:Int)=(Ns bs T).size)∧Qn (F.length+1) D v 1 i (X.map LU)) (N:=bs.length)
  ⟨0,0,.nilSl,[],rfl,J,by simp,by simp,by simp,by simp,by simp,λq E=>H8 E,by simp,rfl,λT h=>J,Qn.nil⟩ ?_
 rintro N ρ gF D ⟨i,R,v,X,rfl,hN,h1,U,h5,Z,I,K,C,j,hX,hD⟩ Nx gg;by_cases gC:i<bs.length
 ·have q0:=zgp (Sx gC);have E:=zpb gC;have hz:=hs _ (Iq (Sx gC));have pp:∀x:List LObj,(D++x)[F.length]?=_:=λx=>(Nh I).trans C
  simp[h1,U,h5,Z,C,↓pp,gC,Nb q0];refine⟨J,J,?_⟩;obtain⟨gE,L⟩:=Hz hz.1;rw[L];generalize Tc (iU ↑i) 1234567891011=g;have o1:(D++[LObj.dyn (fill.map .u++[.u g]) (fill.length+1) 1 2 2,LObj.dyn [.u g] 1 1 0 0])[D.length]?=some (.dyn ((fill++[g]).map .u) (fill++[g]).length 1 2 2):=by
   rw[Ij (Ia _),Ll];simp
  have o2:=λq (E:q<D.length)=>(Nh (x:=[LObj.dyn (fill.map .u++[.u g]) (fill.length+1) 1 2 2,LObj.dyn [.u g] 1 1 0 0]) E)
  have o3:=hD.push_end (ob:=[LObj.dyn (fill.map .u++[.u g]) (fill.length+1) 1 2 2,LObj.dyn [.u g] 1 1 0 0]);have o4:(D++[LObj.dyn (fill.map .u++[.u g]) (fill.length+1) 1 2 2,LObj.dyn [.u g] 1 1 0 0]).length=D.length+2:=by simp
  generalize D++[LObj.dyn (fill.map .u++[.u g]) (fill.length+1) 1 2 2,LObj.dyn [.u g] 1 1 0 0]=GA at *;refine Nt (zm3 (fill++[g]) gE J Ab (by simp)) ⟨_,_,rfl,⟨_,_,_,_,rfl,o1,mj _⟩,_,_,rfl,⟨rfl,rfl⟩,rfl⟩ ?_;have M:=zk6 (fill++[g]) gE;generalize zu4 (fill++[g]) gE=gG at *;simp[RU];refine Qn.push (c:=1) (x:=[LU gG]) (o3.push_end) J Ab J rfl (by simp[dats,LV.dat,mj]) λv' G gz P gA=>?_
  simp at gA;simp[Z];refine⟨J,gg _ _ _ ⟨N-1,J,i+1,R,v',X++[gG],rfl,J,by simp[h1],Bv,by simp,by simp,J,?_,?_,Af,?_,?_⟩⟩
  ·intro q E;rw[P q J,Nh J,o2 q J];exact K q E
  ·rw[P _ J,Nh J,o2 _ I];exact C
  ·intro T hj;by_cases e:T=i
   ·subst e;rw[Hv,←j,Il,j,L];simp[M]
   ·rw[Hv,H8 J,←Hv];exact hX T J
  ·rw[Le];exact gz
 ·have gi:i=bs.length:=J
  subst gi;obtain⟨_,_,⟨_,e0,_⟩|⟨p,A,st,hp,rfl,Q⟩⟩:=hD
  ·exact absurd (Ip e0) H
  simp[U,h5,Z,C];exact kk X p A st D j (λi hi=>hX i hi) K J J H (by rw[j];exact Q)
def zob(n m:Int):O1 41 [.i n,.i m] (.lst (N0 [⟨n,true,0⟩,⟨m,true,0⟩,⟨n,true,0⟩,⟨n,true,0⟩]) 4 3):=by
 refine R7.mk (by simp[LV.dat,Rg]) (Ni r_law24_four Aa N ?_);simp[zhc,N0,Vr.f]
def Ph(w:UInt64):Ko:=⟨13,3,-1,0,1,2,w⟩
def zhi(w:UInt64):Nl 43 [.u w] (.agg (Ph w).f) []:=by
 refine Of.val rfl (Ni r_law24_pow Aa N ?_);simp[zl3,Ph,Ko.f]
def Pa:List Vr:=[⟨1,true,0⟩,⟨1,true,0⟩,⟨1,true,0⟩,⟨1,true,0⟩]
def w_six{w:UInt64}(hw:1≤w.toNat∧w.toNat≤6):w=1∨w=2∨w=3∨w=4∨w=5∨w=6:=by
 have h:w.toNat=1∨w.toNat=2∨w.toNat=3∨w.toNat=4∨w.toNat=5∨w.toNat=6:=J
 rcases h with h|h|h|h|h|h
 ·exact .inl (I3.1 h)
 ·exact .inr (.inl (I3.1 h))
 ·exact .inr (.inr (.inl (I3.1 h)))
 ·exact .inr (.inr (.inr (.inl (I3.1 h))))
 ·exact .inr (.inr (.inr (.inr (.inl (I3.1 h)))))
 ·exact .inr (.inr (.inr (.inr (.inr (I3.1 h)))))
def pw1{w:UInt64}(hw:1≤w.toNat∧w.toNat≤6):PwV Pa (Ph w) 3 0 1 2:=by
 have ho:Og Pa (Ph w)=true:=by rcases w_six hw with rfl|rfl|rfl|rfl|rfl|rfl<;>decide +kernel
 obtain⟨d,a,b,c,h⟩:=pwV (vs:=Pa) (o:=Ph w) rfl (by decide +kernel) ho;have g:=h.fd.1;have j:=h.fa.1;have z:=h.fb.1;have A:=h.fc.1;simp only[Ph]at g j z A;have B:d=3:=J
 have C:a=0:=J
 have D:b=1:=J
 have E:c=2:=J
 subst B C D E;exact h
def zhm{i:Nat}(hi:i<4):gv Pa i=⟨1,true,0⟩:=by
 have h:i=0∨i=1∨i=2∨i=3:=J
 rcases h with rfl|rfl|rfl|rfl<;>rfl
def pl1{w:UInt64}(hw:1≤w.toNat∧w.toNat≤6):PwL Pa (Ph w):=by
 refine⟨by simp[Pa],λi hi=>by rw[zhm (by simpa [Pa] using hi)],?_⟩;rw[zvk (pw1 hw)];have g:=ko hw.2;have e:(Ph w).imm=w:=rfl;rw[zhm J,zhm J,e];simp only;omega
def zkq{w:UInt64}{a b n:List UInt64}(hw:1≤w.toNat∧w.toNat≤6)(ha:a.length≤1000)(hb:b.length≤1000)(hn:n.length≤1000)(ho:val n%2=1)(H:val n<2^(64*(0+1)))(gg:val a<val n)(jz:val b<2^(64*(0+1))) :
  O1 48 [.i 1,.i 1,.u w,LU a,LU b,LU n] (.tup [LU [UInt64.ofNat (val a^val b%val n)],.bool true]):=by
 refine R7.mk Fp (Ni r_law24_raised Aa (by simp) ?_);have hV:=pw1 hw;have hL:=pl1 hw;obtain⟨jA,_,_⟩:=zck hV;have jB:=zb6 Pa (Ph w) (by simp[Pa]);have gz:=zc8 Pa (Nq Pa (Ph w)) (by simp[Pa]);have z:=zfa Pa (Ph w) (On Pa (Nq Pa (Ph w))) (Re Pa) ⟨Pa.length,0,Nq Pa (Ph w)⟩ ⟨(Pa.length:Int)+1,0,Nq Pa (Ph w)⟩ 0 (by simp[Pa]) (by rw[plB_len];simp[Pa]);have gA:=zxk (deep:=0) hV hL J;unfold zzz zvp at z;rw[H7 gA,H7 gA]at z;have jC:Sw Pa (Ph w) (Re Pa) ⟨Pa.length,0,Nq Pa (Ph w)⟩ ⟨(Pa.length:Int)+1,0,Nq Pa (Ph w)⟩=Nu Pa (Ph w):=rfl;rw[jC]at z;have jD:Uu Pa++[⟨Nq Pa (Ph w),2,false⟩,⟨Nq Pa (Ph w),2,true⟩]=On Pa (Nq Pa (Ph w)):=rfl;rw[jD]at gz;have jE:=hL.w;have C:=λX hX=>fp (deep:=0) hV hL (by rw[zhm J];simp) (by rw[zhm J]) J (X:=X) (Y:=X) hX hX
 have jF:∀i,i<4→(Ns (On Pa (Nq Pa (Ph w))) i).size=1:=λi hi=>by rw[V0 (by simpa [Pa] using hi),zhm hi]
 have gC:=zoo (vs:=Pa) (W:=Nq Pa (Ph w)) (by decide +kernel) ⟨jA,jE⟩;have gD:(On Pa (Nq Pa (Ph w))).length=6:=by rw[plB_len];rfl
 have jG:=zpf (p:=Nu Pa (Ph w)) (D:=0);have j6:Rc Pa 3=5:=rfl;have I:(Nu Pa (Ph w)).prog 0=(Nu Pa (Ph w)).code 0:=rfl;rw[I]at C;have V:(Ph w).f=[.i 13,.i 3,.i (-1),.i 0,.i 1,.i 2,.u w]:=rfl;generalize j7:Nq Pa (Ph w)=W at *;generalize j8:On Pa W=j at *;generalize j9:((Nu Pa (Ph w)).code 0)=j5 at *;have A:Qj j (Re Pa) ⟨Pa.length,0,W⟩ ⟨(Pa.length:Int)+1,0,W⟩=[.lst (Qc j) j.length 3,.lst (Vp (Re Pa)) (Re Pa).length 3,.i 4,.i 0,.i W,.i 5,.i 0,.i W]:=rfl;simp[zea];refine Rm (zob 1 1) Bo ?_;have hv:[(⟨1,true,0⟩:Vr),⟨1,true,0⟩,⟨1,true,0⟩,⟨1,true,0⟩]=Pa:=rfl;rw[hv];simp;refine Nt (zhi w) (by simp) ?_;simp[V];rw[←V];refine Nt jB (bors_self _ (by simp[dats,LV.dat,Rg,V])) ?_;have g1:¬W<1:=J
 simp[g1];refine Rm gz Bc ?_;simp[A];refine Nt (zhi w) (by simp) ?_;simp[V];rw[←V,←A];refine Rm z (by simp[dats,LV.dat,Rg,zap,V]) ?_;simp[A];refine z8v (a:=[.agg [.lst (Qc j) j.length 3,.lst (Vp (Re Pa)) (Re Pa).length 3,.i 4,.i 0,.i W,.i 5,.i 0,.i W]]) (b:=[]) (p:=1) rfl ?_;refine zna (fill:=[3]) (bs:=j) (λb hb=>by have:=gC b hb;omega) J (by simp) (λX p gE st G' zg jH gF hp jI _ gG=>?_) (λe=>by rw[e]at gD;simp at gD);have gH:X.length=6:=J
 have jK:G'[0]?=_:=(gF 0 (by simp)).trans (by simp;rfl);simp only[J3,Ig,Ix]at hp jI;clear gF;simp;have E:∀g,g<3→val (([a,b,n]:List (List UInt64)).getD g [])<2^(64*(0+1)):=λg Z=>by
  have h:g=0∨g=1∨g=2:=J
  rcases h with rfl|rfl|rfl
  ·exact Mr gg H
  ·exact jz
  ·exact H
 have K:∀g,g<3→(([a,b,n]:List (List UInt64)).getD g []).length≤1000:=λg Z=>by
  have h:g=0∨g=1∨g=2:=J
  rcases h with rfl|rfl|rfl
  ·exact ha
  ·exact hb
  ·exact hn
 have gI:p<G'.length:=(Hu.1 gG).1;refine O5 (λρ D jZ N=>∃(i M:Nat) (Y:List (List UInt64)),D=[]∧N+i=3∧lk ρ 14=.lst (N0 Pa) 4 3∧lk ρ 16=.ptr 0 0∧lk ρ 17=.lst (Qh j5.flat) j5.flat.length 8∧lk ρ 18=.i 0∧lk ρ 19=.dy p gE∧lk ρ 53=.dy G'.length 0∧lk ρ 54=.i 3∧lk ρ 55=.i i∧jZ.length=G'.length+1 ∧
   jZ[0]?=some (.cells (Qj j (Re Pa) ⟨Pa.length,0,W⟩ ⟨(Pa.length:Int)+1,0,W⟩) 1)∧jZ[p]?=some (.dyn (Y.map LU) 6 1 gE M)∧jZ[G'.length]?=some (.dyn (([a,b,n]:List (List UInt64)).map LU) 3 1 0 0)∧Y.length=6∧(∀g,g<j.length→((Y.getD g []).length:Int)=(Ns j g).size)∧∀g,g<i→g<3→Y.getD g []=S0 (([a,b,n]:List (List UInt64)).getD g []) 1) (N:=3)
  ⟨0,st,X,rfl,rfl,by simp,by simp,by simp,by simp,by simp,by simp,by simp,by simp,by simp,(Nh J).trans jK,by rw[Nh gI,gG,gH],Il,gH,jH,λg h=>J⟩ ?_
 rintro N ρ D jZ ⟨i,M,Y,rfl,hN,gK,gL,gM,O,Q,gO,R,T,gP,gQ,gR,gT,U,gU,B⟩ Nx jL;by_cases j4:i<3
 ·have g':(i:Int)<3:=J
  have hS:=E i j4;have zj:=K i j4;generalize gV:([a,b,n]:List (List UInt64)).getD i []=S at *;have jM:([LV.lst (a.map .u) a.length 1,.lst (b.map .u) b.length 1,.lst (n.map .u) n.length 1])[i]?=some (LU S):=by
   show (([a,b,n]:List (List UInt64)).map LU)[i]?=some (LU S);rw[Jw,H6 (by simpa using j4),←gV,Hv,H6 (by simpa using j4)];rfl
  have jO:(N0 Pa)[i*3]?=some (.i 1):=by
   have h:=sn (Tw (l:=Pa) (n:=i) (by simp[Pa];omega));rw[zhm J]at h;exact h
  have F:Sm S 1=0:=by
   have:=Yy (k:=0) hS J;simpa using this
  simp[gK,gO,R,T,j4,g',gT,Nb jM,Nb jO,(J:i<4)];refine⟨J,?_⟩;refine Nt (zcr S 1 J) (by simp) ?_;have jP:=zf6 F;rw[F];generalize jQ:S0 S 1=zA at *;have jR:i<6:=J
  have G:=zfz LU Y i zA J;simp only[LU]at G;have jT:i≤5:=J
  simp[Q,T,gR,RU,jR,jT,U];refine⟨J,J,jL _ _ _ ⟨N-1,J,i+1,M+1,Y.set i zA,rfl,J,by simp[gK],by simp[gL],by simp[gM],Dl,F6,by simp[gO],B8,by simp,by simp[gP],?_,?_,?_,Bv,?_,?_⟩⟩
  ·rw[Hw J];exact gQ
  ·rw[H0 J];rw[←G]
  ·rw[Hw J];exact gT
  ·intro g Z;rw[Wd _ _ _ _ _ J];by_cases e:g=i
   ·rw[H7 e,e,jF i J];exact jP.1
   ·rw[Hx e];exact gU g Z
  ·intro g Z jU;rw[Wd _ _ _ _ _ J];by_cases e:g=i
   ·rw[H7 e,e,gV,jQ]
   ·rw[Hx e];exact B g J jU
 ·have gi:i=3:=J
  subst gi;have y0:=B 0 J J;have y1:=B 1 J J;have y2:=B 2 J J;have fv:∀g,g<3→val (S0 (([a,b,n]:List (List UInt64)).getD g []) 1)=val (([a,b,n]:List (List UInt64)).getD g []):=λg Z=>m8 (by have:=Yy (k:=0) (E g Z) J;simpa using this)
  have v0:val (Y.getD 0 [])=val a:=by rw[y0];exact fv 0 J
  have v1:val (Y.getD 1 [])=val b:=by rw[y1];exact fv 1 J
  have v2:val (Y.getD 2 [])=val n:=by rw[y2];exact fv 2 J
  obtain⟨sX,sY,r1,_,_,_,r5,r6,r7,_⟩:=C Y ⟨J,gU⟩;have gY:(Y.getD 2 []).getD 0 0%2=1:=by
   have h:=zx5 (Y.getD 2 []);have h2:i0 (Y.getD 2 [])=true:=by rw[h,v2,Nat.testBit_zero];exact Js ho
   unfold i0 at h2;exact Ka h2
  have hv:=r6 gY (by rw[v0,v2];exact gg);rw[v0,v1,v2]at hv;rw[zhm J]at r5;have zz:sX.bufs.length=6:=r1;have jV:sX.bufs.getD 3 []=[UInt64.ofNat (val a^val b%val n)]:=by
   have jX:val a^val b%val n<2^64:=Mr (J1 _ J) H;refine val_inj_length (by rw[r5];rfl) ?_;rw[hv];simp[val,Iv jX]
  have gZ:=zbg (bs:=j) (P:=.lst (Vp (Re Pa)) (Re Pa).length 3) (W:=[.i 4,.i 0,.i W,.i 5,.i 0,.i W]) (L:=j5.flat) (deep:=0) J J ⟨_,_,_,_,_,_,rfl⟩;simp[Qk]at gZ;simp[gL,gM,O,R,T,gQ,A];refine Rm gZ (by simp[dats,LV.dat,Ts,zdd,Tu]) ?_;simp[Q];refine z8v (a:=[.agg (Nk 64 j j5.flat)]) (b:=[]) gR ?_;have jY:LV.lst (Y.map LU) 6 1=LN Y:=by rw[LN,U]
  rw[jY];refine Rm r7 (by simp[dats,LV.dat,Tu,Ts,Nk,mj]) ?_;have g9:3<sX.bufs.length:=J
  have jg:(3:Int)<sX.bufs.length:=J
  have h3:sX.bufs[3]=[UInt64.ofNat (val a^val b%val n)]:=by rw[←jV,Hv,H6 g9];rfl
  simp[O,Y5,g9,jg,h3]
def ze0:LC:=(.q [.x 4 1] (.q [.f 11 3 4,.l 12 11,.f 13 4 4,.l 14 13,.z 15 (.buildSl 1 2 [(.i 0),(.i 0)] [(0,1,.t 12),(1,1,.t 14)]),.s 16 15,.K 17 0] (.block 0 (.loop (.q [.c 18 .lss 3 17 16] (.seq (.cond (.t 18) .skip (.exit 0)) (.seq (.block 1 (.q [.I 19 1 15 17,.l 20 19,.m 7 20] (.q [.m 21 7,.b 22 .geq 3 21 0,.m 23 22,.my 24 23 7,.yf 25 23 5 4,.yl 26 23 25,.y 27 23 (.bin .neq false 3 (.t 24) (.t 26)),.q 28 23 27,.m 29 28,.yf 30 29 0 4,.yl 31 29 30,.y 32 29 (.bin .neq true 3 (.t 31) (.k 9)),.q 33 29 32,.m 34 33,.yf 35 34 0 4,.yl 36 34 35,.y 37 34 (.bin .eql true 3 (.t 36) (.k 13)),.my 38 34 37,.my 39 38 7,.yf 40 38 4 4,.yl 41 38 40,.y 42 38 (.bin .eql false 3 (.t 39) (.t 41)),.y 43 34 (.pick (.t 38) (.t 42) .F),.y 44 34 (.un .not (.t 43)),.q 45 34 44] (.cond (.t 45) (.seq (.draw [(.m 47 2,[]),(.m 48 7,[]),(.I 49 1 47 48,[]),(.l 50 49,[]),(.m 51 2,[]),(.f 52 5 4,[]),(.l 53 52,[]),(.I 54 1 51 53,[]),(.l 55 54,[]),(.W 56 28 50 55,[]),(.m 46 56,[]),(.X 57 0 46,[]),(.X 58 1 46,[]),(.X 59 2 46,[]),(.m 8 57,[]),(.m 9 58,[]),(.m 10 59,[])]) (.q [.m 60 10,.b 61 .eql 35 60 0] (.cond (.t 61) (.ops [.m 63 2,.m 64 7,.m 65 9,.m 66 0,.m 67 7,.I 68 3 66 67,.f 69 0 68,.l 70 69,.W 71 95 65 70,.m 62 71,.X 72 0 62,.X 73 1 62,.I 74 1 63 64,.S 1 74 72]) .skip))) .skip)))) (.ops [.b 75 .add 3 17 1,.m 17 75]))))))))
def r_law24_lessen:Ng Tryz.prog 116=some ⟨76,ze0.r,[]⟩:=Aa
def zl2{l:List (List UInt64)}{i:Nat}(h:i<l.length):(l.map LU)[i]?=some (LU (l.getD i [])):=by
 rw[Jw,H6 h,Hv,H6 h];rfl
def zih{vs:List Vr}{o:Ko}{X:List (List UInt64)}{p st a b c:Nat}(hX:vs.length≤X.length)(ea:o.a=a)(eb:o.b=b)(ec:o.c=c)(la:a<vs.length)(lb:b<vs.length)(lc:c<vs.length)(hk:o.kind≠9)
  (gY:(gv vs a).limbs=(gv vs c).limbs) (gZ:o.kind=13∨(gv vs b).limbs=(gv vs c).limbs) (jM:1≤(gv vs c).limbs∧(gv vs c).limbs≤6) (M:∀i,i<vs.length→((X.getD i []).length:Int)=(gv vs i).limbs) (hG:F[p]?=some (.dyn (X.map LU) X.length 1 g st))
  (kk:∀(O:List (List UInt64)) (P:Nat) (gL:M7),O.length=X.length→(∀i,(O.getD i []).length=(X.getD i []).length)→gL[p]?=some (.dyn (O.map LU) X.length 1 g P)→(∀q,q<F.length→q≠p→gL[q]?=F[q]?)→F.length≤gL.length→Y (.tup []) gL) :
  Ot (.fn 116) [.lst (N0 vs) vs.length 3,.agg o.f,.dy p g] F Y:=by
 have hf:o.f=[.i o.kind,.i o.d,.i o.e,.i o.a,.i o.b,.i o.c,.u o.imm]:=rfl;have g9:=(Hu.1 hG).1;refine Ni r_law24_lessen Aa (by simp) ?_;simp[ze0,hf,ea,eb,ec];refine O5 (λρ jQ gL N=>∃(gM st:Nat) (O:List (List UInt64)),jQ=[]∧N+gM=2∧lk ρ 0=.lst (N0 vs) vs.length 3∧lk ρ 2=.dy p g∧lk ρ 4=.ptr F.length 0∧lk ρ 15=.dy (F.length+1) 0∧lk ρ 16=.i 2∧lk ρ 17=.i gM∧gL[F.length]?=some (.cells o.f 0)∧gL[F.length+1]?=some (.dyn [.i a,.i b] 2 1 0 0)∧O.length=X.length∧(∀i,(O.getD i []).length=(X.getD i []).length)∧gL[p]?=some (.dyn (O.map LU) X.length 1 g st)∧(∀q,q<F.length→q≠p→gL[q]?=F[q]?)) (N:=2)
  ⟨0,st,X,rfl,rfl,by simp,by simp,by simp,by simp,by simp,by simp,by simp[hf,ea,eb,ec],by simp,rfl,λ_=>rfl,(H8 g9).trans hG,λq hq _=>H8 hq⟩ ?_
 rintro N ρ jQ gL ⟨gM,st,O,rfl,hN,L,I,T,z,j,A,g0,Q,U,B,C,H⟩ Nx jg;have jO:=(Hu.1 Q).1;by_cases jK:gM<2
 ·obtain⟨i,li,V,jz⟩:∃i:Nat,i<vs.length∧([LV.i a,.i b])[gM]?=some (.i i)∧(i≠b∨o.kind≠13∨i=b)∧((gv vs i).limbs=(gv vs c).limbs∨(i=b∧o.kind=13)):=by
   have hj:gM=0∨gM=1:=J
   rcases hj with rfl|rfl
   ·exact⟨a,la,rfl,J,.inl gY⟩
   ·exact⟨b,lb,rfl,J,gZ.symm.imp id λe=>⟨rfl,e⟩⟩
  have nx:∀(ρ':M9) (G':M7) (P:Nat) (Y':List (List UInt64)),lk ρ' 0=.lst (N0 vs) vs.length 3→lk ρ' 2=.dy p g→lk ρ' 4=.ptr F.length 0→lk ρ' 15=.dy (F.length+1) 0→lk ρ' 16=.i 2→lk ρ' 17=.i ((gM:Int)+1)→G'[F.length]?=some (.cells o.f 0)→G'[F.length+1]?=some (.dyn [.i a,.i b] 2 1 0 0)→Y'.length=X.length→(∀i,(Y'.getD i []).length=(X.getD i []).length)→G'[p]?=some (.dyn (Y'.map LU) X.length 1 g P)→(∀q,q<F.length→q≠p→G'[q]?=F[q]?)→Nx ρ' [] G' :=
   λρ' G' P Y' e0 e2 e4 jA jB jC f0 f1 y1 y2 f2 f3=>jg _ _ _ ⟨N-1,J,gM+1,P,Y',rfl,J,e0,e2,e4,jA,jB,by rw[jC];simp,f0,f1,y1,y2,f2,f3⟩
  have gj:(gM:Int)<2:=J
  have K:=g0;rw[hf,ea,eb,ec]at g0;have gO:¬o.kind=9:=hk;by_cases jP:i=c
  ·have D:(i:Int)=(c:Int):=J
   simp[L,I,T,z,j,A,jK,gj,g0,Q,Nb V,D];exact⟨J,nx _ _ _ _ Bz Bd Bn Ae Af (by simp) K Q U B C H⟩
  have D:¬(i:Int)=(c:Int):=J
  by_cases gA:o.kind=13∧i=b
  ·obtain⟨E,rfl⟩:=gA;simp[L,I,T,z,j,A,jK,gj,g0,Q,Nb V,D,E];exact⟨J,nx _ _ _ _ Bz Bd Bn Ae Af (by simp) K Q U B C H⟩
  have gC:(gv vs i).limbs=(gv vs c).limbs:=jz.2.resolve_right λq=>gA ⟨q.2,q.1⟩
  have gD:(O.map LU)[i]?=some (LU (O.getD i [])):=zl2 J;have gE:(O.map LU)[c]?=some (LU (O.getD c [])):=zl2 J;have Z:i<X.length:=J
  have gP:c<X.length:=J
  have gF:(O.getD i []).length=(gv vs c).limbs:=by rw[B,M i li,gC]
  have gG:(O.getD c []).length=(gv vs c).limbs:=by rw[B,M c lc]
  have gQ:(N0 vs)[i*3]?=some (.i (gv vs c).limbs):=by rw[←gC];exact sn (Tw li)
  have jD:(o.kind=13∧¬(i:Int)=(b:Int))∨¬o.kind=13:=by
   by_cases q:o.kind=13
   ·exact .inl ⟨q,λe=>gA ⟨q,J⟩⟩
   ·exact .inr q
  obtain⟨gK,hA⟩:∃gK,O.getD i []=gK:=⟨_,rfl⟩;obtain⟨gg,hC⟩:∃gg,O.getD c []=gg:=⟨_,rfl⟩;have gR:O[i]?.getD []=gK:=by rw[←Hv];exact hA
  have gT:O[c]?.getD []=gg:=by rw[←Hv];exact hC
  rw[hA]at gD gF;rw[hC]at gE gG;have jE:(X.getD i []).length=(gv vs c).limbs:=by rw[M i li,gC]
  obtain⟨kn,jF,jG⟩:∃kn:Nat,(gv vs c).limbs=(kn:Int)+1∧kn≤5:=⟨(gv vs c).limbs.toNat-1,J,J⟩;have gz:∀gU:List UInt64,val gU<val gg→Sm gU (gv vs c).limbs=0:=λgU hR=>by
   rw[jF];exact Yy (Mr hR (z5c J)) jG
  have hD:=zi7 gK gg J J;rcases jD with ⟨E,gV⟩|E
  ·simp[L,I,T,z,j,A,jK,gj,g0,Q,Nb V,D,gO,E,gV,C,Nb gD,Nb gE,Z,gP,gR,gT];refine⟨J,J,?_⟩;refine Nt hD (by simp) ?_;by_cases R:val gg=0
   ·simp[R,A,RU];exact⟨J,nx _ _ _ _ Bz Bd Bn Ae Af (by simp) K Q U B C H⟩
   have gH:val (O4 (val gK%val gg))<val gg:=by rw[X5];exact J1 _ J
   have jH:(O4 (val gK%val gg)).length≤1000:=Gz
   simp[R,RU];generalize O4 (val gK%val gg)=gU at *;simp[L,I,li,Nb gQ];refine Nt (zcr gU (gv vs c).limbs J) (by simp) ?_;have jI:=(zf6 (gz gU gH)).1;generalize S0 gU (gv vs c).limbs=jL at *;have G:=zfz LU O i jL J;simp only[LU]at G;simp[I,A,C,RU,Z,U];refine⟨J,J,nx _ _ (st+1) (O.set i jL) Bz Bd Bn Ae Af (by simp) ?_ ?_ Bv (λx=>?_) ?_ (λx hx gI=>?_)⟩
   ·rw[Hw J];exact K
   ·rw[Hw J];exact Q
   ·rw[Wd _ _ _ _ _ J];by_cases e:x=i
    ·rw[H7 e,e];omega
    ·rw[Hx e];exact B x
   ·rw[H0 J,G]
   ·rw[Hw J];exact H x hx gI
  ·simp[L,I,T,z,j,A,jK,gj,g0,Q,Nb V,D,gO,E,C,Nb gD,Nb gE,Z,gP,gR,gT];refine⟨J,J,?_⟩;refine Nt hD (by simp) ?_;by_cases R:val gg=0
   ·simp[R,A,RU];exact⟨J,nx _ _ _ _ Bz Bd Bn Ae Af (by simp) K Q U B C H⟩
   have gH:val (O4 (val gK%val gg))<val gg:=by rw[X5];exact J1 _ J
   have jH:(O4 (val gK%val gg)).length≤1000:=Gz
   simp[R,RU];generalize O4 (val gK%val gg)=gU at *;simp[L,I,li,Nb gQ];refine Nt (zcr gU (gv vs c).limbs J) (by simp) ?_;have jI:=(zf6 (gz gU gH)).1;generalize S0 gU (gv vs c).limbs=jL at *;have G:=zfz LU O i jL J;simp only[LU]at G;simp[I,A,C,RU,Z,U];refine⟨J,J,nx _ _ (st+1) (O.set i jL) Bz Bd Bn Ae Af (by simp) ?_ ?_ Bv (λx=>?_) ?_ (λx hx gI=>?_)⟩
   ·rw[Hw J];exact K
   ·rw[Hw J];exact Q
   ·rw[Wd _ _ _ _ _ J];by_cases e:x=i
    ·rw[H7 e,e];omega
    ·rw[Hx e];exact B x
   ·rw[H0 J,G]
   ·rw[Hw J];exact H x hx gI
 ·have gj:¬(gM:Int)<2:=J
  simp[j,A,jK,gj];exact kk O st gL U B C H J
def Uo(c:Nat)(q:Nat)(i:Nat)(l:List LV):List LV:=if c<i then l.set c (.dy q 0) else l
def ib{c q i:Nat}{l:List LV}{x:LV}(j:l.length=i)(h:i≠c):Uo c q (i+1) (l++[x])=Uo c q i l++[x]:=by
 unfold Uo;by_cases g:c<i
 ·rw[H7 J,H7 g,List.set_append_left _ _ J]
 ·rw[Hx J,Hx g]
def tl{q i:Nat}{l:List LV}{x:LV}(g:l.length=i):Uo i q (i+1) (l++[x])=l++[.dy q 0]:=by
 unfold Uo;rw[H7 J,La _ _ J,g,Ll];rfl
def zyz{bs:List Bf}{w6:Int}{fill:List UInt64}(c:Nat)(hc:c<bs.length)(hs:∀b∈bs,0≤b.size∧b.size≤1000000)(hb:bs.length≤1000)(gI:fill.length≤1000)
  (kk:∀(X:List (List UInt64)) (p C st q sq:Nat) (L:M7),X.length=bs.length→(∀i,i<bs.length→((X.getD i []).length:Int)=(Ns bs i).size)→(∀q,q<F.length→L[q]?=F[q]?)→F.length≤p→F.length≤q→p≠q→L[p]?=some (.dyn ((X.map LU).set c (.dy q 0)) X.length 1 C st)→L[q]?=some (.dyn ((X.getD c []).map .u) (X.getD c []).length 1 0 sq)→Y (.dy p C) L) :
  Ot (.fn 101) [.agg [.lst (Qc bs) bs.length 3,O,.i z,.i B,.i V,.i vV,.i uU,.i w6],.lst (fill.map .u) fill.length 1] F Y:=by
 refine Ni r_law24_rows k_law24_rows (by simp) ?_;simp[z8s];refine O5 (λρ gM gg N=>∃(i s0 q sq:Nat) (v:LV) (X:List (List UInt64)),gM=[]∧N+i=bs.length∧lk ρ 1=.lst (fill.map .u) fill.length 1∧lk ρ 2=.ptr F.length 0∧lk ρ 5=v∧lk ρ 6=.i i∧F.length<gg.length∧(∀q,q<F.length→gg[q]?=F[q]?) ∧
   gg[F.length]?=some (.cells [.lst (Qc bs) bs.length 3,O,.i z,.i B,.i V,.i vV,.i uU,.i w6] s0)∧X.length=i∧(∀j,j<i→((X.getD j []).length:Int)=(Ns bs j).size)∧Xt (F.length+1) gg v 1 i (Uo c q i (X.map LU)) ∧
   (c<i→F.length<q∧(∀j,v≠.dy q j)∧gg[q]?=some (.dyn ((X.getD c []).map .u) (X.getD c []).length 1 0 sq))) (N:=bs.length)
  ⟨0,0,0,0,.nilSl,[],rfl,J,by simp,by simp,by simp,by simp,by simp,λq H=>H8 H,by simp,rfl,λj h=>J,by simpa [Uo] using Xt.nil,λh=>J⟩ ?_
 rintro N ρ gM gg ⟨i,s0,q,sq,v,X,rfl,hN,h1,M,h5,h6,R,T,D,g,hX,hD,gz⟩ Nx gA;by_cases gH:i<bs.length
 ·have q0:=zgp (Sx gH);have H:=zpb gH;have hz:=hs _ (Iq (Sx gH));have pp:∀x:List LObj,(gg++x)[F.length]?=_:=λx=>(Nh R).trans D
  simp[h1,M,h5,h6,D,↓pp,gH,Nb q0];refine⟨J,J,?_⟩;obtain⟨gK,gC⟩:=Hz hz.1;rw[gC];generalize Tc (iU ↑i) 1234567891011=A;have o1:(gg++[LObj.dyn (fill.map .u++[.u A]) (fill.length+1) 1 2 2,LObj.dyn [.u A] 1 1 0 0])[gg.length]?=some (.dyn ((fill++[A]).map .u) (fill++[A]).length 1 2 2):=by
   rw[Ij (Ia _),Ll];simp
  have o2:=λq (H:q<gg.length)=>(Nh (x:=[LObj.dyn (fill.map .u++[.u A]) (fill.length+1) 1 2 2,LObj.dyn [.u A] 1 1 0 0]) H)
  have o3:=hD.push_end (ob:=[LObj.dyn (fill.map .u++[.u A]) (fill.length+1) 1 2 2,LObj.dyn [.u A] 1 1 0 0]);have o4:(gg++[LObj.dyn (fill.map .u++[.u A]) (fill.length+1) 1 2 2,LObj.dyn [.u A] 1 1 0 0]).length=gg.length+2:=by simp
  generalize gg++[LObj.dyn (fill.map .u++[.u A]) (fill.length+1) 1 2 2,LObj.dyn [.u A] 1 1 0 0]=I at *;have gF:=zk6 (fill++[A]) gK;have gD:=zm3 (fill++[A]) gK J Ab (by simp);generalize zu4 (fill++[A]) gK=gG at *;have gE:=λq j (e:v=.dy q j)=>(hD.lt e).2
  have P:∀j,j<i+1→(((X++[gG]).getD j []).length:Int)=(Ns bs j).size:=λj hj=>by
   by_cases e:j=i
   ·subst e;rw[Hv,←g,Il,g,gC];simp[gF]
   ·rw[Hv,H8 J,←Hv];exact hX j J
  have same:c<i→(X++[gG]).getD c []=X.getD c []:=λh=>by rw[Hv,H8 J,←Hv]
  by_cases ec:i=c
  ·refine zf9 gD ⟨_,_,rfl,⟨_,_,_,_,rfl,o1,mj _⟩,_,_,rfl,⟨rfl,rfl⟩,rfl⟩ ?_;simp[RU];refine Xt.push (c:=1) (x:=[LV.dy I.length 0]) (o3.push_end) J Ab J rfl λv' L E K U Z=>?_
   simp at U;simp[h6];have nv:∀q j,v'=.dy q j→q=I.length+2∨∃j',v=.dy q j':=λq j e=>by simpa using Z q j e
   have fr:∀q,q<I.length→(∀j,v≠.dy q j)→L[q]?=I[q]?:=λq h1 M=>by
    rw[K q Ab M];exact Nh J
   have G:∀q,q<F.length+1→∀j,v≠.dy q j:=λq H j e=>by have:=(hD.lt e).1;omega
   refine⟨J,gA _ _ _ ⟨N-1,J,i+1,s0,I.length,0,v',X++[gG],rfl,J,by simp[h1],A9,by simp,by simp,J,?_,?_,Av,P,?_,λ_=>⟨J,λj e=>?_,?_⟩⟩⟩
   ·intro q H;rw[fr q J (G q J),o2 q J];exact T q H
   ·rw[fr _ J (G _ J),o2 _ R];exact D
   ·rw[Le,List.map_singleton,←ec,tl Av];rw[ec]at E ⊢;have e2:Uo c q c (X.map LU)=X.map LU:=by unfold Uo;rw[Hx J]
    rw[e2]at E;exact E
   ·rcases nv _ _ e with e|⟨j',e⟩
    ·omega
    ·have:=gE _ _ e;omega
   ·rw[K I.length (by simp) (λj e=>by have:=gE _ _ e;omega),Ij (Ia _),Ll,←ec,Hv,←g,Il];rfl
  ·refine Nt gD ⟨_,_,rfl,⟨_,_,_,_,rfl,o1,mj _⟩,_,_,rfl,⟨rfl,rfl⟩,rfl⟩ ?_;simp[RU];refine Xt.push (c:=1) (x:=[LU gG]) (o3.push_end) J Ab J rfl λv' L E K U Z=>?_
   simp at U;simp[h6];have fr:∀q,q<I.length→(∀j,v≠.dy q j)→L[q]?=I[q]?:=λq h1 M=>by
    rw[K q Ab M];exact Nh J
   have G:∀q,q<F.length+1→∀j,v≠.dy q j:=λq H j e=>by have:=(hD.lt e).1;omega
   refine⟨J,gA _ _ _ ⟨N-1,J,i+1,s0,q,sq,v',X++[gG],rfl,J,by simp[h1],A9,by simp,by simp,J,?_,?_,Av,P,?_,λgL=>?_⟩⟩
   ·intro q H;rw[fr q J (G q J),o2 q J];exact T q H
   ·rw[fr _ J (G _ J),o2 _ R];exact D
   ·rw[Le,List.map_singleton,ib Av ec];exact E
   ·obtain⟨a1,a2,a3⟩:=gz J;have ql:=(Hu.1 a3).1;refine⟨a1,λj e=>?_,?_⟩
    ·have e':q=(I++[LObj.dyn [LU gG] 1 1 0 0]).length∨∃j',v=.dy q j':=Z q j e;rcases e' with e'|⟨j',e'⟩
     ·simp at e';omega
     ·exact a2 j' e'
    ·rw[fr q J a2,o2 q ql,same J];exact a3
 ·have gi:i=bs.length:=J
  subst gi;obtain⟨a1,a2,a3⟩:=gz hc;obtain⟨_,⟨_,e0,_⟩|⟨p,C,st,hp,rfl,Q⟩⟩:=hD
  ·omega
  simp[M,h5,h6,D];have e2:Uo c q bs.length (X.map LU)=(X.map LU).set c (.dy q 0):=by unfold Uo;rw[H7 hc]
  rw[e2]at Q;exact kk X p C st q sq gg g (λi hi=>hX i hi) T J J (λe=>a2 C Ez) (by rw[g];exact Q) a3
def rv:LC:=(.q [.x 1 0,.e 2] (.q [.f 6 3 1,.l 7 6,.f 8 5 1,.l 9 8,.z 10 (.build [(.i 0),(.i 0),(.i 0)] [(0,1,.k 2),(1,1,.t 7),(2,1,.t 9)]),.f 11 4 1,.l 12 11,.f 13 5 1,.l 14 13,.z 15 (.build [(.i 0),(.i 0),(.i 0)] [(0,1,.k 2),(1,1,.t 12),(2,1,.t 14)]),.z 16 (.buildSl 3 2 [(.i 0),(.i 0),(.i 0),(.i 0),(.i 0),(.i 0)] [(0,3,.t 10),(3,3,.t 15)]),.m 3 16] (.q [.f 17 5 1,.l 18 17,.z 19 (.build [(.i 0),(.i 0),(.i 0)] [(0,1,.k 1),(1,1,.t 18),(2,1,.k (-1))]),.z 4 (.alloc [(.i 0),(.i 0),(.i 0)]),.S 3 4 19] (.seq (.q [.f 20 0 1,.l 21 20] (.block 0 (.q [.b 23 .eql 3 21 9,.m 22 23] (.cond (.t 22) (.q [.f 24 5 1,.l 25 24,.z 26 (.build [(.i 0),(.i 0),(.i 0)] [(0,1,.k 3),(1,1,.t 25),(2,1,.k (-1))]),.z 27 (.buildSl 3 1 [(.i 0),(.i 0),(.i 0)] [(0,3,.t 26)]),.m 2 27] .ret) (.seq (.q [.b 29 .eql 3 21 10,.m 28 29] (.cond (.t 28) .skip (.ops [.b 30 .eql 3 21 11,.m 28 30]))) (.cond (.t 28) (.q [.m 31 3,.m 2 31] .ret) (.q [.b 33 .eql 3 21 12,.m 32 33] (.cond (.t 32) (.seq (.draw [(.L 34 3 4,[]),(.m 35 3,[]),(.z 36 (.ixAddr 3 (.t 35) (.k 0)),[]),(.L 37 3 36,[]),(.m 38 3,[]),(.z 39 (.ixAddr 3 (.t 38) (.k 1)),[]),(.L 40 3 39,[]),(.z 41 (.buildSl 3 3 [(.i 0),(.i 0),(.i 0),(.i 0),(.i 0),(.i 0),(.i 0),(.i 0),(.i 0)] [(0,3,.t 34),(3,3,.t 37),(6,3,.t 40)]),[(.L 40 3 39,false),(.L 37 3 36,false),(.L 34 3 4,false)]),(.m 2 41,[])]) .ret) (.q [.b 43 .eql 3 21 13,.m 42 43] (.cond (.t 42) (.seq (.draw [(.L 44 3 4,[]),(.m 45 3,[]),(.z 46 (.ixAddr 3 (.t 45) (.k 0)),[]),(.L 47 3 46,[]),(.z 48 (.buildSl 3 2 [(.i 0),(.i 0),(.i 0),(.i 0),(.i 0),(.i 0)] [(0,3,.t 44),(3,3,.t 47)]),[(.L 47 3 46,false),(.L 44 3 4,false)]),(.m 2 48,[])]) .ret) (.q [.b 50 .eql 3 21 17,.m 49 50] (.cond (.t 49) (.q [.K 5 (-1)] (.seq (.q [.f 51 6 1,.l 52 51,.u 53 .eql 23 52 2] (.cond (.t 53) (.ops [.f 54 4 1,.l 55 54,.m 5 55]) .skip)) (.q [.f 56 6 1,.l 57 56,.u 58 .geq 23 57 1,.m 59 58,.yf 60 59 6 1,.yl 61 59 60,.y 62 59 (.bin .leq true 23 (.t 61) (.c (.u 3))),.q 63 59 62] (.cond (.t 63) (.q [.f 64 6 1,.l 65 64,.z 66 (.cvInt .i64 (.t 65)),.f 67 3 1,.l 68 67,.m 69 5,.z 70 (.build [(.i 0),(.i 0),(.i 0)] [(0,1,.t 66),(1,1,.t 68),(2,1,.t 69)]),.z 71 (.buildSl 3 1 [(.i 0),(.i 0),(.i 0)] [(0,3,.t 70)]),.m 2 71] .ret) .skip)))) .skip)))))))))))) (.q [.e 2] .ret)))))
def r_ref20_Needs:Ng Tryz.prog 127=some ⟨72,rv.r,[.tmp 2]⟩:=Aa
def z2a:LC:=(.q [.x 2 0,.F 4] (.seq (.q [.f 5 1 2,.l 6 5,.b 7 .lss 3 6 0,.m 8 7,.nf 9 8 1 2,.nl 10 8 9,.mn 11 8 1,.n 12 8 (.lenSl (.t 11)),.n 13 8 (.bin .geq false 3 (.t 10) (.t 12)),.p 14 8 13,.m 15 14,.nf 16 15 0 2,.nl 17 15 16,.nb 18 15 .eql 3 17 2,.mn 19 15 18,.yf 20 19 2 2,.yl 21 19 20,.y 22 19 (.bin .lss true 3 (.t 21) (.k 0)),.my 23 19 22,.nf 24 23 2 2,.nl 25 23 24,.mn 26 23 1,.n 27 23 (.lenSl (.t 26)),.n 28 23 (.bin .geq false 3 (.t 25) (.t 27)),.y 29 19 (.pick (.t 23) .T (.t 28)),.n 30 15 (.pick (.t 19) (.t 29) .F),.p 31 15 30] (.cond (.t 31) (.q [.F 4] .ret) .skip)) (.seq (.q [.f 32 0 2,.l 33 32] (.block 0 (.q [.b 35 .eql 3 33 1,.m 34 35] (.cond (.t 34) (.q [.m 36 1,.f 37 1 2,.l 38 37,.I 39 1 36 38,.l 40 39,.z 41 (.w 82 [.t 40,.k 0]),.m 4 41] .ret) (.q [.b 43 .eql 3 33 3,.m 42 43] (.cond (.t 42) (.q [.m 44 1,.f 45 1 2,.l 46 45,.I 47 1 44 46,.l 48 47,.w 49 84 48,.s 50 49,.b 51 .gtr 3 50 0,.m 4 51] .ret) (.q [.b 53 .eql 3 33 2,.m 52 53] (.cond (.t 52) (.seq (.draw [(.m 54 1,[]),(.f 55 1 2,[]),(.l 56 55,[]),(.I 57 1 54 56,[]),(.l 58 57,[]),(.m 59 1,[]),(.f 60 2 2,[]),(.l 61 60,[]),(.I 62 1 59 61,[]),(.l 63 62,[]),(.W 64 66 58 63,[]),(.b 65 .lss 3 64 0,[]),(.m 4 65,[])]) .ret) .skip)))))))) (.q [.F 4] .ret))))
def r_ref20_Holds:Ng Tryz.prog 128=some ⟨66,z2a.r,[.tmp 4]⟩:=Aa
def zgh:LC:=(.q [.x 3 0,.x 4 1,.e 6] (.q [.e 7,.e 8,.e 9,.e 10] (.seq (.q [.f 13 3 4,.l 14 13,.b 15 .geq 3 14 0] (.cond (.t 15) (.ops [.m 16 2,.f 17 3 4,.l 18 17,.I 19 1 16 18,.l 20 19,.m 7 20]) .skip)) (.seq (.q [.f 21 4 4,.l 22 21,.b 23 .geq 3 22 0] (.cond (.t 23) (.ops [.m 24 2,.f 25 4 4,.l 26 25,.I 27 1 24 26,.l 28 27,.m 8 28]) .skip)) (.seq (.q [.f 29 5 4,.l 30 29,.b 31 .geq 3 30 0] (.cond (.t 31) (.ops [.m 32 2,.f 33 5 4,.l 34 33,.I 35 1 32 34,.l 36 35,.m 9 36]) .skip)) (.q [.f 37 0 3,.l 38 37,.f 39 1 4,.l 40 39,.I 41 3 38 40,.f 42 0 41,.l 43 42,.m 11 43] (.seq (.q [.f 44 0 4,.l 45 44] (.block 0 (.q [.b 47 .eql 3 45 1,.m 46 47] (.cond (.t 46) (.ops [.f 48 6 4,.l 49 48,.z 50 (.buildSl 1 1 [(.u 0)] [(0,1,.t 49)]),.m 10 50]) (.q [.b 52 .eql 3 45 2,.m 51 52] (.cond (.t 51) (.ops [.m 53 7,.m 10 53]) (.q [.b 55 .eql 3 45 3,.m 54 55] (.cond (.t 54) (.ops [.m 56 7,.m 57 8,.W 58 81 56 57,.m 10 58]) (.q [.b 60 .eql 3 45 4,.m 59 60] (.cond (.t 59) (.q [.m 61 7,.m 62 11,.W 63 176 61 62,.m 64 11,.w 65 177 64,.W 66 81 63 65,.m 12 66] (.ops [.m 68 12,.m 69 8,.m 70 11,.W 71 176 69 70,.W 72 83 68 71,.m 67 72,.X 73 0 67,.X 74 1 67,.m 10 73])) (.seq (.q [.b 76 .eql 3 45 5,.m 75 76] (.cond (.t 75) .skip (.ops [.b 77 .eql 3 45 6,.m 75 77]))) (.cond (.t 75) (.ops [.m 78 7,.m 79 8,.W 80 31 78 79,.m 10 80]) (.q [.b 82 .eql 3 45 7,.m 81 82] (.cond (.t 81) (.q [.m 83 7,.m 84 8,.W 85 66 83 84,.b 86 .lss 3 85 0] (.cond (.t 86) (.ops [.z 87 (.buildSl 1 1 [(.u 0)] [(0,1,.c (.u 1))]),.m 10 87]) .skip)) (.q [.b 89 .eql 3 45 8,.m 88 89] (.cond (.t 88) (.q [.m 90 8,.m 10 90] (.q [.m 91 9,.z 92 (.w 82 [.t 91,.k 0])] (.cond (.t 92) (.ops [.m 93 7,.m 10 93]) .skip))) (.q [.b 95 .eql 3 45 9,.m 94 95] (.cond (.t 94) (.ops [.m 97 7,.m 98 9,.W 99 28 97 98,.m 96 99,.X 100 0 96,.X 101 1 96,.X 102 2 96,.m 10 101]) (.q [.b 104 .eql 3 45 10,.m 103 104] (.cond (.t 103) (.ops [.m 106 7,.m 107 8,.m 108 9,.V 109 178 106 107 108,.m 105 109,.X 110 0 105,.X 111 1 105,.m 10 110]) (.q [.b 113 .eql 3 45 11,.m 112 113] (.cond (.t 112) (.ops [.m 115 7,.m 116 8,.m 117 9,.V 118 152 115 116 117,.m 114 118,.X 119 0 114,.X 120 1 114,.m 10 119]) (.q [.b 122 .eql 3 45 12,.m 121 122] (.cond (.t 121) (.draw [(.m 124 7,[]),(.m 125 8,[]),(.m 127 9,[]),(.f 128 0 3,[]),(.l 129 128,[]),(.f 130 5 4,[]),(.l 131 130,[]),(.I 132 3 129 131,[]),(.f 133 0 132,[]),(.l 134 133,[]),(.W 126 31 124 125,[(.l 134 133,false),(.l 131 130,false),(.l 129 128,false)]),(.V 135 30 126 127 134,[]),(.m 123 135,[]),(.X 136 0 123,[]),(.X 137 1 123,[]),(.m 10 136,[])]) (.q [.b 139 .eql 3 45 13,.m 138 139] (.cond (.t 138) (.ops [.m 141 7,.m 142 8,.m 143 9,.V 144 179 141 142 143,.m 140 144,.X 145 0 140,.X 146 1 140,.m 10 145]) .skip)))))))))))))))))))))))))) (.q [.m 147 10,.m 148 11,.W 149 176 147 148,.m 6 149] .ret))))))))
def r_ref20_Value:Ng Tryz.prog 129=some ⟨150,zgh.r,[.tmp 6]⟩:=Aa
def zll:LC:=(.q [.e 4] (.q [.m 5 0,.m 6 0,.s 7 6,.m 8 1,.z 9 (.maxi true (.k 0) (.t 8)),.z 10 (.maxi false (.t 7) (.t 9)),.z 11 (.slSl 1 (.t 5) none (some (.t 10))),.w 12 84 11,.m 4 12] .ret))
def r_ref02_Low:Ng Tryz.prog 176=some ⟨13,zll.r,[.tmp 4]⟩:=Aa
def zh5{l:List (List UInt64)}{i:Nat}(h:i<l.length):(l.map LU)[i]?=some (LU (l.getD i [])):=by
 simp[Hv,h]
def bw{l:List (List UInt64)}{i:Nat}:(l.map val).getD i 0=val (l.getD i []):=by
 by_cases h:i<l.length
 ·simp[Hv,h]
 ·simp[Hv,h,val]
def zfp{l:List (List UInt64)}{m:Nat}(hi:∀x∈l,x.length≤m)(i:Nat):(l.getD i []).length≤m:=by
 by_cases h:i<l.length
 ·rw[Hv,H6 h];exact hi _ (K8 h)
 ·simp[Hv,h]
def ki(o:Ko):O1 127 [.agg o.f] (.lst (Zb (X4 o)) (X4 o).length 3):=by
 refine R7.mk (by simp[LV.dat,s9]) (Ni r_ref20_Needs Aa N ?_);by_cases G:o.kind=9
 ·simp[rv,Ko.f,G];simp[X4,G,Zb,U1,N9,bor,dats,LV.dat]
 by_cases j:o.kind=10∨o.kind=11
 ·rcases j with k|k
  all_goals
   simp[rv,Ko.f,k];simp[X4,k,Zb,U1,N9,bor,dats,LV.dat]
 by_cases z:o.kind=12
 ·simp[rv,Ko.f,z];simp[X4,z,Zb,U1,N9,bor,dats,LV.dat]
 by_cases A:o.kind=13
 ·simp[rv,Ko.f,A];simp[X4,A,Zb,U1,N9,bor,dats,LV.dat]
 have B:¬o.kind=10:=λh=>j (.inl h)
 have C:¬o.kind=11:=λh=>j (.inr h)
 by_cases g:o.kind=17
 ·by_cases D:o.imm=2
  ·simp[rv,Ko.f,g,D];simp[X4,g,D,Zb,U1,N9,bor,dats,LV.dat]
  by_cases E:o.imm=1
  ·simp[rv,Ko.f,g,E];simp[X4,g,E,Zb,U1,N9,bor,dats,LV.dat]
  by_cases F:o.imm=3
  ·simp[rv,Ko.f,g,F];simp[X4,g,F,Zb,U1,N9,bor,dats,LV.dat]
  by_cases H:1≤o.imm
  ·have I:¬o.imm≤3:=λh=>by
    rw[Jc]at H h;have K:o.imm.toNat≠1:=λe=>E (I3.1 e)
    have L:o.imm.toNat≠2:=λe=>D (I3.1 e)
    have M:o.imm.toNat≠3:=λe=>F (I3.1 e)
    have O:(1:UInt64).toNat=1:=rfl;have P:(3:UInt64).toNat=3:=rfl;omega
   simp[rv,Ko.f,g,E,D,F,H,I,X4,Zb,N9,bor]
  ·simp[rv,Ko.f,g,E,D,F,H,X4,Zb,N9,bor]
 ·simp[rv,Ko.f,G,B,C,z,A,g,X4,Zb,N9,bor]
def ii(f:Fc)(A:List (List UInt64))(hv:∀x∈A,x.length≤1000):Nl 128 [.agg (U1 f),LN A] (.bool (Ya f (A.map val))) []:=by
 refine Of.val rfl (Ni r_ref20_Holds Aa N ?_);obtain⟨k,a,b⟩:=f;have Z:(A.map val).length=A.length:=N
 by_cases I:0≤a∧a<A.length
 case neg =>
  have j:Rz A.length a=false:=by
   rw[Bool.eq_false_iff];intro h;exact I (lf.1 h)
  by_cases R:a<0
  ·simp[z2a,U1,LN,R,Ya,j]
  ·have a1:(A.length:Int)≤a:=J
   simp[z2a,U1,LN,R,a1,Ya,j]
 obtain⟨n,rfl⟩:=Hz I.1;have C:n<A.length:=J
 have z:¬A.length≤n:=J
 have B:¬(n:Int)<0:=J
 have j:Rz A.length (n:Int)=true:=lf.2 I;have qa:=zh5 C;have K:=zfp hv n;have G:gN (A.map val) n=val (A.getD n []):=by rw[gN_at J];exact bw
 obtain⟨x,T⟩:∃x,A.getD n []=x:=⟨_,rfl⟩;have D:A[n]=x:=by rw[←T];simp[C]
 rw[T]at qa K G;by_cases U:k=1
 ·simp[z2a,U1,LN,U,C,z,B];refine Nt (zc7 x 0 J) At ?_;simp[Ya,j,G,Nat.testBit_zero]
 by_cases V:k=3
 ·simp[z2a,U1,LN,V,C,z,B];refine Nt (nq x J) At ?_;have E:0<(O4 (val x)).length↔0<val x:=by
   by_cases h:val x=0
   ·rw[h,toL_zero];simp
   ·rw[zgx h];simp;omega
  simp[RU,Ya,j,G];exact E
 by_cases H:k=2
 ·by_cases L:0≤b∧b<A.length
  ·obtain⟨m,rfl⟩:=Hz L.1;have hm:m<A.length:=J
   have M:¬A.length≤m:=J
   have O:¬(m:Int)<0:=J
   have g:Rz A.length (m:Int)=true:=lf.2 L;have P:=zfp hv m;have F:gN (A.map val) m=val (A.getD m []):=by rw[gN_at J];exact bw
   obtain⟨y,X⟩:∃y,A.getD m []=y:=⟨_,rfl⟩;have Q:A[m]=y:=by rw[←X];simp[hm]
   rw[X]at P F;simp[z2a,U1,LN,H,C,z,B,hm,M,O];refine Nt (z2p x y J J) (by simp[D,Q]) ?_;simp[Ya,j,g,G,F,zoe]
  ·have g:Rz A.length b=false:=by
    rw[Bool.eq_false_iff];intro h;exact L (lf.1 h)
   by_cases Y:b<0
   ·simp[z2a,U1,LN,H,C,z,B,Y,Ya,g]
   ·have b1:(A.length:Int)≤b:=J
    simp[z2a,U1,LN,H,C,z,B,Y,b1,Ya,g]
 ·simp[z2a,U1,LN,U,H,V,C,z,Ya]
def zpr(a:List UInt64)(m:Nat)(h:m≤a.length):val (a.take m)=val a%2^(64*m):=by
 have e:=val_append (a.take m) (a.drop m);rw[Me,J4,J8 h]at e;have g:=val_lt (a.take m);rw[J4,J8 h]at g;rw[e,Nat.add_mul_mod_self_left,Iv g]
def np(a:List UInt64)(n:Int):val (a.take (min (max 0 n) (a.length:Int)).toNat)=val a%zon n:=by
 by_cases h:(a.length:Int)≤n
 ·rw[(J:(min (max 0 n) (a.length:Int)).toNat=a.length),K7,zon,Iv];exact I0 (val_lt a) (Kj Ac J)
 ·rw[(J:(min (max 0 n) (a.length:Int)).toNat=n.toNat)];exact zpr a _ J
def sLow_ok(a:List UInt64)(n:Int)(j:a.length≤1000000):Nl 176 [LU a,.i n] (.dy 0 0) [RU (O4 (val a%zon n))]:=by
 refine Of.row (Ni r_ref02_Low Aa N ?_);simp[zll];refine⟨J,J,?_⟩;rw[←np a n];obtain⟨m,hm⟩:∃m,(min (a.length:Int) (max 0 n)).toNat=m:=⟨_,rfl⟩;have g:(min (max 0 n) (a.length:Int)).toNat=m:=by rw[Int.min_comm];exact hm
 have z:m≤a.length:=J
 have e:(a.take m).length=m:=Ab
 try simp only[hm,g]
 refine zf9 (nq (a.take m) J) (by simp[hm,g,e]) ?_;simp;exact .inr ⟨0,0,0,rfl,rfl⟩
def zfm:LC:=(.q [.x 4 1,.e 6,.e 7,.F 8] (.q [.m 13 0,.s 14 13,.z 15 (.mkSl 1 [.nilSl] (.t 14) (.t 14)),.m 9 15] (.seq (.q [.K 10 0] (.block 0 (.loop (.seq (.q [.m 16 10,.m 17 0,.s 18 17,.c 19 .lss 3 16 18] (.cond (.t 19) .skip (.exit 0))) (.seq (.block 1 (.ops [.m 22 9,.m 23 10,.m 24 2,.m 25 10,.I 26 1 24 25,.l 27 26,.I 28 1 22 23,.S 1 28 27])) (.ops [.m 20 10,.b 21 .add 3 20 1,.m 10 21])))))) (.q [.L 29 7 4,.w 30 127 29,.m 11 30] (.seq (.q [.K 12 0] (.block 2 (.loop (.seq (.q [.m 31 12,.m 32 11,.s 33 32,.c 34 .lss 3 31 33] (.cond (.t 34) .skip (.exit 2))) (.seq (.block 3 (.q [.m 37 11,.m 38 12,.I 39 3 37 38,.L 40 3 39,.m 41 9,.W 42 128 40 41,.z 43 (.un .not (.t 42))] (.cond (.t 43) (.q [.e 6,.e 7,.F 8] .ret) .skip))) (.ops [.m 35 12,.b 36 .add 3 35 1,.m 12 36])))))) (.seq (.q [.f 44 0 4,.l 45 44,.b 46 .eql 3 45 14] (.cond (.t 46) (.seq (.q [.m 47 9,.f 48 5 4,.l 49 48,.I 50 1 47 49,.l 51 50,.z 52 (.w 82 [.t 51,.k 0])] (.cond (.t 52) (.seq (.draw [(.m 53 9,[]),(.f 54 2 4,[]),(.l 55 54,[]),(.I 56 1 53 55,[]),(.l 57 56,[]),(.m 58 9,[]),(.f 59 1 4,[]),(.l 60 59,[]),(.I 61 1 58 60,[]),(.l 62 61,[]),(.m 6 57,[]),(.m 7 62,[]),(.z 8 (.move .T),[])]) .ret) .skip)) (.seq (.draw [(.m 63 9,[]),(.f 64 1 4,[]),(.l 65 64,[]),(.I 66 1 63 65,[]),(.l 67 66,[]),(.m 68 9,[]),(.f 69 2 4,[]),(.l 70 69,[]),(.I 71 1 68 70,[]),(.l 72 71,[]),(.m 6 67,[]),(.m 7 72,[]),(.z 8 (.move .T),[])]) .ret)) .skip)) (.q [.m 73 0,.z 74 (.build [.nilSl,.nilSl,.nilSl] [(0,1,.t 73)]),.L 75 7 4,.m 76 9,.V 77 129 74 75 76,.m 6 77,.e 7,.z 8 (.move .T)] .ret)))))))
def r_law24_meant:Ng Tryz.prog 117=some ⟨78,zfm.r,[.tmp 6,.tmp 7,.tmp 8]⟩:=Aa
def zzi{o:Ko}{d a b c:Nat}(h:PwV vP o d a b c)(Y:uZ.length=vP.length)(A:∀x∈uZ,x.length≤1000) :
  Nl 129 [.agg [.lst (N0 vP) vP.length 3,.lst [] 0 7,.lst [] 0 7],.agg o.f,LN uZ] (.dy 0 0) [RU (O4 (val (mR (val (uZ.getD o.c.toNat [])) (val (uZ.getD o.a.toNat [])^val (uZ.getD o.b.toNat [])%val (uZ.getD o.c.toNat [])))%zon (Qd vP o.d)))]:=by
 have M:=h.hk;obtain⟨F,B⟩:=h.fd;obtain⟨G,Z⟩:=h.fa;obtain⟨H,lb⟩:=h.fb;obtain⟨I,lc⟩:=h.fc;have O:=zh5 (l:=uZ) (i:=a) J;have P:=zh5 (l:=uZ) (i:=b) J;have Q:=zh5 (l:=uZ) (i:=c) J;have na:=zfp A a;have nb:=zfp A b;have nc:=zfp A c;have R:=sn (Tw B);have C:Qd vP o.d=(gv vP d).limbs:=by rw[Qd,F];rfl
 refine Of.row (Ni r_ref20_Value Aa N ?_);rw[C,G,H,I];simp only[In];have g:a<uZ.length:=J
 have j:b<uZ.length:=J
 have z:c<uZ.length:=J
 have T:uZ[a]=uZ.getD a []:=by simp[Hv,g]
 have U:uZ[b]=uZ.getD b []:=by simp[Hv,j]
 have V:uZ[c]=uZ.getD c []:=by simp[Hv,z]
 generalize uZ.getD a []=K at *;generalize uZ.getD b []=L at *;generalize uZ.getD c []=E at *;have X:=rh B;simp[zgh,Ko.f,LN,M,F,G,H,I,B,g,j,z,Nb O,Nb P,Nb Q,Nb R,T,U,V];refine Rm (zsx K L E J J J) (by simp[dats,LV.dat,mj]) ?_;have D:(mR (val E) (val K^val L%val E)).length≤1000000:=by
  unfold mR;split
  ·simp
  ·have:=zdo (J1 (val K^val L) (J:0<val E));omega
 simp;refine zf9 (sLow_ok (mR (val E) (val K^val L%val E)) (gv vP d).limbs D) N ?_;simp[RU];exact .inr ⟨_,0,0,rfl,N⟩
def mtP(vs:List Vr)(o:Ko)(X:List (List UInt64)):List UInt64 :=
 if V3 o ((X.take vs.length).map val)=true then O4 (val (mR (val (X.getD o.c.toNat [])) (val (X.getD o.a.toNat [])^val (X.getD o.b.toNat [])%val (X.getD o.c.toNat [])))%zon (Qd vs o.d)) else []
def zmo{vs:List Vr}{o:Ko}{X:List (List UInt64)}{d a b c:Nat}(h:PwV vs o d a b c)(hX:vs.length≤X.length)(hl:∀x∈X,x.length≤1000) :
  O1 117 [.lst (N0 vs) vs.length 3,.agg o.f,LN X] (.tup [LU (mtP vs o X),LU [],.bool (V3 o ((X.take vs.length).map val))]):=by
 refine R7.mk Fp (Ni r_law24_meant Aa (by simp) ?_);have hk:=h.hk;have gG:vs.length≤256:=(zgj h.hv).2;have P:o.f=[.i o.kind,.i o.d,.i o.e,.i o.a,.i o.b,.i o.c,.u o.imm]:=rfl;have B:(X.take vs.length).length=vs.length:=Ab
 have I:∀x∈X.take vs.length,x.length≤1000:=λx G=>hl x (Mj G)
 have C:∀i,i<vs.length→(X.take vs.length).getD i []=X.getD i []:=λi hi=>by
  rw[Hv,Ju hi,←Hv]
 obtain⟨z,R⟩:∃z,X.take vs.length=z:=⟨_,rfl⟩;have T:mtP vs o X=if V3 o (z.map val)=true then O4 (val (mR (val (z.getD o.c.toNat [])) (val (z.getD o.a.toNat [])^val (z.getD o.b.toNat [])%val (z.getD o.c.toNat [])))%zon (Qd vs o.d)) else []:=by
  obtain⟨ea,la⟩:=h.fa;obtain⟨eb,lb⟩:=h.fb;obtain⟨ec,lc⟩:=h.fc;rw[mtP,R,ea,eb,ec,←R];simp only[In];rw[C _ la,C _ lb,C _ lc]
 rw[R,T];obtain⟨gK,hR⟩:∃gK,O4 (val (mR (val (z.getD o.c.toNat [])) (val (z.getD o.a.toNat [])^val (z.getD o.b.toNat [])%val (z.getD o.c.toNat [])))%zon (Qd vs o.d))=gK:=⟨_,rfl⟩;rw[hR];clear T;rw[R]at B I;simp[zfm];refine⟨J,?_⟩;refine O5 (λQ gF gg N=>∃(i st:Nat) (gE:List LV),gF=[]∧N+i=vs.length∧lk Q 0=.lst (N0 vs) vs.length 3∧lk Q 2=LN X∧lk Q 4=.ptr 0 0∧lk Q 9=.dy 1 0∧lk Q 10=.i i∧gg[0]?=some (.cells o.f 0)∧gg[1]?=some (.dyn gE vs.length 1 0 st)∧gE.length=vs.length∧∀U,U<i→gE[U]?=some (LU (X.getD U []))) (N:=vs.length)
  ⟨0,0,Pl [.nilSl] vs.length,rfl,J,by simp,by simp[LN],by simp,by simp,by simp,by simp,by simp,by simp[z5x],λU h=>J⟩ ?_
 rintro N Q gF gg ⟨i,st,gE,rfl,hN,D,h2,E,H,K,j,g,hC,L⟩ Nx F;have l1:=(Hu.1 g).1;by_cases Z:i<vs.length
 ·have gX:i<X.length:=J
  have q:=zh5 gX;simp[D,h2,E,H,K,Z,gX,LN,Nb q,g,hC];refine⟨J,J,F _ _ _ ⟨N-1,J,i+1,st+1,gE.set i (LU (X.getD i [])),rfl,J,At,by simp[h2,LN],Ak,Ba,by simp,?_,?_,by simp[hC],λU hj=>?_⟩⟩
  ·rw[Hw J];exact j
  ·rw[H0 l1,I5,H7 J];simp[Oq,Hv,gX]
  ·by_cases e:U=i
   ·subst e;rw[H0 J]
   ·rw[Hw J];exact L U J
 have gi:i=vs.length:=J
 subst gi;have gz:gE=z.map LU:=by
  refine Ma λU=>?_
  by_cases hj:U<vs.length
  ·rw[L U hj,zh5 J,←R,C U hj]
  ·rw[Ke J,Ke (by rw[List.length_map];omega)]
 subst gz;clear L;simp[D,E,K,j,P];rw[←P];refine Rm (ki o) (by simp[P,dats,LV.dat]) ?_;obtain⟨A,hL⟩:∃A,X4 o=A:=⟨_,rfl⟩;have gH:A.length≤3:=by rw[←hL];simp[X4,hk]
 have hM:V3 o (z.map val)=A.all λf=>Ya f (z.map val):=by rw[V3,hL]
 rw[hM,hL];simp;refine O5 (λQ gF gg N=>∃(i:Nat),gF=[]∧N+i=A.length∧lk Q 0=.lst (N0 vs) vs.length 3∧lk Q 4=.ptr 0 0∧lk Q 9=.dy 1 0∧lk Q 11=.lst (Zb A) A.length 3∧lk Q 12=.i i∧gg[0]?=some (.cells o.f 0)∧gg[1]?=some (.dyn (z.map LU) vs.length 1 0 st)∧∀f∈A.take i,Ya f (z.map val)=true) (N:=A.length)
  ⟨0,rfl,J,At,Ak,Ba,by simp,by simp,j,g,by simp⟩ ?_
 clear D h2 E H K j g F l1 Z;rintro N2 Q gF gg ⟨i,rfl,gI,D,E,H,M,O,j,g,hh⟩ Nx F;by_cases Z:i<A.length
 ·have hg:=H6 Z;have q:=zcz (f:=U1) (k:=3) (λ_=>rfl) hg;have ql:=zty (f:=U1) (k:=3) (λ_=>rfl) Z;have V:A[i]∈A:=K8 Z;have gA:A.take (i+1)=A.take i++[A[i]]:=Jg Z;generalize A[i]=f at *;have q':((Zb A).drop (i*3)).take 3=U1 f:=q;have gC:i*3+3≤(Zb A).length:=ql;simp[D,E,H,M,O,Z,q',gC];refine Nt (ii f z I) ⟨_,_,rfl,⟨_,rfl,bors_self _ (by simp[U1,dats,LV.dat])⟩,_,_,rfl,⟨_,_,_,_,by rw[LN,B],g,xa (λa=>we a) z⟩,rfl⟩ ?_;cases hb:Ya f (z.map val) with
  |false =>
   have:(A.all λf=>Ya f (z.map val))=false:=by
    rw[Bool.eq_false_iff];intro h;have:=Jv.1 h f V;rw[hb]at this;cases this
   simp[this];exact⟨_,_,⟨rfl,rfl⟩,.inr ⟨1,rfl⟩,_,rfl,.inr ⟨1,rfl⟩⟩
  |true =>
   simp[O];refine⟨J,F _ _ _ ⟨N2-1,J,i+1,rfl,J,At,Ak,Ba,A9,by simp,j,g,λx G=>?_⟩⟩;rw[gA]at G;rcases Ir.1 G with G|G
   ·exact hh x G
   ·rw[M1.1 G];exact hb
 have Y:(A.all λf=>Ya f (z.map val))=true:=by
  rw[Im J]at hh;exact Jv.2 hh
 rw[Y,H7 rfl];have hS:=zzi h B I;rw[hR]at hS;have gD:[LV.i 13,.i o.d,.i o.e,.i o.a,.i o.b,.i o.c,.u o.imm]=o.f:=by rw[P,hk]
 simp[D,E,H,M,O,Z,j,P,hk];rw[gD];refine Nt hS ⟨_,_,rfl,⟨_,rfl,⟨_,_,rfl,?_,_,_,rfl,.inr ⟨_,rfl⟩,_,_,rfl,.inr ⟨_,rfl⟩,rfl⟩⟩,_,_,rfl,⟨_,rfl,bors_self _ (by simp[P,dats,LV.dat])⟩,_,_,rfl,⟨_,_,_,_,by rw[LN,B],g,xa (λa=>we a) z⟩,rfl⟩ ?_
 ·simp[bor,Rg]
 ·simp[RU];exact⟨_,_,⟨rfl,rfl⟩,rfl,_,rfl,.inr ⟨1,rfl⟩⟩
def zc4:LC:=(.q [.F 2] (.q [.K 3 0] (.seq (.q [.K 4 0] (.block 0 (.loop (.seq (.q [.m 6 4,.m 7 0,.s 8 7,.c 9 .lss 3 6 8] (.cond (.t 9) .skip (.exit 0))) (.seq (.block 1 (.q [.m 12 0,.m 13 4,.I 14 3 12 13,.L 15 3 14,.z 5 (.alloc [(.i 0),(.bool false),(.i 0)]),.S 3 5 15] (.seq (.q [.f 16 0 5,.l 17 16,.b 18 .lss 3 17 1,.m 19 18,.nf 20 19 0 5,.nl 21 19 20,.nb 22 19 .gtr 3 21 512,.p 23 19 22,.m 24 23,.nf 25 24 2 5,.nl 26 24 25,.nb 27 24 .lss 3 26 0,.p 28 24 27,.m 29 28,.nf 30 29 2 5,.nl 31 29 30,.nb 32 29 .gtr 3 31 3,.p 33 29 32,.m 34 33,.nf 35 34 2 5,.nl 36 34 35,.nb 37 34 .gtr 3 36 0,.mn 38 34 37,.my 39 38 3,.my 40 38 4,.y 41 38 (.bin .lss false 3 (.t 39) (.t 40)),.n 42 34 (.pick (.t 38) (.t 41) .F),.p 43 34 42,.m 44 43,.nf 45 44 2 5,.nl 46 44 45,.nb 47 44 .eql 3 46 1,.mn 48 44 47,.yf 49 48 1 5,.yl 50 48 49,.n 51 44 (.pick (.t 48) (.t 50) .F),.p 52 44 51,.m 53 52,.nf 54 53 2 5,.nl 55 53 54,.nb 56 53 .gtr 3 55 1,.mn 57 53 56,.yf 58 57 1 5,.yl 59 57 58,.y 60 57 (.un .not (.t 59)),.n 61 53 (.pick (.t 57) (.t 60) .F),.p 62 53 61] (.cond (.t 62) (.q [.F 2] .ret) .skip)) (.q [.f 63 2 5,.l 64 63,.b 65 .gtr 3 64 0] (.cond (.t 65) (.ops [.m 66 3,.b 67 .add 3 66 1,.m 3 67]) .skip))))) (.ops [.m 10 4,.b 11 .add 3 10 1,.m 4 11])))))) (.q [.m 68 0,.s 69 68,.b 70 .geq 3 69 1,.m 71 70,.my 72 71 0,.y 73 71 (.lenSl (.t 72)),.y 74 71 (.bin .leq true 3 (.t 73) (.k 256)),.q 75 71 74,.m 76 75,.my 77 76 3,.y 78 76 (.bin .leq true 3 (.t 77) (.k 12)),.q 79 76 78,.m 2 79] .ret))))
def r_ref22_varsMay:Ng Tryz.prog 56=some ⟨80,zc4.r,[.tmp 2]⟩:=Aa
def z6h:LC:=(.q [.x 3 1,.F 4] (.q [.f 5 1 3,.l 6 5,.b 7 .geq 3 6 0,.m 8 7,.yf 9 8 1 3,.yl 10 8 9,.my 11 8 0,.y 12 8 (.lenSl (.t 11)),.y 13 8 (.bin .lss false 3 (.t 10) (.t 12)),.q 14 8 13,.m 15 14,.my 16 15 0,.yf 17 15 1 3,.yl 18 15 17,.y 19 15 (.ixAddr 3 (.t 16) (.t 18)),.yf 20 15 1 19,.yl 21 15 20,.y 22 15 (.un .not (.t 21)),.q 23 15 22,.m 4 23] .ret))
def r_ref22_Public:Ng Tryz.prog 61=some ⟨24,z6h.r,[.tmp 4]⟩:=Aa
def zif(g:List Vr)(hl:g.length≤9223372036854775807):Nl 56 [.lst (N0 g) g.length 3] (.bool (Rb g)) []:=by
 refine Of.val rfl (Ni r_ref22_varsMay Aa (by simp) ?_);simp[zc4];refine O5 (λY gg gz N=>∃i p:Nat,gg=[]∧N+i=g.length∧p≤i∧lk Y 0=.lst (N0 g) g.length 3∧lk Y 3=.i p∧lk Y 4=.i i∧R9 i p (g.drop i)=R9 0 0 g) (N:=g.length) ⟨0,0,by simp⟩ ?_;rintro N Y gg gz ⟨i,p,rfl,hN,Z,A,D,F,hv⟩ Nx T;by_cases R:i<g.length
 ·have hg:=Tw R;have K:=zdg hg;have L:=rh R;rw[zox R]at hv;have M:(gv g i).f=[.i (gv g i).limbs,.bool (gv g i).sec,.i (gv g i).mode]:=rfl;generalize gv g i=v at *;have C:R9 i p (v::g.drop (i+1))=none→Rb g=false:=λh=>by rw[h]at hv;simp[Rb,←hv]
  by_cases j:v.limbs<1
  ·simp[A,D,F,R,K,L,M,j];exact C (by simp[R9,Vu,j])
  by_cases z:512<v.limbs
  ·simp[A,D,F,R,K,L,M,j,z];exact C (by simp[R9,Vu,j,z])
  by_cases B:v.mode<0
  ·simp[A,D,F,R,K,L,M,j,z,B];exact C (by simp[R9,Vu,j,z,B])
  by_cases E:3<v.mode
  ·simp[A,D,F,R,K,L,M,j,z,B,E];exact C (by simp[R9,Vu,j,z,B,E])
  by_cases G:v.mode=0
  ·simp[A,D,F,R,K,L,M,j,z,B,E,G];refine⟨J,T _ _ _ ⟨N-1,J,i+1,p,rfl,J,J,As,At,by simp,?_⟩⟩;rw[←hv];simp[R9,Vu,j,z,B,E,G]
  have H:0<v.mode:=J
  by_cases O:p<i
  ·simp[A,D,F,R,K,L,M,j,z,B,E,G,H,O];exact C (by simp[R9,Vu,j,z,B,E,G,O])
  by_cases Q:v.mode=1
  ·have I:¬1<v.mode:=J
   cases P:v.sec with
   |true =>
    simp[A,D,F,R,K,L,M,j,z,B,E,G,H,O,Q,I,P];exact C (by simp[R9,Vu,j,z,B,E,G,O,P,Q])
   |false =>
    simp[A,D,F,R,K,L,M,j,z,B,E,G,H,O,Q,I,P];refine⟨J,J,T _ _ _ ⟨N-1,J,i+1,p+1,rfl,J,J,As,by simp,by simp,?_⟩⟩;rw[←hv];simp[R9,Vu,j,z,B,E,G,O,P,Q]
  ·have I:1<v.mode:=J
   cases P:v.sec with
   |false =>
    simp[A,D,F,R,K,L,M,j,z,B,E,G,H,O,Q,I,P];exact C (by simp[R9,Vu,j,z,B,E,G,O,P,Q])
   |true =>
    simp[A,D,F,R,K,L,M,j,z,B,E,G,H,O,Q,I,P];refine⟨J,J,T _ _ _ ⟨N-1,J,i+1,p+1,rfl,J,J,As,by simp,by simp,?_⟩⟩;rw[←hv];simp[R9,Vu,j,z,B,E,G,O,P,Q]
 ·have ei:i=g.length:=J
  rw[J0 J]at hv;have U:R9 0 0 g=some p:=by rw[←hv];rfl
  by_cases V:1≤g.length
  ·by_cases X:g.length≤256
   ·simp[A,D,F,R,Rb,U,V,X];omega
   ·simp[A,D,F,R,Rb,U,V,X];omega
  ·simp[A,D,F,R,Rb,U,V];omega
def zcf(vs:List Vr)(o:Ko):Nl 61 [.lst (N0 vs) vs.length 3,.agg o.f] (.bool (Sc vs o.d)) []:=by
 refine Of.val rfl (Ni r_ref22_Public Aa N ?_);by_cases j:0≤o.d
 case neg=>simp[z6h,Ko.f,Sc,j]
 by_cases z:o.d<vs.length
 case neg=>simp[z6h,Ko.f,Sc,j,z]
 obtain⟨n,A⟩:=Hz j;have g:n<vs.length:=J
 have B:=zkw (Tw g);have C:=rh g;simp[z6h,Ko.f,Sc,A,g,Nb B]
def Z7:LC:=(.q [.x 3 1,.F 4] (.q [.m 6 0,.s 7 6,.m 5 7] (.seq (.q [.f 8 1 3,.l 9 8,.b 10 .neq 3 9 (-1),.m 11 10,.nf 12 11 2 3,.nl 13 11 12,.nb 14 11 .neq 3 13 (-1),.p 15 11 14,.m 16 15,.nf 17 16 5 3,.nl 18 16 17,.nb 19 16 .neq 3 18 (-1),.p 20 16 19,.m 21 20,.nf 22 21 3 3,.nl 23 21 22,.nb 24 21 .lss 3 23 0,.p 25 21 24,.m 26 25,.nf 27 26 3 3,.nl 28 26 27,.mn 29 26 5,.n 30 26 (.bin .geq false 3 (.t 28) (.t 29)),.p 31 26 30,.m 32 31,.nf 33 32 6 3,.nl 34 32 33,.n 35 32 (.bin .lss true 23 (.t 34) (.c (.u 1))),.p 36 32 35,.m 37 36,.nf 38 37 6 3,.nl 39 37 38,.n 40 37 (.bin .gtr true 23 (.t 39) (.c (.u 3))),.p 41 37 40] (.cond (.t 41) (.q [.F 4] .ret) .skip)) (.seq (.q [.f 42 6 3,.l 43 42,.u 44 .eql 23 43 2] (.cond (.t 44) (.q [.f 45 4 3,.l 46 45,.b 47 .geq 3 46 0,.m 48 47,.yf 49 48 4 3,.yl 50 48 49,.my 51 48 5,.y 52 48 (.bin .lss false 3 (.t 50) (.t 51)),.q 53 48 52,.m 4 53] .ret) .skip)) (.q [.f 54 4 3,.l 55 54,.b 56 .eql 3 55 (-1),.m 4 56] .ret)))))
def r_ref19_need:Ng Tryz.prog 120=some ⟨57,Z7.r,[.tmp 4]⟩:=Aa
def Wp:LC:=(.q [.K 2 0] (.seq (.q [.m 3 0] (.block 0 (.q [.b 5 .eql 3 3 1,.m 4 5] (.cond (.t 4) (.q [.K 2 1] .ret) (.q [.b 7 .eql 3 3 2,.m 6 7] (.cond (.t 6) (.q [.K 2 5] .ret) (.seq (.q [.b 9 .eql 3 3 3,.m 8 9] (.cond (.t 8) .skip (.q [.b 10 .eql 3 3 4,.m 8 10] (.cond (.t 8) .skip (.q [.b 11 .eql 3 3 5,.m 8 11] (.cond (.t 8) .skip (.q [.b 12 .eql 3 3 6,.m 8 12] (.cond (.t 8) .skip (.ops [.b 13 .eql 3 3 7,.m 8 13]))))))))) (.cond (.t 8) (.q [.K 2 13] .ret) (.seq (.q [.b 15 .eql 3 3 8,.m 14 15] (.cond (.t 14) .skip (.q [.b 16 .eql 3 3 10,.m 14 16] (.cond (.t 14) .skip (.q [.b 17 .eql 3 3 11,.m 14 17] (.cond (.t 14) .skip (.q [.b 18 .eql 3 3 12,.m 14 18] (.cond (.t 14) .skip (.ops [.b 19 .eql 3 3 13,.m 14 19]))))))))) (.cond (.t 14) (.q [.K 2 29] .ret) (.q [.b 21 .eql 3 3 9,.m 20 21] (.cond (.t 20) (.q [.K 2 21] .ret) (.q [.b 23 .eql 3 3 14,.m 22 23] (.cond (.t 22) (.q [.K 2 19] .ret) (.seq (.q [.b 25 .eql 3 3 15,.m 24 25] (.cond (.t 24) .skip (.ops [.b 26 .eql 3 3 16,.m 24 26]))) (.cond (.t 24) (.q [.K 2 0] .ret) .skip)))))))))))))))) (.q [.K 2 (-1)] .ret)))
def r_ref19_shape:Ng Tryz.prog 121=some ⟨27,Wp.r,[.tmp 2]⟩:=Aa
def ze3:LC:=(.q [.x 1 0,.z 2 (.alloc [(.i 0),(.i 0),(.i 0),(.i 0),(.i 0)])] (.q [.f 3 1 1,.l 4 3,.f 5 2 1,.l 6 5,.f 7 3 1,.l 8 7,.f 9 4 1,.l 10 9,.f 11 5 1,.l 12 11,.z 13 (.build [(.i 0),(.i 0),(.i 0),(.i 0),(.i 0)] [(0,1,.t 4),(1,1,.t 6),(2,1,.t 8),(3,1,.t 10),(4,1,.t 12)]),.S 5 2 13] .ret))
def r_ref19_fields:Ng Tryz.prog 122=some ⟨14,ze3.r,[.cellN 2 5]⟩:=Aa
def z4n:LC:=(.q [.x 1 0,.F 2] (.seq (.q [.f 3 0 1,.l 4 3] (.block 0 (.q [.b 6 .eql 3 4 1,.m 5 6] (.cond (.t 5) (.q [.z 2 (.move .T)] .ret) (.q [.b 8 .eql 3 4 13,.m 7 8] (.cond (.t 7) (.q [.f 9 6 1,.l 10 9,.u 11 .geq 23 10 1,.m 12 11,.yf 13 12 6 1,.yl 14 12 13,.y 15 12 (.bin .leq true 23 (.t 14) (.c (.u 6))),.q 16 12 15,.m 2 16] .ret) (.q [.b 18 .eql 3 4 15,.m 17 18] (.cond (.t 17) (.q [.f 19 6 1,.l 20 19,.u 21 .geq 23 20 1,.m 22 21,.yf 23 22 6 1,.yl 24 22 23,.y 25 22 (.bin .leq true 23 (.t 24) (.c (.u 4096))),.q 26 22 25,.m 2 26] .ret) .skip)))))))) (.q [.f 27 6 1,.l 28 27,.u 29 .eql 23 28 0,.m 2 29] .ret)))
def r_ref19_number:Ng Tryz.prog 123=some ⟨30,z4n.r,[.tmp 2]⟩:=Aa
def xd:LC:=(.q [.x 1 0,.e 2] (.seq (.q [.f 3 0 1,.l 4 3] (.block 0 (.q [.b 6 .eql 3 4 6,.m 5 6] (.cond (.t 5) (.q [.f 7 3 1,.l 8 7,.f 9 4 1,.l 10 9,.z 11 (.buildSl 1 2 [(.i 0),(.i 0)] [(0,1,.t 8),(1,1,.t 10)]),.m 2 11] .ret) (.q [.b 13 .eql 3 4 14,.m 12 13] (.cond (.t 12) (.q [.f 14 1 1,.l 15 14,.f 16 2 1,.l 17 16,.z 18 (.buildSl 1 2 [(.i 0),(.i 0)] [(0,1,.t 15),(1,1,.t 17)]),.m 2 18] .ret) (.q [.b 20 .eql 3 4 8,.m 19 20] (.cond (.t 19) (.q [.f 21 1 1,.l 22 21,.f 23 3 1,.l 24 23,.f 25 4 1,.l 26 25,.z 27 (.buildSl 1 3 [(.i 0),(.i 0),(.i 0)] [(0,1,.t 22),(1,1,.t 24),(2,1,.t 26)]),.m 2 27] .ret) (.q [.b 29 .eql 3 4 9,.m 28 29] (.cond (.t 28) (.q [.f 30 1 1,.l 31 30,.f 32 5 1,.l 33 32,.z 34 (.buildSl 1 2 [(.i 0),(.i 0)] [(0,1,.t 31),(1,1,.t 33)]),.m 2 34] .ret) (.seq (.q [.b 36 .eql 3 4 10,.m 35 36] (.cond (.t 35) .skip (.q [.b 37 .eql 3 4 11,.m 35 37] (.cond (.t 35) .skip (.ops [.b 38 .eql 3 4 12,.m 35 38]))))) (.cond (.t 35) (.q [.f 39 1 1,.l 40 39,.f 41 3 1,.l 42 41,.f 43 4 1,.l 44 43,.f 45 5 1,.l 46 45,.z 47 (.buildSl 1 4 [(.i 0),(.i 0),(.i 0),(.i 0)] [(0,1,.t 40),(1,1,.t 42),(2,1,.t 44),(3,1,.t 46)]),.m 2 47] .ret) (.q [.b 49 .eql 3 4 13,.m 48 49] (.cond (.t 48) (.q [.f 50 1 1,.l 51 50,.f 52 3 1,.l 53 52,.f 54 5 1,.l 55 54,.z 56 (.buildSl 1 3 [(.i 0),(.i 0),(.i 0)] [(0,1,.t 51),(1,1,.t 53),(2,1,.t 55)]),.m 2 56] .ret) .skip)))))))))))))) (.q [.e 2] .ret)))
def r_ref19_alike:Ng Tryz.prog 173=some ⟨57,xd.r,[.tmp 2]⟩:=Aa
def zfu:LC:=(.q [.x 3 1,.F 4] (.q [.L 7 7 3,.w 8 173 7,.m 5 8] (.seq (.q [.K 6 1] (.block 0 (.loop (.seq (.q [.m 9 6,.m 10 5,.s 11 10,.c 12 .lss 3 9 11] (.cond (.t 12) .skip (.exit 0))) (.seq (.block 1 (.seq (.draw [(.m 15 0,[]),(.m 16 5,[]),(.m 17 6,[]),(.I 18 1 16 17,[]),(.l 19 18,[]),(.I 20 3 15 19,[]),(.f 21 0 20,[]),(.l 22 21,[]),(.m 23 0,[]),(.m 24 5,[]),(.z 25 (.ixAddr 1 (.t 24) (.k 0)),[]),(.l 26 25,[]),(.I 27 3 23 26,[]),(.f 28 0 27,[]),(.l 29 28,[]),(.c 30 .neq 3 22 29,[])]) (.cond (.t 30) (.q [.F 4] .ret) .skip))) (.ops [.m 13 6,.b 14 .add 3 13 1,.m 6 14])))))) (.q [.z 4 (.move .T)] .ret))))
def r_ref19_agree:Ng Tryz.prog 124=some ⟨31,zfu.r,[.tmp 4]⟩:=Aa
def zf3:LC:=(.q [.x 3 1,.F 4] (.seq (.q [.f 11 0 3,.l 12 11,.b 13 .eql 3 12 17] (.cond (.t 13) (.q [.m 14 0,.L 15 7 3,.W 16 120 14 15,.m 4 16] .ret) .skip)) (.seq (.draw [(.f 17 0 3,[]),(.l 18 17,[]),(.L 20 7 3,[]),(.z 6 (.alloc [(.i 0),(.i 0),(.i 0),(.i 0),(.i 0)]),[(.L 20 7 3,false),(.l 18 17,false)]),(.w 19 121 18,[(.z 6 (.alloc [(.i 0),(.i 0),(.i 0),(.i 0),(.i 0)]),true),(.L 20 7 3,false)]),(.w 21 122 20,[(.z 6 (.alloc [(.i 0),(.i 0),(.i 0),(.i 0),(.i 0)]),true)]),(.m 5 19,[]),(.S 5 6 21,[])]) (.seq (.q [.m 22 5,.b 23 .lss 3 22 0,.m 24 23,.n 25 24 (.loadN 7 (.t 3)),.n 26 24 (.w 123 [.t 25]),.n 27 24 (.un .not (.t 26)),.p 28 24 27] (.cond (.t 28) (.q [.F 4] .ret) .skip)) (.q [.F 7] (.seq (.q [.K 8 0] (.block 0 (.loop (.seq (.q [.m 29 8,.b 30 .lss 3 29 5] (.cond (.t 30) .skip (.exit 0))) (.seq (.block 1 (.q [.m 33 5,.m 34 8,.z 35 (.cvInt .u64 (.t 34)),.c 36 .shr 3 33 35,.b 37 .and 3 36 1,.b 38 .eql 3 37 1,.m 9 38] (.seq (.q [.m 39 9,.m 40 39,.my 41 40 8,.y 42 40 (.ixAddrArr 5 1 (.t 6) (.t 41)),.yl 43 40 42,.y 44 40 (.bin .lss true 3 (.t 43) (.k 0)),.my 45 40 44,.mn 46 45 8,.n 47 45 (.ixAddrArr 5 1 (.t 6) (.t 46)),.nl 48 45 47,.mn 49 45 0,.n 50 45 (.lenSl (.t 49)),.n 51 45 (.bin .geq false 3 (.t 48) (.t 50)),.y 52 40 (.pick (.t 45) .T (.t 51)),.q 53 40 52,.m 54 53,.mn 55 54 9,.n 56 54 (.un .not (.t 55)),.mn 57 54 56,.my 58 57 8,.y 59 57 (.ixAddrArr 5 1 (.t 6) (.t 58)),.yl 60 57 59,.y 61 57 (.bin .neq true 3 (.t 60) (.k (-1))),.n 62 54 (.pick (.t 57) (.t 61) .F),.p 63 54 62] (.cond (.t 63) (.q [.F 4] .ret) .skip)) (.q [.m 64 9,.m 65 64,.my 66 65 8,.y 67 65 (.bin .geq true 3 (.t 66) (.k 2)),.my 68 65 67,.nf 69 68 0 3,.nl 70 68 69,.nb 71 68 .eql 3 70 14,.y 72 65 (.pick (.t 68) .T (.t 71)),.q 73 65 72] (.cond (.t 73) (.ops [.m 74 7,.m 75 74,.mn 76 75 0,.mn 77 75 8,.n 78 75 (.ixAddrArr 5 1 (.t 6) (.t 77)),.nl 79 75 78,.n 80 75 (.ixAddr 3 (.t 76) (.t 79)),.nf 81 75 1 80,.nl 82 75 81,.p 83 75 82,.m 7 83]) .skip))))) (.ops [.m 31 8,.b 32 .add 3 31 1,.m 8 32])))))) (.seq (.q [.K 10 0] (.block 2 (.loop (.seq (.q [.m 84 10,.b 85 .lss 3 84 2] (.cond (.t 85) .skip (.exit 2))) (.seq (.block 3 (.q [.m 88 10,.z 89 (.ixAddrArr 5 1 (.t 6) (.t 88)),.l 90 89,.b 91 .geq 3 90 0,.m 92 91,.my 93 92 0,.my 94 92 10,.y 95 92 (.ixAddrArr 5 1 (.t 6) (.t 94)),.yl 96 92 95,.y 97 92 (.ixAddr 3 (.t 93) (.t 96)),.yf 98 92 2 97,.yl 99 92 98,.y 100 92 (.bin .eql true 3 (.t 99) (.k 1)),.my 101 92 100,.mn 102 101 0,.mn 103 101 10,.n 104 101 (.ixAddrArr 5 1 (.t 6) (.t 103)),.nl 105 101 104,.n 106 101 (.ixAddr 3 (.t 102) (.t 105)),.nf 107 101 2 106,.nl 108 101 107,.nb 109 101 .eql 3 108 2,.y 110 92 (.pick (.t 101) .T (.t 109)),.my 111 92 110,.mn 112 111 7,.mn 113 111 112,.my 114 113 0,.my 115 113 10,.y 116 113 (.ixAddrArr 5 1 (.t 6) (.t 115)),.yl 117 113 116,.y 118 113 (.ixAddr 3 (.t 114) (.t 117)),.yf 119 113 1 118,.yl 120 113 119,.y 121 113 (.un .not (.t 120)),.n 122 111 (.pick (.t 113) (.t 121) .F),.y 123 92 (.pick (.t 111) .T (.t 122)),.q 124 92 123] (.cond (.t 124) (.q [.F 4] .ret) .skip))) (.ops [.m 86 10,.b 87 .add 3 86 1,.m 10 87])))))) (.q [.f 125 2 3,.l 126 125,.b 127 .lss 3 126 0,.m 128 127,.nf 129 128 1 3,.nl 130 128 129,.nf 131 128 2 3,.nl 132 128 131,.n 133 128 (.bin .neq false 3 (.t 130) (.t 132)),.p 134 128 133,.m 135 134,.my 136 135 0,.y 137 135 (.loadN 7 (.t 3)),.y 138 135 (.w 124 [.t 136,.t 137]),.q 139 135 138,.m 4 139] .ret))))))))
def r_ref19_One:Ng Tryz.prog 57=some ⟨140,zf3.r,[.tmp 4]⟩:=Aa
def imm3{n:UInt64}(g:n≠1)(j:n≠2)(z:n≠3):n<1∨3<n:=by
 have A:n.toNat≠1:=λh=>g (I3.1 h)
 have B:n.toNat≠2:=λh=>j (I3.1 h)
 have C:n.toNat≠3:=λh=>z (I3.1 h)
 rw[Jm,Jm];show n.toNat<1∨3<n.toNat;omega
def zo4(c:List LV)(n:Nat)(o:Ko):Nl 120 [.lst c n 3,.agg o.f] (.bool (Sr n o)) []:=by
 refine Of.val rfl (Ni r_ref19_need Aa N ?_);have g:o.f=[.i o.kind,.i o.d,.i o.e,.i o.a,.i o.b,.i o.c,.u o.imm]:=rfl;by_cases j:o.d=-1
 case neg=>simp[Z7,g,Sr,j]
 by_cases z:o.e=-1
 case neg=>simp[Z7,g,Sr,j,z]
 by_cases A:o.c=-1
 case neg=>simp[Z7,g,Sr,j,z,A]
 by_cases B:o.a<0
 ·have:Rz n o.a=false:=Cw
  simp[Z7,g,Sr,j,z,A,B,this]
 by_cases C:(n:Int)≤o.a
 ·have:Rz n o.a=false:=Cw
  simp[Z7,g,Sr,j,z,A,B,C,this]
 have E:Rz n o.a=true:=Cw
 by_cases D:o.imm=2
 ·by_cases I:0≤o.b
  ·by_cases K:o.b<n
   ·have G:Rz n o.b=true:=Cw
    simp[Z7,g,Sr,j,z,A,B,C,E,D,I,K,G]
   ·have G:Rz n o.b=false:=Cw
    simp[Z7,g,Sr,j,z,A,B,C,E,D,I,K,G]
  ·have G:Rz n o.b=false:=Cw
   simp[Z7,g,Sr,j,z,A,B,C,E,D,I,G]
 by_cases F:o.imm=1
 ·simp[Z7,g,Sr,j,z,A,B,C,E,D,F]
 by_cases H:o.imm=3
 ·simp[Z7,g,Sr,j,z,A,B,C,E,D,F,H]
 rcases imm3 F D H with M|M
 ·simp[Z7,g,Sr,j,z,A,B,C,E,D,F,H,M]
 ·by_cases L:o.imm<1
  ·simp[Z7,g,Sr,j,z,A,B,C,E,D,F,H,L]
  ·simp[Z7,g,Sr,j,z,A,B,C,E,D,F,H,M,L]
def Vv(k:Int):Int:=match Pz k with
 |some s=>s
 |none=>-1
def zmq(k:Int):Nl 121 [.i k] (.i (Vv k)) []:=by
 refine Of.val rfl (Ni r_ref19_shape Aa N ?_);by_cases E:k=1;· subst E;simp[Wp,Vv,Pz]
 by_cases F:k=2;· subst F;simp[Wp,Vv,Pz]
 by_cases G:k=3;· subst G;simp[Wp,Vv,Pz]
 by_cases H:k=4;· subst H;simp[Wp,Vv,Pz]
 by_cases I:k=5;· subst I;simp[Wp,Vv,Pz]
 by_cases K:k=6;· subst K;simp[Wp,Vv,Pz]
 by_cases L:k=7;· subst L;simp[Wp,Vv,Pz]
 by_cases M:k=8;· subst M;simp[Wp,Vv,Pz]
 by_cases O:k=9;· subst O;simp[Wp,Vv,Pz]
 by_cases g:k=10;· subst g;simp[Wp,Vv,Pz]
 by_cases j:k=11;· subst j;simp[Wp,Vv,Pz]
 by_cases z:k=12;· subst z;simp[Wp,Vv,Pz]
 by_cases A:k=13;· subst A;simp[Wp,Vv,Pz]
 by_cases B:k=14;· subst B;simp[Wp,Vv,Pz]
 by_cases C:k=15;· subst C;simp[Wp,Vv,Pz]
 by_cases D:k=16;· subst D;simp[Wp,Vv,Pz]
 simp[Wp,Vv,Pz,E,F,G,H,I,K,L,M,O,g,j,z,A,B,C,D]
def zl5(o:Ko):Nl 122 [.agg o.f] (.agg [.i o.d,.i o.e,.i o.a,.i o.b,.i o.c]) []:=by
 refine Of.val rfl (Ni r_ref19_fields Aa N ?_);simp[ze3,Ko.f]
def zjt(o:Ko):Nl 123 [.agg o.f] (.bool (Q8 o)) []:=by
 refine Of.val rfl (Ni r_ref19_number Aa N ?_);by_cases g:o.kind=1;· simp[z4n,Ko.f,Q8,g]
 by_cases j:o.kind=13
 ·by_cases A:1≤o.imm<;>simp[z4n,Ko.f,Q8,g,j,A]
 by_cases z:o.kind=15
 ·by_cases A:1≤o.imm<;>simp[z4n,Ko.f,Q8,g,j,z,A]
 simp[z4n,Ko.f,Q8,g,j,z]
def zm8(o:Ko):O1 173 [.agg o.f] (.lst ((Qq o).map .i) (Qq o).length 1):=by
 have G:∀l:List Int,dats (l.map .i)=true:=λl=>xa (λ_=>rfl) l
 refine R7.mk (by simp[LV.dat,G]) (Ni r_ref19_alike Aa N ?_);have g:o.f=[.i o.kind,.i o.d,.i o.e,.i o.a,.i o.b,.i o.c,.u o.imm]:=rfl;by_cases D:o.kind=6;· simp[xd,g,Qq,D,N9,bor,LV.dat,dats]
 by_cases j:o.kind=14;· simp[xd,g,Qq,j,N9,bor,LV.dat,dats]
 by_cases E:o.kind=8;· simp[xd,g,Qq,E,N9,bor,LV.dat,dats]
 by_cases F:o.kind=9;· simp[xd,g,Qq,F,N9,bor,LV.dat,dats]
 by_cases z:o.kind=10;· simp[xd,g,Qq,z,N9,bor,LV.dat,dats]
 by_cases A:o.kind=11;· simp[xd,g,Qq,A,N9,bor,LV.dat,dats]
 by_cases B:o.kind=12;· simp[xd,g,Qq,B,N9,bor,LV.dat,dats]
 by_cases C:o.kind=13;· simp[xd,g,Qq,C,N9,bor,LV.dat,dats]
 simp[xd,g,Qq,D,E,F,z,A,B,C,j,N9,bor]
def zef(g:List Vr)(o:Ko)(hv:∀v∈Qq o,mz g v):Nl 124 [.lst (N0 g) g.length 3,.agg o.f] (.bool (mi g o)) []:=by
 refine Of.val rfl (Ni r_ref19_agree Aa (by simp) ?_);have P:o.f=[.i o.kind,.i o.d,.i o.e,.i o.a,.i o.b,.i o.c,.u o.imm]:=rfl;have hl:(Qq o).length≤4:=by
  unfold Qq;repeat' split
  all_goals simp
 simp[zfu,P];rw[←P];refine Rm (zm8 o) rfl ?_;rw[mi];generalize Qq o=j at *;simp;refine O5 (λY gg gz N=>∃i:Nat,gg=[]∧N+i=j.length+1∧1≤i∧lk Y 0=.lst (N0 g) g.length 3∧lk Y 5=.lst (j.map .i) j.length 1∧lk Y 6=.i i∧∀B,1≤B→B<i→Qd g (gd j B)=Qd g (gd j 0)) (N:=j.length) ⟨1,rfl,J,J,by simp,by simp,by simp,λB h1 h2=>J⟩ ?_;rintro N Y gg gz ⟨i,rfl,hN,Z,E,F,L,Q⟩ Nx M;by_cases R:i<j.length
 ·have T:=Xd (f:=LV.i) (X6 (l:=j) (u:=i) R);have C:=Xd (f:=LV.i) (X6 (l:=j) (u:=0) J);have U:gd j i∈j:=Iq (X6 R);have m0:gd j 0∈j:=Iq (X6 (u:=0) J);obtain⟨a,G,V,qa⟩:=(hv _ U).at;obtain⟨b,H,X,qb⟩:=(hv _ m0).at;have I:=sn qa;have K:=sn qb;rw[G]at I;rw[H]at K;simp only[In]at I K;have A:Qd g (gd j i)=(gv g a).limbs:=by rw[G];simp[Qd]
  have z:Qd g (gd j 0)=(gv g b).limbs:=by rw[H];simp[Qd]
  by_cases e:Qd g (gd j i)=Qd g (gd j 0)
  ·have D:=e;rw[A,z]at D;simp[E,F,L,R,Nb T,Nb C,G,H,V,X,Nb I,Nb K,D];refine⟨J,J,M _ _ _ ⟨N-1,J,i+1,rfl,J,J,Ak,Ah,by simp,λB j1 j2=>?_⟩⟩;by_cases ej:B=i
   ·rw[ej];exact e
   ·exact Q B j1 J
  ·have D:=e;rw[A,z]at D;simp[E,F,L,R,Nb T,Nb C,G,H,V,X,Nb I,Nb K,D];refine⟨J,?_⟩;have:(j.all λv=>decide (Qd g v=Qd g (j.headD 0)))=false:=by
    rw[Mb];refine⟨_,U,?_⟩;rw[show j.headD 0=gd j 0 by cases j<;>rfl];simpa using e
   simpa using this
 ·simp[E,F,L,R];intro v O;obtain⟨B,hj,rfl⟩:=J6.1 O;have e1:j[B]=gd j B:=by simp[gd,Hv,hj]
  have e0:j.head?.getD 0=gd j 0:=by cases j<;>rfl
  rw[e1,e0];by_cases j0:B=0
  ·rw[j0]
  ·exact Q B J J
end Go.Proofs.YtodjkjimaheggaaGreat
end
