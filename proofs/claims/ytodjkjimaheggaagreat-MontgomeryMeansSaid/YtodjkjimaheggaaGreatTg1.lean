/- The templates: see the main text. -/
import Derived.Test.YtodjkjimaheggaaGreatSvG3
import Derived.Test.YtodjkjimaheggaaGreatSvG2
import Derived.Test.YtodjkjimaheggaaGreatTg0
set_option linter.defProp false
noncomputable section
namespace Go.Proofs.YtodjkjimaheggaaGreat
open Go.Sv
set_option linter.unusedSimpArgs false
set_option maxRecDepth 10000
variable{g j:Nat}{z C v8 vQ:Int}{Q:Bool}{U vg:List UInt64}{vD:List Nat}{uX:List (List UInt64)}{G:Mp}{O uU:LV}{Y:LV→Mp→Prop}{vX:List Vr}{X:List Bf}{v6:List Lo}
def zir:LC:=(.q [.x 2 0,.e 4,.e 5,.K 6 0] (.q [.L 18 3 2,.w 19 78 18,.m 17 19,.X 20 0 17,.X 21 1 17,.m 7 20,.m 8 21] (.seq (.q [.m 22 8,.b 23 .eql 35 22 0,.m 24 23,.y 25 24 (.loadN 3 (.t 2)),.y 26 24 (.w 85 [.t 25]),.y 27 24 (.bin .gtr true 3 (.t 26) (.k 16777216)),.q 28 24 27] (.cond (.t 28) (.ops [.K 8 10]) .skip)) (.seq (.q [.m 29 8,.b 30 .eql 35 29 0,.m 31 30,.y 32 31 (.loadN 3 (.t 2)),.my 33 31 1,.y 34 31 (.w 86 [.t 32,.t 33]),.y 35 31 (.un .not (.t 34)),.q 36 31 35] (.cond (.t 36) (.ops [.K 8 2]) .skip)) (.seq (.q [.m 37 8,.b 38 .neq 35 37 0] (.cond (.t 38) (.q [.m 39 8,.e 4,.e 5,.m 6 39] .ret) .skip)) (.seq (.draw [(.L 40 3 2,[]),(.f 41 0 2,[]),(.l 42 41,[]),(.z 43 (.mkSl 1 [(.u 0)] (.t 42) (.t 42)),[(.l 42 41,false),(.L 40 3 2,false)]),(.z 44 (.build [(.i 0),.nilSl,.nilSl,.nilSl,.nilSl,.nilSl] [(0,3,.t 40),(3,1,.t 43)]),[]),(.x 45 44,[(.z 43 (.mkSl 1 [(.u 0)] (.t 42) (.t 42)),true),(.l 42 41,false),(.L 40 3 2,false)]),(.m 9 45,[])]) (.seq (.q [.K 10 0] (.block 0 (.loop (.seq (.q [.m 46 10,.m 47 1,.s 48 47,.c 49 .lss 3 46 48] (.cond (.t 49) .skip (.exit 0))) (.seq (.block 1 (.q [.f 52 1 2,.l 53 52,.m 54 10,.I 55 3 53 54,.f 56 0 55,.l 57 56,.z 58 (.mkSl 1 [(.u 0)] (.t 57) (.t 57)),.m 11 58] (.q [.m 59 11,.m 60 1,.m 61 10,.I 62 1 60 61,.l 63 62,.z 64 (.copy 1 (.t 59) (.t 63))] (.ops [.m 65 9,.m 66 9,.N 67 66,.f 68 4 67,.l 69 68,.m 70 11,.z 71 (.buildSl 1 1 [.nilSl] [(0,1,.t 70)]),.a 72 1 69 71,.N 73 65,.f 74 4 73,.S 1 74 72])))) (.ops [.m 50 10,.b 51 .add 3 50 1,.m 10 51])))))) (.q [.L 75 3 2,.w 76 87 75,.m 12 76] (.q [.z 13 (.move .T)] (.seq (.q [.K 14 0] (.block 2 (.loop (.seq (.q [.m 77 14,.f 78 2 2,.l 79 78,.s 80 79,.c 81 .lss 3 77 80] (.cond (.t 81) .skip (.exit 2))) (.seq (.block 3 (.q [.f 84 2 2,.l 85 84,.m 86 14,.I 87 8 85 86,.L 88 8 87,.z 15 (.alloc [(.i 0),(.i 0),(.i 0),(.i 0),(.i 0),(.i 0),(.i 0),(.u 0)]),.S 8 15 88] (.q [.f 89 0 15,.l 90 89] (.block 4 (.q [.b 100 .eql 3 90 16,.m 99 100] (.cond (.t 99) (.seq (.q [.m 101 13] (.cond (.t 101) (.draw [(.m 102 9,[]),(.N 103 102,[]),(.f 104 3 103,[]),(.l 105 104,[]),(.f 106 1 15,[]),(.l 107 106,[]),(.I 108 1 105 107,[]),(.v (.store 1 (.t 108) (.c (.u 0))),[])]) .skip)) (.q [.m 109 9,.m 110 9,.N 111 110,.f 112 5 111,.l 113 112,.m 114 14,.z 115 (.build [(.i 0),(.i 0)] [(0,1,.t 114),(1,1,.k (-1))]),.z 116 (.buildSl 2 1 [(.i 0),(.i 0)] [(0,2,.t 115)]),.a 117 2 113 116,.N 118 109,.f 119 5 118,.S 1 119 117] (.ops [.z 13 (.move .T)]))) (.q [.b 121 .eql 3 90 17,.m 120 121] (.cond (.t 120) (.seq (.draw [(.f 122 2 2,[]),(.l 123 122,[]),(.m 124 12,[]),(.m 125 14,[]),(.I 126 1 124 125,[]),(.l 127 126,[]),(.I 128 8 123 127,[]),(.L 129 8 128,[]),(.z 16 (.alloc [(.i 0),(.i 0),(.i 0),(.i 0),(.i 0),(.i 0),(.i 0),(.u 0)]),[(.L 129 8 128,false),(.l 127 126,false),(.l 123 122,false)]),(.S 8 16 129,[])]) (.seq (.draw [(.m 130 9,[]),(.N 131 130,[]),(.f 132 3 131,[]),(.l 133 132,[]),(.f 134 1 16,[]),(.l 135 134,[]),(.I 136 1 133 135,[]),(.l 137 136,[]),(.u 138 .add 23 137 1,[]),(.f 139 7 16,[]),(.l 140 139,[]),(.c 141 .lss 23 138 140,[])]) (.cond (.t 141) (.seq (.draw [(.m 142 9,[]),(.N 143 142,[]),(.f 144 3 143,[]),(.l 145 144,[]),(.f 146 1 16,[]),(.l 147 146,[]),(.I 148 1 145 147,[]),(.l 149 148,[]),(.u 150 .add 23 149 1,[]),(.I 151 1 145 147,[]),(.S 1 151 150,[])]) (.q [.F 13] (.ops [.m 152 12,.m 153 14,.I 154 1 152 153,.l 155 154,.b 156 .sub 3 155 1,.m 14 156]))) .skip))) (.q [.m 91 9,.m 92 14,.W 93 88 91 92,.z 94 (.un .not (.t 93))] (.cond (.t 94) (.seq (.draw [(.m 95 9,[]),(.N 96 95,[]),(.f 97 5 96,[]),(.l 98 97,[]),(.e 4,[]),(.m 5 98,[]),(.K 6 11,[])]) .ret) .skip)))))))))) (.ops [.m 82 14,.b 83 .add 3 82 1,.m 14 83])))))) (.seq (.draw [(.m 157 9,[]),(.N 158 157,[]),(.f 159 4 158,[]),(.l 160 159,[]),(.m 161 9,[]),(.N 162 161,[]),(.f 163 5 162,[]),(.l 164 163,[]),(.m 4 160,[]),(.m 5 164,[]),(.K 6 0,[])]) .ret)))))))))))
def r_ref12_Run:My Tryz.prog 29=some ⟨165,zir.r,[.tmp 4,.tmp 5,.tmp 6]⟩:=Aa
def MsH.push_ev{G:Mp}{x pb kb:Nat}{b:Nat}{regs:Int}{bs:List Bf}{os:List Lo}{L:LV}{s:Ms}{K:LV→Mp→Prop}{tmp:LObj}{G':Mp}{i pl:Int}(hG:G'=G++[tmp])(hm:MsH G x j pb kb vD b regs bs os L s)(gD:s.l.length≤1000000000)
  (k:∀(L':LV) (G5:Mp),L'.cells=some [L']→(∀q,q<b→G5[q]?=G[q]?)→(∀(gg:Nat),MsH (G5.set x (.cells [.i regs,.lst (O8 bs) bs.length 3,.lst (P1 os) os.length 8,.dy j 0,.dy pb kb,L'] gg)) x j pb kb vD b regs bs os L' ⟨s.i,s.first,s.r,s.bufs,s.l++[(i,pl)]⟩)→K L' G5):Ow G' 2 L 1 [.i i,.i pl] K:=by
 subst hG;obtain⟨l1,l2,l3,l4,l5,l6⟩:=hm.lt;have gF:=hm.bG;refine N9.push2 (x:=[.i i,.i pl]) hm.ev.push_end J Ab gD rfl rfl λL' G5 gz gE gA gG=>?_
 have keep:∀{q:Nat},q<b→G5[q]?=G[q]?:=λ{q} hq=>by
  rw[gE q Ab (λe=>C8),M6 J]
 refine k L' G5 gz.cells (λq hq=>keep hq) λgg=>?_
 have gC:x<G5.length:=by simp at gA;omega
 have ne:∀{q:Nat} {ob:LObj},q≠x→(G5.set x ob)[q]?=G5[q]?:=λhq=>Ho (Ne.symm hq)
 refine⟨⟨gg,Hu gC⟩,?_,?_,λgH hj=>?_,hm.bl,hm.lt,hm.qlt,hm.nd,?_,by rw[Jv];simp at gA;omega⟩
 ·obtain⟨st,h⟩:=hm.rr;exact⟨st,by rw[ne (Ne.symm l4),keep l2];exact h⟩
 ·obtain⟨st,h⟩:=hm.bb;exact⟨st,by rw[ne (Ne.symm l5),keep l3];exact h⟩
 ·obtain⟨st,h⟩:=hm.row gH hj;have hq:=hm.qlt (vD.getD gH 0) En;exact⟨st,by rw[ne hq.2.1,keep hq.1];exact h⟩
 ·show N9 b _ L' 2 (s.l++[(i,pl)]).length (T9 (s.l++[(i,pl)]));rw[zxb,H4];exact gz.set_lt l1
def MsH.ctl{G:Mp}{x pb kb:Nat}{b:Nat}{regs:Int}{bs:List Bf}{os:List Lo}{L:LV}{s:Ms}(h:MsH G x j pb kb vD b regs bs os L s){i:Nat}{f:Bool}:MsH G x j pb kb vD b regs bs os L ⟨i,f,s.r,s.bufs,s.l⟩:=⟨h.xc,h.rr,h.bb,h.row,h.bl,h.lt,h.qlt,h.nd,h.ev,h.bG⟩
def zob{C:Mp}:∀(g:List Nat) (j:List (List UInt64)),j.length=g.length→(∀z,z<g.length→∃st,C[g.getD z 0]?=some (.dyn ((j.getD z []).map .u) (j.getD z []).length 1 0 st))→bors C (g.map λq=>.dy q 0) (j.map LU)
 |[],j,h,_=>by
  have:j=[]:=Ic h;subst this;simp
 |q::g,[],h,_=>Bn
 |q::g,x::j,h,A=>by
  obtain⟨st,B⟩:=A 0 N;simp only[List.getD_cons_zero]at B;rw[J3,J3];refine⟨_,_,rfl,⟨_,_,_,st,rfl,B,N⟩,zob g j Av λz D=>?_⟩;have:=A (z+1) Ab;simpa only[List.getD_cons_succ] using this
def fi(n:Nat):Oj [.u 0] n=(List.replicate n (0:UInt64)).map LV.u:=by
 induction n with
 |zero=>rfl
 |succ n g=>rw[Oj,g,Kg];rfl
def fh(x:List UInt64)(n:Nat)(h:x.length≤n):Ns ((List.replicate n (0:UInt64)).map LV.u) 0 ((x.map LV.u).take (min x.length n))=(x++List.replicate (n-x.length) 0).map LV.u:=by
 rw[Ju h,H7 N,zla,Km]
 congr 1
 simp
def zfk{bs:List Bf}{os:List Lo}{X:List (List UInt64)}{es:List Int}{s':Ms}(hc:(P5 z bs os).2=0)(hb:Vt Pu 0 os)(AD:U5 [] 0 os≤16777216)(hX:br bs X=true)(jR:1≤bs.length)(jT:Us 0 [] (List.replicate os.length 0) os=es)
  (hE:∀i o,os[i]?=some o→o.kind=17→0≤es.getD i 0∧∃p,os[(es.getD i 0).toNat]?=some p∧p.kind=16) (hT:g≤800000000) (j:Ov os es g (O1 z bs X)=some s') (Aj:s'.i=os.length) :
  Od 29 [.agg (Mv z bs os),LN X] (.tup [LN s'.bufs,.lst (T9 s'.l) s'.l.length 2,.i 0]):=by
 obtain⟨zG,Az,AE,AF,gZ,jU⟩:=z70 hc;have jB:X.length=bs.length∧∀i,i<bs.length→((X.getD i []).length:Int)=if (M7 bs i).kind=3 then 0 else (M7 bs i).size:=by
  unfold br at hX;exact J4 hX
 obtain⟨jB,jV⟩:=jB;obtain⟨r,rfl⟩:=Hr zG;have zH:∀l:List (Int×Int),dats (T9 l)=true:=λl=>s9 (f:=λe:Int×Int=>[.i e.1,.i e.2]) (λ_=>rfl) l
 refine Ra.mkS (by simp[LV.dat,dats,zH,LN,Wu]) (Mz r_ref12_Run Aa (by simp) ?_);have AG:dats (Mv r bs os)=true:=zgv _ _ _;have jX:¬(16777216:Int)<U5 [] 0 os:=J
 simp[zir,Mv];refine M2 (z4f r bs os) (bors_self _ A5) ?_;simp[hc];refine M2 (zk3 hc hb) (bors_self _ A5) ?_;simp[jX];refine M2 (znf r bs os X J) (bors_self _ (by simp[dats,LV.dat,Mv,S0,Sz,Wu])) ?_;simp[hX];refine⟨J,?_⟩;refine Oc (λρ AA gD N=>∃(i:Nat) (B:List Nat) (v:LV),AA=[]∧N+i=bs.length∧B.length=i∧lk ρ 1=LN X∧lk ρ 2=.ptr 0 0∧lk ρ 9=.ptr 2 0∧lk ρ 10=.i i∧gD[0]?=some (.cells (Mv r bs os) 0)∧(∃st,gD[1]?=some (.dyn ((List.replicate r (0:UInt64)).map .u) r 1 0 st))∧(∃st,gD[2]?=some (.cells [.i r,.lst (O8 bs) bs.length 3,.lst (P1 os) os.length 8,.dy 1 0,v,.nilSl] st))∧3≤gD.length ∧
   ((i=0∧v=.nilSl)∨∃O st,v=.dy O (i-1)∧3≤O∧O ∉ B∧1≤i∧gD[O]?=some (.dyn (B.map λq=>.dy q 0) i 1 (i-1) st))∧(∀q∈B,3≤q)∧B.Nodup∧∀V,V<i→∃st,gD[B.getD V 0]?=some (.dyn ((Um (M7 bs V) (X.getD V [])).map .u) (Um (M7 bs V) (X.getD V [])).length 1 0 st)) (N:=bs.length)
  ⟨0,[],.nilSl,rfl,J,rfl,by simp,by simp,by simp,by simp,Bq,⟨0,by simp[fi]⟩,⟨0,by simp⟩,by simp,.inl ⟨rfl,rfl⟩,by simp,by simp,λV h=>J⟩ ?_
 rintro N ρ AA gD ⟨i,B,v,rfl,hN,Z,h1,M,H,gK,A,⟨s1,gL⟩,⟨s2,gR⟩,AH,hv,gT,jY,gC⟩ Nx I;have gM:lk ρ 1=.lst (X.map LU) X.length 1:=h1;by_cases jQ:i<bs.length
 ·have q0:=ub (Rg jQ);have gx:i<X.length:=J
  obtain⟨x,hx⟩:∃x,X.getD i []=x:=⟨_,rfl⟩;have zI:X[i]=x:=by rw[←hx];simp[gx]
  have hm:M7 bs i∈bs:=Ia (Rg jQ);obtain⟨b1,b2⟩:=gZ _ hm;have jZ:=jV i jQ;rw[hx]at jZ;obtain⟨n,hn⟩:=Hr (J:0≤(M7 bs i).size);have zK:x.length≤n:=by split at jZ<;>omega
  have j4:Um (M7 bs i) (X.getD i [])=x++List.replicate (n-x.length) 0:=by unfold Um;rw[hx,hn];rfl
  have g8:(x++List.replicate (n-x.length) (0:UInt64)).length=n:=Ab
  have l0:0<gD.length:=J
  have l2:2<gD.length:=J
  have p0:∀y:List LObj,(gD++y)[0]?=_:=λy=>(M6 l0).trans A
  have p2:∀y:List LObj,(gD++y)[2]?=_:=λy=>(M6 l2).trans gR
  have j5:=fh x n zK;simp only[List.map_replicate]at j5;have AI:n≤65536:=J
  simp[gM,M,H,gK,A,Mv,jQ,gx,Mr q0,hn,zI,fi,j5,↓p2];refine⟨J,?_⟩;have j6:∀q∈B,q<gD.length:=λq hq=>by
   obtain⟨V,hj,rfl⟩:=Js.1 hq;obtain⟨st,h⟩:=gC V J;have h:=(Hm.1 h).1;simpa [Hn,hj] using h
  have zL:∀V,V<i→(B++[gD.length]).getD V 0=B.getD V 0:=λV hj=>by simp[Hn,Hx (J:V<B.length)]
  have zM:(B++[gD.length]).getD i 0=gD.length:=by
   rw[Hn,H9 J,(J:i-B.length=0)];rfl
  have j7:(B++[gD.length]).Nodup:=by
   rw[List.nodup_append];exact⟨jY,by simp,λa ha b hb=>by simp at hb;rw[hb];have:=j6 a ha;omega⟩
  rcases hv with ⟨rfl,rfl⟩|⟨O,jC,rfl,gE,gU,zO,gF⟩
  ·have zP:B=[]:=Ic Z;subst zP;simp[H,↓p2,gK];refine I _ _ _ ⟨N-1,J,1,[gD.length],.dy (gD.length+2) 0,rfl,J,rfl,by simp[gM],A0,A1,by simp,?_,⟨s1,?_⟩,⟨s2+1,?_⟩,by simp,.inr ⟨gD.length+2,0,rfl,J,by simp,J,?_⟩,Ab,by simp,λV hj=>⟨1,?_⟩⟩
   ·rw[Ho J];exact p0 _
   ·rw[Ho J,M6 J];exact gL
   ·exact Hu (by simp)
   ·rw[Ho J,H9 J,(J:gD.length+2-gD.length=2)];rfl
   ·have zQ:V=0:=J
    subst zQ;rw[j4];rw[Ho Ab];simp only[List.getD_cons_zero];rw[H9 J,Kt,g8];simp
  ·have lp:O<gD.length:=(Hm.1 gF).1;have pp:∀y:List LObj,(gD++y)[O]?=_:=λy=>(M6 lp).trans gF
   have zR:∀(y:List LObj) (ob:LObj),((gD++y).set O ob)[2]?=_:=λy ob=>(Ho J).trans (p2 y)
   simp[H,↓pp,↓zR,gK]
   repeat (refine⟨J,?_⟩)
   refine I _ _ _ ⟨N-1,J,i+1,B++[gD.length],.dy O i,rfl,J,Dc,by simp[gM],A0,A1,by simp,?_,⟨s1,?_⟩,⟨s2+1,?_⟩,Ab,.inr ⟨O,jC+1,rfl,gE,by simp[gU];omega,J,?_⟩,λq hq=>?_,j7,λV hj=>?_⟩
   ·rw[Ho J,Ho J];exact p0 _
   ·rw[Ho J,Ho J,M6 J];exact gL
   ·rw[Hu Ab,(J:i-1+1=i)]
   ·rw[Ho J,Hu Ab,(J:i-1+1=i)];simp
   ·rcases Ih.1 hq with hq|hq
    ·exact gT q hq
    ·simp at hq;omega
   ·by_cases e:V=i
    ·subst e;rw[zM,j4,g8];refine⟨1,?_⟩;rw[Ho J,Ho J,H9 J,Kt];simp
    ·obtain⟨st,h⟩:=gC V J;refine⟨st,?_⟩;have jD:B.getD V 0∈B:=by simp[Hn,(J:V<B.length)]
     have:=gT _ jD;rw[zL V J,Ho J,Ho (λe=>gU (by rw[e];exact jD)),M6 (j6 _ jD)];exact h
 have hi:i=bs.length:=J
 subst hi;rcases hv with ⟨e,_⟩|⟨O,jC,rfl,gE,gU,zO,gF⟩
 ·omega
 have ge:¬bs.length<bs.length:=J
 have j8:MsH gD 2 1 O (bs.length-1) B gD.length r bs os .nilSl (O1 r bs X):=by
  have l1:=(Hm.1 gL).1;have l2:=(Hm.1 gR).1;have lp:=(Hm.1 gF).1;refine⟨⟨s2,gR⟩,⟨s1,by simpa [O1] using gL⟩,⟨jC,by rw[Z];exact gF⟩,λV hj=>?_,by simp[O1,fv,Z],⟨l2,l1,lp,J,J,J⟩,λq hq=>?_,jY,N9.nil,Hw _⟩
  ·obtain⟨st,h⟩:=gC V J;refine⟨st,?_⟩;have zT:(O1 r bs X).bufs.getD V []=Um (M7 bs V) (X.getD V []):=by simp[O1,Sd,Hn,(J:V<bs.length)]
   rw[zT];exact h
  ·obtain⟨V,hj,rfl⟩:=Js.1 hq;obtain⟨st,h⟩:=gC V J;have h:=(Hm.1 h).1;have:=gT _ hq;exact⟨by simpa [Hn,hj] using h,J,J,λe=>gU (by rw[←e];exact hq)⟩
 have g9:∀x∈(O1 r bs X).bufs,x.length≤65536:=λx hx=>by
  simp only[O1,Sd,Mb,J0]at hx;obtain⟨V,hj,rfl⟩:=hx;have hm:M7 bs V∈bs:=Ia (Rg hj);obtain⟨b1,b2⟩:=gZ _ hm;have:=jV V hj;unfold Um;rw[H4,List.length_replicate];split at this<;>omega
 simp[gM,M,H,gK,jB,A,Mv];refine Q5 (zlx hc hb) Dl ?_;rw[jT];have AB:B.length=bs.length:=Z;generalize AK:gD.length=b at *;simp;refine Oc (λρ AA G' N=>∃(s:Ms) (zE:LV),AA=[]∧Ov os es N s=some s'∧lk ρ 2=.ptr 0 0∧lk ρ 9=.ptr 2 0∧lk ρ 12=.lst (es.map .i) os.length 1∧lk ρ 13=.bool s.first∧lk ρ 14=.i s.i∧G'[0]?=some (.cells (Mv r bs os) 0)∧MsH G' 2 1 O (bs.length-1) B b r bs os zE s∧s.l.length+N≤g∧s.i≤os.length∧s.r.length=r∧∀x∈s.bufs,x.length≤65536) (N:=g)
  ⟨O1 r bs X,.nilSl,rfl,j,A0,A1,by simp,Cp,Cp,A,j8,Cp,Cp,Cp,g9⟩ ?_
 clear j j8 h1 gM M H gK A gL gR gF I Nx g9;rintro N ρ AA P ⟨s,zE,rfl,j,M,H,gg,Q,K,A,Y,AL,AM,gG,gH⟩ Nx I;by_cases jQ:s.i<os.length
 case neg =>
  have zU:=zut (os:=os) (es:=es) (s:=s) (Jz J) N;rw[zU]at j;have jE:s=s':=Option.some.inj j;subst jE;obtain⟨t1,D⟩:=Y.xc;obtain⟨t2,jR⟩:=Y.bb;simp[M,H,K,A,Mv,jQ,D];intro c a hs ha;have AC:s.bufs.length=bs.length:=by rw[Y.bl,Z]
  have h:=o9 hs jR (zob B s.bufs Y.bl Y.row) Y.ev.bor (by simp) ha;rw[←Y.bl]at h;exact h
 have ho:=yj jQ;have gO:=zbd ho;have gP:=qi jQ;have jF:=jU _ (Ia ho);generalize ap os s.i=o at *;cases N with
 |zero =>
  have jE:s=s':=Option.some.inj j;subst jE;omega
 |succ N =>
 have hC:o.f=[.i o.kind,.i o.d,.i o.e,.i o.a,.i o.b,.i o.c,.i o.buf,.u o.imm]:=rfl;change (match Qm os es s with|none=>none|some s'=>Ov os es N s')=some s' at j;have l0:0<P.length:=by have:=Y.bG;omega
 have p0:∀y:List LObj,(P++y)[0]?=_:=λy=>(M6 l0).trans A
 have L:(P++[LObj.cells o.f 1])[P.length]?=some (.cells o.f 1):=Ie;have E:MsH (P++[LObj.cells o.f 1]) 2 1 O (bs.length-1) B b r bs os zE s:=Y.keep (λq hq=>M6 hq) (by simp);have gz:=p0 [.cells o.f 1];have AO:b≤P.length:=Y.bG;have z0:∀(y:List LObj) (h:0<(P++y).length),(P++y)[0]=.cells (Mv r bs os) 0:=λy h=>Option.some.inj ((Ht h).symm.trans (p0 y))
 have p1:∃st,∀y:List LObj,(P++y)[1]?=some (.dyn (s.r.map .u) s.r.length 1 0 st):=by
  obtain⟨st,h⟩:=Y.rr;exact⟨st,λy=>(M6 (Hm.1 h).1).trans h⟩
 have p2:∃st,∀y:List LObj,(P++y)[2]?=some (.cells [.i r,.lst (O8 bs) bs.length 3,.lst (P1 os) os.length 8,.dy 1 0,.dy O (bs.length-1),zE] st):=by
  obtain⟨st,h⟩:=Y.xc;exact⟨st,λy=>(M6 (Hm.1 h).1).trans h⟩
 obtain⟨t1,p1⟩:=p1;obtain⟨t2,p2⟩:=p2;obtain⟨rd,re,ra,rb,rc,rm⟩:=zji jF;by_cases F:o.kind=16
 ·have R:Qm os es s=some ⟨s.i+1,true,if s.first then Mw s.r o.d 0 else s.r,s.bufs,s.l++[((s.i:Int),(-1:Int))]⟩:=by
   unfold Qm;rw[ho];dsimp only;rw[Hv F]
  rw[R]at j;dsimp only at j;obtain⟨d0,dr⟩:=(yy jF).2.2 F;obtain⟨dn,C⟩:=Hr d0;have gA:dn<s.r.length:=J
  have j9:=Y.lt;have AP:∀(G7:Mp) (s2:Ms),MsH G7 2 1 O (bs.length-1) B b r bs os zE s2→G7[0]?=some (.cells (Mv r bs os) 0)→s2.l=s.l→s2.i=s.i→(⟨s2.i+1,true,s2.r,s2.bufs,s2.l++[((s.i:Int),(-1:Int))]⟩:Ms)=⟨s.i+1,true,if s.first then Mw s.r o.d 0 else s.r,s.bufs,s.l++[((s.i:Int),(-1:Int))]⟩→True:=λ_ _ _ _ _ _ _=>trivial
  cases hf:s.first with
  |true =>
   rw[hf]at j Q;rw[Hv rfl]at j;obtain⟨t2,jG⟩:=E.rr;obtain⟨t1,D⟩:=E.xc;have e1:Ns (s.r.map LV.u) dn [.u 0]=(Mw s.r o.d 0).map LV.u:=by
    rw[zw3 (by simpa using gA),Mw,Hv d0,C,I3];rfl
   have gI:=E.putr (i:=o.d) (v:=0) (st:=t2+1);rw[hC]at D jG E gI gz L;have zg:∀ob:LObj,((P++[LObj.cells [.i o.kind,.i o.d,.i o.e,.i o.a,.i o.b,.i o.c,.i o.buf,.u o.imm] 1]).set 1 ob)[0]?=some (.cells (Mv r bs os) 0):=λob=>(Ho J).trans gz
   rw[F,C]at D jG L zg gI;simp[M,H,Q,K,A,Mv,jQ,gO,gP,hC,F,C,L,D,jG,gA,e1];refine⟨J,MsH.push_ev rfl gI (by show s.l.length≤_;omega) λL' G5 jH gQ gV=>?_⟩;obtain⟨t3,zV⟩:=gI.xc;have jI:G5[2]?=_:=(gQ 2 J).trans zV;simp[-LV.cells,jH,jI,K];have jK:G5[0]?=some (.cells (Mv r bs os) 0):=(gQ 0 J).trans (zg _);rw[←C]at gV;refine⟨J,I _ _ _ ⟨N,J,_,L',rfl,j,A0,A1,By,by simp,by simp,?_,(gV (t3+1)).ctl,Ab,E7,by show (Mw s.r o.d 0).length=_;rw[zdi];exact gG,gH⟩⟩;rw[Ho J];exact jK
  |false =>
   rw[hf]at j Q;rw[Hs Ad]at j;obtain⟨t1,D⟩:=E.xc;rw[hC]at D E gz L;rw[F]at D L E gz;simp[M,H,Q,K,A,Mv,jQ,gO,gP,hC,F,L,D];refine MsH.push_ev (by rw[I8];rfl) E J λL' G5 jH gQ gV=>?_
   have jI:G5[2]?=_:=(gQ 2 J).trans D;simp[-LV.cells,jH,jI,K];have jK:G5[0]?=some (.cells (Mv r bs os) 0):=(gQ 0 J).trans gz;refine⟨J,I _ _ _ ⟨N,J,_,L',rfl,j,A0,A1,By,by simp,by simp,?_,(gV (t1+1)).ctl,Ab,E7,gG,gH⟩⟩;rw[Ho J];exact jK
 by_cases G:o.kind=17
 ·obtain⟨c0,p,hp,zX⟩:=hE s.i o ho G;obtain⟨kn,jL⟩:=Hr c0;have zj:s.i<es.length:=by rw[←jT,endsR_len];simpa using jQ
  have jg:(es.map LV.i)[s.i]?=some (.i (kn:Int)):=by
   rw[←jL];simp[Hn,zj]
  rw[jL]at hp;rw[If]at hp;have zY:=jU _ (Ia hp);have zz:=zbd hp;have jM:kn<os.length:=(Hm.1 hp).1;have jz:=qi jM;obtain⟨d0,dr⟩:=(yy zY).2.2 zX;obtain⟨dn,C⟩:=Hr d0;have gA:dn<s.r.length:=J
  have R:Qm os es s=if atR s.r p.d+1<p.imm then some ⟨kn,false,Mw s.r p.d (atR s.r p.d+1),s.bufs,s.l⟩ else some ⟨s.i+1,s.first,s.r,s.bufs,s.l⟩:=by
   unfold Qm;rw[ho];dsimp only;rw[Hs F,Hv G,jL,If,hp]
  have zZ:atR s.r p.d=s.r.getD dn 0:=by unfold atR;rw[Hs J,C];rfl
  have zA:s.r[dn]=atR s.r p.d:=by rw[zZ];simp[Hn,gA]
  generalize atR s.r p.d=xv at *;rw[R]at j;have j9:=Y.lt;have gY:p.f=[.i p.kind,.i p.d,.i p.e,.i p.a,.i p.b,.i p.c,.i p.buf,.u p.imm]:=rfl;have AQ:0<P.length:=l0;have jO:MsH (P++[LObj.cells o.f 1,LObj.cells p.f 1]) 2 1 O (bs.length-1) B b r bs os zE s:=Y.keep (λq hq=>M6 hq) (by simp);have gE:=p0 [.cells o.f 1,.cells p.f 1];have jP:(P++[LObj.cells o.f 1,LObj.cells p.f 1])[P.length+1]?=some (.cells p.f 1):=by
   rw[H9 J,(J:P.length+1-P.length=1)];rfl
  have e1:Ns (s.r.map LV.u) dn [.u (xv+1)]=(Mw s.r p.d (xv+1)).map LV.u:=by
   rw[zw3 (by simpa using gA),Mw,Hv d0,C,I3];rfl
  have zB:=jO.putr (i:=p.d) (v:=xv+1) (st:=t1+1);rw[hC,gY,G,C]at jO gE zB;rw[gY,hC,G,C]at jP;rw[hC,G]at L;rw[C]at e1 j;have jA:p.imm≤xv+1↔¬xv+1<p.imm:=by simp
  by_cases T:xv+1<p.imm
  ·rw[Hv T]at j;simp[M,H,gg,Q,K,A,Mv,jQ,gO,gP,hC,G,L,↓p0,↓p1,↓p2,z0,Mr jg,jM,zz,jz,gY,jP,C,gA,zA,jA,T,e1,T5]
   repeat (refine⟨J,?_⟩)
   refine I _ _ _ ⟨N,J,_,zE,rfl,j,A0,A1,By,by simp,by simp,?_,?_,by show s.l.length+N≤g;omega,by show kn≤_;omega,by show (Mw s.r (dn:Int) (xv+1)).length=_;rw[zdi];exact gG,gH⟩
   ·rw[Ho J];exact gE
   ·exact zB.ctl
  ·rw[Hs T]at j;simp[M,H,gg,Q,K,A,Mv,jQ,gO,gP,hC,G,L,↓p0,↓p1,↓p2,z0,Mr jg,jM,zz,jz,gY,jP,C,gA,zA,jA,T,e1,T5]
   repeat (refine⟨J,?_⟩)
   exact I _ _ _ ⟨N,J,_,zE,rfl,j,A0,A1,By,by simp[Q],by simp,gE,jO.ctl,by show s.l.length+N≤g;omega,E7,gG,gH⟩
 have R:Qm os es s=T7 o s:=by
  unfold Qm;rw[ho];dsimp only;rw[Hs F,Hs G]
 rw[R]at j;simp[M,H,K,A,Mv,jQ,gO,gP,hC,F,G];rw[hC]at E gz;cases hd:T7 o s with
 |none=>rw[hd]at j;cases j
 |some s1 =>
 rw[hd]at j;dsimp only at j;have U:=uh hd;refine do_any E ho jF F G (by rw[gG]) (by rw[Z]) J gH (λe=>by rw[hd]at e;cases e) λs2 G6 L2 e gI zC=>?_
 rw[hd]at e;obtain rfl:=Option.some.inj e;have Ag:G6[0]?=some (.cells (Mv r bs os) 0):=by
  have T:=Y.lt;rw[zC 0 J J J (λe=>by have:=gT 0 e;omega)];exact gz
 have zD:∀x∈s1.bufs,x.length≤65536:=λx hx=>by
  have h1:x.length∈s1.bufs.map List.length:=List.mem_map_of_mem hx;rw[U.b]at h1;obtain⟨y,hy,e⟩:=Mb.1 h1;rw[←e];exact gH y hy
 have e1:=U.i;have e2:=U.l;simp[K];refine⟨J,I _ _ _ ⟨N,J,s1,L2,rfl,j,A0,A1,By,by simp[Q,U.f],by simp[e1],Ag,gI,J,J,by rw[U.r];exact gG,zD⟩⟩

def dx{f:Fr Lo}{bs:List Bf}{X:List (List UInt64)}{Q:Fs→Prop}{c:Cf}(V:CfOk c)(L:c.nb=bs.length)(g:f.AllH c 0)(F:(P5 ((64:Nat):Int) bs f.flat).2=0)(Z:f.stp≤16777216)
  (hX:br bs X=true) (G:1≤bs.length) (hx:Tx (bx (O1 64 bs X)) f (Rn (O1 64 bs X)) Q) :
  ∃(z:Ms) (t:Fs),Rep bs.length (bx (O1 64 bs X)) z t∧Q t∧(∀b,¬c.S b→z.bufs.getD b []=(O1 64 bs X).bufs.getD b [])∧z.bufs.length=bs.length∧z.l.length≤800000000 ∧
   Od 29 [.agg (Mv ((64:Nat):Int) bs f.flat),LN X] (.tup [LN z.bufs,.lst (T9 z.l) z.l.length 2,.i 0]) ∧
   ∀Y:List (List UInt64),br bs Y=true→(∀i,i<bs.length→(X.getD i []).length=(Y.getD i []).length)→∃A:Ms,A.bufs.length=bs.length∧z.l=A.l∧Od 29 [.agg (Mv ((64:Nat):Int) bs f.flat),LN Y] (.tup [LN A.bufs,.lst (T9 A.l) A.l.length 2,.i 0]):=by
 have j:=allH_wf g;have B:f.regs bs.length []=true:=L ▸ zdh V N g;have E:f.costZ≤800000000:=by have:=costZ_le f;omega
 obtain⟨gz,s',t,h1,M,h3,h4,h5,h6⟩:=ve j B E hx;have C:Vt Pu 0 f.flat:=by
  have h:=lj (f:=f) (d:=0) (rest:=[]) j (by unfold Vt;rfl)
  rwa [I9]at h
 have H:U5 [] 0 f.flat≤16777216:=by rw[kg j B J];omega
 have I:Us 0 [] (List.replicate f.flat.length 0) f.flat=f.ends 0:=by rw[Fr.flat_len];exact zvu j
 have D:∀(i:Nat) (o:Lo),f.flat[i]?=some o→o.kind=17→0≤(f.ends 0).getD i 0∧∃p,f.flat[((f.ends 0).getD i 0).toNat]?=some p∧p.kind=16:=λi o ho K=>by
  obtain⟨k,p,e1,e2,e3⟩:=ends_at f 0 i o j ho K;rw[Hn,e1];exact⟨N,p,by simpa using e2,e3⟩
 have gg:∀gA:List (List UInt64),(O1 64 bs gA).bufs.length=bs.length:=λgA=>by simp[O1,Sd]
 have no:∀b,¬c.S b→∀o∈f.flat,¬(o.kind=15∧o.buf.toNat=b):=λb O o ho K=>O (K.2 ▸ (allH_flat g o ho).sto K.1)
 have P:s'.bufs.length=bs.length:=by
  have h:=h4.bl;exact h
 refine⟨s',t,h4,h5,λb O=>(zug (no b O) gz _ _ M).1,P,J,zfk F C H hX G I D h1 M h3,λY hY R=>?_⟩;obtain⟨A,k1,T⟩:=Lock.run_some (zxg j) (λo ho=>(allH_flat g o ho).low V) gz _ _ _ (zw7 (bs:=bs) (X:=X) (Y:=Y) R) M;have U:A.bufs.length=bs.length:=by
  have:=congrArg List.length T.bufs;simp only[List.length_map]at this;omega
 exact⟨A,U,T.l,zfk F C H hY G I D h1 k1 (by rw[←T.i];exact h3)⟩
section
structure PwV (vs:List Vr) (o:Ko) (d a b c:Nat):Prop where
 hk:o.kind=13
 hv:P3 vs=true
 ho:Nf vs o=true
 fd:o.d=d∧d<vs.length
 fa:o.a=a∧a<vs.length
 fb:o.b=b∧b<vs.length
 fc:o.c=c∧c<vs.length
 e:o.e=-1
 la:(gv vs a).limbs=(gv vs d).limbs
 lc:(gv vs c).limbs=(gv vs d).limbs
 w:1≤o.imm.toNat∧o.imm.toNat≤6
 md:Q2 (gv vs d)=false
 sec:(gv vs d).sec=false→(gv vs a).sec=false∧(gv vs b).sec=false∧(gv vs c).sec=false
def lpsL_len':∀(n:Nat) (i:Int),(Pb n i).length=n
 |0,_=>rfl
 |n+1,i=>by rw[Pb,Ig,lpsL_len']
section pl
variable {vs : List Vr} {o : Ko} {d a b c : Nat}
def Oy(vs:List Vr)(d:Nat):Nat:=if (gv vs d).sec=true then vs.length+1 else vs.length
structure PwF (vs:List Vr) (o:Ko) (d a b c:Nat) (p:Pw):Prop where
 pd:p.d=⟨d,0,(gv vs d).limbs.toNat⟩
 pa:p.a=⟨a,0,(gv vs d).limbs.toNat⟩
 pb:p.b=⟨b,0,(gv vs b).limbs.toNat⟩
 pn:p.n=⟨c,0,(gv vs d).limbs.toNat⟩
 wb:p.wb=Oy vs d
 wa:p.wa=0
 k:p.k=(gv vs d).limbs.toNat
 w:p.w=o.imm.toNat
 ti:p.times*p.w=64*p.b.k+p.over
 ov:p.over≤63∧p.over<p.w
 t4:p.times≤40000
 B:p.B=if (gv vs d).sec=true then 40 else 16
structure PwL (vs:List Vr) (o:Ko):Prop where
 n:vs.length≤30
 m:∀i,i<vs.length→(gv vs i).mode=0
 w:workP vs o≤32768
def lg(vs:List Vr)(d:Nat):vs.length≤Oy vs d∧Oy vs d<vs.length+2:=by unfold Oy;split<;>omega
def pl_bp{i:Nat}{n:Nat}(hv:P3 vs=true)(hi:i<vs.length)(g:(n:Int)=(gv vs i).limbs){W:Int}:Bp (Nt vs W) ⟨i,0,n⟩∧Bw (Nt vs W) ⟨i,0,n⟩:=by
 have j:=V3 hv hi;refine⟨⟨by rw[plB_len];simp only;omega,?_,?_⟩,?_⟩
 ·simp only;rw[U3 hi];simp only;omega
 ·simp only;rw[U3 hi];simp only;omega
 ·unfold Bw;rw[U3 hi];simp
def Xl(bs:List Bf)(X:List (List UInt64)):Prop:=X.length=bs.length∧∀i,i<bs.length→((X.getD i []).length:Int)=(M7 bs i).size
end pl
end


def za9:LC:=(.q [.K 4 0] (.seq (.q [.m 8 0,.s 9 8,.m 10 1,.s 11 10,.z 12 (.maxi true (.t 9) (.t 11)),.b 13 .sub 3 12 1,.m 5 13] (.block 0 (.loop (.seq (.q [.m 14 5,.b 15 .geq 3 14 0] (.cond (.t 15) .skip (.exit 0))) (.seq (.block 1 (.q [.m 18 0,.m 19 5,.W 20 130 18 19,.m 21 1,.m 22 5,.W 23 130 21 22,.m 6 20,.m 7 23] (.seq (.q [.m 24 6,.m 25 7,.c 26 .lss 23 24 25] (.cond (.t 26) (.q [.K 4 (-1)] .ret) .skip)) (.q [.m 27 6,.m 28 7,.c 29 .gtr 23 27 28] (.cond (.t 29) (.q [.K 4 1] .ret) .skip))))) (.ops [.m 16 5,.b 17 .sub 3 16 1,.m 5 17])))))) (.q [.K 4 0] .ret)))
def r_ref02_Compare:My Tryz.prog 66=some ⟨30,za9.r,[.tmp 4]⟩:=Aa
def zjb:LC:=(.q [.e 4,.K 5 0] (.seq (.q [.m 10 0,.m 11 1,.W 12 66 10 11,.b 13 .lss 3 12 0] (.cond (.t 13) (.q [.e 4,.K 5 2] .ret) .skip)) (.q [.e 6] (.q [.F 7] (.seq (.q [.K 8 0] (.block 0 (.loop (.seq (.q [.m 14 8,.m 15 0,.s 16 15,.m 17 1,.s 18 17,.z 19 (.maxi true (.t 16) (.t 18)),.c 20 .lss 3 14 19] (.cond (.t 20) .skip (.exit 0))) (.seq (.block 1 (.q [.z 9 (.move (.c (.u 0)))] (.q [.m 24 0,.m 25 8,.W 26 130 24 25,.m 27 1,.m 28 8,.W 29 130 27 28,.m 30 7,.V 31 147 26 29 30,.m 23 31,.X 32 0 23,.X 33 1 23,.m 9 32,.m 7 33] (.ops [.m 34 6,.m 35 9,.z 36 (.buildSl 1 1 [(.u 0)] [(0,1,.t 35)]),.a 37 1 34 36,.m 6 37])))) (.ops [.m 21 8,.b 22 .add 3 21 1,.m 8 22])))))) (.q [.m 38 6,.w 39 84 38,.m 4 39,.K 5 0] .ret))))))
def r_ref02_Sub:My Tryz.prog 83=some ⟨40,zjb.r,[.tmp 4,.tmp 5]⟩:=Aa
def zfr:LC:=(.q [.K 2 0] (.q [.m 3 0,.w 4 84 3,.m 0 4] (.seq (.q [.m 5 0,.s 6 5,.b 7 .eql 3 6 0] (.cond (.t 7) (.q [.K 2 0] .ret) .skip)) (.q [.m 8 0,.s 9 8,.b 10 .sub 3 9 1,.z 11 (.bin .mul true 3 (.k 64) (.t 10)),.m 12 0,.m 13 0,.s 14 13,.b 15 .sub 3 14 1,.I 16 1 12 15,.l 17 16,.w 18 146 17,.c 19 .add 3 11 18,.m 2 19] .ret))))
def r_ref02_Bits:My Tryz.prog 80=some ⟨20,zfr.r,[.tmp 2]⟩:=Aa
def zcz:LC:=(.q [.F 4] (.q [.m 5 1,.b 6 .geq 3 5 0,.m 7 6,.my 8 7 0,.my 9 7 1,.y 10 7 (.bin .quo true 3 (.t 9) (.k 64)),.y 11 7 (.w 130 [.t 8,.t 10]),.my 12 7 1,.y 13 7 (.bin .rem true 3 (.t 12) (.k 64)),.y 14 7 (.cvInt .u64 (.t 13)),.y 15 7 (.bin .shr false 23 (.t 11) (.t 14)),.y 16 7 (.bin .and true 23 (.t 15) (.c (.u 1))),.y 17 7 (.bin .eql true 23 (.t 16) (.c (.u 1))),.q 18 7 17,.m 4 18] .ret))
def r_ref02_Bit:My Tryz.prog 82=some ⟨19,zcz.r,[.tmp 4]⟩:=Aa
def zga:LC:=(.q [.F 4] (.q [.m 5 0,.m 6 1,.W 7 66 5 6,.b 8 .eql 3 7 0,.m 4 8] .ret))
def r_ref02_Same:My Tryz.prog 150=some ⟨9,zga.r,[.tmp 4]⟩:=Aa
def znj(a:List UInt64)(D:a.length≤1000000):Mu 80 [LU a] (.i (O9 (val a))) []:=by
 refine Ng.val rfl (Mz r_ref02_Bits Aa N ?_);simp[zfr];refine M2 (W8 a J) N ?_;have E:=z2k a;cases g:(M5 (val a)).length with
 |zero =>
  have C:val a=0:=zew.1 (Ic g);simp[RU,C,toL_zero,blen_zero]
 |succ n =>
  have B:=eu (tt (val a)) g;rw[Q1]at B;have z:¬((n:Int)+1=0):=J
  have A:((n:Int)+1-1).toNat=n:=J
  have j:M5 (val a)≠[]:=λe=>by rw[e]at g;simp at g
  simp[RU,g,z,A,j];refine⟨J,J,J,J,?_⟩;refine M2 (zn8 ((M5 (val a)).getD n 0)) At ?_;have F:O9 ((M5 (val a)).getD n 0).toNat≤64:=zsx (UInt64.toNat_lt _);rw[B];generalize O9 ((M5 (val a)).getD n 0).toNat=x at *;simp;omega
def zfj(a:List UInt64)(i:Int)(hi:i<9223372036854775808):Mu 82 [LU a,.i i] (.bool (decide (0≤i)&&(val a).testBit i.toNat)) []:=by
 refine Ng.val rfl (Mz r_ref02_Bit Aa N ?_);by_cases j:0≤i
 ·obtain⟨n,rfl⟩:=Hr j;have A:=zq a n;have z:(n:Int)/64=(n/64:Nat):=J
  have B:(n:Int).tmod 64=(n%64:Nat):=by rw[Mj J];omega
  have hu:=bit_u' (a.getD (n/64) 0) (n%64);rw[A]at hu;have g:(iU ((n%64:Nat):Int)).toNat=n%64:=ax J;simp[zcz];refine⟨J,?_⟩;rw[z];refine M2 (zs a (n/64:Nat)) N ?_;simp;rw[z,B,g];simp at hu;simp only[If,Ja,Ky];rw[hu];cases (val a).testBit n<;>simp
 ·simp[zcz,j]
def z20(a b:List UInt64)(F:a.length≤1000000)(G:b.length≤1000000):Mu 66 [LU a,LU b] (.i (Pp (val a) (val b))) []:=by
 refine Ng.val rfl (Mz r_ref02_Compare Aa (by simp) ?_);simp[za9];refine⟨J,?_⟩;refine Oc (λD E H N=>E=[]∧N≤1000000∧lk D 0=LU a∧lk D 1=LU b∧lk D 5=.i ((N:Int)-1)∧Pp (val a) (val b)=Pp (val (a.take N)) (val (b.take N))) (N:=max a.length b.length) ⟨by simp,J,by simp,by simp,Ab,by rw[z4o J,z4o J]⟩ ?_;rintro N D E H ⟨rfl,I,C,z,j,g⟩ K A;cases N with
 |zero =>
  simp[j];rw[g];simp[val,Pp]
 |succ N =>
  have e:((N+1:Nat):Int)-1=N:=J
  rw[e]at j;simp[C,z,j];refine M2 (zs a N) (by simp) ?_;simp[z,j];refine M2 (zs b N) (by simp) ?_;rw[ip]at g;simp at g;simp;rw[g];generalize a[N]?.getD 0=x at *;generalize b[N]?.getD 0=y at *;refine⟨λl=>by rw[Hv l],λl=>⟨λB=>by rw[Hs (Mn.2 l),Hv B],λB=>?_⟩⟩;rw[Hs (Mn.2 l),Hs (Mn.2 B)]at g;simp[j];exact⟨J,A _ _ _ ⟨N,J,rfl,J,Al,Ae,by simp,g⟩⟩
def zmr(a b:List UInt64)(g:a.length≤1000000)(j:b.length≤1000000):Mu 150 [LU a,LU b] (.bool (decide (val a=val b))) []:=by
 refine Ng.val rfl (Mz r_ref02_Same Aa N ?_);simp[zga];refine M2 (z20 a b g j) N ?_;simp[zst]
def zaa(a b:List UInt64)(K:a.length≤1000000)(L:b.length≤1000000):Mu 83 [LU a,LU b] (.tup [.dy 0 0,.i (if val a<val b then 2 else 0)]) [RU (if val a<val b then [] else M5 (val a-val b))]:=by
 refine Ng.rowE (Mz r_ref02_Sub Aa (by simp) ?_);simp[zjb];refine M2 (z20 a b K L) (by simp) ?_;by_cases z:val a<val b
 ·simp[zlz,z,Qd]
 simp[zlz,zhy,z];refine Oc (λH U V I=>∃(i:Nat) (c:Bool) (g:List UInt64),U=[]∧I+i=max a.length b.length∧lk H 0=LU a∧lk H 1=LU b∧lk H 8=.i i∧lk H 7=.bool c∧Qd V (lk H 6) g∧g.length=i ∧
  val g+val (b.take i)=val (a.take i)+2^(64*i)*c.toNat) (N:=max a.length b.length) ⟨0,false,[],by simp[Qd,val]⟩ ?_
 rintro I H U V ⟨i,c,g,rfl,X,D,B,C,M,E,j,hv⟩ Y F;by_cases O:I=0
 ·subst O;have G:¬(i:Int)<max (a.length:Int) (b.length:Int):=J
  simp[D,B,C,G];obtain⟨P,Q⟩:=um (m:=i) J J j hv;refine z8z (W8 g J) (zw4 E.bor) ?_;have R:c=false:=by cases c with
   |true=>exact absurd (P.1 rfl) z
   |false=>rfl
  rw[Q R];simpa using Qd.new
 ·have A:(i:Int)<max (a.length:Int) (b.length:Int):=J
  simp[D,B,C,A];refine M2 (zs a i) (by simp) ?_;simp[B,C];refine M2 (zs b i) (by simp) ?_;simp[M];refine M2 (zfp (a.getD i 0) (b.getD i 0) c) (by simp) ?_;simp[E];refine ztn (E.app _) (xs:=[(Og (a.getD i 0) (b.getD i 0) c).1]) rfl (by simp) J (λZ G' T _=>?_);simp[C];refine⟨J,F _ _ _ ⟨I-1,J,i+1,(Og (a.getD i 0) (b.getD i 0) c).2,_,rfl,J,Ak,Ao,by simp,by simp,by simpa using T,Af,ir j hv⟩⟩
def zi4:LC:=(.q [.e 4] (.q [.m 15 0,.w 16 84 15,.m 17 1,.w 18 84 17,.m 0 16,.m 1 18] (.q [.m 19 0,.s 20 19,.m 21 1,.s 22 21,.c 23 .add 3 20 22,.z 24 (.mkSl 1 [(.u 0)] (.t 23) (.t 23)),.m 5 24] (.seq (.q [.K 6 0] (.block 0 (.loop (.seq (.q [.m 25 6,.m 26 0,.s 27 26,.c 28 .lss 3 25 27] (.cond (.t 28) .skip (.exit 0))) (.seq (.block 1 (.q [.z 7 (.move (.c (.u 0)))] (.seq (.q [.K 8 0] (.block 2 (.loop (.seq (.q [.m 31 8,.m 32 1,.s 33 32,.c 34 .lss 3 31 33] (.cond (.t 34) .skip (.exit 2))) (.seq (.block 3 (.seq (.draw [(.m 38 0,[]),(.m 39 6,[]),(.I 40 1 38 39,[]),(.l 41 40,[]),(.m 42 1,[]),(.m 43 8,[]),(.I 44 1 42 43,[]),(.l 45 44,[]),(.W 46 91 41 45,[]),(.m 37 46,[]),(.X 47 0 37,[]),(.X 48 1 37,[]),(.m 9 47,[]),(.m 10 48,[])]) (.q [.m 50 5,.m 51 6,.m 52 8,.c 53 .add 3 51 52,.I 54 1 50 53,.l 55 54,.m 56 10,.z 57 (.w 92 [.t 55,.t 56,.F]),.m 49 57,.X 58 0 49,.X 59 1 49,.m 11 58,.m 12 59] (.q [.m 61 11,.m 62 7,.z 63 (.w 92 [.t 61,.t 62,.F]),.m 60 63,.X 64 0 60,.X 65 1 60,.m 13 64,.m 14 65] (.q [.m 66 5,.m 67 6,.m 68 8,.c 69 .add 3 67 68,.m 70 13,.I 71 1 66 69,.S 1 71 70] (.q [.m 73 9,.m 74 12,.z 75 (.w 92 [.t 73,.c (.u 0),.t 74]),.m 72 75,.X 76 0 72,.X 77 1 72,.m 7 76] (.ops [.m 79 7,.m 80 14,.z 81 (.w 92 [.t 79,.c (.u 0),.t 80]),.m 78 81,.X 82 0 78,.X 83 1 78,.m 7 82]))))))) (.ops [.m 35 8,.b 36 .add 3 35 1,.m 8 36])))))) (.ops [.m 84 5,.m 85 6,.m 86 1,.s 87 86,.c 88 .add 3 85 87,.m 89 7,.I 90 1 84 88,.S 1 90 89])))) (.ops [.m 29 6,.b 30 .add 3 29 1,.m 6 30])))))) (.q [.m 91 5,.w 92 84 91,.m 4 92] .ret)))))
def r_ref02_Mul:My Tryz.prog 31=some ⟨93,zi4.r,[.tmp 4]⟩:=Aa
def zg6(G H:List UInt64)(gH:G.length≤500000)(gI:H.length≤500000):Mu 31 [LU G,LU H] (.dy 0 0) [RU (M5 (val G*val H))]:=by
 refine Ng.row (Mz r_ref02_Mul Aa (by simp) ?_);simp[zi4];refine M2 (W8 G J) (by simp) ?_;simp[RU];refine M2 (W8 H J) (by simp) ?_;have U:=z2k G;have V:=z2k H;obtain⟨a,X⟩:∃a,M5 (val G)=a:=⟨_,rfl⟩;obtain⟨b,Y⟩:∃b,M5 (val H)=b:=⟨_,rfl⟩;have va:val G=val a:=by rw[←X,Q1]
 have vb:val H=val b:=by rw[←Y,Q1]
 rw[X]at U;rw[Y]at V;rw[X,Y,va,vb];have ha:a.length≤500000:=J
 have hb:b.length≤500000:=J
 simp[RU];refine⟨J,J,J,?_⟩;have Z:((a.length:Int)+b.length).toNat=a.length+b.length:=J
 simp[Z,uy];refine Oc (λL gE gF N=>∃(i:Nat) (g:List UInt64) (st:Nat),gE=[]∧N+i=a.length∧gF=[.dyn (g.map .u) (a.length+b.length) 1 0 st]∧lk L 0=LU a∧lk L 1=LU b∧lk L 5=.dy 0 0∧lk L 6=.i i∧sk a b i 0 g 0) (N:=a.length) ⟨0,List.replicate (a.length+b.length) 0,0,by simp[Zm]⟩ ?_;rintro N L gE gF ⟨i,g,st,rfl,hN,rfl,I,M,E,D,K⟩ Nx gg;have O:=K.1;by_cases hz:N=0
 ·have hi:i=a.length:=J
  subst hi;simp[D,I,E];refine z8z (W8 g J) (zw4 (Qd.bor (l:=g) (.inr ⟨0,0,st,rfl,Dv⟩))) ?_;rw[ci K];simp;exact .inr ⟨1,0,0,rfl,Cc⟩
 have hi:i<a.length:=J
 simp[D,I,hi];refine Oc (λL gE gF gG=>∃(k:Nat) (g:List UInt64) (j:UInt64) (st:Nat),gE=[]∧gG+k=b.length∧gF=[.dyn (g.map .u) (a.length+b.length) 1 0 st]∧lk L 0=LU a∧lk L 1=LU b∧lk L 5=.dy 0 0∧lk L 6=.i i∧lk L 7=.u j∧lk L 8=.i k∧sk a b i k g j) (N:=b.length) ⟨0,g,0,st,by simp[I,M,E,D,K]⟩ ?_;rintro gG L gE gF ⟨k,g,j,st,rfl,gK,rfl,I,M,E,D,h7,P,K⟩ Mx gz;have O:=K.1;by_cases gL:gG=0
 ·have Q:k=b.length:=J
  subst Q;have B:i+b.length<g.length:=J
  have z:((i:Int)+b.length).toNat=i+b.length:=J
  have A:=jr g (i+b.length) j B;simp[P,E,D,M,h7,z,A];refine⟨J,J,J,J,J,?_⟩;exact gg _ _ _ ⟨N-1,J,i+1,g.set (i+b.length) j,st+1,rfl,J,by simp,Ay,A0,Ai,by simp,Ze hi K⟩
 have Q:k<b.length:=J
 have B:i+k<g.length:=J
 have z:((i:Int)+k).toNat=i+k:=J
 have C:=zxq hi Q K;have A:=jr g (i+k) (Ta (g.getD (i+k) 0) (a.getD i 0) (b.getD k 0) j).1 B;have F:(Ta (g.getD (i+k) 0) (a.getD i 0) (b.getD k 0) j).1=(M1 (M1 (g.getD (i+k) 0) (a.getD i 0*b.getD k 0) false).1 j false).1:=rfl;have R:(Ta (g.getD (i+k) 0) (a.getD i 0) (b.getD k 0) j).2=(M1 (M1 (Ss (a.getD i 0) (b.getD k 0)) 0 (M1 (g.getD (i+k) 0) (a.getD i 0*b.getD k 0) false).2).1 0 (M1 (M1 (g.getD (i+k) 0) (a.getD i 0*b.getD k 0) false).1 j false).2).1:=rfl;have gA:a[i]=a.getD i 0:=by simp[hi]
 have gC:b[k]=b.getD k 0:=by simp[Q]
 have gD:g[i+k]=g.getD (i+k) 0:=Ao
 generalize a.getD i 0=x at *;generalize b.getD k 0=y at *;generalize g.getD (i+k) 0=o at *;simp[P,I,M,Q,D,hi];rw[gA,gC];refine M2 (zfi x y) (by simp) ?_;simp[E,D,P,z,B];rw[gD];refine⟨J,J,J,?_⟩;refine M2 (z4q o (x*y) false) (by simp) ?_;generalize M1 o (x*y) false=T at *;simp[h7];refine M2 (z4q T.1 j false) (by simp) ?_;generalize M1 T.1 j false=r2 at *;rw[F]at A;simp[E,D,P,z,A];refine⟨J,J,J,J,?_⟩;refine M2 (z4q (Ss x y) 0 T.2) (by simp) ?_;generalize M1 (Ss x y) 0 T.2=r3 at *;simp;refine M2 (z4q r3.1 0 r2.2) (by simp) ?_;generalize M1 r3.1 0 r2.2=r4 at *;simp[P];refine⟨J,?_⟩;rw[F,R]at C;exact gz _ _ _ ⟨gG-1,J,k+1,g.set (i+k) r2.1,r4.1,st+1,rfl,J,by simp,Ay,A0,Ai,Ak,by simp,by simp,C⟩
def zj8:LC:=(.q [.e 4,.e 5,.K 6 0] (.seq (.q [.m 10 1,.z 11 (.w 66 [.t 10,(.c .nilSl)]),.b 12 .eql 3 11 0] (.cond (.t 12) (.q [.e 4,.e 5,.K 6 2] .ret) .skip)) (.q [.m 13 0,.s 14 13,.z 15 (.mkSl 1 [(.u 0)] (.t 14) (.t 14)),.z 16 (.buildSl 1 0 [] []),.m 7 15,.m 8 16] (.seq (.q [.m 17 0,.w 18 80 17,.b 19 .sub 3 18 1,.m 9 19] (.block 0 (.loop (.seq (.q [.m 20 9,.b 21 .geq 3 20 0] (.cond (.t 21) .skip (.exit 0))) (.seq (.block 1 (.q [.m 24 8,.m 25 8,.W 26 81 24 25,.m 8 26] (.seq (.q [.m 27 0,.m 28 9,.W 29 82 27 28] (.cond (.t 29) (.ops [.m 30 8,.z 31 (.buildSl 1 1 [(.u 0)] [(0,1,.c (.u 1))]),.W 32 81 30 31,.m 8 32]) .skip)) (.q [.m 33 8,.m 34 1,.W 35 66 33 34,.b 36 .geq 3 35 0] (.cond (.t 36) (.q [.m 38 8,.m 39 1,.W 40 83 38 39,.m 37 40,.X 41 0 37,.X 42 1 37,.m 8 41] (.ops [.m 43 7,.m 44 9,.b 45 .quo 3 44 64,.m 46 7,.m 47 9,.b 48 .quo 3 47 64,.I 49 1 46 48,.l 50 49,.m 51 9,.b 52 .rem 3 51 64,.z 53 (.cvInt .u64 (.t 52)),.z 54 (.bin .shl true 23 (.c (.u 1)) (.t 53)),.c 55 .or 23 50 54,.I 56 1 43 45,.S 1 56 55])) .skip))))) (.ops [.m 22 9,.b 23 .sub 3 22 1,.m 9 23])))))) (.q [.m 57 7,.w 58 84 57,.m 59 8,.w 60 84 59,.m 4 58,.m 5 60,.K 6 0] .ret)))))
def r_ref02_Div:My Tryz.prog 28=some ⟨61,zj8.r,[.tmp 4,.tmp 5,.tmp 6]⟩:=Aa
def lu(g:Mp)(v:LV)(r:List UInt64):Prop:=(v=.dy 1 0∧r=[]∧∃st,g[1]?=some (.dyn [] 0 1 0 st))∨v=LU r
def lu.bor{G:Mp}{v:LV}{r:List UInt64}(h:lu G v r):bor G v (LU r):=by
 rcases h with ⟨rfl,rfl,st,hg⟩|rfl
 ·exact⟨_,_,_,st,rfl,hg,N⟩
 ·exact⟨rfl,N⟩
def z7t(a b:List UInt64)(ha:a.length≤10000)(hb:b.length≤10000):Mu 28 [LU a,LU b] (.tup [.dy 0 0,.dy 1 0,.i (if val b=0 then 2 else 0)]) [RU (if val b=0 then [] else M5 (val a/val b)),RU (if val b=0 then [] else M5 (val a%val b))]:=by
 refine Ng.row2E (Mz r_ref02_Div Aa (by simp) ?_);simp[zj8];refine M2 (z20 b [] J (by simp)) (zr2 (by simp) (.inr ⟨1,by simp⟩)) ?_;by_cases h0:val b=0
 ·simp[h0,val,zst,Qd];exact⟨_,_,⟨rfl,rfl⟩,rfl,rfl,by simp⟩
 simp[h0,val,zst,uy];refine⟨J,?_⟩;refine M2 (znj a J) (by simp) ?_;have gA:=zsx (val_lt a);simp;refine⟨J,?_⟩;refine Oc (λρ gO gC N=>∃(q r:List UInt64) (v:LV) (st:Nat),gO=[]∧N≤64*a.length∧lk ρ 0=LU a∧lk ρ 1=LU b∧lk ρ 7=.dy 0 0∧gC[0]?=some (.dyn (q.map .u) a.length 1 0 st)∧q.length=a.length∧lk ρ 8=v∧lu gC v r∧lk ρ 9=.i ((N:Int)-1)∧r.length≤b.length∧y7 (val a) (val b) N q (val r)) (N:=O9 (val a)) ⟨List.replicate a.length 0,[],.dy 1 0,0,by simp[lu,val,gA];exact zyi⟩ ?_;rintro N ρ gO gC ⟨q,r,v,st,rfl,hN,F,O,U,X,z,h8,hr,P,gD,Y⟩ Nx M;cases N with
 |zero =>
  obtain⟨e1,e2⟩:=sj Y;simp[P,U];refine z8z (W8 q J) (zw4 (Qd.bor (l:=q) (.inr ⟨0,0,st,rfl,by rw[z];exact X⟩))) ?_;have gE:lu (gC++[RU (M5 (val q))]) v r:=by
   rcases hr with ⟨x,y,s,gP⟩|x
   ·exact .inl ⟨x,y,s,vk gP _⟩
   ·exact .inr x
  simp[h8];refine z8z (W8 r J) (zw4 gE.bor) ?_;rw[e1,e2];simp;exact⟨_,_,⟨rfl,rfl⟩,.inr ⟨_,0,0,rfl,Cc⟩,.inr ⟨_,0,0,rfl,Cc⟩,by simp⟩
 |succ n =>
  have e:((n+1:Nat):Int)-1=n:=J
  rw[e]at P;have Z:((n:Int)/64).toNat=n/64:=J
  have gg:(n:Int).tmod 64=(n%64:Nat):=by rw[Mj J];omega
  have gz:(iU ((n:Int)%64)).toNat=n%64:=by rw[(J:(n:Int)%64=(n%64:Nat))];exact ax J
  have Q:n/64<a.length:=J
  have D:n/64<q.length:=J
  have hB:0<val b:=J
  have gG:val r<val b:=by rw[Y.1];exact Ix _ hB
  have gF:=Zt gD;have gH:=val_lt b;have gI:2^(64*(b.length+1))=2^(64*b.length)*18446744073709551616:=zvb _;obtain⟨s,C⟩:∃s,2*val r+((val a).testBit n).toNat=s:=⟨_,rfl⟩;have gK:((val a).testBit n).toNat≤1:=Mo _;have gL:(M5 s).length≤b.length+1:=ai J;have E:val (M5 s)=s:=Q1 s;have gM:(M5 (val r+val r)).length≤b.length+1:=ai J;have hk:∀q':List UInt64,s<val b→y7 (val a) (val b) n q' s→(M5 s).length≤b.length:=λq' h _=>ai J
  have R:(M5 (s-val b)).length≤b.length:=ai J;have G:∀x,(gC++x)[0]?=some (.dyn (q.map .u) a.length 1 0 st):=λx=>vk X x
  have T : ∀(x : Mp) (h : 0<(gC ++ x).length), (gC ++ x)[0]'h = .dyn (q.map .u) a.length 1 0 st := λx h => (Hm.1 (G x)).2
  simp[h8,P];refine M2 (zam r r J J) (zr2 hr.bor hr.bor) ?_;simp[RU,F,P];refine M2 (zfj a n J) (by simp) ?_;cases g:(val a).testBit n
  ·rw[g]at C;have es:val r+val r=s:=by simp at C;omega
   simp[g,es,O];refine M2 (z20 (M5 s) b J J) (by simp) ?_;rw[E];by_cases A:val b≤s
   ·have j:0≤Pp s (val b):=zhy.2 A;have H:¬s<val b:=J
    have I:=zv3 (q:=q) hB D Y (by rw[g,C];exact A);rw[g,C]at I;have K:=jr q (n/64) (Yp (q.getD (n/64) 0) (Q3 1 (n%64))) D;have V:q[n/64]=q.getD (n/64) 0:=Ak
    generalize q.getD (n/64) 0=x at *;simp[j,O];refine M2 (zaa (M5 s) b J J) (by simp) ?_;rw[E];simp[RU,H,U,P,Z,gg,gz,X,G,T,Q,z,V,K];refine⟨J,J,J,J,J,J,J,M _ _ _ ⟨n,J,q.set (n/64) (Yp x (Q3 1 (n%64))),M5 (s-val b),LU (M5 (s-val b)),st+1,rfl,J,Am,Dv,Bm,by rw[gset X];simp,Ae,by simp,.inr rfl,by simp,R,by rw[Q1];exact I⟩⟩
   ·have L:s<val b:=J
    have j:¬0≤Pp s (val b):=λh=>A (zhy.1 h)
    have B:=zt4 (q:=q) hB Y (by rw[g,C];exact L);rw[g,C]at B;simp[j,P];exact⟨J,M _ _ _ ⟨n,J,q,M5 s,LU (M5 s),st,rfl,J,Am,Dv,Bm,X,z,by simp,.inr rfl,by simp,hk q L (by rw[g,C]at *;exact B),by rw[E];exact B⟩⟩
  ·rw[g]at C;have es:val (M5 (val r+val r))+val [1]=s:=by rw[Q1,zn4];simp at C ⊢;omega
   simp[g];refine M2 (zam (M5 (val r+val r)) [1] J (by simp)) (zr2 (by simp) (Qd.bor (l:=[1]) (.inr ⟨_,0,0,rfl,by simp⟩))) ?_;rw[es];simp[RU,O];refine M2 (z20 (M5 s) b J J) (by simp) ?_;rw[E];by_cases A:val b≤s
   ·have j:0≤Pp s (val b):=zhy.2 A;have H:¬s<val b:=J
    have I:=zv3 (q:=q) hB D Y (by rw[g,C];exact A);rw[g,C]at I;have K:=jr q (n/64) (Yp (q.getD (n/64) 0) (Q3 1 (n%64))) D;have V:q[n/64]=q.getD (n/64) 0:=Ak
    generalize q.getD (n/64) 0=x at *;simp[j,O];refine M2 (zaa (M5 s) b J J) (by simp) ?_;rw[E];simp[RU,H,U,P,Z,gg,gz,X,G,T,Q,z,V,K];refine⟨J,J,J,J,J,J,J,M _ _ _ ⟨n,J,q.set (n/64) (Yp x (Q3 1 (n%64))),M5 (s-val b),LU (M5 (s-val b)),st+1,rfl,J,Am,Dv,Bm,by rw[gset (G _)];simp,Ae,by simp,.inr rfl,by simp,R,by rw[Q1];exact I⟩⟩
   ·have L:s<val b:=J
    have j:¬0≤Pp s (val b):=λh=>A (zhy.1 h)
    have B:=zt4 (q:=q) hB Y (by rw[g,C];exact L);rw[g,C]at B;simp[j,P];exact⟨J,M _ _ _ ⟨n,J,q,M5 s,LU (M5 s),st,rfl,J,Am,Dv,Bm,(G _),z,by simp,.inr rfl,by simp,hk q L (by rw[g,C]at *;exact B),by rw[E];exact B⟩⟩
def zg9:LC:=(.q [.e 4,.K 5 0] (.q [.m 10 0,.m 11 1,.W 12 28 10 11,.m 9 12,.X 13 0 9,.X 14 1 9,.X 15 2 9,.m 6 13,.m 7 14,.m 8 15] (.q [.m 16 7,.m 17 8,.m 4 16,.m 5 17] .ret)))
def r_ref03_rest:My Tryz.prog 93=some ⟨18,zg9.r,[.tmp 4,.tmp 5]⟩:=Aa
def zju:LC:=(.q [.e 6,.K 7 0] (.q [.m 15 0,.m 16 2,.W 17 93 15 16,.m 14 17,.X 18 0 14,.X 19 1 14,.m 8 18,.m 9 19] (.seq (.q [.m 20 9,.b 21 .neq 35 20 0] (.cond (.t 21) (.q [.m 22 9,.e 6,.m 7 22] .ret) .skip)) (.q [.m 24 1,.m 25 2,.W 26 93 24 25,.m 23 26,.X 27 0 23,.X 28 1 23,.m 10 27,.m 11 28] (.q [.m 30 8,.m 31 2,.W 32 81 30 31,.m 33 10,.W 34 83 32 33,.m 29 34,.X 35 0 29,.X 36 1 29,.m 12 35,.m 13 36] (.q [.m 37 12,.m 38 2,.W 39 93 37 38,.X 40 0 39,.X 41 1 39,.m 6 40,.m 7 41] .ret))))))
def r_ref03_Sub:My Tryz.prog 152=some ⟨42,zju.r,[.tmp 6,.tmp 7]⟩:=Aa
def zhj:LC:=(.q [.e 6,.K 7 0] (.q [.m 8 0,.m 9 1,.W 10 31 8 9,.m 11 2,.W 12 93 10 11,.X 13 0 12,.X 14 1 12,.m 6 13,.m 7 14] .ret))
def r_ref03_Mul:My Tryz.prog 54=some ⟨15,zhj.r,[.tmp 6,.tmp 7]⟩:=Aa
def zix:LC:=(.q [.e 4] (.q [.m 8 0,.w 9 84 8,.m 10 1,.w 11 84 10,.m 0 9,.m 1 11] (.seq (.block 0 (.loop (.seq (.q [.m 12 1,.s 13 12,.b 14 .gtr 3 13 0] (.cond (.t 14) .skip (.exit 0))) (.block 1 (.q [.m 16 0,.m 17 1,.W 18 28 16 17,.m 15 18,.X 19 0 15,.X 20 1 15,.X 21 2 15,.m 5 19,.m 6 20,.m 7 21] (.ops [.m 22 1,.m 23 6,.m 0 22,.m 1 23])))))) (.q [.m 24 0,.m 4 24] .ret))))
def r_ref03_Gcd:My Tryz.prog 151=some ⟨25,zix.r,[.tmp 4]⟩:=Aa
def zso(a b:List UInt64):(M5 (val a+val b)).length≤max a.length b.length+1:=by
 refine ai ?_;have g:=Zt (a:=a) (n:=max a.length b.length) J;have j:=Zt (a:=b) (n:=max a.length b.length) J;rw[zvb];omega
def zt1(a b:List UInt64):(M5 (val a*val b)).length≤a.length+b.length:=by
 refine ai ?_;have g:=val_lt a;have j:=val_lt b;rw[K3,Lw];exact Nat.mul_lt_mul'' g j
def zx8(a n:List UInt64)(h:val n≠0):(M5 (val a%val n)).length≤n.length:=m8 (Ix _ J)
def z39(a n:List UInt64)(g:a.length≤10000)(j:n.length≤10000):Mu 93 [LU a,LU n] (.tup [.dy 0 0,.i (mE (val n))]) [RU (mR (val n) (val a%val n))]:=by
 refine Ng.rowE (Mz r_ref03_rest Aa N ?_);simp[zg9];refine mo (z7t a n g j) N ?_;by_cases h:val n=0
 ·simp[h,mE,mR];exact .inr ⟨1,0,0,rfl,Cc⟩
 ·simp[h,mE,mR];exact .inr ⟨1,0,0,rfl,Cc⟩
def zg8(a b n:List UInt64)(g:a.length≤4000)(j:b.length≤4000)(z:n.length≤4000):Mu 54 [LU a,LU b,LU n] (.tup [.dy 0 0,.i (mE (val n))]) [RU (mR (val n) (val a*val b%val n))]:=by
 refine Ng.rowE (Mz r_ref03_Mul Aa N ?_);have A:=zt1 a b;simp[zhj];refine M2 (zg6 a b J J) N ?_;simp[RU];refine mo (z39 (M5 (val a*val b)) n J J) N ?_;simp[Q1];exact .inr ⟨0,0,0,rfl,Cc⟩
def zol(a b n:List UInt64)(z:a.length≤4000)(A:b.length≤4000)(B:n.length≤4000):Mu 152 [LU a,LU b,LU n] (.tup [.dy 0 0,.i (mE (val n))]) [RU (mR (val n) (Wg (val a) (val b) (val n)))]:=by
 refine Ng.rowE (Mz r_ref03_Sub Aa N ?_);simp[zju];refine M2 (z39 a n J J) N ?_;by_cases h:val n=0
 ·simp[RU,h,mE,mR,Qd]
 have C:=zx8 a n h;have D:=zx8 b n h;simp[RU,Ux h,Ur h];refine M2 (z39 b n J J) N ?_;simp[RU,Ux h,Ur h];have j:=zso (M5 (val a%val n)) n;refine M2 (zam (M5 (val a%val n)) n J J) N ?_;have g:¬val a%val n+val n<val b%val n:=by have:=Ix (val b) (J:0<val n);omega
 simp[RU];rw[Q1];rw[Q1]at j;refine M2 (zaa (M5 (val a%val n+val n)) (M5 (val b%val n)) J J) N ?_;have E:(M5 (val a%val n+val n-val b%val n)).length≤(M5 (val a%val n+val n)).length:=zfc (by rw[Q1];omega);simp[RU,Q1,g];refine mo (z39 (M5 (val a%val n+val n-val b%val n)) n J J) N ?_;simp[Q1,Ux h,Ur h];exact .inr ⟨0,0,0,rfl,by simp[RU,Wg]⟩
def zq6(g j:List UInt64)(L:g.length≤4000)(M:j.length≤4000):Od 151 [LU g,LU j] (LU (M5 (Nat.gcd (val g) (val j)))):=by
 refine Ra.mk (by simp[LV.dat]) (Mz r_ref03_Gcd Aa (by simp) ?_);have O:=z2k g;have P:=z2k j;simp[zix];refine M2 (W8 g J) (by simp) ?_;simp[RU];refine M2 (W8 j J) (by simp) ?_;simp[RU];refine Oc (λH K Q z=>∃x,K=[]∧lk H 0=LU (M5 x)∧lk H 1=LU (M5 z)∧Nat.gcd x z=Nat.gcd (val g) (val j)∧(M5 x).length≤4000∧(M5 z).length≤4000) (N:=val j) ⟨val g,Ab⟩ ?_;rintro z H K Q ⟨x,rfl,F,A,B,R,I⟩ T C;by_cases D:z=0
 ·subst D;simp[toL_zero]at A;simp at B;simp[F,A,B]
 ·have G:M5 z≠[]:=λe=>D (zew.1 e)
  have E:0<(M5 z).length:=K9.2 G;simp[F,A,G,E];refine M2 (z7t (M5 x) (M5 z) J J) (by simp) ?_;have U:(M5 (x%z)).length≤(M5 z).length:=m8 Ff;simp[RU,Q1,D];exact C _ _ _ ⟨x%z,Ix _ J,z,rfl,Ar,by simp,by rw[←B,K7 x z,Mm z x,K7],I,J⟩
def zdc:LC:=(.q [.F 2] (.q [.m 3 0,.s 4 3,.b 5 .gtr 3 4 0,.m 6 5,.my 7 6 0,.y 8 6 (.ixAddr 1 (.t 7) (.k 0)),.yl 9 6 8,.y 10 6 (.bin .rem true 23 (.t 9) (.c (.u 2))),.y 11 6 (.bin .eql true 23 (.t 10) (.c (.u 1))),.q 12 6 11,.m 2 12] .ret))
def r_ref03_odd:My Tryz.prog 89=some ⟨13,zdc.r,[.tmp 2]⟩:=Aa
def ze4:LC:=(.q [.e 2] (.q [.m 4 0,.b 5 .add 3 4 1,.z 6 (.mkSl 1 [(.u 0)] (.t 5) (.t 5)),.m 3 6] (.q [.m 7 3,.m 8 0,.I 9 1 7 8,.v (.store 1 (.t 9) (.c (.u 1)))] (.q [.m 10 3,.m 2 10] .ret))))
def r_ref03_power:My Tryz.prog 94=some ⟨11,ze4.r,[.tmp 2]⟩:=Aa
def z6r:LC:=(.q [.e 4,.K 5 0] (.seq (.q [.m 6 0,.b 7 .lss 3 6 0,.m 8 7,.mn 9 8 0,.nb 10 8 .gtr 3 9 512,.p 11 8 10] (.cond (.t 11) (.q [.e 4,.K 5 2] .ret) .skip)) (.q [.m 12 0,.w 13 94 12,.m 14 1,.W 15 93 13 14,.X 16 0 15,.X 17 1 15,.m 4 16,.m 5 17] .ret)))
def r_ref03_Radix:My Tryz.prog 33=some ⟨18,z6r.r,[.tmp 4,.tmp 5]⟩:=Aa
def zpv(n:List UInt64):Mu 89 [LU n] (.bool (Qh n)) []:=by
 refine Ng.val rfl (Mz r_ref03_odd Aa N ?_);cases n with
 |nil=>simp[zdc,Qh]
 |cons x l =>
  have h:(0:Int)<(l.length:Int)+1:=J
  simp[zdc,h,Qh,zet]
def zkh(k:Nat)(A:k≤512):Mu 94 [.i k] (.dy 0 0) [RU (List.replicate k 0++[1])]:=by
 refine Ng.row (Mz r_ref03_power Aa N ?_);have j:((k:Int)+1).toNat=k+1:=J
 have g:=jr (List.replicate (k+1) 0) k 1 N;have e:(List.replicate (k+1) (0:UInt64)).set k 1=List.replicate k 0++[1]:=by
  rw[List.replicate_succ'];simp[List.set_append]
 rw[e]at g;have z:Oj [LV.u 0] (k+1)=(List.replicate (k+1) (0:UInt64)).map .u:=uy _;simp only[List.map_replicate]at g z;simp[ze4,j,z,g];refine⟨J,J,J,J,?_⟩;exact .inr ⟨0,0,1,rfl,N⟩
def zki(l:Int)(n:List UInt64)(B:n.length≤4000):Mu 33 [.i l,LU n] (.tup [.dy 0 0,.i (rdE l (val n))]) [RU (rdR l (val n))]:=by
 refine Ng.rowE (Mz r_ref03_Radix Aa N ?_);by_cases j:l<0
 ·simp[z6r,j,rdE,rdR,Qd]
 by_cases g:512<l
 ·simp[z6r,j,g,rdE,rdR,Qd]
 obtain⟨k,rfl⟩:=Hr (J:0≤l);have z:¬((k:Int)<0):=J
 simp[z6r,g,z];refine M2 (zkh k J) N ?_;simp[RU];refine mo (z39 (List.replicate k 0++[1]) n Ab J) N ?_;have A:¬(512<(k:Int)):=g;simp[rdE,rdR,A,z,zxs];exact .inr ⟨0,0,0,rfl,Cc⟩
def zax:LC:=(.q [.e 4,.K 5 0] (.q [.m 20 0,.m 21 1,.W 22 93 20 21,.m 19 22,.X 23 0 19,.X 24 1 19,.m 6 23,.m 7 24] (.seq (.q [.m 25 7,.b 26 .neq 35 25 0] (.cond (.t 26) (.q [.m 27 7,.e 4,.m 5 27] .ret) .skip)) (.seq (.q [.m 28 6,.m 29 1,.W 30 151 28 29,.z 31 (.buildSl 1 1 [(.u 0)] [(0,1,.c (.u 1))]),.W 32 150 30 31,.z 33 (.un .not (.t 32))] (.cond (.t 33) (.q [.e 4,.K 5 5] .ret) .skip)) (.q [.m 34 1,.w 35 84 34,.m 36 6,.m 8 35,.m 9 36] (.q [.z 37 (.buildSl 1 0 [] []),.z 38 (.buildSl 1 1 [(.u 0)] [(0,1,.c (.u 1))]),.m 10 37,.m 11 38] (.seq (.block 0 (.loop (.seq (.q [.m 39 9,.s 40 39,.b 41 .gtr 3 40 0] (.cond (.t 41) .skip (.exit 0))) (.block 1 (.q [.m 43 8,.m 44 9,.W 45 28 43 44,.m 42 45,.X 46 0 42,.X 47 1 42,.X 48 2 42,.m 12 46,.m 13 47,.m 14 48] (.q [.m 50 12,.m 51 11,.m 52 1,.V 53 54 50 51 52,.m 49 53,.X 54 0 49,.X 55 1 49,.m 15 54,.m 16 55] (.q [.m 57 10,.m 58 15,.m 59 1,.V 60 152 57 58 59,.m 56 60,.X 61 0 56,.X 62 1 56,.m 17 61,.m 18 62] (.q [.m 63 9,.m 64 13,.m 8 63,.m 9 64] (.ops [.m 65 11,.m 66 17,.m 10 65,.m 11 66]))))))))) (.q [.m 67 10,.m 68 1,.W 69 93 67 68,.X 70 0 69,.X 71 1 69,.m 4 70,.m 5 71] .ret))))))))
def r_ref03_Inverse:My Tryz.prog 90=some ⟨72,zax.r,[.tmp 4,.tmp 5]⟩:=Aa
def zc5:LC:=(.q [.e 6,.K 7 0] (.q [.m 13 2,.m 14 1,.W 15 33 13 14,.m 12 15,.X 16 0 12,.X 17 1 12,.m 8 16,.m 9 17] (.seq (.q [.m 18 9,.b 19 .neq 35 18 0,.m 20 19,.mn 21 20 1,.n 22 20 (.w 89 [.t 21]),.n 23 20 (.un .not (.t 22)),.p 24 20 23] (.cond (.t 24) (.q [.e 6,.K 7 2] .ret) .skip)) (.q [.m 26 8,.m 27 1,.W 28 90 26 27,.m 25 28,.X 29 0 25,.X 30 1 25,.m 10 29,.m 11 30] (.q [.m 31 0,.m 32 10,.m 33 1,.V 34 54 31 32 33,.X 35 0 34,.X 36 1 34,.m 6 35,.m 7 36] .ret)))))
def r_ref03_Reduce:My Tryz.prog 30=some ⟨37,zc5.r,[.tmp 6,.tmp 7]⟩:=Aa
def RV(g:Mp)(v:LV)(l:List UInt64):Prop:=v=LU l∨(v=.nilSl∧l=[])∨∃q st,v=.dy q 0∧g[q]?=some (.dyn (l.map .u) l.length 1 0 st)
def RV.bor{G:Mp}{v:LV}{l:List UInt64}(h:RV G v l):bor G v (LU l):=by
 rcases h with rfl|⟨rfl,rfl⟩|⟨q,st,rfl,hg⟩
 ·exact⟨rfl,N⟩
 ·exact .inr ⟨1,N⟩
 ·exact⟨_,_,_,st,rfl,hg,N⟩
def fw{v d g j:LV}(h:Go.Sv.bor G v d)(A:Go.Sv.bor G O uU)(z:Go.Sv.bor G g j):bors G [v,O,g] [d,uU,j]:=⟨d,_,rfl,h,zr2 A z⟩
def zgp(a n:List UInt64)(ha:a.length≤4000)(hn:n.length≤4000):Od 90 [LU a,LU n] (.tup [LU (uw (val a) (val n)),.i (ua (val a) (val n))]):=by
 refine Ra.mk (by simp[LV.dat]) (Mz r_ref03_Inverse Aa (by simp) ?_);simp[zax];refine M2 (z39 a n J J) (by simp) ?_;by_cases h:val n=0
 ·simp[RU,h,mE,mR,ua,uw]
 have R:=zx8 a n h;rw[←o6,←ot];generalize val a%val n=x at *;simp[RU,Ux h,Ur h];refine Q5 (zq6 (M5 x) n J J) (by simp) ?_;have T:(M5 (Nat.gcd x (val n))).length≤n.length:=zfc (Nat.gcd_le_right _ J);rw[Q1];simp;refine M2 (zmr (M5 (Nat.gcd x (val n))) [1] J (by simp)) (zr2 (by simp) (Qd.bor (l:=[1]) (.inr ⟨_,0,0,rfl,by simp⟩))) ?_;rw[Q1,zn4];have U:(1:UInt64).toNat=1:=rfl;rw[U];by_cases g:Nat.gcd x (val n)=1
 rotate_left
 ·simp[g,ua,uw,h]
 rw[I7 g];simp;refine M2 (W8 n J) (by simp) ?_;have F:=z2k n;simp[RU];refine Oc (λM gg V j=>∃(u:Nat) (S B:List UInt64) (G C:LV),gg=[]∧lk M 1=LU n∧lk M 8=LU (M5 u)∧lk M 9=LU (M5 j)∧lk M 10=G∧lk M 11=C∧RV V G S∧RV V C B∧(M5 u).length≤n.length∧(M5 j).length≤n.length∧S.length≤4000∧B.length≤4000∧EU (val n) x u j (val S) (val B)) (N:=x)
  ⟨val n,[],[1],.dy 1 0,.dy 2 0,by simp,by simp,by simp,by simp,by simp,by simp,.inr (.inr ⟨1,0,rfl,by simp⟩),.inr (.inr ⟨2,0,rfl,by simp⟩),F,R,by simp,by simp,by simpa [val] using ztm (val n) x⟩ ?_
 rintro j M gg V ⟨u,S,B,G,C,rfl,D,X,E,z,A,O,P,l1,Y,l3,Z,H⟩ Nx I;by_cases K:j=0
 ·subst K;have hu:=gt H;rw[g]at hu;subst hu;have hi:=iu h H;rw[toL_zero]at E;simp[E,D,z];refine M2 (z39 S n J J) (zr2 O.bor (by simp)) ?_;simp[RU,Ux h,Ur h,ua,uw,h,g,hi]
 ·have Q:M5 j≠[]:=λe=>K (zew.1 e)
  have L:0<(M5 j).length:=K9.2 Q;have q1:(M5 (u/j)).length≤(M5 u).length:=zfc (by rw[Q1];exact L7 _ _);have q2:=m8 (b:=n) (Ix (u/j*val B) (J:0<val n));simp[X,E,Q,L];refine M2 (z7t (M5 u) (M5 j) J J) (by simp) ?_;simp[RU,Q1,K,A,D];refine M2 (zg8 (M5 (u/j)) B n J J J) (fw (by simp) P.bor (by simp)) ?_;simp[RU,Q1,Ux h,Ur h,z,D];refine M2 (zol S (M5 (u/j*val B%val n)) n J J J) (fw O.bor (by simp) (by simp)) ?_;simp[RU,Q1,Ux h,Ur h,E,A];exact I _ _ _ ⟨u%j,Ix _ J,j,B,M5 (Wg (val S) (u/j*val B%val n) (val n)),C,_,rfl,Ak,by simp,by simp,by simp,by simp,P,.inl rfl,Y,by have:=m8 (b:=M5 j) (n:=u%j) Ff;omega,Z,by have:=m8 (b:=n) (oy (a:=val S) (b:=u/j*val B%val n) h);omega,by rw[Q1];exact zwr h H⟩
def zwx{n:List UInt64}(h:Qh n=true)(k:Nat):ua (2^(64*k)%val n) (val n)=0∧uw (2^(64*k)%val n) (val n)=M5 (Q8 (2^(64*k)%val n) (val n))∧Q8 (2^(64*k)%val n) (val n)<val n:=by
 have g:=zrw h;have j:=zcg (zmq h) (64*k);exact⟨by simp[ua,g,j],by simp[uw,g,j],(zh9 g j).1⟩
def zii(t n:List UInt64)(l:Int)(E:t.length≤4000)(F:n.length≤4000):Mu 30 [LU t,LU n,.i l] (.tup [.dy 0 0,.i (reE n l)]) [RU (U9 t n l)]:=by
 refine Ng.rowE (Mz r_ref03_Reduce Aa N ?_);simp[zc5];refine M2 (zki l n J) N ?_;by_cases z:l<0∨512<l
 ·have g:¬(0≤l∧l≤512):=J
  simp[RU,rdE,rdR,z,reE,U9,g,Qd]
 have g:0≤l∧l≤512:=J
 by_cases j:val n=0
 ·have h:Qh n=false:=by rw[zn3,j];rfl
  simp[RU,rdE,rdR,z,mE_0 j,mR_0 j,reE,U9,h,Qd]
 simp[RU,rdE,rdR,z,Ux j,Ur j];refine M2 (zpv n) N ?_;cases h:Qh n
 ·simp[h,reE,U9,Qd]
 obtain⟨A,B,C⟩:=zwx h l.toNat;have hm:=m8 (b:=n) (Ix (2^(64*l.toNat)) (J:0<val n));have D:=m8 (b:=n) C;simp[h];refine Q5 (zgp (M5 (2^(64*l.toNat)%val n)) n J J) N ?_;rw[Q1,A,B];simp;refine mo (zg8 t (M5 (Q8 (2^(64*l.toNat)%val n) (val n))) n J J J) N ?_;simp[Q1,Ux j,Ur j,reE,U9,h,g];exact .inr ⟨_,0,0,rfl,Cc⟩
def zbe:LC:=(.q [.K 4 0] (.seq (.q [.m 6 1,.b 7 .lss 3 6 1] (.cond (.t 7) (.q [.K 4 0] .ret) .skip)) (.q [.m 8 0,.m 9 1,.c 10 .rem 3 8 9,.m 5 10] (.seq (.q [.m 11 5,.b 12 .lss 3 11 0] (.cond (.t 12) (.ops [.m 13 5,.m 14 1,.c 15 .add 3 13 14,.m 5 15]) .skip)) (.q [.m 16 5,.m 4 16] .ret)))))
def r_kit_Pick:My Tryz.prog 17=some ⟨17,zbe.r,[.tmp 4]⟩:=Aa
def k_kit_Pick:zbe.ok=true:=Aa
def zlr:LC:=(.q [.e 4] (.q [.m 7 1,.z 8 (.mkSl 1 [(.u 0)] (.t 7) (.t 7)),.m 5 8] (.seq (.q [.K 6 0] (.block 0 (.loop (.seq (.q [.m 9 6,.m 10 1,.c 11 .lss 3 9 10,.m 12 11,.my 13 12 0,.y 14 12 (.lenSl (.t 13)),.y 15 12 (.bin .gtr true 3 (.t 14) (.k 0)),.q 16 12 15] (.cond (.t 16) .skip (.exit 0))) (.seq (.block 1 (.draw [(.m 19 5,[]),(.m 20 6,[]),(.m 21 0,[]),(.m 22 6,[]),(.m 23 0,[]),(.s 24 23,[]),(.c 25 .rem 3 22 24,[]),(.I 26 1 21 25,[]),(.l 27 26,[]),(.m 28 6,[]),(.m 29 0,[]),(.s 30 29,[]),(.c 31 .quo 3 28 30,[]),(.b 32 .mul 3 31 2,[]),(.z 33 (.bin .add true 3 (.k 1) (.t 32)),[]),(.z 34 (.cvInt .u64 (.t 33)),[]),(.c 35 .mul 23 27 34,[]),(.m 36 6,[]),(.m 37 0,[]),(.s 38 37,[]),(.c 39 .quo 3 36 38,[]),(.z 40 (.cvInt .u64 (.t 39)),[]),(.c 41 .add 23 35 40,[]),(.I 42 1 19 20,[]),(.S 1 42 41,[])])) (.ops [.m 17 6,.b 18 .add 3 17 1,.m 6 18])))))) (.q [.m 43 5,.m 4 43] .ret))))
def r_kit_Fill:My Tryz.prog 26=some ⟨44,zlr.r,[.tmp 4]⟩:=Aa
def zb7:LC:=(.q [.x 3 0,.z 6 (.alloc [(.i 0),.nilSl,.nilSl])] (.q [.f 10 0 3,.l 11 10,.z 12 (.build [(.i 0),.nilSl,.nilSl] [(0,1,.k 64),(1,1,.t 11)]),.z 7 (.alloc [(.i 0),.nilSl,.nilSl]),.S 3 7 12] (.seq (.q [.K 8 0] (.block 0 (.loop (.seq (.q [.m 13 8,.m 14 2,.c 15 .lss 3 13 14] (.cond (.t 15) .skip (.exit 0))) (.seq (.block 1 (.ops [.f 18 2 7,.l 19 18,.m 20 8,.z 21 (.build [(.i 0),(.i 0),(.i 0),(.i 0),(.i 0),(.i 0),(.i 0),(.u 0)] [(0,1,.k 16),(1,1,.t 20),(2,1,.k (-1)),(3,1,.k (-1)),(4,1,.k (-1)),(5,1,.k (-1)),(7,1,.c (.u 1))]),.z 22 (.buildSl 8 1 [(.i 0),(.i 0),(.i 0),(.i 0),(.i 0),(.i 0),(.i 0),(.u 0)] [(0,8,.t 21)]),.a 23 8 19 22,.f 24 2 7,.S 1 24 23])) (.ops [.m 16 8,.b 17 .add 3 16 1,.m 8 17])))))) (.q [.f 25 2 7,.l 26 25,.m 27 1,.a 28 8 26 27,.f 29 2 7,.S 1 29 28] (.seq (.q [.K 9 0] (.block 2 (.loop (.seq (.q [.m 30 9,.m 31 2,.c 32 .lss 3 30 31] (.cond (.t 32) .skip (.exit 2))) (.seq (.block 3 (.ops [.f 35 2 7,.l 36 35,.z 37 (.build [(.i 0),(.i 0),(.i 0),(.i 0),(.i 0),(.i 0),(.i 0),(.u 0)] [(0,1,.k 17),(1,1,.k (-1)),(2,1,.k (-1)),(3,1,.k (-1)),(4,1,.k (-1)),(5,1,.k (-1))]),.z 38 (.buildSl 8 1 [(.i 0),(.i 0),(.i 0),(.i 0),(.i 0),(.i 0),(.i 0),(.u 0)] [(0,8,.t 37)]),.a 39 8 36 38,.f 40 2 7,.S 1 40 39])) (.ops [.m 33 9,.b 34 .add 3 33 1,.m 9 34])))))) (.q [.L 41 3 7,.S 3 6 41] .ret))))))
def r_law23_program:My Tryz.prog 24=some ⟨42,zb7.r,[.cellN 6 3]⟩:=Aa
def zr8(n m:Int)(hm:1≤m∧m<1000000):∃k:Nat,(k:Int)<m∧Mu 17 [.i n,.i m] (.i k) []:=by
 have j:¬m<1:=J
 have z:m≠0:=J
 have B:n.tmod m<m:=Int.tmod_lt_of_pos n J;have C:-m<n.tmod m:=by
  have h:=Int.tmod_lt_of_pos (-n) (J:0<m);rw[Int.neg_tmod]at h;omega
 by_cases g:n.tmod m<0
 ·obtain⟨k,A⟩:=Hr (J:0≤n.tmod m+m);refine⟨k,J,Ng.val rfl (Mz r_kit_Pick k_kit_Pick N ?_)⟩;simp[zbe,j,z,g];omega
 ·obtain⟨k,A⟩:=Hr (J:0≤n.tmod m);refine⟨k,J,Ng.val rfl (Mz r_kit_Pick k_kit_Pick N ?_)⟩;simp[zbe,j,z,g,A];omega
def zhn(l:List UInt64)(n:Nat)(U:n≤1000000)(V:l.length≤1000000)(g:l≠[]):Mu 26 [LU l,.i n] (.dy 0 0) [RU (zrc l n)]:=by
 refine Ng.row (Mz r_kit_Fill Aa (by simp) ?_);have z:0<l.length:=K9.2 g;simp[zlr];refine⟨J,?_⟩;refine Oc (λI R T L=>∃(i st:Nat) (m:List UInt64),R=[]∧L+i=n∧lk I 0=LU l∧lk I 1=.i n∧lk I 5=.dy 0 0∧lk I 6=.i i∧T[0]?=some (.dyn (m.map .u) n 1 0 st)∧m.length=n∧∀B,B<i→m.getD B 0=Vx l B) (N:=n)
  ⟨0,0,List.replicate n 0,rfl,J,by simp,by simp,by simp,by simp,by simp[fi],by simp,by simp⟩ ?_
 rintro L I R T ⟨i,st,m,rfl,X,C,A,D,K,E,j,hv⟩ Y F;by_cases Z:i<n
 ·have hi:i%l.length<l.length:=Ix _ z;have G:(l.length:Int)≠0:=J
  simp[C,A,D,K,Z,z,E,j,LU,G,hi];have M:(i:Int)/(l.length:Int)=((i/l.length:Nat):Int):=by simp
  have O:(i:Int).tmod (l.length:Int)=((i%l.length:Nat):Int):=by rw[Mj J];simp
  have P:i/l.length≤i:=L7 _ _;have H:Vx l i=l.getD (i%l.length) 0*iU (1+((i/l.length:Nat):Int)*2)+iU ((i/l.length:Nat):Int):=by unfold Vx;rw[Hs g]
  simp only[M,O,If];generalize i/l.length=q at *;refine⟨g,J,J,g,J,J,J,g,J,J,J,F _ _ _ ⟨L-1,J,i+1,st+1,m.set i (Vx l i),rfl,J,Al,Ar,Ak,by simp,?_,Af,λB hj=>?_⟩⟩
  ·have Q:=(Hm.1 E).1;rw[Hu Q,H]
   congr 2
   rw[show ∀x:LV,Ns (m.map LV.u) i [x]=(m.map LV.u).set i x from λx=>by rw[Io,Hv Ab];simp[Ns],I3,T5,zhb];simp[Hn]
  ·rw[Vo _ _ _ _ _ J];split
   ·rename_i q;rw[q]
   ·exact hv B J
 ·have hi:i=n:=J
  subst hi;have:m=zrc l i:=by
   refine List.ext_getElem (by rw[j,zjq]) λB A h2=>?_
   have:=hv B J;rw[Hn,Ht A]at this;simpa [zrc] using this
  simp[C,A,D,K];exact .inr ⟨0,_,_,rfl,by rw[←this,j];exact E⟩
def lpsL_snoc:∀(n:Nat) (i:Int),Pb (n+1) i=Pb n i++[⟨16,i+n,-1,-1,-1,-1,0,1⟩]
 |0,i=>by simp[Pb]
 |n+1,i=>by
  rw[Pb,lpsL_snoc n (i+1),Pb,Ip]
  congr 4
  simp;omega
def lpsL_len:∀(n:Nat) (i:Int),(Pb n i).length=n
 |0,_=>rfl
 |n+1,i=>by rw[Pb,Ig,lpsL_len]
def zgc{bs:List Bf}{P:LV}{W:List LV}{L:List Lo}{deep:Nat}(hd:deep≤100)(hL:L.length≤1000000)(hW:∃a b c d e f,W=[.i a,.i b,.i c,.i d,.i e,.i f]) :
  Od 24 [.agg (.lst (O8 bs) bs.length 3::P::W),.lst (P1 L) L.length 8,.i deep] (.agg (Mv ((64:Nat):Int) bs (Pb deep 0++(L++List.replicate deep Se)))):=by
 obtain⟨w1,w2,w3,w4,w5,w6,rfl⟩:=hW;refine Ra.mk (by simp[LV.dat,zgv]) (Mz r_law23_program Aa (by simp) ?_);simp[zb7];refine Oc (λM Z O X=>∃(i st E:Nat) (v:LV),Z=[]∧X+i=deep∧lk M 1=.lst (P1 L) L.length 8∧lk M 2=.i deep∧lk M 6=.ptr 1 0∧lk M 7=.ptr 2 0∧lk M 8=.i i∧3≤O.length∧O[1]?=some (.cells [.i 0,.nilSl,.nilSl] E)∧O[2]?=some (.cells [.i 64,.lst (O8 bs) bs.length 3,v] st)∧Pl 3 O v 8 (Pb i 0).length (P1 (Pb i 0))) (N:=deep)
  ⟨0,1,0,.nilSl,rfl,J,by simp,by simp,by simp,by simp,by simp,by simp,by simp,by simp,Pl.nil⟩ ?_
 rintro X M Z O ⟨i,st,E,v,rfl,hN,U,F,G,C,V,hl,K,H,hv⟩ Nx I;by_cases gg:i<deep
 ·have g':(i:Int)<deep:=J
  simp[U,F,G,C,V,H,gg];refine hv.push_end.push (c:=1) J Ab (by rw[lpsL_len];omega) (by simp) rfl λQ G5 g j D=>?_
  have z:=(j 2 J).trans ((M6 J).trans H);have A:=(j 1 J).trans ((M6 J).trans K);have B:=g.cells;simp[-LV.cells,B,C,z,V];refine⟨J,I _ _ _ ⟨X-1,J,i+1,st+1,E,Q,rfl,J,Bm,Am,A8,Al,by simp,by simp at D ⊢;omega,?_,?_,?_⟩⟩
  ·rw[Ho J];exact A
  ·exact Hu (Hm.1 z).1
  ·rw[lpsL_snoc,H4,zm1,Int.zero_add];exact g.set_lt J
 ·have hi:i=deep:=J
  subst hi;simp[U,F,G,C,V,H];refine⟨J,?_⟩;refine hv.push (c:=L.length) J J (by rw[lpsL_len];omega) (X7 L) (Sz L) λQ G5 g j D=>?_
  have z:=(j 2 J).trans H;have A:=(j 1 J).trans K;have B:=g.cells;simp[-LV.cells,B,C,z];have R:=(Hm.1 z).1;refine Oc (λM Z O X=>∃(T st E:Nat) (v:LV),Z=[]∧X+T=i∧lk M 2=.i i∧lk M 6=.ptr 1 0∧lk M 7=.ptr 2 0∧lk M 9=.i T∧3≤O.length∧O[1]?=some (.cells [.i 0,.nilSl,.nilSl] E)∧O[2]?=some (.cells [.i 64,.lst (O8 bs) bs.length 3,v] st)∧Pl 3 O v 8 (Pb i 0++(L++List.replicate T Se)).length (P1 (Pb i 0++(L++List.replicate T Se)))) (N:=i)
   ⟨0,st+1,E,Q,rfl,J,Am,A8,Al,by simp,Ab,?_,Hu R,?_⟩ ?_
  ·rw[Ho J];exact A
  ·simp only[List.replicate_zero,I9,H4];rw[zm1];exact g.set_lt J
  clear U F G C V hl K H hv z A R g j D B I Nx;rintro X M Z O ⟨T,st,E,v,rfl,hN,F,G,C,Y,hl,K,H,hv⟩ Nx I;by_cases gg:T<i
  ·simp[F,G,C,Y,H,gg];refine hv.push_end.push (c:=1) J Ab (by simp[lpsL_len];omega) (by simp) rfl λQ G5 g j D=>?_
   have z:=(j 2 J).trans ((M6 J).trans H);have A:=(j 1 J).trans ((M6 J).trans K);have B:=g.cells;simp[-LV.cells,B,C,z,Y];refine⟨J,I _ _ _ ⟨X-1,J,T+1,st+1,E,Q,rfl,J,Am,A8,Al,by simp,by simp at D ⊢;omega,?_,?_,?_⟩⟩
   ·rw[Ho J];exact A
   ·exact Hu (Hm.1 z).1
   ·rw[show Pb i 0++(L++List.replicate (T+1) Se)=(Pb i 0++(L++List.replicate T Se))++[Se] by rw[List.replicate_succ'];simp,H4,zm1];exact g.set_lt J
  ·have hj:T=i:=J
   subst hj;have hb:=(hv.set_lt (q:=1) (ob:=.cells [.i 64,.lst (O8 bs) bs.length 3,v] (E+1)) J).bor;simp[-Nh,F,G,C,Y,H,K];rw[Hu (Hm.1 K).1];refine⟨by simp,_,_,rfl,⟨rfl,rfl⟩,_,_,rfl,⟨rfl,by simp[LV.dat,S0]⟩,_,_,rfl,hb,rfl⟩
def kz:LC:=(.q [.x 1 0,.e 2] (.q [.f 6 3 1,.l 7 6,.f 8 5 1,.l 9 8,.z 10 (.build [(.i 0),(.i 0),(.i 0)] [(0,1,.k 2),(1,1,.t 7),(2,1,.t 9)]),.f 11 4 1,.l 12 11,.f 13 5 1,.l 14 13,.z 15 (.build [(.i 0),(.i 0),(.i 0)] [(0,1,.k 2),(1,1,.t 12),(2,1,.t 14)]),.z 16 (.buildSl 3 2 [(.i 0),(.i 0),(.i 0),(.i 0),(.i 0),(.i 0)] [(0,3,.t 10),(3,3,.t 15)]),.m 3 16] (.q [.f 17 5 1,.l 18 17,.z 19 (.build [(.i 0),(.i 0),(.i 0)] [(0,1,.k 1),(1,1,.t 18),(2,1,.k (-1))]),.z 4 (.alloc [(.i 0),(.i 0),(.i 0)]),.S 3 4 19] (.seq (.q [.f 20 0 1,.l 21 20] (.block 0 (.q [.b 23 .eql 3 21 9,.m 22 23] (.cond (.t 22) (.q [.f 24 5 1,.l 25 24,.z 26 (.build [(.i 0),(.i 0),(.i 0)] [(0,1,.k 3),(1,1,.t 25),(2,1,.k (-1))]),.z 27 (.buildSl 3 1 [(.i 0),(.i 0),(.i 0)] [(0,3,.t 26)]),.m 2 27] .ret) (.seq (.q [.b 29 .eql 3 21 10,.m 28 29] (.cond (.t 28) .skip (.ops [.b 30 .eql 3 21 11,.m 28 30]))) (.cond (.t 28) (.q [.m 31 3,.m 2 31] .ret) (.q [.b 33 .eql 3 21 12,.m 32 33] (.cond (.t 32) (.seq (.draw [(.L 34 3 4,[]),(.m 35 3,[]),(.z 36 (.ixAddr 3 (.t 35) (.k 0)),[]),(.L 37 3 36,[]),(.m 38 3,[]),(.z 39 (.ixAddr 3 (.t 38) (.k 1)),[]),(.L 40 3 39,[]),(.z 41 (.buildSl 3 3 [(.i 0),(.i 0),(.i 0),(.i 0),(.i 0),(.i 0),(.i 0),(.i 0),(.i 0)] [(0,3,.t 34),(3,3,.t 37),(6,3,.t 40)]),[(.L 40 3 39,false),(.L 37 3 36,false),(.L 34 3 4,false)]),(.m 2 41,[])]) .ret) (.q [.b 43 .eql 3 21 13,.m 42 43] (.cond (.t 42) (.seq (.draw [(.L 44 3 4,[]),(.m 45 3,[]),(.z 46 (.ixAddr 3 (.t 45) (.k 0)),[]),(.L 47 3 46,[]),(.z 48 (.buildSl 3 2 [(.i 0),(.i 0),(.i 0),(.i 0),(.i 0),(.i 0)] [(0,3,.t 44),(3,3,.t 47)]),[(.L 47 3 46,false),(.L 44 3 4,false)]),(.m 2 48,[])]) .ret) (.q [.b 50 .eql 3 21 17,.m 49 50] (.cond (.t 49) (.q [.K 5 (-1)] (.seq (.q [.f 51 6 1,.l 52 51,.u 53 .eql 23 52 2] (.cond (.t 53) (.ops [.f 54 4 1,.l 55 54,.m 5 55]) .skip)) (.q [.f 56 6 1,.l 57 56,.u 58 .geq 23 57 1,.m 59 58,.yf 60 59 6 1,.yl 61 59 60,.y 62 59 (.bin .leq true 23 (.t 61) (.c (.u 3))),.q 63 59 62] (.cond (.t 63) (.q [.f 64 6 1,.l 65 64,.z 66 (.cvInt .i64 (.t 65)),.f 67 3 1,.l 68 67,.m 69 5,.z 70 (.build [(.i 0),(.i 0),(.i 0)] [(0,1,.t 66),(1,1,.t 68),(2,1,.t 69)]),.z 71 (.buildSl 3 1 [(.i 0),(.i 0),(.i 0)] [(0,3,.t 70)]),.m 2 71] .ret) .skip)))) .skip)))))))))))) (.q [.e 2] .ret)))))
def r_ref20_Needs:My Tryz.prog 127=some ⟨72,kz.r,[.tmp 2]⟩:=Aa
def si:LC:=(.q [.x 2 0,.F 4] (.seq (.q [.f 5 1 2,.l 6 5,.b 7 .lss 3 6 0,.m 8 7,.nf 9 8 1 2,.nl 10 8 9,.mn 11 8 1,.n 12 8 (.lenSl (.t 11)),.n 13 8 (.bin .geq false 3 (.t 10) (.t 12)),.p 14 8 13,.m 15 14,.nf 16 15 0 2,.nl 17 15 16,.nb 18 15 .eql 3 17 2,.mn 19 15 18,.yf 20 19 2 2,.yl 21 19 20,.y 22 19 (.bin .lss true 3 (.t 21) (.k 0)),.my 23 19 22,.nf 24 23 2 2,.nl 25 23 24,.mn 26 23 1,.n 27 23 (.lenSl (.t 26)),.n 28 23 (.bin .geq false 3 (.t 25) (.t 27)),.y 29 19 (.pick (.t 23) .T (.t 28)),.n 30 15 (.pick (.t 19) (.t 29) .F),.p 31 15 30] (.cond (.t 31) (.q [.F 4] .ret) .skip)) (.seq (.q [.f 32 0 2,.l 33 32] (.block 0 (.q [.b 35 .eql 3 33 1,.m 34 35] (.cond (.t 34) (.q [.m 36 1,.f 37 1 2,.l 38 37,.I 39 1 36 38,.l 40 39,.z 41 (.w 82 [.t 40,.k 0]),.m 4 41] .ret) (.q [.b 43 .eql 3 33 3,.m 42 43] (.cond (.t 42) (.q [.m 44 1,.f 45 1 2,.l 46 45,.I 47 1 44 46,.l 48 47,.w 49 84 48,.s 50 49,.b 51 .gtr 3 50 0,.m 4 51] .ret) (.q [.b 53 .eql 3 33 2,.m 52 53] (.cond (.t 52) (.seq (.draw [(.m 54 1,[]),(.f 55 1 2,[]),(.l 56 55,[]),(.I 57 1 54 56,[]),(.l 58 57,[]),(.m 59 1,[]),(.f 60 2 2,[]),(.l 61 60,[]),(.I 62 1 59 61,[]),(.l 63 62,[]),(.W 64 66 58 63,[]),(.b 65 .lss 3 64 0,[]),(.m 4 65,[])]) .ret) .skip)))))))) (.q [.F 4] .ret))))
def r_ref20_Holds:My Tryz.prog 128=some ⟨66,si.r,[.tmp 4]⟩:=Aa
def zem:LC:=(.q [.x 3 0,.x 4 1,.e 6] (.q [.e 7,.e 8,.e 9,.e 10] (.seq (.q [.f 13 3 4,.l 14 13,.b 15 .geq 3 14 0] (.cond (.t 15) (.ops [.m 16 2,.f 17 3 4,.l 18 17,.I 19 1 16 18,.l 20 19,.m 7 20]) .skip)) (.seq (.q [.f 21 4 4,.l 22 21,.b 23 .geq 3 22 0] (.cond (.t 23) (.ops [.m 24 2,.f 25 4 4,.l 26 25,.I 27 1 24 26,.l 28 27,.m 8 28]) .skip)) (.seq (.q [.f 29 5 4,.l 30 29,.b 31 .geq 3 30 0] (.cond (.t 31) (.ops [.m 32 2,.f 33 5 4,.l 34 33,.I 35 1 32 34,.l 36 35,.m 9 36]) .skip)) (.q [.f 37 0 3,.l 38 37,.f 39 1 4,.l 40 39,.I 41 3 38 40,.f 42 0 41,.l 43 42,.m 11 43] (.seq (.q [.f 44 0 4,.l 45 44] (.block 0 (.q [.b 47 .eql 3 45 1,.m 46 47] (.cond (.t 46) (.ops [.f 48 6 4,.l 49 48,.z 50 (.buildSl 1 1 [(.u 0)] [(0,1,.t 49)]),.m 10 50]) (.q [.b 52 .eql 3 45 2,.m 51 52] (.cond (.t 51) (.ops [.m 53 7,.m 10 53]) (.q [.b 55 .eql 3 45 3,.m 54 55] (.cond (.t 54) (.ops [.m 56 7,.m 57 8,.W 58 81 56 57,.m 10 58]) (.q [.b 60 .eql 3 45 4,.m 59 60] (.cond (.t 59) (.q [.m 61 7,.m 62 11,.W 63 176 61 62,.m 64 11,.w 65 177 64,.W 66 81 63 65,.m 12 66] (.ops [.m 68 12,.m 69 8,.m 70 11,.W 71 176 69 70,.W 72 83 68 71,.m 67 72,.X 73 0 67,.X 74 1 67,.m 10 73])) (.seq (.q [.b 76 .eql 3 45 5,.m 75 76] (.cond (.t 75) .skip (.ops [.b 77 .eql 3 45 6,.m 75 77]))) (.cond (.t 75) (.ops [.m 78 7,.m 79 8,.W 80 31 78 79,.m 10 80]) (.q [.b 82 .eql 3 45 7,.m 81 82] (.cond (.t 81) (.q [.m 83 7,.m 84 8,.W 85 66 83 84,.b 86 .lss 3 85 0] (.cond (.t 86) (.ops [.z 87 (.buildSl 1 1 [(.u 0)] [(0,1,.c (.u 1))]),.m 10 87]) .skip)) (.q [.b 89 .eql 3 45 8,.m 88 89] (.cond (.t 88) (.q [.m 90 8,.m 10 90] (.q [.m 91 9,.z 92 (.w 82 [.t 91,.k 0])] (.cond (.t 92) (.ops [.m 93 7,.m 10 93]) .skip))) (.q [.b 95 .eql 3 45 9,.m 94 95] (.cond (.t 94) (.ops [.m 97 7,.m 98 9,.W 99 28 97 98,.m 96 99,.X 100 0 96,.X 101 1 96,.X 102 2 96,.m 10 101]) (.q [.b 104 .eql 3 45 10,.m 103 104] (.cond (.t 103) (.ops [.m 106 7,.m 107 8,.m 108 9,.V 109 178 106 107 108,.m 105 109,.X 110 0 105,.X 111 1 105,.m 10 110]) (.q [.b 113 .eql 3 45 11,.m 112 113] (.cond (.t 112) (.ops [.m 115 7,.m 116 8,.m 117 9,.V 118 152 115 116 117,.m 114 118,.X 119 0 114,.X 120 1 114,.m 10 119]) (.q [.b 122 .eql 3 45 12,.m 121 122] (.cond (.t 121) (.draw [(.m 124 7,[]),(.m 125 8,[]),(.m 127 9,[]),(.f 128 0 3,[]),(.l 129 128,[]),(.f 130 5 4,[]),(.l 131 130,[]),(.I 132 3 129 131,[]),(.f 133 0 132,[]),(.l 134 133,[]),(.W 126 31 124 125,[(.l 134 133,false),(.l 131 130,false),(.l 129 128,false)]),(.V 135 30 126 127 134,[]),(.m 123 135,[]),(.X 136 0 123,[]),(.X 137 1 123,[]),(.m 10 136,[])]) (.q [.b 139 .eql 3 45 13,.m 138 139] (.cond (.t 138) (.ops [.m 141 7,.m 142 8,.m 143 9,.V 144 179 141 142 143,.m 140 144,.X 145 0 140,.X 146 1 140,.m 10 145]) .skip)))))))))))))))))))))))))) (.q [.m 147 10,.m 148 11,.W 149 176 147 148,.m 6 149] .ret))))))))
def r_ref20_Value:My Tryz.prog 129=some ⟨150,zem.r,[.tmp 6]⟩:=Aa
def zee:LC:=(.q [.x 4 1,.e 6,.e 7,.F 8] (.q [.m 13 0,.s 14 13,.z 15 (.mkSl 1 [.nilSl] (.t 14) (.t 14)),.m 9 15] (.seq (.q [.K 10 0] (.block 0 (.loop (.seq (.q [.m 16 10,.m 17 0,.s 18 17,.c 19 .lss 3 16 18] (.cond (.t 19) .skip (.exit 0))) (.seq (.block 1 (.ops [.m 22 9,.m 23 10,.m 24 2,.m 25 10,.I 26 1 24 25,.l 27 26,.I 28 1 22 23,.S 1 28 27])) (.ops [.m 20 10,.b 21 .add 3 20 1,.m 10 21])))))) (.q [.L 29 7 4,.w 30 127 29,.m 11 30] (.seq (.q [.K 12 0] (.block 2 (.loop (.seq (.q [.m 31 12,.m 32 11,.s 33 32,.c 34 .lss 3 31 33] (.cond (.t 34) .skip (.exit 2))) (.seq (.block 3 (.q [.m 37 11,.m 38 12,.I 39 3 37 38,.L 40 3 39,.m 41 9,.W 42 128 40 41,.z 43 (.un .not (.t 42))] (.cond (.t 43) (.q [.e 6,.e 7,.F 8] .ret) .skip))) (.ops [.m 35 12,.b 36 .add 3 35 1,.m 12 36])))))) (.seq (.q [.f 44 0 4,.l 45 44,.b 46 .eql 3 45 14] (.cond (.t 46) (.seq (.q [.m 47 9,.f 48 5 4,.l 49 48,.I 50 1 47 49,.l 51 50,.z 52 (.w 82 [.t 51,.k 0])] (.cond (.t 52) (.seq (.draw [(.m 53 9,[]),(.f 54 2 4,[]),(.l 55 54,[]),(.I 56 1 53 55,[]),(.l 57 56,[]),(.m 58 9,[]),(.f 59 1 4,[]),(.l 60 59,[]),(.I 61 1 58 60,[]),(.l 62 61,[]),(.m 6 57,[]),(.m 7 62,[]),(.z 8 (.move .T),[])]) .ret) .skip)) (.seq (.draw [(.m 63 9,[]),(.f 64 1 4,[]),(.l 65 64,[]),(.I 66 1 63 65,[]),(.l 67 66,[]),(.m 68 9,[]),(.f 69 2 4,[]),(.l 70 69,[]),(.I 71 1 68 70,[]),(.l 72 71,[]),(.m 6 67,[]),(.m 7 72,[]),(.z 8 (.move .T),[])]) .ret)) .skip)) (.q [.m 73 0,.z 74 (.build [.nilSl,.nilSl,.nilSl] [(0,1,.t 73)]),.L 75 7 4,.m 76 9,.V 77 129 74 75 76,.m 6 77,.e 7,.z 8 (.move .T)] .ret)))))))
def r_law23_meant:My Tryz.prog 65=some ⟨78,zee.r,[.tmp 6,.tmp 7,.tmp 8]⟩:=Aa
def zjg:LC:=(.q [.e 4] (.q [.m 5 0,.m 6 0,.s 7 6,.m 8 1,.z 9 (.maxi true (.k 0) (.t 8)),.z 10 (.maxi false (.t 7) (.t 9)),.z 11 (.slSl 1 (.t 5) none (some (.t 10))),.w 12 84 11,.m 4 12] .ret))
def r_ref02_Low:My Tryz.prog 176=some ⟨13,zjg.r,[.tmp 4]⟩:=Aa
def zf2{l:List (List UInt64)}{i:Nat}(h:i<l.length):(l.map LU)[i]?=some (LU (l.getD i [])):=by
 simp[Hn,h]
def X6{l:List (List UInt64)}{i:Nat}:(l.map val).getD i 0=val (l.getD i []):=by
 by_cases h:i<l.length
 ·simp[Hn,h]
 ·simp[Hn,h,val]
def ze6{l:List (List UInt64)}{m:Nat}(hi:∀x∈l,x.length≤m)(i:Nat):(l.getD i []).length≤m:=by
 by_cases h:i<l.length
 ·rw[Hn,Ht h];exact hi _ (Kj h)
 ·simp[Hn,h]
def zwt(o:Ko):Od 127 [.agg o.f] (.lst (Wz (V6 o)) (V6 o).length 3):=by
 refine Ra.mk (by simp[LV.dat,f8]) (Mz r_ref20_Needs Aa N ?_);by_cases G:o.kind=9
 ·simp[kz,Ko.f,G];simp[V6,G,Wz,Tg,Nh,bor,dats,LV.dat]
 by_cases j:o.kind=10∨o.kind=11
 ·rcases j with k|k
  all_goals
   simp[kz,Ko.f,k];simp[V6,k,Wz,Tg,Nh,bor,dats,LV.dat]
 by_cases z:o.kind=12
 ·simp[kz,Ko.f,z];simp[V6,z,Wz,Tg,Nh,bor,dats,LV.dat]
 by_cases A:o.kind=13
 ·simp[kz,Ko.f,A];simp[V6,A,Wz,Tg,Nh,bor,dats,LV.dat]
 have B:¬o.kind=10:=λh=>j (.inl h)
 have C:¬o.kind=11:=λh=>j (.inr h)
 by_cases g:o.kind=17
 ·by_cases D:o.imm=2
  ·simp[kz,Ko.f,g,D];simp[V6,g,D,Wz,Tg,Nh,bor,dats,LV.dat]
  by_cases E:o.imm=1
  ·simp[kz,Ko.f,g,E];simp[V6,g,E,Wz,Tg,Nh,bor,dats,LV.dat]
  by_cases F:o.imm=3
  ·simp[kz,Ko.f,g,F];simp[V6,g,F,Wz,Tg,Nh,bor,dats,LV.dat]
  by_cases H:1≤o.imm
  ·have I:¬o.imm≤3:=λh=>by
    rw[J5]at H h;have K:o.imm.toNat≠1:=λe=>E (Jd.1 e)
    have L:o.imm.toNat≠2:=λe=>D (Jd.1 e)
    have M:o.imm.toNat≠3:=λe=>F (Jd.1 e)
    have O:(1:UInt64).toNat=1:=rfl;have P:(3:UInt64).toNat=3:=rfl;omega
   simp[kz,Ko.f,g,E,D,F,H,I,V6,Wz,Nh,bor]
  ·simp[kz,Ko.f,g,E,D,F,H,V6,Wz,Nh,bor]
 ·simp[kz,Ko.f,G,B,C,z,A,g,V6,Wz,Nh,bor]
def zzb(f:Fc)(A:List (List UInt64))(hv:∀x∈A,x.length≤1000):Mu 128 [.agg (Tg f),LN A] (.bool (V8 f (A.map val))) []:=by
 refine Ng.val rfl (Mz r_ref20_Holds Aa N ?_);obtain⟨k,a,b⟩:=f;have Z:(A.map val).length=A.length:=N
 by_cases I:0≤a∧a<A.length
 case neg =>
  have j:Qq A.length a=false:=by
   rw[Bool.eq_false_iff];intro h;exact I (af.1 h)
  by_cases R:a<0
  ·simp[si,Tg,LN,R,V8,j]
  ·have a1:(A.length:Int)≤a:=J
   simp[si,Tg,LN,R,a1,V8,j]
 obtain⟨n,rfl⟩:=Hr I.1;have C:n<A.length:=J
 have z:¬A.length≤n:=J
 have B:¬(n:Int)<0:=J
 have j:Qq A.length (n:Int)=true:=af.2 I;have qa:=zf2 C;have K:=ze6 hv n;have G:gN (A.map val) n=val (A.getD n []):=by rw[wc J];exact X6
 obtain⟨x,T⟩:∃x,A.getD n []=x:=⟨_,rfl⟩;have D:A[n]=x:=by rw[←T];simp[C]
 rw[T]at qa K G;by_cases U:k=1
 ·simp[si,Tg,LN,U,C,z,B];refine M2 (zfj x 0 J) Ak ?_;simp[V8,j,G,Nat.testBit_zero]
 by_cases V:k=3
 ·simp[si,Tg,LN,V,C,z,B];refine M2 (W8 x J) Ak ?_;have E:0<(M5 (val x)).length↔0<val x:=by
   by_cases h:val x=0
   ·rw[h,toL_zero];simp
   ·rw[zes h];simp;omega
  simp[RU,V8,j,G];exact E
 by_cases H:k=2
 ·by_cases L:0≤b∧b<A.length
  ·obtain⟨m,rfl⟩:=Hr L.1;have hm:m<A.length:=J
   have M:¬A.length≤m:=J
   have O:¬(m:Int)<0:=J
   have g:Qq A.length (m:Int)=true:=af.2 L;have P:=ze6 hv m;have F:gN (A.map val) m=val (A.getD m []):=by rw[wc J];exact X6
   obtain⟨y,X⟩:∃y,A.getD m []=y:=⟨_,rfl⟩;have Q:A[m]=y:=by rw[←X];simp[hm]
   rw[X]at P F;simp[si,Tg,LN,H,C,z,B,hm,M,O];refine M2 (z20 x y J J) (by simp[D,Q]) ?_;simp[V8,j,g,G,F,zlz]
  ·have g:Qq A.length b=false:=by
    rw[Bool.eq_false_iff];intro h;exact L (af.1 h)
   by_cases Y:b<0
   ·simp[si,Tg,LN,H,C,z,B,Y,V8,g]
   ·have b1:(A.length:Int)≤b:=J
    simp[si,Tg,LN,H,C,z,B,Y,b1,V8,g]
 ·simp[si,Tg,LN,U,H,V,C,z,V8]
def znd(a:List UInt64)(m:Nat)(h:m≤a.length):val (a.take m)=val a%2^(64*m):=by
 have e:=val_append (a.take m) (a.drop m);rw[Ls,Jp,Ju h]at e;have g:=val_lt (a.take m);rw[Jp,Ju h]at g;rw[e,Nat.add_mul_mod_self_left,In g]
def i0(a:List UInt64)(n:Int):val (a.take (min (max 0 n) (a.length:Int)).toNat)=val a%sm n:=by
 by_cases h:(a.length:Int)≤n
 ·rw[(J:(min (max 0 n) (a.length:Int)).toNat=a.length),Ki,sm,In];exact Il (val_lt a) (K0 Ad J)
 ·rw[(J:(min (max 0 n) (a.length:Int)).toNat=n.toNat)];exact znd a _ J
def vu(a:List UInt64)(n:Int)(j:a.length≤1000000):Mu 176 [LU a,.i n] (.dy 0 0) [RU (M5 (val a%sm n))]:=by
 refine Ng.row (Mz r_ref02_Low Aa N ?_);simp[zjg];refine⟨J,J,?_⟩;rw[←i0 a n];obtain⟨m,hm⟩:∃m,(min (a.length:Int) (max 0 n)).toNat=m:=⟨_,rfl⟩;have g:(min (max 0 n) (a.length:Int)).toNat=m:=by rw[Int.min_comm];exact hm
 have z:m≤a.length:=J
 have e:(a.take m).length=m:=Ab
 try simp only[hm,g]
 refine mo (W8 (a.take m) J) (by simp[hm,g,e]) ?_;simp;exact .inr ⟨0,0,0,rfl,rfl⟩
def Y9{m:Nat}(g:U.length≤m)(j:vg.length≤m):val U*val vg<2^(64*(2*m)):=by
 rw[(J:64*(2*m)=64*m+64*m),Lw];exact Nat.mul_lt_mul'' (Zt g) (Zt j)
def sb{m:Nat}(g:U.length≤m)(j:vg.length≤m):(M5 (val U*val vg)).length≤2*m:=ai (Y9 g j)
def zrk{o:Ko}(C:o.kind=12)(ho:Nf vX o=true):∃d a b c:Nat,o.d=d∧o.a=a∧o.b=b∧o.c=c∧o.e=-1∧d<vX.length∧a<vX.length∧b<vX.length∧c<vX.length∧(gv vX d).limbs=(gv vX c).limbs∧(gv vX a).limbs=(gv vX c).limbs∧(gv vX b).limbs=(gv vX c).limbs:=by
 obtain⟨j,_,g⟩:=zqr (s:=29) ho (by simp[O0,C]);obtain⟨d,hd⟩:=Hr (zss j Ad).1;obtain⟨a,D⟩:=Hr (zr9 j Ad).1;obtain⟨b,E⟩:=Hr (zr6 j Ad).1;obtain⟨c,F⟩:=Hr (zmc j Ad).1;have G:=(zss j Ad).2;have H:=(zr9 j Ad).2;have I:=(zr6 j Ad).2;have K:=(zmc j Ad).2;have he:o.e=-1:=by
  simp only[Su,Hq]at j;exact zja j.2.1 Ad
 have g:∀v∈[o.d,o.a,o.b,o.c],O5 vX v=O5 vX o.d:=by
  have:Pt o=[o.d,o.a,o.b,o.c]:=by simp[Pt,C]
  unfold je at g;rw[this]at g;intro v hv;simpa using Jh.1 g v hv
 have z:=g o.a N;have A:=g o.b N;have B:=g o.c N;simp only[O5]at z A B;rw[D,hd]at z;rw[E,hd]at A;rw[F,hd]at B;simp only[If]at z A B;exact⟨d,a,b,c,hd,D,E,F,he,J,J,J,J,J,J,J⟩
def Zl{o:Ko}(L:o.kind=12)(ho:Nf vX o=true)(hV:uX.length=vX.length)(A:∀x∈uX,x.length≤1000) :
  Mu 129 [.agg [.lst (Nd vX) vX.length 3,.lst [] 0 7,.lst [] 0 7],.agg o.f,LN uX] (.dy 0 0) [RU (M5 (val (U9 (M5 (val (uX.getD o.a.toNat [])*val (uX.getD o.b.toNat []))) (uX.getD o.c.toNat []) (O5 vX o.c))%sm (O5 vX o.d)))]:=by
 obtain⟨d,a,b,c,M,O,P,B,ee,C,la,lb,D,_,_,_⟩:=zrk L ho;have R:=zf2 (l:=uX) (i:=a) J;have T:=zf2 (l:=uX) (i:=b) J;have U:=zf2 (l:=uX) (i:=c) J;have V:=ze6 A a;have X:=ze6 A b;have nc:=ze6 A c;have Y:=ng (Sr C);have E:=ng (Sr D);have F:O5 vX o.d=(gv vX d).limbs:=by rw[O5,M];rfl
 have G:O5 vX o.c=(gv vX c).limbs:=by rw[O5,B];rfl
 refine Ng.row (Mz r_ref20_Value Aa N ?_);rw[F,G,O,P,B];simp only[If];have g:a<uX.length:=J
 have j:b<uX.length:=J
 have z:c<uX.length:=J
 have Z:uX[a]=uX.getD a []:=by simp[Hn,g]
 have xb:uX[b]=uX.getD b []:=by simp[Hn,j]
 have xc:uX[c]=uX.getD c []:=by simp[Hn,z]
 generalize uX.getD a []=I at *;generalize uX.getD b []=K at *;generalize uX.getD c []=Q at *;have gg:=ae C;have gz:=ae D;simp[zem,Ko.f,LN,L,M,O,P,B,C,D,g,j,z,Mr R,Mr T,Mr U,Mr Y,Mr E];have gA:(M5 (val I*val K)).length≤2000:=by
  have:=sb V X;omega
 refine M2 (zg6 I K J J) (by simp[Z,xb]) ?_;simp[RU];refine M2 (zii (M5 (val I*val K)) Q (gv vX c).limbs J J) (by simp[xc]) ?_;simp[RU];have H:(U9 (M5 (val I*val K)) Q (gv vX c).limbs).length≤1000000:=by
  unfold U9;split
  ·rename_i h;have:=m8 (Ix (val (M5 (val I*val K))*Q8 (2^(64*(gv vX c).limbs.toNat)%val Q) (val Q)) (Nat.pos_of_ne_zero (zrw h.1)));omega
  ·simp
 refine mo (vu (U9 (M5 (val I*val K)) Q (gv vX c).limbs) (gv vX d).limbs H) N ?_;simp[RU];exact .inr ⟨_,0,0,rfl,N⟩
def mtL(vs:List Vr)(o:Ko)(X:List (List UInt64)):List UInt64 :=
 if Uy o ((X.take vs.length).map val)=true then M5 (val (U9 (M5 (val (X.getD o.a.toNat [])*val (X.getD o.b.toNat []))) (X.getD o.c.toNat []) (O5 vs o.c))%sm (O5 vs o.d)) else []
def zka{vs:List Vr}{o:Ko}{X:List (List UInt64)}(R:o.kind=12)(hv:P3 vs=true)(ho:Nf vs o=true)(hX:vs.length≤X.length)(hl:∀x∈X,x.length≤1000) :
  Od 65 [.lst (Nd vs) vs.length 3,.agg o.f,LN X] (.tup [LU (mtL vs o X),LU [],.bool (Uy o ((X.take vs.length).map val))]):=by
 refine Ra.mk (by simp[LV.dat,dats,vp]) (Mz r_law23_meant Aa (by simp) ?_);have gH:vs.length≤256:=(zdp hv).2;have P:o.f=[.i o.kind,.i o.d,.i o.e,.i o.a,.i o.b,.i o.c,.u o.imm]:=rfl;have B:(X.take vs.length).length=vs.length:=Ab
 have I:∀x∈X.take vs.length,x.length≤1000:=λx G=>hl x (L5 G)
 have C:∀i,i<vs.length→(X.take vs.length).getD i []=X.getD i []:=λi hi=>by
  rw[Hn,Jc hi,←Hn]
 obtain⟨z,T⟩:∃z,X.take vs.length=z:=⟨_,rfl⟩;have U:mtL vs o X=if Uy o (z.map val)=true then M5 (val (U9 (M5 (val (z.getD o.a.toNat [])*val (z.getD o.b.toNat []))) (z.getD o.c.toNat []) (O5 vs o.c))%sm (O5 vs o.d)) else []:=by
  obtain⟨d,a,b,c,ed,ea,eb,ec,ee,ld,la,lb,lc,_,_,_⟩:=zrk R ho;rw[mtL,T,ea,eb,ec,←T];simp only[If];rw[C _ la,C _ lb,C _ lc]
 rw[T,U];obtain⟨gL,hR⟩:∃gL,M5 (val (U9 (M5 (val (z.getD o.a.toNat [])*val (z.getD o.b.toNat []))) (z.getD o.c.toNat []) (O5 vs o.c))%sm (O5 vs o.d))=gL:=⟨_,rfl⟩;rw[hR];clear U;rw[T]at B I;simp[zee];refine⟨J,?_⟩;refine Oc (λQ gG gz N=>∃(i st:Nat) (gF:List LV),gG=[]∧N+i=vs.length∧lk Q 0=.lst (Nd vs) vs.length 3∧lk Q 2=LN X∧lk Q 4=.ptr 0 0∧lk Q 9=.dy 1 0∧lk Q 10=.i i∧gz[0]?=some (.cells o.f 0)∧gz[1]?=some (.dyn gF vs.length 1 0 st)∧gF.length=vs.length∧∀V,V<i→gF[V]?=some (LU (X.getD V []))) (N:=vs.length)
  ⟨0,0,Oj [.nilSl] vs.length,rfl,J,by simp,by simp[LN],by simp,by simp,by simp,by simp,by simp,by simp[z5f],λV h=>J⟩ ?_
 rintro N Q gG gz ⟨i,st,gF,rfl,hN,D,h2,E,H,K,j,g,hC,L⟩ Nx F;have l1:=(Hm.1 g).1;by_cases gg:i<vs.length
 ·have gX:i<X.length:=J
  have q:=zf2 gX;simp[D,h2,E,H,K,gg,gX,LN,Mr q,g,hC];refine⟨J,J,F _ _ _ ⟨N-1,J,i+1,st+1,gF.set i (LU (X.getD i [])),rfl,J,Ak,by simp[h2,LN],Ai,A1,by simp,?_,?_,by simp[hC],λV hj=>?_⟩⟩
  ·rw[Ho J];exact j
  ·rw[Hu l1,Io,Hv J];simp[Ns,Hn,gX]
  ·by_cases e:V=i
   ·subst e;rw[Hu J]
   ·rw[Ho J];exact L V J
 have gi:i=vs.length:=J
 subst gi;have gA:gF=z.map LU:=by
  refine Ln λV=>?_
  by_cases hj:V<vs.length
  ·rw[L V hj,zf2 J,←T,C V hj]
  ·rw[Jz J,Jz (by rw[List.length_map];omega)]
 subst gA;clear L;simp[D,E,K,j,P];rw[←P];refine Q5 (zwt o) (by simp[P,dats,LV.dat]) ?_;obtain⟨A,hL⟩:∃A,V6 o=A:=⟨_,rfl⟩;have gI:A.length≤3:=by rw[←hL];simp[V6,R]
 have hM:Uy o (z.map val)=A.all λf=>V8 f (z.map val):=by rw[Uy,hL]
 rw[hM,hL];simp;refine Oc (λQ gG gz N=>∃(i:Nat),gG=[]∧N+i=A.length∧lk Q 0=.lst (Nd vs) vs.length 3∧lk Q 4=.ptr 0 0∧lk Q 9=.dy 1 0∧lk Q 11=.lst (Wz A) A.length 3∧lk Q 12=.i i∧gz[0]?=some (.cells o.f 0)∧gz[1]?=some (.dyn (z.map LU) vs.length 1 0 st)∧∀f∈A.take i,V8 f (z.map val)=true) (N:=A.length)
  ⟨0,rfl,J,Ak,Ai,A1,by simp,by simp,j,g,by simp⟩ ?_
 clear D h2 E H K j g F l1 gg;rintro N2 Q gG gz ⟨i,rfl,gK,D,E,H,M,O,j,g,hh⟩ Nx F;by_cases gg:i<A.length
 ·have hg:=Ht gg;have q:=zl (f:=Tg) (k:=3) (λ_=>rfl) hg;have ql:=zrd (f:=Tg) (k:=3) (λ_=>rfl) gg;have Y:A[i]∈A:=Kj gg;have gC:A.take (i+1)=A.take i++[A[i]]:=I0 gg;generalize A[i]=f at *;have q':((Wz A).drop (i*3)).take 3=Tg f:=q;have gD:i*3+3≤(Wz A).length:=ql;simp[D,E,H,M,O,gg,q',gD];refine M2 (zzb f z I) ⟨_,_,rfl,⟨_,rfl,bors_self _ (by simp[Tg,dats,LV.dat])⟩,_,_,rfl,⟨_,_,_,_,by rw[LN,B],g,nz (λa=>gu a) z⟩,rfl⟩ ?_;cases hb:V8 f (z.map val) with
  |false =>
   have:(A.all λf=>V8 f (z.map val))=false:=by
    rw[Bool.eq_false_iff];intro h;have:=Jh.1 h f Y;rw[hb]at this;cases this
   simp[this];exact⟨_,_,⟨rfl,rfl⟩,.inr ⟨1,rfl⟩,_,rfl,.inr ⟨1,rfl⟩⟩
  |true =>
   simp[O];refine⟨J,F _ _ _ ⟨N2-1,J,i+1,rfl,J,Ak,Ai,A1,A0,by simp,j,g,λx G=>?_⟩⟩;rw[gC]at G;rcases Ih.1 G with G|G
   ·exact hh x G
   ·rw[Mh.1 G];exact hb
 have Z:(A.all λf=>V8 f (z.map val))=true:=by
  rw[H7 J]at hh;exact Jh.2 hh
 rw[Z,Hv rfl];have hS:=Zl R ho B I;rw[hR]at hS;have gE:[LV.i 12,.i o.d,.i o.e,.i o.a,.i o.b,.i o.c,.u o.imm]=o.f:=by rw[P,R]
 simp[D,E,H,M,O,gg,j,P,R];rw[gE];refine M2 hS ⟨_,_,rfl,⟨_,rfl,⟨_,_,rfl,?_,_,_,rfl,.inr ⟨_,rfl⟩,_,_,rfl,.inr ⟨_,rfl⟩,rfl⟩⟩,_,_,rfl,⟨_,rfl,bors_self _ (by simp[P,dats,LV.dat])⟩,_,_,rfl,⟨_,_,_,_,by rw[LN,B],g,nz (λa=>gu a) z⟩,rfl⟩ ?_
 ·simp[bor,Qo]
 ·simp[RU];exact⟨_,_,⟨rfl,rfl⟩,rfl,_,rfl,.inr ⟨1,rfl⟩⟩
section
structure MtV (vs:List Vr) (o:Ko) (d a b c:Nat):Prop where
 hk:o.kind=12
 hv:P3 vs=true
 ho:Nf vs o=true
 fd:o.d=d∧d<vs.length
 fa:o.a=a∧a<vs.length
 fb:o.b=b∧b<vs.length
 fc:o.c=c∧c<vs.length
 e:o.e=-1
 la:(gv vs a).limbs=(gv vs d).limbs
 lb:(gv vs b).limbs=(gv vs d).limbs
 lc:(gv vs c).limbs=(gv vs d).limbs
 md:Q2 (gv vs d)=false
 sec:(gv vs d).sec=false→(gv vs a).sec=false∧(gv vs b).sec=false∧(gv vs c).sec=false
def mtV{vs:List Vr}{o:Ko}(A:o.kind=12)(hv:P3 vs=true)(ho:Nf vs o=true):∃d a b c,MtV vs o d a b c:=by
 obtain⟨d,a,b,c,hd,B,C,D,he,I,K,L,M,P,Q,R⟩:=zrk A ho;have j:Rf vs (N8 vs o) o.d=true:=by
  unfold Nf at ho;rw[Hs J]at ho;rw[show O0 o.kind=some 29 by simp[O0,A]]at ho;simp only[Hq]at ho;exact ho.2.2.1
 unfold Rf at j;rw[hd]at j;simp only[If,Iy,Hz,Jl,Bool.or_eq_false_iff,Bool.and_eq_false_iff,Bool.not_eq_false']at j;have z:=j.resolve_left J;refine⟨d,a,b,c,A,hv,ho,⟨hd,I⟩,⟨B,K⟩,⟨C,L⟩,⟨D,M⟩,he,J,J,J,z.1,λO=>?_⟩;have g:N8 vs o=false:=by
  rcases z.2 with h|h
  ·exact h
  ·rw[O]at h;cases h
 unfold N8 at g;rw[Kz]at g;have E:Sn o=[o.a,o.b,o.c]:=by
  unfold Sn;rw[Hs J,B,C,D];simp
 rw[E,B,C,D]at g;have F:=g a N;have G:=g b N;have H:=g c N;simp only[If,Bool.not_eq_true]at F G H;exact⟨F,G,H⟩
section pl
variable {vs : List Vr} {o : Ko} {d a b c : Nat}
def z76(h:MtV vs o d a b c):M4 vs o=(gv vs d).limbs+2:=by
 unfold M4;have hm:Sk vs o=true:=by rw[zym,h.hv,h.ho];simp[x8,h.hk]
 rw[Hv (by rw[hm];simp[h.hk]),O5,h.fc.1,If,h.lc]
def Yj(h:MtV vs o d a b c):Rq vs o.d=!(gv vs d).sec:=by
 unfold Rq;rw[h.fd.1];have:=h.fd.2;simp[this]
def Xu(vs:List Vr)(d:Nat):Nat:=if (gv vs d).sec=true then 40 else 16
def Ou(vs:List Vr)(d i:Nat):Pn:=⟨i,0,(gv vs d).limbs.toNat⟩
def wm(vs:List Vr)(d:Nat):Pn:=⟨Oy vs d,0,(gv vs d).limbs.toNat+2⟩
def am(vs:List Vr)(d a b c e:Nat):Fr Lo:=vy (Ou vs d d) (Ou vs d a) (Ou vs d b) (Ou vs d c) (wm vs d) ((gv vs d).limbs.toNat-1) (Xu vs d) e
def R7(vs:List Vr)(d a b c e:Nat):Fr Lo:=zv9 (Ou vs d d) (Ou vs d a) (Ou vs d b) (Ou vs d c) (wm vs d) ((gv vs d).limbs.toNat-1) (Xu vs d) e
def zzo(vs:List Vr)(d a b c e:Nat):(R7 vs d a b c e).flat=Pb e 0++((am vs d a b c e).flat++List.replicate e Se):=wrap_flat e 0 _
def X0{e:Nat}:(am vs d a b c e).flat.length≤200:=ft
def tf(h:MtV vs o d a b c)(hm:∀i,i<vs.length→(gv vs i).mode=0)(A:vs.length≤30){deep:Nat}(hd:deep≤4):zyz vs o (Nt vs (M4 vs o)) (Rk vs) ⟨vs.length,0,M4 vs o⟩ ⟨(vs.length:Int)+1,0,M4 vs o⟩ deep=(am vs d a b c deep).flat∧W7 vs o (Nt vs (M4 vs o)) (Rk vs) ⟨vs.length,0,M4 vs o⟩ ⟨(vs.length:Int)+1,0,M4 vs o⟩ deep=0:=by
 have hw:=z76 h;have B:=V3 h.hv h.fd.2;have z:bt vs o (Nt vs (M4 vs o)) (Rk vs) ⟨vs.length,0,M4 vs o⟩ ⟨(vs.length:Int)+1,0,M4 vs o⟩ deep (M4 vs o)=true:=by
  unfold bt;rw[zwb h.hv hm A ⟨J,J⟩];have C:(Yv vs o ⟨vs.length,0,M4 vs o⟩ ⟨(vs.length:Int)+1,0,M4 vs o⟩).size=M4 vs o:=by unfold Yv;split<;>rfl
  rw[C];simp;omega
 unfold zyz W7;rw[Hv z,Hv z];refine⟨?_,rfl⟩;have D:o.d.toNat=d:=by have:=h.fd.1;omega
 have E:o.a.toNat=a:=by have:=h.fa.1;omega
 have F:o.b.toNat=b:=by have:=h.fb.1;omega
 have G:o.c.toNat=c:=by have:=h.fc.1;omega
 have H:zsw vs o=((Xu vs d:Nat):Int):=by
  unfold zsw Xu;rw[Yj h];cases (gv vs d).sec<;>simp
 have I:Yv vs o ⟨vs.length,0,M4 vs o⟩ ⟨(vs.length:Int)+1,0,M4 vs o⟩=⟨(Oy vs d:Nat),0,M4 vs o⟩:=by
  unfold Yv Oy;rw[Yj h];cases (gv vs d).sec<;>simp
 have g:ig (gv vs d).limbs=(gv vs d).limbs+2:=by unfold ig;rw[Hs J]
 rw[D,E,F,G,zqj h.fd.2,zqj h.fa.2,zqj h.fb.2,zqj h.fc.2,I,H,h.la,h.lb,h.lc];have j:et ⟨(d:Int),0,(gv vs d).limbs⟩ ⟨(a:Int),0,(gv vs d).limbs⟩ ⟨(b:Int),0,(gv vs d).limbs⟩ ⟨(c:Int),0,(gv vs d).limbs⟩ ⟨(Oy vs d:Nat),0,M4 vs o⟩ deep ((Xu vs d:Nat):Int)=true:=by
  have K:16≤Xu vs d∧Xu vs d≤40:=Dq
  simp[et,g,zkz,hw];omega
 unfold x4;rw[Hv j];have L:(((gv vs d).limbs.toNat:Nat):Int)=(gv vs d).limbs:=J
 have M:(((gv vs d).limbs.toNat-1+1:Nat):Int)=(gv vs d).limbs:=J
 unfold am vy Ou wm Pn.p;simp only[g,M];rw[(J:(((gv vs d).limbs.toNat+2:Nat):Int)=(gv vs d).limbs+2),L];rfl
def Xe(vs:List Vr)(d a b c:Nat):Cf:=⟨vs.length+2,if (gv vs d).sec=true then 40 else 16,24,0,7,12,13,λx=>x=d∨x=a∨x=b∨x=c∨x=Oy vs d,λx=>x=d∨x=Oy vs d⟩
def zzh(h:MtV vs o d a b c){lo:Int}{e:Nat}(j:lo≤(e:Int))(he:e≤4):(am vs d a b c e).AllH { Xe vs d a b c with lo:=lo } e:=by
 have g:=V3 h.hv h.fd.2;have z:=h.fd.2;have A:=h.fa.2;have B:=h.fb.2;have C:=h.fc.2;have hw:=lg vs d;unfold am vy;refine zx0 ?_ ⟨?_,.inl rfl⟩ ⟨?_,.inr (.inl rfl)⟩ ⟨?_,.inr (.inr (.inl rfl))⟩ ⟨?_,.inr (.inr (.inr (.inl rfl)))⟩ ⟨?_,.inr (.inr (.inr (.inr rfl)))⟩ ⟨?_,.inr rfl⟩ J ?_ ?_
 ·simp only[Xe];unfold Xu;split<;>omega
 all_goals simp only[Xe,Ou,wm]
 all_goals omega
def Yh(h:MtV vs o d a b c){e:Nat}(he:e≤4):(R7 vs d a b c e).AllH (Xe vs d a b c) 0:=by
 refine wrap_allH e 0 _ (by simp[Xe]) (by simp only[Xe];omega) ?_;rw[Int.zero_add];exact zzh (lo:=0) h J he
def cfM_ok:CfOk (Xe vs d a b c):=by
 refine⟨?_,by simp[Xe],by simp[Xe]⟩;simp only[Xe];split<;>omega
def zue{W:Int}:M7 (Nt vs W) (Oy vs d)=⟨W,2,(gv vs d).sec⟩:=by
 unfold Oy;cases g:(gv vs d).sec with
 |true=>rw[Hv rfl,plB_w1]
 |false=>rw[Hs N,plB_w0]
def sc(h:MtV vs o d a b c){i:Nat}(hi:i<vs.length)(j:(gv vs i).limbs=(gv vs d).limbs){W:Int}:Bp (Nt vs W) (Ou vs d i)∧Bw (Nt vs W) (Ou vs d i):=by
 have g:=V3 h.hv h.fd.2;exact pl_bp h.hv hi J
def ky(h:MtV vs o d a b c):Bp (Nt vs (M4 vs o)) (wm vs d)∧Bw (Nt vs (M4 vs o)) (wm vs d):=by
 have g:=V3 h.hv h.fd.2;have hw:=z76 h;have j:=(lg vs d).2;refine⟨⟨by rw[plB_len];exact j,?_,?_⟩,?_⟩
 ·show (((0+((gv vs d).limbs.toNat+2):Nat)):Int)≤(M7 _ (Oy vs d)).size;rw[zue];simp only;omega
 ·show (M7 _ (Oy vs d)).size≤_;rw[zue];simp only;omega
 ·show (M7 _ (Oy vs d)).kind≠1;rw[zue];simp
def zzk(h:MtV vs o d a b c)(B:vs.length≤30){e:Nat}(he:e≤4):(P5 ((64:Nat):Int) (Nt vs (M4 vs o)) (R7 vs d a b c e).flat).2=0:=by
 have z:=V3 h.hv h.fd.2;have hw:=z76 h;have j:Gd (Nt vs (M4 vs o)) [] [] (R7 vs d a b c e) []:=by
  unfold R7;refine jx J Dq (sc h h.fd.2 rfl).1 (sc h h.fd.2 rfl).2 (sc h h.fa.2 h.la).1 (sc h h.fb.2 h.lb).1 (sc h h.fc.2 h.lc).1 (ky h).1 (ky h).2 ?_ ?_
  ·show (gv vs d).limbs.toNat-1+2<(gv vs d).limbs.toNat+2;omega
  ·show 0<(gv vs d).limbs.toNat;omega
 have g:(R7 vs d a b c e).flat.length≤65536:=by
  rw[zzo];have C:=X0 (vs:=vs) (d:=d) (a:=a) (b:=b) (c:=c) (e:=e);have A:(Pb e 0).length=e:=lpsL_len' e 0;simp[A];omega
 have:=t9 (bs:=Nt vs (M4 vs o)) (f:=R7 vs d a b c e) (S':=[]) (by rw[plB_len];omega) g (zro h.hv ⟨J,J⟩) j;rw[show (((64:Nat):Int))=64 from rfl,this]
def zll{W:Int}{X:List (List UInt64)}(g:Xl (Nt vs W) X):br (Nt vs W) X=true:=by
 unfold br;refine I7 ⟨g.1,λi hi=>?_⟩;rw[g.2 i hi];have:(M7 (Nt vs W) i).kind=2:=by
  rw[plB_len]at hi;by_cases q:i<vs.length
  ·rw[U3 q]
  ·by_cases j:i=vs.length
   ·rw[j,plB_w0]
   ·rw[(J:i=vs.length+1),plB_w1]
 rw[this];simp
def fu{deep:Nat}(h:MtV vs o d a b c)(hn:vs.length≤30)(hk:(gv vs d).limbs≤6)(hd:deep≤4){X:List (List UInt64)}(z:Xl (Nt vs (M4 vs o)) X) :
  ∃(j:Ms),j.bufs.length=vs.length+2∧j.l.length≤800000000∧(∀i,i<vs.length+2→i≠d→i≠Oy vs d→j.bufs.getD i []=X.getD i []) ∧
   (j.bufs.getD d []).length=(gv vs d).limbs.toNat∧((X.getD c []).getD 0 0%2=1→val (X.getD a [])<val (X.getD c [])→val (j.bufs.getD d [])<val (X.getD c [])∧val (j.bufs.getD d [])=val (U9 (M5 (val (X.getD a [])*val (X.getD b []))) (X.getD c []) (gv vs d).limbs)) ∧
   Od 29 [.agg (Mv ((64:Nat):Int) (Nt vs (M4 vs o)) (R7 vs d a b c deep).flat),LN X] (.tup [LN j.bufs,.lst (T9 j.l) j.l.length 2,.i 0]) ∧
   ∀gg:List (List UInt64),Xl (Nt vs (M4 vs o)) gg→∃B:Ms,B.bufs.length=vs.length+2∧j.l=B.l∧Od 29 [.agg (Mv ((64:Nat):Int) (Nt vs (M4 vs o)) (R7 vs d a b c deep).flat),LN gg] (.tup [LN B.bufs,.lst (T9 B.l) B.l.length 2,.i 0]):=by
 have gz:=V3 h.hv h.fd.2;have hw:=z76 h;have A:(Nt vs (M4 vs o)).length=vs.length+2:=plB_len;have l1:=h.fd.2;have l2:=h.fa.2;have l3:=h.fb.2;have l4:=h.fc.2;have gA:=lg vs d;have E:16≤Xu vs d:=Dq
 have bd:=sc (W:=M4 vs o) h h.fd.2 rfl;have ba:=sc (W:=M4 vs o) h h.fa.2 h.la;have bb:=sc (W:=M4 vs o) h h.fb.2 h.lb;have bc:=sc (W:=M4 vs o) h h.fc.2 h.lc;have bw:=ky h;have hi:∀q:Pn,Bp (Nt vs (M4 vs o)) q→q.in_ (bx (O1 64 (Nt vs (M4 vs o)) X)):=λq Y=>jh (z.2 _ Y.b) Y
 have F:=hi _ bd.1;have Z:=hi _ ba.1;have ib:=hi _ bb.1;have ic:=hi _ bc.1;have iw:=hi _ bw.1;have G:(R7 vs d a b c deep).stp≤16777216:=zy5 J (by show (gv vs d).limbs.toNat+2≤12;omega) J;have xl:∀i,i<vs.length→((X.getD i []).length:Int)=(gv vs i).limbs:=λi hi=>by
  have:=z.2 i J;rw[U3 hi]at this;exact this
 have K:∀i,i<vs.length→(gv vs i).limbs=(gv vs d).limbs→vl (pl (Rn (O1 64 (Nt vs (M4 vs o)) X)).m (Ou vs d i)) ((gv vs d).limbs.toNat-1+1)=val (X.getD i []):=λi hi hl=>by
  have hx:=xl i hi;exact gq (p:=Ou vs d i) (z.2 i J) (by show i<_;omega) rfl (by show (X.getD i []).length=_;omega)
 have va:=K a l2 h.la;have vb:=K b l3 h.lb;have L:=K c l4 h.lc;have vo:pl (Rn (O1 64 (Nt vs (M4 vs o)) X)).m (Ou vs d c) 0=(X.getD c []).getD 0 0:=by
  show (Rn (O1 64 (Nt vs (M4 vs o)) X)).m c (0+0)=_;rw[Xy (z.2 c J) J]
 have g:(gv vs d).limbs.toNat-1+1=(gv vs d).limbs.toNat:=J
 have M:Tx (bx (O1 64 (Nt vs (M4 vs o)) X)) (R7 vs d a b c deep) (Rn (O1 64 (Nt vs (M4 vs o)) X)) λt=>(X.getD c []).getD 0 0%2=1→val (X.getD a [])<val (X.getD c []) →
   vl (pl t.m (Ou vs d d)) ((gv vs d).limbs.toNat-1+1)<val (X.getD c [])∧vl (pl t.m (Ou vs d d)) ((gv vs d).limbs.toNat-1+1)=val (U9 (M5 (val (X.getD a [])*val (X.getD b []))) (X.getD c []) (gv vs d).limbs):=by
  by_cases I:(X.getD c []).getD 0 0%2=1∧val (X.getD a [])<val (X.getD c [])
  ·have O:=jq (sz:=bx (O1 64 (Nt vs (M4 vs o)) X)) (s0:=Rn (O1 64 (Nt vs (M4 vs o)) X)) (d:=Ou vs d d) (a:=Ou vs d a) (b:=Ou vs d b) (n:=Ou vs d c) (t:=wm vs d) (k:=(gv vs d).limbs.toNat-1) (R:=Xu vs d) (e:=deep) J F Z ib ic iw A6 A6 A6 A6 Ez
    (by by_cases q : d = c
        ·exact .inr ⟨q,rfl⟩
        ·exact .inl (.inl q)) (.inl (by show d≠Oy vs d;omega)) (.inl (by show Oy vs d≠a;omega)) (.inl (by show Oy vs d≠b;omega)) (.inl (by show Oy vs d≠c;omega)) (by rw[vo];exact I.1) (by rw[va,L];exact I.2)
   refine O.mono λt ⟨_,P,Q,Q',p3⟩ _ _=>?_
   rw[va,vb,L]at p3;rw[L]at P;refine⟨P,?_⟩;have H:Qh (X.getD c [])=true:=by unfold Qh;exact I7 I.1
   have hm:=f6 (t:=M5 (val (X.getD a [])*val (X.getD b []))) (n:=X.getD c []) (k:=(gv vs d).limbs.toNat) (D:=vl (pl t.m (Ou vs d d)) ((gv vs d).limbs.toNat-1+1)) (Q:=Q) (Q':=Q') H J (by rw[Q1,←g];exact p3) P;rw[(J:(((gv vs d).limbs.toNat:Nat):Int)=(gv vs d).limbs)]at hm;exact hm.symm
  ·have O:=zwc (sz:=bx (O1 64 (Nt vs (M4 vs o)) X)) (s0:=Rn (O1 64 (Nt vs (M4 vs o)) X)) (d:=Ou vs d d) (a:=Ou vs d a) (b:=Ou vs d b) (n:=Ou vs d c) (t:=wm vs d) (k:=(gv vs d).limbs.toNat-1) (R:=Xu vs d) (e:=deep) E J F Z ib ic iw A6 A6 A6 A6 Ez (by show (gv vs d).limbs.toNat+2<1000000;omega);exact O.mono λt _ h1 h2=>absurd ⟨h1,h2⟩ I
 obtain⟨j,t,r1,r2,r3,r4,r6,r7,r8⟩:=dx (X:=X) cfM_ok El (Yh h hd) (zzk h hn hd) G (zll z) J M;rw[A]at r4;have C:(j.bufs.getD d []).length=(gv vs d).limbs.toNat:=by
  rw[r1.len d J,zno (z.2 d J) J,U3 h.fd.2]
 have T:vl (pl t.m (Ou vs d d)) ((gv vs d).limbs.toNat-1+1)=val (j.bufs.getD d []):=by
  rw[g];refine vl_get J λi hi=>?_
  show t.m d (0+i)=_;rw[Iq];have hm:=r1.m d i J;rw[zno (z.2 d J) J,U3 h.fd.2]at hm;exact (hm Do).symm
 rw[T]at r2;refine⟨j,r4,r6,λi hi U V=>?_,C,r2,r7,λgg hY=>?_⟩
 ·rw[r3 i (λq=>by rcases q with q|q;exact U q;exact V q),zhz (z.2 i J) J]
 ·obtain⟨B,e1,e2,e3⟩:=r8 gg (zll hY) λi hi=>by have:=z.2 i hi;have:=hY.2 i hi;omega
  exact⟨B,J,e2,e3⟩
end pl
end
def zk2:LC:=(.q [.z 4 (.alloc [.nilSl,.nilSl,(.i 0),(.i 0),(.i 0),(.i 0),(.i 0),(.i 0)])] (.q [.z 5 (.alloc [.nilSl,.nilSl,(.i 0),(.i 0),(.i 0),(.i 0),(.i 0),(.i 0)])] (.seq (.q [.K 6 0] (.block 0 (.loop (.seq (.q [.m 8 6,.m 9 0,.s 10 9,.c 11 .lss 3 8 10] (.cond (.t 11) .skip (.exit 0))) (.seq (.block 1 (.seq (.draw [(.f 14 0 5,[]),(.l 15 14,[]),(.m 16 0,[]),(.m 17 6,[]),(.I 18 3 16 17,[]),(.f 19 0 18,[]),(.l 20 19,[]),(.m 21 0,[]),(.m 22 6,[]),(.I 23 3 21 22,[]),(.f 24 1 23,[]),(.l 25 24,[]),(.z 26 (.build [(.i 0),(.i 0),(.bool false)] [(0,1,.t 20),(1,1,.k 2),(2,1,.t 25)]),[]),(.z 27 (.buildSl 3 1 [(.i 0),(.i 0),(.bool false)] [(0,3,.t 26)]),[(.l 25 24,false),(.l 20 19,false),(.l 15 14,false)]),(.a 28 3 15 27,[]),(.f 29 0 5,[]),(.S 1 29 28,[])]) (.draw [(.f 30 1 5,[]),(.l 31 30,[]),(.m 32 6,[]),(.m 33 0,[]),(.m 34 6,[]),(.I 35 3 33 34,[]),(.f 36 0 35,[]),(.l 37 36,[]),(.z 38 (.build [(.i 0),(.i 0),(.i 0)] [(0,1,.t 32),(2,1,.t 37)]),[]),(.z 39 (.buildSl 3 1 [(.i 0),(.i 0),(.i 0)] [(0,3,.t 38)]),[(.l 37 36,false),(.l 31 30,false)]),(.a 40 3 31 39,[]),(.f 41 1 5,[]),(.S 1 41 40,[])]))) (.ops [.m 12 6,.b 13 .add 3 12 1,.m 6 13])))))) (.seq (.q [.K 7 0] (.block 2 (.loop (.seq (.q [.m 42 7,.b 43 .lss 3 42 2] (.cond (.t 43) .skip (.exit 2))) (.seq (.block 3 (.q [.f 46 0 5,.l 47 46,.m 48 1,.m 49 7,.b 50 .eql 3 49 1,.z 51 (.build [(.i 0),(.i 0),(.bool false)] [(0,1,.t 48),(1,1,.k 2),(2,1,.t 50)]),.z 52 (.buildSl 3 1 [(.i 0),(.i 0),(.bool false)] [(0,3,.t 51)]),.a 53 3 47 52,.f 54 0 5,.S 1 54 53] (.ops [.m 55 7,.m 56 0,.s 57 56,.m 58 7,.c 59 .add 3 57 58,.m 60 1,.z 61 (.build [(.i 0),(.i 0),(.i 0)] [(0,1,.t 59),(2,1,.t 60)]),.f 62 2 5,.z 63 (.ixAddrArr 2 3 (.t 62) (.t 55)),.S 3 63 61]))) (.ops [.m 44 7,.b 45 .add 3 44 1,.m 7 45])))))) (.q [.L 64 8 5,.S 8 4 64] .ret)))))
def r_kit_Plain:My Tryz.prog 19=some ⟨65,zk2.r,[.cellN 4 8]⟩:=Aa
def z7m:LC:=(.q [.x 2 0,.e 4] (.q [.e 5] (.seq (.q [.K 6 0] (.block 0 (.loop (.seq (.q [.m 7 6,.f 8 0 2,.l 9 8,.s 10 9,.c 11 .lss 3 7 10] (.cond (.t 11) .skip (.exit 0))) (.seq (.block 1 (.draw [(.m 14 5,[]),(.z 15 (.buildSl 1 0 [] []),[]),(.m 16 1,[]),(.m 18 6,[]),(.z 19 (.cvInt .u64 (.t 18)),[]),(.u 20 .mul 23 19 1234567891011,[]),(.z 21 (.buildSl 1 1 [(.u 0)] [(0,1,.t 20)]),[(.z 15 (.buildSl 1 0 [] []),true)]),(.f 23 0 2,[]),(.l 24 23,[]),(.m 25 6,[]),(.I 26 3 24 25,[]),(.f 27 0 26,[]),(.l 28 27,[]),(.a 17 1 15 16,[(.l 28 27,false),(.l 24 23,false),(.z 21 (.buildSl 1 1 [(.u 0)] [(0,1,.t 20)]),true)]),(.a 22 1 17 21,[(.l 28 27,false),(.l 24 23,false)]),(.W 29 26 22 28,[]),(.z 30 (.buildSl 1 1 [.nilSl] [(0,1,.t 29)]),[]),(.a 31 1 14 30,[]),(.m 5 31,[])])) (.ops [.m 12 6,.b 13 .add 3 12 1,.m 6 13])))))) (.q [.m 32 5,.m 4 32] .ret))))
def r_law23_rows:My Tryz.prog 62=some ⟨33,z7m.r,[.tmp 4]⟩:=Aa
def k_law23_rows:z7m.ok=true:=Aa
def zrt{i:Nat}(h:i<vX.length):Uq (vX.take (i+1))=Uq (vX.take i)++[⟨(gv vX i).limbs,2,(gv vX i).sec⟩]:=by
 have g:=Sr h;obtain⟨_,e⟩:=Hm.1 g;rw[I0 h,Uq,Km,e];rfl
def jo(g:List Vr)(i:Nat):List Pc:=(List.range i).map λi:Nat=>⟨(i:Int),0,(gv g i).limbs⟩
def Zf(g:List Vr)(i:Nat):jo g (i+1)=jo g i++[⟨(i:Int),0,(gv g i).limbs⟩]:=by simp[jo,List.range_succ]
def pe(a b:List Pc):Vk (a++b)=Vk a++Vk b:=by simp[Vk]
def y6(n w:Int):Nat→List LV
 |0=>[.i 0,.i 0,.i 0,.i 0,.i 0,.i 0]
 |1=>[.i n,.i 0,.i w,.i 0,.i 0,.i 0]
 |_=>[.i n,.i 0,.i w,.i (n+1),.i 0,.i w]
def xz(w:Int):Nat→List Bf
 |0=>[]
 |1=>[⟨w,2,false⟩]
 |_=>[⟨w,2,false⟩,⟨w,2,true⟩]
def zg4(vs:List Vr)(w:Int)(hl:vs.length≤1000000):Od 19 [.lst (Nd vs) vs.length 3,.i w] (.agg (Pk (Uq vs++[⟨w,2,false⟩,⟨w,2,true⟩]) (Rk vs) ⟨vs.length,0,w⟩ ⟨(vs.length:Int)+1,0,w⟩)):=by
 refine Ra.mk (by simp[LV.dat,zbk]) (Mz r_kit_Plain Aa (by simp) ?_);simp[zk2];refine Oc (λρ gV P N=>∃(i st X:Nat) (O C:LV),gV=[]∧N+i=vs.length∧lk ρ 0=.lst (Nd vs) vs.length 3∧lk ρ 1=.i w∧lk ρ 4=.ptr 0 0∧lk ρ 5=.ptr 1 0∧lk ρ 6=.i i∧2≤P.length ∧
   P[0]?=some (.cells [.nilSl,.nilSl,.i 0,.i 0,.i 0,.i 0,.i 0,.i 0] X)∧P[1]?=some (.cells [O,C,.i 0,.i 0,.i 0,.i 0,.i 0,.i 0] st) ∧
   Pl 2 P O 3 i (O8 (Uq (vs.take i)))∧Pl 2 P C 3 i (Vk (jo vs i))∧∀q A z j,O=.dy q A→C=.dy z j→q≠z) (N:=vs.length)
  ⟨0,0,0,.nilSl,.nilSl,rfl,J,by simp,by simp,by simp,by simp,by simp,by simp,by simp,by simp,by simpa [Uq,O8] using Pl.nil,by simpa [jo,Vk] using Pl.nil,λq A z j e=>Aq⟩ ?_
 rintro N ρ gV P ⟨i,st,X,O,C,rfl,hN,L,R,T,M,h6,gD,Q,E,H,D,B⟩ Nx Y;by_cases gP:i<vs.length
 ·have q0:=ng (Sr gP);have q1:=zu (Sr gP);have hq:=ae gP;have l1:1<P.length:=J
  have p1:∀x:List LObj,(P++x)[1]?=_:=λx=>(M6 l1).trans E
  have p0:∀x:List LObj,(P++x)[0]?=_:=λx=>(M6 J).trans Q
  simp[L,M,h6,E,↓p1,gP,Mr q0,Mr q1];have D1:=H.push_end (ob:=[LObj.dyn [.i (gv vs i).limbs,.i 2,.bool (gv vs i).sec] 1 3 0 0]);have U:=D.push_end (ob:=[LObj.dyn [.i (gv vs i).limbs,.i 2,.bool (gv vs i).sec] 1 3 0 0]);have m0:=p0 [LObj.dyn [.i (gv vs i).limbs,.i 2,.bool (gv vs i).sec] 1 3 0 0];have m1:=p1 [LObj.dyn [.i (gv vs i).limbs,.i 2,.bool (gv vs i).sec] 1 3 0 0];have ml:(P++[LObj.dyn [.i (gv vs i).limbs,.i 2,.bool (gv vs i).sec] 1 3 0 0]).length=P.length+1:=by simp
  have I:=λq A (e:C=.dy q A)=>(D.lt e).2
  generalize P++[LObj.dyn [.i (gv vs i).limbs,.i 2,.bool (gv vs i).sec] 1 3 0 0]=GA at *;refine D1.push2 (c:=1) (x:=(⟨(gv vs i).limbs,2,(gv vs i).sec⟩:Bf).f) J J J rfl rfl λg V K Z gE s1 gF=>?_
  have n1:∀q,q<2→∀A,O≠.dy q A:=λq hq A e=>Dy
  have n2:∀q,q<2→∀A,C≠.dy q A:=λq hq A e=>by have:=(U.lt e).1;omega
  have gg:=(Z 0 J (n1 0 J)).trans m0;have gz:=(Z 1 J (n1 1 J)).trans m1;have gA:=U.keep (G':=V) (λq A e=>Z q (U.lt e).2 (λj G=>B q j q A G e rfl));have F:∀q A z j,g=.dy q A→C=.dy z j→q≠z:=λq A z j e G=>by
   rcases s1 q A e with h|⟨j2,h⟩
   ·have:=I z j G;omega
   ·exact B q j2 z j h G
  have gC:=K.cells;have gG:=U.cells;simp[-LV.cells,L,M,h6,gz,gC];have gH:=K.set_lt (q:=1) (ob:=.cells [g,C,.i 0,.i 0,.i 0,.i 0,.i 0,.i 0] (st+1)) J;have gQ:=gA.set_lt (q:=1) (ob:=.cells [g,C,.i 0,.i 0,.i 0,.i 0,.i 0,.i 0] (st+1)) J;have k0:(V.set 1 (.cells [g,C,.i 0,.i 0,.i 0,.i 0,.i 0,.i 0] (st+1)))[0]?=_:=(Ho J).trans gg;have k1:(V.set 1 (.cells [g,C,.i 0,.i 0,.i 0,.i 0,.i 0,.i 0] (st+1)))[1]?=_:=Hu J;have kl:(V.set 1 (.cells [g,C,.i 0,.i 0,.i 0,.i 0,.i 0,.i 0] (st+1))).length=V.length:=by simp
  generalize V.set 1 (.cells [g,C,.i 0,.i 0,.i 0,.i 0,.i 0,.i 0] (st+1))=G2 at *;have r1:∀x:List LObj,(G2++x)[1]?=_:=λx=>(M6 J).trans k1
  have r0:∀x:List LObj,(G2++x)[0]?=_:=λx=>(M6 J).trans k0
  simp[L,M,h6,k1,↓r1,gP,Mr q0];have E1:=gH.push_end (ob:=[LObj.dyn [.i (i:Int),.i 0,.i (gv vs i).limbs] 1 3 0 0]);have E2:=gQ.push_end (ob:=[LObj.dyn [.i (i:Int),.i 0,.i (gv vs i).limbs] 1 3 0 0]);have w0:=r0 [LObj.dyn [.i (i:Int),.i 0,.i (gv vs i).limbs] 1 3 0 0];have w1:=r1 [LObj.dyn [.i (i:Int),.i 0,.i (gv vs i).limbs] 1 3 0 0];have wl:(G2++[LObj.dyn [.i (i:Int),.i 0,.i (gv vs i).limbs] 1 3 0 0]).length=G2.length+1:=by simp
  have gI:=λq A (e:g=.dy q A)=>(gH.lt e).2
  generalize G2++[LObj.dyn [.i (i:Int),.i 0,.i (gv vs i).limbs] 1 3 0 0]=GB at *;refine E2.push2 (c:=1) (x:=(⟨(i:Int),0,(gv vs i).limbs⟩:Pc).f) J J J rfl rfl λgK G3 gL f2 gY s2 gZ=>?_
  have gR:=(f2 0 J (n2 0 J)).trans w0;have gT:=(f2 1 J (n2 1 J)).trans w1;have gU:=E1.keep (G':=G3) (λq A e=>f2 q (E1.lt e).2 (λj G=>F q A q j e G rfl));have gM:∀q A z j,g=.dy q A→gK=.dy z j→q≠z:=λq A z j e G=>by
   rcases s2 z j G with h|⟨j2,h⟩
   ·have:=gI q A e;omega
   ·exact F q A z j2 e h
  have gO:=gL.cells;simp[-LV.cells,L,M,h6,gT,gO];refine⟨J,Y _ _ _ ⟨N-1,J,i+1,st+1+1,X,g,gK,rfl,J,Bh,Bd,Bc,A0,by simp,Ab,?_,?_,?_,?_,gM⟩⟩
  ·rw[Ho J];exact gR
  ·rw[Hu J]
  ·rw[zrt gP,tn];exact gU.set_lt J
  ·rw[Zf,pe];exact gL.set_lt J
 ·have gi:i=vs.length:=J
  subst gi;simp[L,R,T,M,h6,E];refine Oc (λρ gV P N=>∃(A st X:Nat) (O C:LV),gV=[]∧N+A=2∧lk ρ 0=.lst (Nd vs) vs.length 3∧lk ρ 1=.i w∧lk ρ 4=.ptr 0 0∧lk ρ 5=.ptr 1 0∧lk ρ 7=.i A∧2≤P.length ∧
    P[0]?=some (.cells [.nilSl,.nilSl,.i 0,.i 0,.i 0,.i 0,.i 0,.i 0] X)∧P[1]?=some (.cells (O::C::y6 vs.length w A) st) ∧
    Pl 2 P O 3 (vs.length+A) (O8 (Uq vs++xz w A))∧Pl 2 P C 3 vs.length (Vk (Rk vs))∧∀q A z j,O=.dy q A→C=.dy z j→q≠z) (N:=2)
   ⟨0,st,X,O,C,rfl,J,Bh,Bd,Bc,A0,by simp,gD,Q,E,by simpa [xz] using H,D,B⟩ ?_
  clear L R T M h6 gD Q E H D B gP Y Nx;rintro N ρ gV P ⟨A,st,X,O,C,rfl,g8,L,R,T,M,h7,gD,Q,E,H,D,B⟩ Nx Y;have p1:∀x:List LObj,(P++x)[1]?=_:=λx=>(M6 J).trans E
  have p0:∀x:List LObj,(P++x)[0]?=_:=λx=>(M6 J).trans Q
  have hj:A=0∨A=1∨A=2:=J
  rcases hj with rfl|rfl|rfl
  ·have D1:=H.push_end (ob:=[LObj.dyn [.i w,.i 2,.bool false] 1 3 0 0]);have U:=D.push_end (ob:=[LObj.dyn [.i w,.i 2,.bool false] 1 3 0 0]);simp[L,R,T,M,h7,E,↓p1,y6];have m0:=p0 [LObj.dyn [.i w,.i 2,.bool false] 1 3 0 0];have m1:=p1 [LObj.dyn [.i w,.i 2,.bool false] 1 3 0 0];have ml:(P++[LObj.dyn [.i w,.i 2,.bool false] 1 3 0 0]).length=P.length+1:=by simp
   have I:=λq A (e:C=.dy q A)=>(D.lt e).2
   generalize P++[LObj.dyn [.i w,.i 2,.bool false] 1 3 0 0]=GA at *;refine D1.push2 (c:=1) (x:=(⟨w,2,false⟩:Bf).f) J J J rfl rfl λg V K Z gE s1 gF=>?_
   have n1:∀q,q<2→∀A,O≠.dy q A:=λq hq A e=>Dy
   have gg:=(Z 0 J (n1 0 J)).trans m0;have gz:=(Z 1 J (n1 1 J)).trans m1;have gA:=U.keep (G':=V) (λq A e=>Z q (U.lt e).2 (λj G=>B q j q A G e rfl));have F:∀q A z j,g=.dy q A→C=.dy z j→q≠z:=λq A z j e G=>by
    rcases s1 q A e with h|⟨j2,h⟩
    ·have:=I z j G;omega
    ·exact B q j2 z j h G
   have gC:=K.cells;have gG:=U.cells;have x1:∀x,(V.set 1 x)[1]?=some x:=λx=>Hu J
   simp[-LV.cells,L,R,T,M,h7,gz,gC,↓x1,y6];simp[Ns]
   repeat (refine⟨J,?_⟩)
   refine Y _ _ _ ⟨N-1,J,0+1,st+1+1,X,g,C,rfl,J,Bh,Bd,Bc,A0,by simp,Ab,?_,?_,?_,?_,F⟩
   ·rw[Ho J];exact gg
   ·rw[Hu J];simp[y6]
   ·have hW:O8 (Uq vs++xz w (0+1))=O8 (Uq vs++xz w 0)++(⟨w,2,false⟩:Bf).f:=by simp[O8,xz]
    rw[hW];exact K.set_lt J
   ·exact gA.set_lt J
  ·have D1:=H.push_end (ob:=[LObj.dyn [.i w,.i 2,.bool true] 1 3 0 0]);have U:=D.push_end (ob:=[LObj.dyn [.i w,.i 2,.bool true] 1 3 0 0]);simp[L,R,T,M,h7,E,↓p1,y6];have m0:=p0 [LObj.dyn [.i w,.i 2,.bool true] 1 3 0 0];have m1:=p1 [LObj.dyn [.i w,.i 2,.bool true] 1 3 0 0];have ml:(P++[LObj.dyn [.i w,.i 2,.bool true] 1 3 0 0]).length=P.length+1:=by simp
   have I:=λq A (e:C=.dy q A)=>(D.lt e).2
   generalize P++[LObj.dyn [.i w,.i 2,.bool true] 1 3 0 0]=GA at *;refine D1.push2 (c:=1) (x:=(⟨w,2,true⟩:Bf).f) J J J rfl rfl λg V K Z gE s1 gF=>?_
   have n1:∀q,q<2→∀A,O≠.dy q A:=λq hq A e=>Dy
   have gg:=(Z 0 J (n1 0 J)).trans m0;have gz:=(Z 1 J (n1 1 J)).trans m1;have gA:=U.keep (G':=V) (λq A e=>Z q (U.lt e).2 (λj G=>B q j q A G e rfl));have F:∀q A z j,g=.dy q A→C=.dy z j→q≠z:=λq A z j e G=>by
    rcases s1 q A e with h|⟨j2,h⟩
    ·have:=I z j G;omega
    ·exact B q j2 z j h G
   have gC:=K.cells;have gG:=U.cells;have x1:∀x,(V.set 1 x)[1]?=some x:=λx=>Hu J
   simp[-LV.cells,L,R,T,M,h7,gz,gC,↓x1,y6];simp[Ns]
   repeat (refine⟨J,?_⟩)
   refine Y _ _ _ ⟨N-1,J,1+1,st+1+1,X,g,C,rfl,J,Bh,Bd,Bc,A0,by simp,Ab,?_,?_,?_,?_,F⟩
   ·rw[Ho J];exact gg
   ·rw[Hu J];simp[y6]
   ·have hW:O8 (Uq vs++xz w (1+1))=O8 (Uq vs++xz w 1)++(⟨w,2,true⟩:Bf).f:=by simp[O8,xz]
    rw[hW];exact K.set_lt J
   ·exact gA.set_lt J
  ·have g9:=H.bor;have gO:=D.bor;have y0:∀x,(P.set 0 x)[0]?=some x:=λx=>Hu J
   simp[L,R,T,M,h7,Q,E,y6,↓y0];have b1:=(H.set_lt (q:=0) (ob:=.cells [O,C,.i vs.length,.i 0,.i w,.i (vs.length+1),.i 0,.i w] (X+1)) J).bor;have b2:=(D.set_lt (q:=0) (ob:=.cells [O,C,.i vs.length,.i 0,.i w,.i (vs.length+1),.i 0,.i w] (X+1)) J).bor;refine⟨_,_,rfl,?_,_,rfl,?_⟩
   ·have e1:(Uq vs++[(⟨w,2,false⟩:Bf),⟨w,2,true⟩]).length=vs.length+2:=by simp[Uq]
    rw[e1];exact b1
   ·have e2:(Rk vs).length=vs.length:=by simp[Rk]
    rw[e2];exact b2
def cq{bs:List Bf}{w5 w6:Int}{fill:List UInt64}(hs:∀b∈bs,0≤b.size∧b.size≤1000000)(hb:bs.length≤1000)(gC:fill.length≤1000)
  (kk:∀(X:List (List UInt64)) (p A st:Nat) (F:Mp),X.length=bs.length→(∀i,i<bs.length→((X.getD i []).length:Int)=(M7 bs i).size)→(∀q,q<G.length→F[q]?=G[q]?)→G.length≤p→G.length≤F.length→bs≠[]→F[p]?=some (.dyn (X.map LU) X.length 1 A st)→Y (.dy p A) F) (H:bs≠[]) :
  Ol (.fn 62) [.agg [.lst (O8 bs) bs.length 3,O,.i z,.i C,.i v8,.i vQ,.i w5,.i w6],.lst (fill.map .u) fill.length 1] G Y:=by
 refine Mz r_law23_rows k_law23_rows (by simp) ?_;simp[z7m];refine Oc (λρ gE D N=>∃(i R:Nat) (v:LV) (X:List (List UInt64)),gE=[]∧N+i=bs.length∧lk ρ 1=.lst (fill.map .u) fill.length 1∧lk ρ 2=.ptr G.length 0∧lk ρ 5=v∧lk ρ 6=.i i∧G.length<D.length∧(∀q,q<G.length→D[q]?=G[q]?) ∧
   D[G.length]?=some (.cells [.lst (O8 bs) bs.length 3,O,.i z,.i C,.i v8,.i vQ,.i w5,.i w6] R)∧X.length=i∧(∀T,T<i→((X.getD T []).length:Int)=(M7 bs T).size)∧Pl (G.length+1) D v 1 i (X.map LU)) (N:=bs.length)
  ⟨0,0,.nilSl,[],rfl,J,by simp,by simp,by simp,by simp,by simp,λq E=>Hx E,by simp,rfl,λT h=>J,Pl.nil⟩ ?_
 rintro N ρ gE D ⟨i,R,v,X,rfl,hN,h1,U,h5,V,I,K,B,j,hX,hD⟩ Nx Z;by_cases gA:i<bs.length
 ·have q0:=ub (Rg gA);have E:=vx gA;have hz:=hs _ (Ia (Rg gA));have pp:∀x:List LObj,(D++x)[G.length]?=_:=λx=>(M6 I).trans B
  simp[h1,U,h5,V,B,↓pp,gA,Mr q0];refine⟨J,J,?_⟩;obtain⟨gD,L⟩:=Hr hz.1;rw[L];generalize Ro (iU ↑i) 1234567891011=g;have o1:(D++[LObj.dyn (fill.map .u++[.u g]) (fill.length+1) 1 2 2,LObj.dyn [.u g] 1 1 0 0])[D.length]?=some (.dyn ((fill++[g]).map .u) (fill++[g]).length 1 2 2):=by
   rw[H9 (Hw _),Kt];simp
  have o2:=λq (E:q<D.length)=>(M6 (x:=[LObj.dyn (fill.map .u++[.u g]) (fill.length+1) 1 2 2,LObj.dyn [.u g] 1 1 0 0]) E)
  have o3:=hD.push_end (ob:=[LObj.dyn (fill.map .u++[.u g]) (fill.length+1) 1 2 2,LObj.dyn [.u g] 1 1 0 0]);have o4:(D++[LObj.dyn (fill.map .u++[.u g]) (fill.length+1) 1 2 2,LObj.dyn [.u g] 1 1 0 0]).length=D.length+2:=by simp
  generalize D++[LObj.dyn (fill.map .u++[.u g]) (fill.length+1) 1 2 2,LObj.dyn [.u g] 1 1 0 0]=GA at *;refine M2 (zhn (fill++[g]) gD J Ab (by simp)) ⟨_,_,rfl,⟨_,_,_,_,rfl,o1,vp _⟩,_,_,rfl,⟨rfl,rfl⟩,rfl⟩ ?_;have M:=zjq (fill++[g]) gD;generalize zrc (fill++[g]) gD=gF at *;simp[RU];refine Pl.push (c:=1) (x:=[LU gF]) (o3.push_end) J Ab J rfl (by simp[dats,LV.dat,vp]) λv' F gg P gz=>?_
  simp at gz;simp[V];refine⟨J,Z _ _ _ ⟨N-1,J,i+1,R,v',X++[gF],rfl,J,by simp[h1],Bm,by simp,by simp,J,?_,?_,Af,?_,?_⟩⟩
  ·intro q E;rw[P q J,M6 J,o2 q J];exact K q E
  ·rw[P _ J,M6 J,o2 _ I];exact B
  ·intro T hj;by_cases e:T=i
   ·subst e;rw[Hn,←j,Ie,j,L];simp[M]
   ·rw[Hn,Hx J,←Hn];exact hX T J
  ·rw[Km];exact gg
 ·have gi:i=bs.length:=J
  subst gi;obtain⟨_,_,⟨_,e0,_⟩|⟨p,A,st,hp,rfl,Q⟩⟩:=hD
  ·exact absurd (Ic e0) H
  simp[U,h5,V,B];exact kk X p A st D j (λi hi=>hX i hi) K J J H (by rw[j];exact Q)
def z9m:LC:=(.q [.e 4,.K 5 0] (.seq (.q [.m 6 1,.b 7 .lss 3 6 0,.m 8 7,.mn 9 8 1,.nb 10 8 .gtr 3 9 512,.p 11 8 10] (.cond (.t 11) (.q [.e 4,.K 5 2] .ret) .skip)) (.q [.m 12 0,.w 13 84 12,.m 0 13] (.seq (.q [.m 14 0,.s 15 14,.m 16 1,.c 17 .gtr 3 15 16] (.cond (.t 17) (.q [.e 4,.K 5 3] .ret) .skip)) (.q [.m 18 0,.m 19 1,.m 20 0,.s 21 20,.c 22 .sub 3 19 21,.z 23 (.appZ 1 [(.u 0)] (.t 18) (.t 22)),.m 4 23,.K 5 0] .ret)))))
def r_ref02_Fit:My Tryz.prog 95=some ⟨24,z9m.r,[.tmp 4,.tmp 5]⟩:=Aa
def zfo(a:List UInt64)(n:Int)(A:a.length≤1000000):Mu 95 [LU a,.i n] (.tup [.dy 0 0,.i (Rx a n)]) [RU (Uv a n)]:=by
 refine Ng.rowE (Mz r_ref02_Fit Aa N ?_);have B:=z2k a;by_cases g:n<0
 ·have e:Rx a n=2:=Hv (.inl g);simp[z9m,g,e,Uv,Qd]
 ·by_cases z:512<n
  ·have e:Rx a n=2:=Hv (.inr z);simp[z9m,g,z,e,Uv,Qd]
  ·simp[z9m,g,z];refine z8z (W8 a J) N ?_;by_cases j:n<(M5 (val a)).length
   ·have e:Rx a n=3:=by unfold Rx;rw[Hs J,Hv j]
    simp[RU,j,e,Uv,Qd]
   ·have e:Rx a n=0:=by unfold Rx;rw[Hs J,Hs j]
    simp[RU,j,e,Uv];refine⟨J,λC=>⟨J,J,J,J,.inr ⟨0,1,1,rfl,?_⟩⟩⟩;rw[uy];simp
def fit_ok{a:List UInt64}{k:Nat}(h:val a<2^(64*(k+1)))(g:k≤5):Rx a ((k:Int)+1)=0:=by
 have:=ai h;unfold Rx;rw[Hs J,Hs J]

def zi9{l:List (List UInt64)}{i:Nat}(h:i<l.length):(l.map LU)[i]?=some (LU (l.getD i [])):=by
 rw[Jj,Ht h,Hn,Ht h];rfl
def zcj:LC:=(.q [.x 4 1] (.q [.f 11 3 4,.l 12 11,.f 13 4 4,.l 14 13,.z 15 (.buildSl 1 2 [(.i 0),(.i 0)] [(0,1,.t 12),(1,1,.t 14)]),.s 16 15,.K 17 0] (.block 0 (.loop (.q [.c 18 .lss 3 17 16] (.seq (.cond (.t 18) .skip (.exit 0)) (.seq (.block 1 (.q [.I 19 1 15 17,.l 20 19,.m 7 20] (.q [.m 21 7,.b 22 .geq 3 21 0,.m 23 22,.my 24 23 7,.yf 25 23 5 4,.yl 26 23 25,.y 27 23 (.bin .neq false 3 (.t 24) (.t 26)),.q 28 23 27,.m 29 28,.yf 30 29 0 4,.yl 31 29 30,.y 32 29 (.bin .neq true 3 (.t 31) (.k 9)),.q 33 29 32,.m 34 33,.yf 35 34 0 4,.yl 36 34 35,.y 37 34 (.bin .eql true 3 (.t 36) (.k 13)),.my 38 34 37,.my 39 38 7,.yf 40 38 4 4,.yl 41 38 40,.y 42 38 (.bin .eql false 3 (.t 39) (.t 41)),.y 43 34 (.pick (.t 38) (.t 42) .F),.y 44 34 (.un .not (.t 43)),.q 45 34 44] (.cond (.t 45) (.seq (.draw [(.m 47 2,[]),(.m 48 7,[]),(.I 49 1 47 48,[]),(.l 50 49,[]),(.m 51 2,[]),(.f 52 5 4,[]),(.l 53 52,[]),(.I 54 1 51 53,[]),(.l 55 54,[]),(.W 56 28 50 55,[]),(.m 46 56,[]),(.X 57 0 46,[]),(.X 58 1 46,[]),(.X 59 2 46,[]),(.m 8 57,[]),(.m 9 58,[]),(.m 10 59,[])]) (.q [.m 60 10,.b 61 .eql 35 60 0] (.cond (.t 61) (.ops [.m 63 2,.m 64 7,.m 65 9,.m 66 0,.m 67 7,.I 68 3 66 67,.f 69 0 68,.l 70 69,.W 71 95 65 70,.m 62 71,.X 72 0 62,.X 73 1 62,.I 74 1 63 64,.S 1 74 72]) .skip))) .skip)))) (.ops [.b 75 .add 3 17 1,.m 17 75]))))))))
def r_law23_lessen:My Tryz.prog 63=some ⟨76,zcj.r,[]⟩:=Aa
def zgf{vs:List Vr}{o:Ko}{X:List (List UInt64)}{p st a b c:Nat}(hX:vs.length≤X.length)(ea:o.a=a)(eb:o.b=b)(ec:o.c=c)(la:a<vs.length)(lb:b<vs.length)(lc:c<vs.length)(hk:o.kind≠9)
  (gY:(gv vs a).limbs=(gv vs c).limbs) (gZ:o.kind=13∨(gv vs b).limbs=(gv vs c).limbs) (jL:1≤(gv vs c).limbs∧(gv vs c).limbs≤6) (M:∀i,i<vs.length→((X.getD i []).length:Int)=(gv vs i).limbs) (hG:G[p]?=some (.dyn (X.map LU) X.length 1 g st))
  (kk:∀(O:List (List UInt64)) (P:Nat) (gL:Mp),O.length=X.length→(∀i,(O.getD i []).length=(X.getD i []).length)→gL[p]?=some (.dyn (O.map LU) X.length 1 g P)→(∀q,q<G.length→q≠p→gL[q]?=G[q]?)→G.length≤gL.length→Y (.tup []) gL) :
  Ol (.fn 63) [.lst (Nd vs) vs.length 3,.agg o.f,.dy p g] G Y:=by
 have hf:o.f=[.i o.kind,.i o.d,.i o.e,.i o.a,.i o.b,.i o.c,.u o.imm]:=rfl;have g8:=(Hm.1 hG).1;refine Mz r_law23_lessen Aa (by simp) ?_;simp[zcj,hf,ea,eb,ec];refine Oc (λρ jP gL N=>∃(gM st:Nat) (O:List (List UInt64)),jP=[]∧N+gM=2∧lk ρ 0=.lst (Nd vs) vs.length 3∧lk ρ 2=.dy p g∧lk ρ 4=.ptr G.length 0∧lk ρ 15=.dy (G.length+1) 0∧lk ρ 16=.i 2∧lk ρ 17=.i gM∧gL[G.length]?=some (.cells o.f 0)∧gL[G.length+1]?=some (.dyn [.i a,.i b] 2 1 0 0)∧O.length=X.length∧(∀i,(O.getD i []).length=(X.getD i []).length)∧gL[p]?=some (.dyn (O.map LU) X.length 1 g st)∧(∀q,q<G.length→q≠p→gL[q]?=G[q]?)) (N:=2)
  ⟨0,st,X,rfl,rfl,by simp,by simp,by simp,by simp,by simp,by simp,by simp[hf,ea,eb,ec],by simp,rfl,λ_=>rfl,(Hx g8).trans hG,λq hq _=>Hx hq⟩ ?_
 rintro N ρ jP gL ⟨gM,st,O,rfl,hN,L,I,T,z,j,A,g0,Q,U,B,C,H⟩ Nx g9;have jM:=(Hm.1 Q).1;by_cases jI:gM<2
 ·obtain⟨i,li,V,jg⟩:∃i:Nat,i<vs.length∧([LV.i a,.i b])[gM]?=some (.i i)∧(i≠b∨o.kind≠13∨i=b)∧((gv vs i).limbs=(gv vs c).limbs∨(i=b∧o.kind=13)):=by
   have hj:gM=0∨gM=1:=J
   rcases hj with rfl|rfl
   ·exact⟨a,la,rfl,J,.inl gY⟩
   ·exact⟨b,lb,rfl,J,gZ.symm.imp id λe=>⟨rfl,e⟩⟩
  have nx:∀(ρ':Mq) (G':Mp) (P:Nat) (Y':List (List UInt64)),lk ρ' 0=.lst (Nd vs) vs.length 3→lk ρ' 2=.dy p g→lk ρ' 4=.ptr G.length 0→lk ρ' 15=.dy (G.length+1) 0→lk ρ' 16=.i 2→lk ρ' 17=.i ((gM:Int)+1)→G'[G.length]?=some (.cells o.f 0)→G'[G.length+1]?=some (.dyn [.i a,.i b] 2 1 0 0)→Y'.length=X.length→(∀i,(Y'.getD i []).length=(X.getD i []).length)→G'[p]?=some (.dyn (Y'.map LU) X.length 1 g P)→(∀q,q<G.length→q≠p→G'[q]?=G[q]?)→Nx ρ' [] G' :=
   λρ' G' P Y' e0 e2 e4 jz jA jB f0 f1 y1 y2 f2 f3=>g9 _ _ _ ⟨N-1,J,gM+1,P,Y',rfl,J,e0,e2,e4,jz,jA,by rw[jB];simp,f0,f1,y1,y2,f2,f3⟩
  have gj:(gM:Int)<2:=J
  have K:=g0;rw[hf,ea,eb,ec]at g0;have gO:¬o.kind=9:=hk;by_cases jO:i=c
  ·have D:(i:Int)=(c:Int):=J
   simp[L,I,T,z,j,A,jI,gj,g0,Q,Mr V,D];exact⟨J,nx _ _ _ _ Bh Ay Bc Ae Af (by simp) K Q U B C H⟩
  have D:¬(i:Int)=(c:Int):=J
  by_cases gA:o.kind=13∧i=b
  ·obtain⟨E,rfl⟩:=gA;simp[L,I,T,z,j,A,jI,gj,g0,Q,Mr V,D,E];exact⟨J,nx _ _ _ _ Bh Ay Bc Ae Af (by simp) K Q U B C H⟩
  have gC:(gv vs i).limbs=(gv vs c).limbs:=jg.2.resolve_right λq=>gA ⟨q.2,q.1⟩
  have gD:(O.map LU)[i]?=some (LU (O.getD i [])):=zi9 J;have gE:(O.map LU)[c]?=some (LU (O.getD c [])):=zi9 J;have Z:i<X.length:=J
  have gP:c<X.length:=J
  have gF:(O.getD i []).length=(gv vs c).limbs:=by rw[B,M i li,gC]
  have gG:(O.getD c []).length=(gv vs c).limbs:=by rw[B,M c lc]
  have gQ:(Nd vs)[i*3]?=some (.i (gv vs c).limbs):=by rw[←gC];exact ng (Sr li)
  have jC:(o.kind=13∧¬(i:Int)=(b:Int))∨¬o.kind=13:=by
   by_cases q:o.kind=13
   ·exact .inl ⟨q,λe=>gA ⟨q,J⟩⟩
   ·exact .inr q
  obtain⟨gK,hA⟩:∃gK,O.getD i []=gK:=⟨_,rfl⟩;obtain⟨gg,hC⟩:∃gg,O.getD c []=gg:=⟨_,rfl⟩;have gR:O[i]?.getD []=gK:=by rw[←Hn];exact hA
  have gT:O[c]?.getD []=gg:=by rw[←Hn];exact hC
  rw[hA]at gD gF;rw[hC]at gE gG;have jD:(X.getD i []).length=(gv vs c).limbs:=by rw[M i li,gC]
  obtain⟨kn,jE,jF⟩:∃kn:Nat,(gv vs c).limbs=(kn:Int)+1∧kn≤5:=⟨(gv vs c).limbs.toNat-1,J,J⟩;have gz:∀gU:List UInt64,val gU<val gg→Rx gU (gv vs c).limbs=0:=λgU hR=>by
   rw[jE];exact fit_ok (Nat.lt_trans hR (Zt J)) jF
  have hD:=z7t gK gg J J;rcases jC with ⟨E,gV⟩|E
  ·simp[L,I,T,z,j,A,jI,gj,g0,Q,Mr V,D,gO,E,gV,C,Mr gD,Mr gE,Z,gP,gR,gT];refine⟨J,J,?_⟩;refine M2 hD (by simp) ?_;by_cases R:val gg=0
   ·simp[R,A,RU];exact⟨J,nx _ _ _ _ Bh Ay Bc Ae Af (by simp) K Q U B C H⟩
   have gH:val (M5 (val gK%val gg))<val gg:=Ff
   have jG:(M5 (val gK%val gg)).length≤1000:=Fi
   simp[R,RU];generalize M5 (val gK%val gg)=gU at *;simp[L,I,li,Mr gQ];refine M2 (zfo gU (gv vs c).limbs J) (by simp) ?_;have jH:=(zhx (gz gU gH)).1;generalize Uv gU (gv vs c).limbs=jK at *;have F:=zh6 LU O i jK J;simp only[LU]at F;simp[I,A,C,RU,Z,U];refine⟨J,J,nx _ _ (st+1) (O.set i jK) Bh Ay Bc Ae Af (by simp) ?_ ?_ Bm (λx=>?_) ?_ (λx hx gI=>?_)⟩
   ·rw[Ho J];exact K
   ·rw[Ho J];exact Q
   ·rw[Vo _ _ _ _ _ J];by_cases e:x=i
    ·rw[Hv e,e];omega
    ·rw[Hs e];exact B x
   ·rw[Hu J,F]
   ·rw[Ho J];exact H x hx gI
  ·simp[L,I,T,z,j,A,jI,gj,g0,Q,Mr V,D,gO,E,C,Mr gD,Mr gE,Z,gP,gR,gT];refine⟨J,J,?_⟩;refine M2 hD (by simp) ?_;by_cases R:val gg=0
   ·simp[R,A,RU];exact⟨J,nx _ _ _ _ Bh Ay Bc Ae Af (by simp) K Q U B C H⟩
   have gH:val (M5 (val gK%val gg))<val gg:=Ff
   have jG:(M5 (val gK%val gg)).length≤1000:=Fi
   simp[R,RU];generalize M5 (val gK%val gg)=gU at *;simp[L,I,li,Mr gQ];refine M2 (zfo gU (gv vs c).limbs J) (by simp) ?_;have jH:=(zhx (gz gU gH)).1;generalize Uv gU (gv vs c).limbs=jK at *;have F:=zh6 LU O i jK J;simp only[LU]at F;simp[I,A,C,RU,Z,U];refine⟨J,J,nx _ _ (st+1) (O.set i jK) Bh Ay Bc Ae Af (by simp) ?_ ?_ Bm (λx=>?_) ?_ (λx hx gI=>?_)⟩
   ·rw[Ho J];exact K
   ·rw[Ho J];exact Q
   ·rw[Vo _ _ _ _ _ J];by_cases e:x=i
    ·rw[Hv e,e];omega
    ·rw[Hs e];exact B x
   ·rw[Hu J,F]
   ·rw[Ho J];exact H x hx gI
 ·have gj:¬(gM:Int)<2:=J
  simp[j,A,jI,gj];exact kk O st gL U B C H J
def S5(c:Nat)(q:Nat)(i:Nat)(l:List LV):List LV:=if c<i then l.set c (.dy q 0) else l
def Zj{c q i:Nat}{l:List LV}{x:LV}(j:l.length=i)(h:i≠c):S5 c q (i+1) (l++[x])=S5 c q i l++[x]:=by
 unfold S5;by_cases g:c<i
 ·rw[Hv J,Hv g,List.set_append_left _ _ J]
 ·rw[Hs J,Hs g]
def fk{q i:Nat}{l:List LV}{x:LV}(g:l.length=i):S5 i q (i+1) (l++[x])=l++[.dy q 0]:=by
 unfold S5;rw[Hv J,Kl _ _ J,g,Kt];rfl
def ik{bs:List Bf}{w5 w6:Int}{fill:List UInt64}(c:Nat)(hc:c<bs.length)(hs:∀b∈bs,0≤b.size∧b.size≤1000000)(hb:bs.length≤1000)(gH:fill.length≤1000)
  (kk:∀(X:List (List UInt64)) (p B st q sq:Nat) (L:Mp),X.length=bs.length→(∀i,i<bs.length→((X.getD i []).length:Int)=(M7 bs i).size)→(∀q,q<G.length→L[q]?=G[q]?)→G.length≤p→G.length≤q→p≠q→L[p]?=some (.dyn ((X.map LU).set c (.dy q 0)) X.length 1 B st)→L[q]?=some (.dyn ((X.getD c []).map .u) (X.getD c []).length 1 0 sq)→Y (.dy p B) L) :
  Ol (.fn 62) [.agg [.lst (O8 bs) bs.length 3,O,.i z,.i C,.i v8,.i vQ,.i w5,.i w6],.lst (fill.map .u) fill.length 1] G Y:=by
 refine Mz r_law23_rows k_law23_rows (by simp) ?_;simp[z7m];refine Oc (λρ gL Z N=>∃(i s0 q sq:Nat) (v:LV) (X:List (List UInt64)),gL=[]∧N+i=bs.length∧lk ρ 1=.lst (fill.map .u) fill.length 1∧lk ρ 2=.ptr G.length 0∧lk ρ 5=v∧lk ρ 6=.i i∧G.length<Z.length∧(∀q,q<G.length→Z[q]?=G[q]?) ∧
   Z[G.length]?=some (.cells [.lst (O8 bs) bs.length 3,O,.i z,.i C,.i v8,.i vQ,.i w5,.i w6] s0)∧X.length=i∧(∀j,j<i→((X.getD j []).length:Int)=(M7 bs j).size)∧Vj (G.length+1) Z v 1 i (S5 c q i (X.map LU)) ∧
   (c<i→G.length<q∧(∀j,v≠.dy q j)∧Z[q]?=some (.dyn ((X.getD c []).map .u) (X.getD c []).length 1 0 sq))) (N:=bs.length)
  ⟨0,0,0,0,.nilSl,[],rfl,J,by simp,by simp,by simp,by simp,by simp,λq H=>Hx H,by simp,rfl,λj h=>J,by simpa [S5] using Vj.nil,λh=>J⟩ ?_
 rintro N ρ gL Z ⟨i,s0,q,sq,v,X,rfl,hN,h1,M,h5,h6,R,T,D,g,hX,hD,gg⟩ Nx gz;by_cases gG:i<bs.length
 ·have q0:=ub (Rg gG);have H:=vx gG;have hz:=hs _ (Ia (Rg gG));have pp:∀x:List LObj,(Z++x)[G.length]?=_:=λx=>(M6 R).trans D
  simp[h1,M,h5,h6,D,↓pp,gG,Mr q0];refine⟨J,J,?_⟩;obtain⟨gI,gA⟩:=Hr hz.1;rw[gA];generalize Ro (iU ↑i) 1234567891011=A;have o1:(Z++[LObj.dyn (fill.map .u++[.u A]) (fill.length+1) 1 2 2,LObj.dyn [.u A] 1 1 0 0])[Z.length]?=some (.dyn ((fill++[A]).map .u) (fill++[A]).length 1 2 2):=by
   rw[H9 (Hw _),Kt];simp
  have o2:=λq (H:q<Z.length)=>(M6 (x:=[LObj.dyn (fill.map .u++[.u A]) (fill.length+1) 1 2 2,LObj.dyn [.u A] 1 1 0 0]) H)
  have o3:=hD.push_end (ob:=[LObj.dyn (fill.map .u++[.u A]) (fill.length+1) 1 2 2,LObj.dyn [.u A] 1 1 0 0]);have o4:(Z++[LObj.dyn (fill.map .u++[.u A]) (fill.length+1) 1 2 2,LObj.dyn [.u A] 1 1 0 0]).length=Z.length+2:=by simp
  generalize Z++[LObj.dyn (fill.map .u++[.u A]) (fill.length+1) 1 2 2,LObj.dyn [.u A] 1 1 0 0]=I at *;have gE:=zjq (fill++[A]) gI;have gC:=zhn (fill++[A]) gI J Ab (by simp);generalize zrc (fill++[A]) gI=gF at *;have gD:=λq j (e:v=.dy q j)=>(hD.lt e).2
  have P:∀j,j<i+1→(((X++[gF]).getD j []).length:Int)=(M7 bs j).size:=λj hj=>by
   by_cases e:j=i
   ·subst e;rw[Hn,←g,Ie,g,gA];simp[gE]
   ·rw[Hn,Hx J,←Hn];exact hX j J
  have same:c<i→(X++[gF]).getD c []=X.getD c []:=λh=>by rw[Hn,Hx J,←Hn]
  by_cases ec:i=c
  ·refine mo gC ⟨_,_,rfl,⟨_,_,_,_,rfl,o1,vp _⟩,_,_,rfl,⟨rfl,rfl⟩,rfl⟩ ?_;simp[RU];refine Vj.push (c:=1) (x:=[LV.dy I.length 0]) (o3.push_end) J Ab J rfl λv' L E K U V=>?_
   simp at U;simp[h6];have nv:∀q j,v'=.dy q j→q=I.length+2∨∃j',v=.dy q j':=λq j e=>by simpa using V q j e
   have fr:∀q,q<I.length→(∀j,v≠.dy q j)→L[q]?=I[q]?:=λq h1 M=>by
    rw[K q Ab M];exact M6 J
   have F:∀q,q<G.length+1→∀j,v≠.dy q j:=λq H j e=>by have:=(hD.lt e).1;omega
   refine⟨J,gz _ _ _ ⟨N-1,J,i+1,s0,I.length,0,v',X++[gF],rfl,J,by simp[h1],A0,by simp,by simp,J,?_,?_,At,P,?_,λ_=>⟨J,λj e=>?_,?_⟩⟩⟩
   ·intro q H;rw[fr q J (F q J),o2 q J];exact T q H
   ·rw[fr _ J (F _ J),o2 _ R];exact D
   ·rw[Km,List.map_singleton,←ec,fk At];rw[ec]at E ⊢;have e2:S5 c q c (X.map LU)=X.map LU:=by unfold S5;rw[Hs J]
    rw[e2]at E;exact E
   ·rcases nv _ _ e with e|⟨j',e⟩
    ·omega
    ·have:=gD _ _ e;omega
   ·rw[K I.length (by simp) (λj e=>by have:=gD _ _ e;omega),H9 (Hw _),Kt,←ec,Hn,←g,Ie];rfl
  ·refine M2 gC ⟨_,_,rfl,⟨_,_,_,_,rfl,o1,vp _⟩,_,_,rfl,⟨rfl,rfl⟩,rfl⟩ ?_;simp[RU];refine Vj.push (c:=1) (x:=[LU gF]) (o3.push_end) J Ab J rfl λv' L E K U V=>?_
   simp at U;simp[h6];have fr:∀q,q<I.length→(∀j,v≠.dy q j)→L[q]?=I[q]?:=λq h1 M=>by
    rw[K q Ab M];exact M6 J
   have F:∀q,q<G.length+1→∀j,v≠.dy q j:=λq H j e=>by have:=(hD.lt e).1;omega
   refine⟨J,gz _ _ _ ⟨N-1,J,i+1,s0,q,sq,v',X++[gF],rfl,J,by simp[h1],A0,by simp,by simp,J,?_,?_,At,P,?_,λgK=>?_⟩⟩
   ·intro q H;rw[fr q J (F q J),o2 q J];exact T q H
   ·rw[fr _ J (F _ J),o2 _ R];exact D
   ·rw[Km,List.map_singleton,Zj At ec];exact E
   ·obtain⟨a1,a2,a3⟩:=gg J;have ql:=(Hm.1 a3).1;refine⟨a1,λj e=>?_,?_⟩
    ·have e':q=(I++[LObj.dyn [LU gF] 1 1 0 0]).length∨∃j',v=.dy q j':=V q j e;rcases e' with e'|⟨j',e'⟩
     ·simp at e';omega
     ·exact a2 j' e'
    ·rw[fr q J a2,o2 q ql,same J];exact a3
 ·have gi:i=bs.length:=J
  subst gi;obtain⟨a1,a2,a3⟩:=gg hc;obtain⟨_,⟨_,e0,_⟩|⟨p,B,st,hp,rfl,Q⟩⟩:=hD
  ·omega
  simp[M,h5,h6,D];have e2:S5 c q bs.length (X.map LU)=(X.map LU).set c (.dy q 0):=by unfold S5;rw[Hv hc]
  rw[e2]at Q;exact kk X p B st q sq Z g (λi hi=>hX i hi) T J J (λe=>a2 B Dp) (by rw[g];exact Q) a3
def zb1:LC:=(.q [.F 2] (.q [.K 3 0] (.seq (.q [.K 4 0] (.block 0 (.loop (.seq (.q [.m 6 4,.m 7 0,.s 8 7,.c 9 .lss 3 6 8] (.cond (.t 9) .skip (.exit 0))) (.seq (.block 1 (.q [.m 12 0,.m 13 4,.I 14 3 12 13,.L 15 3 14,.z 5 (.alloc [(.i 0),(.bool false),(.i 0)]),.S 3 5 15] (.seq (.q [.f 16 0 5,.l 17 16,.b 18 .lss 3 17 1,.m 19 18,.nf 20 19 0 5,.nl 21 19 20,.nb 22 19 .gtr 3 21 512,.p 23 19 22,.m 24 23,.nf 25 24 2 5,.nl 26 24 25,.nb 27 24 .lss 3 26 0,.p 28 24 27,.m 29 28,.nf 30 29 2 5,.nl 31 29 30,.nb 32 29 .gtr 3 31 3,.p 33 29 32,.m 34 33,.nf 35 34 2 5,.nl 36 34 35,.nb 37 34 .gtr 3 36 0,.mn 38 34 37,.my 39 38 3,.my 40 38 4,.y 41 38 (.bin .lss false 3 (.t 39) (.t 40)),.n 42 34 (.pick (.t 38) (.t 41) .F),.p 43 34 42,.m 44 43,.nf 45 44 2 5,.nl 46 44 45,.nb 47 44 .eql 3 46 1,.mn 48 44 47,.yf 49 48 1 5,.yl 50 48 49,.n 51 44 (.pick (.t 48) (.t 50) .F),.p 52 44 51,.m 53 52,.nf 54 53 2 5,.nl 55 53 54,.nb 56 53 .gtr 3 55 1,.mn 57 53 56,.yf 58 57 1 5,.yl 59 57 58,.y 60 57 (.un .not (.t 59)),.n 61 53 (.pick (.t 57) (.t 60) .F),.p 62 53 61] (.cond (.t 62) (.q [.F 2] .ret) .skip)) (.q [.f 63 2 5,.l 64 63,.b 65 .gtr 3 64 0] (.cond (.t 65) (.ops [.m 66 3,.b 67 .add 3 66 1,.m 3 67]) .skip))))) (.ops [.m 10 4,.b 11 .add 3 10 1,.m 4 11])))))) (.q [.m 68 0,.s 69 68,.b 70 .geq 3 69 1,.m 71 70,.my 72 71 0,.y 73 71 (.lenSl (.t 72)),.y 74 71 (.bin .leq true 3 (.t 73) (.k 256)),.q 75 71 74,.m 76 75,.my 77 76 3,.y 78 76 (.bin .leq true 3 (.t 77) (.k 12)),.q 79 76 78,.m 2 79] .ret))))
def r_ref22_varsMay:My Tryz.prog 56=some ⟨80,zb1.r,[.tmp 2]⟩:=Aa
def z5q:LC:=(.q [.x 3 1,.F 4] (.q [.f 5 1 3,.l 6 5,.b 7 .geq 3 6 0,.m 8 7,.yf 9 8 1 3,.yl 10 8 9,.my 11 8 0,.y 12 8 (.lenSl (.t 11)),.y 13 8 (.bin .lss false 3 (.t 10) (.t 12)),.q 14 8 13,.m 15 14,.my 16 15 0,.yf 17 15 1 3,.yl 18 15 17,.y 19 15 (.ixAddr 3 (.t 16) (.t 18)),.yf 20 15 1 19,.yl 21 15 20,.y 22 15 (.un .not (.t 21)),.q 23 15 22,.m 4 23] .ret))
def r_ref22_Public:My Tryz.prog 61=some ⟨24,z5q.r,[.tmp 4]⟩:=Aa
def zgh(g:List Vr)(hl:g.length≤9223372036854775807):Mu 56 [.lst (Nd g) g.length 3] (.bool (P3 g)) []:=by
 refine Ng.val rfl (Mz r_ref22_varsMay Aa (by simp) ?_);simp[zb1];refine Oc (λY gg gz N=>∃i p:Nat,gg=[]∧N+i=g.length∧p≤i∧lk Y 0=.lst (Nd g) g.length 3∧lk Y 3=.i p∧lk Y 4=.i i∧Q0 i p (g.drop i)=Q0 0 0 g) (N:=g.length) ⟨0,0,by simp⟩ ?_;rintro N Y gg gz ⟨i,p,rfl,hN,Z,A,D,F,hv⟩ Nx T;by_cases R:i<g.length
 ·have hg:=Sr R;have K:=zbb hg;have L:=ae R;rw[zmw R]at hv;have M:(gv g i).f=[.i (gv g i).limbs,.bool (gv g i).sec,.i (gv g i).mode]:=rfl;generalize gv g i=v at *;have C:Q0 i p (v::g.drop (i+1))=none→P3 g=false:=λh=>by rw[h]at hv;simp[P3,←hv]
  by_cases j:v.limbs<1
  ·simp[A,D,F,R,K,L,M,j];exact C (by simp[Q0,Ub,j])
  by_cases z:512<v.limbs
  ·simp[A,D,F,R,K,L,M,j,z];exact C (by simp[Q0,Ub,j,z])
  by_cases B:v.mode<0
  ·simp[A,D,F,R,K,L,M,j,z,B];exact C (by simp[Q0,Ub,j,z,B])
  by_cases E:3<v.mode
  ·simp[A,D,F,R,K,L,M,j,z,B,E];exact C (by simp[Q0,Ub,j,z,B,E])
  by_cases G:v.mode=0
  ·simp[A,D,F,R,K,L,M,j,z,B,E,G];refine⟨J,T _ _ _ ⟨N-1,J,i+1,p,rfl,J,J,Ar,Ak,by simp,?_⟩⟩;rw[←hv];simp[Q0,Ub,j,z,B,E,G]
  have H:0<v.mode:=J
  by_cases O:p<i
  ·simp[A,D,F,R,K,L,M,j,z,B,E,G,H,O];exact C (by simp[Q0,Ub,j,z,B,E,G,O])
  by_cases Q:v.mode=1
  ·have I:¬1<v.mode:=J
   cases P:v.sec with
   |true =>
    simp[A,D,F,R,K,L,M,j,z,B,E,G,H,O,Q,I,P];exact C (by simp[Q0,Ub,j,z,B,E,G,O,P,Q])
   |false =>
    simp[A,D,F,R,K,L,M,j,z,B,E,G,H,O,Q,I,P];refine⟨J,J,T _ _ _ ⟨N-1,J,i+1,p+1,rfl,J,J,Ar,by simp,by simp,?_⟩⟩;rw[←hv];simp[Q0,Ub,j,z,B,E,G,O,P,Q]
  ·have I:1<v.mode:=J
   cases P:v.sec with
   |false =>
    simp[A,D,F,R,K,L,M,j,z,B,E,G,H,O,Q,I,P];exact C (by simp[Q0,Ub,j,z,B,E,G,O,P,Q])
   |true =>
    simp[A,D,F,R,K,L,M,j,z,B,E,G,H,O,Q,I,P];refine⟨J,J,T _ _ _ ⟨N-1,J,i+1,p+1,rfl,J,J,Ar,by simp,by simp,?_⟩⟩;rw[←hv];simp[Q0,Ub,j,z,B,E,G,O,P,Q]
 ·have ei:i=g.length:=J
  rw[Jk J]at hv;have U:Q0 0 0 g=some p:=by rw[←hv];rfl
  by_cases V:1≤g.length
  ·by_cases X:g.length≤256
   ·simp[A,D,F,R,P3,U,V,X];omega
   ·simp[A,D,F,R,P3,U,V,X];omega
  ·simp[A,D,F,R,P3,U,V];omega
def zap(vs:List Vr)(o:Ko):Mu 61 [.lst (Nd vs) vs.length 3,.agg o.f] (.bool (Rq vs o.d)) []:=by
 refine Ng.val rfl (Mz r_ref22_Public Aa N ?_);by_cases j:0≤o.d
 case neg=>simp[z5q,Ko.f,Rq,j]
 by_cases z:o.d<vs.length
 case neg=>simp[z5q,Ko.f,Rq,j,z]
 obtain⟨n,A⟩:=Hr j;have g:n<vs.length:=J
 have B:=zu (Sr g);have C:=ae g;simp[z5q,Ko.f,Rq,A,g,Mr B]
def W9:LC:=(.q [.x 3 1,.F 4] (.q [.m 6 0,.s 7 6,.m 5 7] (.seq (.q [.f 8 1 3,.l 9 8,.b 10 .neq 3 9 (-1),.m 11 10,.nf 12 11 2 3,.nl 13 11 12,.nb 14 11 .neq 3 13 (-1),.p 15 11 14,.m 16 15,.nf 17 16 5 3,.nl 18 16 17,.nb 19 16 .neq 3 18 (-1),.p 20 16 19,.m 21 20,.nf 22 21 3 3,.nl 23 21 22,.nb 24 21 .lss 3 23 0,.p 25 21 24,.m 26 25,.nf 27 26 3 3,.nl 28 26 27,.mn 29 26 5,.n 30 26 (.bin .geq false 3 (.t 28) (.t 29)),.p 31 26 30,.m 32 31,.nf 33 32 6 3,.nl 34 32 33,.n 35 32 (.bin .lss true 23 (.t 34) (.c (.u 1))),.p 36 32 35,.m 37 36,.nf 38 37 6 3,.nl 39 37 38,.n 40 37 (.bin .gtr true 23 (.t 39) (.c (.u 3))),.p 41 37 40] (.cond (.t 41) (.q [.F 4] .ret) .skip)) (.seq (.q [.f 42 6 3,.l 43 42,.u 44 .eql 23 43 2] (.cond (.t 44) (.q [.f 45 4 3,.l 46 45,.b 47 .geq 3 46 0,.m 48 47,.yf 49 48 4 3,.yl 50 48 49,.my 51 48 5,.y 52 48 (.bin .lss false 3 (.t 50) (.t 51)),.q 53 48 52,.m 4 53] .ret) .skip)) (.q [.f 54 4 3,.l 55 54,.b 56 .eql 3 55 (-1),.m 4 56] .ret)))))
def r_ref19_need:My Tryz.prog 120=some ⟨57,W9.r,[.tmp 4]⟩:=Aa
def Va:LC:=(.q [.K 2 0] (.seq (.q [.m 3 0] (.block 0 (.q [.b 5 .eql 3 3 1,.m 4 5] (.cond (.t 4) (.q [.K 2 1] .ret) (.q [.b 7 .eql 3 3 2,.m 6 7] (.cond (.t 6) (.q [.K 2 5] .ret) (.seq (.q [.b 9 .eql 3 3 3,.m 8 9] (.cond (.t 8) .skip (.q [.b 10 .eql 3 3 4,.m 8 10] (.cond (.t 8) .skip (.q [.b 11 .eql 3 3 5,.m 8 11] (.cond (.t 8) .skip (.q [.b 12 .eql 3 3 6,.m 8 12] (.cond (.t 8) .skip (.ops [.b 13 .eql 3 3 7,.m 8 13]))))))))) (.cond (.t 8) (.q [.K 2 13] .ret) (.seq (.q [.b 15 .eql 3 3 8,.m 14 15] (.cond (.t 14) .skip (.q [.b 16 .eql 3 3 10,.m 14 16] (.cond (.t 14) .skip (.q [.b 17 .eql 3 3 11,.m 14 17] (.cond (.t 14) .skip (.q [.b 18 .eql 3 3 12,.m 14 18] (.cond (.t 14) .skip (.ops [.b 19 .eql 3 3 13,.m 14 19]))))))))) (.cond (.t 14) (.q [.K 2 29] .ret) (.q [.b 21 .eql 3 3 9,.m 20 21] (.cond (.t 20) (.q [.K 2 21] .ret) (.q [.b 23 .eql 3 3 14,.m 22 23] (.cond (.t 22) (.q [.K 2 19] .ret) (.seq (.q [.b 25 .eql 3 3 15,.m 24 25] (.cond (.t 24) .skip (.ops [.b 26 .eql 3 3 16,.m 24 26]))) (.cond (.t 24) (.q [.K 2 0] .ret) .skip)))))))))))))))) (.q [.K 2 (-1)] .ret)))
def r_ref19_shape:My Tryz.prog 121=some ⟨27,Va.r,[.tmp 2]⟩:=Aa
def zcd:LC:=(.q [.x 1 0,.z 2 (.alloc [(.i 0),(.i 0),(.i 0),(.i 0),(.i 0)])] (.q [.f 3 1 1,.l 4 3,.f 5 2 1,.l 6 5,.f 7 3 1,.l 8 7,.f 9 4 1,.l 10 9,.f 11 5 1,.l 12 11,.z 13 (.build [(.i 0),(.i 0),(.i 0),(.i 0),(.i 0)] [(0,1,.t 4),(1,1,.t 6),(2,1,.t 8),(3,1,.t 10),(4,1,.t 12)]),.S 5 2 13] .ret))
def r_ref19_fields:My Tryz.prog 122=some ⟨14,zcd.r,[.cellN 2 5]⟩:=Aa
def z4c:LC:=(.q [.x 1 0,.F 2] (.seq (.q [.f 3 0 1,.l 4 3] (.block 0 (.q [.b 6 .eql 3 4 1,.m 5 6] (.cond (.t 5) (.q [.z 2 (.move .T)] .ret) (.q [.b 8 .eql 3 4 13,.m 7 8] (.cond (.t 7) (.q [.f 9 6 1,.l 10 9,.u 11 .geq 23 10 1,.m 12 11,.yf 13 12 6 1,.yl 14 12 13,.y 15 12 (.bin .leq true 23 (.t 14) (.c (.u 6))),.q 16 12 15,.m 2 16] .ret) (.q [.b 18 .eql 3 4 15,.m 17 18] (.cond (.t 17) (.q [.f 19 6 1,.l 20 19,.u 21 .geq 23 20 1,.m 22 21,.yf 23 22 6 1,.yl 24 22 23,.y 25 22 (.bin .leq true 23 (.t 24) (.c (.u 4096))),.q 26 22 25,.m 2 26] .ret) .skip)))))))) (.q [.f 27 6 1,.l 28 27,.u 29 .eql 23 28 0,.m 2 29] .ret)))
def r_ref19_number:My Tryz.prog 123=some ⟨30,z4c.r,[.tmp 2]⟩:=Aa
def mp:LC:=(.q [.x 1 0,.e 2] (.seq (.q [.f 3 0 1,.l 4 3] (.block 0 (.q [.b 6 .eql 3 4 6,.m 5 6] (.cond (.t 5) (.q [.f 7 3 1,.l 8 7,.f 9 4 1,.l 10 9,.z 11 (.buildSl 1 2 [(.i 0),(.i 0)] [(0,1,.t 8),(1,1,.t 10)]),.m 2 11] .ret) (.q [.b 13 .eql 3 4 14,.m 12 13] (.cond (.t 12) (.q [.f 14 1 1,.l 15 14,.f 16 2 1,.l 17 16,.z 18 (.buildSl 1 2 [(.i 0),(.i 0)] [(0,1,.t 15),(1,1,.t 17)]),.m 2 18] .ret) (.q [.b 20 .eql 3 4 8,.m 19 20] (.cond (.t 19) (.q [.f 21 1 1,.l 22 21,.f 23 3 1,.l 24 23,.f 25 4 1,.l 26 25,.z 27 (.buildSl 1 3 [(.i 0),(.i 0),(.i 0)] [(0,1,.t 22),(1,1,.t 24),(2,1,.t 26)]),.m 2 27] .ret) (.q [.b 29 .eql 3 4 9,.m 28 29] (.cond (.t 28) (.q [.f 30 1 1,.l 31 30,.f 32 5 1,.l 33 32,.z 34 (.buildSl 1 2 [(.i 0),(.i 0)] [(0,1,.t 31),(1,1,.t 33)]),.m 2 34] .ret) (.seq (.q [.b 36 .eql 3 4 10,.m 35 36] (.cond (.t 35) .skip (.q [.b 37 .eql 3 4 11,.m 35 37] (.cond (.t 35) .skip (.ops [.b 38 .eql 3 4 12,.m 35 38]))))) (.cond (.t 35) (.q [.f 39 1 1,.l 40 39,.f 41 3 1,.l 42 41,.f 43 4 1,.l 44 43,.f 45 5 1,.l 46 45,.z 47 (.buildSl 1 4 [(.i 0),(.i 0),(.i 0),(.i 0)] [(0,1,.t 40),(1,1,.t 42),(2,1,.t 44),(3,1,.t 46)]),.m 2 47] .ret) (.q [.b 49 .eql 3 4 13,.m 48 49] (.cond (.t 48) (.q [.f 50 1 1,.l 51 50,.f 52 3 1,.l 53 52,.f 54 5 1,.l 55 54,.z 56 (.buildSl 1 3 [(.i 0),(.i 0),(.i 0)] [(0,1,.t 51),(1,1,.t 53),(2,1,.t 55)]),.m 2 56] .ret) .skip)))))))))))))) (.q [.e 2] .ret)))
def r_ref19_alike:My Tryz.prog 173=some ⟨57,mp.r,[.tmp 2]⟩:=Aa
def zdg:LC:=(.q [.x 3 1,.F 4] (.q [.L 7 7 3,.w 8 173 7,.m 5 8] (.seq (.q [.K 6 1] (.block 0 (.loop (.seq (.q [.m 9 6,.m 10 5,.s 11 10,.c 12 .lss 3 9 11] (.cond (.t 12) .skip (.exit 0))) (.seq (.block 1 (.seq (.draw [(.m 15 0,[]),(.m 16 5,[]),(.m 17 6,[]),(.I 18 1 16 17,[]),(.l 19 18,[]),(.I 20 3 15 19,[]),(.f 21 0 20,[]),(.l 22 21,[]),(.m 23 0,[]),(.m 24 5,[]),(.z 25 (.ixAddr 1 (.t 24) (.k 0)),[]),(.l 26 25,[]),(.I 27 3 23 26,[]),(.f 28 0 27,[]),(.l 29 28,[]),(.c 30 .neq 3 22 29,[])]) (.cond (.t 30) (.q [.F 4] .ret) .skip))) (.ops [.m 13 6,.b 14 .add 3 13 1,.m 6 14])))))) (.q [.z 4 (.move .T)] .ret))))
def r_ref19_agree:My Tryz.prog 124=some ⟨31,zdg.r,[.tmp 4]⟩:=Aa
def zcr:LC:=(.q [.x 3 1,.F 4] (.seq (.q [.f 11 0 3,.l 12 11,.b 13 .eql 3 12 17] (.cond (.t 13) (.q [.m 14 0,.L 15 7 3,.W 16 120 14 15,.m 4 16] .ret) .skip)) (.seq (.draw [(.f 17 0 3,[]),(.l 18 17,[]),(.L 20 7 3,[]),(.z 6 (.alloc [(.i 0),(.i 0),(.i 0),(.i 0),(.i 0)]),[(.L 20 7 3,false),(.l 18 17,false)]),(.w 19 121 18,[(.z 6 (.alloc [(.i 0),(.i 0),(.i 0),(.i 0),(.i 0)]),true),(.L 20 7 3,false)]),(.w 21 122 20,[(.z 6 (.alloc [(.i 0),(.i 0),(.i 0),(.i 0),(.i 0)]),true)]),(.m 5 19,[]),(.S 5 6 21,[])]) (.seq (.q [.m 22 5,.b 23 .lss 3 22 0,.m 24 23,.n 25 24 (.loadN 7 (.t 3)),.n 26 24 (.w 123 [.t 25]),.n 27 24 (.un .not (.t 26)),.p 28 24 27] (.cond (.t 28) (.q [.F 4] .ret) .skip)) (.q [.F 7] (.seq (.q [.K 8 0] (.block 0 (.loop (.seq (.q [.m 29 8,.b 30 .lss 3 29 5] (.cond (.t 30) .skip (.exit 0))) (.seq (.block 1 (.q [.m 33 5,.m 34 8,.z 35 (.cvInt .u64 (.t 34)),.c 36 .shr 3 33 35,.b 37 .and 3 36 1,.b 38 .eql 3 37 1,.m 9 38] (.seq (.q [.m 39 9,.m 40 39,.my 41 40 8,.y 42 40 (.ixAddrArr 5 1 (.t 6) (.t 41)),.yl 43 40 42,.y 44 40 (.bin .lss true 3 (.t 43) (.k 0)),.my 45 40 44,.mn 46 45 8,.n 47 45 (.ixAddrArr 5 1 (.t 6) (.t 46)),.nl 48 45 47,.mn 49 45 0,.n 50 45 (.lenSl (.t 49)),.n 51 45 (.bin .geq false 3 (.t 48) (.t 50)),.y 52 40 (.pick (.t 45) .T (.t 51)),.q 53 40 52,.m 54 53,.mn 55 54 9,.n 56 54 (.un .not (.t 55)),.mn 57 54 56,.my 58 57 8,.y 59 57 (.ixAddrArr 5 1 (.t 6) (.t 58)),.yl 60 57 59,.y 61 57 (.bin .neq true 3 (.t 60) (.k (-1))),.n 62 54 (.pick (.t 57) (.t 61) .F),.p 63 54 62] (.cond (.t 63) (.q [.F 4] .ret) .skip)) (.q [.m 64 9,.m 65 64,.my 66 65 8,.y 67 65 (.bin .geq true 3 (.t 66) (.k 2)),.my 68 65 67,.nf 69 68 0 3,.nl 70 68 69,.nb 71 68 .eql 3 70 14,.y 72 65 (.pick (.t 68) .T (.t 71)),.q 73 65 72] (.cond (.t 73) (.ops [.m 74 7,.m 75 74,.mn 76 75 0,.mn 77 75 8,.n 78 75 (.ixAddrArr 5 1 (.t 6) (.t 77)),.nl 79 75 78,.n 80 75 (.ixAddr 3 (.t 76) (.t 79)),.nf 81 75 1 80,.nl 82 75 81,.p 83 75 82,.m 7 83]) .skip))))) (.ops [.m 31 8,.b 32 .add 3 31 1,.m 8 32])))))) (.seq (.q [.K 10 0] (.block 2 (.loop (.seq (.q [.m 84 10,.b 85 .lss 3 84 2] (.cond (.t 85) .skip (.exit 2))) (.seq (.block 3 (.q [.m 88 10,.z 89 (.ixAddrArr 5 1 (.t 6) (.t 88)),.l 90 89,.b 91 .geq 3 90 0,.m 92 91,.my 93 92 0,.my 94 92 10,.y 95 92 (.ixAddrArr 5 1 (.t 6) (.t 94)),.yl 96 92 95,.y 97 92 (.ixAddr 3 (.t 93) (.t 96)),.yf 98 92 2 97,.yl 99 92 98,.y 100 92 (.bin .eql true 3 (.t 99) (.k 1)),.my 101 92 100,.mn 102 101 0,.mn 103 101 10,.n 104 101 (.ixAddrArr 5 1 (.t 6) (.t 103)),.nl 105 101 104,.n 106 101 (.ixAddr 3 (.t 102) (.t 105)),.nf 107 101 2 106,.nl 108 101 107,.nb 109 101 .eql 3 108 2,.y 110 92 (.pick (.t 101) .T (.t 109)),.my 111 92 110,.mn 112 111 7,.mn 113 111 112,.my 114 113 0,.my 115 113 10,.y 116 113 (.ixAddrArr 5 1 (.t 6) (.t 115)),.yl 117 113 116,.y 118 113 (.ixAddr 3 (.t 114) (.t 117)),.yf 119 113 1 118,.yl 120 113 119,.y 121 113 (.un .not (.t 120)),.n 122 111 (.pick (.t 113) (.t 121) .F),.y 123 92 (.pick (.t 111) .T (.t 122)),.q 124 92 123] (.cond (.t 124) (.q [.F 4] .ret) .skip))) (.ops [.m 86 10,.b 87 .add 3 86 1,.m 10 87])))))) (.q [.f 125 2 3,.l 126 125,.b 127 .lss 3 126 0,.m 128 127,.nf 129 128 1 3,.nl 130 128 129,.nf 131 128 2 3,.nl 132 128 131,.n 133 128 (.bin .neq false 3 (.t 130) (.t 132)),.p 134 128 133,.m 135 134,.my 136 135 0,.y 137 135 (.loadN 7 (.t 3)),.y 138 135 (.w 124 [.t 136,.t 137]),.q 139 135 138,.m 4 139] .ret))))))))
def r_ref19_One:My Tryz.prog 57=some ⟨140,zcr.r,[.tmp 4]⟩:=Aa
def imm3{n:UInt64}(g:n≠1)(j:n≠2)(z:n≠3):n<1∨3<n:=by
 have A:n.toNat≠1:=λh=>g (Jd.1 h)
 have B:n.toNat≠2:=λh=>j (Jd.1 h)
 have C:n.toNat≠3:=λh=>z (Jd.1 h)
 rw[I6,I6];show n.toNat<1∨3<n.toNat;omega
def zn9(c:List LV)(n:Nat)(o:Ko):Mu 120 [.lst c n 3,.agg o.f] (.bool (Rd n o)) []:=by
 refine Ng.val rfl (Mz r_ref19_need Aa N ?_);have g:o.f=[.i o.kind,.i o.d,.i o.e,.i o.a,.i o.b,.i o.c,.u o.imm]:=rfl;by_cases j:o.d=-1
 case neg=>simp[W9,g,Rd,j]
 by_cases z:o.e=-1
 case neg=>simp[W9,g,Rd,j,z]
 by_cases A:o.c=-1
 case neg=>simp[W9,g,Rd,j,z,A]
 by_cases B:o.a<0
 ·have:Qq n o.a=false:=B9
  simp[W9,g,Rd,j,z,A,B,this]
 by_cases C:(n:Int)≤o.a
 ·have:Qq n o.a=false:=B9
  simp[W9,g,Rd,j,z,A,B,C,this]
 have E:Qq n o.a=true:=B9
 by_cases D:o.imm=2
 ·by_cases I:0≤o.b
  ·by_cases K:o.b<n
   ·have G:Qq n o.b=true:=B9
    simp[W9,g,Rd,j,z,A,B,C,E,D,I,K,G]
   ·have G:Qq n o.b=false:=B9
    simp[W9,g,Rd,j,z,A,B,C,E,D,I,K,G]
  ·have G:Qq n o.b=false:=B9
   simp[W9,g,Rd,j,z,A,B,C,E,D,I,G]
 by_cases F:o.imm=1
 ·simp[W9,g,Rd,j,z,A,B,C,E,D,F]
 by_cases H:o.imm=3
 ·simp[W9,g,Rd,j,z,A,B,C,E,D,F,H]
 rcases imm3 F D H with M|M
 ·simp[W9,g,Rd,j,z,A,B,C,E,D,F,H,M]
 ·by_cases L:o.imm<1
  ·simp[W9,g,Rd,j,z,A,B,C,E,D,F,H,L]
  ·simp[W9,g,Rd,j,z,A,B,C,E,D,F,H,M,L]
def Ug(k:Int):Int:=match O0 k with
 |some s=>s
 |none=>-1
def zkl(k:Int):Mu 121 [.i k] (.i (Ug k)) []:=by
 refine Ng.val rfl (Mz r_ref19_shape Aa N ?_);by_cases E:k=1;· subst E;simp[Va,Ug,O0]
 by_cases F:k=2;· subst F;simp[Va,Ug,O0]
 by_cases G:k=3;· subst G;simp[Va,Ug,O0]
 by_cases H:k=4;· subst H;simp[Va,Ug,O0]
 by_cases I:k=5;· subst I;simp[Va,Ug,O0]
 by_cases K:k=6;· subst K;simp[Va,Ug,O0]
 by_cases L:k=7;· subst L;simp[Va,Ug,O0]
 by_cases M:k=8;· subst M;simp[Va,Ug,O0]
 by_cases O:k=9;· subst O;simp[Va,Ug,O0]
 by_cases g:k=10;· subst g;simp[Va,Ug,O0]
 by_cases j:k=11;· subst j;simp[Va,Ug,O0]
 by_cases z:k=12;· subst z;simp[Va,Ug,O0]
 by_cases A:k=13;· subst A;simp[Va,Ug,O0]
 by_cases B:k=14;· subst B;simp[Va,Ug,O0]
 by_cases C:k=15;· subst C;simp[Va,Ug,O0]
 by_cases D:k=16;· subst D;simp[Va,Ug,O0]
 simp[Va,Ug,O0,E,F,G,H,I,K,L,M,O,g,j,z,A,B,C,D]
def zjk(o:Ko):Mu 122 [.agg o.f] (.agg [.i o.d,.i o.e,.i o.a,.i o.b,.i o.c]) []:=by
 refine Ng.val rfl (Mz r_ref19_fields Aa N ?_);simp[zcd,Ko.f]
def zha(o:Ko):Mu 123 [.agg o.f] (.bool (Qv o)) []:=by
 refine Ng.val rfl (Mz r_ref19_number Aa N ?_);by_cases g:o.kind=1;· simp[z4c,Ko.f,Qv,g]
 by_cases j:o.kind=13
 ·by_cases A:1≤o.imm<;>simp[z4c,Ko.f,Qv,g,j,A]
 by_cases z:o.kind=15
 ·by_cases A:1≤o.imm<;>simp[z4c,Ko.f,Qv,g,j,z,A]
 simp[z4c,Ko.f,Qv,g,j,z]
def zk7(o:Ko):Od 173 [.agg o.f] (.lst ((Pt o).map .i) (Pt o).length 1):=by
 have G:∀l:List Int,dats (l.map .i)=true:=λl=>nz (λ_=>rfl) l
 refine Ra.mk (by simp[LV.dat,G]) (Mz r_ref19_alike Aa N ?_);have g:o.f=[.i o.kind,.i o.d,.i o.e,.i o.a,.i o.b,.i o.c,.u o.imm]:=rfl;by_cases D:o.kind=6;· simp[mp,g,Pt,D,Nh,bor,LV.dat,dats]
 by_cases j:o.kind=14;· simp[mp,g,Pt,j,Nh,bor,LV.dat,dats]
 by_cases E:o.kind=8;· simp[mp,g,Pt,E,Nh,bor,LV.dat,dats]
 by_cases F:o.kind=9;· simp[mp,g,Pt,F,Nh,bor,LV.dat,dats]
 by_cases z:o.kind=10;· simp[mp,g,Pt,z,Nh,bor,LV.dat,dats]
 by_cases A:o.kind=11;· simp[mp,g,Pt,A,Nh,bor,LV.dat,dats]
 by_cases B:o.kind=12;· simp[mp,g,Pt,B,Nh,bor,LV.dat,dats]
 by_cases C:o.kind=13;· simp[mp,g,Pt,C,Nh,bor,LV.dat,dats]
 simp[mp,g,Pt,D,E,F,z,A,B,C,j,Nh,bor]
def zc2(g:List Vr)(o:Ko)(hv:∀v∈Pt o,bh g v):Mu 124 [.lst (Nd g) g.length 3,.agg o.f] (.bool (je g o)) []:=by
 refine Ng.val rfl (Mz r_ref19_agree Aa (by simp) ?_);have P:o.f=[.i o.kind,.i o.d,.i o.e,.i o.a,.i o.b,.i o.c,.u o.imm]:=rfl;have hl:(Pt o).length≤4:=by
  unfold Pt;repeat' split
  all_goals simp
 simp[zdg,P];rw[←P];refine Q5 (zk7 o) rfl ?_;rw[je];generalize Pt o=j at *;simp;refine Oc (λY gg gz N=>∃i:Nat,gg=[]∧N+i=j.length+1∧1≤i∧lk Y 0=.lst (Nd g) g.length 3∧lk Y 5=.lst (j.map .i) j.length 1∧lk Y 6=.i i∧∀B,1≤B→B<i→O5 g (gd j B)=O5 g (gd j 0)) (N:=j.length) ⟨1,rfl,J,J,by simp,by simp,by simp,λB h1 h2=>J⟩ ?_;rintro N Y gg gz ⟨i,rfl,hN,Z,E,F,L,Q⟩ Nx M;by_cases R:i<j.length
 ·have T:=Vs (f:=LV.i) (Wb (l:=j) (u:=i) R);have C:=Vs (f:=LV.i) (Wb (l:=j) (u:=0) J);have U:gd j i∈j:=Ia (Wb R);have m0:gd j 0∈j:=Ia (Wb (u:=0) J);obtain⟨a,G,V,qa⟩:=(hv _ U).at;obtain⟨b,H,X,qb⟩:=(hv _ m0).at;have I:=ng qa;have K:=ng qb;rw[G]at I;rw[H]at K;simp only[If]at I K;have A:O5 g (gd j i)=(gv g a).limbs:=by rw[G];simp[O5]
  have z:O5 g (gd j 0)=(gv g b).limbs:=by rw[H];simp[O5]
  by_cases e:O5 g (gd j i)=O5 g (gd j 0)
  ·have D:=e;rw[A,z]at D;simp[E,F,L,R,Mr T,Mr C,G,H,V,X,Mr I,Mr K,D];refine⟨J,J,M _ _ _ ⟨N-1,J,i+1,rfl,J,J,Ai,Am,by simp,λB j1 j2=>?_⟩⟩;by_cases ej:B=i
   ·rw[ej];exact e
   ·exact Q B j1 J
  ·have D:=e;rw[A,z]at D;simp[E,F,L,R,Mr T,Mr C,G,H,V,X,Mr I,Mr K,D];refine⟨J,?_⟩;have:(j.all λv=>decide (O5 g v=O5 g (j.headD 0)))=false:=by
    rw[Lp];refine⟨_,U,?_⟩;rw[show j.headD 0=gd j 0 by cases j<;>rfl];simpa using e
   simpa using this
 ·simp[E,F,L,R];intro v O;obtain⟨B,hj,rfl⟩:=Js.1 O;have e1:j[B]=gd j B:=by simp[gd,Hn,hj]
  have e0:j.head?.getD 0=gd j 0:=by cases j<;>rfl
  rw[e1,e0];by_cases j0:B=0
  ·rw[j0]
  ·exact Q B J J
def zqt(g:List Vr)(o:Ko):Mu 57 [.lst (Nd g) g.length 3,.agg o.f] (.bool (Nf g o)) []:=by
 refine Ng.val rfl (Mz r_ref19_One Aa (by simp) ?_);have E:o.f=[.i o.kind,.i o.d,.i o.e,.i o.a,.i o.b,.i o.c,.u o.imm]:=rfl;by_cases D:o.kind=17
 ·simp[zcr,E,D];have hf:=zn9 (Nd g) g.length o;rw[E,D]at hf;refine M2 hf (bors_self _ A3) ?_;simp[Nf,D]
 simp[zcr,E,D];refine M2 (zkl o.kind) (by simp) ?_;simp[E];rw[←E];refine M2 (zjk o) (bors_self _ rfl) ?_;cases U:O0 o.kind with
 |none=>simp[Ug,U,Nf,D]
 |some s =>
 have s0:¬((s:Int)<0):=J
 simp[Ug,U,E,s0];rw[←E];refine M2 (zha o) (bors_self _ rfl) ?_;cases hn:Qv o with
 |false=>simp[Nf,D,U,hn]
 |true =>
 have gK:=zp6 U;simp[E];refine Oc (λρ gL gM N=>∃i:Nat,gL=[]∧gM=[.cells o.f 0,.cells ((Pz o).map .i) 1]∧N+i=5∧lk ρ 0=.lst (Nd g) g.length 3∧lk ρ 3=.ptr 0 0∧lk ρ 5=.i s∧lk ρ 6=.ptr 1 0∧lk ρ 7=.bool (Tn g o s i)∧lk ρ 8=.i i∧∀gg,gg<i→Qp g.length s gg (gd (Pz o) gg)=true) (N:=5) ⟨0,by simp[Pz,Tn,E]⟩ ?_;rintro N ρ gL gM ⟨i,rfl,rfl,hN,j,z,I,C,A,V,hp⟩ Nx X;by_cases hi:5≤i
 case neg =>
  have gF:(i:Int)<5:=J
  have g2:i<5:=J
  have K:=Vs (f:=LV.i) (Wb (l:=Pz o) (u:=i) g2);have P:Qp g.length s i (gd (Pz o) i)=true→∀gg,gg<i+1→Qp g.length s gg (gd (Pz o) gg)=true:=λh gg hj=>by
   by_cases e:gg=i
   ·rw[e];exact h
   ·exact hp gg J
  have G:Qp g.length s i (gd (Pz o) i)=false→Nf g o=false:=λh=>by
   simp[Nf,D,U,zo0 g2 h]
  have Y:=zuz s i;have F:=zov g o s i;generalize gd (Pz o) i=v at *;have L:0≤(s:Int)/2^i:=Int.ediv_nonneg J (Int.pow_nonneg J);have Q:(s:Int)/2^i<9223372036854775808:=Int.lt_of_le_of_lt (Int.ediv_le_self _ J) J;have em:max ((s:Int)/2^i) 0=(s:Int)/2^i:=J
  have hu:(iU (i:Int)).toNat=i:=ax J;have B:i≤64:=J
  cases hb:s.testBit i with
  |false =>
   rw[hb]at Y F;simp only[Bool.false_and,Bool.or_false]at F;by_cases v1:v=-1
   ·simp[j,z,I,C,A,V,gF,Mr K,hu,B,em,L,Q,Y,v1]
    repeat (refine⟨J,?_⟩)
    exact X _ _ _ ⟨N-1,J,i+1,rfl,rfl,J,Af,Ae,Ay,Al,by simp[A,F],by simp,P (by simp[Qp,hb,v1])⟩
   ·simp[j,z,I,C,A,V,gF,Mr K,hu,B,em,L,Q,Y,v1]
    repeat (refine⟨J,?_⟩)
    exact G (by simp[Qp,hb,v1])
  |true =>
   rw[hb]at Y F;simp only[Lh]at F;by_cases v0:v<0
   ·simp[j,z,I,C,A,V,gF,Mr K,hu,B,em,L,Q,Y,v0]
    repeat (refine⟨J,?_⟩)
    exact G D9
   by_cases v1:(g.length:Int)≤v
   ·simp[j,z,I,C,A,V,gF,Mr K,hu,B,em,L,Q,Y,v0,v1]
    repeat (refine⟨J,?_⟩)
    exact G D9
   have hv:bh g v:=⟨J,J⟩;have ok:=P D9;obtain⟨k,rfl,Z,ek⟩:=hv.at;have q1:=zu ek;simp only[If]at q1 F;have v2:¬g.length≤k:=J
   have T:¬(k:Int)<0:=J
   have next:∀M b,Tn g o s (i+1)=b→lk M 0=.lst (Nd g) g.length 3→lk M 3=.ptr 0 0→lk M 5=.i s→lk M 6=.ptr 1 0→lk M 7=.bool b→lk M 8=.i ((i:Int)+1)→Nx M [] [.cells o.f 0,.cells ((Pz o).map .i) 1]:=by
    rintro M b rfl a0 a3 a5 a6 a7 a8;exact X _ _ _ ⟨N-1,J,i+1,rfl,rfl,J,a0,a3,a5,a6,a7,by rw[a8];simp,ok⟩
   by_cases c2:(2:Int)≤(i:Int)
   ·have gz:2≤i:=J
    cases ha:Tn g o s i with
    |false =>
     rw[ha]at F A;simp[gz]at F;simp[j,z,I,C,A,V,gF,Mr K,Mr q1,hu,B,em,L,Q,Y,v2,Z,c2,T]
     repeat (refine⟨J,?_⟩)
     exact next _ _ F Af Ae Ay Al (by simp) (by simp)
    |true =>
     rw[ha]at F A;simp at F;simp[j,z,I,C,A,V,gF,Mr K,hu,B,em,L,Q,Y,v2,Z,c2,T]
     repeat (refine⟨J,?_⟩)
     exact next _ _ F Af Ae Ay Al (by simp) (by simp)
   have gz:¬2≤i:=J
   by_cases O:o.kind=14
   ·cases ha:Tn g o s i with
    |false =>
     rw[ha]at F A;simp[gz,O]at F;simp[j,z,I,C,A,V,gF,Mr K,Mr q1,hu,B,em,L,Q,Y,v2,Z,c2,T,E,O]
     repeat (refine⟨J,?_⟩)
     rw[←O,←E];exact next _ _ F Af Ae Ay Al (by simp) (by simp)
    |true =>
     rw[ha]at F A;simp at F;simp[j,z,I,C,A,V,gF,Mr K,hu,B,em,L,Q,Y,v2,Z,c2,T,E,O]
     repeat (refine⟨J,?_⟩)
     rw[←O,←E];exact next _ _ F Af Ae Ay Al (by simp) (by simp)
   ·simp[gz,O]at F;simp[j,z,I,C,A,V,gF,Mr K,Mr q1,hu,B,em,L,Q,Y,v2,Z,c2,T,E,O]
    repeat (refine⟨J,?_⟩)
    rw[←E];exact next _ _ F Af Ae Ay Al Ar (by simp)
 have gA:Su g.length s o=true:=zkr λgg hj=>hp gg J
 have gC:=zmd U gA;have ei:i=5:=J
 subst ei;rw[secU_5 U gA]at A;simp[j,z,I,C,A,V];refine Oc (λρ gL gM N=>∃i:Nat,gL=[]∧gM=[.cells o.f 0,.cells ((Pz o).map .i) 1]∧N+i=2∧lk ρ 0=.lst (Nd g) g.length 3∧lk ρ 3=.ptr 0 0∧lk ρ 6=.ptr 1 0∧lk ρ 7=.bool (N8 g o)∧lk ρ 10=.i i∧∀gg,gg<i→Rf g (N8 g o) (gd (Pz o) gg)=true) (N:=2) ⟨0,by simp[j,z,C,A]⟩ ?_;clear j z I C A V hp X;rintro N ρ gL gM ⟨i,rfl,rfl,hN,j,z,C,A,H,hp⟩ Nx X;by_cases hi:2≤i
 case neg =>
  have gF:(i:Int)<2:=J
  have g5:(i:Int)<5:=J
  have g2:i<2:=J
  have K:=Vs (f:=LV.i) (Wb (l:=Pz o) (u:=i) (J:i<5));have P:Rf g (N8 g o) (gd (Pz o) i)=true→∀gg,gg<i+1→Rf g (N8 g o) (gd (Pz o) gg)=true:=λh gg hj=>by
   by_cases e:gg=i
   ·rw[e];exact h
   ·exact hp gg J
  have G:Rf g (N8 g o) (gd (Pz o) i)=false→Nf g o=false:=λh=>by
   have gG:i=0∨i=1:=J
   rcases gG with rfl|rfl
   ·have h:Rf g (N8 g o) o.d=false:=h;simp[Nf,D,U,h]
   ·have h:Rf g (N8 g o) o.e=false:=h;simp[Nf,D,U,h]
  have gH:gd (Pz o) i=-1∨bh g (gd (Pz o) i):=by
   have gG:i=0∨i=1:=J
   rcases gG with rfl|rfl
   ·exact gC.d
   ·exact gC.e
  have next:∀M,Rf g (N8 g o) (gd (Pz o) i)=true→lk M 0=.lst (Nd g) g.length 3→lk M 3=.ptr 0 0→lk M 6=.ptr 1 0→lk M 7=.bool (N8 g o)→lk M 10=.i ((i:Int)+1)→Nx M [] [.cells o.f 0,.cells ((Pz o).map .i) 1]:=by
   intro M ok a0 a3 a6 a7 gI;exact X _ _ _ ⟨N-1,J,i+1,rfl,rfl,J,a0,a3,a6,a7,by rw[gI];simp,P ok⟩
  generalize gd (Pz o) i=v at *;rcases gH with rfl|hv
  ·simp[j,z,C,A,H,gF,g5,Mr K]
   repeat (refine⟨J,?_⟩)
   exact next _ (by simp[Rf]) Af Ae Al Ar (by simp)
  ·obtain⟨k,rfl,Z,ek⟩:=hv.at;have q1:=zu ek;have q2:=fo ek;simp only[If]at q1 q2;have R:Q2 (gv g k)=(decide ((gv g k).mode=1) || decide ((gv g k).mode=2)):=rfl;have ho:Rf g (N8 g o) (k:Int)=!(Q2 (gv g k) || (N8 g o && !(gv g k).sec)):=by
    have T:decide ((k:Int)<0)=false:=by simp
    simp[Rf,T]
   have T:(0:Int)≤(k:Int):=J
   by_cases m1:(gv g k).mode=1
   ·simp[j,z,C,A,H,gF,g5,Mr K,Mr q2,Z,T,m1]
    repeat (refine⟨J,?_⟩)
    exact G (by rw[ho,R];simp[m1])
   by_cases m2:(gv g k).mode=2
   ·simp[j,z,C,A,H,gF,g5,Mr K,Mr q2,Z,T,m1,m2]
    repeat (refine⟨J,?_⟩)
    exact G (by rw[ho,R];simp[m2])
   cases gE:N8 g o with
   |false =>
    rw[gE]at A ho G next
    simp[j,z,C,A,H,gF,g5,Mr K,Mr q2,Z,T,m1,m2]
    repeat (refine⟨J,?_⟩)
    exact next _ (by rw[ho,R];simp[m1,m2]) Af Ae Al Ar (by simp)
   |true =>
    rw[gE]at A ho G next
    cases gD:(gv g k).sec with
    |false =>
     simp[j,z,C,A,H,gF,g5,Mr K,Mr q1,Mr q2,Z,T,m1,m2,gD]
     repeat (refine⟨J,?_⟩)
     exact G (by rw[ho,gD];simp)
    |true =>
     simp[j,z,C,A,H,gF,g5,Mr K,Mr q1,Mr q2,Z,T,m1,m2,gD]
     repeat (refine⟨J,?_⟩)
     exact next _ (by rw[ho,R,gD];simp[m1,m2]) Af Ae Al Ar (by simp)
 have ei:i=2:=J
 subst ei;have od:Rf g (N8 g o) o.d=true:=hp 0 J;have oe:Rf g (N8 g o) o.e=true:=hp 1 J;have gO:o.f.length=7:=rfl;have gP:o.f.take 7=o.f:=rfl;by_cases L:o.e<0
 ·simp[j,z,H,E,L];rw[←E];refine M2 (zc2 g o gC.alike) (bors_self _ (by simp[dats,LV.dat,Qo,E])) ?_;simp[Nf,D,U,hn,gA,od,oe,L]
 ·by_cases Q:o.d=o.e
  ·simp[j,z,H,E,L,Q];simp[Nf,D,U,L,Q]
  ·simp[j,z,H,E,L,Q];rw[←E];refine M2 (zc2 g o gC.alike) (bors_self _ (by simp[dats,LV.dat,Qo,E])) ?_;simp[Nf,D,U,hn,gA,od,oe,L,Q]
def ze2:LC:=(.q [.x 3 1,.F 4] (.q [.m 5 0,.w 6 56 5,.m 7 6,.my 8 7 0,.y 9 7 (.loadN 7 (.t 3)),.y 10 7 (.w 57 [.t 8,.t 9]),.q 11 7 10,.m 4 11] .ret))
def r_ref22_Alone:My Tryz.prog 16=some ⟨12,ze2.r,[.tmp 4]⟩:=Aa
def z8e:LC:=(.q [.F 6] (.seq (.q [.K 7 0] (.block 0 (.loop (.seq (.q [.m 11 7,.m 12 0,.s 13 12,.c 14 .lss 3 11 13] (.cond (.t 14) .skip (.exit 0))) (.seq (.block 1 (.seq (.seq (.draw [(.m 17 0,[]),(.m 18 7,[]),(.I 19 8 17 18,[]),(.f 20 1 19,[]),(.l 21 20,[]),(.m 22 0,[]),(.m 23 7,[]),(.I 24 8 22 23,[]),(.f 25 2 24,[]),(.l 26 25,[]),(.m 27 0,[]),(.m 28 7,[]),(.I 29 8 27 28,[]),(.f 30 3 29,[]),(.l 31 30,[]),(.m 32 0,[]),(.m 33 7,[]),(.I 34 8 32 33,[]),(.f 35 4 34,[]),(.l 36 35,[]),(.m 37 0,[]),(.m 38 7,[]),(.I 39 8 37 38,[]),(.f 40 5 39,[]),(.l 41 40,[]),(.z 42 (.buildSl 1 5 [(.i 0),(.i 0),(.i 0),(.i 0),(.i 0)] [(0,1,.t 21),(1,1,.t 26),(2,1,.t 31),(3,1,.t 36),(4,1,.t 41)]),[(.l 41 40,false),(.l 36 35,false),(.l 31 30,false),(.l 26 25,false),(.l 21 20,false)]),(.s 43 42,[]),(.K 44 0,[])]) (.block 2 (.loop (.q [.c 45 .lss 3 44 43] (.seq (.cond (.t 45) .skip (.exit 2)) (.seq (.block 3 (.q [.I 46 1 42 44,.l 47 46,.m 9 47] (.q [.m 48 9,.b 49 .eql 3 48 (-1),.m 50 49,.mn 51 50 9,.nb 52 50 .geq 3 51 8,.mn 53 50 52,.my 54 53 9,.y 55 53 (.bin .lss true 3 (.t 54) (.k 16)),.n 56 50 (.pick (.t 53) (.t 55) .F),.p 57 50 56,.m 58 57,.mn 59 58 2,.mn 60 58 59,.my 61 60 9,.y 62 60 (.bin .geq true 3 (.t 61) (.k 16)),.n 63 58 (.pick (.t 60) (.t 62) .F),.mn 64 58 63,.my 65 64 9,.y 66 64 (.bin .lss true 3 (.t 65) (.k 40)),.n 67 58 (.pick (.t 64) (.t 66) .F),.p 68 58 67,.m 69 68,.mn 70 69 2,.n 71 69 (.un .not (.t 70)),.mn 72 69 71,.my 73 72 9,.y 74 72 (.bin .geq true 3 (.t 73) (.k 40)),.n 75 69 (.pick (.t 72) (.t 74) .F),.mn 76 69 75,.my 77 76 9,.y 78 76 (.bin .lss true 3 (.t 77) (.k 64)),.n 79 69 (.pick (.t 76) (.t 78) .F),.p 80 69 79,.m 81 80,.mn 82 81 9,.mn 83 81 1,.n 84 81 (.bin .geq false 3 (.t 82) (.t 83)),.mn 85 81 84,.my 86 85 9,.y 87 85 (.bin .lss true 3 (.t 86) (.k 8)),.n 88 81 (.pick (.t 85) (.t 87) .F),.p 89 81 88,.m 10 89] (.q [.m 90 10,.z 91 (.un .not (.t 90))] (.cond (.t 91) (.q [.F 6] .ret) .skip))))) (.ops [.b 92 .add 3 44 1,.m 44 92]))))))) (.seq (.draw [(.m 93 0,[]),(.m 94 7,[]),(.I 95 8 93 94,[]),(.f 96 1 95,[]),(.l 97 96,[]),(.b 98 .geq 3 97 0,[]),(.m 99 98,[]),(.my 100 99 0,[]),(.my 101 99 7,[]),(.y 102 99 (.ixAddr 8 (.t 100) (.t 101)),[]),(.yf 103 99 1 102,[]),(.yl 104 99 103,[]),(.y 105 99 (.bin .lss true 3 (.t 104) (.k 8)),[]),(.q 106 99 105,[]),(.m 107 0,[]),(.m 108 7,[]),(.I 109 8 107 108,[]),(.f 110 0 109,[]),(.l 111 110,[]),(.b 112 .eql 3 111 16,[]),(.c 113 .neq 4 106 112,[])]) (.cond (.t 113) (.q [.F 6] .ret) .skip)))) (.ops [.m 15 7,.b 16 .add 3 15 1,.m 7 16])))))) (.q [.z 6 (.move .T)] .ret)))
def r_law23_registers:My Tryz.prog 60=some ⟨114,z8e.r,[.tmp 6]⟩:=Aa
def zkc(g:List Vr)(o:Ko)(z:g.length≤9223372036854775807):Mu 16 [.lst (Nd g) g.length 3,.agg o.f] (.bool (P3 g&&Nf g o)) []:=by
 refine Ng.val rfl (Mz r_ref22_Alone Aa N ?_);have j:o.f=[.i o.kind,.i o.d,.i o.e,.i o.a,.i o.b,.i o.c,.u o.imm]:=rfl;simp[ze2,j];refine M2 (zgh g z) (bors_self _ A3) ?_;cases hv:P3 g with
 |false=>simp
 |true =>
  simp[j];rw[←j];refine M2 (zqt g o) (bors_self _ (by simp[dats,LV.dat,Qo,j])) ?_;simp
def S1(g:Int)(j:Bool)(r:Int):Prop:=r=-1∨(8≤r∧r<16)∨(j=true∧16≤r∧r<40)∨(j=false∧40≤r∧r<64)∨(g≤r∧r<8)
def zek(L:List Lo)(deep:Int)(H:Bool)(hl:L.length≤9223372036854775807)(gL:0≤deep)(hr:∀o∈L,(∀r∈[o.d,o.e,o.a,o.b,o.c],S1 deep H r)∧((0≤o.d∧o.d<8)↔o.kind=16)) :
  Mu 60 [.lst (P1 L) L.length 8,.i deep,.bool H] (.bool true) []:=by
 refine Ng.val rfl (Mz r_law23_registers Aa (by simp) ?_);simp[z8e];refine Oc (λT gK gg N=>∃i:Nat,gK=[]∧N+i=L.length∧lk T 0=.lst (P1 L) L.length 8∧lk T 1=.i deep∧lk T 2=.bool H∧lk T 7=.i i) (N:=L.length) ⟨0,by simp⟩ ?_;rintro N T gK gg ⟨i,rfl,hN,A,B,C,E⟩ Nx gz;by_cases gA:i<L.length
 ·have ho:=yj gA;have hm:=hr _ (Ia ho);have o0:=zb ho (j:=0) J;have X:=zb ho (j:=1) J;have o2:=zb ho (j:=2) J;have o3:=zb ho (j:=3) J;have o4:=zb ho (j:=4) J;have o5:=zb ho (j:=5) J;have gM:=qi gA;generalize ap L i=o at *;simp[Lo.f]at o0 X o2 o3 o4 o5;obtain⟨gC,Y⟩:=hm;simp[A,B,C,E,gA,Mr X,Mr o2,Mr o3,Mr o4,Mr o5];have U:(gg++[LObj.dyn [.i o.d,.i o.e,.i o.a,.i o.b,.i o.c] 5 1 0 0])[gg.length]?=some (.dyn [.i o.d,.i o.e,.i o.a,.i o.b,.i o.c] 5 1 0 0):=Ie;generalize gg++[LObj.dyn [.i o.d,.i o.e,.i o.a,.i o.b,.i o.c] 5 1 0 0]=G2 at *;generalize gg.length=gP at *;refine Oc (λT gK gg N=>∃j:Nat,gK=[]∧N+j=5∧lk T 0=.lst (P1 L) L.length 8∧lk T 1=.i deep∧lk T 2=.bool H∧lk T 7=.i i∧lk T 42=.dy gP 0∧lk T 43=.i 5∧lk T 44=.i j∧gg=G2) (N:=5)
   ⟨0,rfl,rfl,Ar,Ao,Al,Ai,by simp,by simp,by simp,rfl⟩ ?_
  clear A B C E;rintro N2 T gK G3 ⟨j,rfl,gO,A,B,C,E,z,g,F,rfl⟩ gD Z;by_cases O:j<5
  ·have D:(j:Int)<5:=J
   obtain⟨x,I,gE⟩:∃x,([LV.i o.d,.i o.e,.i o.a,.i o.b,.i o.c])[j]?=some (.i x)∧x∈[o.d,o.e,o.a,o.b,o.c]:=by
    have hj:j=0∨j=1∨j=2∨j=3∨j=4:=J
    rcases hj with rfl|rfl|rfl|rfl|rfl<;>exact⟨_,rfl,by simp⟩
   have hx:=gC x gE;have M:∀(G:Mq),lk G 0=.lst (P1 L) L.length 8→lk G 1=.i deep→lk G 2=.bool H→lk G 7=.i i→lk G 42=.dy gP 0→lk G 43=.i 5→lk G 44=.i ((j:Int)+1)→gD G [] G3:=λG a0 a1 a2 a7 gF gG gH=>Z _ _ _ ⟨N2-1,J,j+1,rfl,J,a0,a1,a2,a7,gF,gG,by rw[gH];simp,rfl⟩
   rcases hx with e|⟨P,Q⟩|⟨rfl,P,Q⟩|⟨rfl,P,Q⟩|⟨P,Q⟩
   ·subst e;simp[A,B,C,E,z,g,F,U,O,D,Mr I];exact⟨J,M _ Ar Ao Al Ai Ae At (by simp)⟩
   ·have R:¬x=-1:=J
    simp[A,B,C,E,z,g,F,U,O,D,Mr I,R,P,Q];exact⟨J,M _ Ar Ao Al Ai Ae At (by simp)⟩
   ·have R:¬x=-1:=J
    have V:8≤x:=J
    have n3:¬x<16:=J
    simp[A,B,C,E,z,g,F,U,O,D,Mr I,R,V,n3,P,Q];exact⟨J,M _ Ar Ao Al Ai Ae At (by simp)⟩
   ·have R:¬x=-1:=J
    have V:8≤x:=J
    have n3:¬x<16:=J
    simp[A,B,C,E,z,g,F,U,O,D,Mr I,R,V,n3,P,Q];exact⟨J,M _ Ar Ao Al Ai Ae At (by simp)⟩
   ·have R:¬x=-1:=J
    have V:¬8≤x:=J
    have n4:¬16≤x:=J
    have n5:¬40≤x:=J
    cases H with
    |true =>
     simp[A,B,C,E,z,g,F,U,O,D,Mr I,R,V,n4,n5,P,Q];exact⟨J,M _ Ar Ao Al Ai Ae At (by simp)⟩
    |false =>
     simp[A,B,C,E,z,g,F,U,O,D,Mr I,R,V,n4,n5,P,Q];exact⟨J,M _ Ar Ao Al Ai Ae At (by simp)⟩
  ·have D:¬(j:Int)<5:=J
   have M:∀(G:Mq) (G':Mp),lk G 0=.lst (P1 L) L.length 8→lk G 1=.i deep→lk G 2=.bool H→lk G 7=.i ((i:Int)+1)→Nx G [] G':=λG G' a0 a1 a2 a7=>gz _ _ _ ⟨N-1,J,i+1,rfl,J,a0,a1,a2,by rw[a7];simp⟩
   by_cases K:o.kind=16
   ·obtain⟨m1,m2⟩:=Y.2 K;simp[A,B,C,E,g,F,O,D,gA,Mr o0,Mr X,K,m1,m2,gn];exact⟨J,M _ _ Ar Ao Al (by simp)⟩
   ·have gI:¬(0≤o.d∧o.d<8):=λq=>K (Y.1 q)
    by_cases m1:0≤o.d
    ·have m2:¬o.d<8:=λq=>gI ⟨m1,q⟩
     simp[A,B,C,E,g,F,O,D,gA,Mr o0,Mr X,K,m1,m2,gn];exact⟨J,M _ _ Ar Ao Al (by simp)⟩
    ·simp[A,B,C,E,g,F,O,D,gA,Mr o0,Mr X,K,m1,gn];exact⟨J,M _ _ Ar Ao Al (by simp)⟩
 ·simp[A,E,gA]
def qm{c:Cf}{f:Fr Lo}(C:f.AllH c z)(T:0≤z)(F:c.lo=z)(G:c.hi=7)(U:8≤c.pa∧c.pb<16)(H:(Q=true∧16≤c.R∧c.R+c.w≤40)∨(Q=false∧40≤c.R∧c.R+c.w≤64)) :
  ∀o∈f.flat,(∀r∈[o.d,o.e,o.a,o.b,o.c],S1 z Q r)∧((0≤o.d∧o.d<8)↔o.kind=16):=by
 intro o ho;have h:=allH_flat C o ho;have rg:∀{x:Int},Rz c x→S1 z Q x∧16≤x:=λ{x} h=>by
  unfold Rz at h;unfold S1;rcases H with ⟨e,q⟩|⟨e,q⟩
  ·exact⟨.inr (.inr (.inl ⟨e,J,J⟩)),J⟩
  ·exact⟨.inr (.inr (.inr (.inl ⟨e,J,J⟩))),J⟩
 have I:∀{x:Int},Wf c x→S1 z Q x:=λ{x} h=>by
  unfold Wf at h;unfold S1;rcases h with h|h
  ·exact .inr (.inr (.inr (.inr J)))
  ·exact .inr (.inl J)
 have j:∀{x:Int},Ul c x→S1 z Q x:=λ{x} h=>by
  rcases h with h|h|h
  ·exact .inl h
  ·exact (rg h).1
  ·exact I h
 have B:S1 z Q (-1):=.inl rfl;rcases h with h|rfl|⟨K,⟨L,E,M,O,P,R,_⟩,V,X⟩
 ·have A:S1 z Q o.d∧S1 z Q o.e∧¬(0≤o.d∧o.d<8):=by
   rcases h.m with ⟨B,D,_⟩|⟨_,B,D,_⟩
   ·refine⟨?_,?_,?_⟩
    ·rcases B with e|e
     ·exact .inl e
     ·exact (rg e).1
    ·rcases D with e|e
     ·exact .inl e
     ·exact (rg e).1
    ·rcases B with e|e
     ·omega
     ·have:=(rg e).2;omega
   ·exact⟨.inr (.inl J),.inl D,J⟩
  refine⟨λx g=>?_,λq=>absurd q A.2.2,λq=>absurd q h.k.1⟩;simp only[H5,Jw,Lj]at g;rcases g with rfl|rfl|rfl|rfl|rfl
  ·exact A.1
  ·exact A.2.1
  ·exact j h.a
  ·exact j h.b
  ·exact j h.z
 ·refine⟨λx g=>?_,by simp[Se]⟩;simp[Se]at g;subst g;exact B
 ·refine⟨λx g=>?_,?_⟩
  ·simp only[E,M,O,P,R,H5,Jw,Lj]at g;rcases g with rfl|rfl|rfl|rfl|rfl
   ·exact .inr (.inr (.inr (.inr J)))
   all_goals exact B
  ·rw[E];exact⟨λ_=>L,λ_=>J⟩
def z5u:LC:=(.q [.x 3 0,.x 4 1,.F 6] (.seq (.q [.f 9 0 4,.l 10 9,.b 11 .eql 3 10 16] (.cond (.t 11) (.q [.F 6] .ret) .skip)) (.seq (.q [.f 12 0 4,.l 13 12,.b 14 .eql 3 13 14] (.cond (.t 14) (.q [.f 15 1 3,.l 16 15,.f 17 6 4,.l 18 17,.I 19 3 16 18,.f 20 2 19,.l 21 20,.m 6 21] .ret) .skip)) (.q [.L 22 8 4,.w 23 143 22,.m 7 23] (.seq (.q [.K 8 0] (.block 0 (.loop (.seq (.q [.m 24 8,.m 25 7,.s 26 25,.c 27 .lss 3 24 26] (.cond (.t 27) .skip (.exit 0))) (.seq (.block 1 (.q [.m 30 2,.m 31 7,.m 32 8,.I 33 1 31 32,.l 34 33,.I 35 1 30 34,.l 36 35] (.cond (.t 36) (.q [.z 6 (.move .T)] .ret) .skip))) (.ops [.m 28 8,.b 29 .add 3 28 1,.m 8 29])))))) (.q [.F 6] .ret))))))
def r_ref13_secret:My Tryz.prog 145=some ⟨37,z5u.r,[.tmp 6]⟩:=Aa
def zcf:LC:=(.q [.x 1 0,.e 2] (.q [.L 11 3 1,.w 12 78 11,.m 10 12,.X 13 0 10,.X 14 1 10,.m 3 13,.m 4 14] (.seq (.q [.m 15 4,.b 16 .neq 35 15 0] (.cond (.t 16) (.q [.e 2] .ret) .skip)) (.q [.f 17 0 1,.l 18 17,.z 19 (.mkSl 1 [(.bool false)] (.t 18) (.t 18)),.m 5 19] (.seq (.q [.z 6 (.move .T)] (.block 0 (.loop (.seq (.q [.m 20 6] (.cond (.t 20) .skip (.exit 0))) (.block 1 (.q [.F 6] (.q [.K 7 0] (.block 2 (.loop (.seq (.q [.m 21 7,.f 22 2 1,.l 23 22,.s 24 23,.c 25 .lss 3 21 24] (.cond (.t 25) .skip (.exit 2))) (.seq (.block 3 (.q [.f 28 2 1,.l 29 28,.m 30 7,.I 31 8 29 30,.L 32 8 31,.w 33 142 32,.m 8 33] (.q [.K 9 0] (.block 4 (.loop (.seq (.q [.m 34 9,.m 35 8,.s 36 35,.c 37 .lss 3 34 36] (.cond (.t 37) .skip (.exit 4))) (.seq (.block 5 (.seq (.draw [(.m 40 5,[]),(.m 41 8,[]),(.m 42 9,[]),(.I 43 1 41 42,[]),(.l 44 43,[]),(.I 45 1 40 44,[]),(.l 46 45,[]),(.z 47 (.un .not (.t 46)),[]),(.m 48 47,[]),(.y 49 48 (.loadN 3 (.t 1)),[]),(.yf 50 48 2 1,[]),(.yl 51 48 50,[]),(.my 52 48 7,[]),(.y 53 48 (.ixAddr 8 (.t 51) (.t 52)),[]),(.y 54 48 (.loadN 8 (.t 53)),[]),(.my 55 48 5,[]),(.y 56 48 (.w 145 [.t 49,.t 54,.t 55]),[]),(.q 57 48 56,[])]) (.cond (.t 57) (.ops [.m 58 5,.m 59 8,.m 60 9,.I 61 1 59 60,.l 62 61,.I 63 1 58 62,.v (.store 1 (.t 63) .T),.z 6 (.move .T)]) .skip))) (.ops [.m 38 9,.b 39 .add 3 38 1,.m 9 39])))))))) (.ops [.m 26 7,.b 27 .add 3 26 1,.m 7 27])))))))))))) (.q [.m 64 5,.m 2 64] .ret))))))
def r_ref13_Secret:My Tryz.prog 79=some ⟨65,zcf.r,[.tmp 2]⟩:=Aa
def zdq:LC:=(.q [.x 1 0,.K 2 0,.K 3 0] (.q [.L 11 3 1,.w 12 78 11,.m 10 12,.X 13 0 10,.X 14 1 10,.m 4 13,.m 5 14] (.seq (.q [.m 15 5,.b 16 .neq 35 15 0] (.cond (.t 16) (.q [.m 17 4,.m 18 5,.m 2 17,.m 3 18] .ret) .skip)) (.q [.L 19 3 1,.w 20 79 19,.m 6 20] (.seq (.q [.K 7 0] (.block 0 (.loop (.seq (.q [.m 21 7,.f 22 2 1,.l 23 22,.s 24 23,.c 25 .lss 3 21 24] (.cond (.t 25) .skip (.exit 0))) (.seq (.block 1 (.q [.f 28 2 1,.l 29 28,.m 30 7,.I 31 8 29 30,.L 32 8 31,.z 8 (.alloc [(.i 0),(.i 0),(.i 0),(.i 0),(.i 0),(.i 0),(.i 0),(.u 0)]),.S 8 8 32] (.q [.f 33 0 8,.l 34 33,.b 35 .eql 3 34 14,.m 36 35,.nf 37 36 0 8,.nl 38 36 37,.nb 39 36 .eql 3 38 15,.p 40 36 39,.m 9 40] (.q [.m 41 9,.m 42 41,.yf 43 42 3 8,.yl 44 42 43,.y 45 42 (.bin .geq true 3 (.t 44) (.k 0)),.q 46 42 45,.m 47 46,.my 48 47 6,.yf 49 47 3 8,.yl 50 47 49,.y 51 47 (.ixAddr 1 (.t 48) (.t 50)),.yl 52 47 51,.q 53 47 52,.m 54 53,.nf 55 54 0 8,.nl 56 54 55,.nb 57 54 .eql 3 56 15,.mn 58 54 57,.my 59 58 6,.yf 60 58 4 8,.yl 61 58 60,.y 62 58 (.ixAddr 1 (.t 59) (.t 61)),.yl 63 58 62,.n 64 54 (.pick (.t 58) (.t 63) .F),.mn 65 54 64,.yf 66 65 1 1,.yl 67 65 66,.yf 68 65 6 8,.yl 69 65 68,.y 70 65 (.ixAddr 3 (.t 67) (.t 69)),.yf 71 65 2 70,.yl 72 65 71,.y 73 65 (.un .not (.t 72)),.n 74 54 (.pick (.t 65) (.t 73) .F),.p 75 54 74,.m 76 75,.nf 77 76 0 8,.nl 78 76 77,.nb 79 76 .eql 3 78 16,.mn 80 76 79,.my 81 80 6,.yf 82 80 1 8,.yl 83 80 82,.y 84 80 (.ixAddr 1 (.t 81) (.t 83)),.yl 85 80 84,.n 86 76 (.pick (.t 80) (.t 85) .F),.p 87 76 86] (.cond (.t 87) (.q [.m 88 7,.m 2 88,.K 3 12] .ret) .skip))))) (.ops [.m 26 7,.b 27 .add 3 26 1,.m 7 27])))))) (.q [.f 89 2 1,.l 90 89,.s 91 90,.m 2 91,.K 3 0] .ret))))))
def r_ref13_Check:My Tryz.prog 25=some ⟨92,zdq.r,[.tmp 2,.tmp 3]⟩:=Aa
def kf{o:Lo}(h:Po z X o=true)(g:o.kind=14∨o.kind=15):0≤o.buf∧o.buf.toNat<X.length:=by
 unfold Po at h;simp only[Hq,Hz]at h;obtain⟨⟨A,B⟩,d,e,a,b,c,f,j⟩:=h;rw[Hv (by rcases g with q|q<;>simp[Om,q])]at j;simp only[Hq,Hz]at j;omega
def zht{r:Nat}{os:List Lo}{m:List Bool}{o:Lo}(U:Po r X o=true)(hm:m.length=r) :
  Od 145 [.agg (Mv r X os),.agg o.f,.lst (m.map .bool) r 1] (.bool (Wi X m o)):=by
 refine Ra.mk rfl (Mz r_ref13_secret Aa (by simp) ?_);have I:o.f=[.i o.kind,.i o.d,.i o.e,.i o.a,.i o.b,.i o.c,.i o.buf,.u o.imm]:=rfl;obtain⟨Z,_,_⟩:=yy U;generalize g:Wi X m o=gC;unfold Wi at g;by_cases z:o.kind=16
 ·rw[Hv z]at g;simp[z5u,Mv,I,z,g]
 rw[Hs z]at g;by_cases j:o.kind=14
 ·rw[Hv j]at g;obtain⟨b0,K⟩:=kf U (.inl j);obtain⟨bn,G⟩:=Hr b0;rw[G]at K g;simp only[If]at K g;have q2:=zta (Rg K);simp[z5u,Mv,I,j,G,K,Mr q2,g]
 rw[Hs j]at g;simp[z5u,Mv,I,z,j];refine Q5 (by rw[←I];exact zcm o) B1 ?_;simp;have gg:=zl2 o;refine Oc (λY gz gA N=>∃P:Nat,gz=[]∧N+P=(N1 o).length∧lk Y 2=.lst (m.map .bool) r 1∧lk Y 7=.lst ((N1 o).map .i) (N1 o).length 1∧lk Y 8=.i P∧∀x∈(N1 o).take P,Ok m x=false) (N:=(N1 o).length)
  ⟨0,rfl,J,by simp,by simp,by simp,by simp⟩ ?_
 rintro N Y gz gA ⟨P,rfl,hN,L,M,Q,R⟩ Nx T;by_cases F:P<(N1 o).length
 ·have V:=Vs (f:=LV.i) (Wb F);have H:=zev F;have C:=zi8 F;generalize gd (N1 o) P=x at *;obtain⟨x0,xr⟩:=Z x C;obtain⟨O,rfl⟩:=Hr x0;have D:O<r:=J
  have A:(m.map LV.bool)[O]?=some (.bool (Ok m (O:Int))):=by simp[Ok,hm,D]
  cases B:Ok m (O:Int) with
  |true =>
   rw[B]at A;rw[show (N1 o).any (Ok m)=true from Iw.2 ⟨_,C,B⟩]at g;subst g;simp[L,M,Q,F,Mr V,D,Mr A]
  |false =>
   rw[B]at A;simp[L,M,Q,F,Mr V,D,Mr A];refine⟨J,T _ _ _ ⟨N-1,J,P+1,rfl,J,Bh,A0,by simp,λy E=>?_⟩⟩;rw[H]at E;rcases Ih.1 E with E|E
   ·exact R y E
   ·simp at E;rw[E];exact B
 ·rw[H7 J]at R;have:(N1 o).any (Ok m)=false:=by rw[Kz];intro x hx;simp[R x hx]
  rw[this]at g;subst g;simp[L,M,Q,F]
def zf9(l:List Bool):dats (l.map .bool)=true:=by induction l<;>simp_all [dats,LV.dat]
def zjw{r:Nat}{os:List Lo}(hc:(P5 r X os).2=0) :
  Od 79 [.agg (Mv r X os)] (.lst ((W2 r X os).map .bool) r 1):=by
 obtain⟨jz,g8,jA,jB,g9,gz⟩:=z70 hc;refine Ra.mk (by simp[LV.dat,zf9]) (Mz r_ref13_Secret Aa (by simp) ?_);have gP:dats (Mv r X os)=true:=zgv _ _ _;simp[zcf,Mv];refine M2 (z4f r X os) (bors_self _ A5) ?_;simp[hc];refine⟨J,?_⟩;have gA:∀o∈os,∀x∈M3 o,0≤x∧x<(r:Int):=λo ho=>(yy (gz o ho)).2.1
 refine Oc (λT gO gM N=>∃(st n:Nat) (m:List Bool) (D:Bool),gO=[]∧N=(if D=true then n+1 else 0)∧lk T 1=.ptr 0 0∧lk T 5=.dy 1 0∧lk T 6=.bool D∧gM[0]?=some (.cells (Mv r X os) 0)∧gM[1]?=some (.dyn (m.map .bool) r 1 0 st)∧m.length=r∧(D=true→S4 m<n)∧(if D=true then Vz X os n m else m)=W2 r X os) (N:=r+1+1)
  ⟨0,r+1,List.replicate r false,true,rfl,by simp,by simp,by simp,by simp,Bq,by simp[wx],by simp,λ_=>?_,by simp[W2]⟩ ?_
 ·have:S4 (List.replicate r false)≤r:=by unfold S4;exact Is (List.countP_le_length) (by simp)
  omega
 rintro N T gO gM ⟨st,n,m,D,rfl,hN,G,F,I,g,j,gC,gD,hL⟩ Nx gQ;cases D with
 |false =>
  simp at hL;simp[F,I];exact⟨_,_,_,⟨rfl,rfl,rfl⟩,⟨st,by rw[j,hL]⟩,zf9 _⟩
 |true =>
 simp at hN gD hL;subst hN;obtain⟨n,rfl⟩:∃k,n=k+1:=⟨n-1,J⟩;rw[Vz]at hL;simp[F,I];refine Oc (λT gO gM N=>∃(i st:Nat) (Z:List Bool) (z:Bool),gO=[]∧N+i=os.length∧lk T 1=.ptr 0 0∧lk T 5=.dy 1 0∧lk T 6=.bool z∧lk T 7=.i i∧gM[0]?=some (.cells (Mv r X os) 0)∧gM[1]?=some (.dyn (Z.map .bool) r 1 0 st)∧Z.length=r∧Xn X (os.drop i) (Z,z)=Xn X os (m,false)) (N:=os.length)
  ⟨0,st,m,false,rfl,J,A8,Am,by simp,by simp,g,j,gC,by simp⟩ ?_
 clear G F I g j;rintro N T gO gM ⟨i,gE,Z,z,rfl,hN,G,F,I,K,g,j,U,H⟩ jC gF;have l0:=(Hm.1 g).1;have l1:=(Hm.1 j).1;by_cases gZ:i<os.length
 case neg =>
  rw[Jk J,Xn]at H;rw[←H]at hL;have gG:=zty X os (m,false) (by rw[gC];exact gA);rw[←H]at gG;have gR:¬i<os.length:=gZ;simp[G,K,g,Mv,gR];refine gQ _ _ _ ⟨if z=true then n+1 else 0,by split<;>omega,gE,n,Z,z,rfl,rfl,A8,Am,Ay,g,j,U,λhm=>?_,by simpa using hL⟩;have:=gG.2 hm;simp at this;omega
 have ho:=yj gZ;have V:ap os i∈os:=Ia ho;rw[zh4 gZ,Xn]at H;have gH:=zbd ho;have gI:=qi gZ;generalize ap os i=o at *;have hC:o.f=[.i o.kind,.i o.d,.i o.e,.i o.a,.i o.b,.i o.c,.i o.buf,.u o.imm]:=rfl;simp[G,K,g,Mv,gZ,gH,gI];refine Q5 (zc3 o) (by simp[dats,LV.dat,hC]) ?_;simp;have gT:=gA o V;refine Oc (λT gO gM N=>∃(gg st:Nat) (E:List Bool) (B:Bool),gO=[]∧N+gg=(M3 o).length∧lk T 1=.ptr 0 0∧lk T 5=.dy 1 0∧lk T 6=.bool B∧lk T 7=.i i∧lk T 8=.lst ((M3 o).map .i) (M3 o).length 1∧lk T 9=.i gg∧gM[0]?=some (.cells (Mv r X os) 0)∧gM[1]?=some (.dyn (E.map .bool) r 1 0 st)∧E.length=r∧mkS X o ((M3 o).drop gg) (E,B)=mkS X o (M3 o) (Z,z)) (N:=(M3 o).length)
  ⟨0,gE,Z,z,rfl,J,A8,Am,Ay,A9,by simp,by simp,g,j,U,by simp⟩ ?_
 clear G F I K g j l0 l1;rintro N3 T gO G3 ⟨gg,L,E,B,rfl,jD,G,F,I,K,h8,h9,g,j,C,A⟩ jE M;have l0:=(Hm.1 g).1;have l1:=(Hm.1 j).1;have jg:=zkx o;by_cases Y:gg<(M3 o).length
 ·have hg:=Vs (f:=LV.i) (Wb Y);have gU:(M3 o).drop gg=gd (M3 o) gg::(M3 o).drop (gg+1):=by
   rw[Jb Y];simp[gd,Hn,Y]
  have gV:=zi8 Y;rw[gU,mkS]at A;generalize gd (M3 o) gg=x at *;obtain⟨x0,xr⟩:=gT x gV;obtain⟨P,rfl⟩:=Hr x0;have Q:P<r:=J
  have R:(E.map LV.bool)[P]?=some (.bool (Ok E (P:Int))):=by simp[Ok,C,Q]
  cases O:Ok E (P:Int) with
  |true =>
   rw[O]at R;simp[O]at A;simp[G,F,K,h8,h9,Y,Mr hg,g,j,Q,Mr R];refine⟨J,M _ _ _ ⟨N3-1,J,gg+1,L,E,B,rfl,J,A8,Am,Ay,A9,by simp[h8],by simp,g,j,C,A⟩⟩
  |false =>
   rw[O]at R;have gK:=zht (os:=os) (gz o V) C;simp[G,F,K,h8,h9,Y,Mr hg,g,j,Q,Mr R,Mv,gZ,gH,gI];have hb:bors G3 [.agg (Mv r X os),.agg o.f,.dy 1 0] [.agg (Mv r X os),.agg o.f,.lst (E.map .bool) r 1]:=⟨_,_,rfl,⟨_,rfl,bors_self _ gP⟩,_,_,rfl,⟨_,rfl,bors_self _ (by simp[hC,dats,LV.dat])⟩,_,_,rfl,⟨_,r,1,L,rfl,j,zf9 _⟩,rfl⟩;refine sn gK hb rfl ?_;have e1:Ns (E.map LV.bool) P [.bool true]=(E.set P true).map LV.bool:=by
    rw[show Ns (E.map LV.bool) P [.bool true]=(E.map LV.bool).set P (.bool true) by rw[Io,Hv Ab];simp[Ns],I3]
   cases gL:Wi X E o with
   |false =>
    simp[O,gL]at A;simp[h9];refine⟨J,M _ _ _ ⟨N3-1,J,gg+1,L,E,B,rfl,J,A8,Am,Ay,A9,by simp[h8],by simp,g,j,C,A⟩⟩
   |true =>
    simp[O,gL]at A;simp[F,h8,h9,Y,Mr hg,j,Q,C,e1];refine⟨J,J,M _ _ _ ⟨N3-1,J,gg+1,L+1,E.set P true,true,rfl,J,A8,Am,by simp,A9,by simp[h8],by simp,?_,?_,Al,A⟩⟩
    ·rw[Ho J];exact g
    ·rw[←I3];exact Hu l1
 ·have gY:¬gg<(M3 o).length:=Y;rw[Jk J,mkS]at A;rw[←A]at H;simp[K,h8,h9,gY];refine⟨J,gF _ _ _ ⟨N-1,J,i+1,L,E,B,rfl,J,A8,Am,Ay,by simp,g,j,C,H⟩⟩
def zcc{r:Nat}{gM:Int→Bool}(hc:(P5 r X v6).2=0)(gD:zx2 X gM v6)(gE:∀o∈v6,f9 X gM o=true) :
  Od 25 [.agg (Mv r X v6)] (.tup [.i v6.length,.i 0]):=by
 obtain⟨gO,gI,gP,gQ,gK,Y⟩:=z70 hc;refine Ra.mk rfl (Mz r_ref13_Check Aa (by simp) ?_);have gR:dats (Mv r X v6)=true:=zgv _ _ _;simp[zdq,Mv];refine M2 (z4f r X v6) (bors_self _ A5) ?_;simp[hc];refine Q5 (zjw hc) A5 ?_;have gg:Wc (W2 r X v6) gM:=zv0 (λo ho x F=>((yy (Y o ho)).1 x F).1) (λo ho x F=>((yy (Y o ho)).2.1 x F).1) gD _ _ (Wc.none _ _);have gT:(W2 r X v6).length=r:=by unfold W2;rw[ztv];simp
 generalize W2 r X v6=gF at *;simp;refine Oc (λρ gU gL N=>∃i:Nat,gU=[]∧N+i=v6.length∧lk ρ 1=.ptr 0 0∧lk ρ 6=.lst (gF.map .bool) r 1∧lk ρ 7=.i i∧gL[0]?=some (.cells (Mv r X v6) 0)) (N:=v6.length)
  ⟨0,rfl,J,by simp,by simp,by simp,Bq⟩ ?_
 rintro N ρ gU gL ⟨i,rfl,hN,j,D,M,g⟩ Nx gG;have l0:=(Hm.1 g).1;by_cases gz:i<v6.length
 case neg =>
  have gH:¬i<v6.length:=gz;simp[j,M,g,Mv,gH]
 have ho:=yj gz;have R:ap v6 i∈v6:=Ia ho;have z:=zbd ho;have A:=qi gz;have hf:=Y _ R;have H:=gE _ R;generalize ap v6 i=o at *;have T:o.f=[.i o.kind,.i o.d,.i o.e,.i o.a,.i o.b,.i o.c,.i o.buf,.u o.imm]:=rfl;have U:∀x:List LObj,(gL++x)[0]?=some _:=λx=>(M6 l0).trans g
 obtain⟨ht,hm,hd⟩:=yy hf;have gA:o.kind=15→0≤o.b:=λq=>(ht o.b (by unfold N1;simp[q];split<;>simp)).1
 have H:=i9 gg gA (λq=>(hd q).1) H;have ix:∀x:Int,0≤x→x<r→∃n:Nat,x=n∧n<r∧(gF.map LV.bool)[n]?=some (.bool (Ok gF x)):=λx h0 j=>by
  obtain⟨n,rfl⟩:=Hr h0
  exact ⟨n, rfl, by omega, by have : n < gF.length := by omega
                              simp[Ok,this]⟩
 have next:∀(ρ':Mq) (G':Mp),lk ρ' 1=.ptr 0 0→lk ρ' 6=.lst (gF.map .bool) r 1→lk ρ' 7=.i ((i:Int)+1)→G'[0]?=some (.cells (Mv r X v6) 0)→Nx ρ' [] G':=λρ' G' a1 a6 a7 b0=>gG _ _ _ ⟨N-1,J,i+1,rfl,J,a1,a6,by rw[a7];simp,b0⟩
 have V:∀x:List LObj,(gL++x)[0]?=some (.cells (Mv r X v6) 0):=λx=>(M6 l0).trans g
 unfold f9 at H;by_cases O:o.kind=14
 ·by_cases ha:0≤o.a
  ·have I:=ht o.a (by unfold N1;rw[Hs J,Hs J,Hs J,Hv J];simp);simp[O,Om,ha]at H;obtain⟨n,hn,G,F⟩:=ix o.a I.1 I.2;rw[H]at F;simp[j,D,M,g,Mv,gz,z,A,T,↓U,O,hn,G,Mr F];refine⟨J,next _ _ Af Ak (by simp) (V _)⟩
  ·simp[j,D,M,g,Mv,gz,z,A,T,↓U,O,ha];refine⟨J,next _ _ Af Ak (by simp) (V _)⟩
 by_cases B:o.kind=15
 ·have gC:=ht o.b (by unfold N1;simp[B];split<;>simp);obtain⟨b0,b1⟩:=kf hf (.inr B);obtain⟨bn,P⟩:=Hr b0;rw[P]at b1;simp only[If]at b1;have q2:=zta (Rg b1);obtain⟨nb,Q,E,C⟩:=ix o.b gC.1 gC.2;simp[B,Om,P]at H;by_cases ha:0≤o.a
  ·have I:=ht o.a (by unfold N1;rw[Hs J,Hs J,Hs J,Hs J,Hv J];simp);obtain⟨n,hn,G,F⟩:=ix o.a I.1 I.2;rw[H.1.resolve_left J]at F;cases Z:Ok gF o.b with
   |false =>
    rw[Z]at C;simp[j,D,M,g,Mv,gz,z,A,T,↓U,B,hn,G,Mr F,Q,E,Mr C];refine⟨J,next _ _ Af Ak (by simp) (V _)⟩
   |true =>
    rw[Z]at C;have K:(M7 X bn).sec=true:=by simpa [Z] using H.2
    rw[K]at q2;simp[j,D,M,g,Mv,gz,z,A,T,↓U,B,hn,G,Mr F,Q,E,Mr C,P,b1,Mr q2];refine⟨J,next _ _ Af Ak (by simp) (V _)⟩
  ·cases Z:Ok gF o.b with
   |false =>
    rw[Z]at C;simp[j,D,M,g,Mv,gz,z,A,T,↓U,B,ha,Q,E,Mr C];refine⟨J,next _ _ Af Ak (by simp) (V _)⟩
   |true =>
    rw[Z]at C;have K:(M7 X bn).sec=true:=by simpa [Z] using H.2
    rw[K]at q2;simp[j,D,M,g,Mv,gz,z,A,T,↓U,B,ha,Q,E,Mr C,P,b1,Mr q2];refine⟨J,next _ _ Af Ak (by simp) (V _)⟩
 by_cases L:o.kind=16
 ·obtain⟨n,hn,G,F⟩:=ix o.d (hd L).1 (hd L).2;simp[L,Om]at H;rw[H]at F;simp[j,D,M,g,Mv,gz,z,A,T,↓U,L,hn,G,Mr F];refine⟨J,next _ _ Af Ak (by simp) (V _)⟩
 ·simp[j,D,M,g,Mv,gz,z,A,T,↓U,O,B,L];refine⟨J,next _ _ Af Ak (by simp) (V _)⟩
def z4s:LC:=(.q [.F 4] (.seq (.q [.m 6 0,.s 7 6,.m 8 1,.s 9 8,.c 10 .neq 3 7 9] (.cond (.t 10) (.q [.F 4] .ret) .skip)) (.seq (.q [.K 5 0] (.block 0 (.loop (.seq (.q [.m 11 5,.m 12 0,.s 13 12,.c 14 .lss 3 11 13] (.cond (.t 14) .skip (.exit 0))) (.seq (.block 1 (.seq (.draw [(.m 17 0,[]),(.m 18 5,[]),(.I 19 2 17 18,[]),(.L 20 2 19,[]),(.m 21 1,[]),(.m 22 5,[]),(.I 23 2 21 22,[]),(.L 24 2 23,[]),(.c 25 .neq 107 20 24,[])]) (.cond (.t 25) (.q [.F 4] .ret) .skip))) (.ops [.m 15 5,.b 16 .add 3 15 1,.m 5 16])))))) (.q [.z 4 (.move .T)] .ret))))
def r_kit_Same_api_LimbEvent:My Tryz.prog 64=some ⟨26,z4s.r,[.tmp 4]⟩:=Aa
def Xv:List (Option Bool)→Option Bool
 |[]=>some true
 |o::l=>match o with
  |some true=>Xv l
  |some false=>some false
  |none=>none
def resGvs:∀l:List Bool,Xv (l.map some)=some (l.all id)
 |[]=>rfl
 |true::l=>by rw[J3,Xv,resGvs l];rfl
 |false::l=>rfl
def evEq(a b d e:Int):Q9 Tryz.prog false 107 (.agg [.int .i64 a,.int .i64 b]) (.agg [.int .i64 d,.int .i64 e])=Xv [some (Y6 a d),some (Y6 b e)]:=Aa
def evEq2(a b:Int):Q9 Tryz.prog false 107 (.agg (toAs [.i a,.i b])) (.agg (toAs [.i a,.i b]))=some true:=by
 have h:=evEq a b a b;have e:[some (Y6 a a),some (Y6 b b)]=[Y6 a a,Y6 b b].map some:=rfl;rw[e,resGvs]at h;refine Eq.trans h ?_;simp only[yh,J1,List.all_nil,Bool.and_true,id];simp
def ev_two{l:List (Int×Int)}{i:Nat}{e:Int×Int}(h:l[i]?=some e):((T9 l).drop (i*2)).take 2=[.i e.1,.i e.2]:=zl (f:=λe:Int×Int=>[LV.i e.1,.i e.2]) (λ_=>rfl) h
def ev_lt{l:List (Int×Int)}{i:Nat}(h:i<l.length):i*2+2≤(T9 l).length:=zrd (f:=λe:Int×Int=>[LV.i e.1,.i e.2]) (λ_=>rfl) h
def zxw(l:List (Int×Int))(H:l.length≤9000000000000000000):Mu 64 [.lst (T9 l) l.length 2,.lst (T9 l) l.length 2] (.bool true) []:=by
 refine Ng.val rfl (Mz r_kit_Same_api_LimbEvent Aa (by simp) ?_);simp[z4s];refine Oc (λB G I N=>∃i:Nat,G=[]∧N+i=l.length∧lk B 0=.lst (T9 l) l.length 2∧lk B 1=.lst (T9 l) l.length 2∧lk B 5=.i i) (N:=l.length) ⟨0,by simp⟩ ?_;rintro N B G I ⟨i,rfl,K,g,j,z⟩ L A;by_cases C:i<l.length
 ·have D:=Ht C;have E:=ev_two D;have F:=ev_lt C;simp[g,j,z,C,E,F];refine⟨_,rfl,rfl,evEq2 _ _,?_⟩;simp[z];exact⟨J,A _ _ _ ⟨N-1,J,i+1,rfl,J,At,Af,by simp⟩⟩
 ·simp[g,j,z,C]
def z52:LC:=(.q [.x 7 1,.F 12] (.q [.m 30 0,.m 31 3,.W 32 19 30 31,.z 13 (.alloc [.nilSl,.nilSl,(.i 0),(.i 0),(.i 0),(.i 0),(.i 0),(.i 0)]),.S 8 13 32] (.q [.L 33 8 13,.m 34 2,.m 35 4,.V 36 24 33 34 35,.z 14 (.alloc [(.i 0),.nilSl,.nilSl]),.S 3 14 36] (.q [.L 38 3 14,.w 39 25 38,.m 37 39,.X 40 0 37,.X 41 1 37,.m 15 40,.m 16 41] (.seq (.q [.m 42 16,.b 43 .neq 35 42 0,.m 44 43,.mn 45 44 2,.mn 46 44 4,.mn 47 44 0,.n 48 44 (.loadN 7 (.t 7)),.n 49 44 (.w 61 [.t 47,.t 48]),.n 50 44 (.w 60 [.t 45,.t 46,.t 49]),.n 51 44 (.un .not (.t 50)),.p 52 44 51] (.cond (.t 52) (.q [.F 12] .ret) .skip)) (.q [.L 53 8 13,.m 54 5,.W 55 62 53 54,.m 17 55] (.seq (.q [.f 56 5 7,.l 57 56,.b 58 .geq 3 57 0,.m 59 58,.my 60 59 5,.y 61 59 (.lenSl (.t 60)),.y 62 59 (.bin .gtr true 3 (.t 61) (.k 0)),.q 63 59 62] (.cond (.t 63) (.draw [(.m 64 17,[]),(.f 65 5 7,[]),(.l 66 65,[]),(.I 67 1 64 66,[]),(.l 68 67,[]),(.m 69 17,[]),(.f 70 5 7,[]),(.l 71 70,[]),(.I 72 1 69 71,[]),(.l 73 72,[]),(.z 74 (.ixAddr 1 (.t 73) (.k 0)),[]),(.l 75 74,[]),(.m 76 5,[]),(.z 77 (.ixAddr 1 (.t 76) (.k 0)),[]),(.l 78 77,[]),(.u 79 .and 23 78 1,[]),(.c 80 .or 23 75 79,[]),(.z 81 (.ixAddr 1 (.t 68) (.k 0)),[]),(.S 1 81 80,[])]) .skip)) (.seq (.q [.K 18 0] (.block 0 (.loop (.seq (.q [.m 82 18,.b 83 .lss 3 82 2,.m 84 83,.my 85 84 5,.y 86 84 (.lenSl (.t 85)),.y 87 84 (.bin .gtr true 3 (.t 86) (.k 1)),.q 88 84 87,.m 89 88,.my 90 89 5,.y 91 89 (.ixAddr 1 (.t 90) (.k 1)),.yl 92 89 91,.y 93 89 (.bin .rem true 23 (.t 92) (.c (.u 2))),.y 94 89 (.bin .eql true 23 (.t 93) (.c (.u 0))),.q 95 89 94] (.cond (.t 95) .skip (.exit 0))) (.seq (.block 1 (.ops [.m 98 0,.L 99 7 7,.m 100 17,.V 101 63 98 99 100])) (.ops [.m 96 18,.b 97 .add 3 96 1,.m 18 97])))))) (.q [.L 103 3 14,.m 104 17,.W 105 29 103 104,.m 102 105,.X 106 0 102,.X 107 1 102,.X 108 2 102,.m 19 106,.m 20 107,.m 21 108] (.seq (.draw [(.L 110 3 14,[]),(.L 111 8 13,[]),(.z 112 (.w 62 [.t 111,(.c .nilSl)]),[(.L 110 3 14,false)]),(.W 113 29 110 112,[]),(.m 109 113,[]),(.X 114 0 109,[]),(.X 115 1 109,[]),(.X 116 2 109,[]),(.m 22 114,[]),(.m 23 115,[]),(.m 24 116,[])]) (.seq (.q [.m 117 21,.b 118 .neq 35 117 0,.m 119 118,.mn 120 119 24,.nb 121 119 .neq 35 120 0,.p 122 119 121,.m 123 122,.mn 124 123 22,.n 125 123 (.lenSl (.t 124)),.mn 126 123 19,.n 127 123 (.lenSl (.t 126)),.n 128 123 (.bin .neq false 3 (.t 125) (.t 127)),.p 129 123 128,.m 130 129,.mn 131 130 20,.mn 132 130 23,.n 133 130 (.w 64 [.t 131,.t 132]),.n 134 130 (.un .not (.t 133)),.p 135 130 134] (.cond (.t 135) (.q [.F 12] .ret) .skip)) (.q [.m 137 0,.L 138 7 7,.m 139 17,.V 140 65 137 138 139,.m 136 140,.X 141 0 136,.X 142 1 136,.X 143 2 136,.m 25 141,.m 26 142,.m 27 143] (.q [.K 28 1] (.seq (.q [.m 144 0,.L 145 7 7,.W 146 61 144 145] (.cond (.t 146) (.ops [.K 28 0]) .skip)) (.seq (.q [.K 29 0] (.block 2 (.loop (.seq (.q [.m 147 29,.m 148 19,.s 149 148,.c 150 .lss 3 147 149] (.cond (.t 150) .skip (.exit 2))) (.seq (.block 3 (.block 4 (.q [.m 154 29,.f 155 1 7,.l 156 155,.c 157 .eql 3 154 156,.m 153 157] (.cond (.t 153) (.q [.m 158 27,.m 159 158,.my 160 159 19,.my 161 159 29,.y 162 159 (.ixAddr 1 (.t 160) (.t 161)),.yl 163 159 162,.my 164 159 25,.y 165 159 (.w 66 [.t 163,.t 164]),.y 166 159 (.bin .neq true 3 (.t 165) (.k 0)),.q 167 159 166] (.cond (.t 167) (.q [.F 12] .ret) .skip)) (.q [.m 169 29,.f 170 2 7,.l 171 170,.c 172 .eql 3 169 171,.m 168 172] (.cond (.t 168) (.q [.m 173 27,.m 174 173,.my 175 174 19,.my 176 174 29,.y 177 174 (.ixAddr 1 (.t 175) (.t 176)),.yl 178 174 177,.my 179 174 26,.y 180 174 (.w 66 [.t 178,.t 179]),.y 181 174 (.bin .neq true 3 (.t 180) (.k 0)),.q 182 174 181] (.cond (.t 182) (.q [.F 12] .ret) .skip)) (.q [.m 184 29,.m 185 0,.s 186 185,.m 187 28,.c 188 .add 3 186 187,.c 189 .eql 3 184 188,.m 183 189] (.cond (.t 183) .skip (.seq (.draw [(.m 191 19,[]),(.m 192 29,[]),(.I 193 1 191 192,[]),(.l 194 193,[]),(.m 195 17,[]),(.m 196 29,[]),(.I 197 1 195 196,[]),(.l 198 197,[]),(.W 199 53 194 198,[]),(.z 200 (.un .not (.t 199)),[]),(.m 190 200,[])]) (.cond (.t 190) (.q [.F 12] .ret) .skip)))))))))) (.ops [.m 151 29,.b 152 .add 3 151 1,.m 29 152])))))) (.q [.z 12 (.move .T)] .ret))))))))))))))))
def r_law23_right:My Tryz.prog 20=some ⟨201,z52.r,[.tmp 12]⟩:=Aa
def js(l:List (Int×Int)):dats (T9 l)=true:=s9 (f:=λe:Int×Int=>[LV.i e.1,.i e.2]) (λ_=>rfl) l
def zuj{vs:List Vr}{o:Ko}{d a b c:Nat}(h:MtV vs o d a b c):1≤M4 vs o∧M4 vs o≤32768:=by
 have g:=V3 h.hv h.fd.2;have hw:=z76 h;omega
def zu2{vs:List Vr}{o:Ko}{d a b c:Nat}(h:MtV vs o d a b c){i:Nat}(hi:i<vs.length+2):(M7 (Nt vs (M4 vs o)) i).size≤1000:=by
 have hd:=V3 h.hv h.fd.2;have hw:=z76 h;by_cases q:i<vs.length
 ·rw[U3 q];have:=V3 h.hv q;show (gv vs i).limbs≤1000;omega
 ·have e:i=vs.length∨i=vs.length+1:=J
  rcases e with rfl|rfl
  ·rw[plB_w0];simp only;omega
  ·rw[plB_w1];simp only;omega
def mb{vs:List Vr}{o:Ko}{d a b c:Nat}{X:List (List UInt64)}(h:MtV vs o d a b c)(T:X.length=vs.length+2)(C:∀i,i<vs.length+2→((X.getD i []).length:Int)=(M7 (Nt vs (M4 vs o)) i).size)
  (O:(X.getD c []).getD 0 0%2=1→val (X.getD a [])<val (X.getD c [])→val U<val (X.getD c [])∧val U=val (U9 (M5 (val (X.getD a [])*val (X.getD b []))) (X.getD c []) (gv vs d).limbs)) (hm:Uy o ((X.take vs.length).map val)=true):val U=val (mtL vs o X):=by
 obtain⟨L,P⟩:=h.fa;obtain⟨Q,V⟩:=h.fb;obtain⟨j,D⟩:=h.fc;obtain⟨R,Y⟩:=h.fd;have E:∀i,i<vs.length→gN ((X.take vs.length).map val) (i:Int)=val (X.getD i []):=λi hi=>by
  unfold gN;rw[Hs J,If,Hn,Jj,Jc hi,Hn,Ht J];rfl
 have F:=hm;unfold Uy V6 at hm;rw[h.hk,L,j]at hm;simp[V8]at hm;obtain⟨⟨_,z⟩,⟨_,_,A⟩,_⟩:=hm;rw[←Lf,E c D]at z;rw[←Lf,E a P,E c D]at A;have B:(X.getD c []).getD 0 0%2=1:=by
  have h:=zn3 (X.getD c []);have M:Qh (X.getD c [])=true:=by
   rw[h,Nat.testBit_zero];exact I7 z
  unfold Qh at M;exact J4 M
 obtain⟨G,hv⟩:=O B A;have g:=C c J;rw[U3 D]at g;have g:((X.getD c []).length:Int)=(gv vs c).limbs:=g;have H:O5 vs o.d=(gv vs d).limbs:=by rw[O5,R];rfl
 have I:O5 vs o.c=(gv vs d).limbs:=by rw[O5,j,←h.lc];rfl
 have K:=Zt (a:=X.getD c []) (n:=(gv vs d).limbs.toNat) (by rw[←h.lc];omega);unfold mtL;rw[Hv F,L,Q,j,H,←j,I,j];simp only[If];rw[Q1,←hv,sm,In (Nat.lt_trans G K)]
def zqi{vs:List Vr}{o:Ko}{d a b c deep:Nat}(h:MtV vs o d a b c)(hd:deep≤4)(j:(P5 ((64:Nat):Int) (Nt vs (M4 vs o)) (R7 vs d a b c deep).flat).2=0) :
  Od 25 [.agg (Mv ((64:Nat):Int) (Nt vs (M4 vs o)) (R7 vs d a b c deep).flat)] (.tup [.i (R7 vs d a b c deep).flat.length,.i 0]):=by
 have g:=allH_flat (Yh h hd);have A:=cfM_ok (vs:=vs) (d:=d) (a:=a) (b:=b) (c:=c);have hw:=zue (vs:=vs) (W:=M4 vs o) (d:=d);cases B:(gv vs d).sec with
 |true =>
  have D:∀n,(Xe vs d a b c).S n→(M7 (Nt vs (M4 vs o)) n).sec=true:=λn C=>by
   rcases C with rfl|rfl
   ·rw[U3 h.fd.2];exact B
   ·rw[hw];exact B
  exact zcc j (λx z=>(g x z).closedS A ((z70 j).2.2.2.2.2 x z)) (λx z=>(g x z).safeS A D)
 |false =>
  obtain⟨E,F,G⟩:=h.sec B;have H:∀n,(Xe vs d a b c).L n→(M7 (Nt vs (M4 vs o)) n).sec=false:=λn C=>by
   rcases C with rfl|rfl|rfl|rfl|rfl
   ·rw[U3 h.fd.2];exact B
   ·rw[U3 h.fa.2];exact E
   ·rw[U3 h.fb.2];exact F
   ·rw[U3 h.fc.2];exact G
   ·rw[hw];exact B
  exact zcc j (λx z=>(g x z).closedP H) (λx _=>safeP)
def jl{vs:List Vr}{o:Ko}{d a b c:Nat}{deep:Nat}(h:MtV vs o d a b c)(hd:deep≤4):∀x∈(am vs d a b c deep).flat,(∀r∈[x.d,x.e,x.a,x.b,x.c],S1 deep (!(gv vs d).sec) r)∧((0≤x.d∧x.d<8)↔x.kind=16):=by
 refine qm (zzh (lo:=(deep:Int)) h (Int.le_refl _) hd) J rfl rfl (by simp[Xe]) ?_;simp only[Xe];cases (gv vs d).sec<;>simp
set_option maxHeartbeats 2000000 in
def zkd{vs:List Vr}{o:Ko}{d a b c deep:Nat}{fill:List UInt64}(h:MtV vs o d a b c)(hn:vs.length≤30)(jZ:(gv vs d).limbs≤6)(hd:deep≤4)(zY:fill.length≤40) :
  Mu 20 [.lst (Nd vs) vs.length 3,.agg o.f,.lst (P1 (am vs d a b c deep).flat) (am vs d a b c deep).flat.length 8,.i (M4 vs o),.i deep,LU fill] (.bool true) []:=by
 refine Ng.val rfl (zuy r_law23_right Aa (by simp) ?_);have Y:o.f=[.i o.kind,.i o.d,.i o.e,.i o.a,.i o.b,.i o.c,.u o.imm]:=rfl;have j4:=zuj h;have K:(Nt vs (M4 vs o)).length=vs.length+2:=plB_len;have j5:=X0 (vs:=vs) (d:=d) (a:=a) (b:=b) (c:=c) (e:=deep);have gV:Od 19 [.lst (Nd vs) vs.length 3,.i (M4 vs o)] (.agg (Pk (Nt vs (M4 vs o)) (Rk vs) ⟨vs.length,0,M4 vs o⟩ ⟨(vs.length:Int)+1,0,M4 vs o⟩)):=zg4 vs (M4 vs o) J;have gY:Pk (Nt vs (M4 vs o)) (Rk vs) ⟨vs.length,0,M4 vs o⟩ ⟨(vs.length:Int)+1,0,M4 vs o⟩=[.lst (O8 (Nt vs (M4 vs o))) (Nt vs (M4 vs o)).length 3,.lst (Vk (Rk vs)) (Rk vs).length 3,.i vs.length,.i 0,.i (M4 vs o),.i ((vs.length:Int)+1),.i 0,.i (M4 vs o)]:=rfl;have jH:(R7 vs d a b c deep).flat=Pb deep 0++((am vs d a b c deep).flat++List.replicate deep Se):=zzo vs d a b c deep;have gF:Mv ((64:Nat):Int) (Nt vs (M4 vs o)) (R7 vs d a b c deep).flat=[.i 64,.lst (O8 (Nt vs (M4 vs o))) (Nt vs (M4 vs o)).length 3,.lst (P1 (R7 vs d a b c deep).flat) (R7 vs d a b c deep).flat.length 8]:=rfl;have gP:=zro (W:=M4 vs o) h.hv j4;refine Yi (Φ:=λQ jE O=>∃(X:List (List UInt64)) (p j st q sq:Nat),X.length=vs.length+2∧(∀i,i<vs.length+2→((X.getD i []).length:Int)=(M7 (Nt vs (M4 vs o)) i).size)∧jE=[]∧lk Q 0=.lst (Nd vs) vs.length 3∧lk Q 5=LU fill∧lk Q 7=.ptr 0 0∧lk Q 13=.ptr 1 0∧lk Q 14=.ptr 2 0∧lk Q 17=.dy p j∧3≤p∧3≤q∧p≠q∧3≤O.length ∧
   O[0]?=some (.cells o.f 0)∧O[1]?=some (.cells (Pk (Nt vs (M4 vs o)) (Rk vs) ⟨vs.length,0,M4 vs o⟩ ⟨(vs.length:Int)+1,0,M4 vs o⟩) 1)∧O[2]?=some (.cells (Mv ((64:Nat):Int) (Nt vs (M4 vs o)) (R7 vs d a b c deep).flat) 1)∧O[p]?=some (.dyn ((X.map LU).set c (.dy q 0)) X.length 1 j st)∧O[q]?=some (.dyn ((X.getD c []).map .u) (X.getD c []).length 1 0 sq)) 6 _ rfl (λNX gC=>?_) (λQ jE O hΦ=>?_)
 ·simp[z52,Wl,Y];rw[←Y];refine Q5 gV A3 ?_;simp[gY];have jI:=zgc (bs:=Nt vs (M4 vs o)) (P:=.lst (Vk (Rk vs)) (Rk vs).length 3) (W:=[.i vs.length,.i 0,.i (M4 vs o),.i ((vs.length:Int)+1),.i 0,.i (M4 vs o)]) (L:=(am vs d a b c deep).flat) (deep:=deep) J J ⟨_,_,_,_,_,_,rfl⟩;rw[←jH]at jI;refine Q5 jI (by simp[dats,LV.dat,Sz,S0,zei]) ?_;rw[gF];simp;have zT:(R7 vs d a b c deep).flat.length≤65536:=by
   have h2:(Pb deep 0).length=deep:=lpsL_len' deep 0;rw[jH];simp[h2];omega
  have j6:=zzk h hn hd;have hC:Od 25 [.agg (Mv ((64:Nat):Int) (Nt vs (M4 vs o)) (R7 vs d a b c deep).flat)] (.tup [.i (R7 vs d a b c deep).flat.length,.i 0]):=zqi h hd j6;rw[gF]at hC;refine Q5 hC (by simp[dats,LV.dat,Sz,S0]) ?_;simp[Y];rw[←Y];refine M2 (zap vs o) (bors_self _ (by simp[dats,LV.dat,Qo,Y])) ?_;rw[Yj h];simp;refine M2 (zek (am vs d a b c deep).flat deep (!(gv vs d).sec) J J (jl h hd)) (bors_self _ (by simp[dats,LV.dat,Sz])) ?_;simp[LU];refine ik c (by rw[K];have:=h.fc.2;omega) (λx hx=>by have:=gP x hx;omega) (by rw[K];omega) J (λX p j st q sq O hX A H hp hq gG M V=>?_);rw[K]at hX A;simp at hp hq H;have z:=H 0 J;have gD:=H 1 J;have gE:=H 2 J;simp at z gD gE;have j7:=(Hm.1 V).1;have j8:((X.getD c []).length:Int)=(gv vs c).limbs:=by
   have:=A c Es;rw[U3 h.fc.2]at this;exact this
  have zZ:=V3 h.hv h.fc.2;have I:c<X.length:=Es
  have jK:((X.map LU).set c (.dy q 0))[c]?=some (.dy q 0):=Hu Cr;have gQ:=z;rw[Y,h.fc.1]at z;by_cases gZ:fill=[]
  ·subst gZ;simp[z];exact gC _ _ _ ⟨X,p,j,st,q,sq,hX,A,rfl,by simp,by simp[LU],by simp,by simp,by simp,by simp,hp,hq,gG,J,gQ,gD,gE,M,V⟩
  have j9:0<fill.length:=K9.2 gZ;have Ag:¬fill.length=0:=J
  have xc:X[c]=X.getD c []:=by simp[Hn,I]
  have jL:X[c]?.getD []=X.getD c []:=by simp[Hn]
  obtain⟨zU,hC⟩:∃zU,X.getD c []=zU:=⟨_,rfl⟩;rw[hC]at V j8 xc jL;have j5:1≤zU.length:=J
  simp[z,M,V,j9,gZ,I,Mr jK,xc,jL];refine⟨J,J,gC _ _ _ ⟨X.set c (Yp (zU[0]?.getD 0) (Qx fill[0] 1)::zU.tail),p,j,st,q,sq+1,by simp[hX],λi hi=>?_,rfl,by simp,by simp[LU],by simp,by simp,by simp,by simp,hp,hq,gG,Ab,?_,?_,?_,?_,?_⟩⟩
  ·rw[Vo _ _ _ _ _ I];by_cases e:i=c
   ·rw[Hv e,e,U3 h.fc.2];show _=(gv vs c).limbs;rw[Ig,List.length_tail];omega
   ·rw[Hs e];exact A i hi
  ·rw[Ho J];exact gQ
  ·rw[Ho J];exact gD
  ·rw[Ho J];exact gE
  ·rw[Ho J,M];simp[I3]
  ·rw[Hu j7,Vo _ _ _ _ _ I,Hv rfl];simp;omega
 obtain⟨X,p,j,st,q,sq,hX,A,rfl,D,h5,E,B,C,g,hp,hq,gG,g8,z,gD,gE,M,V⟩:=hΦ;have lp:=(Hm.1 M).1;have lq:=(Hm.1 V).1;have I:c<X.length:=Es
 have jM:(X.map LU).take c++LU (X.getD c [])::(X.map LU).drop (c+1)=X.map LU:=by
  have:=Io (l:=X.map LU) (i:=c) (a:=LU (X.getD c []));rw[Hv Cr]at this;rw[←this];refine Ln λjY=>?_
  rw[Lm];by_cases e:c=jY
  ·subst e;rw[Hv rfl,Hv Cr,zi9 I]
  ·rw[Hs e]
 refine W_fzD (a:=(X.map LU).take c) (b:=(X.map LU).drop (c+1)) (p:=q) (q:=p) V (by rw[M,Io,Hv Cr]) (Ne.symm gG) ?_;have k0:((O.set q (.dead (sq+1))).set p (.dyn ((X.map LU).take c++LU (X.getD c [])::(X.map LU).drop (c+1)) X.length 1 j (st+1)))[0]?=_:=(Ho J).trans ((Ho J).trans z);have k1:((O.set q (.dead (sq+1))).set p (.dyn ((X.map LU).take c++LU (X.getD c [])::(X.map LU).drop (c+1)) X.length 1 j (st+1)))[1]?=_:=(Ho J).trans ((Ho J).trans gD);have k2:((O.set q (.dead (sq+1))).set p (.dyn ((X.map LU).take c++LU (X.getD c [])::(X.map LU).drop (c+1)) X.length 1 j (st+1)))[2]?=_:=(Ho J).trans ((Ho J).trans gE);have kp:((O.set q (.dead (sq+1))).set p (.dyn ((X.map LU).take c++LU (X.getD c [])::(X.map LU).drop (c+1)) X.length 1 j (st+1)))[p]?=some (.dyn (X.map LU) X.length 1 j (st+1)):=by
  rw[Hu (by simpa using lp),jM]
 have kl:3≤((O.set q (.dead (sq+1))).set p (.dyn ((X.map LU).take c++LU (X.getD c [])::(X.map LU).drop (c+1)) X.length 1 j (st+1))).length:=by simpa using g8
 have gR:LV.lst ((X.getD c []).map .u) (X.getD c []).length 1=LU (X.getD c []):=rfl;rw[gR];generalize (O.set q (.dead (sq+1))).set p (.dyn ((X.map LU).take c++LU (X.getD c [])::(X.map LU).drop (c+1)) X.length 1 j (st+1))=O at *;clear M V jM z gD gE g8 lp lq gR;generalize st+1=st at *;refine Yi (Φ:=λQ jE O=>∃(X:List (List UInt64)) (st:Nat),X.length=vs.length+2∧(∀i,i<vs.length+2→((X.getD i []).length:Int)=(M7 (Nt vs (M4 vs o)) i).size)∧jE=[]∧lk Q 0=.lst (Nd vs) vs.length 3∧lk Q 7=.ptr 0 0∧lk Q 13=.ptr 1 0∧lk Q 14=.ptr 2 0∧lk Q 17=.dy p j∧3≤O.length ∧
   O[0]?=some (.cells o.f 0)∧O[1]?=some (.cells (Pk (Nt vs (M4 vs o)) (Rk vs) ⟨vs.length,0,M4 vs o⟩ ⟨(vs.length:Int)+1,0,M4 vs o⟩) 1)∧O[2]?=some (.cells (Mv ((64:Nat):Int) (Nt vs (M4 vs o)) (R7 vs d a b c deep).flat) 1)∧O[p]?=some (.dyn (X.map LU) X.length 1 j st)) 0 _ rfl (λNX gC=>?_) (λQ jE O hΦ=>?_)
 ·simp[z52,Wl,D,h5,E,B,C,g];refine Oc (λQ jE O N=>∃(i:Nat) (X:List (List UInt64)) (st:Nat),N+i=2∧X.length=vs.length+2∧(∀i,i<vs.length+2→((X.getD i []).length:Int)=(M7 (Nt vs (M4 vs o)) i).size)∧jE=[]∧lk Q 0=.lst (Nd vs) vs.length 3∧lk Q 5=LU fill∧lk Q 7=.ptr 0 0∧lk Q 13=.ptr 1 0∧lk Q 14=.ptr 2 0∧lk Q 17=.dy p j∧lk Q 18=.i i∧3≤O.length ∧
   O[0]?=some (.cells o.f 0)∧O[1]?=some (.cells (Pk (Nt vs (M4 vs o)) (Rk vs) ⟨vs.length,0,M4 vs o⟩ ⟨(vs.length:Int)+1,0,M4 vs o⟩) 1)∧O[2]?=some (.cells (Mv ((64:Nat):Int) (Nt vs (M4 vs o)) (R7 vs d a b c deep).flat) 1)∧O[p]?=some (.dyn (X.map LU) X.length 1 j st)) (N:=2)
   ⟨0,X,st,rfl,hX,A,rfl,Ak,by simp[h5],Ai,Ao,Al,At,by simp,kl,k0,k1,k2,kp⟩ ?_
  clear I hX A D h5 E B C g kl k0 k1 k2 kp;rintro N Q jE O ⟨i,X,st,hN,hX,A,rfl,D,h5,E,B,C,g,gL,kl,k0,k1,k2,kp⟩ Nx g9;have Aj:((i:Int)<2)↔i<2:=J
  have step:i<2→(1:Int)<fill.length→Ol (.fn 63) [.lst (Nd vs) vs.length 3,.agg o.f,.dy p j] O λv G'=>∀G,lk G 0=.lst (Nd vs) vs.length 3→lk G 5=LU fill→lk G 7=.ptr 0 0→lk G 13=.ptr 1 0→lk G 14=.ptr 2 0→lk G 17=.dy p j→lk G 18=.i ((i:Int)+1)→Nx G [] G':=λhi _=>by
   refine zgf (vs:=vs) (o:=o) (X:=X) (a:=a) (b:=b) (c:=c) J h.fa.1 h.fb.1 h.fc.1 h.fa.2 h.fb.2 h.fc.2 (by rw[h.hk];decide) (h.la.trans h.lc.symm) (.inr (h.lb.trans h.lc.symm)) ⟨(V3 h.hv h.fc.2).1,by rw[h.lc];omega⟩ (λjY hj=>?_) kp (λzg zj G' hY jg M H g8 G e0 e5 e7 jz jA gH zz=>?_)
   ·have:=A jY J;rw[U3 hj]at this;exact this
   ·exact g9 _ _ _ ⟨N-1,J,i+1,zg,zj,J,J,λjY hj=>by rw[jg];exact A jY hj,rfl,e0,e5,e7,jz,jA,gH,by rw[zz];simp,J,(H 0 J J).trans k0,(H 1 J J).trans k1,(H 2 J J).trans k2,by rw[M,hY]⟩
  have done:∀G,lk G 0=.lst (Nd vs) vs.length 3→lk G 7=.ptr 0 0→lk G 13=.ptr 1 0→lk G 14=.ptr 2 0→lk G 17=.dy p j→NX G [] O:=λG e0 e7 jz jA gH=>gC _ _ _ ⟨X,st,hX,A,rfl,e0,e7,jz,jA,gH,kl,k0,k1,k2,kp⟩
  by_cases jF:i<2
  ·have g':(i:Int)<2:=J
   by_cases g2:1<fill.length
   ·have gM:(1:Int)<fill.length:=J
    simp[D,h5,E,B,C,g,gL,jF,g',g2,gM,LU,k0,Y];rw[←Y];refine⟨λ_=>((step jF gM).mono λv G' hk=>?_),λ_=>?_⟩
    ·simp[gL];exact⟨J,hk _ Ak (by simp[h5,LU]) Ai Ao Al At (by simp)⟩
    ·exact done _ Ak Ai Ao Al At
   ·have gM:¬(1:Int)<fill.length:=J
    simp[D,h5,E,B,C,g,gL,jF,g',g2,gM,LU];exact done _ Ak Ai Ao Al At
  ·have g':¬(i:Int)<2:=J
   simp[D,h5,E,B,C,g,gL,jF,g'];exact done _ Ak Ai Ao Al At
 clear I hX A D h5 E B C g kl k0 k1 k2 kp hq gG;obtain⟨X,st,hX,A,rfl,D,E,B,C,g,kl,k0,k1,k2,kp⟩:=hΦ;refine W_fz (t:=17) kp g ?_;have n0:(O.set p (.dead (st+1)))[0]?=_:=(Ho J).trans k0;have n1:(O.set p (.dead (st+1)))[1]?=_:=(Ho J).trans k1;have n2:(O.set p (.dead (st+1)))[2]?=_:=(Ho J).trans k2;have nl:3≤(O.set p (.dead (st+1))).length:=by simpa using kl
 generalize O.set p (.dead (st+1))=O at *;clear k0 k1 k2 kp kl g;have zA:Xl (Nt vs (M4 vs o)) X:=⟨by rw[K];exact hX,λi hi=>A i J⟩;obtain⟨sX,r1,rl,r2,r3,r4,rX,rY⟩:=fu h hn jZ hd zA;have jB:LN X=.lst (X.map LU) X.length 1:=rfl;have gz:dats [LN X]=true:=B1
 rw[gF,jB]at rX;rw[jB]at gz;simp only[dats,Bool.and_true]at gz;refine Yi (Φ:=λQ jE O=>jE=[]∧lk Q 0=.lst (Nd vs) vs.length 3∧lk Q 7=.ptr 0 0∧lk Q 17=LN X∧lk Q 19=LN sX.bufs∧O[0]?=some (.cells o.f 0)) 2 _ rfl (λNX gC=>?_) (λQ jE O hΦ=>?_)
 ·rw[gF]at n2;simp[z52,Wl,D,E,B,C,n0,n1,n2];refine Q5 rX (by simp[dats,LV.dat,Sz,S0,gz]) ?_;simp[B,C,n1,n2,gY];refine zlf (args':=[.agg [.lst (O8 (Nt vs (M4 vs o))) (Nt vs (M4 vs o)).length 3,.lst (Vk (Rk vs)) (Rk vs).length 3,.i vs.length,.i 0,.i (M4 vs o),.i ((vs.length:Int)+1),.i 0,.i (M4 vs o)],.lst (([]:List UInt64).map .u) ([]:List UInt64).length 1]) (λc r ha=>?_) ?_
  ·cases ha with
   |cons e1 es=>cases es with
    |cons e2 es=>exact .cons e1 (.cons (qh e2) es)
  refine cq (fill:=[]) (λx hx=>by have:=gP x hx;omega) (by rw[K];omega) (by simp) (λzg p2 zV jO G2 hY jg H Az zX _ M=>?_) (by intro e;rw[e]at K;simp at K);have m0:=(H 0 J).trans n0;have m1:=(H 1 J).trans n1;have m2:=(H 2 J).trans n2;simp[B,C,n1,n2,m1,m2,gY];obtain⟨sY,y1,y2,jP⟩:=rY zg ⟨hY,jg⟩;have jQ:LN zg=.lst (zg.map LU) zg.length 1:=rfl;have gI:dats [LN zg]=true:=B1
  rw[gF,jQ,←y2]at jP;rw[jQ]at gI;simp only[dats,Bool.and_true]at gI;refine ztq (a:=[.agg [.i 64,.lst (O8 (Nt vs (M4 vs o))) (Nt vs (M4 vs o)).length 3,.lst (P1 (R7 vs d a b c deep).flat) (R7 vs d a b c deep).flat.length 8]]) (b:=[]) M ?_;refine Q5 jP (by simp[dats,LV.dat,Sz,S0,gI]) ?_;have zB:p2≠0:=J
  have j0:(G2.set p2 (.dead (jO+1)))[0]?=_:=(Ho zB).trans m0;generalize G2.set p2 (.dead (jO+1))=G3 at *;simp[r1,y1];refine M2 (zxw sX.l J) (bors_self _ (by simp[dats,LV.dat,js])) ?_;simp;exact gC _ _ _ ⟨rfl,Ak,Ai,by simp[LN],by simp[LN,r1],j0⟩
 clear D E B C n0 n1 n2 nl;obtain⟨rfl,D,E,g,F,z⟩:=hΦ;have hM:=zka (X:=X) h.hk h.hv h.ho J (λx hx=>by
  obtain⟨jY,hj,rfl⟩:=List.getElem_of_mem hx;have e1:=A jY J;have e2:=zu2 h (i:=jY) J;rw[Hn,Ht hj]at e1;simp only[Jg]at e1;omega)
 rw[jB]at hM g;refine Ru _ ?_;simp[z52,Wl,D,E,g,F,z,Y];rw[←Y];refine Q5 hM (by simp[dats,LV.dat,Qo,Y,gz]) ?_;simp[D,E,z,Y];rw[←Y];refine M2 (zap vs o) (bors_self _ (by simp[dats,LV.dat,Qo,Y])) ?_;rw[Yj h];have jR:(Oy vs d:Int)-vs.length=if (gv vs d).sec=true then 1 else 0:=by
  unfold Oy;split<;>omega
 have zC:=mb h hX A r4;generalize zD:Uy o ((X.take vs.length).map val)=gO at *;have jT:Uy o (List.take vs.length (List.map val X))=gO:=by rw[←Lf];exact zD
 generalize zE:mtL vs o X=dv at *;have zG:dv.length≤1000000:=by
  have AA:=V3 h.hv h.fd.2;have zH:O5 vs o.d=(gv vs d).limbs:=by rw[O5,h.fd.1];rfl
  rw[←zE];unfold mtL;split
  ·have hb:=(Ix (val (U9 (M5 (val (X.getD o.a.toNat [])*val (X.getD o.b.toNat []))) (X.getD o.c.toNat []) (O5 vs o.c))) (show 0<2^(64*(gv vs d).limbs.toNat) from Nat.two_pow_pos _));have:=ai hb;rw[zH,sm];omega
  ·simp
 cases hs:(gv vs d).sec
 all_goals
  simp[hs]at jR;simp[F];refine Oc (λQ jE O N=>∃i:Nat,jE=[]∧N+i=vs.length+2∧lk Q 0=.lst (Nd vs) vs.length 3∧lk Q 7=.ptr 0 0∧lk Q 17=.lst (X.map LU) X.length 1∧lk Q 19=.lst (sX.bufs.map LU) (vs.length+2) 1∧lk Q 25=LU dv∧lk Q 27=.bool gO∧lk Q 28=.i ((Oy vs d:Int)-vs.length)∧lk Q 29=.i i∧O[0]?=some (.cells o.f 0)) (N:=vs.length+2)
   ⟨0,rfl,J,Ak,Ai,At,by simp[F,LN,r1],by simp[LU],by simp[jT],by simp[jR],by simp,z⟩ ?_
  clear D E g F z;rintro N Q jE O ⟨i,rfl,hN,D,E,g,F,R,T,U,Z,z⟩ Nx g9;have nx:i<vs.length+2→∀G:Mq,lk G 0=.lst (Nd vs) vs.length 3→lk G 7=.ptr 0 0→lk G 17=.lst (X.map LU) X.length 1→lk G 19=.lst (sX.bufs.map LU) (vs.length+2) 1→lk G 25=LU dv→lk G 27=.bool gO→lk G 28=.i ((Oy vs d:Int)-vs.length)→lk G 29=.i ((i:Int)+1)→Nx G [] O :=
   λhi G e0 e7 gH zI zK zL zM zO=>g9 _ _ _ ⟨N-1,J,i+1,rfl,J,e0,e7,gH,zI,zK,zL,zM,by rw[zO];simp,z⟩
  rw[Y,h.fd.1,h.e]at z;by_cases jF:i<vs.length+2
  ·have g':(i:Int)<(vs.length:Int)+2:=J
   have gX:i<X.length:=J
   have gB:i<sX.bufs.length:=J
   have jU:=zi9 gX;have jC:=zi9 gB;have gA:=nx jF;have jV:¬(i:Int)=-1:=J
   by_cases jX:i=d
   ·subst jX;cases gO with
    |false =>
     simp[D,E,g,F,R,T,U,Z,jF,g',z];exact⟨J,gA _ Ak Ai At Am Bd Bc Bm (by simp)⟩
    |true =>
     have gT:=zC rfl;obtain⟨jG,hO⟩:∃jG,sX.bufs.getD i []=jG:=⟨_,rfl⟩;have jD:sX.bufs[i]?.getD []=jG:=by rw[←Hn];exact hO
     rw[hO]at gT r3;simp[D,E,g,F,R,T,U,Z,jF,g',z,Mr jC,LU,jD];refine⟨J,?_⟩;refine M2 (z20 jG dv J zG) (by simp) ?_;rw[gT,zz6];simp[Z];exact⟨J,gA _ Ak Ai At Am Bd Bc Bm (by simp)⟩
   ·have gU:¬(i:Int)=(d:Int):=J
    by_cases zP:i=Oy vs d
    ·have gK:(i:Int)=(vs.length:Int)+((Oy vs d:Int)-vs.length):=J
     simp[D,E,g,F,R,T,U,Z,jF,g',z,gU,jV,←gK];exact⟨J,J,gA _ Ak Ai At Am Bd Bc Bm (by simp)⟩
    ·have gK:¬(i:Int)=(vs.length:Int)+((Oy vs d:Int)-vs.length):=J
     have gg:=r2 i jF jX zP;obtain⟨jG,hO⟩:∃jG,X.getD i []=jG:=⟨_,rfl⟩;rw[hO]at gg jU;rw[gg]at jC;have jD:sX.bufs[i]?.getD []=jG:=by rw[←Hn];exact gg
     have zQ:X[i]?.getD []=jG:=by rw[←Hn];exact hO
     have zR:jG.length≤1000000000:=by
      have:=A i jF;have:=zu2 h jF;rw[hO]at *;omega
     simp[D,E,g,F,R,T,U,Z,jF,g',z,gU,jV,gK,Mr jC,Mr jU,jD,zQ];refine⟨J,J,J,?_⟩;refine M2 (zse jG jG zR) (by simp) ?_;simp[Z];exact⟨J,gA _ Ak Ai At Am Bd Bc Bm (by simp)⟩
  ·have g':¬(i:Int)<(vs.length:Int)+2:=J
   simp[D,E,g,F,R,T,U,Z,jF,g']
end Go.Proofs.YtodjkjimaheggaaGreat
end
