/- The templates: see the main text. -/
import Derived.Test.YtodjkjimaheggaaGreatTg0
import Derived.Test.YtodjkjimaheggaaGreatSvG2
import Derived.Test.YtodjkjimaheggaaGreatProg
import Derived.KernelRfl
import Derived.Test.YtodjkjimaheggaaGreatSvG3
import Derived.Test.YtodjkjimaheggaaGreatSvG4
set_option linter.defProp false
noncomputable section
namespace Go.Proofs.YtodjkjimaheggaaGreat
open Go.Sv
set_option linter.unusedSimpArgs false
set_option maxRecDepth 10000
section
def zfl:LC:=(.q [.z 5 (.box (.t 1)),.z 6 (.box (.t 2)),.z 8 (.move (.c .nilSl)),.z 9 (.move (.k 0))] (.seq (.seq (.draw [(.m 21 0,[]),(.z 22 (.loadN 7 (.t 5)),[]),(.z 23 (.loadN 8 (.t 6)),[]),(.m 24 3,[]),(.m 25 0,[]),(.z 26 (.loadN 7 (.t 5)),[]),(.z 27 (.w 42 [.t 25,.t 26]),[(.z 23 (.loadN 8 (.t 6)),false),(.z 22 (.loadN 7 (.t 5)),false)]),(.z 28 (.w 58 [.t 21,.t 22,.t 23,.t 24,.t 27]),[]),(.z 29 (.un .not (.t 28)),[])]) (.cond (.t 29) (.q [.z 8 (.move (.c .nilSl)),.z 9 (.move (.k 2))] .ret) .skip)) (.q [.m 31 0,.z 32 (.loadN 7 (.t 5)),.z 33 (.loadN 8 (.t 6)),.z 34 (.w 59 [.t 31,.t 32,.t 33]),.m 30 34,.z 35 (.extract 0 (.t 30)),.z 36 (.extract 1 (.t 30)),.z 11 (.alloc [(.i 0),(.i 0),(.i 0)]),.m 10 35,.v (.store 3 (.t 11) (.t 36))] (.q [.f 37 1 6,.l 38 37,.f 39 4 5,.l 40 39,.z 41 (.ixAddr 3 (.t 38) (.t 40)),.z 42 (.loadN 3 (.t 41)),.z 12 (.alloc [(.i 0),(.i 0),(.i 0)]),.v (.store 3 (.t 12) (.t 42))] (.seq (.draw [(.m 43 3,[]),(.z 44 (.build [.nilSl,(.i 0)] [(1,1,.t 43)]),[]),(.z 45 (.box (.t 44)),[]),(.f 46 1 6,[]),(.l 47 46,[]),(.f 48 1 5,[]),(.l 49 48,[]),(.z 50 (.ixAddr 3 (.t 47) (.t 49)),[]),(.z 51 (.loadN 3 (.t 50)),[]),(.f 52 1 6,[]),(.l 53 52,[]),(.f 54 3 5,[]),(.l 55 54,[]),(.z 56 (.ixAddr 3 (.t 53) (.t 55)),[]),(.z 57 (.loadN 3 (.t 56)),[]),(.f 58 1 6,[]),(.l 59 58,[]),(.f 60 5 5,[]),(.l 61 60,[]),(.z 62 (.ixAddr 3 (.t 59) (.t 61)),[]),(.z 63 (.loadN 3 (.t 62)),[]),(.f 64 6 5,[]),(.l 65 64,[]),(.z 66 (.cvInt .i64 (.t 65)),[]),(.m 67 10,[]),(.z 68 (.bin .add true 3 (.t 67) (.k 10)),[]),(.z 69 (.build [.nilPtr,(.i 0),(.i 0),(.i 0),(.i 0),(.i 0),(.i 0),(.i 0),(.i 0),(.i 0),(.i 0),(.i 0),(.i 0),(.i 0),(.i 0),(.i 0),(.i 0),(.i 0),(.i 0),(.i 0),(.i 0),(.i 0),(.i 0),(.i 0),(.i 0),(.i 0),(.i 0),(.i 0),(.i 0),(.i 0),(.i 0),(.i 0),(.i 0),(.i 0),(.i 0),(.i 0),(.i 0)] [(0,1,.t 45),(1,3,.t 51),(4,3,.t 57),(7,3,.t 63),(35,1,.t 66),(36,1,.t 68)]),[]),(.z 70 (.box (.t 69)),[(.l 65 64,false),(.z 63 (.loadN 3 (.t 62)),false),(.l 61 60,false),(.l 59 58,false),(.z 57 (.loadN 3 (.t 56)),false),(.l 55 54,false),(.l 53 52,false),(.z 51 (.loadN 3 (.t 50)),false),(.l 49 48,false),(.l 47 46,false),(.z 45 (.box (.t 44)),true)]),(.m 13 70,[])]) (.q [.m 71 13,.z 72 (.nilChk (.t 71)),.f 73 7 72,.f 74 2 73,.l 75 74,.z 15 (.alloc [(.i 0)]),.m 14 75,.v (.store 1 (.t 15) (.k 0))] (.q [.z 76 (.mkFunc 97 [] [.t 15,.t 11]),.m 16 76] (.seq (.draw [(.m 77 13,[]),(.m 78 13,[]),(.m 79 13,[]),(.m 80 13,[]),(.m 81 16,[]),(.m 82 14,[]),(.m 84 16,[]),(.m 85 14,[]),(.m 87 16,[]),(.m 88 14,[]),(.m 90 16,[]),(.f 91 2 12,[]),(.l 92 91,[]),(.z 93 (.bin .add true 3 (.t 92) (.k 1)),[]),(.z 83 (.callV (.t 81) [.t 82]),[(.l 92 91,false)]),(.z 86 (.callV (.t 84) [.t 85]),[(.l 92 91,false)]),(.z 89 (.callV (.t 87) [.t 88]),[(.l 92 91,false)]),(.z 94 (.callV (.t 90) [.t 93]),[]),(.z 95 (.nilChk (.t 77)),[]),(.f 96 10 95,[]),(.v (.store 3 (.t 96) (.t 83)),[]),(.z 97 (.nilChk (.t 78)),[]),(.f 98 13 97,[]),(.v (.store 3 (.t 98) (.t 86)),[]),(.z 99 (.nilChk (.t 79)),[]),(.f 100 16 99,[]),(.v (.store 3 (.t 100) (.t 89)),[]),(.z 101 (.nilChk (.t 80)),[]),(.f 102 19 101,[]),(.v (.store 3 (.t 102) (.t 94)),[])]) (.seq (.draw [(.m 103 13,[]),(.m 104 13,[]),(.m 105 16,[]),(.m 106 14,[]),(.m 109 16,[]),(.m 110 14,[]),(.m 111 13,[]),(.z 112 (.nilChk (.t 111)),[]),(.f 113 35 112,[]),(.l 114 113,[]),(.z 115 (.bin .shl false 3 (.t 110) (.t 114)),[]),(.z 107 (.w 21 [.t 106]),[(.l 114 113,false)]),(.z 108 (.callV (.t 105) [.t 107]),[(.l 114 113,false)]),(.z 116 (.callV (.t 109) [.t 115]),[]),(.z 117 (.nilChk (.t 103)),[]),(.f 118 22 117,[]),(.v (.store 3 (.t 118) (.t 108)),[]),(.z 119 (.nilChk (.t 104)),[]),(.f 120 25 119,[]),(.v (.store 3 (.t 120) (.t 116)),[])]) (.seq (.seq (.draw [(.m 121 13,[]),(.z 122 (.nilChk (.t 121)),[]),(.f 123 28 122,[]),(.m 124 13,[]),(.z 125 (.nilChk (.t 124)),[]),(.f 126 29 125,[]),(.m 127 13,[]),(.z 128 (.nilChk (.t 127)),[]),(.f 129 30 128,[]),(.m 130 13,[]),(.z 131 (.nilChk (.t 130)),[]),(.f 132 31 131,[]),(.m 133 13,[]),(.z 134 (.nilChk (.t 133)),[]),(.f 135 32 134,[]),(.m 136 13,[]),(.z 137 (.nilChk (.t 136)),[]),(.f 138 33 137,[]),(.m 139 13,[]),(.z 140 (.nilChk (.t 139)),[]),(.f 141 34 140,[]),(.z 142 (.buildSl 1 7 [.nilPtr,.nilPtr,.nilPtr,.nilPtr,.nilPtr,.nilPtr,.nilPtr] [(0,1,.t 123),(1,1,.t 126),(2,1,.t 129),(3,1,.t 132),(4,1,.t 135),(5,1,.t 138),(6,1,.t 141)]),[]),(.z 143 (.lenSl (.t 142)),[]),(.z 144 (.move (.k 0)),[])]) (.block 0 (.loop (.q [.z 145 (.bin .lss false 3 (.t 144) (.t 143))] (.seq (.cond (.t 145) .skip (.exit 0)) (.seq (.block 1 (.q [.m 146 144,.z 147 (.ixAddr 1 (.t 142) (.t 144)),.l 148 147,.m 17 146,.m 18 148] (.ops [.m 149 18,.m 150 10,.m 151 17,.z 152 (.bin .add false 3 (.t 150) (.t 151)),.z 153 (.nilChk (.t 149)),.v (.store 1 (.t 153) (.t 152))]))) (.ops [.z 154 (.bin .add true 3 (.t 144) (.k 1)),.m 144 154]))))))) (.seq (.draw [(.f 156 2 12,[]),(.l 157 156,[]),(.m 158 13,[]),(.z 159 (.nilChk (.t 158)),[]),(.f 160 35 159,[]),(.l 161 160,[]),(.z 162 (.w 45 [.t 157,.t 161]),[]),(.m 155 162,[]),(.z 163 (.extract 0 (.t 155)),[]),(.z 164 (.extract 1 (.t 155)),[]),(.m 19 163,[]),(.m 20 164,[])]) (.seq (.draw [(.m 165 13,[]),(.z 166 (.nilChk (.t 165)),[]),(.f 167 0 166,[]),(.l 168 167,[]),(.m 169 13,[]),(.z 170 (.nilChk (.t 169)),[]),(.f 171 28 170,[]),(.l 172 171,[]),(.z 173 (.w 69 [.t 168,.t 172,.c (.u 0)]),[])]) (.q [.m 174 13,.z 175 (.w 98 [.t 174])] (.q [.m 176 13,.z 177 (.loadN 3 (.t 12)),.m 178 20,.z 179 (.w 99 [.t 176,.t 177,.t 178])] (.q [.m 180 13,.m 181 19,.z 182 (.w 100 [.t 180,.t 181])] (.q [.m 183 13,.z 184 (.nilChk (.t 183)),.f 185 0 184,.l 186 185,.z 187 (.nilChk (.t 186)),.f 188 0 187,.l 189 188,.m 8 189,.z 9 (.move (.k 0))] .ret))))))))))))))))
def r_power_Code:Fg Tryz.prog 44=some ⟨190,zfl.r,[.tmp 8,.tmp 9]⟩:=by kernel_rfl
def zcv:LC:=(.q [.z 4 (.alloc [(.i 0),(.i 0),(.i 0)])] (.q [.l 5 1,.m 6 0,.z 7 (.bin .add false 3 (.t 5) (.t 6)),.v (.store 1 (.t 1) (.t 7))] (.q [.z 8 (.loadN 3 (.t 2)),.l 9 1,.m 10 0,.z 11 (.bin .sub false 3 (.t 9) (.t 10)),.m 12 0,.z 13 (.w 68 [.t 8,.t 11,.t 12]),.v (.store 3 (.t 4) (.t 13))] .ret)))
def r_power_Code_1:Fg Tryz.prog 97=some ⟨14,zcv.r,[.cellN 4 3]⟩:=by kernel_rfl
def F0 (p:Pc):Pn:=⟨p.buf.toNat,p.at_.toNat,p.size.toNat⟩
def Xh {p:Pc}(a:0≤p.buf)(d:0≤p.at_)(f:0≤p.size):(F0 p).p=p:=by
 unfold F0 Pn.p;rw[Int.toNat_of_nonneg a,Int.toNat_of_nonneg d,Int.toNat_of_nonneg f]
def zc2 {vs:List Vr}{bs:List Bf}{a:List Pc}{r s:Pc}(h:Nk vs bs a r s=true){i:Nat}(hi:i<vs.length):i<a.length∧(F0 (H7 a i)).p=H7 a i∧Bp bs (F0 (H7 a i))∧(H7 a i).size=(gv vs i).limbs∧(gv vs i).sec=(Fk bs (H7 a i).buf.toNat).sec∧((Fk bs (H7 a i).buf.toNat).kind=1→Kc (gv vs i)=true)∧0≤(H7 a i).at_∧(H7 a i).at_≤65536:=by
 have l:=h;simp only[Nk,Ac,Ao] at l;obtain⟨_,_,D,w,x,_⟩:=l;have m:=Cb.1 x i (Cp.2 hi);simp only[Su,Ac,Ao,Bs,Bool.and_eq_false_iff,Bl,Bool.not_eq_false',Du] at m;obtain⟨f,g,d,y,z⟩:=m;obtain⟨n,A,B,s1,s2,o,E,s5⟩:=y5 f;have C:=zfe w _ (A7 (Kl B));have j:0≤(H7 a i).buf:=by omega
 refine⟨by omega,Xh j o (by omega),⟨by simp only[F0];omega,?_,?_⟩,g,z,fun q=>?_,o,by omega⟩
 ·have e:(F0 (H7 a i)).b=n:=by simp only[F0];omega
  rw[e];simp only[F0];omega
 ·have e:(F0 (H7 a i)).b=n:=by simp only[F0];omega
  rw[e];omega
 ·rcases d with d|d
  ·exact absurd q d
  ·exact d
def zyj {vs:List Vr}{o:Ko}{bs:List Bf}{m:List Pc}{a d:Pc}(h:Nk vs bs m a d=true):(F0 (K2 vs o a d)).p=K2 vs o a d∧Bp bs (F0 (K2 vs o a d))∧Bw bs (F0 (K2 vs o a d))∧(Fk bs (F0 (K2 vs o a d)).b).sec=!Ls vs o.d∧0≤(K2 vs o a d).at_∧(K2 vs o a d).at_≤65536:=by
 have g:=h;simp only[Nk,Ac,Ao] at g;obtain⟨_,_,B,q,_,r,s⟩:=g;have key:∀(b:Bool) (w:Pc),Oh bs b w=true→(F0 w).p=w∧Bp bs (F0 w)∧Bw bs (F0 w)∧(Fk bs (F0 w).b).sec=b∧0≤w.at_∧w.at_≤65536:=fun b w hw=>by
  simp only[Oh,Ac,Bs,Bl,Du] at hw;obtain⟨f,hk,j⟩:=hw;obtain⟨n,x,y,s1,s2,l,C,s5⟩:=y5 f;have z:=zfe q _ (A7 (Kl y));have e:(F0 w).b=n:=by simp only[F0];omega
  have A:w.buf.toNat=n:=by omega
  rw[A] at hk j;refine⟨Xh (by omega) l (by omega),⟨by omega,?_,?_⟩,?_,?_,l,by omega⟩
  ·rw[e];simp only[F0];omega
  ·rw[e];omega
  ·unfold Bw;rw[e];exact hk
  ·rw[e];exact j
 unfold K2;cases D:Ls vs o.d with
 |true=>simpa using key false a r
 |false=>simpa using key true d s
def Kn (vs:List Vr)(o:Ko)(a:List Pc)(d f:Pc):Pw :=
 ⟨F0 (H7 a o.d.toNat),F0 (H7 a o.a.toNat),F0 (H7 a o.b.toNat),F0 (H7 a o.c.toNat),(K2 vs o d f).buf.toNat,(K2 vs o d f).at_.toNat,(H7 a o.c.toNat).size.toNat,o.imm.toNat,(Je (H7 a o.b.toNat).size o.imm.toNat).toNat,(Jn (H7 a o.b.toNat).size o.imm.toNat).toNat,(Xs vs o).toNat⟩
def we (vs:List Vr)(o:Ko)(bs:List Bf)(a:List Pc)(d f:Pc)(deep:Int):List Lo:=if Ns vs o bs a d f deep (Gs vs o)=true then ((Kn vs o a d f).code deep).flat else []
def zi (vs:List Vr)(o:Ko)(bs:List Bf)(a:List Pc)(d f:Pc)(deep:Int):Int:=if Ns vs o bs a d f deep (Gs vs o)=true then 0 else 2
def zvt {l:Nat}{w:Nat}(j:1≤l∧l≤512)(hw:1≤w∧w≤6):∃t v:Nat,Je l w=t∧Jn l w=v∧t*w=64*l+v∧v≤63∧v<w∧t≤40000:=by
 have f:Je l w=(64*(l:Int)+w - 1)/w:=by unfold Je;rw[Ab (by omega)]
 have a:Jn l w=Je l w*w - 64*l:=by unfold Jn;rw[Ab (by omega)]
 have d:0≤(64*(l:Int)+w - 1)/w∧(64*(l:Int)+w - 1)/w≤40000∧0≤(64*(l:Int)+w - 1)/w*w - 64*l∧(64*(l:Int)+w - 1)/w*w - 64*l<w:=by
  have g:w=1∨w=2∨w=3∨w=4∨w=5∨w=6:=by omega
  rcases g with rfl|rfl|rfl|rfl|rfl|rfl<;>omega
 rw[f] at a;obtain⟨t,h⟩:=Af d.1;rw[h] at f a d;obtain⟨v,hv⟩:=Af d.2.2.1;rw[hv] at a d;refine⟨t,v,f,a,?_,by omega,by omega,by omega⟩;have:((t*w:Nat):Int)=((64*l+v:Nat):Int):=by push_cast;omega
 exact_mod_cast this
def ztk {p:Pw}{D:Int}:(p.code D).flat.length≤3000:=by
 have f:=ve (p:=p) (d:=p.ent) (bits:=64*p.k) (D:=D);have g:=ve (p:=p) (d:=p.cur) (bits:=128*p.k) (D:=D);have h:=ba (p:=p) (d:=p.base) (a:=p.a) (b:=p.cur) (D:=D);have j:=zc4 (p:=p) (a:=p.acc) (b:=p.ent) (D:=D);have l:=Me (d:=D) (t:=(2^p.w - 1:Nat)) (b:=p.fillR D) zhm;have o:=zxi (p:=p) (D:=D);have q:=Me (d:=D) (t:=p.times) (b:=p.runR (D+1)) zm6;have r:(Ke p.cur.p p.B D).flat.length≤3:=Me (m:=1) (by simp[flat_frL]);have s:=ba (p:=p) (d:=p.d) (a:=p.acc) (b:=p.cur) (D:=D);unfold Pw.code Pw.fill Pw.run;simp only[Hi,flat_frL,Aj,Ar,Bc];omega
section next
variable {G : Ev} {K : LV → Ev → Prop}
def Wk {w:Pc}{x n:Int}{s6 s2:Nat}(hw:-1000000≤w.at_∧w.at_≤1000000)(q:0≤x∧x≤1000000)(r:0≤n∧n≤1000000)(d:G[6]?=some (.cells [.i x] s6))(h:G[2]?=some (.cells w.f s2))
  (k:∀y,K (.agg (Pc.f ⟨w.buf,w.at_+x,n⟩)) ((G++y).set 6 (.cells [.i (x+n)] (s6+1)))):F1 (.fn 97) [.i n,.ptr 6 0,.ptr 2 0] G K:=by
 refine E9 r_power_Code_1 (by kernel_rfl) (by simp) ?_;have j:6<G.length:=(Aa.1 d).1;have l:∀y:List LObj,(G++y)[6]?=_:=fun y=>(E6 j).trans d
 have f:∀y:List LObj,(G++y)[2]?=_:=fun y=>(E6 (by omega)).trans h
 have m:∀(y:List LObj) (o:LObj),((G++y).set 6 o)[6]?=some o:=fun y o=>Ag (by simp;omega)
 have g:∀(y:List LObj) (o:LObj),((G++y).set 6 o)[2]?=some (.cells w.f s2):=fun y o=>by rw[Ad (by omega)];exact f y
 unfold Pc.f at f g;simp[zcv,↓l,↓m,↓g];refine⟨by omega,by omega,?_⟩;refine z5u (p:=w) (by omega) ?_;have f1:∀(c:LObj) (y:List LObj) (o:LObj),((G++c::y).set 6 o)[G.length]?=some c:=fun c y o=>by
  rw[Ad (by omega)];simp
 have f2:∀(c c':LObj) (y:List LObj) (o:LObj),((G++c::y).set 6 o).set G.length c'=(G++c'::y).set 6 o:=fun c c' y o=>by
  rw[List.set_comm _ _ (by omega)];simp
 have e:∀y z:List LObj,((G++y).set 6 (.cells [.i (x+n)] (s6+1)))++z=(G++(y++z)).set 6 (.cells [.i (x+n)] (s6+1)):=fun y z=>by rw[←Br];exact (List.set_append_left _ _ (by simp;omega)).symm
 have a:¬6=G.length:=by omega
 simp[Pc.f,e,↓f1,↓f2,a];exact k _
structure CdH (L0 L1 L2 L3 L4:List LV) (PC:List LV) (s5:Nat) (x:Int) (s6:Nat) (G:Ev):Prop where
 g0:G[0]?=some (.cells L0 0)
 g1:G[1]?=some (.cells L1 0)
 g2:G[2]?=some (.cells L2 1)
 g3:G[3]?=some (.cells L3 1)
 g4:G[4]?=some (.cells L4 0)
 g5:G[5]?=some (.cells PC s5)
 g6:G[6]?=some (.cells [.i x] s6)
def CdH.st {L0 L1 L2 L3 L4 PC:List LV}{s5 s6:Nat}{x:Int}(h:CdH L0 L1 L2 L3 L4 PC s5 x s6 G)(aa:List LV)(s':Nat):CdH L0 L1 L2 L3 L4 aa s' x s6 (G.set 5 (.cells aa s')):=by
 have l6:6<G.length:=(Aa.1 h.g6).1;have a:∀i:Nat,i≠5→(G.set 5 (.cells aa s'))[i]?=G[i]?:=fun i hi=>Ad (Ne.symm hi)
 exact⟨(a 0 (by omega)).trans h.g0,(a 1 (by omega)).trans h.g1,(a 2 (by omega)).trans h.g2,(a 3 (by omega)).trans h.g3,(a 4 (by omega)).trans h.g4,Ag (by omega),(a 6 (by omega)).trans h.g6⟩
def CdH.app {L0 L1 L2 L3 L4 PC:List LV}{s5 s6:Nat}{x:Int}(h:CdH L0 L1 L2 L3 L4 PC s5 x s6 G)(y:List LObj):CdH L0 L1 L2 L3 L4 PC s5 x s6 (G++y):=by
 have l6:6<G.length:=(Aa.1 h.g6).1;have a:∀i:Nat,i≤6→(G++y)[i]?=G[i]?:=fun i hi=>E6 (by omega)
 exact⟨(a 0 (by omega)).trans h.g0,(a 1 (by omega)).trans h.g1,(a 2 (by omega)).trans h.g2,(a 3 (by omega)).trans h.g3,(a 4 (by omega)).trans h.g4,(a 5 (by omega)).trans h.g5,(a 6 (by omega)).trans h.g6⟩
def wu {f g h j l:List LV}{s5 s6:Nat}{x n:Int}{w:Pc}(d:CdH f g w.f h j l s5 x s6 G)(hw:-1000000≤w.at_∧w.at_≤1000000)(m:0≤x∧x≤1000000)(o:0≤n∧n≤1000000)
  (k:∀G',CdH f g w.f h j l s5 (x+n) (s6+1) G'→K (.agg (Pc.f ⟨w.buf,w.at_+x,n⟩)) G'):F1 (.fn 97) [.i n,.ptr 6 0,.ptr 2 0] G K:=by
 refine Wk hw m o d.g6 d.g2 fun y=>k _ ?_
 have p:6<G.length:=(Aa.1 d.g6).1;have a:∀i:Nat,i<6→((G++y).set 6 (.cells [.i (x+n)] (s6+1)))[i]?=G[i]?:=fun i hi=>by
  rw[Ad (by omega),E6 (by omega)]
 exact⟨(a 0 (by omega)).trans d.g0,(a 1 (by omega)).trans d.g1,(a 2 (by omega)).trans d.g2,(a 3 (by omega)).trans d.g3,(a 4 (by omega)).trans d.g4,(a 5 (by omega)).trans d.g5,Ag (by simp;omega)⟩
end next
def sn (p:Pw)(i:Nat):List LV:=[.ptr 4 0,.i p.d.b,.i p.d.a,.i p.d.k,.i p.a.b,.i p.a.a,.i p.a.k,.i p.n.b,.i p.n.a,.i p.k,.i p.acc.b,.i p.acc.a,.i p.acc.k,.i p.base.b,.i p.base.a,.i p.base.k,.i p.cur.b,.i p.cur.a,.i p.cur.k,.i p.es.b,.i p.es.a,.i p.es.k,.i p.t.b,.i p.t.a,.i p.t.k,.i p.tab.b,.i p.tab.a,.i p.tab.k,
 .i (if 0<i then (p.B:Int) else 0),.i (if 1<i then (p.B:Int)+1 else 0),.i (if 2<i then (p.B:Int)+2 else 0),.i (if 3<i then (p.B:Int)+3 else 0),.i (if 4<i then (p.B:Int)+4 else 0),.i (if 5<i then (p.B:Int)+5 else 0),.i (if 6<i then (p.B:Int)+6 else 0),.i p.w,.i ((p.B:Int)+10)]
def z71 (vs:List Vr)(o:Ko)(bs:List Bf)(m:List Pc)(A B:Pc)(deep:Int)(hv:vs.length≤1000000)(hb:bs.length≤9223372036854775807) :
  H6 44 [.lst (Hq vs) vs.length 3,.agg o.f,.agg (Ii bs m A B),.i deep] (.tup [.lst (Gi (we vs o bs m A B deep)) (we vs o bs m A B deep).length 8,.i (zi vs o bs m A B deep)]):=by
 refine La.mk (by simp[dats,LV.dat,Jv]) (E9 r_power_Code (by kernel_rfl) (by simp) ?_);have J:o.f=[.i o.kind,.i o.d,.i o.e,.i o.a,.i o.b,.i o.c,.u o.imm]:=rfl;have C:Ii bs m A B=[.lst (Ga bs) bs.length 3,.lst (Om m) m.length 3,.i A.buf,.i A.at_,.i A.size,.i B.buf,.i B.at_,.i B.size]:=rfl;simp[zfl,C,J];rw[←J];refine E5 (v9 vs o hv) (bors_self _ (by simp[dats,LV.dat,Ll,J])) ?_;simp[C,J];rw[←J,←C];refine E5 (zid vs o bs m A B deep (Gs vs o) hv hb) (bors_self _ (by simp[dats,LV.dat,Ll,o7,J])) ?_;unfold we zi;cases hr:Ns vs o bs m A B deep (Gs vs o) with
 |false =>
  simp[Gi]
 |true =>
 have af:=hr;simp only[Ns,Ac,Ao] at af;obtain⟨hP,hw,aS,aT,aU⟩:=af;have hm:o.kind=13∧L5 vs o=true:=by
  unfold Gs at hw;split at hw
  ·rename_i h;simpa using h
  ·omega
 obtain⟨ag,hp,P,T⟩:=zoe (s:=29) hm.2 (by simp[Jj,hm.1]);obtain⟨d,ed,hd⟩:∃d:Nat,o.d=d∧d<vs.length:=by
  have h:=zr9 hp (by decide);obtain⟨d,e⟩:=Af h.1;exact⟨d,e,by omega⟩
 obtain⟨a,ea,ha⟩:∃d:Nat,o.a=d∧d<vs.length:=by
  have h:=zre hp (by decide);obtain⟨d,e⟩:=Af h.1;exact⟨d,e,by omega⟩
 obtain⟨b,eb,ax⟩:∃d:Nat,o.b=d∧d<vs.length:=by
  have h:=yw hp (by decide);obtain⟨d,e⟩:=Af h.1;exact⟨d,e,by omega⟩
 obtain⟨c,ec,hc⟩:∃d:Nat,o.c=d∧d<vs.length:=by
  have h:=xm hp (by decide);obtain⟨d,e⟩:=Af h.1;exact⟨d,e,by omega⟩
 have F:1≤o.imm.toNat∧o.imm.toNat≤6:=by
  simp only[Km,hm.1] at P;have h:1≤o.imm∧o.imm≤6:=by simpa using P
  rw[Bq,Bq] at h;exact h
 obtain⟨ld,pd,_,sd,_,_,d3,d4⟩:=zc2 hP hd;obtain⟨la,pa,_,sa,_,_,a3,a4⟩:=zc2 hP ha;obtain⟨lb,pb,_,sb,_,_,b3,b4⟩:=zc2 hP ax;obtain⟨lc,pc,_,sc,_,_,c3,c4⟩:=zc2 hP hc;obtain⟨pw,_,_,_,w3,w4⟩:=zyj (o:=o) hP;have td:=w8 (yx ld);have ta:=w8 (yx la);have tb:=w8 (yx lb);have tc:=w8 (yx lc);have qd:=O4 ld;have qa:=O4 la;have qb:=O4 lb;have qc:=O4 lc;simp[C,J];rw[←J,←C];refine E5 (zck vs o bs m A B) (bors_self _ (by simp[dats,LV.dat,Ll,o7,J])) ?_;obtain⟨p,j⟩:∃p,Kn vs o m A B=p:=⟨_,rfl⟩;have ay:o.d.toNat=d:=by omega
 have az:o.a.toNat=a:=by omega
 have U:o.b.toNat=b:=by omega
 have ah:o.c.toNat=c:=by omega
 have E:∀i,Jw vs (i:Nat)=(gv vs i).limbs:=fun i=>by unfold Jw;rw[A9]
 have aj:∀v∈[o.d,o.a,o.c],Jw vs v=Jw vs o.d:=by
  have e:J0 o=[o.d,o.a,o.c]:=by simp[J0,hm.1]
  unfold Xv at T;rw[e] at T;intro v hv;simpa using Cb.1 T v hv
 have aA:=aj o.a (by simp);have aB:=aj o.c (by simp);rw[ea,ed,E,E] at aA;rw[ec,ed,E,E] at aB;obtain⟨_,_,_,_,aC,aD⟩:=zb1 ag (yw hp (by decide));obtain⟨_,_,_,_,aE,aF⟩:=zb1 ag (xm hp (by decide));rw[eb,E,←sb] at aC aD;rw[ec,E,←sc] at aE aF;obtain⟨tt,tv,V,W,aV,aW,aX,aY⟩:=zvt (l:=(F0 (H7 m b)).k) (w:=o.imm.toNat) (by simp only[F0];omega) F;have ao:(((F0 (H7 m b)).k:Nat):Int)=(H7 m b).size:=by simp only[F0];omega
 have aZ:(((F0 (H7 m c)).k:Nat):Int)=(H7 m c).size:=by simp only[F0];omega
 have hR:Xs vs o=16∨Xs vs o=40:=by unfold Xs;split<;>simp
 have f1:p.d=F0 (H7 m d):=by rw[←j];simp only[Kn,ay]
 have f2:p.a=F0 (H7 m a):=by rw[←j];simp only[Kn,az]
 have f3:p.b=F0 (H7 m b):=by rw[←j];simp only[Kn,U]
 have f4:p.n=F0 (H7 m c):=by rw[←j];simp only[Kn,ah]
 have f5:p.k=p.n.k:=by rw[f4,←j];simp only[Kn,ah,F0]
 have f6:p.w=o.imm.toNat:=by rw[←j];rfl
 have f7:(p.B:Int)=Xs vs o:=by rw[←j];simp only[Kn];omega
 have f8:(p.times:Int)=Je (p.b.k:Int) p.w:=by rw[f3,f6,V,←j];simp only[Kn,U];rw[←ao,V];rfl
 have f9:(p.over:Int)=Jn (p.b.k:Int) p.w:=by rw[f3,f6,W,←j];simp only[Kn,U];rw[←ao,W];rfl
 have f10:(K2 vs o A B).buf=p.wb∧(K2 vs o A B).at_=p.wa:=by
  have h:=congrArg Pc.buf pw;have h':=congrArg Pc.at_ pw;rw[←j];simp only[Kn];exact⟨h.symm,h'.symm⟩
 have Y:PwN p:=by
  have q1:=congrArg Pc.at_ pd;have q2:=congrArg Pc.at_ pa;have q3:=congrArg Pc.at_ pb;have q4:=congrArg Pc.at_ pc;have Z:=congrArg Pc.size pd;have q6:=congrArg Pc.size pa;simp only[Pn.p] at q1 q2 q3 q4 Z q6;refine⟨f5.symm,?_,?_,?_,?_,?_,?_,?_,?_,?_,?_,?_,?_⟩
  ·rw[f5,f1,f4];omega
  ·rw[f5,f2,f4];omega
  ·rw[f5,f4];omega
  ·rw[f1];omega
  ·rw[f2];omega
  ·rw[f3];omega
  ·rw[f4];omega
  ·rw[f6];exact F
  ·omega
  ·omega
  ·rw[f6,f3,W] at f9;omega
  ·rw[f6,f3,V] at f8;omega
 rw[←pd,←f1] at td;rw[←pa,←f2] at ta;rw[←pb,←f3] at tb;rw[←pc,←f4] at tc;have hW:∃ws:Int,(K2 vs o A B).f=[.i (p.wb:Int),.i (p.wa:Int),.i ws]:=⟨(K2 vs o A B).size,by unfold Pc.f;rw[f10.1,f10.2]⟩;obtain⟨ws,hW⟩:=hW;rw[←f7,hW];have aG:o.imm.toNat<9223372036854775808:=by omega
 simp only[Pn.p,Pc.f] at td ta tb tc;simp[C,J,ed,ea,eb,ec,ld,la,lb,lc,td,ta,tb,tc,qd,qa,qb,qc,aG];have hk:=Y.k;have q:=Y.nk;have a0:=Y.b;have a1:=Y.wa;refine⟨by omega,by omega,?_⟩;rw[q];refine wu (w:=⟨p.wb,p.wa,ws⟩) (s5:=0) (s6:=1) ⟨rfl,rfl,rfl,rfl,rfl,rfl,rfl⟩ (by simp only;omega) (by omega) (by omega) fun G1 c1=>?_
 simp[c1.g3,Pc.f,q];refine wu (w:=⟨p.wb,p.wa,ws⟩) c1 (by simp only;omega) (by omega) (by omega) fun G2 c2=>?_
 simp[c1.g3,c2.g3,Pc.f,q];refine wu (w:=⟨p.wb,p.wa,ws⟩) c2 (by simp only;omega) (by omega) (by omega) fun G3 c3=>?_
 simp[c1.g3,c2.g3,c3.g3,Pc.f,q];refine wu (w:=⟨p.wb,p.wa,ws⟩) c3 (by simp only;omega) (by omega) (by omega) fun G4 c4=>?_
 have l6:6<G4.length:=(Aa.1 c4.g6).1;have s5:∀X,(G4.set 5 X)[5]?=some X:=fun X=>Ag (by omega)
 have g4:=c4.g5;have aa:=c4.g3;simp[↓aa,↓g4,↓s5,Pc.f,q];have aH:=S5 F.2;have aI:(p.k:Int)*2^o.imm.toNat=((p.k*2^p.w:Nat):Int):=by rw[f6];push_cast;rfl
 have aR:p.k*2^p.w≤512*64:=Ca hk.2 (by rw[f6];exact aH);rw[aI];generalize hK:p.k*2^p.w=kw at *;have aJ:Ry (p.k:Int)=p.k+2:=by unfold Ry;rw[Ab (by omega)]
 refine⟨by omega,by omega,?_⟩;refine z4h (by omega) ?_;rw[aJ];simp[↓aa,↓g4,↓s5,Pc.f,q];refine wu (w:=⟨p.wb,p.wa,ws⟩) (c4.st _ _) (by simp only;omega) (by omega) (by omega) fun G5 c5=>?_
 have g5:=c5.g5;simp[↓g5,↓s5,Pc.f,q];refine wu (w:=⟨p.wb,p.wa,ws⟩) c5 (by simp only;omega) (by omega) (by omega) fun G6 c6=>?_
 have g6:=c6.g5;have aK:6<G6.length:=(Aa.1 c6.g6).1;have s6:∀X,(G6.set 5 X)[5]?=some X:=fun X=>Ag (by omega)
 simp[↓g6,↓s6,Pc.f,q];have c7:=fun L=>((c6.st L 6).app [LObj.dyn [.ptr 5 28,.ptr 5 29,.ptr 5 30,.ptr 5 31,.ptr 5 32,.ptr 5 33,.ptr 5 34] 7 1 0 0])
 have d7:∀X:LObj,(G6.set 5 X++[LObj.dyn [.ptr 5 28,.ptr 5 29,.ptr 5 30,.ptr 5 31,.ptr 5 32,.ptr 5 33,.ptr 5 34] 7 1 0 0])[G6.length]?=some (LObj.dyn [.ptr 5 28,.ptr 5 29,.ptr 5 30,.ptr 5 31,.ptr 5 32,.ptr 5 33,.ptr 5 34] 7 1 0 0):=fun X=>by
  rw[Au (by simp)];simp
 obtain⟨z,hz,a2⟩:∃z,G6.length=z∧6<z:=⟨_,rfl,aK⟩;rw[hz] at d7 ⊢;refine Iw (fun ρ D G' N=>∃i st:Nat,D=[]∧N+i=7∧lk ρ 10=.i p.B∧lk ρ 12=.ptr 3 0∧lk ρ 13=.ptr 5 0∧lk ρ 142=.dy z 0∧lk ρ 143=.i 7∧lk ρ 144=.i i ∧
   G'[3]?=some (.cells p.b.p.f 1)∧G'[4]?=some (.cells [.nilSl,.i deep] 0)∧G'[5]?=some (.cells (sn p i) st)∧G'[z]?=some (LObj.dyn [.ptr 5 28,.ptr 5 29,.ptr 5 30,.ptr 5 31,.ptr 5 32,.ptr 5 33,.ptr 5 34] 7 1 0 0)) (N:=7)
  ⟨0,6,rfl,by omega,by simp,by simp,by simp,by simp,by simp,by simp,(c7 _).g3,(c7 _).g4,?_,d7 _⟩ ?_
 ·refine Eq.trans (c7 _).g5 ?_;simp[sn,f6,Pw.acc,Pw.base,Pw.cur,Pw.es,Pw.t,Pw.tab];have aL:(kw:Int)=(p.k:Int)*2^p.w:=by rw[←hK];push_cast;rfl
  rw[←f6];refine⟨by omega,by omega,by omega,by omega,aL⟩
 clear c1 c2 c3 c4 c5 c6 c7 d7 g4 aa g5 g6 s5 s6;rintro N ρ D M ⟨i,st,rfl,a5,r,x,y,H,I,Q,q3,q4,Z,qz⟩ Nx aM;have lz:z<M.length:=(Aa.1 qz).1;have n3:∀X,(M.set 5 X)[3]?=M[3]?:=fun X=>Ad (by omega)
 have n4:∀X,(M.set 5 X)[4]?=M[4]?:=fun X=>Ad (by omega)
 have n5:∀X,(M.set 5 X)[5]?=some X:=fun X=>Ag (by omega)
 have nz:∀X,(M.set 5 X)[z]?=M[z]?:=fun X=>Ad (by omega)
 by_cases g:i<7
 ·have hi:i=0∨i=1∨i=2∨i=3∨i=4∨i=5∨i=6:=by omega
  have nx:∀(R:Ey) (X:LObj),lk R 10=.i p.B→lk R 12=.ptr 3 0→lk R 13=.ptr 5 0→lk R 142=.dy z 0→lk R 143=.i 7→lk R 144=.i ((i+1:Nat):Int)→X=.cells (sn p (i+1)) (st+1)→Nx R [] (M.set 5 X):=fun R X aN aO aP ap aq ar hX=>aM _ _ _ ⟨N - 1,by omega,i+1,st+1,rfl,by omega,aN,aO,aP,ap,aq,ar,(n3 X).trans q3,(n4 X).trans q4,by rw[n5,hX],(nz X).trans qz⟩
  unfold sn at Z;rcases hi with rfl|rfl|rfl|rfl|rfl|rfl|rfl
  all_goals simp[r,x,y,H,I,Q,↓Z,↓qz]
  all_goals (try (refine⟨by omega,?_⟩))
  all_goals exact nx _ _ (by simp[r]) (by simp[x]) (by simp[y]) (by simp[H]) (by simp[I]) (by simp) (by simp[sn])
 have hi:i=7:=by omega
 subst hi;have aQ:sn p 7=Ji 4 p:=by simp[sn,Ji,q]
 rw[aQ] at Z;have ad:=Z;have O:=q3;unfold Ji at ad;unfold Pc.f Pn.p at O;have S:=z6k (p.b.k:Int) (p.w:Int);rw[←f8,←f9] at S;simp[r,x,y,H,I,Q,O,ad];refine E5 S (by simp) ?_;simp[r,x,y,O,ad];refine Ou (ops:=[]) (deep:=deep) ⟨0,.nilSl,q4,H0.nil⟩ (by simp) fun H1 h1 k1=>?_
 have p1:=k1.cells (by decide) Z;have b1:=k1.cells (by decide) O;simp[r,x,y];refine V4 Y (by omega) p1 (by decide) h1 (by simp) fun H2 h2 k2=>?_
 have p2:=k2.cells (by decide) p1;have b2:=k2.cells (by decide) b1;have l2:(p.fill deep).flat.length≤1000:=by
  have h1:=ve (p:=p) (d:=p.ent) (bits:=64*p.k) (D:=deep);have h2:=ve (p:=p) (d:=p.cur) (bits:=128*p.k) (D:=deep);have h3:=ba (p:=p) (d:=p.base) (a:=p.a) (b:=p.cur) (D:=deep);have h4:=zc4 (p:=p) (a:=p.acc) (b:=p.ent) (D:=deep);have h5:=Me (d:=deep) (t:=(2^p.w - 1:Nat)) (b:=p.fillR deep) zhm;unfold Pw.fill;simp only[Hi,flat_frL,Aj,Ar,Bc];omega
 simp[r,x,y,b2];refine ft Y (by omega) p2 (by decide) h2 (by simp;omega) fun H3 h3 k3=>?_
 have l3:=zxi (p:=p) (D:=deep);have p3:=k3.cells (by decide) p2;simp[r,x,y];refine cu Y (by omega) p3 (by decide) h3 (by simp;omega) fun H4 h4 k4=>?_
 have p4:=k4.cells (by decide) p3;unfold Ji at p4;obtain⟨a6,v,e1,e2⟩:=h4;have hC:((p.code deep).flat:List Lo)=[cK p.B 0]++(p.fill deep).flat++(p.exp deep).flat++(p.run deep).flat:=by
  unfold Pw.code;simp only[Hi,flat_frL];simp
 have aw:=e2.bor;rw[D0,←hC] at aw;simp[-He,r,x,y,p4,e1];rw[j];exact aw
end
def zga:LC:=(.q [.z 2 (.move (.c .nilSl))] (.q [.m 4 0,.z 5 (.lenSl (.t 4)),.m 3 5] (.seq (.block 0 (.loop (.seq (.q [.m 6 3,.z 7 (.bin .gtr true 3 (.t 6) (.k 0)),.m 8 7,.my 9 8 0,.my 10 8 3,.y 11 8 (.bin .sub true 3 (.t 10) (.k 1)),.y 12 8 (.ixAddr 1 (.t 9) (.t 11)),.y 13 8 (.load1 (.t 12)),.y 14 8 (.bin .eql true 23 (.t 13) (.c (.u 0))),.z 15 (.pick (.t 8) (.t 14) .F)] (.cond (.t 15) .skip (.exit 0))) (.block 1 (.ops [.m 16 3,.z 17 (.bin .sub true 3 (.t 16) (.k 1)),.m 3 17]))))) (.q [.z 18 (.buildSl 1 0 [] []),.m 19 0,.m 20 3,.z 21 (.slSl 1 (.t 19) none (some (.t 20))),.z 22 (.appG 1 (.t 18) (.t 21)),.m 2 22] .ret))))
def r_ref02_Trim:Fg Tryz.prog 84=some ⟨23,zga.r,[.tmp 2]⟩:=by kernel_rfl
def zd5:LC:=(.q [.z 6 (.move (.c (.u 0))),.z 7 (.move .F)] (.q [.m 10 0,.m 11 1,.z 12 (.bin .add false 23 (.t 10) (.t 11)),.m 8 12] (.q [.m 13 8,.m 14 0,.z 15 (.bin .lss false 23 (.t 13) (.t 14)),.m 9 15] (.seq (.q [.m 16 2] (.cond (.t 16) (.q [.m 17 8,.z 18 (.bin .add true 23 (.t 17) (.c (.u 1))),.m 8 18] (.ops [.m 19 9,.m 20 19,.mn 21 20 8,.n 22 20 (.bin .eql true 23 (.t 21) (.c (.u 0))),.z 23 (.pick (.t 20) .T (.t 22)),.m 9 23])) .skip)) (.q [.m 24 8,.m 25 9,.m 6 24,.m 7 25] .ret)))))
def r_ref01_Add:Fg Tryz.prog 92=some ⟨26,zd5.r,[.tmp 6,.tmp 7]⟩:=by kernel_rfl
def zll (a:List UInt64)(q:a.length≤1048576):F4 84 [LU a] (.dy 0 0) [RU (Py (val a))]:=by
 refine Hg.row (E9 r_ref02_Trim (by kernel_rfl) (by simp) ?_);simp[zga];refine cw (fun ρ D G N=>D=[]∧G=[]∧N≤a.length∧lk ρ 0=LU a∧lk ρ 3=.i N∧val (a.take N)=val a) (N:=a.length) (by simp) ?_;rintro N ρ D G ⟨rfl,rfl,r,j,l,o⟩;simp at j;have fin:(N=0∨a.getD (N - 1) 0≠0)→Py (val a)=a.take N:=by
  intro h;rw[←o];refine toL_val ?_;rcases h with rfl|h
  ·exact .inl (by simp)
  ·by_cases m:N=0
   ·subst m;exact .inl (by simp)
   ·have:N=(N - 1)+1:=by omega
    rw[this,zcl (by omega)];exact Wy h
 by_cases m:N=0
 ·subst m;have g:=fin (.inl rfl);simp at l g;simp[j,l,g,jq];exact⟨0,1,⟨rfl,rfl⟩,by simp⟩
 ·obtain⟨n,rfl⟩:∃n,N=n+1:=⟨N - 1,by omega⟩;have d:n<a.length:=by omega
  have p:((n:Int)+1 - 1).toNat=n:=by omega
  simp[j,l,d,p];refine⟨by omega,fun f=>⟨by omega,n,by omega,by omega,rfl,?_⟩,fun f=>⟨by omega,by omega,by omega,?_⟩⟩
  ·rw[←o,zed d];simp[d,f]
  ·have g:=fin (.inr (by simpa [d] using f));refine .inr ⟨0,1,1,rfl,?_⟩;rw[g];simp[List.map_take];omega
def zn6 (a b:UInt64):(a≤a+b→decide (a+b+1=0)=(Iy a b true).2)∧(a+b<a→true=(Iy a b true).2):=by
 unfold Iy;refine⟨fun h=>?_,fun h=>?_⟩
 ·have d:¬a+b<a:=UInt64.not_lt.2 h;simp[d]
 ·simp[h]
def zpy (a b:UInt64)(c:Bool):F4 92 [.u a,.u b,.bool c] (.tup [.u (Iy a b c).1,.bool (Iy a b c).2]) []:=by
 refine Hg.val rfl (E9 r_ref01_Add (by kernel_rfl) (by simp) ?_);cases c
 ·simp[zd5];simp[Iy,M9]
 ·simp[zd5];simp only[M9];exact⟨fun h=>⟨rfl,((zn6 a b).2 h).symm⟩,fun h=>⟨rfl,(zn6 a b).1 h⟩⟩

def zem:LC:=(.q [.z 4 (.move .F)] (.seq (.q [.z 5 (.move (.k 0))] (.block 0 (.loop (.seq (.q [.m 8 5,.m 9 0,.z 10 (.lenSl (.t 9)),.z 11 (.bin .lss false 3 (.t 8) (.t 10)),.m 12 11,.mn 13 12 5,.mn 14 12 1,.n 15 12 (.lenSl (.t 14)),.n 16 12 (.bin .lss false 3 (.t 13) (.t 15)),.z 17 (.pick (.t 12) .T (.t 16))] (.cond (.t 17) .skip (.exit 0))) (.seq (.block 1 (.q [.z 6 (.move (.c (.u 0))),.z 7 (.move (.c (.u 0)))] (.seq (.q [.m 20 5,.m 21 0,.z 22 (.lenSl (.t 21)),.z 23 (.bin .lss false 3 (.t 20) (.t 22))] (.cond (.t 23) (.ops [.m 24 0,.m 25 5,.z 26 (.ixAddr 1 (.t 24) (.t 25)),.l 27 26,.m 6 27]) .skip)) (.seq (.q [.m 28 5,.m 29 1,.z 30 (.lenSl (.t 29)),.z 31 (.bin .lss false 3 (.t 28) (.t 30))] (.cond (.t 31) (.ops [.m 32 1,.m 33 5,.z 34 (.ixAddr 1 (.t 32) (.t 33)),.l 35 34,.m 7 35]) .skip)) (.q [.m 36 6,.m 37 7,.z 38 (.bin .neq false 23 (.t 36) (.t 37))] (.cond (.t 38) (.q [.z 4 (.move .F)] .ret) .skip)))))) (.ops [.m 18 5,.z 19 (.bin .add true 3 (.t 18) (.k 1)),.m 5 19])))))) (.q [.z 4 (.move .T)] .ret)))
def r_kit_Natural:Fg Tryz.prog 32=some ⟨39,zem.r,[.tmp 4]⟩:=by kernel_rfl
def z8m (a b:List UInt64)(y:a.length≤1000000)(z:b.length≤1000000):F4 32 [LU a,LU b] (.bool (decide (val a=val b))) []:=by
 refine Hg.val rfl (E9 r_kit_Natural (by kernel_rfl) (by simp) ?_);simp[zem];refine Iw (fun ρ D G N=>∃i:Nat,D=[]∧N+i=max a.length b.length∧lk ρ 0=LU a∧lk ρ 1=LU b∧lk ρ 5=.i i∧val (a.take i)=val (b.take i)) (N:=max a.length b.length) ⟨0,by simp⟩ ?_;rintro N ρ D G ⟨i,rfl,A,f,g,r,hv⟩ B j;have next:a.getD i 0=b.getD i 0→val (a.take (i+1))=val (b.take (i+1)):=fun e=>by rw[ze0,ze0,e,hv]
 have diff:a.getD i 0≠b.getD i 0→val a≠val b:=fun e s=>e (val_getD s i)
 have nx:a.getD i 0=b.getD i 0→(i<a.length∨i<b.length)→∃d,d<N∧d+(i+1)=max a.length b.length∧val (a.take (i+1))=val (b.take (i+1)):=fun e h=>⟨N - 1,by omega,by omega,next e⟩
 by_cases l:i<a.length<;>by_cases m:i<b.length
 ·simp[l,m] at next diff nx
  simp[f,g,r,l,m];refine⟨fun e=>⟨by omega,?_⟩,diff⟩;obtain⟨d,o,p,q⟩:=nx e;exact j _ _ _ ⟨d,o,i+1,rfl,p,by simp[f],by simp[g],by simp,q⟩
 ·have w:b[i]?=none:=by simp;omega
  simp[l,w] at next diff nx
  simp[f,g,r,l,m];refine⟨fun e=>⟨by omega,?_⟩,diff⟩;obtain⟨d,o,p,q⟩:=nx e;exact j _ _ _ ⟨d,o,i+1,rfl,p,by simp[f],by simp[g],by simp,q⟩
 ·have x:a[i]?=none:=by simp;omega
  simp[m,x] at next diff nx
  simp[f,g,r,l,m];refine⟨fun e=>⟨by omega,?_⟩,diff⟩;obtain⟨d,o,p,q⟩:=nx e;exact j _ _ _ ⟨d,o,i+1,rfl,p,by simp[f],by simp[g],by simp,q⟩
 ·simp[f,g,r,l,m];rw[←zg2 (a:=a) (n:=i) (by omega),←zg2 (a:=b) (n:=i) (by omega),hv]

def zdf:LC:=(.q [.z 6 (.move (.c (.u 0))),.z 7 (.move .F)] (.q [.m 10 0,.m 11 1,.z 12 (.bin .sub false 23 (.t 10) (.t 11)),.m 8 12] (.q [.m 13 0,.m 14 1,.z 15 (.bin .lss false 23 (.t 13) (.t 14)),.m 9 15] (.seq (.q [.m 16 2] (.cond (.t 16) (.q [.m 17 9,.m 18 17,.mn 19 18 8,.n 20 18 (.bin .eql true 23 (.t 19) (.c (.u 0))),.z 21 (.pick (.t 18) .T (.t 20)),.m 9 21] (.ops [.m 22 8,.z 23 (.bin .sub true 23 (.t 22) (.c (.u 1))),.m 8 23])) .skip)) (.q [.m 24 8,.m 25 9,.m 6 24,.m 7 25] .ret)))))
def r_ref01_Sub:Fg Tryz.prog 147=some ⟨26,zdf.r,[.tmp 6,.tmp 7]⟩:=by kernel_rfl
def zit:LC:=(.q [.z 4 (.move (.c (.u 0))),.z 5 (.move (.c (.u 0)))] (.q [.m 12 0,.z 13 (.bin .shr true 23 (.t 12) (.c (.u 32))),.m 14 0,.z 15 (.bin .and true 23 (.t 14) (.c (.u 4294967295))),.m 6 13,.m 7 15] (.q [.m 16 1,.z 17 (.bin .shr true 23 (.t 16) (.c (.u 32))),.m 18 1,.z 19 (.bin .and true 23 (.t 18) (.c (.u 4294967295))),.m 8 17,.m 9 19] (.q [.m 20 6,.m 21 9,.z 22 (.bin .mul false 23 (.t 20) (.t 21)),.m 23 7,.m 24 9,.z 25 (.bin .mul false 23 (.t 23) (.t 24)),.z 26 (.bin .shr true 23 (.t 25) (.c (.u 32))),.z 27 (.bin .add false 23 (.t 22) (.t 26)),.m 10 27] (.q [.m 28 7,.m 29 8,.z 30 (.bin .mul false 23 (.t 28) (.t 29)),.m 31 10,.z 32 (.bin .and true 23 (.t 31) (.c (.u 4294967295))),.z 33 (.bin .add false 23 (.t 30) (.t 32)),.m 11 33] (.q [.m 34 6,.m 35 8,.z 36 (.bin .mul false 23 (.t 34) (.t 35)),.m 37 10,.z 38 (.bin .shr true 23 (.t 37) (.c (.u 32))),.z 39 (.bin .add false 23 (.t 36) (.t 38)),.m 40 11,.z 41 (.bin .shr true 23 (.t 40) (.c (.u 32))),.z 42 (.bin .add false 23 (.t 39) (.t 41)),.m 43 0,.m 44 1,.z 45 (.bin .mul false 23 (.t 43) (.t 44)),.m 4 42,.m 5 45] .ret))))))
def r_ref01_Mul:Fg Tryz.prog 91=some ⟨46,zit.r,[.tmp 4,.tmp 5]⟩:=by kernel_rfl
def zol (a b:UInt64):(b≤a→decide (a - b=0)=(Gx a b true).2)∧(a<b→true=(Gx a b true).2):=by
 unfold Gx;refine⟨fun h=>?_,fun h=>?_⟩
 ·have d:¬a<b:=UInt64.not_lt.2 h;simp[d]
 ·simp[h]
def zq6 (a b:UInt64)(c:Bool):F4 147 [.u a,.u b,.bool c] (.tup [.u (Gx a b c).1,.bool (Gx a b c).2]) []:=by
 refine Hg.val rfl (E9 r_ref01_Sub (by kernel_rfl) (by simp) ?_);cases c
 ·simp[zdf];simp[Gx,Qx]
 ·simp[zdf];simp only[Qx];exact⟨fun h=>⟨rfl,((zol a b).2 h).symm⟩,fun h=>⟨rfl,(zol a b).1 h⟩⟩
def zq3 (a b:UInt64):F4 91 [.u a,.u b] (.tup [.u (Sl a b),.u (a*b)]) []:=by
 refine Hg.val rfl (E9 r_ref01_Mul (by kernel_rfl) (by simp) ?_);simp[zit];exact⟨qf a b,wv a b⟩
def xf:LC:=(.q [.z 1 (.box (.t 0)),.z 2 (.move (.c .nilSl))] (.seq (.block 0 (.q [.f 4 0 1,.l 5 4,.z 6 (.bin .eql true 3 (.t 5) (.k 2)),.m 7 6,.n 8 7 (.fieldAddr 0 (.t 1)),.n 9 7 (.load1 (.t 8)),.n 10 7 (.bin .eql true 3 (.t 9) (.k 8)),.z 11 (.pick (.t 7) .T (.t 10)),.m 12 11,.n 13 12 (.fieldAddr 0 (.t 1)),.n 14 12 (.load1 (.t 13)),.n 15 12 (.bin .eql true 3 (.t 14) (.k 9)),.z 16 (.pick (.t 12) .T (.t 15)),.m 3 16] (.cond (.t 3) (.q [.f 17 3 1,.l 18 17,.z 19 (.buildSl 1 1 [(.i 0)] [(0,1,.t 18)]),.m 2 19] .ret) (.q [.f 21 0 1,.l 22 21,.z 23 (.bin .geq true 3 (.t 22) (.k 3)),.m 24 23,.y 25 24 (.fieldAddr 0 (.t 1)),.y 26 24 (.load1 (.t 25)),.y 27 24 (.bin .leq true 3 (.t 26) (.k 7)),.z 28 (.pick (.t 24) (.t 27) .F),.m 29 28,.n 30 29 (.fieldAddr 0 (.t 1)),.n 31 29 (.load1 (.t 30)),.n 32 29 (.bin .eql true 3 (.t 31) (.k 10)),.z 33 (.pick (.t 29) .T (.t 32)),.m 20 33] (.cond (.t 20) (.q [.f 34 3 1,.l 35 34,.f 36 4 1,.l 37 36,.z 38 (.buildSl 1 2 [(.i 0),(.i 0)] [(0,1,.t 35),(1,1,.t 37)]),.m 2 38] .ret) (.q [.f 40 0 1,.l 41 40,.z 42 (.bin .eql true 3 (.t 41) (.k 11)),.m 43 42,.n 44 43 (.fieldAddr 0 (.t 1)),.n 45 43 (.load1 (.t 44)),.n 46 43 (.bin .eql true 3 (.t 45) (.k 12)),.z 47 (.pick (.t 43) .T (.t 46)),.m 48 47,.n 49 48 (.fieldAddr 0 (.t 1)),.n 50 48 (.load1 (.t 49)),.n 51 48 (.bin .eql true 3 (.t 50) (.k 13)),.z 52 (.pick (.t 48) .T (.t 51)),.m 39 52] (.cond (.t 39) (.q [.f 53 3 1,.l 54 53,.f 55 4 1,.l 56 55,.f 57 5 1,.l 58 57,.z 59 (.buildSl 1 3 [(.i 0),(.i 0),(.i 0)] [(0,1,.t 54),(1,1,.t 56),(2,1,.t 58)]),.m 2 59] .ret) (.q [.f 61 0 1,.l 62 61,.z 63 (.bin .eql true 3 (.t 62) (.k 14)),.m 64 63,.y 65 64 (.fieldAddr 3 (.t 1)),.y 66 64 (.load1 (.t 65)),.y 67 64 (.bin .neq true 3 (.t 66) (.k (-1))),.z 68 (.pick (.t 64) (.t 67) .F),.m 60 68] (.cond (.t 60) (.q [.f 69 3 1,.l 70 69,.z 71 (.buildSl 1 1 [(.i 0)] [(0,1,.t 70)]),.m 2 71] .ret) (.q [.f 73 0 1,.l 74 73,.z 75 (.bin .eql true 3 (.t 74) (.k 15)),.m 76 75,.y 77 76 (.fieldAddr 3 (.t 1)),.y 78 76 (.load1 (.t 77)),.y 79 76 (.bin .neq true 3 (.t 78) (.k (-1))),.z 80 (.pick (.t 76) (.t 79) .F),.m 72 80] (.cond (.t 72) (.q [.f 81 3 1,.l 82 81,.f 83 4 1,.l 84 83,.z 85 (.buildSl 1 2 [(.i 0),(.i 0)] [(0,1,.t 82),(1,1,.t 84)]),.m 2 85] .ret) (.q [.f 87 0 1,.l 88 87,.z 89 (.bin .eql true 3 (.t 88) (.k 15)),.m 86 89] (.cond (.t 86) (.q [.f 90 4 1,.l 91 90,.z 92 (.buildSl 1 1 [(.i 0)] [(0,1,.t 91)]),.m 2 92] .ret) .skip))))))))))))) (.q [.z 2 (.move (.c .nilSl))] .ret)))
def r_ref12_Takes:Fg Tryz.prog 143=some ⟨93,xf.r,[.tmp 2]⟩:=by kernel_rfl
def rn:LC:=(.q [.z 1 (.box (.t 0)),.z 2 (.move (.c .nilSl))] (.seq (.block 0 (.q [.f 4 0 1,.l 5 4,.z 6 (.bin .eql true 3 (.t 5) (.k 10)),.m 7 6,.n 8 7 (.fieldAddr 0 (.t 1)),.n 9 7 (.load1 (.t 8)),.n 10 7 (.bin .eql true 3 (.t 9) (.k 11)),.z 11 (.pick (.t 7) .T (.t 10)),.m 12 11,.n 13 12 (.fieldAddr 0 (.t 1)),.n 14 12 (.load1 (.t 13)),.n 15 12 (.bin .eql true 3 (.t 14) (.k 12)),.z 16 (.pick (.t 12) .T (.t 15)),.m 3 16] (.cond (.t 3) (.q [.f 17 1 1,.l 18 17,.f 19 2 1,.l 20 19,.z 21 (.buildSl 1 2 [(.i 0),(.i 0)] [(0,1,.t 18),(1,1,.t 20)]),.m 2 21] .ret) (.q [.f 23 0 1,.l 24 23,.z 25 (.bin .eql true 3 (.t 24) (.k 15)),.m 26 25,.n 27 26 (.fieldAddr 0 (.t 1)),.n 28 26 (.load1 (.t 27)),.n 29 26 (.bin .eql true 3 (.t 28) (.k 17)),.z 30 (.pick (.t 26) .T (.t 29)),.m 22 30] (.cond (.t 22) (.q [.z 2 (.move (.c .nilSl))] .ret) .skip))))) (.q [.f 31 1 1,.l 32 31,.z 33 (.buildSl 1 1 [(.i 0)] [(0,1,.t 32)]),.m 2 33] .ret)))
def r_ref12_Makes:Fg Tryz.prog 142=some ⟨34,rn.r,[.tmp 2]⟩:=by kernel_rfl
def za2:LC:=(.q [.z 3 (.box (.t 0)),.z 6 (.move .F)] (.seq (.q [.m 7 2,.z 8 (.un .not (.t 7))] (.cond (.t 8) (.q [.m 9 1,.z 10 (.bin .eql true 3 (.t 9) (.k (-1))),.m 6 10] .ret) .skip)) (.q [.m 11 1,.z 12 (.bin .geq true 3 (.t 11) (.k 0)),.m 13 12,.my 14 13 1,.y 15 13 (.fieldAddr 0 (.t 3)),.y 16 13 (.load1 (.t 15)),.y 17 13 (.bin .lss false 3 (.t 14) (.t 16)),.z 18 (.pick (.t 13) (.t 17) .F),.m 6 18] .ret)))
def r_ref12_field:Fg Tryz.prog 181=some ⟨19,za2.r,[.tmp 6]⟩:=by kernel_rfl
def Mt:LC:=(.q [.z 2 (.box (.t 0)),.z 3 (.box (.t 1)),.z 4 (.move .F)] (.q [.f 12 0 3,.l 13 12,.m 5 13] (.seq (.q [.m 14 5,.z 15 (.bin .lss true 3 (.t 14) (.k 1)),.m 16 15,.mn 17 16 5,.n 18 16 (.bin .gtr true 3 (.t 17) (.k 17)),.z 19 (.pick (.t 16) .T (.t 18))] (.cond (.t 19) (.q [.z 4 (.move .F)] .ret) .skip)) (.q [.m 20 5,.z 21 (.bin .eql true 3 (.t 20) (.k 14)),.m 22 21,.mn 23 22 5,.n 24 22 (.bin .eql true 3 (.t 23) (.k 15)),.z 25 (.pick (.t 22) .T (.t 24)),.m 6 25] (.q [.m 26 5,.z 27 (.bin .neq true 3 (.t 26) (.k 15)),.m 28 27,.my 29 28 5,.y 30 28 (.bin .neq true 3 (.t 29) (.k 17)),.z 31 (.pick (.t 28) (.t 30) .F),.m 7 31] (.q [.m 32 5,.z 33 (.bin .eql true 3 (.t 32) (.k 10)),.m 34 33,.mn 35 34 5,.n 36 34 (.bin .eql true 3 (.t 35) (.k 11)),.z 37 (.pick (.t 34) .T (.t 36)),.m 38 37,.mn 39 38 5,.n 40 38 (.bin .eql true 3 (.t 39) (.k 12)),.z 41 (.pick (.t 38) .T (.t 40)),.m 8 41] (.q [.m 42 5,.z 43 (.bin .neq true 3 (.t 42) (.k 1)),.m 44 43,.my 45 44 5,.y 46 44 (.bin .neq true 3 (.t 45) (.k 16)),.z 47 (.pick (.t 44) (.t 46) .F),.m 48 47,.my 49 48 5,.y 50 48 (.bin .neq true 3 (.t 49) (.k 17)),.z 51 (.pick (.t 48) (.t 50) .F),.m 9 51] (.q [.m 52 5,.z 53 (.bin .geq true 3 (.t 52) (.k 3)),.m 54 53,.my 55 54 5,.y 56 54 (.bin .leq true 3 (.t 55) (.k 7)),.z 57 (.pick (.t 54) (.t 56) .F),.m 58 57,.mn 59 58 5,.n 60 58 (.bin .geq true 3 (.t 59) (.k 10)),.mn 61 58 60,.my 62 61 5,.y 63 61 (.bin .leq true 3 (.t 62) (.k 13)),.n 64 58 (.pick (.t 61) (.t 63) .F),.z 65 (.pick (.t 58) .T (.t 64)),.m 66 65,.mn 67 66 5,.n 68 66 (.bin .eql true 3 (.t 67) (.k 15)),.z 69 (.pick (.t 66) .T (.t 68)),.m 10 69] (.q [.m 70 5,.z 71 (.bin .geq true 3 (.t 70) (.k 11)),.m 72 71,.my 73 72 5,.y 74 72 (.bin .leq true 3 (.t 73) (.k 13)),.z 75 (.pick (.t 72) (.t 74) .F),.m 11 75] (.seq (.q [.z 76 (.loadN 3 (.t 2)),.f 77 1 3,.l 78 77,.m 79 7,.z 80 (.w 181 [.t 76,.t 78,.t 79]),.z 81 (.un .not (.t 80)),.m 82 81,.n 83 82 (.loadN 3 (.t 2)),.n 84 82 (.fieldAddr 2 (.t 3)),.n 85 82 (.load1 (.t 84)),.mn 86 82 8,.n 87 82 (.w 181 [.t 83,.t 85,.t 86]),.n 88 82 (.un .not (.t 87)),.z 89 (.pick (.t 82) .T (.t 88)),.m 90 89,.n 91 90 (.loadN 3 (.t 2)),.n 92 90 (.fieldAddr 3 (.t 3)),.n 93 90 (.load1 (.t 92)),.mn 94 90 9,.n 95 90 (.w 181 [.t 91,.t 93,.t 94]),.n 96 90 (.un .not (.t 95)),.mn 97 90 96,.my 98 97 6,.my 99 97 98,.y 100 99 (.fieldAddr 3 (.t 3)),.y 101 99 (.load1 (.t 100)),.y 102 99 (.bin .eql true 3 (.t 101) (.k (-1))),.y 103 97 (.pick (.t 99) (.t 102) .F),.y 104 97 (.un .not (.t 103)),.n 105 90 (.pick (.t 97) (.t 104) .F),.z 106 (.pick (.t 90) .T (.t 105)),.m 107 106,.n 108 107 (.loadN 3 (.t 2)),.n 109 107 (.fieldAddr 4 (.t 3)),.n 110 107 (.load1 (.t 109)),.mn 111 107 10,.n 112 107 (.w 181 [.t 108,.t 110,.t 111]),.n 113 107 (.un .not (.t 112)),.z 114 (.pick (.t 107) .T (.t 113)),.m 115 114,.n 116 115 (.loadN 3 (.t 2)),.n 117 115 (.fieldAddr 5 (.t 3)),.n 118 115 (.load1 (.t 117)),.mn 119 115 11,.n 120 115 (.w 181 [.t 116,.t 118,.t 119]),.n 121 115 (.un .not (.t 120)),.z 122 (.pick (.t 115) .T (.t 121)),.m 123 122,.mn 124 123 8,.mn 125 123 124,.y 126 125 (.fieldAddr 1 (.t 3)),.y 127 125 (.load1 (.t 126)),.y 128 125 (.fieldAddr 2 (.t 3)),.y 129 125 (.load1 (.t 128)),.y 130 125 (.bin .eql false 3 (.t 127) (.t 129)),.n 131 123 (.pick (.t 125) (.t 130) .F),.z 132 (.pick (.t 123) .T (.t 131))] (.cond (.t 132) (.q [.z 4 (.move .F)] .ret) .skip)) (.seq (.block 0 (.q [.m 134 6,.m 133 134] (.cond (.t 133) (.seq (.q [.f 135 6 3,.l 136 135,.z 137 (.bin .lss true 3 (.t 136) (.k 0)),.m 138 137,.n 139 138 (.fieldAddr 6 (.t 3)),.n 140 138 (.load1 (.t 139)),.n 141 138 (.fieldAddr 1 (.t 2)),.n 142 138 (.load1 (.t 141)),.n 143 138 (.lenSl (.t 142)),.n 144 138 (.bin .geq false 3 (.t 140) (.t 143)),.z 145 (.pick (.t 138) .T (.t 144)),.m 146 145,.mn 147 146 5,.n 148 146 (.bin .eql true 3 (.t 147) (.k 15)),.mn 149 146 148,.y 150 149 (.fieldAddr 1 (.t 2)),.y 151 149 (.load1 (.t 150)),.y 152 149 (.fieldAddr 6 (.t 3)),.y 153 149 (.load1 (.t 152)),.y 154 149 (.ixAddr 3 (.t 151) (.t 153)),.y 155 149 (.fieldAddr 1 (.t 154)),.y 156 149 (.load1 (.t 155)),.y 157 149 (.bin .eql true 3 (.t 156) (.k 1)),.n 158 146 (.pick (.t 149) (.t 157) .F),.z 159 (.pick (.t 146) .T (.t 158))] (.cond (.t 159) (.q [.z 4 (.move .F)] .ret) .skip)) (.seq (.draw [(.f 160 3 3,[]),(.l 161 160,[]),(.z 162 (.bin .neq true 3 (.t 161) (.k (-1))),[]),(.m 163 162,[]),(.n 164 163 (.fieldAddr 7 (.t 3)),[]),(.n 165 163 (.load1 (.t 164)),[]),(.n 166 163 (.fieldAddr 1 (.t 2)),[]),(.n 167 163 (.load1 (.t 166)),[]),(.n 168 163 (.fieldAddr 6 (.t 3)),[]),(.n 169 163 (.load1 (.t 168)),[]),(.n 170 163 (.ixAddr 3 (.t 167) (.t 169)),[]),(.n 171 163 (.fieldAddr 0 (.t 170)),[]),(.n 172 163 (.load1 (.t 171)),[]),(.n 173 163 (.cvInt .u64 (.t 172)),[]),(.n 174 163 (.bin .lss false 23 (.t 165) (.t 173)),[]),(.z 175 (.pick (.t 163) .T (.t 174)),[]),(.m 4 175,[])]) .ret)) (.q [.f 177 6 3,.l 178 177,.z 179 (.bin .neq true 3 (.t 178) (.k 0)),.m 176 179] (.cond (.t 176) (.q [.z 4 (.move .F)] .ret) (.q [.m 181 5,.z 182 (.bin .eql true 3 (.t 181) (.k 1)),.m 180 182] (.cond (.t 180) (.q [.z 4 (.move .T)] .ret) (.q [.m 184 5,.z 185 (.bin .eql true 3 (.t 184) (.k 8)),.m 186 185,.mn 187 186 5,.n 188 186 (.bin .eql true 3 (.t 187) (.k 9)),.z 189 (.pick (.t 186) .T (.t 188)),.m 183 189] (.cond (.t 183) (.q [.f 190 7 3,.l 191 190,.z 192 (.bin .geq true 23 (.t 191) (.c (.u 1))),.m 193 192,.y 194 193 (.fieldAddr 7 (.t 3)),.y 195 193 (.load1 (.t 194)),.y 196 193 (.bin .leq true 23 (.t 195) (.c (.u 63))),.z 197 (.pick (.t 193) (.t 196) .F),.m 4 197] .ret) (.q [.m 199 5,.z 200 (.bin .eql true 3 (.t 199) (.k 16)),.m 198 200] (.cond (.t 198) (.q [.f 201 7 3,.l 202 201,.z 203 (.bin .geq true 23 (.t 202) (.c (.u 1))),.m 204 203,.y 205 204 (.fieldAddr 7 (.t 3)),.y 206 204 (.load1 (.t 205)),.y 207 204 (.bin .leq true 23 (.t 206) (.c (.u 1048576))),.z 208 (.pick (.t 204) (.t 207) .F),.m 4 208] .ret) .skip))))))))))) (.q [.f 209 7 3,.l 210 209,.z 211 (.bin .eql true 23 (.t 210) (.c (.u 0))),.m 4 211] .ret))))))))))))
def r_ref12_fields:Fg Tryz.prog 141=some ⟨212,Mt.r,[.tmp 4]⟩:=by kernel_rfl
def k_ref12_fields:Mt.ok=true:=by kernel_rfl
def zkm:LC:=(.q [.z 4 (.move .F)] (.seq (.q [.z 5 (.move (.k 0))] (.block 0 (.loop (.seq (.q [.m 6 5,.m 7 0,.z 8 (.lenSl (.t 7)),.z 9 (.bin .lss false 3 (.t 6) (.t 8))] (.cond (.t 9) .skip (.exit 0))) (.seq (.block 1 (.q [.m 12 0,.m 13 5,.z 14 (.ixAddr 1 (.t 12) (.t 13)),.l 15 14,.m 16 1,.z 17 (.bin .eql false 3 (.t 15) (.t 16))] (.cond (.t 17) (.q [.z 4 (.move .T)] .ret) .skip))) (.ops [.m 10 5,.z 11 (.bin .add true 3 (.t 10) (.k 1)),.m 5 11])))))) (.q [.z 4 (.move .F)] .ret)))
def r_ref12_in:Fg Tryz.prog 144=some ⟨18,zkm.r,[.tmp 4]⟩:=by kernel_rfl
def zhf:LC:=(.q [.z 2 (.move (.c (.u 0)))] (.seq (.q [.m 3 0] (.cond (.t 3) (.q [.z 2 (.move (.c (.u 1)))] .ret) .skip)) (.q [.z 2 (.move (.c (.u 0)))] .ret)))
def r_ref12_bit:Fg Tryz.prog 149=some ⟨4,zhf.r,[.tmp 2]⟩:=by kernel_rfl
def zfi (k:Int):k<1∨k=1∨k=2∨k=3∨k=4∨k=5∨k=6∨k=7∨k=8∨k=9∨k=10∨k=11∨k=12∨k=13∨k=14∨k=15∨k=16∨k=17∨17<k:=by omega
def Qs (l:List Int):dats (l.map .i)=true:=uc (fun _=>rfl) l
def zk4 (o:Lo):H6 143 [.agg o.f] (.lst ((Ht o).map .i) (Ht o).length 1):=by
 refine La.mk (by simp[LV.dat,Qs]) (E9 r_ref12_Takes (by kernel_rfl) (by simp) ?_);have p:o.f=[.i o.kind,.i o.d,.i o.e,.i o.a,.i o.b,.i o.c,.i o.buf,.u o.imm]:=rfl;rcases zfi o.kind with h|h|h|h|h|h|h|h|h|h|h|h|h|h|h|h|h|h|h
 case inr.inr.inr.inr.inr.inr.inr.inr.inr.inr.inr.inr.inr.inr.inl|inr.inr.inr.inr.inr.inr.inr.inr.inr.inr.inr.inr.inr.inr.inr.inl =>
  by_cases x:o.a=-1<;>simp[xf,p,Ht,h,x,He,bor,LV.dat,dats]
 case inl|inr.inr.inr.inr.inr.inr.inr.inr.inr.inr.inr.inr.inr.inr.inr.inr.inr.inr =>
  have r:o.kind≠2:=by omega
  have y:¬(3≤o.kind∧o.kind≤7):=by omega
  have s:o.kind≠8:=by omega
  have w:o.kind≠9:=by omega
  have a:o.kind≠10:=by omega
  have d:o.kind≠11:=by omega
  have f:o.kind≠12:=by omega
  have j:o.kind≠13:=by omega
  have l:o.kind≠14:=by omega
  have m:o.kind≠15:=by omega
  by_cases g:3≤o.kind
  ·have z:¬o.kind≤7:=fun q=>y ⟨g,q⟩
   simp[xf,p,Ht,g,z,r,s,w,a,d,f,j,l,m,He,bor,LV.dat,dats]
  ·simp[xf,p,Ht,g,r,s,w,a,d,f,j,l,m,He,bor,LV.dat,dats]
 all_goals simp[xf,p,Ht,h,He,bor,LV.dat,dats]
def zjt (o:Lo):H6 142 [.agg o.f] (.lst ((E8 o).map .i) (E8 o).length 1):=by
 refine La.mk (by simp[LV.dat,Qs]) (E9 r_ref12_Makes (by kernel_rfl) (by simp) ?_);have a:o.f=[.i o.kind,.i o.d,.i o.e,.i o.a,.i o.b,.i o.c,.i o.buf,.u o.imm]:=rfl;by_cases d:o.kind=10;· simp[rn,a,E8,d,He,bor,LV.dat,dats]
 by_cases f:o.kind=11;· simp[rn,a,E8,f,He,bor,LV.dat,dats]
 by_cases g:o.kind=12;· simp[rn,a,E8,g,He,bor,LV.dat,dats]
 by_cases h:o.kind=15;· simp[rn,a,E8,h,He,bor,LV.dat,dats]
 by_cases j:o.kind=17;· simp[rn,a,E8,j,He,bor,LV.dat,dats]
 simp[rn,a,E8,d,f,g,h,j,He,bor,LV.dat,dats]
def F3 (regs:Int)(x y:LV)(r:Int)(b:Bool):F4 181 [.agg [.i regs,x,y],.i r,.bool b] (.bool (Fh regs r b)) []:=by
 refine Hg.val rfl (E9 r_ref12_field (by kernel_rfl) (by simp) ?_);cases b with
 |false=>simp[za2,Fh]
 |true=>by_cases g:0≤r<;>simp[za2,Fh,g]
def zfx (b:Bool):F4 149 [.bool b] (.u (F2 b)) []:=by
 refine Hg.val rfl (E9 r_ref12_bit (by kernel_rfl) (by simp) ?_);cases b<;>simp[zhf,F2]
def zs1 (l:List Int)(n:Int)(r:l.length≤1000000000):F4 144 [.lst (l.map .i) l.length 1,.i n] (.bool (l.contains n)) []:=by
 refine Hg.val rfl (E9 r_ref12_in (by kernel_rfl) (by simp) ?_);simp[zkm];refine Iw (fun ρ D G N=>∃i:Nat,D=[]∧N+i=l.length∧lk ρ 0=.lst (l.map .i) l.length 1∧lk ρ 1=.i n∧lk ρ 5=.i i∧∀x∈l.take i,¬x=n) (N:=l.length) ⟨0,rfl,by omega,by simp,by simp,by simp,by simp⟩ ?_;rintro N ρ D G ⟨i,rfl,s,d,f,j,m⟩ w o;by_cases g:i<l.length
 ·have q:(l.map LV.i)[i]?=some (.i l[i]):=by simp[g]
  have hm:l[i]∈l:=Dw g;have p:l.take (i+1)=l.take i++[l[i]]:=Cj g;generalize l[i]=x at *;by_cases e:x=n
  ·subst e;simp[d,f,j,g,Fu q,hm]
  ·simp[d,f,j,g,Fu q,e];refine⟨by omega,o _ _ _ ⟨N - 1,by omega,i+1,rfl,by omega,by simp[d],by simp[f],by simp,fun y a=>?_⟩⟩;rw[p] at a;rcases Ay.1 a with a|a
   ·exact m y a
   ·simp at a;rw[a];exact e
 ·rw[Ax (by omega)] at m;have:¬n∈l:=fun h=>m n h rfl
  simp[d,f,j,g,this]
def Fa (regs:Int)(bs:List Bf)(os:List Lo):List LV:=[.i regs,.lst (Ga bs) bs.length 3,.lst (Gi os) os.length 8]
def zsi (regs:Int)(bs:List Bf)(os:List Lo):dats (Fa regs bs os)=true:=by simp[Fa,dats,LV.dat,Jf,Jv]
def I6 (regs:Int)(bs:List Bf)(o:Lo):Bool:=(Fh regs o.d (Gj o.kind)&&(Fh regs o.e (Gh o.kind)&&((Fh regs o.a (Gr o.kind) || (Gf o.kind&&decide (o.a=-1)))&&(Fh regs o.b (Jg o.kind)&&(Fh regs o.c (Jl o.kind)&&(!(Gh o.kind&&decide (o.d=o.e)) &&
  (if Gf o.kind=true then decide (0≤o.buf)&&(decide (o.buf<bs.length)&&(!(decide (o.kind=15)&&decide ((Fk bs o.buf.toNat).kind=1))&&(!decide (o.a=-1) || decide (o.imm<iU (Fk bs o.buf.toNat).size))))
   else decide (o.buf=0)&&(if o.kind=1 then true else if o.kind=8∨o.kind=9 then decide (1≤o.imm)&&decide (o.imm≤63) else if o.kind=16 then decide (1≤o.imm)&&decide (o.imm≤1048576) else decide (o.imm=0)))))))))
def Uf (regs:Int)(bs:List Bf)(os:List Lo)(o:Lo)(h:o.kind=1):F1 (.fn 141) [.agg (Fa regs bs os),.agg o.f] [] fun v _=>v=.bool (I6 regs bs o):=by
 refine E9 r_ref12_fields k_ref12_fields (by simp) ?_;have d:o.f=[.i o.kind,.i o.d,.i o.e,.i o.a,.i o.b,.i o.c,.i o.buf,.u o.imm]:=rfl;have a:∀(x:Int) (b:Bool) {G:Ev},bors G [.agg [.i regs,.lst (Ga bs) bs.length 3,.lst (Gi os) os.length 8],.i x,.bool b] [.agg [.i regs,.lst (Ga bs) bs.length 3,.lst (Gi os) os.length 8],.i x,.bool b]:=fun x b G=>bors_self _ (by simp[dats,LV.dat,Jf,Jv])
 unfold I6;simp[Mt,Fa,d,h,Gj,Gh,Gr,Jg,Jl,Gf];refine E5 (F3 regs _ _ o.d true) (a _ _) ?_;cases f:Fh regs o.d true with
 |false=>simp[f]
 |true =>
 simp;refine E5 (F3 regs _ _ o.e false) (a _ _) ?_;cases g:Fh regs o.e false with
 |false=>simp[g]
 |true =>
 simp;refine E5 (F3 regs _ _ o.a false) (a _ _) ?_;cases j:Fh regs o.a false with
 |false=>simp[j]
 |true =>
 simp;refine E5 (F3 regs _ _ o.b false) (a _ _) ?_;cases l:Fh regs o.b false with
 |false=>simp[l]
 |true =>
 simp;refine E5 (F3 regs _ _ o.c false) (a _ _) ?_;cases m:Fh regs o.c false with
 |false=>simp[m]
 |true =>
 simp
def U2 (regs:Int)(bs:List Bf)(os:List Lo)(o:Lo)(h:o.kind=2):F1 (.fn 141) [.agg (Fa regs bs os),.agg o.f] [] fun v _=>v=.bool (I6 regs bs o):=by
 refine E9 r_ref12_fields k_ref12_fields (by simp) ?_;have f:o.f=[.i o.kind,.i o.d,.i o.e,.i o.a,.i o.b,.i o.c,.i o.buf,.u o.imm]:=rfl;have a:∀(x:Int) (b:Bool) {G:Ev},bors G [.agg [.i regs,.lst (Ga bs) bs.length 3,.lst (Gi os) os.length 8],.i x,.bool b] [.agg [.i regs,.lst (Ga bs) bs.length 3,.lst (Gi os) os.length 8],.i x,.bool b]:=fun x b G=>bors_self _ (by simp[dats,LV.dat,Jf,Jv])
 unfold I6;simp[Mt,Fa,f,h,Gj,Gh,Gr,Jg,Jl,Gf];refine E5 (F3 regs _ _ o.d true) (a _ _) ?_;cases g:Fh regs o.d true with
 |false=>simp[g]
 |true =>
 simp;refine E5 (F3 regs _ _ o.e false) (a _ _) ?_;cases j:Fh regs o.e false with
 |false=>simp[j]
 |true =>
 simp;refine E5 (F3 regs _ _ o.a true) (a _ _) ?_;cases l:Fh regs o.a true with
 |false=>simp[l]
 |true =>
 simp;refine E5 (F3 regs _ _ o.b false) (a _ _) ?_;cases m:Fh regs o.b false with
 |false=>simp[m]
 |true =>
 simp;refine E5 (F3 regs _ _ o.c false) (a _ _) ?_;cases p:Fh regs o.c false with
 |false=>simp[p]
 |true =>
 simp;by_cases d:o.buf=0
 case neg=>simp[d]
 simp[d]
def Wn (regs:Int)(bs:List Bf)(os:List Lo)(o:Lo)(h:o.kind=3):F1 (.fn 141) [.agg (Fa regs bs os),.agg o.f] [] fun v _=>v=.bool (I6 regs bs o):=by
 refine E9 r_ref12_fields k_ref12_fields (by simp) ?_;have f:o.f=[.i o.kind,.i o.d,.i o.e,.i o.a,.i o.b,.i o.c,.i o.buf,.u o.imm]:=rfl;have a:∀(x:Int) (b:Bool) {G:Ev},bors G [.agg [.i regs,.lst (Ga bs) bs.length 3,.lst (Gi os) os.length 8],.i x,.bool b] [.agg [.i regs,.lst (Ga bs) bs.length 3,.lst (Gi os) os.length 8],.i x,.bool b]:=fun x b G=>bors_self _ (by simp[dats,LV.dat,Jf,Jv])
 unfold I6;simp[Mt,Fa,f,h,Gj,Gh,Gr,Jg,Jl,Gf];refine E5 (F3 regs _ _ o.d true) (a _ _) ?_;cases g:Fh regs o.d true with
 |false=>simp[g]
 |true =>
 simp;refine E5 (F3 regs _ _ o.e false) (a _ _) ?_;cases j:Fh regs o.e false with
 |false=>simp[j]
 |true =>
 simp;refine E5 (F3 regs _ _ o.a true) (a _ _) ?_;cases l:Fh regs o.a true with
 |false=>simp[l]
 |true =>
 simp;refine E5 (F3 regs _ _ o.b true) (a _ _) ?_;cases m:Fh regs o.b true with
 |false=>simp[m]
 |true =>
 simp;refine E5 (F3 regs _ _ o.c false) (a _ _) ?_;cases p:Fh regs o.c false with
 |false=>simp[p]
 |true =>
 simp;by_cases d:o.buf=0
 case neg=>simp[d]
 simp[d]
def Uk (regs:Int)(bs:List Bf)(os:List Lo)(o:Lo)(h:o.kind=4):F1 (.fn 141) [.agg (Fa regs bs os),.agg o.f] [] fun v _=>v=.bool (I6 regs bs o):=by
 refine E9 r_ref12_fields k_ref12_fields (by simp) ?_;have f:o.f=[.i o.kind,.i o.d,.i o.e,.i o.a,.i o.b,.i o.c,.i o.buf,.u o.imm]:=rfl;have a:∀(x:Int) (b:Bool) {G:Ev},bors G [.agg [.i regs,.lst (Ga bs) bs.length 3,.lst (Gi os) os.length 8],.i x,.bool b] [.agg [.i regs,.lst (Ga bs) bs.length 3,.lst (Gi os) os.length 8],.i x,.bool b]:=fun x b G=>bors_self _ (by simp[dats,LV.dat,Jf,Jv])
 unfold I6;simp[Mt,Fa,f,h,Gj,Gh,Gr,Jg,Jl,Gf];refine E5 (F3 regs _ _ o.d true) (a _ _) ?_;cases g:Fh regs o.d true with
 |false=>simp[g]
 |true =>
 simp;refine E5 (F3 regs _ _ o.e false) (a _ _) ?_;cases j:Fh regs o.e false with
 |false=>simp[j]
 |true =>
 simp;refine E5 (F3 regs _ _ o.a true) (a _ _) ?_;cases l:Fh regs o.a true with
 |false=>simp[l]
 |true =>
 simp;refine E5 (F3 regs _ _ o.b true) (a _ _) ?_;cases m:Fh regs o.b true with
 |false=>simp[m]
 |true =>
 simp;refine E5 (F3 regs _ _ o.c false) (a _ _) ?_;cases p:Fh regs o.c false with
 |false=>simp[p]
 |true =>
 simp;by_cases d:o.buf=0
 case neg=>simp[d]
 simp[d]
def Vv (regs:Int)(bs:List Bf)(os:List Lo)(o:Lo)(h:o.kind=5):F1 (.fn 141) [.agg (Fa regs bs os),.agg o.f] [] fun v _=>v=.bool (I6 regs bs o):=by
 refine E9 r_ref12_fields k_ref12_fields (by simp) ?_;have f:o.f=[.i o.kind,.i o.d,.i o.e,.i o.a,.i o.b,.i o.c,.i o.buf,.u o.imm]:=rfl;have a:∀(x:Int) (b:Bool) {G:Ev},bors G [.agg [.i regs,.lst (Ga bs) bs.length 3,.lst (Gi os) os.length 8],.i x,.bool b] [.agg [.i regs,.lst (Ga bs) bs.length 3,.lst (Gi os) os.length 8],.i x,.bool b]:=fun x b G=>bors_self _ (by simp[dats,LV.dat,Jf,Jv])
 unfold I6;simp[Mt,Fa,f,h,Gj,Gh,Gr,Jg,Jl,Gf];refine E5 (F3 regs _ _ o.d true) (a _ _) ?_;cases g:Fh regs o.d true with
 |false=>simp[g]
 |true =>
 simp;refine E5 (F3 regs _ _ o.e false) (a _ _) ?_;cases j:Fh regs o.e false with
 |false=>simp[j]
 |true =>
 simp;refine E5 (F3 regs _ _ o.a true) (a _ _) ?_;cases l:Fh regs o.a true with
 |false=>simp[l]
 |true =>
 simp;refine E5 (F3 regs _ _ o.b true) (a _ _) ?_;cases m:Fh regs o.b true with
 |false=>simp[m]
 |true =>
 simp;refine E5 (F3 regs _ _ o.c false) (a _ _) ?_;cases p:Fh regs o.c false with
 |false=>simp[p]
 |true =>
 simp;by_cases d:o.buf=0
 case neg=>simp[d]
 simp[d]
def Vx (regs:Int)(bs:List Bf)(os:List Lo)(o:Lo)(h:o.kind=6):F1 (.fn 141) [.agg (Fa regs bs os),.agg o.f] [] fun v _=>v=.bool (I6 regs bs o):=by
 refine E9 r_ref12_fields k_ref12_fields (by simp) ?_;have f:o.f=[.i o.kind,.i o.d,.i o.e,.i o.a,.i o.b,.i o.c,.i o.buf,.u o.imm]:=rfl;have a:∀(x:Int) (b:Bool) {G:Ev},bors G [.agg [.i regs,.lst (Ga bs) bs.length 3,.lst (Gi os) os.length 8],.i x,.bool b] [.agg [.i regs,.lst (Ga bs) bs.length 3,.lst (Gi os) os.length 8],.i x,.bool b]:=fun x b G=>bors_self _ (by simp[dats,LV.dat,Jf,Jv])
 unfold I6;simp[Mt,Fa,f,h,Gj,Gh,Gr,Jg,Jl,Gf];refine E5 (F3 regs _ _ o.d true) (a _ _) ?_;cases g:Fh regs o.d true with
 |false=>simp[g]
 |true =>
 simp;refine E5 (F3 regs _ _ o.e false) (a _ _) ?_;cases j:Fh regs o.e false with
 |false=>simp[j]
 |true =>
 simp;refine E5 (F3 regs _ _ o.a true) (a _ _) ?_;cases l:Fh regs o.a true with
 |false=>simp[l]
 |true =>
 simp;refine E5 (F3 regs _ _ o.b true) (a _ _) ?_;cases m:Fh regs o.b true with
 |false=>simp[m]
 |true =>
 simp;refine E5 (F3 regs _ _ o.c false) (a _ _) ?_;cases p:Fh regs o.c false with
 |false=>simp[p]
 |true =>
 simp;by_cases d:o.buf=0
 case neg=>simp[d]
 simp[d]
def Ur (regs:Int)(bs:List Bf)(os:List Lo)(o:Lo)(h:o.kind=7):F1 (.fn 141) [.agg (Fa regs bs os),.agg o.f] [] fun v _=>v=.bool (I6 regs bs o):=by
 refine E9 r_ref12_fields k_ref12_fields (by simp) ?_;have f:o.f=[.i o.kind,.i o.d,.i o.e,.i o.a,.i o.b,.i o.c,.i o.buf,.u o.imm]:=rfl;have a:∀(x:Int) (b:Bool) {G:Ev},bors G [.agg [.i regs,.lst (Ga bs) bs.length 3,.lst (Gi os) os.length 8],.i x,.bool b] [.agg [.i regs,.lst (Ga bs) bs.length 3,.lst (Gi os) os.length 8],.i x,.bool b]:=fun x b G=>bors_self _ (by simp[dats,LV.dat,Jf,Jv])
 unfold I6;simp[Mt,Fa,f,h,Gj,Gh,Gr,Jg,Jl,Gf];refine E5 (F3 regs _ _ o.d true) (a _ _) ?_;cases g:Fh regs o.d true with
 |false=>simp[g]
 |true =>
 simp;refine E5 (F3 regs _ _ o.e false) (a _ _) ?_;cases j:Fh regs o.e false with
 |false=>simp[j]
 |true =>
 simp;refine E5 (F3 regs _ _ o.a true) (a _ _) ?_;cases l:Fh regs o.a true with
 |false=>simp[l]
 |true =>
 simp;refine E5 (F3 regs _ _ o.b true) (a _ _) ?_;cases m:Fh regs o.b true with
 |false=>simp[m]
 |true =>
 simp;refine E5 (F3 regs _ _ o.c false) (a _ _) ?_;cases p:Fh regs o.c false with
 |false=>simp[p]
 |true =>
 simp;by_cases d:o.buf=0
 case neg=>simp[d]
 simp[d]
def Vy (regs:Int)(bs:List Bf)(os:List Lo)(o:Lo)(h:o.kind=8):F1 (.fn 141) [.agg (Fa regs bs os),.agg o.f] [] fun v _=>v=.bool (I6 regs bs o):=by
 refine E9 r_ref12_fields k_ref12_fields (by simp) ?_;have f:o.f=[.i o.kind,.i o.d,.i o.e,.i o.a,.i o.b,.i o.c,.i o.buf,.u o.imm]:=rfl;have a:∀(x:Int) (b:Bool) {G:Ev},bors G [.agg [.i regs,.lst (Ga bs) bs.length 3,.lst (Gi os) os.length 8],.i x,.bool b] [.agg [.i regs,.lst (Ga bs) bs.length 3,.lst (Gi os) os.length 8],.i x,.bool b]:=fun x b G=>bors_self _ (by simp[dats,LV.dat,Jf,Jv])
 unfold I6;simp[Mt,Fa,f,h,Gj,Gh,Gr,Jg,Jl,Gf];refine E5 (F3 regs _ _ o.d true) (a _ _) ?_;cases g:Fh regs o.d true with
 |false=>simp[g]
 |true =>
 simp;refine E5 (F3 regs _ _ o.e false) (a _ _) ?_;cases j:Fh regs o.e false with
 |false=>simp[j]
 |true =>
 simp;refine E5 (F3 regs _ _ o.a true) (a _ _) ?_;cases l:Fh regs o.a true with
 |false=>simp[l]
 |true =>
 simp;refine E5 (F3 regs _ _ o.b false) (a _ _) ?_;cases m:Fh regs o.b false with
 |false=>simp[m]
 |true =>
 simp;refine E5 (F3 regs _ _ o.c false) (a _ _) ?_;cases p:Fh regs o.c false with
 |false=>simp[p]
 |true =>
 simp;by_cases d:o.buf=0
 case neg=>simp[d]
 by_cases i1:1≤o.imm
 ·have i0:o.imm≠0:=by rintro q;rw[q] at i1;exact absurd i1 (by decide)
  simp[d,i1,i0]
 ·simp[d,i1]
def Xk (regs:Int)(bs:List Bf)(os:List Lo)(o:Lo)(h:o.kind=9):F1 (.fn 141) [.agg (Fa regs bs os),.agg o.f] [] fun v _=>v=.bool (I6 regs bs o):=by
 refine E9 r_ref12_fields k_ref12_fields (by simp) ?_;have f:o.f=[.i o.kind,.i o.d,.i o.e,.i o.a,.i o.b,.i o.c,.i o.buf,.u o.imm]:=rfl;have a:∀(x:Int) (b:Bool) {G:Ev},bors G [.agg [.i regs,.lst (Ga bs) bs.length 3,.lst (Gi os) os.length 8],.i x,.bool b] [.agg [.i regs,.lst (Ga bs) bs.length 3,.lst (Gi os) os.length 8],.i x,.bool b]:=fun x b G=>bors_self _ (by simp[dats,LV.dat,Jf,Jv])
 unfold I6;simp[Mt,Fa,f,h,Gj,Gh,Gr,Jg,Jl,Gf];refine E5 (F3 regs _ _ o.d true) (a _ _) ?_;cases g:Fh regs o.d true with
 |false=>simp[g]
 |true =>
 simp;refine E5 (F3 regs _ _ o.e false) (a _ _) ?_;cases j:Fh regs o.e false with
 |false=>simp[j]
 |true =>
 simp;refine E5 (F3 regs _ _ o.a true) (a _ _) ?_;cases l:Fh regs o.a true with
 |false=>simp[l]
 |true =>
 simp;refine E5 (F3 regs _ _ o.b false) (a _ _) ?_;cases m:Fh regs o.b false with
 |false=>simp[m]
 |true =>
 simp;refine E5 (F3 regs _ _ o.c false) (a _ _) ?_;cases p:Fh regs o.c false with
 |false=>simp[p]
 |true =>
 simp;by_cases d:o.buf=0
 case neg=>simp[d]
 by_cases i1:1≤o.imm
 ·have i0:o.imm≠0:=by rintro q;rw[q] at i1;exact absurd i1 (by decide)
  simp[d,i1,i0]
 ·simp[d,i1]
def zxw (regs:Int)(bs:List Bf)(os:List Lo)(o:Lo)(h:o.kind=10):F1 (.fn 141) [.agg (Fa regs bs os),.agg o.f] [] fun v _=>v=.bool (I6 regs bs o):=by
 refine E9 r_ref12_fields k_ref12_fields (by simp) ?_;have g:o.f=[.i o.kind,.i o.d,.i o.e,.i o.a,.i o.b,.i o.c,.i o.buf,.u o.imm]:=rfl;have a:∀(x:Int) (b:Bool) {G:Ev},bors G [.agg [.i regs,.lst (Ga bs) bs.length 3,.lst (Gi os) os.length 8],.i x,.bool b] [.agg [.i regs,.lst (Ga bs) bs.length 3,.lst (Gi os) os.length 8],.i x,.bool b]:=fun x b G=>bors_self _ (by simp[dats,LV.dat,Jf,Jv])
 unfold I6;simp[Mt,Fa,g,h,Gj,Gh,Gr,Jg,Jl,Gf];refine E5 (F3 regs _ _ o.d true) (a _ _) ?_;cases j:Fh regs o.d true with
 |false=>simp[j]
 |true =>
 simp;refine E5 (F3 regs _ _ o.e true) (a _ _) ?_;cases l:Fh regs o.e true with
 |false=>simp[l]
 |true =>
 simp;refine E5 (F3 regs _ _ o.a true) (a _ _) ?_;cases m:Fh regs o.a true with
 |false=>simp[m]
 |true =>
 simp;refine E5 (F3 regs _ _ o.b true) (a _ _) ?_;cases p:Fh regs o.b true with
 |false=>simp[p]
 |true =>
 simp;refine E5 (F3 regs _ _ o.c false) (a _ _) ?_;cases q:Fh regs o.c false with
 |false=>simp[q]
 |true =>
 simp;by_cases d:o.d=o.e
 ·simp[d]
 simp[d];by_cases f:o.buf=0
 case neg=>simp[f]
 simp[f]
def R8 (regs:Int)(bs:List Bf)(os:List Lo)(o:Lo)(h:o.kind=11):F1 (.fn 141) [.agg (Fa regs bs os),.agg o.f] [] fun v _=>v=.bool (I6 regs bs o):=by
 refine E9 r_ref12_fields k_ref12_fields (by simp) ?_;have g:o.f=[.i o.kind,.i o.d,.i o.e,.i o.a,.i o.b,.i o.c,.i o.buf,.u o.imm]:=rfl;have a:∀(x:Int) (b:Bool) {G:Ev},bors G [.agg [.i regs,.lst (Ga bs) bs.length 3,.lst (Gi os) os.length 8],.i x,.bool b] [.agg [.i regs,.lst (Ga bs) bs.length 3,.lst (Gi os) os.length 8],.i x,.bool b]:=fun x b G=>bors_self _ (by simp[dats,LV.dat,Jf,Jv])
 unfold I6;simp[Mt,Fa,g,h,Gj,Gh,Gr,Jg,Jl,Gf];refine E5 (F3 regs _ _ o.d true) (a _ _) ?_;cases j:Fh regs o.d true with
 |false=>simp[j]
 |true =>
 simp;refine E5 (F3 regs _ _ o.e true) (a _ _) ?_;cases l:Fh regs o.e true with
 |false=>simp[l]
 |true =>
 simp;refine E5 (F3 regs _ _ o.a true) (a _ _) ?_;cases m:Fh regs o.a true with
 |false=>simp[m]
 |true =>
 simp;refine E5 (F3 regs _ _ o.b true) (a _ _) ?_;cases p:Fh regs o.b true with
 |false=>simp[p]
 |true =>
 simp;refine E5 (F3 regs _ _ o.c true) (a _ _) ?_;cases q:Fh regs o.c true with
 |false=>simp[q]
 |true =>
 simp;by_cases d:o.d=o.e
 ·simp[d]
 simp[d];by_cases f:o.buf=0
 case neg=>simp[f]
 simp[f]
def zz9 (regs:Int)(bs:List Bf)(os:List Lo)(o:Lo)(h:o.kind=12):F1 (.fn 141) [.agg (Fa regs bs os),.agg o.f] [] fun v _=>v=.bool (I6 regs bs o):=by
 refine E9 r_ref12_fields k_ref12_fields (by simp) ?_;have g:o.f=[.i o.kind,.i o.d,.i o.e,.i o.a,.i o.b,.i o.c,.i o.buf,.u o.imm]:=rfl;have a:∀(x:Int) (b:Bool) {G:Ev},bors G [.agg [.i regs,.lst (Ga bs) bs.length 3,.lst (Gi os) os.length 8],.i x,.bool b] [.agg [.i regs,.lst (Ga bs) bs.length 3,.lst (Gi os) os.length 8],.i x,.bool b]:=fun x b G=>bors_self _ (by simp[dats,LV.dat,Jf,Jv])
 unfold I6;simp[Mt,Fa,g,h,Gj,Gh,Gr,Jg,Jl,Gf];refine E5 (F3 regs _ _ o.d true) (a _ _) ?_;cases j:Fh regs o.d true with
 |false=>simp[j]
 |true =>
 simp;refine E5 (F3 regs _ _ o.e true) (a _ _) ?_;cases l:Fh regs o.e true with
 |false=>simp[l]
 |true =>
 simp;refine E5 (F3 regs _ _ o.a true) (a _ _) ?_;cases m:Fh regs o.a true with
 |false=>simp[m]
 |true =>
 simp;refine E5 (F3 regs _ _ o.b true) (a _ _) ?_;cases p:Fh regs o.b true with
 |false=>simp[p]
 |true =>
 simp;refine E5 (F3 regs _ _ o.c true) (a _ _) ?_;cases q:Fh regs o.c true with
 |false=>simp[q]
 |true =>
 simp;by_cases d:o.d=o.e
 ·simp[d]
 simp[d];by_cases f:o.buf=0
 case neg=>simp[f]
 simp[f]
def zzm (regs:Int)(bs:List Bf)(os:List Lo)(o:Lo)(h:o.kind=13):F1 (.fn 141) [.agg (Fa regs bs os),.agg o.f] [] fun v _=>v=.bool (I6 regs bs o):=by
 refine E9 r_ref12_fields k_ref12_fields (by simp) ?_;have f:o.f=[.i o.kind,.i o.d,.i o.e,.i o.a,.i o.b,.i o.c,.i o.buf,.u o.imm]:=rfl;have a:∀(x:Int) (b:Bool) {G:Ev},bors G [.agg [.i regs,.lst (Ga bs) bs.length 3,.lst (Gi os) os.length 8],.i x,.bool b] [.agg [.i regs,.lst (Ga bs) bs.length 3,.lst (Gi os) os.length 8],.i x,.bool b]:=fun x b G=>bors_self _ (by simp[dats,LV.dat,Jf,Jv])
 unfold I6;simp[Mt,Fa,f,h,Gj,Gh,Gr,Jg,Jl,Gf];refine E5 (F3 regs _ _ o.d true) (a _ _) ?_;cases g:Fh regs o.d true with
 |false=>simp[g]
 |true =>
 simp;refine E5 (F3 regs _ _ o.e false) (a _ _) ?_;cases j:Fh regs o.e false with
 |false=>simp[j]
 |true =>
 simp;refine E5 (F3 regs _ _ o.a true) (a _ _) ?_;cases l:Fh regs o.a true with
 |false=>simp[l]
 |true =>
 simp;refine E5 (F3 regs _ _ o.b true) (a _ _) ?_;cases m:Fh regs o.b true with
 |false=>simp[m]
 |true =>
 simp;refine E5 (F3 regs _ _ o.c true) (a _ _) ?_;cases p:Fh regs o.c true with
 |false=>simp[p]
 |true =>
 simp;by_cases d:o.buf=0
 case neg=>simp[d]
 simp[d]
def zyo (regs:Int)(bs:List Bf)(os:List Lo)(o:Lo)(h:o.kind=14):F1 (.fn 141) [.agg (Fa regs bs os),.agg o.f] [] fun v _=>v=.bool (I6 regs bs o):=by
 refine E9 r_ref12_fields k_ref12_fields (by simp) ?_;have C:o.f=[.i o.kind,.i o.d,.i o.e,.i o.a,.i o.b,.i o.c,.i o.buf,.u o.imm]:=rfl;have d:∀(x:Int) (b:Bool) {G:Ev},bors G [.agg [.i regs,.lst (Ga bs) bs.length 3,.lst (Gi os) os.length 8],.i x,.bool b] [.agg [.i regs,.lst (Ga bs) bs.length 3,.lst (Gi os) os.length 8],.i x,.bool b]:=fun x b G=>bors_self _ (by simp[dats,LV.dat,Jf,Jv])
 unfold I6;simp[Mt,Fa,C,h,Gj,Gh,Gr,Jg,Jl,Gf];refine E5 (F3 regs _ _ o.d true) (d _ _) ?_;cases D:Fh regs o.d true with
 |false=>simp[D]
 |true =>
 simp;refine E5 (F3 regs _ _ o.e false) (d _ _) ?_;cases E:Fh regs o.e false with
 |false=>simp[E]
 |true =>
 simp;refine E5 (F3 regs _ _ o.a true) (d _ _) ?_;cases H:Fh regs o.a true with
 |false =>
  by_cases j:o.a=-1
  case neg=>simp[j]
  simp[j];refine E5 (F3 regs _ _ o.b false) (d _ _) ?_;cases w:Fh regs o.b false with
  |false=>simp[w]
  |true =>
  simp;refine E5 (F3 regs _ _ o.c false) (d _ _) ?_;cases y:Fh regs o.c false with
  |false=>simp[y]
  |true =>
  simp;by_cases l:o.buf<0
  ·have z:¬0≤o.buf:=by omega
   simp[l,z]
  have g:0≤o.buf:=by omega
  by_cases A:(bs.length:Int)≤o.buf
  ·have m:¬o.buf<bs.length:=by omega
   simp[l,A,m]
  have m:o.buf<bs.length:=by omega
  obtain⟨n,p⟩:=Af g;have a:n<bs.length:=by omega
  have q:=Kl a;have r:=Yf q;have F:=jz q;have B:=Yp a;have f:¬bs.length≤n:=by omega
  have s:¬(n:Int)<0:=by omega
  simp[s,f,p,a,Fu r,j]
 |true =>
 simp;refine E5 (F3 regs _ _ o.b false) (d _ _) ?_;cases w:Fh regs o.b false with
 |false=>simp[w]
 |true =>
 simp;refine E5 (F3 regs _ _ o.c false) (d _ _) ?_;cases y:Fh regs o.c false with
 |false=>simp[y]
 |true =>
 simp;by_cases l:o.buf<0
 ·have z:¬0≤o.buf:=by omega
  simp[l,z]
 have g:0≤o.buf:=by omega
 by_cases A:(bs.length:Int)≤o.buf
 ·have m:¬o.buf<bs.length:=by omega
  simp[l,A,m]
 have m:o.buf<bs.length:=by omega
 obtain⟨n,p⟩:=Af g;have a:n<bs.length:=by omega
 have q:=Kl a;have r:=Yf q;have F:=jz q;have B:=Yp a;have f:¬bs.length≤n:=by omega
 have s:¬(n:Int)<0:=by omega
 by_cases j:o.a=-1
 ·simp[s,f,p,a,Fu r,j]
 simp[s,f,p,a,Fu r,j]
def zxe (regs:Int)(bs:List Bf)(os:List Lo)(o:Lo)(h:o.kind=15):F1 (.fn 141) [.agg (Fa regs bs os),.agg o.f] [] fun v _=>v=.bool (I6 regs bs o):=by
 refine E9 r_ref12_fields k_ref12_fields (by simp) ?_;have D:o.f=[.i o.kind,.i o.d,.i o.e,.i o.a,.i o.b,.i o.c,.i o.buf,.u o.imm]:=rfl;have f:∀(x:Int) (b:Bool) {G:Ev},bors G [.agg [.i regs,.lst (Ga bs) bs.length 3,.lst (Gi os) os.length 8],.i x,.bool b] [.agg [.i regs,.lst (Ga bs) bs.length 3,.lst (Gi os) os.length 8],.i x,.bool b]:=fun x b G=>bors_self _ (by simp[dats,LV.dat,Jf,Jv])
 unfold I6;simp[Mt,Fa,D,h,Gj,Gh,Gr,Jg,Jl,Gf];refine E5 (F3 regs _ _ o.d false) (f _ _) ?_;cases E:Fh regs o.d false with
 |false=>simp[E]
 |true =>
 simp;refine E5 (F3 regs _ _ o.e false) (f _ _) ?_;cases F:Fh regs o.e false with
 |false=>simp[F]
 |true =>
 simp;refine E5 (F3 regs _ _ o.a true) (f _ _) ?_;cases H:Fh regs o.a true with
 |false =>
  by_cases j:o.a=-1
  case neg=>simp[j]
  simp[j];refine E5 (F3 regs _ _ o.b true) (f _ _) ?_;cases y:Fh regs o.b true with
  |false=>simp[y]
  |true =>
  simp;refine E5 (F3 regs _ _ o.c false) (f _ _) ?_;cases z:Fh regs o.c false with
  |false=>simp[z]
  |true =>
  simp;by_cases r:o.buf<0
  ·have A:¬0≤o.buf:=by omega
   simp[r,A]
  have g:0≤o.buf:=by omega
  by_cases B:(bs.length:Int)≤o.buf
  ·have s:¬o.buf<bs.length:=by omega
   simp[r,B,s]
  have s:o.buf<bs.length:=by omega
  obtain⟨n,l⟩:=Af g;have a:n<bs.length:=by omega
  have q:=Kl a;have w:=Yf q;have m:=jz q;have C:=Yp a;have d:¬bs.length≤n:=by omega
  have p:¬(n:Int)<0:=by omega
  by_cases kb:(Fk bs n).kind=1
  ·simp[p,d,l,a,Fu m,kb]
  simp[p,d,l,a,Fu w,j,Fu m,kb]
 |true =>
 simp;refine E5 (F3 regs _ _ o.b true) (f _ _) ?_;cases y:Fh regs o.b true with
 |false=>simp[y]
 |true =>
 simp;refine E5 (F3 regs _ _ o.c false) (f _ _) ?_;cases z:Fh regs o.c false with
 |false=>simp[z]
 |true =>
 simp;by_cases r:o.buf<0
 ·have A:¬0≤o.buf:=by omega
  simp[r,A]
 have g:0≤o.buf:=by omega
 by_cases B:(bs.length:Int)≤o.buf
 ·have s:¬o.buf<bs.length:=by omega
  simp[r,B,s]
 have s:o.buf<bs.length:=by omega
 obtain⟨n,l⟩:=Af g;have a:n<bs.length:=by omega
 have q:=Kl a;have w:=Yf q;have m:=jz q;have C:=Yp a;have d:¬bs.length≤n:=by omega
 have p:¬(n:Int)<0:=by omega
 by_cases kb:(Fk bs n).kind=1
 ·simp[p,d,l,a,Fu m,kb]
 by_cases j:o.a=-1
 ·simp[p,d,l,a,Fu w,j,Fu m,kb]
 simp[p,d,l,a,Fu w,j,Fu m,kb]
def zyb (regs:Int)(bs:List Bf)(os:List Lo)(o:Lo)(h:o.kind=16):F1 (.fn 141) [.agg (Fa regs bs os),.agg o.f] [] fun v _=>v=.bool (I6 regs bs o):=by
 refine E9 r_ref12_fields k_ref12_fields (by simp) ?_;have f:o.f=[.i o.kind,.i o.d,.i o.e,.i o.a,.i o.b,.i o.c,.i o.buf,.u o.imm]:=rfl;have a:∀(x:Int) (b:Bool) {G:Ev},bors G [.agg [.i regs,.lst (Ga bs) bs.length 3,.lst (Gi os) os.length 8],.i x,.bool b] [.agg [.i regs,.lst (Ga bs) bs.length 3,.lst (Gi os) os.length 8],.i x,.bool b]:=fun x b G=>bors_self _ (by simp[dats,LV.dat,Jf,Jv])
 unfold I6;simp[Mt,Fa,f,h,Gj,Gh,Gr,Jg,Jl,Gf];refine E5 (F3 regs _ _ o.d true) (a _ _) ?_;cases g:Fh regs o.d true with
 |false=>simp[g]
 |true =>
 simp;refine E5 (F3 regs _ _ o.e false) (a _ _) ?_;cases j:Fh regs o.e false with
 |false=>simp[j]
 |true =>
 simp;refine E5 (F3 regs _ _ o.a false) (a _ _) ?_;cases l:Fh regs o.a false with
 |false=>simp[l]
 |true =>
 simp;refine E5 (F3 regs _ _ o.b false) (a _ _) ?_;cases m:Fh regs o.b false with
 |false=>simp[m]
 |true =>
 simp;refine E5 (F3 regs _ _ o.c false) (a _ _) ?_;cases p:Fh regs o.c false with
 |false=>simp[p]
 |true =>
 simp;by_cases d:o.buf=0
 case neg=>simp[d]
 by_cases i1:1≤o.imm
 ·have i0:o.imm≠0:=by rintro q;rw[q] at i1;exact absurd i1 (by decide)
  simp[d,i1,i0]
 ·simp[d,i1]
def zxc (regs:Int)(bs:List Bf)(os:List Lo)(o:Lo)(h:o.kind=17):F1 (.fn 141) [.agg (Fa regs bs os),.agg o.f] [] fun v _=>v=.bool (I6 regs bs o):=by
 refine E9 r_ref12_fields k_ref12_fields (by simp) ?_;have f:o.f=[.i o.kind,.i o.d,.i o.e,.i o.a,.i o.b,.i o.c,.i o.buf,.u o.imm]:=rfl;have a:∀(x:Int) (b:Bool) {G:Ev},bors G [.agg [.i regs,.lst (Ga bs) bs.length 3,.lst (Gi os) os.length 8],.i x,.bool b] [.agg [.i regs,.lst (Ga bs) bs.length 3,.lst (Gi os) os.length 8],.i x,.bool b]:=fun x b G=>bors_self _ (by simp[dats,LV.dat,Jf,Jv])
 unfold I6;simp[Mt,Fa,f,h,Gj,Gh,Gr,Jg,Jl,Gf];refine E5 (F3 regs _ _ o.d false) (a _ _) ?_;cases g:Fh regs o.d false with
 |false=>simp[g]
 |true =>
 simp;refine E5 (F3 regs _ _ o.e false) (a _ _) ?_;cases j:Fh regs o.e false with
 |false=>simp[j]
 |true =>
 simp;refine E5 (F3 regs _ _ o.a false) (a _ _) ?_;cases l:Fh regs o.a false with
 |false=>simp[l]
 |true =>
 simp;refine E5 (F3 regs _ _ o.b false) (a _ _) ?_;cases m:Fh regs o.b false with
 |false=>simp[m]
 |true =>
 simp;refine E5 (F3 regs _ _ o.c false) (a _ _) ?_;cases p:Fh regs o.c false with
 |false=>simp[p]
 |true =>
 simp;by_cases d:o.buf=0
 case neg=>simp[d]
 simp[d]
def zho (regs:Int)(bs:List Bf)(os:List Lo)(o:Lo):F4 141 [.agg (Fa regs bs os),.agg o.f] (.bool (Ib regs bs o)) []:=by
 refine Hg.val rfl ?_;have f:o.f=[.i o.kind,.i o.d,.i o.e,.i o.a,.i o.b,.i o.c,.i o.buf,.u o.imm]:=rfl;by_cases g:o.kind<1
 ·have a:¬1≤o.kind:=by omega
  refine E9 r_ref12_fields k_ref12_fields (by simp) ?_;simp[Mt,Fa,f,g,a,Ib]
 by_cases d:17<o.kind
 ·have a:¬o.kind≤17:=by omega
  refine E9 r_ref12_fields k_ref12_fields (by simp) ?_;simp[Mt,Fa,f,g,d,a,Ib]
 have j:1≤o.kind∧o.kind≤17:=by omega
 have l:Ib regs bs o=I6 regs bs o:=by
  unfold Ib I6;simp[j]
 rw[l];rcases zfi o.kind with h|h|h|h|h|h|h|h|h|h|h|h|h|h|h|h|h|h|h
 ·omega
 ·exact Uf regs bs os o h
 ·exact U2 regs bs os o h
 ·exact Wn regs bs os o h
 ·exact Uk regs bs os o h
 ·exact Vv regs bs os o h
 ·exact Vx regs bs os o h
 ·exact Ur regs bs os o h
 ·exact Vy regs bs os o h
 ·exact Xk regs bs os o h
 ·exact zxw regs bs os o h
 ·exact R8 regs bs os o h
 ·exact zz9 regs bs os o h
 ·exact zzm regs bs os o h
 ·exact zyo regs bs os o h
 ·exact zxe regs bs os o h
 ·exact zyb regs bs os o h
 ·exact zxc regs bs os o h
 ·omega
def x8:LC:=(.q [.z 1 (.box (.t 0)),.z 2 (.move (.k 0)),.z 3 (.move (.k 0))] (.seq (.q [.f 15 0 1,.l 16 15,.z 17 (.bin .gtr true 3 (.t 16) (.k 64)),.m 18 17,.n 19 18 (.fieldAddr 1 (.t 1)),.n 20 18 (.load1 (.t 19)),.n 21 18 (.lenSl (.t 20)),.n 22 18 (.bin .gtr true 3 (.t 21) (.k 32)),.z 23 (.pick (.t 18) .T (.t 22)),.m 24 23,.n 25 24 (.fieldAddr 2 (.t 1)),.n 26 24 (.load1 (.t 25)),.n 27 24 (.lenSl (.t 26)),.n 28 24 (.bin .gtr true 3 (.t 27) (.k 65536)),.z 29 (.pick (.t 24) .T (.t 28))] (.cond (.t 29) (.q [.z 2 (.move (.k 0)),.z 3 (.move (.k 3))] .ret) .skip)) (.seq (.q [.z 4 (.move (.k 0))] (.block 0 (.loop (.seq (.q [.m 30 4,.f 31 1 1,.l 32 31,.z 33 (.lenSl (.t 32)),.z 34 (.bin .lss false 3 (.t 30) (.t 33))] (.cond (.t 34) .skip (.exit 0))) (.seq (.block 1 (.q [.f 37 1 1,.l 38 37,.m 39 4,.z 40 (.ixAddr 3 (.t 38) (.t 39)),.f 41 0 40,.l 42 41,.z 43 (.bin .gtr true 3 (.t 42) (.k 65536))] (.cond (.t 43) (.q [.z 2 (.move (.k 0)),.z 3 (.move (.k 3))] .ret) .skip))) (.ops [.m 35 4,.z 36 (.bin .add true 3 (.t 35) (.k 1)),.m 4 36])))))) (.seq (.q [.f 44 0 1,.l 45 44,.z 46 (.bin .lss true 3 (.t 45) (.k 0))] (.cond (.t 46) (.q [.z 2 (.move (.k 0)),.z 3 (.move (.k 2))] .ret) .skip)) (.seq (.q [.z 5 (.move (.k 0))] (.block 2 (.loop (.seq (.q [.m 47 5,.f 48 1 1,.l 49 48,.z 50 (.lenSl (.t 49)),.z 51 (.bin .lss false 3 (.t 47) (.t 50))] (.cond (.t 51) .skip (.exit 2))) (.seq (.block 3 (.q [.f 54 1 1,.l 55 54,.m 56 5,.z 57 (.ixAddr 3 (.t 55) (.t 56)),.f 58 0 57,.l 59 58,.z 60 (.bin .lss true 3 (.t 59) (.k 1)),.m 61 60,.n 62 61 (.fieldAddr 1 (.t 1)),.n 63 61 (.load1 (.t 62)),.mn 64 61 5,.n 65 61 (.ixAddr 3 (.t 63) (.t 64)),.n 66 61 (.fieldAddr 1 (.t 65)),.n 67 61 (.load1 (.t 66)),.n 68 61 (.bin .lss true 3 (.t 67) (.k 1)),.z 69 (.pick (.t 61) .T (.t 68)),.m 70 69,.n 71 70 (.fieldAddr 1 (.t 1)),.n 72 70 (.load1 (.t 71)),.mn 73 70 5,.n 74 70 (.ixAddr 3 (.t 72) (.t 73)),.n 75 70 (.fieldAddr 1 (.t 74)),.n 76 70 (.load1 (.t 75)),.n 77 70 (.bin .gtr true 3 (.t 76) (.k 3)),.z 78 (.pick (.t 70) .T (.t 77))] (.cond (.t 78) (.q [.z 2 (.move (.k 0)),.z 3 (.move (.k 2))] .ret) .skip))) (.ops [.m 52 5,.z 53 (.bin .add true 3 (.t 52) (.k 1)),.m 5 53])))))) (.q [.f 79 0 1,.l 80 79,.z 81 (.mkSl 1 [(.bool false)] (.t 80) (.t 80)),.m 6 81] (.q [.z 7 (.move (.c .nilSl))] (.seq (.q [.z 8 (.move (.k 0))] (.block 4 (.loop (.seq (.q [.m 82 8,.f 83 2 1,.l 84 83,.z 85 (.lenSl (.t 84)),.z 86 (.bin .lss false 3 (.t 82) (.t 85))] (.cond (.t 86) .skip (.exit 4))) (.seq (.block 5 (.q [.f 89 2 1,.l 90 89,.m 91 8,.z 92 (.ixAddr 8 (.t 90) (.t 91)),.z 93 (.loadN 8 (.t 92)),.z 9 (.alloc [(.i 0),(.i 0),(.i 0),(.i 0),(.i 0),(.i 0),(.i 0),(.u 0)]),.v (.store 8 (.t 9) (.t 93))] (.seq (.q [.z 94 (.loadN 3 (.t 1)),.z 95 (.loadN 8 (.t 9)),.z 96 (.w 141 [.t 94,.t 95]),.z 97 (.un .not (.t 96))] (.cond (.t 97) (.q [.m 98 8,.m 2 98,.z 3 (.move (.k 2))] .ret) .skip)) (.seq (.q [.f 99 0 9,.l 100 99,.z 101 (.bin .eql true 3 (.t 100) (.k 17))] (.cond (.t 101) (.seq (.q [.m 102 7,.z 103 (.lenSl (.t 102)),.z 104 (.bin .eql true 3 (.t 103) (.k 0))] (.cond (.t 104) (.q [.m 105 8,.m 2 105,.z 3 (.move (.k 9))] .ret) .skip)) (.q [.m 106 6,.m 107 7,.m 108 7,.z 109 (.lenSl (.t 108)),.z 110 (.bin .sub true 3 (.t 109) (.k 1)),.z 111 (.ixAddr 1 (.t 107) (.t 110)),.l 112 111,.z 113 (.ixAddr 1 (.t 106) (.t 112)),.v (.store 1 (.t 113) .F)] (.q [.m 114 7,.m 115 7,.z 116 (.lenSl (.t 115)),.z 117 (.bin .sub true 3 (.t 116) (.k 1)),.z 118 (.slSl 1 (.t 114) none (some (.t 117))),.m 7 118] (.exit 5)))) .skip)) (.seq (.draw [(.z 119 (.loadN 8 (.t 9)),[]),(.z 121 (.loadN 8 (.t 9)),[]),(.z 120 (.w 142 [.t 119]),[(.z 121 (.loadN 8 (.t 9)),false)]),(.z 122 (.w 143 [.t 121]),[]),(.m 10 120,[]),(.m 11 122,[])]) (.seq (.q [.z 12 (.move (.k 0))] (.block 6 (.loop (.seq (.q [.m 123 12,.m 124 10,.z 125 (.lenSl (.t 124)),.z 126 (.bin .lss false 3 (.t 123) (.t 125))] (.cond (.t 126) .skip (.exit 6))) (.seq (.block 7 (.q [.m 129 7,.m 130 10,.m 131 12,.z 132 (.ixAddr 1 (.t 130) (.t 131)),.l 133 132,.z 134 (.w 144 [.t 129,.t 133])] (.cond (.t 134) (.q [.m 135 8,.m 2 135,.z 3 (.move (.k 9))] .ret) .skip))) (.ops [.m 127 12,.z 128 (.bin .add true 3 (.t 127) (.k 1)),.m 12 128])))))) (.seq (.q [.f 136 0 9,.l 137 136,.z 138 (.bin .eql true 3 (.t 137) (.k 16)),.m 139 138,.my 140 139 6,.y 141 139 (.fieldAddr 1 (.t 9)),.y 142 139 (.load1 (.t 141)),.y 143 139 (.ixAddr 1 (.t 140) (.t 142)),.y 144 139 (.load1 (.t 143)),.z 145 (.pick (.t 139) (.t 144) .F)] (.cond (.t 145) (.q [.m 146 8,.m 2 146,.z 3 (.move (.k 9))] .ret) .skip)) (.seq (.q [.f 147 0 9,.l 148 147,.z 149 (.bin .eql true 3 (.t 148) (.k 16)),.m 150 149,.my 151 150 7,.y 152 150 (.lenSl (.t 151)),.y 153 150 (.bin .eql true 3 (.t 152) (.k 8)),.z 154 (.pick (.t 150) (.t 153) .F)] (.cond (.t 154) (.q [.m 155 8,.m 2 155,.z 3 (.move (.k 10))] .ret) .skip)) (.seq (.q [.z 13 (.move (.k 0))] (.block 8 (.loop (.seq (.q [.m 156 13,.m 157 11,.z 158 (.lenSl (.t 157)),.z 159 (.bin .lss false 3 (.t 156) (.t 158))] (.cond (.t 159) .skip (.exit 8))) (.seq (.block 9 (.q [.m 162 6,.m 163 11,.m 164 13,.z 165 (.ixAddr 1 (.t 163) (.t 164)),.l 166 165,.z 167 (.ixAddr 1 (.t 162) (.t 166)),.l 168 167,.z 169 (.un .not (.t 168))] (.cond (.t 169) (.q [.m 170 8,.m 2 170,.z 3 (.move (.k 5))] .ret) .skip))) (.ops [.m 160 13,.z 161 (.bin .add true 3 (.t 160) (.k 1)),.m 13 161])))))) (.seq (.q [.z 14 (.move (.k 0))] (.block 10 (.loop (.seq (.q [.m 171 14,.m 172 10,.z 173 (.lenSl (.t 172)),.z 174 (.bin .lss false 3 (.t 171) (.t 173))] (.cond (.t 174) .skip (.exit 10))) (.seq (.block 11 (.ops [.m 177 6,.m 178 10,.m 179 14,.z 180 (.ixAddr 1 (.t 178) (.t 179)),.l 181 180,.z 182 (.ixAddr 1 (.t 177) (.t 181)),.v (.store 1 (.t 182) .T)])) (.ops [.m 175 14,.z 176 (.bin .add true 3 (.t 175) (.k 1)),.m 14 176])))))) (.q [.f 183 0 9,.l 184 183,.z 185 (.bin .eql true 3 (.t 184) (.k 16))] (.cond (.t 185) (.ops [.m 186 7,.f 187 1 9,.l 188 187,.z 189 (.buildSl 1 1 [(.i 0)] [(0,1,.t 188)]),.z 190 (.appG 1 (.t 186) (.t 189)),.m 7 190]) .skip)))))))))))) (.ops [.m 87 8,.z 88 (.bin .add true 3 (.t 87) (.k 1)),.m 8 88])))))) (.seq (.q [.m 191 7,.z 192 (.lenSl (.t 191)),.z 193 (.bin .gtr true 3 (.t 192) (.k 0))] (.cond (.t 193) (.q [.f 194 2 1,.l 195 194,.z 196 (.lenSl (.t 195)),.m 2 196,.z 3 (.move (.k 9))] .ret) .skip)) (.q [.f 197 2 1,.l 198 197,.z 199 (.lenSl (.t 198)),.m 2 199,.z 3 (.move (.k 0))] .ret))))))))))
def r_ref12_Check:Fg Tryz.prog 78=some ⟨200,x8.r,[.tmp 2,.tmp 3]⟩:=by kernel_rfl
def zky {m:List Bool}{l:List Int}(h:∀x∈l,I0 m x=true):(l.any fun r=>!I0 m r)=false:=by
 rw[D7];intro x a;simp[h x a]
def zp1 {m:List Bool}{l:List Int}{x:Int}(a:x∈l)(h:I0 m x=false):(l.any fun r=>!I0 m r)=true:=by
 rw[Bv];exact⟨x,a,by simp[h]⟩
def zw {l:List Int}{j:Nat}(h:j<l.length):l.take (j+1)=l.take j++[gd l j]:=by
 rw[Cj h];simp[gd,Ae,h]
def xd {l:List Int}{j:Nat}(h:j<l.length):gd l j∈l:=by
 simp[gd,Ae,h]
def zbd {regs:Int}{bs:List Bf}{o:Lo}(h:Ib regs bs o=true):(∀x∈Ht o,0≤x∧x<regs)∧(∀x∈E8 o,0≤x∧x<regs)∧(o.kind=16→0≤o.d∧o.d<regs):=by
 unfold Ib at h;simp only[Ac,Ao] at h;obtain⟨⟨g,j⟩,d,e,a,b,c,_⟩:=h;have f1:∀x,Fh regs x true=true→0≤x∧x<regs:=fun x h=>by
  unfold Fh at h;simpa using h
 rcases zfi o.kind with h|h|h|h|h|h|h|h|h|h|h|h|h|h|h|h|h|h|h
 case inl=>omega
 case inr.inr.inr.inr.inr.inr.inr.inr.inr.inr.inr.inr.inr.inr.inr.inr.inr.inr=>omega
 case inr.inr.inr.inr.inr.inr.inr.inr.inr.inr.inr.inr.inr.inr.inl|inr.inr.inr.inr.inr.inr.inr.inr.inr.inr.inr.inr.inr.inr.inr.inl =>
  simp[h,Gj,Gh,Gr,Jg,Jl,Gf,Fh] at d e a b c;by_cases f:o.a=-1<;>simp[f] at a<;>simp[Ht,E8,h,f]<;>omega
 all_goals
  simp[h,Gj,Gh,Gr,Jg,Jl,Gf,Fh] at d e a b c;simp[Ht,E8,h]
  try omega
def zva (o:Lo):(E8 o).length≤2:=by
 unfold E8;repeat' split
 all_goals simp
def zvi (o:Lo):(Ht o).length≤3:=by
 unfold Ht;repeat' split
 all_goals simp
def z8g (regs:Int)(bs:List Bf)(os:List Lo):F4 78 [.agg (Fa regs bs os)] (.tup [.i (Jq regs bs os).1,.i (Jq regs bs os).2]) []:=by
 refine Hg.val rfl (E9 r_ref12_Check (by kernel_rfl) (by simp) ?_);by_cases g1:64<regs
 ·simp[x8,Fa,Jq,g1]
 by_cases g2:32<bs.length
 ·have aF:(32:Int)<bs.length:=by omega
  simp[x8,Fa,Jq,g1,g2,aF]
 have aF:¬(32:Int)<bs.length:=by omega
 by_cases g3:65536<os.length
 ·have aM:(65536:Int)<os.length:=by omega
  simp[x8,Fa,Jq,g1,g2,aF,g3,aM]
 have aM:¬(65536:Int)<os.length:=by omega
 obtain⟨R,B⟩:∃R,Jq regs bs os=R:=⟨_,rfl⟩;rw[B];unfold Jq at B;rw[Ab (by omega)] at B;simp[x8,Fa,g1,g2,aF,g3,aM];refine Iw (fun ρ D G N=>∃i:Nat,D=[]∧G=[.cells (Fa regs bs os) 0]∧N+i=bs.length∧lk ρ 1=.ptr 0 0∧lk ρ 4=.i i∧∀j,j<i→¬65536<(Fk bs j).size) (N:=bs.length) ⟨0,rfl,by simp[Fa],by omega,by simp,by simp,fun j h=>by omega⟩ ?_;rintro N ρ D G ⟨i,rfl,rfl,hN,w,h4,L⟩ Nx ah;by_cases g:i<bs.length
 ·have q0:=Yf (Kl g);have hm:Fk bs i∈bs:=A7 (Kl g);by_cases e:65536<(Fk bs i).size
  ·have S:(bs.any fun b=>decide (65536<b.size))=true:=Bv.2 ⟨_,hm,by simpa using e⟩;rw[Ai S] at B;subst B;simp[w,h4,Fa,g,Fu q0,e]
  ·simp[w,h4,Fa,g,Fu q0,e];refine⟨by omega,ah _ _ _ ⟨N - 1,by omega,i+1,rfl,by simp[Fa],by omega,by simp[w],by simp,fun j hj=>?_⟩⟩;by_cases q:j=i
   ·rw[q];exact e
   ·exact L j (by omega)
 have S:¬(bs.any fun b=>decide (65536<b.size))=true:=by
  rw[Bv];rintro⟨b,hb,h⟩;obtain⟨j,hj,rfl⟩:=Cq.1 hb;have:=L j (by omega);have h2:=Kl hj;rw[Ah hj] at h2;rw[←Option.some.inj h2] at this;exact this (by simpa using h)
 rw[Ab S] at B;clear S L;by_cases g4:regs<0
 ·rw[Ai g4] at B;subst B;simp[w,h4,Fa,g,g4]
 rw[Ab g4] at B;have e0:¬i<bs.length:=g;simp[w,h4,Fa,e0,g4];refine Iw (fun ρ D G N=>∃i:Nat,D=[]∧G=[.cells (Fa regs bs os) 0]∧N+i=bs.length∧lk ρ 1=.ptr 0 0∧lk ρ 5=.i i∧∀j,j<i→¬((Fk bs j).size<1∨(Fk bs j).kind<1∨3<(Fk bs j).kind)) (N:=bs.length) ⟨0,rfl,by simp[Fa],by omega,by simp[w],by simp,fun j h=>by omega⟩ ?_;clear w h4 hN ah Nx ρ N e0 g;rintro N ρ D G ⟨i,rfl,rfl,hN,w,h5,L⟩ Nx ah;by_cases g:i<bs.length
 ·have q0:=Yf (Kl g);have q1:=jz (Kl g);have hm:Fk bs i∈bs:=A7 (Kl g);have bad:((Fk bs i).size<1∨(Fk bs i).kind<1∨3<(Fk bs i).kind)→R=(0,2):=fun e=>by
   have S:(bs.any fun b=>decide (b.size<1) || (decide (b.kind<1) || decide (3<b.kind)))=true:=Bv.2 ⟨_,hm,by simpa using e⟩;rw[Ai S] at B;exact B.symm
  by_cases e1:(Fk bs i).size<1
  ·rw[bad (.inl e1)];simp[w,h5,Fa,g,Fu q0,Fu q1,e1]
  by_cases e2:(Fk bs i).kind<1
  ·rw[bad (.inr (.inl e2))];simp[w,h5,Fa,g,Fu q0,Fu q1,e1,e2]
  by_cases e3:3<(Fk bs i).kind
  ·rw[bad (.inr (.inr e3))];simp[w,h5,Fa,g,Fu q0,Fu q1,e1,e2,e3]
  simp[w,h5,Fa,g,Fu q0,Fu q1,e1,e2,e3];refine⟨by omega,ah _ _ _ ⟨N - 1,by omega,i+1,rfl,by simp[Fa],by omega,by simp[w],by simp,fun j hj=>?_⟩⟩;by_cases q:j=i
  ·rw[q];omega
  ·exact L j (by omega)
 have S:¬(bs.any fun b=>decide (b.size<1) || (decide (b.kind<1) || decide (3<b.kind)))=true:=by
  rw[Bv];rintro⟨b,hb,h⟩;obtain⟨j,hj,rfl⟩:=Cq.1 hb;have:=L j (by omega);have h2:=Kl hj;rw[Ah hj] at h2;rw[←Option.some.inj h2] at this;exact this (by simpa using h)
 rw[Ab S] at B;clear S L;obtain⟨r,rfl⟩:=Af (show 0≤regs by omega);have dj:r≤64:=by omega
 simp[w,h5,Fa,g];refine⟨by omega,?_⟩;refine Iw (fun ρ D G N=>∃(i st:Nat) (m:List Bool) (ls:List Int) (v:LV),D=[]∧N+i=os.length∧lk ρ 1=.ptr 0 0∧lk ρ 6=.dy 1 0∧lk ρ 7=v∧lk ρ 8=.i i∧G[0]?=some (.cells (Fa r bs os) 0)∧G[1]?=some (.dyn (m.map .bool) r 1 0 st)∧m.length=r∧Gu 2 G v 1 ls.length (ls.map .i)∧2≤G.length ∧
   (∀x∈ls,0≤x∧x<r)∧ls.length≤8∧Rz r bs i m ls (os.drop i)=R) (N:=os.length)
  ⟨0,0,List.replicate r false,[],.nilSl,rfl,by omega,by simp[w],by simp,by simp,by simp,by simp[Fa],by simp[y4],by simp,Gu.nil,by simp,by simp,by simp,by simpa using B⟩ ?_
 clear w h5 hN ah Nx ρ N B g;rintro N ρ D G ⟨i,st,m,ls,v,rfl,hN,w,E,J,C,aj,aZ,ao,aN,dp,aG,aS,B⟩ Nx ah;by_cases g:i<os.length
 case neg =>
  rw[Cu (by omega)] at B;unfold Rz at B;by_cases hn:ls=[]
  ·rw[Ai hn] at B;subst B hn;simp[w,C,aj,Fa,g,J];refine aN.lenL ?_;simp[w,aj,Fa];omega
  ·rw[Ab hn] at B;subst B;have L:0<(ls.length:Int):=by
    have:=List.length_pos_iff.2 hn;omega
   simp[w,C,aj,Fa,g,J];refine aN.lenL ?_;simp[L,w,aj,Fa];exact⟨fun _=>by omega,hn⟩
 have ho:=zo4 g;rw[zme g] at B;unfold Rz at B;have a0:=zgr ho;have a2:=uh g;generalize sj os i=o at *;have hC:o.f=[.i o.kind,.i o.d,.i o.e,.i o.a,.i o.b,.i o.c,.i o.buf,.u o.imm]:=rfl;have l0:0<G.length:=by omega
 have l1:1<G.length:=by omega
 have p0:∀x:List LObj,(G++x)[0]?=some _:=fun x=>(E6 l0).trans aj
 simp[w,C,aj,Fa,g,a0,a2,hC,↓p0];have aT:=zho r bs os o;rw[Fa,hC] at aT;refine E5 aT (bors_self _ (by simp[dats,LV.dat,Jf,Jv])) ?_;cases hf:Ib r bs o with
 |false =>
  have a3:(M5 r bs m ls o)=(2,m,ls):=by unfold M5;rw[Ai hf]
  rw[a3] at B;simp at B;subst B;simp[C]
 |true =>
 obtain⟨aU,aV,aW⟩:=zbd hf;have dq:os.length≤65536:=by omega
 have ap:∀(l:List LV) (i:Nat) (x:LV),i<l.length→Gp l i [x]=l.set i x:=fun l i x h=>by
  rw[Cg,Ai h];simp[Gp]
 have next:∀(ρ':Ey) (G':Ev) (m':List Bool) (F:List Int) (v':LV) (aO:Nat),M5 r bs m ls o=(0,m',F)→lk ρ' 1=.ptr 0 0→lk ρ' 6=.dy 1 0→lk ρ' 7=v'→lk ρ' 8=.i ((i:Int)+1)→G'[0]?=some (.cells (Fa r bs os) 0)→G'[1]?=some (.dyn (m'.map .bool) r 1 0 aO)→m'.length=r→Gu 2 G' v' 1 F.length (F.map .i)→2≤G'.length→(∀x∈F,0≤x∧x<(r:Int))→F.length≤8→Nx ρ' [] G':=by
  intro ρ' G' m' F v' aO hs a1 a6 a7 a8 b0 b1 b2 b3 b4 b5 b6;rw[hs] at B;exact ah _ _ _ ⟨N - 1,by omega,i+1,aO,m',F,v',rfl,by omega,a1,a6,a7,by rw[a8];simp,b0,b1,b2,b3,b4,b5,b6,by simpa using B⟩
 have q0:∀x:List LObj,(G++x)[0]?=some (.cells (Fa r bs os) 0):=fun x=>(E6 l0).trans aj
 have q1:∀x:List LObj,(G++x)[1]?=some (.dyn (m.map .bool) r 1 0 st):=fun x=>(E6 l1).trans aZ
 have aa:∀x,Gu 2 (G++x) v 1 ls.length (ls.map .i):=fun x=>aN.push_end
 by_cases ay:o.kind=17
 ·have aH:ls=[]→M5 r bs m ls o=(9,m,ls):=fun e=>by
   unfold M5;rw[Ab (by rw[hf];decide),Ai ay,e];rfl
  have aI:∀l' d,ls=l'++[d]→M5 r bs m ls o=(0,m.set d.toNat false,l'):=fun l' d e=>by
   unfold M5;rw[Ab (by rw[hf];decide),Ai ay,e];simp
  simp[ay,J];refine (aa _).lenL ?_;by_cases hn:ls=[]
  ·rw[aH hn] at B;subst hn;simp at B;subst B;simp[C]
  ·obtain⟨F,d,rfl⟩:∃F d,ls=F++[d]:=⟨ls.dropLast,ls.getLast hn,(List.dropLast_concat_getLast hn).symm⟩;obtain⟨d0,dr⟩:=aG d (by simp);obtain⟨dn,rfl⟩:=Af d0;have az:dn<r:=by omega
   have a4:F.length≤8:=by simp at aS;omega
   have p:=aI F dn rfl;simp only[A9] at p;simp;refine (aa _).lenL ?_;simp;refine⟨by omega,(aa _).at1 (by omega) (by simp;omega) fun a S=>?_⟩;simp;refine S _ ?_;have e1:Gp (m.map LV.bool) dn [.bool false]=(m.set dn false).map LV.bool:=by
    rw[ap _ _ _ (by simp;omega),B0]
   have hx:(List.map LV.i F++[LV.i (dn:Int)])[F.length]?=some (.i (dn:Int)):=by
    rw[Au (by simp)];simp
   have aK:∀(x:List LObj) (ob:LObj),Gu 2 ((G++x).set 1 ob) v 1 (F++[(dn:Int)]).length ((F++[(dn:Int)]).map .i):=fun x ob=>(aa x).set_lt (by omega)
   rw[D3,List.map_singleton];simp only[A9];refine⟨_,hx,?_⟩;simp[E,↓q1,az,ao,e1,J];refine⟨by omega,(aK _ _).lenL ?_⟩;simp;refine⟨by omega,(aK _ _).cut (m:=F.length) (by simp) (fun K' k'=>k') (fun d K' k'=>⟨by omega,k'⟩) fun v' aX=>?_⟩;simp[C];rw[D3,Da (by simp)] at aX;refine⟨by omega,next _ _ (m.set dn false) F v' (st+1) p (by simp[w]) (by simp[E]) (by simp) (by simp) ?_ ?_ (by simpa using ao) aX (by simp;omega) (fun x hx=>aG x (by simp[hx])) a4⟩
   ·rw[Ad (by omega)];exact q0 _
   ·rw[←B0];exact Ag (by simp;omega)
 have p:M5 r bs m ls o=(if (E8 o).any (fun r=>ls.contains r)=true then (9,m,ls)
   else if o.kind=16∧I0 m o.d=true then (9,m,ls)
   else if o.kind=16∧ls.length=8 then (10,m,ls)
   else if (Ht o).any (fun r=>!I0 m r)=true then (5,m,ls)
   else (0,(E8 o).foldl (fun m r=>m.set r.toNat true) m,if o.kind=16 then ls++[o.d] else ls)):=by
  unfold M5;rw[Ab (by rw[hf];decide),Ab ay]
 simp[ay];refine Jo (zjt o) (by simp[dats,LV.dat]) ?_;simp;refine Jo (zk4 o) (by simp[dats,LV.dat]) ?_;simp;have aP:=q0 [.cells o.f 1];have T:=q1 [.cells o.f 1];have aq:(G++[LObj.cells o.f 1])[G.length]?=some (.cells o.f 1):=Aw;have aA:=aa [.cells o.f 1];have a5:(G++[LObj.cells o.f 1]).length=G.length+1:=by simp
 rw[hC] at aP T aq aA a5;generalize G++[LObj.cells [.i o.kind,.i o.d,.i o.e,.i o.a,.i o.b,.i o.c,.i o.buf,.u o.imm] 1]=G1 at *;generalize G.length=z at *;have ds:=zva o;have dw:=zvi o;have dx:=hC ▸ aq;refine Iw (fun ρ D G N=>∃j:Nat,D=[]∧N+j=(E8 o).length∧lk ρ 1=.ptr 0 0∧lk ρ 6=.dy 1 0∧lk ρ 7=v∧lk ρ 8=.i i∧lk ρ 9=.ptr z 0∧lk ρ 10=.lst ((E8 o).map .i) (E8 o).length 1∧lk ρ 11=.lst ((Ht o).map .i) (Ht o).length 1∧lk ρ 12=.i j∧G=G1∧∀x∈(E8 o).take j,¬x∈ls) (N:=(E8 o).length)
  ⟨0,rfl,by omega,by simp[w],by simp[E],by simp[J],by simp[C],by simp,by simp,by simp,by simp,rfl,by simp⟩ ?_
 clear w E J C;rintro N2 ρ D G2 ⟨j,rfl,dz,w,E,J,C,M,s,H,ar,rfl,L⟩ dA aL;by_cases Q:j<(E8 o).length
 ·have hg:=Vo (f:=LV.i) (jv Q);have ht:=zw Q;have I:=xd Q;generalize gd (E8 o) j=x at *;simp[J,s,ar,Q,Fu hg];refine E5 (zs1 ls x (by omega)) ⟨_,_,rfl,aA.bor,by simp⟩ ?_;by_cases hx:x∈ls
  ·have S:((E8 o).any fun r=>ls.contains r)=true:=Bv.2 ⟨x,I,by simpa using hx⟩;rw[p,Ai S] at B;simp at B;subst B;simp[hx,C]
  ·simp[hx,ar];refine⟨by omega,aL _ _ _ ⟨N2 - 1,by omega,j+1,rfl,by omega,by simp[w],by simp[E],by simp[J],by simp[C],by simp[M],by simp[s],by simp[H],by simp,rfl,fun y O=>?_⟩⟩;rw[ht] at O;rcases Ay.1 O with O|O
   ·exact L y O
   ·simp at O;rw[O];exact hx
 rw[Ax (by omega)] at L;have S:¬((E8 o).any fun r=>ls.contains r)=true:=by
  rw[Bv];rintro⟨x,hx,h⟩;exact L x hx (by simpa using h)
 rw[Ab S] at p;clear S L aL;by_cases K:o.kind=16
 ·obtain⟨d0,dr⟩:=aW K;obtain⟨dn,az⟩:=Af d0;have aQ:dn<r:=by omega
  have aJ:(m.map LV.bool)[dn]?=some (.bool (I0 m o.d)):=by
   simp[I0,az,ao,aQ]
  cases U:I0 m o.d with
  |true =>
   rw[U] at aJ;rw[p,Ai (show o.kind=16∧I0 m o.d=true from ⟨K,U⟩)] at B;simp at B;subst B;simp[E,C,M,s,ar,Q,aq,K,az,aQ,T,Fu aJ]
  |false =>
  rw[U] at aJ;rw[Ab (show ¬(o.kind=16∧I0 m o.d=true) by rw[U];simp)] at p;simp[E,C,M,s,ar,Q,aq,K,az,aQ,T,Fu aJ,J];refine aA.lenL ?_;by_cases l8:ls.length=8
  ·rw[p,Ai (show o.kind=16∧ls.length=8 from ⟨K,l8⟩)] at B;simp at B;subst B;simp[l8,C]
  rw[Ab (show ¬(o.kind=16∧ls.length=8) from fun q=>l8 q.2)] at p;refine⟨fun q=>absurd q (by omega),fun _=>?_⟩;rw[Ai K] at p;refine Iw (fun ρ D G N=>∃j:Nat,D=[]∧N+j=(Ht o).length∧lk ρ 1=.ptr 0 0∧lk ρ 6=.dy 1 0∧lk ρ 7=v∧lk ρ 8=.i i∧lk ρ 9=.ptr z 0∧lk ρ 10=.lst ((E8 o).map .i) (E8 o).length 1∧lk ρ 11=.lst ((Ht o).map .i) (Ht o).length 1∧lk ρ 13=.i j∧G=G2∧∀x∈(Ht o).take j,I0 m x=true) (N:=(Ht o).length)
   ⟨0,rfl,by omega,by simp[w],by simp[E],by simp[J],by simp[C],by simp[M],by simp[s],by simp[H],by simp,rfl,by simp⟩ ?_
  clear w E J C M s H ar;rintro N3 ρ D G3 ⟨j,rfl,a9,w,E,J,C,M,s,H,V,rfl,L⟩ da ad;by_cases Q:j<(Ht o).length
  ·have hg:=Vo (f:=LV.i) (jv Q);have ht:=zw Q;have I:=xd Q;generalize gd (Ht o) j=x at *;obtain⟨x0,xr⟩:=aU x I;obtain⟨W,rfl⟩:=Af x0;have P:W<r:=by omega
   have X:(m.map LV.bool)[W]?=some (.bool (I0 m (W:Int))):=by simp[I0,ao,P]
   cases A:I0 m (W:Int) with
   |false =>
    have S:=zp1 I A;rw[p,Ai S] at B;simp at B;subst B;rw[A] at X;simp[E,C,H,V,Q,Fu hg,T,P,Fu X]
   |true =>
    rw[A] at X;simp[E,C,H,V,Q,Fu hg,T,P,Fu X];refine⟨by omega,ad _ _ _ ⟨N3 - 1,by omega,j+1,rfl,by omega,by simp[w],by simp[E],by simp[J],by simp[C],by simp[M],by simp[s],by simp[H],by simp,rfl,fun y O=>?_⟩⟩;rw[ht] at O;rcases Ay.1 O with O|O
    ·exact L y O
    ·simp at O;rw[O];exact A
  rw[Ax (by omega)] at L;rw[Ab (by rw[zky L];simp)] at p;clear ad L;simp[w,E,J,C,M,s,H,V,Q];refine Iw (fun ρ D G N=>∃(j Y:Nat) (m2:List Bool),D=[]∧N+j=(E8 o).length∧lk ρ 1=.ptr 0 0∧lk ρ 6=.dy 1 0∧lk ρ 7=v∧lk ρ 8=.i i∧lk ρ 9=.ptr z 0∧lk ρ 10=.lst ((E8 o).map .i) (E8 o).length 1∧lk ρ 14=.i j∧G.length=G3.length∧(∀q,q≠1→G[q]?=G3[q]?)∧G[1]?=some (.dyn (m2.map .bool) r 1 0 Y)∧m2.length=r∧m2=((E8 o).take j).foldl (fun m r=>m.set r.toNat true) m) (N:=(E8 o).length)
   ⟨0,st,m,rfl,by omega,by simp[w],by simp[E],by simp[J],by simp[C],by simp[M],by simp[s],by simp,rfl,fun _ _=>rfl,T,ao,by simp⟩ ?_
  clear w E J C M s H V;rintro N4 ρ D G4 ⟨j,Y,m2,rfl,dd,w,E,J,C,M,s,aB,aR,Z,af,aw,ax⟩ df ag;by_cases gk:j<(E8 o).length
  ·have hg:=Vo (f:=LV.i) (jv gk);have ht:=zw gk;have I:=xd gk;generalize gd (E8 o) j=x at *;obtain⟨x0,xr⟩:=aV x I;obtain⟨W,rfl⟩:=Af x0;have P:W<r:=by omega
   have e1:Gp (m2.map LV.bool) W [.bool true]=(m2.set W true).map LV.bool:=by
    rw[ap _ _ _ (by simp;omega),B0]
   simp[E,s,aB,gk,Fu hg,af,P,aw,e1];refine⟨by omega,by omega,ag _ _ _ ⟨N4 - 1,by omega,j+1,Y+1,m2.set W true,rfl,by omega,by simp[w],by simp[E],by simp[J],by simp[C],by simp[M],by simp[s],by simp,by simp[aR],fun q hq=>?_,?_,by simp[aw],?_⟩⟩
   ·rw[Ad (Ne.symm hq)];exact Z q hq
   ·rw[←B0];exact Ag (by have:=(Aa.1 af).1;exact this)
   ·rw[ht,List.foldl_append,←ax];simp
  rw[Ax (by omega)] at ax;have aC:Gu 2 G4 v 1 ls.length (ls.map .i):=aA.frame fun q h _=>Z q (by omega)
  have aD:G4[0]?=some (.cells (Fa r bs os) 0):=(Z 0 (by omega)).trans aP;have aE:G4[z]?=_:=(Z z (by omega)).trans aq;rw[←ax] at p;clear ag;simp[w,E,J,C,M,s,aB,gk,aE,K];refine Gu.push (x:=[.i o.d]) aC.push_end (by omega) (by simp;omega) (by omega) rfl rfl fun v' G5 dg aY dh _=>?_
  simp[C];have dm:=(Aa.1 af).1;refine⟨by omega,next _ _ m2 (ls++[o.d]) v' Y p (by simp[w]) (by simp[E]) (by simp) (by simp) ?_ ?_ aw (by simpa using dg) (by simp at dh;omega) (fun x hx=>?_) (by simp;omega)⟩
  ·rw[aY 0 (by omega),E6 (by omega)];exact aD
  ·rw[aY 1 (by omega),E6 (by omega)];exact af
  ·rcases Ay.1 hx with hx|hx
   ·exact aG x hx
   ·simp at hx;rw[hx];exact aW K
 rw[Ab (show ¬(o.kind=16∧I0 m o.d=true) from fun q=>K q.1),Ab (show ¬(o.kind=16∧ls.length=8) from fun q=>K q.1),Ab K] at p;simp[w,E,J,C,M,s,H,ar,Q,aq,K];refine Iw (fun ρ D G N=>∃j:Nat,D=[]∧N+j=(Ht o).length∧lk ρ 1=.ptr 0 0∧lk ρ 6=.dy 1 0∧lk ρ 7=v∧lk ρ 8=.i i∧lk ρ 9=.ptr z 0∧lk ρ 10=.lst ((E8 o).map .i) (E8 o).length 1∧lk ρ 11=.lst ((Ht o).map .i) (Ht o).length 1∧lk ρ 13=.i j∧G=G2∧∀x∈(Ht o).take j,I0 m x=true) (N:=(Ht o).length)
  ⟨0,rfl,by omega,by simp[w],by simp[E],by simp[J],by simp[C],by simp[M],by simp[s],by simp[H],by simp,rfl,by simp⟩ ?_
 clear w E J C M s H ar;rintro N3 ρ D G3 ⟨j,rfl,a9,w,E,J,C,M,s,H,V,rfl,L⟩ da ad;by_cases Q:j<(Ht o).length
 ·have hg:=Vo (f:=LV.i) (jv Q);have ht:=zw Q;have I:=xd Q;generalize gd (Ht o) j=x at *;obtain⟨x0,xr⟩:=aU x I;obtain⟨W,rfl⟩:=Af x0;have P:W<r:=by omega
  have X:(m.map LV.bool)[W]?=some (.bool (I0 m (W:Int))):=by simp[I0,ao,P]
  cases A:I0 m (W:Int) with
  |false =>
   have S:=zp1 I A;rw[p,Ai S] at B;simp at B;subst B;rw[A] at X;simp[E,C,H,V,Q,Fu hg,T,P,Fu X]
  |true =>
   rw[A] at X;simp[E,C,H,V,Q,Fu hg,T,P,Fu X];refine⟨by omega,ad _ _ _ ⟨N3 - 1,by omega,j+1,rfl,by omega,by simp[w],by simp[E],by simp[J],by simp[C],by simp[M],by simp[s],by simp[H],by simp,rfl,fun y O=>?_⟩⟩;rw[ht] at O;rcases Ay.1 O with O|O
   ·exact L y O
   ·simp at O;rw[O];exact A
 rw[Ax (by omega)] at L;rw[Ab (by rw[zky L];simp)] at p;clear ad L;simp[w,E,J,C,M,s,H,V,Q];refine Iw (fun ρ D G N=>∃(j Y:Nat) (m2:List Bool),D=[]∧N+j=(E8 o).length∧lk ρ 1=.ptr 0 0∧lk ρ 6=.dy 1 0∧lk ρ 7=v∧lk ρ 8=.i i∧lk ρ 9=.ptr z 0∧lk ρ 10=.lst ((E8 o).map .i) (E8 o).length 1∧lk ρ 14=.i j∧G.length=G3.length∧(∀q,q≠1→G[q]?=G3[q]?)∧G[1]?=some (.dyn (m2.map .bool) r 1 0 Y)∧m2.length=r∧m2=((E8 o).take j).foldl (fun m r=>m.set r.toNat true) m) (N:=(E8 o).length)
  ⟨0,st,m,rfl,by omega,by simp[w],by simp[E],by simp[J],by simp[C],by simp[M],by simp[s],by simp,rfl,fun _ _=>rfl,T,ao,by simp⟩ ?_
 clear w E J C M s H V;rintro N4 ρ D G4 ⟨j,Y,m2,rfl,dd,w,E,J,C,M,s,aB,aR,Z,af,aw,ax⟩ df ag;by_cases gk:j<(E8 o).length
 ·have hg:=Vo (f:=LV.i) (jv gk);have ht:=zw gk;have I:=xd gk;generalize gd (E8 o) j=x at *;obtain⟨x0,xr⟩:=aV x I;obtain⟨W,rfl⟩:=Af x0;have P:W<r:=by omega
  have e1:Gp (m2.map LV.bool) W [.bool true]=(m2.set W true).map LV.bool:=by
   rw[ap _ _ _ (by simp;omega),B0]
  simp[E,s,aB,gk,Fu hg,af,P,aw,e1];refine⟨by omega,by omega,ag _ _ _ ⟨N4 - 1,by omega,j+1,Y+1,m2.set W true,rfl,by omega,by simp[w],by simp[E],by simp[J],by simp[C],by simp[M],by simp[s],by simp,by simp[aR],fun q hq=>?_,?_,by simp[aw],?_⟩⟩
  ·rw[Ad (Ne.symm hq)];exact Z q hq
  ·rw[←B0];exact Ag (by have:=(Aa.1 af).1;exact this)
  ·rw[ht,List.foldl_append,←ax];simp
 rw[Ax (by omega)] at ax;have aC:Gu 2 G4 v 1 ls.length (ls.map .i):=aA.frame fun q h _=>Z q (by omega)
 have aD:G4[0]?=some (.cells (Fa r bs os) 0):=(Z 0 (by omega)).trans aP;have aE:G4[z]?=_:=(Z z (by omega)).trans aq;rw[←ax] at p;clear ag;simp[w,E,J,C,M,s,aB,gk,aE,K];refine⟨by omega,next _ _ m2 ls v Y p (by simp[w]) (by simp[E]) (by simp[J]) (by simp) aD af aw aC (by omega) aG aS⟩
def zft:LC:=(.q [.z 1 (.box (.t 0)),.z 2 (.move (.c .nilSl))] (.q [.z 10 (.loadN 3 (.t 1)),.z 11 (.w 78 [.t 10]),.m 9 11,.z 12 (.extract 0 (.t 9)),.z 13 (.extract 1 (.t 9)),.m 3 12,.m 4 13] (.seq (.q [.m 14 4,.z 15 (.bin .neq true 35 (.t 14) (.k 0))] (.cond (.t 15) (.q [.z 2 (.move (.c .nilSl))] .ret) .skip)) (.q [.f 16 2 1,.l 17 16,.z 18 (.lenSl (.t 17)),.z 19 (.mkSl 1 [(.i 0)] (.t 18) (.t 18)),.m 5 19] (.q [.z 6 (.move (.c .nilSl))] (.seq (.q [.z 7 (.move (.k 0))] (.block 0 (.loop (.seq (.q [.m 20 7,.f 21 2 1,.l 22 21,.z 23 (.lenSl (.t 22)),.z 24 (.bin .lss false 3 (.t 20) (.t 23))] (.cond (.t 24) .skip (.exit 0))) (.seq (.block 1 (.q [.m 27 5,.m 28 7,.z 29 (.ixAddr 1 (.t 27) (.t 28)),.v (.store 1 (.t 29) (.k (-1)))] (.q [.f 30 2 1,.l 31 30,.m 32 7,.z 33 (.ixAddr 8 (.t 31) (.t 32)),.f 34 0 33,.l 35 34] (.block 2 (.q [.z 37 (.bin .eql true 3 (.t 35) (.k 16)),.m 36 37] (.cond (.t 36) (.ops [.m 38 6,.m 39 7,.z 40 (.buildSl 1 1 [(.i 0)] [(0,1,.t 39)]),.z 41 (.appG 1 (.t 38) (.t 40)),.m 6 41]) (.q [.z 43 (.bin .eql true 3 (.t 35) (.k 17)),.m 42 43] (.cond (.t 42) (.q [.m 44 6,.m 45 6,.z 46 (.lenSl (.t 45)),.z 47 (.bin .sub true 3 (.t 46) (.k 1)),.z 48 (.ixAddr 1 (.t 44) (.t 47)),.l 49 48,.m 8 49] (.q [.m 50 6,.m 51 6,.z 52 (.lenSl (.t 51)),.z 53 (.bin .sub true 3 (.t 52) (.k 1)),.z 54 (.slSl 1 (.t 50) none (some (.t 53))),.m 6 54] (.ops [.m 55 5,.m 56 7,.m 57 5,.m 58 8,.m 59 8,.m 60 7,.z 61 (.ixAddr 1 (.t 55) (.t 56)),.v (.store 1 (.t 61) (.t 59)),.z 62 (.ixAddr 1 (.t 57) (.t 58)),.v (.store 1 (.t 62) (.t 60))]))) .skip)))))))) (.ops [.m 25 7,.z 26 (.bin .add true 3 (.t 25) (.k 1)),.m 7 26])))))) (.q [.m 63 5,.m 2 63] .ret)))))))
def r_ref12_Ends:Fg Tryz.prog 87=some ⟨64,zft.r,[.tmp 2]⟩:=by kernel_rfl
def ze5:LC:=(.q [.z 1 (.box (.t 0)),.z 2 (.move (.k 0))] (.q [.z 11 (.loadN 3 (.t 1)),.z 12 (.w 78 [.t 11]),.m 10 12,.z 13 (.extract 0 (.t 10)),.z 14 (.extract 1 (.t 10)),.m 3 13,.m 4 14] (.seq (.q [.m 15 4,.z 16 (.bin .neq true 35 (.t 15) (.k 0))] (.cond (.t 16) (.q [.z 2 (.move (.k 0))] .ret) .skip)) (.q [.z 5 (.move (.c .nilSl))] (.q [.z 6 (.move (.k 0))] (.q [.z 7 (.move (.c .nilSl))] (.seq (.q [.z 8 (.move (.k 0))] (.block 0 (.loop (.seq (.q [.m 17 8,.f 18 2 1,.l 19 18,.z 20 (.lenSl (.t 19)),.z 21 (.bin .lss false 3 (.t 17) (.t 20))] (.cond (.t 21) .skip (.exit 0))) (.seq (.block 1 (.q [.f 24 2 1,.l 25 24,.m 26 8,.z 27 (.ixAddr 8 (.t 25) (.t 26)),.f 28 0 27,.l 29 28] (.block 2 (.q [.z 34 (.bin .eql true 3 (.t 29) (.k 16)),.m 33 34] (.cond (.t 33) (.seq (.draw [(.m 35 5,[]),(.m 36 6,[]),(.z 37 (.buildSl 1 1 [(.i 0)] [(0,1,.t 36)]),[]),(.m 39 7,[]),(.f 40 2 1,[]),(.l 41 40,[]),(.m 42 8,[]),(.z 43 (.ixAddr 8 (.t 41) (.t 42)),[]),(.f 44 7 43,[]),(.l 45 44,[]),(.z 46 (.cvInt .i64 (.t 45)),[]),(.z 47 (.buildSl 1 1 [(.i 0)] [(0,1,.t 46)]),[(.l 45 44,false),(.l 41 40,false),(.z 37 (.buildSl 1 1 [(.i 0)] [(0,1,.t 36)]),true)]),(.z 38 (.appG 1 (.t 35) (.t 37)),[(.z 47 (.buildSl 1 1 [(.i 0)] [(0,1,.t 46)]),true),(.l 45 44,false),(.l 41 40,false)]),(.z 48 (.appG 1 (.t 39) (.t 47)),[]),(.m 5 38,[]),(.m 7 48,[])]) (.ops [.z 6 (.move (.k 1))])) (.q [.z 50 (.bin .eql true 3 (.t 29) (.k 17)),.m 49 50] (.cond (.t 49) (.q [.m 51 5,.z 52 (.lenSl (.t 51)),.z 53 (.bin .sub true 3 (.t 52) (.k 1)),.m 9 53] (.seq (.q [.m 54 6,.m 55 7,.m 56 9,.z 57 (.ixAddr 1 (.t 55) (.t 56)),.l 58 57,.z 59 (.bin .quo true 3 (.k 1125899906842624) (.t 58)),.z 60 (.bin .gtr false 3 (.t 54) (.t 59))] (.cond (.t 60) (.ops [.z 6 (.move (.k 1125899906842624))]) (.ops [.m 61 6,.m 62 7,.m 63 9,.z 64 (.ixAddr 1 (.t 62) (.t 63)),.l 65 64,.z 66 (.bin .mul false 3 (.t 61) (.t 65)),.m 6 66]))) (.q [.m 67 6,.m 68 5,.m 69 9,.z 70 (.ixAddr 1 (.t 68) (.t 69)),.l 71 70,.z 72 (.bin .add false 3 (.t 67) (.t 71)),.z 73 (.maxi false (.k 1125899906842624) (.t 72)),.m 6 73] (.draw [(.m 74 5,[]),(.m 75 9,[]),(.z 76 (.slSl 1 (.t 74) none (some (.t 75))),[]),(.m 77 7,[]),(.m 78 9,[]),(.z 79 (.slSl 1 (.t 77) none (some (.t 78))),[]),(.m 5 76,[]),(.m 7 79,[])])))) (.ops [.m 30 6,.z 31 (.bin .add true 3 (.t 30) (.k 1)),.z 32 (.maxi false (.k 1125899906842624) (.t 31)),.m 6 32])))))))) (.ops [.m 22 8,.z 23 (.bin .add true 3 (.t 22) (.k 1)),.m 8 23])))))) (.q [.m 80 6,.m 2 80] .ret))))))))
def r_ref12_Steps:Fg Tryz.prog 85=some ⟨81,ze5.r,[.tmp 2]⟩:=by kernel_rfl
def zbb:LC:=(.q [.z 2 (.box (.t 0)),.z 4 (.move .F)] (.seq (.q [.m 7 1,.z 8 (.lenSl (.t 7)),.f 9 1 2,.l 10 9,.z 11 (.lenSl (.t 10)),.z 12 (.bin .neq false 3 (.t 8) (.t 11))] (.cond (.t 12) (.q [.z 4 (.move .F)] .ret) .skip)) (.seq (.q [.z 5 (.move (.k 0))] (.block 0 (.loop (.seq (.q [.m 13 5,.m 14 1,.z 15 (.lenSl (.t 14)),.z 16 (.bin .lss false 3 (.t 13) (.t 15))] (.cond (.t 16) .skip (.exit 0))) (.seq (.block 1 (.q [.f 19 1 2,.l 20 19,.m 21 5,.z 22 (.ixAddr 3 (.t 20) (.t 21)),.f 23 0 22,.l 24 23,.m 6 24] (.seq (.q [.f 25 1 2,.l 26 25,.m 27 5,.z 28 (.ixAddr 3 (.t 26) (.t 27)),.f 29 1 28,.l 30 29,.z 31 (.bin .eql true 3 (.t 30) (.k 3))] (.cond (.t 31) (.ops [.z 6 (.move (.k 0))]) .skip)) (.q [.m 32 1,.m 33 5,.z 34 (.ixAddr 1 (.t 32) (.t 33)),.l 35 34,.z 36 (.lenSl (.t 35)),.m 37 6,.z 38 (.bin .neq false 3 (.t 36) (.t 37))] (.cond (.t 38) (.q [.z 4 (.move .F)] .ret) .skip))))) (.ops [.m 17 5,.z 18 (.bin .add true 3 (.t 17) (.k 1)),.m 5 18])))))) (.q [.z 4 (.move .T)] .ret))))
def r_ref12_Rows:Fg Tryz.prog 86=some ⟨39,zbb.r,[.tmp 4]⟩:=by kernel_rfl
def zl0 {regs:Int}{bs:List Bf}:∀(l:List Lo) (i:Nat) (m:List Bool) (ls:List Int),(Rz regs bs i m ls l).2=0→∀o∈l,Ib regs bs o=true
 |[],_,_,_,_,o,ho=>by cases ho
 |o::l,i,m,ls,h,x,d=>by
  unfold Rz at h;by_cases a:(M5 regs bs m ls o).1=0
  ·rw[Ai a] at h;rcases An.1 d with rfl|d
   ·cases f:Ib regs bs x with
    |true=>rfl
    |false =>
     unfold M5 at a;rw[Ai f] at a;exact absurd (show (2:Int)=0 from a) (by decide)
   ·exact zl0 l _ _ _ h x d
  ·rw[Ab a] at h;exact absurd h a
def zfd {regs:Int}{bs:List Bf}{os:List Lo}(h:(Jq regs bs os).2=0):0≤regs∧regs≤64∧bs.length≤32∧os.length≤65536∧(∀b∈bs,1≤b.size∧b.size≤65536)∧∀o∈os,Ib regs bs o=true:=by
 unfold Jq at h;split at h
 ·exact absurd h (by decide)
 split at h
 ·exact absurd h (by decide)
 split at h
 ·exact absurd h (by decide)
 split at h
 ·exact absurd h (by decide)
 rename_i g1 g2 g3 g4;refine⟨by omega,by omega,by omega,by omega,fun b a=>?_,zl0 _ _ _ _ h⟩;rw[Bv] at g2 g4;have d:¬65536<b.size:=fun q=>g2 ⟨b,a,by simpa using q⟩
 have f:¬b.size<1:=fun q=>g4 ⟨b,a,by simp[q]⟩
 omega
def zln {regs:Int}{bs:List Bf}{o:Lo}(h:Ib regs bs o=true)(k:o.kind=16):1≤o.imm.toNat∧o.imm.toNat≤1048576:=by
 unfold Ib at h;simp[k,Gf] at h;obtain⟨_,_,_,_,_,_,_,a,d⟩:=h;have a:=Bq.1 a;have d:=Bq.1 d;exact⟨a,d⟩
def lg (l:List Nat):List LV:=l.reverse.map fun (a:Nat)=>LV.i (a:Int)
def zlj (a:Nat)(l:List Nat):lg (a::l)=lg l++[.i (a:Int)]:=by simp[lg]
def zqx (l:List Nat):(lg l).length=l.length:=by simp[lg]
def Tu {l:List Lo}{i:Nat}{v:Lo}(h:l[i]?=some v):(Gi l)[i*8]?=some (.i v.kind):=by have:=gz h (j:=0) (by omega);simpa [Lo.f] using this
def l9 {l:List Lo}{i:Nat}{v:Lo}(h:l[i]?=some v):(Gi l)[i*8+7]?=some (.u v.imm):=by have:=gz h (j:=7) (by omega);simpa [Lo.f] using this
def uv {l:List LV}{i:Nat}{x:LV}(h:i<l.length):Gp l i [x]=l.set i x:=by
 rw[Cg,Ai h];simp[Gp]
def qu (l:List Int)(i:Nat)(x:Int)(h:i<l.length):Gp (l.map LV.i) i [.i x]=(l.set i x).map LV.i:=by
 rw[B0,Cg,Ai (by simpa using h)];simp[Gp]
def repIs (n:Nat):Hm [.i 0] n=(List.replicate n (0:Int)).map LV.i:=by
 induction n with
 |zero=>rfl
 |succ n a=>rw[Hm,a,Db];rfl
def zly {regs:Int}{bs:List Bf}{os:List Lo}(hc:(Jq regs bs os).2=0)(r:Ow Im 0 os):H6 87 [.agg (Fa regs bs os)] (.lst ((Nm 0 [] (List.replicate os.length 0) os).map .i) os.length 1):=by
 obtain⟨_,_,_,aa,_,S⟩:=zfd hc;refine La.mk (by simp[LV.dat,Qs]) (E9 r_ref12_Ends (by kernel_rfl) (by simp) ?_);simp[zft,Fa];refine E5 (z8g regs bs os) (bors_self _ (by simp[dats,LV.dat,Fa,Jf,Jv])) ?_;obtain⟨E,T⟩:∃E,Nm 0 [] (List.replicate os.length 0) os=E:=⟨_,rfl⟩;have ad:E.length=os.length:=by rw[←T,endsR_len];simp
 rw[T];simp[hc];refine⟨by omega,?_⟩;refine Iw (fun ρ D G N=>∃(i st:Nat) (out:List Int) (l:List Nat) (v:LV),D=[]∧N+i=os.length∧lk ρ 1=.ptr 0 0∧lk ρ 5=.dy 1 0∧lk ρ 6=v∧lk ρ 7=.i i∧G[0]?=some (.cells (Fa regs bs os) 0)∧G[1]?=some (.dyn (out.map .i) os.length 1 0 st)∧out.length=os.length∧Gu 2 G v 1 l.length (lg l)∧2≤G.length ∧
   (∀a∈l,a<i)∧l.length≤i∧Ow Im l.length (os.drop i)∧Nm i l out (os.drop i)=E) (N:=os.length)
  ⟨0,0,List.replicate os.length 0,[],.nilSl,rfl,by omega,by simp,by simp,by simp,by simp,by simp[Fa],by simp[repIs],by simp,Gu.nil,by simp,by simp,by simp,by simpa using r,by simpa using T⟩ ?_
 clear r;rintro N ρ D G ⟨i,st,out,l,v,rfl,hN,C,B,L,J,s,z,f,U,M,A,F,r,y⟩ Nx H;by_cases g:i<os.length
 case neg =>
  rw[Cu (by omega)] at y;have:out=E:=y;subst this;simp[C,B,J,s,Fa,g,He,bor,z,Qs]
 have ho:=zo4 g;have I:=Tu ho;have af:=S _ (A7 ho);rw[zme g] at y r;generalize sj os i=o at *;have l0:0<G.length:=by omega
 have V:1<G.length:=by omega
 have ag:=uh g;unfold Nm at y;unfold Ow at r;have s0:∀x:LObj,(G.set 1 x)[0]?=some (.cells (Fa regs bs os) 0):=fun x=>by rw[Ad (by omega)];exact s
 have s1:∀x:LObj,(G.set 1 x)[1]?=some x:=fun x=>Ag V
 have K:∀x:LObj,Gu 2 (G.set 1 x) v 1 l.length (lg l):=fun x=>U.set_lt (by omega)
 by_cases j:o.kind=16
 ·rw[Ai j] at y;rw[Ai (by simp[Im,j])] at r;simp[C,B,L,J,s,z,Fa,g,f,qu,↓s0,Fu I,j]
  repeat (refine⟨by omega,?_⟩)
  refine Gu.push (x:=[.i (i:Int)]) (K _).push_end (by omega) (by simp;omega) (by omega) rfl rfl fun W G5 X O Y _=>?_
  simp[J];refine⟨by omega,H _ _ _ ⟨N - 1,by omega,i+1,st+1,out.set i (-1),i::l,W,rfl,by omega,by simp[C],by simp[B],by simp,by simp,?_,?_,by simpa using f,by rw[zlj];exact X,by simp at Y;omega,fun a R=>?_,by simp;omega,r,y⟩⟩
  ·rw[O 0 (by omega),E6 (by simpa using l0)];exact s0 _
  ·rw[O 1 (by omega),E6 (by simpa using V),←B0];exact s1 _
  ·rcases An.1 R with rfl|R
   ·omega
   ·have:=A a R;omega
 by_cases p:o.kind=17
 ·rw[Ab j,Ai p] at y;rw[Ab (by simp[Im,p]),Ai (by simp[Im,p])] at r;obtain⟨hd,r⟩:=r;cases l with
  |nil=>simp at hd
  |cons a l =>
  have R:=A a (B5 ..);simp[C,B,L,J,s,z,Fa,g,f,qu,↓s0,Fu I,j,p]
  repeat (refine⟨by omega,?_⟩)
  refine (K _).lenL ?_;simp;refine⟨by simp at F;omega,(K _).at1 (by omega) (by simp;omega) fun w hw=>?_⟩;simp;refine hw _ ?_;have P:(lg (a::l))[l.length]?=some (.i (a:Int)):=by
   rw[zlj,Au (by rw[zqx];exact Am _)];simp[zqx]
  simp only[A9];refine⟨_,P,?_⟩;simp[L];refine (K _).lenL ?_;simp;refine⟨by simp at F;omega,(K _).cut (m:=l.length) (by simp) (fun K' k'=>k') (fun d K' k'=>⟨by omega,k'⟩) fun W Q=>?_⟩;have Z:a<os.length:=by omega
  simp[B,J,↓s1,g,f,uv,Z];rw[zlj,Da (by rw[zqx];omega)] at Q
  repeat (refine⟨by omega,?_⟩)
  refine H _ _ _ ⟨N - 1,by omega,i+1,st+1+1+1,((out.set i (-1)).set i a).set a i,l,W,rfl,by omega,by simp[C],by simp[B],by simp,by simp,?_,?_,by simpa using f,?_,by simpa using M,fun x P=>by have:=A x (Az _ P);omega,by simp at F;omega,?_,y⟩
  ·exact s0 _
  ·rw[Ag (by simpa using V)];simp
  ·have h:=Q.set_lt (q:=1) (ob:=.dyn ((((out.map LV.i).set i (.i (-1))).set i (.i a)).set a (.i i)) os.length 1 0 (st+1+1+1)) (by omega);rw[List.set_set] at h;simpa using h
  ·simpa using r
 rw[Ab j,Ab p] at y;rw[Ab (by simp[Im,j];split<;>simp),Ab (by simp[Im,j,p])] at r;simp[C,B,L,J,s,z,Fa,g,f,qu,↓s0,Fu I,j,p]
 repeat (refine⟨by omega,?_⟩)
 refine H _ _ _ ⟨N - 1,by omega,i+1,st+1,out.set i (-1),l,v,rfl,by omega,by simp[C],by simp[B],by simp[L],by simp,s0 _,?_,by simpa using f,K _,by simpa using M,fun x P=>by have:=A x P;omega,by omega,r.2,y⟩;rw[←B0];exact s1 _
def gn (l:List (Int×Int)):List LV:=l.reverse.map fun e=>LV.i e.1
def g9 (l:List (Int×Int)):List LV:=l.reverse.map fun e=>LV.i e.2
def zh3 (a:Int×Int)(l:List (Int×Int)):gn (a::l)=gn l++[.i a.1]:=by simp[gn]
def zgv (a:Int×Int)(l:List (Int×Int)):g9 (a::l)=g9 l++[.i a.2]:=by simp[g9]
def zm2 (l:List (Int×Int)):(gn l).length=l.length:=by simp[gn]
def zle (l:List (Int×Int)):(g9 l).length=l.length:=by simp[g9]
def zjp {regs:Int}{bs:List Bf}{os:List Lo}(hc:(Jq regs bs os).2=0)(C:Ow Im 0 os):F4 85 [.agg (Fa regs bs os)] (.i (N9 [] 0 os)) []:=by
 obtain⟨_,_,_,aE,_,ap⟩:=zfd hc;refine Hg.val rfl (E9 r_ref12_Steps (by kernel_rfl) (by simp) ?_);simp[ze5,Fa];refine E5 (z8g regs bs os) (bors_self _ (by simp[dats,LV.dat,Fa,Jf,Jv])) ?_;obtain⟨R,p⟩:∃R,N9 [] 0 os=R:=⟨_,rfl⟩;rw[p];simp[hc];refine Iw (fun ρ D G N=>∃(i:Nat) (s:Int) (f:List (Int×Int)) (v w:LV),D=[]∧N+i=os.length∧lk ρ 1=.ptr 0 0∧lk ρ 5=v∧lk ρ 6=.i s∧lk ρ 7=w∧lk ρ 8=.i i∧G[0]?=some (.cells (Fa regs bs os) 0)∧Gu 1 G v 1 f.length (gn f)∧Gu 1 G w 1 f.length (g9 f)∧(∀q,Ri v=some q→Ri w≠some q)∧1≤G.length ∧
   (0≤s∧s≤1125899906842624)∧(∀e∈f,(0≤e.1∧e.1≤1125899906842624)∧1≤e.2∧e.2≤1048576)∧f.length≤i∧Ow Im f.length (os.drop i)∧N9 f s (os.drop i)=R) (N:=os.length)
  ⟨0,0,[],.nilSl,.nilSl,rfl,by omega,by simp,by simp,by simp,by simp,by simp,by simp[Fa],Gu.nil,Gu.nil,by simp[Ri],by simp,by simp,by simp,by simp,by simpa using C,by simpa using p⟩ ?_
 clear C p;rintro N ρ D G ⟨i,s,f,v,w,rfl,hN,L,J,O,M,P,j,hv,hw,r,Q,⟨Z,A⟩,F,aq,C,p⟩ Nx K;by_cases g:i<os.length
 case neg =>
  rw[Cu (by omega)] at p;have:s=R:=p;subst this;simp[L,J,O,P,j,Fa,g]
 have ho:=zo4 g;have S:=Tu ho;have ar:=l9 ho;have aw:=ap _ (A7 ho);rw[zme g] at p C;generalize sj os i=o at *;have l0:0<G.length:=by omega
 have aF:=uh g;have aD:i*8+7<(Gi os).length:=by omega
 unfold N9 at p;unfold Ow at C;by_cases l:o.kind=16
 ·rw[Ai l] at p;rw[Ai (by simp[Im,l])] at C;obtain⟨t1,t2⟩:=zln aw l;have e1:0≤((o.imm.toNat:Nat):Int):=by omega
  have q0:∀x:List LObj,(G++x)[0]?=some (.cells (Fa regs bs os) 0):=fun x=>(E6 l0).trans j
  have z0:∀(x:List LObj) (h:0<(G++x).length),(G++x)[0]=.cells (Fa regs bs os) 0:=fun x h=>Option.some.inj ((Ah h).symm.trans (q0 x))
  simp[L,J,O,M,P,j,Fa,g,Fu S,Fu ar,l,↓q0,z0];refine⟨by omega,?_⟩;refine Gu.push2 (x:=[.i s]) hv.push_end (by omega) (by simp) (by omega) rfl rfl fun T G5 U V ax ay=>?_
  simp at ax;have aa:G5[0]?=some (.cells (Fa regs bs os) 0):=by rw[V 0 (by simp) (fun e=>by have:=(hv.row e).1;omega)];exact q0 _
  have az:G5[G.length+1]?=some (.dyn [.i (o.imm.toNat:Int)] 1 1 0 0):=by
   rw[V _ (by simp) (fun e=>by have:=(hv.row e).2.1;omega),Au (by omega),show G.length+1 - G.length=1 by omega];rfl
  have ad:Gu 1 G5 w 1 f.length (g9 f):=(hw.push_end (ob:=[.dyn [.i s] 1 1 0 0,.dyn [.i (o.imm.toNat:Int)] 1 1 0 0])).frame2 fun q E=>V q (by have:=(hw.row E).2.1;simp;omega) (fun e=>r q e E)
  simp[aa,az,Fa,z0];refine Gu.push2 (x:=[.i (o.imm.toNat:Int)]) ad (by omega) (by omega) (by omega) rfl rfl fun w' G6 aA af aG aB=>?_
  have ag:∀q,Ri T=some q→Ri w≠some q:=fun q E e=>by
   rcases ay with h|h
   ·exact r q (by rw[←h];exact E) e
   ·rw[h] at E;have:=(hw.row e).2.1;have E:=Option.some.inj E;simp at E;omega
  have aC:Gu 1 G6 T 1 (f.length+1) (gn f++[.i s]):=U.frame2 fun q E=>af q (U.row E).2.1 (ag q E)
  have ah:G6[0]?=some (.cells (Fa regs bs os) 0):=by rw[af 0 (by omega) (fun e=>by have:=(ad.row e).1;omega)];exact aa
  simp[ah,Fa,P];refine⟨by omega,K _ _ _ ⟨N - 1,by omega,i+1,1,(s,(o.imm.toNat:Int))::f,T,w',rfl,by omega,by simp[L],by simp,by simp,by simp,by simp,ah,by rw[zh3];exact aC,by rw[zgv];exact aA,fun q E=>?_,by omega,⟨by omega,by omega⟩,fun e he=>?_,by simp;omega,C,p⟩⟩
  ·rcases aB with h|h
   ·rw[h];exact ag q E
   ·rw[h];have:=(U.row E).2.1;intro e;have e:=Option.some.inj e;omega
  ·rcases An.1 he with rfl|he
   ·exact⟨⟨Z,A⟩,by show (1:Int)≤_;omega,by show _≤(1048576:Int);omega⟩
   ·exact F e he
 by_cases B:o.kind=17
 ·rw[Ab l,Ai B] at p;rw[Ab (by simp[Im,B]),Ai (by simp[Im,B])] at C;obtain⟨hd,C⟩:=C;cases f with
  |nil=>simp at hd
  |cons a f =>
  obtain⟨a0,I⟩:=a;obtain⟨⟨b0,b1⟩,b2,b3⟩:=F _ (B5 ..);dsimp only at b0 b1 b2 b3 p;have aj:(gn ((a0,I)::f))[f.length]?=some (.i a0):=by
   rw[zh3,Au (by rw[zm2];exact Am _)];simp[zm2]
  have ao:(g9 ((a0,I)::f))[f.length]?=some (.i I):=by
   rw[zgv,Au (by rw[zle];exact Am _)];simp[zle]
  simp[L,J,O,M,P,j,Fa,g,Fu S,l,B];refine hv.lenL ?_;simp[M,O];simp at aq;refine⟨by omega,hw.at1 (by omega) (by simp;omega) fun x hx=>?_⟩;simp;refine hx _ ?_;simp only[A9];refine⟨_,ao,?_⟩;simp[O];have ht:Int.tdiv 1125899906842624 I=1125899906842624/I:=Int.tdiv_eq_ediv_of_nonneg (by omega);rw[ht];have t0:0≤1125899906842624/I:=Int.ediv_nonneg (by omega) (by omega);have t1:1125899906842624/I≤1125899906842624:=Int.ediv_le_self _ (by omega);refine⟨by omega,by omega,fun q=>?_,fun q=>?_⟩
  ·rw[Ai q] at p;simp[J];refine hv.at1 (by omega) (by simp;omega) fun y hy=>?_
   simp;refine hy _ ?_;simp only[A9];refine⟨_,aj,?_⟩;simp[J]
   repeat (refine⟨by omega,?_⟩)
   refine hv.cut2 (m:=f.length) (by simp) (fun W k'=>k') (fun d W k'=>k') fun T A X=>?_
   simp[M];refine hw.cut2 (m:=f.length) (by simp) (fun W k'=>k') (fun d W k'=>k') fun w' H Y=>?_
   rw[zh3,Da (by rw[zm2];omega)] at A;rw[zgv,Da (by rw[zle];omega)] at H;simp[P,j,Fa];refine⟨by omega,K _ _ _ ⟨N - 1,by omega,i+1,_,f,T,w',rfl,by omega,by simp[L],by simp,by simp,by simp,by simp,j,A,H,fun q=>by rw[X,Y];exact r q,Q,⟨by omega,by omega⟩,fun e he=>F e (Az _ he),by omega,by simpa using C,p⟩⟩
  ·rw[Ab (by omega)] at p;have hm:0≤s*I:=Int.mul_nonneg Z (by omega);have aH:s*I≤1125899906842624:=Int.le_trans (Int.mul_le_mul_of_nonneg_right (show s≤1125899906842624/I by omega) (by omega)) (Int.ediv_mul_le _ (by omega));simp[O,M];refine hw.at1 (by omega) (by simp;omega) fun z hz=>?_
   simp;refine hz _ ?_;simp only[A9];refine⟨_,ao,?_⟩;simp[J]
   repeat (refine⟨by omega,?_⟩)
   refine hv.at1 (by omega) (by simp;omega) fun y hy=>?_
   simp;refine hy _ ?_;simp only[A9];refine⟨_,aj,?_⟩;simp[J]
   repeat (refine⟨by omega,?_⟩)
   refine hv.cut2 (m:=f.length) (by simp) (fun W k'=>k') (fun d W k'=>k') fun T A X=>?_
   simp[M];refine hw.cut2 (m:=f.length) (by simp) (fun W k'=>k') (fun d W k'=>k') fun w' H Y=>?_
   rw[zh3,Da (by rw[zm2];omega)] at A;rw[zgv,Da (by rw[zle];omega)] at H;simp[P,j,Fa];refine⟨by omega,K _ _ _ ⟨N - 1,by omega,i+1,_,f,T,w',rfl,by omega,by simp[L],by simp,by simp,by simp,by simp,j,A,H,fun q=>by rw[X,Y];exact r q,Q,⟨by omega,by omega⟩,fun e he=>F e (Az _ he),by omega,by simpa using C,p⟩⟩
 rw[Ab l,Ab B] at p;rw[Ab (by simp[Im,l];split<;>simp),Ab (by simp[Im,l,B])] at C;simp[L,J,O,M,P,j,Fa,g,Fu S,l,B]
 repeat (refine⟨by omega,?_⟩)
 refine K _ _ _ ⟨N - 1,by omega,i+1,_,f,v,w,rfl,by omega,by simp[L],by simp[J],by simp,by simp[M],by simp,j,hv,hw,r,Q,⟨by omega,by omega⟩,F,by omega,C.2,p⟩
section
def z8n:LC:=(.q [.z 4 (.move (.c (.u 0)))] (.seq (.q [.m 5 1,.z 6 (.bin .lss true 3 (.t 5) (.k 0))] (.cond (.t 6) (.q [.z 4 (.move (.c (.u 0)))] .ret) .skip)) (.q [.m 7 0,.z 8 (.nilChk (.t 7)),.f 9 3 8,.l 10 9,.m 11 1,.z 12 (.ixAddr 1 (.t 10) (.t 11)),.l 13 12,.m 4 13] .ret)))
def r_ref12_run_at:Fg Tryz.prog 148=some ⟨14,z8n.r,[.tmp 4]⟩:=by kernel_rfl
def zcp:LC:=(.q [.z 4 (.move .F)] (.q [.m 17 0,.z 18 (.nilChk (.t 17)),.f 19 0 18,.f 20 2 19,.l 21 20,.m 22 1,.z 23 (.ixAddr 8 (.t 21) (.t 22)),.z 24 (.loadN 8 (.t 23)),.z 5 (.alloc [(.i 0),(.i 0),(.i 0),(.i 0),(.i 0),(.i 0),(.i 0),(.u 0)]),.v (.store 8 (.t 5) (.t 24))] (.seq (.draw [(.m 25 0,[]),(.f 26 3 5,[]),(.l 27 26,[]),(.m 29 0,[]),(.f 30 4 5,[]),(.l 31 30,[]),(.m 33 0,[]),(.f 34 5 5,[]),(.l 35 34,[]),(.z 28 (.w 148 [.t 25,.t 27]),[(.l 35 34,false),(.l 31 30,false)]),(.z 32 (.w 148 [.t 29,.t 31]),[(.l 35 34,false)]),(.z 36 (.w 148 [.t 33,.t 35]),[]),(.z 37 (.bin .rem true 23 (.t 36) (.c (.u 2))),[]),(.z 38 (.bin .eql true 23 (.t 37) (.c (.u 1))),[]),(.m 6 28,[]),(.m 7 32,[]),(.m 8 38,[])]) (.q [.z 9 (.move (.k (-1)))] (.q [.z 10 (.move (.c (.u 0))),.z 11 (.move (.c (.u 0)))] (.seq (.q [.f 39 0 5,.l 40 39] (.block 0 (.q [.z 42 (.bin .eql true 3 (.t 40) (.k 1)),.m 41 42] (.cond (.t 41) (.ops [.f 43 7 5,.l 44 43,.m 10 44]) (.q [.z 46 (.bin .eql true 3 (.t 40) (.k 2)),.m 45 46] (.cond (.t 45) (.ops [.m 47 6,.m 10 47]) (.q [.z 49 (.bin .eql true 3 (.t 40) (.k 3)),.m 48 49] (.cond (.t 48) (.ops [.m 50 6,.m 51 7,.z 52 (.bin .add false 23 (.t 50) (.t 51)),.m 10 52]) (.q [.z 54 (.bin .eql true 3 (.t 40) (.k 4)),.m 53 54] (.cond (.t 53) (.ops [.m 55 6,.m 56 7,.z 57 (.bin .sub false 23 (.t 55) (.t 56)),.m 10 57]) (.q [.z 59 (.bin .eql true 3 (.t 40) (.k 5)),.m 58 59] (.cond (.t 58) (.ops [.m 60 6,.m 61 7,.z 62 (.bin .and false 23 (.t 60) (.t 61)),.m 10 62]) (.q [.z 64 (.bin .eql true 3 (.t 40) (.k 6)),.m 63 64] (.cond (.t 63) (.ops [.m 65 6,.m 66 7,.z 67 (.bin .or false 23 (.t 65) (.t 66)),.m 10 67]) (.q [.z 69 (.bin .eql true 3 (.t 40) (.k 7)),.m 68 69] (.cond (.t 68) (.ops [.m 70 6,.m 71 7,.z 72 (.bin .xor false 23 (.t 70) (.t 71)),.m 10 72]) (.q [.z 74 (.bin .eql true 3 (.t 40) (.k 8)),.m 73 74] (.cond (.t 73) (.ops [.m 75 6,.f 76 7 5,.l 77 76,.z 78 (.bin .shl false 23 (.t 75) (.t 77)),.m 10 78]) (.q [.z 80 (.bin .eql true 3 (.t 40) (.k 9)),.m 79 80] (.cond (.t 79) (.ops [.m 81 6,.f 82 7 5,.l 83 82,.z 84 (.bin .shr false 23 (.t 81) (.t 83)),.m 10 84]) (.q [.z 86 (.bin .eql true 3 (.t 40) (.k 10)),.m 85 86] (.cond (.t 85) (.ops [.m 88 6,.m 89 7,.z 90 (.w 91 [.t 88,.t 89]),.m 87 90,.z 91 (.extract 0 (.t 87)),.z 92 (.extract 1 (.t 87)),.m 10 91,.m 11 92]) (.q [.z 94 (.bin .eql true 3 (.t 40) (.k 11)),.m 93 94] (.cond (.t 93) (.q [.m 96 6,.m 97 7,.m 98 8,.z 99 (.w 92 [.t 96,.t 97,.t 98]),.m 95 99,.z 100 (.extract 0 (.t 95)),.z 101 (.extract 1 (.t 95)),.m 12 100,.m 13 101] (.ops [.m 102 12,.m 103 13,.z 104 (.w 149 [.t 103]),.m 10 102,.m 11 104])) (.q [.z 106 (.bin .eql true 3 (.t 40) (.k 12)),.m 105 106] (.cond (.t 105) (.q [.m 108 6,.m 109 7,.m 110 8,.z 111 (.w 147 [.t 108,.t 109,.t 110]),.m 107 111,.z 112 (.extract 0 (.t 107)),.z 113 (.extract 1 (.t 107)),.m 14 112,.m 15 113] (.ops [.m 114 14,.m 115 15,.z 116 (.w 149 [.t 115]),.m 10 114,.m 11 116])) (.q [.z 118 (.bin .eql true 3 (.t 40) (.k 13)),.m 117 118] (.cond (.t 117) (.q [.m 119 7,.m 10 119] (.q [.m 120 8] (.cond (.t 120) (.ops [.m 121 6,.m 10 121]) .skip))) (.seq (.q [.z 123 (.bin .eql true 3 (.t 40) (.k 14)),.m 122 123] (.cond (.t 122) .skip (.ops [.z 124 (.bin .eql true 3 (.t 40) (.k 15)),.m 122 124]))) (.cond (.t 122) (.q [.f 125 7 5,.l 126 125,.m 127 6,.z 128 (.bin .add false 23 (.t 126) (.t 127)),.m 16 128] (.seq (.seq (.draw [(.m 129 16,[]),(.m 130 0,[]),(.z 131 (.nilChk (.t 130)),[]),(.f 132 4 131,[]),(.l 133 132,[]),(.f 134 6 5,[]),(.l 135 134,[]),(.z 136 (.ixAddr 1 (.t 133) (.t 135)),[]),(.l 137 136,[]),(.z 138 (.lenSl (.t 137)),[]),(.z 139 (.cvInt .u64 (.t 138)),[]),(.z 140 (.bin .geq false 23 (.t 129) (.t 139)),[])]) (.cond (.t 140) (.q [.z 4 (.move .F)] .ret) .skip)) (.q [.m 141 16,.z 142 (.cvInt .i64 (.t 141)),.m 9 142] (.q [.f 143 0 5,.l 144 143,.z 145 (.bin .eql true 3 (.t 144) (.k 15))] (.cond (.t 145) (.draw [(.m 146 0,[]),(.z 147 (.nilChk (.t 146)),[]),(.f 148 4 147,[]),(.l 149 148,[]),(.f 150 6 5,[]),(.l 151 150,[]),(.z 152 (.ixAddr 1 (.t 149) (.t 151)),[]),(.l 153 152,[]),(.m 154 16,[]),(.m 155 7,[]),(.z 156 (.ixAddr 1 (.t 153) (.t 154)),[]),(.v (.store 1 (.t 156) (.t 155)),[])]) (.draw [(.m 157 0,[]),(.z 158 (.nilChk (.t 157)),[]),(.f 159 4 158,[]),(.l 160 159,[]),(.f 161 6 5,[]),(.l 162 161,[]),(.z 163 (.ixAddr 1 (.t 160) (.t 162)),[]),(.l 164 163,[]),(.m 165 16,[]),(.z 166 (.ixAddr 1 (.t 164) (.t 165)),[]),(.l 167 166,[]),(.m 10 167,[])])))))) .skip)))))))))))))))))))))))))))))) (.seq (.q [.f 168 1 5,.l 169 168,.z 170 (.bin .geq true 3 (.t 169) (.k 0))] (.cond (.t 170) (.draw [(.m 171 0,[]),(.z 172 (.nilChk (.t 171)),[]),(.f 173 3 172,[]),(.l 174 173,[]),(.f 175 1 5,[]),(.l 176 175,[]),(.m 177 10,[]),(.z 178 (.ixAddr 1 (.t 174) (.t 176)),[]),(.v (.store 1 (.t 178) (.t 177)),[])]) .skip)) (.seq (.q [.f 179 2 5,.l 180 179,.z 181 (.bin .geq true 3 (.t 180) (.k 0))] (.cond (.t 181) (.draw [(.m 182 0,[]),(.z 183 (.nilChk (.t 182)),[]),(.f 184 3 183,[]),(.l 185 184,[]),(.f 186 2 5,[]),(.l 187 186,[]),(.m 188 11,[]),(.z 189 (.ixAddr 1 (.t 185) (.t 187)),[]),(.v (.store 1 (.t 189) (.t 188)),[])]) .skip)) (.q [.m 190 0,.m 191 0,.z 192 (.nilChk (.t 191)),.f 193 5 192,.l 194 193,.m 195 1,.m 196 9,.z 197 (.build [(.i 0),(.i 0)] [(0,1,.t 195),(1,1,.t 196)]),.z 198 (.buildSl 2 1 [(.i 0),(.i 0)] [(0,2,.t 197)]),.z 199 (.appG 2 (.t 194) (.t 198)),.z 200 (.nilChk (.t 190)),.f 201 5 200,.v (.store 1 (.t 201) (.t 199))] (.q [.z 4 (.move .T)] .ret))))))))))
def r_ref12_run_do:Fg Tryz.prog 88=some ⟨202,zcp.r,[.tmp 4]⟩:=by kernel_rfl
def Tl (bs:List Bf)(X:List (List UInt64)):Bool:=decide (X.length=bs.length∧∀i,i<bs.length→((X.getD i []).length:Int)=if (Fk bs i).kind=3 then 0 else (Fk bs i).size)
def zmi (regs:Int)(bs:List Bf)(os:List Lo)(X:List (List UInt64))(K:X.length≤9223372036854775807):F4 86 [.agg (Fa regs bs os),LN X] (.bool (Tl bs X)) []:=by
 refine Hg.val rfl (E9 r_ref12_Rows (by kernel_rfl) (by simp) ?_);by_cases r:X.length=bs.length
 case neg =>
  have C:¬(X.length:Int)=bs.length:=by omega
  simp[zbb,Fa,Tl,r,C]
 simp[zbb,Fa,r];refine Iw (fun ρ D G N=>∃i:Nat,D=[]∧G=[.cells (Fa regs bs os) 0]∧N+i=bs.length∧lk ρ 1=LN X∧lk ρ 2=.ptr 0 0∧lk ρ 5=.i i∧∀j,j<i→((X.getD j []).length:Int)=if (Fk bs j).kind=3 then 0 else (Fk bs j).size) (N:=bs.length)
  ⟨0,rfl,by simp[Fa],by omega,by simp[r],by simp,by simp,fun j h=>by omega⟩ ?_
 rintro N ρ D G ⟨i,rfl,rfl,M,l,m,w,H⟩ O y;by_cases g:i<bs.length
 case neg =>
  have:Tl bs X=true:=by
   unfold Tl;exact B4 ⟨r,fun j I=>H j (by omega)⟩
  simp[l,m,w,r,g,this]
 have A:=Yf (Kl g);have B:=jz (Kl g);have z:i<X.length:=by omega
 have d:¬X.length≤i:=by omega
 obtain⟨x,E⟩:∃x,X.getD i []=x:=⟨_,rfl⟩;have f:X[i]=x:=by rw[←E];simp[z]
 have bad:¬(x.length:Int)=(if (Fk bs i).kind=3 then 0 else (Fk bs i).size)→Tl bs X=false:=fun h=>by
  unfold Tl;exact Dy (fun q=>h (by rw[←E];exact q.2 i g))
 have a:(x.length:Int)=(if (Fk bs i).kind=3 then 0 else (Fk bs i).size)→∀j,j<i+1→((X.getD j []).length:Int)=if (Fk bs j).kind=3 then 0 else (Fk bs j).size:=fun h j I=>by
  by_cases q:j=i
  ·rw[q,E];exact h
  ·exact H j (by omega)
 by_cases p:(Fk bs i).kind=3
 ·rw[Ai p] at bad a;by_cases e:(x.length:Int)=0
  ·have F:x=[]:=A0 (by omega);have o:=a e;subst F;simp[l,m,w,Fa,g,z,d,Fu A,Fu B,p,f]
   repeat (refine⟨by omega,?_⟩)
   exact y _ _ _ ⟨N - 1,by omega,i+1,rfl,by simp[Fa],by omega,by simp[l],by simp[m],by simp,o⟩
  ·have J:x≠[]:=fun q=>e (by rw[q];rfl)
   simp[l,m,w,Fa,g,z,d,Fu A,Fu B,p,f,J,bad e]
 ·rw[Ab p] at bad a;by_cases e:(x.length:Int)=(Fk bs i).size
  ·simp[l,m,w,Fa,g,z,d,Fu A,Fu B,p,f,e]
   repeat (refine⟨by omega,?_⟩)
   exact y _ _ _ ⟨N - 1,by omega,i+1,rfl,by simp[Fa],by omega,by simp[l],by simp[m],by simp,a e⟩
  ·simp[l,m,w,Fa,g,z,d,Fu A,Fu B,p,f,e,bad e]
def Rl (l:List (Int×Int)):List LV:=l.flatMap fun e=>[.i e.1,.i e.2]
def zy2 (a b:List (Int×Int)):Rl (a++b)=Rl a++Rl b:=by simp[Rl]
structure MsH (G:Ev) (x pr pb kb:Nat) (qs:List Nat) (b:Nat) (regs:Int) (bs:List Bf) (os:List Lo) (L:LV) (s:Ms):Prop where
 xc:∃st,G[x]?=some (.cells [.i regs,.lst (Ga bs) bs.length 3,.lst (Gi os) os.length 8,.dy pr 0,.dy pb kb,L] st)
 rr:∃st,G[pr]?=some (.dyn (s.r.map .u) s.r.length 1 0 st)
 bb:∃st,G[pb]?=some (.dyn (qs.map fun q=>.dy q 0) qs.length 1 kb st)
 row:∀j,j<qs.length→∃st,G[qs.getD j 0]?=some (.dyn ((s.bufs.getD j []).map .u) (s.bufs.getD j []).length 1 0 st)
 bl:s.bufs.length=qs.length
 lt:x<b∧pr<b∧pb<b∧x≠pr∧x≠pb∧pr≠pb
 qlt:∀q∈qs,q<b∧q≠x∧q≠pr∧q≠pb
 nd:qs.Nodup
 ev:Gu b G L 2 s.l.length (Rl s.l)
 bG:b≤G.length
section msh
variable {G G' : Ev} {x pr pb kb : Nat} {qs : List Nat} {b : Nat} {regs : Int} {bs : List Bf} {os : List Lo} {L : LV} {s : Ms}
def MsH.keep (h:MsH G x pr pb kb qs b regs bs os L s)(hf:∀q,q<G.length→G'[q]?=G[q]?)(hl:G.length≤G'.length):MsH G' x pr pb kb qs b regs bs os L s:=by
 have e:∀{q:Nat} {ob:LObj},G[q]?=some ob→G'[q]?=some ob:=fun hq=>by rw[hf _ (Aa.1 hq).1];exact hq
 refine⟨?_,?_,?_,fun j hj=>?_,h.bl,h.lt,h.qlt,h.nd,h.ev.frame fun q _ hq=>hf q hq,Bo h.bG hl⟩
 ·obtain⟨st,h⟩:=h.xc;exact⟨st,e h⟩
 ·obtain⟨st,h⟩:=h.rr;exact⟨st,e h⟩
 ·obtain⟨st,h⟩:=h.bb;exact⟨st,e h⟩
 ·obtain⟨st,h⟩:=h.row j hj;exact⟨st,e h⟩
def zf0 {K:LV→Ev→Prop}{r:Int}(h:MsH G x pr pb kb qs b regs bs os L s)(j:r<s.r.length)(k:K (.u (atR s.r r)) G):F1 (.fn 148) [.ptr x 0,.i r] G K:=by
 refine E9 r_ref12_run_at (by kernel_rfl) (by simp) ?_;obtain⟨s1,d⟩:=h.xc;obtain⟨s2,f⟩:=h.rr;unfold atR at k;by_cases g:r<0
 ·rw[Ai g] at k;simp[z8n,g];exact k
 ·rw[Ab g] at k;obtain⟨n,rfl⟩:=Af (show 0≤r by omega);have a:n<s.r.length:=by omega
  have q:(s.r.map LV.u)[n]?=some (.u (s.r.getD n 0)):=by simp[a,Ae]
  rw[A9] at k;rw[show s.r.getD n 0=s.r[n] from by simp[Ae,a]] at k;simp[z8n,d,f,a,show ¬((n:Int)<0) by omega];exact k
def MsH.putr (h:MsH G x pr pb kb qs b regs bs os L s){i:Int}{v:UInt64}{st:Nat}:MsH (G.set pr (.dyn ((Fb s.r i v).map .u) s.r.length 1 0 st)) x pr pb kb qs b regs bs os L ⟨s.i,s.first,Fb s.r i v,s.bufs,s.l⟩:=by
 obtain⟨l1,l2,l3,l4,l5,l6⟩:=h.lt;have aa:pr<G.length:=by obtain⟨st,h⟩:=h.rr;exact (Aa.1 h).1
 have ad:(Fb s.r i v).length=s.r.length:=by unfold Fb;split<;>simp
 have ne:∀{q:Nat} {ob:LObj},q≠pr→(G.set pr ob)[q]?=G[q]?:=fun hq=>Ad (Ne.symm hq)
 refine⟨?_,⟨st,?_⟩,?_,fun j hj=>?_,h.bl,h.lt,h.qlt,h.nd,h.ev.set_lt l2,by rw[Ce];exact h.bG⟩
 ·obtain⟨st,h⟩:=h.xc;exact⟨st,by rw[ne l4];exact h⟩
 ·rw[Ag aa];show _=some (LObj.dyn ((Fb s.r i v).map .u) (Fb s.r i v).length 1 0 st);rw[ad]
 ·obtain⟨st,h⟩:=h.bb;exact⟨st,by rw[ne (Ne.symm l6)];exact h⟩
 ·obtain⟨st,h'⟩:=h.row j hj;refine⟨st,?_⟩;rw[ne (h.qlt _ (by simp[Ae,hj])).2.2.1];exact h'
def MsH.sto (h:MsH G x pr pb kb qs b regs bs os L s){j:Nat}{row:List UInt64}{st:Nat}(hj:j<qs.length):MsH (G.set (qs.getD j 0) (.dyn (row.map .u) row.length 1 0 st)) x pr pb kb qs b regs bs os L ⟨s.i,s.first,s.r,s.bufs.set j row,s.l⟩:=by
 obtain⟨l1,l2,l3,l4,l5,l6⟩:=h.lt;obtain⟨q1,q2,q3,q4⟩:=h.qlt (qs.getD j 0) (by simp[Ae,hj]);have ad:qs.getD j 0<G.length:=by obtain⟨st,h⟩:=h.row j hj;exact (Aa.1 h).1
 have ne:∀{q:Nat} {ob:LObj},q≠qs.getD j 0→(G.set (qs.getD j 0) ob)[q]?=G[q]?:=fun hq=>Ad (Ne.symm hq)
 refine⟨?_,?_,?_,fun k hk=>?_,by simpa using h.bl,h.lt,h.qlt,h.nd,h.ev.set_lt q1,by rw[Ce];exact h.bG⟩
 ·obtain⟨st,h⟩:=h.xc;exact⟨st,by rw[ne (Ne.symm q2)];exact h⟩
 ·obtain⟨st,h⟩:=h.rr;exact⟨st,by rw[ne (Ne.symm q3)];exact h⟩
 ·obtain⟨st,h⟩:=h.bb;exact⟨st,by rw[ne (Ne.symm q4)];exact h⟩
 ·show ∃aa,_=some (LObj.dyn (((s.bufs.set j row).getD k []).map .u) ((s.bufs.set j row).getD k []).length 1 0 aa);rw[S1 _ _ _ _ _ (by rw[h.bl];exact hj)];by_cases e:k=j
  ·subst e;rw[Ai rfl];exact⟨st,Ag ad⟩
  ·rw[Ab e];obtain⟨aa,h'⟩:=h.row k hk;refine⟨aa,?_⟩;rw[ne (fun q=>e ?_)]
   ·exact h'
   ·simp only[Ae,Ah hk,Ah hj,B9] at q;exact (List.getElem_inj h.nd).1 q
end msh
def zix {regs:Int}{bs:List Bf}{o:Lo}(h:Ib regs bs o=true):(o.d=-1∨0≤o.d∧o.d<regs)∧(o.e=-1∨0≤o.e∧o.e<regs)∧(o.a=-1∨0≤o.a∧o.a<regs)∧(o.b=-1∨0≤o.b∧o.b<regs)∧(o.c=-1∨0≤o.c∧o.c<regs)∧(o.kind=14∨o.kind=15→0≤o.buf∧o.buf<bs.length):=by
 unfold Ib at h;simp only[Ac] at h;obtain⟨_,d,e,a,b,c,_,m⟩:=h;have f:∀{x:Int} {t:Bool},Fh regs x t=true→x=-1∨0≤x∧x<regs:=fun {x t} h=>by
  unfold Fh at h;cases t with
  |true=>simp at h;exact .inr h
  |false=>simp at h;exact .inl h
 refine⟨f d,f e,?_,f b,f c,fun k=>?_⟩
 ·simp only[Bm,Ac,Ao] at a;exact a.elim f fun q=>.inl q.2
 ·rw[Ai (by unfold Gf;simpa using k)] at m;simp only[Ac,Ao] at m;exact⟨m.1,m.2.1⟩
def PhiD (x pr pb kb:Nat)(qs:List Nat)(b:Nat)(regs:Int)(bs:List Bf)(os:List Lo)(L:LV)(s:Ms)(o:Lo)(a:Ev)(ρ:Ey)(D:List Nat)(G:Ev):Prop :=
 D=[]∧lk ρ 0=.ptr x 0∧lk ρ 1=.i s.i∧∃(z:Nat) (d e:UInt64) (pl:Int) (bufs:List (List UInt64)),lk ρ 5=.ptr z 0∧b≤z∧G[z]?=some (.cells o.f 1)∧lk ρ 9=.i pl∧lk ρ 10=.u d∧lk ρ 11=.u e ∧
  MsH G x pr pb kb qs b regs bs os L ⟨s.i,s.first,s.r,bufs,s.l⟩∧M3 o s=some ⟨s.i+1,s.first,Fb (Fb s.r o.d d) o.e e,bufs,s.l++[((s.i:Int),pl)]⟩∧∀q,q<b→q ∉ qs→G[q]?=a[q]?
def l7 {G:Ev}{K:LV→Ev→Prop}{x pr pb kb:Nat}{qs:List Nat}{b:Nat}{regs:Int}{bs:List Bf}{os:List Lo}{L:LV}{s:Ms}{o:Lo}(h:MsH G x pr pb kb qs b regs bs os L s)(ho:os[s.i]?=some o)(hf:Ib regs bs o=true)(aT:o.kind≠16)(aU:o.kind≠17)(aV:(s.r.length:Int)=regs)(aW:qs.length=bs.length)(aX:s.l.length≤900000000)
  (ap:∀x∈s.bufs,x.length≤65536)
  (kn:M3 o s=none→∀G',K (.bool false) G') (ks:∀s' G' L',M3 o s=some s'→MsH G' x pr pb kb qs b regs bs os L' s'→(∀q,q<b→q≠x→q≠pr→q ∉ qs→G'[q]?=G[q]?)→K (.bool true) G'):F1 (.fn 88) [.ptr x 0,.i s.i] G K:=by
 obtain⟨rd,re,ra,rb,rc,rm⟩:=zix hf;have aY:1≤o.kind∧o.kind≤17:=by
  unfold Ib at hf;simp only[Ac,Ao] at hf;exact hf.1
 have hC:o.f=[.i o.kind,.i o.d,.i o.e,.i o.a,.i o.b,.i o.c,.i o.buf,.u o.imm]:=rfl;have aq:=h.bG;obtain⟨s1,h1⟩:=h.xc;have lx:x<G.length:=(Aa.1 h1).1;have aG:=zgr ho;have aH:=uh (Aa.1 ho).1;have ar:s.i<os.length:=(Aa.1 ho).1;refine E9 r_ref12_run_do (by kernel_rfl) (by simp) ?_;rw[zcp,ym,ym,ym,ym,ym];refine zvn (PhiD x pr pb kb qs b regs bs os L s o G) (fun Nx A=>?_) (fun ρ D G2 hΦ=>?_)
 ·simp[h1,ar,aG,aH,hC];have a:(G++[LObj.cells o.f 1])[G.length]?=some (.cells o.f 1):=Aw;have w:MsH (G++[LObj.cells o.f 1]) x pr pb kb qs b regs bs os L s:=h.keep (fun q B=>E6 B) (by simp);have l:∀q,q<b→q ∉ qs→(G++[LObj.cells o.f 1])[q]?=G[q]?:=fun q B _=>E6 (Bg B aq)
  have ad:b≤G.length:=aq;rw[hC] at a w l;generalize G++[LObj.cells [.i o.kind,.i o.d,.i o.e,.i o.a,.i o.b,.i o.c,.i o.buf,.u o.imm] 1]=G1 at *;generalize G.length=z at *;refine zf0 (r:=o.a) w (by omega) ?_;simp[a];refine zf0 (r:=o.b) w (by omega) ?_;simp[a];refine zf0 (r:=o.c) w (by omega) ?_;have R:o.kind≠14→o.kind≠15→M3 o s=some ⟨s.i+1,s.first,Fb (Fb s.r o.d (Fv o (atR s.r o.a) (atR s.r o.b) (decide (atR s.r o.c%2=1))).1) o.e (Fv o (atR s.r o.a) (atR s.r o.b) (decide (atR s.r o.c%2=1))).2,s.bufs,s.l++[((s.i:Int),(-1:Int))]⟩:=fun T e2=>by
   unfold M3;rw[Ab T,Ab e2]
  generalize af:atR s.r o.a=f at *;generalize aI:atR s.r o.b=g at *;generalize aZ:atR s.r o.c=vc at *;by_cases km:o.kind=14∨o.kind=15
  ·obtain⟨m0,m1⟩:=rm km;obtain⟨nb,S⟩:=Af m0;have C:nb<qs.length:=by omega
   obtain⟨s3,Y⟩:=w.row nb C;obtain⟨s4,h4⟩:=w.bb;obtain⟨s5,h5⟩:=w.xc;have Z:(qs.map fun q=>LV.dy q 0)[nb]?=some (.dy (qs.getD nb 0) 0):=by simp[Ae,C]
   have ag:Md s.bufs o.buf=s.bufs.getD nb []:=by unfold Md;rw[S];rfl
   have aw:(s.bufs.getD nb []).length≤65536:=ap _ (by simp[Ae,h.bl,C]);have ax:=fun (aJ:List UInt64) (aK:Nat)=>w.sto (row:=aJ) (st:=aK) C
   have a2:=(h.qlt (qs.getD nb 0) (by simp[Ae,C])).1;have aL:qs.getD nb 0∈qs:=by simp[Ae,C]
   have a3:qs.getD nb 0<G1.length:=(Aa.1 Y).1;have Q:iU (((s.bufs.getD nb []).length:Nat):Int)≤o.imm+f↔(s.bufs.getD nb []).length≤(o.imm+f).toNat:=by
    rw[Bq,O9 (by omega)]
   generalize s.bufs.getD nb []=row at *;generalize qs.getD nb 0=qn at *;generalize hn:(o.imm+f).toNat=n at *;by_cases m:n<row.length
   case neg =>
    have hle:row.length≤n:=by omega
    have ay:M3 o s=none:=by
     unfold M3;rw[ag,af,hn,Ab m,Ab m];rcases km with k|k
     ·rw[Ai k]
     ·rw[Ab (by omega),Ai k]
    rcases km with k|k
    ·simp[a,k,Y,h4,h5,S,C,Fu Z,M9,Q,hle,Fa];exact kn ay _
    ·simp[a,k,Y,h4,h5,S,C,Fu Z,M9,Q,hle,Fa];exact kn ay _
   have aa:¬row.length≤n:=by omega
   rcases km with k|k
   ·have ah:M3 o s=some ⟨s.i+1,s.first,Fb (Fb s.r o.d row[n]) o.e 0,s.bufs,s.l++[((s.i:Int),(n:Int))]⟩:=by
     unfold M3;rw[ag,af,hn,Ai k,Ai m];simp[Ae,m]
    simp[a,k,Y,h4,h5,S,C,Fu Z,M9,Q,aa,hn,m,Fa]
    repeat (refine⟨by omega,?_⟩)
    exact A _ _ _ ⟨rfl,by simp,by simp,z,_,_,(n:Int),s.bufs,by simp,ad,a,by simp,by simp,by simp,w,ah,l⟩
   ·have ah:M3 o s=some ⟨s.i+1,s.first,Fb (Fb s.r o.d 0) o.e 0,s.bufs.set nb (row.set n g),s.l++[((s.i:Int),(n:Int))]⟩:=by
     unfold M3;rw[ag,af,aI,hn,Ab (by omega),Ai k,Ai m,S];rfl
    have T:Gp (row.map LV.u) n [.u g]=(row.set n g).map LV.u:=by
     rw[uv (by simpa using m),B0]
    simp[a,k,Y,h4,h5,S,C,Fu Z,M9,Q,aa,hn,m,Fa,T]
    repeat (refine⟨by omega,?_⟩)
    have F:=ax (row.set n g) (s3+1);simp only[B0,Ce] at F;refine A _ _ _ ⟨rfl,by simp,by simp,z,0,0,(n:Int),s.bufs.set nb (row.set n g),by simp,ad,?_,by simp,by simp,by simp,F,ah,fun q B p=>?_⟩
    ·rw[Ad (fun e=>by rw[e,a] at Y;cases Y)];exact a
    ·rw[Ad (fun e=>p (by rw[←e];exact aL))];exact l q B p
  have aM:o.kind≠14:=fun q=>km (.inl q)
  have aN:o.kind≠15:=fun q=>km (.inr q)
  have R:=R aM aN;have fin:∀(ρ':Ey),lk ρ' 0=.ptr x 0→lk ρ' 1=.i s.i→lk ρ' 5=.ptr z 0→lk ρ' 9=.i (-1)→lk ρ' 10=.u (Fv o f g (decide (vc%2=1))).1→lk ρ' 11=.u (Fv o f g (decide (vc%2=1))).2→Nx ρ' [] G1:=by
   intro ρ' I J U M V E;exact A _ _ _ ⟨rfl,I,J,z,_,_,-1,s.bufs,U,ad,a,M,V,E,w,R,l⟩
  clear R A h w kn ks;by_cases k1:o.kind=1
  ·have hv:∀c,Fv o f g c=(o.imm,0):=fun c=>by unfold Fv;simp[k1]
   rw[hv] at fin;simp[a,k1];exact fin _ (by simp) (by simp) (by simp) (by simp) (by simp[M9,Qx,Wf,X5,Yq,Ya,U7]) (by simp)
  by_cases k2:o.kind=2
  ·have hv:∀c,Fv o f g c=(f,0):=fun c=>by unfold Fv;simp[k2]
   rw[hv] at fin;simp[a,k2];exact fin _ (by simp) (by simp) (by simp) (by simp) (by simp[M9,Qx,Wf,X5,Yq,Ya,U7]) (by simp)
  by_cases k3:o.kind=3
  ·have hv:∀c,Fv o f g c=(f+g,0):=fun c=>by unfold Fv;simp[k3]
   rw[hv] at fin;simp[a,k3];exact fin _ (by simp) (by simp) (by simp) (by simp) (by simp[M9,Qx,Wf,X5,Yq,Ya,U7]) (by simp)
  by_cases k4:o.kind=4
  ·have hv:∀c,Fv o f g c=(f - g,0):=fun c=>by unfold Fv;simp[k4]
   rw[hv] at fin;simp[a,k4];exact fin _ (by simp) (by simp) (by simp) (by simp) (by simp[M9,Qx,Wf,X5,Yq,Ya,U7]) (by simp)
  by_cases k5:o.kind=5
  ·have hv:∀c,Fv o f g c=(f &&& g,0):=fun c=>by unfold Fv;simp[k5]
   rw[hv] at fin;simp[a,k5];exact fin _ (by simp) (by simp) (by simp) (by simp) (by simp[M9,Qx,Wf,X5,Yq,Ya,U7]) (by simp)
  by_cases k6:o.kind=6
  ·have hv:∀c,Fv o f g c=(f ||| g,0):=fun c=>by unfold Fv;simp[k6]
   rw[hv] at fin;simp[a,k6];exact fin _ (by simp) (by simp) (by simp) (by simp) (by simp[M9,Qx,Wf,X5,Yq,Ya,U7]) (by simp)
  by_cases k7:o.kind=7
  ·have hv:∀c,Fv o f g c=(f ^^^ g,0):=fun c=>by unfold Fv;simp[k7]
   rw[hv] at fin;simp[a,k7];exact fin _ (by simp) (by simp) (by simp) (by simp) (by simp[M9,Qx,Wf,X5,Yq,Ya,U7]) (by simp)
  by_cases k8:o.kind=8
  ·have hv:∀c,Fv o f g c=(UInt64.ofNat (f.toNat*2^o.imm.toNat),0):=fun c=>by unfold Fv;simp[k8]
   rw[hv] at fin;simp[a,k8];exact fin _ (by simp) (by simp) (by simp) (by simp) (by simp[M9,Qx,Wf,X5,Yq,Ya,U7]) (by simp)
  by_cases k9:o.kind=9
  ·have hv:∀c,Fv o f g c=(UInt64.ofNat (f.toNat/2^o.imm.toNat),0):=fun c=>by unfold Fv;simp[k9]
   rw[hv] at fin;simp[a,k9];exact fin _ (by simp) (by simp) (by simp) (by simp) (by simp[M9,Qx,Wf,X5,Yq,Ya,U7]) (by simp)
  by_cases az:o.kind=10
  ·have hv:∀c,Fv o f g c=(Sl f g,f*g):=fun c=>by unfold Fv;simp[az]
   rw[hv] at fin;simp[a,az];refine E5 (zq3 f g) (bors_self _ rfl) ?_;simp;exact fin _ (by simp) (by simp) (by simp) (by simp) (by simp) (by simp)
  by_cases aA:o.kind=11
  ·have hv:∀c,Fv o f g c=((Iy f g c).1,F2 (Iy f g c).2):=fun c=>by unfold Fv;simp[aA]
   rw[hv] at fin;simp[a,aA,zj2];refine E5 (zpy f g (decide (vc%2=1))) (bors_self _ rfl) ?_;simp;refine E5 (zfx _) (bors_self _ rfl) ?_;simp;exact fin _ (by simp) (by simp) (by simp) (by simp) (by simp) (by simp)
  by_cases aB:o.kind=12
  ·have hv:∀c,Fv o f g c=((Gx f g c).1,F2 (Gx f g c).2):=fun c=>by unfold Fv;simp[aB]
   rw[hv] at fin;simp[a,aB,zj2];refine E5 (zq6 f g (decide (vc%2=1))) (bors_self _ rfl) ?_;simp;refine E5 (zfx _) (bors_self _ rfl) ?_;simp;exact fin _ (by simp) (by simp) (by simp) (by simp) (by simp) (by simp)
  by_cases aj:o.kind=13
  ·have hv:∀c,Fv o f g c=(if c then f else g,0):=fun c=>by unfold Fv;simp[aj]
   rw[hv] at fin;by_cases c1:vc%2=1
   ·simp[a,aj,c1,zj2];exact fin _ (by simp) (by simp) (by simp) (by simp) (by simp[c1]) (by simp)
   ·simp[a,aj,c1,zj2];exact fin _ (by simp) (by simp) (by simp) (by simp) (by simp[c1]) (by simp)
  omega
 ·obtain⟨rfl,I,J,z,d,e,pl,bufs,U,bz,W,M,V,E,hm,R,l⟩:=hΦ;rw[R] at ks;rw[hC] at W;have aC:∀(i:Int) (v:UInt64) (r:List UInt64),(Fb r i v).length=r.length:=fun i v r=>by unfold Fb;split<;>simp
  refine zvn (fun ρ D G'=>D=[]∧lk ρ 0=.ptr x 0∧lk ρ 1=.i s.i∧lk ρ 5=.ptr z 0∧G'[z]?=some (.cells [.i o.kind,.i o.d,.i o.e,.i o.a,.i o.b,.i o.c,.i o.buf,.u o.imm] 1)∧lk ρ 9=.i pl∧lk ρ 11=.u e∧MsH G' x pr pb kb qs b regs bs os L ⟨s.i,s.first,Fb s.r o.d d,bufs,s.l⟩∧∀q,q<b→q≠pr→q ∉ qs→G'[q]?=G[q]?) (fun Nx A=>?_) (fun ρ D G3 Y=>?_)
  ·obtain⟨t1,N⟩:=hm.xc;obtain⟨t2,O⟩:=hm.rr;dsimp only at O;by_cases d0:0≤o.d
   ·obtain⟨dn,P⟩:=Af d0;have X:dn<s.r.length:=by omega
    have T:Gp (s.r.map LV.u) dn [.u d]=(Fb s.r o.d d).map LV.u:=by
     rw[uv (by simpa using X),Fb,Ai d0,P,B0];rfl
    have F:=hm.putr (i:=o.d) (v:=d) (st:=t2+1);dsimp only at F;simp[I,J,U,M,V,W,N,O,P,X,T];rw[←P];refine⟨by omega,A _ _ _ ⟨rfl,?_,?_,?_,?_,?_,?_,F,fun q B H p=>?_⟩⟩
    ·simp[I]
    ·simp[J]
    ·simp[U]
    rotate_left
    ·simp[M]
    ·simp[E]
    rotate_left
    ·rw[Ad (fun e=>by rw[e,W] at O;cases O)];exact W
    ·rw[Ad (Ne.symm H)];exact l q B p
   ·have T:Fb s.r o.d d=s.r:=by unfold Fb;rw[Ab d0]
    simp[I,J,U,M,V,W,d0];refine A _ _ _ ⟨rfl,?_,?_,?_,W,?_,?_,T.symm ▸ hm,fun q B _ p=>l q B p⟩
    all_goals simp[I,J,U,M,E]
  clear I J U M V E hm l W;obtain⟨rfl,I,J,U,W,M,E,hm,l⟩:=Y;have aw:=aC o.d d s.r;generalize Fb s.r o.d d=r1 at *;refine zvn (fun ρ D G'=>D=[]∧lk ρ 0=.ptr x 0∧lk ρ 1=.i s.i∧lk ρ 9=.i pl∧MsH G' x pr pb kb qs b regs bs os L ⟨s.i,s.first,Fb r1 o.e e,bufs,s.l⟩∧∀q,q<b→q≠pr→q ∉ qs→G'[q]?=G[q]?) (fun Nx A=>?_) (fun ρ D G4 h4=>?_)
  ·obtain⟨t1,N⟩:=hm.xc;obtain⟨t2,O⟩:=hm.rr;dsimp only at O;by_cases d0:0≤o.e
   ·obtain⟨dn,P⟩:=Af d0;have X:dn<r1.length:=by omega
    have T:Gp (r1.map LV.u) dn [.u e]=(Fb r1 o.e e).map LV.u:=by
     rw[uv (by simpa using X),Fb,Ai d0,P,B0];rfl
    have F:=hm.putr (i:=o.e) (v:=e) (st:=t2+1);dsimp only at F;simp[I,J,U,M,E,W,N,O,P,X,T];rw[←P];refine⟨by omega,A _ _ _ ⟨rfl,?_,?_,?_,F,fun q B H p=>?_⟩⟩
    ·simp[I]
    ·simp[J]
    ·simp[M]
    rw[Ad (Ne.symm H)];exact l q B H p
   ·have T:Fb r1 o.e e=r1:=by unfold Fb;rw[Ab d0]
    simp[I,J,U,M,E,W,d0];refine A _ _ _ ⟨rfl,?_,?_,?_,T.symm ▸ hm,fun q B H p=>l q B H p⟩
    all_goals simp[I,J,M]
  clear I J U M E hm l W;obtain⟨rfl,I,J,M,hm,l⟩:=h4;generalize Fb r1 o.e e=r2 at *;obtain⟨t1,N⟩:=hm.xc;have aO:x<G4.length:=(Aa.1 N).1;have q1:∀y:List LObj,(G4++y)[x]?=_:=fun y=>(E6 aO).trans N
  simp[I,J,M,N,↓q1];refine Gu.push2 (x:=[.i (s.i:Int),.i pl]) hm.ev.push_end (by omega) (by simp;have:=hm.bG;omega) (by show s.l.length≤_;omega) rfl rfl fun L' G5 aD ao aP a4=>?_
  have aS:=hm.bG;have aE:G5[x]?=_:=(ao x (by simp;omega) (fun e=>by have:=(hm.ev.row e).1;have:=h.lt.1;omega)).trans (q1 _);have aQ:L'.cells=some [L']:=aD.cells;simp[-LV.cells,aQ,aE];refine ks _ _ L' rfl ?_ ?_
  ·obtain⟨l1,l2,l3,l4,l5,l6⟩:=hm.lt;have aF:x<G5.length:=(Aa.1 aE).1;have ne:∀{q:Nat} {ob:LObj},q≠x→(G5.set x ob)[q]?=G5[q]?:=fun B=>Ad (Ne.symm B)
   have keep:∀{q:Nat} {ob:LObj},q<b→G4[q]?=some ob→G5[q]?=some ob:=fun {q ob} B ho=>by
    rw[ao q (by simp;omega) (fun e=>by have:=(hm.ev.row e).1;omega),E6 (Aa.1 ho).1];exact ho
   refine⟨⟨t1+1,Ag aF⟩,?_,?_,fun j hj=>?_,hm.bl,hm.lt,hm.qlt,hm.nd,?_,by rw[Ce];simp at aP;omega⟩
   ·obtain⟨st,h⟩:=hm.rr;exact⟨st,by rw[ne (Ne.symm l4)];exact keep l2 h⟩
   ·obtain⟨st,h⟩:=hm.bb;exact⟨st,by rw[ne (Ne.symm l5)];exact keep l3 h⟩
   ·obtain⟨st,h⟩:=hm.row j hj;have B:=hm.qlt (qs.getD j 0) (by simp[Ae,hj]);exact⟨st,by rw[ne B.2.1];exact keep B.1 h⟩
   ·show Gu b _ L' 2 (s.l++[((s.i:Int),pl)]).length (Rl (s.l++[((s.i:Int),pl)]));rw[zy2,Aj];exact aD.set_lt l1
  ·intro q B aR H p;rw[Ad (Ne.symm aR),ao q (by simp;omega) (fun e=>by have:=(hm.ev.row e).1;omega),E6 (by omega)];exact l q B H p
end
def zih:LC:=(.q [.z 2 (.box (.t 0)),.z 4 (.move (.c .nilSl)),.z 5 (.move (.c .nilSl)),.z 6 (.move (.k 0))] (.q [.z 18 (.loadN 3 (.t 2)),.z 19 (.w 78 [.t 18]),.m 17 19,.z 20 (.extract 0 (.t 17)),.z 21 (.extract 1 (.t 17)),.m 7 20,.m 8 21] (.seq (.q [.m 22 8,.z 23 (.bin .eql true 35 (.t 22) (.k 0)),.m 24 23,.y 25 24 (.loadN 3 (.t 2)),.y 26 24 (.w 85 [.t 25]),.y 27 24 (.bin .gtr true 3 (.t 26) (.k 16777216)),.z 28 (.pick (.t 24) (.t 27) .F)] (.cond (.t 28) (.ops [.z 8 (.move (.k 10))]) .skip)) (.seq (.q [.m 29 8,.z 30 (.bin .eql true 35 (.t 29) (.k 0)),.m 31 30,.y 32 31 (.loadN 3 (.t 2)),.my 33 31 1,.y 34 31 (.w 86 [.t 32,.t 33]),.y 35 31 (.un .not (.t 34)),.z 36 (.pick (.t 31) (.t 35) .F)] (.cond (.t 36) (.ops [.z 8 (.move (.k 2))]) .skip)) (.seq (.q [.m 37 8,.z 38 (.bin .neq true 35 (.t 37) (.k 0))] (.cond (.t 38) (.q [.m 39 8,.z 4 (.move (.c .nilSl)),.z 5 (.move (.c .nilSl)),.m 6 39] .ret) .skip)) (.seq (.draw [(.z 40 (.loadN 3 (.t 2)),[]),(.f 41 0 2,[]),(.l 42 41,[]),(.z 43 (.mkSl 1 [(.u 0)] (.t 42) (.t 42)),[(.l 42 41,false),(.z 40 (.loadN 3 (.t 2)),false)]),(.z 44 (.build [(.i 0),.nilSl,.nilSl,.nilSl,.nilSl,.nilSl] [(0,3,.t 40),(3,1,.t 43)]),[]),(.z 45 (.box (.t 44)),[(.z 43 (.mkSl 1 [(.u 0)] (.t 42) (.t 42)),true),(.l 42 41,false),(.z 40 (.loadN 3 (.t 2)),false)]),(.m 9 45,[])]) (.seq (.q [.z 10 (.move (.k 0))] (.block 0 (.loop (.seq (.q [.m 46 10,.m 47 1,.z 48 (.lenSl (.t 47)),.z 49 (.bin .lss false 3 (.t 46) (.t 48))] (.cond (.t 49) .skip (.exit 0))) (.seq (.block 1 (.q [.f 52 1 2,.l 53 52,.m 54 10,.z 55 (.ixAddr 3 (.t 53) (.t 54)),.f 56 0 55,.l 57 56,.z 58 (.mkSl 1 [(.u 0)] (.t 57) (.t 57)),.m 11 58] (.q [.m 59 11,.m 60 1,.m 61 10,.z 62 (.ixAddr 1 (.t 60) (.t 61)),.l 63 62,.z 64 (.copy 1 (.t 59) (.t 63))] (.ops [.m 65 9,.m 66 9,.z 67 (.nilChk (.t 66)),.f 68 4 67,.l 69 68,.m 70 11,.z 71 (.buildSl 1 1 [.nilSl] [(0,1,.t 70)]),.z 72 (.appG 1 (.t 69) (.t 71)),.z 73 (.nilChk (.t 65)),.f 74 4 73,.v (.store 1 (.t 74) (.t 72))])))) (.ops [.m 50 10,.z 51 (.bin .add true 3 (.t 50) (.k 1)),.m 10 51])))))) (.q [.z 75 (.loadN 3 (.t 2)),.z 76 (.w 87 [.t 75]),.m 12 76] (.q [.z 13 (.move .T)] (.seq (.q [.z 14 (.move (.k 0))] (.block 2 (.loop (.seq (.q [.m 77 14,.f 78 2 2,.l 79 78,.z 80 (.lenSl (.t 79)),.z 81 (.bin .lss false 3 (.t 77) (.t 80))] (.cond (.t 81) .skip (.exit 2))) (.seq (.block 3 (.q [.f 84 2 2,.l 85 84,.m 86 14,.z 87 (.ixAddr 8 (.t 85) (.t 86)),.z 88 (.loadN 8 (.t 87)),.z 15 (.alloc [(.i 0),(.i 0),(.i 0),(.i 0),(.i 0),(.i 0),(.i 0),(.u 0)]),.v (.store 8 (.t 15) (.t 88))] (.q [.f 89 0 15,.l 90 89] (.block 4 (.q [.z 100 (.bin .eql true 3 (.t 90) (.k 16)),.m 99 100] (.cond (.t 99) (.seq (.q [.m 101 13] (.cond (.t 101) (.draw [(.m 102 9,[]),(.z 103 (.nilChk (.t 102)),[]),(.f 104 3 103,[]),(.l 105 104,[]),(.f 106 1 15,[]),(.l 107 106,[]),(.z 108 (.ixAddr 1 (.t 105) (.t 107)),[]),(.v (.store 1 (.t 108) (.c (.u 0))),[])]) .skip)) (.q [.m 109 9,.m 110 9,.z 111 (.nilChk (.t 110)),.f 112 5 111,.l 113 112,.m 114 14,.z 115 (.build [(.i 0),(.i 0)] [(0,1,.t 114),(1,1,.k (-1))]),.z 116 (.buildSl 2 1 [(.i 0),(.i 0)] [(0,2,.t 115)]),.z 117 (.appG 2 (.t 113) (.t 116)),.z 118 (.nilChk (.t 109)),.f 119 5 118,.v (.store 1 (.t 119) (.t 117))] (.ops [.z 13 (.move .T)]))) (.q [.z 121 (.bin .eql true 3 (.t 90) (.k 17)),.m 120 121] (.cond (.t 120) (.seq (.draw [(.f 122 2 2,[]),(.l 123 122,[]),(.m 124 12,[]),(.m 125 14,[]),(.z 126 (.ixAddr 1 (.t 124) (.t 125)),[]),(.l 127 126,[]),(.z 128 (.ixAddr 8 (.t 123) (.t 127)),[]),(.z 129 (.loadN 8 (.t 128)),[]),(.z 16 (.alloc [(.i 0),(.i 0),(.i 0),(.i 0),(.i 0),(.i 0),(.i 0),(.u 0)]),[(.z 129 (.loadN 8 (.t 128)),false),(.l 127 126,false),(.l 123 122,false)]),(.v (.store 8 (.t 16) (.t 129)),[])]) (.seq (.draw [(.m 130 9,[]),(.z 131 (.nilChk (.t 130)),[]),(.f 132 3 131,[]),(.l 133 132,[]),(.f 134 1 16,[]),(.l 135 134,[]),(.z 136 (.ixAddr 1 (.t 133) (.t 135)),[]),(.l 137 136,[]),(.z 138 (.bin .add true 23 (.t 137) (.c (.u 1))),[]),(.f 139 7 16,[]),(.l 140 139,[]),(.z 141 (.bin .lss false 23 (.t 138) (.t 140)),[])]) (.cond (.t 141) (.seq (.draw [(.m 142 9,[]),(.z 143 (.nilChk (.t 142)),[]),(.f 144 3 143,[]),(.l 145 144,[]),(.f 146 1 16,[]),(.l 147 146,[]),(.z 148 (.ixAddr 1 (.t 145) (.t 147)),[]),(.l 149 148,[]),(.z 150 (.bin .add true 23 (.t 149) (.c (.u 1))),[]),(.z 151 (.ixAddr 1 (.t 145) (.t 147)),[]),(.v (.store 1 (.t 151) (.t 150)),[])]) (.q [.z 13 (.move .F)] (.ops [.m 152 12,.m 153 14,.z 154 (.ixAddr 1 (.t 152) (.t 153)),.l 155 154,.z 156 (.bin .sub true 3 (.t 155) (.k 1)),.m 14 156]))) .skip))) (.q [.m 91 9,.m 92 14,.z 93 (.w 88 [.t 91,.t 92]),.z 94 (.un .not (.t 93))] (.cond (.t 94) (.seq (.draw [(.m 95 9,[]),(.z 96 (.nilChk (.t 95)),[]),(.f 97 5 96,[]),(.l 98 97,[]),(.z 4 (.move (.c .nilSl)),[]),(.m 5 98,[]),(.z 6 (.move (.k 11)),[])]) .ret) .skip)))))))))) (.ops [.m 82 14,.z 83 (.bin .add true 3 (.t 82) (.k 1)),.m 14 83])))))) (.seq (.draw [(.m 157 9,[]),(.z 158 (.nilChk (.t 157)),[]),(.f 159 4 158,[]),(.l 160 159,[]),(.m 161 9,[]),(.z 162 (.nilChk (.t 161)),[]),(.f 163 5 162,[]),(.l 164 163,[]),(.m 4 160,[]),(.m 5 164,[]),(.z 6 (.move (.k 0)),[])]) .ret)))))))))))
def r_ref12_Run:Fg Tryz.prog 29=some ⟨165,zih.r,[.tmp 4,.tmp 5,.tmp 6]⟩:=by kernel_rfl
def MsH.push_ev {G:Ev}{x pr pb kb:Nat}{qs:List Nat}{b:Nat}{regs:Int}{bs:List Bf}{os:List Lo}{L:LV}{s:Ms}{K:LV→Ev→Prop}{tmp:LObj}{G':Ev}{i pl:Int}(hG:G'=G++[tmp])(hm:MsH G x pr pb kb qs b regs bs os L s)(ah:s.l.length≤1000000000)
  (k:∀(L':LV) (G5:Ev),L'.cells=some [L']→(∀q,q<b→G5[q]?=G[q]?)→(∀(aa:Nat),MsH (G5.set x (.cells [.i regs,.lst (Ga bs) bs.length 3,.lst (Gi os) os.length 8,.dy pr 0,.dy pb kb,L'] aa)) x pr pb kb qs b regs bs os L' ⟨s.i,s.first,s.r,s.bufs,s.l++[(i,pl)]⟩)→K L' G5):Hz G' 2 L 1 [.i i,.i pl] K:=by
 subst hG;obtain⟨l1,l2,l3,l4,l5,l6⟩:=hm.lt;have ao:=hm.bG;refine Gu.push2 (x:=[.i i,.i pl]) hm.ev.push_end (by omega) (by simp;omega) ah rfl rfl fun L' G5 ad aj af ap=>?_
 have keep:∀{q:Nat},q<b→G5[q]?=G[q]?:=fun {q} hq=>by
  rw[aj q (by simp;omega) (fun e=>by have:=(hm.ev.row e).1;omega),E6 (by omega)]
 refine k L' G5 ad.cells (fun q hq=>keep hq) fun aa=>?_
 have ag:x<G5.length:=by simp at af;omega
 have ne:∀{q:Nat} {ob:LObj},q≠x→(G5.set x ob)[q]?=G5[q]?:=fun hq=>Ad (Ne.symm hq)
 refine⟨⟨aa,Ag ag⟩,?_,?_,fun j hj=>?_,hm.bl,hm.lt,hm.qlt,hm.nd,?_,by rw[Ce];simp at af;omega⟩
 ·obtain⟨st,h⟩:=hm.rr;exact⟨st,by rw[ne (Ne.symm l4),keep l2];exact h⟩
 ·obtain⟨st,h⟩:=hm.bb;exact⟨st,by rw[ne (Ne.symm l5),keep l3];exact h⟩
 ·obtain⟨st,h⟩:=hm.row j hj;have hq:=hm.qlt (qs.getD j 0) (by simp[Ae,hj]);exact⟨st,by rw[ne hq.2.1,keep hq.1];exact h⟩
 ·show Gu b _ L' 2 (s.l++[(i,pl)]).length (Rl (s.l++[(i,pl)]));rw[zy2,Aj];exact ad.set_lt l1
def MsH.ctl {G:Ev}{x pr pb kb:Nat}{qs:List Nat}{b:Nat}{regs:Int}{bs:List Bf}{os:List Lo}{L:LV}{s:Ms}(h:MsH G x pr pb kb qs b regs bs os L s){i:Nat}{f:Bool}:MsH G x pr pb kb qs b regs bs os L ⟨i,f,s.r,s.bufs,s.l⟩:=⟨h.xc,h.rr,h.bb,h.row,h.bl,h.lt,h.qlt,h.nd,h.ev,h.bG⟩
def zpt {G:Ev}:∀(a:List Nat) (B:List (List UInt64)),B.length=a.length→(∀j,j<a.length→∃st,G[a.getD j 0]?=some (.dyn ((B.getD j []).map .u) (B.getD j []).length 1 0 st))→bors G (a.map fun q=>.dy q 0) (B.map LU)
 |[],B,h,_=>by
  have:B=[]:=A0 h;subst this;simp
 |q::a,[],h,_=>by simp at h
 |q::a,x::B,h,d=>by
  obtain⟨st,f⟩:=d 0 (by simp);simp only[List.getD_cons_zero] at f;rw[C6,C6];refine⟨_,_,rfl,⟨_,_,_,st,rfl,f,by simp⟩,zpt a B (by simpa using h) fun j g=>?_⟩;have:=d (j+1) (by simp;omega);simpa only[List.getD_cons_succ] using this
def Xp (n:Nat):Hm [.u 0] n=(List.replicate n (0:UInt64)).map LV.u:=by
 induction n with
 |zero=>rfl
 |succ n a=>rw[Hm,a,Db];rfl
def Vw (x:List UInt64)(n:Nat)(h:x.length≤n):Gp ((List.replicate n (0:UInt64)).map LV.u) 0 ((x.map LV.u).take (min x.length n))=(x++List.replicate (n - x.length) 0).map LV.u:=by
 rw[Cv h,Ax (by simp),zkp,D3]
 congr 1
 simp
def zgb {regs:Int}{bs:List Bf}{os:List Lo}{X:List (List UInt64)}{es:List Int}{s':Ms}{T:Nat}(hc:(Jq regs bs os).2=0)(hb:Ow Im 0 os)(dO:N9 [] 0 os≤16777216)(hX:Tl bs X=true)(aW:1≤bs.length)(aX:Nm 0 [] (List.replicate os.length 0) os=es)
  (hE:∀i o,os[i]?=some o→o.kind=17→0≤es.getD i 0∧∃p,os[(es.getD i 0).toNat]?=some p∧p.kind=16) (hT:T≤800000000) (d:Ho os es T (Hy regs bs X)=some s') (dK:s'.i=os.length) :
  H6 29 [.agg (Fa regs bs os),LN X] (.tup [LN s'.bufs,.lst (Rl s'.l) s'.l.length 2,.i 0]):=by
 obtain⟨dm,dL,dP,dQ,aD,aY⟩:=zfd hc;have aJ:X.length=bs.length∧∀i,i<bs.length→((X.getD i []).length:Int)=if (Fk bs i).kind=3 then 0 else (Fk bs i).size:=by
  unfold Tl at hX;exact C8 hX
 obtain⟨aJ,aZ⟩:=aJ;obtain⟨r,rfl⟩:=Af dm;have dp:∀l:List (Int×Int),dats (Rl l)=true:=fun l=>tx (f:=fun e:Int×Int=>[.i e.1,.i e.2]) (fun _=>rfl) l
 refine La.mkS (by simp[LV.dat,dats,dp,LN,zxx]) (E9 r_ref12_Run (by kernel_rfl) (by simp) ?_);have dR:dats (Fa r bs os)=true:=zsi _ _ _;have a0:¬(16777216:Int)<N9 [] 0 os:=by omega
 simp[zih,Fa];refine E5 (z8g r bs os) (bors_self _ (by simp[dats,LV.dat,Fa,Jf,Jv])) ?_;simp[hc];refine E5 (zjp hc hb) (bors_self _ (by simp[dats,LV.dat,Fa,Jf,Jv])) ?_;simp[a0];refine E5 (zmi r bs os X (by omega)) (bors_self _ (by simp[dats,LV.dat,Fa,Jf,Jv,zxx])) ?_;simp[hX];refine⟨by omega,?_⟩;refine Iw (fun ρ D G N=>∃(i:Nat) (w:List Nat) (v:LV),D=[]∧N+i=bs.length∧w.length=i∧lk ρ 1=LN X∧lk ρ 2=.ptr 0 0∧lk ρ 9=.ptr 2 0∧lk ρ 10=.i i∧G[0]?=some (.cells (Fa r bs os) 0)∧(∃st,G[1]?=some (.dyn ((List.replicate r (0:UInt64)).map .u) r 1 0 st))∧(∃st,G[2]?=some (.cells [.i r,.lst (Ga bs) bs.length 3,.lst (Gi os) os.length 8,.dy 1 0,v,.nilSl] st))∧3≤G.length ∧
   ((i=0∧v=.nilSl)∨∃pb st,v=.dy pb (i - 1)∧3≤pb∧pb ∉ w∧1≤i∧G[pb]?=some (.dyn (w.map fun q=>.dy q 0) i 1 (i - 1) st))∧(∀q∈w,3≤q)∧w.Nodup∧∀j,j<i→∃st,G[w.getD j 0]?=some (.dyn ((Nl (Fk bs j) (X.getD j [])).map .u) (Nl (Fk bs j) (X.getD j [])).length 1 0 st)) (N:=bs.length)
  ⟨0,[],.nilSl,rfl,by omega,rfl,by simp,by simp,by simp,by simp,by simp[Fa],⟨0,by simp[Xp]⟩,⟨0,by simp⟩,by simp,.inl ⟨rfl,rfl⟩,by simp,by simp,fun j h=>by omega⟩ ?_
 rintro N ρ D G ⟨i,w,v,rfl,hN,U,h1,K,F,ao,m,⟨s1,ap⟩,⟨s2,ay⟩,dS,hv,az,a1,aa⟩ Nx H;have aq:lk ρ 1=.lst (X.map LU) X.length 1:=h1;by_cases g:i<bs.length
 ·have q0:=Yf (Kl g);have gx:i<X.length:=by omega
  obtain⟨x,hx⟩:∃x,X.getD i []=x:=⟨_,rfl⟩;have dq:X[i]=x:=by rw[←hx];simp[gx]
  have hm:Fk bs i∈bs:=A7 (Kl g);obtain⟨b1,b2⟩:=aD _ hm;have a2:=aZ i g;rw[hx] at a2;obtain⟨n,hn⟩:=Af (show 0≤(Fk bs i).size by omega);have ds:x.length≤n:=by split at a2<;>omega
  have a3:Nl (Fk bs i) (X.getD i [])=x++List.replicate (n - x.length) 0:=by unfold Nl;rw[hx,hn];rfl
  have aE:(x++List.replicate (n - x.length) (0:UInt64)).length=n:=by simp;omega
  have l0:0<G.length:=by omega
  have l2:2<G.length:=by omega
  have p0:∀y:List LObj,(G++y)[0]?=_:=fun y=>(E6 l0).trans m
  have p2:∀y:List LObj,(G++y)[2]?=_:=fun y=>(E6 l2).trans ay
  have a4:=Vw x n ds;simp only[List.map_replicate] at a4;have dT:n≤65536:=by omega
  simp[aq,K,F,ao,m,Fa,g,gx,Fu q0,hn,dq,Xp,a4,↓p2];refine⟨by omega,?_⟩;have a5:∀q∈w,q<G.length:=fun q V=>by
   obtain⟨j,hj,rfl⟩:=Cq.1 V;obtain⟨st,h⟩:=aa j (by omega);have h:=(Aa.1 h).1;simpa [Ae,hj] using h
  have dw:∀j,j<i→(w++[G.length]).getD j 0=w.getD j 0:=fun j hj=>by simp[Ae,Aq (show j<w.length by omega)]
  have dx:(w++[G.length]).getD i 0=G.length:=by
   rw[Ae,Au (by omega),show i - w.length=0 by omega];rfl
  have a6:(w++[G.length]).Nodup:=by
   rw[List.nodup_append];exact⟨a1,by simp,fun a ha b hb=>by simp at hb;rw[hb];have:=a5 a ha;omega⟩
  rcases hv with ⟨rfl,rfl⟩|⟨pb,aK,rfl,ad,aA,dz,af⟩
  ·have dA:w=[]:=A0 U;subst dA;simp[F,↓p2,ao];refine H _ _ _ ⟨N - 1,by omega,1,[G.length],.dy (G.length+2) 0,rfl,by omega,rfl,by simp[aq],by simp[K],by simp[F],by simp,?_,⟨s1,?_⟩,⟨s2+1,?_⟩,by simp,.inr ⟨G.length+2,0,rfl,by omega,by simp,by omega,?_⟩,by simp;omega,by simp,fun j hj=>⟨1,?_⟩⟩
   ·rw[Ad (by omega)];exact p0 _
   ·rw[Ad (by omega),E6 (by omega)];exact ap
   ·exact Ag (by simp)
   ·rw[Ad (by omega),Au (by omega),show G.length+2 - G.length=2 by omega];rfl
   ·have dB:j=0:=by omega
    subst dB;rw[a3];rw[Ad (by simp;omega)];simp only[List.getD_cons_zero];rw[Au (by omega),Ej,aE];simp
  ·have lp:pb<G.length:=(Aa.1 af).1;have pp:∀y:List LObj,(G++y)[pb]?=_:=fun y=>(E6 lp).trans af
   have dC:∀(y:List LObj) (ob:LObj),((G++y).set pb ob)[2]?=_:=fun y ob=>(Ad (by omega)).trans (p2 y)
   simp[F,↓pp,↓dC,ao]
   repeat (refine⟨by omega,?_⟩)
   refine H _ _ _ ⟨N - 1,by omega,i+1,w++[G.length],.dy pb i,rfl,by omega,by simp[U],by simp[aq],by simp[K],by simp[F],by simp,?_,⟨s1,?_⟩,⟨s2+1,?_⟩,by simp;omega,.inr ⟨pb,aK+1,rfl,ad,by simp[aA];omega,by omega,?_⟩,fun q V=>?_,a6,fun j hj=>?_⟩
   ·rw[Ad (by omega),Ad (by omega)];exact p0 _
   ·rw[Ad (by omega),Ad (by omega),E6 (by omega)];exact ap
   ·rw[Ag (by simp;omega),show i - 1+1=i by omega]
   ·rw[Ad (by omega),Ag (by simp;omega),show i - 1+1=i by omega];simp
   ·rcases Ay.1 V with V|V
    ·exact az q V
    ·simp at V;omega
   ·by_cases e:j=i
    ·subst e;rw[dx,a3,aE];refine⟨1,?_⟩;rw[Ad (by omega),Ad (by omega),Au (by omega),Ej];simp
    ·obtain⟨st,h⟩:=aa j (by omega);refine⟨st,?_⟩;have aL:w.getD j 0∈w:=by simp[Ae,show j<w.length by omega]
     have:=az _ aL;rw[dw j (by omega),Ad (by omega),Ad (fun e=>aA (by rw[e];exact aL)),E6 (a5 _ aL)];exact h
 have hi:i=bs.length:=by omega
 subst hi;rcases hv with ⟨e,_⟩|⟨pb,aK,rfl,ad,aA,dz,af⟩
 ·omega
 have ge:¬bs.length<bs.length:=by omega
 have a7:MsH G 2 1 pb (bs.length - 1) w G.length r bs os .nilSl (Hy r bs X):=by
  have l1:=(Aa.1 ap).1;have l2:=(Aa.1 ay).1;have lp:=(Aa.1 af).1;refine⟨⟨s2,ay⟩,⟨s1,by simpa [Hy] using ap⟩,⟨aK,by rw[U];exact af⟩,fun j hj=>?_,by simp[Hy,Xl,U],⟨l2,l1,lp,by omega,by omega,by omega⟩,fun q V=>?_,a1,Gu.nil,Am _⟩
  ·obtain⟨st,h⟩:=aa j (by omega);refine⟨st,?_⟩;have dD:(Hy r bs X).bufs.getD j []=Nl (Fk bs j) (X.getD j []):=by simp[Hy,K6,Ae,show j<bs.length by omega]
   rw[dD];exact h
  ·obtain⟨j,hj,rfl⟩:=Cq.1 V;obtain⟨st,h⟩:=aa j (by omega);have h:=(Aa.1 h).1;have:=az _ V;exact⟨by simpa [Ae,hj] using h,by omega,by omega,fun e=>aA (by rw[←e];exact V)⟩
 have aF:∀x∈(Hy r bs X).bufs,x.length≤65536:=fun x hx=>by
  simp only[Hy,K6,El,Cp] at hx;obtain⟨j,hj,rfl⟩:=hx;have hm:Fk bs j∈bs:=A7 (Kl hj);obtain⟨b1,b2⟩:=aD _ hm;have:=aZ j hj;unfold Nl;rw[Aj,List.length_replicate];split at this<;>omega
 simp[aq,K,F,ao,aJ,m,Fa];refine Jo (zly hc hb) (by simp[dats,LV.dat,Jf,Jv]) ?_;rw[aX];have dM:w.length=bs.length:=U;generalize dU:G.length=b at *;simp;refine Iw (fun ρ D G' N=>∃(s:Ms) (L:LV),D=[]∧Ho os es N s=some s'∧lk ρ 2=.ptr 0 0∧lk ρ 9=.ptr 2 0∧lk ρ 12=.lst (es.map .i) os.length 1∧lk ρ 13=.bool s.first∧lk ρ 14=.i s.i∧G'[0]?=some (.cells (Fa r bs os) 0)∧MsH G' 2 1 pb (bs.length - 1) w b r bs os L s∧s.l.length+N≤T∧s.i≤os.length∧s.r.length=r∧∀x∈s.bufs,x.length≤65536) (N:=T)
  ⟨Hy r bs X,.nilSl,rfl,d,by simp[K],by simp[F],by simp,by simp[Hy],by simp[Hy],m,a7,by simp[Hy],by simp[Hy],by simp[Hy],aF⟩ ?_
 clear d a7 h1 aq K F ao m ap ay af H Nx aF;rintro N ρ D M ⟨s,L,rfl,d,K,F,W,O,I,m,S,dV,dW,ag,ah⟩ Nx H;by_cases g:s.i<os.length
 case neg =>
  have dE:=zty (os:=os) (es:=es) (s:=s) (Dh (by omega)) N;rw[dE] at d;have aM:s=s':=Option.some.inj d;subst aM;obtain⟨t1,A⟩:=S.xc;obtain⟨t2,aW⟩:=S.bb;simp[K,F,I,m,Fa,g,A];intro c a hs ha;have dN:s.bufs.length=bs.length:=by rw[S.bl,U]
  have h:=cb hs aW (zpt w s.bufs S.bl S.row) S.ev.bor (by simp) ha;rw[←S.bl] at h;exact h
 have ho:=zo4 g;have ar:=zgr ho;have aw:=uh g;have aN:=aY _ (A7 ho);generalize sj os s.i=o at *;cases N with
 |zero =>
  have aM:s=s':=Option.some.inj d;subst aM;omega
 |succ N =>
 have hC:o.f=[.i o.kind,.i o.d,.i o.e,.i o.a,.i o.b,.i o.c,.i o.buf,.u o.imm]:=rfl;change (match Jc os es s with|none=>none|some s'=>Ho os es N s')=some s' at d;have l0:0<M.length:=by have:=S.bG;omega
 have p0:∀y:List LObj,(M++y)[0]?=_:=fun y=>(E6 l0).trans m
 have J:(M++[LObj.cells o.f 1])[M.length]?=some (.cells o.f 1):=Aw;have B:MsH (M++[LObj.cells o.f 1]) 2 1 pb (bs.length - 1) w b r bs os L s:=S.keep (fun q V=>E6 V) (by simp);have Y:=p0 [.cells o.f 1];have dX:b≤M.length:=S.bG;have z0:∀(y:List LObj) (h:0<(M++y).length),(M++y)[0]=.cells (Fa r bs os) 0:=fun y h=>Option.some.inj ((Ah h).symm.trans (p0 y))
 have p1:∃st,∀y:List LObj,(M++y)[1]?=some (.dyn (s.r.map .u) s.r.length 1 0 st):=by
  obtain⟨st,h⟩:=S.rr;exact⟨st,fun y=>(E6 (Aa.1 h).1).trans h⟩
 have p2:∃st,∀y:List LObj,(M++y)[2]?=some (.cells [.i r,.lst (Ga bs) bs.length 3,.lst (Gi os) os.length 8,.dy 1 0,.dy pb (bs.length - 1),L] st):=by
  obtain⟨st,h⟩:=S.xc;exact⟨st,fun y=>(E6 (Aa.1 h).1).trans h⟩
 obtain⟨t1,p1⟩:=p1;obtain⟨t2,p2⟩:=p2;obtain⟨rd,re,ra,rb,rc,rm⟩:=zix aN;by_cases C:o.kind=16
 ·have P:Jc os es s=some ⟨s.i+1,true,if s.first then Fb s.r o.d 0 else s.r,s.bufs,s.l++[((s.i:Int),(-1:Int))]⟩:=by
   unfold Jc;rw[ho];dsimp only;rw[Ai C]
  rw[P] at d;dsimp only at d;obtain⟨d0,dr⟩:=(zbd aN).2.2 C;obtain⟨dn,z⟩:=Af d0;have Z:dn<s.r.length:=by omega
  have a8:=S.lt;have fin:∀(G7:Ev) (s2:Ms),MsH G7 2 1 pb (bs.length - 1) w b r bs os L s2→G7[0]?=some (.cells (Fa r bs os) 0)→s2.l=s.l→s2.i=s.i→(⟨s2.i+1,true,s2.r,s2.bufs,s2.l++[((s.i:Int),(-1:Int))]⟩:Ms)=⟨s.i+1,true,if s.first then Fb s.r o.d 0 else s.r,s.bufs,s.l++[((s.i:Int),(-1:Int))]⟩→True:=fun _ _ _ _ _ _ _=>trivial
  cases hf:s.first with
  |true =>
   rw[hf] at d O;rw[Ai rfl] at d;obtain⟨t2,aO⟩:=B.rr;obtain⟨t1,A⟩:=B.xc;have e1:Gp (s.r.map LV.u) dn [.u 0]=(Fb s.r o.d 0).map LV.u:=by
    rw[uv (by simpa using Z),Fb,Ai d0,z,B0];rfl
   have aj:=B.putr (i:=o.d) (v:=0) (st:=t2+1);rw[hC] at A aO B aj Y J;have a9:∀ob:LObj,((M++[LObj.cells [.i o.kind,.i o.d,.i o.e,.i o.a,.i o.b,.i o.c,.i o.buf,.u o.imm] 1]).set 1 ob)[0]?=some (.cells (Fa r bs os) 0):=fun ob=>(Ad (by omega)).trans Y
   rw[C,z] at A aO J a9 aj;simp[K,F,O,I,m,Fa,g,ar,aw,hC,C,z,J,A,aO,Z,e1];refine⟨by omega,MsH.push_ev rfl aj (by show s.l.length≤_;omega) fun L' G5 aP ax aB=>?_⟩;obtain⟨t3,dF⟩:=aj.xc;have aQ:G5[2]?=_:=(ax 2 (by omega)).trans dF;simp[-LV.cells,aP,aQ,I];have aR:G5[0]?=some (.cells (Fa r bs os) 0):=(ax 0 (by omega)).trans (a9 _);rw[←z] at aB;refine⟨by omega,H _ _ _ ⟨N,by omega,_,L',rfl,d,by simp[K],by simp[F],by simp[W],by simp,by simp,?_,(aB (t3+1)).ctl,by simp;omega,by show s.i+1≤_;omega,by show (Fb s.r o.d 0).length=_;rw[zdr];exact ag,ah⟩⟩;rw[Ad (by omega)];exact aR
  |false =>
   rw[hf] at d O;rw[Ab (by decide)] at d;obtain⟨t1,A⟩:=B.xc;rw[hC] at A B Y J;rw[C] at A J B Y;simp[K,F,O,I,m,Fa,g,ar,aw,hC,C,J,A];refine MsH.push_ev (by rw[Br];rfl) B (by omega) fun L' G5 aP ax aB=>?_
   have aQ:G5[2]?=_:=(ax 2 (by omega)).trans A;simp[-LV.cells,aP,aQ,I];have aR:G5[0]?=some (.cells (Fa r bs os) 0):=(ax 0 (by omega)).trans Y;refine⟨by omega,H _ _ _ ⟨N,by omega,_,L',rfl,d,by simp[K],by simp[F],by simp[W],by simp,by simp,?_,(aB (t1+1)).ctl,by simp;omega,by show s.i+1≤_;omega,ag,ah⟩⟩;rw[Ad (by omega)];exact aR
 by_cases E:o.kind=17
 ·obtain⟨c0,p,hp,dG⟩:=hE s.i o ho E;obtain⟨kn,aS⟩:=Af c0;have da:s.i<es.length:=by rw[←aX,endsR_len];simpa using g
  have aG:(es.map LV.i)[s.i]?=some (.i (kn:Int)):=by
   rw[←aS];simp[Ae,da]
  rw[aS] at hp;rw[A9] at hp;have dH:=aY _ (A7 hp);have dd:=zgr hp;have aT:kn<os.length:=(Aa.1 hp).1;have aH:=uh aT;obtain⟨d0,dr⟩:=(zbd dH).2.2 dG;obtain⟨dn,z⟩:=Af d0;have Z:dn<s.r.length:=by omega
  have P:Jc os es s=if atR s.r p.d+1<p.imm then some ⟨kn,false,Fb s.r p.d (atR s.r p.d+1),s.bufs,s.l⟩ else some ⟨s.i+1,s.first,s.r,s.bufs,s.l⟩:=by
   unfold Jc;rw[ho];dsimp only;rw[Ab C,Ai E,aS,A9,hp]
  have dI:atR s.r p.d=s.r.getD dn 0:=by unfold atR;rw[Ab (by omega),z];rfl
  have df:s.r[dn]=atR s.r p.d:=by rw[dI];simp[Ae,Z]
  generalize atR s.r p.d=xv at *;rw[P] at d;have a8:=S.lt;have aC:p.f=[.i p.kind,.i p.d,.i p.e,.i p.a,.i p.b,.i p.c,.i p.buf,.u p.imm]:=rfl;have dY:0<M.length:=l0;have aU:MsH (M++[LObj.cells o.f 1,LObj.cells p.f 1]) 2 1 pb (bs.length - 1) w b r bs os L s:=S.keep (fun q V=>E6 V) (by simp);have ad:=p0 [.cells o.f 1,.cells p.f 1];have aV:(M++[LObj.cells o.f 1,LObj.cells p.f 1])[M.length+1]?=some (.cells p.f 1):=by
   rw[Au (by omega),show M.length+1 - M.length=1 by omega];rfl
  have e1:Gp (s.r.map LV.u) dn [.u (xv+1)]=(Fb s.r p.d (xv+1)).map LV.u:=by
   rw[uv (by simpa using Z),Fb,Ai d0,z,B0];rfl
  have dg:=aU.putr (i:=p.d) (v:=xv+1) (st:=t1+1);rw[hC,aC,E,z] at aU ad dg;rw[aC,hC,E,z] at aV;rw[hC,E] at J;rw[z] at e1 d;have aI:p.imm≤xv+1↔¬xv+1<p.imm:=by simp
  by_cases Q:xv+1<p.imm
  ·rw[Ai Q] at d;simp[K,F,W,O,I,m,Fa,g,ar,aw,hC,E,J,↓p0,↓p1,↓p2,z0,Fu aG,aT,dd,aH,aC,aV,z,Z,df,aI,Q,e1,M9]
   repeat (refine⟨by omega,?_⟩)
   refine H _ _ _ ⟨N,by omega,_,L,rfl,d,by simp[K],by simp[F],by simp[W],by simp,by simp,?_,?_,by show s.l.length+N≤T;omega,by show kn≤_;omega,by show (Fb s.r (dn:Int) (xv+1)).length=_;rw[zdr];exact ag,ah⟩
   ·rw[Ad (by omega)];exact ad
   ·exact dg.ctl
  ·rw[Ab Q] at d;simp[K,F,W,O,I,m,Fa,g,ar,aw,hC,E,J,↓p0,↓p1,↓p2,z0,Fu aG,aT,dd,aH,aC,aV,z,Z,df,aI,Q,e1,M9]
   repeat (refine⟨by omega,?_⟩)
   exact H _ _ _ ⟨N,by omega,_,L,rfl,d,by simp[K],by simp[F],by simp[W],by simp[O],by simp,ad,aU.ctl,by show s.l.length+N≤T;omega,by show s.i+1≤_;omega,ag,ah⟩
 have P:Jc os es s=M3 o s:=by
  unfold Jc;rw[ho];dsimp only;rw[Ab C,Ab E]
 rw[P] at d;simp[K,F,I,m,Fa,g,ar,aw,hC,C,E];rw[hC] at B Y;cases hd:M3 o s with
 |none=>rw[hd] at d;cases d
 |some s1 =>
 rw[hd] at d;dsimp only at d;have R:=ep hd;refine l7 B ho aN C E (by rw[ag]) (by rw[U]) (by omega) ah (fun e=>by rw[hd] at e;cases e) fun s2 G6 L2 e aj dh=>?_
 rw[hd] at e;obtain rfl:=Option.some.inj e;have dJ:G6[0]?=some (.cells (Fa r bs os) 0):=by
  have Q:=S.lt;rw[dh 0 (by omega) (by omega) (by omega) (fun e=>by have:=az 0 e;omega)];exact Y
 have dj:∀x∈s1.bufs,x.length≤65536:=fun x hx=>by
  have h1:x.length∈s1.bufs.map List.length:=List.mem_map_of_mem hx;rw[R.b] at h1;obtain⟨y,hy,e⟩:=El.1 h1;rw[←e];exact ah y hy
 have e1:=R.i;have e2:=R.l;simp[I];refine⟨by omega,H _ _ _ ⟨N,by omega,s1,L2,rfl,d,by simp[K],by simp[F],by simp[W],by simp[O,R.f],by simp[e1],dJ,aj,by omega,by omega,by rw[R.r];exact ag,dj⟩⟩

def Xn {f:Fr Lo}{bs:List Bf}{X Y:List (List UInt64)}{Q:Fs→Prop}{c:Cf}(H:CfOk c)(A:c.nb=bs.length)(a:f.AllH c 0)(w:(Jq ((64:Nat):Int) bs f.flat).2=0)(I:f.stp≤16777216)
  (N:Tl bs X=true) (O:Tl bs Y=true) (x:1≤bs.length) (B:∀i,i<bs.length→(X.getD i []).length=(Y.getD i []).length) (P:Tx (Yj (Hy 64 bs X)) f (Kh (Hy 64 bs X)) Q) :
  ∃(r j:Ms) (t:Fs),Rep bs.length (Yj (Hy 64 bs X)) r t∧Q t∧(∀b,¬c.S b→r.bufs.getD b []=(Hy 64 bs X).bufs.getD b [])∧r.bufs.length=bs.length∧j.bufs.length=bs.length∧r.l=j.l ∧
   H6 29 [.agg (Fa ((64:Nat):Int) bs f.flat),LN X] (.tup [LN r.bufs,.lst (Rl r.l) r.l.length 2,.i 0]) ∧
   H6 29 [.agg (Fa ((64:Nat):Int) bs f.flat),LN Y] (.tup [LN j.bufs,.lst (Rl j.l) j.l.length 2,.i 0]):=by
 have g:=allH_wf a;have l:f.regs bs.length []=true:=A ▸ zev H (by simp) a;have s:f.costZ≤800000000:=by have:=costZ_le f;omega
 obtain⟨T,J,t,K,C,L,M,R,_⟩:=Y4 g l s P;obtain⟨j,S,D⟩:=Lock.run_some (zwb g) (fun o ho=>(allH_flat a o ho).low H) T _ _ _ (zuz (bs:=bs) (X:=X) (Y:=Y) B) C;have m:Ow Im 0 f.flat:=by
  have h:=Ws (f:=f) (d:=0) (rest:=[]) g (by unfold Ow;rfl)
  rwa [Bx] at h
 have y:N9 [] 0 f.flat≤16777216:=by rw[Ts g l (by omega)];omega
 have z:Nm 0 [] (List.replicate f.flat.length 0) f.flat=f.ends 0:=by rw[Fr.flat_len];exact zv8 g
 have q:∀(i:Nat) (o:Lo),f.flat[i]?=some o→o.kind=17→0≤(f.ends 0).getD i 0∧∃p,f.flat[((f.ends 0).getD i 0).toNat]?=some p∧p.kind=16:=fun i o ho hk=>by
  obtain⟨k,p,U,V,W⟩:=ends_at f 0 i o g ho hk;rw[Ae,U];exact⟨by simp,p,by simpa using V,W⟩
 have hlen:∀Z:List (List UInt64),(Hy 64 bs Z).bufs.length=bs.length:=fun Z=>by simp[Hy,K6]
 have no:∀b,¬c.S b→∀o∈f.flat,¬(o.kind=15∧o.buf.toNat=b):=fun b E o ho hk=>E (hk.2 ▸ (allH_flat a o ho).sto hk.1)
 have F:J.bufs.length=bs.length:=by
  have h:=M.bl;exact h
 have G:j.bufs.length=bs.length:=by
  have:=congrArg List.length D.bufs;simp only[List.length_map] at this;omega
 refine⟨J,j,t,M,R,fun b E=>(zsl (no b E) T _ _ C).1,F,G,D.l,zgb w m y N x z q K C L,zgb w m y O x z q K S (by rw[←D.i];exact L)⟩
section
structure PwV (vs:List Vr) (o:Ko) (d a b c:Nat):Prop where
 hk:o.kind=13
 hv:Kj vs=true
 ho:Hu vs o=true
 fd:o.d=d∧d<vs.length
 fa:o.a=a∧a<vs.length
 fb:o.b=b∧b<vs.length
 fc:o.c=c∧c<vs.length
 e:o.e=-1
 la:(gv vs a).limbs=(gv vs d).limbs
 lc:(gv vs c).limbs=(gv vs d).limbs
 w:1≤o.imm.toNat∧o.imm.toNat≤6
 md:Kc (gv vs d)=false
 sec:(gv vs d).sec=false→(gv vs a).sec=false∧(gv vs b).sec=false∧(gv vs c).sec=false
def pwV {vs:List Vr}{o:Ko}(hk:o.kind=13)(hv:Kj vs=true)(ho:Hu vs o=true):∃d a b c,PwV vs o d a b c:=by
 obtain⟨m,p,j⟩:=zpb (s:=29) ho (by simp[Jj,hk]);obtain⟨d,hd⟩:=Af (zr9 m (by decide)).1;obtain⟨a,r⟩:=Af (zre m (by decide)).1;obtain⟨b,z⟩:=Af (yw m (by decide)).1;obtain⟨c,w⟩:=Af (xm m (by decide)).1;have F:=(zr9 m (by decide)).2;have G:=(zre m (by decide)).2;have H:=(yw m (by decide)).2;have I:=(xm m (by decide)).2;have he:o.e=-1:=by
  simp only[Mp,Ac] at m;exact zjl m.2.1 (by decide)
 have j:∀v∈[o.d,o.a,o.c],Jw vs v=Jw vs o.d:=by
  have:J0 o=[o.d,o.a,o.c]:=by simp[J0,hk]
  unfold Xv at j;rw[this] at j;intro v hv;simpa using Cb.1 j v hv
 have x:=j o.a (by simp);have y:=j o.c (by simp);simp only[Jw] at x y;rw[r,hd] at x;rw[w,hd] at y;simp only[A9] at x y;have q:1≤o.imm.toNat∧o.imm.toNat≤6:=by
  simp only[Km,hk] at p;have h:1≤o.imm∧o.imm≤6:=by simpa using p
  rw[Bq,Bq] at h;exact h
 have g:Ol vs (I9 vs o) o.d=true:=by
  unfold Hu at ho;rw[Ab (by omega)] at ho;rw[show Jj o.kind=some 29 by simp[Jj,hk]] at ho;simp only[Ac] at ho;exact ho.2.2.1
 unfold Ol at g;rw[hd] at g;simp only[A9,Bm,Ao,Bs,Bool.or_eq_false_iff,Bool.and_eq_false_iff,Bool.not_eq_false'] at g;have l:=g.resolve_left (by omega);refine⟨d,a,b,c,hk,hv,ho,⟨hd,by omega⟩,⟨r,by omega⟩,⟨z,by omega⟩,⟨w,by omega⟩,he,x,y,q,l.1,fun E=>?_⟩;have f:I9 vs o=false:=by
  rcases l.2 with h|h
  ·exact h
  ·rw[E] at h;cases h
 unfold I9 at f;rw[D7] at f;have A:Lq o=[o.a,o.b,o.c]:=by
  unfold Lq;rw[Ab (by omega),r,z,w];simp
 rw[A,r,z,w] at f;have B:=f a (by simp);have C:=f b (by simp);have D:=f c (by simp);simp only[A9,Bool.not_eq_true] at B C D;exact⟨B,C,D⟩
def lpsL_len':∀(n:Nat) (i:Int),(Ic n i).length=n
 |0,_=>rfl
 |n+1,i=>by rw[Ic,Ar,lpsL_len']
section pl
variable {vs : List Vr} {o : Ko} {d a b c : Nat}
def zgu (h:PwV vs o d a b c):Gs vs o=(4*(gv vs d).limbs+(gv vs b).limbs+3)+(gv vs d).limbs*((2^o.imm.toNat:Nat):Int):=by
 unfold Gs;have hm:L5 vs o=true:=by rw[T5,h.hv,h.ho];simp[g8,h.hk]
 rw[Ai (by rw[hm];simp[h.hk])];have f:Jw vs o.c=(gv vs d).limbs:=by unfold Jw;rw[h.fc.1,A9,h.lc]
 have g:Jw vs o.b=(gv vs b).limbs:=by unfold Jw;rw[h.fb.1,A9]
 rw[f,g]
 push_cast
 generalize (2:Int)^o.imm.toNat=x;generalize (gv vs d).limbs=y
 grind
def Gv (vs:List Vr)(o:Ko):Pw:=Kn vs o (J7 vs) ⟨vs.length,0,Gs vs o⟩ ⟨(vs.length:Int)+1,0,Gs vs o⟩
def Mb (vs:List Vr)(d:Nat):Nat:=if (gv vs d).sec=true then vs.length+1 else vs.length
def jl (h:PwV vs o d a b c):Ls vs o.d=!(gv vs d).sec:=by
 unfold Ls;rw[h.fd.1];have:=h.fd.2;simp[this]
structure PwF (vs:List Vr) (o:Ko) (d a b c:Nat) (p:Pw):Prop where
 pd:p.d=⟨d,0,(gv vs d).limbs.toNat⟩
 pa:p.a=⟨a,0,(gv vs d).limbs.toNat⟩
 pb:p.b=⟨b,0,(gv vs b).limbs.toNat⟩
 pn:p.n=⟨c,0,(gv vs d).limbs.toNat⟩
 wb:p.wb=Mb vs d
 wa:p.wa=0
 k:p.k=(gv vs d).limbs.toNat
 w:p.w=o.imm.toNat
 ti:p.times*p.w=64*p.b.k+p.over
 ov:p.over≤63∧p.over<p.w
 t4:p.times≤40000
 B:p.B=if (gv vs d).sec=true then 40 else 16
def pwF (h:PwV vs o d a b c):PwF vs o d a b c (Gv vs o):=by
 have y:=Sy h.hv h.fb.2;have r:o.d.toNat=d:=by have:=h.fd.1;omega
 have s:o.a.toNat=a:=by have:=h.fa.1;omega
 have f:o.b.toNat=b:=by have:=h.fb.1;omega
 have p:o.c.toNat=c:=by have:=h.fc.1;omega
 have pd:=yy h.fd.2;have pa:=yy h.fa.2;have pb:=yy h.fb.2;have q:=yy h.fc.2;have g:((gv vs b).limbs.toNat:Int)=(gv vs b).limbs:=by omega
 obtain⟨t,v,j,m,x,z,A,w6⟩:=zvt (l:=(gv vs b).limbs.toNat) (w:=o.imm.toNat) (by omega) h.w;rw[g] at j m;refine⟨?_,?_,?_,?_,?_,?_,?_,rfl,?_,?_,?_,?_⟩
 ·show F0 _=_;rw[r,pd];simp[F0]
 ·show F0 _=_;rw[s,pa];simp[F0,h.la]
 ·show F0 _=_;rw[f,pb];simp[F0]
 ·show F0 _=_;rw[p,q];simp[F0,h.lc]
 ·show (K2 vs o _ _).buf.toNat=_;unfold K2 Mb;rw[jl h];cases (gv vs d).sec<;>simp<;>omega
 ·show (K2 vs o _ _).at_.toNat=_;unfold K2;split<;>rfl
 ·show (H7 _ _).size.toNat=_;rw[p,q];simp[h.lc]
 ·show (Je (H7 _ _).size _).toNat*o.imm.toNat=64*(F0 (H7 _ _)).k+(Jn (H7 _ _).size _).toNat;rw[f,pb,j,m];simp only[F0,A9];exact x
 ·show (Jn (H7 _ _).size _).toNat≤63∧(Jn (H7 _ _).size _).toNat<o.imm.toNat;rw[f,pb,m];simp only[A9];omega
 ·show (Je (H7 _ _).size _).toNat≤40000;rw[f,pb,j];simp only[A9];omega
 ·show (Xs vs o).toNat=_;unfold Xs;rw[jl h];cases (gv vs d).sec<;>simp
def xh (h:PwV vs o d a b c):1≤Gs vs o∧Gs vs o≤40000∧Gs vs o=((4*(gv vs d).limbs.toNat+(gv vs b).limbs.toNat+3+(gv vs d).limbs.toNat*2^o.imm.toNat:Nat):Int):=by
 have hd:=Sy h.hv h.fd.2;have l:=Sy h.hv h.fb.2;have f:=S5 h.w.2;have e:Gs vs o=((4*(gv vs d).limbs.toNat+(gv vs b).limbs.toNat+3+(gv vs d).limbs.toNat*2^o.imm.toNat:Nat):Int):=by
  rw[zgu h];obtain⟨x,g⟩:=Af (show 0≤(gv vs d).limbs by omega);obtain⟨y,j⟩:=Af (show 0≤(gv vs b).limbs by omega);rw[g,j];simp only[A9]
  push_cast;rfl
 have hm:(gv vs d).limbs.toNat*2^o.imm.toNat≤512*64:=Ca (by omega) f;rw[e];omega
structure PwL (vs:List Vr) (o:Ko):Prop where
 n:vs.length≤30
 m:∀i,i<vs.length→(gv vs i).mode=0
 w:Gs vs o≤32768
def fk (h:PwV vs o d a b c)(f:PwL vs o):Nk vs (Iu vs (Gs vs o)) (J7 vs) ⟨vs.length,0,Gs vs o⟩ ⟨(vs.length:Int)+1,0,Gs vs o⟩=true :=
 zuv h.hv f.m f.n ⟨(xh h).1,f.w⟩
def U3 {deep:Int}(h:PwV vs o d a b c)(f:PwL vs o)(hd:0≤deep∧deep≤4):Ns vs o (Iu vs (Gs vs o)) (J7 vs) ⟨vs.length,0,Gs vs o⟩ ⟨(vs.length:Int)+1,0,Gs vs o⟩ deep (Gs vs o)=true:=by
 unfold Ns;rw[fk h f];have hw:=xh h;have g:(K2 vs o ⟨vs.length,0,Gs vs o⟩ ⟨(vs.length:Int)+1,0,Gs vs o⟩).size=Gs vs o:=by unfold K2;split<;>rfl
 rw[g];simp[hw.1,hd]
def wb_at:Fk (Iu vs (Gs vs o)) (Mb vs d)=⟨Gs vs o,2,(gv vs d).sec⟩:=by
 unfold Mb;cases f:(gv vs d).sec with
 |true=>rw[Ai rfl,plB_w1]
 |false=>rw[Ab (by simp),plB_w0]
def U5 (vs:List Vr)(d:Nat):vs.length≤Mb vs d∧Mb vs d<vs.length+2:=by unfold Mb;split<;>omega
def zxu {i:Nat}{n:Nat}(hv:Kj vs=true)(hi:i<vs.length)(f:(n:Int)=(gv vs i).limbs){W:Int}:Bp (Iu vs W) ⟨i,0,n⟩∧Bw (Iu vs W) ⟨i,0,n⟩:=by
 have g:=Sy hv hi;refine⟨⟨by rw[plB_len];simp only;omega,?_,?_⟩,?_⟩
 ·simp only;rw[Y5 hi];simp only;omega
 ·simp only;rw[Y5 hi];simp only;omega
 ·unfold Bw;rw[Y5 hi];simp
def yi (h:PwV vs o d a b c):PwG (Iu vs (Gs vs o)) (Gv vs o):=by
 have f:=pwF h;have hd:=Sy h.hv h.fd.2;have l:=Sy h.hv h.fb.2;have g:=h.la;have j:=h.lc;have hw:=xh h;generalize Gv vs o=p at *;have dn:((gv vs d).limbs.toNat:Int)=(gv vs d).limbs:=by omega
 refine⟨?_,?_,?_,?_,?_,?_,?_,?_,?_,?_,?_,?_,?_,?_,f.ov.1,?_⟩
 ·rw[f.B];split<;>omega
 ·rw[f.pd];exact (zxu h.hv h.fd.2 dn).1
 ·rw[f.pd];exact (zxu h.hv h.fd.2 dn).2
 ·rw[f.pa];exact (zxu h.hv h.fa.2 (by omega)).1
 ·rw[f.pb];exact (zxu h.hv h.fb.2 (by omega)).1
 ·rw[f.pn];exact (zxu h.hv h.fc.2 (by omega)).1
 ·rw[f.wb,plB_len];exact (U5 vs d).2
 ·rw[f.wb,wb_at,f.wa,f.k,f.pb,f.w];simp only;rw[hw.2.2];omega
 ·rw[f.wb,wb_at];simp only;omega
 ·rw[f.wb,wb_at];simp
 ·rw[f.k];omega
 ·rw[f.pn];simp only;omega
 ·rw[f.w];exact h.w
 ·have:=f.t4;omega
 ·rw[f.pb];simp only;omega
def Sq (vs:List Vr)(d a b c:Nat):Cf:=⟨vs.length+2,if (gv vs d).sec=true then 40 else 16,24,0,7,12,13,fun x=>x=d∨x=a∨x=b∨x=c∨x=Mb vs d,fun x=>x=d∨x=Mb vs d⟩
def cfP_ok:CfOk (Sq vs d a b c):=by
 refine⟨?_,by simp[Sq],by simp[Sq]⟩;simp only[Sq];split<;>omega
def pl_C (h:PwV vs o d a b c):PwC (Sq vs d a b c) (Gv vs o):=by
 have f:=pwF h;have hd:=Sy h.hv h.fd.2;have g:=Sy h.hv h.fb.2;have j:=h.fd.2;have l:=h.fa.2;have m:=h.fb.2;have q:=h.fc.2;have hw:=U5 vs d;generalize Gv vs o=p at *;refine⟨?_,by simp[Sq],?_,?_,?_,?_,?_,?_,?_,?_,?_,?_,?_⟩
 ·rw[f.B];simp only[Sq];split<;>omega
 ·rw[f.pd];exact⟨by simp only[Sq];omega,.inl rfl⟩
 ·rw[f.pa];exact⟨by simp only[Sq];omega,.inr (.inl rfl)⟩
 ·rw[f.pb];exact⟨by simp only[Sq];omega,.inr (.inr (.inl rfl))⟩
 ·rw[f.pn];exact⟨by simp only[Sq];omega,.inr (.inr (.inr (.inl rfl)))⟩
 ·rw[f.wb];exact .inr (.inr (.inr (.inr rfl)))
 ·rw[f.wb];exact .inr rfl
 ·rw[f.wb];simp only[Sq];omega
 ·rw[f.k];omega
 ·rw[f.w];exact h.w.2
 ·have:=f.t4;omega
 ·rw[f.pb];simp only;omega
def Qv (bs:List Bf)(X:List (List UInt64)):Prop:=X.length=bs.length∧∀i,i<bs.length→((X.getD i []).length:Int)=(Fk bs i).size
def pl_S (h:PwV vs o d a b c){X:List (List UInt64)}(l:Qv (Iu vs (Gs vs o)) X):PwS (Yj (Hy 64 (Iu vs (Gs vs o)) X)) (Gv vs o):=by
 have f:=pwF h;have g:=yi h;have hd:=Sy h.hv h.fd.2;have m:=h.fd.2;have r:=h.fa.2;have s:=h.fb.2;have w:=h.fc.2;have hw:=U5 vs d;have hi:∀q:Pn,Bp (Iu vs (Gs vs o)) q→q.in_ (Yj (Hy 64 (Iu vs (Gs vs o)) X)):=fun q j=>W5 (l.2 _ j.b) j
 generalize Gv vs o=p at *;refine⟨g.B,hi _ g.d,hi _ g.a,hi _ g.b,hi _ g.n,hi _ ⟨g.wb,?_,g.w6⟩,g.k.1,g.k.2,?_,?_,?_,?_,?_,?_,?_,?_,g.w,f.ov.1,f.ti⟩
 ·have:=g.wz;simp only[Pw.wk];omega
 ·rw[f.pd,f.k]
 ·rw[f.pa,f.k]
 ·rw[f.pn,f.k]
 ·rw[f.pd,f.wb];simp only;omega
 ·rw[f.pa,f.wb];simp only;omega
 ·rw[f.pb,f.wb];simp only;omega
 ·rw[f.pn,f.wb];simp only;omega
 ·rw[f.pd,f.pn];by_cases q:d=c
  ·exact .inr ⟨q,rfl⟩
  ·exact .inl (.inl q)
def zob {X:List (List UInt64)}(f:Qv (Iu vs (Gs vs o)) X):Tl (Iu vs (Gs vs o)) X=true:=by
 unfold Tl;refine B4 ⟨f.1,fun i hi=>?_⟩;rw[f.2 i hi];have:(Fk (Iu vs (Gs vs o)) i).kind=2:=by
  rw[plB_len] at hi;by_cases q:i<vs.length
  ·rw[Y5 q]
  ·by_cases g:i=vs.length
   ·rw[g,plB_w0]
   ·rw[show i=vs.length+1 by omega,plB_w1]
 rw[this];simp
def zx6 {deep:Nat}(h:PwV vs o d a b c)(K:PwL vs o)(hk:(gv vs d).limbs≤3)(L:(gv vs b).limbs=1)(hd:deep≤4){X Y:List (List UInt64)}(j:Qv (Iu vs (Gs vs o)) X)(M:Qv (Iu vs (Gs vs o)) Y) :
  ∃(l r:Ms),l.bufs.length=vs.length+2∧r.bufs.length=vs.length+2∧l.l=r.l∧(∀i,i<vs.length+2→i≠d→i≠Mb vs d→l.bufs.getD i []=X.getD i []) ∧
   (l.bufs.getD d []).length=(gv vs d).limbs.toNat∧((X.getD c []).getD 0 0%2=1→val (X.getD a [])<val (X.getD c [])→val (l.bufs.getD d [])=val (X.getD a [])^val (X.getD b [])%val (X.getD c [])) ∧
   H6 29 [.agg (Fa ((64:Nat):Int) (Iu vs (Gs vs o)) ((Gv vs o).prog deep).flat),LN X] (.tup [LN l.bufs,.lst (Rl l.l) l.l.length 2,.i 0]) ∧
   H6 29 [.agg (Fa ((64:Nat):Int) (Iu vs (Gs vs o)) ((Gv vs o).prog deep).flat),LN Y] (.tup [LN r.bufs,.lst (Rl r.l) r.l.length 2,.i 0]):=by
 have f:=pwF h;have g:=yi h;have T:=pl_C h;have U:=pl_S h j;have V:=Sy h.hv h.fd.2;have hw:=xh h;have hlen:(Iu vs (Gs vs o)).length=vs.length+2:=plB_len;have l1:=h.fd.2;have Z:=h.fa.2;have l3:=h.fb.2;have l4:=h.fc.2;have x:=zqs (W:=Gs vs o) h.hv ⟨hw.1,K.w⟩;have z:(Gv vs o).times≤64:=by
  have N:=f.ti;have h2:=f.ov;have h3:=f.w;have h4:=h.w;rw[f.pb,L] at N;have h5:(Gv vs o).times*(Gv vs o).w≤64+((Gv vs o).w - 1):=by
   have e:((⟨b,0,(1:Int).toNat⟩:Pn).k)=1:=rfl;rw[N,e];omega
  generalize (Gv vs o).times=t at *;generalize (Gv vs o).w=w at *;have A:w=1∨w=2∨w=3∨w=4∨w=5∨w=6:=by omega
  rcases A with rfl|rfl|rfl|rfl|rfl|rfl<;>omega
 have hp:=Pw.prog_all (p:=Gv vs o) (e:=deep) T rfl rfl hd;have y:=Pw.prog_stp (p:=Gv vs o) (e:=deep) hd (by rw[f.k];omega) (by rw[f.w];exact h.w.2) z (by rw[f.pb,L];exact Eg 1);have B:((Gv vs o).prog deep).flat.length≤65536:=by
  unfold Pw.prog;rw[wrap_flat];have:=ztk (p:=Gv vs o) (D:=deep);have C:(Ic deep 0).length=deep:=lpsL_len' deep 0;simp[C];omega
 have E:=Pw.prog_chk g hd (by rw[hlen];have:=K.n;omega) x B;have hex:=Pw.prog_ex (s0:=Kh (Hy 64 (Iu vs (Gs vs o)) X)) U hd;obtain⟨l,r,t,O,r2,r3,P,Q,r6,r7,r8⟩:=Xn (X:=X) (Y:=Y) cfP_ok (by rw[hlen];rfl) hp E y (zob j) (zob M) (by omega) (fun i hi=>by have:=j.2 i hi;have:=M.2 i hi;omega) hex;rw[hlen] at P Q;have s:(l.bufs.getD d []).length=(gv vs d).limbs.toNat:=by
  rw[O.len d (by omega),zl9 (j.2 d (by omega)) (by omega),Y5 h.fd.2]
 refine⟨l,r,P,Q,r6,fun i hi F G=>?_,s,fun ho H=>?_,r7,r8⟩
 ·rw[r3 i (fun q=>by rcases q with q|q;exact F q;exact G q),zir (j.2 i (by omega)) (by omega)]
 ·have I:∀i,i<vs.length→((X.getD i []).length:Int)=(gv vs i).limbs:=fun i hi=>by
   have:=j.2 i (by omega);rw[Y5 hi] at this;exact this
  have R:vl (pl (Kh (Hy 64 (Iu vs (Gs vs o)) X)).m (Gv vs o).a) (Gv vs o).k=val (X.getD a []):=by
   rw[f.pa,f.k];exact zlr (p:=⟨a,0,_⟩) (j.2 a (by omega)) (by simp only;omega) rfl (by simp only;have:=I a Z;have:=h.la;omega)
  have vb:vl (pl (Kh (Hy 64 (Iu vs (Gs vs o)) X)).m (Gv vs o).b) (Gv vs o).b.k=val (X.getD b []):=by
   rw[f.pb];exact zlr (p:=⟨b,0,_⟩) (j.2 b (by omega)) (by simp only;omega) rfl (by simp only;have:=I b l3;omega)
  have S:vl (pl (Kh (Hy 64 (Iu vs (Gs vs o)) X)).m (Gv vs o).n) (Gv vs o).k=val (X.getD c []):=by
   rw[f.pn,f.k];exact zlr (p:=⟨c,0,_⟩) (j.2 c (by omega)) (by simp only;omega) rfl (by simp only;have:=I c l4;have:=h.lc;omega)
  have vo:pl (Kh (Hy 64 (Iu vs (Gs vs o)) X)).m (Gv vs o).n 0=(X.getD c []).getD 0 0:=by
   rw[f.pn];show (Kh (Hy 64 (Iu vs (Gs vs o)) X)).m c (0+0)=_;rw[zwn (j.2 c (by omega)) (by omega)]
  obtain⟨_,hv⟩:=r2 ⟨by rw[vo];exact ho,by rw[R,S];exact H⟩;rw[R,vb,S] at hv;have J:(Gv vs o).k=(gv vs d).limbs.toNat:=f.k;rw[←hv,f.pd,J];refine (vl_get (by omega) fun i hi=>?_).symm;show t.m d (0+i)=_;rw[Bd];have hm:=O.m d i (by omega);rw[zl9 (j.2 d (by omega)) (by omega),Y5 h.fd.2] at hm;exact (hm (by simp only;omega)).symm
end pl
end
def zkk:LC:=(.q [.z 4 (.move (.c .nilSl))] (.q [.m 7 1,.z 8 (.mkSl 1 [(.u 0)] (.t 7) (.t 7)),.m 5 8] (.seq (.q [.z 6 (.move (.k 0))] (.block 0 (.loop (.seq (.q [.m 9 6,.m 10 1,.z 11 (.bin .lss false 3 (.t 9) (.t 10)),.m 12 11,.my 13 12 0,.y 14 12 (.lenSl (.t 13)),.y 15 12 (.bin .gtr true 3 (.t 14) (.k 0)),.z 16 (.pick (.t 12) (.t 15) .F)] (.cond (.t 16) .skip (.exit 0))) (.seq (.block 1 (.draw [(.m 19 5,[]),(.m 20 6,[]),(.m 21 0,[]),(.m 22 6,[]),(.m 23 0,[]),(.z 24 (.lenSl (.t 23)),[]),(.z 25 (.bin .rem false 3 (.t 22) (.t 24)),[]),(.z 26 (.ixAddr 1 (.t 21) (.t 25)),[]),(.l 27 26,[]),(.m 28 6,[]),(.m 29 0,[]),(.z 30 (.lenSl (.t 29)),[]),(.z 31 (.bin .quo false 3 (.t 28) (.t 30)),[]),(.z 32 (.bin .mul true 3 (.t 31) (.k 2)),[]),(.z 33 (.bin .add true 3 (.k 1) (.t 32)),[]),(.z 34 (.cvInt .u64 (.t 33)),[]),(.z 35 (.bin .mul false 23 (.t 27) (.t 34)),[]),(.m 36 6,[]),(.m 37 0,[]),(.z 38 (.lenSl (.t 37)),[]),(.z 39 (.bin .quo false 3 (.t 36) (.t 38)),[]),(.z 40 (.cvInt .u64 (.t 39)),[]),(.z 41 (.bin .add false 23 (.t 35) (.t 40)),[]),(.z 42 (.ixAddr 1 (.t 19) (.t 20)),[]),(.v (.store 1 (.t 42) (.t 41)),[])])) (.ops [.m 17 6,.z 18 (.bin .add true 3 (.t 17) (.k 1)),.m 6 18])))))) (.q [.m 43 5,.m 4 43] .ret))))
def r_kit_Fill:Fg Tryz.prog 26=some ⟨44,zkk.r,[.tmp 4]⟩:=by kernel_rfl
def zqn (l:List UInt64)(n:Nat)(F:n≤1000000)(H:l.length≤1000000)(a:l≠[]):F4 26 [LU l,.i n] (.dy 0 0) [RU (vt l n)]:=by
 refine Hg.row (E9 r_kit_Fill (by kernel_rfl) (by simp) ?_);have f:0<l.length:=List.length_pos_iff.2 a;simp[zkk];refine⟨by omega,?_⟩;refine Iw (fun ρ D G N=>∃(i st:Nat) (m:List UInt64),D=[]∧N+i=n∧lk ρ 0=LU l∧lk ρ 1=.i n∧lk ρ 5=.dy 0 0∧lk ρ 6=.i i∧G[0]?=some (.dyn (m.map .u) n 1 0 st)∧m.length=n∧∀j,j<i→m.getD j 0=xp l j) (N:=n)
  ⟨0,0,List.replicate n 0,rfl,by omega,by simp,by simp,by simp,by simp,by simp[Xp],by simp,by simp⟩ ?_
 rintro N ρ D G ⟨i,st,m,rfl,I,o,h,p,z,r,d,hv⟩ J s;by_cases g:i<n
 ·have hi:i%l.length<l.length:=Df _ f;have w:(l.length:Int)≠0:=by omega
  simp[o,h,p,z,g,f,r,d,LU,w,hi];have A:(i:Int)/(l.length:Int)=((i/l.length:Nat):Int):=by simp
  have B:(i:Int).tmod (l.length:Int)=((i%l.length:Nat):Int):=by rw[Int.tmod_eq_emod_of_nonneg (by omega)];simp
  have C:i/l.length≤i:=Nat.div_le_self _ _;have y:xp l i=l.getD (i%l.length) 0*iU (1+((i/l.length:Nat):Int)*2)+iU ((i/l.length:Nat):Int):=by unfold xp;rw[Ab a]
  simp only[A,B,A9];generalize i/l.length=q at *;refine⟨a,by omega,by omega,a,by omega,by omega,by omega,a,by omega,by omega,by omega,s _ _ _ ⟨N - 1,by omega,i+1,st+1,m.set i (xp l i),rfl,by omega,by simp[o],by simp[h],by simp[p],by simp,?_,by simp[d],fun j K=>?_⟩⟩
  ·have E:=(Aa.1 r).1;rw[Ag E,y]
   congr 2
   rw[show ∀x:LV,Gp (m.map LV.u) i [x]=(m.map LV.u).set i x from fun x=>by rw[Cg,Ai (by simp;omega)];simp[Gp],B0,M9,wv];simp[Ae]
  ·rw[S1 _ _ _ _ _ (by omega)];split
   ·rename_i q;rw[q]
   ·exact hv j (by omega)
 ·have hi:i=n:=by omega
  subst hi;have:m=vt l i:=by
   refine List.ext_getElem (by rw[d,zpi]) fun j h L=>?_
   have:=hv j (by omega);rw[Ae,Ah h] at this;simpa [vt] using this
  simp[o,h,p,z];exact .inr ⟨0,_,_,rfl,by rw[←this,d];exact r⟩
def lpsL_snoc:∀(n:Nat) (i:Int),Ic (n+1) i=Ic n i++[⟨16,i+n,-1,-1,-1,-1,0,1⟩]
 |0,i=>by simp[Ic]
 |n+1,i=>by
  rw[Ic,lpsL_snoc n (i+1),Ic,Bi]
  congr 4
  simp;omega
def lpsL_len:∀(n:Nat) (i:Int),(Ic n i).length=n
 |0,_=>rfl
 |n+1,i=>by rw[Ic,Ar,lpsL_len]
def zj7:LC:=(.q [.z 4 (.alloc [.nilSl,.nilSl,(.i 0),(.i 0),(.i 0),(.i 0),(.i 0),(.i 0)])] (.q [.z 5 (.alloc [.nilSl,.nilSl,(.i 0),(.i 0),(.i 0),(.i 0),(.i 0),(.i 0)])] (.seq (.q [.z 6 (.move (.k 0))] (.block 0 (.loop (.seq (.q [.m 8 6,.m 9 0,.z 10 (.lenSl (.t 9)),.z 11 (.bin .lss false 3 (.t 8) (.t 10))] (.cond (.t 11) .skip (.exit 0))) (.seq (.block 1 (.seq (.draw [(.f 14 0 5,[]),(.l 15 14,[]),(.m 16 0,[]),(.m 17 6,[]),(.z 18 (.ixAddr 3 (.t 16) (.t 17)),[]),(.f 19 0 18,[]),(.l 20 19,[]),(.m 21 0,[]),(.m 22 6,[]),(.z 23 (.ixAddr 3 (.t 21) (.t 22)),[]),(.f 24 1 23,[]),(.l 25 24,[]),(.z 26 (.build [(.i 0),(.i 0),(.bool false)] [(0,1,.t 20),(1,1,.k 2),(2,1,.t 25)]),[]),(.z 27 (.buildSl 3 1 [(.i 0),(.i 0),(.bool false)] [(0,3,.t 26)]),[(.l 25 24,false),(.l 20 19,false),(.l 15 14,false)]),(.z 28 (.appG 3 (.t 15) (.t 27)),[]),(.f 29 0 5,[]),(.v (.store 1 (.t 29) (.t 28)),[])]) (.draw [(.f 30 1 5,[]),(.l 31 30,[]),(.m 32 6,[]),(.m 33 0,[]),(.m 34 6,[]),(.z 35 (.ixAddr 3 (.t 33) (.t 34)),[]),(.f 36 0 35,[]),(.l 37 36,[]),(.z 38 (.build [(.i 0),(.i 0),(.i 0)] [(0,1,.t 32),(2,1,.t 37)]),[]),(.z 39 (.buildSl 3 1 [(.i 0),(.i 0),(.i 0)] [(0,3,.t 38)]),[(.l 37 36,false),(.l 31 30,false)]),(.z 40 (.appG 3 (.t 31) (.t 39)),[]),(.f 41 1 5,[]),(.v (.store 1 (.t 41) (.t 40)),[])]))) (.ops [.m 12 6,.z 13 (.bin .add true 3 (.t 12) (.k 1)),.m 6 13])))))) (.seq (.q [.z 7 (.move (.k 0))] (.block 2 (.loop (.seq (.q [.m 42 7,.z 43 (.bin .lss true 3 (.t 42) (.k 2))] (.cond (.t 43) .skip (.exit 2))) (.seq (.block 3 (.q [.f 46 0 5,.l 47 46,.m 48 1,.m 49 7,.z 50 (.bin .eql true 3 (.t 49) (.k 1)),.z 51 (.build [(.i 0),(.i 0),(.bool false)] [(0,1,.t 48),(1,1,.k 2),(2,1,.t 50)]),.z 52 (.buildSl 3 1 [(.i 0),(.i 0),(.bool false)] [(0,3,.t 51)]),.z 53 (.appG 3 (.t 47) (.t 52)),.f 54 0 5,.v (.store 1 (.t 54) (.t 53))] (.ops [.m 55 7,.m 56 0,.z 57 (.lenSl (.t 56)),.m 58 7,.z 59 (.bin .add false 3 (.t 57) (.t 58)),.m 60 1,.z 61 (.build [(.i 0),(.i 0),(.i 0)] [(0,1,.t 59),(2,1,.t 60)]),.f 62 2 5,.z 63 (.ixAddrArr 2 3 (.t 62) (.t 55)),.v (.store 3 (.t 63) (.t 61))]))) (.ops [.m 44 7,.z 45 (.bin .add true 3 (.t 44) (.k 1)),.m 7 45])))))) (.q [.z 64 (.loadN 8 (.t 5)),.v (.store 8 (.t 4) (.t 64))] .ret)))))
def r_kit_Plain:Fg Tryz.prog 19=some ⟨65,zj7.r,[.cellN 4 8]⟩:=by kernel_rfl
def zr2 {vs:List Vr}{i:Nat}(h:i<vs.length):M1 (vs.take (i+1))=M1 (vs.take i)++[⟨(gv vs i).limbs,2,(gv vs i).sec⟩]:=by
 have a:=Nq h;obtain⟨_,e⟩:=Aa.1 a;rw[Cj h,M1,D3,e];rfl
def Wr (vs:List Vr)(i:Nat):List Pc:=(List.range i).map fun i:Nat=>⟨(i:Int),0,(gv vs i).limbs⟩
def zx2 (vs:List Vr)(i:Nat):Wr vs (i+1)=Wr vs i++[⟨(i:Int),0,(gv vs i).limbs⟩]:=by simp[Wr,List.range_succ]
def Zg (a b:List Pc):Om (a++b)=Om a++Om b:=by simp[Om]
def kx (n w:Int):Nat→List LV
 |0=>[.i 0,.i 0,.i 0,.i 0,.i 0,.i 0]
 |1=>[.i n,.i 0,.i w,.i 0,.i 0,.i 0]
 |_=>[.i n,.i 0,.i w,.i (n+1),.i 0,.i w]
def kt (w:Int):Nat→List Bf
 |0=>[]
 |1=>[⟨w,2,false⟩]
 |_=>[⟨w,2,false⟩,⟨w,2,true⟩]
def zfr (vs:List Vr)(w:Int)(hl:vs.length≤1000000):H6 19 [.lst (Hq vs) vs.length 3,.i w] (.agg (Ii (M1 vs++[⟨w,2,false⟩,⟨w,2,true⟩]) (J7 vs) ⟨vs.length,0,w⟩ ⟨(vs.length:Int)+1,0,w⟩)):=by
 refine La.mk (by simp[LV.dat,o7]) (E9 r_kit_Plain (by kernel_rfl) (by simp) ?_);simp[zj7];refine Iw (fun ρ D G N=>∃(i st s0:Nat) (v1 v2:LV),D=[]∧N+i=vs.length∧lk ρ 0=.lst (Hq vs) vs.length 3∧lk ρ 1=.i w∧lk ρ 4=.ptr 0 0∧lk ρ 5=.ptr 1 0∧lk ρ 6=.i i∧2≤G.length ∧
   G[0]?=some (.cells [.nilSl,.nilSl,.i 0,.i 0,.i 0,.i 0,.i 0,.i 0] s0)∧G[1]?=some (.cells [v1,v2,.i 0,.i 0,.i 0,.i 0,.i 0,.i 0] st) ∧
   H0 2 G v1 3 i (Ga (M1 (vs.take i)))∧H0 2 G v2 3 i (Om (Wr vs i))∧∀q j l d,v1=.dy q j→v2=.dy l d→q≠l) (N:=vs.length)
  ⟨0,0,0,.nilSl,.nilSl,rfl,by omega,by simp,by simp,by simp,by simp,by simp,by simp,by simp,by simp,by simpa [M1,Ga] using H0.nil,by simpa [Wr,Om] using H0.nil,fun q j l d e=>by cases e⟩ ?_
 rintro N ρ D G ⟨i,st,s0,v1,v2,rfl,hN,B,F,H,C,V,S,E,p,y,o,m⟩ Nx K;by_cases g:i<vs.length
 ·have q0:=zj (Nq g);have q1:=ztb (Nq g);have hq:=o9 g;have l1:1<G.length:=by omega
  have T:∀x:List LObj,(G++x)[1]?=_:=fun x=>(E6 l1).trans p
  have p0:∀x:List LObj,(G++x)[0]?=_:=fun x=>(E6 (by omega)).trans E
  simp[B,C,V,p,↓T,g,Fu q0,Fu q1];have Q:=y.push_end (ob:=[LObj.dyn [.i (gv vs i).limbs,.i 2,.bool (gv vs i).sec] 1 3 0 0]);have I:=o.push_end (ob:=[LObj.dyn [.i (gv vs i).limbs,.i 2,.bool (gv vs i).sec] 1 3 0 0]);have W:=p0 [LObj.dyn [.i (gv vs i).limbs,.i 2,.bool (gv vs i).sec] 1 3 0 0];have m1:=T [LObj.dyn [.i (gv vs i).limbs,.i 2,.bool (gv vs i).sec] 1 3 0 0];have ml:(G++[LObj.dyn [.i (gv vs i).limbs,.i 2,.bool (gv vs i).sec] 1 3 0 0]).length=G.length+1:=by simp
  have z:=fun q j (e:v2=.dy q j)=>(o.lt e).2
  generalize G++[LObj.dyn [.i (gv vs i).limbs,.i 2,.bool (gv vs i).sec] 1 3 0 0]=GA at *;refine Q.push2 (c:=1) (x:=(⟨(gv vs i).limbs,2,(gv vs i).sec⟩:Bf).f) (by omega) (by omega) (by omega) rfl rfl fun a J A f1 X s1 Y=>?_
  have R:∀q,q<2→∀j,v1≠.dy q j:=fun q hq j e=>by have:=(Q.lt e).1;omega
  have n2:∀q,q<2→∀j,v2≠.dy q j:=fun q hq j e=>by have:=(I.lt e).1;omega
  have L:=(f1 0 (by omega) (R 0 (by omega))).trans W;have M:=(f1 1 (by omega) (R 1 (by omega))).trans m1;have O:=I.keep (G':=J) (fun q j e=>f1 q (I.lt e).2 (fun d s=>m q d q j s e rfl));have r:∀q j l d,a=.dy q j→v2=.dy l d→q≠l:=fun q j l d e s=>by
   rcases s1 q j e with h|⟨U,h⟩
   ·have:=z l d s;omega
   ·exact m q U l d h s
  have P:=A.cells;have Z:=I.cells;simp[-LV.cells,B,C,V,M,P];have aa:=A.set_lt (q:=1) (ob:=.cells [a,v2,.i 0,.i 0,.i 0,.i 0,.i 0,.i 0] (st+1)) (by omega);have ao:=O.set_lt (q:=1) (ob:=.cells [a,v2,.i 0,.i 0,.i 0,.i 0,.i 0,.i 0] (st+1)) (by omega);have k0:(J.set 1 (.cells [a,v2,.i 0,.i 0,.i 0,.i 0,.i 0,.i 0] (st+1)))[0]?=_:=(Ad (by omega)).trans L;have k1:(J.set 1 (.cells [a,v2,.i 0,.i 0,.i 0,.i 0,.i 0,.i 0] (st+1)))[1]?=_:=Ag (by omega);have kl:(J.set 1 (.cells [a,v2,.i 0,.i 0,.i 0,.i 0,.i 0,.i 0] (st+1))).length=J.length:=by simp
  generalize J.set 1 (.cells [a,v2,.i 0,.i 0,.i 0,.i 0,.i 0,.i 0] (st+1))=G2 at *;have r1:∀x:List LObj,(G2++x)[1]?=_:=fun x=>(E6 (by omega)).trans k1
  have r0:∀x:List LObj,(G2++x)[0]?=_:=fun x=>(E6 (by omega)).trans k0
  simp[B,C,V,k1,↓r1,g,Fu q0];have E1:=aa.push_end (ob:=[LObj.dyn [.i (i:Int),.i 0,.i (gv vs i).limbs] 1 3 0 0]);have E2:=ao.push_end (ob:=[LObj.dyn [.i (i:Int),.i 0,.i (gv vs i).limbs] 1 3 0 0]);have w0:=r0 [LObj.dyn [.i (i:Int),.i 0,.i (gv vs i).limbs] 1 3 0 0];have w1:=r1 [LObj.dyn [.i (i:Int),.i 0,.i (gv vs i).limbs] 1 3 0 0];have wl:(G2++[LObj.dyn [.i (i:Int),.i 0,.i (gv vs i).limbs] 1 3 0 0]).length=G2.length+1:=by simp
  have ad:=fun q j (e:a=.dy q j)=>(aa.lt e).2
  generalize G2++[LObj.dyn [.i (i:Int),.i 0,.i (gv vs i).limbs] 1 3 0 0]=GB at *;refine E2.push2 (c:=1) (x:=(⟨(i:Int),0,(gv vs i).limbs⟩:Pc).f) (by omega) (by omega) (by omega) rfl rfl fun af G3 ag f2 aw s2 ax=>?_
  have ap:=(f2 0 (by omega) (n2 0 (by omega))).trans w0;have aq:=(f2 1 (by omega) (n2 1 (by omega))).trans w1;have ar:=E1.keep (G':=G3) (fun q j e=>f2 q (E1.lt e).2 (fun d s=>r q j q d e s rfl));have ah:∀q j l d,a=.dy q j→af=.dy l d→q≠l:=fun q j l d e s=>by
   rcases s2 l d s with h|⟨U,h⟩
   ·have:=ad q j e;omega
   ·exact r q j l U e h
  have aj:=ag.cells;simp[-LV.cells,B,C,V,aq,aj];refine⟨by omega,K _ _ _ ⟨N - 1,by omega,i+1,st+1+1,s0,a,af,rfl,by omega,by simp[B],by simp[F],by simp[H],by simp[C],by simp,by simp;omega,?_,?_,?_,?_,ah⟩⟩
  ·rw[Ad (by omega)];exact ap
  ·rw[Ag (by omega)]
  ·rw[zr2 g,du];exact ar.set_lt (by omega)
  ·rw[zx2,Zg];exact ag.set_lt (by omega)
 ·have gi:i=vs.length:=by omega
  subst gi;simp[B,F,H,C,V,p];refine Iw (fun ρ D G N=>∃(j st s0:Nat) (v1 v2:LV),D=[]∧N+j=2∧lk ρ 0=.lst (Hq vs) vs.length 3∧lk ρ 1=.i w∧lk ρ 4=.ptr 0 0∧lk ρ 5=.ptr 1 0∧lk ρ 7=.i j∧2≤G.length ∧
    G[0]?=some (.cells [.nilSl,.nilSl,.i 0,.i 0,.i 0,.i 0,.i 0,.i 0] s0)∧G[1]?=some (.cells (v1::v2::kx vs.length w j) st) ∧
    H0 2 G v1 3 (vs.length+j) (Ga (M1 vs++kt w j))∧H0 2 G v2 3 vs.length (Om (J7 vs))∧∀q j l d,v1=.dy q j→v2=.dy l d→q≠l) (N:=2)
   ⟨0,st,s0,v1,v2,rfl,by omega,by simp[B],by simp[F],by simp[H],by simp[C],by simp,S,E,p,by simpa [kt] using y,o,m⟩ ?_
  clear B F H C V S E p y o m g K Nx;rintro N ρ D G ⟨j,st,s0,v1,v2,rfl,ay,B,F,H,C,h7,S,E,p,y,o,m⟩ Nx K;have T:∀x:List LObj,(G++x)[1]?=_:=fun x=>(E6 (by omega)).trans p
  have p0:∀x:List LObj,(G++x)[0]?=_:=fun x=>(E6 (by omega)).trans E
  have hj:j=0∨j=1∨j=2:=by omega
  rcases hj with rfl|rfl|rfl
  ·have Q:=y.push_end (ob:=[LObj.dyn [.i w,.i 2,.bool false] 1 3 0 0]);have I:=o.push_end (ob:=[LObj.dyn [.i w,.i 2,.bool false] 1 3 0 0]);simp[B,F,H,C,h7,p,↓T,kx];have W:=p0 [LObj.dyn [.i w,.i 2,.bool false] 1 3 0 0];have m1:=T [LObj.dyn [.i w,.i 2,.bool false] 1 3 0 0];have ml:(G++[LObj.dyn [.i w,.i 2,.bool false] 1 3 0 0]).length=G.length+1:=by simp
   have z:=fun q j (e:v2=.dy q j)=>(o.lt e).2
   generalize G++[LObj.dyn [.i w,.i 2,.bool false] 1 3 0 0]=GA at *;refine Q.push2 (c:=1) (x:=(⟨w,2,false⟩:Bf).f) (by omega) (by omega) (by omega) rfl rfl fun a J A f1 X s1 Y=>?_
   have R:∀q,q<2→∀j,v1≠.dy q j:=fun q hq j e=>by have:=(Q.lt e).1;omega
   have L:=(f1 0 (by omega) (R 0 (by omega))).trans W;have M:=(f1 1 (by omega) (R 1 (by omega))).trans m1;have O:=I.keep (G':=J) (fun q j e=>f1 q (I.lt e).2 (fun d s=>m q d q j s e rfl));have r:∀q j l d,a=.dy q j→v2=.dy l d→q≠l:=fun q j l d e s=>by
    rcases s1 q j e with h|⟨U,h⟩
    ·have:=z l d s;omega
    ·exact m q U l d h s
   have P:=A.cells;have Z:=I.cells;have x1:∀x,(J.set 1 x)[1]?=some x:=fun x=>Ag (by omega)
   simp[-LV.cells,B,F,H,C,h7,M,P,↓x1,kx];simp[Gp]
   repeat (refine⟨by omega,?_⟩)
   refine K _ _ _ ⟨N - 1,by omega,0+1,st+1+1,s0,a,v2,rfl,by omega,by simp[B],by simp[F],by simp[H],by simp[C],by simp,by simp;omega,?_,?_,?_,?_,r⟩
   ·rw[Ad (by omega)];exact L
   ·rw[Ag (by omega)];simp[kx]
   ·have hW:Ga (M1 vs++kt w (0+1))=Ga (M1 vs++kt w 0)++(⟨w,2,false⟩:Bf).f:=by simp[Ga,kt]
    rw[hW];exact A.set_lt (by omega)
   ·exact O.set_lt (by omega)
  ·have Q:=y.push_end (ob:=[LObj.dyn [.i w,.i 2,.bool true] 1 3 0 0]);have I:=o.push_end (ob:=[LObj.dyn [.i w,.i 2,.bool true] 1 3 0 0]);simp[B,F,H,C,h7,p,↓T,kx];have W:=p0 [LObj.dyn [.i w,.i 2,.bool true] 1 3 0 0];have m1:=T [LObj.dyn [.i w,.i 2,.bool true] 1 3 0 0];have ml:(G++[LObj.dyn [.i w,.i 2,.bool true] 1 3 0 0]).length=G.length+1:=by simp
   have z:=fun q j (e:v2=.dy q j)=>(o.lt e).2
   generalize G++[LObj.dyn [.i w,.i 2,.bool true] 1 3 0 0]=GA at *;refine Q.push2 (c:=1) (x:=(⟨w,2,true⟩:Bf).f) (by omega) (by omega) (by omega) rfl rfl fun a J A f1 X s1 Y=>?_
   have R:∀q,q<2→∀j,v1≠.dy q j:=fun q hq j e=>by have:=(Q.lt e).1;omega
   have L:=(f1 0 (by omega) (R 0 (by omega))).trans W;have M:=(f1 1 (by omega) (R 1 (by omega))).trans m1;have O:=I.keep (G':=J) (fun q j e=>f1 q (I.lt e).2 (fun d s=>m q d q j s e rfl));have r:∀q j l d,a=.dy q j→v2=.dy l d→q≠l:=fun q j l d e s=>by
    rcases s1 q j e with h|⟨U,h⟩
    ·have:=z l d s;omega
    ·exact m q U l d h s
   have P:=A.cells;have Z:=I.cells;have x1:∀x,(J.set 1 x)[1]?=some x:=fun x=>Ag (by omega)
   simp[-LV.cells,B,F,H,C,h7,M,P,↓x1,kx];simp[Gp]
   repeat (refine⟨by omega,?_⟩)
   refine K _ _ _ ⟨N - 1,by omega,1+1,st+1+1,s0,a,v2,rfl,by omega,by simp[B],by simp[F],by simp[H],by simp[C],by simp,by simp;omega,?_,?_,?_,?_,r⟩
   ·rw[Ad (by omega)];exact L
   ·rw[Ag (by omega)];simp[kx]
   ·have hW:Ga (M1 vs++kt w (1+1))=Ga (M1 vs++kt w 1)++(⟨w,2,true⟩:Bf).f:=by simp[Ga,kt]
    rw[hW];exact A.set_lt (by omega)
   ·exact O.set_lt (by omega)
  ·have az:=y.bor;have aj:=o.bor;have y0:∀x,(G.set 0 x)[0]?=some x:=fun x=>Ag (by omega)
   simp[B,F,H,C,h7,E,p,kx,↓y0];have b1:=(y.set_lt (q:=0) (ob:=.cells [v1,v2,.i vs.length,.i 0,.i w,.i (vs.length+1),.i 0,.i w] (s0+1)) (by omega)).bor;have b2:=(o.set_lt (q:=0) (ob:=.cells [v1,v2,.i vs.length,.i 0,.i w,.i (vs.length+1),.i 0,.i w] (s0+1)) (by omega)).bor;refine⟨_,_,rfl,?_,_,rfl,?_⟩
   ·have e1:(M1 vs++[(⟨w,2,false⟩:Bf),⟨w,2,true⟩]).length=vs.length+2:=by simp[M1]
    rw[e1];exact b1
   ·have e2:(J7 vs).length=vs.length:=by simp[J7]
    rw[e2];exact b2






def RV (G:Ev)(v:LV)(l:List UInt64):Prop:=v=LU l∨(v=.nilSl∧l=[])∨∃q st,v=.dy q 0∧G[q]?=some (.dyn (l.map .u) l.length 1 0 st)
def z9q:LC:=(.q [.z 4 (.move (.c .nilSl)),.z 5 (.move (.k 0))] (.seq (.q [.m 6 1,.z 7 (.bin .lss true 3 (.t 6) (.k 0)),.m 8 7,.mn 9 8 1,.n 10 8 (.bin .gtr true 3 (.t 9) (.k 512)),.z 11 (.pick (.t 8) .T (.t 10))] (.cond (.t 11) (.q [.z 4 (.move (.c .nilSl)),.z 5 (.move (.k 2))] .ret) .skip)) (.q [.m 12 0,.z 13 (.w 84 [.t 12]),.m 0 13] (.seq (.q [.m 14 0,.z 15 (.lenSl (.t 14)),.m 16 1,.z 17 (.bin .gtr false 3 (.t 15) (.t 16))] (.cond (.t 17) (.q [.z 4 (.move (.c .nilSl)),.z 5 (.move (.k 3))] .ret) .skip)) (.q [.m 18 0,.m 19 1,.m 20 0,.z 21 (.lenSl (.t 20)),.z 22 (.bin .sub false 3 (.t 19) (.t 21)),.z 23 (.appZ 1 [(.u 0)] (.t 18) (.t 22)),.m 4 23,.z 5 (.move (.k 0))] .ret)))))
def r_ref02_Fit:Fg Tryz.prog 95=some ⟨24,z9q.r,[.tmp 4,.tmp 5]⟩:=by kernel_rfl
def zn8 (a:List UInt64)(n:Int)(h:a.length≤1000000):F4 95 [LU a,.i n] (.tup [.dy 0 0,.i (Kb a n)]) [RU (Le a n)]:=by
 refine Hg.rowE (E9 r_ref02_Fit (by kernel_rfl) (by simp) ?_);have j:=zjs a;by_cases d:n<0
 ·have e:Kb a n=2:=Ai (.inl d);simp[z9q,d,e,Le,jq]
 ·by_cases g:512<n
  ·have e:Kb a n=2:=Ai (.inr g);simp[z9q,d,g,e,Le,jq]
  ·simp[z9q,d,g];refine zy1 (zll a (by omega)) (by simp) ?_;by_cases f:n<(Py (val a)).length
   ·have e:Kb a n=3:=by unfold Kb;rw[Ab (by omega),Ai f]
    simp[RU,f,e,Le,jq]
   ·have e:Kb a n=0:=by unfold Kb;rw[Ab (by omega),Ab f]
    simp[RU,f,e,Le];refine⟨by omega,fun l=>⟨by omega,by omega,by omega,by omega,.inr ⟨0,1,1,rfl,?_⟩⟩⟩;rw[repU];simp
def T8 {a:List UInt64}{n:Int}(h:Kb a n=0):val (Le a n)=val a:=by
 unfold Le;rw[Ai h,val_append,val_rep0,Zl,Nat.mul_zero,C5]
def Xq {a:List UInt64}{k:Nat}(h:val a<2^(64*(k+1)))(hk:k≤5):Kb a ((k:Int)+1)=0:=by
 have:=ze2 h;unfold Kb;rw[Ab (by omega),Ab (by omega)]
def zfz:LC:=(.q [.z 4 (.move (.c .nilSl))] (.q [.m 6 0,.z 7 (.build [(.i 0),(.bool false),(.i 0)] [(0,1,.t 6),(1,1,.T)]),.z 5 (.alloc [(.i 0),(.bool false),(.i 0)]),.v (.store 3 (.t 5) (.t 7))] (.q [.z 8 (.loadN 3 (.t 5)),.m 9 1,.z 10 (.build [(.i 0),(.bool false),(.i 0)] [(0,1,.t 9),(1,1,.T)]),.z 11 (.loadN 3 (.t 5)),.z 12 (.loadN 3 (.t 5)),.z 13 (.buildSl 3 4 [(.i 0),(.bool false),(.i 0),(.i 0),(.bool false),(.i 0),(.i 0),(.bool false),(.i 0),(.i 0),(.bool false),(.i 0)] [(0,3,.t 8),(3,3,.t 10),(6,3,.t 11),(9,3,.t 12)]),.m 4 13] .ret)))
def r_law24_four:Fg Tryz.prog 41=some ⟨14,zfz.r,[.tmp 4]⟩:=by kernel_rfl
def zhr:LC:=(.q [.z 2 (.alloc [(.i 0),(.i 0),(.i 0),(.i 0),(.i 0),(.i 0),(.u 0)])] (.q [.m 3 0,.z 4 (.build [(.i 0),(.i 0),(.i 0),(.i 0),(.i 0),(.i 0),(.u 0)] [(0,1,.k 13),(1,1,.k 3),(2,1,.k (-1)),(3,1,.k 0),(4,1,.k 1),(5,1,.k 2),(6,1,.t 3)]),.v (.store 7 (.t 2) (.t 4))] .ret))
def r_law24_pow:Fg Tryz.prog 43=some ⟨5,zhr.r,[.cellN 2 7]⟩:=by kernel_rfl
def zap:LC:=(.q [.z 3 (.box (.t 0)),.z 6 (.alloc [(.i 0),.nilSl,.nilSl])] (.q [.f 10 0 3,.l 11 10,.z 12 (.build [(.i 0),.nilSl,.nilSl] [(0,1,.k 64),(1,1,.t 11)]),.z 7 (.alloc [(.i 0),.nilSl,.nilSl]),.v (.store 3 (.t 7) (.t 12))] (.seq (.q [.z 8 (.move (.k 0))] (.block 0 (.loop (.seq (.q [.m 13 8,.m 14 2,.z 15 (.bin .lss false 3 (.t 13) (.t 14))] (.cond (.t 15) .skip (.exit 0))) (.seq (.block 1 (.ops [.f 18 2 7,.l 19 18,.m 20 8,.z 21 (.build [(.i 0),(.i 0),(.i 0),(.i 0),(.i 0),(.i 0),(.i 0),(.u 0)] [(0,1,.k 16),(1,1,.t 20),(2,1,.k (-1)),(3,1,.k (-1)),(4,1,.k (-1)),(5,1,.k (-1)),(7,1,.c (.u 1))]),.z 22 (.buildSl 8 1 [(.i 0),(.i 0),(.i 0),(.i 0),(.i 0),(.i 0),(.i 0),(.u 0)] [(0,8,.t 21)]),.z 23 (.appG 8 (.t 19) (.t 22)),.f 24 2 7,.v (.store 1 (.t 24) (.t 23))])) (.ops [.m 16 8,.z 17 (.bin .add true 3 (.t 16) (.k 1)),.m 8 17])))))) (.q [.f 25 2 7,.l 26 25,.m 27 1,.z 28 (.appG 8 (.t 26) (.t 27)),.f 29 2 7,.v (.store 1 (.t 29) (.t 28))] (.seq (.q [.z 9 (.move (.k 0))] (.block 2 (.loop (.seq (.q [.m 30 9,.m 31 2,.z 32 (.bin .lss false 3 (.t 30) (.t 31))] (.cond (.t 32) .skip (.exit 2))) (.seq (.block 3 (.ops [.f 35 2 7,.l 36 35,.z 37 (.build [(.i 0),(.i 0),(.i 0),(.i 0),(.i 0),(.i 0),(.i 0),(.u 0)] [(0,1,.k 17),(1,1,.k (-1)),(2,1,.k (-1)),(3,1,.k (-1)),(4,1,.k (-1)),(5,1,.k (-1))]),.z 38 (.buildSl 8 1 [(.i 0),(.i 0),(.i 0),(.i 0),(.i 0),(.i 0),(.i 0),(.u 0)] [(0,8,.t 37)]),.z 39 (.appG 8 (.t 36) (.t 38)),.f 40 2 7,.v (.store 1 (.t 40) (.t 39))])) (.ops [.m 33 9,.z 34 (.bin .add true 3 (.t 33) (.k 1)),.m 9 34])))))) (.q [.z 41 (.loadN 3 (.t 7)),.v (.store 3 (.t 6) (.t 41))] .ret))))))
def r_law24_program:Fg Tryz.prog 52=some ⟨42,zap.r,[.cellN 6 3]⟩:=by kernel_rfl
def zfv:LC:=(.q [.z 2 (.box (.t 0)),.z 4 (.move (.c .nilSl))] (.q [.z 5 (.move (.c .nilSl))] (.seq (.q [.z 6 (.move (.k 0))] (.block 0 (.loop (.seq (.q [.m 7 6,.f 8 0 2,.l 9 8,.z 10 (.lenSl (.t 9)),.z 11 (.bin .lss false 3 (.t 7) (.t 10))] (.cond (.t 11) .skip (.exit 0))) (.seq (.block 1 (.draw [(.m 14 5,[]),(.z 15 (.buildSl 1 0 [] []),[]),(.m 16 1,[]),(.m 18 6,[]),(.z 19 (.cvInt .u64 (.t 18)),[]),(.z 20 (.bin .mul true 23 (.t 19) (.c (.u 1234567891011))),[]),(.z 21 (.buildSl 1 1 [(.u 0)] [(0,1,.t 20)]),[(.z 15 (.buildSl 1 0 [] []),true)]),(.f 23 0 2,[]),(.l 24 23,[]),(.m 25 6,[]),(.z 26 (.ixAddr 3 (.t 24) (.t 25)),[]),(.f 27 0 26,[]),(.l 28 27,[]),(.z 17 (.appG 1 (.t 15) (.t 16)),[(.l 28 27,false),(.l 24 23,false),(.z 21 (.buildSl 1 1 [(.u 0)] [(0,1,.t 20)]),true)]),(.z 22 (.appG 1 (.t 17) (.t 21)),[(.l 28 27,false),(.l 24 23,false)]),(.z 29 (.w 26 [.t 22,.t 28]),[]),(.z 30 (.buildSl 1 1 [.nilSl] [(0,1,.t 29)]),[]),(.z 31 (.appG 1 (.t 14) (.t 30)),[]),(.m 5 31,[])])) (.ops [.m 12 6,.z 13 (.bin .add true 3 (.t 12) (.k 1)),.m 6 13])))))) (.q [.m 32 5,.m 4 32] .ret))))
def r_law24_rows:Fg Tryz.prog 101=some ⟨33,zfv.r,[.tmp 4]⟩:=by kernel_rfl
def zcq:LC:=(.q [.z 12 (.move (.c .nilSl)),.z 13 (.move .F)] (.q [.m 27 0,.m 28 1,.z 29 (.w 41 [.t 27,.t 28]),.m 14 29] (.q [.m 30 14,.m 31 2,.z 32 (.w 43 [.t 31]),.z 33 (.w 42 [.t 30,.t 32]),.m 15 33] (.seq (.q [.m 34 15,.z 35 (.bin .lss true 3 (.t 34) (.k 1))] (.cond (.t 35) (.q [.z 12 (.move (.c .nilSl)),.z 13 (.move .F)] .ret) .skip)) (.q [.m 36 14,.m 37 15,.z 38 (.w 19 [.t 36,.t 37]),.z 16 (.alloc [.nilSl,.nilSl,(.i 0),(.i 0),(.i 0),(.i 0),(.i 0),(.i 0)]),.v (.store 8 (.t 16) (.t 38))] (.seq (.draw [(.m 40 14,[]),(.m 41 2,[]),(.z 43 (.loadN 8 (.t 16)),[]),(.z 42 (.w 43 [.t 41]),[(.z 43 (.loadN 8 (.t 16)),false)]),(.z 44 (.w 44 [.t 40,.t 42,.t 43,.k 0]),[]),(.m 39 44,[]),(.z 45 (.extract 0 (.t 39)),[]),(.z 46 (.extract 1 (.t 39)),[]),(.m 17 45,[]),(.m 18 46,[])]) (.q [.z 47 (.loadN 8 (.t 16)),.z 48 (.buildSl 1 1 [(.u 0)] [(0,1,.c (.u 3))]),.z 49 (.w 101 [.t 47,.t 48]),.m 19 49] (.seq (.q [.m 50 3,.m 51 4,.m 52 5,.z 53 (.buildSl 1 3 [.nilSl,.nilSl,.nilSl] [(0,1,.t 50),(1,1,.t 51),(2,1,.t 52)]),.z 54 (.lenSl (.t 53)),.z 55 (.move (.k 0))] (.block 0 (.loop (.q [.z 56 (.bin .lss false 3 (.t 55) (.t 54))] (.seq (.cond (.t 56) .skip (.exit 0)) (.seq (.block 1 (.q [.m 57 55,.z 58 (.ixAddr 1 (.t 53) (.t 55)),.l 59 58,.m 20 57,.m 21 59] (.q [.m 61 21,.m 62 14,.m 63 20,.z 64 (.ixAddr 3 (.t 62) (.t 63)),.f 65 0 64,.l 66 65,.z 67 (.w 95 [.t 61,.t 66]),.m 60 67,.z 68 (.extract 0 (.t 60)),.z 69 (.extract 1 (.t 60)),.m 22 68,.m 23 69] (.seq (.q [.m 70 23,.z 71 (.bin .neq true 35 (.t 70) (.k 0))] (.cond (.t 71) (.q [.z 12 (.move (.c .nilSl)),.z 13 (.move .F)] .ret) .skip)) (.ops [.m 72 19,.m 73 20,.m 74 22,.z 75 (.ixAddr 1 (.t 72) (.t 73)),.v (.store 1 (.t 75) (.t 74))]))))) (.ops [.z 76 (.bin .add true 3 (.t 55) (.k 1)),.m 55 76]))))))) (.q [.z 78 (.loadN 8 (.t 16)),.m 79 17,.z 80 (.w 52 [.t 78,.t 79,.k 0]),.m 81 19,.z 82 (.w 29 [.t 80,.t 81]),.m 77 82,.z 83 (.extract 0 (.t 77)),.z 84 (.extract 1 (.t 77)),.z 85 (.extract 2 (.t 77)),.m 24 83,.m 25 84,.m 26 85] (.seq (.q [.m 86 18,.z 87 (.bin .neq true 35 (.t 86) (.k 0)),.m 88 87,.mn 89 88 26,.n 90 88 (.bin .neq true 35 (.t 89) (.k 0)),.z 91 (.pick (.t 88) .T (.t 90))] (.cond (.t 91) (.q [.z 12 (.move (.c .nilSl)),.z 13 (.move .F)] .ret) .skip)) (.q [.m 92 24,.z 93 (.ixAddr 1 (.t 92) (.k 3)),.l 94 93,.m 12 94,.z 13 (.move .T)] .ret)))))))))))
def r_law24_raised:Fg Tryz.prog 48=some ⟨95,zcq.r,[.tmp 12,.tmp 13]⟩:=by kernel_rfl
def zgk {bs:List Bf}{P:LV}{W:List LV}{L:List Lo}{deep:Nat}(hd:deep≤100)(Q:L.length≤1000000)(J:∃a b c d e f,W=[.i a,.i b,.i c,.i d,.i e,.i f]) :
  H6 52 [.agg (.lst (Ga bs) bs.length 3::P::W),.lst (Gi L) L.length 8,.i deep] (.agg (Fa ((64:Nat):Int) bs (Ic deep 0++(L++List.replicate deep N8)))):=by
 obtain⟨R,S,T,U,V,w6,rfl⟩:=J;refine La.mk (by simp[LV.dat,zsi]) (E9 r_law24_program (by kernel_rfl) (by simp) ?_);simp[zap];refine Iw (fun ρ D G N=>∃(i st s1:Nat) (v:LV),D=[]∧N+i=deep∧lk ρ 1=.lst (Gi L) L.length 8∧lk ρ 2=.i deep∧lk ρ 6=.ptr 1 0∧lk ρ 7=.ptr 2 0∧lk ρ 8=.i i∧3≤G.length∧G[1]?=some (.cells [.i 0,.nilSl,.nilSl] s1)∧G[2]?=some (.cells [.i 64,.lst (Ga bs) bs.length 3,v] st)∧H0 3 G v 8 (Ic i 0).length (Gi (Ic i 0))) (N:=deep)
  ⟨0,1,0,.nilSl,rfl,by omega,by simp,by simp,by simp,by simp,by simp,by simp,by simp,by simp,H0.nil⟩ ?_
 rintro N ρ D G ⟨i,st,s1,v,rfl,K,B,w,x,r,C,F,g1,g2,hv⟩ H y;by_cases g:i<deep
 ·have X:(i:Int)<deep:=by omega
  simp[B,w,x,r,C,g2,g];refine hv.push_end.push (c:=1) (by omega) (by simp;omega) (by rw[lpsL_len];omega) (by simp) rfl fun z I h l s=>?_
  have m:=(l 2 (by omega)).trans ((E6 (by omega)).trans g2);have o:=(l 1 (by omega)).trans ((E6 (by omega)).trans g1);have p:=h.cells;simp[-LV.cells,p,r,m,C];refine⟨by omega,y _ _ _ ⟨N - 1,by omega,i+1,st+1,s1,z,rfl,by omega,by simp[B],by simp[w],by simp[x],by simp[r],by simp,by simp at s ⊢;omega,?_,?_,?_⟩⟩
  ·rw[Ad (by omega)];exact o
  ·exact Ag (Aa.1 m).1
  ·rw[lpsL_snoc,Aj,zlu,Int.zero_add];exact h.set_lt (by omega)
 ·have hi:i=deep:=by omega
  subst hi;simp[B,w,x,r,C,g2];refine⟨by omega,?_⟩;refine hv.push (c:=L.length) (by omega) (by omega) (by rw[lpsL_len];omega) (Rh L) (Jv L) fun z I h l s=>?_
  have m:=(l 2 (by omega)).trans g2;have o:=(l 1 (by omega)).trans g1;have p:=h.cells;simp[-LV.cells,p,r,m];have A:=(Aa.1 m).1;refine Iw (fun ρ D G N=>∃(j st s1:Nat) (v:LV),D=[]∧N+j=i∧lk ρ 2=.i i∧lk ρ 6=.ptr 1 0∧lk ρ 7=.ptr 2 0∧lk ρ 9=.i j∧3≤G.length∧G[1]?=some (.cells [.i 0,.nilSl,.nilSl] s1)∧G[2]?=some (.cells [.i 64,.lst (Ga bs) bs.length 3,v] st)∧H0 3 G v 8 (Ic i 0++(L++List.replicate j N8)).length (Gi (Ic i 0++(L++List.replicate j N8)))) (N:=i)
   ⟨0,st+1,s1,z,rfl,by omega,by simp[w],by simp[x],by simp[r],by simp,by simp;omega,?_,Ag A,?_⟩ ?_
  ·rw[Ad (by omega)];exact o
  ·simp only[List.replicate_zero,Bx,Aj];rw[zlu];exact h.set_lt (by omega)
  clear B w x r C F g1 g2 hv m o A h l s p y H;rintro N ρ D G ⟨j,st,s1,v,rfl,K,w,x,r,E,F,g1,g2,hv⟩ H y;by_cases g:j<i
  ·simp[w,x,r,E,g2,g];refine hv.push_end.push (c:=1) (by omega) (by simp;omega) (by simp[lpsL_len];omega) (by simp) rfl fun z I h l s=>?_
   have m:=(l 2 (by omega)).trans ((E6 (by omega)).trans g2);have o:=(l 1 (by omega)).trans ((E6 (by omega)).trans g1);have p:=h.cells;simp[-LV.cells,p,r,m,E];refine⟨by omega,y _ _ _ ⟨N - 1,by omega,j+1,st+1,s1,z,rfl,by omega,by simp[w],by simp[x],by simp[r],by simp,by simp at s ⊢;omega,?_,?_,?_⟩⟩
   ·rw[Ad (by omega)];exact o
   ·exact Ag (Aa.1 m).1
   ·rw[show Ic i 0++(L++List.replicate (j+1) N8)=(Ic i 0++(L++List.replicate j N8))++[N8] by rw[List.replicate_succ'];simp,Aj,zlu];exact h.set_lt (by omega)
  ·have M:j=i:=by omega
   subst M;have O:=(hv.set_lt (q:=1) (ob:=.cells [.i 64,.lst (Ga bs) bs.length 3,v] (s1+1)) (by omega)).bor;simp[-He,w,x,r,E,g2,g1];rw[Ag (Aa.1 g1).1];refine⟨by simp,_,_,rfl,⟨rfl,rfl⟩,_,_,rfl,⟨rfl,by simp[LV.dat,Jf]⟩,_,_,rfl,O,rfl⟩
def zux {bs:List Bf}{M:LV}{O P Q R S w6:Int}{fill:List UInt64}{d:Ev}{K:LV→Ev→Prop}(Z:∀b∈bs,0≤b.size∧b.size≤1000000)(hb:bs.length≤1000)(aa:fill.length≤1000)
  (kk:∀(X:List (List UInt64)) (p l st:Nat) (G':Ev),X.length=bs.length→(∀i,i<bs.length→((X.getD i []).length:Int)=(Fk bs i).size)→(∀q,q<d.length→G'[q]?=d[q]?)→d.length≤p→d.length≤G'.length→bs≠[]→G'[p]?=some (.dyn (X.map LU) X.length 1 l st)→K (.dy p l) G') (r:bs≠[]) :
  F1 (.fn 101) [.agg [.lst (Ga bs) bs.length 3,M,.i O,.i P,.i Q,.i R,.i S,.i w6],.lst (fill.map .u) fill.length 1] d K:=by
 refine E9 r_law24_rows (by kernel_rfl) (by simp) ?_;simp[zfv];refine Iw (fun ρ D G N=>∃(i s0:Nat) (v:LV) (X:List (List UInt64)),D=[]∧N+i=bs.length∧lk ρ 1=.lst (fill.map .u) fill.length 1∧lk ρ 2=.ptr d.length 0∧lk ρ 5=v∧lk ρ 6=.i i∧d.length<G.length∧(∀q,q<d.length→G[q]?=d[q]?) ∧
   G[d.length]?=some (.cells [.lst (Ga bs) bs.length 3,M,.i O,.i P,.i Q,.i R,.i S,.i w6] s0)∧X.length=i∧(∀j,j<i→((X.getD j []).length:Int)=(Fk bs j).size)∧H0 (d.length+1) G v 1 i (X.map LU)) (N:=bs.length)
  ⟨0,0,.nilSl,[],rfl,by omega,by simp,by simp,by simp,by simp,by simp,fun q o=>Aq o,by simp,rfl,fun j h=>by omega,H0.nil⟩ ?_
 rintro N ρ D G ⟨i,s0,v,X,rfl,hN,T,E,U,H,s,w,m,f,V,W⟩ Nx I;by_cases g:i<bs.length
 ·have q0:=Yf (Kl g);have o:=Yp g;have hz:=Z _ (A7 (Kl g));have pp:∀x:List LObj,(G++x)[d.length]?=_:=fun x=>(E6 s).trans m
  simp[T,E,U,H,m,↓pp,g,Fu q0];refine⟨by omega,by omega,?_⟩;obtain⟨z,y⟩:=Af hz.1;rw[y];generalize K5 (iU ↑i) 1234567891011=a;have o1:(G++[LObj.dyn (fill.map .u++[.u a]) (fill.length+1) 1 2 2,LObj.dyn [.u a] 1 1 0 0])[G.length]?=some (.dyn ((fill++[a]).map .u) (fill++[a]).length 1 2 2):=by
   rw[Au (Am _),Ej];simp
  have Y:=fun q (o:q<G.length)=>(E6 (x:=[LObj.dyn (fill.map .u++[.u a]) (fill.length+1) 1 2 2,LObj.dyn [.u a] 1 1 0 0]) o)
  have o3:=W.push_end (ob:=[LObj.dyn (fill.map .u++[.u a]) (fill.length+1) 1 2 2,LObj.dyn [.u a] 1 1 0 0]);have o4:(G++[LObj.dyn (fill.map .u++[.u a]) (fill.length+1) 1 2 2,LObj.dyn [.u a] 1 1 0 0]).length=G.length+2:=by simp
  generalize G++[LObj.dyn (fill.map .u++[.u a]) (fill.length+1) 1 2 2,LObj.dyn [.u a] 1 1 0 0]=GA at *;refine E5 (zqn (fill++[a]) z (by omega) (by simp;omega) (by simp)) ⟨_,_,rfl,⟨_,_,_,_,rfl,o1,sy _⟩,_,_,rfl,⟨rfl,rfl⟩,rfl⟩ ?_;have A:=zpi (fill++[a]) z;generalize vt (fill++[a]) z=F at *;simp[RU];refine H0.push (c:=1) (x:=[LU F]) (o3.push_end) (by omega) (by simp;omega) (by omega) rfl (by simp[dats,LV.dat,sy]) fun v' G' J B L=>?_
  simp at L;simp[H];refine⟨by omega,I _ _ _ ⟨N - 1,by omega,i+1,s0,v',X++[F],rfl,by omega,by simp[T],by simp[E],by simp,by simp,by omega,?_,?_,by simp[f],?_,?_⟩⟩
  ·intro q o;rw[B q (by omega),E6 (by omega),Y q (by omega)];exact w q o
  ·rw[B _ (by omega),E6 (by omega),Y _ s];exact m
  ·intro j hj;by_cases e:j=i
   ·subst e;rw[Ae,←f,Aw,f,y];simp[A]
   ·rw[Ae,Aq (by omega),←Ae];exact V j (by omega)
  ·rw[D3];exact J
 ·have gi:i=bs.length:=by omega
  subst gi;obtain⟨_,_,⟨_,e0,_⟩|⟨p,l,st,hp,rfl,C⟩⟩:=W
  ·exact absurd (A0 e0) r
  simp[E,U,H,m];exact kk X p l st G f (fun i hi=>V i hi) w (by omega) (by omega) r (by rw[f];exact C)
def ze4 (n m:Int):H6 41 [.i n,.i m] (.lst (Hq [⟨n,true,0⟩,⟨m,true,0⟩,⟨n,true,0⟩,⟨n,true,0⟩]) 4 3):=by
 refine La.mk (by simp[LV.dat,Ll]) (E9 r_law24_four (by kernel_rfl) (by simp) ?_);simp[zfz,Hq,Vr.f]
def F6 (w:UInt64):Ko:=⟨13,3,-1,0,1,2,w⟩
def zb2 (w:UInt64):F4 43 [.u w] (.agg (F6 w).f) []:=by
 refine Hg.val rfl (E9 r_law24_pow (by kernel_rfl) (by simp) ?_);simp[zhr,F6,Ko.f]
def Fi:List Vr:=[⟨1,true,0⟩,⟨1,true,0⟩,⟨1,true,0⟩,⟨1,true,0⟩]
def zr {w:UInt64}(hw:1≤w.toNat∧w.toNat≤6):w=1∨w=2∨w=3∨w=4∨w=5∨w=6:=by
 have h:w.toNat=1∨w.toNat=2∨w.toNat=3∨w.toNat=4∨w.toNat=5∨w.toNat=6:=by omega
 rcases h with h|h|h|h|h|h
 ·exact .inl (Bn.1 h)
 ·exact .inr (.inl (Bn.1 h))
 ·exact .inr (.inr (.inl (Bn.1 h)))
 ·exact .inr (.inr (.inr (.inl (Bn.1 h))))
 ·exact .inr (.inr (.inr (.inr (.inl (Bn.1 h)))))
 ·exact .inr (.inr (.inr (.inr (.inr (Bn.1 h)))))
def pw1 {w:UInt64}(hw:1≤w.toNat∧w.toNat≤6):PwV Fi (F6 w) 3 0 1 2:=by
 have ho:Hu Fi (F6 w)=true:=by rcases zr hw with rfl|rfl|rfl|rfl|rfl|rfl<;>decide +kernel
 obtain⟨d,a,b,c,h⟩:=pwV (vs:=Fi) (o:=F6 w) rfl (by decide +kernel) ho;have f:=h.fd.1;have g:=h.fa.1;have j:=h.fb.1;have l:=h.fc.1;simp only[F6] at f g j l;have f1:d=3:=by omega
 have f2:a=0:=by omega
 have f3:b=1:=by omega
 have f4:c=2:=by omega
 subst f1 f2 f3 f4;exact h
def kg {i:Nat}(hi:i<4):gv Fi i=⟨1,true,0⟩:=by
 have h:i=0∨i=1∨i=2∨i=3:=by omega
 rcases h with rfl|rfl|rfl|rfl<;>rfl
def pl1 {w:UInt64}(hw:1≤w.toNat∧w.toNat≤6):PwL Fi (F6 w):=by
 refine⟨by simp[Fi],fun i hi=>by rw[kg (by simpa [Fi] using hi)],?_⟩;rw[zgu (pw1 hw)];have a:=S5 hw.2;have e:(F6 w).imm=w:=rfl;rw[kg (by omega),kg (by omega),e];simp only;omega
def zbo {w:UInt64}{a b n:List UInt64}(hw:1≤w.toNat∧w.toNat≤6)(ha:a.length≤1000)(hb:b.length≤1000)(hn:n.length≤1000)(ho:val n%2=1)(y:val n<2^(64*(0+1)))(O:val a<val n)(aE:val b<2^(64*(0+1))) :
  H6 48 [.i 1,.i 1,.u w,LU a,LU b,LU n] (.tup [LU [UInt64.ofNat (val a^val b%val n)],.bool true]):=by
 refine La.mk (by simp[LV.dat,dats,sy]) (E9 r_law24_raised (by kernel_rfl) (by simp) ?_);have hV:=pw1 hw;have hL:=pl1 hw;obtain⟨aF,_,_⟩:=xh hV;have aG:=v9 Fi (F6 w) (by simp[Fi]);have Q:=zfr Fi (Gs Fi (F6 w)) (by simp[Fi]);have d:=z71 Fi (F6 w) (Iu Fi (Gs Fi (F6 w))) (J7 Fi) ⟨Fi.length,0,Gs Fi (F6 w)⟩ ⟨(Fi.length:Int)+1,0,Gs Fi (F6 w)⟩ 0 (by simp[Fi]) (by rw[plB_len];simp[Fi]);have R:=U3 (deep:=0) hV hL (by omega);unfold we zi at d;rw[Ai R,Ai R] at d;have aH:Kn Fi (F6 w) (J7 Fi) ⟨Fi.length,0,Gs Fi (F6 w)⟩ ⟨(Fi.length:Int)+1,0,Gs Fi (F6 w)⟩=Gv Fi (F6 w):=rfl;rw[aH] at d;have aI:M1 Fi++[⟨Gs Fi (F6 w),2,false⟩,⟨Gs Fi (F6 w),2,true⟩]=Iu Fi (Gs Fi (F6 w)):=rfl;rw[aI] at Q;have aJ:=hL.w;have q:=fun X hX=>zx6 (deep:=0) hV hL (by rw[kg (by omega)];simp) (by rw[kg (by omega)]) (by omega) (X:=X) (Y:=X) hX hX
 have aK:∀i,i<4→(Fk (Iu Fi (Gs Fi (F6 w))) i).size=1:=fun i hi=>by rw[Y5 (by simpa [Fi] using hi),kg hi]
 have U:=zqs (vs:=Fi) (W:=Gs Fi (F6 w)) (by decide +kernel) ⟨aF,aJ⟩;have V:(Iu Fi (Gs Fi (F6 w))).length=6:=by rw[plB_len];rfl
 have aL:=ztk (p:=Gv Fi (F6 w)) (D:=0);have a0:Mb Fi 3=5:=rfl;have z:(Gv Fi (F6 w)).prog 0=(Gv Fi (F6 w)).code 0:=rfl;rw[z] at q;have K:(F6 w).f=[.i 13,.i 3,.i (-1),.i 0,.i 1,.i 2,.u w]:=rfl;generalize a1:Gs Fi (F6 w)=W at *;generalize a2:Iu Fi W=bs at *;generalize a3:((Gv Fi (F6 w)).code 0)=T at *;have m:Ii bs (J7 Fi) ⟨Fi.length,0,W⟩ ⟨(Fi.length:Int)+1,0,W⟩=[.lst (Ga bs) bs.length 3,.lst (Om (J7 Fi)) (J7 Fi).length 3,.i 4,.i 0,.i W,.i 5,.i 0,.i W]:=rfl;simp[zcq];refine Jo (ze4 1 1) (by simp[dats,LV.dat]) ?_;have hv:[(⟨1,true,0⟩:Vr),⟨1,true,0⟩,⟨1,true,0⟩,⟨1,true,0⟩]=Fi:=rfl;rw[hv];simp;refine E5 (zb2 w) (by simp) ?_;simp[K];rw[←K];refine E5 aG (bors_self _ (by simp[dats,LV.dat,Ll,K])) ?_;have g1:¬W<1:=by omega
 simp[g1];refine Jo Q (by simp[dats,LV.dat,Ll]) ?_;simp[m];refine E5 (zb2 w) (by simp) ?_;simp[K];rw[←K,←m];refine Jo d (by simp[dats,LV.dat,Ll,o7,K]) ?_;simp[m];refine Ye (a:=[.agg [.lst (Ga bs) bs.length 3,.lst (Om (J7 Fi)) (J7 Fi).length 3,.i 4,.i 0,.i W,.i 5,.i 0,.i W]]) (b:=[]) (p:=1) rfl ?_;refine zux (fill:=[3]) (bs:=bs) (fun b hb=>by have:=U b hb;omega) (by omega) (by simp) (fun X p Z st G' a4 aM aa hp aN _ ad=>?_) (fun e=>by rw[e] at V;simp at V);have af:X.length=6:=by omega
 have aO:G'[0]?=_:=(aa 0 (by simp)).trans (by simp;rfl);simp only[Ce,Ar,Bc] at hp aN;clear aa;simp;have r:∀j,j<3→val (([a,b,n]:List (List UInt64)).getD j [])<2^(64*(0+1)):=fun j M=>by
  have h:j=0∨j=1∨j=2:=by omega
  rcases h with rfl|rfl|rfl
  ·exact Nat.lt_trans O y
  ·exact aE
  ·exact y
 have A:∀j,j<3→(([a,b,n]:List (List UInt64)).getD j []).length≤1000:=fun j M=>by
  have h:j=0∨j=1∨j=2:=by omega
  rcases h with rfl|rfl|rfl
  ·exact ha
  ·exact hb
  ·exact hn
 have ag:p<G'.length:=(Aa.1 ad).1;refine Iw (fun ρ D G N=>∃(i B:Nat) (Y:List (List UInt64)),D=[]∧N+i=3∧lk ρ 14=.lst (Hq Fi) 4 3∧lk ρ 16=.ptr 0 0∧lk ρ 17=.lst (Gi T.flat) T.flat.length 8∧lk ρ 18=.i 0∧lk ρ 19=.dy p Z∧lk ρ 53=.dy G'.length 0∧lk ρ 54=.i 3∧lk ρ 55=.i i∧G.length=G'.length+1 ∧
   G[0]?=some (.cells (Ii bs (J7 Fi) ⟨Fi.length,0,W⟩ ⟨(Fi.length:Int)+1,0,W⟩) 1)∧G[p]?=some (.dyn (Y.map LU) 6 1 Z B)∧G[G'.length]?=some (.dyn (([a,b,n]:List (List UInt64)).map LU) 3 1 0 0)∧Y.length=6∧(∀j,j<bs.length→((Y.getD j []).length:Int)=(Fk bs j).size)∧∀j,j<i→j<3→Y.getD j []=Le (([a,b,n]:List (List UInt64)).getD j []) 1) (N:=3)
  ⟨0,st,X,rfl,rfl,by simp,by simp,by simp,by simp,by simp,by simp,by simp,by simp,by simp,(E6 (by omega)).trans aO,by rw[E6 ag,ad,af],Aw,af,aM,fun j h=>by omega⟩ ?_
 rintro N ρ D G ⟨i,B,Y,rfl,hN,ah,aj,ao,C,E,ap,H,I,aq,ar,aw,ax,J,ay,o⟩ Nx aP;by_cases g:i<3
 ·have g':(i:Int)<3:=by omega
  have hS:=r i g;have a5:=A i g;generalize az:([a,b,n]:List (List UInt64)).getD i []=S at *;have aQ:([LV.lst (a.map .u) a.length 1,.lst (b.map .u) b.length 1,.lst (n.map .u) n.length 1])[i]?=some (LU S):=by
   show (([a,b,n]:List (List UInt64)).map LU)[i]?=some (LU S);rw[Cc,Ah (by simpa using g),←az,Ae,Ah (by simpa using g)];rfl
  have aR:(Hq Fi)[i*3]?=some (.i 1):=by
   have h:=zj (Nq (l:=Fi) (n:=i) (by simp[Fi];omega));rw[kg (by omega)] at h;exact h
  have s:Kb S 1=0:=by
   have:=Xq (k:=0) hS (by omega);simpa using this
  simp[ah,ap,H,I,g,g',ax,Fu aQ,Fu aR,show i<4 by omega];refine⟨by omega,?_⟩;refine E5 (zn8 S 1 (by omega)) (by simp) ?_;have aS:=zs0 s;rw[s];generalize aT:Le S 1=F at *;have aU:i<6:=by omega
  have x:=zlv LU Y i F (by omega);simp only[LU] at x;have aV:i≤5:=by omega
  simp[E,I,aw,RU,aU,aV,J];refine⟨by omega,by omega,aP _ _ _ ⟨N - 1,by omega,i+1,B+1,Y.set i F,rfl,by omega,by simp[ah],by simp[aj],by simp[ao],by simp[C],by simp[E],by simp[ap],by simp[H],by simp,by simp[aq],?_,?_,?_,by simp[J],?_,?_⟩⟩
  ·rw[Ad (by omega)];exact ar
  ·rw[Ag (by omega)];rw[←x]
  ·rw[Ad (by omega)];exact ax
  ·intro j M;rw[S1 _ _ _ _ _ (by omega)];by_cases e:j=i
   ·rw[Ai e,e,aK i (by omega)];exact aS.1
   ·rw[Ab e];exact ay j M
  ·intro j M aW;rw[S1 _ _ _ _ _ (by omega)];by_cases e:j=i
   ·rw[Ai e,e,az,aT]
   ·rw[Ab e];exact o j (by omega) aW
 ·have gi:i=3:=by omega
  subst gi;have y0:=o 0 (by omega) (by omega);have y1:=o 1 (by omega) (by omega);have y2:=o 2 (by omega) (by omega);have fv:∀j,j<3→val (Le (([a,b,n]:List (List UInt64)).getD j []) 1)=val (([a,b,n]:List (List UInt64)).getD j []):=fun j M=>T8 (by have:=Xq (k:=0) (r j M) (by omega);simpa using this)
  have v0:val (Y.getD 0 [])=val a:=by rw[y0];exact fv 0 (by omega)
  have v1:val (Y.getD 1 [])=val b:=by rw[y1];exact fv 1 (by omega)
  have v2:val (Y.getD 2 [])=val n:=by rw[y2];exact fv 2 (by omega)
  obtain⟨sX,sY,r1,_,_,_,r5,r6,r7,_⟩:=q Y ⟨by omega,ay⟩;have aA:(Y.getD 2 []).getD 0 0%2=1:=by
   have h:=Ue (Y.getD 2 []);have h2:gf (Y.getD 2 [])=true:=by rw[h,v2,Nat.testBit_zero];exact B4 ho
   unfold gf at h2;exact C8 h2
  have hv:=r6 aA (by rw[v0,v2];exact O);rw[v0,v1,v2] at hv;rw[kg (by omega)] at r5;have a6:sX.bufs.length=6:=r1;have aX:sX.bufs.getD 3 []=[UInt64.ofNat (val a^val b%val n)]:=by
   have aY:val a^val b%val n<2^64:=Nat.lt_trans (Df _ (by omega)) y;refine val_inj_length (by rw[r5];rfl) ?_;rw[hv];simp[val,Be aY]
  have aB:=zgk (bs:=bs) (P:=.lst (Om (J7 Fi)) (J7 Fi).length 3) (W:=[.i 4,.i 0,.i W,.i 5,.i 0,.i W]) (L:=T.flat) (deep:=0) (by omega) (by omega) ⟨_,_,_,_,_,_,rfl⟩;simp[Ic] at aB;simp[aj,ao,C,H,I,ar,m];refine Jo aB (by simp[dats,LV.dat,Jf,xy,Jv]) ?_;simp[E];refine Ye (a:=[.agg (Fa 64 bs T.flat)]) (b:=[]) aw ?_;have aZ:LV.lst (Y.map LU) 6 1=LN Y:=by rw[LN,J]
  rw[aZ];refine Jo r7 (by simp[dats,LV.dat,Jv,Jf,Fa,sy]) ?_;have aC:3<sX.bufs.length:=by omega
  have aD:(3:Int)<sX.bufs.length:=by omega
  have h3:sX.bufs[3]=[UInt64.ofNat (val a^val b%val n)]:=by rw[←aX,Ae,Ah aC];rfl
  simp[C,zy6,aC,aD,h3]
def zeq:LC:=(.q [.z 0 (.move .F)] (.q [.z 6 (.w 45 [(.k 1),.k 5]),.m 5 6,.z 7 (.extract 0 (.t 5)),.z 8 (.extract 1 (.t 5)),.m 1 7,.m 2 8] (.q [.z 10 (.buildSl 1 1 [(.u 0)] [(0,1,.c (.u 3))]),.z 11 (.buildSl 1 1 [(.u 0)] [(0,1,.c (.u 4))]),.z 12 (.buildSl 1 1 [(.u 0)] [(0,1,.c (.u 7))]),.z 13 (.w 48 [(.k 1),.k 1,.c (.u 2),.t 10,.t 11,.t 12]),.m 9 13,.z 14 (.extract 0 (.t 9)),.z 15 (.extract 1 (.t 9)),.m 3 14,.m 4 15] (.q [.m 16 1,.z 17 (.bin .eql true 3 (.t 16) (.k 13)),.m 18 17,.my 19 18 2,.y 20 18 (.bin .eql true 3 (.t 19) (.k 1)),.z 21 (.pick (.t 18) (.t 20) .F),.m 22 21,.my 23 22 4,.z 24 (.pick (.t 22) (.t 23) .F),.m 25 24,.my 26 25 3,.y 27 25 (.buildSl 1 1 [(.u 0)] [(0,1,.c (.u 4))]),.y 28 25 (.w 32 [.t 26,.t 27]),.z 29 (.pick (.t 25) (.t 28) .F),.m 0 29] .ret))))
def r_law24_lives:yk Tryz.prog 40=some ⟨30,zeq.r,[.tmp 0]⟩:=by kernel_rfl
def zuj {w:UInt64}{a b n:List UInt64}{p q r sp h j:Nat}{G:Ev}{K:LV→Ev→Prop}(l:G[p]?=some (.dyn (a.map .u) a.length 1 0 sp))(m:G[q]?=some (.dyn (b.map .u) b.length 1 0 h))(o:G[r]?=some (.dyn (n.map .u) n.length 1 0 j))(s:p≠q)(y:p≠r)(qr:q≠r)
  (hw:1≤w.toNat∧w.toNat≤6) (z:a.length≤1000) (A:b.length≤1000) (B:n.length≤1000) (ho:val n%2=1) (d:val n<2^(64*(0+1))) (f:val a<val n) (g:val b<2^(64*(0+1)))
  (C:∀G',G'.length=G.length→(∀x,x≠p→x≠q→x≠r→G'[x]?=G[x]?)→K (.tup [LU [UInt64.ofNat (val a^val b%val n)],.bool true]) G'):F1 (.fn 48) [.i 1,.i 1,.u w,.dy p 0,.dy q 0,.dy r 0] G K:=by
 refine Ye (a:=[.i 1,.i 1,.u w]) (b:=[.dy q 0,.dy r 0]) l ?_;refine Ye (a:=[.i 1,.i 1,.u w,LU a]) (b:=[.dy r 0]) (by rw[Ad s];exact m) ?_;refine Ye (a:=[.i 1,.i 1,.u w,LU a,LU b]) (b:=[]) (by rw[Ad qr,Ad y];exact o) ?_;refine Jo (zbo hw z A B ho d f g) (by simp[LV.dat,dats,sy]) ?_;refine C _ (by simp) fun x D E F=>?_
 rw[Ad (Ne.symm F),Ad (Ne.symm E),Ad (Ne.symm D)]
def zkd {w:UInt64}{a n:List UInt64}{p r sp h:Nat}{G:Ev}{K:LV→Ev→Prop}(j:G[p]?=some (.dyn (a.map .u) a.length 1 0 sp))(l:G[r]?=some (.dyn (n.map .u) n.length 1 0 h))(m:p≠r)
  (hw:1≤w.toNat∧w.toNat≤6) (d:a.length≤1000) (o:n.length≤1000) (ho:val n%2=1) (f:val n<2^(64*(0+1))) (g:val a<val n)
  (q:∀G',G'.length=G.length→(∀x,x≠p→x≠r→G'[x]?=G[x]?)→K (.tup [LU [UInt64.ofNat (val a^0%val n)],.bool true]) G'):F1 (.fn 48) [.i 1,.i 1,.u w,.dy p 0,.nilSl,.dy r 0] G K:=by
 refine zf5 (args':=[.i 1,.i 1,.u w,.dy p 0,LU [],.dy r 0]) (fun c r d=>?_) ?_
 ·cases d with
  |cons s es=>cases es with
   |cons y es=>cases es with
    |cons z es=>cases es with
     |cons A es=>cases es with
      |cons B es=>exact .cons s (.cons y (.cons z (.cons A (.cons (Q7 B) es))))
 refine Ye (a:=[.i 1,.i 1,.u w]) (b:=[LU [],.dy r 0]) j ?_;refine Ye (a:=[.i 1,.i 1,.u w,LU a,LU []]) (b:=[]) (by rw[Ad m];exact l) ?_;refine Jo (zbo (b:=[]) hw d (by simp) o ho f g (by simp[val])) (by simp[LV.dat,dats,sy]) ?_;refine q _ (by simp) fun x C D=>?_
 rw[Ad (Ne.symm D),Ad (Ne.symm C)]
def law24_lives_ok:F4 40 [] (.bool true) []:=by
 refine Hg.val rfl (ztt r_law24_lives (by kernel_rfl) (by kernel_rfl) ⟨by kernel_rfl,by kernel_rfl⟩ rfl ?_);simp[zeq];refine E5 (z6k 1 5) (by simp) ?_;simp;refine zuj (a:=[3]) (b:=[4]) (n:=[7]) (p:=0) (q:=1) (r:=2) rfl rfl rfl (by omega) (by omega) (by omega) (by decide) (by simp) (by simp) (by simp) (by simp[val]) (by simp[val]) (by simp[val]) (by simp[val]) fun G' d f=>?_
 have e:val [3]^val [4]%val [7]=4:=by simp[val]
 rw[e];have hw:Je 1 5=13:=by decide
 have ho:Jn 1 5=1:=by decide
 simp[hw,ho];refine Ye (a:=[LU [4]]) (b:=[]) Aw ?_;refine E5 (z8m [4] [4] (by simp) (by simp)) (bors_self _ (by simp[LV.dat,dats])) ?_;simp
end Go.Proofs.YtodjkjimaheggaaGreat
end
