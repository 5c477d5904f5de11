/- The templates: see the main text. -/
import Derived.Test.YtgjbfhmmgeplmaaGreatTg2
import Derived.Test.YtgjbfhmmgeplmaaGreatTg0
import Derived.Test.YtgjbfhmmgeplmaaGreatTg1
set_option linter.defProp false
noncomputable section
namespace Go.Proofs.YtgjbfhmmgeplmaaGreat
open Go.Sv
set_option linter.unusedSimpArgs false
set_option maxRecDepth 10000
variable{g:Nat}
section
set_option linter.unusedVariables false
def oo:LC:=(.q [.x 3 0,.x 4 1,.K 6 0] (.q [.L 19 3 3,.w 20 9 19,.m 7 20] (.seq (.q [.m 21 7,.b 22 .neq 35 21 0] (.cond (.t 22) (.q [.m 23 7,.m 6 23] .ret) .skip)) (.seq (.q [.f 24 0 3,.l 25 24,.L 26 8 4,.W 27 53 25 26,.b 28 .neq 35 27 0,.m 29 28,.nf 30 29 2 4,.n 31 29 (.ixAddrArr 2 3 (.t 30) (.k 0)),.n 32 29 (.loadN 3 (.t 31)),.nf 33 29 2 4,.n 34 29 (.ixAddrArr 2 3 (.t 33) (.k 1)),.n 35 29 (.loadN 3 (.t 34)),.n 36 29 (.w 54 [.t 32,.t 35]),.p 37 29 36] (.cond (.t 37) (.q [.K 6 2] .ret) .skip)) (.q [.f 38 0 4,.l 39 38,.s 40 39,.z 41 (.mkSl 1 [(.bool false)] (.t 40) (.t 40)),.m 8 41] (.q [.L 42 3 3,.w 43 55 42,.m 9 43] (.seq (.q [.K 10 0] (.block 0 (.loop (.seq (.q [.m 44 10,.f 45 0 3,.l 46 45,.s 47 46,.c 48 .lss 3 44 47] (.cond (.t 48) .skip (.exit 0))) (.seq (.block 1 (.seq (.draw [(.f 51 1 4,[]),(.l 52 51,[]),(.m 53 10,[]),(.I 54 3 52 53,[]),(.L 55 3 54,[]),(.f 56 0 3,[]),(.l 57 56,[]),(.m 58 10,[]),(.I 59 3 57 58,[]),(.L 60 3 59,[]),(.z 11 (.alloc [(.i 0),(.i 0),(.i 0)]),[(.L 60 3 59,false),(.l 57 56,false),(.L 55 3 54,false),(.l 52 51,false)]),(.z 12 (.alloc [(.i 0),(.bool false),(.i 0)]),[(.z 11 (.alloc [(.i 0),(.i 0),(.i 0)]),true),(.L 60 3 59,false),(.l 57 56,false),(.L 55 3 54,false),(.l 52 51,false)]),(.S 3 11 55,[(.L 60 3 59,false),(.l 57 56,false)]),(.S 3 12 60,[])]) (.q [.f 61 0 4,.l 62 61,.f 63 0 11,.l 64 63,.I 65 3 62 64,.L 66 3 65,.z 13 (.alloc [(.i 0),(.i 0),(.bool false)]),.S 3 13 66] (.q [.K 14 1] (.seq (.q [.f 67 2 12,.l 68 67,.b 69 .eql 3 68 3] (.cond (.t 69) (.ops [.K 14 2]) .skip)) (.seq (.q [.f 70 2 12,.l 71 70,.b 72 .gtr 3 71 0,.m 73 72,.my 74 73 8,.yf 75 73 0 11,.yl 76 73 75,.y 77 73 (.ixAddr 1 (.t 74) (.t 76)),.yl 78 73 77,.my 79 73 78,.nf 80 79 1 13,.nl 81 79 80,.mn 82 79 14,.n 83 79 (.bin .neq false 3 (.t 81) (.t 82)),.y 84 73 (.pick (.t 79) .T (.t 83)),.my 85 73 84,.nf 86 85 1 11,.nl 87 85 86,.nb 88 85 .neq 3 87 0,.y 89 73 (.pick (.t 85) .T (.t 88)),.my 90 73 89,.nf 91 90 0 13,.nl 92 90 91,.nf 93 90 2 11,.nl 94 90 93,.n 95 90 (.bin .neq false 3 (.t 92) (.t 94)),.y 96 73 (.pick (.t 90) .T (.t 95)),.my 97 73 96,.nf 98 97 2 13,.nl 99 97 98,.nf 100 97 1 12,.nl 101 97 100,.n 102 97 (.bin .neq false 4 (.t 99) (.t 101)),.y 103 73 (.pick (.t 97) .T (.t 102)),.q 104 73 103] (.cond (.t 104) (.q [.K 6 2] .ret) .skip)) (.seq (.draw [(.m 105 8,[]),(.f 106 0 11,[]),(.l 107 106,[]),(.m 108 8,[]),(.f 109 0 11,[]),(.l 110 109,[]),(.I 111 1 108 110,[]),(.l 112 111,[]),(.m 113 112,[]),(.nf 114 113 2 12,[]),(.nl 115 113 114,[]),(.nb 116 113 .gtr 3 115 0,[]),(.p 117 113 116,[]),(.I 118 1 105 107,[]),(.S 1 118 117,[])]) (.seq (.q [.L 119 3 11,.f 120 2 4,.z 121 (.ixAddrArr 2 3 (.t 120) (.k 0)),.L 122 3 121,.W 123 54 119 122,.m 124 123,.n 125 124 (.loadN 3 (.t 11)),.nf 126 124 2 4,.n 127 124 (.ixAddrArr 2 3 (.t 126) (.k 1)),.n 128 124 (.loadN 3 (.t 127)),.n 129 124 (.w 54 [.t 125,.t 128]),.p 130 124 129] (.cond (.t 130) (.q [.K 6 2] .ret) .skip)) (.q [.K 15 0] (.block 2 (.loop (.seq (.q [.m 131 15,.m 132 10,.c 133 .lss 3 131 132] (.cond (.t 133) .skip (.exit 2))) (.seq (.block 3 (.seq (.draw [(.L 136 3 11,[]),(.f 137 1 4,[]),(.l 138 137,[]),(.m 139 15,[]),(.I 140 3 138 139,[]),(.L 141 3 140,[]),(.W 142 54 136 141,[]),(.m 143 142,[]),(.my 144 143 9,[]),(.my 145 143 10,[]),(.y 146 143 (.ixAddr 2 (.t 144) (.t 145)),[]),(.y 147 143 (.ixAddrArr 2 1 (.t 146) (.k 0)),[]),(.yl 148 143 147,[]),(.y 149 143 (.bin .geq true 3 (.t 148) (.k 0)),[]),(.q 150 143 149,[]),(.m 151 150,[]),(.my 152 151 9,[]),(.my 153 151 15,[]),(.y 154 151 (.ixAddr 2 (.t 152) (.t 153)),[]),(.y 155 151 (.ixAddrArr 2 1 (.t 154) (.k 0)),[]),(.yl 156 151 155,[]),(.y 157 151 (.bin .geq true 3 (.t 156) (.k 0)),[]),(.q 158 151 157,[]),(.m 159 158,[]),(.my 160 159 9,[]),(.my 161 159 10,[]),(.y 162 159 (.ixAddr 2 (.t 160) (.t 161)),[]),(.y 163 159 (.ixAddrArr 2 1 (.t 162) (.k 0)),[]),(.yl 164 159 163,[]),(.my 165 159 9,[]),(.my 166 159 15,[]),(.y 167 159 (.ixAddr 2 (.t 165) (.t 166)),[]),(.y 168 159 (.ixAddrArr 2 1 (.t 167) (.k 1)),[]),(.yl 169 159 168,[]),(.y 170 159 (.bin .leq false 3 (.t 164) (.t 169)),[]),(.q 171 159 170,[]),(.m 172 171,[]),(.my 173 172 9,[]),(.my 174 172 15,[]),(.y 175 172 (.ixAddr 2 (.t 173) (.t 174)),[]),(.y 176 172 (.ixAddrArr 2 1 (.t 175) (.k 0)),[]),(.yl 177 172 176,[]),(.my 178 172 9,[]),(.my 179 172 10,[]),(.y 180 172 (.ixAddr 2 (.t 178) (.t 179)),[]),(.y 181 172 (.ixAddrArr 2 1 (.t 180) (.k 1)),[]),(.yl 182 172 181,[]),(.y 183 172 (.bin .leq false 3 (.t 177) (.t 182)),[]),(.q 184 172 183,[])]) (.cond (.t 184) (.q [.K 6 2] .ret) .skip))) (.ops [.m 134 15,.b 135 .add 3 134 1,.m 15 135])))))))))))))) (.ops [.m 49 10,.b 50 .add 3 49 1,.m 10 50])))))) (.seq (.q [.K 16 0] (.block 4 (.loop (.seq (.q [.m 185 16,.f 186 0 4,.l 187 186,.s 188 187,.c 189 .lss 3 185 188] (.cond (.t 189) .skip (.exit 4))) (.seq (.block 5 (.q [.m 192 8,.m 193 16,.I 194 1 192 193,.l 195 194,.z 196 (.un .not (.t 195)),.m 197 196,.yf 198 197 0 4,.yl 199 197 198,.my 200 197 16,.y 201 197 (.ixAddr 3 (.t 199) (.t 200)),.yf 202 197 1 201,.yl 203 197 202,.y 204 197 (.bin .neq true 3 (.t 203) (.k 3)),.q 205 197 204] (.cond (.t 205) (.q [.K 6 2] .ret) .skip))) (.ops [.m 190 16,.b 191 .add 3 190 1,.m 16 191])))))) (.seq (.q [.K 17 0] (.block 6 (.loop (.seq (.q [.m 206 17,.f 207 1 3,.l 208 207,.s 209 208,.c 210 .lss 3 206 209] (.cond (.t 210) .skip (.exit 6))) (.seq (.block 7 (.q [.K 18 1] (.seq (.seq (.draw [(.f 213 0 3,[]),(.l 214 213,[]),(.f 215 1 3,[]),(.l 216 215,[]),(.m 217 17,[]),(.I 218 7 216 217,[]),(.L 219 7 218,[]),(.W 220 11 214 219,[])]) (.cond (.t 220) (.ops [.K 18 0]) .skip)) (.seq (.draw [(.f 221 1 3,[]),(.l 222 221,[]),(.m 223 17,[]),(.I 224 7 222 223,[]),(.f 225 1 224,[]),(.l 226 225,[]),(.b 227 .geq 3 226 0,[]),(.m 228 227,[]),(.my 229 228 2,[]),(.my 230 228 17,[]),(.y 231 228 (.ixAddr 1 (.t 229) (.t 230)),[]),(.yl 232 228 231,[]),(.my 233 228 18,[]),(.yf 234 228 2 4,[]),(.y 235 228 (.ixAddrArr 2 3 (.t 234) (.t 233)),[]),(.yf 236 228 2 235,[]),(.yl 237 228 236,[]),(.y 238 228 (.bin .gtr false 3 (.t 232) (.t 237)),[]),(.q 239 228 238,[])]) (.cond (.t 239) (.q [.K 6 2] .ret) .skip))))) (.ops [.m 211 17,.b 212 .add 3 211 1,.m 17 212])))))) (.q [.K 6 0] .ret))))))))))
def r_ref25_Check:Mt Tryz.prog 12=some ⟨240,oo.r,[.tmp 6]⟩:=Aa
def Vo:List Bool→LC→LC
 |[],c=>c
 |b::g,.seq x y=>Vo g (if b=true then y else x)
 |_::g,.block _ c=>Vo g c
 |_::g,.loop c=>Vo g c
 |_,c=>c
def Vu:List Bool→LC→LC→LC
 |[],_,t=>t
 |true::g,.seq x y,t=>.seq x (Vu g y t)
 |false::g,.seq x y,t=>.seq (Vu g x t) y
 |_::g,.block k c,t=>.block k (Vu g c t)
 |_::g,.loop c,t=>.loop (Vu g c t)
 |_,c,_=>c
def Xj:List Bool:=[true,true,true,true,true,true,false,true,true,true,true,false,true,true,true,true,true,true,true]
section made
variable {vs : List Vr} {os rs : List Ko} {bs : List Bf} {ps : List Pc} {w0 w1 : Pc}
def Wz{gL:O7}{p:List Sp}{L:List Int}{gE:Mh}(E:ApB vs p ps w0 w1){i q st:Nat}(V:i<ps.length)(gG:ps.length≤1000000)(gH:p.length=ps.length)(F:gE[1]?=some (.cells (Mr bs ps w0 w1) 0))(G:gE[q]?=some (.cells (M3 ps i).f st))
  {Q:Ml} (H:lk Q 2=.lst (L.map .i) L.length 1) (I:lk Q 3=.ptr 0 0) (C:lk Q 4=.ptr 1 0) (K:lk Q 8=.dy 2 0) (D:lk Q 9=.lst (Mu p) p.length 2) (g:lk Q 10=.i i) (j:lk Q 11=.ptr q 0)
  (hQ:∀z,lk z 2=.lst (L.map .i) L.length 1→lk z 3=.ptr 0 0→lk z 4=.ptr 1 0→lk z 8=.dy 2 0→lk z 9=.lst (Mu p) p.length 2→lk z 10=.i i→gL .normal z [] gE) :
  wp Tryz.prog 12 240 none (Vo Xj oo) Q [] gE gL:=by
 have B:Mr bs ps w0 w1=[.lst (N0 bs) bs.length 3,.lst (N5 ps) ps.length 3,.i w0.buf,.i w0.at_,.i w0.size,.i w1.buf,.i w1.at_,.i w1.size]:=rfl;have hf:∀x:Pc,x.f=[.i x.buf,.i x.at_,.i x.size]:=λx=>rfl
 have M:(M3 ps i).f.length=3:=rfl;have O:(M3 ps i).f.take 3=(M3 ps i).f:=rfl;have c0:=z4n (E.bd i V) E.b0;have c1:=z4n (E.bd i V) E.b1;simp only[E.n0 i V,decide_false]at c0;simp only[E.n1 i V,decide_false]at c1;simp[oo,Vo,Xj,C,j,F,G,B,M,O];rw[←hf w0];refine Mv c0 (bors_self _ rfl) ?_;simp[C,j,F,G,B,M,O];rw[←hf w1];refine Mv c1 (bors_self _ rfl) ?_;simp;refine M2 (λQ gM G' N=>∃(n:Nat),gM=[]∧G'=gE∧N+n=i∧lk Q 2=.lst (L.map .i) L.length 1∧lk Q 3=.ptr 0 0∧lk Q 4=.ptr 1 0∧lk Q 8=.dy 2 0∧lk Q 9=.lst (Mu p) p.length 2∧lk Q 10=.i i∧lk Q 11=.ptr q 0∧lk Q 15=.i n) (N:=i)
  ⟨0,rfl,rfl,J,At,Ax,Au,A8,Ai,A2,As,U⟩ ?_
 clear H I C K D g j;rintro N Q gM G' ⟨n,rfl,rfl,hN,H,I,C,K,D,g,j,A⟩ Nx gg;by_cases gF:n<i
 case neg =>
  simp[g,A,gF];exact hQ _ At Ax Au A8 Ai A2
 have X:n<ps.length:=J
 have p3:=dj (Wo X);have Y:=Vl X;have next:∀z,lk z 2=.lst (L.map .i) L.length 1→lk z 3=.ptr 0 0→lk z 4=.ptr 1 0→lk z 8=.dy 2 0→lk z 9=.lst (Mu p) p.length 2→lk z 10=.i i→lk z 11=.ptr q 0→lk z 15=.i ((n:Int)+1)→Nx z [] G':=λz a2 a3 a4 a8 a9 gA gB gC =>
  gg _ _ _ ⟨N-1,J,n+1,rfl,rfl,J,a2,a3,a4,a8,a9,gA,gB,by rw[gC];simp⟩
 have cn:=z4n (E.bd i V) (E.bd n X);have R:=E.np i n gF V;have s0:=Yu (Uh (l:=p) (n:=i) J);have s1:=X1 (Uh (l:=p) (n:=i) J);have s2:=Yu (Uh (l:=p) (n:=n) J);have s3:=X1 (Uh (l:=p) (n:=n) J);have gI:=zb (l:=p) (i:=i) J;have gK:=zb (l:=p) (i:=n) J;have li:i<p.length:=J
 have ln:n<p.length:=J
 have P:i*2<(Mu p).length:=J
 have gD:i*2+1<(Mu p).length:=J
 have S:n*2<(Mu p).length:=J
 have Z:n*2+1<(Mu p).length:=J
 by_cases T:Te (M3 ps i) (M3 ps n)
 case neg =>
  simp only[T,decide_false]at cn;simp[C,g,j,A,gF,F,G,B,M,O,X,p3,Y];refine Mv cn (bors_self _ rfl) ?_;simp[A];exact⟨J,next _ At Ax Au A8 Ai A2 As U⟩
 simp only[T,decide_true]at cn;have R:=R T;unfold Vq Tj at R;generalize gs p i=a at *;generalize gs p n=b at *;simp[C,g,j,A,gF,F,G,B,M,O,X,p3,Y];refine Mv cn (bors_self _ rfl) ?_;by_cases t1:0≤a.1
 case neg =>
  simp[D,g,A,li,P,Mi s0,t1];exact⟨J,next _ At Ax Au A8 Ai A2 As U⟩
 by_cases t2:0≤b.1
 case neg =>
  simp[D,g,A,li,ln,P,S,Mi s0,Mi s2,t1,t2];exact⟨J,next _ At Ax Au A8 Ai A2 As U⟩
 by_cases t3:a.1≤b.2
 case neg =>
  simp[D,g,A,li,ln,P,S,Z,Mi s0,Mi s2,Mi s3,t1,t2,t3];exact⟨J,next _ At Ax Au A8 Ai A2 As U⟩
 have t4:¬b.1≤a.2:=J
 simp[D,g,A,li,ln,P,gD,S,Z,Mi s0,Mi s1,Mi s2,Mi s3,t1,t2,t3,t4];exact⟨J,next _ At Ax Au A8 Ai A2 As U⟩
def Xr{i:Nat}(h:Rj vs bs ps w0 w1=true)(g:i<vs.length):∃b:Nat,(M3 ps i).buf=b∧b<bs.length:=by
 unfold Rj at h;simp only[Hh,Ht,I7,I9]at h;have:=h.2.2.2.2.1 i g;unfold Sc at this;simp only[Hh]at this;have:=this.1;unfold Qu at this;simp only[Hh,Ht]at this;exact⟨(M3 ps i).buf.toNat,J,J⟩
def zhk{f:Fr Ko}(jC:vs.length≤1000000)(hc:Mw vs os rs=true)(jV:(Pj vs os).2=true)(h:MadeF vs os bs ps w0 w1 g f)(gP:∀v∈vs,0≤v.mode)(L:List Int)(hL:L=os.map (Px vs)) :
  Mo 12 [.agg (Mg vs os rs),.agg (Mr bs ps w0 w1),.lst (L.map .i) L.length 1] (.i 0) []:=by
 have jD:dats (Mg vs os rs)=true:=Ao
 have jE:(Mg vs os rs).length=3:=rfl;have jF:(Mg vs os rs).take 3=Mg vs os rs:=rfl;have jG:(Mr bs ps w0 w1).length=8:=rfl;have jH:(Mr bs ps w0 w1).take 8=Mr bs ps w0 w1:=rfl;have p:Mr bs ps w0 w1=[.lst (N0 bs) bs.length 3,.lst (N5 ps) ps.length 3,.i w0.buf,.i w0.at_,.i w0.size,.i w1.buf,.i w1.at_,.i w1.size]:=rfl;have jX:[LV.lst (Mz vs) vs.length 3,LV.lst (M6 os) os.length 7,LV.lst (M6 rs) rs.length 7]=Mg vs os rs:=rfl;have hf:∀x:Pc,[LV.i x.buf,.i x.at_,.i x.size]=x.f:=λx=>rfl
 have pz:os.length≤4096:=by
  have h:=hc;unfold Mw at h;simp only[Hh,Ht]at h;exact h.2.1
 have pA:bs.length≤1000002:=by have:=h.bl;have:=h.bb;omega
 have pB:L.length=os.length:=by rw[hL];simp
 obtain⟨pC,hT⟩:∃pC,pC=Vo Xj oo:=⟨_,rfl⟩;have K:=@Wz vs bs ps w0 w1;rw[←hT]at K;have T:oo=Vu Xj oo pC:=by rw[hT];rfl
 refine Ni.val rfl (Mq r_ref25_Check Aa U ?_);rw[T];clear T hT;simp[oo,Vu,Xj,jE,jF,jG,jH];refine Mv (z5w vs os rs J) (bors_self _ (by simp[dats,LV.dat,jD])) ?_;simp[Nr,hc,jE,jF,jG,jH,Mg];refine Mv (zhw vs bs ps w0 w1 jC) (bors_self _ (by simp[dats,LV.dat,On,bn])) ?_;simp[Uf,h.plan,p];have c0:=z4n h.apart.b0 h.apart.b1;simp only[h.apart.nw,decide_false]at c0;refine Mv c0 (bors_self _ rfl) ?_;simp[p];refine⟨J,?_⟩;rw[jX];refine R8 (zk5 J hc h.wf h.flat) (by simp[dats,LV.dat,jD]) ?_;have V:(Qs os (f.tops 0) 0 vs).length=ps.length:=by rw[zia,h.pl]
 have gQ:=h.apart;generalize Qs os (f.tops 0) 0 vs=ss at *;simp;have jI:∀n,M7 [LV.bool false] n=(List.replicate n false).map .bool:=by
  intro n
  induction n with
  |zero=>rfl
  |succ n ih=>rw[M7,ih,Jo];rfl
 rw[jI];refine M2 (λρ jT gC N=>∃(i:Nat) (m:List Bool) (st:Nat),jT=[]∧N+i=vs.length∧lk ρ 2=.lst (L.map .i) L.length 1∧lk ρ 3=.ptr 0 0∧lk ρ 4=.ptr 1 0∧lk ρ 8=.dy 2 0∧lk ρ 9=.lst (Mu ss) ss.length 2∧lk ρ 10=.i i∧2<gC.length∧gC[0]?=some (.cells (Mg vs os rs) 0)∧gC[1]?=some (.cells (Mr bs ps w0 w1) 0)∧gC[2]?=some (.dyn (m.map .bool) bs.length 1 0 st) ∧
   m.length=bs.length∧∀O,O<bs.length→m[O]?=some (decide (O<i∧O<g)))
  (N:=vs.length) ⟨0,List.replicate bs.length false,0,rfl,J,U,U,U,U,U,U,U,Bv,Ae,U,U,λO hj=>by simp[hj]⟩ ?_
 rintro N ρ jT gC ⟨i,m,st,rfl,hN,E,A,B,M,h9,F,jY,P,Q,g2,gR,hm⟩ Nx H;have jK:0<gC.length:=J
 have gL:1<gC.length:=J
 by_cases G:i<vs.length
 ·have gp:i<ps.length:=by rw[h.pl];exact G
  obtain⟨z,gS,R⟩:=Xr h.plan G;have v3:=U3 (P8 G);have gT:=S2 G;have p3:=dj (Wo gp);have gV:=Vl gp;have b3:=qo (Qp R);have gD:=Uk R;have jL:=h.mode i G;have X:=Pf (f:=LV.bool) (hm z R);have gZ:(gv vs i).f=[.i (gv vs i).limbs,.bool (gv vs i).sec,.i (gv vs i).mode]:=rfl;have jZ:(M3 ps i).f=[.i (M3 ps i).buf,.i (M3 ps i).at_,.i (M3 ps i).size]:=rfl;have j3:(My bs z).f=[.i (My bs z).size,.i (My bs z).kind,.bool (My bs z).sec]:=rfl;have gE:∀x,(gC++x)[0]?=some (.cells (Mg vs os rs) 0):=λx=>by rw[Mn jK];exact P
  have Y:∀x,(gC++x)[1]?=some (.cells (Mr bs ps w0 w1) 0):=λx=>by rw[Mn gL];exact Q
  have g8:∀x,(gC++x)[2]?=some (.dyn (m.map .bool) bs.length 1 0 st):=λx=>by rw[Mn jY];exact g2
  have g9 : ∀jS (h : 0<(gC ++ jS).length), (gC ++ jS)[0]'h = .cells (Mg vs os rs) 0 := λjS h => by rw [Mf jK];exact (Hf.1 P).2
  have jg : ∀jS (h : 1<(gC ++ jS).length), (gC ++ jS)[1]'h = .cells (Mr bs ps w0 w1) 0 := λjS h => by rw [Mf gL];exact (Hf.1 Q).2
  have jp:∀(C:Ml) (jS:List LObj) (m':List Bool) (jz:Nat),m'.length=bs.length→(∀O,O<bs.length→m'[O]?=some (decide (O<i+1∧O<g)))→lk C 2=.lst (L.map .i) L.length 1→lk C 3=.ptr 0 0→lk C 4=.ptr 1 0→lk C 8=.dy 2 0→lk C 9=.lst (Mu ss) ss.length 2→lk C 10=.i ((i:Int)+1)→Nx C [] ((gC++jS).set 2 (.dyn (m'.map .bool) bs.length 1 0 jz)):=by
   intro C jS m' jz e1 e2 Z a3 a4 a8 a9 I;refine H _ _ _ ⟨N-1,J,i+1,m',jz,rfl,J,Z,a3,a4,a8,a9,by rw[I];simp,Ab,?_,?_,?_,e1,e2⟩
   ·rw[Hg J];exact gE _
   ·rw[Hg J];exact Y _
   ·rw[Hi Ab]
  have gg:ps.length≤1000000:=by rw[h.pl];exact jC
  have gq:∀(x:List LObj) (y:LObj),(∃pG,x=.cells (M3 ps i).f 1::pG)→((gC++x).set 2 y)[gC.length]?=some (.cells (M3 ps i).f 1):=by
   rintro x y ⟨pG,rfl⟩;rw[Hg J,H5 (Hm _)];simp
  have jA:∀(x:List LObj) (y:LObj),((gC++x).set 2 y)[1]?=some (.cells (Mr bs ps w0 w1) 0):=λx y=>by rw[Hg J];exact Y _
  by_cases jM:i<g
  ·have jN:=h.par i jM;have gM:=h.parb i jM;have j4:z=i:=by rw[jN]at gS;simp at gS;omega
   subst j4;have m0:0<(gv vs z).mode:=by
    have:=gP _ (bx G);have:¬(gv vs z).mode=0:=λe=>by have:=jL.1 e;omega
    omega
   rw[(U:decide (z<z∧z<g)=false)]at X;have D:(M3 ps z).f=[.i (z:Int),.i 0,.i (gv vs z).limbs]:=by rw[jN];rfl
   have rx:(gC++[LObj.cells [.i (z:Int),.i 0,.i (gv vs z).limbs] 1])[gC.length]?=some (.cells [.i (z:Int),.i 0,.i (gv vs z).limbs] 1):=U
   have gO:∀O,O<bs.length→(m.set z true)[O]?=some (decide (O<z+1∧O<g)):=λO hj=>by
    rw[Ks];by_cases e:z=O
    ·subst e;rw[Hs rfl,Hs J];simp;omega
    ·rw[Hq e,hm O hj];exact congrArg some (J6.2 J)
   by_cases m3:(gv vs z).mode=3
   ·have gA:(My bs z).f=[.i (gv vs z).limbs,.i 2,.bool (gv vs z).sec]:=by rw[gM];simp[Pt,Bf.f,m3]
    simp[A,B,M,h9,F,P,Q,g2,Mg,p,G,gp,v3,gT,p3,gV,D,gZ,↓gE,↓Y,↓g8,m3,m0,R,b3,gD,gA,Mi X,Q0,g9,jg];rw[ks LV.bool m z true J];refine⟨J,K (L:=L) gQ gp gg V (jA _ _) (gq _ _ ⟨_,by rw[D]⟩) Av Af Ad A0 Ep Ah U λC Z a3 a4 a8 a9 I=>?_⟩;simp[-List.map_set,I];exact⟨J,jp _ _ (m.set z true) _ (by simpa using gR) gO A6 (by simp[a3]) (by simp[a4]) (by simp[a8]) (by simp[a9]) U⟩
   ·have gA:(My bs z).f=[.i (gv vs z).limbs,.i 1,.bool (gv vs z).sec]:=by rw[gM];simp[Pt,Bf.f,m3]
    simp[A,B,M,h9,F,P,Q,g2,Mg,p,G,gp,v3,gT,p3,gV,D,gZ,↓gE,↓Y,↓g8,m3,m0,R,b3,gD,gA,Mi X,Q0,g9,jg];rw[ks LV.bool m z true J];refine⟨J,K (L:=L) gQ gp gg V (jA _ _) (gq _ _ ⟨_,by rw[D]⟩) Av Af Ad A0 Ep Ah U λC Z a3 a4 a8 a9 I=>?_⟩;simp[-List.map_set,I];exact⟨J,jp _ _ (m.set z true) _ (by simpa using gR) gO A6 (by simp[a3]) (by simp[a4]) (by simp[a8]) (by simp[a9]) U⟩
  ·have m0:(gv vs i).mode=0:=jL.2 J;have pD:=h.var i J G;rw[(Ab:decide (z<i∧z<g)=false)]at X;have D:(M3 ps i).f=[.i (z:Int),.i (M3 ps i).at_,.i (M3 ps i).size]:=by rw[jZ,gS]
   simp[A,B,M,h9,F,P,Q,g2,Mg,p,G,gp,v3,gT,p3,gV,D,gZ,↓gE,↓Y,↓g8,m0,R,b3,gD,j3,Mi X,Q0,g9,jg];rw[ks LV.bool m z false J];refine⟨J,K (L:=L) gQ gp gg V (jA _ _) (gq _ _ ⟨_,by rw[D]⟩) Av Af Ad A0 Ep Ah U λC Z a3 a4 a8 a9 I=>?_⟩;simp[-List.map_set,I];refine⟨J,jp _ _ (m.set z false) _ (by simpa using gR) (λO hj=>?_) A6 (by simp[a3]) (by simp[a4]) (by simp[a8]) (by simp[a9]) U⟩;rw[Ks];by_cases e:z=O
   ·subst e;rw[Hs rfl,Hs J];simp;omega
   ·rw[Hq e,hm O hj];exact congrArg some (J6.2 J)
 have j5:i=vs.length:=J
 subst j5;simp[A,B,F,P,Q,Mg,p];clear H;have pE:=h.bb;have pp:=h.bl;have j6:∀O,O<bs.length→m[O]?=some (decide (O<g)):=λO hj=>by rw[hm O hj];exact congrArg some (J6.2 J)
 clear hm;refine M2 (λρ jT G' N=>∃(i:Nat),jT=[]∧G'=gC∧N+i=bs.length∧lk ρ 2=.lst (L.map .i) L.length 1∧lk ρ 3=.ptr 0 0∧lk ρ 4=.ptr 1 0∧lk ρ 8=.dy 2 0∧lk ρ 16=.i i)
  (N:=bs.length) ⟨0,rfl,rfl,J,Av,Af,Ad,A0,U⟩ ?_
 clear E A B M h9 F hN G;rintro N ρ jT G' ⟨i,rfl,rfl,hN,E,A,B,M,gF⟩ Nx H;by_cases G:i<bs.length
 ·have b3:=Sy Bf.f_len (Qp G) (j:=1) J;have jO:(N0 bs)[i*3+1]?=some (.i (My bs i).kind):=by simpa [N0,Bf.f] using b3
  have gD:=Uk G;have jP:i*3+1<(N0 bs).length:=J
  have gG:=Pf (f:=LV.bool) (j6 i G);have nx:∀C,lk C 2=.lst (L.map .i) L.length 1→lk C 3=.ptr 0 0→lk C 4=.ptr 1 0→lk C 8=.dy 2 0→lk C 16=.i ((i:Int)+1)→Nx C [] G':=λC Z a3 a4 a8 j7 =>
   H _ _ _ ⟨N-1,J,i+1,rfl,rfl,J,Z,a3,a4,a8,by rw[j7];simp⟩
  by_cases hb:i<g
  ·rw[(C6:decide (i<g)=true)]at gG;simp[A,B,M,gF,G,Q,g2,p,Mi gG];exact⟨J,nx _ Av Af Ad A0 U⟩
  ·have hk:=h.tmp i J G;rw[hk]at jO;rw[(C6:decide (i<g)=false)]at gG;simp[A,B,M,gF,G,Q,g2,p,Mi gG,Mi jO,jP];exact⟨J,nx _ Av Af Ad A0 U⟩
 simp[A,B,gF,G,P,Q,Mg,p];clear H G;refine M2 (λρ jT G2 N=>∃(i:Nat),jT=[]∧G2=G'∧N+i=os.length∧lk ρ 2=.lst (L.map .i) L.length 1∧lk ρ 3=.ptr 0 0∧lk ρ 4=.ptr 1 0∧lk ρ 17=.i i)
  (N:=os.length) ⟨0,rfl,rfl,J,Av,Af,Ad,U⟩ ?_
 clear E A B M gF hN;rintro N ρ jT G2 ⟨i,rfl,rfl,hN,E,A,B,S⟩ Nx H;by_cases G:i<os.length
 ·have q7:=Wt (Rl G);have j8:=Wf G;have j9:go os i∈os:=Ic.2 ⟨i,Rl G⟩;have qd:=Sy Ko.f_len (Rl G) (j:=1) J;have gH:(M6 os)[i*7+1]?=some (.i (go os i).d):=by simpa [M6,Ko.f] using qd
  have gI:i*7+1<(M6 os).length:=J
  have pg:L[i]?=some (Px vs (go os i)):=by rw[hL,Jp,Rl G];rfl
  have jQ:=Pf (f:=LV.i) pg;have jR:i<L.length:=J
  have jB:(go os i).f=[.i (go os i).kind,.i (go os i).d,.i (go os i).e,.i (go os i).a,.i (go os i).b,.i (go os i).c,.u (go os i).imm]:=rfl;have nx:∀C,lk C 2=.lst (L.map .i) L.length 1→lk C 3=.ptr 0 0→lk C 4=.ptr 1 0→lk C 17=.i ((i:Int)+1)→Nx C [] G2:=λC Z a3 a4 pj =>
   H _ _ _ ⟨N-1,J,i+1,rfl,rfl,J,Z,a3,a4,by rw[pj];simp⟩
  generalize go os i=o at *;simp[A,S,G,P,q7,j8,jB,Mg];rw[←jB];refine Mv (zap vs o) (bors_self _ (by simp[dats,LV.dat,On,jB])) ?_;by_cases hd:0≤o.d
  ·obtain⟨pF,gK⟩:=zf7 (Px vs) (λo=>Ob vs o.d) os Uu jV o j9 hd;cases hp:Ob vs o.d with
   |true =>
    rw[hp]at gK;have gB:¬w0.size<Px vs o:=by rw[h.w0s];exact Int.not_lt.2 gK
    simp[E,A,B,S,G,P,Q,Mg,p,Mi gH,gI,hd,jR,Mi jQ,gB];exact⟨J,nx _ Av Af Ad U⟩
   |false =>
    rw[hp]at gK;have gB:¬w1.size<Px vs o:=by rw[h.w1s];exact Int.not_lt.2 gK
    simp[E,A,B,S,G,P,Q,Mg,p,Mi gH,gI,hd,jR,Mi jQ,gB];exact⟨J,nx _ Av Af Ad U⟩
  ·cases hp:Ob vs o.d with
   |true =>
    simp[E,A,B,S,G,P,Q,Mg,p,Mi gH,gI,hd];exact⟨J,nx _ Av Af Ad U⟩
   |false =>
    simp[E,A,B,S,G,P,Q,Mg,p,Mi gH,gI,hd];exact⟨J,nx _ Av Af Ad U⟩
 simp[A,S,G,P,Mg]
end made
end
section
set_option linter.unusedVariables false
def zdh:LC:=(.q [.x 1 0,.e 2] (.q [.e 3] (.seq (.q [.K 4 0] (.block 0 (.loop (.seq (.q [.m 5 4,.f 6 1 1,.l 7 6,.s 8 7,.c 9 .lss 3 5 8] (.cond (.t 9) .skip (.exit 0))) (.seq (.block 1 (.draw [(.m 12 3,[]),(.f 13 0 1,[]),(.l 14 13,[]),(.f 15 1 1,[]),(.l 16 15,[]),(.m 17 4,[]),(.I 18 7 16 17,[]),(.L 19 7 18,[]),(.W 20 52 14 19,[]),(.z 21 (.buildSl 1 1 [(.i 0)] [(0,1,.t 20)]),[]),(.a 22 1 12 21,[]),(.m 3 22,[])])) (.ops [.m 10 4,.b 11 .add 3 10 1,.m 4 11])))))) (.q [.m 23 3,.m 2 23] .ret))))
def r_law25_works:Mt Tryz.prog 10=some ⟨24,zdh.r,[.tmp 2]⟩:=Aa
def zbx:LC:=(.q [.x 1 0,.K 2 0] (.q [.K 3 0] (.seq (.q [.f 6 0 1,.l 7 6,.s 8 7,.K 9 0] (.block 0 (.loop (.q [.c 10 .lss 3 9 8] (.seq (.cond (.t 10) .skip (.exit 0)) (.seq (.block 1 (.q [.I 11 3 7 9,.L 12 3 11,.z 5 (.alloc [(.i 0),(.i 0),(.bool false)]),.S 3 5 12] (.ops [.m 13 3,.f 14 0 5,.l 15 14,.c 16 .add 3 13 15,.m 3 16]))) (.ops [.b 17 .add 3 9 1,.m 9 17]))))))) (.q [.m 18 3,.m 2 18] .ret))))
def r_buffers_Size:Mt Tryz.prog 14=some ⟨19,zbx.r,[.tmp 2]⟩:=Aa
def zd8:LC:=(.q [.x 1 0,.F 2] (.q [.L 3 3 1,.z 4 (.w 16 [.t 3,.k 40,.k 1048576,.k 80]),.m 2 4] .ret))
def r_law25_light:Mt Tryz.prog 7=some ⟨5,zd8.r,[.tmp 2]⟩:=Aa
def Ss(N:Ko→Int)(pub:Ko→Bool):(Bool→Int)→Bool→List Ko→(Bool→Int)×Bool
 |w,n,[]=>(w,n)
 |w,n,o::l=>Ss N pub (Qj w (!pub o) (N o)) (n || (decide (0≤o.d)&&decide (N o=0))) l
section plain
variable {N : Ko → Int} {pub : Ko → Bool}
def wksA_true:∀(l:List Ko) (w:Bool→Int),(Ss N pub w true l).2=true
 |[],_=>rfl
 |o::l,w=>by unfold Ss;rw[Bool.true_or];exact wksA_true l _
def wksA_no:∀(l:List Ko) (w g:Bool→Int) (n:Bool),(Pm N pub w l).2=false→(Ss N pub g n l).2=true
 |[],_,_,_,h=>Al
 |o::l,w,g,n,h=>by
  unfold Pm at h;unfold Ss;split at h
  ·exact wksA_no l _ _ _ h
  ·split at h
   ·rename_i p j;rw[show (n || (decide (0≤o.d)&&decide (N o=0)))=true by simp[j];omega];exact wksA_true l _
   ·exact wksA_no l _ _ _ h
def znw(g:∀o,o.d<0→N o≤1):∀(l:List Ko) (w:Bool→Int) (n:Bool),(Pm N pub w l).2=true→(∀c,1≤w c)→Ss N pub w n l=((Pm N pub w l).1,n)
 |[],_,_,_,_=>rfl
 |o::l,w,n,h,hw=>by
  unfold Pm at h ⊢;unfold Ss;split at h
  ·rename_i j;have A:Qj w (!pub o) (N o)=w:=by
    funext c
    unfold Qj;split
    ·have:=hw c;have:=g o j;omega
    ·rfl
   have p:(n || (decide (0≤o.d)&&decide (N o=0)))=n:=by
    rw[(Ab:decide (0≤o.d)=false)];simp
   rw[Hs j,A,p];exact znw g l w n h hw
  ·rename_i j;rw[Hq j];split at h
   ·cases h
   ·rename_i z;have p:(n || (decide (0≤o.d)&&decide (N o=0)))=n:=Ak
    rw[Hq z,p];refine znw g l _ n h λc=>?_
    have:=hw c;unfold Qj;split<;>omega
end plain
def zta(j:List Vr)(o:Ko)(h:o.d<0):Px j o≤1:=by
 have hm:o.kind≠17→Qm j o=false:=λg=>by
  cases z:Qm j o with
  |false=>rfl
  |true =>
   rw[Zs]at z;simp only[Hh,Ki]at z;obtain⟨p,_,A⟩:=z;have:=d_in A g (λe=>by rw[e]at p;revert p;decide) (λe=>by rw[e]at p;revert p;decide);omega
 have B:V4 j o=0:=by
  unfold V4;by_cases g:o.kind=17
  ·rw[g];rfl
  ·rw[hm g];simp
 have C:kw j o=0:=by
  unfold kw;by_cases g:o.kind=17
  ·rw[g];rfl
  ·rw[hm g];simp
 have D:jx j o=0:=by
  unfold jx;by_cases g:o.kind=17
  ·rw[g];rfl
  ·rw[hm g];simp
 unfold Px;rw[B,C,D];decide
def zhh(g:List Vr)(j p:List Ko)(C:g.length≤9223372036854775807):Mo 7 [.agg (Mg g j p)] (.bool (g.all (λv=>decide (v.limbs≤1048576))&&(decide ((g.length:Int)≤40)&&(decide ((j.length:Int)≤80)&&decide ((p.length:Int)≤80))))) []:=by
 have z:dats (Mg g j p)=true:=Ao
 have A:(Mg g j p).length=3:=rfl;have B:(Mg g j p).take 3=Mg g j p:=rfl;refine Ni.val rfl (Mq r_law25_light Aa U ?_);simp[zd8,A,B];refine Mv (zky g j p 40 1048576 80 C) (bors_self _ (by simp[dats,LV.dat,z])) ?_;simp
def zht(j:List Vr)(g z:List Ko)(C:j.length≤1000000)(V:g.length≤1000000):P6 10 [.agg (Mg j g z)] (.lst ((g.map (Px j)).map .i) (g.map (Px j)).length 1):=by
 have X:dats (Mg j g z)=true:=Ao
 have D:(Mg j g z).length=3:=rfl;have E:(Mg j g z).take 3=Mg j g z:=rfl;have A:∀l:List Int,dats (l.map .i)=true:=λl=>Ze (λ_=>rfl) l
 refine S0.mk (by simp only[LV.dat];exact A _) (Mq r_law25_works Aa U ?_);simp[zdh,D,E];refine M2 (λS gg T N=>∃(i:Nat) (v:LV),gg=[]∧N+i=g.length∧lk S 1=.ptr 0 0∧lk S 3=v∧lk S 4=.i i∧0<T.length∧T[0]?=some (.cells (Mg j g z) 0)∧Rw 1 T v 1 i (((g.take i).map (Px j)).map .i)) (N:=g.length)
  ⟨0,.nilSl,rfl,J,U,U,U,U,Bv,by simpa using (Rw.nil (b:=1) (esz:=1))⟩ ?_
 rintro N S gg T ⟨i,v,rfl,hN,F,Q,G,Y,H,B⟩ Nx I;by_cases K:i<g.length
 case neg =>
  rw[Hz J,(J:i=g.length)]at B;simp[F,Q,G,H,Mg,K];have R:=B.bor (A _);rcases zqj B with rfl|⟨gA,k,rfl⟩<;>simpa using R
 have Z:=Wt (Rl K);have L:=Wf K;have p:(go g i).f=[.i (go g i).kind,.i (go g i).d,.i (go g i).e,.i (go g i).a,.i (go g i).b,.i (go g i).c,.u (go g i).imm]:=rfl;have M:g.take (i+1)=g.take i++[go g i]:=by
  rw[I8 K]
  congr 2
  have:=Rl K;rw[Hj K]at this;exact Option.some.inj this
 generalize go g i=o at *;simp[F,G,H,Mg,K,Z,L,p];rw[←p];refine Mv (z6y j o C) (bors_self _ Ch) ?_;simp[Q];refine Rw.push (m:=1) (x:=[.i (Px j o)]) B.push_end J U J rfl λv' G2 O P R=>?_
 simp[G];refine⟨J,I _ _ _ ⟨N-1,J,i+1,v',rfl,J,Ah,U,U,J,?_,?_⟩⟩
 ·rw[P 0 J,Mj Y];exact H
 ·rw[M,Iz,Iz];exact O
def zg2(g:List Bf)(z:List Pc)(j p:Pc)(S:g.length≤1000)(T:∀b∈g,0≤b.size∧b.size≤65536):Mo 14 [.agg (Mr g z j p)] (.i (g.map (·.size)).sum) []:=by
 have F:(Mr g z j p).length=8:=rfl;have G:(Mr g z j p).take 8=Mr g z j p:=rfl;have C:Mr g z j p=[.lst (N0 g) g.length 3,.lst (N5 z) z.length 3,.i j.buf,.i j.at_,.i j.size,.i p.buf,.i p.at_,.i p.size]:=rfl;refine Ni.val rfl (Mq r_buffers_Size Aa U ?_);simp[zbx,F,G,C];have A:∀i,i<g.length→((g.take (i+1)).map (·.size)).sum=((g.take i).map (·.size)).sum+(My g i).size:=λi E=>by
  have H:g.take (i+1)=g.take i++[My g i]:=by
   rw[I8 E]
   congr 2
   have:=Qp E;rw[Hj E]at this;exact Option.some.inj this
  rw[H,Iz,Ll];simp
 have B:∀i,i≤g.length→0≤((g.take i).map (·.size)).sum∧((g.take i).map (·.size)).sum≤i*65536:=by
  intro i
  induction i with
  |zero=>intro _;simp
  |succ i V =>
   intro hi;have h1:=V J;have hm:=T (My g i) (Ic.2 ⟨i,Qp J⟩);rw[A i J];omega
 refine M2 (λP Z gg N=>∃(i:Nat),Z=[]∧N+i=g.length∧lk P 3=.i ((g.take i).map (·.size)).sum∧lk P 7=.lst (N0 g) g.length 3∧lk P 8=.i g.length∧lk P 9=.i i) (N:=g.length)
  ⟨0,rfl,J,U,U,U,U⟩ ?_
 rintro N P Z gg ⟨i,rfl,hN,I,Q,K,R⟩ Nx L;by_cases E:i<g.length
 case neg =>
  rw[Hz J]at I;simp[I,K,R,E]
 have X:=qo (Qp E);have M:=Uk E;have O:(My g i).f=[.i (My g i).size,.i (My g i).kind,.bool (My g i).sec]:=rfl;have b1:=B i J;have Y:=B (i+1) E;have D:=A i E;rw[D]at Y;clear A B;generalize My g i=x at *;generalize ((g.take i).map (·.size)).sum=y at *;simp[I,Q,K,R,E,X,M,O];exact⟨J,J,L _ _ _ ⟨N-1,J,i+1,rfl,J,by rw[D];simp,A9,A8,U⟩⟩
end
section
set_option linter.unusedVariables false
def z6j:LC:=(.q [.x 1 0,.F 2] (.seq (.q [.z 14 (.w 6 []),.z 15 (.un .not (.t 14))] (.cond (.t 15) (.q [.F 2] .ret) .skip)) (.seq (.q [.L 16 3 1,.w 17 7 16,.z 18 (.un .not (.t 17))] (.cond (.t 18) (.q [.z 2 (.move .T)] .ret) .skip)) (.q [.L 20 3 1,.w 21 8 20,.m 19 21,.X 22 0 19,.X 23 1 19,.z 3 (.alloc [.nilSl,.nilSl,(.i 0),(.i 0),(.i 0),(.i 0),(.i 0),(.i 0)]),.S 8 3 22,.m 4 23] (.seq (.q [.L 24 3 1,.w 25 9 24,.b 26 .neq 35 25 0] (.cond (.t 26) (.q [.m 27 4,.b 28 .eql 35 27 2,.m 29 28,.yf 30 29 0 3,.yl 31 29 30,.y 32 29 (.lenSl (.t 31)),.y 33 29 (.bin .eql true 3 (.t 32) (.k 0)),.q 34 29 33,.m 2 34] .ret) .skip)) (.q [.L 35 3 1,.w 36 10 35,.z 37 (.build [(.i 0),(.i 0)] [(0,1,.k 1),(1,1,.k 1)]),.z 6 (.alloc [(.i 0),(.i 0)]),.m 5 36,.S 2 6 37] (.q [.F 7] (.seq (.q [.K 8 0] (.block 0 (.loop (.seq (.q [.m 38 8,.f 39 1 1,.l 40 39,.s 41 40,.c 42 .lss 3 38 41] (.cond (.t 42) .skip (.exit 0))) (.seq (.block 1 (.q [.K 9 1] (.seq (.seq (.draw [(.f 45 0 1,[]),(.l 46 45,[]),(.f 47 1 1,[]),(.l 48 47,[]),(.m 49 8,[]),(.I 50 7 48 49,[]),(.L 51 7 50,[]),(.W 52 11 46 51,[])]) (.cond (.t 52) (.ops [.K 9 0]) .skip)) (.q [.m 53 7,.m 54 53,.nf 55 54 1 1,.nl 56 54 55,.mn 57 54 8,.n 58 54 (.ixAddr 7 (.t 56) (.t 57)),.nf 59 54 1 58,.nl 60 54 59,.nb 61 54 .geq 3 60 0,.mn 62 54 61,.my 63 62 5,.my 64 62 8,.y 65 62 (.ixAddr 1 (.t 63) (.t 64)),.yl 66 62 65,.y 67 62 (.bin .eql true 3 (.t 66) (.k 0)),.n 68 54 (.pick (.t 62) (.t 67) .F),.p 69 54 68,.m 7 69] (.draw [(.m 70 9,[]),(.m 71 9,[]),(.z 72 (.ixAddrArr 2 1 (.t 6) (.t 71)),[]),(.l 73 72,[]),(.m 74 5,[]),(.m 75 8,[]),(.I 76 1 74 75,[]),(.l 77 76,[]),(.z 78 (.maxi true (.t 73) (.t 77)),[]),(.z 79 (.ixAddrArr 2 1 (.t 6) (.t 70)),[]),(.S 1 79 78,[])]))))) (.ops [.m 43 8,.b 44 .add 3 43 1,.m 8 44])))))) (.q [.z 80 (.ixAddrArr 2 1 (.t 6) (.k 0)),.l 81 80,.z 82 (.ixAddrArr 2 1 (.t 6) (.k 1)),.l 83 82,.c 84 .add 3 81 83,.m 10 84] (.seq (.q [.K 11 0] (.block 2 (.loop (.seq (.q [.m 85 11,.f 86 0 1,.l 87 86,.s 88 87,.c 89 .lss 3 85 88] (.cond (.t 89) .skip (.exit 2))) (.seq (.block 3 (.q [.f 92 0 1,.l 93 92,.m 94 11,.I 95 3 93 94,.f 96 2 95,.l 97 96,.b 98 .eql 3 97 0] (.cond (.t 98) (.ops [.m 99 10,.f 100 0 1,.l 101 100,.m 102 11,.I 103 3 101 102,.f 104 0 103,.l 105 104,.c 106 .add 3 99 105,.m 10 106]) .skip))) (.ops [.m 90 11,.b 91 .add 3 90 1,.m 11 91])))))) (.seq (.q [.m 107 4,.b 108 .neq 35 107 0] (.cond (.t 108) (.q [.m 109 4,.b 110 .eql 35 109 10,.m 111 110,.my 112 111 7,.my 113 111 112,.mn 114 113 10,.nb 115 113 .gtr 3 114 65536,.y 116 111 (.pick (.t 113) .T (.t 115)),.q 117 111 116,.m 118 117,.yf 119 118 0 3,.yl 120 118 119,.y 121 118 (.lenSl (.t 120)),.y 122 118 (.bin .eql true 3 (.t 121) (.k 0)),.q 123 118 122,.m 2 123] .ret) .skip)) (.q [.K 12 0] (.seq (.q [.K 13 0] (.block 4 (.loop (.seq (.q [.m 124 13,.f 125 0 1,.l 126 125,.s 127 126,.c 128 .lss 3 124 127] (.cond (.t 128) .skip (.exit 4))) (.seq (.block 5 (.q [.f 131 0 1,.l 132 131,.m 133 13,.I 134 3 132 133,.f 135 2 134,.l 136 135,.b 137 .gtr 3 136 0] (.cond (.t 137) (.ops [.m 138 12,.f 139 0 1,.l 140 139,.m 141 13,.I 142 3 140 141,.f 143 0 142,.l 144 143,.c 145 .add 3 138 144,.m 12 145]) .skip))) (.ops [.m 129 13,.b 130 .add 3 129 1,.m 13 130])))))) (.q [.m 146 7,.z 147 (.un .not (.t 146)),.m 148 147,.y 149 148 (.loadN 3 (.t 1)),.y 150 148 (.loadN 8 (.t 3)),.my 151 148 5,.y 152 148 (.w 12 [.t 149,.t 150,.t 151]),.y 153 148 (.bin .eql true 35 (.t 152) (.k 0)),.q 154 148 153,.m 155 154,.y 156 155 (.loadN 3 (.t 1)),.y 157 155 (.loadN 8 (.t 3)),.y 158 155 (.w 13 [.t 156,.t 157]),.y 159 155 (.bin .eql true 35 (.t 158) (.k 0)),.q 160 155 159,.m 161 160,.y 162 161 (.loadN 8 (.t 3)),.y 163 161 (.w 14 [.t 162]),.my 164 161 10,.my 165 161 12,.y 166 161 (.bin .add false 3 (.t 164) (.t 165)),.y 167 161 (.bin .leq false 3 (.t 163) (.t 166)),.q 168 161 167,.m 2 168] .ret))))))))))))))
def r_law25_BuffersRight:Mt Tryz.prog 3=some ⟨169,z6j.r,[.tmp 2]⟩:=Aa
def Qd(vs:List Vr):Nat→Int
 |0=>0
 |i+1=>Qd vs i+if 0<(gv vs i).mode then (gv vs i).limbs else 0
section made
variable {vs : List Vr} {os rs : List Ko} {bs : List Bf} {ps : List Pc} {w0 w1 : Pc}
def da(h:Rj vs bs ps w0 w1=true):bs.length≤32∧∀b∈bs,0≤b.size∧b.size≤65536:=by
 unfold Rj at h;simp only[Hh,Ht]at h;have h:=h.2.2.2.1;unfold Ud at h;by_cases g:32<bs.length
 ·rw[Hs g]at h;cases h
 rw[Hq g]at h;split at h
 ·cases h
 rename_i j;split at h
 ·cases h
 rename_i p;refine⟨J,λb z=>?_⟩;simp only[Jh,Ht,not_exists,not_and,J3]at j p;have:=j b z;have:=p b z;omega
def ztv{f:Fr Ko}(h:MadeF vs os bs ps w0 w1 g f)(j:∀v∈vs,0≤v.mode) :
  (bs.map (·.size)).sum≤(Pj vs os).1 false+(Pj vs os).1 true+((Qk vs vs.length).map (Nz vs)).sum+Qd vs vs.length:=by
 have C:=h.bl;have z:=h.bb;have p:∀i,i<bs.length→((bs.take (i+1)).map (·.size)).sum=((bs.take i).map (·.size)).sum+(My bs i).size:=λi D=>by
  have A:bs.take (i+1)=bs.take i++[My bs i]:=by
   rw[I8 D]
   congr 2
   have:=Qp D;rw[Hj D]at this;exact Option.some.inj this
  rw[A,Iz,Ll];simp
 have E:∀i,i≤g→((bs.take i).map (·.size)).sum=Qd vs i:=by
  intro i
  induction i with
  |zero=>intro _;simp[Qd]
  |succ i B =>
   intro I;have hm:0<(gv vs i).mode:=by
    have K:=j _ (bx (vs:=vs) (i:=i) J);have:¬(gv vs i).mode=0:=λe=>by have:=(h.mode i J).1 e;omega
    omega
   rw[p i J,B J,Qd,Hs hm,h.parb i J];rfl
 have F:∀i,g≤i→i≤vs.length→Qd vs i=Qd vs g:=by
  intro i L
  induction i with
  |zero=>intro _;rw[(J:g=0)]
  |succ i B =>
   intro M;by_cases e:g=i+1
   ·rw[e]
   have hm:=(h.mode i J).2 J;rw[Qd,B J J,hm];simp
 have G:=p g J;have H:=p (g+1) J;rw[(J:g+1+1=bs.length),Lv]at H;rw[E g (Hm _)]at G;rw[F vs.length z (Hm _)];have:=h.sum;omega
end made
def z9k(vs:List Vr)(os rs:List Ko)(gR:vs.length≤9223372036854775807)(_:os.length≤9223372036854775807)(_:rs.length≤9223372036854775807) :
  Oa (.fn 3) [.agg (Mg vs os rs)] [] λv _=>v=.bool true:=by
 have Q:dats (Mg vs os rs)=true:=Ao
 have gA:(Mg vs os rs).length=3:=rfl;have gB:(Mg vs os rs).take 3=Mg vs os rs:=rfl;have gS:[LV.lst (Mz vs) vs.length 3,LV.lst (M6 os) os.length 7,LV.lst (M6 rs) rs.length 7]=Mg vs os rs:=rfl;have gT:∀{g9:Mh},bors g9 [.agg (Mg vs os rs)] [.agg (Mg vs os rs)]:=bors_self _ Eb;refine Mq r_law25_BuffersRight Aa U ?_;simp[z6j];refine Mv law25_lives_ok U ?_;simp[gA,gB];have gE:=zhh vs os rs gR;obtain⟨lb,gF⟩:∃lb,lb=(vs.all (λv=>decide (v.limbs≤1048576))&&(decide ((vs.length:Int)≤40)&&(decide ((os.length:Int)≤80)&&decide ((rs.length:Int)≤80)))):=⟨_,rfl⟩;rw[←gF]at gE;refine Mv gE gT ?_;cases lb with
 |false=>simp
 |true =>
 have jp:vs.length≤40:=by
  have:=gF.symm;simp only[Hh,Ht]at this;omega
 clear gE gF;simp[gA,gB];refine dz (zdw vs os rs jp) Eb ?_;rintro v0 ⟨bs,ps,w0,w1,e,rfl,D⟩ jN;have gG:(Mr bs ps w0 w1).length=8:=rfl;have gH:(Mr bs ps w0 w1).take 8=Mr bs ps w0 w1:=rfl;have Y:Mr bs ps w0 w1=[.lst (N0 bs) bs.length 3,.lst (N5 ps) ps.length 3,.i w0.buf,.i w0.at_,.i w0.size,.i w1.buf,.i w1.at_,.i w1.size]:=rfl;simp[Y];rw[←Y];simp[gA,gB];refine Mv (z5w vs os rs gR) gT ?_;cases hc:Mw vs os rs with
 |false =>
  rcases D with ⟨hE,rfl,rfl,rfl,rfl⟩|⟨_,G,_⟩
  ·rcases hE with ⟨_,rfl⟩|⟨G,_⟩
   ·simp[Nr,hc,Mr]
   ·rw[hc]at G;cases G
  ·rw[hc]at G;cases G
 |true =>
 have gI:O6 vs=true:=by
  have h:=hc;unfold Mw at h;simp only[Hh]at h;exact h.1
 have jQ:os.length≤4096:=by
  have h:=hc;unfold Mw at h;simp only[Hh,Ht]at h;exact h.2.1
 have P:∀v,v<vs.length→1≤Nz vs v∧Nz vs v≤512:=λv hv=>by
  have:=oz gI _ (bx hv);unfold Nz;omega
 have D:(e=10∧bs=[]∧((Pj vs os).2=false∨65536<(Pj vs os).1 false+(Pj vs os).1 true+((Qk vs vs.length).map (Nz vs)).sum))∨(e=0∧(Pj vs os).2=true∧U8 vs os bs ps w0 w1):=by
  rcases D with ⟨hE,g,_⟩|⟨g,_,h2,A⟩
  ·rcases hE with ⟨G,_⟩|⟨_,h2,A⟩
   ·rw[hc]at G;cases G
   ·exact .inl ⟨h2,g,A⟩
  ·exact .inr ⟨g,h2,A⟩
 simp[Nr,hc,gA,gB];refine R8 (zht vs os rs J J) Eb ?_;obtain⟨gD,hL⟩:∃gD,gD=os.map (Px vs):=⟨_,rfl⟩;rw[←hL];have jR:gD.length=os.length:=by rw[hL];simp
 simp;have gK:∀c,Uu c=1:=λc=>rfl
 refine M2 (λX jg g9 N=>∃(i:Nat) (w:Bool→Int) (n:Bool) (st:Nat),jg=[]∧N+i=os.length∧lk X 1=.ptr 0 0∧lk X 3=.ptr 1 0∧lk X 4=.i e∧lk X 5=.lst (gD.map .i) gD.length 1∧lk X 6=.ptr 2 0∧lk X 7=.bool n∧lk X 8=.i i∧2<g9.length∧g9[0]?=some (.cells (Mg vs os rs) 0)∧(∃gL,g9[1]?=some (.cells (Mr bs ps w0 w1) gL))∧g9[2]?=some (.cells [.i (w false),.i (w true)] st) ∧
   (∀c,1≤w c∧w c≤32768)∧Ss (Px vs) (λo=>Ob vs o.d) w n (os.drop i)=Ss (Px vs) (λo=>Ob vs o.d) Uu false os) (N:=os.length)
  ⟨0,Uu,false,1,rfl,J,U,U,U,U,U,U,U,U,Bv,⟨1,Bh⟩,by simp[gK],λc=>by rw[gK];omega,U⟩ ?_
 rintro N X jg g9 ⟨i,w,n,st,rfl,hN,g,A,H,p,F,B,Z,jz,C,⟨gL,g1⟩,g2,hw,M⟩ Nx E;by_cases L:i<os.length
 ·have q7:=Wt (Rl L);have jA:=Wf L;have qd:=Sy Ko.f_len (Rl L) (j:=1) J;have R:(M6 os)[i*7+1]?=some (.i (go os i).d):=by simpa [M6,Ko.f] using qd
  have S:i*7+1<(M6 os).length:=J
  have jB:gD[i]?=some (Px vs (go os i)):=by rw[hL,Jp,Rl L];rfl
  have I:=Pf (f:=LV.i) jB;have K:i<gD.length:=J
  have gM:(go os i).f=[.i (go os i).kind,.i (go os i).d,.i (go os i).e,.i (go os i).a,.i (go os i).b,.i (go os i).c,.u (go os i).imm]:=rfl;have jO:=zk9 vs (go os i);rw[iy L]at M;generalize go os i=o at *;have nx:∀ρ' (gO:Nat) (n':Bool) (a b:Int),n'=(n || (decide (0≤o.d)&&decide (Px vs o=0)))→a=Qj w (!Ob vs o.d) (Px vs o) false→b=Qj w (!Ob vs o.d) (Px vs o) true→lk ρ' 1=.ptr 0 0→lk ρ' 3=.ptr 1 0→lk ρ' 4=.i e→lk ρ' 5=.lst (gD.map .i) gD.length 1→lk ρ' 6=.ptr 2 0→lk ρ' 7=.bool n'→lk ρ' 8=.i ((i:Int)+1)→Nx ρ' [] (g9.set 2 (.cells [.i a,.i b] gO)):=by
   rintro ρ' gO n' a b rfl rfl rfl a1 a3 a4 a5 a6 a7 a8;refine E _ _ _ ⟨N-1,J,i+1,_,_,gO,rfl,J,a1,a3,a4,a5,a6,a7,by rw[a8];simp,Ab,?_,⟨gL,?_⟩,Hi jz,λc=>?_,M⟩
   ·rw[Hg J];exact C
   ·rw[Hg J];exact g1
   ·have:=hw c;unfold Qj;split<;>omega
  simp[g,Z,L,C,q7,jA,gM,Mg];rw[←gM];refine Mv (zap vs o) (bors_self _ (by simp[dats,LV.dat,On,gM])) ?_;cases hp:Ob vs o.d with
  |true =>
   rw[hp]at nx;cases n with
   |true =>
    simp[g,p,F,B,Z,L,C,g2,Mg,K,Mi I];exact⟨J,nx _ _ true _ _ U Bs Bs A2 Af At Ae Ah U U⟩
   |false =>
    by_cases hd:0≤o.d
    ·by_cases T:Px vs o=0
     ·simp[g,p,F,B,Z,L,C,g2,Mg,K,Mi I,Mi R,S,hd,T];exact⟨J,nx _ _ true _ _ Et Ev Ev A2 Af At Ae Ah U U⟩
     ·simp[g,p,F,B,Z,L,C,g2,Mg,K,Mi I,Mi R,S,hd,T];exact⟨J,nx _ _ false _ _ Et Bs Bs A2 Af At Ae Ah U U⟩
    ·simp[g,p,F,B,Z,L,C,g2,Mg,K,Mi I,Mi R,S,hd];exact⟨J,nx _ _ false _ _ (by simp[hd]) Bs Bs A2 Af At Ae Ah U U⟩
  |false =>
   rw[hp]at nx;cases n with
   |true =>
    simp[g,p,F,B,Z,L,C,g2,Mg,K,Mi I];exact⟨J,nx _ _ true _ _ U Bs Bs A2 Af At Ae Ah U U⟩
   |false =>
    by_cases hd:0≤o.d
    ·by_cases T:Px vs o=0
     ·simp[g,p,F,B,Z,L,C,g2,Mg,K,Mi I,Mi R,S,hd,T];exact⟨J,nx _ _ true _ _ Et Ev Ev A2 Af At Ae Ah U U⟩
     ·simp[g,p,F,B,Z,L,C,g2,Mg,K,Mi I,Mi R,S,hd,T];exact⟨J,nx _ _ false _ _ Et Bs Bs A2 Af At Ae Ah U U⟩
    ·simp[g,p,F,B,Z,L,C,g2,Mg,K,Mi I,Mi R,S,hd];exact⟨J,nx _ _ false _ _ (by simp[hd]) Bs Bs A2 Af At Ae Ah U U⟩
 rw[Il J]at M;have jS:=hw false;have jT:=hw true;simp[g,F,Z,L,C,g2,Mg];refine⟨J,?_⟩;have zc:∀i,i≤vs.length→0≤((Qk vs i).map (Nz vs)).sum∧((Qk vs i).map (Nz vs)).sum≤i*512:=by
  intro i
  induction i with
  |zero=>intro _;simp[Qk]
  |succ i ih =>
   intro hi;have:=ih J;have:=P i J;rw[xj,Iz,Ll];split<;>simp<;>omega
 have pc:∀i,i≤vs.length→0≤Qd vs i∧Qd vs i≤i*512:=by
  intro i
  induction i with
  |zero=>intro _;simp[Qd]
  |succ i ih =>
   intro hi;have:=ih J;have h:=P i J;unfold Nz at h;rw[Qd];split<;>omega
 clear E;refine M2 (λX jg G' N=>∃(i:Nat),jg=[]∧G'=g9∧N+i=vs.length∧lk X 1=.ptr 0 0∧lk X 3=.ptr 1 0∧lk X 4=.i e∧lk X 5=.lst (gD.map .i) gD.length 1∧lk X 7=.bool n∧lk X 10=.i (w false+w true+((Qk vs i).map (Nz vs)).sum)∧lk X 11=.i i) (N:=vs.length)
  ⟨0,rfl,rfl,J,A2,Af,At,Ae,Ad,by simp[Qk],U⟩ ?_
 clear g A H p F B Z hN L;rintro N X jg G' ⟨i,rfl,rfl,hN,g,A,H,p,B,z,V⟩ Nx E;by_cases L:i<vs.length
 ·have q0:=fg (P8 L);have q2:=kt (P8 L);have jC:=S2 L;have k0:i*3<(Mz vs).length:=J
  have k2:i*3+2<(Mz vs).length:=J
  have hz:=xj vs i;have jV:=zc i J;have jD:=P i L;have gV:Nz vs i=(gv vs i).limbs:=rfl;generalize gv vs i=x at *;by_cases m0:x.mode=0
  ·rw[Hs m0]at hz;rw[m0]at q2;simp[g,z,V,L,C,Mg,k0,k2,Mi q0,Mi q2];refine⟨J,J,E _ _ _ ⟨N-1,J,i+1,rfl,rfl,J,A2,Af,At,Ae,Ad,?_,U⟩⟩;rw[hz];simp[gV];omega
  ·rw[Hq m0,Ip]at hz;simp[g,z,V,L,C,Mg,k0,k2,Mi q0,Mi q2,m0];exact⟨J,E _ _ _ ⟨N-1,J,i+1,rfl,rfl,J,A2,Af,At,Ae,Ad,by rw[hz];simp[z],U⟩⟩
 have ei:i=vs.length:=J
 subst ei;have jX:=zc vs.length (Hm _);have jY:=pc vs.length (Hm _);clear E;have gZ:(Pj vs os).2=true→w=(Pj vs os).1∧n=false:=λhk=>by
  have:=znw (N:=Px vs) (pub:=λo=>Ob vs o.d) (zta vs) os Uu false hk (λc=>by rw[gK];omega);rw[this]at M;simp only[Ss,Prod.mk.injEq]at M;exact M
 have jE:(Pj vs os).2=false→n=true:=λhk=>by
  have:=wksA_no (N:=Px vs) (pub:=λo=>Ob vs o.d) os Uu Uu false hk;rw[←M]at this;exact this
 generalize jF:((Qk vs vs.length).map (Nz vs)).sum=zs at *;rcases D with ⟨rfl,rfl,g8⟩|⟨rfl,gP,jG⟩
 ·have jH:n=true∨65536<w false+w true+zs:=by
   cases hk:(Pj vs os).2 with
   |false=>exact .inl (jE hk)
   |true =>
    rcases g8 with h|h
    ·rw[hk]at h;cases h
    ·rw[(gZ hk).1];exact .inr h
  cases n with
  |true=>simp[g,A,H,B,z,V,L,C,g1,Mg,Mr]
  |false =>
   have jI:65536<w false+w true+zs:=by rcases jH with h|h;cases h;exact h
   simp[g,A,H,B,z,V,L,C,g1,Mg,Mr,jI]
 obtain⟨rfl,rfl⟩:=gZ gP;obtain⟨jP,f,hM⟩:=jG.facts gI;have gQ:∀v∈vs,0≤v.mode:=λv hv=>(oz gI v hv).2.2.1
 simp[H,g,V,C,Mg];refine M2 (λX jg G2 N=>∃(i:Nat),jg=[]∧G2=G'∧N+i=vs.length∧lk X 1=.ptr 0 0∧lk X 3=.ptr 1 0∧lk X 5=.lst (gD.map .i) gD.length 1∧lk X 7=.bool false∧lk X 10=.i ((Pj vs os).1 false+(Pj vs os).1 true+zs)∧lk X 12=.i (Qd vs i)∧lk X 13=.i i) (N:=vs.length)
  ⟨0,rfl,rfl,J,A2,Af,Ae,Ad,Ak,by simp[Qd],U⟩ ?_
 clear g A H p B z V hN L;rintro N X jg G2 ⟨i,rfl,rfl,hN,g,A,p,B,z,O,gg⟩ Nx E;by_cases L:i<vs.length
 ·have q0:=fg (P8 L);have q2:=kt (P8 L);have jC:=S2 L;have k0:i*3<(Mz vs).length:=J
  have k2:i*3+2<(Mz vs).length:=J
  have jZ:=pc i J;have jD:=P i L;have gV:Nz vs i=(gv vs i).limbs:=rfl;have gC:Qd vs (i+1)=Qd vs i+if 0<(gv vs i).mode then (gv vs i).limbs else 0:=rfl
  generalize gv vs i=x at *;by_cases m0:0<x.mode
  ·rw[Hs m0]at gC;simp[g,O,gg,L,C,Mg,k0,k2,Mi q0,Mi q2,m0];exact⟨J,J,E _ _ _ ⟨N-1,J,i+1,rfl,rfl,J,A2,Af,Ae,Ad,Ak,by rw[gC];simp,U⟩⟩
  ·rw[Hq m0,Int.add_zero]at gC;simp[g,O,gg,L,C,Mg,k0,k2,Mi q0,Mi q2,m0];exact⟨J,E _ _ _ ⟨N-1,J,i+1,rfl,rfl,J,A2,Af,Ae,Ad,Ak,by rw[gC];simp[O],U⟩⟩
 have ei:i=vs.length:=J
 subst ei;obtain⟨j3,jK⟩:=da hM.plan;have jL:=ztv hM gQ;rw[jF]at jL;have jM:dats (gD.map .i)=true:=Ze (λ_=>rfl) gD;simp[g,A,p,B,z,O,gg,C,g1,Mg,gG,gH];rw[gS];refine Mv (zhk J hc gP hM gQ gD hL) (bors_self _ (by simp[dats,LV.dat,Q,bn,jM])) ?_;simp[g,A,p,B,z,O,gg,C,g1,Mg,gG,gH];rw[gS];refine Mv (zen J hc gP hM gQ) (bors_self _ (by simp[dats,LV.dat,Q,bn])) ?_;simp[g,A,p,B,z,O,gg,C,g1,Mg,gG,gH];refine Mv (zg2 bs ps w0 w1 J jK) (bors_self _ (by simp[dats,LV.dat,Q,bn])) ?_;simp[z,O];omega
end
end Go.Proofs.YtgjbfhmmgeplmaaGreat
end
