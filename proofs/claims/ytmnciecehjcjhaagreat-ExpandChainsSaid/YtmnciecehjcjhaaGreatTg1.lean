/- The templates: see the main text. -/
import Derived.Test.YtmnciecehjcjhaaGreatSvG2
import Derived.Test.YtmnciecehjcjhaaGreatTg0
import Derived.Test.YtmnciecehjcjhaaGreatSvG3
set_option linter.defProp false
noncomputable section
namespace Go.Proofs.YtmnciecehjcjhaaGreat
open Go.Sv
set_option linter.unusedSimpArgs false
set_option maxRecDepth 10000
variable{g j:Nat}{z:Int}{vA:List Nat}{vZ:LV→Ok→Prop}{vE:List Vr}{T:List Bf}{vK:List Lo}
def z3u:LC:=(.q [.x 1 0,.K 2 0,.K 3 0] (.seq (.q [.f 15 0 1,.l 16 15,.b 17 .gtr 3 16 64,.m 18 17,.nf 19 18 1 1,.nl 20 18 19,.n 21 18 (.lenSl (.t 20)),.nb 22 18 .gtr 3 21 32,.p 23 18 22,.m 24 23,.nf 25 24 2 1,.nl 26 24 25,.n 27 24 (.lenSl (.t 26)),.nb 28 24 .gtr 3 27 65536,.p 29 24 28] (.cond (.t 29) (.q [.K 2 0,.K 3 3] .ret) .skip)) (.seq (.q [.K 4 0] (.block 0 (.loop (.seq (.q [.m 30 4,.f 31 1 1,.l 32 31,.s 33 32,.c 34 .lss 3 30 33] (.cond (.t 34) .skip (.exit 0))) (.seq (.block 1 (.q [.f 37 1 1,.l 38 37,.m 39 4,.I 40 3 38 39,.f 41 0 40,.l 42 41,.b 43 .gtr 3 42 65536] (.cond (.t 43) (.q [.K 2 0,.K 3 3] .ret) .skip))) (.ops [.m 35 4,.b 36 .add 3 35 1,.m 4 36])))))) (.seq (.q [.f 44 0 1,.l 45 44,.b 46 .lss 3 45 0] (.cond (.t 46) (.q [.K 2 0,.K 3 2] .ret) .skip)) (.seq (.q [.K 5 0] (.block 2 (.loop (.seq (.q [.m 47 5,.f 48 1 1,.l 49 48,.s 50 49,.c 51 .lss 3 47 50] (.cond (.t 51) .skip (.exit 2))) (.seq (.block 3 (.q [.f 54 1 1,.l 55 54,.m 56 5,.I 57 3 55 56,.f 58 0 57,.l 59 58,.b 60 .lss 3 59 1,.m 61 60,.nf 62 61 1 1,.nl 63 61 62,.mn 64 61 5,.n 65 61 (.ixAddr 3 (.t 63) (.t 64)),.nf 66 61 1 65,.nl 67 61 66,.nb 68 61 .lss 3 67 1,.p 69 61 68,.m 70 69,.nf 71 70 1 1,.nl 72 70 71,.mn 73 70 5,.n 74 70 (.ixAddr 3 (.t 72) (.t 73)),.nf 75 70 1 74,.nl 76 70 75,.nb 77 70 .gtr 3 76 3,.p 78 70 77] (.cond (.t 78) (.q [.K 2 0,.K 3 2] .ret) .skip))) (.ops [.m 52 5,.b 53 .add 3 52 1,.m 5 53])))))) (.q [.f 79 0 1,.l 80 79,.z 81 (.mkSl 1 [(.bool false)] (.t 80) (.t 80)),.m 6 81] (.q [.e 7] (.seq (.q [.K 8 0] (.block 4 (.loop (.seq (.q [.m 82 8,.f 83 2 1,.l 84 83,.s 85 84,.c 86 .lss 3 82 85] (.cond (.t 86) .skip (.exit 4))) (.seq (.block 5 (.q [.f 89 2 1,.l 90 89,.m 91 8,.I 92 8 90 91,.L 93 8 92,.z 9 (.alloc [(.i 0),(.i 0),(.i 0),(.i 0),(.i 0),(.i 0),(.i 0),(.u 0)]),.S 8 9 93] (.seq (.q [.L 94 3 1,.L 95 8 9,.W 96 77 94 95,.z 97 (.un .not (.t 96))] (.cond (.t 97) (.q [.m 98 8,.m 2 98,.K 3 2] .ret) .skip)) (.seq (.q [.f 99 0 9,.l 100 99,.b 101 .eql 3 100 17] (.cond (.t 101) (.seq (.q [.m 102 7,.s 103 102,.b 104 .eql 3 103 0] (.cond (.t 104) (.q [.m 105 8,.m 2 105,.K 3 9] .ret) .skip)) (.q [.m 106 6,.m 107 7,.m 108 7,.s 109 108,.b 110 .sub 3 109 1,.I 111 1 107 110,.l 112 111,.I 113 1 106 112,.v (.store 1 (.t 113) .F)] (.q [.m 114 7,.m 115 7,.s 116 115,.b 117 .sub 3 116 1,.z 118 (.slSl 1 (.t 114) none (some (.t 117))),.m 7 118] (.exit 5)))) .skip)) (.seq (.draw [(.L 119 8 9,[]),(.L 121 8 9,[]),(.w 120 78 119,[(.L 121 8 9,false)]),(.w 122 79 121,[]),(.m 10 120,[]),(.m 11 122,[])]) (.seq (.q [.K 12 0] (.block 6 (.loop (.seq (.q [.m 123 12,.m 124 10,.s 125 124,.c 126 .lss 3 123 125] (.cond (.t 126) .skip (.exit 6))) (.seq (.block 7 (.q [.m 129 7,.m 130 10,.m 131 12,.I 132 1 130 131,.l 133 132,.W 134 80 129 133] (.cond (.t 134) (.q [.m 135 8,.m 2 135,.K 3 9] .ret) .skip))) (.ops [.m 127 12,.b 128 .add 3 127 1,.m 12 128])))))) (.seq (.q [.f 136 0 9,.l 137 136,.b 138 .eql 3 137 16,.m 139 138,.my 140 139 6,.yf 141 139 1 9,.yl 142 139 141,.y 143 139 (.ixAddr 1 (.t 140) (.t 142)),.yl 144 139 143,.q 145 139 144] (.cond (.t 145) (.q [.m 146 8,.m 2 146,.K 3 9] .ret) .skip)) (.seq (.q [.f 147 0 9,.l 148 147,.b 149 .eql 3 148 16,.m 150 149,.my 151 150 7,.y 152 150 (.lenSl (.t 151)),.y 153 150 (.bin .eql true 3 (.t 152) (.k 8)),.q 154 150 153] (.cond (.t 154) (.q [.m 155 8,.m 2 155,.K 3 10] .ret) .skip)) (.seq (.q [.K 13 0] (.block 8 (.loop (.seq (.q [.m 156 13,.m 157 11,.s 158 157,.c 159 .lss 3 156 158] (.cond (.t 159) .skip (.exit 8))) (.seq (.block 9 (.q [.m 162 6,.m 163 11,.m 164 13,.I 165 1 163 164,.l 166 165,.I 167 1 162 166,.l 168 167,.z 169 (.un .not (.t 168))] (.cond (.t 169) (.q [.m 170 8,.m 2 170,.K 3 5] .ret) .skip))) (.ops [.m 160 13,.b 161 .add 3 160 1,.m 13 161])))))) (.seq (.q [.K 14 0] (.block 10 (.loop (.seq (.q [.m 171 14,.m 172 10,.s 173 172,.c 174 .lss 3 171 173] (.cond (.t 174) .skip (.exit 10))) (.seq (.block 11 (.ops [.m 177 6,.m 178 10,.m 179 14,.I 180 1 178 179,.l 181 180,.I 182 1 177 181,.v (.store 1 (.t 182) .T)])) (.ops [.m 175 14,.b 176 .add 3 175 1,.m 14 176])))))) (.q [.f 183 0 9,.l 184 183,.b 185 .eql 3 184 16] (.cond (.t 185) (.ops [.m 186 7,.f 187 1 9,.l 188 187,.z 189 (.buildSl 1 1 [(.i 0)] [(0,1,.t 188)]),.a 190 1 186 189,.m 7 190]) .skip)))))))))))) (.ops [.m 87 8,.b 88 .add 3 87 1,.m 8 88])))))) (.seq (.q [.m 191 7,.s 192 191,.b 193 .gtr 3 192 0] (.cond (.t 193) (.q [.f 194 2 1,.l 195 194,.s 196 195,.m 2 196,.K 3 9] .ret) .skip)) (.q [.f 197 2 1,.l 198 197,.s 199 198,.m 2 199,.K 3 0] .ret))))))))))
def r_ref12_Check:Oz Tryz.prog 39=some ⟨200,z3u.r,[.tmp 2,.tmp 3]⟩:=Aa
def zi1{m:List Bool}{l:List Int}(h:∀x∈l,P9 m x=true):(l.any λr=>!P9 m r)=false:=by
 rw[Np];intro x g;simp[h x g]
def zkw{m:List Bool}{l:List Int}{x:Int}(g:x∈l)(h:P9 m x=false):(l.any λr=>!P9 m r)=true:=by
 rw[K5];exact⟨x,g,by simp[h]⟩
def zda{l:List Int}(h:g<l.length):l.take (g+1)=l.take g++[gd l g]:=by
 rw[K6 h];simp[gd,J0,h]
def zgy{l:List Int}(h:g<l.length):gd l g∈l:=by
 simp[gd,J0,h]
def ta{o:Lo}(h:Rj z T o=true):(∀x∈P3 o,0≤x∧x<z)∧(∀x∈O7 o,0≤x∧x<z)∧(o.kind=16→0≤o.d∧o.d<z):=by
 unfold Rj at h;simp only[Jz,Kb]at h;obtain⟨⟨j,A⟩,d,e,a,b,c,_⟩:=h;have B:∀x,Sa z x true=true→0≤x∧x<z:=λx h=>by
  unfold Sa at h;simpa using h
 rcases zcz o.kind with h|h|h|h|h|h|h|h|h|h|h|h|h|h|h|h|h|h|h
 case inl=>omega
 case inr.inr.inr.inr.inr.inr.inr.inr.inr.inr.inr.inr.inr.inr.inr.inr.inr.inr=>omega
 case inr.inr.inr.inr.inr.inr.inr.inr.inr.inr.inr.inr.inr.inr.inl|inr.inr.inr.inr.inr.inr.inr.inr.inr.inr.inr.inr.inr.inr.inr.inl =>
  simp[h,R4,R2,Sm,Xj,Xf,Qd,Sa]at d e a b c;by_cases g:o.a=-1<;>simp[g]at a<;>simp[P3,O7,h,g]<;>omega
 all_goals
  simp[h,R4,R2,Sm,Xj,Xf,Qd,Sa]at d e a b c;simp[P3,O7,h]
  try omega
def ziz(o:Lo):(O7 o).length≤2:=by
 unfold O7;repeat' split
 all_goals simp
def zhz(o:Lo):(P3 o).length≤3:=by
 unfold P3;repeat' split
 all_goals simp
def z3h(M:Int)(B:List Bf)(os:List Lo):O2 39 [.agg (Oq M B os)] (.tup [.i (R8 M B os).1,.i (R8 M B os).2]) []:=by
 refine P4.val rfl (O0 r_ref12_Check Aa (by simp) ?_);by_cases g1:64<M
 ·simp[z3u,Oq,R8,g1]
 by_cases g2:32<B.length
 ·have jE:(32:Int)<B.length:=J
  simp[z3u,Oq,R8,g1,g2,jE]
 have jE:¬(32:Int)<B.length:=J
 by_cases g3:65536<os.length
 ·have jM:(65536:Int)<os.length:=J
  simp[z3u,Oq,R8,g1,g2,jE,g3,jM]
 have jM:¬(65536:Int)<os.length:=J
 obtain⟨zK,C⟩:∃zK,R8 M B os=zK:=⟨_,rfl⟩;rw[C];unfold R8 at C;rw[J2 J]at C;simp[z3u,Oq,g1,g2,jE,g3,jM];refine Ql (λL gY gD N=>∃i:Nat,gY=[]∧gD=[.cells (Oq M B os) 0]∧N+i=B.length∧lk L 1=.ptr 0 0∧lk L 4=.i i∧∀O,O<i→¬65536<(Oy B O).size) (N:=B.length) ⟨0,rfl,Ca,J,by simp,by simp,λO h=>J⟩ ?_;rintro N L gY gD ⟨i,rfl,rfl,hN,z,h4,Q⟩ Nx gK;by_cases gX:i<B.length
 ·have q0:=uu (S8 gX);have hm:Oy B i∈B:=Kg (S8 gX);by_cases e:65536<(Oy B i).size
  ·have X:(B.any λb=>decide (65536<b.size))=true:=K5.2 ⟨_,hm,Gp⟩;rw[J8 X]at C;subst C;simp[z,h4,Oq,gX,Ov q0,e]
  ·simp[z,h4,Oq,gX,Ov q0,e];refine⟨J,gK _ _ _ ⟨N-1,J,i+1,rfl,Ca,J,Al,by simp,λO hj=>?_⟩⟩;by_cases q:O=i
   ·rw[q];exact e
   ·exact Q O J
 have X:¬(B.any λb=>decide (65536<b.size))=true:=by
  rw[K5];rintro⟨b,hb,h⟩;obtain⟨O,hj,rfl⟩:=L5.1 hb;have:=Q O J;have h2:=S8 hj;rw[J5 hj]at h2;rw[←Option.some.inj h2]at this;exact this Ar
 rw[J2 X]at C;clear X Q;by_cases g4:M<0
 ·rw[J8 g4]at C;subst C;simp[z,h4,Oq,gX,g4]
 rw[J2 g4]at C;have e0:¬i<B.length:=gX;simp[z,h4,Oq,e0,g4];refine Ql (λL gY gD N=>∃i:Nat,gY=[]∧gD=[.cells (Oq M B os) 0]∧N+i=B.length∧lk L 1=.ptr 0 0∧lk L 5=.i i∧∀O,O<i→¬((Oy B O).size<1∨(Oy B O).kind<1∨3<(Oy B O).kind)) (N:=B.length) ⟨0,rfl,Ca,J,Al,by simp,λO h=>J⟩ ?_;clear z h4 hN gK Nx L N e0 gX;rintro N L gY gD ⟨i,rfl,rfl,hN,z,h5,Q⟩ Nx gK;by_cases gX:i<B.length
 ·have q0:=uu (S8 gX);have q1:=zib (S8 gX);have hm:Oy B i∈B:=Kg (S8 gX);have jO:((Oy B i).size<1∨(Oy B i).kind<1∨3<(Oy B i).kind)→zK=(0,2):=λe=>by
   have X:(B.any λb=>decide (b.size<1) || (decide (b.kind<1) || decide (3<b.kind)))=true:=K5.2 ⟨_,hm,Gp⟩;rw[J8 X]at C;exact C.symm
  by_cases e1:(Oy B i).size<1
  ·rw[jO (.inl e1)];simp[z,h5,Oq,gX,Ov q0,Ov q1,e1]
  by_cases e2:(Oy B i).kind<1
  ·rw[jO (.inr (.inl e2))];simp[z,h5,Oq,gX,Ov q0,Ov q1,e1,e2]
  by_cases e3:3<(Oy B i).kind
  ·rw[jO (.inr (.inr e3))];simp[z,h5,Oq,gX,Ov q0,Ov q1,e1,e2,e3]
  simp[z,h5,Oq,gX,Ov q0,Ov q1,e1,e2,e3];refine⟨J,gK _ _ _ ⟨N-1,J,i+1,rfl,Ca,J,Al,by simp,λO hj=>?_⟩⟩;by_cases q:O=i
  ·rw[q];omega
  ·exact Q O J
 have X:¬(B.any λb=>decide (b.size<1) || (decide (b.kind<1) || decide (3<b.kind)))=true:=by
  rw[K5];rintro⟨b,hb,h⟩;obtain⟨O,hj,rfl⟩:=L5.1 hb;have:=Q O J;have h2:=S8 hj;rw[J5 hj]at h2;rw[←Option.some.inj h2]at this;exact this Ar
 rw[J2 X]at C;clear X Q;obtain⟨r,rfl⟩:=J3 (J:0≤M);have zH:r≤64:=J
 simp[z,h5,Oq,gX];refine⟨J,?_⟩;refine Ql (λL gY gD N=>∃(i st:Nat) (m:List Bool) (D:List Int) (v:LV),gY=[]∧N+i=os.length∧lk L 1=.ptr 0 0∧lk L 6=.dy 1 0∧lk L 7=v∧lk L 8=.i i∧gD[0]?=some (.cells (Oq r B os) 0)∧gD[1]?=some (.dyn (m.map .bool) r 1 0 st)∧m.length=r∧Pz 2 gD v 1 D.length (D.map .i)∧2≤gD.length ∧
   (∀x∈D,0≤x∧x<r)∧D.length≤8∧Yy r B i m D (os.drop i)=zK) (N:=os.length)
  ⟨0,0,List.replicate r false,[],.nilSl,rfl,J,Al,by simp,by simp,by simp,Ca,by simp[wo],by simp,Pz.nil,by simp,by simp,by simp,Gc⟩ ?_
 clear z h5 hN gK Nx L N C gX;rintro N L gY gD ⟨i,st,m,D,v,rfl,hN,z,F,K,E,gL,j6,gM,jP,zL,jF,jV,C⟩ Nx gK;by_cases gX:i<os.length
 case neg =>
  rw[Lv J]at C;unfold Yy at C;by_cases hn:D=[]
  ·rw[J8 hn]at C;subst C hn;simp[z,E,gL,Oq,gX,K];refine jP.lenL ?_;simp[z,gL,Oq];omega
  ·rw[J2 hn]at C;subst C;have Q:0<(D.length:Int):=by
    have:=List.length_pos_iff.2 hn;omega
   simp[z,E,gL,Oq,gX,K];refine jP.lenL ?_;simp[Q,z,gL,Oq];exact⟨λ_=>J,hn⟩
 have ho:=zgf gX;rw[zem gX]at C;unfold Yy at C;have j7:=zak ho;have j8:=xd gX;generalize dh os i=o at *;have hC:o.f=[.i o.kind,.i o.d,.i o.e,.i o.a,.i o.b,.i o.c,.i o.buf,.u o.imm]:=rfl;have l0:0<gD.length:=J
 have l1:1<gD.length:=J
 have p0:∀x:List LObj,(gD++x)[0]?=some _:=λx=>(Oo l0).trans gL
 simp[z,E,gL,Oq,gX,j7,j8,hC,↓p0];have jX:=zg7 r B os o;rw[Oq,hC]at jX;refine Pm jX (bors_self _ Fa) ?_;cases hf:Rj r B o with
 |false =>
  have j9:(Vn r B m D o)=(2,m,D):=by unfold Vn;rw[J8 hf]
  rw[j9]at C;simp at C;subst C;simp[E]
 |true =>
 obtain⟨jY,jZ,j0⟩:=ta hf;have zM:os.length≤65536:=J
 have gO:∀(l:List LV) (i:Nat) (x:LV),i<l.length→Po l i [x]=l.set i x:=λl i x h=>by
  rw[La,J8 h];simp[Po]
 have next:∀(ρ':Om) (G':Ok) (m':List Bool) (G:List Int) (v':LV) (jQ:Nat),Vn r B m D o=(0,m',G)→lk ρ' 1=.ptr 0 0→lk ρ' 6=.dy 1 0→lk ρ' 7=v'→lk ρ' 8=.i ((i:Int)+1)→G'[0]?=some (.cells (Oq r B os) 0)→G'[1]?=some (.dyn (m'.map .bool) r 1 0 jQ)→m'.length=r→Pz 2 G' v' 1 G.length (G.map .i)→2≤G'.length→(∀x∈G,0≤x∧x<(r:Int))→G.length≤8→Nx ρ' [] G':=by
  intro ρ' G' m' G v' jQ hs a1 a6 a7 a8 b0 b1 b2 b3 b4 b5 b6;rw[hs]at C;exact gK _ _ _ ⟨N-1,J,i+1,jQ,m',G,v',rfl,J,a1,a6,a7,by rw[a8];simp,b0,b1,b2,b3,b4,b5,b6,Gc⟩
 have q0:∀x:List LObj,(gD++x)[0]?=some (.cells (Oq r B os) 0):=λx=>(Oo l0).trans gL
 have q1:∀x:List LObj,(gD++x)[1]?=some (.dyn (m.map .bool) r 1 0 st):=λx=>(Oo l1).trans j6
 have gF:∀x,Pz 2 (gD++x) v 1 D.length (D.map .i):=λx=>jP.push_end
 by_cases gZ:o.kind=17
 ·have jG:D=[]→Vn r B m D o=(9,m,D):=λe=>by
   unfold Vn;rw[J2 (by rw[hf];decide),J8 gZ,e];rfl
  have jH:∀l' d,D=l'++[d]→Vn r B m D o=(0,m.set d.toNat false,l'):=λl' d e=>by
   unfold Vn;rw[J2 (by rw[hf];decide),J8 gZ,e];simp
  simp[gZ,K];refine (gF _).lenL ?_;by_cases hn:D=[]
  ·rw[jG hn]at C;subst hn;simp at C;subst C;simp[E]
  ·obtain⟨G,d,rfl⟩:∃G d,D=G++[d]:=⟨D.dropLast,D.getLast hn,(List.dropLast_concat_getLast hn).symm⟩;obtain⟨d0,dr⟩:=jF d (by simp);obtain⟨dn,rfl⟩:=J3 d0;have jg:dn<r:=J
   have zg:G.length≤8:=by simp at jV;omega
   have g:=jH G dn rfl;simp only[Ky]at g;simp;refine (gF _).lenL ?_;simp;refine⟨J,(gF _).at1 J Ab λa X=>?_⟩;simp;refine X _ ?_;have e1:Po (m.map LV.bool) dn [.bool false]=(m.set dn false).map LV.bool:=by
    rw[gO _ _ _ Ab,K9]
   have hx:(List.map LV.i G++[LV.i (dn:Int)])[G.length]?=some (.i (dn:Int)):=by
    rw[Kj (by simp)];simp
   have jK:∀(x:List LObj) (ob:LObj),Pz 2 ((gD++x).set 1 ob) v 1 (G++[(dn:Int)]).length ((G++[(dn:Int)]).map .i):=λx ob=>(gF x).set_lt J
   rw[Ni,List.map_singleton];simp only[Ky];refine⟨_,hx,?_⟩;simp[F,↓q1,jg,gM,e1,K];refine⟨J,(jK _ _).lenL ?_⟩;simp;refine⟨J,(jK _ _).cut (m:=G.length) (by simp) (λK' k'=>k') (λd K' k'=>⟨J,k'⟩) λv' j1=>?_⟩;simp[E];rw[Ni,Mr (by simp)]at j1;refine⟨J,next _ _ (m.set dn false) G v' (st+1) g Al Ao (by simp) (by simp) ?_ ?_ (by simpa using gM) j1 Ab (λx hx=>jF x (by simp[hx])) zg⟩
   ·rw[Jy J];exact q0 _
   ·rw[←K9];exact J1 Ab
 have g:Vn r B m D o=(if (O7 o).any (λr=>D.contains r)=true then (9,m,D)
   else if o.kind=16∧P9 m o.d=true then (9,m,D)
   else if o.kind=16∧D.length=8 then (10,m,D)
   else if (P3 o).any (λr=>!P9 m r)=true then (5,m,D)
   else (0,(O7 o).foldl (λm r=>m.set r.toNat true) m,if o.kind=16 then D++[o.d] else D)):=by
  unfold Vn;rw[J2 (by rw[hf];decide),J2 gZ]
 simp[gZ];refine Sx (zb6 o) Bq ?_;simp;refine Sx (zb4 o) Bq ?_;simp;have jR:=q0 [.cells o.f 1];have Y:=q1 [.cells o.f 1];have gR:(gD++[LObj.cells o.f 1])[gD.length]?=some (.cells o.f 1):=Ke;have jz:=gF [.cells o.f 1];have zj:(gD++[LObj.cells o.f 1]).length=gD.length+1:=by simp
 rw[hC]at jR Y gR jz zj;generalize gD++[LObj.cells [.i o.kind,.i o.d,.i o.e,.i o.a,.i o.b,.i o.c,.i o.buf,.u o.imm] 1]=G1 at *;generalize gD.length=j5 at *;have zO:=ziz o;have zQ:=zhz o;have zT:=hC ▸ gR;refine Ql (λL gY gD N=>∃O:Nat,gY=[]∧N+O=(O7 o).length∧lk L 1=.ptr 0 0∧lk L 6=.dy 1 0∧lk L 7=v∧lk L 8=.i i∧lk L 9=.ptr j5 0∧lk L 10=.lst ((O7 o).map .i) (O7 o).length 1∧lk L 11=.lst ((P3 o).map .i) (P3 o).length 1∧lk L 12=.i O∧gD=G1∧∀x∈(O7 o).take O,¬x∈D) (N:=(O7 o).length)
  ⟨0,rfl,J,Al,Ao,Bm,Ak,by simp,by simp,by simp,by simp,rfl,by simp⟩ ?_
 clear z F K E;rintro N2 L gY G2 ⟨O,rfl,zU,z,F,K,E,R,j,H,gT,rfl,Q⟩ zV jL;by_cases V:O<(O7 o).length
 ·have hg:=Wz (f:=LV.i) (Ys V);have ht:=zda V;have I:=zgy V;generalize gd (O7 o) O=x at *;simp[K,j,gT,V,Ov hg];refine Pm (znm D x J) ⟨_,_,rfl,jz.bor,by simp⟩ ?_;by_cases hx:x∈D
  ·have X:((O7 o).any λr=>D.contains r)=true:=K5.2 ⟨x,I,by simpa using hx⟩;rw[g,J8 X]at C;simp at C;subst C;simp[hx,E]
  ·simp[hx,gT];refine⟨J,jL _ _ _ ⟨N2-1,J,O+1,rfl,J,Al,Ao,Bm,Ak,De,Ay,Am,by simp,rfl,λy T=>?_⟩⟩;rw[ht]at T;rcases Ks.1 T with T|T
   ·exact Q y T
   ·simp at T;rw[T];exact hx
 rw[Kf J]at Q;have X:¬((O7 o).any λr=>D.contains r)=true:=by
  rw[K5];rintro⟨x,hx,h⟩;exact Q x hx Ar
 rw[J2 X]at g;clear X Q jL;by_cases P:o.kind=16
 ·obtain⟨d0,dr⟩:=j0 P;obtain⟨dn,jg⟩:=J3 d0;have jT:dn<r:=J
  have jI:(m.map LV.bool)[dn]?=some (.bool (P9 m o.d)):=by
   simp[P9,jg,gM,jT]
  cases Z:P9 m o.d with
  |true =>
   rw[Z]at jI;rw[g,J8 (show o.kind=16∧P9 m o.d=true from ⟨P,Z⟩)]at C;simp at C;subst C;simp[F,E,R,j,gT,V,gR,P,jg,jT,Y,Ov jI]
  |false =>
  rw[Z]at jI;rw[J2 (show ¬(o.kind=16∧P9 m o.d=true) by rw[Z];simp)]at g;simp[F,E,R,j,gT,V,gR,P,jg,jT,Y,Ov jI,K];refine jz.lenL ?_;by_cases l8:D.length=8
  ·rw[g,J8 (show o.kind=16∧D.length=8 from ⟨P,l8⟩)]at C;simp at C;subst C;simp[l8,E]
  rw[J2 (show ¬(o.kind=16∧D.length=8) from λq=>l8 q.2)]at g;refine⟨λq=>absurd q J,λ_=>?_⟩;rw[J8 P]at g;refine Ql (λL gY gD N=>∃O:Nat,gY=[]∧N+O=(P3 o).length∧lk L 1=.ptr 0 0∧lk L 6=.dy 1 0∧lk L 7=v∧lk L 8=.i i∧lk L 9=.ptr j5 0∧lk L 10=.lst ((O7 o).map .i) (O7 o).length 1∧lk L 11=.lst ((P3 o).map .i) (P3 o).length 1∧lk L 13=.i O∧gD=G2∧∀x∈(P3 o).take O,P9 m x=true) (N:=(P3 o).length)
   ⟨0,rfl,J,Al,Ao,Bm,Ak,De,Ay,Am,by simp,rfl,by simp⟩ ?_
  clear z F K E R j H gT;rintro N3 L gY G3 ⟨O,rfl,zz,z,F,K,E,R,j,H,gg,rfl,Q⟩ zB gG;by_cases V:O<(P3 o).length
  ·have hg:=Wz (f:=LV.i) (Ys V);have ht:=zda V;have I:=zgy V;generalize gd (P3 o) O=x at *;obtain⟨x0,xr⟩:=jY x I;obtain⟨xn,rfl⟩:=J3 x0;have U:xn<r:=J
   have gA:(m.map LV.bool)[xn]?=some (.bool (P9 m (xn:Int))):=by simp[P9,gM,U]
   cases A:P9 m (xn:Int) with
   |false =>
    have X:=zkw I A;rw[g,J8 X]at C;simp at C;subst C;rw[A]at gA;simp[F,E,H,gg,V,Ov hg,Y,U,Ov gA]
   |true =>
    rw[A]at gA;simp[F,E,H,gg,V,Ov hg,Y,U,Ov gA];refine⟨J,gG _ _ _ ⟨N3-1,J,O+1,rfl,J,Al,Ao,Bm,Ak,De,Ay,Am,by simp,rfl,λy T=>?_⟩⟩;rw[ht]at T;rcases Ks.1 T with T|T
    ·exact Q y T
    ·simp at T;rw[T];exact A
  rw[Kf J]at Q;rw[J2 (by rw[zi1 Q];simp)]at g;clear gG Q;simp[z,F,K,E,R,j,H,gg,V];refine Ql (λL gY gD N=>∃(O gB:Nat) (m2:List Bool),gY=[]∧N+O=(O7 o).length∧lk L 1=.ptr 0 0∧lk L 6=.dy 1 0∧lk L 7=v∧lk L 8=.i i∧lk L 9=.ptr j5 0∧lk L 10=.lst ((O7 o).map .i) (O7 o).length 1∧lk L 14=.i O∧gD.length=G3.length∧(∀q,q≠1→gD[q]?=G3[q]?)∧gD[1]?=some (.dyn (m2.map .bool) r 1 0 gB)∧m2.length=r∧m2=((O7 o).take O).foldl (λm r=>m.set r.toNat true) m) (N:=(O7 o).length)
   ⟨0,st,m,rfl,J,Al,Ao,Bm,Ak,De,Ay,by simp,rfl,λ_ _=>rfl,Y,gM,by simp⟩ ?_
  clear z F K E R j H gg;rintro N4 L gY G4 ⟨O,gB,m2,rfl,zC,z,F,K,E,R,j,jA,jU,gC,gH,gU,gV⟩ zD gI;by_cases gk:O<(O7 o).length
  ·have hg:=Wz (f:=LV.i) (Ys gk);have ht:=zda gk;have I:=zgy gk;generalize gd (O7 o) O=x at *;obtain⟨x0,xr⟩:=jZ x I;obtain⟨xn,rfl⟩:=J3 x0;have U:xn<r:=J
   have e1:Po (m2.map LV.bool) xn [.bool true]=(m2.set xn true).map LV.bool:=by
    rw[gO _ _ _ Ab,K9]
   simp[F,j,jA,gk,Ov hg,gH,U,gU,e1];refine⟨J,J,gI _ _ _ ⟨N4-1,J,O+1,gB+1,m2.set xn true,rfl,J,Al,Ao,Bm,Ak,De,Ay,by simp,by simp[jU],λq hq=>?_,?_,by simp[gU],?_⟩⟩
   ·rw[Jy (Ne.symm hq)];exact gC q hq
   ·rw[←K9];exact J1 (by have:=(Jx.1 gH).1;exact this)
   ·rw[ht,List.foldl_append,←gV];simp
  rw[Kf J]at gV;have jB:Pz 2 G4 v 1 D.length (D.map .i):=jz.frame λq h _=>gC q J
  have jC:G4[0]?=some (.cells (Oq r B os) 0):=(gC 0 J).trans jR;have jD:G4[j5]?=_:=(gC j5 J).trans gR;rw[←gV]at g;clear gI;simp[z,F,K,E,R,j,jA,gk,jD,P];refine Pz.push (x:=[.i o.d]) jB.push_end J Ab J rfl rfl λv' G5 zE j4 zG _=>?_
  simp[E];have zI:=(Jx.1 gH).1;refine⟨J,next _ _ m2 (D++[o.d]) v' gB g Al Ao (by simp) (by simp) ?_ ?_ gU (by simpa using zE) (by simp at zG;omega) (λx hx=>?_) Ab⟩
  ·rw[j4 0 J,Oo J];exact jC
  ·rw[j4 1 J,Oo J];exact gH
  ·rcases Ks.1 hx with hx|hx
   ·exact jF x hx
   ·simp at hx;rw[hx];exact j0 P
 rw[J2 (show ¬(o.kind=16∧P9 m o.d=true) from λq=>P q.1),J2 (show ¬(o.kind=16∧D.length=8) from λq=>P q.1),J2 P]at g;simp[z,F,K,E,R,j,H,gT,V,gR,P];refine Ql (λL gY gD N=>∃O:Nat,gY=[]∧N+O=(P3 o).length∧lk L 1=.ptr 0 0∧lk L 6=.dy 1 0∧lk L 7=v∧lk L 8=.i i∧lk L 9=.ptr j5 0∧lk L 10=.lst ((O7 o).map .i) (O7 o).length 1∧lk L 11=.lst ((P3 o).map .i) (P3 o).length 1∧lk L 13=.i O∧gD=G2∧∀x∈(P3 o).take O,P9 m x=true) (N:=(P3 o).length)
  ⟨0,rfl,J,Al,Ao,Bm,Ak,De,Ay,Am,by simp,rfl,by simp⟩ ?_
 clear z F K E R j H gT;rintro N3 L gY G3 ⟨O,rfl,zz,z,F,K,E,R,j,H,gg,rfl,Q⟩ zB gG;by_cases V:O<(P3 o).length
 ·have hg:=Wz (f:=LV.i) (Ys V);have ht:=zda V;have I:=zgy V;generalize gd (P3 o) O=x at *;obtain⟨x0,xr⟩:=jY x I;obtain⟨xn,rfl⟩:=J3 x0;have U:xn<r:=J
  have gA:(m.map LV.bool)[xn]?=some (.bool (P9 m (xn:Int))):=by simp[P9,gM,U]
  cases A:P9 m (xn:Int) with
  |false =>
   have X:=zkw I A;rw[g,J8 X]at C;simp at C;subst C;rw[A]at gA;simp[F,E,H,gg,V,Ov hg,Y,U,Ov gA]
  |true =>
   rw[A]at gA;simp[F,E,H,gg,V,Ov hg,Y,U,Ov gA];refine⟨J,gG _ _ _ ⟨N3-1,J,O+1,rfl,J,Al,Ao,Bm,Ak,De,Ay,Am,by simp,rfl,λy T=>?_⟩⟩;rw[ht]at T;rcases Ks.1 T with T|T
   ·exact Q y T
   ·simp at T;rw[T];exact A
 rw[Kf J]at Q;rw[J2 (by rw[zi1 Q];simp)]at g;clear gG Q;simp[z,F,K,E,R,j,H,gg,V];refine Ql (λL gY gD N=>∃(O gB:Nat) (m2:List Bool),gY=[]∧N+O=(O7 o).length∧lk L 1=.ptr 0 0∧lk L 6=.dy 1 0∧lk L 7=v∧lk L 8=.i i∧lk L 9=.ptr j5 0∧lk L 10=.lst ((O7 o).map .i) (O7 o).length 1∧lk L 14=.i O∧gD.length=G3.length∧(∀q,q≠1→gD[q]?=G3[q]?)∧gD[1]?=some (.dyn (m2.map .bool) r 1 0 gB)∧m2.length=r∧m2=((O7 o).take O).foldl (λm r=>m.set r.toNat true) m) (N:=(O7 o).length)
  ⟨0,st,m,rfl,J,Al,Ao,Bm,Ak,De,Ay,by simp,rfl,λ_ _=>rfl,Y,gM,by simp⟩ ?_
 clear z F K E R j H gg;rintro N4 L gY G4 ⟨O,gB,m2,rfl,zC,z,F,K,E,R,j,jA,jU,gC,gH,gU,gV⟩ zD gI;by_cases gk:O<(O7 o).length
 ·have hg:=Wz (f:=LV.i) (Ys gk);have ht:=zda gk;have I:=zgy gk;generalize gd (O7 o) O=x at *;obtain⟨x0,xr⟩:=jZ x I;obtain⟨xn,rfl⟩:=J3 x0;have U:xn<r:=J
  have e1:Po (m2.map LV.bool) xn [.bool true]=(m2.set xn true).map LV.bool:=by
   rw[gO _ _ _ Ab,K9]
  simp[F,j,jA,gk,Ov hg,gH,U,gU,e1];refine⟨J,J,gI _ _ _ ⟨N4-1,J,O+1,gB+1,m2.set xn true,rfl,J,Al,Ao,Bm,Ak,De,Ay,by simp,by simp[jU],λq hq=>?_,?_,by simp[gU],?_⟩⟩
  ·rw[Jy (Ne.symm hq)];exact gC q hq
  ·rw[←K9];exact J1 (by have:=(Jx.1 gH).1;exact this)
  ·rw[ht,List.foldl_append,←gV];simp
 rw[Kf J]at gV;have jB:Pz 2 G4 v 1 D.length (D.map .i):=jz.frame λq h _=>gC q J
 have jC:G4[0]?=some (.cells (Oq r B os) 0):=(gC 0 J).trans jR;have jD:G4[j5]?=_:=(gC j5 J).trans gR;rw[←gV]at g;clear gI;simp[z,F,K,E,R,j,jA,gk,jD,P];refine⟨J,next _ _ m2 D v gB g Al Ao Bm (by simp) jC gH gU jB J jF jV⟩
def ze1:LC:=(.q [.x 1 0,.e 2] (.q [.L 10 3 1,.w 11 39 10,.m 9 11,.X 12 0 9,.X 13 1 9,.m 3 12,.m 4 13] (.seq (.q [.m 14 4,.b 15 .neq 37 14 0] (.cond (.t 15) (.q [.e 2] .ret) .skip)) (.q [.f 16 2 1,.l 17 16,.s 18 17,.z 19 (.mkSl 1 [(.i 0)] (.t 18) (.t 18)),.m 5 19] (.q [.e 6] (.seq (.q [.K 7 0] (.block 0 (.loop (.seq (.q [.m 20 7,.f 21 2 1,.l 22 21,.s 23 22,.c 24 .lss 3 20 23] (.cond (.t 24) .skip (.exit 0))) (.seq (.block 1 (.q [.m 27 5,.m 28 7,.I 29 1 27 28,.v (.store 1 (.t 29) (.k (-1)))] (.q [.f 30 2 1,.l 31 30,.m 32 7,.I 33 8 31 32,.f 34 0 33,.l 35 34] (.block 2 (.q [.b 37 .eql 3 35 16,.m 36 37] (.cond (.t 36) (.ops [.m 38 6,.m 39 7,.z 40 (.buildSl 1 1 [(.i 0)] [(0,1,.t 39)]),.a 41 1 38 40,.m 6 41]) (.q [.b 43 .eql 3 35 17,.m 42 43] (.cond (.t 42) (.q [.m 44 6,.m 45 6,.s 46 45,.b 47 .sub 3 46 1,.I 48 1 44 47,.l 49 48,.m 8 49] (.q [.m 50 6,.m 51 6,.s 52 51,.b 53 .sub 3 52 1,.z 54 (.slSl 1 (.t 50) none (some (.t 53))),.m 6 54] (.ops [.m 55 5,.m 56 7,.m 57 5,.m 58 8,.m 59 8,.m 60 7,.I 61 1 55 56,.S 1 61 59,.I 62 1 57 58,.S 1 62 60]))) .skip)))))))) (.ops [.m 25 7,.b 26 .add 3 25 1,.m 7 26])))))) (.q [.m 63 5,.m 2 63] .ret)))))))
def r_ref12_Ends:Oz Tryz.prog 44=some ⟨64,ze1.r,[.tmp 2]⟩:=Aa
def zc0:LC:=(.q [.x 1 0,.K 2 0] (.q [.L 11 3 1,.w 12 39 11,.m 10 12,.X 13 0 10,.X 14 1 10,.m 3 13,.m 4 14] (.seq (.q [.m 15 4,.b 16 .neq 37 15 0] (.cond (.t 16) (.q [.K 2 0] .ret) .skip)) (.q [.e 5] (.q [.K 6 0] (.q [.e 7] (.seq (.q [.K 8 0] (.block 0 (.loop (.seq (.q [.m 17 8,.f 18 2 1,.l 19 18,.s 20 19,.c 21 .lss 3 17 20] (.cond (.t 21) .skip (.exit 0))) (.seq (.block 1 (.q [.f 24 2 1,.l 25 24,.m 26 8,.I 27 8 25 26,.f 28 0 27,.l 29 28] (.block 2 (.q [.b 34 .eql 3 29 16,.m 33 34] (.cond (.t 33) (.seq (.draw [(.m 35 5,[]),(.m 36 6,[]),(.z 37 (.buildSl 1 1 [(.i 0)] [(0,1,.t 36)]),[]),(.m 39 7,[]),(.f 40 2 1,[]),(.l 41 40,[]),(.m 42 8,[]),(.I 43 8 41 42,[]),(.f 44 7 43,[]),(.l 45 44,[]),(.z 46 (.cvInt .i64 (.t 45)),[]),(.z 47 (.buildSl 1 1 [(.i 0)] [(0,1,.t 46)]),[(.l 45 44,false),(.l 41 40,false),(.z 37 (.buildSl 1 1 [(.i 0)] [(0,1,.t 36)]),true)]),(.a 38 1 35 37,[(.z 47 (.buildSl 1 1 [(.i 0)] [(0,1,.t 46)]),true),(.l 45 44,false),(.l 41 40,false)]),(.a 48 1 39 47,[]),(.m 5 38,[]),(.m 7 48,[])]) (.ops [.K 6 1])) (.q [.b 50 .eql 3 29 17,.m 49 50] (.cond (.t 49) (.q [.m 51 5,.s 52 51,.b 53 .sub 3 52 1,.m 9 53] (.seq (.q [.m 54 6,.m 55 7,.m 56 9,.I 57 1 55 56,.l 58 57,.z 59 (.bin .quo true 3 (.k 1125899906842624) (.t 58)),.c 60 .gtr 3 54 59] (.cond (.t 60) (.ops [.K 6 1125899906842624]) (.ops [.m 61 6,.m 62 7,.m 63 9,.I 64 1 62 63,.l 65 64,.c 66 .mul 3 61 65,.m 6 66]))) (.q [.m 67 6,.m 68 5,.m 69 9,.I 70 1 68 69,.l 71 70,.c 72 .add 3 67 71,.z 73 (.maxi false (.k 1125899906842624) (.t 72)),.m 6 73] (.draw [(.m 74 5,[]),(.m 75 9,[]),(.z 76 (.slSl 1 (.t 74) none (some (.t 75))),[]),(.m 77 7,[]),(.m 78 9,[]),(.z 79 (.slSl 1 (.t 77) none (some (.t 78))),[]),(.m 5 76,[]),(.m 7 79,[])])))) (.ops [.m 30 6,.b 31 .add 3 30 1,.z 32 (.maxi false (.k 1125899906842624) (.t 31)),.m 6 32])))))))) (.ops [.m 22 8,.b 23 .add 3 22 1,.m 8 23])))))) (.q [.m 80 6,.m 2 80] .ret))))))))
def r_ref12_Steps:Oz Tryz.prog 42=some ⟨81,zc0.r,[.tmp 2]⟩:=Aa
def z9n:LC:=(.q [.x 2 0,.F 4] (.seq (.q [.m 7 1,.s 8 7,.f 9 1 2,.l 10 9,.s 11 10,.c 12 .neq 3 8 11] (.cond (.t 12) (.q [.F 4] .ret) .skip)) (.seq (.q [.K 5 0] (.block 0 (.loop (.seq (.q [.m 13 5,.m 14 1,.s 15 14,.c 16 .lss 3 13 15] (.cond (.t 16) .skip (.exit 0))) (.seq (.block 1 (.q [.f 19 1 2,.l 20 19,.m 21 5,.I 22 3 20 21,.f 23 0 22,.l 24 23,.m 6 24] (.seq (.q [.f 25 1 2,.l 26 25,.m 27 5,.I 28 3 26 27,.f 29 1 28,.l 30 29,.b 31 .eql 3 30 3] (.cond (.t 31) (.ops [.K 6 0]) .skip)) (.q [.m 32 1,.m 33 5,.I 34 1 32 33,.l 35 34,.s 36 35,.m 37 6,.c 38 .neq 3 36 37] (.cond (.t 38) (.q [.F 4] .ret) .skip))))) (.ops [.m 17 5,.b 18 .add 3 17 1,.m 5 18])))))) (.q [.z 4 (.move .T)] .ret))))
def r_ref12_Rows:Oz Tryz.prog 43=some ⟨39,z9n.r,[.tmp 4]⟩:=Aa
def zia{g:Int}{z:List Bf}:∀(l:List Lo) (i:Nat) (m:List Bool) (A:List Int),(Yy g z i m A l).2=0→∀o∈l,Rj g z o=true
 |[],_,_,_,_,o,C=>by cases C
 |o::l,i,m,A,h,x,B=>by
  unfold Yy at h;by_cases j:(Vn g z m A o).1=0
  ·rw[J8 j]at h;rcases J9.1 B with rfl|B
   ·cases D:Rj g z x with
    |true=>rfl
    |false =>
     unfold Vn at j;rw[J8 D]at j;exact absurd (show (2:Int)=0 from j) Ac
   ·exact zia l _ _ _ h x B
  ·rw[J2 j]at h;exact absurd h j
def z5y{os:List Lo}(h:(R8 z T os).2=0):0≤z∧z≤64∧T.length≤32∧os.length≤65536∧(∀b∈T,1≤b.size∧b.size≤65536)∧∀o∈os,Rj z T o=true:=by
 unfold R8 at h;split at h
 ·exact absurd h Ac
 split at h
 ·exact absurd h Ac
 split at h
 ·exact absurd h Ac
 split at h
 ·exact absurd h Ac
 rename_i B g C j;refine⟨J,J,J,J,λb A=>?_,zia _ _ _ _ h⟩;rw[K5]at g j;have D:¬65536<b.size:=λq=>g ⟨b,A,by simpa using q⟩
 have E:¬b.size<1:=λq=>j ⟨b,A,by simp[q]⟩
 omega
def zjm{o:Lo}(h:Rj z T o=true)(k:o.kind=16):1≤o.imm.toNat∧o.imm.toNat≤1048576:=by
 unfold Rj at h;simp[k,Qd]at h;obtain⟨_,_,_,_,_,_,_,g,j⟩:=h;have g:=Mu.1 g;have j:=Mu.1 j;exact⟨g,j⟩
def t9(l:List Nat):List LV:=l.reverse.map λ(a:Nat)=>LV.i (a:Int)
def zjv(a:Nat)(l:List Nat):t9 (a::l)=t9 l++[.i (a:Int)]:=by simp[t9]
def zo1(l:List Nat):(t9 l).length=l.length:=by simp[t9]
def fw{l:List Lo}{i:Nat}{v:Lo}(h:l[i]?=some v):(Se l)[i*8]?=some (.i v.kind):=by have:=t8 h (j:=0) J;simpa [Lo.f] using this
def lo_at7{l:List Lo}{i:Nat}{v:Lo}(h:l[i]?=some v):(Se l)[i*8+7]?=some (.u v.imm):=by have:=t8 h (j:=7) J;simpa [Lo.f] using this
def zro{l:List LV}{i:Nat}{x:LV}(h:i<l.length):Po l i [x]=l.set i x:=by
 rw[La,J8 h];simp[Po]
def zl(l:List Int)(i:Nat)(x:Int)(h:i<l.length):Po (l.map LV.i) i [.i x]=(l.set i x).map LV.i:=by
 rw[K9,La,J8 Ar];simp[Po]
def repIs(n:Nat):Qo [.i 0] n=(List.replicate n (0:Int)).map LV.i:=by
 induction n with
 |zero=>rfl
 |succ n g=>rw[Qo,g,Mt];rfl
def zjx{os:List Lo}(hc:(R8 z T os).2=0)(D:Wq Rt 0 os):Rd 44 [.agg (Oq z T os)] (.lst ((V4 0 [] (List.replicate os.length 0) os).map .i) os.length 1):=by
 obtain⟨_,_,_,gI,_,gB⟩:=z5y hc;refine T2.mk Hs (O0 r_ref12_Ends Aa (by simp) ?_);simp[ze1,Oq];refine Pm (z3h z T os) (bors_self _ Bi) ?_;obtain⟨gH,hE⟩:∃gH,V4 0 [] (List.replicate os.length 0) os=gH:=⟨_,rfl⟩;have gK:gH.length=os.length:=by rw[←hE,endsR_len];simp
 rw[hE];simp[hc];refine⟨J,?_⟩;refine Ql (λρ gO gg N=>∃(i st:Nat) (j:List Int) (B:List Nat) (v:LV),gO=[]∧N+i=os.length∧lk ρ 1=.ptr 0 0∧lk ρ 5=.dy 1 0∧lk ρ 6=v∧lk ρ 7=.i i∧gg[0]?=some (.cells (Oq z T os) 0)∧gg[1]?=some (.dyn (j.map .i) os.length 1 0 st)∧j.length=os.length∧Pz 2 gg v 1 B.length (t9 B)∧2≤gg.length ∧
   (∀a∈B,a<i)∧B.length≤i∧Wq Rt B.length (os.drop i)∧V4 i B j (os.drop i)=gH) (N:=os.length)
  ⟨0,0,List.replicate os.length 0,[],.nilSl,rfl,J,by simp,by simp,by simp,by simp,Ca,by simp[repIs],by simp,Pz.nil,by simp,by simp,by simp,by simpa using D,by simpa using hE⟩ ?_
 clear D;rintro N ρ gO gg ⟨i,st,j,B,v,rfl,hN,K,I,U,P,E,G,g,gC,V,H,L,D,F⟩ Nx M;by_cases gA:i<os.length
 case neg =>
  rw[Lv J]at F;have:j=gH:=F;subst this;simp[K,I,P,E,Oq,gA,Ra,bor,G,Yt]
 have ho:=zgf gA;have O:=fw ho;have gL:=gB _ (Kg ho);rw[zem gA]at F D;generalize dh os i=o at *;have l0:0<gg.length:=J
 have l1:1<gg.length:=J
 have gM:=xd gA;unfold V4 at F;unfold Wq at D;have Q:∀x:LObj,(gg.set 1 x)[0]?=some (.cells (Oq z T os) 0):=λx=>by rw[Jy J];exact E
 have s1:∀x:LObj,(gg.set 1 x)[1]?=some x:=λx=>J1 l1
 have R:∀x:LObj,Pz 2 (gg.set 1 x) v 1 B.length (t9 B):=λx=>gC.set_lt J
 by_cases A:o.kind=16
 ·rw[J8 A]at F;rw[J8 (by simp[Rt,A])]at D;simp[K,I,U,P,E,G,Oq,gA,g,zl,↓Q,Ov O,A]
  repeat (refine⟨J,?_⟩)
  refine Pz.push (x:=[.i (i:Int)]) (R _).push_end J Ab J rfl rfl λv' G5 gD X gF _=>?_
  simp[P];refine⟨J,M _ _ _ ⟨N-1,J,i+1,st+1,j.set i (-1),i::B,v',rfl,J,Bm,Cu,by simp,by simp,?_,?_,Bc,by rw[zjv];exact gD,by simp at gF;omega,λa ha=>?_,Ab,D,F⟩⟩
  ·rw[X 0 J,Oo (by simpa using l0)];exact Q _
  ·rw[X 1 J,Oo (by simpa using l1),←K9];exact s1 _
  ·rcases J9.1 ha with rfl|ha
   ·omega
   ·have:=H a ha;omega
 by_cases C:o.kind=17
 ·rw[J2 A,J8 C]at F;rw[J2 (by simp[Rt,C]),J8 (by simp[Rt,C])]at D;obtain⟨hd,D⟩:=D;cases B with
  |nil=>simp at hd
  |cons a B =>
  have ha:=H a (Kx ..);simp[K,I,U,P,E,G,Oq,gA,g,zl,↓Q,Ov O,A,C]
  repeat (refine⟨J,?_⟩)
  refine (R _).lenL ?_;simp;refine⟨by simp at L;omega,(R _).at1 J Ab λw hw=>?_⟩;simp;refine hw _ ?_;have Y:(t9 (a::B))[B.length]?=some (.i (a:Int)):=by
   rw[zjv,Kj (by rw[zo1];exact J4 _)];simp[zo1]
  simp only[Ky];refine⟨_,Y,?_⟩;simp[U];refine (R _).lenL ?_;simp;refine⟨by simp at L;omega,(R _).cut (m:=B.length) (by simp) (λK' k'=>k') (λd K' k'=>⟨J,k'⟩) λv' Z=>?_⟩;have gG:a<os.length:=J
  simp[I,P,↓s1,gA,g,zro,gG];rw[zjv,Mr (by rw[zo1];omega)]at Z
  repeat (refine⟨J,?_⟩)
  refine M _ _ _ ⟨N-1,J,i+1,st+1+1+1,((j.set i (-1)).set i a).set a i,B,v',rfl,J,Bm,Cu,by simp,by simp,?_,?_,Bc,?_,by simpa using V,λx Y=>by have:=H x (Kl _ Y);omega,by simp at L;omega,?_,F⟩
  ·exact Q _
  ·rw[J1 (by simpa using l1)];simp
  ·have h:=Z.set_lt (q:=1) (ob:=.dyn ((((j.map LV.i).set i (.i (-1))).set i (.i a)).set a (.i i)) os.length 1 0 (st+1+1+1)) J;rw[List.set_set]at h;simpa using h
  ·simpa using D
 rw[J2 A,J2 C]at F;rw[J2 (by simp[Rt,A];split<;>simp),J2 (by simp[Rt,A,C])]at D;simp[K,I,U,P,E,G,Oq,gA,g,zl,↓Q,Ov O,A,C]
 repeat (refine⟨J,?_⟩)
 refine M _ _ _ ⟨N-1,J,i+1,st+1,j.set i (-1),B,v,rfl,J,Bm,Cu,Fl,by simp,Q _,?_,Bc,R _,by simpa using V,λx Y=>by have:=H x Y;omega,J,D.2,F⟩;rw[←K9];exact s1 _
def um(l:List (Int×Int)):List LV:=l.reverse.map λe=>LV.i e.1
def tq(l:List (Int×Int)):List LV:=l.reverse.map λe=>LV.i e.2
def zez(a:Int×Int)(l:List (Int×Int)):um (a::l)=um l++[.i a.1]:=by simp[um]
def zeq(a:Int×Int)(l:List (Int×Int)):tq (a::l)=tq l++[.i a.2]:=by simp[tq]
def zk2(l:List (Int×Int)):(um l).length=l.length:=by simp[um]
def zj9(l:List (Int×Int)):(tq l).length=l.length:=by simp[tq]
def zho{os:List Lo}(hc:(R8 z T os).2=0)(G:Wq Rt 0 os):O2 42 [.agg (Oq z T os)] (.i (Wh [] 0 os)) []:=by
 obtain⟨_,_,_,jE,_,gR⟩:=z5y hc;refine P4.val rfl (O0 r_ref12_Steps Aa (by simp) ?_);simp[zc0,Oq];refine Pm (z3h z T os) (bors_self _ Bi) ?_;obtain⟨jD,B⟩:∃jD,Wh [] 0 os=jD:=⟨_,rfl⟩;rw[B];simp[hc];refine Ql (λρ jI gD N=>∃(i:Nat) (s:Int) (g:List (Int×Int)) (v w:LV),jI=[]∧N+i=os.length∧lk ρ 1=.ptr 0 0∧lk ρ 5=v∧lk ρ 6=.i s∧lk ρ 7=w∧lk ρ 8=.i i∧gD[0]?=some (.cells (Oq z T os) 0)∧Pz 1 gD v 1 g.length (um g)∧Pz 1 gD w 1 g.length (tq g)∧(∀q,Zl v=some q→Zl w≠some q)∧1≤gD.length ∧
   (0≤s∧s≤1125899906842624)∧(∀e∈g,(0≤e.1∧e.1≤1125899906842624)∧1≤e.2∧e.2≤1048576)∧g.length≤i∧Wq Rt g.length (os.drop i)∧Wh g s (os.drop i)=jD) (N:=os.length)
  ⟨0,0,[],.nilSl,.nilSl,rfl,J,by simp,by simp,by simp,by simp,by simp,Ca,Pz.nil,Pz.nil,by simp[Zl],by simp,by simp,by simp,by simp,Cr,by simpa using B⟩ ?_
 clear G B;rintro N ρ jI gD ⟨i,s,g,v,w,rfl,hN,Q,M,U,R,V,j,O,hw,C,X,⟨gF,D⟩,I,gT,G,B⟩ Nx P;by_cases gU:i<os.length
 case neg =>
  rw[Lv J]at B;have:s=jD:=B;subst this;simp[Q,M,U,V,j,Oq,gU]
 have ho:=zgf gU;have Y:=fw ho;have gV:=lo_at7 ho;have gX:=gR _ (Kg ho);rw[zem gU]at B G;generalize dh os i=o at *;have l0:0<gD.length:=J
 have jF:=xd gU;have jC:i*8+7<(Se os).length:=J
 unfold Wh at B;unfold Wq at G;by_cases A:o.kind=16
 ·rw[J8 A]at B;rw[J8 (by simp[Rt,A])]at G;obtain⟨t1,t2⟩:=zjm gX A;have e1:0≤((o.imm.toNat:Nat):Int):=J
  have q0:∀x:List LObj,(gD++x)[0]?=some (.cells (Oq z T os) 0):=λx=>(Oo l0).trans j
  have z0:∀(x:List LObj) (h:0<(gD++x).length),(gD++x)[0]=.cells (Oq z T os) 0:=λx h=>Option.some.inj ((J5 h).symm.trans (q0 x))
  simp[Q,M,U,R,V,j,Oq,gU,Ov Y,Ov gV,A,↓q0,z0];refine⟨J,?_⟩;refine Pz.push2 (x:=[.i s]) O.push_end J (by simp) J rfl rfl λZ G5 gg gA gY gZ=>?_
  simp at gY;have gG:G5[0]?=some (.cells (Oq z T os) 0):=by rw[gA 0 (by simp) (λe=>by have:=(O.row e).1;omega)];exact q0 _
  have jg:G5[gD.length+1]?=some (.dyn [.i (o.imm.toNat:Int)] 1 1 0 0):=by
   rw[gA _ (by simp) (λe=>by have:=(O.row e).2.1;omega),Kj J,(J:gD.length+1-gD.length=1)];rfl
  have gH:Pz 1 G5 w 1 g.length (tq g):=(hw.push_end (ob:=[.dyn [.i s] 1 1 0 0,.dyn [.i (o.imm.toNat:Int)] 1 1 0 0])).frame2 λq H=>gA q (by have:=(hw.row H).2.1;simp;omega) (λe=>C q e H)
  simp[gG,jg,Oq,z0];refine Pz.push2 (x:=[.i (o.imm.toNat:Int)]) gH J J J rfl rfl λw' G6 jz gI jG jA=>?_
  have gK:∀q,Zl Z=some q→Zl w≠some q:=λq H e=>by
   rcases gZ with h|h
   ·exact C q (by rw[←h];exact H) e
   ·rw[h]at H;have:=(hw.row e).2.1;have H:=Option.some.inj H;simp at H;omega
  have jB:Pz 1 G6 Z 1 (g.length+1) (um g++[.i s]):=gg.frame2 λq H=>gI q (gg.row H).2.1 (gK q H)
  have gL:G6[0]?=some (.cells (Oq z T os) 0):=by rw[gI 0 J (λe=>by have:=(gH.row e).1;omega)];exact gG
  simp[gL,Oq,V];refine⟨J,P _ _ _ ⟨N-1,J,i+1,1,(s,(o.imm.toNat:Int))::g,Z,w',rfl,J,Ee,by simp,by simp,by simp,by simp,gL,by rw[zez];exact jB,by rw[zeq];exact jz,λq H=>?_,J,⟨J,J⟩,λe he=>?_,Ab,G,B⟩⟩
  ·rcases jA with h|h
   ·rw[h];exact gK q H
   ·rw[h];have:=(gg.row H).2.1;intro e;have e:=Option.some.inj e;omega
  ·rcases J9.1 he with rfl|he
   ·exact⟨⟨gF,D⟩,by show (1:Int)≤_;omega,by show _≤(1048576:Int);omega⟩
   ·exact I e he
 by_cases E:o.kind=17
 ·rw[J2 A,J8 E]at B;rw[J2 (by simp[Rt,E]),J8 (by simp[Rt,E])]at G;obtain⟨hd,G⟩:=G;cases g with
  |nil=>simp at hd
  |cons a g =>
  obtain⟨a0,L⟩:=a;obtain⟨⟨b0,b1⟩,b2,b3⟩:=I _ (Kx ..);dsimp only at b0 b1 b2 b3 B;have gM:(um ((a0,L)::g))[g.length]?=some (.i a0):=by
   rw[zez,Kj (by rw[zk2];exact J4 _)];simp[zk2]
  have gO:(tq ((a0,L)::g))[g.length]?=some (.i L):=by
   rw[zeq,Kj (by rw[zj9];exact J4 _)];simp[zj9]
  simp[Q,M,U,R,V,j,Oq,gU,Ov Y,A,E];refine O.lenL ?_;simp[R,U];simp at gT;refine⟨J,hw.at1 J Ab λx hx=>?_⟩;simp;refine hx _ ?_;simp only[Ky];refine⟨_,gO,?_⟩;simp[U];have ht:Int.tdiv 1125899906842624 L=1125899906842624/L:=Od J;rw[ht];have t0:0≤1125899906842624/L:=Int.ediv_nonneg J J;have t1:1125899906842624/L≤1125899906842624:=Int.ediv_le_self _ J;refine⟨J,J,λq=>?_,λq=>?_⟩
  ·rw[J8 q]at B;simp[M];refine O.at1 J Ab λy hy=>?_
   simp;refine hy _ ?_;simp only[Ky];refine⟨_,gM,?_⟩;simp[M]
   repeat (refine⟨J,?_⟩)
   refine O.cut2 (m:=g.length) (by simp) (λK' F=>F) (λd K' F=>F) λZ D gB=>?_
   simp[R];refine hw.cut2 (m:=g.length) (by simp) (λK' F=>F) (λd K' F=>F) λw' K gC=>?_
   rw[zez,Mr (by rw[zk2];omega)]at D;rw[zeq,Mr (by rw[zj9];omega)]at K;simp[V,j,Oq];refine⟨J,P _ _ _ ⟨N-1,J,i+1,_,g,Z,w',rfl,J,Ee,by simp,by simp,by simp,by simp,j,D,K,λq=>by rw[gB,gC];exact C q,X,⟨J,J⟩,λe he=>I e (Kl _ he),J,Cr,B⟩⟩
  ·rw[J2 J]at B;have hm:0≤s*L:=Int.mul_nonneg gF J;have jH:s*L≤1125899906842624:=N7 (Int.mul_le_mul_of_nonneg_right (J:s≤1125899906842624/L) J) (Int.ediv_mul_le _ J);simp[U,R];refine hw.at1 J Ab λjK hz=>?_
   simp;refine hz _ ?_;simp only[Ky];refine⟨_,gO,?_⟩;simp[M]
   repeat (refine⟨J,?_⟩)
   refine O.at1 J Ab λy hy=>?_
   simp;refine hy _ ?_;simp only[Ky];refine⟨_,gM,?_⟩;simp[M]
   repeat (refine⟨J,?_⟩)
   refine O.cut2 (m:=g.length) (by simp) (λK' F=>F) (λd K' F=>F) λZ D gB=>?_
   simp[R];refine hw.cut2 (m:=g.length) (by simp) (λK' F=>F) (λd K' F=>F) λw' K gC=>?_
   rw[zez,Mr (by rw[zk2];omega)]at D;rw[zeq,Mr (by rw[zj9];omega)]at K;simp[V,j,Oq];refine⟨J,P _ _ _ ⟨N-1,J,i+1,_,g,Z,w',rfl,J,Ee,by simp,by simp,by simp,by simp,j,D,K,λq=>by rw[gB,gC];exact C q,X,⟨J,J⟩,λe he=>I e (Kl _ he),J,Cr,B⟩⟩
 rw[J2 A,J2 E]at B;rw[J2 (by simp[Rt,A];split<;>simp),J2 (by simp[Rt,A,E])]at G;simp[Q,M,U,R,V,j,Oq,gU,Ov Y,A,E]
 repeat (refine⟨J,?_⟩)
 refine P _ _ _ ⟨N-1,J,i+1,_,g,v,w,rfl,J,Ee,Bh,by simp,De,by simp,j,O,hw,C,X,⟨J,J⟩,I,J,G.2,B⟩
section
def z73:LC:=(.q [.z 4 (.move (.c (.u 0)))] (.seq (.q [.m 5 1,.b 6 .lss 3 5 0] (.cond (.t 6) (.q [.z 4 (.move (.c (.u 0)))] .ret) .skip)) (.q [.m 7 0,.N 8 7,.f 9 3 8,.l 10 9,.m 11 1,.I 12 1 10 11,.l 13 12,.m 4 13] .ret)))
def r_ref12_run_at:Oz Tryz.prog 82=some ⟨14,z73.r,[.tmp 4]⟩:=Aa
def zaw:LC:=(.q [.F 4] (.q [.m 17 0,.N 18 17,.f 19 0 18,.f 20 2 19,.l 21 20,.m 22 1,.I 23 8 21 22,.L 24 8 23,.z 5 (.alloc [(.i 0),(.i 0),(.i 0),(.i 0),(.i 0),(.i 0),(.i 0),(.u 0)]),.S 8 5 24] (.seq (.draw [(.m 25 0,[]),(.f 26 3 5,[]),(.l 27 26,[]),(.m 29 0,[]),(.f 30 4 5,[]),(.l 31 30,[]),(.m 33 0,[]),(.f 34 5 5,[]),(.l 35 34,[]),(.W 28 82 25 27,[(.l 35 34,false),(.l 31 30,false)]),(.W 32 82 29 31,[(.l 35 34,false)]),(.W 36 82 33 35,[]),(.u 37 .rem 23 36 2,[]),(.u 38 .eql 23 37 1,[]),(.m 6 28,[]),(.m 7 32,[]),(.m 8 38,[])]) (.q [.K 9 (-1)] (.q [.z 10 (.move (.c (.u 0))),.z 11 (.move (.c (.u 0)))] (.seq (.q [.f 39 0 5,.l 40 39] (.block 0 (.q [.b 42 .eql 3 40 1,.m 41 42] (.cond (.t 41) (.ops [.f 43 7 5,.l 44 43,.m 10 44]) (.q [.b 46 .eql 3 40 2,.m 45 46] (.cond (.t 45) (.ops [.m 47 6,.m 10 47]) (.q [.b 49 .eql 3 40 3,.m 48 49] (.cond (.t 48) (.ops [.m 50 6,.m 51 7,.c 52 .add 23 50 51,.m 10 52]) (.q [.b 54 .eql 3 40 4,.m 53 54] (.cond (.t 53) (.ops [.m 55 6,.m 56 7,.c 57 .sub 23 55 56,.m 10 57]) (.q [.b 59 .eql 3 40 5,.m 58 59] (.cond (.t 58) (.ops [.m 60 6,.m 61 7,.c 62 .and 23 60 61,.m 10 62]) (.q [.b 64 .eql 3 40 6,.m 63 64] (.cond (.t 63) (.ops [.m 65 6,.m 66 7,.c 67 .or 23 65 66,.m 10 67]) (.q [.b 69 .eql 3 40 7,.m 68 69] (.cond (.t 68) (.ops [.m 70 6,.m 71 7,.c 72 .xor 23 70 71,.m 10 72]) (.q [.b 74 .eql 3 40 8,.m 73 74] (.cond (.t 73) (.ops [.m 75 6,.f 76 7 5,.l 77 76,.c 78 .shl 23 75 77,.m 10 78]) (.q [.b 80 .eql 3 40 9,.m 79 80] (.cond (.t 79) (.ops [.m 81 6,.f 82 7 5,.l 83 82,.c 84 .shr 23 81 83,.m 10 84]) (.q [.b 86 .eql 3 40 10,.m 85 86] (.cond (.t 85) (.ops [.m 88 6,.m 89 7,.W 90 48 88 89,.m 87 90,.X 91 0 87,.X 92 1 87,.m 10 91,.m 11 92]) (.q [.b 94 .eql 3 40 11,.m 93 94] (.cond (.t 93) (.q [.m 96 6,.m 97 7,.m 98 8,.V 99 49 96 97 98,.m 95 99,.X 100 0 95,.X 101 1 95,.m 12 100,.m 13 101] (.ops [.m 102 12,.m 103 13,.w 104 83 103,.m 10 102,.m 11 104])) (.q [.b 106 .eql 3 40 12,.m 105 106] (.cond (.t 105) (.q [.m 108 6,.m 109 7,.m 110 8,.V 111 84 108 109 110,.m 107 111,.X 112 0 107,.X 113 1 107,.m 14 112,.m 15 113] (.ops [.m 114 14,.m 115 15,.w 116 83 115,.m 10 114,.m 11 116])) (.q [.b 118 .eql 3 40 13,.m 117 118] (.cond (.t 117) (.q [.m 119 7,.m 10 119] (.q [.m 120 8] (.cond (.t 120) (.ops [.m 121 6,.m 10 121]) .skip))) (.seq (.q [.b 123 .eql 3 40 14,.m 122 123] (.cond (.t 122) .skip (.ops [.b 124 .eql 3 40 15,.m 122 124]))) (.cond (.t 122) (.q [.f 125 7 5,.l 126 125,.m 127 6,.c 128 .add 23 126 127,.m 16 128] (.seq (.seq (.draw [(.m 129 16,[]),(.m 130 0,[]),(.N 131 130,[]),(.f 132 4 131,[]),(.l 133 132,[]),(.f 134 6 5,[]),(.l 135 134,[]),(.I 136 1 133 135,[]),(.l 137 136,[]),(.s 138 137,[]),(.z 139 (.cvInt .u64 (.t 138)),[]),(.c 140 .geq 23 129 139,[])]) (.cond (.t 140) (.q [.F 4] .ret) .skip)) (.q [.m 141 16,.z 142 (.cvInt .i64 (.t 141)),.m 9 142] (.q [.f 143 0 5,.l 144 143,.b 145 .eql 3 144 15] (.cond (.t 145) (.draw [(.m 146 0,[]),(.N 147 146,[]),(.f 148 4 147,[]),(.l 149 148,[]),(.f 150 6 5,[]),(.l 151 150,[]),(.I 152 1 149 151,[]),(.l 153 152,[]),(.m 154 16,[]),(.m 155 7,[]),(.I 156 1 153 154,[]),(.S 1 156 155,[])]) (.draw [(.m 157 0,[]),(.N 158 157,[]),(.f 159 4 158,[]),(.l 160 159,[]),(.f 161 6 5,[]),(.l 162 161,[]),(.I 163 1 160 162,[]),(.l 164 163,[]),(.m 165 16,[]),(.I 166 1 164 165,[]),(.l 167 166,[]),(.m 10 167,[])])))))) .skip)))))))))))))))))))))))))))))) (.seq (.q [.f 168 1 5,.l 169 168,.b 170 .geq 3 169 0] (.cond (.t 170) (.draw [(.m 171 0,[]),(.N 172 171,[]),(.f 173 3 172,[]),(.l 174 173,[]),(.f 175 1 5,[]),(.l 176 175,[]),(.m 177 10,[]),(.I 178 1 174 176,[]),(.S 1 178 177,[])]) .skip)) (.seq (.q [.f 179 2 5,.l 180 179,.b 181 .geq 3 180 0] (.cond (.t 181) (.draw [(.m 182 0,[]),(.N 183 182,[]),(.f 184 3 183,[]),(.l 185 184,[]),(.f 186 2 5,[]),(.l 187 186,[]),(.m 188 11,[]),(.I 189 1 185 187,[]),(.S 1 189 188,[])]) .skip)) (.q [.m 190 0,.m 191 0,.N 192 191,.f 193 5 192,.l 194 193,.m 195 1,.m 196 9,.z 197 (.build [(.i 0),(.i 0)] [(0,1,.t 195),(1,1,.t 196)]),.z 198 (.buildSl 2 1 [(.i 0),(.i 0)] [(0,2,.t 197)]),.a 199 2 194 198,.N 200 190,.f 201 5 200,.S 1 201 199] (.q [.z 4 (.move .T)] .ret))))))))))
def r_ref12_run_do:Oz Tryz.prog 45=some ⟨202,zaw.r,[.tmp 4]⟩:=Aa
def ae(bs:List Bf)(X:List (List UInt64)):Bool:=decide (X.length=bs.length∧∀i,i<bs.length→((X.getD i []).length:Int)=if (Oy bs i).kind=3 then 0 else (Oy bs i).size)
def zj4(regs:Int)(bs:List Bf)(os:List Lo)(F:List (List UInt64))(hX:F.length≤9223372036854775807):O2 43 [.agg (Oq regs bs os),LN F] (.bool (ae bs F)) []:=by
 refine P4.val rfl (O0 r_ref12_Rows Aa (by simp) ?_);by_cases I:F.length=bs.length
 case neg =>
  have T:¬(F.length:Int)=bs.length:=J
  simp[z9n,Oq,ae,I,T]
 simp[z9n,Oq,I];refine Ql (λY gg G N=>∃i:Nat,gg=[]∧G=[.cells (Oq regs bs os) 0]∧N+i=bs.length∧lk Y 1=LN F∧lk Y 2=.ptr 0 0∧lk Y 5=.i i∧∀B,B<i→((F.getD B []).length:Int)=if (Oy bs B).kind=3 then 0 else (Oy bs B).size) (N:=bs.length)
  ⟨0,rfl,Ca,J,Cu,by simp,by simp,λB h=>J⟩ ?_
 rintro N Y gg G ⟨i,rfl,rfl,hN,C,D,K,X⟩ Nx M;by_cases R:i<bs.length
 case neg =>
  have:ae bs F=true:=by
   unfold ae;exact Ll ⟨I,λB Z=>X B J⟩
  simp[C,D,K,I,R,this]
 have P:=uu (S8 R);have Q:=zib (S8 R);have O:i<F.length:=J
 have j:¬F.length≤i:=J
 obtain⟨x,U⟩:∃x,F.getD i []=x:=⟨_,rfl⟩;have z:F[i]=x:=by rw[←U];simp[O]
 have A:¬(x.length:Int)=(if (Oy bs i).kind=3 then 0 else (Oy bs i).size)→ae bs F=false:=λh=>by
  unfold ae;exact Nh (λq=>h (by rw[←U];exact q.2 i R))
 have g:(x.length:Int)=(if (Oy bs i).kind=3 then 0 else (Oy bs i).size)→∀B,B<i+1→((F.getD B []).length:Int)=if (Oy bs B).kind=3 then 0 else (Oy bs B).size:=λh B Z=>by
  by_cases q:B=i
  ·rw[q,U];exact h
  ·exact X B J
 by_cases H:(Oy bs i).kind=3
 ·rw[J8 H]at A g;by_cases e:(x.length:Int)=0
  ·have V:x=[]:=Kk J;have E:=g e;subst V;simp[C,D,K,Oq,R,O,j,Ov P,Ov Q,H,z]
   repeat (refine⟨J,?_⟩)
   exact M _ _ _ ⟨N-1,J,i+1,rfl,Ca,J,As,Ae,by simp,E⟩
  ·have e':x≠[]:=λq=>e Ga
   simp[C,D,K,Oq,R,O,j,Ov P,Ov Q,H,z,e',A e]
 ·rw[J2 H]at A g;by_cases e:(x.length:Int)=(Oy bs i).size
  ·simp[C,D,K,Oq,R,O,j,Ov P,Ov Q,H,z,e]
   repeat (refine⟨J,?_⟩)
   exact M _ _ _ ⟨N-1,J,i+1,rfl,Ca,J,As,Ae,by simp,g e⟩
  ·simp[C,D,K,Oq,R,O,j,Ov P,Ov Q,H,z,e,A e]
def Z0(l:List (Int×Int)):List LV:=l.flatMap λe=>[.i e.1,.i e.2]
def zt2(a b:List (Int×Int)):Z0 (a++b)=Z0 a++Z0 b:=by simp[Z0]
structure MsH (G:Ok) (x pr pb kb:Nat) (qs:List Nat) (b:Nat) (regs:Int) (bs:List Bf) (os:List Lo) (L:LV) (s:Ms):Prop where
 xc:∃st,G[x]?=some (.cells [.i regs,.lst (Qs bs) bs.length 3,.lst (Se os) os.length 8,.dy pr 0,.dy pb kb,L] st)
 rr:∃st,G[pr]?=some (.dyn (s.r.map .u) s.r.length 1 0 st)
 bb:∃st,G[pb]?=some (.dyn (qs.map λq=>.dy q 0) qs.length 1 kb st)
 row:∀j,j<qs.length→∃st,G[qs.getD j 0]?=some (.dyn ((s.bufs.getD j []).map .u) (s.bufs.getD j []).length 1 0 st)
 bl:s.bufs.length=qs.length
 lt:x<b∧pr<b∧pb<b∧x≠pr∧x≠pb∧pr≠pb
 qlt:∀q∈qs,q<b∧q≠x∧q≠pr∧q≠pb
 nd:qs.Nodup
 ev:Pz b G L 2 s.l.length (Z0 s.l)
 bG:b≤G.length
section msh
variable {G G' : Ok} {x pr pb kb : Nat} {qs : List Nat} {b : Nat} {regs : Int} {bs : List Bf} {os : List Lo} {L : LV} {s : Ms}
def MsH.keep(h:MsH G x pr pb kb qs b regs bs os L s)(hf:∀q,q<G.length→G'[q]?=G[q]?)(hl:G.length≤G'.length):MsH G' x pr pb kb qs b regs bs os L s:=by
 have e:∀{q:Nat} {ob:LObj},G[q]?=some ob→G'[q]?=some ob:=λj=>by rw[hf _ (Jx.1 j).1];exact j
 refine⟨?_,?_,?_,λgg hj=>?_,h.bl,h.lt,h.qlt,h.nd,h.ev.frame λq _ j=>hf q j,K4 h.bG hl⟩
 ·obtain⟨st,h⟩:=h.xc;exact⟨st,e h⟩
 ·obtain⟨st,h⟩:=h.rr;exact⟨st,e h⟩
 ·obtain⟨st,h⟩:=h.bb;exact⟨st,e h⟩
 ·obtain⟨st,h⟩:=h.row gg hj;exact⟨st,e h⟩
def zde{r:Int}(h:MsH G x pr pb kb qs b regs bs os L s)(B:r<s.r.length)(k:vZ (.u (atR s.r r)) G):Qa (.fn 82) [.ptr x 0,.i r] G vZ:=by
 refine O0 r_ref12_run_at Aa N ?_;obtain⟨C,j⟩:=h.xc;obtain⟨D,z⟩:=h.rr;unfold atR at k;by_cases A:r<0
 ·rw[J8 A]at k;simp[z73,A];exact k
 ·rw[J2 A]at k;obtain⟨n,rfl⟩:=J3 (J:0≤r);have g:n<s.r.length:=J
  have q:(s.r.map LV.u)[n]?=some (.u (s.r.getD n 0)):=by simp[g,J0]
  rw[Ky]at k;rw[show s.r.getD n 0=s.r[n] from by simp[J0,g]]at k;simp[z73,j,z,g,(J:¬((n:Int)<0))];exact k
def MsH.putr(h:MsH G x pr pb kb qs b regs bs os L s){i:Int}{v:UInt64}{st:Nat}:MsH (G.set pr (.dyn ((Ot s.r i v).map .u) s.r.length 1 0 st)) x pr pb kb qs b regs bs os L ⟨s.i,s.first,Ot s.r i v,s.bufs,s.l⟩:=by
 obtain⟨l1,l2,l3,l4,l5,l6⟩:=h.lt;have j:pr<G.length:=by obtain⟨st,h⟩:=h.rr;exact (Jx.1 h).1
 have gg:(Ot s.r i v).length=s.r.length:=Ft
 have ne:∀{q:Nat} {ob:LObj},q≠pr→(G.set pr ob)[q]?=G[q]?:=λhq=>Jy (Ne.symm hq)
 refine⟨?_,⟨st,?_⟩,?_,λgA hj=>?_,h.bl,h.lt,h.qlt,h.nd,h.ev.set_lt l2,by rw[L7];exact h.bG⟩
 ·obtain⟨st,h⟩:=h.xc;exact⟨st,by rw[ne l4];exact h⟩
 ·rw[J1 j];show _=some (LObj.dyn ((Ot s.r i v).map .u) (Ot s.r i v).length 1 0 st);rw[gg]
 ·obtain⟨st,h⟩:=h.bb;exact⟨st,by rw[ne (Ne.symm l6)];exact h⟩
 ·obtain⟨st,h'⟩:=h.row gA hj;refine⟨st,?_⟩;rw[ne (h.qlt _ Gu).2.2.1];exact h'
def MsH.sto(h:MsH G x pr pb kb qs b regs bs os L s){j:Nat}{row:List UInt64}{st:Nat}(hj:j<qs.length):MsH (G.set (qs.getD j 0) (.dyn (row.map .u) row.length 1 0 st)) x pr pb kb qs b regs bs os L ⟨s.i,s.first,s.r,s.bufs.set j row,s.l⟩:=by
 obtain⟨l1,l2,l3,l4,l5,l6⟩:=h.lt;obtain⟨q1,q2,q3,q4⟩:=h.qlt (qs.getD j 0) Gu;have gA:qs.getD j 0<G.length:=by obtain⟨st,h⟩:=h.row j hj;exact (Jx.1 h).1
 have ne:∀{q:Nat} {ob:LObj},q≠qs.getD j 0→(G.set (qs.getD j 0) ob)[q]?=G[q]?:=λhq=>Jy (Ne.symm hq)
 refine⟨?_,?_,?_,λk hk=>?_,by simpa using h.bl,h.lt,h.qlt,h.nd,h.ev.set_lt q1,by rw[L7];exact h.bG⟩
 ·obtain⟨st,h⟩:=h.xc;exact⟨st,by rw[ne (Ne.symm q2)];exact h⟩
 ·obtain⟨st,h⟩:=h.rr;exact⟨st,by rw[ne (Ne.symm q3)];exact h⟩
 ·obtain⟨st,h⟩:=h.bb;exact⟨st,by rw[ne (Ne.symm q4)];exact h⟩
 ·show ∃gg,_=some (LObj.dyn (((s.bufs.set j row).getD k []).map .u) ((s.bufs.set j row).getD k []).length 1 0 gg);rw[jy _ _ _ _ _ (by rw[h.bl];exact hj)];by_cases e:k=j
  ·subst e;rw[J8 rfl];exact⟨st,J1 gA⟩
  ·rw[J2 e];obtain⟨gg,h'⟩:=h.row k hk;refine⟨gg,?_⟩;rw[ne (λq=>e ?_)]
   ·exact h'
   ·simp only[J0,J5 hk,J5 hj,Ln]at q;exact (List.getElem_inj h.nd).1 q
end msh
def zg2{regs:Int}{bs:List Bf}{o:Lo}(h:Rj regs bs o=true):(o.d=-1∨0≤o.d∧o.d<regs)∧(o.e=-1∨0≤o.e∧o.e<regs)∧(o.a=-1∨0≤o.a∧o.a<regs)∧(o.b=-1∨0≤o.b∧o.b<regs)∧(o.c=-1∨0≤o.c∧o.c<regs)∧(o.kind=14∨o.kind=15→0≤o.buf∧o.buf<bs.length):=by
 unfold Rj at h;simp only[Jz]at h;obtain⟨_,d,e,a,b,c,_,m⟩:=h;have f:∀{x:Int} {t:Bool},Sa regs x t=true→x=-1∨0≤x∧x<regs:=λ{x t} h=>by
  unfold Sa at h;cases t with
  |true=>simp at h;exact .inr h
  |false=>simp at h;exact .inl h
 refine⟨f d,f e,?_,f b,f c,λk=>?_⟩
 ·simp only[K8,Jz,Kb]at a;exact a.elim f λq=>.inl q.2
 ·rw[J8 (by unfold Qd;simpa using k)]at m;simp only[Jz,Kb]at m;exact⟨m.1,m.2.1⟩
def PhiD(x pr pb kb:Nat)(qs:List Nat)(b:Nat)(regs:Int)(bs:List Bf)(os:List Lo)(L:LV)(s:Ms)(o:Lo)(z:Ok)(j:Om)(B:List Nat)(G:Ok):Prop :=
 B=[]∧lk j 0=.ptr x 0∧lk j 1=.i s.i∧∃(A:Nat) (d e:UInt64) (pl:Int) (g:List (List UInt64)),lk j 5=.ptr A 0∧b≤A∧G[A]?=some (.cells o.f 1)∧lk j 9=.i pl∧lk j 10=.u d∧lk j 11=.u e ∧
  MsH G x pr pb kb qs b regs bs os L ⟨s.i,s.first,s.r,g,s.l⟩∧Vi o s=some ⟨s.i+1,s.first,Ot (Ot s.r o.d d) o.e e,g,s.l++[((s.i:Int),pl)]⟩∧∀q,q<b→q ∉ qs→G[q]?=z[q]?
def xh{G:Ok}{x pr pb kb:Nat}{qs:List Nat}{b:Nat}{regs:Int}{bs:List Bf}{os:List Lo}{L:LV}{s:Ms}{o:Lo}(h:MsH G x pr pb kb qs b regs bs os L s)(ho:os[s.i]?=some o)(hf:Rj regs bs o=true)(j0:o.kind≠16)(j1:o.kind≠17)(j4:(s.r.length:Int)=regs)(j5:qs.length=bs.length)(j6:s.l.length≤900000000)
  (gU:∀x∈s.bufs,x.length≤65536)
  (kn:Vi o s=none→∀G',vZ (.bool false) G') (ks:∀s' G' L',Vi o s=some s'→MsH G' x pr pb kb qs b regs bs os L' s'→(∀q,q<b→q≠x→q≠pr→q ∉ qs→G'[q]?=G[q]?)→vZ (.bool true) G'):Qa (.fn 45) [.ptr x 0,.i s.i] G vZ:=by
 obtain⟨rd,re,ra,rb,rc,rm⟩:=zg2 hf;have j7:1≤o.kind∧o.kind≤17:=by
  unfold Rj at hf;simp only[Jz,Kb]at hf;exact hf.1
 have hC:o.f=[.i o.kind,.i o.d,.i o.e,.i o.a,.i o.b,.i o.c,.i o.buf,.u o.imm]:=rfl;have gV:=h.bG;obtain⟨s1,h1⟩:=h.xc;have lx:x<G.length:=(Jx.1 h1).1;have jH:=zak ho;have jI:=xd (Jx.1 ho).1;have gX:s.i<os.length:=(Jx.1 ho).1;refine O0 r_ref12_run_do Aa N ?_;rw[zaw,zcb,zcb,zcb,zcb,zcb];refine zx9 (PhiD x pr pb kb qs b regs bs os L s o G) (λNx H=>?_) (λρ jY G2 hΦ=>?_)
 ·simp[h1,gX,jH,jI,hC];have j:(G++[LObj.cells o.f 1])[G.length]?=some (.cells o.f 1):=Ke;have F:MsH (G++[LObj.cells o.f 1]) x pr pb kb qs b regs bs os L s:=h.keep (λq I=>Oo I) N;have B:∀q,q<b→q ∉ qs→(G++[LObj.cells o.f 1])[q]?=G[q]?:=λq I _=>Oo (Kr I gV)
  have gK:b≤G.length:=gV;rw[hC]at j F B;generalize G++[LObj.cells [.i o.kind,.i o.d,.i o.e,.i o.a,.i o.b,.i o.c,.i o.buf,.u o.imm] 1]=G1 at *;generalize G.length=jK at *;refine zde (r:=o.a) F J ?_;simp[j];refine zde (r:=o.b) F J ?_;simp[j];refine zde (r:=o.c) F J ?_;have gA:o.kind≠14→o.kind≠15→Vi o s=some ⟨s.i+1,s.first,Ot (Ot s.r o.d (Pf o (atR s.r o.a) (atR s.r o.b) (decide (atR s.r o.c%2=1))).1) o.e (Pf o (atR s.r o.a) (atR s.r o.b) (decide (atR s.r o.c%2=1))).2,s.bufs,s.l++[((s.i:Int),(-1:Int))]⟩:=λe1 e2=>by
   unfold Vi;rw[J2 e1,J2 e2]
  generalize gL:atR s.r o.a=z at *;generalize jL:atR s.r o.b=A at *;generalize j8:atR s.r o.c=vc at *;by_cases km:o.kind=14∨o.kind=15
  ·obtain⟨m0,m1⟩:=rm km;obtain⟨R,gB⟩:=J3 m0;have K:R<qs.length:=J
   obtain⟨s3,h3⟩:=F.row R K;obtain⟨s4,h4⟩:=F.bb;obtain⟨s5,h5⟩:=F.xc;have gG:(qs.map λq=>LV.dy q 0)[R]?=some (.dy (qs.getD R 0) 0):=by simp[J0,K]
   have gM:Uu s.bufs o.buf=s.bufs.getD R []:=by unfold Uu;rw[gB];rfl
   have gY:(s.bufs.getD R []).length≤65536:=gU _ (by simp[J0,h.bl,K]);have gZ:=λ(jM:List UInt64) (jO:Nat)=>F.sto (row:=jM) (st:=jO) K
   have j9:=(h.qlt (qs.getD R 0) (by simp[J0,K])).1;have jP:qs.getD R 0∈qs:=by simp[J0,K]
   have zg:qs.getD R 0<G1.length:=(Jx.1 h3).1;have gg:iU (((s.bufs.getD R []).length:Nat):Int)≤o.imm+z↔(s.bufs.getD R []).length≤(o.imm+z).toNat:=by
    rw[Mu,qx J]
   generalize s.bufs.getD R []=M at *;generalize qs.getD R 0=qn at *;generalize hn:(o.imm+z).toNat=n at *;by_cases C:n<M.length
   case neg =>
    have jg:M.length≤n:=J
    have jz:Vi o s=none:=by
     unfold Vi;rw[gM,gL,hn,J2 C,J2 C];rcases km with k|k
     ·rw[J8 k]
     ·rw[J2 J,J8 k]
    rcases km with k|k
    ·simp[j,k,h3,h4,h5,gB,K,Ov gG,U2,gg,jg,Oq];exact kn jz _
    ·simp[j,k,h3,h4,h5,gB,K,Ov gG,U2,gg,jg,Oq];exact kn jz _
   have gH:¬M.length≤n:=J
   rcases km with k|k
   ·have gO:Vi o s=some ⟨s.i+1,s.first,Ot (Ot s.r o.d M[n]) o.e 0,s.bufs,s.l++[((s.i:Int),(n:Int))]⟩:=by
     unfold Vi;rw[gM,gL,hn,J8 k,J8 C];simp[J0,C]
    simp[j,k,h3,h4,h5,gB,K,Ov gG,U2,gg,gH,hn,C,Oq]
    repeat (refine⟨J,?_⟩)
    exact H _ _ _ ⟨rfl,N,N,jK,_,_,(n:Int),s.bufs,N,gK,j,N,N,N,F,gO,B⟩
   ·have gO:Vi o s=some ⟨s.i+1,s.first,Ot (Ot s.r o.d 0) o.e 0,s.bufs.set R (M.set n A),s.l++[((s.i:Int),(n:Int))]⟩:=by
     unfold Vi;rw[gM,gL,jL,hn,J2 J,J8 k,J8 C,gB];rfl
    have e1:Po (M.map LV.u) n [.u A]=(M.set n A).map LV.u:=by
     rw[zro Gc,K9]
    simp[j,k,h3,h4,h5,gB,K,Ov gG,U2,gg,gH,hn,C,Oq,e1]
    repeat (refine⟨J,?_⟩)
    have P:=gZ (M.set n A) (s3+1);simp only[K9,L7]at P;refine H _ _ _ ⟨rfl,N,N,jK,0,0,(n:Int),s.bufs.set R (M.set n A),N,gK,?_,N,N,N,P,gO,λq I D=>?_⟩
    ·rw[Jy (λe=>by rw[e,j]at h3;cases h3)];exact j
    ·rw[Jy (λe=>D (by rw[←e];exact jP))];exact B q I D
  have jQ:o.kind≠14:=λq=>km (.inl q)
  have jR:o.kind≠15:=λq=>km (.inr q)
  have gA:=gA jQ jR;have g:∀(ρ':Om),lk ρ' 0=.ptr x 0→lk ρ' 1=.i s.i→lk ρ' 5=.ptr jK 0→lk ρ' 9=.i (-1)→lk ρ' 10=.u (Pf o z A (decide (vc%2=1))).1→lk ρ' 11=.u (Pf o z A (decide (vc%2=1))).2→Nx ρ' [] G1:=by
   intro ρ' T U a5 V gC O;exact H _ _ _ ⟨rfl,T,U,jK,_,_,-1,s.bufs,a5,gK,j,V,gC,O,F,gA,B⟩
  clear gA H h F kn ks;by_cases k1:o.kind=1
  ·have E:∀c,Pf o z A c=(o.imm,0):=λc=>by unfold Pf;simp[k1]
   rw[E]at g;simp[j,k1];exact g _ N N N N Ax N
  by_cases k2:o.kind=2
  ·have E:∀c,Pf o z A c=(z,0):=λc=>by unfold Pf;simp[k2]
   rw[E]at g;simp[j,k2];exact g _ N N N N Ax N
  by_cases k3:o.kind=3
  ·have E:∀c,Pf o z A c=(z+A,0):=λc=>by unfold Pf;simp[k3]
   rw[E]at g;simp[j,k3];exact g _ N N N N Ax N
  by_cases k4:o.kind=4
  ·have E:∀c,Pf o z A c=(z-A,0):=λc=>by unfold Pf;simp[k4]
   rw[E]at g;simp[j,k4];exact g _ N N N N Ax N
  by_cases k5:o.kind=5
  ·have E:∀c,Pf o z A c=(z &&& A,0):=λc=>by unfold Pf;simp[k5]
   rw[E]at g;simp[j,k5];exact g _ N N N N Ax N
  by_cases k6:o.kind=6
  ·have E:∀c,Pf o z A c=(z ||| A,0):=λc=>by unfold Pf;simp[k6]
   rw[E]at g;simp[j,k6];exact g _ N N N N Ax N
  by_cases k7:o.kind=7
  ·have E:∀c,Pf o z A c=(z ^^^ A,0):=λc=>by unfold Pf;simp[k7]
   rw[E]at g;simp[j,k7];exact g _ N N N N Ax N
  by_cases k8:o.kind=8
  ·have E:∀c,Pf o z A c=(UInt64.ofNat (z.toNat*2^o.imm.toNat),0):=λc=>by unfold Pf;simp[k8]
   rw[E]at g;simp[j,k8];exact g _ N N N N Ax N
  by_cases k9:o.kind=9
  ·have E:∀c,Pf o z A c=(UInt64.ofNat (z.toNat/2^o.imm.toNat),0):=λc=>by unfold Pf;simp[k9]
   rw[E]at g;simp[j,k9];exact g _ N N N N Ax N
  by_cases jA:o.kind=10
  ·have E:∀c,Pf o z A c=(Uf z A,z*A):=λc=>by unfold Pf;simp[jA]
   rw[E]at g;simp[j,jA];refine Pm (ze6 z A) (bors_self _ rfl) ?_;simp;exact g _ N N N N N N
  by_cases jB:o.kind=11
  ·have E:∀c,Pf o z A c=((Ow z A c).1,Qh (Ow z A c).2):=λc=>by unfold Pf;simp[jB]
   rw[E]at g;simp[j,jB,zfa];refine Pm (z5c z A (decide (vc%2=1))) (bors_self _ rfl) ?_;simp;refine Pm (zdr _) (bors_self _ rfl) ?_;simp;exact g _ N N N N N N
  by_cases jC:o.kind=12
  ·have E:∀c,Pf o z A c=((Rc z A c).1,Qh (Rc z A c).2):=λc=>by unfold Pf;simp[jC]
   rw[E]at g;simp[j,jC,zfa];refine Pm (zn8 z A (decide (vc%2=1))) (bors_self _ rfl) ?_;simp;refine Pm (zdr _) (bors_self _ rfl) ?_;simp;exact g _ N N N N N N
  by_cases gR:o.kind=13
  ·have E:∀c,Pf o z A c=(if c then z else A,0):=λc=>by unfold Pf;simp[gR]
   rw[E]at g;by_cases c1:vc%2=1
   ·simp[j,gR,c1,zfa];exact g _ N N N N (by simp[c1]) N
   ·simp[j,gR,c1,zfa];exact g _ N N N N (by simp[c1]) N
  omega
 ·obtain⟨rfl,T,U,jK,d,e,pl,gI,a5,bz,hz,V,gC,O,hm,gA,B⟩:=hΦ;rw[gA]at ks;rw[hC]at hz;have jD:∀(i:Int) (v:UInt64) (r:List UInt64),(Ot r i v).length=r.length:=λi v r=>Ft
  refine zx9 (λρ jY G'=>jY=[]∧lk ρ 0=.ptr x 0∧lk ρ 1=.i s.i∧lk ρ 5=.ptr jK 0∧G'[jK]?=some (.cells [.i o.kind,.i o.d,.i o.e,.i o.a,.i o.b,.i o.c,.i o.buf,.u o.imm] 1)∧lk ρ 9=.i pl∧lk ρ 11=.u e∧MsH G' x pr pb kb qs b regs bs os L ⟨s.i,s.first,Ot s.r o.d d,gI,s.l⟩∧∀q,q<b→q≠pr→q ∉ qs→G'[q]?=G[q]?) (λNx H=>?_) (λρ jY G3 h3=>?_)
  ·obtain⟨t1,X⟩:=hm.xc;obtain⟨t2,Y⟩:=hm.rr;dsimp only at Y;by_cases d0:0≤o.d
   ·obtain⟨dn,Z⟩:=J3 d0;have gD:dn<s.r.length:=J
    have e1:Po (s.r.map LV.u) dn [.u d]=(Ot s.r o.d d).map LV.u:=by
     rw[zro (by simpa using gD),Ot,J8 d0,Z,K9];rfl
    have P:=hm.putr (i:=o.d) (v:=d) (st:=t2+1);dsimp only at P;simp[T,U,a5,V,gC,hz,X,Y,Z,gD,e1];rw[←Z];refine⟨J,H _ _ _ ⟨rfl,?_,?_,?_,?_,?_,?_,P,λq I Q D=>?_⟩⟩
    ·simp[T]
    ·simp[U]
    ·simp[a5]
    rotate_left
    ·simp[V]
    ·simp[O]
    rotate_left
    ·rw[Jy (λe=>by rw[e,hz]at Y;cases Y)];exact hz
    ·rw[Jy (Ne.symm Q)];exact B q I D
   ·have e1:Ot s.r o.d d=s.r:=by unfold Ot;rw[J2 d0]
    simp[T,U,a5,V,gC,hz,d0];refine H _ _ _ ⟨rfl,?_,?_,?_,hz,?_,?_,e1.symm ▸ hm,λq I _ D=>B q I D⟩
    all_goals simp[T,U,a5,V,O]
  clear T U a5 V gC O hm B hz;obtain⟨rfl,T,U,a5,hz,V,O,hm,B⟩:=h3;have gY:=jD o.d d s.r;generalize Ot s.r o.d d=r1 at *;refine zx9 (λρ jY G'=>jY=[]∧lk ρ 0=.ptr x 0∧lk ρ 1=.i s.i∧lk ρ 9=.i pl∧MsH G' x pr pb kb qs b regs bs os L ⟨s.i,s.first,Ot r1 o.e e,gI,s.l⟩∧∀q,q<b→q≠pr→q ∉ qs→G'[q]?=G[q]?) (λNx H=>?_) (λρ jY G4 h4=>?_)
  ·obtain⟨t1,X⟩:=hm.xc;obtain⟨t2,Y⟩:=hm.rr;dsimp only at Y;by_cases d0:0≤o.e
   ·obtain⟨dn,Z⟩:=J3 d0;have gD:dn<r1.length:=J
    have e1:Po (r1.map LV.u) dn [.u e]=(Ot r1 o.e e).map LV.u:=by
     rw[zro (by simpa using gD),Ot,J8 d0,Z,K9];rfl
    have P:=hm.putr (i:=o.e) (v:=e) (st:=t2+1);dsimp only at P;simp[T,U,a5,V,O,hz,X,Y,Z,gD,e1];rw[←Z];refine⟨J,H _ _ _ ⟨rfl,?_,?_,?_,P,λq I Q D=>?_⟩⟩
    ·simp[T]
    ·simp[U]
    ·simp[V]
    rw[Jy (Ne.symm Q)];exact B q I Q D
   ·have e1:Ot r1 o.e e=r1:=by unfold Ot;rw[J2 d0]
    simp[T,U,a5,V,O,hz,d0];refine H _ _ _ ⟨rfl,?_,?_,?_,e1.symm ▸ hm,λq I Q D=>B q I Q D⟩
    all_goals simp[T,U,V]
  clear T U a5 V O hm B hz;obtain⟨rfl,T,U,V,hm,B⟩:=h4;generalize Ot r1 o.e e=r2 at *;obtain⟨t1,X⟩:=hm.xc;have jT:x<G4.length:=(Jx.1 X).1;have q1:∀y:List LObj,(G4++y)[x]?=_:=λy=>(Oo jT).trans X
  simp[T,U,V,X,↓q1];refine Pz.push2 (x:=[.i (s.i:Int),.i pl]) hm.ev.push_end J (by simp;have:=hm.bG;omega) (by show s.l.length≤_;omega) rfl rfl λL' G5 jE gT jU zj=>?_
  have jZ:=hm.bG;have jF:G5[x]?=_:=(gT x Ab (λe=>by have:=(hm.ev.row e).1;have:=h.lt.1;omega)).trans (q1 _);have jV:L'.cells=some [L']:=jE.cells;simp[-LV.cells,jV,jF];refine ks _ _ L' rfl ?_ ?_
  ·obtain⟨l1,l2,l3,l4,l5,l6⟩:=hm.lt;have jG:x<G5.length:=(Jx.1 jF).1;have ne:∀{q:Nat} {ob:LObj},q≠x→(G5.set x ob)[q]?=G5[q]?:=λI=>Jy (Ne.symm I)
   have gF:∀{q:Nat} {ob:LObj},q<b→G4[q]?=some ob→G5[q]?=some ob:=λ{q ob} I ho=>by
    rw[gT q Ab (λe=>Em),Oo (Jx.1 ho).1];exact ho
   refine⟨⟨t1+1,J1 jG⟩,?_,?_,λzz hj=>?_,hm.bl,hm.lt,hm.qlt,hm.nd,?_,by rw[L7];simp at jU;omega⟩
   ·obtain⟨st,h⟩:=hm.rr;exact⟨st,by rw[ne (Ne.symm l4)];exact gF l2 h⟩
   ·obtain⟨st,h⟩:=hm.bb;exact⟨st,by rw[ne (Ne.symm l5)];exact gF l3 h⟩
   ·obtain⟨st,h⟩:=hm.row zz hj;have I:=hm.qlt (qs.getD zz 0) Gu;exact⟨st,by rw[ne I.2.1];exact gF I.1 h⟩
   ·show Pz b _ L' 2 (s.l++[((s.i:Int),pl)]).length (Z0 (s.l++[((s.i:Int),pl)]));rw[zt2,J7];exact jE.set_lt l1
  ·intro q I jX Q D;rw[Jy (Ne.symm jX),gT q Ab (λe=>Em),Oo J];exact B q I Q D
end
def zg0:LC:=(.q [.x 2 0,.e 4,.e 5,.K 6 0] (.q [.L 18 3 2,.w 19 39 18,.m 17 19,.X 20 0 17,.X 21 1 17,.m 7 20,.m 8 21] (.seq (.q [.m 22 8,.b 23 .eql 37 22 0,.m 24 23,.y 25 24 (.loadN 3 (.t 2)),.y 26 24 (.w 42 [.t 25]),.y 27 24 (.bin .gtr true 3 (.t 26) (.k 16777216)),.q 28 24 27] (.cond (.t 28) (.ops [.K 8 10]) .skip)) (.seq (.q [.m 29 8,.b 30 .eql 37 29 0,.m 31 30,.y 32 31 (.loadN 3 (.t 2)),.my 33 31 1,.y 34 31 (.w 43 [.t 32,.t 33]),.y 35 31 (.un .not (.t 34)),.q 36 31 35] (.cond (.t 36) (.ops [.K 8 2]) .skip)) (.seq (.q [.m 37 8,.b 38 .neq 37 37 0] (.cond (.t 38) (.q [.m 39 8,.e 4,.e 5,.m 6 39] .ret) .skip)) (.seq (.draw [(.L 40 3 2,[]),(.f 41 0 2,[]),(.l 42 41,[]),(.z 43 (.mkSl 1 [(.u 0)] (.t 42) (.t 42)),[(.l 42 41,false),(.L 40 3 2,false)]),(.z 44 (.build [(.i 0),.nilSl,.nilSl,.nilSl,.nilSl,.nilSl] [(0,3,.t 40),(3,1,.t 43)]),[]),(.x 45 44,[(.z 43 (.mkSl 1 [(.u 0)] (.t 42) (.t 42)),true),(.l 42 41,false),(.L 40 3 2,false)]),(.m 9 45,[])]) (.seq (.q [.K 10 0] (.block 0 (.loop (.seq (.q [.m 46 10,.m 47 1,.s 48 47,.c 49 .lss 3 46 48] (.cond (.t 49) .skip (.exit 0))) (.seq (.block 1 (.q [.f 52 1 2,.l 53 52,.m 54 10,.I 55 3 53 54,.f 56 0 55,.l 57 56,.z 58 (.mkSl 1 [(.u 0)] (.t 57) (.t 57)),.m 11 58] (.q [.m 59 11,.m 60 1,.m 61 10,.I 62 1 60 61,.l 63 62,.z 64 (.copy 1 (.t 59) (.t 63))] (.ops [.m 65 9,.m 66 9,.N 67 66,.f 68 4 67,.l 69 68,.m 70 11,.z 71 (.buildSl 1 1 [.nilSl] [(0,1,.t 70)]),.a 72 1 69 71,.N 73 65,.f 74 4 73,.S 1 74 72])))) (.ops [.m 50 10,.b 51 .add 3 50 1,.m 10 51])))))) (.q [.L 75 3 2,.w 76 44 75,.m 12 76] (.q [.z 13 (.move .T)] (.seq (.q [.K 14 0] (.block 2 (.loop (.seq (.q [.m 77 14,.f 78 2 2,.l 79 78,.s 80 79,.c 81 .lss 3 77 80] (.cond (.t 81) .skip (.exit 2))) (.seq (.block 3 (.q [.f 84 2 2,.l 85 84,.m 86 14,.I 87 8 85 86,.L 88 8 87,.z 15 (.alloc [(.i 0),(.i 0),(.i 0),(.i 0),(.i 0),(.i 0),(.i 0),(.u 0)]),.S 8 15 88] (.q [.f 89 0 15,.l 90 89] (.block 4 (.q [.b 100 .eql 3 90 16,.m 99 100] (.cond (.t 99) (.seq (.q [.m 101 13] (.cond (.t 101) (.draw [(.m 102 9,[]),(.N 103 102,[]),(.f 104 3 103,[]),(.l 105 104,[]),(.f 106 1 15,[]),(.l 107 106,[]),(.I 108 1 105 107,[]),(.v (.store 1 (.t 108) (.c (.u 0))),[])]) .skip)) (.q [.m 109 9,.m 110 9,.N 111 110,.f 112 5 111,.l 113 112,.m 114 14,.z 115 (.build [(.i 0),(.i 0)] [(0,1,.t 114),(1,1,.k (-1))]),.z 116 (.buildSl 2 1 [(.i 0),(.i 0)] [(0,2,.t 115)]),.a 117 2 113 116,.N 118 109,.f 119 5 118,.S 1 119 117] (.ops [.z 13 (.move .T)]))) (.q [.b 121 .eql 3 90 17,.m 120 121] (.cond (.t 120) (.seq (.draw [(.f 122 2 2,[]),(.l 123 122,[]),(.m 124 12,[]),(.m 125 14,[]),(.I 126 1 124 125,[]),(.l 127 126,[]),(.I 128 8 123 127,[]),(.L 129 8 128,[]),(.z 16 (.alloc [(.i 0),(.i 0),(.i 0),(.i 0),(.i 0),(.i 0),(.i 0),(.u 0)]),[(.L 129 8 128,false),(.l 127 126,false),(.l 123 122,false)]),(.S 8 16 129,[])]) (.seq (.draw [(.m 130 9,[]),(.N 131 130,[]),(.f 132 3 131,[]),(.l 133 132,[]),(.f 134 1 16,[]),(.l 135 134,[]),(.I 136 1 133 135,[]),(.l 137 136,[]),(.u 138 .add 23 137 1,[]),(.f 139 7 16,[]),(.l 140 139,[]),(.c 141 .lss 23 138 140,[])]) (.cond (.t 141) (.seq (.draw [(.m 142 9,[]),(.N 143 142,[]),(.f 144 3 143,[]),(.l 145 144,[]),(.f 146 1 16,[]),(.l 147 146,[]),(.I 148 1 145 147,[]),(.l 149 148,[]),(.u 150 .add 23 149 1,[]),(.I 151 1 145 147,[]),(.S 1 151 150,[])]) (.q [.F 13] (.ops [.m 152 12,.m 153 14,.I 154 1 152 153,.l 155 154,.b 156 .sub 3 155 1,.m 14 156]))) .skip))) (.q [.m 91 9,.m 92 14,.W 93 45 91 92,.z 94 (.un .not (.t 93))] (.cond (.t 94) (.seq (.draw [(.m 95 9,[]),(.N 96 95,[]),(.f 97 5 96,[]),(.l 98 97,[]),(.e 4,[]),(.m 5 98,[]),(.K 6 11,[])]) .ret) .skip)))))))))) (.ops [.m 82 14,.b 83 .add 3 82 1,.m 14 83])))))) (.seq (.draw [(.m 157 9,[]),(.N 158 157,[]),(.f 159 4 158,[]),(.l 160 159,[]),(.m 161 9,[]),(.N 162 161,[]),(.f 163 5 162,[]),(.l 164 163,[]),(.m 4 160,[]),(.m 5 164,[]),(.K 6 0,[])]) .ret)))))))))))
def r_ref12_Run:Oz Tryz.prog 19=some ⟨165,zg0.r,[.tmp 4,.tmp 5,.tmp 6]⟩:=Aa
def MsH.push_ev{G:Ok}{x pb kb:Nat}{b:Nat}{regs:Int}{bs:List Bf}{os:List Lo}{L:LV}{s:Ms}{K:LV→Ok→Prop}{tmp:LObj}{G':Ok}{i pl:Int}(hG:G'=G++[tmp])(hm:MsH G x j pb kb vA b regs bs os L s)(gD:s.l.length≤1000000000)
  (k:∀(L':LV) (G5:Ok),L'.cells=some [L']→(∀q,q<b→G5[q]?=G[q]?)→(∀(gg:Nat),MsH (G5.set x (.cells [.i regs,.lst (Qs bs) bs.length 3,.lst (Se os) os.length 8,.dy j 0,.dy pb kb,L'] gg)) x j pb kb vA b regs bs os L' ⟨s.i,s.first,s.r,s.bufs,s.l++[(i,pl)]⟩)→K L' G5):Rh G' 2 L 1 [.i i,.i pl] K:=by
 subst hG;obtain⟨l1,l2,l3,l4,l5,l6⟩:=hm.lt;have gG:=hm.bG;refine Pz.push2 (x:=[.i i,.i pl]) hm.ev.push_end J Ab gD rfl rfl λL' G5 gA gF gB gH=>?_
 have keep:∀{q:Nat},q<b→G5[q]?=G[q]?:=λ{q} hq=>by
  rw[gF q Ab (λe=>Em),Oo J]
 refine k L' G5 gA.cells (λq hq=>keep hq) λgg=>?_
 have gC:x<G5.length:=by simp at gB;omega
 have ne:∀{q:Nat} {ob:LObj},q≠x→(G5.set x ob)[q]?=G5[q]?:=λhq=>Jy (Ne.symm hq)
 refine⟨⟨gg,J1 gC⟩,?_,?_,λgI hj=>?_,hm.bl,hm.lt,hm.qlt,hm.nd,?_,by rw[L7];simp at gB;omega⟩
 ·obtain⟨st,h⟩:=hm.rr;exact⟨st,by rw[ne (Ne.symm l4),keep l2];exact h⟩
 ·obtain⟨st,h⟩:=hm.bb;exact⟨st,by rw[ne (Ne.symm l5),keep l3];exact h⟩
 ·obtain⟨st,h⟩:=hm.row gI hj;have hq:=hm.qlt (vA.getD gI 0) Gu;exact⟨st,by rw[ne hq.2.1,keep hq.1];exact h⟩
 ·show Pz b _ L' 2 (s.l++[(i,pl)]).length (Z0 (s.l++[(i,pl)]));rw[zt2,J7];exact gA.set_lt l1
def MsH.ctl{G:Ok}{x pb kb:Nat}{b:Nat}{regs:Int}{bs:List Bf}{os:List Lo}{L:LV}{s:Ms}(h:MsH G x j pb kb vA b regs bs os L s){i:Nat}{f:Bool}:MsH G x j pb kb vA b regs bs os L ⟨i,f,s.r,s.bufs,s.l⟩:=⟨h.xc,h.rr,h.bb,h.row,h.bl,h.lt,h.qlt,h.nd,h.ev,h.bG⟩
def zks{C:Ok}:∀(g:List Nat) (j:List (List UInt64)),j.length=g.length→(∀z,z<g.length→∃st,C[g.getD z 0]?=some (.dyn ((j.getD z []).map .u) (j.getD z []).length 1 0 st))→bors C (g.map λq=>.dy q 0) (j.map LU)
 |[],j,h,_=>by
  have:j=[]:=Kk h;subst this;simp
 |q::g,[],h,_=>Bu
 |q::g,x::j,h,A=>by
  obtain⟨st,B⟩:=A 0 N;simp only[List.getD_cons_zero]at B;rw[Mp,Mp];refine⟨_,_,rfl,⟨_,_,_,st,rfl,B,N⟩,zks g j Ar λz D=>?_⟩;have:=A (z+1) Ab;simpa only[List.getD_cons_succ] using this
def ce(n:Nat):Qo [.u 0] n=(List.replicate n (0:UInt64)).map LV.u:=by
 induction n with
 |zero=>rfl
 |succ n g=>rw[Qo,g,Mt];rfl
def fy(x:List UInt64)(n:Nat)(h:x.length≤n):Po ((List.replicate n (0:UInt64)).map LV.u) 0 ((x.map LV.u).take (min x.length n))=(x++List.replicate (n-x.length) 0).map LV.u:=by
 rw[Mh h,Kf N,zix,Ni]
 congr 1
 simp
def zdt{bs:List Bf}{os:List Lo}{X:List (List UInt64)}{es:List Int}{s':Ms}(hc:(R8 z bs os).2=0)(hb:Wq Rt 0 os)(AF:Wh [] 0 os≤16777216)(hX:ae bs X=true)(jX:1≤bs.length)(jY:V4 0 [] (List.replicate os.length 0) os=es)
  (hE:∀i o,os[i]?=some o→o.kind=17→0≤es.getD i 0∧∃p,os[(es.getD i 0).toNat]?=some p∧p.kind=16) (hT:g≤800000000) (j:Qk os es g (Rf z bs X)=some s') (AA:s'.i=os.length) :
  Rd 19 [.agg (Oq z bs os),LN X] (.tup [LN s'.bufs,.lst (Z0 s'.l) s'.l.length 2,.i 0]):=by
 obtain⟨zK,AB,AG,AH,jz,jZ⟩:=z5y hc;have jF:X.length=bs.length∧∀i,i<bs.length→((X.getD i []).length:Int)=if (Oy bs i).kind=3 then 0 else (Oy bs i).size:=by
  unfold ae at hX;exact M4 hX
 obtain⟨jF,j0⟩:=jF;obtain⟨r,rfl⟩:=J3 zK;have zL:∀l:List (Int×Int),dats (Z0 l)=true:=λl=>uv (f:=λe:Int×Int=>[.i e.1,.i e.2]) (λ_=>rfl) l
 refine T2.mkS (by simp[LV.dat,dats,zL,LN,zx5]) (O0 r_ref12_Run Aa (by simp) ?_);have AI:dats (Oq r bs os)=true:=zej _ _ _;have j1:¬(16777216:Int)<Wh [] 0 os:=J
 simp[zg0,Oq];refine Pm (z3h r bs os) (bors_self _ Bi) ?_;simp[hc];refine Pm (zho hc hb) (bors_self _ Bi) ?_;simp[j1];refine Pm (zj4 r bs os X J) (bors_self _ (by simp[dats,LV.dat,Oq,Uy,Uk,zx5])) ?_;simp[hX];refine⟨J,?_⟩;refine Ql (λρ AC gD N=>∃(i:Nat) (B:List Nat) (v:LV),AC=[]∧N+i=bs.length∧B.length=i∧lk ρ 1=LN X∧lk ρ 2=.ptr 0 0∧lk ρ 9=.ptr 2 0∧lk ρ 10=.i i∧gD[0]?=some (.cells (Oq r bs os) 0)∧(∃st,gD[1]?=some (.dyn ((List.replicate r (0:UInt64)).map .u) r 1 0 st))∧(∃st,gD[2]?=some (.cells [.i r,.lst (Qs bs) bs.length 3,.lst (Se os) os.length 8,.dy 1 0,v,.nilSl] st))∧3≤gD.length ∧
   ((i=0∧v=.nilSl)∨∃O st,v=.dy O (i-1)∧3≤O∧O ∉ B∧1≤i∧gD[O]?=some (.dyn (B.map λq=>.dy q 0) i 1 (i-1) st))∧(∀q∈B,3≤q)∧B.Nodup∧∀V,V<i→∃st,gD[B.getD V 0]?=some (.dyn ((V8 (Oy bs V) (X.getD V [])).map .u) (V8 (Oy bs V) (X.getD V [])).length 1 0 st)) (N:=bs.length)
  ⟨0,[],.nilSl,rfl,J,rfl,by simp,by simp,by simp,by simp,Ca,⟨0,by simp[ce]⟩,⟨0,by simp⟩,by simp,.inl ⟨rfl,rfl⟩,by simp,by simp,λV h=>J⟩ ?_
 rintro N ρ AC gD ⟨i,B,v,rfl,hN,Z,h1,M,H,gL,A,⟨s1,gM⟩,⟨s2,gV⟩,AK,hv,gX,j4,gC⟩ Nx I;have gO:lk ρ 1=.lst (X.map LU) X.length 1:=h1;by_cases jV:i<bs.length
 ·have q0:=uu (S8 jV);have gx:i<X.length:=J
  obtain⟨x,hx⟩:∃x,X.getD i []=x:=⟨_,rfl⟩;have zM:X[i]=x:=by rw[←hx];simp[gx]
  have hm:Oy bs i∈bs:=Kg (S8 jV);obtain⟨b1,b2⟩:=jz _ hm;have j5:=j0 i jV;rw[hx]at j5;obtain⟨n,hn⟩:=J3 (J:0≤(Oy bs i).size);have zO:x.length≤n:=by split at j5<;>omega
  have j6:V8 (Oy bs i) (X.getD i [])=x++List.replicate (n-x.length) 0:=by unfold V8;rw[hx,hn];rfl
  have jA:(x++List.replicate (n-x.length) (0:UInt64)).length=n:=Ab
  have l0:0<gD.length:=J
  have l2:2<gD.length:=J
  have p0:∀y:List LObj,(gD++y)[0]?=_:=λy=>(Oo l0).trans A
  have p2:∀y:List LObj,(gD++y)[2]?=_:=λy=>(Oo l2).trans gV
  have j7:=fy x n zO;simp only[List.map_replicate]at j7;have AL:n≤65536:=J
  simp[gO,M,H,gL,A,Oq,jV,gx,Ov q0,hn,zM,ce,j7,↓p2];refine⟨J,?_⟩;have j8:∀q∈B,q<gD.length:=λq hq=>by
   obtain⟨V,hj,rfl⟩:=L5.1 hq;obtain⟨st,h⟩:=gC V J;have h:=(Jx.1 h).1;simpa [J0,hj] using h
  have zQ:∀V,V<i→(B++[gD.length]).getD V 0=B.getD V 0:=λV hj=>by simp[J0,J6 (J:V<B.length)]
  have zT:(B++[gD.length]).getD i 0=gD.length:=by
   rw[J0,Kj J,(J:i-B.length=0)];rfl
  have j9:(B++[gD.length]).Nodup:=by
   rw[List.nodup_append];exact⟨j4,by simp,λa ha b hb=>by simp at hb;rw[hb];have:=j8 a ha;omega⟩
  rcases hv with ⟨rfl,rfl⟩|⟨O,jG,rfl,gF,gY,zU,gG⟩
  ·have zV:B=[]:=Kk Z;subst zV;simp[H,↓p2,gL];refine I _ _ _ ⟨N-1,J,1,[gD.length],.dy (gD.length+2) 0,rfl,J,rfl,by simp[gO],Bh,Am,by simp,?_,⟨s1,?_⟩,⟨s2+1,?_⟩,by simp,.inr ⟨gD.length+2,0,rfl,J,by simp,J,?_⟩,Ab,by simp,λV hj=>⟨1,?_⟩⟩
   ·rw[Jy J];exact p0 _
   ·rw[Jy J,Oo J];exact gM
   ·exact J1 (by simp)
   ·rw[Jy J,Kj J,(J:gD.length+2-gD.length=2)];rfl
   ·have zX:V=0:=J
    subst zX;rw[j6];rw[Jy Ab];simp only[List.getD_cons_zero];rw[Kj J,N5,jA];simp
  ·have lp:O<gD.length:=(Jx.1 gG).1;have pp:∀y:List LObj,(gD++y)[O]?=_:=λy=>(Oo lp).trans gG
   have zY:∀(y:List LObj) (ob:LObj),((gD++y).set O ob)[2]?=_:=λy ob=>(Jy J).trans (p2 y)
   simp[H,↓pp,↓zY,gL]
   repeat (refine⟨J,?_⟩)
   refine I _ _ _ ⟨N-1,J,i+1,B++[gD.length],.dy O i,rfl,J,Es,by simp[gO],Bh,Am,by simp,?_,⟨s1,?_⟩,⟨s2+1,?_⟩,Ab,.inr ⟨O,jG+1,rfl,gF,by simp[gY];omega,J,?_⟩,λq hq=>?_,j9,λV hj=>?_⟩
   ·rw[Jy J,Jy J];exact p0 _
   ·rw[Jy J,Jy J,Oo J];exact gM
   ·rw[J1 Ab,(J:i-1+1=i)]
   ·rw[Jy J,J1 Ab,(J:i-1+1=i)];simp
   ·rcases Ks.1 hq with hq|hq
    ·exact gX q hq
    ·simp at hq;omega
   ·by_cases e:V=i
    ·subst e;rw[zT,j6,jA];refine⟨1,?_⟩;rw[Jy J,Jy J,Kj J,N5];simp
    ·obtain⟨st,h⟩:=gC V J;refine⟨st,?_⟩;have jH:B.getD V 0∈B:=by simp[J0,(J:V<B.length)]
     have:=gX _ jH;rw[zQ V J,Jy J,Jy (λe=>gY (by rw[e];exact jH)),Oo (j8 _ jH)];exact h
 have hi:i=bs.length:=J
 subst hi;rcases hv with ⟨e,_⟩|⟨O,jG,rfl,gF,gY,zU,gG⟩
 ·omega
 have ge:¬bs.length<bs.length:=J
 have zg:MsH gD 2 1 O (bs.length-1) B gD.length r bs os .nilSl (Rf r bs X):=by
  have l1:=(Jx.1 gM).1;have l2:=(Jx.1 gV).1;have lp:=(Jx.1 gG).1;refine⟨⟨s2,gV⟩,⟨s1,by simpa [Rf] using gM⟩,⟨jG,by rw[Z];exact gG⟩,λV hj=>?_,by simp[Rf,dg,Z],⟨l2,l1,lp,J,J,J⟩,λq hq=>?_,j4,Pz.nil,J4 _⟩
  ·obtain⟨st,h⟩:=gC V J;refine⟨st,?_⟩;have zZ:(Rf r bs X).bufs.getD V []=V8 (Oy bs V) (X.getD V []):=by simp[Rf,T9,J0,(J:V<bs.length)]
   rw[zZ];exact h
  ·obtain⟨V,hj,rfl⟩:=L5.1 hq;obtain⟨st,h⟩:=gC V J;have h:=(Jx.1 h).1;have:=gX _ hq;exact⟨by simpa [J0,hj] using h,J,J,λe=>gY (by rw[←e];exact hq)⟩
 have jB:∀x∈(Rf r bs X).bufs,x.length≤65536:=λx hx=>by
  simp only[Rf,T9,Nm,L4]at hx;obtain⟨V,hj,rfl⟩:=hx;have hm:Oy bs V∈bs:=Kg (S8 hj);obtain⟨b1,b2⟩:=jz _ hm;have:=j0 V hj;unfold V8;rw[J7,List.length_replicate];split at this<;>omega
 simp[gO,M,H,gL,jF,A,Oq];refine Sx (zjx hc hb) Fa ?_;rw[jY];have AD:B.length=bs.length:=Z;generalize AM:gD.length=b at *;simp;refine Ql (λρ AC G' N=>∃(s:Ms) (zI:LV),AC=[]∧Qk os es N s=some s'∧lk ρ 2=.ptr 0 0∧lk ρ 9=.ptr 2 0∧lk ρ 12=.lst (es.map .i) os.length 1∧lk ρ 13=.bool s.first∧lk ρ 14=.i s.i∧G'[0]?=some (.cells (Oq r bs os) 0)∧MsH G' 2 1 O (bs.length-1) B b r bs os zI s∧s.l.length+N≤g∧s.i≤os.length∧s.r.length=r∧∀x∈s.bufs,x.length≤65536) (N:=g)
  ⟨Rf r bs X,.nilSl,rfl,j,Bh,Am,by simp,Dw,Dw,A,zg,Dw,Dw,Dw,jB⟩ ?_
 clear j zg h1 gO M H gL A gM gV gG I Nx jB;rintro N ρ AC P ⟨s,zI,rfl,j,M,H,gg,Q,K,A,Y,AO,AP,gH,gI⟩ Nx I;by_cases jV:s.i<os.length
 case neg =>
  have z7:=zpz (os:=os) (es:=es) (s:=s) (M3 J) N;rw[z7]at j;have jI:s=s':=Option.some.inj j;subst jI;obtain⟨t1,D⟩:=Y.xc;obtain⟨t2,jX⟩:=Y.bb;simp[M,H,K,A,Oq,jV,D];intro c a hs ha;have AE:s.bufs.length=bs.length:=by rw[Y.bl,Z]
  have h:=nq hs jX (zks B s.bufs Y.bl Y.row) Y.ev.bor (by simp) ha;rw[←Y.bl]at h;exact h
 have ho:=zgf jV;have gR:=zak ho;have gT:=xd jV;have jK:=jZ _ (Kg ho);generalize dh os s.i=o at *;cases N with
 |zero =>
  have jI:s=s':=Option.some.inj j;subst jI;omega
 |succ N =>
 have hC:o.f=[.i o.kind,.i o.d,.i o.e,.i o.a,.i o.b,.i o.c,.i o.buf,.u o.imm]:=rfl;change (match Si os es s with|none=>none|some s'=>Qk os es N s')=some s' at j;have l0:0<P.length:=by have:=Y.bG;omega
 have p0:∀y:List LObj,(P++y)[0]?=_:=λy=>(Oo l0).trans A
 have L:(P++[LObj.cells o.f 1])[P.length]?=some (.cells o.f 1):=Ke;have E:MsH (P++[LObj.cells o.f 1]) 2 1 O (bs.length-1) B b r bs os zI s:=Y.keep (λq hq=>Oo hq) (by simp);have gA:=p0 [.cells o.f 1];have AQ:b≤P.length:=Y.bG;have z0:∀(y:List LObj) (h:0<(P++y).length),(P++y)[0]=.cells (Oq r bs os) 0:=λy h=>Option.some.inj ((J5 h).symm.trans (p0 y))
 have p1:∃st,∀y:List LObj,(P++y)[1]?=some (.dyn (s.r.map .u) s.r.length 1 0 st):=by
  obtain⟨st,h⟩:=Y.rr;exact⟨st,λy=>(Oo (Jx.1 h).1).trans h⟩
 have p2:∃st,∀y:List LObj,(P++y)[2]?=some (.cells [.i r,.lst (Qs bs) bs.length 3,.lst (Se os) os.length 8,.dy 1 0,.dy O (bs.length-1),zI] st):=by
  obtain⟨st,h⟩:=Y.xc;exact⟨st,λy=>(Oo (Jx.1 h).1).trans h⟩
 obtain⟨t1,p1⟩:=p1;obtain⟨t2,p2⟩:=p2;obtain⟨rd,re,ra,rb,rc,rm⟩:=zg2 jK;by_cases F:o.kind=16
 ·have R:Si os es s=some ⟨s.i+1,true,if s.first then Ot s.r o.d 0 else s.r,s.bufs,s.l++[((s.i:Int),(-1:Int))]⟩:=by
   unfold Si;rw[ho];dsimp only;rw[J8 F]
  rw[R]at j;dsimp only at j;obtain⟨d0,dr⟩:=(ta jK).2.2 F;obtain⟨dn,C⟩:=J3 d0;have gB:dn<s.r.length:=J
  have zj:=Y.lt;have AT:∀(G7:Ok) (s2:Ms),MsH G7 2 1 O (bs.length-1) B b r bs os zI s2→G7[0]?=some (.cells (Oq r bs os) 0)→s2.l=s.l→s2.i=s.i→(⟨s2.i+1,true,s2.r,s2.bufs,s2.l++[((s.i:Int),(-1:Int))]⟩:Ms)=⟨s.i+1,true,if s.first then Ot s.r o.d 0 else s.r,s.bufs,s.l++[((s.i:Int),(-1:Int))]⟩→True:=λ_ _ _ _ _ _ _=>trivial
  cases hf:s.first with
  |true =>
   rw[hf]at j Q;rw[J8 rfl]at j;obtain⟨t2,jL⟩:=E.rr;obtain⟨t1,D⟩:=E.xc;have e1:Po (s.r.map LV.u) dn [.u 0]=(Ot s.r o.d 0).map LV.u:=by
    rw[zro (by simpa using gB),Ot,J8 d0,C,K9];rfl
   have gK:=E.putr (i:=o.d) (v:=0) (st:=t2+1);rw[hC]at D jL E gK gA L;have zz:∀ob:LObj,((P++[LObj.cells [.i o.kind,.i o.d,.i o.e,.i o.a,.i o.b,.i o.c,.i o.buf,.u o.imm] 1]).set 1 ob)[0]?=some (.cells (Oq r bs os) 0):=λob=>(Jy J).trans gA
   rw[F,C]at D jL L zz gK;simp[M,H,Q,K,A,Oq,jV,gR,gT,hC,F,C,L,D,jL,gB,e1];refine⟨J,MsH.push_ev rfl gK (by show s.l.length≤_;omega) λL' G5 jM gU gZ=>?_⟩;obtain⟨t3,z8⟩:=gK.xc;have jO:G5[2]?=_:=(gU 2 J).trans z8;simp[-LV.cells,jM,jO,K];have jP:G5[0]?=some (.cells (Oq r bs os) 0):=(gU 0 J).trans (zz _);rw[←C]at gZ;refine⟨J,I _ _ _ ⟨N,J,_,L',rfl,j,Bh,Am,Ch,by simp,by simp,?_,(gZ (t3+1)).ctl,Ab,Hm,by show (Ot s.r o.d 0).length=_;rw[zca];exact gH,gI⟩⟩;rw[Jy J];exact jP
  |false =>
   rw[hf]at j Q;rw[J2 Ac]at j;obtain⟨t1,D⟩:=E.xc;rw[hC]at D E gA L;rw[F]at D L E gA;simp[M,H,Q,K,A,Oq,jV,gR,gT,hC,F,L,D];refine MsH.push_ev (by rw[Kz];rfl) E J λL' G5 jM gU gZ=>?_
   have jO:G5[2]?=_:=(gU 2 J).trans D;simp[-LV.cells,jM,jO,K];have jP:G5[0]?=some (.cells (Oq r bs os) 0):=(gU 0 J).trans gA;refine⟨J,I _ _ _ ⟨N,J,_,L',rfl,j,Bh,Am,Ch,by simp,by simp,?_,(gZ (t1+1)).ctl,Ab,Hm,gH,gI⟩⟩;rw[Jy J];exact jP
 by_cases G:o.kind=17
 ·obtain⟨c0,p,hp,z9⟩:=hE s.i o ho G;obtain⟨kn,jQ⟩:=J3 c0;have zB:s.i<es.length:=by rw[←jY,endsR_len];simpa using jV
  have jC:(es.map LV.i)[s.i]?=some (.i (kn:Int)):=by
   rw[←jQ];simp[J0,zB]
  rw[jQ]at hp;rw[Ky]at hp;have Ag:=jZ _ (Kg hp);have zC:=zak hp;have jR:kn<os.length:=(Jx.1 hp).1;have jD:=xd jR;obtain⟨d0,dr⟩:=(ta Ag).2.2 z9;obtain⟨dn,C⟩:=J3 d0;have gB:dn<s.r.length:=J
  have R:Si os es s=if atR s.r p.d+1<p.imm then some ⟨kn,false,Ot s.r p.d (atR s.r p.d+1),s.bufs,s.l⟩ else some ⟨s.i+1,s.first,s.r,s.bufs,s.l⟩:=by
   unfold Si;rw[ho];dsimp only;rw[J2 F,J8 G,jQ,Ky,hp]
  have Aj:atR s.r p.d=s.r.getD dn 0:=by unfold atR;rw[J2 J,C];rfl
  have zD:s.r[dn]=atR s.r p.d:=by rw[Aj];simp[J0,gB]
  generalize atR s.r p.d=xv at *;rw[R]at j;have zj:=Y.lt;have jg:p.f=[.i p.kind,.i p.d,.i p.e,.i p.a,.i p.b,.i p.c,.i p.buf,.u p.imm]:=rfl;have AU:0<P.length:=l0;have jT:MsH (P++[LObj.cells o.f 1,LObj.cells p.f 1]) 2 1 O (bs.length-1) B b r bs os zI s:=Y.keep (λq hq=>Oo hq) (by simp);have gF:=p0 [.cells o.f 1,.cells p.f 1];have jU:(P++[LObj.cells o.f 1,LObj.cells p.f 1])[P.length+1]?=some (.cells p.f 1):=by
   rw[Kj J,(J:P.length+1-P.length=1)];rfl
  have e1:Po (s.r.map LV.u) dn [.u (xv+1)]=(Ot s.r p.d (xv+1)).map LV.u:=by
   rw[zro (by simpa using gB),Ot,J8 d0,C,K9];rfl
  have zE:=jT.putr (i:=p.d) (v:=xv+1) (st:=t1+1);rw[hC,jg,G,C]at jT gF zE;rw[jg,hC,G,C]at jU;rw[hC,G]at L;rw[C]at e1 j;have jE:p.imm≤xv+1↔¬xv+1<p.imm:=by simp
  by_cases T:xv+1<p.imm
  ·rw[J8 T]at j;simp[M,H,gg,Q,K,A,Oq,jV,gR,gT,hC,G,L,↓p0,↓p1,↓p2,z0,Ov jC,jR,zC,jD,jg,jU,C,gB,zD,jE,T,e1,U2]
   repeat (refine⟨J,?_⟩)
   refine I _ _ _ ⟨N,J,_,zI,rfl,j,Bh,Am,Ch,by simp,by simp,?_,?_,by show s.l.length+N≤g;omega,by show kn≤_;omega,by show (Ot s.r (dn:Int) (xv+1)).length=_;rw[zca];exact gH,gI⟩
   ·rw[Jy J];exact gF
   ·exact zE.ctl
  ·rw[J2 T]at j;simp[M,H,gg,Q,K,A,Oq,jV,gR,gT,hC,G,L,↓p0,↓p1,↓p2,z0,Ov jC,jR,zC,jD,jg,jU,C,gB,zD,jE,T,e1,U2]
   repeat (refine⟨J,?_⟩)
   exact I _ _ _ ⟨N,J,_,zI,rfl,j,Bh,Am,Ch,Ee,by simp,gF,jT.ctl,by show s.l.length+N≤g;omega,Hm,gH,gI⟩
 have R:Si os es s=Vi o s:=by
  unfold Si;rw[ho];dsimp only;rw[J2 F,J2 G]
 rw[R]at j;simp[M,H,K,A,Oq,jV,gR,gT,hC,F,G];rw[hC]at E gA;cases hd:Vi o s with
 |none=>rw[hd]at j;cases j
 |some s1 =>
 rw[hd]at j;dsimp only at j;have U:=om hd;refine xh E ho jK F G (by rw[gH]) (by rw[Z]) J gI (λe=>by rw[hd]at e;cases e) λs2 G6 L2 e gK zG=>?_
 rw[hd]at e;obtain rfl:=Option.some.inj e;have Az:G6[0]?=some (.cells (Oq r bs os) 0):=by
  have T:=Y.lt;rw[zG 0 J J J (λe=>by have:=gX 0 e;omega)];exact gA
 have zH:∀x∈s1.bufs,x.length≤65536:=λx hx=>by
  have h1:x.length∈s1.bufs.map List.length:=List.mem_map_of_mem hx;rw[U.b]at h1;obtain⟨y,hy,e⟩:=Nm.1 h1;rw[←e];exact gI y hy
 have e1:=U.i;have e2:=U.l;simp[K];refine⟨J,I _ _ _ ⟨N,J,s1,L2,rfl,j,Bh,Am,Ch,by simp[Q,U.f],by simp[e1],Az,gK,J,J,by rw[U.r];exact gH,zH⟩⟩

def ax{f:Fr Lo}{bs:List Bf}{X:List (List UInt64)}{gA:Fs→Prop}{c:Cf}(V:CfOk c)(M:c.nb=bs.length)(g:f.AllH c 0)(F:(R8 ((64:Nat):Int) bs f.flat).2=0)(Z:f.stp≤16777216)
  (hX:ae bs X=true) (G:1≤bs.length) (hx:Tx (lh (Rf 64 bs X)) f (Vg (Rf 64 bs X)) gA) :
  ∃(z:Ms) (t:Fs),Rep bs.length (lh (Rf 64 bs X)) z t∧gA t∧(∀b,¬c.S b→z.bufs.getD b []=(Rf 64 bs X).bufs.getD b [])∧z.bufs.length=bs.length∧z.l.length≤800000000 ∧
   Rd 19 [.agg (Oq ((64:Nat):Int) bs f.flat),LN X] (.tup [LN z.bufs,.lst (Z0 z.l) z.l.length 2,.i 0]) ∧
   ∀Y:List (List UInt64),ae bs Y=true→(∀i,i<bs.length→(X.getD i []).length=(Y.getD i []).length)→∃A:Ms,A.bufs.length=bs.length∧z.l=A.l∧Rd 19 [.agg (Oq ((64:Nat):Int) bs f.flat),LN Y] (.tup [LN A.bufs,.lst (Z0 A.l) A.l.length 2,.i 0]):=by
 have j:=allH_wf g;have B:f.regs bs.length []=true:=M ▸ zcr V N g;have E:f.costZ≤800000000:=by have:=costZ_le f;omega
 obtain⟨gB,s',t,h1,O,h3,h4,h5,h6⟩:=pi j B E hx;have C:Wq Rt 0 f.flat:=by
  have h:=fb (f:=f) (d:=0) (rest:=[]) j (by unfold Wq;rfl)
  rwa [Lf]at h
 have H:Wh [] 0 f.flat≤16777216:=by rw[c9 j B J];omega
 have I:V4 0 [] (List.replicate f.flat.length 0) f.flat=f.ends 0:=by rw[Fr.flat_len];exact zrq j
 have D:∀(i:Nat) (o:Lo),f.flat[i]?=some o→o.kind=17→0≤(f.ends 0).getD i 0∧∃p,f.flat[((f.ends 0).getD i 0).toNat]?=some p∧p.kind=16:=λi o K L=>by
  obtain⟨k,p,e1,e2,e3⟩:=ends_at f 0 i o j K L;rw[J0,e1];exact⟨N,p,by simpa using e2,e3⟩
 have gg:∀gC:List (List UInt64),(Rf 64 bs gC).bufs.length=bs.length:=λgC=>by simp[Rf,T9]
 have no:∀b,¬c.S b→∀o∈f.flat,¬(o.kind=15∧o.buf.toNat=b):=λb P o K L=>P (L.2 ▸ (allH_flat g o K).sto L.1)
 have Q:s'.bufs.length=bs.length:=by
  have h:=h4.bl;exact h
 refine⟨s',t,h4,h5,λb P=>(zq4 (no b P) gB _ _ O).1,Q,J,zdt F C H hX G I D h1 O h3,λY hY R=>?_⟩;obtain⟨A,k1,T⟩:=Lock.run_some (zt3 j) (λo K=>(allH_flat g o K).low V) gB _ _ _ (zsw (bs:=bs) (X:=X) (Y:=Y) R) O;have U:A.bufs.length=bs.length:=by
  have:=congrArg List.length T.bufs;simp only[List.length_map]at this;omega
 exact⟨A,U,T.l,zdt F C H hY G I D h1 k1 (by rw[←T.i];exact h3)⟩
def z4q:LC:=(.q [.x 3 0,.x 4 1,.F 6] (.seq (.q [.f 9 0 4,.l 10 9,.b 11 .eql 3 10 16] (.cond (.t 11) (.q [.F 6] .ret) .skip)) (.seq (.q [.f 12 0 4,.l 13 12,.b 14 .eql 3 13 14] (.cond (.t 14) (.q [.f 15 1 3,.l 16 15,.f 17 6 4,.l 18 17,.I 19 3 16 18,.f 20 2 19,.l 21 20,.m 6 21] .ret) .skip)) (.q [.L 22 8 4,.w 23 79 22,.m 7 23] (.seq (.q [.K 8 0] (.block 0 (.loop (.seq (.q [.m 24 8,.m 25 7,.s 26 25,.c 27 .lss 3 24 26] (.cond (.t 27) .skip (.exit 0))) (.seq (.block 1 (.q [.m 30 2,.m 31 7,.m 32 8,.I 33 1 31 32,.l 34 33,.I 35 1 30 34,.l 36 35] (.cond (.t 36) (.q [.z 6 (.move .T)] .ret) .skip))) (.ops [.m 28 8,.b 29 .add 3 28 1,.m 8 29])))))) (.q [.F 6] .ret))))))
def r_ref13_secret:Oz Tryz.prog 81=some ⟨37,z4q.r,[.tmp 6]⟩:=Aa
def zb2:LC:=(.q [.x 1 0,.e 2] (.q [.L 11 3 1,.w 12 39 11,.m 10 12,.X 13 0 10,.X 14 1 10,.m 3 13,.m 4 14] (.seq (.q [.m 15 4,.b 16 .neq 37 15 0] (.cond (.t 16) (.q [.e 2] .ret) .skip)) (.q [.f 17 0 1,.l 18 17,.z 19 (.mkSl 1 [(.bool false)] (.t 18) (.t 18)),.m 5 19] (.seq (.q [.z 6 (.move .T)] (.block 0 (.loop (.seq (.q [.m 20 6] (.cond (.t 20) .skip (.exit 0))) (.block 1 (.q [.F 6] (.q [.K 7 0] (.block 2 (.loop (.seq (.q [.m 21 7,.f 22 2 1,.l 23 22,.s 24 23,.c 25 .lss 3 21 24] (.cond (.t 25) .skip (.exit 2))) (.seq (.block 3 (.q [.f 28 2 1,.l 29 28,.m 30 7,.I 31 8 29 30,.L 32 8 31,.w 33 78 32,.m 8 33] (.q [.K 9 0] (.block 4 (.loop (.seq (.q [.m 34 9,.m 35 8,.s 36 35,.c 37 .lss 3 34 36] (.cond (.t 37) .skip (.exit 4))) (.seq (.block 5 (.seq (.draw [(.m 40 5,[]),(.m 41 8,[]),(.m 42 9,[]),(.I 43 1 41 42,[]),(.l 44 43,[]),(.I 45 1 40 44,[]),(.l 46 45,[]),(.z 47 (.un .not (.t 46)),[]),(.m 48 47,[]),(.y 49 48 (.loadN 3 (.t 1)),[]),(.yf 50 48 2 1,[]),(.yl 51 48 50,[]),(.my 52 48 7,[]),(.y 53 48 (.ixAddr 8 (.t 51) (.t 52)),[]),(.y 54 48 (.loadN 8 (.t 53)),[]),(.my 55 48 5,[]),(.y 56 48 (.w 81 [.t 49,.t 54,.t 55]),[]),(.q 57 48 56,[])]) (.cond (.t 57) (.ops [.m 58 5,.m 59 8,.m 60 9,.I 61 1 59 60,.l 62 61,.I 63 1 58 62,.v (.store 1 (.t 63) .T),.z 6 (.move .T)]) .skip))) (.ops [.m 38 9,.b 39 .add 3 38 1,.m 9 39])))))))) (.ops [.m 26 7,.b 27 .add 3 26 1,.m 7 27])))))))))))) (.q [.m 64 5,.m 2 64] .ret))))))
def r_ref13_Secret:Oz Tryz.prog 40=some ⟨65,zb2.r,[.tmp 2]⟩:=Aa
def zc6:LC:=(.q [.x 1 0,.K 2 0,.K 3 0] (.q [.L 11 3 1,.w 12 39 11,.m 10 12,.X 13 0 10,.X 14 1 10,.m 4 13,.m 5 14] (.seq (.q [.m 15 5,.b 16 .neq 37 15 0] (.cond (.t 16) (.q [.m 17 4,.m 18 5,.m 2 17,.m 3 18] .ret) .skip)) (.q [.L 19 3 1,.w 20 40 19,.m 6 20] (.seq (.q [.K 7 0] (.block 0 (.loop (.seq (.q [.m 21 7,.f 22 2 1,.l 23 22,.s 24 23,.c 25 .lss 3 21 24] (.cond (.t 25) .skip (.exit 0))) (.seq (.block 1 (.q [.f 28 2 1,.l 29 28,.m 30 7,.I 31 8 29 30,.L 32 8 31,.z 8 (.alloc [(.i 0),(.i 0),(.i 0),(.i 0),(.i 0),(.i 0),(.i 0),(.u 0)]),.S 8 8 32] (.q [.f 33 0 8,.l 34 33,.b 35 .eql 3 34 14,.m 36 35,.nf 37 36 0 8,.nl 38 36 37,.nb 39 36 .eql 3 38 15,.p 40 36 39,.m 9 40] (.q [.m 41 9,.m 42 41,.yf 43 42 3 8,.yl 44 42 43,.y 45 42 (.bin .geq true 3 (.t 44) (.k 0)),.q 46 42 45,.m 47 46,.my 48 47 6,.yf 49 47 3 8,.yl 50 47 49,.y 51 47 (.ixAddr 1 (.t 48) (.t 50)),.yl 52 47 51,.q 53 47 52,.m 54 53,.nf 55 54 0 8,.nl 56 54 55,.nb 57 54 .eql 3 56 15,.mn 58 54 57,.my 59 58 6,.yf 60 58 4 8,.yl 61 58 60,.y 62 58 (.ixAddr 1 (.t 59) (.t 61)),.yl 63 58 62,.n 64 54 (.pick (.t 58) (.t 63) .F),.mn 65 54 64,.yf 66 65 1 1,.yl 67 65 66,.yf 68 65 6 8,.yl 69 65 68,.y 70 65 (.ixAddr 3 (.t 67) (.t 69)),.yf 71 65 2 70,.yl 72 65 71,.y 73 65 (.un .not (.t 72)),.n 74 54 (.pick (.t 65) (.t 73) .F),.p 75 54 74,.m 76 75,.nf 77 76 0 8,.nl 78 76 77,.nb 79 76 .eql 3 78 16,.mn 80 76 79,.my 81 80 6,.yf 82 80 1 8,.yl 83 80 82,.y 84 80 (.ixAddr 1 (.t 81) (.t 83)),.yl 85 80 84,.n 86 76 (.pick (.t 80) (.t 85) .F),.p 87 76 86] (.cond (.t 87) (.q [.m 88 7,.m 2 88,.K 3 12] .ret) .skip))))) (.ops [.m 26 7,.b 27 .add 3 26 1,.m 7 27])))))) (.q [.f 89 2 1,.l 90 89,.s 91 90,.m 2 91,.K 3 0] .ret))))))
def r_ref13_Check:Oz Tryz.prog 17=some ⟨92,zc6.r,[.tmp 2,.tmp 3]⟩:=Aa
def ay{o:Lo}(h:Rj z T o=true)(g:o.kind=14∨o.kind=15):0≤o.buf∧o.buf.toNat<T.length:=by
 unfold Rj at h;simp only[Jz,Kb]at h;obtain⟨⟨A,B⟩,d,e,a,b,c,f,j⟩:=h;rw[J8 (by rcases g with q|q<;>simp[Qd,q])]at j;simp only[Jz,Kb]at j;omega
def zf6{r:Nat}{os:List Lo}{m:List Bool}{o:Lo}(V:Rj r T o=true)(hm:m.length=r) :
  Rd 81 [.agg (Oq r T os),.agg o.f,.lst (m.map .bool) r 1] (.bool (X4 T m o)):=by
 refine T2.mk rfl (O0 r_ref13_secret Aa (by simp) ?_);have I:o.f=[.i o.kind,.i o.d,.i o.e,.i o.a,.i o.b,.i o.c,.i o.buf,.u o.imm]:=rfl;obtain⟨Z,_,_⟩:=ta V;generalize g:X4 T m o=gC;unfold X4 at g;by_cases z:o.kind=16
 ·rw[J8 z]at g;simp[z4q,Oq,I,z,g]
 rw[J2 z]at g;by_cases j:o.kind=14
 ·rw[J8 j]at g;obtain⟨b0,K⟩:=ay V (.inl j);obtain⟨bn,G⟩:=J3 b0;rw[G]at K g;simp only[Ky]at K g;have q2:=zqf (S8 K);simp[z4q,Oq,I,j,G,K,Ov q2,g]
 rw[J2 j]at g;simp[z4q,Oq,I,z,j];refine Sx (by rw[←I];exact zb4 o) Bq ?_;simp;have gg:=zhz o;refine Ql (λY gA gB N=>∃P:Nat,gA=[]∧N+P=(P3 o).length∧lk Y 2=.lst (m.map .bool) r 1∧lk Y 7=.lst ((P3 o).map .i) (P3 o).length 1∧lk Y 8=.i P∧∀x∈(P3 o).take P,P9 m x=false) (N:=(P3 o).length)
  ⟨0,rfl,J,by simp,by simp,by simp,by simp⟩ ?_
 rintro N Y gA gB ⟨P,rfl,hN,L,M,Q,R⟩ Nx U;by_cases F:P<(P3 o).length
 ·have X:=Wz (f:=LV.i) (Ys F);have H:=zda F;have C:=zgy F;generalize gd (P3 o) P=x at *;obtain⟨x0,xr⟩:=Z x C;obtain⟨O,rfl⟩:=J3 x0;have D:O<r:=J
  have A:(m.map LV.bool)[O]?=some (.bool (P9 m (O:Int))):=by simp[P9,hm,D]
  cases B:P9 m (O:Int) with
  |true =>
   rw[B]at A;rw[show (P3 o).any (P9 m)=true from K5.2 ⟨_,C,B⟩]at g;subst g;simp[L,M,Q,F,Ov X,D,Ov A]
  |false =>
   rw[B]at A;simp[L,M,Q,F,Ov X,D,Ov A];refine⟨J,U _ _ _ ⟨N-1,J,P+1,rfl,J,by simp[L],Bh,by simp,λy E=>?_⟩⟩;rw[H]at E;rcases Ks.1 E with E|E
   ·exact R y E
   ·simp at E;rw[E];exact B
 ·rw[Kf J]at R;have:(P3 o).any (P9 m)=false:=by rw[Np];intro x hx;simp[R x hx]
  rw[this]at g;subst g;simp[L,M,Q,F]
def zd3(l:List Bool):dats (l.map .bool)=true:=by induction l<;>simp_all [dats,LV.dat]
def zfd{r:Nat}{os:List Lo}(hc:(R8 r T os).2=0) :
  Rd 40 [.agg (Oq r T os)] (.lst ((Xv r T os).map .bool) r 1):=by
 obtain⟨jD,jA,jE,jF,jB,gA⟩:=z5y hc;refine T2.mk (by simp[LV.dat,zd3]) (O0 r_ref13_Secret Aa (by simp) ?_);have gT:dats (Oq r T os)=true:=zej _ _ _;simp[zb2,Oq];refine Pm (z3h r T os) (bors_self _ Bi) ?_;simp[hc];refine⟨J,?_⟩;have gB:∀o∈os,∀x∈O7 o,0≤x∧x<(r:Int):=λo ho=>(ta (gA o ho)).2.1
 refine Ql (λU gR gO N=>∃(st n:Nat) (m:List Bool) (D:Bool),gR=[]∧N=(if D=true then n+1 else 0)∧lk U 1=.ptr 0 0∧lk U 5=.dy 1 0∧lk U 6=.bool D∧gO[0]?=some (.cells (Oq r T os) 0)∧gO[1]?=some (.dyn (m.map .bool) r 1 0 st)∧m.length=r∧(D=true→Uh m<n)∧(if D=true then W5 T os n m else m)=Xv r T os) (N:=r+1+1)
  ⟨0,r+1,List.replicate r false,true,rfl,by simp,by simp,by simp,by simp,Ca,by simp[wo],by simp,λ_=>?_,by simp[Xv]⟩ ?_
 ·have:Uh (List.replicate r false)≤r:=by unfold Uh;exact K4 (List.countP_le_length) (by simp)
  omega
 rintro N U gR gO ⟨st,n,m,D,rfl,hN,G,F,I,g,j,gC,gD,hL⟩ Nx gU;cases D with
 |false =>
  simp at hL;simp[F,I];exact⟨_,_,_,⟨rfl,rfl,rfl⟩,⟨st,by rw[j,hL]⟩,zd3 _⟩
 |true =>
 simp at hN gD hL;subst hN;obtain⟨n,rfl⟩:∃k,n=k+1:=⟨n-1,J⟩;rw[W5]at hL;simp[F,I];refine Ql (λU gR gO N=>∃(i st:Nat) (Z:List Bool) (z:Bool),gR=[]∧N+i=os.length∧lk U 1=.ptr 0 0∧lk U 5=.dy 1 0∧lk U 6=.bool z∧lk U 7=.i i∧gO[0]?=some (.cells (Oq r T os) 0)∧gO[1]?=some (.dyn (Z.map .bool) r 1 0 st)∧Z.length=r∧Yx T (os.drop i) (Z,z)=Yx T os (m,false)) (N:=os.length)
  ⟨0,st,m,false,rfl,J,Bn,Ao,by simp,by simp,g,j,gC,by simp⟩ ?_
 clear G F I g j;rintro N U gR gO ⟨i,gF,Z,z,rfl,hN,G,F,I,K,g,j,V,H⟩ jG gG;have l0:=(Jx.1 g).1;have l1:=(Jx.1 j).1;by_cases jz:i<os.length
 case neg =>
  rw[Lv J,Yx]at H;rw[←H]at hL;have gH:=zqg T os (m,false) (by rw[gC];exact gB);rw[←H]at gH;have gV:¬i<os.length:=jz;simp[G,K,g,Oq,gV];refine gU _ _ _ ⟨if z=true then n+1 else 0,by split<;>omega,gF,n,Z,z,rfl,rfl,Bn,Ao,Cu,g,j,V,λhm=>?_,by simpa using hL⟩;have:=gH.2 hm;simp at this;omega
 have ho:=zgf jz;have X:dh os i∈os:=Kg ho;rw[zem jz,Yx]at H;have gI:=zak ho;have gK:=xd jz;generalize dh os i=o at *;have hC:o.f=[.i o.kind,.i o.d,.i o.e,.i o.a,.i o.b,.i o.c,.i o.buf,.u o.imm]:=rfl;simp[G,K,g,Oq,jz,gI,gK];refine Sx (zb6 o) (by simp[dats,LV.dat,hC]) ?_;simp;have gX:=gB o X;refine Ql (λU gR gO N=>∃(gg st:Nat) (E:List Bool) (B:Bool),gR=[]∧N+gg=(O7 o).length∧lk U 1=.ptr 0 0∧lk U 5=.dy 1 0∧lk U 6=.bool B∧lk U 7=.i i∧lk U 8=.lst ((O7 o).map .i) (O7 o).length 1∧lk U 9=.i gg∧gO[0]?=some (.cells (Oq r T os) 0)∧gO[1]?=some (.dyn (E.map .bool) r 1 0 st)∧E.length=r∧mkS T o ((O7 o).drop gg) (E,B)=mkS T o (O7 o) (Z,z)) (N:=(O7 o).length)
  ⟨0,gF,Z,z,rfl,J,Bn,Ao,Cu,Bm,by simp,by simp,g,j,V,by simp⟩ ?_
 clear G F I K g j l0 l1;rintro N3 U gR G3 ⟨gg,L,E,B,rfl,jH,G,F,I,K,h8,h9,g,j,C,A⟩ jI M;have l0:=(Jx.1 g).1;have l1:=(Jx.1 j).1;have jC:=ziz o;by_cases Y:gg<(O7 o).length
 ·have hg:=Wz (f:=LV.i) (Ys Y);have gY:(O7 o).drop gg=gd (O7 o) gg::(O7 o).drop (gg+1):=by
   rw[Lh Y];simp[gd,J0,Y]
  have gZ:=zgy Y;rw[gY,mkS]at A;generalize gd (O7 o) gg=x at *;obtain⟨x0,xr⟩:=gX x gZ;obtain⟨P,rfl⟩:=J3 x0;have Q:P<r:=J
  have R:(E.map LV.bool)[P]?=some (.bool (P9 E (P:Int))):=by simp[P9,C,Q]
  cases O:P9 E (P:Int) with
  |true =>
   rw[O]at R;simp[O]at A;simp[G,F,K,h8,h9,Y,Ov hg,g,j,Q,Ov R];refine⟨J,M _ _ _ ⟨N3-1,J,gg+1,L,E,B,rfl,J,Bn,Ao,Cu,Bm,by simp[h8],by simp,g,j,C,A⟩⟩
  |false =>
   rw[O]at R;have gL:=zf6 (os:=os) (gA o X) C;simp[G,F,K,h8,h9,Y,Ov hg,g,j,Q,Ov R,Oq,jz,gI,gK];have hb:bors G3 [.agg (Oq r T os),.agg o.f,.dy 1 0] [.agg (Oq r T os),.agg o.f,.lst (E.map .bool) r 1]:=⟨_,_,rfl,⟨_,rfl,bors_self _ gT⟩,_,_,rfl,⟨_,rfl,bors_self _ (by simp[hC,dats,LV.dat])⟩,_,_,rfl,⟨_,r,1,L,rfl,j,zd3 _⟩,rfl⟩;refine po gL hb rfl ?_;have e1:Po (E.map LV.bool) P [.bool true]=(E.set P true).map LV.bool:=by
    rw[show Po (E.map LV.bool) P [.bool true]=(E.map LV.bool).set P (.bool true) by rw[La,J8 Ab];simp[Po],K9]
   cases gM:X4 T E o with
   |false =>
    simp[O,gM]at A;simp[h9];refine⟨J,M _ _ _ ⟨N3-1,J,gg+1,L,E,B,rfl,J,Bn,Ao,Cu,Bm,by simp[h8],by simp,g,j,C,A⟩⟩
   |true =>
    simp[O,gM]at A;simp[F,h8,h9,Y,Ov hg,j,Q,C,e1];refine⟨J,J,M _ _ _ ⟨N3-1,J,gg+1,L+1,E.set P true,true,rfl,J,Bn,Ao,by simp,Bm,by simp[h8],by simp,?_,?_,As,A⟩⟩
    ·rw[Jy J];exact g
    ·rw[←K9];exact J1 l1
 ·have jg:¬gg<(O7 o).length:=Y;rw[Lv J,mkS]at A;rw[←A]at H;simp[K,h8,h9,jg];refine⟨J,gG _ _ _ ⟨N-1,J,i+1,L,E,B,rfl,J,Bn,Ao,Cu,by simp,g,j,C,H⟩⟩
def zb7{r:Nat}{gO:Int→Bool}(hc:(R8 r T vK).2=0)(gD:zwz T gO vK)(gF:∀o∈vK,ao T gO o=true) :
  Rd 17 [.agg (Oq r T vK)] (.tup [.i vK.length,.i 0]):=by
 obtain⟨gR,gK,gT,gU,gL,Y⟩:=z5y hc;refine T2.mk rfl (O0 r_ref13_Check Aa (by simp) ?_);have gV:dats (Oq r T vK)=true:=zej _ _ _;simp[zc6,Oq];refine Pm (z3h r T vK) (bors_self _ Bi) ?_;simp[hc];refine Sx (zfd hc) Bi ?_;have gg:Xc (Xv r T vK) gO:=zpx (λo ho x F=>((ta (Y o ho)).1 x F).1) (λo ho x F=>((ta (Y o ho)).2.1 x F).1) gD _ _ (Xc.none _ _);have gX:(Xv r T vK).length=r:=by unfold Xv;rw[zpl];simp
 generalize Xv r T vK=gG at *;simp;refine Ql (λρ gY gM N=>∃i:Nat,gY=[]∧N+i=vK.length∧lk ρ 1=.ptr 0 0∧lk ρ 6=.lst (gG.map .bool) r 1∧lk ρ 7=.i i∧gM[0]?=some (.cells (Oq r T vK) 0)) (N:=vK.length)
  ⟨0,rfl,J,by simp,by simp,by simp,Ca⟩ ?_
 rintro N ρ gY gM ⟨i,rfl,hN,j,D,M,g⟩ Nx gH;have l0:=(Jx.1 g).1;by_cases gA:i<vK.length
 case neg =>
  have gI:¬i<vK.length:=gA;simp[j,M,g,Oq,gI]
 have ho:=zgf gA;have R:dh vK i∈vK:=Kg ho;have z:=zak ho;have A:=xd gA;have hf:=Y _ R;have H:=gF _ R;generalize dh vK i=o at *;have U:o.f=[.i o.kind,.i o.d,.i o.e,.i o.a,.i o.b,.i o.c,.i o.buf,.u o.imm]:=rfl;have V:∀x:List LObj,(gM++x)[0]?=some _:=λx=>(Oo l0).trans g
 obtain⟨ht,hm,hd⟩:=ta hf;have gB:o.kind=15→0≤o.b:=λq=>(ht o.b (by unfold P3;simp[q];split<;>simp)).1
 have H:=aw gg gB (λq=>(hd q).1) H;have ix:∀x:Int,0≤x→x<r→∃n:Nat,x=n∧n<r∧(gG.map LV.bool)[n]?=some (.bool (P9 gG x)):=λx h0 j=>by
  obtain⟨n,rfl⟩:=J3 h0
  exact ⟨n, rfl, by omega, by have : n < gG.length := by omega
                              simp[P9,this]⟩
 have next:∀(ρ':Om) (G':Ok),lk ρ' 1=.ptr 0 0→lk ρ' 6=.lst (gG.map .bool) r 1→lk ρ' 7=.i ((i:Int)+1)→G'[0]?=some (.cells (Oq r T vK) 0)→Nx ρ' [] G':=λρ' G' a1 a6 a7 b0=>gH _ _ _ ⟨N-1,J,i+1,rfl,J,a1,a6,by rw[a7];simp,b0⟩
 have X:∀x:List LObj,(gM++x)[0]?=some (.cells (Oq r T vK) 0):=λx=>(Oo l0).trans g
 unfold ao at H;by_cases O:o.kind=14
 ·by_cases ha:0≤o.a
  ·have I:=ht o.a (by unfold P3;rw[J2 J,J2 J,J2 J,J8 J];simp);simp[O,Qd,ha]at H;obtain⟨n,hn,G,F⟩:=ix o.a I.1 I.2;rw[H]at F;simp[j,D,M,g,Oq,gA,z,A,U,↓V,O,hn,G,Ov F];refine⟨J,next _ _ Ay Ae (by simp) (X _)⟩
  ·simp[j,D,M,g,Oq,gA,z,A,U,↓V,O,ha];refine⟨J,next _ _ Ay Ae (by simp) (X _)⟩
 by_cases B:o.kind=15
 ·have gC:=ht o.b (by unfold P3;simp[B];split<;>simp);obtain⟨b0,b1⟩:=ay hf (.inr B);obtain⟨bn,P⟩:=J3 b0;rw[P]at b1;simp only[Ky]at b1;have q2:=zqf (S8 b1);obtain⟨nb,Q,E,C⟩:=ix o.b gC.1 gC.2;simp[B,Qd,P]at H;by_cases ha:0≤o.a
  ·have I:=ht o.a (by unfold P3;rw[J2 J,J2 J,J2 J,J2 J,J8 J];simp);obtain⟨n,hn,G,F⟩:=ix o.a I.1 I.2;rw[H.1.resolve_left J]at F;cases Z:P9 gG o.b with
   |false =>
    rw[Z]at C;simp[j,D,M,g,Oq,gA,z,A,U,↓V,B,hn,G,Ov F,Q,E,Ov C];refine⟨J,next _ _ Ay Ae (by simp) (X _)⟩
   |true =>
    rw[Z]at C;have K:(Oy T bn).sec=true:=by simpa [Z] using H.2
    rw[K]at q2;simp[j,D,M,g,Oq,gA,z,A,U,↓V,B,hn,G,Ov F,Q,E,Ov C,P,b1,Ov q2];refine⟨J,next _ _ Ay Ae (by simp) (X _)⟩
  ·cases Z:P9 gG o.b with
   |false =>
    rw[Z]at C;simp[j,D,M,g,Oq,gA,z,A,U,↓V,B,ha,Q,E,Ov C];refine⟨J,next _ _ Ay Ae (by simp) (X _)⟩
   |true =>
    rw[Z]at C;have K:(Oy T bn).sec=true:=by simpa [Z] using H.2
    rw[K]at q2;simp[j,D,M,g,Oq,gA,z,A,U,↓V,B,ha,Q,E,Ov C,P,b1,Ov q2];refine⟨J,next _ _ Ay Ae (by simp) (X _)⟩
 by_cases L:o.kind=16
 ·obtain⟨n,hn,G,F⟩:=ix o.d (hd L).1 (hd L).2;simp[L,Qd]at H;rw[H]at F;simp[j,D,M,g,Oq,gA,z,A,U,↓V,L,hn,G,Ov F];refine⟨J,next _ _ Ay Ae (by simp) (X _)⟩
 ·simp[j,D,M,g,Oq,gA,z,A,U,↓V,O,B,L];refine⟨J,next _ _ Ay Ae (by simp) (X _)⟩
section
def zso{p:Pn}{x k:Nat}:Qm p.p (x:Nat) (k:Nat)=(Ol p x k).p:=by
 simp[Qm,Ol,Pn.p]
def zti{p:Pn}{x k:Nat}{l:Int}:Qm (Qm p.p 0 l) (x:Nat) (k:Nat)=(Ol p x k).p:=by
 simp[Qm,Ol,Pn.p]
def hal_T{d a b w:Pn}{R D:Nat}{n:Nat}(F:a.k=n):Y5 d.p a.p b.p w.p ((n:Int)/2) R D=Ts d a b w n R D:=by
 have j:a.p.size=(n:Int):=by show ((a.k:Nat):Int)=_;rw[F]
 have G:(n:Int)/2=((n/2:Nat):Int):=J
 have em:(n:Int)-((n/2:Nat):Int)=((n-n/2:Nat):Int):=J
 have H:2*(n:Int)=((2*n:Nat):Int):=J
 unfold Y5 Ts;simp only[j,G,em,H];have I:n/2≤2*n:=J
 generalize n-n/2=m;generalize n/2=h at *;generalize 2*n=g at *;by_cases E:h=0
 ·subst E;rw[J8 N,J8 rfl];have K:Qm w.p 0 (g:Nat)=(Ol w 0 g).p:=zso;rw[K]
 ·rw[J2 J,J2 E];have z:2*(h:Int)=((2*h:Nat):Int):=J
  have A:2*(m:Int)=((2*m:Nat):Int):=J
  have B:(m:Int)+1=((m+1:Nat):Int):=J
  have C:2*(((m+1:Nat):Int))=((2*(m+1):Nat):Int):=J
  have V:(0:Int)=((0:Nat):Int):=rfl;have L:(g:Int)+(m:Int)+1=((g+(m+1):Nat):Int):=J
  have M:(g:Int)+((2*(m+1):Nat):Int)=((g+2*(m+1):Nat):Int):=J
  have O:(g:Int)-(h:Int)=((g-h:Nat):Int):=J
  have P:∀x:Nat,Qm (Qm w.p 0 (g:Nat)) 0 (x:Nat)=(Ol w 0 x).p:=λx=>zti (x:=0)
  have Q:∀x:Nat,Qm a.p 0 (x:Nat)=(Ol a 0 x).p:=λx=>zso (x:=0)
  have T:∀x:Nat,Qm b.p 0 (x:Nat)=(Ol b 0 x).p:=λx=>zso (x:=0)
  have U:∀x:Nat,Qm w.p 0 (x:Nat)=(Ol w 0 x).p:=λx=>zso (x:=0)
  simp only[z,A,B,C,L,M,O,P,Q,T,zti,zso];rw[U g]
def r7(s:Bool):Nat:=if s=true then 40 else 16
def Qi(n:Nat)(s:Bool):Pn:=⟨if s=true then 8 else 7,0,2*n+4*(n-n/2+1)⟩
section v7
variable {n : Nat} {s : Bool}
def w7_val:O9 (n:Int)=((2*n+4*(n-n/2+1):Nat):Int):=by
 unfold O9;omega
def zwa(h:1≤n∧n≤9){o:Ko}(g:o∈[oX 3 2 0 1,oX 4 3 2 1,oX 5 4 0 1,oX 6 5 1 0,oX 7 6 0 1]) :
  zwl (v7 n s) o (Ps (v7 n s) (O9 n)) (Qy (v7 n s)) ⟨(v7 n s).length,0,O9 n⟩ ⟨((v7 n s).length:Int)+1,0,O9 n⟩ 0=U8 o.kind o.imm (Qc (Qy (v7 n s)) o.d) (Qc (Qy (v7 n s)) o.a) (Qc (Qy (v7 n s)) o.b) (Qi n s).p ((r7 s:Nat):Int) 0 ∧
  zr5 (v7 n s) o (Ps (v7 n s) (O9 n)) (Qy (v7 n s)) ⟨(v7 n s).length,0,O9 n⟩ ⟨((v7 n s).length:Int)+1,0,O9 n⟩ 0=0:=by
 have hw:1≤Tn (v7 n s) o∧Tn (v7 n s) o≤O9 n:=by
  obtain⟨K,L,M,C,O⟩:=zv9 (s:=s) h;simp only[J9,Lp,Nd]at g;rw[w7_val]at C ⊢;rcases g with rfl|rfl|rfl|rfl|rfl<;>omega
 have hd:o.d=2∨o.d=3∨o.d=4∨o.d=5∨o.d=6:=by
  simp only[J9,Lp,Nd]at g;rcases g with rfl|rfl|rfl|rfl|rfl<;>simp[oX]
 have z:Wd (v7 n s) o.d=!s:=by
  obtain⟨P,Q,D,E,F,G,H⟩:=zs1 (n:=n) (s:=s);unfold Wd;rcases hd with e|e|e|e|e<;>rw[e]<;>simp[D,E,F,G,H,v7,gv]
 have A:Zb (v7 n s) o ⟨(v7 n s).length,0,O9 n⟩ ⟨((v7 n s).length:Int)+1,0,O9 n⟩=(Qi n s).p:=by
  unfold Zb;rw[z,w7_val];cases s<;>rfl
 have I:kt (v7 n s) o=((r7 s:Nat):Int):=by
  unfold kt r7;rw[z];cases s<;>simp
 have B:Z9 (v7 n s) o (Ps (v7 n s) (O9 n)) (Qy (v7 n s)) ⟨(v7 n s).length,0,O9 n⟩ ⟨((v7 n s).length:Int)+1,0,O9 n⟩ 0 (Tn (v7 n s) o)=true:=by
  unfold Z9;rw[zsj (zgw h) (λi hi=>?_) Df Et,A]
  ·have:(Qi n s).p.size=O9 n:=by rw[w7_val];rfl
   rw[this];simp;omega
  ·have j:i=0∨i=1∨i=2∨i=3∨i=4∨i=5∨i=6:=by simp[v7]at hi;omega
   rcases j with rfl|rfl|rfl|rfl|rfl|rfl|rfl<;>rfl
 unfold zwl zr5;rw[J8 B,J8 B,A,I];exact⟨rfl,rfl⟩
def pcA7:Qc (Qy (v7 n s)) 0=(bq 0 n).p∧Qc (Qy (v7 n s)) 1=(bq 1 n).p∧Qc (Qy (v7 n s)) 2=(bq 2 (n+1)).p∧Qc (Qy (v7 n s)) 3=(bq 3 n).p∧Qc (Qy (v7 n s)) 4=(bq 4 (2*n)).p∧Qc (Qy (v7 n s)) 5=(bq 5 (2*n)).p∧Qc (Qy (v7 n s)) 6=(bq 6 1).p:=by
 have E:(v7 n s).length=7:=rfl;have p:∀i:Nat,i<7→Qc (Qy (v7 n s)) (i:Int)=⟨i,0,(gv (v7 n s) i).limbs⟩:=λi hi=>by
  unfold Qc;rw[J8 J,Ky,bg (by rw[E];exact hi)]
 obtain⟨F,G,H,I,K,L,M⟩:=zs1 (n:=n) (s:=s);have g:=p 0 Ac;have j:=p 1 Ac;have z:=p 2 Ac;have A:=p 3 Ac;have B:=p 4 Ac;have C:=p 5 Ac;have D:=p 6 Ac;rw[F]at g;rw[G]at j;rw[H]at z;rw[I]at A;rw[K]at B;rw[L]at C;rw[M]at D;exact⟨g,j,z,A,by rw[show (4:Int)=((4:Nat):Int) from rfl,B];simp[bq,Pn.p],by rw[show (5:Int)=((5:Nat):Int) from rfl,C];simp[bq,Pn.p],D⟩
def zit{R:Nat}{f:Fr Lo}:((X8 R).cat f).flat=cK R 0::f.flat:=by
 rw[T1];simp[X8,flat_frL]
def fill0{d:Pc}{R D:Int}(h:d.size=1):(Vx (Qm d 1 (d.size-1)) R D).flat=[]:=by
 unfold Vx Qm;rw[h,xf,J8 (by show (1:Int)-1<1;decide)]
def codes7:U8 3 0 (Qc (Qy (v7 n s)) 2) (Qc (Qy (v7 n s)) 0) (Qc (Qy (v7 n s)) 1) (Qi n s).p ((r7 s:Nat):Int) 0=(Ue n (n+1) (r7 s)).flat ∧
  U8 4 0 (Qc (Qy (v7 n s)) 3) (Qc (Qy (v7 n s)) 2) (Qc (Qy (v7 n s)) 1) (Qi n s).p ((r7 s:Nat):Int) 0=(Wr n (r7 s)).flat ∧
  U8 5 0 (Qc (Qy (v7 n s)) 4) (Qc (Qy (v7 n s)) 0) (Qc (Qy (v7 n s)) 1) (Qi n s).p ((r7 s:Nat):Int) 0=(V0 n (r7 s) (Qi n s)).flat ∧
  U8 6 0 (Qc (Qy (v7 n s)) 5) (Qc (Qy (v7 n s)) 1) (Qc (Qy (v7 n s)) 0) (Qi n s).p ((r7 s:Nat):Int) 0=(W3 n (r7 s) (Qi n s)).flat ∧
  U8 7 0 (Qc (Qy (v7 n s)) 6) (Qc (Qy (v7 n s)) 0) (Qc (Qy (v7 n s)) 1) (Qi n s).p ((r7 s:Nat):Int) 0=(Wt n (r7 s)).flat:=by
 obtain⟨j,z,A,B,C,E,F⟩:=pcA7 (n:=n) (s:=s);rw[j,z,A,B,C,E,F];have g:∀i k,(bq i k).p.size=(k:Int):=λ_ _=>rfl
 refine⟨?_,?_,?_,?_,?_⟩
 ·unfold U8 Ue;rw[zit];rfl
 ·unfold U8 Wr;rw[zit];rfl
 ·unfold U8 V0;rw[zit,T1];have e:Qm (Qi n s).p 0 ((bq 0 n).p.size+(bq 1 n).p.size)=(Ol (Qi n s) 0 (n+n)).p:=by
   rw[g,g,(J:(n:Int)+(n:Int)=((n+n:Nat):Int))];exact zso (x:=0)
  simp only[e];rfl
 ·unfold U8 W3;rw[zit];have e:=hal_T (d:=bq 5 (2*n)) (a:=bq 1 n) (b:=bq 0 n) (w:=Qi n s) (R:=r7 s) (D:=0) (n:=n) rfl;show _=cK _ 0::_;rw[←e];rfl
 ·unfold U8 Wt;rw[zit,T1,flat_frL];have hm:max (bq 0 n).p.size (bq 1 n).p.size=((n:Nat):Int):=by rw[g,g];omega
  simp only[hm,fill0 (g 6 1)];rfl
end v7
end
section
def zoq{W:Int}{i k:Nat}(g:To vE=true)(hi:i<vE.length)(j:(k:Int)=(gv vE i).limbs):Bp (Ps vE W) (bq i k)∧Bw (Ps vE W) (bq i k):=by
 have z:=zjw g hi;refine⟨⟨by rw[plB_len];show i<_;omega,?_,?_⟩,?_⟩
 ·show ((0+k:Nat):Int)≤(Oy _ i).size;rw[qr hi];simp only;omega
 ·show (Oy _ i).size≤_;rw[qr hi];simp only;omega
 ·show (Oy _ i).kind≠1;rw[qr hi];simp
def mo(bs:List Bf)(X:List (List UInt64)):Prop:=X.length=bs.length∧∀i,i<bs.length→((X.getD i []).length:Int)=(Oy bs i).size
def am{W:Int}{X:List (List UInt64)}(g:mo (Ps vE W) X):ae (Ps vE W) X=true:=by
 unfold ae;refine Ll ⟨g.1,λi hi=>?_⟩;rw[g.2 i hi];have:(Oy (Ps vE W) i).kind=2:=by
  rw[plB_len]at hi;by_cases q:i<vE.length
  ·rw[qr q]
  ·by_cases j:i=vE.length
   ·rw[j,plB_w0]
   ·rw[(J:i=vE.length+1),plB_w1]
 rw[this];simp
def zk7{X:List (List UInt64)}{g:Ms}{t:Fs}(A:mo T X)(r:Rep T.length (lh (Rf 64 T X)) g t){i k:Nat}(hi:i<T.length)(D:(k:Int)=(Oy T i).size) :
  (g.bufs.getD i []).length=k∧val (g.bufs.getD i [])=vl (pl t.m (bq i k)) k∧∀j,j<k→(g.bufs.getD i []).getD j 0=t.m i j:=by
 have z:=zpm (A.2 i hi) hi;have B:(g.bufs.getD i []).length=k:=by rw[r.len i hi,z];omega
 refine⟨B,(vl_get J λj C=>?_).symm,λj C=>?_⟩
 ·show t.m i (0+j)=_;rw[Kw];have hm:=r.m i j hi;rw[z]at hm;exact (hm J).symm
 ·have hm:=r.m i j hi;rw[z]at hm;exact hm J
section v7
variable {n : Nat} {s : Bool}
def c7(n:Nat)(s:Bool):Cf:=⟨9,(r7 s:Nat),24,0,7,8,8,λx=>x<7∨x=(Qi n s).b,λx=>(2≤x∧x<7)∨x=(Qi n s).b⟩
def r7_bd:16≤r7 s∧r7 s≤40:=by unfold r7;split<;>omega
def w7_b:7≤(Qi n s).b∧(Qi n s).b<9:=by unfold Qi;simp only;split<;>omega
def c7_ok:CfOk (c7 n s):=⟨by have:=r7_bd (s:=s);simp only[c7];omega,Hf,Hf⟩
def c7_E:EhC (c7 n s) ((r7 s:Nat):Int) ((0:Nat):Int):=⟨Gv,Hf,Hf,Hf⟩
def w7_at:Oy (Ps (v7 n s) (O9 n)) (Qi n s).b=⟨O9 n,2,s⟩:=by
 cases s with
 |true=>exact plB_w1
 |false=>exact plB_w0
def d8(h:1≤n∧n≤9):(Px n (r7 s) (Qi n s)).AllH (c7 n s) 0:=by
 have g:=w7_b (n:=n) (s:=s);exact nh c7_E (λi hi=>⟨Gv,.inl hi⟩) (λi j z=>⟨Gv,.inl ⟨j,z⟩⟩) ⟨g.2,.inr rfl⟩ ⟨g.2,.inr rfl⟩ h.2
def f8(h:1≤n∧n≤9):(Bp (Ps (v7 n s) (O9 n)) (bq 0 n))∧(Bp (Ps (v7 n s) (O9 n)) (bq 1 n))∧(Bp (Ps (v7 n s) (O9 n)) (bq 2 (n+1))∧Bw (Ps (v7 n s) (O9 n)) (bq 2 (n+1)))∧(Bp (Ps (v7 n s) (O9 n)) (bq 3 n)∧Bw (Ps (v7 n s) (O9 n)) (bq 3 n)) ∧
  (Bp (Ps (v7 n s) (O9 n)) (bq 4 (2*n))∧Bw (Ps (v7 n s) (O9 n)) (bq 4 (2*n)))∧(Bp (Ps (v7 n s) (O9 n)) (bq 5 (2*n))∧Bw (Ps (v7 n s) (O9 n)) (bq 5 (2*n)))∧(Bp (Ps (v7 n s) (O9 n)) (bq 6 1)∧Bw (Ps (v7 n s) (O9 n)) (bq 6 1))∧(Bp (Ps (v7 n s) (O9 n)) (Qi n s)∧Bw (Ps (v7 n s) (O9 n)) (Qi n s)):=by
 have j:=zgw (s:=s) h;have g:(v7 n s).length=7:=rfl;obtain⟨z,A,B,C,D,E,F⟩:=zs1 (n:=n) (s:=s);refine⟨(zoq j Cs (by rw[z])).1,(zoq j Cs (by rw[A])).1,zoq j Cs (by rw[B];simp),zoq j Cs (by rw[C]),zoq j Cs (by rw[D];simp),zoq j Cs (by rw[E];simp),zoq j Cs (by rw[F];rfl),⟨by rw[plB_len,g];exact w7_b.2,?_,?_⟩,?_⟩
 ·rw[w7_at,w7_val];show ((0+(2*n+4*(n-n/2+1)):Nat):Int)≤_;simp only;omega
 ·rw[w7_at,w7_val];simp only;omega
 ·show (Oy _ (Qi n s).b).kind≠1;rw[w7_at];simp
def zv7(h:1≤n∧n≤9):(R8 ((64:Nat):Int) (Ps (v7 n s) (O9 n)) (Px n (r7 s) (Qi n s)).flat).2=0:=by
 obtain⟨j,z,A,B,C,D,E,hw⟩:=f8 (s:=s) h;have F:=r7_bd (s:=s);have g:=fiv_gd (R:=r7 s) J j z A B C D E hw h.2 (J4 _);have:=sd (bs:=Ps (v7 n s) (O9 n)) (f:=Px n (r7 s) (Qi n s)) (S':=[]) (by rw[plB_len];exact (Ac:7+2≤32)) (by have:=zno (n:=n) (R:=r7 s) (w:=Qi n s);omega) (zo2 (zgw h) Et) g;rw[show (((64:Nat):Int))=64 from rfl,this]
def mq(h:1≤n∧n≤9):Rd 17 [.agg (Oq ((64:Nat):Int) (Ps (v7 n s) (O9 n)) (Px n (r7 s) (Qi n s)).flat)] (.tup [.i (Px n (r7 s) (Qi n s)).flat.length,.i 0]):=by
 have g:=allH_flat (d8 (s:=s) h);have j:=zv7 (s:=s) h;have E:(v7 n s).length=7:=rfl;have A:∀i,i<7→(Oy (Ps (v7 n s) (O9 n)) i).sec=s:=λi hi=>by
  rw[qr (by rw[E];exact hi)];have B:i=0∨i=1∨i=2∨i=3∨i=4∨i=5∨i=6:=J
  rcases B with rfl|rfl|rfl|rfl|rfl|rfl|rfl<;>rfl
 have C:(Oy (Ps (v7 n s) (O9 n)) (Qi n s).b).sec=s:=by rw[w7_at]
 cases D:s with
 |true =>
  subst D;have F:∀m,(c7 n true).S m→(Oy (Ps (v7 n true) (O9 n)) m).sec=true:=λm hm=>by
   rcases hm with hm|rfl
   ·exact A m hm.2
   ·exact C
  exact zb7 j (λx z=>(g x z).closedS c7_ok ((z5y j).2.2.2.2.2 x z)) (λx z=>(g x z).safeS c7_ok F)
 |false =>
  subst D;have G:∀m,(c7 n false).L m→(Oy (Ps (v7 n false) (O9 n)) m).sec=false:=λm hm=>by
   rcases hm with hm|rfl
   ·exact A m hm
   ·exact C
  exact zb7 j (λx z=>(g x z).closedP G) (λx _=>safeP)
def dw(h:1≤n∧n≤9){X:List (List UInt64)}(z:mo (Ps (v7 n s) (O9 n)) X) :
  ∃(g:List (List UInt64)) (G:LV),g.length=9∧(g.getD 3 [])=X.getD 0 []∧g.getD 4 []=g.getD 5 []∧(g.getD 4 []).length=2*n∧val (g.getD 4 [])=val (X.getD 0 [])*val (X.getD 1 [])∧g.getD 6 []=[if val (X.getD 0 [])<val (X.getD 1 []) then 1 else 0]∧G.dat ∧
   Rd 19 [.agg (Oq ((64:Nat):Int) (Ps (v7 n s) (O9 n)) (Px n (r7 s) (Qi n s)).flat),LN X] (.tup [LN g,G,.i 0]):=by
 obtain⟨V,Y,Z,h3,h4,h5,h6,hw⟩:=f8 (s:=s) h;have hl:(Ps (v7 n s) (O9 n)).length=9:=plB_len;have hr:=r7_bd (s:=s);have hi:∀q:Pn,Bp (Ps (v7 n s) (O9 n)) q→q.in_ (lh (Rf 64 (Ps (v7 n s) (O9 n)) X)):=λq H=>je (z.2 _ H.b) H
 have D:=fiv_ex (s:=Vg (Rf 64 (Ps (v7 n s) (O9 n)) X)) (R:=r7 s) (hi _ V) (hi _ Y) (hi _ Z.1) (hi _ h3.1) (hi _ h4.1) (hi _ h5.1) (hi _ h6.1) (hi _ hw.1) w7_b.1 h.1 (J4 _) J;obtain⟨I,t,B,⟨K,E,L,M⟩,_,r4,_,F,_⟩:=ax (X:=X) c7_ok (by rw[hl];rfl) (d8 h) (zv7 h) (ss h.2) (am z) J D;have A:∀i (k:Nat),i<7→(k:Int)=(gv (v7 n s) i).limbs→(k:Int)=(Oy (Ps (v7 n s) (O9 n)) i).size:=λi k hi hk=>by
  rw[qr (show i<(v7 n s).length from hi)];exact hk
 obtain⟨g0,g1,g2,g3,g4,g5,g6⟩:=zs1 (n:=n) (s:=s);have O:=zk7 z B (i:=3) (k:=n) J (A 3 n Ac (by rw[g3]));have C:=zk7 z B (i:=4) (k:=2*n) J (A 4 _ Ac (by rw[g4];simp));have P:=zk7 z B (i:=5) (k:=2*n) J (A 5 _ Ac (by rw[g5];simp));have Q:=zk7 z B (i:=6) (k:=1) J (A 6 _ Ac (by rw[g6];rfl));have T:(X.getD 0 []).length=n:=by have:=z.2 0 J;have:=A 0 n Ac (by rw[g0]);omega
 have x1:(X.getD 1 []).length=n:=by have:=z.2 1 J;have:=A 1 n Ac (by rw[g1]);omega
 have U:vl (pl (Vg (Rf 64 (Ps (v7 n s) (O9 n)) X)).m (bq 0 n)) n=val (X.getD 0 []):=zr4 (p:=bq 0 n) (z.2 0 J) (by show 0<_;omega) rfl T;have v1:vl (pl (Vg (Rf 64 (Ps (v7 n s) (O9 n)) X)).m (bq 1 n)) n=val (X.getD 1 []):=zr4 (p:=bq 1 n) (z.2 1 J) (by show 1<_;omega) rfl x1;rw[U]at K;rw[U,v1]at E L M;refine⟨I.bufs,_,J,val_inj_length (by rw[O.1,T]) (by rw[O.2.1,K]),val_inj_length (by rw[C.1,P.1]) (by rw[C.2.1,P.2.1,E,L]),C.1,by rw[C.2.1,E],?_,?_,F⟩
 ·have j:=Q.2.2 0 Ac;rw[M]at j;obtain⟨x,hx⟩:=List.length_eq_one_iff.1 Q.1;rw[hx]at j ⊢;rw[←j];rfl
 ·have:=uv (f:=λe:Int×Int=>[LV.i e.1,.i e.2]) (λ_=>rfl) I.l;simpa [LV.dat,Z0] using this
end v7
end
end Go.Proofs.YtmnciecehjcjhaaGreat
end
