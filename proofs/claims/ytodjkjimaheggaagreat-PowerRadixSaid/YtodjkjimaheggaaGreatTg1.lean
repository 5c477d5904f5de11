/- The templates: see the main text. -/
import Derived.Test.YtodjkjimaheggaaGreatSvG3
import Derived.Test.YtodjkjimaheggaaGreatSvG2
import Derived.Test.YtodjkjimaheggaaGreatTg0
import Derived.Test.YtodjkjimaheggaaGreatSvG4
set_option linter.defProp false
noncomputable section
namespace Go.Proofs.YtodjkjimaheggaaGreat
open Go.Sv
set_option linter.unusedSimpArgs false
set_option maxRecDepth 10000
variable{g j A:Nat}{z B V vV uV:Int}{vZ:List UInt64}{vg:List Nat}{F:M0}{R:LV}{X:LV→M0→Prop}{vz:List Vr}{Z:List Bf}{vX:List Lo}
def z4v:LC:=(.q [.x 1 0,.e 2] (.seq (.block 0 (.q [.f 4 0 1,.l 5 4,.b 6 .eql 3 5 2,.m 7 6,.nf 8 7 0 1,.nl 9 7 8,.nb 10 7 .eql 3 9 8,.p 11 7 10,.m 12 11,.nf 13 12 0 1,.nl 14 12 13,.nb 15 12 .eql 3 14 9,.p 16 12 15,.m 3 16] (.cond (.t 3) (.q [.f 17 3 1,.l 18 17,.z 19 (.buildSl 1 1 [(.i 0)] [(0,1,.t 18)]),.m 2 19] .ret) (.q [.f 21 0 1,.l 22 21,.b 23 .geq 3 22 3,.m 24 23,.yf 25 24 0 1,.yl 26 24 25,.y 27 24 (.bin .leq true 3 (.t 26) (.k 7)),.q 28 24 27,.m 29 28,.nf 30 29 0 1,.nl 31 29 30,.nb 32 29 .eql 3 31 10,.p 33 29 32,.m 20 33] (.cond (.t 20) (.q [.f 34 3 1,.l 35 34,.f 36 4 1,.l 37 36,.z 38 (.buildSl 1 2 [(.i 0),(.i 0)] [(0,1,.t 35),(1,1,.t 37)]),.m 2 38] .ret) (.q [.f 40 0 1,.l 41 40,.b 42 .eql 3 41 11,.m 43 42,.nf 44 43 0 1,.nl 45 43 44,.nb 46 43 .eql 3 45 12,.p 47 43 46,.m 48 47,.nf 49 48 0 1,.nl 50 48 49,.nb 51 48 .eql 3 50 13,.p 52 48 51,.m 39 52] (.cond (.t 39) (.q [.f 53 3 1,.l 54 53,.f 55 4 1,.l 56 55,.f 57 5 1,.l 58 57,.z 59 (.buildSl 1 3 [(.i 0),(.i 0),(.i 0)] [(0,1,.t 54),(1,1,.t 56),(2,1,.t 58)]),.m 2 59] .ret) (.q [.f 61 0 1,.l 62 61,.b 63 .eql 3 62 14,.m 64 63,.yf 65 64 3 1,.yl 66 64 65,.y 67 64 (.bin .neq true 3 (.t 66) (.k (-1))),.q 68 64 67,.m 60 68] (.cond (.t 60) (.q [.f 69 3 1,.l 70 69,.z 71 (.buildSl 1 1 [(.i 0)] [(0,1,.t 70)]),.m 2 71] .ret) (.q [.f 73 0 1,.l 74 73,.b 75 .eql 3 74 15,.m 76 75,.yf 77 76 3 1,.yl 78 76 77,.y 79 76 (.bin .neq true 3 (.t 78) (.k (-1))),.q 80 76 79,.m 72 80] (.cond (.t 72) (.q [.f 81 3 1,.l 82 81,.f 83 4 1,.l 84 83,.z 85 (.buildSl 1 2 [(.i 0),(.i 0)] [(0,1,.t 82),(1,1,.t 84)]),.m 2 85] .ret) (.q [.f 87 0 1,.l 88 87,.b 89 .eql 3 88 15,.m 86 89] (.cond (.t 86) (.q [.f 90 4 1,.l 91 90,.z 92 (.buildSl 1 1 [(.i 0)] [(0,1,.t 91)]),.m 2 92] .ret) .skip))))))))))))) (.q [.e 2] .ret)))
def r_ref12_Takes:Na Tryz.prog 143=some ⟨93,z4v.r,[.tmp 2]⟩:=Aa
def z32:LC:=(.q [.x 1 0,.e 2] (.seq (.block 0 (.q [.f 4 0 1,.l 5 4,.b 6 .eql 3 5 10,.m 7 6,.nf 8 7 0 1,.nl 9 7 8,.nb 10 7 .eql 3 9 11,.p 11 7 10,.m 12 11,.nf 13 12 0 1,.nl 14 12 13,.nb 15 12 .eql 3 14 12,.p 16 12 15,.m 3 16] (.cond (.t 3) (.q [.f 17 1 1,.l 18 17,.f 19 2 1,.l 20 19,.z 21 (.buildSl 1 2 [(.i 0),(.i 0)] [(0,1,.t 18),(1,1,.t 20)]),.m 2 21] .ret) (.q [.f 23 0 1,.l 24 23,.b 25 .eql 3 24 15,.m 26 25,.nf 27 26 0 1,.nl 28 26 27,.nb 29 26 .eql 3 28 17,.p 30 26 29,.m 22 30] (.cond (.t 22) (.q [.e 2] .ret) .skip))))) (.q [.f 31 1 1,.l 32 31,.z 33 (.buildSl 1 1 [(.i 0)] [(0,1,.t 32)]),.m 2 33] .ret)))
def r_ref12_Makes:Na Tryz.prog 142=some ⟨34,z32.r,[.tmp 2]⟩:=Aa
def z9z:LC:=(.q [.x 3 0,.F 6] (.seq (.q [.m 7 2,.z 8 (.un .not (.t 7))] (.cond (.t 8) (.q [.m 9 1,.b 10 .eql 3 9 (-1),.m 6 10] .ret) .skip)) (.q [.m 11 1,.b 12 .geq 3 11 0,.m 13 12,.my 14 13 1,.yf 15 13 0 3,.yl 16 13 15,.y 17 13 (.bin .lss false 3 (.t 14) (.t 16)),.q 18 13 17,.m 6 18] .ret)))
def r_ref12_field:Na Tryz.prog 181=some ⟨19,z9z.r,[.tmp 6]⟩:=Aa
def z4c:LC:=(.q [.x 2 0,.x 3 1,.F 4] (.q [.f 12 0 3,.l 13 12,.m 5 13] (.seq (.q [.m 14 5,.b 15 .lss 3 14 1,.m 16 15,.mn 17 16 5,.nb 18 16 .gtr 3 17 17,.p 19 16 18] (.cond (.t 19) (.q [.F 4] .ret) .skip)) (.q [.m 20 5,.b 21 .eql 3 20 14,.m 22 21,.mn 23 22 5,.nb 24 22 .eql 3 23 15,.p 25 22 24,.m 6 25] (.q [.m 26 5,.b 27 .neq 3 26 15,.m 28 27,.my 29 28 5,.y 30 28 (.bin .neq true 3 (.t 29) (.k 17)),.q 31 28 30,.m 7 31] (.q [.m 32 5,.b 33 .eql 3 32 10,.m 34 33,.mn 35 34 5,.nb 36 34 .eql 3 35 11,.p 37 34 36,.m 38 37,.mn 39 38 5,.nb 40 38 .eql 3 39 12,.p 41 38 40,.m 8 41] (.q [.m 42 5,.b 43 .neq 3 42 1,.m 44 43,.my 45 44 5,.y 46 44 (.bin .neq true 3 (.t 45) (.k 16)),.q 47 44 46,.m 48 47,.my 49 48 5,.y 50 48 (.bin .neq true 3 (.t 49) (.k 17)),.q 51 48 50,.m 9 51] (.q [.m 52 5,.b 53 .geq 3 52 3,.m 54 53,.my 55 54 5,.y 56 54 (.bin .leq true 3 (.t 55) (.k 7)),.q 57 54 56,.m 58 57,.mn 59 58 5,.nb 60 58 .geq 3 59 10,.mn 61 58 60,.my 62 61 5,.y 63 61 (.bin .leq true 3 (.t 62) (.k 13)),.n 64 58 (.pick (.t 61) (.t 63) .F),.p 65 58 64,.m 66 65,.mn 67 66 5,.nb 68 66 .eql 3 67 15,.p 69 66 68,.m 10 69] (.q [.m 70 5,.b 71 .geq 3 70 11,.m 72 71,.my 73 72 5,.y 74 72 (.bin .leq true 3 (.t 73) (.k 13)),.q 75 72 74,.m 11 75] (.seq (.q [.L 76 3 2,.f 77 1 3,.l 78 77,.m 79 7,.V 80 181 76 78 79,.z 81 (.un .not (.t 80)),.m 82 81,.n 83 82 (.loadN 3 (.t 2)),.nf 84 82 2 3,.nl 85 82 84,.mn 86 82 8,.n 87 82 (.w 181 [.t 83,.t 85,.t 86]),.n 88 82 (.un .not (.t 87)),.p 89 82 88,.m 90 89,.n 91 90 (.loadN 3 (.t 2)),.nf 92 90 3 3,.nl 93 90 92,.mn 94 90 9,.n 95 90 (.w 181 [.t 91,.t 93,.t 94]),.n 96 90 (.un .not (.t 95)),.mn 97 90 96,.my 98 97 6,.my 99 97 98,.yf 100 99 3 3,.yl 101 99 100,.y 102 99 (.bin .eql true 3 (.t 101) (.k (-1))),.y 103 97 (.pick (.t 99) (.t 102) .F),.y 104 97 (.un .not (.t 103)),.n 105 90 (.pick (.t 97) (.t 104) .F),.p 106 90 105,.m 107 106,.n 108 107 (.loadN 3 (.t 2)),.nf 109 107 4 3,.nl 110 107 109,.mn 111 107 10,.n 112 107 (.w 181 [.t 108,.t 110,.t 111]),.n 113 107 (.un .not (.t 112)),.p 114 107 113,.m 115 114,.n 116 115 (.loadN 3 (.t 2)),.nf 117 115 5 3,.nl 118 115 117,.mn 119 115 11,.n 120 115 (.w 181 [.t 116,.t 118,.t 119]),.n 121 115 (.un .not (.t 120)),.p 122 115 121,.m 123 122,.mn 124 123 8,.mn 125 123 124,.yf 126 125 1 3,.yl 127 125 126,.yf 128 125 2 3,.yl 129 125 128,.y 130 125 (.bin .eql false 3 (.t 127) (.t 129)),.n 131 123 (.pick (.t 125) (.t 130) .F),.p 132 123 131] (.cond (.t 132) (.q [.F 4] .ret) .skip)) (.seq (.block 0 (.q [.m 134 6,.m 133 134] (.cond (.t 133) (.seq (.q [.f 135 6 3,.l 136 135,.b 137 .lss 3 136 0,.m 138 137,.nf 139 138 6 3,.nl 140 138 139,.nf 141 138 1 2,.nl 142 138 141,.n 143 138 (.lenSl (.t 142)),.n 144 138 (.bin .geq false 3 (.t 140) (.t 143)),.p 145 138 144,.m 146 145,.mn 147 146 5,.nb 148 146 .eql 3 147 15,.mn 149 146 148,.yf 150 149 1 2,.yl 151 149 150,.yf 152 149 6 3,.yl 153 149 152,.y 154 149 (.ixAddr 3 (.t 151) (.t 153)),.yf 155 149 1 154,.yl 156 149 155,.y 157 149 (.bin .eql true 3 (.t 156) (.k 1)),.n 158 146 (.pick (.t 149) (.t 157) .F),.p 159 146 158] (.cond (.t 159) (.q [.F 4] .ret) .skip)) (.seq (.draw [(.f 160 3 3,[]),(.l 161 160,[]),(.b 162 .neq 3 161 (-1),[]),(.m 163 162,[]),(.nf 164 163 7 3,[]),(.nl 165 163 164,[]),(.nf 166 163 1 2,[]),(.nl 167 163 166,[]),(.nf 168 163 6 3,[]),(.nl 169 163 168,[]),(.n 170 163 (.ixAddr 3 (.t 167) (.t 169)),[]),(.nf 171 163 0 170,[]),(.nl 172 163 171,[]),(.n 173 163 (.cvInt .u64 (.t 172)),[]),(.n 174 163 (.bin .lss false 23 (.t 165) (.t 173)),[]),(.p 175 163 174,[]),(.m 4 175,[])]) .ret)) (.q [.f 177 6 3,.l 178 177,.b 179 .neq 3 178 0,.m 176 179] (.cond (.t 176) (.q [.F 4] .ret) (.q [.m 181 5,.b 182 .eql 3 181 1,.m 180 182] (.cond (.t 180) (.q [.z 4 (.move .T)] .ret) (.q [.m 184 5,.b 185 .eql 3 184 8,.m 186 185,.mn 187 186 5,.nb 188 186 .eql 3 187 9,.p 189 186 188,.m 183 189] (.cond (.t 183) (.q [.f 190 7 3,.l 191 190,.u 192 .geq 23 191 1,.m 193 192,.yf 194 193 7 3,.yl 195 193 194,.y 196 193 (.bin .leq true 23 (.t 195) (.c (.u 63))),.q 197 193 196,.m 4 197] .ret) (.q [.m 199 5,.b 200 .eql 3 199 16,.m 198 200] (.cond (.t 198) (.q [.f 201 7 3,.l 202 201,.u 203 .geq 23 202 1,.m 204 203,.yf 205 204 7 3,.yl 206 204 205,.y 207 204 (.bin .leq true 23 (.t 206) (.c (.u 1048576))),.q 208 204 207,.m 4 208] .ret) .skip))))))))))) (.q [.f 209 7 3,.l 210 209,.u 211 .eql 23 210 0,.m 4 211] .ret))))))))))))
def r_ref12_fields:Na Tryz.prog 141=some ⟨212,z4c.r,[.tmp 4]⟩:=Aa
def k_ref12_fields:z4c.ok=true:=Aa
def zly:LC:=(.q [.F 4] (.seq (.q [.K 5 0] (.block 0 (.loop (.seq (.q [.m 6 5,.m 7 0,.s 8 7,.c 9 .lss 3 6 8] (.cond (.t 9) .skip (.exit 0))) (.seq (.block 1 (.q [.m 12 0,.m 13 5,.I 14 1 12 13,.l 15 14,.m 16 1,.c 17 .eql 3 15 16] (.cond (.t 17) (.q [.z 4 (.move .T)] .ret) .skip))) (.ops [.m 10 5,.b 11 .add 3 10 1,.m 5 11])))))) (.q [.F 4] .ret)))
def r_ref12_in:Na Tryz.prog 144=some ⟨18,zly.r,[.tmp 4]⟩:=Aa
def zkg:LC:=(.q [.z 2 (.move (.c (.u 0)))] (.seq (.q [.m 3 0] (.cond (.t 3) (.q [.z 2 (.move (.c (.u 1)))] .ret) .skip)) (.q [.z 2 (.move (.c (.u 0)))] .ret)))
def r_ref12_bit:Na Tryz.prog 149=some ⟨4,zkg.r,[.tmp 2]⟩:=Aa
def zfy(k:Int):k<1∨k=1∨k=2∨k=3∨k=4∨k=5∨k=6∨k=7∨k=8∨k=9∨k=10∨k=11∨k=12∨k=13∨k=14∨k=15∨k=16∨k=17∨17<k:=J
def ag(l:List Int):dats (l.map .i)=true:=zcg (λ_=>rfl) l
def zdo(o:Lo):O2 143 [.agg o.f] (.lst ((Od o).map .i) (Od o).length 1):=by
 refine Sa.mk Gt (Nb r_ref12_Takes Aa N ?_);have D:o.f=[.i o.kind,.i o.d,.i o.e,.i o.a,.i o.b,.i o.c,.i o.buf,.u o.imm]:=rfl;rcases zfy o.kind with h|h|h|h|h|h|h|h|h|h|h|h|h|h|h|h|h|h|h
 case inr.inr.inr.inr.inr.inr.inr.inr.inr.inr.inr.inr.inr.inr.inl|inr.inr.inr.inr.inr.inr.inr.inr.inr.inr.inr.inr.inr.inr.inr.inl =>
  by_cases H:o.a=-1<;>simp[z4v,D,Od,h,H,O5,bor,LV.dat,dats]
 case inl|inr.inr.inr.inr.inr.inr.inr.inr.inr.inr.inr.inr.inr.inr.inr.inr.inr.inr =>
  have E:o.kind≠2:=J
  have I:¬(3≤o.kind∧o.kind≤7):=J
  have F:o.kind≠8:=J
  have G:o.kind≠9:=J
  have g:o.kind≠10:=J
  have j:o.kind≠11:=J
  have z:o.kind≠12:=J
  have A:o.kind≠13:=J
  have B:o.kind≠14:=J
  have C:o.kind≠15:=J
  by_cases K:3≤o.kind
  ·have L:¬o.kind≤7:=λq=>I ⟨K,q⟩
   simp[z4v,D,Od,K,L,E,F,G,g,j,z,A,B,C,O5,bor,LV.dat,dats]
  ·simp[z4v,D,Od,K,E,F,G,g,j,z,A,B,C,O5,bor,LV.dat,dats]
 all_goals simp[z4v,D,Od,h,O5,bor,LV.dat,dats]
def zde(o:Lo):O2 142 [.agg o.f] (.lst ((M7 o).map .i) (M7 o).length 1):=by
 refine Sa.mk Gt (Nb r_ref12_Makes Aa N ?_);have g:o.f=[.i o.kind,.i o.d,.i o.e,.i o.a,.i o.b,.i o.c,.i o.buf,.u o.imm]:=rfl;by_cases j:o.kind=10;· simp[z32,g,M7,j,O5,bor,LV.dat,dats]
 by_cases z:o.kind=11;· simp[z32,g,M7,z,O5,bor,LV.dat,dats]
 by_cases A:o.kind=12;· simp[z32,g,M7,A,O5,bor,LV.dat,dats]
 by_cases B:o.kind=15;· simp[z32,g,M7,B,O5,bor,LV.dat,dats]
 by_cases C:o.kind=17;· simp[z32,g,M7,C,O5,bor,LV.dat,dats]
 simp[z32,g,M7,j,z,A,B,C,O5,bor,LV.dat,dats]
def zkv(g:Int)(x y:LV)(r:Int)(b:Bool):Nj 181 [.agg [.i g,x,y],.i r,.bool b] (.bool (Q5 g r b)) []:=by
 refine Oj.val rfl (Nb r_ref12_field Aa N ?_);cases b with
 |false=>simp[z9z,Q5]
 |true=>by_cases j:0≤r<;>simp[z9z,Q5,j]
def zgg(b:Bool):Nj 149 [.bool b] (.u (Nv b)) []:=by
 refine Oj.val rfl (Nb r_ref12_bit Aa N ?_);cases b<;>simp[zkg,Nv]
def zro(l:List Int)(n:Int)(H:l.length≤1000000000):Nj 144 [.lst (l.map .i) l.length 1,.i n] (.bool (l.contains n)) []:=by
 refine Oj.val rfl (Nb r_ref12_in Aa (by simp) ?_);simp[zly];refine Po (λE G I N=>∃i:Nat,G=[]∧N+i=l.length∧lk E 0=.lst (l.map .i) l.length 1∧lk E 1=.i n∧lk E 5=.i i∧∀x∈l.take i,¬x=n) (N:=l.length) ⟨0,rfl,J,by simp,by simp,by simp,by simp⟩ ?_;rintro N E G I ⟨i,rfl,K,j,z,A,B⟩ L C;by_cases D:i<l.length
 ·have q:(l.map LV.i)[i]?=some (.i l[i]):=Av
  have hm:l[i]∈l:=Ls D;have F:l.take (i+1)=l.take i++[l[i]]:=Jm D;generalize l[i]=x at *;by_cases e:x=n
  ·subst e;simp[j,z,A,D,Nh q,hm]
  ·simp[j,z,A,D,Nh q,e];refine⟨J,C _ _ _ ⟨N-1,J,i+1,rfl,J,An,Ak,by simp,λy g=>?_⟩⟩;rw[F]at g;rcases Ip.1 g with g|g
   ·exact B y g
   ·simp at g;rw[g];exact e
 ·rw[Ij J]at B;have:¬n∈l:=λh=>B n h rfl
  simp[j,z,A,D,this]
def M8(g:Int)(bs:List Bf)(os:List Lo):List LV:=[.i g,.lst (P8 bs) bs.length 3,.lst (Pm os) os.length 8]
def zho(g:Int)(j:List Bf)(os:List Lo):dats (M8 g j os)=true:=by simp[M8,dats,LV.dat,Tn,Ug]
def zsj(g:Int)(j:List Bf)(o:Lo):Bool:=(Q5 g o.d (Qn o.kind)&&(Q5 g o.e (Qm o.kind)&&((Q5 g o.a (Q8 o.kind) || (O0 o.kind&&decide (o.a=-1)))&&(Q5 g o.b (Wc o.kind)&&(Q5 g o.c (Wd o.kind)&&(!(Qm o.kind&&decide (o.d=o.e)) &&
  (if O0 o.kind=true then decide (0≤o.buf)&&(decide (o.buf<j.length)&&(!(decide (o.kind=15)&&decide ((Ng j o.buf.toNat).kind=1))&&(!decide (o.a=-1) || decide (o.imm<iU (Ng j o.buf.toNat).size))))
   else decide (o.buf=0)&&(if o.kind=1 then true else if o.kind=8∨o.kind=9 then decide (1≤o.imm)&&decide (o.imm≤63) else if o.kind=16 then decide (1≤o.imm)&&decide (o.imm≤1048576) else decide (o.imm=0)))))))))
def qv{r:Int}{b:Bool}(g:Q5 z r b=false→X (.bool false) F)(j:Q5 z r b=true→X (.bool true) F):Ob (.fn 181) [.agg [.i z,.lst (P8 Z) Z.length 3,.lst (Pm vX) vX.length 8],.i r,.bool b] F X:=by
 refine Nw (zkv z _ _ r b) (bors_self _ Er) ?_;cases e:Q5 z r b with
 |false=>simpa using g e
 |true=>simpa using j e
set_option maxHeartbeats 4000000 in
def zjq(z:Int)(A:List Bf)(Y:List Lo)(o:Lo):Nj 141 [.agg (M8 z A Y),.agg o.f] (.bool (Ps z A o)) []:=by
 refine Oj.val rfl ?_;have I:o.f=[.i o.kind,.i o.d,.i o.e,.i o.a,.i o.b,.i o.c,.i o.buf,.u o.imm]:=rfl;by_cases X:o.kind<1
 ·have K:¬1≤o.kind:=J
  refine Nb r_ref12_fields k_ref12_fields N ?_;simp[z4c,M8,I,X,K,Ps]
 by_cases L:17<o.kind
 ·have K:¬o.kind≤17:=J
  refine Nb r_ref12_fields k_ref12_fields N ?_;simp[z4c,M8,I,X,L,K,Ps]
 have Z:1≤o.kind∧o.kind≤17:=J
 have hF:Ps z A o=zsj z A o:=by
  unfold Ps zsj;simp[Z]
 rw[hF];refine Nb r_ref12_fields k_ref12_fields N ?_;unfold zsj;rcases zfy o.kind with h|h|h|h|h|h|h|h|h|h|h|h|h|h|h|h|h|h|h
 case inl|inr.inr.inr.inr.inr.inr.inr.inr.inr.inr.inr.inr.inr.inr.inr.inr.inr.inr=>omega
 all_goals
  simp[z4c,M8,I,h,Qn,Qm,Q8,Wc,Wd,O0];refine qv (λe=>Di) λM=>?_
  simp;refine qv (λe=>Di) λO=>?_
  simp
 case inr.inr.inr.inr.inr.inr.inr.inr.inr.inr.inr.inr.inr.inr.inl|inr.inr.inr.inr.inr.inr.inr.inr.inr.inr.inr.inr.inr.inr.inr.inl =>
  refine qv (λB=>?_) λB=>?_
  ·by_cases C:o.a=-1
   case neg=>simp[C,B]
   simp[C];refine qv (λe=>Di) λD=>?_
   simp;refine qv (λe=>Di) λE=>?_
   simp;by_cases F:o.buf<0
   ·have P:¬0≤o.buf:=J
    simp[F,P]
   obtain⟨n,G⟩:=Hz (J:0≤o.buf);have H:¬(n:Int)<0:=J
   by_cases j:n<A.length
   ·have q:=Sk j;have Q:=zgn q;have R:=zld q;have T:=zqk j;have g:¬A.length≤n:=J
    by_cases U:(Ng A n).kind=1<;>simp[H,g,G,j,Nh Q,C,Nh R,U,M,O,B,D,E]
   ·have g:A.length≤n:=J
    simp[H,g,G,j]
  ·have C:¬o.a=-1:=λq=>by rw[q]at B;simp[Q5]at B
   simp;refine qv (λe=>Di) λD=>?_
   simp;refine qv (λe=>Di) λE=>?_
   simp;by_cases F:o.buf<0
   ·have P:¬0≤o.buf:=J
    simp[F,P]
   obtain⟨n,G⟩:=Hz (J:0≤o.buf);have H:¬(n:Int)<0:=J
   by_cases j:n<A.length
   ·have q:=Sk j;have Q:=zgn q;have R:=zld q;have T:=zqk j;have g:¬A.length≤n:=J
    by_cases U:(Ng A n).kind=1<;>simp[H,g,G,j,Nh Q,C,Nh R,U,M,O,B,D,E]
   ·have g:A.length≤n:=J
    simp[H,g,G,j]
 all_goals
  refine qv (λe=>Di) λB=>?_
  simp;refine qv (λe=>Di) λD=>?_
  simp;refine qv (λe=>Di) λE=>?_
  by_cases F:o.buf=0<;>by_cases V:1≤o.imm<;>simp[M,O,B,D,E,F,V]
  all_goals first|exact⟨λa b=>absurd a b,λa _=>a⟩|(rintro q;rw[q]at V;exact absurd V Ac)
def z4z:LC:=(.q [.x 1 0,.K 2 0,.K 3 0] (.seq (.q [.f 15 0 1,.l 16 15,.b 17 .gtr 3 16 64,.m 18 17,.nf 19 18 1 1,.nl 20 18 19,.n 21 18 (.lenSl (.t 20)),.nb 22 18 .gtr 3 21 32,.p 23 18 22,.m 24 23,.nf 25 24 2 1,.nl 26 24 25,.n 27 24 (.lenSl (.t 26)),.nb 28 24 .gtr 3 27 65536,.p 29 24 28] (.cond (.t 29) (.q [.K 2 0,.K 3 3] .ret) .skip)) (.seq (.q [.K 4 0] (.block 0 (.loop (.seq (.q [.m 30 4,.f 31 1 1,.l 32 31,.s 33 32,.c 34 .lss 3 30 33] (.cond (.t 34) .skip (.exit 0))) (.seq (.block 1 (.q [.f 37 1 1,.l 38 37,.m 39 4,.I 40 3 38 39,.f 41 0 40,.l 42 41,.b 43 .gtr 3 42 65536] (.cond (.t 43) (.q [.K 2 0,.K 3 3] .ret) .skip))) (.ops [.m 35 4,.b 36 .add 3 35 1,.m 4 36])))))) (.seq (.q [.f 44 0 1,.l 45 44,.b 46 .lss 3 45 0] (.cond (.t 46) (.q [.K 2 0,.K 3 2] .ret) .skip)) (.seq (.q [.K 5 0] (.block 2 (.loop (.seq (.q [.m 47 5,.f 48 1 1,.l 49 48,.s 50 49,.c 51 .lss 3 47 50] (.cond (.t 51) .skip (.exit 2))) (.seq (.block 3 (.q [.f 54 1 1,.l 55 54,.m 56 5,.I 57 3 55 56,.f 58 0 57,.l 59 58,.b 60 .lss 3 59 1,.m 61 60,.nf 62 61 1 1,.nl 63 61 62,.mn 64 61 5,.n 65 61 (.ixAddr 3 (.t 63) (.t 64)),.nf 66 61 1 65,.nl 67 61 66,.nb 68 61 .lss 3 67 1,.p 69 61 68,.m 70 69,.nf 71 70 1 1,.nl 72 70 71,.mn 73 70 5,.n 74 70 (.ixAddr 3 (.t 72) (.t 73)),.nf 75 70 1 74,.nl 76 70 75,.nb 77 70 .gtr 3 76 3,.p 78 70 77] (.cond (.t 78) (.q [.K 2 0,.K 3 2] .ret) .skip))) (.ops [.m 52 5,.b 53 .add 3 52 1,.m 5 53])))))) (.q [.f 79 0 1,.l 80 79,.z 81 (.mkSl 1 [(.bool false)] (.t 80) (.t 80)),.m 6 81] (.q [.e 7] (.seq (.q [.K 8 0] (.block 4 (.loop (.seq (.q [.m 82 8,.f 83 2 1,.l 84 83,.s 85 84,.c 86 .lss 3 82 85] (.cond (.t 86) .skip (.exit 4))) (.seq (.block 5 (.q [.f 89 2 1,.l 90 89,.m 91 8,.I 92 8 90 91,.L 93 8 92,.z 9 (.alloc [(.i 0),(.i 0),(.i 0),(.i 0),(.i 0),(.i 0),(.i 0),(.u 0)]),.S 8 9 93] (.seq (.q [.L 94 3 1,.L 95 8 9,.W 96 141 94 95,.z 97 (.un .not (.t 96))] (.cond (.t 97) (.q [.m 98 8,.m 2 98,.K 3 2] .ret) .skip)) (.seq (.q [.f 99 0 9,.l 100 99,.b 101 .eql 3 100 17] (.cond (.t 101) (.seq (.q [.m 102 7,.s 103 102,.b 104 .eql 3 103 0] (.cond (.t 104) (.q [.m 105 8,.m 2 105,.K 3 9] .ret) .skip)) (.q [.m 106 6,.m 107 7,.m 108 7,.s 109 108,.b 110 .sub 3 109 1,.I 111 1 107 110,.l 112 111,.I 113 1 106 112,.v (.store 1 (.t 113) .F)] (.q [.m 114 7,.m 115 7,.s 116 115,.b 117 .sub 3 116 1,.z 118 (.slSl 1 (.t 114) none (some (.t 117))),.m 7 118] (.exit 5)))) .skip)) (.seq (.draw [(.L 119 8 9,[]),(.L 121 8 9,[]),(.w 120 142 119,[(.L 121 8 9,false)]),(.w 122 143 121,[]),(.m 10 120,[]),(.m 11 122,[])]) (.seq (.q [.K 12 0] (.block 6 (.loop (.seq (.q [.m 123 12,.m 124 10,.s 125 124,.c 126 .lss 3 123 125] (.cond (.t 126) .skip (.exit 6))) (.seq (.block 7 (.q [.m 129 7,.m 130 10,.m 131 12,.I 132 1 130 131,.l 133 132,.W 134 144 129 133] (.cond (.t 134) (.q [.m 135 8,.m 2 135,.K 3 9] .ret) .skip))) (.ops [.m 127 12,.b 128 .add 3 127 1,.m 12 128])))))) (.seq (.q [.f 136 0 9,.l 137 136,.b 138 .eql 3 137 16,.m 139 138,.my 140 139 6,.yf 141 139 1 9,.yl 142 139 141,.y 143 139 (.ixAddr 1 (.t 140) (.t 142)),.yl 144 139 143,.q 145 139 144] (.cond (.t 145) (.q [.m 146 8,.m 2 146,.K 3 9] .ret) .skip)) (.seq (.q [.f 147 0 9,.l 148 147,.b 149 .eql 3 148 16,.m 150 149,.my 151 150 7,.y 152 150 (.lenSl (.t 151)),.y 153 150 (.bin .eql true 3 (.t 152) (.k 8)),.q 154 150 153] (.cond (.t 154) (.q [.m 155 8,.m 2 155,.K 3 10] .ret) .skip)) (.seq (.q [.K 13 0] (.block 8 (.loop (.seq (.q [.m 156 13,.m 157 11,.s 158 157,.c 159 .lss 3 156 158] (.cond (.t 159) .skip (.exit 8))) (.seq (.block 9 (.q [.m 162 6,.m 163 11,.m 164 13,.I 165 1 163 164,.l 166 165,.I 167 1 162 166,.l 168 167,.z 169 (.un .not (.t 168))] (.cond (.t 169) (.q [.m 170 8,.m 2 170,.K 3 5] .ret) .skip))) (.ops [.m 160 13,.b 161 .add 3 160 1,.m 13 161])))))) (.seq (.q [.K 14 0] (.block 10 (.loop (.seq (.q [.m 171 14,.m 172 10,.s 173 172,.c 174 .lss 3 171 173] (.cond (.t 174) .skip (.exit 10))) (.seq (.block 11 (.ops [.m 177 6,.m 178 10,.m 179 14,.I 180 1 178 179,.l 181 180,.I 182 1 177 181,.v (.store 1 (.t 182) .T)])) (.ops [.m 175 14,.b 176 .add 3 175 1,.m 14 176])))))) (.q [.f 183 0 9,.l 184 183,.b 185 .eql 3 184 16] (.cond (.t 185) (.ops [.m 186 7,.f 187 1 9,.l 188 187,.z 189 (.buildSl 1 1 [(.i 0)] [(0,1,.t 188)]),.a 190 1 186 189,.m 7 190]) .skip)))))))))))) (.ops [.m 87 8,.b 88 .add 3 87 1,.m 8 88])))))) (.seq (.q [.m 191 7,.s 192 191,.b 193 .gtr 3 192 0] (.cond (.t 193) (.q [.f 194 2 1,.l 195 194,.s 196 195,.m 2 196,.K 3 9] .ret) .skip)) (.q [.f 197 2 1,.l 198 197,.s 199 198,.m 2 199,.K 3 0] .ret))))))))))
def r_ref12_Check:Na Tryz.prog 78=some ⟨200,z4z.r,[.tmp 2,.tmp 3]⟩:=Aa
def zlu{m:List Bool}{l:List Int}(h:∀x∈l,O1 m x=true):(l.any λr=>!O1 m r)=false:=by
 rw[Li];intro x g;simp[h x g]
def zof{m:List Bool}{l:List Int}{x:Int}(g:x∈l)(h:O1 m x=false):(l.any λr=>!O1 m r)=true:=by
 rw[I9];exact⟨x,g,by simp[h]⟩
def zfp{l:List Int}(h:g<l.length):l.take (g+1)=l.take g++[gd l g]:=by
 rw[Jm h];simp[gd,Hy,h]
def zix{l:List Int}(h:g<l.length):gd l g∈l:=by
 simp[gd,Hy,h]
def z2y{o:Lo}(h:Ps z Z o=true):(∀x∈Od o,0≤x∧x<z)∧(∀x∈M7 o,0≤x∧x<z)∧(o.kind=16→0≤o.d∧o.d<z):=by
 unfold Ps at h;simp only[Hw,Ib]at h;obtain⟨⟨j,A⟩,d,e,a,b,c,_⟩:=h;have B:∀x,Q5 z x true=true→0≤x∧x<z:=λx h=>by
  unfold Q5 at h;simpa using h
 rcases zfy o.kind with h|h|h|h|h|h|h|h|h|h|h|h|h|h|h|h|h|h|h
 case inl=>omega
 case inr.inr.inr.inr.inr.inr.inr.inr.inr.inr.inr.inr.inr.inr.inr.inr.inr.inr=>omega
 case inr.inr.inr.inr.inr.inr.inr.inr.inr.inr.inr.inr.inr.inr.inl|inr.inr.inr.inr.inr.inr.inr.inr.inr.inr.inr.inr.inr.inr.inr.inl =>
  simp[h,Qn,Qm,Q8,Wc,Wd,O0,Q5]at d e a b c;by_cases g:o.a=-1<;>simp[g]at a<;>simp[Od,M7,h,g]<;>omega
 all_goals
  simp[h,Qn,Qm,Q8,Wc,Wd,O0,Q5]at d e a b c;simp[Od,M7,h]
  try omega
def zm3(o:Lo):(M7 o).length≤2:=by
 unfold M7;repeat' split
 all_goals simp
def zmc(o:Lo):(Od o).length≤3:=by
 unfold Od;repeat' split
 all_goals simp
def z46(M:Int)(B:List Bf)(os:List Lo):Nj 78 [.agg (M8 M B os)] (.tup [.i (Qw M B os).1,.i (Qw M B os).2]) []:=by
 refine Oj.val rfl (Nb r_ref12_Check Aa (by simp) ?_);by_cases g1:64<M
 ·simp[z4z,M8,Qw,g1]
 by_cases g2:32<B.length
 ·have jz:(32:Int)<B.length:=J
  simp[z4z,M8,Qw,g1,g2,jz]
 have jz:¬(32:Int)<B.length:=J
 by_cases g3:65536<os.length
 ·have jG:(65536:Int)<os.length:=J
  simp[z4z,M8,Qw,g1,g2,jz,g3,jG]
 have jG:¬(65536:Int)<os.length:=J
 obtain⟨zC,C⟩:∃zC,Qw M B os=zC:=⟨_,rfl⟩;rw[C];unfold Qw at C;rw[Hv J]at C;simp[z4z,M8,g1,g2,jz,g3,jG];refine Po (λL gT gC N=>∃i:Nat,gT=[]∧gC=[.cells (M8 M B os) 0]∧N+i=B.length∧lk L 1=.ptr 0 0∧lk L 4=.i i∧∀O,O<i→¬65536<(Ng B O).size) (N:=B.length) ⟨0,rfl,By,J,by simp,by simp,λO h=>J⟩ ?_;rintro N L gT gC ⟨i,rfl,rfl,hN,z,h4,Q⟩ Nx gH;by_cases gR:i<B.length
 ·have q0:=zgn (Sk gR);have hm:Ng B i∈B:=Iq (Sk gR);by_cases e:65536<(Ng B i).size
  ·have X:(B.any λb=>decide (65536<b.size))=true:=I9.2 ⟨_,hm,F3⟩;rw[H7 X]at C;subst C;simp[z,h4,M8,gR,Nh q0,e]
  ·simp[z,h4,M8,gR,Nh q0,e];refine⟨J,gH _ _ _ ⟨N-1,J,i+1,rfl,By,J,Ak,by simp,λO hj=>?_⟩⟩;by_cases q:O=i
   ·rw[q];exact e
   ·exact Q O J
 have X:¬(B.any λb=>decide (65536<b.size))=true:=by
  rw[I9];rintro⟨b,hb,h⟩;obtain⟨O,hj,rfl⟩:=Kb.1 hb;have:=Q O J;have h2:=Sk hj;rw[H6 hj]at h2;rw[←Option.some.inj h2]at this;exact this At
 rw[Hv X]at C;clear X Q;by_cases g4:M<0
 ·rw[H7 g4]at C;subst C;simp[z,h4,M8,gR,g4]
 rw[Hv g4]at C;have e0:¬i<B.length:=gR;simp[z,h4,M8,e0,g4];refine Po (λL gT gC N=>∃i:Nat,gT=[]∧gC=[.cells (M8 M B os) 0]∧N+i=B.length∧lk L 1=.ptr 0 0∧lk L 5=.i i∧∀O,O<i→¬((Ng B O).size<1∨(Ng B O).kind<1∨3<(Ng B O).kind)) (N:=B.length) ⟨0,rfl,By,J,Ak,by simp,λO h=>J⟩ ?_;clear z h4 hN gH Nx L N e0 gR;rintro N L gT gC ⟨i,rfl,rfl,hN,z,h5,Q⟩ Nx gH;by_cases gR:i<B.length
 ·have q0:=zgn (Sk gR);have q1:=zld (Sk gR);have hm:Ng B i∈B:=Iq (Sk gR);have jH:((Ng B i).size<1∨(Ng B i).kind<1∨3<(Ng B i).kind)→zC=(0,2):=λe=>by
   have X:(B.any λb=>decide (b.size<1) || (decide (b.kind<1) || decide (3<b.kind)))=true:=I9.2 ⟨_,hm,F3⟩;rw[H7 X]at C;exact C.symm
  by_cases e1:(Ng B i).size<1
  ·rw[jH (.inl e1)];simp[z,h5,M8,gR,Nh q0,Nh q1,e1]
  by_cases e2:(Ng B i).kind<1
  ·rw[jH (.inr (.inl e2))];simp[z,h5,M8,gR,Nh q0,Nh q1,e1,e2]
  by_cases e3:3<(Ng B i).kind
  ·rw[jH (.inr (.inr e3))];simp[z,h5,M8,gR,Nh q0,Nh q1,e1,e2,e3]
  simp[z,h5,M8,gR,Nh q0,Nh q1,e1,e2,e3];refine⟨J,gH _ _ _ ⟨N-1,J,i+1,rfl,By,J,Ak,by simp,λO hj=>?_⟩⟩;by_cases q:O=i
  ·rw[q];omega
  ·exact Q O J
 have X:¬(B.any λb=>decide (b.size<1) || (decide (b.kind<1) || decide (3<b.kind)))=true:=by
  rw[I9];rintro⟨b,hb,h⟩;obtain⟨O,hj,rfl⟩:=Kb.1 hb;have:=Q O J;have h2:=Sk hj;rw[H6 hj]at h2;rw[←Option.some.inj h2]at this;exact this At
 rw[Hv X]at C;clear X Q;obtain⟨r,rfl⟩:=Hz (J:0≤M);have zA:r≤64:=J
 simp[z,h5,M8,gR];refine⟨J,?_⟩;refine Po (λL gT gC N=>∃(i st:Nat) (m:List Bool) (D:List Int) (v:LV),gT=[]∧N+i=os.length∧lk L 1=.ptr 0 0∧lk L 6=.dy 1 0∧lk L 7=v∧lk L 8=.i i∧gC[0]?=some (.cells (M8 r B os) 0)∧gC[1]?=some (.dyn (m.map .bool) r 1 0 st)∧m.length=r∧Oo 2 gC v 1 D.length (D.map .i)∧2≤gC.length ∧
   (∀x∈D,0≤x∧x<r)∧D.length≤8∧am r B i m D (os.drop i)=zC) (N:=os.length)
  ⟨0,0,List.replicate r false,[],.nilSl,rfl,J,Ak,by simp,by simp,by simp,By,by simp[repBs],by simp,Oo.nil,by simp,by simp,by simp,Ci⟩ ?_
 clear z h5 hN gH Nx L N C gR;rintro N L gT gC ⟨i,st,m,D,v,rfl,hN,z,F,K,E,gI,jZ,gK,jI,zD,jA,jP,C⟩ Nx gH;by_cases gR:i<os.length
 case neg =>
  rw[J0 J]at C;unfold am at C;by_cases hn:D=[]
  ·rw[H7 hn]at C;subst C hn;simp[z,E,gI,M8,gR,K];refine jI.lenL ?_;simp[z,gI,M8];omega
  ·rw[Hv hn]at C;subst C;have Q:0<(D.length:Int):=by
    have:=List.length_pos_iff.2 hn;omega
   simp[z,E,gI,M8,gR,K];refine jI.lenL ?_;simp[Q,z,gI,M8];exact⟨λ_=>J,hn⟩
 have ho:=zh3 gR;rw[zhs gR]at C;unfold am at C;have j0:=zcl ho;have j1:=yj gR;generalize dh os i=o at *;have hC:o.f=[.i o.kind,.i o.d,.i o.e,.i o.a,.i o.b,.i o.c,.i o.buf,.u o.imm]:=rfl;have l0:0<gC.length:=J
 have l1:1<gC.length:=J
 have p0:∀x:List LObj,(gC++x)[0]?=some _:=λx=>(M6 l0).trans gI
 simp[z,E,gI,M8,gR,j0,j1,hC,↓p0];have jQ:=zjq r B os o;rw[M8,hC]at jQ;refine Nw jQ (bors_self _ Er) ?_;cases hf:Ps r B o with
 |false =>
  have j4:(Uv r B m D o)=(2,m,D):=by unfold Uv;rw[H7 hf]
  rw[j4]at C;simp at C;subst C;simp[E]
 |true =>
 obtain⟨jR,jT,jU⟩:=z2y hf;have zE:os.length≤65536:=J
 have gL:∀(l:List LV) (i:Nat) (x:LV),i<l.length→Oa l i [x]=l.set i x:=λl i x h=>by
  rw[Jk,H7 h];simp[Oa]
 have next:∀(ρ':M2) (G':M0) (m':List Bool) (G:List Int) (v':LV) (jK:Nat),Uv r B m D o=(0,m',G)→lk ρ' 1=.ptr 0 0→lk ρ' 6=.dy 1 0→lk ρ' 7=v'→lk ρ' 8=.i ((i:Int)+1)→G'[0]?=some (.cells (M8 r B os) 0)→G'[1]?=some (.dyn (m'.map .bool) r 1 0 jK)→m'.length=r→Oo 2 G' v' 1 G.length (G.map .i)→2≤G'.length→(∀x∈G,0≤x∧x<(r:Int))→G.length≤8→Nx ρ' [] G':=by
  intro ρ' G' m' G v' jK hs a1 a6 a7 a8 b0 b1 b2 b3 b4 b5 b6;rw[hs]at C;exact gH _ _ _ ⟨N-1,J,i+1,jK,m',G,v',rfl,J,a1,a6,a7,by rw[a8];simp,b0,b1,b2,b3,b4,b5,b6,Ci⟩
 have q0:∀x:List LObj,(gC++x)[0]?=some (.cells (M8 r B os) 0):=λx=>(M6 l0).trans gI
 have q1:∀x:List LObj,(gC++x)[1]?=some (.dyn (m.map .bool) r 1 0 st):=λx=>(M6 l1).trans jZ
 have gD:∀x,Oo 2 (gC++x) v 1 D.length (D.map .i):=λx=>jI.push_end
 by_cases gU:o.kind=17
 ·have jB:D=[]→Uv r B m D o=(9,m,D):=λe=>by
   unfold Uv;rw[Hv (by rw[hf];decide),H7 gU,e];rfl
  have jC:∀l' d,D=l'++[d]→Uv r B m D o=(0,m.set d.toNat false,l'):=λl' d e=>by
   unfold Uv;rw[Hv (by rw[hf];decide),H7 gU,e];simp
  simp[gU,K];refine (gD _).lenL ?_;by_cases hn:D=[]
  ·rw[jB hn]at C;subst hn;simp at C;subst C;simp[E]
  ·obtain⟨G,d,rfl⟩:∃G d,D=G++[d]:=⟨D.dropLast,D.getLast hn,(List.dropLast_concat_getLast hn).symm⟩;obtain⟨d0,dr⟩:=jA d (by simp);obtain⟨dn,rfl⟩:=Hz d0;have gV:dn<r:=J
   have j5:G.length≤8:=by simp at jP;omega
   have g:=jC G dn rfl;simp only[Is]at g;simp;refine (gD _).lenL ?_;simp;refine⟨J,(gD _).at1 J Ab λa X=>?_⟩;simp;refine X _ ?_;have e1:Oa (m.map LV.bool) dn [.bool false]=(m.set dn false).map LV.bool:=by
    rw[gL _ _ _ Ab,Jj]
   have hx:(List.map LV.i G++[LV.i (dn:Int)])[G.length]?=some (.i (dn:Int)):=by
    rw[Il (by simp)];simp
   have jE:∀(x:List LObj) (ob:LObj),Oo 2 ((gC++x).set 1 ob) v 1 (G++[(dn:Int)]).length ((G++[(dn:Int)]).map .i):=λx ob=>(gD x).set_lt J
   rw[Le,List.map_singleton];simp only[Is];refine⟨_,hx,?_⟩;simp[F,↓q1,gV,gK,e1,K];refine⟨J,(jE _ _).lenL ?_⟩;simp;refine⟨J,(jE _ _).cut (m:=G.length) (by simp) (λK' k'=>k') (λd K' k'=>⟨J,k'⟩) λv' jV=>?_⟩;simp[E];rw[Le,Kt (by simp)]at jV;refine⟨J,next _ _ (m.set dn false) G v' (st+1) g Ak Ah (by simp) (by simp) ?_ ?_ (by simpa using gK) jV Ab (λx hx=>jA x (by simp[hx])) j5⟩
   ·rw[Hx J];exact q0 _
   ·rw[←Jj];exact H0 Ab
 have g:Uv r B m D o=(if (M7 o).any (λr=>D.contains r)=true then (9,m,D)
   else if o.kind=16∧O1 m o.d=true then (9,m,D)
   else if o.kind=16∧D.length=8 then (10,m,D)
   else if (Od o).any (λr=>!O1 m r)=true then (5,m,D)
   else (0,(M7 o).foldl (λm r=>m.set r.toNat true) m,if o.kind=16 then D++[o.d] else D)):=by
  unfold Uv;rw[Hv (by rw[hf];decide),Hv gU]
 simp[gU];refine R0 (zde o) Br ?_;simp;refine R0 (zdo o) Br ?_;simp;have jL:=q0 [.cells o.f 1];have Y:=q1 [.cells o.f 1];have gM:(gC++[LObj.cells o.f 1])[gC.length]?=some (.cells o.f 1):=Im;have gX:=gD [.cells o.f 1];have j6:(gC++[LObj.cells o.f 1]).length=gC.length+1:=by simp
 rw[hC]at jL Y gM gX j6;generalize gC++[LObj.cells [.i o.kind,.i o.d,.i o.e,.i o.a,.i o.b,.i o.c,.i o.buf,.u o.imm] 1]=G1 at *;generalize gC.length=jY at *;have zG:=zm3 o;have zH:=zmc o;have zI:=hC ▸ gM;refine Po (λL gT gC N=>∃O:Nat,gT=[]∧N+O=(M7 o).length∧lk L 1=.ptr 0 0∧lk L 6=.dy 1 0∧lk L 7=v∧lk L 8=.i i∧lk L 9=.ptr jY 0∧lk L 10=.lst ((M7 o).map .i) (M7 o).length 1∧lk L 11=.lst ((Od o).map .i) (Od o).length 1∧lk L 12=.i O∧gC=G1∧∀x∈(M7 o).take O,¬x∈D) (N:=(M7 o).length)
  ⟨0,rfl,J,Ak,Ah,A0,Au,by simp,by simp,by simp,by simp,rfl,by simp⟩ ?_
 clear z F K E;rintro N2 L gT G2 ⟨O,rfl,zK,z,F,K,E,R,j,H,gO,rfl,Q⟩ zL jF;by_cases V:O<(M7 o).length
 ·have hg:=bm (f:=LV.i) (rf V);have ht:=zfp V;have I:=zix V;generalize gd (M7 o) O=x at *;simp[K,j,gO,V,Nh hg];refine Nw (zro D x J) ⟨_,_,rfl,gX.bor,by simp⟩ ?_;by_cases hx:x∈D
  ·have X:((M7 o).any λr=>D.contains r)=true:=I9.2 ⟨x,I,by simpa using hx⟩;rw[g,H7 X]at C;simp at C;subst C;simp[hx,E]
  ·simp[hx,gO];refine⟨J,jF _ _ _ ⟨N2-1,J,O+1,rfl,J,Ak,Ah,A0,Au,B1,An,Bg,by simp,rfl,λy T=>?_⟩⟩;rw[ht]at T;rcases Ip.1 T with T|T
   ·exact Q y T
   ·simp at T;rw[T];exact hx
 rw[Ij J]at Q;have X:¬((M7 o).any λr=>D.contains r)=true:=by
  rw[I9];rintro⟨x,hx,h⟩;exact Q x hx At
 rw[Hv X]at g;clear X Q jF;by_cases P:o.kind=16
 ·obtain⟨d0,dr⟩:=jU P;obtain⟨dn,gV⟩:=Hz d0;have jM:dn<r:=J
  have jD:(m.map LV.bool)[dn]?=some (.bool (O1 m o.d)):=by
   simp[O1,gV,gK,jM]
  cases Z:O1 m o.d with
  |true =>
   rw[Z]at jD;rw[g,H7 (show o.kind=16∧O1 m o.d=true from ⟨P,Z⟩)]at C;simp at C;subst C;simp[F,E,R,j,gO,V,gM,P,gV,jM,Y,Nh jD]
  |false =>
  rw[Z]at jD;rw[Hv (show ¬(o.kind=16∧O1 m o.d=true) by rw[Z];simp)]at g;simp[F,E,R,j,gO,V,gM,P,gV,jM,Y,Nh jD,K];refine gX.lenL ?_;by_cases l8:D.length=8
  ·rw[g,H7 (show o.kind=16∧D.length=8 from ⟨P,l8⟩)]at C;simp at C;subst C;simp[l8,E]
  rw[Hv (show ¬(o.kind=16∧D.length=8) from λq=>l8 q.2)]at g;refine⟨λq=>absurd q J,λ_=>?_⟩;rw[H7 P]at g;refine Po (λL gT gC N=>∃O:Nat,gT=[]∧N+O=(Od o).length∧lk L 1=.ptr 0 0∧lk L 6=.dy 1 0∧lk L 7=v∧lk L 8=.i i∧lk L 9=.ptr jY 0∧lk L 10=.lst ((M7 o).map .i) (M7 o).length 1∧lk L 11=.lst ((Od o).map .i) (Od o).length 1∧lk L 13=.i O∧gC=G2∧∀x∈(Od o).take O,O1 m x=true) (N:=(Od o).length)
   ⟨0,rfl,J,Ak,Ah,A0,Au,B1,An,Bg,by simp,rfl,by simp⟩ ?_
  clear z F K E R j H gO;rintro N3 L gT G3 ⟨O,rfl,j7,z,F,K,E,R,j,H,gg,rfl,Q⟩ j8 gE;by_cases V:O<(Od o).length
  ·have hg:=bm (f:=LV.i) (rf V);have ht:=zfp V;have I:=zix V;generalize gd (Od o) O=x at *;obtain⟨x0,xr⟩:=jR x I;obtain⟨xn,rfl⟩:=Hz x0;have U:xn<r:=J
   have gz:(m.map LV.bool)[xn]?=some (.bool (O1 m (xn:Int))):=by simp[O1,gK,U]
   cases A:O1 m (xn:Int) with
   |false =>
    have X:=zof I A;rw[g,H7 X]at C;simp at C;subst C;rw[A]at gz;simp[F,E,H,gg,V,Nh hg,Y,U,Nh gz]
   |true =>
    rw[A]at gz;simp[F,E,H,gg,V,Nh hg,Y,U,Nh gz];refine⟨J,gE _ _ _ ⟨N3-1,J,O+1,rfl,J,Ak,Ah,A0,Au,B1,An,Bg,by simp,rfl,λy T=>?_⟩⟩;rw[ht]at T;rcases Ip.1 T with T|T
    ·exact Q y T
    ·simp at T;rw[T];exact A
  rw[Ij J]at Q;rw[Hv (by rw[zlu Q];simp)]at g;clear gE Q;simp[z,F,K,E,R,j,H,gg,V];refine Po (λL gT gC N=>∃(O gA:Nat) (m2:List Bool),gT=[]∧N+O=(M7 o).length∧lk L 1=.ptr 0 0∧lk L 6=.dy 1 0∧lk L 7=v∧lk L 8=.i i∧lk L 9=.ptr jY 0∧lk L 10=.lst ((M7 o).map .i) (M7 o).length 1∧lk L 14=.i O∧gC.length=G3.length∧(∀q,q≠1→gC[q]?=G3[q]?)∧gC[1]?=some (.dyn (m2.map .bool) r 1 0 gA)∧m2.length=r∧m2=((M7 o).take O).foldl (λm r=>m.set r.toNat true) m) (N:=(M7 o).length)
   ⟨0,st,m,rfl,J,Ak,Ah,A0,Au,B1,An,by simp,rfl,λ_ _=>rfl,Y,gK,by simp⟩ ?_
  clear z F K E R j H gg;rintro N4 L gT G4 ⟨O,gA,m2,rfl,j9,z,F,K,E,R,j,gY,jO,gB,gF,gP,gQ⟩ zg gG;by_cases gk:O<(M7 o).length
  ·have hg:=bm (f:=LV.i) (rf gk);have ht:=zfp gk;have I:=zix gk;generalize gd (M7 o) O=x at *;obtain⟨x0,xr⟩:=jT x I;obtain⟨xn,rfl⟩:=Hz x0;have U:xn<r:=J
   have e1:Oa (m2.map LV.bool) xn [.bool true]=(m2.set xn true).map LV.bool:=by
    rw[gL _ _ _ Ab,Jj]
   simp[F,j,gY,gk,Nh hg,gF,U,gP,e1];refine⟨J,J,gG _ _ _ ⟨N4-1,J,O+1,gA+1,m2.set xn true,rfl,J,Ak,Ah,A0,Au,B1,An,by simp,by simp[jO],λq hq=>?_,?_,by simp[gP],?_⟩⟩
   ·rw[Hx (Ne.symm hq)];exact gB q hq
   ·rw[←Jj];exact H0 (by have:=(Hu.1 gF).1;exact this)
   ·rw[ht,List.foldl_append,←gQ];simp
  rw[Ij J]at gQ;have gZ:Oo 2 G4 v 1 D.length (D.map .i):=gX.frame λq h _=>gB q J
  have g9:G4[0]?=some (.cells (M8 r B os) 0):=(gB 0 J).trans jL;have jg:G4[jY]?=_:=(gB jY J).trans gM;rw[←gQ]at g;clear gG;simp[z,F,K,E,R,j,gY,gk,jg,P];refine Oo.push (x:=[.i o.d]) gZ.push_end J Ab J rfl rfl λv' G5 zj jX zz _=>?_
  simp[E];have zB:=(Hu.1 gF).1;refine⟨J,next _ _ m2 (D++[o.d]) v' gA g Ak Ah (by simp) (by simp) ?_ ?_ gP (by simpa using zj) (by simp at zz;omega) (λx hx=>?_) Ab⟩
  ·rw[jX 0 J,M6 J];exact g9
  ·rw[jX 1 J,M6 J];exact gF
  ·rcases Ip.1 hx with hx|hx
   ·exact jA x hx
   ·simp at hx;rw[hx];exact jU P
 rw[Hv (show ¬(o.kind=16∧O1 m o.d=true) from λq=>P q.1),Hv (show ¬(o.kind=16∧D.length=8) from λq=>P q.1),Hv P]at g;simp[z,F,K,E,R,j,H,gO,V,gM,P];refine Po (λL gT gC N=>∃O:Nat,gT=[]∧N+O=(Od o).length∧lk L 1=.ptr 0 0∧lk L 6=.dy 1 0∧lk L 7=v∧lk L 8=.i i∧lk L 9=.ptr jY 0∧lk L 10=.lst ((M7 o).map .i) (M7 o).length 1∧lk L 11=.lst ((Od o).map .i) (Od o).length 1∧lk L 13=.i O∧gC=G2∧∀x∈(Od o).take O,O1 m x=true) (N:=(Od o).length)
  ⟨0,rfl,J,Ak,Ah,A0,Au,B1,An,Bg,by simp,rfl,by simp⟩ ?_
 clear z F K E R j H gO;rintro N3 L gT G3 ⟨O,rfl,j7,z,F,K,E,R,j,H,gg,rfl,Q⟩ j8 gE;by_cases V:O<(Od o).length
 ·have hg:=bm (f:=LV.i) (rf V);have ht:=zfp V;have I:=zix V;generalize gd (Od o) O=x at *;obtain⟨x0,xr⟩:=jR x I;obtain⟨xn,rfl⟩:=Hz x0;have U:xn<r:=J
  have gz:(m.map LV.bool)[xn]?=some (.bool (O1 m (xn:Int))):=by simp[O1,gK,U]
  cases A:O1 m (xn:Int) with
  |false =>
   have X:=zof I A;rw[g,H7 X]at C;simp at C;subst C;rw[A]at gz;simp[F,E,H,gg,V,Nh hg,Y,U,Nh gz]
  |true =>
   rw[A]at gz;simp[F,E,H,gg,V,Nh hg,Y,U,Nh gz];refine⟨J,gE _ _ _ ⟨N3-1,J,O+1,rfl,J,Ak,Ah,A0,Au,B1,An,Bg,by simp,rfl,λy T=>?_⟩⟩;rw[ht]at T;rcases Ip.1 T with T|T
   ·exact Q y T
   ·simp at T;rw[T];exact A
 rw[Ij J]at Q;rw[Hv (by rw[zlu Q];simp)]at g;clear gE Q;simp[z,F,K,E,R,j,H,gg,V];refine Po (λL gT gC N=>∃(O gA:Nat) (m2:List Bool),gT=[]∧N+O=(M7 o).length∧lk L 1=.ptr 0 0∧lk L 6=.dy 1 0∧lk L 7=v∧lk L 8=.i i∧lk L 9=.ptr jY 0∧lk L 10=.lst ((M7 o).map .i) (M7 o).length 1∧lk L 14=.i O∧gC.length=G3.length∧(∀q,q≠1→gC[q]?=G3[q]?)∧gC[1]?=some (.dyn (m2.map .bool) r 1 0 gA)∧m2.length=r∧m2=((M7 o).take O).foldl (λm r=>m.set r.toNat true) m) (N:=(M7 o).length)
  ⟨0,st,m,rfl,J,Ak,Ah,A0,Au,B1,An,by simp,rfl,λ_ _=>rfl,Y,gK,by simp⟩ ?_
 clear z F K E R j H gg;rintro N4 L gT G4 ⟨O,gA,m2,rfl,j9,z,F,K,E,R,j,gY,jO,gB,gF,gP,gQ⟩ zg gG;by_cases gk:O<(M7 o).length
 ·have hg:=bm (f:=LV.i) (rf gk);have ht:=zfp gk;have I:=zix gk;generalize gd (M7 o) O=x at *;obtain⟨x0,xr⟩:=jT x I;obtain⟨xn,rfl⟩:=Hz x0;have U:xn<r:=J
  have e1:Oa (m2.map LV.bool) xn [.bool true]=(m2.set xn true).map LV.bool:=by
   rw[gL _ _ _ Ab,Jj]
  simp[F,j,gY,gk,Nh hg,gF,U,gP,e1];refine⟨J,J,gG _ _ _ ⟨N4-1,J,O+1,gA+1,m2.set xn true,rfl,J,Ak,Ah,A0,Au,B1,An,by simp,by simp[jO],λq hq=>?_,?_,by simp[gP],?_⟩⟩
  ·rw[Hx (Ne.symm hq)];exact gB q hq
  ·rw[←Jj];exact H0 (by have:=(Hu.1 gF).1;exact this)
  ·rw[ht,List.foldl_append,←gQ];simp
 rw[Ij J]at gQ;have gZ:Oo 2 G4 v 1 D.length (D.map .i):=gX.frame λq h _=>gB q J
 have g9:G4[0]?=some (.cells (M8 r B os) 0):=(gB 0 J).trans jL;have jg:G4[jY]?=_:=(gB jY J).trans gM;rw[←gQ]at g;clear gG;simp[z,F,K,E,R,j,gY,gk,jg,P];refine⟨J,next _ _ m2 D v gA g Ak Ah A0 (by simp) g9 gF gP gZ J jA jP⟩
def zgd:LC:=(.q [.x 1 0,.e 2] (.q [.L 10 3 1,.w 11 78 10,.m 9 11,.X 12 0 9,.X 13 1 9,.m 3 12,.m 4 13] (.seq (.q [.m 14 4,.b 15 .neq 35 14 0] (.cond (.t 15) (.q [.e 2] .ret) .skip)) (.q [.f 16 2 1,.l 17 16,.s 18 17,.z 19 (.mkSl 1 [(.i 0)] (.t 18) (.t 18)),.m 5 19] (.q [.e 6] (.seq (.q [.K 7 0] (.block 0 (.loop (.seq (.q [.m 20 7,.f 21 2 1,.l 22 21,.s 23 22,.c 24 .lss 3 20 23] (.cond (.t 24) .skip (.exit 0))) (.seq (.block 1 (.q [.m 27 5,.m 28 7,.I 29 1 27 28,.v (.store 1 (.t 29) (.k (-1)))] (.q [.f 30 2 1,.l 31 30,.m 32 7,.I 33 8 31 32,.f 34 0 33,.l 35 34] (.block 2 (.q [.b 37 .eql 3 35 16,.m 36 37] (.cond (.t 36) (.ops [.m 38 6,.m 39 7,.z 40 (.buildSl 1 1 [(.i 0)] [(0,1,.t 39)]),.a 41 1 38 40,.m 6 41]) (.q [.b 43 .eql 3 35 17,.m 42 43] (.cond (.t 42) (.q [.m 44 6,.m 45 6,.s 46 45,.b 47 .sub 3 46 1,.I 48 1 44 47,.l 49 48,.m 8 49] (.q [.m 50 6,.m 51 6,.s 52 51,.b 53 .sub 3 52 1,.z 54 (.slSl 1 (.t 50) none (some (.t 53))),.m 6 54] (.ops [.m 55 5,.m 56 7,.m 57 5,.m 58 8,.m 59 8,.m 60 7,.I 61 1 55 56,.S 1 61 59,.I 62 1 57 58,.S 1 62 60]))) .skip)))))))) (.ops [.m 25 7,.b 26 .add 3 25 1,.m 7 26])))))) (.q [.m 63 5,.m 2 63] .ret)))))))
def r_ref12_Ends:Na Tryz.prog 87=some ⟨64,zgd.r,[.tmp 2]⟩:=Aa
def zfl:LC:=(.q [.x 1 0,.K 2 0] (.q [.L 11 3 1,.w 12 78 11,.m 10 12,.X 13 0 10,.X 14 1 10,.m 3 13,.m 4 14] (.seq (.q [.m 15 4,.b 16 .neq 35 15 0] (.cond (.t 16) (.q [.K 2 0] .ret) .skip)) (.q [.e 5] (.q [.K 6 0] (.q [.e 7] (.seq (.q [.K 8 0] (.block 0 (.loop (.seq (.q [.m 17 8,.f 18 2 1,.l 19 18,.s 20 19,.c 21 .lss 3 17 20] (.cond (.t 21) .skip (.exit 0))) (.seq (.block 1 (.q [.f 24 2 1,.l 25 24,.m 26 8,.I 27 8 25 26,.f 28 0 27,.l 29 28] (.block 2 (.q [.b 34 .eql 3 29 16,.m 33 34] (.cond (.t 33) (.seq (.draw [(.m 35 5,[]),(.m 36 6,[]),(.z 37 (.buildSl 1 1 [(.i 0)] [(0,1,.t 36)]),[]),(.m 39 7,[]),(.f 40 2 1,[]),(.l 41 40,[]),(.m 42 8,[]),(.I 43 8 41 42,[]),(.f 44 7 43,[]),(.l 45 44,[]),(.z 46 (.cvInt .i64 (.t 45)),[]),(.z 47 (.buildSl 1 1 [(.i 0)] [(0,1,.t 46)]),[(.l 45 44,false),(.l 41 40,false),(.z 37 (.buildSl 1 1 [(.i 0)] [(0,1,.t 36)]),true)]),(.a 38 1 35 37,[(.z 47 (.buildSl 1 1 [(.i 0)] [(0,1,.t 46)]),true),(.l 45 44,false),(.l 41 40,false)]),(.a 48 1 39 47,[]),(.m 5 38,[]),(.m 7 48,[])]) (.ops [.K 6 1])) (.q [.b 50 .eql 3 29 17,.m 49 50] (.cond (.t 49) (.q [.m 51 5,.s 52 51,.b 53 .sub 3 52 1,.m 9 53] (.seq (.q [.m 54 6,.m 55 7,.m 56 9,.I 57 1 55 56,.l 58 57,.z 59 (.bin .quo true 3 (.k 1125899906842624) (.t 58)),.c 60 .gtr 3 54 59] (.cond (.t 60) (.ops [.K 6 1125899906842624]) (.ops [.m 61 6,.m 62 7,.m 63 9,.I 64 1 62 63,.l 65 64,.c 66 .mul 3 61 65,.m 6 66]))) (.q [.m 67 6,.m 68 5,.m 69 9,.I 70 1 68 69,.l 71 70,.c 72 .add 3 67 71,.z 73 (.maxi false (.k 1125899906842624) (.t 72)),.m 6 73] (.draw [(.m 74 5,[]),(.m 75 9,[]),(.z 76 (.slSl 1 (.t 74) none (some (.t 75))),[]),(.m 77 7,[]),(.m 78 9,[]),(.z 79 (.slSl 1 (.t 77) none (some (.t 78))),[]),(.m 5 76,[]),(.m 7 79,[])])))) (.ops [.m 30 6,.b 31 .add 3 30 1,.z 32 (.maxi false (.k 1125899906842624) (.t 31)),.m 6 32])))))))) (.ops [.m 22 8,.b 23 .add 3 22 1,.m 8 23])))))) (.q [.m 80 6,.m 2 80] .ret))))))))
def r_ref12_Steps:Na Tryz.prog 85=some ⟨81,zfl.r,[.tmp 2]⟩:=Aa
def zb2:LC:=(.q [.x 2 0,.F 4] (.seq (.q [.m 7 1,.s 8 7,.f 9 1 2,.l 10 9,.s 11 10,.c 12 .neq 3 8 11] (.cond (.t 12) (.q [.F 4] .ret) .skip)) (.seq (.q [.K 5 0] (.block 0 (.loop (.seq (.q [.m 13 5,.m 14 1,.s 15 14,.c 16 .lss 3 13 15] (.cond (.t 16) .skip (.exit 0))) (.seq (.block 1 (.q [.f 19 1 2,.l 20 19,.m 21 5,.I 22 3 20 21,.f 23 0 22,.l 24 23,.m 6 24] (.seq (.q [.f 25 1 2,.l 26 25,.m 27 5,.I 28 3 26 27,.f 29 1 28,.l 30 29,.b 31 .eql 3 30 3] (.cond (.t 31) (.ops [.K 6 0]) .skip)) (.q [.m 32 1,.m 33 5,.I 34 1 32 33,.l 35 34,.s 36 35,.m 37 6,.c 38 .neq 3 36 37] (.cond (.t 38) (.q [.F 4] .ret) .skip))))) (.ops [.m 17 5,.b 18 .add 3 17 1,.m 5 18])))))) (.q [.z 4 (.move .T)] .ret))))
def r_ref12_Rows:Na Tryz.prog 86=some ⟨39,zb2.r,[.tmp 4]⟩:=Aa
def zlo{g:Int}{z:List Bf}:∀(l:List Lo) (i:Nat) (m:List Bool) (A:List Int),(am g z i m A l).2=0→∀o∈l,Ps g z o=true
 |[],_,_,_,_,o,ho=>by cases ho
 |o::l,i,m,A,h,x,B=>by
  unfold am at h;by_cases j:(Uv g z m A o).1=0
  ·rw[H7 j]at h;rcases If.1 B with rfl|B
   ·cases C:Ps g z x with
    |true=>rfl
    |false =>
     unfold Uv at j;rw[H7 C]at j;exact absurd (show (2:Int)=0 from j) Ac
   ·exact zlo l _ _ _ h x B
  ·rw[Hv j]at h;exact absurd h j
def z7d{bs:List Bf}{os:List Lo}(h:(Qw z bs os).2=0):0≤z∧z≤64∧bs.length≤32∧os.length≤65536∧(∀b∈bs,1≤b.size∧b.size≤65536)∧∀o∈os,Ps z bs o=true:=by
 unfold Qw at h;split at h
 ·exact absurd h Ac
 split at h
 ·exact absurd h Ac
 split at h
 ·exact absurd h Ac
 split at h
 ·exact absurd h Ac
 rename_i B g C j;refine⟨J,J,J,J,λb A=>?_,zlo _ _ _ _ h⟩;rw[I9]at g j;have D:¬65536<b.size:=λq=>g ⟨b,A,by simpa using q⟩
 have E:¬b.size<1:=λq=>j ⟨b,A,by simp[q]⟩
 omega
def zmx{o:Lo}(h:Ps z Z o=true)(k:o.kind=16):1≤o.imm.toNat∧o.imm.toNat≤1048576:=by
 unfold Ps at h;simp[k,O0]at h;obtain⟨_,_,_,_,_,_,_,g,j⟩:=h;have g:=Je.1 g;have j:=Je.1 j;exact⟨g,j⟩
def skC(l:List Nat):List LV:=l.reverse.map λ(a:Nat)=>LV.i (a:Int)
def znt(a:Nat)(l:List Nat):skC (a::l)=skC l++[.i (a:Int)]:=by simp[skC]
def zsc(l:List Nat):(skC l).length=l.length:=by simp[skC]
def jl{l:List Lo}{i:Nat}{v:Lo}(h:l[i]?=some v):(Pm l)[i*8]?=some (.i v.kind):=by have:=ztd h (j:=0) J;simpa [Lo.f] using this
def lo_at7{l:List Lo}{i:Nat}{v:Lo}(h:l[i]?=some v):(Pm l)[i*8+7]?=some (.u v.imm):=by have:=ztd h (j:=7) J;simpa [Lo.f] using this
def zws{l:List LV}{i:Nat}{x:LV}(h:i<l.length):Oa l i [x]=l.set i x:=by
 rw[Jk,H7 h];simp[Oa]
def layI(l:List Int)(i:Nat)(x:Int)(h:i<l.length):Oa (l.map LV.i) i [.i x]=(l.set i x).map LV.i:=by
 rw[Jj,Jk,H7 At];simp[Oa]
def repIs(n:Nat):O6 [.i 0] n=(List.replicate n (0:Int)).map LV.i:=by
 induction n with
 |zero=>rfl
 |succ n g=>rw[O6,g,Ku];rfl
def zne{os:List Lo}(hc:(Qw z Z os).2=0)(D:Vn Qj 0 os):O2 87 [.agg (M8 z Z os)] (.lst ((Vf 0 [] (List.replicate os.length 0) os).map .i) os.length 1):=by
 obtain⟨_,_,_,gG,_,gA⟩:=z7d hc;refine Sa.mk Gt (Nb r_ref12_Ends Aa (by simp) ?_);simp[zgd,M8];refine Nw (z46 z Z os) (bors_self _ Be) ?_;obtain⟨gF,hE⟩:∃gF,Vf 0 [] (List.replicate os.length 0) os=gF:=⟨_,rfl⟩;have gH:gF.length=os.length:=by rw[←hE,endsR_len];simp
 rw[hE];simp[hc];refine⟨J,?_⟩;refine Po (λρ gL gg N=>∃(i st:Nat) (j:List Int) (B:List Nat) (v:LV),gL=[]∧N+i=os.length∧lk ρ 1=.ptr 0 0∧lk ρ 5=.dy 1 0∧lk ρ 6=v∧lk ρ 7=.i i∧gg[0]?=some (.cells (M8 z Z os) 0)∧gg[1]?=some (.dyn (j.map .i) os.length 1 0 st)∧j.length=os.length∧Oo 2 gg v 1 B.length (skC B)∧2≤gg.length ∧
   (∀a∈B,a<i)∧B.length≤i∧Vn Qj B.length (os.drop i)∧Vf i B j (os.drop i)=gF) (N:=os.length)
  ⟨0,0,List.replicate os.length 0,[],.nilSl,rfl,J,by simp,by simp,by simp,by simp,By,by simp[repIs],by simp,Oo.nil,by simp,by simp,by simp,Fx,by simpa using hE⟩ ?_
 clear D;rintro N ρ gL gg ⟨i,st,j,B,v,rfl,hN,K,I,T,P,E,G,g,gB,U,H,L,D,F⟩ Nx M;by_cases gz:i<os.length
 case neg =>
  rw[J0 J]at F;have:j=gF:=F;subst this;simp[K,I,P,E,M8,gz,O5,bor,G,ag]
 have ho:=zh3 gz;have O:=jl ho;have gI:=gA _ (Iq ho);rw[zhs gz]at F D;generalize dh os i=o at *;have l0:0<gg.length:=J
 have l1:1<gg.length:=J
 have gK:=yj gz;unfold Vf at F;unfold Vn at D;have Q:∀x:LObj,(gg.set 1 x)[0]?=some (.cells (M8 z Z os) 0):=λx=>by rw[Hx J];exact E
 have s1:∀x:LObj,(gg.set 1 x)[1]?=some x:=λx=>H0 l1
 have R:∀x:LObj,Oo 2 (gg.set 1 x) v 1 B.length (skC B):=λx=>gB.set_lt J
 by_cases A:o.kind=16
 ·rw[H7 A]at F;rw[H7 (by simp[Qj,A])]at D;simp[K,I,T,P,E,G,M8,gz,g,layI,↓Q,Nh O,A]
  repeat (refine⟨J,?_⟩)
  refine Oo.push (x:=[.i (i:Int)]) (R _).push_end J Ab J rfl rfl λv' G5 gC V gD _=>?_
  simp[P];refine⟨J,M _ _ _ ⟨N-1,J,i+1,st+1,j.set i (-1),i::B,v',rfl,J,A0,Dm,by simp,by simp,?_,?_,Bb,by rw[znt];exact gC,by simp at gD;omega,λa ha=>?_,Ab,D,F⟩⟩
  ·rw[V 0 J,M6 (by simpa using l0)];exact Q _
  ·rw[V 1 J,M6 (by simpa using l1),←Jj];exact s1 _
  ·rcases If.1 ha with rfl|ha
   ·omega
   ·have:=H a ha;omega
 by_cases C:o.kind=17
 ·rw[Hv A,H7 C]at F;rw[Hv (by simp[Qj,C]),H7 (by simp[Qj,C])]at D;obtain⟨hd,D⟩:=D;cases B with
  |nil=>simp at hd
  |cons a B =>
  have ha:=H a (I5 ..);simp[K,I,T,P,E,G,M8,gz,g,layI,↓Q,Nh O,A,C]
  repeat (refine⟨J,?_⟩)
  refine (R _).lenL ?_;simp;refine⟨by simp at L;omega,(R _).at1 J Ab λw hw=>?_⟩;simp;refine hw _ ?_;have X:(skC (a::B))[B.length]?=some (.i (a:Int)):=by
   rw[znt,Il (by rw[zsc];exact H9 _)];simp[zsc]
  simp only[Is];refine⟨_,X,?_⟩;simp[T];refine (R _).lenL ?_;simp;refine⟨by simp at L;omega,(R _).cut (m:=B.length) (by simp) (λK' k'=>k') (λd K' k'=>⟨J,k'⟩) λv' Y=>?_⟩;have gE:a<os.length:=J
  simp[I,P,↓s1,gz,g,zws,gE];rw[znt,Kt (by rw[zsc];omega)]at Y
  repeat (refine⟨J,?_⟩)
  refine M _ _ _ ⟨N-1,J,i+1,st+1+1+1,((j.set i (-1)).set i a).set a i,B,v',rfl,J,A0,Dm,by simp,by simp,?_,?_,Bb,?_,Fv,λx X=>by have:=H x (Ik _ X);omega,by simp at L;omega,?_,F⟩
  ·exact Q _
  ·rw[H0 (by simpa using l1)];simp
  ·have h:=Y.set_lt (q:=1) (ob:=.dyn ((((j.map LV.i).set i (.i (-1))).set i (.i a)).set a (.i i)) os.length 1 0 (st+1+1+1)) J;rw[List.set_set]at h;simpa using h
  ·simpa using D
 rw[Hv A,Hv C]at F;rw[Hv (by simp[Qj,A];split<;>simp),Hv (by simp[Qj,A,C])]at D;simp[K,I,T,P,E,G,M8,gz,g,layI,↓Q,Nh O,A,C]
 repeat (refine⟨J,?_⟩)
 refine M _ _ _ ⟨N-1,J,i+1,st+1,j.set i (-1),B,v,rfl,J,A0,Dm,Ew,by simp,Q _,?_,Bb,R _,Fv,λx X=>by have:=H x X;omega,J,D.2,F⟩;rw[←Jj];exact s1 _
def s1C(l:List (Int×Int)):List LV:=l.reverse.map λe=>LV.i e.1
def s2C(l:List (Int×Int)):List LV:=l.reverse.map λe=>LV.i e.2
def zhi(a:Int×Int)(l:List (Int×Int)):s1C (a::l)=s1C l++[.i a.1]:=by simp[s1C]
def zhm(a:Int×Int)(l:List (Int×Int)):s2C (a::l)=s2C l++[.i a.2]:=by simp[s2C]
def zn5(l:List (Int×Int)):(s1C l).length=l.length:=by simp[s1C]
def znb(l:List (Int×Int)):(s2C l).length=l.length:=by simp[s2C]
def zl2{os:List Lo}(hc:(Qw z Z os).2=0)(G:Vn Qj 0 os):Nj 85 [.agg (M8 z Z os)] (.i (Vi [] 0 os)) []:=by
 obtain⟨_,_,_,jg,_,gL⟩:=z7d hc;refine Oj.val rfl (Nb r_ref12_Steps Aa (by simp) ?_);simp[zfl,M8];refine Nw (z46 z Z os) (bors_self _ Be) ?_;obtain⟨g9,B⟩:∃g9,Vi [] 0 os=g9:=⟨_,rfl⟩;rw[B];simp[hc];refine Po (λρ jC gB N=>∃(i:Nat) (s:Int) (g:List (Int×Int)) (v w:LV),jC=[]∧N+i=os.length∧lk ρ 1=.ptr 0 0∧lk ρ 5=v∧lk ρ 6=.i s∧lk ρ 7=w∧lk ρ 8=.i i∧gB[0]?=some (.cells (M8 z Z os) 0)∧Oo 1 gB v 1 g.length (s1C g)∧Oo 1 gB w 1 g.length (s2C g)∧(∀q,ci v=some q→ci w≠some q)∧1≤gB.length ∧
   (0≤s∧s≤1125899906842624)∧(∀e∈g,(0≤e.1∧e.1≤1125899906842624)∧1≤e.2∧e.2≤1048576)∧g.length≤i∧Vn Qj g.length (os.drop i)∧Vi g s (os.drop i)=g9) (N:=os.length)
  ⟨0,0,[],.nilSl,.nilSl,rfl,J,by simp,by simp,by simp,by simp,by simp,By,Oo.nil,Oo.nil,by simp[ci],by simp,by simp,by simp,by simp,Bv,by simpa using B⟩ ?_
 clear G B;rintro N ρ jC gB ⟨i,s,g,v,w,rfl,hN,P,M,R,Q,T,j,hv,hw,C,U,⟨gC,D⟩,I,gM,G,B⟩ Nx O;by_cases gO:i<os.length
 case neg =>
  rw[J0 J]at B;have:s=g9:=B;subst this;simp[P,M,R,T,j,M8,gO]
 have ho:=zh3 gO;have V:=jl ho;have gP:=lo_at7 ho;have gQ:=gL _ (Iq ho);rw[zhs gO]at B G;generalize dh os i=o at *;have l0:0<gB.length:=J
 have jz:=yj gO;have gZ:i*8+7<(Pm os).length:=J
 unfold Vi at B;unfold Vn at G;by_cases A:o.kind=16
 ·rw[H7 A]at B;rw[H7 (by simp[Qj,A])]at G;obtain⟨t1,t2⟩:=zmx gQ A;have e1:0≤((o.imm.toNat:Nat):Int):=J
  have q0:∀x:List LObj,(gB++x)[0]?=some (.cells (M8 z Z os) 0):=λx=>(M6 l0).trans j
  have z0:∀(x:List LObj) (h:0<(gB++x).length),(gB++x)[0]=.cells (M8 z Z os) 0:=λx h=>Option.some.inj ((H6 h).symm.trans (q0 x))
  simp[P,M,R,Q,T,j,M8,gO,Nh V,Nh gP,A,↓q0,z0];refine⟨J,?_⟩;refine Oo.push2 (x:=[.i s]) hv.push_end J (by simp) J rfl rfl λX G5 Y gg gR gT=>?_
  simp at gR;have gD:G5[0]?=some (.cells (M8 z Z os) 0):=by rw[gg 0 (by simp) (λe=>by have:=(hv.row e).1;omega)];exact q0 _
  have gU:G5[gB.length+1]?=some (.dyn [.i (o.imm.toNat:Int)] 1 1 0 0):=by
   rw[gg _ (by simp) (λe=>by have:=(hv.row e).2.1;omega),Il J,(J:gB.length+1-gB.length=1)];rfl
  have gE:Oo 1 G5 w 1 g.length (s2C g):=(hw.push_end (ob:=[.dyn [.i s] 1 1 0 0,.dyn [.i (o.imm.toNat:Int)] 1 1 0 0])).frame2 λq H=>gg q (by have:=(hw.row H).2.1;simp;omega) (λe=>C q e H)
  simp[gD,gU,M8,z0];refine Oo.push2 (x:=[.i (o.imm.toNat:Int)]) gE J J J rfl rfl λw' G6 gV gF jA gX=>?_
  have gG:∀q,ci X=some q→ci w≠some q:=λq H e=>by
   rcases gT with h|h
   ·exact C q (by rw[←h];exact H) e
   ·rw[h]at H;have:=(hw.row e).2.1;have H:=Option.some.inj H;simp at H;omega
  have gY:Oo 1 G6 X 1 (g.length+1) (s1C g++[.i s]):=Y.frame2 λq H=>gF q (Y.row H).2.1 (gG q H)
  have gH:G6[0]?=some (.cells (M8 z Z os) 0):=by rw[gF 0 J (λe=>by have:=(gE.row e).1;omega)];exact gD
  simp[gH,M8,T];refine⟨J,O _ _ _ ⟨N-1,J,i+1,1,(s,(o.imm.toNat:Int))::g,X,w',rfl,J,Ey,by simp,by simp,by simp,by simp,gH,by rw[zhi];exact gY,by rw[zhm];exact gV,λq H=>?_,J,⟨J,J⟩,λe he=>?_,Ab,G,B⟩⟩
  ·rcases gX with h|h
   ·rw[h];exact gG q H
   ·rw[h];have:=(Y.row H).2.1;intro e;have e:=Option.some.inj e;omega
  ·rcases If.1 he with rfl|he
   ·exact⟨⟨gC,D⟩,by show (1:Int)≤_;omega,by show _≤(1048576:Int);omega⟩
   ·exact I e he
 by_cases E:o.kind=17
 ·rw[Hv A,H7 E]at B;rw[Hv (by simp[Qj,E]),H7 (by simp[Qj,E])]at G;obtain⟨hd,G⟩:=G;cases g with
  |nil=>simp at hd
  |cons a g =>
  obtain⟨a0,L⟩:=a;obtain⟨⟨b0,b1⟩,b2,b3⟩:=I _ (I5 ..);dsimp only at b0 b1 b2 b3 B;have gI:(s1C ((a0,L)::g))[g.length]?=some (.i a0):=by
   rw[zhi,Il (by rw[zn5];exact H9 _)];simp[zn5]
  have gK:(s2C ((a0,L)::g))[g.length]?=some (.i L):=by
   rw[zhm,Il (by rw[znb];exact H9 _)];simp[znb]
  simp[P,M,R,Q,T,j,M8,gO,Nh V,A,E];refine hv.lenL ?_;simp[Q,R];simp at gM;refine⟨J,hw.at1 J Ab λx hx=>?_⟩;simp;refine hx _ ?_;simp only[Is];refine⟨_,gK,?_⟩;simp[R];have ht:Int.tdiv 1125899906842624 L=1125899906842624/L:=Mu J;rw[ht];have t0:0≤1125899906842624/L:=Int.ediv_nonneg J J;have t1:1125899906842624/L≤1125899906842624:=Int.ediv_le_self _ J;refine⟨J,J,λq=>?_,λq=>?_⟩
  ·rw[H7 q]at B;simp[M];refine hv.at1 J Ab λy hy=>?_
   simp;refine hy _ ?_;simp only[Is];refine⟨_,gI,?_⟩;simp[M]
   repeat (refine⟨J,?_⟩)
   refine hv.cut2 (m:=g.length) (by simp) (λK' F=>F) (λd K' F=>F) λX D gz=>?_
   simp[Q];refine hw.cut2 (m:=g.length) (by simp) (λK' F=>F) (λd K' F=>F) λw' K gA=>?_
   rw[zhi,Kt (by rw[zn5];omega)]at D;rw[zhm,Kt (by rw[znb];omega)]at K;simp[T,j,M8];refine⟨J,O _ _ _ ⟨N-1,J,i+1,_,g,X,w',rfl,J,Ey,by simp,by simp,by simp,by simp,j,D,K,λq=>by rw[gz,gA];exact C q,U,⟨J,J⟩,λe he=>I e (Ik _ he),J,Bv,B⟩⟩
  ·rw[Hv J]at B;have hm:0≤s*L:=Int.mul_nonneg gC J;have jB:s*L≤1125899906842624:=Int.le_trans (Int.mul_le_mul_of_nonneg_right (J:s≤1125899906842624/L) J) (Int.ediv_mul_le _ J);simp[R,Q];refine hw.at1 J Ab λjD hz=>?_
   simp;refine hz _ ?_;simp only[Is];refine⟨_,gK,?_⟩;simp[M]
   repeat (refine⟨J,?_⟩)
   refine hv.at1 J Ab λy hy=>?_
   simp;refine hy _ ?_;simp only[Is];refine⟨_,gI,?_⟩;simp[M]
   repeat (refine⟨J,?_⟩)
   refine hv.cut2 (m:=g.length) (by simp) (λK' F=>F) (λd K' F=>F) λX D gz=>?_
   simp[Q];refine hw.cut2 (m:=g.length) (by simp) (λK' F=>F) (λd K' F=>F) λw' K gA=>?_
   rw[zhi,Kt (by rw[zn5];omega)]at D;rw[zhm,Kt (by rw[znb];omega)]at K;simp[T,j,M8];refine⟨J,O _ _ _ ⟨N-1,J,i+1,_,g,X,w',rfl,J,Ey,by simp,by simp,by simp,by simp,j,D,K,λq=>by rw[gz,gA];exact C q,U,⟨J,J⟩,λe he=>I e (Ik _ he),J,Bv,B⟩⟩
 rw[Hv A,Hv E]at B;rw[Hv (by simp[Qj,A];split<;>simp),Hv (by simp[Qj,A,E])]at G;simp[P,M,R,Q,T,j,M8,gO,Nh V,A,E]
 repeat (refine⟨J,?_⟩)
 refine O _ _ _ ⟨N-1,J,i+1,_,g,v,w,rfl,J,Ey,A9,by simp,Cp,by simp,j,hv,hw,C,U,⟨J,J⟩,I,J,G.2,B⟩
section
def z8u:LC:=(.q [.z 4 (.move (.c (.u 0)))] (.seq (.q [.m 5 1,.b 6 .lss 3 5 0] (.cond (.t 6) (.q [.z 4 (.move (.c (.u 0)))] .ret) .skip)) (.q [.m 7 0,.N 8 7,.f 9 3 8,.l 10 9,.m 11 1,.I 12 1 10 11,.l 13 12,.m 4 13] .ret)))
def r_ref12_run_at:Na Tryz.prog 148=some ⟨14,z8u.r,[.tmp 4]⟩:=Aa
def zdm:LC:=(.q [.F 4] (.q [.m 17 0,.N 18 17,.f 19 0 18,.f 20 2 19,.l 21 20,.m 22 1,.I 23 8 21 22,.L 24 8 23,.z 5 (.alloc [(.i 0),(.i 0),(.i 0),(.i 0),(.i 0),(.i 0),(.i 0),(.u 0)]),.S 8 5 24] (.seq (.draw [(.m 25 0,[]),(.f 26 3 5,[]),(.l 27 26,[]),(.m 29 0,[]),(.f 30 4 5,[]),(.l 31 30,[]),(.m 33 0,[]),(.f 34 5 5,[]),(.l 35 34,[]),(.W 28 148 25 27,[(.l 35 34,false),(.l 31 30,false)]),(.W 32 148 29 31,[(.l 35 34,false)]),(.W 36 148 33 35,[]),(.u 37 .rem 23 36 2,[]),(.u 38 .eql 23 37 1,[]),(.m 6 28,[]),(.m 7 32,[]),(.m 8 38,[])]) (.q [.K 9 (-1)] (.q [.z 10 (.move (.c (.u 0))),.z 11 (.move (.c (.u 0)))] (.seq (.q [.f 39 0 5,.l 40 39] (.block 0 (.q [.b 42 .eql 3 40 1,.m 41 42] (.cond (.t 41) (.ops [.f 43 7 5,.l 44 43,.m 10 44]) (.q [.b 46 .eql 3 40 2,.m 45 46] (.cond (.t 45) (.ops [.m 47 6,.m 10 47]) (.q [.b 49 .eql 3 40 3,.m 48 49] (.cond (.t 48) (.ops [.m 50 6,.m 51 7,.c 52 .add 23 50 51,.m 10 52]) (.q [.b 54 .eql 3 40 4,.m 53 54] (.cond (.t 53) (.ops [.m 55 6,.m 56 7,.c 57 .sub 23 55 56,.m 10 57]) (.q [.b 59 .eql 3 40 5,.m 58 59] (.cond (.t 58) (.ops [.m 60 6,.m 61 7,.c 62 .and 23 60 61,.m 10 62]) (.q [.b 64 .eql 3 40 6,.m 63 64] (.cond (.t 63) (.ops [.m 65 6,.m 66 7,.c 67 .or 23 65 66,.m 10 67]) (.q [.b 69 .eql 3 40 7,.m 68 69] (.cond (.t 68) (.ops [.m 70 6,.m 71 7,.c 72 .xor 23 70 71,.m 10 72]) (.q [.b 74 .eql 3 40 8,.m 73 74] (.cond (.t 73) (.ops [.m 75 6,.f 76 7 5,.l 77 76,.c 78 .shl 23 75 77,.m 10 78]) (.q [.b 80 .eql 3 40 9,.m 79 80] (.cond (.t 79) (.ops [.m 81 6,.f 82 7 5,.l 83 82,.c 84 .shr 23 81 83,.m 10 84]) (.q [.b 86 .eql 3 40 10,.m 85 86] (.cond (.t 85) (.ops [.m 88 6,.m 89 7,.W 90 91 88 89,.m 87 90,.X 91 0 87,.X 92 1 87,.m 10 91,.m 11 92]) (.q [.b 94 .eql 3 40 11,.m 93 94] (.cond (.t 93) (.q [.m 96 6,.m 97 7,.m 98 8,.V 99 92 96 97 98,.m 95 99,.X 100 0 95,.X 101 1 95,.m 12 100,.m 13 101] (.ops [.m 102 12,.m 103 13,.w 104 149 103,.m 10 102,.m 11 104])) (.q [.b 106 .eql 3 40 12,.m 105 106] (.cond (.t 105) (.q [.m 108 6,.m 109 7,.m 110 8,.V 111 147 108 109 110,.m 107 111,.X 112 0 107,.X 113 1 107,.m 14 112,.m 15 113] (.ops [.m 114 14,.m 115 15,.w 116 149 115,.m 10 114,.m 11 116])) (.q [.b 118 .eql 3 40 13,.m 117 118] (.cond (.t 117) (.q [.m 119 7,.m 10 119] (.q [.m 120 8] (.cond (.t 120) (.ops [.m 121 6,.m 10 121]) .skip))) (.seq (.q [.b 123 .eql 3 40 14,.m 122 123] (.cond (.t 122) .skip (.ops [.b 124 .eql 3 40 15,.m 122 124]))) (.cond (.t 122) (.q [.f 125 7 5,.l 126 125,.m 127 6,.c 128 .add 23 126 127,.m 16 128] (.seq (.seq (.draw [(.m 129 16,[]),(.m 130 0,[]),(.N 131 130,[]),(.f 132 4 131,[]),(.l 133 132,[]),(.f 134 6 5,[]),(.l 135 134,[]),(.I 136 1 133 135,[]),(.l 137 136,[]),(.s 138 137,[]),(.z 139 (.cvInt .u64 (.t 138)),[]),(.c 140 .geq 23 129 139,[])]) (.cond (.t 140) (.q [.F 4] .ret) .skip)) (.q [.m 141 16,.z 142 (.cvInt .i64 (.t 141)),.m 9 142] (.q [.f 143 0 5,.l 144 143,.b 145 .eql 3 144 15] (.cond (.t 145) (.draw [(.m 146 0,[]),(.N 147 146,[]),(.f 148 4 147,[]),(.l 149 148,[]),(.f 150 6 5,[]),(.l 151 150,[]),(.I 152 1 149 151,[]),(.l 153 152,[]),(.m 154 16,[]),(.m 155 7,[]),(.I 156 1 153 154,[]),(.S 1 156 155,[])]) (.draw [(.m 157 0,[]),(.N 158 157,[]),(.f 159 4 158,[]),(.l 160 159,[]),(.f 161 6 5,[]),(.l 162 161,[]),(.I 163 1 160 162,[]),(.l 164 163,[]),(.m 165 16,[]),(.I 166 1 164 165,[]),(.l 167 166,[]),(.m 10 167,[])])))))) .skip)))))))))))))))))))))))))))))) (.seq (.q [.f 168 1 5,.l 169 168,.b 170 .geq 3 169 0] (.cond (.t 170) (.draw [(.m 171 0,[]),(.N 172 171,[]),(.f 173 3 172,[]),(.l 174 173,[]),(.f 175 1 5,[]),(.l 176 175,[]),(.m 177 10,[]),(.I 178 1 174 176,[]),(.S 1 178 177,[])]) .skip)) (.seq (.q [.f 179 2 5,.l 180 179,.b 181 .geq 3 180 0] (.cond (.t 181) (.draw [(.m 182 0,[]),(.N 183 182,[]),(.f 184 3 183,[]),(.l 185 184,[]),(.f 186 2 5,[]),(.l 187 186,[]),(.m 188 11,[]),(.I 189 1 185 187,[]),(.S 1 189 188,[])]) .skip)) (.q [.m 190 0,.m 191 0,.N 192 191,.f 193 5 192,.l 194 193,.m 195 1,.m 196 9,.z 197 (.build [(.i 0),(.i 0)] [(0,1,.t 195),(1,1,.t 196)]),.z 198 (.buildSl 2 1 [(.i 0),(.i 0)] [(0,2,.t 197)]),.a 199 2 194 198,.N 200 190,.f 201 5 200,.S 1 201 199] (.q [.z 4 (.move .T)] .ret))))))))))
def r_ref12_run_do:Na Tryz.prog 88=some ⟨202,zdm.r,[.tmp 4]⟩:=Aa
def Xo(bs:List Bf)(X:List (List UInt64)):Bool:=decide (X.length=bs.length∧∀i,i<bs.length→((X.getD i []).length:Int)=if (Ng bs i).kind=3 then 0 else (Ng bs i).size)
def zmp(regs:Int)(bs:List Bf)(os:List Lo)(F:List (List UInt64))(hX:F.length≤9223372036854775807):Nj 86 [.agg (M8 regs bs os),LN F] (.bool (Xo bs F)) []:=by
 refine Oj.val rfl (Nb r_ref12_Rows Aa (by simp) ?_);by_cases I:F.length=bs.length
 case neg =>
  have T:¬(F.length:Int)=bs.length:=J
  simp[zb2,M8,Xo,I,T]
 simp[zb2,M8,I];refine Po (λY gg G N=>∃i:Nat,gg=[]∧G=[.cells (M8 regs bs os) 0]∧N+i=bs.length∧lk Y 1=LN F∧lk Y 2=.ptr 0 0∧lk Y 5=.i i∧∀B,B<i→((F.getD B []).length:Int)=if (Ng bs B).kind=3 then 0 else (Ng bs B).size) (N:=bs.length)
  ⟨0,rfl,By,J,Dm,by simp,by simp,λB h=>J⟩ ?_
 rintro N Y gg G ⟨i,rfl,rfl,hN,C,D,K,X⟩ Nx M;by_cases R:i<bs.length
 case neg =>
  have:Xo bs F=true:=by
   unfold Xo;exact Jp ⟨I,λB Z=>X B J⟩
  simp[C,D,K,I,R,this]
 have P:=zgn (Sk R);have Q:=zld (Sk R);have O:i<F.length:=J
 have j:¬F.length≤i:=J
 obtain⟨x,U⟩:∃x,F.getD i []=x:=⟨_,rfl⟩;have z:F[i]=x:=by rw[←U];simp[O]
 have A:¬(x.length:Int)=(if (Ng bs i).kind=3 then 0 else (Ng bs i).size)→Xo bs F=false:=λh=>by
  unfold Xo;exact Lv (λq=>h (by rw[←U];exact q.2 i R))
 have g:(x.length:Int)=(if (Ng bs i).kind=3 then 0 else (Ng bs i).size)→∀B,B<i+1→((F.getD B []).length:Int)=if (Ng bs B).kind=3 then 0 else (Ng bs B).size:=λh B Z=>by
  by_cases q:B=i
  ·rw[q,U];exact h
  ·exact X B J
 by_cases H:(Ng bs i).kind=3
 ·rw[H7 H]at A g;by_cases e:(x.length:Int)=0
  ·have V:x=[]:=In J;have E:=g e;subst V;simp[C,D,K,M8,R,O,j,Nh P,Nh Q,H,z]
   repeat (refine⟨J,?_⟩)
   exact M _ _ _ ⟨N-1,J,i+1,rfl,By,J,As,Av,by simp,E⟩
  ·have e':x≠[]:=λq=>e Fp
   simp[C,D,K,M8,R,O,j,Nh P,Nh Q,H,z,e',A e]
 ·rw[Hv H]at A g;by_cases e:(x.length:Int)=(Ng bs i).size
  ·simp[C,D,K,M8,R,O,j,Nh P,Nh Q,H,z,e]
   repeat (refine⟨J,?_⟩)
   exact M _ _ _ ⟨N-1,J,i+1,rfl,By,J,As,Av,by simp,g e⟩
  ·simp[C,D,K,M8,R,O,j,Nh P,Nh Q,H,z,e,A e]
def Xd(l:List (Int×Int)):List LV:=l.flatMap λe=>[.i e.1,.i e.2]
def zzt(a b:List (Int×Int)):Xd (a++b)=Xd a++Xd b:=by simp[Xd]
structure MsH (G:M0) (x pr pb kb:Nat) (qs:List Nat) (b:Nat) (regs:Int) (bs:List Bf) (os:List Lo) (L:LV) (s:Ms):Prop where
 xc:∃st,G[x]?=some (.cells [.i regs,.lst (P8 bs) bs.length 3,.lst (Pm os) os.length 8,.dy pr 0,.dy pb kb,L] st)
 rr:∃st,G[pr]?=some (.dyn (s.r.map .u) s.r.length 1 0 st)
 bb:∃st,G[pb]?=some (.dyn (qs.map λq=>.dy q 0) qs.length 1 kb st)
 row:∀j,j<qs.length→∃st,G[qs.getD j 0]?=some (.dyn ((s.bufs.getD j []).map .u) (s.bufs.getD j []).length 1 0 st)
 bl:s.bufs.length=qs.length
 lt:x<b∧pr<b∧pb<b∧x≠pr∧x≠pb∧pr≠pb
 qlt:∀q∈qs,q<b∧q≠x∧q≠pr∧q≠pb
 nd:qs.Nodup
 ev:Oo b G L 2 s.l.length (Xd s.l)
 bG:b≤G.length
section msh
variable {G G' : M0} {x pr pb kb : Nat} {qs : List Nat} {b : Nat} {regs : Int} {bs : List Bf} {os : List Lo} {L : LV} {s : Ms}
def MsH.keep(h:MsH G x pr pb kb qs b regs bs os L s)(hf:∀q,q<G.length→G'[q]?=G[q]?)(hl:G.length≤G'.length):MsH G' x pr pb kb qs b regs bs os L s:=by
 have e:∀{q:Nat} {ob:LObj},G[q]?=some ob→G'[q]?=some ob:=λj=>by rw[hf _ (Hu.1 j).1];exact j
 refine⟨?_,?_,?_,λgg hj=>?_,h.bl,h.lt,h.qlt,h.nd,h.ev.frame λq _ j=>hf q j,Ja h.bG hl⟩
 ·obtain⟨st,h⟩:=h.xc;exact⟨st,e h⟩
 ·obtain⟨st,h⟩:=h.rr;exact⟨st,e h⟩
 ·obtain⟨st,h⟩:=h.bb;exact⟨st,e h⟩
 ·obtain⟨st,h⟩:=h.row gg hj;exact⟨st,e h⟩
def zfv{r:Int}(h:MsH G x pr pb kb qs b regs bs os L s)(B:r<s.r.length)(k:X (.u (atR s.r r)) G):Ob (.fn 148) [.ptr x 0,.i r] G X:=by
 refine Nb r_ref12_run_at Aa N ?_;obtain⟨C,j⟩:=h.xc;obtain⟨D,z⟩:=h.rr;unfold atR at k;by_cases A:r<0
 ·rw[H7 A]at k;simp[z8u,A];exact k
 ·rw[Hv A]at k;obtain⟨n,rfl⟩:=Hz (J:0≤r);have g:n<s.r.length:=J
  have q:(s.r.map LV.u)[n]?=some (.u (s.r.getD n 0)):=by simp[g,Hy]
  rw[Is]at k;rw[show s.r.getD n 0=s.r[n] from by simp[Hy,g]]at k;simp[z8u,j,z,g,(J:¬((n:Int)<0))];exact k
def MsH.putr(h:MsH G x pr pb kb qs b regs bs os L s){i:Int}{v:UInt64}{st:Nat}:MsH (G.set pr (.dyn ((Nc s.r i v).map .u) s.r.length 1 0 st)) x pr pb kb qs b regs bs os L ⟨s.i,s.first,Nc s.r i v,s.bufs,s.l⟩:=by
 obtain⟨l1,l2,l3,l4,l5,l6⟩:=h.lt;have j:pr<G.length:=by obtain⟨st,h⟩:=h.rr;exact (Hu.1 h).1
 have gg:(Nc s.r i v).length=s.r.length:=Fb
 have ne:∀{q:Nat} {ob:LObj},q≠pr→(G.set pr ob)[q]?=G[q]?:=λhq=>Hx (Ne.symm hq)
 refine⟨?_,⟨st,?_⟩,?_,λgz hj=>?_,h.bl,h.lt,h.qlt,h.nd,h.ev.set_lt l2,by rw[J1];exact h.bG⟩
 ·obtain⟨st,h⟩:=h.xc;exact⟨st,by rw[ne l4];exact h⟩
 ·rw[H0 j];show _=some (LObj.dyn ((Nc s.r i v).map .u) (Nc s.r i v).length 1 0 st);rw[gg]
 ·obtain⟨st,h⟩:=h.bb;exact⟨st,by rw[ne (Ne.symm l6)];exact h⟩
 ·obtain⟨st,h'⟩:=h.row gz hj;refine⟨st,?_⟩;rw[ne (h.qlt _ F8).2.2.1];exact h'
def MsH.sto(h:MsH G x pr pb kb qs b regs bs os L s){j:Nat}{row:List UInt64}{st:Nat}(hj:j<qs.length):MsH (G.set (qs.getD j 0) (.dyn (row.map .u) row.length 1 0 st)) x pr pb kb qs b regs bs os L ⟨s.i,s.first,s.r,s.bufs.set j row,s.l⟩:=by
 obtain⟨l1,l2,l3,l4,l5,l6⟩:=h.lt;obtain⟨q1,q2,q3,q4⟩:=h.qlt (qs.getD j 0) F8;have gz:qs.getD j 0<G.length:=by obtain⟨st,h⟩:=h.row j hj;exact (Hu.1 h).1
 have ne:∀{q:Nat} {ob:LObj},q≠qs.getD j 0→(G.set (qs.getD j 0) ob)[q]?=G[q]?:=λhq=>Hx (Ne.symm hq)
 refine⟨?_,?_,?_,λk hk=>?_,by simpa using h.bl,h.lt,h.qlt,h.nd,h.ev.set_lt q1,by rw[J1];exact h.bG⟩
 ·obtain⟨st,h⟩:=h.xc;exact⟨st,by rw[ne (Ne.symm q2)];exact h⟩
 ·obtain⟨st,h⟩:=h.rr;exact⟨st,by rw[ne (Ne.symm q3)];exact h⟩
 ·obtain⟨st,h⟩:=h.bb;exact⟨st,by rw[ne (Ne.symm q4)];exact h⟩
 ·show ∃gg,_=some (LObj.dyn (((s.bufs.set j row).getD k []).map .u) ((s.bufs.set j row).getD k []).length 1 0 gg);rw[e9 _ _ _ _ _ (by rw[h.bl];exact hj)];by_cases e:k=j
  ·subst e;rw[H7 rfl];exact⟨st,H0 gz⟩
  ·rw[Hv e];obtain⟨gg,h'⟩:=h.row k hk;refine⟨gg,?_⟩;rw[ne (λq=>e ?_)]
   ·exact h'
   ·simp only[Hy,H6 hk,H6 hj,Ju]at q;exact (List.getElem_inj h.nd).1 q
end msh
def zj7{regs:Int}{bs:List Bf}{o:Lo}(h:Ps regs bs o=true):(o.d=-1∨0≤o.d∧o.d<regs)∧(o.e=-1∨0≤o.e∧o.e<regs)∧(o.a=-1∨0≤o.a∧o.a<regs)∧(o.b=-1∨0≤o.b∧o.b<regs)∧(o.c=-1∨0≤o.c∧o.c<regs)∧(o.kind=14∨o.kind=15→0≤o.buf∧o.buf<bs.length):=by
 unfold Ps at h;simp only[Hw]at h;obtain⟨_,d,e,a,b,c,_,m⟩:=h;have f:∀{x:Int} {t:Bool},Q5 regs x t=true→x=-1∨0≤x∧x<regs:=λ{x t} h=>by
  unfold Q5 at h;cases t with
  |true=>simp at h;exact .inr h
  |false=>simp at h;exact .inl h
 refine⟨f d,f e,?_,f b,f c,λk=>?_⟩
 ·simp only[Jb,Hw,Ib]at a;exact a.elim f λq=>.inl q.2
 ·rw[H7 (by unfold O0;simpa using k)]at m;simp only[Hw,Ib]at m;exact⟨m.1,m.2.1⟩
def PhiD(x pr pb kb:Nat)(qs:List Nat)(b:Nat)(regs:Int)(bs:List Bf)(os:List Lo)(L:LV)(s:Ms)(o:Lo)(z:M0)(j:M2)(B:List Nat)(G:M0):Prop :=
 B=[]∧lk j 0=.ptr x 0∧lk j 1=.i s.i∧∃(A:Nat) (d e:UInt64) (pl:Int) (g:List (List UInt64)),lk j 5=.ptr A 0∧b≤A∧G[A]?=some (.cells o.f 1)∧lk j 9=.i pl∧lk j 10=.u d∧lk j 11=.u e ∧
  MsH G x pr pb kb qs b regs bs os L ⟨s.i,s.first,s.r,g,s.l⟩∧U6 o s=some ⟨s.i+1,s.first,Nc (Nc s.r o.d d) o.e e,g,s.l++[((s.i:Int),pl)]⟩∧∀q,q<b→q ∉ qs→G[q]?=z[q]?
def do_any{G:M0}{x pr pb kb:Nat}{qs:List Nat}{b:Nat}{regs:Int}{bs:List Bf}{os:List Lo}{L:LV}{s:Ms}{o:Lo}(h:MsH G x pr pb kb qs b regs bs os L s)(ho:os[s.i]?=some o)(hf:Ps regs bs o=true)(jU:o.kind≠16)(jV:o.kind≠17)(jX:(s.r.length:Int)=regs)(jY:qs.length=bs.length)(jZ:s.l.length≤900000000)
  (gP:∀x∈s.bufs,x.length≤65536)
  (kn:U6 o s=none→∀G',X (.bool false) G') (ks:∀s' G' L',U6 o s=some s'→MsH G' x pr pb kb qs b regs bs os L' s'→(∀q,q<b→q≠x→q≠pr→q ∉ qs→G'[q]?=G[q]?)→X (.bool true) G'):Ob (.fn 88) [.ptr x 0,.i s.i] G X:=by
 obtain⟨rd,re,ra,rb,rc,rm⟩:=zj7 hf;have j0:1≤o.kind∧o.kind≤17:=by
  unfold Ps at hf;simp only[Hw,Ib]at hf;exact hf.1
 have hC:o.f=[.i o.kind,.i o.d,.i o.e,.i o.a,.i o.b,.i o.c,.i o.buf,.u o.imm]:=rfl;have gQ:=h.bG;obtain⟨s1,h1⟩:=h.xc;have lx:x<G.length:=(Hu.1 h1).1;have jC:=zcl ho;have jD:=yj (Hu.1 ho).1;have gR:s.i<os.length:=(Hu.1 ho).1;refine Nb r_ref12_run_do Aa N ?_;rw[zdm,zf7,zf7,zf7,zf7,zf7];refine Yc (PhiD x pr pb kb qs b regs bs os L s o G) (λNx F=>?_) (λρ jR G2 hΦ=>?_)
 ·simp[h1,gR,jC,jD,hC];have j:(G++[LObj.cells o.f 1])[G.length]?=some (.cells o.f 1):=Im;have E:MsH (G++[LObj.cells o.f 1]) x pr pb kb qs b regs bs os L s:=h.keep (λq H=>M6 H) N;have B:∀q,q<b→q ∉ qs→(G++[LObj.cells o.f 1])[q]?=G[q]?:=λq H _=>M6 (Iz H gQ)
  have gH:b≤G.length:=gQ;rw[hC]at j E B;generalize G++[LObj.cells [.i o.kind,.i o.d,.i o.e,.i o.a,.i o.b,.i o.c,.i o.buf,.u o.imm] 1]=G1 at *;generalize G.length=jE at *;refine zfv (r:=o.a) E J ?_;simp[j];refine zfv (r:=o.b) E J ?_;simp[j];refine zfv (r:=o.c) E J ?_;have gz:o.kind≠14→o.kind≠15→U6 o s=some ⟨s.i+1,s.first,Nc (Nc s.r o.d (Nq o (atR s.r o.a) (atR s.r o.b) (decide (atR s.r o.c%2=1))).1) o.e (Nq o (atR s.r o.a) (atR s.r o.b) (decide (atR s.r o.c%2=1))).2,s.bufs,s.l++[((s.i:Int),(-1:Int))]⟩:=λe1 e2=>by
   unfold U6;rw[Hv e1,Hv e2]
  generalize gI:atR s.r o.a=z at *;generalize jF:atR s.r o.b=A at *;generalize j1:atR s.r o.c=vc at *;by_cases km:o.kind=14∨o.kind=15
  ·obtain⟨m0,m1⟩:=rm km;obtain⟨Q,gA⟩:=Hz m0;have I:Q<qs.length:=J
   obtain⟨s3,h3⟩:=E.row Q I;obtain⟨s4,h4⟩:=E.bb;obtain⟨s5,h5⟩:=E.xc;have gE:(qs.map λq=>LV.dy q 0)[Q]?=some (.dy (qs.getD Q 0) 0):=by simp[Hy,I]
   have gK:Tw s.bufs o.buf=s.bufs.getD Q []:=by unfold Tw;rw[gA];rfl
   have gT:(s.bufs.getD Q []).length≤65536:=gP _ (by simp[Hy,h.bl,I]);have gU:=λ(jG:List UInt64) (jH:Nat)=>E.sto (row:=jG) (st:=jH) I
   have j4:=(h.qlt (qs.getD Q 0) (by simp[Hy,I])).1;have jI:qs.getD Q 0∈qs:=by simp[Hy,I]
   have j5:qs.getD Q 0<G1.length:=(Hu.1 h3).1;have gg:iU (((s.bufs.getD Q []).length:Nat):Int)≤o.imm+z↔(s.bufs.getD Q []).length≤(o.imm+z).toNat:=by
    rw[Je,Vp J]
   generalize s.bufs.getD Q []=K at *;generalize qs.getD Q 0=qn at *;generalize hn:(o.imm+z).toNat=n at *;by_cases C:n<K.length
   case neg =>
    have gV:K.length≤n:=J
    have gX:U6 o s=none:=by
     unfold U6;rw[gK,gI,hn,Hv C,Hv C];rcases km with k|k
     ·rw[H7 k]
     ·rw[Hv J,H7 k]
    rcases km with k|k
    ·simp[j,k,h3,h4,h5,gA,I,Nh gE,Uz,gg,gV,M8];exact kn gX _
    ·simp[j,k,h3,h4,h5,gA,I,Nh gE,Uz,gg,gV,M8];exact kn gX _
   have gF:¬K.length≤n:=J
   rcases km with k|k
   ·have gL:U6 o s=some ⟨s.i+1,s.first,Nc (Nc s.r o.d K[n]) o.e 0,s.bufs,s.l++[((s.i:Int),(n:Int))]⟩:=by
     unfold U6;rw[gK,gI,hn,H7 k,H7 C];simp[Hy,C]
    simp[j,k,h3,h4,h5,gA,I,Nh gE,Uz,gg,gF,hn,C,M8]
    repeat (refine⟨J,?_⟩)
    exact F _ _ _ ⟨rfl,N,N,jE,_,_,(n:Int),s.bufs,N,gH,j,N,N,N,E,gL,B⟩
   ·have gL:U6 o s=some ⟨s.i+1,s.first,Nc (Nc s.r o.d 0) o.e 0,s.bufs.set Q (K.set n A),s.l++[((s.i:Int),(n:Int))]⟩:=by
     unfold U6;rw[gK,gI,jF,hn,Hv J,H7 k,H7 C,gA];rfl
    have e1:Oa (K.map LV.u) n [.u A]=(K.set n A).map LV.u:=by
     rw[zws Ci,Jj]
    simp[j,k,h3,h4,h5,gA,I,Nh gE,Uz,gg,gF,hn,C,M8,e1]
    repeat (refine⟨J,?_⟩)
    have O:=gU (K.set n A) (s3+1);simp only[Jj,J1]at O;refine F _ _ _ ⟨rfl,N,N,jE,0,0,(n:Int),s.bufs.set Q (K.set n A),N,gH,?_,N,N,N,O,gL,λq H D=>?_⟩
    ·rw[Hx (λe=>by rw[e,j]at h3;cases h3)];exact j
    ·rw[Hx (λe=>D (by rw[←e];exact jI))];exact B q H D
  have jK:o.kind≠14:=λq=>km (.inl q)
  have jL:o.kind≠15:=λq=>km (.inr q)
  have gz:=gz jK jL;have g:∀(ρ':M2),lk ρ' 0=.ptr x 0→lk ρ' 1=.i s.i→lk ρ' 5=.ptr jE 0→lk ρ' 9=.i (-1)→lk ρ' 10=.u (Nq o z A (decide (vc%2=1))).1→lk ρ' 11=.u (Nq o z A (decide (vc%2=1))).2→Nx ρ' [] G1:=by
   intro ρ' R T a5 U gB M;exact F _ _ _ ⟨rfl,R,T,jE,_,_,-1,s.bufs,a5,gH,j,U,gB,M,E,gz,B⟩
  clear gz F h E kn ks;by_cases k1:o.kind=1
  ·have hv:∀c,Nq o z A c=(o.imm,0):=λc=>by unfold Nq;simp[k1]
   rw[hv]at g;simp[j,k1];exact g _ N N N N Ax N
  by_cases k2:o.kind=2
  ·have hv:∀c,Nq o z A c=(z,0):=λc=>by unfold Nq;simp[k2]
   rw[hv]at g;simp[j,k2];exact g _ N N N N Ax N
  by_cases k3:o.kind=3
  ·have hv:∀c,Nq o z A c=(z+A,0):=λc=>by unfold Nq;simp[k3]
   rw[hv]at g;simp[j,k3];exact g _ N N N N Ax N
  by_cases k4:o.kind=4
  ·have hv:∀c,Nq o z A c=(z-A,0):=λc=>by unfold Nq;simp[k4]
   rw[hv]at g;simp[j,k4];exact g _ N N N N Ax N
  by_cases k5:o.kind=5
  ·have hv:∀c,Nq o z A c=(z &&& A,0):=λc=>by unfold Nq;simp[k5]
   rw[hv]at g;simp[j,k5];exact g _ N N N N Ax N
  by_cases k6:o.kind=6
  ·have hv:∀c,Nq o z A c=(z ||| A,0):=λc=>by unfold Nq;simp[k6]
   rw[hv]at g;simp[j,k6];exact g _ N N N N Ax N
  by_cases k7:o.kind=7
  ·have hv:∀c,Nq o z A c=(z ^^^ A,0):=λc=>by unfold Nq;simp[k7]
   rw[hv]at g;simp[j,k7];exact g _ N N N N Ax N
  by_cases k8:o.kind=8
  ·have hv:∀c,Nq o z A c=(UInt64.ofNat (z.toNat*2^o.imm.toNat),0):=λc=>by unfold Nq;simp[k8]
   rw[hv]at g;simp[j,k8];exact g _ N N N N Ax N
  by_cases k9:o.kind=9
  ·have hv:∀c,Nq o z A c=(UInt64.ofNat (z.toNat/2^o.imm.toNat),0):=λc=>by unfold Nq;simp[k9]
   rw[hv]at g;simp[j,k9];exact g _ N N N N Ax N
  by_cases gY:o.kind=10
  ·have hv:∀c,Nq o z A c=(df z A,z*A):=λc=>by unfold Nq;simp[gY]
   rw[hv]at g;simp[j,gY];refine Nw (zqd z A) (bors_self _ rfl) ?_;simp;exact g _ N N N N N N
  by_cases gZ:o.kind=11
  ·have hv:∀c,Nq o z A c=((Qc z A c).1,Nv (Qc z A c).2):=λc=>by unfold Nq;simp[gZ]
   rw[hv]at g;simp[j,gZ,zj5];refine Nw (zgb z A (decide (vc%2=1))) (bors_self _ rfl) ?_;simp;refine Nw (zgg _) (bors_self _ rfl) ?_;simp;exact g _ N N N N N N
  by_cases g9:o.kind=12
  ·have hv:∀c,Nq o z A c=((subC z A c).1,Nv (subC z A c).2):=λc=>by unfold Nq;simp[g9]
   rw[hv]at g;simp[j,g9,zj5];refine Nw (zh1 z A (decide (vc%2=1))) (bors_self _ rfl) ?_;simp;refine Nw (zgg _) (bors_self _ rfl) ?_;simp;exact g _ N N N N N N
  by_cases gM:o.kind=13
  ·have hv:∀c,Nq o z A c=(if c then z else A,0):=λc=>by unfold Nq;simp[gM]
   rw[hv]at g;by_cases c1:vc%2=1
   ·simp[j,gM,c1,zj5];exact g _ N N N N (by simp[c1]) N
   ·simp[j,gM,c1,zj5];exact g _ N N N N (by simp[c1]) N
  omega
 ·obtain⟨rfl,R,T,jE,d,e,pl,gG,a5,bz,hz,U,gB,M,hm,gz,B⟩:=hΦ;rw[gz]at ks;rw[hC]at hz;have jg:∀(i:Int) (v:UInt64) (r:List UInt64),(Nc r i v).length=r.length:=λi v r=>Fb
  refine Yc (λρ jR G'=>jR=[]∧lk ρ 0=.ptr x 0∧lk ρ 1=.i s.i∧lk ρ 5=.ptr jE 0∧G'[jE]?=some (.cells [.i o.kind,.i o.d,.i o.e,.i o.a,.i o.b,.i o.c,.i o.buf,.u o.imm] 1)∧lk ρ 9=.i pl∧lk ρ 11=.u e∧MsH G' x pr pb kb qs b regs bs os L ⟨s.i,s.first,Nc s.r o.d d,gG,s.l⟩∧∀q,q<b→q≠pr→q ∉ qs→G'[q]?=G[q]?) (λNx F=>?_) (λρ jR G3 h3=>?_)
  ·obtain⟨t1,V⟩:=hm.xc;obtain⟨t2,Y⟩:=hm.rr;dsimp only at Y;by_cases d0:0≤o.d
   ·obtain⟨dn,Z⟩:=Hz d0;have gC:dn<s.r.length:=J
    have e1:Oa (s.r.map LV.u) dn [.u d]=(Nc s.r o.d d).map LV.u:=by
     rw[zws (by simpa using gC),Nc,H7 d0,Z,Jj];rfl
    have O:=hm.putr (i:=o.d) (v:=d) (st:=t2+1);dsimp only at O;simp[R,T,a5,U,gB,hz,V,Y,Z,gC,e1];rw[←Z];refine⟨J,F _ _ _ ⟨rfl,?_,?_,?_,?_,?_,?_,O,λq H P D=>?_⟩⟩
    ·simp[R]
    ·simp[T]
    ·simp[a5]
    rotate_left
    ·simp[U]
    ·simp[M]
    rotate_left
    ·rw[Hx (λe=>by rw[e,hz]at Y;cases Y)];exact hz
    ·rw[Hx (Ne.symm P)];exact B q H D
   ·have e1:Nc s.r o.d d=s.r:=by unfold Nc;rw[Hv d0]
    simp[R,T,a5,U,gB,hz,d0];refine F _ _ _ ⟨rfl,?_,?_,?_,hz,?_,?_,e1.symm ▸ hm,λq H _ D=>B q H D⟩
    all_goals simp[R,T,a5,U,M]
  clear R T a5 U gB M hm B hz;obtain⟨rfl,R,T,a5,hz,U,M,hm,B⟩:=h3;have gT:=jg o.d d s.r;generalize Nc s.r o.d d=r1 at *;refine Yc (λρ jR G'=>jR=[]∧lk ρ 0=.ptr x 0∧lk ρ 1=.i s.i∧lk ρ 9=.i pl∧MsH G' x pr pb kb qs b regs bs os L ⟨s.i,s.first,Nc r1 o.e e,gG,s.l⟩∧∀q,q<b→q≠pr→q ∉ qs→G'[q]?=G[q]?) (λNx F=>?_) (λρ jR G4 h4=>?_)
  ·obtain⟨t1,V⟩:=hm.xc;obtain⟨t2,Y⟩:=hm.rr;dsimp only at Y;by_cases d0:0≤o.e
   ·obtain⟨dn,Z⟩:=Hz d0;have gC:dn<r1.length:=J
    have e1:Oa (r1.map LV.u) dn [.u e]=(Nc r1 o.e e).map LV.u:=by
     rw[zws (by simpa using gC),Nc,H7 d0,Z,Jj];rfl
    have O:=hm.putr (i:=o.e) (v:=e) (st:=t2+1);dsimp only at O;simp[R,T,a5,U,M,hz,V,Y,Z,gC,e1];rw[←Z];refine⟨J,F _ _ _ ⟨rfl,?_,?_,?_,O,λq H P D=>?_⟩⟩
    ·simp[R]
    ·simp[T]
    ·simp[U]
    rw[Hx (Ne.symm P)];exact B q H P D
   ·have e1:Nc r1 o.e e=r1:=by unfold Nc;rw[Hv d0]
    simp[R,T,a5,U,M,hz,d0];refine F _ _ _ ⟨rfl,?_,?_,?_,e1.symm ▸ hm,λq H P D=>B q H P D⟩
    all_goals simp[R,T,U]
  clear R T a5 U M hm B hz;obtain⟨rfl,R,T,U,hm,B⟩:=h4;generalize Nc r1 o.e e=r2 at *;obtain⟨t1,V⟩:=hm.xc;have jM:x<G4.length:=(Hu.1 V).1;have q1:∀y:List LObj,(G4++y)[x]?=_:=λy=>(M6 jM).trans V
  simp[R,T,U,V,↓q1];refine Oo.push2 (x:=[.i (s.i:Int),.i pl]) hm.ev.push_end J (by simp;have:=hm.bG;omega) (by show s.l.length≤_;omega) rfl rfl λL' G5 jz gO jO j6=>?_
  have jT:=hm.bG;have jA:G5[x]?=_:=(gO x Ab (λe=>by have:=(hm.ev.row e).1;have:=h.lt.1;omega)).trans (q1 _);have jP:L'.cells=some [L']:=jz.cells;simp[-LV.cells,jP,jA];refine ks _ _ L' rfl ?_ ?_
  ·obtain⟨l1,l2,l3,l4,l5,l6⟩:=hm.lt;have jB:x<G5.length:=(Hu.1 jA).1;have ne:∀{q:Nat} {ob:LObj},q≠x→(G5.set x ob)[q]?=G5[q]?:=λH=>Hx (Ne.symm H)
   have gD:∀{q:Nat} {ob:LObj},q<b→G4[q]?=some ob→G5[q]?=some ob:=λ{q ob} H ho=>by
    rw[gO q Ab (λe=>D9),M6 (Hu.1 ho).1];exact ho
   refine⟨⟨t1+1,H0 jB⟩,?_,?_,λj7 hj=>?_,hm.bl,hm.lt,hm.qlt,hm.nd,?_,by rw[J1];simp at jO;omega⟩
   ·obtain⟨st,h⟩:=hm.rr;exact⟨st,by rw[ne (Ne.symm l4)];exact gD l2 h⟩
   ·obtain⟨st,h⟩:=hm.bb;exact⟨st,by rw[ne (Ne.symm l5)];exact gD l3 h⟩
   ·obtain⟨st,h⟩:=hm.row j7 hj;have H:=hm.qlt (qs.getD j7 0) F8;exact⟨st,by rw[ne H.2.1];exact gD H.1 h⟩
   ·show Oo b _ L' 2 (s.l++[((s.i:Int),pl)]).length (Xd (s.l++[((s.i:Int),pl)]));rw[zzt,H8];exact jz.set_lt l1
  ·intro q H jQ P D;rw[Hx (Ne.symm jQ),gO q Ab (λe=>D9),M6 J];exact B q H P D
end
def zkr:LC:=(.q [.x 2 0,.e 4,.e 5,.K 6 0] (.q [.L 18 3 2,.w 19 78 18,.m 17 19,.X 20 0 17,.X 21 1 17,.m 7 20,.m 8 21] (.seq (.q [.m 22 8,.b 23 .eql 35 22 0,.m 24 23,.y 25 24 (.loadN 3 (.t 2)),.y 26 24 (.w 85 [.t 25]),.y 27 24 (.bin .gtr true 3 (.t 26) (.k 16777216)),.q 28 24 27] (.cond (.t 28) (.ops [.K 8 10]) .skip)) (.seq (.q [.m 29 8,.b 30 .eql 35 29 0,.m 31 30,.y 32 31 (.loadN 3 (.t 2)),.my 33 31 1,.y 34 31 (.w 86 [.t 32,.t 33]),.y 35 31 (.un .not (.t 34)),.q 36 31 35] (.cond (.t 36) (.ops [.K 8 2]) .skip)) (.seq (.q [.m 37 8,.b 38 .neq 35 37 0] (.cond (.t 38) (.q [.m 39 8,.e 4,.e 5,.m 6 39] .ret) .skip)) (.seq (.draw [(.L 40 3 2,[]),(.f 41 0 2,[]),(.l 42 41,[]),(.z 43 (.mkSl 1 [(.u 0)] (.t 42) (.t 42)),[(.l 42 41,false),(.L 40 3 2,false)]),(.z 44 (.build [(.i 0),.nilSl,.nilSl,.nilSl,.nilSl,.nilSl] [(0,3,.t 40),(3,1,.t 43)]),[]),(.x 45 44,[(.z 43 (.mkSl 1 [(.u 0)] (.t 42) (.t 42)),true),(.l 42 41,false),(.L 40 3 2,false)]),(.m 9 45,[])]) (.seq (.q [.K 10 0] (.block 0 (.loop (.seq (.q [.m 46 10,.m 47 1,.s 48 47,.c 49 .lss 3 46 48] (.cond (.t 49) .skip (.exit 0))) (.seq (.block 1 (.q [.f 52 1 2,.l 53 52,.m 54 10,.I 55 3 53 54,.f 56 0 55,.l 57 56,.z 58 (.mkSl 1 [(.u 0)] (.t 57) (.t 57)),.m 11 58] (.q [.m 59 11,.m 60 1,.m 61 10,.I 62 1 60 61,.l 63 62,.z 64 (.copy 1 (.t 59) (.t 63))] (.ops [.m 65 9,.m 66 9,.N 67 66,.f 68 4 67,.l 69 68,.m 70 11,.z 71 (.buildSl 1 1 [.nilSl] [(0,1,.t 70)]),.a 72 1 69 71,.N 73 65,.f 74 4 73,.S 1 74 72])))) (.ops [.m 50 10,.b 51 .add 3 50 1,.m 10 51])))))) (.q [.L 75 3 2,.w 76 87 75,.m 12 76] (.q [.z 13 (.move .T)] (.seq (.q [.K 14 0] (.block 2 (.loop (.seq (.q [.m 77 14,.f 78 2 2,.l 79 78,.s 80 79,.c 81 .lss 3 77 80] (.cond (.t 81) .skip (.exit 2))) (.seq (.block 3 (.q [.f 84 2 2,.l 85 84,.m 86 14,.I 87 8 85 86,.L 88 8 87,.z 15 (.alloc [(.i 0),(.i 0),(.i 0),(.i 0),(.i 0),(.i 0),(.i 0),(.u 0)]),.S 8 15 88] (.q [.f 89 0 15,.l 90 89] (.block 4 (.q [.b 100 .eql 3 90 16,.m 99 100] (.cond (.t 99) (.seq (.q [.m 101 13] (.cond (.t 101) (.draw [(.m 102 9,[]),(.N 103 102,[]),(.f 104 3 103,[]),(.l 105 104,[]),(.f 106 1 15,[]),(.l 107 106,[]),(.I 108 1 105 107,[]),(.v (.store 1 (.t 108) (.c (.u 0))),[])]) .skip)) (.q [.m 109 9,.m 110 9,.N 111 110,.f 112 5 111,.l 113 112,.m 114 14,.z 115 (.build [(.i 0),(.i 0)] [(0,1,.t 114),(1,1,.k (-1))]),.z 116 (.buildSl 2 1 [(.i 0),(.i 0)] [(0,2,.t 115)]),.a 117 2 113 116,.N 118 109,.f 119 5 118,.S 1 119 117] (.ops [.z 13 (.move .T)]))) (.q [.b 121 .eql 3 90 17,.m 120 121] (.cond (.t 120) (.seq (.draw [(.f 122 2 2,[]),(.l 123 122,[]),(.m 124 12,[]),(.m 125 14,[]),(.I 126 1 124 125,[]),(.l 127 126,[]),(.I 128 8 123 127,[]),(.L 129 8 128,[]),(.z 16 (.alloc [(.i 0),(.i 0),(.i 0),(.i 0),(.i 0),(.i 0),(.i 0),(.u 0)]),[(.L 129 8 128,false),(.l 127 126,false),(.l 123 122,false)]),(.S 8 16 129,[])]) (.seq (.draw [(.m 130 9,[]),(.N 131 130,[]),(.f 132 3 131,[]),(.l 133 132,[]),(.f 134 1 16,[]),(.l 135 134,[]),(.I 136 1 133 135,[]),(.l 137 136,[]),(.u 138 .add 23 137 1,[]),(.f 139 7 16,[]),(.l 140 139,[]),(.c 141 .lss 23 138 140,[])]) (.cond (.t 141) (.seq (.draw [(.m 142 9,[]),(.N 143 142,[]),(.f 144 3 143,[]),(.l 145 144,[]),(.f 146 1 16,[]),(.l 147 146,[]),(.I 148 1 145 147,[]),(.l 149 148,[]),(.u 150 .add 23 149 1,[]),(.I 151 1 145 147,[]),(.S 1 151 150,[])]) (.q [.F 13] (.ops [.m 152 12,.m 153 14,.I 154 1 152 153,.l 155 154,.b 156 .sub 3 155 1,.m 14 156]))) .skip))) (.q [.m 91 9,.m 92 14,.W 93 88 91 92,.z 94 (.un .not (.t 93))] (.cond (.t 94) (.seq (.draw [(.m 95 9,[]),(.N 96 95,[]),(.f 97 5 96,[]),(.l 98 97,[]),(.e 4,[]),(.m 5 98,[]),(.K 6 11,[])]) .ret) .skip)))))))))) (.ops [.m 82 14,.b 83 .add 3 82 1,.m 14 83])))))) (.seq (.draw [(.m 157 9,[]),(.N 158 157,[]),(.f 159 4 158,[]),(.l 160 159,[]),(.m 161 9,[]),(.N 162 161,[]),(.f 163 5 162,[]),(.l 164 163,[]),(.m 4 160,[]),(.m 5 164,[]),(.K 6 0,[])]) .ret)))))))))))
def r_ref12_Run:Na Tryz.prog 29=some ⟨165,zkr.r,[.tmp 4,.tmp 5,.tmp 6]⟩:=Aa
def MsH.push_ev{G:M0}{x pb kb:Nat}{b:Nat}{regs:Int}{bs:List Bf}{os:List Lo}{L:LV}{s:Ms}{K:LV→M0→Prop}{tmp:LObj}{G':M0}{i pl:Int}(hG:G'=G++[tmp])(hm:MsH G x j pb kb vg b regs bs os L s)(gC:s.l.length≤1000000000)
  (k:∀(L':LV) (G5:M0),L'.cells=some [L']→(∀q,q<b→G5[q]?=G[q]?)→(∀(gg:Nat),MsH (G5.set x (.cells [.i regs,.lst (P8 bs) bs.length 3,.lst (Pm os) os.length 8,.dy j 0,.dy pb kb,L'] gg)) x j pb kb vg b regs bs os L' ⟨s.i,s.first,s.r,s.bufs,s.l++[(i,pl)]⟩)→K L' G5):Pf G' 2 L 1 [.i i,.i pl] K:=by
 subst hG;obtain⟨l1,l2,l3,l4,l5,l6⟩:=hm.lt;have gE:=hm.bG;refine Oo.push2 (x:=[.i i,.i pl]) hm.ev.push_end J Ab gC rfl rfl λL' G5 gz gD gA gF=>?_
 have keep:∀{q:Nat},q<b→G5[q]?=G[q]?:=λ{q} hq=>by
  rw[gD q Ab (λe=>D9),M6 J]
 refine k L' G5 gz.cells (λq hq=>keep hq) λgg=>?_
 have gB:x<G5.length:=by simp at gA;omega
 have ne:∀{q:Nat} {ob:LObj},q≠x→(G5.set x ob)[q]?=G5[q]?:=λhq=>Hx (Ne.symm hq)
 refine⟨⟨gg,H0 gB⟩,?_,?_,λgG hj=>?_,hm.bl,hm.lt,hm.qlt,hm.nd,?_,by rw[J1];simp at gA;omega⟩
 ·obtain⟨st,h⟩:=hm.rr;exact⟨st,by rw[ne (Ne.symm l4),keep l2];exact h⟩
 ·obtain⟨st,h⟩:=hm.bb;exact⟨st,by rw[ne (Ne.symm l5),keep l3];exact h⟩
 ·obtain⟨st,h⟩:=hm.row gG hj;have hq:=hm.qlt (vg.getD gG 0) F8;exact⟨st,by rw[ne hq.2.1,keep hq.1];exact h⟩
 ·show Oo b _ L' 2 (s.l++[(i,pl)]).length (Xd (s.l++[(i,pl)]));rw[zzt,H8];exact gz.set_lt l1
def MsH.ctl{G:M0}{x pb kb:Nat}{b:Nat}{regs:Int}{bs:List Bf}{os:List Lo}{L:LV}{s:Ms}(h:MsH G x j pb kb vg b regs bs os L s){i:Nat}{f:Bool}:MsH G x j pb kb vg b regs bs os L ⟨i,f,s.r,s.bufs,s.l⟩:=⟨h.xc,h.rr,h.bb,h.row,h.bl,h.lt,h.qlt,h.nd,h.ev,h.bG⟩
def zo7{C:M0}:∀(g:List Nat) (j:List (List UInt64)),j.length=g.length→(∀z,z<g.length→∃st,C[g.getD z 0]?=some (.dyn ((j.getD z []).map .u) (j.getD z []).length 1 0 st))→bors C (g.map λq=>.dy q 0) (j.map LU)
 |[],j,h,_=>by
  have:j=[]:=In h;subst this;simp
 |q::g,[],h,_=>Bq
 |q::g,x::j,h,A=>by
  obtain⟨st,B⟩:=A 0 N;simp only[List.getD_cons_zero]at B;rw[Kn,Kn];refine⟨_,_,rfl,⟨_,_,_,st,rfl,B,N⟩,zo7 g j At λz D=>?_⟩;have:=A (z+1) Ab;simpa only[List.getD_cons_succ] using this
def W0(n:Nat):O6 [.u 0] n=(List.replicate n (0:UInt64)).map LV.u:=by
 induction n with
 |zero=>rfl
 |succ n g=>rw[O6,g,Ku];rfl
def ou(x:List UInt64)(n:Nat)(h:x.length≤n):Oa ((List.replicate n (0:UInt64)).map LV.u) 0 ((x.map LV.u).take (min x.length n))=(x++List.replicate (n-x.length) 0).map LV.u:=by
 rw[Ki h,Ij N,zmd,Le]
 congr 1
 simp
def zc2{bs:List Bf}{os:List Lo}{X:List (List UInt64)}{es:List Int}{s':Ms}(hc:(Qw z bs os).2=0)(hb:Vn Qj 0 os)(AA:Vi [] 0 os≤16777216)(hX:Xo bs X=true)(jQ:1≤bs.length)(jR:Vf 0 [] (List.replicate os.length 0) os=es)
  (hE:∀i o,os[i]?=some o→o.kind=17→0≤es.getD i 0∧∃p,os[(es.getD i 0).toNat]?=some p∧p.kind=16) (hT:g≤800000000) (j:Pa os es g (On z bs X)=some s') (zY:s'.i=os.length) :
  O2 29 [.agg (M8 z bs os),LN X] (.tup [LN s'.bufs,.lst (Xd s'.l) s'.l.length 2,.i 0]):=by
 obtain⟨zC,zZ,AB,AC,gX,jT⟩:=z7d hc;have jA:X.length=bs.length∧∀i,i<bs.length→((X.getD i []).length:Int)=if (Ng bs i).kind=3 then 0 else (Ng bs i).size:=by
  unfold Xo at hX;exact Kr hX
 obtain⟨jA,jU⟩:=jA;obtain⟨r,rfl⟩:=Hz zC;have zD:∀l:List (Int×Int),dats (Xd l)=true:=λl=>zec (f:=λe:Int×Int=>[.i e.1,.i e.2]) (λ_=>rfl) l
 refine Sa.mkS (by simp[LV.dat,dats,zD,LN,zys]) (Nb r_ref12_Run Aa (by simp) ?_);have AD:dats (M8 r bs os)=true:=zho _ _ _;have jV:¬(16777216:Int)<Vi [] 0 os:=J
 simp[zkr,M8];refine Nw (z46 r bs os) (bors_self _ Be) ?_;simp[hc];refine Nw (zl2 hc hb) (bors_self _ Be) ?_;simp[jV];refine Nw (zmp r bs os X J) (bors_self _ (by simp[dats,LV.dat,M8,Tn,Ug,zys])) ?_;simp[hX];refine⟨J,?_⟩;refine Po (λρ Ag gC N=>∃(i:Nat) (B:List Nat) (v:LV),Ag=[]∧N+i=bs.length∧B.length=i∧lk ρ 1=LN X∧lk ρ 2=.ptr 0 0∧lk ρ 9=.ptr 2 0∧lk ρ 10=.i i∧gC[0]?=some (.cells (M8 r bs os) 0)∧(∃st,gC[1]?=some (.dyn ((List.replicate r (0:UInt64)).map .u) r 1 0 st))∧(∃st,gC[2]?=some (.cells [.i r,.lst (P8 bs) bs.length 3,.lst (Pm os) os.length 8,.dy 1 0,v,.nilSl] st))∧3≤gC.length ∧
   ((i=0∧v=.nilSl)∨∃O st,v=.dy O (i-1)∧3≤O∧O ∉ B∧1≤i∧gC[O]?=some (.dyn (B.map λq=>.dy q 0) i 1 (i-1) st))∧(∀q∈B,3≤q)∧B.Nodup∧∀V,V<i→∃st,gC[B.getD V 0]?=some (.dyn ((T9 (Ng bs V) (X.getD V [])).map .u) (T9 (Ng bs V) (X.getD V [])).length 1 0 st)) (N:=bs.length)
  ⟨0,[],.nilSl,rfl,J,rfl,by simp,by simp,by simp,by simp,By,⟨0,by simp[W0]⟩,⟨0,by simp⟩,by simp,.inl ⟨rfl,rfl⟩,by simp,by simp,λV h=>J⟩ ?_
 rintro N ρ Ag gC ⟨i,B,v,rfl,hN,Z,h1,M,H,gI,A,⟨s1,gK⟩,⟨s2,gQ⟩,AE,hv,gR,jX,gB⟩ Nx I;have gL:lk ρ 1=.lst (X.map LU) X.length 1:=h1;by_cases jP:i<bs.length
 ·have q0:=zgn (Sk jP);have gx:i<X.length:=J
  obtain⟨x,hx⟩:∃x,X.getD i []=x:=⟨_,rfl⟩;have zE:X[i]=x:=by rw[←hx];simp[gx]
  have hm:Ng bs i∈bs:=Iq (Sk jP);obtain⟨b1,b2⟩:=gX _ hm;have jY:=jU i jP;rw[hx]at jY;obtain⟨n,hn⟩:=Hz (J:0≤(Ng bs i).size);have zG:x.length≤n:=by split at jY<;>omega
  have jZ:T9 (Ng bs i) (X.getD i [])=x++List.replicate (n-x.length) 0:=by unfold T9;rw[hx,hn];rfl
  have gY:(x++List.replicate (n-x.length) (0:UInt64)).length=n:=Ab
  have l0:0<gC.length:=J
  have l2:2<gC.length:=J
  have p0:∀y:List LObj,(gC++y)[0]?=_:=λy=>(M6 l0).trans A
  have p2:∀y:List LObj,(gC++y)[2]?=_:=λy=>(M6 l2).trans gQ
  have j0:=ou x n zG;simp only[List.map_replicate]at j0;have AF:n≤65536:=J
  simp[gL,M,H,gI,A,M8,jP,gx,Nh q0,hn,zE,W0,j0,↓p2];refine⟨J,?_⟩;have j1:∀q∈B,q<gC.length:=λq hq=>by
   obtain⟨V,hj,rfl⟩:=Kb.1 hq;obtain⟨st,h⟩:=gB V J;have h:=(Hu.1 h).1;simpa [Hy,hj] using h
  have zH:∀V,V<i→(B++[gC.length]).getD V 0=B.getD V 0:=λV hj=>by simp[Hy,Ie (J:V<B.length)]
  have zI:(B++[gC.length]).getD i 0=gC.length:=by
   rw[Hy,Il J,(J:i-B.length=0)];rfl
  have j4:(B++[gC.length]).Nodup:=by
   rw[List.nodup_append];exact⟨jX,by simp,λa ha b hb=>by simp at hb;rw[hb];have:=j1 a ha;omega⟩
  rcases hv with ⟨rfl,rfl⟩|⟨O,jB,rfl,gD,gT,zK,gE⟩
  ·have zL:B=[]:=In Z;subst zL;simp[H,↓p2,gI];refine I _ _ _ ⟨N-1,J,1,[gC.length],.dy (gC.length+2) 0,rfl,J,rfl,by simp[gL],A9,Bg,by simp,?_,⟨s1,?_⟩,⟨s2+1,?_⟩,by simp,.inr ⟨gC.length+2,0,rfl,J,by simp,J,?_⟩,Ab,by simp,λV hj=>⟨1,?_⟩⟩
   ·rw[Hx J];exact p0 _
   ·rw[Hx J,M6 J];exact gK
   ·exact H0 (by simp)
   ·rw[Hx J,Il J,(J:gC.length+2-gC.length=2)];rfl
   ·have zM:V=0:=J
    subst zM;rw[jZ];rw[Hx Ab];simp only[List.getD_cons_zero];rw[Il J,Ml,gY];simp
  ·have lp:O<gC.length:=(Hu.1 gE).1;have pp:∀y:List LObj,(gC++y)[O]?=_:=λy=>(M6 lp).trans gE
   have zO:∀(y:List LObj) (ob:LObj),((gC++y).set O ob)[2]?=_:=λy ob=>(Hx J).trans (p2 y)
   simp[H,↓pp,↓zO,gI]
   repeat (refine⟨J,?_⟩)
   refine I _ _ _ ⟨N-1,J,i+1,B++[gC.length],.dy O i,rfl,J,Ee,by simp[gL],A9,Bg,by simp,?_,⟨s1,?_⟩,⟨s2+1,?_⟩,Ab,.inr ⟨O,jB+1,rfl,gD,by simp[gT];omega,J,?_⟩,λq hq=>?_,j4,λV hj=>?_⟩
   ·rw[Hx J,Hx J];exact p0 _
   ·rw[Hx J,Hx J,M6 J];exact gK
   ·rw[H0 Ab,(J:i-1+1=i)]
   ·rw[Hx J,H0 Ab,(J:i-1+1=i)];simp
   ·rcases Ip.1 hq with hq|hq
    ·exact gR q hq
    ·simp at hq;omega
   ·by_cases e:V=i
    ·subst e;rw[zI,jZ,gY];refine⟨1,?_⟩;rw[Hx J,Hx J,Il J,Ml];simp
    ·obtain⟨st,h⟩:=gB V J;refine⟨st,?_⟩;have jC:B.getD V 0∈B:=by simp[Hy,(J:V<B.length)]
     have:=gR _ jC;rw[zH V J,Hx J,Hx (λe=>gT (by rw[e];exact jC)),M6 (j1 _ jC)];exact h
 have hi:i=bs.length:=J
 subst hi;rcases hv with ⟨e,_⟩|⟨O,jB,rfl,gD,gT,zK,gE⟩
 ·omega
 have ge:¬bs.length<bs.length:=J
 have j5:MsH gC 2 1 O (bs.length-1) B gC.length r bs os .nilSl (On r bs X):=by
  have l1:=(Hu.1 gK).1;have l2:=(Hu.1 gQ).1;have lp:=(Hu.1 gE).1;refine⟨⟨s2,gQ⟩,⟨s1,by simpa [On] using gK⟩,⟨jB,by rw[Z];exact gE⟩,λV hj=>?_,by simp[On,mf,Z],⟨l2,l1,lp,J,J,J⟩,λq hq=>?_,jX,Oo.nil,H9 _⟩
  ·obtain⟨st,h⟩:=gB V J;refine⟨st,?_⟩;have zP:(On r bs X).bufs.getD V []=T9 (Ng bs V) (X.getD V []):=by simp[On,R9,Hy,(J:V<bs.length)]
   rw[zP];exact h
  ·obtain⟨V,hj,rfl⟩:=Kb.1 hq;obtain⟨st,h⟩:=gB V J;have h:=(Hu.1 h).1;have:=gR _ hq;exact⟨by simpa [Hy,hj] using h,J,J,λe=>gT (by rw[←e];exact hq)⟩
 have gZ:∀x∈(On r bs X).bufs,x.length≤65536:=λx hx=>by
  simp only[On,R9,Mn,J9]at hx;obtain⟨V,hj,rfl⟩:=hx;have hm:Ng bs V∈bs:=Iq (Sk hj);obtain⟨b1,b2⟩:=gX _ hm;have:=jU V hj;unfold T9;rw[H8,List.length_replicate];split at this<;>omega
 simp[gL,M,H,gI,jA,A,M8];refine R0 (zne hc hb) Er ?_;rw[jR];have Aj:B.length=bs.length:=Z;generalize AG:gC.length=b at *;simp;refine Po (λρ Ag G' N=>∃(s:Ms) (zB:LV),Ag=[]∧Pa os es N s=some s'∧lk ρ 2=.ptr 0 0∧lk ρ 9=.ptr 2 0∧lk ρ 12=.lst (es.map .i) os.length 1∧lk ρ 13=.bool s.first∧lk ρ 14=.i s.i∧G'[0]?=some (.cells (M8 r bs os) 0)∧MsH G' 2 1 O (bs.length-1) B b r bs os zB s∧s.l.length+N≤g∧s.i≤os.length∧s.r.length=r∧∀x∈s.bufs,x.length≤65536) (N:=g)
  ⟨On r bs X,.nilSl,rfl,j,A9,Bg,by simp,Dp,Dp,A,j5,Dp,Dp,Dp,gZ⟩ ?_
 clear j j5 h1 gL M H gI A gK gQ gE I Nx gZ;rintro N ρ Ag P ⟨s,zB,rfl,j,M,H,gg,Q,K,A,Y,AH,AI,gF,gG⟩ Nx I;by_cases jP:s.i<os.length
 case neg =>
  have zQ:=zu8 (os:=os) (es:=es) (s:=s) (Kz J) N;rw[zQ]at j;have jD:s=s':=Option.some.inj j;subst jD;obtain⟨t1,D⟩:=Y.xc;obtain⟨t2,jQ⟩:=Y.bb;simp[M,H,K,A,M8,jP,D];intro c a hs ha;have Az:s.bufs.length=bs.length:=by rw[Y.bl,Z]
  have h:=vj hs jQ (zo7 B s.bufs Y.bl Y.row) Y.ev.bor (by simp) ha;rw[←Y.bl]at h;exact h
 have ho:=zh3 jP;have gM:=zcl ho;have gO:=yj jP;have jE:=jT _ (Iq ho);generalize dh os s.i=o at *;cases N with
 |zero =>
  have jD:s=s':=Option.some.inj j;subst jD;omega
 |succ N =>
 have hC:o.f=[.i o.kind,.i o.d,.i o.e,.i o.a,.i o.b,.i o.c,.i o.buf,.u o.imm]:=rfl;change (match Rd os es s with|none=>none|some s'=>Pa os es N s')=some s' at j;have l0:0<P.length:=by have:=Y.bG;omega
 have p0:∀y:List LObj,(P++y)[0]?=_:=λy=>(M6 l0).trans A
 have L:(P++[LObj.cells o.f 1])[P.length]?=some (.cells o.f 1):=Im;have E:MsH (P++[LObj.cells o.f 1]) 2 1 O (bs.length-1) B b r bs os zB s:=Y.keep (λq hq=>M6 hq) (by simp);have gz:=p0 [.cells o.f 1];have AK:b≤P.length:=Y.bG;have z0:∀(y:List LObj) (h:0<(P++y).length),(P++y)[0]=.cells (M8 r bs os) 0:=λy h=>Option.some.inj ((H6 h).symm.trans (p0 y))
 have p1:∃st,∀y:List LObj,(P++y)[1]?=some (.dyn (s.r.map .u) s.r.length 1 0 st):=by
  obtain⟨st,h⟩:=Y.rr;exact⟨st,λy=>(M6 (Hu.1 h).1).trans h⟩
 have p2:∃st,∀y:List LObj,(P++y)[2]?=some (.cells [.i r,.lst (P8 bs) bs.length 3,.lst (Pm os) os.length 8,.dy 1 0,.dy O (bs.length-1),zB] st):=by
  obtain⟨st,h⟩:=Y.xc;exact⟨st,λy=>(M6 (Hu.1 h).1).trans h⟩
 obtain⟨t1,p1⟩:=p1;obtain⟨t2,p2⟩:=p2;obtain⟨rd,re,ra,rb,rc,rm⟩:=zj7 jE;by_cases F:o.kind=16
 ·have R:Rd os es s=some ⟨s.i+1,true,if s.first then Nc s.r o.d 0 else s.r,s.bufs,s.l++[((s.i:Int),(-1:Int))]⟩:=by
   unfold Rd;rw[ho];dsimp only;rw[H7 F]
  rw[R]at j;dsimp only at j;obtain⟨d0,dr⟩:=(z2y jE).2.2 F;obtain⟨dn,C⟩:=Hz d0;have gA:dn<s.r.length:=J
  have j6:=Y.lt;have AL:∀(G7:M0) (s2:Ms),MsH G7 2 1 O (bs.length-1) B b r bs os zB s2→G7[0]?=some (.cells (M8 r bs os) 0)→s2.l=s.l→s2.i=s.i→(⟨s2.i+1,true,s2.r,s2.bufs,s2.l++[((s.i:Int),(-1:Int))]⟩:Ms)=⟨s.i+1,true,if s.first then Nc s.r o.d 0 else s.r,s.bufs,s.l++[((s.i:Int),(-1:Int))]⟩→True:=λ_ _ _ _ _ _ _=>trivial
  cases hf:s.first with
  |true =>
   rw[hf]at j Q;rw[H7 rfl]at j;obtain⟨t2,jF⟩:=E.rr;obtain⟨t1,D⟩:=E.xc;have e1:Oa (s.r.map LV.u) dn [.u 0]=(Nc s.r o.d 0).map LV.u:=by
    rw[zws (by simpa using gA),Nc,H7 d0,C,Jj];rfl
   have gH:=E.putr (i:=o.d) (v:=0) (st:=t2+1);rw[hC]at D jF E gH gz L;have j7:∀ob:LObj,((P++[LObj.cells [.i o.kind,.i o.d,.i o.e,.i o.a,.i o.b,.i o.c,.i o.buf,.u o.imm] 1]).set 1 ob)[0]?=some (.cells (M8 r bs os) 0):=λob=>(Hx J).trans gz
   rw[F,C]at D jF L j7 gH;simp[M,H,Q,K,A,M8,jP,gM,gO,hC,F,C,L,D,jF,gA,e1];refine⟨J,MsH.push_ev rfl gH (by show s.l.length≤_;omega) λL' G5 jG gP gU=>?_⟩;obtain⟨t3,zR⟩:=gH.xc;have jH:G5[2]?=_:=(gP 2 J).trans zR;simp[-LV.cells,jG,jH,K];have jI:G5[0]?=some (.cells (M8 r bs os) 0):=(gP 0 J).trans (j7 _);rw[←C]at gU;refine⟨J,I _ _ _ ⟨N,J,_,L',rfl,j,A9,Bg,B6,by simp,by simp,?_,(gU (t3+1)).ctl,Ab,Gm,by show (Nc s.r o.d 0).length=_;rw[zfm];exact gF,gG⟩⟩;rw[Hx J];exact jI
  |false =>
   rw[hf]at j Q;rw[Hv Ac]at j;obtain⟨t1,D⟩:=E.xc;rw[hC]at D E gz L;rw[F]at D L E gz;simp[M,H,Q,K,A,M8,jP,gM,gO,hC,F,L,D];refine MsH.push_ev (by rw[Jg];rfl) E J λL' G5 jG gP gU=>?_
   have jH:G5[2]?=_:=(gP 2 J).trans D;simp[-LV.cells,jG,jH,K];have jI:G5[0]?=some (.cells (M8 r bs os) 0):=(gP 0 J).trans gz;refine⟨J,I _ _ _ ⟨N,J,_,L',rfl,j,A9,Bg,B6,by simp,by simp,?_,(gU (t1+1)).ctl,Ab,Gm,gF,gG⟩⟩;rw[Hx J];exact jI
 by_cases G:o.kind=17
 ·obtain⟨c0,p,hp,zT⟩:=hE s.i o ho G;obtain⟨kn,jK⟩:=Hz c0;have j8:s.i<es.length:=by rw[←jR,endsR_len];simpa using jP
  have g9:(es.map LV.i)[s.i]?=some (.i (kn:Int)):=by
   rw[←jK];simp[Hy,j8]
  rw[jK]at hp;rw[Is]at hp;have zU:=jT _ (Iq hp);have j9:=zcl hp;have jL:kn<os.length:=(Hu.1 hp).1;have jg:=yj jL;obtain⟨d0,dr⟩:=(z2y zU).2.2 zT;obtain⟨dn,C⟩:=Hz d0;have gA:dn<s.r.length:=J
  have R:Rd os es s=if atR s.r p.d+1<p.imm then some ⟨kn,false,Nc s.r p.d (atR s.r p.d+1),s.bufs,s.l⟩ else some ⟨s.i+1,s.first,s.r,s.bufs,s.l⟩:=by
   unfold Rd;rw[ho];dsimp only;rw[Hv F,H7 G,jK,Is,hp]
  have zV:atR s.r p.d=s.r.getD dn 0:=by unfold atR;rw[Hv J,C];rfl
  have zg:s.r[dn]=atR s.r p.d:=by rw[zV];simp[Hy,gA]
  generalize atR s.r p.d=xv at *;rw[R]at j;have j6:=Y.lt;have gV:p.f=[.i p.kind,.i p.d,.i p.e,.i p.a,.i p.b,.i p.c,.i p.buf,.u p.imm]:=rfl;have AM:0<P.length:=l0;have jM:MsH (P++[LObj.cells o.f 1,LObj.cells p.f 1]) 2 1 O (bs.length-1) B b r bs os zB s:=Y.keep (λq hq=>M6 hq) (by simp);have gD:=p0 [.cells o.f 1,.cells p.f 1];have jO:(P++[LObj.cells o.f 1,LObj.cells p.f 1])[P.length+1]?=some (.cells p.f 1):=by
   rw[Il J,(J:P.length+1-P.length=1)];rfl
  have e1:Oa (s.r.map LV.u) dn [.u (xv+1)]=(Nc s.r p.d (xv+1)).map LV.u:=by
   rw[zws (by simpa using gA),Nc,H7 d0,C,Jj];rfl
  have zj:=jM.putr (i:=p.d) (v:=xv+1) (st:=t1+1);rw[hC,gV,G,C]at jM gD zj;rw[gV,hC,G,C]at jO;rw[hC,G]at L;rw[C]at e1 j;have jz:p.imm≤xv+1↔¬xv+1<p.imm:=by simp
  by_cases T:xv+1<p.imm
  ·rw[H7 T]at j;simp[M,H,gg,Q,K,A,M8,jP,gM,gO,hC,G,L,↓p0,↓p1,↓p2,z0,Nh g9,jL,j9,jg,gV,jO,C,gA,zg,jz,T,e1,Uz]
   repeat (refine⟨J,?_⟩)
   refine I _ _ _ ⟨N,J,_,zB,rfl,j,A9,Bg,B6,by simp,by simp,?_,?_,by show s.l.length+N≤g;omega,by show kn≤_;omega,by show (Nc s.r (dn:Int) (xv+1)).length=_;rw[zfm];exact gF,gG⟩
   ·rw[Hx J];exact gD
   ·exact zj.ctl
  ·rw[Hv T]at j;simp[M,H,gg,Q,K,A,M8,jP,gM,gO,hC,G,L,↓p0,↓p1,↓p2,z0,Nh g9,jL,j9,jg,gV,jO,C,gA,zg,jz,T,e1,Uz]
   repeat (refine⟨J,?_⟩)
   exact I _ _ _ ⟨N,J,_,zB,rfl,j,A9,Bg,B6,Cp,by simp,gD,jM.ctl,by show s.l.length+N≤g;omega,Gm,gF,gG⟩
 have R:Rd os es s=U6 o s:=by
  unfold Rd;rw[ho];dsimp only;rw[Hv F,Hv G]
 rw[R]at j;simp[M,H,K,A,M8,jP,gM,gO,hC,F,G];rw[hC]at E gz;cases hd:U6 o s with
 |none=>rw[hd]at j;cases j
 |some s1 =>
 rw[hd]at j;dsimp only at j;have U:=vy hd;refine do_any E ho jE F G (by rw[gF]) (by rw[Z]) J gG (λe=>by rw[hd]at e;cases e) λs2 G6 L2 e gH zz=>?_
 rw[hd]at e;obtain rfl:=Option.some.inj e;have zX:G6[0]?=some (.cells (M8 r bs os) 0):=by
  have T:=Y.lt;rw[zz 0 J J J (λe=>by have:=gR 0 e;omega)];exact gz
 have zA:∀x∈s1.bufs,x.length≤65536:=λx hx=>by
  have h1:x.length∈s1.bufs.map List.length:=List.mem_map_of_mem hx;rw[U.b]at h1;obtain⟨y,hy,e⟩:=Mn.1 h1;rw[←e];exact gG y hy
 have e1:=U.i;have e2:=U.l;simp[K];refine⟨J,I _ _ _ ⟨N,J,s1,L2,rfl,j,A9,Bg,B6,by simp[Q,U.f],by simp[e1],zX,gH,J,J,by rw[U.r];exact gF,zA⟩⟩
def js{f:Fr Lo}{bs:List Bf}{F:List (List UInt64)}{V:Fs→Prop}(B:(Qw ((64:Nat):Int) bs f.flat).2=0)(g:f.wf Qj)(j:f.regs bs.length []=true)(G:f.stp≤16777216)(H:Xo bs F=true)(C:1≤bs.length)
  (I:Tx (Uy (On 64 bs F)) f (Q0 (On 64 bs F)) V):∃z t,Rep bs.length (Uy (On 64 bs F)) z t∧V t∧O2 29 [.agg (M8 ((64:Nat):Int) bs f.flat),LN F] (.tup [LN z.bufs,.lst (Xd z.l) z.l.length 2,.i 0]):=by
 obtain⟨X,z,t,K,L,M,O,P,_⟩:=Z4 g j (by have:=costZ_le f;omega) I;have A:Vn Qj 0 f.flat:=by
  have h:=zts (f:=f) (d:=0) (rest:=[]) g (by unfold Vn;rfl)
  rwa [Ji]at h
 have D:Vi [] 0 f.flat≤16777216:=by rw[zvd g j J];omega
 have E:Vf 0 [] (List.replicate f.flat.length 0) f.flat=f.ends 0:=by rw[Fr.flat_len];exact zm0 g
 refine⟨z,t,O,P,zc2 B A D H C E (λi o ho Q=>?_) K L M⟩;obtain⟨k,p,R,T,U⟩:=ends_at f 0 i o g ho Q;rw[Hy,R];exact⟨N,p,Fw,U⟩
def i6{f:Fr Lo}{bs:List Bf}{X:List (List UInt64)}{gz:Fs→Prop}{c:Cf}(U:CfOk c)(L:c.nb=bs.length)(g:f.AllH c 0)(F:(Qw ((64:Nat):Int) bs f.flat).2=0)(V:f.stp≤16777216)
  (hX:Xo bs X=true) (G:1≤bs.length) (hx:Tx (Uy (On 64 bs X)) f (Q0 (On 64 bs X)) gz) :
  ∃(z:Ms) (t:Fs),Rep bs.length (Uy (On 64 bs X)) z t∧gz t∧(∀b,¬c.S b→z.bufs.getD b []=(On 64 bs X).bufs.getD b [])∧z.bufs.length=bs.length∧z.l.length≤800000000 ∧
   O2 29 [.agg (M8 ((64:Nat):Int) bs f.flat),LN X] (.tup [LN z.bufs,.lst (Xd z.l) z.l.length 2,.i 0]) ∧
   ∀Y:List (List UInt64),Xo bs Y=true→(∀i,i<bs.length→(X.getD i []).length=(Y.getD i []).length)→∃A:Ms,A.bufs.length=bs.length∧z.l=A.l∧O2 29 [.agg (M8 ((64:Nat):Int) bs f.flat),LN Y] (.tup [LN A.bufs,.lst (Xd A.l) A.l.length 2,.i 0]):=by
 have j:=allH_wf g;have B:f.regs bs.length []=true:=L ▸ zbu U N g;have E:f.costZ≤800000000:=by have:=costZ_le f;omega
 obtain⟨gA,Z,t,h1,M,h3,h4,h5,h6⟩:=Z4 j B E hx;have C:Vn Qj 0 f.flat:=by
  have h:=zts (f:=f) (d:=0) (rest:=[]) j (by unfold Vn;rfl)
  rwa [Ji]at h
 have H:Vi [] 0 f.flat≤16777216:=by rw[zvd j B J];omega
 have I:Vf 0 [] (List.replicate f.flat.length 0) f.flat=f.ends 0:=by rw[Fr.flat_len];exact zm0 j
 have D:∀(i:Nat) (o:Lo),f.flat[i]?=some o→o.kind=17→0≤(f.ends 0).getD i 0∧∃p,f.flat[((f.ends 0).getD i 0).toNat]?=some p∧p.kind=16:=λi o ho K=>by
  obtain⟨k,p,e1,e2,e3⟩:=ends_at f 0 i o j ho K;rw[Hy,e1];exact⟨N,p,by simpa using e2,e3⟩
 have gg:∀gB:List (List UInt64),(On 64 bs gB).bufs.length=bs.length:=λgB=>by simp[On,R9]
 have no:∀b,¬c.S b→∀o∈f.flat,¬(o.kind=15∧o.buf.toNat=b):=λb O o ho K=>O (K.2 ▸ (allH_flat g o ho).sto K.1)
 have P:Z.bufs.length=bs.length:=by
  have h:=h4.bl;exact h
 refine⟨Z,t,h4,h5,λb O=>(zvr (no b O) gA _ _ M).1,P,J,zc2 F C H hX G I D h1 M h3,λY hY Q=>?_⟩;obtain⟨A,k1,R⟩:=Lock.run_some (zzn j) (λo ho=>(allH_flat g o ho).low U) gA _ _ _ (zw2 (bs:=bs) (X:=X) (Y:=Y) Q) M;have T:A.bufs.length=bs.length:=by
  have:=congrArg List.length R.bufs;simp only[List.length_map]at this;omega
 exact⟨A,T,R.l,zc2 F C H hY G I D h1 k1 (by rw[←R.i];exact h3)⟩
section
structure PwV (vs:List Vr) (o:Ko) (d a b c:Nat):Prop where
 hk:o.kind=13
 hv:Sm vs=true
 ho:Pg vs o=true
 fd:o.d=d∧d<vs.length
 fa:o.a=a∧a<vs.length
 fb:o.b=b∧b<vs.length
 fc:o.c=c∧c<vs.length
 e:o.e=-1
 la:(gv vs a).limbs=(gv vs d).limbs
 lc:(gv vs c).limbs=(gv vs d).limbs
 w:1≤o.imm.toNat∧o.imm.toNat≤6
 md:Sc (gv vs d)=false
 sec:(gv vs d).sec=false→(gv vs a).sec=false∧(gv vs b).sec=false∧(gv vs c).sec=false
def pwV{vs:List Vr}{o:Ko}(D:o.kind=13)(hv:Sm vs=true)(ho:Pg vs o=true):∃d a b c,PwV vs o d a b c:=by
 obtain⟨B,C,z⟩:=zrb (s:=29) ho (by simp[Rh,D]);obtain⟨d,hd⟩:=Hz (zsr B Ac).1;obtain⟨a,F⟩:=Hz (zs2 B Ac).1;obtain⟨b,K⟩:=Hz (zjf B Ac).1;obtain⟨c,G⟩:=Hz (zk5 B Ac).1;have R:=(zsr B Ac).2;have T:=(zs2 B Ac).2;have U:=(zjf B Ac).2;have V:=(zk5 B Ac).2;have he:o.e=-1:=by
  simp only[Uu,Hw]at B;exact zk8 B.2.1 Ac
 have z:∀v∈[o.d,o.a,o.c],Rq vs v=Rq vs o.d:=by
  have:Rx o=[o.d,o.a,o.c]:=by simp[Rx,D]
  unfold sm at z;rw[this]at z;intro v hv;simpa using Jx.1 z v hv
 have H:=z o.a N;have I:=z o.c N;simp only[Rq]at H I;rw[F,hd]at H;rw[G,hd]at I;simp only[Is]at H I;have E:1≤o.imm.toNat∧o.imm.toNat≤6:=by
  simp only[Ss,D]at C;have h:1≤o.imm∧o.imm≤6:=Ci
  rw[Je,Je]at h;exact h
 have j:V8 vs (Rg vs o) o.d=true:=by
  unfold Pg at ho;rw[Hv J]at ho;rw[show Rh o.kind=some 29 by simp[Rh,D]]at ho;simp only[Hw]at ho;exact ho.2.2.1
 unfold V8 at j;rw[hd]at j;simp only[Is,Jb,Ib,Jd,Bool.or_eq_false_iff,L8,Bool.not_eq_false']at j;have A:=j.resolve_left J;refine⟨d,a,b,c,D,hv,ho,⟨hd,J⟩,⟨F,J⟩,⟨K,J⟩,⟨G,J⟩,he,H,I,E,A.1,λQ=>?_⟩;have g:Rg vs o=false:=by
  rcases A.2 with h|h
  ·exact h
  ·rw[Q]at h;cases h
 unfold Rg at g;rw[Li]at g;have L:T8 o=[o.a,o.b,o.c]:=by
  unfold T8;rw[Hv J,F,K,G];simp
 rw[L,F,K,G]at g;have M:=g a N;have O:=g b N;have P:=g c N;simp only[Is,Bool.not_eq_true]at M O P;exact⟨M,O,P⟩
def lpsL_len':∀(n:Nat) (i:Int),(Pv n i).length=n
 |0,_=>rfl
 |n+1,i=>by rw[Pv,Ig,lpsL_len']
section pl
variable {vs : List Vr} {o : Ko} {d a b c : Nat}
def zuv(h:PwV vs o d a b c):Ol vs o=(4*(gv vs d).limbs+(gv vs b).limbs+3)+(gv vs d).limbs*((2^o.imm.toNat:Nat):Int):=by
 unfold Ol;have hm:Tp vs o=true:=by rw[jb,h.hv,h.ho];simp[zx,h.hk]
 rw[H7 (by rw[hm];simp[h.hk])];have g:Rq vs o.c=(gv vs d).limbs:=by unfold Rq;rw[h.fc.1,Is,h.lc]
 have j:Rq vs o.b=(gv vs b).limbs:=by unfold Rq;rw[h.fb.1,Is]
 rw[g,j]
 push_cast
 generalize (2:Int)^o.imm.toNat=x;generalize (gv vs d).limbs=y
 grind
def Ok(vs:List Vr)(o:Ko):Pw:=Sl vs o (Uo vs) ⟨vs.length,0,Ol vs o⟩ ⟨(vs.length:Int)+1,0,Ol vs o⟩
def S9(vs:List Vr)(d:Nat):Nat:=if (gv vs d).sec=true then vs.length+1 else vs.length
def pub_d(h:PwV vs o d a b c):Tt vs o.d=!(gv vs d).sec:=by
 unfold Tt;rw[h.fd.1];have:=h.fd.2;simp[this]
structure PwF (vs:List Vr) (o:Ko) (d a b c:Nat) (p:Pw):Prop where
 pd:p.d=⟨d,0,(gv vs d).limbs.toNat⟩
 pa:p.a=⟨a,0,(gv vs d).limbs.toNat⟩
 pb:p.b=⟨b,0,(gv vs b).limbs.toNat⟩
 pn:p.n=⟨c,0,(gv vs d).limbs.toNat⟩
 wb:p.wb=S9 vs d
 wa:p.wa=0
 k:p.k=(gv vs d).limbs.toNat
 w:p.w=o.imm.toNat
 ti:p.times*p.w=64*p.b.k+p.over
 ov:p.over≤63∧p.over<p.w
 t4:p.times≤40000
 B:p.B=if (gv vs d).sec=true then 40 else 16
def pwF(h:PwV vs o d a b c):PwF vs o d a b c (Ok vs o):=by
 have K:=fj h.hv h.fb.2;have E:o.d.toNat=d:=by have:=h.fd.1;omega
 have F:o.a.toNat=a:=by have:=h.fa.1;omega
 have g:o.b.toNat=b:=by have:=h.fb.1;omega
 have C:o.c.toNat=c:=by have:=h.fc.1;omega
 have G:=zoy h.fd.2;have H:=zoy h.fa.2;have j:=zoy h.fb.2;have D:=zoy h.fc.2;have z:((gv vs b).limbs.toNat:Int)=(gv vs b).limbs:=J
 obtain⟨t,v,A,B,I,L,M,O⟩:=Yy (l:=(gv vs b).limbs.toNat) (w:=o.imm.toNat) J h.w;rw[z]at A B;refine⟨?_,?_,?_,?_,?_,?_,?_,rfl,?_,?_,?_,?_⟩
 ·show Nt _=_;rw[E,G];simp[Nt]
 ·show Nt _=_;rw[F,H];simp[Nt,h.la]
 ·show Nt _=_;rw[g,j];simp[Nt]
 ·show Nt _=_;rw[C,D];simp[Nt,h.lc]
 ·show (Ti vs o _ _).buf.toNat=_;unfold Ti S9;rw[pub_d h];cases (gv vs d).sec<;>simp<;>omega
 ·show (Ti vs o _ _).at_.toNat=_;unfold Ti;split<;>rfl
 ·show (Pz _ _).size.toNat=_;rw[C,D];simp[h.lc]
 ·show (Rp (Pz _ _).size _).toNat*o.imm.toNat=64*(Nt (Pz _ _)).k+(Rv (Pz _ _).size _).toNat;rw[g,j,A,B];simp only[Nt,Is];exact I
 ·show (Rv (Pz _ _).size _).toNat≤63∧(Rv (Pz _ _).size _).toNat<o.imm.toNat;rw[g,j,B];simp only[Is];omega
 ·show (Rp (Pz _ _).size _).toNat≤40000;rw[g,j,A];simp only[Is];omega
 ·show (se vs o).toNat=_;unfold se;rw[pub_d h];cases (gv vs d).sec<;>simp
def zig(h:PwV vs o d a b c):1≤Ol vs o∧Ol vs o≤40000∧Ol vs o=((4*(gv vs d).limbs.toNat+(gv vs b).limbs.toNat+3+(gv vs d).limbs.toNat*2^o.imm.toNat:Nat):Int):=by
 have hd:=fj h.hv h.fd.2;have A:=fj h.hv h.fb.2;have g:=ew h.w.2;have e:Ol vs o=((4*(gv vs d).limbs.toNat+(gv vs b).limbs.toNat+3+(gv vs d).limbs.toNat*2^o.imm.toNat:Nat):Int):=by
  rw[zuv h];obtain⟨x,j⟩:=Hz (J:0≤(gv vs d).limbs);obtain⟨y,z⟩:=Hz (J:0≤(gv vs b).limbs);rw[j,z];simp only[Is]
  push_cast;rfl
 have hm:(gv vs d).limbs.toNat*2^o.imm.toNat≤512*64:=Jw J g;rw[e];omega
structure PwL (vs:List Vr) (o:Ko):Prop where
 n:vs.length≤30
 m:∀i,i<vs.length→(gv vs i).mode=0
 w:Ol vs o≤32768
def wr(h:PwV vs o d a b c)(g:PwL vs o):Vj vs (Qg vs (Ol vs o)) (Uo vs) ⟨vs.length,0,Ol vs o⟩ ⟨(vs.length:Int)+1,0,Ol vs o⟩=true :=
 zw3 h.hv g.m g.n ⟨(zig h).1,g.w⟩
def pe{deep:Int}(h:PwV vs o d a b c)(g:PwL vs o)(hd:0≤deep∧deep≤4):gh vs o (Qg vs (Ol vs o)) (Uo vs) ⟨vs.length,0,Ol vs o⟩ ⟨(vs.length:Int)+1,0,Ol vs o⟩ deep (Ol vs o)=true:=by
 unfold gh;rw[wr h g];have hw:=zig h;have j:(Ti vs o ⟨vs.length,0,Ol vs o⟩ ⟨(vs.length:Int)+1,0,Ol vs o⟩).size=Ol vs o:=by unfold Ti;split<;>rfl
 rw[j];simp[hw.1,hd]
def wb_at:Ng (Qg vs (Ol vs o)) (S9 vs d)=⟨Ol vs o,2,(gv vs d).sec⟩:=by
 unfold S9;cases g:(gv vs d).sec with
 |true=>rw[H7 rfl,plB_w1]
 |false=>rw[Hv N,plB_w0]
def iq(vs:List Vr)(d:Nat):vs.length≤S9 vs d∧S9 vs d<vs.length+2:=by unfold S9;split<;>omega
def zyj{i:Nat}{n:Nat}(hv:Sm vs=true)(hi:i<vs.length)(g:(n:Int)=(gv vs i).limbs){W:Int}:Bp (Qg vs W) ⟨i,0,n⟩∧Bw (Qg vs W) ⟨i,0,n⟩:=by
 have j:=fj hv hi;refine⟨⟨by rw[plB_len];simp only;omega,?_,?_⟩,?_⟩
 ·simp only;rw[xq hi];simp only;omega
 ·simp only;rw[xq hi];simp only;omega
 ·unfold Bw;rw[xq hi];simp
def pl_G(h:PwV vs o d a b c):PwG (Qg vs (Ol vs o)) (Ok vs o):=by
 have f:=pwF h;have hd:=fj h.hv h.fd.2;have A:=fj h.hv h.fb.2;have j:=h.la;have z:=h.lc;have hw:=zig h;generalize Ok vs o=p at *;have g:((gv vs d).limbs.toNat:Int)=(gv vs d).limbs:=J
 refine⟨?_,?_,?_,?_,?_,?_,?_,?_,?_,?_,?_,?_,?_,?_,f.ov.1,?_⟩
 ·rw[f.B];split<;>omega
 ·rw[f.pd];exact (zyj h.hv h.fd.2 g).1
 ·rw[f.pd];exact (zyj h.hv h.fd.2 g).2
 ·rw[f.pa];exact (zyj h.hv h.fa.2 J).1
 ·rw[f.pb];exact (zyj h.hv h.fb.2 J).1
 ·rw[f.pn];exact (zyj h.hv h.fc.2 J).1
 ·rw[f.wb,plB_len];exact (iq vs d).2
 ·rw[f.wb,wb_at,f.wa,f.k,f.pb,f.w];simp only;rw[hw.2.2];omega
 ·rw[f.wb,wb_at];simp only;omega
 ·rw[f.wb,wb_at];simp
 ·rw[f.k];omega
 ·rw[f.pn];simp only;omega
 ·rw[f.w];exact h.w
 ·have:=f.t4;omega
 ·rw[f.pb];simp only;omega
def fk(vs:List Vr)(d a b c:Nat):Cf:=⟨vs.length+2,if (gv vs d).sec=true then 40 else 16,24,0,7,12,13,λx=>x=d∨x=a∨x=b∨x=c∨x=S9 vs d,λx=>x=d∨x=S9 vs d⟩
def cfP_ok:CfOk (fk vs d a b c):=by
 refine⟨?_,by simp[fk],by simp[fk]⟩;simp only[fk];split<;>omega
def pl_C(h:PwV vs o d a b c):PwC (fk vs d a b c) (Ok vs o):=by
 have f:=pwF h;have hd:=fj h.hv h.fd.2;have g:=fj h.hv h.fb.2;have j:=h.fd.2;have z:=h.fa.2;have A:=h.fb.2;have B:=h.fc.2;have hw:=iq vs d;generalize Ok vs o=p at *;refine⟨?_,by simp[fk],?_,?_,?_,?_,?_,?_,?_,?_,?_,?_,?_⟩
 ·rw[f.B];simp only[fk];split<;>omega
 ·rw[f.pd];exact⟨Dv,.inl rfl⟩
 ·rw[f.pa];exact⟨Dv,.inr (.inl rfl)⟩
 ·rw[f.pb];exact⟨Dv,.inr (.inr (.inl rfl))⟩
 ·rw[f.pn];exact⟨Dv,.inr (.inr (.inr (.inl rfl)))⟩
 ·rw[f.wb];exact .inr (.inr (.inr (.inr rfl)))
 ·rw[f.wb];exact .inr rfl
 ·rw[f.wb];simp only[fk];omega
 ·rw[f.k];omega
 ·rw[f.w];exact h.w.2
 ·have:=f.t4;omega
 ·rw[f.pb];simp only;omega
def zw7(g:List Bf)(X:List (List UInt64)):Prop:=X.length=g.length∧∀i,i<g.length→((X.getD i []).length:Int)=(Ng g i).size
def pl_S(h:PwV vs o d a b c){X:List (List UInt64)}(z:zw7 (Qg vs (Ol vs o)) X):PwS (Uy (On 64 (Qg vs (Ol vs o)) X)) (Ok vs o):=by
 have f:=pwF h;have g:=pl_G h;have hd:=fj h.hv h.fd.2;have A:=h.fd.2;have B:=h.fa.2;have C:=h.fb.2;have D:=h.fc.2;have hw:=iq vs d;have hi:∀q:Pn,Bp (Qg vs (Ol vs o)) q→q.in_ (Uy (On 64 (Qg vs (Ol vs o)) X)):=λq j=>iw (z.2 _ j.b) j
 generalize Ok vs o=p at *;refine⟨g.B,hi _ g.d,hi _ g.a,hi _ g.b,hi _ g.n,hi _ ⟨g.wb,?_,g.w6⟩,g.k.1,g.k.2,?_,?_,?_,?_,?_,?_,?_,?_,g.w,f.ov.1,f.ti⟩
 ·have:=g.wz;simp only[Pw.wk];omega
 ·rw[f.pd,f.k]
 ·rw[f.pa,f.k]
 ·rw[f.pn,f.k]
 ·rw[f.pd,f.wb];simp only;omega
 ·rw[f.pa,f.wb];simp only;omega
 ·rw[f.pb,f.wb];simp only;omega
 ·rw[f.pn,f.wb];simp only;omega
 ·rw[f.pd,f.pn];by_cases q:d=c
  ·exact .inr ⟨q,rfl⟩
  ·exact .inl (.inl q)
def zr6{X:List (List UInt64)}(g:zw7 (Qg vs (Ol vs o)) X):Xo (Qg vs (Ol vs o)) X=true:=by
 unfold Xo;refine Jp ⟨g.1,λi hi=>?_⟩;rw[g.2 i hi];have:(Ng (Qg vs (Ol vs o)) i).kind=2:=by
  rw[plB_len]at hi;by_cases q:i<vs.length
  ·rw[xq q]
  ·by_cases j:i=vs.length
   ·rw[j,plB_w0]
   ·rw[(J:i=vs.length+1),plB_w1]
 rw[this];simp
def zxx{deep:Nat}(h:PwV vs o d a b c)(T:PwL vs o)(hk:(gv vs d).limbs≤3)(U:(gv vs b).limbs=1)(hd:deep≤4){X:List (List UInt64)}(j:zw7 (Qg vs (Ol vs o)) X) :
  ∃(g:Ms),g.bufs.length=vs.length+2∧g.l.length≤800000000∧(∀i,i<vs.length+2→i≠d→i≠S9 vs d→g.bufs.getD i []=X.getD i []) ∧
   (g.bufs.getD d []).length=(gv vs d).limbs.toNat∧((X.getD c []).getD 0 0%2=1→val (X.getD a [])<val (X.getD c [])→val (g.bufs.getD d [])=val (X.getD a [])^val (X.getD b [])%val (X.getD c [])) ∧
   O2 29 [.agg (M8 ((64:Nat):Int) (Qg vs (Ol vs o)) ((Ok vs o).prog deep).flat),LN X] (.tup [LN g.bufs,.lst (Xd g.l) g.l.length 2,.i 0]) ∧
   ∀gg:List (List UInt64),zw7 (Qg vs (Ol vs o)) gg→∃A:Ms,A.bufs.length=vs.length+2∧g.l=A.l∧O2 29 [.agg (M8 ((64:Nat):Int) (Qg vs (Ol vs o)) ((Ok vs o).prog deep).flat),LN gg] (.tup [LN A.bufs,.lst (Xd A.l) A.l.length 2,.i 0]):=by
 have f:=pwF h;have gA:=pl_G h;have hc:=pl_C h;have hS:=pl_S h j;have gz:=fj h.hv h.fd.2;have hw:=zig h;have z:(Qg vs (Ol vs o)).length=vs.length+2:=plB_len;have l1:=h.fd.2;have l2:=h.fa.2;have l3:=h.fb.2;have l4:=h.fc.2;have C:=zrw (W:=Ol vs o) h.hv ⟨hw.1,T.w⟩;have F:(Ok vs o).times≤64:=by
  have V:=f.ti;have h2:=f.ov;have h3:=f.w;have h4:=h.w;rw[f.pb,U]at V;have h5:(Ok vs o).times*(Ok vs o).w≤64+((Ok vs o).w-1):=by
   have e:((⟨b,0,(1:Int).toNat⟩:Pn).k)=1:=rfl;rw[V,e];omega
  generalize (Ok vs o).times=t at *;generalize (Ok vs o).w=w at *;have G:w=1∨w=2∨w=3∨w=4∨w=5∨w=6:=J
  rcases G with rfl|rfl|rfl|rfl|rfl|rfl<;>omega
 have hp:=Pw.prog_all (p:=Ok vs o) (e:=deep) hc rfl rfl hd;have E:=Pw.prog_stp (p:=Ok vs o) (e:=deep) hd (by rw[f.k];omega) (by rw[f.w];exact h.w.2) F (by rw[f.pb,U];exact Lp 1);have H:((Ok vs o).prog deep).flat.length≤65536:=by
  unfold Pw.prog;rw[wrap_flat];have:=zvu (p:=Ok vs o) (D:=deep);have I:(Pv deep 0).length=deep:=lpsL_len' deep 0;simp[I];omega
 have K:=Pw.prog_chk gA hd (by rw[z];have:=T.n;omega) C H;have L:=Pw.prog_ex (s0:=Q0 (On 64 (Qg vs (Ol vs o)) X)) hS hd;obtain⟨g,t,Y,r2,r3,Z,r6,r7,r8⟩:=i6 (X:=X) cfP_ok (by rw[z];rfl) hp K E (zr6 j) J L;rw[z]at Z;have B:(g.bufs.getD d []).length=(gv vs d).limbs.toNat:=by
  rw[Y.len d J,znz (j.2 d J) J,xq h.fd.2]
 refine⟨g,Z,r6,λi hi M O=>?_,B,λho P=>?_,r7,λgg hY=>?_⟩
 ·rw[r3 i (λq=>by rcases q with q|q;exact M q;exact O q),zkn (j.2 i J) J]
 ·have Q:∀i,i<vs.length→((X.getD i []).length:Int)=(gv vs i).limbs:=λi hi=>by
   have:=j.2 i J;rw[xq hi]at this;exact this
  have va:vl (pl (Q0 (On 64 (Qg vs (Ol vs o)) X)).m (Ok vs o).a) (Ok vs o).k=val (X.getD a []):=by
   rw[f.pa,f.k];exact zms (p:=⟨a,0,_⟩) (j.2 a J) A8 rfl (by simp only;have:=Q a l2;have:=h.la;omega)
  have vb:vl (pl (Q0 (On 64 (Qg vs (Ol vs o)) X)).m (Ok vs o).b) (Ok vs o).b.k=val (X.getD b []):=by
   rw[f.pb];exact zms (p:=⟨b,0,_⟩) (j.2 b J) A8 rfl (by simp only;have:=Q b l3;omega)
  have vn:vl (pl (Q0 (On 64 (Qg vs (Ol vs o)) X)).m (Ok vs o).n) (Ok vs o).k=val (X.getD c []):=by
   rw[f.pn,f.k];exact zms (p:=⟨c,0,_⟩) (j.2 c J) A8 rfl (by simp only;have:=Q c l4;have:=h.lc;omega)
  have vo:pl (Q0 (On 64 (Qg vs (Ol vs o)) X)).m (Ok vs o).n 0=(X.getD c []).getD 0 0:=by
   rw[f.pn];show (Q0 (On 64 (Qg vs (Ol vs o)) X)).m c (0+0)=_;rw[zzf (j.2 c J) J]
  obtain⟨_,hv⟩:=r2 ⟨by rw[vo];exact ho,by rw[va,vn];exact P⟩;rw[va,vb,vn]at hv;have R:(Ok vs o).k=(gv vs d).limbs.toNat:=f.k;rw[←hv,f.pd,R];refine (vl_get J λi hi=>?_).symm;show t.m d (0+i)=_;rw[Ix];have hm:=Y.m d i J;rw[znz (j.2 d J) J,xq h.fd.2]at hm;exact (hm A8).symm
 ·obtain⟨A,e1,e2,e3⟩:=r8 gg (zr6 hY) λi hi=>by have:=j.2 i hi;have:=hY.2 i hi;omega
  exact⟨A,J,e2,e3⟩
def zz0{deep:Nat}(h:PwV vs o d a b c)(z:PwL vs o)(A:(gv vs d).limbs≤3)(B:(gv vs b).limbs=1)(hd:deep≤4){X Y:List (List UInt64)}(C:zw7 (Qg vs (Ol vs o)) X)(D:zw7 (Qg vs (Ol vs o)) Y) :
  ∃(g j:Ms),g.bufs.length=vs.length+2∧j.bufs.length=vs.length+2∧g.l=j.l∧(∀i,i<vs.length+2→i≠d→i≠S9 vs d→g.bufs.getD i []=X.getD i []) ∧
   (g.bufs.getD d []).length=(gv vs d).limbs.toNat∧((X.getD c []).getD 0 0%2=1→val (X.getD a [])<val (X.getD c [])→val (g.bufs.getD d [])=val (X.getD a [])^val (X.getD b [])%val (X.getD c [])) ∧
   O2 29 [.agg (M8 ((64:Nat):Int) (Qg vs (Ol vs o)) ((Ok vs o).prog deep).flat),LN X] (.tup [LN g.bufs,.lst (Xd g.l) g.l.length 2,.i 0]) ∧
   O2 29 [.agg (M8 ((64:Nat):Int) (Qg vs (Ol vs o)) ((Ok vs o).prog deep).flat),LN Y] (.tup [LN j.bufs,.lst (Xd j.l) j.l.length 2,.i 0]):=by
 obtain⟨g,E,_,F,G,H,I,K⟩:=zxx (deep:=deep) h z A B hd C;obtain⟨j,L,M,O⟩:=K Y D;exact⟨g,j,E,L,M,F,G,H,I,O⟩
end pl
end
def zcb:LC:=(.q [.K 4 0] (.seq (.q [.m 6 1,.b 7 .lss 3 6 1] (.cond (.t 7) (.q [.K 4 0] .ret) .skip)) (.q [.m 8 0,.m 9 1,.c 10 .rem 3 8 9,.m 5 10] (.seq (.q [.m 11 5,.b 12 .lss 3 11 0] (.cond (.t 12) (.ops [.m 13 5,.m 14 1,.c 15 .add 3 13 14,.m 5 15]) .skip)) (.q [.m 16 5,.m 4 16] .ret)))))
def r_kit_Pick:Na Tryz.prog 17=some ⟨17,zcb.r,[.tmp 4]⟩:=Aa
def k_kit_Pick:zcb.ok=true:=Aa
def zla:LC:=(.q [.e 4] (.q [.m 7 1,.z 8 (.mkSl 1 [(.u 0)] (.t 7) (.t 7)),.m 5 8] (.seq (.q [.K 6 0] (.block 0 (.loop (.seq (.q [.m 9 6,.m 10 1,.c 11 .lss 3 9 10,.m 12 11,.my 13 12 0,.y 14 12 (.lenSl (.t 13)),.y 15 12 (.bin .gtr true 3 (.t 14) (.k 0)),.q 16 12 15] (.cond (.t 16) .skip (.exit 0))) (.seq (.block 1 (.draw [(.m 19 5,[]),(.m 20 6,[]),(.m 21 0,[]),(.m 22 6,[]),(.m 23 0,[]),(.s 24 23,[]),(.c 25 .rem 3 22 24,[]),(.I 26 1 21 25,[]),(.l 27 26,[]),(.m 28 6,[]),(.m 29 0,[]),(.s 30 29,[]),(.c 31 .quo 3 28 30,[]),(.b 32 .mul 3 31 2,[]),(.z 33 (.bin .add true 3 (.k 1) (.t 32)),[]),(.z 34 (.cvInt .u64 (.t 33)),[]),(.c 35 .mul 23 27 34,[]),(.m 36 6,[]),(.m 37 0,[]),(.s 38 37,[]),(.c 39 .quo 3 36 38,[]),(.z 40 (.cvInt .u64 (.t 39)),[]),(.c 41 .add 23 35 40,[]),(.I 42 1 19 20,[]),(.S 1 42 41,[])])) (.ops [.m 17 6,.b 18 .add 3 17 1,.m 6 18])))))) (.q [.m 43 5,.m 4 43] .ret))))
def r_kit_Fill:Na Tryz.prog 26=some ⟨44,zla.r,[.tmp 4]⟩:=Aa
def za0(n m:Int)(hm:1≤m∧m<1000000):∃k:Nat,(k:Int)<m∧Nj 17 [.i n,.i m] (.i k) []:=by
 have j:¬m<1:=J
 have z:m≠0:=J
 have B:n.tmod m<m:=Int.tmod_lt_of_pos n J;have C:-m<n.tmod m:=by
  have h:=Int.tmod_lt_of_pos (-n) (J:0<m);rw[Int.neg_tmod]at h;omega
 by_cases g:n.tmod m<0
 ·obtain⟨k,A⟩:=Hz (J:0≤n.tmod m+m);refine⟨k,J,Oj.val rfl (Nb r_kit_Pick k_kit_Pick N ?_)⟩;simp[zcb,j,z,g];omega
 ·obtain⟨k,A⟩:=Hz (J:0≤n.tmod m);refine⟨k,J,Oj.val rfl (Nb r_kit_Pick k_kit_Pick N ?_)⟩;simp[zcb,j,z,g,A];omega
def zjx(l:List UInt64)(n:Nat)(U:n≤1000000)(V:l.length≤1000000)(g:l≠[]):Nj 26 [LU l,.i n] (.dy 0 0) [RU (fx l n)]:=by
 refine Oj.row (Nb r_kit_Fill Aa (by simp) ?_);have z:0<l.length:=List.length_pos_iff.2 g;simp[zla];refine⟨J,?_⟩;refine Po (λI R T L=>∃(i st:Nat) (m:List UInt64),R=[]∧L+i=n∧lk I 0=LU l∧lk I 1=.i n∧lk I 5=.dy 0 0∧lk I 6=.i i∧T[0]?=some (.dyn (m.map .u) n 1 0 st)∧m.length=n∧∀B,B<i→m.getD B 0=zzq l B) (N:=n)
  ⟨0,0,List.replicate n 0,rfl,J,by simp,by simp,by simp,by simp,by simp[W0],by simp,by simp⟩ ?_
 rintro L I R T ⟨i,st,m,rfl,X,C,A,D,K,E,j,hv⟩ Y F;by_cases Z:i<n
 ·have hi:i%l.length<l.length:=Kg _ z;have G:(l.length:Int)≠0:=J
  simp[C,A,D,K,Z,z,E,j,LU,G,hi];have M:(i:Int)/(l.length:Int)=((i/l.length:Nat):Int):=by simp
  have O:(i:Int).tmod (l.length:Int)=((i%l.length:Nat):Int):=by rw[Lq J];simp
  have P:i/l.length≤i:=Mh _ _;have H:zzq l i=l.getD (i%l.length) 0*iU (1+((i/l.length:Nat):Int)*2)+iU ((i/l.length:Nat):Int):=by unfold zzq;rw[Hv g]
  simp only[M,O,Is];generalize i/l.length=q at *;refine⟨g,J,J,g,J,J,J,g,J,J,J,F _ _ _ ⟨L-1,J,i+1,st+1,m.set i (zzq l i),rfl,J,As,A7,Av,by simp,?_,An,λB hj=>?_⟩⟩
  ·have Q:=(Hu.1 E).1;rw[H0 Q,H]
   congr 2
   rw[show ∀x:LV,Oa (m.map LV.u) i [x]=(m.map LV.u).set i x from λx=>by rw[Jk,H7 Ab];simp[Oa],Jj,Uz,zjz];simp[Hy]
  ·rw[e9 _ _ _ _ _ J];split
   ·rename_i q;rw[q]
   ·exact hv B J
 ·have hi:i=n:=J
  subst hi;have:m=fx l i:=by
   refine List.ext_getElem (by rw[j,zfj]) λB A h2=>?_
   have:=hv B J;rw[Hy,H6 A]at this;simpa [fx] using this
  simp[C,A,D,K];exact .inr ⟨0,_,_,rfl,by rw[←this,j];exact E⟩
def lpsL_snoc:∀(n:Nat) (i:Int),Pv (n+1) i=Pv n i++[⟨16,i+n,-1,-1,-1,-1,0,1⟩]
 |0,i=>by simp[Pv]
 |n+1,i=>by
  rw[Pv,lpsL_snoc n (i+1),Pv,I4]
  congr 4
  simp;omega
def lpsL_len:∀(n:Nat) (i:Int),(Pv n i).length=n
 |0,_=>rfl
 |n+1,i=>by rw[Pv,Ig,lpsL_len]
def zih:LC:=(.q [.z 4 (.alloc [.nilSl,.nilSl,(.i 0),(.i 0),(.i 0),(.i 0),(.i 0),(.i 0)])] (.q [.z 5 (.alloc [.nilSl,.nilSl,(.i 0),(.i 0),(.i 0),(.i 0),(.i 0),(.i 0)])] (.seq (.q [.K 6 0] (.block 0 (.loop (.seq (.q [.m 8 6,.m 9 0,.s 10 9,.c 11 .lss 3 8 10] (.cond (.t 11) .skip (.exit 0))) (.seq (.block 1 (.seq (.draw [(.f 14 0 5,[]),(.l 15 14,[]),(.m 16 0,[]),(.m 17 6,[]),(.I 18 3 16 17,[]),(.f 19 0 18,[]),(.l 20 19,[]),(.m 21 0,[]),(.m 22 6,[]),(.I 23 3 21 22,[]),(.f 24 1 23,[]),(.l 25 24,[]),(.z 26 (.build [(.i 0),(.i 0),(.bool false)] [(0,1,.t 20),(1,1,.k 2),(2,1,.t 25)]),[]),(.z 27 (.buildSl 3 1 [(.i 0),(.i 0),(.bool false)] [(0,3,.t 26)]),[(.l 25 24,false),(.l 20 19,false),(.l 15 14,false)]),(.a 28 3 15 27,[]),(.f 29 0 5,[]),(.S 1 29 28,[])]) (.draw [(.f 30 1 5,[]),(.l 31 30,[]),(.m 32 6,[]),(.m 33 0,[]),(.m 34 6,[]),(.I 35 3 33 34,[]),(.f 36 0 35,[]),(.l 37 36,[]),(.z 38 (.build [(.i 0),(.i 0),(.i 0)] [(0,1,.t 32),(2,1,.t 37)]),[]),(.z 39 (.buildSl 3 1 [(.i 0),(.i 0),(.i 0)] [(0,3,.t 38)]),[(.l 37 36,false),(.l 31 30,false)]),(.a 40 3 31 39,[]),(.f 41 1 5,[]),(.S 1 41 40,[])]))) (.ops [.m 12 6,.b 13 .add 3 12 1,.m 6 13])))))) (.seq (.q [.K 7 0] (.block 2 (.loop (.seq (.q [.m 42 7,.b 43 .lss 3 42 2] (.cond (.t 43) .skip (.exit 2))) (.seq (.block 3 (.q [.f 46 0 5,.l 47 46,.m 48 1,.m 49 7,.b 50 .eql 3 49 1,.z 51 (.build [(.i 0),(.i 0),(.bool false)] [(0,1,.t 48),(1,1,.k 2),(2,1,.t 50)]),.z 52 (.buildSl 3 1 [(.i 0),(.i 0),(.bool false)] [(0,3,.t 51)]),.a 53 3 47 52,.f 54 0 5,.S 1 54 53] (.ops [.m 55 7,.m 56 0,.s 57 56,.m 58 7,.c 59 .add 3 57 58,.m 60 1,.z 61 (.build [(.i 0),(.i 0),(.i 0)] [(0,1,.t 59),(2,1,.t 60)]),.f 62 2 5,.z 63 (.ixAddrArr 2 3 (.t 62) (.t 55)),.S 3 63 61]))) (.ops [.m 44 7,.b 45 .add 3 44 1,.m 7 45])))))) (.q [.L 64 8 5,.S 8 4 64] .ret)))))
def r_kit_Plain:Na Tryz.prog 19=some ⟨65,zih.r,[.cellN 4 8]⟩:=Aa
def zti{i:Nat}(h:i<vz.length):Vb (vz.take (i+1))=Vb (vz.take i)++[⟨(gv vz i).limbs,2,(gv vz i).sec⟩]:=by
 have g:=Vx h;obtain⟨_,e⟩:=Hu.1 g;rw[Jm h,Vb,Le,e];rfl
def pg(g:List Vr)(i:Nat):List Pc:=(List.range i).map λi:Nat=>⟨(i:Int),0,(gv g i).limbs⟩
def zyv(g:List Vr)(i:Nat):pg g (i+1)=pg g i++[⟨(i:Int),0,(gv g i).limbs⟩]:=by simp[pg,List.range_succ]
def uu(a b:List Pc):Xe (a++b)=Xe a++Xe b:=by simp[Xe]
def wkC(n w:Int):Nat→List LV
 |0=>[.i 0,.i 0,.i 0,.i 0,.i 0,.i 0]
 |1=>[.i n,.i 0,.i w,.i 0,.i 0,.i 0]
 |_=>[.i n,.i 0,.i w,.i (n+1),.i 0,.i w]
def wkB(w:Int):Nat→List Bf
 |0=>[]
 |1=>[⟨w,2,false⟩]
 |_=>[⟨w,2,false⟩,⟨w,2,true⟩]
def zpf(vs:List Vr)(w:Int)(hl:vs.length≤1000000):O2 19 [.lst (Px vs) vs.length 3,.i w] (.agg (Qt (Vb vs++[⟨w,2,false⟩,⟨w,2,true⟩]) (Uo vs) ⟨vs.length,0,w⟩ ⟨(vs.length:Int)+1,0,w⟩)):=by
 refine Sa.mk (by simp[LV.dat,zcj]) (Nb r_kit_Plain Aa (by simp) ?_);simp[zih];refine Po (λρ gU P N=>∃(i st X:Nat) (O C:LV),gU=[]∧N+i=vs.length∧lk ρ 0=.lst (Px vs) vs.length 3∧lk ρ 1=.i w∧lk ρ 4=.ptr 0 0∧lk ρ 5=.ptr 1 0∧lk ρ 6=.i i∧2≤P.length ∧
   P[0]?=some (.cells [.nilSl,.nilSl,.i 0,.i 0,.i 0,.i 0,.i 0,.i 0] X)∧P[1]?=some (.cells [O,C,.i 0,.i 0,.i 0,.i 0,.i 0,.i 0] st) ∧
   Py 2 P O 3 i (P8 (Vb (vs.take i)))∧Py 2 P C 3 i (Xe (pg vs i))∧∀q A z j,O=.dy q A→C=.dy z j→q≠z) (N:=vs.length)
  ⟨0,0,0,.nilSl,.nilSl,rfl,J,by simp,by simp,by simp,by simp,by simp,by simp,by simp,by simp,by simpa [Vb,P8] using Py.nil,by simpa [pg,Xe] using Py.nil,λq A z j e=>Am⟩ ?_
 rintro N ρ gU P ⟨i,st,X,O,C,rfl,hN,L,R,T,M,h6,gC,Q,E,H,D,B⟩ Nx Y;by_cases gO:i<vs.length
 ·have q0:=zqo (Vx gO);have q1:=ztt (Vx gO);have hq:=zrn gO;have l1:1<P.length:=J
  have p1:∀x:List LObj,(P++x)[1]?=_:=λx=>(M6 l1).trans E
  have p0:∀x:List LObj,(P++x)[0]?=_:=λx=>(M6 J).trans Q
  simp[L,M,h6,E,↓p1,gO,Nh q0,Nh q1];have D1:=H.push_end (ob:=[LObj.dyn [.i (gv vs i).limbs,.i 2,.bool (gv vs i).sec] 1 3 0 0]);have U:=D.push_end (ob:=[LObj.dyn [.i (gv vs i).limbs,.i 2,.bool (gv vs i).sec] 1 3 0 0]);have m0:=p0 [LObj.dyn [.i (gv vs i).limbs,.i 2,.bool (gv vs i).sec] 1 3 0 0];have m1:=p1 [LObj.dyn [.i (gv vs i).limbs,.i 2,.bool (gv vs i).sec] 1 3 0 0];have ml:(P++[LObj.dyn [.i (gv vs i).limbs,.i 2,.bool (gv vs i).sec] 1 3 0 0]).length=P.length+1:=by simp
  have I:=λq A (e:C=.dy q A)=>(D.lt e).2
  generalize P++[LObj.dyn [.i (gv vs i).limbs,.i 2,.bool (gv vs i).sec] 1 3 0 0]=GA at *;refine D1.push2 (c:=1) (x:=(⟨(gv vs i).limbs,2,(gv vs i).sec⟩:Bf).f) J J J rfl rfl λg V K Z gD s1 gE=>?_
  have n1:∀q,q<2→∀A,O≠.dy q A:=λq hq A e=>E9
  have n2:∀q,q<2→∀A,C≠.dy q A:=λq hq A e=>by have:=(U.lt e).1;omega
  have gg:=(Z 0 J (n1 0 J)).trans m0;have gz:=(Z 1 J (n1 1 J)).trans m1;have gA:=U.keep (G':=V) (λq A e=>Z q (U.lt e).2 (λj G=>B q j q A G e rfl));have F:∀q A z j,g=.dy q A→C=.dy z j→q≠z:=λq A z j e G=>by
   rcases s1 q A e with h|⟨j2,h⟩
   ·have:=I z j G;omega
   ·exact B q j2 z j h G
  have gB:=K.cells;have gF:=U.cells;simp[-LV.cells,L,M,h6,gz,gB];have gG:=K.set_lt (q:=1) (ob:=.cells [g,C,.i 0,.i 0,.i 0,.i 0,.i 0,.i 0] (st+1)) J;have gP:=gA.set_lt (q:=1) (ob:=.cells [g,C,.i 0,.i 0,.i 0,.i 0,.i 0,.i 0] (st+1)) J;have k0:(V.set 1 (.cells [g,C,.i 0,.i 0,.i 0,.i 0,.i 0,.i 0] (st+1)))[0]?=_:=(Hx J).trans gg;have k1:(V.set 1 (.cells [g,C,.i 0,.i 0,.i 0,.i 0,.i 0,.i 0] (st+1)))[1]?=_:=H0 J;have kl:(V.set 1 (.cells [g,C,.i 0,.i 0,.i 0,.i 0,.i 0,.i 0] (st+1))).length=V.length:=by simp
  generalize V.set 1 (.cells [g,C,.i 0,.i 0,.i 0,.i 0,.i 0,.i 0] (st+1))=G2 at *;have r1:∀x:List LObj,(G2++x)[1]?=_:=λx=>(M6 J).trans k1
  have r0:∀x:List LObj,(G2++x)[0]?=_:=λx=>(M6 J).trans k0
  simp[L,M,h6,k1,↓r1,gO,Nh q0];have E1:=gG.push_end (ob:=[LObj.dyn [.i (i:Int),.i 0,.i (gv vs i).limbs] 1 3 0 0]);have E2:=gP.push_end (ob:=[LObj.dyn [.i (i:Int),.i 0,.i (gv vs i).limbs] 1 3 0 0]);have w0:=r0 [LObj.dyn [.i (i:Int),.i 0,.i (gv vs i).limbs] 1 3 0 0];have w1:=r1 [LObj.dyn [.i (i:Int),.i 0,.i (gv vs i).limbs] 1 3 0 0];have wl:(G2++[LObj.dyn [.i (i:Int),.i 0,.i (gv vs i).limbs] 1 3 0 0]).length=G2.length+1:=by simp
  have gH:=λq A (e:g=.dy q A)=>(gG.lt e).2
  generalize G2++[LObj.dyn [.i (i:Int),.i 0,.i (gv vs i).limbs] 1 3 0 0]=GB at *;refine E2.push2 (c:=1) (x:=(⟨(i:Int),0,(gv vs i).limbs⟩:Pc).f) J J J rfl rfl λgI G3 gK f2 gV s2 gX=>?_
  have gQ:=(f2 0 J (n2 0 J)).trans w0;have gR:=(f2 1 J (n2 1 J)).trans w1;have gT:=E1.keep (G':=G3) (λq A e=>f2 q (E1.lt e).2 (λj G=>F q A q j e G rfl));have gL:∀q A z j,g=.dy q A→gI=.dy z j→q≠z:=λq A z j e G=>by
   rcases s2 z j G with h|⟨j2,h⟩
   ·have:=gH q A e;omega
   ·exact F q A z j2 e h
  have gM:=gK.cells;simp[-LV.cells,L,M,h6,gR,gM];refine⟨J,Y _ _ _ ⟨N-1,J,i+1,st+1+1,X,g,gI,rfl,J,D0,B1,Ew,A9,by simp,Ab,?_,?_,?_,?_,gL⟩⟩
  ·rw[Hx J];exact gQ
  ·rw[H0 J]
  ·rw[zti gO,wi];exact gT.set_lt J
  ·rw[zyv,uu];exact gK.set_lt J
 ·have gi:i=vs.length:=J
  subst gi;simp[L,R,T,M,h6,E];refine Po (λρ gU P N=>∃(A st X:Nat) (O C:LV),gU=[]∧N+A=2∧lk ρ 0=.lst (Px vs) vs.length 3∧lk ρ 1=.i w∧lk ρ 4=.ptr 0 0∧lk ρ 5=.ptr 1 0∧lk ρ 7=.i A∧2≤P.length ∧
    P[0]?=some (.cells [.nilSl,.nilSl,.i 0,.i 0,.i 0,.i 0,.i 0,.i 0] X)∧P[1]?=some (.cells (O::C::wkC vs.length w A) st) ∧
    Py 2 P O 3 (vs.length+A) (P8 (Vb vs++wkB w A))∧Py 2 P C 3 vs.length (Xe (Uo vs))∧∀q A z j,O=.dy q A→C=.dy z j→q≠z) (N:=2)
   ⟨0,st,X,O,C,rfl,J,D0,B1,Ew,A9,by simp,gC,Q,E,by simpa [wkB] using H,D,B⟩ ?_
  clear L R T M h6 gC Q E H D B gO Y Nx;rintro N ρ gU P ⟨A,st,X,O,C,rfl,gY,L,R,T,M,h7,gC,Q,E,H,D,B⟩ Nx Y;have p1:∀x:List LObj,(P++x)[1]?=_:=λx=>(M6 J).trans E
  have p0:∀x:List LObj,(P++x)[0]?=_:=λx=>(M6 J).trans Q
  have hj:A=0∨A=1∨A=2:=J
  rcases hj with rfl|rfl|rfl
  ·have D1:=H.push_end (ob:=[LObj.dyn [.i w,.i 2,.bool false] 1 3 0 0]);have U:=D.push_end (ob:=[LObj.dyn [.i w,.i 2,.bool false] 1 3 0 0]);simp[L,R,T,M,h7,E,↓p1,wkC];have m0:=p0 [LObj.dyn [.i w,.i 2,.bool false] 1 3 0 0];have m1:=p1 [LObj.dyn [.i w,.i 2,.bool false] 1 3 0 0];have ml:(P++[LObj.dyn [.i w,.i 2,.bool false] 1 3 0 0]).length=P.length+1:=by simp
   have I:=λq A (e:C=.dy q A)=>(D.lt e).2
   generalize P++[LObj.dyn [.i w,.i 2,.bool false] 1 3 0 0]=GA at *;refine D1.push2 (c:=1) (x:=(⟨w,2,false⟩:Bf).f) J J J rfl rfl λg V K Z gD s1 gE=>?_
   have n1:∀q,q<2→∀A,O≠.dy q A:=λq hq A e=>E9
   have gg:=(Z 0 J (n1 0 J)).trans m0;have gz:=(Z 1 J (n1 1 J)).trans m1;have gA:=U.keep (G':=V) (λq A e=>Z q (U.lt e).2 (λj G=>B q j q A G e rfl));have F:∀q A z j,g=.dy q A→C=.dy z j→q≠z:=λq A z j e G=>by
    rcases s1 q A e with h|⟨j2,h⟩
    ·have:=I z j G;omega
    ·exact B q j2 z j h G
   have gB:=K.cells;have gF:=U.cells;have x1:∀x,(V.set 1 x)[1]?=some x:=λx=>H0 J
   simp[-LV.cells,L,R,T,M,h7,gz,gB,↓x1,wkC];simp[Oa]
   repeat (refine⟨J,?_⟩)
   refine Y _ _ _ ⟨N-1,J,0+1,st+1+1,X,g,C,rfl,J,D0,B1,Ew,A9,by simp,Ab,?_,?_,?_,?_,F⟩
   ·rw[Hx J];exact gg
   ·rw[H0 J];simp[wkC]
   ·have hW:P8 (Vb vs++wkB w (0+1))=P8 (Vb vs++wkB w 0)++(⟨w,2,false⟩:Bf).f:=by simp[P8,wkB]
    rw[hW];exact K.set_lt J
   ·exact gA.set_lt J
  ·have D1:=H.push_end (ob:=[LObj.dyn [.i w,.i 2,.bool true] 1 3 0 0]);have U:=D.push_end (ob:=[LObj.dyn [.i w,.i 2,.bool true] 1 3 0 0]);simp[L,R,T,M,h7,E,↓p1,wkC];have m0:=p0 [LObj.dyn [.i w,.i 2,.bool true] 1 3 0 0];have m1:=p1 [LObj.dyn [.i w,.i 2,.bool true] 1 3 0 0];have ml:(P++[LObj.dyn [.i w,.i 2,.bool true] 1 3 0 0]).length=P.length+1:=by simp
   have I:=λq A (e:C=.dy q A)=>(D.lt e).2
   generalize P++[LObj.dyn [.i w,.i 2,.bool true] 1 3 0 0]=GA at *;refine D1.push2 (c:=1) (x:=(⟨w,2,true⟩:Bf).f) J J J rfl rfl λg V K Z gD s1 gE=>?_
   have n1:∀q,q<2→∀A,O≠.dy q A:=λq hq A e=>E9
   have gg:=(Z 0 J (n1 0 J)).trans m0;have gz:=(Z 1 J (n1 1 J)).trans m1;have gA:=U.keep (G':=V) (λq A e=>Z q (U.lt e).2 (λj G=>B q j q A G e rfl));have F:∀q A z j,g=.dy q A→C=.dy z j→q≠z:=λq A z j e G=>by
    rcases s1 q A e with h|⟨j2,h⟩
    ·have:=I z j G;omega
    ·exact B q j2 z j h G
   have gB:=K.cells;have gF:=U.cells;have x1:∀x,(V.set 1 x)[1]?=some x:=λx=>H0 J
   simp[-LV.cells,L,R,T,M,h7,gz,gB,↓x1,wkC];simp[Oa]
   repeat (refine⟨J,?_⟩)
   refine Y _ _ _ ⟨N-1,J,1+1,st+1+1,X,g,C,rfl,J,D0,B1,Ew,A9,by simp,Ab,?_,?_,?_,?_,F⟩
   ·rw[Hx J];exact gg
   ·rw[H0 J];simp[wkC]
   ·have hW:P8 (Vb vs++wkB w (1+1))=P8 (Vb vs++wkB w 1)++(⟨w,2,true⟩:Bf).f:=by simp[P8,wkB]
    rw[hW];exact K.set_lt J
   ·exact gA.set_lt J
  ·have gZ:=H.bor;have gM:=D.bor;have y0:∀x,(P.set 0 x)[0]?=some x:=λx=>H0 J
   simp[L,R,T,M,h7,Q,E,wkC,↓y0];have b1:=(H.set_lt (q:=0) (ob:=.cells [O,C,.i vs.length,.i 0,.i w,.i (vs.length+1),.i 0,.i w] (X+1)) J).bor;have b2:=(D.set_lt (q:=0) (ob:=.cells [O,C,.i vs.length,.i 0,.i w,.i (vs.length+1),.i 0,.i w] (X+1)) J).bor;refine⟨_,_,rfl,?_,_,rfl,?_⟩
   ·have e1:(Vb vs++[(⟨w,2,false⟩:Bf),⟨w,2,true⟩]).length=vs.length+2:=by simp[Vb]
    rw[e1];exact b1
   ·have e2:(Uo vs).length=vs.length:=by simp[Uo]
    rw[e2];exact b2

def zbe:LC:=(.q [.K 4 0] (.seq (.q [.m 8 0,.s 9 8,.m 10 1,.s 11 10,.z 12 (.maxi true (.t 9) (.t 11)),.b 13 .sub 3 12 1,.m 5 13] (.block 0 (.loop (.seq (.q [.m 14 5,.b 15 .geq 3 14 0] (.cond (.t 15) .skip (.exit 0))) (.seq (.block 1 (.q [.m 18 0,.m 19 5,.W 20 130 18 19,.m 21 1,.m 22 5,.W 23 130 21 22,.m 6 20,.m 7 23] (.seq (.q [.m 24 6,.m 25 7,.c 26 .lss 23 24 25] (.cond (.t 26) (.q [.K 4 (-1)] .ret) .skip)) (.q [.m 27 6,.m 28 7,.c 29 .gtr 23 27 28] (.cond (.t 29) (.q [.K 4 1] .ret) .skip))))) (.ops [.m 16 5,.b 17 .sub 3 16 1,.m 5 17])))))) (.q [.K 4 0] .ret)))
def r_ref02_Compare:Na Tryz.prog 66=some ⟨30,zbe.r,[.tmp 4]⟩:=Aa
def zi8:LC:=(.q [.e 4,.K 5 0] (.seq (.q [.m 10 0,.m 11 1,.W 12 66 10 11,.b 13 .lss 3 12 0] (.cond (.t 13) (.q [.e 4,.K 5 2] .ret) .skip)) (.q [.e 6] (.q [.F 7] (.seq (.q [.K 8 0] (.block 0 (.loop (.seq (.q [.m 14 8,.m 15 0,.s 16 15,.m 17 1,.s 18 17,.z 19 (.maxi true (.t 16) (.t 18)),.c 20 .lss 3 14 19] (.cond (.t 20) .skip (.exit 0))) (.seq (.block 1 (.q [.z 9 (.move (.c (.u 0)))] (.q [.m 24 0,.m 25 8,.W 26 130 24 25,.m 27 1,.m 28 8,.W 29 130 27 28,.m 30 7,.V 31 147 26 29 30,.m 23 31,.X 32 0 23,.X 33 1 23,.m 9 32,.m 7 33] (.ops [.m 34 6,.m 35 9,.z 36 (.buildSl 1 1 [(.u 0)] [(0,1,.t 35)]),.a 37 1 34 36,.m 6 37])))) (.ops [.m 21 8,.b 22 .add 3 21 1,.m 8 22])))))) (.q [.m 38 6,.w 39 84 38,.m 4 39,.K 5 0] .ret))))))
def r_ref02_Sub:Na Tryz.prog 83=some ⟨40,zi8.r,[.tmp 4,.tmp 5]⟩:=Aa
def zgc:LC:=(.q [.K 2 0] (.q [.m 3 0,.w 4 84 3,.m 0 4] (.seq (.q [.m 5 0,.s 6 5,.b 7 .eql 3 6 0] (.cond (.t 7) (.q [.K 2 0] .ret) .skip)) (.q [.m 8 0,.s 9 8,.b 10 .sub 3 9 1,.z 11 (.bin .mul true 3 (.k 64) (.t 10)),.m 12 0,.m 13 0,.s 14 13,.b 15 .sub 3 14 1,.I 16 1 12 15,.l 17 16,.w 18 146 17,.c 19 .add 3 11 18,.m 2 19] .ret))))
def r_ref02_Bits:Na Tryz.prog 80=some ⟨20,zgc.r,[.tmp 2]⟩:=Aa
def zdq:LC:=(.q [.F 4] (.q [.m 5 1,.b 6 .geq 3 5 0,.m 7 6,.my 8 7 0,.my 9 7 1,.y 10 7 (.bin .quo true 3 (.t 9) (.k 64)),.y 11 7 (.w 130 [.t 8,.t 10]),.my 12 7 1,.y 13 7 (.bin .rem true 3 (.t 12) (.k 64)),.y 14 7 (.cvInt .u64 (.t 13)),.y 15 7 (.bin .shr false 23 (.t 11) (.t 14)),.y 16 7 (.bin .and true 23 (.t 15) (.c (.u 1))),.y 17 7 (.bin .eql true 23 (.t 16) (.c (.u 1))),.q 18 7 17,.m 4 18] .ret))
def r_ref02_Bit:Na Tryz.prog 82=some ⟨19,zdq.r,[.tmp 4]⟩:=Aa
def zn0(a:List UInt64)(D:a.length≤1000000):Nj 80 [LU a] (.i (Pp (val a))) []:=by
 refine Oj.val rfl (Nb r_ref02_Bits Aa N ?_);simp[zgc];refine Nw (z3w a J) N ?_;have E:=zd2 a;cases g:(Qa (val a)).length with
 |zero =>
  have C:val a=0:=zx5.1 (In g);simp[RU,C,toL_zero,blen_zero]
 |succ n =>
  have B:=mg (ut (val a)) g;rw[zbw]at B;have z:¬((n:Int)+1=0):=J
  have A:((n:Int)+1-1).toNat=n:=J
  have j:Qa (val a)≠[]:=λe=>by rw[e]at g;simp at g
  simp[RU,g,z,A,j];refine⟨J,J,J,J,?_⟩;refine Nw (znv ((Qa (val a)).getD n 0)) Ba ?_;have F:Pp ((Qa (val a)).getD n 0).toNat≤64:=ztm (UInt64.toNat_lt _);rw[B];generalize Pp ((Qa (val a)).getD n 0).toNat=x at *;simp;omega
def zog(a:List UInt64)(i:Int)(hi:i<9223372036854775808):Nj 82 [LU a,.i i] (.bool (decide (0≤i)&&(val a).testBit i.toNat)) []:=by
 refine Oj.val rfl (Nb r_ref02_Bit Aa N ?_);by_cases j:0≤i
 ·obtain⟨n,rfl⟩:=Hz j;have A:=bit_at a n;have z:(n:Int)/64=(n/64:Nat):=J
  have B:(n:Int).tmod 64=(n%64:Nat):=by rw[Lq J];omega
  have hu:=bit_u' (a.getD (n/64) 0) (n%64);rw[A]at hu;have g:(iU ((n%64:Nat):Int)).toNat=n%64:=Vp J;simp[zdq];refine⟨J,?_⟩;rw[z];refine Nw (z30 a (n/64:Nat)) N ?_;simp;rw[z,B,g];simp at hu;simp only[Is,Jn,Jl];rw[hu];cases (val a).testBit n<;>simp
 ·simp[zdq,j]
def z4h(a b:List UInt64)(F:a.length≤1000000)(G:b.length≤1000000):Nj 66 [LU a,LU b] (.i (Qy (val a) (val b))) []:=by
 refine Oj.val rfl (Nb r_ref02_Compare Aa (by simp) ?_);simp[zbe];refine⟨J,?_⟩;refine Po (λD E H N=>E=[]∧N≤1000000∧lk D 0=LU a∧lk D 1=LU b∧lk D 5=.i ((N:Int)-1)∧Qy (val a) (val b)=Qy (val (a.take N)) (val (b.take N))) (N:=max a.length b.length) ⟨by simp,J,by simp,by simp,Ab,by rw[z2w J,z2w J]⟩ ?_;rintro N D E H ⟨rfl,I,C,z,j,g⟩ K A;cases N with
 |zero =>
  simp[j];rw[g];simp[val,Qy]
 |succ N =>
  have e:((N+1:Nat):Int)-1=N:=J
  rw[e]at j;simp[C,z,j];refine Nw (z30 a N) (by simp) ?_;simp[z,j];refine Nw (z30 b N) (by simp) ?_;rw[ik]at g;simp at g;simp;rw[g];generalize a[N]?.getD 0=x at *;generalize b[N]?.getD 0=y at *;refine⟨λl=>by rw[H7 l],λl=>⟨λB=>by rw[Hv (My.2 l),H7 B],λB=>?_⟩⟩;rw[Hv (My.2 l),Hv (My.2 B)]at g;simp[j];exact⟨J,A _ _ _ ⟨N,J,rfl,J,As,Ak,by simp,g⟩⟩
def zgi(a b:List UInt64)(K:a.length≤1000000)(L:b.length≤1000000):Nj 83 [LU a,LU b] (.tup [.dy 0 0,.i (if val a<val b then 2 else 0)]) [RU (if val a<val b then [] else Qa (val a-val b))]:=by
 refine Oj.rowE (Nb r_ref02_Sub Aa (by simp) ?_);simp[zi8];refine Nw (z4h a b K L) (by simp) ?_;by_cases z:val a<val b
 ·simp[ztl,z,Se]
 simp[ztl,zjo,z];refine Po (λH U V I=>∃(i:Nat) (c:Bool) (g:List UInt64),U=[]∧I+i=max a.length b.length∧lk H 0=LU a∧lk H 1=LU b∧lk H 8=.i i∧lk H 7=.bool c∧Se V (lk H 6) g∧g.length=i ∧
  val g+val (b.take i)=val (a.take i)+2^(64*i)*c.toNat) (N:=max a.length b.length) ⟨0,false,[],by simp[Se,val]⟩ ?_
 rintro I H U V ⟨i,c,g,rfl,X,D,B,C,M,E,j,hv⟩ Y F;by_cases O:I=0
 ·subst O;have G:¬(i:Int)<max (a.length:Int) (b.length:Int):=J
  simp[D,B,C,G];obtain⟨P,Q⟩:=wx (m:=i) J J j hv;refine zbr (z3w g J) (Ws E.bor) ?_;have R:c=false:=by cases c with
   |true=>exact absurd (P.1 rfl) z
   |false=>rfl
  rw[Q R];simpa using Se.new
 ·have A:(i:Int)<max (a.length:Int) (b.length:Int):=J
  simp[D,B,C,A];refine Nw (z30 a i) (by simp) ?_;simp[B,C];refine Nw (z30 b i) (by simp) ?_;simp[M];refine Nw (zh1 (a.getD i 0) (b.getD i 0) c) (by simp) ?_;simp[E];refine zvi (E.app _) (xs:=[(subC (a.getD i 0) (b.getD i 0) c).1]) rfl (by simp) J (λZ G' T _=>?_);simp[C];refine⟨J,F _ _ _ ⟨I-1,J,i+1,(subC (a.getD i 0) (b.getD i 0) c).2,_,rfl,J,Av,Aw,by simp,by simp,Fw,An,py j hv⟩⟩

def zjn:LC:=(.q [.e 4,.e 5,.K 6 0] (.seq (.q [.m 10 1,.z 11 (.w 66 [.t 10,(.c .nilSl)]),.b 12 .eql 3 11 0] (.cond (.t 12) (.q [.e 4,.e 5,.K 6 2] .ret) .skip)) (.q [.m 13 0,.s 14 13,.z 15 (.mkSl 1 [(.u 0)] (.t 14) (.t 14)),.z 16 (.buildSl 1 0 [] []),.m 7 15,.m 8 16] (.seq (.q [.m 17 0,.w 18 80 17,.b 19 .sub 3 18 1,.m 9 19] (.block 0 (.loop (.seq (.q [.m 20 9,.b 21 .geq 3 20 0] (.cond (.t 21) .skip (.exit 0))) (.seq (.block 1 (.q [.m 24 8,.m 25 8,.W 26 81 24 25,.m 8 26] (.seq (.q [.m 27 0,.m 28 9,.W 29 82 27 28] (.cond (.t 29) (.ops [.m 30 8,.z 31 (.buildSl 1 1 [(.u 0)] [(0,1,.c (.u 1))]),.W 32 81 30 31,.m 8 32]) .skip)) (.q [.m 33 8,.m 34 1,.W 35 66 33 34,.b 36 .geq 3 35 0] (.cond (.t 36) (.q [.m 38 8,.m 39 1,.W 40 83 38 39,.m 37 40,.X 41 0 37,.X 42 1 37,.m 8 41] (.ops [.m 43 7,.m 44 9,.b 45 .quo 3 44 64,.m 46 7,.m 47 9,.b 48 .quo 3 47 64,.I 49 1 46 48,.l 50 49,.m 51 9,.b 52 .rem 3 51 64,.z 53 (.cvInt .u64 (.t 52)),.z 54 (.bin .shl true 23 (.c (.u 1)) (.t 53)),.c 55 .or 23 50 54,.I 56 1 43 45,.S 1 56 55])) .skip))))) (.ops [.m 22 9,.b 23 .sub 3 22 1,.m 9 23])))))) (.q [.m 57 7,.w 58 84 57,.m 59 8,.w 60 84 59,.m 4 58,.m 5 60,.K 6 0] .ret)))))
def r_ref02_Div:Na Tryz.prog 28=some ⟨61,zjn.r,[.tmp 4,.tmp 5,.tmp 6]⟩:=Aa
def jx(g:M0)(v:LV)(r:List UInt64):Prop:=(v=.dy 1 0∧r=[]∧∃st,g[1]?=some (.dyn [] 0 1 0 st))∨v=LU r
def jx.bor{G:M0}{v:LV}{r:List UInt64}(h:jx G v r):bor G v (LU r):=by
 rcases h with ⟨rfl,rfl,st,hg⟩|rfl
 ·exact⟨_,_,_,st,rfl,hg,N⟩
 ·exact⟨rfl,N⟩
def zri(a b:List UInt64)(ha:a.length≤10000)(hb:b.length≤10000):Nj 28 [LU a,LU b] (.tup [.dy 0 0,.dy 1 0,.i (if val b=0 then 2 else 0)]) [RU (if val b=0 then [] else Qa (val a/val b)),RU (if val b=0 then [] else Qa (val a%val b))]:=by
 refine Oj.row2E (Nb r_ref02_Div Aa (by simp) ?_);simp[zjn];refine Nw (z4h b [] J (by simp)) (oi (by simp) (.inr ⟨1,by simp⟩)) ?_;by_cases h0:val b=0
 ·simp[h0,val,zze,Se];exact⟨_,_,⟨rfl,rfl⟩,rfl,rfl,by simp⟩
 simp[h0,val,zze,repU];refine⟨J,?_⟩;refine Nw (zn0 a J) (by simp) ?_;have gA:=ztm (val_lt a);simp;refine⟨J,?_⟩;refine Po (λρ gM gB N=>∃(q r:List UInt64) (v:LV) (st:Nat),gM=[]∧N≤64*a.length∧lk ρ 0=LU a∧lk ρ 1=LU b∧lk ρ 7=.dy 0 0∧gB[0]?=some (.dyn (q.map .u) a.length 1 0 st)∧q.length=a.length∧lk ρ 8=v∧jx gB v r∧lk ρ 9=.i ((N:Int)-1)∧r.length≤b.length∧zf (val a) (val b) N q (val r)) (N:=Pp (val a)) ⟨List.replicate a.length 0,[],.dy 1 0,0,by simp[jx,val,gA];exact cj⟩ ?_;rintro N ρ gM gB ⟨q,r,v,st,rfl,hN,F,O,U,X,z,h8,hr,P,gC,Y⟩ Nx M;cases N with
 |zero =>
  obtain⟨e1,e2⟩:=xl Y;simp[P,U];refine zbr (z3w q J) (Ws (Se.bor (l:=q) (.inr ⟨0,0,st,rfl,by rw[z];exact X⟩))) ?_;have gD:jx (gB++[RU (Qa (val q))]) v r:=by
   rcases hr with ⟨x,y,s,gO⟩|x
   ·exact .inl ⟨x,y,s,y9 gO _⟩
   ·exact .inr x
  simp[h8];refine zbr (z3w r J) (Ws gD.bor) ?_;rw[e1,e2];simp;exact⟨_,_,⟨rfl,rfl⟩,.inr ⟨_,0,0,rfl,by simp[RU]⟩,.inr ⟨_,0,0,rfl,by simp[RU]⟩,by simp⟩
 |succ n =>
  have e:((n+1:Nat):Int)-1=n:=J
  rw[e]at P;have Z:((n:Int)/64).toNat=n/64:=J
  have gg:(n:Int).tmod 64=(n%64:Nat):=by rw[Lq J];omega
  have gz:(iU ((n:Int)%64)).toNat=n%64:=by rw[(J:(n:Int)%64=(n%64:Nat))];exact Vp J
  have Q:n/64<a.length:=J
  have D:n/64<q.length:=J
  have hB:0<val b:=J
  have gF:val r<val b:=by rw[Y.1];exact Kg _ hB
  have gE:=z7t gC;have gG:=val_lt b;have gH:2^(64*(b.length+1))=2^(64*b.length)*18446744073709551616:=Zt _;obtain⟨s,C⟩:∃s,2*val r+((val a).testBit n).toNat=s:=⟨_,rfl⟩;have gI:((val a).testBit n).toNat≤1:=Bool.toNat_le _;have gK:(Qa s).length≤b.length+1:=z33 J;have E:val (Qa s)=s:=zbw s;have gL:(Qa (val r+val r)).length≤b.length+1:=z33 J;have hk:∀q':List UInt64,s<val b→zf (val a) (val b) n q' s→(Qa s).length≤b.length:=λq' h _=>z33 J
  have R:(Qa (s-val b)).length≤b.length:=z33 J;have G:∀x,(gB++x)[0]?=some (.dyn (q.map .u) a.length 1 0 st):=λx=>y9 X x
  have T : ∀(x : M0) (h : 0<(gB ++ x).length), (gB ++ x)[0]'h = .dyn (q.map .u) a.length 1 0 st := λx h => (Hu.1 (G x)).2
  simp[h8,P];refine Nw (zgw r r J J) (oi hr.bor hr.bor) ?_;simp[RU,F,P];refine Nw (zog a n J) (by simp) ?_;cases g:(val a).testBit n
  ·rw[g]at C;have es:val r+val r=s:=by simp at C;omega
   simp[g,es,O];refine Nw (z4h (Qa s) b J J) (by simp) ?_;rw[E];by_cases A:val b≤s
   ·have j:0≤Qy s (val b):=zjo.2 A;have H:¬s<val b:=J
    have I:=zui (q:=q) hB D Y (by rw[g,C];exact A);rw[g,C]at I;have K:=layU q (n/64) (ax (q.getD (n/64) 0) (Qx 1 (n%64))) D;have V:q[n/64]=q.getD (n/64) 0:=Av
    generalize q.getD (n/64) 0=x at *;simp[j,O];refine Nw (zgi (Qa s) b J J) (by simp) ?_;rw[E];simp[RU,H,U,P,Z,gg,gz,X,G,T,Q,z,V,K];refine⟨J,J,J,J,J,J,J,M _ _ _ ⟨n,J,q.set (n/64) (ax x (Qx 1 (n%64))),Qa (s-val b),LU (Qa (s-val b)),st+1,rfl,J,Ah,F5,Dl,by rw[gset X];simp,Ak,by simp,.inr rfl,by simp,R,by rw[zbw];exact I⟩⟩
   ·have L:s<val b:=J
    have j:¬0≤Qy s (val b):=λh=>A (zjo.1 h)
    have B:=zv8 (q:=q) hB Y (by rw[g,C];exact L);rw[g,C]at B;simp[j,P];exact⟨J,M _ _ _ ⟨n,J,q,Qa s,LU (Qa s),st,rfl,J,Ah,F5,Dl,X,z,by simp,.inr rfl,by simp,hk q L (by rw[g,C]at *;exact B),by rw[E];exact B⟩⟩
  ·rw[g]at C;have es:val (Qa (val r+val r))+val [1]=s:=by rw[zbw,Z2];simp at C ⊢;omega
   simp[g];refine Nw (zgw (Qa (val r+val r)) [1] J (by simp)) (oi (by simp) (Se.bor (l:=[1]) (.inr ⟨_,0,0,rfl,by simp⟩))) ?_;rw[es];simp[RU,O];refine Nw (z4h (Qa s) b J J) (by simp) ?_;rw[E];by_cases A:val b≤s
   ·have j:0≤Qy s (val b):=zjo.2 A;have H:¬s<val b:=J
    have I:=zui (q:=q) hB D Y (by rw[g,C];exact A);rw[g,C]at I;have K:=layU q (n/64) (ax (q.getD (n/64) 0) (Qx 1 (n%64))) D;have V:q[n/64]=q.getD (n/64) 0:=Av
    generalize q.getD (n/64) 0=x at *;simp[j,O];refine Nw (zgi (Qa s) b J J) (by simp) ?_;rw[E];simp[RU,H,U,P,Z,gg,gz,X,G,T,Q,z,V,K];refine⟨J,J,J,J,J,J,J,M _ _ _ ⟨n,J,q.set (n/64) (ax x (Qx 1 (n%64))),Qa (s-val b),LU (Qa (s-val b)),st+1,rfl,J,Ah,F5,Dl,by rw[gset (G _)];simp,Ak,by simp,.inr rfl,by simp,R,by rw[zbw];exact I⟩⟩
   ·have L:s<val b:=J
    have j:¬0≤Qy s (val b):=λh=>A (zjo.1 h)
    have B:=zv8 (q:=q) hB Y (by rw[g,C];exact L);rw[g,C]at B;simp[j,P];exact⟨J,M _ _ _ ⟨n,J,q,Qa s,LU (Qa s),st,rfl,J,Ah,F5,Dl,(G _),z,by simp,.inr rfl,by simp,hk q L (by rw[g,C]at *;exact B),by rw[E];exact B⟩⟩


def RV(g:M0)(v:LV)(l:List UInt64):Prop:=v=LU l∨(v=.nilSl∧l=[])∨∃q st,v=.dy q 0∧g[q]?=some (.dyn (l.map .u) l.length 1 0 st)
def zaa:LC:=(.q [.e 4,.K 5 0] (.seq (.q [.m 6 1,.b 7 .lss 3 6 0,.m 8 7,.mn 9 8 1,.nb 10 8 .gtr 3 9 512,.p 11 8 10] (.cond (.t 11) (.q [.e 4,.K 5 2] .ret) .skip)) (.q [.m 12 0,.w 13 84 12,.m 0 13] (.seq (.q [.m 14 0,.s 15 14,.m 16 1,.c 17 .gtr 3 15 16] (.cond (.t 17) (.q [.e 4,.K 5 3] .ret) .skip)) (.q [.m 18 0,.m 19 1,.m 20 0,.s 21 20,.c 22 .sub 3 19 21,.z 23 (.appZ 1 [(.u 0)] (.t 18) (.t 22)),.m 4 23,.K 5 0] .ret)))))
def r_ref02_Fit:Na Tryz.prog 95=some ⟨24,zaa.r,[.tmp 4,.tmp 5]⟩:=Aa
def zqq(a:List UInt64)(n:Int)(A:a.length≤1000000):Nj 95 [LU a,.i n] (.tup [.dy 0 0,.i (Sd a n)]) [RU (Tb a n)]:=by
 refine Oj.rowE (Nb r_ref02_Fit Aa N ?_);have B:=zd2 a;by_cases g:n<0
 ·have e:Sd a n=2:=H7 (.inl g);simp[zaa,g,e,Tb,Se]
 ·by_cases z:512<n
  ·have e:Sd a n=2:=H7 (.inr z);simp[zaa,g,z,e,Tb,Se]
  ·simp[zaa,g,z];refine zbr (z3w a J) N ?_;by_cases j:n<(Qa (val a)).length
   ·have e:Sd a n=3:=by unfold Sd;rw[Hv J,H7 j]
    simp[RU,j,e,Tb,Se]
   ·have e:Sd a n=0:=by unfold Sd;rw[Hv J,Hv j]
    simp[RU,j,e,Tb];refine⟨J,λC=>⟨J,J,J,J,.inr ⟨0,1,1,rfl,?_⟩⟩⟩;rw[repU];simp
def m6{a:List UInt64}{n:Int}(h:Sd a n=0):val (Tb a n)=val a:=by
 unfold Tb;rw[H7 h,val_append,val_rep0,zbw,Nat.mul_zero,Kh]
def jo{a:List UInt64}{k:Nat}(h:val a<2^(64*(k+1)))(g:k≤5):Sd a ((k:Int)+1)=0:=by
 have:=z33 h;unfold Sd;rw[Hv J,Hv J]
def zgy:LC:=(.q [.e 4] (.q [.m 6 0,.z 7 (.build [(.i 0),(.bool false),(.i 0)] [(0,1,.t 6),(1,1,.T)]),.z 5 (.alloc [(.i 0),(.bool false),(.i 0)]),.S 3 5 7] (.q [.L 8 3 5,.m 9 1,.z 10 (.build [(.i 0),(.bool false),(.i 0)] [(0,1,.t 9),(1,1,.T)]),.L 11 3 5,.L 12 3 5,.z 13 (.buildSl 3 4 [(.i 0),(.bool false),(.i 0),(.i 0),(.bool false),(.i 0),(.i 0),(.bool false),(.i 0),(.i 0),(.bool false),(.i 0)] [(0,3,.t 8),(3,3,.t 10),(6,3,.t 11),(9,3,.t 12)]),.m 4 13] .ret)))
def r_law24_four:Na Tryz.prog 41=some ⟨14,zgy.r,[.tmp 4]⟩:=Aa
def zjy:LC:=(.q [.z 2 (.alloc [(.i 0),(.i 0),(.i 0),(.i 0),(.i 0),(.i 0),(.u 0)])] (.q [.m 3 0,.z 4 (.build [(.i 0),(.i 0),(.i 0),(.i 0),(.i 0),(.i 0),(.u 0)] [(0,1,.k 13),(1,1,.k 3),(2,1,.k (-1)),(3,1,.k 0),(4,1,.k 1),(5,1,.k 2),(6,1,.t 3)]),.S 7 2 4] .ret))
def r_law24_pow:Na Tryz.prog 43=some ⟨5,zjy.r,[.cellN 2 7]⟩:=Aa
def zbk:LC:=(.q [.x 3 0,.z 6 (.alloc [(.i 0),.nilSl,.nilSl])] (.q [.f 10 0 3,.l 11 10,.z 12 (.build [(.i 0),.nilSl,.nilSl] [(0,1,.k 64),(1,1,.t 11)]),.z 7 (.alloc [(.i 0),.nilSl,.nilSl]),.S 3 7 12] (.seq (.q [.K 8 0] (.block 0 (.loop (.seq (.q [.m 13 8,.m 14 2,.c 15 .lss 3 13 14] (.cond (.t 15) .skip (.exit 0))) (.seq (.block 1 (.ops [.f 18 2 7,.l 19 18,.m 20 8,.z 21 (.build [(.i 0),(.i 0),(.i 0),(.i 0),(.i 0),(.i 0),(.i 0),(.u 0)] [(0,1,.k 16),(1,1,.t 20),(2,1,.k (-1)),(3,1,.k (-1)),(4,1,.k (-1)),(5,1,.k (-1)),(7,1,.c (.u 1))]),.z 22 (.buildSl 8 1 [(.i 0),(.i 0),(.i 0),(.i 0),(.i 0),(.i 0),(.i 0),(.u 0)] [(0,8,.t 21)]),.a 23 8 19 22,.f 24 2 7,.S 1 24 23])) (.ops [.m 16 8,.b 17 .add 3 16 1,.m 8 17])))))) (.q [.f 25 2 7,.l 26 25,.m 27 1,.a 28 8 26 27,.f 29 2 7,.S 1 29 28] (.seq (.q [.K 9 0] (.block 2 (.loop (.seq (.q [.m 30 9,.m 31 2,.c 32 .lss 3 30 31] (.cond (.t 32) .skip (.exit 2))) (.seq (.block 3 (.ops [.f 35 2 7,.l 36 35,.z 37 (.build [(.i 0),(.i 0),(.i 0),(.i 0),(.i 0),(.i 0),(.i 0),(.u 0)] [(0,1,.k 17),(1,1,.k (-1)),(2,1,.k (-1)),(3,1,.k (-1)),(4,1,.k (-1)),(5,1,.k (-1))]),.z 38 (.buildSl 8 1 [(.i 0),(.i 0),(.i 0),(.i 0),(.i 0),(.i 0),(.i 0),(.u 0)] [(0,8,.t 37)]),.a 39 8 36 38,.f 40 2 7,.S 1 40 39])) (.ops [.m 33 9,.b 34 .add 3 33 1,.m 9 34])))))) (.q [.L 41 3 7,.S 3 6 41] .ret))))))
def r_law24_program:Na Tryz.prog 52=some ⟨42,zbk.r,[.cellN 6 3]⟩:=Aa
def zgl:LC:=(.q [.x 2 0,.e 4] (.q [.e 5] (.seq (.q [.K 6 0] (.block 0 (.loop (.seq (.q [.m 7 6,.f 8 0 2,.l 9 8,.s 10 9,.c 11 .lss 3 7 10] (.cond (.t 11) .skip (.exit 0))) (.seq (.block 1 (.draw [(.m 14 5,[]),(.z 15 (.buildSl 1 0 [] []),[]),(.m 16 1,[]),(.m 18 6,[]),(.z 19 (.cvInt .u64 (.t 18)),[]),(.u 20 .mul 23 19 1234567891011,[]),(.z 21 (.buildSl 1 1 [(.u 0)] [(0,1,.t 20)]),[(.z 15 (.buildSl 1 0 [] []),true)]),(.f 23 0 2,[]),(.l 24 23,[]),(.m 25 6,[]),(.I 26 3 24 25,[]),(.f 27 0 26,[]),(.l 28 27,[]),(.a 17 1 15 16,[(.l 28 27,false),(.l 24 23,false),(.z 21 (.buildSl 1 1 [(.u 0)] [(0,1,.t 20)]),true)]),(.a 22 1 17 21,[(.l 28 27,false),(.l 24 23,false)]),(.W 29 26 22 28,[]),(.z 30 (.buildSl 1 1 [.nilSl] [(0,1,.t 29)]),[]),(.a 31 1 14 30,[]),(.m 5 31,[])])) (.ops [.m 12 6,.b 13 .add 3 12 1,.m 6 13])))))) (.q [.m 32 5,.m 4 32] .ret))))
def r_law24_rows:Na Tryz.prog 101=some ⟨33,zgl.r,[.tmp 4]⟩:=Aa
def zd6:LC:=(.q [.e 12,.F 13] (.q [.m 27 0,.m 28 1,.W 29 41 27 28,.m 14 29] (.q [.m 30 14,.m 31 2,.w 32 43 31,.W 33 42 30 32,.m 15 33] (.seq (.q [.m 34 15,.b 35 .lss 3 34 1] (.cond (.t 35) (.q [.e 12,.F 13] .ret) .skip)) (.q [.m 36 14,.m 37 15,.W 38 19 36 37,.z 16 (.alloc [.nilSl,.nilSl,(.i 0),(.i 0),(.i 0),(.i 0),(.i 0),(.i 0)]),.S 8 16 38] (.seq (.draw [(.m 40 14,[]),(.m 41 2,[]),(.L 43 8 16,[]),(.w 42 43 41,[(.L 43 8 16,false)]),(.z 44 (.w 44 [.t 40,.t 42,.t 43,.k 0]),[]),(.m 39 44,[]),(.X 45 0 39,[]),(.X 46 1 39,[]),(.m 17 45,[]),(.m 18 46,[])]) (.q [.L 47 8 16,.z 48 (.buildSl 1 1 [(.u 0)] [(0,1,.c (.u 3))]),.W 49 101 47 48,.m 19 49] (.seq (.q [.m 50 3,.m 51 4,.m 52 5,.z 53 (.buildSl 1 3 [.nilSl,.nilSl,.nilSl] [(0,1,.t 50),(1,1,.t 51),(2,1,.t 52)]),.s 54 53,.K 55 0] (.block 0 (.loop (.q [.c 56 .lss 3 55 54] (.seq (.cond (.t 56) .skip (.exit 0)) (.seq (.block 1 (.q [.m 57 55,.I 58 1 53 55,.l 59 58,.m 20 57,.m 21 59] (.q [.m 61 21,.m 62 14,.m 63 20,.I 64 3 62 63,.f 65 0 64,.l 66 65,.W 67 95 61 66,.m 60 67,.X 68 0 60,.X 69 1 60,.m 22 68,.m 23 69] (.seq (.q [.m 70 23,.b 71 .neq 35 70 0] (.cond (.t 71) (.q [.e 12,.F 13] .ret) .skip)) (.ops [.m 72 19,.m 73 20,.m 74 22,.I 75 1 72 73,.S 1 75 74]))))) (.ops [.b 76 .add 3 55 1,.m 55 76]))))))) (.q [.L 78 8 16,.m 79 17,.z 80 (.w 52 [.t 78,.t 79,.k 0]),.m 81 19,.W 82 29 80 81,.m 77 82,.X 83 0 77,.X 84 1 77,.X 85 2 77,.m 24 83,.m 25 84,.m 26 85] (.seq (.q [.m 86 18,.b 87 .neq 35 86 0,.m 88 87,.mn 89 88 26,.nb 90 88 .neq 35 89 0,.p 91 88 90] (.cond (.t 91) (.q [.e 12,.F 13] .ret) .skip)) (.q [.m 92 24,.z 93 (.ixAddr 1 (.t 92) (.k 3)),.l 94 93,.m 12 94,.z 13 (.move .T)] .ret)))))))))))
def r_law24_raised:Na Tryz.prog 48=some ⟨95,zd6.r,[.tmp 12,.tmp 13]⟩:=Aa
def zak{bs:List Bf}{P:LV}{W:List LV}{L:List Lo}{deep:Nat}(hd:deep≤100)(hL:L.length≤1000000)(hW:∃a b c d e f,W=[.i a,.i b,.i c,.i d,.i e,.i f]) :
  O2 52 [.agg (.lst (P8 bs) bs.length 3::P::W),.lst (Pm L) L.length 8,.i deep] (.agg (M8 ((64:Nat):Int) bs (Pv deep 0++(L++List.replicate deep Um)))):=by
 obtain⟨w1,w2,w3,w4,w5,w6,rfl⟩:=hW;refine Sa.mk (by simp[LV.dat,zho]) (Nb r_law24_program Aa (by simp) ?_);simp[zbk];refine Po (λM Z O X=>∃(i st E:Nat) (v:LV),Z=[]∧X+i=deep∧lk M 1=.lst (Pm L) L.length 8∧lk M 2=.i deep∧lk M 6=.ptr 1 0∧lk M 7=.ptr 2 0∧lk M 8=.i i∧3≤O.length∧O[1]?=some (.cells [.i 0,.nilSl,.nilSl] E)∧O[2]?=some (.cells [.i 64,.lst (P8 bs) bs.length 3,v] st)∧Py 3 O v 8 (Pv i 0).length (Pm (Pv i 0))) (N:=deep)
  ⟨0,1,0,.nilSl,rfl,J,by simp,by simp,by simp,by simp,by simp,by simp,by simp,by simp,Py.nil⟩ ?_
 rintro X M Z O ⟨i,st,E,v,rfl,hN,U,F,G,C,V,hl,K,H,hv⟩ Nx I;by_cases gg:i<deep
 ·have g':(i:Int)<deep:=J
  simp[U,F,G,C,V,H,gg];refine hv.push_end.push (c:=1) J Ab (by rw[lpsL_len];omega) (by simp) rfl λQ G5 g j D=>?_
  have z:=(j 2 J).trans ((M6 J).trans H);have A:=(j 1 J).trans ((M6 J).trans K);have B:=g.cells;simp[-LV.cells,B,C,z,V];refine⟨J,I _ _ _ ⟨X-1,J,i+1,st+1,E,Q,rfl,J,Dl,Ah,Bc,As,by simp,by simp at D ⊢;omega,?_,?_,?_⟩⟩
  ·rw[Hx J];exact A
  ·exact H0 (Hu.1 z).1
  ·rw[lpsL_snoc,H8,znf,Int.zero_add];exact g.set_lt J
 ·have hi:i=deep:=J
  subst hi;simp[U,F,G,C,V,H];refine⟨J,?_⟩;refine hv.push (c:=L.length) J J (by rw[lpsL_len];omega) (zz1 L) (Ug L) λQ G5 g j D=>?_
  have z:=(j 2 J).trans H;have A:=(j 1 J).trans K;have B:=g.cells;simp[-LV.cells,B,C,z];have R:=(Hu.1 z).1;refine Po (λM Z O X=>∃(T st E:Nat) (v:LV),Z=[]∧X+T=i∧lk M 2=.i i∧lk M 6=.ptr 1 0∧lk M 7=.ptr 2 0∧lk M 9=.i T∧3≤O.length∧O[1]?=some (.cells [.i 0,.nilSl,.nilSl] E)∧O[2]?=some (.cells [.i 64,.lst (P8 bs) bs.length 3,v] st)∧Py 3 O v 8 (Pv i 0++(L++List.replicate T Um)).length (Pm (Pv i 0++(L++List.replicate T Um)))) (N:=i)
   ⟨0,st+1,E,Q,rfl,J,Ah,Bc,As,by simp,Ab,?_,H0 R,?_⟩ ?_
  ·rw[Hx J];exact A
  ·simp only[List.replicate_zero,Ji,H8];rw[znf];exact g.set_lt J
  clear U F G C V hl K H hv z A R g j D B I Nx;rintro X M Z O ⟨T,st,E,v,rfl,hN,F,G,C,Y,hl,K,H,hv⟩ Nx I;by_cases gg:T<i
  ·simp[F,G,C,Y,H,gg];refine hv.push_end.push (c:=1) J Ab (by simp[lpsL_len];omega) (by simp) rfl λQ G5 g j D=>?_
   have z:=(j 2 J).trans ((M6 J).trans H);have A:=(j 1 J).trans ((M6 J).trans K);have B:=g.cells;simp[-LV.cells,B,C,z,Y];refine⟨J,I _ _ _ ⟨X-1,J,T+1,st+1,E,Q,rfl,J,Ah,Bc,As,by simp,by simp at D ⊢;omega,?_,?_,?_⟩⟩
   ·rw[Hx J];exact A
   ·exact H0 (Hu.1 z).1
   ·rw[show Pv i 0++(L++List.replicate (T+1) Um)=(Pv i 0++(L++List.replicate T Um))++[Um] by rw[List.replicate_succ'];simp,H8,znf];exact g.set_lt J
  ·have hj:T=i:=J
   subst hj;have hb:=(hv.set_lt (q:=1) (ob:=.cells [.i 64,.lst (P8 bs) bs.length 3,v] (E+1)) J).bor;simp[-O5,F,G,C,Y,H,K];rw[H0 (Hu.1 K).1];refine⟨by simp,_,_,rfl,⟨rfl,rfl⟩,_,_,rfl,⟨rfl,by simp[LV.dat,Tn]⟩,_,_,rfl,hb,rfl⟩
def zwb{bs:List Bf}{w6:Int}{fill:List UInt64}{gD:LV→M0→Prop}(hs:∀b∈bs,0≤b.size∧b.size≤1000000)(hb:bs.length≤1000)(gB:fill.length≤1000)
  (kk:∀(X:List (List UInt64)) (p A st:Nat) (G:M0),X.length=bs.length→(∀i,i<bs.length→((X.getD i []).length:Int)=(Ng bs i).size)→(∀q,q<F.length→G[q]?=F[q]?)→F.length≤p→F.length≤G.length→bs≠[]→G[p]?=some (.dyn (X.map LU) X.length 1 A st)→gD (.dy p A) G) (H:bs≠[]) :
  Ob (.fn 101) [.agg [.lst (P8 bs) bs.length 3,R,.i z,.i B,.i V,.i vV,.i uV,.i w6],.lst (fill.map .u) fill.length 1] F gD:=by
 refine Nb r_law24_rows Aa (by simp) ?_;simp[zgl];refine Po (λρ gE D N=>∃(i Q:Nat) (v:LV) (X:List (List UInt64)),gE=[]∧N+i=bs.length∧lk ρ 1=.lst (fill.map .u) fill.length 1∧lk ρ 2=.ptr F.length 0∧lk ρ 5=v∧lk ρ 6=.i i∧F.length<D.length∧(∀q,q<F.length→D[q]?=F[q]?) ∧
   D[F.length]?=some (.cells [.lst (P8 bs) bs.length 3,R,.i z,.i B,.i V,.i vV,.i uV,.i w6] Q)∧X.length=i∧(∀T,T<i→((X.getD T []).length:Int)=(Ng bs T).size)∧Py (F.length+1) D v 1 i (X.map LU)) (N:=bs.length)
  ⟨0,0,.nilSl,[],rfl,J,by simp,by simp,by simp,by simp,by simp,λq E=>Ie E,by simp,rfl,λT h=>J,Py.nil⟩ ?_
 rintro N ρ gE D ⟨i,Q,v,X,rfl,hN,h1,U,h5,Y,I,K,C,j,hX,hD⟩ Nx Z;by_cases gA:i<bs.length
 ·have q0:=zgn (Sk gA);have E:=zqk gA;have hz:=hs _ (Iq (Sk gA));have pp:∀x:List LObj,(D++x)[F.length]?=_:=λx=>(M6 I).trans C
  simp[h1,U,h5,Y,C,↓pp,gA,Nh q0];refine⟨J,J,?_⟩;obtain⟨gC,L⟩:=Hz hz.1;rw[L];generalize Tc (iU ↑i) 1234567891011=g;have o1:(D++[LObj.dyn (fill.map .u++[.u g]) (fill.length+1) 1 2 2,LObj.dyn [.u g] 1 1 0 0])[D.length]?=some (.dyn ((fill++[g]).map .u) (fill++[g]).length 1 2 2):=by
   rw[Il (H9 _),Ml];simp
  have o2:=λq (E:q<D.length)=>(M6 (x:=[LObj.dyn (fill.map .u++[.u g]) (fill.length+1) 1 2 2,LObj.dyn [.u g] 1 1 0 0]) E)
  have o3:=hD.push_end (ob:=[LObj.dyn (fill.map .u++[.u g]) (fill.length+1) 1 2 2,LObj.dyn [.u g] 1 1 0 0]);have o4:(D++[LObj.dyn (fill.map .u++[.u g]) (fill.length+1) 1 2 2,LObj.dyn [.u g] 1 1 0 0]).length=D.length+2:=by simp
  generalize D++[LObj.dyn (fill.map .u++[.u g]) (fill.length+1) 1 2 2,LObj.dyn [.u g] 1 1 0 0]=GA at *;refine Nw (zjx (fill++[g]) gC J Ab (by simp)) ⟨_,_,rfl,⟨_,_,_,_,rfl,o1,Yl _⟩,_,_,rfl,⟨rfl,rfl⟩,rfl⟩ ?_;have M:=zfj (fill++[g]) gC;generalize fx (fill++[g]) gC=gF at *;simp[RU];refine Py.push (c:=1) (x:=[LU gF]) (o3.push_end) J Ab J rfl (by simp[dats,LV.dat,Yl]) λv' G gg O gz=>?_
  simp at gz;simp[Y];refine⟨J,Z _ _ _ ⟨N-1,J,i+1,Q,v',X++[gF],rfl,J,by simp[h1],Dl,by simp,by simp,J,?_,?_,An,?_,?_⟩⟩
  ·intro q E;rw[O q J,M6 J,o2 q J];exact K q E
  ·rw[O _ J,M6 J,o2 _ I];exact C
  ·intro T hj;by_cases e:T=i
   ·subst e;rw[Hy,←j,Im,j,L];simp[M]
   ·rw[Hy,Ie J,←Hy];exact hX T J
  ·rw[Le];exact gg
 ·have gi:i=bs.length:=J
  subst gi;obtain⟨_,_,⟨_,e0,_⟩|⟨p,A,st,hp,rfl,P⟩⟩:=hD
  ·exact absurd (In e0) H
  simp[U,h5,Y,C];exact kk X p A st D j (λi hi=>hX i hi) K J J H (by rw[j];exact P)
def zme(n m:Int):O2 41 [.i n,.i m] (.lst (Px [⟨n,true,0⟩,⟨m,true,0⟩,⟨n,true,0⟩,⟨n,true,0⟩]) 4 3):=by
 refine Sa.mk (by simp[LV.dat,Tz]) (Nb r_law24_four Aa N ?_);simp[zgy,Px,Vr.f]
def Oz(w:UInt64):Ko:=⟨13,3,-1,0,1,2,w⟩
def zgj(w:UInt64):Nj 43 [.u w] (.agg (Oz w).f) []:=by
 refine Oj.val rfl (Nb r_law24_pow Aa N ?_);simp[zjy,Oz,Ko.f]
def Oq:List Vr:=[⟨1,true,0⟩,⟨1,true,0⟩,⟨1,true,0⟩,⟨1,true,0⟩]
def w_six{w:UInt64}(hw:1≤w.toNat∧w.toNat≤6):w=1∨w=2∨w=3∨w=4∨w=5∨w=6:=by
 have h:w.toNat=1∨w.toNat=2∨w.toNat=3∨w.toNat=4∨w.toNat=5∨w.toNat=6:=J
 rcases h with h|h|h|h|h|h
 ·exact .inl (I8.1 h)
 ·exact .inr (.inl (I8.1 h))
 ·exact .inr (.inr (.inl (I8.1 h)))
 ·exact .inr (.inr (.inr (.inl (I8.1 h))))
 ·exact .inr (.inr (.inr (.inr (.inl (I8.1 h)))))
 ·exact .inr (.inr (.inr (.inr (.inr (I8.1 h)))))
def pw1{w:UInt64}(hw:1≤w.toNat∧w.toNat≤6):PwV Oq (Oz w) 3 0 1 2:=by
 have ho:Pg Oq (Oz w)=true:=by rcases w_six hw with rfl|rfl|rfl|rfl|rfl|rfl<;>decide +kernel
 obtain⟨d,a,b,c,h⟩:=pwV (vs:=Oq) (o:=Oz w) rfl (by decide +kernel) ho;have g:=h.fd.1;have j:=h.fa.1;have z:=h.fb.1;have A:=h.fc.1;simp only[Oz]at g j z A;have B:d=3:=J
 have C:a=0:=J
 have D:b=1:=J
 have E:c=2:=J
 subst B C D E;exact h
def zh2{i:Nat}(hi:i<4):gv Oq i=⟨1,true,0⟩:=by
 have h:i=0∨i=1∨i=2∨i=3:=J
 rcases h with rfl|rfl|rfl|rfl<;>rfl
def pl1{w:UInt64}(hw:1≤w.toNat∧w.toNat≤6):PwL Oq (Oz w):=by
 refine⟨by simp[Oq],λi hi=>by rw[zh2 (by simpa [Oq] using hi)],?_⟩;rw[zuv (pw1 hw)];have g:=ew hw.2;have e:(Oz w).imm=w:=rfl;rw[zh2 J,zh2 J,e];simp only;omega
def zj4{w:UInt64}{a b n:List UInt64}(hw:1≤w.toNat∧w.toNat≤6)(ha:a.length≤1000)(hb:b.length≤1000)(hn:n.length≤1000)(ho:val n%2=1)(H:val n<2^(64*(0+1)))(gg:val a<val n)(g9:val b<2^(64*(0+1))) :
  O2 48 [.i 1,.i 1,.u w,LU a,LU b,LU n] (.tup [LU [UInt64.ofNat (val a^val b%val n)],.bool true]):=by
 refine Sa.mk (by simp[LV.dat,dats,Yl]) (Nb r_law24_raised Aa (by simp) ?_);have hV:=pw1 hw;have hL:=pl1 hw;obtain⟨jg,_,_⟩:=zig hV;have jz:=zf9 Oq (Oz w) (by simp[Oq]);have gz:=zpf Oq (Ol Oq (Oz w)) (by simp[Oq]);have z:=zo3 Oq (Oz w) (Qg Oq (Ol Oq (Oz w))) (Uo Oq) ⟨Oq.length,0,Ol Oq (Oz w)⟩ ⟨(Oq.length:Int)+1,0,Ol Oq (Oz w)⟩ 0 (by simp[Oq]) (by rw[plB_len];simp[Oq]);have gA:=pe (deep:=0) hV hL J;unfold Yk Xy at z;rw[H7 gA,H7 gA]at z;have jA:Sl Oq (Oz w) (Uo Oq) ⟨Oq.length,0,Ol Oq (Oz w)⟩ ⟨(Oq.length:Int)+1,0,Ol Oq (Oz w)⟩=Ok Oq (Oz w):=rfl;rw[jA]at z;have jB:Vb Oq++[⟨Ol Oq (Oz w),2,false⟩,⟨Ol Oq (Oz w),2,true⟩]=Qg Oq (Ol Oq (Oz w)):=rfl;rw[jB]at gz;have jC:=hL.w;have C:=λX hX=>zz0 (deep:=0) hV hL (by rw[zh2 J];simp) (by rw[zh2 J]) J (X:=X) (Y:=X) hX hX
 have jD:∀i,i<4→(Ng (Qg Oq (Ol Oq (Oz w))) i).size=1:=λi hi=>by rw[xq (by simpa [Oq] using hi),zh2 hi]
 have gB:=zrw (vs:=Oq) (W:=Ol Oq (Oz w)) (by decide +kernel) ⟨jg,jC⟩;have gC:(Qg Oq (Ol Oq (Oz w))).length=6:=by rw[plB_len];rfl
 have jE:=zvu (p:=Ok Oq (Oz w)) (D:=0);have j0:S9 Oq 3=5:=rfl;have I:(Ok Oq (Oz w)).prog 0=(Ok Oq (Oz w)).code 0:=rfl;rw[I]at C;have V:(Oz w).f=[.i 13,.i 3,.i (-1),.i 0,.i 1,.i 2,.u w]:=rfl;generalize j1:Ol Oq (Oz w)=W at *;generalize j4:Qg Oq W=j at *;generalize j5:((Ok Oq (Oz w)).code 0)=jZ at *;have A:Qt j (Uo Oq) ⟨Oq.length,0,W⟩ ⟨(Oq.length:Int)+1,0,W⟩=[.lst (P8 j) j.length 3,.lst (Xe (Uo Oq)) (Uo Oq).length 3,.i 4,.i 0,.i W,.i 5,.i 0,.i W]:=rfl;simp[zd6];refine R0 (zme 1 1) Br ?_;have hv:[(⟨1,true,0⟩:Vr),⟨1,true,0⟩,⟨1,true,0⟩,⟨1,true,0⟩]=Oq:=rfl;rw[hv];simp;refine Nw (zgj w) (by simp) ?_;simp[V];rw[←V];refine Nw jz (bors_self _ (by simp[dats,LV.dat,Tz,V])) ?_;have g1:¬W<1:=J
 simp[g1];refine R0 gz Ch ?_;simp[A];refine Nw (zgj w) (by simp) ?_;simp[V];rw[←V,←A];refine R0 z (by simp[dats,LV.dat,Tz,zcj,V]) ?_;simp[A];refine z9u (a:=[.agg [.lst (P8 j) j.length 3,.lst (Xe (Uo Oq)) (Uo Oq).length 3,.i 4,.i 0,.i W,.i 5,.i 0,.i W]]) (b:=[]) (p:=1) rfl ?_;refine zwb (fill:=[3]) (bs:=j) (λb hb=>by have:=gB b hb;omega) J (by simp) (λX p gD st G' j6 jF gE hp jG _ gF=>?_) (λe=>by rw[e]at gC;simp at gC);have gG:X.length=6:=J
 have jH:G'[0]?=_:=(gE 0 (by simp)).trans (by simp;rfl);simp only[J1,Ig,Iw]at hp jG;clear gE;simp;have E:∀g,g<3→val (([a,b,n]:List (List UInt64)).getD g [])<2^(64*(0+1)):=λg Z=>by
  have h:g=0∨g=1∨g=2:=J
  rcases h with rfl|rfl|rfl
  ·exact Nat.lt_trans gg H
  ·exact g9
  ·exact H
 have K:∀g,g<3→(([a,b,n]:List (List UInt64)).getD g []).length≤1000:=λg Z=>by
  have h:g=0∨g=1∨g=2:=J
  rcases h with rfl|rfl|rfl
  ·exact ha
  ·exact hb
  ·exact hn
 have gH:p<G'.length:=(Hu.1 gF).1;refine Po (λρ D jX N=>∃(i M:Nat) (Y:List (List UInt64)),D=[]∧N+i=3∧lk ρ 14=.lst (Px Oq) 4 3∧lk ρ 16=.ptr 0 0∧lk ρ 17=.lst (Pm jZ.flat) jZ.flat.length 8∧lk ρ 18=.i 0∧lk ρ 19=.dy p gD∧lk ρ 53=.dy G'.length 0∧lk ρ 54=.i 3∧lk ρ 55=.i i∧jX.length=G'.length+1 ∧
   jX[0]?=some (.cells (Qt j (Uo Oq) ⟨Oq.length,0,W⟩ ⟨(Oq.length:Int)+1,0,W⟩) 1)∧jX[p]?=some (.dyn (Y.map LU) 6 1 gD M)∧jX[G'.length]?=some (.dyn (([a,b,n]:List (List UInt64)).map LU) 3 1 0 0)∧Y.length=6∧(∀g,g<j.length→((Y.getD g []).length:Int)=(Ng j g).size)∧∀g,g<i→g<3→Y.getD g []=Tb (([a,b,n]:List (List UInt64)).getD g []) 1) (N:=3)
  ⟨0,st,X,rfl,rfl,by simp,by simp,by simp,by simp,by simp,by simp,by simp,by simp,by simp,(M6 J).trans jH,by rw[M6 gH,gF,gG],Im,gG,jF,λg h=>J⟩ ?_
 rintro N ρ D jX ⟨i,M,Y,rfl,hN,gI,gK,gL,O,Q,gM,R,T,gO,gP,gQ,gR,U,gT,B⟩ Nx jI;by_cases jY:i<3
 ·have g':(i:Int)<3:=J
  have hS:=E i jY;have j7:=K i jY;generalize gU:([a,b,n]:List (List UInt64)).getD i []=S at *;have jK:([LV.lst (a.map .u) a.length 1,.lst (b.map .u) b.length 1,.lst (n.map .u) n.length 1])[i]?=some (LU S):=by
   show (([a,b,n]:List (List UInt64)).map LU)[i]?=some (LU S);rw[Jy,H6 (by simpa using jY),←gU,Hy,H6 (by simpa using jY)];rfl
  have jL:(Px Oq)[i*3]?=some (.i 1):=by
   have h:=zqo (Vx (l:=Oq) (n:=i) (by simp[Oq];omega));rw[zh2 J]at h;exact h
  have F:Sd S 1=0:=by
   have:=jo (k:=0) hS J;simpa using this
  simp[gI,gM,R,T,jY,g',gR,Nh jK,Nh jL,(J:i<4)];refine⟨J,?_⟩;refine Nw (zqq S 1 J) (by simp) ?_;have jM:=zrt F;rw[F];generalize jO:Tb S 1=j9 at *;have jP:i<6:=J
  have G:=zhk LU Y i j9 J;simp only[LU]at G;have jQ:i≤5:=J
  simp[Q,T,gQ,RU,jP,jQ,U];refine⟨J,J,jI _ _ _ ⟨N-1,J,i+1,M+1,Y.set i j9,rfl,J,by simp[gI],by simp[gK],by simp[gL],F5,Cp,by simp[gM],B1,by simp,by simp[gO],?_,?_,?_,Dl,?_,?_⟩⟩
  ·rw[Hx J];exact gP
  ·rw[H0 J];rw[←G]
  ·rw[Hx J];exact gR
  ·intro g Z;rw[e9 _ _ _ _ _ J];by_cases e:g=i
   ·rw[H7 e,e,jD i J];exact jM.1
   ·rw[Hv e];exact gT g Z
  ·intro g Z jR;rw[e9 _ _ _ _ _ J];by_cases e:g=i
   ·rw[H7 e,e,gU,jO]
   ·rw[Hv e];exact B g J jR
 ·have gi:i=3:=J
  subst gi;have y0:=B 0 J J;have y1:=B 1 J J;have y2:=B 2 J J;have fv:∀g,g<3→val (Tb (([a,b,n]:List (List UInt64)).getD g []) 1)=val (([a,b,n]:List (List UInt64)).getD g []):=λg Z=>m6 (by have:=jo (k:=0) (E g Z) J;simpa using this)
  have v0:val (Y.getD 0 [])=val a:=by rw[y0];exact fv 0 J
  have v1:val (Y.getD 1 [])=val b:=by rw[y1];exact fv 1 J
  have v2:val (Y.getD 2 [])=val n:=by rw[y2];exact fv 2 J
  obtain⟨sX,sY,r1,_,_,_,r5,r6,r7,_⟩:=C Y ⟨J,gT⟩;have gV:(Y.getD 2 []).getD 0 0%2=1:=by
   have h:=ic (Y.getD 2 []);have h2:te (Y.getD 2 [])=true:=by rw[h,v2,Nat.testBit_zero];exact Jp ho
   unfold te at h2;exact Kr h2
  have hv:=r6 gV (by rw[v0,v2];exact gg);rw[v0,v1,v2]at hv;rw[zh2 J]at r5;have j8:sX.bufs.length=6:=r1;have jT:sX.bufs.getD 3 []=[UInt64.ofNat (val a^val b%val n)]:=by
   have jU:val a^val b%val n<2^64:=Nat.lt_trans (Kg _ J) H;refine val_inj_length (by rw[r5];rfl) ?_;rw[hv];simp[val,Iy jU]
  have gX:=zak (bs:=j) (P:=.lst (Xe (Uo Oq)) (Uo Oq).length 3) (W:=[.i 4,.i 0,.i W,.i 5,.i 0,.i W]) (L:=jZ.flat) (deep:=0) J J ⟨_,_,_,_,_,_,rfl⟩;simp[Pv]at gX;simp[gK,gL,O,R,T,gP,A];refine R0 gX (by simp[dats,LV.dat,Tn,zen,Ug]) ?_;simp[Q];refine z9u (a:=[.agg (M8 64 j jZ.flat)]) (b:=[]) gQ ?_;have jV:LV.lst (Y.map LU) 6 1=LN Y:=by rw[LN,U]
  rw[jV];refine R0 r7 (by simp[dats,LV.dat,Ug,Tn,M8,Yl]) ?_;have gY:3<sX.bufs.length:=J
  have gZ:(3:Int)<sX.bufs.length:=J
  have h3:sX.bufs[3]=[UInt64.ofNat (val a^val b%val n)]:=by rw[←jT,Hy,H6 gY];rfl
  simp[O,X0,gY,gZ,h3]
def zef:LC:=(.q [.F 0] (.q [.z 6 (.w 45 [(.k 1),.k 5]),.m 5 6,.X 7 0 5,.X 8 1 5,.m 1 7,.m 2 8] (.q [.z 10 (.buildSl 1 1 [(.u 0)] [(0,1,.c (.u 3))]),.z 11 (.buildSl 1 1 [(.u 0)] [(0,1,.c (.u 4))]),.z 12 (.buildSl 1 1 [(.u 0)] [(0,1,.c (.u 7))]),.z 13 (.w 48 [(.k 1),.k 1,.c (.u 2),.t 10,.t 11,.t 12]),.m 9 13,.X 14 0 9,.X 15 1 9,.m 3 14,.m 4 15] (.q [.m 16 1,.b 17 .eql 3 16 13,.m 18 17,.my 19 18 2,.y 20 18 (.bin .eql true 3 (.t 19) (.k 1)),.q 21 18 20,.m 22 21,.my 23 22 4,.q 24 22 23,.m 25 24,.my 26 25 3,.y 27 25 (.buildSl 1 1 [(.u 0)] [(0,1,.c (.u 4))]),.y 28 25 (.w 32 [.t 26,.t 27]),.q 29 25 28,.m 0 29] .ret))))
def r_law24_lives:zu7 Tryz.prog 40=some ⟨30,zef.r,[.tmp 0]⟩:=Aa
def zwq{w:UInt64}{a b n:List UInt64}{p q r:Nat}(E:F[p]?=some (.dyn (a.map .u) a.length 1 0 g))(G:F[q]?=some (.dyn (b.map .u) b.length 1 0 j))(H:F[r]?=some (.dyn (n.map .u) n.length 1 0 A))(I:p≠q)(K:p≠r)(L:q≠r)
  (hw:1≤w.toNat∧w.toNat≤6) (M:a.length≤1000) (O:b.length≤1000) (P:n.length≤1000) (ho:val n%2=1) (z:val n<2^(64*(0+1))) (B:val a<val n) (C:val b<2^(64*(0+1)))
  (Q:∀D,D.length=F.length→(∀x,x≠p→x≠q→x≠r→D[x]?=F[x]?)→X (.tup [LU [UInt64.ofNat (val a^val b%val n)],.bool true]) D):Ob (.fn 48) [.i 1,.i 1,.u w,.dy p 0,.dy q 0,.dy r 0] F X:=by
 refine z9u (a:=[.i 1,.i 1,.u w]) (b:=[.dy q 0,.dy r 0]) E ?_;refine z9u (a:=[.i 1,.i 1,.u w,LU a]) (b:=[.dy r 0]) (by rw[Hx I];exact G) ?_;refine z9u (a:=[.i 1,.i 1,.u w,LU a,LU b]) (b:=[]) (by rw[Hx L,Hx K];exact H) ?_;refine R0 (zj4 hw M O P ho z B C) (by simp[LV.dat,dats,Yl]) ?_;refine Q _ N λx R T U=>?_
 rw[Hx (Ne.symm U),Hx (Ne.symm T),Hx (Ne.symm R)]
def law24_lives_ok:Nj 40 [] (.bool true) []:=by
 refine Oj.val rfl (jp r_law24_lives Aa Aa ⟨Aa,Aa⟩ rfl ?_);simp[zef];refine Nw (zao 1 5) N ?_;simp;refine zwq (a:=[3]) (b:=[4]) (n:=[7]) (p:=0) (q:=1) (r:=2) rfl rfl rfl J J J Ac N N N B9 B9 B9 B9 λg j z=>?_
 have e:val [3]^val [4]%val [7]=4:=B9
 rw[e];have hw:Rp 1 5=13:=Ac
 have ho:Rv 1 5=1:=Ac
 simp[hw,ho];refine z9u (a:=[LU [4]]) (b:=[]) Im ?_;refine Nw (z8q [4] [4] N N) (bors_self _ Bs) ?_;simp
def z5x:LC:=(.q [.x 3 0,.x 4 1,.F 6] (.seq (.q [.f 9 0 4,.l 10 9,.b 11 .eql 3 10 16] (.cond (.t 11) (.q [.F 6] .ret) .skip)) (.seq (.q [.f 12 0 4,.l 13 12,.b 14 .eql 3 13 14] (.cond (.t 14) (.q [.f 15 1 3,.l 16 15,.f 17 6 4,.l 18 17,.I 19 3 16 18,.f 20 2 19,.l 21 20,.m 6 21] .ret) .skip)) (.q [.L 22 8 4,.w 23 143 22,.m 7 23] (.seq (.q [.K 8 0] (.block 0 (.loop (.seq (.q [.m 24 8,.m 25 7,.s 26 25,.c 27 .lss 3 24 26] (.cond (.t 27) .skip (.exit 0))) (.seq (.block 1 (.q [.m 30 2,.m 31 7,.m 32 8,.I 33 1 31 32,.l 34 33,.I 35 1 30 34,.l 36 35] (.cond (.t 36) (.q [.z 6 (.move .T)] .ret) .skip))) (.ops [.m 28 8,.b 29 .add 3 28 1,.m 8 29])))))) (.q [.F 6] .ret))))))
def r_ref13_secret:Na Tryz.prog 145=some ⟨37,z5x.r,[.tmp 6]⟩:=Aa
def zdj:LC:=(.q [.x 1 0,.e 2] (.q [.L 11 3 1,.w 12 78 11,.m 10 12,.X 13 0 10,.X 14 1 10,.m 3 13,.m 4 14] (.seq (.q [.m 15 4,.b 16 .neq 35 15 0] (.cond (.t 16) (.q [.e 2] .ret) .skip)) (.q [.f 17 0 1,.l 18 17,.z 19 (.mkSl 1 [(.bool false)] (.t 18) (.t 18)),.m 5 19] (.seq (.q [.z 6 (.move .T)] (.block 0 (.loop (.seq (.q [.m 20 6] (.cond (.t 20) .skip (.exit 0))) (.block 1 (.q [.F 6] (.q [.K 7 0] (.block 2 (.loop (.seq (.q [.m 21 7,.f 22 2 1,.l 23 22,.s 24 23,.c 25 .lss 3 21 24] (.cond (.t 25) .skip (.exit 2))) (.seq (.block 3 (.q [.f 28 2 1,.l 29 28,.m 30 7,.I 31 8 29 30,.L 32 8 31,.w 33 142 32,.m 8 33] (.q [.K 9 0] (.block 4 (.loop (.seq (.q [.m 34 9,.m 35 8,.s 36 35,.c 37 .lss 3 34 36] (.cond (.t 37) .skip (.exit 4))) (.seq (.block 5 (.seq (.draw [(.m 40 5,[]),(.m 41 8,[]),(.m 42 9,[]),(.I 43 1 41 42,[]),(.l 44 43,[]),(.I 45 1 40 44,[]),(.l 46 45,[]),(.z 47 (.un .not (.t 46)),[]),(.m 48 47,[]),(.y 49 48 (.loadN 3 (.t 1)),[]),(.yf 50 48 2 1,[]),(.yl 51 48 50,[]),(.my 52 48 7,[]),(.y 53 48 (.ixAddr 8 (.t 51) (.t 52)),[]),(.y 54 48 (.loadN 8 (.t 53)),[]),(.my 55 48 5,[]),(.y 56 48 (.w 145 [.t 49,.t 54,.t 55]),[]),(.q 57 48 56,[])]) (.cond (.t 57) (.ops [.m 58 5,.m 59 8,.m 60 9,.I 61 1 59 60,.l 62 61,.I 63 1 58 62,.v (.store 1 (.t 63) .T),.z 6 (.move .T)]) .skip))) (.ops [.m 38 9,.b 39 .add 3 38 1,.m 9 39])))))))) (.ops [.m 26 7,.b 27 .add 3 26 1,.m 7 27])))))))))))) (.q [.m 64 5,.m 2 64] .ret))))))
def r_ref13_Secret:Na Tryz.prog 79=some ⟨65,zdj.r,[.tmp 2]⟩:=Aa
def zfg:LC:=(.q [.x 1 0,.K 2 0,.K 3 0] (.q [.L 11 3 1,.w 12 78 11,.m 10 12,.X 13 0 10,.X 14 1 10,.m 4 13,.m 5 14] (.seq (.q [.m 15 5,.b 16 .neq 35 15 0] (.cond (.t 16) (.q [.m 17 4,.m 18 5,.m 2 17,.m 3 18] .ret) .skip)) (.q [.L 19 3 1,.w 20 79 19,.m 6 20] (.seq (.q [.K 7 0] (.block 0 (.loop (.seq (.q [.m 21 7,.f 22 2 1,.l 23 22,.s 24 23,.c 25 .lss 3 21 24] (.cond (.t 25) .skip (.exit 0))) (.seq (.block 1 (.q [.f 28 2 1,.l 29 28,.m 30 7,.I 31 8 29 30,.L 32 8 31,.z 8 (.alloc [(.i 0),(.i 0),(.i 0),(.i 0),(.i 0),(.i 0),(.i 0),(.u 0)]),.S 8 8 32] (.q [.f 33 0 8,.l 34 33,.b 35 .eql 3 34 14,.m 36 35,.nf 37 36 0 8,.nl 38 36 37,.nb 39 36 .eql 3 38 15,.p 40 36 39,.m 9 40] (.q [.m 41 9,.m 42 41,.yf 43 42 3 8,.yl 44 42 43,.y 45 42 (.bin .geq true 3 (.t 44) (.k 0)),.q 46 42 45,.m 47 46,.my 48 47 6,.yf 49 47 3 8,.yl 50 47 49,.y 51 47 (.ixAddr 1 (.t 48) (.t 50)),.yl 52 47 51,.q 53 47 52,.m 54 53,.nf 55 54 0 8,.nl 56 54 55,.nb 57 54 .eql 3 56 15,.mn 58 54 57,.my 59 58 6,.yf 60 58 4 8,.yl 61 58 60,.y 62 58 (.ixAddr 1 (.t 59) (.t 61)),.yl 63 58 62,.n 64 54 (.pick (.t 58) (.t 63) .F),.mn 65 54 64,.yf 66 65 1 1,.yl 67 65 66,.yf 68 65 6 8,.yl 69 65 68,.y 70 65 (.ixAddr 3 (.t 67) (.t 69)),.yf 71 65 2 70,.yl 72 65 71,.y 73 65 (.un .not (.t 72)),.n 74 54 (.pick (.t 65) (.t 73) .F),.p 75 54 74,.m 76 75,.nf 77 76 0 8,.nl 78 76 77,.nb 79 76 .eql 3 78 16,.mn 80 76 79,.my 81 80 6,.yf 82 80 1 8,.yl 83 80 82,.y 84 80 (.ixAddr 1 (.t 81) (.t 83)),.yl 85 80 84,.n 86 76 (.pick (.t 80) (.t 85) .F),.p 87 76 86] (.cond (.t 87) (.q [.m 88 7,.m 2 88,.K 3 12] .ret) .skip))))) (.ops [.m 26 7,.b 27 .add 3 26 1,.m 7 27])))))) (.q [.f 89 2 1,.l 90 89,.s 91 90,.m 2 91,.K 3 0] .ret))))))
def r_ref13_Check:Na Tryz.prog 25=some ⟨92,zfg.r,[.tmp 2,.tmp 3]⟩:=Aa
def lg{o:Lo}(h:Ps z Z o=true)(g:o.kind=14∨o.kind=15):0≤o.buf∧o.buf.toNat<Z.length:=by
 unfold Ps at h;simp only[Hw,Ib]at h;obtain⟨⟨A,B⟩,d,e,a,b,c,f,j⟩:=h;rw[H7 (by rcases g with q|q<;>simp[O0,q])]at j;simp only[Hw,Ib]at j;omega
def zi9{r:Nat}{os:List Lo}{m:List Bool}{o:Lo}(U:Ps r Z o=true)(hm:m.length=r) :
  O2 145 [.agg (M8 r Z os),.agg o.f,.lst (m.map .bool) r 1] (.bool (Xm Z m o)):=by
 refine Sa.mk rfl (Nb r_ref13_secret Aa (by simp) ?_);have I:o.f=[.i o.kind,.i o.d,.i o.e,.i o.a,.i o.b,.i o.c,.i o.buf,.u o.imm]:=rfl;obtain⟨Y,_,_⟩:=z2y U;generalize g:Xm Z m o=gB;unfold Xm at g;by_cases z:o.kind=16
 ·rw[H7 z]at g;simp[z5x,M8,I,z,g]
 rw[Hv z]at g;by_cases j:o.kind=14
 ·rw[H7 j]at g;obtain⟨b0,K⟩:=lg U (.inl j);obtain⟨bn,G⟩:=Hz b0;rw[G]at K g;simp only[Is]at K g;have q2:=zug (Sk K);simp[z5x,M8,I,j,G,K,Nh q2,g]
 rw[Hv j]at g;simp[z5x,M8,I,z,j];refine R0 (by rw[←I];exact zdo o) Br ?_;simp;have gg:=zmc o;refine Po (λX gz gA N=>∃P:Nat,gz=[]∧N+P=(Od o).length∧lk X 2=.lst (m.map .bool) r 1∧lk X 7=.lst ((Od o).map .i) (Od o).length 1∧lk X 8=.i P∧∀x∈(Od o).take P,O1 m x=false) (N:=(Od o).length)
  ⟨0,rfl,J,by simp,by simp,by simp,by simp⟩ ?_
 rintro N X gz gA ⟨P,rfl,hN,L,M,Q,R⟩ Nx T;by_cases F:P<(Od o).length
 ·have V:=bm (f:=LV.i) (rf F);have H:=zfp F;have C:=zix F;generalize gd (Od o) P=x at *;obtain⟨x0,xr⟩:=Y x C;obtain⟨O,rfl⟩:=Hz x0;have D:O<r:=J
  have A:(m.map LV.bool)[O]?=some (.bool (O1 m (O:Int))):=by simp[O1,hm,D]
  cases B:O1 m (O:Int) with
  |true =>
   rw[B]at A;rw[show (Od o).any (O1 m)=true from I9.2 ⟨_,C,B⟩]at g;subst g;simp[L,M,Q,F,Nh V,D,Nh A]
  |false =>
   rw[B]at A;simp[L,M,Q,F,Nh V,D,Nh A];refine⟨J,T _ _ _ ⟨N-1,J,P+1,rfl,J,D0,A9,by simp,λy E=>?_⟩⟩;rw[H]at E;rcases Ip.1 E with E|E
   ·exact R y E
   ·simp at E;rw[E];exact B
 ·rw[Ij J]at R;have:(Od o).any (O1 m)=false:=by rw[Li];intro x hx;simp[R x hx]
  rw[this]at g;subst g;simp[L,M,Q,F]
def zg6(l:List Bool):dats (l.map .bool)=true:=by induction l<;>simp_all [dats,LV.dat]
def zjk{r:Nat}{os:List Lo}(hc:(Qw r Z os).2=0) :
  O2 79 [.agg (M8 r Z os)] (.lst ((Xv r Z os).map .bool) r 1):=by
 obtain⟨jg,gY,jz,jA,gZ,gz⟩:=z7d hc;refine Sa.mk (by simp[LV.dat,zg6]) (Nb r_ref13_Secret Aa (by simp) ?_);have gO:dats (M8 r Z os)=true:=zho _ _ _;simp[zdj,M8];refine Nw (z46 r Z os) (bors_self _ Be) ?_;simp[hc];refine⟨J,?_⟩;have gA:∀o∈os,∀x∈M7 o,0≤x∧x<(r:Int):=λo ho=>(z2y (gz o ho)).2.1
 refine Po (λT gM gL N=>∃(st n:Nat) (m:List Bool) (D:Bool),gM=[]∧N=(if D=true then n+1 else 0)∧lk T 1=.ptr 0 0∧lk T 5=.dy 1 0∧lk T 6=.bool D∧gL[0]?=some (.cells (M8 r Z os) 0)∧gL[1]?=some (.dyn (m.map .bool) r 1 0 st)∧m.length=r∧(D=true→Tu m<n)∧(if D=true then W2 Z os n m else m)=Xv r Z os) (N:=r+1+1)
  ⟨0,r+1,List.replicate r false,true,rfl,by simp,by simp,by simp,by simp,By,by simp[repBs],by simp,λ_=>?_,by simp[Xv]⟩ ?_
 ·have:Tu (List.replicate r false)≤r:=by unfold Tu;exact Ja (List.countP_le_length) (by simp)
  omega
 rintro N T gM gL ⟨st,n,m,D,rfl,hN,G,F,I,g,j,gB,gC,hL⟩ Nx gP;cases D with
 |false =>
  simp at hL;simp[F,I];exact⟨_,_,_,⟨rfl,rfl,rfl⟩,⟨st,by rw[j,hL]⟩,zg6 _⟩
 |true =>
 simp at hN gC hL;subst hN;obtain⟨n,rfl⟩:∃k,n=k+1:=⟨n-1,J⟩;rw[W2]at hL;simp[F,I];refine Po (λT gM gL N=>∃(i st:Nat) (Y:List Bool) (z:Bool),gM=[]∧N+i=os.length∧lk T 1=.ptr 0 0∧lk T 5=.dy 1 0∧lk T 6=.bool z∧lk T 7=.i i∧gL[0]?=some (.cells (M8 r Z os) 0)∧gL[1]?=some (.dyn (Y.map .bool) r 1 0 st)∧Y.length=r∧Y1 Z (os.drop i) (Y,z)=Y1 Z os (m,false)) (N:=os.length)
  ⟨0,st,m,false,rfl,J,Bc,Ah,by simp,by simp,g,j,gB,by simp⟩ ?_
 clear G F I g j;rintro N T gM gL ⟨i,gD,Y,z,rfl,hN,G,F,I,K,g,j,U,H⟩ jB gE;have l0:=(Hu.1 g).1;have l1:=(Hu.1 j).1;by_cases gX:i<os.length
 case neg =>
  rw[J0 J,Y1]at H;rw[←H]at hL;have gF:=zvo Z os (m,false) (by rw[gB];exact gA);rw[←H]at gF;have gQ:¬i<os.length:=gX;simp[G,K,g,M8,gQ];refine gP _ _ _ ⟨if z=true then n+1 else 0,by split<;>omega,gD,n,Y,z,rfl,rfl,Bc,Ah,Dm,g,j,U,λhm=>?_,by simpa using hL⟩;have:=gF.2 hm;simp at this;omega
 have ho:=zh3 gX;have V:dh os i∈os:=Iq ho;rw[zhs gX,Y1]at H;have gG:=zcl ho;have gH:=yj gX;generalize dh os i=o at *;have hC:o.f=[.i o.kind,.i o.d,.i o.e,.i o.a,.i o.b,.i o.c,.i o.buf,.u o.imm]:=rfl;simp[G,K,g,M8,gX,gG,gH];refine R0 (zde o) (by simp[dats,LV.dat,hC]) ?_;simp;have gR:=gA o V;refine Po (λT gM gL N=>∃(gg st:Nat) (E:List Bool) (B:Bool),gM=[]∧N+gg=(M7 o).length∧lk T 1=.ptr 0 0∧lk T 5=.dy 1 0∧lk T 6=.bool B∧lk T 7=.i i∧lk T 8=.lst ((M7 o).map .i) (M7 o).length 1∧lk T 9=.i gg∧gL[0]?=some (.cells (M8 r Z os) 0)∧gL[1]?=some (.dyn (E.map .bool) r 1 0 st)∧E.length=r∧mkS Z o ((M7 o).drop gg) (E,B)=mkS Z o (M7 o) (Y,z)) (N:=(M7 o).length)
  ⟨0,gD,Y,z,rfl,J,Bc,Ah,Dm,A0,by simp,by simp,g,j,U,by simp⟩ ?_
 clear G F I K g j l0 l1;rintro N3 T gM G3 ⟨gg,L,E,B,rfl,jC,G,F,I,K,h8,h9,g,j,C,A⟩ jD M;have l0:=(Hu.1 g).1;have l1:=(Hu.1 j).1;have g9:=zm3 o;by_cases X:gg<(M7 o).length
 ·have hg:=bm (f:=LV.i) (rf X);have gT:(M7 o).drop gg=gd (M7 o) gg::(M7 o).drop (gg+1):=by
   rw[Jo X];simp[gd,Hy,X]
  have gU:=zix X;rw[gT,mkS]at A;generalize gd (M7 o) gg=x at *;obtain⟨x0,xr⟩:=gR x gU;obtain⟨P,rfl⟩:=Hz x0;have Q:P<r:=J
  have R:(E.map LV.bool)[P]?=some (.bool (O1 E (P:Int))):=by simp[O1,C,Q]
  cases O:O1 E (P:Int) with
  |true =>
   rw[O]at R;simp[O]at A;simp[G,F,K,h8,h9,X,Nh hg,g,j,Q,Nh R];refine⟨J,M _ _ _ ⟨N3-1,J,gg+1,L,E,B,rfl,J,Bc,Ah,Dm,A0,by simp[h8],by simp,g,j,C,A⟩⟩
  |false =>
   rw[O]at R;have gI:=zi9 (os:=os) (gz o V) C;simp[G,F,K,h8,h9,X,Nh hg,g,j,Q,Nh R,M8,gX,gG,gH];have hb:bors G3 [.agg (M8 r Z os),.agg o.f,.dy 1 0] [.agg (M8 r Z os),.agg o.f,.lst (E.map .bool) r 1]:=⟨_,_,rfl,⟨_,rfl,bors_self _ gO⟩,_,_,rfl,⟨_,rfl,bors_self _ (by simp[hC,dats,LV.dat])⟩,_,_,rfl,⟨_,r,1,L,rfl,j,zg6 _⟩,rfl⟩;refine yc gI hb rfl ?_;have e1:Oa (E.map LV.bool) P [.bool true]=(E.set P true).map LV.bool:=by
    rw[show Oa (E.map LV.bool) P [.bool true]=(E.map LV.bool).set P (.bool true) by rw[Jk,H7 Ab];simp[Oa],Jj]
   cases gK:Xm Z E o with
   |false =>
    simp[O,gK]at A;simp[h9];refine⟨J,M _ _ _ ⟨N3-1,J,gg+1,L,E,B,rfl,J,Bc,Ah,Dm,A0,by simp[h8],by simp,g,j,C,A⟩⟩
   |true =>
    simp[O,gK]at A;simp[F,h8,h9,X,Nh hg,j,Q,C,e1];refine⟨J,J,M _ _ _ ⟨N3-1,J,gg+1,L+1,E.set P true,true,rfl,J,Bc,Ah,by simp,A0,by simp[h8],by simp,?_,?_,As,A⟩⟩
    ·rw[Hx J];exact g
    ·rw[←Jj];exact H0 l1
 ·have gV:¬gg<(M7 o).length:=X;rw[J0 J,mkS]at A;rw[←A]at H;simp[K,h8,h9,gV];refine⟨J,gE _ _ _ ⟨N-1,J,i+1,L,E,B,rfl,J,Bc,Ah,Dm,by simp,g,j,C,H⟩⟩
def zl0{r:Nat}{bs:List Bf}{gL:Int→Bool}(hc:(Qw r bs vX).2=0)(gC:zuy bs gL vX)(gD:∀o∈vX,uh bs gL o=true) :
  O2 25 [.agg (M8 r bs vX)] (.tup [.i vX.length,.i 0]):=by
 obtain⟨gM,gH,gO,gP,gI,X⟩:=z7d hc;refine Sa.mk rfl (Nb r_ref13_Check Aa (by simp) ?_);have gQ:dats (M8 r bs vX)=true:=zho _ _ _;simp[zfg,M8];refine Nw (z46 r bs vX) (bors_self _ Be) ?_;simp[hc];refine R0 (zjk hc) Be ?_;have gg:Xj (Xv r bs vX) gL:=zu3 (λo ho x F=>((z2y (X o ho)).1 x F).1) (λo ho x F=>((z2y (X o ho)).2.1 x F).1) gC _ _ (Xj.none _ _);have gR:(Xv r bs vX).length=r:=by unfold Xv;rw[zv9];simp
 generalize Xv r bs vX=gE at *;simp;refine Po (λρ gT gK N=>∃i:Nat,gT=[]∧N+i=vX.length∧lk ρ 1=.ptr 0 0∧lk ρ 6=.lst (gE.map .bool) r 1∧lk ρ 7=.i i∧gK[0]?=some (.cells (M8 r bs vX) 0)) (N:=vX.length)
  ⟨0,rfl,J,by simp,by simp,by simp,By⟩ ?_
 rintro N ρ gT gK ⟨i,rfl,hN,j,D,M,g⟩ Nx gF;have l0:=(Hu.1 g).1;by_cases gz:i<vX.length
 case neg =>
  have gG:¬i<vX.length:=gz;simp[j,M,g,M8,gG]
 have ho:=zh3 gz;have R:dh vX i∈vX:=Iq ho;have z:=zcl ho;have A:=yj gz;have hf:=X _ R;have H:=gD _ R;generalize dh vX i=o at *;have T:o.f=[.i o.kind,.i o.d,.i o.e,.i o.a,.i o.b,.i o.c,.i o.buf,.u o.imm]:=rfl;have U:∀x:List LObj,(gK++x)[0]?=some _:=λx=>(M6 l0).trans g
 obtain⟨ht,hm,hd⟩:=z2y hf;have gA:o.kind=15→0≤o.b:=λq=>(ht o.b (by unfold Od;simp[q];split<;>simp)).1
 have H:=ji gg gA (λq=>(hd q).1) H;have ix:∀x:Int,0≤x→x<r→∃n:Nat,x=n∧n<r∧(gE.map LV.bool)[n]?=some (.bool (O1 gE x)):=λx h0 j=>by
  obtain⟨n,rfl⟩:=Hz h0
  exact ⟨n, rfl, by omega, by have : n < gE.length := by omega
                              simp[O1,this]⟩
 have next:∀(ρ':M2) (G':M0),lk ρ' 1=.ptr 0 0→lk ρ' 6=.lst (gE.map .bool) r 1→lk ρ' 7=.i ((i:Int)+1)→G'[0]?=some (.cells (M8 r bs vX) 0)→Nx ρ' [] G':=λρ' G' a1 a6 a7 b0=>gF _ _ _ ⟨N-1,J,i+1,rfl,J,a1,a6,by rw[a7];simp,b0⟩
 have V:∀x:List LObj,(gK++x)[0]?=some (.cells (M8 r bs vX) 0):=λx=>(M6 l0).trans g
 unfold uh at H;by_cases O:o.kind=14
 ·by_cases ha:0≤o.a
  ·have I:=ht o.a (by unfold Od;rw[Hv J,Hv J,Hv J,H7 J];simp);simp[O,O0,ha]at H;obtain⟨n,Z,G,F⟩:=ix o.a I.1 I.2;rw[H]at F;simp[j,D,M,g,M8,gz,z,A,T,↓U,O,Z,G,Nh F];refine⟨J,next _ _ An Av (by simp) (V _)⟩
  ·simp[j,D,M,g,M8,gz,z,A,T,↓U,O,ha];refine⟨J,next _ _ An Av (by simp) (V _)⟩
 by_cases B:o.kind=15
 ·have gB:=ht o.b (by unfold Od;simp[B];split<;>simp);obtain⟨b0,b1⟩:=lg hf (.inr B);obtain⟨bn,P⟩:=Hz b0;rw[P]at b1;simp only[Is]at b1;have q2:=zug (Sk b1);obtain⟨nb,Q,E,C⟩:=ix o.b gB.1 gB.2;simp[B,O0,P]at H;by_cases ha:0≤o.a
  ·have I:=ht o.a (by unfold Od;rw[Hv J,Hv J,Hv J,Hv J,H7 J];simp);obtain⟨n,Z,G,F⟩:=ix o.a I.1 I.2;rw[H.1.resolve_left J]at F;cases Y:O1 gE o.b with
   |false =>
    rw[Y]at C;simp[j,D,M,g,M8,gz,z,A,T,↓U,B,Z,G,Nh F,Q,E,Nh C];refine⟨J,next _ _ An Av (by simp) (V _)⟩
   |true =>
    rw[Y]at C;have K:(Ng bs bn).sec=true:=by simpa [Y] using H.2
    rw[K]at q2;simp[j,D,M,g,M8,gz,z,A,T,↓U,B,Z,G,Nh F,Q,E,Nh C,P,b1,Nh q2];refine⟨J,next _ _ An Av (by simp) (V _)⟩
  ·cases Y:O1 gE o.b with
   |false =>
    rw[Y]at C;simp[j,D,M,g,M8,gz,z,A,T,↓U,B,ha,Q,E,Nh C];refine⟨J,next _ _ An Av (by simp) (V _)⟩
   |true =>
    rw[Y]at C;have K:(Ng bs bn).sec=true:=by simpa [Y] using H.2
    rw[K]at q2;simp[j,D,M,g,M8,gz,z,A,T,↓U,B,ha,Q,E,Nh C,P,b1,Nh q2];refine⟨J,next _ _ An Av (by simp) (V _)⟩
 by_cases L:o.kind=16
 ·obtain⟨n,Z,G,F⟩:=ix o.d (hd L).1 (hd L).2;simp[L,O0]at H;rw[H]at F;simp[j,D,M,g,M8,gz,z,A,T,↓U,L,Z,G,Nh F];refine⟨J,next _ _ An Av (by simp) (V _)⟩
 ·simp[j,D,M,g,M8,gz,z,A,T,↓U,O,B,L];refine⟨J,next _ _ An Av (by simp) (V _)⟩
def z2g:LC:=(.q [.F 10] (.seq (.q [.z 28 (.w 40 []),.z 29 (.un .not (.t 28))] (.cond (.t 29) (.q [.F 10] .ret) .skip)) (.seq (.q [.m 30 1,.s 31 30,.b 32 .gtr 3 31 40] (.cond (.t 32) (.q [.z 10 (.move .T)] .ret) .skip)) (.q [.m 33 0,.z 34 (.w 17 [.t 33,.k 3]),.z 35 (.bin .add true 3 (.k 1) (.t 34)),.m 0 35] (.q [.m 36 2,.z 37 (.w 17 [.t 36,.k 301]),.m 38 3,.z 39 (.w 17 [.t 38,.k 7]),.m 40 4,.z 41 (.w 17 [.t 40,.k 35]),.z 42 (.bin .add true 3 (.k 16) (.t 41)),.m 2 37,.m 3 39,.m 4 42] (.q [.m 43 0,.w 44 47 43,.m 11 44] (.seq (.q [.m 45 11,.m 46 0,.c 47 .lss 3 45 46,.m 48 47,.mn 49 48 11,.mn 50 48 0,.n 51 48 (.bin .mul true 3 (.k 2) (.t 50)),.nb 52 48 .add 3 51 8,.n 53 48 (.bin .gtr false 3 (.t 49) (.t 52)),.p 54 48 53] (.cond (.t 54) (.q [.F 10] .ret) .skip)) (.q [.m 55 0,.z 56 (.bin .mul true 3 (.k 2) (.t 55)),.z 57 (.build [(.i 0),(.i 0),(.bool false)] [(0,1,.t 56),(1,1,.k 2),(2,1,.T)]),.m 58 11,.z 59 (.build [(.i 0),(.i 0),(.bool false)] [(0,1,.t 58),(1,1,.k 3),(2,1,.T)]),.z 60 (.buildSl 3 2 [(.i 0),(.i 0),(.bool false),(.i 0),(.i 0),(.bool false)] [(0,3,.t 57),(3,3,.t 59)]),.z 61 (.build [.nilSl,.nilSl,(.i 0),(.i 0),(.i 0),(.i 0),(.i 0),(.i 0)] [(0,1,.t 60)]),.z 12 (.alloc [.nilSl,.nilSl,(.i 0),(.i 0),(.i 0),(.i 0),(.i 0),(.i 0)]),.S 8 12 61] (.q [.m 62 0,.z 63 (.build [(.i 0),(.i 0),(.i 0)] [(2,1,.t 62)]),.m 64 0,.m 65 0,.z 66 (.build [(.i 0),(.i 0),(.i 0)] [(1,1,.t 64),(2,1,.t 65)]),.m 67 11,.z 68 (.build [(.i 0),(.i 0),(.i 0)] [(0,1,.k 1),(2,1,.t 67)]),.m 69 2,.m 70 3,.m 71 4,.z 72 (.w 49 [.t 63,.t 66,.t 68,.t 69,.t 70,.t 71]),.m 13 72] (.q [.L 73 8 12,.m 74 13,.m 75 3,.V 76 52 73 74 75,.z 14 (.alloc [(.i 0),.nilSl,.nilSl]),.S 3 14 76] (.q [.L 78 3 14,.w 79 25 78,.m 77 79,.X 80 0 77,.X 81 1 77,.m 15 80,.m 16 81] (.seq (.q [.m 82 13,.s 83 82,.b 84 .eql 3 83 0,.m 85 84,.mn 86 85 16,.nb 87 85 .neq 35 86 0,.p 88 85 87] (.cond (.t 88) (.q [.F 10] .ret) .skip)) (.seq (.q [.K 17 0] (.block 0 (.loop (.seq (.q [.m 89 17,.m 90 13,.s 91 90,.c 92 .lss 3 89 91] (.cond (.t 92) .skip (.exit 0))) (.seq (.block 1 (.seq (.draw [(.m 95 13,[]),(.m 96 17,[]),(.I 97 8 95 96,[]),(.f 98 1 97,[]),(.l 99 98,[]),(.m 100 13,[]),(.m 101 17,[]),(.I 102 8 100 101,[]),(.f 103 2 102,[]),(.l 104 103,[]),(.m 105 13,[]),(.m 106 17,[]),(.I 107 8 105 106,[]),(.f 108 3 107,[]),(.l 109 108,[]),(.m 110 13,[]),(.m 111 17,[]),(.I 112 8 110 111,[]),(.f 113 4 112,[]),(.l 114 113,[]),(.m 115 13,[]),(.m 116 17,[]),(.I 117 8 115 116,[]),(.f 118 5 117,[]),(.l 119 118,[]),(.z 120 (.buildSl 1 5 [(.i 0),(.i 0),(.i 0),(.i 0),(.i 0)] [(0,1,.t 99),(1,1,.t 104),(2,1,.t 109),(3,1,.t 114),(4,1,.t 119)]),[(.l 119 118,false),(.l 114 113,false),(.l 109 108,false),(.l 104 103,false),(.l 99 98,false)]),(.s 121 120,[]),(.K 122 0,[])]) (.block 2 (.loop (.q [.c 123 .lss 3 122 121] (.seq (.cond (.t 123) .skip (.exit 2)) (.seq (.block 3 (.q [.I 124 1 120 122,.l 125 124,.m 19 125] (.q [.m 126 19,.b 127 .geq 3 126 0,.m 128 127,.my 129 128 19,.my 130 128 3,.y 131 128 (.bin .lss false 3 (.t 129) (.t 130)),.q 132 128 131,.m 133 132,.mn 134 133 19,.mn 135 133 3,.nb 136 133 .add 3 135 1,.n 137 133 (.bin .gtr false 3 (.t 134) (.t 136)),.mn 138 133 137,.my 139 138 19,.y 140 138 (.bin .lss true 3 (.t 139) (.k 8)),.n 141 133 (.pick (.t 138) (.t 140) .F),.p 142 133 141,.m 143 142,.mn 144 143 19,.nb 145 143 .gtr 3 144 11,.mn 146 143 145,.my 147 146 19,.my 148 146 4,.y 149 146 (.bin .lss false 3 (.t 147) (.t 148)),.n 150 143 (.pick (.t 146) (.t 149) .F),.p 151 143 150,.m 152 151,.mn 153 152 19,.mn 154 152 4,.nb 155 152 .add 3 154 14,.n 156 152 (.bin .geq false 3 (.t 153) (.t 155)),.p 157 152 156] (.cond (.t 157) (.q [.F 10] .ret) .skip)))) (.ops [.b 158 .add 3 122 1,.m 122 158])))))))) (.ops [.m 93 17,.b 94 .add 3 93 1,.m 17 94])))))) (.q [.m 159 1,.w 160 27 159,.z 161 (.buildSl 1 1 [(.u 0)] [(0,1,.c (.u 6))]),.a 162 1 160 161,.m 163 0,.W 164 26 162 163,.m 20 164] (.seq (.q [.m 165 20,.z 166 (.w 32 [.t 165,(.c .nilSl)])] (.cond (.t 166) (.ops [.m 167 20,.z 168 (.ixAddr 1 (.t 167) (.k 0)),.v (.store 1 (.t 168) (.c (.u 1)))]) .skip)) (.seq (.draw [(.L 170 3 14,[]),(.m 171 0,[]),(.z 172 (.mkSl 1 [(.u 0)] (.t 171) (.t 171)),[(.L 170 3 14,false)]),(.m 173 20,[]),(.a 174 1 172 173,[(.L 170 3 14,false)]),(.z 175 (.buildSl 1 2 [.nilSl,.nilSl] [(0,1,.t 174),(1,1,(.c .nilSl))]),[(.L 170 3 14,false)]),(.W 176 29 170 175,[]),(.m 169 176,[]),(.X 177 0 169,[]),(.X 178 1 169,[]),(.X 179 2 169,[]),(.m 21 177,[]),(.m 22 178,[]),(.m 23 179,[])]) (.q [.m 180 2,.b 181 .quo 3 180 64,.b 182 .add 3 181 1,.z 183 (.mkSl 1 [(.u 0)] (.t 182) (.t 182)),.m 24 183] (.q [.m 184 24,.m 185 2,.b 186 .quo 3 185 64,.m 187 2,.b 188 .rem 3 187 64,.z 189 (.cvInt .u64 (.t 188)),.z 190 (.bin .shl true 23 (.c (.u 1)) (.t 189)),.I 191 1 184 186,.S 1 191 190] (.q [.m 193 24,.m 194 20,.W 195 28 193 194,.m 192 195,.X 196 0 192,.X 197 1 192,.X 198 2 192,.m 25 196,.m 26 197,.m 27 198] (.q [.m 199 23,.b 200 .eql 35 199 0,.m 201 200,.my 202 201 21,.y 203 201 (.ixAddr 1 (.t 202) (.k 0)),.yl 204 201 203,.my 205 201 0,.y 206 201 (.slSl 1 (.t 204) none (some (.t 205))),.my 207 201 26,.y 208 201 (.w 32 [.t 206,.t 207]),.q 209 201 208,.m 210 209,.my 211 210 21,.y 212 210 (.ixAddr 1 (.t 211) (.k 0)),.yl 213 210 212,.my 214 210 0,.y 215 210 (.slSl 1 (.t 213) (some (.t 214)) none),.my 216 210 20,.y 217 210 (.w 53 [.t 215,.t 216]),.q 218 210 217,.m 10 218] .ret))))))))))))))))))))
def r_law24_PowerRadix:Na Tryz.prog 11=some ⟨219,z2g.r,[.tmp 10]⟩:=Aa
def l9{k:Nat}(j:vZ.length=2*(k+1)):Xo (Pl k) [vZ,[]]=true:=by
 unfold Xo;refine Jp ⟨rfl,λi hi=>?_⟩;have g:i=0∨i=1:=by simp[Pl]at hi;omega
 rcases g with rfl|rfl
 ·simp[Pl,Ng,j]
 ·simp[Pl,Ng]
def zve{k e r bits:Nat}(j:k≤2)(g:bits≤300)(he:e≤6)(z:r≤34):(Qw ((64:Nat):Int) (Pl k) (Q7 k e r bits).flat).2=0:=by
 have A:(Q7 k e r bits).flat.length≤65536:=by
  unfold Q7;rw[wrap_flat];have C:(Sn k e r bits).flat.length≤200:=zch;have B:(Pv e 0).length=e:=lpsL_len' e 0;simp[B];omega
 have:=Yt (bs:=Pl k) (f:=Q7 k e r bits) (S':=[]) (by simp[Pl]) A (λb g=>by
  simp[Pl]at g;rcases g with rfl|rfl<;>simp only<;>omega) (tq j g he z)
 rw[show (((64:Nat):Int))=64 from rfl,this]
def rxC_X{k e r b:Nat}(j:k≤2)(z:b≤300)(he:e≤6)(A:r≤34):qp (Q3 k 0).p (Q3 k 1).p (Sy k).p b e ((16+r:Nat):Int)=(Sn k e r b).flat:=by
 have g:fy ((k:Int)+1)=k+2:=by unfold fy;rw[Hv J];omega
 unfold qp;rw[H7 (by simp[Ty,Q3,Sy,Pn.p,g,me];omega)];rfl
set_option maxHeartbeats 2000000 in
def zcz(O:Int)(n:List UInt64)(bits deep X:Int)(_:Tl O)(_:n.length≤9223372036854775807)(_:Tl bits)(_:Tl deep)(_:Tl X):Ob (.fn 11) [.i O,LU n,.i bits,.i deep,.i X] [] λv _=>v=.bool true:=by
 refine jh r_law24_PowerRadix Aa (by simp) ?_;refine lh (Φ:=λB gQ I=>∃k e r b:Nat,k≤2∧e≤6∧r≤34∧b≤300∧n.length≤40∧gQ=[]∧lk B 0=.i (1+k)∧lk B 1=LU n∧lk B 2=.i b∧lk B 3=.i e∧lk B 4=.i (16+r)∧lk B 11=.i (k+2)∧I=[]) 6 _ rfl (λNx gI=>?_) (λB gQ I hΦ=>?_)
 ·simp[z2g,bc,LU];refine Nw law24_lives_ok (by simp) ?_;by_cases hn:(40:Int)<n.length
  ·simp[hn]
  simp[hn];obtain⟨k,hk,hK⟩:=za0 O 3 J;refine Nw hK (by simp) ?_;simp;refine⟨J,?_⟩;obtain⟨b,hb,hB⟩:=za0 bits 301 J;refine Nw hB (by simp) ?_;simp;obtain⟨e,he,hE⟩:=za0 deep 7 J;refine Nw hE (by simp) ?_;simp;obtain⟨r,hr,jI⟩:=za0 X 35 J;refine Nw jI (by simp) ?_;simp;refine⟨J,?_⟩;refine zdd J ?_;have hN:fy (1+(k:Int))=k+2:=by unfold fy;rw[Hv J];omega
  rw[hN];have g1:¬(k:Int)+2<1+k:=J
  have g2:¬2*(1+(k:Int))+8<k+2:=J
  simp[g1,g2]
  repeat (refine⟨J,?_⟩)
  exact gI _ _ _ ⟨k,e,r,b,J,J,J,J,J,rfl,by simp,by simp[LU],by simp,by simp,by simp,by simp,rfl⟩
 obtain⟨k,e,r,b,hk,he,hr,hb,hn,rfl,z,K,C,M,Q,gK,rfl⟩:=hΦ;refine lh (Φ:=λB gQ I=>gQ=[]∧lk B 0=.i (1+k)∧lk B 1=LU n∧lk B 2=.i b∧lk B 14=.ptr 2 0∧3≤I.length∧I[2]?=some (.cells (M8 ((64:Nat):Int) (Pl k) (Q7 k e r b).flat) 1)) 5 _ rfl (λNX gB=>?_) (λB gQ I hΦ=>?_)
 ·simp[z2g,bc,z,K,C,M,Q,gK];refine⟨J,?_⟩;have e0:[LV.i 0,.i 0,.i (1+(k:Int))]=(Q3 k 0).p.f:=by simp[Q3,Pn.p,Pc.f];omega
  have e1:[LV.i 0,.i (1+(k:Int)),.i (1+(k:Int))]=(Q3 k 1).p.f:=by simp[Q3,Pn.p,Pc.f];omega
  have Y:[LV.i 1,.i 0,.i ((k:Int)+2)]=(Sy k).p.f:=by simp[Sy,Pn.p,Pc.f]
  rw[e0,e1,Y];have hI:=zd8 (d:=(Q3 k 0).p) (n:=(Q3 k 1).p) (w:=(Sy k).p) (bits:=b) (deep:=e) (R:=((16+r:Nat):Int)) Ej Ej (by simp only[Sy,Pn.p];omega) Ej;rw[rxC_X hk hb he hr]at hI;refine R0 hI (by simp[dats,LV.dat,Pc.f]) ?_;simp[M];have zA:(Sn k e r b).flat.length≤200:=zch;have gR:0<(Sn k e r b).flat.length:=by
   unfold Sn Ww;simp only[Pb,flat_frL,H8,Ig];omega
  have jK:(Q7 k e r b).flat=Pv e 0++((Sn k e r b).flat++List.replicate e Um):=wrap_flat e 0 _;have jL:=ud (k:=k) (e:=e) (r:=r) (bits:=b) hk hb;have gT:=zak (bs:=Pl k) (P:=.nilSl) (W:=[.i 0,.i 0,.i 0,.i 0,.i 0,.i 0]) (L:=(Sn k e r b).flat) (deep:=e) J J ⟨_,_,_,_,_,_,rfl⟩;rw[←jK]at gT;generalize zB:(Sn k e r b).flat=gA at *;have jM:LV.lst (P8 (Pl k)) 2 3=.lst [.i (2*(1+(k:Int))),.i 2,.bool true,.i ((k:Int)+2),.i 3,.bool true] 2 3:=by
   rw[(J:2*(1+(k:Int))=2*((k:Int)+1))];rfl
  refine zzh (p:=0) (q:=1) (a:=[]) (b:=[.nilSl,.i 0,.i 0,.i 0,.i 0,.i 0,.i 0]) (args':=[.agg (.lst (P8 (Pl k)) 2 3::.nilSl::[.i 0,.i 0,.i 0,.i 0,.i 0,.i 0]),.lst (Pm gA) gA.length 8,.i e]) (by rfl) (by rfl) (λc c' r Z hx ha=>?_) ?_
  ·rw[jM];cases ha with
   |cons e es=>cases e with
    |agg e=>cases e with
     |cons e1 Y=>exact .cons (.agg (.cons (hx _ e1) (Y.mono Z))) (es.mono Z)
  refine R0 gT (by simp[dats,LV.dat,Ug,Tn]) ?_;have gU:=zve (k:=k) (e:=e) (r:=r) (bits:=b) hk hb he hr;have D:=allH_flat (ztp (k:=k) (e:=e) (r:=r) (bits:=b) hk hb he);have gC:=ot (r:=r) (lo:=0) (hi:=7) hr J;have gV:∀m,(Uh r 0 7).S m→(Ng (Pl k) m).sec=true:=λm hm=>by
   have jO:m=0∨m=1:=by have:m<2:=hm;omega
   rcases jO with rfl|rfl<;>rfl
  have H:zuy (Pl k) sk (Q7 k e r b).flat:=λo ho=>(D o ho).closedS gC ((z7d gU).2.2.2.2.2 o ho)
  have hC:=zl0 gU H (λo ho=>(D o ho).safeS gC gV);have jP:M8 ((64:Nat):Int) (Pl k) (Q7 k e r b).flat=[.i 64,.lst (P8 (Pl k)) 2 3,.lst (Pm (Q7 k e r b).flat) (Q7 k e r b).flat.length 8]:=rfl;rw[jP]at hC ⊢;simp;refine R0 hC (by simp[dats,LV.dat,Ug,Tn]) ?_;have jQ:¬(gA.length:Int)=0:=J
  have jR:gA≠[]:=λq=>by rw[q]at gR;simp at gR
  simp[jQ,jR];refine Po (λB gQ I N=>∃i:Nat,gQ=[]∧N+i=gA.length∧lk B 0=.i (1+k)∧lk B 1=LU n∧lk B 2=.i b∧lk B 3=.i e∧lk B 4=.i (16+r)∧lk B 13=.lst (Pm gA) gA.length 8∧lk B 14=.ptr 2 0∧lk B 17=.i i∧3≤I.length∧I[2]?=some (.cells (M8 64 (Pl k) (Q7 k e r b).flat) 1)) (N:=gA.length)
   ⟨0,rfl,J,Ak,A0,As,A9,Cp,by simp,by simp,by simp,by simp,by simp;rfl⟩ ?_
  clear z K C M Q gK;rintro N B gQ I ⟨i,rfl,hN,z,K,C,M,Q,F,g,G,gD,T⟩ Nx gI;by_cases zz:i<gA.length
  ·have ho:=zh3 zz;have gX:dh gA i∈gA:=Iq ho;have jT:=jL _ gX;have o1:=ztd ho (j:=1) J;have o2:=ztd ho (j:=2) J;have o3:=ztd ho (j:=3) J;have o4:=ztd ho (j:=4) J;have o5:=ztd ho (j:=5) J;have gY:=yj zz;generalize dh gA i=o at *;simp[Lo.f]at o1 o2 o3 o4 o5;have l1:i*8+1<(Pm gA).length:=J
   have l2:i*8+2<(Pm gA).length:=J
   have l3:i*8+3<(Pm gA).length:=J
   have l4:i*8+4<(Pm gA).length:=J
   have l5:i*8+5<(Pm gA).length:=J
   simp[F,G,zz,Nh o1,Nh o2,Nh o3,Nh o4,Nh o5];have hz:(I++[LObj.dyn [.i o.d,.i o.e,.i o.a,.i o.b,.i o.c] 5 1 0 0])[I.length]?=some (.dyn [.i o.d,.i o.e,.i o.a,.i o.b,.i o.c] 5 1 0 0):=Im;have z2:=(M6 (x:=[LObj.dyn [.i o.d,.i o.e,.i o.a,.i o.b,.i o.c] 5 1 0 0]) (J:2<I.length)).trans T;have zl:3≤(I++[LObj.dyn [.i o.d,.i o.e,.i o.a,.i o.b,.i o.c] 5 1 0 0]).length:=Ab
   generalize I++[LObj.dyn [.i o.d,.i o.e,.i o.a,.i o.b,.i o.c] 5 1 0 0]=G2 at *;generalize I.length=gL at *;refine Po (λB gQ I N=>∃j:Nat,gQ=[]∧N+j=5∧lk B 0=.i (1+k)∧lk B 1=LU n∧lk B 2=.i b∧lk B 3=.i e∧lk B 4=.i (16+r)∧lk B 13=.lst (Pm gA) gA.length 8∧lk B 14=.ptr 2 0∧lk B 17=.i i∧lk B 120=.dy gL 0∧lk B 121=.i 5∧lk B 122=.i j∧I=G2) (N:=5)
    ⟨0,rfl,rfl,Ak,A0,As,A9,Cp,Ah,Ba,Bc,by simp,by simp,by simp,rfl⟩ ?_
   clear z K C M Q F g G;rintro N2 B gQ G3 ⟨j,rfl,zC,z,K,C,M,Q,F,g,G,E,A,U,rfl⟩ jU gZ;by_cases gj:j<5
   ·have gg:(j:Int)<5:=J
    obtain⟨x,gM,jV⟩:∃x,([LV.i o.d,.i o.e,.i o.a,.i o.b,.i o.c])[j]?=some (.i x)∧x∈[o.d,o.e,o.a,o.b,o.c]:=by
     have hj:j=0∨j=1∨j=2∨j=3∨j=4:=J
     rcases hj with rfl|rfl|rfl|rfl|rfl<;>exact⟨_,rfl,by simp⟩
    have nx:∀(V:M2),lk V 0=.i (1+k)→lk V 1=LU n→lk V 2=.i b→lk V 3=.i e→lk V 4=.i (16+r)→lk V 13=.lst (Pm gA) gA.length 8→lk V 14=.ptr 2 0→lk V 17=.i i→lk V 120=.dy gL 0→lk V 121=.i 5→lk V 122=.i ((j:Int)+1)→jU V [] G3:=λV a0 a1 a2 a3 a4 jX jY jZ g9 jg jz=>gZ _ _ _ ⟨N2-1,J,j+1,rfl,J,a0,a1,a2,a3,a4,jX,jY,jZ,g9,jg,by rw[jz];simp,rfl⟩
    rcases jT x jV with q|q|q
    ·subst q;simp[M,Q,E,A,U,hz,gj,gg,Nh gM];exact⟨J,J,λ_=>⟨J,J,λ_=>⟨J,nx _ Ak A0 As A9 Cp Ah Ba Bc Au A7 (by simp)⟩⟩⟩
    ·have q0:0≤x:=J
     have q1:¬x<(e:Int):=J
     have q2:(e:Int)+1<x:=J
     have q3:¬x<8:=J
     have q4:11<x:=J
     have q5:¬x<16+(r:Int):=J
     have q6:¬16+(r:Int)+14≤x:=J
     simp[M,Q,E,A,U,hz,gj,gg,Nh gM,q0,q1,q2,q3,q4,q5,q6];exact⟨J,J,J,nx _ Ak A0 As A9 Cp Ah Ba Bc Au A7 (by simp)⟩
    ·have q0:0≤x:=J
     have q1:¬x<(e:Int):=J
     have q2:¬(e:Int)+1<x:=J
     have q4:¬11<x:=J
     have q6:¬16+(r:Int)+14≤x:=J
     simp[M,Q,E,A,U,hz,gj,gg,Nh gM,q0,q1,q2,q4,q6];exact⟨J,J,J,nx _ Ak A0 As A9 Cp Ah Ba Bc Au A7 (by simp)⟩
   ·have gg:¬(j:Int)<5:=J
    simp[A,U,gg,gj,G];refine⟨J,gI _ _ _ ⟨N-1,J,i+1,rfl,J,Ak,A0,As,A9,Cp,Ah,Ba,by simp,zl,z2⟩⟩
  ·simp[F,G,zz];exact gB _ _ _ ⟨rfl,Ak,A0,As,Ba,gD,T⟩
 clear z K C M Q gK;obtain⟨rfl,z,K,C,g,gD,T⟩:=hΦ;rw[(J:1+(k:Int)=k+1)]at z;refine lh (Φ:=λB gQ I=>∃(c:List UInt64) (p st:Nat),c.length=k+1∧0<val c∧gQ=[]∧lk B 0=.i ((k:Int)+1)∧lk B 2=.i b∧lk B 14=.ptr 2 0∧lk B 20=.dy p 0∧3≤p∧3≤I.length∧I[2]?=some (.cells (M8 ((64:Nat):Int) (Pl k) (Q7 k e r b).flat) 1)∧I[p]?=some (.dyn (c.map .u) (k+1) 1 0 st)) 1 _ rfl (λNX gB=>?_) (λB gQ I hΦ=>?_)
 ·simp[z2g,bc,z,K];refine zt7 (zxb n J) (by simp[LU]) ?_;have r2:(I++[RU n])[2]?=_:=(M6 J).trans T;have ry:∀x:List LObj,(I++[RU n]++x)[I.length]?=some (RU n):=λx=>by rw[Ie (by simp)];exact Im
  have rl:(I++[RU n]).length=I.length+1:=by simp
  generalize I++[RU n]=G1 at *;generalize I.length=gL at *;have j0:G1[gL]?=some (RU n):=by simpa using ry []
  simp[↓ry,j0,rl,RU,z];refine⟨J,?_⟩;have w2:(List.set G1 gL (LObj.dyn (n.map .u++[.u 6]) (n.length+1) 1 1 1)++[LObj.dyn [.u 6] 1 1 0 0])[2]?=_:=(M6 Ab).trans ((Hx J).trans r2);have wz:(List.set G1 gL (LObj.dyn (n.map .u++[.u 6]) (n.length+1) 1 1 1)++[LObj.dyn [.u 6] 1 1 0 0])[gL]?=some (.dyn ((n++[6]).map .u) (n++[6]).length 1 1 1):=by
   rw[Ie Ab,H0 J];simp
  have wl:(List.set G1 gL (LObj.dyn (n.map .u++[.u 6]) (n.length+1) 1 1 1)++[LObj.dyn [.u 6] 1 1 0 0]).length=gL+2:=Ab
  generalize List.set G1 gL (LObj.dyn (n.map .u++[.u 6]) (n.length+1) 1 1 1)++[LObj.dyn [.u 6] 1 1 0 0]=G2 at *;refine zt7 (zjx (n++[6]) (k+1) J Ab (by simp)) ⟨_,_,rfl,⟨_,_,_,_,rfl,wz,Yl _⟩,_,_,rfl,⟨rfl,rfl⟩,rfl⟩ ?_;have v2:(G2++[RU (fx (n++[6]) (k+1))])[2]?=_:=(M6 J).trans w2;have vx:(G2++[RU (fx (n++[6]) (k+1))])[gL+2]?=some (.dyn ((fx (n++[6]) (k+1)).map .u) (k+1) 1 0 0):=by rw[←wl,Im,RU,zfj]
  have zD:(G2++[RU (fx (n++[6]) (k+1))]).length=gL+3:=by simp[wl]
  have jA:=zfj (n++[6]) (k+1);rw[wl];generalize G2++[RU (fx (n++[6]) (k+1))]=G5 at *;generalize fx (n++[6]) (k+1)=c at *;simp;refine zlg (args':=[.dy (gL+2) 0,LU []]) (λc r ha=>?_) ?_
  ·cases ha with
   |cons e1 es=>cases es with
    |cons Y es=>exact .cons e1 (.cons (zy2 Y) es)
  refine Nw (z8q c [] J (by simp)) ⟨_,_,rfl,⟨_,_,_,_,rfl,by rw[vx,jA],Yl _⟩,bors_self _ Br⟩ ?_;by_cases hv:val c=val []
  ·simp[hv,vx];refine⟨J,gB _ _ _ ⟨1::c.tail,gL+2,1,Ab,by simp[val];omega,rfl,Ak,As,Ba,by simp,J,Ab,(Hx J).trans v2,?_⟩⟩;rw[H0 J];simp
  ·have zE:val ([]:List UInt64)=0:=rfl;simp[hv];exact gB _ _ _ ⟨c,gL+2,0,jA,J,rfl,Ak,As,Ba,by simp,J,J,v2,vx⟩
 clear z K C g gD T;obtain⟨c,p,st,H,jB,rfl,z,C,g,j1,zG,gD,T,j4⟩:=hΦ;refine W_fz (t:=20) j4 j1 ?_;have f2:(I.set p (.dead (st+1)))[2]?=_:=(Hx J).trans T;have fl:3≤(I.set p (.dead (st+1))).length:=Ab
 generalize I.set p (.dead (st+1))=G9 at *;refine Sj _ ?_;have j5:∀x:List LObj,(G9++x)[2]?=_:=λx=>(M6 J).trans f2
 simp[z2g,bc,z,C,g,f2,↓j5,M8];refine⟨J,J,J,J,?_⟩;have gF:O6 [LV.u 0] (k+1)++c.map .u=(List.replicate (k+1) (0:UInt64)++c).map LV.u:=by rw[Le,W0]
 rw[gF];have jC:=sv (r:=r) hk hb he H jB;have hl:(List.replicate (k+1) (0:UInt64)++c).length=2*(k+1):=by simp[H];omega
 have D:=ztp (k:=k) (e:=e) (r:=r) (bits:=b) hk hb he;have gC:=ot (r:=r) (lo:=0) (hi:=7) hr J;clear gF;generalize List.replicate (k+1) (0:UInt64)++c=gE at *;obtain⟨s',t,gG,⟨q1,q2⟩,hV⟩:=js (zve hk hb he hr) (allH_wf D) (zbu (ls:=[]) gC (by simp) D) (lq hk hb he) (l9 hl) (by simp[Pl]) jC;obtain⟨o,o2,gO,zH,gP,j6⟩:=rx_out H hl gG q1 q2;rw[gO]at hV;clear jC D gG q1 q2;refine de (p:=G9.length) (q:=G9.length+1) (a:=[]) (b:=[.nilSl]) (l:=gE.map .u) (len:=k+1+(k+1)) (esz:=1) (k:=1) (st:=1) (by simp) (by rw[Il J,(J:G9.length+1-G9.length=1)];rfl) J ?_;refine zs5 (p:=G9.length+1) (l':=[.lst (gE.map .u) (k+1+(k+1)) 1,.lst [] 0 1]) (H0 (by simp)) (λc r h=>?_) ?_
 ·cases h with
  |cons e1 Y=>cases Y with
   |cons Y e3=>exact .cons e1 (.cons (zy2 Y) e3)
 refine zxi (p:=G9.length+1) (args':=[.agg (M8 ((64:Nat):Int) (Pl k) (Q7 k e r b).flat),LN [gE,[]]]) (H0 (by simp)) (λc c' r Z hx ha=>?_) ?_
 ·cases ha with
  |cons e1 es=>cases es with
   |cons Y es =>
    refine .cons (e1.mono Z) (.cons ?_ (es.mono Z));have:=hx _ Y;have j7:gE.length=k+1+(k+1):=J
    simpa [LN,LU,j7] using this
 refine R0 hV (by simp[dats,LV.dat,Ug,Tn,M8]) ?_;have hq:((b:Int)).tdiv 64=((b/64:Nat):Int):=by rw[Mu J];omega
 have hm:((b:Int)).tmod 64=((b%64:Nat):Int):=by rw[Lq J];omega
 have t1:((b:Int)/64+1).toNat=b/64+1:=J
 have t2:((b:Int)/64).toNat=b/64:=J
 have t3:(iU ((b:Int)%64)).toNat=b%64:=by
  rw[(J:(b:Int)%64=((b%64:Nat):Int)),Vp J]
 simp[z,C,hq,hm,t1,t2,t3,W0];have gH:=zhk LV.u (List.replicate (b/64+1) (0:UInt64)) (b/64) (Qx 1 (b%64)) (by simp);rw[List.map_replicate]at gH;have jD:=i5 (q:=List.replicate (b/64+1) (0:UInt64)) (N:=b) (by simp) (by rw[val_rep0];exact⟨0,rfl⟩);have j8:ax ((List.replicate (b/64+1) (0:UInt64)).getD (b/64) 0) (Qx 1 (b%64))=Qx 1 (b%64):=by
  rw[ee];simp
 rw[j8,val_rep0,Ix]at jD;have j9:((List.replicate (b/64+1) (0:UInt64)).set (b/64) (Qx 1 (b%64))).length=b/64+1:=by simp
 rw[gH];generalize (List.replicate (b/64+1) (0:UInt64)).set (b/64) (Qx 1 (b%64))=gz at *
 repeat (refine⟨J,?_⟩)
 have hD:=zri gz c J J;have jE:LU c=.lst (c.map .u) (k+1) 1:=by rw[LU,H]
 rw[Hv J,Hv J,Hv J,jD,jE]at hD;refine Nw hD ⟨_,_,rfl,⟨_,_,_,_,rfl,by rw[←j9];exact (by simp:(G9++[LObj.dead 2,LObj.dead 3,LObj.dyn (gz.map .u) gz.length 1 0 1])[G9.length+2]?=some (.dyn (gz.map .u) gz.length 1 0 1)),Yl _⟩,bors_self _ (by simp[dats,LV.dat,Yl])⟩ ?_;simp[RU,z];refine⟨J,J,?_⟩;have gY:=Kg (2^b) jB;have zg:(o.take (k+1)).length=k+1:=Ab
 have jF:LU (o.take (k+1))=.lst ((o.map .u).take (k+1)) (k+1) 1:=by rw[LU,zg,Mz]
 have hN:=z8q (o.take (k+1)) (Qa (2^b%val c)) J (by have:=H ▸ zx2 gY;omega);rw[jF,j6,zbw]at hN;refine Nw hN (bors_self _ (by rw[←jF];simp[dats,LV.dat,Yl])) ?_;simp[z];refine⟨J,J,?_⟩;have hS:=ztc (o.drop (k+1)) c (by rw[gP];omega);have zj:(o.drop (k+1)).length=k+1:=by rw[gP,H]
 have jG:o.length-(k+1)=k+1:=J
 have jH:LU (o.drop (k+1))=.lst (((o.map .u).drop (k+1)).take (o.length-(k+1))) (o.length-(k+1)) 1:=by
  rw[jG,LU,zj,List.map_drop,Ij Ab]
 rw[jH,jE]at hS;refine Nw hS (bors_self _ (by rw[←jH];simp[dats,LV.dat,Yl])) ?_;simp[gP]
end Go.Proofs.YtodjkjimaheggaaGreat
end
