/- The templates: see the main text. -/
import Derived.Test.YtodjkjimaheggaaGreatTg1
import Derived.Test.YtodjkjimaheggaaGreatSvG3
import Derived.Test.YtodjkjimaheggaaGreatTg0
import Derived.Test.YtodjkjimaheggaaGreatSvG2
set_option linter.defProp false
noncomputable section
namespace Go.Proofs.YtodjkjimaheggaaGreat
open Go.Sv
set_option linter.unusedSimpArgs false
set_option maxRecDepth 10000
variable{g j A:Nat}{z:Int}{R:Bool}{v9:List UInt64}{F:M7}{Y:LV→M7→Prop}{Z:List Bf}{vX:List Lo}
def zt7(g:List Vr)(o:Ko):Nl 57 [.lst (N0 g) g.length 3,.agg o.f] (.bool (Og g o)) []:=by
 refine Of.val rfl (Ni r_ref19_One Aa (by simp) ?_);have E:o.f=[.i o.kind,.i o.d,.i o.e,.i o.a,.i o.b,.i o.c,.u o.imm]:=rfl;by_cases D:o.kind=17
 ·simp[zf3,E,D];have hf:=zo4 (N0 g) g.length o;rw[E,D]at hf;refine Nt hf (bors_self _ Bc) ?_;simp[Og,D]
 simp[zf3,E,D];refine Nt (zmq o.kind) (by simp) ?_;simp[E];rw[←E];refine Nt (zl5 o) (bors_self _ rfl) ?_;cases U:Pz o.kind with
 |none=>simp[Vv,U,Og,D]
 |some s =>
 have s0:¬((s:Int)<0):=J
 simp[Vv,U,E,s0];rw[←E];refine Nt (zjt o) (bors_self _ rfl) ?_;cases hn:Q8 o with
 |false=>simp[Og,D,U,hn]
 |true =>
 have gK:=zte U;simp[E];refine O5 (λρ gL gM N=>∃i:Nat,gL=[]∧gM=[.cells o.f 0,.cells ((Q5 o).map .i) 1]∧N+i=5∧lk ρ 0=.lst (N0 g) g.length 3∧lk ρ 3=.ptr 0 0∧lk ρ 5=.i s∧lk ρ 6=.ptr 1 0∧lk ρ 7=.bool (U6 g o s i)∧lk ρ 8=.i i∧∀gg,gg<i→Rv g.length s gg (gd (Q5 o) gg)=true) (N:=5) ⟨0,by simp[Q5,U6,E]⟩ ?_;rintro N ρ gL gM ⟨i,rfl,rfl,hN,j,z,I,C,A,V,hp⟩ Nx X;by_cases hi:5≤i
 case neg =>
  have gF:(i:Int)<5:=J
  have g2:i<5:=J
  have K:=Xd (f:=LV.i) (X6 (l:=Q5 o) (u:=i) g2);have P:Rv g.length s i (gd (Q5 o) i)=true→∀gg,gg<i+1→Rv g.length s gg (gd (Q5 o) gg)=true:=λh gg hj=>by
   by_cases e:gg=i
   ·rw[e];exact h
   ·exact hp gg J
  have G:Rv g.length s i (gd (Q5 o) i)=false→Og g o=false:=λh=>by
   simp[Og,D,U,zsj g2 h]
  have Y:=zw7 s i;have F:=zse g o s i;generalize gd (Q5 o) i=v at *;have L:0≤(s:Int)/2^i:=Int.ediv_nonneg J (Int.pow_nonneg J);have Q:(s:Int)/2^i<9223372036854775808:=Int.lt_of_le_of_lt (Int.ediv_le_self _ J) J;have em:max ((s:Int)/2^i) 0=(s:Int)/2^i:=J
  have hu:(iU (i:Int)).toNat=i:=V4 J;have B:i≤64:=J
  cases hb:s.testBit i with
  |false =>
   rw[hb]at Y F;simp only[Bool.false_and,Bool.or_false]at F;by_cases v1:v=-1
   ·simp[j,z,I,C,A,V,gF,Nb K,hu,B,em,L,Q,Y,v1]
    repeat (refine⟨J,?_⟩)
    exact X _ _ _ ⟨N-1,J,i+1,rfl,rfl,J,Af,Ae,Bd,Al,by simp[A,F],by simp,P (by simp[Rv,hb,v1])⟩
   ·simp[j,z,I,C,A,V,gF,Nb K,hu,B,em,L,Q,Y,v1]
    repeat (refine⟨J,?_⟩)
    exact G (by simp[Rv,hb,v1])
  |true =>
   rw[hb]at Y F;simp only[Lw]at F;by_cases v0:v<0
   ·simp[j,z,I,C,A,V,gF,Nb K,hu,B,em,L,Q,Y,v0]
    repeat (refine⟨J,?_⟩)
    exact G Fl
   by_cases v1:(g.length:Int)≤v
   ·simp[j,z,I,C,A,V,gF,Nb K,hu,B,em,L,Q,Y,v0,v1]
    repeat (refine⟨J,?_⟩)
    exact G Fl
   have hv:mz g v:=⟨J,J⟩;have ok:=P Fl;obtain⟨k,rfl,Z,ek⟩:=hv.at;have q1:=zkw ek;simp only[In]at q1 F;have v2:¬g.length≤k:=J
   have T:¬(k:Int)<0:=J
   have next:∀M b,U6 g o s (i+1)=b→lk M 0=.lst (N0 g) g.length 3→lk M 3=.ptr 0 0→lk M 5=.i s→lk M 6=.ptr 1 0→lk M 7=.bool b→lk M 8=.i ((i:Int)+1)→Nx M [] [.cells o.f 0,.cells ((Q5 o).map .i) 1]:=by
    rintro M b rfl a0 a3 a5 a6 a7 a8;exact X _ _ _ ⟨N-1,J,i+1,rfl,rfl,J,a0,a3,a5,a6,a7,by rw[a8];simp,ok⟩
   by_cases c2:(2:Int)≤(i:Int)
   ·have gz:2≤i:=J
    cases ha:U6 g o s i with
    |false =>
     rw[ha]at F A;simp[gz]at F;simp[j,z,I,C,A,V,gF,Nb K,Nb q1,hu,B,em,L,Q,Y,v2,Z,c2,T]
     repeat (refine⟨J,?_⟩)
     exact next _ _ F Af Ae Bd Al (by simp) (by simp)
    |true =>
     rw[ha]at F A;simp at F;simp[j,z,I,C,A,V,gF,Nb K,hu,B,em,L,Q,Y,v2,Z,c2,T]
     repeat (refine⟨J,?_⟩)
     exact next _ _ F Af Ae Bd Al (by simp) (by simp)
   have gz:¬2≤i:=J
   by_cases O:o.kind=14
   ·cases ha:U6 g o s i with
    |false =>
     rw[ha]at F A;simp[gz,O]at F;simp[j,z,I,C,A,V,gF,Nb K,Nb q1,hu,B,em,L,Q,Y,v2,Z,c2,T,E,O]
     repeat (refine⟨J,?_⟩)
     rw[←O,←E];exact next _ _ F Af Ae Bd Al (by simp) (by simp)
    |true =>
     rw[ha]at F A;simp at F;simp[j,z,I,C,A,V,gF,Nb K,hu,B,em,L,Q,Y,v2,Z,c2,T,E,O]
     repeat (refine⟨J,?_⟩)
     rw[←O,←E];exact next _ _ F Af Ae Bd Al (by simp) (by simp)
   ·simp[gz,O]at F;simp[j,z,I,C,A,V,gF,Nb K,Nb q1,hu,B,em,L,Q,Y,v2,Z,c2,T,E,O]
    repeat (refine⟨J,?_⟩)
    rw[←E];exact next _ _ F Af Ae Bd Al As (by simp)
 have gA:T7 g.length s o=true:=znk λgg hj=>hp gg J
 have gC:=zpt U gA;have ei:i=5:=J
 subst ei;rw[secU_5 U gA]at A;simp[j,z,I,C,A,V];refine O5 (λρ gL gM N=>∃i:Nat,gL=[]∧gM=[.cells o.f 0,.cells ((Q5 o).map .i) 1]∧N+i=2∧lk ρ 0=.lst (N0 g) g.length 3∧lk ρ 3=.ptr 0 0∧lk ρ 6=.ptr 1 0∧lk ρ 7=.bool (O7 g o)∧lk ρ 10=.i i∧∀gg,gg<i→Su g (O7 g o) (gd (Q5 o) gg)=true) (N:=2) ⟨0,by simp[j,z,C,A]⟩ ?_;clear j z I C A V hp X;rintro N ρ gL gM ⟨i,rfl,rfl,hN,j,z,C,A,H,hp⟩ Nx X;by_cases hi:2≤i
 case neg =>
  have gF:(i:Int)<2:=J
  have g5:(i:Int)<5:=J
  have g2:i<2:=J
  have K:=Xd (f:=LV.i) (X6 (l:=Q5 o) (u:=i) (J:i<5));have P:Su g (O7 g o) (gd (Q5 o) i)=true→∀gg,gg<i+1→Su g (O7 g o) (gd (Q5 o) gg)=true:=λh gg hj=>by
   by_cases e:gg=i
   ·rw[e];exact h
   ·exact hp gg J
  have G:Su g (O7 g o) (gd (Q5 o) i)=false→Og g o=false:=λh=>by
   have gG:i=0∨i=1:=J
   rcases gG with rfl|rfl
   ·have h:Su g (O7 g o) o.d=false:=h;simp[Og,D,U,h]
   ·have h:Su g (O7 g o) o.e=false:=h;simp[Og,D,U,h]
  have gH:gd (Q5 o) i=-1∨mz g (gd (Q5 o) i):=by
   have gG:i=0∨i=1:=J
   rcases gG with rfl|rfl
   ·exact gC.d
   ·exact gC.e
  have next:∀M,Su g (O7 g o) (gd (Q5 o) i)=true→lk M 0=.lst (N0 g) g.length 3→lk M 3=.ptr 0 0→lk M 6=.ptr 1 0→lk M 7=.bool (O7 g o)→lk M 10=.i ((i:Int)+1)→Nx M [] [.cells o.f 0,.cells ((Q5 o).map .i) 1]:=by
   intro M ok a0 a3 a6 a7 gI;exact X _ _ _ ⟨N-1,J,i+1,rfl,rfl,J,a0,a3,a6,a7,by rw[gI];simp,P ok⟩
  generalize gd (Q5 o) i=v at *;rcases gH with rfl|hv
  ·simp[j,z,C,A,H,gF,g5,Nb K]
   repeat (refine⟨J,?_⟩)
   exact next _ (by simp[Su]) Af Ae Al As (by simp)
  ·obtain⟨k,rfl,Z,ek⟩:=hv.at;have q1:=zkw ek;have q2:=oc ek;simp only[In]at q1 q2;have R:Sd (gv g k)=(decide ((gv g k).mode=1) || decide ((gv g k).mode=2)):=rfl;have ho:Su g (O7 g o) (k:Int)=!(Sd (gv g k) || (O7 g o && !(gv g k).sec)):=by
    have T:decide ((k:Int)<0)=false:=by simp
    simp[Su,T]
   have T:(0:Int)≤(k:Int):=J
   by_cases m1:(gv g k).mode=1
   ·simp[j,z,C,A,H,gF,g5,Nb K,Nb q2,Z,T,m1]
    repeat (refine⟨J,?_⟩)
    exact G (by rw[ho,R];simp[m1])
   by_cases m2:(gv g k).mode=2
   ·simp[j,z,C,A,H,gF,g5,Nb K,Nb q2,Z,T,m1,m2]
    repeat (refine⟨J,?_⟩)
    exact G (by rw[ho,R];simp[m2])
   cases gE:O7 g o with
   |false =>
    rw[gE]at A ho G next
    simp[j,z,C,A,H,gF,g5,Nb K,Nb q2,Z,T,m1,m2]
    repeat (refine⟨J,?_⟩)
    exact next _ (by rw[ho,R];simp[m1,m2]) Af Ae Al As (by simp)
   |true =>
    rw[gE]at A ho G next
    cases gD:(gv g k).sec with
    |false =>
     simp[j,z,C,A,H,gF,g5,Nb K,Nb q1,Nb q2,Z,T,m1,m2,gD]
     repeat (refine⟨J,?_⟩)
     exact G (by rw[ho,gD];simp)
    |true =>
     simp[j,z,C,A,H,gF,g5,Nb K,Nb q1,Nb q2,Z,T,m1,m2,gD]
     repeat (refine⟨J,?_⟩)
     exact next _ (by rw[ho,R,gD];simp[m1,m2]) Af Ae Al As (by simp)
 have ei:i=2:=J
 subst ei;have od:Su g (O7 g o) o.d=true:=hp 0 J;have oe:Su g (O7 g o) o.e=true:=hp 1 J;have gO:o.f.length=7:=rfl;have gP:o.f.take 7=o.f:=rfl;by_cases L:o.e<0
 ·simp[j,z,H,E,L];rw[←E];refine Nt (zef g o gC.alike) (bors_self _ (by simp[dats,LV.dat,Rg,E])) ?_;simp[Og,D,U,hn,gA,od,oe,L]
 ·by_cases Q:o.d=o.e
  ·simp[j,z,H,E,L,Q];simp[Og,D,U,L,Q]
  ·simp[j,z,H,E,L,Q];rw[←E];refine Nt (zef g o gC.alike) (bors_self _ (by simp[dats,LV.dat,Rg,E])) ?_;simp[Og,D,U,hn,gA,od,oe,L,Q]
def zfe:LC:=(.q [.x 3 1,.F 4] (.q [.m 5 0,.w 6 56 5,.m 7 6,.my 8 7 0,.y 9 7 (.loadN 7 (.t 3)),.y 10 7 (.w 57 [.t 8,.t 9]),.q 11 7 10,.m 4 11] .ret))
def r_ref22_Alone:Ng Tryz.prog 16=some ⟨12,zfe.r,[.tmp 4]⟩:=Aa
def zm7(g:List Vr)(o:Ko)(z:g.length≤9223372036854775807):Nl 16 [.lst (N0 g) g.length 3,.agg o.f] (.bool (Rb g&&Og g o)) []:=by
 refine Of.val rfl (Ni r_ref22_Alone Aa N ?_);have j:o.f=[.i o.kind,.i o.d,.i o.e,.i o.a,.i o.b,.i o.c,.u o.imm]:=rfl;simp[zfe,j];refine Nt (zif g z) (bors_self _ Bc) ?_;cases hv:Rb g with
 |false=>simp
 |true =>
  simp[j];rw[←j];refine Nt (zt7 g o) (bors_self _ (by simp[dats,LV.dat,Rg,j])) ?_;simp
def Up(g:Int)(j:Bool)(r:Int):Prop:=r=-1∨(8≤r∧r<16)∨(j=true∧16≤r∧r<40)∨(j=false∧40≤r∧r<64)∨(g≤r∧r<8)
def zab:LC:=(.q [.F 6] (.seq (.q [.K 7 0] (.block 0 (.loop (.seq (.q [.m 11 7,.m 12 0,.s 13 12,.c 14 .lss 3 11 13] (.cond (.t 14) .skip (.exit 0))) (.seq (.block 1 (.seq (.seq (.draw [(.m 17 0,[]),(.m 18 7,[]),(.I 19 8 17 18,[]),(.f 20 1 19,[]),(.l 21 20,[]),(.m 22 0,[]),(.m 23 7,[]),(.I 24 8 22 23,[]),(.f 25 2 24,[]),(.l 26 25,[]),(.m 27 0,[]),(.m 28 7,[]),(.I 29 8 27 28,[]),(.f 30 3 29,[]),(.l 31 30,[]),(.m 32 0,[]),(.m 33 7,[]),(.I 34 8 32 33,[]),(.f 35 4 34,[]),(.l 36 35,[]),(.m 37 0,[]),(.m 38 7,[]),(.I 39 8 37 38,[]),(.f 40 5 39,[]),(.l 41 40,[]),(.z 42 (.buildSl 1 5 [(.i 0),(.i 0),(.i 0),(.i 0),(.i 0)] [(0,1,.t 21),(1,1,.t 26),(2,1,.t 31),(3,1,.t 36),(4,1,.t 41)]),[(.l 41 40,false),(.l 36 35,false),(.l 31 30,false),(.l 26 25,false),(.l 21 20,false)]),(.s 43 42,[]),(.K 44 0,[])]) (.block 2 (.loop (.q [.c 45 .lss 3 44 43] (.seq (.cond (.t 45) .skip (.exit 2)) (.seq (.block 3 (.q [.I 46 1 42 44,.l 47 46,.m 9 47] (.q [.m 48 9,.b 49 .eql 3 48 (-1),.m 50 49,.mn 51 50 9,.nb 52 50 .geq 3 51 8,.mn 53 50 52,.my 54 53 9,.y 55 53 (.bin .lss true 3 (.t 54) (.k 16)),.n 56 50 (.pick (.t 53) (.t 55) .F),.p 57 50 56,.m 58 57,.mn 59 58 2,.mn 60 58 59,.my 61 60 9,.y 62 60 (.bin .geq true 3 (.t 61) (.k 16)),.n 63 58 (.pick (.t 60) (.t 62) .F),.mn 64 58 63,.my 65 64 9,.y 66 64 (.bin .lss true 3 (.t 65) (.k 40)),.n 67 58 (.pick (.t 64) (.t 66) .F),.p 68 58 67,.m 69 68,.mn 70 69 2,.n 71 69 (.un .not (.t 70)),.mn 72 69 71,.my 73 72 9,.y 74 72 (.bin .geq true 3 (.t 73) (.k 40)),.n 75 69 (.pick (.t 72) (.t 74) .F),.mn 76 69 75,.my 77 76 9,.y 78 76 (.bin .lss true 3 (.t 77) (.k 64)),.n 79 69 (.pick (.t 76) (.t 78) .F),.p 80 69 79,.m 81 80,.mn 82 81 9,.mn 83 81 1,.n 84 81 (.bin .geq false 3 (.t 82) (.t 83)),.mn 85 81 84,.my 86 85 9,.y 87 85 (.bin .lss true 3 (.t 86) (.k 8)),.n 88 81 (.pick (.t 85) (.t 87) .F),.p 89 81 88,.m 10 89] (.q [.m 90 10,.z 91 (.un .not (.t 90))] (.cond (.t 91) (.q [.F 6] .ret) .skip))))) (.ops [.b 92 .add 3 44 1,.m 44 92]))))))) (.seq (.draw [(.m 93 0,[]),(.m 94 7,[]),(.I 95 8 93 94,[]),(.f 96 1 95,[]),(.l 97 96,[]),(.b 98 .geq 3 97 0,[]),(.m 99 98,[]),(.my 100 99 0,[]),(.my 101 99 7,[]),(.y 102 99 (.ixAddr 8 (.t 100) (.t 101)),[]),(.yf 103 99 1 102,[]),(.yl 104 99 103,[]),(.y 105 99 (.bin .lss true 3 (.t 104) (.k 8)),[]),(.q 106 99 105,[]),(.m 107 0,[]),(.m 108 7,[]),(.I 109 8 107 108,[]),(.f 110 0 109,[]),(.l 111 110,[]),(.b 112 .eql 3 111 16,[]),(.c 113 .neq 4 106 112,[])]) (.cond (.t 113) (.q [.F 6] .ret) .skip)))) (.ops [.m 15 7,.b 16 .add 3 15 1,.m 7 16])))))) (.q [.z 6 (.move .T)] .ret)))
def r_law24_registers:Ng Tryz.prog 115=some ⟨114,zab.r,[.tmp 6]⟩:=Aa
def zgf(L:List Lo)(deep:Int)(H:Bool)(hl:L.length≤9223372036854775807)(gL:0≤deep)(hr:∀o∈L,(∀r∈[o.d,o.e,o.a,o.b,o.c],Up deep H r)∧((0≤o.d∧o.d<8)↔o.kind=16)) :
  Nl 115 [.lst (Qh L) L.length 8,.i deep,.bool H] (.bool true) []:=by
 refine Of.val rfl (Ni r_law24_registers Aa (by simp) ?_);simp[zab];refine O5 (λT gK gg N=>∃i:Nat,gK=[]∧N+i=L.length∧lk T 0=.lst (Qh L) L.length 8∧lk T 1=.i deep∧lk T 2=.bool H∧lk T 7=.i i) (N:=L.length) ⟨0,by simp⟩ ?_;rintro N T gK gg ⟨i,rfl,hN,A,B,C,E⟩ Nx gz;by_cases gA:i<L.length
 ·have ho:=zhv gA;have hm:=hr _ (Iq ho);have o0:=zpx ho (j:=0) J;have X:=zpx ho (j:=1) J;have o2:=zpx ho (j:=2) J;have o3:=zpx ho (j:=3) J;have o4:=zpx ho (j:=4) J;have o5:=zpx ho (j:=5) J;have gM:=zo3 gA;generalize lj L i=o at *;simp[Lo.f]at o0 X o2 o3 o4 o5;obtain⟨gC,Y⟩:=hm;simp[A,B,C,E,gA,Nb X,Nb o2,Nb o3,Nb o4,Nb o5];have U:(gg++[LObj.dyn [.i o.d,.i o.e,.i o.a,.i o.b,.i o.c] 5 1 0 0])[gg.length]?=some (.dyn [.i o.d,.i o.e,.i o.a,.i o.b,.i o.c] 5 1 0 0):=Il;generalize gg++[LObj.dyn [.i o.d,.i o.e,.i o.a,.i o.b,.i o.c] 5 1 0 0]=G2 at *;generalize gg.length=gP at *;refine O5 (λT gK gg N=>∃j:Nat,gK=[]∧N+j=5∧lk T 0=.lst (Qh L) L.length 8∧lk T 1=.i deep∧lk T 2=.bool H∧lk T 7=.i i∧lk T 42=.dy gP 0∧lk T 43=.i 5∧lk T 44=.i j∧gg=G2) (N:=5)
   ⟨0,rfl,rfl,As,Ao,Al,Ak,by simp,by simp,by simp,rfl⟩ ?_
  clear A B C E;rintro N2 T gK G3 ⟨j,rfl,gO,A,B,C,E,z,g,F,rfl⟩ gD Z;by_cases O:j<5
  ·have D:(j:Int)<5:=J
   obtain⟨x,I,gE⟩:∃x,([LV.i o.d,.i o.e,.i o.a,.i o.b,.i o.c])[j]?=some (.i x)∧x∈[o.d,o.e,o.a,o.b,o.c]:=by
    have hj:j=0∨j=1∨j=2∨j=3∨j=4:=J
    rcases hj with rfl|rfl|rfl|rfl|rfl<;>exact⟨_,rfl,by simp⟩
   have hx:=gC x gE;have M:∀(G:M9),lk G 0=.lst (Qh L) L.length 8→lk G 1=.i deep→lk G 2=.bool H→lk G 7=.i i→lk G 42=.dy gP 0→lk G 43=.i 5→lk G 44=.i ((j:Int)+1)→gD G [] G3:=λG a0 a1 a2 a7 gF gG gH=>Z _ _ _ ⟨N2-1,J,j+1,rfl,J,a0,a1,a2,a7,gF,gG,by rw[gH];simp,rfl⟩
   rcases hx with e|⟨P,Q⟩|⟨rfl,P,Q⟩|⟨rfl,P,Q⟩|⟨P,Q⟩
   ·subst e;simp[A,B,C,E,z,g,F,U,O,D,Nb I];exact⟨J,M _ As Ao Al Ak Ae Av (by simp)⟩
   ·have R:¬x=-1:=J
    simp[A,B,C,E,z,g,F,U,O,D,Nb I,R,P,Q];exact⟨J,M _ As Ao Al Ak Ae Av (by simp)⟩
   ·have R:¬x=-1:=J
    have V:8≤x:=J
    have n3:¬x<16:=J
    simp[A,B,C,E,z,g,F,U,O,D,Nb I,R,V,n3,P,Q];exact⟨J,M _ As Ao Al Ak Ae Av (by simp)⟩
   ·have R:¬x=-1:=J
    have V:8≤x:=J
    have n3:¬x<16:=J
    simp[A,B,C,E,z,g,F,U,O,D,Nb I,R,V,n3,P,Q];exact⟨J,M _ As Ao Al Ak Ae Av (by simp)⟩
   ·have R:¬x=-1:=J
    have V:¬8≤x:=J
    have n4:¬16≤x:=J
    have n5:¬40≤x:=J
    cases H with
    |true =>
     simp[A,B,C,E,z,g,F,U,O,D,Nb I,R,V,n4,n5,P,Q];exact⟨J,M _ As Ao Al Ak Ae Av (by simp)⟩
    |false =>
     simp[A,B,C,E,z,g,F,U,O,D,Nb I,R,V,n4,n5,P,Q];exact⟨J,M _ As Ao Al Ak Ae Av (by simp)⟩
  ·have D:¬(j:Int)<5:=J
   have M:∀(G:M9) (G':M7),lk G 0=.lst (Qh L) L.length 8→lk G 1=.i deep→lk G 2=.bool H→lk G 7=.i ((i:Int)+1)→Nx G [] G':=λG G' a0 a1 a2 a7=>gz _ _ _ ⟨N-1,J,i+1,rfl,J,a0,a1,a2,by rw[a7];simp⟩
   by_cases K:o.kind=16
   ·obtain⟨m1,m2⟩:=Y.2 K;simp[A,B,C,E,g,F,O,D,gA,Nb o0,Nb X,K,m1,m2,ni];exact⟨J,M _ _ As Ao Al (by simp)⟩
   ·have gI:¬(0≤o.d∧o.d<8):=λq=>K (Y.1 q)
    by_cases m1:0≤o.d
    ·have m2:¬o.d<8:=λq=>gI ⟨m1,q⟩
     simp[A,B,C,E,g,F,O,D,gA,Nb o0,Nb X,K,m1,m2,ni];exact⟨J,M _ _ As Ao Al (by simp)⟩
    ·simp[A,B,C,E,g,F,O,D,gA,Nb o0,Nb X,K,m1,ni];exact⟨J,M _ _ As Ao Al (by simp)⟩
 ·simp[A,E,gA]
def yr{c:Cf}{f:Fr Lo}(B:f.AllH c z)(Q:0≤z)(E:c.lo=z)(F:c.hi=7)(T:8≤c.pa∧c.pb<16)(G:(R=true∧16≤c.R∧c.R+c.w≤40)∨(R=false∧40≤c.R∧c.R+c.w≤64)) :
  ∀o∈f.flat,(∀r∈[o.d,o.e,o.a,o.b,o.c],Up z R r)∧((0≤o.d∧o.d<8)↔o.kind=16):=by
 intro o ho;have h:=allH_flat B o ho;have rg:∀{x:Int},Rf c x→Up z R x∧16≤x:=λ{x} h=>by
  unfold Rf at h;unfold Up;rcases G with ⟨e,q⟩|⟨e,q⟩
  ·exact⟨.inr (.inr (.inl ⟨e,J,J⟩)),J⟩
  ·exact⟨.inr (.inr (.inr (.inl ⟨e,J,J⟩))),J⟩
 have H:∀{x:Int},Ua c x→Up z R x:=λ{x} h=>by
  unfold Ua at h;unfold Up;rcases h with h|h
  ·exact .inr (.inr (.inr (.inr J)))
  ·exact .inr (.inl J)
 have j:∀{x:Int},T6 c x→Up z R x:=λ{x} h=>by
  rcases h with h|h|h
  ·exact .inl h
  ·exact (rg h).1
  ·exact H h
 have m1:Up z R (-1):=.inl rfl;rcases h with h|rfl|⟨I,⟨K,D,L,M,O,P,_⟩,U,V⟩
 ·have A:Up z R o.d∧Up z R o.e∧¬(0≤o.d∧o.d<8):=by
   rcases h.m with ⟨m1,C,_⟩|⟨_,m1,C,_⟩
   ·refine⟨?_,?_,?_⟩
    ·rcases m1 with e|e
     ·exact .inl e
     ·exact (rg e).1
    ·rcases C with e|e
     ·exact .inl e
     ·exact (rg e).1
    ·rcases m1 with e|e
     ·omega
     ·have:=(rg e).2;omega
   ·exact⟨.inr (.inl J),.inl C,J⟩
  refine⟨λx g=>?_,λq=>absurd q A.2.2,λq=>absurd q h.k.1⟩;simp only[If,J9,L6]at g;rcases g with rfl|rfl|rfl|rfl|rfl
  ·exact A.1
  ·exact A.2.1
  ·exact j h.a
  ·exact j h.b
  ·exact j h.z
 ·refine⟨λx g=>?_,by simp[T1]⟩;simp[T1]at g;subst g;exact m1
 ·refine⟨λx g=>?_,?_⟩
  ·simp only[D,L,M,O,P,If,J9,L6]at g;rcases g with rfl|rfl|rfl|rfl|rfl
   ·exact .inr (.inr (.inr (.inr J)))
   all_goals exact m1
  ·rw[D];exact⟨λ_=>K,λ_=>J⟩
def zzg{vs:List Vr}{o:Ko}{d a b c:Nat}{deep:Nat}(h:PwV vs o d a b c)(hd:deep≤4):∀x∈((Nu vs o).code deep).flat,(∀r∈[x.d,x.e,x.a,x.b,x.c],Up deep (!(gv vs d).sec) r)∧((0≤x.d∧x.d<8)↔x.kind=16):=by
 have q:=pl_C h;have j:PwC { Ww vs d a b c with lo:=(deep:Int) } (Nu vs o):=⟨q.r,q.q,q.d,q.a,q.b,q.n,q.wl,q.ws,q.wb,q.k,q.w,q.ti,q.bk⟩;have g:=Pw.all j (D:=(deep:Int)) ⟨Int.le_refl _,Cr⟩;refine yr g J rfl rfl (by simp[Ww]) ?_;simp only[Ww];cases (gv vs d).sec<;>simp

def z6i:LC:=(.q [.x 3 0,.x 4 1,.F 6] (.seq (.q [.f 9 0 4,.l 10 9,.b 11 .eql 3 10 16] (.cond (.t 11) (.q [.F 6] .ret) .skip)) (.seq (.q [.f 12 0 4,.l 13 12,.b 14 .eql 3 13 14] (.cond (.t 14) (.q [.f 15 1 3,.l 16 15,.f 17 6 4,.l 18 17,.I 19 3 16 18,.f 20 2 19,.l 21 20,.m 6 21] .ret) .skip)) (.q [.L 22 8 4,.w 23 143 22,.m 7 23] (.seq (.q [.K 8 0] (.block 0 (.loop (.seq (.q [.m 24 8,.m 25 7,.s 26 25,.c 27 .lss 3 24 26] (.cond (.t 27) .skip (.exit 0))) (.seq (.block 1 (.q [.m 30 2,.m 31 7,.m 32 8,.I 33 1 31 32,.l 34 33,.I 35 1 30 34,.l 36 35] (.cond (.t 36) (.q [.z 6 (.move .T)] .ret) .skip))) (.ops [.m 28 8,.b 29 .add 3 28 1,.m 8 29])))))) (.q [.F 6] .ret))))))
def r_ref13_secret:Ng Tryz.prog 145=some ⟨37,z6i.r,[.tmp 6]⟩:=Aa
def zeb:LC:=(.q [.x 1 0,.e 2] (.q [.L 11 3 1,.w 12 78 11,.m 10 12,.X 13 0 10,.X 14 1 10,.m 3 13,.m 4 14] (.seq (.q [.m 15 4,.b 16 .neq 35 15 0] (.cond (.t 16) (.q [.e 2] .ret) .skip)) (.q [.f 17 0 1,.l 18 17,.z 19 (.mkSl 1 [(.bool false)] (.t 18) (.t 18)),.m 5 19] (.seq (.q [.z 6 (.move .T)] (.block 0 (.loop (.seq (.q [.m 20 6] (.cond (.t 20) .skip (.exit 0))) (.block 1 (.q [.F 6] (.q [.K 7 0] (.block 2 (.loop (.seq (.q [.m 21 7,.f 22 2 1,.l 23 22,.s 24 23,.c 25 .lss 3 21 24] (.cond (.t 25) .skip (.exit 2))) (.seq (.block 3 (.q [.f 28 2 1,.l 29 28,.m 30 7,.I 31 8 29 30,.L 32 8 31,.w 33 142 32,.m 8 33] (.q [.K 9 0] (.block 4 (.loop (.seq (.q [.m 34 9,.m 35 8,.s 36 35,.c 37 .lss 3 34 36] (.cond (.t 37) .skip (.exit 4))) (.seq (.block 5 (.seq (.draw [(.m 40 5,[]),(.m 41 8,[]),(.m 42 9,[]),(.I 43 1 41 42,[]),(.l 44 43,[]),(.I 45 1 40 44,[]),(.l 46 45,[]),(.z 47 (.un .not (.t 46)),[]),(.m 48 47,[]),(.y 49 48 (.loadN 3 (.t 1)),[]),(.yf 50 48 2 1,[]),(.yl 51 48 50,[]),(.my 52 48 7,[]),(.y 53 48 (.ixAddr 8 (.t 51) (.t 52)),[]),(.y 54 48 (.loadN 8 (.t 53)),[]),(.my 55 48 5,[]),(.y 56 48 (.w 145 [.t 49,.t 54,.t 55]),[]),(.q 57 48 56,[])]) (.cond (.t 57) (.ops [.m 58 5,.m 59 8,.m 60 9,.I 61 1 59 60,.l 62 61,.I 63 1 58 62,.v (.store 1 (.t 63) .T),.z 6 (.move .T)]) .skip))) (.ops [.m 38 9,.b 39 .add 3 38 1,.m 9 39])))))))) (.ops [.m 26 7,.b 27 .add 3 26 1,.m 7 27])))))))))))) (.q [.m 64 5,.m 2 64] .ret))))))
def r_ref13_Secret:Ng Tryz.prog 79=some ⟨65,zeb.r,[.tmp 2]⟩:=Aa
def zfr:LC:=(.q [.x 1 0,.K 2 0,.K 3 0] (.q [.L 11 3 1,.w 12 78 11,.m 10 12,.X 13 0 10,.X 14 1 10,.m 4 13,.m 5 14] (.seq (.q [.m 15 5,.b 16 .neq 35 15 0] (.cond (.t 16) (.q [.m 17 4,.m 18 5,.m 2 17,.m 3 18] .ret) .skip)) (.q [.L 19 3 1,.w 20 79 19,.m 6 20] (.seq (.q [.K 7 0] (.block 0 (.loop (.seq (.q [.m 21 7,.f 22 2 1,.l 23 22,.s 24 23,.c 25 .lss 3 21 24] (.cond (.t 25) .skip (.exit 0))) (.seq (.block 1 (.q [.f 28 2 1,.l 29 28,.m 30 7,.I 31 8 29 30,.L 32 8 31,.z 8 (.alloc [(.i 0),(.i 0),(.i 0),(.i 0),(.i 0),(.i 0),(.i 0),(.u 0)]),.S 8 8 32] (.q [.f 33 0 8,.l 34 33,.b 35 .eql 3 34 14,.m 36 35,.nf 37 36 0 8,.nl 38 36 37,.nb 39 36 .eql 3 38 15,.p 40 36 39,.m 9 40] (.q [.m 41 9,.m 42 41,.yf 43 42 3 8,.yl 44 42 43,.y 45 42 (.bin .geq true 3 (.t 44) (.k 0)),.q 46 42 45,.m 47 46,.my 48 47 6,.yf 49 47 3 8,.yl 50 47 49,.y 51 47 (.ixAddr 1 (.t 48) (.t 50)),.yl 52 47 51,.q 53 47 52,.m 54 53,.nf 55 54 0 8,.nl 56 54 55,.nb 57 54 .eql 3 56 15,.mn 58 54 57,.my 59 58 6,.yf 60 58 4 8,.yl 61 58 60,.y 62 58 (.ixAddr 1 (.t 59) (.t 61)),.yl 63 58 62,.n 64 54 (.pick (.t 58) (.t 63) .F),.mn 65 54 64,.yf 66 65 1 1,.yl 67 65 66,.yf 68 65 6 8,.yl 69 65 68,.y 70 65 (.ixAddr 3 (.t 67) (.t 69)),.yf 71 65 2 70,.yl 72 65 71,.y 73 65 (.un .not (.t 72)),.n 74 54 (.pick (.t 65) (.t 73) .F),.p 75 54 74,.m 76 75,.nf 77 76 0 8,.nl 78 76 77,.nb 79 76 .eql 3 78 16,.mn 80 76 79,.my 81 80 6,.yf 82 80 1 8,.yl 83 80 82,.y 84 80 (.ixAddr 1 (.t 81) (.t 83)),.yl 85 80 84,.n 86 76 (.pick (.t 80) (.t 85) .F),.p 87 76 86] (.cond (.t 87) (.q [.m 88 7,.m 2 88,.K 3 12] .ret) .skip))))) (.ops [.m 26 7,.b 27 .add 3 26 1,.m 7 27])))))) (.q [.f 89 2 1,.l 90 89,.s 91 90,.m 2 91,.K 3 0] .ret))))))
def r_ref13_Check:Ng Tryz.prog 25=some ⟨92,zfr.r,[.tmp 2,.tmp 3]⟩:=Aa
def qo{o:Lo}(h:Qg z Z o=true)(g:o.kind=14∨o.kind=15):0≤o.buf∧o.buf.toNat<Z.length:=by
 unfold Qg at h;simp only[Hy,Ic]at h;obtain⟨⟨A,B⟩,d,e,a,b,c,f,j⟩:=h;rw[H7 (by rcases g with q|q<;>simp[Pf,q])]at j;simp only[Hy,Ic]at j;omega
def zjc{r:Nat}{os:List Lo}{m:List Bool}{o:Lo}(U:Qg r Z o=true)(hm:m.length=r) :
  O1 145 [.agg (Nk r Z os),.agg o.f,.lst (m.map .bool) r 1] (.bool (Zc Z m o)):=by
 refine R7.mk rfl (Ni r_ref13_secret Aa (by simp) ?_);have I:o.f=[.i o.kind,.i o.d,.i o.e,.i o.a,.i o.b,.i o.c,.i o.buf,.u o.imm]:=rfl;obtain⟨Y,_,_⟩:=z36 U;generalize g:Zc Z m o=gC;unfold Zc at g;by_cases z:o.kind=16
 ·rw[H7 z]at g;simp[z6i,Nk,I,z,g]
 rw[Hx z]at g;by_cases j:o.kind=14
 ·rw[H7 j]at g;obtain⟨b0,K⟩:=qo U (.inl j);obtain⟨bn,G⟩:=Hz b0;rw[G]at K g;simp only[In]at K g;have q2:=zxd (Sx K);simp[z6i,Nk,I,j,G,K,Nb q2,g]
 rw[Hx j]at g;simp[z6i,Nk,I,z,j];refine Rm (by rw[←I];exact zdv o) Bo ?_;simp;have gg:=zng o;refine O5 (λX gz gA N=>∃P:Nat,gz=[]∧N+P=(Oy o).length∧lk X 2=.lst (m.map .bool) r 1∧lk X 7=.lst ((Oy o).map .i) (Oy o).length 1∧lk X 8=.i P∧∀x∈(Oy o).take P,Pj m x=false) (N:=(Oy o).length)
  ⟨0,rfl,J,by simp,by simp,by simp,by simp⟩ ?_
 rintro N X gz gA ⟨P,rfl,hN,L,M,Q,R⟩ Nx T;by_cases F:P<(Oy o).length
 ·have V:=Xd (f:=LV.i) (X6 F);have H:=zgv F;have C:=zlz F;generalize gd (Oy o) P=x at *;obtain⟨x0,xr⟩:=Y x C;obtain⟨O,rfl⟩:=Hz x0;have D:O<r:=J
  have A:(m.map LV.bool)[O]?=some (.bool (Pj m (O:Int))):=by simp[Pj,hm,D]
  cases B:Pj m (O:Int) with
  |true =>
   rw[B]at A;rw[show (Oy o).any (Pj m)=true from Jb.2 ⟨_,C,B⟩]at g;subst g;simp[L,M,Q,F,Nb V,D,Nb A]
  |false =>
   rw[B]at A;simp[L,M,Q,F,Nb V,D,Nb A];refine⟨J,T _ _ _ ⟨N-1,J,P+1,rfl,J,Bz,A9,by simp,λy E=>?_⟩⟩;rw[H]at E;rcases Ir.1 E with E|E
   ·exact R y E
   ·simp at E;rw[E];exact B
 ·rw[Im J]at R;have:(Oy o).any (Pj m)=false:=by rw[Lq];intro x hx;simp[R x hx]
  rw[this]at g;subst g;simp[L,M,Q,F]
def zgu(l:List Bool):dats (l.map .bool)=true:=by induction l<;>simp_all [dats,LV.dat]
def zkp{r:Nat}{os:List Lo}(hc:(Ra r Z os).2=0) :
  O1 79 [.agg (Nk r Z os)] (.lst ((Y4 r Z os).map .bool) r 1):=by
 obtain⟨jA,g9,jB,jC,jg,gz⟩:=z81 hc;refine R7.mk (by simp[LV.dat,zgu]) (Ni r_ref13_Secret Aa (by simp) ?_);have gP:dats (Nk r Z os)=true:=zj4 _ _ _;simp[zeb,Nk];refine Nt (z4q r Z os) (bors_self _ Bh) ?_;simp[hc];refine⟨J,?_⟩;have gA:∀o∈os,∀x∈Nf o,0≤x∧x<(r:Int):=λo ho=>(z36 (gz o ho)).2.1
 refine O5 (λT gO gM N=>∃(st n:Nat) (m:List Bool) (D:Bool),gO=[]∧N=(if D=true then n+1 else 0)∧lk T 1=.ptr 0 0∧lk T 5=.dy 1 0∧lk T 6=.bool D∧gM[0]?=some (.cells (Nk r Z os) 0)∧gM[1]?=some (.dyn (m.map .bool) r 1 0 st)∧m.length=r∧(D=true→Ug m<n)∧(if D=true then W7 Z os n m else m)=Y4 r Z os) (N:=r+1+1)
  ⟨0,r+1,List.replicate r false,true,rfl,by simp,by simp,by simp,by simp,B4,by simp[repBs],by simp,λ_=>?_,by simp[Y4]⟩ ?_
 ·have:Ug (List.replicate r false)≤r:=by unfold Ug;exact Ja (List.countP_le_length) (by simp)
  omega
 rintro N T gO gM ⟨st,n,m,D,rfl,hN,G,F,I,g,j,gC,gD,hL⟩ Nx gQ;cases D with
 |false =>
  simp at hL;simp[F,I];exact⟨_,_,_,⟨rfl,rfl,rfl⟩,⟨st,by rw[j,hL]⟩,zgu _⟩
 |true =>
 simp at hN gD hL;subst hN;obtain⟨n,rfl⟩:∃k,n=k+1:=⟨n-1,J⟩;rw[W7]at hL;simp[F,I];refine O5 (λT gO gM N=>∃(i st:Nat) (Y:List Bool) (z:Bool),gO=[]∧N+i=os.length∧lk T 1=.ptr 0 0∧lk T 5=.dy 1 0∧lk T 6=.bool z∧lk T 7=.i i∧gM[0]?=some (.cells (Nk r Z os) 0)∧gM[1]?=some (.dyn (Y.map .bool) r 1 0 st)∧Y.length=r∧bj Z (os.drop i) (Y,z)=bj Z os (m,false)) (N:=os.length)
  ⟨0,st,m,false,rfl,J,A6,Ah,by simp,by simp,g,j,gC,by simp⟩ ?_
 clear G F I g j;rintro N T gO gM ⟨i,gE,Y,z,rfl,hN,G,F,I,K,g,j,U,H⟩ jD gF;have l0:=(Hu.1 g).1;have l1:=(Hu.1 j).1;by_cases gZ:i<os.length
 case neg =>
  rw[J0 J,bj]at H;rw[←H]at hL;have gG:=zxg Z os (m,false) (by rw[gC];exact gA);rw[←H]at gG;have gR:¬i<os.length:=gZ;simp[G,K,g,Nk,gR];refine gQ _ _ _ ⟨if z=true then n+1 else 0,by split<;>omega,gE,n,Y,z,rfl,rfl,A6,Ah,Bd,g,j,U,λhm=>?_,by simpa using hL⟩;have:=gG.2 hm;simp at this;omega
 have ho:=zhv gZ;have V:lj os i∈os:=Iq ho;rw[zj5 gZ,bj]at H;have gH:=zdh ho;have gI:=zo3 gZ;generalize lj os i=o at *;have hC:o.f=[.i o.kind,.i o.d,.i o.e,.i o.a,.i o.b,.i o.c,.i o.buf,.u o.imm]:=rfl;simp[G,K,g,Nk,gZ,gH,gI];refine Rm (zed o) (by simp[dats,LV.dat,hC]) ?_;simp;have gT:=gA o V;refine O5 (λT gO gM N=>∃(gg st:Nat) (E:List Bool) (B:Bool),gO=[]∧N+gg=(Nf o).length∧lk T 1=.ptr 0 0∧lk T 5=.dy 1 0∧lk T 6=.bool B∧lk T 7=.i i∧lk T 8=.lst ((Nf o).map .i) (Nf o).length 1∧lk T 9=.i gg∧gM[0]?=some (.cells (Nk r Z os) 0)∧gM[1]?=some (.dyn (E.map .bool) r 1 0 st)∧E.length=r∧mkS Z o ((Nf o).drop gg) (E,B)=mkS Z o (Nf o) (Y,z)) (N:=(Nf o).length)
  ⟨0,gE,Y,z,rfl,J,A6,Ah,Bd,Bj,by simp,by simp,g,j,U,by simp⟩ ?_
 clear G F I K g j l0 l1;rintro N3 T gO G3 ⟨gg,L,E,B,rfl,jE,G,F,I,K,h8,h9,g,j,C,A⟩ jF M;have l0:=(Hu.1 g).1;have l1:=(Hu.1 j).1;have jz:=znn o;by_cases X:gg<(Nf o).length
 ·have hg:=Xd (f:=LV.i) (X6 X);have gU:(Nf o).drop gg=gd (Nf o) gg::(Nf o).drop (gg+1):=by
   rw[Jr X];simp[gd,Hv,X]
  have gV:=zlz X;rw[gU,mkS]at A;generalize gd (Nf o) gg=x at *;obtain⟨x0,xr⟩:=gT x gV;obtain⟨P,rfl⟩:=Hz x0;have Q:P<r:=J
  have R:(E.map LV.bool)[P]?=some (.bool (Pj E (P:Int))):=by simp[Pj,C,Q]
  cases O:Pj E (P:Int) with
  |true =>
   rw[O]at R;simp[O]at A;simp[G,F,K,h8,h9,X,Nb hg,g,j,Q,Nb R];refine⟨J,M _ _ _ ⟨N3-1,J,gg+1,L,E,B,rfl,J,A6,Ah,Bd,Bj,by simp[h8],by simp,g,j,C,A⟩⟩
  |false =>
   rw[O]at R;have gK:=zjc (os:=os) (gz o V) C;simp[G,F,K,h8,h9,X,Nb hg,g,j,Q,Nb R,Nk,gZ,gH,gI];have hb:bors G3 [.agg (Nk r Z os),.agg o.f,.dy 1 0] [.agg (Nk r Z os),.agg o.f,.lst (E.map .bool) r 1]:=⟨_,_,rfl,⟨_,rfl,bors_self _ gP⟩,_,_,rfl,⟨_,rfl,bors_self _ (by simp[hC,dats,LV.dat])⟩,_,_,rfl,⟨_,r,1,L,rfl,j,zgu _⟩,rfl⟩;refine CallL_B gK hb rfl ?_;have e1:Oq (E.map LV.bool) P [.bool true]=(E.set P true).map LV.bool:=by
    rw[show Oq (E.map LV.bool) P [.bool true]=(E.map LV.bool).set P (.bool true) by rw[I5,H7 Ab];simp[Oq],Ji]
   cases gL:Zc Z E o with
   |false =>
    simp[O,gL]at A;simp[h9];refine⟨J,M _ _ _ ⟨N3-1,J,gg+1,L,E,B,rfl,J,A6,Ah,Bd,Bj,by simp[h8],by simp,g,j,C,A⟩⟩
   |true =>
    simp[O,gL]at A;simp[F,h8,h9,X,Nb hg,j,Q,C,e1];refine⟨J,J,M _ _ _ ⟨N3-1,J,gg+1,L+1,E.set P true,true,rfl,J,A6,Ah,by simp,Bj,by simp[h8],by simp,?_,?_,Al,A⟩⟩
    ·rw[Hw J];exact g
    ·rw[←Ji];exact H0 l1
 ·have gY:¬gg<(Nf o).length:=X;rw[J0 J,mkS]at A;rw[←A]at H;simp[K,h8,h9,gY];refine⟨J,gF _ _ _ ⟨N-1,J,i+1,L,E,B,rfl,J,A6,Ah,Bd,by simp,g,j,C,H⟩⟩
def ze6{r:Nat}{gM:Int→Bool}(hc:(Ra r Z vX).2=0)(gD:Yx Z gM vX)(gE:∀o∈vX,o9 Z gM o=true) :
  O1 25 [.agg (Nk r Z vX)] (.tup [.i vX.length,.i 0]):=by
 obtain⟨gO,gI,gP,gQ,gK,X⟩:=z81 hc;refine R7.mk rfl (Ni r_ref13_Check Aa (by simp) ?_);have gR:dats (Nk r Z vX)=true:=zj4 _ _ _;simp[zfr,Nk];refine Nt (z4q r Z vX) (bors_self _ Bh) ?_;simp[hc];refine Rm (zkp hc) Bh ?_;have gg:X2 (Y4 r Z vX) gM:=zvg (λo ho x F=>((z36 (X o ho)).1 x F).1) (λo ho x F=>((z36 (X o ho)).2.1 x F).1) gD _ _ (X2.none _ _);have gT:(Y4 r Z vX).length=r:=by unfold Y4;rw[zx4];simp
 generalize Y4 r Z vX=gF at *;simp;refine O5 (λρ gU gL N=>∃i:Nat,gU=[]∧N+i=vX.length∧lk ρ 1=.ptr 0 0∧lk ρ 6=.lst (gF.map .bool) r 1∧lk ρ 7=.i i∧gL[0]?=some (.cells (Nk r Z vX) 0)) (N:=vX.length)
  ⟨0,rfl,J,by simp,by simp,by simp,B4⟩ ?_
 rintro N ρ gU gL ⟨i,rfl,hN,j,D,M,g⟩ Nx gG;have l0:=(Hu.1 g).1;by_cases gz:i<vX.length
 case neg =>
  have gH:¬i<vX.length:=gz;simp[j,M,g,Nk,gH]
 have ho:=zhv gz;have R:lj vX i∈vX:=Iq ho;have z:=zdh ho;have A:=zo3 gz;have hf:=X _ R;have H:=gE _ R;generalize lj vX i=o at *;have T:o.f=[.i o.kind,.i o.d,.i o.e,.i o.a,.i o.b,.i o.c,.i o.buf,.u o.imm]:=rfl;have U:∀x:List LObj,(gL++x)[0]?=some _:=λx=>(Nh l0).trans g
 obtain⟨ht,hm,hd⟩:=z36 hf;have gA:o.kind=15→0≤o.b:=λq=>(ht o.b (by unfold Oy;simp[q];split<;>simp)).1
 have H:=qq gg gA (λq=>(hd q).1) H;have ix:∀x:Int,0≤x→x<r→∃n:Nat,x=n∧n<r∧(gF.map LV.bool)[n]?=some (.bool (Pj gF x)):=λx h0 j=>by
  obtain⟨n,rfl⟩:=Hz h0
  exact ⟨n, rfl, by omega, by have : n < gF.length := by omega
                              simp[Pj,this]⟩
 have next:∀(ρ':M9) (G':M7),lk ρ' 1=.ptr 0 0→lk ρ' 6=.lst (gF.map .bool) r 1→lk ρ' 7=.i ((i:Int)+1)→G'[0]?=some (.cells (Nk r Z vX) 0)→Nx ρ' [] G':=λρ' G' a1 a6 a7 b0=>gG _ _ _ ⟨N-1,J,i+1,rfl,J,a1,a6,by rw[a7];simp,b0⟩
 have V:∀x:List LObj,(gL++x)[0]?=some (.cells (Nk r Z vX) 0):=λx=>(Nh l0).trans g
 unfold o9 at H;by_cases O:o.kind=14
 ·by_cases ha:0≤o.a
  ·have I:=ht o.a (by unfold Oy;rw[Hx J,Hx J,Hx J,H7 J];simp);simp[O,Pf,ha]at H;obtain⟨n,hn,G,F⟩:=ix o.a I.1 I.2;rw[H]at F;simp[j,D,M,g,Nk,gz,z,A,T,↓U,O,hn,G,Nb F];refine⟨J,next _ _ Af At (by simp) (V _)⟩
  ·simp[j,D,M,g,Nk,gz,z,A,T,↓U,O,ha];refine⟨J,next _ _ Af At (by simp) (V _)⟩
 by_cases B:o.kind=15
 ·have gC:=ht o.b (by unfold Oy;simp[B];split<;>simp);obtain⟨b0,b1⟩:=qo hf (.inr B);obtain⟨bn,P⟩:=Hz b0;rw[P]at b1;simp only[In]at b1;have q2:=zxd (Sx b1);obtain⟨nb,Q,E,C⟩:=ix o.b gC.1 gC.2;simp[B,Pf,P]at H;by_cases ha:0≤o.a
  ·have I:=ht o.a (by unfold Oy;rw[Hx J,Hx J,Hx J,Hx J,H7 J];simp);obtain⟨n,hn,G,F⟩:=ix o.a I.1 I.2;rw[H.1.resolve_left J]at F;cases Y:Pj gF o.b with
   |false =>
    rw[Y]at C;simp[j,D,M,g,Nk,gz,z,A,T,↓U,B,hn,G,Nb F,Q,E,Nb C];refine⟨J,next _ _ Af At (by simp) (V _)⟩
   |true =>
    rw[Y]at C;have K:(Ns Z bn).sec=true:=by simpa [Y] using H.2
    rw[K]at q2;simp[j,D,M,g,Nk,gz,z,A,T,↓U,B,hn,G,Nb F,Q,E,Nb C,P,b1,Nb q2];refine⟨J,next _ _ Af At (by simp) (V _)⟩
  ·cases Y:Pj gF o.b with
   |false =>
    rw[Y]at C;simp[j,D,M,g,Nk,gz,z,A,T,↓U,B,ha,Q,E,Nb C];refine⟨J,next _ _ Af At (by simp) (V _)⟩
   |true =>
    rw[Y]at C;have K:(Ns Z bn).sec=true:=by simpa [Y] using H.2
    rw[K]at q2;simp[j,D,M,g,Nk,gz,z,A,T,↓U,B,ha,Q,E,Nb C,P,b1,Nb q2];refine⟨J,next _ _ Af At (by simp) (V _)⟩
 by_cases L:o.kind=16
 ·obtain⟨n,hn,G,F⟩:=ix o.d (hd L).1 (hd L).2;simp[L,Pf]at H;rw[H]at F;simp[j,D,M,g,Nk,gz,z,A,T,↓U,L,hn,G,Nb F];refine⟨J,next _ _ Af At (by simp) (V _)⟩
 ·simp[j,D,M,g,Nk,gz,z,A,T,↓U,O,B,L];refine⟨J,next _ _ Af At (by simp) (V _)⟩
def z52:LC:=(.q [.F 4] (.seq (.q [.m 6 0,.s 7 6,.m 8 1,.s 9 8,.c 10 .neq 3 7 9] (.cond (.t 10) (.q [.F 4] .ret) .skip)) (.seq (.q [.K 5 0] (.block 0 (.loop (.seq (.q [.m 11 5,.m 12 0,.s 13 12,.c 14 .lss 3 11 13] (.cond (.t 14) .skip (.exit 0))) (.seq (.block 1 (.seq (.draw [(.m 17 0,[]),(.m 18 5,[]),(.I 19 2 17 18,[]),(.L 20 2 19,[]),(.m 21 1,[]),(.m 22 5,[]),(.I 23 2 21 22,[]),(.L 24 2 23,[]),(.c 25 .neq 107 20 24,[])]) (.cond (.t 25) (.q [.F 4] .ret) .skip))) (.ops [.m 15 5,.b 16 .add 3 15 1,.m 5 16])))))) (.q [.z 4 (.move .T)] .ret))))
def r_kit_Same_api_LimbEvent:Ng Tryz.prog 64=some ⟨26,z52.r,[.tmp 4]⟩:=Aa
def cy:List (Option Bool)→Option Bool
 |[]=>some true
 |o::l=>match o with
  |some true=>cy l
  |some false=>some false
  |none=>none
def resGvs:∀l:List Bool,cy (l.map some)=some (l.all id)
 |[]=>rfl
 |true::l=>by rw[Kk,cy,resGvs l];rfl
 |false::l=>rfl
def evEq(a b d e:Int):Sn Tryz.prog false 107 (.agg [.int .i64 a,.int .i64 b]) (.agg [.int .i64 d,.int .i64 e])=cy [some (eq a d),some (eq b e)]:=Aa
def evEq2(a b:Int):Sn Tryz.prog false 107 (.agg (toAs [.i a,.i b])) (.agg (toAs [.i a,.i b]))=some true:=by
 have h:=evEq a b a b;have e:[some (eq a a),some (eq b b)]=[eq a a,eq b b].map some:=rfl;rw[e,resGvs]at h;refine Eq.trans h ?_;simp only[z8w,Ki,List.all_nil,Bool.and_true,id];simp
def ev_two{l:List (Int×Int)}{i:Nat}{e:Int×Int}(h:l[i]?=some e):((U3 l).drop (i*2)).take 2=[.i e.1,.i e.2]:=zcz (f:=λe:Int×Int=>[LV.i e.1,.i e.2]) (λ_=>rfl) h
def ev_lt{l:List (Int×Int)}{i:Nat}(h:i<l.length):i*2+2≤(U3 l).length:=zty (f:=λe:Int×Int=>[LV.i e.1,.i e.2]) (λ_=>rfl) h
def i3(l:List (Int×Int))(H:l.length≤9000000000000000000):Nl 64 [.lst (U3 l) l.length 2,.lst (U3 l) l.length 2] (.bool true) []:=by
 refine Of.val rfl (Ni r_kit_Same_api_LimbEvent Aa (by simp) ?_);simp[z52];refine O5 (λB G I N=>∃i:Nat,G=[]∧N+i=l.length∧lk B 0=.lst (U3 l) l.length 2∧lk B 1=.lst (U3 l) l.length 2∧lk B 5=.i i) (N:=l.length) ⟨0,by simp⟩ ?_;rintro N B G I ⟨i,rfl,K,g,j,z⟩ L A;by_cases C:i<l.length
 ·have D:=H6 C;have E:=ev_two D;have F:=ev_lt C;simp[g,j,z,C,E,F];refine⟨_,rfl,rfl,evEq2 _ _,?_⟩;simp[z];exact⟨J,A _ _ _ ⟨N-1,J,i+1,rfl,J,Av,Af,by simp⟩⟩
 ·simp[g,j,z,C]
def z5f:LC:=(.q [.x 7 1,.F 12] (.q [.m 30 0,.m 31 3,.W 32 19 30 31,.z 13 (.alloc [.nilSl,.nilSl,(.i 0),(.i 0),(.i 0),(.i 0),(.i 0),(.i 0)]),.S 8 13 32] (.q [.L 33 8 13,.m 34 2,.m 35 4,.V 36 52 33 34 35,.z 14 (.alloc [(.i 0),.nilSl,.nilSl]),.S 3 14 36] (.q [.L 38 3 14,.w 39 25 38,.m 37 39,.X 40 0 37,.X 41 1 37,.m 15 40,.m 16 41] (.seq (.q [.m 42 16,.b 43 .neq 35 42 0,.m 44 43,.mn 45 44 2,.mn 46 44 4,.mn 47 44 0,.n 48 44 (.loadN 7 (.t 7)),.n 49 44 (.w 61 [.t 47,.t 48]),.n 50 44 (.w 115 [.t 45,.t 46,.t 49]),.n 51 44 (.un .not (.t 50)),.p 52 44 51] (.cond (.t 52) (.q [.F 12] .ret) .skip)) (.q [.L 53 8 13,.m 54 5,.W 55 101 53 54,.m 17 55] (.seq (.q [.f 56 5 7,.l 57 56,.b 58 .geq 3 57 0,.m 59 58,.my 60 59 5,.y 61 59 (.lenSl (.t 60)),.y 62 59 (.bin .gtr true 3 (.t 61) (.k 0)),.q 63 59 62] (.cond (.t 63) (.draw [(.m 64 17,[]),(.f 65 5 7,[]),(.l 66 65,[]),(.I 67 1 64 66,[]),(.l 68 67,[]),(.m 69 17,[]),(.f 70 5 7,[]),(.l 71 70,[]),(.I 72 1 69 71,[]),(.l 73 72,[]),(.z 74 (.ixAddr 1 (.t 73) (.k 0)),[]),(.l 75 74,[]),(.m 76 5,[]),(.z 77 (.ixAddr 1 (.t 76) (.k 0)),[]),(.l 78 77,[]),(.u 79 .and 23 78 1,[]),(.c 80 .or 23 75 79,[]),(.z 81 (.ixAddr 1 (.t 68) (.k 0)),[]),(.S 1 81 80,[])]) .skip)) (.seq (.q [.K 18 0] (.block 0 (.loop (.seq (.q [.m 82 18,.b 83 .lss 3 82 2,.m 84 83,.my 85 84 5,.y 86 84 (.lenSl (.t 85)),.y 87 84 (.bin .gtr true 3 (.t 86) (.k 1)),.q 88 84 87,.m 89 88,.my 90 89 5,.y 91 89 (.ixAddr 1 (.t 90) (.k 1)),.yl 92 89 91,.y 93 89 (.bin .rem true 23 (.t 92) (.c (.u 2))),.y 94 89 (.bin .eql true 23 (.t 93) (.c (.u 0))),.q 95 89 94] (.cond (.t 95) .skip (.exit 0))) (.seq (.block 1 (.ops [.m 98 0,.L 99 7 7,.m 100 17,.V 101 116 98 99 100])) (.ops [.m 96 18,.b 97 .add 3 96 1,.m 18 97])))))) (.q [.L 103 3 14,.m 104 17,.W 105 29 103 104,.m 102 105,.X 106 0 102,.X 107 1 102,.X 108 2 102,.m 19 106,.m 20 107,.m 21 108] (.seq (.draw [(.L 110 3 14,[]),(.L 111 8 13,[]),(.z 112 (.w 101 [.t 111,(.c .nilSl)]),[(.L 110 3 14,false)]),(.W 113 29 110 112,[]),(.m 109 113,[]),(.X 114 0 109,[]),(.X 115 1 109,[]),(.X 116 2 109,[]),(.m 22 114,[]),(.m 23 115,[]),(.m 24 116,[])]) (.seq (.q [.m 117 21,.b 118 .neq 35 117 0,.m 119 118,.mn 120 119 24,.nb 121 119 .neq 35 120 0,.p 122 119 121,.m 123 122,.mn 124 123 22,.n 125 123 (.lenSl (.t 124)),.mn 126 123 19,.n 127 123 (.lenSl (.t 126)),.n 128 123 (.bin .neq false 3 (.t 125) (.t 127)),.p 129 123 128,.m 130 129,.mn 131 130 20,.mn 132 130 23,.n 133 130 (.w 64 [.t 131,.t 132]),.n 134 130 (.un .not (.t 133)),.p 135 130 134] (.cond (.t 135) (.q [.F 12] .ret) .skip)) (.q [.m 137 0,.L 138 7 7,.m 139 17,.V 140 117 137 138 139,.m 136 140,.X 141 0 136,.X 142 1 136,.X 143 2 136,.m 25 141,.m 26 142,.m 27 143] (.q [.K 28 1] (.seq (.q [.m 144 0,.L 145 7 7,.W 146 61 144 145] (.cond (.t 146) (.ops [.K 28 0]) .skip)) (.seq (.q [.K 29 0] (.block 2 (.loop (.seq (.q [.m 147 29,.m 148 19,.s 149 148,.c 150 .lss 3 147 149] (.cond (.t 150) .skip (.exit 2))) (.seq (.block 3 (.block 4 (.q [.m 154 29,.f 155 1 7,.l 156 155,.c 157 .eql 3 154 156,.m 153 157] (.cond (.t 153) (.q [.m 158 27,.m 159 158,.my 160 159 19,.my 161 159 29,.y 162 159 (.ixAddr 1 (.t 160) (.t 161)),.yl 163 159 162,.my 164 159 25,.y 165 159 (.w 66 [.t 163,.t 164]),.y 166 159 (.bin .neq true 3 (.t 165) (.k 0)),.q 167 159 166] (.cond (.t 167) (.q [.F 12] .ret) .skip)) (.q [.m 169 29,.f 170 2 7,.l 171 170,.c 172 .eql 3 169 171,.m 168 172] (.cond (.t 168) (.q [.m 173 27,.m 174 173,.my 175 174 19,.my 176 174 29,.y 177 174 (.ixAddr 1 (.t 175) (.t 176)),.yl 178 174 177,.my 179 174 26,.y 180 174 (.w 66 [.t 178,.t 179]),.y 181 174 (.bin .neq true 3 (.t 180) (.k 0)),.q 182 174 181] (.cond (.t 182) (.q [.F 12] .ret) .skip)) (.q [.m 184 29,.m 185 0,.s 186 185,.m 187 28,.c 188 .add 3 186 187,.c 189 .eql 3 184 188,.m 183 189] (.cond (.t 183) .skip (.seq (.draw [(.m 191 19,[]),(.m 192 29,[]),(.I 193 1 191 192,[]),(.l 194 193,[]),(.m 195 17,[]),(.m 196 29,[]),(.I 197 1 195 196,[]),(.l 198 197,[]),(.W 199 53 194 198,[]),(.z 200 (.un .not (.t 199)),[]),(.m 190 200,[])]) (.cond (.t 190) (.q [.F 12] .ret) .skip)))))))))) (.ops [.m 151 29,.b 152 .add 3 151 1,.m 29 152])))))) (.q [.z 12 (.move .T)] .ret))))))))))))))))
def r_law24_right:Ng Tryz.prog 50=some ⟨201,z5f.r,[.tmp 12]⟩:=Aa
def evC_dat(l:List (Int×Int)):dats (U3 l)=true:=zak (f:=λe:Int×Int=>[LV.i e.1,.i e.2]) (λ_=>rfl) l
def zwx{vs:List Vr}{o:Ko}{d a b c:Nat}(h:PwV vs o d a b c)(z:(gv vs d).limbs≤3)(g:(gv vs b).limbs=1){i:Nat}(hi:i<vs.length+2):(Ns (On vs (Nq vs o)) i).size≤1000:=by
 have A:=zck h;have hd:=We h.hv h.fd.2;have C:(gv vs d).limbs.toNat*2^o.imm.toNat≤3*2^6:=Jn J (Kj J h.w.2);by_cases q:i<vs.length
 ·rw[V0 q];have:=We h.hv q;show (gv vs i).limbs≤1000;omega
 ·have e:i=vs.length∨i=vs.length+1:=J
  have B:(Uu vs).length=vs.length:=by simp[Uu]
  have j:Nq vs o≤1000:=by
   rw[A.2.2,g];generalize (gv vs d).limbs.toNat*2^o.imm.toNat=x at *;omega
  unfold Ns On;rw[Hv,Ij J,B];rcases e with rfl|rfl
  ·simpa using j
  ·rw[(J:vs.length+1-vs.length=1)];simpa using j
def met_val{vs:List Vr}{o:Ko}{d a b c:Nat}{X:List (List UInt64)}(h:PwV vs o d a b c)(T:X.length=vs.length+2)(B:∀i,i<vs.length+2→((X.getD i []).length:Int)=(Ns (On vs (Nq vs o)) i).size)
  (M:(X.getD c []).getD 0 0%2=1→val (X.getD a [])<val (X.getD c [])→val v9=val (X.getD a [])^val (X.getD b [])%val (X.getD c [])) (hm:V3 o ((X.take vs.length).map val)=true):val v9=val (mtP vs o X):=by
 obtain⟨I,O⟩:=h.fa;obtain⟨P,U⟩:=h.fb;obtain⟨K,C⟩:=h.fc;obtain⟨Q,V⟩:=h.fd;have D:∀i,i<vs.length→gN ((X.take vs.length).map val) (i:Int)=val (X.getD i []):=λi hi=>by
  unfold gN;rw[Hx J,In,Hv,Jw,Ju hi,Hv,H6 J];rfl
 have E:=hm;unfold V3 X4 at hm;rw[h.hk,I,K]at hm;simp[Ya]at hm;obtain⟨⟨_,j⟩,⟨_,_,z⟩⟩:=hm;rw[←Lv,D c C]at j;rw[←Lv,D a O,D c C]at z;have A:(X.getD c []).getD 0 0%2=1:=by
  have h:=zx5 (X.getD c []);have L:i0 (X.getD c [])=true:=by
   rw[h,Nat.testBit_zero];exact Js j
  unfold i0 at L;exact Ka L
 have hv:=M A z;have g:=B c J;rw[V0 C]at g;have g:((X.getD c []).length:Int)=(gv vs c).limbs:=g;have F:Qd vs o.d=(gv vs d).limbs:=by rw[Qd,Q];rfl
 have G:=z5c (a:=X.getD c []) (n:=(gv vs d).limbs.toNat) (by rw[←h.lc];omega);have R:0<val (X.getD c []):=J
 have H:=J1 (val (X.getD a [])^val (X.getD b [])) R;unfold mtP;rw[H7 E,I,P,K,F];simp only[In];rw[mR_p J,X5,X5,hv,zon,Iv (Mr H G)]
def ztx{vs:List Vr}{o:Ko}{d a b c deep:Nat}(h:PwV vs o d a b c)(hd:deep≤4)(j:(Ra ((64:Nat):Int) (On vs (Nq vs o)) ((Nu vs o).prog deep).flat).2=0) :
  O1 25 [.agg (Nk ((64:Nat):Int) (On vs (Nq vs o)) ((Nu vs o).prog deep).flat)] (.tup [.i ((Nu vs o).prog deep).flat.length,.i 0]):=by
 have g:=allH_flat (Pw.prog_all (p:=Nu vs o) (e:=deep) (pl_C h) rfl rfl hd);have A:=cfP_ok (vs:=vs) (d:=d) (a:=a) (b:=b) (c:=c);have hw:=wb_at (vs:=vs) (o:=o) (d:=d);cases B:(gv vs d).sec with
 |true =>
  have D:∀n,(Ww vs d a b c).S n→(Ns (On vs (Nq vs o)) n).sec=true:=λn C=>by
   rcases C with rfl|rfl
   ·rw[V0 h.fd.2];exact B
   ·rw[hw];exact B
  exact ze6 j (λx z=>(g x z).closedS A ((z81 j).2.2.2.2.2 x z)) (λx z=>(g x z).safeS A D)
 |false =>
  obtain⟨E,F,G⟩:=h.sec B;have H:∀n,(Ww vs d a b c).L n→(Ns (On vs (Nq vs o)) n).sec=false:=λn C=>by
   rcases C with rfl|rfl|rfl|rfl|rfl
   ·rw[V0 h.fd.2];exact B
   ·rw[V0 h.fa.2];exact E
   ·rw[V0 h.fb.2];exact F
   ·rw[V0 h.fc.2];exact G
   ·rw[hw];exact B
  exact ze6 j (λx z=>(g x z).closedP H) (λx _=>safeP)
set_option maxHeartbeats 2000000 in
def zmj{vs:List Vr}{o:Ko}{d a b c deep:Nat}{fill:List UInt64}(h:PwV vs o d a b c)(hl:PwL vs o)(gY:(gv vs d).limbs≤3)(gZ:(gv vs b).limbs=1)(hd:deep≤4)(Ag:fill.length≤40) :
  Nl 50 [.lst (N0 vs) vs.length 3,.agg o.f,.lst (Qh ((Nu vs o).code deep).flat) ((Nu vs o).code deep).flat.length 8,.i (Nq vs o),.i deep,LU fill] (.bool true) []:=by
 refine Of.val rfl (zx6 r_law24_right Aa (by simp) ?_);have Z:o.f=[.i o.kind,.i o.d,.i o.e,.i o.a,.i o.b,.i o.c,.u o.imm]:=rfl;have j7:=zck h;have hn:=hl.n;have I:(On vs (Nq vs o)).length=vs.length+2:=plB_len;have j8:=zpf (p:=Nu vs o) (D:=(deep:Int));have g9:O1 19 [.lst (N0 vs) vs.length 3,.i (Nq vs o)] (.agg (Qj (On vs (Nq vs o)) (Re vs) ⟨vs.length,0,Nq vs o⟩ ⟨(vs.length:Int)+1,0,Nq vs o⟩)):=zc8 vs (Nq vs o) J;have jg:Qj (On vs (Nq vs o)) (Re vs) ⟨vs.length,0,Nq vs o⟩ ⟨(vs.length:Int)+1,0,Nq vs o⟩=[.lst (Qc (On vs (Nq vs o))) (On vs (Nq vs o)).length 3,.lst (Vp (Re vs)) (Re vs).length 3,.i vs.length,.i 0,.i (Nq vs o),.i ((vs.length:Int)+1),.i 0,.i (Nq vs o)]:=rfl;have jL:((Nu vs o).prog deep).flat=Qk deep 0++(((Nu vs o).code deep).flat++List.replicate deep T1):=wrap_flat deep 0 _;have gG:Nk ((64:Nat):Int) (On vs (Nq vs o)) ((Nu vs o).prog deep).flat=[.i 64,.lst (Qc (On vs (Nq vs o))) (On vs (Nq vs o)).length 3,.lst (Qh ((Nu vs o).prog deep).flat) ((Nu vs o).prog deep).flat.length 8]:=rfl;have gH:=zoo (W:=Nq vs o) h.hv ⟨j7.1,hl.w⟩;refine d8 (Φ:=λR D Q=>∃(X:List (List UInt64)) (p j st q sq:Nat),X.length=vs.length+2∧(∀i,i<vs.length+2→((X.getD i []).length:Int)=(Ns (On vs (Nq vs o)) i).size)∧D=[]∧lk R 0=.lst (N0 vs) vs.length 3∧lk R 5=LU fill∧lk R 7=.ptr 0 0∧lk R 13=.ptr 1 0∧lk R 14=.ptr 2 0∧lk R 17=.dy p j∧3≤p∧3≤q∧p≠q∧3≤Q.length ∧
   Q[0]?=some (.cells o.f 0)∧Q[1]?=some (.cells (Qj (On vs (Nq vs o)) (Re vs) ⟨vs.length,0,Nq vs o⟩ ⟨(vs.length:Int)+1,0,Nq vs o⟩) 1)∧Q[2]?=some (.cells (Nk ((64:Nat):Int) (On vs (Nq vs o)) ((Nu vs o).prog deep).flat) 1)∧Q[p]?=some (.dyn ((X.map LU).set c (.dy q 0)) X.length 1 j st)∧Q[q]?=some (.dyn ((X.getD c []).map .u) (X.getD c []).length 1 0 sq)) 6 _ rfl (λNX gD=>?_) (λR D Q hΦ=>?_)
 ·simp[z5f,Yo,Z];rw[←Z];refine Rm g9 Bc ?_;simp[jg];have jM:=zbg (bs:=On vs (Nq vs o)) (P:=.lst (Vp (Re vs)) (Re vs).length 3) (W:=[.i vs.length,.i 0,.i (Nq vs o),.i ((vs.length:Int)+1),.i 0,.i (Nq vs o)]) (L:=((Nu vs o).code deep).flat) (deep:=deep) J J ⟨_,_,_,_,_,_,rfl⟩;rw[←jL]at jM;refine Rm jM (by simp[dats,LV.dat,Tu,Ts,zdd]) ?_;rw[gG];simp;have jO:((Nu vs o).prog deep).flat.length≤65536:=by
   have h2:(Qk deep 0).length=deep:=lpsL_len' deep 0;rw[jL];simp[h2];omega
  have j9:=Pw.prog_chk (pl_G h) hd (by rw[I];omega) gH jO;have hC:O1 25 [.agg (Nk ((64:Nat):Int) (On vs (Nq vs o)) ((Nu vs o).prog deep).flat)] (.tup [.i ((Nu vs o).prog deep).flat.length,.i 0]):=ztx h hd j9;rw[gG]at hC;refine Rm hC (by simp[dats,LV.dat,Tu,Ts]) ?_;simp[Z];rw[←Z];refine Nt (zcf vs o) (bors_self _ (by simp[dats,LV.dat,Rg,Z])) ?_;rw[Zn h];simp;refine Nt (zgf ((Nu vs o).code deep).flat deep (!(gv vs d).sec) J J (zzg h hd)) (bors_self _ (by simp[dats,LV.dat,Tu])) ?_;simp[LU];refine zyz c (by rw[I];have:=h.fc.2;omega) (λx hx=>by have:=gH x hx;omega) (by rw[I];omega) J (λX p j st q sq Q hX A K hp hq gI O Y=>?_);rw[I]at hX A;simp at hp hq K;have z:=K 0 J;have gE:=K 1 J;have gF:=K 2 J;simp at z gE gF;have zg:=(Hu.1 Y).1;have zj:((X.getD c []).length:Int)=(gv vs c).limbs:=by
   have:=A c Gc;rw[V0 h.fc.2]at this;exact this
  have Aj:=We h.hv h.fc.2;have M:c<X.length:=Gc
  have jP:((X.map LU).set c (.dy q 0))[c]?=some (.dy q 0):=H0 Fg;have gR:=z;rw[Z,h.fc.1]at z;by_cases jz:fill=[]
  ·subst jz;simp[z];exact gD _ _ _ ⟨X,p,j,st,q,sq,hX,A,rfl,by simp,by simp[LU],by simp,by simp,by simp,by simp,hp,hq,gI,J,gR,gE,gF,O,Y⟩
  have zz:0<fill.length:=List.length_pos_iff.2 jz;have Az:¬fill.length=0:=J
  have xc:X[c]=X.getD c []:=by simp[Hv,M]
  have jQ:X[c]?.getD []=X.getD c []:=by simp[Hv]
  obtain⟨zX,hC⟩:∃zX,X.getD c []=zX:=⟨_,rfl⟩;rw[hC]at Y zj xc jQ;have j8:1≤zX.length:=J
  simp[z,O,Y,zz,jz,M,Nb jP,xc,jQ];refine⟨J,J,gD _ _ _ ⟨X.set c (ke (zX[0]?.getD 0) (R6 fill[0] 1)::zX.tail),p,j,st,q,sq+1,by simp[hX],λi hi=>?_,rfl,by simp,by simp[LU],by simp,by simp,by simp,by simp,hp,hq,gI,Ab,?_,?_,?_,?_,?_⟩⟩
  ·rw[Wd _ _ _ _ _ M];by_cases e:i=c
   ·rw[H7 e,e,V0 h.fc.2];show _=(gv vs c).limbs;rw[Ig,List.length_tail];omega
   ·rw[Hx e];exact A i hi
  ·rw[Hw J];exact gR
  ·rw[Hw J];exact gE
  ·rw[Hw J];exact gF
  ·rw[Hw J,O];simp[Ji]
  ·rw[H0 zg,Wd _ _ _ _ _ M,H7 rfl];simp;omega
 obtain⟨X,p,j,st,q,sq,hX,A,rfl,E,h5,F,B,C,g,hp,hq,gI,jA,z,gE,gF,O,Y⟩:=hΦ;have lp:=(Hu.1 O).1;have lq:=(Hu.1 Y).1;have M:c<X.length:=Gc
 have jR:(X.map LU).take c++LU (X.getD c [])::(X.map LU).drop (c+1)=X.map LU:=by
  have:=I5 (l:=X.map LU) (i:=c) (a:=LU (X.getD c []));rw[H7 Fg]at this;rw[←this];refine Ma λj6=>?_
  rw[L9];by_cases e:c=j6
  ·subst e;rw[H7 rfl,H7 Fg,zl2 M]
  ·rw[Hx e]
 refine W_fzD (a:=(X.map LU).take c) (b:=(X.map LU).drop (c+1)) (p:=q) (q:=p) Y (by rw[O,I5,H7 Fg]) (Ne.symm gI) ?_;have k0:((Q.set q (.dead (sq+1))).set p (.dyn ((X.map LU).take c++LU (X.getD c [])::(X.map LU).drop (c+1)) X.length 1 j (st+1)))[0]?=_:=(Hw J).trans ((Hw J).trans z);have k1:((Q.set q (.dead (sq+1))).set p (.dyn ((X.map LU).take c++LU (X.getD c [])::(X.map LU).drop (c+1)) X.length 1 j (st+1)))[1]?=_:=(Hw J).trans ((Hw J).trans gE);have k2:((Q.set q (.dead (sq+1))).set p (.dyn ((X.map LU).take c++LU (X.getD c [])::(X.map LU).drop (c+1)) X.length 1 j (st+1)))[2]?=_:=(Hw J).trans ((Hw J).trans gF);have kp:((Q.set q (.dead (sq+1))).set p (.dyn ((X.map LU).take c++LU (X.getD c [])::(X.map LU).drop (c+1)) X.length 1 j (st+1)))[p]?=some (.dyn (X.map LU) X.length 1 j (st+1)):=by
  rw[H0 (by simpa using lp),jR]
 have kl:3≤((Q.set q (.dead (sq+1))).set p (.dyn ((X.map LU).take c++LU (X.getD c [])::(X.map LU).drop (c+1)) X.length 1 j (st+1))).length:=by simpa using jA
 have gT:LV.lst ((X.getD c []).map .u) (X.getD c []).length 1=LU (X.getD c []):=rfl;rw[gT];generalize (Q.set q (.dead (sq+1))).set p (.dyn ((X.map LU).take c++LU (X.getD c [])::(X.map LU).drop (c+1)) X.length 1 j (st+1))=Q at *;clear O Y jR z gE gF jA lp lq gT;generalize st+1=st at *;refine d8 (Φ:=λR D Q=>∃(X:List (List UInt64)) (st:Nat),X.length=vs.length+2∧(∀i,i<vs.length+2→((X.getD i []).length:Int)=(Ns (On vs (Nq vs o)) i).size)∧D=[]∧lk R 0=.lst (N0 vs) vs.length 3∧lk R 7=.ptr 0 0∧lk R 13=.ptr 1 0∧lk R 14=.ptr 2 0∧lk R 17=.dy p j∧3≤Q.length ∧
   Q[0]?=some (.cells o.f 0)∧Q[1]?=some (.cells (Qj (On vs (Nq vs o)) (Re vs) ⟨vs.length,0,Nq vs o⟩ ⟨(vs.length:Int)+1,0,Nq vs o⟩) 1)∧Q[2]?=some (.cells (Nk ((64:Nat):Int) (On vs (Nq vs o)) ((Nu vs o).prog deep).flat) 1)∧Q[p]?=some (.dyn (X.map LU) X.length 1 j st)) 0 _ rfl (λNX gD=>?_) (λR D Q hΦ=>?_)
 ·simp[z5f,Yo,E,h5,F,B,C,g];refine O5 (λR D Q N=>∃(i:Nat) (X:List (List UInt64)) (st:Nat),N+i=2∧X.length=vs.length+2∧(∀i,i<vs.length+2→((X.getD i []).length:Int)=(Ns (On vs (Nq vs o)) i).size)∧D=[]∧lk R 0=.lst (N0 vs) vs.length 3∧lk R 5=LU fill∧lk R 7=.ptr 0 0∧lk R 13=.ptr 1 0∧lk R 14=.ptr 2 0∧lk R 17=.dy p j∧lk R 18=.i i∧3≤Q.length ∧
   Q[0]?=some (.cells o.f 0)∧Q[1]?=some (.cells (Qj (On vs (Nq vs o)) (Re vs) ⟨vs.length,0,Nq vs o⟩ ⟨(vs.length:Int)+1,0,Nq vs o⟩) 1)∧Q[2]?=some (.cells (Nk ((64:Nat):Int) (On vs (Nq vs o)) ((Nu vs o).prog deep).flat) 1)∧Q[p]?=some (.dyn (X.map LU) X.length 1 j st)) (N:=2)
   ⟨0,X,st,rfl,hX,A,rfl,Ak,by simp[h5],Ah,Ao,Al,Av,by simp,kl,k0,k1,k2,kp⟩ ?_
  clear M hX A E h5 F B C g kl k0 k1 k2 kp;rintro N R D Q ⟨i,X,st,hN,hX,A,rfl,E,h5,F,B,C,g,gO,kl,k0,k1,k2,kp⟩ Nx jB;have AA:((i:Int)<2)↔i<2:=J
  have step:i<2→(1:Int)<fill.length→Ot (.fn 116) [.lst (N0 vs) vs.length 3,.agg o.f,.dy p j] Q λv G'=>∀H,lk H 0=.lst (N0 vs) vs.length 3→lk H 5=LU fill→lk H 7=.ptr 0 0→lk H 13=.ptr 1 0→lk H 14=.ptr 2 0→lk H 17=.dy p j→lk H 18=.i ((i:Int)+1)→Nx H [] G':=λhi _=>by
   refine zih (vs:=vs) (o:=o) (X:=X) (a:=a) (b:=b) (c:=c) J h.fa.1 h.fb.1 h.fc.1 h.fa.2 h.fb.2 h.fc.2 (by rw[h.hk];decide) (h.la.trans h.lc.symm) (.inl h.hk) ⟨(We h.hv h.fc.2).1,by rw[h.lc];omega⟩ (λj6 hj=>?_) kp (λzA zB G' hY jC O K jA H e0 e5 e7 jD jE gK zC=>?_)
   ·have:=A j6 J;rw[V0 hj]at this;exact this
   ·exact jB _ _ _ ⟨N-1,J,i+1,zA,zB,J,J,λj6 hj=>by rw[jC];exact A j6 hj,rfl,e0,e5,e7,jD,jE,gK,by rw[zC];simp,J,(K 0 J J).trans k0,(K 1 J J).trans k1,(K 2 J J).trans k2,by rw[O,hY]⟩
  have done:∀H,lk H 0=.lst (N0 vs) vs.length 3→lk H 7=.ptr 0 0→lk H 13=.ptr 1 0→lk H 14=.ptr 2 0→lk H 17=.dy p j→NX H [] Q:=λH e0 e7 jD jE gK=>gD _ _ _ ⟨X,st,hX,A,rfl,e0,e7,jD,jE,gK,kl,k0,k1,k2,kp⟩
  by_cases jI:i<2
  ·have g':(i:Int)<2:=J
   by_cases g2:1<fill.length
   ·have gP:(1:Int)<fill.length:=J
    simp[E,h5,F,B,C,g,gO,jI,g',g2,gP,LU,k0,Z];rw[←Z];refine⟨λ_=>((step jI gP).mono λv G' hk=>?_),λ_=>?_⟩
    ·simp[gO];exact⟨J,hk _ Ak (by simp[h5,LU]) Ah Ao Al Av (by simp)⟩
    ·exact done _ Ak Ah Ao Al Av
   ·have gP:¬(1:Int)<fill.length:=J
    simp[E,h5,F,B,C,g,gO,jI,g',g2,gP,LU];exact done _ Ak Ah Ao Al Av
  ·have g':¬(i:Int)<2:=J
   simp[E,h5,F,B,C,g,gO,jI,g'];exact done _ Ak Ah Ao Al Av
 clear M hX A E h5 F B C g kl k0 k1 k2 kp hq gI;obtain⟨X,st,hX,A,rfl,E,F,B,C,g,kl,k0,k1,k2,kp⟩:=hΦ;refine W_fz (t:=17) kp g ?_;have n0:(Q.set p (.dead (st+1)))[0]?=_:=(Hw J).trans k0;have n1:(Q.set p (.dead (st+1)))[1]?=_:=(Hw J).trans k1;have n2:(Q.set p (.dead (st+1)))[2]?=_:=(Hw J).trans k2;have nl:3≤(Q.set p (.dead (st+1))).length:=by simpa using kl
 generalize Q.set p (.dead (st+1))=Q at *;clear k0 k1 k2 kp kl g;have zD:ztu (On vs (Nq vs o)) X:=⟨by rw[I];exact hX,λi hi=>A i J⟩;obtain⟨sX,r1,rl,r2,r3,r4,rX,rY⟩:=ztd h hl gY gZ hd zD;have jF:LN X=.lst (X.map LU) X.length 1:=rfl;have gA:dats [LN X]=true:=Bo
 rw[gG,jF]at rX;rw[jF]at gA;simp only[dats,Bool.and_true]at gA;refine d8 (Φ:=λR D Q=>D=[]∧lk R 0=.lst (N0 vs) vs.length 3∧lk R 7=.ptr 0 0∧lk R 17=LN X∧lk R 19=LN sX.bufs∧Q[0]?=some (.cells o.f 0)) 2 _ rfl (λNX gD=>?_) (λR D Q hΦ=>?_)
 ·rw[gG]at n2;simp[z5f,Yo,E,F,B,C,n0,n1,n2];refine Rm rX (by simp[dats,LV.dat,Tu,Ts,gA]) ?_;simp[B,C,n1,n2,jg];refine zn9 (args':=[.agg [.lst (Qc (On vs (Nq vs o))) (On vs (Nq vs o)).length 3,.lst (Vp (Re vs)) (Re vs).length 3,.i vs.length,.i 0,.i (Nq vs o),.i ((vs.length:Int)+1),.i 0,.i (Nq vs o)],.lst (([]:List UInt64).map .u) ([]:List UInt64).length 1]) (λc r ha=>?_) ?_
  ·cases ha with
   |cons e1 es=>cases es with
    |cons e2 es=>exact .cons e1 (.cons (nil_lst e2) es)
  refine zna (fill:=[]) (λx hx=>by have:=gH x hx;omega) (by rw[I];omega) (by simp) (λzA p2 zY jT G2 hY jC K AB zZ _ O=>?_) (by intro e;rw[e]at I;simp at I);have m0:=(K 0 J).trans n0;have m1:=(K 1 J).trans n1;have m2:=(K 2 J).trans n2;simp[B,C,n1,n2,m1,m2,jg];obtain⟨sY,y1,y2,jU⟩:=rY zA ⟨hY,jC⟩;have jV:LN zA=.lst (zA.map LU) zA.length 1:=rfl;have gL:dats [LN zA]=true:=Bo
  rw[gG,jV,←y2]at jU;rw[jV]at gL;simp only[dats,Bool.and_true]at gL;refine z8v (a:=[.agg [.i 64,.lst (Qc (On vs (Nq vs o))) (On vs (Nq vs o)).length 3,.lst (Qh ((Nu vs o).prog deep).flat) ((Nu vs o).prog deep).flat.length 8]]) (b:=[]) O ?_;refine Rm jU (by simp[dats,LV.dat,Tu,Ts,gL]) ?_;have zE:p2≠0:=J
  have j0:(G2.set p2 (.dead (jT+1)))[0]?=_:=(Hw zE).trans m0;generalize G2.set p2 (.dead (jT+1))=G3 at *;simp[r1,y1];refine Nt (i3 sX.l J) (bors_self _ (by simp[dats,LV.dat,evC_dat])) ?_;simp;exact gD _ _ _ ⟨rfl,Ak,Ah,by simp[LN],by simp[LN,r1],j0⟩
 clear E F B C n0 n1 n2 nl;obtain⟨rfl,E,F,g,G,z⟩:=hΦ;have hM:=zmo (X:=X) h J (λx hx=>by
  obtain⟨j6,hj,rfl⟩:=List.getElem_of_mem hx;have e1:=A j6 J;have e2:=zwx h gY gZ (i:=j6) J;rw[Hv,H6 hj]at e1;simp only[Jz]at e1;omega)
 rw[jF]at hM g;refine S1 _ ?_;simp[z5f,Yo,E,F,g,G,z,Z];rw[←Z];refine Rm hM (by simp[dats,LV.dat,Rg,Z,gA]) ?_;simp[E,F,z,Z];rw[←Z];refine Nt (zcf vs o) (bors_self _ (by simp[dats,LV.dat,Rg,Z])) ?_;rw[Zn h];have jX:(Rc vs d:Int)-vs.length=if (gv vs d).sec=true then 1 else 0:=by
  unfold Rc;split<;>omega
 have zG:=met_val h hX A r4;generalize zH:V3 o ((X.take vs.length).map val)=gQ at *;have jY:V3 o (List.take vs.length (List.map val X))=gQ:=by rw[←Lv];exact zH
 generalize zI:mtP vs o X=dv at *;have zK:dv.length≤1000000:=by
  have AC:=We h.hv h.fd.2;have zL:Qd vs o.d=(gv vs d).limbs:=by rw[Qd,h.fd.1];rfl
  rw[←zI];unfold mtP;split
  ·have hb:=(J1 (val (mR (val (X.getD o.c.toNat [])) (val (X.getD o.a.toNat [])^val (X.getD o.b.toNat [])%val (X.getD o.c.toNat [])))) (show 0<2^(64*(gv vs d).limbs.toNat) from Kn _));have:=z2c hb;rw[zL,zon];omega
  ·simp
 cases hs:(gv vs d).sec
 all_goals
  simp[hs]at jX;simp[G];refine O5 (λR D Q N=>∃i:Nat,D=[]∧N+i=vs.length+2∧lk R 0=.lst (N0 vs) vs.length 3∧lk R 7=.ptr 0 0∧lk R 17=.lst (X.map LU) X.length 1∧lk R 19=.lst (sX.bufs.map LU) (vs.length+2) 1∧lk R 25=LU dv∧lk R 27=.bool gQ∧lk R 28=.i ((Rc vs d:Int)-vs.length)∧lk R 29=.i i∧Q[0]?=some (.cells o.f 0)) (N:=vs.length+2)
   ⟨0,rfl,J,Ak,Ah,Av,by simp[G,LN,r1],by simp[LU],by simp[jY],by simp[jX],by simp,z⟩ ?_
  clear E F g G z;rintro N R D Q ⟨i,rfl,hN,E,F,g,G,T,U,V,gg,z⟩ Nx jB;have nx:i<vs.length+2→∀H:M9,lk H 0=.lst (N0 vs) vs.length 3→lk H 7=.ptr 0 0→lk H 17=.lst (X.map LU) X.length 1→lk H 19=.lst (sX.bufs.map LU) (vs.length+2) 1→lk H 25=LU dv→lk H 27=.bool gQ→lk H 28=.i ((Rc vs d:Int)-vs.length)→lk H 29=.i ((i:Int)+1)→Nx H [] Q :=
   λhi H e0 e7 gK zM zO zP zQ zR=>jB _ _ _ ⟨N-1,J,i+1,rfl,J,e0,e7,gK,zM,zO,zP,zQ,by rw[zR];simp,z⟩
  rw[Z,h.fd.1,h.e]at z;by_cases jI:i<vs.length+2
  ·have g':(i:Int)<(vs.length:Int)+2:=J
   have gX:i<X.length:=J
   have gB:i<sX.bufs.length:=J
   have jZ:=zl2 gX;have jG:=zl2 gB;have gC:=nx jI;have j4:¬(i:Int)=-1:=J
   by_cases j5:i=d
   ·subst j5;cases gQ with
    |false =>
     simp[E,F,g,G,T,U,V,gg,jI,g',z];exact⟨J,gC _ Ak Ah Av A6 Bn Bv Du (by simp)⟩
    |true =>
     have gU:=zG rfl;obtain⟨jK,hO⟩:∃jK,sX.bufs.getD i []=jK:=⟨_,rfl⟩;have jH:sX.bufs[i]?.getD []=jK:=by rw[←Hv];exact hO
     rw[hO]at gU r3;simp[E,F,g,G,T,U,V,gg,jI,g',z,Nb jG,LU,jH];refine⟨J,?_⟩;refine Nt (z2p jK dv J zK) (by simp) ?_;rw[gU,i5];simp[gg];exact⟨J,gC _ Ak Ah Av A6 Bn Bv Du (by simp)⟩
   ·have gV:¬(i:Int)=(d:Int):=J
    by_cases zT:i=Rc vs d
    ·have gM:(i:Int)=(vs.length:Int)+((Rc vs d:Int)-vs.length):=J
     simp[E,F,g,G,T,U,V,gg,jI,g',z,gV,j4,←gM];exact⟨J,J,gC _ Ak Ah Av A6 Bn Bv Du (by simp)⟩
    ·have gM:¬(i:Int)=(vs.length:Int)+((Rc vs d:Int)-vs.length):=J
     have gz:=r2 i jI j5 zT;obtain⟨jK,hO⟩:∃jK,X.getD i []=jK:=⟨_,rfl⟩;rw[hO]at gz jZ;rw[gz]at jG;have jH:sX.bufs[i]?.getD []=jK:=by rw[←Hv];exact gz
     have zU:X[i]?.getD []=jK:=by rw[←Hv];exact hO
     have zV:jK.length≤1000000000:=by
      have:=A i jI;have:=zwx h gY gZ jI;rw[hO]at *;omega
     simp[E,F,g,G,T,U,V,gg,jI,g',z,gV,j4,gM,Nb jG,Nb jZ,jH,zU];refine⟨J,J,J,?_⟩;refine Nt (zua jK jK zV) (by simp) ?_;simp[gg];exact⟨J,gC _ Ak Ah Av A6 Bn Bv Du (by simp)⟩
  ·have g':¬(i:Int)<(vs.length:Int)+2:=J
   simp[E,F,g,G,T,U,V,gg,jI,g']
def zfo:LC:=(.q [.F 0] (.q [.z 6 (.w 45 [(.k 1),.k 5]),.m 5 6,.X 7 0 5,.X 8 1 5,.m 1 7,.m 2 8] (.q [.z 10 (.buildSl 1 1 [(.u 0)] [(0,1,.c (.u 3))]),.z 11 (.buildSl 1 1 [(.u 0)] [(0,1,.c (.u 4))]),.z 12 (.buildSl 1 1 [(.u 0)] [(0,1,.c (.u 7))]),.z 13 (.w 48 [(.k 1),.k 1,.c (.u 2),.t 10,.t 11,.t 12]),.m 9 13,.X 14 0 9,.X 15 1 9,.m 3 14,.m 4 15] (.q [.m 16 1,.b 17 .eql 3 16 13,.m 18 17,.my 19 18 2,.y 20 18 (.bin .eql true 3 (.t 19) (.k 1)),.q 21 18 20,.m 22 21,.my 23 22 4,.q 24 22 23,.m 25 24,.my 26 25 3,.y 27 25 (.buildSl 1 1 [(.u 0)] [(0,1,.c (.u 4))]),.y 28 25 (.w 32 [.t 26,.t 27]),.q 29 25 28,.m 0 29] .ret))))
def r_law24_lives:zvj Tryz.prog 40=some ⟨30,zfo.r,[.tmp 0]⟩:=Aa
def zyn{w:UInt64}{a b n:List UInt64}{p q r:Nat}(E:F[p]?=some (.dyn (a.map .u) a.length 1 0 g))(G:F[q]?=some (.dyn (b.map .u) b.length 1 0 j))(H:F[r]?=some (.dyn (n.map .u) n.length 1 0 A))(I:p≠q)(K:p≠r)(L:q≠r)
  (hw:1≤w.toNat∧w.toNat≤6) (M:a.length≤1000) (O:b.length≤1000) (P:n.length≤1000) (ho:val n%2=1) (z:val n<2^(64*(0+1))) (B:val a<val n) (C:val b<2^(64*(0+1)))
  (Q:∀D,D.length=F.length→(∀x,x≠p→x≠q→x≠r→D[x]?=F[x]?)→Y (.tup [LU [UInt64.ofNat (val a^val b%val n)],.bool true]) D):Ot (.fn 48) [.i 1,.i 1,.u w,.dy p 0,.dy q 0,.dy r 0] F Y:=by
 refine z8v (a:=[.i 1,.i 1,.u w]) (b:=[.dy q 0,.dy r 0]) E ?_;refine z8v (a:=[.i 1,.i 1,.u w,LU a]) (b:=[.dy r 0]) (by rw[Hw I];exact G) ?_;refine z8v (a:=[.i 1,.i 1,.u w,LU a,LU b]) (b:=[]) (by rw[Hw L,Hw K];exact H) ?_;refine Rm (zkq hw M O P ho z B C) Fp ?_;refine Q _ N λx R T U=>?_
 rw[Hw (Ne.symm U),Hw (Ne.symm T),Hw (Ne.symm R)]
def law24_lives_ok:Nl 40 [] (.bool true) []:=by
 refine Of.val rfl (vy r_law24_lives Aa Aa ⟨Aa,Aa⟩ rfl ?_);simp[zfo];refine Nt (zbj 1 5) N ?_;simp;refine zyn (a:=[3]) (b:=[4]) (n:=[7]) (p:=0) (q:=1) (r:=2) rfl rfl rfl J J J Ac N N N Cg Cg Cg Cg λg j z=>?_
 have e:val [3]^val [4]%val [7]=4:=Cg
 rw[e];have hw:R5 1 5=13:=Ac
 have ho:Sj 1 5=1:=Ac
 simp[hw,ho];refine z8v (a:=[LU [4]]) (b:=[]) Il ?_;refine Nt (zma [4] [4] N N) (bors_self _ Bx) ?_;simp
def z9s:LC:=(.q [.e 2] (.q [.z 3 (.buildSl 3 0 [] []),.m 4 0,.a 5 3 3 4,.m 2 5] .ret))
def r_kit_Own_api_Var:Ng Tryz.prog 14=some ⟨6,z9s.r,[.tmp 2]⟩:=Aa
def z5n:LC:=(.q [.x 5 1,.F 8] (.seq (.q [.z 14 (.w 40 []),.z 15 (.un .not (.t 14))] (.cond (.t 15) (.q [.F 8] .ret) .skip)) (.seq (.q [.m 16 0,.s 17 16,.b 18 .gtr 3 17 12,.m 19 18,.mn 20 19 3,.n 21 19 (.lenSl (.t 20)),.nb 22 19 .gtr 3 21 40,.p 23 19 22] (.cond (.t 23) (.q [.z 8 (.move .T)] .ret) .skip)) (.q [.m 24 0,.w 25 14 24,.m 0 25] (.q [.K 9 0] (.seq (.q [.K 10 0] (.block 0 (.loop (.seq (.q [.m 26 10,.m 27 0,.s 28 27,.c 29 .lss 3 26 28] (.cond (.t 29) .skip (.exit 0))) (.seq (.block 1 (.q [.m 32 0,.m 33 10,.I 34 3 32 33,.f 35 2 34,.v (.store 1 (.t 35) (.k 0))] (.ops [.m 36 9,.m 37 0,.m 38 10,.I 39 3 37 38,.f 40 0 39,.l 41 40,.z 42 (.maxi true (.t 36) (.t 41)),.m 9 42]))) (.ops [.m 30 10,.b 31 .add 3 30 1,.m 10 31])))))) (.q [.m 43 0,.L 44 7 5,.W 45 42 43 44,.m 11 45] (.seq (.q [.m 46 0,.L 47 7 5,.W 48 16 46 47,.z 49 (.un .not (.t 48)),.m 50 49,.nf 51 50 0 5,.nl 52 50 51,.nb 53 50 .neq 3 52 13,.p 54 50 53] (.cond (.t 54) (.q [.m 55 11,.b 56 .eql 3 55 0,.m 8 56] .ret) .skip)) (.seq (.q [.m 57 11,.b 58 .lss 3 57 1,.m 59 58,.mn 60 59 11,.nf 61 59 6 5,.nl 62 59 61,.n 63 59 (.bin .shl true 3 (.k 1) (.t 62)),.nb 64 59 .add 3 63 12,.mn 65 59 9,.n 66 59 (.bin .mul false 3 (.t 64) (.t 65)),.nb 67 59 .add 3 66 32,.n 68 59 (.bin .gtr false 3 (.t 60) (.t 67)),.p 69 59 68] (.cond (.t 69) (.q [.F 8] .ret) .skip)) (.seq (.q [.m 70 9,.b 71 .gtr 3 70 2,.m 72 71,.mn 73 72 0,.nf 74 72 4 5,.nl 75 72 74,.n 76 72 (.ixAddr 3 (.t 73) (.t 75)),.nf 77 72 0 76,.nl 78 72 77,.nb 79 72 .gtr 3 78 1,.p 80 72 79] (.cond (.t 80) (.q [.z 8 (.move .T)] .ret) .skip)) (.q [.m 81 2,.z 82 (.w 17 [.t 81,.k 5]),.m 2 82] (.seq (.draw [(.m 84 0,[]),(.L 85 7 5,[]),(.m 86 0,[]),(.m 87 11,[]),(.m 89 2,[]),(.W 88 19 86 87,[(.L 85 7 5,false)]),(.z 90 (.w 44 [.t 84,.t 85,.t 88,.t 89]),[]),(.m 83 90,[]),(.X 91 0 83,[]),(.X 92 1 83,[]),(.m 12 91,[]),(.m 13 92,[])]) (.q [.m 93 13,.b 94 .eql 35 93 0,.m 95 94,.my 96 95 0,.y 97 95 (.loadN 7 (.t 5)),.my 98 95 12,.my 99 95 11,.my 100 95 2,.my 101 95 3,.y 102 95 (.w 50 [.t 96,.t 97,.t 98,.t 99,.t 100,.t 101]),.q 103 95 102,.m 8 103] .ret)))))))))))))
def r_law24_PowerMeans:Ng Tryz.prog 9=some ⟨104,z5n.r,[.tmp 8]⟩:=Aa
def zv(v:Vr):Vr:=⟨v.limbs,v.sec,0⟩
def lay_mode:∀(l:List Vr) (i:Nat),i<l.length→Oq (N0 l) (i*3+2) [.i 0]=N0 (l.set i (zv (gv l i)))
 |[],i,h=>Bq
 |v::l,0,_=>by
  simp[Oq,N0,zv,gv,Vr.f]
 |v::l,i+1,h=>by
  have g:=lay_mode l i Ax;have e:∀w:List Vr,N0 (v::w)=v.f++N0 w:=λw=>by simp[N0]
  have j:gv (v::l) (i+1)=gv l i:=rfl;rw[M0,e,e,j,←g];unfold Oq;rw[show (i+1)*3+2=v.f.length+(i*3+2) by rw[Vr.f_len];omega,List.take_length_add_append,Kg,List.drop_length_add_append];simp
def zqq(l:List Vr):(N0 l).all LV.scal=true:=by
 induction l with
 |nil=>rfl
 |cons x l g=>simp only[N0,Kx]at g ⊢;rw[List.all_append,g];rfl
def zzl(l:List Vr)(h:l.length≤1048576):Nl 14 [.lst (N0 l) l.length 3] (.dy 0 0) [.dyn (N0 l) l.length 3 0 0]:=by
 refine Of.mk rfl (Ni r_kit_Own_api_Var Aa N ?_) (λg j e=>?_)
 ·simp[z9s,h];exact⟨[.dy 0 1],rfl,rfl,by simp[V5,zqq]⟩
 ·cases g with
  |zero=>simp at e;subst e;exact⟨_,_,_,rfl,zqq l⟩
  |succ g=>simp at e
def zdt(B:List Vr)(o:Ko)(dp:Int)(fill:List UInt64)(_:B.length≤9223372036854775807)(_:Ur dp)(_:fill.length≤9223372036854775807):Ot (.fn 9) [.lst (N0 B) B.length 3,.agg o.f,.i dp,LU fill] [] λv _=>v=.bool true:=by
 refine zx6 r_law24_PowerMeans Aa (by simp) ?_;have A:o.f=[.i o.kind,.i o.d,.i o.e,.i o.a,.i o.b,.i o.c,.u o.imm]:=rfl;refine d8 (Φ:=λX jD gL=>∃(g:List Vr) (j:Int) (p st:Nat),g.length=B.length∧B.length≤12∧fill.length≤40∧(∀v∈g,v.mode=0∧v.limbs≤j)∧0≤j∧(j=0∨∃v∈g,v.limbs=j)∧1≤p∧jD=[]∧lk X 0=.dy p 0∧lk X 2=.i dp∧lk X 3=LU fill∧lk X 5=.ptr 0 0∧lk X 9=.i j∧1≤gL.length∧gL[0]?=some (.cells o.f 0)∧gL[p]?=some (.dyn (N0 g) g.length 3 0 st)) 5 _ rfl (λNX gM=>?_) (λX jD gL hΦ=>?_)
 ·simp[z5n,Yo,A];refine Nt law24_lives_ok (by simp) ?_;by_cases g1:(12:Int)<B.length
  ·simp[g1]
  by_cases g2:(40:Int)<fill.length
  ·simp[g1,g2,LU]
  simp[g1,g2,LU];refine zf9 (zzl B J) (bors_self _ Bc) ?_;simp;refine O5 (λX jD gL N=>∃(i st:Nat) (j:Int) (g:List Vr),jD=[]∧N+i=B.length∧g.length=B.length∧(∀F,F<i→(gv g F).mode=0∧(gv g F).limbs≤j)∧0≤j∧(j=0∨∃F,F<i∧(gv g F).limbs=j)∧lk X 0=.dy 1 0∧lk X 2=.i dp∧lk X 3=LU fill∧lk X 5=.ptr 0 0∧lk X 9=.i j∧lk X 10=.i i∧gL=[.cells o.f 0,.dyn (N0 g) B.length 3 0 st]) (N:=B.length)
   ⟨0,0,0,B,rfl,J,rfl,λF hj=>J,J,.inl rfl,by simp,by simp,by simp[LU],by simp,by simp,by simp,As⟩ ?_
  rintro N X jD gL ⟨i,st,j,g,rfl,hN,G,C,L,H,M,O,P,D,Q,R,rfl⟩ Nx gO;by_cases jP:i<B.length
  ·have Y:i<g.length:=J
   have gg:=lay_mode g i Y;have h1:=rh Y;have I:=sn (Tw (l:=g.set i (zv (gv g i))) (n:=i) (by simpa using Y));have T:gv (g.set i (zv (gv g i))) i=zv (gv g i):=by
    unfold gv;rw[Wd _ _ _ _ _ Y,H7 rfl]
   rw[T]at I;have I:(N0 (g.set i (zv (gv g i))))[i*3]?=some (.i (gv g i).limbs):=I;simp[M,O,P,D,Q,R,jP];rw[gg];refine⟨J,?_⟩;simp[Nb I,Q,R];refine⟨J,gO _ _ _ ⟨N-1,J,i+1,st+1,max j (gv g i).limbs,g.set i (zv (gv g i)),rfl,J,A6,λF hj=>?_,J,?_,A9,Dl,Dk,At,by simp,by simp,rfl⟩⟩
   ·by_cases e:F=i
    ·rw[e,T];exact⟨rfl,by show (gv g i).limbs≤_;omega⟩
    ·have:=C F J;have e2:gv (g.set i (zv (gv g i))) F=gv g F:=by unfold gv;rw[Wd _ _ _ _ _ Y,Hx e]
     rw[e2];exact⟨this.1,J⟩
   ·by_cases hc:j<(gv g i).limbs
    ·exact .inr ⟨i,J,by rw[T];show (gv g i).limbs=_;omega⟩
    ·rcases H with e|⟨F,hj,e⟩
     ·exact .inl J
     ·refine .inr ⟨F,J,?_⟩;have e2:gv (g.set i (zv (gv g i))) F=gv g F:=by unfold gv;rw[Wd _ _ _ _ _ Y,Hx J]
      rw[e2,e];omega
  ·simp[M,O,P,D,Q,R,jP];refine gM _ _ _ ⟨g,j,1,st,G,J,J,λv hv=>?_,L,H.imp id (λ⟨F,hj,e⟩=>⟨_,zq7 J,e⟩),J,rfl,A9,Dl,Dk,At,F6,by simp,by simp,A6⟩;obtain⟨F,hj,rfl⟩:=qi hv;exact C F J
 obtain⟨g,j,p,st,G,jE,gP,C,L,H,hp,rfl,M,O,P,D,Q,gQ,gz,gA⟩:=hΦ;refine W_fz (t:=0) gA M ?_;have K:(gL.set p (.dead (st+1)))[0]?=_:=(Hw J).trans gz;generalize gL.set p (.dead (st+1))=gL at *;clear gA gz gQ M hp;have gC:dats [LV.lst (N0 g) g.length 3,.agg o.f]=true:=by simp[dats,LV.dat,Rg,A]
 refine S1 _ ?_;simp[z5n,Yo,O,P,D,Q,K,A];rw[←A];refine Nt (zb6 g o J) (bors_self _ gC) ?_;simp[D,K,A];rw[←A];refine Nt (zm7 g o J) (bors_self _ gC) ?_;have gR:¬((Rb g&&Og g o)=true∧o.kind=13)→Nq g o=0:=λq=>by
  unfold Nq;rw[Yv,Hx];intro e;simp only[Hy,Ic]at e q;exact q ⟨e.2.2,e.1⟩
 by_cases Z:(Rb g&&Og g o)=true∧o.kind=13
 ·obtain⟨Z,hk⟩:=Z;have U:=Z;rw[Hy]at U;obtain⟨d,a,b,c,h⟩:=pwV hk U.1 U.2;have gT:=zck h;rw[Z];have jF:(gv g d).limbs≤j:=(C _ (zq7 h.fd.2)).2;have gU:(gv g b).limbs≤j:=(C _ (zq7 h.fb.2)).2;have jG:=We h.hv h.fd.2;have jH:=We h.hv h.fb.2;have gV:=sn (Tw h.fb.2);have gD:=K;rw[A,hk,h.fb.1]at gD;have c1:¬Nq g o<1:=J
  have gY:j≤512:=by
   rcases H with e|⟨v,gZ,e⟩
   ·omega
   ·have:=zjm h.hv v gZ;omega
  have gE:=gT.2.2;have gF:=h.w;obtain⟨x,hx⟩:∃x:Nat,2^o.imm.toNat=x:=⟨_,rfl⟩;have g9:(2:Int)^o.imm.toNat=x:=by rw[←hx];simp
  have gG:1≤x∧x≤64:=by
   rw[←hx];exact⟨Kn _,Ja (Kj J gF.2) Ac⟩
  have jI:(gv g d).limbs.toNat*x≤j.toNat*x:=Ii _ J;have jK:j.toNat*x≤512*64:=Jn J gG.2;have jg:j≤2→j.toNat*x≤2*64:=λq=>Jn J gG.2
  obtain⟨y,hy⟩:∃y:Int,((j.toNat*x:Nat):Int)=y:=⟨_,rfl⟩;have jz:((x:Int)+12)*j=y+12*j:=by
   rw[Int.add_mul,Int.mul_comm (x:Int) j,←hy]
   push_cast
   rw[Mp L]
  rw[hx]at gE;generalize j.toNat*x=bx at *;generalize (gv g d).limbs.toNat*x=dx at *;simp[O,D,gD,Q,c1,g9,jz,Nb gV];refine⟨J,J,J,J,J,J,λ_ jA=>⟨h.fb.2,λjL=>?_⟩⟩;obtain⟨dq,jM,jB⟩:=zuw dp 5 J;refine Nt jB (by simp) ?_;have gH:(gv g b).limbs=1:=J
  have gI:PwL g o:=⟨J,λi hi=>(C _ (zq7 hi)).1,by have:=jg jA;omega⟩;have V:O1 19 [.lst (N0 g) g.length 3,.i (Nq g o)] (.agg (Qj (On g (Nq g o)) (Re g) ⟨g.length,0,Nq g o⟩ ⟨(g.length:Int)+1,0,Nq g o⟩)):=zc8 g (Nq g o) J;have z:=zfa g o (On g (Nq g o)) (Re g) ⟨g.length,0,Nq g o⟩ ⟨(g.length:Int)+1,0,Nq g o⟩ dq J (by rw[plB_len];omega);have gK:=zxk (deep:=(dq:Int)) h gI J;have hR:=zmj (fill:=fill) (deep:=dq) h gI J gH J gP;unfold zzz zvp at z;rw[H7 gK,H7 gK]at z;have jC:((Sw g o (Re g) ⟨g.length,0,Nq g o⟩ ⟨(g.length:Int)+1,0,Nq g o⟩).code (dq:Int)).flat=((Nu g o).code dq).flat:=rfl;rw[jC]at z;have jO:Qj (On g (Nq g o)) (Re g) ⟨g.length,0,Nq g o⟩ ⟨(g.length:Int)+1,0,Nq g o⟩=[.lst (Qc (On g (Nq g o))) (On g (Nq g o)).length 3,.lst (Vp (Re g)) (Re g).length 3,.i g.length,.i 0,.i (Nq g o),.i ((g.length:Int)+1),.i 0,.i (Nq g o)]:=rfl;simp[D,K,A];rw[←A];refine Rm V Bc ?_;simp[D,K,A];rw[←A];refine Rm z (by simp[dats,LV.dat,Rg,A,zap]) ?_;simp[P,D,K,A];rw[←A];refine Nt hR (bors_self _ (by simp[dats,LV.dat,Rg,A,Tu,LU,mj])) ?_;simp
 ·have hw:=gR Z;by_cases E:(Rb g&&Og g o)=true
  ·have hk:¬o.kind=13:=λe=>Z ⟨E,e⟩
   rw[E];simp[D,K,A,hk,hw]
  ·have E:(Rb g&&Og g o)=false:=B7
   rw[E];simp[D,K,A,hw]
end Go.Proofs.YtodjkjimaheggaaGreat
end
