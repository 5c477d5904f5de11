/- The templates: see the main text. -/
import Derived.Test.YtgjbfhmmgeplmaaGreatTg1
import Derived.Test.YtgjbfhmmgeplmaaGreatTg2
import Derived.Test.YtgjbfhmmgeplmaaGreatTg0
import Derived.Test.YtgjbfhmmgeplmaaGreatSvG2
import Derived.Test.YtgjbfhmmgeplmaaGreatSvG3
import Derived.Test.YtgjbfhmmgeplmaaGreatProg
import Derived.KernelRfl
set_option linter.defProp false
noncomputable section
namespace Go.Proofs.YtgjbfhmmgeplmaaGreat
open Go.Sv
set_option linter.unusedSimpArgs false
set_option maxRecDepth 10000
variable{U:List LV}



def zjq:LC:=(.q [.x 1 0,.e 2] (.q [.e 3] (.seq (.q [.K 4 0] (.block 0 (.loop (.seq (.q [.m 5 4,.f 6 0 1,.l 7 6,.s 8 7,.c 9 .lss 3 5 8,.m 10 9,.y 11 10 (.loadN 3 (.t 1)),.y 12 10 (.w 9 [.t 11]),.y 13 10 (.bin .eql true 35 (.t 12) (.k 0)),.q 14 10 13] (.cond (.t 14) .skip (.exit 0))) (.seq (.block 1 (.q [.f 17 0 1,.l 18 17,.m 19 4,.I 20 3 18 19,.f 21 2 20,.l 22 21,.b 23 .eql 3 22 1,.m 24 23,.nf 25 24 0 1,.nl 26 24 25,.mn 27 24 4,.n 28 24 (.ixAddr 3 (.t 26) (.t 27)),.nf 29 24 2 28,.nl 30 24 29,.nb 31 24 .eql 3 30 2,.p 32 24 31] (.cond (.t 32) (.ops [.m 33 3,.m 34 4,.z 35 (.buildSl 1 1 [(.i 0)] [(0,1,.t 34)]),.a 36 1 33 35,.m 3 36]) .skip))) (.ops [.m 15 4,.b 16 .add 3 15 1,.m 4 16])))))) (.q [.m 37 3,.m 2 37] .ret))))
def r_ref19_In:Nf Tryz.prog 26=some ⟨38,zjq.r,[.tmp 2]⟩:=Aa
def zfi:LC:=(.q [.x 2 0,.K 4 0] (.q [.L 8 3 2,.w 9 9 8,.m 5 9] (.seq (.q [.m 10 5,.b 11 .neq 35 10 0] (.cond (.t 11) (.q [.m 12 5,.m 4 12] .ret) .skip)) (.q [.L 13 3 2,.w 14 26 13,.m 6 14] (.seq (.q [.m 15 6,.s 16 15,.m 17 1,.s 18 17,.c 19 .neq 3 16 18] (.cond (.t 19) (.q [.K 4 2] .ret) .skip)) (.seq (.q [.K 7 0] (.block 0 (.loop (.seq (.q [.m 20 7,.m 21 6,.s 22 21,.c 23 .lss 3 20 22] (.cond (.t 23) .skip (.exit 0))) (.seq (.block 1 (.seq (.draw [(.m 26 1,[]),(.m 27 7,[]),(.I 28 1 26 27,[]),(.l 29 28,[]),(.f 32 0 2,[]),(.l 33 32,[]),(.m 34 6,[]),(.m 35 7,[]),(.I 36 1 34 35,[]),(.l 37 36,[]),(.I 38 3 33 37,[]),(.f 39 0 38,[]),(.l 40 39,[]),(.w 30 63 29,[(.l 40 39,false),(.l 37 36,false),(.l 33 32,false)]),(.s 31 30,[]),(.c 41 .gtr 3 31 40,[])]) (.cond (.t 41) (.q [.K 4 3] .ret) .skip))) (.ops [.m 24 7,.b 25 .add 3 24 1,.m 7 25])))))) (.q [.K 4 0] .ret)))))))
def r_ref20_Fits:Nf Tryz.prog 19=some ⟨42,zfi.r,[.tmp 4]⟩:=Aa
def zpd(vs:List Vr)(g j:List Ko)(gj:vs.length≤1000000):Qh 26 [.agg (M3 vs g j)] (.lst (Qi (Xa vs g j)) (Xa vs g j).length 1):=by
 have T:dats (M3 vs g j)=true:=Ai
 refine Sf.mk Ga (Nd r_ref19_In Aa (by simp) ?_);have z:(M3 vs g j).length=3:=rfl;have A:(M3 vs g j).take 3=M3 vs g j:=rfl;have B:(M3 vs g j)[0]?=some (.lst (Nr vs) vs.length 3):=rfl;simp[zjq];refine Ns (λρ gD gg Z=>∃(i:Nat) (v:LV),gD=[]∧Z+i=vs.length∧lk ρ 1=.ptr 0 0∧lk ρ 3=v∧lk ρ 4=.i i∧0<gg.length∧gg[0]?=some (.cells (M3 vs g j) 0)∧(Ng vs g j=true∨i=0)∧Rw 1 gg v 1 (Q8 Ob vs i).length (Qi (Q8 Ob vs i))) (N:=vs.length)
  ⟨0,.nilSl,rfl,J,by simp,by simp,by simp,by simp,by simp,by simp,by simpa [Q8,Qi] using Rw.nil⟩ ?_
 rintro Z ρ gD gg ⟨i,v,rfl,hN,H,K,L,U,I,M,O⟩ Nx P;have gB:=ng Ob vs i;by_cases Y:i<vs.length
 ·simp[H,K,L,Y,I,z,A,M9 B];refine Nb (zcd vs g j J) (bors_self _ (by simp[dats,LV.dat,T])) ?_;cases D:Ng vs g j with
  |false =>
   rw[D]at M;have hi:i=0:=by simpa using M
   subst hi;have S:=O.bor (qf _);simp[N3,D,K,Xa];rcases O with ⟨rfl,_⟩|⟨p,k,st,_,rfl,hp,_⟩
   ·simp[O1,bor,Qi]
   ·simpa [O1,Q8,Qi] using S
  |true =>
   have V:=ft (Qp Y);have gC:=Ty Y;have E:=fp Ob vs i;generalize gv vs i=x at *;have push:∀ρ',Ob x=true→lk ρ' 1=.ptr 0 0→lk ρ' 4=.i i→True:=λ_ _ _ _=>trivial
   clear push;by_cases F:x.mode=1
   ·have C:Ob x=true:=by simp[Ob,F]
    simp[N3,D,H,K,L,Y,I,z,A,M9 B,M9 V,F];rw[C]at E;simp at E;refine Rw.push (m:=1) (x:=[.i i]) O.push_end J (by simp) J rfl λX G' Q R S=>?_
    simp[L];refine⟨J,P _ _ _ ⟨Z-1,J,i+1,X,rfl,J,Ba,by simp,by simp,J,by rw[R 0 J,M6 U];exact I,.inl D,?_⟩⟩;rw[E];simpa [Qi] using Q
   by_cases G:x.mode=2
   ·have C:Ob x=true:=by simp[Ob,G]
    simp[N3,D,H,K,L,Y,I,z,A,M9 B,M9 V,G];rw[C]at E;simp at E;refine Rw.push (m:=1) (x:=[.i i]) O.push_end J (by simp) J rfl λX G' Q R S=>?_
    simp[L];refine⟨J,P _ _ _ ⟨Z-1,J,i+1,X,rfl,J,Ba,by simp,by simp,J,by rw[R 0 J,M6 U];exact I,.inl D,?_⟩⟩;rw[E];simpa [Qi] using Q
   ·have C:Ob x=false:=by simp[Ob,F,G]
    simp[N3,D,H,K,L,Y,I,z,A,M9 B,M9 V,F,G];rw[C]at E;simp at E;exact⟨J,P _ _ _ ⟨Z-1,J,i+1,v,rfl,J,Ba,Bs,by simp,U,I,.inl D,by rw[E];exact O⟩⟩
 ·have hi:i=vs.length:=J
  subst hi;have S:=O.bor (qf _);have hz:Xa vs g j=Q8 Ob vs vs.length:=by
   unfold Xa;rcases M with D|hi
   ·rw[Ij D,za8]
   ·split
    ·rw[za8]
    ·rw[hi];rfl
  rw[hz];simp[H,K,L,I,z,A,M9 B];rcases O with ⟨rfl,_⟩|⟨p,k,st,_,rfl,_,_⟩<;>exact S
def Zy(vs:List Vr)(B C:List Ko)(g:List (List UInt64))(Y:vs.length≤1000000)(hi:∀x∈g,x.length≤1000) :
  Na 19 [.agg (M3 vs B C),LN g] (.i (Qb vs B C (g.map val))) []:=by
 have I:dats (M3 vs B C)=true:=Ai
 refine Np.val rfl (Nd r_ref20_Fits Aa (by simp) ?_);have K:(M3 vs B C).length=3:=rfl;have L:(M3 vs B C).take 3=M3 vs B C:=rfl;simp[zfi,K,L];refine Nb (zcd vs B C J) (bors_self _ Fb) ?_;cases E:Ng vs B C with
 |false=>simp[N3,E,Qb]
 |true =>
 simp[N3,E,K,L];refine Qo (zpd vs B C Y) Fb ?_;have hz:Xa vs B C=Sv.inV vs:=by simp[Xa,E]
 have hv:P6 vs=true:=by unfold Ng at E;simp only[H9]at E;exact E.1
 have gD:vs.length≤256:=(oh hv).2;have gE:=inV_len vs;rw[hz];by_cases M:(Sv.inV vs).length=g.length
 case neg =>
  have H:¬((Sv.inV vs).length:Int)=g.length:=J
  simp[LN,M,H,Qb,E]
 have H:(Sv.inV vs).length=(g.map val).length:=by simpa using M
 have G:=zi9 H;simp[LN,M];refine Ns (λρ gG gF N=>∃i:Nat,gG=[]∧N+i=g.length∧lk ρ 1=.lst (g.map LU) g.length 1∧lk ρ 2=.ptr 0 0∧lk ρ 6=.lst (Qi (Sv.inV vs)) g.length 1∧lk ρ 7=.i i∧0<gF.length∧gF[0]?=some (.cells (M3 vs B C) 0)∧∀R,R<i→(g.map val).getD R 0<da (gv vs ((Sv.inV vs).getD R 0)).limbs) (N:=g.length)
  ⟨0,rfl,J,by simp,by simp,by simp,by simp,by simp,Cz,λR Z=>J⟩ ?_
 rintro N ρ gG gF ⟨i,rfl,hN,S,T,O,U,hl,V,hb⟩ Nx gg;by_cases gC:i<g.length
 ·have gj:=Ww hi i;have P:(g.map val).getD i 0=val (g.getD i []):=zqo;have X:=zw4 (l:=Sv.inV vs) (j:=i) J;have A:=X4 (vs:=vs) (j:=i) J;have F:(g.map val).getD i 0<da (gv vs ((Sv.inV vs).getD i 0)).limbs↔((Oe (val (g.getD i []))).length:Int)≤(gv vs ((Sv.inV vs).getD i 0)).limbs:=by
   rw[P];have:=(Ve hv _ (Vt A)).1;exact (zlb _ _ J).symm
  obtain⟨u,hu⟩:∃u,(Sv.inV vs).getD i 0=u:=⟨_,rfl⟩;obtain⟨x,Q⟩:∃x,g.getD i []=x:=⟨_,rfl⟩;rw[hu]at X A F;rw[Q]at gj P F;have gB:g[i]=x:=by rw[←Q];simp[gC]
  have q0:=dv (Qp A);simp[S,T,O,U,gC,V,M3,M9 X,A,M9 q0];refine Nb (z6p x J) (by simp[gB]) ?_;by_cases D:((Oe (val x)).length:Int)≤(gv vs u).limbs
  ·have z:¬(gv vs u).limbs<((Oe (val x)).length:Int):=J
   simp[RU,S,T,O,U,V,M3,M9 q0,M9 X,gC,A,z];refine⟨J,gg _ _ _ ⟨N-1,J,i+1,rfl,J,by simp[S],Da,Cd,by simp,hl,V,λR Z=>?_⟩⟩;by_cases e:R=i
   ·subst e;rw[hu];exact F.2 D
   ·exact hb R J
  ·have z:(gv vs u).limbs<((Oe (val x)).length:Int):=J
   have hf:n4 vs (g.map val)=false:=by
    rw[Bool.eq_false_iff];intro h;have:=G.1 h i Ek;rw[hu]at this;exact D (F.1 this)
   simp[RU,S,T,O,U,V,M3,M9 q0,M9 X,gC,A,z,Qb,E,M,hf]
 ·have hf:n4 vs (g.map val)=true:=G.2 λR Z=>hb R (by simp at Z;omega)
  simp[O,U,gC,Qb,E,M,hf]
section
section emit
variable {G : M4} {K : LV → M4 → Prop} {e : Nat} {ops : List Lo} {deep : Int}
end emit
end

section
section put
variable {G : M4} {K : LV → M4 → Prop} {e P st : Nat} {ops : List Lo} {deep R : Int} {d a b n t : Pc}
end put
end
section
section put
variable {G : M4} {K : LV → M4 → Prop} {e P st : Nat} {ops : List Lo} {deep R : Int} {d a b n t : Pc}
end put
end
section
section put
variable {G : M4} {K : LV → M4 → Prop} {e P st : Nat} {ops : List Lo} {deep R : Int} {d a b n t : Pc}
end put
end



section
def evC(l:List (Int×Int)):List LV:=l.flatMap λe=>[.i e.1,.i e.2]
structure MsH (G:M4) (x pr pb kb:Nat) (qs:List Nat) (b:Nat) (regs:Int) (bs:List Bf) (os:List Lo) (L:LV) (s:Ms):Prop where
 xc:∃st,G[x]?=some (.cells [.i regs,.lst (Om bs) bs.length 3,.lst (loC os) os.length 8,.dy pr 0,.dy pb kb,L] st)
 rr:∃st,G[pr]?=some (.dyn (s.r.map .u) s.r.length 1 0 st)
 bb:∃st,G[pb]?=some (.dyn (qs.map λq=>.dy q 0) qs.length 1 kb st)
 row:∀j,j<qs.length→∃st,G[qs.getD j 0]?=some (.dyn ((s.bufs.getD j []).map .u) (s.bufs.getD j []).length 1 0 st)
 bl:s.bufs.length=qs.length
 lt:x<b∧pr<b∧pb<b∧x≠pr∧x≠pb∧pr≠pb
 qlt:∀q∈qs,q<b∧q≠x∧q≠pr∧q≠pb
 nd:qs.Nodup
 ev:N7 b G L 2 s.l.length (evC s.l)
 bG:b≤G.length
section msh
variable {G G' : M4} {x pr pb kb : Nat} {qs : List Nat} {b : Nat} {regs : Int} {bs : List Bf} {os : List Lo} {L : LV} {s : Ms}
end msh
end




def z92:LC:=(.q [.e 4,.K 5 0] (.seq (.q [.m 6 1,.b 7 .lss 3 6 0,.m 8 7,.mn 9 8 1,.nb 10 8 .gtr 3 9 512,.p 11 8 10] (.cond (.t 11) (.q [.e 4,.K 5 2] .ret) .skip)) (.q [.m 12 0,.w 13 63 12,.m 0 13] (.seq (.q [.m 14 0,.s 15 14,.m 16 1,.c 17 .gtr 3 15 16] (.cond (.t 17) (.q [.e 4,.K 5 3] .ret) .skip)) (.q [.m 18 0,.m 19 1,.m 20 0,.s 21 20,.c 22 .sub 3 19 21,.z 23 (.appZ 1 [(.u 0)] (.t 18) (.t 22)),.m 4 23,.K 5 0] .ret)))))
def r_ref02_Fit:Nf Tryz.prog 22=some ⟨24,z92.r,[.tmp 4,.tmp 5]⟩:=Aa
def zae(a:List UInt64)(n:Int)(A:a.length≤1000000):Na 22 [LU a,.i n] (.tup [.dy 0 0,.i (Og a n)]) [RU (N4 a n)]:=by
 refine Np.rowE (Nd r_ref02_Fit Aa N ?_);have B:=en a;by_cases g:n<0
 ·have e:Og a n=2:=Ij (.inl g);simp[z92,g,e,N4,Rj]
 ·by_cases z:512<n
  ·have e:Og a n=2:=Ij (.inr z);simp[z92,g,z,e,N4,Rj]
  ·simp[z92,g,z];refine zdl (z6p a J) N ?_;by_cases j:n<(Oe (val a)).length
   ·have e:Og a n=3:=by unfold Og;rw[Ii J,Ij j]
    simp[RU,j,e,N4,Rj]
   ·have e:Og a n=0:=by unfold Og;rw[Ii J,Ii j]
    simp[RU,j,e,N4];refine⟨J,λC=>⟨J,J,J,J,.inr ⟨0,1,1,rfl,?_⟩⟩⟩;rw[repU];simp
section
set_option linter.unusedVariables false
def z5a:LC:=(.q [.F 4] (.seq (.q [.m 6 0,.s 7 6,.m 8 1,.s 9 8,.c 10 .neq 3 7 9] (.cond (.t 10) (.q [.F 4] .ret) .skip)) (.seq (.q [.K 5 0] (.block 0 (.loop (.seq (.q [.m 11 5,.m 12 0,.s 13 12,.c 14 .lss 3 11 13] (.cond (.t 14) .skip (.exit 0))) (.seq (.block 1 (.seq (.draw [(.m 17 0,[]),(.m 18 5,[]),(.I 19 1 17 18,[]),(.l 20 19,[]),(.m 21 1,[]),(.m 22 5,[]),(.I 23 1 21 22,[]),(.l 24 23,[]),(.W 25 34 20 24,[]),(.z 26 (.un .not (.t 25)),[])]) (.cond (.t 26) (.q [.F 4] .ret) .skip))) (.ops [.m 15 5,.b 16 .add 3 15 1,.m 5 16])))))) (.q [.z 4 (.move .T)] .ret))))
def r_kit_Rows_uint64:Nf Tryz.prog 38=some ⟨27,z5a.r,[.tmp 4]⟩:=Aa
def zci:LC:=(.q [.x 3 0,.x 4 1,.e 6,.K 7 0] (.seq (.q [.m 11 2,.s 12 11,.f 13 0 4,.l 14 13,.s 15 14,.c 16 .neq 3 12 15] (.cond (.t 16) (.q [.e 6,.K 7 2] .ret) .skip)) (.q [.e 8] (.seq (.q [.K 9 0] (.block 0 (.loop (.seq (.q [.m 17 9,.f 18 0 3,.l 19 18,.s 20 19,.c 21 .lss 3 17 20] (.cond (.t 21) .skip (.exit 0))) (.seq (.block 1 (.q [.f 24 0 3,.l 25 24,.m 26 9,.I 27 3 25 26,.f 28 2 27,.l 29 28,.b 30 .eql 3 29 3] (.cond (.t 30) (.q [.m 31 2,.f 32 1 4,.l 33 32,.m 34 9,.I 35 3 33 34,.f 36 0 35,.l 37 36,.I 38 1 31 37,.l 39 38,.m 10 39] (.seq (.q [.m 40 10,.s 41 40,.f 42 0 3,.l 43 42,.m 44 9,.I 45 3 43 44,.f 46 0 45,.l 47 46,.c 48 .neq 3 41 47] (.cond (.t 48) (.q [.e 6,.K 7 2] .ret) .skip)) (.ops [.m 49 8,.m 50 10,.w 51 63 50,.z 52 (.buildSl 1 1 [.nilSl] [(0,1,.t 51)]),.a 53 1 49 52,.m 8 53]))) .skip))) (.ops [.m 22 9,.b 23 .add 3 22 1,.m 9 23])))))) (.q [.m 54 8,.m 6 54,.K 7 0] .ret)))))
def r_ref27_Out:Nf Tryz.prog 37=some ⟨55,zci.r,[.tmp 6,.tmp 7]⟩:=Aa
def zah:LC:=(.q [.x 2 0,.F 4] (.seq (.q [.K 5 0] (.block 0 (.loop (.seq (.q [.m 7 5,.m 8 1,.s 9 8,.c 10 .lss 3 7 9,.m 11 10,.my 12 11 5,.yf 13 11 0 2,.yl 14 11 13,.y 15 11 (.lenSl (.t 14)),.y 16 11 (.bin .lss false 3 (.t 12) (.t 15)),.q 17 11 16] (.cond (.t 17) .skip (.exit 0))) (.seq (.block 1 (.q [.K 6 0] (.block 2 (.loop (.seq (.q [.m 20 6,.m 21 1,.m 22 5,.I 23 1 21 22,.l 24 23,.s 25 24,.c 26 .lss 3 20 25,.m 27 26,.yf 28 27 0 2,.yl 29 27 28,.my 30 27 5,.y 31 27 (.ixAddr 3 (.t 29) (.t 30)),.yf 32 27 1 31,.yl 33 27 32,.y 34 27 (.bin .eql true 3 (.t 33) (.k 3)),.q 35 27 34] (.cond (.t 35) .skip (.exit 2))) (.seq (.block 3 (.q [.m 38 1,.m 39 5,.I 40 1 38 39,.l 41 40,.m 42 6,.I 43 1 41 42,.l 44 43,.u 45 .neq 43 44 0] (.cond (.t 45) (.q [.F 4] .ret) .skip))) (.ops [.m 36 6,.b 37 .add 3 36 1,.m 6 37]))))))) (.ops [.m 18 5,.b 19 .add 3 18 1,.m 5 19])))))) (.q [.m 46 1,.s 47 46,.f 48 0 2,.l 49 48,.s 50 49,.c 51 .eql 3 47 50,.m 4 51] .ret)))
def r_ref27_Noughts:Nf Tryz.prog 39=some ⟨52,zah.r,[.tmp 4]⟩:=Aa
def zec:LC:=(.q [.F 2] (.seq (.q [.K 3 0] (.block 0 (.loop (.seq (.q [.m 4 3,.m 5 0,.s 6 5,.c 7 .lss 3 4 6] (.cond (.t 7) .skip (.exit 0))) (.seq (.block 1 (.q [.m 10 0,.m 11 3,.I 12 1 10 11,.l 13 12,.s 14 13,.b 15 .gtr 3 14 600] (.cond (.t 15) (.q [.F 2] .ret) .skip))) (.ops [.m 8 3,.b 9 .add 3 8 1,.m 3 9])))))) (.q [.m 16 0,.s 17 16,.b 18 .leq 3 17 40,.m 2 18] .ret)))
def r_law27_light:Nf Tryz.prog 27=some ⟨19,zec.r,[.tmp 2]⟩:=Aa
def ziq(l:List (List UInt64))(R:l.length≤9223372036854775807):Na 27 [LN l] (.bool (decide ((∀x∈l,x.length≤600)∧l.length≤40))) []:=by
 refine Np.val rfl (Nd r_law27_light Aa (by simp) ?_);simp[zec,LN];refine Ns (λM Q S N=>∃i:Nat,Q=[]∧N+i=l.length∧lk M 0=.lst (l.map LU) l.length 1∧lk M 3=.i i∧∀j,j<i→(l.getD j []).length≤600) (N:=l.length) ⟨0,rfl,J,by simp,by simp,λj C=>J⟩ ?_;rintro N M Q S ⟨i,rfl,T,D,E,I⟩ U F;by_cases H:i<l.length
 ·have z : l[i]'H = l.getD i [] := by rw [Ie, Ib H];rfl
  have A:l.getD i []∈l:=by rw[←z];exact Km H
  by_cases K:600<(l.getD i []).length
  ·have O:¬((∀x∈l,x.length≤600)∧l.length≤40):=λh=>by have:=h.1 _ A;omega
   generalize l.getD i []=x at *;have g:(600:Int)<x.length:=J
   simp[D,E,H,z,K,g,O];intro h;have:=h x A;omega
  ·have G:∀j,j<i+1→(l.getD j []).length≤600:=λj C=>by
    by_cases e:j=i
    ·rw[e];omega
    ·exact I j J
   generalize l.getD i []=x at *;have g:¬(600:Int)<x.length:=J
   simp[D,E,H,z,K,g];exact⟨J,F _ _ _ ⟨N-1,J,i+1,rfl,J,Bc,by simp,G⟩⟩
 ·have B:∀x∈l,x.length≤600:=λx z=>by
   obtain⟨j,C⟩:=I8.1 z;have P:=(H7.1 C).1;have:=I j J
   rwa [Ie,C]at this
  simp[D,E,H];rw[J4 B,Kg];exact Lp.2 J
def z8u(a b:List (List UInt64))(V:a.length≤1000000)(P:∀x∈a,x.length≤1000000):Na 38 [LN a,LN b] (.bool (decide (a=b))) []:=by
 refine Np.val rfl (Nd r_kit_Rows_uint64 Aa (by simp) ?_);by_cases g:a.length=b.length
 case neg =>
  have e:a≠b:=λe=>g Co
  have Q:¬(a.length:Int)=b.length:=J
  simp[z5a,LN,Q,e]
 simp[z5a,LN,g];refine Ns (λO U X N=>∃i:Nat,U=[]∧N+i=b.length∧lk O 0=.lst (a.map LU) b.length 1∧lk O 1=.lst (b.map LU) b.length 1∧lk O 5=.i i∧∀j,j<i→a.getD j []=b.getD j []) (N:=b.length) ⟨0,rfl,J,by simp,by simp,by simp,λj R=>J⟩ ?_;rintro N O U X ⟨i,rfl,Y,A,z,B,H⟩ Z E;by_cases I:i<b.length
 ·have C:i<a.length:=J
  have K : a[i]'C = a.getD i [] := by rw [Ie, Ib C];rfl
  have M : b[i]'I = b.getD i [] := by rw [Ie, Ib I];rfl
  have S:=Ww P i;by_cases D:a.getD i []=b.getD i []
  ·have F:∀j,j<i+1→a.getD j []=b.getD j []:=λj R=>by
    by_cases e:j=i
    ·rw[e];exact D
    ·exact H j J
   generalize a.getD i []=x at *;generalize b.getD i []=y at *;simp[A,z,B,I,C,K,M];refine Nb (z9a x y J) (bors_self _ Ao) ?_;simp[D,B];exact⟨J,E _ _ _ ⟨N-1,J,i+1,rfl,J,Af,As,by simp,F⟩⟩
  ·have G:a≠b:=λe=>D Co
   generalize a.getD i []=x at *;generalize b.getD i []=y at *;simp[A,z,B,I,C,K,M];refine Nb (z9a x y J) (bors_self _ Ao) ?_;simp[D,G]
 ·have e:a=b:=by
   refine List.ext_getElem g λj z T=>?_
   have:=H j J;simpa [Ie,z,T] using this
  simp[A,B,I,e]
def nh(bs:List Bf)(ps:List Pc)(w0 w1:Pc)(L:List (List UInt64))(gD:bs.length≤1000000)(hL:∀x∈L,x.length≤1000000):Na 39 [.agg (Nj bs ps w0 w1),LN L] (.bool (W8 bs L)) []:=by
 have g:Nj bs ps w0 w1=[.lst (Om bs) bs.length 3,.lst (Oc ps) ps.length 3,.i w0.buf,.i w0.at_,.i w0.size,.i w1.buf,.i w1.at_,.i w1.size]:=rfl;refine Np.val rfl (Nd r_ref27_Noughts Aa (by simp) ?_);simp[zah,g,LN];refine Ns (λT gB gC N=>∃i:Nat,gB=[]∧N+i=min L.length bs.length∧lk T 1=.lst (L.map LU) L.length 1∧lk T 2=.ptr 0 0∧lk T 5=.i i∧gC[0]?=some (.cells (Nj bs ps w0 w1) 0)∧∀U,U<i→(!(decide ((Ou bs U).kind=3)&&(L.getD U []).any Qg))=true) (N:=min L.length bs.length) ⟨0,rfl,J,by simp,by simp,by simp,Ay,λU Y=>J⟩ ?_;rintro N T gB gC ⟨i,rfl,hN,z,A,B,G,Z⟩ Nx M;by_cases gA:i<L.length∧i<bs.length
 case neg =>
  have gE:i=min L.length bs.length:=J
  have j:W8 bs L=decide (L.length=bs.length):=by
   unfold W8;by_cases O:L.length=bs.length
   ·simp only[O,decide_true,Kg];rw[I7];intro U Y;exact Z U (by have:=Ji.1 Y;omega)
   ·simp[O]
  by_cases D:i<L.length
  ·have gb:¬i<bs.length:=J
   simp[z,A,B,D,gb,G,g,j];omega
  ·simp[z,A,B,D,G,g,j];omega
 obtain⟨D,gb⟩:=gA;have qk:=zuj (ay gb);have gF:=kg gb;have C:i*3+1<(Om bs).length:=J
 have V : L[i]'D = L.getD i [] := by rw [Ie, Ib D];rfl
 have gG:=Ww hL i;have P:(Ou bs i).kind=3→(L.getD i []).any Qg=true→W8 bs L=false:=λH h=>by
  cases hq:W8 bs L with
  |false=>rfl
  |true =>
   simp only[W8,H9,I7]at hq;have:=hq.2 i (Ji.2 gb);rw[h]at this;simp[H]at this
 have nx:∀Q,lk Q 1=.lst (L.map LU) L.length 1→lk Q 2=.ptr 0 0→lk Q 5=.i ((i:Int)+1)→(!(decide ((Ou bs i).kind=3)&&(L.getD i []).any Qg))=true→Nx Q [] gC:=λQ a1 a2 a5 h =>
  M _ _ _ ⟨N-1,J,i+1,rfl,J,a1,a2,by rw[a5];simp,G,λU Y=>by
   by_cases e:U=i
   ·rw[e];exact h
   ·exact Z U J⟩
 clear M Z;generalize L.getD i []=x at *;simp[z,A,B,D,gb,G,g];refine Ns (λT gB G' N=>∃n:Nat,gB=[]∧G'=gC∧N+n=x.length∧lk T 1=.lst (L.map LU) L.length 1∧lk T 2=.ptr 0 0∧lk T 5=.i i∧lk T 6=.i n∧(n=0∨∀m,m<n→x.getD m 0=0)) (N:=x.length) ⟨0,rfl,rfl,J,As,Af,Ax,by simp,.inl rfl⟩ ?_;clear z A B;rintro N2 T gB G' ⟨n,rfl,rfl,gH,z,A,B,X,E⟩ gI R;by_cases I:n<x.length
 case neg =>
  have S:x.any Qg=false:=by
   rw[M2];intro y hy;obtain⟨m,hm⟩:=I8.1 hy;have gK:=(H7.1 hm).1;rcases E with E|E
   ·omega
   ·have:=E m J;rw[Ie,hm]at this;simp at this;simp[Qg,this]
  simp[z,B,X,D,V,I];exact⟨J,nx _ As Af (by simp) (by simp[S])⟩
 by_cases H:(Ou bs i).kind=3
 case neg =>
  simp[z,A,B,X,D,gb,V,I,G,g,M9 qk,C,H];exact⟨J,nx _ As Af (by simp) Ba⟩
 have K : x[n]'I = x.getD n 0 := by rw [Ie, Ib I];rfl
 have gg:x.getD n 0=0→∀m,m<n+1→x.getD m 0=0:=λF m hm=>by
  by_cases e:m=n
  ·rw[e];exact F
  ·rcases E with E|E
   ·omega
   ·exact E m J
 have ha:x.getD n 0≠0→x.any Qg=true:=λF=>by
  rw[Mm];exact⟨x.getD n 0,by rw[←K];exact Km I,by simpa [Qg] using F⟩
 generalize x.getD n 0=y at *;by_cases F:y=0
 ·have gj:=gg F;simp[z,A,B,X,D,gb,V,I,G,g,M9 qk,C,H,K,F];exact⟨J,R _ _ _ ⟨N2-1,J,n+1,rfl,rfl,J,As,Af,Ax,by simp,.inr gj⟩⟩
 ·have j:=P H (ha F);simp[z,A,B,X,D,gb,V,I,G,g,M9 qk,C,H,K,F,j]
section rows
variable {vs : List Vr} {os rs : List Ko} {bs : List Bf} {ps : List Pc} {w0 w1 : Pc} {base : Nat} {f : Fr Ko} {L : List (List UInt64)}
def Ux(vs:List Vr)(bs:List Bf)(L:List (List UInt64)):List (List UInt64):=if N9 vs bs L=true then (Sv.outV vs).map λg=>Oe (val (L.getD g [])) else []
def zeg(vs:List Vr)(L:List (List UInt64)):Y4 vs L vs.length=((Sv.outV vs).map λj=>Oe (val (L.getD j []))).map LU:=by
 unfold Y4;rw[←ot,List.map_map];rfl
def mq(gK:vs.length≤100000)(hv:P6 vs=true)(R:MadeF vs os bs ps w0 w1 base f)(hL:∀x∈L,x.length≤1000000)(gL:L.length≤1000000000) :
  Qh 37 [.agg (M3 vs os rs),.agg (Nj bs ps w0 w1),LN L] (.tup [LN (Ux vs bs L),.i (if N9 vs bs L=true then 0 else 2)]):=by
 have gM:dats (M3 vs os rs)=true:=Ai
 have g:Nj bs ps w0 w1=[.lst (Om bs) bs.length 3,.lst (Oc ps) ps.length 3,.i w0.buf,.i w0.at_,.i w0.size,.i w1.buf,.i w1.at_,.i w1.size]:=rfl;have gj:∀i,i<vs.length→1≤(gv vs i).limbs∧(gv vs i).limbs≤512∧0≤(gv vs i).mode∧(gv vs i).mode≤3:=λi hi=>Ve hv _ (Vt hi)
 have gO:=R.bl;have gP:=R.bb;refine Sf.mk (by simp[LV.dat,dats,LN,Pf]) (Nd r_ref27_Out Aa (by simp) ?_);by_cases D:L.length=bs.length
 case neg =>
  have gB:¬(L.length:Int)=bs.length:=J
  have z:N9 vs bs L=false:=by simp[N9,D]
  simp[zci,g,LN,gB,D,z,Ux]
 simp[zci,g,LN,D,M3];refine Ns (λρ gT gI N=>∃(i:Nat) (v:LV),gT=[]∧N+i=vs.length∧lk ρ 2=.lst (L.map LU) bs.length 1∧lk ρ 3=.ptr 0 0∧lk ρ 4=.ptr 1 0∧lk ρ 8=v∧lk ρ 9=.i i∧gI[0]?=some (.cells (M3 vs os rs) 0)∧gI[1]?=some (.cells (Nj bs ps w0 w1) 0)∧2≤gI.length ∧
   Rg 2 gI v 1 (Q8 (λv=>decide (v.mode=3)) vs i).length (Y4 vs L i)∧∀C,C<i→(gv vs C).mode=3→((L.getD C []).length:Int)=(gv vs C).limbs)
  (N:=vs.length) ⟨0,.nilSl,rfl,J,by simp,by simp,by simp,by simp,by simp,Cz,Ay,by simp,Rg.nil,λC S=>J⟩ ?_
 rintro N ρ gT gI ⟨i,v,rfl,hN,h2,A,h4,h8,T,Q,g1,gC,hD,O⟩ Nx U;by_cases gg:i<vs.length
 case neg =>
  have gD:i=vs.length:=J
  subst gD;have z:N9 vs bs L=true:=by
   simp only[N9,D,decide_true,Kg,I7,Il];intro C S;exact O C (zut S) (by simpa using (Ki.1 S).2)
  have B:=(Rg.toStD hD).bor;rw[zeg]at B;simp[-bor,-bors,A,h8,T,Q,M3,z];refine⟨_,_,rfl,?_,bors_self _ rfl⟩;rw[show Ux vs bs L=(Sv.outV vs).map λC=>Oe (val (L.getD C [])) by rw[Ux,Ij z],J0,ot];rw[ot]at B;exact B
 have q2:=ft (Qp gg);have q0:=dv (Qp gg);have gQ:=Ty gg;have P:i*3+2<(Nr vs).length:=J
 have V:i*3<(Nr vs).length:=J
 have gp:i<ps.length:=by rw[R.pl];exact gg
 have gE:=R.mode i gg;obtain⟨v1,v2,v3,v4⟩:=gj i gg;have E:Y4 vs L (i+1)=Y4 vs L i++if (gv vs i).mode=3 then [LU (Oe (val (L.getD i [])))] else []:=by
  unfold Y4;rw[fp,Ju];by_cases h:(gv vs i).mode=3<;>simp[h]
 have F:(Q8 (λv=>decide (v.mode=3)) vs (i+1)).length=(Q8 (λv=>decide (v.mode=3)) vs i).length+if (gv vs i).mode=3 then 1 else 0:=by
  rw[fp,Im];by_cases h:(gv vs i).mode=3<;>simp[h]
 by_cases I:(gv vs i).mode=3
 case neg =>
  rw[Ii I,Jf]at E;rw[Ii I]at F;simp[A,T,gg,Q,M3,M9 q2,P,I];exact⟨J,U _ _ _ ⟨N-1,J,i+1,v,rfl,J,Cy,Af,F3,by simp[h8],by simp,Q,g1,gC,by rw[E,F];exact hD,λC S A=>by
   by_cases e:C=i
   ·rw[e]at A;exact absurd A I
   ·exact O C J A⟩⟩
 have gF:i<base:=by
  have:¬base≤i:=λq=>by have:=gE.2 q;omega
  omega
 have c0:=V2 Pc.f_len (Wy gp) (j:=0) J;rw[R.par i gF]at c0;have X:(Oc ps)[i*3]?=some (.i (i:Int)):=Ed
 have gR:=Vw gp;have K:i*3<(Oc ps).length:=J
 have G:i<L.length:=J
 have M:i<bs.length:=J
 have gS:(L.getD i []).length≤1000000:=Ww hL i;have hx : L[i]'G = L.getD i [] := by rw [Ie, Ib G];rfl
 by_cases H:((L.getD i []).length:Int)=(gv vs i).limbs
 case neg =>
  have z:N9 vs bs L=false:=by
   cases h:N9 vs bs L with
   |false=>rfl
   |true =>
    simp only[N9,H9,I7,Il]at h;exact absurd (h.2 i (Ki.2 ⟨Ji.2 gg,by simpa using I⟩)) H
  generalize L.getD i []=x at *;simp[h2,A,h4,T,gg,Q,g1,g,M3,M9 q2,M9 q0,V,P,I,gp,M9 X,K,M,G,hx,H,z,Ux]
 rw[Ij I]at E F;have Y:∀C,C<i+1→(gv vs C).mode=3→((L.getD C []).length:Int)=(gv vs C).limbs:=λC S A=>by
  by_cases e:C=i
  ·rw[e];exact H
  ·exact O C J A
 generalize L.getD i []=x at *;simp[h2,A,h4,h8,T,gg,Q,g1,g,M3,M9 q2,M9 q0,V,P,I,gp,M9 X,K,M,G,hx,H];refine Nb (z6p x J) (bors_self _ Ao) ?_;rw[show frV [RU (Oe (val x))] (.dy 0 0)=LU (Oe (val x)) from rfl];generalize Oe (val x)=y at *;simp;refine Rg.push (c:=1) (x:=[LU y]) hD.push_end J Ab Ez rfl (by simp[dats,zrc]) λv' G2 gG Z gH=>?_
 simp at gH;simp[T];exact⟨J,U _ _ _ ⟨N-1,J,i+1,v',rfl,J,Cy,Af,F3,by simp,by simp,by rw[Z 0 J,M5 J];exact Q,by rw[Z 1 J,M5 J];exact g1,J,by rw[E,F];exact gG,Y⟩⟩
end rows
end
section
set_option linter.unusedVariables false
def zfm:LC:=(.q [.x 4 0,.x 5 1,.e 8,.K 9 0] (.q [.L 18 3 4,.m 19 2,.W 20 19 18 19,.m 10 20] (.seq (.q [.m 21 10,.b 22 .neq 35 21 0] (.cond (.t 22) (.q [.m 23 10,.e 8,.m 9 23] .ret) .skip)) (.q [.f 24 0 5,.l 25 24,.s 26 25,.z 27 (.mkSl 1 [.nilSl] (.t 26) (.t 26)),.m 11 27] (.q [.K 12 0] (.seq (.q [.K 13 0] (.block 0 (.loop (.seq (.q [.m 28 13,.f 29 0 4,.l 30 29,.s 31 30,.c 32 .lss 3 28 31] (.cond (.t 32) .skip (.exit 0))) (.seq (.block 1 (.q [.f 35 1 5,.l 36 35,.m 37 13,.I 38 3 36 37,.L 39 3 38,.z 14 (.alloc [(.i 0),(.i 0),(.i 0)]),.S 3 14 39] (.q [.f 40 0 4,.l 41 40,.m 42 13,.I 43 3 41 42,.f 44 2 43,.l 45 44] (.block 2 (.seq (.q [.b 47 .eql 3 45 1,.m 46 47] (.cond (.t 46) .skip (.ops [.b 48 .eql 3 45 2,.m 46 48]))) (.cond (.t 46) (.seq (.draw [(.m 50 2,[]),(.m 51 12,[]),(.I 52 1 50 51,[]),(.l 53 52,[]),(.f 54 2 14,[]),(.l 55 54,[]),(.W 56 22 53 55,[]),(.m 49 56,[]),(.X 57 0 49,[]),(.X 58 1 49,[]),(.m 15 57,[]),(.m 16 58,[])]) (.q [.m 59 11,.f 60 0 14,.l 61 60,.m 62 15,.I 63 1 59 61,.S 1 63 62] (.ops [.m 64 12,.b 65 .add 3 64 1,.m 12 65]))) (.q [.b 67 .eql 3 45 3,.m 66 67] (.cond (.t 66) (.q [.K 17 0] (.block 3 (.loop (.seq (.q [.m 68 17,.f 69 2 14,.l 70 69,.c 71 .lss 3 68 70] (.cond (.t 71) .skip (.exit 3))) (.seq (.block 4 (.draw [(.m 74 11,[]),(.f 75 0 14,[]),(.l 76 75,[]),(.m 77 11,[]),(.f 78 0 14,[]),(.l 79 78,[]),(.I 80 1 77 79,[]),(.l 81 80,[]),(.m 82 3,[]),(.z 83 (.buildSl 1 1 [(.u 0)] [(0,1,.t 82)]),[(.l 81 80,false),(.l 79 78,false),(.l 76 75,false)]),(.a 84 1 81 83,[(.l 76 75,false)]),(.I 85 1 74 76,[]),(.S 1 85 84,[])])) (.ops [.m 72 17,.b 73 .add 3 72 1,.m 17 73])))))) .skip)))))))) (.ops [.m 33 13,.b 34 .add 3 33 1,.m 13 34])))))) (.q [.m 86 11,.m 8 86,.K 9 0] .ret)))))))
def r_ref27_Rows:Nf Tryz.prog 36=some ⟨87,zfm.r,[.tmp 8,.tmp 9]⟩:=Aa
def qp(j:M4)(c:LV)(g:List UInt64):Prop:=c=LU g∨∃p k st,2<p∧c=.dy p k∧j[p]?=some (.dyn (g.map .u) g.length 1 k st)
def qp.old{G G':M4}{c:LV}{X:List UInt64}(h:qp G c X)(ho:∀p,2<p→p<G.length→G'[p]?=G[p]?):qp G' c X:=by
 rcases h with h|⟨p,k,st,h1,h2,h3⟩
 ·exact .inl h
 ·exact .inr ⟨p,k,st,h1,h2,by rw[ho p h1 (H7.1 h3).1];exact h3⟩
def qp.bor{G:M4}{c:LV}{X:List UInt64}(h:qp G c X):Go.Sv.bor G c (LU X):=by
 rcases h with rfl|⟨p,k,st,_,rfl,h3⟩
 ·exact⟨rfl,zrc _⟩
 ·exact⟨X.map .u,X.length,1,st,rfl,h3,Un (λ_=>rfl) X⟩
def zwh{B:M4}:∀{l m:List LV},l.length=m.length→(∀(j:Nat) (a b:LV),l[j]?=some a→m[j]?=some b→Go.Sv.bor B a b)→bors B l m
 |[],[],_,_=>rfl
 |[],_::_,h,_=>B1
 |_::_,[],h,_=>B1
 |a::l,b::m,h,g=>⟨b,m,rfl,g 0 a b rfl rfl,zwh Bb λj x y z A=>g (j+1) x y Cp Bh⟩
section rows
variable {vs : List Vr} {os rs : List Ko} {bs : List Bf} {ps : List Pc} {w0 w1 : Pc} {base : Nat} {f : Fr Ko} {ins : List (List UInt64)} {fill : UInt64}
def Wi(vs:List Vr)(base n:Nat)(fill:UInt64)(ins:List (List UInt64))(i:Nat)(j:List LV)(z:M4):Prop :=
 j.length=n∧∀g,g<n→∃c,j[g]?=some c∧((g<i∧g<base∧qp z c (Si vs fill ins g))∨(¬(g<i∧g<base)∧c=.nilSl))
def Wi.old{n i:Nat}{C:List LV}{G G':M4}(h:Wi vs base n fill ins i C G)(ho:∀p,2<p→p<G.length→G'[p]?=G[p]?):Wi vs base n fill ins i C G' :=
 ⟨h.1,λgg hj=>by
  obtain⟨c,h1,j⟩:=h.2 gg hj;refine⟨c,h1,?_⟩;rcases j with ⟨a,b,d⟩|j
  ·exact .inl ⟨a,b,d.old ho⟩
  ·exact .inr j⟩
def Wi.skip{n i:Nat}{G:M4}(h:Wi vs base n fill ins i U G)(hi:base≤i):Wi vs base n fill ins (i+1) U G :=
 ⟨h.1,λgg j=>by
  obtain⟨c,C,h2⟩:=h.2 gg j;refine⟨c,C,?_⟩;rcases h2 with ⟨a,b,d⟩|⟨a,b⟩
  ·exact .inl ⟨J,b,d⟩
  ·exact .inr ⟨J,b⟩⟩
def Wi.put{n i:Nat}{G:M4}{c:LV}(h:Wi vs base n fill ins i U G)(hi:i<base)(j:i<n)(C:qp G c (Si vs fill ins i)):Wi vs base n fill ins (i+1) (U.set i c) G :=
 ⟨by simpa using h.1,λgg hj=>by
  by_cases e:gg=i
  ·subst e;exact⟨c,by rw[Ia (by rw[h.1];exact j)],.inl ⟨J,hi,C⟩⟩
  ·obtain⟨c2,h1,h2⟩:=h.2 gg hj;refine⟨c2,by rw[H8 (λq=>e q.symm)];exact h1,?_⟩;rcases h2 with ⟨a,b,d⟩|⟨a,b⟩
   ·exact .inl ⟨J,b,d⟩
   ·exact .inr ⟨J,b⟩⟩
def z6q(jL:vs.length≤100000)(hc:Ng vs os rs=true)(hM:MadeF vs os bs ps w0 w1 base f)(hi:∀x∈ins,x.length≤1000)(jM:ins.length≤1000) :
  Qh 36 [.agg (M3 vs os rs),.agg (Nj bs ps w0 w1),LN ins,.u fill] (.tup [LN (if Qb vs os rs (ins.map val)=0 then dj vs base fill ins else []),.i (Qb vs os rs (ins.map val))]):=by
 have gV:dats (M3 vs os rs)=true:=Ai
 have gX:(M3 vs os rs).length=3:=rfl;have gY:(M3 vs os rs).take 3=M3 vs os rs:=rfl;have B:Nj bs ps w0 w1=[.lst (Om bs) bs.length 3,.lst (Oc ps) ps.length 3,.i w0.buf,.i w0.at_,.i w0.size,.i w1.buf,.i w1.at_,.i w1.size]:=rfl;have hv:P6 vs=true:=Be
 have gZ:∀i,i<vs.length→1≤(gv vs i).limbs∧(gv vs i).limbs≤512∧0≤(gv vs i).mode∧(gv vs i).mode≤3:=λi hi=>Ve hv _ (Vt hi)
 have gM:=hM.bl;have jO:=hM.bb;refine Sf.mkT (by simp[LV.dat,dats,LN,Pf]) (Nd r_ref27_Rows Aa (by simp) ?_);simp[zfm,gX,gY];refine Nb (Zy vs os rs ins J hi) (bors_self _ (by simp[dats,LV.dat,gV,LN,Pf])) ?_;by_cases D:Qb vs os rs (ins.map val)=0
 case neg =>
  simp[D];exact Rf.tup2 (Rf.bor (.inr ⟨1,rfl⟩)) (Rf.bor ⟨rfl,rfl⟩)
 have g8:(Sv.inV vs).length=ins.length:=by
  unfold Qb at D;rw[Ij hc]at D;split at D
  ·rename_i h;simpa using h
  ·omega
 have g9:∀i,i<vs.length→Ob (gv vs i)=true→Rk vs i<ins.length∧(Sv.inV vs).getD (Rk vs i) 0=i:=λi jg hg=>by
  have:=those_at (p:=Ob) (vs:=vs) vs.length i jg hg;rw[←za8,g8]at this;exact this
 simp[D,B];refine⟨J,?_⟩;rw[←B];have gO:∀n gH,gH<n→(Ni [LV.nilSl] n)[gH]?=some .nilSl:=by
  intro n
  induction n with
  |zero=>intro gH hj;omega
  |succ n ih =>
   intro gH hj;cases gH with
   |zero=>rfl
   |succ gH=>simpa [Ni] using ih gH J
 have jz:∀n,(Ni [LV.nilSl] n).length=n:=by
  intro n
  induction n with
  |zero=>rfl
  |succ n ih=>simp[Ni,ih]
 refine Ns (λZ jI gD N=>∃(i st:Nat) (gE:List LV),jI=[]∧N+i=vs.length∧lk Z 2=LN ins∧lk Z 3=.u fill∧lk Z 4=.ptr 0 0∧lk Z 5=.ptr 1 0∧lk Z 11=.dy 2 0∧lk Z 12=.i (Rk vs i)∧lk Z 13=.i i ∧
   gD[0]?=some (.cells (M3 vs os rs) 0)∧gD[1]?=some (.cells (Nj bs ps w0 w1) 0)∧gD[2]?=some (.dyn gE bs.length 1 0 st)∧Wi vs base bs.length fill ins i gE gD)
  (N:=vs.length) ⟨0,0,Ni [.nilSl] bs.length,rfl,J,by simp[LN],by simp,by simp,by simp,by simp,by simp[Rk,Q8],by simp,by simp,by simp,by simp,jz _,λgH hj=>⟨.nilSl,gO _ gH hj,.inr ⟨J,rfl⟩⟩⟩ ?_
 rintro N Z jI gD ⟨i,st,gE,rfl,hN,G,T,L,M,j,A,z,H,I,O,P⟩ Nx gg;have l0:=(H7.1 H).1;have l1:=(H7.1 I).1;have l2:=(H7.1 O).1;by_cases gP:i<vs.length
 case neg =>
  simp[L,j,z,H,M3,gP];have hb:bors gD gE ((dj vs base fill ins).map LU):=by
   refine zwh (by rw[J0,yx,P.1,gM]) λgH a b ha hb=>?_
   have hj:gH<bs.length:=by rw[←P.1];exact (H7.1 ha).1
   obtain⟨c,h1,G⟩:=P.2 gH hj;rw[ha]at h1;obtain rfl:=Option.some.inj h1;rw[Ks,zra J]at hb;obtain rfl:=Option.some.inj hb;rcases G with ⟨_,b2,d⟩|⟨a2,rfl⟩
   ·rw[Ij b2];exact d.bor
   ·have:¬gH<base:=λq=>a2 ⟨J,q⟩
    rw[Ii this];exact .inr ⟨1,rfl⟩
  refine Rf.tup2 ?_ (Rf.bor ⟨rfl,rfl⟩);rw[show (dj vs base fill ins).length=bs.length by rw[yx,gM]];exact Rf.row O hb
 have q2:=ft (Qp gP);have jP:=Ty gP;have E:i*3+2<(Nr vs).length:=J
 have gp:i<ps.length:=by rw[hM.pl];exact gP
 have p3:=mo (Wy gp);have gj:=Vw gp;have gQ:=hM.mode i gP;have jA:=hM.sz i gp;have gI:(Of ps i).f=[.i (Of ps i).buf,.i (Of ps i).at_,.i (Of ps i).size]:=rfl;obtain⟨v1,v2,v3,v4⟩:=gZ i gP;have K:Rk vs (i+1)=Rk vs i+if Ob (gv vs i)=true then 1 else 0:=by
  unfold Rk;rw[fp,Im];split<;>simp
 have C:Si vs fill ins i=if (gv vs i).mode=3 then List.replicate (gv vs i).limbs.toNat fill else N4 (ins.getD (Rk vs i) []) (gv vs i).limbs:=rfl
 by_cases m0:(gv vs i).mode=0
 ·have hg:Ob (gv vs i)=false:=by simp[Ob,m0]
  rw[Ii Es]at K;have jB:=gQ.1 m0;simp[L,M,z,gP,H,I,↓M5 l0,↓M5 l1,B,M3,gp,p3,gj,gI,M9 q2,E,m0];exact⟨J,gg _ _ _ ⟨N-1,J,i+1,st,gE,rfl,J,B8,Da,Br,Av,Au,by simp[A,K],by simp,by rw[M5 l0];exact H,by rw[M5 l1];exact I,by rw[M5 l2];exact O,(P.skip jB).old λp _ X=>M5 X⟩⟩
 have gB:i<base:=by
  have:¬base≤i:=λq=>m0 (gQ.2 q)
  omega
 have g:i<bs.length:=J
 have jC:=hM.par i gB;rw[jC]at gI jA p3;rw[gI]at p3;have jD:gE.set i .nilSl=gE:=by
  obtain⟨c,h1,G⟩:=P.2 i g;rcases G with ⟨G,_⟩|⟨_,rfl⟩
  ·omega
  ·refine Mh λgH=>?_
   by_cases e:i=gH
   ·subst e;rw[Ia Gb,h1]
   ·rw[H8 e]
 by_cases m3:(gv vs i).mode=3
 case neg =>
  have hg:Ob (gv vs i)=true:=by simp[Ob];omega
  rw[Ij hg]at K;rw[Ii m3]at C;obtain⟨gC,jQ⟩:=g9 i gP hg;have hx : ins[Rk vs i]'gC = ins.getD (Rk vs i) [] := by rw [Ie, Ib gC];rfl
  have jR:=Ww hi (Rk vs i);generalize ins.getD (Rk vs i) []=x at *;have F:∀gU:List UInt64,Nu gE i [LV.lst (gU.map LV.u) gU.length 1]=gE.set i (LU gU):=λgU=>xp Gb
  have Q:=P.1;rcases (J:(gv vs i).mode=1∨(gv vs i).mode=2) with m1|m1
  ·simp[G,L,M,A,z,gP,H,I,↓M5 l0,↓M5 l1,B,M3,gp,p3,gj,M9 q2,E,m1,LN,gC,hx];refine Nb (zae x (gv vs i).limbs J) (bors_self _ Ao) ?_;rw[show frV [RU (N4 x (gv vs i).limbs)] (.tup [.dy 0 0,.i (Og x (gv vs i).limbs)])=.tup [LU (N4 x (gv vs i).limbs),.i (Og x (gv vs i).limbs)] from rfl];generalize N4 x (gv vs i).limbs=gU at *;simp[j,A,z,↓M5 l2,O,g,Q];rw[F]
   repeat (refine⟨J,?_⟩)
   refine gg _ _ _ ⟨N-1,J,i+1,st+1,gE.set i (LU gU),rfl,J,B8,Da,Br,Av,Au,Bs,by simp,?_,?_,Ia Ab,?_⟩
   ·rw[H8 J,M5 l0];exact H
   ·rw[H8 J,M5 l1];exact I
   ·refine Wi.put (P.old λp h1 X=>?_) gB g (.inl (by rw[C]));rw[H8 J,M5 X]
  ·simp[G,L,M,A,z,gP,H,I,↓M5 l0,↓M5 l1,B,M3,gp,p3,gj,M9 q2,E,m1,LN,gC,hx];refine Nb (zae x (gv vs i).limbs J) (bors_self _ Ao) ?_;rw[show frV [RU (N4 x (gv vs i).limbs)] (.tup [.dy 0 0,.i (Og x (gv vs i).limbs)])=.tup [LU (N4 x (gv vs i).limbs),.i (Og x (gv vs i).limbs)] from rfl];generalize N4 x (gv vs i).limbs=gU at *;simp[j,A,z,↓M5 l2,O,g,Q];rw[F]
   repeat (refine⟨J,?_⟩)
   refine gg _ _ _ ⟨N-1,J,i+1,st+1,gE.set i (LU gU),rfl,J,B8,Da,Br,Av,Au,Bs,by simp,?_,?_,Ia Ab,?_⟩
   ·rw[H8 J,M5 l0];exact H
   ·rw[H8 J,M5 l1];exact I
   ·refine Wi.put (P.old λp h1 X=>?_) gB g (.inl (by rw[C]));rw[H8 J,M5 X]
 have hg:Ob (gv vs i)=false:=by simp[Ob,m3]
 rw[Ii Es]at K;rw[Ij m3]at C;obtain⟨m,hm⟩:=Ir (J:0≤(gv vs i).limbs);simp[L,M,z,gP,H,I,↓M5 l0,↓M5 l1,B,M3,gp,p3,gj,M9 q2,E,m3];obtain⟨G1,U⟩:∃G1,G1=gD++[LObj.cells [.i (i:Int),.i 0,.i (gv vs i).limbs] 1]:=⟨_,rfl⟩;have o1:∀x,x<gD.length→G1[x]?=gD[x]?:=λx hx=>by rw[U];exact Ic hx
 have jE:G1.length=gD.length+1:=by rw[U];simp
 have Y:G1[gD.length]?=some (.cells [.i (i:Int),.i 0,.i (gv vs i).limbs] 1):=by rw[U];simp
 have gF:∀c,(gE.set i c)[i]?=some c:=λc=>Ia Gb
 have Q:∀c,(gE.set i c).length=bs.length:=λc=>by rw[Jz];exact P.1
 have F:∀c d,Nu (gE.set i c) i [d]=gE.set i d:=λc d=>by rw[xp (by rw[Q];exact g),List.set_set]
 rw[hm]at Y v1 v2 C;rw[←U];refine Ns (λZ jI S N=>∃(n R:Nat) (c:LV),jI=[]∧N+n=m∧lk Z 2=LN ins∧lk Z 3=.u fill∧lk Z 4=.ptr 0 0∧lk Z 5=.ptr 1 0∧lk Z 11=.dy 2 0∧lk Z 12=.i (Rk vs i)∧lk Z 13=.i i∧lk Z 14=.ptr gD.length 0∧lk Z 17=.i n ∧
   S[0]?=some (.cells (M3 vs os rs) 0)∧S[1]?=some (.cells (Nj bs ps w0 w1) 0)∧S[2]?=some (.dyn (gE.set i c) bs.length 1 0 R)∧S[gD.length]?=some (.cells [.i (i:Int),.i 0,.i (m:Int)] 1)∧gD.length+1≤S.length∧(∀p,2<p→p<gD.length→S[p]?=gD[p]?) ∧
   ((n=0∧c=.nilSl)∨(0<n∧∃p k sp,gD.length<p∧c=.dy p k∧S[p]?=some (.dyn ((List.replicate n fill).map .u) n 1 k sp))))
  (N:=m) ⟨0,st,.nilSl,rfl,rfl,B8,Da,Br,Av,Au,Af,As,by simp,by simp,(o1 0 l0).trans H,(o1 1 l1).trans I,by rw[jD];exact (o1 2 l2).trans O,Y,J,λp _ X=>o1 p X,.inl ⟨rfl,rfl⟩⟩ ?_
 clear G T L M j A z H I O Y o1 U jE;rintro N2 Z jI S ⟨n,R,c,rfl,jS,G,T,L,M,j,A,z,V,gK,H,I,O,Y,jT,ho,gR⟩ jU gG;have k0:=(H7.1 H).1;have k1:=(H7.1 I).1;have k2:=(H7.1 O).1;have kx:=(H7.1 Y).1;by_cases gn:n<m
 case neg =>
  have jF:n=m:=J
  subst jF;simp[z,V,gK,Y];rcases gR with ⟨jG,_⟩|⟨_,p,k,sp,X,rfl,hr⟩
  ·omega
  refine⟨J,gg _ _ _ ⟨N-1,J,i+1,R,gE.set i (.dy p k),rfl,J,B8,Da,Br,Av,Au,by simp[A,K],by simp,H,I,O,Wi.put (P.old ho) gB g (.inr ⟨p,k,sp,J,rfl,?_⟩)⟩⟩;rw[C];simpa using hr
 have gS:(n:Int)<m:=J
 rcases gR with ⟨rfl,rfl⟩|⟨jG,p,k,sp,X,rfl,hr⟩
 ·simp[T,j,V,gK,Y,gn,gS,O,g,M9 (gF .nilSl),Q,↓M5 k2,↓M5 kx];rw[F]
  repeat (refine⟨J,?_⟩)
  refine gG _ _ _ ⟨N2-1,J,1,R+1,.dy (S.length+1) 0,rfl,J,B8,Da,Br,Av,Au,Af,As,Ch,by simp,?_,?_,Ia Ab,?_,Ab,λq E gL=>?_,.inr ⟨J,S.length+1,0,0,J,rfl,?_⟩⟩
  ·rw[H8 J,M5 k0];exact H
  ·rw[H8 J,M5 k1];exact I
  ·rw[H8 J,M5 kx];exact Y
  ·rw[H8 J,M5 J];exact ho q E gL
  ·rw[H8 J];simp
 ·have kp:=(H7.1 hr).1;have jH:∀jK,((S++[LObj.dyn [LV.u fill] 1 1 0 0]).set p jK)[2]?=some (.dyn (gE.set i (.dy p k)) bs.length 1 0 R):=λjK=>by rw[H8 J,M5 k2];exact O
  have gT:∀jK,((S++[LObj.dyn [LV.u fill] 1 1 0 0]).set p jK)[gD.length]?=some (.cells [.i (i:Int),.i 0,.i (m:Int)] 1):=λjK=>by rw[H8 J,M5 kx];exact Y
  simp[T,j,V,gK,Y,gn,gS,O,g,M9 (gF (.dy p k)),Q,↓M5 k2,↓M5 kx,↓M5 kp,hr,jH,gT];rw[F]
  repeat (refine⟨J,?_⟩)
  refine gG _ _ _ ⟨N2-1,J,n+1,R+1,.dy p (k+1),rfl,J,B8,Da,Br,Av,Au,Af,As,Ch,by simp,?_,?_,Ia Ab,?_,Ab,λq E gL=>?_,.inr ⟨J,p,k+1,sp+1,X,rfl,?_⟩⟩
  ·rw[H8 J,H8 J,M5 k0];exact H
  ·rw[H8 J,H8 J,M5 k1];exact I
  ·rw[H8 J];exact gT _
  ·rw[H8 J,H8 J,M5 J];exact ho q E gL
  ·rw[H8 J,Ia Ab];simp[List.replicate_succ']
end rows
end
end Go.Proofs.YtgjbfhmmgeplmaaGreat
end
