/- The templates: see the main text. -/
import Derived.Test.YtgjbfhmmgeplmaaGreatTg2
import Derived.Test.YtgjbfhmmgeplmaaGreatTg3
import Derived.Test.YtgjbfhmmgeplmaaGreatTg0
import Derived.Test.YtgjbfhmmgeplmaaGreatTg1
import Derived.Test.YtgjbfhmmgeplmaaGreatSvG2
import Derived.Test.YtgjbfhmmgeplmaaGreatSvG3
import Derived.Test.YtgjbfhmmgeplmaaGreatProg
import Derived.KernelRfl
set_option linter.defProp false
noncomputable section
namespace Go.Proofs.YtgjbfhmmgeplmaaGreat
open Go.Sv
set_option linter.unusedSimpArgs false
set_option maxRecDepth 10000
def zf8:LC:=(.q [.x 1 0,.e 2] (.q [.e 3] (.seq (.q [.K 4 0] (.block 0 (.loop (.seq (.q [.m 5 4,.f 6 0 1,.l 7 6,.s 8 7,.c 9 .lss 3 5 8,.m 10 9,.y 11 10 (.loadN 3 (.t 1)),.y 12 10 (.w 9 [.t 11]),.y 13 10 (.bin .eql true 35 (.t 12) (.k 0)),.q 14 10 13] (.cond (.t 14) .skip (.exit 0))) (.seq (.block 1 (.q [.f 17 0 1,.l 18 17,.m 19 4,.I 20 3 18 19,.f 21 2 20,.l 22 21,.b 23 .eql 3 22 3] (.cond (.t 23) (.ops [.m 24 3,.m 25 4,.z 26 (.buildSl 1 1 [(.i 0)] [(0,1,.t 25)]),.a 27 1 24 26,.m 3 27]) .skip))) (.ops [.m 15 4,.b 16 .add 3 15 1,.m 4 16])))))) (.q [.m 28 3,.m 2 28] .ret))))
def r_ref19_Out:M4 Tryz.prog 21=some ⟨29,zf8.r,[.tmp 2]⟩:=Aa
def zks(vs:List Vr)(g j:List Ko)(Y:vs.length≤1000000):Qi 21 [.agg (Mt vs g j)] (.lst (Oa (Ul vs g j)) (Ul vs g j).length 1):=by
 have O:dats (Mt vs g j)=true:=Af
 refine S0.mk Dv (M2 r_ref19_Out Aa (by simp) ?_);have z:(Mt vs g j).length=3:=rfl;have A:(Mt vs g j).take 3=Mt vs g j:=rfl;have B:(Mt vs g j)[0]?=some (.lst (Nb vs) vs.length 3):=rfl;simp[zf8];refine Nm (λU gj V X=>∃(i:Nat) (v:LV),gj=[]∧X+i=vs.length∧lk U 1=.ptr 0 0∧lk U 3=v∧lk U 4=.i i∧0<V.length∧V[0]?=some (.cells (Mt vs g j) 0)∧(M3 vs g j=true∨i=0)∧Rw 1 V v 1 (On (λv=>decide (v.mode=3)) vs i).length (Oa (On (λv=>decide (v.mode=3)) vs i))) (N:=vs.length)
  ⟨0,.nilSl,rfl,J,by simp,by simp,by simp,by simp,by simp,by simp,Dp⟩ ?_
 rintro X U gj V ⟨i,v,rfl,hN,E,F,I,R,G,D,H⟩ Nx K;have Z:=x5 (λv=>decide (v.mode=3)) vs i;by_cases S:i<vs.length
 ·simp[E,F,I,S,G,z,A,Mx B];refine M5 (z76 vs g j J) (bors_self _ (by simp[dats,LV.dat,O])) ?_;cases C:M3 vs g j with
  |false =>
   rw[C]at D;have hi:i=0:=by simpa using D
   subst hi;have L:=H.bor (bc _);simp[Np,C,F,Ul];rcases H with ⟨rfl,_⟩|⟨p,k,st,_,rfl,hp,_⟩
   ·simp[Oc,bor,Oa]
   ·simpa [Oc,On,Oa] using L
  |true =>
   have T:=kj (Qa S);have gg:=S6 S;have M:=ji (λv=>decide (v.mode=3)) vs i;generalize gv vs i=x at *;by_cases hm:x.mode=3
   ·simp[Np,C,E,F,I,S,G,z,A,Mx B,Mx T,hm];simp[hm]at M;refine Rw.push (m:=1) (x:=[.i i]) H.push_end J (by simp) J rfl λv' G' P Q L=>?_
    simp[I];refine⟨J,K _ _ _ ⟨X-1,J,i+1,v',rfl,J,Aq,by simp,by simp,J,by rw[Q 0 J,Mw R];exact G,.inl C,?_⟩⟩;rw[M];simpa [Oa] using P
   ·simp[Np,C,E,F,I,S,G,z,A,Mx B,Mx T,hm];simp[hm]at M;exact⟨J,K _ _ _ ⟨X-1,J,i+1,v,rfl,J,Aq,Ch,by simp,R,G,.inl C,by rw[M];exact H⟩⟩
 ·have hi:i=vs.length:=J
  subst hi;have L:=H.bor (bc _);have hz:Ul vs g j=On (λv=>decide (v.mode=3)) vs vs.length:=by
   unfold Ul;rcases D with C|hi
   ·rw[Ih C,vu]
   ·split
    ·rw[vu]
    ·rw[hi];rfl
  rw[hz];simp[E,F,I,G,z,A,Mx B];rcases H with ⟨rfl,_⟩|⟨p,k,st,_,rfl,_,_⟩<;>exact L


def zi7:LC:=(.q [.x 1 0,.e 2] (.q [.e 3] (.seq (.q [.K 4 0] (.block 0 (.loop (.seq (.q [.m 5 4,.f 6 0 1,.l 7 6,.s 8 7,.c 9 .lss 3 5 8,.m 10 9,.y 11 10 (.loadN 3 (.t 1)),.y 12 10 (.w 9 [.t 11]),.y 13 10 (.bin .eql true 35 (.t 12) (.k 0)),.q 14 10 13] (.cond (.t 14) .skip (.exit 0))) (.seq (.block 1 (.q [.f 17 0 1,.l 18 17,.m 19 4,.I 20 3 18 19,.f 21 2 20,.l 22 21,.b 23 .eql 3 22 1,.m 24 23,.nf 25 24 0 1,.nl 26 24 25,.mn 27 24 4,.n 28 24 (.ixAddr 3 (.t 26) (.t 27)),.nf 29 24 2 28,.nl 30 24 29,.nb 31 24 .eql 3 30 2,.p 32 24 31] (.cond (.t 32) (.ops [.m 33 3,.m 34 4,.z 35 (.buildSl 1 1 [(.i 0)] [(0,1,.t 34)]),.a 36 1 33 35,.m 3 36]) .skip))) (.ops [.m 15 4,.b 16 .add 3 15 1,.m 4 16])))))) (.q [.m 37 3,.m 2 37] .ret))))
def r_ref19_In:M4 Tryz.prog 26=some ⟨38,zi7.r,[.tmp 2]⟩:=Aa
def ze8:LC:=(.q [.x 2 0,.K 4 0] (.q [.L 8 3 2,.w 9 9 8,.m 5 9] (.seq (.q [.m 10 5,.b 11 .neq 35 10 0] (.cond (.t 11) (.q [.m 12 5,.m 4 12] .ret) .skip)) (.q [.L 13 3 2,.w 14 26 13,.m 6 14] (.seq (.q [.m 15 6,.s 16 15,.m 17 1,.s 18 17,.c 19 .neq 3 16 18] (.cond (.t 19) (.q [.K 4 2] .ret) .skip)) (.seq (.q [.K 7 0] (.block 0 (.loop (.seq (.q [.m 20 7,.m 21 6,.s 22 21,.c 23 .lss 3 20 22] (.cond (.t 23) .skip (.exit 0))) (.seq (.block 1 (.seq (.draw [(.m 26 1,[]),(.m 27 7,[]),(.I 28 1 26 27,[]),(.l 29 28,[]),(.f 32 0 2,[]),(.l 33 32,[]),(.m 34 6,[]),(.m 35 7,[]),(.I 36 1 34 35,[]),(.l 37 36,[]),(.I 38 3 33 37,[]),(.f 39 0 38,[]),(.l 40 39,[]),(.w 30 63 29,[(.l 40 39,false),(.l 37 36,false),(.l 33 32,false)]),(.s 31 30,[]),(.c 41 .gtr 3 31 40,[])]) (.cond (.t 41) (.q [.K 4 3] .ret) .skip))) (.ops [.m 24 7,.b 25 .add 3 24 1,.m 7 25])))))) (.q [.K 4 0] .ret)))))))
def r_ref20_Fits:M4 Tryz.prog 19=some ⟨42,ze8.r,[.tmp 4]⟩:=Aa
def wu(vs:List Vr)(g j:List Ko)(gj:vs.length≤1000000):Qi 26 [.agg (Mt vs g j)] (.lst (Oa (U0 vs g j)) (U0 vs g j).length 1):=by
 have T:dats (Mt vs g j)=true:=Af
 refine S0.mk Dv (M2 r_ref19_In Aa (by simp) ?_);have z:(Mt vs g j).length=3:=rfl;have A:(Mt vs g j).take 3=Mt vs g j:=rfl;have B:(Mt vs g j)[0]?=some (.lst (Nb vs) vs.length 3):=rfl;simp[zi7];refine Nm (λρ gD gg Z=>∃(i:Nat) (v:LV),gD=[]∧Z+i=vs.length∧lk ρ 1=.ptr 0 0∧lk ρ 3=v∧lk ρ 4=.i i∧0<gg.length∧gg[0]?=some (.cells (Mt vs g j) 0)∧(M3 vs g j=true∨i=0)∧Rw 1 gg v 1 (On Ny vs i).length (Oa (On Ny vs i))) (N:=vs.length)
  ⟨0,.nilSl,rfl,J,by simp,by simp,by simp,by simp,by simp,by simp,Dp⟩ ?_
 rintro Z ρ gD gg ⟨i,v,rfl,hN,H,K,L,U,I,M,O⟩ Nx P;have gB:=x5 Ny vs i;by_cases Y:i<vs.length
 ·simp[H,K,L,Y,I,z,A,Mx B];refine M5 (z76 vs g j J) (bors_self _ (by simp[dats,LV.dat,T])) ?_;cases D:M3 vs g j with
  |false =>
   rw[D]at M;have hi:i=0:=Eu
   subst hi;have S:=O.bor (bc _);simp[Np,D,K,U0];rcases O with ⟨rfl,_⟩|⟨p,k,st,_,rfl,hp,_⟩
   ·simp[Oc,bor,Oa]
   ·simpa [Oc,On,Oa] using S
  |true =>
   have V:=kj (Qa Y);have gC:=S6 Y;have E:=ji Ny vs i;generalize gv vs i=x at *;have push:∀ρ',Ny x=true→lk ρ' 1=.ptr 0 0→lk ρ' 4=.i i→True:=λ_ _ _ _=>trivial
   clear push;by_cases F:x.mode=1
   ·have C:Ny x=true:=by simp[Ny,F]
    simp[Np,D,H,K,L,Y,I,z,A,Mx B,Mx V,F];rw[C]at E;simp at E;refine Rw.push (m:=1) (x:=[.i i]) O.push_end J (by simp) J rfl λX G' Q R S=>?_
    simp[L];refine⟨J,P _ _ _ ⟨Z-1,J,i+1,X,rfl,J,Ay,by simp,by simp,J,by rw[R 0 J,Mw U];exact I,.inl D,?_⟩⟩;rw[E];simpa [Oa] using Q
   by_cases G:x.mode=2
   ·have C:Ny x=true:=by simp[Ny,G]
    simp[Np,D,H,K,L,Y,I,z,A,Mx B,Mx V,G];rw[C]at E;simp at E;refine Rw.push (m:=1) (x:=[.i i]) O.push_end J (by simp) J rfl λX G' Q R S=>?_
    simp[L];refine⟨J,P _ _ _ ⟨Z-1,J,i+1,X,rfl,J,Ay,by simp,by simp,J,by rw[R 0 J,Mw U];exact I,.inl D,?_⟩⟩;rw[E];simpa [Oa] using Q
   ·have C:Ny x=false:=by simp[Ny,F,G]
    simp[Np,D,H,K,L,Y,I,z,A,Mx B,Mx V,F,G];rw[C]at E;simp at E;exact⟨J,P _ _ _ ⟨Z-1,J,i+1,v,rfl,J,Ay,Bc,by simp,U,I,.inl D,by rw[E];exact O⟩⟩
 ·have hi:i=vs.length:=J
  subst hi;have S:=O.bor (bc _);have hz:U0 vs g j=On Ny vs vs.length:=by
   unfold U0;rcases M with D|hi
   ·rw[Ih D,iw]
   ·split
    ·rw[iw]
    ·rw[hi];rfl
  rw[hz];simp[H,K,L,I,z,A,Mx B];rcases O with ⟨rfl,_⟩|⟨p,k,st,_,rfl,_,_⟩<;>exact S
def Yn(vs:List Vr)(B C:List Ko)(g:List (List UInt64))(Y:vs.length≤1000000)(hi:∀x∈g,x.length≤1000) :
  M0 19 [.agg (Mt vs B C),LN g] (.i (Pu vs B C (g.map val))) []:=by
 have I:dats (Mt vs B C)=true:=Af
 refine Nf.val rfl (M2 r_ref20_Fits Aa (by simp) ?_);have K:(Mt vs B C).length=3:=rfl;have L:(Mt vs B C).take 3=Mt vs B C:=rfl;simp[ze8,K,L];refine M5 (z76 vs B C J) (bors_self _ Er) ?_;cases E:M3 vs B C with
 |false=>simp[Np,E,Pu]
 |true =>
 simp[Np,E,K,L];refine Rj (wu vs B C Y) Er ?_;have hz:U0 vs B C=Sv.inV vs:=by simp[U0,E]
 have hv:Ps vs=true:=by unfold M3 at E;simp only[H7]at E;exact E.1
 have gD:vs.length≤256:=(ks hv).2;have gE:=inV_len vs;rw[hz];by_cases M:(Sv.inV vs).length=g.length
 case neg =>
  have H:¬((Sv.inV vs).length:Int)=g.length:=J
  simp[LN,M,H,Pu,E]
 have H:(Sv.inV vs).length=(g.map val).length:=Eu
 have G:=zcy H;simp[LN,M];refine Nm (λρ gG gF N=>∃i:Nat,gG=[]∧N+i=g.length∧lk ρ 1=.lst (g.map LU) g.length 1∧lk ρ 2=.ptr 0 0∧lk ρ 6=.lst (Oa (Sv.inV vs)) g.length 1∧lk ρ 7=.i i∧0<gF.length∧gF[0]?=some (.cells (Mt vs B C) 0)∧∀R,R<i→(g.map val).getD R 0<Y8 (gv vs ((Sv.inV vs).getD R 0)).limbs) (N:=g.length)
  ⟨0,rfl,J,by simp,by simp,by simp,by simp,by simp,Cu,λR Z=>J⟩ ?_
 rintro N ρ gG gF ⟨i,rfl,hN,S,T,O,U,hl,V,hb⟩ Nx gg;by_cases gC:i<g.length
 ·have gj:=Tq hi i;have P:(g.map val).getD i 0=val (g.getD i []):=zkh;have X:=qv (l:=Sv.inV vs) (j:=i) J;have A:=Ww (vs:=vs) (j:=i) J;have F:(g.map val).getD i 0<Y8 (gv vs ((Sv.inV vs).getD i 0)).limbs↔((Ow (val (g.getD i []))).length:Int)≤(gv vs ((Sv.inV vs).getD i 0)).limbs:=by
   rw[P];have:=(Wd hv _ (X9 A)).1;exact (zjs _ _ J).symm
  obtain⟨u,hu⟩:∃u,(Sv.inV vs).getD i 0=u:=⟨_,rfl⟩;obtain⟨x,Q⟩:∃x,g.getD i []=x:=⟨_,rfl⟩;rw[hu]at X A F;rw[Q]at gj P F;have gB:g[i]=x:=by rw[←Q];simp[gC]
  have q0:=bn (Qa A);simp[S,T,O,U,gC,V,Mt,Mx X,A,Mx q0];refine M5 (zcs x J) (by simp[gB]) ?_;by_cases D:((Ow (val x)).length:Int)≤(gv vs u).limbs
  ·have z:¬(gv vs u).limbs<((Ow (val x)).length:Int):=J
   simp[RU,S,T,O,U,V,Mt,Mx q0,Mx X,gC,A,z];refine⟨J,gg _ _ _ ⟨N-1,J,i+1,rfl,J,by simp[S],by simp[T],B3,by simp,hl,V,λR Z=>?_⟩⟩;by_cases e:R=i
   ·subst e;rw[hu];exact F.2 D
   ·exact hb R J
  ·have z:(gv vs u).limbs<((Ow (val x)).length:Int):=J
   have hf:dv vs (g.map val)=false:=by
    rw[Bool.eq_false_iff];intro h;have:=G.1 h i Eb;rw[hu]at this;exact D (F.1 this)
   simp[RU,S,T,O,U,V,Mt,Mx q0,Mx X,gC,A,z,Pu,E,M,hf]
 ·have hf:dv vs (g.map val)=true:=G.2 λR Z=>hb R (by simp at Z;omega)
  simp[O,U,gC,Pu,E,M,hf]
section
section emit
variable {G : Mu} {K : LV → Mu → Prop} {e : Nat} {ops : List Lo} {deep : Int}
end emit
end

section
section put
variable {G : Mu} {K : LV → Mu → Prop} {e P st : Nat} {ops : List Lo} {deep R : Int} {d a b n t : Pc}
end put
end
section
section put
variable {G : Mu} {K : LV → Mu → Prop} {e P st : Nat} {ops : List Lo} {deep R : Int} {d a b n t : Pc}
end put
end
section
section put
variable {G : Mu} {K : LV → Mu → Prop} {e P st : Nat} {ops : List Lo} {deep R : Int} {d a b n t : Pc}
end put
end



section
def evC(l:List (Int×Int)):List LV:=l.flatMap λe=>[.i e.1,.i e.2]
structure MsH (G:Mu) (x pr pb kb:Nat) (qs:List Nat) (b:Nat) (regs:Int) (bs:List Bf) (os:List Lo) (L:LV) (s:Ms):Prop where
 xc:∃st,G[x]?=some (.cells [.i regs,.lst (Ok bs) bs.length 3,.lst (loC os) os.length 8,.dy pr 0,.dy pb kb,L] st)
 rr:∃st,G[pr]?=some (.dyn (s.r.map .u) s.r.length 1 0 st)
 bb:∃st,G[pb]?=some (.dyn (qs.map λq=>.dy q 0) qs.length 1 kb st)
 row:∀j,j<qs.length→∃st,G[qs.getD j 0]?=some (.dyn ((s.bufs.getD j []).map .u) (s.bufs.getD j []).length 1 0 st)
 bl:s.bufs.length=qs.length
 lt:x<b∧pr<b∧pb<b∧x≠pr∧x≠pb∧pr≠pb
 qlt:∀q∈qs,q<b∧q≠x∧q≠pr∧q≠pb
 nd:qs.Nodup
 ev:Nt b G L 2 s.l.length (evC s.l)
 bG:b≤G.length
section msh
variable {G G' : Mu} {x pr pb kb : Nat} {qs : List Nat} {b : Nat} {regs : Int} {bs : List Bf} {os : List Lo} {L : LV} {s : Ms}
end msh
end


def zir:LC:=(.q [.e 4] (.q [.m 7 1,.z 8 (.mkSl 1 [(.u 0)] (.t 7) (.t 7)),.m 5 8] (.seq (.q [.K 6 0] (.block 0 (.loop (.seq (.q [.m 9 6,.m 10 1,.c 11 .lss 3 9 10,.m 12 11,.my 13 12 0,.y 14 12 (.lenSl (.t 13)),.y 15 12 (.bin .gtr true 3 (.t 14) (.k 0)),.q 16 12 15] (.cond (.t 16) .skip (.exit 0))) (.seq (.block 1 (.draw [(.m 19 5,[]),(.m 20 6,[]),(.m 21 0,[]),(.m 22 6,[]),(.m 23 0,[]),(.s 24 23,[]),(.c 25 .rem 3 22 24,[]),(.I 26 1 21 25,[]),(.l 27 26,[]),(.m 28 6,[]),(.m 29 0,[]),(.s 30 29,[]),(.c 31 .quo 3 28 30,[]),(.b 32 .mul 3 31 2,[]),(.z 33 (.bin .add true 3 (.k 1) (.t 32)),[]),(.z 34 (.cvInt .u64 (.t 33)),[]),(.c 35 .mul 43 27 34,[]),(.m 36 6,[]),(.m 37 0,[]),(.s 38 37,[]),(.c 39 .quo 3 36 38,[]),(.z 40 (.cvInt .u64 (.t 39)),[]),(.c 41 .add 43 35 40,[]),(.I 42 1 19 20,[]),(.S 1 42 41,[])])) (.ops [.m 17 6,.b 18 .add 3 17 1,.m 6 18])))))) (.q [.m 43 5,.m 4 43] .ret))))
def r_kit_Fill:M4 Tryz.prog 25=some ⟨44,zir.r,[.tmp 4]⟩:=Aa

def z8b:LC:=(.q [.e 4,.K 5 0] (.seq (.q [.m 6 1,.b 7 .lss 3 6 0,.m 8 7,.mn 9 8 1,.nb 10 8 .gtr 3 9 512,.p 11 8 10] (.cond (.t 11) (.q [.e 4,.K 5 2] .ret) .skip)) (.q [.m 12 0,.w 13 63 12,.m 0 13] (.seq (.q [.m 14 0,.s 15 14,.m 16 1,.c 17 .gtr 3 15 16] (.cond (.t 17) (.q [.e 4,.K 5 3] .ret) .skip)) (.q [.m 18 0,.m 19 1,.m 20 0,.s 21 20,.c 22 .sub 3 19 21,.z 23 (.appZ 1 [(.u 0)] (.t 18) (.t 22)),.m 4 23,.K 5 0] .ret)))))
def r_ref02_Fit:M4 Tryz.prog 22=some ⟨24,z8b.r,[.tmp 4,.tmp 5]⟩:=Aa
def zle(a:List UInt64)(n:Int)(A:a.length≤1000000):M0 22 [LU a,.i n] (.tup [.dy 0 0,.i (Nz a n)]) [RU (Nr a n)]:=by
 refine Nf.rowE (M2 r_ref02_Fit Aa N ?_);have B:=wm a;by_cases g:n<0
 ·have e:Nz a n=2:=Ih (.inl g);simp[z8b,g,e,Nr,W6]
 ·by_cases z:512<n
  ·have e:Nz a n=2:=Ih (.inr z);simp[z8b,g,z,e,Nr,W6]
  ·simp[z8b,g,z];refine zli (zcs a J) N ?_;by_cases j:n<(Ow (val a)).length
   ·have e:Nz a n=3:=by unfold Nz;rw[Ig J,Ih j]
    simp[RU,j,e,Nr,W6]
   ·have e:Nz a n=0:=by unfold Nz;rw[Ig J,Ig j]
    simp[RU,j,e,Nr];refine⟨J,λC=>⟨J,J,J,J,.inr ⟨0,1,1,rfl,?_⟩⟩⟩;rw[yu];simp
def ox{a:List UInt64}{n:Int}(h:Nz a n=0):val (Nr a n)=val a:=by
 unfold Nr;rw[Ih h,val_append,val_rep0,tq,Nat.mul_zero,La]
section
set_option linter.unusedVariables false
def z6f:LC:=(.q [.x 4 0,.F 8] (.seq (.q [.z 22 (.w 15 []),.z 23 (.un .not (.t 22))] (.cond (.t 23) (.q [.F 8] .ret) .skip)) (.seq (.q [.L 24 3 4,.z 25 (.w 16 [.t 24,.k 20,.k 30,.k 40]),.z 26 (.un .not (.t 25)),.m 27 26,.mn 28 27 1,.n 29 27 (.w 17 [.t 28,.k 20,.k 30]),.n 30 27 (.un .not (.t 29)),.p 31 27 30,.m 32 31,.mn 33 32 3,.n 34 32 (.w 17 [.t 33,.k 20,.k 30]),.n 35 32 (.un .not (.t 34)),.p 36 32 35] (.cond (.t 36) (.q [.z 8 (.move .T)] .ret) .skip)) (.q [.L 38 3 4,.w 39 8 38,.m 37 39,.X 40 0 37,.X 41 1 37,.z 9 (.alloc [.nilSl,.nilSl,(.i 0),(.i 0),(.i 0),(.i 0),(.i 0),(.i 0)]),.S 8 9 40,.m 10 41] (.seq (.q [.m 42 10,.b 43 .neq 35 42 0] (.cond (.t 43) (.q [.z 8 (.move .T)] .ret) .skip)) (.q [.L 45 3 4,.L 46 8 9,.m 47 1,.m 48 2,.z 49 (.w 18 [.t 45,.t 46,.t 47,.t 48]),.m 44 49,.X 50 0 44,.X 51 1 44,.m 11 50,.m 12 51] (.seq (.q [.m 52 12,.b 53 .neq 35 52 0] (.cond (.t 53) (.q [.m 54 12,.L 55 3 4,.m 56 1,.W 57 19 55 56,.c 58 .eql 35 54 57,.m 59 58,.my 60 59 11,.y 61 59 (.lenSl (.t 60)),.y 62 59 (.bin .eql true 3 (.t 61) (.k 0)),.q 63 59 62,.m 8 63] .ret) .skip)) (.seq (.q [.m 64 11,.s 65 64,.f 66 0 9,.l 67 66,.s 68 67,.c 69 .neq 3 65 68,.m 70 69,.n 71 70 (.loadN 8 (.t 9)),.mn 72 70 11,.n 73 70 (.w 20 [.t 71,.t 72]),.n 74 70 (.un .not (.t 73)),.p 75 70 74] (.cond (.t 75) (.q [.F 8] .ret) .skip)) (.q [.L 76 3 4,.w 77 21 76,.m 13 77] (.seq (.q [.K 14 0] (.block 0 (.loop (.seq (.q [.m 78 14,.m 79 13,.s 80 79,.c 81 .lss 3 78 80,.m 82 81,.my 83 82 14,.my 84 82 3,.y 85 82 (.lenSl (.t 84)),.y 86 82 (.bin .lss false 3 (.t 83) (.t 85)),.q 87 82 86] (.cond (.t 87) .skip (.exit 0))) (.seq (.block 1 (.seq (.draw [(.m 91 3,[]),(.m 92 14,[]),(.I 93 1 91 92,[]),(.l 94 93,[]),(.f 95 0 4,[]),(.l 96 95,[]),(.m 97 13,[]),(.m 98 14,[]),(.I 99 1 97 98,[]),(.l 100 99,[]),(.I 101 3 96 100,[]),(.f 102 0 101,[]),(.l 103 102,[]),(.W 104 22 94 103,[]),(.m 90 104,[]),(.X 105 0 90,[]),(.X 106 1 90,[]),(.m 15 105,[]),(.m 16 106,[])]) (.seq (.q [.m 107 16,.b 108 .neq 35 107 0] (.cond (.t 108) (.q [.z 8 (.move .T)] .ret) .skip)) (.draw [(.m 109 11,[]),(.f 110 1 9,[]),(.l 111 110,[]),(.m 112 13,[]),(.m 113 14,[]),(.I 114 1 112 113,[]),(.l 115 114,[]),(.I 116 3 111 115,[]),(.f 117 0 116,[]),(.l 118 117,[]),(.m 119 15,[]),(.I 120 1 109 118,[]),(.S 1 120 119,[])])))) (.ops [.m 88 14,.b 89 .add 3 88 1,.m 14 89])))))) (.q [.L 122 3 4,.L 123 8 9,.m 124 11,.V 125 23 122 123 124,.m 121 125,.X 126 0 121,.X 127 1 121,.m 17 126,.m 18 127] (.seq (.q [.m 128 18,.b 129 .neq 35 128 0,.m 130 129,.mn 131 130 17,.n 132 130 (.lenSl (.t 131)),.mn 133 130 13,.n 134 130 (.lenSl (.t 133)),.n 135 130 (.bin .neq false 3 (.t 132) (.t 134)),.p 136 130 135] (.cond (.t 136) (.q [.F 8] .ret) .skip)) (.seq (.q [.K 19 0] (.block 2 (.loop (.seq (.q [.m 137 19,.m 138 17,.s 139 138,.c 140 .lss 3 137 139] (.cond (.t 140) .skip (.exit 2))) (.seq (.block 3 (.seq (.draw [(.m 143 19,[]),(.m 144 3,[]),(.s 145 144,[]),(.c 146 .lss 3 143 145,[]),(.m 147 146,[]),(.my 148 147 17,[]),(.my 149 147 19,[]),(.y 150 147 (.ixAddr 1 (.t 148) (.t 149)),[]),(.yl 151 147 150,[]),(.my 152 147 3,[]),(.my 153 147 19,[]),(.y 154 147 (.ixAddr 1 (.t 152) (.t 153)),[]),(.yl 155 147 154,[]),(.y 156 147 (.w 24 [.t 151,.t 155]),[]),(.y 157 147 (.un .not (.t 156)),[]),(.q 158 147 157,[]),(.m 159 158,[]),(.mn 160 159 19,[]),(.mn 161 159 3,[]),(.n 162 159 (.lenSl (.t 161)),[]),(.n 163 159 (.bin .geq false 3 (.t 160) (.t 162)),[]),(.mn 164 159 163,[]),(.my 165 164 17,[]),(.my 166 164 19,[]),(.y 167 164 (.ixAddr 1 (.t 165) (.t 166)),[]),(.yl 168 164 167,[]),(.y 169 164 (.buildSl 1 0 [] []),[(.yl 168 164 167,false)]),(.y 170 164 (.w 25 [.t 169,.k 0]),[(.yl 168 164 167,false)]),(.y 171 164 (.w 24 [.t 168,.t 170]),[]),(.y 172 164 (.un .not (.t 171)),[]),(.n 173 159 (.pick (.t 164) (.t 172) .F),[]),(.mn 174 159 173,[]),(.my 175 174 2,[]),(.y 176 174 (.bin .eql true 43 (.t 175) (.c (.u 0))),[]),(.n 177 159 (.pick (.t 174) (.t 176) .F),[]),(.p 178 159 177,[])]) (.cond (.t 178) (.q [.F 8] .ret) .skip))) (.ops [.m 141 19,.b 142 .add 3 141 1,.m 19 142])))))) (.q [.L 179 3 4,.w 180 26 179,.m 20 180] (.seq (.q [.K 21 0] (.block 4 (.loop (.seq (.q [.m 181 21,.m 182 20,.s 183 182,.c 184 .lss 3 181 183] (.cond (.t 184) .skip (.exit 4))) (.seq (.block 5 (.seq (.draw [(.m 187 11,[]),(.f 188 1 9,[]),(.l 189 188,[]),(.m 190 20,[]),(.m 191 21,[]),(.I 192 1 190 191,[]),(.l 193 192,[]),(.I 194 3 189 193,[]),(.f 195 0 194,[]),(.l 196 195,[]),(.I 197 1 187 196,[]),(.l 198 197,[]),(.m 199 1,[]),(.m 200 21,[]),(.I 201 1 199 200,[]),(.l 202 201,[]),(.W 203 24 198 202,[]),(.z 204 (.un .not (.t 203)),[])]) (.cond (.t 204) (.q [.F 8] .ret) .skip))) (.ops [.m 185 21,.b 186 .add 3 185 1,.m 21 186])))))) (.q [.z 8 (.move .T)] .ret))))))))))))))))
def r_law27_MarshalRows:M4 Tryz.prog 4=some ⟨205,z6f.r,[.tmp 8]⟩:=Aa
def kit_Fill_nil:M0 25 [LU [],.i 0] (.dy 0 0) [RU []]:=by
 refine Nf.row (M2 r_kit_Fill Aa (by simp) ?_);simp[zir];refine Nm (λg D E F=>D=[]∧lk g 1=.i 0∧lk g 5=.dy 0 0∧lk g 6=.i 0∧E[0]?=some (.dyn [] 0 1 0 0)) (N:=0) ⟨rfl,by simp,by simp,by simp,by simp[Na]⟩ ?_;rintro F g D E ⟨rfl,j,z,A,B⟩ G C;simp[j,z,A];exact .inr ⟨0,0,0,rfl,B⟩
def zv0(vs:List Vr)(g j:List Ko):Bool:=vs.all (λv=>decide (v.limbs≤30))&&(decide ((vs.length:Int)≤20)&&(decide ((g.length:Int)≤40)&&decide ((j.length:Int)≤40)))
def uy(l:List (List UInt64)):Bool:=decide (l.length≤(20:Int)∧∀x∈l,(x.length:Int)≤30)
def Q0(vs:List Vr)(g:UInt64)(A z:List (List UInt64))(i j:Nat):List UInt64 :=
 if (gv vs j).mode=3∧(On (λv=>decide (v.mode=3)) vs j).length<i then Nr (z.getD (On (λv=>decide (v.mode=3)) vs j).length []) (gv vs j).limbs else Qw vs g A j
def z90(vs:List Vr)(os rs:List Ko)(A:List (List UInt64))(C:UInt64)(g:List (List UInt64))(zD:vs.length≤9223372036854775807)(_:os.length≤9223372036854775807)(_:rs.length≤9223372036854775807)(hn:A.length≤9223372036854775807)(ho:g.length≤9223372036854775807) :
  O0 (.fn 4) [.agg (Mt vs os rs),LN A,.u C,LN g] [] λv _=>v=.bool true:=by
 have gX:dats (Mt vs os rs)=true:=Af
 have gH:(Mt vs os rs).length=3:=rfl;have gI:(Mt vs os rs).take 3=Mt vs os rs:=rfl;have zE:∀{gG:Mu},bors gG [.agg (Mt vs os rs),.i 20,.i 30,.i 40] [.agg (Mt vs os rs),.i 20,.i 30,.i 40]:=bors_self _ Bq;refine M2 r_law27_MarshalRows Aa (by simp) ?_;simp[z6f];refine M5 law27_lives_ok (by simp) ?_;simp[gH,gI];have j5:M0 16 [.agg (Mt vs os rs),.i 20,.i 30,.i 40] (.bool (zv0 vs os rs)) []:=zkp vs os rs 20 30 40 zD;have j6:M0 17 [LN A,.i 20,.i 30] (.bool (uy A)) []:=z8q A 20 30 hn;have j7:M0 17 [LN g,.i 20,.i 30] (.bool (uy g)) []:=z8q g 20 30 ho;refine M5 j5 zE ?_;cases e1:zv0 vs os rs with
 |false=>simp
 |true =>
 simp;refine M5 j6 (bors_self _ (by simp[dats,LV.dat,LN,wt])) ?_;cases e2:uy A with
 |false=>simp
 |true =>
 simp;refine M5 j7 (bors_self _ (by simp[dats,LV.dat,LN,wt])) ?_;cases e3:uy g with
 |false=>simp
 |true =>
 have zG:vs.length≤20:=by simp only[zv0,H7,Ii]at e1;omega
 have jz:A.length≤20∧∀x∈A,x.length≤30:=by
  simp only[uy,Ii]at e2;exact⟨J,λx hx=>by have:=e2.2 x hx;omega⟩
 have jL:g.length≤20∧∀x∈g,x.length≤30:=by
  simp only[uy,Ii]at e3;exact⟨J,λx hx=>by have:=e3.2 x hx;omega⟩
 clear j5 j6 j7 e1 e2 e3;simp[gH,gI];refine et (zef vs os rs zG) Bq ?_;rintro v0 ⟨M,ps,w0,w1,e,rfl,⟨he,rfl,rfl,rfl,rfl⟩|⟨rfl,hc,j8,zH⟩⟩ zU
 ·simp[Nc,he]
 have hv:Ps vs=true:=Ce
 obtain⟨H,f,hM⟩:=zH.facts hv;have jM:(Nc M ps w0 w1).length=8:=rfl;have jO:(Nc M ps w0 w1).take 8=Nc M ps w0 w1:=rfl;have gj:Nc M ps w0 w1=[.lst (Ok M) M.length 3,.lst (N0 ps) ps.length 3,.i w0.buf,.i w0.at_,.i w0.size,.i w1.buf,.i w1.at_,.i w1.size]:=rfl;have zX:=hM.bl;have zY:=hM.bb;simp[gj];rw[←gj];simp[gH,gI,jM,jO];have zI:Ul vs os rs=Sv.outV vs:=by simp[Ul,hc]
 have jG:U0 vs os rs=Sv.inV vs:=by simp[U0,hc]
 refine zeg J hc j8 hM (λx hx=>by have:=jz.2 x hx;omega) J (λhf G' zZ zK=>?_) λgP G1 q D st T hR hq z jK jP=>?_
 ·have a0:=zK 0 (by simp);simp at a0;simp[hf,a0,gH,gI];refine M5 (Yn vs os rs A J (λx hx=>by have:=jz.2 x hx;omega)) (bors_self _ (by simp[dats,LV.dat,gX,LN,wt])) ?_;simp
 obtain⟨R1,R2,R3⟩:=hR;have gB:T.length=M.length:=J
 have U:=jP 0 (by simp);have E:=jP 1 (by simp);simp at U E hq jK;have gZ:∀i,i<vs.length→1≤(gv vs i).limbs∧(gv vs i).limbs≤512∧0≤(gv vs i).mode∧(gv vs i).mode≤3:=λi hi=>Wd hv _ (X9 hi)
 have j9:(Sv.inV vs).length=A.length:=by
  unfold Pu at gP;rw[Ih hc]at gP;split at gP
  ·rename_i h;simpa using h
  ·omega
 have gR:∀j,j<A.length→val (A.getD j [])<Y8 (gv vs ((Sv.inV vs).getD j 0)).limbs:=by
  have h2:dv vs (A.map val)=true:=by
   unfold Pu at gP;rw[Ih hc,Ih (by simpa using j9)]at gP;split at gP
   ·assumption
   ·omega
  have:=(zcy (ns:=A.map val) (by simpa using j9)).1 h2;intro j hj;have:=this j (by simpa using hj)
  rwa [zkh]at this
 have gO:∀x∈T,x.length≤1000000:=λx hx=>by
  obtain⟨j,hj⟩:=I3.1 hx;have jQ:=(H5.1 hj).1;have e:T.getD j []=x:=by rw[H9,hj];rfl
  by_cases jA:j<H
  ·rw[R2 j jA]at e;obtain⟨v1,v2,v3,v4⟩:=gZ j J;rw[←e];unfold Qw;split
   ·simp;omega
   ·by_cases hz:Nz (A.getD (On Ny vs j).length []) (gv vs j).limbs=0
    ·have:=zbg hz;omega
    ·unfold Nr;rw[Ig hz];simp
  ·rw[R3 j J]at e;rw[←e];simp
 simp[z,U,E,gj];rw[←gj];have zg:kn M T=true:=by
  simp only[kn,gB,decide_true,Kf,I9];intro j hj;have hj:=Jk.1 hj;by_cases jA:j<H
  ·have hk:=hM.parb j jA;have:(Of M j).kind≠3:=by
    rw[hk];unfold P8;dsimp only;split<;>decide
   simp[this]
  ·rw[R3 j J];simp
 refine M5 (zck M ps w0 w1 T J gO) ⟨_,_,rfl,⟨_,rfl,bors_self _ (fe _ _ _ _)⟩,⟨_,_,rfl,⟨T.map LU,M.length,1,st,by rw[LN,gB],z,wt _⟩,rfl⟩⟩ ?_;simp[zg,U,gH,gI];refine Rj (zks vs os rs J) Bq ?_;rw[zI];simp;have jR:∀i,i<(Sv.outV vs).length→(Sv.outV vs).getD i 0<vs.length∧(gv vs ((Sv.outV vs).getD i 0)).mode=3∧(On (λv=>decide (v.mode=3)) vs ((Sv.outV vs).getD i 0)).length=i:=λi hi=>by
  obtain⟨a,b,c⟩:=those_rank (p:=λv=>decide (v.mode=3)) (vs:=vs) vs.length i hi;exact⟨a,Ku b,c⟩
 have zL:∀j,j<vs.length→(gv vs j).mode=3→(Sv.outV vs).getD (On (λv=>decide (v.mode=3)) vs j).length 0=j∧(On (λv=>decide (v.mode=3)) vs j).length<(Sv.outV vs).length:=λj hj h3=>by
  obtain⟨a,b⟩:=those_at (p:=λv=>decide (v.mode=3)) (vs:=vs) vs.length j hj (by simpa using h3);exact⟨b,a⟩
 have zj:∀i,i<(Sv.outV vs).length→(Sv.outV vs).getD i 0<H:=λi hi=>by
  obtain⟨a,b,_⟩:=jR i hi;have:=hM.mode _ a;have:¬H≤(Sv.outV vs).getD i 0:=λq=>by have:=this.2 q;omega
  omega
 have jD:∀j,j<H→(N0 ps)[j*3]?=some (.i (j:Int)):=λj hj=>by
  have c0:=U5 Pc.f_len (Wm (l:=ps) (n:=j) (by rw[hM.pl];omega)) (j:=0) J;rw[hM.par j hj]at c0;simpa [N0,Pc.f] using c0
 refine Nm (λO jC gG N=>∃(i st:Nat) (L':List (List UInt64)),jC=[]∧N+i=min (Sv.outV vs).length g.length∧lk O 1=LN A∧lk O 2=.u C∧lk O 3=LN g∧lk O 4=.ptr 0 0∧lk O 9=.ptr 1 0∧lk O 11=.dy q D∧lk O 13=.lst (Oa (Sv.outV vs)) (Sv.outV vs).length 1∧lk O 14=.i i ∧
   gG[0]?=some (.cells (Mt vs os rs) 0)∧gG[1]?=some (.cells (Nc M ps w0 w1) 1)∧gG[q]?=some (.dyn (L'.map LU) M.length 1 D st)∧L'.length=M.length∧(∀j,j<H→L'.getD j []=Q0 vs C A g i j)∧(∀j,H≤j→L'.getD j []=[])∧(∀t,t<i→Nz (g.getD t []) (gv vs ((Sv.outV vs).getD t 0)).limbs=0))
  (N:=min (Sv.outV vs).length g.length) ⟨0,st,T,rfl,J,by simp[LN],by simp,by simp[LN],by simp,by simp,by simp,by simp,by simp,U,E,z,gB,λj hj=>by rw[R2 j hj];unfold Q0;rw[Ig J],R3,λt ht=>J⟩ ?_
 clear z U E jP jK gO zg R1 R2 R3 gB T st G1;rintro N O jC gG ⟨i,st,T,rfl,hN,I,h2,h3,h4,G,B,gF,gY,U,E,z,gB,R2,R3,jH⟩ Nx P;by_cases gA:i<(Sv.outV vs).length∧i<g.length
 ·obtain⟨ga,gb⟩:=gA;obtain⟨o1,o2,o3⟩:=jR i ga;have o4:=zj i ga;have qo:=qv (l:=Sv.outV vs) (j:=i) ga;have ql:=bn (Qa o1);have z6:=S6 o1;have zM:∀j,j≠(Sv.outV vs).getD i 0→Q0 vs C A g (i+1) j=Q0 vs C A g i j:=λj hj=>by
   unfold Q0;by_cases h:(gv vs j).mode=3
   ·have jQ:j<vs.length:=by
     refine Decidable.byContradiction λhn=>?_
     have:gv vs j=⟨0,false,0⟩:=by unfold gv;rw[H9,Kk J];rfl
     rw[this]at h;cases h
    have:=zL j jQ h;have z7:(On (λv=>decide (v.mode=3)) vs j).length≠i:=λe=>hj (by rw[←e];exact this.1.symm)
    by_cases q:(gv vs j).mode=3∧(On (λv=>decide (v.mode=3)) vs j).length<i
    ·rw[Ih q,Ih ⟨q.1,J⟩]
    ·rw[Ig q,Ig (λq2=>q ⟨q2.1,J⟩)]
   ·rw[Ig (λq=>h q.1),Ig (λq=>h q.1)]
  have zO:Q0 vs C A g (i+1) ((Sv.outV vs).getD i 0)=Nr (g.getD i []) (gv vs ((Sv.outV vs).getD i 0)).limbs:=by
   unfold Q0;rw[Ih ⟨o2,J⟩,o3]
  have jB:=Tq jL.2 i;have ex:(g.map LU)[i]?=some (LU (g.getD i [])):=Rm (f:=LU) (by rw[H9,H8 gb];rfl);have hx : g[i]'gb = g.getD i [] := by rw [H9, H8 gb];rfl
  have zz:Nz (g.getD i []) (gv vs ((Sv.outV vs).getD i 0)).limbs=0→∀t,t<i+1→Nz (g.getD t []) (gv vs ((Sv.outV vs).getD t 0)).limbs=0:=λh t ht=>by
   by_cases e:t=i
   ·rw[e];exact h
   ·exact jH t J
  have gS:=jD _ o4;generalize (Sv.outV vs).getD i 0=o at *;have gC:o<M.length:=J
  have gD:o<ps.length:=by rw[hM.pl];exact o1
  have jI:=T6 gD;have gE:o*3<(N0 ps).length:=J
  have zA:o*3<(Nb vs).length:=J
  generalize g.getD i []=x at *;simp[h3,h4,gF,gY,ga,gb,LN,hx,Mx qo,o1,Mx ql,U,Mt,zA];refine M5 (zle x (gv vs o).limbs J) (bors_self _ Au) ?_;rw[show frV [RU (Nr x (gv vs o).limbs)] (.tup [.dy 0 0,.i (Nz x (gv vs o).limbs)])=.tup [LU (Nr x (gv vs o).limbs),.i (Nz x (gv vs o).limbs)] from rfl];generalize Nr x (gv vs o).limbs=zV at *;by_cases hz:Nz x (gv vs o).limbs=0
  case neg=>simp[hz]
  have zB:=zz hz;have zC:Nh (T.map LU) o [LV.lst (zV.map LV.u) zV.length 1]=(T.set o zV).map LU:=tl LU T o zV J;simp[hz,G,B,gF,gY,ga,LN,Mx qo,E,gj,gD,Mx gS,gE,z,gC,gB];rw[zC]
  repeat (refine⟨J,?_⟩)
  have lq:=(H5.1 z).1;refine P _ _ _ ⟨N-1,J,i+1,st+1,T.set o zV,rfl,J,Ax,Bm,B8,By,As,Al,by simp[gF],by simp,by rw[H6 J];exact U,by rw[H6 J];exact E,Ia lq,by simpa using gB,λj hj=>?_,λj hj=>?_,zB⟩
  ·rw[zd9 _ _ _ _ _ J];by_cases e:j=o
   ·rw[Ih e,e,zO]
   ·rw[Ig e,R2 j hj,zM j e]
  ·rw[zd9 _ _ _ _ _ J,Ig J];exact R3 j hj
 have z8:i=min (Sv.outV vs).length g.length:=J
 have zP:∀j,j<H→(Qw vs C A j).length≤512:=λj hj=>by
  obtain⟨v1,v2,v3,v4⟩:=gZ j J;unfold Qw;split
  ·simp;omega
  ·exact zsl _ _
 have gO:∀x∈T,x.length≤1000:=λx hx=>by
  obtain⟨j,hj⟩:=I3.1 hx;have jQ:=(H5.1 hj).1;have e:T.getD j []=x:=by rw[H9,hj];rfl
  by_cases jA:j<H
  ·rw[R2 j jA]at e;rw[←e];unfold Q0;split
   ·exact I5 (zsl _ _) Ah
   ·exact I5 (zP j jA) Ah
  ·rw[R3 j J]at e;rw[←e];simp
 have g8:∀t,t<(Sv.outV vs).length→T.getD ((Sv.outV vs).getD t 0) []=if t<i then Nr (g.getD t []) (gv vs ((Sv.outV vs).getD t 0)).limbs else List.replicate (gv vs ((Sv.outV vs).getD t 0)).limbs.toNat C:=λt ht=>by
  obtain⟨a,b,c⟩:=jR t ht;rw[R2 _ (zj t ht)];unfold Q0;rw[c];by_cases q:t<i
  ·rw[Ih ⟨b,q⟩,Ih q]
  ·rw[Ig (λh=>q h.2),Ig q];unfold Qw;rw[Ih b]
 have zQ:Oe vs M T=true:=by
  simp only[Oe,gB,decide_true,Kf,I9,Ii];intro j hj;obtain⟨t,ht⟩:=I3.1 hj;have zR:=(H5.1 ht).1;have e:(Sv.outV vs).getD t 0=j:=by rw[H9,ht];rfl
  have hr:=g8 t zR;have z9:=gZ j (zsu hj);rw[e]at hr;rw[hr];by_cases q:t<i
  ·rw[Ih q];have:=jH t q;rw[e]at this;exact (zbg this).1
  ·rw[Ig q];simp;omega
 have Ag:(Sv.outV vs).length≤vs.length:=x5 (λv=>decide (v.mode=3)) vs vs.length;have gK:gG[q]?=some (.dyn (T.map LU) T.length 1 D st):=by rw[gB];exact z
 clear P;have gQ:∀(ρ':My) (K2:LV→Mu→Prop),(∀G2 v,Rq gG.length G2 v 1 (Sv.outV vs).length (V8 vs T vs.length)→gG.length≤G2.length→(∀Aj,Aj<gG.length→G2[Aj]?=gG[Aj]?)→K2 (.tup [v,.i 0]) G2)→O0 (.fn 23) [.agg (Mt vs os rs),.agg (Nc M ps w0 w1),.dy q D] gG K2:=λρ' K2 hk =>
  zfx J hc j8 hM (λx hx=>by have:=gO x hx;omega) J (.inr ⟨q,D,st,rfl,gK⟩) (λh=>by rw[zQ]at h;cases h) λ_ G2 v I h2 h3=>hk G2 v I h2 h3
 by_cases ga:i<(Sv.outV vs).length
 ·have gb:¬i<g.length:=J
  simp[h3,h4,G,B,gF,gY,ga,gb,LN,U,E,gH,gI,jM,jO];refine gQ O _ λG2 v hD jE gL=>?_
  have gT:=(gL 0 (by have:=(H5.1 U).1;omega)).trans U;have gU:=(gL 1 (by have:=(H5.1 E).1;omega)).trans E;have gV:=(gL q (by have:=(H5.1 z).1;omega)).trans z;obtain⟨d1,d2,⟨rfl,jS,zS⟩|⟨p2,k2,jT,jU,rfl,F⟩⟩:=hD
  ·simp[gF,jS];refine Nm (λO jC gG N=>jC=[]∧lk O 1=LN A∧lk O 4=.ptr 0 0∧lk O 9=.ptr 1 0∧lk O 11=.dy q D∧lk O 17=.nilSl∧lk O 19=.i 0∧gG[0]?=some (.cells (Mt vs os rs) 0)∧gG[1]?=some (.cells (Nc M ps w0 w1) 1)∧gG[q]?=some (.dyn (T.map LU) M.length 1 D st))
    (N:=0) ⟨rfl,Ax,By,As,Al,by simp,by simp,gT,gU,gV⟩ ?_
   clear I h2 h3 h4 G B gF gY U E z gK gQ gT gU gV gL jE hN;rintro N O jC gG ⟨rfl,I,h4,G,B,K,Q,U,E,z⟩ Nx P;clear P;simp[h4,K,Q,U,gH,gI];refine Rj (wu vs os rs J) Bq ?_;rw[jG];simp;refine Nm (λO jC gG N=>∃(t:Nat),jC=[]∧N+t=(Sv.inV vs).length∧lk O 1=LN A∧lk O 9=.ptr 1 0∧lk O 11=.dy q D∧lk O 20=.lst (Oa (Sv.inV vs)) (Sv.inV vs).length 1∧lk O 21=.i t∧gG[1]?=some (.cells (Nc M ps w0 w1) 1)∧gG[q]?=some (.dyn (T.map LU) M.length 1 D st))
    (N:=(Sv.inV vs).length) ⟨0,rfl,J,Ax,As,Al,by simp,by simp,E,z⟩ ?_
   clear I G B U E z;rintro N O jC gG ⟨t,rfl,hN,I,G,B,V,X,E,z⟩ Nx P;by_cases Y:t<(Sv.inV vs).length
   case neg=>simp[V,X,Y]
   obtain⟨i1,i2,i3⟩:=those_rank (p:=Ny) (vs:=vs) vs.length t Y;rw[←iw]at i1 i2 i3;have L:t<A.length:=J
   have qo:=qv (l:=Sv.inV vs) (j:=t) Y;have g9:=gR t L;have Z:(gv vs ((Sv.inV vs).getD t 0)).mode≠3∧(gv vs ((Sv.inV vs).getD t 0)).mode≠0:=by
    simp only[Ny,Jx,Ii]at i2;omega
   have R:(Sv.inV vs).getD t 0<H:=by
    have:=hM.mode _ i1;refine Decidable.byContradiction λhn=>?_
    exact Z.2 (this.2 J)
   have S:T.getD ((Sv.inV vs).getD t 0) []=Nr (A.getD t []) (gv vs ((Sv.inV vs).getD t 0)).limbs:=by
    rw[R2 _ R];unfold Q0;rw[Ig (λh=>Z.1 h.1)];unfold Qw;rw[Ig Z.1,i3]
   obtain⟨v1,v2,v3,v4⟩:=gZ _ i1;have gM:val (T.getD ((Sv.inV vs).getD t 0) [])=val (A.getD t []):=by
    rw[S,ox (xi ⟨v1,v2⟩ g9)]
   have gS:=jD _ R;have jV:=Tq gO ((Sv.inV vs).getD t 0);have jB:=Tq jz.2 t;have hx : A[t]'L = A.getD t [] := Dr
   generalize (Sv.inV vs).getD t 0=o at *;have gg:o<T.length:=J
   have gC:o<M.length:=J
   have gD:o<ps.length:=Df
   have jI:=T6 gD;have gE:o*3<(N0 ps).length:=J
   have er : T[o]'gg = T.getD o [] := Dg
   generalize T.getD o []=r at *;generalize A.getD t []=x at *;simp[I,G,B,V,X,Y,E,gj,Mx qo,gD,Mx gS,gE,z,gC,gg,LN,L,hx,er];refine M5 (lg r x J J) (bors_self _ Au) ?_;simp[gM,X];exact⟨J,P _ _ _ ⟨N-1,J,t+1,rfl,J,Ax,As,Al,B7,by simp,E,z⟩⟩
  ·simp[gF,F];refine Nm (λO jC gG N=>∃(t:Nat),jC=[]∧N+t=(Sv.outV vs).length∧lk O 1=LN A∧lk O 2=.u C∧lk O 3=LN g∧lk O 4=.ptr 0 0∧lk O 9=.ptr 1 0∧lk O 11=.dy q D∧lk O 17=.dy p2 k2∧lk O 19=.i t ∧
     gG[0]?=some (.cells (Mt vs os rs) 0)∧gG[1]?=some (.cells (Nc M ps w0 w1) 1)∧gG[q]?=some (.dyn (T.map LU) M.length 1 D st)∧gG[p2]?=some (.dyn (V8 vs T vs.length) (Sv.outV vs).length 1 k2 jT))
    (N:=(Sv.outV vs).length) ⟨0,rfl,J,Ax,Bm,B8,By,As,Al,by simp,by simp,gT,gU,gV,F⟩ ?_
   clear I h2 h3 h4 G B gF gY U E z gK gQ gT gU gV F gL jE jU hN;rintro N O jC gG ⟨t,rfl,hN,I,h2,h3,h4,G,B,K,Q,U,E,z,F⟩ Nx P;have lp:=(H5.1 F).1;by_cases Y:t<(Sv.outV vs).length
   ·have S:=g8 t Y;have ey:(V8 vs T vs.length)[t]?=some (LU (Ow (val (T.getD ((Sv.outV vs).getD t 0) [])))):=by
     unfold V8;rw[←vu,J5,H9 (l:=Sv.outV vs),H8 Y];rfl
    have zT:(Ow (val (T.getD ((Sv.outV vs).getD t 0) []))).length≤1000:=I5 (wm _) (Tq gO _);have nx:∀ρ' G3,lk ρ' 1=LN A→lk ρ' 2=.u C→lk ρ' 3=LN g→lk ρ' 4=.ptr 0 0→lk ρ' 9=.ptr 1 0→lk ρ' 11=.dy q D→lk ρ' 17=.dy p2 k2→lk ρ' 19=.i ((t:Int)+1)→(∃x,G3=gG++x)→Nx ρ' [] G3:=by
     rintro ρ' G3 a1 a2 a3 a4 a9 jX jY jZ ⟨x,rfl⟩;have lq:=(H5.1 z).1;exact P _ _ _ ⟨N-1,J,t+1,rfl,J,a1,a2,a3,a4,a9,jX,jY,by rw[jZ];simp,by rw[Mv J];exact U,by rw[Mv J];exact E,by rw[Mv lq];exact z,by rw[Mv lp];exact F⟩
    by_cases gi:t<g.length
    ·have jB:=Tq jL.2 t;have hx : g[t]'gi = g.getD t [] := by rw [H9, H8 gi];rfl
     rw[Ih J]at S;have gM:val (Ow (val (T.getD ((Sv.outV vs).getD t 0) [])))=val (g.getD t []):=by
      rw[tq,S,ox (jH t J)]
     generalize Ow (val (T.getD ((Sv.outV vs).getD t 0) []))=y at *;generalize g.getD t []=x at *;simp[h3,K,Q,Y,gi,LN,F,Mx ey,hx];refine M5 (lg y x J J) (bors_self _ Au) ?_;simp[gM,h3,K,Q,gi,LN];have jg:¬g.length≤t:=J
     simp[jg];exact⟨J,nx _ _ Ax Bm B8 By As Al Bc (by simp) ⟨[],by simp⟩⟩
    ·have jg:g.length≤t:=J
     rw[Ig J]at S;have j3:C=0→val (Ow (val (T.getD ((Sv.outV vs).getD t 0) [])))=0:=λh=>by rw[tq,S,h,val_rep0]
     generalize Ow (val (T.getD ((Sv.outV vs).getD t 0) []))=y at *;simp[h3,K,Q,Y,gi,jg,LN,F,Mx ey,↓Mv lp];refine M5 kit_Fill_nil ⟨_,_,rfl,⟨[],0,1,0,rfl,by simp,rfl⟩,bors_self _ rfl⟩ ?_;rw[show frV [RU []] (.dy 0 0)=LU [] from rfl];simp[F,↓Mv lp];refine M5 (lg y [] J (by simp)) (bors_self _ Au) ?_;have jF:val []=0:=rfl;by_cases hy:val y=0
     ·simp[hy,jF,Q];exact⟨J,nx _ _ Ax Bm B8 By As Al Bc (by simp) ⟨_,rfl⟩⟩
     ·have j4:C≠0:=λe=>hy (j3 e)
      simp[hy,jF,h2,j4,Q];exact⟨J,nx _ _ Ax Bm B8 By As Al Bc (by simp) ⟨_,rfl⟩⟩
   ·simp[h4,K,Q,Y,F,U,gH,gI];refine Rj (wu vs os rs J) Bq ?_;rw[jG];simp;refine Nm (λO jC gG N=>∃(t:Nat),jC=[]∧N+t=(Sv.inV vs).length∧lk O 1=LN A∧lk O 9=.ptr 1 0∧lk O 11=.dy q D∧lk O 20=.lst (Oa (Sv.inV vs)) (Sv.inV vs).length 1∧lk O 21=.i t∧gG[1]?=some (.cells (Nc M ps w0 w1) 1)∧gG[q]?=some (.dyn (T.map LU) M.length 1 D st))
     (N:=(Sv.inV vs).length) ⟨0,rfl,J,Ax,As,Al,by simp,by simp,E,z⟩ ?_
    clear I G B U E z;rintro N O jC gG ⟨t,rfl,hN,I,G,B,V,X,E,z⟩ Nx P;by_cases Y:t<(Sv.inV vs).length
    case neg=>simp[V,X,Y]
    obtain⟨i1,i2,i3⟩:=those_rank (p:=Ny) (vs:=vs) vs.length t Y;rw[←iw]at i1 i2 i3;have L:t<A.length:=J
    have qo:=qv (l:=Sv.inV vs) (j:=t) Y;have g9:=gR t L;have Z:(gv vs ((Sv.inV vs).getD t 0)).mode≠3∧(gv vs ((Sv.inV vs).getD t 0)).mode≠0:=by
     simp only[Ny,Jx,Ii]at i2;omega
    have R:(Sv.inV vs).getD t 0<H:=by
     have:=hM.mode _ i1;refine Decidable.byContradiction λhn=>?_
     exact Z.2 (this.2 J)
    have S:T.getD ((Sv.inV vs).getD t 0) []=Nr (A.getD t []) (gv vs ((Sv.inV vs).getD t 0)).limbs:=by
     rw[R2 _ R];unfold Q0;rw[Ig (λh=>Z.1 h.1)];unfold Qw;rw[Ig Z.1,i3]
    obtain⟨v1,v2,v3,v4⟩:=gZ _ i1;have gM:val (T.getD ((Sv.inV vs).getD t 0) [])=val (A.getD t []):=by
     rw[S,ox (xi ⟨v1,v2⟩ g9)]
    have gS:=jD _ R;have jV:=Tq gO ((Sv.inV vs).getD t 0);have jB:=Tq jz.2 t;have hx : A[t]'L = A.getD t [] := Dr
    generalize (Sv.inV vs).getD t 0=o at *;have gg:o<T.length:=J
    have gC:o<M.length:=J
    have gD:o<ps.length:=Df
    have jI:=T6 gD;have gE:o*3<(N0 ps).length:=J
    have er : T[o]'gg = T.getD o [] := Dg
    generalize T.getD o []=r at *;generalize A.getD t []=x at *;simp[I,G,B,V,X,Y,E,gj,Mx qo,gD,Mx gS,gE,z,gC,gg,LN,L,hx,er];refine M5 (lg r x J J) (bors_self _ Au) ?_;simp[gM,X];exact⟨J,P _ _ _ ⟨N-1,J,t+1,rfl,J,Ax,As,Al,B7,by simp,E,z⟩⟩
 ·simp[h3,h4,G,B,gF,gY,ga,LN,U,E,gH,gI,jM,jO];refine gQ O _ λG2 v hD jE gL=>?_
  have gT:=(gL 0 (by have:=(H5.1 U).1;omega)).trans U;have gU:=(gL 1 (by have:=(H5.1 E).1;omega)).trans E;have gV:=(gL q (by have:=(H5.1 z).1;omega)).trans z;obtain⟨d1,d2,⟨rfl,jS,zS⟩|⟨p2,k2,jT,jU,rfl,F⟩⟩:=hD
  ·simp[gF,jS];refine Nm (λO jC gG N=>jC=[]∧lk O 1=LN A∧lk O 4=.ptr 0 0∧lk O 9=.ptr 1 0∧lk O 11=.dy q D∧lk O 17=.nilSl∧lk O 19=.i 0∧gG[0]?=some (.cells (Mt vs os rs) 0)∧gG[1]?=some (.cells (Nc M ps w0 w1) 1)∧gG[q]?=some (.dyn (T.map LU) M.length 1 D st))
    (N:=0) ⟨rfl,Ax,By,As,Al,by simp,by simp,gT,gU,gV⟩ ?_
   clear I h2 h3 h4 G B gF gY U E z gK gQ gT gU gV gL jE hN;rintro N O jC gG ⟨rfl,I,h4,G,B,K,Q,U,E,z⟩ Nx P;clear P;simp[h4,K,Q,U,gH,gI];refine Rj (wu vs os rs J) Bq ?_;rw[jG];simp;refine Nm (λO jC gG N=>∃(t:Nat),jC=[]∧N+t=(Sv.inV vs).length∧lk O 1=LN A∧lk O 9=.ptr 1 0∧lk O 11=.dy q D∧lk O 20=.lst (Oa (Sv.inV vs)) (Sv.inV vs).length 1∧lk O 21=.i t∧gG[1]?=some (.cells (Nc M ps w0 w1) 1)∧gG[q]?=some (.dyn (T.map LU) M.length 1 D st))
    (N:=(Sv.inV vs).length) ⟨0,rfl,J,Ax,As,Al,by simp,by simp,E,z⟩ ?_
   clear I G B U E z;rintro N O jC gG ⟨t,rfl,hN,I,G,B,V,X,E,z⟩ Nx P;by_cases Y:t<(Sv.inV vs).length
   case neg=>simp[V,X,Y]
   obtain⟨i1,i2,i3⟩:=those_rank (p:=Ny) (vs:=vs) vs.length t Y;rw[←iw]at i1 i2 i3;have L:t<A.length:=J
   have qo:=qv (l:=Sv.inV vs) (j:=t) Y;have g9:=gR t L;have Z:(gv vs ((Sv.inV vs).getD t 0)).mode≠3∧(gv vs ((Sv.inV vs).getD t 0)).mode≠0:=by
    simp only[Ny,Jx,Ii]at i2;omega
   have R:(Sv.inV vs).getD t 0<H:=by
    have:=hM.mode _ i1;refine Decidable.byContradiction λhn=>?_
    exact Z.2 (this.2 J)
   have S:T.getD ((Sv.inV vs).getD t 0) []=Nr (A.getD t []) (gv vs ((Sv.inV vs).getD t 0)).limbs:=by
    rw[R2 _ R];unfold Q0;rw[Ig (λh=>Z.1 h.1)];unfold Qw;rw[Ig Z.1,i3]
   obtain⟨v1,v2,v3,v4⟩:=gZ _ i1;have gM:val (T.getD ((Sv.inV vs).getD t 0) [])=val (A.getD t []):=by
    rw[S,ox (xi ⟨v1,v2⟩ g9)]
   have gS:=jD _ R;have jV:=Tq gO ((Sv.inV vs).getD t 0);have jB:=Tq jz.2 t;have hx : A[t]'L = A.getD t [] := Dr
   generalize (Sv.inV vs).getD t 0=o at *;have gg:o<T.length:=J
   have gC:o<M.length:=J
   have gD:o<ps.length:=Df
   have jI:=T6 gD;have gE:o*3<(N0 ps).length:=J
   have er : T[o]'gg = T.getD o [] := Dg
   generalize T.getD o []=r at *;generalize A.getD t []=x at *;simp[I,G,B,V,X,Y,E,gj,Mx qo,gD,Mx gS,gE,z,gC,gg,LN,L,hx,er];refine M5 (lg r x J J) (bors_self _ Au) ?_;simp[gM,X];exact⟨J,P _ _ _ ⟨N-1,J,t+1,rfl,J,Ax,As,Al,B7,by simp,E,z⟩⟩
  ·simp[gF,F];refine Nm (λO jC gG N=>∃(t:Nat),jC=[]∧N+t=(Sv.outV vs).length∧lk O 1=LN A∧lk O 2=.u C∧lk O 3=LN g∧lk O 4=.ptr 0 0∧lk O 9=.ptr 1 0∧lk O 11=.dy q D∧lk O 17=.dy p2 k2∧lk O 19=.i t ∧
     gG[0]?=some (.cells (Mt vs os rs) 0)∧gG[1]?=some (.cells (Nc M ps w0 w1) 1)∧gG[q]?=some (.dyn (T.map LU) M.length 1 D st)∧gG[p2]?=some (.dyn (V8 vs T vs.length) (Sv.outV vs).length 1 k2 jT))
    (N:=(Sv.outV vs).length) ⟨0,rfl,J,Ax,Bm,B8,By,As,Al,by simp,by simp,gT,gU,gV,F⟩ ?_
   clear I h2 h3 h4 G B gF gY U E z gK gQ gT gU gV F gL jE jU hN;rintro N O jC gG ⟨t,rfl,hN,I,h2,h3,h4,G,B,K,Q,U,E,z,F⟩ Nx P;have lp:=(H5.1 F).1;by_cases Y:t<(Sv.outV vs).length
   ·have S:=g8 t Y;have ey:(V8 vs T vs.length)[t]?=some (LU (Ow (val (T.getD ((Sv.outV vs).getD t 0) [])))):=by
     unfold V8;rw[←vu,J5,H9 (l:=Sv.outV vs),H8 Y];rfl
    have zT:(Ow (val (T.getD ((Sv.outV vs).getD t 0) []))).length≤1000:=I5 (wm _) (Tq gO _);have nx:∀ρ' G3,lk ρ' 1=LN A→lk ρ' 2=.u C→lk ρ' 3=LN g→lk ρ' 4=.ptr 0 0→lk ρ' 9=.ptr 1 0→lk ρ' 11=.dy q D→lk ρ' 17=.dy p2 k2→lk ρ' 19=.i ((t:Int)+1)→(∃x,G3=gG++x)→Nx ρ' [] G3:=by
     rintro ρ' G3 a1 a2 a3 a4 a9 jX jY jZ ⟨x,rfl⟩;have lq:=(H5.1 z).1;exact P _ _ _ ⟨N-1,J,t+1,rfl,J,a1,a2,a3,a4,a9,jX,jY,by rw[jZ];simp,by rw[Mv J];exact U,by rw[Mv J];exact E,by rw[Mv lq];exact z,by rw[Mv lp];exact F⟩
    by_cases gi:t<g.length
    ·have jB:=Tq jL.2 t;have hx : g[t]'gi = g.getD t [] := by rw [H9, H8 gi];rfl
     rw[Ih J]at S;have gM:val (Ow (val (T.getD ((Sv.outV vs).getD t 0) [])))=val (g.getD t []):=by
      rw[tq,S,ox (jH t J)]
     generalize Ow (val (T.getD ((Sv.outV vs).getD t 0) []))=y at *;generalize g.getD t []=x at *;simp[h3,K,Q,Y,gi,LN,F,Mx ey,hx];refine M5 (lg y x J J) (bors_self _ Au) ?_;simp[gM,h3,K,Q,gi,LN];have jg:¬g.length≤t:=J
     simp[jg];exact⟨J,nx _ _ Ax Bm B8 By As Al Bc (by simp) ⟨[],by simp⟩⟩
    ·have jg:g.length≤t:=J
     rw[Ig J]at S;have j3:C=0→val (Ow (val (T.getD ((Sv.outV vs).getD t 0) [])))=0:=λh=>by rw[tq,S,h,val_rep0]
     generalize Ow (val (T.getD ((Sv.outV vs).getD t 0) []))=y at *;simp[h3,K,Q,Y,gi,jg,LN,F,Mx ey,↓Mv lp];refine M5 kit_Fill_nil ⟨_,_,rfl,⟨[],0,1,0,rfl,by simp,rfl⟩,bors_self _ rfl⟩ ?_;rw[show frV [RU []] (.dy 0 0)=LU [] from rfl];simp[F,↓Mv lp];refine M5 (lg y [] J (by simp)) (bors_self _ Au) ?_;have jF:val []=0:=rfl;by_cases hy:val y=0
     ·simp[hy,jF,Q];exact⟨J,nx _ _ Ax Bm B8 By As Al Bc (by simp) ⟨_,rfl⟩⟩
     ·have j4:C≠0:=λe=>hy (j3 e)
      simp[hy,jF,h2,j4,Q];exact⟨J,nx _ _ Ax Bm B8 By As Al Bc (by simp) ⟨_,rfl⟩⟩
   ·simp[h4,K,Q,Y,F,U,gH,gI];refine Rj (wu vs os rs J) Bq ?_;rw[jG];simp;refine Nm (λO jC gG N=>∃(t:Nat),jC=[]∧N+t=(Sv.inV vs).length∧lk O 1=LN A∧lk O 9=.ptr 1 0∧lk O 11=.dy q D∧lk O 20=.lst (Oa (Sv.inV vs)) (Sv.inV vs).length 1∧lk O 21=.i t∧gG[1]?=some (.cells (Nc M ps w0 w1) 1)∧gG[q]?=some (.dyn (T.map LU) M.length 1 D st))
     (N:=(Sv.inV vs).length) ⟨0,rfl,J,Ax,As,Al,by simp,by simp,E,z⟩ ?_
    clear I G B U E z;rintro N O jC gG ⟨t,rfl,hN,I,G,B,V,X,E,z⟩ Nx P;by_cases Y:t<(Sv.inV vs).length
    case neg=>simp[V,X,Y]
    obtain⟨i1,i2,i3⟩:=those_rank (p:=Ny) (vs:=vs) vs.length t Y;rw[←iw]at i1 i2 i3;have L:t<A.length:=J
    have qo:=qv (l:=Sv.inV vs) (j:=t) Y;have g9:=gR t L;have Z:(gv vs ((Sv.inV vs).getD t 0)).mode≠3∧(gv vs ((Sv.inV vs).getD t 0)).mode≠0:=by
     simp only[Ny,Jx,Ii]at i2;omega
    have R:(Sv.inV vs).getD t 0<H:=by
     have:=hM.mode _ i1;refine Decidable.byContradiction λhn=>?_
     exact Z.2 (this.2 J)
    have S:T.getD ((Sv.inV vs).getD t 0) []=Nr (A.getD t []) (gv vs ((Sv.inV vs).getD t 0)).limbs:=by
     rw[R2 _ R];unfold Q0;rw[Ig (λh=>Z.1 h.1)];unfold Qw;rw[Ig Z.1,i3]
    obtain⟨v1,v2,v3,v4⟩:=gZ _ i1;have gM:val (T.getD ((Sv.inV vs).getD t 0) [])=val (A.getD t []):=by
     rw[S,ox (xi ⟨v1,v2⟩ g9)]
    have gS:=jD _ R;have jV:=Tq gO ((Sv.inV vs).getD t 0);have jB:=Tq jz.2 t;have hx : A[t]'L = A.getD t [] := Dr
    generalize (Sv.inV vs).getD t 0=o at *;have gg:o<T.length:=J
    have gC:o<M.length:=J
    have gD:o<ps.length:=Df
    have jI:=T6 gD;have gE:o*3<(N0 ps).length:=J
    have er : T[o]'gg = T.getD o [] := Dg
    generalize T.getD o []=r at *;generalize A.getD t []=x at *;simp[I,G,B,V,X,Y,E,gj,Mx qo,gD,Mx gS,gE,z,gC,gg,LN,L,hx,er];refine M5 (lg r x J J) (bors_self _ Au) ?_;simp[gM,X];exact⟨J,P _ _ _ ⟨N-1,J,t+1,rfl,J,Ax,As,Al,B7,by simp,E,z⟩⟩
end
end Go.Proofs.YtgjbfhmmgeplmaaGreat
end
