/- Texts of the evaluator, of the logic over it, of plain arithmetic. -/
import Derived.Test.YtmnciecehjcjhaaGreatSvG0
import Derived.Orders
import Derived.WalkKit
import Derived.ProofKit
import Derived.OpenShut
set_option linter.unusedSimpArgs false
set_option linter.defProp false
namespace Go.Sv
variable{g j A:Nat}{C:Program}{G:World}{K:Bool}{vT:Type}{vR:Array Value}{vQ:Option Nat}{vA:List Nat}{uX:Code}{D vX:Heap}{E vz:AV}{O vC:Tr AV}{R:List AV}{I:CM}
section
open Go.RowKit (Below)
def zm9(g:AObj):Prop:=∀z j w o,(∀v,j.f o v=none)→Rk z j w o g
def xj(D:Program)(E:CM)(w:World)(z:Sem Next)(v:AV)(A:AObj):Prop :=
 ∃g n B x,z.run D w=.ok (.value x) (w.alloc g)∧∀(j:CM) (id:Nat),E.keep j→j id 0=some ⟨w.heap.size,0,n,B⟩ →
  VR j (Rz id v) x∧∀C,C≤w.heap.size→Rk C j (w.alloc g) id A
def tj(D:Program)(E:Tr AV)(A:Heap)(j:(Operand→Value)→Sem Next):OR→Prop
 |.no=>True
 |.val v z=>∃g,True∧z=A.push g∧Pg v=some A.next∧zm9 g∧∀B w C,wh B E C→xj D B w (j C) v g
 |.call _ _=>False
def Mk(A:Program)(B:OpF)(g:(Operand→Value)→Sem Next):Prop:=∀j z,tj A j z g (B.run j z)
def Mk.congr{P:Program}{F:OpF}{nx gg:(Operand→Value)→Sem Next}(h:∀ρ,nx ρ=gg ρ)(s:Mk P F nx):Mk P F gg:=by
 rw[show gg=nx from funext λρ=>(h ρ).symm];exact s
def kg(j:Program)(g:(Operand→Value)→Sem Next):Mk j Pk g:=λ_ _=>trivial
def zbg{l:List AV}{o:Nat}(h:newObj D l=some (o,vX)):True∧True∧o=D.next∧vX=D.push (.cells (Su l 0 .e) l.length 0 false):=by
 unfold newObj at h;cases h;exact⟨trivial,trivial,rfl,rfl⟩
def zjb{l:List AV}(_:True):zm9 (.cells (Su l 0 .e) l.length 0 false):=λz A w o j=>λB g=>by rw[j]at g;cases g
def io{w:World}{l:List AV}{t:TypeId}(_hl:True)(E:VRs I l vR.toList)(K:∀a∈l,a.one=true){F:Sem Next}{v:AV}{x:Value}
  (A:F.run C w=.ok (.value x) (w.alloc (.cells vR t))) (L:∀(z:CM) (id:Nat),z id 0=some ⟨w.heap.size,0,l.length,vR.size⟩→VR z (Rz id v) x) :
  xj C I w F v (.cells (Su l 0 .e) l.length 0 false):=by
 have g:l.length=vR.toList.length:=E.length;have B:l.length=vR.size:=Bc
 refine⟨_,l.length,vR.size,x,A,λz id M G=>⟨L z id G,λR O=>λT j=>?_⟩⟩;rw[G]at j;cases j;refine⟨rfl,λ_=>O,Bx,vR,t,0,0,eo _ _,J4 _,λi _ _=>J,?_⟩;intro k D;rw[get_ofList l 0 .e k,J8 J];obtain⟨a,v,H,P,Q⟩:=E.get' (i:=k) D;refine⟨a,Gb,K a (Kg H),v,?_,Q.mono' M⟩;simpa using P
def zlr{M:Program}{l:List AV}{z:(Operand→Value)→Sem Next}{t:TypeId}
  (g:∀C w B,wh C O B→∃j:Array Value,VRs C l j.toList∧(∀a∈l,a.one=true)∧(z B).run M w=.ok (.value (.pointer (some ⟨w.heap.size,0,none⟩))) (w.alloc (.cells j t))) :
  tj M O D z (X7 D l):=by
 unfold X7;split
 ·rename_i o P E;obtain⟨F,A,rfl,rfl⟩:=zbg E;refine⟨_,F,rfl,rfl,zjb A,λC w B G=>?_⟩;obtain⟨j,H,I,K⟩:=g C w B G;refine io A H I K (λQ id L=>?_);simpa [Rz] using VR.ptr (i:=0) L
 ·exact trivial
def i5(g:Program)(t:TypeId):Mk g (Pp g (.alloc t)) (λ_=>do pure (.value (←Instr.alloc t true (.tuple #[])))):=by
 intro F j;show tj g F j _ (OpF.run (match Tz g t with
  |some l=>⟨λ_ j=>X7 j l⟩
  |none=>Pk) F j)
 cases z:Tz g t with
 |none=>exact trivial
 |some l =>
  refine zlr (t:=t) (λG w L H=>?_);obtain⟨v,i,A,B,I,K⟩:=vx (w:=w) z;obtain⟨D,E⟩:=Y0 (C:=G) B;exact⟨v.cells,D,E,by simp[Instr.alloc,A,newVar,newRow]⟩
def zmu{x:Operand}{f:Heap→AV→OR}{g:(Operand→Value)→Sem Next}(h:∀j z a,(O8 x).run j=some a→tj C j z g (f z a)):Mk C (Ro x f) g:=by
 intro j z;show tj C j z g (Option.rec OR.no (λa=>f z a) ((O8 x).run j));cases A:(O8 x).run j with
 |none=>exact trivial
 |some a=>exact h _ _ _ A
def zsf{x y:Operand}{f:Heap→AV→AV→OR}{j:(Operand→Value)→Sem Next}(h:∀g z a b,(O8 x).run g=some a→(O8 y).run g=some b→tj C g z j (f z a b)):Mk C (Uq x y f) j:=by
 intro g z;show tj C g z j (Option.rec OR.no (λa=>Option.rec OR.no (λb=>f z a b) ((O8 y).run g)) ((O8 x).run g));cases A:(O8 x).run g with
 |none=>exact trivial
 |some a =>
  cases B:(O8 y).run g with
  |none=>exact trivial
  |some b=>exact h _ _ _ _ A B
def box_mk(C:Program)(t:TypeId)(x:Operand):Mk C (Pp C (.box t x)) (λD=>do pure (.value (←Instr.box t (D x)))):=by
 refine zmu λE F a g=>?_
 cases j:a.cells with
 |none=>exact trivial
 |some l =>
  refine zlr (t:=t) (λG w D z=>?_);obtain⟨A,B⟩:=(z _ _ g).cells j;exact⟨_,A,B,by simp[Instr.box,newVar,newRow]⟩
def zr9{I:Program}{C:CM}{w:World}(t:TypeId){l:List AV}{o len esz:Nat}{cs:Array Value}(_hl:True)(B:VRs C l cs.toList)(F:∀a∈l,a.one=true){cap:Nat}(K:cap*esz=l.length)(g:len≤cap)
  {D:Sem Next} (z:D.run I w=.ok (.value (.slice (some ⟨w.heap.size,0,none⟩) len cap)) (w.alloc (.cells cs t))):xj I C w D (.sl o 0 0 len esz (some cap)) (.cells (Su l 0 .e) l.length 0 false):=by
 have j:l.length=cs.toList.length:=B.length;have A:l.length=cs.size:=Bv
 have E:len*esz≤cap*esz:=Ki _ g;refine io _hl B F z (λL id G=>?_);have:=VR.sl (i:=0) (len:=len) (esz:=esz) (room:=some cap) (cap:=cap) G Bx Bx g (λr H=>by cases H;exact⟨rfl,Bx⟩) (λh=>Af);simpa [Rz] using this
def zk5(G:Program)(t:TypeId)(len:Nat)(j:Array (Nat×Operand)) :
  Mk G (uq G t len j) (λX=>do pure (.value (←Instr.buildSlice t len (j.map λ(i,x)=>(i,X x))))):=by
 unfold uq;split
 ·rename_i A hu;split
  ·exact kg G _
  ·rename_i g F;split
   ·exact kg G _
   ·rename_i gA Y;split
    ·rename_i z;obtain⟨Z,P⟩:=z;split
     ·exact kg G _
     ·rename_i ps H;intro gB gC;dsimp only;split
      ·rename_i l hl;split
       ·rename_i o H' hn;obtain⟨n1,Q,rfl,rfl⟩:=zbg hn;refine⟨_,n1,rfl,rfl,zjb Q,λC w X hρ=>?_⟩;obtain⟨v,i,h1,h2,h3,h4⟩:=vx (w:=w) Y;obtain⟨I,k2⟩:=Y0 (C:=C) h2;have K:v.cells.size=g:=by
         have B:=I.length;unfold Qg at F;rw[h3]at F;simp at F B;omega
        have gg:gA.length=g:=by have B:=I.length;simp at B;omega
        have D:VRs C (Up gA len) ((Array.range (len*g)).map λi=>v.cells[i%v.cells.size]!).toList:=by
         rw[←K,zac];exact yr I len
        obtain⟨R,T,U,q3⟩:=z54 H hρ hl D (z3o k2 len);have L:l.length=len*g:=by
         have B:=U.length;have e3:=zh1 T;simp at e3 B;omega
        refine zr9 A Q U q3 L.symm (J4 _) ?_;have V:Instr.fill (λi=>some (i*g,g)) ((Array.range (len*g)).map λi=>v.cells[i%v.cells.size]!) (j.map λ(i,x)=>(i,X x)).toList=some R:=by
         rw[L0];exact T
        have E:¬(len*g>2^24):=J
        simp only[Instr.buildSlice,Sem.run_bind,Pv hu,T4 F,Result.andThen_ok,Sem.run_ite,J2 E];by_cases M:len*g=0
        ·rw[J8 M];have O:Instr.fill (λi=>some (i*g,g)) ((Array.range (len*g)).map λi=>(#[]:Array Value)[i%(#[]:Array Value).size]!) (j.map λ(i,x)=>(i,X x)).toList=some R:=by
          rw[←V,M,tk,tk]
         simp only[Sem.run_pure,Result.andThen_ok,O,newRow,Sem.run_bind,run_newObj];rfl
        ·rw[J2 M];simp only[Sem.run_bind,h1,Sem.run_pure,Result.andThen_ok,V,newRow,run_newObj];rfl
       ·exact trivial
      ·exact trivial
    ·exact kg G _
 ·exact kg G _
def zsa(A:Program)(t:TypeId)(l c:Operand):Mk A (vy A t l c) (λO=>do pure (.value (←Instr.makeSlice t (O l) (O c)))):=by
 unfold vy;split
 ·rename_i g hu;split
  ·exact kg A _
  ·rename_i i hi;split
   ·exact kg A _
   ·rename_i gg Y;split
    ·rename_i j;obtain⟨P,B⟩:=j;refine zsf λgA gB a b D E=>?_
     split
     ·rename_i x y;split
      ·rename_i F;split
       ·rename_i Z;split
        ·rename_i o H' hn;obtain⟨n1,Q,rfl,rfl⟩:=zbg hn;refine⟨_,n1,rfl,rfl,zjb Q,λC w O R=>?_⟩;have T:=R _ _ D;have U:=R _ _ E;have z:x≤y:=Kd F;have G:y≤1048576:=Kd Z;obtain⟨v,gC,h1,h2,V,h4⟩:=vx (w:=w) Y;obtain⟨X,k2⟩:=Y0 (C:=C) h2;rw[hi]at V;cases V;have H:v.cells.size=i.size:=by have I:=X.length;simp at I;omega
         generalize K:O l=pl at T;generalize L:O c=pc at U;cases T;cases U;refine zr9 g Q (cs:=(Array.range (y*i.size)).map λk=>v.cells[k%v.cells.size]!) (by rw[←H,zac];exact yr X y) (z3o k2 y) (by rw[z4r,h4]) z ?_;have I:IntKind.i64.wrap (Int.ofNat x)=Int.ofNat x:=Aq
         have e2:IntKind.i64.wrap (Int.ofNat y)=Int.ofNat y:=Aq
         have e3:i.bytes*y≤65536*1048576:=Lw B G;have e4:¬((decide (Int.ofNat y<0) || decide ((i.bytes:Int)*Int.ofNat y>2^48) || decide (Int.ofNat x<0) || decide (Int.ofNat x>Int.ofNat y))=true):=by
          have e5:((i.bytes:Int)*Int.ofNat y)=((i.bytes*y:Nat):Int):=N
          rw[e5];simp only[K8,Kb,not_or];refine⟨⟨⟨N,Ab⟩,N⟩,Ab⟩
         simp only[Instr.makeSlice,K,L,Sem.run_bind,Pv hu,kw hi,asInt,asIntOf,Sem.run_pure,Result.andThen_ok,I,e2,Sem.run_ite,J2 e4,run_askRoom,T4 (show Qg A g=some i.size from Hk)];have e6:(Int.ofNat y).toNat=y:=rfl;have e7:(Int.ofNat x).toNat=x:=rfl;rw[e6,e7];by_cases M:y*i.size=0
         ·rw[J8 M];simp only[Sem.run_pure,Result.andThen_ok,newRow,Sem.run_bind,run_newObj];have:((Array.range (y*i.size)).map λk=>(#[]:Array Value)[k%(#[]:Array Value).size]!)=((Array.range (y*i.size)).map λk=>v.cells[k%v.cells.size]!):=by rw[M,tk,tk]
          rw[this];rfl
         ·rw[J2 M];simp only[Sem.run_bind,h1,Sem.run_pure,Result.andThen_ok,newRow,run_newObj];rfl
        ·exact trivial
       ·exact trivial
      ·exact trivial
     ·exact trivial
    ·exact kg A _
 ·exact kg A _
def zi7{A:(Operand→Value)→Sem Next}
  (z:∀(B:CM) w E,wh B O E→(A E).run C w=.ok (.value (.map (some w.heap.size))) (w.alloc (.map #[] 0))):tj C O D A (Y1 D):=by
 unfold Y1;refine⟨_,trivial,rfl,rfl,λI B w o F K g=>(by rw[F]at g;cases g),λB w E G=>?_⟩;refine⟨_,0,0,_,z B w E G,λL id M g=>⟨.map g,λI H K j=>?_⟩⟩;rw[g]at j;cases j;exact⟨H,#[],eo _ _,.nil⟩
def i4(z:Program)(t:TypeId)(r:Option Operand):Mk z (te z t r) (λj=>do pure (.value (←Instr.makeMap t (r.map j)))):=by
 unfold te;split
 ·intro C D;exact zi7 (λE w j g=>by simp[Instr.makeMap])
 ·rename_i x;split
  ·rename_i k e hu;refine zmu λC D a A=>?_
   split
   ·refine zi7 (λE w j g=>?_);have:=g _ _ A;generalize B:j x=F at this;cases this;simp[Instr.makeMap,Pv hu,B,asInt,asIntOf]
   ·exact trivial
  ·exact kg z _
def zpt{P:Program}{o:Oper}(h:cls P o.op=.al):Mk P (Pp P o.op) (λj=>execOp j o):=by
 generalize g:o.op=op at h;cases op with
 |alloc t=>exact Mk.congr (λj=>by simp only[execOp,g]) (i5 P t)
 |box t x=>exact Mk.congr (λj=>Ah) (box_mk P t x)
 |buildSlice t n z=>exact Mk.congr (λj=>Ah) (zk5 P t n z)
 |makeMap t r=>exact Mk.congr (λj=>Ah) (i4 P t r)
 |makeSlice t l c=>exact Mk.congr (λj=>Ah) (zsa P t l c)
 |slice t _ _ _ _=>simp only[cls]at h;split at h<;>cases h
 |convert s d x=>simp only[cls]at h;split at h<;>first|(cases h;done)|(split at h<;>cases h)
 |call c =>
  simp only[cls,zd1]at h;split at h
  ·split at h
   ·split at h<;>cases h
   ·cases h
  all_goals cases h
 |_=>cases h
def CM.lift(C:CM)(n:Nat):CM:=⟨C.f,n⟩
def CM.le_lift{n:Nat}(h:I.nx≤n):I.le (I.lift n):=⟨λ_ _ _ h=>h,h,λ_ v L h=>.inl ⟨v,L,h⟩⟩
inductive Ups:Heap→Heap→Prop where
 |refl (H:Heap):Ups H H
 |push {H H':Heap} {ob:AObj} (hl:True) (hf:zm9 ob) (h:Ups (H.push ob) H'):Ups H H'
def Ups.next{H H':Heap}(h:Ups H H'):H.next≤H'.next:=by
 induction h with
 |refl=>exact J4 _
 |push _ _ _ ih=>exact K4 (Of _) ih
def Rel.up{w0:World}{H:Heap}{w:World}(h:Rel w0 I H w)(_:True){ob:AObj}(hf:zm9 ob):Rel w0 (I.lift (H.next+1)) (H.push ob) w:=by
 have hle:I.le (I.lift (H.next+1)):=CM.le_lift (by rw[h.nx];exact Of _);refine⟨rfl,h.low,λo v L hL=>?_,h.lt,h.excl,?_,?_⟩
 ·show o<H.next+1;have:=h.fresh o v L hL;omega
 ·intro o gg ho hg;by_cases e:o=H.next
  ·subst e;rw[Heap.get_push_same]at hg;cases hg;exact hf _ _ _ _ (λv=>h.next_none v)
  ·have C:o<H.next:=Bs
   rw[Heap.get_push_ne _ _ C]at hg;exact (h.obj _ _ C hg).frame hle (λv L hL=>hL) (λv L hL=>rfl)
 ·intro o c len gA ro ho hg v L hL;by_cases e:o=H.next
  ·subst e;have:=h.fresh _ _ _ hL;omega
  ·have C:o<H.next:=Bs
   rw[Heap.get_push_ne _ _ C]at hg;exact h.top _ _ _ _ _ C hg _ _ hL
def Rel.ups{C:World}{H:Heap}{w:World}(hu:Ups H vX):∀{gg:CM},Rel C gg H w→Rel C (gg.lift vX.next) vX w:=by
 induction hu with
 |refl H=>intro gg h;rw[←h.nx];exact h
 |push hl hf _ ih =>
  intro gg h;have h1:=h.up hl hf;have h2:=ih h1;exact h2
def zln{c:Tr AV}{len:Nat}(h:zo5 c O len=true):∀j,j<len→On (O1 j) c=On (O1 j) O:=by
 unfold zo5 at h;split at h
 ·rename_i l C D E;obtain⟨K,F⟩:=kr D;obtain⟨L,G⟩:=kr E;have he:l=C:=by
   have:∀(x y:List AV),Z8 (Sl 30) x y=true→x=y:=by
    intro x
    induction x with
    |nil=>intro y g;cases y with
     |nil=>rfl
     |cons _ _=>cases g
    |cons c x H =>
     intro y g;cases y with
     |nil=>cases g
     |cons d y =>
      simp only[Z8]at g;split at g
      ·rename_i I;rw[eqAV_spec 30 c d I,H y g]
      ·cases g
   exact this _ _ h
  intro j z;have A:=F j z;have B:=G j z;rw[Kw]at A B;rw[A,B,he]
 ·cases h
def Rk.eqObj{B:Nat}{gC:CM}{w:World}{o:Nat}{a b:AObj}(h:Sv.eqObj a b=true)(k:Rk B gC w o b):Rk B gC w o a:=by
 unfold Sv.eqObj at h;split at h
 ·rename_i c len gB ro c' gg gA C;simp only[Jz]at h;obtain⟨⟨⟨h1,h2⟩,h3⟩,h4⟩:=h;obtain rfl:=Kc h1;obtain rfl:=Kc h2;obtain rfl:ro=C:=by simpa using h3
  intro L hL;obtain⟨p1,p2,p3,vs,e,lo,hi,p4,p5,p6,p7⟩:=k L hL;exact⟨p1,p2,p3,vs,e,lo,hi,p4,p5,p6,λi hi=>by rw[zln h4 i hi];exact p7 i hi⟩
 ·obtain rfl:=Kc h;exact k
 ·cases h
def ziu{b:Bool}{x y:vT}(g:b=true→x=y)(h:Yq b x y=true):x=y:=by
 unfold Yq at h;split at h
 ·exact g rfl
 ·exact @M4 _ (Classical.propDecidable _) h
def iu{b:Bool}{x y:vT}(h:Yq b x y=true):b=true∨x=y:=by
 unfold Yq at h;split at h
 ·exact .inl rfl
 ·exact .inr (@M4 _ (Classical.propDecidable _) h)
def Rk.same{B:Nat}{w:World}{o:Nat}{a b:AObj}(h:Yq (Sv.eqObj a b) a b=true)(k:Rk B I w o b):Rk B I w o a:=by
 rcases iu h with h|h
 ·exact k.eqObj h
 ·rw[h];exact k
def Rel.bind{w0:World}{H:Heap}{w:World}(h:Rel w0 I H w){id n sz:Nat}(gF:id<H.next)(hn:∀v,I id v=none){ob:AObj}(hg:H.get id=some ob)(gB:Obj)
  (gD:Rk w0.heap.size (I.ext id 0 ⟨w.heap.size,0,n,sz⟩) (w.alloc gB) id ob):Rel w0 (I.ext id 0 ⟨w.heap.size,0,n,sz⟩) H (w.alloc gB)∧I.keep (I.ext id 0 ⟨w.heap.size,0,n,sz⟩):=by
 have hk:I.keep (I.ext id 0 ⟨w.heap.size,0,n,sz⟩):=λo' v' L' h'=>by
  by_cases e:o'=id∧v'=0
  ·obtain⟨rfl,rfl⟩:=e;rw[hn]at h';cases h'
  ·rw[CM.ext_ne I _ e];exact h'
 refine⟨⟨by show max I.nx (id+1)=H.next;rw[h.nx];omega,h.low.alloc h.low.size gB,?_,?_,?_,?_,?_⟩,hk⟩
 ·intro o v L C;by_cases e:o=id∧v=0
  ·omega
  ·rw[CM.ext_ne _ _ e]at C;exact h.fresh _ _ _ C
 ·intro o v L C;rw[World.size_alloc];by_cases e:o=id∧v=0
  ·obtain⟨rfl,rfl⟩:=e;rw[CM.ext_same]at C;cases C;exact K7 _
  ·rw[CM.ext_ne _ _ e]at C;have:=h.lt _ _ _ C;omega
 ·intro o v L o' v' L' C gg hb hB;by_cases e:o=id∧v=0<;>by_cases e':o'=id∧v'=0
  ·omega
  ·obtain⟨rfl,rfl⟩:=e;rw[CM.ext_same]at C;cases C;rw[CM.ext_ne _ _ e']at gg;have:=h.lt _ _ _ gg;dsimp at hb;omega
  ·obtain⟨rfl,rfl⟩:=e';rw[CM.ext_same]at gg;cases gg;rw[CM.ext_ne _ _ e]at C;have:=h.lt _ _ _ C;dsimp at hb;omega
  ·rw[CM.ext_ne _ _ e]at C;rw[CM.ext_ne _ _ e']at gg;exact h.excl _ _ _ _ _ _ C gg hb hB
 ·intro o gG ho gA;by_cases e:o=id
  ·subst e;rw[hg]at gA;cases gA;exact gD
  ·have gC:=h.obj _ _ ho gA;refine gC.frame' hk (λv L C=>?_) (λv L C=>z5x _ _ (h.lt _ _ _ C))
   rwa [CM.ext_ne _ _ J]at C
 ·intro o c len gH ro ho gA v L C;by_cases e:o=id∧v=0
  ·omega
  ·rw[CM.ext_ne _ _ e]at C;exact h.top _ _ _ _ _ ho gA _ _ C
end
section
section zox
variable {P : Program} {n : Nat} {ops : Array Oper} {k : R9} {L : List DOp} {E0 Ef : Tr AV}
def Xw(L:List DOp)(S:Nat→Prop)(t:Nat):Prop:=∃y∈L,S y.i∧y.o.dst=some t
open Classical in
noncomputable def jv(L:List DOp)(E0 Ef:Tr AV)(S:Nat→Prop)(t:Nat):Option AV:=if Xw L S t then On (O1 t) Ef else On (O1 t) E0
def Qu(m:Nat)(g:Nat):Prop:=m.testBit g=true
def ac(L:List DOp)(E0 Ef:Tr AV)(S:Nat→Prop)(g:Tr AV):Prop:=∀t,t≤Ry→On (O1 t) g=jv L E0 Ef S t
def Xk(ops:Array Oper)(L:List DOp)(E0 Ef:Tr AV)(x:DOp)(E:Tr AV):Prop:=∀t∈Vq ops x.o,t≤Ry→On (O1 t) E=jv L E0 Ef (Qu x.m) t
def Tq(P:Program)(n:Nat)(ops:Array Oper)(k:R9)(L:List DOp)(E0 Ef:Tr AV)(x:DOp)(z g:Heap):Prop :=
 ∀j,Xk ops L E0 Ef x j→∃v,(Sg P n ops x.o).run k j z=.ok (Qf x.o.dst v j) g∧∀d,x.o.dst=some d→On (O1 d) Ef=some v∧d<n
def DC(L:List DOp)(S:Nat→Prop):Prop:=∀y∈L,S y.i→∀g,Qu y.m g→S g
structure Fit (P:Program) (ops:Array Oper) (L:List DOp):Prop where
 ok:LOk P ops L
 dst:∀x∈L,∀y∈L,∀d,x.o.dst=some d→y.o.dst=some d→x=y
 look:∀x∈L,∀y∈L,zq6 x y=true
def zp6{x y:DOp}(h:zq6 x y=true){d:Nat}(hd:y.o.dst=some d)(g:x.lm.testBit d=true) :
  (x.i=y.i∧U5 x=false)∨(x.i≠y.i∧(Qu x.m y.i∨(Qu y.m x.i∧U5 x=false))):=by
 unfold zq6 at h;rw[hd]at h;dsimp only at h;rw[g]at h;dsimp only at h;split at h
 ·rename_i e;exact .inl ⟨Kc e,Ar⟩
 ·rename_i e;refine .inr ⟨λq=>?_,?_⟩
  ·rw[q,K0]at e;cases e
  ·split at h
   ·rename_i q;exact .inl q
   ·split at h
    ·rename_i q;exact .inr ⟨q,Ar⟩
    ·cases h
def ci(G:Fit P ops L){S:Nat→Prop}(C:DC L S){x:DOp}(B:x∈L)(hm:∀H,Qu x.m H→S H)(g:¬S x.i∨U5 x=true)(D:ac L E0 Ef S O):Xk ops L E0 Ef x O:=by
 intro t E F;rw[D t F];unfold jv;have:Xw L S t↔Xw L (Qu x.m) t:=by
  constructor
  ·rintro⟨y,j,A,hd⟩;refine⟨y,j,?_,hd⟩;rcases zp6 (G.look x B y j) hd (G.ok.lm x B t E) with ⟨e,z⟩|⟨_,h|⟨h,z⟩⟩
   ·rcases g with g|g
    ·rw[e]at g;exact absurd A g
    ·rw[g]at z;cases z
   ·exact h
   ·rcases g with g|g
    ·exact absurd (C y j A _ h) g
    ·rw[g]at z;cases z
  ·rintro⟨y,j,A,hd⟩;exact⟨y,j,hm _ A,hd⟩
 by_cases h:Xw L S t
 ·rw[J8 h,J8 (this.1 h)]
 ·rw[J2 h,J2 (λq=>h (this.2 q))]
def Xk.same{x:DOp}{E:Tr AV}(h:Xk ops L E0 Ef x E)(h':Xk ops L E0 Ef x vC):Td (Vq ops x.o) vC E:=λt ht hl=>by rw[h t ht hl,h' t ht hl]
def kv(d:Tmp)(v:AV)(g:Tr AV):On (O1 d) (Qf (some d) v g)=some v:=z9q _ _ _
def z8c{x:DOp}{E1:Tr AV}(h:(Sg P n ops x.o).run k O D=.ok E1 vX)(z:Xk ops L E0 Ef x O)
  (A:∀d,x.o.dst=some d→d<n→On (O1 d) Ef=On (O1 d) E1):Tq P n ops k L E0 Ef x D vX:=by
 obtain⟨v,B,j,C⟩:=z4x h;intro E g;refine⟨v,C E (z.same g),λd hd=>⟨?_,j d hd⟩⟩;rw[A d hd (j d hd),B,hd,kv]
def ac.put(F:Fit P ops L)(_hn:n≤Ry){S:Nat→Prop}{E:Tr AV}(h:ac L E0 Ef S E){x:DOp}(hx:x∈L){v:AV}(hv:∀d,x.o.dst=some d→On (O1 d) Ef=some v∧d<n) :
  ac L E0 Ef (λj=>S j∨j=x.i) (Qf x.o.dst v E):=by
 intro t ht;have key:Xw L (λj=>S j∨j=x.i) t↔(Xw L S t∨x.o.dst=some t):=by
  constructor
  ·rintro⟨y,hy,hs|hs,hd⟩
   ·exact .inl ⟨y,hy,hs,hd⟩
   ·rw[F.ok.inj y hy x hx hs]at hd;exact .inr hd
  ·rintro (⟨y,hy,hs,hd⟩|hd)
   ·exact⟨y,hy,.inl hs,hd⟩
   ·exact⟨x,hx,.inr rfl,hd⟩
 unfold jv;cases hd:x.o.dst with
 |none =>
  rw[hd]at key;have:Xw L (λj=>S j∨j=x.i) t↔Xw L S t:=by rw[key];simp
  rw[show Qf none v E=E from rfl,h t ht];unfold jv;by_cases q:Xw L S t
  ·rw[J8 q,J8 (this.2 q)]
  ·rw[J2 q,J2 (λz=>q (this.1 z))]
 |some d =>
  rw[hd]at key;obtain⟨gg,gA⟩:=hv d hd;rw[show Qf (some d) v E=P7 v (O1 d) E from rfl,zgq];by_cases e:t=d
  ·subst e;rw[J8 rfl,J8 (key.2 (.inr rfl)),gg]
  ·rw[J2 e,h t ht];unfold jv;have:Xw L (λj=>S j∨j=x.i) t↔Xw L S t:=by
    rw[key];constructor
    ·rintro (q|q)
     ·exact q
     ·exact absurd (Option.some.inj q).symm e
    ·exact .inl
   by_cases q:Xw L S t
   ·rw[J8 q,J8 (this.2 q)]
   ·rw[J2 q,J2 (λz=>q (this.1 z))]
def zcc{r:OE}{f:Tr AV→Heap→OE}(h:(OE.rec .no f r:OE)=.ok O D):∃g j,r=.ok g j∧f g j=.ok O D:=by
 cases r with
 |no=>cases h
 |ok g j=>exact⟨g,j,rfl,h⟩
def z8a{b:Bool}{r:OE}(h:(Bool.rec .no r b:OE)=.ok O D):b=true∧r=.ok O D:=by
 cases b with
 |false=>cases h
 |true=>exact⟨rfl,h⟩
def zgp{x:DOp}{l g:List DOp}(h:(V5 P n ops (x::l) g).run k O D=.ok vC vX) :
  ∃z A j,(Sg P n ops x.o).run k O D=.ok z A∧(V5 P n ops l j).run k z A=.ok vC vX ∧
   ((x.c=.quiet∧j=g)∨(x.c=.rd∧j=x::g)∨(x.c=.al∧j=x::g∧(pz P ops (x::g)).run z A=true) ∨
    (x.c=.ch∧j=Pl (λy=>!(Nat.testBit x.m y.i)) g∧(pz P ops j).run z A=true)):=by
 simp only[V5]at h;split at h
 ·rename_i C;obtain⟨z,A,E,B⟩:=zcc h;exact⟨z,A,g,E,B,.inl ⟨C,rfl⟩⟩
 ·rename_i C;obtain⟨z,A,E,B⟩:=zcc h;exact⟨z,A,x::g,E,B,.inr (.inl ⟨C,rfl⟩)⟩
 ·rename_i C;obtain⟨z,A,E,B⟩:=zcc h;obtain⟨F,B⟩:=z8a B;exact⟨z,A,x::g,E,B,.inr (.inr (.inl ⟨C,rfl,F⟩))⟩
 ·rename_i C;obtain⟨z,A,E,B⟩:=zcc h;obtain⟨F,B⟩:=z8a B;exact⟨z,A,_,E,B,.inr (.inr (.inr ⟨C,rfl,F⟩))⟩
def ze4(D:n≤Ry){d:Nat}(hd:d≤Ry):∀{l g:List DOp} {A j:Tr AV} {I B:Heap},(V5 P n ops l g).run k A I=.ok j B→(∀y∈l,y.o.dst≠some d)→On (O1 d) j=On (O1 d) A
 |[],_,_,_,_,_,h,_=>Cb
 |x::l,g,A,j,I,B,h,C=>by
  obtain⟨K,M,z,E,F,_⟩:=zgp h;rw[ze4 D hd F (λy q=>C y (by simp[q]))];obtain⟨v,G,O,_⟩:=z4x E;rw[G];cases H:x.o.dst with
  |none=>rfl
  |some e =>
   rw[show Qf (some e) v A=P7 v (O1 e) A from rfl,zm];intro q;subst q;exact C x N H
def rechecks_mem:∀{l:List DOp} {j:Tr AV} {z:Heap},(pz P ops l).run j z=true→∀x∈l,(Zt P ops x).run j z=true
 |[],_,_,_,x,g=>Fi
 |y::l,j,z,h,x,g=>by
  simp only[pz]at h;split at h
  ·rename_i A;rcases J9.1 g with rfl|g
   ·exact A
   ·exact rechecks_mem h x g
  ·cases h
def zlu(V:Fit P ops L){x:DOp}(M:x∈L)(E:x.c=.rd)(F:Xk ops L E0 Ef x O)(Q:Tq P n ops k L E0 Ef x D D)(R:∀d,x.o.dst=some d→On (O1 d) Ef=On (O1 d) O)
  (h:(Zt P ops x).run O vX=true):Tq P n ops k L E0 Ef x vX vX:=by
 have B:Yg (Pp P x.o.op):=zaj.2 (by rw[←V.ok.cl x M];exact E);obtain⟨v,g,T⟩:=Q O F;unfold Zt at h;cases hd:x.o.dst with
 |none=>rw[hd]at h;cases h
 |some d =>
  rw[hd]at h g;dsimp only at h;obtain⟨G,C⟩:=T d hd;have U:Sf n (some d)=some ⟨λa O=>P7 a (O1 d) O⟩:=by unfold Sf;dsimp only;rw[J8 C]
  have j:(Sg P n ops x.o).run k O vX=.ok (Qf (some d) v O) vX:=by
   unfold Sg at g ⊢;rw[hd,U]at g ⊢;dsimp only at g ⊢;cases H:(Tw ops x.o).run O with
   |false =>
    rw[H]at g;dsimp only at g ⊢;injection g with g
    rw[g]
   |true =>
    rw[H]at h g;dsimp only at h g ⊢;rw[←R d hd,G]at h;dsimp only at h;have I:=B O vX;cases A:(Pp P x.o.op).run O vX with
    |no=>rw[A]at h;cases h
    |call t K=>rw[A]at h;cases h
    |val X Y =>
     rw[A,E]at h;rw[A]at I;dsimp only at h ⊢;cases I;rw[ziu (eqAV_spec _ _ _) h];rfl
  refine z8c j F (λZ z _=>?_);rw[hd]at z;cases z;rw[kv,G]
def So(P:Program)(n:Nat)(ops:Array Oper)(k:R9)(L:List DOp)(E0 Ef:Tr AV)(x:DOp):Prop:=∀g,Tq P n ops k L E0 Ef x g g
noncomputable def R6(Ef:Tr AV)(x:DOp):Nat:=((x.o.dst.bind λd=>On (O1 d) Ef).bind Pg).getD 0
def gc(P:Program)(n:Nat)(ops:Array Oper)(L:List DOp)(E0 Ef:Tr AV)(x:DOp)(g:Heap):Prop :=
 ∃d j,x.o.dst=some d∧d<n∧On (O1 d) Ef=some j∧Pg j=some (R6 Ef x)∧∀B,Xk ops L E0 Ef x B→(Tw ops x.o).run B=true ∧
  ∃z A,(Pp P x.o.op).run B g=.val z A∧j=Rz (R6 Ef x) z∧∃a b,g.get (R6 Ef x)=some a∧A.get g.next=some b∧Yq (eqObj a b) a b=true
def z6z{x:DOp}(g:Td (Vq ops x.o) vC O):(Pp P x.o.op).run vC D=(Pp P x.o.op).run O D :=
 zgd (Td.opds (λt j=>g t (by simp[Vq,j])))
def zvp{x:DOp}(C:x.c=.al)(I:Xk ops L E0 Ef x O)(K:(Tw ops x.o).run O=true){d:Nat}(hd:x.o.dst=some d)(F:d<n)(M:On (O1 d) Ef=some E)
  (T:On (O1 d) O=some E) (h:(Zt P ops x).run O D=true):gc P n ops L E0 Ef x D:=by
 unfold Zt at h;rw[hd]at h;dsimp only at h;rw[K,T]at h;dsimp only at h;cases A:(Pp P x.o.op).run O D with
 |no=>rw[A]at h;cases h
 |call t Q=>rw[A]at h;cases h
 |val G R =>
  rw[A,C]at h;dsimp only at h;unfold zte at h;cases j:Pg E with
  |none=>rw[j]at h;cases h
  |some id =>
   rw[j]at h;dsimp only at h;have g:R6 Ef x=id:=by unfold R6;rw[hd];simp[M,j]
   cases he:Yq (Sl 30 E (Rz id G)) E (Rz id G) with
   |false=>rw[he]at h;cases h
   |true =>
    rw[he]at h;dsimp only at h;cases B:D.get id with
    |none=>rw[B]at h;cases h
    |some a =>
     cases H:R.get D.next with
     |none=>rw[B,H]at h;cases h
     |some b =>
      rw[B,H]at h;refine⟨d,E,hd,F,M,by rw[g,j],λU z=>⟨by rw[us (I.same z)];exact K,G,R,by rw[z6z (I.same z)];exact A,by rw[g];exact ziu (eqAV_spec _ _ _) he,a,b,by rw[g];exact B,H,h⟩⟩
def d9(gg:Fit P ops L){x:DOp}(U:x∈L)(z:x.c=.al){E1:Tr AV}(h:(Sg P n ops x.o).run k O D=.ok E1 vX)(M:Xk ops L E0 Ef x O)(A:Xk ops L E0 Ef x E1)
  (Q:∀d,x.o.dst=some d→d<n→On (O1 d) Ef=On (O1 d) E1) (g:(Zt P ops x).run E1 vX=true) :
  (So P n ops k L E0 Ef x∧vX=D)∨(∃F,True∧vX=D.push F∧zm9 F∧R6 Ef x=D.next∧gc P n ops L E0 Ef x vX):=by
 have j:=zpt (P:=P) (o:=x.o) (by rw[←gg.ok.cl x U];exact z) O D;have h0:=h;unfold Sg at h;cases G:Sf n x.o.dst with
 |none=>rw[G]at h;cases h
 |some p =>
  rw[G]at h;dsimp only at h;obtain⟨B,I⟩:=z9o G;cases H:(Tw ops x.o).run O with
  |false =>
   rw[H]at h;cases h;refine .inl ⟨λV=>?_,rfl⟩;refine z8c (E1:=p.run Tc O) ?_ M Q;unfold Sg;rw[G];dsimp only;rw[H]
  |true =>
   rw[H]at h;dsimp only at h;cases K:(Pp P x.o.op).run O D with
   |no=>rw[K]at h;cases h
   |call t R=>rw[K]at j;exact j.elim
   |val v V =>
    rw[K]at h j;cases h;obtain⟨F,X,rfl,Y,Z,_⟩:=j;cases hd:x.o.dst with
    |none =>
     unfold Zt at g;rw[hd]at g;cases g
    |some d =>
     have C:=I d hd;have E:On (O1 d) (p.run v O)=some v:=by rw[B,hd,kv]
     have T:On (O1 d) Ef=some v:=by rw[Q d hd C,E]
     refine .inr ⟨F,X,rfl,Z,?_,zvp z A (by rw[us (M.same A)];exact H) hd C T E g⟩;unfold R6;rw[hd];simp[T,Y]
def zlg(P:Program)(n:Nat)(ops:Array Oper)(k:R9)(L:List DOp)(E0 Ef:Tr AV)(x:DOp)(g:Heap):Prop :=
 (x.c=.rd∧Tq P n ops k L E0 Ef x g g)∨(x.c=.al∧(So P n ops k L E0 Ef x∨gc P n ops L E0 Ef x g))
def zm8(H:Fit P ops L){x:DOp}(E:x∈L)(z:Xk ops L E0 Ef x O)(g:zlg P n ops k L E0 Ef x D)(A:∀d,x.o.dst=some d→On (O1 d) Ef=On (O1 d) O)
  (h:(Zt P ops x).run O vX=true):zlg P n ops k L E0 Ef x vX:=by
 rcases g with ⟨j,g⟩|⟨j,g|g⟩
 ·exact .inl ⟨j,zlu H E j z g A h⟩
 ·exact .inr ⟨j,.inl g⟩
 ·obtain⟨d,I,B,F,C,_,G⟩:=g;exact .inr ⟨j,.inr (zvp j z (G O z).1 B F C (by rw[←A d B];exact C) h)⟩
def AlPh(P:Program)(n:Nat)(ops:Array Oper)(L:List DOp)(E0 Ef:Tr AV)(ch:List DOp)(j g:Nat→Heap)(x:DOp)(r:Nat):Prop :=
 r≤ch.length∧(∀q c,q<r→ch[q]?=some c→Qu x.m c.i)∧(j r).next≤R6 Ef x∧R6 Ef x<(g r).next ∧
  ∀p,r≤p→p≤ch.length→(∀q c,r≤q→q<p→ch[q]?=some c→¬Qu c.m x.i)→gc P n ops L E0 Ef x (g p)
def zox(jg:Fit P ops L)(hn:n≤Ry):∀(l E:List DOp) (seen G s:Nat) (jH:Tr AV) (gZ H':Heap),(V5 P n ops l E).run k jH gZ=.ok Ef H'→Qn l seen G=some s→(∀x∈l,x∈L) →
  (∀x∈E,x∈L∧U5 x=true∧Qu seen x.i∧(∀d,x.o.dst=some d→d<n)∧zlg P n ops k L E0 Ef x gZ)→ac L E0 Ef (Qu seen) jH→DC L (Qu seen) →
  ac L E0 Ef (Qu s) Ef∧DC L (Qu s) ∧
  ∃(Hb R:Nat→Heap) (T:Nat→Nat),Hb 0=gZ∧R (Pl Ou l).length=H'∧(∀p,p≤(Pl Ou l).length→Ups (Hb p) (R p)) ∧
   (∀q c,(Pl Ou l)[q]?=some c→Tq P n ops k L E0 Ef c (R q) (Hb (q+1))) ∧
   (∀x∈l,x.c=.rd→∃r,r≤(Pl Ou l).length∧(∀q c,q<r→(Pl Ou l)[q]?=some c→Qu x.m c.i)∧∀p,r≤p→p≤(Pl Ou l).length→(∀q c,r≤q→q<p→(Pl Ou l)[q]?=some c→¬Qu c.m x.i)→Tq P n ops k L E0 Ef x (R p) (R p)) ∧
   (∀x∈l,x.c=.quiet→∀H2,Tq P n ops k L E0 Ef x H2 H2) ∧
   (∀x∈l,x.c=.al→So P n ops k L E0 Ef x∨AlPh P n ops L E0 Ef (Pl Ou l) Hb R x (T x.i)) ∧
   (∀x∈l,∀y∈l,x.c=.al→y.c=.al→¬So P n ops k L E0 Ef x→¬So P n ops k L E0 Ef y→T x.i=T y.i→R6 Ef x=R6 Ef y→x=y) ∧
   (∀x∈E,∀p,p≤(Pl Ou l).length→(∀q c,q<p→(Pl Ou l)[q]?=some c→¬Qu c.m x.i)→zlg P n ops k L E0 Ef x (R p))
 |[],E,seen,G,s,jH,gZ,H',h,ht,hl,hp,hE,hD=>by
  cases h;simp only[Qn,Option.some.injEq]at ht;subst ht;refine⟨hE,hD,λ_=>gZ,λ_=>gZ,λ_=>0,rfl,rfl,λ_ _=>.refl _,λq c K=>(by cases K),λx F=>(by cases F),λx F=>(by cases F),λx F=>(by cases F),λx F=>(by cases F),λx F p _ _=>(hp x F).2.2.2.2⟩
 |x::l,E,seen,G,s,jH,gZ,H',h,ht,hl,hp,hE,hD=>by
  obtain⟨E1,Z,U,h1,h2,h3⟩:=zgp h;obtain⟨t1,t2,t3⟩:=z7p ht;have F:x∈L:=hl x N;have jz:Xk ops L E0 Ef x jH:=ci jg hD F t1 (.inl (by unfold Qu;rw[t2];simp)) hE;have gR:∀y∈l,y.i≠x.i:=by
   have jI:∀gT,Qn l (Nat.lor (2^x.i) seen) gT=some s→∀y∈l,y.i≠x.i:=λgT h' y j e=>by
    have:=topo_new h' y j;rw[Z1,sq,e]at this;simp at this
   rcases t3 with ⟨_,h3⟩|⟨_,_,h3⟩|⟨_,_,h3⟩<;>exact jI _ h3
  obtain⟨v,s1,s2,s3⟩:=z4x h1;have X:∀d,x.o.dst=some d→d<n→On (O1 d) Ef=On (O1 d) E1:=λd hd jK =>
   ze4 hn (K4 (N6 jK) hn) h2 (λy j e=>gR y j (by rw[jg.dst y (hl y Ay) x F d e hd]))
  have gB:Tq P n ops k L E0 Ef x gZ Z:=z8c h1 jz X;have hS:(Qu (Nat.lor (2^x.i) seen))=λjA=>Qu seen jA∨jA=x.i:=by
   funext jA
   unfold Qu;rw[Z1,sq];simp only[K8,Kb,eq_iff_iff];constructor
   ·rintro (e|e)
    ·exact .inr e.symm
    ·exact .inl e
   ·rintro (e|e)
    ·exact .inr e
    ·exact .inl e.symm
  have gg:ac L E0 Ef (Qu (Nat.lor (2^x.i) seen)) E1:=by
   rw[hS,s1];refine hE.put jg hn F (λd hd=>⟨?_,s2 d hd⟩);rw[X d hd (s2 d hd),s1,hd,kv]
  have gA:DC L (Qu (Nat.lor (2^x.i) seen)):=by
   rw[hS];rintro y j (hs|hs) jA hj
   ·exact .inl (hD y j hs jA hj)
   ·rw[jg.ok.inj y j x F hs]at hj;exact .inl (t1 jA hj)
  have gK:∀y∈l,y∈L:=λy j=>hl y Ay
  have H:Qu (Nat.lor (2^x.i) seen) x.i:=by rw[hS];exact .inr rfl
  have A:∀jA,Qu seen jA→Qu (Nat.lor (2^x.i) seen) jA:=λjA hj=>by rw[hS];exact .inl hj
  have I:∀y,y∈L→U5 y=true→Qu (Nat.lor (2^x.i) seen) y.i→Xk ops L E0 Ef y E1:=λy a b c=>ci jg gA a (λjA hj=>gA y a c jA hj) (.inr b) gg
  have gU:∀y,y∈L→Qu (Nat.lor (2^x.i) seen) y.i→(∀d,y.o.dst=some d→d<n)→∀d,y.o.dst=some d→On (O1 d) Ef=On (O1 d) E1:=λy a c hd e he=>by
   rw[gg e (K4 (N6 (hd e he)) hn)];unfold jv;rw[J8 ⟨y,a,c,he⟩]
  rcases h3 with ⟨z,rfl⟩|⟨z,rfl⟩|⟨z,rfl,gL⟩|⟨z,jC,gL⟩
  ·
   have O:Qn l (Nat.lor (2^x.i) seen) G=some s:=by
    rcases t3 with ⟨_,t3⟩|⟨e,_⟩|⟨e,_⟩
    ·exact t3
    ·rw[z]at e;rcases e with e|e<;>cases e
    ·rw[z]at e;cases e
   have K:Ui (Pp P x.o.op):=zaj.1 (by rw[←jg.ok.cl x F];exact z);have hH:Z=gZ:=z4t K.reads h1;subst hH;have hf:Pl Ou (x::l)=Pl Ou l:=Cp
   obtain⟨r0,V,Hb,R,T,r1,r2,ru,r3,r4,r5,ra,ri,r6⟩:=zox jg hn l U _ G s E1 Z H' h2 O gK (λy j=>let ⟨a,b,c,d⟩:=hp y j;⟨a,b,A _ c,d⟩) gg gA;rw[hf];refine⟨r0,V,Hb,R,T,r1,r2,ru,r3,λy j g=>?_,λy j g H2=>?_,λy j g=>?_,λy j jF Y g C=>?_,r6⟩
   ·rcases J9.1 j with rfl|j
    ·rw[z]at g;cases g
    ·exact r4 y j g
   ·rcases J9.1 j with rfl|j
    ·exact z8c (zhn K h1 H2) jz X
    ·exact r5 y j g H2
   ·rcases J9.1 j with rfl|j
    ·rw[z]at g;cases g
    ·exact ra y j g
   ·rcases J9.1 j with rfl|j
    ·rw[z]at g;cases g
    ·rcases J9.1 Y with rfl|Y
     ·rw[z]at C;cases C
     ·exact ri y j jF Y g C
  ·
   have O:Qn l (Nat.lor (2^x.i) seen) G=some s:=by
    rcases t3 with ⟨e,_⟩|⟨_,_,t3⟩|⟨e,_⟩
    ·rw[z]at e;cases e
    ·exact t3
    ·rw[z]at e;cases e
   have K:Yg (Pp P x.o.op):=zaj.2 (by rw[←jg.ok.cl x F];exact z);have hH:Z=gZ:=z4t K h1;subst hH;have hf:Pl Ou (x::l)=Pl Ou l:=Cp
   obtain⟨r0,V,Hb,R,T,r1,r2,ru,r3,r4,r5,ra,ri,r6⟩:=zox jg hn l (x::E) _ G s E1 Z H' h2 O gK (λy j=>by
    rcases J9.1 j with rfl|j
    ·exact⟨F,by unfold U5;rw[z],H,s2,.inl ⟨z,gB⟩⟩
    ·obtain⟨a,b,c,d⟩:=hp y j;exact⟨a,b,A _ c,d⟩) gg gA
   rw[hf];refine⟨r0,V,Hb,R,T,r1,r2,ru,r3,λy j g=>?_,λy j g H2=>?_,λy j g=>?_,λy j jF Y g C=>?_,λy j=>r6 y Ay⟩
   ·rcases J9.1 j with rfl|j
    ·refine⟨0,M6 _,λq c K=>absurd K (Nz q),λp _ B D=>?_⟩;rcases r6 y N p B (λq c K=>D q c (M6 q) K) with ⟨_,h⟩|⟨h,_⟩
     ·exact h
     ·rw[z]at h;cases h
    ·exact r4 y j g
   ·rcases J9.1 j with rfl|j
    ·rw[z]at g;cases g
    ·exact r5 y j g H2
   ·rcases J9.1 j with rfl|j
    ·rw[z]at g;cases g
    ·exact ra y j g
   ·rcases J9.1 j with rfl|j
    ·rw[z]at g;cases g
    ·rcases J9.1 Y with rfl|Y
     ·rw[z]at C;cases C
     ·exact ri y j jF Y g C
  ·
   have O:Qn l (Nat.lor (2^x.i) seen) G=some s:=by
    rcases t3 with ⟨e,_⟩|⟨_,_,t3⟩|⟨e,_⟩
    ·rw[z]at e;cases e
    ·exact t3
    ·rw[z]at e;cases e
   have gC:U5 x=true:=by unfold U5;rw[z]
   have hf:Pl Ou (x::l)=Pl Ou l:=Cp
   have gD:=d9 jg F z h1 jz (I x F gC H) X (rechecks_mem gL x N);have jL:zlg P n ops k L E0 Ef x Z:=by
    rcases gD with ⟨h,_⟩|⟨_,_,_,_,_,h⟩
    ·exact .inr ⟨z,.inl h⟩
    ·exact .inr ⟨z,.inr h⟩
   obtain⟨r0,V,Hb,R,T,r1,r2,ru,r3,r4,r5,ra,ri,r6⟩:=zox jg hn l (x::E) _ G s E1 Z H' h2 O gK (λy j=>by
    rcases J9.1 j with rfl|jM
    ·exact⟨F,gC,H,s2,jL⟩
    ·obtain⟨a,b,c,d,e⟩:=hp y jM;exact⟨a,b,A _ c,d,zm8 jg a (I y a b (A _ c)) e (gU y a (A _ c) d) (rechecks_mem gL y j)⟩) gg gA
   rw[hf];have gV:Ups gZ Z:=by
    rcases gD with ⟨_,rfl⟩|⟨ob,q1,rfl,q3,_⟩
    ·exact .refl _
    ·exact .push q1 q3 (.refl _)
   have gM:Ups Z (R 0):=by rw[←r1];exact ru 0 (M6 _)
   have jO:∀{jX jY jZ:Heap},Ups jX jY→Ups jY jZ→Ups jX jZ:=λ{jX jY jZ} h1=>by
    induction h1 with
    |refl=>exact id
    |push a b _ ih=>exact λh=>.push a b (ih h)
   have Q:∀y∈l,(if y.i=x.i then 0 else T y.i)=T y.i:=λy j=>J2 (gR y j)
   refine⟨r0,V,λp=>match p with
    |0=>gZ
    |p+1=>Hb (p+1),R,λi=>if i=x.i then 0 else T i,rfl,r2,λp B=>?_,r3,λy j g=>?_,λy j g H2=>?_,λy j g=>?_,λy j jF Y g C gF gG M gH=>?_,λy j p B D=>?_⟩
   ·cases p with
    |zero=>exact jO gV gM
    |succ p=>exact ru (p+1) B
   ·rcases J9.1 j with rfl|j
    ·rw[z]at g;cases g
    ·exact r4 y j g
   ·rcases J9.1 j with rfl|j
    ·rw[z]at g;cases g
    ·exact r5 y j g H2
   ·rcases J9.1 j with rfl|j
    ·rcases gD with ⟨h,_⟩|⟨ob,q1,q2,q3,q4,q5⟩
     ·exact .inl h
     ·refine .inr ?_;dsimp only;rw[J8 rfl];refine⟨M6 _,λq c K=>absurd K (Nz q),M7 q4.symm,?_,λp _ B D=>?_⟩
      ·have:=gM.next;rw[q2]at this;rw[q4];exact Kr (K7 _) this
      ·rcases r6 y N p B (λq c K=>D q c (M6 q) K) with ⟨h,_⟩|⟨_,h|h⟩
       ·rw[z]at h;cases h
       ·obtain⟨d,v0,g1,g2,g3,g4,g5⟩:=q5;exfalso;obtain⟨w1,w2,_⟩:=h Z E1 (I y F gC H);obtain⟨g6,_⟩:=g5 E1 (I y F gC H);have jD:=zpt (P:=P) (o:=y.o) (by rw[←jg.ok.cl y F];exact z) E1 Z;obtain⟨_,v',j0,g7,_⟩:=g5 E1 (I y F gC H);rw[g7]at jD;obtain⟨j1,m1,m2,_⟩:=jD;unfold Sg at w2;have B:Sf n y.o.dst=some ⟨λa jH=>P7 a (O1 d) jH⟩:=by rw[g1];unfold Sf;dsimp only;rw[J8 g2]
        rw[B]at w2;dsimp only at w2;rw[g6,g7]at w2;dsimp only at w2;injection w2 with _ w2
        rw[m2]at w2;have:=congrArg Heap.next w2;simp[Heap.push]at this
       ·exact h
    ·dsimp only;rw[Q y j];refine (ra y j g).imp id λ⟨a1,a2,a3,a4,a5⟩=>⟨a1,a2,?_,a4,a5⟩
     generalize T y.i=r at a3;cases r with
     |zero =>
      rw[r1]at a3;exact K4 gV.next a3
     |succ r=>exact a3
   ·dsimp only at M;have gX:∀u∈l,u.c=.al→¬So P n ops k L E0 Ef u→T u.i=0→∀ob,Z=gZ.push ob→R6 Ef u=gZ.next→False:=λu hu jP jQ gM ob he jE=>by
     rcases ra u hu jP with h|⟨_,_,a3,_⟩
     ·exact jQ h
     ·rw[gM,r1,he,jE]at a3;exact absurd a3 (Nat.not_succ_le_self _)
    rcases J9.1 j with ey|gO
    ·rcases J9.1 Y with ez|gI
     ·rw[ey,ez]
     ·subst ey;rw[J8 rfl,Q jF gI]at M;rcases gD with ⟨h,_⟩|⟨ob,q1,q2,q3,q4,q5⟩
      ·exact absurd h gF
      ·exact (gX jF gI C gG M.symm ob q2 (by rw[←gH,q4])).elim
    ·rcases J9.1 Y with ez|gI
     ·subst ez;rw[J8 rfl,Q y gO]at M;rcases gD with ⟨h,_⟩|⟨ob,q1,q2,q3,q4,q5⟩
      ·exact absurd h gG
      ·exact (gX y gO g gF M ob q2 (by rw[gH,q4])).elim
     ·rw[Q y gO,Q jF gI]at M;exact ri y gO jF gI g C gF gG M gH
   ·exact r6 y Ay p B D
  ·
   obtain⟨tc,O⟩:(∀jA,G.testBit jA=true→x.m.testBit jA=true)∧Qn l (Nat.lor (2^x.i) seen) (Nat.lor (2^x.i) G)=some s:=by
    rcases t3 with ⟨e,_⟩|⟨e,_⟩|⟨_,t3⟩
    ·rw[z]at e;cases e
    ·rw[z]at e;rcases e with e|e<;>cases e
    ·exact t3
   have hf:Pl Ou (x::l)=x::Pl Ou l:=Cp
   have jT:∀y∈U,y∈E∧¬Qu x.m y.i:=λy j=>by
    rw[jC]at j;obtain⟨a,b⟩:=Z4.1 j;exact⟨a,by unfold Qu;simpa using b⟩
   obtain⟨r0,V,Hb,R,T,r1,r2,ru,r3,r4,r5,ra,ri,r6⟩:=zox jg hn l U _ _ s E1 Z H' h2 O gK (λy j=>by
    obtain⟨a,b,c,d,e⟩:=hp y (jT y j).1;exact⟨a,b,A _ c,d,zm8 jg a (I y a b (A _ c)) e (gU y a (A _ c) d) (rechecks_mem gL y j)⟩) gg gA
   rw[hf];have gY:∀y∈l,y.c≠.quiet→∀r,(∀q c,q<r→(Pl Ou l)[q]?=some c→Qu y.m c.i)→∀q c,q<r+1→(x::Pl Ou l)[q]?=some c→Qu y.m c.i:=λy j g r u1 q c K jB=>by
    cases q with
    |zero =>
     simp only[Km,Option.some.injEq]at jB;subst jB;refine topo_chs O y j g _ ?_;rw[Z1,sq];simp
    |succ q=>exact u1 q c J (by simpa using jB)
   refine⟨r0,V,λq=>match q with
    |0=>gZ
    |q+1=>Hb q,λq=>match q with
    |0=>gZ
    |q+1=>R q,λi=>T i+1,rfl,r2,λp B=>?_,λq c K=>?_,λy j g=>?_,λy j g H2=>?_,λy j g=>?_,λy j jF Y g C gF gG M gH=>?_,λy j p B D=>?_⟩
   ·cases p with
    |zero=>exact .refl _
    |succ p=>simp only[Kn]at B;exact ru p J
   ·cases q with
    |zero =>
     simp only[Km,Option.some.injEq]at K;subst K;dsimp only;rw[r1];exact gB
    |succ q=>exact r3 q c (by simpa using K)
   ·rcases J9.1 j with rfl|j
    ·rw[z]at g;cases g
    ·obtain⟨r,u0,u1,u2⟩:=r4 y j g;refine⟨r+1,Dx,gY y j (by rw[g];exact λe=>An) r u1,λp hr B D=>?_⟩;cases p with
     |zero=>omega
     |succ p =>
      simp only[Kn]at B;exact u2 p J J (λq c h5 h6 h7=>D (q+1) c J J (by simpa using h7))
   ·rcases J9.1 j with rfl|j
    ·rw[z]at g;cases g
    ·exact r5 y j g H2
   ·rcases J9.1 j with rfl|j
    ·rw[z]at g;cases g
    ·refine (ra y j g).imp id λ⟨a1,a2,a3,a4,a5⟩=>⟨by simp only[Kn];show T y.i+1≤_;omega,gY y j (by rw[g];exact λe=>An) _ a2,a3,a4,λp hr B D=>?_⟩
     dsimp only at hr D;cases p with
     |zero=>omega
     |succ p =>
      simp only[Kn]at B;exact a5 p J J (λq c h5 h6 h7=>D (q+1) c J J (by simpa using h7))
   ·rcases J9.1 j with rfl|j
    ·rw[z]at g;cases g
    ·rcases J9.1 Y with rfl|Y
     ·rw[z]at C;cases C
     ·exact ri y j jF Y g C gF gG (Nat.succ.inj M) gH
   ·cases p with
    |zero=>exact (hp y j).2.2.2.2
    |succ p =>
     simp only[Kn]at B;have h0:=D 0 x J N;refine r6 y ?_ p J (λq c h6 h7=>D (q+1) c J (by simpa using h7));rw[jC];refine Z4.2 ⟨j,?_⟩;unfold Qu at h0;simpa using h0
def chain_order:∀{l:List DOp} {seen B s:Nat},Qn l seen B=some s→∀(q g:Nat) (c j:DOp),q<g→(Pl Ou l)[q]?=some c→(Pl Ou l)[g]?=some j→Qu j.m c.i
 |[],_,_,_,_,q,g,c,j,_,h,_=>by simp[Pl]at h
 |x::l,seen,B,s,F,q,g,c,j,C,h,z=>by
  obtain⟨_,_,G⟩:=z7p F;rcases G with ⟨A,t⟩|⟨A,_,t⟩|⟨A,_,t⟩
  ·have D:Pl Ou (x::l)=Pl Ou l:=by simp only[Pl];unfold Ou;rw[A]
   rw[D]at h z;exact chain_order t q g c j C h z
  ·have D:Pl Ou (x::l)=Pl Ou l:=by simp only[Pl];unfold Ou;rcases A with A|A<;>rw[A]
   rw[D]at h z;exact chain_order t q g c j C h z
  ·have D:Pl Ou (x::l)=x::Pl Ou l:=by simp only[Pl];unfold Ou;rw[A]
   rw[D]at h z;cases g with
   |zero=>omega
   |succ g =>
    simp only[Kh]at z;cases q with
    |zero =>
     simp only[Km,Option.some.injEq]at h;subst h;obtain⟨hm,E⟩:=Z4.1 (Ma.2 ⟨_,z⟩);refine topo_chs t j hm (by rw[zbx.1 E];exact λe=>An) _ ?_;rw[Z1,sq];simp
    |succ q=>exact chain_order t q g c j J Ar z
end zox
end
section
section az
variable {P : Program} {n : Nat} {ops : Array Oper} {k : R9} {L : List DOp} {E0 Ef : Tr AV}
def zik{S:Nat→Prop}:∀{l:List DOp} {seen A s:Nat},Qn l seen A=some s→(∀z,Qu seen z→S z)→(∀x∈l,S x.i)∨∃x∈l,¬S x.i∧∀z,Qu x.m z→S z
 |[],_,_,_,_,_=>.inl λx B=>by cases B
 |x::l,seen,A,s,h,F=>by
  obtain⟨G,I,C⟩:=z7p h;by_cases B:S x.i
  ·have E:∀g,Qn l (Nat.lor (2^x.i) seen) g=some s→(∀y∈x::l,S y.i)∨∃y∈x::l,¬S y.i∧∀z,Qu y.m z→S z:=λg H=>by
    rcases zik H (S:=S) (λz j=>by
     unfold Qu at j;rw[Z1,sq]at j;simp only[K8,Kb]at j;rcases j with rfl|j
     ·exact B
     ·exact F z j) with q|⟨y,D,q⟩
    ·exact .inl λy D=>by
      rcases J9.1 D with rfl|D
      ·exact B
      ·exact q y D
    ·exact .inr ⟨y,Ae,q⟩
   rcases C with ⟨_,C⟩|⟨_,_,C⟩|⟨_,_,C⟩<;>exact E _ C
  ·exact .inr ⟨x,N,B,λz j=>F z (G z j)⟩
def P0(listed:Array Bool)(i:Nat):Prop:=listed.getD i false=true
def gn{listed:Array Bool}{i:Nat}(hi:i<listed.size)(g:Nat):P0 (listed.setIfInBounds i true) g↔(P0 listed g∨g=i):=by
 unfold P0;rw[K3,Array.getElem?_setIfInBounds,K3];by_cases e:i=g
 ·subst e;simp[hi]
 ·have:¬g=i:=λq=>e q.symm
  simp[e,this]
def zla{listed:Array Bool}{i:Nat}(C:listed.size=ops.size):i∈Region.ready .any ops listed↔i<ops.size∧¬P0 listed i∧∃o,ops[i]?=some o∧∀e∈o.after.toList,Region.binds .any e=true→P0 listed e.on:=by
 unfold Region.ready P0;simp only[List.mem_filter,L4,Jz,L9];constructor
 ·rintro⟨g,j,z⟩;refine⟨g,?_,?_⟩
  ·rw[K3,Lt J]at j ⊢;simpa using j
  ·rw[Lt g]at z;simp only[L6,Ln]at z;refine⟨ops[i],Lt g,λe he A=>?_⟩;have:=Array.all_eq_true_iff_forall_mem.1 z e (by simpa using he);rw[A]at this;simpa using this
 ·rintro⟨g,j,o,z,B⟩;refine⟨g,?_,?_⟩
  ·rw[K3,Lt J]at j ⊢;simpa using j
  ·rw[z];simp only[L6,Ln];refine Array.all_eq_true_iff_forall_mem.2 λe he=>?_
   cases A:Region.binds .any e with
   |false=>rfl
   |true=>simpa using B e (by simpa using he) A
def zw1{g:CM}(h:I.le g){o:Nat}(z:∀v,I o v=none)(A:o<I.nx)(v:Nat):g o v=none:=by
 cases e:g o v with
 |none=>rfl
 |some L =>
  rcases h.new _ _ _ e with ⟨B,C,j⟩|j
  ·rw[z]at j;cases j
  ·omega
structure Pends (P:Program) (n:Nat) (ops:Array Oper) (k:R9) (L:List DOp) (E0 Ef:Tr AV) (ord:List DOp) (ph:Nat→Nat) (C0 C:CM) (Hp:Heap) (D:Nat→Prop) (p:Nat):Prop where
 known:∀x∈ord,x.c=.al→¬So P n ops k L E0 Ef x→ph x.i≤p→C0.nx≤R6 Ef x∧R6 Ef x<Hp.next
 inj:∀x∈ord,∀y∈ord,x.c=.al→y.c=.al→¬So P n ops k L E0 Ef x→¬So P n ops k L E0 Ef y→ph x.i≤p→ph y.i≤p→R6 Ef x=R6 Ef y→x=y
 pend:∀x∈ord,x.c=.al→¬So P n ops k L E0 Ef x→ph x.i≤p→¬D x.i→∀v,C (R6 Ef x) v=none
def sj(gA:Fit P ops L){x:DOp}(hx:x∈L)(B:x.c=.al)(ho:ops[x.i]?=some x.o){H:Heap}{w:World}{E:Tr AV}{a:Act}(R:Rel G I H w)(T:ER n I E a.tmps)
  (C:Xk ops L E0 Ef x E) (D:gc P n ops L E0 Ef x H) (F:R6 Ef x<H.next) (U:∀v,I (R6 Ef x) v=none) (b:Frame) (g:List Nat) (V:List Item) (X:List Frame) :
  ∃(K:Loc) (Y:World) (A:Value) (v:AV),Rel G (I.ext (R6 Ef x) 0 K) H Y∧I.keep (I.ext (R6 Ef x) 0 K)∧VR (I.ext (R6 Ef x) 0 K) v A∧(∀d,x.o.dst=some d→On (O1 d) Ef=some v∧d<n) ∧
   Steps P (lone (b.atR a (.inRegion ops (x.i::g)::V)) X w) (lone (b.atR (a.put x.o.dst A) (.inRegion ops g::V)) X Y):=by
 obtain⟨d,v0,g1,g2,g3,g4,g5⟩:=D;obtain⟨hg,Z,H',h1,h2,oa,gg,h3,h4,h5⟩:=g5 E C;have j:=zpt (P:=P) (o:=x.o) (by rw[←gA.ok.cl x hx];exact B) E H;rw[h1]at j;obtain⟨ob,m1,rfl,m3,m4,m5⟩:=j;rw[Heap.get_push_same]at h4;cases h4;obtain⟨M,n',sz,A,q1,q2⟩:=m5 I w a.eval (z8f T);have hk:I.keep (I.ext (R6 Ef x) 0 ⟨w.heap.size,0,n',sz⟩):=λo' Z L' O=>by
  by_cases e:o'=R6 Ef x∧Z=0
  ·obtain⟨rfl,rfl⟩:=e;rw[U]at O;cases O
  ·rw[CM.ext_ne I _ e];exact O
 obtain⟨q3,q4⟩:=q2 _ (R6 Ef x) hk (CM.ext_same _ _ _ _);obtain⟨q5,_⟩:=R.bind F U h3 M ((q4 _ R.low.size).same h5);have hw:Region.wanted x.o (yielded ops a.tmps)=true:=by rw[←zgu T ops x.o];exact hg
 have Q:=zfh (P:=P) (o:=x.o) (E:=E) (H:=H) (by rw[h1];intro e;cases e);refine⟨_,_,A,v0,q5,hk,by rw[h2];exact q3,λd' z=>?_,.one (zr0 ho hw Q q1)⟩;rw[g1]at z;cases z;exact⟨g3,g2⟩
def az(hk:ct P k)(gZ:Fit P ops L)(hn:n≤Ry){g:List DOp}{s:Nat}(gR:Qn g 0 0=some s)(M:∀x∈g,x∈L)(jg:∀i,i<ops.size→Qu s i)(jT:ac L E0 Ef (Qu s) Ef)
  {Hb I:Nat→Heap} {ph:Nat→Nat} (hU:∀p,p≤(Pl Ou g).length→Ups (Hb p) (I p))
  (hA:∀q c,(Pl Ou g)[q]?=some c→Tq P n ops k L E0 Ef c (I q) (Hb (q+1)))
  (hB:∀x∈g,x.c=.rd→∃r,r≤(Pl Ou g).length∧(∀q c,q<r→(Pl Ou g)[q]?=some c→Qu x.m c.i)∧∀p,r≤p→p≤(Pl Ou g).length→(∀q c,r≤q→q<p→(Pl Ou g)[q]?=some c→¬Qu c.m x.i)→Tq P n ops k L E0 Ef x (I p) (I p))
  (jU:∀x∈g,x.c=.quiet→∀H2,Tq P n ops k L E0 Ef x H2 H2)
  (hL:∀x∈g,x.c=.al→So P n ops k L E0 Ef x∨AlPh P n ops L E0 Ef (Pl Ou g) Hb I x (ph x.i))
  (hI:∀x∈g,∀y∈g,x.c=.al→y.c=.al→¬So P n ops k L E0 Ef x→¬So P n ops k L E0 Ef y→ph x.i=ph y.i→R6 Ef x=R6 Ef y→x=y)
  {C0:CM} (b:Frame) (kk:List Item) (cs:List Frame) :
  ∀(j t:Nat) (listed:Array Bool) (j5:List Nat) (p:Nat) (jE:CM) (w:World) (a:Act) (gY:Tr AV),listed.size=ops.size→j5.length≤j→(∀i,i<ops.size→¬P0 listed i→i∈j5) →
   ac L E0 Ef (P0 listed) gY→DC L (P0 listed)→Rel G jE (I p) w→ER n jE gY a.tmps→(∀q c,(Pl Ou g)[q]?=some c→(P0 listed c.i↔q<p))→p≤(Pl Ou g).length →
   C0.le jE→Pends P n ops k L E0 Ef g ph C0 jE (I p) (P0 listed) p →
   ∃C' w' a',C0.le C'∧Rel G C' (I (Pl Ou g).length) w'∧ER n C' Ef a'.tmps∧a'.defers=a.defers ∧
    Steps P (lone (b.atR a (.inRegion ops (Region.linearise.go .any ops j t listed [])::kk)) cs w) (lone (b.atR a' (.inRegion ops []::kk)) cs w'):=by
 have jF:∀x∈L,x∈g:=λx R=>by
  rcases (topo_seen gR x.i).1 (jg x.i (gZ.ok.op x R).2) with h|⟨y,C,e⟩
  ·simp at h
  ·rwa [←gZ.ok.inj y (M y C) x R e]
 have jz:∀(listed:Array Bool) (p:Nat) (jE:CM) (w:World) (a:Act) (gY:Tr AV),(∀i,i<ops.size→P0 listed i)→ac L E0 Ef (P0 listed) gY→Rel G jE (I p) w→ER n jE gY a.tmps →
   (∀q c,(Pl Ou g)[q]?=some c→(P0 listed c.i↔q<p))→p≤(Pl Ou g).length→C0.le jE →
   ∃C' w' a',C0.le C'∧Rel G C' (I (Pl Ou g).length) w'∧ER n C' Ef a'.tmps∧a'.defers=a.defers ∧
    Steps P (lone (b.atR a (.inRegion ops []::kk)) cs w) (lone (b.atR a' (.inRegion ops []::kk)) cs w'):=by
  intro listed p jE w a gY hd hE hR D E hp F;have T:p=(Pl Ou g).length:=by
   rcases Mw p (Pl Ou g).length with h|h
   ·have hm:=Na h;have:=(E p _ (J5 h)).1 (hd _ (gZ.ok.op _ (M _ (Z4.1 hm).1)).2);omega
   ·omega
  subst T;refine⟨jE,w,a,F,hR,⟨D.1,D.2.1,λt ht=>?_⟩,rfl,.refl _ _⟩;have e:On (O1 t) Ef=On (O1 t) gY:=by
   rw[hE t ht,jT t ht];unfold jv;have:Xw L (Qu s) t↔Xw L (P0 listed) t:=by
    constructor
    ·rintro⟨y,C,_,h⟩;exact⟨y,C,hd _ (gZ.ok.op y C).2,h⟩
    ·rintro⟨y,C,_,h⟩;exact⟨y,C,jg _ (gZ.ok.op y C).2,h⟩
   by_cases q:Xw L (Qu s) t
   ·rw[J8 q,J8 (this.1 q)]
   ·rw[J2 q,J2 (λjV=>q (this.2 jV))]
  rw[e];exact D.2.2 t ht
 intro j
 induction j with
 |zero =>
  intro t listed j5 p jE w a gY hs hT gT hE hD hR D E hp F B;have hd:∀i,i<ops.size→P0 listed i:=λi hi=>by
   by_cases h:P0 listed i
   ·exact h
   ·have:=gT i hi h;have jX:j5=[]:=Kk J;rw[jX]at this;cases this
  exact jz listed p jE w a gY hd hE hR D E hp F
 |succ j ih =>
  intro t listed j5 p jE w a gY hs hT gT hE hD hR D E hp F B;simp only[Region.linearise.go];change ∃C' w' a',C0.le C'∧Rel G C' (I (Pl Ou g).length) w'∧ER n C' Ef a'.tmps∧a'.defers=a.defers ∧
   Steps P (lone (b.atR a (.inRegion ops (match (Region.ready .any ops listed)[t%(Region.ready .any ops listed).length]? with
    |some i=>Region.linearise.go .any ops j (t/(Region.ready .any ops listed).length) (listed.setIfInBounds i true) [i]
    |none=>[].reverse)::kk)) cs w) (lone (b.atR a' (.inRegion ops []::kk)) cs w')
  cases hi:(Region.ready .any ops listed)[t%(Region.ready .any ops listed).length]? with
  |none =>
   have jG:Region.ready .any ops listed=[]:=by
    cases hr:Region.ready .any ops listed with
    |nil=>rfl
    |cons x xs =>
     rw[hr]at hi;have gA:t%(x::xs).length<(x::xs).length:=Nat.mod_lt _ N;rw[J5 gA]at hi;cases hi
   have hd:∀i,i<ops.size→P0 listed i:=by
    rcases zik gR (S:=P0 listed) (λgD hj=>by simp[Qu]at hj) with h|⟨x,R,h1,h2⟩
    ·intro i hi;obtain⟨x,R,rfl⟩:=gZ.ok.all i hi;exact h x (jF x R)
    ·have jH:=M x R;obtain⟨ho,gA⟩:=gZ.ok.op x jH;have:x.i∈Region.ready .any ops listed:=(zla hs).2 ⟨gA,h1,x.o,ho,λe he hb=>h2 _ (gZ.ok.edge x jH e he hb)⟩;rw[jG]at this;cases this
   exact jz listed p jE w a gY hd hE hR D E hp F
  |some i =>
   dsimp only;rw[linearise_go_acc,List.reverse_singleton,List.singleton_append];obtain⟨gA,gB,o,ho,gF⟩:=(zla hs).1 (Kg hi);obtain⟨x,R,rfl⟩:=gZ.ok.all i gA;have jI:=(gZ.ok.op x R).1;rw[ho]at jI;cases jI;have H:∀gD,Qu x.m gD→P0 listed gD:=λgD hj=>by
    obtain⟨e,he,hb,rfl|⟨y,C,e1,e2⟩⟩:=gZ.ok.msk x R gD hj
    ·exact gF e he hb
    ·exact hD y C (by rw[e1];exact gF e he hb) gD e2
   have jB:Xk ops L E0 Ef x gY:=ci gZ hD R H (.inl gB) hE;have U:=jF x R;have jC:∃p' O w1 xv v,C0.le O∧Rel G O (I p') w1∧ER n O (Qf x.o.dst v gY) (a.put x.o.dst xv).tmps∧(∀d,x.o.dst=some d→On (O1 d) Ef=some v∧d<n) ∧
     Steps P (lone (b.atR a (.inRegion ops (x.i::Region.linearise.go .any ops j (t/(Region.ready .any ops listed).length) (listed.setIfInBounds x.i true) [])::kk)) cs w)
      (lone (b.atR (a.put x.o.dst xv) (.inRegion ops (Region.linearise.go .any ops j (t/(Region.ready .any ops listed).length) (listed.setIfInBounds x.i true) [])::kk)) cs w1) ∧
     p'≤(Pl Ou g).length∧(∀q c,(Pl Ou g)[q]?=some c→((P0 listed c.i∨c.i=x.i)↔q<p')) ∧
     Pends P n ops k L E0 Ef g ph C0 O (I p') (λgD=>P0 listed gD∨gD=x.i) p':=by
    have gG:x.c≠.ch→∀q c,(Pl Ou g)[q]?=some c→((P0 listed c.i∨c.i=x.i)↔q<p):=λgH q c hq=>by
     rw[←E q c hq];constructor
     ·rintro (h|h)
      ·exact h
      ·obtain⟨hm,V⟩:=Z4.1 (Ma.2 ⟨_,hq⟩);rw[gZ.ok.inj c (M c hm) x R h]at V;exact absurd (zbx.1 V) gH
     ·exact .inl
    have Y:∀r,r≤(Pl Ou g).length→(∀q c,q<r→(Pl Ou g)[q]?=some c→Qu x.m c.i)→r≤p:=λr u0 u1=>by
     rcases Mw p r with h|h
     ·have T:p<(Pl Ou g).length:=J
      have:=(E p _ (J5 T)).1 (H _ (u1 p _ h (J5 T)));omega
     ·exact h
    have gI:∀r q c,r≤q→q<p→(Pl Ou g)[q]?=some c→¬Qu c.m x.i:=λr q c _ hq jK hb=>by
     have hm:=(Z4.1 (Ma.2 ⟨_,jK⟩)).1;exact gB (hD c (M c hm) ((E q c jK).2 hq) _ hb)
    have X:=λ(gH:x.c≠.ch) (jY:Tq P n ops k L E0 Ef x (I p) (I p))=>show ∃p' O w1 xv v,C0.le O∧Rel G O (I p') w1∧ER n O (Qf x.o.dst v gY) (a.put x.o.dst xv).tmps∧(∀d,x.o.dst=some d→On (O1 d) Ef=some v∧d<n) ∧
     Steps P (lone (b.atR a (.inRegion ops (x.i::Region.linearise.go .any ops j (t/(Region.ready .any ops listed).length) (listed.setIfInBounds x.i true) [])::kk)) cs w)
      (lone (b.atR (a.put x.o.dst xv) (.inRegion ops (Region.linearise.go .any ops j (t/(Region.ready .any ops listed).length) (listed.setIfInBounds x.i true) [])::kk)) cs w1) ∧
     p'≤(Pl Ou g).length∧(∀q c,(Pl Ou g)[q]?=some c→((P0 listed c.i∨c.i=x.i)↔q<p')) ∧
     Pends P n ops k L E0 Ef g ph C0 O (I p') (λgD=>P0 listed gD∨gD=x.i) p' from by
     obtain⟨v,gK,Q⟩:=jY gY jB;obtain⟨O,w1,xv,av,q1,q2,q3,q4,q5,q6⟩:=zgs hk ho hR D gK b (Region.linearise.go .any ops j (t/(Region.ready .any ops listed).length) (listed.setIfInBounds x.i true) []) kk cs;refine⟨p,O,w1,xv,v,CM.le_trans F q1,q2,by rw[q4];exact (D.mono q1).put q5 q3,Q,q6,hp,gG gH,⟨B.known,B.inj,λy C z A K gC v=>?_⟩⟩;exact zw1 q1 (B.pend y C z A K (λh=>gC (.inl h))) (by rw[hR.nx];exact (B.known y C z A K).2) v
    cases V:x.c with
    |quiet=>exact X (by rw[V];exact λe=>An) (jU x U V _)
    |rd =>
     obtain⟨r,u0,u1,u2⟩:=hB x U V;exact X (by rw[V];exact λe=>An) (u2 p (Y r u0 u1) hp (gI r))
    |al =>
     by_cases gL:So P n ops k L E0 Ef x
     ·exact X (by rw[V];exact λe=>An) (gL _)
     ·rcases hL x U V with h|⟨u0,u1,u2,u3,u4⟩
      ·exact absurd h gL
      ·have gU:=Y _ u0 u1;have jZ:=u4 p gU hp (gI _);obtain⟨k1,k2⟩:=B.known x U V gL gU;have jL:=B.pend x U V gL gU gB;obtain⟨Lc,w1,xv,v,q1,q2,q3,q4,q5⟩:=sj gZ R V ho hR D jB jZ k2 jL b (Region.linearise.go .any ops j (t/(Region.ready .any ops listed).length) (listed.setIfInBounds x.i true) []) kk cs;refine⟨p,_,w1,xv,v,⟨λo v L h=>q2 _ _ _ (F.keep _ _ _ h),K4 F.nx (Mi _ _),λo v L h=>?_⟩,q1,(D.mono' q2).put (λt ht=>(q4 t ht).2) q3,q4,q5,hp,gG (by rw[V];exact λe=>An),
        ⟨B.known,B.inj,λy C z A K gC v=>?_⟩⟩
       ·by_cases e:o=R6 Ef x∧v=0
        ·obtain⟨rfl,rfl⟩:=e;exact .inr k1
        ·rw[CM.ext_ne _ _ e]at h;exact F.new _ _ _ h
       ·have gH:R6 Ef y≠R6 Ef x:=λe=>gC (.inr (by rw[B.inj y C x U z V A gL K gU e]))
        rw[CM.ext_ne _ _ (λe=>gH e.1)];exact B.pend y C z A K (λh=>gC (.inl h)) v
    |ch =>
     obtain⟨q,hq⟩:=Ma.1 (Z4.2 ⟨U,zbx.2 V⟩);have j6:¬q<p:=λh=>gB ((E q x hq).2 h)
     have j7:=(Jx.1 hq).1;have j0:q=p:=by
      rcases Mw p q with h|h
      ·have T:p<(Pl Ou g).length:=J
       have:=(E p _ (J5 T)).1 (H _ (chain_order gR p q _ x h (J5 T) hq));omega
      ·omega
     subst j0;obtain⟨v,gK,Q⟩:=hA q x hq gY jB;obtain⟨O,w1,xv,av,q1,q2,q3,q4,q5,q6⟩:=zgs hk ho hR D gK b (Region.linearise.go .any ops j (t/(Region.ready .any ops listed).length) (listed.setIfInBounds x.i true) []) kk cs;have gM:=hU (q+1) J;have jM:O.le (O.lift (I (q+1)).next):=CM.le_lift (by rw[q2.nx];exact gM.next);have j8:(I q).next≤(Hb (q+1)).next:=by rw[←hR.nx,←q2.nx];exact q1.nx
     have Z:∀y∈g,y.c=.al→¬So P n ops k L E0 Ef y→ph y.i=q+1→(Hb (q+1)).next≤R6 Ef y∧R6 Ef y<(I (q+1)).next:=λy C z A K=>by
      rcases hL y C z with h|⟨_,_,u2,u3,_⟩
      ·exact absurd h A
      ·rw[K]at u2 u3;exact⟨u2,u3⟩
     have j9:=gM.next;refine⟨q+1,O.lift (I (q+1)).next,w1,xv,v,CM.le_trans F (CM.le_trans q1 jM),q2.ups gM,by rw[q4];exact ((D.mono q1).put q5 q3).mono jM,Q,q6,J,λq' c gO=>?_,⟨λy C z A K=>?_,λy C jV hz z gV A gX K zg jO=>?_,λy C z A K gC v=>?_⟩⟩
     ·rw[E q' c gO];constructor
      ·rintro (h|h)
       ·omega
       ·have hm:=(Z4.1 (Ma.2 ⟨_,gO⟩)).1;have e:=gZ.ok.inj c (M c hm) x R h;subst e;rcases Nat.lt_trichotomy q' q with h'|h'|h'
        ·omega
        ·omega
        ·exact absurd (H _ (chain_order gR q q' c c h' hq gO)) gB
      ·intro h;rcases Mw q' q with h'|h'
       ·exact .inl h'
       ·have:q'=q:=J
        subst this;rw[hq]at gO;cases gO;exact .inr rfl
     ·rcases Mw (ph y.i) (q+1) with h|h
      ·obtain⟨k1,k2⟩:=B.known y C z A J;exact⟨k1,J⟩
      ·obtain⟨k1,k2⟩:=Z y C z A J;have:=(CM.le_trans F q1).nx;rw[q2.nx]at this;exact⟨K4 this k1,k2⟩
     ·rcases Mw (ph y.i) (q+1) with h|h<;>rcases Mw (ph jV.i) (q+1) with h'|h'
      ·exact B.inj y C jV hz z gV A gX J J jO
      ·have k1:=(B.known y C z A J).2;have k2:=(Z jV hz gV gX J).1;omega
      ·have k1:=(B.known jV hz gV gX J).2;have k2:=(Z y C z A J).1;omega
      ·exact hI y C jV hz z gV A gX J jO
     ·show O.f (R6 Ef y) v=none;rcases Mw (ph y.i) (q+1) with h|h
      ·exact zw1 q1 (B.pend y C z A J (λh=>gC (.inl h))) (by rw[hR.nx];exact (B.known y C z A J).2) v
      ·have k1:=(Z y C z A J).1;cases e:O.f (R6 Ef y) v with
       |none=>rfl
       |some L'=>have:=q2.fresh _ _ _ e;omega
   obtain⟨p',O,w1,xv,v,q1,q2,jP,Q,q6,j1,jQ,jR⟩:=jC;have gg:=gn (listed:=listed) (i:=x.i) J;have jA:P0 (listed.setIfInBounds x.i true)=λgD=>P0 listed gD∨gD=x.i:=funext λgD=>propext (gg gD)
   have j4:ac L E0 Ef (P0 (listed.setIfInBounds x.i true)) (Qf x.o.dst v gY):=by
    have:=hE.put gZ hn R Q;rw[jA];exact this
   obtain⟨C2,w2,a2,r1,r2,r3,r4,r5⟩:=ih (t/(Region.ready .any ops listed).length) (listed.setIfInBounds x.i true) (j5.erase x.i) p' O w1 (a.put x.o.dst xv) (Qf x.o.dst v gY) (by simpa using hs)
    (by
     have:=List.length_erase_of_mem (gT x.i gA gB);omega)
    (λgD hj jD=>by
     rw[gg]at jD;have h1:¬P0 listed gD:=λh=>jD (.inl h)
     have h2:gD≠x.i:=λh=>jD (.inr h)
     exact (List.mem_erase_of_ne h2).2 (gT gD hj h1))
    j4
    (λy C hd gD hj=>by
     rw[gg]at hd ⊢;rcases hd with hd|hd
     ·exact .inl (hD y C hd gD hj)
     ·rw[gZ.ok.inj y C x R hd]at hj;exact .inl (H gD hj))
    q2 jP (λq c hq=>by rw[gg];exact jQ q c hq) j1 q1 (by rw[jA];exact jR)
   refine⟨C2,w2,a2,r1,r2,r3,?_,Steps.trans q6 r5⟩;rw[r4];cases x.o.dst<;>rfl
def zrm(hm:P.follows .mixedOrders=true)(hk:ct P k){w:World}{a:Act}{id:Nat}(Z:Rel G I D w)(hE:ER n I O a.tmps)
  (h:(zo P n ops).run k O D=.ok vC vX) (b:Frame) (kk:List Item) (cs:List Frame) :
  ∃R w' T,I.le R∧Rel G R vX w'∧ER n R vC T.tmps∧T.defers=a.defers ∧
   Steps P (lone (b.atR a (.code (.region id ops true)::kk)) cs w) (lone (b.atR T kk) cs w'):=by
 unfold zo at h;dsimp only at h;generalize hL:R3 P ops ops.toList [] 0=L at h;have gg:LOk P ops L:=hL ▸ sm P ops;generalize hO:zv5 L (Pl Ou L)=C at h;have H:∀x∈C,x∈L:=λx U=>zv6 x (by rw[hO];exact U)
 split at h
 ·rename_i hd;unfold zw5 at hd;split at hd
  ·cases hd
  ·rename_i s V;split at hd
   ·cases hd
   ·rename_i hs;split at hd
    ·cases hd
    ·rename_i gA;have gB:s=2^ops.size-1:=Kc (by simpa using hs);have gI:Fit P ops L:=⟨gg,(dstsOk_spec (by simpa using gA)).2,λx U y g=>zj7 (zj7 hd x U) y g⟩;have hn:=hE.2.1;have h0:ac L O vC (Qu 0) O:=λt ht=>by
      unfold jv;rw[J2];rintro⟨y,_,g,_⟩;simp[Qu]at g
     obtain⟨r0,_,Hb,M,ph,r1,r2,ru,r3,r4,r5,ra,ri,_⟩:=zox (E0:=O) gI hn C [] 0 0 s O D vX h V H (λx U=>by cases U) h0 (λy _ g=>by simp[Qu]at g);have X:∀i,i<ops.size→Qu s i:=λi hi=>by
      unfold Qu;rw[gB,Nat.testBit_two_pow_sub_one];simpa using hi
     have A:∀i,¬P0 (Array.replicate ops.size false) i:=λi hi=>by
      unfold P0 at hi;rw[K3,Array.getElem?_replicate]at hi;split at hi<;>cases hi
     have Q:=ru 0 (M6 _);rw[r1]at Q;have gC:Rel G (I.lift (M 0).next) (M 0) w.drew:=Z.drew.ups Q;have K:I.le (I.lift (M 0).next):=CM.le_lift (by rw[Z.nx];exact Q.next);have B:∀y∈C,y.c=.al→¬So P n ops k L O vC y→ph y.i=0→D.next≤R6 vC y∧R6 vC y<(M 0).next:=λy g j z E=>by
      rcases ra y g j with h|⟨_,_,u2,u3,_⟩
      ·exact absurd h z
      ·rw[E]at u2 u3;rw[r1]at u2;exact⟨u2,u3⟩
     have Y:Pends P n ops k L O vC C ph I (I.lift (M 0).next) (M 0) (P0 (Array.replicate ops.size false)) 0:=by
      refine⟨λy g j z E=>?_,λy g gK hz j gD z gF E gH gG=>ri y g gK hz j gD z gF J gG,λy g j z E _ v=>?_⟩
      ·obtain⟨k1,k2⟩:=B y g j z J;rw[←Z.nx]at k1;exact⟨k1,k2⟩
      ·obtain⟨k1,k2⟩:=B y g j z J;show I.f (R6 vC y) v=none;cases e:I.f (R6 vC y) v with
       |none=>rfl
       |some L'=>have:=Z.fresh _ _ _ e;omega
     have F:Region.schedule (P.follows .mixedOrders) ops (w.tape w.drawn (.order b.fn id))=Region.linearise.go .any ops ops.size (w.tape w.drawn (.order b.fn id)) (Array.replicate ops.size false) []:=by
      simp only[Region.schedule,hm,Bool.true_or,M5];rfl
     obtain⟨R,w',T,q1,q2,q3,q4,q5⟩:=az hk gI hn V H X r0 ru r3 r4 r5 ra ri b kk cs ops.size (w.tape w.drawn (.order b.fn id)) (Array.replicate ops.size false) (List.range ops.size) 0 (I.lift (M 0).next) w.drew a O
      N N (λi hi _=>Dt) (λt ht=>by
       unfold jv;rw[J2];rintro⟨y,_,g,_⟩;exact A _ g) (λy _ g=>absurd g (A _)) gC (hE.mono K) (λq c _=>⟨λh=>absurd h (A _),λh=>absurd h (Nz q)⟩) (M6 _) K Y
     refine⟨R,w',T,q1,by rw[←r2];exact q2,q3,q4,.head stepR_region_draw ?_⟩;rw[F];exact Steps.trans q5 (.one stepR_region_end)
 ·cases h
def zls(B:ct P k){w:World}{a:Act}{id:Nat}(C:Rel G I D w)(E:ER n I O a.tmps)
  (h:(js P n ops ops.toList).run k O D=.ok vC vX) (b:Frame) (A:List Item) (cs:List Frame) :
  ∃g z j,I.le g∧Rel G g vX z∧ER n g vC j.tmps∧j.defers=a.defers ∧
   Steps P (lone (b.atR a (.code (.region id ops false)::A)) cs w) (lone (b.atR j A) cs z):=by
 obtain⟨g,z,j,F,H,K,M,Q⟩:=zm5 B b A cs ops.toList 0 rfl C E h;refine⟨g,z,j,F,H,K,M,.head stepR_region ?_⟩;rw[List.range_eq_range'];exact Steps.trans Q (.one stepR_region_end)
end az
end
section
open Go.RowKit (Below)
inductive DR (C:CM):List Nat→List Deferred→Prop where
 |nil:DR C [] []
 |cons {d:Nat} {L:Loc} {l:List Nat} {r:List Deferred} (h:C d 0=some L) (hs:DR C l r):DR C (d::l) ({ target:=.collected L.b,args:=#[] }::r)
def DR.mono{C C':CM}(h:C.le C'):∀{l:List Nat} {r:List Deferred},DR C l r→DR C' l r
 |_,_,.nil=>.nil
 |_,_,.cons e es=>.cons (h.keep _ _ _ e) (DR.mono h es)
def RO(A:CM)(g r:Option Nat):Prop:=match g,r with
 |none,none=>True
 |some l,some j=>∃z,A l 0=some z∧z.b=j
 |_,_=>False
def RO.mono{C:CM}(h:C.le I){ro r:Option Nat}(k:RO C ro r):RO I ro r:=by
 cases ro<;>cases r<;>simp only[RO]at k ⊢;obtain⟨L,h1,h2⟩:=k;exact⟨L,h.keep _ _ _ h1,h2⟩
def Rel.putBlock{w0:World}{H:Heap}{w:World}(h:Rel w0 I H w){o:Nat}{L:Loc}(hL:I o 0=some L){ob:AObj}{x:Obj}(hB:w0.heap.size≤L.b)(gg:∀c len C ro,ob≠.cells c len C ro)
  (gA:(w.putObj L.b x).heap[L.b]?=some x→Rk w0.heap.size I (w.putObj L.b x) o ob):Rel w0 I (H.put o ob) (w.putObj L.b x):=by
 have gB:=h.lt _ _ _ hL;refine h.put (h.fresh _ _ _ hL) ob (h.low.trans ⟨rfl,rfl,rfl,N,λk hk=>World.putObj_heap_other J⟩) N (λo' v L' gC gD=>World.putObj_heap_other (λe=>gC ?_)) (gA (World.putObj_heap_same gB)) (λc len C ro e=>absurd e (gg c len C ro));exact (h.excl _ _ _ _ _ _ hL gD e.symm hB).symm
def zbl{P:Program}{w:World}{o:Nat}{r:Loop}(h:w.heap[o]?=some (.loop r))(fn:FuncId)(tmps:Array Value)(g:Array Tmp)(assign body:Code) :
  (Instr.enterLoop fn tmps g assign body (some o)).run P w =
   .ok (w.heap.size,[]) (w.alloc (.loop { state:=.ready,pending:=none,fn,tmps,params:=g,assign,body,defers:=r.defers })):=by
 unfold Instr.enterLoop;simp only[Sem.run_bind,run_getLoop h,run_newObj_alloc,Result.andThen,Sem.run_pure]
def znf{P:Program}{f n:Nat}{j:Array Tmp}{as:Code}{l:Nat}{M:List Nat}(h:zd6 f n j as uX vQ O vA D=some (l,M,vX))
  {w:World} {Q:List Deferred} {r:Option Nat} (g:Rel G I D w) (R:ER n I O vR) (T:DR I vA Q) (A:RO I vQ r) :
  ∃H U mark V,I.le H∧Rel G H vX U∧(Instr.enterLoop f vR j as uX r).run P w=.ok (V.b,mark) U∧H l 0=some V∧DR H M (mark++Q):=by
 unfold zd6 at h
 ·split at h
  ·cases h;cases r with
   |some r=>exact A.elim
   |none =>
    obtain⟨B,K⟩:=g.push (.defd true) (.deferred (some [])) 0 0 (λV z=>by
     rw[CM.ext_same]at z;cases z;exact⟨g.low.size,eo _ _⟩)
    have C:(I.ext D.next 0 ⟨w.heap.size,0,0,0⟩) D.next 0=some ⟨w.heap.size,0,0,0⟩:=CM.ext_same _ _ _ _;generalize I.ext D.next 0 ⟨w.heap.size,0,0,0⟩=Y at B K C;obtain⟨L,E⟩:=B.push (ob:=.loop .ready none f n O j as uX D.next) (x:=.loop { state:=.ready,pending:=none,fn:=f,tmps:=vR,params:=j,assign:=as,body:=uX,defers:=w.heap.size }) 0 0 (λV z=>by
     rw[CM.ext_same]at z;cases z;refine⟨B.low.size,vR,⟨w.heap.size,0,0,0⟩,(CM.le_ext _ (B.next_none 0) (.inr (M7 B.nx))).keep _ _ _ C,eo _ _,(R.mono K).mono (CM.le_ext _ (B.next_none 0) (.inr (M7 B.nx)))⟩)
    refine⟨_,_,[{ target:=.collected w.heap.size,args:=#[] }],⟨w.heap.size+1,0,0,0⟩,CM.le_trans K E,L,?_,?_,?_⟩
    ·exact run_enterLoop_outer f vR j as uX
    ·have:=CM.ext_same Y (D.push (.defd true)).next 0 ⟨(w.alloc (.deferred (some []))).heap.size,0,0,0⟩;rw[World.size_alloc]at this ⊢;exact this
    ·exact .cons (E.keep _ _ _ C) (T.mono (CM.le_trans K E))
  ·rename_i lo;split at h
   ·rename_i d Z;cases h;cases r with
    |none=>exact A.elim
    |some r =>
     obtain⟨Lo,F,rfl⟩:=A;obtain⟨hB,gg,X,hd,hw,_⟩:=g.obj _ _ (g.fresh _ _ _ F) Z Lo F;obtain⟨L,E⟩:=g.push (ob:=.loop .ready none f n O j as uX d) (x:=.loop { state:=.ready,pending:=none,fn:=f,tmps:=vR,params:=j,assign:=as,body:=uX,defers:=X.b }) 0 0 (λV z=>by
      rw[CM.ext_same]at z;cases z;exact⟨g.low.size,vR,X,(CM.le_ext _ (g.next_none 0) (.inr (M7 g.nx))).keep _ _ _ hd,eo _ _,R.mono (CM.le_ext _ (g.next_none 0) (.inr (M7 g.nx)))⟩)
     refine⟨_,_,[],⟨w.heap.size,0,0,0⟩,E,L,?_,CM.ext_same _ _ _ _,T.mono E⟩;exact zbl hw f vR j as uX
   ·cases h
def ziw{P:Program}{l:Nat}{L:Option Code}(h:zjq l D=some (L,vX)){w:World}(C:Rel G I D w){M:Loc}(B:I l 0=some M) :
  ∃j,(Instr.endLoop M.b).run P w=.ok L j∧Rel G I vX j:=by
 unfold zjq at h;split at h
 ·rename_i st g f n V O a b d Q;have E:st≠.busy→(some (g,D.put l (.loop .exhausted g f n V O a b d))=some (L,vX))→∃j,(Instr.endLoop M.b).run P w=.ok L j∧Rel G I vX j:=λF e=>by
   cases e;obtain⟨K,R,T,hd,hw,U⟩:=C.obj _ _ (C.fresh _ _ _ B) Q M B;refine⟨_,run_endLoop hw F,C.putBlock B K (λ_ _ _ _ e=>An) (λz X A=>?_)⟩;rw[B]at A;cases A;exact⟨K,R,T,hd,z,U⟩
  split at h
  ·cases h
  ·rename_i H;exact E (λe=>H e) h
 ·cases h
def zmt{P:Program}{w:World}{ρ:Operand→Value}{gop:Operand}(F:∀v,ρ (.const v)=v)(C:VR I E (ρ gop)){l:Nat}{j:Loc}(G:I l 0=some j){f:Nat}{args:List AV}
  (h:kh P E [.fn (.yield l) [] []]=.call (.fn f) args) :
  ∃d D,(resolve ρ (rangeCall gop j.b) 0).run P w=.ok d w∧(invoke d.target d.args).run P w=.ok (.enter f (List.toArray D)) w∧VRs I args D:=by
 have H:VRs I [AV.fn (.yield l) [] []] [Value.func (.yield j.b) #[] #[]]:=.cons (.fn (.yield G) .nil .nil) .nil;generalize z:ρ gop=gv at C;have g:∀fn first cap,gv=.func fn first cap→(resolve ρ (rangeCall gop j.b) 0).run P w=.ok { target:=.fn fn cap,args:=first++#[Value.func (.yield j.b) #[] #[]] } w:=by
  intro fn first cap e
  subst e;simp only[resolve,z,Deferred.ofValue,Sem.run_pure];simp[F]
 unfold kh at h;split at h
 ·rename_i Q first cap
  split at h
  ·rename_i K;cases h;cases C with
   | @fn _ R _ _ A B L M O =>
    cases L with
    |same =>
     refine⟨_,A.toList++[Value.func (.yield j.b) #[] #[]]++B.toList,g _ _ _ rfl,?_,(M.append H).append O⟩;have:(A++#[Value.func (.yield j.b) #[] #[]]++B)=(A.toList++[Value.func (.yield j.b) #[] #[]]++B.toList).toArray:=N
     rw[←this];exact z9d K _
  ·cases h
 ·cases h
 ·cases h
def iy(P:Program)(b:Frame)(m:Machine)(cs:List Frame)(A:List Item)(j:Act)(z:World):Ex→Prop
 |.normal=>Steps P m (lone (b.atR j A) cs z)
 |.exit id=>∃g,exitTo id g=exitTo id A∧Steps P m (lone (b.atR j (.code (.exit id)::g)) cs z)
 |.ret=>∃g,Steps P m (lone (b.atR j (.code .ret::g)) cs z)
def iy.head{P:Program}{b:Frame}{m m1:Machine}{cs:List Frame}{kk:List Item}{a':Act}{w':World}{x:Ex}(h:Steps P m m1)(k:iy P b m1 cs kk a' w' x):iy P b m cs kk a' w' x:=by
 cases x with
 |normal=>exact Steps.trans h k
 |exit id=>obtain⟨k1,e,s⟩:=k;exact⟨k1,e,Steps.trans h s⟩
 |ret=>obtain⟨k1,s⟩:=k;exact⟨k1,Steps.trans h s⟩
section scope
variable {P : Program} {b : Frame} {a : Act} {k : List Item} {cs : List Frame} {w : World} {c : Code}
def stepR_scope:step P (lone (b.atR a (.code (.scope c)::k)) cs w)=.next (lone (b.atR a (.code c::.inScope c::k)) cs w):=step_lone_go Hq
def stepR_inScope:step P (lone (b.atR a (.inScope c::k)) cs w)=.next (lone (b.atR a k) cs w):=step_lone_go Hq
end scope
structure Both (w0:World) (n:Nat) (C:CM) (E:Tr AV) (D:List Nat) (H:Heap) (a:Act) (w:World):Prop where
 rel:Rel w0 C H w
 env:ER n C E a.tmps
 defs:DR C D a.defers
def xi(P:Program)(f n:Nat)(G:CodeF)(c:Code):Prop :=
 ∀(k:R9),ct P k→∀(m:Nat) (g:Option Nat) (j:World) (H:CM) (I:Tr AV) (K:List Nat) (L:Heap) (a:Act) (w:World) (b:Frame) (x:Ex) (z:Tr AV) (A:List Nat) (B:Heap),
  Both j n H I K L a w→b.fn=f→RO H g b.roundOf→G.run k m g I K L=.ok x z A B→∀(C:List Item) (cs:List Frame),
  ∃D E F,H.le D∧Both j n D z A B F E∧iy P b (lone (b.atR a (.code c::C)) cs w) cs C F E x
def jo{P:Program}(hm:P.follows .mixedOrders=true)(f n:Nat):∀(c:Code),xi P f n (Rn P f n c) c
 |.skip=>by
  intro k D m E G Q T U V a w b x L M O j I g h A cs;cases h;exact⟨Q,w,a,CM.le_refl Q,j,.one stepR_skip⟩
 |.label l=>by
  intro k D m E G Q T U V a w b x L M O j I g h A cs;cases h;exact⟨Q,w,a,CM.le_refl Q,j,.one stepR_label⟩
 |.exit id=>by
  intro k D m E G Q T U V a w b x L M O j I g h A cs;cases h;exact⟨Q,w,a,CM.le_refl Q,j,A,rfl,.refl _ _⟩
 |.ret=>by
  intro k D m E G Q T U V a w b x L M O j I g h A cs;cases h;exact⟨Q,w,a,CM.le_refl Q,j,A,.refl _ _⟩
 |.region id ops draw=>by
  intro k D m E G Q T U V a w b x L M O j I g h A cs;simp only[Rn]at h;cases draw with
  |true =>
   dsimp only at h;split at h
   ·cases h
   ·rename_i E1 Z hr;cases h;obtain⟨C',w',a',z,C,B,q4,q5⟩:=zrm hm D (id:=id) j.rel j.env hr b A cs;exact⟨C',w',a',z,⟨C,B,by rw[q4];exact j.defs.mono z⟩,q5⟩
  |false =>
   dsimp only at h;split at h
   ·cases h
   ·rename_i E1 Z hr;cases h;obtain⟨C',w',a',z,C,B,q4,q5⟩:=zls D (id:=id) j.rel j.env hr b A cs;exact⟨C',w',a',z,⟨C,B,by rw[q4];exact j.defs.mono z⟩,q5⟩
 |.seq c1 c2=>by
  intro k D m E G Q T U V a w b x L M O j I g h A cs;simp only[Rn]at h;cases h1:(Rn P f n c1).run k m E T U V with
  |no=>rw[h1]at h;cases h
  |ok x1 E1 D1 Z =>
   rw[h1]at h;obtain⟨H,F,K,z,C,B⟩:=jo hm f n c1 k D m E G Q T U V a w b x1 E1 D1 Z j I g h1 (.code c2::A) cs;cases x1 with
   |normal =>
    dsimp only at h;obtain⟨C2,w2,a2,r1,r2,r3⟩:=jo hm f n c2 k D m E G H E1 D1 Z K F b x L M O C I (g.mono z) h A cs;exact⟨C2,w2,a2,CM.le_trans z r1,r2,r3.head (.head stepR_seq B)⟩
   |exit id =>
    cases h;obtain⟨R,e,s⟩:=B;exact⟨H,F,K,z,C,R,e,.head stepR_seq s⟩
   |ret =>
    cases h;obtain⟨R,s⟩:=B;exact⟨H,F,K,z,C,R,.head stepR_seq s⟩
 |.cond c c1 c2=>by
  intro k D m E G Q T U V a w b x L M O j I g h A cs;simp only[Rn]at h;split at h
  ·rename_i t ht;have hv:=z8f j.env c _ ht;have gF:a.eval c=.bool t:=by
    generalize a.eval c=v at hv;cases hv;rfl
   split at h
   ·obtain⟨H,F,K,z,C,B⟩:=jo hm f n c1 k D m E G Q T U V a w b x L M O j I g h A cs;exact⟨H,F,K,z,C,B.head (.one (by rw[stepR_cond gF];rfl))⟩
   ·obtain⟨H,F,K,z,C,B⟩:=jo hm f n c2 k D m E G Q T U V a w b x L M O j I g h A cs;exact⟨H,F,K,z,C,B.head (.one (by rw[stepR_cond gF];rfl))⟩
  ·cases h
 |.block id c=>by
  intro k D m E G Q T U V a w b x L M O j I g h A cs;simp only[Rn]at h;split at h
  ·cases h
  ·rename_i x1 E1 D1 Z h1;obtain⟨H,F,K,z,C,B⟩:=jo hm f n c k D m E G Q T U V a w b x1 E1 D1 Z j I g h1 (.inBlock id::A) cs;cases x1 with
   |normal =>
    cases h;exact⟨H,F,K,z,C,Steps.head stepR_block (Steps.trans B (.one stepR_inBlock))⟩
   |exit gG =>
    dsimp only at h;obtain⟨R,e,s⟩:=B;split at h
    ·rename_i gg;cases h;have gH:gG=id:=Kc gg;subst gH;refine⟨H,F,K,z,C,Steps.head stepR_block (Steps.trans s (.one (stepR_exit ?_)))⟩;rw[e];simp[exitTo]
    ·rename_i gg;cases h;refine⟨H,F,K,z,C,R,?_,.head stepR_block s⟩;rw[e];have gK:¬id=gG:=λq=>by subst q;rw[K0]at gg;cases gg
     simp[exitTo,gK]
   |ret =>
    cases h;obtain⟨R,s⟩:=B;exact⟨H,F,K,z,C,R,.head stepR_block s⟩
 |.scope c=>by
  intro k D m E G Q T U V a w b x L M O j I g h A cs;simp only[Rn]at h;obtain⟨H,F,K,z,C,B⟩:=jo hm f n c k D m E G Q T U V a w b x L M O j I g h (.inScope c::A) cs;refine⟨H,F,K,z,C,?_⟩;cases x with
  |normal=>exact Steps.head stepR_scope (Steps.trans B (.one stepR_inScope))
  |exit id =>
   obtain⟨R,e,s⟩:=B;exact⟨R,e,.head stepR_scope s⟩
  |ret =>
   obtain⟨R,s⟩:=B;exact⟨R,.head stepR_scope s⟩
 |.loop c=>by
  intro k D m E G Q T U V a w b x L M O j I g h A cs;simp only[Rn]at h;have ih:=jo hm f n c;have gL:∀(gT:Nat) (Q:CM) (T:Tr AV) (U:List Nat) (V:Heap) (a:Act) (w:World),Both G n Q T U V a w→RO Q E b.roundOf→bi ((Rn P f n c).run k m E) gT T U V=.ok x L M O →
    ∃C' w' a',Q.le C'∧Both G n C' L M O a' w'∧iy P b (lone (b.atR a (.code c::.inLoop c::A)) cs w) cs A a' w' x:=by
   intro gT
   induction gT with
   |zero=>intro Q T U V a w _ _ h;cases h
   |succ gT gM =>
    intro Q T U V a w j g h;simp only[bi]at h;split at h
    ·cases h
    ·rename_i x1 E1 D1 Z h1;obtain⟨H,F,K,z,C,B⟩:=ih k D m E G Q T U V a w b x1 E1 D1 Z j I g h1 (.inLoop c::A) cs;cases x1 with
     |normal =>
      dsimp only at h;obtain⟨C2,w2,a2,r1,r2,r3⟩:=gM H E1 D1 Z K F C (g.mono z) h;exact⟨C2,w2,a2,CM.le_trans z r1,r2,r3.head (Steps.trans B (.one stepR_inLoop))⟩
     |exit id =>
      cases h;obtain⟨R,e,s⟩:=B;exact⟨H,F,K,z,C,R,e,s⟩
     |ret =>
      cases h;obtain⟨R,s⟩:=B;exact⟨H,F,K,z,C,R,s⟩
  obtain⟨H,F,K,z,C,B⟩:=gL m Q T U V a w j g h;exact⟨H,F,K,z,C,B.head (.one stepR_loop)⟩
 |.rangeFunc gU ps as bd=>by
  intro k D m E G Q T U V a w b x L M O j I g h A cs;simp only[Rn]at h;split at h
  ·cases h
  ·rename_i gv hg;split at h
   ·cases h
   ·rename_i l D1 Z he;obtain⟨H,F,mark,gV,z,C,B,q4,q5⟩:=znf (P:=P) he j.rel j.env j.defs g;split at h
    ·rename_i t gR gD;split at h
     ·cases h
     ·rename_i v H2 gO;obtain⟨d,vs,s1,s2,s3⟩:=zmt (P:=P) (w:=F) (ρ:=a.eval) (gop:=gU) (λ_=>rfl) ((z8f j.env gU _ hg).mono z) q4 gD;have gA:=D _ _ _ _ _ _ _ _ _ C s3 gO (b.atR { a with defers:=mark++a.defers } (.inRangeFunc gV.b::A)::cs);obtain⟨C2,w2,v',fr,t1,t2,t3,t4,t5,t6⟩:=gA;rw[←I]at B;have gI:=stepR_rangeFunc (P:=P) (b:=b) (a:=a) (k:=A) (cs:=cs) (w:=w) B s1 s2;have X:=step_leave_returned (c:=b.atR { a with defers:=mark++a.defers } (.inRangeFunc gV.b::A)) (cs:=cs) t6;rw[finish_atR_inRangeFunc]at X;have gB:DR C2 D1 ({ a with defers:=mark++a.defers }:Act).defers:=q5.mono t1;have gC:ER n C2 T ({ a with defers:=mark++a.defers }:Act).tmps:=(j.env.mono z).mono t1;split at h
      ·cases h
      ·rename_i H3 Y;cases h;obtain⟨w3,u1,u2⟩:=ziw (P:=P) Y t2 (t1.keep _ _ _ q4);refine⟨C2,w3,{ a with defers:=mark++a.defers },CM.le_trans z t1,⟨u2,gC,gB⟩,?_⟩;refine Steps.head gI (Steps.trans t4 (.head X (.one ?_)));rw[stepR_endRangeFunc u1];rfl
      ·rename_i c H3 Y;obtain⟨w3,u1,u2⟩:=ziw (P:=P) Y t2 (t1.keep _ _ _ q4);split at h
       ·cases h
       ·rename_i x1 hx;cases h;have go:Steps P (lone (b.atR a (.code (.rangeFunc gU ps as bd)::A)) cs w) (lone (b.atR { a with defers:=mark++a.defers } (.code c::A)) cs w3) :=
         .head gI (Steps.trans t4 (.head X (.one (by rw[stepR_endRangeFunc u1];rfl))))
        refine⟨C2,w3,{ a with defers:=mark++a.defers },CM.le_trans z t1,⟨u2,gC,gB⟩,?_⟩;unfold exOf at hx;split at hx
        ·cases hx;exact⟨A,go⟩
        ·cases hx;exact⟨A,rfl,go⟩
        ·cases hx
    ·cases h
 |.goto _=>by
  intro k D m E G Q T U V a w b x L M O j I g h A cs;cases h
 |.refuse _=>by
  intro k D m E G Q T U V a w b x L M O j I g h A cs;cases h
end
section
open Go.RowKit (Below)
def m7{r:ResultVar}{n:Nat}{w:World}{a:Act}(P:Rel G I D w)(A:ER n I O a.tmps){v:AV}(h:(resF C r).run O D=some v) :
  ∃x,(match r with
   |.tmp t=>pure (a.tmps.getD t undef)
   |.cell c t=>do loadVar t (←asAddr (a.tmps.getD c undef)):Sem Value).run C w=.ok x w∧VR I v x:=by
 have g:∀t,a.eval (.tmp t)=a.tmps.getD t undef:=λt=>by
  show a.tmps.getD t undef=_;rfl
 cases r with
 |tmp t =>
  simp only[resF]at h;have:=z8f A _ _ h;rw[g]at this;exact⟨_,by simp[Sem.run_pure],this⟩
 |cell c t =>
  unfold resF at h;dsimp only at h ⊢;split at h
  ·rename_i n B Q;dsimp only at h;split at h
   ·rename_i o E i F;split at h
    ·rename_i l H;cases h;have j:=z8f A _ _ F;rw[g]at j;generalize a.tmps.getD c undef=U at j;cases j with
     |ptr K =>
      obtain⟨L,R,M,T,V,_⟩:=P.read C H K;exact⟨.agg L.toArray,by simp[asAddr,loadVar,z7w B,T4 Q,R],.agg (by simpa using M) T⟩
    ·cases h
   ·cases h
  ·rename_i n B Q;dsimp only at h;split at h
   ·rename_i o E i F;split at h
    ·rename_i Y H;cases h;have j:=z8f A _ _ F;rw[g]at j;generalize a.tmps.getD c undef=U at j;cases j with
     |ptr K =>
      obtain⟨L,R,M,T,V,Z,X⟩:=P.read C H K;have z:=X 0 J
      match L,M with
      |[u],.cons hu .nil =>
       simp only[M8,Km]at z;exact⟨u,by simp[asAddr,loadVar,z7w B,z],hu⟩
    ·cases h
   ·cases h
  ·cases h
def zpy{M:Program}{n:Nat}{D:World}{E:CM}{O:Tr AV}{P:Heap}{w:World}{a:Act}(B:Rel D E P w)(C:ER n E O a.tmps):∀{l:List ResultVar} {j:List AV},(wr M l).run O P=some j →
  ∃z,(l.mapM fun
   |.tmp t=>pure (a.tmps.getD t undef)
   |.cell c t=>do loadVar t (←asAddr (a.tmps.getD c undef)):Sem (List Value)).run M w=.ok z w∧VRs E j z
 |[],j,h=>by
  cases h;exact⟨[],by simp[Sem.run_pure],.nil⟩
 |r::l,j,h=>by
  simp only[wr]at h;split at h
  ·cases h
  ·rename_i v F;split at h
   ·cases h
   ·rename_i G A;cases h;obtain⟨x,H,I⟩:=m7 B C F;obtain⟨z,K,L⟩:=zpy B C A;refine⟨x::z,?_,.cons I L⟩;rw[List.mapM_cons,Sem.run_bind];have g:=H;cases r<;>(dsimp only at g ⊢;rw[g];simp only[Result.andThen_ok,Sem.run_bind,K,Sem.run_pure])
def zio{fn:Func}{n:Nat}{w:World}{a:Act}(z:Rel G I D w)(A:ER n I O a.tmps)(h:(wr C fn.results.toList).run O D=some R) :
  ∃x,(results fn a.tmps).run C w=.ok x w∧VR I (match R with
   |[v]=>v
   |l=>.tup l) x:=by
 obtain⟨g,B,E⟩:=zpy z A h;have hm:(fn.results.mapM fun
   |.tmp t=>pure (a.tmps.getD t undef)
   |.cell c t=>do loadVar t (←asAddr (a.tmps.getD c undef)):Sem (Array Value)).run C w=.ok g.toArray w:=by
  rw[Array.mapM_eq_mapM_toList];rw[map_eq_pure_bind,Sem.run_bind,B];rfl
 refine⟨if h:g.toArray.size=1 then g.toArray[0] else .tuple g.toArray,?_,?_⟩
 ·unfold results;rw[Sem.run_bind];exact (congrArg (λr=>Result.andThen r _) hm).trans rfl
 ·cases E with
  |nil=>exact .tup .nil
  |cons e F =>
   cases F with
   |nil=>exact e
   |cons H j =>
    simp only[List.size_toArray,Kn];rw[dif_neg J];exact .tup (.cons e (.cons H j))
def zts{fr:Frame}{j:List Frame}{w:World}{z:List Deferred}(hm:fr.mode=.returning)(hd:fr.defers={ target:=.collected g,args:=#[] }::z)(hw:w.heap[g]?=some (.deferred (some []))) :
  step C (lone fr j w)=.next (lone { fr with defers:=z } j (w.putObj g (.deferred none))) :=
 step_lone_go (by simp[stepG,unwind,hm,hd,Sem.runT_eq,run_takeDeferred hw,GStep.bare_after])
def zqy{U:Program}{E:World}{K:CM}:∀{R:List Nat} {G:List Deferred} {H B:Heap} {w:World} {fr:Frame} (g:List Frame),DR K R G→z88 R H=some B→Rel E K H w→fr.mode=.returning→fr.defers=G →
  ∃C,Rel E K B C∧Steps U (lone fr g w) (lone { fr with defers:=[] } g C)
 |_,_,H,B,w,fr,g,.nil,h,j,hm,hd=>by
  cases h;refine⟨w,j,?_⟩;have:fr={ fr with defers:=[] }:=by cases fr;cases hd;rfl
  rw[←this];exact .refl _ _
 |_,_,H,B,w,fr,g,.cons (d:=d) (L:=T) (r:=r) D M,h,j,hm,hd=>by
  simp only[z88]at h;split at h
  ·rename_i O;obtain⟨I,hw⟩:=j.obj _ _ (j.fresh _ _ _ D) O T D;have F:Rel E K (H.put d (.defd false)) (w.putObj T.b (.deferred none)):=j.putBlock D I (λ_ _ _ _ e=>An) (λz V A=>by
    rw[D]at A;cases A;exact⟨I,z⟩)
   obtain⟨C,P,Q⟩:=zqy (fr:={ fr with defers:=r }) g M h F hm rfl;exact⟨C,P,.head (zts hm hd hw) Q⟩
  ·cases h
def ER.start{args:List AV}{C:List Value}(hv:VRs I args C){n:Nat}(hn:n≤Ry)(hl:args.length≤n):ER n I (Su args 0 .e) (C.toArray++Array.replicate (n-C.toArray.size) undef):=by
 have hlen:=hv.length;refine⟨Ab,hn,λt ht=>?_⟩;rw[get_ofList args 0 .e t,Yn];rw[K3];by_cases h:t<args.length
 ·rw[J8 ⟨M6 _,J⟩];obtain⟨a,v,q1,q2,q3⟩:=hv.get' h;rw[Nat.sub_zero,q1];rw[M0 Ab];simp only[Lk,q2,Ln];exact q3
 ·rw[J2 J];show _=undef;rw[Array.getElem?_append_right Ab,Array.getElem?_replicate];split<;>rfl
def setPs_ok:∀(g:List Tmp) (args:List AV) (j:List Value) {n:Nat} {G A:Tr AV} {z:Array Value},zt7 g args n G=some A→VRs I args j→ER n I G z →
  g.length=j.length∧ER n I A ((g.zip j).foldl (λtmps (t,a)=>tmps.setIfInBounds t a) z):=by
 intro g
 induction g with
 |nil =>
  intro args j n G A z h B C;cases B with
  |nil=>cases h;exact⟨rfl,C⟩
  |cons e F=>cases h
 |cons p g H =>
  intro args j n G A z h B C;cases B with
  |nil=>cases h
  |cons e F =>
   simp only[zt7]at h;split at h
   ·rename_i K;have D:p<n:=Kd K;have E:=ER.put (a:={ tmps:=z,defers:=[] }) C (d:=some p) (λt L=>by cases L;exact D) e;obtain⟨M,O⟩:=H _ _ h F E;exact⟨Bh,O⟩
   ·cases h
def zu7{P:Program}(hm:P.follows .mixedOrders=true){k:R9}(hk:ct P k){f m:Nat}{w:World}{args:List AV}{z:List Value}{v:AV}(hR:Rel G I D w)(hv:VRs I args z)
  (h:(zfk P f).run k m args D=.ok v vX):zne P G I w (.fn f) z v vX:=by
 unfold zfk at h;split at h
 ·cases h
 ·rename_i fn T;split at h
  ·cases h
  ·rename_i B U;split at h
   ·rename_i F;dsimp only at h;split at h
    ·cases h
    ·rename_i H;have C:args.length≤fn.ntmps:=Kd H;split at h
     ·cases h
     ·rename_i x gB gC H1 K;intro E;let b:Frame:={ (default:Frame) with fn:=f,kind:=.normal,roundOf:=none };have A:Frame.enter P f z.toArray .normal=b.atR { tmps:=z.toArray++Array.replicate (fn.ntmps-z.toArray.size) undef,defers:=[] } [.code B]:=by
       simp[Frame.enter,Frame.atR,T,U,b]
      obtain⟨C1,w1,a1,q1,M,V⟩:=jo hm f fn.ntmps B k hk m none G I (Su args 0 .e) [] D { tmps:=z.toArray++Array.replicate (fn.ntmps-z.toArray.size) undef,defers:=[] } w b x gB gC H1
       ⟨hR,ER.start hv F C,.nil⟩ rfl trivial K [] E
      rw[←A]at V;have L:∀g,Steps P (lone (Frame.enter P f z.toArray .normal) E w) (lone { b.atR a1 g with mode:=.returning } E w1) →
        (match z88 gC H1 with
         |none=>RV.no
         |some O=>match (wr P fn.results.toList).run gB O with
          |some [v]=>.ok v O
          |some l=>.ok (.tup l) O
          |none=>.no)=.ok v vX →
        ∃X Y v' Z,I.le X∧Rel G X vX Y∧VR X v v'∧Steps P (lone (Frame.enter P f z.toArray .normal) E w) (lone Z E Y)∧Z.fn=f∧Z.leaving P Y (.returned v'):=by
       intro g hs he;split at he
       ·cases he
       ·rename_i O gg;obtain⟨w2,Q,r2⟩:=zqy (fr:={ b.atR a1 g with mode:=.returning }) E M.defs gg M.rel rfl rfl;split at he
        ·rename_i v1 j;cases he;obtain⟨xv,s1,R⟩:=zio (fn:=fn) Q M.env j;exact⟨C1,w2,xv,_,q1,Q,R,Steps.trans hs r2,rfl,rfl,rfl,rfl,fn,T,s1⟩
        ·rename_i l gA j;cases he;obtain⟨xv,s1,R⟩:=zio (fn:=fn) Q M.env j;refine⟨C1,w2,xv,_,q1,Q,?_,Steps.trans hs r2,rfl,rfl,rfl,rfl,fn,T,s1⟩;rcases l with _|⟨u,_|⟨u2,l⟩⟩
         ·exact R
         ·exact absurd rfl (gA u)
         ·exact R
        ·cases he
      cases x with
      |exit id=>cases h
      |normal=>exact L [] (Steps.trans V (.one (stepR_end rfl))) h
      |ret =>
       obtain⟨k1,s⟩:=V;exact L (.code .ret::k1) (Steps.trans s (.one (stepR_ret rfl))) h
   ·cases h
def zom{P:Program}{l:Nat}{x:Ex}{v:AV}(h:zfm l x D=.ok v vX){w:World}(B:Rel G I D w){O:Loc}(z:I l 0=some O) :
  ∃H K,(Instr.endRound O.b (match x with
   |.normal=>none
   |.ret=>some .ret
   |.exit id=>some (.exit id))).run P w=.ok K H∧Rel G I vX H∧VR I v K:=by
 unfold zfm at h;split at h
 ·rename_i st L f n T R a b d Q;obtain⟨A,C,E,hd,hw,F⟩:=B.obj _ _ (B.fresh _ _ _ z) Q O z;split at h
  ·cases h;refine⟨_,_,run_endRound none hw,B.putBlock z A (λ_ _ _ _ e=>An) (λg M j=>?_),.bool true⟩;rw[z]at j;cases j;exact⟨A,C,E,hd,g,F⟩
  ·cases h;refine⟨_,_,run_endRound (some .ret) hw,B.putBlock z A (λ_ _ _ _ e=>An) (λg M j=>?_),.bool false⟩;rw[z]at j;cases j;exact⟨A,C,E,hd,g,F⟩
  ·rename_i id;cases h;refine⟨_,_,run_endRound (some (.exit id)) hw,B.putBlock z A (λ_ _ _ _ e=>An) (λg M j=>?_),.bool false⟩;rw[z]at j;cases j;exact⟨A,C,E,hd,g,F⟩
 ·cases h
def dx{P:Program}{l:Nat}(h:zpk l D=some vX){w:World}(A:Rel G I D w){F:Loc}(z:I l 0=some F) :
  ∃B,(Instr.beginRound F.b).run P w=.ok () B∧Rel G I vX B:=by
 unfold zpk at h;split at h
 ·rename_i C f n R O a b d H;cases h;obtain⟨E,K,L,hd,hw,M⟩:=A.obj _ _ (A.fresh _ _ _ z) H F z;refine⟨_,run_beginRound hw rfl,A.putBlock z E (λ_ _ _ _ e=>An) (λg Q j=>?_)⟩;rw[z]at j;cases j;exact⟨E,K,L,hd,g,M⟩
 ·cases h
def zbr{P:Program}(hm:P.follows .mixedOrders=true){gA:R9}(hO:ct P gA):∀m,ct P (Tp P gA m)
 |0=>λ_ _ _ _ _ _ _ _ _ _ _ h=>Af
 |m+1=>by
  have K:=zbr hm hO m;intro w0 gC gD w t gg A v H' B L h;unfold Tp at h;cases t with
  |fn f =>
   dsimp only at h;split at h
   ·rename_i v1 H1 ho;cases h;exact hO _ _ _ _ _ _ _ _ _ B L ho
   ·exact zu7 hm K B L h
  |yield l =>
   dsimp only at h;split at h
   ·rename_i f n gF C a b d hg;split at h
    ·cases h
    ·rename_i E1 M;split at h
     ·rename_i E2 H2 O;split at h
      ·cases h
      ·rename_i Q R;split at h
       ·cases h
       ·rename_i x E3 gG H3 T;split at h
        ·intro gB D c cs;obtain⟨hB,E,Ld,hd,hw,hE⟩:=B.obj _ _ (B.fresh _ _ _ D) hg gB D;obtain⟨F,U⟩:=setPs_ok _ _ _ M L hE;have V:=run_yield (P:=P) (args:=A.toArray) hw (by simpa using F.symm);dsimp only at V;have z:((C.zip A.toArray).foldl (λg (t,a)=>g.setIfInBounds t a) E)=((C.toList.zip A).foldl (λg (t,a)=>g.setIfInBounds t a) E):=by
          rw[←Array.foldl_toList,Array.toList_zip]
         rw[z]at V;let G:Frame:={ (default:Frame) with fn:=f,kind:=.normal,roundOf:=some gB.b };have H:RO gC (some l) G.roundOf:=⟨gB,D,rfl⟩;obtain⟨C1,w1,a1,I,X,q3⟩:=jo hm f n a (Tp P gA m) K m (some l) w0 gC E1 [] gD { tmps:=(C.toList.zip A).foldl (λg (t,a)=>g.setIfInBounds t a) E,defers:=[] } w G .normal E2 [] H2
          ⟨B,U,.nil⟩ rfl H O [.beginRound,.code b] (c::cs)
         obtain⟨w2,r1,r2⟩:=dx (P:=P) R X.rel (I.keep _ _ _ D);obtain⟨C2,w3,a3,s1,s2,Y⟩:=jo hm f n b (Tp P gA m) K m (some l) w0 C1 E2 [] Q a1 w2 G x E3 [] H3 ⟨r2,X.env,X.defs⟩ rfl (H.mono I) T [] (c::cs);obtain⟨w4,xv,Z,t2,t3⟩:=zom (P:=P) h s2.rel (s1.keep _ _ _ (I.keep _ _ _ D));refine⟨C2,w4,xv,f,_,a,b,CM.le_trans I s1,t2,t3,V,?_⟩;have j:Frame.round gB.b f ((C.toList.zip A).foldl (λg (t,a)=>g.setIfInBounds t a) E) a b .normal=G.atR { tmps:=(C.toList.zip A).foldl (λg (t,a)=>g.setIfInBounds t a) E,defers:=[] } [.code a,.beginRound,.code b]:=by
          simp[Frame.round,Frame.atR,G]
         rw[j];refine Steps.trans q3 (.head (stepR_beginRound rfl r1) ?_);cases x with
         |normal=>exact Steps.trans Y (.one (stepR_round_end rfl rfl Z))
         |ret =>
          obtain⟨k1,s⟩:=Y;exact Steps.trans s (.one (stepR_round_ret rfl rfl Z))
         |exit id =>
          obtain⟨k1,e,s⟩:=Y;exact Steps.trans s (.one (stepR_round_exit rfl rfl e Z))
        ·cases h
     ·cases h
   ·cases h
def Rel.start(w:World):Rel w ⟨λ_ _=>none,0⟩ ⟨.e,0⟩ w :=
 ⟨rfl,.refl _ _,λ_ _ _ h=>Af,λ_ _ _ h=>Af,λ_ _ _ _ _ _ h=>Af,λ_ _ h=>absurd h (Nz _),λ_ _ _ _ _ h=>absurd h (Nz _)⟩
end
section
open Go.RowKit Go.ChangeShapes Go.WideShapes Go.ChangeAt
variable {H : Type} {enc : TypeId × Value → H} {P : Program}
def zrk{f:Func}{s:ChangeSpec}{E j F:Bool}{W:World}{args:Array Value}{v:Value}{M gs:List (DataW H)}{g pa pv:List MemPlace}
  (T:DataW.Whole enc P f.params.toList s.vars K W args.toList M gs g)
  (C:∀(b:Nat) (I:Nat→Bool) (hd:Bool),DataW.TrodAll enc P G b I hd f.resultTypes.toList (v.resultList f.resultTypes.size) (s.fn H (M++gs)).results [])
  (z:∀I:Nat→Bool,(∀p∈g,I p.block=true)→DataW.TrodAll enc P G 0 I true f.params.toList args.toList (s.fn H (M++gs)).args pa)
  (A:∀I:Nat→Bool,(∀p∈g,I p.block=true)→DataW.TrodVars enc P G I s.vars (s.fn H (M++gs)).vars pv)
  (B:g=pa++pv) (V:Below W.heap.size W G)
  (U:∀(gg:Nat) (t:TypeId) (r:Value),f.resultTypes[gg]?=some t→(v.resultList f.resultTypes.size)[gg]?=some r→Value.okWide P G .any 0 t r) :
  s.post enc P f K E j F W args v G:=by
 have O:=T.lt;obtain⟨_,_,_,_,_,X,Y⟩:=id T;have Q:∀p∈g,(λb=>decide (b<W.heap.size)) p.block=true:=λp D=>by simpa using O p D
 refine⟨M,gs,g,[],pa,pv,T,C _ _ _,z _ Q,A _ Q,World.keptBut_mono (λp D=>⟨D,.inr (Ks.1 (B ▸ D))⟩) (V.frame (·∈g)),λ_=>?_⟩;refine⟨U,_,_,([]++pa)++pv,⟨[]++pa,pv,trodAll_append (z _ (λ_ _=>rfl)) (C _ _ _),A _ (λ_ _=>rfl),rfl,λb L D=>?_,λZ=>?_⟩,λp D _=>by rw[B];simpa using D⟩
 ·have R:MemPlace.cell b L∈g:=by rw[B];simpa using D
  rw[V.frozen (p:=⟨b,L,none⟩) (O _ R)];exact X b L R
 ·have:=Y Z;rw[B]at this;simpa using this
end
def R9.le(k k':R9):Prop:=∀t a H v H',k t a H=.ok v H'→k' t a H=.ok v H'
def z3a{n:Nat}{ops:Array Oper}{o:Oper}{k A:R9}(F:k.le A)(h:(Sg C n ops o).run k O D=.ok vC vX):(Sg C n ops o).run A O D=.ok vC vX:=by
 unfold Sg at h ⊢;cases B:Sf n o.dst with
 |none=>rw[B]at h;cases h
 |some p =>
  rw[B]at h;dsimp only at h ⊢;cases E:(Tw ops o).run O with
  |false=>rw[E]at h;exact h
  |true =>
   rw[E]at h;dsimp only at h ⊢;cases j:(Pp C o.op).run O D with
   |no=>rw[j]at h;cases h
   |val v G=>rw[j]at h;exact h
   |call t g =>
    rw[j]at h;dsimp only at h ⊢;cases z:k t g D with
    |no=>rw[z]at h;cases h
    |ok v G=>rw[z]at h;rw[F _ _ _ _ _ z];exact h
def z7f{r:OE}{f:Tr AV→Heap→OE}(h:(OE.rec .no f r:OE)=.ok O D):∃g j,r=.ok g j∧f g j=.ok O D:=by
 cases r with
 |no=>cases h
 |ok g j=>exact⟨g,j,rfl,h⟩
def z9m{F:Program}{n:Nat}{ops:Array Oper}{k z:R9}(A:k.le z):∀{l:List Oper} {B g:Tr AV} {C j:Heap},(js F n ops l).run k B C=.ok g j→(js F n ops l).run z B C=.ok g j
 |[],_,_,_,_,h=>h
 |o::l,B,g,C,j,h=>by
  simp only[js]at h ⊢;obtain⟨G,H,D,E⟩:=z7f h;rw[z3a A D];exact z9m A E
def z4b{M:Program}{n:Nat}{ops:Array Oper}{k I:R9}(j:k.le I):∀{l g:List DOp} {K B:Tr AV} {L C:Heap},(V5 M n ops l g).run k K L=.ok B C→(V5 M n ops l g).run I K L=.ok B C
 |[],_,_,_,_,_,h=>h
 |x::l,g,K,B,L,C,h=>by
  simp only[V5]at h ⊢;split at h
  ·rename_i D;obtain⟨E,F,z,A⟩:=z7f h;dsimp only;rw[z3a j z];exact z4b j A
  ·rename_i D;obtain⟨E,F,z,A⟩:=z7f h;dsimp only;rw[z3a j z];exact z4b j A
  ·rename_i D;obtain⟨E,F,z,A⟩:=z7f h;obtain⟨G,H⟩:=z8a A;dsimp only;rw[z3a j z];dsimp only;rw[G];exact z4b j H
  ·rename_i D;obtain⟨E,F,z,A⟩:=z7f h;obtain⟨G,H⟩:=z8a A;dsimp only;rw[z3a j z];dsimp only;rw[G];exact z4b j H
def zjz{n:Nat}{ops:Array Oper}{k g:R9}(j:k.le g)(h:(zo C n ops).run k O D=.ok vC vX):(zo C n ops).run g O D=.ok vC vX:=by
 unfold zo at h ⊢;dsimp only at h ⊢;split at h
 ·exact z4b j h
 ·cases h
def zad{f G:Tr AV→List Nat→Heap→Res}(E:∀B C D x g j z,f B C D=.ok x g j z→G B C D=.ok x g j z):∀{m A:Nat},m≤A→∀{B C D x g j z},bi f m B C D=.ok x g j z→bi G A B C D=.ok x g j z
 |0,_,_,_,_,_,_,_,_,_,h=>Af
 |m+1,0,hm,_,_,_,_,_,_,_,_=>J
 |m+1,A+1,hm,B,C,D,x,g,j,z,h=>by
  simp only[bi]at h ⊢;split at h
  ·cases h
  ·rename_i y H I K F;rw[E _ _ _ _ _ _ _ F];dsimp only;split at h
   ·exact zad E J h
   ·exact h
def tt{P:Program}{f n:Nat}{k O:R9}(I:k.le O){m:Nat}(hm:m≤g):∀(c:Code) {B:Tr AV} {C:List Nat} {D:Heap} {x:Ex} {j:Tr AV} {z:List Nat} {A:Heap},
  (Rn P f n c).run k m vQ B C D=.ok x j z A→(Rn P f n c).run O g vQ B C D=.ok x j z A:=by
 intro c
 induction c with
 |skip=>intro B C D x j z A h;exact h
 |region id ops draw =>
  intro B C D x j z A h;simp only[Rn]at h ⊢;cases draw with
  |true =>
   dsimp only at h ⊢;split at h
   ·cases h
   ·rename_i K L E;rw[zjz I E];exact h
  |false =>
   dsimp only at h ⊢;split at h
   ·cases h
   ·rename_i K L E;rw[z9m I E];exact h
 |seq a b F G =>
  intro B C D x j z A h;simp only[Rn]at h ⊢;cases M:(Rn P f n a).run k m vQ B C D with
  |no=>rw[M]at h;cases h
  |ok y K Q L =>
   rw[M]at h;rw[F M];dsimp only at h ⊢;cases y with
   |normal=>exact G h
   |exit id=>exact h
   |ret=>exact h
 |cond c a b F G =>
  intro B C D x j z A h;simp only[Rn]at h ⊢;split at h
  ·split at h
   ·exact F h
   ·exact G h
  ·cases h
 |block id c H =>
  intro B C D x j z A h;simp only[Rn]at h ⊢;split at h
  ·cases h
  ·rename_i y K Q L E;rw[H E];exact h
 |loop c H =>
  intro B C D x j z A h;simp only[Rn]at h ⊢;exact zad (λB C D x j z A h=>H h) hm h
 |rangeFunc U R a b _ _ =>
  intro B C D x j z A h;simp only[Rn]at h ⊢;split at h
  ·cases h
  ·split at h
   ·cases h
   ·split at h
    ·split at h
     ·cases h
     ·rename_i v T E;rw[I _ _ _ _ _ E];exact h
    ·cases h
 |exit id=>intro B C D x j z A h;exact h
 |scope c H=>intro B C D x j z A h;exact H h
 |label l=>intro B C D x j z A h;exact h
 |ret=>intro B C D x j z A h;exact h
 |_=>intro B C D x j z A h;cases h
def zop{P:Program}{f:Nat}{k A:R9}(G:k.le A){m:Nat}(hm:m≤g){v:AV}(h:(zfk P f).run k m R D=.ok v vX):(zfk P f).run A g R D=.ok v vX:=by
 unfold zfk at h ⊢;cases B:P.funcs[f]? with
 |none=>rw[B]at h;cases h
 |some fn =>
  rw[B]at h;dsimp only at h ⊢;cases C:fn.body with
  |none=>rw[C]at h;cases h
  |some j =>
   rw[C]at h;dsimp only at h ⊢;by_cases E:fn.ntmps≤Ry
   ·rw[J8 E]at h ⊢;dsimp only at h ⊢;cases F:Nat.ble R.length fn.ntmps with
    |false=>rw[F]at h;cases h
    |true =>
     rw[F]at h;dsimp only at h ⊢;cases z:(Rn P f fn.ntmps j).run k m none (Su R 0 .e) [] D with
     |no=>rw[z]at h;cases h
     |ok x I K H=>rw[z]at h;rw[tt G hm _ z];exact h
   ·rw[J2 E]at h;cases h
def lc{P:Program}{O:R9}:∀{m g:Nat},m≤g→R9.le (Tp P O m) (Tp P O g)
 |0,_,_=>λt a K v E h=>Af
 |m+1,0,h=>J
 |m+1,g+1,hm=>by
  have j:=lc (P:=P) (O:=O) (J:m≤g);intro t a K v E h;unfold Tp at h ⊢;cases t with
  |fn f =>
   dsimp only at h ⊢;cases B:O (.fn f) a K with
   |no=>rw[B]at h;exact zop j J h
   |ok L M=>rw[B]at h;exact h
  |yield l =>
   dsimp only at h ⊢;split at h
   ·rename_i f n Q F R b d T;cases C:zt7 F.toList a n Q with
    |none=>rw[C]at h;cases h
    |some U =>
     rw[C]at h;dsimp only at h ⊢;split at h
     ·rename_i G H I;rw[tt j J _ I];dsimp only;cases D:zpk l H with
      |none=>rw[D]at h;cases h
      |some z =>
       rw[D]at h;dsimp only at h ⊢;cases A:(Rn P f n b).run (Tp P O m) m (some l) G [] z with
       |no=>rw[A]at h;cases h
       |ok x V Y X=>rw[A]at h;rw[tt j J _ A];exact h
     ·cases h
   ·cases h
section
noncomputable section
abbrev e9:=Nat→Option AV
def Wa(E:Tr AV)(ρ:e9):Prop:=∀t,t≤Ry→On (O1 t) E=ρ t
inductive Ox where
 |t (i:Nat)
 |c (a:AV)
def Ox.ev(ρ:e9):Ox→AV
 |.t i=>(ρ i).getD Tc
 |.c a=>a
def Pu:Operand→Option Ox
 |.tmp t=>if t≤Ry then some (.t t) else none
 |.const v=>(X5 v).map .c
 |.func f=>some (.c (.fn (.func f) [] []))
 |.global _=>none
def U3{x:Operand}{r:Ox}(h:Pu x=some r){E:Tr AV}{ρ:e9}(z:Wa E ρ):(O8 x).run E=some (r.ev ρ):=by
 cases x with
 |tmp t =>
  simp only[Pu]at h;split at h
  ·rename_i j;cases h;unfold O8;dsimp only;rw[Ka j];dsimp only;rw[z t j];simp only[Ox.ev];cases ρ t<;>rfl
  ·cases h
 |const v =>
  simp only[Pu]at h;cases g:X5 v with
  |none=>rw[g]at h;cases h
  |some a=>rw[g]at h;cases h;unfold O8;dsimp only;rw[g];rfl
 |global A=>cases h
 |func f=>cases h;rfl
def ki:List Operand→Option (List Ox)
 |[]=>some []
 |x::l=>match Pu x with
  |none=>none
  |some r=>match ki l with
   |none=>none
   |some g=>some (r::g)
def resOs_ok:∀{l:List Operand} {g:List Ox},ki l=some g→∀{E:Tr AV} {ρ:e9},Wa E ρ→(opds l).run E=some (g.map (·.ev ρ))
 |[],g,h,E,ρ,j=>Cb
 |x::l,g,h,E,ρ,j=>by
  simp only[ki]at h;cases z:Pu x with
  |none=>rw[z]at h;cases h
  |some r =>
   rw[z]at h;dsimp only at h;cases A:ki l with
   |none=>rw[A]at h;cases h
   |some B =>
    rw[A]at h;cases h;unfold opds;dsimp only;rw[U3 z j,resOs_ok A j];rfl
def ku:Option Operand→Option (Option Ox)
 |none=>some none
 |some x=>match Pu x with
  |none=>none
  |some r=>some (some r)
def Qz(ρ:e9):Option Ox→Option (Option Nat)
 |none=>some none
 |some r=>match r.ev ρ with
  |.int _ (.ofNat n)=>some (some n)
  |_=>none
def ui{x:Option Operand}{r:Option Ox}(h:ku x=some r){E:Tr AV}{ρ:e9}(j:Wa E ρ):(Rp x).run E=Qz ρ r:=by
 cases x with
 |none=>cases h;rfl
 |some x =>
  simp only[ku]at h;cases g:Pu x with
  |none=>rw[g]at h;cases h
  |some q =>
   rw[g]at h;cases h;unfold Rp Qz;dsimp only;rw[U3 g j];generalize q.ev ρ=a;split
   ·rename_i n e;cases e;rfl
   ·rename_i e;split
    ·rename_i k n;exact absurd rfl (e k n)
    ·rfl
inductive ROp where
 |move (x:Ox)
 |pick (c a b:Ox)
 |alloc (l:List AV)
 |box (x:Ox)
 |build (cs:List AV) (ps:List (Nat×Nat×Ox))
 |buildSl (size len:Nat) (cs:List AV) (ps:List (Nat×Nat×Ox))
 |load1 (x:Ox)
 |loadN (n:Nat) (x:Ox)
 |store (n:Nat) (x y:Ox)
 |nilChk (x:Ox)
 |bin (op:BinOp) (g:Bool) (t:TypeId) (x y:Ox)
 |un (op:UnOp) (x:Ox)
 |cvInt (k:IntKind) (x:Ox)
 |cvStr (x:Ox)
 |cvSame (x:Ox)
 |cvBytes (x:Ox)
 |mkIface (t:TypeId) (x:Ox)
 |mkFunc (f:Fn) (first cap:List Ox)
 |mkMap0
 |mkMap1 (x:Ox)
 |mkSl (size:Nat) (z:List AV) (l c:Ox)
 |slStr (x:Ox) (lo hi:Option Ox)
 |slSl (size:Nat) (x:Ox) (lo hi mx:Option Ox)
 |slArr (n size:Nat) (x:Ox) (lo hi mx:Option Ox)
 |fieldAddr (off:Nat) (x:Ox)
 |field (g:Bool) (n off:Nat) (x:Ox)
 |ixAddr (size:Nat) (x i:Ox)
 |ixAddrArr (len size:Nat) (x i:Ox)
 |ixStr (x i:Ox)
 |ixArr (g:Bool) (len size:Nat) (x i:Ox)
 |lookup (d:TypeDesc) (z:AV) (ok:Bool) (x i:Ox)
 |mapUpd (d:TypeDesc) (m k v:Ox)
 |range (x:Ox)
 |next (x:Ox)
 |assert (z:AV) (ok:Bool) (t:TypeId) (x:Ox)
 |extract (i:Nat) (x:Ox)
 |lenStr (x:Ox)
 |lenSl (x:Ox)
 |lenMap (x:Ox)
 |lenArr (n:Nat) (x:Ox)
 |cap (x:Ox)
 |maxi (mx:Bool) (l:List Ox)
 |appZ (size:Nat) (z:List AV) (s x:Ox)
 |appG (size:Nat) (s x:Ox)
 |copy (size:Nat) (d x:Ox)
 |clear (size:Nat) (z:List AV) (x:Ox)
 |delete (d:TypeDesc) (m k:Ox)
 |callV (f:Ox) (args:List Ox)
 |invoke (r:Ox) (name:String) (args:List Ox)
def fillR(ρ:e9)(cs:List AV):List (Nat×Nat×Ox)→Option (List AV)
 |[]=>some cs
 |(j,g,x)::z=>match (x.ev ρ).cells with
  |none=>none
  |some l=>match Nat.beq l.length g with
   |true=>match Nat.ble (Nat.add j g) cs.length with
    |true=>fillR ρ (Vd cs j l) z
    |false=>none
   |false=>none
def P6(P:Program)(ρ:e9)(j:Heap):ROp→OR
 |.move x=>.val (x.ev ρ) j
 |.pick c a b=>match c.ev ρ with
  |.bool true=>.val (a.ev ρ) j
  |.bool false=>.val (b.ev ρ) j
  |_=>.no
 |.alloc l=>X7 j l
 |.box x=>match (x.ev ρ).cells with
  |some l=>X7 j l
  |none=>.no
 |.build R T=>match fillR ρ R T with
  |some l=>.val (.agg l) j
  |none=>.no
 |.buildSl g len R T=>match fillR ρ R T with
  |some l=>match newObj j l with
   |some (o,C)=>.val (.sl o 0 0 len g (some len)) C
   |none=>.no
  |none=>.no
 |.load1 x=>match x.ev ρ with
  |.ptr o v i=>match Sd j o v i 1 with
   |some [c]=>.val c j
   |_=>.no
  |_=>.no
 |.loadN n x=>match x.ev ρ with
  |.ptr o v i=>match Sd j o v i n with
   |some l=>.val (.agg l) j
   |none=>.no
  |_=>.no
 |.store n x y=>match x.ev ρ with
  |.ptr o v i=>match (y.ev ρ).cells with
   |some l=>match Nat.beq l.length n with
    |true=>match Wx j o v i l with
     |some C=>.val Tc C
     |none=>.no
    |false=>.no
   |none=>.no
  |_=>.no
 |.nilChk x=>zn j (x.ev ρ)
 |.bin op V t x y=>ret1 j (Qv P op V t (x.ev ρ) (y.ev ρ))
 |.un op x=>ret1 j (unA op (x.ev ρ))
 |.cvInt k x=>match x.ev ρ with
  |.int _ n=>.val (.int k (V7 k n)) j
  |_=>.no
 |.cvStr x=>match x.ev ρ with
  |.nilSl=>.val (.str 0 0) j
  |.sl o v i len 1 _=>match Sd j o v i len with
   |some l=>match W6.bytesA l with
    |some n=>.val (.str len n) j
    |none=>.no
   |none=>.no
  |_=>.no
 |.cvSame x=>match x.ev ρ with
  |.str l n=>.val (.str l n) j
  |_=>.no
 |.cvBytes x=>match x.ev ρ with
  |.str len n=>match newObj j ((W8 len n).map λ(b:Nat)=>AV.int .u8 (Int.ofNat b)) with
   |some (o,C)=>.val (.sl o 0 0 len 1 none) C
   |none=>.no
  |_=>.no
 |.mkIface t x=>.val (.iface t (x.ev ρ)) j
 |.mkFunc f first cap=>.val (.fn f (first.map (·.ev ρ)) (cap.map (·.ev ρ))) j
 |.mkMap0=>Y1 j
 |.mkMap1 x=>match x.ev ρ with
  |.int _ _=>Y1 j
  |_=>.no
 |.mkSl g L l c=>match l.ev ρ,c.ev ρ with
  |.int .i64 (.ofNat l),.int .i64 (.ofNat c)=>match Nat.ble l c with
   |true=>match Nat.ble c 1048576 with
    |true=>match newObj j (Up L c) with
     |some (o,C)=>.val (.sl o 0 0 l g (some c)) C
     |none=>.no
    |false=>.no
   |false=>.no
  |_,_=>.no
 |.slStr x B hi=>match x.ev ρ,Qz ρ B,Qz ρ hi with
  |.str len n,some B,some hi =>
   let l:=B.getD 0;let h:=hi.getD len
   match Nat.ble l h with
   |true=>match Nat.ble h len with
    |true=>.val (.str (Nat.sub h l) (Nat.mod (Nat.div n (Nat.pow 256 l)) (Nat.pow 256 (Nat.sub h l)))) j
    |false=>.no
   |false=>.no
  |_,_,_=>.no
 |.slSl g x B hi H=>match x.ev ρ,Qz ρ B,Qz ρ hi,Qz ρ H with
  |.sl o v i len A M,some B,some hi,some H=>ret1 j (Wf g B hi H o v i len A M)
  |.nilSl,some B,some hi,some none=>match Nat.beq (Nat.add (B.getD 0) (hi.getD 0)) 0 with
   |true=>.val .nilSl j
   |false=>.no
  |.emp,some B,some hi,some none=>match Nat.beq (Nat.add (B.getD 0) (hi.getD 0)) 0 with
   |true=>.val .emp j
   |false=>.no
  |_,_,_,_=>.no
 |.slArr n g x B hi H=>match x.ev ρ,Qz ρ B,Qz ρ hi,Qz ρ H with
  |.ptr o v i,some B,some hi,some H=>match j.get o with
   |some (.cells _ O U false)=>match Nat.beq v U with
    |true=>match Nat.ble (Nat.add i (Nat.mul n g)) O with
     |true=>ret1 j (Wf g B hi H o v i n g (some n))
     |false=>.no
    |false=>.no
   |_=>.no
  |_,_,_,_=>.no
 |.fieldAddr I x=>match x.ev ρ with
  |.ptr o v i=>.val (.ptr o v (Nat.add i I)) j
  |_=>.no
 |.field V n I x=>match x.ev ρ with
  |.agg l=>ret1 j (fk V n l I)
  |_=>.no
 |.ixAddr g x i=>match x.ev ρ,i.ev ρ with
  |.sl o v i len A _,.int _ (.ofNat n)=>match Nat.blt n len with
   |true=>match Nat.beq A g with
    |true=>.val (.ptr o v (Nat.add i (Nat.mul n A))) j
    |false=>.no
   |false=>.no
  |_,_=>.no
 |.ixAddrArr len g x i=>match x.ev ρ,i.ev ρ with
  |.ptr o v i,.int _ (.ofNat n)=>match Nat.blt n len with
   |true=>.val (.ptr o v (Nat.add i (Nat.mul n g))) j
   |false=>.no
  |_,_=>.no
 |.ixStr x i=>match x.ev ρ,i.ev ρ with
  |.str len n,.int _ (.ofNat i)=>match Nat.blt i len with
   |true=>.val (.int .u8 (Int.ofNat (Nat.mod (Nat.div n (Nat.pow 256 i)) 256))) j
   |false=>.no
  |_,_=>.no
 |.ixArr V len g x i=>match x.ev ρ,i.ev ρ with
  |.agg l,.int _ (.ofNat n)=>match Nat.blt n len with
   |true=>ret1 j (fk V g l (Nat.mul n g))
   |false=>.no
  |_,_=>.no
 |.lookup d L ok x i=>match ztz j (x.ev ρ) with
  |none=>.no
  |some K=>match uy d (i.ev ρ) K with
   |some (some v)=>.val (if ok then .tup [v,.bool true] else v) j
   |some none=>.val (if ok then .tup [L,.bool false] else L) j
   |none=>.no
 |.mapUpd d m k v=>match m.ev ρ with
  |.map o=>match j.get o with
   |some (.map K z)=>match u7 d (k.ev ρ) (v.ev ρ) z K with
    |some (D,true)=>.val Tc (j.put o (.map D (Nat.add z 1)))
    |some (D,false)=>.val Tc (j.put o (.map D z))
    |none=>.no
   |_=>.no
  |_=>.no
 |.range x=>match x.ev ρ with
  |.str len n=>.val (.ptr j.next 0 0) (j.push (.iter len n 0))
  |_=>.no
 |.next x=>match x.ev ρ with
  |.ptr o 0 0=>match j.get o with
   |some (.iter len n F)=>match Nat.blt F len with
    |true=>match Nat.blt (Nat.mod (Nat.div n (Nat.pow 256 F)) 256) 128 with
     |true=>.val (.tup [.bool true,.int .i64 (Int.ofNat F),.int .i32 (Int.ofNat (Nat.mod (Nat.div n (Nat.pow 256 F)) 256))]) (j.put o (.iter len n (Nat.add F 1)))
     |false=>.no
    |false=>.val (.tup [.bool false]) j
   |_=>.no
  |_=>.no
 |.assert L ok t x=>match x.ev ρ with
  |.nilIf=>if ok then .val (.tup [L,.bool false]) j else .no
  |.iface X v=>match Nat.beq X t with
   |true=>.val (if ok then .tup [v,.bool true] else v) j
   |false=>if ok then .val (.tup [L,.bool false]) j else .no
  |_=>.no
 |.extract i x=>match x.ev ρ with
  |.tup l=>ret1 j l[i]?
  |_=>.no
 |.lenStr x=>match x.ev ρ with
  |.str l _=>.val (.int .i64 (Int.ofNat l)) j
  |_=>.no
 |.lenSl x=>match x.ev ρ with
  |.sl _ _ _ len _ _=>.val (.int .i64 (Int.ofNat len)) j
  |.nilSl=>.val (.int .i64 0) j
  |.emp=>.val (.int .i64 0) j
  |_=>.no
 |.lenMap x=>match x.ev ρ with
  |.nilMap=>.val (.int .i64 0) j
  |.map o=>match j.get o with
   |some (.map K _)=>.val (.int .i64 (Int.ofNat K.length)) j
   |_=>.no
  |_=>.no
 |.lenArr n _=>.val (.int .i64 (Int.ofNat n)) j
 |.cap x=>match x.ev ρ with
  |.nilSl=>.val (.int .i64 0) j
  |.sl _ _ _ _ _ (some r)=>.val (.int .i64 (Int.ofNat r)) j
  |_=>.no
 |.maxi H l=>match (l.map (λ(x:Ox)=>x.ev ρ):List AV) with
  |.int k n::l=>ret1 j (Zs H (.int k n) l)
  |_=>.no
 |.appZ g L s x=>match x.ev ρ with
  |.int .i64 (.ofNat n)=>match Nat.ble n 1048576 with
   |true=>Xh j g (s.ev ρ) n (Up L n)
   |false=>.no
  |_=>.no
 |.appG g s x=>match gq j g (x.ev ρ) with
  |some (n,l)=>match Nat.ble n 1048576 with
   |true=>Xh j g (s.ev ρ) n l
   |false=>.no
  |none=>.no
 |.copy g d x=>match gq j g (x.ev ρ) with
  |some (n,l)=>match d.ev ρ with
   |.nilSl=>.val (.int .i64 0) j
   |.emp=>.val (.int .i64 0) j
   |.sl o v i len A _=>match Nat.beq A g with
    |true=>match Wx j o v i (l.take (Nat.mul (Rv n len) g)) with
     |some C=>.val (.int .i64 (Int.ofNat (Rv n len))) C
     |none=>.no
    |false=>.no
   |_=>.no
  |none=>.no
 |.clear g L x=>match x.ev ρ with
  |.nilSl=>.val Tc j
  |.emp=>.val Tc j
  |.sl o v i len A _=>match Nat.beq A g with
   |true=>match Wx j o v i (Up L len) with
    |some C=>.val Tc C
    |none=>.no
   |false=>.no
  |_=>.no
 |.delete d m k=>match m.ev ρ with
  |.map o=>match j.get o with
   |some (.map K z)=>match zgk d (k.ev ρ) K with
    |some D=>.val Tc (j.put o (.map D z))
    |none=>.no
   |_=>.no
  |_=>.no
 |.callV f G=>zg1 P j (f.ev ρ) (G.map (·.ev ρ))
 |.invoke r Q G=>match r.ev ρ with
  |.iface t v=>match zg9 P t Q with
   |some f=>match pg P f with
    |true=>.call (.fn f) (v::G.map (·.ev ρ))
    |false=>.no
   |none=>.no
  |_=>.no
def jm(g:Nat→Option (Nat×Nat)):List (Nat×Operand)→Option (List (Nat×Nat×Ox))
 |[]=>some []
 |(i,x)::l=>match g i with
  |none=>none
  |some (o,s)=>match Pu x with
   |none=>none
   |some r=>match jm g l with
    |none=>none
    |some q=>some ((o,s,r)::q)
def Qr(x:Operand)(f:Ox→ROp):Option ROp:=match Pu x with
 |none=>none
 |some r=>some (f r)
def S0(x y:Operand)(f:Ox→Ox→ROp):Option ROp:=match Pu x with
 |none=>none
 |some r=>match Pu y with
  |none=>none
  |some q=>some (f r q)
def zen(g:Nat)(f:Nat→Ox→Option Ox→Option Ox→Option Ox→ROp)(x:Operand)(j hi z:Option Operand):Option ROp :=
 match Pu x,ku j,ku hi,ku z with
 |some r,some a,some b,some c=>some (f g r a b c)
 |_,_,_,_=>none
def zo3(P:Program)(c:Call):Option ROp :=
 match c.callee with
 |.builtin b=>match b with
  |.len=>match c.argTypes.toList,c.args.toList with
   |[t],[x]=>match P.underlying t with
    |some .string=>Qr x .lenStr
    |some (.slice _)=>Qr x .lenSl
    |some (.map _ _)=>Qr x .lenMap
    |some (.array n _)=>Qr x (.lenArr n)
    |_=>none
   |_,_=>none
  |.cap=>match c.argTypes.toList,c.args.toList with
   |[t],[x]=>match P.underlying t with
    |some (.slice _)=>Qr x .cap
    |_=>none
   |_,_=>none
  |.max=>match ki c.args.toList with
   |some l=>some (.maxi true l)
   |none=>none
  |.min=>match ki c.args.toList with
   |some l=>some (.maxi false l)
   |none=>none
  |.append=>match c.argTypes.toList,c.args.toList with
   |[st,B],[s,x]=>match P.underlying st,P.underlying B with
    |some (.slice g),some d=>match P.info? g,Tz P g with
     |some i,some C=>if 0<i.size∧i.bytes≤65536 then match d with
      |.int _=>S0 s x (.appZ i.size C)
      |.slice _=>S0 s x (.appG i.size)
      |.string=>S0 s x (.appG i.size)
      |_=>none
      else none
     |_,_=>none
    |_,_=>none
   |_,_=>none
  |.copy=>match c.argTypes.toList,c.args.toList with
   |[st,_],[d,x]=>match P.underlying st with
    |some (.slice g)=>match Qg P g with
     |none=>none
     |some j=>if 0<j then S0 d x (.copy j) else none
    |_=>none
   |_,_=>none
  |.clear=>match c.argTypes.toList,c.args.toList with
   |[st],[x]=>match P.underlying st with
    |some (.slice g)=>match Qg P g,Tz P g with
     |some j,some C=>if 0<j then Qr x (.clear j C) else none
     |_,_=>none
    |_=>none
   |_,_=>none
  |.delete=>match c.argTypes.toList,c.args.toList with
   |[mt,_],[m,k]=>match P.underlying mt with
    |some (.map A _)=>match Vz P A with
     |some d=>S0 m k (.delete d)
     |none=>none
    |_=>none
   |_,_=>none
  |_=>none
 |.value f=>match Pu f,ki c.args.toList with
  |some D,some l=>some (.callV D l)
  |_,_=>none
 |.invoke r z=>match Pu r,ki c.args.toList with
  |some D,some l=>some (.invoke D z l)
  |_,_=>none
def T3(P:Program)(o:Op):Option ROp :=
 match o with
 |.move x |.assign x=>Qr x .move
 |.pick c a b=>match Pu c,Pu a,Pu b with
  |some c,some a,some b=>some (.pick c a b)
  |_,_,_=>none
 |.alloc t=>match Tz P t with
  |some l=>some (.alloc l)
  |none=>none
 |.box _ x=>Qr x .box
 |.build t A=>match Tz P t with
  |none=>none
  |some H=>match P.underlying t with
   |some (.struct z)=>match za8 P z.toList with
    |none=>none
    |some pl=>match jm (pl[·]?) A.toList with
     |none=>none
     |some C=>some (.build H C)
   |some (.array _ g)=>match Qg P g with
    |none=>none
    |some j=>match jm (λi=>some (i*j,j)) A.toList with
     |none=>none
     |some C=>some (.build H C)
   |_=>none
 |.buildSlice t len A=>match P.underlying t with
  |some (.slice g)=>match Qg P g with
   |none=>none
   |some j=>match Tz P g with
    |none=>none
    |some F=>if len*j≤2^20∧0<j then
      match jm (λi=>some (i*j,j)) A.toList with
      |none=>none
      |some C=>some (.buildSl j len (Up F len) C)
     else none
  |_=>none
 |.load t a=>match Ua P t,Qg P t with
  |some true,some n=>Qr a (.loadN n)
  |some false,some _=>Qr a .load1
  |_,_=>none
 |.store t a x=>match Qg P t with
  |some n=>S0 a x (.store n)
  |none=>none
 |.nilCheck x=>Qr x .nilChk
 |.binOp op t x y _=>S0 x y (.bin op (Xy x || Xy y) t)
 |.unOp op _ x=>Qr x (.un op)
 |.convert s d x=>match P.underlying s,P.underlying d with
  |some _,some (.int k)=>Qr x (.cvInt k)
  |some (.slice e),some .string=>match P.underlying e with
   |some (.int .u8)=>Qr x .cvStr
   |_=>none
  |some _,some .string=>Qr x .cvSame
  |some _,some (.slice e)=>match P.underlying e,Qg P e with
   |some (.int .u8),some 1=>Qr x .cvBytes
   |_,_=>none
  |_,_=>none
 |.makeInterface t x=>match P.underlying t with
  |some (.interface _)=>none
  |some _=>Qr x (.mkIface t)
  |none=>none
 |.makeFunc f first cap=>match f with
  |.yield _=>none
  |f=>match ki first.toList,ki cap.toList with
   |some a,some b=>some (.mkFunc f a b)
   |_,_=>none
 |.makeMap t r=>match r with
  |none=>some .mkMap0
  |some x=>match P.underlying t with
   |some (.map _ _)=>Qr x .mkMap1
   |_=>none
 |.makeSlice t l c=>match P.underlying t with
  |some (.slice g)=>match P.info? g with
   |none=>none
   |some i=>match Tz P g with
    |none=>none
    |some F=>if 0<i.size∧i.bytes≤2^16 then S0 l c (.mkSl i.size F) else none
  |_=>none
 |.slice t x G hi D=>match P.underlying t with
  |some .string=>match D with
   |some _=>none
   |none=>match Pu x,ku G,ku hi with
    |some r,some a,some b=>some (.slStr r a b)
    |_,_,_=>none
  |some (.slice g)=>if D.isSome&&hi.isNone then none else match Qg P g with
   |none=>none
   |some j=>zen j .slSl x G hi D
  |some (.array n g)=>if D.isSome&&hi.isNone then none else match Qg P g with
   |none=>none
   |some j=>zen j (.slArr n) x G hi D
  |_=>none
 |.fieldAddr s x f=>match P.underlying s with
  |some (.struct z)=>match z[f]? with
   |none=>none
   |some fd=>match Qg P fd.type with
    |none=>none
    |some 0=>none
    |some _=>Qr x (.fieldAddr fd.offset)
  |_=>none
 |.field t x f=>match P.underlying t with
  |some (.struct z)=>match z[f]? with
   |none=>none
   |some fd=>match Ua P fd.type,Qg P fd.type with
    |some I,some n=>Qr x (.field I n fd.offset)
    |_,_=>none
  |_=>none
 |.indexAddr t x i=>match P.underlying t with
  |some (.slice g)=>match Qg P g with
   |none=>none
   |some j=>S0 x i (.ixAddr j)
  |some (.array len g)=>match Qg P g with
   |none=>none
   |some j=>S0 x i (.ixAddrArr len j)
  |_=>none
 |.index t x i=>match P.underlying t with
  |some .string=>S0 x i .ixStr
  |some (.array len g)=>match Ua P g,Qg P g with
   |some I,some j=>S0 x i (.ixArr I len j)
   |_,_=>none
  |_=>none
 |.lookup t x i ok=>match P.underlying t with
  |some (.map B g)=>match Vz P B,znk P g with
   |some d,some F=>S0 x i (.lookup d F ok)
   |_,_=>none
  |_=>none
 |.mapUpdate t m k x |.insert t m k x=>match P.underlying t with
  |some (.map B _)=>match Vz P B with
   |some d=>match Pu m,Pu k,Pu x with
    |some m,some k,some x=>some (.mapUpd d m k x)
    |_,_,_=>none
   |none=>none
  |_=>none
 |.range t x=>match P.underlying t with
  |some .string=>Qr x .range
  |_=>none
 |.next K s=>if s then Qr K .next else none
 |.typeAssert x _ t ok=>match P.underlying t with
  |some (.interface _)=>none
  |some _=>match znk P t with
   |none=>none
   |some F=>Qr x (.assert F ok t)
  |none=>none
 |.extract t i=>Qr t (.extract i)
 |.call c=>zo3 P c
 |_=>none
section ok
variable {P : Program} {E : Tr AV} {ρ : e9}
def Uz{x:Operand}{f:Ox→ROp}{r:ROp}(h:Qr x f=some r):∃q,Pu x=some q∧r=f q:=by
 unfold Qr at h;cases g:Pu x with
 |none=>rw[g]at h;cases h
 |some q=>rw[g]at h;cases h;exact⟨q,rfl,rfl⟩
def Zk{x y:Operand}{f:Ox→Ox→ROp}{r:ROp}(h:S0 x y f=some r):∃q p,Pu x=some q∧Pu y=some p∧r=f q p:=by
 unfold S0 at h;cases g:Pu x with
 |none=>rw[g]at h;cases h
 |some q =>
  rw[g]at h;dsimp only at h;cases j:Pu y with
  |none=>rw[j]at h;cases h
  |some p=>rw[j]at h;cases h;exact⟨q,p,rfl,rfl,rfl⟩
def Uv(g:Wa E ρ){x:Operand}{q:Ox}(j:Pu x=some q)(f:Heap→AV→OR)(z:Heap):(Ro x f).run E z=f z (q.ev ρ):=by
 show (Option.rec OR.no (λa=>f z a) ((O8 x).run E):OR)=_;rw[U3 j g]
def Zi(g:Wa E ρ){x y:Operand}{q p:Ox}(j:Pu x=some q)(z:Pu y=some p)(f:Heap→AV→AV→OR)(A:Heap):(Uq x y f).run E A=f A (q.ev ρ) (p.ev ρ):=by
 show (Option.rec OR.no (λa=>Option.rec OR.no (λb=>f A a b) ((O8 y).run E)) ((O8 x).run E):OR)=_;rw[U3 j g,U3 z g]
def z9e(C:Wa E ρ){g:Nat→Option (Nat×Nat)}:∀{l:List (Nat×Operand)} {z:List (Nat×Nat×Ox)} {cs:List AV},jm g l=some z→∃A,ju g l=some A∧aq cs A E=fillR ρ cs z
 |[],z,cs,h=>by cases h;exact⟨[],rfl,rfl⟩
 |(i,x)::l,z,cs,h=>by
  simp only[jm]at h;cases D:g i with
  |none=>rw[D]at h;cases h
  |some I =>
   obtain⟨o,s⟩:=I;rw[D]at h;dsimp only at h;cases F:Pu x with
   |none=>rw[F]at h;cases h
   |some r =>
    rw[F]at h;dsimp only at h;cases B:jm g l with
    |none=>rw[B]at h;cases h
    |some q =>
     rw[B]at h;cases h;obtain⟨A,H,_⟩:=z9e C (cs:=cs) B;refine⟨⟨o,s,O8 x⟩::A,by simp only[ju,D,H],?_⟩;simp only[aq,fillR];rw[U3 F C];dsimp only;cases (r.ev ρ).cells with
     |none=>rfl
     |some c =>
      dsimp only;cases Nat.beq c.length s with
      |false=>rfl
      |true =>
       dsimp only;cases Nat.ble (Nat.add o s) cs.length with
       |false=>rfl
       |true =>
        dsimp only;obtain⟨K,j,G⟩:=z9e C (cs:=Vd cs o c) B;rw[H]at j;cases j;exact G
def zfg{f:Nat→Ox→Option Ox→Option Ox→Option Ox→ROp}{x:Operand}{j hi z:Option Operand}{r:ROp}(h:zen g f x j hi z=some r) :
  ∃q a b c,Pu x=some q∧ku j=some a∧ku hi=some b∧ku z=some c∧r=f g q a b c:=by
 unfold zen at h;split at h
 ·rename_i q a b c A B C D;cases h;exact⟨q,a,b,c,A,B,C,D,rfl⟩
 ·cases h
def zst(j:Wa E ρ){c:Call}{r:ROp}(h:zo3 P c=some r)(Y:Heap):(bw P c).run E Y=P6 P ρ Y r:=by
 unfold zo3 at h;unfold bw;split at h
 ·rename_i b U;rw[U];dsimp only;split at h
  ·split at h
   ·rename_i t x A z;rw[A,z];dsimp only;unfold Wc;split at h<;>first
     |(cases h;done)
     | (rename_i hu
        obtain⟨q,g,rfl⟩:=Uz h;rw[hu];dsimp only;rw[Uv j g];rfl)
   ·cases h
  ·split at h
   ·rename_i t x A z;rw[A,z];dsimp only;unfold Xu;split at h
    ·rename_i hu;obtain⟨q,g,rfl⟩:=Uz h;rw[hu];dsimp only;rw[Uv j g];rfl
    ·cases h
   ·cases h
  ·split at h
   ·rename_i l F;cases h;simp only[U7,P6];rw[resOs_ok F j];generalize (l.map λ(x:Ox)=>x.ev ρ)=G;rcases G with _|⟨v,G⟩
    ·rfl
    ·cases v<;>rfl
   ·cases h
  ·split at h
   ·rename_i l F;cases h;simp only[U7,P6];rw[resOs_ok F j];generalize (l.map λ(x:Ox)=>x.ev ρ)=G;rcases G with _|⟨v,G⟩
    ·rfl
    ·cases v<;>rfl
   ·cases h
  ·split at h
   ·rename_i st T s x A z;unfold zf2;rw[A,z];dsimp only;split at h
    ·rename_i D d L M;rw[L,M];split at h
     ·rename_i i gg hi H;split at h
      ·rename_i O;split at h
       ·rename_i k;obtain⟨q,p,g,C,rfl⟩:=Zk h;dsimp only;unfold zkg;rw[hi,H];dsimp only;rw[J8 O,Zi j g C];rfl
       ·obtain⟨q,p,g,C,rfl⟩:=Zk h;dsimp only;unfold vj;rw[hi,H];dsimp only;rw[J8 O,Zi j g C];rfl
       ·obtain⟨q,p,g,C,rfl⟩:=Zk h;dsimp only;unfold vj;rw[hi,H];dsimp only;rw[J8 O,Zi j g C];rfl
       ·cases h
      ·cases h
     ·cases h
    ·cases h
   ·cases h
  ·split at h
   ·rename_i st T d x A z;unfold zvo;rw[A,z];dsimp only;split at h
    ·rename_i D hu;rw[hu];dsimp only;split at h
     ·cases h
     ·rename_i I Q;split at h
      ·rename_i B;obtain⟨q,p,g,C,rfl⟩:=Zk h;rw[Q];dsimp only;rw[J8 B,Zi j g C];rfl
      ·cases h
    ·cases h
   ·cases h
  ·split at h
   ·rename_i st x A z;unfold zmq;rw[A,z];dsimp only;split at h
    ·rename_i D hu;rw[hu];dsimp only;split at h
     ·rename_i I gg Q H;split at h
      ·rename_i B;obtain⟨q,g,rfl⟩:=Uz h;rw[Q,H];dsimp only;rw[J8 B,Uv j g];rfl
      ·cases h
     ·cases h
    ·cases h
   ·cases h
  ·split at h
   ·rename_i mt T m k A z;unfold zff;rw[A,z];dsimp only;split at h
    ·rename_i V e hu;rw[hu];dsimp only;split at h
     ·rename_i d hd;obtain⟨q,p,g,C,rfl⟩:=Zk h;rw[hd];dsimp only;rw[Zi j g C];rfl
     ·cases h
    ·cases h
   ·cases h
  ·cases h
 ·rename_i f X;rw[X];dsimp only;split at h
  ·rename_i Z l R F;cases h;rw[U3 R j,resOs_ok F j];simp only[P6]
  ·cases h
 ·rename_i x K z;rw[z];dsimp only;split at h
  ·rename_i Z l R F;cases h;rw[U3 R j,resOs_ok F j];simp only[P6];cases Z.ev ρ with
   |iface t v =>
    dsimp only;cases zg9 P t K with
    |none=>rfl
    |some f =>
     dsimp only;cases pg P f<;>rfl
   |_=>rfl
  ·cases h
end ok
end
end
section
section ok
variable {P : Program} {E : Tr AV} {ρ : e9}
def zq3(z:Wa E ρ){o:Op}{r:ROp}(h:T3 P o=some r)(R:Heap):(Pp P o).run E R=P6 P ρ R r:=by
 cases o with
 |move x =>
  obtain⟨q,g,rfl⟩:=Uz h;show (Ro x _).run E R=_;rw[Uv z g];rfl
 |assign x =>
  obtain⟨q,g,rfl⟩:=Uz h;show (Ro x _).run E R=_;rw[Uv z g];rfl
 |pick c a b =>
  simp only[T3]at h;split at h
  ·rename_i M O T g A D;cases h;simp only[Pp];rw[U3 g z,U3 A z,U3 D z];simp only[P6];generalize M.ev ρ=v;cases v with
   |bool t=>cases t<;>rfl
   |_=>rfl
  ·cases h
 |alloc t =>
  simp only[T3]at h;simp only[Pp];cases H:Tz P t with
  |none=>rw[H]at h;cases h
  |some l=>rw[H]at h;cases h;rfl
 |box t x =>
  obtain⟨q,g,rfl⟩:=Uz h;show (Ro x _).run E R=_;rw[Uv z g];rfl
 |build t G =>
  simp only[T3]at h;simp only[Pp,zh4];cases H:Tz P t with
  |none=>rw[H]at h;cases h
  |some Z =>
   rw[H]at h;dsimp only at h ⊢;split at h
   ·rename_i C hu;rw[hu];dsimp only;cases K:za8 P C.toList with
    |none=>rw[K]at h;cases h
    |some pl =>
     rw[K]at h;dsimp only at h ⊢;cases I:jm (pl[·]?) G.toList with
     |none=>rw[I]at h;cases h
     |some ps =>
      rw[I]at h;cases h;obtain⟨qs,g,A⟩:=z9e z (cs:=Z) I;rw[g];dsimp only;rw[A];rfl
   ·rename_i n j hu;rw[hu];dsimp only;cases F:Qg P j with
    |none=>rw[F]at h;cases h
    |some B =>
     rw[F]at h;dsimp only at h ⊢;cases I:jm (λi=>some (i*B,B)) G.toList with
     |none=>rw[I]at h;cases h
     |some ps =>
      rw[I]at h;cases h;obtain⟨qs,g,A⟩:=z9e z (cs:=Z) I;rw[g];dsimp only;rw[A];rfl
   ·cases h
 |buildSlice t len G =>
  simp only[T3]at h;simp only[Pp,uq];split at h
  ·rename_i j hu;rw[hu];dsimp only;cases F:Qg P j with
   |none=>rw[F]at h;cases h
   |some B =>
    rw[F]at h;dsimp only at h ⊢;cases H:Tz P j with
    |none=>rw[H]at h;cases h
    |some Y =>
     rw[H]at h;dsimp only at h ⊢;split at h
     ·rename_i L;rw[J8 L];cases I:jm (λi=>some (i*B,B)) G.toList with
      |none=>rw[I]at h;cases h
      |some ps =>
       rw[I]at h;cases h;obtain⟨qs,g,A⟩:=z9e z (cs:=Up Y len) I;rw[g];dsimp only;rw[A];rfl
     ·cases h
  ·cases h
 |load t a =>
  simp only[T3]at h;simp only[Pp,znh];split at h
  ·rename_i n g A;obtain⟨q,D,rfl⟩:=Uz h;rw[g,A];dsimp only;rw[Uv z D];rfl
  ·rename_i n g A;obtain⟨q,D,rfl⟩:=Uz h;rw[g,A];dsimp only;rw[Uv z D];rfl
  ·cases h
 |store t a x =>
  simp only[T3]at h;simp only[Pp,zkv];cases F:Qg P t with
  |none=>rw[F]at h;cases h
  |some n =>
   rw[F]at h;obtain⟨q,p,g,A,rfl⟩:=Zk h;dsimp only;rw[Zi z g A];rfl
 |nilCheck x =>
  obtain⟨q,g,rfl⟩:=Uz h;show (Ro x _).run E R=_;rw[Uv z g];rfl
 |binOp op t x y yt =>
  obtain⟨q,p,g,A,rfl⟩:=Zk h;simp only[Pp];rw[Zi z g A];rfl
 |unOp op t x =>
  obtain⟨q,g,rfl⟩:=Uz h;show (Ro x _).run E R=_;rw[Uv z g];rfl
 |convert s d x =>
  simp only[T3]at h;simp only[Pp];unfold W6;split at h
  ·rename_i U k g A;obtain⟨q,D,rfl⟩:=Uz h;rw[g,A];dsimp only;rw[Uv z D];rfl
  ·rename_i e g A;rw[g,A];dsimp only;split at h
   ·rename_i hu;rw[hu];dsimp only;obtain⟨q,D,rfl⟩:=Uz h;rw[Uv z D];rfl
   ·cases h
  ·rename_i U V g A;obtain⟨q,D,rfl⟩:=Uz h;rw[g,A];cases U with
   |slice e=>exact absurd rfl (V e)
   |_=>dsimp only;rw[Uv z D];rfl
  ·rename_i U e g A;rw[g,A];dsimp only;split at h
   ·rename_i k1 k2;obtain⟨q,D,rfl⟩:=Uz h;rw[k1,k2];exact (Uv z D _ _).trans rfl
   ·cases h
  ·cases h
 |makeInterface t x =>
  simp only[T3]at h;simp only[Pp,z8d];cases hu:P.underlying t with
  |none=>rw[hu]at h;cases h
  |some d =>
   rw[hu]at h;cases d with
   |interface ms=>cases h
   |_=>obtain⟨q,g,rfl⟩:=Uz h;dsimp only;rw[Uv z g];rfl
 |makeFunc f first cap =>
  simp only[T3]at h;cases f with
  |yield l=>cases h
  |_ =>
   dsimp only at h;split at h
   ·rename_i a b g A;cases h;simp only[Pp,zbc];rw[resOs_ok g z,resOs_ok A z];rfl
   ·cases h
 |makeMap t r =>
  simp only[T3]at h;simp only[Pp,te];cases r with
  |none=>cases h;rfl
  |some x =>
   dsimp only at h ⊢;split at h
   ·rename_i k e hu;obtain⟨q,g,rfl⟩:=Uz h;rw[hu];dsimp only;rw[Uv z g];rfl
   ·cases h
 |makeSlice t l c =>
  simp only[T3]at h;simp only[Pp,vy];split at h
  ·rename_i j hu;rw[hu];dsimp only;cases hi:P.info? j with
   |none=>rw[hi]at h;cases h
   |some i =>
    rw[hi]at h;dsimp only at h ⊢;cases H:Tz P j with
    |none=>rw[H]at h;cases h
    |some Y =>
     rw[H]at h;dsimp only at h ⊢;split at h
     ·rename_i L;obtain⟨q,p,g,A,rfl⟩:=Zk h;rw[J8 L,Zi z g A];rfl
     ·cases h
  ·cases h
 |slice t x lo hi mx =>
  simp only[T3]at h;simp only[Pp,ny];split at h
  ·rename_i hu;rw[hu];dsimp only;cases mx with
   |some m=>cases h
   |none =>
    dsimp only at h ⊢;split at h
    ·rename_i q a b g A D;cases h;rw[U3 g z,ui A z,ui D z];simp only[P6];cases q.ev ρ with
     |str len n =>
      cases Qz ρ a with
      |none=>rfl
      |some O=>cases Qz ρ b<;>rfl
     |_=>rfl
    ·cases h
  ·rename_i j hu;rw[hu];dsimp only;split at h
   ·cases h
   ·rename_i L;rw[J2 L];cases F:Qg P j with
    |none=>rw[F]at h;cases h
    |some B =>
     rw[F]at h;obtain⟨q,a,b,c,g,A,D,X,rfl⟩:=zfg h;dsimp only;rw[U3 g z,ui A z,ui D z,ui X z];simp only[P6];generalize q.ev ρ=v;generalize Qz ρ a=O;generalize Qz ρ b=T;generalize Qz ρ c=M;cases v<;>cases O<;>cases T<;>cases M<;>try rfl
     all_goals (rename_i Y;cases Y<;>rfl)
  ·rename_i n j hu;rw[hu];dsimp only;split at h
   ·cases h
   ·rename_i L;rw[J2 L];cases F:Qg P j with
    |none=>rw[F]at h;cases h
    |some B =>
     rw[F]at h;obtain⟨q,a,b,c,g,A,D,X,rfl⟩:=zfg h;dsimp only;rw[U3 g z,ui A z,ui D z,ui X z];simp only[P6];generalize q.ev ρ=v;generalize Qz ρ a=O;generalize Qz ρ b=T;generalize Qz ρ c=M;cases v<;>cases O<;>cases T<;>cases M<;>rfl
  ·cases h
 |fieldAddr s x f =>
  simp only[T3]at h;simp only[Pp,z4m];split at h
  ·rename_i C hu;rw[hu];dsimp only;cases K:C[f]? with
   |none=>rw[K]at h;cases h
   |some fd =>
    rw[K]at h;dsimp only at h ⊢;split at h
    ·cases h
    ·cases h
    ·rename_i n hn F;obtain⟨q,g,rfl⟩:=Uz h;rw[F];cases n with
     |zero=>exact absurd rfl hn
     |succ n=>exact (Uv z g _ _).trans rfl
  ·cases h
 |field t x f =>
  simp only[T3]at h;simp only[Pp,zg3];split at h
  ·rename_i C hu;rw[hu];dsimp only;cases K:C[f]? with
   |none=>rw[K]at h;cases h
   |some fd =>
    rw[K]at h;dsimp only at h ⊢;split at h
    ·rename_i gg n g A;obtain⟨q,D,rfl⟩:=Uz h;rw[g,A];dsimp only;rw[Uv z D];rfl
    ·cases h
  ·cases h
 |indexAddr t x i =>
  simp only[T3]at h;simp only[Pp,z4i];split at h
  ·rename_i j hu;rw[hu];dsimp only;cases F:Qg P j with
   |none=>rw[F]at h;cases h
   |some B =>
    rw[F]at h;obtain⟨q,p,g,A,rfl⟩:=Zk h;dsimp only;rw[Zi z g A];rfl
  ·rename_i len j hu;rw[hu];dsimp only;cases F:Qg P j with
   |none=>rw[F]at h;cases h
   |some B =>
    rw[F]at h;obtain⟨q,p,g,A,rfl⟩:=Zk h;dsimp only;rw[Zi z g A];rfl
  ·cases h
 |index t x i =>
  simp only[T3]at h;simp only[Pp,zfp];split at h
  ·rename_i hu;obtain⟨q,p,g,A,rfl⟩:=Zk h;rw[hu];dsimp only;rw[Zi z g A];rfl
  ·rename_i len j hu;rw[hu];dsimp only;split at h
   ·rename_i gg B hg F;obtain⟨q,p,g,A,rfl⟩:=Zk h;rw[hg,F];dsimp only;rw[Zi z g A];rfl
   ·cases h
  ·cases h
 |lookup t x i ok =>
  simp only[T3]at h;simp only[Pp,yc];split at h
  ·rename_i Q j hu;rw[hu];dsimp only;split at h
   ·rename_i d Y hd H;obtain⟨q,p,g,A,rfl⟩:=Zk h;rw[hd,H];dsimp only;rw[Zi z g A];rfl
   ·cases h
  ·cases h
 |mapUpdate t m k x =>
  simp only[T3]at h;simp only[Pp,z4j];split at h
  ·rename_i Q j hu;rw[hu];dsimp only;split at h
   ·rename_i d hd;rw[hd];dsimp only;split at h
    ·rename_i a b c g A D;cases h;rw[U3 g z,U3 A z,U3 D z];simp only[P6];cases a.ev ρ<;>rfl
    ·cases h
   ·cases h
  ·cases h
 |insert t m k x =>
  simp only[T3]at h;simp only[Pp,z4j];split at h
  ·rename_i Q j hu;rw[hu];dsimp only;split at h
   ·rename_i d hd;rw[hd];dsimp only;split at h
    ·rename_i a b c g A D;cases h;rw[U3 g z,U3 A z,U3 D z];simp only[P6];cases a.ev ρ<;>rfl
    ·cases h
   ·cases h
  ·cases h
 |range t x =>
  simp only[T3]at h;simp only[Pp,rangeF];split at h
  ·rename_i hu;obtain⟨q,g,rfl⟩:=Uz h;rw[hu];dsimp only;rw[Uv z g];rfl
  ·cases h
 |next it s =>
  simp only[T3]at h;simp only[Pp,zvq];cases s with
  |false=>cases h
  |true =>
   obtain⟨q,g,rfl⟩:=Uz h;rw[J8 rfl,Uv z g];rfl
 |typeAssert x xt t ok =>
  simp only[T3]at h;simp only[Pp,yx];cases hu:P.underlying t with
  |none=>rw[hu]at h;cases h
  |some d =>
   rw[hu]at h;cases d with
   |interface ms=>cases h
   |_ =>
    dsimp only at h ⊢;cases H:znk P t with
    |none=>rw[H]at h;cases h
    |some Y=>rw[H]at h;obtain⟨q,g,rfl⟩:=Uz h;dsimp only;rw[Uv z g];rfl
 |extract t i =>
  obtain⟨q,g,rfl⟩:=Uz h;show (Ro t _).run E R=_;rw[Uv z g];rfl
 |call c=>exact zst z h R
 |_=>cases h
end ok
end
section
open Go.RowKit (Below)
noncomputable def zmh(g:Program)(f:Nat):Bool:=match g.funcs[f]? with
 |some fn=>match fn.params.toList with
  |[]=>match fn.resultTypes.toList with
   |[t]=>match g.underlying t with
    |some .bool=>true
    |_=>false
   |_=>false
  |_::_=>false
 |none=>false
def zaa(A:Program)(f:Nat):Prop :=
 ∀(w:World) z,∃g j,Below w.heap.size w g∧Steps A (lone (Frame.enter A f #[] .normal) z w) (lone j z g)∧j.fn=f∧j.leaving A g (.returned (.bool true))
def zt0(hm:C.follows .mixedOrders=true){m f:Nat}(h:runA C noO m f=true):zaa C f:=by
 intro w g;unfold runA at h;split at h
 ·rename_i H j;obtain⟨I,z,K,A,L,B,D,E,F,G⟩:=zbr hm (zui C) m w _ _ w (.fn f) [] [] _ _ (Rel.start w) .nil j g;cases D;exact⟨z,A,B.low,E,F,G⟩
 ·cases h
def Rel.below{w0:World}{H:Heap}{w w':World}(h:Rel w0 I H w)(hb:Below w.heap.size w w'):Rel w0 I H w':=by
 have gg:w0.heap.size≤w.heap.size:=h.low.size;exact⟨h.nx,h.low.trans (hb.mono gg),h.fresh,λo v L C=>Kr (h.lt o v L C) hb.size,h.excl,
  λo ob ho hg=>(h.obj o ob ho hg).frame (CM.le_refl I) (λ_ _ C=>C) (λv L C=>hb.block _ (h.lt o v L C)),h.top⟩
open Classical in
noncomputable def OL(P:Program):R9:=λt args H=>match t,args with
 |.fn f,[]=>if zmh P f=true∧zaa P f then .ok (.bool true) H else .no
 |_,_=>.no
def OL_no{f:Nat}(h:zmh C f=false)(g:List AV)(j:Heap):OL C (.fn f) g j=.no:=by
 unfold OL;split
 ·rename_i z e;cases e;rw[J2 (by rw[h];simp)]
 ·rfl
def OL_yes{f:Nat}(h:zmh C f=true)(g:zaa C f)(j:Heap):OL C (.fn f) [] j=.ok (.bool true) j:=by
 unfold OL;exact J8 ⟨h,g⟩
def i3(K:Program):ct K (OL K):=by
 intro M L Q w t j O v P z A g;unfold OL at g;split at g
 ·rename_i f;split at g
  ·rename_i B;cases g;cases A;intro C;obtain⟨D,E,F,G,H,I⟩:=B.2 w C;exact⟨L,D,.bool true,E,CM.le_refl L,z.below F,.bool true,G,H,I⟩
  ·cases g
 ·cases g
end
noncomputable section
inductive LV where
 |any
 |bool (b:Bool)
 |u (x:UInt64)
 |b (x:UInt8)
 |i (n:Int)
 |int (k:IntKind) (n:Int)
 |str (l:List UInt8)
 |nilPtr
 |ptr (p i:Nat)
 |dptr (p k i:Nat)
 |cptr (l:List LV) (i:Nat)
 |nilSl
 |dy (p k:Nat)
 |vw (p k lo len:Nat)
 |vf (p k len:Nat)
 |lst (l:List LV) (len esz:Nat)
 |nilMap
 |map (p:Nat)
 |nilFn
 |fn (f:Fn) (first cap:List LV)
 |nilIf
 |iface (t:TypeId) (v:LV)
 |agg (l:List LV)
 |tup (l:List LV)
 deriving Inhabited
abbrev Om:=List (Nat×LV)
def lk0:Om→Nat→LV
 |[],_=>.any
 |(d,v)::l,t=>if t=d then v else lk0 l t
def zw0(f:vT):∃g:vT,g=f:=⟨f,rfl⟩
def Ru(f:vT):vT:=Classical.choose (zw0 f)
def U6(f:vT):Ru f=f:=Classical.choose_spec (zw0 f)
def lk:Om→Nat→LV:=Ru lk0
def gy(t:Nat):lk [] t=.any:=by unfold lk;rw[U6];rfl
def zf0(d:Nat)(v:LV)(l:Om)(t:Nat):lk ((d,v)::l) t=if t=d then v else lk l t:=by unfold lk;rw[U6];rfl
inductive LObj where
 |dead (st:Nat)
 |cells (l:List LV) (st:Nat)
 |dyn (l:List LV) (len esz ver st:Nat)
 |map (es:List (LV×LV×Nat)) (clock st:Nat)
 |iter (l:List UInt8) (pos:Nat)
 |loop (s:LoopState) (pend:Option Code) (f n:Nat) (ρ:Om) (ps:Array Tmp) (a b:Code) (d:Nat)
 |defd (op:Bool)
abbrev Ok:=List LObj
def LObj.live:LObj→Bool
 |.dead _=>false
 |_=>true
def LObj.stp:LObj→Bool
 |.cells _ _=>true
 |.dyn _ _ _ _ _=>true
 |.map _ _ _=>true
 |_=>false
def LObj.st:LObj→Nat
 |.cells _ st=>st
 |.dyn _ _ _ _ st=>st
 |.map _ _ st=>st
 |.dead st=>st
 |_=>0
def LV.cells:LV→Option (List LV)
 |.any=>none
 |.agg cs=>some cs
 |.tup _=>none
 |v=>some [v]
mutual
def toA:LV→AV
 |.bool b=>.bool b
 |.u x=>.int .u64 (Int.ofNat x.toNat)
 |.b x=>.int .u8 (Int.ofNat x.toNat)
 |.i n=>.int .i64 n
 |.int k n=>.int k n
 |.str l=>.str l.length (Qe l)
 |.nilPtr=>.nilPtr
 |.nilSl=>.nilSl
 |.nilMap=>.nilMap
 |.nilFn=>.nilFn
 |.fn f _ _=>.fn f [] []
 |.nilIf=>.nilIf
 |.agg l=>.agg (toAs l)
 |.tup l=>.tup (toAs l)
 |_=>.tup []
def toAs:List LV→List AV
 |[]=>[]
 |v::l=>toA v::toAs l
end
def LV.scal:LV→Bool
 |.bool _ |.u _ |.b _ |.i _ |.int _ _ |.str _ |.nilPtr |.nilSl |.nilMap |.nilFn |.nilIf=>true
 |_=>false
def LV.cst:LV→Bool
 |.fn (.func _) [] []=>true
 |.agg l=>l.all LV.scal
 |.tup []=>true
 |v=>v.scal
structure Cx where
 hd:List (Nat×AV)
 Fz:Nat→Prop
 H:Heap
def ql:AV→Bool
 |.nilSl=>true
 |.emp=>true
 |.sl _ _ _ _ _ _=>true
 |_=>false
def Zn(z:Nat)(h a:AV):Prop:=z=0→match a with
 |.sl _ _ _ _ _ g=>match h with
  |.sl _ _ _ len _ j=>g=j∨∃r,g=some r∧r≤len
  |_=>True
 |_=>True
mutual
inductive AR (c:Cx):LV→AV→Prop where
 |any (a:AV):AR c .any a
 |bool (b:Bool):AR c (.bool b) (.bool b)
 |u (x:UInt64):AR c (.u x) (.int .u64 (Int.ofNat x.toNat))
 |b (x:UInt8):AR c (.b x) (.int .u8 (Int.ofNat x.toNat))
 |i (n:Int):AR c (.i n) (.int .i64 n)
 |int (k:IntKind) (n:Int):AR c (.int k n) (.int k n)
 |str (l:List UInt8):AR c (.str l) (.str l.length (Qe l))
 |nilPtr:AR c .nilPtr .nilPtr
 |ptr {p i o:Nat} (h:c.hd[p]?=some (0,.ptr o 0 0)):AR c (.ptr p i) (.ptr o 0 i)
 |dptr {p k i k' o v j:Nat} {h:AV} (hp:c.hd[p]?=some (k',h)) (hk:k≤k') (ha:k=k'→j=i∧∃len esz room,h=.sl o v 0 len esz room):AR c (.dptr p k i) (.ptr o v j)
 |cptr {l:List LV} {i o v j:Nat} {l':List AV} (hf:c.Fz o) (hr:Sd c.H o v j l.length=some l') (hl:ARs c l l'):AR c (.cptr l i) (.ptr o v (j+i))
 |nilSl:AR c .nilSl .nilSl
 |dy {p k k':Nat} {h a:AV} (hp:c.hd[p]?=some (k',h)) (hk:k≤k') (ha:k=k'→a=h) (hs:ql a=true):AR c (.dy p k) a
 |vw {p k lo len k':Nat} {h a:AV} (hp:c.hd[p]?=some (k',h)) (hk:k≤k') (ha:k=k'→(len=0∧(a=.nilSl∨(a=.emp∧lo≠0)))∨∃o v len' esz room room',h=.sl o v 0 len' esz room∧a=.sl o v (lo*esz) len esz room'∧∀r,room'=some r→len≤r) (hs:ql a=true) (hz:k=k'→Zn lo h a):AR c (.vw p k lo len) a
 |vf {p k len k':Nat} {h a:AV} (hp:c.hd[p]?=some (k',h)) (hk:k≤k') (ha:k=k'→∃o v len' esz room,h=.sl o v 0 len' esz room∧a=.sl o v 0 len esz (some len)) (hs:ql a=true):AR c (.vf p k len) a
 |lst {l:List LV} {len esz o v i:Nat} {room:Option Nat} {l':List AV} (hf:c.Fz o) (hrm:∀r,room=some r→len≤r) (hlen:l.length=len*esz) (hr:Sd c.H o v i (len*esz)=some l') (hl:ARs c l l'):AR c (.lst l len esz) (.sl o v i len esz room)
 |lstNil {esz:Nat}:AR c (.lst [] 0 esz) .nilSl
 |lstEmp {esz:Nat}:AR c (.lst [] 0 esz) .emp
 |nilMap:AR c .nilMap .nilMap
 |map {p o:Nat} (h:c.hd[p]?=some (0,.map o)):AR c (.map p) (.map o)
 |nilFn:AR c .nilFn .nilFn
 |fn {f:Nat} {l r:List LV} {l' r':List AV} (hl:ARs c l l') (hr:ARs c r r'):AR c (.fn (.func f) l r) (.fn (.func f) l' r')
 |yield {p o:Nat} (h:c.hd[p]?=some (0,.ptr o 0 0)):AR c (.fn (.yield p) [] []) (.fn (.yield o) [] [])
 |nilIf:AR c .nilIf .nilIf
 |iface {t:TypeId} {v:LV} {a:AV} (h:AR c v a):AR c (.iface t v) (.iface t a)
 |agg {l:List LV} {l':List AV} (h:ARs c l l'):AR c (.agg l) (.agg l')
 |tup {l:List LV} {l':List AV} (h:ARs c l l'):AR c (.tup l) (.tup l')
inductive ARs (c:Cx):List LV→List AV→Prop where
 |nil:ARs c [] []
 |cons {v:LV} {a:AV} {l:List LV} {r:List AV} (h:AR c v a) (hs:ARs c l r):ARs c (v::l) (a::r)
end
inductive MRs (c:Cx):List (LV×LV×Nat)→List (AV×AV×Nat)→Prop where
 |nil:MRs c [] []
 |cons {k v:LV} {a b:AV} {n:Nat} {l:List (LV×LV×Nat)} {r:List (AV×AV×Nat)} (hk:AR c k a) (hv:AR c v b) (h:MRs c l r):MRs c ((k,v,n)::l) ((a,b,n)::r)
def Pt(c:Cx)(g:Om)(j:Tr AV):Prop:=∀t,AR c (lk g t) ((On (O1 t) j).getD Tc)
def tr(c:Cx)(k:Nat)(h:AV):LObj→Prop
 |.dead _=>True
 |.cells l _=>k=0∧∃o t A,h=.ptr o 0 0∧c.H.get o=some (.cells t l.length 0 false)∧Tv t 0 l.length=some A∧ARs c l A
 |.dyn l len j D _=>k=D∧l.length=len*j∧((h=.nilSl∧len=0)∨∃o v z t g A,h=.sl o v 0 len j z∧c.H.get o=some (.cells t g v false)∧len*j≤g ∧
   Tv t 0 (len*j)=some A∧ARs c l A∧(∀r,z=some r→g=r*j∧len≤r)∧(z=none→g=len*j))
 |.map G H _=>k=0∧∃o B,h=.map o∧c.H.get o=some (.map B H)∧MRs c G B
 |.iter l E=>k=0∧∃o,h=.ptr o 0 0∧c.H.get o=some (.iter l.length (Qe l) E)
 |.loop s C f n L I a b d=>k=0∧∃o F K,h=.ptr o 0 0∧c.hd[d]?=some (0,.ptr F 0 0)∧c.H.get o=some (.loop s C f n K I a b F)∧Pt c L K
 |.defd op=>k=0∧∃o,h=.ptr o 0 0∧c.H.get o=some (.defd op)
def Qq(c:Cx)(j:Ok)(o:Nat):Prop:=∃(p:Nat) (g:LObj) (k:Nat) (h:AV),j[p]?=some g∧g.live=true∧c.hd[p]?=some (k,h)∧Pg h=some o
structure HSim (c:Cx) (G:Ok):Prop where
 len:c.hd.length=G.length
 fz:∀o,c.Fz o→o<c.H.next
 lt:∀o,Qq c G o→o<c.H.next
 sep:∀o,Qq c G o→¬c.Fz o
 obj:∀(p:Nat) (ob:LObj) (k:Nat) (h:AV),G[p]?=some ob→c.hd[p]?=some (k,h)→tr c k h ob
 excl:∀(p q:Nat) (ob ob':LObj) (k:Nat) (h:AV) (k':Nat) (h':AV) (o:Nat),G[p]?=some ob→G[q]?=some ob'→ob.live=true→ob'.live=true→c.hd[p]?=some (k,h)→c.hd[q]?=some (k',h')→Pg h=some o→Pg h'=some o→p=q
def Y3:AV→Bool
 |.ptr _ _ _=>true
 |.map _=>true
 |_=>false
structure CxLe (c c':Cx):Prop where
 hd:∀(p k:Nat) (h:AV),c.hd[p]?=some (k,h)→∃(k':Nat) (h':AV),c'.hd[p]?=some (k',h')∧k≤k'∧(k=k'→h=h')∧(Y3 h=true→k=k')
 fz:∀o,c.Fz o→c'.Fz o∧c'.H.get o=c.H.get o
structure Step (c:Cx) (G:Ok) (c':Cx) (G':Ok):Prop where
 le:CxLe c c'
 nx:c.H.next≤c'.H.next
 frame:∀o,o<c.H.next→¬Qq c G o→c'.H.get o=c.H.get o
 new:∀o,Qq c' G' o→Qq c G o∨c.H.next≤o
 fznew:∀o,c'.Fz o→c.Fz o∨Qq c G o∨c.H.next≤o
 mono:∀(p:Nat) (ob ob':LObj),G[p]?=some ob→G'[p]?=some ob'→ob.st≤ob'.st
 st:∀(p:Nat) (ob ob':LObj) (k:Nat) (h:AV) (o:Nat),G[p]?=some ob→G'[p]?=some ob'→c.hd[p]?=some (k,h)→Pg h=some o→ob.stp=true→ob.st=ob'.st→ob'=ob∧c'.H.get o=c.H.get o∧c'.hd[p]?=c.hd[p]?
inductive Lx where
 |t (i:Nat)
 |c (v:LV)
def Lx.ev(ρ:Om):Lx→LV
 |.t i=>lk ρ i
 |.c v=>v
def Lx.r:Lx→Ox
 |.t i=>.t i
 |.c v=>.c (toA v)
def Lx.ok:Lx→Bool
 |.t _=>true
 |.c v=>v.cst
inductive LOp where
 |move (x:Lx)
 |pick (c a b:Lx)
 |alloc (l:List LV)
 |box (x:Lx)
 |build (cs:List LV) (ps:List (Nat×Nat×Lx))
 |buildSl (size len:Nat) (cs:List LV) (ps:List (Nat×Nat×Lx))
 |load1 (x:Lx)
 |loadN (n:Nat) (x:Lx)
 |store (n:Nat) (x y:Lx)
 |nilChk (x:Lx)
 |bin (op:BinOp) (g:Bool) (t:TypeId) (x y:Lx)
 |un (op:UnOp) (x:Lx)
 |cvInt (k:IntKind) (x:Lx)
 |cvStr (x:Lx)
 |cvSame (x:Lx)
 |cvBytes (x:Lx)
 |mkFunc (f:Nat) (first cap:List Lx)
 |mkSl (size:Nat) (z:List LV) (l c:Lx)
 |slStr (x:Lx) (lo hi:Option Lx)
 |slSl (size:Nat) (x:Lx) (lo hi:Option Lx)
 |slSl3 (size:Nat) (x:Lx) (lo hi:Option Lx) (mx:Lx)
 |fieldAddr (off:Nat) (x:Lx)
 |field (g:Bool) (n off:Nat) (x:Lx)
 |ixAddr (size:Nat) (x i:Lx)
 |ixStr (x i:Lx)
 |extract (i:Nat) (x:Lx)
 |lenStr (x:Lx)
 |lenSl (x:Lx)
 |maxi (mx:Bool) (x y:Lx)
 |max3 (mx:Bool) (x y z:Lx)
 |ixAddrArr (len size:Nat) (x i:Lx)
 |ixArr (g:Bool) (len size:Nat) (x i:Lx)
 |lenArr (n:Nat) (x:Lx)
 |appZ (size:Nat) (z:List LV) (s x:Lx)
 |appG (size:Nat) (s x:Lx)
 |copy (size:Nat) (d x:Lx)
 |clear (size:Nat) (z:List LV) (x:Lx)
 |mkMap0
 |mkMap1 (x:Lx)
 |lookup (d:TypeDesc) (z:LV) (ok:Bool) (x i:Lx)
 |mapUpd (d:TypeDesc) (m k v:Lx)
 |lenMap (x:Lx)
 |slArr (n size:Nat) (x:Lx) (lo hi:Option Lx)
 |callV (f:Lx) (args:List Lx)
def rps:List (Nat×Nat×Lx)→List (Nat×Nat×Ox)
 |[]=>[]
 |(a,b,x)::l=>(a,b,x.r)::rps l
def mf:List Lx→List Ox
 |[]=>[]
 |x::l=>x.r::mf l
def LOp.r:LOp→ROp
 |.move x=>.move x.r
 |.pick c a b=>.pick c.r a.r b.r
 |.alloc l=>.alloc (toAs l)
 |.box x=>.box x.r
 |.build cs ps=>.build (toAs cs) (rps ps)
 |.buildSl s n cs ps=>.buildSl s n (toAs cs) (rps ps)
 |.load1 x=>.load1 x.r
 |.loadN n x=>.loadN n x.r
 |.store n x y=>.store n x.r y.r
 |.nilChk x=>.nilChk x.r
 |.bin op g t x y=>.bin op g t x.r y.r
 |.un op x=>.un op x.r
 |.cvInt k x=>.cvInt k x.r
 |.cvStr x=>.cvStr x.r
 |.cvSame x=>.cvSame x.r
 |.cvBytes x=>.cvBytes x.r
 |.mkFunc f a b=>.mkFunc (.func f) (mf a) (mf b)
 |.mkSl s z l c=>.mkSl s (toAs z) l.r c.r
 |.slStr x lo hi=>.slStr x.r (lo.map Lx.r) (hi.map Lx.r)
 |.slSl s x lo hi=>.slSl s x.r (lo.map Lx.r) (hi.map Lx.r) none
 |.slSl3 s x lo hi mx=>.slSl s x.r (lo.map Lx.r) (hi.map Lx.r) (some mx.r)
 |.fieldAddr o x=>.fieldAddr o x.r
 |.field g n o x=>.field g n o x.r
 |.ixAddr s x i=>.ixAddr s x.r i.r
 |.ixStr x i=>.ixStr x.r i.r
 |.extract i x=>.extract i x.r
 |.lenStr x=>.lenStr x.r
 |.lenSl x=>.lenSl x.r
 |.maxi m x y=>.maxi m [x.r,y.r]
 |.max3 m x y z=>.maxi m [x.r,y.r,z.r]
 |.ixAddrArr l s x i=>.ixAddrArr l s x.r i.r
 |.ixArr g l s x i=>.ixArr g l s x.r i.r
 |.lenArr n x=>.lenArr n x.r
 |.appZ s z a x=>.appZ s (toAs z) a.r x.r
 |.appG s a x=>.appG s a.r x.r
 |.copy s d x=>.copy s d.r x.r
 |.clear s z x=>.clear s (toAs z) x.r
 |.mkMap0=>.mkMap0
 |.mkMap1 x=>.mkMap1 x.r
 |.lookup d z ok x i=>.lookup d (toA z) ok x.r i.r
 |.mapUpd d m k v=>.mapUpd d m.r k.r v.r
 |.lenMap x=>.lenMap x.r
 |.slArr n s x lo hi=>.slArr n s x.r (lo.map Lx.r) (hi.map Lx.r) none
 |.callV f l=>.callV f.r (mf l)
def V1(n:Int):Prop:=-9223372036854775808≤n∧n<9223372036854775808
def Vh:UInt64→UInt64→UInt64:=Ru λa b=>a+b
def Zg:UInt64→UInt64→UInt64:=Ru λa b=>a-b
def T8:UInt64→UInt64→UInt64:=Ru λa b=>a*b
def divU:UInt64→UInt64→UInt64:=Ru λa b=>a/b
def sf:UInt64→UInt64→UInt64:=Ru λa b=>a%b
def Tt:UInt64→UInt64→UInt64:=Ru λa b=>a &&& b
def orU:UInt64→UInt64→UInt64:=Ru λa b=>a ||| b
def ow:UInt64→UInt64→UInt64:=Ru λa b=>a ^^^ b
def pq:UInt64→UInt64:=Ru λa => ~~~a
def Ze:UInt64→Nat→UInt64:=Ru λa s=>UInt64.ofNat (a.toNat*2^s)
def Sy:UInt64→Nat→UInt64:=Ru λa s=>UInt64.ofNat (a.toNat/2^s)
def yq:UInt8→UInt8→UInt8:=Ru λa b=>a+b
def subB:UInt8→UInt8→UInt8:=Ru λa b=>a-b
def xq:UInt8→UInt8→UInt8:=Ru λa b=>a &&& b
def orB:UInt8→UInt8→UInt8:=Ru λa b=>a ||| b
def iU:Int→UInt64:=Ru λa=>UInt64.ofInt a
def bU:UInt8→UInt64:=Ru λa=>UInt64.ofNat a.toNat
def uB:UInt64→UInt8:=Ru λa=>UInt8.ofNat a.toNat
def iB:Int→UInt8:=Ru λa=>UInt8.ofInt a
def U2(a b:UInt64):Vh a b=a+b:=by unfold Vh;rw[U6]
def Yo(a b:UInt64):Zg a b=a-b:=by unfold Zg;rw[U6]
def zgb(a b:UInt64):T8 a b=a*b:=by unfold T8;rw[U6]
def mi(a b:UInt64):divU a b=a/b:=by unfold divU;rw[U6]
def zfa(a b:UInt64):sf a b=a%b:=by unfold sf;rw[U6]
def bc(a b:UInt64):Tt a b=a &&& b:=by unfold Tt;rw[U6]
def jp(a b:UInt64):orU a b=a ||| b:=by unfold orU;rw[U6]
def jn(a b:UInt64):ow a b=a ^^^ b:=by unfold ow;rw[U6]
def zur(a:UInt64):pq a = ~~~a:=by unfold pq;rw[U6]
def jw(a:UInt64)(s:Nat):Ze a s=UInt64.ofNat (a.toNat*2^s):=by unfold Ze;rw[U6]
def bv(a:UInt64)(s:Nat):Sy a s=UInt64.ofNat (a.toNat/2^s):=by unfold Sy;rw[U6]
def qi(a b:UInt8):yq a b=a+b:=by unfold yq;rw[U6]
def mv(a b:UInt8):subB a b=a-b:=by unfold subB;rw[U6]
def sk(a b:UInt8):xq a b=a &&& b:=by unfold xq;rw[U6]
def orB_eq(a b:UInt8):orB a b=a ||| b:=by unfold orB;rw[U6]
def vk(a:Int):iU a=UInt64.ofInt a:=by unfold iU;rw[U6]
def bU_eq(a:UInt8):bU a=UInt64.ofNat a.toNat:=by unfold bU;rw[U6]
def zs2(a:UInt64):uB a=UInt8.ofNat a.toNat:=by unfold uB;rw[U6]
def iB_eq(a:Int):iB a=UInt8.ofInt a:=by unfold iB;rw[U6]
def V9(op:BinOp)(a b:UInt64)(g:LV→Prop):Prop:=match op with
 |.add=>g (.u (Vh a b))
 |.sub=>g (.u (Zg a b))
 |.mul=>g (.u (T8 a b))
 |.quo=>b≠0∧g (.u (divU a b))
 |.rem=>b≠0∧g (.u (sf a b))
 |.and=>g (.u (Tt a b))
 |.or=>g (.u (orU a b))
 |.xor=>g (.u (ow a b))
 |.andNot=>g (.u (Tt a (pq b)))
 |.shl=>g (.u (Ze a b.toNat))
 |.shr=>g (.u (Sy a b.toNat))
 |.eql=>g (.bool (decide (a=b)))
 |.neq=>g (.bool (decide (a≠b)))
 |.lss=>g (.bool (decide (a<b)))
 |.leq=>g (.bool (decide (a≤b)))
 |.gtr=>g (.bool (decide (b<a)))
 |.geq=>g (.bool (decide (b≤a)))
def bbL(op:BinOp)(a b:UInt8)(g:LV→Prop):Prop:=match op with
 |.add=>g (.b (yq a b))
 |.sub=>g (.b (subB a b))
 |.and=>g (.b (xq a b))
 |.or=>g (.b (orB a b))
 |.eql=>g (.bool (decide (a=b)))
 |.neq=>g (.bool (decide (a≠b)))
 |.lss=>g (.bool (decide (a<b)))
 |.leq=>g (.bool (decide (a≤b)))
 |.gtr=>g (.bool (decide (b<a)))
 |.geq=>g (.bool (decide (b≤a)))
 |_=>False
def Wv(op:BinOp)(a b:Int)(g:LV→Prop):Prop:=match op with
 |.add=>V1 (a+b)∧g (.i (a+b))
 |.sub=>V1 (a-b)∧g (.i (a-b))
 |.mul=>V1 (a*b)∧g (.i (a*b))
 |.quo=>b≠0∧V1 (a.tdiv b)∧g (.i (a.tdiv b))
 |.rem=>b≠0∧g (.i (a.tmod b))
 |.shl=>0≤a∧0≤b∧b≤64∧V1 (a*2^b.toNat)∧g (.i (a*2^b.toNat))
 |.shr=>0≤a∧0≤b∧b≤64∧g (.i (a/2^b.toNat))
 |.and=>0≤a∧a<9223372036854775808∧0≤b∧b<9223372036854775808∧g (.i (a.toNat &&& b.toNat:Nat))
 |.or=>0≤a∧a<9223372036854775808∧0≤b∧b<9223372036854775808∧g (.i (a.toNat ||| b.toNat:Nat))
 |.eql=>g (.bool (decide (a=b)))
 |.neq=>g (.bool (decide (a≠b)))
 |.lss=>g (.bool (decide (a<b)))
 |.leq=>g (.bool (decide (a≤b)))
 |.gtr=>g (.bool (decide (b<a)))
 |.geq=>g (.bool (decide (b≤a)))
 |_=>False
def kkL(op:BinOp)(a b:Int)(g:LV→Prop):Prop:=match op with
 |.eql=>g (.bool (decide (a=b)))
 |.neq=>g (.bool (decide (a≠b)))
 |.lss=>g (.bool (decide (a<b)))
 |.leq=>g (.bool (decide (a≤b)))
 |.gtr=>g (.bool (decide (b<a)))
 |.geq=>g (.bool (decide (b≤a)))
 |_=>False
def ssL(op:BinOp)(a b:List UInt8)(g:LV→Prop):Prop:=match op with
 |.add=>a.length+b.length≤1000000000∧g (.str (a++b))
 |.eql=>g (.bool (decide (a=b)))
 |.neq=>g (.bool (decide (a≠b)))
 |_=>False
def Za(g:Program)(op:BinOp)(j:Bool)(t:TypeId)(a b:AV)(r:Bool)(z:LV→Prop):Prop:=match op with
 |.eql=>Tg g j t a b=some r∧z (.bool r)
 |.neq=>Tg g j t a b=some r∧z (.bool (!r))
 |_=>False
def aggL(g:Program)(op:BinOp)(j:Bool)(t:TypeId)(l r:List LV)(z:LV→Prop):Prop:=match op with
 |.eql=>∃b,l.all LV.scal=true∧r.all LV.scal=true∧Tg g j t (.agg (toAs l)) (.agg (toAs r))=some b∧z (.bool b)
 |.neq=>∃b,l.all LV.scal=true∧r.all LV.scal=true∧Tg g j t (.agg (toAs l)) (.agg (toAs r))=some b∧z (.bool (!b))
 |_=>False
def lstN(op:BinOp)(len:Nat)(g:LV→Prop):Prop:=match op with
 |.eql=>g (.bool false)∧(len=0→g (.bool true))
 |.neq=>g (.bool true)∧(len=0→g (.bool false))
 |_=>False
def U9(j:Program)(op:BinOp)(z:Bool)(t:TypeId)(x y:LV)(g:LV→Prop):Prop:=match x,y with
 |.u a,.u b=>V9 op a b g
 |.i a,.i b=>Wv op a b g
 |.b a,.b b=>bbL op a b g
 |.bool a,.bool b=>match op with
  |.eql=>Tg j z t (.bool a) (.bool b)=some (a==b)∧g (.bool (a==b))
  |.neq=>Tg j z t (.bool a) (.bool b)=some (a==b)∧g (.bool (!(a==b)))
  |_=>False
 |.u a,.i s=>match op with
  |.shl=>0≤s∧g (.u (Ze a s.toNat))
  |.shr=>0≤s∧g (.u (Sy a s.toNat))
  |_=>False
 |.i a,.u s=>match op with
  |.shl=>0≤a∧s.toNat≤64∧V1 (a*2^s.toNat)∧g (.i (a*2^s.toNat))
  |.shr=>0≤a∧s.toNat≤64∧g (.i (a/2^s.toNat))
  |_=>False
 |.int k a,.int A b=>k=A∧kkL op a b g
 |.str a,.str b=>ssL op a b g
 |.nilPtr,.nilPtr=>Za j op z t .nilPtr .nilPtr true g
 |.ptr _ _,.nilPtr=>Za j op z t (.ptr 0 0 0) .nilPtr false g
 |.nilSl,.nilSl=>Za j op z t .nilSl .nilSl true g
 |.lst _ len _,.nilSl=>Tg j z t .nilSl .nilSl=some true∧lstN op len g
 |.agg l,.agg r=>aggL j op z t l r g
 |_,_=>False
def unL(op:UnOp)(x:LV)(g:LV→Prop):Prop:=match op,x with
 |.not,.bool b=>g (.bool (!b))
 |.neg,.u a=>g (.u (Zg 0 a))
 |.neg,.i a=>V1 (-a)∧g (.i (-a))
 |.xor,.u a=>g (.u (pq a))
 |_,_=>False
def w32(n:Int):Int:=(n+2147483648)%4294967296-2147483648
def en(k:IntKind)(x:LV)(g:LV→Prop):Prop:=match k,x with
 |.u64,.u a=>g (.u a)
 |.u64,.i a=>g (.u (iU a))
 |.u64,.b a=>g (.u (bU a))
 |.i64,.u a=>a.toNat<9223372036854775808∧g (.i a.toNat)
 |.i64,.i a=>V1 a∧g (.i a)
 |.i64,.b a=>g (.i a.toNat)
 |.u8,.u a=>g (.b (uB a))
 |.u8,.i a=>g (.b (iB a))
 |.u8,.b a=>g (.b a)
 |.u8,.int _ a=>g (.b (iB a))
 |.i32,.i a=>g (.int .i32 (w32 a))
 |.i64,.int _ a=>V1 a∧g (.i a)
 |_,_=>False
def Ut(t:Bool)(g j:Prop):Prop:=(t=true→g)∧(t=false→j)
def brV(v:LV)(g j:Prop):Prop:=match v with
 |.bool t=>Ut t g j
 |_=>False
def Xl(z:Ok)(x:LV)(n:Nat)(j:List LV→Prop):Prop:=match x with
 |.ptr p i=>match z[p]? with
  |some (.cells l _)=>i+n≤l.length∧j ((l.drop i).take n)
  |_=>False
 |.dptr p k i=>match z[p]? with
  |some (.dyn l _ _ g _)=>k=g∧i+n≤l.length∧j ((l.drop i).take n)
  |_=>False
 |.cptr l i=>i+n≤l.length∧j ((l.drop i).take n)
 |_=>False
def Qj(l:List LV)(i:Nat)(g:LV→Prop):Prop:=∃v,l[i]?=some v∧g v
def Yv(z:Ok)(x:LV)(j:LV→Prop):Prop:=match x with
 |.ptr p i=>match z[p]? with
  |some (.cells l _)=>Qj l i j
  |_=>False
 |.dptr p k i=>match z[p]? with
  |some (.dyn l _ _ g _)=>k=g∧Qj l i j
  |_=>False
 |.cptr l i=>Qj l i j
 |_=>False
def Po(l:List LV)(i:Nat)(r:List LV):List LV:=l.take i++r++l.drop (i+r.length)
def Wn(z:Ok)(x:LV)(r:List LV)(A:Ok→Prop):Prop:=match x with
 |.ptr p i=>match z[p]? with
  |some (.cells l st)=>i+r.length≤l.length∧A (z.set p (.cells (Po l i r) (st+1)))
  |_=>False
 |.dptr p k i=>match z[p]? with
  |some (.dyn l len j g st)=>k=g∧i+r.length≤l.length∧A (z.set p (.dyn (Po l i r) len j g (st+1)))
  |_=>False
 |_=>False
def Qo(g:List LV):Nat→List LV
 |0=>[]
 |n+1=>g++Qo g n
def Ur(C:Ok)(j:Nat)(x:LV)(A:Nat→List LV→Prop):Prop:=match x with
 |.nilSl=>A 0 []
 |.dy p k=>match C[p]? with
  |some (.dyn l len g z _)=>k=z∧g=j∧A len l
  |_=>False
 |.vw p k B len=>match C[p]? with
  |some (.dyn l _ g z _)=>k=z∧g=j∧B*g+len*g≤l.length∧A len ((l.drop (B*g)).take (len*g))
  |_=>False
 |.lst l len g=>g=j∧A len l
 |.str l=>j=1∧A l.length (l.map LV.b)
 |_=>False
def ze(A:Ok)(x:LV)(z:List LV→Prop):Prop:=match x with
 |.nilSl=>z []
 |.dy p k=>match A[p]? with
  |some (.dyn l _ g j _)=>k=j∧g=1∧z l
  |_=>False
 |.lst l len g=>g=1∧len≠0∧z l
 |_=>False
def lenL(z:Ok)(x:LV)(j:Nat→Prop):Prop:=match x with
 |.nilSl=>j 0
 |.dy p k=>match z[p]? with
  |some (.dyn _ len _ g _)=>k=g∧j len
  |_=>False
 |.vw p k _ len=>match z[p]? with
  |some (.dyn _ _ _ g _)=>k=g∧j len
  |_=>False
 |.lst _ len _=>j len
 |_=>False
def Rh(C:Ok)(j:Nat)(s:LV)(n:Nat)(A:List LV)(D:LV→Ok→Prop):Prop:=match s with
 |.nilSl=>D (.dy C.length 0) (C++[.dyn A n j 0 0])
 |.dy p k=>match C[p]? with
  |some (.dyn l len g z st)=>k=z∧(g=j∧0<g)∧len≤1000000000∧D (.dy p (z+1)) (C.set p (.dyn (l++A) (len+n) g (z+1) (st+1)))
  |_=>False
 |.vw p k E len=>match C[p]? with
  |some (.dyn l B g z st)=>k=z∧(g=j∧E=0∧0<n)∧len≤1000000000∧if (len+n)*g≤l.length then D (.vw p k 0 (len+n)) (C.set p (.dyn (Po l (len*g) A) B g z (st+1)))∧D (.dy C.length 0) (C++[.dyn (l.take (len*g)++A) (len+n) j 0 0]) else len=B∧0<g∧D (.dy p (z+1)) (C.set p (.dyn (l++A) (len+n) g (z+1) (st+1)))∧D (.dy C.length 0) (C++[.dyn (l++A) (len+n) j 0 0])
  |_=>False
 |.vf p k len=>match C[p]? with
  |some (.dyn l _ g z _)=>k=z∧(g=j∧0<n)∧len≤1000000000∧len*g≤l.length∧D (.dy C.length 0) (C++[.dyn (l.take (len*g)++A) (len+n) j 0 0])
  |_=>False
 |_=>False
def rq(B:Om)(z:List LV):List (Nat×Nat×Lx)→Option (List LV)
 |[]=>some z
 |(j,g,x)::A=>match (x.ev B).cells with
  |none=>none
  |some l=>if l.length=g∧j+g≤z.length then rq B (Po z j l) A else none
def Xn(d:TypeDesc)(a b:LV):Option Bool:=match d,a,b with
 |.int _,.i a,.i b=>some (decide (a=b))
 |.int _,.u a,.u b=>some (decide (a=b))
 |.string,.str a,.str b=>some (decide (a=b))
 |_,_,_=>none
def oy(d:TypeDesc)(k:LV)(g:Option LV→Prop):List (LV×LV×Nat)→Prop
 |[]=>g none
 |(j,v,_)::l=>match Xn d k j with
  |some b=>Ut b (g (some v)) (oy d k g l)
  |none=>False
def Wo(d:TypeDesc)(k v:LV)(g:Nat)(K:List (LV×LV×Nat)→Bool→Prop):List (LV×LV×Nat)→Prop
 |[]=>K [(k,v,g)] true
 |(z,A,n)::l=>match Xn d k z with
  |some b=>Ut b (K ((k,v,n)::l) false) (Wo d k v g (λr j=>K ((z,A,n)::r) j) l)
  |none=>False
def Xz(z:Ok)(x:LV)(j:List (LV×LV×Nat)→Prop):Prop:=match x with
 |.nilMap=>j []
 |.map p=>match z[p]? with
  |some (.map g _ _)=>j g
  |_=>False
 |_=>False
def zwu(g:LV)(ok:Bool)(j:LV→Prop):Option LV→Prop
 |some v=>j (match ok with|true=>.tup [v,.bool true]|false=>v)
 |none=>j (match ok with|true=>.tup [g,.bool false]|false=>g)
def zx(A:Ok)(p j st:Nat)(B:Ok→Prop):List (LV×LV×Nat)→Bool→Prop:=λz g=>B (A.set p (.map z (match g with|true=>j+1|false=>j) (st+1)))
def wj(z:Ok)(d:TypeDesc)(m k v:LV)(A:Ok→Prop):Prop:=match m with
 |.map p=>match z[p]? with
  |some (.map j g st)=>Wo d k v g (zx z p g st A) j
  |_=>False
 |_=>False
def Qp(j:Om)(d:Nat)(x:Option Lx)(g:Nat→Prop):Prop:=match x with
 |none=>g d
 |some x=>match x.ev j with
  |.i n=>0≤n∧g n.toNat
  |.u n=>g n.toNat
  |_=>False
def ul(p k a b m:Nat):LV:=match decide (a=0∧b=m∧0<b) with
 |true=>.vf p k b
 |false=>.vw p k a (b-a)
def ixO(C:Ok)(g:Nat)(x:LV)(n:Int)(A:LV→Prop):Prop:=match x with
 |.dy p k=>match C[p]? with
  |some (.dyn _ len j z _)=>k=z∧j=g∧0≤n∧n<len∧A (.dptr p k (n.toNat*g))
  |_=>False
 |.vw p k B len=>match C[p]? with
  |some (.dyn _ _ j z _)=>k=z∧j=g∧0≤n∧n<len∧A (.dptr p k ((B+n.toNat)*g))
  |_=>False
 |.lst l len j=>j=g∧0≤n∧n<len∧A (.cptr l (n.toNat*g))
 |_=>False
inductive LTgt where
 |fn (f:Nat)
 |yield (p:Nat)
def TgtR(c:Cx):LTgt→Tgt→Prop
 |.fn f,.fn g=>f=g
 |.yield p,.yield o=>c.hd[p]?=some (0,.ptr o 0 0)
 |_,_=>False
def gf(g:Program):LTgt→Prop
 |.fn f=>pg g f=true∧zd9 g f=false
 |.yield _=>True
def Sw(E:Program)(t:LTgt)(j:List LV)(F:Ok)(G:LV→Ok→Prop):Prop :=
 gf E t∧∀c B g,HSim c F→TgtR c t B→ARs c j g→∃m C D,Tp E (OL E) m B g c.H=.ok C D∧∃z v A,z.H=D∧HSim z A∧Step c F z A∧AR z v C∧G v A
def Pb(T:Program)(A:Om)(z:Ok)(o:LOp)(B:LV→Ok→Prop):Prop:=match o with
 |.move x=>B (x.ev A) z
 |.pick c a b=>match c.ev A with
  |.bool t=>match a.ev A,b.ev A with
   |.bool x,.bool y=>B (.bool (match t with|true=>x|false=>y)) z
   |x,y=>Ut t (B x z) (B y z)
  |_=>False
 |.alloc l=>B (.ptr z.length 0) (z++[.cells l 0])
 |.box x=>match (x.ev A).cells with
  |some l=>B (.ptr z.length 0) (z++[.cells l 0])
  |none=>False
 |.build K L=>match rq A K L with
  |some l=>B (.agg l) z
  |none=>False
 |.buildSl g len K L=>match rq A K L with
  |some l=>l.length=len*g∧B (.dy z.length 0) (z++[.dyn l len g 0 0])
  |none=>False
 |.load1 x=>Yv z (x.ev A) λv=>B v z
 |.loadN n x=>Xl z (x.ev A) n λl=>B (.agg l) z
 |.store n x y=>match (y.ev A).cells with
  |some l=>l.length=n∧Wn z (x.ev A) l λM=>B (.tup []) M
  |none=>False
 |.nilChk x=>match x.ev A with
  |.ptr p i=>B (.ptr p i) z
  |.dptr p k i=>B (.dptr p k i) z
  |.cptr l i=>B (.cptr l i) z
  |.fn (.func f) a b=>B (.fn (.func f) a b) z
  |_=>False
 |.bin op O t x y=>U9 T op O t (x.ev A) (y.ev A) λv=>B v z
 |.un op x=>unL op (x.ev A) λv=>B v z
 |.cvInt k x=>en k (x.ev A) λv=>B v z
 |.cvStr x=>ze z (x.ev A) λl=>∃Q:List UInt8,l=Q.map LV.b∧B (.str Q) z
 |.cvSame x=>match x.ev A with
  |.str l=>B (.str l) z
  |_=>False
 |.cvBytes x=>match x.ev A with
  |.str l=>B (.dy z.length 0) (z++[.dyn (l.map LV.b) l.length 1 0 0])
  |_=>False
 |.mkFunc f a b=>B (.fn (.func f) (a.map (·.ev A)) (b.map (·.ev A))) z
 |.mkSl g I l c=>match l.ev A,c.ev A with
  |.i l,.i c=>l=c∧0≤l∧l≤1048576∧I.length=g∧B (.dy z.length 0) (z++[.dyn (Qo I l.toNat) l.toNat g 0 0])
  |_,_=>False
 |.slStr x D hi=>match x.ev A with
  |.str l=>Qp A 0 D λa=>Qp A l.length hi λb=>a≤b∧b≤l.length∧B (.str ((l.drop a).take (b-a))) z
  |_=>False
 |.slSl g x D hi=>match x.ev A with
  |.nilSl=>Qp A 0 D λa=>Qp A 0 hi λb=>a=0∧b=0∧B .nilSl z
  |.dy p k=>match z[p]? with
   |some (.dyn _ len j C _)=>k=C∧j=g∧Qp A 0 D λa=>Qp A len hi λb=>a≤b∧b≤len∧B (.vw p k a (b-a)) z
   |_=>False
  |.vw p k U len=>match z[p]? with
   |some (.dyn _ _ j C _)=>k=C∧j=g∧Qp A 0 D λa=>Qp A len hi λb=>a≤b∧b≤len∧B (.vw p k (U+a) (b-a)) z
   |_=>False
  |.lst l len j=>j=g∧Qp A 0 D λa=>Qp A len hi λb=>a≤b∧b≤len∧B (.lst ((l.drop (a*j)).take ((b-a)*j)) (b-a) j) z
  |_=>False
 |.slSl3 g x D hi H=>match x.ev A with
  |.dy p k=>match z[p]? with
   |some (.dyn _ len j C _)=>k=C∧j=g∧Qp A 0 D λa=>Qp A len hi λb=>Qp A 0 (some H) λm=>0<len∧a≤b∧b≤m∧m≤len∧B (ul p k a b m) z
   |_=>False
  |.lst l len j=>j=g∧Qp A 0 D λa=>Qp A len hi λb=>Qp A 0 (some H) λm=>0<len∧a≤b∧b≤m∧m≤len∧B (.lst ((l.drop (a*j)).take ((b-a)*j)) (b-a) j) z
  |_=>False
 |.fieldAddr E x=>match x.ev A with
  |.ptr p i=>B (.ptr p (i+E)) z
  |.dptr p k i=>B (.dptr p k (i+E)) z
  |.cptr l i=>B (.cptr l (i+E)) z
  |_=>False
 |.field O n E x=>match x.ev A with
  |.agg l=>match O with
   |true=>E+n≤l.length∧B (.agg ((l.drop E).take n)) z
   |false=>Qj l E λv=>B v z
  |_=>False
 |.ixAddr g x i=>match i.ev A with
  |.i n=>ixO z g (x.ev A) n λv=>B v z
  |.u n=>ixO z g (x.ev A) (n.toNat:Int) λv=>B v z
  |_=>False
 |.ixStr x i=>match x.ev A,i.ev A with
  |.str l,.i n=>0≤n∧n<l.length∧B (.b (l.getD n.toNat 0)) z
  |.str l,.u n=>n.toNat<l.length∧B (.b (l.getD n.toNat 0)) z
  |.str l,.b n=>n.toNat<l.length∧B (.b (l.getD n.toNat 0)) z
  |_,_=>False
 |.extract i x=>match x.ev A with
  |.tup l=>Qj l i λv=>B v z
  |_=>False
 |.lenStr x=>match x.ev A with
  |.str l=>B (.i l.length) z
  |_=>False
 |.lenSl x=>lenL z (x.ev A) λn=>B (.i n) z
 |.maxi H x y=>match x.ev A,y.ev A with
  |.i a,.i b=>B (.i (match H with|true=>max a b|false=>min a b)) z
  |.u a,.u b=>B (.u (match H with|true=>if a<b then b else a|false=>if b<a then b else a)) z
  |_,_=>False
 |.max3 H x y I=>match x.ev A with
  |.i a=>match y.ev A with
   |.i b=>match I.ev A with
    |.i d=>B (.i (match H with|true=>max (max a b) d|false=>min (min a b) d)) z
    |_=>False
   |_=>False
  |_=>False
 |.ixAddrArr len g x i=>match i.ev A with
  |.i n=>0≤n∧n<len∧match x.ev A with
   |.ptr p R=>B (.ptr p (R+n.toNat*g)) z
   |.dptr p k R=>B (.dptr p k (R+n.toNat*g)) z
   |.cptr l R=>B (.cptr l (R+n.toNat*g)) z
   |_=>False
  |_=>False
 |.ixArr O len g x i=>match i.ev A with
  |.i n=>0≤n∧n<len∧match x.ev A with
   |.agg l=>match O with
    |true=>n.toNat*g+g≤l.length∧B (.agg ((l.drop (n.toNat*g)).take g)) z
    |false=>Qj l (n.toNat*g) λv=>B v z
   |_=>False
  |_=>False
 |.lenArr n _=>B (.i n) z
 |.appZ g I s x=>match x.ev A with
  |.i n=>0≤n∧n≤1048576∧I.length=g∧Rh z g (s.ev A) n.toNat (Qo I n.toNat) B
  |_=>False
 |.appG g s x=>Ur z g (x.ev A) λn l=>n≤1048576∧Rh z g (s.ev A) n l B
 |.copy g d x=>Ur z g (x.ev A) λn l=>match d.ev A with
  |.dy p k=>match z[p]? with
   |some (.dyn r len j C st)=>k=C∧j=g∧B (.i (min n len:Nat)) (z.set p (.dyn (Po r 0 (l.take (min n len*g))) len j C (st+1)))
   |_=>False
  |.vw p k D len=>match z[p]? with
   |some (.dyn r F j C st)=>k=C∧j=g∧(D+len)*g≤r.length∧B (.i (min n len:Nat)) (z.set p (.dyn (Po r (D*g) (l.take (min n len*g))) F j C (st+1)))
   |_=>False
  |_=>False
 |.clear g I x=>match x.ev A with
  |.vw p k D len=>match z[p]? with
   |some (.dyn r F j C st)=>k=C∧j=g∧I.length=g∧(D+len)*g≤r.length∧B .any (z.set p (.dyn (Po r (D*g) (Qo I len)) F j C (st+1)))
   |_=>False
  |_=>False
 |.mkMap0=>B (.map z.length) (z++[.map [] 0 0])
 |.mkMap1 x=>match x.ev A with
  |.i _=>B (.map z.length) (z++[.map [] 0 0])
  |_=>False
 |.lookup d I ok x i=>Xz z (x.ev A) λP=>oy d (i.ev A) (zwu I ok λv=>B v z) P
 |.mapUpd d m k v=>wj z d (m.ev A) (k.ev A) (v.ev A) λM=>B .any M
 |.lenMap x=>Xz z (x.ev A) λP=>B (.i P.length) z
 |.slArr n g x D hi=>match x.ev A with
  |.ptr p i=>match z[p]? with
   |some (.cells l st)=>i+n*g≤l.length∧Qp A 0 D λa=>Qp A n hi λb=>a≤b∧b≤n∧B (.lst ((l.drop (i+a*g)).take ((b-a)*g)) (b-a) g) (z.set p (.dead (st+1)))
   |_=>False
  |_=>False
 |.callV f G=>match f.ev A with
  |.fn (.func O) a b=>Sw T (.fn O) (a++G.map (·.ev A)++b) z B
  |.fn (.yield p) [] _=>Sw T (.yield p) (G.map (·.ev A)) z B
  |_=>False
end
variable{F:List LV}{Q:LV}{u9:Cx}
section
def z4a{t:Tr AV}:∀{n i:Nat} {l:List AV},l.length=n→(∀g,g<n→On (O1 (i+g)) t=l[g]?)→Tv t i n=some l
 |0,i,l,h,_=>by
  have:l=[]:=Kk h;subst this;rfl
 |n+1,i,[],h,_=>Bu
 |n+1,i,a::l,h,k=>by
  have j:=k 0 J;simp only[M8,Km]at j;have z:=z4a (t:=t) (n:=n) (i:=i+1) (l:=l) Ar (λg A=>by
   have:=k (g+1) J;rw[Kh]at this;rw[←this,show i+1+g=i+(g+1) from J])
  simp only[Tv,j,z]
def zn5{t:Tr AV}{i n:Nat}{l:List AV}(h:Tv t 0 g=some l)(j:i+n≤g):Tv t i n=some ((l.drop i).take n):=by
 obtain⟨B,z⟩:=kr h;refine z4a Ab (λC A=>?_);have:=z (i+C) J;rw[Kw]at this;rw[this,Lz A,Oc]
def z53(l:List AV):Tv (Su l 0 .e) 0 l.length=some l :=
 z4a rfl (λj g=>by rw[get_ofList,J8 J];simp)
def eq(l:List AV)(i:Nat)(r:List AV):List AV:=l.take i++r++l.drop (i+r.length)
def zn1{l r:List AV}{i:Nat}(h:i+r.length≤l.length):(eq l i r).length=l.length:=by
 unfold eq;simp;omega
def zfn{l r:List AV}{i:Nat}(h:i+r.length≤l.length)(g:Nat):(eq l i r)[g]?=if i≤g∧g<i+r.length then r[g-i]? else l[g]?:=by
 have hi:(l.take i).length=i:=Ab
 unfold eq;by_cases j:g<i
 ·rw[J2 J,Kz,J6 J,Lz j]
 ·by_cases z:g<i+r.length
  ·rw[J8 J,J6 Ab,Kj J,hi]
  ·rw[J2 J,Kj Ab,Oc]
   congr 1
   simp;omega
def zdz{t:Tr AV}{i:Nat}{l r:List AV}(h:Tv t 0 g=some l)(j:i+r.length≤g):Tv (Su r i t) 0 g=some (eq l i r):=by
 obtain⟨z,A⟩:=kr h;refine z4a (by rw[zn1 J];exact z) (λC B=>?_);have:=A C B;rw[Kw]at this ⊢;rw[get_ofList,zfn J,this]
def zn7{t:Tr AV}{l r:List AV}(h:Tv t 0 g=some l):Tv (Su r g t) 0 (g+r.length)=some (l++r):=by
 obtain⟨z,A⟩:=kr h;refine z4a Ab (λB C=>?_);rw[Kw,get_ofList];by_cases j:g≤B
 ·rw[J8 ⟨j,J⟩,Kj J,z]
 ·rw[J2 J,J6 J];have:=A B J
  rwa [Kw]at this
def W1{H:Heap}{o v i n:Nat}{t:Tr AV}{l:List AV}(A:H.get o=some (.cells t j v K))(B:Tv t 0 g=some l)(D:g≤j)(z:i+n≤g):Sd H o v i n=some ((l.drop i).take n):=by
 unfold Sd;rw[A];have C:Nat.ble (Nat.add i n) j=true:=Ka (by show i+n≤j;omega);simp only[K0,C];exact zn5 B z
def z31{o:Nat}(h:vX.get o=D.get o)(v i n:Nat):Sd vX o v i n=Sd D o v i n:=by
 unfold Sd;rw[h]
def zih{o v i n m:Nat}{l:List AV}(h:Sd D o v i n=some l)(A:g+m≤n):Sd D o v (i+g) m=some ((l.drop g).take m):=by
 unfold Sd at h ⊢;split at h
 ·rename_i t j B H I;split at h
  ·rename_i K;split at h
   ·rename_i C;have E:i+n≤j:=Kd C;have z:Nat.ble (Nat.add (i+g) m) j=true:=Ka (by show i+g+m≤j;omega);simp only[z];obtain⟨L,F⟩:=kr h;refine z4a Ab (λq G=>?_);have:=F (g+q) J;rw[Ly,this,Lz G,Oc]
   ·cases h
  ·cases h
 ·cases h
def zcu{o v i n:Nat}{l:List AV}(h:Sd D o v i n=some l):l.length=n:=by
 unfold Sd at h;split at h
 ·split at h
  ·split at h
   ·exact (kr h).1
   ·cases h
  ·cases h
 ·cases h
section lists
variable {c : Cx}
def ARs.length:∀{l:List LV} {r:List AV},ARs c l r→l.length=r.length
 |_,_,.nil=>rfl
 |_,_,.cons _ es=>by simp[ARs.length es]
def ARs.get:∀{l:List LV} {r:List AV},ARs c l r→∀{i:Nat} {v:LV},l[i]?=some v→∃a,r[i]?=some a∧AR c v a
 |_,_,.nil,i,v,h=>Bu
 |_,_,.cons e es,0,v,h=>Eo
 |_,_,.cons e es,i+1,v,h=>by simp only[Kh]at h ⊢;exact ARs.get es h
def ARs.append:∀{l:List LV} {r:List AV} {l':List LV} {r':List AV},ARs c l r→ARs c l' r'→ARs c (l++l') (r++r')
 |_,_,_,_,.nil,k=>k
 |_,_,_,_,.cons e es,k=>.cons e (ARs.append es k)
def ARs.drop:∀{l:List LV} {r:List AV},ARs c l r→∀n,ARs c (l.drop n) (r.drop n)
 |_,_,h,0=>h
 |_,_,.nil,_+1=>.nil
 |_,_,.cons _ es,n+1=>ARs.drop es n
def ARs.take:∀{l:List LV} {r:List AV},ARs c l r→∀n,ARs c (l.take n) (r.take n)
 |_,_,_,0=>.nil
 |_,_,.nil,_+1=>.nil
 |_,_,.cons e es,n+1=>.cons e (ARs.take es n)
def ARs.lay{l r:List LV}{l' r':List AV}(h:ARs c l l')(k:ARs c r r')(i:Nat):ARs c (Po l i r) (eq l' i r'):=by
 unfold Po eq;rw[k.length];exact ((h.take i).append k).append (h.drop _)
def z9l{l r:List LV}{i:Nat}(h:i+r.length≤l.length):(Po l i r).length=l.length:=by
 unfold Po;simp;omega
def ARs.rep{z:List LV}{z':List AV}(h:ARs c z z'):∀n,ARs c (Qo z n) (Up z' n)
 |0=>.nil
 |n+1=>h.append (ARs.rep h n)
def z66(g:List LV):∀n,(Qo g n).length=n*g.length
 |0=>by simp[Qo]
 |n+1=>by simp[Qo,z66 g n,Ku];omega
end lists
def zub(c:Cx){v:LV}(h:v.scal=true):AR c v (toA v):=by
 cases v<;>first|(cases h;done)|(unfold toA;constructor)
def uk(c:Cx):∀{l:List LV},l.all LV.scal=true→ARs c l (toAs l)
 |[],_=>by unfold toAs;exact .nil
 |v::l,h=>by
  simp only[Mf,Jz]at h;unfold toAs;exact .cons (zub c h.1) (uk c h.2)
def co(c:Cx){v:LV}(h:v.cst=true):AR c v (toA v):=by
 unfold LV.cst at h;split at h
 ·unfold toA;exact .fn .nil .nil
 ·unfold toA;exact .agg (uk c h)
 ·unfold toA toAs;exact .tup .nil
 ·exact zub c h
def AR.cells{c:Cx}{v:LV}{a:AV}(h:AR c v a){l:List LV}(hl:v.cells=some l):∃l',a.cells=some l'∧ARs c l l':=by
 cases v with
 |any=>cases hl
 |tup _=>cases hl
 |agg l0=>cases hl;cases h with|agg h=>exact⟨_,rfl,h⟩
 |dy p k =>
  simp only[LV.cells,Option.some.injEq]at hl;subst hl;have h0:=h;refine⟨[a],?_,.cons h0 .nil⟩;cases h with|dy _ _ _ hs=>cases a<;>first|rfl|cases hs
 |vw p k lo len =>
  simp only[LV.cells,Option.some.injEq]at hl;subst hl;have h0:=h;refine⟨[a],?_,.cons h0 .nil⟩;cases h with|vw _ _ _ hs _=>cases a<;>first|rfl|cases hs
 |vf p k len =>
  simp only[LV.cells,Option.some.injEq]at hl;subst hl;have h0:=h;refine⟨[a],?_,.cons h0 .nil⟩;cases h with|vf _ _ _ hs=>cases a<;>first|rfl|cases hs
 |_ =>
  simp only[LV.cells,Option.some.injEq]at hl;subst hl;have h0:=h;refine⟨[a],?_,.cons h0 .nil⟩;cases h<;>rfl
def CxLe.refl(c:Cx):CxLe c c:=⟨λ_ k h e=>⟨k,h,e,J4 _,λ_=>rfl,λ_=>rfl⟩,λ_ h=>⟨h,rfl⟩⟩
def CxLe.trans{a b c:Cx}(h:CxLe a b)(k:CxLe b c):CxLe a c:=by
 refine⟨λp v x e=>?_,λo e=>?_⟩
 ·obtain⟨v1,x1,e1,l1,s1,f1⟩:=h.hd p v x e;obtain⟨v2,x2,e2,l2,s2,f2⟩:=k.hd p v1 x1 e1;refine⟨v2,x2,e2,K4 l1 l2,λq=>?_,λq=>?_⟩
  ·have q1:v=v1:=J
   have q2:v1=v2:=J
   rw[s1 q1,s2 q2]
  ·have q1:=f1 q;have:=s1 q1;subst this;rw[q1,f2 q]
 ·obtain⟨h1,h2⟩:=h.fz o e;obtain⟨h3,h4⟩:=k.fz o h1;exact⟨h3,h4.trans h2⟩
def CxLe.fix{c:Cx}(h:CxLe c u9){p k:Nat}{x:AV}(e:c.hd[p]?=some (k,x))(hf:Y3 x=true):u9.hd[p]?=some (k,x):=by
 obtain⟨k',x',e',_,s,f⟩:=h.hd p k x e;have:=f hf;subst this;rw[s rfl];exact e'
mutual
def AR.mono{c c':Cx}(h:CxLe c c'):∀{v:LV} {a:AV},AR c v a→AR c' v a
 |_,_,.any a=>.any a
 |_,_,.bool b=>.bool b
 |_,_,.u x=>.u x
 |_,_,.b x=>.b x
 |_,_,.i n=>.i n
 |_,_,.int k n=>.int k n
 |_,_,.str l=>.str l
 |_,_,.nilPtr=>.nilPtr
 |_,_,.ptr e=>.ptr (h.fix e rfl)
 |_,_,.dptr hp hk ha=>by
  obtain⟨k2,h2,e2,l2,s2,_⟩:=h.hd _ _ _ hp;refine .dptr e2 (K4 hk l2) (λq=>?_);have q1:=ha J;rw[←s2 J];exact q1
 |_,_,.cptr hf hr hl=>.cptr (h.fz _ hf).1 (by rw[z31 (h.fz _ hf).2];exact hr) (ARs.mono h hl)
 |_,_,.nilSl=>.nilSl
 |_,_,.dy hp hk ha hs=>by
  obtain⟨k2,h2,e2,l2,s2,_⟩:=h.hd _ _ _ hp;refine .dy e2 (K4 hk l2) (λq=>?_) hs;have q1:=ha J;rw[←s2 J];exact q1
 |_,_,.vw hp hk ha hs hz=>by
  obtain⟨k2,h2,e2,l2,s2,_⟩:=h.hd _ _ _ hp;refine .vw e2 (K4 hk l2) (λq=>?_) hs (λq=>?_)
  ·have q1:=ha J;rw[←s2 J];exact q1
  ·have q1:=hz J;rw[←s2 J];exact q1
 |_,_,.vf hp hk ha hs=>by
  obtain⟨k2,h2,e2,l2,s2,_⟩:=h.hd _ _ _ hp;refine .vf e2 (K4 hk l2) (λq=>?_) hs;have q1:=ha J;rw[←s2 J];exact q1
 |_,_,.lst hf gg hlen hr hl=>.lst (h.fz _ hf).1 gg hlen (by rw[z31 (h.fz _ hf).2];exact hr) (ARs.mono h hl)
 |_,_,.lstNil=>.lstNil
 |_,_,.lstEmp=>.lstEmp
 |_,_,.nilMap=>.nilMap
 |_,_,.map e=>.map (h.fix e rfl)
 |_,_,.nilFn=>.nilFn
 |_,_,.fn hl hr=>.fn (ARs.mono h hl) (ARs.mono h hr)
 |_,_,.yield e=>.yield (h.fix e rfl)
 |_,_,.nilIf=>.nilIf
 |_,_,.iface e=>.iface (AR.mono h e)
 |_,_,.agg e=>.agg (ARs.mono h e)
 |_,_,.tup e=>.tup (ARs.mono h e)
def ARs.mono{c c':Cx}(h:CxLe c c'):∀{l:List LV} {r:List AV},ARs c l r→ARs c' l r
 |_,_,.nil=>.nil
 |_,_,.cons e es=>.cons (AR.mono h e) (ARs.mono h es)
end
def MRs.mono{c c':Cx}(h:CxLe c c'):∀{l:List (LV×LV×Nat)} {r:List (AV×AV×Nat)},MRs c l r→MRs c' l r
 |_,_,.nil=>.nil
 |_,_,.cons hk hv hs=>.cons (hk.mono h) (hv.mono h) (MRs.mono h hs)
def Pt.mono{c c':Cx}(h:CxLe c c'){ρ:Om}{E:Tr AV}(k:Pt c ρ E):Pt c' ρ E:=λt=>(k t).mono h
def tr.mono{c c':Cx}(h:CxLe c c'){k:Nat}{x:AV}{ob:LObj}(hg:∀o,Pg x=some o→c'.H.get o=c.H.get o)(r:tr c k x ob):tr c' k x ob:=by
 cases ob with
 |dead st=>trivial
 |cells l st =>
  obtain⟨r0,o,t,l',rfl,r2,r3,r4⟩:=r;exact⟨r0,o,t,l',rfl,Dq,r3,r4.mono h⟩
 |dyn l len gB gC st =>
  obtain⟨r0,r1,r2⟩:=r;refine⟨r0,r1,?_⟩;rcases r2 with r2|⟨o,v,room,t,gg,l',rfl,r3,r4,r5,r6,r7⟩
  ·exact .inl r2
  ·exact .inr ⟨o,v,room,t,gg,l',rfl,by rw[hg o rfl];exact r3,r4,r5,r6.mono h,r7⟩
 |map es ck st =>
  obtain⟨r0,o,gA,rfl,r2,r3⟩:=r;exact⟨r0,o,gA,rfl,Dq,r3.mono h⟩
 |iter l pos =>
  obtain⟨r0,o,rfl,r2⟩:=r;exact⟨r0,o,rfl,Dq⟩
 |loop s pend f n ρ ps a b d =>
  obtain⟨r0,o,od,E,rfl,r2,r3,r4⟩:=r;exact⟨r0,o,od,E,rfl,h.fix r2 rfl,by rw[hg o rfl];exact r3,r4.mono h⟩
 |defd op =>
  obtain⟨r0,o,rfl,r2⟩:=r;exact⟨r0,o,rfl,Dq⟩
def Step.refl(c:Cx)(G:Ok):Step c G c G:=by
 refine⟨.refl c,J4 _,λ_ _ _=>rfl,λ_ h=>.inl h,λ_ h=>.inl h,λp ob gg e1 e2=>?_,λp ob gg k h o e1 e2 _ _ _ _=>?_⟩
 ·rw[e1]at e2;cases e2;exact J4 _
 ·rw[e1]at e2;cases e2;exact⟨rfl,rfl,rfl⟩
def Step.trans{c c1 c2:Cx}{G G1 G2:Ok}(h0:HSim c G)(h1:HSim c1 G1)(s1:Step c G c1 G1)(s2:Step c1 G1 c2 G2):Step c G c2 G2:=by
 have gB:∀p ob,G[p]?=some ob→∃gg,G1[p]?=some gg:=λp ob e=>by
  have hp:p<c.hd.length:=by rw[h0.len];exact (Jx.1 e).1
  obtain⟨k,h,e3⟩:∃k h,c.hd[p]?=some (k,h):=⟨_,_,J5 hp⟩;obtain⟨k1,x1,q1,_,_,_⟩:=s1.le.hd p k h e3;have hp:p<G1.length:=by rw[←h1.len];exact (Jx.1 q1).1
  exact⟨_,J5 hp⟩
 refine⟨s1.le.trans s2.le,K4 s1.nx s2.nx,λo ho hn=>?_,λo ho=>?_,λo ho=>?_,λp ob gA e1 e2=>?_,λp ob gA k h o e1 e2 e3 e4 hl he=>?_⟩
 ·rw[s2.frame o (Kr ho s1.nx) (λhc=>?_),s1.frame o ho hn];rcases s1.new o hc with h|h
  ·exact hn h
  ·omega
 ·rcases s2.new o ho with h|h
  ·exact s1.new o h
  ·exact .inr (K4 s1.nx h)
 ·rcases s2.fznew o ho with h|h|h
  ·exact s1.fznew o h
  ·rcases s1.new o h with h|h
   ·exact .inr (.inl h)
   ·exact .inr (.inr h)
  ·exact .inr (.inr (K4 s1.nx h))
 ·obtain⟨gg,q2⟩:=gB p ob e1;exact K4 (s1.mono p ob gg e1 q2) (s2.mono p gg gA q2 e2)
 ·obtain⟨gg,q2⟩:=gB p ob e1;have m1:=s1.mono p ob gg e1 q2;have m2:=s2.mono p gg gA q2 e2;obtain⟨rfl,r3,r4⟩:=s1.st p ob gg k h o e1 q2 e3 e4 hl J;obtain⟨rfl,r7,r8⟩:=s2.st p gg gA k h o q2 e2 (by rw[r4];exact e3) e4 hl J;rw[r7,r8,r3,r4];exact⟨rfl,rfl,rfl⟩
def HSim.push{c:Cx}{G:Ok}(hs:HSim c G){H':Heap}{x:AV}{ob:LObj}(gF:c.H.next≤H'.next)(gD:∀o,o<c.H.next→H'.get o=c.H.get o)(gG:∀o,Pg x=some o→c.H.next≤o∧o<H'.next)
  (gK:tr ⟨c.hd++[(0,x)],c.Fz,H'⟩ 0 x ob):HSim ⟨c.hd++[(0,x)],c.Fz,H'⟩ (G++[ob])∧Step c G ⟨c.hd++[(0,x)],c.Fz,H'⟩ (G++[ob])∧CxLe c ⟨c.hd++[(0,x)],c.Fz,H'⟩:=by
 have gI:∀(p k:Nat) (h:AV),c.hd[p]?=some (k,h)→(c.hd++[(0,x)])[p]?=some (k,h):=λp k h e=>by
  rw[J6 (Jx.1 e).1];exact e
 have hle:CxLe c ⟨c.hd++[(0,x)],c.Fz,H'⟩:=⟨λp k h e=>⟨k,h,gI p k h e,J4 _,λ_=>rfl,λ_=>rfl⟩,λo ho=>⟨ho,gD o (hs.fz o ho)⟩⟩;have hinv:∀(p:Nat) (k:Nat) (h:AV) (gg:LObj),(c.hd++[(0,x)])[p]?=some (k,h)→(G++[ob])[p]?=some gg→(c.hd[p]?=some (k,h)∧G[p]?=some gg)∨(p=G.length∧k=0∧h=x∧gg=ob):=by
  intro p k h gg e1 e2;by_cases hp:p<G.length
  ·rw[J6 hp]at e2;rw[J6 (by rw[hs.len];exact hp)]at e1;exact .inl ⟨e1,e2⟩
  ·have gL:p=G.length:=by
    have:=(Jx.1 e2).1;simp at this;omega
   subst gL;rw[Ke]at e2;rw[←hs.len,Ke]at e1;cases e1;cases e2;exact .inr ⟨rfl,rfl,rfl,rfl⟩
 have gB:∀o,Qq ⟨c.hd++[(0,x)],c.Fz,H'⟩ (G++[ob]) o→Qq c G o∨(c.H.next≤o∧o<H'.next):=by
  rintro o ⟨p,gg,k,h,e1,e2,e3,e4⟩;rcases hinv p k h gg e3 e1 with ⟨q1,q2⟩|⟨_,_,rfl,_⟩
  ·exact .inl ⟨p,gg,k,h,q2,e2,q1,e4⟩
  ·exact .inr (gG o e4)
 refine⟨⟨Gx,λo ho=>Kr (hs.fz o ho) gF,λo ho=>?_,λo ho hf=>?_,λp gg k h e1 e2=>?_,?_⟩,⟨hle,gF,λo ho _=>gD o ho,λo ho=>?_,λo ho=>.inl ho,λp gA gC e1 e2=>?_,λp gA gC k h o e1 e2 e3 e4 hl _=>?_⟩,hle⟩
 ·rcases gB o ho with h|h
  ·exact Kr (hs.lt o h) gF
  ·exact h.2
 ·rcases gB o ho with h|h
  ·exact hs.sep o h hf
  ·have:=hs.fz o hf;omega
 ·rcases hinv p k h gg e2 e1 with ⟨q1,q2⟩|⟨_,rfl,rfl,rfl⟩
  ·by_cases hl:gg.live=true
   ·exact (hs.obj p gg k h q2 q1).mono hle (λo ho=>gD o (hs.lt o ⟨p,gg,k,h,q2,hl,q1,ho⟩))
   ·cases gg<;>first|exact absurd rfl hl|trivial
  ·exact gK
 ·intro p q gA gC k h k' h' o e1 e2 e3 e4 e5 e6 e7 e8;rcases hinv p k h gA e5 e1 with ⟨q1,q2⟩|⟨r1,_,rfl,rfl⟩<;>rcases hinv q k' h' gC e6 e2 with ⟨q3,q4⟩|⟨r2,_,rfl,rfl⟩
  ·exact hs.excl p q gA gC k h k' h' o q2 q4 e3 e4 q1 q3 e7 e8
  ·have:=hs.lt o ⟨p,gA,k,h,q2,e3,q1,e7⟩;have:=gG o e8;omega
  ·have:=hs.lt o ⟨q,gC,k',h',q4,e4,q3,e8⟩;have:=gG o e7;omega
  ·omega
 ·rcases gB o ho with h|h
  ·exact .inl h
  ·exact .inr h.1
 ·rw[J6 (Jx.1 e1).1,e1]at e2;cases e2;exact J4 _
 ·rw[J6 (Jx.1 e1).1,e1]at e2;cases e2;have gH:gA.live=true:=by cases gA<;>first|rfl|cases hl
  exact⟨rfl,gD o (hs.lt o ⟨p,gA,k,h,e1,gH,e3,e4⟩),by rw[gI p k h e3,e3]⟩
def HSim.upd{c:Cx}{G:Ok}(hs:HSim c G){p k k':Nat}{x x':AV}{ob ob':LObj}{H':Heap}(hG:G[p]?=some ob)(hl:ob.live=true)(hp:c.hd[p]?=some (k,x))(gI:c.H.next≤H'.next)
  (gH:∀o,o<c.H.next→Pg x≠some o→H'.get o=c.H.get o) (gK:∀o,Pg x'=some o→(Pg x=some o∨c.H.next≤o)∧o<H'.next)
  (hk:k≤k') (hx:k=k'→x=x') (hf:Y3 x=true→k=k') (gM:ob.st<ob'.st∨(ob.stp=false∧ob.st≤ob'.st))
  (gR:CxLe c ⟨c.hd.set p (k',x'),c.Fz,H'⟩→tr ⟨c.hd.set p (k',x'),c.Fz,H'⟩ k' x' ob') :
  HSim ⟨c.hd.set p (k',x'),c.Fz,H'⟩ (G.set p ob')∧Step c G ⟨c.hd.set p (k',x'),c.Fz,H'⟩ (G.set p ob')∧CxLe c ⟨c.hd.set p (k',x'),c.Fz,H'⟩:=by
 have gO:p<c.hd.length:=(Jx.1 hp).1;have gL:p<G.length:=(Jx.1 hG).1;have gB:∀o,Pg x=some o→Qq c G o:=λo ho=>⟨p,ob,k,x,hG,hl,hp,ho⟩
 have hle:CxLe c ⟨c.hd.set p (k',x'),c.Fz,H'⟩:=by
  refine⟨λq k1 h1 e=>?_,λo ho=>⟨ho,gH o (hs.fz o ho) (λq=>hs.sep o (gB o q) ho)⟩⟩;by_cases hq:q=p
  ·subst hq;rw[hp]at e;cases e;exact⟨k',x',by dsimp only;rw[J1 gO],hk,hx,hf⟩
  ·exact⟨k1,h1,by dsimp only;rw[Jy (Ne.symm hq)];exact e,J4 _,λ_=>rfl,λ_=>rfl⟩
 have hinv:∀(q:Nat) (k1:Nat) (h1:AV) (gg:LObj),(c.hd.set p (k',x'))[q]?=some (k1,h1)→(G.set p ob')[q]?=some gg→(q≠p∧c.hd[q]?=some (k1,h1)∧G[q]?=some gg)∨(q=p∧k1=k'∧h1=x'∧gg=ob'):=by
  intro q k1 h1 gg e1 e2;by_cases hq:q=p
  ·subst hq;rw[J1 gO]at e1;rw[J1 gL]at e2;cases e1;cases e2;exact .inr ⟨rfl,rfl,rfl,rfl⟩
  ·rw[Jy (Ne.symm hq)]at e1 e2;exact .inl ⟨hq,e1,e2⟩
 have gA:∀(q:Nat) (k1:Nat) (h1:AV) (gg:LObj) (o:Nat),q≠p→c.hd[q]?=some (k1,h1)→G[q]?=some gg→gg.live=true→Pg h1=some o→Pg x≠some o:=by
  intro q k1 h1 gg o hq e1 e2 e3 e4 e5;exact hq (hs.excl q p gg ob k1 h1 k x o e2 hG e3 hl e1 hp e4 e5)
 have gF:∀o,Qq ⟨c.hd.set p (k',x'),c.Fz,H'⟩ (G.set p ob') o→(Qq c G o∧o<c.H.next)∨(c.H.next≤o∧o<H'.next):=by
  rintro o ⟨q,gg,k1,h1,e1,e2,e3,e4⟩;rcases hinv q k1 h1 gg e3 e1 with ⟨_,q1,q2⟩|⟨_,_,rfl,_⟩
  ·have:=(⟨q,gg,k1,h1,q2,e2,q1,e4⟩:Qq c G o);exact .inl ⟨this,hs.lt o this⟩
  ·obtain⟨q1,q2⟩:=gK o e4;rcases q1 with q1|q1
   ·exact .inl ⟨gB o q1,hs.lt o (gB o q1)⟩
   ·exact .inr ⟨q1,q2⟩
 refine⟨⟨Gx,λo ho=>Kr (hs.fz o ho) gI,λo ho=>?_,λo ho hf=>?_,λq gg k1 h1 e1 e2=>?_,?_⟩,⟨hle,gI,λo ho hn=>gH o ho (λq=>hn (gB o q)),λo ho=>?_,λo ho=>.inl ho,λq gg gC e1 e2=>?_,λq gg gC k1 h1 o e1 e2 e3 e4 gG he=>?_⟩,hle⟩
 ·rcases gF o ho with h|h
  ·exact Kr h.2 gI
  ·exact h.2
 ·rcases gF o ho with h|h
  ·exact hs.sep o h.1 hf
  ·have:=hs.fz o hf;omega
 ·rcases hinv q k1 h1 gg e2 e1 with ⟨hq,q1,q2⟩|⟨_,rfl,rfl,rfl⟩
  ·by_cases gD:gg.live=true
   ·refine (hs.obj q gg k1 h1 q2 q1).mono hle (λo ho=>gH o (hs.lt o ⟨q,gg,k1,h1,q2,gD,q1,ho⟩) (gA q k1 h1 gg o hq q1 q2 gD ho))
   ·cases gg<;>first|exact absurd rfl gD|trivial
  ·exact gR hle
 ·intro q r gg gC k1 h1 k2 h2 o e1 e2 e3 e4 e5 e6 e7 e8;rcases hinv q k1 h1 gg e5 e1 with ⟨r0,q1,q2⟩|⟨r1,_,rfl,rfl⟩<;>rcases hinv r k2 h2 gC e6 e2 with ⟨r3,q3,q4⟩|⟨r2,_,rfl,rfl⟩
  ·exact hs.excl q r gg gC k1 h1 k2 h2 o q2 q4 e3 e4 q1 q3 e7 e8
  ·have h3:=hs.lt o ⟨q,gg,k1,h1,q2,e3,q1,e7⟩;rcases (gK o e8).1 with h|h
   ·exact absurd h (gA q k1 h1 gg o r0 q1 q2 e3 e7)
   ·omega
  ·have h3:=hs.lt o ⟨r,gC,k2,h2,q4,e4,q3,e8⟩;rcases (gK o e7).1 with h|h
   ·exact absurd h (gA r k2 h2 gC o r3 q3 q4 e4 e8)
   ·omega
  ·omega
 ·rcases gF o ho with h|h
  ·exact .inl h.1
  ·exact .inr h.1
 ·by_cases hq:q=p
  ·subst hq;rw[J1 gL]at e2;cases e2;rw[hG]at e1;cases e1;rcases gM with h|h
   ·exact N6 h
   ·exact h.2
  ·rw[Jy (Ne.symm hq),e1]at e2;cases e2;exact J4 _
 ·by_cases hq:q=p
  ·subst hq;rw[J1 gL]at e2;cases e2;rw[hG]at e1;cases e1;rcases gM with h|h
   ·omega
   ·rw[h.1]at gG;cases gG
  ·rw[Jy (Ne.symm hq),e1]at e2;cases e2;have gD:gg.live=true:=by cases gg<;>first|rfl|cases gG
   exact⟨rfl,gH o (hs.lt o ⟨q,gg,k1,h1,e1,gD,e3,e4⟩) (gA q k1 h1 gg o hq e3 e1 gD e4),by dsimp only;rw[Jy (Ne.symm hq)]⟩
end
section
def Y2(n:Int):V7 .u64 n=n%18446744073709551616:=by
 rw[Zx];rfl
def ux(n:Int):V7 .u8 n=n%256:=by
 rw[Zx];rfl
def Yz{n:Int}(h:V1 n):V7 .i64 n=n:=by
 rw[Zx];obtain⟨g,j⟩:=h;show (if (true&&decide (n%18446744073709551616 ≥ 9223372036854775808))=true then n%18446744073709551616-18446744073709551616 else n%18446744073709551616)=n;simp only[Nv,Kb];split<;>omega
def jq(a b:Int):eqI a b=decide (a=b):=by
 rw[xy,Li];simp
def Vv(a b:Int):wv a b=decide (a<b):=pj a b
def wy(a b:Int):(!(decide (b<a)))=decide (a≤b):=by
 rw[Li];simp
def zuo(x:UInt64):Nat.blt x.toNat (V2 .u64)=true:=by
 have:=x.toNat_lt;unfold Nat.blt;exact Ka (by show x.toNat+1≤2*9223372036854775808;omega)
def bm(x:UInt8):Nat.blt x.toNat (V2 .u8)=true:=by
 have:=x.toNat_lt;unfold Nat.blt;exact Ka (by show x.toNat+1≤2*128;omega)
variable {c : Cx} {K : LV → Prop}
def AR.u'{x:UInt64}{n:Int}(h:n=Int.ofNat x.toNat):AR c (.u x) (.int .u64 n):=by subst h;exact .u x
def AR.b'{x:UInt8}{n:Int}(h:n=Int.ofNat x.toNat):AR c (.b x) (.int .u8 n):=by subst h;exact .b x
def AR.bool'{x y:Bool}(h:y=x):AR c (.bool x) (.bool y):=by subst h;exact .bool y
def zje(a b:UInt64):decide (Int.ofNat a.toNat=Int.ofNat b.toNat)=decide (a=b):=by
 rw[Li];simp only[Kb];constructor
 ·intro h;exact Mc.1 (Int.ofNat.inj h)
 ·intro h;rw[h]
def zey(a b:UInt64):decide (Int.ofNat a.toNat<Int.ofNat b.toNat)=decide (a<b):=by
 rw[Li];simp only[Kb,Lu];exact Int.ofNat_lt
def zqd(a b:UInt64):decide (Int.ofNat a.toNat≤Int.ofNat b.toNat)=decide (a≤b):=by
 rw[Li];simp only[Kb,Mu];exact Int.ofNat_le
def zq9(a b:UInt8):decide (Int.ofNat a.toNat=Int.ofNat b.toNat)=decide (a=b):=by
 rw[Li];simp only[Kb];constructor
 ·intro h;exact UInt8.toNat_inj.1 (Int.ofNat.inj h)
 ·intro h;rw[h]
def zqe(a b:UInt8):decide (Int.ofNat a.toNat<Int.ofNat b.toNat)=decide (a<b):=by
 rw[Li];simp only[Kb,UInt8.lt_iff_toNat_lt];exact Int.ofNat_lt
def zqj(a b:UInt8):decide (Int.ofNat a.toNat≤Int.ofNat b.toNat)=decide (a≤b):=by
 rw[Li];simp only[Kb,UInt8.le_iff_toNat_le];exact Int.ofNat_le
def Sz(c:Cx)(K:LV→Prop)(r:Option AV):Prop:=∃v a,r=some a∧AR c v a∧K v
def Sz.mk{v:LV}{a:AV}(h:AR c v a)(k:K v):Sz c K (some a):=⟨v,a,rfl,h,k⟩
def td(a:UInt64)(s:Nat):V7 .u64 (.ofNat (Nat.mul a.toNat (Nat.pow 2 (Rv s (IntKind.bits .u64)))))=Int.ofNat (Ze a s).toNat:=by
 rw[Y2];have hm:Rv s (IntKind.bits .u64)=min s 64:=by
  unfold Rv;by_cases h:s≤64
  ·rw[show Nat.ble s (IntKind.bits .u64)=true from Ka h];simp[Mh h]
  ·have:Nat.ble s (IntKind.bits .u64)=false:=by
    cases g:Nat.ble s (IntKind.bits .u64) with
    |false=>rfl
    |true=>exact absurd (Kd g) h
   rw[this];simp only[IntKind.bits];omega
 rw[hm];rw[jw,L3];show (Int.ofNat (a.toNat*2^min s 64))%18446744073709551616=Int.ofNat (a.toNat*2^s%2^64);by_cases h:s≤64
 ·rw[Mh h];rfl
 ·rw[Nat.min_eq_right J];have e:2^s=2^64*2^(s-64):=by rw[←Nk];congr 1;omega
  have:a.toNat*2^s%2^64=0:=by
   rw[e,←Oj,Mo a.toNat,Oj,Nat.mul_mod_right]
  rw[this];have j:a.toNat*2^64%2^64=0:=Nat.mul_mod_left _ _;show Int.ofNat (a.toNat*2^64%2^64)=0;rw[j];rfl
def vh(a:UInt64)(s:Nat):Int.ofNat (Nat.div a.toNat (Nat.pow 2 (Rv s (IntKind.bits .u64))))=Int.ofNat (Sy a s).toNat:=by
 have hm:Rv s (IntKind.bits .u64)=min s 64:=by
  unfold Rv;by_cases h:s≤64
  ·rw[show Nat.ble s (IntKind.bits .u64)=true from Ka h];simp[Mh h]
  ·have:Nat.ble s (IntKind.bits .u64)=false:=by
    cases j:Nat.ble s (IntKind.bits .u64) with
    |false=>rfl
    |true=>exact absurd (Kd j) h
   rw[this];simp only[IntKind.bits];omega
 rw[hm];rw[bv,L3];have g:=a.toNat_lt;show Int.ofNat (a.toNat/2^min s 64)=Int.ofNat (a.toNat/2^s%2^64);have z:a.toNat/2^s%2^64=a.toNat/2^s:=Kt (Nat.lt_of_le_of_lt (Nat.div_le_self _ _) g);rw[z];by_cases h:s≤64
 ·rw[Mh h]
 ·rw[Nat.min_eq_right J,Nat.div_eq_of_lt g];rw[Nat.div_eq_of_lt (Kr g (Ls J J))]
def yk{op:BinOp}{F:Bool}{t:TypeId}{a b:UInt64}(h:V9 op a b K):Sz c K (Qv C op F t (.int .u64 (Int.ofNat a.toNat)) (.int .u64 (Int.ofNat b.toNat))):=by
 have E:Yw .u64 .u64=true:=rfl;have j:=a.toNat_lt;have g:=b.toNat_lt;cases op<;>simp only[V9,U2,Yo,zgb,mi,zfa,bc,jp,jn,zur]at h<;>simp only[Qv,E,zoh,Zw,zlp,zuo]
 case add=>exact .mk (.u' (by rw[Y2,Md];rfl)) h
 case sub =>
  refine .mk (.u' ?_) h;rw[Y2,Nt];show (Int.ofNat a.toNat-Int.ofNat b.toNat)%_=((2^64-b.toNat+a.toNat)%2^64:Nat);simp only[Kq];omega
 case mul=>exact .mk (.u' (by rw[Y2,UInt64.toNat_mul];rfl)) h
 case quo =>
  obtain⟨A,B⟩:=h;have D:dt (Int.ofNat b.toNat)=false:=by
   unfold dt;cases z:Nat.beq b.toNat 0 with
   |false=>exact z
   |true=>exact absurd (Mc.1 (Kc z)) A
  simp only[D];refine .mk (.u' ?_) B;rw[Y2,UInt64.toNat_div];show (Int.tdiv (Int.ofNat a.toNat) (Int.ofNat b.toNat))%_=Int.ofNat (a.toNat/b.toNat);have:Int.tdiv (Int.ofNat a.toNat) (Int.ofNat b.toNat)=Int.ofNat (a.toNat/b.toNat):=rfl;rw[this];exact L8 (Lj _) (by have:=Nat.div_le_self a.toNat b.toNat;simp only[Kq];omega)
 case rem =>
  obtain⟨A,B⟩:=h;have D:dt (Int.ofNat b.toNat)=false:=by
   unfold dt;cases z:Nat.beq b.toNat 0 with
   |false=>exact z
   |true=>exact absurd (Mc.1 (Kc z)) A
  simp only[D];exact .mk (.u' (by rw[UInt64.toNat_mod];rfl)) B
 case and =>
  refine .mk (.u' ?_) h;rw[Y2,UInt64.toNat_and];have:a.toNat &&& b.toNat<2^64:=Nat.and_lt_two_pow _ g;exact L8 (Lj _) Ea
 case or =>
  refine .mk (.u' ?_) h;rw[Y2,UInt64.toNat_or];have:a.toNat ||| b.toNat<2^64:=Nat.or_lt_two_pow j g
  exact L8 (Lj _) Dy
 case xor =>
  refine .mk (.u' ?_) h;rw[Y2,UInt64.toNat_xor];have:a.toNat ^^^ b.toNat<2^64:=Nat.xor_lt_two_pow j g;exact L8 (Lj _) (by show Int.ofNat (a.toNat ^^^ b.toNat)<_;simp only[Kq];omega)
 case andNot =>
  refine .mk (.u' ?_) h;have e:Nat.xor a.toNat (Nat.land a.toNat b.toNat)=(a &&& ~~~b).toNat:=by
   show a.toNat ^^^ (a.toNat &&& b.toNat)=_;rw[UInt64.toNat_and,UInt64.toNat_not];refine Nat.eq_of_testBit_eq λi=>?_
   rw[Nat.testBit_xor,Nat.testBit_and,Nat.testBit_and];have:(UInt64.size-1-b.toNat).testBit i=(decide (i<64) && !b.toNat.testBit i):=by
    have:=Nat.testBit_two_pow_sub_succ g i;rw[show UInt64.size-1-b.toNat=2^64-(b.toNat+1) from by show 18446744073709551616-1-b.toNat=_;omega,this]
   rw[this];by_cases hi:i<64
   ·simp[hi];cases a.toNat.testBit i<;>cases b.toNat.testBit i<;>rfl
   ·have:a.toNat.testBit i=false:=Nat.testBit_lt_two_pow (Kr j (Ls J J));simp[this]
  rw[e,Y2];exact L8 (Lj _) (by have:=(a &&& ~~~b).toNat_lt;simp only[Kq];omega)
 case shl=>exact .mk (.u' (td a b.toNat)) h
 case shr=>exact .mk (.u' (vh a b.toNat)) h
 case eql=>exact .mk (.bool' (by rw[jq,zje])) h
 case neq=>exact .mk (.bool' (by rw[jq,zje];simp)) h
 case lss=>exact .mk (.bool' (by rw[Vv,zey])) h
 case leq=>exact .mk (.bool' (by rw[Vv,wy,zqd])) h
 case gtr=>exact .mk (.bool' (by rw[Vv,zey])) h
 case geq=>exact .mk (.bool' (by rw[Vv,wy,zqd])) h
def yd{op:BinOp}{A:Bool}{t:TypeId}{a b:UInt8}(h:bbL op a b K):Sz c K (Qv C op A t (.int .u8 (Int.ofNat a.toNat)) (.int .u8 (Int.ofNat b.toNat))):=by
 have z:Yw .u8 .u8=true:=rfl;have j:=a.toNat_lt;have g:=b.toNat_lt;cases op<;>simp only[bbL,qi,mv,sk,orB_eq]at h<;>simp only[Qv,z,zoh,Zw,bm]
 case add=>exact .mk (.b' (by rw[ux,UInt8.toNat_add];rfl)) h
 case sub =>
  refine .mk (.b' ?_) h;rw[ux,UInt8.toNat_sub];show (Int.ofNat a.toNat-Int.ofNat b.toNat)%_=((2^8-b.toNat+a.toNat)%2^8:Nat);simp only[Kq];omega
 case and =>
  refine .mk (.b' ?_) h;rw[ux,UInt8.toNat_and];have:a.toNat &&& b.toNat<2^8:=Nat.and_lt_two_pow _ g;exact L8 (Lj _) Ea
 case or =>
  refine .mk (.b' ?_) h;rw[ux,UInt8.toNat_or];have:a.toNat ||| b.toNat<2^8:=Nat.or_lt_two_pow j g
  exact L8 (Lj _) Dy
 case eql=>exact .mk (.bool' (by rw[jq,zq9])) h
 case neq=>exact .mk (.bool' (by rw[jq,zq9];simp)) h
 case lss=>exact .mk (.bool' (by rw[Vv,zqe])) h
 case leq=>exact .mk (.bool' (by rw[Vv,wy,zqj])) h
 case gtr=>exact .mk (.bool' (by rw[Vv,zqe])) h
 case geq=>exact .mk (.bool' (by rw[Vv,wy,zqj])) h
def AR.i'{x n:Int}(h:n=x):AR c (.i x) (.int .i64 n):=by subst h;exact .i n
def zmg{b:Int}(h:b≠0):dt b=false:=by
 unfold dt;split
 ·rename_i n;cases g:Nat.beq n 0 with
  |false=>rfl
  |true=>exact absurd (by rw[Kc g];rfl) h
 ·rfl
def zj3{A:Bool}{t:TypeId}{a:Int}{k:IntKind}{s:Int}(g:0≤a)(j:0≤s)(z:s≤64) :
  Qv C .shl A t (.int .i64 a) (.int k s)=some (.int .i64 (V7 .i64 (a*2^s.toNat)))∧Qv C .shr A t (.int .i64 a) (.int k s)=some (.int .i64 (a/2^s.toNat)):=by
 obtain⟨x,rfl⟩:=J3 g;obtain⟨y,rfl⟩:=J3 j;have hm:Rv y (IntKind.bits .i64)=y:=by
  unfold Rv;rw[show Nat.ble y (IntKind.bits .i64)=true from Ka (by simp only[IntKind.bits];omega)]
 constructor
 ·show some (AV.int .i64 (V7 .i64 (.ofNat (Nat.mul x (Nat.pow 2 (Rv y (IntKind.bits .i64)))))))=_;rw[hm]
  congr 3
 ·show some (AV.int .i64 (.ofNat (Nat.div x (Nat.pow 2 (Rv y (IntKind.bits .i64))))))=_;rw[hm]
  congr 2
def iiL_ok{op:BinOp}{H:Bool}{t:TypeId}{a b:Int}(h:Wv op a b K):Sz c K (Qv C op H t (.int .i64 a) (.int .i64 b)):=by
 have G:Yw .i64 .i64=true:=rfl;cases op<;>simp only[Wv]at h
 case shl =>
  obtain⟨g,A,j,B,z⟩:=h;rw[(zj3 g A j).1,Yz B];exact .mk (.i _) z
 case shr =>
  obtain⟨g,A,j,z⟩:=h;rw[(zj3 g A j).2];exact .mk (.i _) z
 all_goals simp only[Qv,G,zoh]
 case and =>
  obtain⟨g,A,j,B,z⟩:=h;obtain⟨x,rfl⟩:=J3 g;obtain⟨y,rfl⟩:=J3 j;have D:Nat.blt x (V2 .i64)=true:=by unfold Nat.blt;exact Ka He
  have E:Nat.blt y (V2 .i64)=true:=by unfold Nat.blt;exact Ka Hd
  have F:x &&& y<2^63:=Nat.and_lt_two_pow _ J;show Sz c K (Zw Nat.land .i64 (.ofNat x) (.ofNat y));simp only[Zw,D,E];exact .mk (.i' (Yz ⟨Cl,Hc⟩)) z
 case or =>
  obtain⟨g,A,j,B,z⟩:=h;obtain⟨x,rfl⟩:=J3 g;obtain⟨y,rfl⟩:=J3 j;have D:Nat.blt x (V2 .i64)=true:=by unfold Nat.blt;exact Ka He
  have E:Nat.blt y (V2 .i64)=true:=by unfold Nat.blt;exact Ka Hd
  have F:x ||| y<2^63:=Nat.or_lt_two_pow J J
  show Sz c K (Zw Nat.lor .i64 (.ofNat x) (.ofNat y));simp only[Zw,D,E];exact .mk (.i' (Yz ⟨Cl,Hc⟩)) z
 case add=>exact .mk (.i' (Yz h.1)) h.2
 case sub=>exact .mk (.i' (Yz h.1)) h.2
 case mul=>exact .mk (.i' (Yz h.1)) h.2
 case quo=>rw[zmg h.1];exact .mk (.i' (Yz h.2.1)) h.2.2
 case rem=>rw[zmg h.1];exact .mk (.i _) h.2
 case eql=>exact .mk (.bool' (by rw[jq])) h
 case neq=>exact .mk (.bool' (by rw[jq];simp)) h
 case lss=>exact .mk (.bool' (by rw[Vv])) h
 case leq=>exact .mk (.bool' (by rw[Vv,wy])) h
 case gtr=>exact .mk (.bool' (by rw[Vv])) h
 case geq=>exact .mk (.bool' (by rw[Vv,wy])) h
def zd{op:BinOp}{j:Bool}{t:TypeId}{k:IntKind}{a b:Int}(h:kkL op a b K):Sz c K (Qv C op j t (.int k a) (.int k b)):=by
 have g:Yw k k=true:=by cases k<;>rfl
 cases op<;>simp only[kkL]at h<;>simp only[Qv,g,zoh]
 case eql=>exact .mk (.bool' (by rw[jq])) h
 case neq=>exact .mk (.bool' (by rw[jq];simp)) h
 case lss=>exact .mk (.bool' (by rw[Vv])) h
 case leq=>exact .mk (.bool' (by rw[Vv,wy])) h
 case gtr=>exact .mk (.bool' (by rw[Vv])) h
 case geq=>exact .mk (.bool' (by rw[Vv,wy])) h
def zwq(a b:List UInt8):(Nat.beq a.length b.length&&Nat.beq (Qe a) (Qe b))=decide (a=b):=by
 rw[Li];simp only[Jz,Kb];constructor
 ·rintro⟨g,j⟩;exact packL_inj (Kc g) (Kc j)
 ·intro h;subst h;simp
def AR.str'{l:List UInt8}{n m:Nat}(h1:n=l.length)(h2:m=Qe l):AR c (.str l) (.str n m):=by subst h1 h2;exact .str l
def xl{op:BinOp}{j:Bool}{t:TypeId}{a b:List UInt8}(h:ssL op a b K):Sz c K (Qv C op j t (.str a.length (Qe a)) (.str b.length (Qe b))):=by
 cases op<;>simp only[ssL]at h<;>simp only[Qv,zs7]
 case add =>
  have g:Nat.ble (Nat.add a.length b.length) Ry=true:=Ka h.1;simp only[g];refine .mk (.str' N ?_) h.2;rw[packL_append];rfl
 case eql=>exact .mk (.bool' (zwq a b)) h
 case neq=>exact .mk (.bool' (by rw[zwq];simp)) h
def zog{op:BinOp}{g:Bool}{t:TypeId}{a b:AV}{r:Bool}(j:Qv C op g t a b=match op with | .eql=>yesB (Tg C g t a b) | .neq=>zb (Tg C g t a b)|_=>none)(h:Za C op g t a b r K):Sz c K (Qv C op g t a b):=by
 rw[j];cases op<;>simp only[Za]at h
 case eql=>rw[h.1];exact .mk (.bool _) h.2
 case neq=>rw[h.1];exact .mk (.bool _) h.2
end
section
noncomputable def ρA(g:Tr AV):e9:=λt=>On (O1 t) g
def zow(g:Tr AV):Wa g (ρA g):=λ_ _=>rfl
def P5{c:Cx}{j:Om}(g:Pt c j O){x:Lx}(h:x.ok=true):AR c (x.ev j) (x.r.ev (ρA O)):=by
 cases x with
 |t i=>exact g i
 |c v=>exact co c h
def zra{c:Cx}{j:Om}{z:Tr AV}(g:Pt c j z):∀{l:List Lx},l.all Lx.ok=true→ARs c (l.map (·.ev j)) ((mf l).map (·.ev (ρA z)))
 |[],_=>.nil
 |x::l,h=>by
  simp only[Mf,Jz]at h;exact .cons (P5 g h.1) (zra g h.2)
def ko:Option Lx→Bool
 |none=>true
 |some x=>x.ok
def LOp.ok:LOp→Bool
 |.move x=>x.ok
 |.pick c a b=>c.ok&&a.ok&&b.ok
 |.alloc l=>l.all LV.scal
 |.box x=>x.ok
 |.build cs ps=>cs.all LV.scal&&ps.all (·.2.2.ok)
 |.buildSl _ _ cs ps=>cs.all LV.scal&&ps.all (·.2.2.ok)
 |.load1 x=>x.ok
 |.loadN _ x=>x.ok
 |.store _ x y=>x.ok&&y.ok
 |.nilChk x=>x.ok
 |.bin _ _ _ x y=>x.ok&&y.ok
 |.un _ x=>x.ok
 |.cvInt _ x=>x.ok
 |.cvStr x=>x.ok
 |.cvSame x=>x.ok
 |.cvBytes x=>x.ok
 |.mkFunc _ a b=>a.all Lx.ok&&b.all Lx.ok
 |.mkSl _ z l c=>z.all LV.scal&&l.ok&&c.ok
 |.slStr x lo hi=>x.ok&&ko lo&&ko hi
 |.slSl _ x lo hi=>x.ok&&ko lo&&ko hi
 |.slSl3 _ x lo hi mx=>x.ok&&ko lo&&ko hi&&mx.ok
 |.fieldAddr _ x=>x.ok
 |.field _ _ _ x=>x.ok
 |.ixAddr _ x i=>x.ok&&i.ok
 |.ixStr x i=>x.ok&&i.ok
 |.extract _ x=>x.ok
 |.lenStr x=>x.ok
 |.lenSl x=>x.ok
 |.maxi _ x y=>x.ok&&y.ok
 |.max3 _ x y z=>x.ok&&y.ok&&z.ok
 |.ixAddrArr _ _ x i=>x.ok&&i.ok
 |.ixArr _ _ _ x i=>x.ok&&i.ok
 |.lenArr _ x=>x.ok
 |.appZ _ z s x=>z.all LV.scal&&s.ok&&x.ok
 |.appG _ s x=>s.ok&&x.ok
 |.copy _ d x=>d.ok&&x.ok
 |.clear _ z x=>z.all LV.scal&&x.ok
 |.mkMap0=>true
 |.mkMap1 x=>x.ok
 |.lookup _ z _ x i=>z.cst&&x.ok&&i.ok
 |.mapUpd _ m k v=>m.ok&&k.ok&&v.ok
 |.lenMap x=>x.ok
 |.slArr _ _ x lo hi=>x.ok&&ko lo&&ko hi
 |.callV f args=>f.ok&&args.all Lx.ok
def Tf(P:Program)(c:Cx)(G:Ok)(K:LV→Ok→Prop):OR→Prop
 |.no=>False
 |.val B C=>∃z v A,z.H=C∧HSim z A∧Step c G z A∧AR z v B∧K v A
 |.call D j=>∃t g,TgtR c t D∧ARs c g j∧Sw P t g G K
section res
variable {P : Program} {c : Cx} {G : Ok} {K : LV → Ok → Prop}
def Tf.same(hs:HSim c G){v:LV}{a:AV}(h:AR c v a)(k:K v G):Tf P c G K (.val a c.H):=⟨c,v,G,rfl,hs,.refl c G,h,k⟩
def Tf.ret(hs:HSim c G){r:Option AV}(h:Sz c (λv=>K v G) r):Tf P c G K (ret1 c.H r):=by
 obtain⟨v,a,rfl,h1,h2⟩:=h;exact .same hs h1 h2
def zbw(c:Cx)(g:List AV) :
  ∃H',newObj c.H g=some (c.H.next,H')∧H'.next=c.H.next+1∧(∀o,o<c.H.next→H'.get o=c.H.get o)∧H'.get c.H.next=some (.cells (Su g 0 .e) g.length 0 false) :=
 ⟨_,rfl,rfl,λ_ j=>Heap.get_push_ne _ _ j,Heap.get_push_same _ _⟩
def zie(g:HSim c G){l:List LV}(h:ARs c l R)(k:K (.ptr G.length 0) (G++[.cells l 0])):Tf P c G K (X7 c.H R):=by
 obtain⟨z,C,H,A,D⟩:=zbw c R;unfold X7;rw[C];have j:CxLe c ⟨c.hd++[(0,.ptr c.H.next 0 0)],c.Fz,z⟩:=⟨λp k x e=>⟨k,x,Ey,J4 _,λ_=>rfl,λ_=>rfl⟩,λo B=>⟨B,A o (g.fz o B)⟩⟩;obtain⟨E,F,_⟩:=g.push (H':=z) (x:=.ptr c.H.next 0 0) (ob:=.cells l 0) J A (λo e=>by cases e;omega)
  ⟨rfl,c.H.next,_,R,rfl,by rw[h.length];exact D,by rw[h.length];exact z53 R,h.mono j⟩
 exact⟨_,.ptr G.length 0,_,rfl,E,F,.ptr (by rw[←g.len];exact Ke),k⟩
def n9(j:HSim c G){l:List LV}{len esz:Nat}{room:Option Nat}(h:ARs c l R)(A:l.length=len*esz)(D:∀r,room=some r→r=len)(k:K (.dy G.length 0) (G++[.dyn l len esz 0 0])) :
  Tf P c G K (match newObj c.H R with
   |some (o,H')=>.val (.sl o 0 0 len esz room) H'
   |none=>.no):=by
 obtain⟨H',E,L,B,F⟩:=zbw c R;rw[E];have z:CxLe c ⟨c.hd++[(0,.sl c.H.next 0 0 len esz room)],c.Fz,H'⟩:=⟨λp k x e=>⟨k,x,Ey,J4 _,λ_=>rfl,λ_=>rfl⟩,λo C=>⟨C,B o (j.fz o C)⟩⟩;have g:R.length=len*esz:=by rw[←h.length];exact A
 obtain⟨H,I,_⟩:=j.push (H':=H') (x:=.sl c.H.next 0 0 len esz room) (ob:=.dyn l len esz 0 0) J B (λo e=>by cases e;omega)
  ⟨rfl,A,.inr ⟨c.H.next,0,room,_,R.length,R,rfl,F,J,by rw[←g];exact z53 R,h.mono z,λr e=>by rw[D r e];exact⟨g,J4 _⟩,λ_=>g⟩⟩
 exact⟨_,.dy G.length 0,_,rfl,H,I,.dy (h:=.sl c.H.next 0 0 len esz room) (by rw[←j.len];exact Ke) (J4 _) (λ_=>rfl) rfl,k⟩
def zkf(j:HSim c G){p o st:Nat}{l:List LV}(z:G[p]?=some (.cells l st))(e:c.hd[p]?=some (0,.ptr o 0 0)) :
  ∃t g,c.H.get o=some (.cells t l.length 0 false)∧Tv t 0 l.length=some g∧ARs c l g:=by
 obtain⟨_,D,t,g,he,A,B,C⟩:=j.obj p _ _ _ z e;injection he with he
 subst he;exact⟨t,g,A,B,C⟩
def ai(E:HSim c G){p k o v len esz st:Nat}{room:Option Nat}{l:List LV}(F:G[p]?=some (.dyn l len esz A st))(e:c.hd[p]?=some (k,.sl o v 0 g j room)) :
  k=A∧l.length=len*esz∧g=len∧j=esz∧∃t z B,c.H.get o=some (.cells t z v false)∧len*esz≤z∧Tv t 0 (len*esz)=some B∧ARs c l B ∧
   (∀r,room=some r→z=r*esz∧len≤r)∧(room=none→z=len*esz):=by
 obtain⟨H,I,C⟩:=E.obj p _ _ _ F e;rcases C with ⟨C,_⟩|⟨Z,v',D,t,z,B,he,L,M,O,Q,r7,R⟩
 ·cases C
 ·injection he with T U e3 V X Y
  subst T U V X Y;exact⟨H,I,rfl,rfl,t,z,B,L,M,O,Q,r7,R⟩
def zjc(B:HSim c G){x:LV}{a:AV}{n:Nat}{K:List LV→Prop}(C:AR c x a)(h:Xl G x n K):∃o v i j l,a=.ptr o v i∧Sd c.H o v i n=some j∧ARs c l j∧K l:=by
 unfold Xl at h;split at h
 ·rename_i p i;split at h
  ·rename_i l st z;obtain⟨A,g⟩:=h;cases C with
   | @ptr _ _ o e =>
    obtain⟨t,j,O,D,E⟩:=zkf B z e;exact⟨o,0,i,_,_,rfl,W1 O D (J4 _) A,(E.drop i).take n,g⟩
  ·exact h.elim
 ·rename_i p k i;split at h
  ·rename_i l len Q R st z;obtain⟨T,A,g⟩:=h;cases C with
   | @dptr _ _ _ k' o v gg hh e hk U =>
    have V:=(B.obj p _ _ _ z e).1;obtain⟨X,I,L,F,H⟩:=U J;subst H X;obtain⟨_,r1,_,_,t,M,j,D,E,Y,Z,_⟩:=ai B z e;exact⟨o,v,gg,_,_,rfl,W1 D Y E J,(Z.drop gg).take n,g⟩
  ·exact h.elim
 ·rename_i l i;obtain⟨A,g⟩:=h;cases C with
  |cptr hf hr hl=>exact⟨_,_,_,_,_,rfl,zih hr A,(hl.drop i).take n,g⟩
 ·exact h.elim
def zpc(B:HSim c G){x:LV}{a:AV}{K:LV→Prop}(C:AR c x a)(h:Yv G x K):∃o v i w b,a=.ptr o v i∧Sd c.H o v i 1=some [b]∧AR c w b∧K w:=by
 have g:∀{l:List LV} {i:Nat} {v:LV},l[i]?=some v→i+1≤l.length∧(l.drop i).take 1=[v]:=λ{l i v} e=>by
  obtain⟨j,z⟩:=Jx.1 e;refine⟨j,?_⟩;rw[Lh j,z];simp
 have A:Xl G x 1 (λl=>∃v,l=[v]∧K v):=by
  unfold Yv at h;unfold Xl;split at h
  ·split at h
   ·obtain⟨v,j,z⟩:=h;exact⟨(g j).1,v,(g j).2,z⟩
   ·exact h.elim
  ·split at h
   ·obtain⟨D,v,j,z⟩:=h;exact⟨D,(g j).1,v,(g j).2,z⟩
   ·exact h.elim
  ·obtain⟨v,j,z⟩:=h;exact⟨(g j).1,v,(g j).2,z⟩
  ·exact h.elim
 obtain⟨o,v,i,M,l,E,F,H,w,rfl,I⟩:=zjc B C A;cases H with
 |cons e L=>cases L;exact⟨o,v,i,w,_,E,F,e,I⟩
def zi6{o v i:Nat}{t:Tr AV}{l r:List AV}(z:D.get o=some (.cells t j v false))(_:Tv t 0 g=some l)(C:g≤j)(A:i+r.length≤g) :
  Wx D o v i r=some (D.put o (.cells (Su r i t) j v false)):=by
 unfold Wx;rw[z];have B:Nat.ble (Nat.add i r.length) j=true:=Ka (by show i+r.length≤j;omega);simp only[K0,B]
def zrb{g:Type}:∀{l:List g} {p:Nat} {a:g},l[p]?=some a→l.set p a=l
 |[],_,_,h=>Bu
 |x::l,0,a,h=>by simp at h;subst h;rfl
 |x::l,p+1,a,h=>by simp at h;simp[zrb h]
def z9s(C:HSim c G){x:LV}{a:AV}{l:List LV}{K:Ok→Prop}(hx:AR c x a)(O:ARs c l R)(h:Wn G x l K) :
  ∃o v i H' Q T,a=.ptr o v i∧Wx c.H o v i R=some H'∧Q.H=H'∧HSim Q T∧Step c G Q T∧K T:=by
 have gG:=O.length;unfold Wn at h;split at h
 ·rename_i p i;split at h
  ·rename_i H st g;obtain⟨I,U⟩:=h;cases hx with
   | @ptr _ _ o e =>
    obtain⟨t,D,r2,L,M⟩:=zkf C g e;have hw:=zi6 (i:=i) (r:=R) r2 L (J4 _) J;obtain⟨V,X,_⟩:=C.upd (k':=0) (x':=.ptr o 0 0) (ob':=.cells (Po H i l) (st+1)) (H':=c.H.put o (.cells (Su R i t) H.length 0 false)) g rfl e (J4 _)
     (λY _ E=>Heap.get_put_ne _ _ (λq=>E Ga)) (λY Z=>by cases Z;exact⟨.inl rfl,C.lt o ⟨p,_,_,_,g,rfl,e,rfl⟩⟩) (J4 _) (λ_=>rfl) (λ_=>rfl) (.inl (K7 _))
     (λF=>⟨rfl,o,_,eq D i R,rfl,by rw[z9l I];exact Heap.get_put_same _ _ _,by rw[z9l I];exact zdz L J,(M.lay O i).mono F⟩)
    exact⟨o,0,i,_,_,_,rfl,hw,rfl,V,X,U⟩
  ·exact h.elim
 ·rename_i p k i;split at h
  ·rename_i H len gH gg st g;obtain⟨gI,I,U⟩:=h;cases hx with
   | @dptr _ _ _ k' o v gF hh e hk ha =>
    have gK:=(C.obj p _ _ _ g e).1;obtain⟨hj,j,z,A,gA⟩:=ha J;subst gA hj;obtain⟨gB,r1,gC,gD,t,B,D,L,M,r5,r6,r7,r8⟩:=ai C g e;subst gC gD;have hw:=zi6 (i:=gF) (r:=R) L r5 M J;obtain⟨V,X,_⟩:=C.upd (k':=k') (x':=.sl o v 0 j z A) (ob':=.dyn (Po H gF l) j z gg (st+1)) (H':=c.H.put o (.cells (Su R gF t) B v false)) g rfl e (J4 _)
     (λY _ E=>Heap.get_put_ne _ _ (λq=>E Ga)) (λY Z=>by cases Z;exact⟨.inl rfl,C.lt _ ⟨p,_,_,_,g,rfl,e,rfl⟩⟩) (J4 _) (λ_=>rfl) (λ_=>rfl) (.inl (K7 _))
     (λF=>⟨gB,by rw[z9l I];exact r1,.inr ⟨o,v,A,_,B,eq D gF R,rfl,Heap.get_put_same _ _ _,M,zdz r5 J,(r6.lay O gF).mono F,r7,r8⟩⟩)
    exact⟨o,v,gF,_,_,_,rfl,hw,rfl,V,X,U⟩
  ·exact h.elim
 ·exact h.elim
def lw(I:HSim c G){x:LV}{a:AV}{K:Nat→Prop}(A:AR c x a)(h:lenL G x K):∃n,K n∧(a=.nilSl∧n=0∨a=.emp∧n=0∨∃o v i esz room,a=.sl o v i n esz room):=by
 unfold lenL at h;split at h
 ·cases A;exact⟨0,h,.inl ⟨rfl,rfl⟩⟩
 ·rename_i p k;split at h
  ·rename_i l len esz C st D;obtain⟨E,h⟩:=h;cases A with
   | @dy _ _ R T _ e U F _ =>
    obtain⟨V,X,g⟩:=I.obj p _ _ _ D e;have j:=F J;rcases g with ⟨g,B⟩|⟨o,v,room,t,L,Y,g,_⟩
    ·exact⟨len,h,.inl ⟨j.trans g,B⟩⟩
    ·exact⟨len,h,.inr (.inr ⟨_,_,_,_,_,j.trans g⟩)⟩
  ·exact h.elim
 ·rename_i p k Z len;split at h
  ·rename_i l M esz C st D;obtain⟨E,h⟩:=h;cases A with
   | @vw _ _ _ _ R T _ e U F _ _ =>
    obtain⟨V,X,g⟩:=I.obj p _ _ _ D e;rcases F J with ⟨B,z|z⟩|⟨o,v,O,Q,room,H,_,z,_⟩
    ·exact⟨len,h,.inl ⟨z,B⟩⟩
    ·exact⟨len,h,.inr (.inl ⟨z.1,B⟩)⟩
    ·exact⟨len,h,.inr (.inr ⟨_,_,_,_,_,z⟩)⟩
  ·exact h.elim
 ·cases A with
  |lst=>exact⟨_,h,.inr (.inr ⟨_,_,_,_,_,rfl⟩)⟩
  |lstNil=>exact⟨0,h,.inl ⟨rfl,rfl⟩⟩
  |lstEmp=>exact⟨0,h,.inr (.inl ⟨rfl,rfl⟩)⟩
 ·exact h.elim
def zmp(l:List UInt8)(c:Cx):ARs c (l.map LV.b) ((W8 l.length (Qe l)).map λ(b:Nat)=>AV.int .u8 (Int.ofNat b)):=by
 rw[unpack_pack]
 induction l with
 |nil=>exact .nil
 |cons b l g=>exact .cons (.b b) g
def zty(R:HSim c G){x:LV}{a:AV}{K:Nat→List LV→Prop}(D:AR c x a)(h:Ur G g x K):∃n l C,gq c.H g a=some (n,C)∧ARs c l C∧l.length=n*g∧K n l:=by
 have A:Nat.beq g g=true:=K0 _;unfold Ur at h;split at h
 ·cases D;exact⟨0,[],[],rfl,.nil,N,h⟩
 ·rename_i p k;split at h
  ·rename_i l len z T st Q;obtain⟨U,rfl,h⟩:=h;cases D with
   | @dy _ _ k' hh _ e hk V _ =>
    obtain⟨r0,X,E⟩:=R.obj p _ _ _ Q e;have F:=V J;rcases E with ⟨E,B⟩|⟨o,v,H,t,I,C,E,B,L,r5,r6,_⟩
    ·subst B;have:l=[]:=Kk (by simpa using X);subst this;exact⟨0,[],[],by rw[F,E];rfl,.nil,N,h⟩
    ·refine⟨len,l,C,?_,r6,X,h⟩;have M:=W1 (i:=0) (n:=len*z) B r5 L J;have Y:C.length=len*z:=by rw[←r6.length];exact X
     rw[F,E];simp only[gq,A];rw[show Nat.mul len z=len*z from rfl,M];simp[Kf,Y]
  ·exact h.elim
 ·rename_i p k lo len;split at h
  ·rename_i l gg z T st Q;obtain⟨U,rfl,h1,h⟩:=h;cases D with
   | @vw _ _ _ _ k' hh _ e hk V _ _ =>
    have gB:=(R.obj p _ _ _ Q e).1;rcases V J with ⟨B,L⟩|⟨o,v,gA,j,H,Z,B,L,_⟩
    ·subst B;refine⟨0,_,[],?_,by simpa using (ARs.nil (c:=c)),N,h⟩;rcases L with rfl|⟨rfl,_⟩<;>rfl
    ·subst B;obtain⟨_,q1,q2,q3,t,I,C,q4,q5,q6,q7,_⟩:=ai R Q e;subst q2 q3;have M:=W1 (i:=lo*j) (n:=len*j) q4 q6 q5 J;refine⟨len,_,_,?_,(q7.drop (lo*j)).take (len*j),Ab,h⟩;rw[L];simp only[gq,A];rw[show Nat.mul len j=len*j from rfl,M]
  ·exact h.elim
 ·rename_i l len z;obtain⟨rfl,h⟩:=h;cases D with
  |lst hf gC O M hl =>
   refine⟨len,l,_,?_,hl,O,h⟩;simp only[gq,A];rw[show Nat.mul len z=len*z from rfl,M]
  |lstNil=>exact⟨0,[],[],rfl,.nil,N,h⟩
  |lstEmp=>exact⟨0,[],[],rfl,.nil,N,h⟩
 ·rename_i l;obtain⟨rfl,h⟩:=h;cases D;refine⟨l.length,_,_,?_,zmp l c,N,h⟩;simp[gq]
 ·exact h.elim
end res
end
section
section res
variable {P : Program} {c : Cx} {G : Ok} {K : LV → Ok → Prop}
def zs8(j:HSim c G)(k:K (.dy G.length 0) (G++[.dyn [] 0 g 0 0])):Tf P c G K (.val .nilSl c.H):=by
 obtain⟨z,A,_⟩:=j.push (H':=c.H) (x:=.nilSl) (ob:=.dyn [] 0 g 0 0) (J4 _) (λ_ _=>rfl) (λo e=>An) ⟨rfl,N,.inl ⟨rfl,rfl⟩⟩;exact⟨⟨c.hd++[(0,.nilSl)],c.Fz,c.H⟩,.dy G.length 0,_,rfl,z,A,.dy (h:=.nilSl) (by rw[←j.len];exact Ke) (J4 _) (λ_=>rfl) rfl,k⟩
def zpp(hs:HSim c G){p k:Nat}{a:AV}{n:Nat}(ha:AR c (.dy p k) a)(hn:ARs c F R)(hl:F.length=n*g)(h:Rh G g (.dy p k) n F K):Tf P c G K (Xh c.H g a n R):=by
 have Q:=hn.length;unfold Rh at h;dsimp only at h;split at h
 ·rename_i l len j Z st hg;obtain⟨jC,⟨rfl,gD⟩,gF,h⟩:=h;have gT:p<c.hd.length:=by rw[hs.len];exact (Jx.1 hg).1
  cases ha with
  | @dy _ _ k' X _ e hk gU gV =>
   obtain⟨r0,r1,A⟩:=hs.obj p _ _ _ hg e;have gg:=gU J;have E:∀{H':Heap} {x':AV},c.H.next≤H'.next→(∀o,o<c.H.next→Pg X≠some o→H'.get o=c.H.get o)→(∀o,Pg x'=some o→(Pg X=some o∨c.H.next≤o)∧o<H'.next)→ql x'=true→Y3 X=false →
     (CxLe c ⟨c.hd.set p (k'+1,x'),c.Fz,H'⟩→tr ⟨c.hd.set p (k'+1,x'),c.Fz,H'⟩ (k'+1) x' (.dyn (l++F) (len+n) j (Z+1) (st+1)))→Tf P c G K (.val x' H'):=by
    intro H' x' h1 h2 h3 h4 h5 h6;obtain⟨q1,q2,_⟩:=hs.upd (k':=k'+1) (x':=x') (ob':=.dyn (l++F) (len+n) j (Z+1) (st+1)) (H':=H') hg rfl e h1 h2 h3 (Of _) (λq=>J) (λq=>by rw[h5]at q;cases q) (.inl (K7 _)) h6;exact⟨_,.dy p (Z+1),_,rfl,q1,q2,.dy (k':=k'+1) (h:=x') (by dsimp only;rw[J1 gT]) J (λ_=>rfl) h4,h⟩
   have C:(l++F).length=(len+n)*j:=by rw[J7,r1,hl,Ku]
   unfold Xh;cases hb:Nat.beq n 0 with
   |true =>
    have gG:=Kc hb;subst gG;have gH:F=[]:=Kk (by simpa using hl);subst gH;have gI:Y3 X=false:=by
     rcases A with ⟨A,_⟩|⟨o,v,D,t,z,H,A,_⟩<;>rw[A]<;>rfl
    have gX:ql X=true:=by rw[←gg];exact gV
    have T:Tf P c G K (.val X c.H):=by
     refine E (J4 _) (λ_ _ _=>rfl) (λo O=>⟨.inl O,hs.lt o ⟨p,_,_,_,hg,rfl,e,O⟩⟩) gX gI (λB=>⟨J,C,?_⟩);simp only[Lf,M8];rcases A with ⟨A,I⟩|⟨o,v,D,t,z,H,A,I,r4,r5,r6,r7,r8⟩
     ·exact .inl ⟨A,I⟩
     ·exact .inr ⟨o,v,D,t,z,H,A,I,r4,r5,r6.mono B,r7,r8⟩
    rw[gg];rcases A with ⟨A,I⟩|⟨o,v,D,t,z,H,A,I,r4,r5,r6,r7,r8⟩
    ·rw[A]at T ⊢;exact T
    ·rw[A]at T ⊢;exact T
   |false =>
    have gG:n≠0:=λq=>by rw[q]at hb;cases hb
    rw[gg];rcases A with ⟨A,I⟩|⟨o,v,D,t,z,H,A,I,r4,r5,r6,r7,r8⟩
    ·
     subst I;have gA:l=[]:=Kk Ds;subst gA;rw[A];dsimp only[Z6];obtain⟨H',h1,h2,h3,h4⟩:=zbw c R;rw[h1];dsimp only;refine E J (λo ho _=>h3 o ho) (λo O=>by cases O;exact⟨.inr (J4 _),J⟩) rfl (by rw[A];rfl) (λB=>⟨J,C,.inr ⟨c.H.next,0,none,_,R.length,R,?_,h4,?_,?_,hn.mono B,λr q=>Gn,λ_=>?_⟩⟩)
     ·simp
     ·rw[Kw];omega
     ·rw[Kw,←hl,Q];exact z53 R
     ·rw[Kw];omega
    ·have gK:o<c.H.next:=hs.lt o ⟨p,_,_,_,hg,rfl,e,by rw[A];rfl⟩;have gY:H.length=len*j:=Dk
     rw[A];have gZ:(Nat.beq j j&&Nat.ble len Ry)=true:=by rw[K0,show Nat.ble len Ry=true from Ka gF];rfl
     dsimp only;rw[gZ];dsimp only;have U:Pg X=some o:=by rw[A];rfl
     have gB:Y3 X=false:=by rw[A];rfl
     have Y:Tv (Su R (len*j) t) 0 ((len+n)*j)=some (H++R):=by
      have:=zn7 (r:=R) r5
      rwa [show len*j+R.length=(len+n)*j from by rw[←Q,hl,Ku]]at this
     cases D with
     |some r =>
      obtain⟨V,jE⟩:=r7 r rfl;dsimp only;cases gL:Nat.ble (Nat.add len n) r with
      |true =>
       have L:len+n≤r:=Kd gL;have hm:(len+n)*j≤r*j:=Ki _ L;have gM:(len+n)*j=len*j+n*j:=Ku _ _ _;have hw:Wx c.H o v (Nat.add 0 (Nat.mul len j)) R=some (c.H.put o (.cells (Su R (len*j) t) z v false)):=by
        unfold Wx;rw[I];have e1:Nat.add 0 (Nat.mul len j)=len*j:=Kw _;have gO:Nat.ble (Nat.add (len*j) R.length) z=true:=Ka (by show len*j+R.length≤z;omega);rw[e1];simp only[K0,gO]
       dsimp only;rw[hw];dsimp only;refine E (by exact J4 _) (λo' _ gC=>Heap.get_put_ne _ _ (λq=>gC (by rw[q];exact U))) (λo' O=>by cases O;exact⟨.inl U,gK⟩) rfl gB (λB=>⟨J,C,.inr ⟨o,v,some r,_,z,_,rfl,Heap.get_put_same _ _ _,J,Y,(r6.append hn).mono B,λr' q=>by cases q;exact⟨V,L⟩,λq=>Gn⟩⟩)
      |false =>
       have hr:=W1 (i:=0) (n:=len*j) I r5 r4 J;dsimp only;rw[show Nat.mul len j=len*j from rfl,hr];dsimp only[Z6];obtain⟨H',h1,h2,h3,h4⟩:=zbw c ((H.drop 0).take (len*j)++R);rw[h1];dsimp only;have jg:(H.drop 0).take (len*j)=H:=by rw[Mg,Kf J]
       rw[jg]at h4;have M:(H++R).length=(len+n)*j:=by rw[J7,gY,←Q,hl,Ku]
       refine E J (λo' jz _=>h3 o' jz) (λo' O=>by cases O;exact⟨.inr (J4 _),J⟩) rfl gB (λB=>⟨J,C,.inr ⟨c.H.next,0,none,_,_,H++R,rfl,h4,J,?_,(r6.append hn).mono B,λr' q=>Gn,λ_=>M⟩⟩);rw[←M];exact z53 _
     |none =>
      have V:=r8 rfl;dsimp only;rw[I];dsimp only;have gM:(len+n)*j=len*j+n*j:=Ku _ _ _;have jA:0<n*j:=Nat.mul_pos J gD;have jB:Nat.ble (Nat.add 0 (Nat.mul (Nat.add len n) j)) z=false:=by
       cases hq:Nat.ble (Nat.add 0 (Nat.mul (Nat.add len n) j)) z with
       |false=>rfl
       |true =>
        have:0+(len+n)*j≤z:=Kd hq;omega
      have gR:Nat.beq (Nat.mul len j) z=true:=by rw[V];exact K0 _
      rw[K0,jB,gR,V];dsimp only;have M:Nat.add (len*j) R.length=(len+n)*j:=by show len*j+R.length=_;rw[←Q,hl,gM]
      refine E (by exact J4 _) (λo' _ gC=>Heap.get_put_ne _ _ (λq=>gC (by rw[q];exact U))) (λo' O=>by cases O;exact⟨.inl U,gK⟩) rfl gB (λB=>⟨J,C,.inr ⟨o,v+1,none,_,_,_,rfl,Heap.get_put_same _ _ _,by rw[M];exact J4 _,Y,(r6.append hn).mono B,λr' q=>Gn,λ_=>M⟩⟩)
 ·exact h.elim
def zv1(B:HSim c G){s:LV}{a:AV}{n:Nat}(ha:AR c s a)(T:ARs c F R)(U:F.length=n*g)(h:Rh G g s n F K):Tf P c G K (Xh c.H g a n R):=by
 have gV:=T.length;unfold Rh at h;split at h
 ·
  cases ha;unfold Xh;cases X:Nat.beq n 0 with
  |true =>
   have:=Kc X;subst this;have:F=[]:=Kk (by simpa using U);subst this;exact zs8 B h
  |false =>
   dsimp only[Z6];exact n9 B T U (λr e=>An) h
 ·rename_i p k;exact zpp B ha T U (by unfold Rh;exact h)
 ·rename_i p k lo len;split at h
  ·rename_i l gG Y gO st V;obtain⟨gB,⟨rfl,rfl,gR⟩,C,h⟩:=h;have H:Nat.beq n 0=false:=by
    cases X:Nat.beq n 0 with
    |false=>rfl
    |true=>have:=Kc X;omega
   cases ha with
   | @vw _ _ _ _ k' hh _ e hk Z gH hz =>
    split at h
    case isFalse gg =>
     obtain⟨gC,gI,h1,h2⟩:=h;subst gC;have gK:=(B.obj p _ _ _ V e).1;have M:=hz J rfl;rcases Z J with ⟨I,L⟩|⟨o,v,z,j,D,A,I,L,r9⟩
     ·subst I;rcases L with rfl|⟨_,r5⟩
      ·have gC:l=[]:=Kk (by have:=(B.obj p _ _ _ V e).2.1;simpa using this);subst gC;unfold Xh;rw[H];dsimp only[Z6];refine n9 B T U (λr e=>An) ?_;simpa using h2
      ·exact absurd rfl r5
     ·have e2:=e;rw[I]at e2;obtain⟨_,w1,w2,w3,t,E,l',w4,w5,w6,w7,_⟩:=ai B V e2;subst w2 w3;rw[I,L]at M;dsimp only[Zn]at M;by_cases gL:A=D
      ·refine zpp B (p:=p) (k:=k) (.dy e hk (λ_=>by rw[L,I,gL,Mn]) gH) T U ?_;unfold Rh;dsimp only;rw[V];exact⟨gB,⟨rfl,gI⟩,C,h1⟩
      ·rcases M with M|⟨r,rfl,hr⟩
       ·exact absurd M gL
       have O:(Nat.beq j j&&Nat.ble z Ry)=true:=by rw[K0,show Nat.ble z Ry=true from Ka C];rfl
       have gD:Nat.ble (Nat.add z n) r=false:=by
        cases hq:Nat.ble (Nat.add z n) r with
        |false=>rfl
        |true=>have:z+n≤r:=Kd hq;omega
       rw[L];unfold Xh;rw[H];dsimp only;rw[O];dsimp only;rw[gD];dsimp only;have gF:=W1 (i:=0) (n:=z*j) w4 w6 w5 J;rw[show Nat.mul z j=z*j from rfl,show 0*j=0 from Mn _,gF];dsimp only[Z6];have Q:=Ku z n j;have gT:l.take (z*j)=l:=Kf J;refine n9 B ((w7.take _).append T) (by rw[J7,Me,U];show min (z*j) l.length+n*j=(z+n)*j;omega) (λr e=>An) ?_;rw[gT];exact h2
    case isTrue gg =>
     obtain⟨h1,h2⟩:=h;have gK:=(B.obj p _ _ _ V e).1;have Q:(len+n)*Y=len*Y+n*Y:=Ku _ _ _;rcases Z J with ⟨I,L⟩|⟨o,v,z,j,D,A,I,L,r9⟩
     ·subst I;rcases L with rfl|⟨_,r5⟩
      ·unfold Xh;rw[H];dsimp only[Z6];refine n9 B T U (λr e=>An) ?_;simpa using h2
      ·exact absurd rfl r5
     ·have e2:=e;rw[I]at e2;obtain⟨_,w1,w2,w3,t,E,l',w4,w5,w6,w7,_⟩:=ai B V e2;subst w2 w3;rw[L];have hw:Wn G (.dptr p k (len*j)) F (λG'=>K (.vw p k 0 (len+n)) G'):=by
       unfold Wn;dsimp only;rw[V];exact⟨gB,by rw[U,←Q];exact gg,h1⟩
      obtain⟨o2,v2,i2,H',c',G',u1,u2,u3,u4,u5,u6⟩:=z9s B (a:=.ptr o v (len*j)) (.dptr e hk (λ_=>⟨rfl,_,j,D,I⟩)) T hw;cases u1;have gA:(∀r,A=some r→len+n≤r)→Tf P c G K (.val (.sl o v (0*j) (len+n) j A) H'):=λhr=>by
       refine⟨c',.vw p k 0 (len+n),G',u3,u4,u5,AR.mono u5.le (.vw e hk (λ_=>.inr ⟨o,v,_,j,D,A,I,rfl,hr⟩) rfl (λq=>by have:=hz q;rw[L]at this;exact this)),u6⟩
      have O:(Nat.beq j j&&Nat.ble len Ry)=true:=Fw
      have gM:Nat.add (0*j) (Nat.mul len j)=len*j:=by show 0*j+len*j=_;omega
      have gU:len*j≤z*j:=by rw[←w1];omega
      unfold Xh;rw[H];dsimp only;rw[O];dsimp only;cases A with
      |some r =>
       dsimp only;cases X:Nat.ble (Nat.add len n) r with
       |true =>
        dsimp only;rw[gM,u2];exact gA (λr' e'=>by cases e';exact Kd X)
       |false =>
        dsimp only;have hr:=W1 (i:=0) (n:=len*j) w4 w6 w5 J;rw[show Nat.mul len j=len*j from rfl,show 0*j=0 from Mn _,hr];dsimp only[Z6];refine n9 B ((w7.take _).append T) Eb (λr e=>An) h2
      |none =>
       dsimp only;rw[w4];dsimp only;rw[K0,gM];have X:Nat.ble (Nat.add (0*j) (Nat.mul (Nat.add len n) j)) E=true:=Ka (by show 0*j+(len+n)*j≤E;omega);rw[X];dsimp only;rw[u2];exact gA (λr' e'=>by cases e')
  ·exact h.elim
 ·rename_i p k len;split at h
  ·rename_i l gG Y gO st V;obtain⟨gB,⟨rfl,gR⟩,C,gX,h⟩:=h;have H:Nat.beq n 0=false:=by
    cases X:Nat.beq n 0 with
    |false=>rfl
    |true=>have:=Kc X;omega
   cases ha with
   | @vf _ _ _ k' hh _ e hk Z gH =>
    have gK:=(B.obj p _ _ _ V e).1;obtain⟨o,v,z,j,D,I,L⟩:=Z J;have e2:=e;rw[I]at e2;obtain⟨_,w1,w2,w3,t,E,l',w4,w5,w6,w7,_⟩:=ai B V e2;subst w2 w3;have O:(Nat.beq j j&&Nat.ble len Ry)=true:=Fw
    have gD:Nat.ble (Nat.add len n) len=false:=by
     cases hq:Nat.ble (Nat.add len n) len with
     |false=>rfl
     |true=>have:len+n≤len:=Kd hq;omega
    rw[L];unfold Xh;rw[H];dsimp only;rw[O];dsimp only;rw[gD];dsimp only;have gF:=W1 (i:=0) (n:=len*j) w4 w6 w5 J;rw[show Nat.mul len j=len*j from rfl,gF];dsimp only[Z6];have Q:=Ku len n j;refine n9 B ((w7.take _).append T) Eb (λr e=>An) h
  ·exact h.elim
 ·exact h.elim
end res
end
section
section res
variable {P : Program} {c : Cx} {G : Ok} {K : LV → Ok → Prop}
def cy{v:LV}{a:AV}(g:v.scal=true)(h:AR c v a):a=toA v:=by
 cases v<;>first|(cases g;done)|(cases h;rfl)
def toAs_scal:∀{l:List LV} {r:List AV},l.all LV.scal=true→ARs c l r→r=toAs l
 |[],_,_,.nil=>rfl
 |v::l,_,h,.cons e g=>by
  simp only[Mf,Jz]at h;rw[toAs,←cy h.1 e,←toAs_scal h.2 g]
def mr{op:BinOp}{C:Bool}{t:TypeId}{x y:LV}{a b:AV}{K:LV→Prop}(z:AR c x a)(A:AR c y b)(h:U9 P op C t x y K):Sz c K (Qv P op C t a b):=by
 unfold U9 at h;split at h
 ·cases z;cases A;exact yk h
 ·cases z;cases A;exact iiL_ok h
 ·cases z;cases A;exact yd h
 ·rename_i u v;cases z;cases A;cases op<;>try exact h.elim
  ·simp only[Qv];rw[h.1];exact .mk (.bool _) h.2
  ·simp only[Qv];rw[h.1];exact .mk (.bool _) h.2
 ·rename_i u s;cases z;cases A;cases op<;>try exact h.elim
  ·obtain⟨g,j⟩:=h;obtain⟨n,rfl⟩:=J3 g;exact .mk (.u' (td u n)) j
  ·obtain⟨g,j⟩:=h;obtain⟨n,rfl⟩:=J3 g;exact .mk (.u' (vh u n)) j
 ·rename_i u s;cases z;cases A;cases op<;>try exact h.elim
  ·obtain⟨g,j,H,D⟩:=h;rw[(zj3 (s:=Int.ofNat s.toNat) g (Lj _) (by show (s.toNat:Int)≤64;omega)).1];exact .mk (.i' (Yz H)) D
  ·obtain⟨g,j,D⟩:=h;rw[(zj3 (s:=Int.ofNat s.toNat) g (Lj _) (by show (s.toNat:Int)≤64;omega)).2];exact .mk (.i _) D
 ·obtain⟨rfl,h⟩:=h;cases z;cases A;exact zd h
 ·cases z;cases A;exact xl h
 ·cases z;cases A;exact zog Ct h
 ·cases z;cases A;have:∀o v i,Tg P C t (.ptr o v i) .nilPtr=Tg P C t (.ptr 0 0 0) .nilPtr:=λo v i=>by
   unfold Tg zis eqT ar;dsimp only;cases P.underlying t with
   |none=>rfl
   |some d=>cases d<;>rfl
  refine zog (r:=false) Ct ?_;cases op<;>simp only[Za]at h ⊢<;>(rw[this];exact h)
 ·cases z;cases A;exact zog Ct h
 ·cases A;obtain⟨g,j⟩:=h;have E:Tg P C t .emp .nilSl=some false∧∀o v i len I F,Tg P C t (.sl o v i len I F) .nilSl=some false:=by
   unfold Tg zis eqT ar at g ⊢;dsimp only at g ⊢;cases hu:P.underlying t with
   |none=>rw[hu]at g;cases g
   |some d=>rw[hu]at g;cases d<;>first|(cases g;done)|exact⟨rfl,λ_ _ _ _ _ _=>rfl⟩
  have B:∀{a:AV} {b:Bool},Tg P C t a .nilSl=some b→(Qv P op C t a .nilSl=match op with | .eql=>yesB (Tg P C t a .nilSl) | .neq=>zb (Tg P C t a .nilSl)|_=>none)→(match op with | .eql=>K (.bool b) | .neq=>K (.bool !b)|_=>False)→Sz c K (Qv P op C t a .nilSl):=by
   intro a b H D O;rw[D,H];cases op<;>first|exact O.elim|exact .mk (.bool _) O
  cases z with
  |lst T R Q U V =>
   refine B (E.2 _ _ _ _ _ _) Ct ?_;cases op<;>first|exact j.elim|exact j.1
  |lstNil =>
   refine B g Ct ?_;cases op<;>first|exact j.elim|exact j.2 rfl
  |lstEmp =>
   refine B E.1 Ct ?_;cases op<;>first|exact j.elim|exact j.1
 ·cases z with
  |agg g=>cases A with
   |agg j =>
    cases op<;>try exact h.elim
    ·obtain⟨b,L,M,e,k⟩:=h;rw[toAs_scal L g,toAs_scal M j];simp only[Qv];rw[e];exact .mk (.bool _) k
    ·obtain⟨b,L,M,e,k⟩:=h;rw[toAs_scal L g,toAs_scal M j];simp only[Qv];rw[e];exact .mk (.bool _) k
 ·exact h.elim
def unL_ok{op:UnOp}{x:LV}{a:AV}{K:LV→Prop}(g:AR c x a)(h:unL op x K):Sz c K (unA op a):=by
 unfold unL at h;simp only[Yo,zur]at h;split at h
 ·cases g;exact .mk (.bool _) h
 ·cases g;refine .mk (.u' ?_) h;rename_i u;rw[Y2,Nt];show (0-Int.ofNat u.toNat)%_=((2^64-u.toNat+(0:UInt64).toNat)%2^64:Nat);have:=u.toNat_lt;simp only[Kq,UInt64.toNat_zero];omega
 ·cases g;obtain⟨j,z⟩:=h;refine .mk (.i' ?_) z;have e:∀n:Int,Int.sub 0 n=-n:=λn=>by show 0-n=-n;omega
  rw[e];exact Yz j
 ·cases g;refine .mk (.u' ?_) h;rename_i u;have hu:=u.toNat_lt;show IntKind.wrap .u64 (BitVec.ofInt 64 (IntKind.max .u64) ^^^ BitVec.ofInt 64 (Int.ofNat u.toNat)).toNat=_;have A:BitVec.ofInt 64 (IntKind.max .u64)=BitVec.allOnes 64:=Ac
  have B:BitVec.ofInt 64 (Int.ofNat u.toNat)=u.toBitVec:=by
   apply BitVec.eq_of_toNat_eq;simp
  rw[A,B,BitVec.allOnes_xor];show ((~~~u.toBitVec).toNat:Int)%18446744073709551616=Int.ofNat (~~~u).toNat;have:(~~~u).toNat=(~~~u.toBitVec).toNat:=rfl;rw[this];exact L8 (Lj _) (by have:=(~~~u.toBitVec).isLt;omega)
 ·exact h.elim
def ztg(n:Int):n%18446744073709551616=Int.ofNat (UInt64.ofInt n).toNat:=by
 unfold UInt64.ofInt;rw[L3];simp only[Kq];omega
def zpd(n:Int):n%256=Int.ofNat (UInt8.ofInt n).toNat:=by
 unfold UInt8.ofInt;rw[UInt8.toNat_ofNat'];simp only[Kq];omega
def yn{k:IntKind}{x:LV}{a:AV}{K:LV→Prop}(g:AR c x a)(h:en k x K):∃k' n,a=.int k' n∧∃v,AR c v (.int k (V7 k n))∧K v:=by
 unfold en at h;simp only[vk,bU_eq,zs2,iB_eq]at h;split at h
 ·cases g;rename_i u;refine⟨_,_,rfl,_,.u' ?_,h⟩;rw[Y2];exact L8 (Lj _) Gy
 ·cases g;refine⟨_,_,rfl,_,.u' ?_,h⟩;rename_i n;rw[Y2];exact ztg n
 ·cases g;rename_i u;refine⟨_,_,rfl,_,.u' ?_,h⟩;rw[Y2];have:=u.toNat_lt;rw[L3];show Int.ofNat u.toNat%18446744073709551616=Int.ofNat (u.toNat%2^64);simp only[Kq];omega
 ·cases g;rename_i u;exact⟨_,_,rfl,_,.i' (Yz ⟨Cl,Cl⟩),h.2⟩
 ·cases g;exact⟨_,_,rfl,_,.i' (Yz h.1),h.2⟩
 ·cases g;rename_i u;have:=u.toNat_lt;exact⟨_,_,rfl,_,.i' (Yz ⟨Cl,Cl⟩),h⟩
 ·cases g;rename_i u;refine⟨_,_,rfl,_,.b' ?_,h⟩;rw[ux,UInt8.toNat_ofNat'];show Int.ofNat u.toNat%256=Int.ofNat (u.toNat%2^8);simp only[Kq];omega
 ·cases g;refine⟨_,_,rfl,_,.b' ?_,h⟩;rename_i n;rw[ux];exact zpd n
 ·cases g;rename_i u;refine⟨_,_,rfl,_,.b' ?_,h⟩;rw[ux];exact L8 (Lj _) Gy
 ·cases g;refine⟨_,_,rfl,_,.b' ?_,h⟩;rename_i n;rw[ux];exact zpd n
 ·cases g;refine⟨_,_,rfl,_,?_,h⟩;rename_i n;have e:V7 .i32 n=w32 n:=by
   rw[Zx];show (if (true&&decide (n%4294967296 ≥ 2147483648))=true then n%4294967296-4294967296 else n%4294967296)=w32 n;simp only[Nv,Kb,w32];split<;>omega
  rw[e];exact .int .i32 _
 ·cases g;exact⟨_,_,rfl,_,.i' (Yz h.1),h.2⟩
 ·exact h.elim
def layL_eq:∀(r l:List AV) (i:Nat),i+r.length≤l.length→Vd l i r=eq l i r
 |[],l,i,h=>by
  simp only[Vd,eq,Mb,M8,Lf,List.take_append_drop]
 |a::r,l,i,h=>by
  simp only[Kn]at h;rw[Vd,layL_eq r (l.set i a) (i+1) Ab];refine List.ext_getElem? (λg=>?_);rw[zfn Ab,zfn Ab];simp only[Kn];by_cases j:i+1≤g∧g<i+1+r.length
  ·rw[J8 j,J8 J,show g-i=(g-(i+1))+1 from J,Kh]
  ·rw[J2 j];by_cases z:g=i
   ·subst z;rw[J8 J,J1 J];simp
   ·rw[J2 J,Jy (Ne.symm z)]
def zja{Y:Om}{Z:Tr AV}(F:Pt c Y Z):∀{B:List (Nat×Nat×Lx)} {C l:List LV} {g:List AV},B.all (·.2.2.ok)=true→ARs c C g→rq Y C B=some l→∃D,fillR (ρA Z) g (rps B)=some D∧ARs c l D
 |[],C,l,g,_,h,e=>by
  simp only[rq,Option.some.injEq]at e;subst e;exact⟨g,rfl,h⟩
 |(z,j,x)::B,C,l,g,A,h,e=>by
  simp only[Mf,Jz]at A;simp only[rq]at e;split at e
  ·cases e
  ·rename_i r I;split at e
   ·rename_i L;obtain⟨M,h2⟩:=L;obtain⟨O,Q,H⟩:=(P5 F A.1).cells I;have E:=H.length;have R:=h.length;obtain⟨D,T,U⟩:=zja F A.2 (h.lay H z) e;refine⟨D,?_,U⟩;simp only[rps,fillR,Q];have V:Nat.beq O.length j=true:=by rw[←E,M];exact K0 _
    have X:Nat.ble (Nat.add z j) g.length=true:=Ka (by show z+j≤_;omega);simp only[V,X];rw[layL_eq _ _ _ J];exact T
   ·cases e
def Wg{D:Om}(A:Pt c D O){d:Nat}{x:Option Lx}(j:ko x=true){K:Nat→Prop}(h:Qp D d x K):∃r n,Qz (ρA O) (x.map Lx.r)=some r∧r.getD d=n∧K n:=by
 cases x with
 |none=>exact⟨none,d,rfl,rfl,h⟩
 |some x =>
  simp only[Qp]at h;have g:=P5 A (show x.ok=true from j);simp only[L6,Qz];split at h
  ·rename_i n z;obtain⟨B,C⟩:=h;rw[z]at g;generalize x.r.ev (ρA O)=a at g;cases g;obtain⟨m,rfl⟩:=J3 B;exact⟨some m,m,rfl,rfl,C⟩
  ·rename_i n z;rw[z]at g;generalize x.r.ev (ρA O)=a at g;cases g;exact⟨some n.toNat,n.toNat,rfl,rfl,h⟩
  ·exact h.elim
end res
end
section
section res
variable {P : Program} {c : Cx} {G : Ok} {K : LV → Ok → Prop}
def zwr{d:TypeDesc}{k:LV}{a:AV}{b:Bool}(g:AR c k a)(j:AR c Q E)(h:Xn d k Q=some b):og d a E=some b:=by
 unfold Xn at h;split at h
 ·cases g;cases j;cases h;simp only[og,show Yw .i64 .i64=true from rfl,jq]
 ·cases g;cases j;cases h;simp only[og,show Yw .u64 .u64=true from rfl,jq,zje]
 ·cases g;cases j;cases h;simp only[og,zwq]
 ·cases h
def zq5{d:TypeDesc}{k:LV}{a:AV}(A:AR c k a){K:Option LV→Prop}:∀{B:List (LV×LV×Nat)} {g:List (AV×AV×Nat)},MRs c B g→oy d k K B→(uy d a g=some none∧K none)∨∃v b,uy d a g=some (some b)∧AR c v b∧K (some v)
 |_,_,.nil,h=>.inl ⟨rfl,h⟩
 |(F,C,n)::l,_,.cons j z D,h=>by
  simp only[oy]at h;split at h
  ·rename_i b E;have:=zwr A j E;simp only[uy,this];cases b with
   |true=>exact .inr ⟨C,_,rfl,z,h.1 rfl⟩
   |false=>exact zq5 A D (h.2 rfl)
  ·exact h.elim
def ztw{d:TypeDesc}{k v:LV}{a b:AV}{E:Nat}(A:AR c k a)(B:AR c v b):∀{F:List (LV×LV×Nat)} {j:List (AV×AV×Nat)} {K:List (LV×LV×Nat)→Bool→Prop},MRs c F j→Wo d k v E K F→∃r C g,u7 d a b E j=some (C,g)∧MRs c r C∧K r g
 |_,_,K,.nil,h=>⟨_,_,true,rfl,.cons A B .nil,h⟩
 |(I,L,n)::l,_,K,.cons z D H,h=>by
  simp only[Wo]at h;split at h
  ·rename_i t M;have:=zwr A z M;simp only[u7,this];cases t with
   |true=>exact⟨_,_,false,rfl,.cons A B H,h.1 rfl⟩
   |false =>
    obtain⟨r,C,g,O,Q,R⟩:=ztw (K:=λr g=>K ((I,L,n)::r) g) A B H (h.2 rfl);exact⟨_,_,g,by rw[O],.cons z D Q,R⟩
  ·exact h.elim
def zu1(C:HSim c G){x:LV}{a:AV}(A:AR c x a){K:List (LV×LV×Nat)→Prop}(h:Xz G x K):∃j g,ztz c.H a=some g∧MRs c j g∧K j∧(a=.nilMap∧g=[]∨∃o z,a=.map o∧c.H.get o=some (.map g z)):=by
 unfold Xz at h;split at h
 ·cases A;exact⟨[],[],rfl,.nil,h,.inl ⟨rfl,rfl⟩⟩
 ·rename_i p;split at h
  ·rename_i j z st D;cases A with
   | @map _ o e =>
    obtain⟨_,F,g,he,B,E⟩:=C.obj p _ _ _ D e;injection he with he
    subst he;refine⟨j,g,?_,E,h,.inr ⟨o,z,rfl,B⟩⟩;simp only[ztz,B]
  ·exact h.elim
 ·exact h.elim
def zg4(g:HSim c G)(k:K (.map G.length) (G++[.map [] 0 0])):Tf P c G K (Y1 c.H):=by
 unfold Y1;obtain⟨j,z,_⟩:=g.push (H':=c.H.push (.map [] 0)) (x:=.map c.H.next) (ob:=.map [] 0 0) (by show c.H.next≤c.H.next+1;omega) (λo A=>Heap.get_push_ne _ _ A) (λo e=>by cases e;exact⟨J4 _,by show c.H.next<c.H.next+1;omega⟩)
  ⟨rfl,c.H.next,[],rfl,Heap.get_push_same _ _,.nil⟩
 exact⟨_,.map G.length,_,rfl,j,z,.map (by rw[←g.len];exact Ke),k⟩
def ztv(B:HSim c G){d:TypeDesc}{m k v:LV}{M:AV}(hm:AR c m E)(T:AR c k vz)(U:AR c v M)(h:wj G d m k v λV=>K .any V) :
  Tf P c G K (match (generalizing:=false) E with
   |.map o=>match c.H.get o with
    |some (.map O g)=>match u7 d vz M g O with
     |some (z,true)=>.val Tc (c.H.put o (.map z (Nat.add g 1)))
     |some (z,false)=>.val Tc (c.H.put o (.map z g))
     |none=>.no
    |_=>.no
   |_=>.no):=by
 unfold wj at h;split at h
 ·rename_i p;split at h
  ·rename_i O ck st C;cases hm with
   | @map _ o e =>
    obtain⟨_,Q,z,he,X,Y⟩:=B.obj p _ _ _ C e;injection he with he
    subst he;obtain⟨r,D,F,Z,q2,R⟩:=ztw T U Y h;have H:o<c.H.next:=B.lt o ⟨p,_,_,_,C,rfl,e,rfl⟩;have A:∀j,K .any (G.set p (.map r j (st+1)))→Tf P c G K (.val Tc (c.H.put o (.map D j))):=by
     intro j kk;obtain⟨u1,u2,u3⟩:=B.upd (k':=0) (x':=.map o) (ob':=.map r j (st+1)) (H':=c.H.put o (.map D j)) C rfl e (J4 _) (λQ _ I=>Heap.get_put_ne _ _ (λq=>I Ga)) (λQ e'=>by cases e';exact⟨.inl rfl,H⟩) (J4 _) (λ_=>rfl) (λ_=>rfl) (.inl (K7 _))
      (λL=>⟨rfl,o,D,rfl,Heap.get_put_same _ _ _,q2.mono L⟩)
     exact⟨_,.any,_,rfl,u1,u2,.any _,kk⟩
    simp only[X,Z];cases F with
    |true=>exact A _ R
    |false=>exact A _ R
  ·exact h.elim
 ·exact h.elim
def HSim.freeze(hs:HSim c G){p k o st:Nat}{x:AV}{ob:LObj}(hG:G[p]?=some ob)(hl:ob.live=true)(gD:ob.st<st)(hp:c.hd[p]?=some (k,x))(ho:Pg x=some o) :
  HSim ⟨c.hd,λq=>c.Fz q∨q=o,c.H⟩ (G.set p (.dead st))∧Step c G ⟨c.hd,λq=>c.Fz q∨q=o,c.H⟩ (G.set p (.dead st)):=by
 have gF:p<G.length:=(Jx.1 hG).1;have hle:CxLe c ⟨c.hd,λq=>c.Fz q∨q=o,c.H⟩:=⟨λp k h e=>⟨k,h,e,J4 _,λ_=>rfl,λ_=>rfl⟩,λq hq=>⟨.inl hq,rfl⟩⟩;have gB:Qq c G o:=⟨p,ob,k,x,hG,hl,hp,ho⟩;have hinv:∀{q:Nat} {gg:LObj},(G.set p (.dead st))[q]?=some gg→(q=p∧gg=.dead st)∨(q≠p∧G[q]?=some gg):=by
  intro q gg e;by_cases hq:q=p
  ·subst hq;rw[J1 gF]at e;cases e;exact .inl ⟨rfl,rfl⟩
  ·rw[Jy (Ne.symm hq)]at e;exact .inr ⟨hq,e⟩
 have gA:∀q,Qq ⟨c.hd,λq=>c.Fz q∨q=o,c.H⟩ (G.set p (.dead st)) q→Qq c G q∧q≠o:=by
  rintro q ⟨p1,gg,k1,h1,e1,e2,e3,e4⟩;rcases hinv e1 with ⟨_,rfl⟩|⟨gG,e1⟩
  ·cases e2
  ·refine⟨⟨p1,gg,k1,h1,e1,e2,e3,e4⟩,λhq=>gG ?_⟩;subst hq;exact hs.excl p1 p gg ob k1 h1 k x q e1 hG e2 hl e3 hp e4 ho
 refine⟨⟨Gx,λq hq=>hq.elim (hs.fz q) (λe=>by rw[e];exact hs.lt o gB),λq hq=>hs.lt q (gA q hq).1,λq hq hf=>hf.elim (hs.sep q (gA q hq).1) (gA q hq).2,λq gg k1 h1 e1 e2=>?_,?_⟩,⟨hle,J4 _,λ_ _ _=>rfl,λq hq=>.inl (gA q hq).1,λq hq=>hq.elim .inl (λe=>.inr (.inl (by rw[e];exact gB))),λq gg gC e1 e2=>?_,λq gg gC k1 h1 o1 e1 e2 e3 e4 e5 e6=>?_⟩⟩
 ·rcases hinv e1 with ⟨_,rfl⟩|⟨_,e1⟩
  ·trivial
  ·by_cases gH:gg.live=true
   ·exact (hs.obj q gg k1 h1 e1 e2).mono hle (λ_ _=>rfl)
   ·cases gg<;>first|exact absurd rfl gH|trivial
 ·intro q r gg gC k1 h1 k2 h2 o1 e1 e2 e3 e4 e5 e6 e7 e8;rcases hinv e1 with ⟨_,rfl⟩|⟨_,e1⟩
  ·cases e3
  ·rcases hinv e2 with ⟨_,rfl⟩|⟨_,e2⟩
   ·cases e4
   ·exact hs.excl q r gg gC k1 h1 k2 h2 o1 e1 e2 e3 e4 e5 e6 e7 e8
 ·rcases hinv e2 with ⟨rfl,rfl⟩|⟨_,e2⟩
  ·rw[hG]at e1;cases e1;exact N6 gD
  ·rw[e1]at e2;cases e2;exact J4 _
 ·rcases hinv e2 with ⟨rfl,rfl⟩|⟨_,e2⟩
  ·rw[hG]at e1;cases e1;have:ob.st=st:=e6;omega
  ·rw[e1]at e2;cases e2;exact⟨rfl,rfl,rfl⟩
end res
end
end Go.Sv
